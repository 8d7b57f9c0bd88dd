/- Plain: slices.SortFunc and slices.SortStableFunc at few elements: two insertion sorts that go side by side. -/
import Derived.Test.YtmdllhcjefcggacGreatDoorMfZm
namespace Go.Proofs.YtmdllhcjefcggacGreatDoor
set_option linter.unusedVariables false
set_option maxRecDepth 20000
noncomputable def z88 (s:Bs):Option Bool:=
 forL (fun (k:Nat) (x:Bs) (_:Unit)=>y1o k x) (fun (_:Unit)=>y1p s (Lib.cut s [58])) 0 (spl 46 (Lib.cut s [58]).1) ()
noncomputable def y2v (k:Nat) (x:Bs):Option (Unit ⊕ (Bs×Int)):=
 (kr (x.length:Int) 1 63).bind fun r33=>if !r33 then (Qe true) else ((uy x [97,98,99,100,101,102,103,104,105,106,107,108,109,110,111,112,113,114,115,116,117,118,119,120,121,122,65,66,67,68,69,70,71,72,73,74,75,76,77,78,79,80,81,82,83,84,85,86,87,88,89,90,48,49,50,51,52,53,54,55,56,57,45]).bind fun r37=>if !r37 then (Qe true) else (Qe (decide (trL 45 (trR 45 x)≠x))))
theorem w28 (k:Nat) (x:Bs) (h:x.length≤1000000000):z5t k x=y2v k x:=by
 unfold z5t y2v
 rw [y0p 45 (by decide) x h]
 rfl
noncomputable def z5h (r2:(Bs×Bs×Bool)) (r4:(Int×Bool)) (v17:Bool):Option (Bs×Int):=
 if v17 then (some ([],3)) else (if (spl 46 r2.1).length≤1000000000 then forL (fun (k:Nat) (x:Bs) (_:Unit)=>y2v k x) (fun (_:Unit)=>z5u r2 r4) 0 (spl 46 r2.1) () else none)
theorem w29 (r2:(Bs×Bs×Bool)) (r4:(Int×Bool)) (v:Bool) (h:r2.1.length≤100000):Qf r2 r4 v=z5h r2 r4 v:=by
 unfold Qf z5h jk
 cases v
 case true=>rfl
 simp only [Bool.false_eq_true,if_false]
 rw [if_pos (c:=r2.1.length≤1000000000∧_) ⟨by omega,by simp⟩,z3e]
 simp only [Option.bind_some]
 have:forL (fun (k:Nat) (x:Bs) (_:Unit)=>z5t k x) (fun (_:Unit)=>z5u r2 r4) 0 (spl 46 r2.1) ()=forL (fun (k:Nat) (x:Bs) (_:Unit)=>y2v k x) (fun (_:Unit)=>z5u r2 r4) 0 (spl 46 r2.1) ():=by
  refine y68 (fun _=>rfl) _ 0 () fun j x s _ hj => ?_
  have:=Qr 46 r2.1 x (List.mem_of_getElem? hj)
  exact w28 j x (by omega)
 rw [this]
noncomputable def y2u (v1:Bs):Option (Bs×Int):=
 (Wm (Lib.cut v1 [58]).2.1 5).bind fun r4=>if decide (255 < (v1.length:Int)) then (z5h (Lib.cut v1 [58]) r4 true) else (if (Lib.cut v1 [58]).2.2 then (if !r4.2 then (z5h (Lib.cut v1 [58]) r4 true) else ((kr r4.1 1 65535).bind fun r12=>z5h (Lib.cut v1 [58]) r4 (!r12))) else (z5h (Lib.cut v1 [58]) r4 false))
theorem x4f (s:Bs) (c:UInt8):(Lib.cut s [c]).1.length≤s.length:=by
 unfold Lib.cut
 split
 ·simp; omega
 ·exact Nat.le_refl _
theorem y6p (s:Bs) (h:s.length≤100000):z1a s=z88 s:=by
 have h1:=x4f s 58
 have h2:=z3f 46 (Lib.cut s [58]).1
 unfold z1a z88 uh jk
 rw [if_pos (by omega)]
 simp only [Option.bind_some]
 rw [if_pos ⟨by omega,by simp⟩,z3e]
 simp only [Option.bind_some]
 rw [if_pos (by omega)]
theorem x20 (s:Bs) (h:s.length≤100000):Wn s=y2u s:=by
 have h1:=x4f s 58
 unfold Wn y2u uh
 rw [if_pos (by omega)]
 simp only [Option.bind_some]
 congr 1
 funext r4
 simp only [w29 _ _ _ (show (Lib.cut s [58]).1.length≤100000 by omega)]
def ke:List Bs:=[[65,46,66,58,56,48],[99,46,100],[97,46,98],[65,46,66],[97,46,98,58,56,48],[99,46,100,58,56,48,56,48],[115,104,111,112,46,101,120,97,109,112,108,101],[97,46,98,58,52,52,51],[97,46,98,58,56,48,56,48],[120,45,49,46,121],[49,46,50,46,51,46,52],[],[97,46,46,98],[45,97,46,98],[97,46,98,58,48],[97,46,98,58,48,56],[97,46,98,58,54,53,53,51,54],[97,95,98],[97,46,98,58],[97,32,98],List.replicate 64 97]
noncomputable def x28 (s:Bs):Bool:=match z88 s,y2u s with
 | some b,some r=>r.2 == (if b then 0 else 3)
 | _,_=>false
theorem w23:ke.all x28=true:=by decide +kernel
theorem y6w:ke.all (fun s=>decide (s.length≤1000))=true:=by decide +kernel
theorem y6x {s:Bs} (h:s∈ke):∃ b r,z1a s=some b∧Wn s=some r∧r.2=if b then 0 else 3:=by
 have h1:=List.all_eq_true.1 w23 s h
 have h2:=of_decide_eq_true (List.all_eq_true.1 y6w s h)
 rw [y6p s (by omega),x20 s (by omega)]
 unfold x28 at h1
 split at h1
 ·rename_i b r e1 e2
  exact ⟨b,r,e1,e2,by simpa using h1⟩
 ·cases h1
theorem w35 (c:UInt8):(encL (IntKind.wrap .i32 (c.toNat:Int))).length≤4:=by
 have:=je (fun c=>decide ((encL (IntKind.wrap .i32 (c.toNat:Int))).length≤4)) (by decide +kernel) c
 exact of_decide_eq_true this
theorem z3a (l:Bs) (a b:Int) (h:0≤a∧a≤b∧b≤(l.length:Int)):Ok (sub? l a b) fun r=>(r.length:Int)=b - a:=by
 unfold sub?
 rw [if_pos h]
 exact qg (by simp; omega)
theorem w4q {k:Int} {s:zr} (h:SB k s) (hk:k≤1000000) (t v:Bs) (ht:t.length≤100000) (hv:v.length≤100000) :
  Ok (z8m s t v) fun r=>r.1.length≤t.length+v.length+4∧SB (k+3) r.2:=by
 unfold z8m
 refine wh (fun _=>qg ⟨by simp only; omega,h.mono (by omega)⟩) (fun h0 => ?_)
 simp only [Bool.or_eq_true,decide_eq_true_eq,not_or] at h0
 have ht0:0 < t.length:=by cases hq:t with | nil=>exact absurd hq h0.1 | cons _ _=>simp
 have hv0:0 < v.length:=by cases hq:v with | nil=>exact absurd hq h0.2 | cons _ _=>simp
 refine yf (Zn h (by omega) _ (by omega)) fun r5 h5=>yf (Zn h5.2 (by omega) _ (by omega)) fun r7 h7 => ?_
 have b5:=h5.1.2.1 (by omega)
 have b7:=h7.1.2.1 (by omega)
 have c5:=h5.1.1
 have c7:=h7.1.1
 have hat:Ok (at? v r7.1) fun _=>True:=by
  unfold at?
  rw [if_pos c7,List.getElem?_eq_getElem (by omega)]
  exact ⟨_,rfl,trivial⟩
 refine yf hat fun x9 _=>yf (Zn h7.2 (by omega) 3 (by omega)) fun r11 h11 => ?_
 have he:=w35 x9
 have hw:wr (r5.1+1)=r5.1+1:=wa (by omega)
 have hS:SB (k+3) r11.2:=h11.2.mono (by omega)
 rw [hw]
 refine wh (fun _ => ?_) (fun _=>wh (fun _ => ?_) (fun _ => ?_))
 ·refine yf (z3a t _ _ ⟨by omega,by omega,by omega⟩) fun l14 h14=>ok_g (by omega) (yf (z3a t _ _ ⟨by omega,by omega,by omega⟩) fun l17 h17=>ok_g (by simp; omega) (qg ⟨by simp; omega,hS⟩))
 ·refine yf (z3a t _ _ ⟨by omega,by omega,by omega⟩) fun l14 h14=>ok_g (by omega) (yf (z3a t _ _ ⟨by omega,by omega,by omega⟩) fun l17 h17=>ok_g (by simp; omega) (qg ⟨by simp; omega,hS⟩))
 ·refine yf (z3a t _ _ ⟨by omega,by omega,by omega⟩) fun l14 h14=>yf (z3a t _ _ ⟨by omega,by omega,by omega⟩) fun l17 h17=>ok_g (by omega) (qg ⟨by simp; omega,hS⟩)
theorem w5h {k:Int} {s:zr} (h:SB k s) (hk:k≤1000):Ok (z1i s) fun r=>r.1.length≤30000∧SB (k+200) r.2:=by
 unfold z1i z16
 refine yf (z0q h (by omega) 0 4 (by omega)) fun r hr => ?_
 obtain ⟨m,hm⟩:∃ m:Nat,r.1=(m:Int):=⟨r.1.toNat,by omega⟩
 rw [hm]
 refine yf (y3z hr.2 (by omega) m (by omega) [38] (by simp) _ ⟨by simp,by simp⟩ (by decide)) fun r2 h2=>yf (ji h2.2 (by omega) 12 (by omega)) fun r3 h3=>wh (fun _ => ?_) (fun _=>qg ⟨h2.1,?_⟩)
 ·refine yf (y3z h3 (by omega) 101 (by omega) [38] (by simp) [[120]] ⟨by simp,by simp⟩ (by decide)) fun r4 h4=>yf (xx h4.2 (by omega) _ ⟨by simp,by simp⟩) fun r5 h5=>qg ⟨?_,?_⟩
  ·have hm:=h5.1
   simp only [List.mem_cons,List.not_mem_nil,or_false] at hm
   rcases hm with e | e | e | e | e | e <;> rw [e] <;> first | decide | exact h4.1
  ·exact h5.2.mono (by omega)
 ·exact h3.mono (by omega)
theorem xh {k:Int} {s:zr} (h:SB k s) (hk:k≤100000000) (B:Nat) (l:List Bs) (hl:l≠[]∧l.length≤1000) (hB:∀ x,x∈l→x.length≤B):Ok (vm s l) fun r=>r.1.length≤B∧SB (k+1) r.2:=
 x0y (xx h hk l hl) fun r hr=>⟨hB _ hr.1,hr.2⟩
theorem y49 (s:Bs) (n:Int) (h:0≤n∧n≤1000000∧s.length≤1000000):Ok (Qw s n) fun r=>r=Lib.repeatL s n.toNat:=by
 unfold Qw
 rw [if_pos h]
 exact qg rfl
theorem x9n {k:Int} {s:zr} (h:SB k s) (hk:k≤100000):Ok (z8j s) fun r=>r.1.length≤100000∧SB (k+30) r.2:=by
 have hJ:∀ (p:Bs) (c:List Int) (a:Int),p.length≤40000→SB (k+20) (zr.mk c a)→Ok (z17 p c a) fun r=>r.1.length≤100000∧SB (k+30) r.2:=by
  intro p c a hp hs
  unfold z17 z6a
  refine yf (ji hs (by omega) 12 (by omega)) fun r hr=>wh (fun _ => ?_) (fun _=>qg ⟨by simp only; omega,hr.mono (by omega)⟩)
  refine yf (w4q hr (by omega) p _ (by omega) (by simp)) fun r2 h2=>qg ⟨?_,h2.2.mono (by omega)⟩
  have:=h2.1
  simp only [List.length_cons,List.length_nil] at this
  simp only
  omega
 unfold z8j
 refine yf (z0q h (by omega) 0 4 (by omega)) fun r hr => ?_
 obtain ⟨m,hm⟩:∃ m:Nat,r.1=(m:Int):=⟨r.1.toNat,by omega⟩
 rw [hm]
 refine yf (y3z hr.2 (by omega) m (by omega) [47] (by simp) _ ⟨by simp,by simp⟩ (by decide)) fun r2 h2=>ok_g (by simp; omega) (yf (ji h2.2 (by omega) 12 (by omega)) fun r3 h3=>wh (fun _ => ?_) (fun _ => ?_))
 ·refine yf (y49 _ _ ⟨by omega,by omega,by simp⟩) fun r4 h4 => ?_
  have hl:r4.length=1020:=by rw [h4]; decide +kernel
  refine ok_g (by simp; omega) (yf (xh h3 (by omega) 2000 _ ⟨by simp,by simp⟩ (by simp [hl])) fun r5 h5 => ?_)
  exact hJ _ _ _ (by have:=h5.1; omega) (h5.2.mono (by omega))
 ·exact hJ _ _ _ (by have:=h2.1; simp; omega) (h3.mono (by omega))
def rqP (r:zw):Prop:=r.Method.length≤100000∧r.Host∈ke∧r.Path.length≤100000∧r.Query.length≤100000∧r.From.length≤100000∧hdsP r.Headers
theorem w26 {k:Int} {s:zr} (h:SB k s) (hk:k≤100000):Ok (z8k s) fun r=>r.1∈ke∧SB (k+1) r.2:=by
 unfold z8k
 refine yf (y49 _ _ ⟨by omega,by omega,by simp⟩) fun r4 h4 => ?_
 have hl:r4=List.replicate 64 97:=by rw [h4]; decide +kernel
 subst hl
 exact yf (xx h (by omega) _ ⟨by simp,by simp⟩) fun r5 h5=>qg ⟨(show ∀ x,x∈([[97,46,98],[97,46,98],[65,46,66],[115,104,111,112,46,101,120,97,109,112,108,101],[97,46,98,58,56,48],[97,46,98,58,52,52,51],[97,46,98,58,56,48,56,48],[120,45,49,46,121],[49,46,50,46,51,46,52],[],[97,46,46,98],[45,97,46,98],[97,46,98,58,48],[97,46,98,58,48,56],[97,46,98,58,54,53,53,51,54],[97,95,98],[97,46,98,58],[97,32,98],List.replicate 64 97]:List Bs)→x∈ke by decide +kernel) _ h5.1,h5.2⟩
abbrev lo (s:Bs):Bs:=Lib.toLowerA s
theorem y55 (x:UInt8):(Lib.lowerB x).toNat=if 65≤x.toNat∧x.toNat≤90 then x.toNat+32 else x.toNat:=by
 have:=je (fun x=>decide ((Lib.lowerB x).toNat=if 65≤x.toNat∧x.toNat≤90 then x.toNat+32 else x.toNat)) (by decide +kernel) x
 exact of_decide_eq_true this
theorem w3n (x y:UInt8):Lib.foldEq x y=decide (Lib.lowerB x=Lib.lowerB y):=by
 unfold Lib.foldEq
 refine decide_eq_decide.2 ?_
 rw [← UInt8.toNat_inj,y55,y55]
 split <;> split <;> omega
theorem x3y:∀ a b:Bs,Lib.equalFold a b=decide (lo a=lo b)
 | [],[]=>rfl
 | [],y::t=>by simp [Lib.equalFold,lo,Lib.toLowerA]
 | x::s,[]=>by simp [Lib.equalFold,lo,Lib.toLowerA]
 | x::s,y::t=>by
  have ih:=x3y s t
  show (Lib.foldEq x y && Lib.equalFold s t)=_
  rw [w3n,ih]
  unfold lo Lib.toLowerA
  simp only [List.map_cons,List.cons.injEq]
  by_cases h1:Lib.lowerB x=Lib.lowerB y <;> simp [h1]
theorem z64 {s:Bs} (h:tokB s=true):ascB s=true:=by
 unfold tokB at h
 simp only [Bool.and_eq_true] at h
 unfold ascB
 refine List.all_eq_true.2 fun c hc => ?_
 have h1:=List.all_eq_true.1 h.1 c hc
 have h2:=je (fun c => !tokL.contains c || decide (c.toNat < 128)) (by decide +kernel) c
 rw [h1] at h2
 simpa using h2
theorem y4c {s:Bs} (h:tokB s=true):s.length≤100:=by
 unfold tokB at h
 simp only [Bool.and_eq_true,decide_eq_true_eq] at h
 omega
def nmB (n:Bs) (h:zt):Bool:=decide (lo h.Name=lo n)
def nmOK (h:zt):Prop:=ascB h.Name=true∧h.Name.length≤100000
theorem x94 (h:zt) (n:Bs) (h1:nmOK h) (h2:ascB n=true):z74 h n=some (nmB n h):=by
 unfold z74 y1z
 rw [if_pos ⟨by have:=h1.2; omega,h1.1,h2⟩]
 simp only [Option.bind_some,x3y]
 rfl
theorem w49 (a b:Bs) (ha:ascB a=true∧a.length≤100000) (hb:ascB b=true∧b.length≤100000):z8e a b=some (decide (lo a=lo b)):=by
 unfold z8e jw
 rw [if_pos ⟨by omega,ha.1⟩]
 simp only [Option.bind_some]
 rw [if_pos ⟨by omega,hb.1⟩]
 rfl
theorem x29 {l:List zt} (h:hdsE l=0):∀ x,x∈l→tokB x.Name=true∧fldB x.Value=true:=by
 unfold hdsE at h
 split at h
 ·cases h
 ·have key:∀ (l:List zt) (k:Nat),feI (fun _ h=>hdE h) k l=0→∀ x,x∈l→hdE x=0:=by
   intro l
   induction l with
   | nil=>intro _ _ x hx; cases hx
   | cons y l ih =>
    intro k h x hx
    unfold feI at h
    split at h
    ·rename_i h1; exact absurd h h1
    ·rename_i h1
     rcases List.mem_cons.1 hx with rfl | hx
     ·exact Classical.byContradiction h1
     ·exact ih (k+1) h x hx
  intro x hx
  have h1:=key l 0 h x hx
  unfold hdE at h1
  cases ht:tokB x.Name
  ·rw [ht] at h1; cases h1
  ·cases hf:fldB x.Value
   ·rw [ht,hf] at h1; cases h1
   ·exact ⟨rfl,rfl⟩
theorem y2x {l:List zt} (h:hdsE l=0):l.length≤50:=by
 unfold hdsE at h
 split at h
 ·cases h
 ·omega
theorem x3s {s:Bs} (h:fldB s=true):s.length≤2000:=by
 unfold fldB at h
 simp only [Bool.and_eq_true,decide_eq_true_eq] at h
 omega
abbrev ddL:Bs:=[48,49,50,51,52,53,54,55,56,57]
def isD (c:UInt8):Bool:=ddL.contains c
def dv (c:UInt8):Nat:=c.toNat - 48
def dgD (n:Nat):UInt8:=UInt8.ofNat (48+n)
theorem z9r (u:Nat):Lib.decDigits u=if u < 10 then [dgD u] else Lib.decDigits (u / 10)++[dgD (u % 10)]:=by
 rw [Lib.decDigits]; rfl
theorem y3j (c:UInt8) (h:isD c=true):dgD (dv c)=c∧dv c < 10∧(dv c=0→c=48)∧48≤c.toNat∧c.toNat≤57:=by
 have:=je (fun c => !isD c || decide (dgD (dv c)=c∧dv c < 10∧(dv c=0→c=48)∧48≤c.toNat∧c.toNat≤57)) (by decide +kernel) c
 rw [h] at this
 exact of_decide_eq_true (by simpa only [Bool.not_true,Bool.false_or] using this)
theorem w4b (n:Nat) (h:n < 10):isD (dgD n)=true∧dv (dgD n)=n∧(dgD n=48→n=0):=by
 have:∀ n,n < 10→isD (dgD n)=true∧dv (dgD n)=n∧(dgD n=48→n=0):=by decide +kernel
 exact this n h
def nvB (l:Bs):Nat:=l.foldl (fun a c=>a * 10+dv c) 0
theorem x00 (l:Bs) (c:UInt8):nvB (l++[c])=nvB l * 10+dv c:=by simp [nvB,List.foldl_append]
theorem x4e:∀ u:Nat,Lib.decDigits u=[48]∨∃ c t,Lib.decDigits u=c::t∧c≠48:=by
 intro u
 induction u using Nat.strongRecOn with
 | _ u ih =>
  rw [z9r]
  split
  ·rename_i h
   by_cases h0:dgD u=48
   ·exact .inl (by rw [h0])
   ·exact .inr ⟨_,_,rfl,h0⟩
  ·rename_i h
   rcases ih (u / 10) (by omega) with h1 | ⟨c,t,h1,h2⟩
   ·exfalso
    have h3:u / 10 < 10∧dgD (u / 10)=48:=by
     rw [z9r] at h1
     split at h1
     ·rename_i h4; exact ⟨h4,by simpa using h1⟩
     ·have:=congrArg List.length h1
      simp only [List.length_append,List.length_singleton] at this
      have h5:Lib.decDigits (u / 10 / 10)=[]:=List.length_eq_zero_iff.1 (by omega)
      rw [z9r] at h5
      split at h5 <;> simp at h5
    have:=(w4b _ h3.1).2.2 h3.2
    omega
   ·exact .inr ⟨c,t++[dgD (u % 10)],by rw [h1]; rfl,h2⟩
def canD (s:Bs):Bool:=s.all isD && (decide (s=[48]) || decide (s.head?≠some 48∧s≠[]))
theorem y7g (s:Bs):canD s=true→Lib.decDigits (nvB s)=s∧(1≤nvB s∨s=[48]):=by
 refine y02 (P:=fun s=>canD s=true→Lib.decDigits (nvB s)=s∧(1≤nvB s∨s=[48])) (by decide) (fun p d ih h => ?_) s
 unfold canD at h
 simp only [Bool.and_eq_true,Bool.or_eq_true,decide_eq_true_eq,List.all_append,List.all_cons,List.all_nil,Bool.and_true] at h
 obtain ⟨⟨hp,hd⟩,hh⟩:=h
 obtain ⟨d1,d2,d3,_⟩:=y3j d hd
 cases p with
 | nil =>
  have e:nvB ([]++[d])=dv d:=by simp [nvB]
  rw [e,z9r,if_pos d2,d1]
  refine ⟨rfl,?_⟩
  by_cases h0:dv d=0
  ·exact .inr (by rw [d3 h0]; rfl)
  ·exact .inl (by omega)
 | cons c t =>
  have hc:c≠48:=by
   rcases hh with h1 | ⟨h1,_⟩
   ·have:=congrArg List.length h1; simp at this
   ·intro h2; rw [h2] at h1; exact h1 rfl
  have hcan:canD (c::t)=true:=by
   unfold canD
   rw [hp]
   simp [hc]
  obtain ⟨i1,i2⟩:=ih hcan
  have i3:1≤nvB (c::t):=by
   rcases i2 with h | h
   ·exact h
   ·exact absurd (List.cons.inj h).1 hc
  rw [x00]
  have e1:(nvB (c::t) * 10+dv d) / 10=nvB (c::t):=by omega
  have e2:(nvB (c::t) * 10+dv d) % 10=dv d:=by omega
  rw [z9r,if_neg (by omega),e1,e2,i1,d1]
  exact ⟨rfl,.inl (by omega)⟩
theorem y1k:∀ (k:Nat) (s:Bs),s.all isD=true→s.length≤k→nvB s < 10 ^ k:=by
 intro k
 induction k with
 | zero=>intro s _ h; obtain rfl:s=[]:=List.length_eq_zero_iff.1 (by omega); decide
 | succ k ih =>
  intro s
  refine y02 (P:=fun s=>s.all isD=true→s.length≤k+1→nvB s < 10 ^ (k+1)) (fun _ _=>Nat.pow_pos (by decide)) (fun p d _ h1 h2 => ?_) s
  simp only [List.all_append,List.all_cons,List.all_nil,Bool.and_true,Bool.and_eq_true] at h1
  have h3:=ih p h1.1 (by simp at h2; omega)
  have h4:=(y3j d h1.2).2.1
  rw [x00,Nat.pow_succ]
  omega
theorem atL (E:Int→Option (Int×Int)):∀ (s:Bs) (k j v:Nat),s.all isD=true→j+s.length≤18→v < 10 ^ j →
  forL (fun (k:Nat) (x:Int) (q:Int)=>z5g k x q) E k (yn s) (v:Int)=E ((s.foldl (fun a c=>a * 10+dv c) v:Nat):Int)
 | [],k,j,v,_,_,_=>rfl
 | c::s,k,j,v,h,hj,hv=>by
  simp only [List.all_cons,Bool.and_eq_true] at h
  simp only [List.length_cons] at hj
  obtain ⟨_,hd,_,hc1,hc2⟩:=y3j c h.1
  have h9:10 ^ j≤10 ^ 17:=Nat.pow_le_pow_right (by decide) (by omega)
  have e17:(10:Nat) ^ 17=100000000000000000:=by decide
  have ew:IntKind.wrap .u8 ((c.toNat:Int) - 48)=(dv c:Int):=by
   have:=je (fun c => !isD c || decide (IntKind.wrap .u8 ((c.toNat:Int) - 48)=(dv c:Int))) (by decide +kernel) c
   rw [h.1] at this
   exact of_decide_eq_true (by simpa only [Bool.not_true,Bool.false_or] using this)
  have ei:IntKind.wrap .i64 (dv c:Int)=(dv c:Int):=wa (by omega)
  have e1:wr ((v:Int) * 10)=(v:Int) * 10:=wa (by omega)
  have e2:wr ((v:Int) * 10+(dv c:Int))=((v * 10+dv c:Nat):Int):=by rw [wa (by omega)]; omega
  show (z5g k (c.toNat:Int) (v:Int)).bind _=_
  unfold z5g
  rw [ew,if_neg (by simp; omega),ei,e1,e2]
  simp only [Option.bind_some,after]
  exact (atL E s (k+1) (j+1) (v * 10+dv c) h.2 (by omega) (by rw [Nat.pow_succ]; omega)).trans rfl
theorem atJ (s t:Bs) (ht:t.all isD=true) (hl:t.length≤17):z1q s t=z1r s (nvB t:Int):=by
 unfold z1q
 rw [if_pos (by rw [Zm]; omega)]
 exact atL (fun q=>z1r s q) t 0 0 0 ht (by omega) (by decide)
theorem d43 (c:UInt8) (h:isD c=true):(c.toNat:Int)≠45∧(c.toNat:Int)≠43:=by
 have:=(y3j c h).2.2.2
 omega
theorem w42 (t:Bs) (ht:t.all isD=true) (hne:t≠[]) (hl:t.length≤17):Yr t=some ((nvB t:Int),0):=by
 have hi:z1c t=some ((nvB t:Int),0):=by
  cases t with
  | nil=>exact absurd rfl hne
  | cons c r =>
   have hc:isD c=true:=by simp only [List.all_cons,Bool.and_eq_true] at ht; exact ht.1
   have h4:=d43 c hc
   unfold z1c
   rw [if_pos (by simp at hl ⊢; omega)]
   simp only [List.getElem?_cons_zero,Option.bind_some]
   rw [if_neg (by simpa using h4.1)]
   unfold z1p
   rw [if_neg (by simpa using h4.2),atJ _ _ ht hl]
   unfold z1r z1o
   simp only [List.getElem?_cons_zero,Option.bind_some]
   rw [if_neg (by simpa using h4.1)]
 unfold Yr
 rw [hi]; rfl
theorem w43 (t:Bs) (ht:t.all isD=true) (hne:t≠[]) (hl:t.length≤17):Yr (45::t)=some (-(nvB t:Int),0):=by
 have hln:1≤t.length:=by cases t with | nil=>exact absurd rfl hne | cons _ _=>simp
 have hv:=y1k 17 t ht hl
 have e17:(10:Nat) ^ 17=100000000000000000:=by decide
 have hi:z1c (45::t)=some (-(nvB t:Int),0):=by
  have hsub:sub? ((45:UInt8)::t) 1 (((45:UInt8)::t).length:Int)=some t:=by
   unfold sub?
   rw [if_pos (by simp only [List.length_cons]; omega),List.take_of_length_le (by simp)]; rfl
  unfold z1c
  rw [if_pos (by simp at hl ⊢; omega)]
  simp only [List.getElem?_cons_zero,Option.bind_some]
  rw [if_pos (by decide)]
  unfold z1p
  rw [if_pos rfl,hsub]
  simp only [Option.bind_some]
  rw [if_neg (by simp; omega),atJ _ _ ht hl]
  unfold z1r z1o
  simp only [List.getElem?_cons_zero,Option.bind_some]
  rw [if_pos (by decide),if_pos (by omega)]
 unfold Yr
 rw [hi]; rfl
def tlB (s:Bs):Bs:=Lib.trimPrefix s [45]
def valB (s:Bs):Int:=if s.head?=some 45 then -(nvB (tlB s):Int) else (nvB s:Int)
def okN (m:Nat) (s:Bs):Bool:=(tlB s).all isD && (decide (tlB s≠[]∧(tlB s).length≤m) && decide ((tlB s).head?≠some 48∨s=[48]))
theorem y0q (c:UInt8) (r:Bs):tlB (c::r)=if c=45 then r else c::r:=by
 unfold tlB Lib.trimPrefix Lib.hasPrefix
 by_cases h:c=45
 ·subst h; simp [List.isPrefixOf]
 ·have:((45:UInt8) == c)=false:=by simpa using fun e:(45:UInt8)=c=>h e.symm
  simp [List.isPrefixOf,this,h]
theorem y34 (r:Bs):valB (45::r)=-(nvB r:Int):=by simp [valB,y0q]
theorem y33 (c:UInt8) (r:Bs) (h:c≠45):valB (c::r)=(nvB (c::r):Int):=by simp [valB,h]
theorem x4q (s:Bs) (ht:(tlB s).all isD=true) (hne:tlB s≠[]) (hl:(tlB s).length≤17):Yr s=some (valB s,0):=by
 cases s with
 | nil=>exact absurd rfl hne
 | cons c r =>
  rw [y0q] at ht hne hl
  by_cases h:c=45
  ·subst h
   rw [if_pos rfl] at ht hne hl
   rw [y34]
   exact w43 r ht hne hl
  ·rw [if_neg h] at ht hne hl
   rw [y33 c r h]
   exact w42 (c::r) ht hne hl
theorem w2v (s:Bs) (m:Nat) (ht:(tlB s).all isD=true) (hne:tlB s≠[]) (hl:(tlB s).length≤m) (hm:m≤17):∃ r,y10 (valB s)=some r∧decide (r=s)=okN m s:=by
 have hv:=y1k 17 (tlB s) ht (by omega)
 have e17:(10:Nat) ^ 17=100000000000000000:=by decide
 have hok:okN m s=decide ((tlB s).head?≠some 48∨s=[48]):=by
  unfold okN
  rw [ht,show decide (tlB s≠[]∧(tlB s).length≤m)=true from by simpa using ⟨hne,hl⟩]
  simp
 cases s with
 | nil=>exact absurd rfl hne
 | cons c r =>
  rw [y0q] at ht hne hl hv hok
  unfold y10
  by_cases h:c=45
  ·subst h
   rw [if_pos rfl] at ht hne hl hv hok
   rw [y34,if_pos (by omega)]
   refine ⟨_,rfl,?_⟩
   rw [hok]
   have hok':decide (r.head?≠some 48∨(45:UInt8)::r=[48])=decide (r.head?≠some 48):=by simp
   rw [hok']
   have hcan:(r.head?≠some 48)→canD r=true:=fun hh=>by
    unfold canD
    rw [ht]
    simp [hh,hne]
   unfold Lib.itoa
   by_cases h0:nvB r=0
   ·rw [if_neg (by omega),h0]
    have h1:r.head?=some 48:=Classical.byContradiction fun hh=>by
     rcases (y7g r (hcan hh)).2 with h2 | h2
     ·omega
     ·rw [h2] at hh; exact hh rfl
    rw [h1]
    have:Lib.decDigits (-((0:Nat):Int)).toNat=[48]:=by decide +kernel
    rw [this]
    simp
   ·rw [if_pos (by omega)]
    have e1:(-(nvB r:Int)).natAbs=nvB r:=by omega
    rw [e1]
    by_cases hh:r.head?=some 48
    ·rw [hh]
     have:¬ (45::Lib.decDigits (nvB r)=45::r):=fun e=>by
      have e2:=(List.cons.inj e).2
      rcases x4e (nvB r) with h3 | ⟨d,t,h3,h4⟩
      ·rw [e2] at h3
       rw [h3] at h0
       exact h0 (by decide)
      ·rw [e2] at h3
       rw [h3] at hh
       exact h4 (by simpa using hh)
     simpa using this
    ·rw [(y7g r (hcan hh)).1]
     simp [hh]
  ·rw [if_neg h] at ht hne hl hv hok
   have hcan:((c::r).head?≠some 48∨c::r=[48])→canD (c::r)=true:=fun hh=>by
    unfold canD
    rw [ht]
    rcases hh with hh | hh
    ·simp only [Bool.true_and,Bool.or_eq_true,decide_eq_true_eq]
     exact .inr ⟨hh,hne⟩
    ·simp only [Bool.true_and,Bool.or_eq_true,decide_eq_true_eq]
     exact .inl hh
   rw [y33 c r h,if_pos (by omega)]
   refine ⟨_,rfl,?_⟩
   rw [hok]
   unfold Lib.itoa
   rw [if_neg (by omega),Int.toNat_natCast]
   refine decide_eq_decide.2 ⟨fun e => ?_,fun hh=>(y7g _ (hcan hh)).1⟩
   rcases x4e (nvB (c::r)) with h3 | ⟨d,t,h3,h4⟩
   ·exact .inr (e.symm.trans h3)
   ·refine .inl ?_
    rw [e.symm.trans h3]
    simpa using h4
theorem x3o {α ρ:Type} {body:Nat→α→Unit→Option (Unit ⊕ ρ)} {fin:Unit→Option ρ} {p:α→Bool} {r0:ρ} (h:∀ j x,body j x ()=if p x then some (.inl ()) else some (.inr r0)):∀ (l:List α) (k:Nat),l.all p=false→forL body fin k l ()=some r0
 | [],k,hl=>by cases hl
 | x::l,k,hl=>by
  show (body k x ()).bind _=_
  rw [h k x]
  cases hp:p x
  ·simp [after]
  ·rw [List.all_cons,hp,Bool.true_and] at hl
   simp only [if_true,Option.bind_some,after]
   exact x3o h l (k+1) hl
theorem y85 (s:Bs):(tlB s).length≤s.length:=by
 unfold tlB Lib.trimPrefix
 split
 ·simp
 ·exact Nat.le_refl _
theorem w0t (s:Bs) (m:Nat) (hm:m≤17) (hs:s.length≤1000000):z4f s (m:Int)=some (if okN m s then valB s else 0,okN m s):=by
 have hJ:uk s (tlB s) true=some (0,false):=rfl
 have htl:=y85 s
 have hb:∀ (j:Nat) (x:UInt8),z81 j x=if isD x then some (.inl ()) else some (.inr (0,false)):=fun j x=>by
  have:=je (fun x=>decide (z81 0 x=if isD x then some (.inl ()) else some (.inr (0,false)))) (by decide +kernel) x
  exact of_decide_eq_true this
 unfold z4f z3w
 simp only [Option.bind_some]
 show (if decide (tlB s=[]) then uk s (tlB s) true else if decide ((m:Int) < ((tlB s).length:Int)) then uk s (tlB s) true else ((tlB s)[0]?).bind fun x9=>if decide ((x9.toNat:Int)=48) then uk s (tlB s) (decide (s≠[48])) else uk s (tlB s) false)=_
 by_cases h0:tlB s=[]
 ·rw [if_pos (by simpa using h0),hJ]
  have:okN m s=false:=by unfold okN; rw [h0]; simp
  rw [this]; rfl
 rw [if_neg (by simpa using h0)]
 by_cases hl:m < (tlB s).length
 ·rw [if_pos (by simp; omega),hJ]
  have:okN m s=false:=by
   unfold okN
   rw [show decide (tlB s≠[]∧(tlB s).length≤m)=false from by simp; intro; omega]
   simp
  rw [this]; rfl
 rw [if_neg (by simp; omega)]
 have hlm:decide (tlB s≠[]∧(tlB s).length≤m)=true:=by simp only [decide_eq_true_eq]; exact ⟨h0,by omega⟩
 have hall:uk s (tlB s) false=some (if (tlB s).all isD then valB s else 0,(tlB s).all isD):=by
  unfold uk
  rw [if_neg (by simp),if_pos (by omega)]
  cases hd:(tlB s).all isD
  ·exact x3o (p:=isD) hb (tlB s) 0 hd
  ·have hf:z4z s=some (valB s,true):=by
    unfold z4z
    rw [x4q s hd h0 (by omega)]; rfl
   rw [z2r (fin:=fun (s_1:Unit)=>z4z s) (e:=(valB s,true)) (p:=fun _ c=>isD c) (r0:=(0,false)) hf (tlB s) 0 (fun j x _ _=>hb j x),y3v,hd]
   rfl
 cases hc:tlB s with
 | nil=>exact absurd hc h0
 | cons c r =>
  rw [hc] at hall hlm h0
  simp only [List.getElem?_cons_zero,Option.bind_some]
  have hok:okN m s=((c::r).all isD && decide ((c::r).head?≠some 48∨s=[48])):=by
   unfold okN
   rw [hc,hlm]; simp
  by_cases h48:c=48
  ·rw [if_pos (by rw [h48]; decide)]
   by_cases hs48:s=[48]
   ·rw [show decide (s≠[48])=false from by simpa using hs48,hall,hok]
    simp [hs48]
   ·rw [show decide (s≠[48])=true from by simpa using hs48]
    have:okN m s=false:=by rw [hok]; simp [h48,hs48]
    rw [this]; rfl
  ·have hcn:¬ ((c.toNat:Int)=48):=fun h=>h48 (UInt8.toNat_inj.1 (by simp; omega))
   rw [if_neg (by simpa using hcn),hall,hok]
   simp [h48]
theorem x5l (s:Bs) (m:Nat) (hm:m≤17) (ht:(tlB s).all isD=true) (hl:(tlB s).length≤m):-100000000000000000 < valB s∧valB s < 100000000000000000:=by
 have e17:(10:Nat) ^ 17=100000000000000000:=by decide
 cases s with
 | nil=>simp [valB,nvB]
 | cons c r =>
  rw [y0q] at ht hl
  by_cases h:c=45
  ·subst h
   rw [if_pos rfl] at ht hl
   rw [y34]
   have:=y1k 17 r ht (by omega)
   omega
  ·rw [if_neg h] at ht hl
   rw [y33 c r h]
   have:=y1k 17 (c::r) ht (by omega)
   omega
theorem x84 (s:Bs) (m:Nat) (hm:m≤17) (hs:s.length≤1000000):∃ w,Wm s (m:Int)=some (w,okN m s)∧(okN m s=true→w=valB s)∧(-100000000000000000 < w∧w < 100000000000000000):=by
 have hJ:Zd s true=some (0,false):=rfl
 have htl:=y85 s
 unfold Wm z3w
 simp only [Option.bind_some]
 show ∃ w,(if decide (tlB s=[]) then Zd s true else if decide ((m:Int) < ((tlB s).length:Int)) then Zd s true else (uy (tlB s) [48,49,50,51,52,53,54,55,56,57]).bind fun r9=>Zd s (!r9))=some (w,okN m s)∧_
 by_cases h0:tlB s=[]
 ·have:okN m s=false:=by unfold okN; rw [h0]; simp
  rw [if_pos (by simpa using h0),hJ,this]
  exact ⟨0,rfl,(fun h=>by cases h),by decide,by decide⟩
 rw [if_neg (by simpa using h0)]
 by_cases hl:m < (tlB s).length
 ·have:okN m s=false:=by
   unfold okN
   rw [show decide (tlB s≠[]∧(tlB s).length≤m)=false from by simp; intro; omega]
   simp
  rw [if_pos (by simp; omega),hJ,this]
  exact ⟨0,rfl,(fun h=>by cases h),by decide,by decide⟩
 rw [if_neg (by simp; omega),z7i _ _ (by omega)]
 simp only [Option.bind_some]
 cases hd:(tlB s).all fun c=>([48,49,50,51,52,53,54,55,56,57]:Bs).contains c
 ·have:okN m s=false:=by
   unfold okN
   rw [show (tlB s).all isD=false from hd]; simp
  rw [this,Bool.not_false,hJ]
  exact ⟨0,rfl,(fun h=>by cases h),by decide,by decide⟩
 ·have hd':(tlB s).all isD=true:=hd
  obtain ⟨r,h1,h2⟩:=w2v s m hd' h0 (by omega) hm
  rw [Bool.not_true]
  unfold Zd z5s
  rw [if_neg (by simp),x4q s hd' h0 (by omega)]
  simp only [Option.bind_some]
  rw [if_pos (by simp),h1]
  simp only [Option.bind_some]
  rw [h2]
  exact ⟨valB s,rfl,fun _=>rfl,x5l s m hm hd' (by omega)⟩
theorem w4d (s:Bs) (c:UInt8):(Lib.cut s [c]).1.length≤s.length∧(Lib.cut s [c]).2.1.length≤s.length∧(∀ x,x∈(Lib.cut s [c]).1→x∈s)∧∀ x,x∈(Lib.cut s [c]).2.1→x∈s:=by
 unfold Lib.cut
 split
 ·exact ⟨by simp; omega,by simp,fun x hx=>List.mem_of_mem_take hx,fun x hx=>List.mem_of_mem_drop hx⟩
 ·exact ⟨Nat.le_refl _,by simp,fun x hx=>hx,fun x hx=>by cases hx⟩
theorem y9x (c:UInt8):∀ (s:Bs) (p:Bs),p∈spl c s→∀ x,x∈p→x∈s
 | [],p,h,x,hx=>by
  have:p=[]:=by simpa [spl] using h
  subst this; cases hx
 | b::l,p,h,x,hx=>by
  have ih:=y9x c l
  unfold spl at h
  split at h
  ·rcases List.mem_cons.1 h with rfl | h
   ·cases hx
   ·exact List.mem_cons_of_mem _ (ih p h x hx)
  ·split at h
   ·rename_i q ps hq
    rw [hq] at ih
    rcases List.mem_cons.1 h with rfl | h
    ·rcases List.mem_cons.1 hx with rfl | hx
     ·simp
     ·exact List.mem_cons_of_mem _ (ih q (by simp) x hx)
    ·exact List.mem_cons_of_mem _ (ih p (List.mem_cons_of_mem _ h) x hx)
   ·have:p=[b]:=by simpa using h
    subst this
    have:x=b:=by simpa using hx
    rw [this]; simp
theorem x6d (c:UInt8) (s:Bs):(trL c (trR c s)).length≤s.length∧∀ x,x∈trL c (trR c s)→x∈s:=by
 have h1:=y84 c s
 have h2:(trL c (trR c s)).Sublist (trR c s):=List.dropWhile_sublist _
 refine ⟨Nat.le_trans h2.length_le h1,fun x hx => ?_⟩
 have h3:=h2.subset hx
 unfold trR at h3
 have h4:=(List.dropWhile_sublist (l:=s.reverse) (· == c)).subset (List.mem_reverse.1 h3)
 exact List.mem_reverse.1 h4
theorem y69 {α σ ρ:Type} {body body':Nat→α→σ→Option (σ ⊕ ρ)} {fin fin':σ→Option ρ} {R:ρ→Prop} (I:Nat→σ→Prop):∀ (l:List α) (k:Nat) (s:σ),I k s →
  (∀ j x s,k≤j→l[j - k]?=some x→I j s→∃ q,body j x s=some q∧body' j x s=some q∧rd (I (j+1)) R q)→(∀ s,I (k+l.length) s→∃ r,fin s=some r∧fin' s=some r∧R r)→∃ r,forL body fin k l s=some r∧forL body' fin' k l s=some r∧R r
 | [],k,s,h0,hs,hf=>hf s h0
 | x::l,k,s,h0,hs,hf=>by
  obtain ⟨q,q1,q2,q3⟩:=hs k x s (Nat.le_refl _) (by simp) h0
  show ∃ r,(body k x s).bind _=some r∧(body' k x s).bind _=some r∧R r
  rw [q1,q2]
  cases q with
  | inl s' =>
   refine y69 I l (k+1) s' q3 (fun j y s hj hy hi=>hs j y s (by omega) ?_ hi) (fun s hi=>hf s ?_)
   ·obtain ⟨m,hm⟩:∃ m,j - k=m+1:=⟨j - k - 1,by omega⟩
    rw [hm,List.getElem?_cons_succ]
    have:j - (k+1)=m:=by omega
    rw [this] at hy; exact hy
   ·simp only [List.length_cons]
    have:k+(l.length+1)=k+1+l.length:=by omega
    rw [this]; exact hi
  | inr r=>exact ⟨r,rfl,rfl,q3⟩
def qx (n:Bs) (l:List zt):List Bs:=(l.filter (nmB n)).map fun x=>x.Value
theorem y8c (n:Bs) (hn:ascB n=true):∀ (l:List zt) (k:Nat) (q:List Bs),(∀ x,x∈l→nmOK x)→q.length+l.length≤1000 →
  forL (fun (k:Nat) (x:zt) (s:(List Bs))=>z00 n k x s) (fun (s:(List Bs))=>y1q s) k l q=some (q++qx n l)
 | [],k,q,_,_=>by show some q=_; simp [qx]
 | x::l,k,q,h,hl=>by
  simp only [List.length_cons] at hl
  have hst:z00 n k x q=some (.inl (if nmB n x then q++[x.Value] else q)):=by
   unfold z00 z3o
   rw [x94 x n (h x (by simp)) hn]
   simp only [Option.bind_some]
   cases nmB n x
   ·rfl
   ·simp only [if_true]; rw [if_pos (by omega)]
  show (z00 n k x q).bind _=_
  rw [hst]
  have ih:=y8c n hn l (k+1) (if nmB n x then q++[x.Value] else q) (fun y hy=>h y (List.mem_cons_of_mem _ hy)) (by split <;> first | omega | (simp only [List.length_append,List.length_cons,List.length_nil]; omega))
  refine Eq.trans ih ?_
  unfold qx
  rw [List.filter_cons]
  cases nmB n x <;> simp
theorem y8b (n:Bs) (hn:ascB n=true∧n.length≤100000):∀ (l:List zt) (k:Nat) (q:List Bs),(∀ x,x∈l→nmOK x)→q.length+l.length≤1000 →
  forL (fun (k:Nat) (x:zt) (s:(List Bs))=>z1x n k x s) (fun (s:(List Bs))=>y24 s) k l q=some (q++qx n l)
 | [],k,q,_,_=>by show some q=_; simp [qx]
 | x::l,k,q,h,hl=>by
  simp only [List.length_cons] at hl
  have hst:z1x n k x q=some (.inl (if nmB n x then q++[x.Value] else q)):=by
   unfold z1x z5n
   rw [w49 x.Name n (h x (by simp)) hn]
   simp only [Option.bind_some]
   show (if nmB n x=true then _ else _)=_
   cases nmB n x
   ·rfl
   ·simp only [if_true]; rw [if_pos (by omega)]
  show (z1x n k x q).bind _=_
  rw [hst]
  have ih:=y8b n hn l (k+1) (if nmB n x then q++[x.Value] else q) (fun y hy=>h y (List.mem_cons_of_mem _ hy)) (by split <;> first | omega | (simp only [List.length_append,List.length_cons,List.length_nil]; omega))
  refine Eq.trans ih ?_
  unfold qx
  rw [List.filter_cons]
  cases nmB n x <;> simp
theorem z25 (l:List zt) (n:Bs) (hl:l.length≤1000) (h:∀ x,x∈l→nmOK x) (hn:ascB n=true∧n.length≤100000):ux l n=some (qx n l)∧Zt l n=some (qx n l):=by
 constructor
 ·unfold ux
  rw [if_pos (by omega),y8c n hn.1 l 0 [] h (by simpa using hl)]; rfl
 ·unfold Zt
  rw [if_pos (by omega),y8b n hn l 0 [] h (by simpa using hl)]; rfl
theorem w3s {s:Bs} (h:fldB s=true):rgB s 32 126=true:=by
 unfold fldB at h
 simp only [Bool.and_eq_true] at h
 exact h.2.1
section
end
theorem y4q (c x:UInt8) (l:Bs):spl c (x::l)=if x=c then []::spl c l else match spl c l with
  | p::ps=>(x::p)::ps
  | []=>[[x]]:=rfl
theorem y9y (c:UInt8) (b:Bs):∀ a:Bs,spl c (a++c::b)=spl c a++spl c b
 | []=>by
  rw [List.nil_append,y4q,if_pos rfl]; rfl
 | x::a=>by
  rw [List.cons_append,y4q,y4q,y9y c b a]
  by_cases h:x=c
  ·rw [if_pos h,if_pos h]; rfl
  ·rw [if_neg h,if_neg h]
   cases hq:spl c a with
   | nil=>exact absurd hq (y9w c a)
   | cons p ps=>rfl
theorem y4p (c:UInt8):∀ l:List Bs,l≠[]→spl c (Lib.join l [c])=(l.map (spl c)).flatten
 | [],h=>absurd rfl h
 | [x],_=>by rw [Lib.join_one]; simp
 | x::y::l,_=>by
  have h:Lib.join (x::y::l) [c]=x++c::Lib.join (y::l) [c]:=by
   rw [Lib.join_cons,Lib.join_cons]
   simp [Lib.joinTail]
  rw [h,y9y,y4p c (y::l) (by simp)]
  simp
def tfB (l:List Bs):List Bs:=(l.map fun p=>trL 32 (trR 32 p)).filter fun p=>decide (p≠[])
theorem y4d (a b:List Bs):tfB (a++b)=tfB a++tfB b:=by simp [tfB]
theorem y0r (l:List Bs):(tfB l).length≤l.length:=by
 unfold tfB
 have:=(List.filter_sublist (p:=fun p:Bs=>decide (p≠[])) (l:=l.map fun p=>trL 32 (trR 32 p))).length_le
 simpa using this
theorem x6i {l:List Bs} {p:Bs} (h:p∈tfB l):∃ q,q∈l∧p.length≤q.length∧∀ c,c∈p→c∈q:=by
 unfold tfB at h
 obtain ⟨q,h1,h2⟩:=List.mem_map.1 (List.mem_filter.1 h).1
 have:=x6d 32 q
 rw [h2] at this
 exact ⟨q,h1,this⟩
def ptsB (l:List Bs):List Bs:=tfB (l.map (spl 44)).flatten
theorem x9c {l:List Bs} {p:Bs} (h:p∈ptsB l):∃ v,v∈l∧p.length≤v.length∧∀ c,c∈p→c∈v:=by
 obtain ⟨q,h1,h2,h3⟩:=x6i h
 obtain ⟨x,h4,h5⟩:=List.mem_flatten.1 h1
 obtain ⟨v,h6,rfl⟩:=List.mem_map.1 h4
 have:=Qr 44 v q h5
 exact ⟨v,h6,by omega,fun c hc=>y9x 44 v q h5 c (h3 c hc)⟩
def vlP (V:List Bs):Prop:=V.length≤1000∧∀ v,v∈V→v.length≤2000
theorem x0s:∀ (l:List Bs) (k:Nat) (q:List Bs),(∀ x,x∈l→x.length≤2000)→q.length+l.length≤100000000 →
  forL (fun (k:Nat) (x:Bs) (s:(List Bs))=>Ym k x s) (fun (s:(List Bs))=>z3p s) k l q=some (.inl (q++tfB l))
 | [],k,q,_,_=>by show some (Sum.inl q)=_; simp [tfB]
 | x::l,k,q,h,hl=>by
  simp only [List.length_cons] at hl
  have hx:=h x (by simp)
  have hst:Ym k x q=some (.inl (q++tfB [x])):=by
   unfold Ym Yo
   rw [y0p 32 (by decide) x (by omega)]
   simp only [Option.bind_some]
   by_cases h0:trL 32 (trR 32 x)=[]
   ·rw [if_neg (by simpa using h0)]
    simp [tfB,h0]
   ·rw [if_pos (by simpa using h0),if_pos (by omega)]
    simp [tfB,h0]
  show (Ym k x q).bind _=_
  rw [hst]
  have h1:=y0r [x]
  refine Eq.trans (x0s l (k+1) (q++tfB [x]) (fun y hy=>h y (List.mem_cons_of_mem _ hy)) (by simp only [List.length_append,List.length_cons,List.length_nil] at h1 ⊢; omega)) ?_
  rw [List.append_assoc,← y4d]; rfl
theorem y5f:∀ (l:List Bs) (k:Nat) (q:List Bs),(∀ x,x∈l→x.length≤2000)→q.length+l.length≤100000000 →
  forL (fun (k:Nat) (x:Bs) (s:(List Bs))=>z1u k x s) (fun (s:(List Bs))=>y22 s) k l q=some (q++tfB l)
 | [],k,q,_,_=>by show some q=_; simp [tfB]
 | x::l,k,q,h,hl=>by
  simp only [List.length_cons] at hl
  have hx:=h x (by simp)
  have hst:z1u k x q=some (.inl (q++tfB [x])):=by
   unfold z1u z5k
   rw [y0p 32 (by decide) x (by omega)]
   simp only [Option.bind_some]
   by_cases h0:trL 32 (trR 32 x)=[]
   ·rw [if_neg (by simpa using h0)]
    simp [tfB,h0]
   ·rw [if_pos (by simpa using h0),if_pos (by omega)]
    simp [tfB,h0]
  show (z1u k x q).bind _=_
  rw [hst]
  have h1:=y0r [x]
  refine Eq.trans (y5f l (k+1) (q++tfB [x]) (fun y hy=>h y (List.mem_cons_of_mem _ hy)) (by simp only [List.length_append,List.length_cons,List.length_nil] at h1 ⊢; omega)) ?_
  rw [List.append_assoc,← y4d]; rfl
theorem x0p (V:List Bs) (h:∀ v,v∈V→v.length≤2000):(V.map (spl 44)).flatten.length≤V.length * 2001∧∀ x,x∈(V.map (spl 44)).flatten→x.length≤2000:=by
 induction V with
 | nil=>simp
 | cons v V ih =>
  obtain ⟨h1,h2⟩:=ih fun x hx=>h x (List.mem_cons_of_mem _ hx)
  have h3:=z3f 44 v
  have h4:=h v (by simp)
  simp only [List.map_cons,List.flatten_cons,List.length_append,List.length_cons,Nat.succ_mul]
  refine ⟨by omega,fun x hx => ?_⟩
  rcases List.mem_append.1 hx with hx | hx
  ·have:=Qr 44 v x hx; omega
  ·exact h2 x hx
theorem x0t:∀ (V:List Bs) (k:Nat) (q:List Bs),(∀ v,v∈V→v.length≤2000)→q.length+V.length * 2001≤90000000 →
  forL (fun (k:Nat) (x:Bs) (s:(List Bs))=>Yn k x s) (fun (s:(List Bs))=>z3q s) k V q=some (q++ptsB V)
 | [],k,q,_,_=>by show some q=_; simp [ptsB,tfB]
 | v::V,k,q,h,hl=>by
  simp only [List.length_cons,Nat.succ_mul] at hl
  have hv:=h v (by simp)
  have h3:=z3f 44 v
  have hst:Yn k v q=some (.inl (q++tfB (spl 44 v))):=by
   unfold Yn jk
   rw [if_pos ⟨by omega,by simp⟩,z3e]
   simp only [Option.bind_some]
   rw [if_pos (by omega)]
   exact x0s (spl 44 v) 0 q (fun x hx=>by have:=Qr 44 v x hx; omega) (by omega)
  show (Yn k v q).bind _=_
  rw [hst]
  have h1:=y0r (spl 44 v)
  refine Eq.trans (x0t V (k+1) (q++tfB (spl 44 v)) (fun y hy=>h y (List.mem_cons_of_mem _ hy)) (by simp only [List.length_append]; omega)) ?_
  unfold ptsB
  rw [List.map_cons,List.flatten_cons,y4d,List.append_assoc]
theorem y5e (V:List Bs) (h:vlP V):Wc V=some (ptsB V):=by
 obtain ⟨h1,h2⟩:=h
 unfold Wc
 rw [if_pos (by omega),x0t V 0 [] h2 (by simp; omega)]; rfl
theorem x9p (V:List Bs) (h:vlP V):z8d V=some (ptsB V):=by
 obtain ⟨h1,h2⟩:=h
 have hj:=z45 2000 [44] V h2
 have hl:V.length * (2000+([44]:Bs).length)≤1000 * 2001:=Nat.mul_le_mul h1 (by simp)
 have hp:=x0p V h2
 unfold z8d jl jk
 rw [if_pos ⟨by omega,by omega⟩]
 simp only [Option.bind_some]
 rw [if_pos ⟨by omega,by simp⟩,z3e]
 simp only [Option.bind_some]
 cases hV:V with
 | nil =>
  have e:spl 44 (Lib.join [] [44])=[[]]:=rfl
  rw [e,if_pos (by simp),y5f [[]] 0 [] (by simp) (by simp)]
  rfl
 | cons v V' =>
  rw [y4p 44 (v::V') (by simp),← hV,if_pos (by omega),y5f _ 0 [] hp.2 (by have:=hp.1; simp only [List.length_nil]; omega)]
  rfl
def idxB (ns:List Bs) (nm:Bs):Int:=fdx (fun x=>decide (nm=x)) 0 ns
theorem y6s (ns:List Bs) (nm:Bs) (h:ns.length≤1000000000):z07 ns nm=some (idxB ns nm):=
 y66 ns (p:=fun x=>some (decide (nm=x))) (fun x=>decide (nm=x)) h fun _ _=>rfl
def aQ (n:Nat) (s:Bs):Bool:=ascB s && decide (s.length≤n)
theorem w5c {n:Nat} {s:Bs} (h:aQ n s=true):ascB s=true∧s.length≤n:=by
 unfold aQ at h
 simpa using h
theorem y01 {k:Int} {s:zr} (h:SB k s) (hk:k≤100000000) (n:Nat) (l:List Bs) (hl:l≠[]∧l.length≤1000) (hQ:l.all (aQ n)=true):Ok (vm s l) fun r=>(ascB r.1=true∧r.1.length≤n)∧SB (k+1) r.2:=
 x0y (xx h hk l hl) fun r hr=>⟨w5c (List.all_eq_true.1 hQ _ hr.1),hr.2⟩
def hdA (h:zt):Prop:=hdP h∧nmOK h
theorem w3c {l:List zt} {x:zt} (h:∀ y,y∈l→hdA y) (hx:hdA x):∀ y,y∈l++[x]→hdA y:=by
 intro y hy
 rcases List.mem_append.1 hy with hy | hy
 ·exact h y hy
 ·rw [List.mem_singleton.1 hy]; exact hx
theorem w3d {a b:Bs} (h1:ascB a=true∧a.length≤3000) (h2:b.length≤30000):hdA (zt.mk a b):=⟨⟨by show a.length≤_; omega,by show b.length≤_; omega⟩,h1.1,by show a.length≤_; omega⟩
theorem x8x (r:zw) (h:rqP r):Ok (kq r) fun e=>Yu r=some e:=by
 obtain ⟨p1,p2,p3,p4,p5,p6⟩:=h
 obtain ⟨b,q,e1,e2,e3⟩:=y6x p2
 have hh:=z9l r.Headers p6
 unfold kq Yu Zo z1y
 rw [z48,y1l,z47 _ (by omega),y4b _ (by omega),e1,e2,y5d _ (by omega),x0r _ (by omega),x0n _ (by omega),x9a _ (by omega),x3u,y2q _ (by omega),hh.1,hh.2]
 simp only [Option.bind_some,e3]
 cases momP r.At
 ·exact qg rfl
 ·cases tokB r.Method
  ·exact qg rfl
  ·cases b
   ·exact qg rfl
   ·cases pthB r.Path
    ·exact qg rfl
    ·cases qryB r.Query
     ·exact qg rfl
     ·cases fldB r.From
      ·exact qg rfl
      ·simp only [if_true,Bool.not_true,Bool.false_eq_true,if_false,ne_eq,not_true_eq_false,decide_false]
       split
       ·exact qg rfl
       ·split <;> exact qg rfl
theorem x8v (r:yu) (h:hdsP r.Headers):Ok (Zs r) fun e=>z4k r=some e:=by
 have hh:=z9l r.Headers h
 unfold Zs z4k
 rw [y1j,y2t,hh.1,hh.2]
 simp only [Option.bind_some,Bool.not_not]
 split
 ·exact qg rfl
 ·split
  ·exact qg rfl
  ·split <;> exact qg rfl
def hvP (n B:Nat) (l:List zt):Prop:=l.length≤n∧∀ x,x∈l→nmOK x∧x.Value.length≤B
theorem y6v {n B:Nat} {l:List zt} (h:hvP n B l):∀ x,x∈l→nmOK x:=fun x hx=>(h.2 x hx).1
theorem w25:z88 []=some false:=by decide +kernel
theorem y48 (r:zw) (h:rqP r):∃ e,kq r=some e∧Yu r=some e∧(e=0→hdsE r.Headers=0∧fldB r.From=true∧(r.Host.length≤2000∧r.Host≠[])):=by
 obtain ⟨e,e1,e2⟩:=x8x r h
 refine ⟨e,e1,e2,fun h0 => ?_⟩
 subst h0
 obtain ⟨p1,p2,p3,p4,p5,p6⟩:=h
 obtain ⟨b,q,c1,c2,c3⟩:=y6x p2
 have hh:=z9l r.Headers p6
 have hl:r.Host.length≤1000:=of_decide_eq_true (List.all_eq_true.1 y6w _ p2)
 have hne:b=true→r.Host≠[]:=fun hb hx=>by
  rw [hx,y6p [] (by simp),w25,hb] at c1
  cases c1
 unfold kq Zo at e1
 rw [z48,z47 _ (by omega),c1,y5d _ (by omega),x0n _ (by omega),y2q _ (by omega),hh.1] at e1
 simp only [Option.bind_some] at e1
 cases hm:momP r.At
 ·rw [hm] at e1; simp at e1
 ·cases ht:tokB r.Method
  ·rw [hm,ht] at e1; simp at e1
  ·cases b
   ·rw [hm,ht] at e1; simp at e1
   ·cases hp:pthB r.Path
    ·rw [hm,ht,hp] at e1; simp at e1
    ·cases hq:qryB r.Query
     ·rw [hm,ht,hp,hq] at e1; simp at e1
     ·cases hf:fldB r.From
      ·rw [hm,ht,hp,hq,hf] at e1; simp at e1
      ·rw [hm,ht,hp,hq,hf] at e1
       by_cases h0:hdsE r.Headers=0
       ·exact ⟨h0,rfl,by omega,hne rfl⟩
       ·simp [h0] at e1
theorem w3e {r:zw} (h:hdsE r.Headers=0):hvP 50 2000 r.Headers∧∀ x,x∈r.Headers→ascB x.Value=true:=by
 have hok:=x29 h
 exact ⟨⟨y2x h,fun x hx=>⟨⟨z64 (hok x hx).1,by have:=y4c (hok x hx).1; omega⟩,x3s (hok x hx).2⟩⟩,fun x hx=>x0h (w3s (hok x hx).2)⟩
noncomputable def y5q (s1:Bs):Option (Bs×Int):=
 (z88 s1).bind fun (r2:(Bool))=>if !r2 then (some ([],3)) else ((jw s1).bind fun (r5:(Bs))=>(uh r5 [58]).bind fun (r7:(Bs×Bs×Bool))=>if (((decide (r7.2.1=[])) || (decide (r7.2.1=[56,48]))) || (decide (r7.2.1=[52,52,51]))) then (some (r7.1,0)) else (if r7.1.length+[58].length≤1000000000 then (if (r7.1++[58]).length+r7.2.1.length≤1000000000 then (some (((r7.1++[58])++r7.2.1),0)) else none) else none))
noncomputable def x25 (s:Bs):Bool:=match y5q s,y2u s with
 | some a,some b=>decide (a=b)
 | _,_=>false
theorem w24:ke.all x25=true:=by decide +kernel
theorem w27 {s:Bs} (h:s∈ke):∃ r,z4b s=some r∧Wn s=some r:=by
 have h1:=List.all_eq_true.1 w24 s h
 have h2:=of_decide_eq_true (List.all_eq_true.1 y6w s h)
 have e:z4b s=y5q s:=by
  unfold z4b y5q
  rw [y6p s (by omega)]
 rw [e,x20 s (by omega)]
 unfold x25 at h1
 split at h1
 ·rename_i a b e1 e2
  exact ⟨b,by rw [e1,of_decide_eq_true h1],e2⟩
 ·cases h1
section
variable {α β σ τ ρ ρ':Type}
theorem y2p {body:σ→Option (σ ⊕ ρ)} {s s':σ} (h:body s=some (.inl s')):iter body s=iter body s':=by
 have key:∀ r,iter body s=some r↔iter body s'=some r:=fun r=>by
  rw [Yy,Yy]
  constructor
  ·rintro ⟨n,hn⟩
   cases n with
   | zero=>cases hn
   | succ n =>
    have hn:(body s).bind (after (itN body n))=some r:=hn
    rw [h] at hn
    exact ⟨n,hn⟩
  ·rintro ⟨n,hn⟩
   exact ⟨n+1,by show (body s).bind (after (itN body n))=some r; rw [h]; exact hn⟩
 cases h1:iter body s' with
 | some r=>exact (key r).2 h1
 | none =>
  cases h2:iter body s with
  | none=>rfl
  | some r=>rw [(key r).1 h2] at h1; cases h1
theorem Zb {body:σ→Option (σ ⊕ ρ)} {s:σ} {r:ρ} (h:body s=some (.inr r)):iter body s=some r:=
 Yy.2 ⟨1,by show (body s).bind (after (itN body 0))=some r; rw [h]; rfl⟩
def gJ4 (i j:Int) (l:List α) (v:Bool):Option ((Int×List α) ⊕ ((Int×List α) ⊕ List α)):=
 if v then ((at? l (wr (j - 1))).bind fun (x22:α)=>(at? l j).bind fun (x24:α)=>(at? (l.set j.toNat x22) (wr (j - 1))).bind fun (x26:α)=>some (.inl (wr (j - 1),((l.set j.toNat x22).set ((wr (j - 1)).toNat) x24)))) else (Option.map .inr (some (.inl (wr (i+1),l))))
def gL3 (a:Int) (p:α→α→Option Int) (i j:Int) (l:List α):Option ((Int×List α) ⊕ ((Int×List α) ⊕ List α)):=
 if decide (a < j) then ((at? l j).bind fun (x13:α)=>(at? l (wr (j - 1))).bind fun (x15:α)=>(p x13 x15).bind fun (r17:Int)=>gJ4 i j l (decide (r17 < 0))) else (gJ4 i j l false)
noncomputable def gL1 (a b:Int) (p:α→α→Option Int) (i:Int) (l:List α):Option ((Int×List α) ⊕ List α):=
 if decide (i < b) then (iter (fun (s:Int×List α)=>gL3 a p i s.1 s.2) (i,l)) else (some (.inr l))
noncomputable def gIns (l:List α) (a b:Int) (p:α→α→Option Int):Option (List α):=iter (fun (s:Int×List α)=>gL1 a b p s.1 s.2) (wr (a+1),l)
theorem x4r (A C:List α) (x:α):at? (A++x::C) (A.length:Int)=some x:=by
 rw [z2y]; simp
theorem x6q (A C:List α) (y x:α):((A++y::x::C).set (A.length+1) y).set A.length x=A++x::y::C:=by
 induction A with
 | nil=>rfl
 | cons a A ih=>simp only [List.cons_append,List.length_cons,List.set_cons_succ,ih]
section
variable {p:α→α→Option Int} {q:β→β→Option Int} {f:α→β}
def y2z (p:α→α→Option Int) (q:β→β→Option Int) (f:α→β) (x y:α):Prop:=∃ c d,p x y=some c∧q (f x) (f y)=some d∧(c < 0↔d < 0)
theorem x3e (i:Int) (l:List α):gL3 0 p i 0 l=some (.inr (.inl (wr (i+1),l))):=by
 unfold gL3 gJ4
 simp
theorem x3f (i:Int) (A C:List α) (y x:α) {c:Int} (hA:A.length≤1000000) (hp:p x y=some c) (hc:¬ c < 0):gL3 0 p i ((A.length+1:Nat):Int) (A++y::x::C)=some (.inr (.inl (wr (i+1),A++y::x::C))):=by
 have e1:wr (((A.length+1:Nat):Int) - 1)=(A.length:Int):=by rw [wa (by omega)]; omega
 have e2:at? (A++y::x::C) ((A.length+1:Nat):Int)=some x:=by rw [z2y]; simp
 unfold gL3 gJ4
 rw [if_pos (by simp),e1,e2,x4r]
 simp only [Option.bind_some,hp]
 rw [if_neg (by simpa using hc)]; rfl
theorem x3g (i:Int) (A C:List α) (y x:α) {c:Int} (hA:A.length≤1000000) (hp:p x y=some c) (hc:c < 0):gL3 0 p i ((A.length+1:Nat):Int) (A++y::x::C)=some (.inl ((A.length:Int),A++x::y::C)):=by
 have e1:wr (((A.length+1:Nat):Int) - 1)=(A.length:Int):=by rw [wa (by omega)]; omega
 have e2:at? (A++y::x::C) ((A.length+1:Nat):Int)=some x:=by rw [z2y]; simp
 unfold gL3 gJ4
 rw [if_pos (by simp),e1,e2,x4r]
 simp only [Option.bind_some,hp]
 rw [if_pos (by simpa using hc)]
 simp only [Int.toNat_natCast]
 have e3:at? ((A++y::x::C).set (A.length+1) y) (A.length:Int)=some y:=by
  rw [z2y,List.getElem?_set_ne (by omega)]; simp
 rw [e3]
 simp only [Option.bind_some]
 rw [x6q]
theorem w20 (i:Int) (x:α) (C:List α):∀ (n:Nat) (A B:List α),A.length=n→n≤1000000→(∀ y,y∈A→y2z p q f x y) →
  ∃ A' B',A'++B'=A++B∧iter (fun (s:Int×List α)=>gL3 0 p i s.1 s.2) ((n:Int),A++x::(B++C))=some (.inl (wr (i+1),A'++x::(B'++C))) ∧
   iter (fun (s:Int×List β)=>gL3 0 q i s.1 s.2) ((n:Int),(A++x::(B++C)).map f)=some (.inl (wr (i+1),(A'++x::(B'++C)).map f)):=by
 intro n
 induction n with
 | zero =>
  intro A B hA _ _
  exact ⟨A,B,rfl,Zb (x3e i _),Zb (x3e i _)⟩
 | succ n ih =>
  intro A B hA hn hg
  obtain ⟨A0,y,rfl⟩:∃ A0 y,A=A0++[y]:=by
   rcases List.eq_nil_or_concat A with rfl | ⟨A0,y,h⟩
   ·simp at hA
   ·exact ⟨A0,y,by simpa using h⟩
  have hA0:A0.length=n:=by simpa using hA
  obtain ⟨c,d,h1,h2,h3⟩:=hg y (by simp)
  subst hA0
  have e1:(A0++[y])++x::(B++C)=A0++y::x::(B++C):=by simp
  have e2:(A0++y::x::(B++C)).map f=A0.map f++f y::f x::(B++C).map f:=by simp
  have hl:A0.length=(A0.map f).length:=by simp
  by_cases hc:c < 0
  ·obtain ⟨A',B',q1,q2,q3⟩:=ih A0 (y::B) rfl (by omega) (fun z hz=>hg z (List.mem_append_left _ hz))
   refine ⟨A',B',by rw [q1]; simp,?_,?_⟩
   ·rw [e1]
    exact (y2p (x3g i A0 (B++C) y x (by omega) h1 hc)).trans q2
   ·rw [e1,e2]
    have h4:=x3g i (A0.map f) ((B++C).map f) (f y) (f x) (by rw [← hl]; omega) h2 (h3.1 hc)
    rw [← hl] at h4
    refine (y2p h4).trans ?_
    have e3:(A0++x::(y::B++C)).map f=A0.map f++f x::f y::(B++C).map f:=by simp
    rw [← e3]; exact q3
  ·refine ⟨A0++[y],B,rfl,?_,?_⟩
   ·rw [e1]
    exact Zb (x3f i A0 (B++C) y x (by omega) h1 hc)
   ·rw [e1,e2]
    have h4:=x3f i (A0.map f) ((B++C).map f) (f y) (f x) (by rw [← hl]; omega) h2 (fun h=>hc (h3.2 h))
    rw [← hl] at h4
    exact Zb h4
theorem x2x (m:Nat):∀ (rest pre:List α),pre.length+rest.length=m→m≤1000000→(∀ y x,y∈pre→x∈rest→y2z p q f x y)→rest.Pairwise (fun y x=>y2z p q f x y) →
  ∃ r,r.Perm (pre++rest)∧iter (fun (s:Int×List α)=>gL1 0 (m:Int) p s.1 s.2) ((pre.length:Int),pre++rest)=some r ∧
   iter (fun (s:Int×List β)=>gL1 0 (m:Int) q s.1 s.2) ((pre.length:Int),(pre++rest).map f)=some (r.map f)
 | [],pre,hm,_,_,_=>by
  refine ⟨pre++[],List.Perm.refl _,Zb ?_,Zb ?_⟩
  ·unfold gL1; rw [if_neg (by simp at hm; simp; omega)]
  ·unfold gL1; rw [if_neg (by simp at hm; simp; omega)]
 | x::rest,pre,hm,hb,hg,hp=>by
  simp only [List.length_cons] at hm
  obtain ⟨hp1,hp2⟩:=List.pairwise_cons.1 hp
  obtain ⟨A',B',q1,q2,q3⟩:=w20 (p:=p) (q:=q) (f:=f) (pre.length:Int) x rest pre.length pre [] rfl (by omega) (fun y hy=>hg y x hy (by simp))
  rw [List.append_nil] at q1
  rw [List.nil_append] at q2 q3
  have hw:wr ((pre.length:Int)+1)=((pre.length+1:Nat):Int):=x47 (by omega)
  have hlen:(A'++x::B').length=pre.length+1:=by
   have:=congrArg List.length q1
   simp at this ⊢; omega
  have hperm:(A'++x::B').Perm (x::pre):=by
   rw [← q1]; exact List.perm_middle
  obtain ⟨r,r1,r2,r3⟩:=x2x m rest (A'++x::B') (by rw [hlen]; omega) hb (fun y z hy hz=>by
   rcases List.mem_cons.1 (hperm.mem_iff.1 hy) with rfl | hy
   ·exact hp1 z hz
   ·exact hg y z hy (List.mem_cons_of_mem _ hz)) hp2
  have e0:A'++x::(B'++rest)=(A'++x::B')++rest:=by simp
  rw [hlen,← hw,← e0] at r2 r3
  have hlt:decide ((pre.length:Int) < (m:Int))=true:=by simp; omega
  refine ⟨r,r1.trans ?_,?_,?_⟩
  ·refine (hperm.append_right rest).trans ?_
   exact List.perm_middle.symm
  ·refine (y2p (s':=(wr ((pre.length:Int)+1),A'++x::(B'++rest))) ?_).trans r2
   unfold gL1
   rw [if_pos hlt]
   exact q2
  ·refine (y2p (s':=(wr ((pre.length:Int)+1),(A'++x::(B'++rest)).map f)) ?_).trans r3
   unfold gL1
   rw [if_pos hlt]
   exact q3
theorem w3k (l:List α) (h:l.length≤1000000) (hp:l.Pairwise fun y x=>y2z p q f x y):∃ r,r.Perm l∧gIns l 0 (l.length:Int) p=some r∧gIns (l.map f) 0 (l.length:Int) q=some (r.map f):=by
 have hw:wr ((0:Int)+1)=1:=by decide
 unfold gIns
 rw [hw]
 cases l with
 | nil =>
  refine ⟨[],List.Perm.refl _,Zb ?_,Zb ?_⟩
  ·unfold gL1; rw [if_neg (by simp)]
  ·unfold gL1; rw [if_neg (by simp)]
 | cons x l =>
  obtain ⟨hp1,hp2⟩:=List.pairwise_cons.1 hp
  obtain ⟨r,r1,r2,r3⟩:=x2x (x::l).length l [x] (by simp only [List.length_cons,List.length_nil]; omega) h (fun y z hy hz=>by rw [List.mem_singleton.1 hy]; exact hp1 z hz) hp2
  exact ⟨r,r1,r2,r3⟩
end
noncomputable def gPdq (v1:List α) (v2 v3 v4:Int) (p4:α→α→Option Int):Option (List α):=
 iter (fun (s:Int×Int×Int×Bool×Bool)=>if decide ((wr (s.2.1 - s.1))≤12) then ((gIns v1 s.1 s.2.1 p4).bind fun (r12:List α)=>if r12.length=v1.length then (some (.inr r12)) else none) else (if decide (s.2.2.1=0) then none else none)) (v2,v3,v4,true,true)
theorem w3j (l r:List α) (p:α→α→Option Int) (v:Int) (h:l.length≤12) (hr:gIns l 0 (l.length:Int) p=some r) (hl:r.length=l.length):gPdq l 0 (l.length:Int) v p=some r:=by
 refine Zb ?_
 have e:wr ((l.length:Int) - 0)=(l.length:Int):=by rw [wa (by omega)]; omega
 show (if decide ((wr ((l.length:Int) - 0))≤12) then _ else _)=_
 rw [e,if_pos (by simp; omega),hr]
 simp only [Option.bind_some]
 rw [if_pos hl]
noncomputable def w3i (n2:Int) (bs a19 b20:Int):Option ((Int×Int) ⊕ (Int ⊕ List α)):=
 if decide (b20≤n2) then none else (Option.map .inr (if decide ((wr (a19+bs)) < n2) then none else (some (.inl (wr (bs * 2))))))
noncomputable def y64 (n2:Int) (r13:List α) (bs:Int):Option (Int ⊕ List α):=
 if decide (bs < n2) then (iter (fun (s:Int×Int)=>w3i n2 bs s.1 s.2) (0,wr (2 * bs))) else (some (.inr r13))
noncomputable def x3d (n2:Int) (p2:α→α→Option Int) (a11:Int) (d12:List α):Option (List α):=
 (gIns d12 a11 n2 p2).bind fun (r13:List α)=>if r13.length=d12.length then (iter (fun (s:Int)=>y64 n2 r13 s) 20) else none
noncomputable def y65 (n2:Int) (p2:α→α→Option Int) (a3 b4:Int) (l5:List α):Option ((Int×Int×List α) ⊕ List α):=
 if decide (b4≤n2) then ((gIns l5 a3 b4 p2).bind fun (r8:List α)=>if r8.length=l5.length then (some (.inl (b4,wr (b4+20),r8))) else none) else (Option.map .inr (x3d n2 p2 a3 l5))
noncomputable def w3h (d1:List α) (n2:Int) (p2:α→α→Option Int):Option (List α):=iter (fun (s:Int×Int×List α)=>y65 n2 p2 s.1 s.2.1 s.2.2) (0,20,d1)
theorem w3g (l r:List α) (p:α→α→Option Int) (h:l.length≤19) (hr:gIns l 0 (l.length:Int) p=some r) (hl:r.length=l.length):w3h l (l.length:Int) p=some r:=by
 refine Zb ?_
 show y65 (l.length:Int) p 0 20 l=_
 unfold y65 x3d
 rw [if_neg (by simp; omega),hr]
 simp only [Option.bind_some]
 rw [if_pos hl]
 have:iter (fun (s:Int)=>y64 (l.length:Int) r s) 20=some r:=by
  refine Zb ?_
  unfold y64
  rw [if_neg (by simp; omega)]
 rw [this]; rfl
end
end Go.Proofs.YtmdllhcjefcggacGreatDoor
