/- Plain: slices.SortFunc and slices.SortStableFunc at few elements: two insertion sorts that go side by side. -/
import Derived.Test.YtbndlmnjeofkdaaGreatDoorMfZs
namespace Go.Proofs.YtbndlmnjeofkdaaGreatDoor
set_option linter.unusedVariables false
set_option maxRecDepth 20000
noncomputable def z0v (s:Bs):Option Bool:=
 forL (fun (k:Nat) (x:Bs) (_:Unit)=>z9v k x) (fun (_:Unit)=>z9w s (Lib.cut s [58])) 0 (spl 46 (Lib.cut s [58]).1) ()
noncomputable def y0s (k:Nat) (x:Bs):Option (Unit ⊕ (Bs×Int)):=
 (kn (x.length:Int) 1 63).bind fun r33=>if !r33 then (Ya true) else ((uo x [97,98,99,100,101,102,103,104,105,106,107,108,109,110,111,112,113,114,115,116,117,118,119,120,121,122,65,66,67,68,69,70,71,72,73,74,75,76,77,78,79,80,81,82,83,84,85,86,87,88,89,90,48,49,50,51,52,53,54,55,56,57,45]).bind fun r37=>if !r37 then (Ya true) else (Ya (decide (trL 45 (trR 45 x)≠x))))
theorem w2f (k:Nat) (x:Bs) (h:x.length≤1000000000):z4d k x=y0s k x:=by
 unfold z4d y0s
 rw [z8x 45 (by decide) x h]
 rfl
noncomputable def z30 (r2:(Bs×Bs×Bool)) (r4:(Int×Bool)) (v17:Bool):Option (Bs×Int):=
 if v17 then (some ([],3)) else (if (spl 46 r2.1).length≤1000000000 then forL (fun (k:Nat) (x:Bs) (_:Unit)=>y0s k x) (fun (_:Unit)=>z4e r2 r4) 0 (spl 46 r2.1) () else none)
theorem w2g (r2:(Bs×Bs×Bool)) (r4:(Int×Bool)) (v:Bool) (h:r2.1.length≤100000):Yb r2 r4 v=z30 r2 r4 v:=by
 unfold Yb z30 ve
 cases v
 case true=>rfl
 simp only [Bool.false_eq_true,if_false]
 rw [if_pos (c:=r2.1.length≤1000000000∧_) ⟨by omega,by simp⟩,Yl]
 simp only [Option.bind_some]
 have:forL (fun (k:Nat) (x:Bs) (_:Unit)=>z4d k x) (fun (_:Unit)=>z4e r2 r4) 0 (spl 46 r2.1) ()=forL (fun (k:Nat) (x:Bs) (_:Unit)=>y0s k x) (fun (_:Unit)=>z4e r2 r4) 0 (spl 46 r2.1) ():=by
  refine y5g (fun _=>rfl) _ 0 () fun j x s _ hj => ?_
  have:=Zh 46 r2.1 x (List.mem_of_getElem? hj)
  exact w2f j x (by omega)
 rw [this]
noncomputable def y0r (v1:Bs):Option (Bs×Int):=
 (z99 (Lib.cut v1 [58]).2.1 5).bind fun r4=>if decide (255 < (v1.length:Int)) then (z30 (Lib.cut v1 [58]) r4 true) else (if (Lib.cut v1 [58]).2.2 then (if !r4.2 then (z30 (Lib.cut v1 [58]) r4 true) else ((kn r4.1 1 65535).bind fun r12=>z30 (Lib.cut v1 [58]) r4 (!r12))) else (z30 (Lib.cut v1 [58]) r4 false))
theorem x2c (s:Bs) (c:UInt8):(Lib.cut s [c]).1.length≤s.length:=by
 unfold Lib.cut
 split
 ·simp; omega
 ·exact Nat.le_refl _
theorem z3r (s:Bs) (h:s.length≤100000):uz s=z0v s:=by
 have h1:=x2c s 58
 have h2:=Wb 46 (Lib.cut s [58]).1
 unfold uz z0v km ve
 rw [if_pos (by omega)]
 simp only [Option.bind_some]
 rw [if_pos ⟨by omega,by simp⟩,Yl]
 simp only [Option.bind_some]
 rw [if_pos (by omega)]
theorem x01 (s:Bs) (h:s.length≤100000):Qa s=y0r s:=by
 have h1:=x2c s 58
 unfold Qa y0r km
 rw [if_pos (by omega)]
 simp only [Option.bind_some]
 congr 1
 funext r4
 simp only [w2g _ _ _ (show (Lib.cut s [58]).1.length≤100000 by omega)]
def vn:List Bs:=[[65,46,66,58,56,48],[99,46,100],[97,46,98],[65,46,66],[97,46,98,58,56,48],[99,46,100,58,56,48,56,48],[115,104,111,112,46,101,120,97,109,112,108,101],[97,46,98,58,52,52,51],[97,46,98,58,56,48,56,48],[120,45,49,46,121],[49,46,50,46,51,46,52],[],[97,46,46,98],[45,97,46,98],[97,46,98,58,48],[97,46,98,58,48,56],[97,46,98,58,54,53,53,51,54],[97,95,98],[97,46,98,58],[97,32,98],List.replicate 64 97]
noncomputable def x04 (s:Bs):Bool:=match z0v s,y0r s with
 | some b,some r=>r.2 == (if b then 0 else 3)
 | _,_=>false
theorem w19:vn.all x04=true:=by decide +kernel
theorem z7t:vn.all (fun s=>decide (s.length≤1000))=true:=by decide +kernel
theorem y0q {s:Bs} (h:s∈vn):∃ b r,uz s=some b∧Qa s=some r∧r.2=if b then 0 else 3:=by
 have h1:=List.all_eq_true.1 w19 s h
 have h2:=of_decide_eq_true (List.all_eq_true.1 z7t s h)
 rw [z3r s (by omega),x01 s (by omega)]
 unfold x04 at h1
 split at h1
 ·rename_i b r e1 e2
  exact ⟨b,r,e1,e2,by simpa using h1⟩
 ·cases h1
theorem w3l (c:UInt8):(encL (IntKind.wrap .i32 (c.toNat:Int))).length≤4:=by
 have:=wh (fun c=>decide ((encL (IntKind.wrap .i32 (c.toNat:Int))).length≤4)) (by decide +kernel) c
 exact of_decide_eq_true this
theorem z19 (l:Bs) (a b:Int) (h:0≤a∧a≤b∧b≤(l.length:Int)):Ok (sub? l a b) fun r=>(r.length:Int)=b - a:=by
 unfold sub?
 rw [if_pos h]
 exact yl (by simp; omega)
theorem w38 {k:Int} {s:zn} (h:SB k s) (hk:k≤1000000) (t v:Bs) (ht:t.length≤100000) (hv:v.length≤100000) :
  Ok (z6z s t v) fun r=>r.1.length≤t.length+v.length+4∧SB (k+3) r.2:=by
 unfold z6z
 refine qm (fun _=>yl ⟨by simp only; omega,h.mono (by omega)⟩) (fun h0 => ?_)
 simp only [Bool.or_eq_true,decide_eq_true_eq,not_or] at h0
 have ht0:0 < t.length:=by cases hq:t with | nil=>exact absurd hq h0.1 | cons _ _=>simp
 have hv0:0 < v.length:=by cases hq:v with | nil=>exact absurd hq h0.2 | cons _ _=>simp
 refine ya (xk h (by omega) _ (by omega)) fun r5 h5=>ya (xk h5.2 (by omega) _ (by omega)) fun r7 h7 => ?_
 have b5:=h5.1.2.1 (by omega)
 have b7:=h7.1.2.1 (by omega)
 have c5:=h5.1.1
 have c7:=h7.1.1
 have hat:Ok (at? v r7.1) fun _=>True:=by
  unfold at?
  rw [if_pos c7,List.getElem?_eq_getElem (by omega)]
  exact ⟨_,rfl,trivial⟩
 refine ya hat fun x9 _=>ya (xk h7.2 (by omega) 3 (by omega)) fun r11 h11 => ?_
 have he:=w3l x9
 have hw:wr (r5.1+1)=r5.1+1:=qu (by omega)
 have hS:SB (k+3) r11.2:=h11.2.mono (by omega)
 rw [hw]
 refine qm (fun _ => ?_) (fun _=>qm (fun _ => ?_) (fun _ => ?_))
 ·refine ya (z19 t _ _ ⟨by omega,by omega,by omega⟩) fun l14 h14=>ok_g (by omega) (ya (z19 t _ _ ⟨by omega,by omega,by omega⟩) fun l17 h17=>ok_g (by simp; omega) (yl ⟨by simp; omega,hS⟩))
 ·refine ya (z19 t _ _ ⟨by omega,by omega,by omega⟩) fun l14 h14=>ok_g (by omega) (ya (z19 t _ _ ⟨by omega,by omega,by omega⟩) fun l17 h17=>ok_g (by simp; omega) (yl ⟨by simp; omega,hS⟩))
 ·refine ya (z19 t _ _ ⟨by omega,by omega,by omega⟩) fun l14 h14=>ya (z19 t _ _ ⟨by omega,by omega,by omega⟩) fun l17 h17=>ok_g (by omega) (yl ⟨by simp; omega,hS⟩)
theorem w4w {k:Int} {s:zn} (h:SB k s) (hk:k≤1000):Ok (z0h s) fun r=>r.1.length≤30000∧SB (k+200) r.2:=by
 unfold z0h z06
 refine ya (z2e h (by omega) 0 4 (by omega)) fun r hr => ?_
 obtain ⟨m,hm⟩:∃ m:Nat,r.1=(m:Int):=⟨r.1.toNat,by omega⟩
 rw [hm]
 refine ya (y1s hr.2 (by omega) m (by omega) [38] (by simp) _ ⟨by simp,by simp⟩ (by decide)) fun r2 h2=>ya (vy h2.2 (by omega) 12 (by omega)) fun r3 h3=>qm (fun _ => ?_) (fun _=>yl ⟨h2.1,?_⟩)
 ·refine ya (y1s h3 (by omega) 101 (by omega) [38] (by simp) [[120]] ⟨by simp,by simp⟩ (by decide)) fun r4 h4=>ya (uw h4.2 (by omega) _ ⟨by simp,by simp⟩) fun r5 h5=>yl ⟨?_,?_⟩
  ·have hm:=h5.1
   simp only [List.mem_cons,List.not_mem_nil,or_false] at hm
   rcases hm with e | e | e | e | e | e <;> rw [e] <;> first | decide | exact h4.1
  ·exact h5.2.mono (by omega)
 ·exact h3.mono (by omega)
theorem uh {k:Int} {s:zn} (h:SB k s) (hk:k≤100000000) (B:Nat) (l:List Bs) (hl:l≠[]∧l.length≤1000) (hB:∀ x,x∈l→x.length≤B):Ok (wt s l) fun r=>r.1.length≤B∧SB (k+1) r.2:=
 y9e (uw h hk l hl) fun r hr=>⟨hB _ hr.1,hr.2⟩
theorem y27 (s:Bs) (n:Int) (h:0≤n∧n≤1000000∧s.length≤1000000):Ok (Ys s n) fun r=>r=Lib.repeatL s n.toNat:=by
 unfold Ys
 rw [if_pos h]
 exact yl rfl
theorem x8n {k:Int} {s:zn} (h:SB k s) (hk:k≤100000):Ok (z6v s) fun r=>r.1.length≤100000∧SB (k+30) r.2:=by
 have hJ:∀ (p:Bs) (c:List Int) (a:Int),p.length≤40000→SB (k+20) (zn.mk c a)→Ok (z07 p c a) fun r=>r.1.length≤100000∧SB (k+30) r.2:=by
  intro p c a hp hs
  unfold z07 z4m
  refine ya (vy hs (by omega) 12 (by omega)) fun r hr=>qm (fun _ => ?_) (fun _=>yl ⟨by simp only; omega,hr.mono (by omega)⟩)
  refine ya (w38 hr (by omega) p _ (by omega) (by simp)) fun r2 h2=>yl ⟨?_,h2.2.mono (by omega)⟩
  have:=h2.1
  simp only [List.length_cons,List.length_nil] at this
  simp only
  omega
 unfold z6v
 refine ya (z2e h (by omega) 0 4 (by omega)) fun r hr => ?_
 obtain ⟨m,hm⟩:∃ m:Nat,r.1=(m:Int):=⟨r.1.toNat,by omega⟩
 rw [hm]
 refine ya (y1s hr.2 (by omega) m (by omega) [47] (by simp) _ ⟨by simp,by simp⟩ (by decide)) fun r2 h2=>ok_g (by simp; omega) (ya (vy h2.2 (by omega) 12 (by omega)) fun r3 h3=>qm (fun _ => ?_) (fun _ => ?_))
 ·refine ya (y27 _ _ ⟨by omega,by omega,by simp⟩) fun r4 h4 => ?_
  have hl:r4.length=1020:=by rw [h4]; decide +kernel
  refine ok_g (by simp; omega) (ya (uh h3 (by omega) 2000 _ ⟨by simp,by simp⟩ (by simp [hl])) fun r5 h5 => ?_)
  exact hJ _ _ _ (by have:=h5.1; omega) (h5.2.mono (by omega))
 ·exact hJ _ _ _ (by have:=h2.1; simp; omega) (h3.mono (by omega))
def rqP (r:zu):Prop:=r.Method.length≤100000∧r.Host∈vn∧r.Path.length≤100000∧r.Query.length≤100000∧r.From.length≤100000∧hdsP r.Headers
theorem w2d {k:Int} {s:zn} (h:SB k s) (hk:k≤100000):Ok (z6w s) fun r=>r.1∈vn∧SB (k+1) r.2:=by
 unfold z6w
 refine ya (y27 _ _ ⟨by omega,by omega,by simp⟩) fun r4 h4 => ?_
 have hl:r4=List.replicate 64 97:=by rw [h4]; decide +kernel
 subst hl
 exact ya (uw h (by omega) _ ⟨by simp,by simp⟩) fun r5 h5=>yl ⟨(show ∀ x,x∈([[97,46,98],[97,46,98],[65,46,66],[115,104,111,112,46,101,120,97,109,112,108,101],[97,46,98,58,56,48],[97,46,98,58,52,52,51],[97,46,98,58,56,48,56,48],[120,45,49,46,121],[49,46,50,46,51,46,52],[],[97,46,46,98],[45,97,46,98],[97,46,98,58,48],[97,46,98,58,48,56],[97,46,98,58,54,53,53,51,54],[97,95,98],[97,46,98,58],[97,32,98],List.replicate 64 97]:List Bs)→x∈vn by decide +kernel) _ h5.1,h5.2⟩
abbrev lo (s:Bs):Bs:=Lib.toLowerA s
theorem y4b (x:UInt8):(Lib.lowerB x).toNat=if 65≤x.toNat∧x.toNat≤90 then x.toNat+32 else x.toNat:=by
 have:=wh (fun x=>decide ((Lib.lowerB x).toNat=if 65≤x.toNat∧x.toNat≤90 then x.toNat+32 else x.toNat)) (by decide +kernel) x
 exact of_decide_eq_true this
theorem w24 (x y:UInt8):Lib.foldEq x y=decide (Lib.lowerB x=Lib.lowerB y):=by
 unfold Lib.foldEq
 refine decide_eq_decide.2 ?_
 rw [← UInt8.toNat_inj,y4b,y4b]
 split <;> split <;> omega
theorem x1s:∀ a b:Bs,Lib.equalFold a b=decide (lo a=lo b)
 | [],[]=>rfl
 | [],y::t=>by simp [Lib.equalFold,lo,Lib.toLowerA]
 | x::s,[]=>by simp [Lib.equalFold,lo,Lib.toLowerA]
 | x::s,y::t=>by
  have ih:=x1s s t
  show (Lib.foldEq x y && Lib.equalFold s t)=_
  rw [w24,ih]
  unfold lo Lib.toLowerA
  simp only [List.map_cons,List.cons.injEq]
  by_cases h1:Lib.lowerB x=Lib.lowerB y <;> simp [h1]
theorem Qv {s:Bs} (h:tokB s=true):ascB s=true:=by
 unfold tokB at h
 simp only [Bool.and_eq_true] at h
 unfold ascB
 refine List.all_eq_true.2 fun c hc => ?_
 have h1:=List.all_eq_true.1 h.1 c hc
 have h2:=wh (fun c => !tokL.contains c || decide (c.toNat < 128)) (by decide +kernel) c
 rw [h1] at h2
 simpa using h2
theorem z8z {s:Bs} (h:tokB s=true):s.length≤100:=by
 unfold tokB at h
 simp only [Bool.and_eq_true,decide_eq_true_eq] at h
 omega
def nmB (n:Bs) (h:zo):Bool:=decide (lo h.Name=lo n)
def nmOK (h:zo):Prop:=ascB h.Name=true∧h.Name.length≤100000
theorem x9c (h:zo) (n:Bs) (h1:nmOK h) (h2:ascB n=true):z6h h n=some (nmB n h):=by
 unfold z6h z93
 rw [if_pos ⟨by have:=h1.2; omega,h1.1,h2⟩]
 simp only [Option.bind_some,x1s]
 rfl
theorem w4q (a b:Bs) (ha:ascB a=true∧a.length≤100000) (hb:ascB b=true∧b.length≤100000):z6o a b=some (decide (lo a=lo b)):=by
 unfold z6o jk
 rw [if_pos ⟨by omega,ha.1⟩]
 simp only [Option.bind_some]
 rw [if_pos ⟨by omega,hb.1⟩]
 rfl
theorem y0u {l:List zo} (h:hdsE l=0):∀ x,x∈l→tokB x.Name=true∧fldB x.Value=true:=by
 unfold hdsE at h
 split at h
 ·cases h
 ·have key:∀ (l:List zo) (k:Nat),feI (fun _ h=>hdE h) k l=0→∀ x,x∈l→hdE x=0:=by
   intro l
   induction l with
   | nil=>intro _ _ x hx; cases hx
   | cons y l ih =>
    intro k h x hx
    unfold feI at h
    split at h
    ·rename_i h1; exact absurd h h1
    ·rename_i h1
     rcases List.mem_cons.1 hx with rfl | hx
     ·exact Classical.byContradiction h1
     ·exact ih (k+1) h x hx
  intro x hx
  have h1:=key l 0 h x hx
  unfold hdE at h1
  cases ht:tokB x.Name
  ·rw [ht] at h1; cases h1
  ·cases hf:fldB x.Value
   ·rw [ht,hf] at h1; cases h1
   ·exact ⟨rfl,rfl⟩
theorem z32 {l:List zo} (h:hdsE l=0):l.length≤50:=by
 unfold hdsE at h
 split at h
 ·cases h
 ·omega
theorem y5h {s:Bs} (h:fldB s=true):s.length≤2000:=by
 unfold fldB at h
 simp only [Bool.and_eq_true,decide_eq_true_eq] at h
 omega
abbrev ddL:Bs:=[48,49,50,51,52,53,54,55,56,57]
def isD (c:UInt8):Bool:=ddL.contains c
def dv (c:UInt8):Nat:=c.toNat - 48
def dgD (n:Nat):UInt8:=UInt8.ofNat (48+n)
theorem y5k (c:UInt8) (h:isD c=true):dgD (dv c)=c∧dv c < 10∧(dv c=0→c=48)∧48≤c.toNat∧c.toNat≤57:=by
 have:=wh (fun c => !isD c || decide (dgD (dv c)=c∧dv c < 10∧(dv c=0→c=48)∧48≤c.toNat∧c.toNat≤57)) (by decide +kernel) c
 rw [h] at this
 exact of_decide_eq_true (by simpa only [Bool.not_true,Bool.false_or] using this)
def nvB (l:Bs):Nat:=l.foldl (fun a c=>a * 10+dv c) 0
theorem x8z (l:Bs) (c:UInt8):nvB (l++[c])=nvB l * 10+dv c:=by simp [nvB,List.foldl_append]
theorem x81:∀ (k:Nat) (s:Bs),s.all isD=true→s.length≤k→nvB s < 10 ^ k:=by
 intro k
 induction k with
 | zero=>intro s _ h; obtain rfl:s=[]:=List.length_eq_zero_iff.1 (by omega); decide
 | succ k ih =>
  intro s
  refine y2s (P:=fun s=>s.all isD=true→s.length≤k+1→nvB s < 10 ^ (k+1)) (fun _ _=>Nat.pow_pos (by decide)) (fun p d _ h1 h2 => ?_) s
  simp only [List.all_append,List.all_cons,List.all_nil,Bool.and_true,Bool.and_eq_true] at h1
  have h3:=ih p h1.1 (by simp at h2; omega)
  have h4:=(y5k d h1.2).2.1
  rw [x8z,Nat.pow_succ]
  omega
theorem atL (E:Int→Option (Int×Int)):∀ (s:Bs) (k j v:Nat),s.all isD=true→j+s.length≤18→v < 10 ^ j →
  forL (fun (k:Nat) (x:Int) (q:Int)=>z3z k x q) E k (yj s) (v:Int)=E ((s.foldl (fun a c=>a * 10+dv c) v:Nat):Int)
 | [],k,j,v,_,_,_=>rfl
 | c::s,k,j,v,h,hj,hv=>by
  simp only [List.all_cons,Bool.and_eq_true] at h
  simp only [List.length_cons] at hj
  obtain ⟨_,hd,_,hc1,hc2⟩:=y5k c h.1
  have h9:10 ^ j≤10 ^ 17:=Nat.pow_le_pow_right (by decide) (by omega)
  have e17:(10:Nat) ^ 17=100000000000000000:=by decide
  have ew:IntKind.wrap .u8 ((c.toNat:Int) - 48)=(dv c:Int):=by
   have:=wh (fun c => !isD c || decide (IntKind.wrap .u8 ((c.toNat:Int) - 48)=(dv c:Int))) (by decide +kernel) c
   rw [h.1] at this
   exact of_decide_eq_true (by simpa only [Bool.not_true,Bool.false_or] using this)
  have ei:IntKind.wrap .i64 (dv c:Int)=(dv c:Int):=qu (by omega)
  have e1:wr ((v:Int) * 10)=(v:Int) * 10:=qu (by omega)
  have e2:wr ((v:Int) * 10+(dv c:Int))=((v * 10+dv c:Nat):Int):=by rw [qu (by omega)]; omega
  show (z3z k (c.toNat:Int) (v:Int)).bind _=_
  unfold z3z
  rw [ew,if_neg (by simp; omega),ei,e1,e2]
  simp only [Option.bind_some,after]
  exact (atL E s (k+1) (j+1) (v * 10+dv c) h.2 (by omega) (by rw [Nat.pow_succ]; omega)).trans rfl
theorem atJ (s t:Bs) (ht:t.all isD=true) (hl:t.length≤17):z0y s t=z0z s (nvB t:Int):=by
 unfold z0y
 rw [if_pos (by rw [xj]; omega)]
 exact atL (fun q=>z0z s q) t 0 0 0 ht (by omega) (by decide)
theorem d43 (c:UInt8) (h:isD c=true):(c.toNat:Int)≠45∧(c.toNat:Int)≠43:=by
 have:=(y5k c h).2.2.2
 omega
theorem w4j (t:Bs) (ht:t.all isD=true) (hne:t≠[]) (hl:t.length≤17):Zr t=some ((nvB t:Int),0):=by
 have hi:z0d t=some ((nvB t:Int),0):=by
  cases t with
  | nil=>exact absurd rfl hne
  | cons c r =>
   have hc:isD c=true:=by simp only [List.all_cons,Bool.and_eq_true] at ht; exact ht.1
   have h4:=d43 c hc
   unfold z0d
   rw [if_pos (by simp at hl ⊢; omega)]
   simp only [List.getElem?_cons_zero,Option.bind_some]
   rw [if_neg (by simpa using h4.1)]
   unfold z0x
   rw [if_neg (by simpa using h4.2),atJ _ _ ht hl]
   unfold z0z z0w
   simp only [List.getElem?_cons_zero,Option.bind_some]
   rw [if_neg (by simpa using h4.1)]
 unfold Zr
 rw [hi]; rfl
theorem w4k (t:Bs) (ht:t.all isD=true) (hne:t≠[]) (hl:t.length≤17):Zr (45::t)=some (-(nvB t:Int),0):=by
 have hln:1≤t.length:=by cases t with | nil=>exact absurd rfl hne | cons _ _=>simp
 have hv:=x81 17 t ht hl
 have e17:(10:Nat) ^ 17=100000000000000000:=by decide
 have hi:z0d (45::t)=some (-(nvB t:Int),0):=by
  have hsub:sub? ((45:UInt8)::t) 1 (((45:UInt8)::t).length:Int)=some t:=by
   unfold sub?
   rw [if_pos (by simp only [List.length_cons]; omega),List.take_of_length_le (by simp)]; rfl
  unfold z0d
  rw [if_pos (by simp at hl ⊢; omega)]
  simp only [List.getElem?_cons_zero,Option.bind_some]
  rw [if_pos (by decide)]
  unfold z0x
  rw [if_pos rfl,hsub]
  simp only [Option.bind_some]
  rw [if_neg (by simp; omega),atJ _ _ ht hl]
  unfold z0z z0w
  simp only [List.getElem?_cons_zero,Option.bind_some]
  rw [if_pos (by decide),if_pos (by omega)]
 unfold Zr
 rw [hi]; rfl
def tlB (s:Bs):Bs:=Lib.trimPrefix s [45]
def valB (s:Bs):Int:=if s.head?=some 45 then -(nvB (tlB s):Int) else (nvB s:Int)
def okN (m:Nat) (s:Bs):Bool:=(tlB s).all isD && (decide (tlB s≠[]∧(tlB s).length≤m) && decide ((tlB s).head?≠some 48∨s=[48]))
theorem y67 (c:UInt8) (r:Bs):tlB (c::r)=if c=45 then r else c::r:=by
 unfold tlB Lib.trimPrefix Lib.hasPrefix
 by_cases h:c=45
 ·subst h; simp [List.isPrefixOf]
 ·have:((45:UInt8) == c)=false:=by simpa using fun e:(45:UInt8)=c=>h e.symm
  simp [List.isPrefixOf,this,h]
theorem x35 (r:Bs):valB (45::r)=-(nvB r:Int):=by simp [valB,y67]
theorem x31 (c:UInt8) (r:Bs) (h:c≠45):valB (c::r)=(nvB (c::r):Int):=by simp [valB,h]
theorem w4i (s:Bs) (ht:(tlB s).all isD=true) (hne:tlB s≠[]) (hl:(tlB s).length≤17):Zr s=some (valB s,0):=by
 cases s with
 | nil=>exact absurd rfl hne
 | cons c r =>
  rw [y67] at ht hne hl
  by_cases h:c=45
  ·subst h
   rw [if_pos rfl] at ht hne hl
   rw [x35]
   exact w4k r ht hne hl
  ·rw [if_neg h] at ht hne hl
   rw [x31 c r h]
   exact w4j (c::r) ht hne hl
theorem x1m {α ρ:Type} {body:Nat→α→Unit→Option (Unit ⊕ ρ)} {fin:Unit→Option ρ} {p:α→Bool} {r0:ρ} (h:∀ j x,body j x ()=if p x then some (.inl ()) else some (.inr r0)):∀ (l:List α) (k:Nat),l.all p=false→forL body fin k l ()=some r0
 | [],k,hl=>by cases hl
 | x::l,k,hl=>by
  show (body k x ()).bind _=_
  rw [h k x]
  cases hp:p x
  ·simp [after]
  ·rw [List.all_cons,hp,Bool.true_and] at hl
   simp only [if_true,Option.bind_some,after]
   exact x1m h l (k+1) hl
theorem x5d (s:Bs):(tlB s).length≤s.length:=by
 unfold tlB Lib.trimPrefix
 split
 ·simp
 ·exact Nat.le_refl _
theorem x90 (s:Bs) (m:Nat) (hm:m≤17) (hs:s.length≤1000000):z28 s (m:Int)=some (if okN m s then valB s else 0,okN m s):=by
 have hJ:kq s (tlB s) true=some (0,false):=rfl
 have htl:=x5d s
 have hb:∀ (j:Nat) (x:UInt8),z69 j x=if isD x then some (.inl ()) else some (.inr (0,false)):=fun j x=>by
  have:=wh (fun x=>decide (z69 0 x=if isD x then some (.inl ()) else some (.inr (0,false)))) (by decide +kernel) x
  exact of_decide_eq_true this
 unfold z28 z6c
 simp only [Option.bind_some]
 show (if decide (tlB s=[]) then kq s (tlB s) true else if decide ((m:Int) < ((tlB s).length:Int)) then kq s (tlB s) true else ((tlB s)[0]?).bind fun x9=>if decide ((x9.toNat:Int)=48) then kq s (tlB s) (decide (s≠[48])) else kq s (tlB s) false)=_
 by_cases h0:tlB s=[]
 ·rw [if_pos (by simpa using h0),hJ]
  have:okN m s=false:=by unfold okN; rw [h0]; simp
  rw [this]; rfl
 rw [if_neg (by simpa using h0)]
 by_cases hl:m < (tlB s).length
 ·rw [if_pos (by simp; omega),hJ]
  have:okN m s=false:=by
   unfold okN
   rw [show decide (tlB s≠[]∧(tlB s).length≤m)=false from by simp; intro; omega]
   simp
  rw [this]; rfl
 rw [if_neg (by simp; omega)]
 have hlm:decide (tlB s≠[]∧(tlB s).length≤m)=true:=by simp only [decide_eq_true_eq]; exact ⟨h0,by omega⟩
 have hall:kq s (tlB s) false=some (if (tlB s).all isD then valB s else 0,(tlB s).all isD):=by
  unfold kq
  rw [if_neg (by simp),if_pos (by omega)]
  cases hd:(tlB s).all isD
  ·exact x1m (p:=isD) hb (tlB s) 0 hd
  ·have hf:z3p s=some (valB s,true):=by
    unfold z3p
    rw [w4i s hd h0 (by omega)]; rfl
   rw [z1l (fin:=fun (s_1:Unit)=>z3p s) (e:=(valB s,true)) (p:=fun _ c=>isD c) (r0:=(0,false)) hf (tlB s) 0 (fun j x _ _=>hb j x),y1q,hd]
   rfl
 cases hc:tlB s with
 | nil=>exact absurd hc h0
 | cons c r =>
  rw [hc] at hall hlm h0
  simp only [List.getElem?_cons_zero,Option.bind_some]
  have hok:okN m s=((c::r).all isD && decide ((c::r).head?≠some 48∨s=[48])):=by
   unfold okN
   rw [hc,hlm]; simp
  by_cases h48:c=48
  ·rw [if_pos (by rw [h48]; decide)]
   by_cases hs48:s=[48]
   ·rw [show decide (s≠[48])=false from by simpa using hs48,hall,hok]
    simp [hs48]
   ·rw [show decide (s≠[48])=true from by simpa using hs48]
    have:okN m s=false:=by rw [hok]; simp [h48,hs48]
    rw [this]; rfl
  ·have hcn:¬ ((c.toNat:Int)=48):=fun h=>h48 (UInt8.toNat_inj.1 (by simp; omega))
   rw [if_neg (by simpa using hcn),hall,hok]
   simp [h48]
theorem x2w (s cs:Bs):Lib.containsAny s cs=s.any cs.contains:=by
 unfold Lib.containsAny
 induction s with
 | nil=>rfl
 | cons b l ih =>
  have hge:=Lib.indexAny_ge cs l
  unfold Lib.indexAny
  rw [List.any_cons]
  cases hc:cs.contains b
  ·simp only [Bool.false_eq_true,if_false,Bool.false_or]
   rw [← ih]
   split
   ·rename_i h
    have:Lib.indexAny l cs=-1:=by simpa using h
    rw [this]
   ·refine decide_eq_decide.2 ?_
    rename_i h
    have:¬ Lib.indexAny l cs=-1:=by simpa using h
    omega
  ·simp
theorem w2o (s:Bs) (c:UInt8):Lib.contains s [c]=s.contains c:=by
 unfold Lib.contains
 rcases z1m c s with h | ⟨p,q,h1,h2⟩
 ·rw [y0o c s h]
  have:s.contains c=false:=by simpa using h
  rw [this]
  rfl
 ·subst h1
  rw [y0p c q p h2]
  have:(p++c::q).contains c=true:=by simp
  rw [this]
  simp
theorem w3r (s:Bs) (c:UInt8):(Lib.cut s [c]).1.length≤s.length∧(Lib.cut s [c]).2.1.length≤s.length∧(∀ x,x∈(Lib.cut s [c]).1→x∈s)∧∀ x,x∈(Lib.cut s [c]).2.1→x∈s:=by
 unfold Lib.cut
 split
 ·exact ⟨by simp; omega,by simp,fun x hx=>List.mem_of_mem_take hx,fun x hx=>List.mem_of_mem_drop hx⟩
 ·exact ⟨Nat.le_refl _,by simp,fun x hx=>hx,fun x hx=>by cases hx⟩
theorem y2r (c:UInt8):∀ (s:Bs) (p:Bs),p∈spl c s→∀ x,x∈p→x∈s
 | [],p,h,x,hx=>by
  have:p=[]:=by simpa [spl] using h
  subst this; cases hx
 | b::l,p,h,x,hx=>by
  have ih:=y2r c l
  unfold spl at h
  split at h
  ·rcases List.mem_cons.1 h with rfl | h
   ·cases hx
   ·exact List.mem_cons_of_mem _ (ih p h x hx)
  ·split at h
   ·rename_i q ps hq
    rw [hq] at ih
    rcases List.mem_cons.1 h with rfl | h
    ·rcases List.mem_cons.1 hx with rfl | hx
     ·simp
     ·exact List.mem_cons_of_mem _ (ih q (by simp) x hx)
    ·exact List.mem_cons_of_mem _ (ih p (List.mem_cons_of_mem _ h) x hx)
   ·have:p=[b]:=by simpa using h
    subst this
    have:x=b:=by simpa using hx
    rw [this]; simp
theorem x45 (c:UInt8) (s:Bs):(trL c (trR c s)).length≤s.length∧∀ x,x∈trL c (trR c s)→x∈s:=by
 have h1:=y65 c s
 have h2:(trL c (trR c s)).Sublist (trR c s):=List.dropWhile_sublist _
 refine ⟨Nat.le_trans h2.length_le h1,fun x hx => ?_⟩
 have h3:=h2.subset hx
 unfold trR at h3
 have h4:=(List.dropWhile_sublist (l:=s.reverse) (· == c)).subset (List.mem_reverse.1 h3)
 exact List.mem_reverse.1 h4
def qn (n:Bs) (l:List zo):List Bs:=(l.filter (nmB n)).map fun x=>x.Value
theorem y6n (n:Bs) (hn:ascB n=true):∀ (l:List zo) (k:Nat) (q:List Bs),(∀ x,x∈l→nmOK x)→q.length+l.length≤1000 →
  forL (fun (k:Nat) (x:zo) (s:(List Bs))=>Wm n k x s) (fun (s:(List Bs))=>z9x s) k l q=some (q++qn n l)
 | [],k,q,_,_=>by show some q=_; simp [qn]
 | x::l,k,q,h,hl=>by
  simp only [List.length_cons] at hl
  have hst:Wm n k x q=some (.inl (if nmB n x then q++[x.Value] else q)):=by
   unfold Wm z2n
   rw [x9c x n (h x (by simp)) hn]
   simp only [Option.bind_some]
   cases nmB n x
   ·rfl
   ·simp only [if_true]; rw [if_pos (by omega)]
  show (Wm n k x q).bind _=_
  rw [hst]
  have ih:=y6n n hn l (k+1) (if nmB n x then q++[x.Value] else q) (fun y hy=>h y (List.mem_cons_of_mem _ hy)) (by split <;> first | omega | (simp only [List.length_append,List.length_cons,List.length_nil]; omega))
  refine Eq.trans ih ?_
  unfold qn
  rw [List.filter_cons]
  cases nmB n x <;> simp
theorem y6m (n:Bs) (hn:ascB n=true∧n.length≤100000):∀ (l:List zo) (k:Nat) (q:List Bs),(∀ x,x∈l→nmOK x)→q.length+l.length≤1000 →
  forL (fun (k:Nat) (x:zo) (s:(List Bs))=>z03 n k x s) (fun (s:(List Bs))=>y04 s) k l q=some (q++qn n l)
 | [],k,q,_,_=>by show some q=_; simp [qn]
 | x::l,k,q,h,hl=>by
  simp only [List.length_cons] at hl
  have hst:z03 n k x q=some (.inl (if nmB n x then q++[x.Value] else q)):=by
   unfold z03 z38
   rw [w4q x.Name n (h x (by simp)) hn]
   simp only [Option.bind_some]
   show (if nmB n x=true then _ else _)=_
   cases nmB n x
   ·rfl
   ·simp only [if_true]; rw [if_pos (by omega)]
  show (z03 n k x q).bind _=_
  rw [hst]
  have ih:=y6m n hn l (k+1) (if nmB n x then q++[x.Value] else q) (fun y hy=>h y (List.mem_cons_of_mem _ hy)) (by split <;> first | omega | (simp only [List.length_append,List.length_cons,List.length_nil]; omega))
  refine Eq.trans ih ?_
  unfold qn
  rw [List.filter_cons]
  cases nmB n x <;> simp
theorem z44 (l:List zo) (n:Bs) (hl:l.length≤1000) (h:∀ x,x∈l→nmOK x) (hn:ascB n=true∧n.length≤100000):xa l n=some (qn n l)∧Yz l n=some (qn n l):=by
 constructor
 ·unfold xa
  rw [if_pos (by omega),y6n n hn.1 l 0 [] h (by simpa using hl)]; rfl
 ·unfold Yz
  rw [if_pos (by omega),y6m n hn l 0 [] h (by simpa using hl)]; rfl
theorem w3a {s:Bs} (h:fldB s=true):rgB s 32 126=true:=by
 unfold fldB at h
 simp only [Bool.and_eq_true] at h
 exact h.2.1
section
end
theorem Zi (c x:UInt8) (l:Bs):spl c (x::l)=if x=c then []::spl c l else match spl c l with
  | p::ps=>(x::p)::ps
  | []=>[[x]]:=rfl
theorem y79 (c:UInt8) (b:Bs):∀ a:Bs,spl c (a++c::b)=spl c a++spl c b
 | []=>by
  rw [List.nil_append,Zi,if_pos rfl]; rfl
 | x::a=>by
  rw [List.cons_append,Zi,Zi,y79 c b a]
  by_cases h:x=c
  ·rw [if_pos h,if_pos h]; rfl
  ·rw [if_neg h,if_neg h]
   cases hq:spl c a with
   | nil=>exact absurd hq (z9c c a)
   | cons p ps=>rfl
theorem z9d (c:UInt8):∀ l:List Bs,l≠[]→spl c (Lib.join l [c])=(l.map (spl c)).flatten
 | [],h=>absurd rfl h
 | [x],_=>by rw [Lib.join_one]; simp
 | x::y::l,_=>by
  have h:Lib.join (x::y::l) [c]=x++c::Lib.join (y::l) [c]:=by
   rw [Lib.join_cons,Lib.join_cons]
   simp [Lib.joinTail]
  rw [h,y79,z9d c (y::l) (by simp)]
  simp
def tfB (l:List Bs):List Bs:=(l.map fun p=>trL 32 (trR 32 p)).filter fun p=>decide (p≠[])
theorem y2j (a b:List Bs):tfB (a++b)=tfB a++tfB b:=by simp [tfB]
theorem z81 (l:List Bs):(tfB l).length≤l.length:=by
 unfold tfB
 have:=(List.filter_sublist (p:=fun p:Bs=>decide (p≠[])) (l:=l.map fun p=>trL 32 (trR 32 p))).length_le
 simpa using this
theorem x5e {l:List Bs} {p:Bs} (h:p∈tfB l):∃ q,q∈l∧p.length≤q.length∧∀ c,c∈p→c∈q:=by
 unfold tfB at h
 obtain ⟨q,h1,h2⟩:=List.mem_map.1 (List.mem_filter.1 h).1
 have:=x45 32 q
 rw [h2] at this
 exact ⟨q,h1,this⟩
def ptsB (l:List Bs):List Bs:=tfB (l.map (spl 44)).flatten
theorem x8d {l:List Bs} {p:Bs} (h:p∈ptsB l):∃ v,v∈l∧p.length≤v.length∧∀ c,c∈p→c∈v:=by
 obtain ⟨q,h1,h2,h3⟩:=x5e h
 obtain ⟨x,h4,h5⟩:=List.mem_flatten.1 h1
 obtain ⟨v,h6,rfl⟩:=List.mem_map.1 h4
 have:=Zh 44 v q h5
 exact ⟨v,h6,by omega,fun c hc=>y2r 44 v q h5 c (h3 c hc)⟩
def vlP (V:List Bs):Prop:=V.length≤1000∧∀ v,v∈V→v.length≤2000
theorem y87:∀ (l:List Bs) (k:Nat) (q:List Bs),(∀ x,x∈l→x.length≤2000)→q.length+l.length≤100000000 →
  forL (fun (k:Nat) (x:Bs) (s:(List Bs))=>Zm k x s) (fun (s:(List Bs))=>z2o s) k l q=some (.inl (q++tfB l))
 | [],k,q,_,_=>by show some (Sum.inl q)=_; simp [tfB]
 | x::l,k,q,h,hl=>by
  simp only [List.length_cons] at hl
  have hx:=h x (by simp)
  have hst:Zm k x q=some (.inl (q++tfB [x])):=by
   unfold Zm Zo
   rw [z8x 32 (by decide) x (by omega)]
   simp only [Option.bind_some]
   by_cases h0:trL 32 (trR 32 x)=[]
   ·rw [if_neg (by simpa using h0)]
    simp [tfB,h0]
   ·rw [if_pos (by simpa using h0),if_pos (by omega)]
    simp [tfB,h0]
  show (Zm k x q).bind _=_
  rw [hst]
  have h1:=z81 [x]
  refine Eq.trans (y87 l (k+1) (q++tfB [x]) (fun y hy=>h y (List.mem_cons_of_mem _ hy)) (by simp only [List.length_append,List.length_cons,List.length_nil] at h1 ⊢; omega)) ?_
  rw [List.append_assoc,← y2j]; rfl
theorem y3e:∀ (l:List Bs) (k:Nat) (q:List Bs),(∀ x,x∈l→x.length≤2000)→q.length+l.length≤100000000 →
  forL (fun (k:Nat) (x:Bs) (s:(List Bs))=>z01 k x s) (fun (s:(List Bs))=>y01 s) k l q=some (q++tfB l)
 | [],k,q,_,_=>by show some q=_; simp [tfB]
 | x::l,k,q,h,hl=>by
  simp only [List.length_cons] at hl
  have hx:=h x (by simp)
  have hst:z01 k x q=some (.inl (q++tfB [x])):=by
   unfold z01 z35
   rw [z8x 32 (by decide) x (by omega)]
   simp only [Option.bind_some]
   by_cases h0:trL 32 (trR 32 x)=[]
   ·rw [if_neg (by simpa using h0)]
    simp [tfB,h0]
   ·rw [if_pos (by simpa using h0),if_pos (by omega)]
    simp [tfB,h0]
  show (z01 k x q).bind _=_
  rw [hst]
  have h1:=z81 [x]
  refine Eq.trans (y3e l (k+1) (q++tfB [x]) (fun y hy=>h y (List.mem_cons_of_mem _ hy)) (by simp only [List.length_append,List.length_cons,List.length_nil] at h1 ⊢; omega)) ?_
  rw [List.append_assoc,← y2j]; rfl
theorem y83 (V:List Bs) (h:∀ v,v∈V→v.length≤2000):(V.map (spl 44)).flatten.length≤V.length * 2001∧∀ x,x∈(V.map (spl 44)).flatten→x.length≤2000:=by
 induction V with
 | nil=>simp
 | cons v V ih =>
  obtain ⟨h1,h2⟩:=ih fun x hx=>h x (List.mem_cons_of_mem _ hx)
  have h3:=Wb 44 v
  have h4:=h v (by simp)
  simp only [List.map_cons,List.flatten_cons,List.length_append,List.length_cons,Nat.succ_mul]
  refine ⟨by omega,fun x hx => ?_⟩
  rcases List.mem_append.1 hx with hx | hx
  ·have:=Zh 44 v x hx; omega
  ·exact h2 x hx
theorem y88:∀ (V:List Bs) (k:Nat) (q:List Bs),(∀ v,v∈V→v.length≤2000)→q.length+V.length * 2001≤90000000 →
  forL (fun (k:Nat) (x:Bs) (s:(List Bs))=>Zn k x s) (fun (s:(List Bs))=>z2p s) k V q=some (q++ptsB V)
 | [],k,q,_,_=>by show some q=_; simp [ptsB,tfB]
 | v::V,k,q,h,hl=>by
  simp only [List.length_cons,Nat.succ_mul] at hl
  have hv:=h v (by simp)
  have h3:=Wb 44 v
  have hst:Zn k v q=some (.inl (q++tfB (spl 44 v))):=by
   unfold Zn ve
   rw [if_pos ⟨by omega,by simp⟩,Yl]
   simp only [Option.bind_some]
   rw [if_pos (by omega)]
   exact y87 (spl 44 v) 0 q (fun x hx=>by have:=Zh 44 v x hx; omega) (by omega)
  show (Zn k v q).bind _=_
  rw [hst]
  have h1:=z81 (spl 44 v)
  refine Eq.trans (y88 V (k+1) (q++tfB (spl 44 v)) (fun y hy=>h y (List.mem_cons_of_mem _ hy)) (by simp only [List.length_append]; omega)) ?_
  unfold ptsB
  rw [List.map_cons,List.flatten_cons,y2j,List.append_assoc]
theorem y3d (V:List Bs) (h:vlP V):Yw V=some (ptsB V):=by
 obtain ⟨h1,h2⟩:=h
 unfold Yw
 rw [if_pos (by omega),y88 V 0 [] h2 (by simp; omega)]; rfl
theorem x8p (V:List Bs) (h:vlP V):z6m V=some (ptsB V):=by
 obtain ⟨h1,h2⟩:=h
 have hj:=z0s 2000 [44] V h2
 have hl:V.length * (2000+([44]:Bs).length)≤1000 * 2001:=Nat.mul_le_mul h1 (by simp)
 have hp:=y83 V h2
 unfold z6m vu ve
 rw [if_pos ⟨by omega,by omega⟩]
 simp only [Option.bind_some]
 rw [if_pos ⟨by omega,by simp⟩,Yl]
 simp only [Option.bind_some]
 cases hV:V with
 | nil =>
  have e:spl 44 (Lib.join [] [44])=[[]]:=rfl
  rw [e,if_pos (by simp),y3e [[]] 0 [] (by simp) (by simp)]
  rfl
 | cons v V' =>
  rw [z9d 44 (v::V') (by simp),← hV,if_pos (by omega),y3e _ 0 [] hp.2 (by have:=hp.1; simp only [List.length_nil]; omega)]
  rfl
def idxB (ns:List Bs) (nm:Bs):Int:=fdx (fun x=>decide (nm=x)) 0 ns
theorem y41 (ns:List Bs) (nm:Bs) (h:ns.length≤1000000000):Wx ns nm=some (idxB ns nm):=
 y5e ns (p:=fun x=>some (decide (nm=x))) (fun x=>decide (nm=x)) h fun _ _=>rfl
def aQ (n:Nat) (s:Bs):Bool:=ascB s && decide (s.length≤n)
theorem w4r {n:Nat} {s:Bs} (h:aQ n s=true):ascB s=true∧s.length≤n:=by
 unfold aQ at h
 simpa using h
theorem z9e {k:Int} {s:zn} (h:SB k s) (hk:k≤100000000) (n:Nat) (l:List Bs) (hl:l≠[]∧l.length≤1000) (hQ:l.all (aQ n)=true):Ok (wt s l) fun r=>(ascB r.1=true∧r.1.length≤n)∧SB (k+1) r.2:=
 y9e (uw h hk l hl) fun r hr=>⟨w4r (List.all_eq_true.1 hQ _ hr.1),hr.2⟩
def hdA (h:zo):Prop:=hdP h∧nmOK h
theorem w2m {l:List zo} {x:zo} (h:∀ y,y∈l→hdA y) (hx:hdA x):∀ y,y∈l++[x]→hdA y:=by
 intro y hy
 rcases List.mem_append.1 hy with hy | hy
 ·exact h y hy
 ·rw [List.mem_singleton.1 hy]; exact hx
theorem w2n {a b:Bs} (h1:ascB a=true∧a.length≤3000) (h2:b.length≤30000):hdA (zo.mk a b):=⟨⟨by show a.length≤_; omega,by show b.length≤_; omega⟩,h1.1,by show a.length≤_; omega⟩
theorem x71 (r:zu) (h:rqP r):Ok (vo r) fun e=>z0g r=some e:=by
 obtain ⟨p1,p2,p3,p4,p5,p6⟩:=h
 obtain ⟨b,q,e1,e2,e3⟩:=y0q p2
 have hh:=z00 r.Headers p6
 unfold vo z0g uj z04
 rw [z0u,y3n,Qd _ (by omega),y2d _ (by omega),e1,e2,z5y _ (by omega),y86 _ (by omega),z5w _ (by omega),x79 _ (by omega),x1p,z3s _ (by omega),hh.1,hh.2]
 simp only [Option.bind_some,e3]
 cases momP r.At
 ·exact yl rfl
 ·cases tokB r.Method
  ·exact yl rfl
  ·cases b
   ·exact yl rfl
   ·cases pthB r.Path
    ·exact yl rfl
    ·cases qryB r.Query
     ·exact yl rfl
     ·cases fldB r.From
      ·exact yl rfl
      ·simp only [if_true,Bool.not_true,Bool.false_eq_true,if_false,ne_eq,not_true_eq_false,decide_false]
       split
       ·exact yl rfl
       ·split <;> exact yl rfl
theorem x70 (r:ym) (h:hdsP r.Headers):Ok (xb r) fun e=>z3e r=some e:=by
 have hh:=z00 r.Headers h
 unfold xb z3e
 rw [z9p,y42,hh.1,hh.2]
 simp only [Option.bind_some,Bool.not_not]
 split
 ·exact yl rfl
 ·split
  ·exact yl rfl
  ·split <;> exact yl rfl
def hvP (n B:Nat) (l:List zo):Prop:=l.length≤n∧∀ x,x∈l→nmOK x∧x.Value.length≤B
theorem y43 {n B:Nat} {l:List zo} (h:hvP n B l):∀ x,x∈l→nmOK x:=fun x hx=>(h.2 x hx).1
theorem w2c:z0v []=some false:=by decide +kernel
theorem y26 (r:zu) (h:rqP r):∃ e,vo r=some e∧z0g r=some e∧(e=0→hdsE r.Headers=0∧fldB r.From=true∧(r.Host.length≤2000∧r.Host≠[])):=by
 obtain ⟨e,e1,e2⟩:=x71 r h
 refine ⟨e,e1,e2,fun h0 => ?_⟩
 subst h0
 obtain ⟨p1,p2,p3,p4,p5,p6⟩:=h
 obtain ⟨b,q,c1,c2,c3⟩:=y0q p2
 have hh:=z00 r.Headers p6
 have hl:r.Host.length≤1000:=of_decide_eq_true (List.all_eq_true.1 z7t _ p2)
 have hne:b=true→r.Host≠[]:=fun hb hx=>by
  rw [hx,z3r [] (by simp),w2c,hb] at c1
  cases c1
 unfold vo uj at e1
 rw [z0u,Qd _ (by omega),c1,z5y _ (by omega),z5w _ (by omega),z3s _ (by omega),hh.1] at e1
 simp only [Option.bind_some] at e1
 cases hm:momP r.At
 ·rw [hm] at e1; simp at e1
 ·cases ht:tokB r.Method
  ·rw [hm,ht] at e1; simp at e1
  ·cases b
   ·rw [hm,ht] at e1; simp at e1
   ·cases hp:pthB r.Path
    ·rw [hm,ht,hp] at e1; simp at e1
    ·cases hq:qryB r.Query
     ·rw [hm,ht,hp,hq] at e1; simp at e1
     ·cases hf:fldB r.From
      ·rw [hm,ht,hp,hq,hf] at e1; simp at e1
      ·rw [hm,ht,hp,hq,hf] at e1
       by_cases h0:hdsE r.Headers=0
       ·exact ⟨h0,rfl,by omega,hne rfl⟩
       ·simp [h0] at e1
theorem w2p {r:zu} (h:hdsE r.Headers=0):hvP 50 2000 r.Headers∧∀ x,x∈r.Headers→ascB x.Value=true:=by
 have hok:=y0u h
 exact ⟨⟨z32 h,fun x hx=>⟨⟨Qv (hok x hx).1,by have:=z8z (hok x hx).1; omega⟩,y5h (hok x hx).2⟩⟩,fun x hx=>y8u (w3a (hok x hx).2)⟩
noncomputable def Yo (s1:Bs):Option (Bs×Int):=
 (z0v s1).bind fun (r2:(Bool))=>if !r2 then (some ([],3)) else ((jk s1).bind fun (r5:(Bs))=>(km r5 [58]).bind fun (r7:(Bs×Bs×Bool))=>if (((decide (r7.2.1=[])) || (decide (r7.2.1=[56,48]))) || (decide (r7.2.1=[52,52,51]))) then (some (r7.1,0)) else (if r7.1.length+[58].length≤1000000000 then (if (r7.1++[58]).length+r7.2.1.length≤1000000000 then (some (((r7.1++[58])++r7.2.1),0)) else none) else none))
noncomputable def x02 (s:Bs):Bool:=match Yo s,y0r s with
 | some a,some b=>decide (a=b)
 | _,_=>false
theorem w2a:vn.all x02=true:=by decide +kernel
theorem w2e {s:Bs} (h:s∈vn):∃ r,ua s=some r∧Qa s=some r:=by
 have h1:=List.all_eq_true.1 w2a s h
 have h2:=of_decide_eq_true (List.all_eq_true.1 z7t s h)
 have e:ua s=Yo s:=by
  unfold ua Yo
  rw [z3r s (by omega)]
 rw [e,x01 s (by omega)]
 unfold x02 at h1
 split at h1
 ·rename_i a b e1 e2
  exact ⟨b,by rw [e1,of_decide_eq_true h1],e2⟩
 ·cases h1
section
variable {α β σ τ ρ ρ':Type}
theorem z0t {body:σ→Option (σ ⊕ ρ)} {s s':σ} (h:body s=some (.inl s')):iter body s=iter body s':=by
 have key:∀ r,iter body s=some r↔iter body s'=some r:=fun r=>by
  rw [xd,xd]
  constructor
  ·rintro ⟨n,hn⟩
   cases n with
   | zero=>cases hn
   | succ n =>
    have hn:(body s).bind (after (itN body n))=some r:=hn
    rw [h] at hn
    exact ⟨n,hn⟩
  ·rintro ⟨n,hn⟩
   exact ⟨n+1,by show (body s).bind (after (itN body n))=some r; rw [h]; exact hn⟩
 cases h1:iter body s' with
 | some r=>exact (key r).2 h1
 | none =>
  cases h2:iter body s with
  | none=>rfl
  | some r=>rw [(key r).1 h2] at h1; cases h1
theorem jl {body:σ→Option (σ ⊕ ρ)} {s:σ} {r:ρ} (h:body s=some (.inr r)):iter body s=some r:=
 xd.2 ⟨1,by show (body s).bind (after (itN body 0))=some r; rw [h]; rfl⟩
def gJ4 (i j:Int) (l:List α) (v:Bool):Option ((Int×List α) ⊕ ((Int×List α) ⊕ List α)):=
 if v then ((at? l (wr (j - 1))).bind fun (x22:α)=>(at? l j).bind fun (x24:α)=>(at? (l.set j.toNat x22) (wr (j - 1))).bind fun (x26:α)=>some (.inl (wr (j - 1),((l.set j.toNat x22).set ((wr (j - 1)).toNat) x24)))) else (Option.map .inr (some (.inl (wr (i+1),l))))
def gL3 (a:Int) (p:α→α→Option Int) (i j:Int) (l:List α):Option ((Int×List α) ⊕ ((Int×List α) ⊕ List α)):=
 if decide (a < j) then ((at? l j).bind fun (x13:α)=>(at? l (wr (j - 1))).bind fun (x15:α)=>(p x13 x15).bind fun (r17:Int)=>gJ4 i j l (decide (r17 < 0))) else (gJ4 i j l false)
noncomputable def gL1 (a b:Int) (p:α→α→Option Int) (i:Int) (l:List α):Option ((Int×List α) ⊕ List α):=
 if decide (i < b) then (iter (fun (s:Int×List α)=>gL3 a p i s.1 s.2) (i,l)) else (some (.inr l))
noncomputable def gIns (l:List α) (a b:Int) (p:α→α→Option Int):Option (List α):=iter (fun (s:Int×List α)=>gL1 a b p s.1 s.2) (wr (a+1),l)
theorem x2s (A C:List α) (x:α):at? (A++x::C) (A.length:Int)=some x:=by
 rw [z4y]; simp
theorem x5p (A C:List α) (y x:α):((A++y::x::C).set (A.length+1) y).set A.length x=A++x::y::C:=by
 induction A with
 | nil=>rfl
 | cons a A ih=>simp only [List.cons_append,List.length_cons,List.set_cons_succ,ih]
section
variable {p:α→α→Option Int} {q:β→β→Option Int} {f:α→β}
def y0x (p:α→α→Option Int) (q:β→β→Option Int) (f:α→β) (x y:α):Prop:=∃ c d,p x y=some c∧q (f x) (f y)=some d∧(c < 0↔d < 0)
theorem y5c (i:Int) (l:List α):gL3 0 p i 0 l=some (.inr (.inl (wr (i+1),l))):=by
 unfold gL3 gJ4
 simp
theorem y1d (i:Int) (A C:List α) (y x:α) {c:Int} (hA:A.length≤1000000) (hp:p x y=some c) (hc:¬ c < 0):gL3 0 p i ((A.length+1:Nat):Int) (A++y::x::C)=some (.inr (.inl (wr (i+1),A++y::x::C))):=by
 have e1:wr (((A.length+1:Nat):Int) - 1)=(A.length:Int):=by rw [qu (by omega)]; omega
 have e2:at? (A++y::x::C) ((A.length+1:Nat):Int)=some x:=by rw [z4y]; simp
 unfold gL3 gJ4
 rw [if_pos (by simp),e1,e2,x2s]
 simp only [Option.bind_some,hp]
 rw [if_neg (by simpa using hc)]; rfl
theorem y5d (i:Int) (A C:List α) (y x:α) {c:Int} (hA:A.length≤1000000) (hp:p x y=some c) (hc:c < 0):gL3 0 p i ((A.length+1:Nat):Int) (A++y::x::C)=some (.inl ((A.length:Int),A++x::y::C)):=by
 have e1:wr (((A.length+1:Nat):Int) - 1)=(A.length:Int):=by rw [qu (by omega)]; omega
 have e2:at? (A++y::x::C) ((A.length+1:Nat):Int)=some x:=by rw [z4y]; simp
 unfold gL3 gJ4
 rw [if_pos (by simp),e1,e2,x2s]
 simp only [Option.bind_some,hp]
 rw [if_pos (by simpa using hc)]
 simp only [Int.toNat_natCast]
 have e3:at? ((A++y::x::C).set (A.length+1) y) (A.length:Int)=some y:=by
  rw [z4y,List.getElem?_set_ne (by omega)]; simp
 rw [e3]
 simp only [Option.bind_some]
 rw [x5p]
theorem w15 (i:Int) (x:α) (C:List α):∀ (n:Nat) (A B:List α),A.length=n→n≤1000000→(∀ y,y∈A→y0x p q f x y) →
  ∃ A' B',A'++B'=A++B∧iter (fun (s:Int×List α)=>gL3 0 p i s.1 s.2) ((n:Int),A++x::(B++C))=some (.inl (wr (i+1),A'++x::(B'++C))) ∧
   iter (fun (s:Int×List β)=>gL3 0 q i s.1 s.2) ((n:Int),(A++x::(B++C)).map f)=some (.inl (wr (i+1),(A'++x::(B'++C)).map f)):=by
 intro n
 induction n with
 | zero =>
  intro A B hA _ _
  exact ⟨A,B,rfl,jl (y5c i _),jl (y5c i _)⟩
 | succ n ih =>
  intro A B hA hn hg
  obtain ⟨A0,y,rfl⟩:∃ A0 y,A=A0++[y]:=by
   rcases List.eq_nil_or_concat A with rfl | ⟨A0,y,h⟩
   ·simp at hA
   ·exact ⟨A0,y,by simpa using h⟩
  have hA0:A0.length=n:=by simpa using hA
  obtain ⟨c,d,h1,h2,h3⟩:=hg y (by simp)
  subst hA0
  have e1:(A0++[y])++x::(B++C)=A0++y::x::(B++C):=by simp
  have e2:(A0++y::x::(B++C)).map f=A0.map f++f y::f x::(B++C).map f:=by simp
  have hl:A0.length=(A0.map f).length:=by simp
  by_cases hc:c < 0
  ·obtain ⟨A',B',q1,q2,q3⟩:=ih A0 (y::B) rfl (by omega) (fun z hz=>hg z (List.mem_append_left _ hz))
   refine ⟨A',B',by rw [q1]; simp,?_,?_⟩
   ·rw [e1]
    exact (z0t (y5d i A0 (B++C) y x (by omega) h1 hc)).trans q2
   ·rw [e1,e2]
    have h4:=y5d i (A0.map f) ((B++C).map f) (f y) (f x) (by rw [← hl]; omega) h2 (h3.1 hc)
    rw [← hl] at h4
    refine (z0t h4).trans ?_
    have e3:(A0++x::(y::B++C)).map f=A0.map f++f x::f y::(B++C).map f:=by simp
    rw [← e3]; exact q3
  ·refine ⟨A0++[y],B,rfl,?_,?_⟩
   ·rw [e1]
    exact jl (y1d i A0 (B++C) y x (by omega) h1 hc)
   ·rw [e1,e2]
    have h4:=y1d i (A0.map f) ((B++C).map f) (f y) (f x) (by rw [← hl]; omega) h2 (fun h=>hc (h3.2 h))
    rw [← hl] at h4
    exact jl h4
theorem x0w (m:Nat):∀ (rest pre:List α),pre.length+rest.length=m→m≤1000000→(∀ y x,y∈pre→x∈rest→y0x p q f x y)→rest.Pairwise (fun y x=>y0x p q f x y) →
  ∃ r,r.Perm (pre++rest)∧iter (fun (s:Int×List α)=>gL1 0 (m:Int) p s.1 s.2) ((pre.length:Int),pre++rest)=some r ∧
   iter (fun (s:Int×List β)=>gL1 0 (m:Int) q s.1 s.2) ((pre.length:Int),(pre++rest).map f)=some (r.map f)
 | [],pre,hm,_,_,_=>by
  refine ⟨pre++[],List.Perm.refl _,jl ?_,jl ?_⟩
  ·unfold gL1; rw [if_neg (by simp at hm; simp; omega)]
  ·unfold gL1; rw [if_neg (by simp at hm; simp; omega)]
 | x::rest,pre,hm,hb,hg,hp=>by
  simp only [List.length_cons] at hm
  obtain ⟨hp1,hp2⟩:=List.pairwise_cons.1 hp
  obtain ⟨A',B',q1,q2,q3⟩:=w15 (p:=p) (q:=q) (f:=f) (pre.length:Int) x rest pre.length pre [] rfl (by omega) (fun y hy=>hg y x hy (by simp))
  rw [List.append_nil] at q1
  rw [List.nil_append] at q2 q3
  have hw:wr ((pre.length:Int)+1)=((pre.length+1:Nat):Int):=y1r (by omega)
  have hlen:(A'++x::B').length=pre.length+1:=by
   have:=congrArg List.length q1
   simp at this ⊢; omega
  have hperm:(A'++x::B').Perm (x::pre):=by
   rw [← q1]; exact List.perm_middle
  obtain ⟨r,r1,r2,r3⟩:=x0w m rest (A'++x::B') (by rw [hlen]; omega) hb (fun y z hy hz=>by
   rcases List.mem_cons.1 (hperm.mem_iff.1 hy) with rfl | hy
   ·exact hp1 z hz
   ·exact hg y z hy (List.mem_cons_of_mem _ hz)) hp2
  have e0:A'++x::(B'++rest)=(A'++x::B')++rest:=by simp
  rw [hlen,← hw,← e0] at r2 r3
  have hlt:decide ((pre.length:Int) < (m:Int))=true:=by simp; omega
  refine ⟨r,r1.trans ?_,?_,?_⟩
  ·refine (hperm.append_right rest).trans ?_
   exact List.perm_middle.symm
  ·refine (z0t (s':=(wr ((pre.length:Int)+1),A'++x::(B'++rest))) ?_).trans r2
   unfold gL1
   rw [if_pos hlt]
   exact q2
  ·refine (z0t (s':=(wr ((pre.length:Int)+1),(A'++x::(B'++rest)).map f)) ?_).trans r3
   unfold gL1
   rw [if_pos hlt]
   exact q3
theorem w2z (l:List α) (h:l.length≤1000000) (hp:l.Pairwise fun y x=>y0x p q f x y):∃ r,r.Perm l∧gIns l 0 (l.length:Int) p=some r∧gIns (l.map f) 0 (l.length:Int) q=some (r.map f):=by
 have hw:wr ((0:Int)+1)=1:=by decide
 unfold gIns
 rw [hw]
 cases l with
 | nil =>
  refine ⟨[],List.Perm.refl _,jl ?_,jl ?_⟩
  ·unfold gL1; rw [if_neg (by simp)]
  ·unfold gL1; rw [if_neg (by simp)]
 | cons x l =>
  obtain ⟨hp1,hp2⟩:=List.pairwise_cons.1 hp
  obtain ⟨r,r1,r2,r3⟩:=x0w (x::l).length l [x] (by simp only [List.length_cons,List.length_nil]; omega) h (fun y z hy hz=>by rw [List.mem_singleton.1 hy]; exact hp1 z hz) hp2
  exact ⟨r,r1,r2,r3⟩
end
noncomputable def gPdq (v1:List α) (v2 v3 v4:Int) (p4:α→α→Option Int):Option (List α):=
 iter (fun (s:Int×Int×Int×Bool×Bool)=>if decide ((wr (s.2.1 - s.1))≤12) then ((gIns v1 s.1 s.2.1 p4).bind fun (r12:List α)=>if r12.length=v1.length then (some (.inr r12)) else none) else (if decide (s.2.2.1=0) then none else none)) (v2,v3,v4,true,true)
theorem x1b (l r:List α) (p:α→α→Option Int) (v:Int) (h:l.length≤12) (hr:gIns l 0 (l.length:Int) p=some r) (hl:r.length=l.length):gPdq l 0 (l.length:Int) v p=some r:=by
 refine jl ?_
 have e:wr ((l.length:Int) - 0)=(l.length:Int):=by rw [qu (by omega)]; omega
 show (if decide ((wr ((l.length:Int) - 0))≤12) then _ else _)=_
 rw [e,if_pos (by simp; omega),hr]
 simp only [Option.bind_some]
 rw [if_pos hl]
noncomputable def w2y (n2:Int) (bs a19 b20:Int):Option ((Int×Int) ⊕ (Int ⊕ List α)):=
 if decide (b20≤n2) then none else (Option.map .inr (if decide ((wr (a19+bs)) < n2) then none else (some (.inl (wr (bs * 2))))))
noncomputable def y5a (n2:Int) (r13:List α) (bs:Int):Option (Int ⊕ List α):=
 if decide (bs < n2) then (iter (fun (s:Int×Int)=>w2y n2 bs s.1 s.2) (0,wr (2 * bs))) else (some (.inr r13))
noncomputable def x1a (n2:Int) (p2:α→α→Option Int) (a11:Int) (d12:List α):Option (List α):=
 (gIns d12 a11 n2 p2).bind fun (r13:List α)=>if r13.length=d12.length then (iter (fun (s:Int)=>y5a n2 r13 s) 20) else none
noncomputable def y5b (n2:Int) (p2:α→α→Option Int) (a3 b4:Int) (l5:List α):Option ((Int×Int×List α) ⊕ List α):=
 if decide (b4≤n2) then ((gIns l5 a3 b4 p2).bind fun (r8:List α)=>if r8.length=l5.length then (some (.inl (b4,wr (b4+20),r8))) else none) else (Option.map .inr (x1a n2 p2 a3 l5))
noncomputable def w2x (d1:List α) (n2:Int) (p2:α→α→Option Int):Option (List α):=iter (fun (s:Int×Int×List α)=>y5b n2 p2 s.1 s.2.1 s.2.2) (0,20,d1)
theorem w2w (l r:List α) (p:α→α→Option Int) (h:l.length≤19) (hr:gIns l 0 (l.length:Int) p=some r) (hl:r.length=l.length):w2x l (l.length:Int) p=some r:=by
 refine jl ?_
 show y5b (l.length:Int) p 0 20 l=_
 unfold y5b x1a
 rw [if_neg (by simp; omega),hr]
 simp only [Option.bind_some]
 rw [if_pos hl]
 have:iter (fun (s:Int)=>y5a (l.length:Int) r s) 20=some r:=by
  refine jl ?_
  unfold y5a
  rw [if_neg (by simp; omega)]
 rw [this]; rfl
end
end Go.Proofs.YtbndlmnjeofkdaaGreatDoor
