/- Plain: controls of caches: parts, what is told, texts; the law's last word. -/
import Derived.Test.YtkldmhhbbceaoaaGreatDoorNmZq
namespace Go.Proofs.YtkldmhhbbceaoaaGreatDoor
set_option linter.unusedVariables false
set_option maxRecDepth 20000
abbrev ddL:Bs:=[48,49,50,51,52,53,54,55,56,57]
def isD (c:UInt8):Bool:=ddL.contains c
def dv (c:UInt8):Nat:=c.toNat - 48
def dgD (n:Nat):UInt8:=UInt8.ofNat (48+n)
theorem z4f (u:Nat):Lib.decDigits u=if u < 10 then [dgD u] else Lib.decDigits (u / 10)++[dgD (u % 10)]:=by
 rw [Lib.decDigits]; rfl
theorem z7j (c:UInt8) (h:isD c=true):dgD (dv c)=c∧dv c < 10∧(dv c=0→c=48)∧48≤c.toNat∧c.toNat≤57:=by
 have:=jr (fun c => !isD c || decide (dgD (dv c)=c∧dv c < 10∧(dv c=0→c=48)∧48≤c.toNat∧c.toNat≤57)) (by decide +kernel) c
 rw [h] at this
 exact of_decide_eq_true (by simpa only [Bool.not_true,Bool.false_or] using this)
theorem x2a (n:Nat) (h:n < 10):isD (dgD n)=true∧dv (dgD n)=n∧(dgD n=48→n=0):=by
 have:∀ n,n < 10→isD (dgD n)=true∧dv (dgD n)=n∧(dgD n=48→n=0):=by decide +kernel
 exact this n h
def nvB (l:Bs):Nat:=l.foldl (fun a c=>a * 10+dv c) 0
theorem y2n (l:Bs) (c:UInt8):nvB (l++[c])=nvB l * 10+dv c:=by simp [nvB,List.foldl_append]
theorem y4p:∀ u:Nat,Lib.decDigits u=[48]∨∃ c t,Lib.decDigits u=c::t∧c≠48:=by
 intro u
 induction u using Nat.strongRecOn with
 | _ u ih =>
  rw [z4f]
  split
  ·rename_i h
   by_cases h0:dgD u=48
   ·exact .inl (by rw [h0])
   ·exact .inr ⟨_,_,rfl,h0⟩
  ·rename_i h
   rcases ih (u / 10) (by omega) with h1 | ⟨c,t,h1,h2⟩
   ·exfalso
    have h3:u / 10 < 10∧dgD (u / 10)=48:=by
     rw [z4f] at h1
     split at h1
     ·rename_i h4; exact ⟨h4,by simpa using h1⟩
     ·have:=congrArg List.length h1
      simp only [List.length_append,List.length_singleton] at this
      have h5:Lib.decDigits (u / 10 / 10)=[]:=List.length_eq_zero_iff.1 (by omega)
      rw [z4f] at h5
      split at h5 <;> simp at h5
    have:=(x2a _ h3.1).2.2 h3.2
    omega
   ·exact .inr ⟨c,t++[dgD (u % 10)],by rw [h1]; rfl,h2⟩
def canD (s:Bs):Bool:=s.all isD && (decide (s=[48]) || decide (s.head?≠some 48∧s≠[]))
theorem z92 (s:Bs):canD s=true→Lib.decDigits (nvB s)=s∧(1≤nvB s∨s=[48]):=by
 refine z77 (P:=fun s=>canD s=true→Lib.decDigits (nvB s)=s∧(1≤nvB s∨s=[48])) (by decide) (fun p d ih h => ?_) s
 unfold canD at h
 simp only [Bool.and_eq_true,Bool.or_eq_true,decide_eq_true_eq,List.all_append,List.all_cons,List.all_nil,Bool.and_true] at h
 obtain ⟨⟨hp,hd⟩,hh⟩:=h
 obtain ⟨d1,d2,d3,_⟩:=z7j d hd
 cases p with
 | nil =>
  have e:nvB ([]++[d])=dv d:=by simp [nvB]
  rw [e,z4f,if_pos d2,d1]
  refine ⟨rfl,?_⟩
  by_cases h0:dv d=0
  ·exact .inr (by rw [d3 h0]; rfl)
  ·exact .inl (by omega)
 | cons c t =>
  have hc:c≠48:=by
   rcases hh with h1 | ⟨h1,_⟩
   ·have:=congrArg List.length h1; simp at this
   ·intro h2; rw [h2] at h1; exact h1 rfl
  have hcan:canD (c::t)=true:=by
   unfold canD
   rw [hp]
   simp [hc]
  obtain ⟨i1,i2⟩:=ih hcan
  have i3:1≤nvB (c::t):=by
   rcases i2 with h | h
   ·exact h
   ·exact absurd (List.cons.inj h).1 hc
  rw [y2n]
  have e1:(nvB (c::t) * 10+dv d) / 10=nvB (c::t):=by omega
  have e2:(nvB (c::t) * 10+dv d) % 10=dv d:=by omega
  rw [z4f,if_neg (by omega),e1,e2,i1,d1]
  exact ⟨rfl,.inl (by omega)⟩
theorem z5s:∀ (k:Nat) (s:Bs),s.all isD=true→s.length≤k→nvB s < 10 ^ k:=by
 intro k
 induction k with
 | zero=>intro s _ h; obtain rfl:s=[]:=List.length_eq_zero_iff.1 (by omega); decide
 | succ k ih =>
  intro s
  refine z77 (P:=fun s=>s.all isD=true→s.length≤k+1→nvB s < 10 ^ (k+1)) (fun _ _=>Nat.pow_pos (by decide)) (fun p d _ h1 h2 => ?_) s
  simp only [List.all_append,List.all_cons,List.all_nil,Bool.and_true,Bool.and_eq_true] at h1
  have h3:=ih p h1.1 (by simp at h2; omega)
  have h4:=(z7j d h1.2).2.1
  rw [y2n,Nat.pow_succ]
  omega
theorem atL (E:Int→Option (Int×Int)):∀ (s:Bs) (k j v:Nat),s.all isD=true→j+s.length≤18→v < 10 ^ j →
  forL (fun (k:Nat) (x:Int) (q:Int)=>z09 k x q) E k (ww s) (v:Int)=E ((s.foldl (fun a c=>a * 10+dv c) v:Nat):Int)
 | [],k,j,v,_,_,_=>rfl
 | c::s,k,j,v,h,hj,hv=>by
  simp only [List.all_cons,Bool.and_eq_true] at h
  simp only [List.length_cons] at hj
  obtain ⟨_,hd,_,hc1,hc2⟩:=z7j c h.1
  have h9:10 ^ j≤10 ^ 17:=Nat.pow_le_pow_right (by decide) (by omega)
  have e17:(10:Nat) ^ 17=100000000000000000:=by decide
  have ew:IntKind.wrap .u8 ((c.toNat:Int) - 48)=(dv c:Int):=by
   have:=jr (fun c => !isD c || decide (IntKind.wrap .u8 ((c.toNat:Int) - 48)=(dv c:Int))) (by decide +kernel) c
   rw [h.1] at this
   exact of_decide_eq_true (by simpa only [Bool.not_true,Bool.false_or] using this)
  have ei:IntKind.wrap .i64 (dv c:Int)=(dv c:Int):=vn (by omega)
  have e1:wr ((v:Int) * 10)=(v:Int) * 10:=vn (by omega)
  have e2:wr ((v:Int) * 10+(dv c:Int))=((v * 10+dv c:Nat):Int):=by rw [vn (by omega)]; omega
  show (z09 k (c.toNat:Int) (v:Int)).bind _=_
  unfold z09
  rw [ew,if_neg (by simp; omega),ei,e1,e2]
  simp only [Option.bind_some,after]
  exact (atL E s (k+1) (j+1) (v * 10+dv c) h.2 (by omega) (by rw [Nat.pow_succ]; omega)).trans rfl
theorem atJ (s t:Bs) (ht:t.all isD=true) (hl:t.length≤17):Yp s t=Yq s (nvB t:Int):=by
 unfold Yp
 rw [if_pos (by rw [y8d]; omega)]
 exact atL (fun q=>Yq s q) t 0 0 0 ht (by omega) (by decide)
theorem d43 (c:UInt8) (h:isD c=true):(c.toNat:Int)≠45∧(c.toNat:Int)≠43:=by
 have:=(z7j c h).2.2.2
 omega
theorem x20 (t:Bs) (ht:t.all isD=true) (hne:t≠[]) (hl:t.length≤17):uy t=some ((nvB t:Int),0):=by
 have hi:Ye t=some ((nvB t:Int),0):=by
  cases t with
  | nil=>exact absurd rfl hne
  | cons c r =>
   have hc:isD c=true:=by simp only [List.all_cons,Bool.and_eq_true] at ht; exact ht.1
   have h4:=d43 c hc
   unfold Ye
   rw [if_pos (by simp at hl ⊢; omega)]
   simp only [List.getElem?_cons_zero,Option.bind_some]
   rw [if_neg (by simpa using h4.1)]
   unfold Yo
   rw [if_neg (by simpa using h4.2),atJ _ _ ht hl]
   unfold Yq Yn
   simp only [List.getElem?_cons_zero,Option.bind_some]
   rw [if_neg (by simpa using h4.1)]
 unfold uy
 rw [hi]; rfl
theorem x22 (t:Bs) (ht:t.all isD=true) (hne:t≠[]) (hl:t.length≤17):uy (45::t)=some (-(nvB t:Int),0):=by
 have hln:1≤t.length:=by cases t with | nil=>exact absurd rfl hne | cons _ _=>simp
 have hv:=z5s 17 t ht hl
 have e17:(10:Nat) ^ 17=100000000000000000:=by decide
 have hi:Ye (45::t)=some (-(nvB t:Int),0):=by
  have hsub:sub? ((45:UInt8)::t) 1 (((45:UInt8)::t).length:Int)=some t:=by
   unfold sub?
   rw [if_pos (by simp only [List.length_cons]; omega),List.take_of_length_le (by simp)]; rfl
  unfold Ye
  rw [if_pos (by simp at hl ⊢; omega)]
  simp only [List.getElem?_cons_zero,Option.bind_some]
  rw [if_pos (by decide)]
  unfold Yo
  rw [if_pos rfl,hsub]
  simp only [Option.bind_some]
  rw [if_neg (by simp; omega),atJ _ _ ht hl]
  unfold Yq Yn
  simp only [List.getElem?_cons_zero,Option.bind_some]
  rw [if_pos (by decide),if_pos (by omega)]
 unfold uy
 rw [hi]; rfl
def tlB (s:Bs):Bs:=Lib.trimPrefix s [45]
def valB (s:Bs):Int:=if s.head?=some 45 then -(nvB (tlB s):Int) else (nvB s:Int)
def okN (m:Nat) (s:Bs):Bool:=(tlB s).all isD && (decide (tlB s≠[]∧(tlB s).length≤m) && decide ((tlB s).head?≠some 48∨s=[48]))
theorem z47 (c:UInt8) (r:Bs):tlB (c::r)=if c=45 then r else c::r:=by
 unfold tlB Lib.trimPrefix Lib.hasPrefix
 by_cases h:c=45
 ·subst h; simp [List.isPrefixOf]
 ·have:((45:UInt8) == c)=false:=by simpa using fun e:(45:UInt8)=c=>h e.symm
  simp [List.isPrefixOf,this,h]
theorem z7s (r:Bs):valB (45::r)=-(nvB r:Int):=by simp [valB,z47]
theorem z7r (c:UInt8) (r:Bs) (h:c≠45):valB (c::r)=(nvB (c::r):Int):=by simp [valB,h]
theorem y40 (s:Bs) (ht:(tlB s).all isD=true) (hne:tlB s≠[]) (hl:(tlB s).length≤17):uy s=some (valB s,0):=by
 cases s with
 | nil=>exact absurd rfl hne
 | cons c r =>
  rw [z47] at ht hne hl
  by_cases h:c=45
  ·subst h
   rw [if_pos rfl] at ht hne hl
   rw [z7s]
   exact x22 r ht hne hl
  ·rw [if_neg h] at ht hne hl
   rw [z7r c r h]
   exact x20 (c::r) ht hne hl
theorem x0z (s:Bs) (m:Nat) (ht:(tlB s).all isD=true) (hne:tlB s≠[]) (hl:(tlB s).length≤m) (hm:m≤17):∃ r,z6a (valB s)=some r∧decide (r=s)=okN m s:=by
 have hv:=z5s 17 (tlB s) ht (by omega)
 have e17:(10:Nat) ^ 17=100000000000000000:=by decide
 have hok:okN m s=decide ((tlB s).head?≠some 48∨s=[48]):=by
  unfold okN
  rw [ht,show decide (tlB s≠[]∧(tlB s).length≤m)=true from by simpa using ⟨hne,hl⟩]
  simp
 cases s with
 | nil=>exact absurd rfl hne
 | cons c r =>
  rw [z47] at ht hne hl hv hok
  unfold z6a
  by_cases h:c=45
  ·subst h
   rw [if_pos rfl] at ht hne hl hv hok
   rw [z7s,if_pos (by omega)]
   refine ⟨_,rfl,?_⟩
   rw [hok]
   have hok':decide (r.head?≠some 48∨(45:UInt8)::r=[48])=decide (r.head?≠some 48):=by simp
   rw [hok']
   have hcan:(r.head?≠some 48)→canD r=true:=fun hh=>by
    unfold canD
    rw [ht]
    simp [hh,hne]
   unfold Lib.itoa
   by_cases h0:nvB r=0
   ·rw [if_neg (by omega),h0]
    have h1:r.head?=some 48:=Classical.byContradiction fun hh=>by
     rcases (z92 r (hcan hh)).2 with h2 | h2
     ·omega
     ·rw [h2] at hh; exact hh rfl
    rw [h1]
    have:Lib.decDigits (-((0:Nat):Int)).toNat=[48]:=by decide +kernel
    rw [this]
    simp
   ·rw [if_pos (by omega)]
    have e1:(-(nvB r:Int)).natAbs=nvB r:=by omega
    rw [e1]
    by_cases hh:r.head?=some 48
    ·rw [hh]
     have:¬ (45::Lib.decDigits (nvB r)=45::r):=fun e=>by
      have e2:=(List.cons.inj e).2
      rcases y4p (nvB r) with h3 | ⟨d,t,h3,h4⟩
      ·rw [e2] at h3
       rw [h3] at h0
       exact h0 (by decide)
      ·rw [e2] at h3
       rw [h3] at hh
       exact h4 (by simpa using hh)
     simpa using this
    ·rw [(z92 r (hcan hh)).1]
     simp [hh]
  ·rw [if_neg h] at ht hne hl hv hok
   have hcan:((c::r).head?≠some 48∨c::r=[48])→canD (c::r)=true:=fun hh=>by
    unfold canD
    rw [ht]
    rcases hh with hh | hh
    ·simp only [Bool.true_and,Bool.or_eq_true,decide_eq_true_eq]
     exact .inr ⟨hh,hne⟩
    ·simp only [Bool.true_and,Bool.or_eq_true,decide_eq_true_eq]
     exact .inl hh
   rw [z7r c r h,if_pos (by omega)]
   refine ⟨_,rfl,?_⟩
   rw [hok]
   unfold Lib.itoa
   rw [if_neg (by omega),Int.toNat_natCast]
   refine decide_eq_decide.2 ⟨fun e => ?_,fun hh=>(z92 _ (hcan hh)).1⟩
   rcases y4p (nvB (c::r)) with h3 | ⟨d,t,h3,h4⟩
   ·exact .inr (e.symm.trans h3)
   ·refine .inl ?_
    rw [e.symm.trans h3]
    simpa using h4
theorem y4b {α ρ:Type} {body:Nat→α→Unit→Option (Unit ⊕ ρ)} {fin:Unit→Option ρ} {p:α→Bool} {r0:ρ} (h:∀ j x,body j x ()=if p x then some (.inl ()) else some (.inr r0)):∀ (l:List α) (k:Nat),l.all p=false→forL body fin k l ()=some r0
 | [],k,hl=>by cases hl
 | x::l,k,hl=>by
  show (body k x ()).bind _=_
  rw [h k x]
  cases hp:p x
  ·simp [after]
  ·rw [List.all_cons,hp,Bool.true_and] at hl
   simp only [if_true,Option.bind_some,after]
   exact y4b h l (k+1) hl
theorem y09 (s:Bs):(tlB s).length≤s.length:=by
 unfold tlB Lib.trimPrefix
 split
 ·simp
 ·exact Nat.le_refl _
theorem y8z (s:Bs) (m:Nat) (hm:m≤17) (hs:s.length≤1000000):z0i s (m:Int)=some (if okN m s then valB s else 0,okN m s):=by
 have hJ:jp s (tlB s) true=some (0,false):=rfl
 have htl:=y09 s
 have hb:∀ (j:Nat) (x:UInt8),z3k j x=if isD x then some (.inl ()) else some (.inr (0,false)):=fun j x=>by
  have:=jr (fun x=>decide (z3k 0 x=if isD x then some (.inl ()) else some (.inr (0,false)))) (by decide +kernel) x
  exact of_decide_eq_true this
 unfold z0i z0a
 simp only [Option.bind_some]
 show (if decide (tlB s=[]) then jp s (tlB s) true else if decide ((m:Int) < ((tlB s).length:Int)) then jp s (tlB s) true else ((tlB s)[0]?).bind fun x9=>if decide ((x9.toNat:Int)=48) then jp s (tlB s) (decide (s≠[48])) else jp s (tlB s) false)=_
 by_cases h0:tlB s=[]
 ·rw [if_pos (by simpa using h0),hJ]
  have:okN m s=false:=by unfold okN; rw [h0]; simp
  rw [this]; rfl
 rw [if_neg (by simpa using h0)]
 by_cases hl:m < (tlB s).length
 ·rw [if_pos (by simp; omega),hJ]
  have:okN m s=false:=by
   unfold okN
   rw [show decide (tlB s≠[]∧(tlB s).length≤m)=false from by simp; intro; omega]
   simp
  rw [this]; rfl
 rw [if_neg (by simp; omega)]
 have hlm:decide (tlB s≠[]∧(tlB s).length≤m)=true:=by simp only [decide_eq_true_eq]; exact ⟨h0,by omega⟩
 have hall:jp s (tlB s) false=some (if (tlB s).all isD then valB s else 0,(tlB s).all isD):=by
  unfold jp
  rw [if_neg (by simp),if_pos (by omega)]
  cases hd:(tlB s).all isD
  ·exact y4b (p:=isD) hb (tlB s) 0 hd
  ·have hf:z01 s=some (valB s,true):=by
    unfold z01
    rw [y40 s hd h0 (by omega)]; rfl
   rw [Qu (fin:=fun (s_1:Unit)=>z01 s) (e:=(valB s,true)) (p:=fun _ c=>isD c) (r0:=(0,false)) hf (tlB s) 0 (fun j x _ _=>hb j x),z7m,hd]
   rfl
 cases hc:tlB s with
 | nil=>exact absurd hc h0
 | cons c r =>
  rw [hc] at hall hlm h0
  simp only [List.getElem?_cons_zero,Option.bind_some]
  have hok:okN m s=((c::r).all isD && decide ((c::r).head?≠some 48∨s=[48])):=by
   unfold okN
   rw [hc,hlm]; simp
  by_cases h48:c=48
  ·rw [if_pos (by rw [h48]; decide)]
   by_cases hs48:s=[48]
   ·rw [show decide (s≠[48])=false from by simpa using hs48,hall,hok]
    simp [hs48]
   ·rw [show decide (s≠[48])=true from by simpa using hs48]
    have:okN m s=false:=by rw [hok]; simp [h48,hs48]
    rw [this]; rfl
  ·have hcn:¬ ((c.toNat:Int)=48):=fun h=>h48 (UInt8.toNat_inj.1 (by simp; omega))
   rw [if_neg (by simpa using hcn),hall,hok]
   simp [h48]
theorem y5e (s:Bs) (m:Nat) (hm:m≤17) (ht:(tlB s).all isD=true) (hl:(tlB s).length≤m):-100000000000000000 < valB s∧valB s < 100000000000000000:=by
 have e17:(10:Nat) ^ 17=100000000000000000:=by decide
 cases s with
 | nil=>simp [valB,nvB]
 | cons c r =>
  rw [z47] at ht hl
  by_cases h:c=45
  ·subst h
   rw [if_pos rfl] at ht hl
   rw [z7s]
   have:=z5s 17 r ht (by omega)
   omega
  ·rw [if_neg h] at ht hl
   rw [z7r c r h]
   have:=z5s 17 (c::r) ht (by omega)
   omega
theorem y7y (s:Bs) (m:Nat) (hm:m≤17) (hs:s.length≤1000000):∃ w,xz s (m:Int)=some (w,okN m s)∧(okN m s=true→w=valB s)∧(-100000000000000000 < w∧w < 100000000000000000):=by
 have hJ:ks s true=some (0,false):=rfl
 have htl:=y09 s
 unfold xz z0a
 simp only [Option.bind_some]
 show ∃ w,(if decide (tlB s=[]) then ks s true else if decide ((m:Int) < ((tlB s).length:Int)) then ks s true else (ki (tlB s) [48,49,50,51,52,53,54,55,56,57]).bind fun r9=>ks s (!r9))=some (w,okN m s)∧_
 by_cases h0:tlB s=[]
 ·have:okN m s=false:=by unfold okN; rw [h0]; simp
  rw [if_pos (by simpa using h0),hJ,this]
  exact ⟨0,rfl,(fun h=>by cases h),by decide,by decide⟩
 rw [if_neg (by simpa using h0)]
 by_cases hl:m < (tlB s).length
 ·have:okN m s=false:=by
   unfold okN
   rw [show decide (tlB s≠[]∧(tlB s).length≤m)=false from by simp; intro; omega]
   simp
  rw [if_pos (by simp; omega),hJ,this]
  exact ⟨0,rfl,(fun h=>by cases h),by decide,by decide⟩
 rw [if_neg (by simp; omega),z5r _ _ (by omega)]
 simp only [Option.bind_some]
 cases hd:(tlB s).all fun c=>([48,49,50,51,52,53,54,55,56,57]:Bs).contains c
 ·have:okN m s=false:=by
   unfold okN
   rw [show (tlB s).all isD=false from hd]; simp
  rw [this,Bool.not_false,hJ]
  exact ⟨0,rfl,(fun h=>by cases h),by decide,by decide⟩
 ·have hd':(tlB s).all isD=true:=hd
  obtain ⟨r,h1,h2⟩:=x0z s m hd' h0 (by omega) hm
  rw [Bool.not_true]
  unfold ks z1i
  rw [if_neg (by simp),y40 s hd' h0 (by omega)]
  simp only [Option.bind_some]
  rw [if_pos (by simp),h1]
  simp only [Option.bind_some]
  rw [h2]
  exact ⟨valB s,rfl,fun _=>rfl,y5e s m hm hd' (by omega)⟩
theorem y4r (s:Bs) (c:UInt8):(Lib.cut s [c]).1.length≤s.length∧(Lib.cut s [c]).2.1.length≤s.length∧(∀ x,x∈(Lib.cut s [c]).1→x∈s)∧∀ x,x∈(Lib.cut s [c]).2.1→x∈s:=by
 unfold Lib.cut
 split
 ·exact ⟨by simp; omega,by simp,fun x hx=>List.mem_of_mem_take hx,fun x hx=>List.mem_of_mem_drop hx⟩
 ·exact ⟨Nat.le_refl _,by simp,fun x hx=>hx,fun x hx=>by cases hx⟩
theorem y1v (c:UInt8):∀ (s:Bs) (p:Bs),p∈spl c s→∀ x,x∈p→x∈s
 | [],p,h,x,hx=>by
  have:p=[]:=by simpa [spl] using h
  subst this; cases hx
 | b::l,p,h,x,hx=>by
  have ih:=y1v c l
  unfold spl at h
  split at h
  ·rcases List.mem_cons.1 h with rfl | h
   ·cases hx
   ·exact List.mem_cons_of_mem _ (ih p h x hx)
  ·split at h
   ·rename_i q ps hq
    rw [hq] at ih
    rcases List.mem_cons.1 h with rfl | h
    ·rcases List.mem_cons.1 hx with rfl | hx
     ·simp
     ·exact List.mem_cons_of_mem _ (ih q (by simp) x hx)
    ·exact List.mem_cons_of_mem _ (ih p (List.mem_cons_of_mem _ h) x hx)
   ·have:p=[b]:=by simpa using h
    subst this
    have:x=b:=by simpa using hx
    rw [this]; simp
theorem y5n (c:UInt8) (s:Bs):(trL c (trR c s)).length≤s.length∧∀ x,x∈trL c (trR c s)→x∈s:=by
 have h1:=y06 c s
 have h2:(trL c (trR c s)).Sublist (trR c s):=List.dropWhile_sublist _
 refine ⟨Nat.le_trans h2.length_le h1,fun x hx => ?_⟩
 have h3:=h2.subset hx
 unfold trR at h3
 have h4:=(List.dropWhile_sublist (l:=s.reverse) (· == c)).subset (List.mem_reverse.1 h3)
 exact List.mem_reverse.1 h4
theorem y4a {α σ ρ:Type} {body body':Nat→α→σ→Option (σ ⊕ ρ)} {fin fin':σ→Option ρ} {R:ρ→Prop} (I:Nat→σ→Prop):∀ (l:List α) (k:Nat) (s:σ),I k s →
  (∀ j x s,k≤j→l[j - k]?=some x→I j s→∃ q,body j x s=some q∧body' j x s=some q∧rd (I (j+1)) R q)→(∀ s,I (k+l.length) s→∃ r,fin s=some r∧fin' s=some r∧R r)→∃ r,forL body fin k l s=some r∧forL body' fin' k l s=some r∧R r
 | [],k,s,h0,hs,hf=>hf s h0
 | x::l,k,s,h0,hs,hf=>by
  obtain ⟨q,q1,q2,q3⟩:=hs k x s (Nat.le_refl _) (by simp) h0
  show ∃ r,(body k x s).bind _=some r∧(body' k x s).bind _=some r∧R r
  rw [q1,q2]
  cases q with
  | inl s' =>
   refine y4a I l (k+1) s' q3 (fun j y s hj hy hi=>hs j y s (by omega) ?_ hi) (fun s hi=>hf s ?_)
   ·obtain ⟨m,hm⟩:∃ m,j - k=m+1:=⟨j - k - 1,by omega⟩
    rw [hm,List.getElem?_cons_succ]
    have:j - (k+1)=m:=by omega
    rw [this] at hy; exact hy
   ·simp only [List.length_cons]
    have:k+(l.length+1)=k+1+l.length:=by omega
    rw [this]; exact hi
  | inr r=>exact ⟨r,rfl,rfl,q3⟩
def yu (n:Bs) (l:List zm):List Bs:=(l.filter (nmB n)).map fun x=>x.Value
theorem y0p (n:Bs) (hn:ascB n=true):∀ (l:List zm) (k:Nat) (q:List Bs),(∀ x,x∈l→nmOK x)→q.length+l.length≤1000 →
  forL (fun (k:Nat) (x:zm) (s:(List Bs))=>Zx n k x s) (fun (s:(List Bs))=>z5y s) k l q=some (q++yu n l)
 | [],k,q,_,_=>by show some q=_; simp [yu]
 | x::l,k,q,h,hl=>by
  simp only [List.length_cons] at hl
  have hst:Zx n k x q=some (.inl (if nmB n x then q++[x.Value] else q)):=by
   unfold Zx Ww
   rw [y8f x n (h x (by simp)) hn]
   simp only [Option.bind_some]
   cases nmB n x
   ·rfl
   ·simp only [if_true]; rw [if_pos (by omega)]
  show (Zx n k x q).bind _=_
  rw [hst]
  have ih:=y0p n hn l (k+1) (if nmB n x then q++[x.Value] else q) (fun y hy=>h y (List.mem_cons_of_mem _ hy)) (by split <;> first | omega | (simp only [List.length_append,List.length_cons,List.length_nil]; omega))
  refine Eq.trans ih ?_
  unfold yu
  rw [List.filter_cons]
  cases nmB n x <;> simp
theorem y0o (n:Bs) (hn:ascB n=true∧n.length≤100000):∀ (l:List zm) (k:Nat) (q:List Bs),(∀ x,x∈l→nmOK x)→q.length+l.length≤1000 →
  forL (fun (k:Nat) (x:zm) (s:(List Bs))=>Yv n k x s) (fun (s:(List Bs))=>z68 s) k l q=some (q++yu n l)
 | [],k,q,_,_=>by show some q=_; simp [yu]
 | x::l,k,q,h,hl=>by
  simp only [List.length_cons] at hl
  have hst:Yv n k x q=some (.inl (if nmB n x then q++[x.Value] else q)):=by
   unfold Yv z1f
   rw [x3d x.Name n (h x (by simp)) hn]
   simp only [Option.bind_some]
   show (if nmB n x=true then _ else _)=_
   cases nmB n x
   ·rfl
   ·simp only [if_true]; rw [if_pos (by omega)]
  show (Yv n k x q).bind _=_
  rw [hst]
  have ih:=y0o n hn l (k+1) (if nmB n x then q++[x.Value] else q) (fun y hy=>h y (List.mem_cons_of_mem _ hy)) (by split <;> first | omega | (simp only [List.length_append,List.length_cons,List.length_nil]; omega))
  refine Eq.trans ih ?_
  unfold yu
  rw [List.filter_cons]
  cases nmB n x <;> simp
theorem xm (l:List zm) (n:Bs) (hl:l.length≤1000) (h:∀ x,x∈l→nmOK x) (hn:ascB n=true∧n.length≤100000):vy l n=some (yu n l)∧jo l n=some (yu n l):=by
 constructor
 ·unfold vy
  rw [if_pos (by omega),y0p n hn.1 l 0 [] h (by simpa using hl)]; rfl
 ·unfold jo
  rw [if_pos (by omega),y0o n hn l 0 [] h (by simpa using hl)]; rfl
theorem y4f {s:Bs} (h:fldB s=true):rgB s 32 126=true:=by
 unfold fldB at h
 simp only [Bool.and_eq_true] at h
 exact h.2.1
section
end
theorem z74 (c x:UInt8) (l:Bs):spl c (x::l)=if x=c then []::spl c l else match spl c l with
  | p::ps=>(x::p)::ps
  | []=>[[x]]:=rfl
theorem y1x (c:UInt8) (b:Bs):∀ a:Bs,spl c (a++c::b)=spl c a++spl c b
 | []=>by
  rw [List.nil_append,z74,if_pos rfl]; rfl
 | x::a=>by
  rw [List.cons_append,z74,z74,y1x c b a]
  by_cases h:x=c
  ·rw [if_pos h,if_pos h]; rfl
  ·rw [if_neg h,if_neg h]
   cases hq:spl c a with
   | nil=>exact absurd hq (y6v c a)
   | cons p ps=>rfl
theorem y1w (c:UInt8):∀ l:List Bs,l≠[]→spl c (Lib.join l [c])=(l.map (spl c)).flatten
 | [],h=>absurd rfl h
 | [x],_=>by rw [Lib.join_one]; simp
 | x::y::l,_=>by
  have h:Lib.join (x::y::l) [c]=x++c::Lib.join (y::l) [c]:=by
   rw [Lib.join_cons,Lib.join_cons]
   simp [Lib.joinTail]
  rw [h,y1x,y1w c (y::l) (by simp)]
  simp
def tfB (l:List Bs):List Bs:=(l.map fun p=>trL 32 (trR 32 p)).filter fun p=>decide (p≠[])
theorem z7z (a b:List Bs):tfB (a++b)=tfB a++tfB b:=by simp [tfB]
theorem z48 (l:List Bs):(tfB l).length≤l.length:=by
 unfold tfB
 have:=(List.filter_sublist (p:=fun p:Bs=>decide (p≠[])) (l:=l.map fun p=>trL 32 (trR 32 p))).length_le
 simpa using this
theorem y5v {l:List Bs} {p:Bs} (h:p∈tfB l):∃ q,q∈l∧p.length≤q.length∧∀ c,c∈p→c∈q:=by
 unfold tfB at h
 obtain ⟨q,h1,h2⟩:=List.mem_map.1 (List.mem_filter.1 h).1
 have:=y5n 32 q
 rw [h2] at this
 exact ⟨q,h1,this⟩
def ptsB (l:List Bs):List Bs:=tfB (l.map (spl 44)).flatten
theorem z8j {l:List Bs} {p:Bs} (h:p∈ptsB l):∃ v,v∈l∧p.length≤v.length∧∀ c,c∈p→c∈v:=by
 obtain ⟨q,h1,h2,h3⟩:=y5v h
 obtain ⟨x,h4,h5⟩:=List.mem_flatten.1 h1
 obtain ⟨v,h6,rfl⟩:=List.mem_map.1 h4
 have:=z2f 44 v q h5
 exact ⟨v,h6,by omega,fun c hc=>y1v 44 v q h5 c (h3 c hc)⟩
def vlP (V:List Bs):Prop:=V.length≤1000∧∀ v,v∈V→v.length≤2000
theorem y2f:∀ (l:List Bs) (k:Nat) (q:List Bs),(∀ x,x∈l→x.length≤2000)→q.length+l.length≤100000000 →
  forL (fun (k:Nat) (x:Bs) (s:(List Bs))=>ur k x s) (fun (s:(List Bs))=>Wx s) k l q=some (.inl (q++tfB l))
 | [],k,q,_,_=>by show some (Sum.inl q)=_; simp [tfB]
 | x::l,k,q,h,hl=>by
  simp only [List.length_cons] at hl
  have hx:=h x (by simp)
  have hst:ur k x q=some (.inl (q++tfB [x])):=by
   unfold ur uu
   rw [z43 32 (by decide) x (by omega)]
   simp only [Option.bind_some]
   by_cases h0:trL 32 (trR 32 x)=[]
   ·rw [if_neg (by simpa using h0)]
    simp [tfB,h0]
   ·rw [if_pos (by simpa using h0),if_pos (by omega)]
    simp [tfB,h0]
  show (ur k x q).bind _=_
  rw [hst]
  have h1:=z48 [x]
  refine Eq.trans (y2f l (k+1) (q++tfB [x]) (fun y hy=>h y (List.mem_cons_of_mem _ hy)) (by simp only [List.length_append,List.length_cons,List.length_nil] at h1 ⊢; omega)) ?_
  rw [List.append_assoc,← z7z]; rfl
theorem z8l:∀ (l:List Bs) (k:Nat) (q:List Bs),(∀ x,x∈l→x.length≤2000)→q.length+l.length≤100000000 →
  forL (fun (k:Nat) (x:Bs) (s:(List Bs))=>Yt k x s) (fun (s:(List Bs))=>z66 s) k l q=some (q++tfB l)
 | [],k,q,_,_=>by show some q=_; simp [tfB]
 | x::l,k,q,h,hl=>by
  simp only [List.length_cons] at hl
  have hx:=h x (by simp)
  have hst:Yt k x q=some (.inl (q++tfB [x])):=by
   unfold Yt z1d
   rw [z43 32 (by decide) x (by omega)]
   simp only [Option.bind_some]
   by_cases h0:trL 32 (trR 32 x)=[]
   ·rw [if_neg (by simpa using h0)]
    simp [tfB,h0]
   ·rw [if_pos (by simpa using h0),if_pos (by omega)]
    simp [tfB,h0]
  show (Yt k x q).bind _=_
  rw [hst]
  have h1:=z48 [x]
  refine Eq.trans (z8l l (k+1) (q++tfB [x]) (fun y hy=>h y (List.mem_cons_of_mem _ hy)) (by simp only [List.length_append,List.length_cons,List.length_nil] at h1 ⊢; omega)) ?_
  rw [List.append_assoc,← z7z]; rfl
theorem y2a (V:List Bs) (h:∀ v,v∈V→v.length≤2000):(V.map (spl 44)).flatten.length≤V.length * 2001∧∀ x,x∈(V.map (spl 44)).flatten→x.length≤2000:=by
 induction V with
 | nil=>simp
 | cons v V ih =>
  obtain ⟨h1,h2⟩:=ih fun x hx=>h x (List.mem_cons_of_mem _ hx)
  have h3:=z5f 44 v
  have h4:=h v (by simp)
  simp only [List.map_cons,List.flatten_cons,List.length_append,List.length_cons,Nat.succ_mul]
  refine ⟨by omega,fun x hx => ?_⟩
  rcases List.mem_append.1 hx with hx | hx
  ·have:=z2f 44 v x hx; omega
  ·exact h2 x hx
theorem y2g:∀ (V:List Bs) (k:Nat) (q:List Bs),(∀ v,v∈V→v.length≤2000)→q.length+V.length * 2001≤90000000 →
  forL (fun (k:Nat) (x:Bs) (s:(List Bs))=>ut k x s) (fun (s:(List Bs))=>Wy s) k V q=some (q++ptsB V)
 | [],k,q,_,_=>by show some q=_; simp [ptsB,tfB]
 | v::V,k,q,h,hl=>by
  simp only [List.length_cons,Nat.succ_mul] at hl
  have hv:=h v (by simp)
  have h3:=z5f 44 v
  have hst:ut k v q=some (.inl (q++tfB (spl 44 v))):=by
   unfold ut kg
   rw [if_pos ⟨by omega,by simp⟩,z5e]
   simp only [Option.bind_some]
   rw [if_pos (by omega)]
   exact y2f (spl 44 v) 0 q (fun x hx=>by have:=z2f 44 v x hx; omega) (by omega)
  show (ut k v q).bind _=_
  rw [hst]
  have h1:=z48 (spl 44 v)
  refine Eq.trans (y2g V (k+1) (q++tfB (spl 44 v)) (fun y hy=>h y (List.mem_cons_of_mem _ hy)) (by simp only [List.length_append]; omega)) ?_
  unfold ptsB
  rw [List.map_cons,List.flatten_cons,z7z,List.append_assoc]
theorem z2j (V:List Bs) (h:vlP V):xw V=some (ptsB V):=by
 obtain ⟨h1,h2⟩:=h
 unfold xw
 rw [if_pos (by omega),y2g V 0 [] h2 (by simp; omega)]; rfl
theorem y2e (V:List Bs) (h:vlP V):z0l V=some (ptsB V):=by
 obtain ⟨h1,h2⟩:=h
 have hj:=z6t 2000 [44] V h2
 have hl:V.length * (2000+([44]:Bs).length)≤1000 * 2001:=Nat.mul_le_mul h1 (by simp)
 have hp:=y2a V h2
 unfold z0l kh kg
 rw [if_pos ⟨by omega,by omega⟩]
 simp only [Option.bind_some]
 rw [if_pos ⟨by omega,by simp⟩,z5e]
 simp only [Option.bind_some]
 cases hV:V with
 | nil =>
  have e:spl 44 (Lib.join [] [44])=[[]]:=rfl
  rw [e,if_pos (by simp),z8l [[]] 0 [] (by simp) (by simp)]
  rfl
 | cons v V' =>
  rw [y1w 44 (v::V') (by simp),← hV,if_pos (by omega),z8l _ 0 [] hp.2 (by have:=hp.1; simp only [List.length_nil]; omega)]
  rfl
def idxB (ns:List Bs) (nm:Bs):Int:=fdx (fun x=>decide (nm=x)) 0 ns
theorem z1a (ns:List Bs) (nm:Bs) (h:ns.length≤1000000000):uz ns nm=some (idxB ns nm):=
 y36 ns (p:=fun x=>some (decide (nm=x))) (fun x=>decide (nm=x)) h fun _ _=>rfl
def aQ (n:Nat) (s:Bs):Bool:=ascB s && decide (s.length≤n)
theorem x3e {n:Nat} {s:Bs} (h:aQ n s=true):ascB s=true∧s.length≤n:=by
 unfold aQ at h
 simpa using h
theorem z5h {k:Int} {s:zh} (h:SB k s) (hk:k≤100000000) (n:Nat) (l:List Bs) (hl:l≠[]∧l.length≤1000) (hQ:l.all (aQ n)=true):Ok (qf s l) fun r=>(ascB r.1=true∧r.1.length≤n)∧SB (k+1) r.2:=
 y2l (ko h hk l hl) fun r hr=>⟨x3e (List.all_eq_true.1 hQ _ hr.1),hr.2⟩
def hdA (h:zm):Prop:=hdP h∧nmOK h
theorem x1b {l:List zm} {x:zm} (h:∀ y,y∈l→hdA y) (hx:hdA x):∀ y,y∈l++[x]→hdA y:=by
 intro y hy
 rcases List.mem_append.1 hy with hy | hy
 ·exact h y hy
 ·rw [List.mem_singleton.1 hy]; exact hx
theorem x1c {a b:Bs} (h1:ascB a=true∧a.length≤3000) (h2:b.length≤30000):hdA (zm.mk a b):=⟨⟨by show a.length≤_; omega,by show b.length≤_; omega⟩,h1.1,by show a.length≤_; omega⟩
theorem y7q (r:yv) (h:rqP r):Ok (Yd r) fun e=>z0o r=some e:=by
 obtain ⟨p1,p2,p3,p4,p5,p6⟩:=h
 obtain ⟨b,q,e1,e2,e3⟩:=y32 p2
 have hh:=z38 r.Headers p6
 unfold Yd z0o uv Yz
 rw [y3y,y8g,z3r _ (by omega),z44 _ (by omega),e1,e2,y2d _ (by omega),y75 _ (by omega),y18 _ (by omega),y70 _ (by omega),y4i,z6w _ (by omega),hh.1,hh.2]
 simp only [Option.bind_some,e3]
 cases momP r.At
 ·exact ym rfl
 ·cases tokB r.Method
  ·exact ym rfl
  ·cases b
   ·exact ym rfl
   ·cases pthB r.Path
    ·exact ym rfl
    ·cases qryB r.Query
     ·exact ym rfl
     ·cases fldB r.From
      ·exact ym rfl
      ·simp only [if_true,Bool.not_true,Bool.false_eq_true,if_false,ne_eq,not_true_eq_false,decide_false]
       split
       ·exact ym rfl
       ·split <;> exact ym rfl
theorem y7m (r:ya) (h:hdsP r.Headers):Ok (jt r) fun e=>z0n r=some e:=by
 have hh:=z38 r.Headers h
 unfold jt z0n
 rw [z5p,z6z,hh.1,hh.2]
 simp only [Option.bind_some,Bool.not_not]
 split
 ·exact ym rfl
 ·split
  ·exact ym rfl
  ·split <;> exact ym rfl
theorem x07:z6v []=some false:=by decide +kernel
theorem y7p (r:yv) (h:rqP r):∃ e,Yd r=some e∧z0o r=some e∧(e=0→hdsE r.Headers=0∧fldB r.From=true∧(r.Host.length≤2000∧r.Host≠[])):=by
 obtain ⟨e,e1,e2⟩:=y7q r h
 refine ⟨e,e1,e2,fun h0 => ?_⟩
 subst h0
 obtain ⟨p1,p2,p3,p4,p5,p6⟩:=h
 obtain ⟨b,q,c1,c2,c3⟩:=y32 p2
 have hh:=z38 r.Headers p6
 have hl:r.Host.length≤1000:=of_decide_eq_true (List.all_eq_true.1 y31 _ p2)
 have hne:b=true→r.Host≠[]:=fun hb hx=>by
  rw [hx,y3z [] (by simp),x07,hb] at c1
  cases c1
 unfold Yd uv at e1
 rw [y3y,z3r _ (by omega),c1,y2d _ (by omega),y18 _ (by omega),z6w _ (by omega),hh.1] at e1
 simp only [Option.bind_some] at e1
 cases hm:momP r.At
 ·rw [hm] at e1; simp at e1
 ·cases ht:tokB r.Method
  ·rw [hm,ht] at e1; simp at e1
  ·cases b
   ·rw [hm,ht] at e1; simp at e1
   ·cases hp:pthB r.Path
    ·rw [hm,ht,hp] at e1; simp at e1
    ·cases hq:qryB r.Query
     ·rw [hm,ht,hp,hq] at e1; simp at e1
     ·cases hf:fldB r.From
      ·rw [hm,ht,hp,hq,hf] at e1; simp at e1
      ·rw [hm,ht,hp,hq,hf] at e1
       by_cases h0:hdsE r.Headers=0
       ·exact ⟨h0,rfl,by omega,hne rfl⟩
       ·simp [h0] at e1
section
variable {α β σ τ ρ ρ':Type}
section
variable {p:α→α→Option Int} {q:β→β→Option Int} {f:α→β}
end
end
theorem y8l {s:Bs} (h:ascB s=true∧s.length≤100000):vu s=some (lo s):=by
 unfold vu
 rw [if_pos ⟨by omega,h.1⟩]
def flN:List Bs:=[[110,111,45,115,116,111,114,101],[110,111,45,99,97,99,104,101],[112,114,105,118,97,116,101],[112,117,98,108,105,99],[109,117,115,116,45,114,101,118,97,108,105,100,97,116,101],[111,110,108,121,45,105,102,45,99,97,99,104,101,100]]
def cnN:List Bs:=[[109,97,120,45,97,103,101],[115,45,109,97,120,97,103,101],[115,116,97,108,101,45,119,104,105,108,101,45,114,101,118,97,108,105,100,97,116,101],[115,116,97,108,101,45,105,102,45,101,114,114,111,114],[109,97,120,45,115,116,97,108,101],[109,105,110,45,102,114,101,115,104]]
theorem z60 {ns:List Bs} {nm:Bs} (h:0≤idxB ns nm):∃ j:Nat,idxB ns nm=(j:Int)∧j < ns.length∧nm∈ns:=by
 obtain ⟨_,x,h2,h3⟩:=(z90 (fun x=>decide (nm=x)) ns 0).2 h
 refine ⟨(idxB ns nm).toNat,by omega,?_,?_⟩
 ·have:=(List.getElem?_eq_some_iff.1 h2).1
  exact this
 ·have e:nm=x:=by simpa using h3
  rw [e]; exact List.mem_of_getElem? h2
theorem x1l:∀ x,x∈flN→idxB cnN x < 0:=by decide +kernel
theorem y4h:∀ j:Nat,j < 6→at? ([0,1,2,3,4,5]:List Int) (j:Int)=some (j:Int)∧z4g (j:Int)=true:=by decide +kernel
theorem y4v:∀ j:Nat,j < 6→at? ([6,7,8,9,10,11]:List Int) (j:Int)=some (6+(j:Int))∧jy (6+(j:Int))=true:=by decide +kernel
def nOf (v:Bs):Int:=if okN 9 v then valB v else 0
def sOK (v:Bs):Bool:=okN 9 v && !outP (valB v) 0 100000000
theorem y62 (v:Bs) (h:v.length≤1000000):z3i v=some (nOf v,sOK v):=by
 have hk:z0i v 9=some (if okN 9 v then valB v else 0,okN 9 v):=y8z v 9 (by omega) h
 unfold z3i z2s z10 nOf sOK
 rw [hk]
 simp only [Option.bind_some]
 cases okN 9 v
 ·rfl
 ·simp only [if_true,z5p,Option.bind_some,Bool.true_and]
def numC (c:zv) (i n:Int):zv:=if wg c (6+i)=-1∨n < wg c (6+i) then ke c (6+i) n else c
def vm (c:zv) (x:Bs):Bool×zv:=
 let r:=Lib.cut x [61]
 if !tokB r.1 || (r.2.2 && !sOK r.2.1) then (false,c)
 else if 0≤idxB flN (lo r.1) then (!r.2.2,jd c (idxB flN (lo r.1)) true)
 else if idxB cnN (lo r.1) < 0 then (true,c)
 else (r.2.2,numC c (idxB cnN (lo r.1)) (nOf r.2.1))
theorem y5q (c:zv) (x:Bs) (h:x.length≤1000000):z0y c x=some (vm c x):=by
 obtain ⟨c1,c2,c3,c4⟩:=y4r x 61
 unfold z0y vm ky
 rw [if_pos (by omega)]
 simp only [Option.bind_some]
 generalize Lib.cut x [61]=r at *
 rw [y62 _ (by omega),z3r _ (by omega)]
 simp only [Option.bind_some]
 cases ht:tokB r.1
 ·rfl
 simp only [Bool.not_true,Bool.false_or]
 cases hs:(r.2.2 && !sOK r.2.1)
 ·simp only [Bool.false_eq_true,if_false]
  have hlow:vu r.1=some (lo r.1):=by
   unfold vu
   rw [if_pos ⟨by omega,z45 ht⟩]
  have hf:z6k=some (flN,[0,1,2,3,4,5]):=rfl
  have hc:z3j=some (cnN,[6,7,8,9,10,11]):=rfl
  rw [hlow,hf,hc]
  simp only [Option.bind_some]
  rw [z1a flN (lo r.1) (by decide),z1a cnN (lo r.1) (by decide)]
  simp only [Option.bind_some]
  by_cases h0:0≤idxB flN (lo r.1)
  ·obtain ⟨j,j1,j2,_⟩:=z60 h0
   obtain ⟨a1,a2⟩:=y4h j j2
   rw [if_pos (by simpa using h0),if_pos h0,j1,a1]
   simp only [Option.bind_some]
   rw [if_pos a2]
  ·rw [if_neg (by simpa using h0),if_neg h0]
   by_cases h1:idxB cnN (lo r.1) < 0
   ·rw [if_pos (by simpa using h1),if_pos h1]
   ·rw [if_neg (by simpa using h1),if_neg h1]
    obtain ⟨j,j1,j2,_⟩:=z60 (show 0≤idxB cnN (lo r.1) by omega)
    obtain ⟨a1,a2⟩:=y4v j j2
    unfold z1x z1y numC
    rw [j1,a1]
    simp only [Option.bind_some,a2,if_true]
    by_cases hg:wg c (6+(j:Int))=-1
    ·rw [if_pos (by simpa using hg),if_pos (Or.inl hg)]
    ·rw [if_neg (by simpa using hg)]
     by_cases hn:nOf r.2.1 < wg c (6+(j:Int))
     ·rw [if_pos (by simpa using hn),if_pos (Or.inr hn)]
     ·rw [if_neg (by simpa using hn),if_neg (by simp [hg,hn])]
 ·simp
abbrev Tst:=Bool×Bool×Int×Int×Bool×Bool×Bool×Bool×Int×Int×Int×Int
def tc (s:Tst):zv:=zv.mk s.1 s.2.1 s.2.2.2.2.1 s.2.2.2.2.2.1 s.2.2.2.2.2.2.1 s.2.2.2.2.2.2.2.1 s.2.2.2.2.2.2.2.2.1 s.2.2.2.2.2.2.2.2.2.1 s.2.2.2.2.2.2.2.2.2.2.1 s.2.2.2.2.2.2.2.2.2.2.2 s.2.2.1 s.2.2.2.1
def ct (c:zv):Tst:=(c.NoStore,c.NoCache,c.MaxStale,c.MinFresh,c.Private,c.Public,c.Must,c.Only,c.MaxAge,c.Shared,c.Stale,c.OnError)
def cOK (c:zv):Prop:=∀ x,jy x=true→-1≤wg c x
theorem x1e (c:zv) (x y:Int) (b:Bool):wg (jd c y b) x=wg c x:=by
 unfold jd
 (repeat' split) <;> rfl
theorem x1d (c:zv) (x y n:Int):wg (ke c y n) x=n∨wg (ke c y n) x=wg c x:=by
 unfold ke
 (repeat' split) <;> unfold wg <;> (repeat' split) <;> simp
theorem x2p {c:zv} (h:cOK c) (y:Int) (b:Bool):cOK (jd c y b):=fun x hx=>by rw [x1e]; exact h x hx
theorem x2o {c:zv} (h:cOK c) (y n:Int) (hn:-1≤n):cOK (ke c y n):=fun x hx=>by
 rcases x1d c x y n with e | e
 ·rw [e]; exact hn
 ·rw [e]; exact h x hx
abbrev zzT:zv×Int:=(zv.mk false false false false false false 0 0 0 0 0 0,9)
def stT (c:zv) (x:Bs):Tst ⊕ (zv×Int):=if (vm c x).1 then .inl (ct (vm c x).2) else .inr zzT
theorem z8p (k:Nat) (x:Bs) (c:zv) (h:x.length≤1000000):Zl k x c.NoStore c.NoCache c.MaxStale c.MinFresh c.Private c.Public c.Must c.Only c.MaxAge c.Shared c.Stale c.OnError=some (stT c x):=by
 unfold Zl stT
 show (z0y c x).bind _=_
 rw [y5q c x h]
 simp only [Option.bind_some]
 cases (vm c x).1 <;> rfl
theorem y7z (k:Nat) (x:Bs) (c:zv) (h:x.length≤1000000) (hc:cOK c):z1m k x c.NoStore c.NoCache c.MaxStale c.MinFresh c.Private c.Public c.Must c.Only c.MaxAge c.Shared c.Stale c.OnError=some (stT c x)∧cOK (vm c x).2:=by
 obtain ⟨c1,c2,c3,c4⟩:=y4r x 61
 have hcut0:(Lib.cut x [61]).2.2=false→okN 9 (Lib.cut x [61]).2.1=false:=fun h2=>by
  rcases z9w 61 x with h3 | ⟨p,q,h3,h4⟩
  ·rw [x2c 61 x h3]; rfl
  ·subst h3; rw [x2d 61 p q h4] at h2; cases h2
 have hd:vm c x=(let r:=Lib.cut x [61]
  if !tokB r.1 || (r.2.2 && !sOK r.2.1) then (false,c)
  else if 0≤idxB flN (lo r.1) then (!r.2.2,jd c (idxB flN (lo r.1)) true)
  else if idxB cnN (lo r.1) < 0 then (true,c)
  else (r.2.2,numC c (idxB cnN (lo r.1)) (nOf r.2.1))):=rfl
 unfold z1m stT ky
 rw [if_pos (show x.length≤1000000000 by omega),hd]
 simp only [Option.bind_some]
 generalize Lib.cut x [61]=r at *
 obtain ⟨w,w1,w2,w3⟩:=y7y r.2.1 9 (by omega) (by omega)
 have w1':xz r.2.1 9=some (w,okN 9 r.2.1):=w1
 rw [w1',z44 _ (by omega)]
 simp only [Option.bind_some]
 have hT:ue c.NoStore c.NoCache c.MaxStale c.MinFresh c.Private c.Public c.Must c.Only c.MaxAge c.Shared c.Stale c.OnError r (w,okN 9 r.2.1) true=some (.inr zzT):=rfl
 cases ht:tokB r.1
 ·simp only [Bool.not_false,if_true,Bool.true_or,Bool.false_eq_true,if_false]
  exact ⟨hT,hc⟩
 simp only [Bool.not_true,Bool.false_eq_true,if_false,Bool.false_or]
 have hlow:vu r.1=some (lo r.1):=by
  unfold vu
  rw [if_pos ⟨by omega,z45 ht⟩]
 have hfn:z6e=some flN:=rfl
 have hfo:z6d=some [0,1,2,3,4,5]:=rfl
 have hcn:z6f=some cnN:=rfl
 have hco:z2w=some [6,7,8,9,10,11]:=rfl
 have hJ5n:∀ d:zv,idxB cnN (lo r.1) < 0→Zg r (w,okN 9 r.2.1) (lo r.1) d.NoStore d.NoCache d.Private d.Public d.Must d.Only d.MaxAge d.Shared d.Stale d.OnError d.MaxStale d.MinFresh=some (.inl (ct d)):=fun d hneg=>by
  unfold Zg Zh
  rw [hcn]
  simp only [Option.bind_some]
  rw [z1a cnN (lo r.1) (by decide)]
  simp only [Option.bind_some]
  rw [if_neg (by simp; omega)]
  rfl
 have key:r.2.2=false∨(okN 9 r.2.1=true∧outP w 0 100000000=false)→ue c.NoStore c.NoCache c.MaxStale c.MinFresh c.Private c.Public c.Must c.Only c.MaxAge c.Shared c.Stale c.OnError r (w,okN 9 r.2.1) false=some (if (if 0≤idxB flN (lo r.1) then (!r.2.2,jd c (idxB flN (lo r.1)) true) else if idxB cnN (lo r.1) < 0 then (true,c) else (r.2.2,numC c (idxB cnN (lo r.1)) (nOf r.2.1))).1=true then .inl (ct (if 0≤idxB flN (lo r.1) then (!r.2.2,jd c (idxB flN (lo r.1)) true) else if idxB cnN (lo r.1) < 0 then (true,c) else (r.2.2,numC c (idxB cnN (lo r.1)) (nOf r.2.1))).2) else .inr zzT)∧cOK (if 0≤idxB flN (lo r.1) then (!r.2.2,jd c (idxB flN (lo r.1)) true) else if idxB cnN (lo r.1) < 0 then (true,c) else (r.2.2,numC c (idxB cnN (lo r.1)) (nOf r.2.1))).2:=fun hh=>by
  unfold ue
  rw [hlow,hfn]
  simp only [Bool.false_eq_true,if_false,Option.bind_some]
  rw [z1a flN (lo r.1) (by decide)]
  simp only [Option.bind_some]
  by_cases h0:0≤idxB flN (lo r.1)
  ·obtain ⟨j,j1,j2,j3⟩:=z60 h0
   obtain ⟨a1,a2⟩:=y4h j j2
   have hneg:=x1l _ j3
   rw [if_pos (by simpa using h0),if_pos h0,hfo]
   simp only [Option.bind_some]
   rw [j1,a1]
   simp only [Option.bind_some]
   rw [if_pos a2]
   refine ⟨?_,x2p hc _ _⟩
   cases r.2.2
   ·simp only [Bool.false_eq_true,if_false,Bool.not_false,if_true]
    exact hJ5n (jd c (j:Int) true) hneg
   ·simp
  ·rw [if_neg (by simpa using h0),if_neg h0]
   by_cases h1:idxB cnN (lo r.1) < 0
   ·rw [if_pos h1]
    exact ⟨hJ5n c h1,hc⟩
   ·rw [if_neg h1]
    obtain ⟨j,j1,j2,_⟩:=z60 (show 0≤idxB cnN (lo r.1) by omega)
    obtain ⟨a1,a2⟩:=y4v j j2
    have hcd:∀ n,-1≤n→cOK (numC c (j:Int) n):=fun n hn=>by
     unfold numC
     split
     ·exact x2o hc _ n hn
     ·exact hc
    unfold Zg
    rw [hcn]
    simp only [Option.bind_some]
    rw [z1a cnN (lo r.1) (by decide)]
    simp only [Option.bind_some]
    rw [if_pos (by simp; omega)]
    rcases Bool.eq_false_or_eq_true r.2.2 with h2 | h2
    ·rcases hh with h3 | ⟨h3,h4⟩
     ·rw [h3] at h2; cases h2
     ·have hw:=w2 h3
      have hn:nOf r.2.1=w:=by unfold nOf; rw [h3,hw]; rfl
      have hw0:0≤w:=by rw [z5q] at h4; simp at h4; omega
      rw [h2,hco,j1,hn]
      simp only [Bool.not_true,Bool.false_eq_true,if_false,Option.bind_some,if_true]
      rw [a1]
      simp only [Option.bind_some]
      rw [if_pos a2]
      refine ⟨?_,hcd w (by omega)⟩
      have hge:=hc _ a2
      unfold numC Zh
      show (if (decide (wg c (6+(j:Int)) < 0) || decide (w < wg c (6+(j:Int))))=true then _ else _)=_
      by_cases hg:wg c (6+(j:Int))=-1∨w < wg c (6+(j:Int))
      ·rw [if_pos (by simp only [Bool.or_eq_true,decide_eq_true_eq]; omega),if_pos hg]; rfl
      ·rw [if_neg (by simp only [Bool.or_eq_true,decide_eq_true_eq]; omega),if_neg hg]; rfl
    ·rw [h2,j1]
     have hn:nOf r.2.1=0:=by unfold nOf; rw [hcut0 h2]; rfl
     rw [hn]
     exact ⟨rfl,hcd 0 (by omega)⟩
 cases h2:r.2.2
 ·rw [h2] at key
  simp only [Bool.false_and,Bool.false_eq_true,if_false]
  exact key (.inl rfl)
 ·rw [h2] at key
  simp only [if_true,Bool.true_and]
  cases h3:okN 9 r.2.1
  ·have hs:sOK r.2.1=false:=by unfold sOK; rw [h3]; rfl
   rw [h3] at hT
   rw [hs]
   simp only [Bool.not_false,if_true,Bool.false_eq_true,if_false]
   exact ⟨hT,hc⟩
  ·have hw:=w2 h3
   rw [z6z]
   simp only [Bool.not_true,Bool.false_eq_true,if_false,Option.bind_some,Bool.not_not]
   have hs:sOK r.2.1 = !outP w 0 100000000:=by unfold sOK; rw [h3,hw]; rfl
   rw [hs,Bool.not_not]
   rw [h3] at key hT
   cases h4:outP w 0 100000000
   ·simp only [Bool.false_eq_true,if_false]
    exact key (.inr ⟨rfl,h4⟩)
   ·simp only [if_true,Bool.false_eq_true,if_false]
    exact ⟨hT,hc⟩
abbrev ccL:Bs:=[99,97,99,104,101,45,99,111,110,116,114,111,108]
abbrev c0:Tst:=(false,false,-1,-1,false,false,false,false,-1,-1,-1,-1)
theorem z8n (l:List zm):kr l=Qz l false false (-1) (-1) false false false false (-1) (-1) (-1) (-1):=rfl
theorem y7x (l:List zm):Za l=z4c l false false (-1) (-1) false false false false (-1) (-1) (-1) (-1):=rfl
theorem x2s:cOK (tc c0):=fun x hx=>by
 unfold jy at hx
 simp only [Bool.or_eq_true,decide_eq_true_eq] at hx
 rcases hx with ((((rfl | rfl) | rfl) | rfl) | rfl) | rfl <;> decide
theorem z7q {l:List zm} (h0:hdsE l=0) (n:Bs):vlP (yu n l):=by
 have hcnt:=z1c h0
 have hok:=z63 h0
 refine ⟨?_,fun v hv => ?_⟩
 ·unfold yu
  rw [List.length_map]
  have:=(List.filter_sublist (p:=nmB n) (l:=l)).length_le
  omega
 ·unfold yu at hv
  obtain ⟨x,hx,rfl⟩:=List.mem_map.1 hv
  exact y4g (hok x (List.mem_filter.1 hx).1).2
theorem z8k (V:List Bs) (h:vlP V):(ptsB V).length≤3000000:=by
 have h1:=y2a V h.2
 have h2:=z48 (V.map (spl 44)).flatten
 have h3:V.length * 2001≤1000 * 2001:=Nat.mul_le_mul h.1 (by omega)
 unfold ptsB
 omega
theorem y76 (l:List zm) (h0:hdsE l=0) (hl:l.length≤1000) (h2:∀ x,x∈l→nmOK x):∃ r,kr l=some r∧Za l=some r:=by
 have hv:=xm l ccL hl h2 ⟨rfl,by decide⟩
 have hV:=z7q h0 ccL
 have hp1:=z2j _ hV
 have hp2:=y2e _ hV
 have hpl:=z8k _ hV
 rw [z8n,y7x]
 unfold Qz z4c
 show ∃ r,(vy l ccL).bind _=some r∧(jo l ccL).bind _=some r
 rw [hv.1,hv.2]
 simp only [Option.bind_some]
 rw [hp1,hp2]
 simp only [Option.bind_some]
 rw [if_pos (by omega),if_pos (by omega)]
 obtain ⟨r,r1,r2,_⟩:=y4a (body:=fun (k:Nat) (x:Bs) (s:Tst)=>Zl k x s.1 s.2.1 s.2.2.1 s.2.2.2.1 s.2.2.2.2.1 s.2.2.2.2.2.1 s.2.2.2.2.2.2.1 s.2.2.2.2.2.2.2.1 s.2.2.2.2.2.2.2.2.1 s.2.2.2.2.2.2.2.2.2.1 s.2.2.2.2.2.2.2.2.2.2.1 s.2.2.2.2.2.2.2.2.2.2.2)
  (body':=fun (k:Nat) (x:Bs) (s:Tst)=>z1m k x s.1 s.2.1 s.2.2.1 s.2.2.2.1 s.2.2.2.2.1 s.2.2.2.2.2.1 s.2.2.2.2.2.2.1 s.2.2.2.2.2.2.2.1 s.2.2.2.2.2.2.2.2.1 s.2.2.2.2.2.2.2.2.2.1 s.2.2.2.2.2.2.2.2.2.2.1 s.2.2.2.2.2.2.2.2.2.2.2)
  (fin:=fun (s:Tst)=>z7k s.1 s.2.1 s.2.2.1 s.2.2.2.1 s.2.2.2.2.1 s.2.2.2.2.2.1 s.2.2.2.2.2.2.1 s.2.2.2.2.2.2.2.1 s.2.2.2.2.2.2.2.2.1 s.2.2.2.2.2.2.2.2.2.1 s.2.2.2.2.2.2.2.2.2.2.1 s.2.2.2.2.2.2.2.2.2.2.2)
  (fin':=fun (s:Tst)=>z7b s.1 s.2.1 s.2.2.1 s.2.2.2.1 s.2.2.2.2.1 s.2.2.2.2.2.1 s.2.2.2.2.2.2.1 s.2.2.2.2.2.2.2.1 s.2.2.2.2.2.2.2.2.1 s.2.2.2.2.2.2.2.2.2.1 s.2.2.2.2.2.2.2.2.2.2.1 s.2.2.2.2.2.2.2.2.2.2.2) (R:=fun _=>True)
  (fun _ s=>cOK (tc s)) (ptsB (yu ccL l)) 0 c0 x2s (fun j x s _ hx hs=>by
   obtain ⟨v,hv1,hv2,_⟩:=z8j (List.mem_of_getElem? hx)
   have hvl:=hV.2 v hv1
   have a:=z8p j x (tc s) (by omega)
   obtain ⟨b,b2⟩:=y7z j x (tc s) (by omega) hs
   refine ⟨stT (tc s) x,a,b,?_⟩
   unfold stT
   cases (vm (tc s) x).1
   ·exact trivial
   ·exact b2) (fun s _=>⟨_,rfl,rfl,trivial⟩)
 exact ⟨r,r1,r2⟩
theorem y82:z0x=some true:=by
 have hcr:jt (ya.mk 200 [zm.mk ccL [109,97,120,45,97,103,101,61,50]] [])=some 0:=by
  have h1:=(z38 [zm.mk ccL [109,97,120,45,97,103,101,61,50]] ⟨by simp,fun h hh=>by rw [List.mem_singleton.1 hh]; exact ⟨by decide,by decide⟩⟩).1
  have h2:hdsE [zm.mk ccL [109,97,120,45,97,103,101,61,50]]=0:=by decide +kernel
  rw [h2] at h1
  unfold jt
  rw [z5p]
  simp only [Option.bind_some]
  rw [h1]
  rfl
 have hnm:∀ x,x∈[zm.mk ccL [109,97,120,45,97,103,101,61,50]]→nmOK x:=fun x hx=>by rw [List.mem_singleton.1 hx]; exact ⟨by decide +kernel,by decide⟩
 have hv:=(xm [zm.mk ccL [109,97,120,45,97,103,101,61,50]] ccL (by simp) hnm ⟨rfl,by decide⟩).1
 have hv2:=(xm [zm.mk ccL [109,97,120,45,97,103,101,61,50]] [118,97,114,121] (by simp) hnm ⟨rfl,by decide⟩).1
 have e1:yu ccL [zm.mk ccL [109,97,120,45,97,103,101,61,50]]=[[109,97,120,45,97,103,101,61,50]]:=by decide +kernel
 have e2:yu [118,97,114,121] [zm.mk ccL [109,97,120,45,97,103,101,61,50]]=[]:=by decide +kernel
 rw [e1] at hv
 rw [e2] at hv2
 have p1:=z2j [[109,97,120,45,97,103,101,61,50]] ⟨by simp,by simp⟩
 have p2:=z2j [] ⟨by simp,by simp⟩
 have e3:ptsB [[109,97,120,45,97,103,101,61,50]]=[[109,97,120,45,97,103,101,61,50]]:=by decide +kernel
 rw [e3] at p1
 have hpar:kr [zm.mk ccL [109,97,120,45,97,103,101,61,50]]=some ((vm (tc c0) [109,97,120,45,97,103,101,61,50]).2,0):=by
  rw [z8n]
  unfold Qz
  show (vy _ ccL).bind _=_
  rw [hv]
  simp only [Option.bind_some]
  rw [p1]
  simp only [Option.bind_some]
  rw [if_pos (by simp)]
  have a:=z8p 0 [109,97,120,45,97,103,101,61,50] (tc c0) (by simp)
  show (Zl 0 [109,97,120,45,97,103,101,61,50] false false (-1) (-1) false false false false (-1) (-1) (-1) (-1)).bind _=_
  have a':Zl 0 [109,97,120,45,97,103,101,61,50] false false (-1) (-1) false false false false (-1) (-1) (-1) (-1)=some (stT (tc c0) [109,97,120,45,97,103,101,61,50]):=a
  rw [a']
  have e4:(vm (tc c0) [109,97,120,45,97,103,101,61,50]).1=true:=by decide +kernel
  unfold stT
  rw [e4]
  rfl
 have hvy:xc (ya.mk 200 [zm.mk ccL [109,97,120,45,97,103,101,61,50]] [])=some ([],false,0):=by
  unfold xc
  show (vy [zm.mk ccL [109,97,120,45,97,103,101,61,50]] [118,97,114,121]).bind _=_
  rw [hv2]
  simp only [Option.bind_some]
  rw [p2]
  have e0:ptsB []=[]:=rfl
  rw [e0]
  simp only [Option.bind_some]
  rw [if_pos (by simp)]
  show Zk []=_
  have hi:uz [] [42]=some (-1):=rfl
  have hs:kq []=some []:=by
   unfold kq
   rw [if_pos (by simp)]
   simp
  unfold Zk z2m xa Yb
  rw [hi]
  simp only [Option.bind_some]
  rw [if_neg (by simp),if_pos (by simp)]
  simp only [Option.bind_some]
  rw [hs]
  rfl
 have f1:(vm (tc c0) [109,97,120,45,97,103,101,61,50]).2.NoCache=false:=by decide +kernel
 have f2:(vm (tc c0) [109,97,120,45,97,103,101,61,50]).2.Shared=-1:=by decide +kernel
 have f3:(vm (tc c0) [109,97,120,45,97,103,101,61,50]).2.MaxAge=2:=by decide +kernel
 have hlt:xd (vm (tc c0) [109,97,120,45,97,103,101,61,50]).2=some 2000:=by
  unfold xd
  rw [f1,f2,f3]
  rfl
 unfold z0x xf
 rw [hcr]
 simp only [Option.bind_some]
 rw [if_neg (by simp)]
 show ((kr [zm.mk ccL [109,97,120,45,97,103,101,61,50]]).bind _).bind _=_
 rw [hpar]
 simp only [Option.bind_some]
 rw [if_neg (by simp)]
 rw [hvy]
 simp only [Option.bind_some]
 rw [if_neg (by simp),hlt]
 rfl
theorem z4m {k:Int} {s:zh} (h:SB k s) (hk:k≤1000000) (m:Nat) (hm:m≤100) (sep:Bs) (hsep:sep.length≤10) (l:List Bs) (hl:l≠[]∧l.length≤1000) (hB:∀ x,x∈l→x.length≤100) :
  Ok (ju s (m:Int) sep l) fun r=>r.1.length≤30000∧SB (k+m) r.2:=by
 unfold ju
 refine ok_g (by omega) ?_
 rw [Int.toNat_natCast]
 refine z2k (fun j (q:List Int×Int×List Bs)=>j≤m∧SB (k+(j:Int)) (zh.mk q.1 q.2.1)∧q.2.2.length≤j∧∀ x,x∈q.2.2→x.length≤100) m 0 _ ⟨by omega,h.mono (by omega),by simp,by simp⟩ ?_ ?_
 ·rintro j ⟨c5,c6,l7⟩ _ hj ⟨h0,h1,h2,h3⟩
  simp only at h1 h2 h3 ⊢
  unfold z4d
  refine zr (ko h1 (by omega) l hl) fun r hr=>ok_g (by omega) (ym ?_)
  refine ⟨by omega,hr.2.mono (by omega),by simp; omega,fun x hx => ?_⟩
  rcases List.mem_append.1 hx with h | h
  ·exact h3 x h
  ·have:x=r.1:=by simpa using h
   rw [this]; exact hB _ hr.1
 ·rintro ⟨c5,c6,l7⟩ ⟨h0,h1,h2,h3⟩
  simp only at h1 h2 h3 ⊢
  have hj:=z6t 100 sep l7 h3
  have hmm:l7.length * (100+sep.length)≤100 * 110:=Nat.mul_le_mul (by omega) (by omega)
  unfold z4e
  have hJ:kh l7 sep=some (Lib.join l7 sep):=by
   unfold kh
   rw [if_pos ⟨by omega,by omega⟩]
  rw [hJ]
  exact ym ⟨by simp only; omega,h1.mono (by omega)⟩
theorem x2e {k:Int} {s:zh} (h:SB k s) (hk:k≤100000):Ok (z3a s) fun r=>r.1.length≤30000∧SB (k+20) r.2:=by
 have hJ:∀ (t:Bs) (c:List Int) (a:Int),t.length≤30000→SB (k+15) (zh.mk c a)→Ok (Qe t c a) fun r=>r.1.length≤30000∧SB (k+20) r.2:=by
  intro t c a ht hs
  unfold Qe z1s
  refine zr (wm hs (by omega) 20 (by omega)) fun r hr=>yz (fun _ => ?_) (fun _=>ym ⟨ht,hr.mono (by omega)⟩)
  exact zr (va hr (by omega) 100 _ ⟨by simp,by simp⟩ (by decide)) fun r2 h2=>ym ⟨by have:=h2.1; simp only; omega,h2.2.mono (by omega)⟩
 unfold z3a
 refine zr (Wr h (by omega) 0 3 (by omega)) fun r hr => ?_
 obtain ⟨m,hm⟩:∃ m:Nat,r.1=(m:Int):=⟨r.1.toNat,by omega⟩
 rw [hm]
 refine zr (z4m hr.2 (by omega) m (by omega) [44,32] (by simp) _ ⟨by simp,by simp⟩ (by decide)) fun r2 h2=>zr (wm h2.2 (by omega) 10 (by omega)) fun r3 h3=>yz (fun _ => ?_) (fun _=>hJ _ _ _ h2.1 (h3.mono (by omega)))
 exact zr (z4m h3 (by omega) 2 (by omega) [44] (by simp) _ ⟨by simp,by simp⟩ (by decide)) fun r4 h4=>hJ _ _ _ h4.1 (h4.2.mono (by omega))
theorem x25 {k:Int} {s:zh} (h:SB k s) (hk:k≤100000):Ok (z3e s) fun r=>r.1.length≤30000∧SB (k+20) r.2:=by
 unfold z3e z1t
 refine zr (Wr h (by omega) 1 2 (by omega)) fun r hr => ?_
 obtain ⟨m,hm⟩:∃ m:Nat,r.1=(m:Int):=⟨r.1.toNat,by omega⟩
 rw [hm]
 refine zr (z4m hr.2 (by omega) m (by omega) [44,32] (by simp) _ ⟨by simp,by simp⟩ (by decide)) fun r2 h2=>zr (wm h2.2 (by omega) 20 (by omega)) fun r3 h3=>yz (fun _ => ?_) (fun _=>ym ⟨h2.1,h3.mono (by omega)⟩)
 exact zr (va h3 (by omega) 100 _ ⟨by simp,by simp⟩ (by decide)) fun r4 h4=>ym ⟨by have:=h4.1; simp only; omega,h4.2.mono (by omega)⟩
end Go.Proofs.YtkldmhhbbceaoaaGreatDoor
