/- Plain: numbers in decimal signs: the program's and the reference's reading agree. -/
import Derived.Test.YtkckjgkfljgjpaaGreatDoorKeZg
import Derived.Test.YtkckjgkfljgjpaaGreatDoorWoZg
namespace Go.Proofs.YtkckjgkfljgjpaaGreatDoor
set_option linter.unusedVariables false
set_option maxRecDepth 20000
abbrev ddL:Bs:=[48,49,50,51,52,53,54,55,56,57]
def isD (c:UInt8):Bool:=ddL.contains c
def dv (c:UInt8):Nat:=c.toNat - 48
def dgD (n:Nat):UInt8:=UInt8.ofNat (48+n)
theorem x0d (u:Nat):Lib.decDigits u=if u < 10 then [dgD u] else Lib.decDigits (u / 10)++[dgD (u % 10)]:=by
 rw [Lib.decDigits]; rfl
theorem w2f (c:UInt8) (h:isD c=true):dgD (dv c)=c∧dv c < 10∧(dv c=0→c=48)∧48≤c.toNat∧c.toNat≤57:=by
 have:=y7e (fun c => !isD c || decide (dgD (dv c)=c∧dv c < 10∧(dv c=0→c=48)∧48≤c.toNat∧c.toNat≤57)) (by decide +kernel) c
 rw [h] at this
 exact of_decide_eq_true (by simpa only [Bool.not_true,Bool.false_or] using this)
theorem w6z (n:Nat) (h:n < 10):isD (dgD n)=true∧dv (dgD n)=n∧(dgD n=48→n=0):=by
 have:∀ n,n < 10→isD (dgD n)=true∧dv (dgD n)=n∧(dgD n=48→n=0):=by decide +kernel
 exact this n h
def nvB (l:Bs):Nat:=l.foldl (fun a c=>a * 10+dv c) 0
theorem x58 (l:Bs) (c:UInt8):nvB (l++[c])=nvB l * 10+dv c:=by simp [nvB,List.foldl_append]
theorem x6o:∀ u:Nat,Lib.decDigits u=[48]∨∃ c t,Lib.decDigits u=c::t∧c≠48:=by
 intro u
 induction u using Nat.strongRecOn with
 | _ u ih =>
  rw [x0d]
  split
  ·rename_i h
   by_cases h0:dgD u=48
   ·exact .inl (by rw [h0])
   ·exact .inr ⟨_,_,rfl,h0⟩
  ·rename_i h
   rcases ih (u / 10) (by omega) with h1 | ⟨c,t,h1,h2⟩
   ·exfalso
    have h3:u / 10 < 10∧dgD (u / 10)=48:=by
     rw [x0d] at h1
     split at h1
     ·rename_i h4; exact ⟨h4,by simpa using h1⟩
     ·have:=congrArg List.length h1
      simp only [List.length_append,List.length_singleton] at this
      have h5:Lib.decDigits (u / 10 / 10)=[]:=List.length_eq_zero_iff.1 (by omega)
      rw [x0d] at h5
      split at h5 <;> simp at h5
    have:=(w6z _ h3.1).2.2 h3.2
    omega
   ·exact .inr ⟨c,t++[dgD (u % 10)],by rw [h1]; rfl,h2⟩
theorem w4m:∀ (k u:Nat),u < 10 ^ (k+1)→(Lib.decDigits u).length≤k+1:=by
 intro k
 induction k with
 | zero =>
  intro u h
  rw [x0d,if_pos (by simpa using h)]; simp
 | succ k ih =>
  intro u h
  rw [x0d]
  split
  ·simp
  ·have:u / 10 < 10 ^ (k+1):=by
    rw [Nat.div_lt_iff_lt_mul (by decide)]
    rw [Nat.pow_succ] at h; exact h
   have:=ih _ this
   simp; omega
def canD (s:Bs):Bool:=s.all isD && (decide (s=[48]) || decide (s.head?≠some 48∧s≠[]))
theorem y8d (s:Bs):canD s=true→Lib.decDigits (nvB s)=s∧(1≤nvB s∨s=[48]):=by
 refine x1r (P:=fun s=>canD s=true→Lib.decDigits (nvB s)=s∧(1≤nvB s∨s=[48])) (by decide) (fun p d ih h => ?_) s
 unfold canD at h
 simp only [Bool.and_eq_true,Bool.or_eq_true,decide_eq_true_eq,List.all_append,List.all_cons,List.all_nil,Bool.and_true] at h
 obtain ⟨⟨hp,hd⟩,hh⟩:=h
 obtain ⟨d1,d2,d3,_⟩:=w2f d hd
 cases p with
 | nil =>
  have e:nvB ([]++[d])=dv d:=by simp [nvB]
  rw [e,x0d,if_pos d2,d1]
  refine ⟨rfl,?_⟩
  by_cases h0:dv d=0
  ·exact .inr (by rw [d3 h0]; rfl)
  ·exact .inl (by omega)
 | cons c t =>
  have hc:c≠48:=by
   rcases hh with h1 | ⟨h1,_⟩
   ·have:=congrArg List.length h1; simp at this
   ·intro h2; rw [h2] at h1; exact h1 rfl
  have hcan:canD (c::t)=true:=by
   unfold canD
   rw [hp]
   simp [hc]
  obtain ⟨i1,i2⟩:=ih hcan
  have i3:1≤nvB (c::t):=by
   rcases i2 with h | h
   ·exact h
   ·exact absurd (List.cons.inj h).1 hc
  rw [x58]
  have e1:(nvB (c::t) * 10+dv d) / 10=nvB (c::t):=by omega
  have e2:(nvB (c::t) * 10+dv d) % 10=dv d:=by omega
  rw [x0d,if_neg (by omega),e1,e2,i1,d1]
  exact ⟨rfl,.inl (by omega)⟩
theorem x59:∀ (k:Nat) (s:Bs),s.all isD=true→s.length≤k→nvB s < 10 ^ k:=by
 intro k
 induction k with
 | zero=>intro s _ h; obtain rfl:s=[]:=List.length_eq_zero_iff.1 (by omega); decide
 | succ k ih =>
  intro s
  refine x1r (P:=fun s=>s.all isD=true→s.length≤k+1→nvB s < 10 ^ (k+1)) (fun _ _=>Nat.pow_pos (by decide)) (fun p d _ h1 h2 => ?_) s
  simp only [List.all_append,List.all_cons,List.all_nil,Bool.and_true,Bool.and_eq_true] at h1
  have h3:=ih p h1.1 (by simp at h2; omega)
  have h4:=(w2f d h1.2).2.1
  rw [x58,Nat.pow_succ]
  omega
theorem atL (E:Int→Option (Int×Int)):∀ (s:Bs) (k j v:Nat),s.all isD=true→j+s.length≤18→v < 10 ^ j →
  forL (fun (k:Nat) (x:Int) (q:Int)=>z5r k x q) E k (y0v s) (v:Int)=E ((s.foldl (fun a c=>a * 10+dv c) v:Nat):Int)
 | [],k,j,v,_,_,_=>rfl
 | c::s,k,j,v,h,hj,hv=>by
  simp only [List.all_cons,Bool.and_eq_true] at h
  simp only [List.length_cons] at hj
  obtain ⟨_,hd,_,hc1,hc2⟩:=w2f c h.1
  have h9:10 ^ j≤10 ^ 17:=Nat.pow_le_pow_right (by decide) (by omega)
  have e17:(10:Nat) ^ 17=100000000000000000:=by decide
  have ew:IntKind.wrap .u8 ((c.toNat:Int) - 48)=(dv c:Int):=by
   have:=y7e (fun c => !isD c || decide (IntKind.wrap .u8 ((c.toNat:Int) - 48)=(dv c:Int))) (by decide +kernel) c
   rw [h.1] at this
   exact of_decide_eq_true (by simpa only [Bool.not_true,Bool.false_or] using this)
  have ei:IntKind.wrap .i64 (dv c:Int)=(dv c:Int):=y1g (by omega)
  have e1:wr ((v:Int) * 10)=(v:Int) * 10:=y1g (by omega)
  have e2:wr ((v:Int) * 10+(dv c:Int))=((v * 10+dv c:Nat):Int):=by rw [y1g (by omega)]; omega
  show (z5r k (c.toNat:Int) (v:Int)).bind _=_
  unfold z5r
  rw [ew,if_neg (by simp; omega),ei,e1,e2]
  simp only [Option.bind_some,after]
  exact (atL E s (k+1) (j+1) (v * 10+dv c) h.2 (by omega) (by rw [Nat.pow_succ]; omega)).trans rfl
theorem atJ (s t:Bs) (ht:t.all isD=true) (hl:t.length≤17):z34 s t=z35 s (nvB t:Int):=by
 unfold z34
 rw [if_pos (by rw [w1z]; omega)]
 exact atL (fun q=>z35 s q) t 0 0 0 ht (by omega) (by decide)
theorem d43 (c:UInt8) (h:isD c=true):(c.toNat:Int)≠45∧(c.toNat:Int)≠43:=by
 have:=(w2f c h).2.2.2
 omega
theorem w2h (t:Bs) (ht:t.all isD=true) (hne:t≠[]) (hl:t.length≤17):z79 t=some ((nvB t:Int),0):=by
 have hi:z4p t=some ((nvB t:Int),0):=by
  cases t with
  | nil=>exact absurd rfl hne
  | cons c r =>
   have hc:isD c=true:=by simp only [List.all_cons,Bool.and_eq_true] at ht; exact ht.1
   have h4:=d43 c hc
   unfold z4p
   rw [if_pos (by simp at hl ⊢; omega)]
   simp only [List.getElem?_cons_zero,Option.bind_some]
   rw [if_neg (by simpa using h4.1)]
   unfold z33
   rw [if_neg (by simpa using h4.2),atJ _ _ ht hl]
   unfold z35 z32
   simp only [List.getElem?_cons_zero,Option.bind_some]
   rw [if_neg (by simpa using h4.1)]
 unfold z79
 rw [hi]; rfl
theorem w2i (t:Bs) (ht:t.all isD=true) (hne:t≠[]) (hl:t.length≤17):z79 (45::t)=some (-(nvB t:Int),0):=by
 have hln:1≤t.length:=by cases t with | nil=>exact absurd rfl hne | cons _ _=>simp
 have hv:=x59 17 t ht hl
 have e17:(10:Nat) ^ 17=100000000000000000:=by decide
 have hi:z4p (45::t)=some (-(nvB t:Int),0):=by
  have hsub:sub? ((45:UInt8)::t) 1 (((45:UInt8)::t).length:Int)=some t:=by
   unfold sub?
   rw [if_pos (by simp only [List.length_cons]; omega),List.take_of_length_le (by simp)]; rfl
  unfold z4p
  rw [if_pos (by simp at hl ⊢; omega)]
  simp only [List.getElem?_cons_zero,Option.bind_some]
  rw [if_pos (by decide)]
  unfold z33
  rw [if_pos rfl,hsub]
  simp only [Option.bind_some]
  rw [if_neg (by simp; omega),atJ _ _ ht hl]
  unfold z35 z32
  simp only [List.getElem?_cons_zero,Option.bind_some]
  rw [if_pos (by decide),if_pos (by omega)]
 unfold z79
 rw [hi]; rfl
def tlB (s:Bs):Bs:=Lib.trimPrefix s [45]
def valB (s:Bs):Int:=if s.head?=some 45 then -(nvB (tlB s):Int) else (nvB s:Int)
def okN (m:Nat) (s:Bs):Bool:=(tlB s).all isD && (decide (tlB s≠[]∧(tlB s).length≤m) && decide ((tlB s).head?≠some 48∨s=[48]))
theorem y8x (c:UInt8) (r:Bs):tlB (c::r)=if c=45 then r else c::r:=by
 unfold tlB Lib.trimPrefix Lib.hasPrefix
 by_cases h:c=45
 ·subst h; simp [List.isPrefixOf]
 ·have:((45:UInt8) == c)=false:=by simpa using fun e:(45:UInt8)=c=>h e.symm
  simp [List.isPrefixOf,this,h]
theorem x4b (r:Bs):valB (45::r)=-(nvB r:Int):=by simp [valB,y8x]
theorem x4a (c:UInt8) (r:Bs) (h:c≠45):valB (c::r)=(nvB (c::r):Int):=by simp [valB,h]
theorem x6s (s:Bs) (ht:(tlB s).all isD=true) (hne:tlB s≠[]) (hl:(tlB s).length≤17):z79 s=some (valB s,0):=by
 cases s with
 | nil=>exact absurd rfl hne
 | cons c r =>
  rw [y8x] at ht hne hl
  by_cases h:c=45
  ·subst h
   rw [if_pos rfl] at ht hne hl
   rw [x4b]
   exact w2i r ht hne hl
  ·rw [if_neg h] at ht hne hl
   rw [x4a c r h]
   exact w2h (c::r) ht hne hl
theorem w37 (s:Bs) (m:Nat) (ht:(tlB s).all isD=true) (hne:tlB s≠[]) (hl:(tlB s).length≤m) (hm:m≤17):∃ r,z7a (valB s)=some r∧decide (r=s)=okN m s:=by
 have hv:=x59 17 (tlB s) ht (by omega)
 have e17:(10:Nat) ^ 17=100000000000000000:=by decide
 have hok:okN m s=decide ((tlB s).head?≠some 48∨s=[48]):=by
  unfold okN
  rw [ht,show decide (tlB s≠[]∧(tlB s).length≤m)=true from by simpa using ⟨hne,hl⟩]
  simp
 cases s with
 | nil=>exact absurd rfl hne
 | cons c r =>
  rw [y8x] at ht hne hl hv hok
  unfold z7a
  by_cases h:c=45
  ·subst h
   rw [if_pos rfl] at ht hne hl hv hok
   rw [x4b,if_pos (by omega)]
   refine ⟨_,rfl,?_⟩
   rw [hok]
   have hok':decide (r.head?≠some 48∨(45:UInt8)::r=[48])=decide (r.head?≠some 48):=by simp
   rw [hok']
   have hcan:(r.head?≠some 48)→canD r=true:=fun hh=>by
    unfold canD
    rw [ht]
    simp [hh,hne]
   unfold Lib.itoa
   by_cases h0:nvB r=0
   ·rw [if_neg (by omega),h0]
    have h1:r.head?=some 48:=Classical.byContradiction fun hh=>by
     rcases (y8d r (hcan hh)).2 with h2 | h2
     ·omega
     ·rw [h2] at hh; exact hh rfl
    rw [h1]
    have:Lib.decDigits (-((0:Nat):Int)).toNat=[48]:=by decide +kernel
    rw [this]
    simp
   ·rw [if_pos (by omega)]
    have e1:(-(nvB r:Int)).natAbs=nvB r:=by omega
    rw [e1]
    by_cases hh:r.head?=some 48
    ·rw [hh]
     have:¬ (45::Lib.decDigits (nvB r)=45::r):=fun e=>by
      have e2:=(List.cons.inj e).2
      rcases x6o (nvB r) with h3 | ⟨d,t,h3,h4⟩
      ·rw [e2] at h3
       rw [h3] at h0
       exact h0 (by decide)
      ·rw [e2] at h3
       rw [h3] at hh
       exact h4 (by simpa using hh)
     simpa using this
    ·rw [(y8d r (hcan hh)).1]
     simp [hh]
  ·rw [if_neg h] at ht hne hl hv hok
   have hcan:((c::r).head?≠some 48∨c::r=[48])→canD (c::r)=true:=fun hh=>by
    unfold canD
    rw [ht]
    rcases hh with hh | hh
    ·simp only [Bool.true_and,Bool.or_eq_true,decide_eq_true_eq]
     exact .inr ⟨hh,hne⟩
    ·simp only [Bool.true_and,Bool.or_eq_true,decide_eq_true_eq]
     exact .inl hh
   rw [x4a c r h,if_pos (by omega)]
   refine ⟨_,rfl,?_⟩
   rw [hok]
   unfold Lib.itoa
   rw [if_neg (by omega),Int.toNat_natCast]
   refine decide_eq_decide.2 ⟨fun e => ?_,fun hh=>(y8d _ (hcan hh)).1⟩
   rcases x6o (nvB (c::r)) with h3 | ⟨d,t,h3,h4⟩
   ·exact .inr (e.symm.trans h3)
   ·refine .inl ?_
    rw [e.symm.trans h3]
    simpa using h4
theorem x6i {α ρ:Type} {body:Nat→α→Unit→Option (Unit ⊕ ρ)} {fin:Unit→Option ρ} {p:α→Bool} {r0:ρ} (h:∀ j x,body j x ()=if p x then some (.inl ()) else some (.inr r0)):∀ (l:List α) (k:Nat),l.all p=false→forL body fin k l ()=some r0
 | [],k,hl=>by cases hl
 | x::l,k,hl=>by
  show (body k x ()).bind _=_
  rw [h k x]
  cases hp:p x
  ·simp [after]
  ·rw [List.all_cons,hp,Bool.true_and] at hl
   simp only [if_true,Option.bind_some,after]
   exact x6i h l (k+1) hl
theorem w2n (s:Bs):(tlB s).length≤s.length:=by
 unfold tlB Lib.trimPrefix
 split
 ·simp
 ·exact Nat.le_refl _
theorem x04 (s:Bs) (m:Nat) (hm:m≤17) (hs:s.length≤1000000):y0s s (m:Int)=some (if okN m s then valB s else 0,okN m s):=by
 have hJ:z5k s (tlB s) true=some (0,false):=rfl
 have htl:=w2n s
 have hb:∀ (j:Nat) (x:UInt8),y2x j x=if isD x then some (.inl ()) else some (.inr (0,false)):=fun j x=>by
  have:=y7e (fun x=>decide (y2x 0 x=if isD x then some (.inl ()) else some (.inr (0,false)))) (by decide +kernel) x
  exact of_decide_eq_true this
 unfold y0s z7k
 simp only [Option.bind_some]
 show (if decide (tlB s=[]) then z5k s (tlB s) true else if decide ((m:Int) < ((tlB s).length:Int)) then z5k s (tlB s) true else ((tlB s)[0]?).bind fun x9=>if decide ((x9.toNat:Int)=48) then z5k s (tlB s) (decide (s≠[48])) else z5k s (tlB s) false)=_
 by_cases h0:tlB s=[]
 ·rw [if_pos (by simpa using h0),hJ]
  have:okN m s=false:=by unfold okN; rw [h0]; simp
  rw [this]; rfl
 rw [if_neg (by simpa using h0)]
 by_cases hl:m < (tlB s).length
 ·rw [if_pos (by simp; omega),hJ]
  have:okN m s=false:=by
   unfold okN
   rw [show decide (tlB s≠[]∧(tlB s).length≤m)=false from by simp; intro; omega]
   simp
  rw [this]; rfl
 rw [if_neg (by simp; omega)]
 have hlm:decide (tlB s≠[]∧(tlB s).length≤m)=true:=by simp only [decide_eq_true_eq]; exact ⟨h0,by omega⟩
 have hall:z5k s (tlB s) false=some (if (tlB s).all isD then valB s else 0,(tlB s).all isD):=by
  unfold z5k
  rw [if_neg (by simp),if_pos (by omega)]
  cases hd:(tlB s).all isD
  ·exact x6i (p:=isD) hb (tlB s) 0 hd
  ·have hf:y1y s=some (valB s,true):=by
    unfold y1y
    rw [x6s s hd h0 (by omega)]; rfl
   rw [y2z (fin:=fun (s_1:Unit)=>y1y s) (e:=(valB s,true)) (p:=fun _ c=>isD c) (r0:=(0,false)) hf (tlB s) 0 (fun j x _ _=>hb j x),y6q,hd]
   rfl
 cases hc:tlB s with
 | nil=>exact absurd hc h0
 | cons c r =>
  rw [hc] at hall hlm h0
  simp only [List.getElem?_cons_zero,Option.bind_some]
  have hok:okN m s=((c::r).all isD && decide ((c::r).head?≠some 48∨s=[48])):=by
   unfold okN
   rw [hc,hlm]; simp
  by_cases h48:c=48
  ·rw [if_pos (by rw [h48]; decide)]
   by_cases hs48:s=[48]
   ·rw [show decide (s≠[48])=false from by simpa using hs48,hall,hok]
    simp [hs48]
   ·rw [show decide (s≠[48])=true from by simpa using hs48]
    have:okN m s=false:=by rw [hok]; simp [h48,hs48]
    rw [this]; rfl
  ·have hcn:¬ ((c.toNat:Int)=48):=fun h=>h48 (UInt8.toNat_inj.1 (by simp; omega))
   rw [if_neg (by simpa using hcn),hall,hok]
   simp [h48]
theorem w23 (s:Bs) (m:Nat) (hm:m≤17) (ht:(tlB s).all isD=true) (hl:(tlB s).length≤m):-100000000000000000 < valB s∧valB s < 100000000000000000:=by
 have e17:(10:Nat) ^ 17=100000000000000000:=by decide
 cases s with
 | nil=>simp [valB,nvB]
 | cons c r =>
  rw [y8x] at ht hl
  by_cases h:c=45
  ·subst h
   rw [if_pos rfl] at ht hl
   rw [x4b]
   have:=x59 17 r ht (by omega)
   omega
  ·rw [if_neg h] at ht hl
   rw [x4a c r h]
   have:=x59 17 (c::r) ht (by omega)
   omega
theorem x00 (s:Bs) (m:Nat) (hm:m≤17) (hs:s.length≤1000000):∃ w,z6z s (m:Int)=some (w,okN m s)∧(okN m s=true→w=valB s)∧(-100000000000000000 < w∧w < 100000000000000000):=by
 have hJ:z3l s true=some (0,false):=rfl
 have htl:=w2n s
 unfold z6z z7k
 simp only [Option.bind_some]
 show ∃ w,(if decide (tlB s=[]) then z3l s true else if decide ((m:Int) < ((tlB s).length:Int)) then z3l s true else (z8f (tlB s) [48,49,50,51,52,53,54,55,56,57]).bind fun r9=>z3l s (!r9))=some (w,okN m s)∧_
 by_cases h0:tlB s=[]
 ·have:okN m s=false:=by unfold okN; rw [h0]; simp
  rw [if_pos (by simpa using h0),hJ,this]
  exact ⟨0,rfl,(fun h=>by cases h),by decide,by decide⟩
 rw [if_neg (by simpa using h0)]
 by_cases hl:m < (tlB s).length
 ·have:okN m s=false:=by
   unfold okN
   rw [show decide (tlB s≠[]∧(tlB s).length≤m)=false from by simp; intro; omega]
   simp
  rw [if_pos (by simp; omega),hJ,this]
  exact ⟨0,rfl,(fun h=>by cases h),by decide,by decide⟩
 rw [if_neg (by simp; omega),x40 _ _ (by omega)]
 simp only [Option.bind_some]
 cases hd:(tlB s).all fun c=>([48,49,50,51,52,53,54,55,56,57]:Bs).contains c
 ·have:okN m s=false:=by
   unfold okN
   rw [show (tlB s).all isD=false from hd]; simp
  rw [this,Bool.not_false,hJ]
  exact ⟨0,rfl,(fun h=>by cases h),by decide,by decide⟩
 ·have hd':(tlB s).all isD=true:=hd
  obtain ⟨r,h1,h2⟩:=w37 s m hd' h0 (by omega) hm
  rw [Bool.not_true]
  unfold z3l z8q
  rw [if_neg (by simp),x6s s hd' h0 (by omega)]
  simp only [Option.bind_some]
  rw [if_pos (by simp),h1]
  simp only [Option.bind_some]
  rw [h2]
  exact ⟨valB s,rfl,fun _=>rfl,w23 s m hm hd' (by omega)⟩
end Go.Proofs.YtkckjgkfljgjpaaGreatDoor
