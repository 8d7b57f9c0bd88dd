/- Plain: what is written is read again: heads of messages. -/
import Derived.Test.YtahcnngcpjkpgabGreatDoorNmZw
import Derived.Lib.ItoaLen
namespace Go.Proofs.YtahcnngcpjkpgabGreatDoor
set_option linter.unusedVariables false
set_option maxRecDepth 20000
abbrev ddL:Bs:=[48,49,50,51,52,53,54,55,56,57]
def isD (c:UInt8):Bool:=ddL.contains c
def dv (c:UInt8):Nat:=c.toNat - 48
def dgD (n:Nat):UInt8:=UInt8.ofNat (48+n)
theorem z05 (u:Nat):Lib.decDigits u=if u < 10 then [dgD u] else Lib.decDigits (u / 10)++[dgD (u % 10)]:=by
 rw [Lib.decDigits]; rfl
theorem y0t (c:UInt8) (h:isD c=true):dgD (dv c)=c∧dv c < 10∧(dv c=0→c=48)∧48≤c.toNat∧c.toNat≤57:=by
 have:=jg (fun c => !isD c || decide (dgD (dv c)=c∧dv c < 10∧(dv c=0→c=48)∧48≤c.toNat∧c.toNat≤57)) (by decide +kernel) c
 rw [h] at this
 exact of_decide_eq_true (by simpa only [Bool.not_true,Bool.false_or] using this)
theorem x0c (n:Nat) (h:n < 10):isD (dgD n)=true∧dv (dgD n)=n∧(dgD n=48→n=0):=by
 have:∀ n,n < 10→isD (dgD n)=true∧dv (dgD n)=n∧(dgD n=48→n=0):=by decide +kernel
 exact this n h
def nvB (l:Bs):Nat:=l.foldl (fun a c=>a * 10+dv c) 0
theorem x4u (l:Bs) (c:UInt8):nvB (l++[c])=nvB l * 10+dv c:=by simp [nvB,List.foldl_append]
theorem x8f:∀ u:Nat,Lib.decDigits u=[48]∨∃ c t,Lib.decDigits u=c::t∧c≠48:=by
 intro u
 induction u using Nat.strongRecOn with
 | _ u ih =>
  rw [z05]
  split
  ·rename_i h
   by_cases h0:dgD u=48
   ·exact .inl (by rw [h0])
   ·exact .inr ⟨_,_,rfl,h0⟩
  ·rename_i h
   rcases ih (u / 10) (by omega) with h1 | ⟨c,t,h1,h2⟩
   ·exfalso
    have h3:u / 10 < 10∧dgD (u / 10)=48:=by
     rw [z05] at h1
     split at h1
     ·rename_i h4; exact ⟨h4,by simpa using h1⟩
     ·have:=congrArg List.length h1
      simp only [List.length_append,List.length_singleton] at this
      have h5:Lib.decDigits (u / 10 / 10)=[]:=List.length_eq_zero_iff.1 (by omega)
      rw [z05] at h5
      split at h5 <;> simp at h5
    have:=(x0c _ h3.1).2.2 h3.2
    omega
   ·exact .inr ⟨c,t++[dgD (u % 10)],by rw [h1]; rfl,h2⟩
theorem v0l:∀ u:Nat,(Lib.decDigits u).all isD=true:=by
 intro u
 induction u using Nat.strongRecOn with
 | _ u ih =>
  rw [z05]
  split
  ·rename_i h
   simp [(x0c u h).1]
  ·rename_i h
   rw [List.all_append,ih (u / 10) (by omega)]
   simp [(x0c (u % 10) (Nat.mod_lt _ (by decide))).1]
theorem v0m:∀ (k u:Nat),u < 10 ^ (k+1)→(Lib.decDigits u).length≤k+1:=by
 intro k
 induction k with
 | zero =>
  intro u h
  rw [z05,if_pos (by simpa using h)]; simp
 | succ k ih =>
  intro u h
  rw [z05]
  split
  ·simp
  ·have:u / 10 < 10 ^ (k+1):=by
    rw [Nat.div_lt_iff_lt_mul (by decide)]
    rw [Nat.pow_succ] at h; exact h
   have:=ih _ this
   simp; omega
def canD (s:Bs):Bool:=s.all isD && (decide (s=[48]) || decide (s.head?≠some 48∧s≠[]))
theorem x0b (s:Bs):canD s=true→Lib.decDigits (nvB s)=s∧(1≤nvB s∨s=[48]):=by
 refine y10 (P:=fun s=>canD s=true→Lib.decDigits (nvB s)=s∧(1≤nvB s∨s=[48])) (by decide) (fun p d ih h => ?_) s
 unfold canD at h
 simp only [Bool.and_eq_true,Bool.or_eq_true,decide_eq_true_eq,List.all_append,List.all_cons,List.all_nil,Bool.and_true] at h
 obtain ⟨⟨hp,hd⟩,hh⟩:=h
 obtain ⟨d1,d2,d3,_⟩:=y0t d hd
 cases p with
 | nil =>
  have e:nvB ([]++[d])=dv d:=by simp [nvB]
  rw [e,z05,if_pos d2,d1]
  refine ⟨rfl,?_⟩
  by_cases h0:dv d=0
  ·exact .inr (by rw [d3 h0]; rfl)
  ·exact .inl (by omega)
 | cons c t =>
  have hc:c≠48:=by
   rcases hh with h1 | ⟨h1,_⟩
   ·have:=congrArg List.length h1; simp at this
   ·intro h2; rw [h2] at h1; exact h1 rfl
  have hcan:canD (c::t)=true:=by
   unfold canD
   rw [hp]
   simp [hc]
  obtain ⟨i1,i2⟩:=ih hcan
  have i3:1≤nvB (c::t):=by
   rcases i2 with h | h
   ·exact h
   ·exact absurd (List.cons.inj h).1 hc
  rw [x4u]
  have e1:(nvB (c::t) * 10+dv d) / 10=nvB (c::t):=by omega
  have e2:(nvB (c::t) * 10+dv d) % 10=dv d:=by omega
  rw [z05,if_neg (by omega),e1,e2,i1,d1]
  exact ⟨rfl,.inl (by omega)⟩
theorem y2o:∀ (k:Nat) (s:Bs),s.all isD=true→s.length≤k→nvB s < 10 ^ k:=by
 intro k
 induction k with
 | zero=>intro s _ h; obtain rfl:s=[]:=List.length_eq_zero_iff.1 (by omega); decide
 | succ k ih =>
  intro s
  refine y10 (P:=fun s=>s.all isD=true→s.length≤k+1→nvB s < 10 ^ (k+1)) (fun _ _=>Nat.pow_pos (by decide)) (fun p d _ h1 h2 => ?_) s
  simp only [List.all_append,List.all_cons,List.all_nil,Bool.and_true,Bool.and_eq_true] at h1
  have h3:=ih p h1.1 (by simp at h2; omega)
  have h4:=(y0t d h1.2).2.1
  rw [x4u,Nat.pow_succ]
  omega
theorem atL (E:Int→Option (Int×Int)):∀ (s:Bs) (k j v:Nat),s.all isD=true→j+s.length≤18→v < 10 ^ j →
  forL (fun (k:Nat) (x:Int) (q:Int)=>z6n k x q) E k (yk s) (v:Int)=E ((s.foldl (fun a c=>a * 10+dv c) v:Nat):Int)
 | [],k,j,v,_,_,_=>rfl
 | c::s,k,j,v,h,hj,hv=>by
  simp only [List.all_cons,Bool.and_eq_true] at h
  simp only [List.length_cons] at hj
  obtain ⟨_,hd,_,hc1,hc2⟩:=y0t c h.1
  have h9:10 ^ j≤10 ^ 17:=Nat.pow_le_pow_right (by decide) (by omega)
  have e17:(10:Nat) ^ 17=100000000000000000:=by decide
  have ew:IntKind.wrap .u8 ((c.toNat:Int) - 48)=(dv c:Int):=by
   have:=jg (fun c => !isD c || decide (IntKind.wrap .u8 ((c.toNat:Int) - 48)=(dv c:Int))) (by decide +kernel) c
   rw [h.1] at this
   exact of_decide_eq_true (by simpa only [Bool.not_true,Bool.false_or] using this)
  have ei:IntKind.wrap .i64 (dv c:Int)=(dv c:Int):=qc (by omega)
  have e1:wr ((v:Int) * 10)=(v:Int) * 10:=qc (by omega)
  have e2:wr ((v:Int) * 10+(dv c:Int))=((v * 10+dv c:Nat):Int):=by rw [qc (by omega)]; omega
  show (z6n k (c.toNat:Int) (v:Int)).bind _=_
  unfold z6n
  rw [ew,if_neg (by simp; omega),ei,e1,e2]
  simp only [Option.bind_some,after]
  exact (atL E s (k+1) (j+1) (v * 10+dv c) h.2 (by omega) (by rw [Nat.pow_succ]; omega)).trans rfl
theorem atJ (s t:Bs) (ht:t.all isD=true) (hl:t.length≤17):z28 s t=z29 s (nvB t:Int):=by
 unfold z28
 rw [if_pos (by rw [Zo]; omega)]
 exact atL (fun q=>z29 s q) t 0 0 0 ht (by omega) (by decide)
theorem d43 (c:UInt8) (h:isD c=true):(c.toNat:Int)≠45∧(c.toNat:Int)≠43:=by
 have:=(y0t c h).2.2.2
 omega
theorem x83 (t:Bs) (ht:t.all isD=true) (hne:t≠[]) (hl:t.length≤17):Za t=some ((nvB t:Int),0):=by
 have hi:z2o t=some ((nvB t:Int),0):=by
  cases t with
  | nil=>exact absurd rfl hne
  | cons c r =>
   have hc:isD c=true:=by simp only [List.all_cons,Bool.and_eq_true] at ht; exact ht.1
   have h4:=d43 c hc
   unfold z2o
   rw [if_pos (by simp at hl ⊢; omega)]
   simp only [List.getElem?_cons_zero,Option.bind_some]
   rw [if_neg (by simpa using h4.1)]
   unfold z27
   rw [if_neg (by simpa using h4.2),atJ _ _ ht hl]
   unfold z29 z26
   simp only [List.getElem?_cons_zero,Option.bind_some]
   rw [if_neg (by simpa using h4.1)]
 unfold Za
 rw [hi]; rfl
theorem v1n (t:Bs) (ht:t.all isD=true) (hne:t≠[]) (hl:t.length≤17):Za (45::t)=some (-(nvB t:Int),0):=by
 have hln:1≤t.length:=by cases t with | nil=>exact absurd rfl hne | cons _ _=>simp
 have hv:=y2o 17 t ht hl
 have e17:(10:Nat) ^ 17=100000000000000000:=by decide
 have hi:z2o (45::t)=some (-(nvB t:Int),0):=by
  have hsub:sub? ((45:UInt8)::t) 1 (((45:UInt8)::t).length:Int)=some t:=by
   unfold sub?
   rw [if_pos (by simp only [List.length_cons]; omega),List.take_of_length_le (by simp)]; rfl
  unfold z2o
  rw [if_pos (by simp at hl ⊢; omega)]
  simp only [List.getElem?_cons_zero,Option.bind_some]
  rw [if_pos (by decide)]
  unfold z27
  rw [if_pos rfl,hsub]
  simp only [Option.bind_some]
  rw [if_neg (by simp; omega),atJ _ _ ht hl]
  unfold z29 z26
  simp only [List.getElem?_cons_zero,Option.bind_some]
  rw [if_pos (by decide),if_pos (by omega)]
 unfold Za
 rw [hi]; rfl
def tlB (s:Bs):Bs:=Lib.trimPrefix s [45]
def valB (s:Bs):Int:=if s.head?=some 45 then -(nvB (tlB s):Int) else (nvB s:Int)
def okN (m:Nat) (s:Bs):Bool:=(tlB s).all isD && (decide (tlB s≠[]∧(tlB s).length≤m) && decide ((tlB s).head?≠some 48∨s=[48]))
theorem y1q (c:UInt8) (r:Bs):tlB (c::r)=if c=45 then r else c::r:=by
 unfold tlB Lib.trimPrefix Lib.hasPrefix
 by_cases h:c=45
 ·subst h; simp [List.isPrefixOf]
 ·have:((45:UInt8) == c)=false:=by simpa using fun e:(45:UInt8)=c=>h e.symm
  simp [List.isPrefixOf,this,h]
theorem y5g (r:Bs):valB (45::r)=-(nvB r:Int):=by simp [valB,y1q]
theorem y5f (c:UInt8) (r:Bs) (h:c≠45):valB (c::r)=(nvB (c::r):Int):=by simp [valB,h]
theorem x82 (s:Bs) (ht:(tlB s).all isD=true) (hne:tlB s≠[]) (hl:(tlB s).length≤17):Za s=some (valB s,0):=by
 cases s with
 | nil=>exact absurd rfl hne
 | cons c r =>
  rw [y1q] at ht hne hl
  by_cases h:c=45
  ·subst h
   rw [if_pos rfl] at ht hne hl
   rw [y5g]
   exact v1n r ht hne hl
  ·rw [if_neg h] at ht hne hl
   rw [y5f c r h]
   exact x83 (c::r) ht hne hl
theorem w8h (s:Bs) (m:Nat) (ht:(tlB s).all isD=true) (hne:tlB s≠[]) (hl:(tlB s).length≤m) (hm:m≤17):∃ r,xz (valB s)=some r∧decide (r=s)=okN m s:=by
 have hv:=y2o 17 (tlB s) ht (by omega)
 have e17:(10:Nat) ^ 17=100000000000000000:=by decide
 have hok:okN m s=decide ((tlB s).head?≠some 48∨s=[48]):=by
  unfold okN
  rw [ht,show decide (tlB s≠[]∧(tlB s).length≤m)=true from by simpa using ⟨hne,hl⟩]
  simp
 cases s with
 | nil=>exact absurd rfl hne
 | cons c r =>
  rw [y1q] at ht hne hl hv hok
  unfold xz
  by_cases h:c=45
  ·subst h
   rw [if_pos rfl] at ht hne hl hv hok
   rw [y5g,if_pos (by omega)]
   refine ⟨_,rfl,?_⟩
   rw [hok]
   have hok':decide (r.head?≠some 48∨(45:UInt8)::r=[48])=decide (r.head?≠some 48):=by simp
   rw [hok']
   have hcan:(r.head?≠some 48)→canD r=true:=fun hh=>by
    unfold canD
    rw [ht]
    simp [hh,hne]
   unfold Lib.itoa
   by_cases h0:nvB r=0
   ·rw [if_neg (by omega),h0]
    have h1:r.head?=some 48:=Classical.byContradiction fun hh=>by
     rcases (x0b r (hcan hh)).2 with h2 | h2
     ·omega
     ·rw [h2] at hh; exact hh rfl
    rw [h1]
    have:Lib.decDigits (-((0:Nat):Int)).toNat=[48]:=by decide +kernel
    rw [this]
    simp
   ·rw [if_pos (by omega)]
    have e1:(-(nvB r:Int)).natAbs=nvB r:=by omega
    rw [e1]
    by_cases hh:r.head?=some 48
    ·rw [hh]
     have:¬ (45::Lib.decDigits (nvB r)=45::r):=fun e=>by
      have e2:=(List.cons.inj e).2
      rcases x8f (nvB r) with h3 | ⟨d,t,h3,h4⟩
      ·rw [e2] at h3
       rw [h3] at h0
       exact h0 (by decide)
      ·rw [e2] at h3
       rw [h3] at hh
       exact h4 (by simpa using hh)
     simpa using this
    ·rw [(x0b r (hcan hh)).1]
     simp [hh]
  ·rw [if_neg h] at ht hne hl hv hok
   have hcan:((c::r).head?≠some 48∨c::r=[48])→canD (c::r)=true:=fun hh=>by
    unfold canD
    rw [ht]
    rcases hh with hh | hh
    ·simp only [Bool.true_and,Bool.or_eq_true,decide_eq_true_eq]
     exact .inr ⟨hh,hne⟩
    ·simp only [Bool.true_and,Bool.or_eq_true,decide_eq_true_eq]
     exact .inl hh
   rw [y5f c r h,if_pos (by omega)]
   refine ⟨_,rfl,?_⟩
   rw [hok]
   unfold Lib.itoa
   rw [if_neg (by omega),Int.toNat_natCast]
   refine decide_eq_decide.2 ⟨fun e => ?_,fun hh=>(x0b _ (hcan hh)).1⟩
   rcases x8f (nvB (c::r)) with h3 | ⟨d,t,h3,h4⟩
   ·exact .inr (e.symm.trans h3)
   ·refine .inl ?_
    rw [e.symm.trans h3]
    simpa using h4
theorem x7v {α ρ:Type} {body:Nat→α→Unit→Option (Unit ⊕ ρ)} {fin:Unit→Option ρ} {p:α→Bool} {r0:ρ} (h:∀ j x,body j x ()=if p x then some (.inl ()) else some (.inr r0)):∀ (l:List α) (k:Nat),l.all p=false→forL body fin k l ()=some r0
 | [],k,hl=>by cases hl
 | x::l,k,hl=>by
  show (body k x ()).bind _=_
  rw [h k x]
  cases hp:p x
  ·simp [after]
  ·rw [List.all_cons,hp,Bool.true_and] at hl
   simp only [if_true,Option.bind_some,after]
   exact x7v h l (k+1) hl
theorem x1v (s:Bs):(tlB s).length≤s.length:=by
 unfold tlB Lib.trimPrefix
 split
 ·simp
 ·exact Nat.le_refl _
theorem x5n (s:Bs) (m:Nat) (hm:m≤17) (hs:s.length≤1000000):z2m s (m:Int)=some (if okN m s then valB s else 0,okN m s):=by
 have hJ:xd s (tlB s) true=some (0,false):=rfl
 have htl:=x1v s
 have hb:∀ (j:Nat) (x:UInt8),z9r j x=if isD x then some (.inl ()) else some (.inr (0,false)):=fun j x=>by
  have:=jg (fun x=>decide (z9r 0 x=if isD x then some (.inl ()) else some (.inr (0,false)))) (by decide +kernel) x
  exact of_decide_eq_true this
 unfold z2m z5c
 simp only [Option.bind_some]
 show (if decide (tlB s=[]) then xd s (tlB s) true else if decide ((m:Int) < ((tlB s).length:Int)) then xd s (tlB s) true else ((tlB s)[0]?).bind fun x9=>if decide ((x9.toNat:Int)=48) then xd s (tlB s) (decide (s≠[48])) else xd s (tlB s) false)=_
 by_cases h0:tlB s=[]
 ·rw [if_pos (by simpa using h0),hJ]
  have:okN m s=false:=by unfold okN; rw [h0]; simp
  rw [this]; rfl
 rw [if_neg (by simpa using h0)]
 by_cases hl:m < (tlB s).length
 ·rw [if_pos (by simp; omega),hJ]
  have:okN m s=false:=by
   unfold okN
   rw [show decide (tlB s≠[]∧(tlB s).length≤m)=false from by simp; intro; omega]
   simp
  rw [this]; rfl
 rw [if_neg (by simp; omega)]
 have hlm:decide (tlB s≠[]∧(tlB s).length≤m)=true:=by simp only [decide_eq_true_eq]; exact ⟨h0,by omega⟩
 have hall:xd s (tlB s) false=some (if (tlB s).all isD then valB s else 0,(tlB s).all isD):=by
  unfold xd
  rw [if_neg (by simp),if_pos (by omega)]
  cases hd:(tlB s).all isD
  ·exact x7v (p:=isD) hb (tlB s) 0 hd
  ·have hf:z58 s=some (valB s,true):=by
    unfold z58
    rw [x82 s hd h0 (by omega)]; rfl
   rw [z03 (fin:=fun (s_1:Unit)=>z58 s) (e:=(valB s,true)) (p:=fun _ c=>isD c) (r0:=(0,false)) hf (tlB s) 0 (fun j x _ _=>hb j x),y48,hd]
   rfl
 cases hc:tlB s with
 | nil=>exact absurd hc h0
 | cons c r =>
  rw [hc] at hall hlm h0
  simp only [List.getElem?_cons_zero,Option.bind_some]
  have hok:okN m s=((c::r).all isD && decide ((c::r).head?≠some 48∨s=[48])):=by
   unfold okN
   rw [hc,hlm]; simp
  by_cases h48:c=48
  ·rw [if_pos (by rw [h48]; decide)]
   by_cases hs48:s=[48]
   ·rw [show decide (s≠[48])=false from by simpa using hs48,hall,hok]
    simp [hs48]
   ·rw [show decide (s≠[48])=true from by simpa using hs48]
    have:okN m s=false:=by rw [hok]; simp [h48,hs48]
    rw [this]; rfl
  ·have hcn:¬ ((c.toNat:Int)=48):=fun h=>h48 (UInt8.toNat_inj.1 (by simp; omega))
   rw [if_neg (by simpa using hcn),hall,hok]
   simp [h48]
theorem x93 (s:Bs) (m:Nat) (hm:m≤17) (ht:(tlB s).all isD=true) (hl:(tlB s).length≤m):-100000000000000000 < valB s∧valB s < 100000000000000000:=by
 have e17:(10:Nat) ^ 17=100000000000000000:=by decide
 cases s with
 | nil=>simp [valB,nvB]
 | cons c r =>
  rw [y1q] at ht hl
  by_cases h:c=45
  ·subst h
   rw [if_pos rfl] at ht hl
   rw [y5g]
   have:=y2o 17 r ht (by omega)
   omega
  ·rw [if_neg h] at ht hl
   rw [y5f c r h]
   have:=y2o 17 (c::r) ht (by omega)
   omega
theorem x4b (s:Bs) (m:Nat) (hm:m≤17) (hs:s.length≤1000000):∃ w,z0s s (m:Int)=some (w,okN m s)∧(okN m s=true→w=valB s)∧(-100000000000000000 < w∧w < 100000000000000000):=by
 have hJ:z02 s true=some (0,false):=rfl
 have htl:=x1v s
 unfold z0s z5c
 simp only [Option.bind_some]
 show ∃ w,(if decide (tlB s=[]) then z02 s true else if decide ((m:Int) < ((tlB s).length:Int)) then z02 s true else (xj (tlB s) [48,49,50,51,52,53,54,55,56,57]).bind fun r9=>z02 s (!r9))=some (w,okN m s)∧_
 by_cases h0:tlB s=[]
 ·have:okN m s=false:=by unfold okN; rw [h0]; simp
  rw [if_pos (by simpa using h0),hJ,this]
  exact ⟨0,rfl,(fun h=>by cases h),by decide,by decide⟩
 rw [if_neg (by simpa using h0)]
 by_cases hl:m < (tlB s).length
 ·have:okN m s=false:=by
   unfold okN
   rw [show decide (tlB s≠[]∧(tlB s).length≤m)=false from by simp; intro; omega]
   simp
  rw [if_pos (by simp; omega),hJ,this]
  exact ⟨0,rfl,(fun h=>by cases h),by decide,by decide⟩
 rw [if_neg (by simp; omega),z4o _ _ (by omega)]
 simp only [Option.bind_some]
 cases hd:(tlB s).all fun c=>([48,49,50,51,52,53,54,55,56,57]:Bs).contains c
 ·have:okN m s=false:=by
   unfold okN
   rw [show (tlB s).all isD=false from hd]; simp
  rw [this,Bool.not_false,hJ]
  exact ⟨0,rfl,(fun h=>by cases h),by decide,by decide⟩
 ·have hd':(tlB s).all isD=true:=hd
  obtain ⟨r,h1,h2⟩:=w8h s m hd' h0 (by omega) hm
  rw [Bool.not_true]
  unfold z02 y9s
  rw [if_neg (by simp),x82 s hd' h0 (by omega)]
  simp only [Option.bind_some]
  rw [if_pos (by simp),h1]
  simp only [Option.bind_some]
  rw [h2]
  exact ⟨valB s,rfl,fun _=>rfl,x93 s m hm hd' (by omega)⟩
theorem v1t (s cs:Bs):Lib.containsAny s cs=s.any cs.contains:=by
 unfold Lib.containsAny
 induction s with
 | nil=>rfl
 | cons b l ih =>
  have hge:=Lib.indexAny_ge cs l
  unfold Lib.indexAny
  rw [List.any_cons]
  cases hc:cs.contains b
  ·simp only [Bool.false_eq_true,if_false,Bool.false_or]
   rw [← ih]
   split
   ·rename_i h
    have:Lib.indexAny l cs=-1:=by simpa using h
    rw [this]
   ·refine decide_eq_decide.2 ?_
    rename_i h
    have:¬ Lib.indexAny l cs=-1:=by simpa using h
    omega
  ·simp
theorem y4y (s:Bs) (c:UInt8):(Lib.cut s [c]).1.length≤s.length∧(Lib.cut s [c]).2.1.length≤s.length∧(∀ x,x∈(Lib.cut s [c]).1→x∈s)∧∀ x,x∈(Lib.cut s [c]).2.1→x∈s:=by
 unfold Lib.cut
 split
 ·exact ⟨by simp; omega,by simp,fun x hx=>List.mem_of_mem_take hx,fun x hx=>List.mem_of_mem_drop hx⟩
 ·exact ⟨Nat.le_refl _,by simp,fun x hx=>hx,fun x hx=>by cases hx⟩
theorem x3d (c:UInt8):∀ (s:Bs) (p:Bs),p∈spl c s→∀ x,x∈p→x∈s
 | [],p,h,x,hx=>by
  have:p=[]:=by simpa [spl] using h
  subst this; cases hx
 | b::l,p,h,x,hx=>by
  have ih:=x3d c l
  unfold spl at h
  split at h
  ·rcases List.mem_cons.1 h with rfl | h
   ·cases hx
   ·exact List.mem_cons_of_mem _ (ih p h x hx)
  ·split at h
   ·rename_i q ps hq
    rw [hq] at ih
    rcases List.mem_cons.1 h with rfl | h
    ·rcases List.mem_cons.1 hx with rfl | hx
     ·simp
     ·exact List.mem_cons_of_mem _ (ih q (by simp) x hx)
    ·exact List.mem_cons_of_mem _ (ih p (List.mem_cons_of_mem _ h) x hx)
   ·have:p=[b]:=by simpa using h
    subst this
    have:x=b:=by simpa using hx
    rw [this]; simp
theorem w00 (c:UInt8) (s:Bs):(trL c (trR c s)).length≤s.length∧∀ x,x∈trL c (trR c s)→x∈s:=by
 have h1:=y1n c s
 have h2:(trL c (trR c s)).Sublist (trR c s):=List.dropWhile_sublist _
 refine ⟨Nat.le_trans h2.length_le h1,fun x hx => ?_⟩
 have h3:=h2.subset hx
 unfold trR at h3
 have h4:=(List.dropWhile_sublist (l:=s.reverse) (· == c)).subset (List.mem_reverse.1 h3)
 exact List.mem_reverse.1 h4
theorem x7u {α σ ρ:Type} {body body':Nat→α→σ→Option (σ ⊕ ρ)} {fin fin':σ→Option ρ} {R:ρ→Prop} (I:Nat→σ→Prop):∀ (l:List α) (k:Nat) (s:σ),I k s →
  (∀ j x s,k≤j→l[j - k]?=some x→I j s→∃ q,body j x s=some q∧body' j x s=some q∧rd (I (j+1)) R q)→(∀ s,I (k+l.length) s→∃ r,fin s=some r∧fin' s=some r∧R r)→∃ r,forL body fin k l s=some r∧forL body' fin' k l s=some r∧R r
 | [],k,s,h0,hs,hf=>hf s h0
 | x::l,k,s,h0,hs,hf=>by
  obtain ⟨q,q1,q2,q3⟩:=hs k x s (Nat.le_refl _) (by simp) h0
  show ∃ r,(body k x s).bind _=some r∧(body' k x s).bind _=some r∧R r
  rw [q1,q2]
  cases q with
  | inl s' =>
   refine x7u I l (k+1) s' q3 (fun j y s hj hy hi=>hs j y s (by omega) ?_ hi) (fun s hi=>hf s ?_)
   ·obtain ⟨m,hm⟩:∃ m,j - k=m+1:=⟨j - k - 1,by omega⟩
    rw [hm,List.getElem?_cons_succ]
    have:j - (k+1)=m:=by omega
    rw [this] at hy; exact hy
   ·simp only [List.length_cons]
    have:k+(l.length+1)=k+1+l.length:=by omega
    rw [this]; exact hi
  | inr r=>exact ⟨r,rfl,rfl,q3⟩
def yo (n:Bs) (l:List zg):List Bs:=(l.filter (nmB n)).map fun x=>x.Value
theorem x1c (n:Bs) (hn:ascB n=true):∀ (l:List zg) (k:Nat) (q:List Bs),(∀ x,x∈l→nmOK x)→q.length+l.length≤1000 →
  forL (fun (k:Nat) (x:zg) (s:(List Bs))=>z14 n k x s) (fun (s:(List Bs))=>y2u s) k l q=some (q++yo n l)
 | [],k,q,_,_=>by show some q=_; simp [yo]
 | x::l,k,q,h,hl=>by
  simp only [List.length_cons] at hl
  have hst:z14 n k x q=some (.inl (if nmB n x then q++[x.Value] else q)):=by
   unfold z14 z43
   rw [z8n x n (h x (by simp)) hn]
   simp only [Option.bind_some]
   cases nmB n x
   ·rfl
   ·simp only [if_true]; rw [if_pos (by omega)]
  show (z14 n k x q).bind _=_
  rw [hst]
  have ih:=x1c n hn l (k+1) (if nmB n x then q++[x.Value] else q) (fun y hy=>h y (List.mem_cons_of_mem _ hy)) (by split <;> first | omega | (simp only [List.length_append,List.length_cons,List.length_nil]; omega))
  refine Eq.trans ih ?_
  unfold yo
  rw [List.filter_cons]
  cases nmB n x <;> simp
theorem x1b (n:Bs) (hn:ascB n=true∧n.length≤100000):∀ (l:List zg) (k:Nat) (q:List Bs),(∀ x,x∈l→nmOK x)→q.length+l.length≤1000 →
  forL (fun (k:Nat) (x:zg) (s:(List Bs))=>y0j n k x s) (fun (s:(List Bs))=>x7e s) k l q=some (q++yo n l)
 | [],k,q,_,_=>by show some q=_; simp [yo]
 | x::l,k,q,h,hl=>by
  simp only [List.length_cons] at hl
  have hst:y0j n k x q=some (.inl (if nmB n x then q++[x.Value] else q)):=by
   unfold y0j y9o
   rw [v1w x.Name n (h x (by simp)) hn]
   simp only [Option.bind_some]
   show (if nmB n x=true then _ else _)=_
   cases nmB n x
   ·rfl
   ·simp only [if_true]; rw [if_pos (by omega)]
  show (y0j n k x q).bind _=_
  rw [hst]
  have ih:=x1b n hn l (k+1) (if nmB n x then q++[x.Value] else q) (fun y hy=>h y (List.mem_cons_of_mem _ hy)) (by split <;> first | omega | (simp only [List.length_append,List.length_cons,List.length_nil]; omega))
  refine Eq.trans ih ?_
  unfold yo
  rw [List.filter_cons]
  cases nmB n x <;> simp
theorem ki (l:List zg) (n:Bs) (hl:l.length≤1000) (h:∀ x,x∈l→nmOK x) (hn:ascB n=true∧n.length≤100000):ve l n=some (yo n l)∧Ze l n=some (yo n l):=by
 constructor
 ·unfold ve
  rw [if_pos (by omega),x1c n hn.1 l 0 [] h (by simpa using hl)]; rfl
 ·unfold Ze
  rw [if_pos (by omega),x1b n hn l 0 [] h (by simpa using hl)]; rfl
theorem y94 {s:Bs} (h:fldB s=true):rgB s 32 126=true:=by
 unfold fldB at h
 simp only [Bool.and_eq_true] at h
 exact h.2.1
theorem x6u {n:Int} (h:0≤n):Lib.itoa n=Lib.decDigits n.toNat:=by
 unfold Lib.itoa
 rw [if_neg (by omega)]
theorem w8i {n:Int} (h:0≤n) (h2:n < 100000000000000000):(Lib.itoa n).length≤17:=by
 rw [x6u h]
 exact v0m 16 _ (by omega)
section
end
theorem x31 (r:zw) (h:rqP r):Ok (jk r) fun e=>y3c r=some e:=by
 obtain ⟨p1,p2,p3,p4,p5,p6⟩:=h
 obtain ⟨b,q,e1,e2,e3⟩:=y33 p2
 have hh:=Qz r.Headers p6
 unfold jk y3c xy y4f
 rw [z6f,w44,Yq _ (by omega),z71 _ (by omega),e1,e2,z8l _ (by omega),x4j _ (by omega),y2f _ (by omega),w4e _ (by omega),y96,z0y _ (by omega),hh.1,hh.2]
 simp only [Option.bind_some,e3]
 cases momP r.At
 ·exact yv rfl
 ·cases tokB r.Method
  ·exact yv rfl
  ·cases b
   ·exact yv rfl
   ·cases pthB r.Path
    ·exact yv rfl
    ·cases qryB r.Query
     ·exact yv rfl
     ·cases fldB r.From
      ·exact yv rfl
      ·simp only [if_true,Bool.not_true,Bool.false_eq_true,if_false,ne_eq,not_true_eq_false,decide_false]
       split
       ·exact yv rfl
       ·split <;> exact yv rfl
theorem w3z (r:yb) (h:hdsP r.Headers):Ok (kl r) fun e=>y8a r=some e:=by
 have hh:=Qz r.Headers h
 unfold kl y8a
 rw [z4n,z99,hh.1,hh.2]
 simp only [Option.bind_some,Bool.not_not]
 split
 ·exact yv rfl
 ·split
  ·exact yv rfl
  ·split <;> exact yv rfl
def aQ (n:Nat) (s:Bs):Bool:=ascB s && decide (s.length≤n)
theorem v1x {n:Nat} {s:Bs} (h:aQ n s=true):ascB s=true∧s.length≤n:=by
 unfold aQ at h
 simpa using h
theorem y1z {k:Int} {s:zu} (h:SB k s) (hk:k≤100000000) (n:Nat) (l:List Bs) (hl:l≠[]∧l.length≤1000) (hQ:l.all (aQ n)=true):Ok (vr s l) fun r=>(ascB r.1=true∧r.1.length≤n)∧SB (k+1) r.2:=
 x4s (Qd h hk l hl) fun r hr=>⟨v1x (List.all_eq_true.1 hQ _ hr.1),hr.2⟩
def hdA (h:zg):Prop:=hdP h∧nmOK h
theorem w82 {l:List zg} {x:zg} (h:∀ y,y∈l→hdA y) (hx:hdA x):∀ y,y∈l++[x]→hdA y:=by
 intro y hy
 rcases List.mem_append.1 hy with hy | hy
 ·exact h y hy
 ·rw [List.mem_singleton.1 hy]; exact hx
theorem w83 {a b:Bs} (h1:ascB a=true∧a.length≤3000) (h2:b.length≤30000):hdA (zg.mk a b):=⟨⟨by show a.length≤_; omega,by show b.length≤_; omega⟩,h1.1,by show a.length≤_; omega⟩
abbrev cl_:Bs:=[99,111,110,116,101,110,116,45,108,101,110,103,116,104]
abbrev te_:Bs:=[116,114,97,110,115,102,101,114,45,101,110,99,111,100,105,110,103]
abbrev ho_:Bs:=[104,111,115,116]
def frB (h:zg):Bool:=nmB cl_ h || nmB te_ h
theorem x7s (h:zg) (h1:nmOK h):z0l h=some (frB h):=by
 unfold z0l z4y frB
 rw [z8n h _ h1 (by decide),z8n h _ h1 (by decide)]
 simp only [Option.bind_some]
 cases nmB cl_ h <;> rfl
def owB (req:Bool) (h:zg):Bool:=(req && nmB ho_ h) || frB h
abbrev crl:Bs:=[13,10]
def hdG (r:Bs):Bool:=(Lib.cut r [58]).2.2 && (tokB (Lib.cut r [58]).1 && fldB (trL 32 (trR 32 (Lib.cut r [58]).2.1)))
def hdH (r:Bs):zg:=zg.mk (Lib.cut r [58]).1 (trL 32 (trR 32 (Lib.cut r [58]).2.1))
def hdL:Nat→Bs→List zg→Option (List zg×Bs)
 | 0,_,_=>none
 | n+1,q,l=>if (Lib.cut q crl).2.2=false then none else if (Lib.cut q crl).1=[] then some (l,(Lib.cut q crl).2.1) else if hdG (Lib.cut q crl).1=true then hdL n (Lib.cut q crl).2.1 (l++[hdH (Lib.cut q crl).1]) else none
theorem w9s (r2:Bs×Bs×Bool) (q:Bs) (l:List zg) (hq:q.length≤100000) (hl:l.length≤100000000):Wc r2 q l=if (Lib.cut q crl).2.2=false then some (.inr (ut.mk r2.1 l [],9)) else if (Lib.cut q crl).1=[] then some (.inr (ut.mk r2.1 l (Lib.cut q crl).2.1,0)) else if hdG (Lib.cut q crl).1=true then some (.inl ((Lib.cut q crl).2.1,l++[hdH (Lib.cut q crl).1])) else some (.inr (ut.mk r2.1 l [],9)):=by
 have hcl:=x0e q
 unfold Wc vq
 rw [if_pos (show q.length≤1000000000 by omega)]
 simp only [Option.bind_some]
 generalize Lib.cut q crl=r at *
 cases r.2.2
 ·rfl
 ·simp only [Bool.not_true,Bool.false_eq_true,if_false,Bool.true_eq_false]
  by_cases h0:r.1=[]
  ·rw [if_pos (show decide (r.1=[])=true by simpa using h0),if_pos h0]; rfl
  ·have hc:=y4y r.1 58
   rw [if_neg (show ¬ decide (r.1=[])=true by simpa using h0),if_neg h0,if_pos (show r.1.length≤1000000000 by omega)]
   simp only [Option.bind_some]
   unfold y4c hdG hdH
   generalize Lib.cut r.1 [58]=c at *
   rw [z4a 32 (by decide) c.2.1 (by omega),z71 c.1 (by omega)]
   simp only [Option.bind_some]
   rw [y96]
   have hfl:(trL 32 (trR 32 c.2.1)).length≤1000000000:=by
    have h1:=y1n 32 c.2.1
    have h2:(trL 32 (trR 32 c.2.1)).length≤(trR 32 c.2.1).length:=by unfold trL; exact (List.dropWhile_sublist _).length_le
    omega
   rw [z0y _ hfl]
   simp only [Option.bind_some]
   cases c.2.2
   ·rfl
   ·cases tokB c.1
    ·rfl
    ·cases fldB (trL 32 (trR 32 c.2.1))
     ·rfl
     ·simp only [Bool.not_true,Bool.false_eq_true,if_false,Bool.and_self,if_true]
      rw [if_pos (by omega)]
theorem y37 (s q first:Bs) (v2 at_:Int) (l:List zg) (hs:sub? s at_ (s.length:Int)=some q) (hq:q.length≤100000) (hl:l.length≤100000000):ud s v2 l first at_=if (Lib.cut q crl).2.2=false then some (.inr (jc.mk first l at_,false)) else if v2=0 then some (.inl (wr (v2+1),l,(Lib.cut q crl).1,wr (at_+wr (((Lib.cut q crl).1.length:Int)+2)))) else if (Lib.cut q crl).1=[] then some (.inr (jc.mk first l (wr (at_+wr (((Lib.cut q crl).1.length:Int)+2))),true)) else if hdG (Lib.cut q crl).1=true then some (.inl (wr (v2+1),l++[hdH (Lib.cut q crl).1],first,wr (at_+wr (((Lib.cut q crl).1.length:Int)+2)))) else some (.inr (jc.mk first l (wr (at_+wr (((Lib.cut q crl).1.length:Int)+2))),false)):=by
 have hcl:=x0e q
 unfold ud vq
 rw [hs]
 simp only [Option.bind_some]
 rw [if_pos (show q.length≤1000000000 by omega)]
 simp only [Option.bind_some]
 generalize Lib.cut q crl=r at *
 cases r.2.2
 ·rfl
 ·simp only [Bool.not_true,Bool.false_eq_true,if_false,Bool.true_eq_false]
  by_cases hv:v2=0
  ·rw [if_pos (show decide (v2=0)=true by simpa using hv),if_pos hv]; rfl
  ·rw [if_neg (show ¬ decide (v2=0)=true by simpa using hv),if_neg hv]
   by_cases h0:r.1=[]
   ·rw [if_pos (show decide (r.1=[])=true by simpa using h0),if_pos h0]
   ·have hc:=y4y r.1 58
    rw [if_neg (show ¬ decide (r.1=[])=true by simpa using h0),if_neg h0,if_pos (show r.1.length≤1000000000 by omega)]
    simp only [Option.bind_some]
    unfold z1v z4r hdG hdH
    generalize Lib.cut r.1 [58]=c at *
    rw [z4a 32 (by decide) c.2.1 (by omega),Yq c.1 (by omega)]
    simp only [Option.bind_some]
    have hfl:(trL 32 (trR 32 c.2.1)).length≤1000000000:=by
     have h1:=y1n 32 c.2.1
     have h2:(trL 32 (trR 32 c.2.1)).length≤(trR 32 c.2.1).length:=by unfold trL; exact (List.dropWhile_sublist _).length_le
     omega
    rw [z0y _ hfl]
    simp only [Option.bind_some]
    cases c.2.2
    ·rfl
    ·cases tokB c.1
     ·rfl
     ·cases fldB (trL 32 (trR 32 c.2.1))
      ·rfl
      ·simp only [Bool.not_true,Bool.false_eq_true,if_false,Bool.and_self,if_true]
       rw [if_pos (by omega)]
def hdOK (h:zg):Prop:=tokB h.Name=true∧fldB h.Value=true
theorem x67:∀ (n:Nat) (q:Bs) (l:List zg),(∀ h,h∈l→hdOK h)→∀ x,hdL n q l=some x→(∀ h,h∈x.1→hdOK h)∧x.2 <:+ q∧x.1.length≤l.length+q.length
 | 0,q,l,hl,x,h=>by cases h
 | n+1,q,l,hl,x,h=>by
  unfold hdL at h
  cases h2:(Lib.cut q crl).2.2
  ·rw [h2] at h; simp at h
  ·rw [h2] at h
   have hc:=y4x q h2
   simp only [Bool.true_eq_false,if_false] at h
   have hsuf:(Lib.cut q crl).2.1 <:+ q:=by
    have:(Lib.cut q crl).2.1=q.drop ((Lib.cut q crl).1.length+2):=hc.2
    rw [this]; exact List.drop_suffix _ _
   by_cases h0:(Lib.cut q crl).1=[]
   ·rw [if_pos h0] at h
    cases h
    exact ⟨hl,hsuf,by simp⟩
   ·rw [if_neg h0] at h
    cases hg:hdG (Lib.cut q crl).1
    ·rw [hg] at h; simp at h
    ·rw [hg] at h
     simp only [if_true] at h
     obtain ⟨a,b,c⟩:=x67 n _ _ (fun y hy=>by
      rcases List.mem_append.1 hy with hy | hy
      ·exact hl y hy
      ·rw [List.mem_singleton.1 hy]
       unfold hdG at hg
       simp only [Bool.and_eq_true] at hg
       exact ⟨hg.2.1,hg.2.2⟩) x h
     have hlen:(Lib.cut q crl).2.1.length+2≤q.length:=by
      have:(Lib.cut q crl).2.1=q.drop ((Lib.cut q crl).1.length+2):=hc.2
      rw [this,List.length_drop]
      have:=hc.1
      omega
     exact ⟨a,b.trans hsuf,by simp at c; omega⟩
theorem x0d (q:Bs) (h:(Lib.cut q crl).2.2=true):(Lib.cut q crl).2.1.length+(Lib.cut q crl).1.length+2=q.length:=by
 have hc:=y4x q h
 have e:(Lib.cut q crl).2.1=q.drop ((Lib.cut q crl).1.length+2):=hc.2
 have:=hc.1
 rw [e,List.length_drop]
 show q.length - ((Lib.cut q [13,10]).1.length+2)+(Lib.cut q [13,10]).1.length+2=_
 omega
theorem x7t (r2:Bs×Bs×Bool):∀ (n:Nat) (q:Bs) (l:List zg),q.length < n→q.length≤100000→l.length+q.length≤1000000→∃ l',iter (fun (s:Bs×(List zg))=>Wc r2 s.1 s.2) (q,l)=some (match hdL n q l with | none=>(ut.mk r2.1 l' [],9) | some x=>(ut.mk r2.1 x.1 x.2,0))
 | 0,q,l,h,_,_=>by omega
 | n+1,q,l,h,hq,hl=>by
  have hst:=w9s r2 q l hq (by omega)
  unfold hdL
  cases h2:(Lib.cut q crl).2.2
  ·rw [h2] at hst
   simp only [if_true] at hst ⊢
   exact ⟨l,kv (body:=fun (s:Bs×(List zg))=>Wc r2 s.1 s.2) (s:=(q,l)) hst⟩
  ·have hlt:=x0d q h2
   rw [h2] at hst
   simp only [Bool.true_eq_false,if_false] at hst ⊢
   by_cases h0:(Lib.cut q crl).1=[]
   ·rw [if_pos h0] at hst ⊢
    exact ⟨l,kv (body:=fun (s:Bs×(List zg))=>Wc r2 s.1 s.2) (s:=(q,l)) hst⟩
   ·rw [if_neg h0] at hst ⊢
    cases hg:hdG (Lib.cut q crl).1
    ·rw [hg] at hst
     simp only [Bool.false_eq_true,if_false] at hst ⊢
     exact ⟨l,kv (body:=fun (s:Bs×(List zg))=>Wc r2 s.1 s.2) (s:=(q,l)) hst⟩
    ·rw [hg] at hst
     simp only [if_true] at hst ⊢
     obtain ⟨l',h'⟩:=x7t r2 n (Lib.cut q crl).2.1 (l++[hdH (Lib.cut q crl).1]) (by omega) (by omega) (by simp; omega)
     refine ⟨l',?_⟩
     rw [Zi (body:=fun (s:Bs×(List zg))=>Wc r2 s.1 s.2) (s:=(q,l)) hst]
     exact h'
theorem Ws (s:Bs) (i:Nat) (h:i≤s.length):sub? s (i:Int) (s.length:Int)=some (s.drop i):=by
 unfold sub?
 rw [if_pos (by omega)]
 simp only [Int.toNat_natCast]
 rw [List.take_of_length_le (by simp)]
theorem y9j (s first:Bs) (hs:s.length≤100000):∀ (n:Nat) (q:Bs) (l:List zg) (i v2:Nat),q.length < n→s.drop i=q→i+q.length=s.length→1≤v2→v2+q.length≤300000→l.length+q.length≤1000000 →
  ∃ l' a',iter (fun (p:Int×(List zg)×Bs×Int)=>ud s p.1 p.2.1 p.2.2.1 p.2.2.2) ((v2:Int),l,first,(i:Int))=some (match hdL n q l with | none=>(jc.mk first l' a',false) | some x=>(jc.mk first x.1 ((s.length - x.2.length:Nat):Int),true))
 | 0,q,l,i,v2,h,_,_,_,_,_=>by omega
 | n+1,q,l,i,v2,h,hd,hi,h1,hv,hl=>by
  have hsub:sub? s (i:Int) (s.length:Int)=some q:=by rw [Ws s i (by omega),hd]
  have hst:=y37 s q first (v2:Int) (i:Int) l hsub (by omega) (by omega)
  unfold hdL
  cases h2:(Lib.cut q crl).2.2
  ·rw [h2] at hst
   simp only [if_true] at hst ⊢
   exact ⟨l,(i:Int),kv (body:=fun (p:Int×(List zg)×Bs×Int)=>ud s p.1 p.2.1 p.2.2.1 p.2.2.2) (s:=((v2:Int),l,first,(i:Int))) hst⟩
  ·have hlt:=x0d q h2
   have hc:=y4x q h2
   have hdr:s.drop (i+((Lib.cut q crl).1.length+2))=(Lib.cut q crl).2.1:=by
    have e:(Lib.cut q crl).2.1=q.drop ((Lib.cut q crl).1.length+2):=hc.2
    rw [e,← hd,List.drop_drop]
   have hwa:wr ((i:Int)+wr (((Lib.cut q crl).1.length:Int)+2))=((i+((Lib.cut q crl).1.length+2):Nat):Int):=by
    rw [qc (n:=((Lib.cut q crl).1.length:Int)+2) (by omega),qc (by omega)]; omega
   have hwv:wr ((v2:Int)+1)=((v2+1:Nat):Int):=by rw [qc (by omega)]; omega
   rw [h2,hwa,hwv,if_neg (by simp),if_neg (show ¬ (v2:Int)=0 by omega)] at hst
   simp only [Bool.true_eq_false,if_false]
   by_cases h0:(Lib.cut q crl).1=[]
   ·rw [if_pos h0] at hst
    rw [if_pos h0]
    refine ⟨l,0,?_⟩
    rw [kv (body:=fun (p:Int×(List zg)×Bs×Int)=>ud s p.1 p.2.1 p.2.2.1 p.2.2.2) (s:=((v2:Int),l,first,(i:Int))) hst]
    have:i+((Lib.cut q crl).1.length+2)=s.length - (Lib.cut q crl).2.1.length:=by omega
    rw [this]
   ·rw [if_neg h0] at hst
    rw [if_neg h0]
    cases hg:hdG (Lib.cut q crl).1
    ·rw [hg] at hst
     simp only [Bool.false_eq_true,if_false] at hst ⊢
     exact ⟨l,_,kv (body:=fun (p:Int×(List zg)×Bs×Int)=>ud s p.1 p.2.1 p.2.2.1 p.2.2.2) (s:=((v2:Int),l,first,(i:Int))) hst⟩
    ·rw [hg] at hst
     simp only [if_true] at hst ⊢
     obtain ⟨l',a',h'⟩:=y9j s first hs n (Lib.cut q crl).2.1 (l++[hdH (Lib.cut q crl).1]) (i+((Lib.cut q crl).1.length+2)) (v2+1) (by omega) hdr (by omega) (by omega) (by omega) (by simp; omega)
     refine ⟨l',a',?_⟩
     rw [Zi (body:=fun (p:Int×(List zg)×Bs×Int)=>ud s p.1 p.2.1 p.2.2.1 p.2.2.2) (s:=((v2:Int),l,first,(i:Int))) hst]
     exact h'
theorem x65 (s:Bs) (hs:s.length≤60000) :
  (∃ x z,Zc s=some x∧x.2=false∧x.1.first_.length≤100000∧y3a s=some z∧z.2≠0∧z.1.first_.length≤100000) ∨
  (∃ f l rest,Zc s=some (jc.mk f l ((s.length - rest.length:Nat):Int),true)∧y3a s=some (ut.mk f l rest,0)∧f.length≤100000∧(∀ h,h∈l→hdOK h)∧l.length≤100000∧rest <:+ s):=by
 have hcl:=x0e s
 have hst:=y37 s s [] 0 0 [] (by have:=Ws s 0 (by omega); simpa using this) (by omega) (by simp)
 have hF:y3a s=if (Lib.cut s crl).2.2=false then (some (ut.mk (Lib.cut s crl).1 [] [],9)) else (iter (fun (p:Bs×(List zg))=>Wc (Lib.cut s crl) p.1 p.2) ((Lib.cut s crl).2.1,([]:List zg))):=by
  unfold y3a vq
  rw [if_pos (by omega)]
  simp only [Option.bind_some]
  cases (Lib.cut s [13,10]).2.2 <;> rfl
 cases h2:(Lib.cut s crl).2.2
 ·rw [h2] at hst hF
  simp only [if_true] at hst hF
  exact .inl ⟨_,_,kv (body:=fun (p:Int×(List zg)×Bs×Int)=>ud s p.1 p.2.1 p.2.2.1 p.2.2.2) (s:=(0,[],[],0)) hst,rfl,by simp,hF,by simp,by show (Lib.cut s crl).1.length≤_; have:(Lib.cut s crl).1.length≤s.length:=hcl; omega⟩
 ·have hlt:=x0d s h2
  have hc:=y4x s h2
  have hwa:wr ((0:Int)+wr (((Lib.cut s crl).1.length:Int)+2))=(((Lib.cut s crl).1.length+2:Nat):Int):=by
   rw [qc (n:=((Lib.cut s crl).1.length:Int)+2) (by omega),qc (by omega)]; omega
  rw [h2,hwa,if_neg (by simp),if_pos rfl] at hst
  rw [h2,if_neg (by simp)] at hF
  have hdr:s.drop ((Lib.cut s crl).1.length+2)=(Lib.cut s crl).2.1:=hc.2.symm
  obtain ⟨l1,f1⟩:=x7t (Lib.cut s crl) (s.length+1) (Lib.cut s crl).2.1 [] (by omega) (by omega) (by simp; omega)
  obtain ⟨l2,a2,g1⟩:=y9j s (Lib.cut s crl).1 (by omega) (s.length+1) (Lib.cut s crl).2.1 [] ((Lib.cut s crl).1.length+2) 1 (by omega) hdr (by omega) (by omega) (by omega) (by simp; omega)
  have hR:Zc s=iter (fun (p:Int×(List zg)×Bs×Int)=>ud s p.1 p.2.1 p.2.2.1 p.2.2.2) ((1:Int),[],(Lib.cut s crl).1,(((Lib.cut s crl).1.length+2:Nat):Int)):=by
   unfold Zc
   exact Zi (body:=fun (p:Int×(List zg)×Bs×Int)=>ud s p.1 p.2.1 p.2.2.1 p.2.2.2) (s:=(0,[],[],0)) hst
  have g1':iter (fun (p:Int×(List zg)×Bs×Int)=>ud s p.1 p.2.1 p.2.2.1 p.2.2.2) ((1:Int),[],(Lib.cut s crl).1,(((Lib.cut s crl).1.length+2:Nat):Int))=_:=g1
  rw [g1'] at hR
  rw [f1] at hF
  have hfl:(Lib.cut s crl).1.length≤100000:=by have:(Lib.cut s crl).1.length≤s.length:=hcl; omega
  cases hL:hdL (s.length+1) (Lib.cut s crl).2.1 [] with
  | none =>
   rw [hL] at hR hF
   exact .inl ⟨_,_,hR,rfl,hfl,hF,by simp,hfl⟩
  | some x =>
   rw [hL] at hR hF
   obtain ⟨o1,o2,o3⟩:=x67 _ _ _ (by simp) x hL
   refine .inr ⟨_,_,_,hR,hF,hfl,o1,by simp at o3; omega,?_⟩
   refine o2.trans ?_
   rw [← hdr]; exact List.drop_suffix _ _
theorem w02 (s:Bs):(Lib.trimS s ddL=[])↔s.all isD=true:=by
 unfold Lib.trimS Lib.trimLeftS Lib.trimRightS
 show (List.dropWhile isD (List.dropWhile isD s.reverse).reverse=[])↔_
 rw [y4w,List.all_reverse]
 constructor
 ·intro h
  cases hd:List.dropWhile isD s.reverse with
  | nil =>
   have:=(y4w isD s.reverse).1 hd
   rwa [List.all_reverse] at this
  | cons c t =>
   have h1:=x77 isD _ _ _ hd
   rw [hd] at h
   simp [h1] at h
 ·intro h
  rw [(y4w isD s.reverse).2 (by rw [List.all_reverse]; exact h)]; rfl
theorem x1u (s:Bs) (h:s.length≤1000000000):∃ t,Qn s ddL=some t∧decide (t=[])=s.all isD:=by
 unfold Qn
 rw [if_pos ⟨⟨h,by decide⟩,by decide⟩]
 refine ⟨_,rfl,?_⟩
 rw [Bool.eq_iff_iff]
 simpa using w02 s
def lgB (x:Bs):Bool:=decide (x≠[]) && (x.all isD && (decide (x.head?≠some 48) || decide (x=[48])))
theorem w5g (x:Bs) (h:x.length≤1000000):z83 x=some (lgB x)∧x48 x=some (lgB x):=by
 obtain ⟨t,t1,t2⟩:=x1u x (by omega)
 have t1':Qn x [48,49,50,51,52,53,54,55,56,57]=some t:=t1
 have ho:=z4o x ddL (by omega)
 have ho':xj x [48,49,50,51,52,53,54,55,56,57]=some (x.all isD):=ho
 unfold z83 x48 z0a y0g lgB
 rw [t1',ho']
 simp only [Option.bind_some,t2]
 cases x with
 | nil=>exact ⟨rfl,rfl⟩
 | cons c r =>
  have e48:decide ((c.toNat:Int)≠48)=decide ((c::r).head?≠some 48):=by
   rw [decide_eq_decide]
   simp only [List.head?_cons,ne_eq,Option.some.injEq]
   constructor
   ·intro h1 h2; exact h1 (by rw [h2]; rfl)
   ·intro h1 h2; exact h1 (UInt8.toNat_inj.1 (by simp; omega))
  simp only [List.getElem?_cons_zero,Option.bind_some,e48]
  cases (c::r).all isD
  ·exact ⟨by simp,by simp⟩
  ·cases decide ((c::r).head?≠some 48) <;> cases decide (c::r=[48]) <;> exact ⟨rfl,rfl⟩
def vl (n:Bs) (l:List zg):List Bs:=yo n l
theorem Wa {l:List zg} (h:∀ y,y∈l→hdOK y):∀ x,x∈l→nmOK x:=fun x hx=>⟨Zl (h x hx).1,by have:=Ye (h x hx).1; omega⟩
theorem x92 {l:List zg} (h:∀ y,y∈l→hdOK y) (n:Bs):∀ v,v∈yo n l→fldB v=true:=fun v hv=>by
 unfold yo at hv
 obtain ⟨x,hx,rfl⟩:=List.mem_map.1 hv
 exact (h x (List.mem_filter.1 hx).1).2
def frE (hosts:Int) (c t:List Bs):Int:=if decide (1 < hosts) || decide (1 < (c.length:Int)) || decide (1 < (t.length:Int)) then 6 else match c,t with
 | _::_,_::_=>13
 | [],[]=>0
 | x::_,[]=>if lgB x then 0 else 3
 | [],y::_=>if y=[99,104,117,110,107,101,100] then 0 else 3
theorem w9q (l:List zg) (hosts:Int) (h:∀ y,y∈l→hdOK y) (hl:l.length≤1000):z84 l hosts=some (frE hosts (yo cl_ l) (yo te_ l)):=by
 have v1:=ki l cl_ hl (Wa h) ⟨rfl,by decide⟩
 have v2:=ki l te_ hl (Wa h) ⟨rfl,by decide⟩
 have hf:=x92 h cl_
 unfold z84 frE
 show (ve l cl_).bind _=_
 rw [v1.1]
 simp only [Option.bind_some]
 show (ve l te_).bind _=_
 rw [v2.1]
 simp only [Option.bind_some]
 generalize yo cl_ l=c at *
 generalize yo te_ l=t at *
 split
 ·rfl
 ·rename_i hn
  simp only [Bool.or_eq_true,decide_eq_true_eq,not_or] at hn
  cases c with
  | nil =>
   cases t with
   | nil=>rfl
   | cons y t =>
    have ht:t=[]:=List.length_eq_zero_iff.1 (by have:=hn.2; simp at this; omega)
    subst ht
    simp only [List.length_nil,List.length_cons,List.getElem?_cons_zero,Option.bind_some,Yh]
    by_cases hy:y=[99,104,117,110,107,101,100] <;> simp [hy]
  | cons x c =>
   have hc:c=[]:=List.length_eq_zero_iff.1 (by have:=hn.1.2; simp at this; omega)
   subst hc
   have hx:=(w5g x (by have:=Wd (hf x (by simp)); omega)).1
   cases t with
   | nil =>
    simp only [List.length_nil,List.length_cons,List.getElem?_cons_zero,Option.bind_some,Yh]
    rw [hx]
    cases lgB x <;> simp
   | cons y t =>
    have ht:t=[]:=List.length_eq_zero_iff.1 (by have:=hn.2; simp at this; omega)
    subst ht
    simp
theorem z6q {l:List zg} (h:∀ y,y∈l→hdOK y) (hl:l.length≤1000):hdsP l:=⟨hl,fun y hy=>⟨by have:=Ye (h y hy).1; omega,by have:=Wd (h y hy).2; omega⟩⟩
def pxH:Bs:=[72,84,84,80,47,49,46,49,32]
def stG (r:Bs):Bool:=decide (4≤r.length) && ((r.take 3).all isD && (decide (r[3]?=some 32) && rgB r 32 126))
theorem w3x (r:Bs) (h4:4≤r.length) (hd:(r.take 3).all isD=true) (h3:r[3]?=some 32):rgB (r.drop 4) 32 126=rgB r 32 126:=by
 have e:r=r.take 3++(32::r.drop 4):=by
  have h5:r.drop 3=32::r.drop 4:=by
   rw [List.drop_eq_getElem_cons (by omega)]
   have:=List.getElem?_eq_getElem (l:=r) (i:=3) (by omega)
   rw [h3] at this
   rw [← Option.some.inj this]
  rw [← h5,List.take_append_drop]
 have hall:rgB (r.take 3) 32 126=true:=by
  unfold rgB
  rw [List.all_eq_true] at hd ⊢
  intro c hc
  have:=y0t c (hd c hc)
  rw [z8m]
  simp
  omega
 have h32:rgB [32] 32 126=true:=by decide
 have hsp:∀ a b:Bs,rgB (a++b) 32 126=(rgB a 32 126 && rgB b 32 126):=fun a b=>by unfold rgB; rw [List.all_append]
 have:rgB r 32 126=rgB (r.take 3++([32]++r.drop 4)) 32 126:=by
  show rgB r 32 126=rgB (r.take 3++(32::r.drop 4)) 32 126
  rw [← e]
 rw [this,hsp,hsp,hall,h32]; rfl
theorem v0o (s p:Bs) (hs:s.length≤1000000000):Ok (Qo s p) fun r=>r.1.length≤s.length:=by
 unfold Qo z89 z88 z25
 refine yi (Q:=fun (r:Bs×Bool)=>r.1.length≤s.length) ?_ (fun r h=>yv h)
 refine yi (Q:=fun (b:Bool)=>b=true→p.length≤s.length) ?_ ?_
 ·refine wq (fun h => ?_) (fun _=>yv (fun h=>by cases h))
  have h:(p.length:Int)≤(s.length:Int):=by simpa using h
  exact yi (Wr s 0 _ ⟨by omega,by omega,by omega⟩) fun l _=>yv fun _=>by omega
 ·intro b hb
  refine wq (fun _=>yv (Nat.le_refl _)) (fun h => ?_)
  have h1:b=true:=by simpa using h
  have h2:=hb h1
  exact yi (Wr s _ _ ⟨by omega,by omega,by omega⟩) fun l hl=>yv (by simp only; omega)
theorem x2z (f:Bs) (hf:f.length≤100000):∃ p:Bs×Bool,Qo f pxH=some p∧p.1.length≤100000∧z5l f=some (if p.2 && stG p.1 then ((nvB (p.1.take 3):Int),true) else (0,false)) ∧
  (stG p.1=true→sub? p.1 0 3=some (p.1.take 3)∧Za (p.1.take 3)=some ((nvB (p.1.take 3):Int),0)):=by
 obtain ⟨p,hp,hpl⟩:=v0o f pxH (by omega)
 have hA:stG p.1=true→sub? p.1 0 3=some (p.1.take 3)∧Za (p.1.take 3)=some ((nvB (p.1.take 3):Int),0):=fun h=>by
  unfold stG at h
  simp only [Bool.and_eq_true,decide_eq_true_eq] at h
  refine ⟨y6d p.1 3 (by omega),x83 _ h.2.1 ?_ (by rw [List.length_take]; omega)⟩
  intro e
  have h9:(p.1.take 3).length=3:=by rw [List.length_take]; omega
  rw [e] at h9
  cases h9
 refine ⟨p,hp,by omega,?_,hA⟩
 unfold z5l Qf
 show (Qo f pxH).bind _=_
 rw [hp]
 simp only [Option.bind_some]
 cases p.2
 ·rfl
 ·simp only [Bool.not_true,Bool.false_eq_true,if_false,Bool.true_and]
  by_cases h4:4≤p.1.length
  ·rw [if_neg (show ¬ decide ((p.1.length:Int) < 4)=true by simp; omega)]
   have s1:sub? p.1 0 3=some (p.1.take 3):=y6d p.1 3 (by omega)
   obtain ⟨t,t1,t2⟩:=x1u (p.1.take 3) (by rw [List.length_take]; omega)
   have t1':Qn (p.1.take 3) [48,49,50,51,52,53,54,55,56,57]=some t:=t1
   rw [s1]
   simp only [Option.bind_some]
   rw [t1']
   simp only [Option.bind_some]
   cases hd:(p.1.take 3).all isD
   ·rw [hd] at t2
    have ht:t≠[]:=by simpa using t2
    rw [if_pos (show decide (t≠[])=true by simpa using ht)]
    have:stG p.1=false:=by unfold stG; rw [hd]; simp
    rw [this]; rfl
   ·rw [hd] at t2
    have ht:t=[]:=by simpa using t2
    rw [if_neg (show ¬ decide (t≠[])=true by simpa using ht)]
    obtain ⟨c,hc⟩:∃ c,p.1[3]?=some c:=⟨_,List.getElem?_eq_getElem (by omega)⟩
    rw [hc]
    simp only [Option.bind_some]
    by_cases h32:c=32
    ·subst h32
     rw [if_neg (by decide)]
     have s2:sub? p.1 4 (p.1.length:Int)=some (p.1.drop 4):=Ws p.1 4 (by omega)
     rw [s2]
     simp only [Option.bind_some]
     rw [z6e _ _ _ (by rw [List.length_drop]; omega),w3x p.1 h4 hd hc]
     simp only [Option.bind_some]
     have hst:stG p.1=rgB p.1 32 126:=by unfold stG; rw [hd,hc]; simp [h4]
     cases hr:rgB p.1 32 126
     ·rw [hst,hr]; rfl
     ·have:=hA (by rw [hst,hr])
      rw [hst,hr]
      simp only [Bool.not_true,Bool.false_eq_true,if_false,if_true]
      rw [this.2]; rfl
    ·have hcn:decide ((c.toNat:Int)≠32)=true:=by
      simp only [decide_eq_true_eq]
      intro h
      exact h32 (UInt8.toNat_inj.1 (by simp; omega))
     rw [if_pos hcn]
     have:stG p.1=false:=by unfold stG; rw [hc]; simp [h32]
     rw [this]; rfl
  ·rw [if_pos (show decide ((p.1.length:Int) < 4)=true by simp; omega)]
   have:stG p.1=false:=by unfold stG; simp [h4]
   rw [this]; rfl
def lnB (h:zg):Bs:=((h.Name++[58,32])++h.Value)++[13,10]
def lnF (q:zg→Bool) (l:List zg):Bs:=l.flatMap fun h=>if q h then [] else lnB h
theorem wstr (x s:Bs) (h:x.length+s.length≤1000000000):kk (yk x) s=some ((s.length:Int),0,yk (x++s)):=by
 unfold kk
 rw [if_pos (by rw [Zo]; exact h),xb]
def smH (h:zg):Prop:=ascB h.Name=true∧h.Name.length≤100∧h.Value.length≤2000
theorem x3h {h:zg} (h1:smH h):nmOK h:=⟨h1.1,by have:=h1.2.1; omega⟩
theorem lnP:∀ (l:List zg) (k:Nat) (x:Bs),(∀ h,h∈l→smH h)→x.length+3000 * l.length≤900000000 →
  forL (fun (k:Nat) (x:zg) (s:(List Int))=>z12 k x s) (fun (s:(List Int))=>z41 s) k l (yk x)=some (yk (x++lnF frB l))
 | [],k,x,_,_=>by
  show z41 (yk x)=_
  unfold z41
  simp [lnF]
 | h::l,k,x,hs,hx=>by
  have h1:=hs h (by simp)
  have h2:=h1.2
  simp only [List.length_cons] at hx
  show (z12 k h (yk x)).bind _=_
  have e:z12 k h (yk x)=some (.inl (yk (x++if frB h then [] else lnB h))):=by
   unfold z12 z4z
   rw [x7s h (x3h h1)]
   simp only [Option.bind_some]
   cases frB h
   ·simp only [Bool.not_false,if_true,Bool.false_eq_true,if_false]
    rw [if_pos (by simp; omega),if_pos (by simp; omega),if_pos (by simp; omega),wstr _ _ (by simp; omega)]
    rfl
   ·simp
  rw [e]
  simp only [Option.bind_some,after]
  have hln:(if frB h=true then [] else lnB h).length≤2104:=by
   split
   ·simp
   ·unfold lnB; simp; omega
  rw [lnP l (k+1) _ (fun y hy=>hs y (by simp [hy])) (by rw [List.length_append]; omega)]
  simp [lnF]
theorem x5l (l:List zg) (x:Bs) (hl:l.length≤1000) (hs:∀ h,h∈l→smH h) (hx:x.length≤1000000):z5p (yk x) l=some (yk (x++lnF frB l)):=by
 unfold z5p
 rw [if_pos (by omega)]
 exact lnP l 0 x hs (by omega)
theorem x5k (q p:zg→Bool):∀ l:List zg,lnF q (l.filter fun x => !p x)=lnF (fun h=>p h || q h) l
 | []=>rfl
 | h::l=>by
  have ih:=x5k q p l
  rw [List.filter_cons]
  unfold lnF at ih ⊢
  cases hp:p h
  ·simp [hp,ih]
  ·simp [hp,ih]
theorem z9q (q:zg→Bool):∀ l:List zg,(∀ h,h∈l→smH h)→(lnF q l).length≤3000 * l.length
 | [],_=>by simp [lnF]
 | h::l,hs=>by
  have ih:=z9q q l fun y hy=>hs y (by simp [hy])
  have h2:=(hs h (by simp)).2
  unfold lnF at ih ⊢
  rw [List.flatMap_cons,List.length_append,List.length_cons]
  have hln:(if q h=true then [] else lnB h).length≤2104:=by
   split
   ·simp
   ·unfold lnB; simp; omega
  omega
theorem y3x (n:Int) (h:0≤n∧n≤1000000):xz n=some (Lib.itoa n)∧(Lib.itoa n).length≤21:=by
 unfold xz
 rw [if_pos (by omega)]
 exact ⟨rfl,Lib.itoa_length_le n (by omega) (by omega)⟩
theorem cut2 (p q:Bs) (h:(13:UInt8) ∉ p):Lib.cut (p++(crl++q)) crl=(p,q,true):=by
 have hi:Lib.index (p++(crl++q)) crl=(p.length:Int):=by
  refine Lib.index_first (by simp) ?_ fun j hj => ?_
  ·simp [Lib.occAt]
  ·cases ho:Lib.occAt (p++(crl++q)) crl j
   ·rfl
   ·exfalso
    have h1:(p++(crl++q))[j]?=some 13:=by
     simp only [Lib.occAt,List.isPrefixOf_iff_prefix] at ho
     obtain ⟨t,ht⟩:=ho
     have:=congrArg (fun l:Bs=>l[0]?) ht
     simp at this
     exact this.symm
    rw [List.getElem?_append_left hj] at h1
    exact h (List.mem_of_getElem? h1)
 unfold Lib.cut
 rw [hi,if_pos (by omega)]
 simp
theorem y1p {s:Bs} (h:tokB s=true) (c:UInt8) (hc:tokL.contains c=false):c ∉ s:=fun hm=>by
 unfold tokB at h
 simp only [Bool.and_eq_true,List.all_eq_true] at h
 rw [h.1 c hm] at hc
 cases hc
theorem y69 {s:Bs} {lo hi:Int} (h:rgB s lo hi=true) (c:UInt8) (hc:outP (c.toNat:Int) lo hi=true):c ∉ s:=fun hm=>by
 unfold rgB at h
 have:=(List.all_eq_true.1 h) c hm
 rw [hc] at this
 cases this
theorem w9z {s:Bs} (h:fldB s=true):(13:UInt8) ∉ s:=by
 unfold fldB at h
 simp only [Bool.and_eq_true] at h
 exact y69 h.2.1 13 rfl
theorem w9y {s:Bs} (h:fldB s=true):trL 32 (trR 32 s)=s:=by
 unfold fldB at h
 simp only [Bool.and_eq_true,decide_eq_true_eq] at h
 exact h.2.2
theorem w04 (c:UInt8) (s:Bs) (h:trR c s≠[]) (b:UInt8):trR c (b::s)=b::trR c s:=by
 unfold trR at h ⊢
 rw [List.reverse_cons,List.dropWhile_append]
 split
 ·rename_i h1
  rw [List.isEmpty_iff.1 h1] at h
  simp at h
 ·simp
theorem w0z {s:Bs} (h:trL 32 (trR 32 s)=s):trL 32 (trR 32 (32::s))=s:=by
 by_cases hs:trR 32 s=[]
 ·rw [hs] at h
  have:s=[]:=h.symm
  subst this
  decide
 ·rw [w04 32 s hs]
  show List.dropWhile _ (32::trR 32 s)=s
  rw [List.dropWhile_cons_of_pos (by decide)]
  exact h
theorem w5c {h:zg} (ho:hdOK h):(13:UInt8) ∉ ((h.Name++[58,32])++h.Value):=by
 simp only [List.mem_append,not_or]
 exact ⟨⟨y1p ho.1 13 (by decide),by decide⟩,w9z ho.2⟩
theorem w5d {h:zg} (ho:hdOK h):Lib.cut ((h.Name++[58,32])++h.Value) [58]=(h.Name,32::h.Value,true):=by
 have:=z3t 58 h.Name (32::h.Value) (y1p ho.1 58 (by decide))
 rw [← this]
 simp
theorem y9k:∀ (l:List zg) (acc:List zg) (n:Nat) (rest:Bs),(∀ h,h∈l→hdOK h)→l.length < n→hdL n (l.flatMap lnB++(crl++rest)) acc=some (acc++l,rest)
 | _,_,0,_,_,h=>by omega
 | [],acc,n+1,rest,ho,hn=>by
  have hc:=cut2 [] rest (by simp)
  simp only [List.nil_append] at hc
  show hdL (n+1) (crl++rest) acc=_
  unfold hdL
  rw [hc]
  simp
 | h::l,acc,n+1,rest,ho,hn=>by
  have h1:=ho h (by simp)
  have hc:=cut2 ((h.Name++[58,32])++h.Value) (l.flatMap lnB++(crl++rest)) (w5c h1)
  have e:(h::l).flatMap lnB++(crl++rest)=((h.Name++[58,32])++h.Value)++(crl++(l.flatMap lnB++(crl++rest))):=by
   simp [lnB]
  have hne:((h.Name++[58,32])++h.Value)≠[]:=by simp
  have hk:=w5d h1
  have ht:=w0z (w9y h1.2)
  have hG:hdG ((h.Name++[58,32])++h.Value)=true:=by
   unfold hdG
   rw [hk]
   simp only [ht,h1.1,h1.2,Bool.and_self]
  have hH:hdH ((h.Name++[58,32])++h.Value)=h:=by
   unfold hdH
   rw [hk]
   simp only [ht]
  rw [e]
  unfold hdL
  rw [hc]
  simp only [hG,hH,hne,Bool.true_eq_false,if_false,if_true]
  rw [y9k l (acc++[h]) n rest (fun y hy=>ho y (List.mem_cons_of_mem _ hy)) (by simp at hn; omega)]
  simp
theorem x66 (first q rest:Bs) (l:List zg) (h13:(13:UInt8) ∉ first) (hs:(first++(crl++q)).length≤60000) (hL:∀ n,q.length < n→hdL n q []=some (l,rest)) :
  Zc (first++(crl++q))=some (jc.mk first l (((first++(crl++q)).length - rest.length:Nat):Int),true):=by
 have hcc:=cut2 first q h13
 have hlen:(first++(crl++q)).length=first.length+2+q.length:=by simp; omega
 generalize hS:first++(crl++q)=s at *
 have hst:=y37 s s [] 0 0 [] (by have:=Ws s 0 (by omega); simpa using this) (by omega) (by simp)
 rw [hcc] at hst
 have hwa:wr ((0:Int)+wr ((first.length:Int)+2))=((first.length+2:Nat):Int):=by
  rw [qc (n:=(first.length:Int)+2) (by omega),qc (by omega)]; omega
 rw [hwa,if_neg (by simp),if_pos rfl] at hst
 have hdr:s.drop (first.length+2)=q:=by
  rw [← hS,← List.append_assoc]
  have:first.length+2=(first++crl).length:=by simp
  rw [this,List.drop_left]
 obtain ⟨l2,a2,g1⟩:=y9j s first (by omega) (s.length+1) q [] (first.length+2) 1 (by omega) hdr (by omega) (by omega) (by omega) (by simp; omega)
 rw [hL _ (by omega)] at g1
 unfold Zc
 rw [← show _=_ from g1]
 exact Zi (body:=fun (p:Int×(List zg)×Bs×Int)=>ud s p.1 p.2.1 p.2.2.1 p.2.2.2) (s:=(0,[],[],0)) hst
theorem y8t (q:zg→Bool):∀ l:List zg,lnF q l=(l.filter fun h => !q h).flatMap lnB
 | []=>rfl
 | h::l=>by
  have ih:=y8t q l
  unfold lnF at ih ⊢
  rw [List.flatMap_cons,ih]
  cases hq:q h <;> simp [hq]
end Go.Proofs.YtahcnngcpjkpgabGreatDoor
