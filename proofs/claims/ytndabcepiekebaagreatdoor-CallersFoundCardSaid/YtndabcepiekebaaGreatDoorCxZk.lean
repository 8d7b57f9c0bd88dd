/- Plain: claims that are read, both sides. -/
import Derived.Test.YtndabcepiekebaaGreatDoorYdbZk
namespace Go.Proofs.YtndabcepiekebaaGreatDoor
set_option linter.unusedVariables false
set_option maxRecDepth 20000
section
variable {σ ρ:Type}
theorem js {body:σ→Option (σ ⊕ ρ)} {s s':σ} (h:body s=some (.inl s')):iter body s=iter body s':=by
 rw [y0s,h]; rfl
theorem xe {body:σ→Option (σ ⊕ ρ)} {s:σ} {r:ρ} (h:body s=some (.inr r)):iter body s=some r:=by
 rw [y0s,h]; rfl
end
theorem x8q (l:Bs):strN (vd l)=l:=by
 unfold strN vd
 rw [List.map_map]
 conv=>rhs; rw [← List.map_id l]
 refine List.map_congr_left fun c _ => ?_
 simp
theorem w16 (l:Bs):(vd l).length=l.length:=by simp [vd]
theorem y0r (B:Nat) (sep:Bs):∀ l:List Bs,(∀ x,x∈l→x.length≤B)→(Lib.join l sep).length≤l.length * (B+sep.length)
 | [],_=>by simp [Lib.join_nil]
 | x::r,h=>by
  rw [Lib.join_cons,List.length_append]
  have h1:=h x (by simp)
  have h2:(Lib.joinTail sep r).length≤r.length * (B+sep.length):=by
   have:∀ r:List Bs,(∀ x,x∈r→x.length≤B)→(Lib.joinTail sep r).length≤r.length * (B+sep.length):=by
    intro r
    induction r with
    | nil=>intro _; simp [Lib.joinTail]
    | cons y r ih =>
     intro hr
     have h3:=hr y (by simp)
     have h4:=ih fun z hz=>hr z (by simp [hz])
     unfold Lib.joinTail at h4 ⊢
     simp only [List.map_cons,List.flatten_cons,List.length_append,List.length_cons,Nat.succ_mul]
     omega
   exact this r fun y hy=>h y (by simp [hy])
  simp only [List.length_cons,Nat.succ_mul]
  omega
theorem x5b (c:UInt8):∀ s:Bs,c ∉ s→Lib.index s [c]=-1
 | [],_=>rfl
 | x::s,h=>by
  rw [y41,if_neg (fun e=>h (by simp [e])),x5b c s (fun e=>h (by simp [e]))]
  try rfl
theorem x5c (c:UInt8) (q:Bs):∀ p:Bs,c ∉ p→Lib.index (p++c::q) [c]=(p.length:Int)
 | [],_=>by rw [List.nil_append,y41,if_pos rfl]; rfl
 | x::p,h=>by
  rw [List.cons_append,y41,if_neg (fun e=>h (by simp [e])),x5c c q p (fun e=>h (by simp [e])),if_neg (by simp)]
  simp
theorem x55 (c:UInt8) (s:Bs) (h:c ∉ s):Lib.cut s [c]=(s,[],false):=by
 unfold Lib.cut
 rw [x5b c s h]; rfl
theorem y57 (c:UInt8) (p q:Bs) (h:c ∉ p):Lib.cut (p++c::q) [c]=(p,q,true):=by
 unfold Lib.cut
 rw [x5c c q p h,if_pos (by omega)]
 simp
def trR (c:UInt8) (s:Bs):Bs:=(s.reverse.dropWhile (· == c)).reverse
def trL (c:UInt8) (s:Bs):Bs:=s.dropWhile (· == c)
theorem x74 (c b:UInt8) (l:Bs):trR c (l++[b])=if b=c then trR c l else l++[b]:=by
 unfold trR
 rw [List.reverse_append,List.reverse_singleton,List.singleton_append,List.dropWhile_cons]
 by_cases h:b=c
 ·simp [h]
 ·simp [h]
theorem x75 (c:UInt8) (s:Bs):(trR c s).length≤s.length:=by
 unfold trR
 rw [List.length_reverse]
 have:=(List.dropWhile_sublist (l:=s.reverse) (· == c)).length_le
 simpa using this
theorem x73 (c:UInt8) (s:Bs):s.length≤1000000000→Wt s (c.toNat:Int)=some (trR c s):=by
 refine z8c (P:=fun s=>s.length≤1000000000→Wt s (c.toNat:Int)=some (trR c s)) (fun _ => ?_) (fun l b ih h => ?_) s
 ·unfold Wt
  exact xe rfl
 ·have hl:(l++[b]).length=l.length+1:=by simp
  have e1:wr (((l++[b]).length:Int) - 1)=(l.length:Int):=by rw [hl,vh (by omega)]; omega
  have e2:at? (l++[b]) (l.length:Int)=some b:=by
   unfold at?
   rw [if_pos (by omega),Int.toNat_natCast]; simp
  have e3:sub? (l++[b]) 0 (l.length:Int)=some l:=by
   rw [z4d _ _ (by omega)]; simp
  rw [x74]
  by_cases hb:b=c
  ·rw [if_pos hb]
   have:=ih (by omega)
   unfold Wt at this ⊢
   refine (js (s':=l) ?_).trans this
   unfold z73 z1e
   rw [if_pos (by simp),e1,e2]
   simp only [Option.bind_some]
   rw [if_pos (by simp [hb]),e3]; rfl
  ·rw [if_neg hb]
   unfold Wt
   refine xe ?_
   unfold z73 z1e z74
   rw [if_pos (by simp),e1,e2]
   simp only [Option.bind_some]
   have hn:¬ (b.toNat:Int)=(c.toNat:Int):=fun h=>hb (UInt8.toNat_inj.1 (by omega))
   rw [if_neg (by simpa using hn)]; rfl
theorem x0y (c:UInt8):∀ s:Bs,s.length≤1000000000→z1x s (c.toNat:Int)=some (trL c s)
 | [],_=>by
  unfold z1x
  exact xe rfl
 | b::l,h=>by
  simp only [List.length_cons] at h
  have e3:sub? (b::l) 1 ((b::l).length:Int)=some l:=by
   unfold sub?
   rw [if_pos (by simp; omega)]
   simp
  unfold trL
  rw [List.dropWhile_cons]
  by_cases hb:b=c
  ·rw [if_pos (by simp [hb])]
   have:=x0y c l (by omega)
   unfold z1x at this ⊢
   refine (js (s':=l) ?_).trans this
   unfold z77 z1f
   rw [if_pos (by simp),List.getElem?_cons_zero]
   simp only [Option.bind_some]
   rw [if_pos (by simp [hb]),e3]; rfl
  ·rw [if_neg (by simp [hb])]
   unfold z1x
   refine xe ?_
   unfold z77 z1f z78
   rw [if_pos (by simp),List.getElem?_cons_zero]
   simp only [Option.bind_some]
   have hn:¬ (b.toNat:Int)=(c.toNat:Int):=fun h=>hb (UInt8.toNat_inj.1 (by omega))
   rw [if_neg (by simpa using hn)]; rfl
theorem x0x (c:UInt8) (hc:c.toNat < 128) (s:Bs) (h:s.length≤1000000000):z1y s [c]=some (trL c (trR c s)):=by
 unfold z1y z4e
 by_cases h0:s=[]
 ·subst h0; rfl
 ·have:=x75 c s
  rw [if_neg (by simp [h0]),if_pos (by simp),List.getElem?_cons_zero]
  simp only [Option.bind_some]
  rw [if_pos (by simp; omega),x73 c s h]
  simp only [Option.bind_some]
  rw [x0y c _ (by omega)]; rfl
abbrev ddL:Bs:=[48,49,50,51,52,53,54,55,56,57]
def isD (c:UInt8):Bool:=ddL.contains c
def dv (c:UInt8):Nat:=c.toNat - 48
def dgD (n:Nat):UInt8:=UInt8.ofNat (48+n)
theorem z3m (u:Nat):Lib.decDigits u=if u < 10 then [dgD u] else Lib.decDigits (u / 10)++[dgD (u % 10)]:=by
 rw [Lib.decDigits]; rfl
theorem y56 (c:UInt8) (h:isD c=true):dgD (dv c)=c∧dv c < 10∧(dv c=0→c=48)∧48≤c.toNat∧c.toNat≤57:=by
 have:=xl (fun c => !isD c || decide (dgD (dv c)=c∧dv c < 10∧(dv c=0→c=48)∧48≤c.toNat∧c.toNat≤57)) (by decide +kernel) c
 rw [h] at this
 exact of_decide_eq_true (by simpa only [Bool.not_true,Bool.false_or] using this)
theorem w7s (n:Nat) (h:n < 10):isD (dgD n)=true∧dv (dgD n)=n∧(dgD n=48→n=0):=by
 have:∀ n,n < 10→isD (dgD n)=true∧dv (dgD n)=n∧(dgD n=48→n=0):=by decide +kernel
 exact this n h
def nvB (l:Bs):Nat:=l.foldl (fun a c=>a * 10+dv c) 0
theorem x2t (l:Bs) (c:UInt8):nvB (l++[c])=nvB l * 10+dv c:=by simp [nvB,List.foldl_append]
theorem x53:∀ u:Nat,Lib.decDigits u=[48]∨∃ c t,Lib.decDigits u=c::t∧c≠48:=by
 intro u
 induction u using Nat.strongRecOn with
 | _ u ih =>
  rw [z3m]
  split
  ·rename_i h
   by_cases h0:dgD u=48
   ·exact .inl (by rw [h0])
   ·exact .inr ⟨_,_,rfl,h0⟩
  ·rename_i h
   rcases ih (u / 10) (by omega) with h1 | ⟨c,t,h1,h2⟩
   ·exfalso
    have h3:u / 10 < 10∧dgD (u / 10)=48:=by
     rw [z3m] at h1
     split at h1
     ·rename_i h4; exact ⟨h4,by simpa using h1⟩
     ·have:=congrArg List.length h1
      simp only [List.length_append,List.length_singleton] at this
      have h5:Lib.decDigits (u / 10 / 10)=[]:=List.length_eq_zero_iff.1 (by omega)
      rw [z3m] at h5
      split at h5 <;> simp at h5
    have:=(w7s _ h3.1).2.2 h3.2
    omega
   ·exact .inr ⟨c,t++[dgD (u % 10)],by rw [h1]; rfl,h2⟩
theorem w7t:∀ (k u:Nat),u < 10 ^ (k+1)→(Lib.decDigits u).length≤k+1:=by
 intro k
 induction k with
 | zero =>
  intro u h
  rw [z3m,if_pos (by simpa using h)]; simp
 | succ k ih =>
  intro u h
  rw [z3m]
  split
  ·simp
  ·have:u / 10 < 10 ^ (k+1):=by
    rw [Nat.div_lt_iff_lt_mul (by decide)]
    rw [Nat.pow_succ] at h; exact h
   have:=ih _ this
   simp; omega
def canD (s:Bs):Bool:=s.all isD && (decide (s=[48]) || decide (s.head?≠some 48∧s≠[]))
theorem y9k (s:Bs):canD s=true→Lib.decDigits (nvB s)=s∧(1≤nvB s∨s=[48]):=by
 refine z8c (P:=fun s=>canD s=true→Lib.decDigits (nvB s)=s∧(1≤nvB s∨s=[48])) (by decide) (fun p d ih h => ?_) s
 unfold canD at h
 simp only [Bool.and_eq_true,Bool.or_eq_true,decide_eq_true_eq,List.all_append,List.all_cons,List.all_nil,Bool.and_true] at h
 obtain ⟨⟨hp,hd⟩,hh⟩:=h
 obtain ⟨d1,d2,d3,_⟩:=y56 d hd
 cases p with
 | nil =>
  have e:nvB ([]++[d])=dv d:=by simp [nvB]
  rw [e,z3m,if_pos d2,d1]
  refine ⟨rfl,?_⟩
  by_cases h0:dv d=0
  ·exact .inr (by rw [d3 h0]; rfl)
  ·exact .inl (by omega)
 | cons c t =>
  have hc:c≠48:=by
   rcases hh with h1 | ⟨h1,_⟩
   ·have:=congrArg List.length h1; simp at this
   ·intro h2; rw [h2] at h1; exact h1 rfl
  have hcan:canD (c::t)=true:=by
   unfold canD
   rw [hp]
   simp [hc]
  obtain ⟨i1,i2⟩:=ih hcan
  have i3:1≤nvB (c::t):=by
   rcases i2 with h | h
   ·exact h
   ·exact absurd (List.cons.inj h).1 hc
  rw [x2t]
  have e1:(nvB (c::t) * 10+dv d) / 10=nvB (c::t):=by omega
  have e2:(nvB (c::t) * 10+dv d) % 10=dv d:=by omega
  rw [z3m,if_neg (by omega),e1,e2,i1,d1]
  exact ⟨rfl,.inl (by omega)⟩
theorem y3n:∀ (k:Nat) (s:Bs),s.all isD=true→s.length≤k→nvB s < 10 ^ k:=by
 intro k
 induction k with
 | zero=>intro s _ h; obtain rfl:s=[]:=List.length_eq_zero_iff.1 (by omega); decide
 | succ k ih =>
  intro s
  refine z8c (P:=fun s=>s.all isD=true→s.length≤k+1→nvB s < 10 ^ (k+1)) (fun _ _=>Nat.pow_pos (by decide)) (fun p d _ h1 h2 => ?_) s
  simp only [List.all_append,List.all_cons,List.all_nil,Bool.and_true,Bool.and_eq_true] at h1
  have h3:=ih p h1.1 (by simp at h2; omega)
  have h4:=(y56 d h1.2).2.1
  rw [x2t,Nat.pow_succ]
  omega
theorem atL (E:Int→Option (Int×Int)):∀ (s:Bs) (k j v:Nat),s.all isD=true→j+s.length≤18→v < 10 ^ j →
  forL (fun (k:Nat) (x:Int) (q:Int)=>z6e k x q) E k (vd s) (v:Int)=E ((s.foldl (fun a c=>a * 10+dv c) v:Nat):Int)
 | [],k,j,v,_,_,_=>rfl
 | c::s,k,j,v,h,hj,hv=>by
  simp only [List.all_cons,Bool.and_eq_true] at h
  simp only [List.length_cons] at hj
  obtain ⟨_,hd,_,hc1,hc2⟩:=y56 c h.1
  have h9:10 ^ j≤10 ^ 17:=Nat.pow_le_pow_right (by decide) (by omega)
  have e17:(10:Nat) ^ 17=100000000000000000:=by decide
  have ew:IntKind.wrap .u8 ((c.toNat:Int) - 48)=(dv c:Int):=by
   have:=xl (fun c => !isD c || decide (IntKind.wrap .u8 ((c.toNat:Int) - 48)=(dv c:Int))) (by decide +kernel) c
   rw [h.1] at this
   exact of_decide_eq_true (by simpa only [Bool.not_true,Bool.false_or] using this)
  have ei:IntKind.wrap .i64 (dv c:Int)=(dv c:Int):=vh (by omega)
  have e1:wr ((v:Int) * 10)=(v:Int) * 10:=vh (by omega)
  have e2:wr ((v:Int) * 10+(dv c:Int))=((v * 10+dv c:Nat):Int):=by rw [vh (by omega)]; omega
  show (z6e k (c.toNat:Int) (v:Int)).bind _=_
  unfold z6e
  rw [ew,if_neg (by simp; omega),ei,e1,e2]
  simp only [Option.bind_some,after]
  exact (atL E s (k+1) (j+1) (v * 10+dv c) h.2 (by omega) (by rw [Nat.pow_succ]; omega)).trans rfl
theorem atJ (s t:Bs) (ht:t.all isD=true) (hl:t.length≤17):z2j s t=z2k s (nvB t:Int):=by
 unfold z2j
 rw [if_pos (by rw [w16]; omega)]
 exact atL (fun q=>z2k s q) t 0 0 0 ht (by omega) (by decide)
theorem d43 (c:UInt8) (h:isD c=true):(c.toNat:Int)≠45∧(c.toNat:Int)≠43:=by
 have:=(y56 c h).2.2.2
 omega
theorem w8w (t:Bs) (ht:t.all isD=true) (hne:t≠[]) (hl:t.length≤17):Qd t=some ((nvB t:Int),0):=by
 have hi:z17 t=some ((nvB t:Int),0):=by
  cases t with
  | nil=>exact absurd rfl hne
  | cons c r =>
   have hc:isD c=true:=by simp only [List.all_cons,Bool.and_eq_true] at ht; exact ht.1
   have h4:=d43 c hc
   unfold z17
   rw [if_pos (by simp at hl ⊢; omega)]
   simp only [List.getElem?_cons_zero,Option.bind_some]
   rw [if_neg (by simpa using h4.1)]
   unfold z2i
   rw [if_neg (by simpa using h4.2),atJ _ _ ht hl]
   unfold z2k z2h
   simp only [List.getElem?_cons_zero,Option.bind_some]
   rw [if_neg (by simpa using h4.1)]
 unfold Qd
 rw [hi]; rfl
theorem w8x (t:Bs) (ht:t.all isD=true) (hne:t≠[]) (hl:t.length≤17):Qd (45::t)=some (-(nvB t:Int),0):=by
 have hln:1≤t.length:=by cases t with | nil=>exact absurd rfl hne | cons _ _=>simp
 have hv:=y3n 17 t ht hl
 have e17:(10:Nat) ^ 17=100000000000000000:=by decide
 have hi:z17 (45::t)=some (-(nvB t:Int),0):=by
  have hsub:sub? ((45:UInt8)::t) 1 (((45:UInt8)::t).length:Int)=some t:=by
   unfold sub?
   rw [if_pos (by simp only [List.length_cons]; omega),List.take_of_length_le (by simp)]; rfl
  unfold z17
  rw [if_pos (by simp at hl ⊢; omega)]
  simp only [List.getElem?_cons_zero,Option.bind_some]
  rw [if_pos (by decide)]
  unfold z2i
  rw [if_pos rfl,hsub]
  simp only [Option.bind_some]
  rw [if_neg (by simp; omega),atJ _ _ ht hl]
  unfold z2k z2h
  simp only [List.getElem?_cons_zero,Option.bind_some]
  rw [if_pos (by decide),if_pos (by omega)]
 unfold Qd
 rw [hi]; rfl
def tlB (s:Bs):Bs:=Lib.trimPrefix s [45]
def valB (s:Bs):Int:=if s.head?=some 45 then -(nvB (tlB s):Int) else (nvB s:Int)
def okN (m:Nat) (s:Bs):Bool:=(tlB s).all isD && (decide (tlB s≠[]∧(tlB s).length≤m) && decide ((tlB s).head?≠some 48∨s=[48]))
theorem y2q (c:UInt8) (r:Bs):tlB (c::r)=if c=45 then r else c::r:=by
 unfold tlB Lib.trimPrefix Lib.hasPrefix
 by_cases h:c=45
 ·subst h; simp [List.isPrefixOf]
 ·have:((45:UInt8) == c)=false:=by simpa using fun e:(45:UInt8)=c=>h e.symm
  simp [List.isPrefixOf,this,h]
theorem y6h (r:Bs):valB (45::r)=-(nvB r:Int):=by simp [valB,y2q]
theorem y6g (c:UInt8) (r:Bs) (h:c≠45):valB (c::r)=(nvB (c::r):Int):=by simp [valB,h]
theorem x61 (s:Bs) (ht:(tlB s).all isD=true) (hne:tlB s≠[]) (hl:(tlB s).length≤17):Qd s=some (valB s,0):=by
 cases s with
 | nil=>exact absurd rfl hne
 | cons c r =>
  rw [y2q] at ht hne hl
  by_cases h:c=45
  ·subst h
   rw [if_pos rfl] at ht hne hl
   rw [y6h]
   exact w8x r ht hne hl
  ·rw [if_neg h] at ht hne hl
   rw [y6g c r h]
   exact w8w (c::r) ht hne hl
theorem w5z (s:Bs) (m:Nat) (ht:(tlB s).all isD=true) (hne:tlB s≠[]) (hl:(tlB s).length≤m) (hm:m≤17):∃ r,Ww (valB s)=some r∧decide (r=s)=okN m s:=by
 have hv:=y3n 17 (tlB s) ht (by omega)
 have e17:(10:Nat) ^ 17=100000000000000000:=by decide
 have hok:okN m s=decide ((tlB s).head?≠some 48∨s=[48]):=by
  unfold okN
  rw [ht,show decide (tlB s≠[]∧(tlB s).length≤m)=true from by simpa using ⟨hne,hl⟩]
  simp
 cases s with
 | nil=>exact absurd rfl hne
 | cons c r =>
  rw [y2q] at ht hne hl hv hok
  unfold Ww
  by_cases h:c=45
  ·subst h
   rw [if_pos rfl] at ht hne hl hv hok
   rw [y6h,if_pos (by omega)]
   refine ⟨_,rfl,?_⟩
   rw [hok]
   have hok':decide (r.head?≠some 48∨(45:UInt8)::r=[48])=decide (r.head?≠some 48):=by simp
   rw [hok']
   have hcan:(r.head?≠some 48)→canD r=true:=fun hh=>by
    unfold canD
    rw [ht]
    simp [hh,hne]
   unfold Lib.itoa
   by_cases h0:nvB r=0
   ·rw [if_neg (by omega),h0]
    have h1:r.head?=some 48:=Classical.byContradiction fun hh=>by
     rcases (y9k r (hcan hh)).2 with h2 | h2
     ·omega
     ·rw [h2] at hh; exact hh rfl
    rw [h1]
    have:Lib.decDigits (-((0:Nat):Int)).toNat=[48]:=by decide +kernel
    rw [this]
    simp
   ·rw [if_pos (by omega)]
    have e1:(-(nvB r:Int)).natAbs=nvB r:=by omega
    rw [e1]
    by_cases hh:r.head?=some 48
    ·rw [hh]
     have:¬ (45::Lib.decDigits (nvB r)=45::r):=fun e=>by
      have e2:=(List.cons.inj e).2
      rcases x53 (nvB r) with h3 | ⟨d,t,h3,h4⟩
      ·rw [e2] at h3
       rw [h3] at h0
       exact h0 (by decide)
      ·rw [e2] at h3
       rw [h3] at hh
       exact h4 (by simpa using hh)
     simpa using this
    ·rw [(y9k r (hcan hh)).1]
     simp [hh]
  ·rw [if_neg h] at ht hne hl hv hok
   have hcan:((c::r).head?≠some 48∨c::r=[48])→canD (c::r)=true:=fun hh=>by
    unfold canD
    rw [ht]
    rcases hh with hh | hh
    ·simp only [Bool.true_and,Bool.or_eq_true,decide_eq_true_eq]
     exact .inr ⟨hh,hne⟩
    ·simp only [Bool.true_and,Bool.or_eq_true,decide_eq_true_eq]
     exact .inl hh
   rw [y6g c r h,if_pos (by omega)]
   refine ⟨_,rfl,?_⟩
   rw [hok]
   unfold Lib.itoa
   rw [if_neg (by omega),Int.toNat_natCast]
   refine decide_eq_decide.2 ⟨fun e => ?_,fun hh=>(y9k _ (hcan hh)).1⟩
   rcases x53 (nvB (c::r)) with h3 | ⟨d,t,h3,h4⟩
   ·exact .inr (e.symm.trans h3)
   ·refine .inl ?_
    rw [e.symm.trans h3]
    simpa using h4
theorem x5m {α ρ:Type} {body:Nat→α→Unit→Option (Unit ⊕ ρ)} {fin:Unit→Option ρ} {p:α→Bool} {r0:ρ} (h:∀ j x,body j x ()=if p x then some (.inl ()) else some (.inr r0)):∀ (l:List α) (k:Nat),l.all p=false→forL body fin k l ()=some r0
 | [],k,hl=>by cases hl
 | x::l,k,hl=>by
  show (body k x ()).bind _=_
  rw [h k x]
  cases hp:p x
  ·simp [after]
  ·rw [List.all_cons,hp,Bool.true_and] at hl
   simp only [if_true,Option.bind_some,after]
   exact x5m h l (k+1) hl
theorem x00 (s:Bs):(tlB s).length≤s.length:=by
 unfold tlB Lib.trimPrefix
 split
 ·simp
 ·exact Nat.le_refl _
theorem x3s (s:Bs) (m:Nat) (hm:m≤17) (hs:s.length≤1000000):Qe s (m:Int)=some (if okN m s then valB s else 0,okN m s):=by
 have hJ:uq s (tlB s) true=some (0,false):=rfl
 have htl:=x00 s
 have hb:∀ (j:Nat) (x:UInt8),y0l j x=if isD x then some (.inl ()) else some (.inr (0,false)):=fun j x=>by
  have:=xl (fun x=>decide (y0l 0 x=if isD x then some (.inl ()) else some (.inr (0,false)))) (by decide +kernel) x
  exact of_decide_eq_true this
 unfold Qe z4z
 simp only [Option.bind_some]
 show (if decide (tlB s=[]) then uq s (tlB s) true else if decide ((m:Int) < ((tlB s).length:Int)) then uq s (tlB s) true else ((tlB s)[0]?).bind fun x9=>if decide ((x9.toNat:Int)=48) then uq s (tlB s) (decide (s≠[48])) else uq s (tlB s) false)=_
 by_cases h0:tlB s=[]
 ·rw [if_pos (by simpa using h0),hJ]
  have:okN m s=false:=by unfold okN; rw [h0]; simp
  rw [this]; rfl
 rw [if_neg (by simpa using h0)]
 by_cases hl:m < (tlB s).length
 ·rw [if_pos (by simp; omega),hJ]
  have:okN m s=false:=by
   unfold okN
   rw [show decide (tlB s≠[]∧(tlB s).length≤m)=false from by simp; intro; omega]
   simp
  rw [this]; rfl
 rw [if_neg (by simp; omega)]
 have hlm:decide (tlB s≠[]∧(tlB s).length≤m)=true:=by simp only [decide_eq_true_eq]; exact ⟨h0,by omega⟩
 have hall:uq s (tlB s) false=some (if (tlB s).all isD then valB s else 0,(tlB s).all isD):=by
  unfold uq
  rw [if_neg (by simp),if_pos (by omega)]
  cases hd:(tlB s).all isD
  ·exact x5m (p:=isD) hb (tlB s) 0 hd
  ·have hf:z5x s=some (valB s,true):=by
    unfold z5x
    rw [x61 s hd h0 (by omega)]; rfl
   rw [uv (fin:=fun (s_1:Unit)=>z5x s) (e:=(valB s,true)) (p:=fun _ c=>isD c) (r0:=(0,false)) hf (tlB s) 0 (fun j x _ _=>hb j x),z0u,hd]
   rfl
 cases hc:tlB s with
 | nil=>exact absurd hc h0
 | cons c r =>
  rw [hc] at hall hlm h0
  simp only [List.getElem?_cons_zero,Option.bind_some]
  have hok:okN m s=((c::r).all isD && decide ((c::r).head?≠some 48∨s=[48])):=by
   unfold okN
   rw [hc,hlm]; simp
  by_cases h48:c=48
  ·rw [if_pos (by rw [h48]; decide)]
   by_cases hs48:s=[48]
   ·rw [show decide (s≠[48])=false from by simpa using hs48,hall,hok]
    simp [hs48]
   ·rw [show decide (s≠[48])=true from by simpa using hs48]
    have:okN m s=false:=by rw [hok]; simp [h48,hs48]
    rw [this]; rfl
  ·have hcn:¬ ((c.toNat:Int)=48):=fun h=>h48 (UInt8.toNat_inj.1 (by simp; omega))
   rw [if_neg (by simpa using hcn),hall,hok]
   simp [h48]
theorem x7o (s:Bs) (m:Nat) (hm:m≤17) (ht:(tlB s).all isD=true) (hl:(tlB s).length≤m):-100000000000000000 < valB s∧valB s < 100000000000000000:=by
 have e17:(10:Nat) ^ 17=100000000000000000:=by decide
 cases s with
 | nil=>simp [valB,nvB]
 | cons c r =>
  rw [y2q] at ht hl
  by_cases h:c=45
  ·subst h
   rw [if_pos rfl] at ht hl
   rw [y6h]
   have:=y3n 17 r ht (by omega)
   omega
  ·rw [if_neg h] at ht hl
   rw [y6g c r h]
   have:=y3n 17 (c::r) ht (by omega)
   omega
theorem x2g (s:Bs) (m:Nat) (hm:m≤17) (hs:s.length≤1000000):∃ w,Ye s (m:Int)=some (w,okN m s)∧(okN m s=true→w=valB s)∧(-100000000000000000 < w∧w < 100000000000000000):=by
 have hJ:Zl s true=some (0,false):=rfl
 have htl:=x00 s
 unfold Ye z4z
 simp only [Option.bind_some]
 show ∃ w,(if decide (tlB s=[]) then Zl s true else if decide ((m:Int) < ((tlB s).length:Int)) then Zl s true else (xc (tlB s) [48,49,50,51,52,53,54,55,56,57]).bind fun r9=>Zl s (!r9))=some (w,okN m s)∧_
 by_cases h0:tlB s=[]
 ·have:okN m s=false:=by unfold okN; rw [h0]; simp
  rw [if_pos (by simpa using h0),hJ,this]
  exact ⟨0,rfl,(fun h=>by cases h),by decide,by decide⟩
 rw [if_neg (by simpa using h0)]
 by_cases hl:m < (tlB s).length
 ·have:okN m s=false:=by
   unfold okN
   rw [show decide (tlB s≠[]∧(tlB s).length≤m)=false from by simp; intro; omega]
   simp
  rw [if_pos (by simp; omega),hJ,this]
  exact ⟨0,rfl,(fun h=>by cases h),by decide,by decide⟩
 rw [if_neg (by simp; omega),z8i _ _ (by omega)]
 simp only [Option.bind_some]
 cases hd:(tlB s).all fun c=>([48,49,50,51,52,53,54,55,56,57]:Bs).contains c
 ·have:okN m s=false:=by
   unfold okN
   rw [show (tlB s).all isD=false from hd]; simp
  rw [this,Bool.not_false,hJ]
  exact ⟨0,rfl,(fun h=>by cases h),by decide,by decide⟩
 ·have hd':(tlB s).all isD=true:=hd
  obtain ⟨r,h1,h2⟩:=w5z s m hd' h0 (by omega) hm
  rw [Bool.not_true]
  unfold Zl z6n
  rw [if_neg (by simp),x61 s hd' h0 (by omega)]
  simp only [Option.bind_some]
  rw [if_pos (by simp),h1]
  simp only [Option.bind_some]
  rw [h2]
  exact ⟨valB s,rfl,fun _=>rfl,x7o s m hm hd' (by omega)⟩
set_option linter.unusedSimpArgs false
set_option maxRecDepth 20000
theorem splN (c:UInt8):∀ s:Bs,c ∉ s→spl c s=[s]
 | [],_=>rfl
 | x::s,h=>by
  have h1:x≠c:=fun e=>h (by simp [e])
  have h2:=splN c s (fun e=>h (by simp [e]))
  unfold spl
  rw [if_neg h1,h2]
theorem splA (c:UInt8) (q:Bs):∀ p:Bs,c ∉ p→spl c (p++c::q)=p::spl c q
 | [],_=>by
  rw [List.nil_append]
  conv=>lhs; unfold spl
  rw [if_pos rfl]
 | x::p,h=>by
  have h1:x≠c:=fun e=>h (by simp [e])
  have h2:=splA c q p (fun e=>h (by simp [e]))
  rw [List.cons_append]
  conv=>lhs; unfold spl
  rw [if_neg h1,h2]
theorem z67 {c:UInt8}:∀ {s:Bs},c∈s→∃ p q,s=p++c::q∧c ∉ p
 | x::s,h=>by
  by_cases h1:c=x
  ·subst h1; exact ⟨[],s,rfl,by simp⟩
  ·obtain ⟨p,q,h2,h3⟩:=z67 (s:=s) (by simpa [h1] using h)
   exact ⟨x::p,q,by rw [h2]; rfl,by simp [h1,h3]⟩
theorem x5g (l:List Bs) (h:l.length≤1000000000):Wz l []=some (l.any fun x=>decide ([]=x)):=
 z3k (p:=fun x=>some (decide ([]=x))) l _ h fun x _=>rfl
theorem y22 (s:Bs) (c:UInt8) (h:s.length≤1000000):ka s [c]=some (spl c s):=by
 unfold ka
 rw [if_pos ⟨by omega,by simp⟩,z8b]
theorem splB (c:UInt8):∀ (s:Bs) (p:Bs),p∈spl c s→c ∉ p
 | [],p,h=>by
  simp only [spl,List.mem_singleton] at h
  subst h; simp
 | x::s,p,h=>by
  unfold spl at h
  split at h
  ·rcases List.mem_cons.1 h with rfl | h
   ·simp
   ·exact splB c s p h
  ·rename_i hx
   cases hs:spl c s with
   | nil=>exact absurd hs (z4h c s)
   | cons q qs =>
    rw [hs] at h
    simp only at h
    rcases List.mem_cons.1 h with rfl | h
    ·have:=splB c s q (by rw [hs]; simp)
     intro hm
     rcases List.mem_cons.1 hm with hm | hm
     ·exact hx hm.symm
     ·exact this hm
    ·exact splB c s p (by rw [hs]; simp [h])
def txT (e:Bool):List Bs→Bs
 | []=>[]
 | [x]=>if e=true then x++[10] else x
 | x::y::l=>x++10::txT e (y::l)
theorem y6k (e:Bool) (x y:Bs) (l:List Bs):txT e (x::y::l)=x++10::txT e (y::l):=rfl
def lnS (t:Bs):List Bs×Bool:=if (spl 10 t).getLast?=some [] then ((spl 10 t).dropLast,true) else (spl 10 t,false)
theorem x0w:∀ (ps:List Bs),ps≠[]→∀ t:Bs,spl 10 t=ps→t=if ps.getLast?=some [] then txT true ps.dropLast else txT false ps
 | [],h,_,_=>absurd rfl h
 | [p],_,t,ht=>by
  have ht2:10 ∉ t:=by
   intro hm
   obtain ⟨a,b,rfl,h2⟩:=z67 hm
   rw [splA 10 b a h2] at ht
   injection ht with h3 h4
   exact z4h 10 b h4
  rw [splN 10 t ht2] at ht
  injection ht with h3
  subst h3
  by_cases hp:t=[]
  ·subst hp; rfl
  ·simp [hp,txT]
 | p::q::ps,_,t,ht=>by
  have hm:10∈t:=by
   by_cases hm:10∈t
   ·exact hm
   ·rw [splN 10 t hm] at ht; cases ht
  obtain ⟨a,b,rfl,h2⟩:=z67 hm
  rw [splA 10 b a h2] at ht
  injection ht with h3 h4
  subst h3
  have ih:=x0w (q::ps) (by simp) b h4
  conv=>lhs; rw [ih]
  have e:(a::q::ps).getLast?=(q::ps).getLast?:=by simp [List.getLast?_cons_cons]
  rw [e]
  by_cases hl:(q::ps).getLast?=some []
  ·rw [if_pos hl,if_pos hl]
   cases ps with
   | nil =>
    have:q=[]:=by simpa using hl
    subst this
    simp [txT]
   | cons r rs=>simp only [List.dropLast_cons_cons,txT]
  ·rw [if_neg hl,if_neg hl]; rfl
theorem w2l (t:Bs) (hl:t.length≤1000000):z9i t=some (lnS t):=by
 unfold z9i lnS
 rw [y22 t 10 hl]
 simp only [Option.bind_some]
 have hw:=Ze 10 t
 have hn:=z4h 10 t
 generalize spl 10 t=w at hw hn
 obtain ⟨l,p,hlp⟩:∃ l p,w=l++[p]:=⟨w.dropLast,w.getLast hn,(List.dropLast_concat_getLast hn).symm⟩
 subst hlp
 simp only [List.length_append,List.length_cons,List.length_nil] at hw
 have e1:wr (((l++[p]).length:Int) - 1)=(l.length:Int):=by
  simp only [List.length_append,List.length_cons,List.length_nil]
  rw [vh (by omega)]
  omega
 have e2:at? (l++[p]) (l.length:Int)=some p:=by
  unfold at?
  rw [if_pos (by omega)]
  simp
 rw [e1,e2]
 simp only [Option.bind_some]
 by_cases hpe:p=[]
 ·subst hpe
  rw [if_pos (by simp),z4d _ _ (by simp),if_pos (by simp)]
  simp
 ·rw [if_neg (by simpa using hpe),if_neg (by simpa using hpe)]
theorem x7h (s:Bs) (hl:s.length≤1000000):z9f s=some (spl 32 s,!(spl 32 s).any fun x=>decide ([]=x)):=by
 unfold z9f
 rw [y22 s 32 hl]
 simp only [Option.bind_some]
 rw [x5g _ (by have:=Ze 32 s; omega)]
 rfl
set_option linter.unusedSectionVars false
set_option maxRecDepth 20000
theorem y4x (n:Int) (h:0≤n∧n≤345686400000):(Lib.itoa n).length≤15∧Ww n=some (Lib.itoa n):=by
 refine ⟨?_,by unfold Ww; rw [if_pos (by omega)]⟩
 obtain ⟨u,rfl⟩:=Int.eq_ofNat_of_zero_le h.1
 have h1:=w7t 14 u (by omega)
 have h2:Lib.itoa (u:Int)=Lib.decDigits u:=by
  unfold Lib.itoa
  simp
 rw [h2]; omega
structure CWB (c:zm):Prop where
 id:c.Id.length≤1000000
 subject:c.Subject.length≤1000000
 issuer:c.Issuer.length≤1000000
 parent:c.Parent.length≤1000000
 aud:c.Audience.length≤50∧∀ x,x∈c.Audience→x.length≤1000000
 sc:c.Scopes.length≤50∧∀ x,x∈c.Scopes→x.length≤1000000
 fr:0≤c.From∧c.From≤345686400000
 tu:0≤c.To∧c.To≤345686400000
theorem w8a {c:zm} (h:ClB c) (h0:clF c=0):CWB c:=by
 unfold clF at h0
 split at h0
 ·simp at h0
 ·split at h0
  ·simp at h0
  ·rename_i ha
   split at h0
   ·rename_i h1; exact absurd h0 h1
   ·unfold tlF at h0
    split at h0
    ·rename_i h1; exact absurd h0 h1
    ·rename_i h1
     split at h0
     ·simp at h0
     ·split at h0
      ·simp at h0
      ·rename_i h3
       simp only [Bool.or_eq_true,decide_eq_true_eq] at h3
       have h1':=w0k (show scF c.Scopes=0 by simpa using h1)
       refine ⟨h.id,h.subject,h.issuer,h.parent,⟨by omega,h.aud.2⟩,⟨h1'.1,h.sc.2⟩,by omega,by omega⟩
def lnC (c:zm):List Bs:=
 [[105,100,32]++c.Id,[115,117,98,106,101,99,116,32]++c.Subject,[105,115,115,117,101,114,32]++c.Issuer]++(if c.Parent≠[] then [[112,97,114,101,110,116,32]++c.Parent] else []) ++
 (if 0 < c.Audience.length then [[102,111,114,32]++Lib.join c.Audience [32]] else [])++(if 0 < c.Scopes.length then [[109,97,121,32]++Lib.join c.Scopes [32]] else [])++[(([116,105,109,101,32]++Lib.itoa c.From)++[32])++Lib.itoa c.To]
def txC (c:zm):Bs:=(lnC c).flatMap (· ++ [10])
theorem x46:∀ (l:List Bs),l≠[]→Lib.join l [10]++[10]=l.flatMap (· ++ [10])
 | [],h=>absurd rfl h
 | [x],_=>by rw [Lib.join_one]; simp
 | x::y::l,_=>by
  have ih:=x46 (y::l) (by simp)
  rw [List.flatMap_cons,← ih,Lib.join_cons,Lib.join_cons]
  simp [Lib.joinTail]
section
variable {c:zm} (h:CWB c)
include h
theorem audJ:(Lib.join c.Audience [32]).length≤50000050∧xb c.Audience [32]=some (Lib.join c.Audience [32]):=by
 have h1:=y0r 1000000 [32] c.Audience h.aud.2
 have h2:=h.aud.1
 have h3:c.Audience.length * (1000000+([32]:Bs).length)≤50 * 1000001:=Nat.mul_le_mul h2 (by simp)
 refine ⟨by omega,?_⟩
 unfold xb
 rw [if_pos ⟨by omega,by omega⟩]
theorem scJ:(Lib.join c.Scopes [32]).length≤50000050∧xb c.Scopes [32]=some (Lib.join c.Scopes [32]):=by
 have h1:=y0r 1000000 [32] c.Scopes h.sc.2
 have h2:=h.sc.1
 have h3:c.Scopes.length * (1000000+([32]:Bs).length)≤50 * 1000001:=Nat.mul_le_mul h2 (by simp)
 refine ⟨by omega,?_⟩
 unfold xb
 rw [if_pos ⟨by omega,by omega⟩]
def mayL (c:zm):Bs:=if 0 < c.Scopes.length then ([109,97,121,32]++Lib.join c.Scopes [32])++[10] else []
def y5z (c:zm):Bs:=if 0 < c.Audience.length then ([102,111,114,32]++Lib.join c.Audience [32])++[10] else []
def parL (c:zm):Bs:=if c.Parent≠[] then ([112,97,114,101,110,116,32]++c.Parent)++[10] else []
def hdC (c:zm):Bs:=((((([105,100,32]++c.Id)++[10,115,117,98,106,101,99,116,32])++c.Subject)++[10,105,115,115,117,101,114,32])++c.Issuer)++[10]
theorem x72:txC c=hdC c++parL c++y5z c++mayL c++(((([116,105,109,101,32]++Lib.itoa c.From)++[32])++Lib.itoa c.To)++[10]):=by
 unfold txC lnC hdC parL y5z mayL
 by_cases h1:c.Parent=[] <;> by_cases h2:0 < c.Audience.length <;> by_cases h3:0 < c.Scopes.length <;> simp [h1,h2,h3]
theorem x3b (l:List Bs) (hl:l.length≤10∧∀ x,x∈l→x.length≤50000100):z23 c l=some ((l++[(([116,105,109,101,32]++Lib.itoa c.From)++[32])++Lib.itoa c.To]).flatMap (· ++ [10])):=by
 obtain ⟨f1,f2⟩:=y4x c.From h.fr
 obtain ⟨t1,t2⟩:=y4x c.To h.tu
 unfold z23
 rw [f2,t2]
 simp only [Option.bind_some]
 rw [if_pos (by simp; omega),if_pos (by simp; omega),if_pos (by simp; omega),if_pos (by omega)]
 have hj:(Lib.join (l++[(([116,105,109,101,32]++Lib.itoa c.From)++[32])++Lib.itoa c.To]) [10]).length≤600000000:=by
  have:=y0r 50000100 [10] (l++[(([116,105,109,101,32]++Lib.itoa c.From)++[32])++Lib.itoa c.To]) (fun x hx=>by
   rcases List.mem_append.1 hx with hx | hx
   ·exact hl.2 x hx
   ·simp only [List.mem_singleton] at hx
    rw [hx]; simp; omega)
  have h3:(l++[(([116,105,109,101,32]++Lib.itoa c.From)++[32])++Lib.itoa c.To]).length * (50000100+([10]:Bs).length)≤11 * 50000101:=Nat.mul_le_mul (by simp; omega) (by simp)
  omega
 unfold xb
 rw [if_pos ⟨by simp; omega,by omega⟩]
 simp only [Option.bind_some]
 rw [if_pos (by rw [List.length_singleton]; omega),x46 _ (by simp)]
theorem y77:z2a c=some (txC c):=by
 have a1:=h.id; have a2:=h.subject; have a3:=h.issuer; have a4:=h.parent
 obtain ⟨s1,s2⟩:=scJ h
 obtain ⟨d1,d2⟩:=audJ h
 have J2:∀ l:List Bs,(l.length≤9∧∀ x,x∈l→x.length≤50000100)→z26 c l=some (((l++if 0 < c.Scopes.length then [[109,97,121,32]++Lib.join c.Scopes [32]] else [])++[(([116,105,109,101,32]++Lib.itoa c.From)++[32])++Lib.itoa c.To]).flatMap (· ++ [10])):=fun l hl=>by
  unfold z26
  by_cases h0:0 < c.Scopes.length
  ·rw [if_pos (by simpa using h0),s2,if_pos h0]
   simp only [Option.bind_some]
   rw [if_pos (by simp; omega),if_pos (by omega)]
   exact x3b h _ ⟨by simp; omega,fun x hx=>by
    rcases List.mem_append.1 hx with hx | hx
    ·exact hl.2 x hx
    ·simp only [List.mem_singleton] at hx
     rw [hx]; simp; omega⟩
  ·rw [if_neg (by simpa using h0),if_neg h0,List.append_nil]
   exact x3b h _ ⟨by omega,hl.2⟩
 have J1:∀ l:List Bs,(l.length≤8∧∀ x,x∈l→x.length≤50000100)→z28 c l=some ((((l++if 0 < c.Audience.length then [[102,111,114,32]++Lib.join c.Audience [32]] else [])++if 0 < c.Scopes.length then [[109,97,121,32]++Lib.join c.Scopes [32]] else [])++[(([116,105,109,101,32]++Lib.itoa c.From)++[32])++Lib.itoa c.To]).flatMap (· ++ [10])):=fun l hl=>by
  unfold z28
  by_cases h0:0 < c.Audience.length
  ·rw [if_pos (by simpa using h0),d2,if_pos h0]
   simp only [Option.bind_some]
   rw [if_pos (by simp; omega),if_pos (by omega)]
   exact J2 _ ⟨by simp; omega,fun x hx=>by
    rcases List.mem_append.1 hx with hx | hx
    ·exact hl.2 x hx
    ·simp only [List.mem_singleton] at hx
     rw [hx]; simp; omega⟩
  ·rw [if_neg (by simpa using h0),if_neg h0,List.append_nil]
   exact J2 _ ⟨by omega,hl.2⟩
 unfold z2a
 rw [if_pos (by simp; omega),if_pos (by simp; omega),if_pos (by simp; omega)]
 have hb:∀ x,x∈([([105,100,32]++c.Id),([115,117,98,106,101,99,116,32]++c.Subject),([105,115,115,117,101,114,32]++c.Issuer)]:List Bs)→x.length≤50000100:=fun x hx=>by
  simp only [List.mem_cons,List.not_mem_nil,or_false] at hx
  rcases hx with rfl | rfl | rfl <;> (simp; omega)
 by_cases hpar:c.Parent=[]
 ·rw [if_neg (by simpa using hpar),J1 _ ⟨by simp,hb⟩]
  unfold txC lnC
  rw [if_neg (not_not_intro hpar)]
  simp
 ·rw [if_pos (by simpa using hpar),if_pos (by simp; omega),if_pos (by simp),J1 _ ⟨by simp,fun x hx=>by
   rcases List.mem_append.1 hx with hx | hx
   ·exact hb x hx
   ·simp only [List.mem_singleton] at hx
    rw [hx]; simp; omega⟩]
  unfold txC lnC
  rw [if_pos hpar]
end
theorem x78 (c:zm) (h:ClB c):z5n c=some (if clF c≠0 then ([],clF c) else if 4000 < (txC c).length then ([],2) else (txC c,0)):=by
 unfold z5n
 rw [x6i c h]
 simp only [Option.bind_some]
 by_cases h0:clF c=0
 ·rw [if_neg (by simpa using h0),if_neg (not_not_intro h0),y77 (w8a h h0)]
  simp only [Option.bind_some]
  by_cases hl:4000 < (txC c).length
  ·rw [if_pos hl,if_pos (decide_eq_true (by omega))]
  ·rw [if_neg hl,if_neg (by intro hh; exact hl (by have:=of_decide_eq_true hh; omega))]
 ·rw [if_pos (by simpa using h0),if_pos h0]
def kdL:List Bs:=[[105,100],[115,117,98,106,101,99,116],[105,115,115,117,101,114],[112,97,114,101,110,116],[102,111,114],[109,97,121],[116,105,109,101]]
def kd (x:Bs):Nat:=if x=[105,100] then 0 else if x=[115,117,98,106,101,99,116] then 1 else if x=[105,115,115,117,101,114] then 2 else if x=[112,97,114,101,110,116] then 3 else if x=[102,111,114] then 4 else if x=[109,97,121] then 5 else if x=[116,105,109,101] then 6 else 7
theorem y0o (x:Bs):kd x≤7:=by
 unfold kd
 repeat' split
 all_goals omega
theorem z5y (x:Bs) (k:Nat) (hk:k < 7):kd x=k↔x=kdL.getD k []:=by
 have hc:k=0∨k=1∨k=2∨k=3∨k=4∨k=5∨k=6:=by omega
 constructor
 ·intro h
  unfold kd at h
  repeat' (split at h)
  all_goals (subst h; try omega)
  all_goals (first | assumption | (exfalso; omega))
 ·intro h
  subst h
  rcases hc with rfl | rfl | rfl | rfl | rfl | rfl | rfl <;> decide
theorem y8g (x:Bs):fdx (fun y=>decide (x=y)) 0 kdL=if kd x < 7 then (kd x:Int) else -1:=by
 have h7:=y0o x
 by_cases h:kd x < 7
 ·rw [if_pos h]
  have e:=(z5y x (kd x) h).1 rfl
  have hc:kd x=0∨kd x=1∨kd x=2∨kd x=3∨kd x=4∨kd x=5∨kd x=6:=by omega
  rcases hc with h1 | h1 | h1 | h1 | h1 | h1 | h1 <;> (rw [h1] at e ⊢; rw [e]; decide)
 ·rw [if_neg h]
  have h1:kdL.any (fun y=>decide (x=y))=false:=by
   rw [List.any_eq_false]
   intro y hy hxy
   have hxy:x=y:=by simpa using hxy
   subst hxy
   have:x=kdL.getD 0 []∨x=kdL.getD 1 []∨x=kdL.getD 2 []∨x=kdL.getD 3 []∨x=kdL.getD 4 []∨x=kdL.getD 5 []∨x=kdL.getD 6 []:=by simpa [kdL] using hy
   rcases this with h1 | h1 | h1 | h1 | h1 | h1 | h1 <;> (have:=(z5y x _ (by omega)).2 h1; omega)
  have h2:=y9c (fun y=>decide (x=y)) kdL
  rw [h1] at h2
  have h3:fdx (fun y=>decide (x=y)) 0 kdL < 0:=by simpa using h2
  have h4:=(z68 (fun y=>decide (x=y)) kdL 0).1
  have:∀ (l:List Bs) (k:Nat),l.any (fun y=>decide (x=y))=false→fdx (fun y=>decide (x=y)) k l=-1:=by
   intro l
   induction l with
   | nil=>intro k _; rfl
   | cons y l ih =>
    intro k hk
    simp only [List.any_cons,Bool.or_eq_false_iff] at hk
    rw [fdx,if_neg (by simpa using hk.1)]
    exact ih (k+1) hk.2
  exact this kdL 0 h1
def y7u (s:Bs):Bool:=(decide (s≠[112,97,114,101,110,116]) && decide (s≠[102,111,114])) && decide (s≠[109,97,121])
def optB (m:Nat):Bool:=m == 3 || m == 4 || m == 5
def skB (k j:Nat):Bool:=(List.range 7).all fun m=>decide (m < k) || decide (j≤m) || optB m
def okK (k j:Nat):Bool:=decide (j < 7) && decide (k≤j) && skB k j
theorem w19:∀ k:Fin 8,∀ j:Fin 7,((kdL.drop k.1).take (max j.1 k.1 - k.1)).any y7u = !skB k.1 j.1:=by decide
theorem w11:∀ k:Fin 8,∀ j:Fin 8,optB k.1=true→j.1≠k.1→okK k.1 j.1=okK (k.1+1) j.1:=by decide
theorem w14:∀ k:Fin 8,∀ j:Fin 8,optB k.1=false→j.1≠k.1→okK k.1 j.1=false:=by decide
theorem w13:∀ k:Fin 7,okK k.1 k.1=true:=by decide
theorem w12:∀ j:Fin 8,okK 7 j.1=false:=by decide
def qc (x:Bs):Bs:=(spl 32 x).headD []
def vp (x:Bs):List Bs:=if 32∈x then (spl 32 x).tail else [[]]
theorem z0h {x:Bs} (h:32∈x):spl 32 x=qc x::vp x∧vp x≠[]:=by
 obtain ⟨p,q,rfl,h2⟩:=z67 h
 unfold qc vp
 rw [if_pos h,splA 32 q p h2]
 exact ⟨rfl,z4h 32 q⟩
theorem z2l {x:Bs} (h:32 ∉ x):spl 32 x=[x]∧qc x=x∧vp x=[[]]:=by
 unfold qc vp
 rw [if_neg h,splN 32 x h]
 exact ⟨rfl,rfl,rfl⟩
def setC (j:Nat) (c:zm) (w:List Bs):Option zm:=
 match j with
 | 0=>if w.length=2 then some (zm.mk (w.getD 1 []) c.Subject c.Issuer c.Parent c.Audience c.Scopes c.From c.To) else none
 | 1=>if w.length=2 then some (zm.mk c.Id (w.getD 1 []) c.Issuer c.Parent c.Audience c.Scopes c.From c.To) else none
 | 2=>if w.length=2 then some (zm.mk c.Id c.Subject (w.getD 1 []) c.Parent c.Audience c.Scopes c.From c.To) else none
 | 3=>if w.length=2 then some (zm.mk c.Id c.Subject c.Issuer (w.getD 1 []) c.Audience c.Scopes c.From c.To) else none
 | 4=>if 1 < w.length then some (zm.mk c.Id c.Subject c.Issuer c.Parent (w.drop 1) c.Scopes c.From c.To) else none
 | 5=>if 1 < w.length then some (zm.mk c.Id c.Subject c.Issuer c.Parent c.Audience (w.drop 1) c.From c.To) else none
 | _=>if w.length=3∧okN 15 (w.getD 1 [])=true∧okN 15 (w.getD 2 [])=true then some (zm.mk c.Id c.Subject c.Issuer c.Parent c.Audience c.Scopes (valB (w.getD 1 [])) (valB (w.getD 2 []))) else none
def kf:zm:=zm.mk [] [] [] [] [] [] 0 0
def finC (c:zm):zm×Int×Int:=if clF c≠0 then (kf,0,clF c) else (c,0,0)
def errC (i:Nat):zm×Int×Int:=(kf,(i:Int),9)
def rdC (e:Bool):List Bs→Nat→Nat→zm→zm×Int×Int
 | [],k,i,c=>if k=7 then finC c else errC i
 | x::L,k,i,c=>if (L=[]∧e=false)∨okK k (kd (qc x))=false∨[]∈spl 32 x then errC i else
  match setC (kd (qc x)) c (spl 32 x) with
  | none=>errC i
  | some c'=>rdC e L (kd (qc x)+1) (i+1) c'
theorem x2h {e:Bool} {x:Bs} {L:List Bs} {k i:Nat} {c:zm} (hk:k=3∨k=4∨k=5) (h:kd (qc x)≠k):rdC e (x::L) k i c=rdC e (x::L) (k+1) i c:=by
 have h7:=y0o (qc x)
 have:=w11 ⟨k,by omega⟩ ⟨kd (qc x),by omega⟩ (by rcases hk with rfl | rfl | rfl <;> rfl) h
 simp only at this
 simp only [rdC,this]
theorem x2j {e:Bool} {x:Bs} {L:List Bs} {k i:Nat} {c:zm} (hk:k=0∨k=1∨k=2∨k=6) (h:kd (qc x)≠k):rdC e (x::L) k i c=errC i:=by
 have h7:=y0o (qc x)
 have:=w14 ⟨k,by omega⟩ ⟨kd (qc x),by omega⟩ (by rcases hk with rfl | rfl | rfl | rfl <;> rfl) h
 simp only at this
 rw [rdC,if_pos (.inr (.inl this))]
theorem y7l {e:Bool} {x:Bs} {L:List Bs} {k i:Nat} {c:zm} (hk:k < 7) (h:kd (qc x)=k):rdC e (x::L) k i c=if (L=[]∧e=false)∨[]∈spl 32 x then errC i else match setC k c (spl 32 x) with | none=>errC i | some c'=>rdC e L (k+1) (i+1) c':=by
 have:=w13 ⟨k,hk⟩
 simp only at this
 rw [rdC,h,this]
 simp
theorem x1r {j:Nat} {c c':zm} {w:List Bs} (hc:ClB c) (hw:Sh w) (h:setC j c w=some c'):ClB c':=by
 have hg:∀ n,(w.getD n []).length≤1000000:=fun n=>by
  rw [List.getD_eq_getElem?_getD]
  cases hn:w[n]? with
  | none=>simp
  | some y=>exact hw.2 y (List.mem_of_getElem? hn)
 have hd:Sh (w.drop 1):=⟨by have:=hw.1; simp; omega,fun x hx=>hw.2 x (List.mem_of_mem_drop hx)⟩
 unfold setC at h
 repeat' (split at h)
 all_goals first
  | (cases h; done)
  | (cases h; first | exact ⟨hg 1,hc.subject,hc.issuer,hc.parent,hc.aud,hc.sc⟩ | exact ⟨hc.id,hg 1,hc.issuer,hc.parent,hc.aud,hc.sc⟩ | exact ⟨hc.id,hc.subject,hg 1,hc.parent,hc.aud,hc.sc⟩ | exact ⟨hc.id,hc.subject,hc.issuer,hg 1,hc.aud,hc.sc⟩ | exact ⟨hc.id,hc.subject,hc.issuer,hc.parent,hd,hc.sc⟩ | exact ⟨hc.id,hc.subject,hc.issuer,hc.parent,hc.aud,hd⟩ | exact ⟨hc.id,hc.subject,hc.issuer,hc.parent,hc.aud,hc.sc⟩)
theorem y23 {x:Bs} (h:x.length≤100000):Sh (spl 32 x):=⟨by have:=Ze 32 x; omega,fun y hy=>by have:=Yw 32 x y hy; omega⟩
theorem w8h (c:zm) (w:List Bs) (hw:Sh w) (j:Nat) (hj:j < 7) (h0:w[0]?=some (kdL.getD j [])):∃ q,Yd c w=some q∧(setC j c w=none→q.1=false)∧∀ c',setC j c w=some c'→q=(true,c'):=by
 obtain ⟨y,t,rfl⟩:∃ y t,w=y::t:=by
  cases w with
  | nil=>simp at h0
  | cons y t=>exact ⟨y,t,rfl⟩
 have hy:y=kdL.getD j []:=by simpa using h0
 have hl:=hw.1
 simp only [List.length_cons] at hl
 have hsub:sub? (y::t) 1 ((y::t).length:Int)=some t:=by
  unfold sub?
  rw [if_pos ⟨by omega,by simp; omega,Int.le_refl _⟩]
  simp
 have hlk:∀ z:Bs,lkG ([([105,100],(0:Int)),([115,117,98,106,101,99,116],(1:Int)),([105,115,115,117,101,114],(2:Int)),([112,97,114,101,110,116],(3:Int))]:List (Bs×Int)) z=if [105,100]=z then some 0 else if [115,117,98,106,101,99,116]=z then some 1 else if [105,115,115,117,101,114]=z then some 2 else if [112,97,114,101,110,116]=z then some 3 else none:=fun z=>by
  simp only [lkG]
  by_cases h1:([105,100]:Bs)=z
  ·rw [if_pos h1,if_pos h1]
  ·rw [if_neg h1,if_neg h1]
   by_cases h2:([115,117,98,106,101,99,116]:Bs)=z
   ·rw [if_pos h2,if_pos h2]
   ·rw [if_neg h2,if_neg h2]
    by_cases h3:([105,115,115,117,101,114]:Bs)=z
    ·rw [if_pos h3,if_pos h3]
    ·rw [if_neg h3,if_neg h3]
     by_cases h4:([112,97,114,101,110,116]:Bs)=z
     ·rw [if_pos h4,if_pos h4]
     ·rw [if_neg h4,if_neg h4]
 have hone:∀ (v:Int) (mk:Bs→zm),(lkG ([([105,100],(0:Int)),([115,117,98,106,101,99,116],(1:Int)),([105,115,115,117,101,114],(2:Int)),([112,97,114,101,110,116],(3:Int))]:List (Bs×Int)) y).getD (-1)=v→z7f v=true→(∀ z,y64 c v z=mk z)→y≠[102,111,114]→y≠[109,97,121]→y≠[116,105,109,101]→y.length≤1000000000 →
   ∃ q,Yd c (y::t)=some q∧((if (y::t).length=2 then some (mk ((y::t).getD 1 [])) else none)=none→q.1=false)∧∀ c',(if (y::t).length=2 then some (mk ((y::t).getD 1 [])) else none)=some c'→q=(true,c'):=by
  intro v mk h1 h2 h3 n1 n2 n3 hyl
  unfold Yd
  simp only [List.getElem?_cons_zero,Option.bind_some]
  rw [if_neg (by simpa using n1),if_neg (by simpa using n2),if_neg (by simpa using n3)]
  by_cases hlen:t.length=1
  ·obtain ⟨z,rfl⟩:=List.length_eq_one_iff.1 hlen
   rw [if_neg (by simp),if_pos (by simp),if_pos (by simp),if_pos (by simp),if_pos (by simp),if_pos hyl]
   simp only [List.getElem?_cons_succ,List.getElem?_cons_zero,Option.bind_some,h1,h2,h3,if_true]
   exact ⟨_,rfl,by simp,fun c' hc'=>by simpa using hc'⟩
  ·rw [if_pos (by simp; omega)]
   exact ⟨_,rfl,fun _=>rfl,fun c' hc'=>by rw [if_neg (by simp; omega)] at hc'; cases hc'⟩
 have hc:j=0∨j=1∨j=2∨j=3∨j=4∨j=5∨j=6:=by omega
 rcases hc with rfl | rfl | rfl | rfl | rfl | rfl | rfl
 ·have hy:y=[105,100]:=hy
  subst hy
  exact hone 0 (fun z=>zm.mk z c.Subject c.Issuer c.Parent c.Audience c.Scopes c.From c.To) (by rw [hlk]; rfl) rfl (fun z=>rfl) (by decide) (by decide) (by decide) (by simp)
 ·have hy:y=[115,117,98,106,101,99,116]:=hy
  subst hy
  exact hone 1 (fun z=>zm.mk c.Id z c.Issuer c.Parent c.Audience c.Scopes c.From c.To) (by rw [hlk]; rfl) rfl (fun z=>rfl) (by decide) (by decide) (by decide) (by simp)
 ·have hy:y=[105,115,115,117,101,114]:=hy
  subst hy
  exact hone 2 (fun z=>zm.mk c.Id c.Subject z c.Parent c.Audience c.Scopes c.From c.To) (by rw [hlk]; rfl) rfl (fun z=>rfl) (by decide) (by decide) (by decide) (by simp)
 ·have hy:y=[112,97,114,101,110,116]:=hy
  subst hy
  exact hone 3 (fun z=>zm.mk c.Id c.Subject c.Issuer z c.Audience c.Scopes c.From c.To) (by rw [hlk]; rfl) rfl (fun z=>rfl) (by decide) (by decide) (by decide) (by simp)
 ·have hy:y=[102,111,114]:=hy
  subst hy
  unfold Yd
  simp only [List.getElem?_cons_zero,Option.bind_some]
  rw [if_pos (by simp),hsub]
  simp only [Option.bind_some,setC]
  by_cases h1:1 < ([102,111,114]::t).length
  ·rw [if_pos h1]
   exact ⟨_,rfl,by simp,fun c' hc'=>by cases hc'; simp only [List.drop_succ_cons,List.drop_zero]; rw [decide_eq_true (by omega)]⟩
  ·rw [if_neg h1]
   exact ⟨_,rfl,fun _=>decide_eq_false (by omega),fun c' hc'=>by cases hc'⟩
 ·have hy:y=[109,97,121]:=hy
  subst hy
  unfold Yd
  simp only [List.getElem?_cons_zero,Option.bind_some]
  rw [if_neg (by simp),if_pos (by simp),hsub]
  simp only [Option.bind_some,setC]
  by_cases h1:1 < ([109,97,121]::t).length
  ·rw [if_pos h1]
   exact ⟨_,rfl,by simp,fun c' hc'=>by cases hc'; simp only [List.drop_succ_cons,List.drop_zero]; rw [decide_eq_true (by omega)]⟩
  ·rw [if_neg h1]
   exact ⟨_,rfl,fun _=>decide_eq_false (by omega),fun c' hc'=>by cases hc'⟩
 ·have hy:y=[116,105,109,101]:=hy
  subst hy
  unfold Yd
  simp only [List.getElem?_cons_zero,Option.bind_some]
  rw [if_neg (by simp),if_neg (by simp),if_pos (by simp)]
  by_cases h3:t.length=2
  ·obtain ⟨a,b,rfl⟩:∃ a b,t=[a,b]:=by
    match t,h3 with
    | [a,b],_=>exact ⟨a,b,rfl⟩
   obtain ⟨v1,w1,w2,_⟩:=x2g a 15 (by omega) (hw.2 a (by simp))
   obtain ⟨v2,z1,z2,_⟩:=x2g b 15 (by omega) (hw.2 b (by simp))
   have w1':Ye a 15=some (v1,okN 15 a):=w1
   have z1':Ye b 15=some (v2,okN 15 b):=z1
   rw [if_neg (by simp)]
   simp only [List.getElem?_cons_succ,List.getElem?_cons_zero,Option.bind_some,w1',z1',setC]
   refine ⟨_,rfl,fun hn => ?_,fun c' hc' => ?_⟩
   ·by_cases ha:okN 15 a=true <;> by_cases hb:okN 15 b=true <;> simp_all
   ·split at hc'
    ·rename_i hh
     cases hc'
     have ha:okN 15 a=true:=hh.2.1
     have hb:okN 15 b=true:=hh.2.2
     simp [ha,hb,w2 ha,z2 hb]
    ·cases hc'
  ·rw [if_pos (by simp; omega)]
   exact ⟨_,rfl,fun _=>rfl,fun c' hc'=>by simp only [setC] at hc'; rw [if_neg (fun hh=>h3 (by simpa using hh.1))] at hc'; cases hc'⟩
def stR (t:Bs) (k i:Nat) (c:zm):Bs×Int×Int×Bs×Bs×Bs×Bs×(List Bs)×(List Bs)×Int×Int:=(t,(k:Int),(i:Int),c.Id,c.Subject,c.Issuer,c.Parent,c.Audience,c.Scopes,c.From,c.To)
theorem refC (e:Bool):∀ (L:List Bs) (k i:Nat) (c:zm),k≤7→i+L.length≤100000→ClB c→(∀ x,x∈L→10 ∉ x∧x.length≤10000)→(e=false→L.getLast?≠some [])→(txT e L).length≤100000 →
  iter (fun (s:Bs×Int×Int×Bs×Bs×Bs×Bs×(List Bs)×(List Bs)×Int×Int)=>Zm s.1 s.2.1 s.2.2.1 s.2.2.2.1 s.2.2.2.2.1 s.2.2.2.2.2.1 s.2.2.2.2.2.2.1 s.2.2.2.2.2.2.2.1 s.2.2.2.2.2.2.2.2.1 s.2.2.2.2.2.2.2.2.2.1 s.2.2.2.2.2.2.2.2.2.2) (stR (txT e L) k i c)=some (rdC e L k i c)
 | [],k,i,c,hk,hi,hc,hL,he,ht=>by
  refine xe ?_
  show Zm [] (k:Int) (i:Int) c.Id c.Subject c.Issuer c.Parent c.Audience c.Scopes c.From c.To=_
  unfold Zm
  rw [if_pos (by simp),rdC]
  by_cases h7:k=7
  ·subst h7
   rw [if_pos (by simp),if_pos rfl]
   unfold y1c
   have:z2b (zm.mk c.Id c.Subject c.Issuer c.Parent c.Audience c.Scopes c.From c.To)=some (clF c):=x6i c hc
   rw [this]
   simp only [Option.bind_some]
   unfold finC
   by_cases h0:clF c=0 <;> simp [h0,kf]
  ·rw [if_neg (by simp; omega),if_neg h7]
   rfl
 | x::L,k,i,c,hk,hi,hc,hL,he,ht=>by
  obtain ⟨hx10,hxl⟩:=hL x (by simp)
  simp only [List.length_cons] at hi
  have hcut:∃ en,Lib.cut (txT e (x::L)) [10]=(x,txT e L,en)∧(en=true↔¬ (L=[]∧e=false))∧txT e (x::L)≠[]:=by
   cases L with
   | nil =>
    cases e with
    | true=>exact ⟨true,y57 10 x [] hx10,by simp,by simp [txT]⟩
    | false=>exact ⟨false,x55 10 x hx10,by simp,by have:=he rfl; simpa [txT] using this⟩
   | cons y l=>exact ⟨true,by rw [y6k]; exact y57 10 x _ hx10,by simp,by simp [y6k]⟩
  obtain ⟨en,hcut,hen,hne⟩:=hcut
  have hcutm:xq (txT e (x::L)) [10]=some (x,txT e L,en):=by unfold xq; rw [if_pos (by omega),hcut]
  have hw0:(spl 32 x)[0]?=some (qc x):=by
   unfold qc
   cases hs:spl 32 x with
   | nil=>exact absurd hs (z4h 32 x)
   | cons a b=>rfl
  have hidx:z44 kdL (qc x)=some (fdx (fun y=>decide (qc x=y)) 0 kdL):=
   y1f (p:=fun y=>some (decide (qc x=y))) kdL _ (by decide) fun y _=>rfl
  have h7:=y0o (qc x)
  have hsub:sub? kdL (k:Int) (max (fdx (fun y=>decide (qc x=y)) 0 kdL) (k:Int))=some ((kdL.drop k).take (max (if kd (qc x) < 7 then kd (qc x) else 0) k - k)):=by
   rw [y8g]
   unfold sub?
   by_cases hj:kd (qc x) < 7
   ·rw [if_pos hj,if_pos hj,if_pos ⟨by omega,by omega,by simp [kdL]; omega⟩]
    congr 2
    all_goals (try omega)
   ·rw [if_neg hj,if_neg hj,if_pos ⟨by omega,by omega,by simp [kdL]; omega⟩]
    congr 2
    all_goals (try omega)
  have hcon:∀ l:List Bs,l.length≤1000→z13 l (fun a0=>z5o a0)=some (l.any y7u):=fun l hl =>
   z3k l (p:=fun a0=>z5o a0) y7u (by omega) fun y _=>rfl
  have herr:∀ a b c' d f g h q,Yk (i:Int) (x,txT e L,en) (fdx (fun y=>decide (qc x=y)) 0 kdL) true a b c' d f g h q=some (.inr (errC i)):=fun a b c' d f g h q=>rfl
  have hst:∀ r,(Zm (txT e (x::L)) (k:Int) (i:Int) c.Id c.Subject c.Issuer c.Parent c.Audience c.Scopes c.From c.To=some (.inr r))→iter (fun (s:Bs×Int×Int×Bs×Bs×Bs×Bs×(List Bs)×(List Bs)×Int×Int)=>Zm s.1 s.2.1 s.2.2.1 s.2.2.2.1 s.2.2.2.2.1 s.2.2.2.2.2.1 s.2.2.2.2.2.2.1 s.2.2.2.2.2.2.2.1 s.2.2.2.2.2.2.2.2.1 s.2.2.2.2.2.2.2.2.2.1 s.2.2.2.2.2.2.2.2.2.2) (stR (txT e (x::L)) k i c)=some r:=fun r h=>xe h
  have hbody:Zm (txT e (x::L)) (k:Int) (i:Int) c.Id c.Subject c.Issuer c.Parent c.Audience c.Scopes c.From c.To=(if (L=[]∧e=false)∨okK k (kd (qc x))=false∨[]∈spl 32 x then some (.inr (errC i)) else match setC (kd (qc x)) c (spl 32 x) with | none=>some (.inr (errC i)) | some c'=>some (.inl (stR (txT e L) (kd (qc x)+1) (i+1) c'))):=by
   unfold Zm
   rw [if_neg (by simpa using hne),hcutm]
   simp only [Option.bind_some]
   rw [y22 x 32 (by omega)]
   simp only [Option.bind_some,hw0]
   show ((z44 kdL (qc x)).bind fun r23=>(sub? kdL (k:Int) (max r23 (k:Int))).bind _)=_
   rw [hidx]
   simp only [Option.bind_some,hsub]
   rw [hcon _ (by simp [kdL]; omega)]
   simp only [Option.bind_some]
   by_cases c1:L=[]∧e=false
   ·have:en=false:=by cases en; rfl; exact absurd c1 (hen.1 rfl)
    rw [if_pos (by simp [this]),if_pos (.inl c1),herr]
   ·have hen':en=true:=hen.2 c1
    rw [if_neg (by simp [hen'])]
    by_cases hj:kd (qc x) < 7
    ·rw [y8g,if_pos hj]
     simp only [if_pos hj]
     by_cases hkj:(kd (qc x):Int) < (k:Int)
     ·rw [if_pos (by simpa using hkj),if_pos (.inr (.inl (by unfold okK; simp; intro _ h; omega)))]
      rfl
     ·rw [if_neg (by simpa using hkj)]
      have hm:=w19 ⟨k,by omega⟩ ⟨kd (qc x),hj⟩
      simp only at hm
      rw [hm]
      have hok:okK k (kd (qc x))=skB k (kd (qc x)):=by
       unfold okK
       rw [decide_eq_true hj,decide_eq_true (by omega)]; simp
      cases hsk:skB k (kd (qc x))
      ·rw [if_pos (by simp),if_pos (.inr (.inl (by rw [hok,hsk])))]
       rfl
      ·rw [if_neg (by simp),x5g _ (by have:=Ze 32 x; omega)]
       simp only [Option.bind_some]
       by_cases hem:[]∈spl 32 x
       ·rw [if_pos (by rw [List.any_eq_true]; exact ⟨[],hem,by simp⟩),if_pos (.inr (.inr hem))]
        rfl
       ·have hany:((spl 32 x).any fun y=>decide ([]=y))=false:=by
         rw [List.any_eq_false]
         intro y hy hd
         have:([]:Bs)=y:=of_decide_eq_true hd
         rw [← this] at hy
         exact hem hy
        rw [hany,if_neg (by simp)]
        rw [if_neg (by rintro (h | h | h); exact c1 h; (rw [hok,hsk] at h; cases h); exact hem h)]
        have hhd:qc x=kdL.getD (kd (qc x)) []:=(z5y _ _ hj).1 rfl
        obtain ⟨q,q1,q2,q3⟩:=w8h c (spl 32 x) (y23 (by omega)) (kd (qc x)) hj (by rw [hw0,← hhd])
        have q1':Yd (zm.mk c.Id c.Subject c.Issuer c.Parent c.Audience c.Scopes c.From c.To) (spl 32 x)=some q:=q1
        rw [q1']
        simp only [Option.bind_some]
        cases hs:setC (kd (qc x)) c (spl 32 x) with
        | none =>
         rw [q2 hs]
         rfl
        | some c' =>
         rw [q3 c' hs]
         unfold Yk
         rw [vh (show -9223372036854775808≤(kd (qc x):Int)+1∧(kd (qc x):Int)+1≤9223372036854775807 by omega),vh (show -9223372036854775808≤(i:Int)+1∧(i:Int)+1≤9223372036854775807 by omega)]
         rfl
    ·rw [y8g,if_neg hj]
     rw [if_pos (by simp; omega),if_pos (.inr (.inl (by unfold okK; simp [hj])))]
     rfl
  have hiter:iter (fun (s:Bs×Int×Int×Bs×Bs×Bs×Bs×(List Bs)×(List Bs)×Int×Int)=>Zm s.1 s.2.1 s.2.2.1 s.2.2.2.1 s.2.2.2.2.1 s.2.2.2.2.2.1 s.2.2.2.2.2.2.1 s.2.2.2.2.2.2.2.1 s.2.2.2.2.2.2.2.2.1 s.2.2.2.2.2.2.2.2.2.1 s.2.2.2.2.2.2.2.2.2.2) (stR (txT e (x::L)) k i c)=some (if (L=[]∧e=false)∨okK k (kd (qc x))=false∨[]∈spl 32 x then errC i else match setC (kd (qc x)) c (spl 32 x) with | none=>errC i | some c'=>rdC e L (kd (qc x)+1) (i+1) c'):=by
   by_cases hcd:(L=[]∧e=false)∨okK k (kd (qc x))=false∨[]∈spl 32 x
   ·rw [if_pos hcd] at hbody ⊢
    exact hst _ hbody
   ·rw [if_neg hcd] at hbody ⊢
    cases hs:setC (kd (qc x)) c (spl 32 x) with
    | none =>
     rw [hs] at hbody
     exact hst _ hbody
    | some c' =>
     rw [hs] at hbody
     have hj:kd (qc x) < 7:=by
      by_cases hj:kd (qc x) < 7
      ·exact hj
      ·exact absurd (.inr (.inl (by unfold okK; simp [hj]))) hcd
     have htl:(txT e L).length≤(txT e (x::L)).length:=by
      cases L with
      | nil=>simp [txT]
      | cons y l=>rw [y6k]; simp; omega
     rw [js (s':=stR (txT e L) (kd (qc x)+1) (i+1) c') hbody]
     exact refC e L (kd (qc x)+1) (i+1) c' (by omega) (by omega) (x1r hc (y23 (by omega)) hs) (fun y hy=>hL y (by simp [hy])) (fun h=>by
      cases L with
      | nil=>simp
      | cons y l=>have:=he h; rwa [List.getLast?_cons_cons] at this) (by omega)
  rw [hiter,rdC]
end Go.Proofs.YtndabcepiekebaaGreatDoor
