/- Plain: partial results with a property; loops; lists: the library of slices. No program. -/
import Derived.Test.YthmmalklamiefaaGreatDoorMc
namespace Go.Proofs.YthmmalklamiefaaGreatDoor
set_option linter.unusedVariables false
set_option maxRecDepth 20000
section
variable {α β σ ρ:Type}
def Ok (o:Option α) (Q:α→Prop):Prop:=∃ x,o=some x∧Q x
variable {o a b:Option α} {Q Q':α→Prop}
theorem z13 {x:α} (h:Q x):Ok (some x) Q:=⟨x,rfl,h⟩
theorem z1c {f:α→Option β} {R:β→Prop} (h:Ok o Q) (k:∀ x,Q x→Ok (f x) R):Ok (o.bind f) R:=by
 obtain ⟨x,rfl,hx⟩:=h
 exact k x hx
theorem y0s {c:Prop} [Decidable c] (h1:c→Ok a Q) (h2:¬ c→Ok b Q):Ok (if c then a else b) Q:=by
 by_cases h:c
 ·rw [if_pos h]; exact h1 h
 ·rw [if_neg h]; exact h2 h
theorem ok_g {c:Prop} [Decidable c] (hc:c) (h:Ok a Q):Ok (if c then a else none) Q:=by rw [if_pos hc]; exact h
theorem x2e (h:Ok o Q) (k:∀ x,Q x→Q' x):Ok o Q':=let ⟨x,h1,h2⟩:=h; ⟨x,h1,k x h2⟩
theorem w9f {x:α} (h:Ok o (· = x)):o=some x:=by obtain ⟨y,h1,h2⟩:=h; rw [h1,h2]
def rd (I:σ→Prop) (Q:ρ→Prop):σ ⊕ ρ→Prop
 | .inl s=>I s
 | .inr r=>Q r
theorem x0e {body:Nat→α→σ→Option (σ ⊕ ρ)} {fin:σ→Option ρ} {R:ρ→Prop} (I:Nat→σ→Prop):∀ (l:List α) (k:Nat) (s:σ),I k s →
  (∀ j x s,k≤j→l[j - k]?=some x→I j s→Ok (body j x s) (rd (I (j+1)) R))→(∀ s,I (k+l.length) s→Ok (fin s) R)→Ok (forL body fin k l s) R
 | [],k,s,h0,hs,hf=>hf s h0
 | x::l,k,s,h0,hs,hf=>by
  refine z1c (hs k x s (Nat.le_refl _) (by simp) h0) fun q hq => ?_
  cases q with
  | inl s' =>
   refine x0e I l (k+1) s' hq (fun j y s hj hy hi=>hs j y s (by omega) ?_ hi) (fun s hi=>hf s ?_)
   ·obtain ⟨m,hm⟩:∃ m,j - k=m+1:=⟨j - k - 1,by omega⟩
    rw [hm,List.getElem?_cons_succ]
    have:j - (k+1)=m:=by omega
    rw [this] at hy; exact hy
   ·simp only [List.length_cons]
    have:k+(l.length+1)=k+1+l.length:=by omega
    rw [this]; exact hi
  | inr r=>exact ⟨r,rfl,hq⟩
theorem x3g {body:Nat→σ→Option (σ ⊕ ρ)} {fin:σ→Option ρ} {R:ρ→Prop} (I:Nat→σ→Prop):∀ (n k:Nat) (s:σ),I k s →
  (∀ j s,k≤j→j < k+n→I j s→Ok (body j s) (rd (I (j+1)) R))→(∀ s,I (k+n) s→Ok (fin s) R)→Ok (rng body fin n k s) R
 | 0,k,s,h0,hs,hf=>hf s h0
 | n+1,k,s,h0,hs,hf=>by
  refine z1c (hs k s (Nat.le_refl _) (by omega) h0) fun q hq => ?_
  cases q with
  | inl s'=>exact x3g I n (k+1) s' hq (fun j s hj hy hi=>hs j s (by omega) (by omega) hi) (fun s hi=>hf s (by rw [show k+(n+1)=k+1+n by omega]; exact hi))
  | inr r=>exact ⟨r,rfl,hq⟩
theorem x7d {body:σ→Option (σ ⊕ ρ)} {R:ρ→Prop} (I:σ→Prop) (μ:σ→Nat) (step:∀ s,I s→Ok (body s) (rd (fun s'=>I s'∧μ s' < μ s) R)) (s:σ) (h:I s):Ok (iter body s) R:=by
 have key:∀ n s,μ s < n→I s→Ok (iter body s) R:=by
  intro n
  induction n with
  | zero=>intro s h; omega
  | succ n ih =>
   intro s hn hi
   rw [x7l]
   refine z1c (step s hi) fun q hq => ?_
   cases q with
   | inl s'=>exact ih s' (by have:=hq.2; omega) hq.1
   | inr r=>exact ⟨r,rfl,hq⟩
 exact key _ s (Nat.lt_succ_self _) h
end

section
variable {α ρ:Type}
def allI (p:Nat→α→Bool):Nat→List α→Bool
 | _,[]=>true
 | k,x::l=>p k x && allI p (k+1) l
theorem y6w {body:Nat→α→Unit→Option (Unit ⊕ ρ)} {fin:Unit→Option ρ} {p:Nat→α→Bool} {e r0:ρ} (hf:fin ()=some e):∀ (l:List α) (k:Nat),(∀ j x,k≤j→l[j - k]?=some x→body j x ()=if p j x then some (.inl ()) else some (.inr r0))→forL body fin k l ()=some (if allI p k l then e else r0)
 | [],k,h=>by simp only [forL,allI,if_true]; exact hf
 | x::l,k,h=>by
  have h1:=h k x (Nat.le_refl _) (by simp)
  show (body k x ()).bind _=_
  rw [h1]
  cases hp:p k x
  ·simp [allI,hp,after]
  ·simp only [allI,hp,Bool.true_and,if_true,Option.bind_some,after]
   refine y6w hf l (k+1) fun j y hj hy=>h j y (by omega) ?_
   obtain ⟨m,hm⟩:∃ m,j - k=m+1:=⟨j - k - 1,by omega⟩
   rw [hm,List.getElem?_cons_succ]
   have:j - (k+1)=m:=by omega
   rw [this] at hy; exact hy
def feI (e:Nat→α→Int):Nat→List α→Int
 | _,[]=>0
 | k,x::l=>if e k x≠0 then e k x else feI e (k+1) l
theorem x2k {body:Nat→α→Unit→Option (Unit ⊕ Int)} {fin:Unit→Option Int} {e:Nat→α→Int} (hf:fin ()=some 0):∀ (l:List α) (k:Nat),(∀ j x,k≤j→l[j - k]?=some x→body j x ()=if e j x≠0 then some (.inr (e j x)) else some (.inl ()))→forL body fin k l ()=some (feI e k l)
 | [],k,h=>by simp only [forL,feI]; exact hf
 | x::l,k,h=>by
  have h1:=h k x (Nat.le_refl _) (by simp)
  show (body k x ()).bind _=_
  rw [h1]
  by_cases hp:e k x≠0
  ·simp [feI,hp,after]
  ·simp only [feI,hp,if_false,Option.bind_some,after]
   refine x2k hf l (k+1) fun j y hj hy=>h j y (by omega) ?_
   obtain ⟨m,hm⟩:∃ m,j - k=m+1:=⟨j - k - 1,by omega⟩
   rw [hm,List.getElem?_cons_succ]
   have:j - (k+1)=m:=by omega
   rw [this] at hy; exact hy
end

def leB (a b:Bs):Bool:=Op.bytesLess a b || a == b
def outP (n lo hi:Int):Bool:=decide (n < lo) || decide (hi < n)
theorem w6x (n lo hi:Int):outP n lo hi = !(decide (lo≤n) && decide (n≤hi)):=by
 unfold outP
 by_cases h1:n < lo
 ·have:¬ lo≤n:=by omega
  simp [h1,this]
 ·have h1':lo≤n:=by omega
  by_cases h2:hi < n
  ·have:¬ n≤hi:=by omega
   simp [h1',h2,this]
  ·have:n≤hi:=by omega
   simp [h1,h1',h2,this]
theorem w7w {n:Int} (h:0≤n∧n≤18446744073709551615):IntKind.wrap .u64 n=n:=by
 unfold IntKind.wrap
 simp [IntKind.bits,IntKind.signed]
 omega
theorem w17 {m:Int} (h:0≤m∧m≤1000000000):IntKind.wrap .i64 (shr_ .u64 (IntKind.wrap .u64 (wr m)) 1)=m / 2:=by
 rw [z6j (n:=m) (by omega),w7w (by omega)]
 have e1:shr_ .u64 m 1=m / 2:=by
  show m.fdiv (2 ^ (min (1:Int).toNat IntKind.u64.bits))=_
  have:min (1:Int).toNat IntKind.u64.bits=1:=by decide
  rw [this]
  rw [Int.fdiv_eq_ediv_of_nonneg _ (by decide)]
  rfl
 rw [e1]
 exact z6j (by omega)

theorem w63 (a b:Bs) (h:leB a b=false):cmpL b a < 0:=by
 unfold leB at h
 rw [x4s] at h
 simp at h
 have h1:=x7u a b
 have h2:=x8z a b
 have h3:=(y37 a b)
 have:cmpL a b≠0:=fun h0=>h.2 (h3.1 h0)
 omega

section
variable {α β:Type}
theorem x5i (q:α→Bool):∀ (l:List α) (k:Nat),allI (fun _ x=>q x) k l=l.all q
 | [],k=>rfl
 | x::l,k=>by simp only [allI,List.all_cons,x5i q l (k+1)]
def gIdx (l:List α) (p:α→Option Bool):Option Int:=if l.length≤1000000000 then forL (fun (k:Nat) (x:α) (s:Unit)=>(p x).bind fun r=>if r then (some (.inr (k:Int))) else (some (.inl ()))) (fun _=>some (-1)) 0 l () else none
def fdx (q:α→Bool):Nat→List α→Int
 | _,[]=>-1
 | k,x::l=>if q x then (k:Int) else fdx q (k+1) l
theorem x4y (l:List α) {p:α→Option Bool} (q:α→Bool) (hl:l.length≤1000000000) (hp:∀ x,x∈l→p x=some (q x)):gIdx l p=some (fdx q 0 l):=by
 unfold gIdx
 rw [if_pos hl]
 have:∀ (l:List α) (k:Nat),(∀ x,x∈l→p x=some (q x))→forL (fun (k:Nat) (x:α) (s:Unit)=>(p x).bind fun r=>if r then (some (.inr (k:Int))) else (some (.inl ()))) (fun _=>some (-1)) k l ()=some (fdx q k l):=by
  intro l
  induction l with
  | nil=>intro k _; rfl
  | cons x l ih =>
   intro k hp
   have h1:=hp x (by simp)
   show Option.bind ((p x).bind _) _=_
   rw [h1]
   cases hq:q x
   ·simp only [Option.bind_some,after,fdx,hq,if_false,Bool.false_eq_true]
    exact ih (k+1) fun y hy=>hp y (List.mem_cons_of_mem _ hy)
   ·simp [after,fdx,hq]
 exact this l 0 hp
theorem w2i (q:α→Bool):∀ (l:List α) (k:Nat),(fdx q k l < 0↔l.any q=false)∧(0≤fdx q k l→(k:Int)≤fdx q k l∧∃ x,l[(fdx q k l).toNat - k]?=some x∧q x=true)
 | [],k=>⟨by simp [fdx],fun h=>by simp [fdx] at h⟩
 | x::l,k=>by
  obtain ⟨h1,h2⟩:=w2i q l (k+1)
  cases hq:q x
  ·simp only [fdx,hq,if_false,Bool.false_eq_true,List.any_cons,Bool.false_or]
   refine ⟨h1,fun h => ?_⟩
   obtain ⟨h3,y,h4,h5⟩:=h2 h
   refine ⟨by omega,y,?_,h5⟩
   have:(fdx q (k+1) l).toNat - k=((fdx q (k+1) l).toNat - (k+1))+1:=by omega
   rw [this,List.getElem?_cons_succ]; exact h4
  ·simp only [fdx,hq,if_true,List.any_cons,Bool.true_or]
   refine ⟨by simp,fun _=>⟨by omega,x,by simp,hq⟩⟩
theorem y64 (q:α→Bool) (l:List α):decide (fdx q 0 l < 0) = !l.any q:=by
 have h:=(w2i q l 0).1
 cases hq:l.any q
 ·rw [hq] at h; simpa using h
 ·rw [hq] at h; simpa using h
theorem x7o (q:α→Bool) (l:List α):decide (0≤fdx q 0 l)=l.any q:=by
 have h:=y64 q l
 cases hq:l.any q
 ·rw [hq] at h; simp at h ⊢; omega
 ·rw [hq] at h; simp at h ⊢; omega
theorem w2j (q:α→Bool) (l:List α) (h:l.any q=true):0≤fdx q 0 l∧∃ x,at? l (fdx q 0 l)=some x∧l[(fdx q 0 l).toNat]?=some x∧q x=true:=by
 have h1:=x7o q l
 rw [h] at h1
 have h2:0≤fdx q 0 l:=by simpa using h1
 obtain ⟨_,x,h3,h4⟩:=(w2i q l 0).2 h2
 have h3:l[(fdx q 0 l).toNat]?=some x:=by simpa using h3
 exact ⟨h2,x,by unfold at?; rw [if_pos h2]; exact h3,h3,h4⟩
def gCon (l:List α) (p:α→Option Bool):Option Bool:=(gIdx l p).bind fun r=>some (decide (0≤r))
theorem w2d (l:List α) {p:α→Option Bool} (q:α→Bool) (hl:l.length≤1000000000) (hp:∀ x,x∈l→p x=some (q x)):gCon l p=some (l.any q):=by
 unfold gCon
 rw [x4y l q hl hp]
 simp only [Option.bind_some,x7o]
def gEql (ne:α→α→Bool) (a b:List α):Option Bool:=if decide ((a.length:Int)≠(b.length:Int)) then some false else (if a.length≤1000000000 then forL (fun (k:Nat) (x:α) (s:Unit)=>(b[k]?).bind fun y=>if ne x y then (some (.inr false)) else (some (.inl ()))) (fun _=>some true) 0 a () else none)
theorem w2c (ne:α→α→Bool) (hne:∀ x,ne x x=false) (a:List α) (h:a.length≤1000000000):gEql ne a a=some true:=by
 unfold gEql
 rw [if_neg (by simp),if_pos h]
 rw [y6w (p:=fun _ _=>true) (r0:=false) (e:=true) rfl a 0 fun j x _ hj => ?_]
 ·have:∀ (l:List α) k,allI (fun (_:Nat) (_:α)=>true) k l=true:=by
   intro l; induction l with
   | nil=>intro k; rfl
   | cons x l ih=>intro k; simp [allI,ih]
  rw [this]; rfl
 ·have:a[j]?=some x:=by simpa using hj
  simp only [this,Option.bind_some,hne,Bool.false_eq_true,if_false,if_true]
noncomputable def gBin (x1:List α) (t:β) (p2:α→β→Option Int):Option (Int×Bool):=iter (fun (s:Int×Int)=>if decide (s.1 < s.2) then ((at? x1 (IntKind.wrap .i64 (shr_ .u64 (IntKind.wrap .u64 (wr (s.1+s.2))) 1))).bind fun (x7:α)=>(p2 x7 t).bind fun (r9:Int)=>if decide (r9 < 0) then (some (.inl (wr ((IntKind.wrap .i64 (shr_ .u64 (IntKind.wrap .u64 (wr (s.1+s.2))) 1))+1),s.2))) else (some (.inl (s.1,IntKind.wrap .i64 (shr_ .u64 (IntKind.wrap .u64 (wr (s.1+s.2))) 1))))) else (Option.map .inr (if decide (s.1 < (x1.length:Int)) then ((at? x1 s.1).bind fun (x15:α)=>(p2 x15 t).bind fun (r17:Int)=>some (s.1,decide (r17=0))) else (some (s.1,false))))) (0,(x1.length:Int))
def x0r (f:α→Bs) (l:List α):Prop:=l.Pairwise fun x y=>cmpL (f x) (f y) < 0
theorem x2a {f:α→Bs} {xs:List α} (h:x0r f xs) {i j:Nat} {x y:α} (hi:xs[i]?=some x) (hj:xs[j]?=some y) (hij:i < j):cmpL (f x) (f y) < 0:=by
 obtain ⟨h1,e1⟩:=List.getElem?_eq_some_iff.1 hi
 obtain ⟨h2,e2⟩:=List.getElem?_eq_some_iff.1 hj
 have:=List.pairwise_iff_getElem.1 h i j h1 h2 hij
 rw [e1,e2] at this
 exact this
theorem w4w {f:α→Bs} {xs:List α} (h:x0r f xs) {key:Bs} {i:Nat} {x:α} (hi:xs[i]?=some x) (hk:f x=key):fdx (fun y=>decide (f y=key)) 0 xs=(i:Int):=by
 have hany:(xs.any fun y=>decide (f y=key))=true:=List.any_eq_true.2 ⟨x,List.mem_of_getElem? hi,by simpa using hk⟩
 obtain ⟨h1,y,_,h2,h3⟩:=w2j _ xs hany
 have h3:f y=key:=by simpa using h3
 rcases Nat.lt_trichotomy (fdx (fun y=>decide (f y=key)) 0 xs).toNat i with hq | hq | hq
 ·have:=x2a h h2 hi hq
  rw [h3,hk,(y37 key key).2 rfl] at this; omega
 ·omega
 ·have:=x2a h hi h2 hq
  rw [h3,hk,(y37 key key).2 rfl] at this; omega
theorem x7n (f:α→Bs) (xs:List α) (key:Bs) {p:α→Bs→Option Int} (h:xs.length≤100000000) (hp:∀ x,x∈xs→p x key=some (cmpL (f x) key)) (hs:x0r f xs) :
  Ok (gBin xs key p) fun r=>r.2=(xs.any fun x=>decide (f x=key))∧(r.2=true→r.1=fdx (fun x=>decide (f x=key)) 0 xs):=by
 unfold gBin
 refine x7d (fun s:Int×Int=>0≤s.1∧s.1≤s.2∧s.2≤(xs.length:Int)∧(∀ (i:Nat) x,(i:Int) < s.1→xs[i]?=some x→cmpL (f x) key < 0)∧(∀ (i:Nat) x,s.2≤(i:Int)→xs[i]?=some x→¬ cmpL (f x) key < 0)) (fun s=>(s.2 - s.1).toNat) ?_ _ ⟨by simp,by simp,by simp,fun i x hi=>by simp at hi; omega,fun i x hi hx=>by have:=z9l hx; simp at hi; omega⟩
 rintro ⟨i,j⟩ ⟨h1,h2,h3,h4,h5⟩
 simp only at h1 h2 h3 h4 h5
 refine y0s (fun hc => ?_) (fun hc => ?_)
 ·have hc:i < j:=by simpa using hc
  simp only
  rw [w17 (m:=i+j) (by omega)]
  have hm:0≤(i+j) / 2∧i≤(i+j) / 2∧(i+j) / 2 < j:=by omega
  obtain ⟨x,hx⟩:∃ x,xs[((i+j) / 2).toNat]?=some x:=⟨_,List.getElem?_eq_getElem (by omega)⟩
  have e1:at? xs ((i+j) / 2)=some x:=by unfold at?; rw [if_pos hm.1]; exact hx
  rw [e1]
  simp only [Option.bind_some,hp x (List.mem_of_getElem? hx)]
  refine y0s (fun hq=>z13 ?_) (fun hq=>z13 ?_)
  ·have hq:cmpL (f x) key < 0:=by simpa using hq
   simp only [rd]
   rw [z6j (by omega)]
   refine ⟨⟨by omega,by omega,h3,fun q y hq' hy => ?_,h5⟩,by omega⟩
   by_cases he:q=((i+j) / 2).toNat
   ·subst he; rw [hx] at hy; cases hy; exact hq
   ·exact y7i _ _ _ (x2a hs hy hx (by omega)) hq
  ·have hq:¬ cmpL (f x) key < 0:=by simpa using hq
   simp only [rd]
   refine ⟨⟨h1,by omega,by omega,h4,fun q y hq' hy => ?_⟩,by omega⟩
   by_cases he:q=((i+j) / 2).toNat
   ·subst he; rw [hx] at hy; cases hy; exact hq
   ·intro hlt
    exact hq (y7i _ _ _ (x2a hs hx hy (by omega)) hlt)
 ·have hij:i=j:=by simp at hc; omega
  subst hij
  have hno:∀ (q:Nat) x,xs[q]?=some x→f x=key→(q:Int)=i:=by
   intro q x hx hk
   by_cases h6:(q:Int) < i
   ·have:=h4 q x h6 hx; rw [hk,(y37 key key).2 rfl] at this; omega
   ·by_cases h7:(q:Int)=i
    ·exact h7
    ·exfalso
     obtain ⟨y,hy⟩:∃ y,xs[i.toNat]?=some y:=⟨_,List.getElem?_eq_getElem (by have:=z9l hx; omega)⟩
     have:=x2a hs hy hx (by omega)
     rw [hk] at this
     exact h5 i.toNat y (by omega) hy this
  have hany:∀ (q:Nat) x,xs[q]?=some x→f x=key→(xs.any fun x=>decide (f x=key))=true:=fun q x hx hk=>List.any_eq_true.2 ⟨x,List.mem_of_getElem? hx,by simpa using hk⟩
  have hnone:(∀ (q:Nat) x,xs[q]?=some x→f x≠key)→(xs.any fun x=>decide (f x=key))=false:=fun h=>by
   rw [List.any_eq_false]
   intro x hx
   obtain ⟨q,hq,rfl⟩:=List.getElem_of_mem hx
   simpa using h q _ (List.getElem?_eq_getElem hq)
  by_cases hl:i < (xs.length:Int)
  ·obtain ⟨y,hy⟩:∃ y,xs[i.toNat]?=some y:=⟨_,List.getElem?_eq_getElem (by omega)⟩
   have e1:at? xs i=some y:=by unfold at?; rw [if_pos h1]; exact hy
   have e2:decide (i < (xs.length:Int))=true:=by simpa using hl
   simp only [e2,if_true,e1,Option.bind_some,hp y (List.mem_of_getElem? hy),Option.map_some]
   refine z13 ?_
   simp only [rd]
   by_cases hk:f y=key
   ·have e3:cmpL (f y) key=0:=(y37 _ _).2 hk
    refine ⟨?_,fun _ => ?_⟩
    ·rw [e3,hany _ y hy hk]; rfl
    ·rw [w4w hs hy hk]; omega
   ·have e3:¬ cmpL (f y) key=0:=fun h=>hk ((y37 _ _).1 h)
    refine ⟨?_,fun h=>absurd h (by simpa using e3)⟩
    rw [hnone fun q x hx hxk => ?_]
    ·simpa using e3
    ·have:=hno q x hx hxk
     have hq:q=i.toNat:=by omega
     subst hq
     rw [hy] at hx; cases hx; exact hk hxk
  ·have e2:decide (i < (xs.length:Int))=false:=by simpa using hl
   simp only [e2,if_false,Option.map_some,Bool.false_eq_true]
   refine z13 ?_
   simp only [rd]
   refine ⟨?_,fun h=>by cases h⟩
   rw [hnone fun q x hx hxk => ?_]
   have:=hno q x hx hxk
   have:=z9l hx
   omega
end
end Go.Proofs.YthmmalklamiefaaGreatDoor
