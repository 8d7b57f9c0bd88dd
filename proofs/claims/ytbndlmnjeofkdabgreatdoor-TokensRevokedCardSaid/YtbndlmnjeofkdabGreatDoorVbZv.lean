/- Plain: the law ScopesCover is true for every list of numbers. -/
import Derived.Test.YtbndlmnjeofkdabGreatDoorMc
import Derived.Test.YtbndlmnjeofkdabGreatDoorZvm
namespace Go.Proofs.YtbndlmnjeofkdabGreatDoor
set_option linter.unusedVariables false
set_option maxRecDepth 20000
section
variable {α β σ ρ:Type}
def Ok (o:Option α) (Q:α→Prop):Prop:=∃ x,o=some x∧Q x
variable {o a b:Option α} {Q Q':α→Prop}
theorem yd {x:α} (h:Q x):Ok (some x) Q:=⟨x,rfl,h⟩
theorem zz {f:α→Option β} {R:β→Prop} (h:Ok o Q) (k:∀ x,Q x→Ok (f x) R):Ok (o.bind f) R:=by
 obtain ⟨x,rfl,hx⟩:=h
 exact k x hx
theorem qo {c:Prop} [Decidable c] (h1:c→Ok a Q) (h2:¬ c→Ok b Q):Ok (if c then a else b) Q:=by
 by_cases h:c
 ·rw [if_pos h]; exact h1 h
 ·rw [if_neg h]; exact h2 h
theorem ok_g {c:Prop} [Decidable c] (hc:c) (h:Ok a Q):Ok (if c then a else none) Q:=by rw [if_pos hc]; exact h
theorem z2t {x:α} (h:Ok o (· = x)):o=some x:=by obtain ⟨y,h1,h2⟩:=h; rw [h1,h2]
def rd (I:σ→Prop) (Q:ρ→Prop):σ ⊕ ρ→Prop
 | .inl s=>I s
 | .inr r=>Q r
theorem z2s {body:Nat→α→σ→Option (σ ⊕ ρ)} {fin:σ→Option ρ} {R:ρ→Prop} (I:Nat→σ→Prop):∀ (l:List α) (k:Nat) (s:σ),I k s →
  (∀ j x s,k≤j→l[j - k]?=some x→I j s→Ok (body j x s) (rd (I (j+1)) R))→(∀ s,I (k+l.length) s→Ok (fin s) R)→Ok (forL body fin k l s) R
 | [],k,s,h0,hs,hf=>hf s h0
 | x::l,k,s,h0,hs,hf=>by
  refine zz (hs k x s (Nat.le_refl _) (by simp) h0) fun q hq => ?_
  cases q with
  | inl s' =>
   refine z2s I l (k+1) s' hq (fun j y s hj hy hi=>hs j y s (by omega) ?_ hi) (fun s hi=>hf s ?_)
   ·obtain ⟨m,hm⟩:∃ m,j - k=m+1:=⟨j - k - 1,by omega⟩
    rw [hm,List.getElem?_cons_succ]
    have:j - (k+1)=m:=by omega
    rw [this] at hy; exact hy
   ·simp only [List.length_cons]
    have:k+(l.length+1)=k+1+l.length:=by omega
    rw [this]; exact hi
  | inr r=>exact ⟨r,rfl,hq⟩
theorem z5t {body:Nat→σ→Option (σ ⊕ ρ)} {fin:σ→Option ρ} {R:ρ→Prop} (I:Nat→σ→Prop):∀ (n k:Nat) (s:σ),I k s →
  (∀ j s,k≤j→j < k+n→I j s→Ok (body j s) (rd (I (j+1)) R))→(∀ s,I (k+n) s→Ok (fin s) R)→Ok (rng body fin n k s) R
 | 0,k,s,h0,hs,hf=>hf s h0
 | n+1,k,s,h0,hs,hf=>by
  refine zz (hs k s (Nat.le_refl _) (by omega) h0) fun q hq => ?_
  cases q with
  | inl s'=>exact z5t I n (k+1) s' hq (fun j s hj hy hi=>hs j s (by omega) (by omega) hi) (fun s hi=>hf s (by rw [show k+(n+1)=k+1+n by omega]; exact hi))
  | inr r=>exact ⟨r,rfl,hq⟩
theorem z2r {body:σ→Option (σ ⊕ ρ)} {R:ρ→Prop} (I:σ→Prop) (μ:σ→Nat) (step:∀ s,I s→Ok (body s) (rd (fun s'=>I s'∧μ s' < μ s) R)) (s:σ) (h:I s):Ok (iter body s) R:=by
 have key:∀ n s,μ s < n→I s→Ok (iter body s) R:=by
  intro n
  induction n with
  | zero=>intro s h; omega
  | succ n ih =>
   intro s hn hi
   rw [y3k]
   refine zz (step s hi) fun q hq => ?_
   cases q with
   | inl s'=>exact ih s' (by have:=hq.2; omega) hq.1
   | inr r=>exact ⟨r,rfl,hq⟩
 exact key _ s (Nat.lt_succ_self _) h
end

section
variable {α ρ:Type}
def allI (p:Nat→α→Bool):Nat→List α→Bool
 | _,[]=>true
 | k,x::l=>p k x && allI p (k+1) l
theorem js {body:Nat→α→Unit→Option (Unit ⊕ ρ)} {fin:Unit→Option ρ} {p:Nat→α→Bool} {e r0:ρ} (hf:fin ()=some e):∀ (l:List α) (k:Nat),(∀ j x,k≤j→l[j - k]?=some x→body j x ()=if p j x then some (.inl ()) else some (.inr r0))→forL body fin k l ()=some (if allI p k l then e else r0)
 | [],k,h=>by simp only [forL,allI,if_true]; exact hf
 | x::l,k,h=>by
  have h1:=h k x (Nat.le_refl _) (by simp)
  show (body k x ()).bind _=_
  rw [h1]
  cases hp:p k x
  ·simp [allI,hp,after]
  ·simp only [allI,hp,Bool.true_and,if_true,Option.bind_some,after]
   refine js hf l (k+1) fun j y hj hy=>h j y (by omega) ?_
   obtain ⟨m,hm⟩:∃ m,j - k=m+1:=⟨j - k - 1,by omega⟩
   rw [hm,List.getElem?_cons_succ]
   have:j - (k+1)=m:=by omega
   rw [this] at hy; exact hy
def feI (e:Nat→α→Int):Nat→List α→Int
 | _,[]=>0
 | k,x::l=>if e k x≠0 then e k x else feI e (k+1) l
theorem z61 {body:Nat→α→Unit→Option (Unit ⊕ Int)} {fin:Unit→Option Int} {e:Nat→α→Int} (hf:fin ()=some 0):∀ (l:List α) (k:Nat),(∀ j x,k≤j→l[j - k]?=some x→body j x ()=if e j x≠0 then some (.inr (e j x)) else some (.inl ()))→forL body fin k l ()=some (feI e k l)
 | [],k,h=>by simp only [forL,feI]; exact hf
 | x::l,k,h=>by
  have h1:=h k x (Nat.le_refl _) (by simp)
  show (body k x ()).bind _=_
  rw [h1]
  by_cases hp:e k x≠0
  ·simp [feI,hp,after]
  ·simp only [feI,hp,if_false,Option.bind_some,after]
   refine z61 hf l (k+1) fun j y hj hy=>h j y (by omega) ?_
   obtain ⟨m,hm⟩:∃ m,j - k=m+1:=⟨j - k - 1,by omega⟩
   rw [hm,List.getElem?_cons_succ]
   have:j - (k+1)=m:=by omega
   rw [this] at hy; exact hy
end

def leB (a b:Bs):Bool:=Op.bytesLess a b || a == b
def outP (n lo hi:Int):Bool:=decide (n < lo) || decide (hi < n)
theorem y1a (n lo hi:Int):outP n lo hi = !(decide (lo≤n) && decide (n≤hi)):=by
 unfold outP
 by_cases h1:n < lo
 ·have:¬ lo≤n:=by omega
  simp [h1,this]
 ·have h1':lo≤n:=by omega
  by_cases h2:hi < n
  ·have:¬ n≤hi:=by omega
   simp [h1',h2,this]
  ·have:n≤hi:=by omega
   simp [h1,h1',h2,this]
theorem z8j {n:Int} (h:0≤n∧n≤18446744073709551615):IntKind.wrap .u64 n=n:=by
 unfold IntKind.wrap
 simp [IntKind.bits,IntKind.signed]
 omega
theorem z6x {m:Int} (h:0≤m∧m≤1000000000):IntKind.wrap .i64 (shr_ .u64 (IntKind.wrap .u64 (wr m)) 1)=m / 2:=by
 rw [qi (n:=m) (by omega),z8j (by omega)]
 have e1:shr_ .u64 m 1=m / 2:=by
  show m.fdiv (2 ^ (min (1:Int).toNat IntKind.u64.bits))=_
  have:min (1:Int).toNat IntKind.u64.bits=1:=by decide
  rw [this]
  rw [Int.fdiv_eq_ediv_of_nonneg _ (by decide)]
  rfl
 rw [e1]
 exact qi (by omega)

theorem y1v (a b:Bs) (h:leB a b=false):cmpL b a < 0:=by
 unfold leB at h
 rw [z59] at h
 simp at h
 have h1:=z7d a b
 have h2:=Wh a b
 have h3:=(vt a b)
 have:cmpL a b≠0:=fun h0=>h.2 (h3.1 h0)
 omega

section
variable {α β:Type}
theorem z3y (q:α→Bool):∀ (l:List α) (k:Nat),allI (fun _ x=>q x) k l=l.all q
 | [],k=>rfl
 | x::l,k=>by simp only [allI,List.all_cons,z3y q l (k+1)]
def gIdx (l:List α) (p:α→Option Bool):Option Int:=if l.length≤1000000000 then forL (fun (k:Nat) (x:α) (s:Unit)=>(p x).bind fun r=>if r then (some (.inr (k:Int))) else (some (.inl ()))) (fun _=>some (-1)) 0 l () else none
def fdx (q:α→Bool):Nat→List α→Int
 | _,[]=>-1
 | k,x::l=>if q x then (k:Int) else fdx q (k+1) l
theorem z3j (l:List α) {p:α→Option Bool} (q:α→Bool) (hl:l.length≤1000000000) (hp:∀ x,x∈l→p x=some (q x)):gIdx l p=some (fdx q 0 l):=by
 unfold gIdx
 rw [if_pos hl]
 have:∀ (l:List α) (k:Nat),(∀ x,x∈l→p x=some (q x))→forL (fun (k:Nat) (x:α) (s:Unit)=>(p x).bind fun r=>if r then (some (.inr (k:Int))) else (some (.inl ()))) (fun _=>some (-1)) k l ()=some (fdx q k l):=by
  intro l
  induction l with
  | nil=>intro k _; rfl
  | cons x l ih =>
   intro k hp
   have h1:=hp x (by simp)
   show Option.bind ((p x).bind _) _=_
   rw [h1]
   cases hq:q x
   ·simp only [Option.bind_some,after,fdx,hq,if_false,Bool.false_eq_true]
    exact ih (k+1) fun y hy=>hp y (List.mem_cons_of_mem _ hy)
   ·simp [after,fdx,hq]
 exact this l 0 hp
theorem Wg (q:α→Bool):∀ (l:List α) (k:Nat),(fdx q k l < 0↔l.any q=false)∧(0≤fdx q k l→(k:Int)≤fdx q k l∧∃ x,l[(fdx q k l).toNat - k]?=some x∧q x=true)
 | [],k=>⟨by simp [fdx],fun h=>by simp [fdx] at h⟩
 | x::l,k=>by
  obtain ⟨h1,h2⟩:=Wg q l (k+1)
  cases hq:q x
  ·simp only [fdx,hq,if_false,Bool.false_eq_true,List.any_cons,Bool.false_or]
   refine ⟨h1,fun h => ?_⟩
   obtain ⟨h3,y,h4,h5⟩:=h2 h
   refine ⟨by omega,y,?_,h5⟩
   have:(fdx q (k+1) l).toNat - k=((fdx q (k+1) l).toNat - (k+1))+1:=by omega
   rw [this,List.getElem?_cons_succ]; exact h4
  ·simp only [fdx,hq,if_true,List.any_cons,Bool.true_or]
   refine ⟨by simp,fun _=>⟨by omega,x,by simp,hq⟩⟩
theorem y4l (q:α→Bool) (l:List α):decide (fdx q 0 l < 0) = !l.any q:=by
 have h:=(Wg q l 0).1
 cases hq:l.any q
 ·rw [hq] at h; simpa using h
 ·rw [hq] at h; simpa using h
theorem z3m (q:α→Bool) (l:List α):decide (0≤fdx q 0 l)=l.any q:=by
 have h:=y4l q l
 cases hq:l.any q
 ·rw [hq] at h; simp at h ⊢; omega
 ·rw [hq] at h; simp at h ⊢; omega
theorem z3n (q:α→Bool) (l:List α) (h:l.any q=true):0≤fdx q 0 l∧∃ x,at? l (fdx q 0 l)=some x∧l[(fdx q 0 l).toNat]?=some x∧q x=true:=by
 have h1:=z3m q l
 rw [h] at h1
 have h2:0≤fdx q 0 l:=by simpa using h1
 obtain ⟨_,x,h3,h4⟩:=(Wg q l 0).2 h2
 have h3:l[(fdx q 0 l).toNat]?=some x:=by simpa using h3
 exact ⟨h2,x,by unfold at?; rw [if_pos h2]; exact h3,h3,h4⟩
def gCon (l:List α) (p:α→Option Bool):Option Bool:=(gIdx l p).bind fun r=>some (decide (0≤r))
theorem y38 (l:List α) {p:α→Option Bool} (q:α→Bool) (hl:l.length≤1000000000) (hp:∀ x,x∈l→p x=some (q x)):gCon l p=some (l.any q):=by
 unfold gCon
 rw [z3j l q hl hp]
 simp only [Option.bind_some,z3m]
def gEql (ne:α→α→Bool) (a b:List α):Option Bool:=if decide ((a.length:Int)≠(b.length:Int)) then some false else (if a.length≤1000000000 then forL (fun (k:Nat) (x:α) (s:Unit)=>(b[k]?).bind fun y=>if ne x y then (some (.inr false)) else (some (.inl ()))) (fun _=>some true) 0 a () else none)
theorem y37 (ne:α→α→Bool) (hne:∀ x,ne x x=false) (a:List α) (h:a.length≤1000000000):gEql ne a a=some true:=by
 unfold gEql
 rw [if_neg (by simp),if_pos h]
 rw [js (p:=fun _ _=>true) (r0:=false) (e:=true) rfl a 0 fun j x _ hj => ?_]
 ·have:∀ (l:List α) k,allI (fun (_:Nat) (_:α)=>true) k l=true:=by
   intro l; induction l with
   | nil=>intro k; rfl
   | cons x l ih=>intro k; simp [allI,ih]
  rw [this]; rfl
 ·have:a[j]?=some x:=by simpa using hj
  simp only [this,Option.bind_some,hne,Bool.false_eq_true,if_false,if_true]
noncomputable def gBin (x1:List α) (t:β) (p2:α→β→Option Int):Option (Int×Bool):=iter (fun (s:Int×Int)=>if decide (s.1 < s.2) then ((at? x1 (IntKind.wrap .i64 (shr_ .u64 (IntKind.wrap .u64 (wr (s.1+s.2))) 1))).bind fun (x7:α)=>(p2 x7 t).bind fun (r9:Int)=>if decide (r9 < 0) then (some (.inl (wr ((IntKind.wrap .i64 (shr_ .u64 (IntKind.wrap .u64 (wr (s.1+s.2))) 1))+1),s.2))) else (some (.inl (s.1,IntKind.wrap .i64 (shr_ .u64 (IntKind.wrap .u64 (wr (s.1+s.2))) 1))))) else (Option.map .inr (if decide (s.1 < (x1.length:Int)) then ((at? x1 s.1).bind fun (x15:α)=>(p2 x15 t).bind fun (r17:Int)=>some (s.1,decide (r17=0))) else (some (s.1,false))))) (0,(x1.length:Int))
def wj (f:α→Bs) (l:List α):Prop:=l.Pairwise fun x y=>cmpL (f x) (f y) < 0
theorem ud {f:α→Bs} {xs:List α} (h:wj f xs) {i j:Nat} {x y:α} (hi:xs[i]?=some x) (hj:xs[j]?=some y) (hij:i < j):cmpL (f x) (f y) < 0:=by
 obtain ⟨h1,e1⟩:=List.getElem?_eq_some_iff.1 hi
 obtain ⟨h2,e2⟩:=List.getElem?_eq_some_iff.1 hj
 have:=List.pairwise_iff_getElem.1 h i j h1 h2 hij
 rw [e1,e2] at this
 exact this
theorem y4k {f:α→Bs} {xs:List α} (h:wj f xs) {key:Bs} {i:Nat} {x:α} (hi:xs[i]?=some x) (hk:f x=key):fdx (fun y=>decide (f y=key)) 0 xs=(i:Int):=by
 have hany:(xs.any fun y=>decide (f y=key))=true:=List.any_eq_true.2 ⟨x,List.mem_of_getElem? hi,by simpa using hk⟩
 obtain ⟨h1,y,_,h2,h3⟩:=z3n _ xs hany
 have h3:f y=key:=by simpa using h3
 rcases Nat.lt_trichotomy (fdx (fun y=>decide (f y=key)) 0 xs).toNat i with hq | hq | hq
 ·have:=ud h h2 hi hq
  rw [h3,hk,(vt key key).2 rfl] at this; omega
 ·omega
 ·have:=ud h hi h2 hq
  rw [h3,hk,(vt key key).2 rfl] at this; omega
theorem y4a (f:α→Bs) (xs:List α) (key:Bs) {p:α→Bs→Option Int} (h:xs.length≤100000000) (hp:∀ x,x∈xs→p x key=some (cmpL (f x) key)) (hs:wj f xs) :
  Ok (gBin xs key p) fun r=>r.2=(xs.any fun x=>decide (f x=key))∧(r.2=true→r.1=fdx (fun x=>decide (f x=key)) 0 xs):=by
 unfold gBin
 refine z2r (fun s:Int×Int=>0≤s.1∧s.1≤s.2∧s.2≤(xs.length:Int)∧(∀ (i:Nat) x,(i:Int) < s.1→xs[i]?=some x→cmpL (f x) key < 0)∧(∀ (i:Nat) x,s.2≤(i:Int)→xs[i]?=some x→¬ cmpL (f x) key < 0)) (fun s=>(s.2 - s.1).toNat) ?_ _ ⟨by simp,by simp,by simp,fun i x hi=>by simp at hi; omega,fun i x hi hx=>by have:=wg hx; simp at hi; omega⟩
 rintro ⟨i,j⟩ ⟨h1,h2,h3,h4,h5⟩
 simp only at h1 h2 h3 h4 h5
 refine qo (fun hc => ?_) (fun hc => ?_)
 ·have hc:i < j:=by simpa using hc
  simp only
  rw [z6x (m:=i+j) (by omega)]
  have hm:0≤(i+j) / 2∧i≤(i+j) / 2∧(i+j) / 2 < j:=by omega
  obtain ⟨x,hx⟩:∃ x,xs[((i+j) / 2).toNat]?=some x:=⟨_,List.getElem?_eq_getElem (by omega)⟩
  have e1:at? xs ((i+j) / 2)=some x:=by unfold at?; rw [if_pos hm.1]; exact hx
  rw [e1]
  simp only [Option.bind_some,hp x (List.mem_of_getElem? hx)]
  refine qo (fun hq=>yd ?_) (fun hq=>yd ?_)
  ·have hq:cmpL (f x) key < 0:=by simpa using hq
   simp only [rd]
   rw [qi (by omega)]
   refine ⟨⟨by omega,by omega,h3,fun q y hq' hy => ?_,h5⟩,by omega⟩
   by_cases he:q=((i+j) / 2).toNat
   ·subst he; rw [hx] at hy; cases hy; exact hq
   ·exact ku _ _ _ (ud hs hy hx (by omega)) hq
  ·have hq:¬ cmpL (f x) key < 0:=by simpa using hq
   simp only [rd]
   refine ⟨⟨h1,by omega,by omega,h4,fun q y hq' hy => ?_⟩,by omega⟩
   by_cases he:q=((i+j) / 2).toNat
   ·subst he; rw [hx] at hy; cases hy; exact hq
   ·intro hlt
    exact hq (ku _ _ _ (ud hs hx hy (by omega)) hlt)
 ·have hij:i=j:=by simp at hc; omega
  subst hij
  have hno:∀ (q:Nat) x,xs[q]?=some x→f x=key→(q:Int)=i:=by
   intro q x hx hk
   by_cases h6:(q:Int) < i
   ·have:=h4 q x h6 hx; rw [hk,(vt key key).2 rfl] at this; omega
   ·by_cases h7:(q:Int)=i
    ·exact h7
    ·exfalso
     obtain ⟨y,hy⟩:∃ y,xs[i.toNat]?=some y:=⟨_,List.getElem?_eq_getElem (by have:=wg hx; omega)⟩
     have:=ud hs hy hx (by omega)
     rw [hk] at this
     exact h5 i.toNat y (by omega) hy this
  have hany:∀ (q:Nat) x,xs[q]?=some x→f x=key→(xs.any fun x=>decide (f x=key))=true:=fun q x hx hk=>List.any_eq_true.2 ⟨x,List.mem_of_getElem? hx,by simpa using hk⟩
  have hnone:(∀ (q:Nat) x,xs[q]?=some x→f x≠key)→(xs.any fun x=>decide (f x=key))=false:=fun h=>by
   rw [List.any_eq_false]
   intro x hx
   obtain ⟨q,hq,rfl⟩:=List.getElem_of_mem hx
   simpa using h q _ (List.getElem?_eq_getElem hq)
  by_cases hl:i < (xs.length:Int)
  ·obtain ⟨y,hy⟩:∃ y,xs[i.toNat]?=some y:=⟨_,List.getElem?_eq_getElem (by omega)⟩
   have e1:at? xs i=some y:=by unfold at?; rw [if_pos h1]; exact hy
   have e2:decide (i < (xs.length:Int))=true:=by simpa using hl
   simp only [e2,if_true,e1,Option.bind_some,hp y (List.mem_of_getElem? hy),Option.map_some]
   refine yd ?_
   simp only [rd]
   by_cases hk:f y=key
   ·have e3:cmpL (f y) key=0:=(vt _ _).2 hk
    refine ⟨?_,fun _ => ?_⟩
    ·rw [e3,hany _ y hy hk]; rfl
    ·rw [y4k hs hy hk]; omega
   ·have e3:¬ cmpL (f y) key=0:=fun h=>hk ((vt _ _).1 h)
    refine ⟨?_,fun h=>absurd h (by simpa using e3)⟩
    rw [hnone fun q x hx hxk => ?_]
    ·simpa using e3
    ·have:=hno q x hx hxk
     have hq:q=i.toNat:=by omega
     subst hq
     rw [hy] at hx; cases hx; exact hk hxk
  ·have e2:decide (i < (xs.length:Int))=false:=by simpa using hl
   simp only [e2,if_false,Option.map_some,Bool.false_eq_true]
   refine yd ?_
   simp only [rd]
   refine ⟨?_,fun h=>by cases h⟩
   rw [hnone fun q x hx hxk => ?_]
   have:=hno q x hx hxk
   have:=wg hx
   omega
end
def SB (n:Int) (s:zm):Prop:=0≤s.at_∧s.at_≤n
theorem SB.mono {n m:Int} {s:zm} (h:SB n s) (hm:n≤m):SB m s:=⟨h.1,by have:=h.2; omega⟩

theorem z3s (x n:Int) (hn:n≤1000000000000000):Ok (um x n) fun r=>0≤r∧(1≤n→r < n)∧(n < 1→r=0):=by
 unfold um Zn
 refine qo (fun h=>yd ?_) (fun h=>ok_g ?_ (qo (fun h2=>yd ?_) (fun h2=>yd ?_)))
 ·simp at h; omega
 ·simp at h; omega
 ·simp at h h2
  have h3:=Int.tmod_lt_of_pos x (show 0 < n by omega)
  have h4:-n < x.tmod n:=by
   have:=Int.lt_tmod_of_pos x (show 0 < n by omega)
   omega
  rw [qi (by omega)]
  omega
 ·simp at h h2
  have h3:=Int.tmod_lt_of_pos x (show 0 < n by omega)
  omega
theorem uf {k:Int} {s:zm} (h:SB k s) (hk:k≤1000000000) (n:Int) (hn:n≤1000000000000000) :
  Ok (vp s n) fun r=>(0≤r.1∧(1≤n→r.1 < n)∧(n < 1→r.1=0))∧SB (k+1) r.2:=by
 obtain ⟨h1,h2⟩:=h
 have e1:wr (s.at_+1)=s.at_+1:=qi (by omega)
 have e2:wr (s.at_+1 - 1)=s.at_:=by rw [qi (by omega)]; omega
 unfold vp
 simp only [e1,e2]
 refine qo (fun h => ?_) (fun h => ?_)
 ·exact zz (z3s _ n hn) fun r hr=>yd ⟨hr,by simp only [SB]; omega⟩
 ·simp at h
  have hL:0 < s.L.length:=by cases hq:s.L with | nil=>exact absurd hq h | cons _ _=>simp
  refine ok_g (by omega) (ok_g ⟨by omega,by omega⟩ ?_)
  have hi:0≤s.at_.tmod (s.L.length:Int):=Int.tmod_nonneg _ h1
  have hi2:=Int.tmod_lt_of_pos s.at_ (show (0:Int) < s.L.length by omega)
  have hat:Ok (at? s.L (s.at_.tmod (s.L.length:Int))) fun _=>True:=by
   unfold at?
   rw [if_pos hi,List.getElem?_eq_getElem (by omega)]
   exact ⟨_,rfl,trivial⟩
  refine zz hat fun x _=>zz (z3s _ _ (by omega)) fun r _=>zz (z3s _ n hn) fun r hr=>yd ⟨hr,by simp only [SB]; omega⟩
section
variable {k:Int} {s:zm} (h:SB k s) (hk:k≤100000000)
include h hk
theorem xd (n:Int) (hn:n≤1000000000000000):Ok (vq s n) fun r=>SB (k+1) r.2:=by
 unfold vq
 exact zz (uf h (by omega) n hn) fun r hr=>yd hr.2
theorem xw (l:List Int) (hl:l≠[]∧l.length≤1000):Ok (jc s l) fun r=>r.1∈l∧SB (k+1) r.2:=by
 unfold jc
 have hp:0 < l.length:=by cases hq:l with | nil=>exact absurd hq hl.1 | cons _ _=>simp
 refine zz (uf h (by omega) _ (by omega)) fun r hr => ?_
 have h1:=hr.1.2.1 (by omega)
 have hat:Ok (at? l r.1) fun x=>x∈l:=by
  unfold at?
  rw [if_pos hr.1.1,List.getElem?_eq_getElem (by omega)]
  exact ⟨_,rfl,List.getElem_mem _⟩
 exact zz hat fun x hx=>yd ⟨hx,hr.2⟩
theorem wt (l:List Bs) (hl:l≠[]∧l.length≤1000):Ok (wb s l) fun r=>r.1∈l∧SB (k+1) r.2:=by
 unfold wb
 have hp:0 < l.length:=by cases hq:l with | nil=>exact absurd hq hl.1 | cons _ _=>simp
 refine zz (uf h (by omega) _ (by omega)) fun r hr => ?_
 have h1:=hr.1.2.1 (by omega)
 have hat:Ok (at? l r.1) fun x=>x∈l:=by
  unfold at?
  rw [if_pos hr.1.1,List.getElem?_eq_getElem (by omega)]
  exact ⟨_,rfl,List.getElem_mem _⟩
 exact zz hat fun x hx=>yd ⟨hx,hr.2⟩
theorem z5p (lo hi:Int) (hr:-1000000000000≤lo∧lo≤hi∧hi≤1000000000000):Ok (Zf s lo hi) fun r=>(lo≤r.1∧r.1≤hi)∧SB (k+1) r.2:=by
 unfold Zf
 refine qo (fun h=>absurd h (by simp; omega)) (fun _ => ?_)
 have e1:wr (wr (hi - lo)+1)=hi - lo+1:=by rw [qi (n:=hi - lo) (by omega),qi (by omega)]
 rw [e1]
 refine zz (uf h (by omega) _ (by omega)) fun r hr2=>yd ?_
 have h1:=hr2.1.2.1 (by omega)
 have h2:=hr2.1.1
 simp only
 rw [qi (by omega)]
 exact ⟨by omega,hr2.2⟩
end
theorem z0q {k:Int} {s:zm} (h:SB k s) (hk:k≤10000000) (lo hi:Int) (hr:-1000000000000≤lo∧lo≤hi∧hi≤1000000000000):Ok (kr s lo hi) fun r=>(-2000000000000≤r.1∧r.1≤2000000000000)∧SB (k+2) r.2:=by
 unfold kr
 refine zz (xd h (by omega) 12 (by omega)) fun r hr2=>qo (fun _ => ?_) (fun _ => ?_)
 ·refine zz (xw hr2 (by omega) _ ⟨by simp,by simp⟩) fun r3 hr3=>yd ⟨?_,hr3.2.mono (by omega)⟩
  have hm:=hr3.1
  rw [qi (n:=lo - 1) (by omega),qi (n:=hi+1) (by omega)] at hm
  simp only [List.mem_cons,List.not_mem_nil,or_false] at hm
  simp only
  omega
 ·exact zz (z5p hr2 (by omega) lo hi hr) fun r3 hr3=>yd ⟨by simp only; omega,hr3.2.mono (by omega)⟩
def kc (i:Nat) (c:UInt8):Bool:=((decide (97≤(c.toNat:Int))) && (decide ((c.toNat:Int)≤122))) || ((decide (0 < (i:Int))) && ((((decide (48≤(c.toNat:Int))) && (decide ((c.toNat:Int)≤57))) || (decide ((c.toNat:Int)=45))) || (decide ((c.toNat:Int)=95))))
def keyP (s:Bs):Bool:=allI kc 0 s && (decide (s≠[]) && decide ((s.length:Int)≤40))
theorem uw (s:Bs) (h:s.length≤1000000000):vn s=some (keyP s):=by
 unfold vn
 rw [if_pos h,js (p:=kc) (r0:=false) (e:=(decide (s≠[])) && (decide ((s.length:Int)≤40))) rfl s 0]
 ·congr 1
  unfold keyP
  cases allI kc 0 s <;> simp
 ·intro j x _ _
  unfold z02
  show (if (!kc j x)=true then _ else _)=_
  cases kc j x <;> simp
def Yf:Bs:=[97,98,99,100,101,102,103,104,105,106,107,108,109,110,111,112,113,114,115,116,117,118,119,120,121,122]
def Qx:Bs:=[97,98,99,100,101,102,103,104,105,106,107,108,109,110,111,112,113,114,115,116,117,118,119,120,121,122,48,49,50,51,52,53,54,55,56,57,45,95]
theorem z4c (p:UInt8→Bool) (h:((List.range 256).all fun n=>p (UInt8.ofNat n))=true) (c:UInt8):p c=true:=by
 have:=List.all_eq_true.1 h c.toNat (by simp; exact c.toNat_lt)
 simpa using this
theorem z98 (c:UInt8):Yf.contains c=kc 0 c:=by
 have:=z4c (fun c=>Yf.contains c == kc 0 c) (by decide +kernel) c
 simpa using this
theorem y18 (c:UInt8):Qx.contains c=kc 1 c:=by
 have:=z4c (fun c=>Qx.contains c == kc 1 c) (by decide +kernel) c
 simpa using this
theorem y2a (k:Nat) (c:UInt8):kc (k+1) c=kc 1 c:=by
 unfold kc
 have:decide (0 < ((k+1:Nat):Int))=decide (0 < ((1:Nat):Int)):=by
  rw [decide_eq_true (by omega),decide_eq_true (by omega)]
 rw [this]
theorem y2b (c:UInt8) (h:kc 0 c=true):kc 1 c=true:=by unfold kc at *; simp at h ⊢; exact .inl h
theorem y5c (s:Bs):∀ k,allI kc (k+1) s=s.all fun c=>kc 1 c:=by
 induction s with
 | nil=>intro k; rfl
 | cons c s ih=>intro k; simp only [allI,List.all_cons,y2a,ih]
theorem z5s (s so:Bs) (h:s.length≤1000000000):Zb s so=some (s.all fun c=>so.contains c):=by
 unfold Zb
 rw [if_pos h,js (p:=fun _ c=>so.contains c) (r0:=false) (e:=true) rfl s 0]
 ·congr 1
  have:∀ (l:Bs) k,allI (fun _ c=>so.contains c) k l=l.all fun c=>so.contains c:=by
   intro l
   induction l with
   | nil=>intro k; rfl
   | cons c l ih=>intro k; simp only [allI,List.all_cons,ih]
  rw [this]
  cases (s.all fun c=>so.contains c) <;> rfl
 ·intro j x _ _
  unfold z05 z2v
  simp only [Option.bind_some]
  have e1:((x.toNat:Int)).toNat.toUInt8=x:=by simp
  rw [e1,Lib.contains_iff_indexByte]
  by_cases hq:Lib.indexByte so x < 0
  ·have:¬ 0≤Lib.indexByte so x:=by omega
   simp [hq,this]
  ·have:0≤Lib.indexByte so x:=by omega
   simp [hq,this]
theorem uq (s:Bs) (h:s.length≤1000000000):vo s=some (keyP s):=by
 unfold vo km uy
 simp only [Option.bind_some]
 cases s with
 | nil=>simp [keyP]
 | cons c r =>
  by_cases h1:((c::r).length:Int)≤40
  ·have h2:(decide ((1:Int)≤((c::r).length:Int)) && decide (((c::r).length:Int)≤40))=true:=by simp only [List.length_cons] at h1 ⊢; simp; omega
   rw [if_pos h2]
   have h3:sub? (c::r) 0 1=some [c]:=by
    unfold sub?
    rw [if_pos (by simp only [List.length_cons]; omega)]
    rfl
   rw [h3]
   have e1:=z5s [c] Yf (by simp)
   have e2:=z5s (c::r) Qx h
   simp only [Yf,Qx] at e1 e2
   simp only [Option.bind_some,e1,e2]
   have e3:(List.all [c] fun c=>List.contains [97,98,99,100,101,102,103,104,105,106,107,108,109,110,111,112,113,114,115,116,117,118,119,120,121,122] c)=kc 0 c:=by
    have:=z98 c
    simp only [Yf] at this
    simp only [List.all_cons,List.all_nil,Bool.and_true,this]
   have e4:(List.all (c::r) fun c=>List.contains [97,98,99,100,101,102,103,104,105,106,107,108,109,110,111,112,113,114,115,116,117,118,119,120,121,122,48,49,50,51,52,53,54,55,56,57,45,95] c)=(kc 1 c && r.all fun c=>kc 1 c):=by
    have:=y18
    simp only [Qx] at this
    simp only [List.all_cons,this]
   rw [e3,e4]
   have e5:keyP (c::r)=(kc 0 c && r.all fun c=>kc 1 c):=by
    unfold keyP
    simp only [allI,y5c,Nat.zero_add]
    have:decide (((c::r).length:Int)≤40)=true:=by simpa using h1
    rw [this]; simp
   rw [e5]
   cases hk:kc 0 c
   ·simp
   ·rw [y2b c hk]; simp
  ·have h2:(decide ((1:Int)≤((c::r).length:Int)) && decide (((c::r).length:Int)≤40))=false:=by
    have:decide (((c::r).length:Int)≤40)=false:=by simpa using h1
    rw [this]; simp
   rw [h2]
   have:decide (((c::r).length:Int)≤40)=false:=by simpa using h1
   have e5:keyP (c::r)=false:=by unfold keyP; rw [this]; simp
   rw [e5]; rfl

theorem y1u {a:Bs} (h:keyP a=true):leB a []=false:=by
 cases a with
 | nil=>simp [keyP] at h
 | cons c r=>simp [leB,Op.bytesLess]
def momP (n:Int):Bool:=decide (0≤n) && decide (n≤345686399999)
theorem y1e (n:Int):z0w n=some (momP n):=rfl
theorem y3m (n:Int):Qj n=some (momP n):=by
 unfold Qj momP
 congr 2
 by_cases h:n < 345686400000
 ·have:n≤345686399999:=by omega
  simp [h,this]
 ·have:¬ n≤345686399999:=by omega
  simp [h,this]
theorem y3y (n lo hi:Int):km n lo hi=some (!outP n lo hi):=by
 unfold km
 rw [y1a,Bool.not_not]
def spl (c:UInt8):Bs→List Bs
 | []=>[[]]
 | b::l=>if b=c then []::spl c l else match spl c l with
  | p::ps=>(b::p)::ps
  | []=>[[b]]
theorem y3x (c b:UInt8) (l:Bs):Lib.index (b::l) [c]=if b=c then 0 else if Lib.index l [c] == -1 then -1 else Lib.index l [c]+1:=by
 rw [Lib.index]
 by_cases h:b=c
 ·subst h; simp
 ·have hb:(c == b)=false:=by simpa using fun e:c=b=>h e.symm
  have:List.isPrefixOf [c] (b::l)=false:=by simp [List.isPrefixOf,hb]
  rw [this,if_neg h]; rfl
theorem z41 (c:UInt8):∀ s:Bs,Lib.splitK [c] 0 (Lib.count s [c]) s=spl c s
 | []=>by
  rw [Lib.count_miss (by rfl)]
  rfl
 | b::l=>by
  have ih:=z41 c l
  have hi:=y3x c b l
  by_cases h:b=c
  ·rw [if_pos h] at hi
   rw [Lib.count_hit (i:=0) (by simp) (by simpa using hi),Nat.add_comm,Lib.splitK,if_neg (by rw [hi]; decide),hi,spl,if_pos h]
   simp only [Int.toNat_zero,Nat.zero_add,List.length_cons,List.length_nil,Nat.add_zero,List.take_zero,List.drop_succ_cons,List.drop_zero,ih]
  ·rw [if_neg h] at hi
   have hs:spl c (b::l)=match spl c l with | p::ps=>(b::p)::ps | []=>[[b]]:=by rw [spl,if_neg h]
   have hge:=Lib.index_ge l [c]
   by_cases h1:Lib.index l [c]=-1
   ·rw [if_pos (by simpa using h1)] at hi
    rw [Lib.count_miss h1] at ih
    have ih:[l]=spl c l:=ih
    rw [Lib.count_miss hi,hs,← ih]
    rfl
   ·obtain ⟨i,h2⟩:∃ i:Nat,Lib.index l [c]=i:=⟨(Lib.index l [c]).toNat,by omega⟩
    rw [if_neg (by simpa using h1),h2] at hi
    have hi':Lib.index (b::l) [c]=((i+1:Nat):Int):=by rw [hi]; omega
    rw [Lib.count_hit (i:=i) (by simp) h2,Nat.add_comm,Lib.splitK,if_neg (by rw [h2]; simp),h2] at ih
    rw [Lib.count_hit (i:=i+1) (by simp) hi',Nat.add_comm,Lib.splitK,if_neg (by rw [hi']; simp; omega),hi',hs,← ih]
    simp
theorem z42 (s:Bs) (c:UInt8):jb s [c]=spl c s:=by
 unfold jb
 rw [Lib.splitB_data]
 exact z41 c s
theorem z17 (c:UInt8):∀ s:Bs,(spl c s).length≤s.length+1
 | []=>by simp [spl]
 | b::l=>by
  have ih:=z17 c l
  unfold spl
  split
  ·simp only [List.length_cons]; omega
  ·split
   ·rename_i p ps h; rw [h] at ih; simp only [List.length_cons] at ih ⊢; omega
   ·simp
theorem z16 (c:UInt8):∀ (s:Bs) (p:Bs),p∈spl c s→p.length≤s.length
 | [],p,h=>by simp [spl] at h; subst h; simp
 | b::l,p,h=>by
  have ih:=z16 c l
  unfold spl at h
  split at h
  ·rcases List.mem_cons.1 h with rfl | h
   ·simp
   ·have:=ih p h; simp only [List.length_cons]; omega
  ·split at h
   ·rename_i q ps hq
    rw [hq] at ih
    rcases List.mem_cons.1 h with rfl | h
    ·have:=ih q (by simp); simp only [List.length_cons]; omega
    ·have:=ih p (List.mem_cons_of_mem _ h); simp only [List.length_cons]; omega
   ·simp at h; subst h; simp
theorem z43 (c:UInt8) (t:Bs) (ht:c ∉ t):∀ s:Bs,∃ ps p,spl c (s++t)=ps++[p++t]
 | []=>by
  refine ⟨[],[],?_⟩
  have:∀ t:Bs,c ∉ t→spl c t=[t]:=by
   intro t
   induction t with
   | nil=>intro _; rfl
   | cons b l ih =>
    intro h
    simp only [List.mem_cons,not_or] at h
    rw [spl,if_neg (fun e=>h.1 e.symm),ih h.2]
  simpa using this t ht
 | b::l=>by
  obtain ⟨ps,p,h⟩:=z43 c t ht l
  rw [List.cons_append,spl]
  split
  ·exact ⟨[]::ps,p,by rw [h]; rfl⟩
  ·rw [h]
   cases ps with
   | nil=>exact ⟨[],b::p,rfl⟩
   | cons q qs=>exact ⟨(b::q)::qs,p,rfl⟩

abbrev xv (l:List Bs):List Bs:=l.mergeSort fun x y=>decide (x≤y)
theorem z97 (l:List Bs):(xv l).Pairwise fun x y=>x≤y:=by
 have h:=List.pairwise_mergeSort (le:=fun x y:Bs=>decide (x≤y)) (fun a b c h k=>by
  have h:=of_decide_eq_true h
  have k:=of_decide_eq_true k
  exact decide_eq_true (List.le_trans h k)) (fun a b=>by
  rcases List.le_total a b with h | h <;> simp [h]) l
 exact h.imp fun h=>of_decide_eq_true h
theorem z95 (l:List Bs) (x:Bs):x∈xv l↔x∈l:=List.mem_mergeSort
theorem z96 (l:List Bs):(xv l).length=l.length:=by simp [xv]
abbrev Rise (l:List Bs):Prop:=l.Pairwise fun x y=>x < y
theorem y0x {l1 l2:List Bs} (h1:Rise l1) (h2:Rise l2) (h:∀ x,x∈l1↔x∈l2):l1=l2:=by
 have n1:l1.Nodup:=h1.imp fun h e=>by subst e; exact List.lt_irrefl _ h
 have n2:l2.Nodup:=h2.imp fun h e=>by subst e; exact List.lt_irrefl _ h
 refine List.Perm.eq_of_pairwise (le:=fun x y=>x < y) (fun a b _ _ hab hba=>absurd hba (List.lt_asymm hab)) h1 h2 ?_
 rw [List.perm_ext_iff_of_nodup n1 n2]
 exact h

theorem z6y {α:Type} [Inhabited α] (l:List α) (x:α):(l++[x]).toArray[l.length]! = x:=by simp
section
variable {α:Type} [Inhabited α] [DecidableEq α]
theorem z7b (d d':Array α):∀ m,(∀ j,j < m→d[j]! = d'[j]!)→Lib.compactUpTo d m=Lib.compactUpTo d' m
 | 0,_=>rfl
 | m+1,h=>by
  rw [Lib.compactUpTo_succ,Lib.compactUpTo_succ,z7b d d' m fun j hj=>h j (by omega)]
  have e1:=h m (by omega)
  have e2:d[m - 1]! = d'[m - 1]! := h (m - 1) (by omega)
  unfold Lib.keeps
  rw [e1,e2]
theorem z68 (l:List α) (x:α):Lib.compact (l++[x])=Lib.compact l++(if l.getLast?=some x then [] else [x]):=by
 unfold Lib.compact
 rw [List.length_append,List.length_singleton,Lib.compactUpTo_succ]
 congr 1
 ·refine z7b _ _ _ fun j hj => ?_
  rw [getElem!_pos _ _ (by simp; omega),getElem!_pos _ _ (by simpa using hj)]
  simp [List.getElem_append_left hj]
 ·rw [z6y]
  unfold Lib.keeps
  rw [z6y]
  rcases List.eq_nil_or_concat l with rfl | ⟨l',y,rfl⟩
  ·simp
  ·have e1:(l'++[y]++[x]).toArray[(l'++[y]).length - 1]! = y:=by
    have:(l'++[y]).length - 1=l'.length:=by simp
    rw [this,getElem!_pos _ _ (by simp <;> omega)]
    simp
   rw [List.concat_eq_append] at *
   rw [e1]
   have e2:(l'++[y]).length≠0:=by simp
   by_cases h:y=x
   ·subst h; simp
   ·have h':¬ x=y:=fun e=>h e.symm
    simp [h,h']
end
theorem z45 {α:Type} {P:List α→Prop} (h0:P []) (h1:∀ l x,P l→P (l++[x])) (l:List α):P l:=by
 have:∀ n (l:List α),l.length=n→P l:=by
  intro n
  induction n with
  | zero=>intro l h; rw [List.eq_nil_of_length_eq_zero h]; exact h0
  | succ n ih =>
   intro l h
   rcases List.eq_nil_or_concat l with rfl | ⟨l',x,rfl⟩
   ·simp at h
   ·rw [List.concat_eq_append]
    exact h1 _ _ (ih l' (by simpa using h))
 exact this _ l rfl
theorem z69 {α:Type} [Inhabited α] [DecidableEq α] (l:List α) (x:α):x∈Lib.compact l↔x∈l:=by
 induction l using z45 with
 | h0=>simp [Lib.compact,Lib.compactUpTo]
 | h1 l y ih =>
  rw [z68,List.mem_append,List.mem_append,ih]
  split
  ·rename_i h
   have:y∈l:=List.mem_of_getLast? h
   simp
   rintro rfl
   exact this
  ·rfl
theorem y4w (l:List Bs) (h:l.Pairwise fun x y=>x≤y):Rise (Lib.compact l):=by
 induction l using z45 with
 | h0=>simp [Lib.compact,Lib.compactUpTo]
 | h1 l y ih =>
  obtain ⟨h1,_,h3⟩:=List.pairwise_append.1 h
  rw [z68]
  split
  ·rw [List.append_nil]; exact ih h1
  ·rename_i hne
   refine List.pairwise_append.2 ⟨ih h1,by simp,fun a ha b hb => ?_⟩
   simp only [List.mem_singleton] at hb
   subst hb
   have ha:=(z69 l a).1 ha
   refine Std.lt_of_le_of_ne (h3 a ha _ (by simp)) ?_
   rintro rfl
   -- a is the greatest of l,so it is the last
   obtain ⟨l',z,rfl⟩:∃ l' z,l=l'++[z]:=by
    rcases List.eq_nil_or_concat l with rfl | ⟨l',z,rfl⟩
    ·cases ha
    ·exact ⟨l',z,List.concat_eq_append⟩
   rcases List.mem_append.1 ha with ha | ha
   ·have h5:=(List.pairwise_append.1 h1).2.2 a ha z (by simp)
    have h6:=h3 z (by simp) a (by simp)
    have:=List.le_antisymm h5 h6
    subst this
    exact hne (by simp)
   ·simp only [List.mem_singleton] at ha
    subst ha
    exact hne (by simp)
def setB (l:List Bs):List Bs:=Lib.compact (xv l)
theorem z5b (l:List Bs):Rise (setB l):=y4w _ (z97 l)
theorem z0j (l:List Bs) (x:Bs):x∈setB l↔x∈l:=by unfold setB; rw [z69,z95]
theorem z5c (l:List Bs):(setB l).length≤l.length:=by
 unfold setB
 have:=z7a (xv l)
 rw [z96] at this
 exact this

noncomputable def gDel {α:Type} (z:α) (s1:List α) (p1:α→Option Bool):Option (List α):=
 (gIdx s1 p1).bind fun (r2:Int)=>if decide (r2=(-1)) then some s1 else (iter (fun (s:Int×Int×(List α))=>if decide (s.2.1 < (s.2.2.length:Int)) then ((at? s.2.2 s.2.1).bind fun (x10:α)=>(p1 x10).bind fun (r12:Bool)=>if !r12 then ((at? s.2.2 s.1).bind fun (x15:α)=>some (.inl (wr (s.1+1),wr (s.2.1+1),(s.2.2.set s.1.toNat x10)))) else some (.inl (s.1,wr (s.2.1+1),s.2.2))) else (Option.map .inr (if (0:Int)≤s.1∧s.1 < (s.2.2.length:Int) then (if (0:Int)≤s.1∧s.1≤((s.2.2.take s.1.toNat++List.replicate (s.2.2.length - s.1.toNat) z).length:Int) then (some ((s.2.2.take s.1.toNat++List.replicate (s.2.2.length - s.1.toNat) z).take s.1.toNat)) else none) else none))) (r2,wr (r2+1),s1))
theorem z63 {α:Type} (q:α→Bool):∀ (l:List α) (k:Nat),0≤fdx q k l→(l.take ((fdx q k l).toNat - k)).filter (fun x => !q x)=l.take ((fdx q k l).toNat - k)
 | [],k,h=>by simp [fdx] at h
 | x::l,k,h=>by
  cases hq:q x
  ·simp only [fdx,hq,if_false,Bool.false_eq_true] at h ⊢
   have ih:=z63 q l (k+1) h
   have h1:=(Wg q l (k+1)).2 h
   have:(fdx q (k+1) l).toNat - k=((fdx q (k+1) l).toNat - (k+1))+1:=by omega
   rw [this,List.take_succ_cons,List.filter_cons,hq]
   simp [ih]
  ·simp [fdx,hq]
theorem z6z {α:Type} (z:α) (l:List α) {p:α→Option Bool} (q:α→Bool) (hl:l.length≤1000000000) (hp:∀ x,x∈l→p x=some (q x)):gDel z l p=some (l.filter fun x => !q x):=by
 unfold gDel
 rw [z3j l q hl hp]
 simp only [Option.bind_some]
 by_cases h0:l.any q=true
 ·obtain ⟨h1,x,h2,h3,h4⟩:=z3n q l h0
  have hlt:=wg h3
  rw [if_neg (by simp; omega),qi (by omega)]
  have hb:=z63 q l 0 h1
  simp only [Nat.sub_zero] at hb
  refine z2t (z2r (fun s:Int×Int×List α=>0≤s.1∧s.1 < s.2.1∧s.2.1≤(l.length:Int)∧s.2.2.length=l.length∧s.2.2.take s.1.toNat=(l.take s.2.1.toNat).filter (fun x => !q x)∧s.2.2.drop s.2.1.toNat=l.drop s.2.1.toNat) (fun s=>(l.length - s.2.1.toNat)) ?_ _ ?_)
  ·rintro ⟨i,j,s⟩ ⟨g1,g2,g3,g4,g5,g6⟩
   simp only at g1 g2 g3 g4 g5 g6
   refine qo (fun hc => ?_) (fun hc => ?_)
   ·have hc:j < (s.length:Int):=by simpa using hc
    simp only at hc ⊢
    have hj:j.toNat < l.length:=by omega
    have e1:s[j.toNat]?=some l[j.toNat]:=by
     have:=congrArg (fun t=>t[0]?) g6
     simp only [List.getElem?_drop,Nat.add_zero,List.getElem?_eq_getElem hj] at this
     exact this
    have e2:at? s j=some l[j.toNat]:=by unfold at?; rw [if_pos (by omega)]; exact e1
    rw [e2,qi (n:=j+1) (by omega)]
    simp only [Option.bind_some,hp _ (List.getElem_mem hj)]
    have ej:(j+1).toNat=j.toNat+1:=by omega
    have etk:l.take (j.toNat+1)=l.take j.toNat++[l[j.toNat]]:=by rw [List.take_add_one,List.getElem?_eq_getElem hj]; rfl
    cases hq:q l[j.toNat]
    ·simp only [Bool.not_false,if_true]
     have e3:at? s i=some s[i.toNat]:=by unfold at?; rw [if_pos g1,List.getElem?_eq_getElem (by omega)]
     rw [e3,qi (n:=i+1) (by omega)]
     simp only [Option.bind_some]
     refine yd ?_
     have ei:(i+1).toNat=i.toNat+1:=by omega
     refine ⟨⟨by simp only; omega,by simp only; omega,by simp only; omega,by simpa using g4,?_,?_⟩,by simp only; omega⟩
     ·simp only
      rw [ei,ej,etk,List.filter_append,← g5,List.take_add_one,List.getElem?_set_self (by omega),List.take_set_of_le (Nat.le_refl _)]
      simp [hq]
     ·simp only
      rw [ej,List.drop_set_of_lt (by omega)]
      have:=congrArg (List.drop 1) g6
      simpa [List.drop_drop,Nat.add_comm] using this
    ·simp only [Bool.not_true,Bool.false_eq_true,if_false]
     refine yd ⟨⟨g1,by simp only; omega,by simp only; omega,g4,?_,?_⟩,by simp only; omega⟩
     ·simp only
      rw [ej,etk,List.filter_append,← g5]
      simp [hq]
     ·simp only
      rw [ej]
      have:=congrArg (List.drop 1) g6
      simpa [List.drop_drop,Nat.add_comm] using this
   ·have hc:¬ j < (s.length:Int):=by simpa using hc
    have hj:j.toNat=l.length:=by omega
    rw [if_pos (by simp only; omega),if_pos (by simp only [List.length_append,List.length_take,List.length_replicate]; omega)]
    refine yd ?_
    show List.take i.toNat (List.take i.toNat s++_)=_
    rw [List.take_append_of_le_length (by rw [List.length_take]; omega),List.take_take,Nat.min_self,g5,hj,List.take_length]
  ·refine ⟨h1,by simp only; omega,by simp only; omega,rfl,?_,rfl⟩
   simp only
   have e1:(fdx q 0 l+1).toNat=(fdx q 0 l).toNat+1:=by omega
   rw [e1,List.take_add_one,h3,List.filter_append,hb]
   simp [h4]
 ·have h0:l.any q=false:=by simpa using h0
  have h1:=(Wg q l 0).1.2 h0
  have h2:fdx q 0 l=-1:=by
   have:∀ (l:List α) k,fdx q k l < 0→fdx q k l=-1:=by
    intro l
    induction l with
    | nil=>intro k _; rfl
    | cons x l ih =>
     intro k h
     unfold fdx at h ⊢
     split
     ·rename_i hq; rw [if_pos hq] at h; omega
     ·rename_i hq; rw [if_neg hq] at h; exact ih _ h
   exact this l 0 h1
  rw [if_pos (by simpa using h2)]
  congr 1
  symm
  rw [List.filter_eq_self]
  intro x hx
  have:=List.any_eq_false.1 h0 x hx
  simpa using this
def scK (n:Nat) (k:Nat) (p:Bs):Bool:=keyP p || (decide (p=[42]) && decide ((k:Int)=(n:Int) - 1))
def scP (s:Bs):Bool:=allI (scK (spl 58 s).length) 0 (spl 58 s) && decide (((spl 58 s).length:Int)≤10)
theorem y3l (s:Bs) (h:s.length≤1000000):Yu s=some (scP s):=by
 have hn:=z17 58 s
 unfold Yu kk
 rw [if_pos ⟨by omega,by simp⟩,z42]
 simp only [Option.bind_some]
 rw [if_pos (by omega),js (p:=scK (spl 58 s).length) (r0:=false) (e:=decide (((spl 58 s).length:Int)≤10)) rfl (spl 58 s) 0 fun j x _ hx => ?_]
 ·unfold scP
  cases allI (scK (spl 58 s).length) 0 (spl 58 s) <;> simp
 ·have hx:(spl 58 s)[j]?=some x:=by simpa using hx
  have hl:=z16 58 s x (List.mem_of_getElem? hx)
  unfold Ww
  rw [uw x (by omega),qi (by omega)]
  simp only [Option.bind_some]
  unfold scK
  cases keyP x <;> cases (decide (x=[42]) && decide ((j:Int)=((spl 58 s).length:Int) - 1)) <;> rfl
theorem y0h (s:Bs) (h:s.length≤1000000):Qk s=some (scP s):=by
 have hn:=z17 58 s
 unfold Qk kk
 rw [if_pos ⟨by omega,by simp⟩,z42]
 simp only [Option.bind_some]
 rw [if_pos (by omega),js (p:=scK (spl 58 s).length) (r0:=false) (e:=decide (((spl 58 s).length:Int)≤10)) rfl (spl 58 s) 0 fun j x _ hx => ?_]
 ·unfold scP
  cases allI (scK (spl 58 s).length) 0 (spl 58 s) <;> simp
 ·have hx:(spl 58 s)[j]?=some x:=by simpa using hx
  have hl:=z16 58 s x (List.mem_of_getElem? hx)
  have hj:=wg hx
  unfold z04
  rw [uq x (by omega),qi (by omega)]
  simp only [Option.bind_some]
  unfold scK
  have e1:decide ((j:Int) < ((spl 58 s).length:Int) - 1) = !decide ((j:Int)=((spl 58 s).length:Int) - 1):=by
   by_cases hq:(j:Int)=((spl 58 s).length:Int) - 1
   ·simp [hq]
   ·have:(j:Int) < ((spl 58 s).length:Int) - 1:=by omega
    simp [hq,this]
  have e2:decide (x≠[42]) = !decide (x=[42]):=by simp
  rw [e1,e2]
  cases keyP x <;> cases decide (x=[42]) <;> cases decide ((j:Int)=((spl 58 s).length:Int) - 1) <;> rfl
def Sh (l:List Bs):Prop:=l.length≤1000000∧∀ x,x∈l→x.length≤1000000
def scF (l:List Bs):Int:=if 50 < l.length then 2 else if l.all scP=true then 0 else 3
theorem y43 (l:List Bs) (h:Sh l):Yy l=some (scF l):=by
 have hn:=h.1
 unfold Yy scF
 by_cases h1:50 < l.length
 ·rw [if_pos (by simp; omega),if_pos h1]
 ·rw [if_neg (by simp; omega),if_neg h1,if_pos (by omega),js (p:=fun _ x=>scP x) (r0:=(3:Int)) (e:=(0:Int)) rfl l 0 fun j x _ hx => ?_]
  ·rw [z3y]
  ·have hx:l[j]?=some x:=by simpa using hx
   unfold Wy
   rw [y3l x (h.2 x (List.mem_of_getElem? hx))]
   simp only [Option.bind_some]
   cases scP x <;> rfl
theorem y4n (l:List Bs) (h:Sh l):Qm l=some (scF l):=by
 have hn:=h.1
 unfold Qm scF
 by_cases h1:50 < l.length
 ·rw [if_pos (by simp; omega),if_pos h1]
 ·rw [if_neg (by simp; omega),if_neg h1,if_pos (by omega),js (p:=fun _ x=>scP x) (r0:=(3:Int)) (e:=(0:Int)) rfl l 0 fun j x _ hx => ?_]
  ·rw [z3y]
  ·have hx:l[j]?=some x:=by simpa using hx
   unfold z06
   rw [y0h x (h.2 x (List.mem_of_getElem? hx))]
   simp only [Option.bind_some]
   cases scP x <;> rfl
def or2 (a b:Int):Int:=if a≠0 then a else b
theorem y4p (a b:Int):kt [a,b]=some (or2 a b):=by
 unfold kt or2
 rw [if_pos (by simp)]
 simp only [forL,Wc,Wd]
 by_cases h1:a=0 <;> by_cases h2:b=0 <;> simp [h1,h2,after]
def cvB (a b:Bs):Bool:=if Lib.hasSuffix a [42]=true then Lib.hasPrefix b (Lib.trimSuffix a [42]) else decide (a=b)
theorem z15 {a:Bs} (h:Lib.hasSuffix a [42]=true):∃ g,a=g++[42]∧Lib.trimSuffix a [42]=g:=by
 unfold Lib.hasSuffix at h
 rw [List.isSuffixOf_iff_suffix] at h
 obtain ⟨g,hg⟩:=h
 refine ⟨g,hg.symm,?_⟩
 unfold Lib.trimSuffix Lib.hasSuffix
 rw [if_pos (by rw [List.isSuffixOf_iff_suffix]; exact ⟨g,hg⟩),← hg]
 simp
theorem z3p (a:Bs):cvB a a=true:=by
 unfold cvB
 split
 ·rename_i h
  obtain ⟨g,h1,h2⟩:=z15 h
  rw [h2]
  unfold Lib.hasPrefix
  rw [List.isPrefixOf_iff_prefix]
  exact ⟨[42],h1.symm⟩
 ·simp
theorem y09 (a b:Bs) (h:a.length≤1000000):Ql a b=some (cvB a b):=by
 unfold Ql uj Qa cvB
 rw [if_pos (by omega)]
 simp only [Option.bind_some]
 cases Lib.hasSuffix a [42] <;> simp
theorem y4v (a b:Bs) (h:a.length≤1000000):Yv a b=some (cvB a b):=by
 unfold Yv uj Qa xq
 by_cases h1:a=b
 ·subst h1
  rw [if_pos (by simp),z3p]
 ·rw [if_neg (by simpa using h1),if_pos (by omega)]
  simp only [Option.bind_some]
  unfold cvB
  cases Lib.hasSuffix a [42] <;> simp [h1]
def cvL (l:List Bs) (s:Bs):Bool:=l.any fun h=>cvB h s
theorem z67 (l:List Bs) (p:Bs→Option Bool) (q:Bs→Bool) (h:l.length≤1000000) (hp:∀ x,x∈l→p x=some (q x)):Qe l p=some (l.any q):=
 y38 l q (by omega) hp
def lsI (l:List Bs) (s:Bs):Prop:=s∈l∧∀ h,h∈l→h≠s→cvB h s=false
def lsQ (l:List Bs) (s:Bs):Bool:=l.any fun h=>decide (h≠s) && cvB h s
def lsP (l:List Bs):List Bs:=(setB l).filter fun s => !lsQ (setB l) s
theorem z56 (l:List Bs) (s:Bs):lsQ l s=false↔∀ h,h∈l→h≠s→cvB h s=false:=by
 unfold lsQ
 rw [List.any_eq_false]
 constructor
 ·intro k h hh hne
  have:=k h hh
  simpa [hne] using this
 ·intro k h hh
  by_cases hne:h=s
  ·simp [hne]
  ·simp [hne,k h hh hne]
theorem z57 (l:List Bs) (s:Bs):s∈lsP l↔lsI l s:=by
 unfold lsP lsI
 rw [List.mem_filter,z0j,Bool.not_eq_true',z56]
 simp only [z0j]
theorem y1m (l:List Bs):Rise (lsP l):=(z5b l).filter _
theorem y1n (l:List Bs):setB (l.filter fun s => !lsQ l s)=lsP l:=
 y0x (z5b _) (y1m l) fun s=>by
  rw [z57,z0j,List.mem_filter,Bool.not_eq_true',z56]
  rfl
theorem z58 (l:List Bs):(lsP l).length≤l.length:=by
 have h1:=List.length_filter_le (fun s => !lsQ (setB l) s) (setB l)
 have h2:=z5c l
 unfold lsP; omega
theorem y0v (l:List Bs) (h:l.length≤1000000):Qi l=some (setB l):=by
 unfold Qi wa kl uk
 rw [if_pos (by omega)]
 simp only [Option.bind_some]
 rw [if_pos (by omega)]
 simp only [Option.bind_some]
 rw [if_pos (by simp; omega)]
 rfl
theorem y4r (l:List Bs) (p:Bs→Option Bool) (q:Bs→Bool) (h:l.length≤1000000) (hp:∀ x,x∈l→p x=some (q x)):z0v l p=some (l.filter fun x => !q x):=
 z6z [] l q (by omega) hp
theorem y1t (l:List Bs) (h:Sh l):Yt l=some (lsP l):=by
 have hs:=z5c l
 have hn:=h.1
 have h2:Sh (setB l):=⟨by omega,fun x hx=>h.2 x ((z0j l x).1 hx)⟩
 unfold Yt
 rw [y0v l hn]
 simp only [Option.bind_some]
 unfold wa
 rw [if_pos (by omega)]
 simp only [Option.bind_some]
 rw [y4r (setB l) _ (lsQ (setB l)) h2.1 fun x hx => ?_]
 ·rfl
 ·unfold Ys
  rw [z67 (setB l) _ (fun h=>decide (h≠x) && cvB h x) h2.1 fun y hy => ?_]
  ·rfl
  ·unfold Yr xp
   rw [y4v y x (h2.2 y hy)]
   simp only [Option.bind_some]
   cases decide (y≠x) <;> simp
theorem z6a (l:List Bs) (h:Sh l):Ze l=some (lsP l):=by
 have hn:=h.1
 unfold Ze
 rw [if_pos (by omega)]
 refine z2t (z2s (I:=fun k (s:List Bs)=>s=(l.take k).filter fun s => !lsQ l s) l 0 [] (by simp) ?_ ?_)
 ·intro j x s _ hx hs
  have hx:l[j]?=some x:=by simpa using hx
  have hj:=wg hx
  unfold z08 Zh
  rw [z67 l _ (fun h=>decide (h≠x) && cvB h x) hn fun y hy => ?_]
  ·simp only [Option.bind_some]
   have hlen:=List.length_filter_le (fun s => !lsQ l s) (l.take j)
   rw [List.length_take] at hlen
   have e1:(l.take (j+1)).filter (fun s => !lsQ l s)=s++(if lsQ l x=false then [x] else []):=by
    rw [List.take_add_one,hx,List.filter_append,hs]
    cases hq:lsQ l x <;> simp [hq]
   show Ok (if (!lsQ l x)=true then _ else _) _
   cases hq:lsQ l x
   ·rw [if_pos (by simp),if_pos (by rw [hs]; omega)]
    refine yd ?_
    show s++[x]=_
    rw [e1,hq]; rfl
   ·rw [if_neg (by simp)]
    refine yd ?_
    show s=_
    rw [e1,hq]; simp
  ·unfold Qo Zi
   rw [y09 y x (h.2 y hy)]
   simp only [Option.bind_some]
   cases decide (y≠x) <;> simp
 ·intro s hs
  have hs:s=l.filter fun s => !lsQ l s:=by simpa using hs
  have hlen:=List.length_filter_le (fun s => !lsQ l s) l
  unfold z09 kl uk
  rw [if_pos (by rw [hs]; omega)]
  simp only [Option.bind_some]
  rw [if_pos (by simp; rw [hs]; omega)]
  refine yd ?_
  rw [hs]
  exact y1n l

theorem y19 (p:Bs):keyP (p++[42,42])=false:=by
 have h:∀ (l:Bs) k,allI kc k (l++[42,42])=false:=by
  intro l
  induction l with
  | nil=>intro k; simp [allI,kc]
  | cons x l ih=>intro k; simp [allI,ih]
 unfold keyP
 rw [h]; rfl
theorem z7z {α:Type} (p:Nat→α→Bool):∀ (l:List α) (k j:Nat) (x:α),l[j]?=some x→p (k+j) x=false→allI p k l=false
 | [],k,j,x,h,_=>by simp at h
 | y::l,k,j,x,h,hp=>by
  cases j with
  | zero=>simp at h; subst h; simp [allI,show p k y=false from hp]
  | succ j =>
   have:=z7z p l (k+1) j x (by simpa using h) (by rw [show k+1+j=k+(j+1) by omega]; exact hp)
   simp [allI,this]
theorem z5f (g:Bs):scP (g++[42,42])=false:=by
 obtain ⟨ps,p,h⟩:=z43 58 [42,42] (by decide) g
 unfold scP
 rw [h,z7z _ _ 0 ps.length (p++[42,42]) (by simp)]
 ·rfl
 ·unfold scK
  rw [y19]
  have:p++[42,42]≠[42]:=fun e=>by have:=congrArg List.length e; simp at this
  simp [this]
theorem y4t {a b:Bs} (ha:scP a=true) (hb:scP b=true) (h1:cvB a b=true) (h2:cvB b a=true):a=b:=by
 unfold cvB at h1 h2
 by_cases sa:Lib.hasSuffix a [42]=true
 ·by_cases sb:Lib.hasSuffix b [42]=true
  ·obtain ⟨g,e1,t1⟩:=z15 sa
   obtain ⟨h,e2,t2⟩:=z15 sb
   rw [if_pos sa,t1] at h1
   rw [if_pos sb,t2] at h2
   unfold Lib.hasPrefix at h1 h2
   rw [List.isPrefixOf_iff_prefix] at h1 h2
   rw [e2] at h1
   rw [e1] at h2
   have key:∀ x y:Bs,x <+: y++[42]→x.length≤y.length→x <+: y:=fun x y hp hl =>
    List.prefix_of_prefix_length_le hp (List.prefix_append y [42]) hl
   rcases Nat.lt_trichotomy g.length h.length with hl | hl | hl
   ·have h3:=key g h h1 (by omega)
    obtain ⟨t,ht⟩:=h2
    have:t.length=0:=by have:=congrArg List.length ht; simp at this; omega
    have ht0:t=[]:=List.eq_nil_of_length_eq_zero this
    rw [ht0,List.append_nil] at ht
    rw [e2,ht,List.append_assoc] at hb
    have:=z5f g
    rw [show g++([42]++[42])=g++[42,42] from rfl,this] at hb; cases hb
   ·have h3:=key g h h1 (by omega)
    have:=List.IsPrefix.eq_of_length h3 hl
    rw [e1,e2,this]
   ·have h3:=key h g h2 (by omega)
    obtain ⟨t,ht⟩:=h1
    have:t.length=0:=by have:=congrArg List.length ht; simp at this; omega
    have ht0:t=[]:=List.eq_nil_of_length_eq_zero this
    rw [ht0,List.append_nil] at ht
    rw [e1,ht,List.append_assoc] at ha
    have:=z5f h
    rw [show h++([42]++[42])=h++[42,42] from rfl,this] at ha; cases ha
  ·rw [if_neg sb] at h2
   exact (of_decide_eq_true h2).symm
 ·rw [if_neg sa] at h1
  exact of_decide_eq_true h1
def mtS (b:List Bs) (x:Bs):List Bs:=b.flatMap fun y=>if cvB x y=true then [y] else if cvB y x=true then [x] else []
def mtL (a b:List Bs):List Bs:=a.flatMap (mtS b)
theorem y5j {a b:List Bs} (ha:a.all scP=true) (hb:b.all scP=true) (z:Bs):z∈mtL a b↔(z∈a∨z∈b)∧cvL a z=true∧cvL b z=true:=by
 have ha:=List.all_eq_true.1 ha
 have hb:=List.all_eq_true.1 hb
 unfold mtL mtS
 simp only [List.mem_flatMap]
 unfold cvL
 simp only [List.any_eq_true]
 constructor
 ·rintro ⟨x,hx,y,hy,hz⟩
  split at hz
  ·rename_i h
   simp only [List.mem_singleton] at hz
   subst hz
   exact ⟨.inr hy,⟨x,hx,h⟩,⟨_,hy,z3p _⟩⟩
  ·split at hz
   ·rename_i h
    simp only [List.mem_singleton] at hz
    subst hz
    exact ⟨.inl hx,⟨_,hx,z3p _⟩,⟨y,hy,h⟩⟩
   ·cases hz
 ·rintro ⟨hm,⟨x,hx,h1⟩,⟨y,hy,h2⟩⟩
  rcases hm with hm | hm
  ·refine ⟨z,hm,y,hy,?_⟩
   by_cases h3:cvB z y=true
   ·rw [if_pos h3,y4t (ha z hm) (hb y hy) h3 h2]; simp
   ·rw [if_neg h3,if_pos h2]; simp
  ·exact ⟨x,hx,z,hm,by rw [if_pos h1]; simp⟩
section
variable (a b:List Bs) (ha:Sh a) (hb:Sh b) (hl:a.length≤50∧b.length≤50)
include ha hb
omit hb in
include hl
end
theorem z99:Qw=some true:=by
 have h:Yx [97,98]=some [89,87,73]:=by
  unfold Yx
  exact jd.2 ⟨2,by decide +kernel⟩
 unfold Qw
 rw [h]
 decide +kernel
def ScB (l:List Bs):Prop:=(l.length≤5∨l=List.replicate 51 [])∧Sh l
theorem y0g {k:Int} {s:zm} (h:SB k s) (hk:k≤1000000):Ok (Qr s) fun r=>r.1.length≤1000∧SB (k+2) r.2:=by
 unfold Qr ui
 refine zz (xd h (by omega) _ (by omega)) fun r hr=>qo (fun _ => ?_) (fun _ => ?_)
 ·rw [if_pos (by decide)]
  simp only [Option.bind_some]
  refine ok_g (by rw [Lib.repeatL_length]; decide) (zz (wt hr (by omega) _ ⟨by simp,by simp⟩) fun r3 h3=>yd ⟨?_,h3.2.mono (by omega)⟩)
  have h1:=h3.1
  simp only [List.mem_cons,List.not_mem_nil,or_false] at h1
  simp only
  rcases h1 with h1 | h1 | h1 | h1 | h1 | h1 | h1 | h1 <;> rw [h1] <;> first | decide | (rw [List.length_append,Lib.repeatL_length]; decide)
 ·refine zz (wt hr (by omega) _ ⟨by simp,by simp⟩) fun r3 h3=>yd ⟨?_,h3.2.mono (by omega)⟩
  have h1:=h3.1
  simp only [List.mem_cons,List.not_mem_nil,or_false] at h1
  simp only
  rcases h1 with h1 | h1 | h1 | h1 | h1 | h1 | h1 | h1 | h1 | h1 <;> rw [h1] <;> decide
theorem z5m {k:Int} {s:zm} (h:SB k s) (hk:k≤1000000):Ok (kq s) fun r=>(r.1.length≤4∧∀ x,x∈r.1→x.length≤1000)∧SB (k+5) r.2:=by
 unfold kq
 refine zz (z5p h (by omega) 0 4 (by omega)) fun r2 h2=>ok_g (by omega) ?_
 refine z5t (fun (j:Nat) (q:(List Int)×Int×(List Bs))=>SB (k+1+(j:Int)) ⟨q.1,q.2.1⟩∧q.2.2.length≤j∧∀ x,x∈q.2.2→x.length≤1000) _ 0 _ ⟨by simpa using h2.2,by simp,by simp⟩ ?_ ?_
 ·rintro j ⟨c,d,l⟩ _ hj ⟨q1,q2,q3⟩
  simp only at q1 q2 q3
  have hj:j < 4:=by omega
  unfold Zk
  refine zz (wt q1 (by omega) _ ⟨by simp,by simp⟩) fun r3 h3=>ok_g (by simp only; omega) (yd ⟨h3.2.mono (by omega),by simp; omega,fun y hy => ?_⟩)
  rcases List.mem_append.1 hy with hy | hy
  ·exact q3 y hy
  ·simp only [List.mem_singleton] at hy
   subst hy
   have h1:=h3.1
   simp only [List.mem_cons,List.not_mem_nil,or_false] at h1
   rcases h1 with h1 | h1 | h1 | h1 | h1 | h1 | h1 | h1 | h1 <;> rw [h1] <;> decide
 ·rintro ⟨c,d,l⟩ ⟨q1,q2,q3⟩
  simp only at q1 q2 q3
  exact yd ⟨⟨by simp only; omega,q3⟩,q1.mono (by omega)⟩
theorem y0f {k:Int} {s:zm} (h:SB k s) (hk:k≤100000):Ok (Qq s) fun r=>ScB r.1∧SB (k+20) r.2:=by
 unfold Qq
 refine zz (z5m h (by omega)) fun r2 h2=>zz (xd h2.2 (by omega) _ (by omega)) fun r4 h4 => ?_
 have hJ:∀ (l:List Bs) (c:List Int) (d:Int),l.length≤5∧(∀ x,x∈l→x.length≤1000)→SB (k+10) ⟨c,d⟩→Ok (xa l c d) fun r=>ScB r.1∧SB (k+20) r.2:=by
  intro l c d hl hs
  unfold xa Zj
  refine zz (xd hs (by omega) _ (by omega)) fun r6 h6=>qo (fun _=>ok_g (by decide) (yd ⟨⟨.inr rfl,by simp,fun x hx => ?_⟩,h6.mono (by omega)⟩)) (fun _=>yd ⟨⟨.inl hl.1,by simp only; omega,fun x hx=>by have:=hl.2 x hx; omega⟩,h6.mono (by omega)⟩)
  rw [List.eq_of_mem_replicate hx]; decide
 refine qo (fun _ => ?_) (fun _=>hJ _ _ _ ⟨by omega,h2.1.2⟩ (h4.mono (by omega)))
 refine zz (y0g h4 (by omega)) fun r7 h7=>ok_g (by omega) (hJ _ _ _ ⟨by simp; omega,fun x hx => ?_⟩ (h7.2.mono (by omega)))
 rcases List.mem_append.1 hx with hx | hx
 ·exact h2.1.2 x hx
 ·simp only [List.mem_singleton] at hx
  subst hx; exact h7.1
end Go.Proofs.YtbndlmnjeofkdabGreatDoor
