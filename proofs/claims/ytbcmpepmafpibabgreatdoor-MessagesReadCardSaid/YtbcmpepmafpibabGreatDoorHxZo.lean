/- Plain: numbers in hexadecimal: what FormatInt and ParseInt give at base 16. -/
import Derived.Test.YtbcmpepmafpibabGreatDoorMc
import Derived.Test.YtbcmpepmafpibabGreatDoorZom
namespace Go.Proofs.YtbcmpepmafpibabGreatDoor
set_option linter.unusedVariables false
set_option maxRecDepth 20000
section
variable {α β σ ρ:Type}
def Ok (o:Option α) (Q:α→Prop):Prop:=∃ x,o=some x∧Q x
variable {o a b:Option α} {Q Q':α→Prop}
theorem ym {x:α} (h:Q x):Ok (some x) Q:=⟨x,rfl,h⟩
theorem yn {f:α→Option β} {R:β→Prop} (h:Ok o Q) (k:∀ x,Q x→Ok (f x) R):Ok (o.bind f) R:=by
 obtain ⟨x,rfl,hx⟩:=h
 exact k x hx
theorem qu {c:Prop} [Decidable c] (h1:c→Ok a Q) (h2:¬ c→Ok b Q):Ok (if c then a else b) Q:=by
 by_cases h:c
 ·rw [if_pos h]; exact h1 h
 ·rw [if_neg h]; exact h2 h
theorem ok_g {c:Prop} [Decidable c] (hc:c) (h:Ok a Q):Ok (if c then a else none) Q:=by rw [if_pos hc]; exact h
theorem y1r (h:Ok o Q) (k:∀ x,Q x→Q' x):Ok o Q':=let ⟨x,h1,h2⟩:=h; ⟨x,h1,k x h2⟩
theorem y1s {x:α} (h:Ok o (· = x)):o=some x:=by obtain ⟨y,h1,h2⟩:=h; rw [h1,h2]
def rd (I:σ→Prop) (Q:ρ→Prop):σ ⊕ ρ→Prop
 | .inl s=>I s
 | .inr r=>Q r
theorem z5e {body:Nat→α→σ→Option (σ ⊕ ρ)} {fin:σ→Option ρ} {R:ρ→Prop} (I:Nat→σ→Prop):∀ (l:List α) (k:Nat) (s:σ),I k s →
  (∀ j x s,k≤j→l[j - k]?=some x→I j s→Ok (body j x s) (rd (I (j+1)) R))→(∀ s,I (k+l.length) s→Ok (fin s) R)→Ok (forL body fin k l s) R
 | [],k,s,h0,hs,hf=>hf s h0
 | x::l,k,s,h0,hs,hf=>by
  refine yn (hs k x s (Nat.le_refl _) (by simp) h0) fun q hq => ?_
  cases q with
  | inl s' =>
   refine z5e I l (k+1) s' hq (fun j y s hj hy hi=>hs j y s (by omega) ?_ hi) (fun s hi=>hf s ?_)
   ·obtain ⟨m,hm⟩:∃ m,j - k=m+1:=⟨j - k - 1,by omega⟩
    rw [hm,List.getElem?_cons_succ]
    have:j - (k+1)=m:=by omega
    rw [this] at hy; exact hy
   ·simp only [List.length_cons]
    have:k+(l.length+1)=k+1+l.length:=by omega
    rw [this]; exact hi
  | inr r=>exact ⟨r,rfl,hq⟩
theorem z8c {body:Nat→σ→Option (σ ⊕ ρ)} {fin:σ→Option ρ} {R:ρ→Prop} (I:Nat→σ→Prop):∀ (n k:Nat) (s:σ),I k s →
  (∀ j s,k≤j→j < k+n→I j s→Ok (body j s) (rd (I (j+1)) R))→(∀ s,I (k+n) s→Ok (fin s) R)→Ok (rng body fin n k s) R
 | 0,k,s,h0,hs,hf=>hf s h0
 | n+1,k,s,h0,hs,hf=>by
  refine yn (hs k s (Nat.le_refl _) (by omega) h0) fun q hq => ?_
  cases q with
  | inl s'=>exact z8c I n (k+1) s' hq (fun j s hj hy hi=>hs j s (by omega) (by omega) hi) (fun s hi=>hf s (by rw [show k+(n+1)=k+1+n by omega]; exact hi))
  | inr r=>exact ⟨r,rfl,hq⟩
theorem y7m {body:σ→Option (σ ⊕ ρ)} {R:ρ→Prop} (I:σ→Prop) (μ:σ→Nat) (step:∀ s,I s→Ok (body s) (rd (fun s'=>I s'∧μ s' < μ s) R)) (s:σ) (h:I s):Ok (iter body s) R:=by
 have key:∀ n s,μ s < n→I s→Ok (iter body s) R:=by
  intro n
  induction n with
  | zero=>intro s h; omega
  | succ n ih =>
   intro s hn hi
   rw [z84]
   refine yn (step s hi) fun q hq => ?_
   cases q with
   | inl s'=>exact ih s' (by have:=hq.2; omega) hq.1
   | inr r=>exact ⟨r,rfl,hq⟩
 exact key _ s (Nat.lt_succ_self _) h
end

section
variable {α ρ:Type}
def allI (p:Nat→α→Bool):Nat→List α→Bool
 | _,[]=>true
 | k,x::l=>p k x && allI p (k+1) l
theorem xb {body:Nat→α→Unit→Option (Unit ⊕ ρ)} {fin:Unit→Option ρ} {p:Nat→α→Bool} {e r0:ρ} (hf:fin ()=some e):∀ (l:List α) (k:Nat),(∀ j x,k≤j→l[j - k]?=some x→body j x ()=if p j x then some (.inl ()) else some (.inr r0))→forL body fin k l ()=some (if allI p k l then e else r0)
 | [],k,h=>by simp only [forL,allI,if_true]; exact hf
 | x::l,k,h=>by
  have h1:=h k x (Nat.le_refl _) (by simp)
  show (body k x ()).bind _=_
  rw [h1]
  cases hp:p k x
  ·simp [allI,hp,after]
  ·simp only [allI,hp,Bool.true_and,if_true,Option.bind_some,after]
   refine xb hf l (k+1) fun j y hj hy=>h j y (by omega) ?_
   obtain ⟨m,hm⟩:∃ m,j - k=m+1:=⟨j - k - 1,by omega⟩
   rw [hm,List.getElem?_cons_succ]
   have:j - (k+1)=m:=by omega
   rw [this] at hy; exact hy
def feI (e:Nat→α→Int):Nat→List α→Int
 | _,[]=>0
 | k,x::l=>if e k x≠0 then e k x else feI e (k+1) l
theorem z9i {body:Nat→α→Unit→Option (Unit ⊕ Int)} {fin:Unit→Option Int} {e:Nat→α→Int} (hf:fin ()=some 0):∀ (l:List α) (k:Nat),(∀ j x,k≤j→l[j - k]?=some x→body j x ()=if e j x≠0 then some (.inr (e j x)) else some (.inl ()))→forL body fin k l ()=some (feI e k l)
 | [],k,h=>by simp only [forL,feI]; exact hf
 | x::l,k,h=>by
  have h1:=h k x (Nat.le_refl _) (by simp)
  show (body k x ()).bind _=_
  rw [h1]
  by_cases hp:e k x≠0
  ·simp [feI,hp,after]
  ·simp only [feI,hp,if_false,Option.bind_some,after]
   refine z9i hf l (k+1) fun j y hj hy=>h j y (by omega) ?_
   obtain ⟨m,hm⟩:∃ m,j - k=m+1:=⟨j - k - 1,by omega⟩
   rw [hm,List.getElem?_cons_succ]
   have:j - (k+1)=m:=by omega
   rw [this] at hy; exact hy
end

def outP (n lo hi:Int):Bool:=decide (n < lo) || decide (hi < n)
theorem xm (n lo hi:Int):outP n lo hi = !(decide (lo≤n) && decide (n≤hi)):=by
 unfold outP
 by_cases h1:n < lo
 ·have:¬ lo≤n:=by omega
  simp [h1,this]
 ·have h1':lo≤n:=by omega
  by_cases h2:hi < n
  ·have:¬ n≤hi:=by omega
   simp [h1',h2,this]
  ·have:n≤hi:=by omega
   simp [h1,h1',h2,this]
theorem z1q {n:Int} (h:0≤n∧n≤18446744073709551615):IntKind.wrap .u64 n=n:=by
 unfold IntKind.wrap
 simp [IntKind.bits,IntKind.signed]
 omega
section
variable {α β:Type}
theorem Wd (q:α→Bool):∀ (l:List α) (k:Nat),allI (fun _ x=>q x) k l=l.all q
 | [],k=>rfl
 | x::l,k=>by simp only [allI,List.all_cons,Wd q l (k+1)]
theorem Zw (l:List α) (k:Nat) (h:k≤l.length):sub? l 0 (k:Int)=some (l.take k):=by
 unfold sub?
 rw [if_pos (by omega)]
 simp
def gIdx (l:List α) (p:α→Option Bool):Option Int:=if l.length≤1000000000 then forL (fun (k:Nat) (x:α) (s:Unit)=>(p x).bind fun r=>if r then (some (.inr (k:Int))) else (some (.inl ()))) (fun _=>some (-1)) 0 l () else none
def fdx (q:α→Bool):Nat→List α→Int
 | _,[]=>-1
 | k,x::l=>if q x then (k:Int) else fdx q (k+1) l
theorem z9f (l:List α) {p:α→Option Bool} (q:α→Bool) (hl:l.length≤1000000000) (hp:∀ x,x∈l→p x=some (q x)):gIdx l p=some (fdx q 0 l):=by
 unfold gIdx
 rw [if_pos hl]
 have:∀ (l:List α) (k:Nat),(∀ x,x∈l→p x=some (q x))→forL (fun (k:Nat) (x:α) (s:Unit)=>(p x).bind fun r=>if r then (some (.inr (k:Int))) else (some (.inl ()))) (fun _=>some (-1)) k l ()=some (fdx q k l):=by
  intro l
  induction l with
  | nil=>intro k _; rfl
  | cons x l ih =>
   intro k hp
   have h1:=hp x (by simp)
   show Option.bind ((p x).bind _) _=_
   rw [h1]
   cases hq:q x
   ·simp only [Option.bind_some,after,fdx,hq,if_false,Bool.false_eq_true]
    exact ih (k+1) fun y hy=>hp y (List.mem_cons_of_mem _ hy)
   ·simp [after,fdx,hq]
 exact this l 0 hp
theorem z4f (q:α→Bool):∀ (l:List α) (k:Nat),(fdx q k l < 0↔l.any q=false)∧(0≤fdx q k l→(k:Int)≤fdx q k l∧∃ x,l[(fdx q k l).toNat - k]?=some x∧q x=true)
 | [],k=>⟨by simp [fdx],fun h=>by simp [fdx] at h⟩
 | x::l,k=>by
  obtain ⟨h1,h2⟩:=z4f q l (k+1)
  cases hq:q x
  ·simp only [fdx,hq,if_false,Bool.false_eq_true,List.any_cons,Bool.false_or]
   refine ⟨h1,fun h => ?_⟩
   obtain ⟨h3,y,h4,h5⟩:=h2 h
   refine ⟨by omega,y,?_,h5⟩
   have:(fdx q (k+1) l).toNat - k=((fdx q (k+1) l).toNat - (k+1))+1:=by omega
   rw [this,List.getElem?_cons_succ]; exact h4
  ·simp only [fdx,hq,if_true,List.any_cons,Bool.true_or]
   refine ⟨by simp,fun _=>⟨by omega,x,by simp,hq⟩⟩
theorem x0z (q:α→Bool) (l:List α):decide (fdx q 0 l < 0) = !l.any q:=by
 have h:=(z4f q l 0).1
 cases hq:l.any q
 ·rw [hq] at h; simpa using h
 ·rw [hq] at h; simpa using h
theorem z9m (q:α→Bool) (l:List α):decide (0≤fdx q 0 l)=l.any q:=by
 have h:=x0z q l
 cases hq:l.any q
 ·rw [hq] at h; simp at h ⊢; omega
 ·rw [hq] at h; simp at h ⊢; omega
theorem x00 (q:α→Bool) (l:List α) (h:l.any q=true):0≤fdx q 0 l∧∃ x,at? l (fdx q 0 l)=some x∧l[(fdx q 0 l).toNat]?=some x∧q x=true:=by
 have h1:=z9m q l
 rw [h] at h1
 have h2:0≤fdx q 0 l:=by simpa using h1
 obtain ⟨_,x,h3,h4⟩:=(z4f q l 0).2 h2
 have h3:l[(fdx q 0 l).toNat]?=some x:=by simpa using h3
 exact ⟨h2,x,by unfold at?; rw [if_pos h2]; exact h3,h3,h4⟩
def gCon (l:List α) (p:α→Option Bool):Option Bool:=(gIdx l p).bind fun r=>some (decide (0≤r))
theorem x0o (l:List α) {p:α→Option Bool} (q:α→Bool) (hl:l.length≤1000000000) (hp:∀ x,x∈l→p x=some (q x)):gCon l p=some (l.any q):=by
 unfold gCon
 rw [z9f l q hl hp]
 simp only [Option.bind_some,z9m]
def gEql (ne:α→α→Bool) (a b:List α):Option Bool:=if decide ((a.length:Int)≠(b.length:Int)) then some false else (if a.length≤1000000000 then forL (fun (k:Nat) (x:α) (s:Unit)=>(b[k]?).bind fun y=>if ne x y then (some (.inr false)) else (some (.inl ()))) (fun _=>some true) 0 a () else none)
theorem x0n (ne:α→α→Bool) (hne:∀ x,ne x x=false) (a:List α) (h:a.length≤1000000000):gEql ne a a=some true:=by
 unfold gEql
 rw [if_neg (by simp),if_pos h]
 rw [xb (p:=fun _ _=>true) (r0:=false) (e:=true) rfl a 0 fun j x _ hj => ?_]
 ·have:∀ (l:List α) k,allI (fun (_:Nat) (_:α)=>true) k l=true:=by
   intro l; induction l with
   | nil=>intro k; rfl
   | cons x l ih=>intro k; simp [allI,ih]
  rw [this]; rfl
 ·have:a[j]?=some x:=by simpa using hj
  simp only [this,Option.bind_some,hne,Bool.false_eq_true,if_false,if_true]
end
def SB (n:Int) (s:ya):Prop:=0≤s.at_∧s.at_≤n
theorem SB.mono {n m:Int} {s:ya} (h:SB n s) (hm:n≤m):SB m s:=⟨h.1,by have:=h.2; omega⟩

theorem z9s (x n:Int) (hn:n≤1000000000000000):Ok (Yy x n) fun r=>0≤r∧(1≤n→r < n)∧(n < 1→r=0):=by
 unfold Yy z1h
 refine qu (fun h=>ym ?_) (fun h=>ok_g ?_ (qu (fun h2=>ym ?_) (fun h2=>ym ?_)))
 ·simp at h; omega
 ·simp at h; omega
 ·simp at h h2
  have h3:=Int.tmod_lt_of_pos x (show 0 < n by omega)
  have h4:-n < x.tmod n:=by
   have:=Int.lt_tmod_of_pos x (show 0 < n by omega)
   omega
  rw [qz (by omega)]
  omega
 ·simp at h h2
  have h3:=Int.tmod_lt_of_pos x (show 0 < n by omega)
  omega
theorem Ye {k:Int} {s:ya} (h:SB k s) (hk:k≤1000000000) (n:Int) (hn:n≤1000000000000000) :
  Ok (kq s n) fun r=>(0≤r.1∧(1≤n→r.1 < n)∧(n < 1→r.1=0))∧SB (k+1) r.2:=by
 obtain ⟨h1,h2⟩:=h
 have e1:wr (s.at_+1)=s.at_+1:=qz (by omega)
 have e2:wr (s.at_+1 - 1)=s.at_:=by rw [qz (by omega)]; omega
 unfold kq
 simp only [e1,e2]
 refine qu (fun h => ?_) (fun h => ?_)
 ·exact yn (z9s _ n hn) fun r hr=>ym ⟨hr,by simp only [SB]; omega⟩
 ·simp at h
  have hL:0 < s.L.length:=by cases hq:s.L with | nil=>exact absurd hq h | cons _ _=>simp
  refine ok_g (by omega) (ok_g ⟨by omega,by omega⟩ ?_)
  have hi:0≤s.at_.tmod (s.L.length:Int):=Int.tmod_nonneg _ h1
  have hi2:=Int.tmod_lt_of_pos s.at_ (show (0:Int) < s.L.length by omega)
  have hat:Ok (at? s.L (s.at_.tmod (s.L.length:Int))) fun _=>True:=by
   unfold at?
   rw [if_pos hi,List.getElem?_eq_getElem (by omega)]
   exact ⟨_,rfl,trivial⟩
  refine yn hat fun x _=>yn (z9s _ _ (by omega)) fun r _=>yn (z9s _ n hn) fun r hr=>ym ⟨hr,by simp only [SB]; omega⟩
section
variable {k:Int} {s:ya} (h:SB k s) (hk:k≤100000000)
include h hk
theorem z6z (n:Int) (hn:n≤1000000000000000):Ok (Zj s n) fun r=>SB (k+1) r.2:=by
 unfold Zj
 exact yn (Ye h (by omega) n hn) fun r hr=>ym hr.2
theorem z79 (l:List Int) (hl:l≠[]∧l.length≤1000):Ok (Yx s l) fun r=>r.1∈l∧SB (k+1) r.2:=by
 unfold Yx
 have hp:0 < l.length:=by cases hq:l with | nil=>exact absurd hq hl.1 | cons _ _=>simp
 refine yn (Ye h (by omega) _ (by omega)) fun r hr => ?_
 have h1:=hr.1.2.1 (by omega)
 have hat:Ok (at? l r.1) fun x=>x∈l:=by
  unfold at?
  rw [if_pos hr.1.1,List.getElem?_eq_getElem (by omega)]
  exact ⟨_,rfl,List.getElem_mem _⟩
 exact yn hat fun x hx=>ym ⟨hx,hr.2⟩
theorem z7u (l:List Bs) (hl:l≠[]∧l.length≤1000):Ok (vj s l) fun r=>r.1∈l∧SB (k+1) r.2:=by
 unfold vj
 have hp:0 < l.length:=by cases hq:l with | nil=>exact absurd hq hl.1 | cons _ _=>simp
 refine yn (Ye h (by omega) _ (by omega)) fun r hr => ?_
 have h1:=hr.1.2.1 (by omega)
 have hat:Ok (at? l r.1) fun x=>x∈l:=by
  unfold at?
  rw [if_pos hr.1.1,List.getElem?_eq_getElem (by omega)]
  exact ⟨_,rfl,List.getElem_mem _⟩
 exact yn hat fun x hx=>ym ⟨hx,hr.2⟩
theorem y67 (lo hi:Int) (hr:-1000000000000≤lo∧lo≤hi∧hi≤1000000000000):Ok (z3s s lo hi) fun r=>(lo≤r.1∧r.1≤hi)∧SB (k+1) r.2:=by
 unfold z3s
 refine qu (fun h=>absurd h (by simp; omega)) (fun _ => ?_)
 have e1:wr (wr (hi - lo)+1)=hi - lo+1:=by rw [qz (n:=hi - lo) (by omega),qz (by omega)]
 rw [e1]
 refine yn (Ye h (by omega) _ (by omega)) fun r hr2=>ym ?_
 have h1:=hr2.1.2.1 (by omega)
 have h2:=hr2.1.1
 simp only
 rw [qz (by omega)]
 exact ⟨by omega,hr2.2⟩
end
theorem jq (p:UInt8→Bool) (h:((List.range 256).all fun n=>p (UInt8.ofNat n))=true) (c:UInt8):p c=true:=by
 have:=List.all_eq_true.1 h c.toNat (by simp; exact c.toNat_lt)
 simpa using this
theorem xn (s so:Bs) (h:s.length≤1000000000):vn s so=some (s.all fun c=>so.contains c):=by
 unfold vn
 rw [if_pos h,xb (p:=fun _ c=>so.contains c) (r0:=false) (e:=true) rfl s 0]
 ·congr 1
  have:∀ (l:Bs) k,allI (fun _ c=>so.contains c) k l=l.all fun c=>so.contains c:=by
   intro l
   induction l with
   | nil=>intro k; rfl
   | cons c l ih=>intro k; simp only [allI,List.all_cons,ih]
  rw [this]
  cases (s.all fun c=>so.contains c) <;> rfl
 ·intro j x _ _
  unfold z6r z2m
  simp only [Option.bind_some]
  have e1:((x.toNat:Int)).toNat.toUInt8=x:=by simp
  rw [e1,Lib.contains_iff_indexByte]
  by_cases hq:Lib.indexByte so x < 0
  ·have:¬ 0≤Lib.indexByte so x:=by omega
   simp [hq,this]
  ·have:0≤Lib.indexByte so x:=by omega
   simp [hq,this]
def momP (n:Int):Bool:=decide (0≤n) && decide (n≤345686399999)
theorem y7q (n:Int):z6a n=some (momP n):=rfl
theorem y99 (n:Int):z3e n=some (momP n):=by
 unfold z3e momP
 congr 2
 by_cases h:n < 345686400000
 ·have:n≤345686399999:=by omega
  simp [h,this]
 ·have:¬ n≤345686399999:=by omega
  simp [h,this]
theorem y1q (n lo hi:Int):z3d n lo hi=some (outP n lo hi):=rfl
theorem Qm (n lo hi:Int):kc n lo hi=some (!outP n lo hi):=by
 unfold kc
 rw [xm,Bool.not_not]
def spl (c:UInt8):Bs→List Bs
 | []=>[[]]
 | b::l=>if b=c then []::spl c l else match spl c l with
  | p::ps=>(b::p)::ps
  | []=>[[b]]
theorem x0d (c b:UInt8) (l:Bs):Lib.index (b::l) [c]=if b=c then 0 else if Lib.index l [c] == -1 then -1 else Lib.index l [c]+1:=by
 rw [Lib.index]
 by_cases h:b=c
 ·subst h; simp
 ·have hb:(c == b)=false:=by simpa using fun e:c=b=>h e.symm
  have:List.isPrefixOf [c] (b::l)=false:=by simp [List.isPrefixOf,hb]
  rw [this,if_neg h]; rfl
theorem y00 (c:UInt8):∀ s:Bs,Lib.splitK [c] 0 (Lib.count s [c]) s=spl c s
 | []=>by
  rw [Lib.count_miss (by rfl)]
  rfl
 | b::l=>by
  have ih:=y00 c l
  have hi:=x0d c b l
  by_cases h:b=c
  ·rw [if_pos h] at hi
   rw [Lib.count_hit (i:=0) (by simp) (by simpa using hi),Nat.add_comm,Lib.splitK,if_neg (by rw [hi]; decide),hi,spl,if_pos h]
   simp only [Int.toNat_zero,Nat.zero_add,List.length_cons,List.length_nil,Nat.add_zero,List.take_zero,List.drop_succ_cons,List.drop_zero,ih]
  ·rw [if_neg h] at hi
   have hs:spl c (b::l)=match spl c l with | p::ps=>(b::p)::ps | []=>[[b]]:=by rw [spl,if_neg h]
   have hge:=Lib.index_ge l [c]
   by_cases h1:Lib.index l [c]=-1
   ·rw [if_pos (by simpa using h1)] at hi
    rw [Lib.count_miss h1] at ih
    have ih:[l]=spl c l:=ih
    rw [Lib.count_miss hi,hs,← ih]
    rfl
   ·obtain ⟨i,h2⟩:∃ i:Nat,Lib.index l [c]=i:=⟨(Lib.index l [c]).toNat,by omega⟩
    rw [if_neg (by simpa using h1),h2] at hi
    have hi':Lib.index (b::l) [c]=((i+1:Nat):Int):=by rw [hi]; omega
    rw [Lib.count_hit (i:=i) (by simp) h2,Nat.add_comm,Lib.splitK,if_neg (by rw [h2]; simp),h2] at ih
    rw [Lib.count_hit (i:=i+1) (by simp) hi',Nat.add_comm,Lib.splitK,if_neg (by rw [hi']; simp; omega),hi',hs,← ih]
    simp
theorem z45 (s:Bs) (c:UInt8):ua s [c]=spl c s:=by
 unfold ua
 rw [Lib.splitB_data]
 exact y00 c s
theorem z7t (c:UInt8):∀ s:Bs,(spl c s).length≤s.length+1
 | []=>by simp [spl]
 | b::l=>by
  have ih:=z7t c l
  unfold spl
  split
  ·simp only [List.length_cons]; omega
  ·split
   ·rename_i p ps h; rw [h] at ih; simp only [List.length_cons] at ih ⊢; omega
   ·simp
theorem z47 (c:UInt8):∀ (s:Bs) (p:Bs),p∈spl c s→p.length≤s.length
 | [],p,h=>by simp [spl] at h; subst h; simp
 | b::l,p,h=>by
  have ih:=z47 c l
  unfold spl at h
  split at h
  ·rcases List.mem_cons.1 h with rfl | h
   ·simp
   ·have:=ih p h; simp only [List.length_cons]; omega
  ·split at h
   ·rename_i q ps hq
    rw [hq] at ih
    rcases List.mem_cons.1 h with rfl | h
    ·have:=ih q (by simp); simp only [List.length_cons]; omega
    ·have:=ih p (List.mem_cons_of_mem _ h); simp only [List.length_cons]; omega
   ·simp at h; subst h; simp
section
variable {α:Type} [Inhabited α] [DecidableEq α]
end
theorem z19 {α:Type} {P:List α→Prop} (h0:P []) (h1:∀ l x,P l→P (l++[x])) (l:List α):P l:=by
 have:∀ n (l:List α),l.length=n→P l:=by
  intro n
  induction n with
  | zero=>intro l h; rw [List.eq_nil_of_length_eq_zero h]; exact h0
  | succ n ih =>
   intro l h
   rcases List.eq_nil_or_concat l with rfl | ⟨l',x,rfl⟩
   ·simp at h
   ·rw [List.concat_eq_append]
    exact h1 _ _ (ih l' (by simpa using h))
 exact this _ l rfl
noncomputable def gDel {α:Type} (z:α) (s1:List α) (p1:α→Option Bool):Option (List α):=
 (gIdx s1 p1).bind fun (r2:Int)=>if decide (r2=(-1)) then some s1 else (iter (fun (s:Int×Int×(List α))=>if decide (s.2.1 < (s.2.2.length:Int)) then ((at? s.2.2 s.2.1).bind fun (x10:α)=>(p1 x10).bind fun (r12:Bool)=>if !r12 then ((at? s.2.2 s.1).bind fun (x15:α)=>some (.inl (wr (s.1+1),wr (s.2.1+1),(s.2.2.set s.1.toNat x10)))) else some (.inl (s.1,wr (s.2.1+1),s.2.2))) else (Option.map .inr (if (0:Int)≤s.1∧s.1 < (s.2.2.length:Int) then (if (0:Int)≤s.1∧s.1≤((s.2.2.take s.1.toNat++List.replicate (s.2.2.length - s.1.toNat) z).length:Int) then (some ((s.2.2.take s.1.toNat++List.replicate (s.2.2.length - s.1.toNat) z).take s.1.toNat)) else none) else none))) (r2,wr (r2+1),s1))
theorem y3h {α:Type} (q:α→Bool):∀ (l:List α) (k:Nat),0≤fdx q k l→(l.take ((fdx q k l).toNat - k)).filter (fun x => !q x)=l.take ((fdx q k l).toNat - k)
 | [],k,h=>by simp [fdx] at h
 | x::l,k,h=>by
  cases hq:q x
  ·simp only [fdx,hq,if_false,Bool.false_eq_true] at h ⊢
   have ih:=y3h q l (k+1) h
   have h1:=(z4f q l (k+1)).2 h
   have:(fdx q (k+1) l).toNat - k=((fdx q (k+1) l).toNat - (k+1))+1:=by omega
   rw [this,List.take_succ_cons,List.filter_cons,hq]
   simp [ih]
  ·simp [fdx,hq]
theorem z9g {α:Type} (z:α) (l:List α) {p:α→Option Bool} (q:α→Bool) (hl:l.length≤1000000000) (hp:∀ x,x∈l→p x=some (q x)):gDel z l p=some (l.filter fun x => !q x):=by
 unfold gDel
 rw [z9f l q hl hp]
 simp only [Option.bind_some]
 by_cases h0:l.any q=true
 ·obtain ⟨h1,x,h2,h3,h4⟩:=x00 q l h0
  have hlt:=z3w h3
  rw [if_neg (by simp; omega),qz (by omega)]
  have hb:=y3h q l 0 h1
  simp only [Nat.sub_zero] at hb
  refine y1s (y7m (fun s:Int×Int×List α=>0≤s.1∧s.1 < s.2.1∧s.2.1≤(l.length:Int)∧s.2.2.length=l.length∧s.2.2.take s.1.toNat=(l.take s.2.1.toNat).filter (fun x => !q x)∧s.2.2.drop s.2.1.toNat=l.drop s.2.1.toNat) (fun s=>(l.length - s.2.1.toNat)) ?_ _ ?_)
  ·rintro ⟨i,j,s⟩ ⟨g1,g2,g3,g4,g5,g6⟩
   simp only at g1 g2 g3 g4 g5 g6
   refine qu (fun hc => ?_) (fun hc => ?_)
   ·have hc:j < (s.length:Int):=by simpa using hc
    simp only at hc ⊢
    have hj:j.toNat < l.length:=by omega
    have e1:s[j.toNat]?=some l[j.toNat]:=by
     have:=congrArg (fun t=>t[0]?) g6
     simp only [List.getElem?_drop,Nat.add_zero,List.getElem?_eq_getElem hj] at this
     exact this
    have e2:at? s j=some l[j.toNat]:=by unfold at?; rw [if_pos (by omega)]; exact e1
    rw [e2,qz (n:=j+1) (by omega)]
    simp only [Option.bind_some,hp _ (List.getElem_mem hj)]
    have ej:(j+1).toNat=j.toNat+1:=by omega
    have etk:l.take (j.toNat+1)=l.take j.toNat++[l[j.toNat]]:=by rw [List.take_add_one,List.getElem?_eq_getElem hj]; rfl
    cases hq:q l[j.toNat]
    ·simp only [Bool.not_false,if_true]
     have e3:at? s i=some s[i.toNat]:=by unfold at?; rw [if_pos g1,List.getElem?_eq_getElem (by omega)]
     rw [e3,qz (n:=i+1) (by omega)]
     simp only [Option.bind_some]
     refine ym ?_
     have ei:(i+1).toNat=i.toNat+1:=by omega
     refine ⟨⟨by simp only; omega,by simp only; omega,by simp only; omega,by simpa using g4,?_,?_⟩,by simp only; omega⟩
     ·simp only
      rw [ei,ej,etk,List.filter_append,← g5,List.take_add_one,List.getElem?_set_self (by omega),List.take_set_of_le (Nat.le_refl _)]
      simp [hq]
     ·simp only
      rw [ej,List.drop_set_of_lt (by omega)]
      have:=congrArg (List.drop 1) g6
      simpa [List.drop_drop,Nat.add_comm] using this
    ·simp only [Bool.not_true,Bool.false_eq_true,if_false]
     refine ym ⟨⟨g1,by simp only; omega,by simp only; omega,g4,?_,?_⟩,by simp only; omega⟩
     ·simp only
      rw [ej,etk,List.filter_append,← g5]
      simp [hq]
     ·simp only
      rw [ej]
      have:=congrArg (List.drop 1) g6
      simpa [List.drop_drop,Nat.add_comm] using this
   ·have hc:¬ j < (s.length:Int):=by simpa using hc
    have hj:j.toNat=l.length:=by omega
    rw [if_pos (by simp only; omega),if_pos (by simp only [List.length_append,List.length_take,List.length_replicate]; omega)]
    refine ym ?_
    show List.take i.toNat (List.take i.toNat s++_)=_
    rw [List.take_append_of_le_length (by rw [List.length_take]; omega),List.take_take,Nat.min_self,g5,hj,List.take_length]
  ·refine ⟨h1,by simp only; omega,by simp only; omega,rfl,?_,rfl⟩
   simp only
   have e1:(fdx q 0 l+1).toNat=(fdx q 0 l).toNat+1:=by omega
   rw [e1,List.take_add_one,h3,List.filter_append,hb]
   simp [h4]
 ·have h0:l.any q=false:=by simpa using h0
  have h1:=(z4f q l 0).1.2 h0
  have h2:fdx q 0 l=-1:=by
   have:∀ (l:List α) k,fdx q k l < 0→fdx q k l=-1:=by
    intro l
    induction l with
    | nil=>intro k _; rfl
    | cons x l ih =>
     intro k h
     unfold fdx at h ⊢
     split
     ·rename_i hq; rw [if_pos hq] at h; omega
     ·rename_i hq; rw [if_neg hq] at h; exact ih _ h
   exact this l 0 h1
  rw [if_pos (by simpa using h2)]
  congr 1
  symm
  rw [List.filter_eq_self]
  intro x hx
  have:=List.any_eq_false.1 h0 x hx
  simpa using this
section
variable {σ ρ:Type}
theorem uy {body:σ→Option (σ ⊕ ρ)} {s s':σ} (h:body s=some (.inl s')):iter body s=iter body s':=by
 rw [z84,h]; rfl
theorem wi {body:σ→Option (σ ⊕ ρ)} {s:σ} {r:ρ} (h:body s=some (.inr r)):iter body s=some r:=by
 rw [z84,h]; rfl
end
theorem y48 (l:Bs):strN (yu l)=l:=by
 unfold strN yu
 rw [List.map_map]
 conv=>rhs; rw [← List.map_id l]
 refine List.map_congr_left fun c _ => ?_
 simp
theorem x1n (l:Bs):byR (yu l)=true:=by
 unfold byR yu
 rw [List.all_map,List.all_eq_true]
 intro c _
 have:=c.toNat_lt
 simp; omega
theorem z5g (l:Bs):(yu l).length=l.length:=by simp [yu]
theorem y7p (a b:Bs):yu (a++b)=yu a++yu b:=by simp [yu]
def trR (c:UInt8) (s:Bs):Bs:=(s.reverse.dropWhile (· == c)).reverse
def trL (c:UInt8) (s:Bs):Bs:=s.dropWhile (· == c)
theorem y0j (c b:UInt8) (l:Bs):trR c (l++[b])=if b=c then trR c l else l++[b]:=by
 unfold trR
 rw [List.reverse_append,List.reverse_singleton,List.singleton_append,List.dropWhile_cons]
 by_cases h:b=c
 ·simp [h]
 ·simp [h]
theorem z41 (c:UInt8) (s:Bs):(trR c s).length≤s.length:=by
 unfold trR
 rw [List.length_reverse]
 have:=(List.dropWhile_sublist (l:=s.reverse) (· == c)).length_le
 simpa using this
theorem y4p (c:UInt8) (s:Bs):s.length≤1000000000→xw s (c.toNat:Int)=some (trR c s):=by
 refine z19 (P:=fun s=>s.length≤1000000000→xw s (c.toNat:Int)=some (trR c s)) (fun _ => ?_) (fun l b ih h => ?_) s
 ·unfold xw
  exact wi rfl
 ·have hl:(l++[b]).length=l.length+1:=by simp
  have e1:wr (((l++[b]).length:Int) - 1)=(l.length:Int):=by rw [hl,qz (by omega)]; omega
  have e2:at? (l++[b]) (l.length:Int)=some b:=by
   unfold at?
   rw [if_pos (by omega),Int.toNat_natCast]; simp
  have e3:sub? (l++[b]) 0 (l.length:Int)=some l:=by
   rw [Zw _ _ (by omega)]; simp
  rw [y0j]
  by_cases hb:b=c
  ·rw [if_pos hb]
   have:=ih (by omega)
   unfold xw at this ⊢
   refine (uy (s':=l) ?_).trans this
   unfold z15 Zx
   rw [if_pos (by simp),e1,e2]
   simp only [Option.bind_some]
   rw [if_pos (by simp [hb]),e3]; rfl
  ·rw [if_neg hb]
   unfold xw
   refine wi ?_
   unfold z15 Zx z16
   rw [if_pos (by simp),e1,e2]
   simp only [Option.bind_some]
   have hn:¬ (b.toNat:Int)=(c.toNat:Int):=fun h=>hb (UInt8.toNat_inj.1 (by omega))
   rw [if_neg (by simpa using hn)]; rfl
theorem y0h (c:UInt8):∀ s:Bs,s.length≤1000000000→Yj s (c.toNat:Int)=some (trL c s)
 | [],_=>by
  unfold Yj
  exact wi rfl
 | b::l,h=>by
  simp only [List.length_cons] at h
  have e3:sub? (b::l) 1 ((b::l).length:Int)=some l:=by
   unfold sub?
   rw [if_pos (by simp; omega)]
   simp
  unfold trL
  rw [List.dropWhile_cons]
  by_cases hb:b=c
  ·rw [if_pos (by simp [hb])]
   have:=y0h c l (by omega)
   unfold Yj at this ⊢
   refine (uy (s':=l) ?_).trans this
   unfold z17 Zy
   rw [if_pos (by simp),List.getElem?_cons_zero]
   simp only [Option.bind_some]
   rw [if_pos (by simp [hb]),e3]; rfl
  ·rw [if_neg (by simp [hb])]
   unfold Yj
   refine wi ?_
   unfold z17 Zy z18
   rw [if_pos (by simp),List.getElem?_cons_zero]
   simp only [Option.bind_some]
   have hn:¬ (b.toNat:Int)=(c.toNat:Int):=fun h=>hb (UInt8.toNat_inj.1 (by omega))
   rw [if_neg (by simpa using hn)]; rfl
theorem z40 (c:UInt8) (hc:c.toNat < 128) (s:Bs) (h:s.length≤1000000000):uw s [c]=some (trL c (trR c s)):=by
 unfold uw Wn
 by_cases h0:s=[]
 ·subst h0; rfl
 ·have:=z41 c s
  rw [if_neg (by simp [h0]),if_pos (by simp),List.getElem?_cons_zero]
  simp only [Option.bind_some]
  rw [if_pos (by simp; omega),y4p c s h]
  simp only [Option.bind_some]
  rw [y0h c _ (by omega)]; rfl
theorem y54:z3u=some true:=by
 have h1:Yo [47,97,47,46,46,47,98]=some 0:=by decide +kernel
 have h2:z2t [47,97,47,46,46,47,98]=some ([47,97,47,46,46,47,98],true):=by
  unfold z2t
  exact Qb.2 ⟨9,by decide +kernel⟩
 have h3:vw [97,47,46,46,47,98] [47]=some [[97],[46,46],[98]]:=by
  unfold vw
  rw [if_pos (by decide),z45]
  decide +kernel
 have h4:sub? ([47,97,47,46,46,47,98]:Bs) 1 7=some [97,47,46,46,47,98]:=by decide +kernel
 have h5:forL (fun (k:Nat) (x:Bs) (s:(List Bs))=>z5o [[97],[46,46],[98]] k x s) (fun (s:(List Bs))=>z5p s) 0 [[97],[46,46],[98]] []=some ([47,98],0):=by decide +kernel
 have h6:z29 [47,97,47,46,46,47,98]=some ([47,98],0):=by
  unfold z29
  rw [h1]
  simp only [Option.bind_some,ne_eq,not_true_eq_false,decide_false,Bool.false_eq_true,if_false,h2,Bool.not_true]
  show (sub? ([47,97,47,46,46,47,98]:Bs) 1 7).bind _=_
  rw [h4]
  simp only [Option.bind_some]
  rw [h3]
  simp only [Option.bind_some]
  rw [if_pos (by decide)]
  exact h5
 unfold z3u
 rw [h6]; rfl
def tokL:Bs:=[97,98,99,100,101,102,103,104,105,106,107,108,109,110,111,112,113,114,115,116,117,118,119,120,121,122,65,66,67,68,69,70,71,72,73,74,75,76,77,78,79,80,81,82,83,84,85,86,87,88,89,90,48,49,50,51,52,53,54,55,56,57,33,35,36,37,38,39,42,43,45,46,94,95,96,124,126]
def tokB (s:Bs):Bool:=s.all (fun c=>tokL.contains c) && (decide (s≠[]) && decide ((s.length:Int)≤100))
theorem y4r (c:UInt8):z2u (c.toNat:Int)=some (tokL.contains c):=by
 have:=jq (fun c=>decide (z2u (c.toNat:Int)=some (tokL.contains c))) (by decide +kernel) c
 exact of_decide_eq_true this
theorem z85 (s:Bs) (h:s.length≤1000000000):Yp s=some (tokB s):=by
 unfold Yp
 rw [if_pos h,xb (p:=fun _ c=>tokL.contains c) (e:=(decide (s≠[]) && decide ((s.length:Int)≤100))) (r0:=false) rfl s 0 (fun j x _ _ => ?_),Wd]
 ·unfold tokB
  cases s.all fun c=>tokL.contains c <;> rfl
 ·unfold z5q
  rw [y4r]
  simp only [Option.bind_some]
  cases tokL.contains x <;> rfl
theorem z7i (s:Bs) (h:s.length≤1000000000):Yw s=some (tokB s):=by
 unfold Yw z1a
 rw [Qm]
 simp only [Option.bind_some]
 have ho:=xn s tokL h
 have hc:(!outP (s.length:Int) 1 100)=(decide (s≠[]) && decide ((s.length:Int)≤100)):=by
  rw [xm]
  cases s with
  | nil=>rfl
  | cons a l=>simp; omega
 rw [hc]
 unfold tokB
 cases (decide (s≠[]) && decide ((s.length:Int)≤100))
 ·simp
 ·simp only [if_true,Bool.and_true]
  show (vn s tokL).bind _=_
  rw [ho]; rfl
def rgB (s:Bs) (lo hi:Int):Bool:=s.all fun c => !outP (c.toNat:Int) lo hi
theorem Zk (s:Bs) (lo hi:Int) (h:s.length≤1000000000):ux s lo hi=some (rgB s lo hi):=by
 unfold ux z5l
 rw [if_pos h,xb (p:=fun _ c => !outP (c.toNat:Int) lo hi) (e:=true) (r0:=false) rfl s 0 (fun j x _ _ => ?_),Wd]
 ·unfold rgB
  cases s.all fun c => !outP (c.toNat:Int) lo hi <;> rfl
 ·unfold z5k Wv outP
  by_cases h1:(x.toNat:Int) < lo <;> by_cases h2:hi < (x.toNat:Int) <;> simp [h1,h2]
theorem z4l (s:Bs) (lo:Int):Zf s lo=ux s lo 126:=rfl
theorem y1c {s:Bs} {lo:Int} (h:rgB s lo 126=true):ascB s=true:=by
 unfold rgB at h
 unfold ascB
 rw [List.all_eq_true] at h ⊢
 intro c hc
 have:=h c hc
 unfold outP at this
 simp at this ⊢
 omega
def fldB (s:Bs):Bool:=decide ((s.length:Int)≤2000) && (rgB s 32 126 && decide (trL 32 (trR 32 s)=s))
theorem z33 (s:Bs) (h:s.length≤1000000000):Zc s=some (fldB s):=by
 unfold Zc Yi fldB
 rw [Zk s _ _ h]
 by_cases h1:(s.length:Int)≤2000
 ·rw [if_pos (by simpa using h1)]
  simp only [Option.bind_some]
  cases rgB s 32 126
  ·simp
  ·rw [if_pos rfl,z40 32 (by decide) s h]
   simp [h1]
 ·rw [if_neg (by simpa using h1)]
  simp [h1]
theorem z9l (s:Bs):z0r s=Zc s:=rfl
def hdP (h:zk):Prop:=h.Name.length≤100000∧h.Value.length≤100000
def hdsP (l:List zk):Prop:=l.length≤1000∧∀ h,h∈l→hdP h
def hdE (h:zk):Int:=if tokB h.Name then (if fldB h.Value then 0 else 3) else 5
def hdsE (l:List zk):Int:=if 50 < (l.length:Int) then 2 else feI (fun _ h=>hdE h) 0 l
theorem y27 (l:List zk) (h:hdsP l):z0k l=some (hdsE l)∧z0q l=some (hdsE l):=by
 constructor
 ·unfold z0k z5s hdsE
  by_cases h0:50 < (l.length:Int)
  ·rw [if_pos (by simpa using h0),if_pos h0]
  ·rw [if_neg (by simpa using h0),if_neg h0,if_pos (by have:=h.1; omega)]
   refine z9i rfl l 0 fun j x _ hj => ?_
   obtain ⟨h1,h2⟩:=h.2 x (List.mem_of_getElem? hj)
   unfold z5r hdE
   rw [z85 _ (by omega),z33 _ (by omega)]
   simp only [Option.bind_some]
   cases tokB x.Name <;> cases fldB x.Value <;> simp
 ·unfold z0q z6v hdsE
  by_cases h0:50 < (l.length:Int)
  ·rw [if_pos (by simpa using h0),if_pos h0]
  ·rw [if_neg (by simpa using h0),if_neg h0,if_pos (by have:=h.1; omega)]
   refine z9i rfl l 0 fun j x _ hj => ?_
   obtain ⟨h1,h2⟩:=h.2 x (List.mem_of_getElem? hj)
   unfold z6u hdE
   rw [z7i _ (by omega),z9l,z33 _ (by omega)]
   simp only [Option.bind_some]
   cases tokB x.Name <;> cases fldB x.Value <;> simp
def pthB (s:Bs):Bool:=decide ((s.length:Int)≤1000) && (Lib.hasPrefix s [47] && (rgB s 33 126 && !Lib.containsAny s [63,35]))
theorem y1j (s:Bs) (h:s.length≤1000000000) (hr:rgB s 33 126=true):z0e s [63,35]=some (Lib.containsAny s [63,35]):=by
 unfold z0e
 rw [if_pos ⟨⟨h,by simp⟩,y1c hr,rfl⟩]
theorem y7h (s:Bs) (h:s.length≤1000000000):Yo s=some (if pthB s then 0 else 3):=by
 unfold Yo xt pthB z8f
 rw [Zk s _ _ h]
 by_cases h1:1000 < (s.length:Int)
 ·have h2:¬ (s.length:Int)≤1000:=by omega
  rw [if_pos (by simpa using h1)]
  simp [h2]
 ·have h2:(s.length:Int)≤1000:=by omega
  rw [if_neg (by simpa using h1)]
  simp only [Option.bind_some]
  cases Lib.hasPrefix s [47]
  ·simp
  ·cases hr:rgB s 33 126
   ·simp
   ·rw [y1j s h hr]
    cases hc:Lib.containsAny s [63,35] <;> simp [h2]
theorem y7g (s:Bs) (h:s.length≤1000000000):z3g s=some (pthB s):=by
 unfold z3g Zo pthB
 rw [Qm,z4l,Zk s _ _ h]
 simp only [Option.bind_some]
 cases s with
 | nil=>rfl
 | cons a l =>
  have hc:(!outP ((a::l).length:Int) 1 1000)=decide (((a::l).length:Int)≤1000):=by
   rw [xm]; simp; omega
  have hp:Lib.hasPrefix (a::l) [47]=decide ((a.toNat:Int)=47):=by
   have:=jq (fun a=>((47:UInt8) == a) == decide ((a.toNat:Int)=47)) (by decide +kernel) a
   unfold Lib.hasPrefix
   simp only [List.isPrefixOf,Bool.and_true]
   simpa using this
  rw [hc,hp,List.getElem?_cons_zero]
  simp only [Option.bind_some]
  cases decide (((a::l).length:Int)≤1000)
  ·simp
  ·cases decide ((a.toNat:Int)=47)
   ·simp
   ·cases hr:rgB (a::l) 33 126
    ·simp
    ·rw [y1j _ h hr]
     simp
def qryB (s:Bs):Bool:=decide ((s.length:Int)≤1000) && (rgB s 33 126 && !Lib.contains s [35])
theorem y69 (s:Bs) (h:s.length≤1000000000):z2s s=some (if qryB s then 0 else 3):=by
 unfold z2s Yg qryB z0f
 rw [Zk s _ _ h,if_pos h]
 by_cases h1:1000 < (s.length:Int)
 ·have h2:¬ (s.length:Int)≤1000:=by omega
  rw [if_pos (by simpa using h1)]
  simp [h2]
 ·have h2:(s.length:Int)≤1000:=by omega
  rw [if_neg (by simpa using h1)]
  simp only [Option.bind_some]
  cases hr:rgB s 33 126
  ·simp
  ·cases hc:Lib.contains s [35] <;> simp [h2]
theorem y68 (s:Bs) (h:s.length≤1000000000):z3f s=some (qryB s):=by
 unfold z3f Qp qryB z0f
 rw [z4l,Zk s _ _ h,if_pos h]
 by_cases h1:(s.length:Int)≤1000
 ·rw [if_pos (by simpa using h1)]
  simp only [Option.bind_some]
  cases hr:rgB s 33 126 <;> cases hc:Lib.contains s [35] <;> simp [h1]
 ·rw [if_neg (by simpa using h1)]
  simp [h1]
noncomputable def z89 (k:Nat) (x:Bs):Option (Unit ⊕ (Bs×Int)):=
 (kc (x.length:Int) 1 63).bind fun r33=>if !r33 then (uk true) else ((vn x [97,98,99,100,101,102,103,104,105,106,107,108,109,110,111,112,113,114,115,116,117,118,119,120,121,122,65,66,67,68,69,70,71,72,73,74,75,76,77,78,79,80,81,82,83,84,85,86,87,88,89,90,48,49,50,51,52,53,54,55,56,57,45]).bind fun r37=>if !r37 then (uk true) else (uk (decide (trL 45 (trR 45 x)≠x))))
theorem x0h (k:Nat) (x:Bs) (h:x.length≤1000000000):z1c k x=z89 k x:=by
 unfold z1c z89
 rw [z40 45 (by decide) x h]
 rfl
theorem x1a (s:Bs) (c:UInt8):(Lib.cut s [c]).1.length≤s.length:=by
 unfold Lib.cut
 split
 ·simp; omega
 ·exact Nat.le_refl _
theorem x03 (c:UInt8):(encL (IntKind.wrap .i32 (c.toNat:Int))).length≤4:=by
 have:=jq (fun c=>decide ((encL (IntKind.wrap .i32 (c.toNat:Int))).length≤4)) (by decide +kernel) c
 exact of_decide_eq_true this
theorem uq (l:Bs) (a b:Int) (h:0≤a∧a≤b∧b≤(l.length:Int)):Ok (sub? l a b) fun r=>(r.length:Int)=b - a:=by
 unfold sub?
 rw [if_pos h]
 exact ym (by simp; omega)
theorem x1k {k:Int} {s:ya} (h:SB k s) (hk:k≤1000000) (t v:Bs) (ht:t.length≤100000) (hv:v.length≤100000) :
  Ok (z3t s t v) fun r=>r.1.length≤t.length+v.length+4∧SB (k+3) r.2:=by
 unfold z3t
 refine qu (fun _=>ym ⟨by simp only; omega,h.mono (by omega)⟩) (fun h0 => ?_)
 simp only [Bool.or_eq_true,decide_eq_true_eq,not_or] at h0
 have ht0:0 < t.length:=by cases hq:t with | nil=>exact absurd hq h0.1 | cons _ _=>simp
 have hv0:0 < v.length:=by cases hq:v with | nil=>exact absurd hq h0.2 | cons _ _=>simp
 refine yn (Ye h (by omega) _ (by omega)) fun r5 h5=>yn (Ye h5.2 (by omega) _ (by omega)) fun r7 h7 => ?_
 have b5:=h5.1.2.1 (by omega)
 have b7:=h7.1.2.1 (by omega)
 have c5:=h5.1.1
 have c7:=h7.1.1
 have hat:Ok (at? v r7.1) fun _=>True:=by
  unfold at?
  rw [if_pos c7,List.getElem?_eq_getElem (by omega)]
  exact ⟨_,rfl,trivial⟩
 refine yn hat fun x9 _=>yn (Ye h7.2 (by omega) 3 (by omega)) fun r11 h11 => ?_
 have he:=x03 x9
 have hw:wr (r5.1+1)=r5.1+1:=qz (by omega)
 have hS:SB (k+3) r11.2:=h11.2.mono (by omega)
 rw [hw]
 refine qu (fun _ => ?_) (fun _=>qu (fun _ => ?_) (fun _ => ?_))
 ·refine yn (uq t _ _ ⟨by omega,by omega,by omega⟩) fun l14 h14=>ok_g (by omega) (yn (uq t _ _ ⟨by omega,by omega,by omega⟩) fun l17 h17=>ok_g (by simp; omega) (ym ⟨by simp; omega,hS⟩))
 ·refine yn (uq t _ _ ⟨by omega,by omega,by omega⟩) fun l14 h14=>ok_g (by omega) (yn (uq t _ _ ⟨by omega,by omega,by omega⟩) fun l17 h17=>ok_g (by simp; omega) (ym ⟨by simp; omega,hS⟩))
 ·refine yn (uq t _ _ ⟨by omega,by omega,by omega⟩) fun l14 h14=>yn (uq t _ _ ⟨by omega,by omega,by omega⟩) fun l17 h17=>ok_g (by omega) (ym ⟨by simp; omega,hS⟩)
theorem kk {k:Int} {s:ya} (h:SB k s) (hk:k≤100000000) (B:Nat) (l:List Bs) (hl:l≠[]∧l.length≤1000) (hB:∀ x,x∈l→x.length≤B):Ok (vj s l) fun r=>r.1.length≤B∧SB (k+1) r.2:=
 y1r (z7u h hk l hl) fun r hr=>⟨hB _ hr.1,hr.2⟩
theorem y63 (s:Bs) (n:Int) (h:0≤n∧n≤1000000∧s.length≤1000000):Ok (z0d s n) fun r=>r=Lib.repeatL s n.toNat:=by
 unfold z0d
 rw [if_pos h]
 exact ym rfl
abbrev xdL:Bs:=[48,49,50,51,52,53,54,55,56,57,97,98,99,100,101,102]
def xd (n:Nat):UInt8:=xdL.getD n 48
def xv (c:UInt8):Nat:=if c.toNat≤57 then c.toNat - 48 else c.toNat - 87
def isX (c:UInt8):Bool:=xdL.contains c
theorem z69 (c:UInt8) (h:isX c=true):xd (xv c)=c∧xv c < 16∧(xv c=0→c=48):=by
 have:=jq (fun c => !isX c || decide (xd (xv c)=c∧xv c < 16∧(xv c=0→c=48))) (by decide +kernel) c
 rw [h] at this
 exact of_decide_eq_true (by simpa only [Bool.not_true,Bool.false_or] using this)
theorem y37 (n:Nat) (h:n < 16):xv (xd n)=n∧isX (xd n)=true∧(xd n=48→n=0):=by
 have:∀ n,n < 16→xv (xd n)=n∧isX (xd n)=true∧(xd n=48→n=0):=by decide +kernel
 exact this n h
def hexF (u:Nat):Bs:=if h:u < 16 then [xd u] else hexF (u / 16)++[xd (u % 16)]
termination_by u
decreasing_by omega
def hvB (l:Bs):Nat:=l.foldl (fun a c=>a * 16+xv c) 0
theorem y25 (l:Bs) (c:UInt8):hvB (l++[c])=hvB l * 16+xv c:=by simp [hvB,List.foldl_append]
theorem x0k:∀ u:Nat,hexF u=[48]∨∃ c t,hexF u=c::t∧c≠48:=by
 intro u
 induction u using Nat.strongRecOn with
 | _ u ih =>
  rw [hexF]
  split
  ·rename_i h
   by_cases h0:xd u=48
   ·exact .inl (by rw [h0])
   ·exact .inr ⟨_,_,rfl,h0⟩
  ·rename_i h
   rcases ih (u / 16) (by omega) with h1 | ⟨c,t,h1,h2⟩
   ·exfalso
    have h3:u / 16 < 16∧xd (u / 16)=48:=by
     rw [hexF] at h1
     split at h1
     ·rename_i h4; exact ⟨h4,by simpa using h1⟩
     ·have:=congrArg List.length h1
      simp only [List.length_append,List.length_singleton] at this
      have h5:hexF (u / 16 / 16)=[]:=List.length_eq_zero_iff.1 (by omega)
      rw [hexF] at h5
      split at h5 <;> simp at h5
    have:=(y37 _ h3.1).2.2 h3.2
    omega
   ·exact .inr ⟨c,t++[xd (u % 16)],by rw [h1]; rfl,h2⟩
theorem x0i:∀ (k u:Nat),u < 16 ^ (k+1)→(hexF u).length≤k+1:=by
 intro k
 induction k with
 | zero =>
  intro u h
  rw [hexF,dif_pos (by simpa using h)]; simp
 | succ k ih =>
  intro u h
  rw [hexF]
  split
  ·simp
  ·have:u / 16 < 16 ^ (k+1):=by
    rw [Nat.div_lt_iff_lt_mul (by decide)]
    rw [Nat.pow_succ] at h; exact h
   have:=ih _ this
   simp; omega
def canX (s:Bs):Bool:=s.all isX && (decide (s=[48]) || decide (s.head?≠some 48∧s≠[]))
theorem x0j (s:Bs):canX s=true→hexF (hvB s)=s∧(1≤hvB s∨s=[48]):=by
 refine z19 (P:=fun s=>canX s=true→hexF (hvB s)=s∧(1≤hvB s∨s=[48])) (by decide) (fun p d ih h => ?_) s
 unfold canX at h
 simp only [Bool.and_eq_true,Bool.or_eq_true,decide_eq_true_eq,List.all_append,List.all_cons,List.all_nil,Bool.and_true] at h
 obtain ⟨⟨hp,hd⟩,hh⟩:=h
 obtain ⟨d1,d2,d3⟩:=z69 d hd
 cases p with
 | nil =>
  have e:hvB ([]++[d])=xv d:=by simp [hvB]
  rw [e,hexF,dif_pos d2,d1]
  refine ⟨rfl,?_⟩
  by_cases h0:xv d=0
  ·exact .inr (by rw [d3 h0]; rfl)
  ·exact .inl (by omega)
 | cons c t =>
  have hc:c≠48:=by
   rcases hh with h1 | ⟨h1,_⟩
   ·have:=congrArg List.length h1; simp at this
   ·intro h2; rw [h2] at h1; exact h1 rfl
  have hcan:canX (c::t)=true:=by
   unfold canX
   rw [hp]
   simp [hc]
  obtain ⟨i1,i2⟩:=ih hcan
  have i3:1≤hvB (c::t):=by
   rcases i2 with h | h
   ·exact h
   ·exact absurd (List.cons.inj h).1 hc
  rw [y25]
  have e1:(hvB (c::t) * 16+xv d) / 16=hvB (c::t):=by omega
  have e2:(hvB (c::t) * 16+xv d) % 16=xv d:=by omega
  rw [hexF,dif_neg (by omega),e1,e2,i1,d1]
  exact ⟨rfl,.inl (by omega)⟩
theorem x0l (u:Nat) (s:Bs) (h:s=hexF u):s=[48]∨s.head?≠some 48:=by
 subst h
 rcases x0k u with h | ⟨c,t,h,hc⟩
 ·exact .inl h
 ·exact .inr (by rw [h]; simpa using hc)
theorem z6o:∀ (k:Nat) (s:Bs),s.all isX=true→s.length≤k→hvB s < 16 ^ k:=by
 intro k
 induction k with
 | zero=>intro s _ h; obtain rfl:s=[]:=List.length_eq_zero_iff.1 (by omega); decide
 | succ k ih =>
  intro s
  refine z19 (P:=fun s=>s.all isX=true→s.length≤k+1→hvB s < 16 ^ (k+1)) (fun _ _=>Nat.pow_pos (by decide)) (fun p d _ h1 h2 => ?_) s
  simp only [List.all_append,List.all_cons,List.all_nil,Bool.and_true,Bool.and_eq_true] at h1
  have h3:=ih p h1.1 (by simp at h2; omega)
  have h4:=(z69 d h1.2).2.1
  rw [y25,Nat.pow_succ]
  omega
theorem z9k (n:Nat) (h:n < 16):at? ([48,49,50,51,52,53,54,55,56,57,97,98,99,100,101,102,103,104,105,106,107,108,109,110,111,112,113,114,115,116,117,118,119,120,121,122]:Bs) (n:Int)=some (xd n):=by
 have:∀ n,n < 16→at? ([48,49,50,51,52,53,54,55,56,57,97,98,99,100,101,102,103,104,105,106,107,108,109,110,111,112,113,114,115,116,117,118,119,120,121,122]:Bs) ((n:Nat):Int)=some (xd n):=by decide +kernel
 exact this n h
theorem y57 (x:Nat):shr_ .u64 (x:Int) 4=((x / 16:Nat):Int):=by
 show (x:Int).fdiv (2 ^ (min (4:Int).toNat IntKind.u64.bits))=_
 have:min (4:Int).toNat IntKind.u64.bits=4:=by decide
 rw [this,Int.fdiv_eq_ediv_of_nonneg _ (by decide)]
 push_cast; rfl
theorem x2f (x:Nat) (h:x≤1000000000000):and_ .u64 (x:Int) 15=((x % 16:Nat):Int):=by
 show IntKind.wrap .u64 (((BitVec.ofInt IntKind.u64.bits (x:Int) &&& BitVec.ofInt IntKind.u64.bits ((15:Nat):Int)).toNat:Nat):Int)=_
 have hbits:IntKind.u64.bits=64:=rfl
 rw [hbits,BitVec.ofInt_natCast,BitVec.ofInt_natCast,BitVec.toNat_and,BitVec.toNat_ofNat,BitVec.toNat_ofNat,Nat.mod_eq_of_lt (by omega),Nat.mod_eq_of_lt (by omega),show 15=2 ^ 4 - 1 from rfl,Nat.and_two_pow_sub_one_eq_mod]
 exact z1q (by omega)
theorem drop_set (a:List Int) (i:Nat) (d:UInt8) (h:i < a.length):strN ((a.set i (d.toNat:Int)).drop i)=d::strN (a.drop (i+1)):=by
 have e:(a.set i (d.toNat:Int)).drop i=(d.toNat:Int)::a.drop (i+1):=by
  rw [List.drop_eq_getElem_cons (by simpa using h)]
  simp [List.drop_set]
 rw [e]
 simp [strN]
theorem fmtI:∀ (i u:Nat) (a:List Int),u < 16 ^ (i+1)→u≤1000000000000→i+1≤65→a.length=65 →
  iter (fun (s:Int×Int×(List Int))=>jn 16 false false 4 s.1 s.2.1 s.2.2) ((u:Int),((i+1:Nat):Int),a)=some ([],hexF u++strN (a.drop (i+1))):=by
 intro i
 induction i with
 | zero =>
  intro u a hu hb hi ha
  have hu:u < 16:=by simpa using hu
  refine wi (body:=fun (s:Int×Int×(List Int))=>jn 16 false false 4 s.1 s.2.1 s.2.2) (s:=((u:Int),((0+1:Nat):Int),a)) ?_
  show jn 16 false false 4 (u:Int) 1 a=_
  unfold jn z02 Qd Qc
  have e16:IntKind.wrap .u64 16=16:=by decide
  rw [e16,if_neg (by simp; omega),z9k u hu]
  simp only [Option.bind_some,Bool.false_eq_true,if_false]
  have hw:wr ((1:Int) - 1)=0:=by decide
  rw [hw,if_pos (by omega),if_pos (by simp; omega),if_pos (by simpa using ha),if_pos (by omega)]
  have:=drop_set a 0 (xd u) (by omega)
  rw [hexF,dif_pos hu]
  simpa using this
 | succ i ih =>
  intro u a hu hb hi ha
  have e16:IntKind.wrap .u64 16=16:=by decide
  have e15:IntKind.wrap .u64 (16 - 1)=15:=by decide
  have e4:IntKind.wrap .u64 4=4:=by decide
  have hw:wr (((i+1+1:Nat):Int) - 1)=((i+1:Nat):Int):=by rw [qz (by omega)]; omega
  by_cases h16:u < 16
  ·refine wi (body:=fun (s:Int×Int×(List Int))=>jn 16 false false 4 s.1 s.2.1 s.2.2) (s:=((u:Int),((i+1+1:Nat):Int),a)) ?_
   show jn 16 false false 4 (u:Int) ((i+1+1:Nat):Int) a=_
   unfold jn z02 Qd Qc
   rw [e16,if_neg (by simp; omega),z9k u h16]
   simp only [Option.bind_some,Bool.false_eq_true,if_false]
   rw [hw,if_pos (by omega),Int.toNat_natCast,if_pos (by omega),if_pos (by simpa using ha),if_pos (by omega)]
   have:=drop_set a (i+1) (xd u) (by omega)
   rw [hexF,dif_pos h16,this]
   rfl
  ·have hs:jn 16 false false 4 (u:Int) ((i+1+1:Nat):Int) a=some (.inl (((u / 16:Nat):Int),((i+1:Nat):Int),a.set (i+1) ((xd (u % 16)).toNat:Int))):=by
    unfold jn
    rw [e16,if_pos (by simp; omega),e15,x2f u hb,z9k _ (Nat.mod_lt _ (by decide))]
    simp only [Option.bind_some]
    rw [hw,if_pos (by omega),Int.toNat_natCast,if_pos (by omega),e4,if_pos (by decide),y57]
   have hq:u / 16 < 16 ^ (i+1):=by
    rw [Nat.div_lt_iff_lt_mul (by decide)]
    rw [Nat.pow_succ] at hu; exact hu
   rw [uy (body:=fun (s:Int×Int×(List Int))=>jn 16 false false 4 s.1 s.2.1 s.2.2) (s:=((u:Int),((i+1+1:Nat):Int),a)) hs,ih (u / 16) _ hq (by omega) (by omega) (by simpa using ha),drop_set a (i+1) _ (by omega)]
   conv=>rhs; rw [hexF,dif_neg h16]
   simp
theorem z9h (n:Nat) (h:n≤1000000000000):z0g (n:Int) 16=some (hexF n):=by
 have hi:=fmtI 64 n (List.replicate 65 0) (Nat.lt_of_le_of_lt h (by decide)) h (by omega) (by simp)
 have htz:z3v (IntKind.wrap .u64 16)=some 4:=by decide +kernel
 have hp:decide (and_ .i64 16 (wr (16 - 1))=0)=true:=by decide +kernel
 have hn:decide ((n:Int) < 0)=false:=by simp
 have hu:IntKind.wrap .u64 (n:Int)=(n:Int):=z1q (by omega)
 have hi':iter (fun (s:Int×Int×(List Int))=>jn 16 false false 4 s.1 s.2.1 s.2.2) ((n:Int),65,(List.replicate 65 0))=some ([],hexF n):=by
  have e:strN ((List.replicate 65 (0:Int)).drop (64+1))=[]:=by decide
  rw [e,List.append_nil] at hi
  exact hi
 unfold z0g z58 z57 z36 z56
 rw [hn,hu]
 simp only [hp,Option.bind_some,if_true,htz,hi',show decide ((16:Int)=10)=false from rfl,show decide ((16:Int) < 2)=false from rfl,show decide ((36:Int) < 16)=false from rfl,Bool.or_self,Bool.false_eq_true,if_false]
theorem x06 (k:Nat) (c:UInt8) (v:Int) (h:isX c=true):kr 16 16 64 1152921504606846976 k (c.toNat:Int) false v=uf 16 64 1152921504606846976 false v (xv c:Int):=by
 have key:=jq (fun c => !isX c || decide ((c.toNat≤57∧48≤c.toNat∧IntKind.wrap .u8 ((c.toNat:Int) - 48)=(xv c:Int))∨(57 < c.toNat∧vm (c.toNat:Int)=some (c.toNat:Int)∧97≤c.toNat∧c.toNat≤122∧IntKind.wrap .u8 ((IntKind.wrap .u8 ((c.toNat:Int) - 97))+10)=(xv c:Int)))) (by decide +kernel) c
 rw [h] at key
 simp only [Bool.not_true,Bool.false_or,decide_eq_true_eq] at key
 unfold kr Qg
 rw [if_neg (by simp)]
 rcases key with ⟨k1,k2,k3⟩ | ⟨k1,k2,k3,k4,k5⟩
 ·rw [if_pos (by simp; omega),k3]
 ·rw [if_neg (by simp; omega),k2]
  simp only [Option.bind_some]
  rw [if_pos (by simp; omega),if_pos (by simp; omega),k5]
theorem j10 (v d:Nat) (hd:d < 16) (hv:v≤1000000000000):uf 16 64 1152921504606846976 false (v:Int) (d:Int)=some (.inl (false,((v * 16+d:Nat):Int))):=by
 have e8:IntKind.wrap .u8 16=16:=by decide
 have e64:IntKind.wrap .u64 16=16:=by decide
 have em:IntKind.wrap .u64 ((shl_ .u64 1 (IntKind.wrap .u64 64)) - 1)=18446744073709551615:=by decide +kernel
 have e1:IntKind.wrap .u64 ((v:Int) * 16)=(v:Int) * 16:=z1q (by omega)
 have e2:IntKind.wrap .u64 (d:Int)=(d:Int):=z1q (by omega)
 have e3:IntKind.wrap .u64 ((v:Int) * 16+(d:Int))=(v:Int) * 16+(d:Int):=z1q (by omega)
 unfold uf Qe
 rw [e8,e64,em,e1,e2,e3,if_neg (by simp; omega),if_neg (by simp; omega),if_neg (by simp; omega)]
 congr 3
theorem prsL (E:Bool→Int→Option (Int×Int)):∀ (s:Bs) (k j v:Nat),s.all isX=true→j+s.length≤9→v < 16 ^ j →
  forL (fun (k:Nat) (x:Int) (q:Bool×Int)=>kr 16 16 64 1152921504606846976 k x q.1 q.2) (fun (q:Bool×Int)=>E q.1 q.2) k (yu s) (false,(v:Int))=E false ((s.foldl (fun a c=>a * 16+xv c) v:Nat):Int)
 | [],k,j,v,_,_,_=>rfl
 | c::s,k,j,v,h,hj,hv=>by
  simp only [List.all_cons,Bool.and_eq_true] at h
  simp only [List.length_cons] at hj
  have hd:=(z69 c h.1).2.1
  have h9:16 ^ j≤16 ^ 9:=Nat.pow_le_pow_right (by decide) (by omega)
  show (kr 16 16 64 1152921504606846976 k (c.toNat:Int) false (v:Int)).bind _=_
  rw [x06 k c _ h.1,j10 v _ hd (by omega)]
  simp only [Option.bind_some,after]
  exact (prsL E s (k+1) (j+1) (v * 16+xv c) h.2 (by omega) (by rw [Nat.pow_succ]; omega)).trans rfl
theorem prsU (s:Bs) (hne:s≠[]) (hl:s.length≤100000000):Zd s 16 64=forL (fun (k:Nat) (x:Int) (q:Bool×Int)=>kr 16 16 64 1152921504606846976 k x q.1 q.2) (fun (q:Bool×Int)=>z05 s q.1 q.2) 0 (yu s) (false,0):=by
 have e64:IntKind.wrap .u64 64=64:=by decide
 unfold Zd ug z04 Qf
 rw [if_neg (by simpa using hne),if_pos (by decide),if_neg (by decide),if_neg (by decide),if_neg (by decide),if_pos (by decide),if_pos (by decide),if_pos (by rw [z5g]; omega)]
theorem z8b (s:Bs) (hne:s≠[]) (hx:s.all isX=true) (hl:s.length≤8):xx s 16 64=some ((hvB s:Int),0):=by
 have hv:=z6o 8 s hx hl
 have hu:Zd s 16 64=some ((hvB s:Int),0):=by
  rw [prsU s hne (by omega)]
  refine (prsL (fun a b=>z05 s a b) s 0 0 0 hx (by omega) (by decide)).trans ?_
  rfl
 have hi:Ze s 16 64=some ((hvB s:Int),0):=by
  have hJ:uh 16 64 s false=some ((hvB s:Int),0):=by
   have es:shl_ .u64 1 (IntKind.wrap .u64 (wr (64 - 1)))=9223372036854775808:=by decide +kernel
   have ew:IntKind.wrap .i64 (hvB s:Int)=(hvB s:Int):=qz (by omega)
   unfold uh Zn Zm Qh
   rw [hu]
   simp only [Option.bind_some]
   rw [if_neg (by simp),if_neg (by simp),if_neg (by simp),if_pos (by decide),es,if_neg (by simp; omega),if_neg (by simp),ew]
   simp
  unfold Ze
  rw [if_neg (by simpa using hne)]
  cases s with
  | nil=>exact absurd rfl hne
  | cons c t =>
   simp only [List.all_cons,Bool.and_eq_true] at hx
   have hc:=jq (fun c => !isX c || decide ((c.toNat:Int)≠43∧(c.toNat:Int)≠45)) (by decide +kernel) c
   rw [hx.1] at hc
   simp only [Bool.not_true,Bool.false_or,decide_eq_true_eq] at hc
   simp only [List.getElem?_cons_zero,Option.bind_some]
   rw [if_neg (by simpa using hc.1),if_neg (by simpa using hc.2)]
   exact hJ
 unfold xx
 rw [hi]
 rfl
theorem y0b (n:Int):0≤IntKind.wrap .u8 n∧IntKind.wrap .u8 n≤255:=by
 unfold IntKind.wrap
 simp [IntKind.bits,IntKind.signed]
 omega
theorem y4h (n:Int):0≤IntKind.wrap .u64 n∧IntKind.wrap .u64 n≤18446744073709551615:=by
 unfold IntKind.wrap
 simp [IntKind.bits,IntKind.signed]
 omega
theorem x05 (k:Nat) (c:UInt8) (v:Int):(∃ d:Int,0≤d∧kr 16 16 64 1152921504606846976 k (c.toNat:Int) false v=uf 16 64 1152921504606846976 false v d)∨kr 16 16 64 1152921504606846976 k (c.toNat:Int) false v=some (.inr (0,2)):=by
 unfold kr Qg vm
 rw [if_neg (by simp)]
 simp only [Option.bind_some]
 split
 ·exact .inl ⟨_,(y0b _).1,rfl⟩
 ·split
  ·cases decide (or_ .u8 (c.toNat:Int) 32≤122)
   ·exact .inr rfl
   ·exact .inl ⟨_,(y0b _).1,rfl⟩
  ·exact .inr rfl
theorem y4g (s:Bs) (hl:s.length≤100000000):Ok (Zd s 16 64) fun r=>(0≤r.1∧r.1≤18446744073709551615)∧(r.2=0∨r.2=1∨r.2=2):=by
 by_cases hne:s=[]
 ·subst hne; exact ⟨(0,2),rfl,by simp,by simp⟩
 rw [prsU s hne hl]
 refine z5e (fun _ (q:Bool×Int)=>q.1=false∧0≤q.2∧q.2≤18446744073709551615) _ _ _ ⟨rfl,by simp,by simp⟩ ?_ ?_
 ·rintro j x ⟨b,v⟩ _ hx ⟨h1,h2,h3⟩
  simp only at h1 h2 h3 ⊢
  subst h1
  obtain ⟨c,rfl⟩:∃ c:UInt8,x=(c.toNat:Int):=by
   have:=List.mem_of_getElem? hx
   unfold yu at this
   obtain ⟨c,_,hc⟩:=List.mem_map.1 this
   exact ⟨c,hc.symm⟩
  rcases x05 j c v with ⟨d,hd,e⟩ | e
  ·rw [e]
   unfold uf Qe
   have em:IntKind.wrap .u64 ((shl_ .u64 1 (IntKind.wrap .u64 64)) - 1)=18446744073709551615:=by decide +kernel
   rw [em]
   refine qu (fun _=>ym ?_) (fun _=>qu (fun _=>ym ?_) (fun _=>qu (fun _=>ym ?_) (fun _=>ym ?_)))
   ·exact ⟨by simp,by simp⟩
   ·exact ⟨by simp,by simp⟩
   ·exact ⟨by simp,by simp⟩
   ·exact ⟨rfl,y4h _⟩
  ·rw [e]; exact ym ⟨by simp,by simp⟩
 ·rintro ⟨b,v⟩ ⟨h1,h2,h3⟩
  simp only at h1 h2 h3 ⊢
  subst h1
  unfold z05 z03
  exact ym ⟨⟨h2,h3⟩,by simp⟩
end Go.Proofs.YtbcmpepmafpibabGreatDoor
