/- Plain: names of headers: alike or not, the program and the reference agree; headers with a name left out. -/
import Derived.Test.YtahcnngcpjkpgabGreatDoorMc
import Derived.Test.YtahcnngcpjkpgabGreatDoorZwm
namespace Go.Proofs.YtahcnngcpjkpgabGreatDoor
set_option linter.unusedVariables false
set_option maxRecDepth 20000
section
variable {α β σ ρ:Type}
def Ok (o:Option α) (Q:α→Prop):Prop:=∃ x,o=some x∧Q x
variable {o a b:Option α} {Q Q':α→Prop}
theorem yv {x:α} (h:Q x):Ok (some x) Q:=⟨x,rfl,h⟩
theorem yi {f:α→Option β} {R:β→Prop} (h:Ok o Q) (k:∀ x,Q x→Ok (f x) R):Ok (o.bind f) R:=by
 obtain ⟨x,rfl,hx⟩:=h
 exact k x hx
theorem wq {c:Prop} [Decidable c] (h1:c→Ok a Q) (h2:¬ c→Ok b Q):Ok (if c then a else b) Q:=by
 by_cases h:c
 ·rw [if_pos h]; exact h1 h
 ·rw [if_neg h]; exact h2 h
theorem ok_g {c:Prop} [Decidable c] (hc:c) (h:Ok a Q):Ok (if c then a else none) Q:=by rw [if_pos hc]; exact h
theorem x4s (h:Ok o Q) (k:∀ x,Q x→Q' x):Ok o Q':=let ⟨x,h1,h2⟩:=h; ⟨x,h1,k x h2⟩
theorem x4t {x:α} (h:Ok o (· = x)):o=some x:=by obtain ⟨y,h1,h2⟩:=h; rw [h1,h2]
def rd (I:σ→Prop) (Q:ρ→Prop):σ ⊕ ρ→Prop
 | .inl s=>I s
 | .inr r=>Q r
theorem z4p {body:Nat→α→σ→Option (σ ⊕ ρ)} {fin:σ→Option ρ} {R:ρ→Prop} (I:Nat→σ→Prop):∀ (l:List α) (k:Nat) (s:σ),I k s →
  (∀ j x s,k≤j→l[j - k]?=some x→I j s→Ok (body j x s) (rd (I (j+1)) R))→(∀ s,I (k+l.length) s→Ok (fin s) R)→Ok (forL body fin k l s) R
 | [],k,s,h0,hs,hf=>hf s h0
 | x::l,k,s,h0,hs,hf=>by
  refine yi (hs k x s (Nat.le_refl _) (by simp) h0) fun q hq => ?_
  cases q with
  | inl s' =>
   refine z4p I l (k+1) s' hq (fun j y s hj hy hi=>hs j y s (by omega) ?_ hi) (fun s hi=>hf s ?_)
   ·obtain ⟨m,hm⟩:∃ m,j - k=m+1:=⟨j - k - 1,by omega⟩
    rw [hm,List.getElem?_cons_succ]
    have:j - (k+1)=m:=by omega
    rw [this] at hy; exact hy
   ·simp only [List.length_cons]
    have:k+(l.length+1)=k+1+l.length:=by omega
    rw [this]; exact hi
  | inr r=>exact ⟨r,rfl,hq⟩
theorem y2n {body:Nat→σ→Option (σ ⊕ ρ)} {fin:σ→Option ρ} {R:ρ→Prop} (I:Nat→σ→Prop):∀ (n k:Nat) (s:σ),I k s →
  (∀ j s,k≤j→j < k+n→I j s→Ok (body j s) (rd (I (j+1)) R))→(∀ s,I (k+n) s→Ok (fin s) R)→Ok (rng body fin n k s) R
 | 0,k,s,h0,hs,hf=>hf s h0
 | n+1,k,s,h0,hs,hf=>by
  refine yi (hs k s (Nat.le_refl _) (by omega) h0) fun q hq => ?_
  cases q with
  | inl s'=>exact y2n I n (k+1) s' hq (fun j s hj hy hi=>hs j s (by omega) (by omega) hi) (fun s hi=>hf s (by rw [show k+(n+1)=k+1+n by omega]; exact hi))
  | inr r=>exact ⟨r,rfl,hq⟩
theorem w4w {body:σ→Option (σ ⊕ ρ)} {R:ρ→Prop} (I:σ→Prop) (μ:σ→Nat) (step:∀ s,I s→Ok (body s) (rd (fun s'=>I s'∧μ s' < μ s) R)) (s:σ) (h:I s):Ok (iter body s) R:=by
 have key:∀ n s,μ s < n→I s→Ok (iter body s) R:=by
  intro n
  induction n with
  | zero=>intro s h; omega
  | succ n ih =>
   intro s hn hi
   rw [y9d]
   refine yi (step s hi) fun q hq => ?_
   cases q with
   | inl s'=>exact ih s' (by have:=hq.2; omega) hq.1
   | inr r=>exact ⟨r,rfl,hq⟩
 exact key _ s (Nat.lt_succ_self _) h
theorem y92 {body body':Nat→α→σ→Option (σ ⊕ ρ)} {fin fin':σ→Option ρ} (hf:∀ s,fin s=fin' s):∀ (l:List α) (k:Nat) (s:σ),(∀ j x s,k≤j→l[j - k]?=some x→body j x s=body' j x s)→forL body fin k l s=forL body' fin' k l s
 | [],k,s,h=>hf s
 | x::l,k,s,h=>by
  have h1:=h k x s (Nat.le_refl _) (by simp)
  show (body k x s).bind _=(body' k x s).bind _
  rw [h1]
  congr 1
  funext q
  cases q with
  | inl s' =>
   refine y92 hf l (k+1) s' fun j y s hj hy=>h j y s (by omega) ?_
   obtain ⟨m,hm⟩:∃ m,j - k=m+1:=⟨j - k - 1,by omega⟩
   rw [hm,List.getElem?_cons_succ]
   have:j - (k+1)=m:=by omega
   rw [this] at hy; exact hy
  | inr r=>rfl
end

section
variable {α ρ:Type}
def allI (p:Nat→α→Bool):Nat→List α→Bool
 | _,[]=>true
 | k,x::l=>p k x && allI p (k+1) l
theorem z03 {body:Nat→α→Unit→Option (Unit ⊕ ρ)} {fin:Unit→Option ρ} {p:Nat→α→Bool} {e r0:ρ} (hf:fin ()=some e):∀ (l:List α) (k:Nat),(∀ j x,k≤j→l[j - k]?=some x→body j x ()=if p j x then some (.inl ()) else some (.inr r0))→forL body fin k l ()=some (if allI p k l then e else r0)
 | [],k,h=>by simp only [forL,allI,if_true]; exact hf
 | x::l,k,h=>by
  have h1:=h k x (Nat.le_refl _) (by simp)
  show (body k x ()).bind _=_
  rw [h1]
  cases hp:p k x
  ·simp [allI,hp,after]
  ·simp only [allI,hp,Bool.true_and,if_true,Option.bind_some,after]
   refine z03 hf l (k+1) fun j y hj hy=>h j y (by omega) ?_
   obtain ⟨m,hm⟩:∃ m,j - k=m+1:=⟨j - k - 1,by omega⟩
   rw [hm,List.getElem?_cons_succ]
   have:j - (k+1)=m:=by omega
   rw [this] at hy; exact hy
def feI (e:Nat→α→Int):Nat→List α→Int
 | _,[]=>0
 | k,x::l=>if e k x≠0 then e k x else feI e (k+1) l
theorem y91 {body:Nat→α→Unit→Option (Unit ⊕ Int)} {fin:Unit→Option Int} {e:Nat→α→Int} (hf:fin ()=some 0):∀ (l:List α) (k:Nat),(∀ j x,k≤j→l[j - k]?=some x→body j x ()=if e j x≠0 then some (.inr (e j x)) else some (.inl ()))→forL body fin k l ()=some (feI e k l)
 | [],k,h=>by simp only [forL,feI]; exact hf
 | x::l,k,h=>by
  have h1:=h k x (Nat.le_refl _) (by simp)
  show (body k x ()).bind _=_
  rw [h1]
  by_cases hp:e k x≠0
  ·simp [feI,hp,after]
  ·simp only [feI,hp,if_false,Option.bind_some,after]
   refine y91 hf l (k+1) fun j y hj hy=>h j y (by omega) ?_
   obtain ⟨m,hm⟩:∃ m,j - k=m+1:=⟨j - k - 1,by omega⟩
   rw [hm,List.getElem?_cons_succ]
   have:j - (k+1)=m:=by omega
   rw [this] at hy; exact hy
end

def outP (n lo hi:Int):Bool:=decide (n < lo) || decide (hi < n)
theorem z8m (n lo hi:Int):outP n lo hi = !(decide (lo≤n) && decide (n≤hi)):=by
 unfold outP
 by_cases h1:n < lo
 ·have:¬ lo≤n:=by omega
  simp [h1,this]
 ·have h1':lo≤n:=by omega
  by_cases h2:hi < n
  ·have:¬ n≤hi:=by omega
   simp [h1',h2,this]
  ·have:n≤hi:=by omega
   simp [h1,h1',h2,this]
section
variable {α β:Type}
theorem y48 (q:α→Bool):∀ (l:List α) (k:Nat),allI (fun _ x=>q x) k l=l.all q
 | [],k=>rfl
 | x::l,k=>by simp only [allI,List.all_cons,y48 q l (k+1)]
theorem y6d (l:List α) (k:Nat) (h:k≤l.length):sub? l 0 (k:Int)=some (l.take k):=by
 unfold sub?
 rw [if_pos (by omega)]
 simp
def gIdx (l:List α) (p:α→Option Bool):Option Int:=if l.length≤1000000000 then forL (fun (k:Nat) (x:α) (s:Unit)=>(p x).bind fun r=>if r then (some (.inr (k:Int))) else (some (.inl ()))) (fun _=>some (-1)) 0 l () else none
def fdx (q:α→Bool):Nat→List α→Int
 | _,[]=>-1
 | k,x::l=>if q x then (k:Int) else fdx q (k+1) l
theorem y90 (l:List α) {p:α→Option Bool} (q:α→Bool) (hl:l.length≤1000000000) (hp:∀ x,x∈l→p x=some (q x)):gIdx l p=some (fdx q 0 l):=by
 unfold gIdx
 rw [if_pos hl]
 have:∀ (l:List α) (k:Nat),(∀ x,x∈l→p x=some (q x))→forL (fun (k:Nat) (x:α) (s:Unit)=>(p x).bind fun r=>if r then (some (.inr (k:Int))) else (some (.inl ()))) (fun _=>some (-1)) k l ()=some (fdx q k l):=by
  intro l
  induction l with
  | nil=>intro k _; rfl
  | cons x l ih =>
   intro k hp
   have h1:=hp x (by simp)
   show Option.bind ((p x).bind _) _=_
   rw [h1]
   cases hq:q x
   ·simp only [Option.bind_some,after,fdx,hq,if_false,Bool.false_eq_true]
    exact ih (k+1) fun y hy=>hp y (List.mem_cons_of_mem _ hy)
   ·simp [after,fdx,hq]
 exact this l 0 hp
theorem z61 (q:α→Bool):∀ (l:List α) (k:Nat),(fdx q k l < 0↔l.any q=false)∧(0≤fdx q k l→(k:Int)≤fdx q k l∧∃ x,l[(fdx q k l).toNat - k]?=some x∧q x=true)
 | [],k=>⟨by simp [fdx],fun h=>by simp [fdx] at h⟩
 | x::l,k=>by
  obtain ⟨h1,h2⟩:=z61 q l (k+1)
  cases hq:q x
  ·simp only [fdx,hq,if_false,Bool.false_eq_true,List.any_cons,Bool.false_or]
   refine ⟨h1,fun h => ?_⟩
   obtain ⟨h3,y,h4,h5⟩:=h2 h
   refine ⟨by omega,y,?_,h5⟩
   have:(fdx q (k+1) l).toNat - k=((fdx q (k+1) l).toNat - (k+1))+1:=by omega
   rw [this,List.getElem?_cons_succ]; exact h4
  ·simp only [fdx,hq,if_true,List.any_cons,Bool.true_or]
   refine ⟨by simp,fun _=>⟨by omega,x,by simp,hq⟩⟩
theorem w97 (q:α→Bool) (l:List α):decide (fdx q 0 l < 0) = !l.any q:=by
 have h:=(z61 q l 0).1
 cases hq:l.any q
 ·rw [hq] at h; simpa using h
 ·rw [hq] at h; simpa using h
theorem y99 (q:α→Bool) (l:List α):decide (0≤fdx q 0 l)=l.any q:=by
 have h:=w97 q l
 cases hq:l.any q
 ·rw [hq] at h; simp at h ⊢; omega
 ·rw [hq] at h; simp at h ⊢; omega
theorem w98 (q:α→Bool) (l:List α) (h:l.any q=true):0≤fdx q 0 l∧∃ x,at? l (fdx q 0 l)=some x∧l[(fdx q 0 l).toNat]?=some x∧q x=true:=by
 have h1:=y99 q l
 rw [h] at h1
 have h2:0≤fdx q 0 l:=by simpa using h1
 obtain ⟨_,x,h3,h4⟩:=(z61 q l 0).2 h2
 have h3:l[(fdx q 0 l).toNat]?=some x:=by simpa using h3
 exact ⟨h2,x,by unfold at?; rw [if_pos h2]; exact h3,h3,h4⟩
def gCon (l:List α) (p:α→Option Bool):Option Bool:=(gIdx l p).bind fun r=>some (decide (0≤r))
theorem y4q (l:List α) {p:α→Option Bool} (q:α→Bool) (hl:l.length≤1000000000) (hp:∀ x,x∈l→p x=some (q x)):gCon l p=some (l.any q):=by
 unfold gCon
 rw [y90 l q hl hp]
 simp only [Option.bind_some,y99]
def gEql (ne:α→α→Bool) (a b:List α):Option Bool:=if decide ((a.length:Int)≠(b.length:Int)) then some false else (if a.length≤1000000000 then forL (fun (k:Nat) (x:α) (s:Unit)=>(b[k]?).bind fun y=>if ne x y then (some (.inr false)) else (some (.inl ()))) (fun _=>some true) 0 a () else none)
theorem w9o (ne:α→α→Bool) (hne:∀ x,ne x x=false) (a:List α) (h:a.length≤1000000000):gEql ne a a=some true:=by
 unfold gEql
 rw [if_neg (by simp),if_pos h]
 rw [z03 (p:=fun _ _=>true) (r0:=false) (e:=true) rfl a 0 fun j x _ hj => ?_]
 ·have:∀ (l:List α) k,allI (fun (_:Nat) (_:α)=>true) k l=true:=by
   intro l; induction l with
   | nil=>intro k; rfl
   | cons x l ih=>intro k; simp [allI,ih]
  rw [this]; rfl
 ·have:a[j]?=some x:=by simpa using hj
  simp only [this,Option.bind_some,hne,Bool.false_eq_true,if_false,if_true]
end
def SB (n:Int) (s:zu):Prop:=0≤s.at_∧s.at_≤n
theorem SB.mono {n m:Int} {s:zu} (h:SB n s) (hm:n≤m):SB m s:=⟨h.1,by have:=h.2; omega⟩

theorem x0l (x n:Int) (hn:n≤1000000000000000):Ok (z2t x n) fun r=>0≤r∧(1≤n→r < n)∧(n < 1→r=0):=by
 unfold z2t z60
 refine wq (fun h=>yv ?_) (fun h=>ok_g ?_ (wq (fun h2=>yv ?_) (fun h2=>yv ?_)))
 ·simp at h; omega
 ·simp at h; omega
 ·simp at h h2
  have h3:=Int.tmod_lt_of_pos x (show 0 < n by omega)
  have h4:-n < x.tmod n:=by
   have:=Int.lt_tmod_of_pos x (show 0 < n by omega)
   omega
  rw [qc (by omega)]
  omega
 ·simp at h h2
  have h3:=Int.tmod_lt_of_pos x (show 0 < n by omega)
  omega
theorem z1u {k:Int} {s:zu} (h:SB k s) (hk:k≤1000000000) (n:Int) (hn:n≤1000000000000000) :
  Ok (Zw s n) fun r=>(0≤r.1∧(1≤n→r.1 < n)∧(n < 1→r.1=0))∧SB (k+1) r.2:=by
 obtain ⟨h1,h2⟩:=h
 have e1:wr (s.at_+1)=s.at_+1:=qc (by omega)
 have e2:wr (s.at_+1 - 1)=s.at_:=by rw [qc (by omega)]; omega
 unfold Zw
 simp only [e1,e2]
 refine wq (fun h => ?_) (fun h => ?_)
 ·exact yi (x0l _ n hn) fun r hr=>yv ⟨hr,by simp only [SB]; omega⟩
 ·simp at h
  have hL:0 < s.L.length:=by cases hq:s.L with | nil=>exact absurd hq h | cons _ _=>simp
  refine ok_g (by omega) (ok_g ⟨by omega,by omega⟩ ?_)
  have hi:0≤s.at_.tmod (s.L.length:Int):=Int.tmod_nonneg _ h1
  have hi2:=Int.tmod_lt_of_pos s.at_ (show (0:Int) < s.L.length by omega)
  have hat:Ok (at? s.L (s.at_.tmod (s.L.length:Int))) fun _=>True:=by
   unfold at?
   rw [if_pos hi,List.getElem?_eq_getElem (by omega)]
   exact ⟨_,rfl,trivial⟩
  refine yi hat fun x _=>yi (x0l _ _ (by omega)) fun r _=>yi (x0l _ n hn) fun r hr=>yv ⟨hr,by simp only [SB]; omega⟩
section
variable {k:Int} {s:zu} (h:SB k s) (hk:k≤100000000)
include h hk
theorem kh (n:Int) (hn:n≤1000000000000000):Ok (jl s n) fun r=>SB (k+1) r.2:=by
 unfold jl
 exact yi (z1u h (by omega) n hn) fun r hr=>yv hr.2
theorem y7f (l:List Int) (hl:l≠[]∧l.length≤1000):Ok (z2s s l) fun r=>r.1∈l∧SB (k+1) r.2:=by
 unfold z2s
 have hp:0 < l.length:=by cases hq:l with | nil=>exact absurd hq hl.1 | cons _ _=>simp
 refine yi (z1u h (by omega) _ (by omega)) fun r hr => ?_
 have h1:=hr.1.2.1 (by omega)
 have hat:Ok (at? l r.1) fun x=>x∈l:=by
  unfold at?
  rw [if_pos hr.1.1,List.getElem?_eq_getElem (by omega)]
  exact ⟨_,rfl,List.getElem_mem _⟩
 exact yi hat fun x hx=>yv ⟨hx,hr.2⟩
theorem Qd (l:List Bs) (hl:l≠[]∧l.length≤1000):Ok (vr s l) fun r=>r.1∈l∧SB (k+1) r.2:=by
 unfold vr
 have hp:0 < l.length:=by cases hq:l with | nil=>exact absurd hq hl.1 | cons _ _=>simp
 refine yi (z1u h (by omega) _ (by omega)) fun r hr => ?_
 have h1:=hr.1.2.1 (by omega)
 have hat:Ok (at? l r.1) fun x=>x∈l:=by
  unfold at?
  rw [if_pos hr.1.1,List.getElem?_eq_getElem (by omega)]
  exact ⟨_,rfl,List.getElem_mem _⟩
 exact yi hat fun x hx=>yv ⟨hx,hr.2⟩
theorem z4k (lo hi:Int) (hr:-1000000000000≤lo∧lo≤hi∧hi≤1000000000000):Ok (Qv s lo hi) fun r=>(lo≤r.1∧r.1≤hi)∧SB (k+1) r.2:=by
 unfold Qv
 refine wq (fun h=>absurd h (by simp; omega)) (fun _ => ?_)
 have e1:wr (wr (hi - lo)+1)=hi - lo+1:=by rw [qc (n:=hi - lo) (by omega),qc (by omega)]
 rw [e1]
 refine yi (z1u h (by omega) _ (by omega)) fun r hr2=>yv ?_
 have h1:=hr2.1.2.1 (by omega)
 have h2:=hr2.1.1
 simp only
 rw [qc (by omega)]
 exact ⟨by omega,hr2.2⟩
end
theorem w4y {k:Int} {s:zu} (h:SB k s) (hk:k≤10000000) (lo hi:Int) (hr:-1000000000000≤lo∧lo≤hi∧hi≤1000000000000):Ok (z9e s lo hi) fun r=>(-2000000000000≤r.1∧r.1≤2000000000000)∧SB (k+2) r.2:=by
 unfold z9e
 refine yi (kh h (by omega) 12 (by omega)) fun r hr2=>wq (fun _ => ?_) (fun _ => ?_)
 ·refine yi (y7f hr2 (by omega) _ ⟨by simp,by simp⟩) fun r3 hr3=>yv ⟨?_,hr3.2.mono (by omega)⟩
  have hm:=hr3.1
  rw [qc (n:=lo - 1) (by omega),qc (n:=hi+1) (by omega)] at hm
  simp only [List.mem_cons,List.not_mem_nil,or_false] at hm
  simp only
  omega
 ·exact yi (z4k hr2 (by omega) lo hi hr) fun r3 hr3=>yv ⟨by simp only; omega,hr3.2.mono (by omega)⟩
def kc (i:Nat) (c:UInt8):Bool:=((decide (97≤(c.toNat:Int))) && (decide ((c.toNat:Int)≤122))) || ((decide (0 < (i:Int))) && ((((decide (48≤(c.toNat:Int))) && (decide ((c.toNat:Int)≤57))) || (decide ((c.toNat:Int)=45))) || (decide ((c.toNat:Int)=95))))
def keyP (s:Bs):Bool:=allI kc 0 s && (decide (s≠[]) && decide ((s.length:Int)≤40))
theorem w8l (s:Bs) (h:s.length≤1000000000):z2n s=some (keyP s):=by
 unfold z2n
 rw [if_pos h,z03 (p:=kc) (r0:=false) (e:=(decide (s≠[])) && (decide ((s.length:Int)≤40))) rfl s 0]
 ·congr 1
  unfold keyP
  cases allI kc 0 s <;> simp
 ·intro j x _ _
  unfold y3p
  show (if (!kc j x)=true then _ else _)=_
  cases kc j x <;> simp
def z8e:Bs:=[97,98,99,100,101,102,103,104,105,106,107,108,109,110,111,112,113,114,115,116,117,118,119,120,121,122]
def z9t:Bs:=[97,98,99,100,101,102,103,104,105,106,107,108,109,110,111,112,113,114,115,116,117,118,119,120,121,122,48,49,50,51,52,53,54,55,56,57,45,95]
theorem jg (p:UInt8→Bool) (h:((List.range 256).all fun n=>p (UInt8.ofNat n))=true) (c:UInt8):p c=true:=by
 have:=List.all_eq_true.1 h c.toNat (by simp; exact c.toNat_lt)
 simpa using this
theorem w21 (c:UInt8):z8e.contains c=kc 0 c:=by
 have:=jg (fun c=>z8e.contains c == kc 0 c) (by decide +kernel) c
 simpa using this
theorem w58 (c:UInt8):z9t.contains c=kc 1 c:=by
 have:=jg (fun c=>z9t.contains c == kc 1 c) (by decide +kernel) c
 simpa using this
theorem w6b (k:Nat) (c:UInt8):kc (k+1) c=kc 1 c:=by
 unfold kc
 have:decide (0 < ((k+1:Nat):Int))=decide (0 < ((1:Nat):Int)):=by
  rw [decide_eq_true (by omega),decide_eq_true (by omega)]
 rw [this]
theorem w6c (c:UInt8) (h:kc 0 c=true):kc 1 c=true:=by unfold kc at *; simp at h ⊢; exact .inl h
theorem v1v (s:Bs):∀ k,allI kc (k+1) s=s.all fun c=>kc 1 c:=by
 induction s with
 | nil=>intro k; rfl
 | cons c s ih=>intro k; simp only [allI,List.all_cons,w6b,ih]
theorem z4o (s so:Bs) (h:s.length≤1000000000):xj s so=some (s.all fun c=>so.contains c):=by
 unfold xj
 rw [if_pos h,z03 (p:=fun _ c=>so.contains c) (r0:=false) (e:=true) rfl s 0]
 ·congr 1
  have:∀ (l:Bs) k,allI (fun _ c=>so.contains c) k l=l.all fun c=>so.contains c:=by
   intro l
   induction l with
   | nil=>intro k; rfl
   | cons c l ih=>intro k; simp only [allI,List.all_cons,ih]
  rw [this]
  cases (s.all fun c=>so.contains c) <;> rfl
 ·intro j x _ _
  unfold x7d z2d
  simp only [Option.bind_some]
  have e1:((x.toNat:Int)).toNat.toUInt8=x:=by simp
  rw [e1,Lib.contains_iff_indexByte]
  by_cases hq:Lib.indexByte so x < 0
  ·have:¬ 0≤Lib.indexByte so x:=by omega
   simp [hq,this]
  ·have:0≤Lib.indexByte so x:=by omega
   simp [hq,this]
theorem w59 (s:Bs) (h:s.length≤1000000000):y3f s=some (keyP s):=by
 unfold y3f xc y4k
 simp only [Option.bind_some]
 cases s with
 | nil=>simp [keyP]
 | cons c r =>
  by_cases h1:((c::r).length:Int)≤40
  ·have h2:(decide ((1:Int)≤((c::r).length:Int)) && decide (((c::r).length:Int)≤40))=true:=by simp only [List.length_cons] at h1 ⊢; simp; omega
   rw [if_pos h2]
   have h3:sub? (c::r) 0 1=some [c]:=by
    unfold sub?
    rw [if_pos (by simp only [List.length_cons]; omega)]
    rfl
   rw [h3]
   have e1:=z4o [c] z8e (by simp)
   have e2:=z4o (c::r) z9t h
   simp only [z8e,z9t] at e1 e2
   simp only [Option.bind_some,e1,e2]
   have e3:(List.all [c] fun c=>List.contains [97,98,99,100,101,102,103,104,105,106,107,108,109,110,111,112,113,114,115,116,117,118,119,120,121,122] c)=kc 0 c:=by
    have:=w21 c
    simp only [z8e] at this
    simp only [List.all_cons,List.all_nil,Bool.and_true,this]
   have e4:(List.all (c::r) fun c=>List.contains [97,98,99,100,101,102,103,104,105,106,107,108,109,110,111,112,113,114,115,116,117,118,119,120,121,122,48,49,50,51,52,53,54,55,56,57,45,95] c)=(kc 1 c && r.all fun c=>kc 1 c):=by
    have:=w58
    simp only [z9t] at this
    simp only [List.all_cons,this]
   rw [e3,e4]
   have e5:keyP (c::r)=(kc 0 c && r.all fun c=>kc 1 c):=by
    unfold keyP
    simp only [allI,v1v,Nat.zero_add]
    have:decide (((c::r).length:Int)≤40)=true:=by simpa using h1
    rw [this]; simp
   rw [e5]
   cases hk:kc 0 c
   ·simp
   ·rw [w6c c hk]; simp
  ·have h2:(decide ((1:Int)≤((c::r).length:Int)) && decide (((c::r).length:Int)≤40))=false:=by
    have:decide (((c::r).length:Int)≤40)=false:=by simpa using h1
    rw [this]; simp
   rw [h2]
   have:decide (((c::r).length:Int)≤40)=false:=by simpa using h1
   have e5:keyP (c::r)=false:=by unfold keyP; rw [this]; simp
   rw [e5]; rfl

def momP (n:Int):Bool:=decide (0≤n) && decide (n≤345686399999)
theorem w44 (n:Int):x5g n=some (momP n):=rfl
theorem z6f (n:Int):z5s n=some (momP n):=by
 unfold z5s momP
 congr 2
 by_cases h:n < 345686400000
 ·have:n≤345686399999:=by omega
  simp [h,this]
 ·have:¬ n≤345686399999:=by omega
  simp [h,this]
theorem z4n (n lo hi:Int):Qu n lo hi=some (outP n lo hi):=rfl
theorem z99 (n lo hi:Int):xc n lo hi=some (!outP n lo hi):=by
 unfold xc
 rw [z8m,Bool.not_not]
def spl (c:UInt8):Bs→List Bs
 | []=>[[]]
 | b::l=>if b=c then []::spl c l else match spl c l with
  | p::ps=>(b::p)::ps
  | []=>[[b]]
theorem x3c (c:UInt8) (s:Bs):spl c s≠[]:=by
 cases s with
 | nil=>simp [spl]
 | cons b l =>
  unfold spl
  split
  ·simp
  ·split <;> simp
theorem y3z (c b:UInt8) (l:Bs):Lib.index (b::l) [c]=if b=c then 0 else if Lib.index l [c] == -1 then -1 else Lib.index l [c]+1:=by
 rw [Lib.index]
 by_cases h:b=c
 ·subst h; simp
 ·have hb:(c == b)=false:=by simpa using fun e:c=b=>h e.symm
  have:List.isPrefixOf [c] (b::l)=false:=by simp [List.isPrefixOf,hb]
  rw [this,if_neg h]; rfl
theorem x3a (c:UInt8):∀ s:Bs,Lib.splitK [c] 0 (Lib.count s [c]) s=spl c s
 | []=>by
  rw [Lib.count_miss (by rfl)]
  rfl
 | b::l=>by
  have ih:=x3a c l
  have hi:=y3z c b l
  by_cases h:b=c
  ·rw [if_pos h] at hi
   rw [Lib.count_hit (i:=0) (by simp) (by simpa using hi),Nat.add_comm,Lib.splitK,if_neg (by rw [hi]; decide),hi,spl,if_pos h]
   simp only [Int.toNat_zero,Nat.zero_add,List.length_cons,List.length_nil,Nat.add_zero,List.take_zero,List.drop_succ_cons,List.drop_zero,ih]
  ·rw [if_neg h] at hi
   have hs:spl c (b::l)=match spl c l with | p::ps=>(b::p)::ps | []=>[[b]]:=by rw [spl,if_neg h]
   have hge:=Lib.index_ge l [c]
   by_cases h1:Lib.index l [c]=-1
   ·rw [if_pos (by simpa using h1)] at hi
    rw [Lib.count_miss h1] at ih
    have ih:[l]=spl c l:=ih
    rw [Lib.count_miss hi,hs,← ih]
    rfl
   ·obtain ⟨i,h2⟩:∃ i:Nat,Lib.index l [c]=i:=⟨(Lib.index l [c]).toNat,by omega⟩
    rw [if_neg (by simpa using h1),h2] at hi
    have hi':Lib.index (b::l) [c]=((i+1:Nat):Int):=by rw [hi]; omega
    rw [Lib.count_hit (i:=i) (by simp) h2,Nat.add_comm,Lib.splitK,if_neg (by rw [h2]; simp),h2] at ih
    rw [Lib.count_hit (i:=i+1) (by simp) hi',Nat.add_comm,Lib.splitK,if_neg (by rw [hi']; simp; omega),hi',hs,← ih]
    simp
theorem Wv (s:Bs) (c:UInt8):Yg s [c]=spl c s:=by
 unfold Yg
 rw [Lib.splitB_data]
 exact x3a c s
theorem z1r (c:UInt8):∀ s:Bs,(spl c s).length≤s.length+1
 | []=>by simp [spl]
 | b::l=>by
  have ih:=z1r c l
  unfold spl
  split
  ·simp only [List.length_cons]; omega
  ·split
   ·rename_i p ps h; rw [h] at ih; simp only [List.length_cons] at ih ⊢; omega
   ·simp
theorem Ww (c:UInt8):∀ (s:Bs) (p:Bs),p∈spl c s→p.length≤s.length
 | [],p,h=>by simp [spl] at h; subst h; simp
 | b::l,p,h=>by
  have ih:=Ww c l
  unfold spl at h
  split at h
  ·rcases List.mem_cons.1 h with rfl | h
   ·simp
   ·have:=ih p h; simp only [List.length_cons]; omega
  ·split at h
   ·rename_i q ps hq
    rw [hq] at ih
    rcases List.mem_cons.1 h with rfl | h
    ·have:=ih q (by simp); simp only [List.length_cons]; omega
    ·have:=ih p (List.mem_cons_of_mem _ h); simp only [List.length_cons]; omega
   ·simp at h; subst h; simp
abbrev x3g (l:List Bs):List Bs:=l.mergeSort fun x y=>decide (x≤y)
theorem w20 (l:List Bs) (x:Bs):x∈x3g l↔x∈l:=List.mem_mergeSort
theorem x7a {α:Type} [Inhabited α] (l:List α) (x:α):(l++[x]).toArray[l.length]! = x:=by simp
section
variable {α:Type} [Inhabited α] [DecidableEq α]
theorem x8j (d d':Array α):∀ m,(∀ j,j < m→d[j]! = d'[j]!)→Lib.compactUpTo d m=Lib.compactUpTo d' m
 | 0,_=>rfl
 | m+1,h=>by
  rw [Lib.compactUpTo_succ,Lib.compactUpTo_succ,x8j d d' m fun j hj=>h j (by omega)]
  have e1:=h m (by omega)
  have e2:d[m - 1]! = d'[m - 1]! := h (m - 1) (by omega)
  unfold Lib.keeps
  rw [e1,e2]
theorem v0t (l:List α) (x:α):Lib.compact (l++[x])=Lib.compact l++(if l.getLast?=some x then [] else [x]):=by
 unfold Lib.compact
 rw [List.length_append,List.length_singleton,Lib.compactUpTo_succ]
 congr 1
 ·refine x8j _ _ _ fun j hj => ?_
  rw [getElem!_pos _ _ (by simp; omega),getElem!_pos _ _ (by simpa using hj)]
  simp [List.getElem_append_left hj]
 ·rw [x7a]
  unfold Lib.keeps
  rw [x7a]
  rcases List.eq_nil_or_concat l with rfl | ⟨l',y,rfl⟩
  ·simp
  ·have e1:(l'++[y]++[x]).toArray[(l'++[y]).length - 1]! = y:=by
    have:(l'++[y]).length - 1=l'.length:=by simp
    rw [this,getElem!_pos _ _ (by simp <;> omega)]
    simp
   rw [List.concat_eq_append] at *
   rw [e1]
   have e2:(l'++[y]).length≠0:=by simp
   by_cases h:y=x
   ·subst h; simp
   ·have h':¬ x=y:=fun e=>h e.symm
    simp [h,h']
end
theorem y10 {α:Type} {P:List α→Prop} (h0:P []) (h1:∀ l x,P l→P (l++[x])) (l:List α):P l:=by
 have:∀ n (l:List α),l.length=n→P l:=by
  intro n
  induction n with
  | zero=>intro l h; rw [List.eq_nil_of_length_eq_zero h]; exact h0
  | succ n ih =>
   intro l h
   rcases List.eq_nil_or_concat l with rfl | ⟨l',x,rfl⟩
   ·simp at h
   ·rw [List.concat_eq_append]
    exact h1 _ _ (ih l' (by simpa using h))
 exact this _ l rfl
theorem v0u {α:Type} [Inhabited α] [DecidableEq α] (l:List α) (x:α):x∈Lib.compact l↔x∈l:=by
 induction l using y10 with
 | h0=>simp [Lib.compact,Lib.compactUpTo]
 | h1 l y ih =>
  rw [v0t,List.mem_append,List.mem_append,ih]
  split
  ·rename_i h
   have:y∈l:=List.mem_of_getLast? h
   simp
   rintro rfl
   exact this
  ·rfl
def setB (l:List Bs):List Bs:=Lib.compact (x3g l)
theorem w3c (l:List Bs) (x:Bs):x∈setB l↔x∈l:=by unfold setB; rw [v0u,w20]
noncomputable def gDel {α:Type} (z:α) (s1:List α) (p1:α→Option Bool):Option (List α):=
 (gIdx s1 p1).bind fun (r2:Int)=>if decide (r2=(-1)) then some s1 else (iter (fun (s:Int×Int×(List α))=>if decide (s.2.1 < (s.2.2.length:Int)) then ((at? s.2.2 s.2.1).bind fun (x10:α)=>(p1 x10).bind fun (r12:Bool)=>if !r12 then ((at? s.2.2 s.1).bind fun (x15:α)=>some (.inl (wr (s.1+1),wr (s.2.1+1),(s.2.2.set s.1.toNat x10)))) else some (.inl (s.1,wr (s.2.1+1),s.2.2))) else (Option.map .inr (if (0:Int)≤s.1∧s.1 < (s.2.2.length:Int) then (if (0:Int)≤s.1∧s.1≤((s.2.2.take s.1.toNat++List.replicate (s.2.2.length - s.1.toNat) z).length:Int) then (some ((s.2.2.take s.1.toNat++List.replicate (s.2.2.length - s.1.toNat) z).take s.1.toNat)) else none) else none))) (r2,wr (r2+1),s1))
theorem x73 {α:Type} (q:α→Bool):∀ (l:List α) (k:Nat),0≤fdx q k l→(l.take ((fdx q k l).toNat - k)).filter (fun x => !q x)=l.take ((fdx q k l).toNat - k)
 | [],k,h=>by simp [fdx] at h
 | x::l,k,h=>by
  cases hq:q x
  ·simp only [fdx,hq,if_false,Bool.false_eq_true] at h ⊢
   have ih:=x73 q l (k+1) h
   have h1:=(z61 q l (k+1)).2 h
   have:(fdx q (k+1) l).toNat - k=((fdx q (k+1) l).toNat - (k+1))+1:=by omega
   rw [this,List.take_succ_cons,List.filter_cons,hq]
   simp [ih]
  ·simp [fdx,hq]
theorem y4p {α:Type} (z:α) (l:List α) {p:α→Option Bool} (q:α→Bool) (hl:l.length≤1000000000) (hp:∀ x,x∈l→p x=some (q x)):gDel z l p=some (l.filter fun x => !q x):=by
 unfold gDel
 rw [y90 l q hl hp]
 simp only [Option.bind_some]
 by_cases h0:l.any q=true
 ·obtain ⟨h1,x,h2,h3,h4⟩:=w98 q l h0
  have hlt:=z56 h3
  rw [if_neg (by simp; omega),qc (by omega)]
  have hb:=x73 q l 0 h1
  simp only [Nat.sub_zero] at hb
  refine x4t (w4w (fun s:Int×Int×List α=>0≤s.1∧s.1 < s.2.1∧s.2.1≤(l.length:Int)∧s.2.2.length=l.length∧s.2.2.take s.1.toNat=(l.take s.2.1.toNat).filter (fun x => !q x)∧s.2.2.drop s.2.1.toNat=l.drop s.2.1.toNat) (fun s=>(l.length - s.2.1.toNat)) ?_ _ ?_)
  ·rintro ⟨i,j,s⟩ ⟨g1,g2,g3,g4,g5,g6⟩
   simp only at g1 g2 g3 g4 g5 g6
   refine wq (fun hc => ?_) (fun hc => ?_)
   ·have hc:j < (s.length:Int):=by simpa using hc
    simp only at hc ⊢
    have hj:j.toNat < l.length:=by omega
    have e1:s[j.toNat]?=some l[j.toNat]:=by
     have:=congrArg (fun t=>t[0]?) g6
     simp only [List.getElem?_drop,Nat.add_zero,List.getElem?_eq_getElem hj] at this
     exact this
    have e2:at? s j=some l[j.toNat]:=by unfold at?; rw [if_pos (by omega)]; exact e1
    rw [e2,qc (n:=j+1) (by omega)]
    simp only [Option.bind_some,hp _ (List.getElem_mem hj)]
    have ej:(j+1).toNat=j.toNat+1:=by omega
    have etk:l.take (j.toNat+1)=l.take j.toNat++[l[j.toNat]]:=by rw [List.take_add_one,List.getElem?_eq_getElem hj]; rfl
    cases hq:q l[j.toNat]
    ·simp only [Bool.not_false,if_true]
     have e3:at? s i=some s[i.toNat]:=by unfold at?; rw [if_pos g1,List.getElem?_eq_getElem (by omega)]
     rw [e3,qc (n:=i+1) (by omega)]
     simp only [Option.bind_some]
     refine yv ?_
     have ei:(i+1).toNat=i.toNat+1:=by omega
     refine ⟨⟨by simp only; omega,by simp only; omega,by simp only; omega,by simpa using g4,?_,?_⟩,by simp only; omega⟩
     ·simp only
      rw [ei,ej,etk,List.filter_append,← g5,List.take_add_one,List.getElem?_set_self (by omega),List.take_set_of_le (Nat.le_refl _)]
      simp [hq]
     ·simp only
      rw [ej,List.drop_set_of_lt (by omega)]
      have:=congrArg (List.drop 1) g6
      simpa [List.drop_drop,Nat.add_comm] using this
    ·simp only [Bool.not_true,Bool.false_eq_true,if_false]
     refine yv ⟨⟨g1,by simp only; omega,by simp only; omega,g4,?_,?_⟩,by simp only; omega⟩
     ·simp only
      rw [ej,etk,List.filter_append,← g5]
      simp [hq]
     ·simp only
      rw [ej]
      have:=congrArg (List.drop 1) g6
      simpa [List.drop_drop,Nat.add_comm] using this
   ·have hc:¬ j < (s.length:Int):=by simpa using hc
    have hj:j.toNat=l.length:=by omega
    rw [if_pos (by simp only; omega),if_pos (by simp only [List.length_append,List.length_take,List.length_replicate]; omega)]
    refine yv ?_
    show List.take i.toNat (List.take i.toNat s++_)=_
    rw [List.take_append_of_le_length (by rw [List.length_take]; omega),List.take_take,Nat.min_self,g5,hj,List.take_length]
  ·refine ⟨h1,by simp only; omega,by simp only; omega,rfl,?_,rfl⟩
   simp only
   have e1:(fdx q 0 l+1).toNat=(fdx q 0 l).toNat+1:=by omega
   rw [e1,List.take_add_one,h3,List.filter_append,hb]
   simp [h4]
 ·have h0:l.any q=false:=by simpa using h0
  have h1:=(z61 q l 0).1.2 h0
  have h2:fdx q 0 l=-1:=by
   have:∀ (l:List α) k,fdx q k l < 0→fdx q k l=-1:=by
    intro l
    induction l with
    | nil=>intro k _; rfl
    | cons x l ih =>
     intro k h
     unfold fdx at h ⊢
     split
     ·rename_i hq; rw [if_pos hq] at h; omega
     ·rename_i hq; rw [if_neg hq] at h; exact ih _ h
   exact this l 0 h1
  rw [if_pos (by simpa using h2)]
  congr 1
  symm
  rw [List.filter_eq_self]
  intro x hx
  have:=List.any_eq_false.1 h0 x hx
  simpa using this
section
variable {σ ρ:Type}
theorem Zi {body:σ→Option (σ ⊕ ρ)} {s s':σ} (h:body s=some (.inl s')):iter body s=iter body s':=by
 rw [y9d,h]; rfl
theorem kv {body:σ→Option (σ ⊕ ρ)} {s:σ} {r:ρ} (h:body s=some (.inr r)):iter body s=some r:=by
 rw [y9d,h]; rfl
end
theorem Wt (l:Bs):strN (yk l)=l:=by
 unfold strN yk
 rw [List.map_map]
 conv=>rhs; rw [← List.map_id l]
 refine List.map_congr_left fun c _ => ?_
 simp
theorem y0x (l:Bs):byR (yk l)=true:=by
 unfold byR yk
 rw [List.all_map,List.all_eq_true]
 intro c _
 have:=c.toNat_lt
 simp; omega
theorem Zo (l:Bs):(yk l).length=l.length:=by simp [yk]
theorem xb (a b:Bs):yk (a++b)=yk a++yk b:=by simp [yk]
theorem z0x (B:Nat) (sep:Bs):∀ l:List Bs,(∀ x,x∈l→x.length≤B)→(Lib.join l sep).length≤l.length * (B+sep.length)
 | [],_=>by simp [Lib.join_nil]
 | x::r,h=>by
  rw [Lib.join_cons,List.length_append]
  have h1:=h x (by simp)
  have h2:(Lib.joinTail sep r).length≤r.length * (B+sep.length):=by
   have:∀ r:List Bs,(∀ x,x∈r→x.length≤B)→(Lib.joinTail sep r).length≤r.length * (B+sep.length):=by
    intro r
    induction r with
    | nil=>intro _; simp [Lib.joinTail]
    | cons y r ih =>
     intro hr
     have h3:=hr y (by simp)
     have h4:=ih fun z hz=>hr z (by simp [hz])
     unfold Lib.joinTail at h4 ⊢
     simp only [List.map_cons,List.flatten_cons,List.length_append,List.length_cons,Nat.succ_mul]
     omega
   exact this r fun y hy=>h y (by simp [hy])
  simp only [List.length_cons,Nat.succ_mul]
  omega
theorem y5c {k:Int} {s:zu} (h:SB k s) (hk:k≤1000000) (m:Nat) (hm:m≤1000) (sep:Bs) (hsep:sep.length≤10) (l:List Bs) (hl:l≠[]∧l.length≤1000) (hB:∀ x,x∈l→x.length≤20) :
  Ok (uo s (m:Int) sep l) fun r=>r.1.length≤30000∧SB (k+m) r.2:=by
 unfold uo
 refine ok_g (by omega) ?_
 rw [Int.toNat_natCast]
 refine y2n (fun j (q:List Int×Int×List Bs)=>j≤m∧SB (k+(j:Int)) (zu.mk q.1 q.2.1)∧q.2.2.length≤j∧∀ x,x∈q.2.2→x.length≤20) m 0 _ ⟨by omega,h.mono (by omega),by simp,by simp⟩ ?_ ?_
 ·rintro j ⟨c5,c6,l7⟩ _ hj ⟨h0,h1,h2,h3⟩
  simp only at h1 h2 h3 ⊢
  unfold z6v
  refine yi (Qd h1 (by omega) l hl) fun r hr=>ok_g (by omega) (yv ?_)
  refine ⟨by omega,hr.2.mono (by omega),by simp; omega,fun x hx => ?_⟩
  rcases List.mem_append.1 hx with h | h
  ·exact h3 x h
  ·have:x=r.1:=by simpa using h
   rw [this]; exact hB _ hr.1
 ·rintro ⟨c5,c6,l7⟩ ⟨h0,h1,h2,h3⟩
  simp only at h1 h2 h3 ⊢
  have hj:=z0x 20 sep l7 h3
  have hmm:l7.length * (20+sep.length)≤1000 * 30:=Nat.mul_le_mul (by omega) (by omega)
  unfold z6w
  have hJ:ji l7 sep=some (Lib.join l7 sep):=by
   unfold ji
   rw [if_pos ⟨by omega,by omega⟩]
  rw [hJ]
  exact yv ⟨by simp only; omega,h1.mono (by omega)⟩
theorem z04 (c:UInt8):∀ s:Bs,c ∉ s∨∃ p q,s=p++c::q∧c ∉ p
 | [] => .inl (by simp)
 | x::s=>by
  by_cases h:x=c
  ·exact .inr ⟨[],s,by rw [h]; rfl,by simp⟩
  ·rcases z04 c s with h1 | ⟨p,q,rfl,h1⟩
   ·exact .inl (by simp [h1,Ne.symm h])
   ·exact .inr ⟨x::p,q,rfl,by simp [h1,Ne.symm h]⟩
theorem y31 (c:UInt8):∀ s:Bs,c ∉ s→Lib.index s [c]=-1
 | [],_=>rfl
 | x::s,h=>by
  rw [y3z,if_neg (fun e=>h (by simp [e])),y31 c s (fun e=>h (by simp [e]))]
  try rfl
theorem y32 (c:UInt8) (q:Bs):∀ p:Bs,c ∉ p→Lib.index (p++c::q) [c]=(p.length:Int)
 | [],_=>by rw [List.nil_append,y3z,if_pos rfl]; rfl
 | x::p,h=>by
  rw [List.cons_append,y3z,if_neg (fun e=>h (by simp [e])),y32 c q p (fun e=>h (by simp [e])),if_neg (by simp)]
  simp
theorem z64 (c:UInt8) (s:Bs) (h:c ∉ s):Lib.cut s [c]=(s,[],false):=by
 unfold Lib.cut
 rw [y31 c s h]; rfl
theorem z3t (c:UInt8) (p q:Bs) (h:c ∉ p):Lib.cut (p++c::q) [c]=(p,q,true):=by
 unfold Lib.cut
 rw [y32 c q p h,if_pos (by omega)]
 simp
def trR (c:UInt8) (s:Bs):Bs:=(s.reverse.dropWhile (· == c)).reverse
def trL (c:UInt8) (s:Bs):Bs:=s.dropWhile (· == c)
theorem w03 (c b:UInt8) (l:Bs):trR c (l++[b])=if b=c then trR c l else l++[b]:=by
 unfold trR
 rw [List.reverse_append,List.reverse_singleton,List.singleton_append,List.dropWhile_cons]
 by_cases h:b=c
 ·simp [h]
 ·simp [h]
theorem y1n (c:UInt8) (s:Bs):(trR c s).length≤s.length:=by
 unfold trR
 rw [List.length_reverse]
 have:=(List.dropWhile_sublist (l:=s.reverse) (· == c)).length_le
 simpa using this
theorem w01 (c:UInt8) (s:Bs):s.length≤1000000000→z0f s (c.toNat:Int)=some (trR c s):=by
 refine y10 (P:=fun s=>s.length≤1000000000→z0f s (c.toNat:Int)=some (trR c s)) (fun _ => ?_) (fun l b ih h => ?_) s
 ·unfold z0f
  exact kv rfl
 ·have hl:(l++[b]).length=l.length+1:=by simp
  have e1:wr (((l++[b]).length:Int) - 1)=(l.length:Int):=by rw [hl,qc (by omega)]; omega
  have e2:at? (l++[b]) (l.length:Int)=some b:=by
   unfold at?
   rw [if_pos (by omega),Int.toNat_natCast]; simp
  have e3:sub? (l++[b]) 0 (l.length:Int)=some l:=by
   rw [y6d _ _ (by omega)]; simp
  rw [w03]
  by_cases hb:b=c
  ·rw [if_pos hb]
   have:=ih (by omega)
   unfold z0f at this ⊢
   refine (Zi (s':=l) ?_).trans this
   unfold z74 z1m
   rw [if_pos (by simp),e1,e2]
   simp only [Option.bind_some]
   rw [if_pos (by simp [hb]),e3]; rfl
  ·rw [if_neg hb]
   unfold z0f
   refine kv ?_
   unfold z74 z1m z77
   rw [if_pos (by simp),e1,e2]
   simp only [Option.bind_some]
   have hn:¬ (b.toNat:Int)=(c.toNat:Int):=fun h=>hb (UInt8.toNat_inj.1 (by omega))
   rw [if_neg (by simpa using hn)]; rfl
theorem x1t (c:UInt8):∀ s:Bs,s.length≤1000000000→z2b s (c.toNat:Int)=some (trL c s)
 | [],_=>by
  unfold z2b
  exact kv rfl
 | b::l,h=>by
  simp only [List.length_cons] at h
  have e3:sub? (b::l) 1 ((b::l).length:Int)=some l:=by
   unfold sub?
   rw [if_pos (by simp; omega)]
   simp
  unfold trL
  rw [List.dropWhile_cons]
  by_cases hb:b=c
  ·rw [if_pos (by simp [hb])]
   have:=x1t c l (by omega)
   unfold z2b at this ⊢
   refine (Zi (s':=l) ?_).trans this
   unfold z78 z1n
   rw [if_pos (by simp),List.getElem?_cons_zero]
   simp only [Option.bind_some]
   rw [if_pos (by simp [hb]),e3]; rfl
  ·rw [if_neg (by simp [hb])]
   unfold z2b
   refine kv ?_
   unfold z78 z1n z79
   rw [if_pos (by simp),List.getElem?_cons_zero]
   simp only [Option.bind_some]
   have hn:¬ (b.toNat:Int)=(c.toNat:Int):=fun h=>hb (UInt8.toNat_inj.1 (by omega))
   rw [if_neg (by simpa using hn)]; rfl
theorem z4a (c:UInt8) (hc:c.toNat < 128) (s:Bs) (h:s.length≤1000000000):Zr s [c]=some (trL c (trR c s)):=by
 unfold Zr z4e
 by_cases h0:s=[]
 ·subst h0; rfl
 ·have:=y1n c s
  rw [if_neg (by simp [h0]),if_pos (by simp),List.getElem?_cons_zero]
  simp only [Option.bind_some]
  rw [if_pos (by simp; omega),w01 c s h]
  simp only [Option.bind_some]
  rw [x1t c _ (by omega)]; rfl
theorem w2t:y8e=some true:=by
 have h1:z2k [47,97,47,46,46,47,98]=some 0:=by decide +kernel
 have h2:z2h [47,97,47,46,46,47,98]=some ([47,97,47,46,46,47,98],true):=by
  unfold z2h
  exact Zy.2 ⟨9,by decide +kernel⟩
 have h3:vz [97,47,46,46,47,98] [47]=some [[97],[46,46],[98]]:=by
  unfold vz
  rw [if_pos (by decide),Wv]
  decide +kernel
 have h4:sub? ([47,97,47,46,46,47,98]:Bs) 1 7=some [97,47,46,46,47,98]:=by decide +kernel
 have h5:forL (fun (k:Nat) (x:Bs) (s:(List Bs))=>z18 [[97],[46,46],[98]] k x s) (fun (s:(List Bs))=>z5a s) 0 [[97],[46,46],[98]] []=some ([47,98],0):=by decide +kernel
 have h6:Qs [47,97,47,46,46,47,98]=some ([47,98],0):=by
  unfold Qs
  rw [h1]
  simp only [Option.bind_some,ne_eq,not_true_eq_false,decide_false,Bool.false_eq_true,if_false,h2,Bool.not_true]
  show (sub? ([47,97,47,46,46,47,98]:Bs) 1 7).bind _=_
  rw [h4]
  simp only [Option.bind_some]
  rw [h3]
  simp only [Option.bind_some]
  rw [if_pos (by decide)]
  exact h5
 unfold y8e
 rw [h6]; rfl
def tokL:Bs:=[97,98,99,100,101,102,103,104,105,106,107,108,109,110,111,112,113,114,115,116,117,118,119,120,121,122,65,66,67,68,69,70,71,72,73,74,75,76,77,78,79,80,81,82,83,84,85,86,87,88,89,90,48,49,50,51,52,53,54,55,56,57,33,35,36,37,38,39,42,43,45,46,94,95,96,124,126]
def tokB (s:Bs):Bool:=s.all (fun c=>tokL.contains c) && (decide (s≠[]) && decide ((s.length:Int)≤100))
theorem w08 (c:UInt8):z81 (c.toNat:Int)=some (tokL.contains c):=by
 have:=jg (fun c=>decide (z81 (c.toNat:Int)=some (tokL.contains c))) (by decide +kernel) c
 exact of_decide_eq_true this
theorem Yq (s:Bs) (h:s.length≤1000000000):Ym s=some (tokB s):=by
 unfold Ym
 rw [if_pos h,z03 (p:=fun _ c=>tokL.contains c) (e:=(decide (s≠[]) && decide ((s.length:Int)≤100))) (r0:=false) rfl s 0 (fun j x _ _ => ?_),y48]
 ·unfold tokB
  cases s.all fun c=>tokL.contains c <;> rfl
 ·unfold y2v
  rw [w08]
  simp only [Option.bind_some]
  cases tokL.contains x <;> rfl
theorem z71 (s:Bs) (h:s.length≤1000000000):z2q s=some (tokB s):=by
 unfold z2q y9p
 rw [z99]
 simp only [Option.bind_some]
 have ho:=z4o s tokL h
 have hc:(!outP (s.length:Int) 1 100)=(decide (s≠[]) && decide ((s.length:Int)≤100)):=by
  rw [z8m]
  cases s with
  | nil=>rfl
  | cons a l=>simp; omega
 rw [hc]
 unfold tokB
 cases (decide (s≠[]) && decide ((s.length:Int)≤100))
 ·simp
 ·simp only [if_true,Bool.and_true]
  show (xj s tokL).bind _=_
  rw [ho]; rfl
def rgB (s:Bs) (lo hi:Int):Bool:=s.all fun c => !outP (c.toNat:Int) lo hi
theorem z6e (s:Bs) (lo hi:Int) (h:s.length≤1000000000):Yj s lo hi=some (rgB s lo hi):=by
 unfold Yj y2r
 rw [if_pos h,z03 (p:=fun _ c => !outP (c.toNat:Int) lo hi) (e:=true) (r0:=false) rfl s 0 (fun j x _ _ => ?_),y48]
 ·unfold rgB
  cases s.all fun c => !outP (c.toNat:Int) lo hi <;> rfl
 ·unfold y2q z4v outP
  by_cases h1:(x.toNat:Int) < lo <;> by_cases h2:hi < (x.toNat:Int) <;> simp [h1,h2]
theorem x08 (s:Bs) (lo:Int):z2p s lo=Yj s lo 126:=rfl
theorem y2b {s:Bs} {lo:Int} (h:rgB s lo 126=true):ascB s=true:=by
 unfold rgB at h
 unfold ascB
 rw [List.all_eq_true] at h ⊢
 intro c hc
 have:=h c hc
 unfold outP at this
 simp at this ⊢
 omega
def fldB (s:Bs):Bool:=decide ((s.length:Int)≤2000) && (rgB s 32 126 && decide (trL 32 (trR 32 s)=s))
theorem z0y (s:Bs) (h:s.length≤1000000000):z0q s=some (fldB s):=by
 unfold z0q z2a fldB
 rw [z6e s _ _ h]
 by_cases h1:(s.length:Int)≤2000
 ·rw [if_pos (by simpa using h1)]
  simp only [Option.bind_some]
  cases rgB s 32 126
  ·simp
  ·rw [if_pos rfl,z4a 32 (by decide) s h]
   simp [h1]
 ·rw [if_neg (by simpa using h1)]
  simp [h1]
theorem y96 (s:Bs):y3h s=z0q s:=rfl
def hdP (h:zg):Prop:=h.Name.length≤100000∧h.Value.length≤100000
def hdsP (l:List zg):Prop:=l.length≤1000∧∀ h,h∈l→hdP h
def hdE (h:zg):Int:=if tokB h.Name then (if fldB h.Value then 0 else 3) else 5
def hdsE (l:List zg):Int:=if 50 < (l.length:Int) then 2 else feI (fun _ h=>hdE h) 0 l
theorem Qz (l:List zg) (h:hdsP l):z2l l=some (hdsE l)∧y3g l=some (hdsE l):=by
 constructor
 ·unfold z2l y2x hdsE
  by_cases h0:50 < (l.length:Int)
  ·rw [if_pos (by simpa using h0),if_pos h0]
  ·rw [if_neg (by simpa using h0),if_neg h0,if_pos (by have:=h.1; omega)]
   refine y91 rfl l 0 fun j x _ hj => ?_
   obtain ⟨h1,h2⟩:=h.2 x (List.mem_of_getElem? hj)
   unfold y2w hdE
   rw [Yq _ (by omega),z0y _ (by omega)]
   simp only [Option.bind_some]
   cases tokB x.Name <;> cases fldB x.Value <;> simp
 ·unfold y3g x7j hdsE
  by_cases h0:50 < (l.length:Int)
  ·rw [if_pos (by simpa using h0),if_pos h0]
  ·rw [if_neg (by simpa using h0),if_neg h0,if_pos (by have:=h.1; omega)]
   refine y91 rfl l 0 fun j x _ hj => ?_
   obtain ⟨h1,h2⟩:=h.2 x (List.mem_of_getElem? hj)
   unfold x7i hdE
   rw [z71 _ (by omega),y96,z0y _ (by omega)]
   simp only [Option.bind_some]
   cases tokB x.Name <;> cases fldB x.Value <;> simp
def pthB (s:Bs):Bool:=decide ((s.length:Int)≤1000) && (Lib.hasPrefix s [47] && (rgB s 33 126 && !Lib.containsAny s [63,35]))
theorem x4i (s:Bs) (h:s.length≤1000000000) (hr:rgB s 33 126=true):z5e s [63,35]=some (Lib.containsAny s [63,35]):=by
 unfold z5e
 rw [if_pos ⟨⟨h,by simp⟩,y2b hr,rfl⟩]
theorem z8l (s:Bs) (h:s.length≤1000000000):z2k s=some (if pthB s then 0 else 3):=by
 unfold z2k z0d pthB y7u
 rw [z6e s _ _ h]
 by_cases h1:1000 < (s.length:Int)
 ·have h2:¬ (s.length:Int)≤1000:=by omega
  rw [if_pos (by simpa using h1)]
  simp [h2]
 ·have h2:(s.length:Int)≤1000:=by omega
  rw [if_neg (by simpa using h1)]
  simp only [Option.bind_some]
  cases Lib.hasPrefix s [47]
  ·simp
  ·cases hr:rgB s 33 126
   ·simp
   ·rw [x4i s h hr]
    cases hc:Lib.containsAny s [63,35] <;> simp [h2]
theorem x4j (s:Bs) (h:s.length≤1000000000):y28 s=some (pthB s):=by
 unfold y28 y0e pthB
 rw [z99,x08,z6e s _ _ h]
 simp only [Option.bind_some]
 cases s with
 | nil=>rfl
 | cons a l =>
  have hc:(!outP ((a::l).length:Int) 1 1000)=decide (((a::l).length:Int)≤1000):=by
   rw [z8m]; simp; omega
  have hp:Lib.hasPrefix (a::l) [47]=decide ((a.toNat:Int)=47):=by
   have:=jg (fun a=>((47:UInt8) == a) == decide ((a.toNat:Int)=47)) (by decide +kernel) a
   unfold Lib.hasPrefix
   simp only [List.isPrefixOf,Bool.and_true]
   simpa using this
  rw [hc,hp,List.getElem?_cons_zero]
  simp only [Option.bind_some]
  cases decide (((a::l).length:Int)≤1000)
  ·simp
  ·cases decide ((a.toNat:Int)=47)
   ·simp
   ·cases hr:rgB (a::l) 33 126
    ·simp
    ·rw [x4i _ h hr]
     simp
def qryB (s:Bs):Bool:=decide ((s.length:Int)≤1000) && (rgB s 33 126 && !Lib.contains s [35])
theorem y2f (s:Bs) (h:s.length≤1000000000):Zd s=some (if qryB s then 0 else 3):=by
 unfold Zd Zq qryB z0h
 rw [z6e s _ _ h,if_pos h]
 by_cases h1:1000 < (s.length:Int)
 ·have h2:¬ (s.length:Int)≤1000:=by omega
  rw [if_pos (by simpa using h1)]
  simp [h2]
 ·have h2:(s.length:Int)≤1000:=by omega
  rw [if_neg (by simpa using h1)]
  simp only [Option.bind_some]
  cases hr:rgB s 33 126
  ·simp
  ·cases hc:Lib.contains s [35] <;> simp [h2]
theorem w4e (s:Bs) (h:s.length≤1000000000):Yn s=some (qryB s):=by
 unfold Yn z01 qryB z0h
 rw [x08,z6e s _ _ h,if_pos h]
 by_cases h1:(s.length:Int)≤1000
 ·rw [if_pos (by simpa using h1)]
  simp only [Option.bind_some]
  cases hr:rgB s 33 126 <;> cases hc:Lib.contains s [35] <;> simp [h1]
 ·rw [if_neg (by simpa using h1)]
  simp [h1]
noncomputable def z24 (s:Bs):Option Bool:=
 forL (fun (k:Nat) (x:Bs) (_:Unit)=>y2s k x) (fun (_:Unit)=>y2t s (Lib.cut s [58])) 0 (spl 46 (Lib.cut s [58]).1) ()
noncomputable def y35 (k:Nat) (x:Bs):Option (Unit ⊕ (Bs×Int)):=
 (xc (x.length:Int) 1 63).bind fun r33=>if !r33 then (z6t true) else ((xj x [97,98,99,100,101,102,103,104,105,106,107,108,109,110,111,112,113,114,115,116,117,118,119,120,121,122,65,66,67,68,69,70,71,72,73,74,75,76,77,78,79,80,81,82,83,84,85,86,87,88,89,90,48,49,50,51,52,53,54,55,56,57,45]).bind fun r37=>if !r37 then (z6t true) else (z6t (decide (trL 45 (trR 45 x)≠x))))
theorem w8y (k:Nat) (x:Bs) (h:x.length≤1000000000):y4l k x=y35 k x:=by
 unfold y4l y35
 rw [z4a 45 (by decide) x h]
 rfl
noncomputable def z6o (r2:(Bs×Bs×Bool)) (r4:(Int×Bool)) (v17:Bool):Option (Bs×Int):=
 if v17 then (some ([],3)) else (if (spl 46 r2.1).length≤1000000000 then forL (fun (k:Nat) (x:Bs) (_:Unit)=>y35 k x) (fun (_:Unit)=>y4m r2 r4) 0 (spl 46 r2.1) () else none)
theorem w8z (r2:(Bs×Bs×Bool)) (r4:(Int×Bool)) (v:Bool) (h:r2.1.length≤100000):z6u r2 r4 v=z6o r2 r4 v:=by
 unfold z6u z6o vz
 cases v
 case true=>rfl
 simp only [Bool.false_eq_true,if_false]
 rw [if_pos (c:=r2.1.length≤1000000000∧_) ⟨by omega,by simp⟩,Wv]
 simp only [Option.bind_some]
 have:forL (fun (k:Nat) (x:Bs) (_:Unit)=>y4l k x) (fun (_:Unit)=>y4m r2 r4) 0 (spl 46 r2.1) ()=forL (fun (k:Nat) (x:Bs) (_:Unit)=>y35 k x) (fun (_:Unit)=>y4m r2 r4) 0 (spl 46 r2.1) ():=by
  refine y92 (fun _=>rfl) _ 0 () fun j x s _ hj => ?_
  have:=Ww 46 r2.1 x (List.mem_of_getElem? hj)
  exact w8y j x (by omega)
 rw [this]
noncomputable def y34 (v1:Bs):Option (Bs×Int):=
 (z0s (Lib.cut v1 [58]).2.1 5).bind fun r4=>if decide (255 < (v1.length:Int)) then (z6o (Lib.cut v1 [58]) r4 true) else (if (Lib.cut v1 [58]).2.2 then (if !r4.2 then (z6o (Lib.cut v1 [58]) r4 true) else ((xc r4.1 1 65535).bind fun r12=>z6o (Lib.cut v1 [58]) r4 (!r12))) else (z6o (Lib.cut v1 [58]) r4 false))
theorem x8g (s:Bs) (c:UInt8):(Lib.cut s [c]).1.length≤s.length:=by
 unfold Lib.cut
 split
 ·simp; omega
 ·exact Nat.le_refl _
theorem z6g (s:Bs) (h:s.length≤100000):Zu s=z24 s:=by
 have h1:=x8g s 58
 have h2:=z1r 46 (Lib.cut s [58]).1
 unfold Zu z24 vq vz
 rw [if_pos (by omega)]
 simp only [Option.bind_some]
 rw [if_pos ⟨by omega,by simp⟩,Wv]
 simp only [Option.bind_some]
 rw [if_pos (by omega)]
theorem x61 (s:Bs) (h:s.length≤100000):z5w s=y34 s:=by
 have h1:=x8g s 58
 unfold z5w y34 vq
 rw [if_pos (by omega)]
 simp only [Option.bind_some]
 congr 1
 funext r4
 simp only [w8z _ _ _ (show (Lib.cut s [58]).1.length≤100000 by omega)]
def jx:List Bs:=[[65,46,66,58,56,48],[99,46,100],[97,46,98],[65,46,66],[97,46,98,58,56,48],[99,46,100,58,56,48,56,48],[115,104,111,112,46,101,120,97,109,112,108,101],[97,46,98,58,52,52,51],[97,46,98,58,56,48,56,48],[120,45,49,46,121],[49,46,50,46,51,46,52],[],[97,46,46,98],[45,97,46,98],[97,46,98,58,48],[97,46,98,58,48,56],[97,46,98,58,54,53,53,51,54],[97,95,98],[97,46,98,58],[97,32,98],List.replicate 64 97]
noncomputable def x64 (s:Bs):Bool:=match z24 s,y34 s with
 | some b,some r=>r.2 == (if b then 0 else 3)
 | _,_=>false
theorem w8s:jx.all x64=true:=by decide +kernel
theorem y0a:jx.all (fun s=>decide (s.length≤1000))=true:=by decide +kernel
theorem y33 {s:Bs} (h:s∈jx):∃ b r,Zu s=some b∧z5w s=some r∧r.2=if b then 0 else 3:=by
 have h1:=List.all_eq_true.1 w8s s h
 have h2:=of_decide_eq_true (List.all_eq_true.1 y0a s h)
 rw [z6g s (by omega),x61 s (by omega)]
 unfold x64 at h1
 split at h1
 ·rename_i b r e1 e2
  exact ⟨b,r,e1,e2,by simpa using h1⟩
 ·cases h1
theorem v0e (c:UInt8):(encL (IntKind.wrap .i32 (c.toNat:Int))).length≤4:=by
 have:=jg (fun c=>decide ((encL (IntKind.wrap .i32 (c.toNat:Int))).length≤4)) (by decide +kernel) c
 exact of_decide_eq_true this
theorem Wr (l:Bs) (a b:Int) (h:0≤a∧a≤b∧b≤(l.length:Int)):Ok (sub? l a b) fun r=>(r.length:Int)=b - a:=by
 unfold sub?
 rw [if_pos h]
 exact yv (by simp; omega)
theorem v04 {k:Int} {s:zu} (h:SB k s) (hk:k≤1000000) (t v:Bs) (ht:t.length≤100000) (hv:v.length≤100000) :
  Ok (z9g s t v) fun r=>r.1.length≤t.length+v.length+4∧SB (k+3) r.2:=by
 unfold z9g
 refine wq (fun _=>yv ⟨by simp only; omega,h.mono (by omega)⟩) (fun h0 => ?_)
 simp only [Bool.or_eq_true,decide_eq_true_eq,not_or] at h0
 have ht0:0 < t.length:=by cases hq:t with | nil=>exact absurd hq h0.1 | cons _ _=>simp
 have hv0:0 < v.length:=by cases hq:v with | nil=>exact absurd hq h0.2 | cons _ _=>simp
 refine yi (z1u h (by omega) _ (by omega)) fun r5 h5=>yi (z1u h5.2 (by omega) _ (by omega)) fun r7 h7 => ?_
 have b5:=h5.1.2.1 (by omega)
 have b7:=h7.1.2.1 (by omega)
 have c5:=h5.1.1
 have c7:=h7.1.1
 have hat:Ok (at? v r7.1) fun _=>True:=by
  unfold at?
  rw [if_pos c7,List.getElem?_eq_getElem (by omega)]
  exact ⟨_,rfl,trivial⟩
 refine yi hat fun x9 _=>yi (z1u h7.2 (by omega) 3 (by omega)) fun r11 h11 => ?_
 have he:=v0e x9
 have hw:wr (r5.1+1)=r5.1+1:=qc (by omega)
 have hS:SB (k+3) r11.2:=h11.2.mono (by omega)
 rw [hw]
 refine wq (fun _ => ?_) (fun _=>wq (fun _ => ?_) (fun _ => ?_))
 ·refine yi (Wr t _ _ ⟨by omega,by omega,by omega⟩) fun l14 h14=>ok_g (by omega) (yi (Wr t _ _ ⟨by omega,by omega,by omega⟩) fun l17 h17=>ok_g (by simp; omega) (yv ⟨by simp; omega,hS⟩))
 ·refine yi (Wr t _ _ ⟨by omega,by omega,by omega⟩) fun l14 h14=>ok_g (by omega) (yi (Wr t _ _ ⟨by omega,by omega,by omega⟩) fun l17 h17=>ok_g (by simp; omega) (yv ⟨by simp; omega,hS⟩))
 ·refine yi (Wr t _ _ ⟨by omega,by omega,by omega⟩) fun l14 h14=>yi (Wr t _ _ ⟨by omega,by omega,by omega⟩) fun l17 h17=>ok_g (by omega) (yv ⟨by simp; omega,hS⟩)
theorem v2b {k:Int} {s:zu} (h:SB k s) (hk:k≤1000):Ok (z2r s) fun r=>r.1.length≤30000∧SB (k+200) r.2:=by
 unfold z2r z3d
 refine yi (z4k h (by omega) 0 4 (by omega)) fun r hr => ?_
 obtain ⟨m,hm⟩:∃ m:Nat,r.1=(m:Int):=⟨r.1.toNat,by omega⟩
 rw [hm]
 refine yi (y5c hr.2 (by omega) m (by omega) [38] (by simp) _ ⟨by simp,by simp⟩ (by decide)) fun r2 h2=>yi (kh h2.2 (by omega) 12 (by omega)) fun r3 h3=>wq (fun _ => ?_) (fun _=>yv ⟨h2.1,?_⟩)
 ·refine yi (y5c h3 (by omega) 101 (by omega) [38] (by simp) [[120]] ⟨by simp,by simp⟩ (by decide)) fun r4 h4=>yi (Qd h4.2 (by omega) _ ⟨by simp,by simp⟩) fun r5 h5=>yv ⟨?_,?_⟩
  ·have hm:=h5.1
   simp only [List.mem_cons,List.not_mem_nil,or_false] at hm
   rcases hm with e | e | e | e | e | e <;> rw [e] <;> first | decide | exact h4.1
  ·exact h5.2.mono (by omega)
 ·exact h3.mono (by omega)
theorem xg {k:Int} {s:zu} (h:SB k s) (hk:k≤100000000) (B:Nat) (l:List Bs) (hl:l≠[]∧l.length≤1000) (hB:∀ x,x∈l→x.length≤B):Ok (vr s l) fun r=>r.1.length≤B∧SB (k+1) r.2:=
 x4s (Qd h hk l hl) fun r hr=>⟨hB _ hr.1,hr.2⟩
theorem x35 (s:Bs) (n:Int) (h:0≤n∧n≤1000000∧s.length≤1000000):Ok (z2c s n) fun r=>r=Lib.repeatL s n.toNat:=by
 unfold z2c
 rw [if_pos h]
 exact yv rfl
theorem w4o {k:Int} {s:zu} (h:SB k s) (hk:k≤100000):Ok (z9d s) fun r=>r.1.length≤100000∧SB (k+30) r.2:=by
 have hJ:∀ (p:Bs) (c:List Int) (a:Int),p.length≤40000→SB (k+20) (zu.mk c a)→Ok (z3e p c a) fun r=>r.1.length≤100000∧SB (k+30) r.2:=by
  intro p c a hp hs
  unfold z3e z6x
  refine yi (kh hs (by omega) 12 (by omega)) fun r hr=>wq (fun _ => ?_) (fun _=>yv ⟨by simp only; omega,hr.mono (by omega)⟩)
  refine yi (v04 hr (by omega) p _ (by omega) (by simp)) fun r2 h2=>yv ⟨?_,h2.2.mono (by omega)⟩
  have:=h2.1
  simp only [List.length_cons,List.length_nil] at this
  simp only
  omega
 unfold z9d
 refine yi (z4k h (by omega) 0 4 (by omega)) fun r hr => ?_
 obtain ⟨m,hm⟩:∃ m:Nat,r.1=(m:Int):=⟨r.1.toNat,by omega⟩
 rw [hm]
 refine yi (y5c hr.2 (by omega) m (by omega) [47] (by simp) _ ⟨by simp,by simp⟩ (by decide)) fun r2 h2=>ok_g (by simp; omega) (yi (kh h2.2 (by omega) 12 (by omega)) fun r3 h3=>wq (fun _ => ?_) (fun _ => ?_))
 ·refine yi (x35 _ _ ⟨by omega,by omega,by simp⟩) fun r4 h4 => ?_
  have hl:r4.length=1020:=by rw [h4]; decide +kernel
  refine ok_g (by simp; omega) (yi (xg h3 (by omega) 2000 _ ⟨by simp,by simp⟩ (by simp [hl])) fun r5 h5 => ?_)
  exact hJ _ _ _ (by have:=h5.1; omega) (h5.2.mono (by omega))
 ·exact hJ _ _ _ (by have:=h2.1; simp; omega) (h3.mono (by omega))
def rqP (r:zw):Prop:=r.Method.length≤100000∧r.Host∈jx∧r.Path.length≤100000∧r.Query.length≤100000∧r.From.length≤100000∧hdsP r.Headers
theorem y4w (p:UInt8→Bool):∀ l:Bs,l.dropWhile p=[]↔l.all p=true
 | []=>by simp
 | c::l=>by
  rw [List.dropWhile_cons,List.all_cons]
  cases h:p c
  ·simp
  ·simpa using y4w p l
theorem x77 (p:UInt8→Bool):∀ (l t:Bs) (c:UInt8),l.dropWhile p=c::t→p c=false
 | [],_,_,h=>by cases h
 | d::l,t,c,h=>by
  rw [List.dropWhile_cons] at h
  cases hd:p d
  ·rw [hd] at h
   have:d=c:=by simpa using (List.cons.inj h).1
   rw [← this]; exact hd
  ·rw [hd] at h
   exact x77 p l t c (by simpa using h)
theorem y4x (q:Bs) (h:(Lib.cut q [13,10]).2.2=true):(Lib.cut q [13,10]).1.length+2≤q.length∧(Lib.cut q [13,10]).2.1=q.drop ((Lib.cut q [13,10]).1.length+2):=by
 unfold Lib.cut at h ⊢
 split at h
 ·rename_i h0
  rw [if_pos h0]
  have:=Lib.index_room q [13,10] h0
  simp only [List.length_cons,List.length_nil] at this
  have e:(q.take (Lib.index q [13,10]).toNat).length=(Lib.index q [13,10]).toNat:=by rw [List.length_take]; omega
  simp only
  rw [e]
  exact ⟨by omega,rfl⟩
 ·cases h
theorem x0e (q:Bs):(Lib.cut q [13,10]).1.length≤q.length:=by
 unfold Lib.cut
 split
 ·rw [List.length_take]; omega
 ·exact Nat.le_refl _
abbrev lo (s:Bs):Bs:=Lib.toLowerA s
theorem y8q (x:UInt8):(Lib.lowerB x).toNat=if 65≤x.toNat∧x.toNat≤90 then x.toNat+32 else x.toNat:=by
 have:=jg (fun x=>decide ((Lib.lowerB x).toNat=if 65≤x.toNat∧x.toNat≤90 then x.toNat+32 else x.toNat)) (by decide +kernel) x
 exact of_decide_eq_true this
theorem w9u (x y:UInt8):Lib.foldEq x y=decide (Lib.lowerB x=Lib.lowerB y):=by
 unfold Lib.foldEq
 refine decide_eq_decide.2 ?_
 rw [← UInt8.toNat_inj,y8q,y8q]
 split <;> split <;> omega
theorem x75:∀ a b:Bs,Lib.equalFold a b=decide (lo a=lo b)
 | [],[]=>rfl
 | [],y::t=>by simp [Lib.equalFold,lo,Lib.toLowerA]
 | x::s,[]=>by simp [Lib.equalFold,lo,Lib.toLowerA]
 | x::s,y::t=>by
  have ih:=x75 s t
  show (Lib.foldEq x y && Lib.equalFold s t)=_
  rw [w9u,ih]
  unfold lo Lib.toLowerA
  simp only [List.map_cons,List.cons.injEq]
  by_cases h1:Lib.lowerB x=Lib.lowerB y <;> simp [h1]
theorem Zl {s:Bs} (h:tokB s=true):ascB s=true:=by
 unfold tokB at h
 simp only [Bool.and_eq_true] at h
 unfold ascB
 refine List.all_eq_true.2 fun c hc => ?_
 have h1:=List.all_eq_true.1 h.1 c hc
 have h2:=jg (fun c => !tokL.contains c || decide (c.toNat < 128)) (by decide +kernel) c
 rw [h1] at h2
 simpa using h2
theorem Ye {s:Bs} (h:tokB s=true):s.length≤100:=by
 unfold tokB at h
 simp only [Bool.and_eq_true,decide_eq_true_eq] at h
 omega
def nmB (n:Bs) (h:zg):Bool:=decide (lo h.Name=lo n)
def nmOK (h:zg):Prop:=ascB h.Name=true∧h.Name.length≤100000
theorem z8n (h:zg) (n:Bs) (h1:nmOK h) (h2:ascB n=true):Qr h n=some (nmB n h):=by
 unfold Qr z2e
 rw [if_pos ⟨by have:=h1.2; omega,h1.1,h2⟩]
 simp only [Option.bind_some,x75]
 rfl
theorem v1w (a b:Bs) (ha:ascB a=true∧a.length≤100000) (hb:ascB b=true∧b.length≤100000):y79 a b=some (decide (lo a=lo b)):=by
 unfold y79 jv
 rw [if_pos ⟨by omega,ha.1⟩]
 simp only [Option.bind_some]
 rw [if_pos ⟨by omega,hb.1⟩]
 rfl
theorem y5d (l:List zg) (n:Bs) (hl:l.length≤1000000) (h:∀ x,x∈l→nmOK x) (hn:ascB n=true):z0j l n=some (l.filter fun x => !nmB n x):=by
 unfold z0j jj
 rw [if_pos (by omega)]
 simp only [Option.bind_some]
 have e:z5i l (fun (a0:zg)=>z2g a0 n)=some (l.filter fun x => !nmB n x):=
  y4p (zg.mk [] []) l (p:=fun (a0:zg)=>z2g a0 n) (nmB n) (by omega) fun x hx=>by
   unfold z2g
   rw [z8n x n (h x hx) hn]; rfl
 rw [e]; rfl
theorem z3b {l:List zg} (h:hdsE l=0):∀ x,x∈l→tokB x.Name=true∧fldB x.Value=true:=by
 unfold hdsE at h
 split at h
 ·cases h
 ·have key:∀ (l:List zg) (k:Nat),feI (fun _ h=>hdE h) k l=0→∀ x,x∈l→hdE x=0:=by
   intro l
   induction l with
   | nil=>intro _ _ x hx; cases hx
   | cons y l ih =>
    intro k h x hx
    unfold feI at h
    split at h
    ·rename_i h1; exact absurd h h1
    ·rename_i h1
     rcases List.mem_cons.1 hx with rfl | hx
     ·exact Classical.byContradiction h1
     ·exact ih (k+1) h x hx
  intro x hx
  have h1:=key l 0 h x hx
  unfold hdE at h1
  cases ht:tokB x.Name
  ·rw [ht] at h1; cases h1
  ·cases hf:fldB x.Value
   ·rw [ht,hf] at h1; cases h1
   ·exact ⟨rfl,rfl⟩
theorem xl {l:List zg} (h:hdsE l=0):l.length≤50:=by
 unfold hdsE at h
 split at h
 ·cases h
 ·omega
theorem Wd {s:Bs} (h:fldB s=true):s.length≤2000:=by
 unfold fldB at h
 simp only [Bool.and_eq_true,decide_eq_true_eq] at h
 omega
end Go.Proofs.YtahcnngcpjkpgabGreatDoor
