/- Plain: messages: tokens, fields, headers, paths, queries and hosts: the program and the reference agree. -/
import Derived.Test.YtbndlmnjeofkdaaGreatDoorMc
import Derived.Test.YtbndlmnjeofkdaaGreatDoorZsm
namespace Go.Proofs.YtbndlmnjeofkdaaGreatDoor
set_option linter.unusedVariables false
set_option maxRecDepth 20000
section
variable {α β σ ρ:Type}
def Ok (o:Option α) (Q:α→Prop):Prop:=∃ x,o=some x∧Q x
variable {o a b:Option α} {Q Q':α→Prop}
theorem yl {x:α} (h:Q x):Ok (some x) Q:=⟨x,rfl,h⟩
theorem ya {f:α→Option β} {R:β→Prop} (h:Ok o Q) (k:∀ x,Q x→Ok (f x) R):Ok (o.bind f) R:=by
 obtain ⟨x,rfl,hx⟩:=h
 exact k x hx
theorem qm {c:Prop} [Decidable c] (h1:c→Ok a Q) (h2:¬ c→Ok b Q):Ok (if c then a else b) Q:=by
 by_cases h:c
 ·rw [if_pos h]; exact h1 h
 ·rw [if_neg h]; exact h2 h
theorem ok_g {c:Prop} [Decidable c] (hc:c) (h:Ok a Q):Ok (if c then a else none) Q:=by rw [if_pos hc]; exact h
theorem y9e (h:Ok o Q) (k:∀ x,Q x→Q' x):Ok o Q':=let ⟨x,h1,h2⟩:=h; ⟨x,h1,k x h2⟩
theorem y9f {x:α} (h:Ok o (· = x)):o=some x:=by obtain ⟨y,h1,h2⟩:=h; rw [h1,h2]
def rd (I:σ→Prop) (Q:ρ→Prop):σ ⊕ ρ→Prop
 | .inl s=>I s
 | .inr r=>Q r
theorem y3i {body:Nat→α→σ→Option (σ ⊕ ρ)} {fin:σ→Option ρ} {R:ρ→Prop} (I:Nat→σ→Prop):∀ (l:List α) (k:Nat) (s:σ),I k s →
  (∀ j x s,k≤j→l[j - k]?=some x→I j s→Ok (body j x s) (rd (I (j+1)) R))→(∀ s,I (k+l.length) s→Ok (fin s) R)→Ok (forL body fin k l s) R
 | [],k,s,h0,hs,hf=>hf s h0
 | x::l,k,s,h0,hs,hf=>by
  refine ya (hs k x s (Nat.le_refl _) (by simp) h0) fun q hq => ?_
  cases q with
  | inl s' =>
   refine y3i I l (k+1) s' hq (fun j y s hj hy hi=>hs j y s (by omega) ?_ hi) (fun s hi=>hf s ?_)
   ·obtain ⟨m,hm⟩:∃ m,j - k=m+1:=⟨j - k - 1,by omega⟩
    rw [hm,List.getElem?_cons_succ]
    have:j - (k+1)=m:=by omega
    rw [this] at hy; exact hy
   ·simp only [List.length_cons]
    have:k+(l.length+1)=k+1+l.length:=by omega
    rw [this]; exact hi
  | inr r=>exact ⟨r,rfl,hq⟩
theorem z5z {body:Nat→σ→Option (σ ⊕ ρ)} {fin:σ→Option ρ} {R:ρ→Prop} (I:Nat→σ→Prop):∀ (n k:Nat) (s:σ),I k s →
  (∀ j s,k≤j→j < k+n→I j s→Ok (body j s) (rd (I (j+1)) R))→(∀ s,I (k+n) s→Ok (fin s) R)→Ok (rng body fin n k s) R
 | 0,k,s,h0,hs,hf=>hf s h0
 | n+1,k,s,h0,hs,hf=>by
  refine ya (hs k s (Nat.le_refl _) (by omega) h0) fun q hq => ?_
  cases q with
  | inl s'=>exact z5z I n (k+1) s' hq (fun j s hj hy hi=>hs j s (by omega) (by omega) hi) (fun s hi=>hf s (by rw [show k+(n+1)=k+1+n by omega]; exact hi))
  | inr r=>exact ⟨r,rfl,hq⟩
theorem x8x {body:σ→Option (σ ⊕ ρ)} {R:ρ→Prop} (I:σ→Prop) (μ:σ→Nat) (step:∀ s,I s→Ok (body s) (rd (fun s'=>I s'∧μ s' < μ s) R)) (s:σ) (h:I s):Ok (iter body s) R:=by
 have key:∀ n s,μ s < n→I s→Ok (iter body s) R:=by
  intro n
  induction n with
  | zero=>intro s h; omega
  | succ n ih =>
   intro s hn hi
   rw [y4x]
   refine ya (step s hi) fun q hq => ?_
   cases q with
   | inl s'=>exact ih s' (by have:=hq.2; omega) hq.1
   | inr r=>exact ⟨r,rfl,hq⟩
 exact key _ s (Nat.lt_succ_self _) h
theorem y5g {body body':Nat→α→σ→Option (σ ⊕ ρ)} {fin fin':σ→Option ρ} (hf:∀ s,fin s=fin' s):∀ (l:List α) (k:Nat) (s:σ),(∀ j x s,k≤j→l[j - k]?=some x→body j x s=body' j x s)→forL body fin k l s=forL body' fin' k l s
 | [],k,s,h=>hf s
 | x::l,k,s,h=>by
  have h1:=h k x s (Nat.le_refl _) (by simp)
  show (body k x s).bind _=(body' k x s).bind _
  rw [h1]
  congr 1
  funext q
  cases q with
  | inl s' =>
   refine y5g hf l (k+1) s' fun j y s hj hy=>h j y s (by omega) ?_
   obtain ⟨m,hm⟩:∃ m,j - k=m+1:=⟨j - k - 1,by omega⟩
   rw [hm,List.getElem?_cons_succ]
   have:j - (k+1)=m:=by omega
   rw [this] at hy; exact hy
  | inr r=>rfl
end

section
variable {α ρ:Type}
def allI (p:Nat→α→Bool):Nat→List α→Bool
 | _,[]=>true
 | k,x::l=>p k x && allI p (k+1) l
theorem z1l {body:Nat→α→Unit→Option (Unit ⊕ ρ)} {fin:Unit→Option ρ} {p:Nat→α→Bool} {e r0:ρ} (hf:fin ()=some e):∀ (l:List α) (k:Nat),(∀ j x,k≤j→l[j - k]?=some x→body j x ()=if p j x then some (.inl ()) else some (.inr r0))→forL body fin k l ()=some (if allI p k l then e else r0)
 | [],k,h=>by simp only [forL,allI,if_true]; exact hf
 | x::l,k,h=>by
  have h1:=h k x (Nat.le_refl _) (by simp)
  show (body k x ()).bind _=_
  rw [h1]
  cases hp:p k x
  ·simp [allI,hp,after]
  ·simp only [allI,hp,Bool.true_and,if_true,Option.bind_some,after]
   refine z1l hf l (k+1) fun j y hj hy=>h j y (by omega) ?_
   obtain ⟨m,hm⟩:∃ m,j - k=m+1:=⟨j - k - 1,by omega⟩
   rw [hm,List.getElem?_cons_succ]
   have:j - (k+1)=m:=by omega
   rw [this] at hy; exact hy
def feI (e:Nat→α→Int):Nat→List α→Int
 | _,[]=>0
 | k,x::l=>if e k x≠0 then e k x else feI e (k+1) l
theorem y1e {body:Nat→α→Unit→Option (Unit ⊕ Int)} {fin:Unit→Option Int} {e:Nat→α→Int} (hf:fin ()=some 0):∀ (l:List α) (k:Nat),(∀ j x,k≤j→l[j - k]?=some x→body j x ()=if e j x≠0 then some (.inr (e j x)) else some (.inl ()))→forL body fin k l ()=some (feI e k l)
 | [],k,h=>by simp only [forL,feI]; exact hf
 | x::l,k,h=>by
  have h1:=h k x (Nat.le_refl _) (by simp)
  show (body k x ()).bind _=_
  rw [h1]
  by_cases hp:e k x≠0
  ·simp [feI,hp,after]
  ·simp only [feI,hp,if_false,Option.bind_some,after]
   refine y1e hf l (k+1) fun j y hj hy=>h j y (by omega) ?_
   obtain ⟨m,hm⟩:∃ m,j - k=m+1:=⟨j - k - 1,by omega⟩
   rw [hm,List.getElem?_cons_succ]
   have:j - (k+1)=m:=by omega
   rw [this] at hy; exact hy
end

def outP (n lo hi:Int):Bool:=decide (n < lo) || decide (hi < n)
theorem y3h (n lo hi:Int):outP n lo hi = !(decide (lo≤n) && decide (n≤hi)):=by
 unfold outP
 by_cases h1:n < lo
 ·have:¬ lo≤n:=by omega
  simp [h1,this]
 ·have h1':lo≤n:=by omega
  by_cases h2:hi < n
  ·have:¬ n≤hi:=by omega
   simp [h1',h2,this]
  ·have:n≤hi:=by omega
   simp [h1,h1',h2,this]
section
variable {α β:Type}
theorem y1q (q:α→Bool):∀ (l:List α) (k:Nat),allI (fun _ x=>q x) k l=l.all q
 | [],k=>rfl
 | x::l,k=>by simp only [allI,List.all_cons,y1q q l (k+1)]
theorem x5s (l:List α) (k:Nat) (h:k≤l.length):sub? l 0 (k:Int)=some (l.take k):=by
 unfold sub?
 rw [if_pos (by omega)]
 simp
def gIdx (l:List α) (p:α→Option Bool):Option Int:=if l.length≤1000000000 then forL (fun (k:Nat) (x:α) (s:Unit)=>(p x).bind fun r=>if r then (some (.inr (k:Int))) else (some (.inl ()))) (fun _=>some (-1)) 0 l () else none
def fdx (q:α→Bool):Nat→List α→Int
 | _,[]=>-1
 | k,x::l=>if q x then (k:Int) else fdx q (k+1) l
theorem y5e (l:List α) {p:α→Option Bool} (q:α→Bool) (hl:l.length≤1000000000) (hp:∀ x,x∈l→p x=some (q x)):gIdx l p=some (fdx q 0 l):=by
 unfold gIdx
 rw [if_pos hl]
 have:∀ (l:List α) (k:Nat),(∀ x,x∈l→p x=some (q x))→forL (fun (k:Nat) (x:α) (s:Unit)=>(p x).bind fun r=>if r then (some (.inr (k:Int))) else (some (.inl ()))) (fun _=>some (-1)) k l ()=some (fdx q k l):=by
  intro l
  induction l with
  | nil=>intro k _; rfl
  | cons x l ih =>
   intro k hp
   have h1:=hp x (by simp)
   show Option.bind ((p x).bind _) _=_
   rw [h1]
   cases hq:q x
   ·simp only [Option.bind_some,after,fdx,hq,if_false,Bool.false_eq_true]
    exact ih (k+1) fun y hy=>hp y (List.mem_cons_of_mem _ hy)
   ·simp [after,fdx,hq]
 exact this l 0 hp
theorem z4q (q:α→Bool):∀ (l:List α) (k:Nat),(fdx q k l < 0↔l.any q=false)∧(0≤fdx q k l→(k:Int)≤fdx q k l∧∃ x,l[(fdx q k l).toNat - k]?=some x∧q x=true)
 | [],k=>⟨by simp [fdx],fun h=>by simp [fdx] at h⟩
 | x::l,k=>by
  obtain ⟨h1,h2⟩:=z4q q l (k+1)
  cases hq:q x
  ·simp only [fdx,hq,if_false,Bool.false_eq_true,List.any_cons,Bool.false_or]
   refine ⟨h1,fun h => ?_⟩
   obtain ⟨h3,y,h4,h5⟩:=h2 h
   refine ⟨by omega,y,?_,h5⟩
   have:(fdx q (k+1) l).toNat - k=((fdx q (k+1) l).toNat - (k+1))+1:=by omega
   rw [this,List.getElem?_cons_succ]; exact h4
  ·simp only [fdx,hq,if_true,List.any_cons,Bool.true_or]
   refine ⟨by simp,fun _=>⟨by omega,x,by simp,hq⟩⟩
theorem w3e (q:α→Bool) (l:List α):decide (fdx q 0 l < 0) = !l.any q:=by
 have h:=(z4q q l 0).1
 cases hq:l.any q
 ·rw [hq] at h; simpa using h
 ·rw [hq] at h; simpa using h
theorem y5i (q:α→Bool) (l:List α):decide (0≤fdx q 0 l)=l.any q:=by
 have h:=w3e q l
 cases hq:l.any q
 ·rw [hq] at h; simp at h ⊢; omega
 ·rw [hq] at h; simp at h ⊢; omega
theorem w3f (q:α→Bool) (l:List α) (h:l.any q=true):0≤fdx q 0 l∧∃ x,at? l (fdx q 0 l)=some x∧l[(fdx q 0 l).toNat]?=some x∧q x=true:=by
 have h1:=y5i q l
 rw [h] at h1
 have h2:0≤fdx q 0 l:=by simpa using h1
 obtain ⟨_,x,h3,h4⟩:=(z4q q l 0).2 h2
 have h3:l[(fdx q 0 l).toNat]?=some x:=by simpa using h3
 exact ⟨h2,x,by unfold at?; rw [if_pos h2]; exact h3,h3,h4⟩
def gCon (l:List α) (p:α→Option Bool):Option Bool:=(gIdx l p).bind fun r=>some (decide (0≤r))
theorem x1d (l:List α) {p:α→Option Bool} (q:α→Bool) (hl:l.length≤1000000000) (hp:∀ x,x∈l→p x=some (q x)):gCon l p=some (l.any q):=by
 unfold gCon
 rw [y5e l q hl hp]
 simp only [Option.bind_some,y5i]
end
def SB (n:Int) (s:zn):Prop:=0≤s.at_∧s.at_≤n
theorem SB.mono {n m:Int} {s:zn} (h:SB n s) (hm:n≤m):SB m s:=⟨h.1,by have:=h.2; omega⟩

theorem y5v (x n:Int) (hn:n≤1000000000000000):Ok (z0k x n) fun r=>0≤r∧(1≤n→r < n)∧(n < 1→r=0):=by
 unfold z0k z4p
 refine qm (fun h=>yl ?_) (fun h=>ok_g ?_ (qm (fun h2=>yl ?_) (fun h2=>yl ?_)))
 ·simp at h; omega
 ·simp at h; omega
 ·simp at h h2
  have h3:=Int.tmod_lt_of_pos x (show 0 < n by omega)
  have h4:-n < x.tmod n:=by
   have:=Int.lt_tmod_of_pos x (show 0 < n by omega)
   omega
  rw [qu (by omega)]
  omega
 ·simp at h h2
  have h3:=Int.tmod_lt_of_pos x (show 0 < n by omega)
  omega
theorem xk {k:Int} {s:zn} (h:SB k s) (hk:k≤1000000000) (n:Int) (hn:n≤1000000000000000) :
  Ok (ko s n) fun r=>(0≤r.1∧(1≤n→r.1 < n)∧(n < 1→r.1=0))∧SB (k+1) r.2:=by
 obtain ⟨h1,h2⟩:=h
 have e1:wr (s.at_+1)=s.at_+1:=qu (by omega)
 have e2:wr (s.at_+1 - 1)=s.at_:=by rw [qu (by omega)]; omega
 unfold ko
 simp only [e1,e2]
 refine qm (fun h => ?_) (fun h => ?_)
 ·exact ya (y5v _ n hn) fun r hr=>yl ⟨hr,by simp only [SB]; omega⟩
 ·simp at h
  have hL:0 < s.L.length:=by cases hq:s.L with | nil=>exact absurd hq h | cons _ _=>simp
  refine ok_g (by omega) (ok_g ⟨by omega,by omega⟩ ?_)
  have hi:0≤s.at_.tmod (s.L.length:Int):=Int.tmod_nonneg _ h1
  have hi2:=Int.tmod_lt_of_pos s.at_ (show (0:Int) < s.L.length by omega)
  have hat:Ok (at? s.L (s.at_.tmod (s.L.length:Int))) fun _=>True:=by
   unfold at?
   rw [if_pos hi,List.getElem?_eq_getElem (by omega)]
   exact ⟨_,rfl,trivial⟩
  refine ya hat fun x _=>ya (y5v _ _ (by omega)) fun r _=>ya (y5v _ n hn) fun r hr=>yl ⟨hr,by simp only [SB]; omega⟩
section
variable {k:Int} {s:zn} (h:SB k s) (hk:k≤100000000)
include h hk
theorem vy (n:Int) (hn:n≤1000000000000000):Ok (vg s n) fun r=>SB (k+1) r.2:=by
 unfold vg
 exact ya (xk h (by omega) n hn) fun r hr=>yl hr.2
theorem y3b (l:List Int) (hl:l≠[]∧l.length≤1000):Ok (z0i s l) fun r=>r.1∈l∧SB (k+1) r.2:=by
 unfold z0i
 have hp:0 < l.length:=by cases hq:l with | nil=>exact absurd hq hl.1 | cons _ _=>simp
 refine ya (xk h (by omega) _ (by omega)) fun r hr => ?_
 have h1:=hr.1.2.1 (by omega)
 have hat:Ok (at? l r.1) fun x=>x∈l:=by
  unfold at?
  rw [if_pos hr.1.1,List.getElem?_eq_getElem (by omega)]
  exact ⟨_,rfl,List.getElem_mem _⟩
 exact ya hat fun x hx=>yl ⟨hx,hr.2⟩
theorem uw (l:List Bs) (hl:l≠[]∧l.length≤1000):Ok (wt s l) fun r=>r.1∈l∧SB (k+1) r.2:=by
 unfold wt
 have hp:0 < l.length:=by cases hq:l with | nil=>exact absurd hq hl.1 | cons _ _=>simp
 refine ya (xk h (by omega) _ (by omega)) fun r hr => ?_
 have h1:=hr.1.2.1 (by omega)
 have hat:Ok (at? l r.1) fun x=>x∈l:=by
  unfold at?
  rw [if_pos hr.1.1,List.getElem?_eq_getElem (by omega)]
  exact ⟨_,rfl,List.getElem_mem _⟩
 exact ya hat fun x hx=>yl ⟨hx,hr.2⟩
theorem z2e (lo hi:Int) (hr:-1000000000000≤lo∧lo≤hi∧hi≤1000000000000):Ok (Zv s lo hi) fun r=>(lo≤r.1∧r.1≤hi)∧SB (k+1) r.2:=by
 unfold Zv
 refine qm (fun h=>absurd h (by simp; omega)) (fun _ => ?_)
 have e1:wr (wr (hi - lo)+1)=hi - lo+1:=by rw [qu (n:=hi - lo) (by omega),qu (by omega)]
 rw [e1]
 refine ya (xk h (by omega) _ (by omega)) fun r hr2=>yl ?_
 have h1:=hr2.1.2.1 (by omega)
 have h2:=hr2.1.1
 simp only
 rw [qu (by omega)]
 exact ⟨by omega,hr2.2⟩
end
theorem y3k {k:Int} {s:zn} (h:SB k s) (hk:k≤10000000) (lo hi:Int) (hr:-1000000000000≤lo∧lo≤hi∧hi≤1000000000000):Ok (z0j s lo hi) fun r=>(-2000000000000≤r.1∧r.1≤2000000000000)∧SB (k+2) r.2:=by
 unfold z0j
 refine ya (vy h (by omega) 12 (by omega)) fun r hr2=>qm (fun _ => ?_) (fun _ => ?_)
 ·refine ya (y3b hr2 (by omega) _ ⟨by simp,by simp⟩) fun r3 hr3=>yl ⟨?_,hr3.2.mono (by omega)⟩
  have hm:=hr3.1
  rw [qu (n:=lo - 1) (by omega),qu (n:=hi+1) (by omega)] at hm
  simp only [List.mem_cons,List.not_mem_nil,or_false] at hm
  simp only
  omega
 ·exact ya (z2e hr2 (by omega) lo hi hr) fun r3 hr3=>yl ⟨by simp only; omega,hr3.2.mono (by omega)⟩
def kc (i:Nat) (c:UInt8):Bool:=((decide (97≤(c.toNat:Int))) && (decide ((c.toNat:Int)≤122))) || ((decide (0 < (i:Int))) && ((((decide (48≤(c.toNat:Int))) && (decide ((c.toNat:Int)≤57))) || (decide ((c.toNat:Int)=45))) || (decide ((c.toNat:Int)=95))))
def keyP (s:Bs):Bool:=allI kc 0 s && (decide (s≠[]) && decide ((s.length:Int)≤40))
theorem w12 (s:Bs) (h:s.length≤1000000000):z29 s=some (keyP s):=by
 unfold z29
 rw [if_pos h,z1l (p:=kc) (r0:=false) (e:=(decide (s≠[])) && (decide ((s.length:Int)≤40))) rfl s 0]
 ·congr 1
  unfold keyP
  cases allI kc 0 s <;> simp
 ·intro j x _ _
  unfold y0g
  show (if (!kc j x)=true then _ else _)=_
  cases kc j x <;> simp
def z5q:Bs:=[97,98,99,100,101,102,103,104,105,106,107,108,109,110,111,112,113,114,115,116,117,118,119,120,121,122]
def z7b:Bs:=[97,98,99,100,101,102,103,104,105,106,107,108,109,110,111,112,113,114,115,116,117,118,119,120,121,122,48,49,50,51,52,53,54,55,56,57,45,95]
theorem wh (p:UInt8→Bool) (h:((List.range 256).all fun n=>p (UInt8.ofNat n))=true) (c:UInt8):p c=true:=by
 have:=List.all_eq_true.1 h c.toNat (by simp; exact c.toNat_lt)
 simpa using this
theorem x63 (c:UInt8):z5q.contains c=kc 0 c:=by
 have:=wh (fun c=>z5q.contains c == kc 0 c) (by decide +kernel) c
 simpa using this
theorem x91 (c:UInt8):z7b.contains c=kc 1 c:=by
 have:=wh (fun c=>z7b.contains c == kc 1 c) (by decide +kernel) c
 simpa using this
theorem x94 (k:Nat) (c:UInt8):kc (k+1) c=kc 1 c:=by
 unfold kc
 have:decide (0 < ((k+1:Nat):Int))=decide (0 < ((1:Nat):Int)):=by
  rw [decide_eq_true (by omega),decide_eq_true (by omega)]
 rw [this]
theorem x95 (c:UInt8) (h:kc 0 c=true):kc 1 c=true:=by unfold kc at *; simp at h ⊢; exact .inl h
theorem w4p (s:Bs):∀ k,allI kc (k+1) s=s.all fun c=>kc 1 c:=by
 induction s with
 | nil=>intro k; rfl
 | cons c s ih=>intro k; simp only [allI,List.all_cons,x94,ih]
theorem z9q (s so:Bs) (h:s.length≤1000000000):uo s so=some (s.all fun c=>so.contains c):=by
 unfold uo
 rw [if_pos h,z1l (p:=fun _ c=>so.contains c) (r0:=false) (e:=true) rfl s 0]
 ·congr 1
  have:∀ (l:Bs) k,allI (fun _ c=>so.contains c) k l=l.all fun c=>so.contains c:=by
   intro l
   induction l with
   | nil=>intro k; rfl
   | cons c l ih=>intro k; simp only [allI,List.all_cons,ih]
  rw [this]
  cases (s.all fun c=>so.contains c) <;> rfl
 ·intro j x _ _
  unfold y02 Wv
  simp only [Option.bind_some]
  have e1:((x.toNat:Int)).toNat.toUInt8=x:=by simp
  rw [e1,Lib.contains_iff_indexByte]
  by_cases hq:Lib.indexByte so x < 0
  ·have:¬ 0≤Lib.indexByte so x:=by omega
   simp [hq,this]
  ·have:0≤Lib.indexByte so x:=by omega
   simp [hq,this]
theorem x92 (s:Bs) (h:s.length≤1000000000):z6r s=some (keyP s):=by
 unfold z6r kn z05
 simp only [Option.bind_some]
 cases s with
 | nil=>simp [keyP]
 | cons c r =>
  by_cases h1:((c::r).length:Int)≤40
  ·have h2:(decide ((1:Int)≤((c::r).length:Int)) && decide (((c::r).length:Int)≤40))=true:=by simp only [List.length_cons] at h1 ⊢; simp; omega
   rw [if_pos h2]
   have h3:sub? (c::r) 0 1=some [c]:=by
    unfold sub?
    rw [if_pos (by simp only [List.length_cons]; omega)]
    rfl
   rw [h3]
   have e1:=z9q [c] z5q (by simp)
   have e2:=z9q (c::r) z7b h
   simp only [z5q,z7b] at e1 e2
   simp only [Option.bind_some,e1,e2]
   have e3:(List.all [c] fun c=>List.contains [97,98,99,100,101,102,103,104,105,106,107,108,109,110,111,112,113,114,115,116,117,118,119,120,121,122] c)=kc 0 c:=by
    have:=x63 c
    simp only [z5q] at this
    simp only [List.all_cons,List.all_nil,Bool.and_true,this]
   have e4:(List.all (c::r) fun c=>List.contains [97,98,99,100,101,102,103,104,105,106,107,108,109,110,111,112,113,114,115,116,117,118,119,120,121,122,48,49,50,51,52,53,54,55,56,57,45,95] c)=(kc 1 c && r.all fun c=>kc 1 c):=by
    have:=x91
    simp only [z7b] at this
    simp only [List.all_cons,this]
   rw [e3,e4]
   have e5:keyP (c::r)=(kc 0 c && r.all fun c=>kc 1 c):=by
    unfold keyP
    simp only [allI,w4p,Nat.zero_add]
    have:decide (((c::r).length:Int)≤40)=true:=by simpa using h1
    rw [this]; simp
   rw [e5]
   cases hk:kc 0 c
   ·simp
   ·rw [x95 c hk]; simp
  ·have h2:(decide ((1:Int)≤((c::r).length:Int)) && decide (((c::r).length:Int)≤40))=false:=by
    have:decide (((c::r).length:Int)≤40)=false:=by simpa using h1
    rw [this]; simp
   rw [h2]
   have:decide (((c::r).length:Int)≤40)=false:=by simpa using h1
   have e5:keyP (c::r)=false:=by unfold keyP; rw [this]; simp
   rw [e5]; rfl

def momP (n:Int):Bool:=decide (0≤n) && decide (n≤345686399999)
theorem y3n (n:Int):z3f n=some (momP n):=rfl
theorem z0u (n:Int):z0c n=some (momP n):=by
 unfold z0c momP
 congr 2
 by_cases h:n < 345686400000
 ·have:n≤345686399999:=by omega
  simp [h,this]
 ·have:¬ n≤345686399999:=by omega
  simp [h,this]
theorem z9p (n lo hi:Int):Yy n lo hi=some (outP n lo hi):=rfl
theorem y42 (n lo hi:Int):kn n lo hi=some (!outP n lo hi):=by
 unfold kn
 rw [y3h,Bool.not_not]
def spl (c:UInt8):Bs→List Bs
 | []=>[[]]
 | b::l=>if b=c then []::spl c l else match spl c l with
  | p::ps=>(b::p)::ps
  | []=>[[b]]
theorem z9c (c:UInt8) (s:Bs):spl c s≠[]:=by
 cases s with
 | nil=>simp [spl]
 | cons b l =>
  unfold spl
  split
  ·simp
  ·split <;> simp
theorem y0n (c b:UInt8) (l:Bs):Lib.index (b::l) [c]=if b=c then 0 else if Lib.index l [c] == -1 then -1 else Lib.index l [c]+1:=by
 rw [Lib.index]
 by_cases h:b=c
 ·subst h; simp
 ·have hb:(c == b)=false:=by simpa using fun e:c=b=>h e.symm
  have:List.isPrefixOf [c] (b::l)=false:=by simp [List.isPrefixOf,hb]
  rw [this,if_neg h]; rfl
theorem y76 (c:UInt8):∀ s:Bs,Lib.splitK [c] 0 (Lib.count s [c]) s=spl c s
 | []=>by
  rw [Lib.count_miss (by rfl)]
  rfl
 | b::l=>by
  have ih:=y76 c l
  have hi:=y0n c b l
  by_cases h:b=c
  ·rw [if_pos h] at hi
   rw [Lib.count_hit (i:=0) (by simp) (by simpa using hi),Nat.add_comm,Lib.splitK,if_neg (by rw [hi]; decide),hi,spl,if_pos h]
   simp only [Int.toNat_zero,Nat.zero_add,List.length_cons,List.length_nil,Nat.add_zero,List.take_zero,List.drop_succ_cons,List.drop_zero,ih]
  ·rw [if_neg h] at hi
   have hs:spl c (b::l)=match spl c l with | p::ps=>(b::p)::ps | []=>[[b]]:=by rw [spl,if_neg h]
   have hge:=Lib.index_ge l [c]
   by_cases h1:Lib.index l [c]=-1
   ·rw [if_pos (by simpa using h1)] at hi
    rw [Lib.count_miss h1] at ih
    have ih:[l]=spl c l:=ih
    rw [Lib.count_miss hi,hs,← ih]
    rfl
   ·obtain ⟨i,h2⟩:∃ i:Nat,Lib.index l [c]=i:=⟨(Lib.index l [c]).toNat,by omega⟩
    rw [if_neg (by simpa using h1),h2] at hi
    have hi':Lib.index (b::l) [c]=((i+1:Nat):Int):=by rw [hi]; omega
    rw [Lib.count_hit (i:=i) (by simp) h2,Nat.add_comm,Lib.splitK,if_neg (by rw [h2]; simp),h2] at ih
    rw [Lib.count_hit (i:=i+1) (by simp) hi',Nat.add_comm,Lib.splitK,if_neg (by rw [hi']; simp; omega),hi',hs,← ih]
    simp
theorem Yl (s:Bs) (c:UInt8):xi s [c]=spl c s:=by
 unfold xi
 rw [Lib.splitB_data]
 exact y76 c s
theorem Wb (c:UInt8):∀ s:Bs,(spl c s).length≤s.length+1
 | []=>by simp [spl]
 | b::l=>by
  have ih:=Wb c l
  unfold spl
  split
  ·simp only [List.length_cons]; omega
  ·split
   ·rename_i p ps h; rw [h] at ih; simp only [List.length_cons] at ih ⊢; omega
   ·simp
theorem Zh (c:UInt8):∀ (s:Bs) (p:Bs),p∈spl c s→p.length≤s.length
 | [],p,h=>by simp [spl] at h; subst h; simp
 | b::l,p,h=>by
  have ih:=Zh c l
  unfold spl at h
  split at h
  ·rcases List.mem_cons.1 h with rfl | h
   ·simp
   ·have:=ih p h; simp only [List.length_cons]; omega
  ·split at h
   ·rename_i q ps hq
    rw [hq] at ih
    rcases List.mem_cons.1 h with rfl | h
    ·have:=ih q (by simp); simp only [List.length_cons]; omega
    ·have:=ih p (List.mem_cons_of_mem _ h); simp only [List.length_cons]; omega
   ·simp at h; subst h; simp
abbrev y8d (l:List Bs):List Bs:=l.mergeSort fun x y=>decide (x≤y)
theorem x62 (l:List Bs) (x:Bs):x∈y8d l↔x∈l:=List.mem_mergeSort
theorem x07 {α:Type} [Inhabited α] (l:List α) (x:α):(l++[x]).toArray[l.length]! = x:=by simp
section
variable {α:Type} [Inhabited α] [DecidableEq α]
theorem x2e (d d':Array α):∀ m,(∀ j,j < m→d[j]! = d'[j]!)→Lib.compactUpTo d m=Lib.compactUpTo d' m
 | 0,_=>rfl
 | m+1,h=>by
  rw [Lib.compactUpTo_succ,Lib.compactUpTo_succ,x2e d d' m fun j hj=>h j (by omega)]
  have e1:=h m (by omega)
  have e2:d[m - 1]! = d'[m - 1]! := h (m - 1) (by omega)
  unfold Lib.keeps
  rw [e1,e2]
theorem w3u (l:List α) (x:α):Lib.compact (l++[x])=Lib.compact l++(if l.getLast?=some x then [] else [x]):=by
 unfold Lib.compact
 rw [List.length_append,List.length_singleton,Lib.compactUpTo_succ]
 congr 1
 ·refine x2e _ _ _ fun j hj => ?_
  rw [getElem!_pos _ _ (by simp; omega),getElem!_pos _ _ (by simpa using hj)]
  simp [List.getElem_append_left hj]
 ·rw [x07]
  unfold Lib.keeps
  rw [x07]
  rcases List.eq_nil_or_concat l with rfl | ⟨l',y,rfl⟩
  ·simp
  ·have e1:(l'++[y]++[x]).toArray[(l'++[y]).length - 1]! = y:=by
    have:(l'++[y]).length - 1=l'.length:=by simp
    rw [this,getElem!_pos _ _ (by simp <;> omega)]
    simp
   rw [List.concat_eq_append] at *
   rw [e1]
   have e2:(l'++[y]).length≠0:=by simp
   by_cases h:y=x
   ·subst h; simp
   ·have h':¬ x=y:=fun e=>h e.symm
    simp [h,h']
end
theorem y2s {α:Type} {P:List α→Prop} (h0:P []) (h1:∀ l x,P l→P (l++[x])) (l:List α):P l:=by
 have:∀ n (l:List α),l.length=n→P l:=by
  intro n
  induction n with
  | zero=>intro l h; rw [List.eq_nil_of_length_eq_zero h]; exact h0
  | succ n ih =>
   intro l h
   rcases List.eq_nil_or_concat l with rfl | ⟨l',x,rfl⟩
   ·simp at h
   ·rw [List.concat_eq_append]
    exact h1 _ _ (ih l' (by simpa using h))
 exact this _ l rfl
theorem w3v {α:Type} [Inhabited α] [DecidableEq α] (l:List α) (x:α):x∈Lib.compact l↔x∈l:=by
 induction l using y2s with
 | h0=>simp [Lib.compact,Lib.compactUpTo]
 | h1 l y ih =>
  rw [w3u,List.mem_append,List.mem_append,ih]
  split
  ·rename_i h
   have:y∈l:=List.mem_of_getLast? h
   simp
   rintro rfl
   exact this
  ·rfl
def setB (l:List Bs):List Bs:=Lib.compact (y8d l)
theorem x7b (l:List Bs) (x:Bs):x∈setB l↔x∈l:=by unfold setB; rw [w3v,x62]
noncomputable def gDel {α:Type} (z:α) (s1:List α) (p1:α→Option Bool):Option (List α):=
 (gIdx s1 p1).bind fun (r2:Int)=>if decide (r2=(-1)) then some s1 else (iter (fun (s:Int×Int×(List α))=>if decide (s.2.1 < (s.2.2.length:Int)) then ((at? s.2.2 s.2.1).bind fun (x10:α)=>(p1 x10).bind fun (r12:Bool)=>if !r12 then ((at? s.2.2 s.1).bind fun (x15:α)=>some (.inl (wr (s.1+1),wr (s.2.1+1),(s.2.2.set s.1.toNat x10)))) else some (.inl (s.1,wr (s.2.1+1),s.2.2))) else (Option.map .inr (if (0:Int)≤s.1∧s.1 < (s.2.2.length:Int) then (if (0:Int)≤s.1∧s.1≤((s.2.2.take s.1.toNat++List.replicate (s.2.2.length - s.1.toNat) z).length:Int) then (some ((s.2.2.take s.1.toNat++List.replicate (s.2.2.length - s.1.toNat) z).take s.1.toNat)) else none) else none))) (r2,wr (r2+1),s1))
theorem x1q {α:Type} (q:α→Bool):∀ (l:List α) (k:Nat),0≤fdx q k l→(l.take ((fdx q k l).toNat - k)).filter (fun x => !q x)=l.take ((fdx q k l).toNat - k)
 | [],k,h=>by simp [fdx] at h
 | x::l,k,h=>by
  cases hq:q x
  ·simp only [fdx,hq,if_false,Bool.false_eq_true] at h ⊢
   have ih:=x1q q l (k+1) h
   have h1:=(z4q q l (k+1)).2 h
   have:(fdx q (k+1) l).toNat - k=((fdx q (k+1) l).toNat - (k+1))+1:=by omega
   rw [this,List.take_succ_cons,List.filter_cons,hq]
   simp [ih]
  ·simp [fdx,hq]
theorem x1c {α:Type} (z:α) (l:List α) {p:α→Option Bool} (q:α→Bool) (hl:l.length≤1000000000) (hp:∀ x,x∈l→p x=some (q x)):gDel z l p=some (l.filter fun x => !q x):=by
 unfold gDel
 rw [y5e l q hl hp]
 simp only [Option.bind_some]
 by_cases h0:l.any q=true
 ·obtain ⟨h1,x,h2,h3,h4⟩:=w3f q l h0
  have hlt:=z0n h3
  rw [if_neg (by simp; omega),qu (by omega)]
  have hb:=x1q q l 0 h1
  simp only [Nat.sub_zero] at hb
  refine y9f (x8x (fun s:Int×Int×List α=>0≤s.1∧s.1 < s.2.1∧s.2.1≤(l.length:Int)∧s.2.2.length=l.length∧s.2.2.take s.1.toNat=(l.take s.2.1.toNat).filter (fun x => !q x)∧s.2.2.drop s.2.1.toNat=l.drop s.2.1.toNat) (fun s=>(l.length - s.2.1.toNat)) ?_ _ ?_)
  ·rintro ⟨i,j,s⟩ ⟨g1,g2,g3,g4,g5,g6⟩
   simp only at g1 g2 g3 g4 g5 g6
   refine qm (fun hc => ?_) (fun hc => ?_)
   ·have hc:j < (s.length:Int):=by simpa using hc
    simp only at hc ⊢
    have hj:j.toNat < l.length:=by omega
    have e1:s[j.toNat]?=some l[j.toNat]:=by
     have:=congrArg (fun t=>t[0]?) g6
     simp only [List.getElem?_drop,Nat.add_zero,List.getElem?_eq_getElem hj] at this
     exact this
    have e2:at? s j=some l[j.toNat]:=by unfold at?; rw [if_pos (by omega)]; exact e1
    rw [e2,qu (n:=j+1) (by omega)]
    simp only [Option.bind_some,hp _ (List.getElem_mem hj)]
    have ej:(j+1).toNat=j.toNat+1:=by omega
    have etk:l.take (j.toNat+1)=l.take j.toNat++[l[j.toNat]]:=by rw [List.take_add_one,List.getElem?_eq_getElem hj]; rfl
    cases hq:q l[j.toNat]
    ·simp only [Bool.not_false,if_true]
     have e3:at? s i=some s[i.toNat]:=by unfold at?; rw [if_pos g1,List.getElem?_eq_getElem (by omega)]
     rw [e3,qu (n:=i+1) (by omega)]
     simp only [Option.bind_some]
     refine yl ?_
     have ei:(i+1).toNat=i.toNat+1:=by omega
     refine ⟨⟨by simp only; omega,by simp only; omega,by simp only; omega,by simpa using g4,?_,?_⟩,by simp only; omega⟩
     ·simp only
      rw [ei,ej,etk,List.filter_append,← g5,List.take_add_one,List.getElem?_set_self (by omega),List.take_set_of_le (Nat.le_refl _)]
      simp [hq]
     ·simp only
      rw [ej,List.drop_set_of_lt (by omega)]
      have:=congrArg (List.drop 1) g6
      simpa [List.drop_drop,Nat.add_comm] using this
    ·simp only [Bool.not_true,Bool.false_eq_true,if_false]
     refine yl ⟨⟨g1,by simp only; omega,by simp only; omega,g4,?_,?_⟩,by simp only; omega⟩
     ·simp only
      rw [ej,etk,List.filter_append,← g5]
      simp [hq]
     ·simp only
      rw [ej]
      have:=congrArg (List.drop 1) g6
      simpa [List.drop_drop,Nat.add_comm] using this
   ·have hc:¬ j < (s.length:Int):=by simpa using hc
    have hj:j.toNat=l.length:=by omega
    rw [if_pos (by simp only; omega),if_pos (by simp only [List.length_append,List.length_take,List.length_replicate]; omega)]
    refine yl ?_
    show List.take i.toNat (List.take i.toNat s++_)=_
    rw [List.take_append_of_le_length (by rw [List.length_take]; omega),List.take_take,Nat.min_self,g5,hj,List.take_length]
  ·refine ⟨h1,by simp only; omega,by simp only; omega,rfl,?_,rfl⟩
   simp only
   have e1:(fdx q 0 l+1).toNat=(fdx q 0 l).toNat+1:=by omega
   rw [e1,List.take_add_one,h3,List.filter_append,hb]
   simp [h4]
 ·have h0:l.any q=false:=by simpa using h0
  have h1:=(z4q q l 0).1.2 h0
  have h2:fdx q 0 l=-1:=by
   have:∀ (l:List α) k,fdx q k l < 0→fdx q k l=-1:=by
    intro l
    induction l with
    | nil=>intro k _; rfl
    | cons x l ih =>
     intro k h
     unfold fdx at h ⊢
     split
     ·rename_i hq; rw [if_pos hq] at h; omega
     ·rename_i hq; rw [if_neg hq] at h; exact ih _ h
   exact this l 0 h1
  rw [if_pos (by simpa using h2)]
  congr 1
  symm
  rw [List.filter_eq_self]
  intro x hx
  have:=List.any_eq_false.1 h0 x hx
  simpa using this
section
variable {σ ρ:Type}
theorem Qc {body:σ→Option (σ ⊕ ρ)} {s s':σ} (h:body s=some (.inl s')):iter body s=iter body s':=by
 rw [y4x,h]; rfl
theorem xr {body:σ→Option (σ ⊕ ρ)} {s:σ} {r:ρ} (h:body s=some (.inr r)):iter body s=some r:=by
 rw [y4x,h]; rfl
end
theorem z2b (l:Bs):strN (yj l)=l:=by
 unfold strN yj
 rw [List.map_map]
 conv=>rhs; rw [← List.map_id l]
 refine List.map_congr_left fun c _ => ?_
 simp
theorem y5t (l:Bs):byR (yj l)=true:=by
 unfold byR yj
 rw [List.all_map,List.all_eq_true]
 intro c _
 have:=c.toNat_lt
 simp; omega
theorem xj (l:Bs):(yj l).length=l.length:=by simp [yj]
theorem kx (a b:Bs):yj (a++b)=yj a++yj b:=by simp [yj]
theorem z0s (B:Nat) (sep:Bs):∀ l:List Bs,(∀ x,x∈l→x.length≤B)→(Lib.join l sep).length≤l.length * (B+sep.length)
 | [],_=>by simp [Lib.join_nil]
 | x::r,h=>by
  rw [Lib.join_cons,List.length_append]
  have h1:=h x (by simp)
  have h2:(Lib.joinTail sep r).length≤r.length * (B+sep.length):=by
   have:∀ r:List Bs,(∀ x,x∈r→x.length≤B)→(Lib.joinTail sep r).length≤r.length * (B+sep.length):=by
    intro r
    induction r with
    | nil=>intro _; simp [Lib.joinTail]
    | cons y r ih =>
     intro hr
     have h3:=hr y (by simp)
     have h4:=ih fun z hz=>hr z (by simp [hz])
     unfold Lib.joinTail at h4 ⊢
     simp only [List.map_cons,List.flatten_cons,List.length_append,List.length_cons,Nat.succ_mul]
     omega
   exact this r fun y hy=>h y (by simp [hy])
  simp only [List.length_cons,Nat.succ_mul]
  omega
theorem y1s {k:Int} {s:zn} (h:SB k s) (hk:k≤1000000) (m:Nat) (hm:m≤1000) (sep:Bs) (hsep:sep.length≤10) (l:List Bs) (hl:l≠[]∧l.length≤1000) (hB:∀ x,x∈l→x.length≤20) :
  Ok (ke s (m:Int) sep l) fun r=>r.1.length≤30000∧SB (k+m) r.2:=by
 unfold ke
 refine ok_g (by omega) ?_
 rw [Int.toNat_natCast]
 refine z5z (fun j (q:List Int×Int×List Bs)=>j≤m∧SB (k+(j:Int)) (zn.mk q.1 q.2.1)∧q.2.2.length≤j∧∀ x,x∈q.2.2→x.length≤20) m 0 _ ⟨by omega,h.mono (by omega),by simp,by simp⟩ ?_ ?_
 ·rintro j ⟨c5,c6,l7⟩ _ hj ⟨h0,h1,h2,h3⟩
  simp only at h1 h2 h3 ⊢
  unfold z4k
  refine ya (uw h1 (by omega) l hl) fun r hr=>ok_g (by omega) (yl ?_)
  refine ⟨by omega,hr.2.mono (by omega),by simp; omega,fun x hx => ?_⟩
  rcases List.mem_append.1 hx with h | h
  ·exact h3 x h
  ·have:x=r.1:=by simpa using h
   rw [this]; exact hB _ hr.1
 ·rintro ⟨c5,c6,l7⟩ ⟨h0,h1,h2,h3⟩
  simp only at h1 h2 h3 ⊢
  have hj:=z0s 20 sep l7 h3
  have hmm:l7.length * (20+sep.length)≤1000 * 30:=Nat.mul_le_mul (by omega) (by omega)
  unfold z4l
  have hJ:vu l7 sep=some (Lib.join l7 sep):=by
   unfold vu
   rw [if_pos ⟨by omega,by omega⟩]
  rw [hJ]
  exact yl ⟨by simp only; omega,h1.mono (by omega)⟩
theorem z1m (c:UInt8):∀ s:Bs,c ∉ s∨∃ p q,s=p++c::q∧c ∉ p
 | [] => .inl (by simp)
 | x::s=>by
  by_cases h:x=c
  ·exact .inr ⟨[],s,by rw [h]; rfl,by simp⟩
  ·rcases z1m c s with h1 | ⟨p,q,rfl,h1⟩
   ·exact .inl (by simp [h1,Ne.symm h])
   ·exact .inr ⟨x::p,q,rfl,by simp [h1,Ne.symm h]⟩
theorem y0o (c:UInt8):∀ s:Bs,c ∉ s→Lib.index s [c]=-1
 | [],_=>rfl
 | x::s,h=>by
  rw [y0n,if_neg (fun e=>h (by simp [e])),y0o c s (fun e=>h (by simp [e]))]
  try rfl
theorem y0p (c:UInt8) (q:Bs):∀ p:Bs,c ∉ p→Lib.index (p++c::q) [c]=(p.length:Int)
 | [],_=>by rw [List.nil_append,y0n,if_pos rfl]; rfl
 | x::p,h=>by
  rw [List.cons_append,y0n,if_neg (fun e=>h (by simp [e])),y0p c q p (fun e=>h (by simp [e])),if_neg (by simp)]
  simp
theorem y1j (c:UInt8) (s:Bs) (h:c ∉ s):Lib.cut s [c]=(s,[],false):=by
 unfold Lib.cut
 rw [y0o c s h]; rfl
theorem z77 (c:UInt8) (p q:Bs) (h:c ∉ p):Lib.cut (p++c::q) [c]=(p,q,true):=by
 unfold Lib.cut
 rw [y0p c q p h,if_pos (by omega)]
 simp
def trR (c:UInt8) (s:Bs):Bs:=(s.reverse.dropWhile (· == c)).reverse
def trL (c:UInt8) (s:Bs):Bs:=s.dropWhile (· == c)
theorem x47 (c b:UInt8) (l:Bs):trR c (l++[b])=if b=c then trR c l else l++[b]:=by
 unfold trR
 rw [List.reverse_append,List.reverse_singleton,List.singleton_append,List.dropWhile_cons]
 by_cases h:b=c
 ·simp [h]
 ·simp [h]
theorem y65 (c:UInt8) (s:Bs):(trR c s).length≤s.length:=by
 unfold trR
 rw [List.length_reverse]
 have:=(List.dropWhile_sublist (l:=s.reverse) (· == c)).length_le
 simpa using this
theorem x46 (c:UInt8) (s:Bs):s.length≤1000000000→Yq s (c.toNat:Int)=some (trR c s):=by
 refine y2s (P:=fun s=>s.length≤1000000000→Yq s (c.toNat:Int)=some (trR c s)) (fun _ => ?_) (fun l b ih h => ?_) s
 ·unfold Yq
  exact xr rfl
 ·have hl:(l++[b]).length=l.length+1:=by simp
  have e1:wr (((l++[b]).length:Int) - 1)=(l.length:Int):=by rw [hl,qu (by omega)]; omega
  have e2:at? (l++[b]) (l.length:Int)=some b:=by
   unfold at?
   rw [if_pos (by omega),Int.toNat_natCast]; simp
  have e3:sub? (l++[b]) 0 (l.length:Int)=some l:=by
   rw [x5s _ _ (by omega)]; simp
  rw [x47]
  by_cases hb:b=c
  ·rw [if_pos hb]
   have:=ih (by omega)
   unfold Yq at this ⊢
   refine (Qc (s':=l) ?_).trans this
   unfold z5l Qy
   rw [if_pos (by simp),e1,e2]
   simp only [Option.bind_some]
   rw [if_pos (by simp [hb]),e3]; rfl
  ·rw [if_neg hb]
   unfold Yq
   refine xr ?_
   unfold z5l Qy z5m
   rw [if_pos (by simp),e1,e2]
   simp only [Option.bind_some]
   have hn:¬ (b.toNat:Int)=(c.toNat:Int):=fun h=>hb (UInt8.toNat_inj.1 (by omega))
   rw [if_neg (by simpa using hn)]; rfl
theorem y64 (c:UInt8):∀ s:Bs,s.length≤1000000000→Wu s (c.toNat:Int)=some (trL c s)
 | [],_=>by
  unfold Wu
  exact xr rfl
 | b::l,h=>by
  simp only [List.length_cons] at h
  have e3:sub? (b::l) 1 ((b::l).length:Int)=some l:=by
   unfold sub?
   rw [if_pos (by simp; omega)]
   simp
  unfold trL
  rw [List.dropWhile_cons]
  by_cases hb:b=c
  ·rw [if_pos (by simp [hb])]
   have:=y64 c l (by omega)
   unfold Wu at this ⊢
   refine (Qc (s':=l) ?_).trans this
   unfold z5n Qz
   rw [if_pos (by simp),List.getElem?_cons_zero]
   simp only [Option.bind_some]
   rw [if_pos (by simp [hb]),e3]; rfl
  ·rw [if_neg (by simp [hb])]
   unfold Wu
   refine xr ?_
   unfold z5n Qz z5o
   rw [if_pos (by simp),List.getElem?_cons_zero]
   simp only [Option.bind_some]
   have hn:¬ (b.toNat:Int)=(c.toNat:Int):=fun h=>hb (UInt8.toNat_inj.1 (by omega))
   rw [if_neg (by simpa using hn)]; rfl
theorem z8x (c:UInt8) (hc:c.toNat < 128) (s:Bs) (h:s.length≤1000000000):Zq s [c]=some (trL c (trR c s)):=by
 unfold Zq z2a
 by_cases h0:s=[]
 ·subst h0; rfl
 ·have:=y65 c s
  rw [if_neg (by simp [h0]),if_pos (by simp),List.getElem?_cons_zero]
  simp only [Option.bind_some]
  rw [if_pos (by simp; omega),x46 c s h]
  simp only [Option.bind_some]
  rw [y64 c _ (by omega)]; rfl
theorem x6w:y36=some true:=by
 have h1:z0a [47,97,47,46,46,47,98]=some 0:=by decide +kernel
 have h2:Wz [47,97,47,46,46,47,98]=some ([47,97,47,46,46,47,98],true):=by
  unfold Wz
  exact xd.2 ⟨9,by decide +kernel⟩
 have h3:ve [97,47,46,46,47,98] [47]=some [[97],[46,46],[98]]:=by
  unfold ve
  rw [if_pos (by decide),Yl]
  decide +kernel
 have h4:sub? ([47,97,47,46,46,47,98]:Bs) 1 7=some [97,47,46,46,47,98]:=by decide +kernel
 have h5:forL (fun (k:Nat) (x:Bs) (s:(List Bs))=>Wr [[97],[46,46],[98]] k x s) (fun (s:(List Bs))=>z2s s) 0 [[97],[46,46],[98]] []=some ([47,98],0):=by decide +kernel
 have h6:Zt [47,97,47,46,46,47,98]=some ([47,98],0):=by
  unfold Zt
  rw [h1]
  simp only [Option.bind_some,ne_eq,not_true_eq_false,decide_false,Bool.false_eq_true,if_false,h2,Bool.not_true]
  show (sub? ([47,97,47,46,46,47,98]:Bs) 1 7).bind _=_
  rw [h4]
  simp only [Option.bind_some]
  rw [h3]
  simp only [Option.bind_some]
  rw [if_pos (by decide)]
  exact h5
 unfold y36
 rw [h6]; rfl
def tokL:Bs:=[97,98,99,100,101,102,103,104,105,106,107,108,109,110,111,112,113,114,115,116,117,118,119,120,121,122,65,66,67,68,69,70,71,72,73,74,75,76,77,78,79,80,81,82,83,84,85,86,87,88,89,90,48,49,50,51,52,53,54,55,56,57,33,35,36,37,38,39,42,43,45,46,94,95,96,124,126]
def tokB (s:Bs):Bool:=s.all (fun c=>tokL.contains c) && (decide (s≠[]) && decide ((s.length:Int)≤100))
theorem x5a (c:UInt8):z6g (c.toNat:Int)=some (tokL.contains c):=by
 have:=wh (fun c=>decide (z6g (c.toNat:Int)=some (tokL.contains c))) (by decide +kernel) c
 exact of_decide_eq_true this
theorem Qd (s:Bs) (h:s.length≤1000000000):Yx s=some (tokB s):=by
 unfold Yx
 rw [if_pos h,z1l (p:=fun _ c=>tokL.contains c) (e:=(decide (s≠[]) && decide ((s.length:Int)≤100))) (r0:=false) rfl s 0 (fun j x _ _ => ?_),y1q]
 ·unfold tokB
  cases s.all fun c=>tokL.contains c <;> rfl
 ·unfold z9y
  rw [x5a]
  simp only [Option.bind_some]
  cases tokL.contains x <;> rfl
theorem y2d (s:Bs) (h:s.length≤1000000000):z0f s=some (tokB s):=by
 unfold z0f z39
 rw [y42]
 simp only [Option.bind_some]
 have ho:=z9q s tokL h
 have hc:(!outP (s.length:Int) 1 100)=(decide (s≠[]) && decide ((s.length:Int)≤100)):=by
  rw [y3h]
  cases s with
  | nil=>rfl
  | cons a l=>simp; omega
 rw [hc]
 unfold tokB
 cases (decide (s≠[]) && decide ((s.length:Int)≤100))
 ·simp
 ·simp only [if_true,Bool.and_true]
  show (uo s tokL).bind _=_
  rw [ho]; rfl
def rgB (s:Bs) (lo hi:Int):Bool:=s.all fun c => !outP (c.toNat:Int) lo hi
theorem z7g (s:Bs) (lo hi:Int) (h:s.length≤1000000000):Zs s lo hi=some (rgB s lo hi):=by
 unfold Zs z9u
 rw [if_pos h,z1l (p:=fun _ c => !outP (c.toNat:Int) lo hi) (e:=true) (r0:=false) rfl s 0 (fun j x _ _ => ?_),y1q]
 ·unfold rgB
  cases s.all fun c => !outP (c.toNat:Int) lo hi <;> rfl
 ·unfold z9t z2k outP
  by_cases h1:(x.toNat:Int) < lo <;> by_cases h2:hi < (x.toNat:Int) <;> simp [h1,h2]
theorem y6i (s:Bs) (lo:Int):Zu s lo=Zs s lo 126:=rfl
theorem y8u {s:Bs} {lo:Int} (h:rgB s lo 126=true):ascB s=true:=by
 unfold rgB at h
 unfold ascB
 rw [List.all_eq_true] at h ⊢
 intro c hc
 have:=h c hc
 unfold outP at this
 simp at this ⊢
 omega
def fldB (s:Bs):Bool:=decide ((s.length:Int)≤2000) && (rgB s 32 126 && decide (trL 32 (trR 32 s)=s))
theorem z3s (s:Bs) (h:s.length≤1000000000):z0b s=some (fldB s):=by
 unfold z0b Wt fldB
 rw [z7g s _ _ h]
 by_cases h1:(s.length:Int)≤2000
 ·rw [if_pos (by simpa using h1)]
  simp only [Option.bind_some]
  cases rgB s 32 126
  ·simp
  ·rw [if_pos rfl,z8x 32 (by decide) s h]
   simp [h1]
 ·rw [if_neg (by simpa using h1)]
  simp [h1]
theorem x1p (s:Bs):z6s s=z0b s:=rfl
def hdP (h:zo):Prop:=h.Name.length≤100000∧h.Value.length≤100000
def hdsP (l:List zo):Prop:=l.length≤1000∧∀ h,h∈l→hdP h
def hdE (h:zo):Int:=if tokB h.Name then (if fldB h.Value then 0 else 3) else 5
def hdsE (l:List zo):Int:=if 50 < (l.length:Int) then 2 else feI (fun _ h=>hdE h) 0 l
theorem z00 (l:List zo) (h:hdsP l):z26 l=some (hdsE l)∧z3g l=some (hdsE l):=by
 constructor
 ·unfold z26 z90 hdsE
  by_cases h0:50 < (l.length:Int)
  ·rw [if_pos (by simpa using h0),if_pos h0]
  ·rw [if_neg (by simpa using h0),if_neg h0,if_pos (by have:=h.1; omega)]
   refine y1e rfl l 0 fun j x _ hj => ?_
   obtain ⟨h1,h2⟩:=h.2 x (List.mem_of_getElem? hj)
   unfold z9z hdE
   rw [Qd _ (by omega),z3s _ (by omega)]
   simp only [Option.bind_some]
   cases tokB x.Name <;> cases fldB x.Value <;> simp
 ·unfold z3g y1a hdsE
  by_cases h0:50 < (l.length:Int)
  ·rw [if_pos (by simpa using h0),if_pos h0]
  ·rw [if_neg (by simpa using h0),if_neg h0,if_pos (by have:=h.1; omega)]
   refine y1e rfl l 0 fun j x _ hj => ?_
   obtain ⟨h1,h2⟩:=h.2 x (List.mem_of_getElem? hj)
   unfold y09 hdE
   rw [y2d _ (by omega),x1p,z3s _ (by omega)]
   simp only [Option.bind_some]
   cases tokB x.Name <;> cases fldB x.Value <;> simp
def pthB (s:Bs):Bool:=decide ((s.length:Int)≤1000) && (Lib.hasPrefix s [47] && (rgB s 33 126 && !Lib.containsAny s [63,35]))
theorem y85 (s:Bs) (h:s.length≤1000000000) (hr:rgB s 33 126=true):z2u s [63,35]=some (Lib.containsAny s [63,35]):=by
 unfold z2u
 rw [if_pos ⟨⟨h,by simp⟩,y8u hr,rfl⟩]
theorem z5y (s:Bs) (h:s.length≤1000000000):z0a s=some (if pthB s then 0 else 3):=by
 unfold z0a Yp pthB y3u
 rw [z7g s _ _ h]
 by_cases h1:1000 < (s.length:Int)
 ·have h2:¬ (s.length:Int)≤1000:=by omega
  rw [if_pos (by simpa using h1)]
  simp [h2]
 ·have h2:(s.length:Int)≤1000:=by omega
  rw [if_neg (by simpa using h1)]
  simp only [Option.bind_some]
  cases Lib.hasPrefix s [47]
  ·simp
  ·cases hr:rgB s 33 126
   ·simp
   ·rw [y85 s h hr]
    cases hc:Lib.containsAny s [63,35] <;> simp [h2]
theorem y86 (s:Bs) (h:s.length≤1000000000):z3c s=some (pthB s):=by
 unfold z3c Qh pthB
 rw [y42,y6i,z7g s _ _ h]
 simp only [Option.bind_some]
 cases s with
 | nil=>rfl
 | cons a l =>
  have hc:(!outP ((a::l).length:Int) 1 1000)=decide (((a::l).length:Int)≤1000):=by
   rw [y3h]; simp; omega
  have hp:Lib.hasPrefix (a::l) [47]=decide ((a.toNat:Int)=47):=by
   have:=wh (fun a=>((47:UInt8) == a) == decide ((a.toNat:Int)=47)) (by decide +kernel) a
   unfold Lib.hasPrefix
   simp only [List.isPrefixOf,Bool.and_true]
   simpa using this
  rw [hc,hp,List.getElem?_cons_zero]
  simp only [Option.bind_some]
  cases decide (((a::l).length:Int)≤1000)
  ·simp
  ·cases decide ((a.toNat:Int)=47)
   ·simp
   ·cases hr:rgB (a::l) 33 126
    ·simp
    ·rw [y85 _ h hr]
     simp
def qryB (s:Bs):Bool:=decide ((s.length:Int)≤1000) && (rgB s 33 126 && !Lib.contains s [35])
theorem z5w (s:Bs) (h:s.length≤1000000000):um s=some (if qryB s then 0 else 3):=by
 unfold um ux qryB Yt
 rw [z7g s _ _ h,if_pos h]
 by_cases h1:1000 < (s.length:Int)
 ·have h2:¬ (s.length:Int)≤1000:=by omega
  rw [if_pos (by simpa using h1)]
  simp [h2]
 ·have h2:(s.length:Int)≤1000:=by omega
  rw [if_neg (by simpa using h1)]
  simp only [Option.bind_some]
  cases hr:rgB s 33 126
  ·simp
  ·cases hc:Lib.contains s [35] <;> simp [h2]
theorem x79 (s:Bs) (h:s.length≤1000000000):un s=some (qryB s):=by
 unfold un xf qryB Yt
 rw [y6i,z7g s _ _ h,if_pos h]
 by_cases h1:(s.length:Int)≤1000
 ·rw [if_pos (by simpa using h1)]
  simp only [Option.bind_some]
  cases hr:rgB s 33 126 <;> cases hc:Lib.contains s [35] <;> simp [h1]
 ·rw [if_neg (by simpa using h1)]
  simp [h1]
end Go.Proofs.YtbndlmnjeofkdaaGreatDoor
