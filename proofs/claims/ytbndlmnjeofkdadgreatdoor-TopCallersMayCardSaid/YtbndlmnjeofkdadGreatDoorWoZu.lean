/- Plain: loops turn by turn, strings and their bytes as numbers, words joined, strings cut at a byte, trimming. -/
import Derived.Test.YtbndlmnjeofkdadGreatDoorMc
import Derived.Test.YtbndlmnjeofkdadGreatDoorZum
namespace Go.Proofs.YtbndlmnjeofkdadGreatDoor
set_option linter.unusedVariables false
set_option maxRecDepth 20000
section
variable {α β σ ρ:Type}
def Ok (o:Option α) (Q:α→Prop):Prop:=∃ x,o=some x∧Q x
variable {o a b:Option α} {Q Q':α→Prop}
theorem wv {x:α} (h:Q x):Ok (some x) Q:=⟨x,rfl,h⟩
theorem wa {f:α→Option β} {R:β→Prop} (h:Ok o Q) (k:∀ x,Q x→Ok (f x) R):Ok (o.bind f) R:=by
 obtain ⟨x,rfl,hx⟩:=h
 exact k x hx
theorem z1d {c:Prop} [Decidable c] (h1:c→Ok a Q) (h2:¬ c→Ok b Q):Ok (if c then a else b) Q:=by
 by_cases h:c
 ·rw [if_pos h]; exact h1 h
 ·rw [if_neg h]; exact h2 h
theorem ok_g {c:Prop} [Decidable c] (hc:c) (h:Ok a Q):Ok (if c then a else none) Q:=by rw [if_pos hc]; exact h
theorem y2u {x:α} (h:Ok o (· = x)):o=some x:=by obtain ⟨y,h1,h2⟩:=h; rw [h1,h2]
def rd (I:σ→Prop) (Q:ρ→Prop):σ ⊕ ρ→Prop
 | .inl s=>I s
 | .inr r=>Q r
theorem y79 {body:Nat→α→σ→Option (σ ⊕ ρ)} {fin:σ→Option ρ} {R:ρ→Prop} (I:Nat→σ→Prop):∀ (l:List α) (k:Nat) (s:σ),I k s →
  (∀ j x s,k≤j→l[j - k]?=some x→I j s→Ok (body j x s) (rd (I (j+1)) R))→(∀ s,I (k+l.length) s→Ok (fin s) R)→Ok (forL body fin k l s) R
 | [],k,s,h0,hs,hf=>hf s h0
 | x::l,k,s,h0,hs,hf=>by
  refine wa (hs k x s (Nat.le_refl _) (by simp) h0) fun q hq => ?_
  cases q with
  | inl s' =>
   refine y79 I l (k+1) s' hq (fun j y s hj hy hi=>hs j y s (by omega) ?_ hi) (fun s hi=>hf s ?_)
   ·obtain ⟨m,hm⟩:∃ m,j - k=m+1:=⟨j - k - 1,by omega⟩
    rw [hm,List.getElem?_cons_succ]
    have:j - (k+1)=m:=by omega
    rw [this] at hy; exact hy
   ·simp only [List.length_cons]
    have:k+(l.length+1)=k+1+l.length:=by omega
    rw [this]; exact hi
  | inr r=>exact ⟨r,rfl,hq⟩
theorem y78 {body:Nat→σ→Option (σ ⊕ ρ)} {fin:σ→Option ρ} {R:ρ→Prop} (I:Nat→σ→Prop):∀ (n k:Nat) (s:σ),I k s →
  (∀ j s,k≤j→j < k+n→I j s→Ok (body j s) (rd (I (j+1)) R))→(∀ s,I (k+n) s→Ok (fin s) R)→Ok (rng body fin n k s) R
 | 0,k,s,h0,hs,hf=>hf s h0
 | n+1,k,s,h0,hs,hf=>by
  refine wa (hs k s (Nat.le_refl _) (by omega) h0) fun q hq => ?_
  cases q with
  | inl s'=>exact y78 I n (k+1) s' hq (fun j s hj hy hi=>hs j s (by omega) (by omega) hi) (fun s hi=>hf s (by rw [show k+(n+1)=k+1+n by omega]; exact hi))
  | inr r=>exact ⟨r,rfl,hq⟩
theorem y2t {body:σ→Option (σ ⊕ ρ)} {R:ρ→Prop} (I:σ→Prop) (μ:σ→Nat) (step:∀ s,I s→Ok (body s) (rd (fun s'=>I s'∧μ s' < μ s) R)) (s:σ) (h:I s):Ok (iter body s) R:=by
 have key:∀ n s,μ s < n→I s→Ok (iter body s) R:=by
  intro n
  induction n with
  | zero=>intro s h; omega
  | succ n ih =>
   intro s hn hi
   rw [z94]
   refine wa (step s hi) fun q hq => ?_
   cases q with
   | inl s'=>exact ih s' (by have:=hq.2; omega) hq.1
   | inr r=>exact ⟨r,rfl,hq⟩
 exact key _ s (Nat.lt_succ_self _) h
end

section
variable {α ρ:Type}
def allI (p:Nat→α→Bool):Nat→List α→Bool
 | _,[]=>true
 | k,x::l=>p k x && allI p (k+1) l
theorem xk {body:Nat→α→Unit→Option (Unit ⊕ ρ)} {fin:Unit→Option ρ} {p:Nat→α→Bool} {e r0:ρ} (hf:fin ()=some e):∀ (l:List α) (k:Nat),(∀ j x,k≤j→l[j - k]?=some x→body j x ()=if p j x then some (.inl ()) else some (.inr r0))→forL body fin k l ()=some (if allI p k l then e else r0)
 | [],k,h=>by simp only [forL,allI,if_true]; exact hf
 | x::l,k,h=>by
  have h1:=h k x (Nat.le_refl _) (by simp)
  show (body k x ()).bind _=_
  rw [h1]
  cases hp:p k x
  ·simp [allI,hp,after]
  ·simp only [allI,hp,Bool.true_and,if_true,Option.bind_some,after]
   refine xk hf l (k+1) fun j y hj hy=>h j y (by omega) ?_
   obtain ⟨m,hm⟩:∃ m,j - k=m+1:=⟨j - k - 1,by omega⟩
   rw [hm,List.getElem?_cons_succ]
   have:j - (k+1)=m:=by omega
   rw [this] at hy; exact hy
def feI (e:Nat→α→Int):Nat→List α→Int
 | _,[]=>0
 | k,x::l=>if e k x≠0 then e k x else feI e (k+1) l
theorem z2r {body:Nat→α→Unit→Option (Unit ⊕ Int)} {fin:Unit→Option Int} {e:Nat→α→Int} (hf:fin ()=some 0):∀ (l:List α) (k:Nat),(∀ j x,k≤j→l[j - k]?=some x→body j x ()=if e j x≠0 then some (.inr (e j x)) else some (.inl ()))→forL body fin k l ()=some (feI e k l)
 | [],k,h=>by simp only [forL,feI]; exact hf
 | x::l,k,h=>by
  have h1:=h k x (Nat.le_refl _) (by simp)
  show (body k x ()).bind _=_
  rw [h1]
  by_cases hp:e k x≠0
  ·simp [feI,hp,after]
  ·simp only [feI,hp,if_false,Option.bind_some,after]
   refine z2r hf l (k+1) fun j y hj hy=>h j y (by omega) ?_
   obtain ⟨m,hm⟩:∃ m,j - k=m+1:=⟨j - k - 1,by omega⟩
   rw [hm,List.getElem?_cons_succ]
   have:j - (k+1)=m:=by omega
   rw [this] at hy; exact hy
end

def leB (a b:Bs):Bool:=Op.bytesLess a b || a == b
def outP (n lo hi:Int):Bool:=decide (n < lo) || decide (hi < n)
theorem y76 (n lo hi:Int):outP n lo hi = !(decide (lo≤n) && decide (n≤hi)):=by
 unfold outP
 by_cases h1:n < lo
 ·have:¬ lo≤n:=by omega
  simp [h1,this]
 ·have h1':lo≤n:=by omega
  by_cases h2:hi < n
  ·have:¬ n≤hi:=by omega
   simp [h1',h2,this]
  ·have:n≤hi:=by omega
   simp [h1,h1',h2,this]
theorem y5s {n:Int} (h:0≤n∧n≤18446744073709551615):IntKind.wrap .u64 n=n:=by
 unfold IntKind.wrap
 simp [IntKind.bits,IntKind.signed]
 omega
section
variable {α β:Type}
theorem z29 (q:α→Bool):∀ (l:List α) (k:Nat),allI (fun _ x=>q x) k l=l.all q
 | [],k=>rfl
 | x::l,k=>by simp only [allI,List.all_cons,z29 q l (k+1)]
theorem y12 (l:List α) (k:Nat) (h:k≤l.length):sub? l 0 (k:Int)=some (l.take k):=by
 unfold sub?
 rw [if_pos (by omega)]
 simp
def gIdx (l:List α) (p:α→Option Bool):Option Int:=if l.length≤1000000000 then forL (fun (k:Nat) (x:α) (s:Unit)=>(p x).bind fun r=>if r then (some (.inr (k:Int))) else (some (.inl ()))) (fun _=>some (-1)) 0 l () else none
def fdx (q:α→Bool):Nat→List α→Int
 | _,[]=>-1
 | k,x::l=>if q x then (k:Int) else fdx q (k+1) l
theorem y4r (l:List α) {p:α→Option Bool} (q:α→Bool) (hl:l.length≤1000000000) (hp:∀ x,x∈l→p x=some (q x)):gIdx l p=some (fdx q 0 l):=by
 unfold gIdx
 rw [if_pos hl]
 have:∀ (l:List α) (k:Nat),(∀ x,x∈l→p x=some (q x))→forL (fun (k:Nat) (x:α) (s:Unit)=>(p x).bind fun r=>if r then (some (.inr (k:Int))) else (some (.inl ()))) (fun _=>some (-1)) k l ()=some (fdx q k l):=by
  intro l
  induction l with
  | nil=>intro k _; rfl
  | cons x l ih =>
   intro k hp
   have h1:=hp x (by simp)
   show Option.bind ((p x).bind _) _=_
   rw [h1]
   cases hq:q x
   ·simp only [Option.bind_some,after,fdx,hq,if_false,Bool.false_eq_true]
    exact ih (k+1) fun y hy=>hp y (List.mem_cons_of_mem _ hy)
   ·simp [after,fdx,hq]
 exact this l 0 hp
theorem z2s (q:α→Bool):∀ (l:List α) (k:Nat),(fdx q k l < 0↔l.any q=false)∧(0≤fdx q k l→(k:Int)≤fdx q k l∧∃ x,l[(fdx q k l).toNat - k]?=some x∧q x=true)
 | [],k=>⟨by simp [fdx],fun h=>by simp [fdx] at h⟩
 | x::l,k=>by
  obtain ⟨h1,h2⟩:=z2s q l (k+1)
  cases hq:q x
  ·simp only [fdx,hq,if_false,Bool.false_eq_true,List.any_cons,Bool.false_or]
   refine ⟨h1,fun h => ?_⟩
   obtain ⟨h3,y,h4,h5⟩:=h2 h
   refine ⟨by omega,y,?_,h5⟩
   have:(fdx q (k+1) l).toNat - k=((fdx q (k+1) l).toNat - (k+1))+1:=by omega
   rw [this,List.getElem?_cons_succ]; exact h4
  ·simp only [fdx,hq,if_true,List.any_cons,Bool.true_or]
   refine ⟨by simp,fun _=>⟨by omega,x,by simp,hq⟩⟩
theorem w1v (q:α→Bool) (l:List α):decide (fdx q 0 l < 0) = !l.any q:=by
 have h:=(z2s q l 0).1
 cases hq:l.any q
 ·rw [hq] at h; simpa using h
 ·rw [hq] at h; simpa using h
theorem x0h (q:α→Bool) (l:List α):decide (0≤fdx q 0 l)=l.any q:=by
 have h:=w1v q l
 cases hq:l.any q
 ·rw [hq] at h; simp at h ⊢; omega
 ·rw [hq] at h; simp at h ⊢; omega
theorem w1w (q:α→Bool) (l:List α) (h:l.any q=true):0≤fdx q 0 l∧∃ x,at? l (fdx q 0 l)=some x∧l[(fdx q 0 l).toNat]?=some x∧q x=true:=by
 have h1:=x0h q l
 rw [h] at h1
 have h2:0≤fdx q 0 l:=by simpa using h1
 obtain ⟨_,x,h3,h4⟩:=(z2s q l 0).2 h2
 have h3:l[(fdx q 0 l).toNat]?=some x:=by simpa using h3
 exact ⟨h2,x,by unfold at?; rw [if_pos h2]; exact h3,h3,h4⟩
def gCon (l:List α) (p:α→Option Bool):Option Bool:=(gIdx l p).bind fun r=>some (decide (0≤r))
theorem y4s (l:List α) {p:α→Option Bool} (q:α→Bool) (hl:l.length≤1000000000) (hp:∀ x,x∈l→p x=some (q x)):gCon l p=some (l.any q):=by
 unfold gCon
 rw [y4r l q hl hp]
 simp only [Option.bind_some,x0h]
end
def SB (n:Int) (s:qq):Prop:=0≤s.at_∧s.at_≤n
theorem SB.mono {n m:Int} {s:qq} (h:SB n s) (hm:n≤m):SB m s:=⟨h.1,by have:=h.2; omega⟩

theorem y48 (x n:Int) (hn:n≤1000000000000000):Ok (z0a x n) fun r=>0≤r∧(1≤n→r < n)∧(n < 1→r=0):=by
 unfold z0a z2q
 refine z1d (fun h=>wv ?_) (fun h=>ok_g ?_ (z1d (fun h2=>wv ?_) (fun h2=>wv ?_)))
 ·simp at h; omega
 ·simp at h; omega
 ·simp at h h2
  have h3:=Int.tmod_lt_of_pos x (show 0 < n by omega)
  have h4:-n < x.tmod n:=by
   have:=Int.lt_tmod_of_pos x (show 0 < n by omega)
   omega
  rw [qw (by omega)]
  omega
 ·simp at h h2
  have h3:=Int.tmod_lt_of_pos x (show 0 < n by omega)
  omega
theorem z8u {k:Int} {s:qq} (h:SB k s) (hk:k≤1000000000) (n:Int) (hn:n≤1000000000000000) :
  Ok (Yp s n) fun r=>(0≤r.1∧(1≤n→r.1 < n)∧(n < 1→r.1=0))∧SB (k+1) r.2:=by
 obtain ⟨h1,h2⟩:=h
 have e1:wr (s.at_+1)=s.at_+1:=qw (by omega)
 have e2:wr (s.at_+1 - 1)=s.at_:=by rw [qw (by omega)]; omega
 unfold Yp
 simp only [e1,e2]
 refine z1d (fun h => ?_) (fun h => ?_)
 ·exact wa (y48 _ n hn) fun r hr=>wv ⟨hr,by simp only [SB]; omega⟩
 ·simp at h
  have hL:0 < s.L.length:=by cases hq:s.L with | nil=>exact absurd hq h | cons _ _=>simp
  refine ok_g (by omega) (ok_g ⟨by omega,by omega⟩ ?_)
  have hi:0≤s.at_.tmod (s.L.length:Int):=Int.tmod_nonneg _ h1
  have hi2:=Int.tmod_lt_of_pos s.at_ (show (0:Int) < s.L.length by omega)
  have hat:Ok (at? s.L (s.at_.tmod (s.L.length:Int))) fun _=>True:=by
   unfold at?
   rw [if_pos hi,List.getElem?_eq_getElem (by omega)]
   exact ⟨_,rfl,trivial⟩
  refine wa hat fun x _=>wa (y48 _ _ (by omega)) fun r _=>wa (y48 _ n hn) fun r hr=>wv ⟨hr,by simp only [SB]; omega⟩
section
variable {k:Int} {s:qq} (h:SB k s) (hk:k≤100000000)
include h hk
theorem y7y (l:List Int) (hl:l≠[]∧l.length≤1000):Ok (z2a s l) fun r=>r.1∈l∧SB (k+1) r.2:=by
 unfold z2a
 have hp:0 < l.length:=by cases hq:l with | nil=>exact absurd hq hl.1 | cons _ _=>simp
 refine wa (z8u h (by omega) _ (by omega)) fun r hr => ?_
 have h1:=hr.1.2.1 (by omega)
 have hat:Ok (at? l r.1) fun x=>x∈l:=by
  unfold at?
  rw [if_pos hr.1.1,List.getElem?_eq_getElem (by omega)]
  exact ⟨_,rfl,List.getElem_mem _⟩
 exact wa hat fun x hx=>wv ⟨hx,hr.2⟩
theorem z4b (l:List Bs) (hl:l≠[]∧l.length≤1000):Ok (Zj s l) fun r=>r.1∈l∧SB (k+1) r.2:=by
 unfold Zj
 have hp:0 < l.length:=by cases hq:l with | nil=>exact absurd hq hl.1 | cons _ _=>simp
 refine wa (z8u h (by omega) _ (by omega)) fun r hr => ?_
 have h1:=hr.1.2.1 (by omega)
 have hat:Ok (at? l r.1) fun x=>x∈l:=by
  unfold at?
  rw [if_pos hr.1.1,List.getElem?_eq_getElem (by omega)]
  exact ⟨_,rfl,List.getElem_mem _⟩
 exact wa hat fun x hx=>wv ⟨hx,hr.2⟩
theorem y7w (lo hi:Int) (hr:-1000000000000≤lo∧lo≤hi∧hi≤1000000000000):Ok (z19 s lo hi) fun r=>(lo≤r.1∧r.1≤hi)∧SB (k+1) r.2:=by
 unfold z19
 refine z1d (fun h=>absurd h (by simp; omega)) (fun _ => ?_)
 have e1:wr (wr (hi - lo)+1)=hi - lo+1:=by rw [qw (n:=hi - lo) (by omega),qw (by omega)]
 rw [e1]
 refine wa (z8u h (by omega) _ (by omega)) fun r hr2=>wv ?_
 have h1:=hr2.1.2.1 (by omega)
 have h2:=hr2.1.1
 simp only
 rw [qw (by omega)]
 exact ⟨by omega,hr2.2⟩
end
def kc (i:Nat) (c:UInt8):Bool:=((decide (97≤(c.toNat:Int))) && (decide ((c.toNat:Int)≤122))) || ((decide (0 < (i:Int))) && ((((decide (48≤(c.toNat:Int))) && (decide ((c.toNat:Int)≤57))) || (decide ((c.toNat:Int)=45))) || (decide ((c.toNat:Int)=95))))
def keyP (s:Bs):Bool:=allI kc 0 s && (decide (s≠[]) && decide ((s.length:Int)≤40))
theorem kk (s:Bs) (h:s.length≤1000000000):jf s=some (keyP s):=by
 unfold jf
 rw [if_pos h,xk (p:=kc) (r0:=false) (e:=(decide (s≠[])) && (decide ((s.length:Int)≤40))) rfl s 0]
 ·congr 1
  unfold keyP
  cases allI kc 0 s <;> simp
 ·intro j x _ _
  unfold z9u
  show (if (!kc j x)=true then _ else _)=_
  cases kc j x <;> simp
def z4c:Bs:=[97,98,99,100,101,102,103,104,105,106,107,108,109,110,111,112,113,114,115,116,117,118,119,120,121,122]
def z6c:Bs:=[97,98,99,100,101,102,103,104,105,106,107,108,109,110,111,112,113,114,115,116,117,118,119,120,121,122,48,49,50,51,52,53,54,55,56,57,45,95]
theorem ug (p:UInt8→Bool) (h:((List.range 256).all fun n=>p (UInt8.ofNat n))=true) (c:UInt8):p c=true:=by
 have:=List.all_eq_true.1 h c.toNat (by simp; exact c.toNat_lt)
 simpa using this
theorem x5n (c:UInt8):z4c.contains c=kc 0 c:=by
 have:=ug (fun c=>z4c.contains c == kc 0 c) (by decide +kernel) c
 simpa using this
theorem x78 (c:UInt8):z6c.contains c=kc 1 c:=by
 have:=ug (fun c=>z6c.contains c == kc 1 c) (by decide +kernel) c
 simpa using this
theorem y8y (k:Nat) (c:UInt8):kc (k+1) c=kc 1 c:=by
 unfold kc
 have:decide (0 < ((k+1:Nat):Int))=decide (0 < ((1:Nat):Int)):=by
  rw [decide_eq_true (by omega),decide_eq_true (by omega)]
 rw [this]
theorem x8b (c:UInt8) (h:kc 0 c=true):kc 1 c=true:=by unfold kc at *; simp at h ⊢; exact .inl h
theorem w3v (s:Bs):∀ k,allI kc (k+1) s=s.all fun c=>kc 1 c:=by
 induction s with
 | nil=>intro k; rfl
 | cons c s ih=>intro k; simp only [allI,List.all_cons,y8y,ih]
theorem y2s (s so:Bs) (h:s.length≤1000000000):z14 s so=some (s.all fun c=>so.contains c):=by
 unfold z14
 rw [if_pos h,xk (p:=fun _ c=>so.contains c) (r0:=false) (e:=true) rfl s 0]
 ·congr 1
  have:∀ (l:Bs) k,allI (fun _ c=>so.contains c) k l=l.all fun c=>so.contains c:=by
   intro l
   induction l with
   | nil=>intro k; rfl
   | cons c l ih=>intro k; simp only [allI,List.all_cons,ih]
  rw [this]
  cases (s.all fun c=>so.contains c) <;> rfl
 ·intro j x _ _
  unfold y95 Yk
  simp only [Option.bind_some]
  have e1:((x.toNat:Int)).toNat.toUInt8=x:=by simp
  rw [e1,Lib.contains_iff_indexByte]
  by_cases hq:Lib.indexByte so x < 0
  ·have:¬ 0≤Lib.indexByte so x:=by omega
   simp [hq,this]
  ·have:0≤Lib.indexByte so x:=by omega
   simp [hq,this]
theorem x79 (s:Bs) (h:s.length≤1000000000):y3k s=some (keyP s):=by
 unfold y3k z15 y0c
 simp only [Option.bind_some]
 cases s with
 | nil=>simp [keyP]
 | cons c r =>
  by_cases h1:((c::r).length:Int)≤40
  ·have h2:(decide ((1:Int)≤((c::r).length:Int)) && decide (((c::r).length:Int)≤40))=true:=by simp only [List.length_cons] at h1 ⊢; simp; omega
   rw [if_pos h2]
   have h3:sub? (c::r) 0 1=some [c]:=by
    unfold sub?
    rw [if_pos (by simp only [List.length_cons]; omega)]
    rfl
   rw [h3]
   have e1:=y2s [c] z4c (by simp)
   have e2:=y2s (c::r) z6c h
   simp only [z4c,z6c] at e1 e2
   simp only [Option.bind_some,e1,e2]
   have e3:(List.all [c] fun c=>List.contains [97,98,99,100,101,102,103,104,105,106,107,108,109,110,111,112,113,114,115,116,117,118,119,120,121,122] c)=kc 0 c:=by
    have:=x5n c
    simp only [z4c] at this
    simp only [List.all_cons,List.all_nil,Bool.and_true,this]
   have e4:(List.all (c::r) fun c=>List.contains [97,98,99,100,101,102,103,104,105,106,107,108,109,110,111,112,113,114,115,116,117,118,119,120,121,122,48,49,50,51,52,53,54,55,56,57,45,95] c)=(kc 1 c && r.all fun c=>kc 1 c):=by
    have:=x78
    simp only [z6c] at this
    simp only [List.all_cons,this]
   rw [e3,e4]
   have e5:keyP (c::r)=(kc 0 c && r.all fun c=>kc 1 c):=by
    unfold keyP
    simp only [allI,w3v,Nat.zero_add]
    have:decide (((c::r).length:Int)≤40)=true:=by simpa using h1
    rw [this]; simp
   rw [e5]
   cases hk:kc 0 c
   ·simp
   ·rw [x8b c hk]; simp
  ·have h2:(decide ((1:Int)≤((c::r).length:Int)) && decide (((c::r).length:Int)≤40))=false:=by
    have:decide (((c::r).length:Int)≤40)=false:=by simpa using h1
    rw [this]; simp
   rw [h2]
   have:decide (((c::r).length:Int)≤40)=false:=by simpa using h1
   have e5:keyP (c::r)=false:=by unfold keyP; rw [this]; simp
   rw [e5]; rfl

theorem x7z {a:Bs} (h:keyP a=true):leB a []=false:=by
 cases a with
 | nil=>simp [keyP] at h
 | cons c r=>simp [leB,Op.bytesLess]
def momP (n:Int):Bool:=decide (0≤n) && decide (n≤345686399999)
theorem y9r (n:Int):z11 n=some (momP n):=by
 unfold z11 momP
 congr 2
 by_cases h:n < 345686400000
 ·have:n≤345686399999:=by omega
  simp [h,this]
 ·have:¬ n≤345686399999:=by omega
  simp [h,this]
theorem z4h (n lo hi:Int):ub n lo hi=some (outP n lo hi):=rfl
theorem y9v (n lo hi:Int):z15 n lo hi=some (!outP n lo hi):=by
 unfold z15
 rw [y76,Bool.not_not]
def spl (c:UInt8):Bs→List Bs
 | []=>[[]]
 | b::l=>if b=c then []::spl c l else match spl c l with
  | p::ps=>(b::p)::ps
  | []=>[[b]]
theorem y68 (c:UInt8) (s:Bs):spl c s≠[]:=by
 cases s with
 | nil=>simp [spl]
 | cons b l =>
  unfold spl
  split
  ·simp
  ·split <;> simp
theorem z97 (c b:UInt8) (l:Bs):Lib.index (b::l) [c]=if b=c then 0 else if Lib.index l [c] == -1 then -1 else Lib.index l [c]+1:=by
 rw [Lib.index]
 by_cases h:b=c
 ·subst h; simp
 ·have hb:(c == b)=false:=by simpa using fun e:c=b=>h e.symm
  have:List.isPrefixOf [c] (b::l)=false:=by simp [List.isPrefixOf,hb]
  rw [this,if_neg h]; rfl
theorem y67 (c:UInt8):∀ s:Bs,Lib.splitK [c] 0 (Lib.count s [c]) s=spl c s
 | []=>by
  rw [Lib.count_miss (by rfl)]
  rfl
 | b::l=>by
  have ih:=y67 c l
  have hi:=z97 c b l
  by_cases h:b=c
  ·rw [if_pos h] at hi
   rw [Lib.count_hit (i:=0) (by simp) (by simpa using hi),Nat.add_comm,Lib.splitK,if_neg (by rw [hi]; decide),hi,spl,if_pos h]
   simp only [Int.toNat_zero,Nat.zero_add,List.length_cons,List.length_nil,Nat.add_zero,List.take_zero,List.drop_succ_cons,List.drop_zero,ih]
  ·rw [if_neg h] at hi
   have hs:spl c (b::l)=match spl c l with | p::ps=>(b::p)::ps | []=>[[b]]:=by rw [spl,if_neg h]
   have hge:=Lib.index_ge l [c]
   by_cases h1:Lib.index l [c]=-1
   ·rw [if_pos (by simpa using h1)] at hi
    rw [Lib.count_miss h1] at ih
    have ih:[l]=spl c l:=ih
    rw [Lib.count_miss hi,hs,← ih]
    rfl
   ·obtain ⟨i,h2⟩:∃ i:Nat,Lib.index l [c]=i:=⟨(Lib.index l [c]).toNat,by omega⟩
    rw [if_neg (by simpa using h1),h2] at hi
    have hi':Lib.index (b::l) [c]=((i+1:Nat):Int):=by rw [hi]; omega
    rw [Lib.count_hit (i:=i) (by simp) h2,Nat.add_comm,Lib.splitK,if_neg (by rw [h2]; simp),h2] at ih
    rw [Lib.count_hit (i:=i+1) (by simp) hi',Nat.add_comm,Lib.splitK,if_neg (by rw [hi']; simp; omega),hi',hs,← ih]
    simp
theorem z38 (s:Bs) (c:UInt8):xc s [c]=spl c s:=by
 unfold xc
 rw [Lib.splitB_data]
 exact y67 c s
theorem Yc (c:UInt8):∀ s:Bs,(spl c s).length≤s.length+1
 | []=>by simp [spl]
 | b::l=>by
  have ih:=Yc c l
  unfold spl
  split
  ·simp only [List.length_cons]; omega
  ·split
   ·rename_i p ps h; rw [h] at ih; simp only [List.length_cons] at ih ⊢; omega
   ·simp
theorem z39 (c:UInt8):∀ (s:Bs) (p:Bs),p∈spl c s→p.length≤s.length
 | [],p,h=>by simp [spl] at h; subst h; simp
 | b::l,p,h=>by
  have ih:=z39 c l
  unfold spl at h
  split at h
  ·rcases List.mem_cons.1 h with rfl | h
   ·simp
   ·have:=ih p h; simp only [List.length_cons]; omega
  ·split at h
   ·rename_i q ps hq
    rw [hq] at ih
    rcases List.mem_cons.1 h with rfl | h
    ·have:=ih q (by simp); simp only [List.length_cons]; omega
    ·have:=ih p (List.mem_cons_of_mem _ h); simp only [List.length_cons]; omega
   ·simp at h; subst h; simp
abbrev z1a (l:List Bs):List Bs:=l.mergeSort fun x y=>decide (x≤y)
theorem x5m (l:List Bs):(z1a l).Pairwise fun x y=>x≤y:=by
 have h:=List.pairwise_mergeSort (le:=fun x y:Bs=>decide (x≤y)) (fun a b c h k=>by
  have h:=of_decide_eq_true h
  have k:=of_decide_eq_true k
  exact decide_eq_true (List.le_trans h k)) (fun a b=>by
  rcases List.le_total a b with h | h <;> simp [h]) l
 exact h.imp fun h=>of_decide_eq_true h
theorem x5k (l:List Bs) (x:Bs):x∈z1a l↔x∈l:=List.mem_mergeSort
theorem x5l (l:List Bs):(z1a l).length=l.length:=by simp [z1a]
abbrev Rise (l:List Bs):Prop:=l.Pairwise fun x y=>x < y
theorem x6f {l1 l2:List Bs} (h1:Rise l1) (h2:Rise l2) (h:∀ x,x∈l1↔x∈l2):l1=l2:=by
 have n1:l1.Nodup:=h1.imp fun h e=>by subst e; exact List.lt_irrefl _ h
 have n2:l2.Nodup:=h2.imp fun h e=>by subst e; exact List.lt_irrefl _ h
 refine List.Perm.eq_of_pairwise (le:=fun x y=>x < y) (fun a b _ _ hab hba=>absurd hba (List.lt_asymm hab)) h1 h2 ?_
 rw [List.perm_ext_iff_of_nodup n1 n2]
 exact h

theorem y92 {α:Type} [Inhabited α] (l:List α) (x:α):(l++[x]).toArray[l.length]! = x:=by simp
section
variable {α:Type} [Inhabited α] [DecidableEq α]
theorem x0v (d d':Array α):∀ m,(∀ j,j < m→d[j]! = d'[j]!)→Lib.compactUpTo d m=Lib.compactUpTo d' m
 | 0,_=>rfl
 | m+1,h=>by
  rw [Lib.compactUpTo_succ,Lib.compactUpTo_succ,x0v d d' m fun j hj=>h j (by omega)]
  have e1:=h m (by omega)
  have e2:d[m - 1]! = d'[m - 1]! := h (m - 1) (by omega)
  unfold Lib.keeps
  rw [e1,e2]
theorem x0s (l:List α) (x:α):Lib.compact (l++[x])=Lib.compact l++(if l.getLast?=some x then [] else [x]):=by
 unfold Lib.compact
 rw [List.length_append,List.length_singleton,Lib.compactUpTo_succ]
 congr 1
 ·refine x0v _ _ _ fun j hj => ?_
  rw [getElem!_pos _ _ (by simp; omega),getElem!_pos _ _ (by simpa using hj)]
  simp [List.getElem_append_left hj]
 ·rw [y92]
  unfold Lib.keeps
  rw [y92]
  rcases List.eq_nil_or_concat l with rfl | ⟨l',y,rfl⟩
  ·simp
  ·have e1:(l'++[y]++[x]).toArray[(l'++[y]).length - 1]! = y:=by
    have:(l'++[y]).length - 1=l'.length:=by simp
    rw [this,getElem!_pos _ _ (by simp <;> omega)]
    simp
   rw [List.concat_eq_append] at *
   rw [e1]
   have e2:(l'++[y]).length≠0:=by simp
   by_cases h:y=x
   ·subst h; simp
   ·have h':¬ x=y:=fun e=>h e.symm
    simp [h,h']
end
theorem z8f {α:Type} {P:List α→Prop} (h0:P []) (h1:∀ l x,P l→P (l++[x])) (l:List α):P l:=by
 have:∀ n (l:List α),l.length=n→P l:=by
  intro n
  induction n with
  | zero=>intro l h; rw [List.eq_nil_of_length_eq_zero h]; exact h0
  | succ n ih =>
   intro l h
   rcases List.eq_nil_or_concat l with rfl | ⟨l',x,rfl⟩
   ·simp at h
   ·rw [List.concat_eq_append]
    exact h1 _ _ (ih l' (by simpa using h))
 exact this _ l rfl
theorem x0t {α:Type} [Inhabited α] [DecidableEq α] (l:List α) (x:α):x∈Lib.compact l↔x∈l:=by
 induction l using z8f with
 | h0=>simp [Lib.compact,Lib.compactUpTo]
 | h1 l y ih =>
  rw [x0s,List.mem_append,List.mem_append,ih]
  split
  ·rename_i h
   have:y∈l:=List.mem_of_getLast? h
   simp
   rintro rfl
   exact this
  ·rfl
theorem w2r (l:List Bs) (h:l.Pairwise fun x y=>x≤y):Rise (Lib.compact l):=by
 induction l using z8f with
 | h0=>simp [Lib.compact,Lib.compactUpTo]
 | h1 l y ih =>
  obtain ⟨h1,_,h3⟩:=List.pairwise_append.1 h
  rw [x0s]
  split
  ·rw [List.append_nil]; exact ih h1
  ·rename_i hne
   refine List.pairwise_append.2 ⟨ih h1,by simp,fun a ha b hb => ?_⟩
   simp only [List.mem_singleton] at hb
   subst hb
   have ha:=(x0t l a).1 ha
   refine Std.lt_of_le_of_ne (h3 a ha _ (by simp)) ?_
   rintro rfl
   -- a is the greatest of l,so it is the last
   obtain ⟨l',z,rfl⟩:∃ l' z,l=l'++[z]:=by
    rcases List.eq_nil_or_concat l with rfl | ⟨l',z,rfl⟩
    ·cases ha
    ·exact ⟨l',z,List.concat_eq_append⟩
   rcases List.mem_append.1 ha with ha | ha
   ·have h5:=(List.pairwise_append.1 h1).2.2 a ha z (by simp)
    have h6:=h3 z (by simp) a (by simp)
    have:=List.le_antisymm h5 h6
    subst this
    exact hne (by simp)
   ·simp only [List.mem_singleton] at ha
    subst ha
    exact hne (by simp)
def setB (l:List Bs):List Bs:=Lib.compact (z1a l)
theorem y7k (l:List Bs):Rise (setB l):=w2r _ (x5m l)
theorem z8k (l:List Bs) (x:Bs):x∈setB l↔x∈l:=by unfold setB; rw [x0t,x5k]
theorem y7l (l:List Bs):(setB l).length≤l.length:=by
 unfold setB
 have:=x0u (z1a l)
 rw [x5l] at this
 exact this

noncomputable def gDel {α:Type} (z:α) (s1:List α) (p1:α→Option Bool):Option (List α):=
 (gIdx s1 p1).bind fun (r2:Int)=>if decide (r2=(-1)) then some s1 else (iter (fun (s:Int×Int×(List α))=>if decide (s.2.1 < (s.2.2.length:Int)) then ((at? s.2.2 s.2.1).bind fun (x10:α)=>(p1 x10).bind fun (r12:Bool)=>if !r12 then ((at? s.2.2 s.1).bind fun (x15:α)=>some (.inl (wr (s.1+1),wr (s.2.1+1),(s.2.2.set s.1.toNat x10)))) else some (.inl (s.1,wr (s.2.1+1),s.2.2))) else (Option.map .inr (if (0:Int)≤s.1∧s.1 < (s.2.2.length:Int) then (if (0:Int)≤s.1∧s.1≤((s.2.2.take s.1.toNat++List.replicate (s.2.2.length - s.1.toNat) z).length:Int) then (some ((s.2.2.take s.1.toNat++List.replicate (s.2.2.length - s.1.toNat) z).take s.1.toNat)) else none) else none))) (r2,wr (r2+1),s1))
theorem x0i {α:Type} (q:α→Bool):∀ (l:List α) (k:Nat),0≤fdx q k l→(l.take ((fdx q k l).toNat - k)).filter (fun x => !q x)=l.take ((fdx q k l).toNat - k)
 | [],k,h=>by simp [fdx] at h
 | x::l,k,h=>by
  cases hq:q x
  ·simp only [fdx,hq,if_false,Bool.false_eq_true] at h ⊢
   have ih:=x0i q l (k+1) h
   have h1:=(z2s q l (k+1)).2 h
   have:(fdx q (k+1) l).toNat - k=((fdx q (k+1) l).toNat - (k+1))+1:=by omega
   rw [this,List.take_succ_cons,List.filter_cons,hq]
   simp [ih]
  ·simp [fdx,hq]
theorem w1k {α:Type} (z:α) (l:List α) {p:α→Option Bool} (q:α→Bool) (hl:l.length≤1000000000) (hp:∀ x,x∈l→p x=some (q x)):gDel z l p=some (l.filter fun x => !q x):=by
 unfold gDel
 rw [y4r l q hl hp]
 simp only [Option.bind_some]
 by_cases h0:l.any q=true
 ·obtain ⟨h1,x,h2,h3,h4⟩:=w1w q l h0
  have hlt:=kn h3
  rw [if_neg (by simp; omega),qw (by omega)]
  have hb:=x0i q l 0 h1
  simp only [Nat.sub_zero] at hb
  refine y2u (y2t (fun s:Int×Int×List α=>0≤s.1∧s.1 < s.2.1∧s.2.1≤(l.length:Int)∧s.2.2.length=l.length∧s.2.2.take s.1.toNat=(l.take s.2.1.toNat).filter (fun x => !q x)∧s.2.2.drop s.2.1.toNat=l.drop s.2.1.toNat) (fun s=>(l.length - s.2.1.toNat)) ?_ _ ?_)
  ·rintro ⟨i,j,s⟩ ⟨g1,g2,g3,g4,g5,g6⟩
   simp only at g1 g2 g3 g4 g5 g6
   refine z1d (fun hc => ?_) (fun hc => ?_)
   ·have hc:j < (s.length:Int):=by simpa using hc
    simp only at hc ⊢
    have hj:j.toNat < l.length:=by omega
    have e1:s[j.toNat]?=some l[j.toNat]:=by
     have:=congrArg (fun t=>t[0]?) g6
     simp only [List.getElem?_drop,Nat.add_zero,List.getElem?_eq_getElem hj] at this
     exact this
    have e2:at? s j=some l[j.toNat]:=by unfold at?; rw [if_pos (by omega)]; exact e1
    rw [e2,qw (n:=j+1) (by omega)]
    simp only [Option.bind_some,hp _ (List.getElem_mem hj)]
    have ej:(j+1).toNat=j.toNat+1:=by omega
    have etk:l.take (j.toNat+1)=l.take j.toNat++[l[j.toNat]]:=by rw [List.take_add_one,List.getElem?_eq_getElem hj]; rfl
    cases hq:q l[j.toNat]
    ·simp only [Bool.not_false,if_true]
     have e3:at? s i=some s[i.toNat]:=by unfold at?; rw [if_pos g1,List.getElem?_eq_getElem (by omega)]
     rw [e3,qw (n:=i+1) (by omega)]
     simp only [Option.bind_some]
     refine wv ?_
     have ei:(i+1).toNat=i.toNat+1:=by omega
     refine ⟨⟨by simp only; omega,by simp only; omega,by simp only; omega,by simpa using g4,?_,?_⟩,by simp only; omega⟩
     ·simp only
      rw [ei,ej,etk,List.filter_append,← g5,List.take_add_one,List.getElem?_set_self (by omega),List.take_set_of_le (Nat.le_refl _)]
      simp [hq]
     ·simp only
      rw [ej,List.drop_set_of_lt (by omega)]
      have:=congrArg (List.drop 1) g6
      simpa [List.drop_drop,Nat.add_comm] using this
    ·simp only [Bool.not_true,Bool.false_eq_true,if_false]
     refine wv ⟨⟨g1,by simp only; omega,by simp only; omega,g4,?_,?_⟩,by simp only; omega⟩
     ·simp only
      rw [ej,etk,List.filter_append,← g5]
      simp [hq]
     ·simp only
      rw [ej]
      have:=congrArg (List.drop 1) g6
      simpa [List.drop_drop,Nat.add_comm] using this
   ·have hc:¬ j < (s.length:Int):=by simpa using hc
    have hj:j.toNat=l.length:=by omega
    rw [if_pos (by simp only; omega),if_pos (by simp only [List.length_append,List.length_take,List.length_replicate]; omega)]
    refine wv ?_
    show List.take i.toNat (List.take i.toNat s++_)=_
    rw [List.take_append_of_le_length (by rw [List.length_take]; omega),List.take_take,Nat.min_self,g5,hj,List.take_length]
  ·refine ⟨h1,by simp only; omega,by simp only; omega,rfl,?_,rfl⟩
   simp only
   have e1:(fdx q 0 l+1).toNat=(fdx q 0 l).toNat+1:=by omega
   rw [e1,List.take_add_one,h3,List.filter_append,hb]
   simp [h4]
 ·have h0:l.any q=false:=by simpa using h0
  have h1:=(z2s q l 0).1.2 h0
  have h2:fdx q 0 l=-1:=by
   have:∀ (l:List α) k,fdx q k l < 0→fdx q k l=-1:=by
    intro l
    induction l with
    | nil=>intro k _; rfl
    | cons x l ih =>
     intro k h
     unfold fdx at h ⊢
     split
     ·rename_i hq; rw [if_pos hq] at h; omega
     ·rename_i hq; rw [if_neg hq] at h; exact ih _ h
   exact this l 0 h1
  rw [if_pos (by simpa using h2)]
  congr 1
  symm
  rw [List.filter_eq_self]
  intro x hx
  have:=List.any_eq_false.1 h0 x hx
  simpa using this
def scK (n:Nat) (k:Nat) (p:Bs):Bool:=keyP p || (decide (p=[42]) && decide ((k:Int)=(n:Int) - 1))
def scP (s:Bs):Bool:=allI (scK (spl 58 s).length) 0 (spl 58 s) && decide (((spl 58 s).length:Int)≤10)
theorem w03 (s:Bs) (h:s.length≤1000000):z4w s=some (scP s):=by
 have hn:=Yc 58 s
 unfold z4w jj
 rw [if_pos ⟨by omega,by simp⟩,z38]
 simp only [Option.bind_some]
 rw [if_pos (by omega),xk (p:=scK (spl 58 s).length) (r0:=false) (e:=decide (((spl 58 s).length:Int)≤10)) rfl (spl 58 s) 0 fun j x _ hx => ?_]
 ·unfold scP
  cases allI (scK (spl 58 s).length) 0 (spl 58 s) <;> simp
 ·have hx:(spl 58 s)[j]?=some x:=by simpa using hx
  have hl:=z39 58 s x (List.mem_of_getElem? hx)
  unfold z7x
  rw [kk x (by omega),qw (by omega)]
  simp only [Option.bind_some]
  unfold scK
  cases keyP x <;> cases (decide (x=[42]) && decide ((j:Int)=((spl 58 s).length:Int) - 1)) <;> rfl
def Sh (l:List Bs):Prop:=l.length≤1000000∧∀ x,x∈l→x.length≤1000000
def scF (l:List Bs):Int:=if 50 < l.length then 2 else if l.all scP=true then 0 else 3
theorem z6y (l:List Bs) (h:Sh l):Yi l=some (scF l):=by
 have hn:=h.1
 unfold Yi scF
 by_cases h1:50 < l.length
 ·rw [if_pos (by simp; omega),if_pos h1]
 ·rw [if_neg (by simp; omega),if_neg h1,if_pos (by omega),xk (p:=fun _ x=>scP x) (r0:=(3:Int)) (e:=(0:Int)) rfl l 0 fun j x _ hx => ?_]
  ·rw [z29]
  ·have hx:l[j]?=some x:=by simpa using hx
   unfold z73
   rw [w03 x (h.2 x (List.mem_of_getElem? hx))]
   simp only [Option.bind_some]
   cases scP x <;> rfl
def or2 (a b:Int):Int:=if a≠0 then a else b
theorem x7t (a b:List Bs) (ha:Sh a) (hb:Sh b):z41 [a,b]=some (or2 (scF a) (scF b)):=by
 unfold z41 or2
 rw [if_pos (by simp)]
 simp only [forL,z7y,z7z,z6y a ha,z6y b hb,Option.bind_some]
 by_cases h1:scF a=0 <;> by_cases h2:scF b=0 <;> simp [h1,h2,after]

def cvB (a b:Bs):Bool:=if Lib.hasSuffix a [42]=true then Lib.hasPrefix b (Lib.trimSuffix a [42]) else decide (a=b)
theorem x5f {a:Bs} (h:Lib.hasSuffix a [42]=true):∃ g,a=g++[42]∧Lib.trimSuffix a [42]=g:=by
 unfold Lib.hasSuffix at h
 rw [List.isSuffixOf_iff_suffix] at h
 obtain ⟨g,hg⟩:=h
 refine ⟨g,hg.symm,?_⟩
 unfold Lib.trimSuffix Lib.hasSuffix
 rw [if_pos (by rw [List.isSuffixOf_iff_suffix]; exact ⟨g,hg⟩),← hg]
 simp
theorem w2j (a:Bs):cvB a a=true:=by
 unfold cvB
 split
 ·rename_i h
  obtain ⟨g,h1,h2⟩:=x5f h
  rw [h2]
  unfold Lib.hasPrefix
  rw [List.isPrefixOf_iff_prefix]
  exact ⟨[42],h1.symm⟩
 ·simp
theorem x64 (a b:Bs) (h:a.length≤1000000):z5v a b=some (cvB a b):=by
 unfold z5v Wq Wp cvB
 rw [if_pos (by omega)]
 simp only [Option.bind_some]
 cases Lib.hasSuffix a [42] <;> simp
theorem x0q (a b:Bs) (h:a.length≤1000000):z1q a b=some (cvB a b):=by
 unfold z1q Wq Wp z0y
 by_cases h1:a=b
 ·subst h1
  rw [if_pos (by simp),w2j]
 ·rw [if_neg (by simpa using h1),if_pos (by omega)]
  simp only [Option.bind_some]
  unfold cvB
  cases Lib.hasSuffix a [42] <;> simp [h1]
def cvL (l:List Bs) (s:Bs):Bool:=l.any fun h=>cvB h s
def cvA (have_ want:List Bs):Bool:=want.all fun w=>cvL have_ w
theorem y0m (l:List Bs) (p:Bs→Option Bool) (q:Bs→Bool) (h:l.length≤1000000) (hp:∀ x,x∈l→p x=some (q x)):Wt l p=some (l.any q):=
 y4s l q (by omega) hp
theorem w2o (l:List Bs) (s:Bs) (h:Sh l):z4z l s=some (cvL l s):=by
 unfold z4z
 rw [y0m l _ (fun x=>cvB x s) h.1 fun x hx => ?_]
 ·rfl
 ·unfold z4y
  rw [x0q x s (h.2 x hx)]; rfl
theorem w3u (l:List Bs) (q:Bs→Bool):(!l.any fun x => !q x)=l.all q:=by
 induction l with
 | nil=>rfl
 | cons x l ih=>simp only [List.any_cons,List.all_cons,Bool.not_or,Bool.not_not,ih]
theorem x0r (a b:List Bs) (ha:Sh a) (hb:Sh b):z1r a b=some (cvA a b):=by
 unfold z1r
 rw [y0m b _ (fun x => !cvL a x) hb.1 fun x hx => ?_]
 ·simp only [Option.bind_some]
  rw [w3u]; rfl
 ·unfold z40
  rw [w2o a x ha]; rfl
def lsI (l:List Bs) (s:Bs):Prop:=s∈l∧∀ h,h∈l→h≠s→cvB h s=false
def lsQ (l:List Bs) (s:Bs):Bool:=l.any fun h=>decide (h≠s) && cvB h s
def lsP (l:List Bs):List Bs:=(setB l).filter fun s => !lsQ (setB l) s
theorem y8r (l:List Bs) (s:Bs):lsQ l s=false↔∀ h,h∈l→h≠s→cvB h s=false:=by
 unfold lsQ
 rw [List.any_eq_false]
 constructor
 ·intro k h hh hne
  have:=k h hh
  simpa [hne] using this
 ·intro k h hh
  by_cases hne:h=s
  ·simp [hne]
  ·simp [hne,k h hh hne]
theorem z57 (l:List Bs) (s:Bs):s∈lsP l↔lsI l s:=by
 unfold lsP lsI
 rw [List.mem_filter,z8k,Bool.not_eq_true',y8r]
 simp only [z8k]
theorem x7p (l:List Bs):Rise (lsP l):=(y7k l).filter _
theorem x7q (l:List Bs):setB (l.filter fun s => !lsQ l s)=lsP l:=
 x6f (y7k _) (x7p l) fun s=>by
  rw [z57,z8k,List.mem_filter,Bool.not_eq_true',y8r]
  rfl
theorem z9q (l:List Bs):(lsP l).length≤l.length:=by
 have h1:=List.length_filter_le (fun s => !lsQ (setB l) s) (setB l)
 have h2:=y7l l
 unfold lsP; omega
theorem x6e (l:List Bs) (h:l.length≤1000000):Wy l=some (setB l):=by
 unfold Wy um xe Wu
 rw [if_pos (by omega)]
 simp only [Option.bind_some]
 rw [if_pos (by omega)]
 simp only [Option.bind_some]
 rw [if_pos (by simp; omega)]
 rfl
theorem w2a (l:List Bs) (p:Bs→Option Bool) (q:Bs→Bool) (h:l.length≤1000000) (hp:∀ x,x∈l→p x=some (q x)):z9f l p=some (l.filter fun x => !q x):=
 w1k [] l q (by omega) hp
theorem y8u (l:List Bs) (h:Sh l):Wl l=some (lsP l):=by
 have hs:=y7l l
 have hn:=h.1
 have h2:Sh (setB l):=⟨by omega,fun x hx=>h.2 x ((z8k l x).1 hx)⟩
 unfold Wl
 rw [x6e l hn]
 simp only [Option.bind_some]
 unfold um
 rw [if_pos (by omega)]
 simp only [Option.bind_some]
 rw [w2a (setB l) _ (lsQ (setB l)) h2.1 fun x hx => ?_]
 ·rfl
 ·unfold z4u
  rw [y0m (setB l) _ (fun h=>decide (h≠x) && cvB h x) h2.1 fun y hy => ?_]
  ·rfl
  ·unfold z4t z0w
   rw [x0q y x (h2.2 y hy)]
   simp only [Option.bind_some]
   cases decide (y≠x) <;> simp
theorem x7y (l:List Bs) (h:Sh l):z5x l=some (lsP l):=by
 have hn:=h.1
 unfold z5x
 rw [if_pos (by omega)]
 refine y2u (y79 (I:=fun k (s:List Bs)=>s=(l.take k).filter fun s => !lsQ l s) l 0 [] (by simp) ?_ ?_)
 ·intro j x s _ hx hs
  have hx:l[j]?=some x:=by simpa using hx
  have hj:=kn hx
  unfold y0a z2o
  rw [y0m l _ (fun h=>decide (h≠x) && cvB h x) hn fun y hy => ?_]
  ·simp only [Option.bind_some]
   have hlen:=List.length_filter_le (fun s => !lsQ l s) (l.take j)
   rw [List.length_take] at hlen
   have e1:(l.take (j+1)).filter (fun s => !lsQ l s)=s++(if lsQ l x=false then [x] else []):=by
    rw [List.take_add_one,hx,List.filter_append,hs]
    cases hq:lsQ l x <;> simp [hq]
   show Ok (if (!lsQ l x)=true then _ else _) _
   cases hq:lsQ l x
   ·rw [if_pos (by simp),if_pos (by rw [hs]; omega)]
    refine wv ?_
    show s++[x]=_
    rw [e1,hq]; rfl
   ·rw [if_neg (by simp)]
    refine wv ?_
    show s=_
    rw [e1,hq]; simp
  ·unfold z5w z2p
   rw [x64 y x (h.2 y hy)]
   simp only [Option.bind_some]
   cases decide (y≠x) <;> simp
 ·intro s hs
  have hs:s=l.filter fun s => !lsQ l s:=by simpa using hs
  have hlen:=List.length_filter_le (fun s => !lsQ l s) l
  unfold y0b xe Wu
  rw [if_pos (by rw [hs]; omega)]
  simp only [Option.bind_some]
  rw [if_pos (by simp; rw [hs]; omega)]
  refine wv ?_
  rw [hs]
  exact x7q l

section
variable (a b:List Bs) (ha:Sh a) (hb:Sh b) (hl:a.length≤50∧b.length≤50)
include ha hb
omit hb in
include hl
end
theorem x5v {a:List Bs} (h:scF a=0):a.length≤50∧a.all scP=true:=by
 unfold scF at h
 split at h
 ·cases h
 ·split at h
  ·rename_i h1 h2; exact ⟨by omega,h2⟩
  ·cases h
theorem y0r {α:Type} (p:Nat→α→Bool):∀ (l:List α) (k:Nat),allI p k l=true↔∀ j x,l[j]?=some x→p (k+j) x=true
 | [],k=>by simp [allI]
 | y::l,k=>by
  simp only [allI,Bool.and_eq_true,y0r p l (k+1)]
  constructor
  ·rintro ⟨h1,h2⟩ j x hj
   cases j with
   | zero=>cases hj; exact h1
   | succ j=>have:=h2 j x (by simpa using hj); rwa [show k+1+j=k+(j+1) by omega] at this
  ·intro h
   refine ⟨h 0 y rfl,fun j x hj => ?_⟩
   have:=h (j+1) x (by simpa using hj)
   rwa [show k+(j+1)=k+1+j by omega] at this
theorem x0l (a b:List Bs) (h:a.length≤1000000000):z1w a b=some (decide (a=b)):=by
 unfold z1w
 by_cases hl:a.length=b.length
 ·rw [if_neg (by simp [hl]),if_pos h,xk (p:=fun k x=>decide (b[k]?=some x)) (e:=true) (r0:=false) rfl a 0 fun j x _ hx => ?_]
  ·have:allI (fun k x=>decide (b[k]?=some x)) 0 a=decide (a=b):=by
    rw [Bool.eq_iff_iff,y0r]
    simp only [Nat.zero_add,decide_eq_true_eq]
    constructor
    ·intro h
     apply List.ext_getElem?
     intro j
     cases hj:a[j]? with
     | some x=>rw [h j x hj]
     | none=>rw [List.getElem?_eq_none_iff] at hj; rw [eq_comm,List.getElem?_eq_none_iff]; omega
    ·rintro rfl j x hj; exact hj
   rw [this]
   cases decide (a=b) <;> rfl
  ·have hx:a[j]?=some x:=by simpa using hx
   have hj:=kn hx
   obtain ⟨y,hy⟩:∃ y,b[j]?=some y:=⟨_,List.getElem?_eq_getElem (by omega)⟩
   unfold z8g
   rw [hy]
   simp only [Option.bind_some]
   by_cases hxy:x=y
   ·simp [hxy]
   ·have:¬ y=x:=fun e=>hxy e.symm
    simp [hxy,this]
 ·have:a≠b:=fun e=>hl (by rw [e])
  rw [if_pos (by simp; omega)]
  simp [this]

structure ClB (c:zm):Prop where
 id:c.Id.length≤1000000
 subject:c.Subject.length≤1000000
 issuer:c.Issuer.length≤1000000
 parent:c.Parent.length≤1000000
 aud:Sh c.Audience
 sc:Sh c.Scopes
theorem y7e:Sh []:=⟨by simp,by simp⟩
def z6d (c:zm):Bool:=keyP c.Id && keyP c.Subject && keyP c.Issuer && (decide (c.Parent=[]) || keyP c.Parent)
def y8v (l:List Bs) (k:Nat) (x:Bs):Bool:=decide (0 < k) && match l[k - 1]? with | some y=>Op.bytesLess x y || x == y | none=>false
def au1 (l:List Bs) (k:Nat) (x:Bs):Int:=if (!keyP x)=true then 5 else if y8v l k x=true then 7 else 0
def audF (l:List Bs):Int:=feI (au1 l) 0 l
def tlF (c:zm):Int:=if scF c.Scopes≠0 then scF c.Scopes else if c.Scopes≠lsP c.Scopes then 7 else if (decide (c.From < 0) || decide (c.To≤c.From) || decide (345686400000 < c.To))=true then 1 else 0
def clF (c:zm):Int:=if (!z6d c)=true then 5 else if 50 < c.Audience.length then 2 else if audF c.Audience≠0 then audF c.Audience else tlF c
theorem x70 (l:List Bs) (k:Nat) (h:k < l.length) (hk:0 < k):∃ y,l[k - 1]?=some y∧at? l ((k:Int) - 1)=some y:=by
 refine ⟨_,List.getElem?_eq_getElem (by omega),?_⟩
 rw [show (k:Int) - 1=((k - 1:Nat):Int) by omega,Yz,List.getElem?_eq_getElem (by omega)]
theorem w3i (l:List Bs) (h:Sh l) (j:Nat) (x:Bs) (hx:l[j]?=some x) (J:Bool→Option (Unit ⊕ Int)) (hJ:∀ b,J b=if b=true then some (.inr 7) else some (.inl ())) :
  (if (!keyP x)=true then (some (.inr 5)) else (if decide (0 < (j:Int)) then ((at? l ((j:Int) - 1)).bind fun (x13:Bs)=>J (Op.bytesLess x x13 || x == x13)) else (J false)):Option (Unit ⊕ Int))=if au1 l j x≠0 then some (.inr (au1 l j x)) else some (.inl ()):=by
 have hj:=kn hx
 unfold au1
 cases keyP x
 ·simp
 ·simp only [Bool.not_true,Bool.false_eq_true,if_false]
  unfold y8v
  by_cases h0:0 < j
  ·obtain ⟨y,h1,h2⟩:=x70 l j hj h0
   rw [if_pos (by simpa using h0),h2,h1]
   simp only [Option.bind_some,hJ,h0,decide_true,Bool.true_and]
   cases (Op.bytesLess x y || x == y) <;> simp
  ·rw [if_neg (by simpa using h0),hJ]
   simp [h0]
theorem w3h (l:List Bs) (h:Sh l):z5q l=some (audF l):=by
 have hn:=h.1
 unfold z5q audF
 rw [if_pos (by omega),z2r (e:=au1 l) rfl l 0 fun j x _ hx => ?_]
 have hx:l[j]?=some x:=by simpa using hx
 unfold z9t
 rw [kk x (by have:=h.2 x (List.mem_of_getElem? hx); omega)]
 simp only [Option.bind_some]
 exact w3i l h j x hx z0b fun b=>by unfold z0b; rfl
theorem z6x (c:zm) (h:ClB c):Zf c=some (clF c):=by
 have hA:=h.aud.1
 have hS:=h.sc.1
 have hJ:∀ b,xa c b=some (if b=true then 5 else if 50 < c.Audience.length then 2 else if audF c.Audience≠0 then audF c.Audience else tlF c):=by
  intro b
  unfold xa
  cases b
  ·simp only [Bool.false_eq_true,if_false]
   by_cases h1:50 < c.Audience.length
   ·rw [if_pos (by simp; omega),if_pos h1]
   ·rw [if_neg (by simp; omega),if_neg h1,w3h c.Audience h.aud,z6y c.Scopes h.sc,y8u c.Scopes h.sc]
    simp only [Option.bind_some]
    rw [x0l c.Scopes (lsP c.Scopes) (by omega)]
    simp only [Option.bind_some]
    by_cases h2:audF c.Audience=0
    ·simp only [h2,ne_eq,not_true_eq_false,decide_false,Bool.false_eq_true,if_false]
     unfold tlF
     by_cases h3:scF c.Scopes=0
     ·simp only [h3,ne_eq,not_true_eq_false,decide_false,Bool.false_eq_true,if_false]
      by_cases h4:c.Scopes=lsP c.Scopes
      ·rw [decide_eq_true h4,if_neg (by simp),if_neg (not_not_intro h4)]
       split <;> rfl
      ·rw [if_pos (by simp [h4]),if_pos h4]
     ·simp [h3]
    ·simp [h2]
  ·rfl
 unfold Zf clF z6d
 rw [kk _ (by have:=h.id; omega),kk _ (by have:=h.subject; omega),kk _ (by have:=h.issuer; omega),kk _ (by have:=h.parent; omega)]
 simp only [Option.bind_some,hJ]
 cases keyP c.Id
 ·simp
 ·cases keyP c.Subject
  ·simp
  ·cases keyP c.Issuer
   ·simp
   ·by_cases hp:c.Parent=[]
    ·simp [hp]
    ·cases keyP c.Parent <;> simp [hp]
def dgC (c:zm) (i u:Bs) (sc:List Bs) (w:jm):zm:=⟨i,u,c.Issuer,c.Id,c.Audience,lsP sc,w.From,w.To⟩
def dgE (c:zm) (i u:Bs) (sc:List Bs) (w:jm):Int:=if clF c≠0 then clF c else if scF sc≠0 then scF sc else if (!keyP i || !keyP u)=true then 5 else if i=c.Id then 14 else if (!cvA c.Scopes sc || decide (w.From < c.From) || decide (c.To < w.To))=true then 16 else clF (dgC c i u sc w)
def dgF (c:zm) (i u:Bs) (sc:List Bs) (w:jm):zm×Int:=if dgE c i u sc w≠0 then (⟨[],[],[],[],[],[],0,0⟩,dgE c i u sc w) else (dgC c i u sc w,0)
theorem y7f {l:List Bs} (h:Sh l):Sh (lsP l):=⟨Nat.le_trans (z9q l) h.1,fun x hx=>h.2 x ((z57 l x).1 hx).1⟩
section
variable (c:zm) (i u:Bs) (sc:List Bs) (w:jm) (h:ClB c) (hi:i.length≤1000000) (hu:u.length≤1000000) (hs:Sh sc)
include h hi hu hs
theorem w18:ClB (dgC c i u sc w):=⟨hi,hu,h.issuer,h.id,h.aud,y7f hs⟩
theorem w19:z48 c i u sc w=some (dgF c i u sc w):=by
 have hJ:∀ b,clF c=0→scF sc=0→b=(!keyP i || !keyP u)→Qk c i u sc w b=some (dgF c i u sc w):=by
  intro b h1 h2 hb
  unfold Qk um dgF dgE
  rw [x0r c.Scopes sc h.sc hs,if_pos (show c.Audience.length≤1000000000 by have:=h.aud.1; omega),y8u sc hs]
  simp only [Option.bind_some,h1,h2,← hb,ne_eq,not_true_eq_false,if_false]
  rw [show (zm.mk i u c.Issuer c.Id c.Audience (lsP sc) w.From w.To)=dgC c i u sc w from rfl,z6x _ (w18 c i u sc w h hi hu hs)]
  simp only [Option.bind_some]
  cases b
  ·simp only [Bool.false_eq_true,if_false]
   by_cases h3:i=c.Id
   ·simp [h3]
   ·cases hcv:cvA c.Scopes sc
    ·simp [h3]
    ·cases hw:(decide (w.From < c.From) || decide (c.To < w.To))
     ·simp only [Bool.or_eq_false_iff] at hw
      simp only [h3,hw.1,hw.2,decide_false,Bool.not_true,Bool.or_false,Bool.false_eq_true,if_false]
      by_cases h4:clF (dgC c i u sc w)=0 <;> simp [h4]
     ·simp only [h3,decide_false,Bool.not_true,Bool.false_or,Bool.false_eq_true,if_false,hw,if_true]
      simp
  ·simp
 unfold z48
 rw [z6x c h,z6y sc hs,kk i (by omega),kk u (by omega)]
 simp only [Option.bind_some]
 by_cases h1:clF c=0
 ·by_cases h2:scF sc=0
  ·simp only [h1,h2,ne_eq,not_true_eq_false,decide_false,Bool.false_eq_true,if_false]
   cases hk:keyP i
   ·exact hJ true h1 h2 (by simp [hk])
   ·exact hJ _ h1 h2 (by simp [hk])
  ·unfold dgF dgE; simp [h1,h2]
 ·unfold dgF dgE; simp [h1]
end
section
variable (l:List zm) (hl:l.length≤100) (hc:∀ c,c∈l→ClB c)
include hl hc
end

theorem w3n {α:Type} (l:List α) (n:Int) (h:0≤n∧n < l.length):Ok (at? l n) fun x=>x∈l:=by
 unfold at?
 rw [if_pos h.1,List.getElem?_eq_getElem (by omega)]
 exact ⟨_,rfl,List.getElem_mem _⟩
section
variable {σ ρ:Type}
theorem z2g {body:σ→Option (σ ⊕ ρ)} {s s':σ} (h:body s=some (.inl s')):iter body s=iter body s':=by
 rw [z94,h]; rfl
theorem Ys {body:σ→Option (σ ⊕ ρ)} {s:σ} {r:ρ} (h:body s=some (.inr r)):iter body s=some r:=by
 rw [z94,h]; rfl
end
theorem x4j (l:Bs):strN (qn l)=l:=by
 unfold strN qn
 rw [List.map_map]
 conv=>rhs; rw [← List.map_id l]
 refine List.map_congr_left fun c _ => ?_
 simp
theorem x7g (l:Bs):(qn l).length=l.length:=by simp [qn]
theorem y4b (B:Nat) (sep:Bs):∀ l:List Bs,(∀ x,x∈l→x.length≤B)→(Lib.join l sep).length≤l.length * (B+sep.length)
 | [],_=>by simp [Lib.join_nil]
 | x::r,h=>by
  rw [Lib.join_cons,List.length_append]
  have h1:=h x (by simp)
  have h2:(Lib.joinTail sep r).length≤r.length * (B+sep.length):=by
   have:∀ r:List Bs,(∀ x,x∈r→x.length≤B)→(Lib.joinTail sep r).length≤r.length * (B+sep.length):=by
    intro r
    induction r with
    | nil=>intro _; simp [Lib.joinTail]
    | cons y r ih =>
     intro hr
     have h3:=hr y (by simp)
     have h4:=ih fun z hz=>hr z (by simp [hz])
     unfold Lib.joinTail at h4 ⊢
     simp only [List.map_cons,List.flatten_cons,List.length_append,List.length_cons,Nat.succ_mul]
     omega
   exact this r fun y hy=>h y (by simp [hy])
  simp only [List.length_cons,Nat.succ_mul]
  omega
theorem y9x (c:UInt8):∀ s:Bs,c ∉ s→Lib.index s [c]=-1
 | [],_=>rfl
 | x::s,h=>by
  rw [z97,if_neg (fun e=>h (by simp [e])),y9x c s (fun e=>h (by simp [e]))]
  try rfl
theorem y9y (c:UInt8) (q:Bs):∀ p:Bs,c ∉ p→Lib.index (p++c::q) [c]=(p.length:Int)
 | [],_=>by rw [List.nil_append,z97,if_pos rfl]; rfl
 | x::p,h=>by
  rw [List.cons_append,z97,if_neg (fun e=>h (by simp [e])),y9y c q p (fun e=>h (by simp [e])),if_neg (by simp)]
  simp
theorem w2l (c:UInt8) (s:Bs) (h:c ∉ s):Lib.cut s [c]=(s,[],false):=by
 unfold Lib.cut
 rw [y9x c s h]; rfl
theorem x0p (c:UInt8) (p q:Bs) (h:c ∉ p):Lib.cut (p++c::q) [c]=(p,q,true):=by
 unfold Lib.cut
 rw [y9y c q p h,if_pos (by omega)]
 simp
def trR (c:UInt8) (s:Bs):Bs:=(s.reverse.dropWhile (· == c)).reverse
def trL (c:UInt8) (s:Bs):Bs:=s.dropWhile (· == c)
theorem y6m (c b:UInt8) (l:Bs):trR c (l++[b])=if b=c then trR c l else l++[b]:=by
 unfold trR
 rw [List.reverse_append,List.reverse_singleton,List.singleton_append,List.dropWhile_cons]
 by_cases h:b=c
 ·simp [h]
 ·simp [h]
theorem x3o (c:UInt8) (s:Bs):(trR c s).length≤s.length:=by
 unfold trR
 rw [List.length_reverse]
 have:=(List.dropWhile_sublist (l:=s.reverse) (· == c)).length_le
 simpa using this
theorem x3n (c:UInt8) (s:Bs):s.length≤1000000000→Yj s (c.toNat:Int)=some (trR c s):=by
 refine z8f (P:=fun s=>s.length≤1000000000→Yj s (c.toNat:Int)=some (trR c s)) (fun _ => ?_) (fun l b ih h => ?_) s
 ·unfold Yj
  exact Ys rfl
 ·have hl:(l++[b]).length=l.length+1:=by simp
  have e1:wr (((l++[b]).length:Int) - 1)=(l.length:Int):=by rw [hl,qw (by omega)]; omega
  have e2:at? (l++[b]) (l.length:Int)=some b:=by
   unfold at?
   rw [if_pos (by omega),Int.toNat_natCast]; simp
  have e3:sub? (l++[b]) 0 (l.length:Int)=some l:=by
   rw [y12 _ _ (by omega)]; simp
  rw [y6m]
  by_cases hb:b=c
  ·rw [if_pos hb]
   have:=ih (by omega)
   unfold Yj at this ⊢
   refine (z2g (s':=l) ?_).trans this
   unfold z3z Qr
   rw [if_pos (by simp),e1,e2]
   simp only [Option.bind_some]
   rw [if_pos (by simp [hb]),e3]; rfl
  ·rw [if_neg hb]
   unfold Yj
   refine Ys ?_
   unfold z3z Qr z30
   rw [if_pos (by simp),e1,e2]
   simp only [Option.bind_some]
   have hn:¬ (b.toNat:Int)=(c.toNat:Int):=fun h=>hb (UInt8.toNat_inj.1 (by omega))
   rw [if_neg (by simpa using hn)]; rfl
theorem y6l (c:UInt8):∀ s:Bs,s.length≤1000000000→Wm s (c.toNat:Int)=some (trL c s)
 | [],_=>by
  unfold Wm
  exact Ys rfl
 | b::l,h=>by
  simp only [List.length_cons] at h
  have e3:sub? (b::l) 1 ((b::l).length:Int)=some l:=by
   unfold sub?
   rw [if_pos (by simp; omega)]
   simp
  unfold trL
  rw [List.dropWhile_cons]
  by_cases hb:b=c
  ·rw [if_pos (by simp [hb])]
   have:=y6l c l (by omega)
   unfold Wm at this ⊢
   refine (z2g (s':=l) ?_).trans this
   unfold z32 Qs
   rw [if_pos (by simp),List.getElem?_cons_zero]
   simp only [Option.bind_some]
   rw [if_pos (by simp [hb]),e3]; rfl
  ·rw [if_neg (by simp [hb])]
   unfold Wm
   refine Ys ?_
   unfold z32 Qs z33
   rw [if_pos (by simp),List.getElem?_cons_zero]
   simp only [Option.bind_some]
   have hn:¬ (b.toNat:Int)=(c.toNat:Int):=fun h=>hb (UInt8.toNat_inj.1 (by omega))
   rw [if_neg (by simpa using hn)]; rfl
theorem y6k (c:UInt8) (hc:c.toNat < 128) (s:Bs) (h:s.length≤1000000000):Wn s [c]=some (trL c (trR c s)):=by
 unfold Wn z06
 by_cases h0:s=[]
 ·subst h0; rfl
 ·have:=x3o c s
  rw [if_neg (by simp [h0]),if_pos (by simp),List.getElem?_cons_zero]
  simp only [Option.bind_some]
  rw [if_pos (by simp; omega),x3n c s h]
  simp only [Option.bind_some]
  rw [y6l c _ (by omega)]; rfl
theorem x5h:y3l=some true:=by
 have h1:Ww [47,97,47,46,46,47,98]=some 0:=by decide +kernel
 have h2:z5i [47,97,47,46,46,47,98]=some ([47,97,47,46,46,47,98],true):=by
  unfold z5i
  exact Yr.2 ⟨9,by decide +kernel⟩
 have h3:jj [97,47,46,46,47,98] [47]=some [[97],[46,46],[98]]:=by
  unfold jj
  rw [if_pos (by decide),z38]
  decide +kernel
 have h4:sub? ([47,97,47,46,46,47,98]:Bs) 1 7=some [97,47,46,46,47,98]:=by decide +kernel
 have h5:forL (fun (k:Nat) (x:Bs) (s:(List Bs))=>z82 [[97],[46,46],[98]] k x s) (fun (s:(List Bs))=>z83 s) 0 [[97],[46,46],[98]] []=some ([47,98],0):=by decide +kernel
 have h6:z1z [47,97,47,46,46,47,98]=some ([47,98],0):=by
  unfold z1z
  rw [h1]
  simp only [Option.bind_some,ne_eq,not_true_eq_false,decide_false,Bool.false_eq_true,if_false,h2,Bool.not_true]
  show (sub? ([47,97,47,46,46,47,98]:Bs) 1 7).bind _=_
  rw [h4]
  simp only [Option.bind_some]
  rw [h3]
  simp only [Option.bind_some]
  rw [if_pos (by decide)]
  exact h5
 unfold y3l
 rw [h6]; rfl
end Go.Proofs.YtbndlmnjeofkdadGreatDoor
