/- Plain: claims, delegation, chains: the program and the reference agree; the law ClaimsDelegated is true for every list of numbers. -/
import Derived.Test.YtndabcepiekebaaGreatDoorMc
import Derived.Test.YtndabcepiekebaaGreatDoorZkm
namespace Go.Proofs.YtndabcepiekebaaGreatDoor
set_option linter.unusedVariables false
set_option maxRecDepth 20000
section
variable {α β σ ρ:Type}
def Ok (o:Option α) (Q:α→Prop):Prop:=∃ x,o=some x∧Q x
variable {o a b:Option α} {Q Q':α→Prop}
theorem yx {x:α} (h:Q x):Ok (some x) Q:=⟨x,rfl,h⟩
theorem yc {f:α→Option β} {R:β→Prop} (h:Ok o Q) (k:∀ x,Q x→Ok (f x) R):Ok (o.bind f) R:=by
 obtain ⟨x,rfl,hx⟩:=h
 exact k x hx
theorem ww {c:Prop} [Decidable c] (h1:c→Ok a Q) (h2:¬ c→Ok b Q):Ok (if c then a else b) Q:=by
 by_cases h:c
 ·rw [if_pos h]; exact h1 h
 ·rw [if_neg h]; exact h2 h
theorem ok_g {c:Prop} [Decidable c] (hc:c) (h:Ok a Q):Ok (if c then a else none) Q:=by rw [if_pos hc]; exact h
theorem z4k (h:Ok o Q) (k:∀ x,Q x→Q' x):Ok o Q':=let ⟨x,h1,h2⟩:=h; ⟨x,h1,k x h2⟩
theorem y7r {x:α} (h:Ok o (· = x)):o=some x:=by obtain ⟨y,h1,h2⟩:=h; rw [h1,h2]
def rd (I:σ→Prop) (Q:ρ→Prop):σ ⊕ ρ→Prop
 | .inl s=>I s
 | .inr r=>Q r
theorem z4l {body:Nat→α→σ→Option (σ ⊕ ρ)} {fin:σ→Option ρ} {R:ρ→Prop} (I:Nat→σ→Prop):∀ (l:List α) (k:Nat) (s:σ),I k s →
  (∀ j x s,k≤j→l[j - k]?=some x→I j s→Ok (body j x s) (rd (I (j+1)) R))→(∀ s,I (k+l.length) s→Ok (fin s) R)→Ok (forL body fin k l s) R
 | [],k,s,h0,hs,hf=>hf s h0
 | x::l,k,s,h0,hs,hf=>by
  refine yc (hs k x s (Nat.le_refl _) (by simp) h0) fun q hq => ?_
  cases q with
  | inl s' =>
   refine z4l I l (k+1) s' hq (fun j y s hj hy hi=>hs j y s (by omega) ?_ hi) (fun s hi=>hf s ?_)
   ·obtain ⟨m,hm⟩:∃ m,j - k=m+1:=⟨j - k - 1,by omega⟩
    rw [hm,List.getElem?_cons_succ]
    have:j - (k+1)=m:=by omega
    rw [this] at hy; exact hy
   ·simp only [List.length_cons]
    have:k+(l.length+1)=k+1+l.length:=by omega
    rw [this]; exact hi
  | inr r=>exact ⟨r,rfl,hq⟩
theorem z8j {body:Nat→σ→Option (σ ⊕ ρ)} {fin:σ→Option ρ} {R:ρ→Prop} (I:Nat→σ→Prop):∀ (n k:Nat) (s:σ),I k s →
  (∀ j s,k≤j→j < k+n→I j s→Ok (body j s) (rd (I (j+1)) R))→(∀ s,I (k+n) s→Ok (fin s) R)→Ok (rng body fin n k s) R
 | 0,k,s,h0,hs,hf=>hf s h0
 | n+1,k,s,h0,hs,hf=>by
  refine yc (hs k s (Nat.le_refl _) (by omega) h0) fun q hq => ?_
  cases q with
  | inl s'=>exact z8j I n (k+1) s' hq (fun j s hj hy hi=>hs j s (by omega) (by omega) hi) (fun s hi=>hf s (by rw [show k+(n+1)=k+1+n by omega]; exact hi))
  | inr r=>exact ⟨r,rfl,hq⟩
theorem x2s {body:σ→Option (σ ⊕ ρ)} {R:ρ→Prop} (I:σ→Prop) (μ:σ→Nat) (step:∀ s,I s→Ok (body s) (rd (fun s'=>I s'∧μ s' < μ s) R)) (s:σ) (h:I s):Ok (iter body s) R:=by
 have key:∀ n s,μ s < n→I s→Ok (iter body s) R:=by
  intro n
  induction n with
  | zero=>intro s h; omega
  | succ n ih =>
   intro s hn hi
   rw [y0s]
   refine yc (step s hi) fun q hq => ?_
   cases q with
   | inl s'=>exact ih s' (by have:=hq.2; omega) hq.1
   | inr r=>exact ⟨r,rfl,hq⟩
 exact key _ s (Nat.lt_succ_self _) h
theorem x5l {body body':Nat→α→σ→Option (σ ⊕ ρ)} {fin fin':σ→Option ρ} (hf:∀ s,fin s=fin' s):∀ (l:List α) (k:Nat) (s:σ),(∀ j x s,k≤j→l[j - k]?=some x→body j x s=body' j x s)→forL body fin k l s=forL body' fin' k l s
 | [],k,s,h=>hf s
 | x::l,k,s,h=>by
  have h1:=h k x s (Nat.le_refl _) (by simp)
  show (body k x s).bind _=(body' k x s).bind _
  rw [h1]
  congr 1
  funext q
  cases q with
  | inl s' =>
   refine x5l hf l (k+1) s' fun j y s hj hy=>h j y s (by omega) ?_
   obtain ⟨m,hm⟩:∃ m,j - k=m+1:=⟨j - k - 1,by omega⟩
   rw [hm,List.getElem?_cons_succ]
   have:j - (k+1)=m:=by omega
   rw [this] at hy; exact hy
  | inr r=>rfl
end

section
variable {α ρ:Type}
def allI (p:Nat→α→Bool):Nat→List α→Bool
 | _,[]=>true
 | k,x::l=>p k x && allI p (k+1) l
theorem uv {body:Nat→α→Unit→Option (Unit ⊕ ρ)} {fin:Unit→Option ρ} {p:Nat→α→Bool} {e r0:ρ} (hf:fin ()=some e):∀ (l:List α) (k:Nat),(∀ j x,k≤j→l[j - k]?=some x→body j x ()=if p j x then some (.inl ()) else some (.inr r0))→forL body fin k l ()=some (if allI p k l then e else r0)
 | [],k,h=>by simp only [forL,allI,if_true]; exact hf
 | x::l,k,h=>by
  have h1:=h k x (Nat.le_refl _) (by simp)
  show (body k x ()).bind _=_
  rw [h1]
  cases hp:p k x
  ·simp [allI,hp,after]
  ·simp only [allI,hp,Bool.true_and,if_true,Option.bind_some,after]
   refine uv hf l (k+1) fun j y hj hy=>h j y (by omega) ?_
   obtain ⟨m,hm⟩:∃ m,j - k=m+1:=⟨j - k - 1,by omega⟩
   rw [hm,List.getElem?_cons_succ]
   have:j - (k+1)=m:=by omega
   rw [this] at hy; exact hy
def feI (e:Nat→α→Int):Nat→List α→Int
 | _,[]=>0
 | k,x::l=>if e k x≠0 then e k x else feI e (k+1) l
theorem z0r {body:Nat→α→Unit→Option (Unit ⊕ Int)} {fin:Unit→Option Int} {e:Nat→α→Int} (hf:fin ()=some 0):∀ (l:List α) (k:Nat),(∀ j x,k≤j→l[j - k]?=some x→body j x ()=if e j x≠0 then some (.inr (e j x)) else some (.inl ()))→forL body fin k l ()=some (feI e k l)
 | [],k,h=>by simp only [forL,feI]; exact hf
 | x::l,k,h=>by
  have h1:=h k x (Nat.le_refl _) (by simp)
  show (body k x ()).bind _=_
  rw [h1]
  by_cases hp:e k x≠0
  ·simp [feI,hp,after]
  ·simp only [feI,hp,if_false,Option.bind_some,after]
   refine z0r hf l (k+1) fun j y hj hy=>h j y (by omega) ?_
   obtain ⟨m,hm⟩:∃ m,j - k=m+1:=⟨j - k - 1,by omega⟩
   rw [hm,List.getElem?_cons_succ]
   have:j - (k+1)=m:=by omega
   rw [this] at hy; exact hy
end

def leB (a b:Bs):Bool:=Op.bytesLess a b || a == b
def outP (n lo hi:Int):Bool:=decide (n < lo) || decide (hi < n)
theorem y7q (n lo hi:Int):outP n lo hi = !(decide (lo≤n) && decide (n≤hi)):=by
 unfold outP
 by_cases h1:n < lo
 ·have:¬ lo≤n:=by omega
  simp [h1,this]
 ·have h1':lo≤n:=by omega
  by_cases h2:hi < n
  ·have:¬ n≤hi:=by omega
   simp [h1',h2,this]
  ·have:n≤hi:=by omega
   simp [h1,h1',h2,this]
theorem x7r {n:Int} (h:0≤n∧n≤18446744073709551615):IntKind.wrap .u64 n=n:=by
 unfold IntKind.wrap
 simp [IntKind.bits,IntKind.signed]
 omega
section
variable {α β:Type}
theorem z0u (q:α→Bool):∀ (l:List α) (k:Nat),allI (fun _ x=>q x) k l=l.all q
 | [],k=>rfl
 | x::l,k=>by simp only [allI,List.all_cons,z0u q l (k+1)]
theorem z4d (l:List α) (k:Nat) (h:k≤l.length):sub? l 0 (k:Int)=some (l.take k):=by
 unfold sub?
 rw [if_pos (by omega)]
 simp
def gIdx (l:List α) (p:α→Option Bool):Option Int:=if l.length≤1000000000 then forL (fun (k:Nat) (x:α) (s:Unit)=>(p x).bind fun r=>if r then (some (.inr (k:Int))) else (some (.inl ()))) (fun _=>some (-1)) 0 l () else none
def fdx (q:α→Bool):Nat→List α→Int
 | _,[]=>-1
 | k,x::l=>if q x then (k:Int) else fdx q (k+1) l
theorem y1f (l:List α) {p:α→Option Bool} (q:α→Bool) (hl:l.length≤1000000000) (hp:∀ x,x∈l→p x=some (q x)):gIdx l p=some (fdx q 0 l):=by
 unfold gIdx
 rw [if_pos hl]
 have:∀ (l:List α) (k:Nat),(∀ x,x∈l→p x=some (q x))→forL (fun (k:Nat) (x:α) (s:Unit)=>(p x).bind fun r=>if r then (some (.inr (k:Int))) else (some (.inl ()))) (fun _=>some (-1)) k l ()=some (fdx q k l):=by
  intro l
  induction l with
  | nil=>intro k _; rfl
  | cons x l ih =>
   intro k hp
   have h1:=hp x (by simp)
   show Option.bind ((p x).bind _) _=_
   rw [h1]
   cases hq:q x
   ·simp only [Option.bind_some,after,fdx,hq,if_false,Bool.false_eq_true]
    exact ih (k+1) fun y hy=>hp y (List.mem_cons_of_mem _ hy)
   ·simp [after,fdx,hq]
 exact this l 0 hp
theorem z68 (q:α→Bool):∀ (l:List α) (k:Nat),(fdx q k l < 0↔l.any q=false)∧(0≤fdx q k l→(k:Int)≤fdx q k l∧∃ x,l[(fdx q k l).toNat - k]?=some x∧q x=true)
 | [],k=>⟨by simp [fdx],fun h=>by simp [fdx] at h⟩
 | x::l,k=>by
  obtain ⟨h1,h2⟩:=z68 q l (k+1)
  cases hq:q x
  ·simp only [fdx,hq,if_false,Bool.false_eq_true,List.any_cons,Bool.false_or]
   refine ⟨h1,fun h => ?_⟩
   obtain ⟨h3,y,h4,h5⟩:=h2 h
   refine ⟨by omega,y,?_,h5⟩
   have:(fdx q (k+1) l).toNat - k=((fdx q (k+1) l).toNat - (k+1))+1:=by omega
   rw [this,List.getElem?_cons_succ]; exact h4
  ·simp only [fdx,hq,if_true,List.any_cons,Bool.true_or]
   refine ⟨by simp,fun _=>⟨by omega,x,by simp,hq⟩⟩
theorem y9c (q:α→Bool) (l:List α):decide (fdx q 0 l < 0) = !l.any q:=by
 have h:=(z68 q l 0).1
 cases hq:l.any q
 ·rw [hq] at h; simpa using h
 ·rw [hq] at h; simpa using h
theorem x5q (q:α→Bool) (l:List α):decide (0≤fdx q 0 l)=l.any q:=by
 have h:=y9c q l
 cases hq:l.any q
 ·rw [hq] at h; simp at h ⊢; omega
 ·rw [hq] at h; simp at h ⊢; omega
theorem x5s (q:α→Bool) (l:List α) (h:l.any q=true):0≤fdx q 0 l∧∃ x,at? l (fdx q 0 l)=some x∧l[(fdx q 0 l).toNat]?=some x∧q x=true:=by
 have h1:=x5q q l
 rw [h] at h1
 have h2:0≤fdx q 0 l:=by simpa using h1
 obtain ⟨_,x,h3,h4⟩:=(z68 q l 0).2 h2
 have h3:l[(fdx q 0 l).toNat]?=some x:=by simpa using h3
 exact ⟨h2,x,by unfold at?; rw [if_pos h2]; exact h3,h3,h4⟩
def gCon (l:List α) (p:α→Option Bool):Option Bool:=(gIdx l p).bind fun r=>some (decide (0≤r))
theorem z3k (l:List α) {p:α→Option Bool} (q:α→Bool) (hl:l.length≤1000000000) (hp:∀ x,x∈l→p x=some (q x)):gCon l p=some (l.any q):=by
 unfold gCon
 rw [y1f l q hl hp]
 simp only [Option.bind_some,x5q]
def gEql (ne:α→α→Bool) (a b:List α):Option Bool:=if decide ((a.length:Int)≠(b.length:Int)) then some false else (if a.length≤1000000000 then forL (fun (k:Nat) (x:α) (s:Unit)=>(b[k]?).bind fun y=>if ne x y then (some (.inr false)) else (some (.inl ()))) (fun _=>some true) 0 a () else none)
theorem w6p (ne:α→α→Bool) (hne:∀ x,ne x x=false) (a:List α) (h:a.length≤1000000000):gEql ne a a=some true:=by
 unfold gEql
 rw [if_neg (by simp),if_pos h]
 rw [uv (p:=fun _ _=>true) (r0:=false) (e:=true) rfl a 0 fun j x _ hj => ?_]
 ·have:∀ (l:List α) k,allI (fun (_:Nat) (_:α)=>true) k l=true:=by
   intro l; induction l with
   | nil=>intro k; rfl
   | cons x l ih=>intro k; simp [allI,ih]
  rw [this]; rfl
 ·have:a[j]?=some x:=by simpa using hj
  simp only [this,Option.bind_some,hne,Bool.false_eq_true,if_false,if_true]
end
def SB (n:Int) (s:zt):Prop:=0≤s.at_∧s.at_≤n
theorem SB.mono {n m:Int} {s:zt} (h:SB n s) (hm:n≤m):SB m s:=⟨h.1,by have:=h.2; omega⟩

theorem y9q (x n:Int) (hn:n≤1000000000000000):Ok (z2c x n) fun r=>0≤r∧(1≤n→r < n)∧(n < 1→r=0):=by
 unfold z2c z65
 refine ww (fun h=>yx ?_) (fun h=>ok_g ?_ (ww (fun h2=>yx ?_) (fun h2=>yx ?_)))
 ·simp at h; omega
 ·simp at h; omega
 ·simp at h h2
  have h3:=Int.tmod_lt_of_pos x (show 0 < n by omega)
  have h4:-n < x.tmod n:=by
   have:=Int.lt_tmod_of_pos x (show 0 < n by omega)
   omega
  rw [vh (by omega)]
  omega
 ·simp at h h2
  have h3:=Int.tmod_lt_of_pos x (show 0 < n by omega)
  omega
theorem Zg {k:Int} {s:zt} (h:SB k s) (hk:k≤1000000000) (n:Int) (hn:n≤1000000000000000) :
  Ok (uf s n) fun r=>(0≤r.1∧(1≤n→r.1 < n)∧(n < 1→r.1=0))∧SB (k+1) r.2:=by
 obtain ⟨h1,h2⟩:=h
 have e1:wr (s.at_+1)=s.at_+1:=vh (by omega)
 have e2:wr (s.at_+1 - 1)=s.at_:=by rw [vh (by omega)]; omega
 unfold uf
 simp only [e1,e2]
 refine ww (fun h => ?_) (fun h => ?_)
 ·exact yc (y9q _ n hn) fun r hr=>yx ⟨hr,by simp only [SB]; omega⟩
 ·simp at h
  have hL:0 < s.L.length:=by cases hq:s.L with | nil=>exact absurd hq h | cons _ _=>simp
  refine ok_g (by omega) (ok_g ⟨by omega,by omega⟩ ?_)
  have hi:0≤s.at_.tmod (s.L.length:Int):=Int.tmod_nonneg _ h1
  have hi2:=Int.tmod_lt_of_pos s.at_ (show (0:Int) < s.L.length by omega)
  have hat:Ok (at? s.L (s.at_.tmod (s.L.length:Int))) fun _=>True:=by
   unfold at?
   rw [if_pos hi,List.getElem?_eq_getElem (by omega)]
   exact ⟨_,rfl,trivial⟩
  refine yc hat fun x _=>yc (y9q _ _ (by omega)) fun r _=>yc (y9q _ n hn) fun r hr=>yx ⟨hr,by simp only [SB]; omega⟩
section
variable {k:Int} {s:zt} (h:SB k s) (hk:k≤100000000)
include h hk
theorem ua (n:Int) (hn:n≤1000000000000000):Ok (jx s n) fun r=>SB (k+1) r.2:=by
 unfold jx
 exact yc (Zg h (by omega) n hn) fun r hr=>yx hr.2
theorem um (l:List Int) (hl:l≠[]∧l.length≤1000):Ok (kh s l) fun r=>r.1∈l∧SB (k+1) r.2:=by
 unfold kh
 have hp:0 < l.length:=by cases hq:l with | nil=>exact absurd hq hl.1 | cons _ _=>simp
 refine yc (Zg h (by omega) _ (by omega)) fun r hr => ?_
 have h1:=hr.1.2.1 (by omega)
 have hat:Ok (at? l r.1) fun x=>x∈l:=by
  unfold at?
  rw [if_pos hr.1.1,List.getElem?_eq_getElem (by omega)]
  exact ⟨_,rfl,List.getElem_mem _⟩
 exact yc hat fun x hx=>yx ⟨hx,hr.2⟩
theorem jv (l:List Bs) (hl:l≠[]∧l.length≤1000):Ok (ja s l) fun r=>r.1∈l∧SB (k+1) r.2:=by
 unfold ja
 have hp:0 < l.length:=by cases hq:l with | nil=>exact absurd hq hl.1 | cons _ _=>simp
 refine yc (Zg h (by omega) _ (by omega)) fun r hr => ?_
 have h1:=hr.1.2.1 (by omega)
 have hat:Ok (at? l r.1) fun x=>x∈l:=by
  unfold at?
  rw [if_pos hr.1.1,List.getElem?_eq_getElem (by omega)]
  exact ⟨_,rfl,List.getElem_mem _⟩
 exact yc hat fun x hx=>yx ⟨hx,hr.2⟩
theorem y3l (lo hi:Int) (hr:-1000000000000≤lo∧lo≤hi∧hi≤1000000000000):Ok (z0d s lo hi) fun r=>(lo≤r.1∧r.1≤hi)∧SB (k+1) r.2:=by
 unfold z0d
 refine ww (fun h=>absurd h (by simp; omega)) (fun _ => ?_)
 have e1:wr (wr (hi - lo)+1)=hi - lo+1:=by rw [vh (n:=hi - lo) (by omega),vh (by omega)]
 rw [e1]
 refine yc (Zg h (by omega) _ (by omega)) fun r hr2=>yx ?_
 have h1:=hr2.1.2.1 (by omega)
 have h2:=hr2.1.1
 simp only
 rw [vh (by omega)]
 exact ⟨by omega,hr2.2⟩
end
theorem z4m {k:Int} {s:zt} (h:SB k s) (hk:k≤10000000) (lo hi:Int) (hr:-1000000000000≤lo∧lo≤hi∧hi≤1000000000000):Ok (Yf s lo hi) fun r=>(-2000000000000≤r.1∧r.1≤2000000000000)∧SB (k+2) r.2:=by
 unfold Yf
 refine yc (ua h (by omega) 12 (by omega)) fun r hr2=>ww (fun _ => ?_) (fun _ => ?_)
 ·refine yc (um hr2 (by omega) _ ⟨by simp,by simp⟩) fun r3 hr3=>yx ⟨?_,hr3.2.mono (by omega)⟩
  have hm:=hr3.1
  rw [vh (n:=lo - 1) (by omega),vh (n:=hi+1) (by omega)] at hm
  simp only [List.mem_cons,List.not_mem_nil,or_false] at hm
  simp only
  omega
 ·exact yc (y3l hr2 (by omega) lo hi hr) fun r3 hr3=>yx ⟨by simp only; omega,hr3.2.mono (by omega)⟩
def kc (i:Nat) (c:UInt8):Bool:=((decide (97≤(c.toNat:Int))) && (decide ((c.toNat:Int)≤122))) || ((decide (0 < (i:Int))) && ((((decide (48≤(c.toNat:Int))) && (decide ((c.toNat:Int)≤57))) || (decide ((c.toNat:Int)=45))) || (decide ((c.toNat:Int)=95))))
def keyP (s:Bs):Bool:=allI kc 0 s && (decide (s≠[]) && decide ((s.length:Int)≤40))
theorem xw (s:Bs) (h:s.length≤1000000000):km s=some (keyP s):=by
 unfold km
 rw [if_pos h,uv (p:=kc) (r0:=false) (e:=(decide (s≠[])) && (decide ((s.length:Int)≤40))) rfl s 0]
 ·congr 1
  unfold keyP
  cases allI kc 0 s <;> simp
 ·intro j x _ _
  unfold y4n
  show (if (!kc j x)=true then _ else _)=_
  cases kc j x <;> simp
def z8d:Bs:=[97,98,99,100,101,102,103,104,105,106,107,108,109,110,111,112,113,114,115,116,117,118,119,120,121,122]
def y0n:Bs:=[97,98,99,100,101,102,103,104,105,106,107,108,109,110,111,112,113,114,115,116,117,118,119,120,121,122,48,49,50,51,52,53,54,55,56,57,45,95]
theorem xl (p:UInt8→Bool) (h:((List.range 256).all fun n=>p (UInt8.ofNat n))=true) (c:UInt8):p c=true:=by
 have:=List.all_eq_true.1 h c.toNat (by simp; exact c.toNat_lt)
 simpa using this
theorem x91 (c:UInt8):z8d.contains c=kc 0 c:=by
 have:=xl (fun c=>z8d.contains c == kc 0 c) (by decide +kernel) c
 simpa using this
theorem w22 (c:UInt8):y0n.contains c=kc 1 c:=by
 have:=xl (fun c=>y0n.contains c == kc 1 c) (by decide +kernel) c
 simpa using this
theorem w25 (k:Nat) (c:UInt8):kc (k+1) c=kc 1 c:=by
 unfold kc
 have:decide (0 < ((k+1:Nat):Int))=decide (0 < ((1:Nat):Int)):=by
  rw [decide_eq_true (by omega),decide_eq_true (by omega)]
 rw [this]
theorem w26 (c:UInt8) (h:kc 0 c=true):kc 1 c=true:=by unfold kc at *; simp at h ⊢; exact .inl h
theorem w85 (s:Bs):∀ k,allI kc (k+1) s=s.all fun c=>kc 1 c:=by
 induction s with
 | nil=>intro k; rfl
 | cons c s ih=>intro k; simp only [allI,List.all_cons,w25,ih]
theorem z8i (s so:Bs) (h:s.length≤1000000000):xc s so=some (s.all fun c=>so.contains c):=by
 unfold xc
 rw [if_pos h,uv (p:=fun _ c=>so.contains c) (r0:=false) (e:=true) rfl s 0]
 ·congr 1
  have:∀ (l:Bs) k,allI (fun _ c=>so.contains c) k l=l.all fun c=>so.contains c:=by
   intro l
   induction l with
   | nil=>intro k; rfl
   | cons c l ih=>intro k; simp only [allI,List.all_cons,ih]
  rw [this]
  cases (s.all fun c=>so.contains c) <;> rfl
 ·intro j x _ _
  unfold y47 Wu
  simp only [Option.bind_some]
  have e1:((x.toNat:Int)).toNat.toUInt8=x:=by simp
  rw [e1,Lib.contains_iff_indexByte]
  by_cases hq:Lib.indexByte so x < 0
  ·have:¬ 0≤Lib.indexByte so x:=by omega
   simp [hq,this]
  ·have:0≤Lib.indexByte so x:=by omega
   simp [hq,this]
theorem xt (s:Bs) (h:s.length≤1000000000):ko s=some (keyP s):=by
 unfold ko kn z2t
 simp only [Option.bind_some]
 cases s with
 | nil=>simp [keyP]
 | cons c r =>
  by_cases h1:((c::r).length:Int)≤40
  ·have h2:(decide ((1:Int)≤((c::r).length:Int)) && decide (((c::r).length:Int)≤40))=true:=by simp only [List.length_cons] at h1 ⊢; simp; omega
   rw [if_pos h2]
   have h3:sub? (c::r) 0 1=some [c]:=by
    unfold sub?
    rw [if_pos (by simp only [List.length_cons]; omega)]
    rfl
   rw [h3]
   have e1:=z8i [c] z8d (by simp)
   have e2:=z8i (c::r) y0n h
   simp only [z8d,y0n] at e1 e2
   simp only [Option.bind_some,e1,e2]
   have e3:(List.all [c] fun c=>List.contains [97,98,99,100,101,102,103,104,105,106,107,108,109,110,111,112,113,114,115,116,117,118,119,120,121,122] c)=kc 0 c:=by
    have:=x91 c
    simp only [z8d] at this
    simp only [List.all_cons,List.all_nil,Bool.and_true,this]
   have e4:(List.all (c::r) fun c=>List.contains [97,98,99,100,101,102,103,104,105,106,107,108,109,110,111,112,113,114,115,116,117,118,119,120,121,122,48,49,50,51,52,53,54,55,56,57,45,95] c)=(kc 1 c && r.all fun c=>kc 1 c):=by
    have:=w22
    simp only [y0n] at this
    simp only [List.all_cons,this]
   rw [e3,e4]
   have e5:keyP (c::r)=(kc 0 c && r.all fun c=>kc 1 c):=by
    unfold keyP
    simp only [allI,w85,Nat.zero_add]
    have:decide (((c::r).length:Int)≤40)=true:=by simpa using h1
    rw [this]; simp
   rw [e5]
   cases hk:kc 0 c
   ·simp
   ·rw [w26 c hk]; simp
  ·have h2:(decide ((1:Int)≤((c::r).length:Int)) && decide (((c::r).length:Int)≤40))=false:=by
    have:decide (((c::r).length:Int)≤40)=false:=by simpa using h1
    rw [this]; simp
   rw [h2]
   have:decide (((c::r).length:Int)≤40)=false:=by simpa using h1
   have e5:keyP (c::r)=false:=by unfold keyP; rw [this]; simp
   rw [e5]; rfl

theorem w2o {a:Bs} (h:keyP a=true):leB a []=false:=by
 cases a with
 | nil=>simp [keyP] at h
 | cons c r=>simp [leB,Op.bytesLess]
def momP (n:Int):Bool:=decide (0≤n) && decide (n≤345686399999)
theorem y7v (n:Int):z5l n=some (momP n):=rfl
theorem x49 (n:Int):z5c n=some (momP n):=by
 unfold z5c momP
 congr 2
 by_cases h:n < 345686400000
 ·have:n≤345686399999:=by omega
  simp [h,this]
 ·have:¬ n≤345686399999:=by omega
  simp [h,this]
theorem y7p (n lo hi:Int):z0b n lo hi=some (outP n lo hi):=rfl
theorem z6f (n lo hi:Int):kn n lo hi=some (!outP n lo hi):=by
 unfold kn
 rw [y7q,Bool.not_not]
def spl (c:UInt8):Bs→List Bs
 | []=>[[]]
 | b::l=>if b=c then []::spl c l else match spl c l with
  | p::ps=>(b::p)::ps
  | []=>[[b]]
theorem z4h (c:UInt8) (s:Bs):spl c s≠[]:=by
 cases s with
 | nil=>simp [spl]
 | cons b l =>
  unfold spl
  split
  ·simp
  ·split <;> simp
theorem y41 (c b:UInt8) (l:Bs):Lib.index (b::l) [c]=if b=c then 0 else if Lib.index l [c] == -1 then -1 else Lib.index l [c]+1:=by
 rw [Lib.index]
 by_cases h:b=c
 ·subst h; simp
 ·have hb:(c == b)=false:=by simpa using fun e:c=b=>h e.symm
  have:List.isPrefixOf [c] (b::l)=false:=by simp [List.isPrefixOf,hb]
  rw [this,if_neg h]; rfl
theorem x1h (c:UInt8):∀ s:Bs,Lib.splitK [c] 0 (Lib.count s [c]) s=spl c s
 | []=>by
  rw [Lib.count_miss (by rfl)]
  rfl
 | b::l=>by
  have ih:=x1h c l
  have hi:=y41 c b l
  by_cases h:b=c
  ·rw [if_pos h] at hi
   rw [Lib.count_hit (i:=0) (by simp) (by simpa using hi),Nat.add_comm,Lib.splitK,if_neg (by rw [hi]; decide),hi,spl,if_pos h]
   simp only [Int.toNat_zero,Nat.zero_add,List.length_cons,List.length_nil,Nat.add_zero,List.take_zero,List.drop_succ_cons,List.drop_zero,ih]
  ·rw [if_neg h] at hi
   have hs:spl c (b::l)=match spl c l with | p::ps=>(b::p)::ps | []=>[[b]]:=by rw [spl,if_neg h]
   have hge:=Lib.index_ge l [c]
   by_cases h1:Lib.index l [c]=-1
   ·rw [if_pos (by simpa using h1)] at hi
    rw [Lib.count_miss h1] at ih
    have ih:[l]=spl c l:=ih
    rw [Lib.count_miss hi,hs,← ih]
    rfl
   ·obtain ⟨i,h2⟩:∃ i:Nat,Lib.index l [c]=i:=⟨(Lib.index l [c]).toNat,by omega⟩
    rw [if_neg (by simpa using h1),h2] at hi
    have hi':Lib.index (b::l) [c]=((i+1:Nat):Int):=by rw [hi]; omega
    rw [Lib.count_hit (i:=i) (by simp) h2,Nat.add_comm,Lib.splitK,if_neg (by rw [h2]; simp),h2] at ih
    rw [Lib.count_hit (i:=i+1) (by simp) hi',Nat.add_comm,Lib.splitK,if_neg (by rw [hi']; simp; omega),hi',hs,← ih]
    simp
theorem z8b (s:Bs) (c:UInt8):Yb s [c]=spl c s:=by
 unfold Yb
 rw [Lib.splitB_data]
 exact x1h c s
theorem Ze (c:UInt8):∀ s:Bs,(spl c s).length≤s.length+1
 | []=>by simp [spl]
 | b::l=>by
  have ih:=Ze c l
  unfold spl
  split
  ·simp only [List.length_cons]; omega
  ·split
   ·rename_i p ps h; rw [h] at ih; simp only [List.length_cons] at ih ⊢; omega
   ·simp
theorem Yw (c:UInt8):∀ (s:Bs) (p:Bs),p∈spl c s→p.length≤s.length
 | [],p,h=>by simp [spl] at h; subst h; simp
 | b::l,p,h=>by
  have ih:=Yw c l
  unfold spl at h
  split at h
  ·rcases List.mem_cons.1 h with rfl | h
   ·simp
   ·have:=ih p h; simp only [List.length_cons]; omega
  ·split at h
   ·rename_i q ps hq
    rw [hq] at ih
    rcases List.mem_cons.1 h with rfl | h
    ·have:=ih q (by simp); simp only [List.length_cons]; omega
    ·have:=ih p (List.mem_cons_of_mem _ h); simp only [List.length_cons]; omega
   ·simp at h; subst h; simp
theorem x1i (c:UInt8) (t:Bs) (ht:c ∉ t):∀ s:Bs,∃ ps p,spl c (s++t)=ps++[p++t]
 | []=>by
  refine ⟨[],[],?_⟩
  have:∀ t:Bs,c ∉ t→spl c t=[t]:=by
   intro t
   induction t with
   | nil=>intro _; rfl
   | cons b l ih =>
    intro h
    simp only [List.mem_cons,not_or] at h
    rw [spl,if_neg (fun e=>h.1 e.symm),ih h.2]
  simpa using this t ht
 | b::l=>by
  obtain ⟨ps,p,h⟩:=x1i c t ht l
  rw [List.cons_append,spl]
  split
  ·exact ⟨[]::ps,p,by rw [h]; rfl⟩
  ·rw [h]
   cases ps with
   | nil=>exact ⟨[],b::p,rfl⟩
   | cons q qs=>exact ⟨(b::q)::qs,p,rfl⟩

abbrev Yy (l:List Bs):List Bs:=l.mergeSort fun x y=>decide (x≤y)
theorem x90 (l:List Bs):(Yy l).Pairwise fun x y=>x≤y:=by
 have h:=List.pairwise_mergeSort (le:=fun x y:Bs=>decide (x≤y)) (fun a b c h k=>by
  have h:=of_decide_eq_true h
  have k:=of_decide_eq_true k
  exact decide_eq_true (List.le_trans h k)) (fun a b=>by
  rcases List.le_total a b with h | h <;> simp [h]) l
 exact h.imp fun h=>of_decide_eq_true h
theorem x1k (l:List Bs) (x:Bs):x∈Yy l↔x∈l:=List.mem_mergeSort
theorem x1l (l:List Bs):(Yy l).length=l.length:=by simp [Yy]
abbrev Rise (l:List Bs):Prop:=l.Pairwise fun x y=>x < y
theorem w01 {l1 l2:List Bs} (h1:Rise l1) (h2:Rise l2) (h:∀ x,x∈l1↔x∈l2):l1=l2:=by
 have n1:l1.Nodup:=h1.imp fun h e=>by subst e; exact List.lt_irrefl _ h
 have n2:l2.Nodup:=h2.imp fun h e=>by subst e; exact List.lt_irrefl _ h
 refine List.Perm.eq_of_pairwise (le:=fun x y=>x < y) (fun a b _ _ hab hba=>absurd hba (List.lt_asymm hab)) h1 h2 ?_
 rw [List.perm_ext_iff_of_nodup n1 n2]
 exact h

theorem x5h {α:Type} [Inhabited α] (l:List α) (x:α):(l++[x]).toArray[l.length]! = x:=by simp
section
variable {α:Type} [Inhabited α] [DecidableEq α]
theorem x6d (d d':Array α):∀ m,(∀ j,j < m→d[j]! = d'[j]!)→Lib.compactUpTo d m=Lib.compactUpTo d' m
 | 0,_=>rfl
 | m+1,h=>by
  rw [Lib.compactUpTo_succ,Lib.compactUpTo_succ,x6d d d' m fun j hj=>h j (by omega)]
  have e1:=h m (by omega)
  have e2:d[m - 1]! = d'[m - 1]! := h (m - 1) (by omega)
  unfold Lib.keeps
  rw [e1,e2]
theorem x6a (l:List α) (x:α):Lib.compact (l++[x])=Lib.compact l++(if l.getLast?=some x then [] else [x]):=by
 unfold Lib.compact
 rw [List.length_append,List.length_singleton,Lib.compactUpTo_succ]
 congr 1
 ·refine x6d _ _ _ fun j hj => ?_
  rw [getElem!_pos _ _ (by simp; omega),getElem!_pos _ _ (by simpa using hj)]
  simp [List.getElem_append_left hj]
 ·rw [x5h]
  unfold Lib.keeps
  rw [x5h]
  rcases List.eq_nil_or_concat l with rfl | ⟨l',y,rfl⟩
  ·simp
  ·have e1:(l'++[y]++[x]).toArray[(l'++[y]).length - 1]! = y:=by
    have:(l'++[y]).length - 1=l'.length:=by simp
    rw [this,getElem!_pos _ _ (by simp <;> omega)]
    simp
   rw [List.concat_eq_append] at *
   rw [e1]
   have e2:(l'++[y]).length≠0:=by simp
   by_cases h:y=x
   ·subst h; simp
   ·have h':¬ x=y:=fun e=>h e.symm
    simp [h,h']
end
theorem z8c {α:Type} {P:List α→Prop} (h0:P []) (h1:∀ l x,P l→P (l++[x])) (l:List α):P l:=by
 have:∀ n (l:List α),l.length=n→P l:=by
  intro n
  induction n with
  | zero=>intro l h; rw [List.eq_nil_of_length_eq_zero h]; exact h0
  | succ n ih =>
   intro l h
   rcases List.eq_nil_or_concat l with rfl | ⟨l',x,rfl⟩
   ·simp at h
   ·rw [List.concat_eq_append]
    exact h1 _ _ (ih l' (by simpa using h))
 exact this _ l rfl
theorem x6b {α:Type} [Inhabited α] [DecidableEq α] (l:List α) (x:α):x∈Lib.compact l↔x∈l:=by
 induction l using z8c with
 | h0=>simp [Lib.compact,Lib.compactUpTo]
 | h1 l y ih =>
  rw [x6a,List.mem_append,List.mem_append,ih]
  split
  ·rename_i h
   have:y∈l:=List.mem_of_getLast? h
   simp
   rintro rfl
   exact this
  ·rfl
theorem w73 (l:List Bs) (h:l.Pairwise fun x y=>x≤y):Rise (Lib.compact l):=by
 induction l using z8c with
 | h0=>simp [Lib.compact,Lib.compactUpTo]
 | h1 l y ih =>
  obtain ⟨h1,_,h3⟩:=List.pairwise_append.1 h
  rw [x6a]
  split
  ·rw [List.append_nil]; exact ih h1
  ·rename_i hne
   refine List.pairwise_append.2 ⟨ih h1,by simp,fun a ha b hb => ?_⟩
   simp only [List.mem_singleton] at hb
   subst hb
   have ha:=(x6b l a).1 ha
   refine Std.lt_of_le_of_ne (h3 a ha _ (by simp)) ?_
   rintro rfl
   -- a is the greatest of l,so it is the last
   obtain ⟨l',z,rfl⟩:∃ l' z,l=l'++[z]:=by
    rcases List.eq_nil_or_concat l with rfl | ⟨l',z,rfl⟩
    ·cases ha
    ·exact ⟨l',z,List.concat_eq_append⟩
   rcases List.mem_append.1 ha with ha | ha
   ·have h5:=(List.pairwise_append.1 h1).2.2 a ha z (by simp)
    have h6:=h3 z (by simp) a (by simp)
    have:=List.le_antisymm h5 h6
    subst this
    exact hne (by simp)
   ·simp only [List.mem_singleton] at ha
    subst ha
    exact hne (by simp)
def setB (l:List Bs):List Bs:=Lib.compact (Yy l)
theorem x1s (l:List Bs):Rise (setB l):=w73 _ (x90 l)
theorem y3a (l:List Bs) (x:Bs):x∈setB l↔x∈l:=by unfold setB; rw [x6b,x1k]
theorem x1t (l:List Bs):(setB l).length≤l.length:=by
 unfold setB
 have:=x6c (Yy l)
 rw [x1l] at this
 exact this

noncomputable def gDel {α:Type} (z:α) (s1:List α) (p1:α→Option Bool):Option (List α):=
 (gIdx s1 p1).bind fun (r2:Int)=>if decide (r2=(-1)) then some s1 else (iter (fun (s:Int×Int×(List α))=>if decide (s.2.1 < (s.2.2.length:Int)) then ((at? s.2.2 s.2.1).bind fun (x10:α)=>(p1 x10).bind fun (r12:Bool)=>if !r12 then ((at? s.2.2 s.1).bind fun (x15:α)=>some (.inl (wr (s.1+1),wr (s.2.1+1),(s.2.2.set s.1.toNat x10)))) else some (.inl (s.1,wr (s.2.1+1),s.2.2))) else (Option.map .inr (if (0:Int)≤s.1∧s.1 < (s.2.2.length:Int) then (if (0:Int)≤s.1∧s.1≤((s.2.2.take s.1.toNat++List.replicate (s.2.2.length - s.1.toNat) z).length:Int) then (some ((s.2.2.take s.1.toNat++List.replicate (s.2.2.length - s.1.toNat) z).take s.1.toNat)) else none) else none))) (r2,wr (r2+1),s1))
theorem x5r {α:Type} (q:α→Bool):∀ (l:List α) (k:Nat),0≤fdx q k l→(l.take ((fdx q k l).toNat - k)).filter (fun x => !q x)=l.take ((fdx q k l).toNat - k)
 | [],k,h=>by simp [fdx] at h
 | x::l,k,h=>by
  cases hq:q x
  ·simp only [fdx,hq,if_false,Bool.false_eq_true] at h ⊢
   have ih:=x5r q l (k+1) h
   have h1:=(z68 q l (k+1)).2 h
   have:(fdx q (k+1) l).toNat - k=((fdx q (k+1) l).toNat - (k+1))+1:=by omega
   rw [this,List.take_succ_cons,List.filter_cons,hq]
   simp [ih]
  ·simp [fdx,hq]
theorem w6q {α:Type} (z:α) (l:List α) {p:α→Option Bool} (q:α→Bool) (hl:l.length≤1000000000) (hp:∀ x,x∈l→p x=some (q x)):gDel z l p=some (l.filter fun x => !q x):=by
 unfold gDel
 rw [y1f l q hl hp]
 simp only [Option.bind_some]
 by_cases h0:l.any q=true
 ·obtain ⟨h1,x,h2,h3,h4⟩:=x5s q l h0
  have hlt:=jw h3
  rw [if_neg (by simp; omega),vh (by omega)]
  have hb:=x5r q l 0 h1
  simp only [Nat.sub_zero] at hb
  refine y7r (x2s (fun s:Int×Int×List α=>0≤s.1∧s.1 < s.2.1∧s.2.1≤(l.length:Int)∧s.2.2.length=l.length∧s.2.2.take s.1.toNat=(l.take s.2.1.toNat).filter (fun x => !q x)∧s.2.2.drop s.2.1.toNat=l.drop s.2.1.toNat) (fun s=>(l.length - s.2.1.toNat)) ?_ _ ?_)
  ·rintro ⟨i,j,s⟩ ⟨g1,g2,g3,g4,g5,g6⟩
   simp only at g1 g2 g3 g4 g5 g6
   refine ww (fun hc => ?_) (fun hc => ?_)
   ·have hc:j < (s.length:Int):=by simpa using hc
    simp only at hc ⊢
    have hj:j.toNat < l.length:=by omega
    have e1:s[j.toNat]?=some l[j.toNat]:=by
     have:=congrArg (fun t=>t[0]?) g6
     simp only [List.getElem?_drop,Nat.add_zero,List.getElem?_eq_getElem hj] at this
     exact this
    have e2:at? s j=some l[j.toNat]:=by unfold at?; rw [if_pos (by omega)]; exact e1
    rw [e2,vh (n:=j+1) (by omega)]
    simp only [Option.bind_some,hp _ (List.getElem_mem hj)]
    have ej:(j+1).toNat=j.toNat+1:=by omega
    have etk:l.take (j.toNat+1)=l.take j.toNat++[l[j.toNat]]:=by rw [List.take_add_one,List.getElem?_eq_getElem hj]; rfl
    cases hq:q l[j.toNat]
    ·simp only [Bool.not_false,if_true]
     have e3:at? s i=some s[i.toNat]:=by unfold at?; rw [if_pos g1,List.getElem?_eq_getElem (by omega)]
     rw [e3,vh (n:=i+1) (by omega)]
     simp only [Option.bind_some]
     refine yx ?_
     have ei:(i+1).toNat=i.toNat+1:=by omega
     refine ⟨⟨by simp only; omega,by simp only; omega,by simp only; omega,by simpa using g4,?_,?_⟩,by simp only; omega⟩
     ·simp only
      rw [ei,ej,etk,List.filter_append,← g5,List.take_add_one,List.getElem?_set_self (by omega),List.take_set_of_le (Nat.le_refl _)]
      simp [hq]
     ·simp only
      rw [ej,List.drop_set_of_lt (by omega)]
      have:=congrArg (List.drop 1) g6
      simpa [List.drop_drop,Nat.add_comm] using this
    ·simp only [Bool.not_true,Bool.false_eq_true,if_false]
     refine yx ⟨⟨g1,by simp only; omega,by simp only; omega,g4,?_,?_⟩,by simp only; omega⟩
     ·simp only
      rw [ej,etk,List.filter_append,← g5]
      simp [hq]
     ·simp only
      rw [ej]
      have:=congrArg (List.drop 1) g6
      simpa [List.drop_drop,Nat.add_comm] using this
   ·have hc:¬ j < (s.length:Int):=by simpa using hc
    have hj:j.toNat=l.length:=by omega
    rw [if_pos (by simp only; omega),if_pos (by simp only [List.length_append,List.length_take,List.length_replicate]; omega)]
    refine yx ?_
    show List.take i.toNat (List.take i.toNat s++_)=_
    rw [List.take_append_of_le_length (by rw [List.length_take]; omega),List.take_take,Nat.min_self,g5,hj,List.take_length]
  ·refine ⟨h1,by simp only; omega,by simp only; omega,rfl,?_,rfl⟩
   simp only
   have e1:(fdx q 0 l+1).toNat=(fdx q 0 l).toNat+1:=by omega
   rw [e1,List.take_add_one,h3,List.filter_append,hb]
   simp [h4]
 ·have h0:l.any q=false:=by simpa using h0
  have h1:=(z68 q l 0).1.2 h0
  have h2:fdx q 0 l=-1:=by
   have:∀ (l:List α) k,fdx q k l < 0→fdx q k l=-1:=by
    intro l
    induction l with
    | nil=>intro k _; rfl
    | cons x l ih =>
     intro k h
     unfold fdx at h ⊢
     split
     ·rename_i hq; rw [if_pos hq] at h; omega
     ·rename_i hq; rw [if_neg hq] at h; exact ih _ h
   exact this l 0 h1
  rw [if_pos (by simpa using h2)]
  congr 1
  symm
  rw [List.filter_eq_self]
  intro x hx
  have:=List.any_eq_false.1 h0 x hx
  simpa using this
def scK (n:Nat) (k:Nat) (p:Bs):Bool:=keyP p || (decide (p=[42]) && decide ((k:Int)=(n:Int) - 1))
def scP (s:Bs):Bool:=allI (scK (spl 58 s).length) 0 (spl 58 s) && decide (((spl 58 s).length:Int)≤10)
theorem w53 (s:Bs) (h:s.length≤1000000):z8v s=some (scP s):=by
 have hn:=Ze 58 s
 unfold z8v ka
 rw [if_pos ⟨by omega,by simp⟩,z8b]
 simp only [Option.bind_some]
 rw [if_pos (by omega),uv (p:=scK (spl 58 s).length) (r0:=false) (e:=decide (((spl 58 s).length:Int)≤10)) rfl (spl 58 s) 0 fun j x _ hx => ?_]
 ·unfold scP
  cases allI (scK (spl 58 s).length) 0 (spl 58 s) <;> simp
 ·have hx:(spl 58 s)[j]?=some x:=by simpa using hx
  have hl:=Yw 58 s x (List.mem_of_getElem? hx)
  unfold y2l
  rw [xw x (by omega),vh (by omega)]
  simp only [Option.bind_some]
  unfold scK
  cases keyP x <;> cases (decide (x=[42]) && decide ((j:Int)=((spl 58 s).length:Int) - 1)) <;> rfl
theorem w0j (s:Bs) (h:s.length≤1000000):z9k s=some (scP s):=by
 have hn:=Ze 58 s
 unfold z9k ka
 rw [if_pos ⟨by omega,by simp⟩,z8b]
 simp only [Option.bind_some]
 rw [if_pos (by omega),uv (p:=scK (spl 58 s).length) (r0:=false) (e:=decide (((spl 58 s).length:Int)≤10)) rfl (spl 58 s) 0 fun j x _ hx => ?_]
 ·unfold scP
  cases allI (scK (spl 58 s).length) 0 (spl 58 s) <;> simp
 ·have hx:(spl 58 s)[j]?=some x:=by simpa using hx
  have hl:=Yw 58 s x (List.mem_of_getElem? hx)
  have hj:=jw hx
  unfold y46
  rw [xt x (by omega),vh (by omega)]
  simp only [Option.bind_some]
  unfold scK
  have e1:decide ((j:Int) < ((spl 58 s).length:Int) - 1) = !decide ((j:Int)=((spl 58 s).length:Int) - 1):=by
   by_cases hq:(j:Int)=((spl 58 s).length:Int) - 1
   ·simp [hq]
   ·have:(j:Int) < ((spl 58 s).length:Int) - 1:=by omega
    simp [hq,this]
  have e2:decide (x≠[42]) = !decide (x=[42]):=by simp
  rw [e1,e2]
  cases keyP x <;> cases decide (x=[42]) <;> cases decide ((j:Int)=((spl 58 s).length:Int) - 1) <;> rfl
def Sh (l:List Bs):Prop:=l.length≤1000000∧∀ x,x∈l→x.length≤1000000
def scF (l:List Bs):Int:=if 50 < l.length then 2 else if l.all scP=true then 0 else 3
theorem x6k (l:List Bs) (h:Sh l):z4x l=some (scF l):=by
 have hn:=h.1
 unfold z4x scF
 by_cases h1:50 < l.length
 ·rw [if_pos (by simp; omega),if_pos h1]
 ·rw [if_neg (by simp; omega),if_neg h1,if_pos (by omega),uv (p:=fun _ x=>scP x) (r0:=(3:Int)) (e:=(0:Int)) rfl l 0 fun j x _ hx => ?_]
  ·rw [z0u]
  ·have hx:l[j]?=some x:=by simpa using hx
   unfold y2n
   rw [w53 x (h.2 x (List.mem_of_getElem? hx))]
   simp only [Option.bind_some]
   cases scP x <;> rfl
theorem x5u (l:List Bs) (h:Sh l):z5i l=some (scF l):=by
 have hn:=h.1
 unfold z5i scF
 by_cases h1:50 < l.length
 ·rw [if_pos (by simp; omega),if_pos h1]
 ·rw [if_neg (by simp; omega),if_neg h1,if_pos (by omega),uv (p:=fun _ x=>scP x) (r0:=(3:Int)) (e:=(0:Int)) rfl l 0 fun j x _ hx => ?_]
  ·rw [z0u]
  ·have hx:l[j]?=some x:=by simpa using hx
   unfold y5c
   rw [w0j x (h.2 x (List.mem_of_getElem? hx))]
   simp only [Option.bind_some]
   cases scP x <;> rfl
def or2 (a b:Int):Int:=if a≠0 then a else b
theorem w68 (a b:Int):y0h [a,b]=some (or2 a b):=by
 unfold y0h or2
 rw [if_pos (by simp)]
 simp only [forL,y5x,y5y]
 by_cases h1:a=0 <;> by_cases h2:b=0 <;> simp [h1,h2,after]
def cvB (a b:Bs):Bool:=if Lib.hasSuffix a [42]=true then Lib.hasPrefix b (Lib.trimSuffix a [42]) else decide (a=b)
theorem y63 {a:Bs} (h:Lib.hasSuffix a [42]=true):∃ g,a=g++[42]∧Lib.trimSuffix a [42]=g:=by
 unfold Lib.hasSuffix at h
 rw [List.isSuffixOf_iff_suffix] at h
 obtain ⟨g,hg⟩:=h
 refine ⟨g,hg.symm,?_⟩
 unfold Lib.trimSuffix Lib.hasSuffix
 rw [if_pos (by rw [List.isSuffixOf_iff_suffix]; exact ⟨g,hg⟩),← hg]
 simp
theorem y9l (a:Bs):cvB a a=true:=by
 unfold cvB
 split
 ·rename_i h
  obtain ⟨g,h1,h2⟩:=y63 h
  rw [h2]
  unfold Lib.hasPrefix
  rw [List.isPrefixOf_iff_prefix]
  exact ⟨[42],h1.symm⟩
 ·simp
theorem w1w (a b:Bs) (h:a.length≤1000000):z9n a b=some (cvB a b):=by
 unfold z9n z10 z1z cvB
 rw [if_pos (by omega)]
 simp only [Option.bind_some]
 cases Lib.hasSuffix a [42] <;> simp
theorem w7z (a b:Bs) (h:a.length≤1000000):z8x a b=some (cvB a b):=by
 unfold z8x z10 z1z z38
 by_cases h1:a=b
 ·subst h1
  rw [if_pos (by simp),y9l]
 ·rw [if_neg (by simpa using h1),if_pos (by omega)]
  simp only [Option.bind_some]
  unfold cvB
  cases Lib.hasSuffix a [42] <;> simp [h1]
def cvL (l:List Bs) (s:Bs):Bool:=l.any fun h=>cvB h s
theorem x59 (l:List Bs) (p:Bs→Option Bool) (q:Bs→Bool) (h:l.length≤1000000) (hp:∀ x,x∈l→p x=some (q x)):z13 l p=some (l.any q):=
 z3k l q (by omega) hp
def lsI (l:List Bs) (s:Bs):Prop:=s∈l∧∀ h,h∈l→h≠s→cvB h s=false
def lsQ (l:List Bs) (s:Bs):Bool:=l.any fun h=>decide (h≠s) && cvB h s
def lsP (l:List Bs):List Bs:=(setB l).filter fun s => !lsQ (setB l) s
theorem x2y (l:List Bs) (s:Bs):lsQ l s=false↔∀ h,h∈l→h≠s→cvB h s=false:=by
 unfold lsQ
 rw [List.any_eq_false]
 constructor
 ·intro k h hh hne
  have:=k h hh
  simpa [hne] using this
 ·intro k h hh
  by_cases hne:h=s
  ·simp [hne]
  ·simp [hne,k h hh hne]
theorem x2z (l:List Bs) (s:Bs):s∈lsP l↔lsI l s:=by
 unfold lsP lsI
 rw [List.mem_filter,y3a,Bool.not_eq_true',x2y]
 simp only [y3a]
theorem w2i (l:List Bs):Rise (lsP l):=(x1s l).filter _
theorem w2j (l:List Bs):setB (l.filter fun s => !lsQ l s)=lsP l:=
 w01 (x1s _) (w2i l) fun s=>by
  rw [x2z,y3a,List.mem_filter,Bool.not_eq_true',x2y]
  rfl
theorem y76 (l:List Bs):(lsP l).length≤l.length:=by
 have h1:=List.length_filter_le (fun s => !lsQ (setB l) s) (setB l)
 have h2:=x1t l
 unfold lsP; omega
theorem w00 (l:List Bs) (h:l.length≤1000000):z9h l=some (setB l):=by
 unfold z9h z15 Zi z14
 rw [if_pos (by omega)]
 simp only [Option.bind_some]
 rw [if_pos (by omega)]
 simp only [Option.bind_some]
 rw [if_pos (by simp; omega)]
 rfl
theorem w7l (l:List Bs) (p:Bs→Option Bool) (q:Bs→Bool) (h:l.length≤1000000) (hp:∀ x,x∈l→p x=some (q x)):y35 l p=some (l.filter fun x => !q x):=
 w6q [] l q (by omega) hp
theorem x3e (l:List Bs) (h:Sh l):z4s l=some (lsP l):=by
 have hs:=x1t l
 have hn:=h.1
 have h2:Sh (setB l):=⟨by omega,fun x hx=>h.2 x ((y3a l x).1 hx)⟩
 unfold z4s
 rw [w00 l hn]
 simp only [Option.bind_some]
 unfold z15
 rw [if_pos (by omega)]
 simp only [Option.bind_some]
 rw [w7l (setB l) _ (lsQ (setB l)) h2.1 fun x hx => ?_]
 ·rfl
 ·unfold z8t
  rw [x59 (setB l) _ (fun h=>decide (h≠x) && cvB h x) h2.1 fun y hy => ?_]
  ·rfl
  ·unfold z8s z35
   rw [w7z y x (h2.2 y hy)]
   simp only [Option.bind_some]
   cases decide (y≠x) <;> simp
theorem y8a (l:List Bs) (h:Sh l):z19 l=some (lsP l):=by
 have hn:=h.1
 unfold z19
 rw [if_pos (by omega)]
 refine y7r (z4l (I:=fun k (s:List Bs)=>s=(l.take k).filter fun s => !lsQ l s) l 0 [] (by simp) ?_ ?_)
 ·intro j x s _ hx hs
  have hx:l[j]?=some x:=by simpa using hx
  have hj:=jw hx
  unfold y5e z6o
  rw [x59 l _ (fun h=>decide (h≠x) && cvB h x) hn fun y hy => ?_]
  ·simp only [Option.bind_some]
   have hlen:=List.length_filter_le (fun s => !lsQ l s) (l.take j)
   rw [List.length_take] at hlen
   have e1:(l.take (j+1)).filter (fun s => !lsQ l s)=s++(if lsQ l x=false then [x] else []):=by
    rw [List.take_add_one,hx,List.filter_append,hs]
    cases hq:lsQ l x <;> simp [hq]
   show Ok (if (!lsQ l x)=true then _ else _) _
   cases hq:lsQ l x
   ·rw [if_pos (by simp),if_pos (by rw [hs]; omega)]
    refine yx ?_
    show s++[x]=_
    rw [e1,hq]; rfl
   ·rw [if_neg (by simp)]
    refine yx ?_
    show s=_
    rw [e1,hq]; simp
  ·unfold z9u z6p
   rw [w1w y x (h.2 y hy)]
   simp only [Option.bind_some]
   cases decide (y≠x) <;> simp
 ·intro s hs
  have hs:s=l.filter fun s => !lsQ l s:=by simpa using hs
  have hlen:=List.length_filter_le (fun s => !lsQ l s) l
  unfold y5f Zi z14
  rw [if_pos (by rw [hs]; omega)]
  simp only [Option.bind_some]
  rw [if_pos (by simp; rw [hs]; omega)]
  refine yx ?_
  rw [hs]
  exact w2j l

theorem w23 (p:Bs):keyP (p++[42,42])=false:=by
 have h:∀ (l:Bs) k,allI kc k (l++[42,42])=false:=by
  intro l
  induction l with
  | nil=>intro k; simp [allI,kc]
  | cons x l ih=>intro k; simp [allI,ih]
 unfold keyP
 rw [h]; rfl
theorem x67 {α:Type} (p:Nat→α→Bool):∀ (l:List α) (k j:Nat) (x:α),l[j]?=some x→p (k+j) x=false→allI p k l=false
 | [],k,j,x,h,_=>by simp at h
 | y::l,k,j,x,h,hp=>by
  cases j with
  | zero=>simp at h; subst h; simp [allI,show p k y=false from hp]
  | succ j =>
   have:=x67 p l (k+1) j x (by simpa using h) (by rw [show k+1+j=k+(j+1) by omega]; exact hp)
   simp [allI,this]
theorem x2a (g:Bs):scP (g++[42,42])=false:=by
 obtain ⟨ps,p,h⟩:=x1i 58 [42,42] (by decide) g
 unfold scP
 rw [h,x67 _ _ 0 ps.length (p++[42,42]) (by simp)]
 ·rfl
 ·unfold scK
  rw [w23]
  have:p++[42,42]≠[42]:=fun e=>by have:=congrArg List.length e; simp at this
  simp [this]
theorem w7w {a b:Bs} (ha:scP a=true) (hb:scP b=true) (h1:cvB a b=true) (h2:cvB b a=true):a=b:=by
 unfold cvB at h1 h2
 by_cases sa:Lib.hasSuffix a [42]=true
 ·by_cases sb:Lib.hasSuffix b [42]=true
  ·obtain ⟨g,e1,t1⟩:=y63 sa
   obtain ⟨h,e2,t2⟩:=y63 sb
   rw [if_pos sa,t1] at h1
   rw [if_pos sb,t2] at h2
   unfold Lib.hasPrefix at h1 h2
   rw [List.isPrefixOf_iff_prefix] at h1 h2
   rw [e2] at h1
   rw [e1] at h2
   have key:∀ x y:Bs,x <+: y++[42]→x.length≤y.length→x <+: y:=fun x y hp hl =>
    List.prefix_of_prefix_length_le hp (List.prefix_append y [42]) hl
   rcases Nat.lt_trichotomy g.length h.length with hl | hl | hl
   ·have h3:=key g h h1 (by omega)
    obtain ⟨t,ht⟩:=h2
    have:t.length=0:=by have:=congrArg List.length ht; simp at this; omega
    have ht0:t=[]:=List.eq_nil_of_length_eq_zero this
    rw [ht0,List.append_nil] at ht
    rw [e2,ht,List.append_assoc] at hb
    have:=x2a g
    rw [show g++([42]++[42])=g++[42,42] from rfl,this] at hb; cases hb
   ·have h3:=key g h h1 (by omega)
    have:=List.IsPrefix.eq_of_length h3 hl
    rw [e1,e2,this]
   ·have h3:=key h g h2 (by omega)
    obtain ⟨t,ht⟩:=h1
    have:t.length=0:=by have:=congrArg List.length ht; simp at this; omega
    have ht0:t=[]:=List.eq_nil_of_length_eq_zero this
    rw [ht0,List.append_nil] at ht
    rw [e1,ht,List.append_assoc] at ha
    have:=x2a h
    rw [show h++([42]++[42])=h++[42,42] from rfl,this] at ha; cases ha
  ·rw [if_neg sb] at h2
   exact (of_decide_eq_true h2).symm
 ·rw [if_neg sa] at h1
  exact of_decide_eq_true h1
def mtS (b:List Bs) (x:Bs):List Bs:=b.flatMap fun y=>if cvB x y=true then [y] else if cvB y x=true then [x] else []
def mtL (a b:List Bs):List Bs:=a.flatMap (mtS b)
theorem w9h {a b:List Bs} (ha:a.all scP=true) (hb:b.all scP=true) (z:Bs):z∈mtL a b↔(z∈a∨z∈b)∧cvL a z=true∧cvL b z=true:=by
 have ha:=List.all_eq_true.1 ha
 have hb:=List.all_eq_true.1 hb
 unfold mtL mtS
 simp only [List.mem_flatMap]
 unfold cvL
 simp only [List.any_eq_true]
 constructor
 ·rintro ⟨x,hx,y,hy,hz⟩
  split at hz
  ·rename_i h
   simp only [List.mem_singleton] at hz
   subst hz
   exact ⟨.inr hy,⟨x,hx,h⟩,⟨_,hy,y9l _⟩⟩
  ·split at hz
   ·rename_i h
    simp only [List.mem_singleton] at hz
    subst hz
    exact ⟨.inl hx,⟨_,hx,y9l _⟩,⟨y,hy,h⟩⟩
   ·cases hz
 ·rintro ⟨hm,⟨x,hx,h1⟩,⟨y,hy,h2⟩⟩
  rcases hm with hm | hm
  ·refine ⟨z,hm,y,hy,?_⟩
   by_cases h3:cvB z y=true
   ·rw [if_pos h3,w7w (ha z hm) (hb y hy) h3 h2]; simp
   ·rw [if_neg h3,if_pos h2]; simp
  ·exact ⟨x,hx,z,hm,by rw [if_pos h1]; simp⟩
section
variable (a b:List Bs) (ha:Sh a) (hb:Sh b) (hl:a.length≤50∧b.length≤50)
include ha hb
omit hb in
include hl
end
theorem w0k {a:List Bs} (h:scF a=0):a.length≤50∧a.all scP=true:=by
 unfold scF at h
 split at h
 ·cases h
 ·split at h
  ·rename_i h1 h2; exact ⟨by omega,h2⟩
  ·cases h
theorem x94:y0g=some true:=by
 have h:Ws [97,98]=some [89,87,73]:=by
  unfold Ws
  exact z0f.2 ⟨2,by decide +kernel⟩
 unfold y0g
 rw [h]
 decide +kernel
theorem w7a (l:List Bs) (h:l.length≤1000000000):Wy l l=some true:=
 w6p (fun x7 x10:Bs=>decide (x7≠x10)) (fun x=>by simp) l h

def ScB (l:List Bs):Prop:=(l.length≤5∨l=List.replicate 51 [])∧Sh l
theorem w0i {k:Int} {s:zt} (h:SB k s) (hk:k≤1000000):Ok (z98 s) fun r=>r.1.length≤1000∧SB (k+2) r.2:=by
 unfold z98 Zh
 refine yc (ua h (by omega) _ (by omega)) fun r hr=>ww (fun _ => ?_) (fun _ => ?_)
 ·rw [if_pos (by decide)]
  simp only [Option.bind_some]
  refine ok_g (by rw [Lib.repeatL_length]; decide) (yc (jv hr (by omega) _ ⟨by simp,by simp⟩) fun r3 h3=>yx ⟨?_,h3.2.mono (by omega)⟩)
  have h1:=h3.1
  simp only [List.mem_cons,List.not_mem_nil,or_false] at h1
  simp only
  rcases h1 with h1 | h1 | h1 | h1 | h1 | h1 | h1 | h1 <;> rw [h1] <;> first | decide | (rw [List.length_append,Lib.repeatL_length]; decide)
 ·refine yc (jv hr (by omega) _ ⟨by simp,by simp⟩) fun r3 h3=>yx ⟨?_,h3.2.mono (by omega)⟩
  have h1:=h3.1
  simp only [List.mem_cons,List.not_mem_nil,or_false] at h1
  simp only
  rcases h1 with h1 | h1 | h1 | h1 | h1 | h1 | h1 | h1 | h1 | h1 <;> rw [h1] <;> decide
theorem y7k {k:Int} {s:zt} (h:SB k s) (hk:k≤1000000):Ok (Qh s) fun r=>(r.1.length≤4∧∀ x,x∈r.1→x.length≤1000)∧SB (k+5) r.2:=by
 unfold Qh
 refine yc (y3l h (by omega) 0 4 (by omega)) fun r2 h2=>ok_g (by omega) ?_
 refine z8j (fun (j:Nat) (q:(List Int)×Int×(List Bs))=>SB (k+1+(j:Int)) ⟨q.1,q.2.1⟩∧q.2.2.length≤j∧∀ x,x∈q.2.2→x.length≤1000) _ 0 _ ⟨by simpa using h2.2,by simp,by simp⟩ ?_ ?_
 ·rintro j ⟨c,d,l⟩ _ hj ⟨q1,q2,q3⟩
  simp only at q1 q2 q3
  have hj:j < 4:=by omega
  unfold z6x
  refine yc (jv q1 (by omega) _ ⟨by simp,by simp⟩) fun r3 h3=>ok_g (by simp only; omega) (yx ⟨h3.2.mono (by omega),by simp; omega,fun y hy => ?_⟩)
  rcases List.mem_append.1 hy with hy | hy
  ·exact q3 y hy
  ·simp only [List.mem_singleton] at hy
   subst hy
   have h1:=h3.1
   simp only [List.mem_cons,List.not_mem_nil,or_false] at h1
   rcases h1 with h1 | h1 | h1 | h1 | h1 | h1 | h1 | h1 | h1 <;> rw [h1] <;> decide
 ·rintro ⟨c,d,l⟩ ⟨q1,q2,q3⟩
  simp only at q1 q2 q3
  exact yx ⟨⟨by simp only; omega,q3⟩,q1.mono (by omega)⟩
theorem w0h {k:Int} {s:zt} (h:SB k s) (hk:k≤100000):Ok (z97 s) fun r=>ScB r.1∧SB (k+20) r.2:=by
 unfold z97
 refine yc (y7k h (by omega)) fun r2 h2=>yc (ua h2.2 (by omega) _ (by omega)) fun r4 h4 => ?_
 have hJ:∀ (l:List Bs) (c:List Int) (d:Int),l.length≤5∧(∀ x,x∈l→x.length≤1000)→SB (k+10) ⟨c,d⟩→Ok (z3e l c d) fun r=>ScB r.1∧SB (k+20) r.2:=by
  intro l c d hl hs
  unfold z3e z6w
  refine yc (ua hs (by omega) _ (by omega)) fun r6 h6=>ww (fun _=>ok_g (by decide) (yx ⟨⟨.inr rfl,by simp,fun x hx => ?_⟩,h6.mono (by omega)⟩)) (fun _=>yx ⟨⟨.inl hl.1,by simp only; omega,fun x hx=>by have:=hl.2 x hx; omega⟩,h6.mono (by omega)⟩)
  rw [List.eq_of_mem_replicate hx]; decide
 refine ww (fun _ => ?_) (fun _=>hJ _ _ _ ⟨by omega,h2.1.2⟩ (h4.mono (by omega)))
 refine yc (w0i h4 (by omega)) fun r7 h7=>ok_g (by omega) (hJ _ _ _ ⟨by simp; omega,fun x hx => ?_⟩ (h7.2.mono (by omega)))
 rcases List.mem_append.1 hx with hx | hx
 ·exact h2.1.2 x hx
 ·simp only [List.mem_singleton] at hx
  subst hx; exact h7.1
theorem x66 {α:Type} (p:Nat→α→Bool):∀ (l:List α) (k:Nat),allI p k l=true↔∀ j x,l[j]?=some x→p (k+j) x=true
 | [],k=>by simp [allI]
 | y::l,k=>by
  simp only [allI,Bool.and_eq_true,x66 p l (k+1)]
  constructor
  ·rintro ⟨h1,h2⟩ j x hj
   cases j with
   | zero=>cases hj; exact h1
   | succ j=>have:=h2 j x (by simpa using hj); rwa [show k+1+j=k+(j+1) by omega] at this
  ·intro h
   refine ⟨h 0 y rfl,fun j x hj => ?_⟩
   have:=h (j+1) x (by simpa using hj)
   rwa [show k+(j+1)=k+1+j by omega] at this
theorem x5x (a b:List Bs) (h:a.length≤1000000000):Wy a b=some (decide (a=b)):=by
 unfold Wy
 by_cases hl:a.length=b.length
 ·rw [if_neg (by simp [hl]),if_pos h,uv (p:=fun k x=>decide (b[k]?=some x)) (e:=true) (r0:=false) rfl a 0 fun j x _ hx => ?_]
  ·have:allI (fun k x=>decide (b[k]?=some x)) 0 a=decide (a=b):=by
    rw [Bool.eq_iff_iff,x66]
    simp only [Nat.zero_add,decide_eq_true_eq]
    constructor
    ·intro h
     apply List.ext_getElem?
     intro j
     cases hj:a[j]? with
     | some x=>rw [h j x hj]
     | none=>rw [List.getElem?_eq_none_iff] at hj; rw [eq_comm,List.getElem?_eq_none_iff]; omega
    ·rintro rfl j x hj; exact hj
   rw [this]
   cases decide (a=b) <;> rfl
  ·have hx:a[j]?=some x:=by simpa using hx
   have hj:=jw hx
   obtain ⟨y,hy⟩:∃ y,b[j]?=some y:=⟨_,List.getElem?_eq_getElem (by omega)⟩
   unfold y24
   rw [hy]
   simp only [Option.bind_some]
   by_cases hxy:x=y
   ·simp [hxy]
   ·have:¬ y=x:=fun e=>hxy e.symm
    simp [hxy,this]
 ·have:a≠b:=fun e=>hl (by rw [e])
  rw [if_pos (by simp; omega)]
  simp [this]

structure ClB (c:zm):Prop where
 id:c.Id.length≤1000000
 subject:c.Subject.length≤1000000
 issuer:c.Issuer.length≤1000000
 parent:c.Parent.length≤1000000
 aud:Sh c.Audience
 sc:Sh c.Scopes
theorem y29:Sh []:=⟨by simp,by simp⟩
theorem ke:ClB ⟨[],[],[],[],[],[],0,0⟩:=⟨by simp,by simp,by simp,by simp,y29,y29⟩
def y8f (c:zm):Bool:=keyP c.Id && keyP c.Subject && keyP c.Issuer && (decide (c.Parent=[]) || keyP c.Parent)
def x3f (l:List Bs) (k:Nat) (x:Bs):Bool:=decide (0 < k) && match l[k - 1]? with | some y=>Op.bytesLess x y || x == y | none=>false
def au1 (l:List Bs) (k:Nat) (x:Bs):Int:=if (!keyP x)=true then 5 else if x3f l k x=true then 7 else 0
def audF (l:List Bs):Int:=feI (au1 l) 0 l
def tlF (c:zm):Int:=if scF c.Scopes≠0 then scF c.Scopes else if c.Scopes≠lsP c.Scopes then 7 else if (decide (c.From < 0) || decide (c.To≤c.From) || decide (345686400000 < c.To))=true then 1 else 0
def clF (c:zm):Int:=if (!y8f c)=true then 5 else if 50 < c.Audience.length then 2 else if audF c.Audience≠0 then audF c.Audience else tlF c
theorem w2p (l:List Bs) (k:Nat) (h:k < l.length) (hk:0 < k):∃ y,l[k - 1]?=some y∧at? l ((k:Int) - 1)=some y:=by
 refine ⟨_,List.getElem?_eq_getElem (by omega),?_⟩
 rw [show (k:Int) - 1=((k - 1:Nat):Int) by omega,Qt,List.getElem?_eq_getElem (by omega)]
theorem x5k {α:Type} {body:Nat→α→Unit→Option (Unit ⊕ Int)} {fin:Unit→Option Int} {e:Nat→α→Int}:∀ (l:List α) (k:Nat),(∀ j x,k≤j→l[j - k]?=some x→body j x ()=if e j x≠0 then some (.inr (e j x)) else some (.inl ()))→forL body fin k l ()=if feI e k l≠0 then some (feI e k l) else fin ()
 | [],k,h=>by simp [forL,feI]
 | x::l,k,h=>by
  have h1:=h k x (Nat.le_refl _) (by simp)
  show (body k x ()).bind _=_
  rw [h1]
  by_cases h0:e k x=0
  ·simp only [h0,ne_eq,not_true_eq_false,if_false,Option.bind_some,after,feI]
   refine x5k l (k+1) fun j y hj hy=>h j y (by omega) ?_
   obtain ⟨m,hm⟩:∃ m,j - k=m+1:=⟨j - k - 1,by omega⟩
   rw [hm,List.getElem?_cons_succ]
   have:j - (k+1)=m:=by omega
   rw [this] at hy; exact hy
  ·simp [h0,feI,after]
theorem x6z (l:List Bs) (h:Sh l) (j:Nat) (x:Bs) (hx:l[j]?=some x) (J:Bool→Option (Unit ⊕ Int)) (hJ:∀ b,J b=if b=true then some (.inr 7) else some (.inl ())) :
  (if (!keyP x)=true then (some (.inr 5)) else (if decide (0 < (j:Int)) then ((at? l ((j:Int) - 1)).bind fun (x13:Bs)=>J (Op.bytesLess x x13 || x == x13)) else (J false)):Option (Unit ⊕ Int))=if au1 l j x≠0 then some (.inr (au1 l j x)) else some (.inl ()):=by
 have hj:=jw hx
 unfold au1
 cases keyP x
 ·simp
 ·simp only [Bool.not_true,Bool.false_eq_true,if_false]
  unfold x3f
  by_cases h0:0 < j
  ·obtain ⟨y,h1,h2⟩:=w2p l j hj h0
   rw [if_pos (by simpa using h0),h2,h1]
   simp only [Option.bind_some,hJ,h0,decide_true,Bool.true_and]
   cases (Op.bytesLess x y || x == y) <;> simp
  ·rw [if_neg (by simpa using h0),hJ]
   simp [h0]
theorem w8v (l:List Bs) (h:Sh l):z9g l=some (audF l):=by
 have hn:=h.1
 unfold z9g audF
 rw [if_pos (by omega),z0r (e:=au1 l) rfl l 0 fun j x _ hx => ?_]
 have hx:l[j]?=some x:=by simpa using hx
 unfold y4m
 rw [xw x (by have:=h.2 x (List.mem_of_getElem? hx); omega)]
 simp only [Option.bind_some]
 exact x6z l h j x hx z2e fun b=>by unfold z2e; rfl
theorem w79 (c:zm) (h:ClB c):z4y c=some (clF c):=by
 have hA:=h.aud.1
 have hS:=h.sc.1
 have hJ:∀ b,Ya c b=some (if b=true then 5 else if 50 < c.Audience.length then 2 else if audF c.Audience≠0 then audF c.Audience else tlF c):=by
  intro b
  unfold Ya
  cases b
  ·simp only [Bool.false_eq_true,if_false]
   by_cases h1:50 < c.Audience.length
   ·rw [if_pos (by simp; omega),if_pos h1]
   ·rw [if_neg (by simp; omega),if_neg h1,w8v c.Audience h.aud,x6k c.Scopes h.sc,x3e c.Scopes h.sc]
    simp only [Option.bind_some]
    rw [x5x c.Scopes (lsP c.Scopes) (by omega)]
    simp only [Option.bind_some]
    by_cases h2:audF c.Audience=0
    ·simp only [h2,ne_eq,not_true_eq_false,decide_false,Bool.false_eq_true,if_false]
     unfold tlF
     by_cases h3:scF c.Scopes=0
     ·simp only [h3,ne_eq,not_true_eq_false,decide_false,Bool.false_eq_true,if_false]
      by_cases h4:c.Scopes=lsP c.Scopes
      ·rw [decide_eq_true h4,if_neg (by simp),if_neg (not_not_intro h4)]
       split <;> rfl
      ·rw [if_pos (by simp [h4]),if_pos h4]
     ·simp [h3]
    ·simp [h2]
  ·rfl
 unfold z4y clF y8f
 rw [xw _ (by have:=h.id; omega),xw _ (by have:=h.subject; omega),xw _ (by have:=h.issuer; omega),xw _ (by have:=h.parent; omega)]
 simp only [Option.bind_some,hJ]
 cases keyP c.Id
 ·simp
 ·cases keyP c.Subject
  ·simp
  ·cases keyP c.Issuer
   ·simp
   ·by_cases hp:c.Parent=[]
    ·simp [hp]
    ·cases keyP c.Parent <;> simp [hp]
theorem x6i (c:zm) (h:ClB c):z2b c=some (clF c):=by
 have hA:=h.aud.1
 have hS:=h.sc.1
 have hE:y1d c=some (tlF c):=by
  have hl:=y76 c.Scopes
  unfold y1d tlF
  rw [x5u c.Scopes h.sc,y8a c.Scopes h.sc]
  simp only [Option.bind_some]
  rw [x5x (lsP c.Scopes) c.Scopes (by omega)]
  simp only [Option.bind_some]
  by_cases h3:scF c.Scopes=0
  ·simp only [h3,ne_eq,not_true_eq_false,decide_false,Bool.false_eq_true,if_false]
   by_cases h4:c.Scopes=lsP c.Scopes
   ·rw [decide_eq_true h4.symm,if_neg (by simp),if_neg (not_not_intro h4)]
    split <;> rfl
   ·rw [if_pos (by simp; exact fun e=>h4 e.symm),if_pos h4]
  ·simp [h3]
 have hJ:∀ b,Yl c b=some (if b=true then 5 else if 50 < c.Audience.length then 2 else if audF c.Audience≠0 then audF c.Audience else tlF c):=by
  intro b
  unfold Yl
  cases b
  ·simp only [Bool.false_eq_true,if_false]
   by_cases h1:50 < c.Audience.length
   ·rw [if_pos (by simp; omega),if_pos h1]
   ·rw [if_neg (by simp; omega),if_neg h1,if_pos (by omega),x5k (e:=au1 c.Audience) c.Audience 0 fun j x _ hx => ?_]
    ·rw [hE]
     show (if audF c.Audience≠0 then some (audF c.Audience) else some (tlF c))=_
     split <;> rfl
    ·have hx:c.Audience[j]?=some x:=by simpa using hx
     unfold y5j
     rw [xt x (by have:=h.aud.2 x (List.mem_of_getElem? hx); omega)]
     simp only [Option.bind_some]
     exact x6z c.Audience h.aud j x hx z29 fun b=>by unfold z29; rfl
  ·rfl
 unfold z2b clF y8f
 rw [xt _ (by have:=h.id; omega),xt _ (by have:=h.subject; omega),xt _ (by have:=h.issuer; omega),xt _ (by have:=h.parent; omega)]
 simp only [Option.bind_some,hJ]
 cases keyP c.Id
 ·simp
 ·cases keyP c.Subject
  ·simp
  ·cases keyP c.Issuer
   ·simp
   ·by_cases hp:c.Parent=[]
    ·simp [hp]
    ·cases keyP c.Parent <;> simp [hp]

section
end
section
variable (l:List zm) (hl:l.length≤100) (hc:∀ c,c∈l→ClB c)
include hl hc
end

theorem w8y {α:Type} (l:List α) (n:Int) (h:0≤n∧n < l.length):Ok (at? l n) fun x=>x∈l:=by
 unfold at?
 rw [if_pos h.1,List.getElem?_eq_getElem (by omega)]
 exact ⟨_,rfl,List.getElem_mem _⟩
end Go.Proofs.YtndabcepiekebaaGreatDoor
