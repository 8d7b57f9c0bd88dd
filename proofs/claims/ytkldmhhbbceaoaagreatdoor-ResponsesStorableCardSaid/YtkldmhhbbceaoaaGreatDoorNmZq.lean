/- Plain: names of headers: alike or not, the program and the reference agree; headers with a name left out. -/
import Derived.Test.YtkldmhhbbceaoaaGreatDoorMc
import Derived.Test.YtkldmhhbbceaoaaGreatDoorZqm
namespace Go.Proofs.YtkldmhhbbceaoaaGreatDoor
set_option linter.unusedVariables false
set_option maxRecDepth 20000
section
variable {α β σ ρ:Type}
def Ok (o:Option α) (Q:α→Prop):Prop:=∃ x,o=some x∧Q x
variable {o a b:Option α} {Q Q':α→Prop}
theorem ym {x:α} (h:Q x):Ok (some x) Q:=⟨x,rfl,h⟩
theorem zr {f:α→Option β} {R:β→Prop} (h:Ok o Q) (k:∀ x,Q x→Ok (f x) R):Ok (o.bind f) R:=by
 obtain ⟨x,rfl,hx⟩:=h
 exact k x hx
theorem yz {c:Prop} [Decidable c] (h1:c→Ok a Q) (h2:¬ c→Ok b Q):Ok (if c then a else b) Q:=by
 by_cases h:c
 ·rw [if_pos h]; exact h1 h
 ·rw [if_neg h]; exact h2 h
theorem ok_g {c:Prop} [Decidable c] (hc:c) (h:Ok a Q):Ok (if c then a else none) Q:=by rw [if_pos hc]; exact h
theorem y2l (h:Ok o Q) (k:∀ x,Q x→Q' x):Ok o Q':=let ⟨x,h1,h2⟩:=h; ⟨x,h1,k x h2⟩
theorem y8b {x:α} (h:Ok o (· = x)):o=some x:=by obtain ⟨y,h1,h2⟩:=h; rw [h1,h2]
def rd (I:σ→Prop) (Q:ρ→Prop):σ ⊕ ρ→Prop
 | .inl s=>I s
 | .inr r=>Q r
theorem y2m {body:Nat→α→σ→Option (σ ⊕ ρ)} {fin:σ→Option ρ} {R:ρ→Prop} (I:Nat→σ→Prop):∀ (l:List α) (k:Nat) (s:σ),I k s →
  (∀ j x s,k≤j→l[j - k]?=some x→I j s→Ok (body j x s) (rd (I (j+1)) R))→(∀ s,I (k+l.length) s→Ok (fin s) R)→Ok (forL body fin k l s) R
 | [],k,s,h0,hs,hf=>hf s h0
 | x::l,k,s,h0,hs,hf=>by
  refine zr (hs k x s (Nat.le_refl _) (by simp) h0) fun q hq => ?_
  cases q with
  | inl s' =>
   refine y2m I l (k+1) s' hq (fun j y s hj hy hi=>hs j y s (by omega) ?_ hi) (fun s hi=>hf s ?_)
   ·obtain ⟨m,hm⟩:∃ m,j - k=m+1:=⟨j - k - 1,by omega⟩
    rw [hm,List.getElem?_cons_succ]
    have:j - (k+1)=m:=by omega
    rw [this] at hy; exact hy
   ·simp only [List.length_cons]
    have:k+(l.length+1)=k+1+l.length:=by omega
    rw [this]; exact hi
  | inr r=>exact ⟨r,rfl,hq⟩
theorem z2k {body:Nat→σ→Option (σ ⊕ ρ)} {fin:σ→Option ρ} {R:ρ→Prop} (I:Nat→σ→Prop):∀ (n k:Nat) (s:σ),I k s →
  (∀ j s,k≤j→j < k+n→I j s→Ok (body j s) (rd (I (j+1)) R))→(∀ s,I (k+n) s→Ok (fin s) R)→Ok (rng body fin n k s) R
 | 0,k,s,h0,hs,hf=>hf s h0
 | n+1,k,s,h0,hs,hf=>by
  refine zr (hs k s (Nat.le_refl _) (by omega) h0) fun q hq => ?_
  cases q with
  | inl s'=>exact z2k I n (k+1) s' hq (fun j s hj hy hi=>hs j s (by omega) (by omega) hi) (fun s hi=>hf s (by rw [show k+(n+1)=k+1+n by omega]; exact hi))
  | inr r=>exact ⟨r,rfl,hq⟩
theorem y39 {body body':Nat→α→σ→Option (σ ⊕ ρ)} {fin fin':σ→Option ρ} (hf:∀ s,fin s=fin' s):∀ (l:List α) (k:Nat) (s:σ),(∀ j x s,k≤j→l[j - k]?=some x→body j x s=body' j x s)→forL body fin k l s=forL body' fin' k l s
 | [],k,s,h=>hf s
 | x::l,k,s,h=>by
  have h1:=h k x s (Nat.le_refl _) (by simp)
  show (body k x s).bind _=(body' k x s).bind _
  rw [h1]
  congr 1
  funext q
  cases q with
  | inl s' =>
   refine y39 hf l (k+1) s' fun j y s hj hy=>h j y s (by omega) ?_
   obtain ⟨m,hm⟩:∃ m,j - k=m+1:=⟨j - k - 1,by omega⟩
   rw [hm,List.getElem?_cons_succ]
   have:j - (k+1)=m:=by omega
   rw [this] at hy; exact hy
  | inr r=>rfl
end

section
variable {α ρ:Type}
def allI (p:Nat→α→Bool):Nat→List α→Bool
 | _,[]=>true
 | k,x::l=>p k x && allI p (k+1) l
theorem Qu {body:Nat→α→Unit→Option (Unit ⊕ ρ)} {fin:Unit→Option ρ} {p:Nat→α→Bool} {e r0:ρ} (hf:fin ()=some e):∀ (l:List α) (k:Nat),(∀ j x,k≤j→l[j - k]?=some x→body j x ()=if p j x then some (.inl ()) else some (.inr r0))→forL body fin k l ()=some (if allI p k l then e else r0)
 | [],k,h=>by simp only [forL,allI,if_true]; exact hf
 | x::l,k,h=>by
  have h1:=h k x (Nat.le_refl _) (by simp)
  show (body k x ()).bind _=_
  rw [h1]
  cases hp:p k x
  ·simp [allI,hp,after]
  ·simp only [allI,hp,Bool.true_and,if_true,Option.bind_some,after]
   refine Qu hf l (k+1) fun j y hj hy=>h j y (by omega) ?_
   obtain ⟨m,hm⟩:∃ m,j - k=m+1:=⟨j - k - 1,by omega⟩
   rw [hm,List.getElem?_cons_succ]
   have:j - (k+1)=m:=by omega
   rw [this] at hy; exact hy
def feI (e:Nat→α→Int):Nat→List α→Int
 | _,[]=>0
 | k,x::l=>if e k x≠0 then e k x else feI e (k+1) l
theorem z9t {body:Nat→α→Unit→Option (Unit ⊕ Int)} {fin:Unit→Option Int} {e:Nat→α→Int} (hf:fin ()=some 0):∀ (l:List α) (k:Nat),(∀ j x,k≤j→l[j - k]?=some x→body j x ()=if e j x≠0 then some (.inr (e j x)) else some (.inl ()))→forL body fin k l ()=some (feI e k l)
 | [],k,h=>by simp only [forL,feI]; exact hf
 | x::l,k,h=>by
  have h1:=h k x (Nat.le_refl _) (by simp)
  show (body k x ()).bind _=_
  rw [h1]
  by_cases hp:e k x≠0
  ·simp [feI,hp,after]
  ·simp only [feI,hp,if_false,Option.bind_some,after]
   refine z9t hf l (k+1) fun j y hj hy=>h j y (by omega) ?_
   obtain ⟨m,hm⟩:∃ m,j - k=m+1:=⟨j - k - 1,by omega⟩
   rw [hm,List.getElem?_cons_succ]
   have:j - (k+1)=m:=by omega
   rw [this] at hy; exact hy
end

def outP (n lo hi:Int):Bool:=decide (n < lo) || decide (hi < n)
theorem z5q (n lo hi:Int):outP n lo hi = !(decide (lo≤n) && decide (n≤hi)):=by
 unfold outP
 by_cases h1:n < lo
 ·have:¬ lo≤n:=by omega
  simp [h1,this]
 ·have h1':lo≤n:=by omega
  by_cases h2:hi < n
  ·have:¬ n≤hi:=by omega
   simp [h1',h2,this]
  ·have:n≤hi:=by omega
   simp [h1,h1',h2,this]
section
variable {α β:Type}
theorem z7m (q:α→Bool):∀ (l:List α) (k:Nat),allI (fun _ x=>q x) k l=l.all q
 | [],k=>rfl
 | x::l,k=>by simp only [allI,List.all_cons,z7m q l (k+1)]
theorem y5z (l:List α) (k:Nat) (h:k≤l.length):sub? l 0 (k:Int)=some (l.take k):=by
 unfold sub?
 rw [if_pos (by omega)]
 simp
def gIdx (l:List α) (p:α→Option Bool):Option Int:=if l.length≤1000000000 then forL (fun (k:Nat) (x:α) (s:Unit)=>(p x).bind fun r=>if r then (some (.inr (k:Int))) else (some (.inl ()))) (fun _=>some (-1)) 0 l () else none
def fdx (q:α→Bool):Nat→List α→Int
 | _,[]=>-1
 | k,x::l=>if q x then (k:Int) else fdx q (k+1) l
theorem y36 (l:List α) {p:α→Option Bool} (q:α→Bool) (hl:l.length≤1000000000) (hp:∀ x,x∈l→p x=some (q x)):gIdx l p=some (fdx q 0 l):=by
 unfold gIdx
 rw [if_pos hl]
 have:∀ (l:List α) (k:Nat),(∀ x,x∈l→p x=some (q x))→forL (fun (k:Nat) (x:α) (s:Unit)=>(p x).bind fun r=>if r then (some (.inr (k:Int))) else (some (.inl ()))) (fun _=>some (-1)) k l ()=some (fdx q k l):=by
  intro l
  induction l with
  | nil=>intro k _; rfl
  | cons x l ih =>
   intro k hp
   have h1:=hp x (by simp)
   show Option.bind ((p x).bind _) _=_
   rw [h1]
   cases hq:q x
   ·simp only [Option.bind_some,after,fdx,hq,if_false,Bool.false_eq_true]
    exact ih (k+1) fun y hy=>hp y (List.mem_cons_of_mem _ hy)
   ·simp [after,fdx,hq]
 exact this l 0 hp
theorem z90 (q:α→Bool):∀ (l:List α) (k:Nat),(fdx q k l < 0↔l.any q=false)∧(0≤fdx q k l→(k:Int)≤fdx q k l∧∃ x,l[(fdx q k l).toNat - k]?=some x∧q x=true)
 | [],k=>⟨by simp [fdx],fun h=>by simp [fdx] at h⟩
 | x::l,k=>by
  obtain ⟨h1,h2⟩:=z90 q l (k+1)
  cases hq:q x
  ·simp only [fdx,hq,if_false,Bool.false_eq_true,List.any_cons,Bool.false_or]
   refine ⟨h1,fun h => ?_⟩
   obtain ⟨h3,y,h4,h5⟩:=h2 h
   refine ⟨by omega,y,?_,h5⟩
   have:(fdx q (k+1) l).toNat - k=((fdx q (k+1) l).toNat - (k+1))+1:=by omega
   rw [this,List.getElem?_cons_succ]; exact h4
  ·simp only [fdx,hq,if_true,List.any_cons,Bool.true_or]
   refine ⟨by simp,fun _=>⟨by omega,x,by simp,hq⟩⟩
theorem x1u (q:α→Bool) (l:List α):decide (fdx q 0 l < 0) = !l.any q:=by
 have h:=(z90 q l 0).1
 cases hq:l.any q
 ·rw [hq] at h; simpa using h
 ·rw [hq] at h; simpa using h
theorem y4m (q:α→Bool) (l:List α):decide (0≤fdx q 0 l)=l.any q:=by
 have h:=x1u q l
 cases hq:l.any q
 ·rw [hq] at h; simp at h ⊢; omega
 ·rw [hq] at h; simp at h ⊢; omega
def gCon (l:List α) (p:α→Option Bool):Option Bool:=(gIdx l p).bind fun r=>some (decide (0≤r))
theorem x1h (l:List α) {p:α→Option Bool} (q:α→Bool) (hl:l.length≤1000000000) (hp:∀ x,x∈l→p x=some (q x)):gCon l p=some (l.any q):=by
 unfold gCon
 rw [y36 l q hl hp]
 simp only [Option.bind_some,y4m]
end
def SB (n:Int) (s:zh):Prop:=0≤s.at_∧s.at_≤n
theorem SB.mono {n m:Int} {s:zh} (h:SB n s) (hm:n≤m):SB m s:=⟨h.1,by have:=h.2; omega⟩

theorem z95 (x n:Int) (hn:n≤1000000000000000):Ok (Yh x n) fun r=>0≤r∧(1≤n→r < n)∧(n < 1→r=0):=by
 unfold Yh z1u
 refine yz (fun h=>ym ?_) (fun h=>ok_g ?_ (yz (fun h2=>ym ?_) (fun h2=>ym ?_)))
 ·simp at h; omega
 ·simp at h; omega
 ·simp at h h2
  have h3:=Int.tmod_lt_of_pos x (show 0 < n by omega)
  have h4:-n < x.tmod n:=by
   have:=Int.lt_tmod_of_pos x (show 0 < n by omega)
   omega
  rw [vn (by omega)]
  omega
 ·simp at h h2
  have h3:=Int.tmod_lt_of_pos x (show 0 < n by omega)
  omega
theorem uq {k:Int} {s:zh} (h:SB k s) (hk:k≤1000000000) (n:Int) (hn:n≤1000000000000000) :
  Ok (jv s n) fun r=>(0≤r.1∧(1≤n→r.1 < n)∧(n < 1→r.1=0))∧SB (k+1) r.2:=by
 obtain ⟨h1,h2⟩:=h
 have e1:wr (s.at_+1)=s.at_+1:=vn (by omega)
 have e2:wr (s.at_+1 - 1)=s.at_:=by rw [vn (by omega)]; omega
 unfold jv
 simp only [e1,e2]
 refine yz (fun h => ?_) (fun h => ?_)
 ·exact zr (z95 _ n hn) fun r hr=>ym ⟨hr,by simp only [SB]; omega⟩
 ·simp at h
  have hL:0 < s.L.length:=by cases hq:s.L with | nil=>exact absurd hq h | cons _ _=>simp
  refine ok_g (by omega) (ok_g ⟨by omega,by omega⟩ ?_)
  have hi:0≤s.at_.tmod (s.L.length:Int):=Int.tmod_nonneg _ h1
  have hi2:=Int.tmod_lt_of_pos s.at_ (show (0:Int) < s.L.length by omega)
  have hat:Ok (at? s.L (s.at_.tmod (s.L.length:Int))) fun _=>True:=by
   unfold at?
   rw [if_pos hi,List.getElem?_eq_getElem (by omega)]
   exact ⟨_,rfl,trivial⟩
  refine zr hat fun x _=>zr (z95 _ _ (by omega)) fun r _=>zr (z95 _ n hn) fun r hr=>ym ⟨hr,by simp only [SB]; omega⟩
section
variable {k:Int} {s:zh} (h:SB k s) (hk:k≤100000000)
include h hk
theorem wm (n:Int) (hn:n≤1000000000000000):Ok (qz s n) fun r=>SB (k+1) r.2:=by
 unfold qz
 exact zr (uq h (by omega) n hn) fun r hr=>ym hr.2
theorem Ws (l:List Int) (hl:l≠[]∧l.length≤1000):Ok (ua s l) fun r=>r.1∈l∧SB (k+1) r.2:=by
 unfold ua
 have hp:0 < l.length:=by cases hq:l with | nil=>exact absurd hq hl.1 | cons _ _=>simp
 refine zr (uq h (by omega) _ (by omega)) fun r hr => ?_
 have h1:=hr.1.2.1 (by omega)
 have hat:Ok (at? l r.1) fun x=>x∈l:=by
  unfold at?
  rw [if_pos hr.1.1,List.getElem?_eq_getElem (by omega)]
  exact ⟨_,rfl,List.getElem_mem _⟩
 exact zr hat fun x hx=>ym ⟨hx,hr.2⟩
theorem ko (l:List Bs) (hl:l≠[]∧l.length≤1000):Ok (qf s l) fun r=>r.1∈l∧SB (k+1) r.2:=by
 unfold qf
 have hp:0 < l.length:=by cases hq:l with | nil=>exact absurd hq hl.1 | cons _ _=>simp
 refine zr (uq h (by omega) _ (by omega)) fun r hr => ?_
 have h1:=hr.1.2.1 (by omega)
 have hat:Ok (at? l r.1) fun x=>x∈l:=by
  unfold at?
  rw [if_pos hr.1.1,List.getElem?_eq_getElem (by omega)]
  exact ⟨_,rfl,List.getElem_mem _⟩
 exact zr hat fun x hx=>ym ⟨hx,hr.2⟩
theorem Wr (lo hi:Int) (hr:-1000000000000≤lo∧lo≤hi∧hi≤1000000000000):Ok (kz s lo hi) fun r=>(lo≤r.1∧r.1≤hi)∧SB (k+1) r.2:=by
 unfold kz
 refine yz (fun h=>absurd h (by simp; omega)) (fun _ => ?_)
 have e1:wr (wr (hi - lo)+1)=hi - lo+1:=by rw [vn (n:=hi - lo) (by omega),vn (by omega)]
 rw [e1]
 refine zr (uq h (by omega) _ (by omega)) fun r hr2=>ym ?_
 have h1:=hr2.1.2.1 (by omega)
 have h2:=hr2.1.1
 simp only
 rw [vn (by omega)]
 exact ⟨by omega,hr2.2⟩
end
theorem z8r {k:Int} {s:zh} (h:SB k s) (hk:k≤10000000) (lo hi:Int) (hr:-1000000000000≤lo∧lo≤hi∧hi≤1000000000000):Ok (Yg s lo hi) fun r=>(-2000000000000≤r.1∧r.1≤2000000000000)∧SB (k+2) r.2:=by
 unfold Yg
 refine zr (wm h (by omega) 12 (by omega)) fun r hr2=>yz (fun _ => ?_) (fun _ => ?_)
 ·refine zr (Ws hr2 (by omega) _ ⟨by simp,by simp⟩) fun r3 hr3=>ym ⟨?_,hr3.2.mono (by omega)⟩
  have hm:=hr3.1
  rw [vn (n:=lo - 1) (by omega),vn (n:=hi+1) (by omega)] at hm
  simp only [List.mem_cons,List.not_mem_nil,or_false] at hm
  simp only
  omega
 ·exact zr (Wr hr2 (by omega) lo hi hr) fun r3 hr3=>ym ⟨by simp only; omega,hr3.2.mono (by omega)⟩
def kc (i:Nat) (c:UInt8):Bool:=((decide (97≤(c.toNat:Int))) && (decide ((c.toNat:Int)≤122))) || ((decide (0 < (i:Int))) && ((((decide (48≤(c.toNat:Int))) && (decide ((c.toNat:Int)≤57))) || (decide ((c.toNat:Int)=45))) || (decide ((c.toNat:Int)=95))))
def keyP (s:Bs):Bool:=allI kc 0 s && (decide (s≠[]) && decide ((s.length:Int)≤40))
theorem x01 (s:Bs) (h:s.length≤1000000000):z0j s=some (keyP s):=by
 unfold z0j
 rw [if_pos h,Qu (p:=kc) (r0:=false) (e:=(decide (s≠[])) && (decide ((s.length:Int)≤40))) rfl s 0]
 ·congr 1
  unfold keyP
  cases allI kc 0 s <;> simp
 ·intro j x _ _
  unfold z6n
  show (if (!kc j x)=true then _ else _)=_
  cases kc j x <;> simp
def z2g:Bs:=[97,98,99,100,101,102,103,104,105,106,107,108,109,110,111,112,113,114,115,116,117,118,119,120,121,122]
def z3m:Bs:=[97,98,99,100,101,102,103,104,105,106,107,108,109,110,111,112,113,114,115,116,117,118,119,120,121,122,48,49,50,51,52,53,54,55,56,57,45,95]
theorem jr (p:UInt8→Bool) (h:((List.range 256).all fun n=>p (UInt8.ofNat n))=true) (c:UInt8):p c=true:=by
 have:=List.all_eq_true.1 h c.toNat (by simp; exact c.toNat_lt)
 simpa using this
theorem y6y (c:UInt8):z2g.contains c=kc 0 c:=by
 have:=jr (fun c=>z2g.contains c == kc 0 c) (by decide +kernel) c
 simpa using this
theorem y80 (c:UInt8):z3m.contains c=kc 1 c:=by
 have:=jr (fun c=>z3m.contains c == kc 1 c) (by decide +kernel) c
 simpa using this
theorem y83 (k:Nat) (c:UInt8):kc (k+1) c=kc 1 c:=by
 unfold kc
 have:decide (0 < ((k+1:Nat):Int))=decide (0 < ((1:Nat):Int)):=by
  rw [decide_eq_true (by omega),decide_eq_true (by omega)]
 rw [this]
theorem y84 (c:UInt8) (h:kc 0 c=true):kc 1 c=true:=by unfold kc at *; simp at h ⊢; exact .inl h
theorem x3c (s:Bs):∀ k,allI kc (k+1) s=s.all fun c=>kc 1 c:=by
 induction s with
 | nil=>intro k; rfl
 | cons c s ih=>intro k; simp only [allI,List.all_cons,y83,ih]
theorem z5r (s so:Bs) (h:s.length≤1000000000):ki s so=some (s.all fun c=>so.contains c):=by
 unfold ki
 rw [if_pos h,Qu (p:=fun _ c=>so.contains c) (r0:=false) (e:=true) rfl s 0]
 ·congr 1
  have:∀ (l:Bs) k,allI (fun _ c=>so.contains c) k l=l.all fun c=>so.contains c:=by
   intro l
   induction l with
   | nil=>intro k; rfl
   | cons c l ih=>intro k; simp only [allI,List.all_cons,ih]
  rw [this]
  cases (s.all fun c=>so.contains c) <;> rfl
 ·intro j x _ _
  unfold z67 z57
  simp only [Option.bind_some]
  have e1:((x.toNat:Int)).toNat.toUInt8=x:=by simp
  rw [e1,Lib.contains_iff_indexByte]
  by_cases hq:Lib.indexByte so x < 0
  ·have:¬ 0≤Lib.indexByte so x:=by omega
   simp [hq,this]
  ·have:0≤Lib.indexByte so x:=by omega
   simp [hq,this]
theorem y81 (s:Bs) (h:s.length≤1000000000):z0p s=some (keyP s):=by
 unfold z0p jf Qa
 simp only [Option.bind_some]
 cases s with
 | nil=>simp [keyP]
 | cons c r =>
  by_cases h1:((c::r).length:Int)≤40
  ·have h2:(decide ((1:Int)≤((c::r).length:Int)) && decide (((c::r).length:Int)≤40))=true:=by simp only [List.length_cons] at h1 ⊢; simp; omega
   rw [if_pos h2]
   have h3:sub? (c::r) 0 1=some [c]:=by
    unfold sub?
    rw [if_pos (by simp only [List.length_cons]; omega)]
    rfl
   rw [h3]
   have e1:=z5r [c] z2g (by simp)
   have e2:=z5r (c::r) z3m h
   simp only [z2g,z3m] at e1 e2
   simp only [Option.bind_some,e1,e2]
   have e3:(List.all [c] fun c=>List.contains [97,98,99,100,101,102,103,104,105,106,107,108,109,110,111,112,113,114,115,116,117,118,119,120,121,122] c)=kc 0 c:=by
    have:=y6y c
    simp only [z2g] at this
    simp only [List.all_cons,List.all_nil,Bool.and_true,this]
   have e4:(List.all (c::r) fun c=>List.contains [97,98,99,100,101,102,103,104,105,106,107,108,109,110,111,112,113,114,115,116,117,118,119,120,121,122,48,49,50,51,52,53,54,55,56,57,45,95] c)=(kc 1 c && r.all fun c=>kc 1 c):=by
    have:=y80
    simp only [z3m] at this
    simp only [List.all_cons,this]
   rw [e3,e4]
   have e5:keyP (c::r)=(kc 0 c && r.all fun c=>kc 1 c):=by
    unfold keyP
    simp only [allI,x3c,Nat.zero_add]
    have:decide (((c::r).length:Int)≤40)=true:=by simpa using h1
    rw [this]; simp
   rw [e5]
   cases hk:kc 0 c
   ·simp
   ·rw [y84 c hk]; simp
  ·have h2:(decide ((1:Int)≤((c::r).length:Int)) && decide (((c::r).length:Int)≤40))=false:=by
    have:decide (((c::r).length:Int)≤40)=false:=by simpa using h1
    rw [this]; simp
   rw [h2]
   have:decide (((c::r).length:Int)≤40)=false:=by simpa using h1
   have e5:keyP (c::r)=false:=by unfold keyP; rw [this]; simp
   rw [e5]; rfl

def momP (n:Int):Bool:=decide (0≤n) && decide (n≤345686399999)
theorem y8g (n:Int):z6g n=some (momP n):=rfl
theorem y3y (n:Int):z2t n=some (momP n):=by
 unfold z2t momP
 congr 2
 by_cases h:n < 345686400000
 ·have:n≤345686399999:=by omega
  simp [h,this]
 ·have:¬ n≤345686399999:=by omega
  simp [h,this]
theorem z5p (n lo hi:Int):z0h n lo hi=some (outP n lo hi):=rfl
theorem z6z (n lo hi:Int):jf n lo hi=some (!outP n lo hi):=by
 unfold jf
 rw [z5q,Bool.not_not]
def spl (c:UInt8):Bs→List Bs
 | []=>[[]]
 | b::l=>if b=c then []::spl c l else match spl c l with
  | p::ps=>(b::p)::ps
  | []=>[[b]]
theorem y6v (c:UInt8) (s:Bs):spl c s≠[]:=by
 cases s with
 | nil=>simp [spl]
 | cons b l =>
  unfold spl
  split
  ·simp
  ·split <;> simp
theorem z6y (c b:UInt8) (l:Bs):Lib.index (b::l) [c]=if b=c then 0 else if Lib.index l [c] == -1 then -1 else Lib.index l [c]+1:=by
 rw [Lib.index]
 by_cases h:b=c
 ·subst h; simp
 ·have hb:(c == b)=false:=by simpa using fun e:c=b=>h e.symm
  have:List.isPrefixOf [c] (b::l)=false:=by simp [List.isPrefixOf,hb]
  rw [this,if_neg h]; rfl
theorem y1u (c:UInt8):∀ s:Bs,Lib.splitK [c] 0 (Lib.count s [c]) s=spl c s
 | []=>by
  rw [Lib.count_miss (by rfl)]
  rfl
 | b::l=>by
  have ih:=y1u c l
  have hi:=z6y c b l
  by_cases h:b=c
  ·rw [if_pos h] at hi
   rw [Lib.count_hit (i:=0) (by simp) (by simpa using hi),Nat.add_comm,Lib.splitK,if_neg (by rw [hi]; decide),hi,spl,if_pos h]
   simp only [Int.toNat_zero,Nat.zero_add,List.length_cons,List.length_nil,Nat.add_zero,List.take_zero,List.drop_succ_cons,List.drop_zero,ih]
  ·rw [if_neg h] at hi
   have hs:spl c (b::l)=match spl c l with | p::ps=>(b::p)::ps | []=>[[b]]:=by rw [spl,if_neg h]
   have hge:=Lib.index_ge l [c]
   by_cases h1:Lib.index l [c]=-1
   ·rw [if_pos (by simpa using h1)] at hi
    rw [Lib.count_miss h1] at ih
    have ih:[l]=spl c l:=ih
    rw [Lib.count_miss hi,hs,← ih]
    rfl
   ·obtain ⟨i,h2⟩:∃ i:Nat,Lib.index l [c]=i:=⟨(Lib.index l [c]).toNat,by omega⟩
    rw [if_neg (by simpa using h1),h2] at hi
    have hi':Lib.index (b::l) [c]=((i+1:Nat):Int):=by rw [hi]; omega
    rw [Lib.count_hit (i:=i) (by simp) h2,Nat.add_comm,Lib.splitK,if_neg (by rw [h2]; simp),h2] at ih
    rw [Lib.count_hit (i:=i+1) (by simp) hi',Nat.add_comm,Lib.splitK,if_neg (by rw [hi']; simp; omega),hi',hs,← ih]
    simp
theorem z5e (s:Bs) (c:UInt8):kx s [c]=spl c s:=by
 unfold kx
 rw [Lib.splitB_data]
 exact y1u c s
theorem z5f (c:UInt8):∀ s:Bs,(spl c s).length≤s.length+1
 | []=>by simp [spl]
 | b::l=>by
  have ih:=z5f c l
  unfold spl
  split
  ·simp only [List.length_cons]; omega
  ·split
   ·rename_i p ps h; rw [h] at ih; simp only [List.length_cons] at ih ⊢; omega
   ·simp
theorem z2f (c:UInt8):∀ (s:Bs) (p:Bs),p∈spl c s→p.length≤s.length
 | [],p,h=>by simp [spl] at h; subst h; simp
 | b::l,p,h=>by
  have ih:=z2f c l
  unfold spl at h
  split at h
  ·rcases List.mem_cons.1 h with rfl | h
   ·simp
   ·have:=ih p h; simp only [List.length_cons]; omega
  ·split at h
   ·rename_i q ps hq
    rw [hq] at ih
    rcases List.mem_cons.1 h with rfl | h
    ·have:=ih q (by simp); simp only [List.length_cons]; omega
    ·have:=ih p (List.mem_cons_of_mem _ h); simp only [List.length_cons]; omega
   ·simp at h; subst h; simp
abbrev y6x (l:List Bs):List Bs:=l.mergeSort fun x y=>decide (x≤y)
section
variable {α:Type} [Inhabited α] [DecidableEq α]
end
theorem z77 {α:Type} {P:List α→Prop} (h0:P []) (h1:∀ l x,P l→P (l++[x])) (l:List α):P l:=by
 have:∀ n (l:List α),l.length=n→P l:=by
  intro n
  induction n with
  | zero=>intro l h; rw [List.eq_nil_of_length_eq_zero h]; exact h0
  | succ n ih =>
   intro l h
   rcases List.eq_nil_or_concat l with rfl | ⟨l',x,rfl⟩
   ·simp at h
   ·rw [List.concat_eq_append]
    exact h1 _ _ (ih l' (by simpa using h))
 exact this _ l rfl
def setB (l:List Bs):List Bs:=Lib.compact (y6x l)
section
variable {σ ρ:Type}
theorem y3v {body:σ→Option (σ ⊕ ρ)} {s s':σ} (h:body s=some (.inl s')):iter body s=iter body s':=by
 rw [y3w,h]; rfl
theorem z6u {body:σ→Option (σ ⊕ ρ)} {s:σ} {r:ρ} (h:body s=some (.inr r)):iter body s=some r:=by
 rw [y3w,h]; rfl
end
theorem y8d (l:Bs):(ww l).length=l.length:=by simp [ww]
theorem z6t (B:Nat) (sep:Bs):∀ l:List Bs,(∀ x,x∈l→x.length≤B)→(Lib.join l sep).length≤l.length * (B+sep.length)
 | [],_=>by simp [Lib.join_nil]
 | x::r,h=>by
  rw [Lib.join_cons,List.length_append]
  have h1:=h x (by simp)
  have h2:(Lib.joinTail sep r).length≤r.length * (B+sep.length):=by
   have:∀ r:List Bs,(∀ x,x∈r→x.length≤B)→(Lib.joinTail sep r).length≤r.length * (B+sep.length):=by
    intro r
    induction r with
    | nil=>intro _; simp [Lib.joinTail]
    | cons y r ih =>
     intro hr
     have h3:=hr y (by simp)
     have h4:=ih fun z hz=>hr z (by simp [hz])
     unfold Lib.joinTail at h4 ⊢
     simp only [List.map_cons,List.flatten_cons,List.length_append,List.length_cons,Nat.succ_mul]
     omega
   exact this r fun y hy=>h y (by simp [hy])
  simp only [List.length_cons,Nat.succ_mul]
  omega
theorem z7n {k:Int} {s:zh} (h:SB k s) (hk:k≤1000000) (m:Nat) (hm:m≤1000) (sep:Bs) (hsep:sep.length≤10) (l:List Bs) (hl:l≠[]∧l.length≤1000) (hB:∀ x,x∈l→x.length≤20) :
  Ok (ju s (m:Int) sep l) fun r=>r.1.length≤30000∧SB (k+m) r.2:=by
 unfold ju
 refine ok_g (by omega) ?_
 rw [Int.toNat_natCast]
 refine z2k (fun j (q:List Int×Int×List Bs)=>j≤m∧SB (k+(j:Int)) (zh.mk q.1 q.2.1)∧q.2.2.length≤j∧∀ x,x∈q.2.2→x.length≤20) m 0 _ ⟨by omega,h.mono (by omega),by simp,by simp⟩ ?_ ?_
 ·rintro j ⟨c5,c6,l7⟩ _ hj ⟨h0,h1,h2,h3⟩
  simp only at h1 h2 h3 ⊢
  unfold z4d
  refine zr (ko h1 (by omega) l hl) fun r hr=>ok_g (by omega) (ym ?_)
  refine ⟨by omega,hr.2.mono (by omega),by simp; omega,fun x hx => ?_⟩
  rcases List.mem_append.1 hx with h | h
  ·exact h3 x h
  ·have:x=r.1:=by simpa using h
   rw [this]; exact hB _ hr.1
 ·rintro ⟨c5,c6,l7⟩ ⟨h0,h1,h2,h3⟩
  simp only at h1 h2 h3 ⊢
  have hj:=z6t 20 sep l7 h3
  have hmm:l7.length * (20+sep.length)≤1000 * 30:=Nat.mul_le_mul (by omega) (by omega)
  unfold z4e
  have hJ:kh l7 sep=some (Lib.join l7 sep):=by
   unfold kh
   rw [if_pos ⟨by omega,by omega⟩]
  rw [hJ]
  exact ym ⟨by simp only; omega,h1.mono (by omega)⟩
theorem z9w (c:UInt8):∀ s:Bs,c ∉ s∨∃ p q,s=p++c::q∧c ∉ p
 | [] => .inl (by simp)
 | x::s=>by
  by_cases h:x=c
  ·exact .inr ⟨[],s,by rw [h]; rfl,by simp⟩
  ·rcases z9w c s with h1 | ⟨p,q,rfl,h1⟩
   ·exact .inl (by simp [h1,Ne.symm h])
   ·exact .inr ⟨x::p,q,rfl,by simp [h1,Ne.symm h]⟩
theorem z9k (c:UInt8):∀ s:Bs,c ∉ s→Lib.index s [c]=-1
 | [],_=>rfl
 | x::s,h=>by
  rw [z6y,if_neg (fun e=>h (by simp [e])),z9k c s (fun e=>h (by simp [e]))]
  try rfl
theorem z9l (c:UInt8) (q:Bs):∀ p:Bs,c ∉ p→Lib.index (p++c::q) [c]=(p.length:Int)
 | [],_=>by rw [List.nil_append,z6y,if_pos rfl]; rfl
 | x::p,h=>by
  rw [List.cons_append,z6y,if_neg (fun e=>h (by simp [e])),z9l c q p (fun e=>h (by simp [e])),if_neg (by simp)]
  simp
theorem x2c (c:UInt8) (s:Bs) (h:c ∉ s):Lib.cut s [c]=(s,[],false):=by
 unfold Lib.cut
 rw [z9k c s h]; rfl
theorem x2d (c:UInt8) (p q:Bs) (h:c ∉ p):Lib.cut (p++c::q) [c]=(p,q,true):=by
 unfold Lib.cut
 rw [z9l c q p h,if_pos (by omega)]
 simp
def trR (c:UInt8) (s:Bs):Bs:=(s.reverse.dropWhile (· == c)).reverse
def trL (c:UInt8) (s:Bs):Bs:=s.dropWhile (· == c)
theorem y5p (c b:UInt8) (l:Bs):trR c (l++[b])=if b=c then trR c l else l++[b]:=by
 unfold trR
 rw [List.reverse_append,List.reverse_singleton,List.singleton_append,List.dropWhile_cons]
 by_cases h:b=c
 ·simp [h]
 ·simp [h]
theorem y06 (c:UInt8) (s:Bs):(trR c s).length≤s.length:=by
 unfold trR
 rw [List.length_reverse]
 have:=(List.dropWhile_sublist (l:=s.reverse) (· == c)).length_le
 simpa using this
theorem y5o (c:UInt8) (s:Bs):s.length≤1000000000→xt s (c.toNat:Int)=some (trR c s):=by
 refine z77 (P:=fun s=>s.length≤1000000000→xt s (c.toNat:Int)=some (trR c s)) (fun _ => ?_) (fun l b ih h => ?_) s
 ·unfold xt
  exact z6u rfl
 ·have hl:(l++[b]).length=l.length+1:=by simp
  have e1:wr (((l++[b]).length:Int) - 1)=(l.length:Int):=by rw [hl,vn (by omega)]; omega
  have e2:at? (l++[b]) (l.length:Int)=some b:=by
   unfold at?
   rw [if_pos (by omega),Int.toNat_natCast]; simp
  have e3:sub? (l++[b]) 0 (l.length:Int)=some l:=by
   rw [y5z _ _ (by omega)]; simp
  rw [y5p]
  by_cases hb:b=c
  ·rw [if_pos hb]
   have:=ih (by omega)
   unfold xt at this ⊢
   refine (y3v (s':=l) ?_).trans this
   unfold z19 Zn
   rw [if_pos (by simp),e1,e2]
   simp only [Option.bind_some]
   rw [if_pos (by simp [hb]),e3]; rfl
  ·rw [if_neg hb]
   unfold xt
   refine z6u ?_
   unfold z19 Zn z2a
   rw [if_pos (by simp),e1,e2]
   simp only [Option.bind_some]
   have hn:¬ (b.toNat:Int)=(c.toNat:Int):=fun h=>hb (UInt8.toNat_inj.1 (by omega))
   rw [if_neg (by simpa using hn)]; rfl
theorem y05 (c:UInt8):∀ s:Bs,s.length≤1000000000→Zz s (c.toNat:Int)=some (trL c s)
 | [],_=>by
  unfold Zz
  exact z6u rfl
 | b::l,h=>by
  simp only [List.length_cons] at h
  have e3:sub? (b::l) 1 ((b::l).length:Int)=some l:=by
   unfold sub?
   rw [if_pos (by simp; omega)]
   simp
  unfold trL
  rw [List.dropWhile_cons]
  by_cases hb:b=c
  ·rw [if_pos (by simp [hb])]
   have:=y05 c l (by omega)
   unfold Zz at this ⊢
   refine (y3v (s':=l) ?_).trans this
   unfold z2b Zo
   rw [if_pos (by simp),List.getElem?_cons_zero]
   simp only [Option.bind_some]
   rw [if_pos (by simp [hb]),e3]; rfl
  ·rw [if_neg (by simp [hb])]
   unfold Zz
   refine z6u ?_
   unfold z2b Zo z2c
   rw [if_pos (by simp),List.getElem?_cons_zero]
   simp only [Option.bind_some]
   have hn:¬ (b.toNat:Int)=(c.toNat:Int):=fun h=>hb (UInt8.toNat_inj.1 (by omega))
   rw [if_neg (by simpa using hn)]; rfl
theorem z43 (c:UInt8) (hc:c.toNat < 128) (s:Bs) (h:s.length≤1000000000):ux s [c]=some (trL c (trR c s)):=by
 unfold ux Wn
 by_cases h0:s=[]
 ·subst h0; rfl
 ·have:=y06 c s
  rw [if_neg (by simp [h0]),if_pos (by simp),List.getElem?_cons_zero]
  simp only [Option.bind_some]
  rw [if_pos (by simp; omega),y5o c s h]
  simp only [Option.bind_some]
  rw [y05 c _ (by omega)]; rfl
def tokL:Bs:=[97,98,99,100,101,102,103,104,105,106,107,108,109,110,111,112,113,114,115,116,117,118,119,120,121,122,65,66,67,68,69,70,71,72,73,74,75,76,77,78,79,80,81,82,83,84,85,86,87,88,89,90,48,49,50,51,52,53,54,55,56,57,33,35,36,37,38,39,42,43,45,46,94,95,96,124,126]
def tokB (s:Bs):Bool:=s.all (fun c=>tokL.contains c) && (decide (s≠[]) && decide ((s.length:Int)≤100))
theorem y5s (c:UInt8):z2p (c.toNat:Int)=some (tokL.contains c):=by
 have:=jr (fun c=>decide (z2p (c.toNat:Int)=some (tokL.contains c))) (by decide +kernel) c
 exact of_decide_eq_true this
theorem z3r (s:Bs) (h:s.length≤1000000000):xx s=some (tokB s):=by
 unfold xx
 rw [if_pos h,Qu (p:=fun _ c=>tokL.contains c) (e:=(decide (s≠[]) && decide ((s.length:Int)≤100))) (r0:=false) rfl s 0 (fun j x _ _ => ?_),z7m]
 ·unfold tokB
  cases s.all fun c=>tokL.contains c <;> rfl
 ·unfold z5z
  rw [y5s]
  simp only [Option.bind_some]
  cases tokL.contains x <;> rfl
theorem z44 (s:Bs) (h:s.length≤1000000000):xy s=some (tokB s):=by
 unfold xy z1g
 rw [z6z]
 simp only [Option.bind_some]
 have ho:=z5r s tokL h
 have hc:(!outP (s.length:Int) 1 100)=(decide (s≠[]) && decide ((s.length:Int)≤100)):=by
  rw [z5q]
  cases s with
  | nil=>rfl
  | cons a l=>simp; omega
 rw [hc]
 unfold tokB
 cases (decide (s≠[]) && decide ((s.length:Int)≤100))
 ·simp
 ·simp only [if_true,Bool.and_true]
  show (ki s tokL).bind _=_
  rw [ho]; rfl
def rgB (s:Bs) (lo hi:Int):Bool:=s.all fun c => !outP (c.toNat:Int) lo hi
theorem z3s (s:Bs) (lo hi:Int) (h:s.length≤1000000000):xv s lo hi=some (rgB s lo hi):=by
 unfold xv z5v
 rw [if_pos h,Qu (p:=fun _ c => !outP (c.toNat:Int) lo hi) (e:=true) (r0:=false) rfl s 0 (fun j x _ _ => ?_),z7m]
 ·unfold rgB
  cases s.all fun c => !outP (c.toNat:Int) lo hi <;> rfl
 ·unfold z5u Wu outP
  by_cases h1:(x.toNat:Int) < lo <;> by_cases h2:hi < (x.toNat:Int) <;> simp [h1,h2]
theorem y0m (s:Bs) (lo:Int):z0k s lo=xv s lo 126:=rfl
theorem z8h {s:Bs} {lo:Int} (h:rgB s lo 126=true):ascB s=true:=by
 unfold rgB at h
 unfold ascB
 rw [List.all_eq_true] at h ⊢
 intro c hc
 have:=h c hc
 unfold outP at this
 simp at this ⊢
 omega
def fldB (s:Bs):Bool:=decide ((s.length:Int)≤2000) && (rgB s 32 126 && decide (trL 32 (trR 32 s)=s))
theorem z6w (s:Bs) (h:s.length≤1000000000):Yc s=some (fldB s):=by
 unfold Yc Zy fldB
 rw [z3s s _ _ h]
 by_cases h1:(s.length:Int)≤2000
 ·rw [if_pos (by simpa using h1)]
  simp only [Option.bind_some]
  cases rgB s 32 126
  ·simp
  ·rw [if_pos rfl,z43 32 (by decide) s h]
   simp [h1]
 ·rw [if_neg (by simpa using h1)]
  simp [h1]
theorem y4i (s:Bs):z23 s=Yc s:=rfl
def hdP (h:zm):Prop:=h.Name.length≤100000∧h.Value.length≤100000
def hdsP (l:List zm):Prop:=l.length≤1000∧∀ h,h∈l→hdP h
def hdE (h:zm):Int:=if tokB h.Name then (if fldB h.Value then 0 else 3) else 5
def hdsE (l:List zm):Int:=if 50 < (l.length:Int) then 2 else feI (fun _ h=>hdE h) 0 l
theorem z38 (l:List zm) (h:hdsP l):z0g l=some (hdsE l)∧z0r l=some (hdsE l):=by
 constructor
 ·unfold z0g z52 hdsE
  by_cases h0:50 < (l.length:Int)
  ·rw [if_pos (by simpa using h0),if_pos h0]
  ·rw [if_neg (by simpa using h0),if_neg h0,if_pos (by have:=h.1; omega)]
   refine z9t rfl l 0 fun j x _ hj => ?_
   obtain ⟨h1,h2⟩:=h.2 x (List.mem_of_getElem? hj)
   unfold z50 hdE
   rw [z3r _ (by omega),z6w _ (by omega)]
   simp only [Option.bind_some]
   cases tokB x.Name <;> cases fldB x.Value <;> simp
 ·unfold z0r z7a hdsE
  by_cases h0:50 < (l.length:Int)
  ·rw [if_pos (by simpa using h0),if_pos h0]
  ·rw [if_neg (by simpa using h0),if_neg h0,if_pos (by have:=h.1; omega)]
   refine z9t rfl l 0 fun j x _ hj => ?_
   obtain ⟨h1,h2⟩:=h.2 x (List.mem_of_getElem? hj)
   unfold z69 hdE
   rw [z44 _ (by omega),y4i,z6w _ (by omega)]
   simp only [Option.bind_some]
   cases tokB x.Name <;> cases fldB x.Value <;> simp
def pthB (s:Bs):Bool:=decide ((s.length:Int)≤1000) && (Lib.hasPrefix s [47] && (rgB s 33 126 && !Lib.containsAny s [63,35]))
theorem y2b (s:Bs) (h:s.length≤1000000000) (hr:rgB s 33 126=true):z0d s [63,35]=some (Lib.containsAny s [63,35]):=by
 unfold z0d
 rw [if_pos ⟨⟨h,by simp⟩,z8h hr,rfl⟩]
theorem y2d (s:Bs) (h:s.length≤1000000000):z2r s=some (if pthB s then 0 else 3):=by
 unfold z2r xr pthB z8v
 rw [z3s s _ _ h]
 by_cases h1:1000 < (s.length:Int)
 ·have h2:¬ (s.length:Int)≤1000:=by omega
  rw [if_pos (by simpa using h1)]
  simp [h2]
 ·have h2:(s.length:Int)≤1000:=by omega
  rw [if_neg (by simpa using h1)]
  simp only [Option.bind_some]
  cases Lib.hasPrefix s [47]
  ·simp
  ·cases hr:rgB s 33 126
   ·simp
   ·rw [y2b s h hr]
    cases hc:Lib.containsAny s [63,35] <;> simp [h2]
theorem y75 (s:Bs) (h:s.length≤1000000000):z2v s=some (pthB s):=by
 unfold z2v Zf pthB
 rw [z6z,y0m,z3s s _ _ h]
 simp only [Option.bind_some]
 cases s with
 | nil=>rfl
 | cons a l =>
  have hc:(!outP ((a::l).length:Int) 1 1000)=decide (((a::l).length:Int)≤1000):=by
   rw [z5q]; simp; omega
  have hp:Lib.hasPrefix (a::l) [47]=decide ((a.toNat:Int)=47):=by
   have:=jr (fun a=>((47:UInt8) == a) == decide ((a.toNat:Int)=47)) (by decide +kernel) a
   unfold Lib.hasPrefix
   simp only [List.isPrefixOf,Bool.and_true]
   simpa using this
  rw [hc,hp,List.getElem?_cons_zero]
  simp only [Option.bind_some]
  cases decide (((a::l).length:Int)≤1000)
  ·simp
  ·cases decide ((a.toNat:Int)=47)
   ·simp
   ·cases hr:rgB (a::l) 33 126
    ·simp
    ·rw [y2b _ h hr]
     simp
def qryB (s:Bs):Bool:=decide ((s.length:Int)≤1000) && (rgB s 33 126 && !Lib.contains s [35])
theorem y18 (s:Bs) (h:s.length≤1000000000):z2o s=some (if qryB s then 0 else 3):=by
 unfold z2o Zu qryB z0e
 rw [z3s s _ _ h,if_pos h]
 by_cases h1:1000 < (s.length:Int)
 ·have h2:¬ (s.length:Int)≤1000:=by omega
  rw [if_pos (by simpa using h1)]
  simp [h2]
 ·have h2:(s.length:Int)≤1000:=by omega
  rw [if_neg (by simpa using h1)]
  simp only [Option.bind_some]
  cases hr:rgB s 33 126
  ·simp
  ·cases hc:Lib.contains s [35] <;> simp [h2]
theorem y70 (s:Bs) (h:s.length≤1000000000):z2u s=some (qryB s):=by
 unfold z2u Ys qryB z0e
 rw [y0m,z3s s _ _ h,if_pos h]
 by_cases h1:(s.length:Int)≤1000
 ·rw [if_pos (by simpa using h1)]
  simp only [Option.bind_some]
  cases hr:rgB s 33 126 <;> cases hc:Lib.contains s [35] <;> simp [h1]
 ·rw [if_neg (by simpa using h1)]
  simp [h1]
def hx (c:UInt8):Nat:=if 48≤c.toNat∧c.toNat≤57 then c.toNat - 48 else if 97≤c.toNat∧c.toNat≤102 then c.toNat - 87 else if 65≤c.toNat∧c.toNat≤70 then c.toNat - 55 else 99
def pl (plus:Bool) (c:UInt8):UInt8:=if c=43∧plus=true then 32 else c
def h2 (a b:UInt8):UInt8:=UInt8.ofNat (16 * hx a+hx b)
noncomputable def z6v (s:Bs):Option Bool:=
 forL (fun (k:Nat) (x:Bs) (_:Unit)=>z5w k x) (fun (_:Unit)=>z5x s (Lib.cut s [58])) 0 (spl 46 (Lib.cut s [58]).1) ()
noncomputable def z62 (k:Nat) (x:Bs):Option (Unit ⊕ (Bs×Int)):=
 (jf (x.length:Int) 1 63).bind fun r33=>if !r33 then (xj true) else ((ki x [97,98,99,100,101,102,103,104,105,106,107,108,109,110,111,112,113,114,115,116,117,118,119,120,121,122,65,66,67,68,69,70,71,72,73,74,75,76,77,78,79,80,81,82,83,84,85,86,87,88,89,90,48,49,50,51,52,53,54,55,56,57,45]).bind fun r37=>if !r37 then (xj true) else (xj (decide (trL 45 (trR 45 x)≠x))))
theorem x09 (k:Nat) (x:Bs) (h:x.length≤1000000000):z1j k x=z62 k x:=by
 unfold z1j z62
 rw [z43 45 (by decide) x h]
 rfl
noncomputable def z1b (r2:(Bs×Bs×Bool)) (r4:(Int×Bool)) (v17:Bool):Option (Bs×Int):=
 if v17 then (some ([],3)) else (if (spl 46 r2.1).length≤1000000000 then forL (fun (k:Nat) (x:Bs) (_:Unit)=>z62 k x) (fun (_:Unit)=>z1k r2 r4) 0 (spl 46 r2.1) () else none)
theorem x1a (r2:(Bs×Bs×Bool)) (r4:(Int×Bool)) (v:Bool) (h:r2.1.length≤100000):xk r2 r4 v=z1b r2 r4 v:=by
 unfold xk z1b kg
 cases v
 case true=>rfl
 simp only [Bool.false_eq_true,if_false]
 rw [if_pos (c:=r2.1.length≤1000000000∧_) ⟨by omega,by simp⟩,z5e]
 simp only [Option.bind_some]
 have:forL (fun (k:Nat) (x:Bs) (_:Unit)=>z1j k x) (fun (_:Unit)=>z1k r2 r4) 0 (spl 46 r2.1) ()=forL (fun (k:Nat) (x:Bs) (_:Unit)=>z62 k x) (fun (_:Unit)=>z1k r2 r4) 0 (spl 46 r2.1) ():=by
  refine y39 (fun _=>rfl) _ 0 () fun j x s _ hj => ?_
  have:=z2f 46 r2.1 x (List.mem_of_getElem? hj)
  exact x09 j x (by omega)
 rw [this]
noncomputable def z9m (v1:Bs):Option (Bs×Int):=
 (xz (Lib.cut v1 [58]).2.1 5).bind fun r4=>if decide (255 < (v1.length:Int)) then (z1b (Lib.cut v1 [58]) r4 true) else (if (Lib.cut v1 [58]).2.2 then (if !r4.2 then (z1b (Lib.cut v1 [58]) r4 true) else ((jf r4.1 1 65535).bind fun r12=>z1b (Lib.cut v1 [58]) r4 (!r12))) else (z1b (Lib.cut v1 [58]) r4 false))
theorem y4q (s:Bs) (c:UInt8):(Lib.cut s [c]).1.length≤s.length:=by
 unfold Lib.cut
 split
 ·simp; omega
 ·exact Nat.le_refl _
theorem y3z (s:Bs) (h:s.length≤100000):z0f s=z6v s:=by
 have h1:=y4q s 58
 have h2:=z5f 46 (Lib.cut s [58]).1
 unfold z0f z6v ky kg
 rw [if_pos (by omega)]
 simp only [Option.bind_some]
 rw [if_pos ⟨by omega,by simp⟩,z5e]
 simp only [Option.bind_some]
 rw [if_pos (by omega)]
theorem x06 (s:Bs) (h:s.length≤100000):z0q s=z9m s:=by
 have h1:=y4q s 58
 unfold z0q z9m ky
 rw [if_pos (by omega)]
 simp only [Option.bind_some]
 congr 1
 funext r4
 simp only [x1a _ _ _ (show (Lib.cut s [58]).1.length≤100000 by omega)]
def jg:List Bs:=[[65,46,66,58,56,48],[99,46,100],[97,46,98],[65,46,66],[97,46,98,58,56,48],[99,46,100,58,56,48,56,48],[115,104,111,112,46,101,120,97,109,112,108,101],[97,46,98,58,52,52,51],[97,46,98,58,56,48,56,48],[120,45,49,46,121],[49,46,50,46,51,46,52],[],[97,46,46,98],[45,97,46,98],[97,46,98,58,48],[97,46,98,58,48,56],[97,46,98,58,54,53,53,51,54],[97,95,98],[97,46,98,58],[97,32,98],List.replicate 64 97]
noncomputable def y33 (s:Bs):Bool:=match z6v s,z9m s with
 | some b,some r=>r.2 == (if b then 0 else 3)
 | _,_=>false
theorem x05:jg.all y33=true:=by decide +kernel
theorem y31:jg.all (fun s=>decide (s.length≤1000))=true:=by decide +kernel
theorem y32 {s:Bs} (h:s∈jg):∃ b r,z0f s=some b∧z0q s=some r∧r.2=if b then 0 else 3:=by
 have h1:=List.all_eq_true.1 x05 s h
 have h2:=of_decide_eq_true (List.all_eq_true.1 y31 s h)
 rw [y3z s (by omega),x06 s (by omega)]
 unfold y33 at h1
 split at h1
 ·rename_i b r e1 e2
  exact ⟨b,r,e1,e2,by simpa using h1⟩
 ·cases h1
theorem x1z (c:UInt8):(encL (IntKind.wrap .i32 (c.toNat:Int))).length≤4:=by
 have:=jr (fun c=>decide ((encL (IntKind.wrap .i32 (c.toNat:Int))).length≤4)) (by decide +kernel) c
 exact of_decide_eq_true this
theorem Wm (l:Bs) (a b:Int) (h:0≤a∧a≤b∧b≤(l.length:Int)):Ok (sub? l a b) fun r=>(r.length:Int)=b - a:=by
 unfold sub?
 rw [if_pos h]
 exact ym (by simp; omega)
theorem x2l {k:Int} {s:zh} (h:SB k s) (hk:k≤1000000) (t v:Bs) (ht:t.length≤100000) (hv:v.length≤100000) :
  Ok (z3b s t v) fun r=>r.1.length≤t.length+v.length+4∧SB (k+3) r.2:=by
 unfold z3b
 refine yz (fun _=>ym ⟨by simp only; omega,h.mono (by omega)⟩) (fun h0 => ?_)
 simp only [Bool.or_eq_true,decide_eq_true_eq,not_or] at h0
 have ht0:0 < t.length:=by cases hq:t with | nil=>exact absurd hq h0.1 | cons _ _=>simp
 have hv0:0 < v.length:=by cases hq:v with | nil=>exact absurd hq h0.2 | cons _ _=>simp
 refine zr (uq h (by omega) _ (by omega)) fun r5 h5=>zr (uq h5.2 (by omega) _ (by omega)) fun r7 h7 => ?_
 have b5:=h5.1.2.1 (by omega)
 have b7:=h7.1.2.1 (by omega)
 have c5:=h5.1.1
 have c7:=h7.1.1
 have hat:Ok (at? v r7.1) fun _=>True:=by
  unfold at?
  rw [if_pos c7,List.getElem?_eq_getElem (by omega)]
  exact ⟨_,rfl,trivial⟩
 refine zr hat fun x9 _=>zr (uq h7.2 (by omega) 3 (by omega)) fun r11 h11 => ?_
 have he:=x1z x9
 have hw:wr (r5.1+1)=r5.1+1:=vn (by omega)
 have hS:SB (k+3) r11.2:=h11.2.mono (by omega)
 rw [hw]
 refine yz (fun _ => ?_) (fun _=>yz (fun _ => ?_) (fun _ => ?_))
 ·refine zr (Wm t _ _ ⟨by omega,by omega,by omega⟩) fun l14 h14=>ok_g (by omega) (zr (Wm t _ _ ⟨by omega,by omega,by omega⟩) fun l17 h17=>ok_g (by simp; omega) (ym ⟨by simp; omega,hS⟩))
 ·refine zr (Wm t _ _ ⟨by omega,by omega,by omega⟩) fun l14 h14=>ok_g (by omega) (zr (Wm t _ _ ⟨by omega,by omega,by omega⟩) fun l17 h17=>ok_g (by simp; omega) (ym ⟨by simp; omega,hS⟩))
 ·refine zr (Wm t _ _ ⟨by omega,by omega,by omega⟩) fun l14 h14=>zr (Wm t _ _ ⟨by omega,by omega,by omega⟩) fun l17 h17=>ok_g (by omega) (ym ⟨by simp; omega,hS⟩)
theorem y17 {k:Int} {s:zh} (h:SB k s) (hk:k≤1000):Ok (z0t s) fun r=>r.1.length≤30000∧SB (k+200) r.2:=by
 unfold z0t z1q
 refine zr (Wr h (by omega) 0 4 (by omega)) fun r hr => ?_
 obtain ⟨m,hm⟩:∃ m:Nat,r.1=(m:Int):=⟨r.1.toNat,by omega⟩
 rw [hm]
 refine zr (z7n hr.2 (by omega) m (by omega) [38] (by simp) _ ⟨by simp,by simp⟩ (by decide)) fun r2 h2=>zr (wm h2.2 (by omega) 12 (by omega)) fun r3 h3=>yz (fun _ => ?_) (fun _=>ym ⟨h2.1,?_⟩)
 ·refine zr (z7n h3 (by omega) 101 (by omega) [38] (by simp) [[120]] ⟨by simp,by simp⟩ (by decide)) fun r4 h4=>zr (ko h4.2 (by omega) _ ⟨by simp,by simp⟩) fun r5 h5=>ym ⟨?_,?_⟩
  ·have hm:=h5.1
   simp only [List.mem_cons,List.not_mem_nil,or_false] at hm
   rcases hm with e | e | e | e | e | e <;> rw [e] <;> first | decide | exact h4.1
  ·exact h5.2.mono (by omega)
 ·exact h3.mono (by omega)
theorem va {k:Int} {s:zh} (h:SB k s) (hk:k≤100000000) (B:Nat) (l:List Bs) (hl:l≠[]∧l.length≤1000) (hB:∀ x,x∈l→x.length≤B):Ok (qf s l) fun r=>r.1.length≤B∧SB (k+1) r.2:=
 y2l (ko h hk l hl) fun r hr=>⟨hB _ hr.1,hr.2⟩
theorem xq (s:Bs) (n:Int) (h:0≤n∧n≤1000000∧s.length≤1000000):Ok (js s n) fun r=>r=Lib.repeatL s n.toNat:=by
 unfold js
 rw [if_pos h]
 exact ym rfl
theorem y2c {k:Int} {s:zh} (h:SB k s) (hk:k≤100000):Ok (z0u s) fun r=>r.1.length≤100000∧SB (k+30) r.2:=by
 have hJ:∀ (p:Bs) (c:List Int) (a:Int),p.length≤40000→SB (k+20) (zh.mk c a)→Ok (Qb p c a) fun r=>r.1.length≤100000∧SB (k+30) r.2:=by
  intro p c a hp hs
  unfold Qb z1r
  refine zr (wm hs (by omega) 12 (by omega)) fun r hr=>yz (fun _ => ?_) (fun _=>ym ⟨by simp only; omega,hr.mono (by omega)⟩)
  refine zr (x2l hr (by omega) p _ (by omega) (by simp)) fun r2 h2=>ym ⟨?_,h2.2.mono (by omega)⟩
  have:=h2.1
  simp only [List.length_cons,List.length_nil] at this
  simp only
  omega
 unfold z0u
 refine zr (Wr h (by omega) 0 4 (by omega)) fun r hr => ?_
 obtain ⟨m,hm⟩:∃ m:Nat,r.1=(m:Int):=⟨r.1.toNat,by omega⟩
 rw [hm]
 refine zr (z7n hr.2 (by omega) m (by omega) [47] (by simp) _ ⟨by simp,by simp⟩ (by decide)) fun r2 h2=>ok_g (by simp; omega) (zr (wm h2.2 (by omega) 12 (by omega)) fun r3 h3=>yz (fun _ => ?_) (fun _ => ?_))
 ·refine zr (xq _ _ ⟨by omega,by omega,by simp⟩) fun r4 h4 => ?_
  have hl:r4.length=1020:=by rw [h4]; decide +kernel
  refine ok_g (by simp; omega) (zr (va h3 (by omega) 2000 _ ⟨by simp,by simp⟩ (by simp [hl])) fun r5 h5 => ?_)
  exact hJ _ _ _ (by have:=h5.1; omega) (h5.2.mono (by omega))
 ·exact hJ _ _ _ (by have:=h2.1; simp; omega) (h3.mono (by omega))
theorem y07 {k:Int} {s:zh} (h:SB k s) (hk:k≤100000):Ok (z0s s) fun r=>r.1.length≤2500∧SB (k+1) r.2:=by
 unfold z0s
 refine zr (xq _ _ ⟨by omega,by omega,by simp⟩) fun r4 h4 => ?_
 have hl:r4.length=101:=by rw [h4]; decide +kernel
 exact zr (va h (by omega) 2500 _ ⟨by simp,by simp⟩ (by simp [hl])) fun r5 h5=>ym h5
theorem y4j {k:Int} {s:zh} (h:SB k s) (hk:k≤100000):Ok (z0w s) fun r=>r.1.length≤2500∧SB (k+1) r.2:=by
 unfold z0w
 refine zr (xq _ _ ⟨by omega,by omega,by simp⟩) fun r4 h4 => ?_
 have hl:r4.length=2001:=by rw [h4]; decide +kernel
 exact zr (va h (by omega) 2500 _ ⟨by simp,by simp⟩ (by simp [hl])) fun r5 h5=>ym h5
theorem z9n {l:List zm} {x:zm} (h:∀ y,y∈l→hdP y) (hx:hdP x):∀ y,y∈l++[x]→hdP y:=by
 intro y hy
 rcases List.mem_append.1 hy with hy | hy
 ·exact h y hy
 ·rw [List.mem_singleton.1 hy]; exact hx
theorem z8g {k:Int} {s:zh} (h:SB k s) (hk:k≤10000) (most:Int) (hm:0≤most∧most≤10) :
  Ok (xb s most) fun r=>(r.1.length≤10∧∀ y,y∈r.1→hdP y)∧SB (k+30) r.2:=by
 unfold xb
 refine zr (Wr h (by omega) 0 most (by omega)) fun r hr => ?_
 obtain ⟨m,hm⟩:∃ m:Nat,r.1=(m:Int):=⟨r.1.toNat,by omega⟩
 rw [hm,Int.toNat_natCast]
 refine ok_g (by omega) ?_
 refine z2k (fun j (q:List Int×Int×List zm)=>j≤m∧SB (k+1+2 * (j:Int)) (zh.mk q.1 q.2.1)∧q.2.2.length≤j∧∀ y,y∈q.2.2→hdP y) m 0 _ ⟨by omega,hr.2.mono (by omega),by simp,by simp⟩ ?_ ?_
 ·rintro j ⟨c5,c6,l7⟩ _ hj ⟨h0,h1,h2,h3⟩
  simp only at h1 h2 h3 ⊢
  unfold z1o
  refine zr (va h1 (by omega) 100 _ ⟨by simp,by simp⟩ (by simp)) fun r1 hr1=>zr (va hr1.2 (by omega) 100 _ ⟨by simp,by simp⟩ (by simp)) fun r2 hr2=>ok_g (by omega) (ym ?_)
  exact ⟨by omega,hr2.2.mono (by omega),by simp; omega,z9n h3 ⟨by have:=hr1.1; simp only; omega,by have:=hr2.1; simp only; omega⟩⟩
 ·rintro ⟨c5,c6,l7⟩ ⟨h0,h1,h2,h3⟩
  simp only at h1 h2 h3 ⊢
  unfold z1p
  exact ym ⟨⟨by simp only; omega,h3⟩,h1.mono (by omega)⟩
theorem y34 {k:Int} {s:zh} (h:SB k s) (hk:k≤10000) (most:Int) (hm:0≤most∧most≤10) :
  Ok (z0v s most) fun r=>hdsP r.1∧SB (k+40) r.2:=by
 have hJ2:∀ (l:List zm) (c:List Int) (a:Int),hdsP l→SB (k+40) (zh.mk c a)→Ok (Qc l c a) fun r=>hdsP r.1∧SB (k+40) r.2:=by
  intro l c a hl hs
  unfold Qc
  exact ym ⟨hl,hs⟩
 have hJ:∀ (l:List zm) (c:List Int) (a:Int),l.length≤11∧(∀ y,y∈l→hdP y)→SB (k+39) (zh.mk c a)→Ok (Qd l c a) fun r=>hdsP r.1∧SB (k+40) r.2:=by
  intro l c a hl hs
  unfold Qd
  refine zr (wm hs (by omega) 60 (by omega)) fun r hr=>yz (fun _=>ok_g (by omega) ?_) (fun _=>hJ2 _ _ _ ⟨by have:=hl.1; omega,hl.2⟩ (hr.mono (by omega)))
  refine z2k (fun j (q:List zm)=>q.length≤11+j∧∀ y,y∈q→hdP y) 51 0 _ ⟨by have:=hl.1; omega,hl.2⟩ ?_ ?_
  ·rintro j q _ hj ⟨h0,h1⟩
   unfold z7c
   exact ok_g (by omega) (ym ⟨by simp; omega,z9n h1 ⟨by simp,by simp⟩⟩)
  ·rintro q ⟨h0,h1⟩
   unfold z7d
   exact hJ2 _ _ _ ⟨by omega,h1⟩ (hr.mono (by omega))
 unfold z0v
 refine zr (z8g h (by omega) most hm) fun r hr=>zr (wm hr.2 (by omega) 10 (by omega)) fun r5 h5=>yz (fun _ => ?_) (fun _ => ?_)
 ·refine zr (y07 h5 (by omega)) fun r8 h8=>zr (y4j h8.2 (by omega)) fun r10 h10=>ok_g (by have:=hr.1.1; omega) ?_
  exact hJ _ _ _ ⟨by have:=hr.1.1; simp; omega,z9n hr.1.2 ⟨by have:=h8.1; simp only; omega,by have:=h10.1; simp only; omega⟩⟩ (h10.2.mono (by omega))
 ·exact hJ _ _ _ ⟨by have:=hr.1.1; omega,hr.1.2⟩ (h5.mono (by omega))
def rqP (r:yv):Prop:=r.Method.length≤100000∧r.Host∈jg∧r.Path.length≤100000∧r.Query.length≤100000∧r.From.length≤100000∧hdsP r.Headers
theorem x08 {k:Int} {s:zh} (h:SB k s) (hk:k≤100000):Ok (z29 s) fun r=>r.1∈jg∧SB (k+1) r.2:=by
 unfold z29
 refine zr (xq _ _ ⟨by omega,by omega,by simp⟩) fun r4 h4 => ?_
 have hl:r4=List.replicate 64 97:=by rw [h4]; decide +kernel
 subst hl
 exact zr (ko h (by omega) _ ⟨by simp,by simp⟩) fun r5 h5=>ym ⟨(show ∀ x,x∈([[97,46,98],[97,46,98],[65,46,66],[115,104,111,112,46,101,120,97,109,112,108,101],[97,46,98,58,56,48],[97,46,98,58,52,52,51],[97,46,98,58,56,48,56,48],[120,45,49,46,121],[49,46,50,46,51,46,52],[],[97,46,46,98],[45,97,46,98],[97,46,98,58,48],[97,46,98,58,48,56],[97,46,98,58,54,53,53,51,54],[97,95,98],[97,46,98,58],[97,32,98],List.replicate 64 97]:List Bs)→x∈jg by decide +kernel) _ h5.1,h5.2⟩
theorem y7j {k:Int} {s:zh} (h:SB k s) (hk:k≤100000):Ok (z26 s) fun r=>r.1∈jg∧SB (k+1) r.2:=by
 unfold z26
 exact zr (ko h (by omega) _ ⟨by simp,by simp⟩) fun r5 h5=>ym ⟨(show ∀ x,x∈([[97,46,98],[97,46,98],[65,46,66],[97,46,98,58,56,48],[99,46,100,58,56,48,56,48]]:List Bs)→x∈jg by decide +kernel) _ h5.1,h5.2⟩
theorem y7i {k:Int} {s:zh} (h:SB k s) (hk:k≤5000):Ok (z25 s) fun r=>rqP r.1∧SB (k+50) r.2:=by
 unfold z25 z1n
 refine zr (Ws h (by omega) _ ⟨by simp,by simp⟩) fun r2 h2=>zr (va h2.2 (by omega) 100 _ ⟨by simp,by simp⟩ (by simp)) fun r4 h4=>zr (y7j h4.2 (by omega)) fun r6 h6=>zr (va h6.2 (by omega) 100 _ ⟨by simp,by simp⟩ (by simp)) fun r8 h8=>zr (va h8.2 (by omega) 100 _ ⟨by simp,by simp⟩ (by simp)) fun r10 h10=>zr (va h10.2 (by omega) 100 _ ⟨by simp,by simp⟩ (by simp)) fun r12 h12=>zr (z8g h12.2 (by omega) 4 (by omega)) fun r14 h14=>zr (wm h14.2 (by omega) 4 (by omega)) fun r16 h16 => ?_
 have a1:=h4.1
 have a2:=h8.1
 have a3:=h10.1
 have a4:=h12.1
 have hq:∀ b:Bs,rqP (yv.mk r2.1 r4.1 r6.1 r8.1 r10.1 r12.1 r14.1 b):=fun b=>⟨by simp only; omega,h6.1,by simp only; omega,by simp only; omega,by simp only; omega,by have:=h14.1.1; simp only; omega,h14.1.2⟩
 refine yz (fun _ => ?_) (fun _=>ym ⟨hq _,h16.mono (by omega)⟩)
 refine zr (xq _ _ ⟨by omega,by omega,by simp⟩) fun r19 _=>zr (ko h16 (by omega) _ ⟨by simp,by simp⟩) fun r21 h21=>ym ⟨hq _,h21.2.mono (by omega)⟩
theorem y7r {k:Int} {s:zh} (h:SB k s) (hk:k≤900):Ok (z28 s) fun r=>rqP r.1∧SB (k+300) r.2:=by
 unfold z28 jw
 refine zr (y7i h (by omega)) fun r2 h2=>zr (wm h2.2 (by omega) 6 (by omega)) fun r4 h4 => ?_
 obtain ⟨⟨p1,p2,p3,p4,p5,p6⟩,_⟩:=h2
 refine yz (fun _ => ?_) (fun _=>ym ⟨⟨p1,p2,p3,p4,p5,p6⟩,h4.mono (by omega)⟩)
 refine zr (uq h4 (by omega) 8 (by omega)) fun r7 h7 => ?_
 refine yz (fun _=>zr (z8r h7.2 (by omega) 0 1000 (by omega)) fun r h=>ym ⟨⟨p1,p2,p3,p4,p5,p6⟩,h.2.mono (by omega)⟩) (fun _ => ?_)
 refine yz (fun _=>zr (y07 h7.2 (by omega)) fun r h=>ym ⟨⟨by have:=h.1; simp only; omega,p2,p3,p4,p5,p6⟩,h.2.mono (by omega)⟩) (fun _ => ?_)
 refine yz (fun _=>zr (x08 h7.2 (by omega)) fun r h=>ym ⟨⟨p1,h.1,p3,p4,p5,p6⟩,h.2.mono (by omega)⟩) (fun _ => ?_)
 refine yz (fun _=>zr (y2c h7.2 (by omega)) fun r h=>ym ⟨⟨p1,p2,h.1,p4,p5,p6⟩,h.2.mono (by omega)⟩) (fun _ => ?_)
 refine yz (fun _=>zr (y17 h7.2 (by omega)) fun r h=>ym ⟨⟨p1,p2,p3,by have:=h.1; simp only; omega,p5,p6⟩,h.2.mono (by omega)⟩) (fun _ => ?_)
 refine yz (fun _=>zr (y4j h7.2 (by omega)) fun r h=>ym ⟨⟨p1,p2,p3,p4,by have:=h.1; simp only; omega,p6⟩,h.2.mono (by omega)⟩) (fun _ => ?_)
 refine yz (fun _=>zr (y34 h7.2 (by omega) 4 (by omega)) fun r h=>ym ⟨⟨p1,p2,p3,p4,p5,h.1⟩,h.2.mono (by omega)⟩) (fun _ => ?_)
 refine zr (Ws h7.2 (by omega) _ ⟨by simp,by simp⟩) fun r h => ?_
 have hm:=h.1
 simp only [List.mem_cons,List.not_mem_nil,or_false] at hm
 exact zr (xq _ _ ⟨by omega,by omega,by simp⟩) fun r32 _=>ym ⟨⟨p1,p2,p3,p4,p5,p6⟩,h.2.mono (by omega)⟩
theorem y7h {k:Int} {s:zh} (h:SB k s) (hk:k≤5000):Ok (z24 s) fun r=>hdsP r.1.Headers∧SB (k+50) r.2:=by
 unfold z24
 exact zr (Ws h (by omega) _ ⟨by simp,by simp⟩) fun r2 h2=>zr (z8g h2.2 (by omega) 3 (by omega)) fun r4 h4=>zr (ko h4.2 (by omega) _ ⟨by simp,by simp⟩) fun r6 h6=>ym ⟨⟨by have:=h4.1.1; simp only; omega,h4.1.2⟩,h6.2.mono (by omega)⟩
theorem y7n {k:Int} {s:zh} (h:SB k s) (hk:k≤4000):Ok (z27 s) fun r=>hdsP r.1.Headers∧SB (k+200) r.2:=by
 unfold z27 Zi
 refine zr (y7h h (by omega)) fun r2 h2=>zr (wm h2.2 (by omega) 8 (by omega)) fun r4 h4 => ?_
 refine yz (fun _ => ?_) (fun _=>ym ⟨h2.1,h4.mono (by omega)⟩)
 refine zr (uq h4 (by omega) 3 (by omega)) fun r7 h7 => ?_
 refine yz (fun _=>zr (z8r h7.2 (by omega) 100 599 (by omega)) fun r h=>ym ⟨h2.1,h.2.mono (by omega)⟩) (fun _ => ?_)
 refine yz (fun _=>zr (y34 h7.2 (by omega) 3 (by omega)) fun r h=>ym ⟨h.1,h.2.mono (by omega)⟩) (fun _ => ?_)
 refine zr (Ws h7.2 (by omega) _ ⟨by simp,by simp⟩) fun r h => ?_
 have hm:=h.1
 simp only [List.mem_cons,List.not_mem_nil,or_false] at hm
 exact zr (xq _ _ ⟨by omega,by omega,by simp⟩) fun r32 _=>ym ⟨h2.1,h.2.mono (by omega)⟩
abbrev lo (s:Bs):Bs:=Lib.toLowerA s
theorem y2y (x:UInt8):(Lib.lowerB x).toNat=if 65≤x.toNat∧x.toNat≤90 then x.toNat+32 else x.toNat:=by
 have:=jr (fun x=>decide ((Lib.lowerB x).toNat=if 65≤x.toNat∧x.toNat≤90 then x.toNat+32 else x.toNat)) (by decide +kernel) x
 exact of_decide_eq_true this
theorem x1i (x y:UInt8):Lib.foldEq x y=decide (Lib.lowerB x=Lib.lowerB y):=by
 unfold Lib.foldEq
 refine decide_eq_decide.2 ?_
 rw [← UInt8.toNat_inj,y2y,y2y]
 split <;> split <;> omega
theorem y4o:∀ a b:Bs,Lib.equalFold a b=decide (lo a=lo b)
 | [],[]=>rfl
 | [],y::t=>by simp [Lib.equalFold,lo,Lib.toLowerA]
 | x::s,[]=>by simp [Lib.equalFold,lo,Lib.toLowerA]
 | x::s,y::t=>by
  have ih:=y4o s t
  show (Lib.foldEq x y && Lib.equalFold s t)=_
  rw [x1i,ih]
  unfold lo Lib.toLowerA
  simp only [List.map_cons,List.cons.injEq]
  by_cases h1:Lib.lowerB x=Lib.lowerB y <;> simp [h1]
theorem z45 {s:Bs} (h:tokB s=true):ascB s=true:=by
 unfold tokB at h
 simp only [Bool.and_eq_true] at h
 unfold ascB
 refine List.all_eq_true.2 fun c hc => ?_
 have h1:=List.all_eq_true.1 h.1 c hc
 have h2:=jr (fun c => !tokL.contains c || decide (c.toNat < 128)) (by decide +kernel) c
 rw [h1] at h2
 simpa using h2
theorem y08 {s:Bs} (h:tokB s=true):s.length≤100:=by
 unfold tokB at h
 simp only [Bool.and_eq_true,decide_eq_true_eq] at h
 omega
def nmB (n:Bs) (h:zm):Bool:=decide (lo h.Name=lo n)
def nmOK (h:zm):Prop:=ascB h.Name=true∧h.Name.length≤100000
theorem y8f (h:zm) (n:Bs) (h1:nmOK h) (h2:ascB n=true):z2q h n=some (nmB n h):=by
 unfold z2q z58
 rw [if_pos ⟨by have:=h1.2; omega,h1.1,h2⟩]
 simp only [Option.bind_some,y4o]
 rfl
theorem x3d (a b:Bs) (ha:ascB a=true∧a.length≤100000) (hb:ascB b=true∧b.length≤100000):z2x a b=some (decide (lo a=lo b)):=by
 unfold z2x vu
 rw [if_pos ⟨by omega,ha.1⟩]
 simp only [Option.bind_some]
 rw [if_pos ⟨by omega,hb.1⟩]
 rfl
theorem z63 {l:List zm} (h:hdsE l=0):∀ x,x∈l→tokB x.Name=true∧fldB x.Value=true:=by
 unfold hdsE at h
 split at h
 ·cases h
 ·have key:∀ (l:List zm) (k:Nat),feI (fun _ h=>hdE h) k l=0→∀ x,x∈l→hdE x=0:=by
   intro l
   induction l with
   | nil=>intro _ _ x hx; cases hx
   | cons y l ih =>
    intro k h x hx
    unfold feI at h
    split at h
    ·rename_i h1; exact absurd h h1
    ·rename_i h1
     rcases List.mem_cons.1 hx with rfl | hx
     ·exact Classical.byContradiction h1
     ·exact ih (k+1) h x hx
  intro x hx
  have h1:=key l 0 h x hx
  unfold hdE at h1
  cases ht:tokB x.Name
  ·rw [ht] at h1; cases h1
  ·cases hf:fldB x.Value
   ·rw [ht,hf] at h1; cases h1
   ·exact ⟨rfl,rfl⟩
theorem z1c {l:List zm} (h:hdsE l=0):l.length≤50:=by
 unfold hdsE at h
 split at h
 ·cases h
 ·omega
theorem y4g {s:Bs} (h:fldB s=true):s.length≤2000:=by
 unfold fldB at h
 simp only [Bool.and_eq_true,decide_eq_true_eq] at h
 omega
end Go.Proofs.YtkldmhhbbceaoaaGreatDoor
