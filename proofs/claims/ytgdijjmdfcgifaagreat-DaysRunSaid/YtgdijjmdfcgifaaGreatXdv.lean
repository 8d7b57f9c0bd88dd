/- Plain: backoffs and budgets: the program and the document agree. -/
import Derived.Test.YtgdijjmdfcgifaaGreatMc
import Derived.Test.YtgdijjmdfcgifaaGreatXdm
namespace Go.Proofs.YtgdijjmdfcgifaaGreat
set_option linter.unusedVariables false
set_option maxRecDepth 20000
section
variable {α β σ ρ:Type}
def Ok (o:Option α) (Q:α→Prop):Prop:=∃ x,o=some x∧Q x
variable {o a b:Option α} {Q Q':α→Prop}
theorem yc {x:α} (h:Q x):Ok (some x) Q:=⟨x,rfl,h⟩
theorem yk {f:α→Option β} {R:β→Prop} (h:Ok o Q) (k:∀ x,Q x→Ok (f x) R):Ok (o.bind f) R:=by
 obtain ⟨x,rfl,hx⟩:=h
 exact k x hx
theorem wi {c:Prop} [Decidable c] (h1:c→Ok a Q) (h2:¬ c→Ok b Q):Ok (if c then a else b) Q:=by
 by_cases h:c
 ·rw [if_pos h]; exact h1 h
 ·rw [if_neg h]; exact h2 h
theorem ok_g {c:Prop} [Decidable c] (hc:c) (h:Ok a Q):Ok (if c then a else none) Q:=by rw [if_pos hc]; exact h
theorem Yo {x:α} (h:Ok o (· = x)):o=some x:=by obtain ⟨y,h1,h2⟩:=h; rw [h1,h2]
theorem y3e {x:α} (h:o=some x) (hq:Q x):Ok o Q:=⟨x,h,hq⟩
def rd (I:σ→Prop) (Q:ρ→Prop):σ ⊕ ρ→Prop
 | .inl s=>I s
 | .inr r=>Q r
theorem kg {body:Nat→α→σ→Option (σ ⊕ ρ)} {fin:σ→Option ρ} {R:ρ→Prop} (I:Nat→σ→Prop):∀ (l:List α) (k:Nat) (s:σ),I k s →
  (∀ j x s,k≤j→l[j - k]?=some x→I j s→Ok (body j x s) (rd (I (j+1)) R))→(∀ s,I (k+l.length) s→Ok (fin s) R)→Ok (forL body fin k l s) R
 | [],k,s,h0,hs,hf=>hf s h0
 | x::l,k,s,h0,hs,hf=>by
  refine yk (hs k x s (Nat.le_refl _) (by simp) h0) fun q hq => ?_
  cases q with
  | inl s' =>
   refine kg I l (k+1) s' hq (fun j y s hj hy hi=>hs j y s (by omega) ?_ hi) (fun s hi=>hf s ?_)
   ·obtain ⟨m,hm⟩:∃ m,j - k=m+1:=⟨j - k - 1,by omega⟩
    rw [hm,List.getElem?_cons_succ]
    have:j - (k+1)=m:=by omega
    rw [this] at hy; exact hy
   ·simp only [List.length_cons]
    have:k+(l.length+1)=k+1+l.length:=by omega
    rw [this]; exact hi
  | inr r=>exact ⟨r,rfl,hq⟩
theorem z55 {body:Nat→σ→Option (σ ⊕ ρ)} {fin:σ→Option ρ} {R:ρ→Prop} (I:Nat→σ→Prop):∀ (n k:Nat) (s:σ),I k s →
  (∀ j s,k≤j→j < k+n→I j s→Ok (body j s) (rd (I (j+1)) R))→(∀ s,I (k+n) s→Ok (fin s) R)→Ok (rng body fin n k s) R
 | 0,k,s,h0,hs,hf=>hf s h0
 | n+1,k,s,h0,hs,hf=>by
  refine yk (hs k s (Nat.le_refl _) (by omega) h0) fun q hq => ?_
  cases q with
  | inl s'=>exact z55 I n (k+1) s' hq (fun j s hj hy hi=>hs j s (by omega) (by omega) hi) (fun s hi=>hf s (by rw [show k+(n+1)=k+1+n by omega]; exact hi))
  | inr r=>exact ⟨r,rfl,hq⟩
theorem x6p {body:σ→Option (σ ⊕ ρ)} {R:ρ→Prop} (I:σ→Prop) (μ:σ→Nat) (step:∀ s,I s→Ok (body s) (rd (fun s'=>I s'∧μ s' < μ s) R)) (s:σ) (h:I s):Ok (iter body s) R:=by
 have key:∀ n s,μ s < n→I s→Ok (iter body s) R:=by
  intro n
  induction n with
  | zero=>intro s h; omega
  | succ n ih =>
   intro s hn hi
   rw [y9t]
   refine yk (step s hi) fun q hq => ?_
   cases q with
   | inl s'=>exact ih s' (by have:=hq.2; omega) hq.1
   | inr r=>exact ⟨r,rfl,hq⟩
 exact key _ s (Nat.lt_succ_self _) h
end

section
variable {α ρ:Type}
def allI (p:Nat→α→Bool):Nat→List α→Bool
 | _,[]=>true
 | k,x::l=>p k x && allI p (k+1) l
theorem z7q {body:Nat→α→Unit→Option (Unit ⊕ ρ)} {fin:Unit→Option ρ} {p:Nat→α→Bool} {e r0:ρ} (hf:fin ()=some e):∀ (l:List α) (k:Nat),(∀ j x,k≤j→l[j - k]?=some x→body j x ()=if p j x then some (.inl ()) else some (.inr r0))→forL body fin k l ()=some (if allI p k l then e else r0)
 | [],k,h=>by simp only [forL,allI,if_true]; exact hf
 | x::l,k,h=>by
  have h1:=h k x (Nat.le_refl _) (by simp)
  show (body k x ()).bind _=_
  rw [h1]
  cases hp:p k x
  ·simp [allI,hp,after]
  ·simp only [allI,hp,Bool.true_and,if_true,Option.bind_some,after]
   refine z7q hf l (k+1) fun j y hj hy=>h j y (by omega) ?_
   obtain ⟨m,hm⟩:∃ m,j - k=m+1:=⟨j - k - 1,by omega⟩
   rw [hm,List.getElem?_cons_succ]
   have:j - (k+1)=m:=by omega
   rw [this] at hy; exact hy
def feI (e:Nat→α→Int):Nat→List α→Int
 | _,[]=>0
 | k,x::l=>if e k x≠0 then e k x else feI e (k+1) l
theorem y08 {body:Nat→α→Unit→Option (Unit ⊕ Int)} {fin:Unit→Option Int} {e:Nat→α→Int} (hf:fin ()=some 0):∀ (l:List α) (k:Nat),(∀ j x,k≤j→l[j - k]?=some x→body j x ()=if e j x≠0 then some (.inr (e j x)) else some (.inl ()))→forL body fin k l ()=some (feI e k l)
 | [],k,h=>by simp only [forL,feI]; exact hf
 | x::l,k,h=>by
  have h1:=h k x (Nat.le_refl _) (by simp)
  show (body k x ()).bind _=_
  rw [h1]
  by_cases hp:e k x≠0
  ·simp [feI,hp,after]
  ·simp only [feI,hp,if_false,Option.bind_some,after]
   refine y08 hf l (k+1) fun j y hj hy=>h j y (by omega) ?_
   obtain ⟨m,hm⟩:∃ m,j - k=m+1:=⟨j - k - 1,by omega⟩
   rw [hm,List.getElem?_cons_succ]
   have:j - (k+1)=m:=by omega
   rw [this] at hy; exact hy
end

def leB (a b:Bs):Bool:=Op.bytesLess a b || a == b
def outP (n lo hi:Int):Bool:=decide (n < lo) || decide (hi < n)
theorem z9m (n lo hi:Int):outP n lo hi = !(decide (lo≤n) && decide (n≤hi)):=by
 unfold outP
 by_cases h1:n < lo
 ·have:¬ lo≤n:=by omega
  simp [h1,this]
 ·have h1':lo≤n:=by omega
  by_cases h2:hi < n
  ·have:¬ n≤hi:=by omega
   simp [h1',h2,this]
  ·have:n≤hi:=by omega
   simp [h1,h1',h2,this]
theorem x1z {n:Int} (h:0≤n∧n≤18446744073709551615):IntKind.wrap .u64 n=n:=by
 unfold IntKind.wrap
 simp [IntKind.bits,IntKind.signed]
 omega
theorem w0i {m:Int} (h:0≤m∧m≤1000000000):IntKind.wrap .i64 (shr_ .u64 (IntKind.wrap .u64 (wr m)) 1)=m / 2:=by
 rw [qy (n:=m) (by omega),x1z (by omega)]
 have e1:shr_ .u64 m 1=m / 2:=by
  show m.fdiv (2 ^ (min (1:Int).toNat IntKind.u64.bits))=_
  have:min (1:Int).toNat IntKind.u64.bits=1:=by decide
  rw [this]
  rw [Int.fdiv_eq_ediv_of_nonneg _ (by decide)]
  rfl
 rw [e1]
 exact qy (by omega)

theorem x7m (a b:Bs) (h:leB a b=false):cmpL b a < 0:=by
 unfold leB at h
 rw [y3v] at h
 simp at h
 have h1:=x0t a b
 have h2:=y4l a b
 have h3:=(Zv a b)
 have:cmpL a b≠0:=fun h0=>h.2 (h3.1 h0)
 omega

section
variable {α β:Type}
theorem w2e (q:α→Bool):∀ (l:List α) (k:Nat),allI (fun _ x=>q x) k l=l.all q
 | [],k=>rfl
 | x::l,k=>by simp only [allI,List.all_cons,w2e q l (k+1)]
theorem x3u (l:List α) (k:Nat) (h:k≤l.length):sub? l 0 (k:Int)=some (l.take k):=by
 unfold sub?
 rw [if_pos (by omega)]
 simp
def gIdx (l:List α) (p:α→Option Bool):Option Int:=if l.length≤1000000000 then forL (fun (k:Nat) (x:α) (s:Unit)=>(p x).bind fun r=>if r then (some (.inr (k:Int))) else (some (.inl ()))) (fun _=>some (-1)) 0 l () else none
def fdx (q:α→Bool):Nat→List α→Int
 | _,[]=>-1
 | k,x::l=>if q x then (k:Int) else fdx q (k+1) l
theorem w0p (l:List α) {p:α→Option Bool} (q:α→Bool) (hl:l.length≤1000000000) (hp:∀ x,x∈l→p x=some (q x)):gIdx l p=some (fdx q 0 l):=by
 unfold gIdx
 rw [if_pos hl]
 have:∀ (l:List α) (k:Nat),(∀ x,x∈l→p x=some (q x))→forL (fun (k:Nat) (x:α) (s:Unit)=>(p x).bind fun r=>if r then (some (.inr (k:Int))) else (some (.inl ()))) (fun _=>some (-1)) k l ()=some (fdx q k l):=by
  intro l
  induction l with
  | nil=>intro k _; rfl
  | cons x l ih =>
   intro k hp
   have h1:=hp x (by simp)
   show Option.bind ((p x).bind _) _=_
   rw [h1]
   cases hq:q x
   ·simp only [Option.bind_some,after,fdx,hq,if_false,Bool.false_eq_true]
    exact ih (k+1) fun y hy=>hp y (List.mem_cons_of_mem _ hy)
   ·simp [after,fdx,hq]
 exact this l 0 hp
theorem y4e (q:α→Bool):∀ (l:List α) (k:Nat),(fdx q k l < 0↔l.any q=false)∧(0≤fdx q k l→(k:Int)≤fdx q k l∧∃ x,l[(fdx q k l).toNat - k]?=some x∧q x=true)
 | [],k=>⟨by simp [fdx],fun h=>by simp [fdx] at h⟩
 | x::l,k=>by
  obtain ⟨h1,h2⟩:=y4e q l (k+1)
  cases hq:q x
  ·simp only [fdx,hq,if_false,Bool.false_eq_true,List.any_cons,Bool.false_or]
   refine ⟨h1,fun h => ?_⟩
   obtain ⟨h3,y,h4,h5⟩:=h2 h
   refine ⟨by omega,y,?_,h5⟩
   have:(fdx q (k+1) l).toNat - k=((fdx q (k+1) l).toNat - (k+1))+1:=by omega
   rw [this,List.getElem?_cons_succ]; exact h4
  ·simp only [fdx,hq,if_true,List.any_cons,Bool.true_or]
   refine ⟨by simp,fun _=>⟨by omega,x,by simp,hq⟩⟩
theorem w00 (q:α→Bool) (l:List α):decide (fdx q 0 l < 0) = !l.any q:=by
 have h:=(y4e q l 0).1
 cases hq:l.any q
 ·rw [hq] at h; simpa using h
 ·rw [hq] at h; simpa using h
theorem x0i (q:α→Bool) (l:List α):decide (0≤fdx q 0 l)=l.any q:=by
 have h:=w00 q l
 cases hq:l.any q
 ·rw [hq] at h; simp at h ⊢; omega
 ·rw [hq] at h; simp at h ⊢; omega
theorem w01 (q:α→Bool) (l:List α) (h:l.any q=true):0≤fdx q 0 l∧∃ x,at? l (fdx q 0 l)=some x∧l[(fdx q 0 l).toNat]?=some x∧q x=true:=by
 have h1:=x0i q l
 rw [h] at h1
 have h2:0≤fdx q 0 l:=by simpa using h1
 obtain ⟨_,x,h3,h4⟩:=(y4e q l 0).2 h2
 have h3:l[(fdx q 0 l).toNat]?=some x:=by simpa using h3
 exact ⟨h2,x,by unfold at?; rw [if_pos h2]; exact h3,h3,h4⟩
def gCon (l:List α) (p:α→Option Bool):Option Bool:=(gIdx l p).bind fun r=>some (decide (0≤r))
theorem y94 (l:List α) {p:α→Option Bool} (q:α→Bool) (hl:l.length≤1000000000) (hp:∀ x,x∈l→p x=some (q x)):gCon l p=some (l.any q):=by
 unfold gCon
 rw [w0p l q hl hp]
 simp only [Option.bind_some,x0i]
def x1j (f:α→Bs) (l:List α):Prop:=l.Pairwise fun x y=>cmpL (f x) (f y) < 0
theorem y7k {f:α→Bs} {xs:List α} (h:x1j f xs) {i j:Nat} {x y:α} (hi:xs[i]?=some x) (hj:xs[j]?=some y) (hij:i < j):cmpL (f x) (f y) < 0:=by
 obtain ⟨h1,e1⟩:=List.getElem?_eq_some_iff.1 hi
 obtain ⟨h2,e2⟩:=List.getElem?_eq_some_iff.1 hj
 have:=List.pairwise_iff_getElem.1 h i j h1 h2 hij
 rw [e1,e2] at this
 exact this
theorem w0z {f:α→Bs} {xs:List α} (h:x1j f xs) {key:Bs} {i:Nat} {x:α} (hi:xs[i]?=some x) (hk:f x=key):fdx (fun y=>decide (f y=key)) 0 xs=(i:Int):=by
 have hany:(xs.any fun y=>decide (f y=key))=true:=List.any_eq_true.2 ⟨x,List.mem_of_getElem? hi,by simpa using hk⟩
 obtain ⟨h1,y,_,h2,h3⟩:=w01 _ xs hany
 have h3:f y=key:=by simpa using h3
 rcases Nat.lt_trichotomy (fdx (fun y=>decide (f y=key)) 0 xs).toNat i with hq | hq | hq
 ·have:=y7k h h2 hi hq
  rw [h3,hk,(Zv key key).2 rfl] at this; omega
 ·omega
 ·have:=y7k h hi h2 hq
  rw [h3,hk,(Zv key key).2 rfl] at this; omega
end
def SB (n:Int) (s:zr):Prop:=0≤s.at_∧s.at_≤n
theorem SB.mono {n m:Int} {s:zr} (h:SB n s) (hm:n≤m):SB m s:=⟨h.1,by have:=h.2; omega⟩

theorem y4v (x n:Int) (hn:n≤1000000000000000):Ok (z1y x n) fun r=>0≤r∧(1≤n→r < n)∧(n < 1→r=0):=by
 unfold z1y z4p
 refine wi (fun h=>yc ?_) (fun h=>ok_g ?_ (wi (fun h2=>yc ?_) (fun h2=>yc ?_)))
 ·simp at h; omega
 ·simp at h; omega
 ·simp at h h2
  have h3:=Int.tmod_lt_of_pos x (show 0 < n by omega)
  have h4:-n < x.tmod n:=by
   have:=Int.lt_tmod_of_pos x (show 0 < n by omega)
   omega
  rw [qy (by omega)]
  omega
 ·simp at h h2
  have h3:=Int.tmod_lt_of_pos x (show 0 < n by omega)
  omega
theorem z0k {k:Int} {s:zr} (h:SB k s) (hk:k≤1000000000) (n:Int) (hn:n≤1000000000000000) :
  Ok (Zd s n) fun r=>(0≤r.1∧(1≤n→r.1 < n)∧(n < 1→r.1=0))∧SB (k+1) r.2:=by
 obtain ⟨h1,h2⟩:=h
 have e1:wr (s.at_+1)=s.at_+1:=qy (by omega)
 have e2:wr (s.at_+1 - 1)=s.at_:=by rw [qy (by omega)]; omega
 unfold Zd
 simp only [e1,e2]
 refine wi (fun h => ?_) (fun h => ?_)
 ·exact yk (y4v _ n hn) fun r hr=>yc ⟨hr,by simp only [SB]; omega⟩
 ·simp at h
  have hL:0 < s.L.length:=by cases hq:s.L with | nil=>exact absurd hq h | cons _ _=>simp
  refine ok_g (by omega) (ok_g ⟨by omega,by omega⟩ ?_)
  have hi:0≤s.at_.tmod (s.L.length:Int):=Int.tmod_nonneg _ h1
  have hi2:=Int.tmod_lt_of_pos s.at_ (show (0:Int) < s.L.length by omega)
  have hat:Ok (at? s.L (s.at_.tmod (s.L.length:Int))) fun _=>True:=by
   unfold at?
   rw [if_pos hi,List.getElem?_eq_getElem (by omega)]
   exact ⟨_,rfl,trivial⟩
  refine yk hat fun x _=>yk (y4v _ _ (by omega)) fun r _=>yk (y4v _ n hn) fun r hr=>yc ⟨hr,by simp only [SB]; omega⟩
section
variable {k:Int} {s:zr} (h:SB k s) (hk:k≤100000000)
include h hk
theorem Yz (n:Int) (hn:n≤1000000000000000):Ok (xj s n) fun r=>SB (k+1) r.2:=by
 unfold xj
 exact yk (z0k h (by omega) n hn) fun r hr=>yc hr.2
theorem kf (l:List Int) (hl:l≠[]∧l.length≤1000):Ok (ji s l) fun r=>r.1∈l∧SB (k+1) r.2:=by
 unfold ji
 have hp:0 < l.length:=by cases hq:l with | nil=>exact absurd hq hl.1 | cons _ _=>simp
 refine yk (z0k h (by omega) _ (by omega)) fun r hr => ?_
 have h1:=hr.1.2.1 (by omega)
 have hat:Ok (at? l r.1) fun x=>x∈l:=by
  unfold at?
  rw [if_pos hr.1.1,List.getElem?_eq_getElem (by omega)]
  exact ⟨_,rfl,List.getElem_mem _⟩
 exact yk hat fun x hx=>yc ⟨hx,hr.2⟩
theorem y2o (l:List Bs) (hl:l≠[]∧l.length≤1000):Ok (z1w s l) fun r=>r.1∈l∧SB (k+1) r.2:=by
 unfold z1w
 have hp:0 < l.length:=by cases hq:l with | nil=>exact absurd hq hl.1 | cons _ _=>simp
 refine yk (z0k h (by omega) _ (by omega)) fun r hr => ?_
 have h1:=hr.1.2.1 (by omega)
 have hat:Ok (at? l r.1) fun x=>x∈l:=by
  unfold at?
  rw [if_pos hr.1.1,List.getElem?_eq_getElem (by omega)]
  exact ⟨_,rfl,List.getElem_mem _⟩
 exact yk hat fun x hx=>yc ⟨hx,hr.2⟩
theorem y3a (lo hi:Int) (hr:-1000000000000≤lo∧lo≤hi∧hi≤1000000000000):Ok (z1x s lo hi) fun r=>(lo≤r.1∧r.1≤hi)∧SB (k+1) r.2:=by
 unfold z1x
 refine wi (fun h=>absurd h (by simp; omega)) (fun _ => ?_)
 have e1:wr (wr (hi - lo)+1)=hi - lo+1:=by rw [qy (n:=hi - lo) (by omega),qy (by omega)]
 rw [e1]
 refine yk (z0k h (by omega) _ (by omega)) fun r hr2=>yc ?_
 have h1:=hr2.1.2.1 (by omega)
 have h2:=hr2.1.1
 simp only
 rw [qy (by omega)]
 exact ⟨by omega,hr2.2⟩
end
theorem uf {k:Int} {s:zr} (h:SB k s) (hk:k≤10000000) (lo hi:Int) (hr:-1000000000000≤lo∧lo≤hi∧hi≤1000000000000):Ok (jw s lo hi) fun r=>(-2000000000000≤r.1∧r.1≤2000000000000)∧SB (k+2) r.2:=by
 unfold jw
 refine yk (Yz h (by omega) 12 (by omega)) fun r hr2=>wi (fun _ => ?_) (fun _ => ?_)
 ·refine yk (kf hr2 (by omega) _ ⟨by simp,by simp⟩) fun r3 hr3=>yc ⟨?_,hr3.2.mono (by omega)⟩
  have hm:=hr3.1
  rw [qy (n:=lo - 1) (by omega),qy (n:=hi+1) (by omega)] at hm
  simp only [List.mem_cons,List.not_mem_nil,or_false] at hm
  simp only
  omega
 ·exact yk (y3a hr2 (by omega) lo hi hr) fun r3 hr3=>yc ⟨by simp only; omega,hr3.2.mono (by omega)⟩
def kc (i:Nat) (c:UInt8):Bool:=((decide (97≤(c.toNat:Int))) && (decide ((c.toNat:Int)≤122))) || ((decide (0 < (i:Int))) && ((((decide (48≤(c.toNat:Int))) && (decide ((c.toNat:Int)≤57))) || (decide ((c.toNat:Int)=45))) || (decide ((c.toNat:Int)=95))))
def keyP (s:Bs):Bool:=allI kc 0 s && (decide (s≠[]) && decide ((s.length:Int)≤40))
theorem y9w (s:Bs) (h:s.length≤1000000000):z3v s=some (keyP s):=by
 unfold z3v
 rw [if_pos h,z7q (p:=kc) (r0:=false) (e:=(decide (s≠[])) && (decide ((s.length:Int)≤40))) rfl s 0]
 ·congr 1
  unfold keyP
  cases allI kc 0 s <;> simp
 ·intro j x _ _
  unfold y0l
  show (if (!kc j x)=true then _ else _)=_
  cases kc j x <;> simp
def z5t:Bs:=[97,98,99,100,101,102,103,104,105,106,107,108,109,110,111,112,113,114,115,116,117,118,119,120,121,122]
def z7h:Bs:=[97,98,99,100,101,102,103,104,105,106,107,108,109,110,111,112,113,114,115,116,117,118,119,120,121,122,48,49,50,51,52,53,54,55,56,57,45,95]
theorem y5k (p:UInt8→Bool) (h:((List.range 256).all fun n=>p (UInt8.ofNat n))=true) (c:UInt8):p c=true:=by
 have:=List.all_eq_true.1 h c.toNat (by simp; exact c.toNat_lt)
 simpa using this
theorem x5e (c:UInt8):z5t.contains c=kc 0 c:=by
 have:=y5k (fun c=>z5t.contains c == kc 0 c) (by decide +kernel) c
 simpa using this
theorem x8c (c:UInt8):z7h.contains c=kc 1 c:=by
 have:=y5k (fun c=>z7h.contains c == kc 1 c) (by decide +kernel) c
 simpa using this
theorem x8d (k:Nat) (c:UInt8):kc (k+1) c=kc 1 c:=by
 unfold kc
 have:decide (0 < ((k+1:Nat):Int))=decide (0 < ((1:Nat):Int)):=by
  rw [decide_eq_true (by omega),decide_eq_true (by omega)]
 rw [this]
theorem x8g (c:UInt8) (h:kc 0 c=true):kc 1 c=true:=by unfold kc at *; simp at h ⊢; exact .inl h
theorem w2f (s:Bs):∀ k,allI kc (k+1) s=s.all fun c=>kc 1 c:=by
 induction s with
 | nil=>intro k; rfl
 | cons c s ih=>intro k; simp only [allI,List.all_cons,x8d,ih]
theorem y8a (s so:Bs) (h:s.length≤1000000000):z3w s so=some (s.all fun c=>so.contains c):=by
 unfold z3w
 rw [if_pos h,z7q (p:=fun _ c=>so.contains c) (r0:=false) (e:=true) rfl s 0]
 ·congr 1
  have:∀ (l:Bs) k,allI (fun _ c=>so.contains c) k l=l.all fun c=>so.contains c:=by
   intro l
   induction l with
   | nil=>intro k; rfl
   | cons c l ih=>intro k; simp only [allI,List.all_cons,ih]
  rw [this]
  cases (s.all fun c=>so.contains c) <;> rfl
 ·intro j x _ _
  unfold y0m y3o
  simp only [Option.bind_some]
  have e1:((x.toNat:Int)).toNat.toUInt8=x:=by simp
  rw [e1,Lib.contains_iff_indexByte]
  by_cases hq:Lib.indexByte so x < 0
  ·have:¬ 0≤Lib.indexByte so x:=by omega
   simp [hq,this]
  ·have:0≤Lib.indexByte so x:=by omega
   simp [hq,this]
theorem y9d (s:Bs) (h:s.length≤1000000000):z31 s=some (keyP s):=by
 unfold z31 vy z18
 simp only [Option.bind_some]
 cases s with
 | nil=>simp [keyP]
 | cons c r =>
  by_cases h1:((c::r).length:Int)≤40
  ·have h2:(decide ((1:Int)≤((c::r).length:Int)) && decide (((c::r).length:Int)≤40))=true:=by simp only [List.length_cons] at h1 ⊢; simp; omega
   rw [if_pos h2]
   have h3:sub? (c::r) 0 1=some [c]:=by
    unfold sub?
    rw [if_pos (by simp only [List.length_cons]; omega)]
    rfl
   rw [h3]
   have e1:=y8a [c] z5t (by simp)
   have e2:=y8a (c::r) z7h h
   simp only [z5t,z7h] at e1 e2
   simp only [Option.bind_some,e1,e2]
   have e3:(List.all [c] fun c=>List.contains [97,98,99,100,101,102,103,104,105,106,107,108,109,110,111,112,113,114,115,116,117,118,119,120,121,122] c)=kc 0 c:=by
    have:=x5e c
    simp only [z5t] at this
    simp only [List.all_cons,List.all_nil,Bool.and_true,this]
   have e4:(List.all (c::r) fun c=>List.contains [97,98,99,100,101,102,103,104,105,106,107,108,109,110,111,112,113,114,115,116,117,118,119,120,121,122,48,49,50,51,52,53,54,55,56,57,45,95] c)=(kc 1 c && r.all fun c=>kc 1 c):=by
    have:=x8c
    simp only [z7h] at this
    simp only [List.all_cons,this]
   rw [e3,e4]
   have e5:keyP (c::r)=(kc 0 c && r.all fun c=>kc 1 c):=by
    unfold keyP
    simp only [allI,w2f,Nat.zero_add]
    have:decide (((c::r).length:Int)≤40)=true:=by simpa using h1
    rw [this]; simp
   rw [e5]
   cases hk:kc 0 c
   ·simp
   ·rw [x8g c hk]; simp
  ·have h2:(decide ((1:Int)≤((c::r).length:Int)) && decide (((c::r).length:Int)≤40))=false:=by
    have:decide (((c::r).length:Int)≤40)=false:=by simpa using h1
    rw [this]; simp
   rw [h2]
   have:decide (((c::r).length:Int)≤40)=false:=by simpa using h1
   have e5:keyP (c::r)=false:=by unfold keyP; rw [this]; simp
   rw [e5]; rfl

theorem x7l {a:Bs} (h:keyP a=true):leB a []=false:=by
 cases a with
 | nil=>simp [keyP] at h
 | cons c r=>simp [leB,Op.bytesLess]
def momP (n:Int):Bool:=decide (0≤n) && decide (n≤345686399999)
theorem x6v (n:Int):y0b n=some (momP n):=rfl
theorem z3h (n lo hi:Int):jv n lo hi=some (outP n lo hi):=rfl
theorem z4a (n lo hi:Int):vy n lo hi=some (!outP n lo hi):=by
 unfold vy
 rw [z9m,Bool.not_not]

structure InsB (xs:List zl):Prop where
 len:xs.length≤1000
 key:∀ x,x∈xs→x.Key.length≤1000
def ci3 (a b c:Bool):Int:=if (!a)=true then 5 else if b=true then 7 else if c=true then 1 else 0
theorem y4n {σ:Type} (u:σ) (a b c:Bool):(if (!a)=true then some (.inr 5) else if b=true then some (.inr 7) else if c=true then some (.inr 1) else some (.inl u):Option (σ ⊕ Int))=if ci3 a b c≠0 then some (.inr (ci3 a b c)) else some (.inl u):=by
 cases a <;> cases b <;> cases c <;> rfl
def ci1 (x:zl) (late:Bool):Int:=ci3 (keyP x.Key) late (outP x.Weight 1 100)
def ciR:List zl→Bs→Int
 | [],_=>0
 | x::l,last=>if ci1 x (leB x.Key last)≠0 then ci1 x (leB x.Key last) else ciR l x.Key
def ciF (xs:List zl):Int:=if 50 < xs.length then 2 else ciR xs []
theorem w0e (xs:List zl) (h:InsB xs):z6v xs=some (ciF xs):=by
 unfold z6v ciF
 by_cases h1:50 < xs.length
 ·rw [if_pos (by simp; omega),if_pos h1]
 ·rw [if_neg (by simp; omega),if_neg h1,if_pos (by have:=h.len; omega)]
  have key:∀ (l:List zl) (k:Nat) (last:Bs),(∀ x,x∈l→x.Key.length≤1000)→forL (fun (k:Nat) (x:zl) (s:Bs)=>z19 k x s) (fun (s:Bs)=>y0u s) k l last=some (ciR l last):=by
   intro l
   induction l with
   | nil=>intro k last _; rfl
   | cons x l ih =>
    intro k last hl
    have hx:=y9d x.Key (by have:=hl x (by simp); omega)
    show (z19 k x last).bind _=_
    have hb:z19 k x last=if ci1 x (leB x.Key last)≠0 then some (.inr (ci1 x (leB x.Key last))) else some (.inl x.Key):=by
     unfold z19 vy ci1
     rw [hx,z9m]
     simp only [Option.bind_some,leB]
     exact y4n _ _ _ _
    rw [hb]
    simp only [ciR]
    by_cases hc:ci1 x (leB x.Key last)≠0
    ·simp only [hc,if_true,ne_eq,not_false_eq_true,Option.bind_some,after]
    ·simp only [hc,if_false,Option.bind_some,after]
     exact ih (k+1) x.Key fun y hy=>hl y (List.mem_cons_of_mem _ hy)
  exact key xs 0 [] h.key
theorem x00 (xs:List zl) (h:InsB xs):z1s xs=some (ciF xs):=by
 unfold z1s ciF
 by_cases h1:50 < xs.length
 ·rw [if_pos (by simp; omega),if_pos h1]
 ·rw [if_neg (by simp; omega),if_neg h1,if_pos (by have:=h.len; omega)]
  have key:∀ (l:List zl) (k:Nat) (last:Bs),xs.drop k=l→(k=0→last=[])→(0 < k→∃ y,xs[k - 1]?=some y∧y.Key=last)→forL (fun (k:Nat) (x:zl) (s:Unit)=>z04 xs k x) (fun (s:Unit)=>z78) k l ()=some (ciR l last):=by
   intro l
   induction l with
   | nil=>intro k last _ _ _; rfl
   | cons x l ih =>
    intro k last hd h0 hp
    obtain ⟨d1,d2,d3⟩:=y1b hd
    have hx:=y9w x.Key (by have:=h.key x (List.mem_of_getElem? d2); omega)
    show (z04 xs k x).bind _=_
    have hb:z04 xs k x=if ci1 x (leB x.Key last)≠0 then some (.inr (ci1 x (leB x.Key last))) else some (.inl ()):=by
     unfold z04 z2q jv ci1
     rw [hx]
     simp only [Option.bind_some]
     cases hk:keyP x.Key
     ·rfl
     ·by_cases hk0:0 < k
      ·obtain ⟨y,hy,rfl⟩:=hp hk0
       have e1:at? xs ((k:Int) - 1)=some y:=by
        rw [show (k:Int) - 1=((k - 1:Nat):Int) by omega,vz]; exact hy
       have e2:decide (0 < (k:Int))=true:=by simpa using hk0
       simp only [e2,if_true,e1,Option.bind_some,leB,outP]
       exact y4n _ true _ _
      ·have hk1:k=0:=by omega
       subst hk1
       rw [h0 rfl,x7l hk,if_neg (by simp)]
       simp only [outP]
       exact y4n _ true false _
    rw [hb]
    simp only [ciR]
    by_cases hc:ci1 x (leB x.Key last)≠0
    ·simp only [hc,if_true,ne_eq,not_false_eq_true,Option.bind_some,after]
    ·simp only [hc,if_false,Option.bind_some,after]
     exact ih (k+1) x.Key d3 (by omega) fun _=>⟨x,by simpa using d2,rfl⟩
  exact key xs 0 [] rfl (fun _=>rfl) (fun h=>by omega)
def Srt (xs:List zl):Prop:=xs.Pairwise fun x y=>cmpL x.Key y.Key < 0
theorem x0v:∀ (l:List zl) (last:Bs),ciR l last=0→Srt l∧∀ x,x∈l→cmpL last x.Key < 0
 | [],last,_=>⟨List.Pairwise.nil,fun x h=>by cases h⟩
 | x::l,last,h=>by
  simp only [ciR] at h
  by_cases hc:ci1 x (leB x.Key last)≠0
  ·rw [if_pos hc] at h; exact absurd h hc
  ·rw [if_neg hc] at h
   have hc':ci1 x (leB x.Key last)=0:=by omega
   have hl:leB x.Key last=false:=by
    unfold ci1 ci3 at hc'
    cases hk:keyP x.Key
    ·rw [hk] at hc'; simp at hc'
    ·cases hq:leB x.Key last
     ·rfl
     ·rw [hk,hq] at hc'; simp at hc'
   have h1:=x7m _ _ hl
   obtain ⟨h2,h3⟩:=x0v l x.Key h
   refine ⟨List.Pairwise.cons h3 h2,fun y hy => ?_⟩
   rcases List.mem_cons.1 hy with rfl | hy
   ·exact h1
   ·exact z7t _ _ _ h1 (h3 y hy)
theorem x0w {xs:List zl} (h:ciF xs=0):Srt xs:=by
 unfold ciF at h
 split at h
 ·omega
 ·exact (x0v xs [] h).1
theorem z5s {xs:List zl} (h:Srt xs) {i j:Nat} {x y:zl} (hi:xs[i]?=some x) (hj:xs[j]?=some y) (hij:i < j):cmpL x.Key y.Key < 0:=by
 obtain ⟨h1,e1⟩:=List.getElem?_eq_some_iff.1 hi
 obtain ⟨h2,e2⟩:=List.getElem?_eq_some_iff.1 hj
 have:=List.pairwise_iff_getElem.1 h i j h1 h2 hij
 rw [e1,e2] at this
 exact this
def hasK (xs:List zl) (key:Bs):Bool:=xs.any fun x=>decide (x.Key=key)
theorem z4b {xs:List zl} {key:Bs}:hasK xs key=true↔∃ (i:Nat) (x:zl),xs[i]?=some x∧x.Key=key:=by
 unfold hasK
 rw [List.any_eq_true]
 constructor
 ·rintro ⟨x,hx,hk⟩
  obtain ⟨i,hi,rfl⟩:=List.mem_iff_getElem.1 hx
  exact ⟨i,xs[i],List.getElem?_eq_getElem hi,by simpa using hk⟩
 ·rintro ⟨i,x,hx,hk⟩
  exact ⟨x,List.mem_of_getElem? hx,by simpa using hk⟩
theorem w0a (xs:List zl) (key:Bs) (h:xs.length≤1000):Ok (z6w xs key) fun r=>decide (r < 0) = !hasK xs key:=by
 unfold z6w z92
 refine yk (Q:=fun r=>decide (r < 0) = !hasK xs key) ?_ fun r hr=>yc hr
 refine ok_g (by omega) ?_
 have key':∀ (l:List zl) (k:Nat),Ok (forL (fun (k:Nat) (x:zl) (s:Unit)=>Qt (fun (a0:zl)=>z0l a0 key) k x) (fun (s:Unit)=>z87) k l ()) fun r=>decide (r < 0) = !hasK l key:=by
  intro l
  induction l with
  | nil=>intro k; exact yc (by simp [hasK])
  | cons x l ih =>
   intro k
   by_cases hx:x.Key=key
   ·refine y3e (x:=(k:Int)) ?_ ?_
    ·show (Qt _ k x).bind _=_
     simp [Qt,z0l,hx,after]
    ·simp [hasK,hx]
   ·have e1:hasK (x::l) key=hasK l key:=by simp [hasK,hx]
    rw [e1]
    have e2:Qt (fun (a0:zl)=>z0l a0 key) k x=some (.inl ()):=by
     simp [Qt,z0l,hx]
    show Ok ((Qt _ k x).bind _) _
    rw [e2]
    exact ih (k+1)
 exact key' xs 0
theorem x6a (xs:List zl) (key:Bs) (h:xs.length≤1000) (hs:Srt xs) :
  Ok (z59 xs key) fun r=>r.2=hasK xs key∧(r.2=true→0≤r.1∧∃ x,xs[r.1.toNat]?=some x∧x.Key=key):=by
 unfold z59 z97
 refine yk (Q:=fun r=>r.2=hasK xs key∧(r.2=true→0≤r.1∧∃ x,xs[r.1.toNat]?=some x∧x.Key=key)) ?_ fun r hr=>yc hr
 refine x6p (fun s:Int×Int=>0≤s.1∧s.1≤s.2∧s.2≤(xs.length:Int)∧(∀ (i:Nat) x,(i:Int) < s.1→xs[i]?=some x→cmpL x.Key key < 0)∧(∀ (i:Nat) x,s.2≤(i:Int)→xs[i]?=some x→¬ cmpL x.Key key < 0)) (fun s=>(s.2 - s.1).toNat) ?_ _ ⟨by simp,by simp,by simp,fun i x hi=>by simp at hi; omega,fun i x hi hx=>by have:=wq hx; simp at hi; omega⟩
 rintro ⟨i,j⟩ ⟨h1,h2,h3,h4,h5⟩
 simp only at h1 h2 h3 h4 h5
 unfold z9b
 refine wi (fun hc => ?_) (fun hc => ?_)
 ·have hc:i < j:=by simpa using hc
  simp only
  rw [w0i (m:=i+j) (by omega)]
  have hm:0≤(i+j) / 2∧i≤(i+j) / 2∧(i+j) / 2 < j:=by omega
  obtain ⟨x,hx⟩:∃ x,xs[((i+j) / 2).toNat]?=some x:=⟨_,List.getElem?_eq_getElem (by omega)⟩
  have e1:at? xs ((i+j) / 2)=some x:=by unfold at?; rw [if_pos hm.1]; exact hx
  rw [e1]
  simp only [Option.bind_some,z3q,z9x]
  refine wi (fun hq=>yc ?_) (fun hq=>yc ?_)
  ·have hq:cmpL x.Key key < 0:=by simpa using hq
   simp only [rd]
   rw [qy (by omega)]
   refine ⟨⟨by omega,by omega,h3,fun q y hq' hy => ?_,h5⟩,by omega⟩
   by_cases he:q=((i+j) / 2).toNat
   ·subst he; rw [hx] at hy; cases hy; exact hq
   ·exact z7t _ _ _ (z5s hs hy hx (by omega)) hq
  ·have hq:¬ cmpL x.Key key < 0:=by simpa using hq
   simp only [rd]
   refine ⟨⟨h1,by omega,by omega,h4,fun q y hq' hy => ?_⟩,by omega⟩
   by_cases he:q=((i+j) / 2).toNat
   ·subst he; rw [hx] at hy; cases hy; exact hq
   ·intro hlt
    exact hq (z7t _ _ _ (z5s hs hx hy (by omega)) hlt)
 ·have hij:i=j:=by simp at hc; omega
  subst hij
  have hno:∀ (q:Nat) x,xs[q]?=some x→x.Key=key→(q:Int)=i:=by
   intro q x hx hk
   by_cases h6:(q:Int) < i
   ·have:=h4 q x h6 hx; rw [hk,(Zv key key).2 rfl] at this; omega
   ·by_cases h7:(q:Int)=i
    ·exact h7
    ·exfalso
     obtain ⟨y,hy⟩:∃ y,xs[i.toNat]?=some y:=⟨_,List.getElem?_eq_getElem (by have:=wq hx; omega)⟩
     have:=z5s hs hy hx (by omega)
     rw [hk] at this
     exact h5 i.toNat y (by omega) hy this
  unfold z5w z3b
  by_cases hl:i < (xs.length:Int)
  ·obtain ⟨y,hy⟩:∃ y,xs[i.toNat]?=some y:=⟨_,List.getElem?_eq_getElem (by omega)⟩
   have e1:at? xs i=some y:=by unfold at?; rw [if_pos h1]; exact hy
   have e2:decide (i < (xs.length:Int))=true:=by simpa using hl
   simp only [e2,if_true,e1,Option.bind_some,z3q,z9x,Option.map_some]
   refine yc ?_
   simp only [rd]
   by_cases hk:y.Key=key
   ·have e3:Lib.compareBytes y.Key key=0:=(Zv _ _).2 hk
    refine ⟨?_,fun _=>⟨h1,y,hy,hk⟩⟩
    rw [e3,z4b.2 ⟨_,y,hy,hk⟩]; rfl
   ·have e3:¬ Lib.compareBytes y.Key key=0:=fun h=>hk ((Zv _ _).1 h)
    refine ⟨?_,fun h=>absurd h (by simpa using e3)⟩
    cases hh:hasK xs key
    ·simpa using e3
    ·exfalso
     obtain ⟨q,x,hx,hxk⟩:=z4b.1 hh
     have:=hno q x hx hxk
     have hq:q=i.toNat:=by omega
     subst hq
     rw [hy] at hx; cases hx; exact hk hxk
  ·have e2:decide (i < (xs.length:Int))=false:=by simpa using hl
   simp only [e2,if_false,Option.map_some,Bool.false_eq_true]
   refine yc ?_
   simp only [rd]
   refine ⟨?_,fun h=>by cases h⟩
   cases hh:hasK xs key
   ·rfl
   ·exfalso
    obtain ⟨q,x,hx,hxk⟩:=z4b.1 hh
    have:=hno q x hx hxk
    have:=wq hx
    omega
theorem y4w:z69=some true:=by decide +kernel
theorem y7m {k:Int} {s:zr} (h:SB k s) (hk:k≤1000000):Ok (z0m s) fun r=>(r.1≠[]∧r.1.length≤4∧∀ x,x∈r.1→x.Key.length≤1000)∧SB (k+8) r.2:=by
 unfold z0m
 refine ok_g (by decide) ?_
 refine kg (fun (j:Nat) (q:(List Int)×Int×(List zl))=>SB (k+2 * (j:Int)) ⟨q.1,q.2.1⟩∧q.2.2.length≤j∧(∀ x,x∈q.2.2→x.Key.length≤1000)∧(4≤j→q.2.2≠[])) _ 0 _ ⟨by simpa [SB] using h,by simp,by simp,by omega⟩ ?_ ?_
 ·rintro j x ⟨c2,c3,l4⟩ _ hj ⟨h1,h2,h3,h4⟩
  simp only at h1 h2 h3 h4
  have hjl:j < 4:=by have:=wq hj; simpa using this
  have hx:x.length≤1000:=by
   rcases j with _ | _ | _ | _ | j <;> simp at hj <;> (try subst hj) <;> simp
  have hlast:4≤j+1→x=[105,100]:=fun h4=>by
   have:j=3:=by omega
   subst this
   simpa using hj.symm
  have hJ2:∀ (b:Bool) (c:List Int) (a:Int),SB (k+2 * (j:Int)+1) ⟨c,a⟩→(4≤j+1→l4=[]→b=true)→Ok (Zt l4 x b c a) (rd (fun q:(List Int)×Int×(List zl)=>SB (k+2 * ((j+1:Nat):Int)) ⟨q.1,q.2.1⟩∧q.2.2.length≤j+1∧(∀ x,x∈q.2.2→x.Key.length≤1000)∧(4≤j+1→q.2.2≠[])) fun r=>(r.1≠[]∧r.1.length≤4∧∀ x,x∈r.1→x.Key.length≤1000)∧SB (k+8) r.2):=by
   intro b c a hs hb
   unfold Zt Wl
   refine wi (fun hb' => ?_) (fun hb' => ?_)
   ·refine yk (kf hs (by omega) _ ⟨by simp,by simp⟩) fun r hr=>ok_g (by omega) (yc ?_)
    refine ⟨hr.2.mono (by omega),by simp; omega,fun y hy => ?_,fun _=>by simp⟩
    rcases List.mem_append.1 hy with hy | hy
    ·exact h3 y hy
    ·simp at hy; subst hy; exact hx
   ·exact yc ⟨hs.mono (by omega),by simp only; omega,h3,fun h4 he=>hb' (hb h4 he)⟩
  show Ok (z2b j x c2 c3 l4) _
  unfold z2b
  refine wi (fun hl=>wi (fun hq => ?_) (fun hq => ?_)) (fun hl => ?_)
  ·exact hJ2 true c2 c3 (h1.mono (by omega)) fun _ _=>rfl
  ·refine yk (Yz h1 (by omega) 4 (by omega)) fun r hr=>hJ2 _ _ _ hr fun h4 _ => ?_
   have:=hlast h4
   simp [this] at hq
  ·refine yk (Yz h1 (by omega) 4 (by omega)) fun r hr=>hJ2 _ _ _ hr fun h4 he => ?_
   subst he
   simp at hl
 ·rintro ⟨c2,c3,l4⟩ ⟨h1,h2,h3,h4⟩
  exact yc ⟨⟨h4 (by simp),by simpa using h2,h3⟩,h1.mono (by simp)⟩
theorem w0b {k:Int} {s:zr} (h:SB k s) (hk:k≤100000):Ok (z65 s) fun r=>(InsB r.1∧r.1.length≤4)∧SB (k+14) r.2:=by
 unfold z65
 refine yk (y7m h (by omega)) fun r hr=>yk (Yz hr.2 (by omega) _ (by omega)) fun r4 hr4 => ?_
 have hJ:∀ (out:List zl) (c:List Int) (a:Int),InsB out∧out.length≤4→SB (k+13) ⟨c,a⟩→Ok (z2c out c a) fun r=>(InsB r.1∧r.1.length≤4)∧SB (k+14) r.2:=by
  intro out c a ho hs
  unfold z2c
  refine yk (Yz hs (by omega) _ (by omega)) fun r hr=>wi (fun _=>yc ⟨⟨⟨by simp,fun x hx=>(by cases hx)⟩,by simp⟩,hr.mono (by omega)⟩) (fun _=>yc ⟨ho,hr.mono (by omega)⟩)
 obtain ⟨⟨hne,hle,hky⟩,hs⟩:=hr
 have hpos:0 < r.1.length:=by cases hq:r.1 with | nil=>exact absurd hq hne | cons _ _=>simp
 refine wi (fun _ => ?_) (fun _ => ?_)
 ·refine yk (z0k hr4 (by omega) _ (by omega)) fun r7 hr7 => ?_
  have h1:=hr7.1.2.1 (by omega)
  have hat:Ok (at? r.1 r7.1) fun x=>x∈r.1:=by
   unfold at?
   rw [if_pos hr7.1.1,List.getElem?_eq_getElem (by omega)]
   exact ⟨_,rfl,List.getElem_mem _⟩
  refine yk hat fun x9 hx9=>yk (y2o hr7.2 (by omega) _ ⟨by simp,by simp⟩) fun r11 hr11=>yk (uf hr11.2 (by omega) 1 100 (by omega)) fun r13 hr13=>hJ _ _ _ ⟨⟨by simp; omega,fun y hy => ?_⟩,by simp; omega⟩ (hr13.2.mono (by omega))
  have hk11:r11.1.length≤1000:=by
   have:=hr11.1
   simp only [List.mem_cons,List.not_mem_nil,or_false] at this
   rcases this with e | e | e | e
   ·rw [e]; exact hky x9 hx9
   ·rw [e]; simp
   ·rw [e]; simp
   ·rw [e]; simp
  rcases List.mem_or_eq_of_mem_set hy with hy | hy
  ·rcases List.mem_or_eq_of_mem_set hy with hy | hy
   ·exact hky y hy
   ·rw [hy]; exact hk11
  ·rw [hy]; exact hk11
 ·exact hJ _ _ _ ⟨⟨by omega,hky⟩,hle⟩ (hr4.mono (by omega))
section
variable {α β σ τ ρ ρ':Type}
theorem Yw {body:σ→Option (σ ⊕ ρ)} {s s':σ} (h:body s=some (.inl s')):iter body s=iter body s':=by
 have key:∀ r,iter body s=some r↔iter body s'=some r:=fun r=>by
  rw [Yv,Yv]
  constructor
  ·rintro ⟨n,hn⟩
   cases n with
   | zero=>cases hn
   | succ n =>
    have hn:(body s).bind (after (itN body n))=some r:=hn
    rw [h] at hn
    exact ⟨n,hn⟩
  ·rintro ⟨n,hn⟩
   exact ⟨n+1,by show (body s).bind (after (itN body n))=some r; rw [h]; exact hn⟩
 cases h1:iter body s' with
 | some r=>exact (key r).2 h1
 | none =>
  cases h2:iter body s with
  | none=>rfl
  | some r=>rw [(key r).1 h2] at h1; cases h1
theorem Wg {body:σ→Option (σ ⊕ ρ)} {s:σ} {r:ρ} (h:body s=some (.inr r)):iter body s=some r:=
 Yv.2 ⟨1,by show (body s).bind (after (itN body 0))=some r; rw [h]; rfl⟩
theorem y99 {body:Nat→α→σ→Option (σ ⊕ ρ)} {body':Nat→α→τ→Option (τ ⊕ ρ')} {fin:σ→Option ρ} {fin':τ→Option ρ'} (R:Nat→σ→τ→Prop) (Q:ρ→ρ'→Prop):∀ (l:List α) (k:Nat) (s:σ) (s':τ),R k s s' →
  (∀ j x s s',k≤j→l[j - k]?=some x→R j s s'→(∃ t t',body j x s=some (.inl t)∧body' j x s'=some (.inl t')∧R (j+1) t t')∨∃ r r',body j x s=some (.inr r)∧body' j x s'=some (.inr r')∧Q r r') →
  (∀ s s',R (k+l.length) s s'→∃ r r',fin s=some r∧fin' s'=some r'∧Q r r')→∃ r r',forL body fin k l s=some r∧forL body' fin' k l s'=some r'∧Q r r'
 | [],k,s,s',h0,hs,hf=>hf s s' h0
 | x::l,k,s,s',h0,hs,hf=>by
  show ∃ r r',(body k x s).bind _=some r∧(body' k x s').bind _=some r'∧Q r r'
  rcases hs k x s s' (Nat.le_refl _) (by simp) h0 with ⟨t,t',q1,q2,q3⟩ | ⟨r,r',q1,q2,q3⟩
  ·rw [q1,q2]
   refine y99 R Q l (k+1) t t' q3 (fun j y s s' hj hy hr=>hs j y s s' (by omega) ?_ hr) (fun s s' hr=>hf s s' ?_)
   ·obtain ⟨m,hm⟩:∃ m,j - k=m+1:=⟨j - k - 1,by omega⟩
    rw [hm,List.getElem?_cons_succ]
    have:j - (k+1)=m:=by omega
    rw [this] at hy; exact hy
   ·simp only [List.length_cons]
    have:k+(l.length+1)=k+1+l.length:=by omega
    rw [this]; exact hr
  ·rw [q1,q2]; exact ⟨r,r',rfl,rfl,q3⟩
def gJ4 (i j:Int) (l:List α) (v:Bool):Option ((Int×List α) ⊕ ((Int×List α) ⊕ List α)):=
 if v then ((at? l (wr (j - 1))).bind fun (x22:α)=>(at? l j).bind fun (x24:α)=>(at? (l.set j.toNat x22) (wr (j - 1))).bind fun (x26:α)=>some (.inl (wr (j - 1),((l.set j.toNat x22).set ((wr (j - 1)).toNat) x24)))) else (Option.map .inr (some (.inl (wr (i+1),l))))
def gL3 (a:Int) (p:α→α→Option Int) (i j:Int) (l:List α):Option ((Int×List α) ⊕ ((Int×List α) ⊕ List α)):=
 if decide (a < j) then ((at? l j).bind fun (x13:α)=>(at? l (wr (j - 1))).bind fun (x15:α)=>(p x13 x15).bind fun (r17:Int)=>gJ4 i j l (decide (r17 < 0))) else (gJ4 i j l false)
noncomputable def gL1 (a b:Int) (p:α→α→Option Int) (i:Int) (l:List α):Option ((Int×List α) ⊕ List α):=
 if decide (i < b) then (iter (fun (s:Int×List α)=>gL3 a p i s.1 s.2) (i,l)) else (some (.inr l))
noncomputable def gIns (l:List α) (a b:Int) (p:α→α→Option Int):Option (List α):=iter (fun (s:Int×List α)=>gL1 a b p s.1 s.2) (wr (a+1),l)
theorem w19 (A C:List α) (x:α):at? (A++x::C) (A.length:Int)=some x:=by
 rw [vz]; simp
section
variable {p:α→α→Option Int} {q:β→β→Option Int} {f:α→β}
theorem w0n (i:Int) (A C:List α) (y x:α) {c:Int} (hA:A.length≤1000000) (hp:p x y=some c) (hc:¬ c < 0):gL3 0 p i ((A.length+1:Nat):Int) (A++y::x::C)=some (.inr (.inl (wr (i+1),A++y::x::C))):=by
 have e1:wr (((A.length+1:Nat):Int) - 1)=(A.length:Int):=by rw [qy (by omega)]; omega
 have e2:at? (A++y::x::C) ((A.length+1:Nat):Int)=some x:=by rw [vz]; simp
 unfold gL3 gJ4
 rw [if_pos (by simp),e1,e2,w19]
 simp only [Option.bind_some,hp]
 rw [if_neg (by simpa using hc)]; rfl
end
noncomputable def w0m (n2:Int) (bs a19 b20:Int):Option ((Int×Int) ⊕ (Int ⊕ List α)):=
 if decide (b20≤n2) then none else (Option.map .inr (if decide ((wr (a19+bs)) < n2) then none else (some (.inl (wr (bs * 2))))))
noncomputable def y37 (n2:Int) (r13:List α) (bs:Int):Option (Int ⊕ List α):=
 if decide (bs < n2) then (iter (fun (s:Int×Int)=>w0m n2 bs s.1 s.2) (0,wr (2 * bs))) else (some (.inr r13))
noncomputable def y93 (n2:Int) (p2:α→α→Option Int) (a11:Int) (d12:List α):Option (List α):=
 (gIns d12 a11 n2 p2).bind fun (r13:List α)=>if r13.length=d12.length then (iter (fun (s:Int)=>y37 n2 r13 s) 20) else none
noncomputable def y38 (n2:Int) (p2:α→α→Option Int) (a3 b4:Int) (l5:List α):Option ((Int×Int×List α) ⊕ List α):=
 if decide (b4≤n2) then ((gIns l5 a3 b4 p2).bind fun (r8:List α)=>if r8.length=l5.length then (some (.inl (b4,wr (b4+20),r8))) else none) else (Option.map .inr (y93 n2 p2 a3 l5))
noncomputable def w0l (d1:List α) (n2:Int) (p2:α→α→Option Int):Option (List α):=iter (fun (s:Int×Int×List α)=>y38 n2 p2 s.1 s.2.1 s.2.2) (0,20,d1)
theorem w0k (l r:List α) (p:α→α→Option Int) (h:l.length≤19) (hr:gIns l 0 (l.length:Int) p=some r) (hl:r.length=l.length):w0l l (l.length:Int) p=some r:=by
 refine Wg ?_
 show y38 (l.length:Int) p 0 20 l=_
 unfold y38 y93
 rw [if_neg (by simp; omega),hr]
 simp only [Option.bind_some]
 rw [if_pos hl]
 have:iter (fun (s:Int)=>y37 (l.length:Int) r s) 20=some r:=by
  refine Wg ?_
  unfold y37
  rw [if_neg (by simp; omega)]
 rw [this]; rfl
end
def lgD (base most:Int):Nat→Int
 | 0=>base
 | k+1=>min (2 * lgD base most k) most
theorem x7g {base most:Int} {k:Nat} (h0:0≤most) (h:lgD base most k=most) (j:Nat):lgD base most (k+j)=most:=by
 induction j with
 | zero=>exact h
 | succ j ih=>show min (2 * lgD base most (k+j)) most=most; rw [ih]; omega
theorem y8x {base most:Int} (h0:1≤base) (h1:base≤most) (k:Nat):1≤lgD base most k∧lgD base most k≤most:=by
 induction k with
 | zero=>exact ⟨h0,h1⟩
 | succ k ih=>show 1≤min (2 * lgD base most k) most∧min (2 * lgD base most k) most≤most; omega
theorem dblP {base most:Int} (h0:1≤base) (h1:base≤most) (h2:most≤3600000):∀ (m j k:Nat) (n:Int),1≤n→n≤7200000→min n most=lgD base most k→rng (fun (k:Nat) (s:Int)=>Zz most k s) (fun (s:Int)=>z03 most s) m j n=some (lgD base most (k+m))
 | 0,j,k,n,a,b,h=>by
  show z03 most n=_
  unfold z03 Qe
  rw [h]; rfl
 | m+1,j,k,n,a,b,h=>by
  show (Zz most j n).bind _=_
  by_cases hc:most≤n
  ·have e:Zz most j n=some (.inr (min n most)):=by
    unfold Zz Qe
    rw [if_pos (by simpa using hc)]; rfl
   rw [e]
   simp only [Option.bind_some,after]
   have hm:lgD base most k=most:=by rw [← h]; omega
   rw [h,hm,x7g (by omega) hm]
  ·have e:Zz most j n=some (.inl (n * 2)):=by
    unfold Zz
    rw [if_neg (by simpa using hc),qy (by omega)]
   rw [e]
   simp only [Option.bind_some,after]
   rw [dblP h0 h1 h2 m (j+1) (k+1) (n * 2) (by omega) (by omega) (by show min (n * 2) most=min (2 * lgD base most k) most; rw [← h]; omega),show k+1+m=k+(m+1) by omega]
theorem w09 {base most t:Int} (h0:1≤base) (h1:base≤most) (h2:most≤3600000) (ht:0≤t∧t≤1000000):Qz base t most=some (lgD base most t.toNat):=by
 unfold Qz
 rw [if_pos (by omega),dblP h0 h1 h2 t.toNat 0 0 base h0 (by omega) (by show min base most=base; omega),Nat.zero_add]
theorem dblR {base most:Int} (h0:1≤base) (h1:base≤most) (h2:most≤3600000) (s1:qn) (hm:s1.o_.Most=most) (F:Int→Option qn):∀ (m j k:Nat),rng (fun (k:Nat) (s:Int)=>z0o s1 k s) F m j (lgD base most k)=F (lgD base most (k+m))
 | 0,j,k=>rfl
 | m+1,j,k=>by
  have hr:=y8x h0 h1 k
  have e:z0o s1 j (lgD base most k)=some (.inl (lgD base most (k+1))):=by
   unfold z0o
   rw [qy (by omega),hm]; rfl
  show (z0o s1 j (lgD base most k)).bind _=_
  rw [e]
  simp only [Option.bind_some,after]
  rw [dblR h0 h1 h2 s1 hm F m (j+1) (k+1),show k+1+m=k+(m+1) by omega]
def outC (u:Bs→Int) (t:Int) (xs:List zl):List Bs:=(xs.filter fun x=>decide (t < u x.Key)).map fun x=>x.Key
theorem y78 (u:Bs→Int) (t:Int) (xs:List zl):(outC u t xs).length≤xs.length:=by
 unfold outC; rw [List.length_map]; exact List.length_filter_le _ _
theorem y79 (u:Bs→Int) (t:Int) (x:zl) (xs:List zl):outC u t (x::xs)=if t < u x.Key then x.Key::outC u t xs else outC u t xs:=by
 unfold outC
 by_cases h:t < u x.Key
 ·rw [List.filter_cons,if_pos (by simpa using h),if_pos h]; rfl
 ·rw [List.filter_cons,if_neg (by simpa using h),if_neg h]
theorem x05 (s1:qn) (t:Int) (hl:s1.l_.length≤1000) (hk:∀ x,x∈s1.l_→x.Key.length≤1000):z3y s1 t=some (outC s1.until_.2 t s1.l_):=by
 have key:∀ (l:List zl) (k:Nat) (q:List Bs),(∀ x,x∈l→x.Key.length≤1000)→q.length+l.length≤1000000→forL (fun (k:Nat) (x:zl) (s:(List Bs))=>z15 s1 t k x s) (fun (s:(List Bs))=>y0o s) k l q=some (q++outC s1.until_.2 t l):=by
  intro l
  induction l with
  | nil=>intro k q _ _; show some q=_; simp [outC]
  | cons x l ih =>
   intro k q h1 h2
   simp only [List.length_cons] at h2
   have hx:=h1 x (by simp)
   have e:z15 s1 t k x q=some (.inl (q++if t < s1.until_.2 x.Key then [x.Key] else [])):=by
    unfold z15 z4e
    rw [if_pos (by omega)]
    by_cases h:t < s1.until_.2 x.Key
    ·rw [if_pos (by simpa using h),if_pos (by omega),if_pos h]
    ·rw [if_neg (by simpa using h),if_neg h,List.append_nil]
   show (z15 s1 t k x q).bind _=_
   rw [e]
   simp only [Option.bind_some,after]
   rw [ih (k+1) _ (fun y hy=>h1 y (List.mem_cons_of_mem _ hy)) (by by_cases h:t < s1.until_.2 x.Key <;> simp [h] <;> omega),y79]
   by_cases h:t < s1.until_.2 x.Key
   ·simp [h]
   ·simp [h]
 unfold z3y
 rw [if_pos (by omega),key s1.l_ 0 [] hk (by simp only [List.length_nil]; omega),List.nil_append]
theorem y3l {ρ:Type} (F:Int→Option ρ) (B:Nat→Int→Option (Int ⊕ ρ)) (xs:List zl) (u:Bs→Int) (t:Int) (hB:∀ (k:Nat) x v,xs[k]?=some x→B k v=some (.inl (if t < u x.Key then wr (v+1) else v))) :
  ∀ (l:List zl) (k:Nat) (v:Int),xs.drop k=l→0≤v→v+(l.length:Int)≤1000000→rng B F l.length k v=F (v+((outC u t l).length:Int))
 | [],k,v,_,_,_=>by show F v=_; simp [outC]
 | x::l,k,v,hd,h0,h1=>by
  obtain ⟨d1,d2,d3⟩:=y1b hd
  simp only [List.length_cons] at h1
  show (B k v).bind _=_
  rw [hB k x v d2]
  simp only [Option.bind_some,after]
  rw [y79]
  by_cases h:t < u x.Key
  ·rw [if_pos h,if_pos h,qy (by omega),y3l F B xs u t hB l (k+1) (v+1) d3 (by omega) (by omega)]
   simp only [List.length_cons]
   congr 1; omega
  ·rw [if_neg h,if_neg h,y3l F B xs u t hB l (k+1) v d3 h0 (by omega)]
structure SR (xs:List zl) (k:Int) (L:List yq) (r t u:Bs→Int):Prop where
 len:L.length=xs.length
 at_:∀ (i:Nat) x,xs[i]?=some x→L[i]?=some (yq.mk (r x.Key) (u x.Key) (t x.Key))
 rr:∀ q,0≤r q∧r q≤k
 tt:∀ q,0≤t q∧t q≤k
 uu:∀ q,0≤u q∧u q≤1000000000000
theorem SR.mono {xs:List zl} {k m:Int} {L:List yq} {r t u:Bs→Int} (h:SR xs k L r t u) (hm:k≤m):SR xs m L r t u:=
 ⟨h.len,h.at_,fun q=>by have:=h.rr q; omega,fun q=>by have:=h.tt q; omega,h.uu⟩
theorem Yb {m:Bs→Int} {k:Bs} {v:Int}:upm m k v k=v:=by unfold upm; rw [if_pos rfl]
theorem Ya {m:Bs→Int} {k q:Bs} {v:Int} (h:q≠k):upm m k v q=m q:=by unfold upm; rw [if_neg h]
theorem y5e (m:Bs→Int) (k:Bs) (v w:Int):upm (upm m k v) k w=upm m k w:=by
 funext q
 by_cases h:q=k
 ·subst h; rw [Yb,Yb]
 ·rw [Ya h,Ya h,Ya h]
theorem z2s (m:Bs→Int) (k:Bs):upm m k (m k)=m:=by
 funext q
 by_cases h:q=k
 ·subst h; rw [Yb]
 ·rw [Ya h]
theorem SR.set {xs:List zl} {k:Int} {L:List yq} {r t u:Bs→Int} (h:SR xs k L r t u) (hs:Srt xs) {i:Nat} {x:zl} (hx:xs[i]?=some x) (a b c:Int) (ha:0≤a∧a≤k+1) (hb:0≤b∧b≤1000000000000) (hc:0≤c∧c≤k+1) :
  SR xs (k+1) (L.set i (yq.mk a b c)) (upm r x.Key a) (upm t x.Key c) (upm u x.Key b):=by
 have hi:i < L.length:=by rw [h.len]; exact wq hx
 refine ⟨by rw [List.length_set]; exact h.len,fun j y hy => ?_,fun q => ?_,fun q => ?_,fun q => ?_⟩
 ·by_cases hj:j=i
  ·subst hj
   rw [hx] at hy; cases hy
   rw [List.getElem?_set_self hi,Yb,Yb,Yb]
  ·have hne:y.Key≠x.Key:=fun he=>by
    rcases Nat.lt_or_gt_of_ne hj with hl | hl
    ·have:=z5s hs hy hx hl; rw [(Zv _ _).2 he] at this; omega
    ·have:=z5s hs hx hy hl; rw [(Zv _ _).2 he.symm] at this; omega
   rw [List.getElem?_set_ne (Ne.symm hj),Ya hne,Ya hne,Ya hne]
   exact h.at_ j y hy
 ·by_cases hq:q=x.Key
  ·subst hq; rw [Yb]; exact ha
  ·rw [Ya hq]; have:=h.rr q; omega
 ·by_cases hq:q=x.Key
  ·subst hq; rw [Yb]; exact hc
  ·rw [Ya hq]; have:=h.tt q; omega
 ·by_cases hq:q=x.Key
  ·subst hq; rw [Yb]; exact hb
  ·rw [Ya hq]; exact h.uu q
structure OlB (o:vo):Prop where
 f:1≤o.Fails∧o.Fails≤100
 b:1≤o.Base∧o.Base≤o.Most
 m:o.Most≤3600000
 s:0≤o.Share∧o.Share≤1000
theorem y9v (o:vo) (L:List yq) (i:Int) (t:Int) (st:yq) (h0:0≤i) (h:L[i.toNat]?=some st):z3o (qj.mk o L) i t=some (decide (t < st.until_)):=by
 unfold z3o at?
 rw [if_pos h0]
 simp only [h,Option.bind_some]
theorem x3j {xs:List zl} {k:Int} {L:List yq} {r t u:Bs→Int} (h:SR xs k L r t u) (hk:0≤k∧k≤2000) (hs:Srt xs) (hB:InsB xs) {o:vo} (ho:OlB o) {i:Int} {x:zl} (h0:0≤i) (hx:xs[i.toNat]?=some x)
  (y:z7w) (hy:y.Instance=x.Key) (hA:0≤y.At∧y.At≤400000000000) (n1 n2 n3:Nat) (hn:n1≤100000∧n2≤100000∧n3≤100000) :
  ∃ L' r' t' u' m1 m2 m3,z58 (qj.mk o L) i y.At y.Status=some (qj.mk o L') ∧
   z6l (qn.mk xs o (n1,r) (n2,t) (n3,u)) y=some (qn.mk xs o (m1,r') (m2,t') (m3,u'))∧SR xs (k+1) L' r' t' u'∧m1≤n1+2∧m2≤n2+1∧m3≤n3+1:=by
 have hst:=h.at_ _ _ hx
 have hr:=h.rr x.Key
 have ht:=h.tt x.Key
 have hu:=h.uu x.Key
 have hKl:=hB.key x (List.mem_of_getElem? hx)
 have hlen:=hB.len
 unfold z58 z6l
 dsimp only
 rw [hy,if_pos (by omega),y9v o L i y.At _ h0 hst]
 simp only [Option.bind_some]
 by_cases h1:y.At < u x.Key
 ·rw [if_pos (by simpa using h1),if_pos (by simpa using h1)]
  exact ⟨L,r,t,u,n1,n2,n3,rfl,rfl,h.mono (by omega),by omega,by omega,by omega⟩
 rw [if_neg (by simpa using h1),if_neg (by simpa using h1)]
 have hat:at? L i=some (yq.mk (r x.Key) (u x.Key) (t x.Key)):=by unfold at?; rw [if_pos h0,hst]
 rw [hat]
 have hf:z3x y.Status=z1q y.Status:=rfl
 rw [hf]
 have hfs:z1q y.Status=some ((decide (y.Status=0)) || (decide (500≤y.Status))):=rfl
 rw [hfs]
 simp only [Option.bind_some]
 cases hb:((decide (y.Status=0)) || (decide (500≤y.Status)))
 ·simp only [Bool.not_false,if_true]
  rw [if_pos ⟨by omega,by omega,by omega,by omega⟩]
  have:=h.set hs hx 0 (u x.Key) (t x.Key) (by omega) hu (by omega)
  rw [z2s,z2s] at this
  exact ⟨_,_,_,_,_,_,_,rfl,rfl,this,by omega,by omega,by omega⟩
 simp only [Bool.not_true,Bool.false_eq_true,if_false]
 have hw:wr (r x.Key+1)=r x.Key+1:=qy (by omega)
 have gK:x.Key.length≤1000000000:=by omega
 have gA:x.Key.length≤1000000000∧n1 < 1000000∧-9223372036854775808≤r x.Key+1∧r x.Key+1≤9223372036854775807:=⟨by omega,by omega,by omega,by omega⟩
 rw [if_pos gK,hw,if_pos gA,if_pos gK,Yb]
 by_cases h2:r x.Key+1 < o.Fails
 ·rw [if_pos (by simpa using h2),if_pos (by simpa using h2)]
  have:=h.set hs hx (r x.Key+1) (u x.Key) (t x.Key) (by omega) hu (by omega)
  rw [z2s,z2s] at this
  exact ⟨_,_,_,_,_,_,_,rfl,rfl,this,by omega,by omega,by omega⟩
 have d2:decide (r x.Key+1 < o.Fails)=false:=by simpa using h2
 have gB:x.Key.length≤1000000000∧n1+1 < 1000000∧-9223372036854775808≤(0:Int)∧(0:Int)≤9223372036854775807:=⟨by omega,by omega,by omega,by omega⟩
 simp only [d2,Bool.false_eq_true,if_false]
 rw [if_pos gB]
 have hS:=h.set hs hx 0 (u x.Key) (t x.Key) (by omega) hu (by omega)
 rw [z2s,z2s] at hS
 rw [List.set_set,x05 _ _ hlen hB.key,y5e]
 simp only [Option.bind_some]
 have hL2:(L.set i.toNat (yq.mk 0 (u x.Key) (t x.Key))).length=xs.length:=hS.len
 have gL:(L.set i.toNat (yq.mk 0 (u x.Key) (t x.Key))).length≤1000000000:=by omega
 rw [if_pos gL]
 have hmany:=y3l (fun (s:Int)=>z41 (qj.mk o L) i y.At (yq.mk (r x.Key) (u x.Key) (t x.Key)) s)
  (fun (k:Nat) (s:Int)=>z40 (qj.mk o L) i y.At (yq.mk (r x.Key) (u x.Key) (t x.Key)) k s) xs u y.At (fun k z v hz=>by
   have hz2:=hS.at_ k z hz
   unfold z40 z2l
   rw [List.set_set,y9v o _ (k:Int) y.At _ (by omega) (by simpa using hz2)]
   simp only [Option.bind_some]
   by_cases hc:y.At < u z.Key
   ·rw [if_pos (by simpa using hc),if_pos hc]
   ·rw [if_neg (by simpa using hc),if_neg hc]) xs 0 1 rfl (by omega) (by omega)
 have hc:=y78 u y.At xs
 rw [hL2,hmany]
 unfold z41
 dsimp only
 have hsh:0≤o.Share * (xs.length:Int)∧o.Share * (xs.length:Int)≤1000 * 1000:=by
  have:=ho.s
  have h3:(xs.length:Int)≤1000:=by omega
  exact ⟨Int.mul_nonneg this.1 (by omega),Int.mul_le_mul this.2 h3 (by omega) (by omega)⟩
 rw [List.set_set,hL2,qy (n:=o.Share * (xs.length:Int)) (by omega),qy (n:=((outC u y.At xs).length:Int)+1) (by omega),qy (n:=(((outC u y.At xs).length:Int)+1) * 1000) (by omega),qy (n:=(1+((outC u y.At xs).length:Int)) * 1000) (by omega)]
 by_cases h3:o.Share * (xs.length:Int) < (((outC u y.At xs).length:Int)+1) * 1000
 ·have d3:decide ((1+((outC u y.At xs).length:Int)) * 1000≤o.Share * (xs.length:Int))=false:=by simp; omega
  have d4:decide (o.Share * (xs.length:Int) < (((outC u y.At xs).length:Int)+1) * 1000)=true:=by simpa using h3
  simp only [d3,d4,Bool.false_eq_true,if_false,if_true]
  exact ⟨_,_,_,_,_,_,_,rfl,rfl,hS,by omega,by omega,by omega⟩
 ·have hlg:=y8x ho.b.1 ho.b.2 (t x.Key).toNat
  have hmo:=ho.m
  have d3:decide ((1+((outC u y.At xs).length:Int)) * 1000≤o.Share * (xs.length:Int))=true:=by simp; omega
  have d4:decide (o.Share * (xs.length:Int) < (((outC u y.At xs).length:Int)+1) * 1000)=false:=by simpa using h3
  have gT:t x.Key≤1000000000:=by omega
  simp only [d3,d4,Bool.false_eq_true,if_false,if_true]
  rw [w09 ho.b.1 ho.b.2 ho.m (by omega),if_pos gK,if_pos gT]
  simp only [Option.bind_some]
  have hR:=dblR ho.b.1 ho.b.2 ho.m (qn.mk xs o (n1,r) (n2,t) (n3,u)) rfl (fun (s:Int)=>z4d (qn.mk xs o (n1,r) (n2,t) (n3,u)) y s) (t x.Key).toNat 0 0
  have hR:rng (fun (k:Nat) (s:Int)=>z0o (qn.mk xs o (n1,r) (n2,t) (n3,u)) k s) (fun (s:Int)=>z4d (qn.mk xs o (n1,r) (n2,t) (n3,u)) y s) (t x.Key).toNat 0 o.Base=_:=hR
  rw [hR,Nat.zero_add]
  unfold z4d
  dsimp only
  rw [hy,qy (n:=t x.Key+1) (by omega),qy (n:=y.At+lgD o.Base o.Most (t x.Key).toNat) (by omega),if_pos gK,if_pos (show x.Key.length≤1000000000∧n2 < 1000000∧-9223372036854775808≤t x.Key+1∧t x.Key+1≤9223372036854775807 from ⟨by omega,by omega,by omega,by omega⟩),if_pos (show x.Key.length≤1000000000∧n3 < 1000000∧-9223372036854775808≤y.At+lgD o.Base o.Most (t x.Key).toNat∧y.At+lgD o.Base o.Most (t x.Key).toNat≤9223372036854775807 from ⟨by omega,by omega,by omega,by omega⟩),y5e,List.set_set,List.set_set]
  exact ⟨_,_,_,_,_,_,_,rfl,rfl,h.set hs hx 0 (y.At+lgD o.Base o.Most (t x.Key).toNat) (t x.Key+1) (by omega) (by omega) (by omega),by omega,by omega,by omega⟩
def olF (o:vo):Int:=if (outP o.Fails 1 100 || (outP o.Base 1 o.Most || (decide (3600000 < o.Most) || outP o.Share 0 1000)))=true then 1 else 0
theorem y8b (o:vo):z6a o=some (olF o)∧z6r o=some (olF o):=by
 constructor
 ·unfold z6a Wq olF
  rw [z3h,z3h,z3h]
  simp only [Option.bind_some]
  cases outP o.Fails 1 100 <;> cases outP o.Base 1 o.Most <;> cases decide (3600000 < o.Most) <;> cases outP o.Share 0 1000 <;> rfl
 ·unfold z6r z0s olF
  rw [z4a,z4a,z4a]
  simp only [Option.bind_some]
  cases outP o.Fails 1 100 <;> cases outP o.Base 1 o.Most <;> cases decide (3600000 < o.Most) <;> cases outP o.Share 0 1000 <;> rfl
theorem x6o {o:vo} (h:olF o=0):OlB o:=by
 unfold olF at h
 split at h
 ·cases h
 ·rename_i hc
  simp only [outP,Bool.or_eq_true,decide_eq_true_eq,not_or] at hc
  exact ⟨by omega,by omega,by omega,by omega⟩
section
variable (w m:Int) (hw:0≤w∧w≤m) (hm:m≤3600000)
def bo (k:Nat):Int:=min (w * 2 ^ k) m
include hw hm
theorem x04 (k:Nat):bo w m (k+1)=min (2 * bo w m k) m:=by
 unfold bo
 rw [Int.pow_succ,← Int.mul_assoc]
 omega
theorem w1r (k : Nat) (h : m ≤ w * 2 ^ k) (j : Nat) (hj : k ≤ j) : bo w m j = m := by
  induction j with
  | zero => have : k = 0 := by omega
            subst this; unfold bo; omega
  | succ j ih =>
    rcases Nat.lt_or_ge j k with h1 | h1
    · have : k = j + 1 := by omega
      subst this; unfold bo; omega
    · rw [x04 w m hw hm, ih h1]; omega
theorem w1u (t:Int) (ht:2≤t∧t≤100):z32 w m t=some (bo w m (t - 2).toNat):=by
 have e1:wr (t - 2)=t - 2:=qy (by omega)
 unfold z32
 rw [e1,if_pos (by omega)]
 refine Yo (z55 (I:=fun k s=>s=bo w m k) _ 0 w ?_ ?_ ?_)
 ·unfold bo; simp; omega
 ·intro j s _ _ hs
  unfold y0w
  refine yc ?_
  show min (wr (2 * s)) m=_
  have h1:0≤s∧s≤m:=by
   rw [hs]; unfold bo
   have:(0:Int)≤w * 2 ^ j:=Int.mul_nonneg hw.1 (Int.le_of_lt (Int.pow_pos (by omega)))
   omega
  rw [qy (by omega),hs,x04 w m hw hm]
 ·intro s hs
  unfold y0x
  exact yc (by rw [hs]; congr 1; omega)
theorem w1s (t:Int) (ht:0≤t∧t≤100):Qz w t m=some (bo w m t.toNat):=by
 unfold Qz
 rw [if_pos (by omega)]
 refine Yo (z55 (I:=fun k s=>s=w * 2 ^ k) _ 0 w (by simp) ?_ ?_)
 ·intro j s _ hj hs
  unfold Zz Qe
  refine wi (fun h => ?_) (fun h=>yc ?_)
  ·simp at h
   refine ⟨.inr (min s m),rfl,?_⟩
   show min s m=_
   rw [w1r w m hw hm j (by omega) t.toNat (by omega)]
   omega
  ·simp at h
   show wr (s * 2)=_
   have:(0:Int)≤w * 2 ^ j:=Int.mul_nonneg hw.1 (Int.le_of_lt (Int.pow_pos (by omega)))
   rw [qy (by omega),hs,Int.pow_succ,Int.mul_assoc]
 ·intro s hs
  unfold z03 Qe
  exact yc (by rw [hs]; unfold bo; simp)
end
def budF (b:wn):Int:=if outP b.Window 1 3600000 || outP b.Least 0 300 || outP b.Part 0 1000 then 1 else 0
theorem w1l (b:wn):z6f b=some (budF b):=by
 have e:∀ n lo hi,jv n lo hi=some (outP n lo hi):=fun _ _ _=>rfl
 unfold z6f z06 budF
 simp only [e,Option.bind_some]
 cases outP b.Window 1 3600000 <;> cases outP b.Least 0 300 <;> cases outP b.Part 0 1000 <;> rfl
theorem w1p (b:wn):z6y b=some (budF b):=by
 unfold z6y vy z2a budF
 simp only [Option.bind_some,z9m]
 cases (decide (1≤b.Window) && decide (b.Window≤3600000)) <;> cases (decide (0≤b.Least) && decide (b.Least≤300)) <;> cases (decide (0≤b.Part) && decide (b.Part≤1000)) <;> simp
def inW (b:wn) (a x:Int):Bool:=decide (a - b.Window < x) && decide (x≤a)
def many (b:wn) (a:Int) (l:List Int):Nat:=(l.filter (inW b a)).length
theorem y8u (b:wn) (a:Int) (l:List Int) (j:Nat) (x:Int) (h:l[j]?=some x):many b a (l.take (j+1))=many b a (l.take j)+if inW b a x then 1 else 0:=by
 rw [List.take_add_one,h]
 unfold many
 rw [List.filter_append,List.length_append]
 congr 1
 cases hx:inW b a x <;> simp [hx]
theorem z9u (b:wn) (a:Int) (l:List Int):many b a l≤l.length:=List.length_filter_le _ _
section
variable (b:wn) (a:Int) (hb:budF b=0) (ha:0≤a∧a≤400000000000)
include hb ha
theorem y4s:(1≤b.Window∧b.Window≤3600000∧0≤b.Least∧b.Least≤300∧0≤b.Part∧b.Part≤1000)∧0≤a∧a≤400000000000:=by
 unfold budF outP at hb
 simp at hb ha
 omega
theorem y8p (l:List Int) (hl:l.length≤1000):z3r l a b=some (many b a l:Int):=by
 obtain ⟨h1,h2⟩:=y4s b a hb ha
 refine Yo ?_
 unfold z3r
 refine ok_g (by omega) (kg (I:=fun k (s:Int)=>s=(many b a (l.take k):Int)) l 0 0 (by simp [many]) ?_ ?_)
 ·intro j x s _ hx hs
  have hx:l[j]?=some x:=by simpa using hx
  have h3:=y8u b a l j x hx
  have h4:=z9u b a (l.take j)
  rw [List.length_take] at h4
  unfold z73 z2m
  rw [qy (n:=a - b.Window) (by omega)]
  refine wi (fun h=>yc ?_) (fun h=>yc ?_)
  ·show wr (s+1)=_
   rw [qy (by omega),h3,if_pos (show inW b a x=true from h),hs]; simp
  ·show s=_
   rw [h3,if_neg (show ¬ inW b a x=true from h),hs]; simp
 ·intro s hs
  unfold z74
  exact yc (by rw [hs]; simp)
theorem y8o (l:List Int) (hl:l.length≤1000):z30 l a b=some (many b a l:Int):=by
 obtain ⟨h1,h2⟩:=y4s b a hb ha
 refine Yo ?_
 unfold z30
 refine ok_g (by omega) (kg (I:=fun k (s:Int)=>s=(many b a (l.take k):Int)) l 0 0 (by simp [many]) ?_ ?_)
 ·intro j x s _ hx hs
  have hx:l[j]?=some x:=by simpa using hx
  have h3:=y8u b a l j x hx
  have h4:=z9u b a (l.take j)
  rw [List.length_take] at h4
  unfold y0q z4g vy
  rw [qy (n:=a - b.Window) (by omega),qy (n:=a - b.Window+1) (by omega)]
  have e1:(decide (a - b.Window+1≤x) && decide (x≤a))=inW b a x:=by
   unfold inW
   congr 1
  simp only [Option.bind_some,e1]
  refine wi (fun h=>yc ?_) (fun h=>yc ?_)
  ·show wr (s+1)=_
   rw [qy (by omega),h3,if_pos h,hs]; simp
  ·show s=_
   rw [h3,if_neg h,hs]; simp
 ·intro s hs
  unfold y0r
  exact yc (by rw [hs]; simp)
def mayB (b:wn) (a:Int) (calls again:List Int):Bool:=decide ((many b a again:Int) < wr (b.Least+wr (b.Part * (many b a calls:Int)) / 1000))
theorem y8n (n:Nat) (hn:n≤1000):((0:Int)≤wr (b.Part * (n:Int))∧wr (b.Part * (n:Int))≤9223372036854775807)∧(0:Int) < 1000:=by
 obtain ⟨h1,h2⟩:=y4s b a hb ha
 have h3:b.Part * (n:Int)≤1000 * n:=Int.mul_le_mul_of_nonneg_right (by omega) (by omega)
 have h4:0≤b.Part * (n:Int):=Int.mul_nonneg (by omega) (by omega)
 rw [qy (by omega)]
 omega
theorem x61 (c g:List Int) (hc:c.length≤1000) (hg:g.length≤1000):z6b b c g a=some (mayB b a c g):=by
 have h1:=z9u b a c
 unfold z6b mayB
 rw [y8p b a hb ha g hg,y8p b a hb ha c hc]
 simp only [Option.bind_some]
 rw [if_pos (y8n b a hb ha _ (by omega))]
theorem x62 (c g:List Int) (hc:c.length≤1000) (hg:g.length≤1000):z6s b c g a=some (mayB b a c g):=by
 have h1:=z9u b a c
 unfold z6s mayB
 rw [y8o b a hb ha g hg,y8o b a hb ha c hc]
 simp only [Option.bind_some]
 rw [if_pos (y8n b a hb ha _ (by omega))]
end
end Go.Proofs.YtgdijjmdfcgifaaGreat
