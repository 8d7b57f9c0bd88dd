/- Plain: cookies: reading, writing, the program and the reference agree. -/
import Derived.Test.YtpjjkhcojjcdpaaGreatDoorMc
import Derived.Test.YtpjjkhcojjcdpaaGreatDoorZxm
namespace Go.Proofs.YtpjjkhcojjcdpaaGreatDoor
set_option linter.unusedVariables false
set_option maxRecDepth 20000
section
variable {α β σ ρ:Type}
def Ok (o:Option α) (Q:α→Prop):Prop:=∃ x,o=some x∧Q x
variable {o a b:Option α} {Q Q':α→Prop}
theorem wa {x:α} (h:Q x):Ok (some x) Q:=⟨x,rfl,h⟩
theorem yq {f:α→Option β} {R:β→Prop} (h:Ok o Q) (k:∀ x,Q x→Ok (f x) R):Ok (o.bind f) R:=by
 obtain ⟨x,rfl,hx⟩:=h
 exact k x hx
theorem jf {c:Prop} [Decidable c] (h1:c→Ok a Q) (h2:¬ c→Ok b Q):Ok (if c then a else b) Q:=by
 by_cases h:c
 ·rw [if_pos h]; exact h1 h
 ·rw [if_neg h]; exact h2 h
theorem ok_g {c:Prop} [Decidable c] (hc:c) (h:Ok a Q):Ok (if c then a else none) Q:=by rw [if_pos hc]; exact h
theorem y41 (h:Ok o Q) (k:∀ x,Q x→Q' x):Ok o Q':=let ⟨x,h1,h2⟩:=h; ⟨x,h1,k x h2⟩
theorem y43 {x:α} (h:Ok o (· = x)):o=some x:=by obtain ⟨y,h1,h2⟩:=h; rw [h1,h2]
def rd (I:σ→Prop) (Q:ρ→Prop):σ ⊕ ρ→Prop
 | .inl s=>I s
 | .inr r=>Q r
theorem y42 {body:Nat→α→σ→Option (σ ⊕ ρ)} {fin:σ→Option ρ} {R:ρ→Prop} (I:Nat→σ→Prop):∀ (l:List α) (k:Nat) (s:σ),I k s →
  (∀ j x s,k≤j→l[j - k]?=some x→I j s→Ok (body j x s) (rd (I (j+1)) R))→(∀ s,I (k+l.length) s→Ok (fin s) R)→Ok (forL body fin k l s) R
 | [],k,s,h0,hs,hf=>hf s h0
 | x::l,k,s,h0,hs,hf=>by
  refine yq (hs k x s (Nat.le_refl _) (by simp) h0) fun q hq => ?_
  cases q with
  | inl s' =>
   refine y42 I l (k+1) s' hq (fun j y s hj hy hi=>hs j y s (by omega) ?_ hi) (fun s hi=>hf s ?_)
   ·obtain ⟨m,hm⟩:∃ m,j - k=m+1:=⟨j - k - 1,by omega⟩
    rw [hm,List.getElem?_cons_succ]
    have:j - (k+1)=m:=by omega
    rw [this] at hy; exact hy
   ·simp only [List.length_cons]
    have:k+(l.length+1)=k+1+l.length:=by omega
    rw [this]; exact hi
  | inr r=>exact ⟨r,rfl,hq⟩
theorem z02 {body:Nat→σ→Option (σ ⊕ ρ)} {fin:σ→Option ρ} {R:ρ→Prop} (I:Nat→σ→Prop):∀ (n k:Nat) (s:σ),I k s →
  (∀ j s,k≤j→j < k+n→I j s→Ok (body j s) (rd (I (j+1)) R))→(∀ s,I (k+n) s→Ok (fin s) R)→Ok (rng body fin n k s) R
 | 0,k,s,h0,hs,hf=>hf s h0
 | n+1,k,s,h0,hs,hf=>by
  refine yq (hs k s (Nat.le_refl _) (by omega) h0) fun q hq => ?_
  cases q with
  | inl s'=>exact z02 I n (k+1) s' hq (fun j s hj hy hi=>hs j s (by omega) (by omega) hi) (fun s hi=>hf s (by rw [show k+(n+1)=k+1+n by omega]; exact hi))
  | inr r=>exact ⟨r,rfl,hq⟩
end

section
variable {α ρ:Type}
def allI (p:Nat→α→Bool):Nat→List α→Bool
 | _,[]=>true
 | k,x::l=>p k x && allI p (k+1) l
theorem Yu {body:Nat→α→Unit→Option (Unit ⊕ ρ)} {fin:Unit→Option ρ} {p:Nat→α→Bool} {e r0:ρ} (hf:fin ()=some e):∀ (l:List α) (k:Nat),(∀ j x,k≤j→l[j - k]?=some x→body j x ()=if p j x then some (.inl ()) else some (.inr r0))→forL body fin k l ()=some (if allI p k l then e else r0)
 | [],k,h=>by simp only [forL,allI,if_true]; exact hf
 | x::l,k,h=>by
  have h1:=h k x (Nat.le_refl _) (by simp)
  show (body k x ()).bind _=_
  rw [h1]
  cases hp:p k x
  ·simp [allI,hp,after]
  ·simp only [allI,hp,Bool.true_and,if_true,Option.bind_some,after]
   refine Yu hf l (k+1) fun j y hj hy=>h j y (by omega) ?_
   obtain ⟨m,hm⟩:∃ m,j - k=m+1:=⟨j - k - 1,by omega⟩
   rw [hm,List.getElem?_cons_succ]
   have:j - (k+1)=m:=by omega
   rw [this] at hy; exact hy
end

def outP (n lo hi:Int):Bool:=decide (n < lo) || decide (hi < n)
theorem z57 (n lo hi:Int):outP n lo hi = !(decide (lo≤n) && decide (n≤hi)):=by
 unfold outP
 by_cases h1:n < lo
 ·have:¬ lo≤n:=by omega
  simp [h1,this]
 ·have h1':lo≤n:=by omega
  by_cases h2:hi < n
  ·have:¬ n≤hi:=by omega
   simp [h1',h2,this]
  ·have:n≤hi:=by omega
   simp [h1,h1',h2,this]
section
variable {α β:Type}
theorem z2k (q:α→Bool):∀ (l:List α) (k:Nat),allI (fun _ x=>q x) k l=l.all q
 | [],k=>rfl
 | x::l,k=>by simp only [allI,List.all_cons,z2k q l (k+1)]
theorem z5j (l:List α) (k:Nat) (h:k≤l.length):sub? l 0 (k:Int)=some (l.take k):=by
 unfold sub?
 rw [if_pos (by omega)]
 simp
def gIdx (l:List α) (p:α→Option Bool):Option Int:=if l.length≤1000000000 then forL (fun (k:Nat) (x:α) (s:Unit)=>(p x).bind fun r=>if r then (some (.inr (k:Int))) else (some (.inl ()))) (fun _=>some (-1)) 0 l () else none
def fdx (q:α→Bool):Nat→List α→Int
 | _,[]=>-1
 | k,x::l=>if q x then (k:Int) else fdx q (k+1) l
theorem y7t (l:List α) {p:α→Option Bool} (q:α→Bool) (hl:l.length≤1000000000) (hp:∀ x,x∈l→p x=some (q x)):gIdx l p=some (fdx q 0 l):=by
 unfold gIdx
 rw [if_pos hl]
 have:∀ (l:List α) (k:Nat),(∀ x,x∈l→p x=some (q x))→forL (fun (k:Nat) (x:α) (s:Unit)=>(p x).bind fun r=>if r then (some (.inr (k:Int))) else (some (.inl ()))) (fun _=>some (-1)) k l ()=some (fdx q k l):=by
  intro l
  induction l with
  | nil=>intro k _; rfl
  | cons x l ih =>
   intro k hp
   have h1:=hp x (by simp)
   show Option.bind ((p x).bind _) _=_
   rw [h1]
   cases hq:q x
   ·simp only [Option.bind_some,after,fdx,hq,if_false,Bool.false_eq_true]
    exact ih (k+1) fun y hy=>hp y (List.mem_cons_of_mem _ hy)
   ·simp [after,fdx,hq]
 exact this l 0 hp
theorem y03 (q:α→Bool):∀ (l:List α) (k:Nat),(fdx q k l < 0↔l.any q=false)∧(0≤fdx q k l→(k:Int)≤fdx q k l∧∃ x,l[(fdx q k l).toNat - k]?=some x∧q x=true)
 | [],k=>⟨by simp [fdx],fun h=>by simp [fdx] at h⟩
 | x::l,k=>by
  obtain ⟨h1,h2⟩:=y03 q l (k+1)
  cases hq:q x
  ·simp only [fdx,hq,if_false,Bool.false_eq_true,List.any_cons,Bool.false_or]
   refine ⟨h1,fun h => ?_⟩
   obtain ⟨h3,y,h4,h5⟩:=h2 h
   refine ⟨by omega,y,?_,h5⟩
   have:(fdx q (k+1) l).toNat - k=((fdx q (k+1) l).toNat - (k+1))+1:=by omega
   rw [this,List.getElem?_cons_succ]; exact h4
  ·simp only [fdx,hq,if_true,List.any_cons,Bool.true_or]
   refine ⟨by simp,fun _=>⟨by omega,x,by simp,hq⟩⟩
theorem y74 (q:α→Bool) (l:List α):decide (fdx q 0 l < 0) = !l.any q:=by
 have h:=(y03 q l 0).1
 cases hq:l.any q
 ·rw [hq] at h; simpa using h
 ·rw [hq] at h; simpa using h
theorem y73 (q:α→Bool) (l:List α):decide (0≤fdx q 0 l)=l.any q:=by
 have h:=y74 q l
 cases hq:l.any q
 ·rw [hq] at h; simp at h ⊢; omega
 ·rw [hq] at h; simp at h ⊢; omega
def gCon (l:List α) (p:α→Option Bool):Option Bool:=(gIdx l p).bind fun r=>some (decide (0≤r))
theorem z7b (l:List α) {p:α→Option Bool} (q:α→Bool) (hl:l.length≤1000000000) (hp:∀ x,x∈l→p x=some (q x)):gCon l p=some (l.any q):=by
 unfold gCon
 rw [y7t l q hl hp]
 simp only [Option.bind_some,y73]
def gEql (ne:α→α→Bool) (a b:List α):Option Bool:=if decide ((a.length:Int)≠(b.length:Int)) then some false else (if a.length≤1000000000 then forL (fun (k:Nat) (x:α) (s:Unit)=>(b[k]?).bind fun y=>if ne x y then (some (.inr false)) else (some (.inl ()))) (fun _=>some true) 0 a () else none)
theorem y7u (ne:α→α→Bool) (hne:∀ x,ne x x=false) (a:List α) (h:a.length≤1000000000):gEql ne a a=some true:=by
 unfold gEql
 rw [if_neg (by simp),if_pos h]
 rw [Yu (p:=fun _ _=>true) (r0:=false) (e:=true) rfl a 0 fun j x _ hj => ?_]
 ·have:∀ (l:List α) k,allI (fun (_:Nat) (_:α)=>true) k l=true:=by
   intro l; induction l with
   | nil=>intro k; rfl
   | cons x l ih=>intro k; simp [allI,ih]
  rw [this]; rfl
 ·have:a[j]?=some x:=by simpa using hj
  simp only [this,Option.bind_some,hne,Bool.false_eq_true,if_false,if_true]
end
def SB (n:Int) (s:zz):Prop:=0≤s.at_∧s.at_≤n
theorem SB.mono {n m:Int} {s:zz} (h:SB n s) (hm:n≤m):SB m s:=⟨h.1,by have:=h.2; omega⟩

theorem z7j (x n:Int) (hn:n≤1000000000000000):Ok (Yc x n) fun r=>0≤r∧(1≤n→r < n)∧(n < 1→r=0):=by
 unfold Yc z0f
 refine jf (fun h=>wa ?_) (fun h=>ok_g ?_ (jf (fun h2=>wa ?_) (fun h2=>wa ?_)))
 ·simp at h; omega
 ·simp at h; omega
 ·simp at h h2
  have h3:=Int.tmod_lt_of_pos x (show 0 < n by omega)
  have h4:-n < x.tmod n:=by
   have:=Int.lt_tmod_of_pos x (show 0 < n by omega)
   omega
  rw [wo (by omega)]
  omega
 ·simp at h h2
  have h3:=Int.tmod_lt_of_pos x (show 0 < n by omega)
  omega
theorem kz {k:Int} {s:zz} (h:SB k s) (hk:k≤1000000000) (n:Int) (hn:n≤1000000000000000) :
  Ok (vq s n) fun r=>(0≤r.1∧(1≤n→r.1 < n)∧(n < 1→r.1=0))∧SB (k+1) r.2:=by
 obtain ⟨h1,h2⟩:=h
 have e1:wr (s.at_+1)=s.at_+1:=wo (by omega)
 have e2:wr (s.at_+1 - 1)=s.at_:=by rw [wo (by omega)]; omega
 unfold vq
 simp only [e1,e2]
 refine jf (fun h => ?_) (fun h => ?_)
 ·exact yq (z7j _ n hn) fun r hr=>wa ⟨hr,by simp only [SB]; omega⟩
 ·simp at h
  have hL:0 < s.L.length:=by cases hq:s.L with | nil=>exact absurd hq h | cons _ _=>simp
  refine ok_g (by omega) (ok_g ⟨by omega,by omega⟩ ?_)
  have hi:0≤s.at_.tmod (s.L.length:Int):=Int.tmod_nonneg _ h1
  have hi2:=Int.tmod_lt_of_pos s.at_ (show (0:Int) < s.L.length by omega)
  have hat:Ok (at? s.L (s.at_.tmod (s.L.length:Int))) fun _=>True:=by
   unfold at?
   rw [if_pos hi,List.getElem?_eq_getElem (by omega)]
   exact ⟨_,rfl,trivial⟩
  refine yq hat fun x _=>yq (z7j _ _ (by omega)) fun r _=>yq (z7j _ n hn) fun r hr=>wa ⟨hr,by simp only [SB]; omega⟩
section
variable {k:Int} {s:zz} (h:SB k s) (hk:k≤100000000)
include h hk
theorem z7d (n:Int) (hn:n≤1000000000000000):Ok (xj s n) fun r=>SB (k+1) r.2:=by
 unfold xj
 exact yq (kz h (by omega) n hn) fun r hr=>wa hr.2
theorem z3d (l:List Int) (hl:l≠[]∧l.length≤1000):Ok (xi s l) fun r=>r.1∈l∧SB (k+1) r.2:=by
 unfold xi
 have hp:0 < l.length:=by cases hq:l with | nil=>exact absurd hq hl.1 | cons _ _=>simp
 refine yq (kz h (by omega) _ (by omega)) fun r hr => ?_
 have h1:=hr.1.2.1 (by omega)
 have hat:Ok (at? l r.1) fun x=>x∈l:=by
  unfold at?
  rw [if_pos hr.1.1,List.getElem?_eq_getElem (by omega)]
  exact ⟨_,rfl,List.getElem_mem _⟩
 exact yq hat fun x hx=>wa ⟨hx,hr.2⟩
theorem Qh (l:List Bs) (hl:l≠[]∧l.length≤1000):Ok (vp s l) fun r=>r.1∈l∧SB (k+1) r.2:=by
 unfold vp
 have hp:0 < l.length:=by cases hq:l with | nil=>exact absurd hq hl.1 | cons _ _=>simp
 refine yq (kz h (by omega) _ (by omega)) fun r hr => ?_
 have h1:=hr.1.2.1 (by omega)
 have hat:Ok (at? l r.1) fun x=>x∈l:=by
  unfold at?
  rw [if_pos hr.1.1,List.getElem?_eq_getElem (by omega)]
  exact ⟨_,rfl,List.getElem_mem _⟩
 exact yq hat fun x hx=>wa ⟨hx,hr.2⟩
theorem z5y (lo hi:Int) (hr:-1000000000000≤lo∧lo≤hi∧hi≤1000000000000):Ok (Yb s lo hi) fun r=>(lo≤r.1∧r.1≤hi)∧SB (k+1) r.2:=by
 unfold Yb
 refine jf (fun h=>absurd h (by simp; omega)) (fun _ => ?_)
 have e1:wr (wr (hi - lo)+1)=hi - lo+1:=by rw [wo (n:=hi - lo) (by omega),wo (by omega)]
 rw [e1]
 refine yq (kz h (by omega) _ (by omega)) fun r hr2=>wa ?_
 have h1:=hr2.1.2.1 (by omega)
 have h2:=hr2.1.1
 simp only
 rw [wo (by omega)]
 exact ⟨by omega,hr2.2⟩
end
theorem y45 {k:Int} {s:zz} (h:SB k s) (hk:k≤10000000) (lo hi:Int) (hr:-1000000000000≤lo∧lo≤hi∧hi≤1000000000000):Ok (z1o s lo hi) fun r=>(-2000000000000≤r.1∧r.1≤2000000000000)∧SB (k+2) r.2:=by
 unfold z1o
 refine yq (z7d h (by omega) 12 (by omega)) fun r hr2=>jf (fun _ => ?_) (fun _ => ?_)
 ·refine yq (z3d hr2 (by omega) _ ⟨by simp,by simp⟩) fun r3 hr3=>wa ⟨?_,hr3.2.mono (by omega)⟩
  have hm:=hr3.1
  rw [wo (n:=lo - 1) (by omega),wo (n:=hi+1) (by omega)] at hm
  simp only [List.mem_cons,List.not_mem_nil,or_false] at hm
  simp only
  omega
 ·exact yq (z5y hr2 (by omega) lo hi hr) fun r3 hr3=>wa ⟨by simp only; omega,hr3.2.mono (by omega)⟩
theorem xv (p:UInt8→Bool) (h:((List.range 256).all fun n=>p (UInt8.ofNat n))=true) (c:UInt8):p c=true:=by
 have:=List.all_eq_true.1 h c.toNat (by simp; exact c.toNat_lt)
 simpa using this
theorem z9q (s so:Bs) (h:s.length≤1000000000):ue s so=some (s.all fun c=>so.contains c):=by
 unfold ue
 rw [if_pos h,Yu (p:=fun _ c=>so.contains c) (r0:=false) (e:=true) rfl s 0]
 ·congr 1
  have:∀ (l:Bs) k,allI (fun _ c=>so.contains c) k l=l.all fun c=>so.contains c:=by
   intro l
   induction l with
   | nil=>intro k; rfl
   | cons c l ih=>intro k; simp only [allI,List.all_cons,ih]
  rw [this]
  cases (s.all fun c=>so.contains c) <;> rfl
 ·intro j x _ _
  unfold z4p z06
  simp only [Option.bind_some]
  have e1:((x.toNat:Int)).toNat.toUInt8=x:=by simp
  rw [e1,Lib.contains_iff_indexByte]
  by_cases hq:Lib.indexByte so x < 0
  ·have:¬ 0≤Lib.indexByte so x:=by omega
   simp [hq,this]
  ·have:0≤Lib.indexByte so x:=by omega
   simp [hq,this]
theorem z9p (n lo hi:Int):z1f n lo hi=some (outP n lo hi):=rfl
theorem z66 (n lo hi:Int):xh n lo hi=some (!outP n lo hi):=by
 unfold xh
 rw [z57,Bool.not_not]
def spl (c:UInt8):Bs→List Bs
 | []=>[[]]
 | b::l=>if b=c then []::spl c l else match spl c l with
  | p::ps=>(b::p)::ps
  | []=>[[b]]
theorem z4n (c b:UInt8) (l:Bs):Lib.index (b::l) [c]=if b=c then 0 else if Lib.index l [c] == -1 then -1 else Lib.index l [c]+1:=by
 rw [Lib.index]
 by_cases h:b=c
 ·subst h; simp
 ·have hb:(c == b)=false:=by simpa using fun e:c=b=>h e.symm
  have:List.isPrefixOf [c] (b::l)=false:=by simp [List.isPrefixOf,hb]
  rw [this,if_neg h]; rfl
theorem z81 (c:UInt8):∀ s:Bs,Lib.splitK [c] 0 (Lib.count s [c]) s=spl c s
 | []=>by
  rw [Lib.count_miss (by rfl)]
  rfl
 | b::l=>by
  have ih:=z81 c l
  have hi:=z4n c b l
  by_cases h:b=c
  ·rw [if_pos h] at hi
   rw [Lib.count_hit (i:=0) (by simp) (by simpa using hi),Nat.add_comm,Lib.splitK,if_neg (by rw [hi]; decide),hi,spl,if_pos h]
   simp only [Int.toNat_zero,Nat.zero_add,List.length_cons,List.length_nil,Nat.add_zero,List.take_zero,List.drop_succ_cons,List.drop_zero,ih]
  ·rw [if_neg h] at hi
   have hs:spl c (b::l)=match spl c l with | p::ps=>(b::p)::ps | []=>[[b]]:=by rw [spl,if_neg h]
   have hge:=Lib.index_ge l [c]
   by_cases h1:Lib.index l [c]=-1
   ·rw [if_pos (by simpa using h1)] at hi
    rw [Lib.count_miss h1] at ih
    have ih:[l]=spl c l:=ih
    rw [Lib.count_miss hi,hs,← ih]
    rfl
   ·obtain ⟨i,h2⟩:∃ i:Nat,Lib.index l [c]=i:=⟨(Lib.index l [c]).toNat,by omega⟩
    rw [if_neg (by simpa using h1),h2] at hi
    have hi':Lib.index (b::l) [c]=((i+1:Nat):Int):=by rw [hi]; omega
    rw [Lib.count_hit (i:=i) (by simp) h2,Nat.add_comm,Lib.splitK,if_neg (by rw [h2]; simp),h2] at ih
    rw [Lib.count_hit (i:=i+1) (by simp) hi',Nat.add_comm,Lib.splitK,if_neg (by rw [hi']; simp; omega),hi',hs,← ih]
    simp
theorem y3p (s:Bs) (c:UInt8):kn s [c]=spl c s:=by
 unfold kn
 rw [Lib.splitB_data]
 exact z81 c s
section
variable {α:Type} [Inhabited α] [DecidableEq α]
end
theorem z5q {α:Type} {P:List α→Prop} (h0:P []) (h1:∀ l x,P l→P (l++[x])) (l:List α):P l:=by
 have:∀ n (l:List α),l.length=n→P l:=by
  intro n
  induction n with
  | zero=>intro l h; rw [List.eq_nil_of_length_eq_zero h]; exact h0
  | succ n ih =>
   intro l h
   rcases List.eq_nil_or_concat l with rfl | ⟨l',x,rfl⟩
   ·simp at h
   ·rw [List.concat_eq_append]
    exact h1 _ _ (ih l' (by simpa using h))
 exact this _ l rfl
section
variable {σ ρ:Type}
theorem qp {body:σ→Option (σ ⊕ ρ)} {s s':σ} (h:body s=some (.inl s')):iter body s=iter body s':=by
 rw [y0n,h]; rfl
theorem qk {body:σ→Option (σ ⊕ ρ)} {s:σ} {r:ρ} (h:body s=some (.inr r)):iter body s=some r:=by
 rw [y0n,h]; rfl
end
theorem z23 (l:Bs):strN (yl l)=l:=by
 unfold strN yl
 rw [List.map_map]
 conv=>rhs; rw [← List.map_id l]
 refine List.map_congr_left fun c _ => ?_
 simp
theorem z6a (l:Bs):(yl l).length=l.length:=by simp [yl]
theorem y46 (a b:Bs):yl (a++b)=yl a++yl b:=by simp [yl]
theorem y7b (B:Nat) (sep:Bs):∀ l:List Bs,(∀ x,x∈l→x.length≤B)→(Lib.join l sep).length≤l.length * (B+sep.length)
 | [],_=>by simp [Lib.join_nil]
 | x::r,h=>by
  rw [Lib.join_cons,List.length_append]
  have h1:=h x (by simp)
  have h2:(Lib.joinTail sep r).length≤r.length * (B+sep.length):=by
   have:∀ r:List Bs,(∀ x,x∈r→x.length≤B)→(Lib.joinTail sep r).length≤r.length * (B+sep.length):=by
    intro r
    induction r with
    | nil=>intro _; simp [Lib.joinTail]
    | cons y r ih =>
     intro hr
     have h3:=hr y (by simp)
     have h4:=ih fun z hz=>hr z (by simp [hz])
     unfold Lib.joinTail at h4 ⊢
     simp only [List.map_cons,List.flatten_cons,List.length_append,List.length_cons,Nat.succ_mul]
     omega
   exact this r fun y hy=>h y (by simp [hy])
  simp only [List.length_cons,Nat.succ_mul]
  omega
theorem y1x {k:Int} {s:zz} (h:SB k s) (hk:k≤1000000) (m:Nat) (hm:m≤1000) (sep:Bs) (hsep:sep.length≤10) (l:List Bs) (hl:l≠[]∧l.length≤1000) (hB:∀ x,x∈l→x.length≤20) :
  Ok (z1n s (m:Int) sep l) fun r=>r.1.length≤30000∧SB (k+m) r.2:=by
 unfold z1n
 refine ok_g (by omega) ?_
 rw [Int.toNat_natCast]
 refine z02 (fun j (q:List Int×Int×List Bs)=>j≤m∧SB (k+(j:Int)) (zz.mk q.1 q.2.1)∧q.2.2.length≤j∧∀ x,x∈q.2.2→x.length≤20) m 0 _ ⟨by omega,h.mono (by omega),by simp,by simp⟩ ?_ ?_
 ·rintro j ⟨c5,c6,l7⟩ _ hj ⟨h0,h1,h2,h3⟩
  simp only at h1 h2 h3 ⊢
  unfold z4r
  refine yq (Qh h1 (by omega) l hl) fun r hr=>ok_g (by omega) (wa ?_)
  refine ⟨by omega,hr.2.mono (by omega),by simp; omega,fun x hx => ?_⟩
  rcases List.mem_append.1 hx with h | h
  ·exact h3 x h
  ·have:x=r.1:=by simpa using h
   rw [this]; exact hB _ hr.1
 ·rintro ⟨c5,c6,l7⟩ ⟨h0,h1,h2,h3⟩
  simp only at h1 h2 h3 ⊢
  have hj:=y7b 20 sep l7 h3
  have hmm:l7.length * (20+sep.length)≤1000 * 30:=Nat.mul_le_mul (by omega) (by omega)
  unfold z4s
  have hJ:kc l7 sep=some (Lib.join l7 sep):=by
   unfold kc
   rw [if_pos ⟨by omega,by omega⟩]
  rw [hJ]
  exact wa ⟨by simp only; omega,h1.mono (by omega)⟩
theorem y02 (c:UInt8):∀ s:Bs,c ∉ s∨∃ p q,s=p++c::q∧c ∉ p
 | [] => .inl (by simp)
 | x::s=>by
  by_cases h:x=c
  ·exact .inr ⟨[],s,by rw [h]; rfl,by simp⟩
  ·rcases y02 c s with h1 | ⟨p,q,rfl,h1⟩
   ·exact .inl (by simp [h1,Ne.symm h])
   ·exact .inr ⟨x::p,q,rfl,by simp [h1,Ne.symm h]⟩
theorem y0r (c:UInt8):∀ s:Bs,c ∉ s→Lib.index s [c]=-1
 | [],_=>rfl
 | x::s,h=>by
  rw [z4n,if_neg (fun e=>h (by simp [e])),y0r c s (fun e=>h (by simp [e]))]
  try rfl
theorem y0s (c:UInt8) (q:Bs):∀ p:Bs,c ∉ p→Lib.index (p++c::q) [c]=(p.length:Int)
 | [],_=>by rw [List.nil_append,z4n,if_pos rfl]; rfl
 | x::p,h=>by
  rw [List.cons_append,z4n,if_neg (fun e=>h (by simp [e])),y0s c q p (fun e=>h (by simp [e])),if_neg (by simp)]
  simp
theorem y09 (c:UInt8) (s:Bs) (h:c ∉ s):Lib.cut s [c]=(s,[],false):=by
 unfold Lib.cut
 rw [y0r c s h]; rfl
theorem y1a (c:UInt8) (p q:Bs) (h:c ∉ p):Lib.cut (p++c::q) [c]=(p,q,true):=by
 unfold Lib.cut
 rw [y0s c q p h,if_pos (by omega)]
 simp
def trR (c:UInt8) (s:Bs):Bs:=(s.reverse.dropWhile (· == c)).reverse
def trL (c:UInt8) (s:Bs):Bs:=s.dropWhile (· == c)
theorem y2g (c b:UInt8) (l:Bs):trR c (l++[b])=if b=c then trR c l else l++[b]:=by
 unfold trR
 rw [List.reverse_append,List.reverse_singleton,List.singleton_append,List.dropWhile_cons]
 by_cases h:b=c
 ·simp [h]
 ·simp [h]
theorem z8i (c:UInt8) (s:Bs):(trR c s).length≤s.length:=by
 unfold trR
 rw [List.length_reverse]
 have:=(List.dropWhile_sublist (l:=s.reverse) (· == c)).length_le
 simpa using this
theorem z8h (c:UInt8) (s:Bs):s.length≤1000000000→ub s (c.toNat:Int)=some (trR c s):=by
 refine z5q (P:=fun s=>s.length≤1000000000→ub s (c.toNat:Int)=some (trR c s)) (fun _ => ?_) (fun l b ih h => ?_) s
 ·unfold ub
  exact qk rfl
 ·have hl:(l++[b]).length=l.length+1:=by simp
  have e1:wr (((l++[b]).length:Int) - 1)=(l.length:Int):=by rw [hl,wo (by omega)]; omega
  have e2:at? (l++[b]) (l.length:Int)=some b:=by
   unfold at?
   rw [if_pos (by omega),Int.toNat_natCast]; simp
  have e3:sub? (l++[b]) 0 (l.length:Int)=some l:=by
   rw [z5j _ _ (by omega)]; simp
  rw [y2g]
  by_cases hb:b=c
  ·rw [if_pos hb]
   have:=ih (by omega)
   unfold ub at this ⊢
   refine (qp (s':=l) ?_).trans this
   unfold z0p Zc
   rw [if_pos (by simp),e1,e2]
   simp only [Option.bind_some]
   rw [if_pos (by simp [hb]),e3]; rfl
  ·rw [if_neg hb]
   unfold ub
   refine qk ?_
   unfold z0p Zc z0q
   rw [if_pos (by simp),e1,e2]
   simp only [Option.bind_some]
   have hn:¬ (b.toNat:Int)=(c.toNat:Int):=fun h=>hb (UInt8.toNat_inj.1 (by omega))
   rw [if_neg (by simpa using hn)]; rfl
theorem z5c (c:UInt8):∀ s:Bs,s.length≤1000000000→xc s (c.toNat:Int)=some (trL c s)
 | [],_=>by
  unfold xc
  exact qk rfl
 | b::l,h=>by
  simp only [List.length_cons] at h
  have e3:sub? (b::l) 1 ((b::l).length:Int)=some l:=by
   unfold sub?
   rw [if_pos (by simp; omega)]
   simp
  unfold trL
  rw [List.dropWhile_cons]
  by_cases hb:b=c
  ·rw [if_pos (by simp [hb])]
   have:=z5c c l (by omega)
   unfold xc at this ⊢
   refine (qp (s':=l) ?_).trans this
   unfold z0r Zd
   rw [if_pos (by simp),List.getElem?_cons_zero]
   simp only [Option.bind_some]
   rw [if_pos (by simp [hb]),e3]; rfl
  ·rw [if_neg (by simp [hb])]
   unfold xc
   refine qk ?_
   unfold z0r Zd z0s
   rw [if_pos (by simp),List.getElem?_cons_zero]
   simp only [Option.bind_some]
   have hn:¬ (b.toNat:Int)=(c.toNat:Int):=fun h=>hb (UInt8.toNat_inj.1 (by omega))
   rw [if_neg (by simpa using hn)]; rfl
theorem y2d (c:UInt8) (hc:c.toNat < 128) (s:Bs) (h:s.length≤1000000000):Wa s [c]=some (trL c (trR c s)):=by
 unfold Wa Qd
 by_cases h0:s=[]
 ·subst h0; rfl
 ·have:=z8i c s
  rw [if_neg (by simp [h0]),if_pos (by simp),List.getElem?_cons_zero]
  simp only [Option.bind_some]
  rw [if_pos (by simp; omega),z8h c s h]
  simp only [Option.bind_some]
  rw [z5c c _ (by omega)]; rfl
theorem y3n:z1s=some true:=by
 have h1:z3z [47,97,47,46,46,47,98]=some 0:=by decide +kernel
 have h2:z08 [47,97,47,46,46,47,98]=some ([47,97,47,46,46,47,98],true):=by
  unfold z08
  exact Ye.2 ⟨9,by decide +kernel⟩
 have h3:Zu [97,47,46,46,47,98] [47]=some [[97],[46,46],[98]]:=by
  unfold Zu
  rw [if_pos (by decide),y3p]
  decide +kernel
 have h4:sub? ([47,97,47,46,46,47,98]:Bs) 1 7=some [97,47,46,46,47,98]:=by decide +kernel
 have h5:forL (fun (k:Nat) (x:Bs) (s:(List Bs))=>z3l [[97],[46,46],[98]] k x s) (fun (s:(List Bs))=>z3m s) 0 [[97],[46,46],[98]] []=some ([47,98],0):=by decide +kernel
 have h6:z1d [47,97,47,46,46,47,98]=some ([47,98],0):=by
  unfold z1d
  rw [h1]
  simp only [Option.bind_some,ne_eq,not_true_eq_false,decide_false,Bool.false_eq_true,if_false,h2,Bool.not_true]
  show (sub? ([47,97,47,46,46,47,98]:Bs) 1 7).bind _=_
  rw [h4]
  simp only [Option.bind_some]
  rw [h3]
  simp only [Option.bind_some]
  rw [if_pos (by decide)]
  exact h5
 unfold z1s
 rw [h6]; rfl
def tokL:Bs:=[97,98,99,100,101,102,103,104,105,106,107,108,109,110,111,112,113,114,115,116,117,118,119,120,121,122,65,66,67,68,69,70,71,72,73,74,75,76,77,78,79,80,81,82,83,84,85,86,87,88,89,90,48,49,50,51,52,53,54,55,56,57,33,35,36,37,38,39,42,43,45,46,94,95,96,124,126]
def tokB (s:Bs):Bool:=s.all (fun c=>tokL.contains c) && (decide (s≠[]) && decide ((s.length:Int)≤100))
theorem z8j (c:UInt8):Wd (c.toNat:Int)=some (tokL.contains c):=by
 have:=xv (fun c=>decide (Wd (c.toNat:Int)=some (tokL.contains c))) (by decide +kernel) c
 exact of_decide_eq_true this
theorem z1y (s:Bs) (h:s.length≤1000000000):ud s=some (tokB s):=by
 unfold ud
 rw [if_pos h,Yu (p:=fun _ c=>tokL.contains c) (e:=(decide (s≠[]) && decide ((s.length:Int)≤100))) (r0:=false) rfl s 0 (fun j x _ _ => ?_),z2k]
 ·unfold tokB
  cases s.all fun c=>tokL.contains c <;> rfl
 ·unfold z3n
  rw [z8j]
  simp only [Option.bind_some]
  cases tokL.contains x <;> rfl
theorem uo (s:Bs) (h:s.length≤1000000000):kt s=some (tokB s):=by
 unfold kt Wx
 rw [z66]
 simp only [Option.bind_some]
 have ho:=z9q s tokL h
 have hc:(!outP (s.length:Int) 1 100)=(decide (s≠[]) && decide ((s.length:Int)≤100)):=by
  rw [z57]
  cases s with
  | nil=>rfl
  | cons a l=>simp; omega
 rw [hc]
 unfold tokB
 cases (decide (s≠[]) && decide ((s.length:Int)≤100))
 ·simp
 ·simp only [if_true,Bool.and_true]
  show (ue s tokL).bind _=_
  rw [ho]; rfl
def rgB (s:Bs) (lo hi:Int):Bool:=s.all fun c => !outP (c.toNat:Int) lo hi
theorem z61 (s:Bs) (lo hi:Int) (h:s.length≤1000000000):xe s lo hi=some (rgB s lo hi):=by
 unfold xe z3k
 rw [if_pos h,Yu (p:=fun _ c => !outP (c.toNat:Int) lo hi) (e:=true) (r0:=false) rfl s 0 (fun j x _ _ => ?_),z2k]
 ·unfold rgB
  cases s.all fun c => !outP (c.toNat:Int) lo hi <;> rfl
 ·unfold z3j Qs outP
  by_cases h1:(x.toNat:Int) < lo <;> by_cases h2:hi < (x.toNat:Int) <;> simp [h1,h2]
theorem y1z (s:Bs) (lo:Int):z1h s lo=xe s lo 126:=rfl
theorem y4f {s:Bs} {lo:Int} (h:rgB s lo 126=true):ascB s=true:=by
 unfold rgB at h
 unfold ascB
 rw [List.all_eq_true] at h ⊢
 intro c hc
 have:=h c hc
 unfold outP at this
 simp at this ⊢
 omega
def fldB (s:Bs):Bool:=decide ((s.length:Int)≤2000) && (rgB s 32 126 && decide (trL 32 (trR 32 s)=s))
theorem y7l (s:Bs) (h:s.length≤1000000000):Wh s=some (fldB s):=by
 unfold Wh Zs fldB
 rw [z61 s _ _ h]
 by_cases h1:(s.length:Int)≤2000
 ·rw [if_pos (by simpa using h1)]
  simp only [Option.bind_some]
  cases rgB s 32 126
  ·simp
  ·rw [if_pos rfl,y2d 32 (by decide) s h]
   simp [h1]
 ·rw [if_neg (by simpa using h1)]
  simp [h1]
theorem y72 (s:Bs):z35 s=Wh s:=rfl
theorem y77 (c:UInt8):(encL (IntKind.wrap .i32 (c.toNat:Int))).length≤4:=by
 have:=xv (fun c=>decide ((encL (IntKind.wrap .i32 (c.toNat:Int))).length≤4)) (by decide +kernel) c
 exact of_decide_eq_true this
theorem Qc (l:Bs) (a b:Int) (h:0≤a∧a≤b∧b≤(l.length:Int)):Ok (sub? l a b) fun r=>(r.length:Int)=b - a:=by
 unfold sub?
 rw [if_pos h]
 exact wa (by simp; omega)
theorem y8j {k:Int} {s:zz} (h:SB k s) (hk:k≤1000000) (t v:Bs) (ht:t.length≤100000) (hv:v.length≤100000) :
  Ok (z1r s t v) fun r=>r.1.length≤t.length+v.length+4∧SB (k+3) r.2:=by
 unfold z1r
 refine jf (fun _=>wa ⟨by simp only; omega,h.mono (by omega)⟩) (fun h0 => ?_)
 simp only [Bool.or_eq_true,decide_eq_true_eq,not_or] at h0
 have ht0:0 < t.length:=by cases hq:t with | nil=>exact absurd hq h0.1 | cons _ _=>simp
 have hv0:0 < v.length:=by cases hq:v with | nil=>exact absurd hq h0.2 | cons _ _=>simp
 refine yq (kz h (by omega) _ (by omega)) fun r5 h5=>yq (kz h5.2 (by omega) _ (by omega)) fun r7 h7 => ?_
 have b5:=h5.1.2.1 (by omega)
 have b7:=h7.1.2.1 (by omega)
 have c5:=h5.1.1
 have c7:=h7.1.1
 have hat:Ok (at? v r7.1) fun _=>True:=by
  unfold at?
  rw [if_pos c7,List.getElem?_eq_getElem (by omega)]
  exact ⟨_,rfl,trivial⟩
 refine yq hat fun x9 _=>yq (kz h7.2 (by omega) 3 (by omega)) fun r11 h11 => ?_
 have he:=y77 x9
 have hw:wr (r5.1+1)=r5.1+1:=wo (by omega)
 have hS:SB (k+3) r11.2:=h11.2.mono (by omega)
 rw [hw]
 refine jf (fun _ => ?_) (fun _=>jf (fun _ => ?_) (fun _ => ?_))
 ·refine yq (Qc t _ _ ⟨by omega,by omega,by omega⟩) fun l14 h14=>ok_g (by omega) (yq (Qc t _ _ ⟨by omega,by omega,by omega⟩) fun l17 h17=>ok_g (by simp; omega) (wa ⟨by simp; omega,hS⟩))
 ·refine yq (Qc t _ _ ⟨by omega,by omega,by omega⟩) fun l14 h14=>ok_g (by omega) (yq (Qc t _ _ ⟨by omega,by omega,by omega⟩) fun l17 h17=>ok_g (by simp; omega) (wa ⟨by simp; omega,hS⟩))
 ·refine yq (Qc t _ _ ⟨by omega,by omega,by omega⟩) fun l14 h14=>yq (Qc t _ _ ⟨by omega,by omega,by omega⟩) fun l17 h17=>ok_g (by omega) (wa ⟨by simp; omega,hS⟩)
theorem z27 {k:Int} {s:zz} (h:SB k s) (hk:k≤100000000) (B:Nat) (l:List Bs) (hl:l≠[]∧l.length≤1000) (hB:∀ x,x∈l→x.length≤B):Ok (vp s l) fun r=>r.1.length≤B∧SB (k+1) r.2:=
 y41 (Qh h hk l hl) fun r hr=>⟨hB _ hr.1,hr.2⟩
abbrev lo (s:Bs):Bs:=Lib.toLowerA s
abbrev ddL:Bs:=[48,49,50,51,52,53,54,55,56,57]
def isD (c:UInt8):Bool:=ddL.contains c
def dv (c:UInt8):Nat:=c.toNat - 48
def dgD (n:Nat):UInt8:=UInt8.ofNat (48+n)
theorem kw (u:Nat):Lib.decDigits u=if u < 10 then [dgD u] else Lib.decDigits (u / 10)++[dgD (u % 10)]:=by
 rw [Lib.decDigits]; rfl
theorem z41 (c:UInt8) (h:isD c=true):dgD (dv c)=c∧dv c < 10∧(dv c=0→c=48)∧48≤c.toNat∧c.toNat≤57:=by
 have:=xv (fun c => !isD c || decide (dgD (dv c)=c∧dv c < 10∧(dv c=0→c=48)∧48≤c.toNat∧c.toNat≤57)) (by decide +kernel) c
 rw [h] at this
 exact of_decide_eq_true (by simpa only [Bool.not_true,Bool.false_or] using this)
theorem z7e (n:Nat) (h:n < 10):isD (dgD n)=true∧dv (dgD n)=n∧(dgD n=48→n=0):=by
 have:∀ n,n < 10→isD (dgD n)=true∧dv (dgD n)=n∧(dgD n=48→n=0):=by decide +kernel
 exact this n h
def nvB (l:Bs):Nat:=l.foldl (fun a c=>a * 10+dv c) 0
theorem z9v (l:Bs) (c:UInt8):nvB (l++[c])=nvB l * 10+dv c:=by simp [nvB,List.foldl_append]
theorem y8c:∀ u:Nat,Lib.decDigits u=[48]∨∃ c t,Lib.decDigits u=c::t∧c≠48:=by
 intro u
 induction u using Nat.strongRecOn with
 | _ u ih =>
  rw [kw]
  split
  ·rename_i h
   by_cases h0:dgD u=48
   ·exact .inl (by rw [h0])
   ·exact .inr ⟨_,_,rfl,h0⟩
  ·rename_i h
   rcases ih (u / 10) (by omega) with h1 | ⟨c,t,h1,h2⟩
   ·exfalso
    have h3:u / 10 < 10∧dgD (u / 10)=48:=by
     rw [kw] at h1
     split at h1
     ·rename_i h4; exact ⟨h4,by simpa using h1⟩
     ·have:=congrArg List.length h1
      simp only [List.length_append,List.length_singleton] at this
      have h5:Lib.decDigits (u / 10 / 10)=[]:=List.length_eq_zero_iff.1 (by omega)
      rw [kw] at h5
      split at h5 <;> simp at h5
    have:=(z7e _ h3.1).2.2 h3.2
    omega
   ·exact .inr ⟨c,t++[dgD (u % 10)],by rw [h1]; rfl,h2⟩
theorem y8d:∀ u:Nat,(Lib.decDigits u).all isD=true:=by
 intro u
 induction u using Nat.strongRecOn with
 | _ u ih =>
  rw [kw]
  split
  ·rename_i h
   simp [(z7e u h).1]
  ·rename_i h
   rw [List.all_append,ih (u / 10) (by omega)]
   simp [(z7e (u % 10) (Nat.mod_lt _ (by decide))).1]
theorem y8e:∀ (k u:Nat),u < 10 ^ (k+1)→(Lib.decDigits u).length≤k+1:=by
 intro k
 induction k with
 | zero =>
  intro u h
  rw [kw,if_pos (by simpa using h)]; simp
 | succ k ih =>
  intro u h
  rw [kw]
  split
  ·simp
  ·have:u / 10 < 10 ^ (k+1):=by
    rw [Nat.div_lt_iff_lt_mul (by decide)]
    rw [Nat.pow_succ] at h; exact h
   have:=ih _ this
   simp; omega
def canD (s:Bs):Bool:=s.all isD && (decide (s=[48]) || decide (s.head?≠some 48∧s≠[]))
theorem y8k (u:Nat):canD (Lib.decDigits u)=true:=by
 unfold canD
 rw [y8d]
 rcases y8c u with h | ⟨c,t,h,hc⟩
 ·rw [h]; decide
 ·rw [h]; simp [hc]
theorem y07 (s:Bs):canD s=true→Lib.decDigits (nvB s)=s∧(1≤nvB s∨s=[48]):=by
 refine z5q (P:=fun s=>canD s=true→Lib.decDigits (nvB s)=s∧(1≤nvB s∨s=[48])) (by decide) (fun p d ih h => ?_) s
 unfold canD at h
 simp only [Bool.and_eq_true,Bool.or_eq_true,decide_eq_true_eq,List.all_append,List.all_cons,List.all_nil,Bool.and_true] at h
 obtain ⟨⟨hp,hd⟩,hh⟩:=h
 obtain ⟨d1,d2,d3,_⟩:=z41 d hd
 cases p with
 | nil =>
  have e:nvB ([]++[d])=dv d:=by simp [nvB]
  rw [e,kw,if_pos d2,d1]
  refine ⟨rfl,?_⟩
  by_cases h0:dv d=0
  ·exact .inr (by rw [d3 h0]; rfl)
  ·exact .inl (by omega)
 | cons c t =>
  have hc:c≠48:=by
   rcases hh with h1 | ⟨h1,_⟩
   ·have:=congrArg List.length h1; simp at this
   ·intro h2; rw [h2] at h1; exact h1 rfl
  have hcan:canD (c::t)=true:=by
   unfold canD
   rw [hp]
   simp [hc]
  obtain ⟨i1,i2⟩:=ih hcan
  have i3:1≤nvB (c::t):=by
   rcases i2 with h | h
   ·exact h
   ·exact absurd (List.cons.inj h).1 hc
  rw [z9v]
  have e1:(nvB (c::t) * 10+dv d) / 10=nvB (c::t):=by omega
  have e2:(nvB (c::t) * 10+dv d) % 10=dv d:=by omega
  rw [kw,if_neg (by omega),e1,e2,i1,d1]
  exact ⟨rfl,.inl (by omega)⟩
theorem z9w:∀ (k:Nat) (s:Bs),s.all isD=true→s.length≤k→nvB s < 10 ^ k:=by
 intro k
 induction k with
 | zero=>intro s _ h; obtain rfl:s=[]:=List.length_eq_zero_iff.1 (by omega); decide
 | succ k ih =>
  intro s
  refine z5q (P:=fun s=>s.all isD=true→s.length≤k+1→nvB s < 10 ^ (k+1)) (fun _ _=>Nat.pow_pos (by decide)) (fun p d _ h1 h2 => ?_) s
  simp only [List.all_append,List.all_cons,List.all_nil,Bool.and_true,Bool.and_eq_true] at h1
  have h3:=ih p h1.1 (by simp at h2; omega)
  have h4:=(z41 d h1.2).2.1
  rw [z9v,Nat.pow_succ]
  omega
theorem atL (E:Int→Option (Int×Int)):∀ (s:Bs) (k j v:Nat),s.all isD=true→j+s.length≤18→v < 10 ^ j →
  forL (fun (k:Nat) (x:Int) (q:Int)=>Wt k x q) E k (yl s) (v:Int)=E ((s.foldl (fun a c=>a * 10+dv c) v:Nat):Int)
 | [],k,j,v,_,_,_=>rfl
 | c::s,k,j,v,h,hj,hv=>by
  simp only [List.all_cons,Bool.and_eq_true] at h
  simp only [List.length_cons] at hj
  obtain ⟨_,hd,_,hc1,hc2⟩:=z41 c h.1
  have h9:10 ^ j≤10 ^ 17:=Nat.pow_le_pow_right (by decide) (by omega)
  have e17:(10:Nat) ^ 17=100000000000000000:=by decide
  have ew:IntKind.wrap .u8 ((c.toNat:Int) - 48)=(dv c:Int):=by
   have:=xv (fun c => !isD c || decide (IntKind.wrap .u8 ((c.toNat:Int) - 48)=(dv c:Int))) (by decide +kernel) c
   rw [h.1] at this
   exact of_decide_eq_true (by simpa only [Bool.not_true,Bool.false_or] using this)
  have ei:IntKind.wrap .i64 (dv c:Int)=(dv c:Int):=wo (by omega)
  have e1:wr ((v:Int) * 10)=(v:Int) * 10:=wo (by omega)
  have e2:wr ((v:Int) * 10+(dv c:Int))=((v * 10+dv c:Nat):Int):=by rw [wo (by omega)]; omega
  show (Wt k (c.toNat:Int) (v:Int)).bind _=_
  unfold Wt
  rw [ew,if_neg (by simp; omega),ei,e1,e2]
  simp only [Option.bind_some,after]
  exact (atL E s (k+1) (j+1) (v * 10+dv c) h.2 (by omega) (by rw [Nat.pow_succ]; omega)).trans rfl
theorem atJ (s t:Bs) (ht:t.all isD=true) (hl:t.length≤17):Yh s t=Yi s (nvB t:Int):=by
 unfold Yh
 rw [if_pos (by rw [z6a]; omega)]
 exact atL (fun q=>Yi s q) t 0 0 0 ht (by omega) (by decide)
theorem d43 (c:UInt8) (h:isD c=true):(c.toNat:Int)≠45∧(c.toNat:Int)≠43:=by
 have:=(z41 c h).2.2.2
 omega
theorem z2g (t:Bs) (ht:t.all isD=true) (hne:t≠[]) (hl:t.length≤17):jr t=some ((nvB t:Int),0):=by
 have hi:Zz t=some ((nvB t:Int),0):=by
  cases t with
  | nil=>exact absurd rfl hne
  | cons c r =>
   have hc:isD c=true:=by simp only [List.all_cons,Bool.and_eq_true] at ht; exact ht.1
   have h4:=d43 c hc
   unfold Zz
   rw [if_pos (by simp at hl ⊢; omega)]
   simp only [List.getElem?_cons_zero,Option.bind_some]
   rw [if_neg (by simpa using h4.1)]
   unfold Yg
   rw [if_neg (by simpa using h4.2),atJ _ _ ht hl]
   unfold Yi Yf
   simp only [List.getElem?_cons_zero,Option.bind_some]
   rw [if_neg (by simpa using h4.1)]
 unfold jr
 rw [hi]; rfl
theorem y89 (t:Bs) (ht:t.all isD=true) (hne:t≠[]) (hl:t.length≤17):jr (45::t)=some (-(nvB t:Int),0):=by
 have hln:1≤t.length:=by cases t with | nil=>exact absurd rfl hne | cons _ _=>simp
 have hv:=z9w 17 t ht hl
 have e17:(10:Nat) ^ 17=100000000000000000:=by decide
 have hi:Zz (45::t)=some (-(nvB t:Int),0):=by
  have hsub:sub? ((45:UInt8)::t) 1 (((45:UInt8)::t).length:Int)=some t:=by
   unfold sub?
   rw [if_pos (by simp only [List.length_cons]; omega),List.take_of_length_le (by simp)]; rfl
  unfold Zz
  rw [if_pos (by simp at hl ⊢; omega)]
  simp only [List.getElem?_cons_zero,Option.bind_some]
  rw [if_pos (by decide)]
  unfold Yg
  rw [if_pos rfl,hsub]
  simp only [Option.bind_some]
  rw [if_neg (by simp; omega),atJ _ _ ht hl]
  unfold Yi Yf
  simp only [List.getElem?_cons_zero,Option.bind_some]
  rw [if_pos (by decide),if_pos (by omega)]
 unfold jr
 rw [hi]; rfl
def tlB (s:Bs):Bs:=Lib.trimPrefix s [45]
def valB (s:Bs):Int:=if s.head?=some 45 then -(nvB (tlB s):Int) else (nvB s:Int)
def okN (m:Nat) (s:Bs):Bool:=(tlB s).all isD && (decide (tlB s≠[]∧(tlB s).length≤m) && decide ((tlB s).head?≠some 48∨s=[48]))
theorem z22 (c:UInt8) (r:Bs):tlB (c::r)=if c=45 then r else c::r:=by
 unfold tlB Lib.trimPrefix Lib.hasPrefix
 by_cases h:c=45
 ·subst h; simp [List.isPrefixOf]
 ·have:((45:UInt8) == c)=false:=by simpa using fun e:(45:UInt8)=c=>h e.symm
  simp [List.isPrefixOf,this,h]
theorem z74 (r:Bs):valB (45::r)=-(nvB r:Int):=by simp [valB,z22]
theorem z73 (c:UInt8) (r:Bs) (h:c≠45):valB (c::r)=(nvB (c::r):Int):=by simp [valB,h]
theorem y88 (s:Bs) (ht:(tlB s).all isD=true) (hne:tlB s≠[]) (hl:(tlB s).length≤17):jr s=some (valB s,0):=by
 cases s with
 | nil=>exact absurd rfl hne
 | cons c r =>
  rw [z22] at ht hne hl
  by_cases h:c=45
  ·subst h
   rw [if_pos rfl] at ht hne hl
   rw [z74]
   exact y89 r ht hne hl
  ·rw [if_neg h] at ht hne hl
   rw [z73 c r h]
   exact z2g (c::r) ht hne hl
theorem y0y {α ρ:Type} {body:Nat→α→Unit→Option (Unit ⊕ ρ)} {fin:Unit→Option ρ} {p:α→Bool} {r0:ρ} (h:∀ j x,body j x ()=if p x then some (.inl ()) else some (.inr r0)):∀ (l:List α) (k:Nat),l.all p=false→forL body fin k l ()=some r0
 | [],k,hl=>by cases hl
 | x::l,k,hl=>by
  show (body k x ()).bind _=_
  rw [h k x]
  cases hp:p x
  ·simp [after]
  ·rw [List.all_cons,hp,Bool.true_and] at hl
   simp only [if_true,Option.bind_some,after]
   exact y0y h l (k+1) hl
theorem y2i (s:Bs):(tlB s).length≤s.length:=by
 unfold tlB Lib.trimPrefix
 split
 ·simp
 ·exact Nat.le_refl _
theorem y5r (s:Bs) (m:Nat) (hm:m≤17) (hs:s.length≤1000000):z1g s (m:Int)=some (if okN m s then valB s else 0,okN m s):=by
 have hJ:vr s (tlB s) true=some (0,false):=rfl
 have htl:=y2i s
 have hb:∀ (j:Nat) (x:UInt8),z1u j x=if isD x then some (.inl ()) else some (.inr (0,false)):=fun j x=>by
  have:=xv (fun x=>decide (z1u 0 x=if isD x then some (.inl ()) else some (.inr (0,false)))) (by decide +kernel) x
  exact of_decide_eq_true this
 unfold z1g z3o
 simp only [Option.bind_some]
 show (if decide (tlB s=[]) then vr s (tlB s) true else if decide ((m:Int) < ((tlB s).length:Int)) then vr s (tlB s) true else ((tlB s)[0]?).bind fun x9=>if decide ((x9.toNat:Int)=48) then vr s (tlB s) (decide (s≠[48])) else vr s (tlB s) false)=_
 by_cases h0:tlB s=[]
 ·rw [if_pos (by simpa using h0),hJ]
  have:okN m s=false:=by unfold okN; rw [h0]; simp
  rw [this]; rfl
 rw [if_neg (by simpa using h0)]
 by_cases hl:m < (tlB s).length
 ·rw [if_pos (by simp; omega),hJ]
  have:okN m s=false:=by
   unfold okN
   rw [show decide (tlB s≠[]∧(tlB s).length≤m)=false from by simp; intro; omega]
   simp
  rw [this]; rfl
 rw [if_neg (by simp; omega)]
 have hlm:decide (tlB s≠[]∧(tlB s).length≤m)=true:=by simp only [decide_eq_true_eq]; exact ⟨h0,by omega⟩
 have hall:vr s (tlB s) false=some (if (tlB s).all isD then valB s else 0,(tlB s).all isD):=by
  unfold vr
  rw [if_neg (by simp),if_pos (by omega)]
  cases hd:(tlB s).all isD
  ·exact y0y (p:=isD) hb (tlB s) 0 hd
  ·have hf:Wj s=some (valB s,true):=by
    unfold Wj
    rw [y88 s hd h0 (by omega)]; rfl
   rw [Yu (fin:=fun (s_1:Unit)=>Wj s) (e:=(valB s,true)) (p:=fun _ c=>isD c) (r0:=(0,false)) hf (tlB s) 0 (fun j x _ _=>hb j x),z2k,hd]
   rfl
 cases hc:tlB s with
 | nil=>exact absurd hc h0
 | cons c r =>
  rw [hc] at hall hlm h0
  simp only [List.getElem?_cons_zero,Option.bind_some]
  have hok:okN m s=((c::r).all isD && decide ((c::r).head?≠some 48∨s=[48])):=by
   unfold okN
   rw [hc,hlm]; simp
  by_cases h48:c=48
  ·rw [if_pos (by rw [h48]; decide)]
   by_cases hs48:s=[48]
   ·rw [show decide (s≠[48])=false from by simpa using hs48,hall,hok]
    simp [hs48]
   ·rw [show decide (s≠[48])=true from by simpa using hs48]
    have:okN m s=false:=by rw [hok]; simp [h48,hs48]
    rw [this]; rfl
  ·have hcn:¬ ((c.toNat:Int)=48):=fun h=>h48 (UInt8.toNat_inj.1 (by simp; omega))
   rw [if_neg (by simpa using hcn),hall,hok]
   simp [h48]
theorem z7f (s:Bs) (c:UInt8):(Lib.cut s [c]).1.length≤s.length∧(Lib.cut s [c]).2.1.length≤s.length∧(∀ x,x∈(Lib.cut s [c]).1→x∈s)∧∀ x,x∈(Lib.cut s [c]).2.1→x∈s:=by
 unfold Lib.cut
 split
 ·exact ⟨by simp; omega,by simp,fun x hx=>List.mem_of_mem_take hx,fun x hx=>List.mem_of_mem_drop hx⟩
 ·exact ⟨Nat.le_refl _,by simp,fun x hx=>hx,fun x hx=>by cases hx⟩
theorem y1k {s t:Bs} (h:ascB s=true) (hm:∀ c,c∈t→c∈s):ascB t=true:=by
 unfold ascB at h ⊢
 refine List.all_eq_true.2 fun c hc=>List.all_eq_true.1 h c (hm c hc)
theorem y0m {n:Int} (h:0≤n):Lib.itoa n=Lib.decDigits n.toNat:=by
 unfold Lib.itoa
 rw [if_neg (by omega)]
theorem y7f {n:Int} (h:0≤n) (h2:n < 100000000000000000):(Lib.itoa n).length≤17:=by
 rw [y0m h]
 exact y8e 16 _ (by omega)
section
end
end Go.Proofs.YtpjjkhcojjcdpaaGreatDoor
