import Derived.Test.YtbpedjpoikmbjaaGreatDoorMc
import Derived.Test.YtbpedjpoikmbjaaGreatDoorXkm
import Derived.Test.YtbpedjpoikmbjaaGreatDoorRng
namespace Go.Proofs.YtbpedjpoikmbjaaGreatDoor
set_option linter.unusedVariables false
set_option maxRecDepth 20000
section
variable {α β σ ρ:Type}
def Ok (o:Option α) (Q:α->Prop):Prop:=∃ x,o=some x/\Q x
variable {o a b:Option α} {Q Q':α->Prop}
theorem qt {x:α} (h:Q x):Ok (some x) Q:=⟨x,rfl,h⟩
theorem ym {f:α->Option β} {R:β->Prop} (h:Ok o Q) (k:∀ x,Q x->Ok (f x) R):Ok (o.bind f) R:=by
 obtain⟨x,rfl,hx⟩:=h;exact k x hx
theorem wv {c:Prop} [Decidable c] (h1:c->Ok a Q) (h2:¬ c->Ok b Q):Ok (if c then a else b) Q:=by
 by_cases h:c
 ·rw [if_pos h];exact h1 h
 ·rw [if_neg h];exact h2 h
theorem ok_g {c:Prop} [Decidable c] (hc:c) (h:Ok a Q):Ok (if c then a else none) Q:=by rw [if_pos hc];exact h
theorem z9b (h:Ok o Q) (k:∀ x,Q x->Q' x):Ok o Q':=let ⟨x,h1,h2⟩:=h;⟨x,h1,k x h2⟩
theorem w2z {x:α} (h:Ok o (· = x)):o=some x:=by obtain⟨y,h1,h2⟩:=h;rw [h1,h2]
def rd (I:σ->Prop) (Q:ρ->Prop):σ ⊕ ρ->Prop
 | .inl s=>I s
 | .inr r=>Q r
theorem z5g {body:Nat->α->σ->Option (σ ⊕ ρ)} {fin:σ->Option ρ} {R:ρ->Prop} (I:Nat->σ->Prop):∀ (l:List α) (k:Nat) (s:σ),I k s ->
  (∀ j x s,k<=j->l[j-k]?=some x->I j s->Ok (body j x s) (rd (I (j+1)) R))->(∀ s,I (k+l.length) s->Ok (fin s) R)->Ok (forL body fin k l s) R
 | [],k,s,h0,hs,hf=>hf s h0
 | x::l,k,s,h0,hs,hf=>by
  refine ym (hs k x s (Nat.le_refl _) (by simp) h0) λq hq=>?_
  cases q with
  | inl s' =>
   refine z5g I l (k+1) s' hq (λj y s hj hy hi=>hs j y s (by omega) ?_ hi) (λs hi=>hf s ?_)
   ·obtain⟨m,hm⟩:∃ m,j-k=m+1:=⟨j-k-1,by omega⟩
    rw [hm,List.getElem?_cons_succ];have:j-(k+1)=m:=by omega
    rw [this] at hy;exact hy
   ·simp only [List.length_cons];have:k+(l.length+1)=k+1+l.length:=by omega
    rw [this];exact hi
  | inr r=>exact⟨r,rfl,hq⟩
theorem z5f {body:Nat->σ->Option (σ ⊕ ρ)} {fin:σ->Option ρ} {R:ρ->Prop} (I:Nat->σ->Prop):∀ (n k:Nat) (s:σ),I k s ->
  (∀ j s,k<=j->j < k+n->I j s->Ok (body j s) (rd (I (j+1)) R))->(∀ s,I (k+n) s->Ok (fin s) R)->Ok (rng body fin n k s) R
 | 0,k,s,h0,hs,hf=>hf s h0
 | n+1,k,s,h0,hs,hf=>by
  refine ym (hs k s (Nat.le_refl _) (by omega) h0) λq hq=>?_
  cases q with
  | inl s'=>exact z5f I n (k+1) s' hq (λj s hj hy hi=>hs j s (by omega) (by omega) hi) (λs hi=>hf s (by rw [show k+(n+1)=k+1+n by omega];exact hi))
  | inr r=>exact⟨r,rfl,hq⟩
theorem y8l {body:σ->Option (σ ⊕ ρ)} {R:ρ->Prop} (I:σ->Prop) (μ:σ->Nat) (step:∀ s,I s->Ok (body s) (rd (λs'=>I s'/\μ s' < μ s) R)) (s:σ) (h:I s):Ok (iter body s) R:=by
 have key:∀ n s,μ s < n->I s->Ok (iter body s) R:=by
  intro n
  induction n with
  | zero=>intro s h;omega
  | succ n ih =>
   intro s hn hi;rw [w6s];refine ym (step s hi) λq hq=>?_
   cases q with
   | inl s'=>exact ih s' (by have:=hq.2;omega) hq.1
   | inr r=>exact⟨r,rfl,hq⟩
 exact key _ s (Nat.lt_succ_self _) h
end

section
variable {α ρ:Type}
def allI (p:Nat->α->Bool):Nat->List α->Bool
 | _,[]=>true
 | k,x::l=>p k x && allI p (k+1) l
theorem z1h {body:Nat->α->Unit->Option (Unit ⊕ ρ)} {fin:Unit->Option ρ} {p:Nat->α->Bool} {e r0:ρ} (hf:fin ()=some e):∀ (l:List α) (k:Nat),(∀ j x,k<=j->l[j-k]?=some x->body j x ()=if p j x then some (.inl ()) else some (.inr r0))->forL body fin k l ()=some (if allI p k l then e else r0)
 | [],k,h=>by simp only [forL,allI,if_true];exact hf
 | x::l,k,h=>by
  have h1:=h k x (Nat.le_refl _) (by simp);show (body k x ()).bind _=_;rw [h1];cases hp:p k x
  ·simp [allI,hp,after]
  ·simp only [allI,hp,Bool.true_and,if_true,Option.bind_some,after];refine z1h hf l (k+1) λj y hj hy=>h j y (by omega) ?_;obtain⟨m,hm⟩:∃ m,j-k=m+1:=⟨j-k-1,by omega⟩
   rw [hm,List.getElem?_cons_succ];have:j-(k+1)=m:=by omega
   rw [this] at hy;exact hy
def feI (e:Nat->α->Int):Nat->List α->Int
 | _,[]=>0
 | k,x::l=>if e k x≠0 then e k x else feI e (k+1) l
theorem z3x {body:Nat->α->Unit->Option (Unit ⊕ Int)} {fin:Unit->Option Int} {e:Nat->α->Int} (hf:fin ()=some 0):∀ (l:List α) (k:Nat),(∀ j x,k<=j->l[j-k]?=some x->body j x ()=if e j x≠0 then some (.inr (e j x)) else some (.inl ()))->forL body fin k l ()=some (feI e k l)
 | [],k,h=>by simp only [forL,feI];exact hf
 | x::l,k,h=>by
  have h1:=h k x (Nat.le_refl _) (by simp);show (body k x ()).bind _=_;rw [h1]
  by_cases hp:e k x≠0
  ·simp [feI,hp,after]
  ·simp only [feI,hp,if_false,Option.bind_some,after];refine z3x hf l (k+1) λj y hj hy=>h j y (by omega) ?_;obtain⟨m,hm⟩:∃ m,j-k=m+1:=⟨j-k-1,by omega⟩
   rw [hm,List.getElem?_cons_succ];have:j-(k+1)=m:=by omega
   rw [this] at hy;exact hy
end

def leB (a b:Bs):Bool:=Op.bytesLess a b || a == b
def outP (n lo hi:Int):Bool:=decide (n < lo) || decide (hi < n)
theorem w2p (n lo hi:Int):outP n lo hi = !(decide (lo<=n) && decide (n<=hi)):=by
 unfold outP
 by_cases h1:n < lo
 ·have:¬ lo<=n:=by omega
  simp [h1,this]
 ·have h1':lo<=n:=by omega
  by_cases h2:hi < n
  ·have:¬ n<=hi:=by omega
   simp [h1',h2,this]
  ·have:n<=hi:=by omega
   simp [h1,h1',h2,this]
theorem x8z {n:Int} (h:0<=n/\n<=18446744073709551615):IntKind.wrap .u64 n=n:=by
 unfold IntKind.wrap;simp [IntKind.bits,IntKind.signed];omega
theorem w66 {m:Int} (h:0<=m/\m<=1000000000):IntKind.wrap .i64 (shr_ .u64 (IntKind.wrap .u64 (wr m)) 1)=m / 2:=by
 rw [wb (n:=m) (by omega),x8z (by omega)]
 have e1:shr_ .u64 m 1=m / 2:=by
  show m.fdiv (2 ^ (min (1:Int).toNat IntKind.u64.bits))=_;have:min (1:Int).toNat IntKind.u64.bits=1:=by decide
  rw [this];rw [Int.fdiv_eq_ediv_of_nonneg _ (by decide)];rfl
 rw [e1];exact wb (by omega)

theorem w3p (a b:Bs) (h:leB a b=false):cmpL b a < 0:=by
 unfold leB at h;rw [y86] at h;simp at h;have h1:=x0z a b;have h2:=y5p a b;have h3:=(ka a b)
 have:cmpL a b≠0:=λh0=>h.2 (h3.1 h0);omega

section
variable {α β:Type}
theorem x1r (q:α->Bool):∀ (l:List α) (k:Nat),allI (λ_ x=>q x) k l=l.all q
 | [],k=>rfl
 | x::l,k=>by simp only [allI,List.all_cons,x1r q l (k+1)]
def gIdx (l:List α) (p:α->Option Bool):Option Int:=if l.length<=1000000000 then forL (λ(k:Nat) (x:α) (s:Unit)=>(p x).bind λr=>if r then (some (.inr (k:Int))) else (some (.inl ()))) (λ_=>some (-1)) 0 l () else none
def fdx (q:α->Bool):Nat->List α->Int
 | _,[]=>-1
 | k,x::l=>if q x then (k:Int) else fdx q (k+1) l
theorem y1d (l:List α) {p:α->Option Bool} (q:α->Bool) (hl:l.length<=1000000000) (hp:∀ x,x∈l->p x=some (q x)):gIdx l p=some (fdx q 0 l):=by
 unfold gIdx;rw [if_pos hl]
 have:∀ (l:List α) (k:Nat),(∀ x,x∈l->p x=some (q x))->forL (λ(k:Nat) (x:α) (s:Unit)=>(p x).bind λr=>if r then (some (.inr (k:Int))) else (some (.inl ()))) (λ_=>some (-1)) k l ()=some (fdx q k l):=by
  intro l
  induction l with
  | nil=>intro k _;rfl
  | cons x l ih =>
   intro k hp;have h1:=hp x (by simp);show Option.bind ((p x).bind _) _=_;rw [h1];cases hq:q x
   ·simp only [Option.bind_some,after,fdx,hq,if_false,Bool.false_eq_true];exact ih (k+1) λy hy=>hp y (List.mem_cons_of_mem _ hy)
   ·simp [after,fdx,hq]
 exact this l 0 hp
theorem x0f (q:α->Bool):∀ (l:List α) (k:Nat),(fdx q k l < 0↔l.any q=false)/\(0<=fdx q k l->(k:Int)<=fdx q k l/\∃ x,l[(fdx q k l).toNat-k]?=some x/\q x=true)
 | [],k=>⟨by simp [fdx],λh=>by simp [fdx] at h⟩
 | x::l,k=>by
  obtain⟨h1,h2⟩:=x0f q l (k+1);cases hq:q x
  ·simp only [fdx,hq,if_false,Bool.false_eq_true,List.any_cons,Bool.false_or];refine⟨h1,λh=>?_⟩;obtain⟨h3,y,h4,h5⟩:=h2 h;refine⟨by omega,y,?_,h5⟩;have:(fdx q (k+1) l).toNat-k=((fdx q (k+1) l).toNat-(k+1))+1:=by omega
   rw [this,List.getElem?_cons_succ];exact h4
  ·simp only [fdx,hq,if_true,List.any_cons,Bool.true_or];refine⟨by simp,λ_=>⟨by omega,x,by simp,hq⟩⟩
theorem z1i (q:α->Bool) (l:List α):decide (fdx q 0 l < 0) = !l.any q:=by
 have h:=(x0f q l 0).1;cases hq:l.any q
 ·rw [hq] at h;simpa using h
 ·rw [hq] at h;simpa using h
theorem y5f (q:α->Bool) (l:List α):decide (0<=fdx q 0 l)=l.any q:=by
 have h:=z1i q l;cases hq:l.any q
 ·rw [hq] at h;simp at h ⊢;omega
 ·rw [hq] at h;simp at h ⊢;omega
theorem y5g (q:α->Bool) (l:List α) (h:l.any q=true):0<=fdx q 0 l/\∃ x,at? l (fdx q 0 l)=some x/\l[(fdx q 0 l).toNat]?=some x/\q x=true:=by
 have h1:=y5f q l;rw [h] at h1;have h2:0<=fdx q 0 l:=by simpa using h1
 obtain⟨_,x,h3,h4⟩:=(x0f q l 0).2 h2;have h3:l[(fdx q 0 l).toNat]?=some x:=by simpa using h3
 exact⟨h2,x,by unfold at?;rw [if_pos h2];exact h3,h3,h4⟩
def gCon (l:List α) (p:α->Option Bool):Option Bool:=(gIdx l p).bind λr=>some (decide (0<=r))
theorem x6w (l:List α) {p:α->Option Bool} (q:α->Bool) (hl:l.length<=1000000000) (hp:∀ x,x∈l->p x=some (q x)):gCon l p=some (l.any q):=by
 unfold gCon;rw [y1d l q hl hp];simp only [Option.bind_some,y5f]
def gEql (ne:α->α->Bool) (a b:List α):Option Bool:=if decide ((a.length:Int)≠(b.length:Int)) then some false else (if a.length<=1000000000 then forL (λ(k:Nat) (x:α) (s:Unit)=>(b[k]?).bind λy=>if ne x y then (some (.inr false)) else (some (.inl ()))) (λ_=>some true) 0 a () else none)
theorem w7j (ne:α->α->Bool) (hne:∀ x,ne x x=false) (a:List α) (h:a.length<=1000000000):gEql ne a a=some true:=by
 unfold gEql;rw [if_neg (by simp),if_pos h];rw [z1h (p:=λ_ _=>true) (r0:=false) (e:=true) rfl a 0 λj x _ hj=>?_]
 ·have:∀ (l:List α) k,allI (λ(_:Nat) (_:α)=>true) k l=true:=by
   intro l;induction l with
   | nil=>intro k;rfl
   | cons x l ih=>intro k;simp [allI,ih]
  rw [this];rfl
 ·have:a[j]?=some x:=by simpa using hj
  simp only [this,Option.bind_some,hne,Bool.false_eq_true,if_false,if_true]
noncomputable def gBin (x1:List α) (t:β) (p2:α->β->Option Int):Option (Int×Bool):=iter (λ(s:Int×Int)=>if decide (s.1 < s.2) then ((at? x1 (IntKind.wrap .i64 (shr_ .u64 (IntKind.wrap .u64 (wr (s.1+s.2))) 1))).bind λ(x7:α)=>(p2 x7 t).bind λ(r9:Int)=>if decide (r9 < 0) then (some (.inl (wr ((IntKind.wrap .i64 (shr_ .u64 (IntKind.wrap .u64 (wr (s.1+s.2))) 1))+1),s.2))) else (some (.inl (s.1,IntKind.wrap .i64 (shr_ .u64 (IntKind.wrap .u64 (wr (s.1+s.2))) 1))))) else (Option.map .inr (if decide (s.1 < (x1.length:Int)) then ((at? x1 s.1).bind λ(x15:α)=>(p2 x15 t).bind λ(r17:Int)=>some (s.1,decide (r17=0))) else (some (s.1,false))))) (0,(x1.length:Int))
def kr (f:α->Bs) (l:List α):Prop:=l.Pairwise λx y=>cmpL (f x) (f y) < 0
theorem z83 {f:α->Bs} {xs:List α} (h:kr f xs) {i j:Nat} {x y:α} (hi:xs[i]?=some x) (hj:xs[j]?=some y) (hij:i < j):cmpL (f x) (f y) < 0:=by
 obtain⟨h1,e1⟩:=List.getElem?_eq_some_iff.1 hi;obtain⟨h2,e2⟩:=List.getElem?_eq_some_iff.1 hj;have:=List.pairwise_iff_getElem.1 h i j h1 h2 hij;rw [e1,e2] at this;exact this
theorem x66 {f:α->Bs} {xs:List α} (h:kr f xs) {key:Bs} {i:Nat} {x:α} (hi:xs[i]?=some x) (hk:f x=key):fdx (λy=>decide (f y=key)) 0 xs=(i:Int):=by
 have hany:(xs.any λy=>decide (f y=key))=true:=List.any_eq_true.2 ⟨x,List.mem_of_getElem? hi,by simpa using hk⟩;obtain⟨h1,y,_,h2,h3⟩:=y5g _ xs hany;have h3:f y=key:=by simpa using h3
 rcases Nat.lt_trichotomy (fdx (λy=>decide (f y=key)) 0 xs).toNat i with hq|hq|hq
 ·have:=z83 h h2 hi hq;rw [h3,hk,(ka key key).2 rfl] at this;omega
 ·omega
 ·have:=z83 h hi h2 hq;rw [h3,hk,(ka key key).2 rfl] at this;omega
theorem y98 (f:α->Bs) (xs:List α) (key:Bs) {p:α->Bs->Option Int} (h:xs.length<=100000000) (hp:∀ x,x∈xs->p x key=some (cmpL (f x) key)) (hs:kr f xs) :
  Ok (gBin xs key p) λr=>r.2=(xs.any λx=>decide (f x=key))/\(r.2=true->r.1=fdx (λx=>decide (f x=key)) 0 xs):=by
 unfold gBin;refine y8l (λs:Int×Int=>0<=s.1/\s.1<=s.2/\s.2<=(xs.length:Int)/\(∀ (i:Nat) x,(i:Int) < s.1->xs[i]?=some x->cmpL (f x) key < 0)/\(∀ (i:Nat) x,s.2<=(i:Int)->xs[i]?=some x->¬ cmpL (f x) key < 0)) (λs=>(s.2-s.1).toNat) ?_ _ ⟨by simp,by simp,by simp,λi x hi=>by simp at hi;omega,λi x hi hx=>by have:=ji hx;simp at hi;omega⟩;rintro⟨i,j⟩ ⟨h1,h2,h3,h4,h5⟩;simp only at h1 h2 h3 h4 h5;refine wv (λhc=>?_) (λhc=>?_)
 ·have hc:i < j:=by simpa using hc
  simp only;rw [w66 (m:=i+j) (by omega)];have hm:0<=(i+j) / 2/\i<=(i+j) / 2/\(i+j) / 2 < j:=by omega
  obtain⟨x,hx⟩:∃ x,xs[((i+j) / 2).toNat]?=some x:=⟨_,List.getElem?_eq_getElem (by omega)⟩
  have e1:at? xs ((i+j) / 2)=some x:=by unfold at?;rw [if_pos hm.1];exact hx
  rw [e1];simp only [Option.bind_some,hp x (List.mem_of_getElem? hx)];refine wv (λhq=>qt ?_) (λhq=>qt ?_)
  ·have hq:cmpL (f x) key < 0:=by simpa using hq
   simp only [rd];rw [wb (by omega)];refine⟨⟨by omega,by omega,h3,λq y hq' hy=>?_,h5⟩,by omega⟩
   by_cases he:q=((i+j) / 2).toNat
   ·subst he;rw [hx] at hy;cases hy;exact hq
   ·exact z1n _ _ _ (z83 hs hy hx (by omega)) hq
  ·have hq:¬ cmpL (f x) key < 0:=by simpa using hq
   simp only [rd];refine⟨⟨h1,by omega,by omega,h4,λq y hq' hy=>?_⟩,by omega⟩
   by_cases he:q=((i+j) / 2).toNat
   ·subst he;rw [hx] at hy;cases hy;exact hq
   ·intro hlt;exact hq (z1n _ _ _ (z83 hs hx hy (by omega)) hlt)
 ·have hij:i=j:=by simp at hc;omega
  subst hij
  have hno:∀ (q:Nat) x,xs[q]?=some x->f x=key->(q:Int)=i:=by
   intro q x hx hk
   by_cases h6:(q:Int) < i
   ·have:=h4 q x h6 hx;rw [hk,(ka key key).2 rfl] at this;omega
   ·by_cases h7:(q:Int)=i
    ·exact h7
    ·exfalso;obtain⟨y,hy⟩:∃ y,xs[i.toNat]?=some y:=⟨_,List.getElem?_eq_getElem (by have:=ji hx;omega)⟩
     have:=z83 hs hy hx (by omega);rw [hk] at this;exact h5 i.toNat y (by omega) hy this
  have hany:∀ (q:Nat) x,xs[q]?=some x->f x=key->(xs.any λx=>decide (f x=key))=true:=λq x hx hk=>List.any_eq_true.2 ⟨x,List.mem_of_getElem? hx,by simpa using hk⟩
  have hnone:(∀ (q:Nat) x,xs[q]?=some x->f x≠key)->(xs.any λx=>decide (f x=key))=false:=λh=>by
   rw [List.any_eq_false];intro x hx;obtain⟨q,hq,rfl⟩:=List.getElem_of_mem hx;simpa using h q _ (List.getElem?_eq_getElem hq)
  by_cases hl:i < (xs.length:Int)
  ·obtain⟨y,hy⟩:∃ y,xs[i.toNat]?=some y:=⟨_,List.getElem?_eq_getElem (by omega)⟩
   have e1:at? xs i=some y:=by unfold at?;rw [if_pos h1];exact hy
   have e2:decide (i < (xs.length:Int))=true:=by simpa using hl
   simp only [e2,if_true,e1,Option.bind_some,hp y (List.mem_of_getElem? hy),Option.map_some];refine qt ?_;simp only [rd]
   by_cases hk:f y=key
   ·have e3:cmpL (f y) key=0:=(ka _ _).2 hk;refine⟨?_,λ_=>?_⟩
    ·rw [e3,hany _ y hy hk];rfl
    ·rw [x66 hs hy hk];omega
   ·have e3:¬ cmpL (f y) key=0:=λh=>hk ((ka _ _).1 h);refine⟨?_,λh=>absurd h (by simpa using e3)⟩;rw [hnone λq x hx hxk=>?_]
    ·simpa using e3
    ·have:=hno q x hx hxk;have hq:q=i.toNat:=by omega
     subst hq;rw [hy] at hx;cases hx;exact hk hxk
  ·have e2:decide (i < (xs.length:Int))=false:=by simpa using hl
   simp only [e2,if_false,Option.map_some,Bool.false_eq_true];refine qt ?_;simp only [rd];refine⟨?_,λh=>by cases h⟩;rw [hnone λq x hx hxk=>?_];have:=hno q x hx hxk;have:=ji hx;omega
end
def SB (n:Int) (s:zq):Prop:=0<=s.at_/\s.at_<=n
theorem SB.mono {n m:Int} {s:zq} (h:SB n s) (hm:n<=m):SB m s:=⟨h.1,by have:=h.2;omega⟩

theorem x09 (x n:Int) (hn:n<=1000000000000000):Ok (z25 x n) λr=>0<=r/\(1<=n->r < n)/\(n < 1->r=0):=by
 unfold z25 z7g;refine wv (λh=>qt ?_) (λh=>ok_g ?_ (wv (λh2=>qt ?_) (λh2=>qt ?_)))
 ·simp at h;omega
 ·simp at h;omega
 ·simp at h h2;have h3:=Int.tmod_lt_of_pos x (show 0 < n by omega)
  have h4:-n < x.tmod n:=by
   have:=Int.lt_tmod_of_pos x (show 0 < n by omega);omega
  rw [wb (by omega)];omega
 ·simp at h h2;have h3:=Int.tmod_lt_of_pos x (show 0 < n by omega);omega
theorem Ys {k:Int} {s:zq} (h:SB k s) (hk:k<=1000000000) (n:Int) (hn:n<=1000000000000000) :
  Ok (xh s n) λr=>(0<=r.1/\(1<=n->r.1 < n)/\(n < 1->r.1=0))/\SB (k+1) r.2:=by
 obtain⟨h1,h2⟩:=h;have e1:wr (s.at_+1)=s.at_+1:=wb (by omega);have e2:wr (s.at_+1-1)=s.at_:=by rw [wb (by omega)];omega
 unfold xh;simp only [e1,e2];refine wv (λh=>?_) (λh=>?_)
 ·exact ym (x09 _ n hn) λr hr=>qt ⟨hr,by simp only [SB];omega⟩
 ·simp at h;have hL:0 < s.L.length:=by cases hq:s.L with|nil=>exact absurd hq h|cons _ _=>simp
  refine ok_g (by omega) (ok_g ⟨by omega,by omega⟩ ?_);have hi:0<=s.at_.tmod (s.L.length:Int):=Int.tmod_nonneg _ h1;have hi2:=Int.tmod_lt_of_pos s.at_ (show (0:Int) < s.L.length by omega)
  have hat:Ok (at? s.L (s.at_.tmod (s.L.length:Int))) λ_=>True:=by
   unfold at?;rw [if_pos hi,List.getElem?_eq_getElem (by omega)];exact⟨_,rfl,trivial⟩
  refine ym hat λx _=>ym (x09 _ _ (by omega)) λr _=>ym (x09 _ n hn) λr hr=>qt ⟨hr,by simp only [SB];omega⟩
section
variable {k:Int} {s:zq} (h:SB k s) (hk:k<=100000000)
include h hk
theorem xi (n:Int) (hn:n<=1000000000000000):Ok (km s n) λr=>SB (k+1) r.2:=by
 unfold km;exact ym (Ys h (by omega) n hn) λr hr=>qt hr.2
theorem kw (l:List Int) (hl:l≠[]/\l.length<=1000):Ok (jl s l) λr=>r.1∈l/\SB (k+1) r.2:=by
 unfold jl;have hp:0 < l.length:=by cases hq:l with|nil=>exact absurd hq hl.1|cons _ _=>simp
 refine ym (Ys h (by omega) _ (by omega)) λr hr=>?_;have h1:=hr.1.2.1 (by omega)
 have hat:Ok (at? l r.1) λx=>x∈l:=by
  unfold at?;rw [if_pos hr.1.1,List.getElem?_eq_getElem (by omega)];exact⟨_,rfl,List.getElem_mem _⟩
 exact ym hat λx hx=>qt ⟨hx,hr.2⟩
theorem kj (l:List Bs) (hl:l≠[]/\l.length<=1000):Ok (jq s l) λr=>r.1∈l/\SB (k+1) r.2:=by
 unfold jq;have hp:0 < l.length:=by cases hq:l with|nil=>exact absurd hq hl.1|cons _ _=>simp
 refine ym (Ys h (by omega) _ (by omega)) λr hr=>?_;have h1:=hr.1.2.1 (by omega)
 have hat:Ok (at? l r.1) λx=>x∈l:=by
  unfold at?;rw [if_pos hr.1.1,List.getElem?_eq_getElem (by omega)];exact⟨_,rfl,List.getElem_mem _⟩
 exact ym hat λx hx=>qt ⟨hx,hr.2⟩
theorem z86 (lo hi:Int) (hr:-1000000000000<=lo/\lo<=hi/\hi<=1000000000000):Ok (Ws s lo hi) λr=>(lo<=r.1/\r.1<=hi)/\SB (k+1) r.2:=by
 unfold Ws;refine wv (λh=>absurd h (by simp;omega)) (λ_=>?_);have e1:wr (wr (hi-lo)+1)=hi-lo+1:=by rw [wb (n:=hi-lo) (by omega),wb (by omega)]
 rw [e1];refine ym (Ys h (by omega) _ (by omega)) λr hr2=>qt ?_;have h1:=hr2.1.2.1 (by omega);have h2:=hr2.1.1;simp only;rw [wb (by omega)];exact⟨by omega,hr2.2⟩
end
theorem Ye {k:Int} {s:zq} (h:SB k s) (hk:k<=10000000) (lo hi:Int) (hr:-1000000000000<=lo/\lo<=hi/\hi<=1000000000000):Ok (ur s lo hi) λr=>(-2000000000000<=r.1/\r.1<=2000000000000)/\SB (k+2) r.2:=by
 unfold ur;refine ym (xi h (by omega) 12 (by omega)) λr hr2=>wv (λ_=>?_) (λ_=>?_)
 ·refine ym (kw hr2 (by omega) _ ⟨by simp,by simp⟩) λr3 hr3=>qt ⟨?_,hr3.2.mono (by omega)⟩;have hm:=hr3.1;rw [wb (n:=lo-1) (by omega),wb (n:=hi+1) (by omega)] at hm;simp only [List.mem_cons,List.not_mem_nil,or_false] at hm;simp only;omega
 ·exact ym (z86 hr2 (by omega) lo hi hr) λr3 hr3=>qt ⟨by simp only;omega,hr3.2.mono (by omega)⟩
def kc (i:Nat) (c:UInt8):Bool:=((decide (97<=(c.toNat:Int))) && (decide ((c.toNat:Int)<=122))) || ((decide (0 < (i:Int))) && ((((decide (48<=(c.toNat:Int))) && (decide ((c.toNat:Int)<=57))) || (decide ((c.toNat:Int)=45))) || (decide ((c.toNat:Int)=95))))
def keyP (s:Bs):Bool:=allI kc 0 s && (decide (s≠[]) && decide ((s.length:Int)<=40))
theorem y01 (s:Bs) (h:s.length<=1000000000):Wq s=some (keyP s):=by
 unfold Wq;rw [if_pos h,z1h (p:=kc) (r0:=false) (e:=(decide (s≠[])) && (decide ((s.length:Int)<=40))) rfl s 0]
 ·congr 1;unfold keyP;cases allI kc 0 s <;> simp
 ·intro j x _ _;unfold y4g;show (if (!kc j x)=true then _ else _)=_;cases kc j x <;> simp
def z8r:Bs:=[97,98,99,100,101,102,103,104,105,106,107,108,109,110,111,112,113,114,115,116,117,118,119,120,121,122]
def y0v:Bs:=[97,98,99,100,101,102,103,104,105,106,107,108,109,110,111,112,113,114,115,116,117,118,119,120,121,122,48,49,50,51,52,53,54,55,56,57,45,95]
theorem x2j (p:UInt8->Bool) (h:((List.range 256).all λn=>p (UInt8.ofNat n))=true) (c:UInt8):p c=true:=by
 have:=List.all_eq_true.1 h c.toNat (by simp;exact c.toNat_lt);simpa using this
theorem w08 (c:UInt8):z8r.contains c=kc 0 c:=by
 have:=x2j (λc=>z8r.contains c == kc 0 c) (by decide +kernel) c;simpa using this
theorem w38 (c:UInt8):y0v.contains c=kc 1 c:=by
 have:=x2j (λc=>y0v.contains c == kc 1 c) (by decide +kernel) c;simpa using this
theorem w4a (k:Nat) (c:UInt8):kc (k+1) c=kc 1 c:=by
 unfold kc
 have:decide (0 < ((k+1:Nat):Int))=decide (0 < ((1:Nat):Int)):=by
  rw [decide_eq_true (by omega),decide_eq_true (by omega)]
 rw [this]
theorem w4b (c:UInt8) (h:kc 0 c=true):kc 1 c=true:=by unfold kc at *;simp at h ⊢;exact .inl h
theorem w9v (s:Bs):∀ k,allI kc (k+1) s=s.all λc=>kc 1 c:=by
 induction s with
 | nil=>intro k;rfl
 | cons c s ih=>intro k;simp only [allI,List.all_cons,w4a,ih]
theorem x5d (s so:Bs) (h:s.length<=1000000000):z5w s so=some (s.all λc=>so.contains c):=by
 unfold z5w;rw [if_pos h,z1h (p:=λ_ c=>so.contains c) (r0:=false) (e:=true) rfl s 0]
 ·congr 1
  have:∀ (l:Bs) k,allI (λ_ c=>so.contains c) k l=l.all λc=>so.contains c:=by
   intro l
   induction l with
   | nil=>intro k;rfl
   | cons c l ih=>intro k;simp only [allI,List.all_cons,ih]
  rw [this];cases (s.all λc=>so.contains c) <;> rfl
 ·intro j x _ _;unfold y4n y8w;simp only [Option.bind_some];have e1:((x.toNat:Int)).toNat.toUInt8=x:=by simp
  rw [e1,Lib.contains_iff_indexByte]
  by_cases hq:Lib.indexByte so x < 0
  ·have:¬ 0<=Lib.indexByte so x:=by omega
   simp [hq,this]
  ·have:0<=Lib.indexByte so x:=by omega
   simp [hq,this]
theorem y0w (s:Bs) (h:s.length<=1000000000):Wr s=some (keyP s):=by
 unfold Wr kx z3p;simp only [Option.bind_some]
 cases s with
 | nil=>simp [keyP]
 | cons c r =>
  by_cases h1:((c::r).length:Int)<=40
  ·have h2:(decide ((1:Int)<=((c::r).length:Int)) && decide (((c::r).length:Int)<=40))=true:=by simp only [List.length_cons] at h1 ⊢;simp;omega
   rw [if_pos h2]
   have h3:sub? (c::r) 0 1=some [c]:=by
    unfold sub?;rw [if_pos (by simp only [List.length_cons];omega)];rfl
   rw [h3];have e1:=x5d [c] z8r (by simp);have e2:=x5d (c::r) y0v h;simp only [z8r,y0v] at e1 e2;simp only [Option.bind_some,e1,e2]
   have e3:(List.all [c] λc=>List.contains [97,98,99,100,101,102,103,104,105,106,107,108,109,110,111,112,113,114,115,116,117,118,119,120,121,122] c)=kc 0 c:=by
    have:=w08 c;simp only [z8r] at this;simp only [List.all_cons,List.all_nil,Bool.and_true,this]
   have e4:(List.all (c::r) λc=>List.contains [97,98,99,100,101,102,103,104,105,106,107,108,109,110,111,112,113,114,115,116,117,118,119,120,121,122,48,49,50,51,52,53,54,55,56,57,45,95] c)=(kc 1 c && r.all λc=>kc 1 c):=by
    have:=w38;simp only [y0v] at this;simp only [List.all_cons,this]
   rw [e3,e4]
   have e5:keyP (c::r)=(kc 0 c && r.all λc=>kc 1 c):=by
    unfold keyP;simp only [allI,w9v,Nat.zero_add];have:decide (((c::r).length:Int)<=40)=true:=by simpa using h1
    rw [this];simp
   rw [e5];cases hk:kc 0 c
   ·simp
   ·rw [w4b c hk];simp
  ·have h2:(decide ((1:Int)<=((c::r).length:Int)) && decide (((c::r).length:Int)<=40))=false:=by
    have:decide (((c::r).length:Int)<=40)=false:=by simpa using h1
    rw [this];simp
   rw [h2];have:decide (((c::r).length:Int)<=40)=false:=by simpa using h1
   have e5:keyP (c::r)=false:=by unfold keyP;rw [this];simp
   rw [e5];rfl

theorem y87 {a:Bs} (h:keyP a=true):leB a []=false:=by
 cases a with
 | nil=>simp [keyP] at h
 | cons c r=>simp [leB,Op.bytesLess]
def momP (n:Int):Bool:=decide (0<=n) && decide (n<=345686399999)
theorem y8p (n:Int):z54 n=some (momP n):=rfl
theorem y4i (n:Int):z2x n=some (momP n):=by
 unfold z2x momP;congr 2
 by_cases h:n < 345686400000
 ·have:n<=345686399999:=by omega
  simp [h,this]
 ·have:¬ n<=345686399999:=by omega
  simp [h,this]
theorem z0z (n lo hi:Int):xg n lo hi=some (outP n lo hi):=rfl
theorem Qm (n lo hi:Int):kx n lo hi=some (!outP n lo hi):=by
 unfold kx;rw [w2p,Bool.not_not]
def spl (c:UInt8):Bs->List Bs
 | []=>[[]]
 | b::l=>if b=c then []::spl c l else match spl c l with
  | p::ps=>(b::p)::ps
  | []=>[[b]]
theorem w62 (c b:UInt8) (l:Bs):Lib.index (b::l) [c]=if b=c then 0 else if Lib.index l [c] == -1 then -1 else Lib.index l [c]+1:=by
 rw [Lib.index]
 by_cases h:b=c
 ·subst h;simp
 ·have hb:(c == b)=false:=by simpa using λe:c=b=>h e.symm
  have:List.isPrefixOf [c] (b::l)=false:=by simp [List.isPrefixOf,hb]
  rw [this,if_neg h];rfl
theorem x3v (c:UInt8):∀ s:Bs,Lib.splitK [c] 0 (Lib.count s [c]) s=spl c s
 | []=>by
  rw [Lib.count_miss (by rfl)];rfl
 | b::l=>by
  have ih:=x3v c l;have hi:=w62 c b l
  by_cases h:b=c
  ·rw [if_pos h] at hi;rw [Lib.count_hit (i:=0) (by simp) (by simpa using hi),Nat.add_comm,Lib.splitK,if_neg (by rw [hi];decide),hi,spl,if_pos h];simp only [Int.toNat_zero,Nat.zero_add,List.length_cons,List.length_nil,Nat.add_zero,List.take_zero,List.drop_succ_cons,List.drop_zero,ih]
  ·rw [if_neg h] at hi;have hs:spl c (b::l)=match spl c l with|p::ps=>(b::p)::ps|[]=>[[b]]:=by rw [spl,if_neg h]
   have hge:=Lib.index_ge l [c]
   by_cases h1:Lib.index l [c]=-1
   ·rw [if_pos (by simpa using h1)] at hi;rw [Lib.count_miss h1] at ih;have ih:[l]=spl c l:=ih;rw [Lib.count_miss hi,hs,← ih];rfl
   ·obtain⟨i,h2⟩:∃ i:Nat,Lib.index l [c]=i:=⟨(Lib.index l [c]).toNat,by omega⟩
    rw [if_neg (by simpa using h1),h2] at hi;have hi':Lib.index (b::l) [c]=((i+1:Nat):Int):=by rw [hi];omega
    rw [Lib.count_hit (i:=i) (by simp) h2,Nat.add_comm,Lib.splitK,if_neg (by rw [h2];simp),h2] at ih;rw [Lib.count_hit (i:=i+1) (by simp) hi',Nat.add_comm,Lib.splitK,if_neg (by rw [hi'];simp;omega),hi',hs,← ih];simp
theorem x3w (s:Bs) (c:UInt8):Qi s [c]=spl c s:=by
 unfold Qi;rw [Lib.splitB_data];exact x3v c s
theorem y6x (c:UInt8):∀ s:Bs,(spl c s).length<=s.length+1
 | []=>by simp [spl]
 | b::l=>by
  have ih:=y6x c l;unfold spl;split
  ·simp only [List.length_cons];omega
  ·split
   ·rename_i p ps h;rw [h] at ih;simp only [List.length_cons] at ih ⊢;omega
   ·simp
theorem y6w (c:UInt8):∀ (s:Bs) (p:Bs),p∈spl c s->p.length<=s.length
 | [],p,h=>by simp [spl] at h;subst h;simp
 | b::l,p,h=>by
  have ih:=y6w c l;unfold spl at h;split at h
  ·rcases List.mem_cons.1 h with rfl|h
   ·simp
   ·have:=ih p h;simp only [List.length_cons];omega
  ·split at h
   ·rename_i q ps hq;rw [hq] at ih;rcases List.mem_cons.1 h with rfl|h
    ·have:=ih q (by simp);simp only [List.length_cons];omega
    ·have:=ih p (List.mem_cons_of_mem _ h);simp only [List.length_cons];omega
   ·simp at h;subst h;simp
theorem x3x (c:UInt8) (t:Bs) (ht:c ∉ t):∀ s:Bs,∃ ps p,spl c (s++t)=ps++[p++t]
 | []=>by
  refine⟨[],[],?_⟩
  have:∀ t:Bs,c ∉ t->spl c t=[t]:=by
   intro t
   induction t with
   | nil=>intro _;rfl
   | cons b l ih =>
    intro h;simp only [List.mem_cons,not_or] at h;rw [spl,if_neg (λe=>h.1 e.symm),ih h.2]
  simpa using this t ht
 | b::l=>by
  obtain⟨ps,p,h⟩:=x3x c t ht l;rw [List.cons_append,spl];split
  ·exact⟨[]::ps,p,by rw [h];rfl⟩
  ·rw [h]
   cases ps with
   | nil=>exact⟨[],b::p,rfl⟩
   | cons q qs=>exact⟨(b::q)::qs,p,rfl⟩

abbrev Ze (l:List Bs):List Bs:=l.mergeSort λx y=>decide (x<=y)
theorem y60 (l:List Bs):(Ze l).Pairwise λx y=>x<=y:=by
 have h:=List.pairwise_mergeSort (le:=λx y:Bs=>decide (x<=y)) (λa b c h k=>by
  have h:=of_decide_eq_true h;have k:=of_decide_eq_true k
  exact decide_eq_true (List.le_trans h k)) (λa b=>by
  rcases List.le_total a b with h|h <;> simp [h]) l
 exact h.imp λh=>of_decide_eq_true h
theorem z2c (l:List Bs) (x:Bs):x∈Ze l↔x∈l:=List.mem_mergeSort
theorem z4t (l:List Bs):(Ze l).length=l.length:=by simp [Ze]
section
variable {α:Type} [Inhabited α] [DecidableEq α]
end
def scK (n:Nat) (k:Nat) (p:Bs):Bool:=keyP p || (decide (p=[42]) && decide ((k:Int)=(n:Int)-1))
def scP (s:Bs):Bool:=allI (scK (spl 58 s).length) 0 (spl 58 s) && decide (((spl 58 s).length:Int)<=10)
theorem w6x (s:Bs) (h:s.length<=1000000):z9k s=some (scP s):=by
 have hn:=y6x 58 s;unfold z9k z02;rw [if_pos ⟨by omega,by simp⟩,x3w];simp only [Option.bind_some];rw [if_pos (by omega),z1h (p:=scK (spl 58 s).length) (r0:=false) (e:=decide (((spl 58 s).length:Int)<=10)) rfl (spl 58 s) 0 λj x _ hx=>?_]
 ·unfold scP;cases allI (scK (spl 58 s).length) 0 (spl 58 s) <;> simp
 ·have hx:(spl 58 s)[j]?=some x:=by simpa using hx
  have hl:=y6w 58 s x (List.mem_of_getElem? hx);unfold y2c;rw [y01 x (by omega),wb (by omega)];simp only [Option.bind_some];unfold scK;cases keyP x <;> cases (decide (x=[42]) && decide ((j:Int)=((spl 58 s).length:Int)-1)) <;> rfl
theorem w1o (s:Bs) (h:s.length<=1000000):z92 s=some (scP s):=by
 have hn:=y6x 58 s;unfold z92 z02;rw [if_pos ⟨by omega,by simp⟩,x3w];simp only [Option.bind_some];rw [if_pos (by omega),z1h (p:=scK (spl 58 s).length) (r0:=false) (e:=decide (((spl 58 s).length:Int)<=10)) rfl (spl 58 s) 0 λj x _ hx=>?_]
 ·unfold scP;cases allI (scK (spl 58 s).length) 0 (spl 58 s) <;> simp
 ·have hx:(spl 58 s)[j]?=some x:=by simpa using hx
  have hl:=y6w 58 s x (List.mem_of_getElem? hx);have hj:=ji hx;unfold y4l;rw [y0w x (by omega),wb (by omega)];simp only [Option.bind_some];unfold scK
  have e1:decide ((j:Int) < ((spl 58 s).length:Int)-1) = !decide ((j:Int)=((spl 58 s).length:Int)-1):=by
   by_cases hq:(j:Int)=((spl 58 s).length:Int)-1
   ·simp [hq]
   ·have:(j:Int) < ((spl 58 s).length:Int)-1:=by omega
    simp [hq,this]
  have e2:decide (x≠[42]) = !decide (x=[42]):=by simp
  rw [e1,e2];cases keyP x <;> cases decide (x=[42]) <;> cases decide ((j:Int)=((spl 58 s).length:Int)-1) <;> rfl
def Sh (l:List Bs):Prop:=l.length<=1000000/\∀ x,x∈l->x.length<=1000000
def scF (l:List Bs):Int:=if 50 < l.length then 2 else if l.all scP=true then 0 else 3
theorem w8x (l:List Bs) (h:Sh l):z9l l=some (scF l):=by
 have hn:=h.1;unfold z9l scF
 by_cases h1:50 < l.length
 ·rw [if_pos (by simp;omega),if_pos h1]
 ·rw [if_neg (by simp;omega),if_neg h1,if_pos (by omega),z1h (p:=λ_ x=>scP x) (r0:=(3:Int)) (e:=(0:Int)) rfl l 0 λj x _ hx=>?_]
  ·rw [x1r]
  ·have hx:l[j]?=some x:=by simpa using hx
   unfold y2d;rw [w6x x (h.2 x (List.mem_of_getElem? hx))];simp only [Option.bind_some];cases scP x <;> rfl
theorem w74 (l:List Bs) (h:Sh l):z97 l=some (scF l):=by
 have hn:=h.1;unfold z97 scF
 by_cases h1:50 < l.length
 ·rw [if_pos (by simp;omega),if_pos h1]
 ·rw [if_neg (by simp;omega),if_neg h1,if_pos (by omega),z1h (p:=λ_ x=>scP x) (r0:=(3:Int)) (e:=(0:Int)) rfl l 0 λj x _ hx=>?_]
  ·rw [x1r]
  ·have hx:l[j]?=some x:=by simpa using hx
   unfold y4r;rw [w1o x (h.2 x (List.mem_of_getElem? hx))];simp only [Option.bind_some];cases scP x <;> rfl
def or2 (a b:Int):Int:=if a≠0 then a else b
def cvB (a b:Bs):Bool:=if Lib.hasSuffix a [42]=true then Lib.hasPrefix b (Lib.trimSuffix a [42]) else decide (a=b)
theorem y6v {a:Bs} (h:Lib.hasSuffix a [42]=true):∃ g,a=g++[42]/\Lib.trimSuffix a [42]=g:=by
 unfold Lib.hasSuffix at h;rw [List.isSuffixOf_iff_suffix] at h;obtain⟨g,hg⟩:=h;refine⟨g,hg.symm,?_⟩;unfold Lib.trimSuffix Lib.hasSuffix;rw [if_pos (by rw [List.isSuffixOf_iff_suffix];exact⟨g,hg⟩),← hg];simp
theorem x7h (a:Bs):cvB a a=true:=by
 unfold cvB;split
 ·rename_i h;obtain⟨g,h1,h2⟩:=y6v h;rw [h2];unfold Lib.hasPrefix;rw [List.isPrefixOf_iff_prefix];exact⟨[42],h1.symm⟩
 ·simp
def cvL (l:List Bs) (s:Bs):Bool:=l.any λh=>cvB h s
theorem w39 (p:Bs):keyP (p++[42,42])=false:=by
 have h:∀ (l:Bs) k,allI kc k (l++[42,42])=false:=by
  intro l
  induction l with
  | nil=>intro k;simp [allI,kc]
  | cons x l ih=>intro k;simp [allI,ih]
 unfold keyP;rw [h];rfl
theorem x76 {α:Type} (p:Nat->α->Bool):∀ (l:List α) (k j:Nat) (x:α),l[j]?=some x->p (k+j) x=false->allI p k l=false
 | [],k,j,x,h,_=>by simp at h
 | y::l,k,j,x,h,hp=>by
  cases j with
  | zero=>simp at h;subst h;simp [allI,show p k y=false from hp]
  | succ j =>
   have:=x76 p l (k+1) j x (by simpa using h) (by rw [show k+1+j=k+(j+1) by omega];exact hp);simp [allI,this]
theorem x4b (g:Bs):scP (g++[42,42])=false:=by
 obtain⟨ps,p,h⟩:=x3x 58 [42,42] (by decide) g;unfold scP;rw [h,x76 _ _ 0 ps.length (p++[42,42]) (by simp)]
 ·rfl
 ·unfold scK;rw [w39];have:p++[42,42]≠[42]:=λe=>by have:=congrArg List.length e;simp at this
  simp [this]
theorem w8i {a b:Bs} (ha:scP a=true) (hb:scP b=true) (h1:cvB a b=true) (h2:cvB b a=true):a=b:=by
 unfold cvB at h1 h2
 by_cases sa:Lib.hasSuffix a [42]=true
 ·by_cases sb:Lib.hasSuffix b [42]=true
  ·obtain⟨g,e1,t1⟩:=y6v sa;obtain⟨h,e2,t2⟩:=y6v sb;rw [if_pos sa,t1] at h1;rw [if_pos sb,t2] at h2;unfold Lib.hasPrefix at h1 h2;rw [List.isPrefixOf_iff_prefix] at h1 h2;rw [e2] at h1;rw [e1] at h2
   have key:∀ x y:Bs,x <+: y++[42]->x.length<=y.length->x <+: y:=λx y hp hl =>
    List.prefix_of_prefix_length_le hp (List.prefix_append y [42]) hl
   rcases Nat.lt_trichotomy g.length h.length with hl|hl|hl
   ·have h3:=key g h h1 (by omega);obtain⟨t,ht⟩:=h2;have:t.length=0:=by have:=congrArg List.length ht;simp at this;omega
    have ht0:t=[]:=List.eq_nil_of_length_eq_zero this;rw [ht0,List.append_nil] at ht;rw [e2,ht,List.append_assoc] at hb;have:=x4b g;rw [show g++([42]++[42])=g++[42,42] from rfl,this] at hb;cases hb
   ·have h3:=key g h h1 (by omega);have:=List.IsPrefix.eq_of_length h3 hl;rw [e1,e2,this]
   ·have h3:=key h g h2 (by omega);obtain⟨t,ht⟩:=h1;have:t.length=0:=by have:=congrArg List.length ht;simp at this;omega
    have ht0:t=[]:=List.eq_nil_of_length_eq_zero this;rw [ht0,List.append_nil] at ht;rw [e1,ht,List.append_assoc] at ha;have:=x4b h;rw [show h++([42]++[42])=h++[42,42] from rfl,this] at ha;cases ha
  ·rw [if_neg sb] at h2;exact (of_decide_eq_true h2).symm
 ·rw [if_neg sa] at h1;exact of_decide_eq_true h1
def mtS (b:List Bs) (x:Bs):List Bs:=b.flatMap λy=>if cvB x y=true then [y] else if cvB y x=true then [x] else []
def mtL (a b:List Bs):List Bs:=a.flatMap (mtS b)
theorem v0f {a b:List Bs} (ha:a.all scP=true) (hb:b.all scP=true) (z:Bs):z∈mtL a b↔(z∈a∨z∈b)/\cvL a z=true/\cvL b z=true:=by
 have ha:=List.all_eq_true.1 ha;have hb:=List.all_eq_true.1 hb;unfold mtL mtS;simp only [List.mem_flatMap];unfold cvL;simp only [List.any_eq_true];constructor
 ·rintro⟨x,hx,y,hy,hz⟩;split at hz
  ·rename_i h;simp only [List.mem_singleton] at hz;subst hz;exact⟨.inr hy,⟨x,hx,h⟩,⟨_,hy,x7h _⟩⟩
  ·split at hz
   ·rename_i h;simp only [List.mem_singleton] at hz;subst hz;exact⟨.inl hx,⟨_,hx,x7h _⟩,⟨y,hy,h⟩⟩
   ·cases hz
 ·rintro⟨hm,⟨x,hx,h1⟩,⟨y,hy,h2⟩⟩;rcases hm with hm|hm
  ·refine⟨z,hm,y,hy,?_⟩
   by_cases h3:cvB z y=true
   ·rw [if_pos h3,w8i (ha z hm) (hb y hy) h3 h2];simp
   ·rw [if_neg h3,if_pos h2];simp
  ·exact⟨x,hx,z,hm,by rw [if_pos h1];simp⟩
section
variable (a b:List Bs) (ha:Sh a) (hb:Sh b) (hl:a.length<=50/\b.length<=50)
include ha hb
omit hb in
include hl
end
def ScB (l:List Bs):Prop:=(l.length<=5∨l=List.replicate 51 [])/\Sh l
theorem w1n {k:Int} {s:zq} (h:SB k s) (hk:k<=1000000):Ok (y0d s) λr=>r.1.length<=1000/\SB (k+2) r.2:=by
 unfold y0d z9m;refine ym (xi h (by omega) _ (by omega)) λr hr=>wv (λ_=>?_) (λ_=>?_)
 ·rw [if_pos (by decide)];simp only [Option.bind_some];refine ok_g (by rw [Lib.repeatL_length];decide) (ym (kj hr (by omega) _ ⟨by simp,by simp⟩) λr3 h3=>qt ⟨?_,h3.2.mono (by omega)⟩);have h1:=h3.1;simp only [List.mem_cons,List.not_mem_nil,or_false] at h1;simp only;rcases h1 with h1|h1|h1|h1|h1|h1|h1|h1 <;> rw [h1] <;> first|decide|(rw [List.length_append,Lib.repeatL_length];decide)
 ·refine ym (kj hr (by omega) _ ⟨by simp,by simp⟩) λr3 h3=>qt ⟨?_,h3.2.mono (by omega)⟩;have h1:=h3.1;simp only [List.mem_cons,List.not_mem_nil,or_false] at h1;simp only;rcases h1 with h1|h1|h1|h1|h1|h1|h1|h1|h1|h1 <;> rw [h1] <;> decide
theorem x4g {k:Int} {s:zq} (h:SB k s) (hk:k<=1000000):Ok (z1a s) λr=>(r.1.length<=4/\∀ x,x∈r.1->x.length<=1000)/\SB (k+5) r.2:=by
 unfold z1a;refine ym (z86 h (by omega) 0 4 (by omega)) λr2 h2=>ok_g (by omega) ?_;refine z5f (λ(j:Nat) (q:(List Int)×Int×(List Bs))=>SB (k+1+(j:Int)) ⟨q.1,q.2.1⟩/\q.2.2.length<=j/\∀ x,x∈q.2.2->x.length<=1000) _ 0 _ ⟨by simpa using h2.2,by simp,by simp⟩ ?_ ?_
 ·rintro j ⟨c,d,l⟩ _ hj ⟨q1,q2,q3⟩;simp only at q1 q2 q3;have hj:j < 4:=by omega
  unfold z67;refine ym (kj q1 (by omega) _ ⟨by simp,by simp⟩) λr3 h3=>ok_g (by simp only;omega) (qt ⟨h3.2.mono (by omega),by simp;omega,λy hy=>?_⟩);rcases List.mem_append.1 hy with hy|hy
  ·exact q3 y hy
  ·simp only [List.mem_singleton] at hy;subst hy;have h1:=h3.1;simp only [List.mem_cons,List.not_mem_nil,or_false] at h1;rcases h1 with h1|h1|h1|h1|h1|h1|h1|h1|h1 <;> rw [h1] <;> decide
 ·rintro⟨c,d,l⟩ ⟨q1,q2,q3⟩;simp only at q1 q2 q3;exact qt ⟨⟨by simp only;omega,q3⟩,q1.mono (by omega)⟩
theorem w1m {k:Int} {s:zq} (h:SB k s) (hk:k<=100000):Ok (y0c s) λr=>ScB r.1/\SB (k+20) r.2:=by
 unfold y0c;refine ym (x4g h (by omega)) λr2 h2=>ym (xi h2.2 (by omega) _ (by omega)) λr4 h4=>?_
 have hJ:∀ (l:List Bs) (c:List Int) (d:Int),l.length<=5/\(∀ x,x∈l->x.length<=1000)->SB (k+10) ⟨c,d⟩->Ok (z3s l c d) λr=>ScB r.1/\SB (k+20) r.2:=by
  intro l c d hl hs;unfold z3s z65;refine ym (xi hs (by omega) _ (by omega)) λr6 h6=>wv (λ_=>ok_g (by decide) (qt ⟨⟨.inr rfl,by simp,λx hx=>?_⟩,h6.mono (by omega)⟩)) (λ_=>qt ⟨⟨.inl hl.1,by simp only;omega,λx hx=>by have:=hl.2 x hx;omega⟩,h6.mono (by omega)⟩);rw [List.eq_of_mem_replicate hx];decide
 refine wv (λ_=>?_) (λ_=>hJ _ _ _ ⟨by omega,h2.1.2⟩ (h4.mono (by omega)));refine ym (w1n h4 (by omega)) λr7 h7=>ok_g (by omega) (hJ _ _ _ ⟨by simp;omega,λx hx=>?_⟩ (h7.2.mono (by omega)));rcases List.mem_append.1 hx with hx|hx
 ·exact h2.1.2 x hx
 ·simp only [List.mem_singleton] at hx;subst hx;exact h7.1
section
variable {α:Type}
theorem z0a {l:List α} {k:Nat} (h:0 < k):at? l ((k:Int)-1)=l[k-1]?:=by
 unfold at?;rw [if_pos (by omega)];congr 1;omega
theorem x0a {body:Nat->α->Unit->Option (Unit ⊕ Int)} {fin:Unit->Option Int} {e:Nat->α->Int}:∀ (l:List α) (k:Nat),(∀ j x,k<=j->l[j-k]?=some x->body j x ()=if e j x≠0 then some (.inr (e j x)) else some (.inl ()))->forL body fin k l ()=if feI e k l≠0 then some (feI e k l) else fin ()
 | [],k,h=>by simp [forL,feI]
 | x::l,k,h=>by
  have h1:=h k x (Nat.le_refl _) (by simp);show (body k x ()).bind _=_;rw [h1]
  by_cases hp:e k x≠0
  ·simp [feI,hp,after]
  ·simp only [feI,hp,if_false,Option.bind_some,after];refine x0a l (k+1) λj y hj hy=>h j y (by omega) ?_;obtain⟨m,hm⟩:∃ m,j-k=m+1:=⟨j-k-1,by omega⟩
   rw [hm,List.getElem?_cons_succ];have:j-(k+1)=m:=by omega
   rw [this] at hy;exact hy
theorem z7j {e:Nat->α->Int}:∀ (l:List α) (k:Nat),feI e k l=0->∀ j x,l[j]?=some x->e (k+j) x=0
 | [],k,_,j,x,hx=>by simp at hx
 | y::l,k,h,j,x,hx=>by
  simp only [feI] at h
  by_cases hp:e k y≠0
  ·rw [if_pos hp] at h;exact absurd h hp
  ·rw [if_neg hp] at h
   cases j with
   | zero=>simp at hx;subst hx;simpa using hp
   | succ j =>
    have:=z7j l (k+1) h j x (by simpa using hx);rw [show k+(j+1)=k+1+j by omega];exact this
def chR (key:α->Bs) (g:α->Bool->Int):List α->Bs->Int
 | [],_=>0
 | x::l,last=>if g x (leB (key x) last)≠0 then g x (leB (key x) last) else chR key g l (key x)
theorem y5r {key:α->Bs} {g:α->Bool->Int} {body:Nat->α->Bs->Option (Bs ⊕ Int)} {fin:Bs->Option Int} {r:Option Int} (hf:∀ s,fin s=r):∀ (l:List α) (k:Nat) (last:Bs),(∀ j x s,x∈l->body j x s=if g x (leB (key x) s)≠0 then some (.inr (g x (leB (key x) s))) else some (.inl (key x)))->forL body fin k l last=if chR key g l last≠0 then some (chR key g l last) else r
 | [],k,last,h=>by simp [forL,chR,hf]
 | x::l,k,last,h=>by
  have h1:=h k x last (by simp);show (body k x last).bind _=_;rw [h1]
  by_cases hp:g x (leB (key x) last)≠0
  ·simp [chR,hp,after]
  ·simp only [chR,hp,if_false,Option.bind_some,after];exact y5r hf l (k+1) (key x) λj y s hy=>h j y s (List.mem_cons_of_mem _ hy)
def jr (key:α->Bs) (xs:List α) (k:Nat) (x:α):Bool:=decide (0 < k) && match xs[k-1]? with|some y=>leB (key x) (key y)|none=>false
theorem y5s {key:α->Bs} {g:α->Bool->Int} (hg:∀ x,leB (key x) []=false∨∀ a b,g x a=g x b) (xs:List α) {body:Nat->α->Unit->Option (Unit ⊕ Int)} {fin:Unit->Option Int} {r:Option Int} (hf:fin ()=r):∀ (l:List α) (k:Nat) (last:Bs),(k=0/\last=[]∨0 < k/\∃ y,xs[k-1]?=some y/\last=key y)->(∀ j,l[j]?=xs[k+j]?)->(∀ j x,xs[j]?=some x->body j x ()=if g x (jr key xs j x)≠0 then some (.inr (g x (jr key xs j x))) else some (.inl ()))->forL body fin k l ()=if chR key g l last≠0 then some (chR key g l last) else r
 | [],k,last,_,_,h=>by simp [forL,chR,hf]
 | x::l,k,last,hk,hl,h=>by
  have hx:xs[k]?=some x:=by have:=hl 0;simpa using this.symm
  have h1:=h k x hx
  have e:g x (jr key xs k x)=g x (leB (key x) last):=by
   rcases hk with ⟨rfl,rfl⟩|⟨h0,y,hy,rfl⟩
   ·have e2:jr key xs 0 x=false:=by simp [jr]
    rw [e2];rcases hg x with h3|h3
    ·rw [h3]
    ·exact h3 _ _
   ·have e2:jr key xs k x=leB (key x) (key y):=by simp [jr,h0,hy]
    rw [e2]
  rw [e] at h1;show (body k x ()).bind _=_;rw [h1]
  by_cases hp:g x (leB (key x) last)≠0
  ·simp [chR,hp,after]
  ·simp only [chR,hp,if_false,Option.bind_some,after];refine y5s hg xs hf l (k+1) (key x) (.inr ⟨by omega,x,by simpa using hx,rfl⟩) (λj=>?_) h;have:=hl (j+1);rw [List.getElem?_cons_succ] at this;rw [this];congr 1;omega
theorem y5q {key:α->Bs} {g:α->Bool->Int} (hg:∀ x,g x true≠0):∀ (l:List α) (last:Bs),chR key g l last=0->(kr key l/\∀ x,x∈l->g x false=0)/\∀ x,x∈l->cmpL last (key x) < 0
 | [],last,_=>⟨⟨List.Pairwise.nil,λx h=>by cases h⟩,λx h=>by cases h⟩
 | x::l,last,h=>by
  simp only [chR] at h
  by_cases hc:g x (leB (key x) last)≠0
  ·rw [if_pos hc] at h;exact absurd h hc
  ·rw [if_neg hc] at h
   have hl:leB (key x) last=false:=by
    cases hq:leB (key x) last
    ·rfl
    ·rw [hq] at hc;exact absurd (hg x) hc
   rw [hl] at hc;have h1:=w3p _ _ hl;obtain⟨⟨h2,h4⟩,h3⟩:=y5q hg l (key x) h;refine⟨⟨List.Pairwise.cons h3 h2,λy hy=>?_⟩,λy hy=>?_⟩
   ·rcases List.mem_cons.1 hy with rfl|hy
    ·simpa using hc
    ·exact h4 y hy
   ·rcases List.mem_cons.1 hy with rfl|hy
    ·exact h1
    ·exact z1n _ _ _ h1 (h3 y hy)
end

def Yv (l:List yu) (k:Nat) (x:yu):Bool:=decide (0 < k) && match l[k-1]? with|some y=>decide (x.From<=y.From)|none=>false
def t1 (l:List yu) (k:Nat) (x:yu):Int:=if (outP x.From 1 1000000000000 || outP x.Cents 0 1000000)=true then 1 else if Yv l k x=true then 7 else 0
def t0 (l:List yu):Bool:=match l[0]? with|some y=>decide (y.From≠1)|none=>false
def tsF (l:List yu):Int:=if 20 < l.length then 2 else if feI (t1 l) 0 l≠0 then feI (t1 l) 0 l else if t0 l=true then 3 else 0
theorem x3h (l:List yu) (k:Nat) (x:yu) (hx:l[k]?=some x) (v:Bool):z0x l k x v=if v=true then some (.inr 1) else if Yv l k x=true then some (.inr 7) else some (.inl ()):=by
 unfold z0x z4x;cases v
 ·simp only [Bool.false_eq_true,if_false]
  by_cases h0:0 < k
  ·obtain⟨y,hy⟩:∃ y,l[k-1]?=some y:=⟨_,List.getElem?_eq_getElem (by have:=ji hx;omega)⟩
   have e1:at? l ((k:Int)-1)=some y:=by rw [z0a h0];exact hy
   have e2:decide (0 < (k:Int))=true:=by simpa using h0
   have e3:Yv l k x=decide (x.From<=y.From):=by simp [Yv,h0,hy]
   simp only [e2,if_true,e1,Option.bind_some,e3]
  ·have e2:decide (0 < (k:Int))=false:=by simpa using h0
   have e3:Yv l k x=false:=by simp [Yv,h0]
   rw [e2,e3];rfl
 ·simp
theorem x9u (p:yd) (k:Nat) (x:yu) (v:Bool):z6j p k x v=z0x p.Tiers k x v:=rfl
theorem x9t (l:List yu) (k:Nat) (x:yu) (hx:l[k]?=some x):z88 l k x=if t1 l k x≠0 then some (.inr (t1 l k x)) else some (.inl ()):=by
 unfold z88;simp only [z0z,Option.bind_some,x3h l k x hx,t1];rcases Bool.eq_false_or_eq_true (outP x.From 1 1000000000000) with h1|h1 <;> rcases Bool.eq_false_or_eq_true (outP x.Cents 0 1000000) with h2|h2 <;> rcases Bool.eq_false_or_eq_true (Yv l k x) with h3|h3 <;> simp [h1,h2,h3]
theorem x9s (p:yd) (k:Nat) (x:yu) (hx:p.Tiers[k]?=some x):y03 p k x=if t1 p.Tiers k x≠0 then some (.inr (t1 p.Tiers k x)) else some (.inl ()):=by
 unfold y03;simp only [Qm,Option.bind_some,x9u,x3h p.Tiers k x hx,t1];rcases Bool.eq_false_or_eq_true (outP x.From 1 1000000000000) with h1|h1 <;> rcases Bool.eq_false_or_eq_true (outP x.Cents 0 1000000) with h2|h2 <;> rcases Bool.eq_false_or_eq_true (Yv p.Tiers k x) with h3|h3 <;> simp [h1,h2,h3]
theorem x9j (l:List yu) (h:l.length<=1000000000):z9r l=some (tsF l):=by
 unfold z9r tsF
 by_cases h1:20 < l.length
 ·rw [if_pos (by simp;omega),if_pos h1]
 ·rw [if_neg (by simp;omega),if_neg h1,if_pos h,x0a (e:=t1 l) l 0 λj x _ hx=>x9t l j x (by simpa using hx)]
  by_cases h2:feI (t1 l) 0 l≠0
  ·rw [if_pos h2,if_pos h2]
  ·rw [if_neg h2,if_neg h2];unfold y28 z4y t0
   cases hl:l with
   | nil=>rfl
   | cons x l'=>simp;split <;> rfl
def hasP (c:zw) (key:Bs):Bool:=c.Products.any λx=>decide (x.Key=key)
def plF (c:zw) (p:yd):Int:=if hasP c p.Product=false then 8 else if (outP p.Base 0 1000000000000 || outP p.Free 0 1000000000000)=true then 1 else if tsF p.Tiers≠0 then tsF p.Tiers else if (outP p.Limit (-1) 1000000000000 || outP p.Trial 0 132)=true then 1 else 0
structure CB (c:zw):Prop where
 np:c.Products.length<=100000
 kp:∀ x,x∈c.Products->x.Key.length<=1000000/\Sh x.Scopes
 nl:c.Plans.length<=100000
 kl:∀ x,x∈c.Plans->x.Key.length<=1000000/\x.Tiers.length<=1000000
theorem y75 (c:zw) (key:Bs) (hl:c.Products.length<=100000) (hr:kr yl.Key c.Products):Ok (z2s c key) λr=>r.2=hasP c key:=by
 unfold z2s;have h:=y98 yl.Key c.Products key (p:=λ(a0:yl) (a1:Bs)=>z5j a0 a1) (by omega) (λx _=>rfl) hr;exact ym (o:=y30 c.Products key (λ(a0:yl) (a1:Bs)=>z5j a0 a1)) h λr hr=>qt hr.1
theorem y76 (c:zw) (key:Bs) (hl:c.Products.length<=100000):z2z c key=some (fdx (λx:yl=>decide (x.Key=key)) 0 c.Products):=by
 unfold z2z
 have h:y3x c.Products (λ(a0:yl)=>z50 a0 key)=some (fdx (λx:yl=>decide (x.Key=key)) 0 c.Products):=
  y1d c.Products (p:=λ(a0:yl)=>z50 a0 key) (λx=>decide (x.Key=key)) (by omega) λx _=>rfl
 rw [h];rfl
theorem y3f (c:zw) (key:Bs) (hl:c.Plans.length<=100000):xr c key=some (fdx (λx:yd=>decide (x.Key=key)) 0 c.Plans):=by
 unfold xr
 have h:y3y c.Plans (λ(a0:yd)=>z52 a0 key)=some (fdx (λx:yd=>decide (x.Key=key)) 0 c.Plans):=
  y1d c.Plans (p:=λ(a0:yd)=>z52 a0 key) (λx=>decide (x.Key=key)) (by omega) λx _=>rfl
 rw [h];rfl
theorem w2e (c:zw) (p:yd) (hl:c.Products.length<=100000) (hr:kr yl.Key c.Products) (ht:p.Tiers.length<=1000000) (late:Bool):z2j c p late=some (if late=true then 7 else plF c p):=by
 unfold z2j;cases late
 ·obtain⟨r,h1,h2⟩:=y75 c p.Product hl hr;simp only [Bool.false_eq_true,if_false,h1,Option.bind_some,h2,plF,z0z,z41,z40,x9j p.Tiers (by omega)];cases hasP c p.Product
  ·rfl
  ·cases outP p.Base 0 1000000000000 <;> cases outP p.Free 0 1000000000000 <;> by_cases h3:tsF p.Tiers=0 <;> cases outP p.Limit (-1) 1000000000000 <;> cases outP p.Trial 0 132 <;> simp [h3]
 ·simp
theorem w2d (c:zw) (p:yd) (hl:c.Products.length<=100000) (ht:p.Tiers.length<=1000000):z93 c p=some (plF c p):=by
 unfold z93;rw [y76 c _ hl]
 have hT:z1c p false=some (if tsF p.Tiers≠0 then tsF p.Tiers else if (outP p.Limit (-1) 1000000000000 || outP p.Trial 0 132)=true then 1 else 0):=by
  unfold z1c tsF;simp only [Bool.false_eq_true,if_false]
  by_cases h1:20 < p.Tiers.length
  ·rw [if_pos (by simp;omega),if_pos h1];rfl
  ·rw [if_neg (by simp;omega),if_neg h1,if_pos (by omega),x0a (e:=t1 p.Tiers) p.Tiers 0 λj x _ hx=>x9s p j x (by simpa using hx)]
   by_cases h2:feI (t1 p.Tiers) 0 p.Tiers≠0
   ·rw [if_pos h2,if_pos h2,if_pos h2]
   ·rw [if_neg h2,if_neg h2]
    have e1:y05 p=z3b p (t0 p.Tiers):=by
     unfold y05 t0
     cases hq:p.Tiers with
     | nil=>rfl
     | cons x l'=>rw [if_pos (by simp)];rfl
    rw [e1];unfold z3b z6k;simp only [Qm,Option.bind_some];cases t0 p.Tiers <;> cases outP p.Limit (-1) 1000000000000 <;> cases outP p.Trial 0 132 <;> rfl
 simp only [Option.bind_some,z1i,Qm,plF];show (if (!hasP c p.Product)=true then _ else _)=_;cases hasP c p.Product
 ·rfl
 ·cases outP p.Base 0 1000000000000 <;> cases outP p.Free 0 1000000000000 <;> simp only [Bool.not_false,Bool.not_true,Bool.false_eq_true,if_false,if_true,Bool.or_false,Bool.or_true,reduceCtorEq,hT] <;> first|rfl|simp [z1c]
def gP (p:yl) (late:Bool):Int:=if keyP p.Key=false then 5 else if late=true then 7 else scF p.Scopes
def gL (c:zw) (p:yd) (late:Bool):Int:=if keyP p.Key=false then 5 else if late=true then 7 else plF c p
def pdF (l:List yl):Int:=if 100 < l.length then 2 else chR yl.Key gP l []
def catF (c:zw):Int:=if pdF c.Products≠0 then pdF c.Products else if 100 < c.Plans.length then 2 else chR yd.Key (gL c) c.Plans []
theorem w7d (x:yl):gP x true≠0:=by unfold gP;split <;> simp
theorem w7f (c:zw) (x:yd):gL c x true≠0:=by unfold gL;split <;> simp
theorem w7e (x:yl):leB x.Key []=false∨∀ a b,gP x a=gP x b:=by
 cases hk:keyP x.Key
 ·exact .inr λa b=>by simp [gP,hk]
 ·exact .inl (y87 hk)
theorem w7g (c:zw) (x:yd):leB x.Key []=false∨∀ a b,gL c x a=gL c x b:=by
 cases hk:keyP x.Key
 ·exact .inr λa b=>by simp [gL,hk]
 ·exact .inl (y87 hk)
theorem x4z {l:List yl} (h:pdF l=0):kr yl.Key l:=by
 unfold pdF at h;split at h
 ·omega
 ·exact (y5q w7d l [] h).1.1
theorem x02 (c : zw) (hb : CB c) : z2v c = some (catF c) := by
  have h1 : z9s c.Products = some (pdF c.Products) := by
    have hn:=hb.np;unfold z9s pdF
    by_cases h1 : 100 < c.Products.length
    · rw [if_pos (by simp;omega),if_pos h1]
    · rw [if_neg (by simp;omega),if_neg h1,if_pos (by omega)];rw [y5s (key:=yl.Key) (g:=gP) w7e c.Products (r:=some 0) rfl c.Products 0 [] (.inl ⟨rfl,rfl⟩) (λj=>by simp) λj x hx=>?_]
      · split
        · rfl
        · next h => have : chR yl.Key gP c.Products [] = 0 := by simpa using h
                    rw [this]
      · obtain⟨k1,k2⟩ := hb.kp x (List.mem_of_getElem? hx)
        have hJ : ∀ v,z2g x v = if (if v = true then (7 : Int) else scF x.Scopes) ≠ 0 then some (.inr (if v = true then (7 : Int) else scF x.Scopes)) else some (.inl ()) := by
          intro v;unfold z2g;cases v
          · simp only [Bool.false_eq_true,if_false,w8x _ k2,Option.bind_some]
            by_cases hq : scF x.Scopes = 0 <;> simp [hq]
          · simp
        unfold y29;simp only [y01 _ (show x.Key.length<=1000000000 by omega),Option.bind_some,hJ];unfold gP;cases hk : keyP x.Key
        · simp
        · simp only [Bool.not_true,Bool.false_eq_true,if_false,reduceCtorEq]
          by_cases h0 : 0 < j
          · obtain⟨y,hy⟩ : ∃ y,c.Products[j-1]? = some y:=⟨_,List.getElem?_eq_getElem (by have:=ji hx;omega)⟩
            have e1 : at? c.Products ((j : Int)-1) = some y:=by rw [z0a h0];exact hy
            have e2 : decide (0 < (j : Int)) = true:=by simpa using h0
            have e3 : jr yl.Key c.Products j x = leB x.Key y.Key:=by simp [jr,h0,hy]
            simp only [e2,if_true,e1,Option.bind_some,e3];rfl
          · have e2 : decide (0 < (j : Int)) = false:=by simpa using h0
            have e3 : jr yl.Key c.Products j x = false:=by simp [jr,h0]
            rw [e2,e3];rfl
  unfold z2v catF;rw [h1];simp only [Option.bind_some]
  by_cases h2 : pdF c.Products ≠ 0
  · rw [if_pos (by simpa using h2),if_pos h2]
  · rw [if_neg (by simpa using h2),if_neg h2];have hr:=x4z (by simpa using h2 : pdF c.Products = 0);have hn:=hb.nl
    by_cases h3 : 100 < c.Plans.length
    · rw [if_pos (by simp;omega),if_pos h3]
    · rw [if_neg (by simp;omega),if_neg h3,if_pos (by omega)];rw [y5s (key:=yd.Key) (g:=gL c) (w7g c) c.Plans (r:=some 0) rfl c.Plans 0 [] (.inl ⟨rfl,rfl⟩) (λj=>by simp) λj x hx=>?_]
      · split
        · rfl
        · next h => have : chR yd.Key (gL c) c.Plans [] = 0 := by simpa using h
                    rw [this]
      · obtain⟨k1,k2⟩ := hb.kl x (List.mem_of_getElem? hx)
        have e0 : z9t c (j : Int) = some (gL c x (jr yd.Key c.Plans j x)) := by
          unfold z9t;rw [z1s,hx];simp only [y01 _ (show x.Key.length<=1000000000 by omega),Option.bind_some,w2e c x hb.np hr k2];unfold gL;cases hk : keyP x.Key
          · simp
          · simp only [Bool.not_true,Bool.false_eq_true,if_false,reduceCtorEq]
            by_cases h0 : 0 < j
            · obtain⟨y,hy⟩ : ∃ y,c.Plans[j-1]? = some y:=⟨_,List.getElem?_eq_getElem (by have:=ji hx;omega)⟩
              have e1 : at? c.Plans (wr ((j : Int)-1)) = some y:=by
                rw [wb (by have:=ji hx;omega),z0a h0];exact hy
              have e2 : decide (0 < (j : Int)) = true:=by simpa using h0
              have e3 : jr yd.Key c.Plans j x = leB x.Key y.Key:=by simp [jr,h0,hy]
              simp only [e2,if_true,e1,Option.bind_some,e3];rfl
            · have e2 : decide (0 < (j : Int)) = false:=by simpa using h0
              have e3 : jr yd.Key c.Plans j x = false:=by simp [jr,h0]
              rw [e2,e3];rfl
        unfold y3d;rw [e0];simp only [Option.bind_some]
        by_cases hq : gL c x (jr yd.Key c.Plans j x) = 0 <;> simp [hq]
theorem x05 (c : zw) (hb : CB c) : z55 c = some (catF c) := by
  have hn:=hb.np;have hm:=hb.nl;unfold z55 catF pdF
  by_cases h1 : 100 < c.Products.length
  · rw [if_pos (by simp;omega),if_pos h1,if_pos (by decide)]
  · rw [if_neg (by simp;omega),if_neg h1,if_pos (by omega)];rw [y5r (key:=yl.Key) (g:=gP) (fin:=λs=>z62 c s) (r:=z62 c []) (λs=>rfl) c.Products 0 [] λj x s hx=>?_]
    · by_cases h2 : chR yl.Key gP c.Products [] ≠ 0
      · rw [if_pos h2,if_pos h2]
      · rw [if_neg h2,if_neg h2];unfold z62
        by_cases h3 : 100 < c.Plans.length
        · rw [if_pos (by simp;omega),if_pos h3]
        · rw [if_neg (by simp;omega),if_neg h3,if_pos (by omega)];rw [y5r (key:=yd.Key) (g:=gL c) (fin:=λs=>y4w s) (r:=some 0) (λs=>rfl) c.Plans 0 [] λj x s hx=>?_]
          · split
            · rfl
            · next h => have : chR yd.Key (gL c) c.Plans [] = 0 := by simpa using h
                        rw [this]
          · obtain⟨k1,k2⟩ := hb.kl x hx;unfold y4u;simp only [y0w _ (show x.Key.length<=1000000000 by omega),w2d c x hn k2,Option.bind_some];show (if (!keyP x.Key) = true then _ else if leB x.Key s = true then _ else _) = _;unfold gL;cases keyP x.Key <;> cases leB x.Key s <;> by_cases hq : plF c x = 0 <;> simp [hq]
    · obtain⟨k1,k2⟩ := hb.kp x hx;unfold y4v;simp only [y0w _ (show x.Key.length<=1000000000 by omega),w74 _ k2,Option.bind_some];show (if (!keyP x.Key) = true then _ else if leB x.Key s = true then _ else _) = _;unfold gP;cases keyP x.Key <;> cases leB x.Key s <;> by_cases hq : scF x.Scopes = 0 <;> simp [hq]
end Go.Proofs.YtbpedjpoikmbjaaGreatDoor
