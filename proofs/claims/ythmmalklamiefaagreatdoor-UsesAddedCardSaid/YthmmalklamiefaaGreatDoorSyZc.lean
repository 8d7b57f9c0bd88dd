/- Plain: slices.SortStableFunc at uses, of any length: two orders that agree give one result. -/
import Derived.Test.YthmmalklamiefaaGreatDoorOkZc
import Derived.Test.YthmmalklamiefaaGreatDoorZcm
namespace Go.Proofs.YthmmalklamiefaaGreatDoor
set_option linter.unusedVariables false
set_option linter.unusedSimpArgs false
set_option linter.unusedSectionVars false
set_option maxRecDepth 20000
section
variable {α β σ ρ:Type} {Q:α→Prop} {R:ρ→Prop}
def Tw (o o':Option α) (Q:α→Prop):Prop:=∃ x,o=some x∧o'=some x∧Q x
theorem z8j {x:α} (h:Q x):Tw (some x) (some x) Q:=⟨x,rfl,rfl,h⟩
theorem y68 {o:Option α} (h:Ok o Q):Tw o o Q:=let ⟨x,h1,h2⟩:=h; ⟨x,h1,h1,h2⟩
theorem z5u {o o':Option α} {f f':α→Option β} {R:β→Prop} (h:Tw o o' Q) (k:∀ x,Q x→Tw (f x) (f' x) R):Tw (o.bind f) (o'.bind f') R:=by
 obtain ⟨x,rfl,rfl,hx⟩:=h
 exact k x hx
theorem y40 {c:Prop} [Decidable c] {a b a' b':Option α} (h1:c→Tw a a' Q) (h2:¬ c→Tw b b' Q):Tw (if c then a else b) (if c then a' else b') Q:=by
 by_cases h:c
 ·rw [if_pos h,if_pos h]; exact h1 h
 ·rw [if_neg h,if_neg h]; exact h2 h
theorem tw_g {c:Prop} [Decidable c] (hc:c) {a a':Option α} (h:Tw a a' Q):Tw (if c then a else none) (if c then a' else none) Q:=by rw [if_pos hc,if_pos hc]; exact h
theorem y9m {o o':Option α} {f:α→β} {R:β→Prop} (h:Tw o o' fun x=>R (f x)):Tw (Option.map f o) (Option.map f o') R:=by
 obtain ⟨x,rfl,rfl,hx⟩:=h
 exact ⟨f x,rfl,rfl,hx⟩
theorem y59 {body body':σ→Option (σ ⊕ ρ)} (I:σ→Prop) (μ:σ→Nat) (step:∀ s,I s→Tw (body s) (body' s) (rd (fun s'=>I s'∧μ s' < μ s) R)) (s:σ) (h:I s):Tw (iter body s) (iter body' s) R:=by
 have key:∀ n s,μ s < n→I s→Tw (iter body s) (iter body' s) R:=by
  intro n
  induction n with
  | zero=>intro s h; omega
  | succ n ih =>
   intro s hn hi
   rw [x7l,x7l body']
   refine z5u (step s hi) fun q hq => ?_
   cases q with
   | inl s'=>exact ih s' (by have:=hq.2; omega) hq.1
   | inr r=>exact ⟨r,rfl,rfl,hq⟩
 exact key _ s (Nat.lt_succ_self _) h
end
abbrev Us:=z0e
section
variable {G:Us→Prop} {p q:Us→Us→Option Int} {n:Nat} (hn:n≤1000000) (hp:∀ x y,G x→G y→Tw (p x y) (q x y) fun _=>True)
def InG (G:Us→Prop) (n:Nat) (l:List Us):Prop:=l.length=n∧∀ x,x∈l→G x
theorem at_G {l:List Us} (h:InG G n l) {m:Int} (hm:0≤m∧m < (n:Int)):Ok (at? l m) G:=by
 unfold at?
 rw [if_pos hm.1]
 have h1:m.toNat < l.length:=by rw [h.1]; omega
 exact ⟨_,List.getElem?_eq_getElem h1,h.2 _ (List.getElem_mem h1)⟩
theorem x02 {l:List Us} (h:InG G n l) (k:Nat) {x:Us} (hx:G x):InG G n (l.set k x):=
 ⟨by rw [List.length_set]; exact h.1,fun y hy=>(List.mem_or_eq_of_mem_set hy).elim (h.2 y) (fun e=>e ▸ hx)⟩
include hn hp
theorem w5u {l:List Us} {a b:Int} (h:InG G n l) (ha:0≤a) (hb:b≤(n:Int)) (hab:a≤(n:Int)):Tw (z2h l a b p) (z2h l a b q) (InG G n):=by
 unfold z2h
 rw [z6j (show -9223372036854775808≤a+1∧a+1≤9223372036854775807 by omega)]
 refine y59 (I:=fun s:Int×List Us=>(a+1≤s.1∧s.1≤(n:Int)+1)∧InG G n s.2) (μ:=fun s=>((n:Int)+1 - s.1).toNat) ?_ _ ⟨⟨by simp,by simp; omega⟩,h⟩
 rintro ⟨i,l⟩ ⟨hi,hl⟩
 simp only at hi hl
 unfold z4e
 refine y40 (fun hc => ?_) (fun hc=>z8j hl)
 have hc:i < b:=by simpa using hc
 refine y59 (I:=fun s:Int×List Us=>(a≤s.1∧s.1≤i)∧InG G n s.2) (μ:=fun s=>s.1.toNat) ?_ _ ⟨⟨by simp; omega,by simp⟩,hl⟩
 rintro ⟨j,l⟩ ⟨hj,hl⟩
 simp only at hj hl
 have e1:wr (j - 1)=j - 1:=z6j (by omega)
 have e2:wr (i+1)=i+1:=z6j (by omega)
 have hend:∀ l:List Us,InG G n l→Tw (Option.map (Sum.inr (α:=Int×List Us)) (z2b i l)) (Option.map Sum.inr (z2b i l)) (rd (fun s'=>((a≤s'.1∧s'.1≤i)∧InG G n s'.2)∧s'.1.toNat < j.toNat) (rd (fun s'=>((a+1≤s'.1∧s'.1≤(n:Int)+1)∧InG G n s'.2)∧((n:Int)+1 - s'.1).toNat < ((n:Int)+1 - i).toNat) (InG G n))):=fun l hl=>by
  unfold z2b
  rw [e2]
  exact y9m (z8j ⟨⟨⟨by simp; omega,by simp; omega⟩,hl⟩,by simp; omega⟩)
 unfold z4d
 refine y40 (fun hc2 => ?_) (fun hc2 => ?_)
 ·have hc2:a < j:=by simpa using hc2
  simp only [e1]
  refine z5u (y68 (at_G hl (by omega))) fun x hx=>z5u (y68 (at_G hl (by omega))) fun y hy=>z5u (hp x y hx hy) fun c _ => ?_
  unfold z2a
  refine y40 (fun hc3 => ?_) (fun hc3=>hend l hl)
  simp only [e1]
  refine z5u (y68 (at_G hl (by omega))) fun x22 h22=>z5u (y68 (at_G hl (by omega))) fun x24 h24=>z5u (y68 (at_G (x02 hl _ h22) (by omega))) fun x26 _ => ?_
  exact z8j ⟨⟨⟨by simp; omega,by simp; omega⟩,x02 (x02 hl _ h22) _ h24⟩,by simp; omega⟩
 ·unfold z2a
  exact y40 (fun hc3=>by simp at hc3) (fun hc3=>hend l hl)
omit hp
theorem x32 {l:List Us} {a b k:Int} (h:InG G n l) (ha:0≤a∧a+k≤(n:Int)) (hb:0≤b∧b+k≤(n:Int)) (hk:0≤k):Tw (z2k l a b k p) (z2k l a b k q) (InG G n):=by
 unfold z2k
 refine tw_g (by omega) (y68 (x3g (I:=fun _ l=>InG G n l) _ _ _ h (fun j l _ hj hl => ?_) (fun l hl=>z13 hl)))
 have e1:wr (b+(j:Int))=b+(j:Int):=z6j (by omega)
 have e2:wr (a+(j:Int))=a+(j:Int):=z6j (by omega)
 unfold z44
 simp only [e1,e2]
 refine z1c (at_G hl (by omega)) fun x hx=>z1c (at_G hl (by omega)) fun y hy=>z1c (at_G (x02 hl _ hx) (by omega)) fun z _=>z13 ?_
 exact x02 (x02 hl _ hx) _ hy
theorem w8e {l:List Us} {a m b:Int} (h:InG G n l) (h1:0≤a) (h2:a < m) (h3:m < b) (h4:b≤(n:Int)):Tw (z3u l a m b p) (z3u l a m b q) (InG G n):=by
 unfold z3u
 rw [z6j (show -9223372036854775808≤m - a∧m - a≤9223372036854775807 by omega),z6j (show -9223372036854775808≤b - m∧b - m≤9223372036854775807 by omega)]
 refine y59 (I:=fun s:Int×Int×List Us=>(1≤s.1∧1≤s.2.1∧s.1≤m∧m+s.2.1≤(n:Int))∧InG G n s.2.2) (μ:=fun s=>(s.1+s.2.1).toNat) ?_ _ ⟨⟨by simp; omega,by simp; omega,by simp; omega,by simp; omega⟩,h⟩
 rintro ⟨i,j,l⟩ ⟨⟨hi,hj,him,hjm⟩,hl⟩
 simp only at hi hj him hjm hl
 have e1:wr (m - i)=m - i:=z6j (by omega)
 have e2:wr (i - j)=i - j:=z6j (by omega)
 have e3:wr (m+j)=m+j:=z6j (by omega)
 have e4:wr (m+j - i)=m+j - i:=z6j (by omega)
 have e5:wr (j - i)=j - i:=z6j (by omega)
 unfold z6a
 simp only [e1,e2,e3,e4,e5]
 refine y40 (fun hc => ?_) (fun hc => ?_)
 ·have hc:i≠j:=by simpa using hc
  refine y40 (fun hd => ?_) (fun hd => ?_)
  ·have hd:j < i:=by simpa using hd
   refine z5u (x32 hn hl ⟨by omega,by omega⟩ ⟨by omega,by omega⟩ (by omega)) fun r hr=>tw_g (by rw [hr.1,hl.1]) (z8j ⟨⟨⟨by simp; omega,by simp; omega,by simp; omega,by simp; omega⟩,hr⟩,by simp; omega⟩)
  ·have hd:¬ j < i:=by simpa using hd
   refine z5u (x32 hn hl ⟨by omega,by omega⟩ ⟨by omega,by omega⟩ (by omega)) fun r hr=>tw_g (by rw [hr.1,hl.1]) (z8j ⟨⟨⟨by simp; omega,by simp; omega,by simp; omega,by simp; omega⟩,hr⟩,by simp; omega⟩)
 ·have hc:i=j:=by simpa using hc
  subst hc
  refine y9m ?_
  unfold z4q
  simp only [e1]
  exact z5u (x32 hn hl ⟨by omega,by omega⟩ ⟨by omega,by omega⟩ (by omega)) fun r hr=>tw_g (by rw [hr.1,hl.1]) (z8j hr)
include hp
theorem w6g {mp mq:List Us→Int→Int→Int→(Us→Us→Option Int)→Option (List Us)} {N:Int} (hm:∀ (l:List Us) (a m b:Int),InG G n l→0≤a→a < m→m < b→b≤(n:Int)→b - a < N→Tw (mp l a m b p) (mq l a m b q) (InG G n))
  {l:List Us} {a m b:Int} (h:InG G n l) (h1:0≤a) (h2:a < m) (h3:m < b) (h4:b≤(n:Int)) (h5:b - a≤N):Tw (z2d mp l a m b p) (z2d mq l a m b q) (InG G n):=by
 have e1:wr (m - a)=m - a:=z6j (by omega)
 have e2:wr (b - m)=b - m:=z6j (by omega)
 have hh:∀ {x:Int},0≤x→x≤1000000000→IntKind.wrap .i64 (shr_ .u64 (IntKind.wrap .u64 (wr x)) 1)=x / 2:=fun h1 h2=>w17 ⟨h1,h2⟩
 unfold z2d
 simp only [e1,e2,hh (show 0≤a+b by omega) (show a+b≤1000000000 by omega)]
 refine y40 (fun hc => ?_) (fun hc=>y40 (fun hc2 => ?_) (fun hc2 => ?_))
 ·-- one element before
  refine y59 (I:=fun s:Int×Int=>m≤s.1∧s.1≤s.2∧s.2≤b) (μ:=fun s=>(s.2 - s.1).toNat) ?_ _ ⟨by simp,by simp; omega,by simp⟩
  rintro ⟨i,j⟩ ⟨hi,hij,hj⟩
  simp only at hi hij hj
  unfold z5h
  simp only [hh (show 0≤i+j by omega) (show i+j≤1000000000 by omega)]
  refine y40 (fun hd => ?_) (fun hd => ?_)
  ·have hd:i < j:=by simpa using hd
   refine z5u (y68 (at_G h (by omega))) fun x hx=>z5u (y68 (at_G h (by omega))) fun y hy=>z5u (hp x y hx hy) fun c _=>y40 (fun _ => ?_) (fun _ => ?_)
   ·rw [z6j (by omega)]
    exact z8j ⟨⟨by simp; omega,by simp; omega,by simp; omega⟩,by simp; omega⟩
   ·exact z8j ⟨⟨by simp; omega,by simp; omega,by simp; omega⟩,by simp; omega⟩
  ·refine y9m ?_
   unfold z39
   refine y59 (I:=fun s:Int×List Us=>a≤s.1∧InG G n s.2) (μ:=fun s=>(i - s.1).toNat) ?_ _ ⟨by simp,h⟩
   rintro ⟨k,l⟩ ⟨hk,hl⟩
   simp only at hk hl
   unfold z5g
   simp only [z6j (show -9223372036854775808≤i - 1∧i - 1≤9223372036854775807 by omega)]
   refine y40 (fun he => ?_) (fun he => ?_)
   ·have he:k < i - 1:=by simpa using he
    simp only [z6j (show -9223372036854775808≤k+1∧k+1≤9223372036854775807 by omega)]
    refine z5u (y68 (at_G hl (by omega))) fun x hx=>z5u (y68 (at_G hl (by omega))) fun y hy=>z5u (y68 (at_G (x02 hl _ hx) (by omega))) fun z _ => ?_
    exact z8j ⟨⟨by simp; omega,x02 (x02 hl _ hx) _ hy⟩,by simp; omega⟩
   ·exact y9m (z8j hl)
 ·refine y59 (I:=fun s:Int×Int=>a≤s.1∧s.1≤s.2∧s.2≤m) (μ:=fun s=>(s.2 - s.1).toNat) ?_ _ ⟨by simp,by simp; omega,by simp⟩
  rintro ⟨i,j⟩ ⟨hi,hij,hj⟩
  simp only at hi hij hj
  unfold z5f
  simp only [hh (show 0≤i+j by omega) (show i+j≤1000000000 by omega)]
  refine y40 (fun hd => ?_) (fun hd => ?_)
  ·have hd:i < j:=by simpa using hd
   refine z5u (y68 (at_G h (by omega))) fun x hx=>z5u (y68 (at_G h (by omega))) fun y hy=>z5u (hp x y hx hy) fun c _=>y40 (fun _ => ?_) (fun _ => ?_)
   ·rw [z6j (by omega)]
    exact z8j ⟨⟨by simp; omega,by simp; omega,by simp; omega⟩,by simp; omega⟩
   ·exact z8j ⟨⟨by simp; omega,by simp; omega,by simp; omega⟩,by simp; omega⟩
  ·refine y9m ?_
   unfold z38
   refine y59 (I:=fun s:Int×List Us=>s.1≤m∧InG G n s.2) (μ:=fun s=>(s.1 - i).toNat) ?_ _ ⟨by simp,h⟩
   rintro ⟨k,l⟩ ⟨hk,hl⟩
   simp only at hk hl
   unfold z5e
   refine y40 (fun he => ?_) (fun he => ?_)
   ·have he:i < k:=by simpa using he
    simp only [z6j (show -9223372036854775808≤k - 1∧k - 1≤9223372036854775807 by omega)]
    refine z5u (y68 (at_G hl (by omega))) fun x hx=>z5u (y68 (at_G hl (by omega))) fun y hy=>z5u (y68 (at_G (x02 hl _ hx) (by omega))) fun z _ => ?_
    exact z8j ⟨⟨by simp; omega,x02 (x02 hl _ hx) _ hy⟩,by simp; omega⟩
   ·exact y9m (z8j hl)
 ·have hmw:=hh (show 0≤a+b by omega) (show a+b≤1000000000 by omega)
  generalize hmid:(a+b) / 2=d
  rw [hmid] at hmw
  have hd1:a < d:=by omega
  have hd2:d < b:=by omega
  have hd3:2 * d≤a+b:=by omega
  have hd4:a+b≤2 * d+1:=by omega
  clear hmid
  have J:∀ {s r:Int},a≤s→d+m - b≤s→s≤r→r≤d→r≤m→Tw (z2j l a m b p mp s r) (z2j l a m b q mq s r) (InG G n):=fun {s r} k1 k2 k3 k4 k5=>by
   have e5:wr (d+m)=d+m:=z6j (by omega)
   have e6:wr (d+m - 1)=d+m - 1:=z6j (by omega)
   unfold z2j
   refine y59 (I:=fun s:Int×Int=>(a≤s.1∧d+m - b≤s.1)∧s.1≤s.2∧s.2≤d∧s.2≤m) (μ:=fun s=>(s.2 - s.1).toNat) ?_ _ ⟨⟨k1,k2⟩,k3,k4,k5⟩
   rintro ⟨s,r⟩ ⟨⟨k1,k2⟩,k3,k4,k5⟩
   simp only at k1 k2 k3 k4 k5
   unfold z43
   refine y40 (fun hd => ?_) (fun hd => ?_)
   ·have hd:s < r:=by simpa using hd
    have hc:=hh (show 0≤s+r by omega) (show s+r≤1000000000 by omega)
    have e7:wr (d+m - 1 - (s+r) / 2)=d+m - 1 - (s+r) / 2:=z6j (by omega)
    have e8:wr ((s+r) / 2+1)=(s+r) / 2+1:=z6j (by omega)
    simp only [hmw,hc,e5,e6,e7,e8]
    refine z5u (y68 (at_G h (by omega))) fun x hx=>z5u (y68 (at_G h (by omega))) fun y hy=>z5u (hp x y hx hy) fun c _=>y40 (fun _ => ?_) (fun _ => ?_)
    ·exact z8j ⟨⟨⟨by simp; omega,by simp; omega⟩,by simp; omega,by simp; omega,by simp; omega⟩,by simp; omega⟩
    ·exact z8j ⟨⟨⟨by simp; omega,by simp; omega⟩,by simp; omega,by simp; omega,by simp; omega⟩,by simp; omega⟩
   ·refine y9m ?_
    have e9:wr (d+m - s)=d+m - s:=z6j (by omega)
    have J13:∀ {v:List Us},InG G n v→Tw (z17 a m b p mp s v) (z17 a m b q mq s v) (InG G n):=fun {v} hv=>by
     unfold z17
     simp only [hmw,e5,e9]
     refine y40 (fun hc => ?_) (fun hc=>z8j hv)
     simp only [Bool.and_eq_true,decide_eq_true_eq] at hc
     exact z5u (hm v d (d+m - s) b hv (by omega) (by omega) (by omega) h4 (by omega)) fun r hr=>tw_g (by rw [hr.1,hv.1]) (z8j hr)
    have J12:∀ {v:List Us},InG G n v→Tw (z19 a m b p mp s v) (z19 a m b q mq s v) (InG G n):=fun {v} hv=>by
     unfold z19
     simp only [hmw]
     refine y40 (fun hc => ?_) (fun hc=>J13 hv)
     simp only [Bool.and_eq_true,decide_eq_true_eq] at hc
     exact z5u (hm v a s d hv h1 (by omega) (by omega) (by omega) (by omega)) fun r hr=>tw_g (by rw [hr.1,hv.1]) (J13 hr)
    unfold z33
    simp only [hmw,e5,e9]
    refine y40 (fun hc => ?_) (fun hc=>J12 h)
    simp only [Bool.and_eq_true,decide_eq_true_eq] at hc
    exact z5u (w8e hn h (by omega) (by omega) (by omega) (by omega)) fun r hr=>tw_g (by rw [hr.1,h.1]) (J12 hr)
  have e5:wr (d+m)=d+m:=z6j (by omega)
  have e6:wr (d+m - b)=d+m - b:=z6j (by omega)
  simp only [e5,e6]
  refine y40 (fun hc3 => ?_) (fun hc3 => ?_)
  ·have hc3:d < m:=by simpa using hc3
   exact J (by omega) (by omega) (by omega) (by omega) (by omega)
  ·have hc3:¬ d < m:=by simpa using hc3
   exact J (by omega) (by omega) (by omega) (by omega) (by omega)
theorem w0z:∀ (N:Nat) (l:List Us) (a m b:Int),InG G n l→0≤a→a < m→m < b→b≤(n:Int)→b - a≤(N:Int)→Tw (z2c N l a m b p) (z2c N l a m b q) (InG G n)
 | 0,l,a,m,b,h,h1,h2,h3,h4,h5=>by omega
 | N+1,l,a,m,b,h,h1,h2,h3,h4,h5=>by
  show Tw (z2d (z2c N) l a m b p) (z2d (z2c N) l a m b q) _
  exact w6g hn hp (N:=(N:Int)+1) (fun l a m b k h1 h2 h3 h4 h5=>w0z N l a m b k h1 h2 h3 h4 (by omega)) h h1 h2 h3 h4 (by omega)
theorem w5m {l:List Us} {a m b:Int} (h:InG G n l) (h1:0≤a) (h2:a < m) (h3:m < b) (h4:b≤(n:Int)) (h5:b - a≤64):Tw (z4f l a m b p) (z4f l a m b q) (InG G n):=
 w0z hn hp 64 l a m b h h1 h2 h3 h4 h5
theorem w6m {l:List Us} (h:InG G n l) (hn2:n≤64):Tw (z1z l p) (z1z l q) (InG G n):=by
 unfold z1z
 rw [h.1]
 refine z5u ?_ fun r hr=>tw_g hr.1 (z8j hr)
 unfold z6q
 refine y59 (I:=fun s:Int×Int×List Us=>(0≤s.1∧s.1≤(n:Int)∧s.2.1=s.1+20)∧InG G n s.2.2) (μ:=fun s=>((n:Int) - s.1).toNat) ?_ _ ⟨⟨by simp,by simp,by simp⟩,h⟩
 rintro ⟨a,b,l⟩ ⟨⟨k1,k2,k3⟩,hl⟩
 simp only at k1 k2 k3 hl
 unfold z59
 refine y40 (fun hc => ?_) (fun hc => ?_)
 ·have hc:b≤(n:Int):=by simpa using hc
  refine z5u (w5u hn hp hl k1 hc k2) fun r hr=>tw_g (by rw [hr.1,hl.1]) ?_
  have e0:wr (b+20)=b+20:=z6j (by omega)
  simp only [e0]
  exact z8j ⟨⟨⟨by simp; omega,by simp; omega,by simp⟩,hr⟩,by simp; omega⟩
 ·refine y9m ?_
  unfold z4p
  refine z5u (w5u hn hp hl k1 (Int.le_refl _) k2) fun r13 h13=>tw_g (by rw [h13.1,hl.1]) ?_
  clear hc hl k1 k2 k3
  refine y59 (I:=fun s:Int×List Us=>(20≤s.1∧s.1≤1000000)∧InG G n s.2) (μ:=fun s=>((n:Int) - s.1).toNat) ?_ _ ⟨⟨by simp,by simp⟩,h13⟩
  rintro ⟨bs,l⟩ ⟨⟨k1,k2⟩,hl⟩
  simp only at k1 k2 hl
  unfold z58
  refine y40 (fun hc => ?_) (fun hc=>z8j hl)
  have hc:bs < (n:Int):=by simpa using hc
  have e1:wr (2 * bs)=2 * bs:=z6j (by omega)
  rw [e1]
  refine y59 (I:=fun s:Int×Int×List Us=>(0≤s.1∧s.1≤(n:Int)∧s.2.1=s.1+2 * bs)∧InG G n s.2.2) (μ:=fun s=>((n:Int) - s.1).toNat) ?_ _ ⟨⟨by simp,by simp,by simp⟩,hl⟩
  rintro ⟨a,b,l⟩ ⟨⟨j1,j2,j3⟩,hl⟩
  simp only at j1 j2 j3 hl
  have e2:wr (a+bs)=a+bs:=z6j (by omega)
  have e3:wr (b+2 * bs)=b+2 * bs:=z6j (by omega)
  have e4:wr (bs * 2)=bs * 2:=z6j (by omega)
  unfold z57
  simp only [e1,e2,e3]
  refine y40 (fun hd => ?_) (fun hd => ?_)
  ·have hd:b≤(n:Int):=by simpa using hd
   refine z5u (w5m hn hp hl j1 (by omega) (by omega) hd (by omega)) fun r hr=>tw_g (by rw [hr.1,hl.1]) ?_
   exact z8j ⟨⟨⟨by simp; omega,by simp; omega,by simp⟩,hr⟩,by simp; omega⟩
  ·refine y9m ?_
   have J6:∀ {v:List Us},InG G n v→Tw (z2q bs v) (z2q bs v) (rd (fun s'=>((20≤s'.1∧s'.1≤1000000)∧InG G n s'.2)∧((n:Int) - s'.1).toNat < ((n:Int) - bs).toNat) (InG G n)):=fun {v} hv=>by
    unfold z2q
    rw [e4]
    exact z8j ⟨⟨⟨by simp; omega,by simp; omega⟩,hv⟩,by simp; omega⟩
   unfold z4o
   simp only [e2]
   refine y40 (fun he => ?_) (fun he=>J6 hl)
   have he:a+bs < (n:Int):=by simpa using he
   exact z5u (w5m hn hp hl j1 (by omega) he (Int.le_refl _) (by omega)) fun r hr=>tw_g (by rw [hr.1,hl.1]) (J6 hr)
end
end Go.Proofs.YthmmalklamiefaaGreatDoor
