/- Plain: uses: their faults, sums and what is left, both sides; the generator. -/
import Derived.Test.YthmmalklamiefaaGreatDoorEwZc
import Derived.Test.YthmmalklamiefaaGreatDoorSyZc
namespace Go.Proofs.YthmmalklamiefaaGreatDoor
set_option linter.unusedVariables false
set_option linter.unusedSimpArgs false
set_option linter.unusedSectionVars false
set_option maxRecDepth 20000
def orU (a b:z0e):Int:=or3 a.Month b.Month a.App a.Product b.App b.Product
theorem x45 (a b:z0e):z61 a b=some (orU a b):=w5s ..
theorem x4n (a b:z0e) (ha:atB a.Month) (hb:atB b.Month):z7e a b=some (orU a b):=w1i _ _ _ _ _ _ ⟨ha.1,ha.2,hb.1,hb.2⟩
theorem w1q {t1 t2 t3:Int} {a1 p1 a2 p2 a3 p3:Bs} (h1:or3 t1 t2 a1 p1 a2 p2 < 0) (h2:or3 t2 t3 a2 p2 a3 p3 < 0):or3 t1 t3 a1 p1 a3 p3 < 0:=by
 unfold or3 at *
 by_cases c1:t1 < t2
 ·by_cases c2:t2 < t3
  ·rw [if_pos (by omega)]; omega
  ·rw [if_neg c2] at h2
   by_cases c3:t3 < t2
   ·rw [if_pos c3] at h2; omega
   ·rw [if_pos (by omega)]; omega
 ·rw [if_neg c1] at h1
  by_cases c2:t2 < t1
  ·rw [if_pos c2] at h1; omega
  ·rw [if_neg c2] at h1
   by_cases c3:t2 < t3
   ·rw [if_pos (by omega)]; omega
   ·rw [if_neg c3] at h2
    by_cases c4:t3 < t2
    ·rw [if_pos c4] at h2; omega
    ·rw [if_neg c4] at h2
     rw [if_neg (by omega),if_neg (by omega)]
     exact x3k h1 h2
theorem w4j {x y:z0e} (h1:x.Month=y.Month) (h2:x.App=y.App) (h3:x.Product=y.Product):orU x y=0:=by
 unfold orU or3 cmp2
 rw [if_neg (by omega),if_neg (by omega),h2,h3,(y37 _ _).2 rfl,(y37 _ _).2 rfl]
 simp
def y8p (l:List z0e) (k:Nat) (x:z0e):Bool:=decide (0 < k) && match l[k - 1]? with | some y=>decide (0≤orU y x) | none=>false
theorem w6r {l:List z0e} (h:∀ k x,l[k]?=some x→y8p l k x=false):l.Pairwise fun x y=>orU x y < 0:=by
 have key:∀ (n k:Nat) (x y:z0e),l[k]?=some x→l[k+n+1]?=some y→orU x y < 0:=by
  intro n
  induction n with
  | zero =>
   intro k x y hx hy
   have:=h (k+0+1) y hy
   unfold y8p at this
   simp [hx] at this
   exact this
  | succ n ih =>
   intro k x y hx hy
   obtain ⟨z,hz⟩:∃ z,l[k+n+1]?=some z:=⟨_,List.getElem?_eq_getElem (by have:=z9l hy; omega)⟩
   have h1:=ih k x z hx hz
   have h2:=h (k+(n+1)+1) y hy
   unfold y8p at h2
   have e:k+(n+1)+1 - 1=k+n+1:=by omega
   rw [e,hz] at h2
   simp at h2
   exact w1q h1 h2
 refine List.pairwise_iff_getElem.2 fun i j hi hj hij => ?_
 obtain ⟨n,rfl⟩:∃ n,j=i+n+1:=⟨j - i - 1,by omega⟩
 exact key n i _ _ (List.getElem?_eq_getElem hi) (List.getElem?_eq_getElem hj)
def us1 (c:z0i) (apps:List z0s) (l:List z0e) (k:Nat) (x:z0e):Int:=
 if (hasA apps x.App && hasP c x.Product)=false then 8 else if (outP x.Month 0 132 || outP x.Calls 0 1000000000000)=true then 1 else if y8p l k x=true then 7 else 0
def usF (c:z0i) (apps:List z0s) (l:List z0e):Int:=
 if catF c≠0 then catF c else if apF apps≠0 then apF apps else if 3000 < l.length then 2 else feI (us1 c apps l) 0 l
section
variable {c:z0i} {apps:List z0s} {l:List z0e} (hb:CB c) (ha:AB apps) (hl:∀ x,x∈l→atB x.Month)
include hb ha
theorem w7u (h1:catF c=0) (h2:apF apps=0) (k:Nat) (x:z0e) (hx:l[k]?=some x):y0r c apps l k x=if us1 c apps l k x≠0 then some (.inr (us1 c apps l k x)) else some (.inl ()):=by
 obtain ⟨⟨hp,hpl⟩,_⟩:=y5n h1
 have hlt:=z9l hx
 have hJ:∀ v,z7c l k x v=if v=true then some (.inr 1) else if y8p l k x=true then some (.inr 7) else some (.inl ()):=fun v=>by
  unfold z7c z8t
  by_cases h0:0 < k
  ·obtain ⟨y,hy⟩:∃ y,l[k - 1]?=some y:=⟨_,List.getElem?_eq_getElem (by omega)⟩
   have e2:decide (0 < (k:Int))=true:=by simpa using h0
   have e3:y8p l k x=decide (0≤orU y x):=by simp [y8p,h0,hy]
   simp only [e2,if_true,y8i h0,hy,Option.bind_some,e3,x45]
  ·have e2:decide (0 < (k:Int))=false:=by simpa using h0
   have e3:y8p l k x=false:=by simp [y8p,h0]
   rw [e2,e3]; simp
 obtain ⟨ra,a1,a2,_⟩:=x5e apps x.App (by have:=ha.1; omega) (x5f h2)
 obtain ⟨rp,p1,p2⟩:=y6s c x.Product hb.np hp
 unfold y0r
 simp only [a1,a2,p1,p2,x5x,hJ,Option.bind_some,us1]
 rcases Bool.eq_false_or_eq_true (hasA apps x.App) with b2 | b2 <;> rcases Bool.eq_false_or_eq_true (hasP c x.Product) with b3 | b3 <;> rcases Bool.eq_false_or_eq_true (outP x.Month 0 132) with b4 | b4 <;> rcases Bool.eq_false_or_eq_true (outP x.Calls 0 1000000000000) with b5 | b5 <;> rcases Bool.eq_false_or_eq_true (y8p l k x) with b6 | b6 <;> simp [b2,b3,b4,b5,b6]
theorem y8o:z52 c apps l=some (usF c apps l):=by
 unfold z52 usF
 rw [x2n c hb,x3l apps ha]
 simp only [Option.bind_some]
 by_cases h1:catF c=0
 ·rw [if_neg (by simpa using h1),if_neg (not_not_intro h1)]
  by_cases h2:apF apps=0
  ·rw [if_neg (by simpa using h2),if_neg (not_not_intro h2)]
   by_cases h3:3000 < l.length
   ·rw [if_pos (by simp; omega),if_pos h3]
   ·rw [if_neg (by simp; omega),if_neg h3,if_pos (by omega)]
    exact x2k rfl l 0 fun j x _ hx=>w7u hb ha h1 h2 j x (by simpa using hx)
  ·rw [if_pos (by simpa using h2),if_pos h2]
 ·rw [if_pos (by simpa using h1),if_pos h1]
include hl
theorem w7t (h1:catF c=0) (h2:apF apps=0) (k:Nat) (x:z0e) (hx:l[k]?=some x):z9q c apps l k x=if us1 c apps l k x≠0 then some (.inr (us1 c apps l k x)) else some (.inl ()):=by
 have hlt:=z9l hx
 have hJ:∀ v,z6f l k x v=if v=true then some (.inr 1) else if y8p l k x=true then some (.inr 7) else some (.inl ()):=fun v=>by
  unfold z6f z7k
  by_cases h0:0 < k
  ·obtain ⟨y,hy⟩:∃ y,l[k - 1]?=some y:=⟨_,List.getElem?_eq_getElem (by omega)⟩
   have e2:decide (0 < (k:Int))=true:=by simpa using h0
   have e3:y8p l k x=decide (0≤orU y x):=by simp [y8p,h0,hy]
   simp only [e2,if_true,y8i h0,hy,Option.bind_some,e3,x4n y x (hl y (List.mem_of_getElem? hy)) (hl x (List.mem_of_getElem? hx))]
  ·have e2:decide (0 < (k:Int))=false:=by simpa using h0
   have e3:y8p l k x=false:=by simp [y8p,h0]
   rw [e2,e3]; simp
 have hA:decide (fdx (fun y:z0s=>decide (y.Key=x.App)) 0 apps < 0) = !hasA apps x.App:=y64 (fun y:z0s=>decide (y.Key=x.App)) apps
 have hP:decide (fdx (fun y:z0r=>decide (y.Key=x.Product)) 0 c.Products < 0) = !hasP c x.Product:=y64 (fun y:z0r=>decide (y.Key=x.Product)) c.Products
 unfold z9q z7l
 simp only [y88 apps x.App (by have:=ha.1; omega),y9u c x.Product hb.np,Option.bind_some,hA,hP,x4w,hJ,us1]
 rcases Bool.eq_false_or_eq_true (hasA apps x.App) with b2 | b2 <;> rcases Bool.eq_false_or_eq_true (hasP c x.Product) with b3 | b3 <;> rcases Bool.eq_false_or_eq_true (outP x.Month 0 132) with b4 | b4 <;> rcases Bool.eq_false_or_eq_true (outP x.Calls 0 1000000000000) with b5 | b5 <;> rcases Bool.eq_false_or_eq_true (y8p l k x) with b6 | b6 <;> simp [b2,b3,b4,b5,b6]
theorem x0u:z8h c apps l=some (usF c apps l):=by
 unfold z8h y1w usF
 rw [y9j c hb,x00 apps ha]
 simp only [Option.bind_some]
 by_cases h1:catF c=0
 ·have e:(if decide (catF c≠0)=true then some (catF c) else some (apF apps))=some (apF apps):=if_neg (by simpa using h1)
  rw [e,if_neg (not_not_intro h1)]
  simp only [Option.bind_some]
  by_cases h2:apF apps=0
  ·rw [if_neg (by simpa using h2),if_neg (not_not_intro h2)]
   by_cases h3:3000 < l.length
   ·rw [if_pos (by simp; omega),if_pos h3]
   ·rw [if_neg (by simp; omega),if_neg h3,if_pos (by omega)]
    exact x2k rfl l 0 fun j x _ hx=>w7t hb ha hl h1 h2 j x (by simpa using hx)
  ·rw [if_pos (by simpa using h2),if_pos h2]
 ·have e:(if decide (catF c≠0)=true then some (catF c) else some (apF apps))=some (catF c):=if_pos (by simpa using h1)
  rw [e,if_pos h1]
  simp only [Option.bind_some]
  rw [if_pos (by simpa using h1)]
end
theorem w3k {c:z0i} {apps:List z0s} {l:List z0e} (h:usF c apps l=0):l.Pairwise fun x y=>orU x y < 0:=by
 unfold usF at h
 by_cases h1:catF c=0
 ·rw [if_neg (not_not_intro h1)] at h
  by_cases h2:apF apps=0
  ·rw [if_neg (not_not_intro h2)] at h
   by_cases h3:3000 < l.length
   ·rw [if_pos h3] at h; omega
   ·rw [if_neg h3] at h
    refine w6r fun k x hx => ?_
    have:=x1i l 0 h k x hx
    rw [Nat.zero_add] at this
    unfold us1 at this
    split at this
    ·omega
    ·split at this
     ·omega
     ·split at this
      ·omega
      ·rename_i h4
       simpa using h4
  ·rw [if_pos h2] at h; exact absurd h h2
 ·rw [if_pos h1] at h; exact absurd h h1
theorem x6d (a b:List z0e) (h:a.length+b.length≤1000000):z3c [a,b]=some (a++b):=by
 have e1:∀ (k:Nat) (x:List z0e) (n:Nat),n+x.length≤1000000→z2t k x (n:Int)=some (.inl ((n+x.length:Nat):Int)):=fun k x n hn=>by
  unfold z2t
  rw [z6j (by omega),if_neg (by simp; omega)]
  congr 2
 have e2:∀ (k:Nat) (x l:List z0e),l.length+x.length≤1000000→z2s k x l=some (.inl (l++x)):=fun k x l hl=>by
  unfold z2s
  rw [if_pos (by omega)]
 have e3:y3k (α:=z0e) ((a.length+b.length:Nat):Int)=some []:=by unfold y3k; rw [if_pos (by omega)]
 unfold z3c
 rw [if_pos (by simp)]
 have h1:=e1 0 a 0 (by omega)
 have h2:=e1 (0+1) b a.length (by omega)
 have h3:=e2 0 a [] (by simp; omega)
 have h4:=e2 (0+1) b a (by omega)
 simp only [Nat.zero_add,List.nil_append] at h1 h2 h3 h4
 show (z2t 0 a ((0:Nat):Int)).bind _=_
 rw [h1]
 show (z2t 1 b (a.length:Int)).bind _=_
 rw [h2]
 show z34 [a,b] ((a.length+b.length:Nat):Int)=_
 unfold z34
 rw [e3]
 simp only [Option.bind_some]
 rw [if_pos (by simp)]
 show (z2s 0 a []).bind _=_
 rw [h3]
 show (z2s 1 b a).bind _=_
 rw [h4]
 rfl
theorem w5g {σ ρ:Type} {body body':Nat→σ→Option (σ ⊕ ρ)} {fin fin':σ→Option ρ} {R:ρ→Prop} (I:Nat→σ→Prop):∀ (n k:Nat) (s:σ),I k s →
  (∀ j s,k≤j→j < k+n→I j s→Tw (body j s) (body' j s) (rd (I (j+1)) R))→(∀ s,I (k+n) s→Tw (fin s) (fin' s) R)→Tw (rng body fin n k s) (rng body' fin' n k s) R
 | 0,k,s,h0,hs,hf=>hf s h0
 | n+1,k,s,h0,hs,hf=>by
  refine z5u (hs k s (Nat.le_refl _) (by omega) h0) fun q hq => ?_
  cases q with
  | inl s'=>exact w5g I n (k+1) s' hq (fun j s hj hy hi=>hs j s (by omega) (by omega) hi) (fun s hi=>hf s (by rw [show k+(n+1)=k+1+n by omega]; exact hi))
  | inr r=>exact ⟨r,rfl,rfl,hq⟩
def UB (x:z0e):Prop:=atB x.Month
theorem w3c {a b:List z0e} (ha:∀ x,x∈a→UB x) (hb:∀ x,x∈b→UB x) (hl:a.length+b.length≤64):Tw (y3j a b) (y1x a b) fun r=>r.1.length≤1000:=by
 unfold y3j y1x
 rw [x6d a b (by omega)]
 simp only [Option.bind_some]
 have hin:InG UB (a++b).length (a++b):=⟨rfl,fun x hx=>(List.mem_append.1 hx).elim (ha x) (hb x)⟩
 have hn:(a++b).length≤64:=by simp; omega
 refine z5u (w6m (G:=UB) (n:=(a++b).length) (by omega) (fun x y hx hy=>⟨orU x y,x45 x y,x4n x y hx hy,trivial⟩) hin (by omega)) fun r hr=>tw_g hr.1 (tw_g (by rw [hr.1]; omega) ?_)
 have hr1:=hr.1
 refine w5g (I:=fun k l=>l.length≤k∧∀ x,x∈l→UB x) _ _ _ ⟨by simp,by simp⟩ (fun j l _ hj hI => ?_) (fun l hI => ?_)
 ·obtain ⟨hI1,hI2⟩:=hI
  have hj':j < r.length:=by omega
  have hx:r[j]?=some r[j]:=List.getElem?_eq_getElem hj'
  have hxU:=hr.2 _ (List.getElem_mem hj')
  generalize r[j]=x at hx hxU
  have J:∀ v,(v=true→0 < l.length)→Tw (y2e l x v) (z79 l x v) (rd (fun l=>l.length≤j+1∧∀ x,x∈l→UB x) fun r=>r.1.length≤1000):=fun v hv=>by
   unfold y2e z79 y3i z9x
   refine y40 (fun h => ?_) (fun h=>tw_g (by omega) (z8j ⟨by simp; omega,fun y hy=>(List.mem_append.1 hy).elim (hI2 y) (fun h=>by simp at h; rw [h]; exact hxU)⟩))
   have h0:=hv h
   have e1:wr ((l.length:Int) - 1)=(l.length:Int) - 1:=z6j (by omega)
   rw [e1]
   refine z5u (y68 (at_G (n:=l.length) (G:=UB) ⟨rfl,hI2⟩ (by omega))) fun y hy=>z8j ⟨by simp; omega,fun z hz => ?_⟩
   rcases List.mem_or_eq_of_mem_set hz with hz | rfl
   ·exact hI2 z hz
   ·exact hy
  unfold y5z y24
  rw [hx]
  simp only [Option.bind_some]
  have e1:wr ((l.length:Int) - 1)=(l.length:Int) - 1:=z6j (by omega)
  rw [e1]
  refine y40 (fun h => ?_) (fun h=>J false (by simp))
  have h:0≤(l.length:Int) - 1:=by simpa using h
  refine z5u (y68 (at_G (n:=l.length) (G:=UB) ⟨rfl,hI2⟩ (by omega))) fun y hy => ?_
  rw [x45,x4n y x hy hxU]
  simp only [Option.bind_some]
  exact J _ fun _=>by omega
 ·obtain ⟨hI1,hI2⟩:=hI
  have hc:z2r l (fun a0=>y2u a0)=some (l.any fun x=>decide (1000000000000 < x.Calls)):=
   w2d l (p:=fun a0=>y2u a0) (fun x=>decide (1000000000000 < x.Calls)) (by omega) fun x _=>rfl
  have hc':z2r l (fun a0=>z8v a0)=some (l.any fun x=>decide (1000000000000 < x.Calls)):=
   w2d l (p:=fun a0=>z8v a0) (fun x=>decide (1000000000000 < x.Calls)) (by omega) fun x _=>rfl
  unfold y50 y25
  rw [hc,hc']
  simp only [Option.bind_some]
  exact y40 (fun _=>z8j (by simp)) (fun _=>y40 (fun _=>z8j (by simp)) (fun _=>z8j (by simp only; omega)))
theorem w2m (a:List z0e) (h:a.length≤1000000000):z50 a a=some true:=
 w2c (fun (x7 x10:z0e)=>(!((x7.App == x10.App) && ((x7.Product == x10.Product) && ((x7.Month == x10.Month) && ((x7.Calls == x10.Calls) && true)))))) (fun x=>by simp) a h
def clU (a p:Bs) (m:Int):List z0e→Option Int
 | []=>none
 | x::l=>if x.App=a∧x.Product=p∧x.Month=m then some x.Calls else clU a p m l
theorem w0e (a p:Bs) (m:Int) (l:List z0e) (h:l.length≤1000000000):y1a l a p m=some ((clU a p m l).getD 0):=by
 unfold y1a
 rw [if_pos h]
 have key:∀ (l:List z0e) (k:Nat),forL (fun (k:Nat) (x:z0e) (s:Unit)=>z8z a p m k x) (fun (s:Unit)=>y2h) k l ()=some ((clU a p m l).getD 0):=by
  intro l
  induction l with
  | nil=>intro k; rfl
  | cons x l ih =>
   intro k
   show (z8z a p m k x).bind _=_
   unfold z8z
   rw [clU]
   by_cases hx:x.App=a∧x.Product=p∧x.Month=m
   ·rw [if_pos hx,if_pos (by simp [hx])]; rfl
   ·rw [if_neg hx,if_neg (by simp; intro h1 h2 h3; exact hx ⟨h1,h2,h3⟩)]
    exact ih (k+1)
 exact key l 0
theorem x7x (a p:Bs) (m:Int):∀ (l:List z0e) (k:Nat) (m2:List (z0e×Int)),(l.Pairwise fun x y=>orU x y < 0)→(∀ x,x∈l→atB x.Month∧x.App.length≤1000000∧x.Product.length≤1000000) →
  ∃ m2',forL (fun (k:Nat) (x:z0e) (s:List (z0e×Int))=>y0j k x s) (fun (s:List (z0e×Int))=>y3h s) k l m2=some m2'∧lkG m2' (z0e.mk a p m 0)=(match clU a p m l with | some v=>some v | none=>lkG m2 (z0e.mk a p m 0))
 | [],k,m2,_,_=>⟨m2,rfl,rfl⟩
 | x::l,k,m2,hr,hx=>by
  obtain ⟨r1,r2⟩:=List.pairwise_cons.1 hr
  obtain ⟨x1,x2,x3⟩:=hx x (by simp)
  have x4:=x1.1
  have x5:=x1.2
  show ∃ m2',(y0j k x m2).bind _=_∧_
  unfold y0j
  rw [if_pos ⟨by omega,by omega,by omega,by omega⟩]
  obtain ⟨m2',h1,h2⟩:=x7x a p m l (k+1) (ptG m2 (z0e.mk x.App x.Product x.Month 0) x.Calls) r2 fun y hy=>hx y (by simp [hy])
  refine ⟨m2',h1,?_⟩
  rw [h2,clU,x54]
  by_cases hk:x.App=a∧x.Product=p∧x.Month=m
  ·obtain ⟨rfl,rfl,rfl⟩:=hk
   rw [if_pos rfl,if_pos ⟨rfl,rfl,rfl⟩]
   have hnone:clU x.App x.Product x.Month l=none:=by
    clear h1 h2 hx hr r2
    induction l with
    | nil=>rfl
    | cons y l ih =>
     rw [clU,if_neg,ih fun z hz=>r1 z (by simp [hz])]
     rintro ⟨h1,h2,h3⟩
     have:=r1 y (by simp)
     rw [w4j h3.symm h1.symm h2.symm] at this
     omega
   rw [hnone]
  ·rw [if_neg hk,if_neg (fun h=>by injection h with h1 h2 h3; exact hk ⟨h1,h2,h3⟩)]
theorem w4z {l:List z0e} (hr:l.Pairwise fun x y=>orU x y < 0) (hx:∀ x,x∈l→atB x.Month∧x.App.length≤1000000∧x.Product.length≤1000000) (hl:l.length≤1000000) (a p:Bs) (m:Int) (ha:a.length≤1000000∧p.length≤1000000) (hm:atB m) :
  ∃ m2,y2n l=some m2∧z9k m2 (z0u.mk a p) m=some ((clU a p m l).getD 0):=by
 obtain ⟨m2,h1,h2⟩:=x7x a p m l 0 [] hr hx
 refine ⟨m2,?_,?_⟩
 ·unfold y2n
  rw [if_pos (by omega)]; exact h1
 ·have m1:=hm.1
  have m3:=hm.2
  unfold z9k
  simp only
  rw [if_pos ⟨by omega,by omega,by omega,by omega⟩,h2]
  cases clU a p m l <;> rfl
def PI (c:z0i) (s:z0o):Prop:=s.State≠0→hasL c s.Plan=true
theorem w8r {c:z0i} {apps:List z0s} {s:z0o} {x:z0f} (hs:PI c s) (hx:EOk c apps x):PI c (fol c s x).1:=by
 have hl:=hx.l
 unfold fol folF PI at *
 generalize askP c x=a
 repeat' split
 all_goals first
  | exact hs
  | (intro _; simp only at *; first | exact hl (by assumption) | exact hs (by omega))
theorem x68 {c:z0i} {apps:List z0s}:∀ (l:List z0f) (st:Bs→Bs→z0o),(∀ x,x∈l→EOk c apps x)→(∀ a p,PI c (st a p))→∀ a p,PI c (runS c st l a p)
 | [],st,_,h,a,p=>h a p
 | x::l,st,hx,h,a,p=>by
  simp only [runS]
  split
  ·refine x68 l _ (fun y hy=>hx y (by simp [hy])) (fun a' p' => ?_) a p
   unfold upS
   split
   ·exact w8r (h _ _) (hx x (by simp))
   ·exact h _ _
  ·exact x68 l _ (fun y hy=>hx y (by simp [hy])) h a p
section
variable {c:z0i} {apps:List z0s} {l:List z0f} {u:List z0e} (hb:CB c) (ha:AB apps) (hl:∀ x,x∈l→EB x) (hu:∀ x,x∈u→atB x.Month∧x.App.length≤1000000∧x.Product.length≤1000000) (hul:u.length≤1000000)
include hb ha
theorem x6t (e1:catF c=0) (e2:apF apps=0) (a p:Bs) (v:Int):y1s c apps a p v=some (or2 (if (hasA apps a && hasP c p)=true then 0 else 8) (moF v)):=by
 unfold y1s
 obtain ⟨r6,r61,r62,_⟩:=x5e apps a (by have:=ha.1; omega) (x5f e2)
 have hrp:x0r z0r.Key c.Products:=(y5n e1).1.1
 obtain ⟨r8,r81,r82⟩:=y6s c p hb.np hrp
 rw [r61,r81]
 simp only [Option.bind_some,r62,r82,w8k]
 unfold or2
 cases hasA apps a <;> cases hasP c p <;> simp
include hl hu hul
theorem w10 (a p:Bs) (v:Int) (hap:a.length≤1000000∧p.length≤1000000) (F:Int) (hF:F=or2 (eF c apps l) (or2 (usF c apps u) (or2 (if (hasA apps a && hasP c p)=true then 0 else 8) (moF v)))) :
  (F≠0∧y0d c apps l u a p v=some (0,F))∨(F=0∧(((runS c (fun _ _=>y26) (cutT v l) a p).State≠2∧y0d c apps l u a p v=some (0,11))∨((runS c (fun _ _=>y26) (cutT v l) a p).State=2∧∃ n,y0d c apps l u a p v=some (n,0)∧y10 c (runS c (fun _ _=>y26) (cutT v l) a p) u a p v=some n))):=by
 have huf:y0u c apps l u=some (or2 (eF c apps l) (usF c apps u)):=by
  unfold y0u or2
  rw [x6e hb ha hl,y8o hb ha]
  simp only [Option.bind_some]
  by_cases h:eF c apps l=0 <;> simp [h]
 unfold y0d
 rw [huf]
 simp only [Option.bind_some]
 by_cases h1:eF c apps l=0
 ·by_cases h2:usF c apps u=0
  ·have e0:or2 (eF c apps l) (usF c apps u)=0:=y51.2 ⟨h1,h2⟩
   obtain ⟨⟨e1,e2,e3⟩,e4,e5⟩:=x7r h1
   have hF':F=or2 (if (hasA apps a && hasP c p)=true then 0 else 8) (moF v):=by
    rw [hF]; unfold or2; rw [if_neg (not_not_intro h1),if_neg (not_not_intro h2)]
   rw [if_neg (by simpa using e0),x6t hb ha e1 e2,← hF']
   simp only [Option.bind_some]
   by_cases h3:F=0
   ·refine .inr ⟨h3,?_⟩
    have hv:=x4o (y51.1 (hF'.symm.trans h3)).2
    have hvm:v≤345686399999:=by
     have:=(y51.1 (hF'.symm.trans h3)).2
     unfold moF momP at this
     split at this
     ·rename_i h; simp at h; exact h.2
     ·simp at this
    obtain ⟨m4,m5,l6,q1,q2,q3⟩:=atM hb ha hl v h1
    rw [if_neg (by simpa using h3),q1]
    simp only [Option.bind_some,x7v _ a p hap,q2]
    by_cases h4:(runS c (fun _ _=>y26) (cutT v l) a p).State=2
    ·refine .inr ⟨h4,?_⟩
     rw [if_neg (by simpa using h4)]
     have hpi:=x68 (apps:=apps) (cutT v l) (fun _ _=>y26) (fun x hx=>e4 x (x8y hx).1) (fun a p h=>by simp [y26] at h) a p (by omega)
     generalize runS c (fun _ _=>y26) (cutT v l) a p=s at *
     rcases y7c c s.Plan hb.nl (y5n e1).1.2 with ⟨w1,_⟩ | ⟨w1,w2,x,w3,w4,w5,w6⟩
     ·rw [w1] at hpi; cases hpi
     ·have hpa:z3v c s.Plan=some (ixL c s.Plan):=y9v c s.Plan hb.nl
      rw [w6]
      unfold y10
      rw [hpa]
      simp only [Option.bind_some,w3]
      by_cases h5:x.Limit < 0
      ·rw [if_pos (by simpa using h5),if_pos (by simpa using h5)]
       exact ⟨-1,rfl,rfl⟩
      ·rw [if_neg (by simpa using h5),if_neg (by simpa using h5),if_pos ⟨⟨hv,by omega⟩,by omega⟩]
       obtain ⟨m2,k1,k2⟩:=w4z (w3k h2) hu hul a p (v / 2592000000) hap ⟨by omega,by omega⟩
       rw [k1]
       simp only [Option.bind_some]
       rw [if_pos ⟨⟨hv,by omega⟩,by omega⟩,k2,w0e a p _ u (by omega)]
       exact ⟨_,rfl,rfl⟩
    ·refine .inl ⟨h4,?_⟩
     rw [if_pos (by simpa using h4)]
   ·exact .inl ⟨h3,by rw [if_pos (by simpa using h3)]⟩
  ·have e0:or2 (eF c apps l) (usF c apps u)=usF c apps u:=by unfold or2; rw [if_neg (not_not_intro h1)]
   have hF':F=usF c apps u:=by rw [hF]; unfold or2; rw [if_neg (not_not_intro h1),if_pos h2]
   rw [e0,if_pos (by simpa using h2),hF']
   exact .inl ⟨h2,rfl⟩
 ·have e0:or2 (eF c apps l) (usF c apps u)=eF c apps l:=by unfold or2; rw [if_pos h1]
  have hF':F=eF c apps l:=by rw [hF]; unfold or2; rw [if_pos h1]
  rw [e0,if_pos (by simpa using h1),hF']
  exact .inl ⟨h1,rfl⟩
end
end Go.Proofs.YthmmalklamiefaaGreatDoor
