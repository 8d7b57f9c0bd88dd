/- The abstract machine: a row whose element holds the header of an own row, known by its value; loops with a ghost. -/
import Derived.Test.YtgdijjmdfcgifaaGreatAg
namespace Go.Proofs.YtgdijjmdfcgifaaGreat
open Go.RowKit
set_option linter.unusedVariables false
theorem Zh {β:Type} (f:Nat→β):∀ (l:List (Nat×β)) (k:Nat),(∃ p,p∈l∧p.1=k∧upl f l k=p.2)∨((∀ p,p∈l→p.1≠k)∧upl f l k=f k)
 | [],k => .inr ⟨fun _ h=>by simp at h,rfl⟩
 | (i,v)::l,k=>by
  by_cases hk:k=i
  ·subst hk
   refine .inl ⟨(k,v),by simp,rfl,?_⟩
   have:Nat.beq k k=true:=by simp
   simp only [upl,this,cond_true]
  ·have e1:upl f ((i,v)::l) k=upl f l k:=by simp only [upl,qu hk,cond_false]
   rcases Zh f l k with ⟨p,h1,h2,h3⟩ | ⟨h1,h2⟩
   ·exact .inl ⟨p,List.mem_cons_of_mem _ h1,h2,e1.trans h3⟩
   ·refine .inr ⟨fun p hp => ?_,e1.trans h2⟩
    rcases List.mem_cons.1 hp with rfl | hp
    ·exact fun h=>hk h.symm
    ·exact h1 p hp
section
variable {P:Program} {X:Ctx} {Q:Exit→(Nat→Slot)→Own→Prop} {f:Nat→Slot} {own:Own} {c:Code}
theorem Rel.same {own':Own} {g g':Gh} {a:Act} {w:World} (τ:Nat→Nat) (hr:Rel X f own g a w) (hle:g.le g')
  (hbk:∀ i o b,own' i=some (some o)→obk g' i o=some b→∃ o0,own (τ i)=some (some o0)∧obk g (τ i) o0=some b)
  (hτ:∀ i j o o',own' i=some (some o)→own' j=some (some o')→τ i=τ j→i=j)
  (hob:∀ i o,own' i=some (some o)→Ext (Mof X g own) (Mof X g' own') w w→RepO g' w (Mof X g' own') i o)
  (hfr:∀ i,own' i=none→g'.bl i=none∧∀ n,g'.sv i n=none) (htop:∀ id e size es,own' id=some (some (.row e size es))→∀ k,es.length < k→g'.sv id k=none):Rel X f own' g' a w:=by
 have hM:∀ b,Mof X g' own' b→Mof X g own b:=by
  rintro b (h | ⟨i,o,h1,h2⟩)
  ·exact .inl h
  ·obtain ⟨o0,h3,h4⟩:=hbk i o b h1 h2
   exact .inr ⟨_,o0,h3,h4⟩
 have he:Ext (Mof X g own) (Mof X g' own') w w:=⟨Nat.le_refl _,fun _ _ _ _=>rfl,fun b _ hb=>hM b hb⟩
 refine ⟨hr.kp,hr.m0,hr.n,hr.df,fun t=>(hr.fr t).keep he hle,fun i o h=>hob i o h he,fun i j o o' b h1 h2 h3 h4 => ?_,fun i o b h1 h2 => ?_,hfr,htop⟩
 ·obtain ⟨p,p1,p2⟩:=hbk i o b h1 h3
  obtain ⟨q,q1,q2⟩:=hbk j o' b h2 h4
  exact hτ i j o o' h1 h2 (hr.sep _ _ _ _ b p1 q1 p2 q2)
 ·obtain ⟨p,p1,p2⟩:=hbk i o b h1 h2
  exact hr.mine _ _ b p1 p2

theorem w2k (i3 i4:Nat) {hv:Value} {e:TypeId} {size:Nat} {es:List (List V)} (h3:own i3=some (some (.rowA hv e size es))) (h4:own i4=none)
  (h:AWP P X c Q f (upl own [(i3,some none),(i4,some (some (.rowA hv e size es)))])):AWP P X c Q f own:=by
 intro g a w hr
 have hne:i4≠i3:=by rintro rfl; rw [h3] at h4; cases h4
 obtain ⟨xs,q1,q2,q3,q4,q5⟩:=hr.ob i3 _ h3
 let g':Gh:=⟨g.bl,fun i k=>if i=i4∧k=es.length then some hv else g.sv i k⟩
 have hsv:g'.sv i4 es.length=some hv:=if_pos ⟨rfl,rfl⟩
 have hle:g.le g':=⟨fun _ _ h=>h,fun i k u hu=>by
  show (if i=i4∧k=es.length then _ else g.sv i k)=some u
  rw [if_neg]
  ·exact hu
  ·rintro ⟨rfl,rfl⟩
   rw [(hr.fresh i h4).2] at hu
   cases hu⟩
 have key:∀ k o,upl own [(i3,some none),(i4,some (some (.rowA hv e size es)))] k=some (some o)→k≠i3∧((k=i4∧o = .rowA hv e size es)∨(k≠i4∧own k=some (some o))):=fun k o hk=>by
  rcases Zh own [(i3,some none),(i4,some (some (.rowA hv e size es)))] k with ⟨p,h1,h2,h5⟩ | ⟨h1,h2⟩
  ·rw [h5] at hk
   simp at h1
   rcases h1 with rfl | rfl
   ·cases hk
   ·cases hk; exact ⟨fun h=>hne (h2.trans h),.inl ⟨h2.symm,rfl⟩⟩
  ·rw [h2] at hk
   exact ⟨fun h=>h1 _ (.head _) h.symm,.inr ⟨fun h=>h1 _ (.tail _ (.head _)) h.symm,hk⟩⟩
 refine h g' a w (Rel.same (fun k=>if k=i4 then i3 else k) hr hle (fun k o b hk hb => ?_) (fun k l o o' hk hl hkl => ?_) (fun k o hk he => ?_) (fun k hk => ?_) (fun k e' s' es' hk m hm => ?_))
 ·obtain ⟨h1,⟨rfl,rfl⟩ | ⟨h2,h5⟩⟩:=key k o hk
  ·rw [if_pos rfl]; exact ⟨_,h3,hb⟩
  ·rw [if_neg h2]; exact ⟨o,h5,by rw [← (hr.ob k o h5).obk_eq hle]; exact hb⟩
 ·have h1:=(key k o hk).1
  have h2:=(key l o' hl).1
  by_cases e1:k=i4
  ·by_cases e2:l=i4
   ·omega
   ·rw [if_pos e1,if_neg e2] at hkl; exact absurd hkl.symm h2
  ·by_cases e2:l=i4
   ·rw [if_neg e1,if_pos e2] at hkl; exact absurd hkl h1
   ·rw [if_neg e1,if_neg e2] at hkl; exact hkl
 ·obtain ⟨h1,⟨rfl,rfl⟩ | ⟨h2,h5⟩⟩:=key k o hk
  ·exact ⟨xs,hsv,q2,q3,q4,fun k c el u hk hc=>let ⟨x,r1,r2,r3⟩:=q5 k c el u hk hc; ⟨x,r1,u.keep he r2,r3⟩⟩
  ·exact (hr.ob k o h5).keep he hle (fun _ _=>rfl)
 ·rcases Zh own [(i3,some none),(i4,some (some (.rowA hv e size es)))] k with ⟨p,h1,h2,h5⟩ | ⟨h1,h2⟩
  ·rw [h5] at hk
   simp at h1
   rcases h1 with rfl | rfl <;> cases hk
  ·rw [h2] at hk
   have h6:=hr.fresh k hk
   have h7:k≠i4:=fun h=>h1 _ (.tail _ (.head _)) h.symm
   exact ⟨h6.1,fun n=>(if_neg fun h=>h7 h.1).trans (h6.2 n)⟩
 ·obtain ⟨h1,⟨rfl,h6⟩ | ⟨h2,h5⟩⟩:=key k _ hk
  ·cases h6
  ·exact (if_neg fun h=>h2 h.1).trans (hr.top k e' s' es' h5 m hm)

theorem y7r {g:Gh} {a:Act} {w:World} (hr:Rel X f own g a w) (i j id i4:Nat) {an:Option Nat} {t e:TypeId} {size n:Nat} {cs:List Slot} {es:List (List V)}
  (hb:own i=some (some (.box an t cs))) (hj:cs[j]?=some (.row id n)) (ho:own id=some (some (.row e size es))) (hn:n=es.length) (h4:own i4=none) :
  ∃ hv' g',Rel X f (upl own [(i,some (some (.box an t (cs.set j (.dat (vval hv')))))),(id,some none),(i4,some (some (.rowA hv' e size es)))]) g' a w:=by
 subst hn
 obtain ⟨v,xs,q1,q2,q3,q4,q5⟩:=hr.ob id _ ho
 have n2:i4≠id:=by rintro rfl; rw [ho] at h4; cases h4
 have n3:i4≠i:=by rintro rfl; rw [hb] at h4; cases h4
 have n4:i≠id:=by rintro rfl; rw [ho] at hb; cases hb
 let l:List (Nat×Option (Option AObj)):=[(i,some (some (.box an t (cs.set j (.dat (vval v)))))),(id,some none),(i4,some (some (.rowA v e size es)))]
 let g':Gh:=⟨g.bl,fun i k=>if i=i4∧k=es.length then some v else g.sv i k⟩
 have hsv:g'.sv i4 es.length=some v:=if_pos ⟨rfl,rfl⟩
 have hle:g.le g':=⟨fun _ _ h=>h,fun i k u hu=>by
  show (if i=i4∧k=es.length then _ else g.sv i k)=some u
  rw [if_neg]
  ·exact hu
  ·rintro ⟨rfl,rfl⟩
   rw [(hr.fresh i h4).2] at hu
   cases hu⟩
 have key:∀ k o,upl own l k=some (some o)→k≠id∧((k=i∧o = .box an t (cs.set j (.dat (vval v))))∨(k=i4∧o = .rowA v e size es)∨(k≠i∧k≠i4∧own k=some (some o))):=fun k o hk=>by
  rcases Zh own l k with ⟨p,h1,h2,h5⟩ | ⟨h1,h2⟩
  ·rw [h5] at hk
   simp [l] at h1
   rcases h1 with rfl | rfl | rfl
   ·cases hk; exact ⟨fun h=>n4 (h2.trans h),.inl ⟨h2.symm,rfl⟩⟩
   ·cases hk
   ·cases hk; exact ⟨fun h=>n2 (h2.trans h),.inr (.inl ⟨h2.symm,rfl⟩)⟩
  ·rw [h2] at hk
   exact ⟨fun h=>h1 _ (.tail _ (.head _)) h.symm,.inr (.inr ⟨fun h=>h1 _ (.head _) h.symm,fun h=>h1 _ (.tail _ (.tail _ (.head _))) h.symm,hk⟩)⟩
 refine ⟨v,g',Rel.same (fun k=>if k=i4 then id else k) hr hle (fun k o b hk hb' => ?_) (fun k m o o' hk hm hkm => ?_) (fun k o hk he => ?_) (fun k hk => ?_) (fun k e' s' es' hk m hm => ?_)⟩
 ·obtain ⟨h1,⟨rfl,rfl⟩ | ⟨rfl,rfl⟩ | ⟨h2,h5,h6⟩⟩:=key k o hk
  ·rw [if_neg (Ne.symm n3)]; exact ⟨_,hb,hb'⟩
  ·rw [if_pos rfl]; refine ⟨_,ho,?_⟩
   have hb'':v.ownBlock=some b:=hb'
   simp only [obk,q1,Option.bind_some]; exact hb''
  ·rw [if_neg h5]; exact ⟨o,h6,by rw [← (hr.ob k o h6).obk_eq hle]; exact hb'⟩
 ·have h1:=(key k o hk).1
  have h2:=(key m o' hm).1
  by_cases e1:k=i4
  ·by_cases e2:m=i4
   ·omega
   ·rw [if_pos e1,if_neg e2] at hkm; exact absurd hkm.symm h2
  ·by_cases e2:m=i4
   ·rw [if_neg e1,if_pos e2] at hkm; exact absurd hkm h1
   ·rw [if_neg e1,if_neg e2] at hkm; exact hkm
 ·obtain ⟨h1,⟨rfl,rfl⟩ | ⟨rfl,rfl⟩ | ⟨h2,h5,h6⟩⟩:=key k o hk
  ·obtain ⟨b0,l0,p1,p0,p2,p3,p4⟩:=hr.ob k _ hb
   refine ⟨b0,l0,p1,p0,p2,by rw [List.length_set]; exact p3,fun m s hs => ?_⟩
   rw [List.getElem?_set] at hs
   split at hs
   ·rename_i hjm
    subst hjm
    split at hs
    ·cases hs
     obtain ⟨x,x1,x2,x3⟩:=p4 j _ hj
     have x4:g.sv id es.length=some x:=x2
     rw [q1] at x4; cases x4
     exact ⟨_,x1,rfl,x3⟩
    ·cases hs
   ·obtain ⟨x,x1,x2,x3⟩:=p4 m s hs
    exact ⟨x,x1,x2.keep he hle,x3⟩
  ·exact ⟨xs,hsv,q2,q3,q4,fun k c el u hk hc=>let ⟨x,r1,r2,r3⟩:=q5 k c el u hk hc; ⟨x,r1,u.keep he r2,r3⟩⟩
  ·exact (hr.ob k o h6).keep he hle (fun _ _=>rfl)
 ·rcases Zh own l k with ⟨p,h1,h2,h5⟩ | ⟨h1,h2⟩
  ·rw [h5] at hk
   simp [l] at h1
   rcases h1 with rfl | rfl | rfl <;> cases hk
  ·rw [h2] at hk
   have h6:=hr.fresh k hk
   have h7:k≠i4:=fun h=>h1 _ (.tail _ (.tail _ (.head _))) h.symm
   exact ⟨h6.1,fun n=>(if_neg fun h=>h7 h.1).trans (h6.2 n)⟩
 ·obtain ⟨h1,⟨rfl,h6⟩ | ⟨rfl,h6⟩ | ⟨h2,h5,h6⟩⟩:=key k _ hk
  ·cases h6
  ·cases h6
  ·exact (if_neg fun h=>h5 h.1).trans (hr.top k e' s' es' h6 m hm)

theorem jj (i j id i4:Nat) {an:Option Nat} {t e:TypeId} {size n:Nat} {cs:List Slot} {es:List (List V)}
  (hb:own i=some (some (.box an t cs))) (hj:cs[j]?=some (.row id n)) (ho:own id=some (some (.row e size es))) (hn:n=es.length) (h4:own i4=none)
  (h:∀ hv',AWP P X c Q f (upl own [(i,some (some (.box an t (cs.set j (.dat (vval hv')))))),(id,some none),(i4,some (some (.rowA hv' e size es)))])):AWP P X c Q f own:=fun g a w hr=>by
 obtain ⟨hv,g',h1⟩:=y7r hr i j id i4 hb hj ho hn h4
 exact h hv g' a w h1
end
section
variable {P:Program} {X:Ctx} {Q:Exit→(Nat→Slot)→Own→Prop} {f:Nat→Slot} {own:Own} {c:Code} {σ γ ρ:Type}
theorem w2j {body:Nat→σ→Option (σ ⊕ ρ)} {fin:σ→Option ρ} {r:ρ} {n:Nat} (F:Nat→σ→γ→List (Nat×Slot)) (O:Nat→σ→γ→List (Nat×AObj)) (s0:σ) (x0:γ) (H:rng body fin n 0 s0=some r) (hf:subF f (F 0 s0 x0)) (ho:subO own (O 0 s0 x0)) (hok:∀ k s x,okL (F k s x) (O k s x)=true)
  (stop:∀ s x,fin s=some r→AWP P X c (fun e f own=>match e with | .normal=>False | e=>Q e f own) (frs (F n s x)) (ows (O n s x)))
  (round:∀ k s x q,k < n→body k s=some q→(∀ r',q = .inr r'→r'=r)→AWP P X c (fun e f own=>match e with | .normal=>∃ s' x',q = .inl s'∧subF f (F (k+1) s' x')∧subO own (O (k+1) s' x') | e=>Q e f own) (frs (F k s x)) (ows (O k s x))):AWP P X (.loop c) Q f own:=by
 refine Wp (ι:=Nat×Nat×σ×γ) (fun i=>F i.2.1 i.2.2.1 i.2.2.2) (fun i=>O i.2.1 i.2.2.1 i.2.2.2) (fun i=>i.1+i.2.1=n∧rng body fin i.1 i.2.1 i.2.2.1=some r) (fun i=>i.1) (n,0,s0,x0) ⟨rfl,H⟩ hf ho (fun i=>hok i.2.1 i.2.2.1 i.2.2.2) ?_
 rintro ⟨m,k,s,x⟩ ⟨hn,hI⟩
 cases m with
 | zero =>
  have hk:k=n:=by simpa using hn
  subst hk
  refine Qc (stop s x hI) ?_
  intro e f own hQ
  cases e with
  | normal=>exact hQ.elim
  | exit id=>exact hQ
  | goto l=>exact hQ
  | ret=>exact hQ
  | panic ch=>exact hQ
  | outgrown=>exact hQ
 | succ m =>
  obtain ⟨q,h1,h2⟩:=bnd hI
  simp only at hn
  refine Qc (round k s x q (by omega) h1 fun r' hq=>by subst hq; injection h2) ?_
  intro e f own hQ
  cases e with
  | normal =>
   obtain ⟨s',x',h3,h4,h5⟩:=hQ
   subst h3
   exact ⟨(m,k+1,s',x'),⟨by simp only; omega,h2⟩,Nat.lt_succ_self _,h4,h5⟩
  | exit id=>exact hQ
  | goto l=>exact hQ
  | ret=>exact hQ
  | panic ch=>exact hQ
  | outgrown=>exact hQ
end
section
variable {P:Program} {X:Ctx} {Q:Exit→(Nat→Slot)→Own→Prop} {f:Nat→Slot} {own:Own} {c:Code}
theorem Rel.slot {g:Gh} {a:Act} {w:World} (hr:Rel X f own g a w) (t:Nat) (s:Slot) (hs:RepS g w (Mof X g own) s (a.tmps.getD t undef)):Rel X (updS f (some t) s) own g a w:=by
 refine ⟨hr.kp,hr.m0,hr.n,hr.df,fun t' => ?_,hr.ob,hr.sep,hr.mine,hr.fresh,hr.top⟩
 by_cases ht:t'=t
 ·subst ht
  have:Nat.beq t' t'=true:=by simp
  simp only [updS,this,cond_true]
  exact hs
 ·simp only [updS,qu ht,cond_false]
  exact hr.fr t'
theorem Rel.re1 {g:Gh} {a:Act} {w:World} (hr:Rel X f own g a w) (id:Nat) {o o':AObj} (ho:own id=some (some o)) (hb:obk g id o'=obk g id o) (hR:∀ M',Ext (Mof X g own) M' w w→RepO g w M' id o')
  (ht:∀ e size es,o' = .row e size es→∀ k,es.length < k→g.sv id k=none):Rel X f (upl own [(id,some (some o'))]) g a w:=by
 have key:∀ k p,upl own [(id,some (some o'))] k=some (some p)→(k=id∧p=o')∨(k≠id∧own k=some (some p)):=fun k p hk=>by
  by_cases h:k=id
  ·subst h; rw [je] at hk; cases hk; exact .inl ⟨rfl,rfl⟩
  ·rw [jb h] at hk; exact .inr ⟨h,hk⟩
 refine Rel.same (fun k=>k) hr (Gh.le_refl g) (fun k p b hk hb' => ?_) (fun k m o o' _ _ h=>h) (fun k p hk he => ?_) (fun k hk => ?_) (fun k e' s' es' hk m hm => ?_)
 ·rcases key k p hk with ⟨rfl,rfl⟩ | ⟨_,h5⟩
  ·exact ⟨o,ho,by rw [← hb]; exact hb'⟩
  ·exact ⟨p,h5,hb'⟩
 ·rcases key k p hk with ⟨rfl,rfl⟩ | ⟨_,h5⟩
  ·exact hR _ he
  ·exact (hr.ob k p h5).keep he (Gh.le_refl g) (fun _ _=>rfl)
 ·by_cases h:k=id
  ·subst h; rw [je] at hk; cases hk
  ·rw [jb h] at hk; exact hr.fresh k hk
 ·rcases key k _ hk with ⟨rfl,h6⟩ | ⟨_,h5⟩
  ·exact ht _ _ _ h6.symm m hm
  ·exact hr.top k e' s' es' h5 m hm
theorem z7u (id:Nat) {an:Option Nat} {t:TypeId} {cs:List Slot} (ho:own id=some (some (.box an t cs))) (h:∀ b,AWP P X c Q f (upl own [(id,some (some (.box (some b) t cs)))])):AWP P X c Q f own:=by
 intro g a w hr
 obtain ⟨b,l,h1,h2,h3,h4,h5⟩:=hr.ob id _ ho
 refine h b g a w (hr.re1 id ho rfl (fun M' he=>⟨b,l,h1,fun q hq=>by cases hq; rfl,h3,h4,fun j s hs => ?_⟩) (fun e size es h=>by cases h))
 obtain ⟨x,x1,x2,x3⟩:=h5 j s hs
 exact ⟨x,x1,x2.keep he (Gh.le_refl g),x3⟩
theorem w1x (i j i2 i4:Nat) {an:Option Nat} {t e:TypeId} {size:Nat} {cs:List Slot} {es:List (List V)} {hv:Value}
  (hb:own i=some (some (.box an t cs))) (hj:cs[j]?=some (.dat (vval hv))) (ho:own i2=some (some (.rowA hv e size es))) (h4:own i4=none)
  (h:AWP P X c Q f (upl own [(i,some (some (.box an t (cs.set j (.row i4 es.length))))),(i2,some none),(i4,some (some (.row e size es)))])):AWP P X c Q f own:=by
 intro g a w hr
 obtain ⟨xs,q1,q2,q3,q4,q5⟩:=hr.ob i2 _ ho
 have n2:i4≠i2:=by rintro rfl; rw [ho] at h4; cases h4
 have n3:i4≠i:=by rintro rfl; rw [hb] at h4; cases h4
 have n4:i≠i2:=by rintro rfl; rw [ho] at hb; cases hb
 let l:List (Nat×Option (Option AObj)):=[(i,some (some (.box an t (cs.set j (.row i4 es.length))))),(i2,some none),(i4,some (some (.row e size es)))]
 let g':Gh:=⟨g.bl,fun i k=>if i=i4∧k=es.length then some hv else g.sv i k⟩
 have hsv:g'.sv i4 es.length=some hv:=if_pos ⟨rfl,rfl⟩
 have hle:g.le g':=⟨fun _ _ h=>h,fun i k u hu=>by
  show (if i=i4∧k=es.length then _ else g.sv i k)=some u
  rw [if_neg]
  ·exact hu
  ·rintro ⟨rfl,rfl⟩
   rw [(hr.fresh i h4).2] at hu
   cases hu⟩
 have key:∀ k o,upl own l k=some (some o)→k≠i2∧((k=i∧o = .box an t (cs.set j (.row i4 es.length)))∨(k=i4∧o = .row e size es)∨(k≠i∧k≠i4∧own k=some (some o))):=fun k o hk=>by
  rcases Zh own l k with ⟨p,h1,h2,h5⟩ | ⟨h1,h2⟩
  ·rw [h5] at hk
   simp [l] at h1
   rcases h1 with rfl | rfl | rfl
   ·cases hk; exact ⟨fun h=>n4 (h2.trans h),.inl ⟨h2.symm,rfl⟩⟩
   ·cases hk
   ·cases hk; exact ⟨fun h=>n2 (h2.trans h),.inr (.inl ⟨h2.symm,rfl⟩)⟩
  ·rw [h2] at hk
   exact ⟨fun h=>h1 _ (.tail _ (.head _)) h.symm,.inr (.inr ⟨fun h=>h1 _ (.head _) h.symm,fun h=>h1 _ (.tail _ (.tail _ (.head _))) h.symm,hk⟩)⟩
 refine h g' a w (Rel.same (fun k=>if k=i4 then i2 else k) hr hle (fun k o b hk hb' => ?_) (fun k m o o' hk hm hkm => ?_) (fun k o hk he => ?_) (fun k hk => ?_) (fun k e' s' es' hk m hm => ?_))
 ·obtain ⟨h1,⟨rfl,rfl⟩ | ⟨rfl,rfl⟩ | ⟨h2,h5,h6⟩⟩:=key k o hk
  ·rw [if_neg (Ne.symm n3)]; exact ⟨_,hb,hb'⟩
  ·rw [if_pos rfl]; refine ⟨_,ho,?_⟩
   have hb'':(g'.sv k es.length).bind Value.ownBlock=some b:=hb'
   rw [hsv] at hb''
   exact hb''
  ·rw [if_neg h5]; exact ⟨o,h6,by rw [← (hr.ob k o h6).obk_eq hle]; exact hb'⟩
 ·have h1:=(key k o hk).1
  have h2:=(key m o' hm).1
  by_cases e1:k=i4
  ·by_cases e2:m=i4
   ·omega
   ·rw [if_pos e1,if_neg e2] at hkm; exact absurd hkm.symm h2
  ·by_cases e2:m=i4
   ·rw [if_neg e1,if_pos e2] at hkm; exact absurd hkm h1
   ·rw [if_neg e1,if_neg e2] at hkm; exact hkm
 ·obtain ⟨h1,⟨rfl,rfl⟩ | ⟨rfl,rfl⟩ | ⟨h2,h5,h6⟩⟩:=key k o hk
  ·obtain ⟨b0,l0,p1,p0,p2,p3,p4⟩:=hr.ob k _ hb
   refine ⟨b0,l0,p1,p0,p2,by rw [List.length_set]; exact p3,fun m s hs => ?_⟩
   rw [List.getElem?_set] at hs
   split at hs
   ·rename_i hjm
    subst hjm
    split at hs
    ·cases hs
     obtain ⟨x,x1,x2,x3⟩:=p4 j _ hj
     have x4:x=hv:=x2
     subst x4
     exact ⟨_,x1,hsv,x3⟩
    ·cases hs
   ·obtain ⟨x,x1,x2,x3⟩:=p4 m s hs
    exact ⟨x,x1,x2.keep he hle,x3⟩
  ·exact ⟨hv,xs,hsv,q2,q3,q4,fun k c el u hk hc=>let ⟨x,r1,r2,r3⟩:=q5 k c el u hk hc; ⟨x,r1,u.keep he r2,r3⟩⟩
  ·exact (hr.ob k o h6).keep he hle (fun _ _=>rfl)
 ·rcases Zh own l k with ⟨p,h1,h2,h5⟩ | ⟨h1,h2⟩
  ·rw [h5] at hk
   simp [l] at h1
   rcases h1 with rfl | rfl | rfl <;> cases hk
  ·rw [h2] at hk
   have h6:=hr.fresh k hk
   have h7:k≠i4:=fun h=>h1 _ (.tail _ (.tail _ (.head _))) h.symm
   exact ⟨h6.1,fun n=>(if_neg fun h=>h7 h.1).trans (h6.2 n)⟩
 ·obtain ⟨h1,⟨rfl,h6⟩ | ⟨rfl,h6⟩ | ⟨h2,h5,h6⟩⟩:=key k _ hk
  ·cases h6
  ·cases h6
   exact (if_neg fun h=>by omega).trans ((hr.fresh k h4).2 m)
  ·exact (if_neg fun h=>h5 h.1).trans (hr.top k e' s' es' h6 m hm)
end
section
variable {P:Program} {X:Ctx} {Q:Exit→(Nat→Slot)→Own→Prop} {f:Nat→Slot} {own:Own} {ops:Array Oper} {os:List Oper} {dst:Option Tmp} {op:Op} {ty:TypeId} {pos:String} {af:Array Edge}
end
section
variable {P:Program} {f:Nat→Slot} {dst:Option Tmp} {ty:TypeId} {pos:String} {af:Array Edge} {gd:Option (Nat×Bool)}
theorem x44 (i3 i8 tx:Nat) {t e:TypeId} {size bytes:Nat} {y:Operand} {es news:List (List V)} {hv:Value} (hE:Elem P t e size bytes) (hx:f tx = .dat (vval hv)) (hy:evS f y = .dat (vlst news)) (hyx:y ≠ .tmp tx) (hdx:dst≠some tx) (hne:news≠[]) (hn:∀ el,el∈news→el.length=size)
  (hlen:es.length+news.length≤1000000000) (hby:(es.length+news.length) * bytes≤140737488355328) (hd:Nat.beq i8 i3=false) :
  Stp P ⟨dst,.call { callee := .builtin .append,args := #[.tmp tx,y],argTypes := #[t,t] },ty,pos,af,gd⟩ f ⟨false,[(i3,some (some (.rowA hv e size es))),(i8,none)],[(i8,some (some (.row e size (es++news)))),(i3,some none),(i8,some (some (.row e size es)))],.row i8 (es++news).length⟩:=by
 have hne83:i8≠i3:=fun h=>by rw [h] at hd; simp at hd
 intro X f' own g a w Q hr hd hop hrd K hK
 have h3:own i3=some (some (.rowA hv e size es)):=hrd (i3,_) (by simp)
 have h8:own i8=none:=hrd (i8,none) (by simp)
 obtain ⟨xs,q1,q2,q3,q4,q5⟩:=hr.ob i3 _ h3
 let g2:Gh:=⟨g.bl,fun i k=>if i=i8∧k=es.length then some hv else g.sv i k⟩
 have hsv:g2.sv i8 es.length=some hv:=if_pos ⟨rfl,rfl⟩
 have hle:g.le g2:=⟨fun _ _ h=>h,fun i k u hu=>by
  show (if i=i8∧k=es.length then _ else g.sv i k)=some u
  rw [if_neg]
  ·exact hu
  ·rintro ⟨rfl,rfl⟩
   rw [(hr.fresh i h8).2] at hu
   cases hu⟩
 let l:List (Nat×Option (Option AObj)):=[(i3,some none),(i8,some (some (.row e size es)))]
 have key:∀ k o,upl own l k=some (some o)→k≠i3∧((k=i8∧o = .row e size es)∨(k≠i8∧own k=some (some o))):=fun k o hk=>by
  rcases Zh own l k with ⟨p,h1,h2,h5⟩ | ⟨h1,h2⟩
  ·rw [h5] at hk
   simp [l] at h1
   rcases h1 with rfl | rfl
   ·cases hk
   ·cases hk; exact ⟨fun h=>hne83 (h2.trans h),.inl ⟨h2.symm,rfl⟩⟩
  ·rw [h2] at hk
   exact ⟨fun h=>h1 _ (.head _) h.symm,.inr ⟨fun h=>h1 _ (.tail _ (.head _)) h.symm,hk⟩⟩
 have hr2:Rel X f' (upl own l) g2 a w:=by
  refine Rel.same (fun k=>if k=i8 then i3 else k) hr hle (fun k o b hk hb => ?_) (fun k m o o' hk hm hkl => ?_) (fun k o hk he => ?_) (fun k hk => ?_) (fun k e' s' es' hk m hm => ?_)
  ·obtain ⟨h1,⟨rfl,rfl⟩ | ⟨h2,h5⟩⟩:=key k o hk
   ·rw [if_pos rfl]; refine ⟨_,h3,?_⟩
    have hb'':(g2.sv k es.length).bind Value.ownBlock=some b:=hb
    rw [hsv] at hb''
    exact hb''
   ·rw [if_neg h2]; exact ⟨o,h5,by rw [← (hr.ob k o h5).obk_eq hle]; exact hb⟩
  ·have h1:=(key k o hk).1
   have h2:=(key m o' hm).1
   by_cases e1:k=i8
   ·by_cases e2:m=i8
    ·omega
    ·rw [if_pos e1,if_neg e2] at hkl; exact absurd hkl.symm h2
   ·by_cases e2:m=i8
    ·rw [if_neg e1,if_pos e2] at hkl; exact absurd hkl h1
    ·rw [if_neg e1,if_neg e2] at hkl; exact hkl
  ·obtain ⟨h1,⟨rfl,rfl⟩ | ⟨h2,h5⟩⟩:=key k o hk
   ·exact ⟨hv,xs,hsv,q2,q3,q4,fun k c el u hk hc=>let ⟨x,r1,r2,r3⟩:=q5 k c el u hk hc; ⟨x,r1,u.keep he r2,r3⟩⟩
   ·exact (hr.ob k o h5).keep he hle (fun _ _=>rfl)
  ·rcases Zh own l k with ⟨p,h1,h2,h5⟩ | ⟨h1,h2⟩
   ·rw [h5] at hk
    simp [l] at h1
    rcases h1 with rfl | rfl <;> cases hk
   ·rw [h2] at hk
    have h6:=hr.fresh k hk
    have h7:k≠i8:=fun h=>h1 _ (.tail _ (.head _)) h.symm
    exact ⟨h6.1,fun n=>(if_neg fun h=>h7 h.1).trans (h6.2 n)⟩
  ·obtain ⟨h1,⟨rfl,h6⟩ | ⟨h2,h5⟩⟩:=key k _ hk
   ·cases h6
    exact (if_neg fun h=>by omega).trans ((hr.fresh k h8).2 m)
   ·exact (if_neg fun h=>h2 h.1).trans (hr.top k e' s' es' h5 m hm)
 have hfx:f' tx = .dat (vval hv):=by
  have:=hop (.tmp tx) (by simp [Op.operands,Call.operands])
  simpa [evS,hx] using this
 have hval:a.tmps.getD tx undef=hv:=by
  have:=hr.fr tx
  rw [hfx] at this
  exact this
 have hr3:=hr2.slot tx (.row i8 es.length) (by show g2.sv i8 es.length=some _; rw [hval]; exact hsv)
 have hbx:Nat.beq tx tx=true:=by simp
 refine y6s (f:=updS f (some tx) (.row i8 es.length)) (id:=i8) (es:=es) (news:=news) (x := .tmp tx) (y:=y) hE (by show cond (Nat.beq tx tx) _ _=_; rw [hbx]; rfl) ?_ hne hn hlen hby X (updS f' (some tx) (.row i8 es.length)) (upl own l) g2 a w Q hr3 hd (fun x hx' => ?_) (fun q hq => ?_) K (fun g' v w' hr'=>hK g' v w' ?_)
 ·cases y with
  | tmp ty' =>
   have hne:ty'≠tx:=fun h=>hyx (by rw [h])
   show cond (Nat.beq ty' tx) _ (f ty')=_
   rw [qu hne]; exact hy
  | const v=>exact hy
  | global _=>exact hy
  | func _=>exact hy
 ·have hox:=hop x hx'
  cases x with
  | tmp t' =>
   show cond (Nat.beq t' tx) _ (f' t')=cond (Nat.beq t' tx) _ (f t')
   have:f' t'=f t':=hox
   rw [this]
  | const v=>rfl
  | global _=>rfl
  | func _=>rfl
 ·have hq':q=(i8,some (some (.row e size es))):=by simpa using hq
  subst hq'
  show upl own l i8=_
  simp [l,upl,qu hne83]
 ·have h9:=hr'.slot tx (.dat (vval hv)) (by
   show (a.put dst v).tmps.getD tx undef=hv
   cases dst with
   | none=>exact hval
   | some d =>
    have hne:d≠tx:=fun h=>hdx (by rw [h])
    rw [← hval]
    simp only [Act.put]
    rw [Array.getD_eq_getD_getElem?,Array.getElem?_setIfInBounds_ne hne,← Array.getD_eq_getD_getElem?])
  have e1:updS (updS (updS f' (some tx) (.row i8 es.length)) dst (.row i8 (es++news).length)) (some tx) (.dat (vval hv))=updS f' dst (.row i8 (es++news).length):=by
   funext t'
   by_cases ht:t'=tx
   ·subst ht
    cases dst with
    | none=>simp only [updS,hbx,cond_true]; exact hfx.symm
    | some d =>
     have hne:t'≠d:=fun h=>hdx (by rw [h])
     simp only [updS,hbx,cond_true,qu hne,cond_false]; exact hfx.symm
   ·cases dst with
    | none=>simp only [updS,qu ht,cond_false]
    | some d=>simp only [updS,qu ht,cond_false]
  rw [e1] at h9
  exact h9
end
section
variable {P:Program} {f:Nat→Slot} {dst:Option Tmp} {ty:TypeId} {pos:String} {af:Array Edge} {gd:Option (Nat×Bool)}
end
section
variable {P:Program} {X:Ctx} {Q:Exit→(Nat→Slot)→Own→Prop} {f:Nat→Slot} {own:Own} {c:Code} {α σ γ ρ:Type}
theorem w15 {l:List α} {body:Nat→α→σ→Option (σ ⊕ ρ)} {fin:σ→Option ρ} {r:ρ} (F:Nat→σ→γ→List (Nat×Slot)) (O:Nat→σ→γ→List (Nat×AObj)) (s0:σ) (y0:γ) (H:forL body fin 0 l s0=some r) (hf:subF f (F 0 s0 y0)) (ho:subO own (O 0 s0 y0)) (hok:∀ k s y,okL (F k s y) (O k s y)=true)
  (stop:∀ s y,fin s=some r→AWP P X c (fun e f own=>match e with | .normal=>False | e=>Q e f own) (frs (F l.length s y)) (ows (O l.length s y)))
  (round:∀ k x s y q,k < l.length→l[k]?=some x→body k x s=some q→(∀ r',q = .inr r'→r'=r)→AWP P X c (fun e f own=>match e with | .normal=>∃ s' y',q = .inl s'∧subF f (F (k+1) s' y')∧subO own (O (k+1) s' y') | e=>Q e f own) (frs (F k s y)) (ows (O k s y))):AWP P X (.loop c) Q f own:=by
 refine Wp (ι:=List α×Nat×σ×γ) (fun i=>F i.2.1 i.2.2.1 i.2.2.2) (fun i=>O i.2.1 i.2.2.1 i.2.2.2) (fun i=>i.2.1≤l.length∧l.drop i.2.1=i.1∧forL body fin i.2.1 i.1 i.2.2.1=some r) (fun i=>i.1.length) (l,0,s0,y0) ⟨Nat.zero_le _,rfl,H⟩ hf ho (fun i=>hok i.2.1 i.2.2.1 i.2.2.2) ?_
 rintro ⟨xs,k,s,y⟩ ⟨hkl,hn,hI⟩
 cases xs with
 | nil =>
  have hk:k=l.length:=by
   have:=congrArg List.length hn
   simp only [List.length_drop,List.length_nil] at this
   simp only at hkl
   omega
  subst hk
  refine Qc (stop s y hI) ?_
  intro e f own hQ
  cases e with
  | normal=>exact hQ.elim
  | exit id=>exact hQ
  | goto l=>exact hQ
  | ret=>exact hQ
  | panic ch=>exact hQ
  | outgrown=>exact hQ
 | cons x xs =>
  obtain ⟨q,h1,h2⟩:=bnd hI
  obtain ⟨d1,d2,d3⟩:=y1b hn
  refine Qc (round k x s y q d1 d2 h1 fun r' hq=>by subst hq; injection h2) ?_
  intro e f own hQ
  cases e with
  | normal =>
   obtain ⟨s',y',h3,h4,h5⟩:=hQ
   subst h3
   exact ⟨(xs,k+1,s',y'),⟨d1,d3,h2⟩,by simp,h4,h5⟩
  | exit id=>exact hQ
  | goto l=>exact hQ
  | ret=>exact hQ
  | panic ch=>exact hQ
  | outgrown=>exact hQ
end
section
variable {P:Program} {f:Nat→Slot} {dst:Option Tmp} {ty:TypeId} {pos:String} {af:Array Edge} {gd:Option (Nat×Bool)}
theorem x3t (i3 i8 tx:Nat) {t e:TypeId} {size bytes:Nat} {y:Operand} {es news:List (List V)} {hv:Value} (hE:Elem P t e size bytes) (hx:f tx = .dat (vval hv)) (hy:evS f y = .dat (vlst news)) (hyx:y ≠ .tmp tx) (hdx:dst≠some tx) (hne:news≠[]) (hn:∀ el,el∈news→el.length=size)
  (hlen:es.length+news.length≤1000000000) (hby:Nat.ble bytes 140737=true) (hd:Nat.beq i8 i3=false) :
  Stp P ⟨dst,.call { callee := .builtin .append,args := #[.tmp tx,y],argTypes := #[t,t] },ty,pos,af,gd⟩ f ⟨false,[(i3,some (some (.rowA hv e size es))),(i8,none)],[(i8,some (some (.row e size (es++news)))),(i3,some none),(i8,some (some (.row e size es)))],.row i8 (es++news).length⟩:=
 x44 i3 i8 tx hE hx hy hyx hdx hne hn hlen (Nat.le_trans (Nat.mul_le_mul hlen (Nat.le_of_ble_eq_true hby)) (by decide)) hd
end
section
variable {P:Program} {f:Nat→Slot} {dst:Option Tmp} {op:Op} {ty:TypeId} {pos:String} {af:Array Edge} {ops:Array Oper} {os:List Oper} {own:Own} {lg:List (List Nat×List Nat)} {K:(Nat→Slot)→Own→List (List Nat×List Nat)→Prop}
theorem x5k {s:Slot} {i3 i8:Nat} {q r q' r' r2:Option (Option AObj)} (hst:Stp P ⟨dst,op,ty,pos,af,none⟩ f ⟨false,[(i3,q),(i8,r)],[(i8,r'),(i3,q'),(i8,r2)],s⟩) (hq:own i3=q) (hr:own i8=r)
  (h:seqA P ops os (updS f dst s) (upl own [(i8,r'),(i3,q'),(i8,r2)]) (([i3,i8],[i8,i3,i8])::lg) K):seqA P ops (⟨dst,op,ty,pos,af,none⟩::os) f own lg K:=
 ⟨_,⟨rfl,fun _=>⟨hst,y3d hq hr⟩,fun h=>(by cases h),fun k hk=>(by simp [keys] at hk ⊢; omega)⟩,h⟩
end
end Go.Proofs.YtgdijjmdfcgifaaGreat
