import Derived.Test.YtbpedjpoikmbjaaGreatDoorAg
namespace Go.Proofs.YtbpedjpoikmbjaaGreatDoor
open Go.RowKit
set_option linter.unusedVariables false
theorem xu {β:Type} (f:Nat->β):∀ (l:List (Nat×β)) (k:Nat),(∃ p,p∈l/\p.1=k/\upl f l k=p.2)∨((∀ p,p∈l->p.1≠k)/\upl f l k=f k)
 | [],k=>.inr ⟨λ_ h=>by simp at h,rfl⟩
 | (i,v)::l,k=>by
  by_cases hk:k=i
  ·subst hk;refine .inl ⟨(k,v),by simp,rfl,?_⟩;have:Nat.beq k k=true:=by simp
   simp only [upl,this,cond_true]
  ·have e1:upl f ((i,v)::l) k=upl f l k:=by simp only [upl,qz hk,cond_false]
   rcases xu f l k with ⟨p,h1,h2,h3⟩|⟨h1,h2⟩
   ·exact .inl ⟨p,List.mem_cons_of_mem _ h1,h2,e1.trans h3⟩
   ·refine .inr ⟨λp hp=>?_,e1.trans h2⟩;rcases List.mem_cons.1 hp with rfl|hp
    ·exact λh=>hk h.symm
    ·exact h1 p hp
section
variable {P:Program} {X:Ctx} {Q:Exit->(Nat->Slot)->Own->Prop} {f:Nat->Slot} {own:Own} {c:Code}
theorem Rel.same {own':Own} {g g':Gh} {a:Act} {w:World} (τ:Nat->Nat) (hr:Rel X f own g a w) (hle:g.le g')
  (hbk:∀ i o b,own' i=some (some o)->obk g' i o=some b->∃ o0,own (τ i)=some (some o0)/\obk g (τ i) o0=some b)
  (hτ:∀ i j o o',own' i=some (some o)->own' j=some (some o')->τ i=τ j->i=j)
  (hob:∀ i o,own' i=some (some o)->Ext (Mof X g own) (Mof X g' own') w w->RepO g' w (Mof X g' own') i o)
  (hfr:∀ i,own' i=none->g'.bl i=none/\∀ n,g'.sv i n=none) (htop:∀ id e size es,own' id=some (some (.row e size es))->∀ k,es.length < k->g'.sv id k=none):Rel X f own' g' a w:=by
 have hM:∀ b,Mof X g' own' b->Mof X g own b:=by
  rintro b (h|⟨i,o,h1,h2⟩)
  ·exact .inl h
  ·obtain⟨o0,h3,h4⟩:=hbk i o b h1 h2;exact .inr ⟨_,o0,h3,h4⟩
 have he:Ext (Mof X g own) (Mof X g' own') w w:=⟨Nat.le_refl _,λ_ _ _ _=>rfl,λb _ hb=>hM b hb⟩
 refine⟨hr.kp,hr.m0,hr.n,hr.df,λt=>(hr.fr t).keep he hle,λi o h=>hob i o h he,λi j o o' b h1 h2 h3 h4=>?_,λi o b h1 h2=>?_,hfr,htop⟩
 ·obtain⟨p,p1,p2⟩:=hbk i o b h1 h3;obtain⟨q,q1,q2⟩:=hbk j o' b h2 h4;exact hτ i j o o' h1 h2 (hr.sep _ _ _ _ b p1 q1 p2 q2)
 ·obtain⟨p,p1,p2⟩:=hbk i o b h1 h2;exact hr.mine _ _ b p1 p2

theorem x1g (id:Nat) (e:TypeId) (size:Nat) (ho:own id=none) (hs:Nat.blt 0 size=true) (h:AWP P X c Q f (upl own [(id,some (some (.rowA (.slice none 0 0) e size [])))])):AWP P X c Q f own:=by
 intro g a w hr
 let g':Gh:=⟨g.bl,λi k=>if i=id/\k=0 then some (.slice none 0 0) else g.sv i k⟩
 have hsv:g'.sv id 0=some (.slice none 0 0):=if_pos ⟨rfl,rfl⟩
 have hle:g.le g':=⟨λ_ _ h=>h,λi k u hu=>by
  show (if i=id/\k=0 then _ else g.sv i k)=some u;rw [if_neg]
  ·exact hu
  ·rintro⟨rfl,rfl⟩;rw [(hr.fresh i ho).2] at hu
   cases hu⟩
 obtain⟨hr',he⟩:=Yb (id:=id) (ob' := .rowA (.slice none 0 0) e size []) (w':=w) hr hle (λi hi=>⟨rfl,λk=>if_neg λh=>hi h.1⟩) (.inl (Kp.refl _ _)) (λb hb=>by simp [obk,Value.ownBlock] at hb) (λe' s' es' he=>by cases he) (λM' he _=>⟨[],hsv,World.ownsRow_nil w 0 e size,by simpa [Nat.blt_eq] using hs,by simp,by simp⟩);exact h g' a w hr'

theorem x7w (i3 i4:Nat) {hv:Value} {e:TypeId} {size:Nat} {es:List (List V)} (h3:own i3=some (some (.rowA hv e size es))) (h4:own i4=none)
  (h:AWP P X c Q f (upl own [(i3,some none),(i4,some (some (.rowA hv e size es)))])):AWP P X c Q f own:=by
 intro g a w hr;have hne:i4≠i3:=by rintro rfl;rw [h3] at h4;cases h4
 obtain⟨xs,q1,q2,q3,q4,q5⟩:=hr.ob i3 _ h3
 let g':Gh:=⟨g.bl,λi k=>if i=i4/\k=es.length then some hv else g.sv i k⟩
 have hsv:g'.sv i4 es.length=some hv:=if_pos ⟨rfl,rfl⟩
 have hle:g.le g':=⟨λ_ _ h=>h,λi k u hu=>by
  show (if i=i4/\k=es.length then _ else g.sv i k)=some u;rw [if_neg]
  ·exact hu
  ·rintro⟨rfl,rfl⟩;rw [(hr.fresh i h4).2] at hu
   cases hu⟩
 have key:∀ k o,upl own [(i3,some none),(i4,some (some (.rowA hv e size es)))] k=some (some o)->k≠i3/\((k=i4/\o = .rowA hv e size es)∨(k≠i4/\own k=some (some o))):=λk o hk=>by
  rcases xu own [(i3,some none),(i4,some (some (.rowA hv e size es)))] k with ⟨p,h1,h2,h5⟩|⟨h1,h2⟩
  ·rw [h5] at hk;simp at h1;rcases h1 with rfl|rfl
   ·cases hk
   ·cases hk;exact⟨λh=>hne (h2.trans h),.inl ⟨h2.symm,rfl⟩⟩
  ·rw [h2] at hk;exact⟨λh=>h1 _ (.head _) h.symm,.inr ⟨λh=>h1 _ (.tail _ (.head _)) h.symm,hk⟩⟩
 refine h g' a w (Rel.same (λk=>if k=i4 then i3 else k) hr hle (λk o b hk hb=>?_) (λk l o o' hk hl hkl=>?_) (λk o hk he=>?_) (λk hk=>?_) (λk e' s' es' hk m hm=>?_))
 ·obtain⟨h1,⟨rfl,rfl⟩|⟨h2,h5⟩⟩:=key k o hk
  ·rw [if_pos rfl];exact⟨_,h3,hb⟩
  ·rw [if_neg h2];exact⟨o,h5,by rw [← (hr.ob k o h5).obk_eq hle];exact hb⟩
 ·have h1:=(key k o hk).1;have h2:=(key l o' hl).1
  by_cases e1:k=i4
  ·by_cases e2:l=i4
   ·omega
   ·rw [if_pos e1,if_neg e2] at hkl;exact absurd hkl.symm h2
  ·by_cases e2:l=i4
   ·rw [if_neg e1,if_pos e2] at hkl;exact absurd hkl h1
   ·rw [if_neg e1,if_neg e2] at hkl;exact hkl
 ·obtain⟨h1,⟨rfl,rfl⟩|⟨h2,h5⟩⟩:=key k o hk
  ·exact⟨xs,hsv,q2,q3,q4,λk c el u hk hc=>let ⟨x,r1,r2,r3⟩:=q5 k c el u hk hc;⟨x,r1,u.keep he r2,r3⟩⟩
  ·exact (hr.ob k o h5).keep he hle (λ_ _=>rfl)
 ·rcases xu own [(i3,some none),(i4,some (some (.rowA hv e size es)))] k with ⟨p,h1,h2,h5⟩|⟨h1,h2⟩
  ·rw [h5] at hk;simp at h1;rcases h1 with rfl|rfl <;> cases hk
  ·rw [h2] at hk;have h6:=hr.fresh k hk;have h7:k≠i4:=λh=>h1 _ (.tail _ (.head _)) h.symm;exact⟨h6.1,λn=>(if_neg λh=>h7 h.1).trans (h6.2 n)⟩
 ·obtain⟨h1,⟨rfl,h6⟩|⟨h2,h5⟩⟩:=key k _ hk
  ·cases h6
  ·exact (if_neg λh=>h2 h.1).trans (hr.top k e' s' es' h5 m hm)

theorem w9k (i j id i3 i4:Nat) {an:Option Nat} {t e:TypeId} {size n:Nat} {cs:List Slot} {es es3:List (List V)} {hv:Value} {e3:TypeId} {s3:Nat}
  (hb:own i=some (some (.box an t cs))) (hj:cs[j]?=some (.row id n)) (ho:own id=some (some (.row e size es))) (hn:n=es.length) (h3:own i3=some (some (.rowA hv e3 s3 es3))) (h4:own i4=none)
  (h:∀ hv',AWP P X c Q f (upl own [(i,some (some (.box an t (cs.set j (.dat (vval hv')))))),(id,some none),(i3,some none),(i4,some (some (.rowA hv' e size es)))])):AWP P X c Q f own:=by
 intro g a w hr;subst hn;obtain⟨v,xs,q1,q2,q3,q4,q5⟩:=hr.ob id _ ho;have n1:i4≠i3:=by rintro rfl;rw [h3] at h4;cases h4
 have n2:i4≠id:=by rintro rfl;rw [ho] at h4;cases h4
 have n3:i4≠i:=by rintro rfl;rw [hb] at h4;cases h4
 have n4:i≠id:=by rintro rfl;rw [ho] at hb;cases hb
 have n5:i≠i3:=by rintro rfl;rw [h3] at hb;cases hb
 have n6:id≠i3:=by rintro rfl;rw [h3] at ho;cases ho
 let l:List (Nat×Option (Option AObj)):=[(i,some (some (.box an t (cs.set j (.dat (vval v)))))),(id,some none),(i3,some none),(i4,some (some (.rowA v e size es)))]
 let g':Gh:=⟨g.bl,λi k=>if i=i4/\k=es.length then some v else g.sv i k⟩
 have hsv:g'.sv i4 es.length=some v:=if_pos ⟨rfl,rfl⟩
 have hle:g.le g':=⟨λ_ _ h=>h,λi k u hu=>by
  show (if i=i4/\k=es.length then _ else g.sv i k)=some u;rw [if_neg]
  ·exact hu
  ·rintro⟨rfl,rfl⟩;rw [(hr.fresh i h4).2] at hu
   cases hu⟩
 have key:∀ k o,upl own l k=some (some o)->k≠id/\((k=i/\o = .box an t (cs.set j (.dat (vval v))))∨(k=i4/\o = .rowA v e size es)∨(k≠i/\k≠i4/\own k=some (some o))):=λk o hk=>by
  rcases xu own l k with ⟨p,h1,h2,h5⟩|⟨h1,h2⟩
  ·rw [h5] at hk;simp [l] at h1;rcases h1 with rfl|rfl|rfl|rfl
   ·cases hk;exact⟨λh=>n4 (h2.trans h),.inl ⟨h2.symm,rfl⟩⟩
   ·cases hk
   ·cases hk
   ·cases hk;exact⟨λh=>n2 (h2.trans h),.inr (.inl ⟨h2.symm,rfl⟩)⟩
  ·rw [h2] at hk;exact⟨λh=>h1 _ (.tail _ (.head _)) h.symm,.inr (.inr ⟨λh=>h1 _ (.head _) h.symm,λh=>h1 _ (.tail _ (.tail _ (.tail _ (.head _)))) h.symm,hk⟩)⟩
 refine h v g' a w (Rel.same (λk=>if k=i4 then id else k) hr hle (λk o b hk hb'=>?_) (λk m o o' hk hm hkm=>?_) (λk o hk he=>?_) (λk hk=>?_) (λk e' s' es' hk m hm=>?_))
 ·obtain⟨h1,⟨rfl,rfl⟩|⟨rfl,rfl⟩|⟨h2,h5,h6⟩⟩:=key k o hk
  ·rw [if_neg (Ne.symm n3)];exact⟨_,hb,hb'⟩
  ·rw [if_pos rfl];refine⟨_,ho,?_⟩;have hb'':v.ownBlock=some b:=hb';simp only [obk,q1,Option.bind_some];exact hb''
  ·rw [if_neg h5];exact⟨o,h6,by rw [← (hr.ob k o h6).obk_eq hle];exact hb'⟩
 ·have h1:=(key k o hk).1;have h2:=(key m o' hm).1
  by_cases e1:k=i4
  ·by_cases e2:m=i4
   ·omega
   ·rw [if_pos e1,if_neg e2] at hkm;exact absurd hkm.symm h2
  ·by_cases e2:m=i4
   ·rw [if_neg e1,if_pos e2] at hkm;exact absurd hkm h1
   ·rw [if_neg e1,if_neg e2] at hkm;exact hkm
 ·obtain⟨h1,⟨rfl,rfl⟩|⟨rfl,rfl⟩|⟨h2,h5,h6⟩⟩:=key k o hk
  ·obtain⟨b0,l0,p1,p0,p2,p3,p4⟩:=hr.ob k _ hb;refine⟨b0,l0,p1,p0,p2,by rw [List.length_set];exact p3,λm s hs=>?_⟩;rw [List.getElem?_set] at hs;split at hs
   ·rename_i hjm;subst hjm;split at hs
    ·cases hs;obtain⟨x,x1,x2,x3⟩:=p4 j _ hj;have x4:g.sv id es.length=some x:=x2;rw [q1] at x4;cases x4;exact⟨_,x1,rfl,x3⟩
    ·cases hs
   ·obtain⟨x,x1,x2,x3⟩:=p4 m s hs;exact⟨x,x1,x2.keep he hle,x3⟩
  ·exact⟨xs,hsv,q2,q3,q4,λk c el u hk hc=>let ⟨x,r1,r2,r3⟩:=q5 k c el u hk hc;⟨x,r1,u.keep he r2,r3⟩⟩
  ·exact (hr.ob k o h6).keep he hle (λ_ _=>rfl)
 ·rcases xu own l k with ⟨p,h1,h2,h5⟩|⟨h1,h2⟩
  ·rw [h5] at hk;simp [l] at h1;rcases h1 with rfl|rfl|rfl|rfl <;> cases hk
  ·rw [h2] at hk;have h6:=hr.fresh k hk;have h7:k≠i4:=λh=>h1 _ (.tail _ (.tail _ (.tail _ (.head _)))) h.symm;exact⟨h6.1,λn=>(if_neg λh=>h7 h.1).trans (h6.2 n)⟩
 ·obtain⟨h1,⟨rfl,h6⟩|⟨rfl,h6⟩|⟨h2,h5,h6⟩⟩:=key k _ hk
  ·cases h6
  ·cases h6
  ·exact (if_neg λh=>h5 h.1).trans (hr.top k e' s' es' h6 m hm)

theorem y1m (i j id i4:Nat) {an:Option Nat} {t e:TypeId} {size n:Nat} {cs:List Slot} {es:List (List V)}
  (hb:own i=some (some (.box an t cs))) (hj:cs[j]?=some (.row id n)) (ho:own id=some (some (.row e size es))) (hn:n=es.length) (h4:own i4=none)
  (h:∀ hv',AWP P X c Q f (upl own [(i,some (some (.box an t (cs.set j (.dat (vval hv')))))),(id,some none),(i4,some (some (.rowA hv' e size es)))])):AWP P X c Q f own:=by
 intro g a w hr;subst hn;obtain⟨v,xs,q1,q2,q3,q4,q5⟩:=hr.ob id _ ho;have n2:i4≠id:=by rintro rfl;rw [ho] at h4;cases h4
 have n3:i4≠i:=by rintro rfl;rw [hb] at h4;cases h4
 have n4:i≠id:=by rintro rfl;rw [ho] at hb;cases hb
 let l:List (Nat×Option (Option AObj)):=[(i,some (some (.box an t (cs.set j (.dat (vval v)))))),(id,some none),(i4,some (some (.rowA v e size es)))]
 let g':Gh:=⟨g.bl,λi k=>if i=i4/\k=es.length then some v else g.sv i k⟩
 have hsv:g'.sv i4 es.length=some v:=if_pos ⟨rfl,rfl⟩
 have hle:g.le g':=⟨λ_ _ h=>h,λi k u hu=>by
  show (if i=i4/\k=es.length then _ else g.sv i k)=some u;rw [if_neg]
  ·exact hu
  ·rintro⟨rfl,rfl⟩;rw [(hr.fresh i h4).2] at hu
   cases hu⟩
 have key:∀ k o,upl own l k=some (some o)->k≠id/\((k=i/\o = .box an t (cs.set j (.dat (vval v))))∨(k=i4/\o = .rowA v e size es)∨(k≠i/\k≠i4/\own k=some (some o))):=λk o hk=>by
  rcases xu own l k with ⟨p,h1,h2,h5⟩|⟨h1,h2⟩
  ·rw [h5] at hk;simp [l] at h1;rcases h1 with rfl|rfl|rfl
   ·cases hk;exact⟨λh=>n4 (h2.trans h),.inl ⟨h2.symm,rfl⟩⟩
   ·cases hk
   ·cases hk;exact⟨λh=>n2 (h2.trans h),.inr (.inl ⟨h2.symm,rfl⟩)⟩
  ·rw [h2] at hk;exact⟨λh=>h1 _ (.tail _ (.head _)) h.symm,.inr (.inr ⟨λh=>h1 _ (.head _) h.symm,λh=>h1 _ (.tail _ (.tail _ (.head _))) h.symm,hk⟩)⟩
 refine h v g' a w (Rel.same (λk=>if k=i4 then id else k) hr hle (λk o b hk hb'=>?_) (λk m o o' hk hm hkm=>?_) (λk o hk he=>?_) (λk hk=>?_) (λk e' s' es' hk m hm=>?_))
 ·obtain⟨h1,⟨rfl,rfl⟩|⟨rfl,rfl⟩|⟨h2,h5,h6⟩⟩:=key k o hk
  ·rw [if_neg (Ne.symm n3)];exact⟨_,hb,hb'⟩
  ·rw [if_pos rfl];refine⟨_,ho,?_⟩;have hb'':v.ownBlock=some b:=hb';simp only [obk,q1,Option.bind_some];exact hb''
  ·rw [if_neg h5];exact⟨o,h6,by rw [← (hr.ob k o h6).obk_eq hle];exact hb'⟩
 ·have h1:=(key k o hk).1;have h2:=(key m o' hm).1
  by_cases e1:k=i4
  ·by_cases e2:m=i4
   ·omega
   ·rw [if_pos e1,if_neg e2] at hkm;exact absurd hkm.symm h2
  ·by_cases e2:m=i4
   ·rw [if_neg e1,if_pos e2] at hkm;exact absurd hkm h1
   ·rw [if_neg e1,if_neg e2] at hkm;exact hkm
 ·obtain⟨h1,⟨rfl,rfl⟩|⟨rfl,rfl⟩|⟨h2,h5,h6⟩⟩:=key k o hk
  ·obtain⟨b0,l0,p1,p0,p2,p3,p4⟩:=hr.ob k _ hb;refine⟨b0,l0,p1,p0,p2,by rw [List.length_set];exact p3,λm s hs=>?_⟩;rw [List.getElem?_set] at hs;split at hs
   ·rename_i hjm;subst hjm;split at hs
    ·cases hs;obtain⟨x,x1,x2,x3⟩:=p4 j _ hj;have x4:g.sv id es.length=some x:=x2;rw [q1] at x4;cases x4;exact⟨_,x1,rfl,x3⟩
    ·cases hs
   ·obtain⟨x,x1,x2,x3⟩:=p4 m s hs;exact⟨x,x1,x2.keep he hle,x3⟩
  ·exact⟨xs,hsv,q2,q3,q4,λk c el u hk hc=>let ⟨x,r1,r2,r3⟩:=q5 k c el u hk hc;⟨x,r1,u.keep he r2,r3⟩⟩
  ·exact (hr.ob k o h6).keep he hle (λ_ _=>rfl)
 ·rcases xu own l k with ⟨p,h1,h2,h5⟩|⟨h1,h2⟩
  ·rw [h5] at hk;simp [l] at h1;rcases h1 with rfl|rfl|rfl <;> cases hk
  ·rw [h2] at hk;have h6:=hr.fresh k hk;have h7:k≠i4:=λh=>h1 _ (.tail _ (.tail _ (.head _))) h.symm;exact⟨h6.1,λn=>(if_neg λh=>h7 h.1).trans (h6.2 n)⟩
 ·obtain⟨h1,⟨rfl,h6⟩|⟨rfl,h6⟩|⟨h2,h5,h6⟩⟩:=key k _ hk
  ·cases h6
  ·cases h6
  ·exact (if_neg λh=>h5 h.1).trans (hr.top k e' s' es' h6 m hm)

theorem w9h (b:Bool) (i j id i3 i4:Nat) {an:Option Nat} {t e:TypeId} {size n:Nat} {cs:List Slot} {es es3:List (List V)} {hv:Value}
  (hb:own i=some (some (.box an t cs))) (hj:cs[j]?=some (.row id n)) (ho:own id=some (some (.row e size es))) (hn:n=es.length) (h3:own i3=some (some (.rowA hv e size es3))) (h4:own i4=none)
  (h:∀ hv',(b=false->hv'=hv)->AWP P X c Q f (upl own [(i,some (some (.box an t (cs.set j (.dat (cond b (vval hv') (vlst es))))))),(id,some none),(i3,some none),(i4,some (some (.rowA hv' e size (cond b es es3))))])):AWP P X c Q f own:=by
 cases b with
 | true=>exact w9k i j id i3 i4 hb hj ho hn h3 h4 λhv'=>h hv' (λh=>by cases h)
 | false =>
  have n1:i4≠i3:=by rintro rfl;rw [h3] at h4;cases h4
  have n2:i4≠id:=by rintro rfl;rw [ho] at h4;cases h4
  have n3:i4≠i:=by rintro rfl;rw [hb] at h4;cases h4
  have n4:i≠id:=by rintro rfl;rw [ho] at hb;cases hb
  have n5:i≠i3:=by rintro rfl;rw [h3] at hb;cases hb
  have n6:id≠i3:=by rintro rfl;rw [h3] at ho;cases ho
  refine y1p i j id hb hj ho hn ?_;refine x7w i3 i4 (hv:=hv) (e:=e) (size:=size) (es:=es3) ?_ ?_ ?_
  ·rw [ve (Ne.symm n5),ve (Ne.symm n6)];exact h3
  ·rw [ve n3,ve n2];exact h4
  have h5:=h hv (λ_=>rfl)
  have e1:upl own [(i,some (some (.box an t (cs.set j (.dat (vlst es)))))),(id,some none),(i3,some none),(i4,some (some (.rowA hv e size es3)))]=upl (upl (upl own [(id,some none)]) [(i,some (some (.box an t (cs.set j (.dat (vlst es))))))]) [(i3,some none),(i4,some (some (.rowA hv e size es3)))]:=by
   funext k;simp only [upl]
   by_cases k1:k=i
   ·subst k1;simp [qz n5,qz (Ne.symm n3)]
   ·by_cases k2:k=id
    ·subst k2;simp [qz k1,qz n6,qz (Ne.symm n2)]
    ·simp [qz k1,qz k2]
  simp only [cond_false] at h5;rw [e1] at h5;exact h5
def UpH (hv:Value) (es3:List (List V)) (es es':List (List V)):Prop:=es'.length=es.length/\∀ (k c:Nat) (el':List V) (u':V),es'[k]?=some el'->el'[c]?=some u'->∃ el u,es[k]?=some el/\el[c]?=some u/\(u'=u∨(u=vval hv/\u'=vlst es3))
theorem Rel.frzG {g:Gh} {a:Act} {w:World} (hr:Rel X f own g a w) (i2 i3:Nat) {hv:Value} {e2 e3:TypeId} {s2 s3:Nat} {es2 es3:List (List V)} {o3:AObj} {xs3:List Value} (es2':List (List V)) (h2:own i2=some (some (.row e2 s2 es2))) (h3:own i3=some (some o3)) (n1:i2≠i3)
  (hb3:obk g i3 o3=hv.ownBlock) (q2:w.ownsRow 0 e3 s3 hv es3.length xs3) (q4:∀ el,el∈es3->el.length=s3) (q5:∀ (k c:Nat) (el:List V) (u:V),es3[k]?=some el->el[c]?=some u->∃ x,xs3[k*s3+c]?=some x/\u.p w (Mof X g own) x/\x.oneCell'=true)
  (hU:UpH hv es3 es2 es2') (hl:∀ el,el∈es2'->el.length=s2):Rel X f (upl own [(i3,some none),(i2,some (some (.row e2 s2 es2')))]) g a w:=by
 let l:List (Nat×Option (Option AObj)):=[(i3,some none),(i2,some (some (.row e2 s2 es2')))]
 have key:∀ k o,upl own l k=some (some o)->k≠i3/\((k=i2/\o = .row e2 s2 es2')∨(k≠i2/\own k=some (some o))):=λk o hk=>by
  rcases xu own l k with ⟨p,p1,p2,p5⟩|⟨p1,p2⟩
  ·rw [p5] at hk;simp [l] at p1;rcases p1 with rfl|rfl
   ·cases hk
   ·cases hk;exact⟨λh=>n1 (p2.trans h),.inl ⟨p2.symm,rfl⟩⟩
  ·rw [p2] at hk;exact⟨λh=>p1 _ (.head _) h.symm,.inr ⟨λh=>p1 _ (.tail _ (.head _)) h.symm,hk⟩⟩
 have keyo:∀ k o,upl own l k=some (some o)->∃ o',own k=some (some o')/\obk g k o'=obk g k o:=λk o hk=>by
  obtain⟨_,⟨rfl,rfl⟩|⟨_,h5⟩⟩:=key k o hk
  ·exact⟨_,h2,by simp only [obk,hU.1]⟩
  ·exact⟨o,h5,rfl⟩
 have hfz:(vlst es3).p w (Mof X g (upl own l)) hv:=by
  rcases q2.2 with ⟨r1,r2⟩|⟨b,cap,cur,r1,_,hb2,hnc,_,hcs,htk⟩
  ·have:es3=[]:=List.eq_nil_of_length_eq_zero r2;subst this;exact⟨none,0,r1,Nat.le_refl _,λh=>absurd rfl h⟩
  ·have hobk:obk g i3 o3=some b:=by rw [hb3,r1];rfl
   have he:Ext (Mof X g own) (Mof X g (upl own l)) w w:=⟨Nat.le_refl _,λ_ _ _ _=>rfl,λb _ hb=>by
    rcases hb with hb|⟨k,o,p1,p2⟩
    ·exact .inl hb
    ·obtain⟨o',p3,p4⟩:=keyo k o p1
     exact .inr ⟨k,o',p3,p4.trans p2⟩⟩
   refine⟨_,cap,r1,hnc,λ_=>⟨b,0,s3,rfl,?_,cur,e3,(0,0),hb2,q4,λk c el u hk hc=>?_⟩⟩
   ·rintro (hM0|⟨k,o,p1,p2⟩)
    ·have h5:=hr.m0.1 b hM0;rcases hr.mine i3 _ b h3 hobk with h6|h6
     ·exact h5.2 h6
     ·omega
    ·obtain⟨o',p4,p5⟩:=keyo k o p1;exact (key k o p1).1 (hr.sep k i3 o' _ b p4 h3 (p5.trans p2) hobk)
   ·obtain⟨x,s1,s2,s3⟩:=q5 k c el u hk hc;refine⟨x,?_,u.keep he s2,s3⟩;rw [← htk,List.getElem?_take] at s1;split at s1
    ·rw [Nat.zero_add];simpa using s1
    ·cases s1
 refine (Rel.same (λk=>k) hr (Gh.le_refl g) (λk o b hk hb=>?_) (λk m o o' _ _ h=>h) (λk o hk he=>?_) (λk hk=>?_) (λk e' s' es' hk m hm=>?_))
 ·obtain⟨o',p1,p2⟩:=keyo k o hk;exact⟨o',p1,p2.trans hb⟩
 ·obtain⟨_,⟨rfl,rfl⟩|⟨_,h5⟩⟩:=key k o hk
  ·obtain⟨v,xs,q1,q2,q3,q4,q5⟩:=hr.ob k _ h2;refine⟨v,xs,by rw [hU.1];exact q1,by rw [hU.1];exact q2,q3,hl,λm c el' u' hm hc=>?_⟩;obtain⟨el,u,p1,p2,p3⟩:=hU.2 m c el' u' hm hc;obtain⟨x,x1,x2,x3⟩:=q5 m c el u p1 p2;refine⟨x,x1,?_,x3⟩;rcases p3 with rfl|⟨rfl,rfl⟩
   ·exact u'.keep he x2
   ·have:x=hv:=x2;subst this;exact hfz
  ·exact (hr.ob k o h5).keep he (Gh.le_refl g) (λ_ _=>rfl)
 ·rcases xu own l k with ⟨p,p1,p2,p5⟩|⟨p1,p2⟩
  ·rw [p5] at hk;simp [l] at p1;rcases p1 with rfl|rfl <;> cases hk
  ·rw [p2] at hk;exact hr.fresh k hk
 ·obtain⟨_,⟨rfl,h6⟩|⟨_,h5⟩⟩:=key k _ hk
  ·cases h6;exact hr.top _ e2 s2 es2 h2 m (by rw [← hU.1];exact hm)
  ·exact hr.top k e' s' es' h5 m hm
theorem y1o (i2 i3:Nat) {hv:Value} {e2 e3:TypeId} {s2 s3:Nat} {es2 es3:List (List V)} (es2':List (List V)) (h2:own i2=some (some (.row e2 s2 es2))) (h3:own i3=some (some (.rowA hv e3 s3 es3)))
  (hU:UpH hv es3 es2 es2') (hl:∀ el,el∈es2'->el.length=s2) (h:AWP P X c Q f (upl own [(i3,some none),(i2,some (some (.row e2 s2 es2')))])):AWP P X c Q f own:=by
 intro g a w hr;have n1:i2≠i3:=by rintro rfl;rw [h3] at h2;cases h2
 obtain⟨xs,q1,q2,q3,q4,q5⟩:=hr.ob i3 _ h3;exact h g a w (hr.frzG i2 i3 es2' h2 h3 n1 rfl q2 q4 q5 hU hl)
end
section
variable {P:Program} {X:Ctx} {Q:Exit->(Nat->Slot)->Own->Prop} {f:Nat->Slot} {own:Own} {c:Code} {σ γ ρ:Type}
theorem v0g {body:Nat->σ->Option (σ ⊕ ρ)} {fin:σ->Option ρ} {r:ρ} {n:Nat} (F:Nat->σ->γ->List (Nat×Slot)) (O:Nat->σ->γ->List (Nat×AObj)) (s0:σ) (x0:γ) (H:rng body fin n 0 s0=some r) (hf:subF f (F 0 s0 x0)) (ho:subO own (O 0 s0 x0)) (hok:∀ k s x,okL (F k s x) (O k s x)=true)
  (stop:∀ s x,fin s=some r->AWP P X c (λe f own=>match e with|.normal=>False|e=>Q e f own) (frs (F n s x)) (ows (O n s x)))
  (round:∀ k s x q,k < n->body k s=some q->(∀ r',q = .inr r'->r'=r)->AWP P X c (λe f own=>match e with|.normal=>∃ s' x',q = .inl s'/\subF f (F (k+1) s' x')/\subO own (O (k+1) s' x')|e=>Q e f own) (frs (F k s x)) (ows (O k s x))):AWP P X (.loop c) Q f own:=by
 refine z36 (ι:=Nat×Nat×σ×γ) (λi=>F i.2.1 i.2.2.1 i.2.2.2) (λi=>O i.2.1 i.2.2.1 i.2.2.2) (λi=>i.1+i.2.1=n/\rng body fin i.1 i.2.1 i.2.2.1=some r) (λi=>i.1) (n,0,s0,x0) ⟨rfl,H⟩ hf ho (λi=>hok i.2.1 i.2.2.1 i.2.2.2) ?_;rintro⟨m,k,s,x⟩ ⟨hn,hI⟩
 cases m with
 | zero =>
  have hk:k=n:=by simpa using hn
  subst hk;refine Wz (stop s x hI) ?_;intro e f own hQ
  cases e with
  | normal=>exact hQ.elim
  | exit id=>exact hQ
  | goto l=>exact hQ
  | ret=>exact hQ
  | panic ch=>exact hQ
  | outgrown=>exact hQ
 | succ m =>
  obtain⟨q,h1,h2⟩:=bnd hI;simp only at hn;refine Wz (round k s x q (by omega) h1 λr' hq=>by subst hq;injection h2) ?_;intro e f own hQ
  cases e with
  | normal =>
   obtain⟨s',x',h3,h4,h5⟩:=hQ;subst h3;exact⟨(m,k+1,s',x'),⟨by simp only;omega,h2⟩,Nat.lt_succ_self _,h4,h5⟩
  | exit id=>exact hQ
  | goto l=>exact hQ
  | ret=>exact hQ
  | panic ch=>exact hQ
  | outgrown=>exact hQ
end
section
variable {P:Program} {X:Ctx} {Q:Exit->(Nat->Slot)->Own->Prop} {f:Nat->Slot} {own:Own} {c:Code}
theorem Rel.slot {g:Gh} {a:Act} {w:World} (hr:Rel X f own g a w) (t:Nat) (s:Slot) (hs:RepS g w (Mof X g own) s (a.tmps.getD t undef)):Rel X (updS f (some t) s) own g a w:=by
 refine⟨hr.kp,hr.m0,hr.n,hr.df,λt'=>?_,hr.ob,hr.sep,hr.mine,hr.fresh,hr.top⟩
 by_cases ht:t'=t
 ·subst ht;have:Nat.beq t' t'=true:=by simp
  simp only [updS,this,cond_true];exact hs
 ·simp only [updS,qz ht,cond_false];exact hr.fr t'
theorem Rel.re1 {g:Gh} {a:Act} {w:World} (hr:Rel X f own g a w) (id:Nat) {o o':AObj} (ho:own id=some (some o)) (hb:obk g id o'=obk g id o) (hR:∀ M',Ext (Mof X g own) M' w w->RepO g w M' id o')
  (ht:∀ e size es,o' = .row e size es->∀ k,es.length < k->g.sv id k=none):Rel X f (upl own [(id,some (some o'))]) g a w:=by
 have key:∀ k p,upl own [(id,some (some o'))] k=some (some p)->(k=id/\p=o')∨(k≠id/\own k=some (some p)):=λk p hk=>by
  by_cases h:k=id
  ·subst h;rw [vp] at hk;cases hk;exact .inl ⟨rfl,rfl⟩
  ·rw [ve h] at hk;exact .inr ⟨h,hk⟩
 refine Rel.same (λk=>k) hr (Gh.le_refl g) (λk p b hk hb'=>?_) (λk m o o' _ _ h=>h) (λk p hk he=>?_) (λk hk=>?_) (λk e' s' es' hk m hm=>?_)
 ·rcases key k p hk with ⟨rfl,rfl⟩|⟨_,h5⟩
  ·exact⟨o,ho,by rw [← hb];exact hb'⟩
  ·exact⟨p,h5,hb'⟩
 ·rcases key k p hk with ⟨rfl,rfl⟩|⟨_,h5⟩
  ·exact hR _ he
  ·exact (hr.ob k p h5).keep he (Gh.le_refl g) (λ_ _=>rfl)
 ·by_cases h:k=id
  ·subst h;rw [vp] at hk;cases hk
  ·rw [ve h] at hk;exact hr.fresh k hk
 ·rcases key k _ hk with ⟨rfl,h6⟩|⟨_,h5⟩
  ·exact ht _ _ _ h6.symm m hm
  ·exact hr.top k e' s' es' h5 m hm
theorem w9n (id:Nat) {an:Option Nat} {t:TypeId} {cs:List Slot} (ho:own id=some (some (.box an t cs))) (h:∀ b,AWP P X c Q f (upl own [(id,some (some (.box (some b) t cs)))])):AWP P X c Q f own:=by
 intro g a w hr;obtain⟨b,l,h1,h2,h3,h4,h5⟩:=hr.ob id _ ho;refine h b g a w (hr.re1 id ho rfl (λM' he=>⟨b,l,h1,λq hq=>by cases hq;rfl,h3,h4,λj s hs=>?_⟩) (λe size es h=>by cases h));obtain⟨x,x1,x2,x3⟩:=h5 j s hs;exact⟨x,x1,x2.keep he (Gh.le_refl g),x3⟩
theorem y1k (i j i2 i4:Nat) {an:Option Nat} {t e:TypeId} {size:Nat} {cs:List Slot} {es:List (List V)} {hv:Value}
  (hb:own i=some (some (.box an t cs))) (hj:cs[j]?=some (.dat (vval hv))) (ho:own i2=some (some (.rowA hv e size es))) (h4:own i4=none)
  (h:AWP P X c Q f (upl own [(i,some (some (.box an t (cs.set j (.row i4 es.length))))),(i2,some none),(i4,some (some (.row e size es)))])):AWP P X c Q f own:=by
 intro g a w hr;obtain⟨xs,q1,q2,q3,q4,q5⟩:=hr.ob i2 _ ho;have n2:i4≠i2:=by rintro rfl;rw [ho] at h4;cases h4
 have n3:i4≠i:=by rintro rfl;rw [hb] at h4;cases h4
 have n4:i≠i2:=by rintro rfl;rw [ho] at hb;cases hb
 let l:List (Nat×Option (Option AObj)):=[(i,some (some (.box an t (cs.set j (.row i4 es.length))))),(i2,some none),(i4,some (some (.row e size es)))]
 let g':Gh:=⟨g.bl,λi k=>if i=i4/\k=es.length then some hv else g.sv i k⟩
 have hsv:g'.sv i4 es.length=some hv:=if_pos ⟨rfl,rfl⟩
 have hle:g.le g':=⟨λ_ _ h=>h,λi k u hu=>by
  show (if i=i4/\k=es.length then _ else g.sv i k)=some u;rw [if_neg]
  ·exact hu
  ·rintro⟨rfl,rfl⟩;rw [(hr.fresh i h4).2] at hu
   cases hu⟩
 have key:∀ k o,upl own l k=some (some o)->k≠i2/\((k=i/\o = .box an t (cs.set j (.row i4 es.length)))∨(k=i4/\o = .row e size es)∨(k≠i/\k≠i4/\own k=some (some o))):=λk o hk=>by
  rcases xu own l k with ⟨p,h1,h2,h5⟩|⟨h1,h2⟩
  ·rw [h5] at hk;simp [l] at h1;rcases h1 with rfl|rfl|rfl
   ·cases hk;exact⟨λh=>n4 (h2.trans h),.inl ⟨h2.symm,rfl⟩⟩
   ·cases hk
   ·cases hk;exact⟨λh=>n2 (h2.trans h),.inr (.inl ⟨h2.symm,rfl⟩)⟩
  ·rw [h2] at hk;exact⟨λh=>h1 _ (.tail _ (.head _)) h.symm,.inr (.inr ⟨λh=>h1 _ (.head _) h.symm,λh=>h1 _ (.tail _ (.tail _ (.head _))) h.symm,hk⟩)⟩
 refine h g' a w (Rel.same (λk=>if k=i4 then i2 else k) hr hle (λk o b hk hb'=>?_) (λk m o o' hk hm hkm=>?_) (λk o hk he=>?_) (λk hk=>?_) (λk e' s' es' hk m hm=>?_))
 ·obtain⟨h1,⟨rfl,rfl⟩|⟨rfl,rfl⟩|⟨h2,h5,h6⟩⟩:=key k o hk
  ·rw [if_neg (Ne.symm n3)];exact⟨_,hb,hb'⟩
  ·rw [if_pos rfl];refine⟨_,ho,?_⟩;have hb'':(g'.sv k es.length).bind Value.ownBlock=some b:=hb';rw [hsv] at hb'';exact hb''
  ·rw [if_neg h5];exact⟨o,h6,by rw [← (hr.ob k o h6).obk_eq hle];exact hb'⟩
 ·have h1:=(key k o hk).1;have h2:=(key m o' hm).1
  by_cases e1:k=i4
  ·by_cases e2:m=i4
   ·omega
   ·rw [if_pos e1,if_neg e2] at hkm;exact absurd hkm.symm h2
  ·by_cases e2:m=i4
   ·rw [if_neg e1,if_pos e2] at hkm;exact absurd hkm h1
   ·rw [if_neg e1,if_neg e2] at hkm;exact hkm
 ·obtain⟨h1,⟨rfl,rfl⟩|⟨rfl,rfl⟩|⟨h2,h5,h6⟩⟩:=key k o hk
  ·obtain⟨b0,l0,p1,p0,p2,p3,p4⟩:=hr.ob k _ hb;refine⟨b0,l0,p1,p0,p2,by rw [List.length_set];exact p3,λm s hs=>?_⟩;rw [List.getElem?_set] at hs;split at hs
   ·rename_i hjm;subst hjm;split at hs
    ·cases hs;obtain⟨x,x1,x2,x3⟩:=p4 j _ hj;have x4:x=hv:=x2;subst x4;exact⟨_,x1,hsv,x3⟩
    ·cases hs
   ·obtain⟨x,x1,x2,x3⟩:=p4 m s hs;exact⟨x,x1,x2.keep he hle,x3⟩
  ·exact⟨hv,xs,hsv,q2,q3,q4,λk c el u hk hc=>let ⟨x,r1,r2,r3⟩:=q5 k c el u hk hc;⟨x,r1,u.keep he r2,r3⟩⟩
  ·exact (hr.ob k o h6).keep he hle (λ_ _=>rfl)
 ·rcases xu own l k with ⟨p,h1,h2,h5⟩|⟨h1,h2⟩
  ·rw [h5] at hk;simp [l] at h1;rcases h1 with rfl|rfl|rfl <;> cases hk
  ·rw [h2] at hk;have h6:=hr.fresh k hk;have h7:k≠i4:=λh=>h1 _ (.tail _ (.tail _ (.head _))) h.symm;exact⟨h6.1,λn=>(if_neg λh=>h7 h.1).trans (h6.2 n)⟩
 ·obtain⟨h1,⟨rfl,h6⟩|⟨rfl,h6⟩|⟨h2,h5,h6⟩⟩:=key k _ hk
  ·cases h6
  ·cases h6;exact (if_neg λh=>by omega).trans ((hr.fresh k h4).2 m)
  ·exact (if_neg λh=>h5 h.1).trans (hr.top k e' s' es' h6 m hm)
end
section
variable {P:Program} {X:Ctx} {Q:Exit->(Nat->Slot)->Own->Prop} {f:Nat->Slot} {own:Own} {ops:Array Oper} {os:List Oper} {dst:Option Tmp} {op:Op} {ty:TypeId} {pos:String} {af:Array Edge}
def SeqW (P:Program) (X:Ctx) (ops:Array Oper) (os:List Oper) (f:Nat->Slot) (own:Own) (Q:Exit->(Nat->Slot)->Own->Prop):Prop:=
 ∀ (i:Nat) (g:Gh) (a:Act) (w:World),ops.toList.drop i=os->Rel X f own g a w->wpOpsIn (FR X.R) 0 P ops (λe a' w'=>∃ f' own' g',Rel X f' own' g' a' w'/\Q e f' own') (List.range' i os.length) a w
theorem w9g {id:Nat} {N:Nat} (hX:X.N=N) (h:SeqW P X ops ops.toList f own Q):AWP P X (.region id ops false) Q f own:=by
 subst hX;intro g a w hr;refine wpIn_region ?_;have:=h 0 g a w rfl hr;rw [Array.length_toList,← List.range_eq_range'] at this;exact this
theorem w1i {N:Nat} {lg:List (List Nat×List Nat)} (hX:X.N=N) (hN:kz N ops=true) (h:seqA P ops os f own lg λf' own' _=>Q .normal f' own'):SeqW P X ops os f own Q:=by
 subst hX;exact λi g a w hos hr=>y21 hN os i f own lg g a w hos hr h
theorem x7g {o:Oper} {i:Nat} (hos:ops.toList.drop i=o::os):ops[i]?=some o/\ops.toList.drop (i+1)=os:=by
 have hlt:i < ops.size:=by
  have h2:=congrArg List.length hos;simp only [List.length_drop,List.length_cons,Array.length_toList] at h2;omega
 have h2:=List.drop_eq_getElem_cons (l:=ops.toList) (i:=i) (by simpa using hlt);rw [hos] at h2;injection h2 with h3 h4
 exact⟨by rw [Array.getElem?_eq_getElem hlt];exact congrArg some h3.symm,h4.symm⟩
theorem w1h {s:Slot} {N:Nat} (hX:X.N=N) (hN:kz N ops=true) (hst:Stp P ⟨dst,op,ty,pos,af,none⟩ f ⟨false,[],[],s⟩) (h:SeqW P X ops os (updS f dst s) own Q):SeqW P X ops (⟨dst,op,ty,pos,af,none⟩::os) f own Q:=by
 subst hX;intro i g a w hos hr;obtain⟨hoi,h4⟩:=x7g hos;obtain⟨hdN,hdf⟩:=Wj hN hoi;rw [List.length_cons,List.range'_succ,wpOpsIn_cons];unfold wpOpIn;rw [hoi];have hw:Region.wanted (⟨dst,op,ty,pos,af,none⟩:Oper) (yielded ops a.tmps) = !false:=z4c hr rfl;simp only [hw,Bool.not_false,if_true];exact Qs hdf (hst X _ _ g a w _ hr hdN (λx _=>rfl) (λq hq=>by simp at hq) _ (λg' v w' hr'=>h (i+1) g' _ w' h4 hr'))
def x1n (f:Nat->Slot) (own own':Own):List (Nat×Nat)->Prop
 | []=>True
 | (t,id)::l=>(f t = .ptr id 0/\∃ b ty cs ty' cs',own id=some (some (.box (some b) ty cs))/\own' id=some (some (.box (some b) ty' cs')))/\x1n f own own' l
def z0b (l:List (Nat×Nat)):List (Nat×Slot):=l.map λp=>(p.1,.ptr p.2 0)
theorem x73 {own':Own} {X2:Ctx} {f2:Nat->Slot} {g g':Gh} {a a2:Act} {w w':World} (hr:Rel X f own g a w) (hr2:Rel X2 f2 own' g' a2 w') (M:Blks):∀ (l:List (Nat×Nat)),x1n f own own' l->∀ t,RepS g' w' M (frs (z0b l) t) (a.tmps.getD t undef)
 | [],_,t=>trivial
 | (t0,id)::l,h,t=>by
  obtain⟨⟨h1,b,ty,cs,ty',cs',h2,h3⟩,h4⟩:=h;have ih:=x73 hr hr2 M l h4 t
  by_cases ht:t=t0
  ·subst ht;have e1:frs (z0b ((t,id)::l)) t = .ptr id 0:=by simp [frs,z0b,upl]
   rw [e1];have hf:=hr.fr t;rw [h1] at hf;obtain⟨b',q1,q2⟩:=hf;obtain⟨b1,_,p1,p2,_⟩:=hr.ob id _ h2;obtain⟨b2,_,r1,r2,_⟩:=hr2.ob id _ h3;have e2:=p2 b rfl;have e3:=r2 b rfl;rw [q1] at p1;cases p1;exact⟨b2,r1,by rw [q2,← e2,← e3]⟩
  ·have e1:frs (z0b ((t0,id)::l)) t=frs (z0b l) t:=by simp [frs,z0b,upl,qz ht]
   rw [e1];exact ih
theorem w1j {fn:Nat} {fc:Func} {c:Code} {N NX:Nat} {rs:List ResultVar} {xs:List Operand} {ts:Array TypeId} (args:List Slot) (lt:List (Nat×Nat)) (hok:uv P fn=true) (hf:P.funcs[fn]?=some fc) (hb:fc.body=some c) (hnt:fc.ntmps=N) (hrs:fc.results.toList=rs) (hn:Nat.ble args.length N=true)
  (hX:X.N=NX) (hN:kz NX ops=true) (hxs:xs.map (evS f)=args) (hnf:∀ x,x∈xs->∀ n,x ≠ .func n)
  (h:∀ X2:Ctx,X2.N=N->AWP P X2 c (λe f' own'=>(match e with|.ret=>True|.normal=>True|_=>False)/\∃ us,ResG P f' own' rs (.dat (yb us))/\x1n f own own' lt/\SeqW P X ops os (updS (frs (z0b lt)) dst (.dat (yb us))) own' Q) (λt=>args.getD t .any) own) :
  SeqW P X ops (⟨dst,.call { callee:=.value (.func fn),args:=xs.toArray,argTypes:=ts },ty,pos,af,none⟩::os) f own Q:=by
 subst hX hnt hrs;have hn:=Nat.le_of_ble_eq_true hn;intro i g a w hos hr;obtain⟨hoi,h4⟩:=x7g hos;obtain⟨hdN,hdf⟩:=Wj hN hoi;rw [List.length_cons,List.range'_succ,wpOpsIn_cons];unfold wpOpIn;rw [hoi];have hw:Region.wanted (⟨dst,.call { callee:=.value (.func fn),args:=xs.toArray,argTypes:=ts },ty,pos,af,none⟩:Oper) (yielded ops a.tmps) = !false:=z4c hr rfl;simp only [hw,Bool.not_false,if_true];refine Qs hdf ?_;unfold Oper.wp;rw [z4u hok _ ts a.eval rfl w];show Calls P fn (xs.toArray.map a.eval) w _;have hlen:xs.length=args.length:=by rw [← hxs,List.length_map]
 refine calls_of_wp hf hb (wp_mono (wpIn_wide.1 (h ⟨X.M0,X.w0,X.S0,fc.ntmps,none,[]⟩ rfl g _ w ?_)) ?_)
 ·refine⟨hr.kp,hr.m0,by simp;omega,rfl,λt=>?_,hr.ob,hr.sep,hr.mine,hr.fresh,hr.top⟩
  cases hs:args[t]? with
  | none =>
   have:args.getD t .any = .any:=by rw [List.getD_eq_getElem?_getD,hs];rfl
   rw [this];trivial
  | some u =>
   have e1:args.getD t .any=u:=by rw [List.getD_eq_getElem?_getD,hs];rfl
   rw [e1];have hlt:t < xs.length:=by rw [hlen];exact (List.getElem?_eq_some_iff.1 hs).1
   rw [← hxs,List.getElem?_map,List.getElem?_eq_getElem hlt] at hs;have hu:evS f xs[t]=u:=by injection hs
   have hev:=hr.ev xs[t];rw [hu] at hev
   have e2:((xs.toArray.map a.eval)++Array.replicate (fc.ntmps-(xs.toArray.map a.eval).size) undef).getD t undef=a.eval xs[t]:=by
    rw [Array.getD_eq_getD_getElem?,Array.getElem?_append_left (by simpa using hlt)];simp [hlt]
   show RepS g w _ u (((xs.toArray.map a.eval)++Array.replicate (fc.ntmps-(xs.toArray.map a.eval).size) undef).getD t undef);rw [e2];exact hev
 ·rintro e a' w' ⟨f',own',g',hr2,he,us,hres,hanch,hseq⟩;obtain⟨v,hv1,hv2⟩:=x4c (P:=P) hr2 fc _ hres;have hfr:Rel X (frs (z0b lt)) own' g' a w':=⟨hr2.kp,hr2.m0,hr.n,hr.df,x73 hr hr2 _ lt hanch,hr2.ob,hr2.sep,hr2.mine,hr2.fresh,hr2.top⟩
  have hgo:=hseq (i+1) g' (a.put dst v) w' h4 (hfr.put dst (.dat (yb us)) v hdN hv2);have hfin:a'.defers=[]/\∃ v,(results fc a'.tmps).run P w' = .ok v w'/\wpOpsIn (FR X.R) 0 P ops (λe a' w'=>∃ f' own' g',Rel X f' own' g' a' w'/\Q e f' own') (List.range' (i+1) os.length) (a.put dst v) w':=⟨hr2.df,v,hv1,hgo⟩
  cases e with
  | normal=>exact hfin
  | ret=>exact hfin
  | exit _=>exact he.elim
  | goto _=>exact he.elim
  | panic _=>exact he.elim
  | outgrown=>exact he.elim
end
section
variable {P:Program} {f:Nat->Slot} {dst:Option Tmp} {ty:TypeId} {pos:String} {af:Array Edge} {gd:Option (Nat×Bool)}
theorem w02 (i3 i8 tx:Nat) {t e:TypeId} {size bytes:Nat} {y:Operand} {es news:List (List V)} {hv:Value} (hE:Elem P t e size bytes) (hx:f tx = .dat (vval hv)) (hy:evS f y = .dat (vlst news)) (hyx:y ≠ .tmp tx) (hdx:dst≠some tx) (hne:news≠[]) (hn:∀ el,el∈news->el.length=size)
  (hlen:es.length+news.length<=1000000000) (hby:(es.length+news.length)*bytes<=140737488355328) (hd:Nat.beq i8 i3=false) :
  Stp P ⟨dst,.call { callee:=.builtin .append,args:=#[.tmp tx,y],argTypes:=#[t,t] },ty,pos,af,gd⟩ f ⟨false,[(i3,some (some (.rowA hv e size es))),(i8,none)],[(i8,some (some (.row e size (es++news)))),(i3,some none),(i8,some (some (.row e size es)))],.row i8 (es++news).length⟩:=by
 have hne83:i8≠i3:=λh=>by rw [h] at hd;simp at hd
 intro X f' own g a w Q hr hd hop hrd K hK;have h3:own i3=some (some (.rowA hv e size es)):=hrd (i3,_) (by simp);have h8:own i8=none:=hrd (i8,none) (by simp);obtain⟨xs,q1,q2,q3,q4,q5⟩:=hr.ob i3 _ h3
 let g2:Gh:=⟨g.bl,λi k=>if i=i8/\k=es.length then some hv else g.sv i k⟩
 have hsv:g2.sv i8 es.length=some hv:=if_pos ⟨rfl,rfl⟩
 have hle:g.le g2:=⟨λ_ _ h=>h,λi k u hu=>by
  show (if i=i8/\k=es.length then _ else g.sv i k)=some u;rw [if_neg]
  ·exact hu
  ·rintro⟨rfl,rfl⟩;rw [(hr.fresh i h8).2] at hu
   cases hu⟩
 let l:List (Nat×Option (Option AObj)):=[(i3,some none),(i8,some (some (.row e size es)))]
 have key:∀ k o,upl own l k=some (some o)->k≠i3/\((k=i8/\o = .row e size es)∨(k≠i8/\own k=some (some o))):=λk o hk=>by
  rcases xu own l k with ⟨p,h1,h2,h5⟩|⟨h1,h2⟩
  ·rw [h5] at hk;simp [l] at h1;rcases h1 with rfl|rfl
   ·cases hk
   ·cases hk;exact⟨λh=>hne83 (h2.trans h),.inl ⟨h2.symm,rfl⟩⟩
  ·rw [h2] at hk;exact⟨λh=>h1 _ (.head _) h.symm,.inr ⟨λh=>h1 _ (.tail _ (.head _)) h.symm,hk⟩⟩
 have hr2:Rel X f' (upl own l) g2 a w:=by
  refine Rel.same (λk=>if k=i8 then i3 else k) hr hle (λk o b hk hb=>?_) (λk m o o' hk hm hkl=>?_) (λk o hk he=>?_) (λk hk=>?_) (λk e' s' es' hk m hm=>?_)
  ·obtain⟨h1,⟨rfl,rfl⟩|⟨h2,h5⟩⟩:=key k o hk
   ·rw [if_pos rfl];refine⟨_,h3,?_⟩;have hb'':(g2.sv k es.length).bind Value.ownBlock=some b:=hb;rw [hsv] at hb'';exact hb''
   ·rw [if_neg h2];exact⟨o,h5,by rw [← (hr.ob k o h5).obk_eq hle];exact hb⟩
  ·have h1:=(key k o hk).1;have h2:=(key m o' hm).1
   by_cases e1:k=i8
   ·by_cases e2:m=i8
    ·omega
    ·rw [if_pos e1,if_neg e2] at hkl;exact absurd hkl.symm h2
   ·by_cases e2:m=i8
    ·rw [if_neg e1,if_pos e2] at hkl;exact absurd hkl h1
    ·rw [if_neg e1,if_neg e2] at hkl;exact hkl
  ·obtain⟨h1,⟨rfl,rfl⟩|⟨h2,h5⟩⟩:=key k o hk
   ·exact⟨hv,xs,hsv,q2,q3,q4,λk c el u hk hc=>let ⟨x,r1,r2,r3⟩:=q5 k c el u hk hc;⟨x,r1,u.keep he r2,r3⟩⟩
   ·exact (hr.ob k o h5).keep he hle (λ_ _=>rfl)
  ·rcases xu own l k with ⟨p,h1,h2,h5⟩|⟨h1,h2⟩
   ·rw [h5] at hk;simp [l] at h1;rcases h1 with rfl|rfl <;> cases hk
   ·rw [h2] at hk;have h6:=hr.fresh k hk;have h7:k≠i8:=λh=>h1 _ (.tail _ (.head _)) h.symm;exact⟨h6.1,λn=>(if_neg λh=>h7 h.1).trans (h6.2 n)⟩
  ·obtain⟨h1,⟨rfl,h6⟩|⟨h2,h5⟩⟩:=key k _ hk
   ·cases h6;exact (if_neg λh=>by omega).trans ((hr.fresh k h8).2 m)
   ·exact (if_neg λh=>h2 h.1).trans (hr.top k e' s' es' h5 m hm)
 have hfx:f' tx = .dat (vval hv):=by
  have:=hop (.tmp tx) (by simp [Op.operands,Call.operands]);simpa [evS,hx] using this
 have hval:a.tmps.getD tx undef=hv:=by
  have:=hr.fr tx;rw [hfx] at this;exact this
 have hr3:=hr2.slot tx (.row i8 es.length) (by show g2.sv i8 es.length=some _;rw [hval];exact hsv);have hbx:Nat.beq tx tx=true:=by simp
 refine y6t (f:=updS f (some tx) (.row i8 es.length)) (id:=i8) (es:=es) (news:=news) (x:=.tmp tx) (y:=y) hE (by show cond (Nat.beq tx tx) _ _=_;rw [hbx];rfl) ?_ hne hn hlen hby X (updS f' (some tx) (.row i8 es.length)) (upl own l) g2 a w Q hr3 hd (λx hx'=>?_) (λq hq=>?_) K (λg' v w' hr'=>hK g' v w' ?_)
 ·cases y with
  | tmp ty' =>
   have hne:ty'≠tx:=λh=>hyx (by rw [h]);show cond (Nat.beq ty' tx) _ (f ty')=_;rw [qz hne];exact hy
  | const v=>exact hy
  | global _=>exact hy
  | func _=>exact hy
 ·have hox:=hop x hx'
  cases x with
  | tmp t' =>
   show cond (Nat.beq t' tx) _ (f' t')=cond (Nat.beq t' tx) _ (f t');have:f' t'=f t':=hox;rw [this]
  | const v=>rfl
  | global _=>rfl
  | func _=>rfl
 ·have hq':q=(i8,some (some (.row e size es))):=by simpa using hq
  subst hq';show upl own l i8=_;simp [l,upl,qz hne83]
 ·have h9:=hr'.slot tx (.dat (vval hv)) (by
   show (a.put dst v).tmps.getD tx undef=hv
   cases dst with
   | none=>exact hval
   | some d =>
    have hne:d≠tx:=λh=>hdx (by rw [h]);rw [← hval];simp only [Act.put]
    rw [Array.getD_eq_getD_getElem?,Array.getElem?_setIfInBounds_ne hne,← Array.getD_eq_getD_getElem?])
  have e1:updS (updS (updS f' (some tx) (.row i8 es.length)) dst (.row i8 (es++news).length)) (some tx) (.dat (vval hv))=updS f' dst (.row i8 (es++news).length):=by
   funext t'
   by_cases ht:t'=tx
   ·subst ht
    cases dst with
    | none=>simp only [updS,hbx,cond_true];exact hfx.symm
    | some d =>
     have hne:t'≠d:=λh=>hdx (by rw [h]);simp only [updS,hbx,cond_true,qz hne,cond_false];exact hfx.symm
   ·cases dst with
    | none=>simp only [updS,qz ht,cond_false]
    | some d=>simp only [updS,qz ht,cond_false]
  rw [e1] at h9;exact h9
theorem x94 {t e e8:TypeId} {b0:Bool} {m size s8:Nat} {p x:Operand} {id i8 n8 k c:Nat} {es es8:List (List V)} {el:List V} (ht:tyS P t=some (b0,1)) (hp:evS f p = .rptr id m size k c) (hx:evS f x = .row i8 n8) (hn8:n8=es8.length) (hm:m=es.length) (he:es[k]?=some el) (hc':Nat.blt c el.length=true) (hd8:Nat.beq id i8=false) :
  Stp P ⟨dst,.store t p x,ty,pos,af,gd⟩ f ⟨false,[(id,some (some (.row e size es))),(i8,some (some (.row e8 s8 es8)))],[(i8,some none),(id,some (some (.row e size (es.set k (el.set c (vlst es8))))))],.any⟩:=by
 have hc:c < el.length:=by simpa [Nat.blt_eq] using hc'
 intro X f' own g a w Q hr hd hop hrd K hK;have ho:own id=some (some (.row e size es)):=hrd (id,_) (by simp);have h8:own i8=some (some (.row e8 s8 es8)):=hrd (i8,_) (by simp);have h2:RepS g w (Mof X g own) (.rptr id m size k c) (a.eval p):=by rw [← hp,← hop p (by simp [Op.operands])];exact hr.ev p
 have h3:RepS g w (Mof X g own) (.row i8 n8) (a.eval x):=by rw [← hx,← hop x (by simp [Op.operands])];exact hr.ev x
 subst hm hn8;have h3':g.sv i8 es8.length=some (a.eval x):=h3;obtain⟨v8,xs8,u1,u2,u3,u4,u5⟩:=hr.ob i8 _ h8;rw [h3'] at u1;cases u1
 have hone:(a.eval x).oneCell'=true:=by
  rcases u2.2 with ⟨e1,_⟩|⟨b,cap,cur,e1,_⟩ <;> rw [e1] <;> rfl
 obtain⟨b,cap,p1,p2⟩:=h2;obtain⟨u,xs,q1,q2,q3,q4,q5⟩:=hr.ob id _ ho;rw [p1] at q1;cases q1;have hk:=(List.getElem?_eq_some_iff.1 he).1;have hel:=q4 el (List.mem_of_getElem? he);have hpos:k*size+c < es.length*size:=Yx hk (by omega);have hbo:obk g id (.row e size es)=some b:=by simp only [obk];rw [p1];rfl
 have hnid:id≠i8:=λh=>by rw [h] at hd8;simp at hd8
 rcases q2.2 with ⟨e1,_⟩|⟨b',cap',cur,e1,e2,e3,e4,e5,e6,e7⟩
 ·cases e1
 ·cases e1;have hcur:es.length*size<=cap*size:=Nat.mul_le_mul_right _ e4;have hst:=y22 (P:=P) ht w b (k*size+c) cur.toList e (a.eval x) (by simpa using e3) (by simp;omega) hone
  have hrun:(execOp a.eval ⟨dst,.store t p x,ty,pos,af,gd⟩).run P w = .ok .skip (w.setCell ⟨b,k*size+c,none⟩ (a.eval x)):=by
   simp only [execOp,p2,Sem.run_bind,hst,Result.andThen_ok,Sem.run_pure]
  have hkp:Kp [b] w (w.setCell ⟨b,k*size+c,none⟩ (a.eval x)):=(Kp.refl [b] w).set_ (.inl (by simp)) _
  obtain⟨hr',he'⟩:=Yb (id:=id) (ob' := .row e size (es.set k (el.set c (vval (a.eval x))))) (w':=w.setCell ⟨b,k*size+c,none⟩ (a.eval x)) hr (Gh.le_refl g) (λi hi=>⟨rfl,λ_=>rfl⟩) (.inr ⟨_,b,ho,hbo,hkp⟩) (λb' hb=>.inr ⟨_,ho,by simp only [obk] at hb ⊢;simpa using hb⟩) (λe' s' es' h k' hk'=>by cases h;exact hr.top id e size es ho k' (by simpa using hk')) (λM' he' _=>⟨.slice (some ⟨b,0,none⟩) es.length cap,xs.set (k*size+c) (a.eval x),by rw [List.length_set];exact p1,⟨by simp [q2.1],.inr ⟨b,cap,cur.setIfInBounds (k*size+c) (a.eval x),by simp,e2,Blk.set_ (show Blk w b e cur from e3) (k*size+c) (a.eval x),by simpa using e4,e5,by simpa using e6,by rw [Array.toList_setIfInBounds,List.length_set,List.take_set,e7]⟩⟩,q3,λel' hel'=>by
   rcases List.mem_or_eq_of_mem_set hel' with h|rfl
   ·exact q4 el' h
   ·simpa using hel,λk' c' el' u' hk' hc'=>by
   rw [List.getElem?_set] at hk'
   by_cases hkk:k=k'
   ·subst hkk;rw [if_pos rfl,if_pos hk] at hk';cases hk';rw [List.getElem?_set] at hc'
    by_cases hcc:c=c'
    ·subst hcc;rw [if_pos rfl,if_pos hc] at hc';cases hc';exact⟨a.eval x,by rw [List.getElem?_set_self (by rw [q2.1];exact hpos)],rfl,hone⟩
    ·rw [if_neg hcc] at hc';obtain⟨y,r1,r2,r3⟩:=q5 k c' el u' he hc';exact⟨y,by rw [List.getElem?_set_ne (by omega)];exact r1,u'.keep he' r2,r3⟩
   ·rw [if_neg hkk] at hk';obtain⟨y,r1,r2,r3⟩:=q5 k' c' el' u' hk' hc';refine⟨y,?_,u'.keep he' r2,r3⟩;have hc2:=(List.getElem?_eq_some_iff.1 hc').1;have hel2:=q4 el' (List.mem_of_getElem? hk');rw [List.getElem?_set_ne]
    ·exact r1
    ·intro heq;have h5:(k*size+c) / size=(k' * size+c') / size:=by rw [heq]
     rw [Nat.mul_comm k,Nat.mul_comm k',Nat.mul_add_div q3,Nat.mul_add_div q3,Nat.div_eq_of_lt (by omega),Nat.div_eq_of_lt (by omega)] at h5
     omega⟩)
  have h8':upl own [(id,some (some (.row e size (es.set k (el.set c (vval (a.eval x)))))))] i8=some (some (.row e8 s8 es8)):=by rw [ve (Ne.symm hnid)];exact h8
  obtain⟨v9,xs9,y1,y2,y3,y4,y5⟩:=hr'.ob i8 _ h8';rw [h3'] at y1;cases y1
  have hr'':=hr'.frzG id i8 (e2:=e) (s2:=size) (es.set k (el.set c (vlst es8))) vp h8' hnid (by simp only [obk];rw [h3'];rfl) y2 y4 y5 ⟨by simp,λk' c' el' u' hk' hc'=>by
   rw [List.getElem?_set] at hk'
   by_cases hkk:k=k'
   ·subst hkk;rw [if_pos rfl,if_pos hk] at hk';cases hk';refine⟨el.set c (vval (a.eval x)),?_⟩;rw [List.getElem?_set] at hc'
    by_cases hcc:c=c'
    ·subst hcc;rw [if_pos rfl,if_pos hc] at hc';cases hc';exact⟨vval (a.eval x),by rw [List.getElem?_set_self hk],by rw [List.getElem?_set_self hc],.inr ⟨rfl,rfl⟩⟩
    ·rw [if_neg hcc] at hc';exact⟨u',by rw [List.getElem?_set_self hk],by rw [List.getElem?_set_ne hcc];exact hc',.inl rfl⟩
   ·rw [if_neg hkk] at hk'
    exact⟨el',u',by rw [List.getElem?_set_ne hkk];exact hk',hc',.inl rfl⟩⟩ (λel' hel'=>by
   rcases List.mem_or_eq_of_mem_set hel' with h|rfl
   ·exact q4 el' h
   ·simpa using hel)
  have e9:upl (upl own [(id,some (some (.row e size (es.set k (el.set c (vval (a.eval x)))))))]) [(i8,some none),(id,some (some (.row e size (es.set k (el.set c (vlst es8))))))]=upl own [(i8,some none),(id,some (some (.row e size (es.set k (el.set c (vlst es8))))))]:=by
   funext q;simp only [upl]
   by_cases hq:q=id
   ·subst hq;simp
   ·simp [qz hq]
  rw [e9] at hr'';unfold Oper.wp;rw [hrun];exact hK g undef _ (hr''.put dst .any undef hd trivial)
end
section
variable {P:Program} {f:Nat->Slot} {dst:Option Tmp} {ty:TypeId} {pos:String} {af:Array Edge} {gd:Option (Nat×Bool)}
end
section
variable {P:Program} {X:Ctx} {Q:Exit->(Nat->Slot)->Own->Prop} {f:Nat->Slot} {own:Own} {c:Code} {α σ γ ρ:Type}
theorem z7r {l:List α} {body:Nat->α->σ->Option (σ ⊕ ρ)} {fin:σ->Option ρ} {r:ρ} (F:Nat->σ->γ->List (Nat×Slot)) (O:Nat->σ->γ->List (Nat×AObj)) (s0:σ) (y0:γ) (H:forL body fin 0 l s0=some r) (hf:subF f (F 0 s0 y0)) (ho:subO own (O 0 s0 y0)) (hok:∀ k s y,okL (F k s y) (O k s y)=true)
  (stop:∀ s y,fin s=some r->AWP P X c (λe f own=>match e with|.normal=>False|e=>Q e f own) (frs (F l.length s y)) (ows (O l.length s y)))
  (round:∀ k x s y q,k < l.length->l[k]?=some x->body k x s=some q->(∀ r',q = .inr r'->r'=r)->AWP P X c (λe f own=>match e with|.normal=>∃ s' y',q = .inl s'/\subF f (F (k+1) s' y')/\subO own (O (k+1) s' y')|e=>Q e f own) (frs (F k s y)) (ows (O k s y))):AWP P X (.loop c) Q f own:=by
 refine z36 (ι:=List α×Nat×σ×γ) (λi=>F i.2.1 i.2.2.1 i.2.2.2) (λi=>O i.2.1 i.2.2.1 i.2.2.2) (λi=>i.2.1<=l.length/\l.drop i.2.1=i.1/\forL body fin i.2.1 i.1 i.2.2.1=some r) (λi=>i.1.length) (l,0,s0,y0) ⟨Nat.zero_le _,rfl,H⟩ hf ho (λi=>hok i.2.1 i.2.2.1 i.2.2.2) ?_;rintro⟨xs,k,s,y⟩ ⟨hkl,hn,hI⟩
 cases xs with
 | nil =>
  have hk:k=l.length:=by
   have:=congrArg List.length hn;simp only [List.length_drop,List.length_nil] at this;simp only at hkl;omega
  subst hk;refine Wz (stop s y hI) ?_;intro e f own hQ
  cases e with
  | normal=>exact hQ.elim
  | exit id=>exact hQ
  | goto l=>exact hQ
  | ret=>exact hQ
  | panic ch=>exact hQ
  | outgrown=>exact hQ
 | cons x xs =>
  obtain⟨q,h1,h2⟩:=bnd hI;obtain⟨d1,d2,d3⟩:=x7f hn;refine Wz (round k x s y q d1 d2 h1 λr' hq=>by subst hq;injection h2) ?_;intro e f own hQ
  cases e with
  | normal =>
   obtain⟨s',y',h3,h4,h5⟩:=hQ;subst h3;exact⟨(xs,k+1,s',y'),⟨d1,d3,h2⟩,by simp,h4,h5⟩
  | exit id=>exact hQ
  | goto l=>exact hQ
  | ret=>exact hQ
  | panic ch=>exact hQ
  | outgrown=>exact hQ
end
section
variable {P:Program} {f:Nat->Slot} {dst:Option Tmp} {ty:TypeId} {pos:String} {af:Array Edge} {gd:Option (Nat×Bool)}
theorem x9r {t e:TypeId} {size bytes:Nat} {x y:Operand} {id n:Nat} {es news:List (List V)} (hE:Elem P t e size bytes) (hx:evS f x = .row id n) (hn:n=es.length) (hy:evS f y = .dat (vlst news)) (hne:news≠[]) (hsz:∀ el,el∈news->el.length=size) (hlen:es.length+news.length<=1000000000) (hby:Nat.ble bytes 140737=true) :
  Stp P ⟨dst,.call { callee:=.builtin .append,args:=#[x,y],argTypes:=#[t,t] },ty,pos,af,gd⟩ f ⟨false,[(id,some (some (.row e size es)))],[(id,some (some (.row e size (es++news))))],.row id (es++news).length⟩:=by
 subst hn;exact y6t hE hx hy hne hsz hlen (Nat.le_trans (Nat.mul_le_mul hlen (Nat.le_of_ble_eq_true hby)) (by decide))
theorem x9q (i3 i8 tx:Nat) {t e:TypeId} {size bytes:Nat} {y:Operand} {es news:List (List V)} {hv:Value} (hE:Elem P t e size bytes) (hx:f tx = .dat (vval hv)) (hy:evS f y = .dat (vlst news)) (hyx:y ≠ .tmp tx) (hdx:dst≠some tx) (hne:news≠[]) (hn:∀ el,el∈news->el.length=size)
  (hlen:es.length+news.length<=1000000000) (hby:Nat.ble bytes 140737=true) (hd:Nat.beq i8 i3=false) :
  Stp P ⟨dst,.call { callee:=.builtin .append,args:=#[.tmp tx,y],argTypes:=#[t,t] },ty,pos,af,gd⟩ f ⟨false,[(i3,some (some (.rowA hv e size es))),(i8,none)],[(i8,some (some (.row e size (es++news)))),(i3,some none),(i8,some (some (.row e size es)))],.row i8 (es++news).length⟩:=
 w02 i3 i8 tx hE hx hy hyx hdx hne hn hlen (Nat.le_trans (Nat.mul_le_mul hlen (Nat.le_of_ble_eq_true hby)) (by decide)) hd
end
section
variable {P:Program} {f:Nat->Slot} {dst:Option Tmp} {op:Op} {ty:TypeId} {pos:String} {af:Array Edge} {ops:Array Oper} {os:List Oper} {own:Own} {lg:List (List Nat×List Nat)} {K:(Nat->Slot)->Own->List (List Nat×List Nat)->Prop}
theorem w1f {s:Slot} {i3 i8:Nat} {q r q' r' r2:Option (Option AObj)} (hst:Stp P ⟨dst,op,ty,pos,af,none⟩ f ⟨false,[(i3,q),(i8,r)],[(i8,r'),(i3,q'),(i8,r2)],s⟩) (hq:own i3=q) (hr:own i8=r)
  (h:seqA P ops os (updS f dst s) (upl own [(i8,r'),(i3,q'),(i8,r2)]) (([i3,i8],[i8,i3,i8])::lg) K):seqA P ops (⟨dst,op,ty,pos,af,none⟩::os) f own lg K:=
 ⟨_,⟨rfl,λ_=>⟨hst,y8i hq hr⟩,λh=>(by cases h),λk hk=>(by simp [keys] at hk ⊢;omega)⟩,h⟩
end
end Go.Proofs.YtbpedjpoikmbjaaGreatDoor
