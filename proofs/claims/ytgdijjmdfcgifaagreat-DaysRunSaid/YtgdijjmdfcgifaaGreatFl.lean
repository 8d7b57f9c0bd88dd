/- The abstract machine: contracts over closed objects of any number: the same objects in another order, calls, walks. -/
import Derived.Test.YtgdijjmdfcgifaaGreatFk
namespace Go.Proofs.YtgdijjmdfcgifaaGreat
open Go.RowKit Go.ChangeMaps Go.MapKept
set_option linter.unusedVariables false
theorem z53 {l l':List (Nat×AObj)} (nd:(l.map (·.1)).Nodup) (nd':(l'.map (·.1)).Nodup) (h:∀ p,p∈l↔p∈l'):ows l=ows l':=by
 have key:∀ (l l':List (Nat×AObj)),(l.map (·.1)).Nodup→(l'.map (·.1)).Nodup→(∀ p,p∈l↔p∈l')→∀ i q,ows l i=some q→ows l' i=some q:=by
  intro l l' nd nd' h i q hq
  obtain ⟨p,hp,rfl,rfl⟩:∃ p,p∈l∧p.1=i∧q=some p.2:=by
   have h1:ows l i≠none:=by rw [hq]; simp
   have h2:i∈l.map (·.1):=Decidable.byContradiction fun hn=>h1 (jp.2 hn)
   obtain ⟨p,hp,he⟩:=List.mem_map.1 h2
   have h3:=(qg nd).2 hp
   rw [he,hq] at h3
   exact ⟨p,hp,he,by injection h3⟩
  exact (qg nd').2 ((h p).1 hp)
 funext i
 cases hq:ows l i with
 | some q=>exact (key l l' nd nd' h i q hq).symm
 | none =>
  cases hq':ows l' i with
  | none=>rfl
  | some q=>rw [key l' l nd' nd (fun p=>(h p).symm) i q hq'] at hq; cases hq
theorem x0c {ι:Type} {P:Program} {fn:Nat} {args:List V} {pre pre':List (Nat×AObj)} {res:ι→V} {post post':ι→List (Nat×AObj)} (hF:FnI P fn args pre res post) (h:ows pre=ows pre') (hq:∀ y,ows (post y)=ows (post' y)):FnI P fn args pre' res post':=by
 unfold FnI at hF ⊢
 simp only [← h,← hq]
 exact hF
theorem wc {lits R:List (Nat×AObj)} {own':Own} (hs:jh lits=true) (hR:Big R) (h:∀ i,own' (i+1000)=ows (lits++R) (i+1000)):∀ p,p∈R→own' p.1=some (some p.2):=fun p hp=>by
 have h1:=hR.big p hp
 have e:p.1=(p.1 - 1000)+1000:=by omega
 rw [e,h,← e]
 exact x6i hs hR hp
theorem y4u {l B:List (Nat×AObj)} (h:l.all (fun p=>clO p.2)=true) (hB:Big B):∀ p,p∈l++B→clO p.2=true:=fun p hp=>(List.mem_append.1 hp).elim (fun h1=>List.all_eq_true.1 h p h1) (fun h1=>hB.cl p h1)
theorem y3g {l R B:List (Nat×AObj)} (hs:jh (l++R)=true) (hB:Big B):(((l++B)++R).map (·.1)).Nodup:=by
 have h1:=Zb hs hB
 rw [List.map_append,List.map_append] at h1 ⊢
 obtain ⟨h2,h3,h4⟩:=List.nodup_append.1 h1
 obtain ⟨h5,h6,h7⟩:=List.nodup_append.1 h2
 exact List.nodup_append.2 ⟨List.nodup_append.2 ⟨h5,h3,fun a ha b hb=>h4 a (List.mem_append_left _ ha) b hb⟩,h6,fun a ha b hb=>by
  rcases List.mem_append.1 ha with ha | ha
  ·exact h7 a ha b hb
  ·exact Ne.symm (h4 b (List.mem_append_right _ hb) a ha)⟩
theorem z2h {P:Program} {o:Oper} {f:Nat→Slot} {own:Own} {ι:Type} {fn:Nat} {args:List V} {l B:List (Nat×AObj)} {l' B':ι→List (Nat×AObj)} {res:ι→V} (lf:List (Nat×Slot)) (R:List (Nat×AObj)) (hF:FnI P fn args (l++B) res (fun y=>l' y++B' y)) (ha:EntI P o fn (frs lf) args) (hB:Big B) (hB':∀ y,Big (B' y))
  (hf:subF f lf) (ho:subO own (l++R)) (hoB:∀ p,p∈B→own p.1=some (some p.2)) (h:(lf.all (fun p=>okS (ows R) p.2) && R.all (fun p=>okO (ows R) p.2) && l.all (fun p=>clO p.2) && jh (l++R))=true) (hq:∀ y,((l' y).all (fun p=>clO p.2) && jh (l' y++R))=true) :
  OpI P o f own (fun y=>updS (frs lf) o.dst (.dat (res y))) (fun y=>ows ((l' y++R)++B' y)):=by
 simp only [Bool.and_eq_true] at h hq
 obtain ⟨⟨⟨h1,h2⟩,h3⟩,h4⟩:=h
 have hc:=y4p (f:=f) (own:=own) (R:=R) (lf:=lf) hF ha (y4u h3 hB) (fun y=>y4u (hq y).1 (hB' y)) (y3g h4 hB) (fun y=>y3g (hq y).2 (hB' y)) h1 (List.all_eq_true.1 h2) hf (ua.2 fun p hp=>by
  rcases List.mem_append.1 hp with hp | hp
  ·rcases List.mem_append.1 hp with hp | hp
   ·exact ua.1 ho p (List.mem_append_left _ hp)
   ·exact hoB p hp
  ·exact ua.1 ho p (List.mem_append_right _ hp))
 have e:(fun y=>ows ((l' y++B' y)++R))=fun y=>ows ((l' y++R)++B' y):=by
  funext y
  refine z53 (y3g (hq y).2 (hB' y)) (Zb (hq y).2 (hB' y)) fun p => ?_
  simp only [List.mem_append]
  constructor
  ·rintro ((h | h) | h)
   ·exact .inl (.inl h)
   ·exact .inr h
   ·exact .inl (.inr h)
  ·rintro ((h | h) | h)
   ·exact .inl (.inl h)
   ·exact .inr h
   ·exact .inl (.inr h)
 rw [e] at hc
 exact hc
theorem x03 {P:Program} {o:Oper} {f:Nat→Slot} {own:Own} {ι:Type} {fn:Nat} {args:List V} {l B:List (Nat×AObj)} {l':ι→List (Nat×AObj)} {res:ι→V} (lf:List (Nat×Slot)) (R:List (Nat×AObj)) (hF:FnI P fn args l res l') (ha:EntI P o fn (frs lf) args) (hB:Big B)
  (hf:subF f lf) (ho:subO own (l++R)) (hoB:∀ p,p∈B→own p.1=some (some p.2)) (h:(lf.all (fun p=>okS (ows R) p.2) && R.all (fun p=>okO (ows R) p.2) && l.all (fun p=>clO p.2) && jh (l++R))=true) (hq:∀ y,((l' y).all (fun p=>clO p.2) && jh (l' y++R))=true) :
  OpI P o f own (fun y=>updS (frs lf) o.dst (.dat (res y))) (fun y=>ows ((l' y++R)++B)):=by
 simp only [Bool.and_eq_true] at h hq
 obtain ⟨⟨⟨h1,h2⟩,h3⟩,h4⟩:=h
 have hRB:jh R=true:=by
  unfold jh at h4 ⊢
  rw [Bool.and_eq_true] at h4 ⊢
  refine ⟨List.all_eq_true.2 fun p hp=>List.all_eq_true.1 h4.1 p (List.mem_append_right _ hp),?_⟩
  have h5:=h4.2
  rw [List.map_append] at h5
  have:∀ (a b:List Nat),ndB (a++b)=true→ndB b=true:=by
   intro a b
   induction a with
   | nil=>intro h; exact h
   | cons x a ih =>
    intro h
    simp only [List.cons_append,ndB,Bool.and_eq_true] at h
    exact ih h.2
  exact this _ _ h5
 have hlv:∀ i,qp (ows R) i=true→qp (ows (R++B)) i=true:=fun i h=>by
  obtain ⟨o,ho⟩:=jy h
  unfold qp
  rw [(qg (Zb hRB hB)).2 (List.mem_append_left _ ((qg (z5u hRB)).1 ho))]
 have hS:∀ s,okS (ows R) s=true→okS (ows (R++B)) s=true:=fun s hs=>by
  cases s with
  | any=>rfl
  | dat _=>rfl
  | ptr id _=>exact hlv _ hs
  | row id _=>exact hlv _ hs
  | rptr id _ _ _ _=>exact hlv _ hs
  | mp id=>exact hlv _ hs
  | rsub id _ _ _=>exact hlv _ hs
  | nptr id=>exact hlv _ hs
  | dr id _=>exact hlv _ hs
  | comp tup cs =>
   refine List.all_eq_true.2 fun c hc => ?_
   have:=List.all_eq_true.1 hs c hc
   cases c with
   | dat _=>rfl
   | ptr id _=>exact hlv _ this
   | row id _=>exact hlv _ this
   | mp id=>exact hlv _ this
 have nd:∀ l:List (Nat×AObj),jh (l++R)=true→((l++(R++B)).map (·.1)).Nodup:=fun l hl=>by
  rw [← List.append_assoc]; exact Zb hl hB
 have hc:=y4p (f:=f) (own:=own) (R:=R++B) (lf:=lf) hF ha (List.all_eq_true.1 h3) (fun y=>List.all_eq_true.1 (hq y).1) (nd _ h4) (fun y=>nd _ (hq y).2) (List.all_eq_true.2 fun p hp=>hS _ (List.all_eq_true.1 h1 p hp)) (fun p hp=>by
  obtain ⟨i,q⟩:=p
  rcases List.mem_append.1 hp with hp | hp
  ·have h5:=List.all_eq_true.1 h2 _ hp
   cases q with
   | box an t cs=>exact List.all_eq_true.2 fun s hs=>hS s (List.all_eq_true.1 h5 s hs)
   | row _ _ _=>rfl
   | opq _ _=>rfl
   | rowA _ _ _ _=>rfl
  ·have h5:=hB.cl _ hp
   cases q with
   | box an t cs=>exact List.all_eq_true.2 fun s hs=>z9o (List.all_eq_true.1 h5 s hs)
   | row _ _ _=>rfl
   | opq _ _=>rfl
   | rowA _ _ _ _=>rfl) hf (ua.2 fun p hp=>by
  rcases List.mem_append.1 hp with hp | hp
  ·exact ua.1 ho p (List.mem_append_left _ hp)
  ·rcases List.mem_append.1 hp with hp | hp
   ·exact ua.1 ho p (List.mem_append_right _ hp)
   ·exact hoB p hp)
 have e:(fun y=>ows (l' y++(R++B)))=fun y=>ows ((l' y++R)++B):=by
  funext y; rw [List.append_assoc]
 rw [e] at hc
 exact hc
section
variable {P:Program} {X:Ctx} {Q:Exit→(Nat→Slot)→Own→Prop} {f:Nat→Slot} {own:Own} {c:Code} {σ γ ρ:Type}
theorem y4x {body:σ→Option (σ ⊕ ρ)} {r:ρ} (F:σ→γ→List (Nat×Slot)) (O:σ→γ→List (Nat×AObj)) (s0:σ) (y0:γ) (H:iter body s0=some r) (hf:subF f (F s0 y0)) (ho:subO own (O s0 y0)) (hok:∀ s y,okL (F s y) (O s y)=true)
  (round:∀ s y q,body s=some q→(∀ r',q = .inr r'→r'=r)→AWP P X c (fun e f own=>match e with | .normal=>∃ s' y',q = .inl s'∧subF f (F s' y')∧subO own (O s' y') | e=>Q e f own) (frs (F s y)) (ows (O s y))):AWP P X (.loop c) Q f own:=by
 obtain ⟨n,hn⟩:=Yv.1 H
 refine Wp (ι:=Nat×σ×γ) (fun i=>F i.2.1 i.2.2) (fun i=>O i.2.1 i.2.2) (fun i=>itN body i.1 i.2.1=some r) (fun i=>i.1) (n,s0,y0) hn hf ho (fun i=>hok i.2.1 i.2.2) ?_
 rintro ⟨n,s,y⟩ hI
 cases n with
 | zero=>cases hI
 | succ n =>
  obtain ⟨q,h1,h2⟩:=bnd hI
  refine Qc (round s y q h1 fun r' hq=>by subst hq; injection h2) ?_
  intro e f own hQ
  cases e with
  | normal =>
   obtain ⟨s',y',h3,h4,h5⟩:=hQ
   subst h3
   exact ⟨(n,s',y'),h2,Nat.lt_succ_self _,h4,h5⟩
  | exit id=>exact hQ
  | goto l=>exact hQ
  | ret=>exact hQ
  | panic ch=>exact hQ
  | outgrown=>exact hQ
end
theorem y6f:∀ (τ:List (Nat×Nat)),(τ.all fun p=>Nat.blt p.1 1000 && Nat.blt p.2 1000)=true→∀ i,1000≤i→swL τ i=i
 | [],_,_,_=>rfl
 | (a,b)::τ,h,i,hi=>by
  rw [List.all_cons,Bool.and_eq_true,Bool.and_eq_true] at h
  have h1:a < 1000:=by simpa [Nat.blt_eq] using h.1.1
  have h2:b < 1000:=by simpa [Nat.blt_eq] using h.1.2
  have e:sw1 a b i=i:=by
   unfold sw1
   rw [qu (by omega),qu (by omega)]; rfl
  show swL τ (sw1 a b i)=i
  rw [e]
  exact y6f τ h.2 i hi
theorem y4c {ι:Type} {P:Program} {fn:Nat} {fc:Func} {c:Code} {args:List V} {pre:List (Nat×AObj)} {l B:ι→List (Nat×AObj)} {res:ι→V} {N:Nat} {rs:List ResultVar} (hok:ki P fn=true) (hf:P.funcs[fn]?=some fc) (hb:fc.body=some c) (hnt:fc.ntmps=N) (hrs:fc.results.toList=rs) (hn:Nat.ble args.length N=true) (hB:∀ y,Big (B y))
  (h:∀ (X:Ctx),X.N=N→AWP P X c (fun e f own=>(match e with | .ret=>True | .normal=>True | _=>False)∧∃ (y:ι) (τ:List (Nat×Nat)) (lf:List (Nat×Slot)),subF f lf∧lf.all (fun p=>clS p.2)=true∧subO own (renL (swL τ) (l y))∧(∀ p,p∈B y→own p.1=some (some p.2))∧((l y).all (fun p=>clO p.2) && jh (l y) && τ.all fun p=>Nat.blt p.1 1000 && Nat.blt p.2 1000)=true∧ResG P (frs lf) (ows (renL (swL τ) (l y)++B y)) rs (.dat (res y))) (fun t=>(args.map Slot.dat).getD t .any) (ows pre)) :
  FnI P fn args pre res (fun y=>l y++B y):=by
 refine x0g (κ:={k:ι×List (Nat×Nat) // ((l k.1).all (fun p=>clO p.2) && jh (l k.1) && k.2.all fun p=>Nat.blt p.1 1000 && Nat.blt p.2 1000)=true}) (fun k=>k.1.1) (fun k=>swL k.1.2) (fun k=>y2d _) (fun k => ?_) (fun k => ?_) (y09 hok hf hb hnt hrs hn fun X hX g a w hr=>wpIn_mono (h X hX g a w hr) ?_)
 ·have h1:=k.2
  simp only [Bool.and_eq_true] at h1
  exact y4u h1.1.1 (hB _)
 ·have h1:=k.2
  simp only [Bool.and_eq_true] at h1
  exact Zb h1.1.2 (hB _)
 ·rintro e a' w' ⟨f',own',g',hr',he,y,τ,lf,h1,h2,h3,h4,h5,h6⟩
  have h5':=h5
  simp only [Bool.and_eq_true] at h5'
  have e1:renL (swL τ) (l y++B y)=renL (swL τ) (l y)++B y:=by
   unfold renL
   rw [List.map_append]
   congr 1
   refine (List.map_congr_left fun p hp => ?_).trans (List.map_id _)
   rw [y6f τ h5'.2 p.1 ((hB y).big p hp)]; rfl
  have hcl:∀ p,p∈renL (swL τ) (l y)++B y→clO p.2=true:=fun p hp=>by
   rcases List.mem_append.1 hp with hp | hp
   ·obtain ⟨q,hq,rfl⟩:=List.mem_map.1 hp
    exact List.all_eq_true.1 h5'.1.1 q hq
   ·exact (hB y).cl p hp
  refine ⟨f',own',g',hr',he,⟨(y,τ),h5⟩,lf,h1,?_,?_,?_⟩
  ·show subO own' (renL (swL τ) (l y++B y))
   rw [e1]
   exact vr.2 ⟨h3,h4⟩
  ·show okL lf (renL (swL τ) (l y++B y))=true
   rw [e1]
   exact y8e h2 hcl
  ·show ResG P (frs lf) (ows (renL (swL τ) (l y++B y))) rs (.dat (res y))
   rw [e1]; exact h6
end Go.Proofs.YtgdijjmdfcgifaaGreat
