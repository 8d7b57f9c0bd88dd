/- The abstract machine: a row whose element holds the header of an own row, known by its value; loops with a ghost. -/
import Derived.Test.YtahcnngcpjkpgabGreatDoorAg
namespace Go.Proofs.YtahcnngcpjkpgabGreatDoor
open Go.RowKit
set_option linter.unusedVariables false
section
variable {P:Program} {X:Ctx} {Q:Exit→(Nat→Slot)→Own→Prop} {f:Nat→Slot} {own:Own} {c:Code}
theorem Rel.same {own':Own} {g g':Gh} {a:Act} {w:World} (τ:Nat→Nat) (hr:Rel X f own g a w) (hle:g.le g')
  (hbk:∀ i o b,own' i=some (some o)→obk g' i o=some b→∃ o0,own (τ i)=some (some o0)∧obk g (τ i) o0=some b)
  (hτ:∀ i j o o',own' i=some (some o)→own' j=some (some o')→τ i=τ j→i=j)
  (hob:∀ i o,own' i=some (some o)→Ext (Mof X g own) (Mof X g' own') w w→RepO g' w (Mof X g' own') i o)
  (hfr:∀ i,own' i=none→g'.bl i=none∧∀ n,g'.sv i n=none) (htop:∀ id e size es,own' id=some (some (.row e size es))→∀ k,es.length < k→g'.sv id k=none):Rel X f own' g' a w:=by
 have hM:∀ b,Mof X g' own' b→Mof X g own b:=by
  rintro b (h | ⟨i,o,h1,h2⟩)
  ·exact .inl h
  ·obtain ⟨o0,h3,h4⟩:=hbk i o b h1 h2
   exact .inr ⟨_,o0,h3,h4⟩
 have he:Ext (Mof X g own) (Mof X g' own') w w:=⟨Nat.le_refl _,fun _ _ _ _=>rfl,fun b _ hb=>hM b hb⟩
 refine ⟨hr.kp,hr.m0,hr.n,hr.df,fun t=>(hr.fr t).keep he hle,fun i o h=>hob i o h he,fun i j o o' b h1 h2 h3 h4 => ?_,fun i o b h1 h2 => ?_,hfr,htop⟩
 ·obtain ⟨p,p1,p2⟩:=hbk i o b h1 h3
  obtain ⟨q,q1,q2⟩:=hbk j o' b h2 h4
  exact hτ i j o o' h1 h2 (hr.sep _ _ _ _ b p1 q1 p2 q2)
 ·obtain ⟨p,p1,p2⟩:=hbk i o b h1 h2
  exact hr.mine _ _ b p1 p2

end
section
variable {P:Program} {X:Ctx} {Q:Exit→(Nat→Slot)→Own→Prop} {f:Nat→Slot} {own:Own} {c:Code} {σ γ ρ:Type}
end
section
variable {P:Program} {X:Ctx} {Q:Exit→(Nat→Slot)→Own→Prop} {f:Nat→Slot} {own:Own} {c:Code}
theorem Rel.re1 {g:Gh} {a:Act} {w:World} (hr:Rel X f own g a w) (id:Nat) {o o':AObj} (ho:own id=some (some o)) (hb:obk g id o'=obk g id o) (hR:∀ M',Ext (Mof X g own) M' w w→RepO g w M' id o')
  (ht:∀ e size es,o' = .row e size es→∀ k,es.length < k→g.sv id k=none):Rel X f (upl own [(id,some (some o'))]) g a w:=by
 have key:∀ k p,upl own [(id,some (some o'))] k=some (some p)→(k=id∧p=o')∨(k≠id∧own k=some (some p)):=fun k p hk=>by
  by_cases h:k=id
  ·subst h; rw [jr] at hk; cases hk; exact .inl ⟨rfl,rfl⟩
  ·rw [jf h] at hk; exact .inr ⟨h,hk⟩
 refine Rel.same (fun k=>k) hr (Gh.le_refl g) (fun k p b hk hb' => ?_) (fun k m o o' _ _ h=>h) (fun k p hk he => ?_) (fun k hk => ?_) (fun k e' s' es' hk m hm => ?_)
 ·rcases key k p hk with ⟨rfl,rfl⟩ | ⟨_,h5⟩
  ·exact ⟨o,ho,by rw [← hb]; exact hb'⟩
  ·exact ⟨p,h5,hb'⟩
 ·rcases key k p hk with ⟨rfl,rfl⟩ | ⟨_,h5⟩
  ·exact hR _ he
  ·exact (hr.ob k p h5).keep he (Gh.le_refl g) (fun _ _=>rfl)
 ·by_cases h:k=id
  ·subst h; rw [jr] at hk; cases hk
  ·rw [jf h] at hk; exact hr.fresh k hk
 ·rcases key k _ hk with ⟨rfl,h6⟩ | ⟨_,h5⟩
  ·exact ht _ _ _ h6.symm m hm
  ·exact hr.top k e' s' es' h5 m hm
theorem x81 (id:Nat) {an:Option Nat} {t:TypeId} {cs:List Slot} (ho:own id=some (some (.box an t cs))) (h:∀ b,AWP P X c Q f (upl own [(id,some (some (.box (some b) t cs)))])):AWP P X c Q f own:=by
 intro g a w hr
 obtain ⟨b,l,h1,h2,h3,h4,h5⟩:=hr.ob id _ ho
 refine h b g a w (hr.re1 id ho rfl (fun M' he=>⟨b,l,h1,fun q hq=>by cases hq; rfl,h3,h4,fun j s hs => ?_⟩) (fun e size es h=>by cases h))
 obtain ⟨x,x1,x2,x3⟩:=h5 j s hs
 exact ⟨x,x1,x2.keep he (Gh.le_refl g),x3⟩
end
section
variable {P:Program} {X:Ctx} {Q:Exit→(Nat→Slot)→Own→Prop} {f:Nat→Slot} {own:Own} {ops:Array Oper} {os:List Oper} {dst:Option Tmp} {op:Op} {ty:TypeId} {pos:String} {af:Array Edge}
end
section
variable {P:Program} {f:Nat→Slot} {dst:Option Tmp} {ty:TypeId} {pos:String} {af:Array Edge} {gd:Option (Nat×Bool)}
end
section
variable {P:Program} {f:Nat→Slot} {dst:Option Tmp} {ty:TypeId} {pos:String} {af:Array Edge} {gd:Option (Nat×Bool)}
end
section
variable {P:Program} {X:Ctx} {Q:Exit→(Nat→Slot)→Own→Prop} {f:Nat→Slot} {own:Own} {c:Code} {α σ γ ρ:Type}
end
section
variable {P:Program} {f:Nat→Slot} {dst:Option Tmp} {ty:TypeId} {pos:String} {af:Array Edge} {gd:Option (Nat×Bool)}
end
section
variable {P:Program} {f:Nat→Slot} {dst:Option Tmp} {op:Op} {ty:TypeId} {pos:String} {af:Array Edge} {ops:Array Oper} {os:List Oper} {own:Own} {lg:List (List Nat×List Nat)} {K:(Nat→Slot)→Own→List (List Nat×List Nat)→Prop}
end
end Go.Proofs.YtahcnngcpjkpgabGreatDoor
