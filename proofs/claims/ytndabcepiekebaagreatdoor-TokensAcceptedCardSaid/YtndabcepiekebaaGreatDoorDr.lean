/- The abstract machine: data that hold addresses within an own object (slots .dr); pointers as data. -/
import Derived.Test.YtndabcepiekebaaGreatDoorMc
namespace Go.Proofs.YtndabcepiekebaaGreatDoor
open Go.RowKit
set_option linter.unusedVariables false
abbrev CP (qb:Nat) (x:Int):List V:=[vval (.pointer (some ⟨qb,x.toNat,none⟩))]
def vw (id b:Nat):Slot→Slot
 | .ptr i off=>cond (Nat.beq i id) (.dat (vval (.pointer (some ⟨b,off,none⟩)))) (.ptr i off)
 | .dr i u=>cond (Nat.beq i id) (.dat (u b)) (.dr i u)
 | s=>s
theorem Rel.view {X:Ctx} {f1 f2:Nat→Slot} {own1 own2:Own} {g:Gh} {a:Act} {w:World} {id:Nat} {an an2:Option Nat} {t:TypeId} {cs:List Slot} (h:Rel X f1 own1 g a w)
  (h1:own1 id=some (some (.box an t cs))) (h2:own2=upl own1 [(id,some (some (.box an2 t cs)))]) (ha:∀ q,an2=some q→∀ b,g.bl id=some b→q=b)
  (hf:∀ k v,RepS g w (Mof X g own1) (f1 k) v→RepS g w (Mof X g own1) (f2 k) v):Rel X f2 own2 g a w:=by
 have key:∀ i o2,own2 i=some (some o2)→∃ o1,own1 i=some (some o1)∧obk g i o1=obk g i o2∧(o1=o2∨(i=id∧o2 = .box an2 t cs∧o1 = .box an t cs)):=fun i o2 ho=>by
  rw [h2] at ho
  by_cases hi:i=id
  ·subst hi
   rw [y1y] at ho
   cases ho
   exact ⟨_,h1,rfl,.inr ⟨rfl,rfl,rfl⟩⟩
  ·rw [y57 hi] at ho
   exact ⟨o2,ho,rfl,.inl rfl⟩
 have key':∀ i o1,own1 i=some (some o1)→∃ o2,own2 i=some (some o2)∧obk g i o2=obk g i o1:=fun i o1 ho=>by
  rw [h2]
  by_cases hi:i=id
  ·subst hi
   rw [h1] at ho; cases ho
   exact ⟨_,y1y,rfl⟩
  ·exact ⟨o1,by rw [y57 hi]; exact ho,rfl⟩
 have hM:Mof X g own2=Mof X g own1:=by
  funext b
  refine propext ⟨fun hb => ?_,fun hb => ?_⟩
  ·rcases hb with hb | ⟨i,o,e1,e2⟩
   ·exact .inl hb
   ·obtain ⟨o1,e3,e4,_⟩:=key i o e1
    exact .inr ⟨i,o1,e3,e4.trans e2⟩
  ·rcases hb with hb | ⟨i,o,e1,e2⟩
   ·exact .inl hb
   ·obtain ⟨o1,e3,e4⟩:=key' i o e1
    exact .inr ⟨i,o1,e3,e4.trans e2⟩
 refine ⟨h.kp,h.m0,h.n,h.df,fun k => ?_,fun i o ho => ?_,fun i i' o o' b e1 e2 e3 e4 => ?_,fun i o b e1 e2 => ?_,fun i hi => ?_,fun i e size es e1 k hk => ?_⟩
 ·rw [hM]; exact hf k _ (h.fr k)
 ·rw [hM]
  obtain ⟨o1,e1,_,e3⟩:=key i o ho
  rcases e3 with rfl | ⟨rfl,rfl,rfl⟩
  ·exact h.ob i _ e1
  ·obtain ⟨b,l,q1,q2,q3⟩:=h.ob i _ e1
   exact ⟨b,l,q1,fun q hq=>ha q hq b q1,q3⟩
 ·obtain ⟨o1,p1,p2,_⟩:=key i o e1
  obtain ⟨o2,p3,p4,_⟩:=key i' o' e2
  exact h.sep i i' o1 o2 b p1 p3 (p2.trans e3) (p4.trans e4)
 ·obtain ⟨o1,p1,p2,_⟩:=key i o e1
  exact h.mine i o1 b p1 (p2.trans e2)
 ·refine h.fresh i ?_
  rw [h2] at hi
  by_cases hii:i=id
  ·subst hii; rw [y1y] at hi; cases hi
  ·rw [y57 hii] at hi; exact hi
 ·obtain ⟨o1,p1,_,p3⟩:=key i _ e1
  rcases p3 with rfl | ⟨_,p4,_⟩
  ·exact h.top i e size es p1 k hk
  ·cases p4
section
variable {P:Program} {f:Nat→Slot} {dst:Option Tmp} {ty:TypeId} {pos:String} {af:Array Edge} {gd:Option (Nat×Bool)}
theorem w4l {x:Operand} {b k:Nat} (hx:evS f x = .dat (vval (.pointer (some ⟨b,k,none⟩)))):Stp P ⟨dst,.nilCheck x,ty,pos,af,gd⟩ f ⟨false,[],[],.dat (vval (.pointer (some ⟨b,k,none⟩)))⟩:=
 z4n fun X own g a w h=>by
  have h1:=h x (by simp [Op.operands])
  rw [hx] at h1
  have h2:a.eval x = .pointer (some ⟨b,k,none⟩):=h1
  exact ⟨_,by simp [execOp,h2],rfl⟩
theorem x9s {t:TypeId} {b0:Bool} {p x:Operand} {id off:Nat} {an:Option Nat} {bt:TypeId} {cs cs':List Slot} {v:V} (ht:tyS P t=some (b0,1)) (hp:evS f p = .ptr id off) (hx:evS f x = .dat v) (h1:v.one=true) (hc:off < cs.length∧cs.set off (.dat v)=cs') :
  Stp P ⟨dst,.store t p x,ty,pos,af,gd⟩ f ⟨false,[(id,some (some (.box an bt cs)))],[(id,some (some (.box an bt cs')))],.any⟩:=by
 have:=z15 (an:=an) (bt:=bt) (dst:=dst) (ty:=ty) (pos:=pos) (af:=af) (gd:=gd) ht hp hx h1 (show Nat.blt off cs.length=true by rw [Nat.blt_eq]; exact hc.1)
 rw [hc.2] at this
 exact this
end
section
variable {P:Program} {f:Nat→Slot} {dst:Option Tmp} {ty:TypeId} {pos:String} {af:Array Edge} {ops:Array Oper} {os:List Oper} {own:Own} {lg:List (List Nat×List Nat)} {K:(Nat→Slot)→Own→List (List Nat×List Nat)→Prop}
end
section
variable {P:Program} {X:Ctx} {Q:Exit→(Nat→Slot)→Own→Prop} {c:Code} {f:Nat→Slot} {own:Own}
end
end Go.Proofs.YtndabcepiekebaaGreatDoor
