/- The abstract machine: pointers to own boxes as data within a call (slots and cells seen one way or the other); loops of a known number of rounds. -/
import Derived.Test.YtnnfdgngnoamoaaGreatDoorOw
import Derived.LaidEqlPtr
namespace Go.Proofs.YtnnfdgngnoamoaaGreatDoor
open Go.RowKit
set_option linter.unusedVariables false
abbrev PB (b:Nat):Value := .pointer (some ⟨b,0,none⟩)
section
variable {P:Program} {X:Ctx} {Q:Exit→(Nat→Slot)→Own→Prop} {f:Nat→Slot} {own:Own} {c:Code}
theorem y9c (t id b:Nat) {bt:TypeId} {cs:List Slot} (s':Slot) (ho:own id=some (some (.box (some b) bt cs))) (hs:∀ (g:Gh) (w:World) (M:Blks) (v:Value),g.bl id=some b→RepS g w M (f t) v→RepS g w M s' v)
  (h:AWP P X c Q (updS f (some t) s') own):AWP P X c Q f own:=by
 intro g a w hr
 obtain ⟨b',l,q1,q0,_⟩:=hr.ob id _ ho
 have hb:b=b':=q0 b rfl
 subst hb
 refine h g a w ⟨hr.kp,hr.m0,hr.n,hr.df,fun k => ?_,hr.ob,hr.sep,hr.mine,hr.fresh,hr.top⟩
 by_cases hk:k=t
 ·subst hk
  have e1:Nat.beq k k=true:=by simp
  simp only [updS,e1,cond_true]
  exact hs g w _ _ q1 (hr.fr k)
 ·have e1:Nat.beq k t=false:=qu hk
  simp only [updS,e1,cond_false]
  exact hr.fr k
theorem y9g (b:Bool) (ht:b=true→AWP P X c Q f own) (hf:b=false→AWP P X c Q f own):AWP P X c Q f own:=by
 cases b with
 | true=>exact ht rfl
 | false=>exact hf rfl
end
theorem y6d {g:Gh} {w:World} {M:Blks} {v:Value} {id b:Nat} (hb:g.bl id=some b) (h:RepS g w M (.dat (vval (PB b))) v):RepS g w M (.ptr id 0) v:=⟨b,hb,h⟩
section
variable {P:Program} {f:Nat→Slot} {dst:Option Tmp} {ty:TypeId} {pos:String} {af:Array Edge} {gd:Option (Nat×Bool)}
theorem x70 {t e t':TypeId} {x:Operand} (ht:P.underlying t=some (.pointer e)) (hx:evS f x = .dat (vval (.pointer none))):Stp P ⟨dst,.binOp .eql t x (.const (.pointer none)) t',ty,pos,af,gd⟩ f ⟨false,[],[],.dat (zr true)⟩:=
 vp fun X own g a w h=>by
  have h1:=vt (h x (by simp [Op.operands])) hx
  have hp:P.underlying t=some (.pointer (P.pointee t)):=by simp [Program.pointee,ht]
  refine ⟨.bool true,?_,rfl⟩
  have hc:a.eval (.const (.pointer none)) = .pointer none:=rfl
  simp only [execOp,h1,hc,Sem.run_bind]
  simp [eqGuard,run_eql_pointer_nil w t _ hp]
end
end Go.Proofs.YtnnfdgngnoamoaaGreatDoor
