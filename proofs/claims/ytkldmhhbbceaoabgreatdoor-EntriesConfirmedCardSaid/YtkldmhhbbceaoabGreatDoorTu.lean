/- The abstract machine: rows that are turned in place (the caller's row, held where it lies); maps that are given up, as data. -/
import Derived.Test.YtkldmhhbbceaoabGreatDoorMk
namespace Go.Proofs.YtkldmhhbbceaoabGreatDoor
open Go.RowKit
set_option linter.unusedVariables false
section
variable {P:Program} {f:Nat→Slot} {dst:Option Tmp} {ty:TypeId} {pos:String} {af:Array Edge} {gd:Option (Nat×Bool)}
end
section
variable {α:Type} {C:α→List V} {xs:List α} {P:Program} {f:Nat→Slot} {dst:Option Tmp} {ty:TypeId} {pos:String} {af:Array Edge} {gd:Option (Nat×Bool)}
end
section
variable {P:Program} {f:Nat→Slot} {dst:Option Tmp} {ty:TypeId} {pos:String} {af:Array Edge} {gd:Option (Nat×Bool)}
end
section
variable {P:Program} {X:Ctx} {Q:Exit→(Nat→Slot)→Own→Prop} {c:Code} {f:Nat→Slot} {own:Own}
end
section
variable {P:Program} {f:Nat→Slot} {dst:Option Tmp} {ty:TypeId} {pos:String} {af:Array Edge} {gd:Option (Nat×Bool)}
theorem y2u {x:Operand} {cs:List Cmp} {i:Nat} {c:Cmp} (hx:evS f x = .comp true cs) (hu:cs[i]?=some c):Stp P ⟨dst,.extract x i,ty,pos,af,gd⟩ f ⟨false,[],[],c.s⟩:=by
 refine wa fun X own g a w h => ?_
 have h2:=h x (by simp [Op.operands])
 rw [hx] at h2
 obtain ⟨l,h3,h4,h5⟩:=h2
 obtain ⟨v,q1,q2,_⟩:=h5 i c hu
 exact ⟨v,by simp [execOp,h3,Instr.extract,q1],Cmp.reps q2⟩
end
end Go.Proofs.YtkldmhhbbceaoabGreatDoor
