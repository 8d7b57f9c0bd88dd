/- The abstract machine: rows that are turned in place (the caller's row, held where it lies); maps that are given up, as data. -/
import Derived.Test.YtndabcepiekebaaGreatDoorMk
namespace Go.Proofs.YtndabcepiekebaaGreatDoor
open Go.RowKit
set_option linter.unusedVariables false
section
variable {P:Program} {f:Nat→Slot} {dst:Option Tmp} {ty:TypeId} {pos:String} {af:Array Edge} {gd:Option (Nat×Bool)}
end
section
variable {α:Type} {C:α→List V} {xs:List α} {P:Program} {f:Nat→Slot} {dst:Option Tmp} {ty:TypeId} {pos:String} {af:Array Edge} {gd:Option (Nat×Bool)}
end
def vmpI (P:Program) (k e:TypeId) (n:Nat) (m:List UInt8→Int):V:=
  ⟨fun w M v=>∃ b,v = .map (some b)∧¬ M b∧MapI P w k e b n m,true,fun {w w' M M' v} he ⟨b,h1,h2,h3⟩=>by
    have hlt:=h3.lt
    obtain ⟨D,⟨es,clock,hh,F,hs,hD⟩,h4⟩:=h3
    exact ⟨b,h1,fun hm=>h2 (he.sub b hlt hm),D,⟨es,clock,(he.block b hlt h2 ⟨_,hh,rfl⟩).trans hh,F,hs,hD⟩,h4⟩,
   fun _ _ _ v ⟨b,h1,_⟩=>by rw [h1]; rfl⟩
section
variable {P:Program} {f:Nat→Slot} {dst:Option Tmp} {ty:TypeId} {pos:String} {af:Array Edge} {gd:Option (Nat×Bool)}
end
section
variable {P:Program} {X:Ctx} {Q:Exit→(Nat→Slot)→Own→Prop} {c:Code} {f:Nat→Slot} {own:Own}
end
section
variable {P:Program} {f:Nat→Slot} {dst:Option Tmp} {ty:TypeId} {pos:String} {af:Array Edge} {gd:Option (Nat×Bool)}
end
end Go.Proofs.YtndabcepiekebaaGreatDoor
