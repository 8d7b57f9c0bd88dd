/- make, as data: a new slice of zeros that is only read. slices.Reverse at strings. -/
import Derived.Test.YtndabcepiekebaaGreatDoorLibK
namespace Go.Proofs.YtndabcepiekebaaGreatDoor
open Go.RowKit
set_option linter.unusedVariables false
section
variable {P:Program} {f:Nat→Slot} {dst:Option Tmp} {ty:TypeId} {pos:String} {af:Array Edge} {gd:Option (Nat×Bool)}
end
end Go.Proofs.YtndabcepiekebaaGreatDoor
