/- The abstract machine: structs that hold own rows or maps: built, put into a box. -/
import Derived.Test.YtahcnngcpjkpgabGreatDoorDr
namespace Go.Proofs.YtahcnngcpjkpgabGreatDoor
open Go.RowKit
set_option linter.unusedVariables false
section
variable {P:Program} {f:Nat→Slot} {dst:Option Tmp} {ty:TypeId} {pos:String} {af:Array Edge} {gd:Option (Nat×Bool)}
variable {ops:Array Oper} {own:Own} {os:List Oper} {lg:List (List Nat×List Nat)} {K:(Nat→Slot)→Own→List (List Nat×List Nat)→Prop}
end
end Go.Proofs.YtahcnngcpjkpgabGreatDoor
