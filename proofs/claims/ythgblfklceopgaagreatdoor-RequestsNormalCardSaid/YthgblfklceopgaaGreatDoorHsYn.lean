/- Plain: hosts without a port, and hosts of any kind: the program's and the reference's normal form. -/
import Derived.Test.YthgblfklceopgaaGreatDoorMhYn
import Derived.Test.YthgblfklceopgaaGreatDoorNmYn
import Derived.Test.YthgblfklceopgaaGreatDoorNbYn
import Derived.Test.YthgblfklceopgaaGreatDoorSqYn
namespace Go.Proofs.YthgblfklceopgaaGreatDoor
set_option linter.unusedVariables false
set_option maxRecDepth 20000
def labC (c : UInt8) : Bool := decide (97 ≤ c.toNat ∧ c.toNat ≤ 122) || (decide (65 ≤ c.toNat ∧ c.toNat ≤ 90) || (decide (48 ≤ c.toNat ∧ c.toNat ≤ 57) || decide (c.toNat = 45)))
def labE (l : Bs) : Bool := decide (l ≠ []) && (decide ((l.length : Int) ≤ 63) && (decide (l.head? ≠ some 45) && decide (l.getLast? ≠ some 45)))
def labB (l : Bs) : Bool := l.all labC && labE l
def dbB (d : Bs) (r : Bs × Int) : Bool := decide (r.2 ≠ 0) || (decide (r.1 ≠ d) || Lib.contains r.1 [58])
end Go.Proofs.YthgblfklceopgaaGreatDoor
