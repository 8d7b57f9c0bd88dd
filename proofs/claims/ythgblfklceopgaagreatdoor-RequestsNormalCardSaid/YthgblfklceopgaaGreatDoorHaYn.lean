/- Plain: streams of headers whose names are of ASCII. -/
import Derived.Test.YthgblfklceopgaaGreatDoorCkYn
namespace Go.Proofs.YthgblfklceopgaaGreatDoor
set_option linter.unusedVariables false
set_option maxRecDepth 20000
def aQ (n : Nat) (s : Bs) : Bool := ascB s && decide (s.length ≤ n)
def hdA (h : zaf) : Prop := hdP h ∧ nmOK h
end Go.Proofs.YthgblfklceopgaaGreatDoor
