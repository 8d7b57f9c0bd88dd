/- Plain: numbers in decimal signs: the program's and the reference's reading agree. -/
import Derived.Test.YthgblfklceopgaaGreatDoorKeYn
import Derived.Test.YthgblfklceopgaaGreatDoorWoYn
namespace Go.Proofs.YthgblfklceopgaaGreatDoor
set_option linter.unusedVariables false
set_option maxRecDepth 20000
abbrev ddL : Bs := [48, 49, 50, 51, 52, 53, 54, 55, 56, 57]
def isD (c : UInt8) : Bool := ddL.contains c
def dv (c : UInt8) : Nat := c.toNat - 48
def dgD (n : Nat) : UInt8 := UInt8.ofNat (48 + n)
def nvB (l : Bs) : Nat := l.foldl (fun a c => a * 10 + dv c) 0
def canD (s : Bs) : Bool := s.all isD && (decide (s = [48]) || decide (s.head? ≠ some 48 ∧ s ≠ []))
def tlB (s : Bs) : Bs := Lib.trimPrefix s [45]
def valB (s : Bs) : Int := if s.head? = some 45 then -(nvB (tlB s) : Int) else (nvB s : Int)
def okN (m : Nat) (s : Bs) : Bool := (tlB s).all isD && (decide (tlB s ≠ [] ∧ (tlB s).length ≤ m) && decide ((tlB s).head? ≠ some 48 ∨ s = [48]))
end Go.Proofs.YthgblfklceopgaaGreatDoor
