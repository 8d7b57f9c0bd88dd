/- The law RequestsNormal: its walk and the plain law. -/
import Derived.Test.YthgblfklceopgaaGreatDoorYnw7
import Derived.Test.YthgblfklceopgaaGreatDoorYnb
import Derived.Test.YthgblfklceopgaaGreatDoorLi
namespace Go.Proofs.YthgblfklceopgaaGreatDoor
theorem law_RequestsNormal (L : List Int) (_ : ArgL L) : Fn Tryz.prog 3 [vlst (ints L)] (zbe [za2 true]) := zo0 L true (zq9 L)
end Go.Proofs.YthgblfklceopgaaGreatDoor
