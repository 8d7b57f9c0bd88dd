import Derived.Test.YtbpedjpoikmbjaaGreatDoorXkl2
import Derived.Test.YtbpedjpoikmbjaaGreatDoorXkb
import Derived.Test.YtbpedjpoikmbjaaGreatDoorLi
namespace Go.Proofs.YtbpedjpoikmbjaaGreatDoor
theorem law_AccountsKept (L:List Int) (_:ArgL L):Fn Tryz.prog 3 [vlst (ints L)] (yb [zt true]):=w6i L true (w9y L)
end Go.Proofs.YtbpedjpoikmbjaaGreatDoor
