/- The law UsesAdded: its walk and the plain law. -/
import Derived.Test.YthmmalklamiefaaGreatDoorZcw7
import Derived.Test.YthmmalklamiefaaGreatDoorZcb
import Derived.Test.YthmmalklamiefaaGreatDoorLi
namespace Go.Proofs.YthmmalklamiefaaGreatDoor
theorem law_UsesAdded (L:List Int) (_:ArgL L):Fn Tryz.prog 3 [vlst (ints L)] (z1x [z1p true]):=y8w L true (x1l L)
end Go.Proofs.YthmmalklamiefaaGreatDoor
