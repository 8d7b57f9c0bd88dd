/- The law TopKeysOfPlans: its walk and the plain law. -/
import Derived.Test.YtbndlmnjeofkdacGreatDoorZtw10
import Derived.Test.YtbndlmnjeofkdacGreatDoorZtb
import Derived.Test.YtbndlmnjeofkdacGreatDoorLi
namespace Go.Proofs.YtbndlmnjeofkdacGreatDoor
theorem law_TopKeysOfPlans (L:List Int) (_:ArgL L):Fn Tryz.prog 3 [vlst (ints L)] (zr [zi true]):=v0t L true (w2k L)
end Go.Proofs.YtbndlmnjeofkdacGreatDoor
