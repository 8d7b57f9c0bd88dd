/- The law TokensAccepted: its walk and the plain law. -/
import Derived.Test.YtndabcepiekebaaGreatDoorZjw7
import Derived.Test.YtndabcepiekebaaGreatDoorZjb
import Derived.Test.YtndabcepiekebaaGreatDoorLi
namespace Go.Proofs.YtndabcepiekebaaGreatDoor
theorem law_TokensAccepted (L:List Int) (_:ArgL L):Fn Tryz.prog 3 [vlst (ints L)] (z1r [z05 true]):=y61 L true (y8r L)
end Go.Proofs.YtndabcepiekebaaGreatDoor
