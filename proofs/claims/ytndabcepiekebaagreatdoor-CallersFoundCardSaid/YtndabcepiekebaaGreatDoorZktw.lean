/- The law CallersFound: its walk and the plain law. -/
import Derived.Test.YtndabcepiekebaaGreatDoorZkw9
import Derived.Test.YtndabcepiekebaaGreatDoorZkb
import Derived.Test.YtndabcepiekebaaGreatDoorLi
namespace Go.Proofs.YtndabcepiekebaaGreatDoor
theorem law_CallersFound (L:List Int) (_:ArgL L):Fn Tryz.prog 5 [vlst (ints L)] (zw [zj true]):=w5t L true (w8f L)
end Go.Proofs.YtndabcepiekebaaGreatDoor
