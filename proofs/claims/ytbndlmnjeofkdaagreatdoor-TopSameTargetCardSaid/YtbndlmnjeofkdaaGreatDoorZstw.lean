/- The law TopSameTarget: its walk and the plain law. -/
import Derived.Test.YtbndlmnjeofkdaaGreatDoorZsw7
import Derived.Test.YtbndlmnjeofkdaaGreatDoorZsb
import Derived.Test.YtbndlmnjeofkdaaGreatDoorLi
namespace Go.Proofs.YtbndlmnjeofkdaaGreatDoor
theorem law_TopSameTarget (L:List Int) (_:ArgL L):Fn Tryz.prog 3 [vlst (ints L)] (zt [zh true]):=w04 L true (x48 L)
end Go.Proofs.YtbndlmnjeofkdaaGreatDoor
