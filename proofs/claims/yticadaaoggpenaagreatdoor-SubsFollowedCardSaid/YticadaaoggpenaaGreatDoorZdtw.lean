/- The law SubsFollowed: its walk and the plain law. -/
import Derived.Test.YticadaaoggpenaaGreatDoorZdw6
import Derived.Test.YticadaaoggpenaaGreatDoorZdb
import Derived.Test.YticadaaoggpenaaGreatDoorLi
namespace Go.Proofs.YticadaaoggpenaaGreatDoor
theorem law_SubsFollowed (L:List Int) (_:ArgL L):Fn Tryz.prog 3 [vlst (ints L)] (z1x [z1e true]):=y5u L true (y7k L)
end Go.Proofs.YticadaaoggpenaaGreatDoor
