/- The law PathsNormal: its walk and the plain law. -/
import Derived.Test.YtbejggfkfaibeaaGreatDoorYgw4
import Derived.Test.YtbejggfkfaibeaaGreatDoorYgb
import Derived.Test.YtbejggfkfaibeaaGreatDoorLi
namespace Go.Proofs.YtbejggfkfaibeaaGreatDoor
theorem law_PathsNormal (L : List Int) (_ : ArgL L) : Fn Tryz.prog 4 [vlst (ints L)] (resOf [vbool true]) := k_gatelaw2_PathsNormal L true (pathsNormal_plain L)
end Go.Proofs.YtbejggfkfaibeaaGreatDoor
