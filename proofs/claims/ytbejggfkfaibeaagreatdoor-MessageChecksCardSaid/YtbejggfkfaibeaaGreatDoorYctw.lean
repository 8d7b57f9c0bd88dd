/- The law MessageChecks: its walk and the plain law. -/
import Derived.Test.YtbejggfkfaibeaaGreatDoorYcw4
import Derived.Test.YtbejggfkfaibeaaGreatDoorYcb
import Derived.Test.YtbejggfkfaibeaaGreatDoorLi
namespace Go.Proofs.YtbejggfkfaibeaaGreatDoor
theorem law_MessageChecks (L : List Int) (_ : ArgL L) : Fn Tryz.prog 3 [vlst (ints L)] (resOf [vbool true]) := k_gatelaw2_MessageChecks L true (messageChecks_plain L)
end Go.Proofs.YtbejggfkfaibeaaGreatDoor
