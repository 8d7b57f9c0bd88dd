/- The law ChunksRead: its walk and the plain law. -/
import Derived.Test.YtbejggfkfaibeaaGreatDoorYhw3
import Derived.Test.YtbejggfkfaibeaaGreatDoorYhb
import Derived.Test.YtbejggfkfaibeaaGreatDoorLi
namespace Go.Proofs.YtbejggfkfaibeaaGreatDoor
theorem law_ChunksRead (L : List Int) (_ : ArgL L) : Fn Tryz.prog 7 [vlst (ints L)] (resOf [vbool true]) := k_gatelaw2_ChunksRead L true (chunksRead_plain L)
end Go.Proofs.YtbejggfkfaibeaaGreatDoor
