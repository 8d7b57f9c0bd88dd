/- The law EventsMerge: its walk and the plain law. -/
import Derived.Test.YtaolapgdgdmapaaGreatDoorZbw6
import Derived.Test.YtaolapgdgdmapaaGreatDoorZbb
import Derived.Test.YtaolapgdgdmapaaGreatDoorLi
namespace Go.Proofs.YtaolapgdgdmapaaGreatDoor
theorem law_EventsMerge (L : List Int) (_ : ArgL L) : Fn Tryz.prog 3 [vlst (ints L)] (resOf [vbool true]) := k_gatelaw2_EventsMerge L true (eventsMerge_plain L)
end Go.Proofs.YtaolapgdgdmapaaGreatDoor
