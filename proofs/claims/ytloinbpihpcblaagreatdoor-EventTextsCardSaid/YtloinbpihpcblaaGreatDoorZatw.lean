/- The law EventTexts: its walk and the plain law. -/
import Derived.Test.YtloinbpihpcblaaGreatDoorZaw6
import Derived.Test.YtloinbpihpcblaaGreatDoorZab
import Derived.Test.YtloinbpihpcblaaGreatDoorLi
namespace Go.Proofs.YtloinbpihpcblaaGreatDoor
theorem law_EventTexts (L : List Int) (_ : ArgL L) : Fn Tryz.prog 3 [vlst (ints L)] (resOf [vbool true]) := k_gatelaw2_EventTexts L true (eventTexts_plain L)
end Go.Proofs.YtloinbpihpcblaaGreatDoor
