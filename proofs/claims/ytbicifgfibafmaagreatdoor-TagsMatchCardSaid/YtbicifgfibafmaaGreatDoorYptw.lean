/- The law TagsMatch: its walk and the plain law. -/
import Derived.Test.YtbicifgfibafmaaGreatDoorYpw5
import Derived.Test.YtbicifgfibafmaaGreatDoorYpb
import Derived.Test.YtbicifgfibafmaaGreatDoorLi
namespace Go.Proofs.YtbicifgfibafmaaGreatDoor
theorem law_TagsMatch (L : List Int) (_ : ArgL L) : Fn Tryz.prog 3 [vlst (ints L)] (resOf [vbool true]) := k_gatelaw2_TagsMatch L true (tagsMatch_plain L)
end Go.Proofs.YtbicifgfibafmaaGreatDoor
