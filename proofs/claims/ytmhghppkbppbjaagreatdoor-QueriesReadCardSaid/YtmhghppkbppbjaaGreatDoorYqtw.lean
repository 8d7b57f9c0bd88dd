/- The law QueriesRead: its walk and the plain law. -/
import Derived.Test.YtmhghppkbppbjaaGreatDoorYqw3
import Derived.Test.YtmhghppkbppbjaaGreatDoorYqe
import Derived.Test.YtmhghppkbppbjaaGreatDoorLi
namespace Go.Proofs.YtmhghppkbppbjaaGreatDoor
theorem law_QueriesRead (L : List Int) (_ : ArgL L) : Fn Tryz.prog 3 [vlst (ints L)] (resOf [vbool true]) := k_gatelaw2_QueriesRead L true (queriesRead_plain L)
end Go.Proofs.YtmhghppkbppbjaaGreatDoor
