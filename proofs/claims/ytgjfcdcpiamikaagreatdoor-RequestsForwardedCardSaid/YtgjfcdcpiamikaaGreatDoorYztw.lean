/- The law RequestsForwarded: its walk and the plain law. -/
import Derived.Test.YtgjfcdcpiamikaaGreatDoorYzw6
import Derived.Test.YtgjfcdcpiamikaaGreatDoorYzb
import Derived.Test.YtgjfcdcpiamikaaGreatDoorLi
namespace Go.Proofs.YtgjfcdcpiamikaaGreatDoor
theorem law_RequestsForwarded (L : List Int) (_ : ArgL L) : Fn Tryz.prog 3 [vlst (ints L)] (resOf [vbool true]) := k_gatelaw2_RequestsForwarded L true (requestsForwarded_plain L)
end Go.Proofs.YtgjfcdcpiamikaaGreatDoor
