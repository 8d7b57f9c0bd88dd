/- The law OutliersOut: its walk and the plain law. -/
import Derived.Test.YtecnjgefohnkpaaYuw3
import Derived.Test.YtecnjgefohnkpaaYub
import Derived.Test.YtecnjgefohnkpaaLi
namespace Go.Proofs.Ytecnjgefohnkpaa
theorem law_OutliersOut (L : List Int) (_ : ArgL L) : Fn Try.prog 3 [vlst (ints L)] (resOf [vbool true]) := k_gatelaw2_OutliersOut L true (outliersOut_plain L)
end Go.Proofs.Ytecnjgefohnkpaa
