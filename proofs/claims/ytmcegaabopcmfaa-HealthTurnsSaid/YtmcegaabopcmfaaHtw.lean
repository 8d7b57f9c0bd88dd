/- The law HealthTurns: its walk and the plain law. -/
import Derived.Test.YtmcegaabopcmfaaTw4
import Derived.Test.YtmcegaabopcmfaaPi
import Derived.Test.YtmcegaabopcmfaaLi
namespace Go.Proofs.Ytmcegaabopcmfaa
theorem law_HealthTurns (L : List Int) (_ : ArgL L) : Fn Try.prog 5 [vlst (ints L)] (resOf [vbool true]) := k_gatelaw2_HealthTurns L true (healthTurns_plain L)
end Go.Proofs.Ytmcegaabopcmfaa
