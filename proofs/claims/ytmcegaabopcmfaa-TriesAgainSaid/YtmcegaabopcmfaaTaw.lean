/- The law TriesAgain: its walk and the plain law. -/
import Derived.Test.YtmcegaabopcmfaaTw4
import Derived.Test.YtmcegaabopcmfaaQb
import Derived.Test.YtmcegaabopcmfaaLi
namespace Go.Proofs.Ytmcegaabopcmfaa
theorem law_TriesAgain (L : List Int) (_ : ArgL L) : Fn Try.prog 7 [vlst (ints L)] (resOf [vbool true]) := k_gatelaw2_TriesAgain L true (triesAgain_plain L)
end Go.Proofs.Ytmcegaabopcmfaa
