/- The law ScopesCover: its walk and the plain law. -/
import Derived.Test.YtpeeeanmfmhlgaaGreatDoorVw2
import Derived.Test.YtpeeeanmfmhlgaaGreatDoorVb
import Derived.Test.YtpeeeanmfmhlgaaGreatDoorLi
namespace Go.Proofs.YtpeeeanmfmhlgaaGreatDoor
theorem law_ScopesCover (L : List Int) (_ : ArgL L) : Fn Tryz.prog 3 [vlst (ints L)] (resOf [vbool true]) := k_gatelaw2_ScopesCover L true (scopesCover_plain L)
end Go.Proofs.YtpeeeanmfmhlgaaGreatDoor
