/- The law ClaimsDelegated: its walk and the plain law. -/
import Derived.Test.YtpeeeanmfmhlgaaGreatDoorYdw3
import Derived.Test.YtpeeeanmfmhlgaaGreatDoorYdb
import Derived.Test.YtpeeeanmfmhlgaaGreatDoorLi
namespace Go.Proofs.YtpeeeanmfmhlgaaGreatDoor
theorem law_ClaimsDelegated (L : List Int) (_ : ArgL L) : Fn Tryz.prog 4 [vlst (ints L)] (resOf [vbool true]) := k_gatelaw2_ClaimsDelegated L true (claimsDelegated_plain L)
end Go.Proofs.YtpeeeanmfmhlgaaGreatDoor
