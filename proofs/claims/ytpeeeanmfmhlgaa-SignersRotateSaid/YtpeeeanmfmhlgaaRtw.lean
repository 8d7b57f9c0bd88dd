/- The law SignersRotate: its walk and the plain law. -/
import Derived.Test.YtpeeeanmfmhlgaaRw2
import Derived.Test.YtpeeeanmfmhlgaaRa
import Derived.Test.YtpeeeanmfmhlgaaLi
namespace Go.Proofs.Ytpeeeanmfmhlgaa
theorem law_SignersRotate (L : List Int) (_ : ArgL L) : Fn Try.prog 3 [vlst (ints L)] (resOf [vbool true]) := k_gatelaw2_SignersRotate L true (signersRotate_plain L)
end Go.Proofs.Ytpeeeanmfmhlgaa
