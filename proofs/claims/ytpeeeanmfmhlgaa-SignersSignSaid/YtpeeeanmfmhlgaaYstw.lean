/- The law SignersSign: its walk and the plain law. -/
import Derived.Test.YtpeeeanmfmhlgaaYsw3
import Derived.Test.YtpeeeanmfmhlgaaYsb
import Derived.Test.YtpeeeanmfmhlgaaLi
namespace Go.Proofs.Ytpeeeanmfmhlgaa
theorem law_SignersSign (L : List Int) (_ : ArgL L) : Fn Try.prog 4 [vlst (ints L)] (resOf [vbool true]) := k_gatelaw2_SignersSign L true (signersSign_plain L)
end Go.Proofs.Ytpeeeanmfmhlgaa
