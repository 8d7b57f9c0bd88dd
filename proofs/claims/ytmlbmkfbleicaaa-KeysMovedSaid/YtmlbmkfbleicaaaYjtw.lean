/- The law KeysMoved: its walk and the plain law. -/
import Derived.Test.YtmlbmkfbleicaaaYjw2
import Derived.Test.YtmlbmkfbleicaaaYjb
import Derived.Test.YtmlbmkfbleicaaaLi
namespace Go.Proofs.Ytmlbmkfbleicaaa
theorem law_KeysMoved (L : List Int) (_ : ArgL L) : Fn Try.prog 3 [vlst (ints L)] (resOf [vbool true]) := k_gatelaw2_KeysMoved L true (keysMoved_plain L)
end Go.Proofs.Ytmlbmkfbleicaaa
