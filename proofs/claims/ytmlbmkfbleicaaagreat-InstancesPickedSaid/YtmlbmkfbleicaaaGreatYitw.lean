/- The law InstancesPicked: its walk and the plain law. -/
import Derived.Test.YtmlbmkfbleicaaaGreatYiw3
import Derived.Test.YtmlbmkfbleicaaaGreatYib
import Derived.Test.YtmlbmkfbleicaaaGreatLi
namespace Go.Proofs.YtmlbmkfbleicaaaGreat
theorem law_InstancesPicked (L : List Int) (_ : ArgL L) : Fn Tryz.prog 3 [vlst (ints L)] (resOf [vbool true]) := k_gatelaw2_InstancesPicked L true (instancesPicked_plain L)
end Go.Proofs.YtmlbmkfbleicaaaGreat
