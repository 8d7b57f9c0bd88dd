/- The law PlansCompared: its walk and the plain law. -/
import Derived.Test.YtdajmjdjhgpaaaaDoorYrw4
import Derived.Test.YtdajmjdjhgpaaaaDoorYra
import Derived.Test.YtdajmjdjhgpaaaaDoorLi
namespace Go.Proofs.YtdajmjdjhgpaaaaDoor
theorem law_PlansCompared (L : List Int) (_ : ArgL L) : Fn Tryd.prog 4 [vlst (ints L)] (resOf [vbool true]) := k_gatelaw2_PlansCompared L true (plansCompared_plain L)
end Go.Proofs.YtdajmjdjhgpaaaaDoor
