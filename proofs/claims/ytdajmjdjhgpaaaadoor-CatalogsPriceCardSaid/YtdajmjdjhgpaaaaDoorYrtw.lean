/- The law CatalogsPrice: its walk and the plain law. -/
import Derived.Test.YtdajmjdjhgpaaaaDoorYrw4
import Derived.Test.YtdajmjdjhgpaaaaDoorYrb
import Derived.Test.YtdajmjdjhgpaaaaDoorLi
namespace Go.Proofs.YtdajmjdjhgpaaaaDoor
theorem law_CatalogsPrice (L : List Int) (_ : ArgL L) : Fn Tryd.prog 3 [vlst (ints L)] (resOf [vbool true]) := k_gatelaw2_CatalogsPrice L true (catalogsPrice_plain L)
end Go.Proofs.YtdajmjdjhgpaaaaDoor
