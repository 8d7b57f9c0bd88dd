/- The law CookiesRead: its walk and the plain law. -/
import Derived.Test.YthodoodnkohdaaaGreatDoorYkw5
import Derived.Test.YthodoodnkohdaaaGreatDoorYkb
import Derived.Test.YthodoodnkohdaaaGreatDoorLi
namespace Go.Proofs.YthodoodnkohdaaaGreatDoor
theorem law_CookiesRead (L : List Int) (_ : ArgL L) : Fn Tryz.prog 3 [vlst (ints L)] (resOf [vbool true]) := k_gatelaw2_CookiesRead L true (cookiesRead_plain L)
end Go.Proofs.YthodoodnkohdaaaGreatDoor
