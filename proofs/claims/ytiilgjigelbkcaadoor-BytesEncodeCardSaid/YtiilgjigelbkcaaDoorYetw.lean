/- The law BytesEncode: its walk and the plain law. -/
import Derived.Test.YtiilgjigelbkcaaDoorYew2
import Derived.Test.YtiilgjigelbkcaaDoorYel
import Derived.Test.YtiilgjigelbkcaaDoorLi
namespace Go.Proofs.YtiilgjigelbkcaaDoor
theorem law_BytesEncode (L : List Int) (_ : ArgL L) : Fn Tryd.prog 3 [vlst (ints L)] (resOf [vbool true]) := k_gatelaw2_BytesEncode L true (bytesEncode_plain L)
end Go.Proofs.YtiilgjigelbkcaaDoor
