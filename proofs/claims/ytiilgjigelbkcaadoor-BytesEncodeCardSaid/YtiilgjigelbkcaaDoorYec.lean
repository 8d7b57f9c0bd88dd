/- The cells of values. Printed by a program. -/
import Derived.Test.YtiilgjigelbkcaaDoorYem
import Derived.Test.YtiilgjigelbkcaaDoorTy
import Derived.Test.YtiilgjigelbkcaaDoorShelf
import Derived.Test.YtiilgjigelbkcaaDoorLibK
import Derived.Test.YtiilgjigelbkcaaDoorArr
namespace Go.Proofs.YtiilgjigelbkcaaDoor
open Go.RowKit
set_option linter.unusedVariables false
set_option maxRecDepth 20000
abbrev C_int (x : Int) : List V := [vint x]
abbrev C_gatemake_Stream (x : S_gatemake_Stream) : List V := [vlst (List.map C_int x.L), vint x.at_]
abbrev C_uint8 (x : Int) : List V := [vval (.int .u8 x)]
abbrev C_string (x : Bs) : List V := [vstr x]
end Go.Proofs.YtiilgjigelbkcaaDoor
