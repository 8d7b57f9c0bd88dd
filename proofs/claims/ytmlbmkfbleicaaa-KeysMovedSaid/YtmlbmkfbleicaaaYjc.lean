/- The cells of values. Printed by a program. -/
import Derived.Test.YtmlbmkfbleicaaaYjm
import Derived.Test.YtmlbmkfbleicaaaTy
import Derived.Test.YtmlbmkfbleicaaaShelf
import Derived.Test.YtmlbmkfbleicaaaLibK
import Derived.Test.YtmlbmkfbleicaaaTu
import Derived.Test.YtmlbmkfbleicaaaArr
namespace Go.Proofs.Ytmlbmkfbleicaaa
open Go.RowKit
set_option linter.unusedVariables false
set_option maxRecDepth 20000
abbrev C_int (x : Int) : List V := [vint x]
abbrev C_gatemake_Stream (x : S_gatemake_Stream) : List V := [vlst (List.map C_int x.L), vint x.at_]
abbrev C_api_Instance (x : S_api_Instance) : List V := [vstr x.Key, vint x.Weight]
abbrev C_string (x : Bs) : List V := [vstr x]
abbrev C_api_Errno (x : Int) : List V := [vint x]
end Go.Proofs.Ytmlbmkfbleicaaa
