/- The cells of values. Printed by a program. -/
import Derived.Test.YtmlbmkfbleicaaaGreatYim
import Derived.Test.YtmlbmkfbleicaaaGreatTy
import Derived.Test.YtmlbmkfbleicaaaGreatShelf
import Derived.Test.YtmlbmkfbleicaaaGreatLibK
import Derived.Test.YtmlbmkfbleicaaaGreatTu
import Derived.Test.YtmlbmkfbleicaaaGreatArr
namespace Go.Proofs.YtmlbmkfbleicaaaGreat
open Go.RowKit
set_option linter.unusedVariables false
set_option maxRecDepth 20000
abbrev C_int (x : Int) : List V := [vint x]
abbrev C_gatemake_Stream (x : S_gatemake_Stream) : List V := [vlst (List.map C_int x.L), vint x.at_]
abbrev C_api_Instance (x : S_api_Instance) : List V := [vstr x.Key, vint x.Weight]
abbrev C_string (x : Bs) : List V := [vstr x]
abbrev C_api_Load (x : S_api_Load) : List V := [vstr x.Instance, vint x.Many]
abbrev C_api_Errno (x : Int) : List V := [vint x]
end Go.Proofs.YtmlbmkfbleicaaaGreat
