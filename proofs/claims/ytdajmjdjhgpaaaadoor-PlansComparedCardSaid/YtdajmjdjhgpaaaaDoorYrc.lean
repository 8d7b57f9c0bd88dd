/- The cells of values. Printed by a program. -/
import Derived.Test.YtdajmjdjhgpaaaaDoorYrm
import Derived.Test.YtdajmjdjhgpaaaaDoorTy
import Derived.Test.YtdajmjdjhgpaaaaDoorShelf
import Derived.Test.YtdajmjdjhgpaaaaDoorLibK
import Derived.Test.YtdajmjdjhgpaaaaDoorRng
import Derived.Shelf.Abstract
import Derived.Test.YtdajmjdjhgpaaaaDoorAg
import Derived.Test.YtdajmjdjhgpaaaaDoorOw
import Derived.Test.YtdajmjdjhgpaaaaDoorDr
import Derived.Test.YtdajmjdjhgpaaaaDoorArr
namespace Go.Proofs.YtdajmjdjhgpaaaaDoor
open Go.RowKit
set_option linter.unusedVariables false
set_option maxRecDepth 20000
abbrev C_int (x : Int) : List V := [vint x]
abbrev C_gatemake_Stream (x : S_gatemake_Stream) : List V := [vlst (List.map C_int x.L), vint x.at_]
abbrev C_string (x : Bs) : List V := [vstr x]
abbrev C_api_Product (x : S_api_Product) : List V := [vstr x.Key, vlst (List.map C_string x.Scopes)]
abbrev C_api_Tier (x : S_api_Tier) : List V := [vint x.From, vint x.Cents]
abbrev C_api_Plan (x : S_api_Plan) : List V := [vstr x.Key, vstr x.Product, vint x.Base, vint x.Free, vlst (List.map C_api_Tier x.Tiers), vint x.Limit, vint x.Trial, vbool x.Asked]
abbrev C_api_Catalog (x : S_api_Catalog) : List V := [vlst (List.map C_api_Product x.Products), vlst (List.map C_api_Plan x.Plans)]
abbrev C_api_Errno (x : Int) : List V := [vint x]
end Go.Proofs.YtdajmjdjhgpaaaaDoor
