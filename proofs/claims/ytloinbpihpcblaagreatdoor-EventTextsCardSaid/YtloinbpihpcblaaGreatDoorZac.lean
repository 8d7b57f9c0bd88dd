/- The cells of values. Printed by a program. -/
import Derived.Test.YtloinbpihpcblaaGreatDoorZam
import Derived.Test.YtloinbpihpcblaaGreatDoorTy
import Derived.Test.YtloinbpihpcblaaGreatDoorShelf
import Derived.Test.YtloinbpihpcblaaGreatDoorLibK
import Derived.Test.YtloinbpihpcblaaGreatDoorTu
import Derived.Test.YtloinbpihpcblaaGreatDoorAg
import Derived.Test.YtloinbpihpcblaaGreatDoorOw
import Derived.Test.YtloinbpihpcblaaGreatDoorSub
import Derived.Test.YtloinbpihpcblaaGreatDoorDr
import Derived.Test.YtloinbpihpcblaaGreatDoorErr
import Derived.Test.YtloinbpihpcblaaGreatDoorMk
import Derived.Test.YtloinbpihpcblaaGreatDoorBlS
import Derived.Test.YtloinbpihpcblaaGreatDoorArr
namespace Go.Proofs.YtloinbpihpcblaaGreatDoor
open Go.RowKit
set_option linter.unusedVariables false
set_option maxRecDepth 20000
abbrev C_int (x : Int) : List V := [vint x]
abbrev C_gatemake_Stream (x : S_gatemake_Stream) : List V := [vlst (List.map C_int x.L), vint x.at_]
abbrev C_string (x : Bs) : List V := [vstr x]
abbrev C_api_Product (x : S_api_Product) : List V := [vstr x.Key, vlst (List.map C_string x.Scopes)]
abbrev C_api_Tier (x : S_api_Tier) : List V := [vint x.From, vint x.Cents]
abbrev C_api_Plan (x : S_api_Plan) : List V := [vstr x.Key, vstr x.Product, vint x.Base, vint x.Free, vlst (List.map C_api_Tier x.Tiers), vint x.Limit, vint x.Trial, vbool x.Asked]
abbrev C_api_Catalog (x : S_api_Catalog) : List V := [vlst (List.map C_api_Product x.Products), vlst (List.map C_api_Plan x.Plans)]
abbrev C_api_App (x : S_api_App) : List V := [vstr x.Key, vstr x.Owner]
abbrev C_api_Event (x : S_api_Event) : List V := [vint x.At, vstr x.App, vstr x.Product, vint x.Kind, vstr x.Plan]
abbrev C_api_Sub (x : S_api_Sub) : List V := [vint x.State, vstr x.Plan, vint x.Since, vint x.First]
abbrev C_uint8 (x : Int) : List V := [vval (.int .u8 x)]
end Go.Proofs.YtloinbpihpcblaaGreatDoor
