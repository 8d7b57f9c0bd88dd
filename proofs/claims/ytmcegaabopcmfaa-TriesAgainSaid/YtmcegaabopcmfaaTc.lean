/- The cells of values. Printed by a program. -/
import Derived.Test.YtmcegaabopcmfaaTm
import Derived.Test.YtmcegaabopcmfaaTy
import Derived.Test.YtmcegaabopcmfaaLibW
import Derived.Test.YtmcegaabopcmfaaLibH
namespace Go.Proofs.Ytmcegaabopcmfaa
open Go.RowKit
set_option linter.unusedVariables false
set_option maxRecDepth 20000
abbrev C_int (x : Int) : List V := [vint x]
abbrev C_gatemake_Stream (x : S_gatemake_Stream) : List V := [vlst (List.map C_int x.L), vint x.at_]
abbrev C_api_Instance (x : S_api_Instance) : List V := [vstr x.Key, vint x.Weight]
abbrev C_string (x : Bs) : List V := [vstr x]
abbrev C_api_Health (x : S_api_Health) : List V := [vint x.Rise, vint x.Fall]
abbrev C_api_Probe (x : S_api_Probe) : List V := [vint x.At, vstr x.Instance, vbool x.Good]
abbrev C_api_Turn (x : S_api_Turn) : List V := [vint x.At, vstr x.Instance, vbool x.Up]
abbrev C_upstream_health (x : S_upstream_health) : List V := [vbool x.down_, vint x.row_]
abbrev C_api_Errno (x : Int) : List V := [vint x]
abbrev C_p_api_Turn (x : (Option S_api_Turn)) : List V := [vopt C_api_Turn x]
abbrev C_api_Budget (x : S_api_Budget) : List V := [vint x.Window, vint x.Least, vint x.Part]
abbrev C_L_int (x : (List Int)) : List V := [vlst (List.map C_int x)]
end Go.Proofs.Ytmcegaabopcmfaa
