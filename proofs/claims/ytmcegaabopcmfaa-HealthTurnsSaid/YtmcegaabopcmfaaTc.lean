/- The cells of values. Printed by a program. -/
import Derived.Test.YtmcegaabopcmfaaTm
import Derived.Test.YtmcegaabopcmfaaTy
import Derived.Test.YtmcegaabopcmfaaLibW
import Derived.Test.YtmcegaabopcmfaaAbsV
namespace Go.Proofs.Ytmcegaabopcmfaa
open Go.RowKit
set_option linter.unusedVariables false
set_option maxRecDepth 20000
abbrev C_int (x : Int) : List V := [vint x]
abbrev C_gatemake_Stream (x : S_gatemake_Stream) : List V := [vlst (List.map C_int x.L), vint x.at_]
abbrev C_api_Instance (x : S_api_Instance) : List V := [vstr x.Key, vint x.Weight]
abbrev C_api_Budget (x : S_api_Budget) : List V := [vint x.Window, vint x.Least, vint x.Part]
abbrev C_api_Outliers (x : S_api_Outliers) : List V := [vint x.Fails, vint x.Base, vint x.Most, vint x.Share]
abbrev C_api_Setup (x : S_api_Setup) : List V := [vlst (List.map C_api_Instance x.Instances), vint x.Tries, vint x.Timeout, vint x.Wait, vint x.MostWait, vint x.Budget.Window, vint x.Budget.Least, vint x.Budget.Part, vint x.Outliers.Fails, vint x.Outliers.Base, vint x.Outliers.Most, vint x.Outliers.Share]
abbrev C_string (x : Bs) : List V := [vstr x]
abbrev C_api_Call (x : S_api_Call) : List V := [vstr x.Id, vint x.At]
abbrev C_api_Window (x : S_api_Window) : List V := [vint x.From, vint x.To]
abbrev C_api_Phase (x : S_api_Phase) : List V := [vstr x.Instance, vint x.Time.From, vint x.Time.To, vint x.Status, vint x.Took]
abbrev C_api_Health (x : S_api_Health) : List V := [vint x.Rise, vint x.Fall]
abbrev C_api_Probe (x : S_api_Probe) : List V := [vint x.At, vstr x.Instance, vbool x.Good]
abbrev C_api_Turn (x : S_api_Turn) : List V := [vint x.At, vstr x.Instance, vbool x.Up]
abbrev C_upstream_health (x : S_upstream_health) : List V := [vbool x.down_, vint x.row_]
abbrev C_api_Errno (x : Int) : List V := [vint x]
abbrev C_p_api_Turn (x : (Option S_api_Turn)) : List V := [vopt C_api_Turn x]
abbrev C_api_Result (x : S_api_Result) : List V := [vint x.At, vstr x.Instance, vint x.Status]
abbrev C_upstream_standing (x : S_upstream_standing) : List V := [vint x.row_, vint x.until_, vint x.times_]
end Go.Proofs.Ytmcegaabopcmfaa
