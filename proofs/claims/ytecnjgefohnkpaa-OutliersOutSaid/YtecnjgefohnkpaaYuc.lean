/- The cells of values. Printed by a program. -/
import Derived.Test.YtecnjgefohnkpaaYum
import Derived.Test.YtecnjgefohnkpaaTy
import Derived.Test.YtecnjgefohnkpaaShelf
import Derived.Test.YtecnjgefohnkpaaLibK
import Derived.Test.YtecnjgefohnkpaaTu
import Derived.Test.YtecnjgefohnkpaaAg
namespace Go.Proofs.Ytecnjgefohnkpaa
open Go.RowKit
set_option linter.unusedVariables false
set_option maxRecDepth 20000
abbrev C_int (x : Int) : List V := [vint x]
abbrev C_gatemake_Stream (x : S_gatemake_Stream) : List V := [vlst (List.map C_int x.L), vint x.at_]
abbrev C_api_Instance (x : S_api_Instance) : List V := [vstr x.Key, vint x.Weight]
abbrev C_string (x : Bs) : List V := [vstr x]
abbrev C_api_Outliers (x : S_api_Outliers) : List V := [vint x.Fails, vint x.Base, vint x.Most, vint x.Share]
abbrev C_api_Result (x : S_api_Result) : List V := [vint x.At, vstr x.Instance, vint x.Status]
abbrev C_upstream_standing (x : S_upstream_standing) : List V := [vint x.row_, vint x.until_, vint x.times_]
abbrev C_upstream_standings (x : S_upstream_standings) : List V := [vint x.o_.Fails, vint x.o_.Base, vint x.o_.Most, vint x.o_.Share, vlst (List.map C_upstream_standing x.list_)]
abbrev C_api_Errno (x : Int) : List V := [vint x]
abbrev C_gateref2_bench (x : S_gateref2_bench) : List V := [vlst (List.map C_api_Instance x.l_), vint x.o_.Fails, vint x.o_.Base, vint x.o_.Most, vint x.o_.Share, vmpI Try.prog 9 3 x.row_.1 x.row_.2, vmpI Try.prog 9 3 x.times_.1 x.times_.2, vmpI Try.prog 9 3 x.until_.1 x.until_.2]
end Go.Proofs.Ytecnjgefohnkpaa
