/- The cells of values. Printed by a program. -/
import Derived.Test.YtmhghppkbppbjaaGreatDoorYqm
import Derived.Test.YtmhghppkbppbjaaGreatDoorTy
import Derived.Test.YtmhghppkbppbjaaGreatDoorShelf
import Derived.Test.YtmhghppkbppbjaaGreatDoorLibK
import Derived.Test.YtmhghppkbppbjaaGreatDoorErr
import Derived.Test.YtmhghppkbppbjaaGreatDoorBlS
import Derived.Test.YtmhghppkbppbjaaGreatDoorArr
namespace Go.Proofs.YtmhghppkbppbjaaGreatDoor
open Go.RowKit
set_option linter.unusedVariables false
set_option maxRecDepth 20000
abbrev C_int (x : Int) : List V := [vint x]
abbrev C_gatemake_Stream (x : S_gatemake_Stream) : List V := [vlst (List.map C_int x.L), vint x.at_]
abbrev C_string (x : Bs) : List V := [vstr x]
abbrev C_api_Pair (x : S_api_Pair) : List V := [vstr x.Name, vstr x.Value]
abbrev C_uint8 (x : Int) : List V := [vval (.int .u8 x)]
abbrev C_gateref2_unit (x : S_gateref2_unit) : List V := [vval (.int .u8 x.c_), vbool x.plain_]
end Go.Proofs.YtmhghppkbppbjaaGreatDoor
