/- The cells of values. Printed by a program. -/
import Derived.Test.YthodoodnkohdaaaGreatDoorYkm
import Derived.Test.YthodoodnkohdaaaGreatDoorTy
import Derived.Test.YthodoodnkohdaaaGreatDoorShelf
import Derived.Test.YthodoodnkohdaaaGreatDoorLibK
import Derived.Test.YthodoodnkohdaaaGreatDoorErr
import Derived.Test.YthodoodnkohdaaaGreatDoorMk
import Derived.Test.YthodoodnkohdaaaGreatDoorBlS
import Derived.Test.YthodoodnkohdaaaGreatDoorArr
namespace Go.Proofs.YthodoodnkohdaaaGreatDoor
open Go.RowKit
set_option linter.unusedVariables false
set_option maxRecDepth 20000
abbrev C_int (x : Int) : List V := [vint x]
abbrev C_gatemake_Stream (x : S_gatemake_Stream) : List V := [vlst (List.map C_int x.L), vint x.at_]
abbrev C_api_Header (x : S_api_Header) : List V := [vstr x.Name, vstr x.Value]
abbrev C_string (x : Bs) : List V := [vstr x]
abbrev C_api_Cookie (x : S_api_Cookie) : List V := [vstr x.Name, vstr x.Value, vstr x.Domain, vstr x.Path, vint x.MaxAge, vbool x.Secure, vbool x.Hidden]
abbrev C_uint8 (x : Int) : List V := [vval (.int .u8 x)]
abbrev C_api_Pair (x : S_api_Pair) : List V := [vstr x.Name, vstr x.Value]
end Go.Proofs.YthodoodnkohdaaaGreatDoor
