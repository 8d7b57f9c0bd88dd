/- The cells of values. Printed by a program. -/
import Derived.Test.YtgjfcdcpiamikaaGreatDoorYzm
import Derived.Test.YtgjfcdcpiamikaaGreatDoorTy
import Derived.Test.YtgjfcdcpiamikaaGreatDoorShelf
import Derived.Test.YtgjfcdcpiamikaaGreatDoorLibK
import Derived.Test.YtgjfcdcpiamikaaGreatDoorRng
import Derived.Shelf.Abstract
import Derived.Test.YtgjfcdcpiamikaaGreatDoorDr
import Derived.Test.YtgjfcdcpiamikaaGreatDoorErr
import Derived.Test.YtgjfcdcpiamikaaGreatDoorMk
import Derived.Test.YtgjfcdcpiamikaaGreatDoorBlS
import Derived.Test.YtgjfcdcpiamikaaGreatDoorArr
namespace Go.Proofs.YtgjfcdcpiamikaaGreatDoor
open Go.RowKit
set_option linter.unusedVariables false
set_option maxRecDepth 20000
abbrev C_int (x : Int) : List V := [vint x]
abbrev C_gatemake_Stream (x : S_gatemake_Stream) : List V := [vlst (List.map C_int x.L), vint x.at_]
abbrev C_api_Header (x : S_api_Header) : List V := [vstr x.Name, vstr x.Value]
abbrev C_api_Request (x : S_api_Request) : List V := [vint x.At, vstr x.Method, vstr x.Host, vstr x.Path, vstr x.Query, vstr x.From, vlst (List.map C_api_Header x.Headers), vstr x.Body]
abbrev C_string (x : Bs) : List V := [vstr x]
abbrev C_uint8 (x : Int) : List V := [vval (.int .u8 x)]
abbrev C_L_string (x : (List Bs)) : List V := [vlst (List.map C_string x)]
end Go.Proofs.YtgjfcdcpiamikaaGreatDoor
