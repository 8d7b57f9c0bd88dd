/- The cells of values. Printed by a program. -/
import Derived.Test.YtbejggfkfaibeaaGreatDoorYhm
import Derived.Test.YtbejggfkfaibeaaGreatDoorTy
import Derived.Test.YtbejggfkfaibeaaGreatDoorShelf
import Derived.Test.YtbejggfkfaibeaaGreatDoorLibK
import Derived.Test.YtbejggfkfaibeaaGreatDoorErr
import Derived.Shelf.Strings.SlTrimAscii
import Derived.Test.YtbejggfkfaibeaaGreatDoorMk
import Derived.Test.YtbejggfkfaibeaaGreatDoorBlS
import Derived.Test.YtbejggfkfaibeaaGreatDoorArr
namespace Go.Proofs.YtbejggfkfaibeaaGreatDoor
open Go.RowKit
set_option linter.unusedVariables false
set_option maxRecDepth 20000
abbrev C_int (x : Int) : List V := [vint x]
abbrev C_gatemake_Stream (x : S_gatemake_Stream) : List V := [vlst (List.map C_int x.L), vint x.at_]
abbrev C_uint8 (x : Int) : List V := [vval (.int .u8 x)]
abbrev C_string (x : Bs) : List V := [vstr x]
abbrev C_api_Errno (x : Int) : List V := [vint x]
end Go.Proofs.YtbejggfkfaibeaaGreatDoor
