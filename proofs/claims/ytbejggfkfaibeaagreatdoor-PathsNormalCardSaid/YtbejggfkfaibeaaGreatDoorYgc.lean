/- The cells of values. Printed by a program. -/
import Derived.Test.YtbejggfkfaibeaaGreatDoorYgm
import Derived.Test.YtbejggfkfaibeaaGreatDoorTy
import Derived.Test.YtbejggfkfaibeaaGreatDoorShelf
import Derived.Test.YtbejggfkfaibeaaGreatDoorLibK
import Derived.Test.YtbejggfkfaibeaaGreatDoorRng
import Derived.Shelf.Abstract
import Derived.Test.YtbejggfkfaibeaaGreatDoorErr
import Derived.Test.YtbejggfkfaibeaaGreatDoorMk
import Derived.Test.YtbejggfkfaibeaaGreatDoorBlS
import Derived.Test.YtbejggfkfaibeaaGreatDoorArr
namespace Go.Proofs.YtbejggfkfaibeaaGreatDoor
open Go.RowKit
set_option linter.unusedVariables false
set_option maxRecDepth 20000
abbrev C_int (x : Int) : List V := [vint x]
abbrev C_gatemake_Stream (x : S_gatemake_Stream) : List V := [vlst (List.map C_int x.L), vint x.at_]
abbrev C_string (x : Bs) : List V := [vstr x]
abbrev C_uint8 (x : Int) : List V := [vval (.int .u8 x)]
abbrev C_gateref2_unit (x : S_gateref2_unit) : List V := [vval (.int .u8 x.c_), vbool x.plain_]
end Go.Proofs.YtbejggfkfaibeaaGreatDoor
