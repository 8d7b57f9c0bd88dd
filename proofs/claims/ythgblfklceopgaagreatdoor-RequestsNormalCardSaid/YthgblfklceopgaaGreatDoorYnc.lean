/- The cells of values. Printed by a program. -/
import Derived.Test.YthgblfklceopgaaGreatDoorYnm
import Derived.Test.YthgblfklceopgaaGreatDoorTy
import Derived.Test.YthgblfklceopgaaGreatDoorShelf
import Derived.Test.YthgblfklceopgaaGreatDoorLibK
import Derived.Test.YthgblfklceopgaaGreatDoorRng
import Derived.Shelf.Abstract
import Derived.Test.YthgblfklceopgaaGreatDoorTu
import Derived.Test.YthgblfklceopgaaGreatDoorDr
import Derived.Test.YthgblfklceopgaaGreatDoorErr
import Derived.Test.YthgblfklceopgaaGreatDoorMk
import Derived.Test.YthgblfklceopgaaGreatDoorBlS
import Derived.Test.YthgblfklceopgaaGreatDoorArr
namespace Go.Proofs.YthgblfklceopgaaGreatDoor
open Go.RowKit
set_option linter.unusedVariables false
set_option maxRecDepth 20000
abbrev zqb (x : Int) : List V := [vint x]
abbrev zaq (x : zad) : List V := [vlst (List.map zqb x.L), vint x.at_]
abbrev zao (x : zaf) : List V := [vstr x.Name, vstr x.Value]
abbrev za9 (x : zar) : List V := [vint x.At, vstr x.Method, vstr x.Host, vstr x.Path, vstr x.Query, vstr x.From, vlst (List.map zao x.Headers), vstr x.Body]
abbrev zay (x : Bs) : List V := [vstr x]
abbrev zcj (x : Int) : List V := [vval (.int .u8 x)]
abbrev za1 (x : zag) : List V := [vstr x.Name, vstr x.Value]
abbrev zec (x : za0) : List V := [vval (.int .u8 x.c_), za2 x.plain_]
abbrev zpz (x : Int) : List V := [vint x]
end Go.Proofs.YthgblfklceopgaaGreatDoor
