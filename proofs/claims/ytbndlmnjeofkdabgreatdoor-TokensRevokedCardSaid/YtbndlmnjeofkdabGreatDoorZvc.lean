/- The cells of values. Printed by a program. -/
import Derived.Test.YtbndlmnjeofkdabGreatDoorZvm
import Derived.Test.YtbndlmnjeofkdabGreatDoorTy
import Derived.Test.YtbndlmnjeofkdabGreatDoorShelf
import Derived.Test.YtbndlmnjeofkdabGreatDoorLibK
import Derived.Test.YtbndlmnjeofkdabGreatDoorInsW
import Derived.Test.YtbndlmnjeofkdabGreatDoorTu
import Derived.Test.YtbndlmnjeofkdabGreatDoorMk
import Derived.Test.YtbndlmnjeofkdabGreatDoorArr
namespace Go.Proofs.YtbndlmnjeofkdabGreatDoor
open Go.RowKit
set_option linter.unusedVariables false
set_option maxRecDepth 20000
abbrev qw (x:Int):List V:=[vint x]
abbrev yf (x:zm):List V:=[vlst (List.map qw x.L),vint x.at_]
abbrev zn (x:zc):List V:=[vstr x.Id,vint x.At,vint x.Until]
abbrev zi (x:Bs):List V:=[vstr x]
abbrev vu (x:yi):List V:=[vstr x.Id,vstr x.Subject,vstr x.Issuer,vstr x.Parent,vlst (List.map zi x.Audience),vlst (List.map zi x.Scopes),vint x.From,vint x.To]
abbrev z8c (x:(List Bs)):List V:=[vlst (List.map zi x)]
abbrev z1m (x:Int):List V:=[vint x]
abbrev xi (x:Int):List V:=[vval (.int .u8 x)]
end Go.Proofs.YtbndlmnjeofkdabGreatDoor
