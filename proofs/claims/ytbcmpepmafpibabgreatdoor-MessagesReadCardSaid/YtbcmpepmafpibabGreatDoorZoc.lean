/- The cells of values. Printed by a program. -/
import Derived.Test.YtbcmpepmafpibabGreatDoorZom
import Derived.Test.YtbcmpepmafpibabGreatDoorTy
import Derived.Test.YtbcmpepmafpibabGreatDoorShelf
import Derived.Test.YtbcmpepmafpibabGreatDoorLibK
import Derived.Test.YtbcmpepmafpibabGreatDoorDr
import Derived.Test.YtbcmpepmafpibabGreatDoorErr
import Derived.Shelf.Strings.SlTrimAscii
import Derived.Test.YtbcmpepmafpibabGreatDoorMk
import Derived.Test.YtbcmpepmafpibabGreatDoorBlS
import Derived.Test.YtbcmpepmafpibabGreatDoorArr
namespace Go.Proofs.YtbcmpepmafpibabGreatDoor
open Go.RowKit
set_option linter.unusedVariables false
set_option maxRecDepth 20000
abbrev jp (x:Int):List V:=[vint x]
abbrev qs (x:ya):List V:=[vlst (List.map jp x.L),vint x.at_]
abbrev yb (x:zk):List V:=[vstr x.Name,vstr x.Value]
abbrev qc (x:yd):List V:=[vint x.At,vstr x.Method,vstr x.Host,vstr x.Path,vstr x.Query,vstr x.From,vlst (List.map yb x.Headers),vstr x.Body]
abbrev ye (x:Bs):List V:=[vstr x]
abbrev qi (x:yj):List V:=[vint x.Status,vlst (List.map yb x.Headers),vstr x.Body]
abbrev yv (x:Int):List V:=[vval (.int .u8 x)]
abbrev z1o (x:wq):List V:=[vstr x.first_,vlst (List.map yb x.headers_),vint x.at_]
abbrev Zs (x:qp):List V:=[vstr x.first_,vlst (List.map yb x.headers_),vstr x.rest_]
end Go.Proofs.YtbcmpepmafpibabGreatDoor
