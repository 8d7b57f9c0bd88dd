/- The cells of values. Printed by a program. -/
import Derived.Test.YtfindajhhadihaaGreatDoorZpm
import Derived.Test.YtfindajhhadihaaGreatDoorTy
import Derived.Test.YtfindajhhadihaaGreatDoorShelf
import Derived.Test.YtfindajhhadihaaGreatDoorLibK
import Derived.Test.YtfindajhhadihaaGreatDoorDr
import Derived.Test.YtfindajhhadihaaGreatDoorErr
import Derived.Shelf.Strings.SlTrimAscii
import Derived.Test.YtfindajhhadihaaGreatDoorMk
import Derived.Test.YtfindajhhadihaaGreatDoorBlS
import Derived.Test.YtfindajhhadihaaGreatDoorArr
namespace Go.Proofs.YtfindajhhadihaaGreatDoor
open Go.RowKit
set_option linter.unusedVariables false
set_option maxRecDepth 20000
abbrev js (x:Int):List V:=[vint x]
abbrev qh (x:ya):List V:=[vlst (List.map js x.L),vint x.at_]
abbrev yb (x:Bs):List V:=[vstr x]
abbrev qy (x:yg):List V:=[vstr x.Name,vstr x.Value]
abbrev yk (x:zj):List V:=[vstr x.Words,vlst (List.map qy x.Params),vint x.Quality]
abbrev wy (x:zk):List V:=[vstr x.s_,vint x.i_,zf x.bad_]
abbrev yw (x:Int):List V:=[vval (.int .u8 x)]
abbrev ja (x:zx):List V:=[vstr x.s_]
end Go.Proofs.YtfindajhhadihaaGreatDoor
