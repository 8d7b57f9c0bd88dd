/- The cells of values. Printed by a program. -/
import Derived.Test.YtpjjkhcojjcdpaaGreatDoorZxm
import Derived.Test.YtpjjkhcojjcdpaaGreatDoorTy
import Derived.Test.YtpjjkhcojjcdpaaGreatDoorShelf
import Derived.Test.YtpjjkhcojjcdpaaGreatDoorLibK
import Derived.Test.YtpjjkhcojjcdpaaGreatDoorRpe
import Derived.Test.YtpjjkhcojjcdpaaGreatDoorOw
import Derived.Test.YtpjjkhcojjcdpaaGreatDoorDr
import Derived.Test.YtpjjkhcojjcdpaaGreatDoorErr
import Derived.Shelf.Strings.SlTrimAscii
import Derived.Test.YtpjjkhcojjcdpaaGreatDoorMk
import Derived.Test.YtpjjkhcojjcdpaaGreatDoorBlS
import Derived.Test.YtpjjkhcojjcdpaaGreatDoorArr
namespace Go.Proofs.YtpjjkhcojjcdpaaGreatDoor
open Go.RowKit
set_option linter.unusedVariables false
set_option maxRecDepth 20000
abbrev vh (x:Int):List V:=[vint x]
abbrev qi (x:zz):List V:=[vlst (List.map vh x.L),vint x.at_]
abbrev yj (x:Bs):List V:=[vstr x]
abbrev ym (x:zt):List V:=[vstr x.Name,vstr x.Value]
abbrev yd (x:zg):List V:=[vstr x.Words,vlst (List.map ym x.Params),vint x.Quality]
abbrev vg (x:zm):List V:=[vstr x.s_,vint x.i_,zf x.bad_]
abbrev yz (x:Int):List V:=[vval (.int .u8 x)]
abbrev jk (x:yb):List V:=[vstr x.s_]
end Go.Proofs.YtpjjkhcojjcdpaaGreatDoor
