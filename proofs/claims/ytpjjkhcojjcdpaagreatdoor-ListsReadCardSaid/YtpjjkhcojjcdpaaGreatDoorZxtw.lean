/- The law ListsRead: its walk and the plain law. -/
import Derived.Test.YtpjjkhcojjcdpaaGreatDoorZxw5
import Derived.Test.YtpjjkhcojjcdpaaGreatDoorZxb
import Derived.Test.YtpjjkhcojjcdpaaGreatDoorLi
namespace Go.Proofs.YtpjjkhcojjcdpaaGreatDoor
theorem law_ListsRead (L:List Int) (_:ArgL L):Fn Tryz.prog 3 [vlst (ints L)] (zu [zf true]):=y68 L true (y5e L)
end Go.Proofs.YtpjjkhcojjcdpaaGreatDoor
