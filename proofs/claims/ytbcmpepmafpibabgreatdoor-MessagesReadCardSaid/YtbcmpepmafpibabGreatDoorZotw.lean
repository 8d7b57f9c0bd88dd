/- The law MessagesRead: its walk and the plain law. -/
import Derived.Test.YtbcmpepmafpibabGreatDoorZow6
import Derived.Test.YtbcmpepmafpibabGreatDoorZob
import Derived.Test.YtbcmpepmafpibabGreatDoorLi
namespace Go.Proofs.YtbcmpepmafpibabGreatDoor
theorem law_MessagesRead (L:List Int) (_:ArgL L):Fn Tryz.prog 3 [vlst (ints L)] (zp [zf true]):=y95 L true (y7s L)
end Go.Proofs.YtbcmpepmafpibabGreatDoor
