/- The law OffersChosen: its walk and the plain law. -/
import Derived.Test.YtfindajhhadihaaGreatDoorZpw5
import Derived.Test.YtfindajhhadihaaGreatDoorZpb
import Derived.Test.YtfindajhhadihaaGreatDoorLi
namespace Go.Proofs.YtfindajhhadihaaGreatDoor
theorem law_OffersChosen (L:List Int) (_:ArgL L):Fn Tryz.prog 3 [vlst (ints L)] (zr [zf true]):=y46 L true (y26 L)
end Go.Proofs.YtfindajhhadihaaGreatDoor
