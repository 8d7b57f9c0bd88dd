/- The law EntriesSuit: its walk and the plain law. -/
import Derived.Test.YtmdllhcjefcggacGreatDoorZmw8
import Derived.Test.YtmdllhcjefcggacGreatDoorZmb
import Derived.Test.YtmdllhcjefcggacGreatDoorLi
namespace Go.Proofs.YtmdllhcjefcggacGreatDoor
theorem law_EntriesSuit (L:List Int) (_:ArgL L):Fn Tryz.prog 3 [vlst (ints L)] (zu [zh true]):=w2e L true (w34 L)
end Go.Proofs.YtmdllhcjefcggacGreatDoor
