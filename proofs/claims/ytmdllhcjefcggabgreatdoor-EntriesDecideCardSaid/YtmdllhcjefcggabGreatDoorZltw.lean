/- The law EntriesDecide: its walk and the plain law. -/
import Derived.Test.YtmdllhcjefcggabGreatDoorZlw8
import Derived.Test.YtmdllhcjefcggabGreatDoorZlb
import Derived.Test.YtmdllhcjefcggabGreatDoorLi
namespace Go.Proofs.YtmdllhcjefcggabGreatDoor
theorem law_EntriesDecide (L:List Int) (_:ArgL L):Fn Tryz.prog 3 [vlst (ints L)] (zu [ze true]):=w17 L true (w3x L)
end Go.Proofs.YtmdllhcjefcggabGreatDoor
