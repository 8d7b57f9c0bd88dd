/- The law EntriesConfirmed: its walk and the plain law. -/
import Derived.Test.YtkldmhhbbceaoabGreatDoorZrw7
import Derived.Test.YtkldmhhbbceaoabGreatDoorZrb
import Derived.Test.YtkldmhhbbceaoabGreatDoorLi
namespace Go.Proofs.YtkldmhhbbceaoabGreatDoor
theorem law_EntriesConfirmed (L:List Int) (_:ArgL L):Fn Tryz.prog 3 [vlst (ints L)] (zw [zj true]):=x3h L true (x42 L)
end Go.Proofs.YtkldmhhbbceaoabGreatDoor
