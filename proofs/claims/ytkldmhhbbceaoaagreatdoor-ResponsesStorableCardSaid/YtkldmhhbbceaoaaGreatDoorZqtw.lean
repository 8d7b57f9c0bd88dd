/- The law ResponsesStorable: its walk and the plain law. -/
import Derived.Test.YtkldmhhbbceaoaaGreatDoorZqw6
import Derived.Test.YtkldmhhbbceaoaaGreatDoorZqb
import Derived.Test.YtkldmhhbbceaoaaGreatDoorLi
namespace Go.Proofs.YtkldmhhbbceaoaaGreatDoor
theorem law_ResponsesStorable (L:List Int) (_:ArgL L):Fn Tryz.prog 3 [vlst (ints L)] (zu [ze true]):=x0m L true (y7l L)
end Go.Proofs.YtkldmhhbbceaoaaGreatDoor
