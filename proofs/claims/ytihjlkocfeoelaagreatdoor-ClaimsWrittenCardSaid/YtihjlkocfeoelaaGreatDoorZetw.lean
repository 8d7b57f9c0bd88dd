/- The law ClaimsWritten: its walk and the plain law. -/
import Derived.Test.YtihjlkocfeoelaaGreatDoorZew4
import Derived.Test.YtihjlkocfeoelaaGreatDoorZeb
import Derived.Test.YtihjlkocfeoelaaGreatDoorLi
namespace Go.Proofs.YtihjlkocfeoelaaGreatDoor
theorem law_ClaimsWritten (L:List Int) (_:ArgL L):Fn Tryz.prog 3 [vlst (ints L)] (z2f [z02 true]):=y0j L true (y1r L)
end Go.Proofs.YtihjlkocfeoelaaGreatDoor
