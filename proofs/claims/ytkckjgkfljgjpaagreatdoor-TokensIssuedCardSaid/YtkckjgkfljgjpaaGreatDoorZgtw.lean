/- The law TokensIssued: its walk and the plain law. -/
import Derived.Test.YtkckjgkfljgjpaaGreatDoorZgw6
import Derived.Test.YtkckjgkfljgjpaaGreatDoorZgb
import Derived.Test.YtkckjgkfljgjpaaGreatDoorLi
namespace Go.Proofs.YtkckjgkfljgjpaaGreatDoor
theorem law_TokensIssued (L:List Int) (_:ArgL L):Fn Tryz.prog 3 [vlst (ints L)] (z1s [z01 true]):=y51 L true (y7g L)
end Go.Proofs.YtkckjgkfljgjpaaGreatDoor
