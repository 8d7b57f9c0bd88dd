/- The law TopCallersMay: its walk and the plain law. -/
import Derived.Test.YtbndlmnjeofkdadGreatDoorZuw7
import Derived.Test.YtbndlmnjeofkdadGreatDoorZub
import Derived.Test.YtbndlmnjeofkdadGreatDoorLi
namespace Go.Proofs.YtbndlmnjeofkdadGreatDoor
theorem law_TopCallersMay (L:List Int) (_:ArgL L):Fn Tryz.prog 3 [vlst (ints L)] (zu [zf true]):=w0j L true (x3p L)
end Go.Proofs.YtbndlmnjeofkdadGreatDoor
