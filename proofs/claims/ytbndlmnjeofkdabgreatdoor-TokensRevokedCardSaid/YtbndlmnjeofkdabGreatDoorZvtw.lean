/- The law TokensRevoked: its walk and the plain law. -/
import Derived.Test.YtbndlmnjeofkdabGreatDoorZvw3
import Derived.Test.YtbndlmnjeofkdabGreatDoorZvb
import Derived.Test.YtbndlmnjeofkdabGreatDoorLi
namespace Go.Proofs.YtbndlmnjeofkdabGreatDoor
theorem law_TokensRevoked (L:List Int) (_:ArgL L):Fn Tryz.prog 3 [vlst (ints L)] (zo [zk true]):=y3j L true (z8v L)
end Go.Proofs.YtbndlmnjeofkdabGreatDoor
