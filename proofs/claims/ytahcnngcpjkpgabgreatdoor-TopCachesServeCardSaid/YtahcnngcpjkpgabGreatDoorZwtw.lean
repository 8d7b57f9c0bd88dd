/- The law TopCachesServe: its walk and the plain law. -/
import Derived.Test.YtahcnngcpjkpgabGreatDoorZwh5
import Derived.Test.YtahcnngcpjkpgabGreatDoorZwb
import Derived.Test.YtahcnngcpjkpgabGreatDoorLi
namespace Go.Proofs.YtahcnngcpjkpgabGreatDoor
theorem law_TopCachesServe (L:List Int) (_:ArgL L):Fn Tryz.prog 3 [vlst (ints L)] (zr [zi true]):=w7t L true (w05 L)
end Go.Proofs.YtahcnngcpjkpgabGreatDoor
