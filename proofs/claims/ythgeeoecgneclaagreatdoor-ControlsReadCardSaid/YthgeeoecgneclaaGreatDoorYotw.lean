/- The law ControlsRead: its walk and the plain law. -/
import Derived.Test.YthgeeoecgneclaaGreatDoorYow4
import Derived.Test.YthgeeoecgneclaaGreatDoorYob
import Derived.Test.YthgeeoecgneclaaGreatDoorLi
namespace Go.Proofs.YthgeeoecgneclaaGreatDoor
theorem law_ControlsRead (L : List Int) (_ : ArgL L) : Fn Tryz.prog 3 [vlst (ints L)] (resOf [vbool true]) := k_gatelaw2_ControlsRead L true (controlsRead_plain L)
end Go.Proofs.YthgeeoecgneclaaGreatDoor
