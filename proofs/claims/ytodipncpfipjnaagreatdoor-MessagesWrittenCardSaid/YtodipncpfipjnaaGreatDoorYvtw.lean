/- The law MessagesWritten: its walk and the plain law. -/
import Derived.Test.YtodipncpfipjnaaGreatDoorYvw4
import Derived.Test.YtodipncpfipjnaaGreatDoorYvb
import Derived.Test.YtodipncpfipjnaaGreatDoorLi
namespace Go.Proofs.YtodipncpfipjnaaGreatDoor
theorem law_MessagesWritten (L : List Int) (_ : ArgL L) : Fn Tryz.prog 3 [vlst (ints L)] (resOf [vbool true]) := k_gatelaw2_MessagesWritten L true (messagesWritten_plain L)
end Go.Proofs.YtodipncpfipjnaaGreatDoor
