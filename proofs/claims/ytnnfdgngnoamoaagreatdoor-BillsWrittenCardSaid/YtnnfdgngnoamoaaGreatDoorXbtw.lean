/- The law BillsWritten: its walk and the plain law. -/
import Derived.Test.YtnnfdgngnoamoaaGreatDoorXbl
import Derived.Test.YtnnfdgngnoamoaaGreatDoorXbb
import Derived.Test.YtnnfdgngnoamoaaGreatDoorLi
namespace Go.Proofs.YtnnfdgngnoamoaaGreatDoor
theorem law_BillsWritten (L:List Int) (_:ArgL L):Fn Tryz.prog 3 [vlst (ints L)] (yc [zr true]):=w37 L true (w6s L)
end Go.Proofs.YtnnfdgngnoamoaaGreatDoor
