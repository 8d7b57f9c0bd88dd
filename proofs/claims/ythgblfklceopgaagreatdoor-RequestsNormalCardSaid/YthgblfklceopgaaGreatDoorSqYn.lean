/- Plain: strings.Split at a semicolon and a blank; signs within strings. -/
import Derived.Test.YthgblfklceopgaaGreatDoorWoYn
import Derived.Test.YthgblfklceopgaaGreatDoorKeYn
namespace Go.Proofs.YthgblfklceopgaaGreatDoor
set_option linter.unusedVariables false
set_option maxRecDepth 20000
abbrev scL : Bs := [59, 32]
end Go.Proofs.YthgblfklceopgaaGreatDoor
