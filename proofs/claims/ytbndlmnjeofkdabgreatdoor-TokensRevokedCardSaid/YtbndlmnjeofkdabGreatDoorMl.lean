/- Plain: maps as lists of entries. No program. -/
import Derived.Test.YtbndlmnjeofkdabGreatDoorMb
namespace Go.Proofs.YtbndlmnjeofkdabGreatDoor
set_option linter.unusedVariables false
section
variable {κ τ:Type}
end
end Go.Proofs.YtbndlmnjeofkdabGreatDoor
