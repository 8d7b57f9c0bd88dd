/- Plain: maps as lists of entries. No program. -/
import Derived.Test.YtbndlmnjeofkdadGreatDoorMb
namespace Go.Proofs.YtbndlmnjeofkdadGreatDoor
set_option linter.unusedVariables false
section
variable {κ τ:Type}
end
end Go.Proofs.YtbndlmnjeofkdadGreatDoor
