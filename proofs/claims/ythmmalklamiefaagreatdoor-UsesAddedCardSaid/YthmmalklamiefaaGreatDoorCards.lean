/-
  DERIVED. GIVEN WITH THE SEED: THE CARDS: each row of YthmmalklamiefaaGreatDoorRows.lean that lists a variable, with what it lists TIED to the program's text (the seventh form; the later family's looks); each row that meets fmt, with fmt's text TOLD by the authors' own Lean function (tested against real Go, not proved from fmt's source: count such statements apart). THE CARD IS WHAT COUNTS. Prove the row's statement (the work); the ties are given (YthmmalklamiefaaGreatDoorTie.lean); close each card by the builder's one call (the guide's Derived/Test/ToyasCard.lean, 'card_holds'). Laid BY PROGRAM, IN A SANDBOX (cutbox-door.mjs). By AI agents, Wed Nov 11 2026. No macro, syntax, notation, axiom, sorry.
-/
import Derived.Test.YthmmalklamiefaaGreatDoorRows
import GoSem.ClaimSeven
namespace Go.Proofs.YthmmalklamiefaaGreatDoor
namespace Rows

/-- THE TIED CARD OF 'gatelaw2.UsesAdded'. -/
def usesAddedCard : Claim7 := { stood := { row := usesAddedRow, standIns := [], harness := (true, "6e075dd4932a92d4261ab63c775b9c90cf34ff6fd324287ec983d396bd5dfafa"), looks := false }, kinds := [], alts := [], laidByText := true, laidKinds := [.data, .pinned], laidTests := true, laidLooks := .later }
def UsesAddedCardSaid : Prop := Claim7.holds Tryz.pinned (.plain (OpenSpec.ofChange usesAddedSpec)) usesAddedCard

/-- THE SECOND FORM's CARD OF 'gatelaw2.UsesAdded'. -/
def usesAddedUptoCard : Claim7 := { stood := { row := usesAddedUptoRow, standIns := [], harness := (true, "6e075dd4932a92d4261ab63c775b9c90cf34ff6fd324287ec983d396bd5dfafa"), looks := false }, kinds := [], alts := [], laidByText := true, laidKinds := [.data, .pinned], laidTests := true, laidLooks := .later }
def UsesAddedUptoCardSaid : Prop := Claim7.holds Tryz.pinned (.plain (OpenSpec.upto usesAddedSpec)) usesAddedUptoCard
end Rows
end Go.Proofs.YthmmalklamiefaaGreatDoor
