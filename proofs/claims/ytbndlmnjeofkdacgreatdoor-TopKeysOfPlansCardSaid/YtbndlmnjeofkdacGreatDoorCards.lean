/-
  DERIVED. GIVEN WITH THE SEED: THE CARDS: each row of YtbndlmnjeofkdacGreatDoorRows.lean that lists a variable, with what it lists TIED to the program's text (the seventh form; the later family's looks); each row that meets fmt, with fmt's text TOLD by the authors' own Lean function (tested against real Go, not proved from fmt's source: count such statements apart). THE CARD IS WHAT COUNTS. Prove the row's statement (the work); the ties are given (YtbndlmnjeofkdacGreatDoorTie.lean); close each card by the builder's one call (the guide's Derived/Test/ToyasCard.lean, 'card_holds'). Laid BY PROGRAM, IN A SANDBOX (cutbox-door.mjs). By AI agents, Wed Nov 11 2026. No macro, syntax, notation, axiom, sorry.
-/
import Derived.Test.YtbndlmnjeofkdacGreatDoorRows
import GoSem.ClaimSeven
namespace Go.Proofs.YtbndlmnjeofkdacGreatDoor
namespace Rows

/-- THE TIED CARD OF 'gatetop.TopKeysOfPlans'. -/
def topKeysOfPlansCard : Claim7 := { stood := { row := topKeysOfPlansRow, standIns := [], harness := (true, "fb95082955c23fb80bc0c5a662ab7c78f37fb58145d529796a7d2475ea1f5867"), looks := true }, kinds := [], alts := [], laidByText := true, laidKinds := [.data, .data, .data, .data, .sentinel, .sentinel, .data, .data, .pinned, .pinned], laidTests := true, laidLooks := .later }
def TopKeysOfPlansCardSaid : Prop := Claim7.holds Tryz.pinned (.plain (OpenSpec.ofChange topKeysOfPlansSpec)) topKeysOfPlansCard

/-- THE SECOND FORM's CARD OF 'gatetop.TopKeysOfPlans'. -/
def topKeysOfPlansUptoCard : Claim7 := { stood := { row := topKeysOfPlansUptoRow, standIns := [], harness := (true, "fb95082955c23fb80bc0c5a662ab7c78f37fb58145d529796a7d2475ea1f5867"), looks := true }, kinds := [], alts := [], laidByText := true, laidKinds := [.data, .data, .data, .data, .sentinel, .sentinel, .data, .data, .pinned, .pinned], laidTests := true, laidLooks := .later }
def TopKeysOfPlansUptoCardSaid : Prop := Claim7.holds Tryz.pinned (.plain (OpenSpec.upto topKeysOfPlansSpec)) topKeysOfPlansUptoCard
end Rows
end Go.Proofs.YtbndlmnjeofkdacGreatDoor
