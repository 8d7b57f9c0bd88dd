/-
  DERIVED. GIVEN WITH THE SEED: THE CARDS: each row of YtbndlmnjeofkdaaGreatDoorRows.lean that lists a variable, with what it lists TIED to the program's text (the seventh form; the later family's looks); each row that meets fmt, with fmt's text TOLD by the authors' own Lean function (tested against real Go, not proved from fmt's source: count such statements apart). THE CARD IS WHAT COUNTS. Prove the row's statement (the work); the ties are given (YtbndlmnjeofkdaaGreatDoorTie.lean); close each card by the builder's one call (the guide's Derived/Test/ToyasCard.lean, 'card_holds'). Laid BY PROGRAM, IN A SANDBOX (cutbox-door.mjs). By AI agents, Wed Nov 11 2026. No macro, syntax, notation, axiom, sorry.
-/
import Derived.Test.YtbndlmnjeofkdaaGreatDoorRows
import GoSem.ClaimSeven
namespace Go.Proofs.YtbndlmnjeofkdaaGreatDoor
namespace Rows

/-- THE TIED CARD OF 'gatetop.TopSameTarget'. -/
def topSameTargetCard : Claim7 := { stood := { row := topSameTargetRow, standIns := [], harness := (true, "0b5bd173cfefc7d0134fda885581ddc134fedde2ff9d5b6f9fc2d8e8e8f6f581"), looks := true }, kinds := [], alts := [], laidByText := true, laidKinds := [.data, .data, .data, .data, .sentinel, .sentinel, .data, .data, .pinned, .pinned], laidTests := true, laidLooks := .later }
def TopSameTargetCardSaid : Prop := Claim7.holds Tryz.pinned (.plain (OpenSpec.ofChange topSameTargetSpec)) topSameTargetCard

/-- THE SECOND FORM's CARD OF 'gatetop.TopSameTarget'. -/
def topSameTargetUptoCard : Claim7 := { stood := { row := topSameTargetUptoRow, standIns := [], harness := (true, "0b5bd173cfefc7d0134fda885581ddc134fedde2ff9d5b6f9fc2d8e8e8f6f581"), looks := true }, kinds := [], alts := [], laidByText := true, laidKinds := [.data, .data, .data, .data, .sentinel, .sentinel, .data, .data, .pinned, .pinned], laidTests := true, laidLooks := .later }
def TopSameTargetUptoCardSaid : Prop := Claim7.holds Tryz.pinned (.plain (OpenSpec.upto topSameTargetSpec)) topSameTargetUptoCard
end Rows
end Go.Proofs.YtbndlmnjeofkdaaGreatDoor
