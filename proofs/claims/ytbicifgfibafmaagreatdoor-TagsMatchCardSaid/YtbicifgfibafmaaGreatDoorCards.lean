/-
  DERIVED. GIVEN WITH THE SEED: THE CARDS: each row of YtbicifgfibafmaaGreatDoorRows.lean that lists a variable, with what it lists TIED to the program's text (the seventh form; the later family's looks); each row that meets fmt, with fmt's text TOLD by the authors' own Lean function (tested against real Go, not proved from fmt's source: count such statements apart). THE CARD IS WHAT COUNTS. Prove the row's statement (the work); the ties are given (YtbicifgfibafmaaGreatDoorTie.lean); close each card by the builder's one call (the guide's Derived/Test/ToyasCard.lean, 'card_holds'). Laid BY PROGRAM, IN A SANDBOX (cutbox-door.mjs). By AI agents, Wed Nov 11 2026. No macro, syntax, notation, axiom, sorry.
-/
import Derived.Test.YtbicifgfibafmaaGreatDoorRows
import GoSem.ClaimSeven
namespace Go.Proofs.YtbicifgfibafmaaGreatDoor
namespace Rows

/-- THE TIED CARD OF 'gatelaw2.TagsMatch'. -/
def tagsMatchCard : Claim7 := { stood := { row := tagsMatchRow, standIns := [], harness := (true, "4b87b4abcfe788c5a3660270495b8e45923bc4b4c55d3b740907304d3152d5e9"), looks := true }, kinds := [], alts := [], laidByText := true, laidKinds := [.data, .data, .data, .data, .sentinel, .sentinel, .data, .data, .pinned, .pinned], laidTests := true, laidLooks := .later }
def TagsMatchCardSaid : Prop := Claim7.holds Tryz.pinned (.plain (OpenSpec.ofChange tagsMatchSpec)) tagsMatchCard

/-- THE SECOND FORM's CARD OF 'gatelaw2.TagsMatch'. -/
def tagsMatchUptoCard : Claim7 := { stood := { row := tagsMatchUptoRow, standIns := [], harness := (true, "4b87b4abcfe788c5a3660270495b8e45923bc4b4c55d3b740907304d3152d5e9"), looks := true }, kinds := [], alts := [], laidByText := true, laidKinds := [.data, .data, .data, .data, .sentinel, .sentinel, .data, .data, .pinned, .pinned], laidTests := true, laidLooks := .later }
def TagsMatchUptoCardSaid : Prop := Claim7.holds Tryz.pinned (.plain (OpenSpec.upto tagsMatchSpec)) tagsMatchUptoCard
end Rows
end Go.Proofs.YtbicifgfibafmaaGreatDoor
