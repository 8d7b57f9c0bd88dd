/-
  DERIVED. GIVEN WITH THE SEED: THE CARDS: each row of YtaolapgdgdmapaaGreatDoorRows.lean that lists a variable, with what it lists TIED to the program's text (the seventh form; the later family's looks); each row that meets fmt, with fmt's text TOLD by the authors' own Lean function (tested against real Go, not proved from fmt's source: count such statements apart). THE CARD IS WHAT COUNTS. Prove the row's statement (the work); the ties are given (YtaolapgdgdmapaaGreatDoorTie.lean); close each card by the builder's one call (the guide's Derived/Test/ToyasCard.lean, 'card_holds'). Laid BY PROGRAM, IN A SANDBOX (cutbox-door.mjs). By AI agents, Wed Nov 11 2026. No macro, syntax, notation, axiom, sorry.
-/
import Derived.Test.YtaolapgdgdmapaaGreatDoorRows
import GoSem.ClaimSeven
namespace Go.Proofs.YtaolapgdgdmapaaGreatDoor
namespace Rows

/-- THE TIED CARD OF 'gatelaw2.EventsMerge'. -/
def eventsMergeCard : Claim7 := { stood := { row := eventsMergeRow, standIns := [], harness := (true, "28adc0ccddd1922084240cff84ab0806ab05989b560612922790a144eeb5da64"), looks := false }, kinds := [], alts := [], laidByText := true, laidKinds := [.data, .pinned], laidTests := true, laidLooks := .later }
def EventsMergeCardSaid : Prop := Claim7.holds Tryz.pinned (.plain (OpenSpec.ofChange eventsMergeSpec)) eventsMergeCard

/-- THE SECOND FORM's CARD OF 'gatelaw2.EventsMerge'. -/
def eventsMergeUptoCard : Claim7 := { stood := { row := eventsMergeUptoRow, standIns := [], harness := (true, "28adc0ccddd1922084240cff84ab0806ab05989b560612922790a144eeb5da64"), looks := false }, kinds := [], alts := [], laidByText := true, laidKinds := [.data, .pinned], laidTests := true, laidLooks := .later }
def EventsMergeUptoCardSaid : Prop := Claim7.holds Tryz.pinned (.plain (OpenSpec.upto eventsMergeSpec)) eventsMergeUptoCard
end Rows
end Go.Proofs.YtaolapgdgdmapaaGreatDoor
