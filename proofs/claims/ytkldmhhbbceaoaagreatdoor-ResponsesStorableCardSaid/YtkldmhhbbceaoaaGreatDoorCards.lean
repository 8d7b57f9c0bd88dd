/-
  DERIVED. GIVEN WITH THE SEED: THE CARDS: each row of YtkldmhhbbceaoaaGreatDoorRows.lean that lists a variable, with what it lists TIED to the program's text (the seventh form; the later family's looks); each row that meets fmt, with fmt's text TOLD by the authors' own Lean function (tested against real Go, not proved from fmt's source: count such statements apart). THE CARD IS WHAT COUNTS. Prove the row's statement (the work); the ties are given (YtkldmhhbbceaoaaGreatDoorTie.lean); close each card by the builder's one call (the guide's Derived/Test/ToyasCard.lean, 'card_holds'). Laid BY PROGRAM, IN A SANDBOX (cutbox-door.mjs). By AI agents, Wed Nov 11 2026. No macro, syntax, notation, axiom, sorry.
-/
import Derived.Test.YtkldmhhbbceaoaaGreatDoorRows
import GoSem.ClaimSeven
namespace Go.Proofs.YtkldmhhbbceaoaaGreatDoor
namespace Rows

/-- THE TIED CARD OF 'gatelaw2.ResponsesStorable'. -/
def responsesStorableCard : Claim7 := { stood := { row := responsesStorableRow, standIns := [], harness := (true, "e10cfa4963d2e10bbc621b69c5a48613f0a2cc4dbcbb509f7220f9ead7a0d03d"), looks := true }, kinds := [], alts := [], laidByText := true, laidKinds := [.data, .data, .data, .data], laidTests := true, laidLooks := .later }
def ResponsesStorableCardSaid : Prop := Claim7.holds Tryz.pinned (.plain (OpenSpec.ofChange responsesStorableSpec)) responsesStorableCard

/-- THE SECOND FORM's CARD OF 'gatelaw2.ResponsesStorable'. -/
def responsesStorableUptoCard : Claim7 := { stood := { row := responsesStorableUptoRow, standIns := [], harness := (true, "e10cfa4963d2e10bbc621b69c5a48613f0a2cc4dbcbb509f7220f9ead7a0d03d"), looks := true }, kinds := [], alts := [], laidByText := true, laidKinds := [.data, .data, .data, .data], laidTests := true, laidLooks := .later }
def ResponsesStorableUptoCardSaid : Prop := Claim7.holds Tryz.pinned (.plain (OpenSpec.upto responsesStorableSpec)) responsesStorableUptoCard
end Rows
end Go.Proofs.YtkldmhhbbceaoaaGreatDoor
