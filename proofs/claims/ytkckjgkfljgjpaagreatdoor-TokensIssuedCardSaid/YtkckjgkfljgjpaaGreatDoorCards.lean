/-
  DERIVED. GIVEN WITH THE SEED: THE CARDS: each row of YtkckjgkfljgjpaaGreatDoorRows.lean that lists a variable, with what it lists TIED to the program's text (the seventh form; the later family's looks); each row that meets fmt, with fmt's text TOLD by the authors' own Lean function (tested against real Go, not proved from fmt's source: count such statements apart). THE CARD IS WHAT COUNTS. Prove the row's statement (the work); the ties are given (YtkckjgkfljgjpaaGreatDoorTie.lean); close each card by the builder's one call (the guide's Derived/Test/ToyasCard.lean, 'card_holds'). Laid BY PROGRAM, IN A SANDBOX (cutbox-door.mjs). By AI agents, Wed Nov 11 2026. No macro, syntax, notation, axiom, sorry.
-/
import Derived.Test.YtkckjgkfljgjpaaGreatDoorRows
import GoSem.ClaimSeven
namespace Go.Proofs.YtkckjgkfljgjpaaGreatDoor
namespace Rows

/-- THE TIED CARD OF 'gatelaw2.TokensIssued'. -/
def tokensIssuedCard : Claim7 := { stood := { row := tokensIssuedRow, standIns := [], harness := (true, "22dd009b27cfc44bf7af34dc2d643ca0e7032bb3b1c9df42adbf5939ca6fdae9"), looks := true }, kinds := [], alts := [], laidByText := true, laidKinds := [.data, .data, .data, .data, .sentinel, .sentinel, .pinned], laidTests := true, laidLooks := .later }
def TokensIssuedCardSaid : Prop := Claim7.holds Tryz.pinned (.plain (OpenSpec.ofChange tokensIssuedSpec)) tokensIssuedCard

/-- THE SECOND FORM's CARD OF 'gatelaw2.TokensIssued'. -/
def tokensIssuedUptoCard : Claim7 := { stood := { row := tokensIssuedUptoRow, standIns := [], harness := (true, "22dd009b27cfc44bf7af34dc2d643ca0e7032bb3b1c9df42adbf5939ca6fdae9"), looks := true }, kinds := [], alts := [], laidByText := true, laidKinds := [.data, .data, .data, .data, .sentinel, .sentinel, .pinned], laidTests := true, laidLooks := .later }
def TokensIssuedUptoCardSaid : Prop := Claim7.holds Tryz.pinned (.plain (OpenSpec.upto tokensIssuedSpec)) tokensIssuedUptoCard
end Rows
end Go.Proofs.YtkckjgkfljgjpaaGreatDoor
