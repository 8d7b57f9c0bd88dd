/-
  DERIVED. GIVEN WITH THE SEED: THE CARDS: each row of YtbcmpepmafpibabGreatDoorRows.lean that lists a variable, with what it lists TIED to the program's text (the seventh form; the later family's looks); each row that meets fmt, with fmt's text TOLD by the authors' own Lean function (tested against real Go, not proved from fmt's source: count such statements apart). THE CARD IS WHAT COUNTS. Prove the row's statement (the work); the ties are given (YtbcmpepmafpibabGreatDoorTie.lean); close each card by the builder's one call (the guide's Derived/Test/ToyasCard.lean, 'card_holds'). Laid BY PROGRAM, IN A SANDBOX (cutbox-door.mjs). By AI agents, Wed Nov 11 2026. No macro, syntax, notation, axiom, sorry.
-/
import Derived.Test.YtbcmpepmafpibabGreatDoorRows
import GoSem.ClaimSeven
namespace Go.Proofs.YtbcmpepmafpibabGreatDoor
namespace Rows

/-- THE TIED CARD OF 'gatelaw2.MessagesRead'. -/
def messagesReadCard : Claim7 := { stood := { row := messagesReadRow, standIns := [], harness := (true, "fb15672fa0f9eb64de67c09339784e00b73e95144dd9b1da378b8a1d270c2314"), looks := true }, kinds := [], alts := [], laidByText := true, laidKinds := [.data, .data, .data, .data, .sentinel, .sentinel, .data, .data, .pinned, .pinned], laidTests := true, laidLooks := .later }
def MessagesReadCardSaid : Prop := Claim7.holds Tryz.pinned (.plain (OpenSpec.ofChange messagesReadSpec)) messagesReadCard

/-- THE SECOND FORM's CARD OF 'gatelaw2.MessagesRead'. -/
def messagesReadUptoCard : Claim7 := { stood := { row := messagesReadUptoRow, standIns := [], harness := (true, "fb15672fa0f9eb64de67c09339784e00b73e95144dd9b1da378b8a1d270c2314"), looks := true }, kinds := [], alts := [], laidByText := true, laidKinds := [.data, .data, .data, .data, .sentinel, .sentinel, .data, .data, .pinned, .pinned], laidTests := true, laidLooks := .later }
def MessagesReadUptoCardSaid : Prop := Claim7.holds Tryz.pinned (.plain (OpenSpec.upto messagesReadSpec)) messagesReadUptoCard
end Rows
end Go.Proofs.YtbcmpepmafpibabGreatDoor
