/-
  DERIVED. GIVEN WITH THE SEED: THE CARDS: each row of YtodipncpfipjnaaGreatDoorRows.lean that lists a variable, with what it lists TIED to the program's text (the seventh form; the later family's looks); each row that meets fmt, with fmt's text TOLD by the authors' own Lean function (tested against real Go, not proved from fmt's source: count such statements apart). THE CARD IS WHAT COUNTS. Prove the row's statement (the work); the ties are given (YtodipncpfipjnaaGreatDoorTie.lean); close each card by the builder's one call (the guide's Derived/Test/ToyasCard.lean, 'card_holds'). Laid BY PROGRAM, IN A SANDBOX (cutbox-door.mjs). By AI agents, Wed Nov 11 2026. No macro, syntax, notation, axiom, sorry.
-/
import Derived.Test.YtodipncpfipjnaaGreatDoorRows
import GoSem.ClaimSeven
namespace Go.Proofs.YtodipncpfipjnaaGreatDoor
namespace Rows

/-- THE TIED CARD OF 'gatelaw2.MessagesWritten'. -/
def messagesWrittenCard : Claim7 := { stood := { row := messagesWrittenRow, standIns := [], harness := (true, "b60c20050d4aee60af6f6bd633dda3153867f4d55877861b146c718cd2d771ee"), looks := true }, kinds := [], alts := [], laidByText := true, laidKinds := [.data, .data, .data, .data, .sentinel, .sentinel, .data, .data, .pinned, .pinned], laidTests := true, laidLooks := .later }
def MessagesWrittenCardSaid : Prop := Claim7.holds Tryz.pinned (.plain (OpenSpec.ofChange messagesWrittenSpec)) messagesWrittenCard

/-- THE SECOND FORM's CARD OF 'gatelaw2.MessagesWritten'. -/
def messagesWrittenUptoCard : Claim7 := { stood := { row := messagesWrittenUptoRow, standIns := [], harness := (true, "b60c20050d4aee60af6f6bd633dda3153867f4d55877861b146c718cd2d771ee"), looks := true }, kinds := [], alts := [], laidByText := true, laidKinds := [.data, .data, .data, .data, .sentinel, .sentinel, .data, .data, .pinned, .pinned], laidTests := true, laidLooks := .later }
def MessagesWrittenUptoCardSaid : Prop := Claim7.holds Tryz.pinned (.plain (OpenSpec.upto messagesWrittenSpec)) messagesWrittenUptoCard
end Rows
end Go.Proofs.YtodipncpfipjnaaGreatDoor
