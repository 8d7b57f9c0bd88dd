/-
  DERIVED. GIVEN WITH THE SEED: THE CARDS: each row of YtbndlmnjeofkdadGreatDoorRows.lean that lists a variable, with what it lists TIED to the program's text (the seventh form; the later family's looks); each row that meets fmt, with fmt's text TOLD by the authors' own Lean function (tested against real Go, not proved from fmt's source: count such statements apart). THE CARD IS WHAT COUNTS. Prove the row's statement (the work); the ties are given (YtbndlmnjeofkdadGreatDoorTie.lean); close each card by the builder's one call (the guide's Derived/Test/ToyasCard.lean, 'card_holds'). Laid BY PROGRAM, IN A SANDBOX (cutbox-door.mjs). By AI agents, Wed Nov 11 2026. No macro, syntax, notation, axiom, sorry.
-/
import Derived.Test.YtbndlmnjeofkdadGreatDoorRows
import GoSem.ClaimSeven
namespace Go.Proofs.YtbndlmnjeofkdadGreatDoor
namespace Rows

/-- THE TIED CARD OF 'gatetop.TopCallersMay'. -/
def topCallersMayCard : Claim7 := { stood := { row := topCallersMayRow, standIns := [], harness := (true, "5caf7bb970ecd7c21577c62852312d70661e8b3294839f5f261b8d58d8d9f80d"), looks := true }, kinds := [], alts := [], laidByText := true, laidKinds := [.data, .data, .data, .data, .sentinel, .sentinel, .data, .data, .pinned, .pinned], laidTests := true, laidLooks := .later }
def TopCallersMayCardSaid : Prop := Claim7.holds Tryz.pinned (.plain (OpenSpec.ofChange topCallersMaySpec)) topCallersMayCard

/-- THE SECOND FORM's CARD OF 'gatetop.TopCallersMay'. -/
def topCallersMayUptoCard : Claim7 := { stood := { row := topCallersMayUptoRow, standIns := [], harness := (true, "5caf7bb970ecd7c21577c62852312d70661e8b3294839f5f261b8d58d8d9f80d"), looks := true }, kinds := [], alts := [], laidByText := true, laidKinds := [.data, .data, .data, .data, .sentinel, .sentinel, .data, .data, .pinned, .pinned], laidTests := true, laidLooks := .later }
def TopCallersMayUptoCardSaid : Prop := Claim7.holds Tryz.pinned (.plain (OpenSpec.upto topCallersMaySpec)) topCallersMayUptoCard
end Rows
end Go.Proofs.YtbndlmnjeofkdadGreatDoor
