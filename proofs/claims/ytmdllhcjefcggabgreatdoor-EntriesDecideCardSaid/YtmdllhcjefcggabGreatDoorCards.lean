/-
  DERIVED. GIVEN WITH THE SEED: THE CARDS: each row of YtmdllhcjefcggabGreatDoorRows.lean that lists a variable, with what it lists TIED to the program's text (the seventh form; the later family's looks); each row that meets fmt, with fmt's text TOLD by the authors' own Lean function (tested against real Go, not proved from fmt's source: count such statements apart). THE CARD IS WHAT COUNTS. Prove the row's statement (the work); the ties are given (YtmdllhcjefcggabGreatDoorTie.lean); close each card by the builder's one call (the guide's Derived/Test/ToyasCard.lean, 'card_holds'). Laid BY PROGRAM, IN A SANDBOX (cutbox-door.mjs). By AI agents, Wed Nov 11 2026. No macro, syntax, notation, axiom, sorry.
-/
import Derived.Test.YtmdllhcjefcggabGreatDoorRows
import GoSem.ClaimSeven
namespace Go.Proofs.YtmdllhcjefcggabGreatDoor
namespace Rows

/-- THE TIED CARD OF 'gatelaw2.EntriesDecide'. -/
def entriesDecideCard : Claim7 := { stood := { row := entriesDecideRow, standIns := [], harness := (true, "b48a4c32386b773f8d4f268d96ede09884b9f1452c00a064154509b4af73c4f8"), looks := true }, kinds := [], alts := [], laidByText := true, laidKinds := [.data, .data, .data, .data, .sentinel, .sentinel, .data, .data, .pinned, .pinned], laidTests := true, laidLooks := .later }
def EntriesDecideCardSaid : Prop := Claim7.holds Tryz.pinned (.plain (OpenSpec.ofChange entriesDecideSpec)) entriesDecideCard

/-- THE SECOND FORM's CARD OF 'gatelaw2.EntriesDecide'. -/
def entriesDecideUptoCard : Claim7 := { stood := { row := entriesDecideUptoRow, standIns := [], harness := (true, "b48a4c32386b773f8d4f268d96ede09884b9f1452c00a064154509b4af73c4f8"), looks := true }, kinds := [], alts := [], laidByText := true, laidKinds := [.data, .data, .data, .data, .sentinel, .sentinel, .data, .data, .pinned, .pinned], laidTests := true, laidLooks := .later }
def EntriesDecideUptoCardSaid : Prop := Claim7.holds Tryz.pinned (.plain (OpenSpec.upto entriesDecideSpec)) entriesDecideUptoCard
end Rows
end Go.Proofs.YtmdllhcjefcggabGreatDoor
