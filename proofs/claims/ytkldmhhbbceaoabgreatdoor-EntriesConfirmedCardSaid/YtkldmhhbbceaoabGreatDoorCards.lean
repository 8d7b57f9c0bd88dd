/-
  DERIVED. GIVEN WITH THE SEED: THE CARDS: each row of YtkldmhhbbceaoabGreatDoorRows.lean that lists a variable, with what it lists TIED to the program's text (the seventh form; the later family's looks); each row that meets fmt, with fmt's text TOLD by the authors' own Lean function (tested against real Go, not proved from fmt's source: count such statements apart). THE CARD IS WHAT COUNTS. Prove the row's statement (the work); the ties are given (YtkldmhhbbceaoabGreatDoorTie.lean); close each card by the builder's one call (the guide's Derived/Test/ToyasCard.lean, 'card_holds'). Laid BY PROGRAM, IN A SANDBOX (cutbox-door.mjs). By AI agents, Wed Nov 11 2026. No macro, syntax, notation, axiom, sorry.
-/
import Derived.Test.YtkldmhhbbceaoabGreatDoorRows
import GoSem.ClaimSeven
namespace Go.Proofs.YtkldmhhbbceaoabGreatDoor
namespace Rows

/-- THE TIED CARD OF 'gatelaw2.EntriesConfirmed'. -/
def entriesConfirmedCard : Claim7 := { stood := { row := entriesConfirmedRow, standIns := [], harness := (true, "d168a20a1d19af5bfd1047a9c2d0dccc6f2fd81c3273a7d1383c73c0a7ea6720"), looks := true }, kinds := [], alts := [], laidByText := true, laidKinds := [.data, .data, .data, .data], laidTests := true, laidLooks := .later }
def EntriesConfirmedCardSaid : Prop := Claim7.holds Tryz.pinned (.plain (OpenSpec.ofChange entriesConfirmedSpec)) entriesConfirmedCard

/-- THE SECOND FORM's CARD OF 'gatelaw2.EntriesConfirmed'. -/
def entriesConfirmedUptoCard : Claim7 := { stood := { row := entriesConfirmedUptoRow, standIns := [], harness := (true, "d168a20a1d19af5bfd1047a9c2d0dccc6f2fd81c3273a7d1383c73c0a7ea6720"), looks := true }, kinds := [], alts := [], laidByText := true, laidKinds := [.data, .data, .data, .data], laidTests := true, laidLooks := .later }
def EntriesConfirmedUptoCardSaid : Prop := Claim7.holds Tryz.pinned (.plain (OpenSpec.upto entriesConfirmedSpec)) entriesConfirmedUptoCard
end Rows
end Go.Proofs.YtkldmhhbbceaoabGreatDoor
