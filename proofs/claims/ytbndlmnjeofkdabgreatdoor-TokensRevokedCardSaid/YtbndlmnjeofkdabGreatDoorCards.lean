/-
  DERIVED. GIVEN WITH THE SEED: THE CARDS: each row of YtbndlmnjeofkdabGreatDoorRows.lean that lists a variable, with what it lists TIED to the program's text (the seventh form; the later family's looks); each row that meets fmt, with fmt's text TOLD by the authors' own Lean function (tested against real Go, not proved from fmt's source: count such statements apart). THE CARD IS WHAT COUNTS. Prove the row's statement (the work); the ties are given (YtbndlmnjeofkdabGreatDoorTie.lean); close each card by the builder's one call (the guide's Derived/Test/ToyasCard.lean, 'card_holds'). Laid BY PROGRAM, IN A SANDBOX (cutbox-door.mjs). By AI agents, Wed Nov 11 2026. No macro, syntax, notation, axiom, sorry.
-/
import Derived.Test.YtbndlmnjeofkdabGreatDoorRows
import GoSem.ClaimSeven
namespace Go.Proofs.YtbndlmnjeofkdabGreatDoor
namespace Rows

/-- THE TIED CARD OF 'gatelaw2.TokensRevoked'. -/
def tokensRevokedCard : Claim7 := { stood := { row := tokensRevokedRow, standIns := [], harness := (true, "2109e99f398aed2041fa85166e4dc15f5cc029dbfb3d8d24a3d2863d7e236d0c"), looks := false }, kinds := [], alts := [], laidByText := true, laidKinds := [.data, .pinned], laidTests := true, laidLooks := .later }
def TokensRevokedCardSaid : Prop := Claim7.holds Tryz.pinned (.plain (OpenSpec.ofChange tokensRevokedSpec)) tokensRevokedCard

/-- THE SECOND FORM's CARD OF 'gatelaw2.TokensRevoked'. -/
def tokensRevokedUptoCard : Claim7 := { stood := { row := tokensRevokedUptoRow, standIns := [], harness := (true, "2109e99f398aed2041fa85166e4dc15f5cc029dbfb3d8d24a3d2863d7e236d0c"), looks := false }, kinds := [], alts := [], laidByText := true, laidKinds := [.data, .pinned], laidTests := true, laidLooks := .later }
def TokensRevokedUptoCardSaid : Prop := Claim7.holds Tryz.pinned (.plain (OpenSpec.upto tokensRevokedSpec)) tokensRevokedUptoCard
end Rows
end Go.Proofs.YtbndlmnjeofkdabGreatDoor
