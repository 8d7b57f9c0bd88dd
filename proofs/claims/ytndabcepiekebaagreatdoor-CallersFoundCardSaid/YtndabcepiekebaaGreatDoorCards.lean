/-
  DERIVED. GIVEN WITH THE SEED: THE CARDS: each row of YtndabcepiekebaaGreatDoorRows.lean that lists a variable, with what it lists TIED to the program's text (the seventh form; the later family's looks); each row that meets fmt, with fmt's text TOLD by the authors' own Lean function (tested against real Go, not proved from fmt's source: count such statements apart). THE CARD IS WHAT COUNTS. Prove the row's statement (the work); the ties are given (YtndabcepiekebaaGreatDoorTie.lean); close each card by the builder's one call (the guide's Derived/Test/ToyasCard.lean, 'card_holds'). Laid BY PROGRAM, IN A SANDBOX (cutbox-door.mjs). By AI agents, Wed Nov 11 2026. No macro, syntax, notation, axiom, sorry.
-/
import Derived.Test.YtndabcepiekebaaGreatDoorRows
import GoSem.ClaimSeven
namespace Go.Proofs.YtndabcepiekebaaGreatDoor
namespace Rows

/-- THE TIED CARD OF 'gatelaw2.TokensAccepted'. -/
def tokensAcceptedCard : Claim7 := { stood := { row := tokensAcceptedRow, standIns := [], harness := (true, "76e3552af9deb1ccb3795002411ed0f51ce88e23077b7010b46676ded0a3cf9e"), looks := true }, kinds := [], alts := [], laidByText := true, laidKinds := [.data, .data, .data, .data, .sentinel, .sentinel, .pinned], laidTests := true, laidLooks := .later }
def TokensAcceptedCardSaid : Prop := Claim7.holds Tryz.pinned (.plain (OpenSpec.ofChange tokensAcceptedSpec)) tokensAcceptedCard

/-- THE TIED CARD OF 'gatelaw2.TokensRevoked'. -/
def tokensRevokedCard : Claim7 := { stood := { row := tokensRevokedRow, standIns := [], harness := (true, "76e3552af9deb1ccb3795002411ed0f51ce88e23077b7010b46676ded0a3cf9e"), looks := true }, kinds := [], alts := [], laidByText := true, laidKinds := [.data, .pinned], laidTests := true, laidLooks := .later }
def TokensRevokedCardSaid : Prop := Claim7.holds Tryz.pinned (.plain (OpenSpec.ofChange tokensRevokedSpec)) tokensRevokedCard

/-- THE TIED CARD OF 'gatelaw2.CallersFound'. -/
def callersFoundCard : Claim7 := { stood := { row := callersFoundRow, standIns := [], harness := (true, "76e3552af9deb1ccb3795002411ed0f51ce88e23077b7010b46676ded0a3cf9e"), looks := true }, kinds := [], alts := [], laidByText := true, laidKinds := [.data, .data, .data, .data, .sentinel, .sentinel, .data, .data, .pinned, .pinned], laidTests := true, laidLooks := .later }
def CallersFoundCardSaid : Prop := Claim7.holds Tryz.pinned (.plain (OpenSpec.ofChange callersFoundSpec)) callersFoundCard

/-- THE SECOND FORM's CARD OF 'gatelaw2.TokensAccepted'. -/
def tokensAcceptedUptoCard : Claim7 := { stood := { row := tokensAcceptedUptoRow, standIns := [], harness := (true, "76e3552af9deb1ccb3795002411ed0f51ce88e23077b7010b46676ded0a3cf9e"), looks := true }, kinds := [], alts := [], laidByText := true, laidKinds := [.data, .data, .data, .data, .sentinel, .sentinel, .pinned], laidTests := true, laidLooks := .later }
def TokensAcceptedUptoCardSaid : Prop := Claim7.holds Tryz.pinned (.plain (OpenSpec.upto tokensAcceptedSpec)) tokensAcceptedUptoCard

/-- THE SECOND FORM's CARD OF 'gatelaw2.TokensRevoked'. -/
def tokensRevokedUptoCard : Claim7 := { stood := { row := tokensRevokedUptoRow, standIns := [], harness := (true, "76e3552af9deb1ccb3795002411ed0f51ce88e23077b7010b46676ded0a3cf9e"), looks := true }, kinds := [], alts := [], laidByText := true, laidKinds := [.data, .pinned], laidTests := true, laidLooks := .later }
def TokensRevokedUptoCardSaid : Prop := Claim7.holds Tryz.pinned (.plain (OpenSpec.upto tokensRevokedSpec)) tokensRevokedUptoCard

/-- THE SECOND FORM's CARD OF 'gatelaw2.CallersFound'. -/
def callersFoundUptoCard : Claim7 := { stood := { row := callersFoundUptoRow, standIns := [], harness := (true, "76e3552af9deb1ccb3795002411ed0f51ce88e23077b7010b46676ded0a3cf9e"), looks := true }, kinds := [], alts := [], laidByText := true, laidKinds := [.data, .data, .data, .data, .sentinel, .sentinel, .data, .data, .pinned, .pinned], laidTests := true, laidLooks := .later }
def CallersFoundUptoCardSaid : Prop := Claim7.holds Tryz.pinned (.plain (OpenSpec.upto callersFoundSpec)) callersFoundUptoCard
end Rows
end Go.Proofs.YtndabcepiekebaaGreatDoor
