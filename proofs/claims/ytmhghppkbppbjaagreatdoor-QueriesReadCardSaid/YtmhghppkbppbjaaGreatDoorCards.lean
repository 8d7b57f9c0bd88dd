/-
  DERIVED. GIVEN WITH THE SEED: THE CARDS: each row of YtmhghppkbppbjaaGreatDoorRows.lean that lists a variable, with what it lists TIED to the program's text (the seventh form; the later family's looks); each row that meets fmt, with fmt's text TOLD by the authors' own Lean function (tested against real Go, not proved from fmt's source: count such statements apart). THE CARD IS WHAT COUNTS. Prove the row's statement (the work); the ties are given (YtmhghppkbppbjaaGreatDoorTie.lean); close each card by the builder's one call (the guide's Derived/Test/ToyasCard.lean, 'card_holds'). Laid BY PROGRAM, IN A SANDBOX (cutbox-door.mjs). By AI agents, Wed Nov 11 2026. No macro, syntax, notation, axiom, sorry.
-/
import Derived.Test.YtmhghppkbppbjaaGreatDoorRows
import GoSem.ClaimSeven
namespace Go.Proofs.YtmhghppkbppbjaaGreatDoor
namespace Rows

/-- THE TIED CARD OF 'gatelaw2.QueriesRead'. -/
def queriesReadCard : Claim7 := { stood := { row := queriesReadRow, standIns := [], harness := (true, "d119c54cbc713e861658a68599813952daf22768bd7ff6da4e8dfde777c3a4dc"), looks := true }, kinds := [], alts := [], laidByText := true, laidKinds := [.data, .data, .data, .data, .sentinel, .sentinel, .pinned], laidTests := true, laidLooks := .later }
def QueriesReadCardSaid : Prop := Claim7.holds Tryz.pinned (.plain (OpenSpec.ofChange queriesReadSpec)) queriesReadCard

/-- THE TIED CARD OF 'gatelaw2.TokensRevoked'. -/
def tokensRevokedCard : Claim7 := { stood := { row := tokensRevokedRow, standIns := [], harness := (true, "d119c54cbc713e861658a68599813952daf22768bd7ff6da4e8dfde777c3a4dc"), looks := true }, kinds := [], alts := [], laidByText := true, laidKinds := [.data, .pinned], laidTests := true, laidLooks := .later }
def TokensRevokedCardSaid : Prop := Claim7.holds Tryz.pinned (.plain (OpenSpec.ofChange tokensRevokedSpec)) tokensRevokedCard

/-- THE TIED CARD OF 'gatelaw2.ClaimsWritten'. -/
def claimsWrittenCard : Claim7 := { stood := { row := claimsWrittenRow, standIns := [], harness := (true, "d119c54cbc713e861658a68599813952daf22768bd7ff6da4e8dfde777c3a4dc"), looks := true }, kinds := [], alts := [], laidByText := true, laidKinds := [.data, .data, .data, .data, .sentinel, .sentinel, .pinned], laidTests := true, laidLooks := .later }
def ClaimsWrittenCardSaid : Prop := Claim7.holds Tryz.pinned (.plain (OpenSpec.ofChange claimsWrittenSpec)) claimsWrittenCard

/-- THE SECOND FORM's CARD OF 'gatelaw2.QueriesRead'. -/
def queriesReadUptoCard : Claim7 := { stood := { row := queriesReadUptoRow, standIns := [], harness := (true, "d119c54cbc713e861658a68599813952daf22768bd7ff6da4e8dfde777c3a4dc"), looks := true }, kinds := [], alts := [], laidByText := true, laidKinds := [.data, .data, .data, .data, .sentinel, .sentinel, .pinned], laidTests := true, laidLooks := .later }
def QueriesReadUptoCardSaid : Prop := Claim7.holds Tryz.pinned (.plain (OpenSpec.upto queriesReadSpec)) queriesReadUptoCard

/-- THE SECOND FORM's CARD OF 'gatelaw2.TokensRevoked'. -/
def tokensRevokedUptoCard : Claim7 := { stood := { row := tokensRevokedUptoRow, standIns := [], harness := (true, "d119c54cbc713e861658a68599813952daf22768bd7ff6da4e8dfde777c3a4dc"), looks := true }, kinds := [], alts := [], laidByText := true, laidKinds := [.data, .pinned], laidTests := true, laidLooks := .later }
def TokensRevokedUptoCardSaid : Prop := Claim7.holds Tryz.pinned (.plain (OpenSpec.upto tokensRevokedSpec)) tokensRevokedUptoCard

/-- THE SECOND FORM's CARD OF 'gatelaw2.ClaimsWritten'. -/
def claimsWrittenUptoCard : Claim7 := { stood := { row := claimsWrittenUptoRow, standIns := [], harness := (true, "d119c54cbc713e861658a68599813952daf22768bd7ff6da4e8dfde777c3a4dc"), looks := true }, kinds := [], alts := [], laidByText := true, laidKinds := [.data, .data, .data, .data, .sentinel, .sentinel, .pinned], laidTests := true, laidLooks := .later }
def ClaimsWrittenUptoCardSaid : Prop := Claim7.holds Tryz.pinned (.plain (OpenSpec.upto claimsWrittenSpec)) claimsWrittenUptoCard
end Rows
end Go.Proofs.YtmhghppkbppbjaaGreatDoor
