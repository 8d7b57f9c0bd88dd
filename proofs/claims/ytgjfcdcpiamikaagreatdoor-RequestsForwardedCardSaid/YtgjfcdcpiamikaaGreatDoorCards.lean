/-
  DERIVED. GIVEN WITH THE SEED: THE CARDS: each row of YtgjfcdcpiamikaaGreatDoorRows.lean that lists a variable, with what it lists TIED to the program's text (the seventh form; the later family's looks); each row that meets fmt, with fmt's text TOLD by the authors' own Lean function (tested against real Go, not proved from fmt's source: count such statements apart). THE CARD IS WHAT COUNTS. Prove the row's statement (the work); the ties are given (YtgjfcdcpiamikaaGreatDoorTie.lean); close each card by the builder's one call (the guide's Derived/Test/ToyasCard.lean, 'card_holds'). Laid BY PROGRAM, IN A SANDBOX (cutbox-door.mjs). By AI agents, Wed Nov 11 2026. No macro, syntax, notation, axiom, sorry.
-/
import Derived.Test.YtgjfcdcpiamikaaGreatDoorRows
import GoSem.ClaimSeven
namespace Go.Proofs.YtgjfcdcpiamikaaGreatDoor
namespace Rows

/-- THE TIED CARD OF 'gatelaw2.RequestsForwarded'. -/
def requestsForwardedCard : Claim7 := { stood := { row := requestsForwardedRow, standIns := [], harness := (true, "bb53d54d0c4f4a44eeb36b2bfbdcfa00cd8f1bf341fa04eb6260492bff47f4b9"), looks := true }, kinds := [], alts := [], laidByText := true, laidKinds := [.data, .data, .data, .data, .sentinel, .sentinel, .data, .data, .pinned, .pinned], laidTests := true, laidLooks := .later }
def RequestsForwardedCardSaid : Prop := Claim7.holds Tryz.pinned (.plain (OpenSpec.ofChange requestsForwardedSpec)) requestsForwardedCard

/-- THE SECOND FORM's CARD OF 'gatelaw2.RequestsForwarded'. -/
def requestsForwardedUptoCard : Claim7 := { stood := { row := requestsForwardedUptoRow, standIns := [], harness := (true, "bb53d54d0c4f4a44eeb36b2bfbdcfa00cd8f1bf341fa04eb6260492bff47f4b9"), looks := true }, kinds := [], alts := [], laidByText := true, laidKinds := [.data, .data, .data, .data, .sentinel, .sentinel, .data, .data, .pinned, .pinned], laidTests := true, laidLooks := .later }
def RequestsForwardedUptoCardSaid : Prop := Claim7.holds Tryz.pinned (.plain (OpenSpec.upto requestsForwardedSpec)) requestsForwardedUptoCard
end Rows
end Go.Proofs.YtgjfcdcpiamikaaGreatDoor
