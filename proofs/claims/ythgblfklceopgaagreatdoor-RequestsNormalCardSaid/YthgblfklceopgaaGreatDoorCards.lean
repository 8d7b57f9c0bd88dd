/-
  DERIVED. GIVEN WITH THE SEED: THE CARDS: each row of YthgblfklceopgaaGreatDoorRows.lean that lists a variable, with what it lists TIED to the program's text (the seventh form; the later family's looks); each row that meets fmt, with fmt's text TOLD by the authors' own Lean function (tested against real Go, not proved from fmt's source: count such statements apart). THE CARD IS WHAT COUNTS. Prove the row's statement (the work); the ties are given (YthgblfklceopgaaGreatDoorTie.lean); close each card by the builder's one call (the guide's Derived/Test/ToyasCard.lean, 'card_holds'). Laid BY PROGRAM, IN A SANDBOX (cutbox-door.mjs). By AI agents, Wed Nov 11 2026. No macro, syntax, notation, axiom, sorry.
-/
import Derived.Test.YthgblfklceopgaaGreatDoorRows
import GoSem.ClaimSeven
namespace Go.Proofs.YthgblfklceopgaaGreatDoor
namespace Rows

/-- THE TIED CARD OF 'gatelaw2.RequestsNormal'. -/
def requestsNormalCard : Claim7 := { stood := { row := requestsNormalRow, standIns := [], harness := (true, "1ad9253a235102bdd23045ba70f03e27e1651353b3a2007091a220288a3c9900"), looks := true }, kinds := [], alts := [], laidByText := true, laidKinds := [.data, .data, .data, .data, .sentinel, .sentinel, .data, .data, .pinned, .pinned], laidTests := true, laidLooks := .later }
def RequestsNormalCardSaid : Prop := Claim7.holds Tryz.pinned (.plain (OpenSpec.ofChange requestsNormalSpec)) requestsNormalCard

/-- THE SECOND FORM's CARD OF 'gatelaw2.RequestsNormal'. -/
def requestsNormalUptoCard : Claim7 := { stood := { row := requestsNormalUptoRow, standIns := [], harness := (true, "1ad9253a235102bdd23045ba70f03e27e1651353b3a2007091a220288a3c9900"), looks := true }, kinds := [], alts := [], laidByText := true, laidKinds := [.data, .data, .data, .data, .sentinel, .sentinel, .data, .data, .pinned, .pinned], laidTests := true, laidLooks := .later }
def RequestsNormalUptoCardSaid : Prop := Claim7.holds Tryz.pinned (.plain (OpenSpec.upto requestsNormalSpec)) requestsNormalUptoCard
end Rows
end Go.Proofs.YthgblfklceopgaaGreatDoor
