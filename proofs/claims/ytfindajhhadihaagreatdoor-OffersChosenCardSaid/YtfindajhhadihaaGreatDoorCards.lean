/-
  DERIVED. GIVEN WITH THE SEED: THE CARDS: each row of YtfindajhhadihaaGreatDoorRows.lean that lists a variable, with what it lists TIED to the program's text (the seventh form; the later family's looks); each row that meets fmt, with fmt's text TOLD by the authors' own Lean function (tested against real Go, not proved from fmt's source: count such statements apart). THE CARD IS WHAT COUNTS. Prove the row's statement (the work); the ties are given (YtfindajhhadihaaGreatDoorTie.lean); close each card by the builder's one call (the guide's Derived/Test/ToyasCard.lean, 'card_holds'). Laid BY PROGRAM, IN A SANDBOX (cutbox-door.mjs). By AI agents, Wed Nov 11 2026. No macro, syntax, notation, axiom, sorry.
-/
import Derived.Test.YtfindajhhadihaaGreatDoorRows
import GoSem.ClaimSeven
namespace Go.Proofs.YtfindajhhadihaaGreatDoor
namespace Rows

/-- THE TIED CARD OF 'gatelaw2.OffersChosen'. -/
def offersChosenCard : Claim7 := { stood := { row := offersChosenRow, standIns := [], harness := (true, "e72ea1463ba67693fd8d293e6c2ba8a139b9f64d769ffa2d4f57ce87857ee5d0"), looks := true }, kinds := [], alts := [], laidByText := true, laidKinds := [.data, .data, .data, .data, .sentinel, .sentinel, .data, .data, .pinned, .pinned], laidTests := true, laidLooks := .later }
def OffersChosenCardSaid : Prop := Claim7.holds Tryz.pinned (.plain (OpenSpec.ofChange offersChosenSpec)) offersChosenCard

/-- THE SECOND FORM's CARD OF 'gatelaw2.OffersChosen'. -/
def offersChosenUptoCard : Claim7 := { stood := { row := offersChosenUptoRow, standIns := [], harness := (true, "e72ea1463ba67693fd8d293e6c2ba8a139b9f64d769ffa2d4f57ce87857ee5d0"), looks := true }, kinds := [], alts := [], laidByText := true, laidKinds := [.data, .data, .data, .data, .sentinel, .sentinel, .data, .data, .pinned, .pinned], laidTests := true, laidLooks := .later }
def OffersChosenUptoCardSaid : Prop := Claim7.holds Tryz.pinned (.plain (OpenSpec.upto offersChosenSpec)) offersChosenUptoCard
end Rows
end Go.Proofs.YtfindajhhadihaaGreatDoor
