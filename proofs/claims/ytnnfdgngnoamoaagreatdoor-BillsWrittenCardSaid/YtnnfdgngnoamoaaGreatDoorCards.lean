/-
  DERIVED. GIVEN WITH THE SEED: THE CARDS: each row of YtnnfdgngnoamoaaGreatDoorRows.lean that lists a variable, with what it lists TIED to the program's text (the seventh form; the later family's looks); each row that meets fmt, with fmt's text TOLD by the authors' own Lean function (tested against real Go, not proved from fmt's source: count such statements apart). THE CARD IS WHAT COUNTS. Prove the row's statement (the work); the ties are given (YtnnfdgngnoamoaaGreatDoorTie.lean); close each card by the builder's one call (the guide's Derived/Test/ToyasCard.lean, 'card_holds'). Laid BY PROGRAM, IN A SANDBOX (cutbox-door.mjs). By AI agents, Wed Nov 11 2026. No macro, syntax, notation, axiom, sorry.
-/
import Derived.Test.YtnnfdgngnoamoaaGreatDoorRows
import GoSem.ClaimSeven
namespace Go.Proofs.YtnnfdgngnoamoaaGreatDoor
namespace Rows

/-- THE TIED CARD OF 'gatelaw2.BillsWritten'. -/
def billsWrittenCard : Claim7 := { stood := { row := billsWrittenRow, standIns := [], harness := (true, "c68b99175fb353fb5dfeeb5086f766735eab4b054eff7718f91bebe60b9ee725"), looks := false }, kinds := [], alts := [], laidByText := true, laidKinds := [.data, .pinned], laidTests := true, laidLooks := .later }
def BillsWrittenCardSaid : Prop := Claim7.holds Tryz.pinned (.plain (OpenSpec.ofChange billsWrittenSpec)) billsWrittenCard

/-- THE SECOND FORM's CARD OF 'gatelaw2.BillsWritten'. -/
def billsWrittenUptoCard : Claim7 := { stood := { row := billsWrittenUptoRow, standIns := [], harness := (true, "c68b99175fb353fb5dfeeb5086f766735eab4b054eff7718f91bebe60b9ee725"), looks := false }, kinds := [], alts := [], laidByText := true, laidKinds := [.data, .pinned], laidTests := true, laidLooks := .later }
def BillsWrittenUptoCardSaid : Prop := Claim7.holds Tryz.pinned (.plain (OpenSpec.upto billsWrittenSpec)) billsWrittenUptoCard
end Rows
end Go.Proofs.YtnnfdgngnoamoaaGreatDoor
