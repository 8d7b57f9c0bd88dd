/-
  DERIVED. GIVEN WITH THE SEED: THE CARDS: each row of YtihjlkocfeoelaaGreatDoorRows.lean that lists a variable, with what it lists TIED to the program's text (the seventh form; the later family's looks); each row that meets fmt, with fmt's text TOLD by the authors' own Lean function (tested against real Go, not proved from fmt's source: count such statements apart). THE CARD IS WHAT COUNTS. Prove the row's statement (the work); the ties are given (YtihjlkocfeoelaaGreatDoorTie.lean); close each card by the builder's one call (the guide's Derived/Test/ToyasCard.lean, 'card_holds'). Laid BY PROGRAM, IN A SANDBOX (cutbox-door.mjs). By AI agents, Wed Nov 11 2026. No macro, syntax, notation, axiom, sorry.
-/
import Derived.Test.YtihjlkocfeoelaaGreatDoorRows
import GoSem.ClaimSeven
namespace Go.Proofs.YtihjlkocfeoelaaGreatDoor
namespace Rows

/-- THE TIED CARD OF 'gatelaw2.ClaimsWritten'. -/
def claimsWrittenCard : Claim7 := { stood := { row := claimsWrittenRow, standIns := [], harness := (true, "a7e8850c3d51eb9bca5af739d5e7b78dd43d752b0991c2f304fc8fae0004b83a"), looks := true }, kinds := [], alts := [], laidByText := true, laidKinds := [.data, .data, .data, .data, .sentinel, .sentinel, .pinned], laidTests := true, laidLooks := .later }
def ClaimsWrittenCardSaid : Prop := Claim7.holds Tryz.pinned (.plain (OpenSpec.ofChange claimsWrittenSpec)) claimsWrittenCard

/-- THE SECOND FORM's CARD OF 'gatelaw2.ClaimsWritten'. -/
def claimsWrittenUptoCard : Claim7 := { stood := { row := claimsWrittenUptoRow, standIns := [], harness := (true, "a7e8850c3d51eb9bca5af739d5e7b78dd43d752b0991c2f304fc8fae0004b83a"), looks := true }, kinds := [], alts := [], laidByText := true, laidKinds := [.data, .data, .data, .data, .sentinel, .sentinel, .pinned], laidTests := true, laidLooks := .later }
def ClaimsWrittenUptoCardSaid : Prop := Claim7.holds Tryz.pinned (.plain (OpenSpec.upto claimsWrittenSpec)) claimsWrittenUptoCard
end Rows
end Go.Proofs.YtihjlkocfeoelaaGreatDoor
