/-
  DERIVED. GIVEN WITH THE SEED: THE CARDS: each row of YticadaaoggpenaaGreatDoorRows.lean that lists a variable, with what it lists TIED to the program's text (the seventh form; the later family's looks); each row that meets fmt, with fmt's text TOLD by the authors' own Lean function (tested against real Go, not proved from fmt's source: count such statements apart). THE CARD IS WHAT COUNTS. Prove the row's statement (the work); the ties are given (YticadaaoggpenaaGreatDoorTie.lean); close each card by the builder's one call (the guide's Derived/Test/ToyasCard.lean, 'card_holds'). Laid BY PROGRAM, IN A SANDBOX (cutbox-door.mjs). By AI agents, Wed Nov 11 2026. No macro, syntax, notation, axiom, sorry.
-/
import Derived.Test.YticadaaoggpenaaGreatDoorRows
import GoSem.ClaimSeven
namespace Go.Proofs.YticadaaoggpenaaGreatDoor
namespace Rows

/-- THE TIED CARD OF 'gatelaw2.SubsFollowed'. -/
def subsFollowedCard : Claim7 := { stood := { row := subsFollowedRow, standIns := [], harness := (true, "8f44dafbc7b1e79443f848af87be0c9814fea00c07cb5bb9ba340b40edbba8d2"), looks := false }, kinds := [], alts := [], laidByText := true, laidKinds := [.data, .pinned], laidTests := true, laidLooks := .later }
def SubsFollowedCardSaid : Prop := Claim7.holds Tryz.pinned (.plain (OpenSpec.ofChange subsFollowedSpec)) subsFollowedCard

/-- THE SECOND FORM's CARD OF 'gatelaw2.SubsFollowed'. -/
def subsFollowedUptoCard : Claim7 := { stood := { row := subsFollowedUptoRow, standIns := [], harness := (true, "8f44dafbc7b1e79443f848af87be0c9814fea00c07cb5bb9ba340b40edbba8d2"), looks := false }, kinds := [], alts := [], laidByText := true, laidKinds := [.data, .pinned], laidTests := true, laidLooks := .later }
def SubsFollowedUptoCardSaid : Prop := Claim7.holds Tryz.pinned (.plain (OpenSpec.upto subsFollowedSpec)) subsFollowedUptoCard
end Rows
end Go.Proofs.YticadaaoggpenaaGreatDoor
