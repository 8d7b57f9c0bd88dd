/-
  DERIVED. GIVEN WITH THE SEED: THE CARDS: each row of YtpjjkhcojjcdpaaGreatDoorRows.lean that lists a variable, with what it lists TIED to the program's text (the seventh form; the later family's looks); each row that meets fmt, with fmt's text TOLD by the authors' own Lean function (tested against real Go, not proved from fmt's source: count such statements apart). THE CARD IS WHAT COUNTS. Prove the row's statement (the work); the ties are given (YtpjjkhcojjcdpaaGreatDoorTie.lean); close each card by the builder's one call (the guide's Derived/Test/ToyasCard.lean, 'card_holds'). Laid BY PROGRAM, IN A SANDBOX (cutbox-door.mjs). By AI agents, Wed Nov 11 2026. No macro, syntax, notation, axiom, sorry.
-/
import Derived.Test.YtpjjkhcojjcdpaaGreatDoorRows
import GoSem.ClaimSeven
namespace Go.Proofs.YtpjjkhcojjcdpaaGreatDoor
namespace Rows

/-- THE TIED CARD OF 'gatelaw2.ListsRead'. -/
def listsReadCard : Claim7 := { stood := { row := listsReadRow, standIns := [], harness := (true, "7ab8d7f2080cc8afc8917d8d9101c2ea82a58435a813e60c9189693ea671e418"), looks := true }, kinds := [], alts := [], laidByText := true, laidKinds := [.data, .data, .data, .data, .sentinel, .sentinel, .pinned], laidTests := true, laidLooks := .later }
def ListsReadCardSaid : Prop := Claim7.holds Tryz.pinned (.plain (OpenSpec.ofChange listsReadSpec)) listsReadCard

/-- THE SECOND FORM's CARD OF 'gatelaw2.ListsRead'. -/
def listsReadUptoCard : Claim7 := { stood := { row := listsReadUptoRow, standIns := [], harness := (true, "7ab8d7f2080cc8afc8917d8d9101c2ea82a58435a813e60c9189693ea671e418"), looks := true }, kinds := [], alts := [], laidByText := true, laidKinds := [.data, .data, .data, .data, .sentinel, .sentinel, .pinned], laidTests := true, laidLooks := .later }
def ListsReadUptoCardSaid : Prop := Claim7.holds Tryz.pinned (.plain (OpenSpec.upto listsReadSpec)) listsReadUptoCard
end Rows
end Go.Proofs.YtpjjkhcojjcdpaaGreatDoor
