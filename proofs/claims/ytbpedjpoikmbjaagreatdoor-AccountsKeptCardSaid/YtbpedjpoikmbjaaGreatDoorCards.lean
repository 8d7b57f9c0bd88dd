/-
  DERIVED. GIVEN WITH THE SEED: THE CARDS: each row of YtbpedjpoikmbjaaGreatDoorRows.lean that lists a variable, with what it lists TIED to the program's text (the seventh form; the later family's looks); each row that meets fmt, with fmt's text TOLD by the authors' own Lean function (tested against real Go, not proved from fmt's source: count such statements apart). THE CARD IS WHAT COUNTS. Prove the row's statement (the work); the ties are given (YtbpedjpoikmbjaaGreatDoorTie.lean); close each card by the builder's one call (the guide's Derived/Test/ToyasCard.lean, 'card_holds'). Laid BY PROGRAM, IN A SANDBOX (cutbox-door.mjs). By AI agents, Wed Nov 11 2026. No macro, syntax, notation, axiom, sorry.
-/
import Derived.Test.YtbpedjpoikmbjaaGreatDoorRows
import GoSem.ClaimSeven
namespace Go.Proofs.YtbpedjpoikmbjaaGreatDoor
namespace Rows

/-- THE TIED CARD OF 'gatelaw2.AccountsKept'. -/
def accountsKeptCard : Claim7 := { stood := { row := accountsKeptRow, standIns := [], harness := (true, "5a655e64f7ad084f48eda3b51edd0bf1a9cc3335eed36822df985d85b96c7d38"), looks := false }, kinds := [], alts := [], laidByText := true, laidKinds := [.data, .pinned], laidTests := true, laidLooks := .later }
def AccountsKeptCardSaid : Prop := Claim7.holds Tryz.pinned (.plain (OpenSpec.ofChange accountsKeptSpec)) accountsKeptCard

/-- THE SECOND FORM's CARD OF 'gatelaw2.AccountsKept'. -/
def accountsKeptUptoCard : Claim7 := { stood := { row := accountsKeptUptoRow, standIns := [], harness := (true, "5a655e64f7ad084f48eda3b51edd0bf1a9cc3335eed36822df985d85b96c7d38"), looks := false }, kinds := [], alts := [], laidByText := true, laidKinds := [.data, .pinned], laidTests := true, laidLooks := .later }
def AccountsKeptUptoCardSaid : Prop := Claim7.holds Tryz.pinned (.plain (OpenSpec.upto accountsKeptSpec)) accountsKeptUptoCard
end Rows
end Go.Proofs.YtbpedjpoikmbjaaGreatDoor
