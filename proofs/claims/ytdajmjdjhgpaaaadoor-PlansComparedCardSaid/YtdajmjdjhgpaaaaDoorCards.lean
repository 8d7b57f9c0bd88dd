/-
  DERIVED. GIVEN WITH THE SEED: THE CARDS: each row of YtdajmjdjhgpaaaaDoorRows.lean that lists a variable, with what it lists TIED to the program's text (the seventh form; the later family's looks); each row that meets fmt, with fmt's text TOLD by the authors' own Lean function (tested against real Go, not proved from fmt's source: count such statements apart). THE CARD IS WHAT COUNTS. Prove the row's statement (the work); the ties are given (YtdajmjdjhgpaaaaDoorTie.lean); close each card by the builder's one call (the guide's Derived/Test/ToyasCard.lean, 'card_holds'). Laid BY PROGRAM, IN A SANDBOX (cutbox-door.mjs). By AI agents, Wed Nov 11 2026. No macro, syntax, notation, axiom, sorry.
-/
import Derived.Test.YtdajmjdjhgpaaaaDoorRows
import GoSem.ClaimSeven
namespace Go.Proofs.YtdajmjdjhgpaaaaDoor
namespace Rows

/-- THE TIED CARD OF 'gatelaw2.CatalogsPrice'. -/
def catalogsPriceCard : Claim7 := { stood := { row := catalogsPriceRow, standIns := [], harness := (true, "be3e58713a01cc6dd6690a958f44a09cf15cc12898a408121e2dc5f36d47dff1"), looks := false }, kinds := [], alts := [], laidByText := true, laidKinds := [.data, .pinned], laidTests := true, laidLooks := .later }
def CatalogsPriceCardSaid : Prop := Claim7.holds Tryd.pinned (.plain (OpenSpec.ofChange catalogsPriceSpec)) catalogsPriceCard

/-- THE TIED CARD OF 'gatelaw2.PlansCompared'. -/
def plansComparedCard : Claim7 := { stood := { row := plansComparedRow, standIns := [], harness := (true, "be3e58713a01cc6dd6690a958f44a09cf15cc12898a408121e2dc5f36d47dff1"), looks := false }, kinds := [], alts := [], laidByText := true, laidKinds := [.data, .pinned], laidTests := true, laidLooks := .later }
def PlansComparedCardSaid : Prop := Claim7.holds Tryd.pinned (.plain (OpenSpec.ofChange plansComparedSpec)) plansComparedCard

/-- THE SECOND FORM's CARD OF 'gatelaw2.CatalogsPrice'. -/
def catalogsPriceUptoCard : Claim7 := { stood := { row := catalogsPriceUptoRow, standIns := [], harness := (true, "be3e58713a01cc6dd6690a958f44a09cf15cc12898a408121e2dc5f36d47dff1"), looks := false }, kinds := [], alts := [], laidByText := true, laidKinds := [.data, .pinned], laidTests := true, laidLooks := .later }
def CatalogsPriceUptoCardSaid : Prop := Claim7.holds Tryd.pinned (.plain (OpenSpec.upto catalogsPriceSpec)) catalogsPriceUptoCard

/-- THE SECOND FORM's CARD OF 'gatelaw2.PlansCompared'. -/
def plansComparedUptoCard : Claim7 := { stood := { row := plansComparedUptoRow, standIns := [], harness := (true, "be3e58713a01cc6dd6690a958f44a09cf15cc12898a408121e2dc5f36d47dff1"), looks := false }, kinds := [], alts := [], laidByText := true, laidKinds := [.data, .pinned], laidTests := true, laidLooks := .later }
def PlansComparedUptoCardSaid : Prop := Claim7.holds Tryd.pinned (.plain (OpenSpec.upto plansComparedSpec)) plansComparedUptoCard
end Rows
end Go.Proofs.YtdajmjdjhgpaaaaDoor
