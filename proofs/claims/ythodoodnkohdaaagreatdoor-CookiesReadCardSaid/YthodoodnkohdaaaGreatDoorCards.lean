/-
  DERIVED. GIVEN WITH THE SEED: THE CARDS: each row of YthodoodnkohdaaaGreatDoorRows.lean that lists a variable, with what it lists TIED to the program's text (the seventh form; the later family's looks); each row that meets fmt, with fmt's text TOLD by the authors' own Lean function (tested against real Go, not proved from fmt's source: count such statements apart). THE CARD IS WHAT COUNTS. Prove the row's statement (the work); the ties are given (YthodoodnkohdaaaGreatDoorTie.lean); close each card by the builder's one call (the guide's Derived/Test/ToyasCard.lean, 'card_holds'). Laid BY PROGRAM, IN A SANDBOX (cutbox-door.mjs). By AI agents, Wed Nov 11 2026. No macro, syntax, notation, axiom, sorry.
-/
import Derived.Test.YthodoodnkohdaaaGreatDoorRows
import GoSem.ClaimSeven
namespace Go.Proofs.YthodoodnkohdaaaGreatDoor
namespace Rows

/-- THE TIED CARD OF 'gatelaw2.CookiesRead'. -/
def cookiesReadCard : Claim7 := { stood := { row := cookiesReadRow, standIns := [], harness := (true, "43ed21e1286f87a44b26c15aeef4489c6d5fc113ccda40180134266071c28e7c"), looks := true }, kinds := [], alts := [], laidByText := true, laidKinds := [.data, .data, .data, .data, .sentinel, .sentinel, .data, .data, .pinned, .pinned], laidTests := true, laidLooks := .later }
def CookiesReadCardSaid : Prop := Claim7.holds Tryz.pinned (.plain (OpenSpec.ofChange cookiesReadSpec)) cookiesReadCard

/-- THE SECOND FORM's CARD OF 'gatelaw2.CookiesRead'. -/
def cookiesReadUptoCard : Claim7 := { stood := { row := cookiesReadUptoRow, standIns := [], harness := (true, "43ed21e1286f87a44b26c15aeef4489c6d5fc113ccda40180134266071c28e7c"), looks := true }, kinds := [], alts := [], laidByText := true, laidKinds := [.data, .data, .data, .data, .sentinel, .sentinel, .data, .data, .pinned, .pinned], laidTests := true, laidLooks := .later }
def CookiesReadUptoCardSaid : Prop := Claim7.holds Tryz.pinned (.plain (OpenSpec.upto cookiesReadSpec)) cookiesReadUptoCard
end Rows
end Go.Proofs.YthodoodnkohdaaaGreatDoor
