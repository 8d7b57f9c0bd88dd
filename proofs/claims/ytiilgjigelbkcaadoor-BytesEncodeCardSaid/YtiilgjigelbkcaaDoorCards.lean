/-
  DERIVED. GIVEN WITH THE SEED: THE CARDS: each row of YtiilgjigelbkcaaDoorRows.lean that lists a variable, with what it lists TIED to the program's text (the seventh form; the later family's looks); each row that meets fmt, with fmt's text TOLD by the authors' own Lean function (tested against real Go, not proved from fmt's source: count such statements apart). THE CARD IS WHAT COUNTS. Prove the row's statement (the work); the ties are given (YtiilgjigelbkcaaDoorTie.lean); close each card by the builder's one call (the guide's Derived/Test/ToyasCard.lean, 'card_holds'). Laid BY PROGRAM, IN A SANDBOX (cutbox-door.mjs). By AI agents, Wed Nov 11 2026. No macro, syntax, notation, axiom, sorry.
-/
import Derived.Test.YtiilgjigelbkcaaDoorRows
import GoSem.ClaimSeven
namespace Go.Proofs.YtiilgjigelbkcaaDoor
namespace Rows

/-- THE TIED CARD OF 'gatelaw2.BytesEncode'. -/
def bytesEncodeCard : Claim7 := { stood := { row := bytesEncodeRow, standIns := [], harness := (true, "9f54d7b7bcd0a1b7ebd80209da0639b38ab19f5975de1bb11eb56dd2ac9358f3"), looks := true }, kinds := [], alts := [], laidByText := true, laidKinds := [.data, .data, .data, .sentinel, .sentinel], laidTests := true, laidLooks := .later }
def BytesEncodeCardSaid : Prop := Claim7.holds Tryd.pinned (.plain (OpenSpec.ofChange bytesEncodeSpec)) bytesEncodeCard

/-- THE SECOND FORM's CARD OF 'gatelaw2.BytesEncode'. -/
def bytesEncodeUptoCard : Claim7 := { stood := { row := bytesEncodeUptoRow, standIns := [], harness := (true, "9f54d7b7bcd0a1b7ebd80209da0639b38ab19f5975de1bb11eb56dd2ac9358f3"), looks := true }, kinds := [], alts := [], laidByText := true, laidKinds := [.data, .data, .data, .sentinel, .sentinel], laidTests := true, laidLooks := .later }
def BytesEncodeUptoCardSaid : Prop := Claim7.holds Tryd.pinned (.plain (OpenSpec.upto bytesEncodeSpec)) bytesEncodeUptoCard
end Rows
end Go.Proofs.YtiilgjigelbkcaaDoor
