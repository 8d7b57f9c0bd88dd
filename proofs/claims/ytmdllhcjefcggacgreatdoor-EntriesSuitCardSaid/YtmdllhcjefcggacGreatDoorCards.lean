/-
  DERIVED. GIVEN WITH THE SEED: THE CARDS: each row of YtmdllhcjefcggacGreatDoorRows.lean that lists a variable, with what it lists TIED to the program's text (the seventh form; the later family's looks); each row that meets fmt, with fmt's text TOLD by the authors' own Lean function (tested against real Go, not proved from fmt's source: count such statements apart). THE CARD IS WHAT COUNTS. Prove the row's statement (the work); the ties are given (YtmdllhcjefcggacGreatDoorTie.lean); close each card by the builder's one call (the guide's Derived/Test/ToyasCard.lean, 'card_holds'). Laid BY PROGRAM, IN A SANDBOX (cutbox-door.mjs). By AI agents, Wed Nov 11 2026. No macro, syntax, notation, axiom, sorry.
-/
import Derived.Test.YtmdllhcjefcggacGreatDoorRows
import GoSem.ClaimSeven
namespace Go.Proofs.YtmdllhcjefcggacGreatDoor
namespace Rows

/-- THE TIED CARD OF 'gatelaw2.EntriesSuit'. -/
def entriesSuitCard : Claim7 := { stood := { row := entriesSuitRow, standIns := [], harness := (true, "a1f9cfdbdd3c77bed31bda15d206a7611b52f0dfb01019b5a2f716c294613af0"), looks := true }, kinds := [], alts := [], laidByText := true, laidKinds := [.data, .data, .data, .data, .sentinel, .sentinel, .data, .data, .pinned, .pinned], laidTests := true, laidLooks := .later }
def EntriesSuitCardSaid : Prop := Claim7.holds Tryz.pinned (.plain (OpenSpec.ofChange entriesSuitSpec)) entriesSuitCard

/-- THE SECOND FORM's CARD OF 'gatelaw2.EntriesSuit'. -/
def entriesSuitUptoCard : Claim7 := { stood := { row := entriesSuitUptoRow, standIns := [], harness := (true, "a1f9cfdbdd3c77bed31bda15d206a7611b52f0dfb01019b5a2f716c294613af0"), looks := true }, kinds := [], alts := [], laidByText := true, laidKinds := [.data, .data, .data, .data, .sentinel, .sentinel, .data, .data, .pinned, .pinned], laidTests := true, laidLooks := .later }
def EntriesSuitUptoCardSaid : Prop := Claim7.holds Tryz.pinned (.plain (OpenSpec.upto entriesSuitSpec)) entriesSuitUptoCard
end Rows
end Go.Proofs.YtmdllhcjefcggacGreatDoor
