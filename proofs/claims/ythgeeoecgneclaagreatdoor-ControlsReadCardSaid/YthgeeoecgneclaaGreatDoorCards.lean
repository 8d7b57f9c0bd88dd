/-
  DERIVED. GIVEN WITH THE SEED: THE CARDS: each row of YthgeeoecgneclaaGreatDoorRows.lean that lists a variable, with what it lists TIED to the program's text (the seventh form; the later family's looks); each row that meets fmt, with fmt's text TOLD by the authors' own Lean function (tested against real Go, not proved from fmt's source: count such statements apart). THE CARD IS WHAT COUNTS. Prove the row's statement (the work); the ties are given (YthgeeoecgneclaaGreatDoorTie.lean); close each card by the builder's one call (the guide's Derived/Test/ToyasCard.lean, 'card_holds'). Laid BY PROGRAM, IN A SANDBOX (cutbox-door.mjs). By AI agents, Wed Nov 11 2026. No macro, syntax, notation, axiom, sorry.
-/
import Derived.Test.YthgeeoecgneclaaGreatDoorRows
import GoSem.ClaimSeven
namespace Go.Proofs.YthgeeoecgneclaaGreatDoor
namespace Rows

/-- THE TIED CARD OF 'gatelaw2.ControlsRead'. -/
def controlsReadCard : Claim7 := { stood := { row := controlsReadRow, standIns := [], harness := (true, "383bca09738316e94a4d1c3455a7ef83d8d5743fd6b8d6691586aec254d76184"), looks := true }, kinds := [], alts := [], laidByText := true, laidKinds := [.data, .data, .data, .data, .sentinel, .sentinel, .data, .data, .pinned, .pinned], laidTests := true, laidLooks := .later }
def ControlsReadCardSaid : Prop := Claim7.holds Tryz.pinned (.plain (OpenSpec.ofChange controlsReadSpec)) controlsReadCard

/-- THE SECOND FORM's CARD OF 'gatelaw2.ControlsRead'. -/
def controlsReadUptoCard : Claim7 := { stood := { row := controlsReadUptoRow, standIns := [], harness := (true, "383bca09738316e94a4d1c3455a7ef83d8d5743fd6b8d6691586aec254d76184"), looks := true }, kinds := [], alts := [], laidByText := true, laidKinds := [.data, .data, .data, .data, .sentinel, .sentinel, .data, .data, .pinned, .pinned], laidTests := true, laidLooks := .later }
def ControlsReadUptoCardSaid : Prop := Claim7.holds Tryz.pinned (.plain (OpenSpec.upto controlsReadSpec)) controlsReadUptoCard
end Rows
end Go.Proofs.YthgeeoecgneclaaGreatDoor
