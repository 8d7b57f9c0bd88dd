/-
  DERIVED. GIVEN WITH THE SEED: THE CARDS: each row of YtahcnngcpjkpgabGreatDoorRows.lean that lists a variable, with what it lists TIED to the program's text (the seventh form; the later family's looks); each row that meets fmt, with fmt's text TOLD by the authors' own Lean function (tested against real Go, not proved from fmt's source: count such statements apart). THE CARD IS WHAT COUNTS. Prove the row's statement (the work); the ties are given (YtahcnngcpjkpgabGreatDoorTie.lean); close each card by the builder's one call (the guide's Derived/Test/ToyasCard.lean, 'card_holds'). Laid BY PROGRAM, IN A SANDBOX (cutbox-door.mjs). By AI agents, Wed Nov 11 2026. No macro, syntax, notation, axiom, sorry.
-/
import Derived.Test.YtahcnngcpjkpgabGreatDoorRows
import GoSem.ClaimSeven
namespace Go.Proofs.YtahcnngcpjkpgabGreatDoor
namespace Rows

/-- THE TIED CARD OF 'gatetop.TopCachesServe'. -/
def topCachesServeCard : Claim7 := { stood := { row := topCachesServeRow, standIns := [], harness := (true, "46b95b93540c57a80017e33b59188bdff18241ecdcbdc75e4f9fa4989166772b"), looks := true }, kinds := [], alts := [], laidByText := true, laidKinds := [.data, .data, .data, .data, .sentinel, .sentinel, .data, .data, .pinned, .pinned], laidTests := true, laidLooks := .later }
def TopCachesServeCardSaid : Prop := Claim7.holds Tryz.pinned (.plain (OpenSpec.ofChange topCachesServeSpec)) topCachesServeCard

/-- THE SECOND FORM's CARD OF 'gatetop.TopCachesServe'. -/
def topCachesServeUptoCard : Claim7 := { stood := { row := topCachesServeUptoRow, standIns := [], harness := (true, "46b95b93540c57a80017e33b59188bdff18241ecdcbdc75e4f9fa4989166772b"), looks := true }, kinds := [], alts := [], laidByText := true, laidKinds := [.data, .data, .data, .data, .sentinel, .sentinel, .data, .data, .pinned, .pinned], laidTests := true, laidLooks := .later }
def TopCachesServeUptoCardSaid : Prop := Claim7.holds Tryz.pinned (.plain (OpenSpec.upto topCachesServeSpec)) topCachesServeUptoCard
end Rows
end Go.Proofs.YtahcnngcpjkpgabGreatDoor
