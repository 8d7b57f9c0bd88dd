/-
  DERIVED. GIVEN WITH THE SEED: THE CARDS: each row of YtpeeeanmfmhlgaaGreatDoorRows.lean that lists a variable, with what it lists TIED to the program's text (the seventh form; the later family's looks); each row that meets fmt, with fmt's text TOLD by the authors' own Lean function (tested against real Go, not proved from fmt's source: count such statements apart). THE CARD IS WHAT COUNTS. Prove the row's statement (the work); the ties are given (YtpeeeanmfmhlgaaGreatDoorTie.lean); close each card by the builder's one call (the guide's Derived/Test/ToyasCard.lean, 'card_holds'). Laid BY PROGRAM, IN A SANDBOX (cutbox-door.mjs). By AI agents, Wed Nov 11 2026. No macro, syntax, notation, axiom, sorry.
-/
import Derived.Test.YtpeeeanmfmhlgaaGreatDoorRows
import GoSem.ClaimSeven
namespace Go.Proofs.YtpeeeanmfmhlgaaGreatDoor
namespace Rows

/-- THE TIED CARD OF 'gatelaw2.ScopesCover'. -/
def scopesCoverCard : Claim7 := { stood := { row := scopesCoverRow, standIns := [], harness := (true, "9b23d18d51d05d4008e06d0011f4b0ff4f4b15a81191c21fffefcd5001142160"), looks := false }, kinds := [], alts := [], laidByText := true, laidKinds := [.data, .pinned], laidTests := true, laidLooks := .later }
def ScopesCoverCardSaid : Prop := Claim7.holds Tryz.pinned (.plain (OpenSpec.ofChange scopesCoverSpec)) scopesCoverCard

/-- THE TIED CARD OF 'gatelaw2.ClaimsDelegated'. -/
def claimsDelegatedCard : Claim7 := { stood := { row := claimsDelegatedRow, standIns := [], harness := (true, "9b23d18d51d05d4008e06d0011f4b0ff4f4b15a81191c21fffefcd5001142160"), looks := false }, kinds := [], alts := [], laidByText := true, laidKinds := [.data, .pinned], laidTests := true, laidLooks := .later }
def ClaimsDelegatedCardSaid : Prop := Claim7.holds Tryz.pinned (.plain (OpenSpec.ofChange claimsDelegatedSpec)) claimsDelegatedCard

/-- THE SECOND FORM's CARD OF 'gatelaw2.ScopesCover'. -/
def scopesCoverUptoCard : Claim7 := { stood := { row := scopesCoverUptoRow, standIns := [], harness := (true, "9b23d18d51d05d4008e06d0011f4b0ff4f4b15a81191c21fffefcd5001142160"), looks := false }, kinds := [], alts := [], laidByText := true, laidKinds := [.data, .pinned], laidTests := true, laidLooks := .later }
def ScopesCoverUptoCardSaid : Prop := Claim7.holds Tryz.pinned (.plain (OpenSpec.upto scopesCoverSpec)) scopesCoverUptoCard

/-- THE SECOND FORM's CARD OF 'gatelaw2.ClaimsDelegated'. -/
def claimsDelegatedUptoCard : Claim7 := { stood := { row := claimsDelegatedUptoRow, standIns := [], harness := (true, "9b23d18d51d05d4008e06d0011f4b0ff4f4b15a81191c21fffefcd5001142160"), looks := false }, kinds := [], alts := [], laidByText := true, laidKinds := [.data, .pinned], laidTests := true, laidLooks := .later }
def ClaimsDelegatedUptoCardSaid : Prop := Claim7.holds Tryz.pinned (.plain (OpenSpec.upto claimsDelegatedSpec)) claimsDelegatedUptoCard
end Rows
end Go.Proofs.YtpeeeanmfmhlgaaGreatDoor
