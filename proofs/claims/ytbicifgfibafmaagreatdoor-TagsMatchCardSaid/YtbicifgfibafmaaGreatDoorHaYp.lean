/- Plain: streams of headers whose names are of ASCII. -/
import Derived.Test.YtbicifgfibafmaaGreatDoorCkYp
namespace Go.Proofs.YtbicifgfibafmaaGreatDoor
set_option linter.unusedVariables false
set_option maxRecDepth 20000
/-- streams -/
def aQ (n : Nat) (s : Bs) : Bool := ascB s && decide (s.length ≤ n)
theorem aQ_at {n : Nat} {s : Bs} (h : aQ n s = true) : ascB s = true ∧ s.length ≤ n := by
  unfold aQ at h
  simpa using h
theorem someA_ok {k : Int} {s : S_gatemake_Stream} (h : SB k s) (hk : k ≤ 100000000) (n : Nat) (l : List Bs) (hl : l ≠ [] ∧ l.length ≤ 1000) (hQ : l.all (aQ n) = true) : Ok (m_gatemake_Stream_Some s l) fun r => (ascB r.1 = true ∧ r.1.length ≤ n) ∧ SB (k + 1) r.2 :=
  ok_mono (some_ok h hk l hl) fun r hr => ⟨aQ_at (List.all_eq_true.1 hQ _ hr.1), hr.2⟩
def hdA (h : S_api_Header) : Prop := hdP h ∧ nmOK h
theorem hdA_snoc {l : List S_api_Header} {x : S_api_Header} (h : ∀ y, y ∈ l → hdA y) (hx : hdA x) : ∀ y, y ∈ l ++ [x] → hdA y := by
  intro y hy
  rcases List.mem_append.1 hy with hy | hy
  · exact h y hy
  · rw [List.mem_singleton.1 hy]; exact hx
theorem hdA_mk {a b : Bs} (h1 : ascB a = true ∧ a.length ≤ 3000) (h2 : b.length ≤ 30000) : hdA (S_api_Header.mk a b) := ⟨⟨by show a.length ≤ _; omega, by show b.length ≤ _; omega⟩, h1.1, by show a.length ≤ _; omega⟩
end Go.Proofs.YtbicifgfibafmaaGreatDoor
