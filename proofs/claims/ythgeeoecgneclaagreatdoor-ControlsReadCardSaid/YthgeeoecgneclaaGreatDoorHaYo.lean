/- Plain: streams of headers whose names are of ASCII. -/
import Derived.Test.YthgeeoecgneclaaGreatDoorCkYo
namespace Go.Proofs.YthgeeoecgneclaaGreatDoor
set_option linter.unusedVariables false
set_option maxRecDepth 20000
/-- streams -/
def aQ (n : Nat) (s : Bs) : Bool := ascB s && decide (s.length ≤ n)
theorem aQ_at {n : Nat} {s : Bs} (h : aQ n s = true) : ascB s = true ∧ s.length ≤ n := by
  unfold aQ at h
  simpa using h
theorem someA_ok {k : Int} {s : S_gatemake_Stream} (h : SB k s) (hk : k ≤ 100000000) (n : Nat) (l : List Bs) (hl : l ≠ [] ∧ l.length ≤ 1000) (hQ : l.all (aQ n) = true) : Ok (m_gatemake_Stream_Some s l) fun r => (ascB r.1 = true ∧ r.1.length ≤ n) ∧ SB (k + 1) r.2 :=
  ok_mono (some_ok h hk l hl) fun r hr => ⟨aQ_at (List.all_eq_true.1 hQ _ hr.1), hr.2⟩
def hdA (h : S_api_Header) : Prop := hdP h ∧ nmOK h
theorem hdA_snoc {l : List S_api_Header} {x : S_api_Header} (h : ∀ y, y ∈ l → hdA y) (hx : hdA x) : ∀ y, y ∈ l ++ [x] → hdA y := by
  intro y hy
  rcases List.mem_append.1 hy with hy | hy
  · exact h y hy
  · rw [List.mem_singleton.1 hy]; exact hx
theorem hdA_mk {a b : Bs} (h1 : ascB a = true ∧ a.length ≤ 3000) (h2 : b.length ≤ 30000) : hdA (S_api_Header.mk a b) := ⟨⟨by show a.length ≤ _; omega, by show b.length ≤ _; omega⟩, h1.1, by show a.length ≤ _; omega⟩
theorem tokenA_ok {k : Int} {s : S_gatemake_Stream} (h : SB k s) (hk : k ≤ 100000) : Ok (m_gatemake_Stream_TokenText s) fun r => (ascB r.1 = true ∧ r.1.length ≤ 3000) ∧ SB (k + 1) r.2 := by
  unfold m_gatemake_Stream_TokenText
  refine ok_bind (rep_some _ _ ⟨by omega, by omega, by simp⟩) fun r4 h4 => ?_
  subst h4
  exact ok_bind (someA_ok h (by omega) 3000 _ ⟨by simp, by simp⟩ (by decide +kernel)) fun r5 h5 => ok_some h5
theorem rightHeadersA_ok {k : Int} {s : S_gatemake_Stream} (h : SB k s) (hk : k ≤ 10000) (most : Int) (hm : 0 ≤ most ∧ most ≤ 10) :
    Ok (m_gatemake_Stream_RightHeaders s most) fun r => (r.1.length ≤ 10 ∧ ∀ y, y ∈ r.1 → hdA y) ∧ SB (k + 30) r.2 := by
  unfold m_gatemake_Stream_RightHeaders
  refine ok_bind (range_ok h (by omega) 0 most (by omega)) fun r hr => ?_
  obtain ⟨m, hm⟩ : ∃ m : Nat, r.1 = (m : Int) := ⟨r.1.toNat, by omega⟩
  rw [hm, Int.toNat_natCast]
  refine ok_g (by omega) ?_
  refine ok_rng (fun j (q : List Int × Int × List S_api_Header) => j ≤ m ∧ SB (k + 1 + 2 * (j : Int)) (S_gatemake_Stream.mk q.1 q.2.1) ∧ q.2.2.length ≤ j ∧ ∀ y, y ∈ q.2.2 → hdA y) m 0 _ ⟨by omega, hr.2.mono (by omega), by simp, by simp⟩ ?_ ?_
  · rintro j ⟨c5, c6, l7⟩ _ hj ⟨h0, h1, h2, h3⟩
    simp only at h1 h2 h3 ⊢
    unfold gatemake_Stream_RightHeaders_L1
    refine ok_bind (someA_ok h1 (by omega) 3000 _ ⟨by simp, by simp⟩ (by decide +kernel)) fun r1 hr1 => ok_bind (someA_ok hr1.2 (by omega) 3000 _ ⟨by simp, by simp⟩ (by decide +kernel)) fun r2 hr2 => ok_g (by omega) (ok_some ?_)
    exact ⟨by omega, hr2.2.mono (by omega), by simp; omega, hdA_snoc h3 (hdA_mk hr1.1 (by have := hr2.1.2; omega))⟩
  · rintro ⟨c5, c6, l7⟩ ⟨h0, h1, h2, h3⟩
    simp only at h1 h2 h3 ⊢
    unfold gatemake_Stream_RightHeaders_E1
    exact ok_some ⟨⟨by simp only; omega, h3⟩, h1.mono (by omega)⟩
theorem headersA_ok {k : Int} {s : S_gatemake_Stream} (h : SB k s) (hk : k ≤ 10000) (most : Int) (hm : 0 ≤ most ∧ most ≤ 10) :
    Ok (m_gatemake_Stream_Headers s most) fun r => (r.1.length ≤ 100 ∧ ∀ y, y ∈ r.1 → hdA y) ∧ SB (k + 40) r.2 := by
  have hJ2 : ∀ (l : List S_api_Header) (c : List Int) (a : Int), (l.length ≤ 100 ∧ ∀ y, y ∈ l → hdA y) → SB (k + 40) (S_gatemake_Stream.mk c a) → Ok (gatemake_Stream_Headers_J2 l c a) fun r => (r.1.length ≤ 100 ∧ ∀ y, y ∈ r.1 → hdA y) ∧ SB (k + 40) r.2 := by
    intro l c a hl hs
    unfold gatemake_Stream_Headers_J2
    exact ok_some ⟨hl, hs⟩
  have hJ : ∀ (l : List S_api_Header) (c : List Int) (a : Int), l.length ≤ 11 ∧ (∀ y, y ∈ l → hdA y) → SB (k + 39) (S_gatemake_Stream.mk c a) → Ok (gatemake_Stream_Headers_J1 l c a) fun r => (r.1.length ≤ 100 ∧ ∀ y, y ∈ r.1 → hdA y) ∧ SB (k + 40) r.2 := by
    intro l c a hl hs
    unfold gatemake_Stream_Headers_J1
    refine ok_bind (flip_ok hs (by omega) 60 (by omega)) fun r hr => ok_if (fun _ => ok_g (by omega) ?_) (fun _ => hJ2 _ _ _ ⟨by have := hl.1; omega, hl.2⟩ (hr.mono (by omega)))
    refine ok_rng (fun j (q : List S_api_Header) => q.length ≤ 11 + j ∧ ∀ y, y ∈ q → hdA y) 51 0 _ ⟨by have := hl.1; omega, hl.2⟩ ?_ ?_
    · rintro j q _ hj ⟨h0, h1⟩
      unfold gatemake_Stream_Headers_L3
      exact ok_g (by omega) (ok_some ⟨by simp; omega, hdA_snoc h1 (hdA_mk ⟨rfl, by simp⟩ (by simp))⟩)
    · rintro q ⟨h0, h1⟩
      unfold gatemake_Stream_Headers_E3
      exact hJ2 _ _ _ ⟨by omega, h1⟩ (hr.mono (by omega))
  unfold m_gatemake_Stream_Headers
  refine ok_bind (rightHeadersA_ok h (by omega) most hm) fun r hr => ok_bind (flip_ok hr.2 (by omega) 10 (by omega)) fun r5 h5 => ok_if (fun _ => ?_) (fun _ => ?_)
  · refine ok_bind (tokenA_ok h5 (by omega)) fun r8 h8 => ok_bind (fieldText_ok h8.2 (by omega)) fun r10 h10 => ok_g (by have := hr.1.1; omega) ?_
    exact hJ _ _ _ ⟨by have := hr.1.1; simp; omega, hdA_snoc hr.1.2 (hdA_mk h8.1 (by have := h10.1; omega))⟩ (h10.2.mono (by omega))
  · exact hJ _ _ _ ⟨by have := hr.1.1; omega, hr.1.2⟩ (h5.mono (by omega))
end Go.Proofs.YthgeeoecgneclaaGreatDoor
