/- Plain: streams of headers, requests and responses. -/
import Derived.Test.YthgeeoecgneclaaGreatDoorMhYo
namespace Go.Proofs.YthgeeoecgneclaaGreatDoor
set_option linter.unusedVariables false
set_option maxRecDepth 20000
theorem someB_ok {k : Int} {s : S_gatemake_Stream} (h : SB k s) (hk : k ≤ 100000000) (B : Nat) (l : List Bs) (hl : l ≠ [] ∧ l.length ≤ 1000) (hB : ∀ x, x ∈ l → x.length ≤ B) : Ok (m_gatemake_Stream_Some s l) fun r => r.1.length ≤ B ∧ SB (k + 1) r.2 :=
  ok_mono (some_ok h hk l hl) fun r hr => ⟨hB _ hr.1, hr.2⟩
theorem rep_some (s : Bs) (n : Int) (h : 0 ≤ n ∧ n ≤ 1000000 ∧ s.length ≤ 1000000) : Ok (m_strings_Repeat s n) fun r => r = Lib.repeatL s n.toNat := by
  unfold m_strings_Repeat
  rw [if_pos h]
  exact ok_some rfl
theorem enc_len (c : UInt8) : (encL (IntKind.wrap .i32 (c.toNat : Int))).length ≤ 4 := by
  have := u8_all (fun c => decide ((encL (IntKind.wrap .i32 (c.toNat : Int))).length ≤ 4)) (by decide +kernel) c
  exact of_decide_eq_true this
theorem sub_ok (l : Bs) (a b : Int) (h : 0 ≤ a ∧ a ≤ b ∧ b ≤ (l.length : Int)) : Ok (sub? l a b) fun r => r.length ≤ l.length := by
  unfold sub?
  rw [if_pos h]
  exact ok_some (by simp; omega)
theorem tokenText_ok {k : Int} {s : S_gatemake_Stream} (h : SB k s) (hk : k ≤ 100000) : Ok (m_gatemake_Stream_TokenText s) fun r => r.1.length ≤ 2500 ∧ SB (k + 1) r.2 := by
  unfold m_gatemake_Stream_TokenText
  refine ok_bind (rep_some _ _ ⟨by omega, by omega, by simp⟩) fun r4 h4 => ?_
  have hl : r4.length = 101 := by rw [h4]; decide +kernel
  exact ok_bind (someB_ok h (by omega) 2500 _ ⟨by simp, by simp⟩ (by simp [hl])) fun r5 h5 => ok_some h5
theorem fieldText_ok {k : Int} {s : S_gatemake_Stream} (h : SB k s) (hk : k ≤ 100000) : Ok (m_gatemake_Stream_FieldText s) fun r => r.1.length ≤ 2500 ∧ SB (k + 1) r.2 := by
  unfold m_gatemake_Stream_FieldText
  refine ok_bind (rep_some _ _ ⟨by omega, by omega, by simp⟩) fun r4 h4 => ?_
  have hl : r4.length = 2001 := by rw [h4]; decide +kernel
  exact ok_bind (someB_ok h (by omega) 2500 _ ⟨by simp, by simp⟩ (by simp [hl])) fun r5 h5 => ok_some h5
theorem hd_snoc {l : List S_api_Header} {x : S_api_Header} (h : ∀ y, y ∈ l → hdP y) (hx : hdP x) : ∀ y, y ∈ l ++ [x] → hdP y := by
  intro y hy
  rcases List.mem_append.1 hy with hy | hy
  · exact h y hy
  · rw [List.mem_singleton.1 hy]; exact hx
theorem rightHeaders_ok {k : Int} {s : S_gatemake_Stream} (h : SB k s) (hk : k ≤ 10000) (most : Int) (hm : 0 ≤ most ∧ most ≤ 10) :
    Ok (m_gatemake_Stream_RightHeaders s most) fun r => (r.1.length ≤ 10 ∧ ∀ y, y ∈ r.1 → hdP y) ∧ SB (k + 30) r.2 := by
  unfold m_gatemake_Stream_RightHeaders
  refine ok_bind (range_ok h (by omega) 0 most (by omega)) fun r hr => ?_
  obtain ⟨m, hm⟩ : ∃ m : Nat, r.1 = (m : Int) := ⟨r.1.toNat, by omega⟩
  rw [hm, Int.toNat_natCast]
  refine ok_g (by omega) ?_
  refine ok_rng (fun j (q : List Int × Int × List S_api_Header) => j ≤ m ∧ SB (k + 1 + 2 * (j : Int)) (S_gatemake_Stream.mk q.1 q.2.1) ∧ q.2.2.length ≤ j ∧ ∀ y, y ∈ q.2.2 → hdP y) m 0 _ ⟨by omega, hr.2.mono (by omega), by simp, by simp⟩ ?_ ?_
  · rintro j ⟨c5, c6, l7⟩ _ hj ⟨h0, h1, h2, h3⟩
    simp only at h1 h2 h3 ⊢
    unfold gatemake_Stream_RightHeaders_L1
    refine ok_bind (someB_ok h1 (by omega) 100 _ ⟨by simp, by simp⟩ (by simp)) fun r1 hr1 => ok_bind (someB_ok hr1.2 (by omega) 100 _ ⟨by simp, by simp⟩ (by simp)) fun r2 hr2 => ok_g (by omega) (ok_some ?_)
    exact ⟨by omega, hr2.2.mono (by omega), by simp; omega, hd_snoc h3 ⟨by have := hr1.1; simp only; omega, by have := hr2.1; simp only; omega⟩⟩
  · rintro ⟨c5, c6, l7⟩ ⟨h0, h1, h2, h3⟩
    simp only at h1 h2 h3 ⊢
    unfold gatemake_Stream_RightHeaders_E1
    exact ok_some ⟨⟨by simp only; omega, h3⟩, h1.mono (by omega)⟩
theorem headers_ok {k : Int} {s : S_gatemake_Stream} (h : SB k s) (hk : k ≤ 10000) (most : Int) (hm : 0 ≤ most ∧ most ≤ 10) :
    Ok (m_gatemake_Stream_Headers s most) fun r => hdsP r.1 ∧ SB (k + 40) r.2 := by
  have hJ2 : ∀ (l : List S_api_Header) (c : List Int) (a : Int), hdsP l → SB (k + 40) (S_gatemake_Stream.mk c a) → Ok (gatemake_Stream_Headers_J2 l c a) fun r => hdsP r.1 ∧ SB (k + 40) r.2 := by
    intro l c a hl hs
    unfold gatemake_Stream_Headers_J2
    exact ok_some ⟨hl, hs⟩
  have hJ : ∀ (l : List S_api_Header) (c : List Int) (a : Int), l.length ≤ 11 ∧ (∀ y, y ∈ l → hdP y) → SB (k + 39) (S_gatemake_Stream.mk c a) → Ok (gatemake_Stream_Headers_J1 l c a) fun r => hdsP r.1 ∧ SB (k + 40) r.2 := by
    intro l c a hl hs
    unfold gatemake_Stream_Headers_J1
    refine ok_bind (flip_ok hs (by omega) 60 (by omega)) fun r hr => ok_if (fun _ => ok_g (by omega) ?_) (fun _ => hJ2 _ _ _ ⟨by have := hl.1; omega, hl.2⟩ (hr.mono (by omega)))
    refine ok_rng (fun j (q : List S_api_Header) => q.length ≤ 11 + j ∧ ∀ y, y ∈ q → hdP y) 51 0 _ ⟨by have := hl.1; omega, hl.2⟩ ?_ ?_
    · rintro j q _ hj ⟨h0, h1⟩
      unfold gatemake_Stream_Headers_L3
      exact ok_g (by omega) (ok_some ⟨by simp; omega, hd_snoc h1 ⟨by simp, by simp⟩⟩)
    · rintro q ⟨h0, h1⟩
      unfold gatemake_Stream_Headers_E3
      exact hJ2 _ _ _ ⟨by omega, h1⟩ (hr.mono (by omega))
  unfold m_gatemake_Stream_Headers
  refine ok_bind (rightHeaders_ok h (by omega) most hm) fun r hr => ok_bind (flip_ok hr.2 (by omega) 10 (by omega)) fun r5 h5 => ok_if (fun _ => ?_) (fun _ => ?_)
  · refine ok_bind (tokenText_ok h5 (by omega)) fun r8 h8 => ok_bind (fieldText_ok h8.2 (by omega)) fun r10 h10 => ok_g (by have := hr.1.1; omega) ?_
    exact hJ _ _ _ ⟨by have := hr.1.1; simp; omega, hd_snoc hr.1.2 ⟨by have := h8.1; simp only; omega, by have := h10.1; simp only; omega⟩⟩ (h10.2.mono (by omega))
  · exact hJ _ _ _ ⟨by have := hr.1.1; omega, hr.1.2⟩ (h5.mono (by omega))
end Go.Proofs.YthgeeoecgneclaaGreatDoor
