/- Plain: streams of headers, requests and responses. -/
import Derived.Test.YtbicifgfibafmaaGreatDoorMhYp
namespace Go.Proofs.YtbicifgfibafmaaGreatDoor
set_option linter.unusedVariables false
set_option maxRecDepth 20000
theorem queryName_ok {k : Int} {s : S_gatemake_Stream} (h : SB k s) (hk : k ≤ 1000) : Ok (m_gatemake_Stream_QueryName s) fun r => r.1.length ≤ 30000 ∧ SB (k + 200) r.2 := by
  unfold m_gatemake_Stream_QueryName gatemake_Stream_QueryName_J1
  refine ok_bind (range_ok h (by omega) 0 4 (by omega)) fun r hr => ?_
  obtain ⟨m, hm⟩ : ∃ m : Nat, r.1 = (m : Int) := ⟨r.1.toNat, by omega⟩
  rw [hm]
  refine ok_bind (words_ok hr.2 (by omega) m (by omega) [38] (by simp) _ ⟨by simp, by simp⟩ (by decide)) fun r2 h2 => ok_bind (flip_ok h2.2 (by omega) 12 (by omega)) fun r3 h3 => ok_if (fun _ => ?_) (fun _ => ok_some ⟨h2.1, ?_⟩)
  · refine ok_bind (words_ok h3 (by omega) 101 (by omega) [38] (by simp) [[120]] ⟨by simp, by simp⟩ (by decide)) fun r4 h4 => ok_bind (some_ok h4.2 (by omega) _ ⟨by simp, by simp⟩) fun r5 h5 => ok_some ⟨?_, ?_⟩
    · have hm := h5.1
      simp only [List.mem_cons, List.not_mem_nil, or_false] at hm
      rcases hm with e | e | e | e | e | e <;> rw [e] <;> first | decide | exact h4.1
    · exact h5.2.mono (by omega)
  · exact h3.mono (by omega)
theorem someB_ok {k : Int} {s : S_gatemake_Stream} (h : SB k s) (hk : k ≤ 100000000) (B : Nat) (l : List Bs) (hl : l ≠ [] ∧ l.length ≤ 1000) (hB : ∀ x, x ∈ l → x.length ≤ B) : Ok (m_gatemake_Stream_Some s l) fun r => r.1.length ≤ B ∧ SB (k + 1) r.2 :=
  ok_mono (some_ok h hk l hl) fun r hr => ⟨hB _ hr.1, hr.2⟩
theorem rep_some (s : Bs) (n : Int) (h : 0 ≤ n ∧ n ≤ 1000000 ∧ s.length ≤ 1000000) : Ok (m_strings_Repeat s n) fun r => r = Lib.repeatL s n.toNat := by
  unfold m_strings_Repeat
  rw [if_pos h]
  exact ok_some rfl
theorem enc_len (c : UInt8) : (encL (IntKind.wrap .i32 (c.toNat : Int))).length ≤ 4 := by
  have := u8_all (fun c => decide ((encL (IntKind.wrap .i32 (c.toNat : Int))).length ≤ 4)) (by decide +kernel) c
  exact of_decide_eq_true this
theorem sub_ok (l : Bs) (a b : Int) (h : 0 ≤ a ∧ a ≤ b ∧ b ≤ (l.length : Int)) : Ok (sub? l a b) fun r => r.length ≤ l.length := by
  unfold sub?
  rw [if_pos h]
  exact ok_some (by simp; omega)
theorem changed_ok {k : Int} {s : S_gatemake_Stream} (h : SB k s) (hk : k ≤ 1000000) (t v : Bs) (ht : t.length ≤ 100000) (hv : v.length ≤ 100000) :
    Ok (m_gatemake_Stream_Changed s t v) fun r => r.1.length ≤ 2 * t.length + v.length + 4 ∧ SB (k + 3) r.2 := by
  unfold m_gatemake_Stream_Changed
  refine ok_if (fun _ => ok_some ⟨by simp only; omega, h.mono (by omega)⟩) (fun h0 => ?_)
  simp only [Bool.or_eq_true, decide_eq_true_eq, not_or] at h0
  have ht0 : 0 < t.length := by cases hq : t with | nil => exact absurd hq h0.1 | cons _ _ => simp
  have hv0 : 0 < v.length := by cases hq : v with | nil => exact absurd hq h0.2 | cons _ _ => simp
  refine ok_bind (next_ok h (by omega) _ (by omega)) fun r5 h5 => ok_bind (next_ok h5.2 (by omega) _ (by omega)) fun r7 h7 => ?_
  have b5 := h5.1.2.1 (by omega)
  have b7 := h7.1.2.1 (by omega)
  have c5 := h5.1.1
  have c7 := h7.1.1
  have hat : Ok (at? v r7.1) fun _ => True := by
    unfold at?
    rw [if_pos c7, List.getElem?_eq_getElem (by omega)]
    exact ⟨_, rfl, trivial⟩
  refine ok_bind hat fun x9 _ => ok_bind (next_ok h7.2 (by omega) 3 (by omega)) fun r11 h11 => ?_
  have he := enc_len x9
  have hw : wr (r5.1 + 1) = r5.1 + 1 := wr_id (by omega)
  have hS : SB (k + 3) r11.2 := h11.2.mono (by omega)
  rw [hw]
  refine ok_if (fun _ => ?_) (fun _ => ok_if (fun _ => ?_) (fun _ => ?_))
  · refine ok_bind (sub_ok t _ _ ⟨by omega, by omega, by omega⟩) fun l14 h14 => ok_g (by omega) (ok_bind (sub_ok t _ _ ⟨by omega, by omega, by omega⟩) fun l17 h17 => ok_g (by simp; omega) (ok_some ⟨by simp; omega, hS⟩))
  · refine ok_bind (sub_ok t _ _ ⟨by omega, by omega, by omega⟩) fun l14 h14 => ok_g (by omega) (ok_bind (sub_ok t _ _ ⟨by omega, by omega, by omega⟩) fun l17 h17 => ok_g (by simp; omega) (ok_some ⟨by simp; omega, hS⟩))
  · refine ok_bind (sub_ok t _ _ ⟨by omega, by omega, by omega⟩) fun l14 h14 => ok_bind (sub_ok t _ _ ⟨by omega, by omega, by omega⟩) fun l17 h17 => ok_g (by omega) (ok_some ⟨by simp; omega, hS⟩)
theorem pathName_ok {k : Int} {s : S_gatemake_Stream} (h : SB k s) (hk : k ≤ 1000) : Ok (m_gatemake_Stream_PathName s) fun r => r.1.length ≤ 100000 ∧ SB (k + 30) r.2 := by
  have hJ : ∀ (p : Bs) (c : List Int) (a : Int), p.length ≤ 40000 → SB (k + 20) (S_gatemake_Stream.mk c a) → Ok (gatemake_Stream_PathName_J1 p c a) fun r => r.1.length ≤ 100000 ∧ SB (k + 30) r.2 := by
    intro p c a hp hs
    unfold gatemake_Stream_PathName_J1 gatemake_Stream_PathName_J2
    refine ok_bind (flip_ok hs (by omega) 12 (by omega)) fun r hr => ok_if (fun _ => ?_) (fun _ => ok_some ⟨by simp only; omega, hr.mono (by omega)⟩)
    refine ok_bind (changed_ok hr (by omega) p _ (by omega) (by simp)) fun r2 h2 => ok_some ⟨?_, h2.2.mono (by omega)⟩
    have := h2.1
    simp only [List.length_cons, List.length_nil] at this
    simp only
    omega
  unfold m_gatemake_Stream_PathName
  refine ok_bind (range_ok h (by omega) 0 4 (by omega)) fun r hr => ?_
  obtain ⟨m, hm⟩ : ∃ m : Nat, r.1 = (m : Int) := ⟨r.1.toNat, by omega⟩
  rw [hm]
  refine ok_bind (words_ok hr.2 (by omega) m (by omega) [47] (by simp) _ ⟨by simp, by simp⟩ (by decide)) fun r2 h2 => ok_g (by simp; omega) (ok_bind (flip_ok h2.2 (by omega) 12 (by omega)) fun r3 h3 => ok_if (fun _ => ?_) (fun _ => ?_))
  · refine ok_bind (rep_some _ _ ⟨by omega, by omega, by simp⟩) fun r4 h4 => ?_
    have hl : r4.length = 1020 := by rw [h4]; decide +kernel
    refine ok_g (by simp; omega) (ok_bind (someB_ok h3 (by omega) 2000 _ ⟨by simp, by simp⟩ (by simp [hl])) fun r5 h5 => ?_)
    exact hJ _ _ _ (by have := h5.1; omega) (h5.2.mono (by omega))
  · exact hJ _ _ _ (by have := h2.1; simp; omega) (h3.mono (by omega))
theorem hd_snoc {l : List S_api_Header} {x : S_api_Header} (h : ∀ y, y ∈ l → hdP y) (hx : hdP x) : ∀ y, y ∈ l ++ [x] → hdP y := by
  intro y hy
  rcases List.mem_append.1 hy with hy | hy
  · exact h y hy
  · rw [List.mem_singleton.1 hy]; exact hx
/-- requests of the streams -/
def rqP (r : S_api_Request) : Prop := r.Method.length ≤ 100000 ∧ r.Host ∈ hostsL ∧ r.Path.length ≤ 100000 ∧ r.Query.length ≤ 100000 ∧ r.From.length ≤ 100000 ∧ hdsP r.Headers
end Go.Proofs.YtbicifgfibafmaaGreatDoor
