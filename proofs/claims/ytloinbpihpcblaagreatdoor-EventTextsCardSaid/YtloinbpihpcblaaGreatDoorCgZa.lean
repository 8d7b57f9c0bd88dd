/- Plain: a text with one sign changed. -/
import Derived.Test.YtloinbpihpcblaaGreatDoorKeZa
namespace Go.Proofs.YtloinbpihpcblaaGreatDoor
set_option linter.unusedVariables false
set_option maxRecDepth 20000
theorem enc_len (c : UInt8) : (encL (IntKind.wrap .i32 (c.toNat : Int))).length ≤ 4 := by
  have := u8_all (fun c => decide ((encL (IntKind.wrap .i32 (c.toNat : Int))).length ≤ 4)) (by decide +kernel) c
  exact of_decide_eq_true this
theorem sub_ok (l : Bs) (a b : Int) (h : 0 ≤ a ∧ a ≤ b ∧ b ≤ (l.length : Int)) : Ok (sub? l a b) fun r => r.length ≤ l.length := by
  unfold sub?
  rw [if_pos h]
  exact ok_some (by simp; omega)
theorem changed_ok {k : Int} {s : S_gatemake_Stream} (h : SB k s) (hk : k ≤ 1000000) (t v : Bs) (ht : t.length ≤ 100000) (hv : v.length ≤ 100000) :
    Ok (m_gatemake_Stream_Changed s t v) fun r => r.1.length ≤ 2 * t.length + v.length + 4 ∧ SB (k + 3) r.2 := by
  unfold m_gatemake_Stream_Changed
  refine ok_if (fun _ => ok_some ⟨by simp only; omega, h.mono (by omega)⟩) (fun h0 => ?_)
  simp only [Bool.or_eq_true, decide_eq_true_eq, not_or] at h0
  have ht0 : 0 < t.length := by cases hq : t with | nil => exact absurd hq h0.1 | cons _ _ => simp
  have hv0 : 0 < v.length := by cases hq : v with | nil => exact absurd hq h0.2 | cons _ _ => simp
  refine ok_bind (next_ok h (by omega) _ (by omega)) fun r5 h5 => ok_bind (next_ok h5.2 (by omega) _ (by omega)) fun r7 h7 => ?_
  have b5 := h5.1.2.1 (by omega)
  have b7 := h7.1.2.1 (by omega)
  have c5 := h5.1.1
  have c7 := h7.1.1
  have hat : Ok (at? v r7.1) fun _ => True := by
    unfold at?
    rw [if_pos c7, List.getElem?_eq_getElem (by omega)]
    exact ⟨_, rfl, trivial⟩
  refine ok_bind hat fun x9 _ => ok_bind (next_ok h7.2 (by omega) 3 (by omega)) fun r11 h11 => ?_
  have he := enc_len x9
  have hw : wr (r5.1 + 1) = r5.1 + 1 := wr_id (by omega)
  have hS : SB (k + 3) r11.2 := h11.2.mono (by omega)
  rw [hw]
  refine ok_if (fun _ => ?_) (fun _ => ok_if (fun _ => ?_) (fun _ => ?_))
  · refine ok_bind (sub_ok t _ _ ⟨by omega, by omega, by omega⟩) fun l14 h14 => ok_g (by omega) (ok_bind (sub_ok t _ _ ⟨by omega, by omega, by omega⟩) fun l17 h17 => ok_g (by simp; omega) (ok_some ⟨by simp; omega, hS⟩))
  · refine ok_bind (sub_ok t _ _ ⟨by omega, by omega, by omega⟩) fun l14 h14 => ok_g (by omega) (ok_bind (sub_ok t _ _ ⟨by omega, by omega, by omega⟩) fun l17 h17 => ok_g (by simp; omega) (ok_some ⟨by simp; omega, hS⟩))
  · refine ok_bind (sub_ok t _ _ ⟨by omega, by omega, by omega⟩) fun l14 h14 => ok_bind (sub_ok t _ _ ⟨by omega, by omega, by omega⟩) fun l17 h17 => ok_g (by omega) (ok_some ⟨by simp; omega, hS⟩)
end Go.Proofs.YtloinbpihpcblaaGreatDoor
