/- Plain: the law's office: a catalog, applications and events, with their fault. -/
import Derived.Test.YtaolapgdgdmapaaGreatDoorEgZb
import Derived.Test.YtaolapgdgdmapaaGreatDoorEaZb
namespace Go.Proofs.YtaolapgdgdmapaaGreatDoor
set_option linter.unusedVariables false
set_option linter.unusedSimpArgs false
set_option maxRecDepth 20000
theorem office_ok {k : Int} {s : S_gatemake_Stream} (h : SB k s) (hk : k ≤ 1000) {n : Int} (hn : 0 ≤ n ∧ n ≤ 19) :
    Ok (m_gatelaw2_office s n) fun r => (CS r.1 ∧ (r.2.1.length ≤ 4 ∧ ∀ x, x ∈ r.2.1 → x.Key.length ≤ 100 ∧ x.Owner.length ≤ 100) ∧ ((r.2.2.1.length : Int) ≤ n ∧ ∀ x, x ∈ r.2.2.1 → EB x) ∧ r.2.2.2.1 = eF r.1 r.2.1 r.2.2.1) ∧ SB (k + 700) r.2.2.2.2 := by
  unfold m_gatelaw2_office
  refine ok_bind (cat_ok h (by omega)) fun r3 h3 => ok_bind (apps_ok h3.2 (by omega)) fun r5 h5 => ok_bind (events_ok2 h5.2 (by omega) h3.1 ⟨by have := h5.1.1; omega, h5.1.2⟩ hn) fun r7 h7 => ?_
  rw [eventsFault_eq h3.1.cb ⟨by have := h5.1.1; omega, h5.1.2⟩ h7.1.2]
  exact ok_some ⟨⟨h3.1, h5.1, h7.1, rfl⟩, h7.2.mono (by omega)⟩
theorem ab_of {l : List S_api_App} (h : l.length ≤ 4 ∧ ∀ x, x ∈ l → x.Key.length ≤ 100 ∧ x.Owner.length ≤ 100) : AB l := ⟨by omega, h.2⟩
theorem sub_mem {α : Type} (l : List α) (a b : Int) (h : 0 ≤ a ∧ a ≤ b ∧ b ≤ (l.length : Int)) : Ok (sub? l a b) fun r => r.length ≤ l.length ∧ ∀ x, x ∈ r → x ∈ l := by
  unfold sub?
  rw [if_pos h]
  exact ok_some ⟨by simp; omega, fun x hx => by first | exact List.mem_of_mem_drop (List.mem_of_mem_take hx) | exact List.mem_of_mem_take (List.mem_of_mem_drop hx)⟩
theorem eqInt_self (a : List Int) (h : a.length ≤ 1000000000) : m_slices_Equal_L_int_int_ a a = some true :=
  gEql_self (fun (x y : Int) => decide (x ≠ y)) (fun x => by simp) a h
end Go.Proofs.YtaolapgdgdmapaaGreatDoor
