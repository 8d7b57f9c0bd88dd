/- EventsMerge: the plain law. -/
import Derived.Test.YtaolapgdgdmapaaGreatDoorEoZb
import Derived.Test.YtaolapgdgdmapaaGreatDoorEmZb
import Derived.Test.YtaolapgdgdmapaaGreatDoorEbZb
namespace Go.Proofs.YtaolapgdgdmapaaGreatDoor
set_option linter.unusedVariables false
set_option linter.unusedSimpArgs false
set_option maxRecDepth 20000
theorem em_tail {c : S_api_Catalog} {apps : List S_api_App} {x y : List S_api_Event} {s : S_gatemake_Stream} (hb : CB c) (ha : AB apps) (h1 : ∀ e, e ∈ x → EB e) (h2 : ∀ e, e ∈ y → EB e) (hl : x.length + y.length ≤ 20) :
    Ok (gatelaw2_EventsMerge_J1 (c, apps, x, eF c apps x, s) y) (· = true) := by
  obtain ⟨q, q1, q2, q3⟩ := merge_two hb ha h1 h2 hl
  have hr := runR_mem c x 0 (fun _ _ => none0)
  unfold gatelaw2_EventsMerge_J1
  simp only [q3, refusedP_eq hb ha h1, chkApps_eq apps ha, appsFault_eq apps ha, chkEvents_eq hb ha h1, Option.bind_some]
  rw [if_neg (by simp), if_neg (by simp)]
  have hfin : ∀ (m : List S_api_Event) (r : List Int) (e : Int) (n : Int), m.length ≤ 1000000000 → r.length ≤ 1000000000 → Ok (gatelaw2_EventsMerge_J5 (m, e) (r, n) e m r) (· = true) := fun m r e n hm hr => by
    unfold gatelaw2_EventsMerge_J5 gatelaw2_EventsMerge_J6
    rw [if_pos (by simp), eqEv_self m hm]
    simp only [Option.bind_some, if_true]
    rw [eqInt_self r hr]
    simp only [Option.bind_some, if_true, priced_eq]
    exact ok_some rfl
  unfold gatelaw2_EventsMerge_J3 gatelaw2_EventsMerge_J4
  simp only [eventsFault_eq hb ha h2, errs2, Option.bind_some]
  by_cases e1 : eF c apps x = 0
  · have er : (if eF c apps x ≠ 0 then (([], eF c apps x) : List Int × Int) else ((runR c (fun _ _ => none0) 0 x).map (·.1), 0)) = ((runR c (fun _ _ => none0) 0 x).map (·.1), 0) := if_neg (not_not_intro e1)
    rw [er, if_neg (by simp [e1])]
    have hr0 : ((runR c (fun _ _ => none0) 0 x).map (·.1)).length ≤ 1000000000 := by rw [List.length_map]; have := hr.1; omega
    by_cases e2 : or2 (eF c apps x) (eF c apps y) = 0
    · rw [if_pos (by simpa using e2), q1, if_neg (not_not_intro e2)]
      simp only [Option.bind_some]
      rw [if_pos (by simpa using e1), refused_eq hb ha e1]
      simp only [Option.bind_some]
      exact hfin q.1 _ q.2 0 (by omega) hr0
    · rw [if_neg (by simpa using e2), if_pos e2, if_pos (by simpa using e1), refused_eq hb ha e1]
      simp only [Option.bind_some]
      exact hfin [] _ _ 0 (by simp) hr0
  · have er : (if eF c apps x ≠ 0 then (([], eF c apps x) : List Int × Int) else ((runR c (fun _ _ => none0) 0 x).map (·.1), 0)) = ([], eF c apps x) := if_pos e1
    have e2 : or2 (eF c apps x) (eF c apps y) ≠ 0 := by unfold or2; rw [if_pos e1]; exact e1
    rw [er, if_neg (by simp), if_neg (by simpa using e2), if_pos e2, if_neg (by simpa using e1)]
    exact hfin [] [] _ _ (by simp) (by simp)
theorem eventsMerge_plain (L : List Int) : m_gatelaw2_EventsMerge L = some true := by
  refine ok_eq ?_
  unfold m_gatelaw2_EventsMerge
  have hs : SB 0 ⟨L, 0⟩ := ⟨by simp, by simp⟩
  refine ok_bind (range_ok hs (by omega) _ _ (by omega)) fun r2 h2 => ok_bind (office_ok h2.2 (by omega) (by omega)) fun r4 h4 => ?_
  obtain ⟨c, apps, x, f, s⟩ := r4
  obtain ⟨⟨hc, ha, hx, hf⟩, hs4⟩ := h4
  simp only at hc ha hx hf hs4
  subst hf
  refine ok_bind (range_ok hs4 (by omega) _ _ (by omega)) fun r6 h6 => ok_bind (events_ok2 h6.2 (by omega) hc ⟨by have := ha.1; omega, ha.2⟩ (by omega)) fun r8 h8 => ?_
  have hb := hc.cb
  have hab := ab_of ha
  have key : ∀ {c1 d1}, Ok (gatelaw2_EventsMerge_J2 (c, apps, x, eF c apps x, s) r8 false c1 d1) (· = true) := fun {c1 d1} => by
    unfold gatelaw2_EventsMerge_J2
    rw [if_neg (by simp)]
    exact em_tail hb hab hx.2 h8.1.2 (by have := hx.1; have := h8.1.1; omega)
  refine ok_if (fun hp => ok_bind (flip_ok h8.2 (by omega) _ (by omega)) fun r12 h12 => ?_) (fun _ => key)
  have hp : 0 < x.length := by simpa using hp
  cases hr : r12.1
  · exact key
  · unfold gatelaw2_EventsMerge_J2
    rw [if_pos rfl]
    refine ok_bind (next_ok h12 (by omega) _ (by have := hx.1; simp only; omega)) fun r19 h19 => ?_
    have b1 := h19.1.1
    have b2 := h19.1.2.1 (by simp only; omega)
    refine ok_bind (sub_mem x _ _ ⟨b1, by simp only at b2 ⊢; omega, by simp⟩) fun l21 h21 => ?_
    have e : m_slices_Clone l21 = some l21 := by unfold m_slices_Clone; rw [if_pos (by have := hx.1; have := h21.1; omega)]
    rw [e]
    simp only [Option.bind_some]
    exact em_tail hb hab hx.2 (fun z hz => hx.2 z (h21.2 z hz)) (by have := hx.1; have := h21.1; omega)
end Go.Proofs.YtaolapgdgdmapaaGreatDoor
