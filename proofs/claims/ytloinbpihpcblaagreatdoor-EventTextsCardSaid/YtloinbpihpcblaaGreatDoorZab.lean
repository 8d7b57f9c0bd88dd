/- EventTexts: the plain law. -/
import Derived.Test.YtloinbpihpcblaaGreatDoorEgZa
import Derived.Test.YtloinbpihpcblaaGreatDoorEtZa
import Derived.Test.YtloinbpihpcblaaGreatDoorCgZa
namespace Go.Proofs.YtloinbpihpcblaaGreatDoor
set_option linter.unusedVariables false
set_option linter.unusedSimpArgs false
set_option maxRecDepth 20000
theorem eqEv_self (a : List S_api_Event) (h : a.length ≤ 1000000000) : m_slices_Equal_L_api_Event_api_Event_ a a = some true :=
  gEql_self (fun (x y : S_api_Event) => !((x.At == y.At) && ((x.App == y.App) && ((x.Product == y.Product) && ((x.Kind == y.Kind) && ((x.Plan == y.Plan) && true)))))) (fun x => by simp) a h
theorem finE_len (l : List S_api_Event) : (finE l).1.length ≤ l.length := by
  unfold finE
  split <;> simp
theorem rdL_len : ∀ (t : List Bs) (k : Nat) (out : List S_api_Event), (rdL t k out).1.length ≤ out.length + t.length
  | [], k, out => by simpa [rdL] using finE_len out
  | p :: t, k, out => by
    rw [rdL]
    have h1 := finE_len out
    split
    · split
      · simp only [List.length_cons]; omega
      · simp
    · split
      · simp
      · rename_i y _
        have := rdL_len t (k + 1) (out ++ [y])
        simp only [List.length_append, List.length_cons, List.length_nil] at this ⊢
        exact Nat.le_trans this (by omega)
theorem eventText_ok {k : Int} {s : S_gatemake_Stream} (h : SB k s) (hk : k ≤ 5000) : Ok (m_gatemake_Stream_EventText s) fun r => r.1.length ≤ 100000 := by
  unfold m_gatemake_Stream_EventText
  refine ok_bind (rightCat_ok h (by omega)) fun r2 h2 => ?_
  obtain ⟨⟨c1, c2, c3, c4⟩, hs⟩ := h2
  have hc : CS r2.1 := ⟨by omega, c2, by omega, fun x hx => by have := c4 x hx; omega⟩
  refine ok_bind (range_ok hs (by omega) _ _ (by omega)) fun r4 h4 => ok_bind (events_ok h4.2 (by omega) hc ⟨by simp, by simp⟩ (by omega)) fun r6 h6 => ?_
  rw [formR_eq _ h6.1.2]
  simp only [Option.bind_some]
  have key : ∀ {t : Bs} {c d}, t.length ≤ 3000 → SB (k + 501) ⟨c, d⟩ → Ok (gatemake_Stream_EventText_J1 t c d) fun r => r.1.length ≤ 100000 := fun {t c d} ht hs => by
    unfold gatemake_Stream_EventText_J1
    refine ok_bind (pick_ok hs (by omega) _ ⟨by simp, by simp⟩) fun r16 h16 => ?_
    have b16 : 0 ≤ r16.1 ∧ r16.1 ≤ 2 := by
      have h1 := h16.1
      simp only [List.mem_cons, List.not_mem_nil, or_false] at h1
      omega
    refine ok_g (by omega) ?_
    refine ok_rng (fun (j : Nat) (q : Bs × (List Int) × Int) => (j = 0 → q.1.length ≤ 3000) ∧ (j ≤ 1 → q.1.length ≤ 7000) ∧ q.1.length ≤ 15000 ∧ SB (k + 502 + 3 * (j : Int)) ⟨q.2.1, q.2.2⟩) _ 0 _ ⟨fun _ => ht, fun _ => by simp only; omega, by simp only; omega, h16.2.mono (by simp; omega)⟩ ?_ ?_
    · rintro j ⟨t, c, d⟩ _ hj ⟨q1, q2, q3, q4⟩
      simp only at q1 q2 q3 q4
      have hj : j < 2 := by omega
      unfold gatemake_Stream_EventText_L2
      refine ok_bind (changed_ok q4 (by omega) t _ (by omega) (by simp)) fun r25 h25 => ok_some ?_
      have h1 := h25.1
      simp only [List.length_cons, List.length_nil] at h1
      rcases Nat.lt_or_ge j 1 with hj1 | hj1
      · have := q1 (by omega)
        exact ⟨fun h => by omega, fun _ => by simp only; omega, by simp only; omega, h25.2.mono (by omega)⟩
      · have := q2 (by omega)
        exact ⟨fun h => by omega, fun h => by omega, by simp only; omega, h25.2.mono (by omega)⟩
    · rintro ⟨t, c, d⟩ ⟨q1, q2, q3, q4⟩
      unfold gatemake_Stream_EventText_E2
      exact ok_some (by simp only at q3 ⊢; omega)
  refine ok_if (fun h0 => ?_) (fun _ => key (by simp) (h6.2.mono (by omega)))
  have h0 : evF r6.1 = 0 := by simpa using h0
  rw [lines_eq _ h0]
  simp only [Option.bind_some]
  have h7 := flatE_len r6.1 (evF_zero h0).2
  have h8 := h6.1.1
  exact key (by omega) (h6.2.mono (by omega))
theorem et_tail (r8 : (List S_api_Event) × S_gatemake_Stream) {k : Int} (h : SB k r8.2) (hk : k ≤ 5000) : Ok (gatelaw2_EventTexts_J1 r8 false) (· = true) := by
  unfold gatelaw2_EventTexts_J1 gatelaw2_EventTexts_J2
  rw [if_neg (by simp)]
  refine ok_bind (eventText_ok h hk) fun r33 h33 => ?_
  have e1 := readP_eq r33.1 (by omega)
  have e2 := readR_eq r33.1 (by omega)
  rw [e1, e2]
  simp only [Option.bind_some, decide_true, if_true]
  have hlen : (if 200000 < r33.1.length then (([], 0, 2) : List S_api_Event × Int × Int) else rdL (spl 10 r33.1) 0 []).1.length ≤ 1000000000 := by
    split
    · simp
    · have h1 := rdL_len (spl 10 r33.1) 0 []
      have h2 := spl_len 10 r33.1
      simp only [List.length_nil] at h1
      omega
  rw [eqEv_self _ hlen]
  simp only [Option.bind_some, if_true, priced_eq]
  exact ok_some rfl
theorem eventTexts_plain (L : List Int) : m_gatelaw2_EventTexts L = some true := by
  refine ok_eq ?_
  unfold m_gatelaw2_EventTexts
  have hs : SB 0 ⟨L, 0⟩ := ⟨by simp, by simp⟩
  refine ok_bind (cat_ok hs (by omega)) fun r2 h2 => ok_bind (apps_ok h2.2 (by omega)) fun r4 h4 => ok_bind (range_ok h4.2 (by omega) _ _ (by omega)) fun r6 h6 => ok_bind (events_ok h6.2 (by omega) h2.1 ⟨by have := h4.1.1; omega, h4.1.2⟩ (by omega)) fun r8 h8 => ?_
  rw [text_eq' _ h8.1.2, formR_eq _ h8.1.2]
  simp only [Option.bind_some]
  by_cases h0 : evF r8.1 = 0
  · have e1 : (if evF r8.1 ≠ 0 then (([], evF r8.1) : Bs × Int) else (r8.1.flatMap lnE, 0)) = (r8.1.flatMap lnE, 0) := if_neg (not_not_intro h0)
    rw [e1, h0, lines_eq _ h0]
    simp only [ne_eq, not_true_eq_false, decide_false, decide_true, Bool.false_eq_true, if_false, if_true, Option.bind_some]
    exact et_tail r8 h8.2 (by omega)
  · have e1 : (if evF r8.1 ≠ 0 then (([], evF r8.1) : Bs × Int) else (r8.1.flatMap lnE, 0)) = ([], evF r8.1) := if_pos h0
    rw [e1]
    simp only [ne_eq, not_true_eq_false, decide_false, decide_true, Bool.false_eq_true, if_false, if_true, Option.bind_some, h0, not_false_eq_true]
    exact et_tail r8 h8.2 (by omega)
end Go.Proofs.YtloinbpihpcblaaGreatDoor
