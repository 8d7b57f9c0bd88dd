/- Plain: what the law HealthTurns draws; the law. -/
import Derived.Test.YtmcegaabopcmfaaPg
namespace Go.Proofs.Ytmcegaabopcmfaa
set_option linter.unusedVariables false
set_option maxRecDepth 20000

theorem balanced_eq : m_gatelaw2_balanced = some true := by decide +kernel
theorem rightIns_ok {k : Int} {s : S_gatemake_Stream} (h : SB k s) (hk : k ≤ 1000000) : Ok (m_gatemake_Stream_RightInstances s) fun r => (r.1 ≠ [] ∧ r.1.length ≤ 4 ∧ ∀ x, x ∈ r.1 → x.Key.length ≤ 1000) ∧ SB (k + 8) r.2 := by
  unfold m_gatemake_Stream_RightInstances
  refine ok_g (by decide) ?_
  refine ok_forL (fun (j : Nat) (q : (List Int) × Int × (List S_api_Instance)) => SB (k + 2 * (j : Int)) ⟨q.1, q.2.1⟩ ∧ q.2.2.length ≤ j ∧ (∀ x, x ∈ q.2.2 → x.Key.length ≤ 1000) ∧ (4 ≤ j → q.2.2 ≠ [])) _ 0 _ ⟨by simpa [SB] using h, by simp, by simp, by omega⟩ ?_ ?_
  · rintro j x ⟨c2, c3, l4⟩ _ hj ⟨h1, h2, h3, h4⟩
    simp only at h1 h2 h3 h4
    have hjl : j < 4 := by have := lt_some hj; simpa using this
    have hx : x.length ≤ 1000 := by
      rcases j with _ | _ | _ | _ | j <;> simp at hj <;> (try subst hj) <;> simp
    have hlast : 4 ≤ j + 1 → x = [105, 100] := fun h4 => by
      have : j = 3 := by omega
      subst this
      simpa using hj.symm
    have hJ2 : ∀ (b : Bool) (c : List Int) (a : Int), SB (k + 2 * (j : Int) + 1) ⟨c, a⟩ → (4 ≤ j + 1 → l4 = [] → b = true) → Ok (gatemake_Stream_RightInstances_J3 l4 x b c a) (rd (fun q : (List Int) × Int × (List S_api_Instance) => SB (k + 2 * ((j + 1 : Nat) : Int)) ⟨q.1, q.2.1⟩ ∧ q.2.2.length ≤ j + 1 ∧ (∀ x, x ∈ q.2.2 → x.Key.length ≤ 1000) ∧ (4 ≤ j + 1 → q.2.2 ≠ [])) fun r => (r.1 ≠ [] ∧ r.1.length ≤ 4 ∧ ∀ x, x ∈ r.1 → x.Key.length ≤ 1000) ∧ SB (k + 8) r.2) := by
      intro b c a hs hb
      unfold gatemake_Stream_RightInstances_J3 gatemake_Stream_RightInstances_J2
      refine ok_if (fun hb' => ?_) (fun hb' => ?_)
      · refine ok_bind (pick_ok hs (by omega) _ ⟨by simp, by simp⟩) fun r hr => ok_g (by omega) (ok_some ?_)
        refine ⟨hr.2.mono (by omega), by simp; omega, fun y hy => ?_, fun _ => by simp⟩
        rcases List.mem_append.1 hy with hy | hy
        · exact h3 y hy
        · simp at hy; subst hy; exact hx
      · exact ok_some ⟨hs.mono (by omega), by simp only; omega, h3, fun h4 he => hb' (hb h4 he)⟩
    show Ok (gatemake_Stream_RightInstances_L1 j x c2 c3 l4) _
    unfold gatemake_Stream_RightInstances_L1
    refine ok_if (fun hl => ok_if (fun hq => ?_) (fun hq => ?_)) (fun hl => ?_)
    · exact hJ2 true c2 c3 (h1.mono (by omega)) fun _ _ => rfl
    · refine ok_bind (flip_ok h1 (by omega) 4 (by omega)) fun r hr => hJ2 _ _ _ hr fun h4 _ => ?_
      have := hlast h4
      simp [this] at hq
    · refine ok_bind (flip_ok h1 (by omega) 4 (by omega)) fun r hr => hJ2 _ _ _ hr fun h4 he => ?_
      subst he
      simp at hl
  · rintro ⟨c2, c3, l4⟩ ⟨h1, h2, h3, h4⟩
    exact ok_some ⟨⟨h4 (by simp), by simpa using h2, h3⟩, h1.mono (by simp)⟩
theorem ins_ok {k : Int} {s : S_gatemake_Stream} (h : SB k s) (hk : k ≤ 100000) : Ok (m_gatemake_Stream_Instances s) fun r => InsB r.1 ∧ SB (k + 14) r.2 := by
  unfold m_gatemake_Stream_Instances
  refine ok_bind (rightIns_ok h (by omega)) fun r hr => ok_bind (flip_ok hr.2 (by omega) _ (by omega)) fun r4 hr4 => ?_
  have hJ : ∀ (out : List S_api_Instance) (c : List Int) (a : Int), InsB out → SB (k + 13) ⟨c, a⟩ → Ok (gatemake_Stream_Instances_J1 out c a) fun r => InsB r.1 ∧ SB (k + 14) r.2 := by
    intro out c a ho hs
    unfold gatemake_Stream_Instances_J1
    refine ok_bind (flip_ok hs (by omega) _ (by omega)) fun r hr => ok_if (fun _ => ok_some ⟨⟨by simp, fun x hx => (by cases hx)⟩, hr.mono (by omega)⟩) (fun _ => ok_some ⟨ho, hr.mono (by omega)⟩)
  obtain ⟨⟨hne, hle, hky⟩, hs⟩ := hr
  have hpos : 0 < r.1.length := by cases hq : r.1 with | nil => exact absurd hq hne | cons _ _ => simp
  refine ok_if (fun _ => ?_) (fun _ => ?_)
  · refine ok_bind (next_ok hr4 (by omega) _ (by omega)) fun r7 hr7 => ?_
    have h1 := hr7.1.2.1 (by omega)
    have hat : Ok (at? r.1 r7.1) fun x => x ∈ r.1 := by
      unfold at?
      rw [if_pos hr7.1.1, List.getElem?_eq_getElem (by omega)]
      exact ⟨_, rfl, List.getElem_mem _⟩
    refine ok_bind hat fun x9 hx9 => ok_bind (some_ok hr7.2 (by omega) _ ⟨by simp, by simp⟩) fun r11 hr11 => ok_bind (odd_ok hr11.2 (by omega) 1 100 (by omega)) fun r13 hr13 => hJ _ _ _ ⟨by simp; omega, fun y hy => ?_⟩ (hr13.2.mono (by omega))
    have hk11 : r11.1.length ≤ 1000 := by
      have := hr11.1
      simp only [List.mem_cons, List.not_mem_nil, or_false] at this
      rcases this with e | e | e | e
      · rw [e]; exact hky x9 hx9
      · rw [e]; simp
      · rw [e]; simp
      · rw [e]; simp
    rcases List.mem_or_eq_of_mem_set hy with hy | hy
    · rcases List.mem_or_eq_of_mem_set hy with hy | hy
      · exact hky y hy
      · rw [hy]; exact hk11
    · rw [hy]; exact hk11
  · exact hJ _ _ _ ⟨by omega, hky⟩ (hr4.mono (by omega))
theorem health_ok {k : Int} {s : S_gatemake_Stream} (h : SB k s) (hk : k ≤ 100000) : Ok (m_gatemake_Stream_Health s) fun r => SB (k + 7) r.2 := by
  unfold m_gatemake_Stream_Health gatemake_Stream_Health_J1
  refine ok_bind (pick_ok h (by omega) _ ⟨by simp, by simp⟩) fun r2 h2 => ok_bind (pick_ok h2.2 (by omega) _ ⟨by simp, by simp⟩) fun r4 h4 => ok_bind (flip_ok h4.2 (by omega) _ (by omega)) fun r6 h6 => ok_if (fun _ => ?_) (fun _ => ?_)
  · exact ok_bind (odd_ok h6 (by omega) 1 100 (by omega)) fun r9 h9 => ok_bind (odd_ok h9.2 (by omega) 1 100 (by omega)) fun r11 h11 => ok_some (h11.2.mono (by omega))
  · exact ok_some (h6.mono (by omega))
theorem insKey_ok {k : Int} {s : S_gatemake_Stream} (h : SB k s) (hk : k ≤ 1000000) : Ok (m_gatemake_Stream_InstanceKey s) fun r => r.1.length ≤ 1000 ∧ SB (k + 2) r.2 := by
  unfold m_gatemake_Stream_InstanceKey
  refine ok_bind (flip_ok h (by omega) _ (by omega)) fun r2 h2 => ok_if (fun _ => ?_) (fun _ => ?_)
  · refine ok_bind (some_ok h2 (by omega) _ ⟨by simp, by simp⟩) fun r5 h5 => ok_some ⟨?_, h5.2.mono (by omega)⟩
    have := h5.1
    simp only [List.mem_cons, List.not_mem_nil, or_false] at this
    rcases this with e | e <;> rw [e] <;> simp
  · refine ok_bind (some_ok h2 (by omega) _ ⟨by simp, by simp⟩) fun r5 h5 => ok_some ⟨?_, h5.2.mono (by omega)⟩
    have := h5.1
    simp only [List.mem_cons, List.not_mem_nil, or_false] at this
    rcases this with e | e | e | e <;> rw [e] <;> simp
theorem probes_ok {k : Int} {s : S_gatemake_Stream} (h : SB k s) (hk : k ≤ 100000) (xs : List S_api_Instance) (hx : InsB xs) : Ok (m_gatemake_Stream_Probes s xs) fun r => PrbB r.1 := by
  unfold m_gatemake_Stream_Probes
  refine ok_bind (range_ok h (by omega) 0 16 (by omega)) fun r3 h3 => ok_g (by omega) ?_
  refine ok_rng (fun (j : Nat) (q : Int × (List Int) × Int × (List S_api_Probe)) => SB (k + 1 + 10 * (j : Int)) ⟨q.2.1, q.2.2.1⟩ ∧ q.2.2.2.length ≤ j ∧ ∀ p, p ∈ q.2.2.2 → p.Instance.length ≤ 1000) _ 0 _ ⟨by simpa [SB] using h3.2, by simp, by simp⟩ ?_ ?_
  · rintro j ⟨v5, c6, c7, l8⟩ _ hj ⟨h1, h2, h5⟩
    simp only at h1 h2 h5
    have hj16 : j < 16 := by omega
    show Ok (gatemake_Stream_Probes_L1 xs j v5 c6 c7 l8) _
    unfold gatemake_Stream_Probes_L1
    refine ok_bind (pick_ok h1 (by omega) _ ⟨by simp, by simp⟩) fun r13 h13 => ok_bind (insKey_ok h13.2 (by omega)) fun r15 h15 => ok_bind (flip_ok h15.2 (by omega) _ (by omega)) fun r17 h17 => ?_
    have hJ2 : ∀ (c : List Int) (a : Int) (key : Bs), SB (k + 1 + 10 * (j : Int) + 6) ⟨c, a⟩ → key.length ≤ 1000 → Ok (gatemake_Stream_Probes_J2 v5 l8 r13 r17 c a key) (rd (fun q : Int × (List Int) × Int × (List S_api_Probe) => SB (k + 1 + 10 * ((j + 1 : Nat) : Int)) ⟨q.2.1, q.2.2.1⟩ ∧ q.2.2.2.length ≤ j + 1 ∧ ∀ p, p ∈ q.2.2.2 → p.Instance.length ≤ 1000) fun r => PrbB r.1) := by
      intro c a key hs hkey
      have hJ4 : ∀ (c : List Int) (a t : Int), SB (k + 1 + 10 * (j : Int) + 10) ⟨c, a⟩ → Ok (gatemake_Stream_Probes_J4 v5 l8 r13 r17 key c a t) (rd (fun q : Int × (List Int) × Int × (List S_api_Probe) => SB (k + 1 + 10 * ((j + 1 : Nat) : Int)) ⟨q.2.1, q.2.2.1⟩ ∧ q.2.2.2.length ≤ j + 1 ∧ ∀ p, p ∈ q.2.2.2 → p.Instance.length ≤ 1000) fun r => PrbB r.1) := by
        intro c a t hs
        unfold gatemake_Stream_Probes_J4
        refine ok_g (by omega) (ok_some ⟨hs.mono (by omega), by simp; omega, fun y hy => ?_⟩)
        rcases List.mem_append.1 hy with hy | hy
        · exact h5 y hy
        · simp at hy; subst hy; exact hkey
      unfold gatemake_Stream_Probes_J2
      refine ok_bind (flip_ok hs (by omega) _ (by omega)) fun r35 h35 => ok_if (fun _ => ?_) (fun _ => ?_)
      · exact ok_bind (odd_ok h35 (by omega) 0 50 (by omega)) fun r38 h38 => hJ4 _ _ _ (h38.2.mono (by omega))
      · exact hJ4 _ _ _ (h35.mono (by omega))
    have hJ3 : ∀ (b : Bool) (c : List Int) (a : Int), SB (k + 1 + 10 * (j : Int) + 5) ⟨c, a⟩ → (b = true → xs ≠ []) → Ok (gatemake_Stream_Probes_J3 xs v5 l8 r13 r15 r17 b c a) (rd (fun q : Int × (List Int) × Int × (List S_api_Probe) => SB (k + 1 + 10 * ((j + 1 : Nat) : Int)) ⟨q.2.1, q.2.2.1⟩ ∧ q.2.2.2.length ≤ j + 1 ∧ ∀ p, p ∈ q.2.2.2 → p.Instance.length ≤ 1000) fun r => PrbB r.1) := by
      intro b c a hs hb
      unfold gatemake_Stream_Probes_J3
      refine ok_if (fun hb' => ?_) (fun _ => hJ2 _ _ _ (hs.mono (by omega)) h15.1)
      have hpos : 0 < xs.length := by cases hq : xs with | nil => exact absurd hq (hb hb') | cons _ _ => simp
      have hxl := hx.len
      refine ok_bind (next_ok hs (by omega) _ (by omega)) fun r28 h28 => ?_
      have h29 := h28.1.2.1 (by omega)
      have hat : Ok (at? xs r28.1) fun x => x ∈ xs := by
        unfold at?
        rw [if_pos h28.1.1, List.getElem?_eq_getElem (by omega)]
        exact ⟨_, rfl, List.getElem_mem _⟩
      exact ok_bind hat fun x30 hx30 => hJ2 _ _ _ (h28.2.mono (by omega)) (hx.key x30 hx30)
    refine ok_if (fun hl => ?_) (fun hl => ?_)
    · refine ok_bind (flip_ok h17 (by omega) _ (by omega)) fun r21 h21 => hJ3 _ _ _ (h21.mono (by omega)) fun _ he => ?_
      subst he; simp at hl
    · exact hJ3 _ _ _ (h17.mono (by omega)) fun h => by cases h
  · rintro ⟨v5, c6, c7, l8⟩ ⟨h1, h2, h5⟩
    exact ok_some ⟨by simp only at h2 ⊢; omega, h5⟩
end Go.Proofs.Ytmcegaabopcmfaa
