/- Plain: percentiles, backoffs, budgets: the program and the reference agree. -/
import Derived.Test.YtmcegaabopcmfaaPh
namespace Go.Proofs.Ytmcegaabopcmfaa
set_option linter.unusedVariables false
set_option maxRecDepth 20000

/-- how many are at most m -/
def cntL (l : List Int) (m : Int) : Nat := (l.filter fun y => decide (y ≤ m)).length
theorem cntL_split (l : List Int) (m : Int) (k : Nat) : cntL l m = cntL (l.take k) m + cntL (l.drop k) m := by
  unfold cntL
  rw [← List.length_append, ← List.filter_append, List.take_append_drop]
theorem cntL_le (l : List Int) (m : Int) : cntL l m ≤ l.length := List.length_filter_le _ _
theorem cntL_take_succ (l : List Int) (m : Int) (k : Nat) (x : Int) (h : l[k]? = some x) : cntL (l.take (k + 1)) m = cntL (l.take k) m + if x ≤ m then 1 else 0 := by
  rw [List.take_add_one, h]
  unfold cntL
  rw [List.filter_append, List.length_append]
  congr 1
  by_cases hx : x ≤ m <;> simp [hx]
/-- the sorted list's element at i: at least i + 1 are at most it; of any less, at most i -/
theorem srt_ge {s : List Int} (h : s.Pairwise (· ≤ ·)) (i : Nat) (hi : i < s.length) : i + 1 ≤ cntL s s[i] := by
  rw [cntL_split s _ (i + 1)]
  have h1 : cntL (s.take (i + 1)) s[i] = i + 1 := by
    unfold cntL
    rw [List.filter_eq_self.2 fun y hy => ?_, List.length_take]
    · omega
    · obtain ⟨j, hj, rfl⟩ := List.getElem_of_mem hy
      simp only [List.length_take] at hj
      rw [List.getElem_take]
      simp only [decide_eq_true_eq]
      rcases Nat.lt_or_ge j i with hji | hji
      · exact List.pairwise_iff_getElem.1 h j i (by omega) hi hji
      · have : j = i := by omega
        subst this; exact Int.le_refl _
  omega
theorem srt_lt {s : List Int} (h : s.Pairwise (· ≤ ·)) (i : Nat) (hi : i < s.length) (m : Int) (hm : m < s[i]) : cntL s m ≤ i := by
  rw [cntL_split s _ i]
  have h1 : cntL (s.drop i) m = 0 := by
    unfold cntL
    rw [List.filter_eq_nil_iff.2 fun y hy => ?_]
    · rfl
    · obtain ⟨j, hj, rfl⟩ := List.getElem_of_mem hy
      simp only [List.length_drop] at hj
      rw [List.getElem_drop]
      simp only [decide_eq_true_eq]
      rcases Nat.eq_zero_or_pos j with rfl | hj0
      · simp only [Nat.add_zero]; omega
      · have := List.pairwise_iff_getElem.1 h i (i + j) hi (by omega) (by omega)
        omega
  have h2 := cntL_le (s.take i) m
  rw [List.length_take] at h2
  omega
def srt (l : List Int) : List Int := l.mergeSort fun x y => decide (x ≤ y)
theorem srt_sorted (l : List Int) : (srt l).Pairwise (· ≤ ·) := by
  have h := List.pairwise_mergeSort (le := fun (x y : Int) => decide (x ≤ y)) (fun a b c h1 h2 => by simp at *; omega) (fun a b => by simp; omega) l
  exact h.imp fun h => by simpa using h
theorem srt_perm (l : List Int) : (srt l).Perm l := List.mergeSort_perm _ _
theorem srt_len (l : List Int) : (srt l).length = l.length := (srt_perm l).length_eq
theorem srt_cntL (l : List Int) (m : Int) : cntL (srt l) m = cntL l m := ((srt_perm l).filter _).length_eq

section
variable (l : List Int) (part : Int) (hl : l ≠ []) (hn : l.length ≤ 1000) (hp : 1 ≤ part ∧ part ≤ 1000)
def pix : Nat := ((part * l.length + 999) / 1000 - 1).toNat
include hl hn hp
theorem pix_ok : pix l part < l.length ∧ (part * (l.length : Int) + 999) / 1000 = (pix l part : Int) + 1 := by
  have hpos : 0 < l.length := by cases hq : l with | nil => exact absurd hq hl | cons _ _ => simp
  have h1 : part * (l.length : Int) ≤ 1000 * l.length := Int.mul_le_mul_of_nonneg_right hp.2 (by omega)
  have h2 : 1 * (l.length : Int) ≤ part * l.length := Int.mul_le_mul_of_nonneg_right hp.1 (by omega)
  unfold pix
  omega
theorem percP_eq : m_upstream_Percentile l part = some ((srt l).getD (pix l part) 0, 0) := by
  have hpos : 0 < l.length := by cases hq : l with | nil => exact absurd hq hl | cons _ _ => simp
  obtain ⟨h1, h2⟩ := pix_ok l part hl hn hp
  have h3 : part * (l.length : Int) ≤ 1000 * l.length := Int.mul_le_mul_of_nonneg_right hp.2 (by omega)
  have h4 : 1 * (l.length : Int) ≤ part * l.length := Int.mul_le_mul_of_nonneg_right hp.1 (by omega)
  unfold m_upstream_Percentile m_kit_Outside m_slices_Clone m_slices_Sort_int
  rw [if_neg (by simp; exact hl), if_neg (by simp; omega)]
  simp only [Option.bind_some]
  rw [if_neg (by simp; omega), if_pos (by omega)]
  simp only [Option.bind_some]
  rw [if_pos (by omega)]
  simp only [Option.bind_some]
  have e1 : ((l.mergeSort fun x y => decide (x ≤ y)).length : Int) = l.length := by simp
  rw [e1]
  generalize hq : part * (l.length : Int) = q at *
  have e2 : wr (wr (wr q + 1000) - 1) = q + 999 := by
    rw [wr_id (n := q) (by omega), wr_id (n := q + 1000) (by omega), wr_id (by omega)]; omega
  rw [e2, if_pos ⟨by omega, by omega⟩, h2]
  have e3 : wr ((pix l part : Int) + 1 - 1) = (pix l part : Int) := by rw [wr_id (by omega)]; omega
  rw [e3, at_nat]
  have h5 : pix l part < (l.mergeSort fun x y => decide (x ≤ y)).length := by simpa using h1
  rw [List.getElem?_eq_getElem h5]
  simp only [Option.bind_some, srt]
  rw [List.getD_eq_getElem?_getD, List.getElem?_eq_getElem h5]
  rfl
theorem percR_eq : m_gateref2_PercentileOf l part = some ((srt l).getD (pix l part) 0) := by
  obtain ⟨h1, h2⟩ := pix_ok l part hl hn hp
  have h1' : pix l part < (srt l).length := by rw [srt_len]; exact h1
  have hv : (srt l).getD (pix l part) 0 = (srt l)[pix l part] := by rw [List.getD_eq_getElem?_getD, List.getElem?_eq_getElem h1']; rfl
  have h3 : part * (l.length : Int) ≤ 1000 * l.length := Int.mul_le_mul_of_nonneg_right hp.2 (by omega)
  have h4 : 1 * (l.length : Int) ≤ part * l.length := Int.mul_le_mul_of_nonneg_right hp.1 (by omega)
  have hpos : 0 < l.length := by omega
  let P : Int → Prop := fun m => part * (l.length : Int) ≤ (cntL l m : Int) * 1000
  have hPv : P (srt l)[pix l part] := by
    have := srt_ge (srt_sorted l) _ h1'
    rw [srt_cntL] at this
    show part * (l.length : Int) ≤ _
    omega
  have hPm : ∀ m, P m → (srt l)[pix l part] ≤ m := fun m hm => by
    rcases Int.lt_or_le m (srt l)[pix l part] with h | h
    · have := srt_lt (srt_sorted l) _ h1' m h
      rw [srt_cntL] at this
      have hm : part * (l.length : Int) ≤ (cntL l m : Int) * 1000 := hm
      omega
    · exact h
  have hvm : (srt l)[pix l part] ∈ l := (srt_perm l).mem_iff.1 (List.getElem_mem h1')
  refine ok_eq ?_
  unfold m_gateref2_PercentileOf
  rw [if_pos (by omega), hv]
  refine ok_forL (I := fun k (s : Int × Bool) => (s.2 = true → P s.1) ∧ ∀ j m, j < k → l[j]? = some m → P m → s.2 = true ∧ s.1 ≤ m) l 0 (0, false) ⟨fun h => (by cases h), fun j m hj => by omega⟩ ?_ ?_
  · intro j x s _ hx hI
    have hx : l[j]? = some x := by simpa using hx
    unfold gateref2_PercentileOf_L1
    rw [if_pos (by omega)]
    refine ok_forL (I := fun k (c : Int) => c = (cntL (l.take k) x : Int)) l 0 0 (by simp [cntL]) ?_ ?_
    · intro i y c _ hy hc
      have hy : l[i]? = some y := by simpa using hy
      have h5 := cntL_le (l.take i) x
      rw [List.length_take] at h5
      unfold gateref2_PercentileOf_L3 gateref2_PercentileOf_J4
      have h6 := cntL_take_succ l x i y hy
      refine ok_if (fun h => ok_some ?_) (fun h => ok_some ?_)
      · show wr (c + 1) = _
        simp at h
        rw [wr_id (by omega), h6, if_pos h, hc]; simp
      · show c = _
        simp at h
        rw [h6, if_neg (by omega), hc]; simp
    · intro c hc
      have hc : c = (cntL l x : Int) := by
        rw [hc]; simp
      have h5 := cntL_le l x
      unfold gateref2_PercentileOf_E3 gateref2_PercentileOf_J2
      rw [wr_id (n := part * (l.length : Int)) (by omega), wr_id (n := c * 1000) (by omega), hc]
      refine ok_if (fun h => ok_some ⟨fun _ => ?_, fun i m hi hm hPm' => ⟨rfl, ?_⟩⟩) (fun h => ok_some ⟨hI.1, fun i m hi hm hPm' => ?_⟩)
      · simp only [Bool.and_eq_true, decide_eq_true_eq] at h; exact h.1
      · simp only [Bool.and_eq_true, Bool.or_eq_true, Bool.not_eq_true', decide_eq_true_eq] at h
        show x ≤ m
        rcases Nat.lt_or_ge i j with hij | hij
        · obtain ⟨q1, q2⟩ := hI.2 i m hij hm hPm'
          rcases h.2 with h7 | h7
          · rw [q1] at h7; cases h7
          · omega
        · have : i = j := by omega
          subst this
          rw [hx] at hm; cases hm; exact Int.le_refl _
      · rcases Nat.lt_or_ge i j with hij | hij
        · exact hI.2 i m hij hm hPm'
        · have : i = j := by omega
          subst this
          rw [hx] at hm; cases hm
          have hPm' : part * (l.length : Int) ≤ (cntL l x : Int) * 1000 := hPm'
          simp only [Bool.and_eq_true, Bool.or_eq_true, Bool.not_eq_true', decide_eq_true_eq, not_and, not_or] at h
          obtain ⟨h7, h8⟩ := h hPm'
          exact ⟨by simpa using h7, by show s.1 ≤ x; omega⟩
  · intro s hI
    obtain ⟨j, hj, hjm⟩ := List.getElem_of_mem hvm
    obtain ⟨q1, q2⟩ := hI.2 j _ (by omega) (by rw [List.getElem?_eq_getElem hj, hjm]) hPv
    have q3 := hPm _ (hI.1 q1)
    unfold gateref2_PercentileOf_E1
    exact ok_some (by show s.1 = _; omega)
end

section
variable (w m : Int) (hw : 0 ≤ w ∧ w ≤ m) (hm : m ≤ 3600000)
def bo (k : Nat) : Int := min (w * 2 ^ k) m
include hw hm
theorem bo_up (k : Nat) : bo w m (k + 1) = min (2 * bo w m k) m := by
  unfold bo
  rw [Int.pow_succ, ← Int.mul_assoc]
  omega
theorem bo_stay (k : Nat) (h : m ≤ w * 2 ^ k) (j : Nat) (hj : k ≤ j) : bo w m j = m := by
  induction j with
  | zero => have : k = 0 := by omega
            subst this; unfold bo; omega
  | succ j ih =>
    rcases Nat.lt_or_ge j k with h1 | h1
    · have : k = j + 1 := by omega
      subst this; unfold bo; omega
    · rw [bo_up w m hw hm, ih h1]; omega
theorem backR_eq (t : Int) (ht : 2 ≤ t ∧ t ≤ 100) : m_gateref2_BackoffOf w m t = some (bo w m (t - 2).toNat) := by
  have e1 : wr (t - 2) = t - 2 := wr_id (by omega)
  unfold m_gateref2_BackoffOf
  rw [e1, if_pos (by omega)]
  refine ok_eq (ok_rng (I := fun k s => s = bo w m k) _ 0 w ?_ ?_ ?_)
  · unfold bo; simp; omega
  · intro j s _ _ hs
    unfold gateref2_BackoffOf_L1
    refine ok_some ?_
    show min (wr (2 * s)) m = _
    have h1 : 0 ≤ s ∧ s ≤ m := by
      rw [hs]; unfold bo
      have : (0 : Int) ≤ w * 2 ^ j := Int.mul_nonneg hw.1 (Int.le_of_lt (Int.pow_pos (by omega)))
      omega
    rw [wr_id (by omega), hs, bo_up w m hw hm]
  · intro s hs
    unfold gateref2_BackoffOf_E1
    exact ok_some (by rw [hs]; congr 1; omega)
theorem doubled_eq (t : Int) (ht : 0 ≤ t ∧ t ≤ 100) : m_upstream_doubled w t m = some (bo w m t.toNat) := by
  unfold m_upstream_doubled
  rw [if_pos (by omega)]
  refine ok_eq (ok_rng (I := fun k s => s = w * 2 ^ k) _ 0 w (by simp) ?_ ?_)
  · intro j s _ hj hs
    unfold upstream_doubled_L2 upstream_doubled_J1
    refine ok_if (fun h => ?_) (fun h => ok_some ?_)
    · simp at h
      refine ⟨.inr (min s m), rfl, ?_⟩
      show min s m = _
      rw [bo_stay w m hw hm j (by omega) t.toNat (by omega)]
      omega
    · simp at h
      show wr (s * 2) = _
      have : (0 : Int) ≤ w * 2 ^ j := Int.mul_nonneg hw.1 (Int.le_of_lt (Int.pow_pos (by omega)))
      rw [wr_id (by omega), hs, Int.pow_succ, Int.mul_assoc]
  · intro s hs
    unfold upstream_doubled_E2 upstream_doubled_J1
    exact ok_some (by rw [hs]; unfold bo; simp)
end
def bfF (w m t : Int) : Int := if outP w 0 m || decide (3600000 < m) || outP t 2 100 then 1 else 0
theorem bfR_eq (w m t : Int) : m_gateref2_BackoffFault w m t = some (bfF w m t) := by
  unfold m_gateref2_BackoffFault m_gateref2_in gateref2_BackoffFault_J1 bfF
  simp only [Option.bind_some, outP_in]
  cases (decide (0 ≤ w) && decide (w ≤ m)) <;> cases decide (3600000 < m) <;> cases (decide (2 ≤ t) && decide (t ≤ 100)) <;> simp
theorem backP_eq (w m t : Int) : m_upstream_Backoff w m t = some (if bfF w m t = 0 then bo w m (t - 2).toNat else 0, bfF w m t) := by
  have hj : ∀ b, bfF w m t = (if b = true then 1 else 0) → upstream_Backoff_J1 w m t b = some (if bfF w m t = 0 then bo w m (t - 2).toNat else 0, bfF w m t) := by
    intro b hb
    unfold upstream_Backoff_J1
    cases b
    · simp at hb
      have h1 := hb
      unfold bfF outP at h1
      simp at h1
      rw [if_neg (by simp), wr_id (by omega), doubled_eq w m (by omega) (by omega) (t - 2) (by omega), hb]
      rfl
    · simp at hb
      rw [if_pos rfl, hb]; rfl
  unfold m_upstream_Backoff m_kit_Outside
  simp only [Option.bind_some]
  unfold bfF outP at hj
  by_cases h1 : (decide (w < 0) || decide (m < w)) = true
  · rw [if_pos h1]; exact hj true (by simp only [h1, Bool.true_or, if_true])
  · rw [if_neg h1]
    by_cases h2 : decide (3600000 < m) = true
    · rw [if_pos h2]; exact hj true (by simp only [h2, Bool.true_or, Bool.or_true, if_true])
    · rw [if_neg h2]
      refine hj _ ?_
      simp only [Bool.not_eq_true] at h1 h2
      rw [h1, h2]; rfl
end Go.Proofs.Ytmcegaabopcmfaa
