/- Round: the smooth round over instances; balanced. -/
import Derived.Test.YtmcegaabopcmfaaFa
namespace Go.Proofs.Ytmcegaabopcmfaa
open Go.RowKit
set_option linter.unusedVariables false
set_option maxRecDepth 20000

def sumW (xs : List Inst) (k : Nat) : Int := ((xs.take k).map (·.2)).sum
theorem sumW_succ {xs : List Inst} {k : Nat} (h : k < xs.length) : sumW xs (k + 1) = sumW xs k + (nth ([], 0) xs k).2 := by
  unfold sumW; rw [nth_take (d := ([], 0)) h, List.map_append, List.sum_append]; simp
theorem sumW_bd {xs : List Inst} (h : ∀ p, p ∈ xs → 1 ≤ p.2 ∧ p.2 ≤ 100) : ∀ k, k ≤ xs.length → 0 ≤ sumW xs k ∧ sumW xs k ≤ 100 * k := by
  intro k
  induction k with
  | zero => intro _; simp [sumW]
  | succ k ih =>
    intro hk
    have h1 := ih (by omega)
    have h2 := h _ (nth_mem (d := ([], 0)) (l := xs) (k := k) (by omega))
    rw [sumW_succ (by omega)]
    omega
theorem ci_w {xs : List Inst} (hok : InsOK xs) (h : ciFault xs = 0) : ∀ p, p ∈ xs → 1 ≤ p.2 ∧ p.2 ≤ 100 := by
  intro p hp
  unfold ciFault at h
  have := hok.len
  rw [if_neg (by omega)] at h
  obtain ⟨k, hk, rfl⟩ := List.getElem_of_mem hp
  have h1 := firstErr_zero h k hk
  have h2 : nth ([], 0) xs k = xs[k] := by have := nth_at (d := ([], 0)) hk; rw [List.getElem?_eq_getElem hk] at this; exact (Option.some.inj this).symm
  unfold ciAt at h1
  simp only [wt, h2] at h1
  split at h1
  · cases h1
  · split at h1
    · cases h1
    · split at h1
      · cases h1
      · rename_i h3; simp [outB] at h3; omega
/-- the inner round: j weights are added; which one is greatest -/
def inn (xs : List Inst) (cur : List Int) : Nat → List Int × Nat
  | 0 => (cur, 0)
  | j + 1 => let c := (inn xs cur j).1.set j (nth 0 (inn xs cur j).1 j + (nth ([], 0) xs j).2)
             (c, if nth 0 c (inn xs cur j).2 < nth 0 c j then j else (inn xs cur j).2)
def rnd (xs : List Inst) : Nat → List Int × List (List UInt8)
  | 0 => (List.replicate xs.length 0, [])
  | k + 1 => let r := inn xs (rnd xs k).1 xs.length
             (r.1.set r.2 (nth 0 r.1 r.2 - sumW xs xs.length), (rnd xs k).2 ++ [(nth ([], 0) xs r.2).1])
theorem nth_set {l : List Int} {i j : Nat} {v : Int} (hi : i < l.length) : nth 0 (l.set i v) j = if j = i then v else nth 0 l j := by
  unfold nth
  rw [List.getD_eq_getElem?_getD, List.getElem?_set]
  by_cases h : i = j
  · subst h; simp [hi]
  · rw [if_neg h, if_neg (Ne.symm h), List.getD_eq_getElem?_getD]
theorem inn_len (xs : List Inst) (cur : List Int) (j : Nat) : (inn xs cur j).1.length = cur.length := by
  induction j with
  | zero => rfl
  | succ j ih => simp only [inn, List.length_set]; exact ih
theorem inn_best (xs : List Inst) (cur : List Int) (j : Nat) (h : 0 < xs.length) (hj : j ≤ xs.length) : (inn xs cur j).2 < xs.length := by
  induction j with
  | zero => exact h
  | succ j ih =>
    have := ih (by omega)
    simp only [inn]
    split
    · omega
    · exact this
theorem inn_bd {xs : List Inst} (hw : ∀ p, p ∈ xs → 1 ≤ p.2 ∧ p.2 ≤ 100) {cur : List Int} {B : Int} (hc : cur.length = xs.length) (hb : ∀ i, -B ≤ nth 0 cur i ∧ nth 0 cur i ≤ B) : ∀ j, j ≤ xs.length → (∀ i, -B ≤ nth 0 (inn xs cur j).1 i ∧ nth 0 (inn xs cur j).1 i ≤ B + 100) ∧ (∀ i, j ≤ i → nth 0 (inn xs cur j).1 i = nth 0 cur i) := by
  intro j
  induction j with
  | zero => intro _; exact ⟨fun i => ⟨(hb i).1, by have := (hb i).2; simp only [inn]; omega⟩, fun i _ => rfl⟩
  | succ j ih =>
    intro hj
    obtain ⟨h1, h2⟩ := ih (by omega)
    have hl : j < (inn xs cur j).1.length := by rw [inn_len]; omega
    have h3 := h2 j (Nat.le_refl _)
    have h4 := hb j
    have h5 := hw _ (nth_mem (d := ([], 0)) (l := xs) (k := j) (by omega))
    refine ⟨fun i => ?_, fun i hi => ?_⟩
    · simp only [inn]
      rw [nth_set hl]
      have := h1 i
      split
      · rw [h3]; omega
      · exact this
    · simp only [inn]
      rw [nth_set hl, if_neg (by omega)]
      exact h2 i (by omega)
theorem rnd_len (xs : List Inst) (k : Nat) : (rnd xs k).1.length = xs.length ∧ (rnd xs k).2.length = k := by
  induction k with
  | zero => simp [rnd]
  | succ k ih => simp only [rnd, List.length_set, List.length_append, inn_len, ih.1, ih.2]; simp
theorem rnd_bd {xs : List Inst} (hw : ∀ p, p ∈ xs → 1 ≤ p.2 ∧ p.2 ≤ 100) (hl : xs.length ≤ 50) (k : Nat) : ∀ i, -(5000 * k : Int) ≤ nth 0 (rnd xs k).1 i ∧ nth 0 (rnd xs k).1 i ≤ 5000 * k := by
  induction k with
  | zero => intro i; simp only [rnd]; unfold nth; rw [List.getD_eq_getElem?_getD, List.getElem?_replicate]; split <;> simp
  | succ k ih =>
    intro i
    have h1 := (inn_bd hw (B := 5000 * k) (rnd_len xs k).1 ih xs.length (Nat.le_refl _)).1
    have h2 := sumW_bd hw xs.length (Nat.le_refl _)
    by_cases hb : (inn xs (rnd xs k).1 xs.length).2 < (inn xs (rnd xs k).1 xs.length).1.length
    · simp only [rnd]
      rw [nth_set hb]
      have := h1 i
      have := h1 (inn xs (rnd xs k).1 xs.length).2
      split <;> omega
    · simp only [rnd]
      rw [List.set_eq_of_length_le (by omega)]
      have := h1 i
      omega
theorem ints_set (l : List Int) (i : Nat) (v : Int) : (ints l).set i [vint v] = ints (l.set i v) := by rw [ints, ints, List.map_set]
def roF (xs : List Inst) (n : Int) : Int := if ciFault xs = 0 then (if outB n 0 2000 then 1 else if xs.length = 0 then 8 else 0) else ciFault xs
def roL (xs : List Inst) (n : Int) : List (List UInt8) := if roF xs n = 0 then (rnd xs n.toNat).2 else []
theorem ro_a {xs : List Inst} {n : Int} (h : ¬ ciFault xs = 0) : vlst (strs (roL xs n)) = vlst [] ∧ ciFault xs = roF xs n := by
  have h1 : roF xs n = ciFault xs := by unfold roF; rw [if_neg h]
  refine ⟨?_, h1.symm⟩
  unfold roL; rw [h1, if_neg h]; rfl
theorem ro_b {xs : List Inst} {n : Int} (h : ciFault xs = 0) (h2 : outB n 0 2000 = true) : vlst (strs (roL xs n)) = vlst [] ∧ (1 : Int) = roF xs n := by
  have h1 : roF xs n = 1 := by unfold roF; rw [if_pos h, if_pos h2]
  refine ⟨?_, h1.symm⟩
  unfold roL; rw [h1]; rfl
theorem ro_c {xs : List Inst} {n : Int} (h : ciFault xs = 0) (h2 : outB n 0 2000 = false) (h3 : xs = []) : vlst (strs (roL xs n)) = vlst [] ∧ (8 : Int) = roF xs n := by
  have h1 : roF xs n = 8 := by unfold roF; rw [if_pos h, if_neg (by rw [h2]; decide), if_pos (by rw [h3]; rfl)]
  refine ⟨?_, h1.symm⟩
  unfold roL; rw [h1]; rfl
theorem ro_d {xs : List Inst} {n : Int} (h : ciFault xs = 0) (h2 : outB n 0 2000 = false) (h3 : 0 < xs.length) : roL xs n = (rnd xs n.toNat).2 ∧ (0 : Int) = roF xs n := by
  have h1 : roF xs n = 0 := by unfold roF; rw [if_pos h, if_neg (by rw [h2]; decide), if_neg (by omega)]
  refine ⟨?_, h1.symm⟩
  unfold roL; rw [h1]; rfl
theorem k_upstream_weights (xs : List Inst) (hok : InsOK xs)  : Fn Try.prog 118 [vlst (xs.map instE)] (resOf [vint (sumW xs xs.length)]) := by
  have hle := inst_len xs
  have hln : (xs.map instE).length = xs.length := by simp
  have hlen := hok.len
  have hsb : ∀ k, k ≤ xs.length → -(k * 1099511627776 : Int) ≤ sumW xs k ∧ sumW xs k ≤ k * 1099511627776 := by
    intro k
    induction k with
    | zero => intro _; simp [sumW]
    | succ k ih =>
      intro hk
      have h1 := ih (by omega)
      have h2 := hok.ok _ (nth_mem (d := ([], 0)) (l := xs) (k := k) (by omega))
      rw [sumW_succ (by omega)]
      omega
  refine ⟨by kernel_rfl, pure_of (us := [vint (sumW xs xs.length)]) Try.func118 rfl rfl rfl rfl fun X hN => ?_⟩
  refine awp_seq ?_
  refine awp_plain hN rfl ?_
  refine seq_run0 (stp_assign (.dat _) rfl) ?_
  refine awp_seq ?_
  refine awp_plain hN rfl ?_
  refine seq_run0 (stp_assign (.dat _) rfl) ?_
  refine awp_seq ?_
  refine awp_seq ?_
  refine awp_plain hN rfl ?_
  first | refine seq_run0 (stp_move (.dat _) rfl) ?_ | refine seq_run0 (stp_move (.ptr _ _) rfl) ?_ | refine seq_run0 (stp_move (.row _ _) rfl) ?_ | refine seq_run0 (stp_move (.rptr _ _ _ _ _) rfl) ?_ | refine seq_run0 (stp_move (.mp _) rfl) ?_
  first | refine seq_run0 (stp_len_lst tyU48 rfl) ?_ | refine seq_run1 (stp_len_row tyU48 rfl rfl) rfl ?_ | refine seq_run0 (stp_len_nil tyU48 rfl) ?_
  refine seq_run0 (stp_move (.dat _) rfl) ?_
  refine awp_block ?_
  refine awp_loop (fun k : Nat => [(3, .dat (vint (sumW xs k))), (6, .dat (vlst (xs.map instE))), (7, .dat (vint ((xs.map instE).length : Int))), (8, .dat (vint (k : Int)))]) (fun k : Nat => []) (fun k : Nat => k ≤ xs.length) (fun k : Nat => xs.length - k) 0 (by omega) ⟨rfl, rfl, rfl, rfl, trivial⟩ trivial (fun _ => rfl) (fun k hI => ?_)
  refine awp_seq ?_
  refine awp_plain hN rfl ?_
  refine seq_run0 (stp_lss rfl rfl) ?_
  refine awp_seq ?_
  refine awp_cond _ rfl (fun h1 => ?_) (fun h1 => ?_)
  · -- yes
    try simp at h1
    have hkl : k < xs.length := by omega
    have hat := inst_at hkl
    have hs1 := sumW_succ hkl
    have hs2 := hsb (k + 1) hkl
    have hs3 := hsb k hI
    refine awp_skip ?_
    refine awp_seq ?_
    refine awp_block ?_
    refine awp_seq ?_
    refine awp_plain hN rfl ?_
    first | refine seq_run0 (stp_idxE tyE48 rfl rfl (by omega) (by assumption)) ?_ | refine seq_run0 (stp_idxI tyE48 rfl rfl (by omega) (by assumption)) ?_ | refine seq_run1 (stp_idxR tyE48 rfl rfl (by first | rfl | omega | simp) (by first | omega | (simp; omega))) rfl ?_ | refine seq_run1 (stp_idxRI tyE48 rfl rfl (by first | rfl | omega | simp) (by first | omega | (simp; omega))) rfl ?_
    first | refine seq_run1 (stp_loadA tyS114 rfl rfl rfl) rfl ?_ | refine seq_run0 (stp_loadEA tyS114 rfl (by first | assumption | rfl) rfl) ?_ | refine seq_run1 (stp_loadRA tyS114 rfl (by first | rfl | omega | simp) (by first | assumption | exact List.getElem?_set_self (by simp; omega)) rfl) rfl ?_ | refine seq_run0 (stp_loadEP tyS114 rfl (by first | assumption | rfl) rfl) ?_
    refine seq_run2 (stp_alloc 1 tyZ114 rfl) rfl ?_
    first | refine seq_run2 (stp_storeW tyS114 rfl rfl rfl rfl) rfl ?_ | refine seq_run2 (stp_storeA tyS114 rfl rfl rfl rfl) rfl ?_
    refine awp_plain hN rfl ?_
    first | refine seq_run0 (stp_move (.dat _) rfl) ?_ | refine seq_run0 (stp_move (.ptr _ _) rfl) ?_ | refine seq_run0 (stp_move (.row _ _) rfl) ?_ | refine seq_run0 (stp_move (.rptr _ _ _ _ _) rfl) ?_ | refine seq_run0 (stp_move (.mp _) rfl) ?_
    first | refine seq_run0 (stp_fldP tyF114_1 rfl) ?_ | refine seq_run0 (stp_fldE tyF114_1 rfl) ?_ | refine seq_run0 (stp_fldR tyF114_1 rfl) ?_
    first | refine seq_run1 (stp_load1 tyS3 rfl rfl) rfl ?_ | refine seq_run0 (stp_loadE1 tyS3 rfl (by first | assumption | rfl) rfl) ?_ | refine seq_run1 (stp_loadR1 tyS3 rfl (by first | rfl | omega | simp) (by first | assumption | exact List.getElem?_set_self (by simp; omega)) rfl) rfl ?_
    refine seq_run0 (stp_add rfl rfl (by omega)) ?_
    first | refine seq_run0 (stp_assign (.dat _) rfl) ?_ | refine seq_run0 (stp_assign (.ptr _ _) rfl) ?_ | refine seq_run0 (stp_assign (.row _ _) rfl) ?_ | refine seq_run0 (stp_assign (.rptr _ _ _ _ _) rfl) ?_ | refine seq_run0 (stp_assign (.mp _) rfl) ?_
    refine awp_plain hN rfl ?_
    refine seq_run0 (stp_add rfl rfl (by omega)) ?_
    first | refine seq_run0 (stp_move (.dat _) rfl) ?_ | refine seq_run0 (stp_move (.ptr _ _) rfl) ?_ | refine seq_run0 (stp_move (.row _ _) rfl) ?_ | refine seq_run0 (stp_move (.rptr _ _ _ _ _) rfl) ?_ | refine seq_run0 (stp_move (.mp _) rfl) ?_
    exact ⟨k + 1, by omega, by omega, ⟨by rw [hs1]; rfl, rfl, rfl, rfl, trivial⟩, trivial⟩
  · -- no
    try simp at h1
    refine awp_exit ?_
    refine awp_seq ?_
    refine awp_plain hN rfl ?_
    first | refine seq_run0 (stp_move (.dat _) rfl) ?_ | refine seq_run0 (stp_move (.ptr _ _) rfl) ?_ | refine seq_run0 (stp_move (.row _ _) rfl) ?_ | refine seq_run0 (stp_move (.rptr _ _ _ _ _) rfl) ?_ | refine seq_run0 (stp_move (.mp _) rfl) ?_
    first | refine seq_run0 (stp_assign (.dat _) rfl) ?_ | refine seq_run0 (stp_assign (.ptr _ _) rfl) ?_ | refine seq_run0 (stp_assign (.row _ _) rfl) ?_ | refine seq_run0 (stp_assign (.rptr _ _ _ _ _) rfl) ?_ | refine seq_run0 (stp_assign (.mp _) rfl) ?_
    refine awp_ret ?_
    obtain rfl : k = xs.length := by omega
    exact ⟨trivial, .inl rfl, trivial⟩
theorem k_upstream_Round (xs : List Inst) (hok : InsOK xs) (n : Int)  : Fn Try.prog 75 [vlst (xs.map instE), vint n] (resOf [vlst (strs (roL xs n)), vint (roF xs n)]) := by
  have hle := inst_len xs
  have hln : (xs.map instE).length = xs.length := by simp
  have hlen := hok.len
  refine ⟨by kernel_rfl, pure_of (us := [vlst (strs (roL xs n)), vint (roF xs n)]) Try.func75 rfl rfl rfl rfl fun X hN => ?_⟩
  refine awp_seq ?_
  refine awp_plain hN rfl ?_
  refine seq_run0 (stp_assign (.dat _) rfl) ?_
  refine seq_run0 (stp_assign (.dat _) rfl) ?_
  refine awp_seq ?_
  refine awp_seq ?_
  refine awp_plain hN rfl ?_
  first | refine seq_run0 (stp_move (.dat _) rfl) ?_ | refine seq_run0 (stp_move (.ptr _ _) rfl) ?_ | refine seq_run0 (stp_move (.row _ _) rfl) ?_ | refine seq_run0 (stp_move (.rptr _ _ _ _ _) rfl) ?_ | refine seq_run0 (stp_move (.mp _) rfl) ?_
  refine seq_run0 (stp_call (k_upstream_CheckInstances _ hok) ⟨.inl rfl, trivial⟩) ?_
  first | refine seq_run0 (stp_assign (.dat _) rfl) ?_ | refine seq_run0 (stp_assign (.ptr _ _) rfl) ?_ | refine seq_run0 (stp_assign (.row _ _) rfl) ?_ | refine seq_run0 (stp_assign (.rptr _ _ _ _ _) rfl) ?_ | refine seq_run0 (stp_assign (.mp _) rfl) ?_
  refine awp_seq ?_
  refine awp_plain hN rfl ?_
  first | refine seq_run0 (stp_move (.dat _) rfl) ?_ | refine seq_run0 (stp_move (.ptr _ _) rfl) ?_ | refine seq_run0 (stp_move (.row _ _) rfl) ?_ | refine seq_run0 (stp_move (.rptr _ _ _ _ _) rfl) ?_ | refine seq_run0 (stp_move (.mp _) rfl) ?_
  refine seq_run0 (stp_neq rfl rfl) ?_
  refine awp_cond _ rfl (fun h1 => ?_) (fun h1 => ?_)
  · -- yes
    try simp at h1
    refine awp_seq ?_
    refine awp_plain hN rfl ?_
    first | refine seq_run0 (stp_move (.dat _) rfl) ?_ | refine seq_run0 (stp_move (.ptr _ _) rfl) ?_ | refine seq_run0 (stp_move (.row _ _) rfl) ?_ | refine seq_run0 (stp_move (.rptr _ _ _ _ _) rfl) ?_ | refine seq_run0 (stp_move (.mp _) rfl) ?_
    refine seq_run0 (stp_assign (.dat _) rfl) ?_
    first | refine seq_run0 (stp_assign (.dat _) rfl) ?_ | refine seq_run0 (stp_assign (.ptr _ _) rfl) ?_ | refine seq_run0 (stp_assign (.row _ _) rfl) ?_ | refine seq_run0 (stp_assign (.rptr _ _ _ _ _) rfl) ?_ | refine seq_run0 (stp_assign (.mp _) rfl) ?_
    refine awp_ret ?_
    exact ⟨trivial, .inr ⟨rfl, (ro_a h1).1⟩, .inl (congrArg vint (ro_a h1).2), trivial⟩
  · -- no
    try simp at h1
    refine awp_skip ?_
    refine awp_seq ?_
    refine awp_seq ?_
    refine awp_plain hN rfl ?_
    first | refine seq_run0 (stp_move (.dat _) rfl) ?_ | refine seq_run0 (stp_move (.ptr _ _) rfl) ?_ | refine seq_run0 (stp_move (.row _ _) rfl) ?_ | refine seq_run0 (stp_move (.rptr _ _ _ _ _) rfl) ?_ | refine seq_run0 (stp_move (.mp _) rfl) ?_
    refine seq_run0 (stp_call (k_kit_Outside _ _ _) ⟨.inl rfl, .inl rfl, .inl rfl, trivial⟩) ?_
    refine awp_cond _ rfl (fun h2 => ?_) (fun h2 => ?_)
    · -- yes
      try simp at h2
      refine awp_seq ?_
      refine awp_plain hN rfl ?_
      refine seq_run0 (stp_assign (.dat _) rfl) ?_
      refine seq_run0 (stp_assign (.dat _) rfl) ?_
      refine awp_ret ?_
      exact ⟨trivial, .inr ⟨rfl, (ro_b h1 h2).1⟩, .inl (congrArg vint (ro_b h1 h2).2), trivial⟩
    · -- no
      try simp at h2
      refine awp_skip ?_
      refine awp_seq ?_
      refine awp_seq ?_
      refine awp_plain hN rfl ?_
      first | refine seq_run0 (stp_move (.dat _) rfl) ?_ | refine seq_run0 (stp_move (.ptr _ _) rfl) ?_ | refine seq_run0 (stp_move (.row _ _) rfl) ?_ | refine seq_run0 (stp_move (.rptr _ _ _ _ _) rfl) ?_ | refine seq_run0 (stp_move (.mp _) rfl) ?_
      first | refine seq_run0 (stp_len_lst tyU48 rfl) ?_ | refine seq_run1 (stp_len_row tyU48 rfl rfl) rfl ?_ | refine seq_run0 (stp_len_nil tyU48 rfl) ?_
      refine seq_run0 (stp_eql rfl rfl) ?_
      refine awp_cond _ rfl (fun h3 => ?_) (fun h3 => ?_)
      · -- yes
        try simp at h3
        refine awp_seq ?_
        refine awp_plain hN rfl ?_
        refine seq_run0 (stp_assign (.dat _) rfl) ?_
        refine seq_run0 (stp_assign (.dat _) rfl) ?_
        refine awp_ret ?_
        exact ⟨trivial, .inr ⟨rfl, (ro_c h1 h2 h3).1⟩, .inl (congrArg vint (ro_c h1 h2 h3).2), trivial⟩
      · -- no
        try simp at h3
        refine awp_skip ?_
        refine awp_seq ?_
        refine awp_plain hN rfl ?_
        first | refine seq_run0 (stp_move (.dat _) rfl) ?_ | refine seq_run0 (stp_move (.ptr _ _) rfl) ?_ | refine seq_run0 (stp_move (.row _ _) rfl) ?_ | refine seq_run0 (stp_move (.rptr _ _ _ _ _) rfl) ?_ | refine seq_run0 (stp_move (.mp _) rfl) ?_
        first | refine seq_run0 (stp_len_lst tyU48 rfl) ?_ | refine seq_run1 (stp_len_row tyU48 rfl rfl) rfl ?_ | refine seq_run0 (stp_len_nil tyU48 rfl) ?_
        refine seq_run2 (stp_make 1 tyL22 tyZ3 rfl rfl rfl (by omega) (by omega) (by omega)) rfl ?_
        first | refine seq_run0 (stp_assign (.dat _) rfl) ?_ | refine seq_run0 (stp_assign (.ptr _ _) rfl) ?_ | refine seq_run0 (stp_assign (.row _ _) rfl) ?_ | refine seq_run0 (stp_assign (.rptr _ _ _ _ _) rfl) ?_ | refine seq_run0 (stp_assign (.mp _) rfl) ?_
        refine awp_seq ?_
        refine awp_plain hN rfl ?_
        first | refine seq_run0 (stp_move (.dat _) rfl) ?_ | refine seq_run0 (stp_move (.ptr _ _) rfl) ?_ | refine seq_run0 (stp_move (.row _ _) rfl) ?_ | refine seq_run0 (stp_move (.rptr _ _ _ _ _) rfl) ?_ | refine seq_run0 (stp_move (.mp _) rfl) ?_
        refine seq_run0 (stp_call (k_upstream_weights _ hok) ⟨.inl rfl, trivial⟩) ?_
        first | refine seq_run0 (stp_assign (.dat _) rfl) ?_ | refine seq_run0 (stp_assign (.ptr _ _) rfl) ?_ | refine seq_run0 (stp_assign (.row _ _) rfl) ?_ | refine seq_run0 (stp_assign (.rptr _ _ _ _ _) rfl) ?_ | refine seq_run0 (stp_assign (.mp _) rfl) ?_
        refine awp_seq ?_
        refine awp_plain hN rfl ?_
        refine seq_run0 (stp_assign (.dat _) rfl) ?_
        refine awp_seq ?_
        refine awp_seq ?_
        refine awp_plain hN rfl ?_
        first | refine seq_run0 (stp_move (.dat _) rfl) ?_ | refine seq_run0 (stp_move (.ptr _ _) rfl) ?_ | refine seq_run0 (stp_move (.row _ _) rfl) ?_ | refine seq_run0 (stp_move (.rptr _ _ _ _ _) rfl) ?_ | refine seq_run0 (stp_move (.mp _) rfl) ?_
        refine seq_run0 (stp_move (.dat _) rfl) ?_
        refine awp_block ?_
        have hw := ci_w hok (by simp_all)
        have hn : 0 ≤ n ∧ n ≤ 2000 := by simp [outB] at h2; omega
        have hpos : 0 < xs.length := Nat.pos_of_ne_zero (fun h => h3 (List.eq_nil_of_length_eq_zero h))
        have hsb := sumW_bd hw xs.length (Nat.le_refl _)
        refine awp_nilrow 9 50 9 1 rfl rfl rfl ?_
        refine awp_loop (fun k : Nat => [(0, .dat (vlst (xs.map instE))), (7, .row 1 (xs.map instE).length), (8, .dat (vint (sumW xs xs.length))), (9, .row 50 (strs (rnd xs k).2).length), (28, .dat (vint n)), (29, .dat (vint (k : Int)))]) (fun k : Nat => [(1, .row 3 1 (ints (rnd xs k).1)), (50, .row 9 1 (strs (rnd xs k).2))]) (fun k : Nat => (k : Int) ≤ n) (fun k : Nat => (n - k).toNat) 0 (by omega) ⟨rfl, rfl, rfl, rfl, rfl, rfl, trivial⟩ ⟨by simp [rnd, ints]; rfl, rfl, trivial⟩ (fun _ => rfl) (fun k hI => ?_)
        have hrl := rnd_len xs k
        have hrb := rnd_bd hw (by omega) k
        have hll : (ints (rnd xs k).1).length = xs.length := by simp [hrl.1]
        have hls : (strs (rnd xs k).2).length = k := by simp [hrl.2]
        refine awp_seq ?_
        refine awp_plain hN rfl ?_
        refine seq_run0 (stp_lss rfl rfl) ?_
        refine awp_seq ?_
        refine awp_cond _ rfl (fun h4 => ?_) (fun h4 => ?_)
        · -- yes
          try simp at h4
          refine awp_skip ?_
          refine awp_seq ?_
          refine awp_block ?_
          refine awp_seq ?_
          refine awp_plain hN rfl ?_
          refine seq_run0 (stp_assign (.dat _) rfl) ?_
          refine awp_seq ?_
          refine awp_seq ?_
          refine awp_plain hN rfl ?_
          first | refine seq_run0 (stp_move (.dat _) rfl) ?_ | refine seq_run0 (stp_move (.ptr _ _) rfl) ?_ | refine seq_run0 (stp_move (.row _ _) rfl) ?_ | refine seq_run0 (stp_move (.rptr _ _ _ _ _) rfl) ?_ | refine seq_run0 (stp_move (.mp _) rfl) ?_
          first | refine seq_run0 (stp_len_lst tyU48 rfl) ?_ | refine seq_run1 (stp_len_row tyU48 rfl rfl) rfl ?_ | refine seq_run0 (stp_len_nil tyU48 rfl) ?_
          refine seq_run0 (stp_move (.dat _) rfl) ?_
          refine awp_block ?_
          refine awp_loop (fun j : Nat => [(0, .dat (vlst (xs.map instE))), (7, .row 1 (xs.map instE).length), (8, .dat (vint (sumW xs xs.length))), (9, .row 50 (strs (rnd xs k).2).length), (28, .dat (vint n)), (29, .dat (vint (k : Int))), (10, .dat (vint ((inn xs (rnd xs k).1 j).2 : Int))), (31, .dat (vlst (xs.map instE))), (32, .dat (vint ((xs.map instE).length : Int))), (33, .dat (vint (j : Int)))]) (fun j : Nat => [(1, .row 3 1 (ints (inn xs (rnd xs k).1 j).1)), (50, .row 9 1 (strs (rnd xs k).2))]) (fun j : Nat => j ≤ xs.length) (fun j : Nat => xs.length - j) 0 (by omega) ⟨rfl, rfl, rfl, rfl, rfl, rfl, rfl, rfl, rfl, rfl, trivial⟩ ⟨rfl, rfl, trivial⟩ (fun _ => rfl) (fun j hI => ?_)
          have hib := (inn_bd hw (rnd_len xs k).1 hrb j hI).1
          have hil := inn_len xs (rnd xs k).1 j
          have hbest := inn_best xs (rnd xs k).1 j hpos hI
          have hlj : (ints (inn xs (rnd xs k).1 j).1).length = xs.length := by simp [hil, hrl.1]
          refine awp_seq ?_
          refine awp_plain hN rfl ?_
          refine seq_run0 (stp_lss rfl rfl) ?_
          refine awp_seq ?_
          refine awp_cond _ rfl (fun h5 => ?_) (fun h5 => ?_)
          · -- yes
            try simp at h5
            have hjl : j < xs.length := by omega
            have hat := inst_at hjl
            have hwj := hw _ (nth_mem (d := ([], 0)) hjl)
            have hcj := hib j
            have hat1 := ints_at (l := (inn xs (rnd xs k).1 j).1) (k := j) (by omega)
            have hT : (ints (inn xs (rnd xs k).1 j).1).set j (List.set [vint (nth 0 (inn xs (rnd xs k).1 j).1 j)] 0 (vint (nth 0 (inn xs (rnd xs k).1 j).1 j + (nth ([], 0) xs j).2))) = ints (inn xs (rnd xs k).1 (j + 1)).1 := ints_set _ _ _
            have hTl : ((ints (inn xs (rnd xs k).1 j).1).set j (List.set [vint (nth 0 (inn xs (rnd xs k).1 j).1 j)] 0 (vint (nth 0 (inn xs (rnd xs k).1 j).1 j + (nth ([], 0) xs j).2)))).length = xs.length := by rw [List.length_set]; omega
            have hTj : ((ints (inn xs (rnd xs k).1 j).1).set j (List.set [vint (nth 0 (inn xs (rnd xs k).1 j).1 j)] 0 (vint (nth 0 (inn xs (rnd xs k).1 j).1 j + (nth ([], 0) xs j).2))))[j]? = some [vint (nth 0 (inn xs (rnd xs k).1 (j + 1)).1 j)] := by rw [hT]; exact ints_at (by rw [inn_len]; omega)
            have hTb : ((ints (inn xs (rnd xs k).1 j).1).set j (List.set [vint (nth 0 (inn xs (rnd xs k).1 j).1 j)] 0 (vint (nth 0 (inn xs (rnd xs k).1 j).1 j + (nth ([], 0) xs j).2))))[(inn xs (rnd xs k).1 j).2]? = some [vint (nth 0 (inn xs (rnd xs k).1 (j + 1)).1 (inn xs (rnd xs k).1 j).2)] := by rw [hT]; exact ints_at (by rw [inn_len]; omega)
            refine awp_skip ?_
            refine awp_seq ?_
            refine awp_block ?_
            refine awp_seq ?_
            refine awp_plain hN rfl ?_
            first | refine seq_run0 (stp_move (.dat _) rfl) ?_ | refine seq_run0 (stp_move (.ptr _ _) rfl) ?_ | refine seq_run0 (stp_move (.row _ _) rfl) ?_ | refine seq_run0 (stp_move (.rptr _ _ _ _ _) rfl) ?_ | refine seq_run0 (stp_move (.mp _) rfl) ?_
            first | refine seq_run0 (stp_idxE tyE48 rfl rfl (by omega) (by assumption)) ?_ | refine seq_run0 (stp_idxI tyE48 rfl rfl (by omega) (by assumption)) ?_ | refine seq_run1 (stp_idxR tyE48 rfl rfl (by first | rfl | omega | simp) (by first | omega | (simp; omega))) rfl ?_ | refine seq_run1 (stp_idxRI tyE48 rfl rfl (by first | rfl | omega | simp) (by first | omega | (simp; omega))) rfl ?_
            first | refine seq_run1 (stp_loadA tyS114 rfl rfl rfl) rfl ?_ | refine seq_run0 (stp_loadEA tyS114 rfl (by first | assumption | rfl) rfl) ?_ | refine seq_run1 (stp_loadRA tyS114 rfl (by first | rfl | omega | simp) (by first | assumption | exact List.getElem?_set_self (by simp; omega)) rfl) rfl ?_ | refine seq_run0 (stp_loadEP tyS114 rfl (by first | assumption | rfl) rfl) ?_
            refine seq_run2 (stp_alloc 2 tyZ114 rfl) rfl ?_
            first | refine seq_run0 (stp_assign (.dat _) rfl) ?_ | refine seq_run0 (stp_assign (.ptr _ _) rfl) ?_ | refine seq_run0 (stp_assign (.row _ _) rfl) ?_ | refine seq_run0 (stp_assign (.rptr _ _ _ _ _) rfl) ?_ | refine seq_run0 (stp_assign (.mp _) rfl) ?_
            first | refine seq_run2 (stp_storeW tyS114 rfl rfl rfl rfl) rfl ?_ | refine seq_run2 (stp_storeA tyS114 rfl rfl rfl rfl) rfl ?_
            refine awp_seq ?_
            refine awp_draw mixed hN rfl rfl ?_
            first | refine seq_run0 (stp_move (.dat _) rfl) ?_ | refine seq_run0 (stp_move (.ptr _ _) rfl) ?_ | refine seq_run0 (stp_move (.row _ _) rfl) ?_ | refine seq_run0 (stp_move (.rptr _ _ _ _ _) rfl) ?_ | refine seq_run0 (stp_move (.mp _) rfl) ?_
            first | refine seq_run0 (stp_move (.dat _) rfl) ?_ | refine seq_run0 (stp_move (.ptr _ _) rfl) ?_ | refine seq_run0 (stp_move (.row _ _) rfl) ?_ | refine seq_run0 (stp_move (.rptr _ _ _ _ _) rfl) ?_ | refine seq_run0 (stp_move (.mp _) rfl) ?_
            first | refine seq_run0 (stp_idxE tyE22 rfl rfl (by omega) (by assumption)) ?_ | refine seq_run0 (stp_idxI tyE22 rfl rfl (by omega) (by assumption)) ?_ | refine seq_run1 (stp_idxR tyE22 rfl rfl (by first | rfl | omega | simp) (by first | omega | (simp; omega))) rfl ?_ | refine seq_run1 (stp_idxRI tyE22 rfl rfl (by first | rfl | omega | simp) (by first | omega | (simp; omega))) rfl ?_
            first | refine seq_run1 (stp_load1 tyS3 rfl rfl) rfl ?_ | refine seq_run0 (stp_loadE1 tyS3 rfl (by first | assumption | rfl) rfl) ?_ | refine seq_run1 (stp_loadR1 tyS3 rfl (by first | rfl | omega | simp) (by first | assumption | exact List.getElem?_set_self (by simp; omega)) rfl) rfl ?_
            first | refine seq_run0 (stp_fldP tyF114_1 rfl) ?_ | refine seq_run0 (stp_fldE tyF114_1 rfl) ?_ | refine seq_run0 (stp_fldR tyF114_1 rfl) ?_
            first | refine seq_run1 (stp_load1 tyS3 rfl rfl) rfl ?_ | refine seq_run0 (stp_loadE1 tyS3 rfl (by first | assumption | rfl) rfl) ?_ | refine seq_run1 (stp_loadR1 tyS3 rfl (by first | rfl | omega | simp) (by first | assumption | exact List.getElem?_set_self (by simp; omega)) rfl) rfl ?_
            refine seq_run0 (stp_add rfl rfl (by omega)) ?_
            first | refine seq_run0 (stp_idxE tyE22 rfl rfl (by omega) (by assumption)) ?_ | refine seq_run0 (stp_idxI tyE22 rfl rfl (by omega) (by assumption)) ?_ | refine seq_run1 (stp_idxR tyE22 rfl rfl (by first | rfl | omega | simp) (by first | omega | (simp; omega))) rfl ?_ | refine seq_run1 (stp_idxRI tyE22 rfl rfl (by first | rfl | omega | simp) (by first | omega | (simp; omega))) rfl ?_
            first | refine seq_run2 (stp_store1 tyS3 rfl rfl rfl rfl) rfl ?_ | refine seq_run2 (stp_storeS tyS3 rfl rfl rfl rfl) rfl ?_ | refine seq_run2 (stp_storeR tyS3 rfl rfl rfl (by first | rfl | omega | simp) (by first | assumption | exact List.getElem?_set_self (by simp; omega)) rfl) rfl ?_
            refine ⟨rfl, ?_⟩
            refine awp_seq ?_
            refine awp_draw mixed hN rfl rfl ?_
            first | refine seq_run0 (stp_move (.dat _) rfl) ?_ | refine seq_run0 (stp_move (.ptr _ _) rfl) ?_ | refine seq_run0 (stp_move (.row _ _) rfl) ?_ | refine seq_run0 (stp_move (.rptr _ _ _ _ _) rfl) ?_ | refine seq_run0 (stp_move (.mp _) rfl) ?_
            first | refine seq_run0 (stp_move (.dat _) rfl) ?_ | refine seq_run0 (stp_move (.ptr _ _) rfl) ?_ | refine seq_run0 (stp_move (.row _ _) rfl) ?_ | refine seq_run0 (stp_move (.rptr _ _ _ _ _) rfl) ?_ | refine seq_run0 (stp_move (.mp _) rfl) ?_
            first | refine seq_run0 (stp_idxE tyE22 rfl rfl (by omega) (by assumption)) ?_ | refine seq_run0 (stp_idxI tyE22 rfl rfl (by omega) (by assumption)) ?_ | refine seq_run1 (stp_idxR tyE22 rfl rfl (by first | rfl | omega | simp) (by first | omega | (simp; omega))) rfl ?_ | refine seq_run1 (stp_idxRI tyE22 rfl rfl (by first | rfl | omega | simp) (by first | omega | (simp; omega))) rfl ?_
            first | refine seq_run1 (stp_load1 tyS3 rfl rfl) rfl ?_ | refine seq_run0 (stp_loadE1 tyS3 rfl (by first | assumption | rfl) rfl) ?_ | refine seq_run1 (stp_loadR1 tyS3 rfl (by first | rfl | omega | simp) (by first | assumption | exact List.getElem?_set_self (by simp; omega)) rfl) rfl ?_
            first | refine seq_run0 (stp_move (.dat _) rfl) ?_ | refine seq_run0 (stp_move (.ptr _ _) rfl) ?_ | refine seq_run0 (stp_move (.row _ _) rfl) ?_ | refine seq_run0 (stp_move (.rptr _ _ _ _ _) rfl) ?_ | refine seq_run0 (stp_move (.mp _) rfl) ?_
            first | refine seq_run0 (stp_move (.dat _) rfl) ?_ | refine seq_run0 (stp_move (.ptr _ _) rfl) ?_ | refine seq_run0 (stp_move (.row _ _) rfl) ?_ | refine seq_run0 (stp_move (.rptr _ _ _ _ _) rfl) ?_ | refine seq_run0 (stp_move (.mp _) rfl) ?_
            first | refine seq_run0 (stp_idxE tyE22 rfl rfl (by omega) (by assumption)) ?_ | refine seq_run0 (stp_idxI tyE22 rfl rfl (by omega) (by assumption)) ?_ | refine seq_run1 (stp_idxR tyE22 rfl rfl (by first | rfl | omega | simp) (by first | omega | (simp; omega))) rfl ?_ | refine seq_run1 (stp_idxRI tyE22 rfl rfl (by first | rfl | omega | simp) (by first | omega | (simp; omega))) rfl ?_
            first | refine seq_run1 (stp_load1 tyS3 rfl rfl) rfl ?_ | refine seq_run0 (stp_loadE1 tyS3 rfl (by first | assumption | rfl) rfl) ?_ | refine seq_run1 (stp_loadR1 tyS3 rfl (by first | rfl | omega | simp) (by first | assumption | exact List.getElem?_set_self (by simp; omega)) rfl) rfl ?_
            refine seq_run0 (stp_gtr rfl rfl) ?_
            refine ⟨rfl, ?_⟩
            refine awp_cond _ rfl (fun h6 => ?_) (fun h6 => ?_)
            · -- yes
              try simp at h6
              refine awp_plain hN rfl ?_
              first | refine seq_run0 (stp_move (.dat _) rfl) ?_ | refine seq_run0 (stp_move (.ptr _ _) rfl) ?_ | refine seq_run0 (stp_move (.row _ _) rfl) ?_ | refine seq_run0 (stp_move (.rptr _ _ _ _ _) rfl) ?_ | refine seq_run0 (stp_move (.mp _) rfl) ?_
              first | refine seq_run0 (stp_assign (.dat _) rfl) ?_ | refine seq_run0 (stp_assign (.ptr _ _) rfl) ?_ | refine seq_run0 (stp_assign (.row _ _) rfl) ?_ | refine seq_run0 (stp_assign (.rptr _ _ _ _ _) rfl) ?_ | refine seq_run0 (stp_assign (.mp _) rfl) ?_
              refine awp_plain hN rfl ?_
              refine seq_run0 (stp_add rfl rfl (by omega)) ?_
              first | refine seq_run0 (stp_move (.dat _) rfl) ?_ | refine seq_run0 (stp_move (.ptr _ _) rfl) ?_ | refine seq_run0 (stp_move (.row _ _) rfl) ?_ | refine seq_run0 (stp_move (.rptr _ _ _ _ _) rfl) ?_ | refine seq_run0 (stp_move (.mp _) rfl) ?_
              exact ⟨j + 1, by omega, by omega, ⟨rfl, rfl, rfl, rfl, rfl, rfl, ji (congrArg Int.ofNat (if_pos h6)), rfl, rfl, rfl, trivial⟩, ⟨congrArg (fun e => some (some (AObj.row _ 1 e))) hT, rfl, trivial⟩⟩
            · -- no
              try simp at h6
              refine awp_skip ?_
              refine awp_plain hN rfl ?_
              refine seq_run0 (stp_add rfl rfl (by omega)) ?_
              first | refine seq_run0 (stp_move (.dat _) rfl) ?_ | refine seq_run0 (stp_move (.ptr _ _) rfl) ?_ | refine seq_run0 (stp_move (.row _ _) rfl) ?_ | refine seq_run0 (stp_move (.rptr _ _ _ _ _) rfl) ?_ | refine seq_run0 (stp_move (.mp _) rfl) ?_
              exact ⟨j + 1, by omega, by omega, ⟨rfl, rfl, rfl, rfl, rfl, rfl, ji (congrArg Int.ofNat (if_neg (Int.not_lt.2 h6))), rfl, rfl, rfl, trivial⟩, ⟨congrArg (fun e => some (some (AObj.row _ 1 e))) hT, rfl, trivial⟩⟩
          · -- no
            try simp at h5
            obtain rfl : j = xs.length := by omega
            have hat := inst_at hbest
            have hat1 := ints_at (l := (inn xs (rnd xs k).1 xs.length).1) (k := (inn xs (rnd xs k).1 xs.length).2) (by omega)
            have hcb := hib (inn xs (rnd xs k).1 xs.length).2
            refine awp_exit ?_
            refine awp_seq ?_
            refine awp_plain hN rfl ?_
            first | refine seq_run0 (stp_move (.dat _) rfl) ?_ | refine seq_run0 (stp_move (.ptr _ _) rfl) ?_ | refine seq_run0 (stp_move (.row _ _) rfl) ?_ | refine seq_run0 (stp_move (.rptr _ _ _ _ _) rfl) ?_ | refine seq_run0 (stp_move (.mp _) rfl) ?_
            first | refine seq_run0 (stp_move (.dat _) rfl) ?_ | refine seq_run0 (stp_move (.ptr _ _) rfl) ?_ | refine seq_run0 (stp_move (.row _ _) rfl) ?_ | refine seq_run0 (stp_move (.rptr _ _ _ _ _) rfl) ?_ | refine seq_run0 (stp_move (.mp _) rfl) ?_
            first | refine seq_run0 (stp_idxE tyE22 rfl rfl (by omega) (by assumption)) ?_ | refine seq_run0 (stp_idxI tyE22 rfl rfl (by omega) (by assumption)) ?_ | refine seq_run1 (stp_idxR tyE22 rfl rfl (by first | rfl | omega | simp) (by first | omega | (simp; omega))) rfl ?_ | refine seq_run1 (stp_idxRI tyE22 rfl rfl (by first | rfl | omega | simp) (by first | omega | (simp; omega))) rfl ?_
            first | refine seq_run1 (stp_load1 tyS3 rfl rfl) rfl ?_ | refine seq_run0 (stp_loadE1 tyS3 rfl (by first | assumption | rfl) rfl) ?_ | refine seq_run1 (stp_loadR1 tyS3 rfl (by first | rfl | omega | simp) (by first | assumption | exact List.getElem?_set_self (by simp; omega)) rfl) rfl ?_
            first | refine seq_run0 (stp_move (.dat _) rfl) ?_ | refine seq_run0 (stp_move (.ptr _ _) rfl) ?_ | refine seq_run0 (stp_move (.row _ _) rfl) ?_ | refine seq_run0 (stp_move (.rptr _ _ _ _ _) rfl) ?_ | refine seq_run0 (stp_move (.mp _) rfl) ?_
            refine seq_run0 (stp_sub rfl rfl (by omega)) ?_
            first | refine seq_run0 (stp_idxE tyE22 rfl rfl (by omega) (by assumption)) ?_ | refine seq_run0 (stp_idxI tyE22 rfl rfl (by omega) (by assumption)) ?_ | refine seq_run1 (stp_idxR tyE22 rfl rfl (by first | rfl | omega | simp) (by first | omega | (simp; omega))) rfl ?_ | refine seq_run1 (stp_idxRI tyE22 rfl rfl (by first | rfl | omega | simp) (by first | omega | (simp; omega))) rfl ?_
            first | refine seq_run2 (stp_store1 tyS3 rfl rfl rfl rfl) rfl ?_ | refine seq_run2 (stp_storeS tyS3 rfl rfl rfl rfl) rfl ?_ | refine seq_run2 (stp_storeR tyS3 rfl rfl rfl (by first | rfl | omega | simp) (by first | assumption | exact List.getElem?_set_self (by simp; omega)) rfl) rfl ?_
            refine awp_plain hN rfl ?_
            first | refine seq_run0 (stp_move (.dat _) rfl) ?_ | refine seq_run0 (stp_move (.ptr _ _) rfl) ?_ | refine seq_run0 (stp_move (.row _ _) rfl) ?_ | refine seq_run0 (stp_move (.rptr _ _ _ _ _) rfl) ?_ | refine seq_run0 (stp_move (.mp _) rfl) ?_
            first | refine seq_run0 (stp_move (.dat _) rfl) ?_ | refine seq_run0 (stp_move (.ptr _ _) rfl) ?_ | refine seq_run0 (stp_move (.row _ _) rfl) ?_ | refine seq_run0 (stp_move (.rptr _ _ _ _ _) rfl) ?_ | refine seq_run0 (stp_move (.mp _) rfl) ?_
            first | refine seq_run0 (stp_move (.dat _) rfl) ?_ | refine seq_run0 (stp_move (.ptr _ _) rfl) ?_ | refine seq_run0 (stp_move (.row _ _) rfl) ?_ | refine seq_run0 (stp_move (.rptr _ _ _ _ _) rfl) ?_ | refine seq_run0 (stp_move (.mp _) rfl) ?_
            first | refine seq_run0 (stp_idxE tyE48 rfl rfl (by omega) (by assumption)) ?_ | refine seq_run0 (stp_idxI tyE48 rfl rfl (by omega) (by assumption)) ?_ | refine seq_run1 (stp_idxR tyE48 rfl rfl (by first | rfl | omega | simp) (by first | omega | (simp; omega))) rfl ?_ | refine seq_run1 (stp_idxRI tyE48 rfl rfl (by first | rfl | omega | simp) (by first | omega | (simp; omega))) rfl ?_
            first | refine seq_run0 (stp_fldP tyF114_0 rfl) ?_ | refine seq_run0 (stp_fldE tyF114_0 rfl) ?_ | refine seq_run0 (stp_fldR tyF114_0 rfl) ?_
            first | refine seq_run1 (stp_load1 tyS9 rfl rfl) rfl ?_ | refine seq_run0 (stp_loadE1 tyS9 rfl (by first | assumption | rfl) rfl) ?_ | refine seq_run1 (stp_loadR1 tyS9 rfl (by first | rfl | omega | simp) (by first | assumption | exact List.getElem?_set_self (by simp; omega)) rfl) rfl ?_
            refine seq_run0 (stp_lit [[_]] tyL73 ⟨rfl, .inl ⟨_, rfl, rfl, rfl⟩, rfl, trivial⟩ rfl rfl) ?_
            first | refine seq_run2 (stp_app tyL73 rfl rfl (by simp) (by first | (intro el h; simp only [List.mem_singleton] at h; subst h; rfl) | assumption | simp) (by simp; omega) (by simp; omega)) rfl ?_ | refine seq_run2 (stp_appN 4 tyL73 rfl rfl (by simp) (by first | (intro el h; simp only [List.mem_singleton] at h; subst h; rfl) | assumption | simp) (by simp) (by simp)) rfl ?_
            first | refine seq_run0 (stp_assign (.dat _) rfl) ?_ | refine seq_run0 (stp_assign (.ptr _ _) rfl) ?_ | refine seq_run0 (stp_assign (.row _ _) rfl) ?_ | refine seq_run0 (stp_assign (.rptr _ _ _ _ _) rfl) ?_ | refine seq_run0 (stp_assign (.mp _) rfl) ?_
            refine awp_plain hN rfl ?_
            refine seq_run0 (stp_add rfl rfl (by omega)) ?_
            first | refine seq_run0 (stp_move (.dat _) rfl) ?_ | refine seq_run0 (stp_move (.ptr _ _) rfl) ?_ | refine seq_run0 (stp_move (.row _ _) rfl) ?_ | refine seq_run0 (stp_move (.rptr _ _ _ _ _) rfl) ?_ | refine seq_run0 (stp_move (.mp _) rfl) ?_
            exact ⟨k + 1, by omega, by omega, ⟨rfl, rfl, rfl, by rw [show (rnd xs (k + 1)).2 = (rnd xs k).2 ++ [(nth ([], 0) xs (inn xs (rnd xs k).1 xs.length).2).1] from rfl, strs, List.map_append]; rfl, rfl, rfl, trivial⟩, ⟨congrArg (fun e => some (some (AObj.row _ 1 e))) (ints_set _ _ _), congrArg (fun e => some (some (AObj.row _ 1 e))) (by rw [show (rnd xs (k + 1)).2 = (rnd xs k).2 ++ [(nth ([], 0) xs (inn xs (rnd xs k).1 xs.length).2).1] from rfl]; simp only [strs, List.map_append]; rfl), trivial⟩⟩
        · -- no
          try simp at h4
          refine awp_exit ?_
          refine awp_seq ?_
          refine awp_plain hN rfl ?_
          first | refine seq_run0 (stp_move (.dat _) rfl) ?_ | refine seq_run0 (stp_move (.ptr _ _) rfl) ?_ | refine seq_run0 (stp_move (.row _ _) rfl) ?_ | refine seq_run0 (stp_move (.rptr _ _ _ _ _) rfl) ?_ | refine seq_run0 (stp_move (.mp _) rfl) ?_
          first | refine seq_run0 (stp_assign (.dat _) rfl) ?_ | refine seq_run0 (stp_assign (.ptr _ _) rfl) ?_ | refine seq_run0 (stp_assign (.row _ _) rfl) ?_ | refine seq_run0 (stp_assign (.rptr _ _ _ _ _) rfl) ?_ | refine seq_run0 (stp_assign (.mp _) rfl) ?_
          refine seq_run0 (stp_assign (.dat _) rfl) ?_
          refine awp_ret ?_
          obtain rfl : n = (k : Int) := by omega
          exact ⟨trivial, ⟨_, _, _, rfl, rfl, by rw [(ro_d h1 h2 hpos).1]; rfl⟩, .inl (congrArg vint (ro_d h1 h2 hpos).2), trivial⟩
def eqL (a b : List (List UInt8)) : Bool := decide (a = b)
theorem eq_up {a b : List (List UInt8)} (hl : a.length = b.length) {k : Nat} (hk : k < a.length) (h : nth [] a k ≠ nth [] b k) : eqL a b = false := by
  unfold eqL; rw [decide_eq_false_iff_not]; rintro rfl; exact h rfl
theorem eq_all {a b : List (List UInt8)} (hl : a.length = b.length) (h : ∀ j, j < a.length → nth [] a j = nth [] b j) : eqL a b = true := by
  unfold eqL; rw [decide_eq_true_eq]
  apply List.ext_getElem? 
  intro j
  rcases Nat.lt_or_ge j a.length with hj | hj
  · rw [nth_at (d := []) hj, nth_at (d := []) (by omega), h j hj]
  · rw [List.getElem?_eq_none hj, List.getElem?_eq_none (by omega)]
theorem k_eqStr (a b : List (List UInt8)) (ha : a.length ≤ 1000000000) (hb : b.length ≤ 1000000000)  : Fn Try.prog 47 [vlst (strs a), vlst (strs b)] (resOf [vbool (eqL a b)]) := by
  have hle := strs_len a
  have hle2 := strs_len b
  have hla : (strs a).length = a.length := by simp
  have hlb : (strs b).length = b.length := by simp
  refine ⟨by kernel_rfl, pure_of (us := [vbool (eqL a b)]) Try.func47 rfl rfl rfl rfl fun X hN => ?_⟩
  refine awp_seq ?_
  refine awp_plain hN rfl ?_
  refine seq_run0 (stp_assign (.dat _) rfl) ?_
  refine awp_seq ?_
  refine awp_seq ?_
  refine awp_plain hN rfl ?_
  first | refine seq_run0 (stp_move (.dat _) rfl) ?_ | refine seq_run0 (stp_move (.ptr _ _) rfl) ?_ | refine seq_run0 (stp_move (.row _ _) rfl) ?_ | refine seq_run0 (stp_move (.rptr _ _ _ _ _) rfl) ?_ | refine seq_run0 (stp_move (.mp _) rfl) ?_
  first | refine seq_run0 (stp_len_lst tyU73 rfl) ?_ | refine seq_run1 (stp_len_row tyU73 rfl rfl) rfl ?_ | refine seq_run0 (stp_len_nil tyU73 rfl) ?_
  first | refine seq_run0 (stp_move (.dat _) rfl) ?_ | refine seq_run0 (stp_move (.ptr _ _) rfl) ?_ | refine seq_run0 (stp_move (.row _ _) rfl) ?_ | refine seq_run0 (stp_move (.rptr _ _ _ _ _) rfl) ?_ | refine seq_run0 (stp_move (.mp _) rfl) ?_
  first | refine seq_run0 (stp_len_lst tyU73 rfl) ?_ | refine seq_run1 (stp_len_row tyU73 rfl rfl) rfl ?_ | refine seq_run0 (stp_len_nil tyU73 rfl) ?_
  refine seq_run0 (stp_neq rfl rfl) ?_
  refine awp_cond _ rfl (fun h1 => ?_) (fun h1 => ?_)
  · -- yes
    try simp at h1
    refine awp_seq ?_
    refine awp_plain hN rfl ?_
    refine seq_run0 (stp_assign (.dat _) rfl) ?_
    refine awp_ret ?_
    exact ⟨trivial, .inl (congrArg vbool (by unfold eqL; symm; rw [decide_eq_false_iff_not]; rintro rfl; simp at h1)), trivial⟩
  · -- no
    try simp at h1
    refine awp_skip ?_
    refine awp_seq ?_
    refine awp_seq ?_
    refine awp_plain hN rfl ?_
    first | refine seq_run0 (stp_move (.dat _) rfl) ?_ | refine seq_run0 (stp_move (.ptr _ _) rfl) ?_ | refine seq_run0 (stp_move (.row _ _) rfl) ?_ | refine seq_run0 (stp_move (.rptr _ _ _ _ _) rfl) ?_ | refine seq_run0 (stp_move (.mp _) rfl) ?_
    first | refine seq_run0 (stp_len_lst tyU73 rfl) ?_ | refine seq_run1 (stp_len_row tyU73 rfl rfl) rfl ?_ | refine seq_run0 (stp_len_nil tyU73 rfl) ?_
    refine seq_run0 (stp_move (.dat _) rfl) ?_
    refine awp_block ?_
    have hab : a.length = b.length := by omega
    refine awp_loop (fun k : Nat => [(0, .dat (vlst (strs a))), (1, .dat (vlst (strs b))), (12, .dat (vint ((strs a).length : Int))), (13, .dat (vint (k : Int)))]) (fun k : Nat => []) (fun k : Nat => k ≤ a.length ∧ ∀ j, j < k → nth [] a j = nth [] b j) (fun k : Nat => a.length - k) 0 ⟨by omega, fun j h => by omega⟩ ⟨rfl, rfl, rfl, rfl, trivial⟩ trivial (fun _ => rfl) (fun k hI => ?_)
    obtain ⟨hk, hu⟩ := hI
    refine awp_seq ?_
    refine awp_plain hN rfl ?_
    refine seq_run0 (stp_lss rfl rfl) ?_
    refine awp_seq ?_
    refine awp_cond _ rfl (fun h2 => ?_) (fun h2 => ?_)
    · -- yes
      try simp at h2
      have hkl : k < a.length := by omega
      have hat1 := strs_at (l := a) (k := k) hkl
      have hat2 := strs_at (l := b) (k := k) (by omega)
      refine awp_skip ?_
      refine awp_seq ?_
      refine awp_block ?_
      refine awp_seq ?_
      refine awp_plain hN rfl ?_
      first | refine seq_run0 (stp_move (.dat _) rfl) ?_ | refine seq_run0 (stp_move (.ptr _ _) rfl) ?_ | refine seq_run0 (stp_move (.row _ _) rfl) ?_ | refine seq_run0 (stp_move (.rptr _ _ _ _ _) rfl) ?_ | refine seq_run0 (stp_move (.mp _) rfl) ?_
      first | refine seq_run0 (stp_assign (.dat _) rfl) ?_ | refine seq_run0 (stp_assign (.ptr _ _) rfl) ?_ | refine seq_run0 (stp_assign (.row _ _) rfl) ?_ | refine seq_run0 (stp_assign (.rptr _ _ _ _ _) rfl) ?_ | refine seq_run0 (stp_assign (.mp _) rfl) ?_
      refine awp_seq ?_
      refine awp_draw mixed hN rfl rfl ?_
      first | refine seq_run0 (stp_move (.dat _) rfl) ?_ | refine seq_run0 (stp_move (.ptr _ _) rfl) ?_ | refine seq_run0 (stp_move (.row _ _) rfl) ?_ | refine seq_run0 (stp_move (.rptr _ _ _ _ _) rfl) ?_ | refine seq_run0 (stp_move (.mp _) rfl) ?_
      first | refine seq_run0 (stp_move (.dat _) rfl) ?_ | refine seq_run0 (stp_move (.ptr _ _) rfl) ?_ | refine seq_run0 (stp_move (.row _ _) rfl) ?_ | refine seq_run0 (stp_move (.rptr _ _ _ _ _) rfl) ?_ | refine seq_run0 (stp_move (.mp _) rfl) ?_
      first | refine seq_run0 (stp_idxE tyE73 rfl rfl (by omega) (by assumption)) ?_ | refine seq_run0 (stp_idxI tyE73 rfl rfl (by omega) (by assumption)) ?_ | refine seq_run1 (stp_idxR tyE73 rfl rfl (by first | rfl | omega | simp) (by first | omega | (simp; omega))) rfl ?_ | refine seq_run1 (stp_idxRI tyE73 rfl rfl (by first | rfl | omega | simp) (by first | omega | (simp; omega))) rfl ?_
      first | refine seq_run1 (stp_load1 tyS9 rfl rfl) rfl ?_ | refine seq_run0 (stp_loadE1 tyS9 rfl (by first | assumption | rfl) rfl) ?_ | refine seq_run1 (stp_loadR1 tyS9 rfl (by first | rfl | omega | simp) (by first | assumption | exact List.getElem?_set_self (by simp; omega)) rfl) rfl ?_
      first | refine seq_run0 (stp_move (.dat _) rfl) ?_ | refine seq_run0 (stp_move (.ptr _ _) rfl) ?_ | refine seq_run0 (stp_move (.row _ _) rfl) ?_ | refine seq_run0 (stp_move (.rptr _ _ _ _ _) rfl) ?_ | refine seq_run0 (stp_move (.mp _) rfl) ?_
      first | refine seq_run0 (stp_move (.dat _) rfl) ?_ | refine seq_run0 (stp_move (.ptr _ _) rfl) ?_ | refine seq_run0 (stp_move (.row _ _) rfl) ?_ | refine seq_run0 (stp_move (.rptr _ _ _ _ _) rfl) ?_ | refine seq_run0 (stp_move (.mp _) rfl) ?_
      first | refine seq_run0 (stp_idxE tyE73 rfl rfl (by omega) (by assumption)) ?_ | refine seq_run0 (stp_idxI tyE73 rfl rfl (by omega) (by assumption)) ?_ | refine seq_run1 (stp_idxR tyE73 rfl rfl (by first | rfl | omega | simp) (by first | omega | (simp; omega))) rfl ?_ | refine seq_run1 (stp_idxRI tyE73 rfl rfl (by first | rfl | omega | simp) (by first | omega | (simp; omega))) rfl ?_
      first | refine seq_run1 (stp_load1 tyS9 rfl rfl) rfl ?_ | refine seq_run0 (stp_loadE1 tyS9 rfl (by first | assumption | rfl) rfl) ?_ | refine seq_run1 (stp_loadR1 tyS9 rfl (by first | rfl | omega | simp) (by first | assumption | exact List.getElem?_set_self (by simp; omega)) rfl) rfl ?_
      refine seq_run0 (stp_sneq rfl rfl) ?_
      refine ⟨rfl, ?_⟩
      refine awp_cond _ rfl (fun h3 => ?_) (fun h3 => ?_)
      · -- yes
        try simp at h3
        refine awp_seq ?_
        refine awp_plain hN rfl ?_
        refine seq_run0 (stp_assign (.dat _) rfl) ?_
        refine awp_ret ?_
        exact ⟨trivial, .inl (congrArg vbool (eq_up hab hkl h3).symm), trivial⟩
      · -- no
        try simp at h3
        refine awp_skip ?_
        refine awp_plain hN rfl ?_
        refine seq_run0 (stp_add rfl rfl (by omega)) ?_
        first | refine seq_run0 (stp_move (.dat _) rfl) ?_ | refine seq_run0 (stp_move (.ptr _ _) rfl) ?_ | refine seq_run0 (stp_move (.row _ _) rfl) ?_ | refine seq_run0 (stp_move (.rptr _ _ _ _ _) rfl) ?_ | refine seq_run0 (stp_move (.mp _) rfl) ?_
        exact ⟨k + 1, ⟨by omega, fun j hj => by
          rcases Nat.lt_or_ge j k with h | h
          · exact hu j h
          · obtain rfl : j = k := by omega
            exact h3⟩, by omega, ⟨rfl, rfl, rfl, rfl, trivial⟩, trivial⟩
    · -- no
      try simp at h2
      refine awp_exit ?_
      refine awp_seq ?_
      refine awp_plain hN rfl ?_
      refine seq_run0 (stp_assign (.dat _) rfl) ?_
      refine awp_ret ?_
      exact ⟨trivial, .inl (congrArg vbool (eq_all hab (fun j hj => hu j (by omega))).symm), trivial⟩
theorem ab_ok : InsOK [([97], 1), ([98], 2)] := ⟨by simp, by simp⟩
theorem k_gatelaw2_balanced   : Fn Try.prog 12 [] (resOf [vbool true]) := by
  refine ⟨by kernel_rfl, pure_of (us := [vbool true]) Try.func12 rfl rfl rfl rfl fun X hN => ?_⟩
  refine awp_seq ?_
  refine awp_plain hN rfl ?_
  refine seq_run0 (stp_assign (.dat _) rfl) ?_
  refine awp_seq ?_
  refine awp_plain hN rfl ?_
  refine seq_run0 (stp_build [(0, [_]), (1, [_])] tyZ114 tyP114 rfl ⟨rfl, .inl ⟨_, rfl, rfl, rfl⟩, rfl, rfl, .inl ⟨_, rfl, rfl, rfl⟩, rfl, trivial⟩) ?_
  refine seq_run0 (stp_build [(0, [_]), (1, [_])] tyZ114 tyP114 rfl ⟨rfl, .inl ⟨_, rfl, rfl, rfl⟩, rfl, rfl, .inl ⟨_, rfl, rfl, rfl⟩, rfl, trivial⟩) ?_
  refine seq_run0 (stp_lit [_, _] tyL48 ⟨rfl, .inr rfl, rfl, rfl, .inr rfl, rfl, trivial⟩ rfl rfl) ?_
  refine seq_run0 (stp_call (k_upstream_Round [([97], 1), ([98], 2)] ab_ok 3) ⟨.inl rfl, .inl rfl, trivial⟩) ?_
  first | refine seq_run0 (stp_move (.dat _) rfl) ?_ | refine seq_run0 (stp_move (.ptr _ _) rfl) ?_ | refine seq_run0 (stp_move (.row _ _) rfl) ?_ | refine seq_run0 (stp_move (.rptr _ _ _ _ _) rfl) ?_ | refine seq_run0 (stp_move (.mp _) rfl) ?_
  refine seq_run0 (stp_ext rfl rfl) ?_
  refine seq_run0 (stp_ext rfl rfl) ?_
  first | refine seq_run0 (stp_assign (.dat _) rfl) ?_ | refine seq_run0 (stp_assign (.ptr _ _) rfl) ?_ | refine seq_run0 (stp_assign (.row _ _) rfl) ?_ | refine seq_run0 (stp_assign (.rptr _ _ _ _ _) rfl) ?_ | refine seq_run0 (stp_assign (.mp _) rfl) ?_
  first | refine seq_run0 (stp_assign (.dat _) rfl) ?_ | refine seq_run0 (stp_assign (.ptr _ _) rfl) ?_ | refine seq_run0 (stp_assign (.row _ _) rfl) ?_ | refine seq_run0 (stp_assign (.rptr _ _ _ _ _) rfl) ?_ | refine seq_run0 (stp_assign (.mp _) rfl) ?_
  refine awp_seq ?_
  refine awp_plain hN rfl ?_
  first | refine seq_run0 (stp_move (.dat _) rfl) ?_ | refine seq_run0 (stp_move (.ptr _ _) rfl) ?_ | refine seq_run0 (stp_move (.row _ _) rfl) ?_ | refine seq_run0 (stp_move (.rptr _ _ _ _ _) rfl) ?_ | refine seq_run0 (stp_move (.mp _) rfl) ?_
  refine seq_run0 (stp_eql rfl rfl) ?_
  first | refine seq_run0 (stp_move (.dat _) rfl) ?_ | refine seq_run0 (stp_move (.ptr _ _) rfl) ?_ | refine seq_run0 (stp_move (.row _ _) rfl) ?_ | refine seq_run0 (stp_move (.rptr _ _ _ _ _) rfl) ?_ | refine seq_run0 (stp_move (.mp _) rfl) ?_
  refine seq_split (j := 2) rfl rfl (fun h1 => ?_) (fun h1 => (by exfalso; revert h1; decide +kernel)) rfl
  have qh1 := h1
  try simp at qh1
  first | refine seq_g0 rfl rfl h1 (stp_move (.dat _) rfl) ?_ | refine seq_g0 rfl rfl h1 (stp_move (.ptr _ _) rfl) ?_ | refine seq_g0 rfl rfl h1 (stp_move (.row _ _) rfl) ?_ | refine seq_g0 rfl rfl h1 (stp_move (.rptr _ _ _ _ _) rfl) ?_ | refine seq_g0 rfl rfl h1 (stp_move (.mp _) rfl) ?_
  refine seq_g0 rfl rfl h1 (stp_lit [[_], [_], [_]] tyL73 ⟨rfl, .inl ⟨_, rfl, rfl, rfl⟩, rfl, rfl, .inl ⟨_, rfl, rfl, rfl⟩, rfl, rfl, .inl ⟨_, rfl, rfl, rfl⟩, rfl, trivial⟩ rfl rfl) ?_
  refine seq_g0 rfl rfl h1 (stp_call (k_eqStr [[98], [97], [98]] [[98], [97], [98]] (by simp) (by simp)) ⟨.inl rfl, .inl rfl, trivial⟩) ?_
  refine seq_run0 (stp_pick_t rfl h1 rfl) ?_
  first | refine seq_run0 (stp_assign (.dat _) rfl) ?_ | refine seq_run0 (stp_assign (.ptr _ _) rfl) ?_ | refine seq_run0 (stp_assign (.row _ _) rfl) ?_ | refine seq_run0 (stp_assign (.rptr _ _ _ _ _) rfl) ?_ | refine seq_run0 (stp_assign (.mp _) rfl) ?_
  refine awp_ret ?_
  exact ⟨trivial, .inl rfl, trivial⟩
end Go.Proofs.Ytmcegaabopcmfaa
