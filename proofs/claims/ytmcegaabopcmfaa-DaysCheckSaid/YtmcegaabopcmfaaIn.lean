/- Instances: the program's check and the reference's. -/
import Derived.Test.YtmcegaabopcmfaaGi2
namespace Go.Proofs.Ytmcegaabopcmfaa
open Go.RowKit
set_option linter.unusedVariables false
set_option maxRecDepth 20000

/-- the first error of n things -/
def firstErr (f : Nat → Int) : Nat → Int
  | 0 => 0
  | n + 1 => if firstErr f n = 0 then f n else firstErr f n
theorem firstErr_zero {f : Nat → Int} {n : Nat} (h : firstErr f n = 0) : ∀ k, k < n → f k = 0 := by
  induction n with
  | zero => intro k hk; omega
  | succ n ih =>
    intro k hk
    unfold firstErr at h
    by_cases h0 : firstErr f n = 0
    · rw [if_pos h0] at h
      rcases Nat.lt_or_ge k n with hl | hl
      · exact ih h0 k hl
      · obtain rfl : k = n := by omega
        exact h
    · rw [if_neg h0] at h
      exact absurd h h0
theorem firstErr_hit {f : Nat → Int} {k : Nat} (h : firstErr f k = 0) (hf : f k ≠ 0) {n : Nat} (hn : k < n) : firstErr f n = f k := by
  induction n with
  | zero => omega
  | succ n ih =>
    rcases Nat.lt_or_ge k n with hl | hl
    · have := ih hl
      unfold firstErr
      rw [if_neg (by rw [this]; exact hf), this]
    · obtain rfl : k = n := by omega
      unfold firstErr
      rw [if_pos h]
theorem firstErr_step {f : Nat → Int} {k : Nat} (h : firstErr f k = 0) (hf : f k = 0) : firstErr f (k + 1) = 0 := by
  unfold firstErr; rw [if_pos h]; exact hf
theorem firstErr_congr {f g : Nat → Int} (n : Nat) (h : ∀ k, k < n → (∀ j, j < k → f j = 0) → f k = g k) : firstErr f n = firstErr g n := by
  induction n with
  | zero => rfl
  | succ n ih =>
    have h1 := ih fun k hk => h k (by omega)
    unfold firstErr
    rw [h1]
    by_cases h0 : firstErr g n = 0
    · rw [if_pos h0, if_pos h0]
      exact h n (by omega) (firstErr_zero (h1.trans h0))
    · rw [if_neg h0, if_neg h0]
/-- a loop that stops at the first error -/
theorem fe_stop {f : Nat → Int} {k n : Nat} {e : Int} (h : firstErr f k = 0) (hn : k < n) (he : f k = e) (h0 : e ≠ 0) : e = firstErr f n := by
  rw [firstErr_hit h (by rw [he]; exact h0) hn, he]
theorem fe_end {f : Nat → Int} {k n : Nat} (h : firstErr f k = 0) (hn : ¬ k < n) (hk : k ≤ n) : (0 : Int) = firstErr f n := by
  obtain rfl : k = n := by omega
  exact h.symm

def leS (a b : List UInt8) : Bool := Op.bytesLess a b || a == b
abbrev ky (xs : List Inst) (k : Nat) : List UInt8 := (nth ([], 0) xs k).1
abbrev wt (xs : List Inst) (k : Nat) : Int := (nth ([], 0) xs k).2
def ciAt (xs : List Inst) (k : Nat) : Int :=
  if keyB (ky xs k) = false then 5 else if (decide (0 < (k : Int)) && leS (ky xs k) (ky xs ((k : Int) - 1).toNat)) = true then 7 else if outB (wt xs k) 1 100 = true then 1 else 0
def ciFault (xs : List Inst) : Int := if 50 < xs.length then 2 else firstErr (ciAt xs) xs.length
theorem k_upstream_CheckInstances (xs : List Inst) (hok : InsOK xs)  : Fn Try.prog 38 [vlst (xs.map instE)] (resOf [vint (ciFault xs)]) := by
  have hle := inst_len xs
  have hln : (xs.map instE).length = xs.length := by simp
  have hlen := hok.len
  have hci : ciFault xs = firstErr (ciAt xs) xs.length := by unfold ciFault; rw [if_neg (by omega)]
  refine ⟨by kernel_rfl, pure_of (us := [vint (ciFault xs)]) Try.func38 rfl rfl rfl rfl fun X hN => ?_⟩
  refine awp_seq ?_
  refine awp_plain hN rfl ?_
  refine seq_run0 (stp_assign (.dat _) rfl) ?_
  refine awp_seq ?_
  refine awp_seq ?_
  refine awp_plain hN rfl ?_
  first | refine seq_run0 (stp_move (.dat _) rfl) ?_ | refine seq_run0 (stp_move (.ptr _ _) rfl) ?_ | refine seq_run0 (stp_move (.row _ _) rfl) ?_ | refine seq_run0 (stp_move (.rptr _ _ _ _ _) rfl) ?_ | refine seq_run0 (stp_move (.mp _) rfl) ?_
  first | refine seq_run0 (stp_len_lst tyU48 rfl) ?_ | refine seq_run1 (stp_len_row tyU48 rfl rfl) rfl ?_ | refine seq_run0 (stp_len_nil tyU48 rfl) ?_
  refine seq_run0 (stp_gtr rfl rfl) ?_
  refine awp_cond _ rfl (fun h1 => (by exfalso; simp at h1; omega)) (fun h1 => ?_)
  try simp at h1
  refine awp_skip ?_
  refine awp_seq ?_
  refine awp_seq ?_
  refine awp_plain hN rfl ?_
  first | refine seq_run0 (stp_move (.dat _) rfl) ?_ | refine seq_run0 (stp_move (.ptr _ _) rfl) ?_ | refine seq_run0 (stp_move (.row _ _) rfl) ?_ | refine seq_run0 (stp_move (.rptr _ _ _ _ _) rfl) ?_ | refine seq_run0 (stp_move (.mp _) rfl) ?_
  first | refine seq_run0 (stp_len_lst tyU48 rfl) ?_ | refine seq_run1 (stp_len_row tyU48 rfl rfl) rfl ?_ | refine seq_run0 (stp_len_nil tyU48 rfl) ?_
  refine seq_run0 (stp_move (.dat _) rfl) ?_
  refine awp_block ?_
  refine awp_loop (fun k : Nat => [(0, .dat (vlst (xs.map instE))), (8, .dat (vlst (xs.map instE))), (9, .dat (vint ((xs.map instE).length : Int))), (10, .dat (vint (k : Int)))]) (fun k : Nat => []) (fun k : Nat => k ≤ xs.length ∧ firstErr (ciAt xs) k = 0) (fun k : Nat => xs.length - k) 0 ⟨by omega, rfl⟩ ⟨rfl, rfl, rfl, rfl, trivial⟩ trivial (fun _ => rfl) (fun k hI => ?_)
  obtain ⟨hk, hu⟩ := hI
  refine awp_seq ?_
  refine awp_plain hN rfl ?_
  refine seq_run0 (stp_lss rfl rfl) ?_
  refine awp_seq ?_
  refine awp_cond _ rfl (fun h2 => ?_) (fun h2 => ?_)
  · -- yes
    try simp at h2
    have hkl : k < xs.length := by omega
    have hat := inst_at hkl
    have hat1 := inst_at (l := xs) (k := ((k : Int) - 1).toNat) (by omega)
    have hrg := hok.ok _ (nth_mem (d := ([], 0)) hkl)
    have hsm : (nth ([], 0) xs k).1.length ≤ 1000000 := by omega
    refine awp_skip ?_
    refine awp_seq ?_
    refine awp_block ?_
    refine awp_seq ?_
    refine awp_plain hN rfl ?_
    first | refine seq_run0 (stp_move (.dat _) rfl) ?_ | refine seq_run0 (stp_move (.ptr _ _) rfl) ?_ | refine seq_run0 (stp_move (.row _ _) rfl) ?_ | refine seq_run0 (stp_move (.rptr _ _ _ _ _) rfl) ?_ | refine seq_run0 (stp_move (.mp _) rfl) ?_
    first | refine seq_run0 (stp_idxE tyE48 rfl rfl (by omega) (by assumption)) ?_ | refine seq_run0 (stp_idxI tyE48 rfl rfl (by omega) (by assumption)) ?_ | refine seq_run1 (stp_idxR tyE48 rfl rfl (by first | rfl | omega | simp) (by first | omega | (simp; omega))) rfl ?_ | refine seq_run1 (stp_idxRI tyE48 rfl rfl (by first | rfl | omega | simp) (by first | omega | (simp; omega))) rfl ?_
    first | refine seq_run1 (stp_loadA tyS114 rfl rfl rfl) rfl ?_ | refine seq_run0 (stp_loadEA tyS114 rfl (by first | assumption | rfl) rfl) ?_ | refine seq_run1 (stp_loadRA tyS114 rfl (by first | rfl | omega | simp) (by first | assumption | exact List.getElem?_set_self (by simp; omega)) rfl) rfl ?_ | refine seq_run0 (stp_loadEP tyS114 rfl (by first | assumption | rfl) rfl) ?_
    refine seq_run2 (stp_alloc 1 tyZ114 rfl) rfl ?_
    first | refine seq_run0 (stp_assign (.dat _) rfl) ?_ | refine seq_run0 (stp_assign (.ptr _ _) rfl) ?_ | refine seq_run0 (stp_assign (.row _ _) rfl) ?_ | refine seq_run0 (stp_assign (.rptr _ _ _ _ _) rfl) ?_ | refine seq_run0 (stp_assign (.mp _) rfl) ?_
    first | refine seq_run2 (stp_storeW tyS114 rfl rfl rfl rfl) rfl ?_ | refine seq_run2 (stp_storeA tyS114 rfl rfl rfl rfl) rfl ?_
    refine awp_block ?_
    refine awp_seq ?_
    refine awp_plain hN rfl ?_
    first | refine seq_run0 (stp_fldP tyF114_0 rfl) ?_ | refine seq_run0 (stp_fldE tyF114_0 rfl) ?_ | refine seq_run0 (stp_fldR tyF114_0 rfl) ?_
    first | refine seq_run1 (stp_load1 tyS9 rfl rfl) rfl ?_ | refine seq_run0 (stp_loadE1 tyS9 rfl (by first | assumption | rfl) rfl) ?_ | refine seq_run1 (stp_loadR1 tyS9 rfl (by first | rfl | omega | simp) (by first | assumption | exact List.getElem?_set_self (by simp; omega)) rfl) rfl ?_
    refine seq_run0 (stp_call (k_kit_IsKey _ hsm) ⟨.inl rfl, trivial⟩) ?_
    refine seq_run0 (stp_not rfl) ?_
    first | refine seq_run0 (stp_assign (.dat _) rfl) ?_ | refine seq_run0 (stp_assign (.ptr _ _) rfl) ?_ | refine seq_run0 (stp_assign (.row _ _) rfl) ?_ | refine seq_run0 (stp_assign (.rptr _ _ _ _ _) rfl) ?_ | refine seq_run0 (stp_assign (.mp _) rfl) ?_
    refine awp_cond _ rfl (fun h3 => ?_) (fun h3 => ?_)
    · -- yes
      try simp at h3
      refine awp_seq ?_
      refine awp_plain hN rfl ?_
      refine seq_run0 (stp_assign (.dat _) rfl) ?_
      refine awp_ret ?_
      exact ⟨trivial, .inl (congrArg vint (by rw [hci]; exact fe_stop hu hkl (by unfold ciAt; rw [if_pos (by simp_all)]) (by decide))), trivial⟩
    · -- no
      try simp at h3
      refine awp_rjD [(20, .dat (vbool (decide (0 < (k : Int)) && leS (ky xs k) (ky xs ((k : Int) - 1).toNat))))] mixed hN rfl rfl ?_ ?_
      · -- region 8
        first | refine seq_run0 (stp_move (.dat _) rfl) ?_ | refine seq_run0 (stp_move (.ptr _ _) rfl) ?_ | refine seq_run0 (stp_move (.row _ _) rfl) ?_ | refine seq_run0 (stp_move (.rptr _ _ _ _ _) rfl) ?_ | refine seq_run0 (stp_move (.mp _) rfl) ?_
        refine seq_run0 (stp_gtr rfl rfl) ?_
        first | refine seq_run0 (stp_move (.dat _) rfl) ?_ | refine seq_run0 (stp_move (.ptr _ _) rfl) ?_ | refine seq_run0 (stp_move (.row _ _) rfl) ?_ | refine seq_run0 (stp_move (.rptr _ _ _ _ _) rfl) ?_ | refine seq_run0 (stp_move (.mp _) rfl) ?_
        refine seq_split (j := 2) rfl rfl (fun h4 => ?_) (fun h4 => ?_) rfl
        · -- guard (2, True): runs
          have qh4 := h4
          try simp at qh4
          first | refine seq_g0 rfl rfl h4 (stp_fldP tyF114_0 rfl) ?_ | refine seq_g0 rfl rfl h4 (stp_fldE tyF114_0 rfl) ?_ | refine seq_g0 rfl rfl h4 (stp_fldR tyF114_0 rfl) ?_
          first | refine seq_g1 rfl rfl h4 (stp_load1 tyS9 rfl rfl) rfl ?_ | refine seq_g0 rfl rfl h4 (stp_loadE1 tyS9 rfl (by first | assumption | rfl) rfl) ?_ | refine seq_g1 rfl rfl h4 (stp_loadR1 tyS9 rfl (by first | rfl | omega | simp) (by first | assumption | exact List.getElem?_set_self (by simp; omega)) rfl) rfl ?_
          first | refine seq_g0 rfl rfl h4 (stp_move (.dat _) rfl) ?_ | refine seq_g0 rfl rfl h4 (stp_move (.ptr _ _) rfl) ?_ | refine seq_g0 rfl rfl h4 (stp_move (.row _ _) rfl) ?_ | refine seq_g0 rfl rfl h4 (stp_move (.rptr _ _ _ _ _) rfl) ?_ | refine seq_g0 rfl rfl h4 (stp_move (.mp _) rfl) ?_
          first | refine seq_g0 rfl rfl h4 (stp_move (.dat _) rfl) ?_ | refine seq_g0 rfl rfl h4 (stp_move (.ptr _ _) rfl) ?_ | refine seq_g0 rfl rfl h4 (stp_move (.row _ _) rfl) ?_ | refine seq_g0 rfl rfl h4 (stp_move (.rptr _ _ _ _ _) rfl) ?_ | refine seq_g0 rfl rfl h4 (stp_move (.mp _) rfl) ?_
          refine seq_g0 rfl rfl h4 (stp_sub rfl rfl (by omega)) ?_
          first | refine seq_g0 rfl rfl h4 (stp_idxE tyE48 rfl rfl (by omega) (by assumption)) ?_ | refine seq_g0 rfl rfl h4 (stp_idxI tyE48 rfl rfl (by omega) (by assumption)) ?_ | refine seq_g1 rfl rfl h4 (stp_idxR tyE48 rfl rfl (by first | rfl | omega | simp) (by first | omega | (simp; omega))) rfl ?_ | refine seq_g1 rfl rfl h4 (stp_idxRI tyE48 rfl rfl (by first | rfl | omega | simp) (by first | omega | (simp; omega))) rfl ?_
          first | refine seq_g0 rfl rfl h4 (stp_fldP tyF114_0 rfl) ?_ | refine seq_g0 rfl rfl h4 (stp_fldE tyF114_0 rfl) ?_ | refine seq_g0 rfl rfl h4 (stp_fldR tyF114_0 rfl) ?_
          first | refine seq_g1 rfl rfl h4 (stp_load1 tyS9 rfl rfl) rfl ?_ | refine seq_g0 rfl rfl h4 (stp_loadE1 tyS9 rfl (by first | assumption | rfl) rfl) ?_ | refine seq_g1 rfl rfl h4 (stp_loadR1 tyS9 rfl (by first | rfl | omega | simp) (by first | assumption | exact List.getElem?_set_self (by simp; omega)) rfl) rfl ?_
          refine seq_g0 rfl rfl h4 (stp_sleq rfl rfl) ?_
          refine seq_run0 (stp_pick_t rfl h4 rfl) ?_
          first | refine seq_run0 (stp_assign (.dat _) rfl) ?_ | refine seq_run0 (stp_assign (.ptr _ _) rfl) ?_ | refine seq_run0 (stp_assign (.row _ _) rfl) ?_ | refine seq_run0 (stp_assign (.rptr _ _ _ _ _) rfl) ?_ | refine seq_run0 (stp_assign (.mp _) rfl) ?_
          exact ⟨rfl, rfl, jb (by simp_all [leS]), trivial⟩
        · -- guard (2, True): is left out
          have qh4 := h4
          try simp at qh4
          refine seq_skip rfl rfl h4 ?_
          refine seq_skip rfl rfl h4 ?_
          refine seq_skip rfl rfl h4 ?_
          refine seq_skip rfl rfl h4 ?_
          refine seq_skip rfl rfl h4 ?_
          refine seq_skip rfl rfl h4 ?_
          refine seq_skip rfl rfl h4 ?_
          refine seq_skip rfl rfl h4 ?_
          refine seq_skip rfl rfl h4 ?_
          refine seq_run0 (stp_pick_f' rfl h4 rfl) ?_
          first | refine seq_run0 (stp_assign (.dat _) rfl) ?_ | refine seq_run0 (stp_assign (.ptr _ _) rfl) ?_ | refine seq_run0 (stp_assign (.row _ _) rfl) ?_ | refine seq_run0 (stp_assign (.rptr _ _ _ _ _) rfl) ?_ | refine seq_run0 (stp_assign (.mp _) rfl) ?_
          exact ⟨rfl, rfl, jb (by simp_all), trivial⟩
      · -- behind region 8
        refine awp_cond _ rfl (fun h5 => ?_) (fun h5 => ?_)
        · -- yes
          try simp at h5
          refine awp_seq ?_
          refine awp_plain hN rfl ?_
          refine seq_run0 (stp_assign (.dat _) rfl) ?_
          refine awp_ret ?_
          exact ⟨trivial, .inl (congrArg vint (by rw [hci]; exact fe_stop hu hkl (by unfold ciAt; rw [if_neg (by simp_all), if_pos (by simp_all)]) (by decide))), trivial⟩
        · -- no
          try simp at h5
          refine awp_seq ?_
          refine awp_plain hN rfl ?_
          first | refine seq_run0 (stp_fldP tyF114_1 rfl) ?_ | refine seq_run0 (stp_fldE tyF114_1 rfl) ?_ | refine seq_run0 (stp_fldR tyF114_1 rfl) ?_
          first | refine seq_run1 (stp_load1 tyS3 rfl rfl) rfl ?_ | refine seq_run0 (stp_loadE1 tyS3 rfl (by first | assumption | rfl) rfl) ?_ | refine seq_run1 (stp_loadR1 tyS3 rfl (by first | rfl | omega | simp) (by first | assumption | exact List.getElem?_set_self (by simp; omega)) rfl) rfl ?_
          refine seq_run0 (stp_call (k_kit_Outside _ _ _) ⟨.inl rfl, .inl rfl, .inl rfl, trivial⟩) ?_
          first | refine seq_run0 (stp_assign (.dat _) rfl) ?_ | refine seq_run0 (stp_assign (.ptr _ _) rfl) ?_ | refine seq_run0 (stp_assign (.row _ _) rfl) ?_ | refine seq_run0 (stp_assign (.rptr _ _ _ _ _) rfl) ?_ | refine seq_run0 (stp_assign (.mp _) rfl) ?_
          refine awp_cond _ rfl (fun h6 => ?_) (fun h6 => ?_)
          · -- yes
            try simp at h6
            refine awp_seq ?_
            refine awp_plain hN rfl ?_
            refine seq_run0 (stp_assign (.dat _) rfl) ?_
            refine awp_ret ?_
            exact ⟨trivial, .inl (congrArg vint (by rw [hci]; exact fe_stop hu hkl (by unfold ciAt; rw [if_neg (by simp_all), if_neg (by simp_all), if_pos (by simp_all)]) (by decide))), trivial⟩
          · -- no
            try simp at h6
            refine awp_skip ?_
            refine awp_plain hN rfl ?_
            refine seq_run0 (stp_add rfl rfl (by omega)) ?_
            first | refine seq_run0 (stp_move (.dat _) rfl) ?_ | refine seq_run0 (stp_move (.ptr _ _) rfl) ?_ | refine seq_run0 (stp_move (.row _ _) rfl) ?_ | refine seq_run0 (stp_move (.rptr _ _ _ _ _) rfl) ?_ | refine seq_run0 (stp_move (.mp _) rfl) ?_
            exact ⟨k + 1, ⟨by omega, firstErr_step hu (by unfold ciAt; rw [if_neg (by simp_all), if_neg (by simp_all), if_neg (by simp_all)])⟩, by omega, ⟨rfl, rfl, rfl, rfl, trivial⟩, trivial⟩
  · -- no
    try simp at h2
    refine awp_exit ?_
    refine awp_seq ?_
    refine awp_plain hN rfl ?_
    refine seq_run0 (stp_assign (.dat _) rfl) ?_
    refine awp_ret ?_
    exact ⟨trivial, .inl (congrArg vint (by rw [hci]; exact fe_end hu (by omega) hk)), trivial⟩
end Go.Proofs.Ytmcegaabopcmfaa
