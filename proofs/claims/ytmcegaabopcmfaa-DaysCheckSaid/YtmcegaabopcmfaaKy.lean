/- Keys: IsKey and the reference's Key are one function of strings. -/
import Derived.Test.YtmcegaabopcmfaaKi
import Derived.Test.YtmcegaabopcmfaaShelf
import Derived.Test.YtmcegaabopcmfaaOrd
import Derived.Lib.IndexAny
namespace Go.Proofs.Ytmcegaabopcmfaa
open Go.RowKit
set_option linter.unusedVariables false
set_option maxRecDepth 20000

theorem jb {a b : Bool} (h : a = b) : Slot.dat (vbool a) = .dat (vbool b) := by rw [h]
theorem ji {a b : Int} (h : a = b) : Slot.dat (vint a) = .dat (vint b) := by rw [h]
def keyAt (i : Nat) (c : UInt8) : Bool := decide ((97 ≤ (c.toNat : Int) ∧ (c.toNat : Int) ≤ 122) ∨ (0 < i ∧ ((48 ≤ (c.toNat : Int) ∧ (c.toNat : Int) ≤ 57) ∨ (c.toNat : Int) = 45 ∨ (c.toNat : Int) = 95)))
def keyUp (s : List UInt8) (k : Nat) : Bool := (List.range k).all fun j => keyAt j (byt s j)
def keyB (s : List UInt8) : Bool := keyUp s s.length && !s.isEmpty && decide ((s.length : Int) ≤ 40)
theorem keyUp_succ (s : List UInt8) (k : Nat) : keyUp s (k + 1) = (keyUp s k && keyAt k (byt s k)) := by
  unfold keyUp; rw [List.range_succ, List.all_append]; simp
theorem keyUp_bad {s : List UInt8} {k : Nat} (hk : k < s.length) (h : keyAt k (byt s k) = false) : keyB s = false := by
  unfold keyB
  have : keyUp s s.length = false := by
    unfold keyUp
    rw [List.all_eq_false]
    exact ⟨k, by rw [List.mem_range]; exact hk, by rw [h]; simp⟩
  rw [this]; rfl
theorem keyB_a {s : List UInt8} {k : Nat} (hu : keyUp s k = true) (hk : k = s.length) (hne : s ≠ []) : decide ((s.length : Int) ≤ 40) = keyB s := by
  subst hk; unfold keyB; rw [hu]
  cases s with
  | nil => exact absurd rfl hne
  | cons _ _ => simp
theorem keyB_b {s : List UInt8} (he : s = []) : false = keyB s := by subst he; rfl
theorem k_kit_IsKey (s : List UInt8) (hs : s.length ≤ 1000000)  : Fn Try.prog 92 [vstr s] (resOf [vbool (keyB s)]) := by
  refine ⟨by kernel_rfl, pure_of (us := [vbool (keyB s)]) Try.func92 rfl rfl rfl rfl fun X hN => ?_⟩
  refine awp_seq ?_
  refine awp_plain hN rfl ?_
  refine seq_run0 (stp_assign (.dat _) rfl) ?_
  refine awp_seq ?_
  refine awp_seq ?_
  refine awp_plain hN rfl ?_
  refine seq_run0 (stp_assign (.dat _) rfl) ?_
  refine awp_block ?_
  refine awp_loop (fun k : Nat => [(0, .dat (vstr s)), (3, .dat (vint (k : Int)))]) (fun k : Nat => []) (fun k : Nat => k ≤ s.length ∧ keyUp s k = true) (fun k : Nat => s.length - k) 0 ⟨by omega, rfl⟩ ⟨rfl, rfl, trivial⟩ trivial (fun _ => rfl) (fun k hI => ?_)
  obtain ⟨hk, hu⟩ := hI
  refine awp_seq ?_
  refine awp_seq ?_
  refine awp_plain hN rfl ?_
  first | refine seq_run0 (stp_move (.dat _) rfl) ?_ | refine seq_run0 (stp_move (.ptr _ _) rfl) ?_ | refine seq_run0 (stp_move (.row _ _) rfl) ?_ | refine seq_run0 (stp_move (.rptr _ _ _ _ _) rfl) ?_ | refine seq_run0 (stp_move (.mp _) rfl) ?_
  first | refine seq_run0 (stp_move (.dat _) rfl) ?_ | refine seq_run0 (stp_move (.ptr _ _) rfl) ?_ | refine seq_run0 (stp_move (.row _ _) rfl) ?_ | refine seq_run0 (stp_move (.rptr _ _ _ _ _) rfl) ?_ | refine seq_run0 (stp_move (.mp _) rfl) ?_
  refine seq_run0 (stp_len_str tyU9 rfl) ?_
  refine seq_run0 (stp_lss rfl rfl) ?_
  refine awp_cond _ rfl (fun h1 => ?_) (fun h1 => ?_)
  · -- yes
    try simp at h1
    refine awp_skip ?_
    refine awp_seq ?_
    refine awp_block ?_
    refine awp_seq ?_
    refine awp_plain hN rfl ?_
    first | refine seq_run0 (stp_move (.dat _) rfl) ?_ | refine seq_run0 (stp_move (.ptr _ _) rfl) ?_ | refine seq_run0 (stp_move (.row _ _) rfl) ?_ | refine seq_run0 (stp_move (.rptr _ _ _ _ _) rfl) ?_ | refine seq_run0 (stp_move (.mp _) rfl) ?_
    first | refine seq_run0 (stp_move (.dat _) rfl) ?_ | refine seq_run0 (stp_move (.ptr _ _) rfl) ?_ | refine seq_run0 (stp_move (.row _ _) rfl) ?_ | refine seq_run0 (stp_move (.rptr _ _ _ _ _) rfl) ?_ | refine seq_run0 (stp_move (.mp _) rfl) ?_
    first | refine seq_run0 (stp_index tyU9 rfl rfl (by omega)) ?_ | refine seq_run0 (stp_indexI tyU9 rfl rfl (by omega)) ?_
    first | refine seq_run0 (stp_assign (.dat _) rfl) ?_ | refine seq_run0 (stp_assign (.ptr _ _) rfl) ?_ | refine seq_run0 (stp_assign (.row _ _) rfl) ?_ | refine seq_run0 (stp_assign (.rptr _ _ _ _ _) rfl) ?_ | refine seq_run0 (stp_assign (.mp _) rfl) ?_
    refine awp_rjP [(40, .dat (vbool (!keyAt k (byt s k))))] hN rfl ?_ ?_
    · -- region 5
      first | refine seq_run0 (stp_move (.dat _) rfl) ?_ | refine seq_run0 (stp_move (.ptr _ _) rfl) ?_ | refine seq_run0 (stp_move (.row _ _) rfl) ?_ | refine seq_run0 (stp_move (.rptr _ _ _ _ _) rfl) ?_ | refine seq_run0 (stp_move (.mp _) rfl) ?_
      refine seq_run0 (stp_geq rfl rfl) ?_
      first | refine seq_run0 (stp_move (.dat _) rfl) ?_ | refine seq_run0 (stp_move (.ptr _ _) rfl) ?_ | refine seq_run0 (stp_move (.row _ _) rfl) ?_ | refine seq_run0 (stp_move (.rptr _ _ _ _ _) rfl) ?_ | refine seq_run0 (stp_move (.mp _) rfl) ?_
      refine seq_split (j := 2) rfl rfl (fun h2 => ?_) (fun h2 => ?_) rfl
      · -- guard (2, True): runs
        have qh2 := h2
        try simp at qh2
        first | refine seq_g0 rfl rfl h2 (stp_move (.dat _) rfl) ?_ | refine seq_g0 rfl rfl h2 (stp_move (.ptr _ _) rfl) ?_ | refine seq_g0 rfl rfl h2 (stp_move (.row _ _) rfl) ?_ | refine seq_g0 rfl rfl h2 (stp_move (.rptr _ _ _ _ _) rfl) ?_ | refine seq_g0 rfl rfl h2 (stp_move (.mp _) rfl) ?_
        refine seq_g0 rfl rfl h2 (stp_leq rfl rfl) ?_
        refine seq_run0 (stp_pick_t rfl h2 rfl) ?_
        first | refine seq_run0 (stp_move (.dat _) rfl) ?_ | refine seq_run0 (stp_move (.ptr _ _) rfl) ?_ | refine seq_run0 (stp_move (.row _ _) rfl) ?_ | refine seq_run0 (stp_move (.rptr _ _ _ _ _) rfl) ?_ | refine seq_run0 (stp_move (.mp _) rfl) ?_
        refine seq_split (j := 6) rfl rfl (fun h3 => ?_) (fun h3 => ?_) rfl
        · -- guard (6, False): runs
          have qh3 := h3
          try simp at qh3
          first | refine seq_g0 rfl rfl h3 (stp_move (.dat _) rfl) ?_ | refine seq_g0 rfl rfl h3 (stp_move (.ptr _ _) rfl) ?_ | refine seq_g0 rfl rfl h3 (stp_move (.row _ _) rfl) ?_ | refine seq_g0 rfl rfl h3 (stp_move (.rptr _ _ _ _ _) rfl) ?_ | refine seq_g0 rfl rfl h3 (stp_move (.mp _) rfl) ?_
          refine seq_g0 rfl rfl h3 (stp_gtr rfl rfl) ?_
          first | refine seq_g0 rfl rfl h3 (stp_move (.dat _) rfl) ?_ | refine seq_g0 rfl rfl h3 (stp_move (.ptr _ _) rfl) ?_ | refine seq_g0 rfl rfl h3 (stp_move (.row _ _) rfl) ?_ | refine seq_g0 rfl rfl h3 (stp_move (.rptr _ _ _ _ _) rfl) ?_ | refine seq_g0 rfl rfl h3 (stp_move (.mp _) rfl) ?_
          refine seq_split (j := 9) rfl rfl (fun h4 => ?_) (fun h4 => ?_) rfl
          · -- guard (9, True): runs
            have qh4 := h4
            try simp at qh4
            first | refine seq_g0 rfl rfl h4 (stp_move (.dat _) rfl) ?_ | refine seq_g0 rfl rfl h4 (stp_move (.ptr _ _) rfl) ?_ | refine seq_g0 rfl rfl h4 (stp_move (.row _ _) rfl) ?_ | refine seq_g0 rfl rfl h4 (stp_move (.rptr _ _ _ _ _) rfl) ?_ | refine seq_g0 rfl rfl h4 (stp_move (.mp _) rfl) ?_
            refine seq_g0 rfl rfl h4 (stp_geq rfl rfl) ?_
            first | refine seq_g0 rfl rfl h4 (stp_move (.dat _) rfl) ?_ | refine seq_g0 rfl rfl h4 (stp_move (.ptr _ _) rfl) ?_ | refine seq_g0 rfl rfl h4 (stp_move (.row _ _) rfl) ?_ | refine seq_g0 rfl rfl h4 (stp_move (.rptr _ _ _ _ _) rfl) ?_ | refine seq_g0 rfl rfl h4 (stp_move (.mp _) rfl) ?_
            refine seq_split (j := 12) rfl rfl (fun h5 => ?_) (fun h5 => ?_) rfl
            · -- guard (12, True): runs
              have qh5 := h5
              try simp at qh5
              first | refine seq_g0 rfl rfl h5 (stp_move (.dat _) rfl) ?_ | refine seq_g0 rfl rfl h5 (stp_move (.ptr _ _) rfl) ?_ | refine seq_g0 rfl rfl h5 (stp_move (.row _ _) rfl) ?_ | refine seq_g0 rfl rfl h5 (stp_move (.rptr _ _ _ _ _) rfl) ?_ | refine seq_g0 rfl rfl h5 (stp_move (.mp _) rfl) ?_
              refine seq_g0 rfl rfl h5 (stp_leq rfl rfl) ?_
              refine seq_g0 rfl rfl h4 (stp_pick_t rfl h5 rfl) ?_
              first | refine seq_g0 rfl rfl h4 (stp_move (.dat _) rfl) ?_ | refine seq_g0 rfl rfl h4 (stp_move (.ptr _ _) rfl) ?_ | refine seq_g0 rfl rfl h4 (stp_move (.row _ _) rfl) ?_ | refine seq_g0 rfl rfl h4 (stp_move (.rptr _ _ _ _ _) rfl) ?_ | refine seq_g0 rfl rfl h4 (stp_move (.mp _) rfl) ?_
              refine seq_split (j := 16) rfl rfl (fun h6 => ?_) (fun h6 => ?_) rfl
              · -- guard (16, False): runs
                have qh6 := h6
                try simp at qh6
                first | refine seq_g0 rfl rfl h6 (stp_move (.dat _) rfl) ?_ | refine seq_g0 rfl rfl h6 (stp_move (.ptr _ _) rfl) ?_ | refine seq_g0 rfl rfl h6 (stp_move (.row _ _) rfl) ?_ | refine seq_g0 rfl rfl h6 (stp_move (.rptr _ _ _ _ _) rfl) ?_ | refine seq_g0 rfl rfl h6 (stp_move (.mp _) rfl) ?_
                refine seq_g0 rfl rfl h6 (stp_eql rfl rfl) ?_
                refine seq_g0 rfl rfl h4 (stp_pick_f rfl h6 rfl) ?_
                first | refine seq_g0 rfl rfl h4 (stp_move (.dat _) rfl) ?_ | refine seq_g0 rfl rfl h4 (stp_move (.ptr _ _) rfl) ?_ | refine seq_g0 rfl rfl h4 (stp_move (.row _ _) rfl) ?_ | refine seq_g0 rfl rfl h4 (stp_move (.rptr _ _ _ _ _) rfl) ?_ | refine seq_g0 rfl rfl h4 (stp_move (.mp _) rfl) ?_
                refine seq_split (j := 20) rfl rfl (fun h7 => ?_) (fun h7 => ?_) rfl
                · -- guard (20, False): runs
                  have qh7 := h7
                  try simp at qh7
                  first | refine seq_g0 rfl rfl h7 (stp_move (.dat _) rfl) ?_ | refine seq_g0 rfl rfl h7 (stp_move (.ptr _ _) rfl) ?_ | refine seq_g0 rfl rfl h7 (stp_move (.row _ _) rfl) ?_ | refine seq_g0 rfl rfl h7 (stp_move (.rptr _ _ _ _ _) rfl) ?_ | refine seq_g0 rfl rfl h7 (stp_move (.mp _) rfl) ?_
                  refine seq_g0 rfl rfl h7 (stp_eql rfl rfl) ?_
                  refine seq_g0 rfl rfl h4 (stp_pick_f rfl h7 rfl) ?_
                  refine seq_g0 rfl rfl h3 (stp_pick_t rfl h4 rfl) ?_
                  refine seq_run0 (stp_pick_f rfl h3 rfl) ?_
                  refine seq_run0 (stp_not rfl) ?_
                  exact ⟨rfl, jb (by simp at *; unfold keyAt; rw [Bool.eq_iff_iff]; simp; omega), trivial⟩
                · -- guard (20, False): is left out
                  have qh7 := h7
                  try simp at qh7
                  refine seq_skip rfl rfl h7 ?_
                  refine seq_skip rfl rfl h7 ?_
                  refine seq_g0 rfl rfl h4 (stp_pick_t' rfl h7 rfl) ?_
                  refine seq_g0 rfl rfl h3 (stp_pick_t rfl h4 rfl) ?_
                  refine seq_run0 (stp_pick_f rfl h3 rfl) ?_
                  refine seq_run0 (stp_not rfl) ?_
                  exact ⟨rfl, jb (by simp at *; unfold keyAt; rw [Bool.eq_iff_iff]; simp; omega), trivial⟩
              · -- guard (16, False): is left out
                have qh6 := h6
                try simp at qh6
                refine seq_skip rfl rfl h6 ?_
                refine seq_skip rfl rfl h6 ?_
                refine seq_g0 rfl rfl h4 (stp_pick_t' rfl h6 rfl) ?_
                first | refine seq_g0 rfl rfl h4 (stp_move (.dat _) rfl) ?_ | refine seq_g0 rfl rfl h4 (stp_move (.ptr _ _) rfl) ?_ | refine seq_g0 rfl rfl h4 (stp_move (.row _ _) rfl) ?_ | refine seq_g0 rfl rfl h4 (stp_move (.rptr _ _ _ _ _) rfl) ?_ | refine seq_g0 rfl rfl h4 (stp_move (.mp _) rfl) ?_
                refine seq_skip rfl rfl rfl ?_
                refine seq_skip rfl rfl rfl ?_
                refine seq_g0 rfl rfl h4 (stp_pick_t rfl rfl rfl) ?_
                refine seq_g0 rfl rfl h3 (stp_pick_t rfl h4 rfl) ?_
                refine seq_run0 (stp_pick_f rfl h3 rfl) ?_
                refine seq_run0 (stp_not rfl) ?_
                exact ⟨rfl, jb (by simp at *; unfold keyAt; rw [Bool.eq_iff_iff]; simp; omega), trivial⟩
            · -- guard (12, True): is left out
              have qh5 := h5
              try simp at qh5
              refine seq_skip rfl rfl h5 ?_
              refine seq_skip rfl rfl h5 ?_
              refine seq_g0 rfl rfl h4 (stp_pick_f' rfl h5 rfl) ?_
              first | refine seq_g0 rfl rfl h4 (stp_move (.dat _) rfl) ?_ | refine seq_g0 rfl rfl h4 (stp_move (.ptr _ _) rfl) ?_ | refine seq_g0 rfl rfl h4 (stp_move (.row _ _) rfl) ?_ | refine seq_g0 rfl rfl h4 (stp_move (.rptr _ _ _ _ _) rfl) ?_ | refine seq_g0 rfl rfl h4 (stp_move (.mp _) rfl) ?_
              first | refine seq_g0 rfl rfl rfl (stp_move (.dat _) rfl) ?_ | refine seq_g0 rfl rfl rfl (stp_move (.ptr _ _) rfl) ?_ | refine seq_g0 rfl rfl rfl (stp_move (.row _ _) rfl) ?_ | refine seq_g0 rfl rfl rfl (stp_move (.rptr _ _ _ _ _) rfl) ?_ | refine seq_g0 rfl rfl rfl (stp_move (.mp _) rfl) ?_
              refine seq_g0 rfl rfl rfl (stp_eql rfl rfl) ?_
              refine seq_g0 rfl rfl h4 (stp_pick_f rfl rfl rfl) ?_
              first | refine seq_g0 rfl rfl h4 (stp_move (.dat _) rfl) ?_ | refine seq_g0 rfl rfl h4 (stp_move (.ptr _ _) rfl) ?_ | refine seq_g0 rfl rfl h4 (stp_move (.row _ _) rfl) ?_ | refine seq_g0 rfl rfl h4 (stp_move (.rptr _ _ _ _ _) rfl) ?_ | refine seq_g0 rfl rfl h4 (stp_move (.mp _) rfl) ?_
              refine seq_split (j := 20) rfl rfl (fun h8 => ?_) (fun h8 => ?_) rfl
              · -- guard (20, False): runs
                have qh8 := h8
                try simp at qh8
                first | refine seq_g0 rfl rfl h8 (stp_move (.dat _) rfl) ?_ | refine seq_g0 rfl rfl h8 (stp_move (.ptr _ _) rfl) ?_ | refine seq_g0 rfl rfl h8 (stp_move (.row _ _) rfl) ?_ | refine seq_g0 rfl rfl h8 (stp_move (.rptr _ _ _ _ _) rfl) ?_ | refine seq_g0 rfl rfl h8 (stp_move (.mp _) rfl) ?_
                refine seq_g0 rfl rfl h8 (stp_eql rfl rfl) ?_
                refine seq_g0 rfl rfl h4 (stp_pick_f rfl h8 rfl) ?_
                refine seq_g0 rfl rfl h3 (stp_pick_t rfl h4 rfl) ?_
                refine seq_run0 (stp_pick_f rfl h3 rfl) ?_
                refine seq_run0 (stp_not rfl) ?_
                exact ⟨rfl, jb (by simp at *; unfold keyAt; rw [Bool.eq_iff_iff]; simp; omega), trivial⟩
              · -- guard (20, False): is left out
                have qh8 := h8
                try simp at qh8
                refine seq_skip rfl rfl h8 ?_
                refine seq_skip rfl rfl h8 ?_
                refine seq_g0 rfl rfl h4 (stp_pick_t' rfl h8 rfl) ?_
                refine seq_g0 rfl rfl h3 (stp_pick_t rfl h4 rfl) ?_
                refine seq_run0 (stp_pick_f rfl h3 rfl) ?_
                refine seq_run0 (stp_not rfl) ?_
                exact ⟨rfl, jb (by simp at *; unfold keyAt; rw [Bool.eq_iff_iff]; simp; omega), trivial⟩
          · -- guard (9, True): is left out
            have qh4 := h4
            try simp at qh4
            refine seq_skip rfl rfl h4 ?_
            refine seq_skip rfl rfl h4 ?_
            refine seq_skip rfl rfl h4 ?_
            refine seq_skipU rfl rfl ?_
            refine seq_skipU rfl rfl ?_
            refine seq_skip rfl rfl h4 ?_
            refine seq_skip rfl rfl h4 ?_
            refine seq_skipU rfl rfl ?_
            refine seq_skipU rfl rfl ?_
            refine seq_skip rfl rfl h4 ?_
            refine seq_skip rfl rfl h4 ?_
            refine seq_skipU rfl rfl ?_
            refine seq_skipU rfl rfl ?_
            refine seq_skip rfl rfl h4 ?_
            refine seq_g0 rfl rfl h3 (stp_pick_f' rfl h4 rfl) ?_
            refine seq_run0 (stp_pick_f rfl h3 rfl) ?_
            refine seq_run0 (stp_not rfl) ?_
            exact ⟨rfl, jb (by simp at *; unfold keyAt; rw [Bool.eq_iff_iff]; simp; omega), trivial⟩
        · -- guard (6, False): is left out
          have qh3 := h3
          try simp at qh3
          refine seq_skip rfl rfl h3 ?_
          refine seq_skip rfl rfl h3 ?_
          refine seq_skip rfl rfl h3 ?_
          refine seq_skipU rfl rfl ?_
          refine seq_skipU rfl rfl ?_
          refine seq_skipU rfl rfl ?_
          refine seq_skipU rfl rfl ?_
          refine seq_skipU rfl rfl ?_
          refine seq_skipU rfl rfl ?_
          refine seq_skipU rfl rfl ?_
          refine seq_skipU rfl rfl ?_
          refine seq_skipU rfl rfl ?_
          refine seq_skipU rfl rfl ?_
          refine seq_skipU rfl rfl ?_
          refine seq_skipU rfl rfl ?_
          refine seq_skipU rfl rfl ?_
          refine seq_skipU rfl rfl ?_
          refine seq_skip rfl rfl h3 ?_
          refine seq_run0 (stp_pick_t' rfl h3 rfl) ?_
          refine seq_run0 (stp_not rfl) ?_
          exact ⟨rfl, jb (by simp at *; unfold keyAt; rw [Bool.eq_iff_iff]; simp; omega), trivial⟩
      · -- guard (2, True): is left out
        have qh2 := h2
        try simp at qh2
        refine seq_skip rfl rfl h2 ?_
        refine seq_skip rfl rfl h2 ?_
        refine seq_run0 (stp_pick_f' rfl h2 rfl) ?_
        first | refine seq_run0 (stp_move (.dat _) rfl) ?_ | refine seq_run0 (stp_move (.ptr _ _) rfl) ?_ | refine seq_run0 (stp_move (.row _ _) rfl) ?_ | refine seq_run0 (stp_move (.rptr _ _ _ _ _) rfl) ?_ | refine seq_run0 (stp_move (.mp _) rfl) ?_
        first | refine seq_g0 rfl rfl rfl (stp_move (.dat _) rfl) ?_ | refine seq_g0 rfl rfl rfl (stp_move (.ptr _ _) rfl) ?_ | refine seq_g0 rfl rfl rfl (stp_move (.row _ _) rfl) ?_ | refine seq_g0 rfl rfl rfl (stp_move (.rptr _ _ _ _ _) rfl) ?_ | refine seq_g0 rfl rfl rfl (stp_move (.mp _) rfl) ?_
        refine seq_g0 rfl rfl rfl (stp_gtr rfl rfl) ?_
        first | refine seq_g0 rfl rfl rfl (stp_move (.dat _) rfl) ?_ | refine seq_g0 rfl rfl rfl (stp_move (.ptr _ _) rfl) ?_ | refine seq_g0 rfl rfl rfl (stp_move (.row _ _) rfl) ?_ | refine seq_g0 rfl rfl rfl (stp_move (.rptr _ _ _ _ _) rfl) ?_ | refine seq_g0 rfl rfl rfl (stp_move (.mp _) rfl) ?_
        refine seq_split (j := 9) rfl rfl (fun h9 => ?_) (fun h9 => ?_) rfl
        · -- guard (9, True): runs
          have qh9 := h9
          try simp at qh9
          first | refine seq_g0 rfl rfl h9 (stp_move (.dat _) rfl) ?_ | refine seq_g0 rfl rfl h9 (stp_move (.ptr _ _) rfl) ?_ | refine seq_g0 rfl rfl h9 (stp_move (.row _ _) rfl) ?_ | refine seq_g0 rfl rfl h9 (stp_move (.rptr _ _ _ _ _) rfl) ?_ | refine seq_g0 rfl rfl h9 (stp_move (.mp _) rfl) ?_
          refine seq_g0 rfl rfl h9 (stp_geq rfl rfl) ?_
          first | refine seq_g0 rfl rfl h9 (stp_move (.dat _) rfl) ?_ | refine seq_g0 rfl rfl h9 (stp_move (.ptr _ _) rfl) ?_ | refine seq_g0 rfl rfl h9 (stp_move (.row _ _) rfl) ?_ | refine seq_g0 rfl rfl h9 (stp_move (.rptr _ _ _ _ _) rfl) ?_ | refine seq_g0 rfl rfl h9 (stp_move (.mp _) rfl) ?_
          refine seq_split (j := 12) rfl rfl (fun h10 => ?_) (fun h10 => ?_) rfl
          · -- guard (12, True): runs
            have qh10 := h10
            try simp at qh10
            first | refine seq_g0 rfl rfl h10 (stp_move (.dat _) rfl) ?_ | refine seq_g0 rfl rfl h10 (stp_move (.ptr _ _) rfl) ?_ | refine seq_g0 rfl rfl h10 (stp_move (.row _ _) rfl) ?_ | refine seq_g0 rfl rfl h10 (stp_move (.rptr _ _ _ _ _) rfl) ?_ | refine seq_g0 rfl rfl h10 (stp_move (.mp _) rfl) ?_
            refine seq_g0 rfl rfl h10 (stp_leq rfl rfl) ?_
            refine seq_g0 rfl rfl h9 (stp_pick_t rfl h10 rfl) ?_
            first | refine seq_g0 rfl rfl h9 (stp_move (.dat _) rfl) ?_ | refine seq_g0 rfl rfl h9 (stp_move (.ptr _ _) rfl) ?_ | refine seq_g0 rfl rfl h9 (stp_move (.row _ _) rfl) ?_ | refine seq_g0 rfl rfl h9 (stp_move (.rptr _ _ _ _ _) rfl) ?_ | refine seq_g0 rfl rfl h9 (stp_move (.mp _) rfl) ?_
            refine seq_split (j := 16) rfl rfl (fun h11 => ?_) (fun h11 => ?_) rfl
            · -- guard (16, False): runs
              have qh11 := h11
              try simp at qh11
              first | refine seq_g0 rfl rfl h11 (stp_move (.dat _) rfl) ?_ | refine seq_g0 rfl rfl h11 (stp_move (.ptr _ _) rfl) ?_ | refine seq_g0 rfl rfl h11 (stp_move (.row _ _) rfl) ?_ | refine seq_g0 rfl rfl h11 (stp_move (.rptr _ _ _ _ _) rfl) ?_ | refine seq_g0 rfl rfl h11 (stp_move (.mp _) rfl) ?_
              refine seq_g0 rfl rfl h11 (stp_eql rfl rfl) ?_
              refine seq_g0 rfl rfl h9 (stp_pick_f rfl h11 rfl) ?_
              first | refine seq_g0 rfl rfl h9 (stp_move (.dat _) rfl) ?_ | refine seq_g0 rfl rfl h9 (stp_move (.ptr _ _) rfl) ?_ | refine seq_g0 rfl rfl h9 (stp_move (.row _ _) rfl) ?_ | refine seq_g0 rfl rfl h9 (stp_move (.rptr _ _ _ _ _) rfl) ?_ | refine seq_g0 rfl rfl h9 (stp_move (.mp _) rfl) ?_
              refine seq_split (j := 20) rfl rfl (fun h12 => ?_) (fun h12 => ?_) rfl
              · -- guard (20, False): runs
                have qh12 := h12
                try simp at qh12
                first | refine seq_g0 rfl rfl h12 (stp_move (.dat _) rfl) ?_ | refine seq_g0 rfl rfl h12 (stp_move (.ptr _ _) rfl) ?_ | refine seq_g0 rfl rfl h12 (stp_move (.row _ _) rfl) ?_ | refine seq_g0 rfl rfl h12 (stp_move (.rptr _ _ _ _ _) rfl) ?_ | refine seq_g0 rfl rfl h12 (stp_move (.mp _) rfl) ?_
                refine seq_g0 rfl rfl h12 (stp_eql rfl rfl) ?_
                refine seq_g0 rfl rfl h9 (stp_pick_f rfl h12 rfl) ?_
                refine seq_g0 rfl rfl rfl (stp_pick_t rfl h9 rfl) ?_
                refine seq_run0 (stp_pick_f rfl rfl rfl) ?_
                refine seq_run0 (stp_not rfl) ?_
                exact ⟨rfl, jb (by simp at *; unfold keyAt; rw [Bool.eq_iff_iff]; simp; omega), trivial⟩
              · -- guard (20, False): is left out
                have qh12 := h12
                try simp at qh12
                refine seq_skip rfl rfl h12 ?_
                refine seq_skip rfl rfl h12 ?_
                refine seq_g0 rfl rfl h9 (stp_pick_t' rfl h12 rfl) ?_
                refine seq_g0 rfl rfl rfl (stp_pick_t rfl h9 rfl) ?_
                refine seq_run0 (stp_pick_f rfl rfl rfl) ?_
                refine seq_run0 (stp_not rfl) ?_
                exact ⟨rfl, jb (by simp at *; unfold keyAt; rw [Bool.eq_iff_iff]; simp; omega), trivial⟩
            · -- guard (16, False): is left out
              have qh11 := h11
              try simp at qh11
              refine seq_skip rfl rfl h11 ?_
              refine seq_skip rfl rfl h11 ?_
              refine seq_g0 rfl rfl h9 (stp_pick_t' rfl h11 rfl) ?_
              first | refine seq_g0 rfl rfl h9 (stp_move (.dat _) rfl) ?_ | refine seq_g0 rfl rfl h9 (stp_move (.ptr _ _) rfl) ?_ | refine seq_g0 rfl rfl h9 (stp_move (.row _ _) rfl) ?_ | refine seq_g0 rfl rfl h9 (stp_move (.rptr _ _ _ _ _) rfl) ?_ | refine seq_g0 rfl rfl h9 (stp_move (.mp _) rfl) ?_
              refine seq_skip rfl rfl rfl ?_
              refine seq_skip rfl rfl rfl ?_
              refine seq_g0 rfl rfl h9 (stp_pick_t rfl rfl rfl) ?_
              refine seq_g0 rfl rfl rfl (stp_pick_t rfl h9 rfl) ?_
              refine seq_run0 (stp_pick_f rfl rfl rfl) ?_
              refine seq_run0 (stp_not rfl) ?_
              exact ⟨rfl, jb (by simp at *; unfold keyAt; rw [Bool.eq_iff_iff]; simp; omega), trivial⟩
          · -- guard (12, True): is left out
            have qh10 := h10
            try simp at qh10
            refine seq_skip rfl rfl h10 ?_
            refine seq_skip rfl rfl h10 ?_
            refine seq_g0 rfl rfl h9 (stp_pick_f' rfl h10 rfl) ?_
            first | refine seq_g0 rfl rfl h9 (stp_move (.dat _) rfl) ?_ | refine seq_g0 rfl rfl h9 (stp_move (.ptr _ _) rfl) ?_ | refine seq_g0 rfl rfl h9 (stp_move (.row _ _) rfl) ?_ | refine seq_g0 rfl rfl h9 (stp_move (.rptr _ _ _ _ _) rfl) ?_ | refine seq_g0 rfl rfl h9 (stp_move (.mp _) rfl) ?_
            first | refine seq_g0 rfl rfl rfl (stp_move (.dat _) rfl) ?_ | refine seq_g0 rfl rfl rfl (stp_move (.ptr _ _) rfl) ?_ | refine seq_g0 rfl rfl rfl (stp_move (.row _ _) rfl) ?_ | refine seq_g0 rfl rfl rfl (stp_move (.rptr _ _ _ _ _) rfl) ?_ | refine seq_g0 rfl rfl rfl (stp_move (.mp _) rfl) ?_
            refine seq_g0 rfl rfl rfl (stp_eql rfl rfl) ?_
            refine seq_g0 rfl rfl h9 (stp_pick_f rfl rfl rfl) ?_
            first | refine seq_g0 rfl rfl h9 (stp_move (.dat _) rfl) ?_ | refine seq_g0 rfl rfl h9 (stp_move (.ptr _ _) rfl) ?_ | refine seq_g0 rfl rfl h9 (stp_move (.row _ _) rfl) ?_ | refine seq_g0 rfl rfl h9 (stp_move (.rptr _ _ _ _ _) rfl) ?_ | refine seq_g0 rfl rfl h9 (stp_move (.mp _) rfl) ?_
            refine seq_split (j := 20) rfl rfl (fun h13 => ?_) (fun h13 => ?_) rfl
            · -- guard (20, False): runs
              have qh13 := h13
              try simp at qh13
              first | refine seq_g0 rfl rfl h13 (stp_move (.dat _) rfl) ?_ | refine seq_g0 rfl rfl h13 (stp_move (.ptr _ _) rfl) ?_ | refine seq_g0 rfl rfl h13 (stp_move (.row _ _) rfl) ?_ | refine seq_g0 rfl rfl h13 (stp_move (.rptr _ _ _ _ _) rfl) ?_ | refine seq_g0 rfl rfl h13 (stp_move (.mp _) rfl) ?_
              refine seq_g0 rfl rfl h13 (stp_eql rfl rfl) ?_
              refine seq_g0 rfl rfl h9 (stp_pick_f rfl h13 rfl) ?_
              refine seq_g0 rfl rfl rfl (stp_pick_t rfl h9 rfl) ?_
              refine seq_run0 (stp_pick_f rfl rfl rfl) ?_
              refine seq_run0 (stp_not rfl) ?_
              exact ⟨rfl, jb (by simp at *; unfold keyAt; rw [Bool.eq_iff_iff]; simp; omega), trivial⟩
            · -- guard (20, False): is left out
              have qh13 := h13
              try simp at qh13
              refine seq_skip rfl rfl h13 ?_
              refine seq_skip rfl rfl h13 ?_
              refine seq_g0 rfl rfl h9 (stp_pick_t' rfl h13 rfl) ?_
              refine seq_g0 rfl rfl rfl (stp_pick_t rfl h9 rfl) ?_
              refine seq_run0 (stp_pick_f rfl rfl rfl) ?_
              refine seq_run0 (stp_not rfl) ?_
              exact ⟨rfl, jb (by simp at *; unfold keyAt; rw [Bool.eq_iff_iff]; simp; omega), trivial⟩
        · -- guard (9, True): is left out
          have qh9 := h9
          try simp at qh9
          refine seq_skip rfl rfl h9 ?_
          refine seq_skip rfl rfl h9 ?_
          refine seq_skip rfl rfl h9 ?_
          refine seq_skipU rfl rfl ?_
          refine seq_skipU rfl rfl ?_
          refine seq_skip rfl rfl h9 ?_
          refine seq_skip rfl rfl h9 ?_
          refine seq_skipU rfl rfl ?_
          refine seq_skipU rfl rfl ?_
          refine seq_skip rfl rfl h9 ?_
          refine seq_skip rfl rfl h9 ?_
          refine seq_skipU rfl rfl ?_
          refine seq_skipU rfl rfl ?_
          refine seq_skip rfl rfl h9 ?_
          refine seq_g0 rfl rfl rfl (stp_pick_f' rfl h9 rfl) ?_
          refine seq_run0 (stp_pick_f rfl rfl rfl) ?_
          refine seq_run0 (stp_not rfl) ?_
          exact ⟨rfl, jb (by simp at *; unfold keyAt; rw [Bool.eq_iff_iff]; simp; omega), trivial⟩
    · -- behind region 5
      refine awp_cond _ rfl (fun h14 => ?_) (fun h14 => ?_)
      · -- yes
        try simp at h14
        refine awp_seq ?_
        refine awp_plain hN rfl ?_
        refine seq_run0 (stp_assign (.dat _) rfl) ?_
        refine awp_ret ?_
        exact ⟨trivial, .inl (congrArg vbool (keyUp_bad (by omega) (by assumption)).symm), trivial⟩
      · -- no
        try simp at h14
        refine awp_skip ?_
        refine awp_plain hN rfl ?_
        first | refine seq_run0 (stp_move (.dat _) rfl) ?_ | refine seq_run0 (stp_move (.ptr _ _) rfl) ?_ | refine seq_run0 (stp_move (.row _ _) rfl) ?_ | refine seq_run0 (stp_move (.rptr _ _ _ _ _) rfl) ?_ | refine seq_run0 (stp_move (.mp _) rfl) ?_
        refine seq_run0 (stp_add rfl rfl (by omega)) ?_
        first | refine seq_run0 (stp_assign (.dat _) rfl) ?_ | refine seq_run0 (stp_assign (.ptr _ _) rfl) ?_ | refine seq_run0 (stp_assign (.row _ _) rfl) ?_ | refine seq_run0 (stp_assign (.rptr _ _ _ _ _) rfl) ?_ | refine seq_run0 (stp_assign (.mp _) rfl) ?_
        exact ⟨k + 1, ⟨by omega, by rw [keyUp_succ, hu]; simp only [Bool.true_and]; assumption⟩, by omega, ⟨rfl, rfl, trivial⟩, trivial⟩
  · -- no
    try simp at h1
    refine awp_exit ?_
    refine awp_seq ?_
    refine awp_plain hN rfl ?_
    first | refine seq_run0 (stp_move (.dat _) rfl) ?_ | refine seq_run0 (stp_move (.ptr _ _) rfl) ?_ | refine seq_run0 (stp_move (.row _ _) rfl) ?_ | refine seq_run0 (stp_move (.rptr _ _ _ _ _) rfl) ?_ | refine seq_run0 (stp_move (.mp _) rfl) ?_
    refine seq_run0 (stp_sneq rfl rfl) ?_
    first | refine seq_run0 (stp_move (.dat _) rfl) ?_ | refine seq_run0 (stp_move (.ptr _ _) rfl) ?_ | refine seq_run0 (stp_move (.row _ _) rfl) ?_ | refine seq_run0 (stp_move (.rptr _ _ _ _ _) rfl) ?_ | refine seq_run0 (stp_move (.mp _) rfl) ?_
    refine seq_split (j := 2) rfl rfl (fun h15 => ?_) (fun h15 => ?_) rfl
    · -- guard (2, True): runs
      have qh15 := h15
      try simp at qh15
      first | refine seq_g0 rfl rfl h15 (stp_move (.dat _) rfl) ?_ | refine seq_g0 rfl rfl h15 (stp_move (.ptr _ _) rfl) ?_ | refine seq_g0 rfl rfl h15 (stp_move (.row _ _) rfl) ?_ | refine seq_g0 rfl rfl h15 (stp_move (.rptr _ _ _ _ _) rfl) ?_ | refine seq_g0 rfl rfl h15 (stp_move (.mp _) rfl) ?_
      refine seq_g0 rfl rfl h15 (stp_len_str tyU9 rfl) ?_
      refine seq_g0 rfl rfl h15 (stp_leq rfl rfl) ?_
      refine seq_run0 (stp_pick_t rfl h15 rfl) ?_
      first | refine seq_run0 (stp_assign (.dat _) rfl) ?_ | refine seq_run0 (stp_assign (.ptr _ _) rfl) ?_ | refine seq_run0 (stp_assign (.row _ _) rfl) ?_ | refine seq_run0 (stp_assign (.rptr _ _ _ _ _) rfl) ?_ | refine seq_run0 (stp_assign (.mp _) rfl) ?_
      refine awp_ret ?_
      exact ⟨trivial, .inl (congrArg vbool (keyB_a hu (by omega) (by have h := ‹(decide (s ≠ []) != true) = false›; simpa using h))), trivial⟩
    · -- guard (2, True): is left out
      have qh15 := h15
      try simp at qh15
      refine seq_skip rfl rfl h15 ?_
      refine seq_skip rfl rfl h15 ?_
      refine seq_skip rfl rfl h15 ?_
      refine seq_run0 (stp_pick_f' rfl h15 rfl) ?_
      first | refine seq_run0 (stp_assign (.dat _) rfl) ?_ | refine seq_run0 (stp_assign (.ptr _ _) rfl) ?_ | refine seq_run0 (stp_assign (.row _ _) rfl) ?_ | refine seq_run0 (stp_assign (.rptr _ _ _ _ _) rfl) ?_ | refine seq_run0 (stp_assign (.mp _) rfl) ?_
      refine awp_ret ?_
      exact ⟨trivial, .inl (congrArg vbool (keyB_b (by have h := ‹(decide (s ≠ []) != true) = true›; simpa using h))), trivial⟩
theorem idxB (l : List UInt8) (c : UInt8) : Fn Try.prog 144 [vstr l, vval (.int .u8 (c.toNat : Int))] (vint (Lib.indexByte l c)) := by
  refine fn_of_calls (by kernel_rfl) fun M w vs h => ?_
  have h1 := Ts_vals (us := [.string ⟨l.toArray⟩, .int .u8 (c.toNat : Int)]) h
  subst h1
  refine (Try.strings_IndexByte ⟨l.toArray⟩ (c.toNat : Int) w).mono ?_
  rintro e w' ⟨rfl, rfl⟩
  exact ⟨_, rfl, by show Value.int _ _ = Value.int _ _; simp, Kp.refl _ _⟩
theorem cmpB (a b : List UInt8) : Fn Try.prog 126 [vstr a, vstr b] (vint (cmpL a b)) := by
  refine fn_of_calls (by kernel_rfl) fun M w vs h => ?_
  have h1 := Ts_vals (us := [.string ⟨a.toArray⟩, .string ⟨b.toArray⟩]) h
  subst h1
  refine (Try.strings_Compare ⟨a.toArray⟩ ⟨b.toArray⟩ w).mono ?_
  rintro e w' ⟨rfl, rfl⟩
  exact ⟨_, rfl, rfl, Kp.refl _ _⟩
def onlyL (l some : List UInt8) : Bool := l.all fun c => some.contains c
theorem byt_eq {l : List UInt8} {k : Nat} (hk : k < l.length) : byt l k = l[k] := by
  unfold byt; rw [List.getD_eq_getElem?_getD, List.getElem?_eq_getElem hk]; rfl
theorem onlyL_up (l some : List UInt8) (k : Nat) (hk : k < l.length) : onlyL (l.take (k + 1)) some = (onlyL (l.take k) some && decide (0 ≤ Lib.indexByte some (byt l k))) := by
  unfold onlyL; rw [List.take_succ_eq_append_getElem hk, List.all_append, byt_eq hk]; simp only [List.all_cons, List.all_nil, Bool.and_true, Lib.contains_iff_indexByte]
theorem onlyL_bad (l some : List UInt8) (k : Nat) (hk : k < l.length) (h : Lib.indexByte some (byt l k) < 0) : onlyL l some = false := by
  unfold onlyL
  rw [List.all_eq_false]
  refine ⟨l[k], List.getElem_mem hk, ?_⟩
  rw [byt_eq hk] at h
  rw [Lib.contains_iff_indexByte, decide_eq_true_eq]; omega
theorem k_gateref2_only (l so : List UInt8) (hs : l.length ≤ 1000000)  : Fn Try.prog 120 [vstr l, vstr so] (resOf [vbool (onlyL l so)]) := by
  refine ⟨by kernel_rfl, pure_of (us := [vbool (onlyL l so)]) Try.func120 rfl rfl rfl rfl fun X hN => ?_⟩
  refine awp_seq ?_
  refine awp_plain hN rfl ?_
  refine seq_run0 (stp_assign (.dat _) rfl) ?_
  refine awp_seq ?_
  refine awp_seq ?_
  refine awp_plain hN rfl ?_
  first | refine seq_run0 (stp_move (.dat _) rfl) ?_ | refine seq_run0 (stp_move (.ptr _ _) rfl) ?_ | refine seq_run0 (stp_move (.row _ _) rfl) ?_ | refine seq_run0 (stp_move (.rptr _ _ _ _ _) rfl) ?_ | refine seq_run0 (stp_move (.mp _) rfl) ?_
  refine seq_run0 (stp_len_str tyU9 rfl) ?_
  refine seq_run0 (stp_move (.dat _) rfl) ?_
  refine awp_block ?_
  refine awp_loop (fun k : Nat => [(0, .dat (vstr l)), (1, .dat (vstr so)), (7, .dat (vint (l.length : Int))), (8, .dat (vint (k : Int)))]) (fun k : Nat => []) (fun k : Nat => k ≤ l.length ∧ onlyL (l.take k) so = true) (fun k : Nat => l.length - k) 0 ⟨by omega, rfl⟩ ⟨rfl, rfl, rfl, rfl, trivial⟩ trivial (fun _ => rfl) (fun k hI => ?_)
  obtain ⟨hk, hu⟩ := hI
  refine awp_seq ?_
  refine awp_plain hN rfl ?_
  refine seq_run0 (stp_lss rfl rfl) ?_
  refine awp_seq ?_
  refine awp_cond _ rfl (fun h1 => ?_) (fun h1 => ?_)
  · -- yes
    try simp at h1
    refine awp_skip ?_
    refine awp_seq ?_
    refine awp_block ?_
    refine awp_seq ?_
    refine awp_plain hN rfl ?_
    first | refine seq_run0 (stp_move (.dat _) rfl) ?_ | refine seq_run0 (stp_move (.ptr _ _) rfl) ?_ | refine seq_run0 (stp_move (.row _ _) rfl) ?_ | refine seq_run0 (stp_move (.rptr _ _ _ _ _) rfl) ?_ | refine seq_run0 (stp_move (.mp _) rfl) ?_
    first | refine seq_run0 (stp_assign (.dat _) rfl) ?_ | refine seq_run0 (stp_assign (.ptr _ _) rfl) ?_ | refine seq_run0 (stp_assign (.row _ _) rfl) ?_ | refine seq_run0 (stp_assign (.rptr _ _ _ _ _) rfl) ?_ | refine seq_run0 (stp_assign (.mp _) rfl) ?_
    refine awp_seq ?_
    refine awp_plain hN rfl ?_
    first | refine seq_run0 (stp_move (.dat _) rfl) ?_ | refine seq_run0 (stp_move (.ptr _ _) rfl) ?_ | refine seq_run0 (stp_move (.row _ _) rfl) ?_ | refine seq_run0 (stp_move (.rptr _ _ _ _ _) rfl) ?_ | refine seq_run0 (stp_move (.mp _) rfl) ?_
    first | refine seq_run0 (stp_move (.dat _) rfl) ?_ | refine seq_run0 (stp_move (.ptr _ _) rfl) ?_ | refine seq_run0 (stp_move (.row _ _) rfl) ?_ | refine seq_run0 (stp_move (.rptr _ _ _ _ _) rfl) ?_ | refine seq_run0 (stp_move (.mp _) rfl) ?_
    first | refine seq_run0 (stp_move (.dat _) rfl) ?_ | refine seq_run0 (stp_move (.ptr _ _) rfl) ?_ | refine seq_run0 (stp_move (.row _ _) rfl) ?_ | refine seq_run0 (stp_move (.rptr _ _ _ _ _) rfl) ?_ | refine seq_run0 (stp_move (.mp _) rfl) ?_
    first | refine seq_run0 (stp_index tyU9 rfl rfl (by omega)) ?_ | refine seq_run0 (stp_indexI tyU9 rfl rfl (by omega)) ?_
    refine seq_run0 (stp_call (idxB _ _) ⟨.inl rfl, .inl rfl, trivial⟩) ?_
    refine seq_run0 (stp_lss rfl rfl) ?_
    refine awp_cond _ rfl (fun h2 => ?_) (fun h2 => ?_)
    · -- yes
      try simp at h2
      refine awp_seq ?_
      refine awp_plain hN rfl ?_
      refine seq_run0 (stp_assign (.dat _) rfl) ?_
      refine awp_ret ?_
      exact ⟨trivial, .inl (congrArg vbool (onlyL_bad l so k (by omega) (by assumption)).symm), trivial⟩
    · -- no
      try simp at h2
      refine awp_skip ?_
      refine awp_plain hN rfl ?_
      refine seq_run0 (stp_add rfl rfl (by omega)) ?_
      first | refine seq_run0 (stp_move (.dat _) rfl) ?_ | refine seq_run0 (stp_move (.ptr _ _) rfl) ?_ | refine seq_run0 (stp_move (.row _ _) rfl) ?_ | refine seq_run0 (stp_move (.rptr _ _ _ _ _) rfl) ?_ | refine seq_run0 (stp_move (.mp _) rfl) ?_
      exact ⟨k + 1, ⟨by omega, by rw [onlyL_up l so k (by omega), hu]; simp; omega⟩, by omega, ⟨rfl, rfl, rfl, rfl, trivial⟩, trivial⟩
  · -- no
    try simp at h1
    refine awp_exit ?_
    refine awp_seq ?_
    refine awp_plain hN rfl ?_
    refine seq_run0 (stp_assign (.dat _) rfl) ?_
    refine awp_ret ?_
    exact ⟨trivial, .inl (congrArg vbool (by rw [List.take_of_length_le (by omega)] at hu; exact hu.symm)), trivial⟩
def smallsL : List UInt8 := [97, 98, 99, 100, 101, 102, 103, 104, 105, 106, 107, 108, 109, 110, 111, 112, 113, 114, 115, 116, 117, 118, 119, 120, 121, 122]
def keysL : List UInt8 := smallsL ++ [48, 49, 50, 51, 52, 53, 54, 55, 56, 57, 45, 95]
theorem u8_all (p : UInt8 → Bool) (h : ((List.range 256).all fun n => p (UInt8.ofNat n)) = true) (c : UInt8) : p c = true := by
  have := List.all_eq_true.1 h c.toNat (by simp; exact c.toNat_lt)
  simpa using this
theorem smalls_at (c : UInt8) : smallsL.contains c = keyAt 0 c := by
  have := u8_all (fun c => smallsL.contains c == keyAt 0 c) (by decide +kernel) c
  simpa using this
theorem keys_at (c : UInt8) : keysL.contains c = keyAt 1 c := by
  have := u8_all (fun c => keysL.contains c == keyAt 1 c) (by decide +kernel) c
  simpa using this
theorem keyAt_pos (k : Nat) (c : UInt8) : keyAt (k + 1) c = keyAt 1 c := by unfold keyAt; simp
theorem keyAt_01 (c : UInt8) (h : keyAt 0 c = true) : keyAt 1 c = true := by unfold keyAt at *; simp at h ⊢; exact .inl h
theorem keyRef_eq (l : List UInt8) : (inB (l.length : Int) 1 40 && onlyL (l.take 1) smallsL && onlyL l keysL) = keyB l := by
  unfold keyB
  cases l with
  | nil => simp [inB]
  | cons c r =>
    have h1 : onlyL ((c :: r).take 1) smallsL = keyAt 0 c := by simp only [List.take_succ_cons, List.take_zero, onlyL, List.all_cons, List.all_nil, Bool.and_true]; exact smalls_at c
    have h2 : onlyL (c :: r) keysL = (keyAt 1 c && r.all fun c => keyAt 1 c) := by
      simp only [onlyL, List.all_cons, keys_at]
    have h3 : keyUp (c :: r) (c :: r).length = (keyAt 0 c && r.all fun c => keyAt 1 c) := by
      unfold keyUp
      rw [List.length_cons, List.range_succ_eq_map, List.all_cons, List.all_map]
      have : (List.range r.length).all ((fun j => keyAt j (byt (c :: r) j)) ∘ Nat.succ) = r.all fun c => keyAt 1 c := by
        rw [Bool.eq_iff_iff, List.all_eq_true, List.all_eq_true]
        constructor
        · intro h x hx
          obtain ⟨j, hj, rfl⟩ := List.mem_iff_getElem.1 hx
          have := h j (by simpa using hj)
          simp only [Function.comp, Nat.succ_eq_add_one, keyAt_pos, byt, List.getD_cons_succ] at this
          rw [List.getD_eq_getElem?_getD, List.getElem?_eq_getElem hj] at this
          exact this
        · intro h j hj
          have hj : j < r.length := by simpa using hj
          simp only [Function.comp, Nat.succ_eq_add_one, keyAt_pos, byt, List.getD_cons_succ]
          rw [List.getD_eq_getElem?_getD, List.getElem?_eq_getElem hj]
          exact h _ (List.getElem_mem _)
      rw [this]
      rfl
    rw [h1, h2, h3]
    have h4 : inB (((c :: r).length : Nat) : Int) 1 40 = decide (((c :: r).length : Int) ≤ 40) := by unfold inB; simp; omega
    rw [h4]
    cases hk : keyAt 0 c
    · simp
    · rw [keyAt_01 c hk]
      simp
      cases (r.all fun c => keyAt 1 c) <;> simp
theorem k_gateref2_Key (l : List UInt8) (hs : l.length ≤ 1000000)  : Fn Try.prog 89 [vstr l] (resOf [vbool (keyB l)]) := by
  refine ⟨by kernel_rfl, pure_of (us := [vbool (keyB l)]) Try.func89 rfl rfl rfl rfl fun X hN => ?_⟩
  refine awp_seq ?_
  refine awp_plain hN rfl ?_
  refine seq_run0 (stp_assign (.dat _) rfl) ?_
  refine awp_seq ?_
  refine awp_plain hN rfl ?_
  first | refine seq_run0 (stp_move (.dat _) rfl) ?_ | refine seq_run0 (stp_move (.ptr _ _) rfl) ?_ | refine seq_run0 (stp_move (.row _ _) rfl) ?_ | refine seq_run0 (stp_move (.rptr _ _ _ _ _) rfl) ?_ | refine seq_run0 (stp_move (.mp _) rfl) ?_
  refine seq_run0 (stp_len_str tyU9 rfl) ?_
  refine seq_run0 (stp_call (k_gateref2_in _ _ _) ⟨.inl rfl, .inl rfl, .inl rfl, trivial⟩) ?_
  first | refine seq_run0 (stp_move (.dat _) rfl) ?_ | refine seq_run0 (stp_move (.ptr _ _) rfl) ?_ | refine seq_run0 (stp_move (.row _ _) rfl) ?_ | refine seq_run0 (stp_move (.rptr _ _ _ _ _) rfl) ?_ | refine seq_run0 (stp_move (.mp _) rfl) ?_
  refine seq_split (j := 3) rfl rfl (fun h1 => ?_) (fun h1 => ?_) rfl
  · -- guard (3, True): runs
    have qh1 := h1
    try simp at qh1
    first | refine seq_g0 rfl rfl h1 (stp_move (.dat _) rfl) ?_ | refine seq_g0 rfl rfl h1 (stp_move (.ptr _ _) rfl) ?_ | refine seq_g0 rfl rfl h1 (stp_move (.row _ _) rfl) ?_ | refine seq_g0 rfl rfl h1 (stp_move (.rptr _ _ _ _ _) rfl) ?_ | refine seq_g0 rfl rfl h1 (stp_move (.mp _) rfl) ?_
    refine seq_g0 rfl rfl h1 (stp_subS (a := 0) (b := 1) tyU9 rfl rfl rfl (by omega) (by have h := ‹(inB _ 1 40 != true) = false›; simp [inB] at h; omega)) ?_
    refine seq_g0 rfl rfl h1 (stp_call (k_gateref2_only _ _ (by first | omega | (simp; omega))) ⟨.inl rfl, .inl rfl, trivial⟩) ?_
    refine seq_run0 (stp_pick_t rfl h1 rfl) ?_
    first | refine seq_run0 (stp_move (.dat _) rfl) ?_ | refine seq_run0 (stp_move (.ptr _ _) rfl) ?_ | refine seq_run0 (stp_move (.row _ _) rfl) ?_ | refine seq_run0 (stp_move (.rptr _ _ _ _ _) rfl) ?_ | refine seq_run0 (stp_move (.mp _) rfl) ?_
    refine seq_split (j := 8) rfl rfl (fun h2 => ?_) (fun h2 => ?_) rfl
    · -- guard (8, True): runs
      have qh2 := h2
      try simp at qh2
      first | refine seq_g0 rfl rfl h2 (stp_move (.dat _) rfl) ?_ | refine seq_g0 rfl rfl h2 (stp_move (.ptr _ _) rfl) ?_ | refine seq_g0 rfl rfl h2 (stp_move (.row _ _) rfl) ?_ | refine seq_g0 rfl rfl h2 (stp_move (.rptr _ _ _ _ _) rfl) ?_ | refine seq_g0 rfl rfl h2 (stp_move (.mp _) rfl) ?_
      refine seq_g0 rfl rfl h2 (stp_call (k_gateref2_only _ _ (by first | omega | (simp; omega))) ⟨.inl rfl, .inl rfl, trivial⟩) ?_
      refine seq_run0 (stp_pick_t rfl h2 rfl) ?_
      first | refine seq_run0 (stp_assign (.dat _) rfl) ?_ | refine seq_run0 (stp_assign (.ptr _ _) rfl) ?_ | refine seq_run0 (stp_assign (.row _ _) rfl) ?_ | refine seq_run0 (stp_assign (.rptr _ _ _ _ _) rfl) ?_ | refine seq_run0 (stp_assign (.mp _) rfl) ?_
      refine awp_ret ?_
      exact ⟨trivial, .inl (congrArg vbool (by rw [← keyRef_eq]; first | simp_all [smallsL, keysL] | (simp at *; simp_all [smallsL, keysL]))), trivial⟩
    · -- guard (8, True): is left out
      have qh2 := h2
      try simp at qh2
      refine seq_skip rfl rfl h2 ?_
      refine seq_skip rfl rfl h2 ?_
      refine seq_run0 (stp_pick_f' rfl h2 rfl) ?_
      first | refine seq_run0 (stp_assign (.dat _) rfl) ?_ | refine seq_run0 (stp_assign (.ptr _ _) rfl) ?_ | refine seq_run0 (stp_assign (.row _ _) rfl) ?_ | refine seq_run0 (stp_assign (.rptr _ _ _ _ _) rfl) ?_ | refine seq_run0 (stp_assign (.mp _) rfl) ?_
      refine awp_ret ?_
      exact ⟨trivial, .inl (congrArg vbool (by rw [← keyRef_eq]; first | simp_all [smallsL, keysL] | (simp at *; simp_all [smallsL, keysL]))), trivial⟩
  · -- guard (3, True): is left out
    have qh1 := h1
    try simp at qh1
    refine seq_skip rfl rfl h1 ?_
    refine seq_skip rfl rfl h1 ?_
    refine seq_skip rfl rfl h1 ?_
    refine seq_run0 (stp_pick_f' rfl h1 rfl) ?_
    first | refine seq_run0 (stp_move (.dat _) rfl) ?_ | refine seq_run0 (stp_move (.ptr _ _) rfl) ?_ | refine seq_run0 (stp_move (.row _ _) rfl) ?_ | refine seq_run0 (stp_move (.rptr _ _ _ _ _) rfl) ?_ | refine seq_run0 (stp_move (.mp _) rfl) ?_
    refine seq_skip rfl rfl rfl ?_
    refine seq_skip rfl rfl rfl ?_
    refine seq_run0 (stp_pick_f rfl rfl rfl) ?_
    first | refine seq_run0 (stp_assign (.dat _) rfl) ?_ | refine seq_run0 (stp_assign (.ptr _ _) rfl) ?_ | refine seq_run0 (stp_assign (.row _ _) rfl) ?_ | refine seq_run0 (stp_assign (.rptr _ _ _ _ _) rfl) ?_ | refine seq_run0 (stp_assign (.mp _) rfl) ?_
    refine awp_ret ?_
    exact ⟨trivial, .inl (congrArg vbool (by rw [← keyRef_eq]; first | simp_all [smallsL, keysL] | (simp at *; simp_all [smallsL, keysL]))), trivial⟩
end Go.Proofs.Ytmcegaabopcmfaa
