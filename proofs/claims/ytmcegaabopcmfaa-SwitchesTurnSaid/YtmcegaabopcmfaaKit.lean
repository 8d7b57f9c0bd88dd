/- Small functions of numbers and strings: Outside, in, IsMoment, Moment, IsKey. Each returns what a plain function says; nothing in memory turns. -/
import Derived.Test.YtmcegaabopcmfaaRows
import Derived.Test.YtmcegaabopcmfaaWords
namespace Go.Proofs.Ytmcegaabopcmfaa
open Go.RowKit
set_option linter.unusedVariables false

def outB (n lo hi : Int) : Bool := decide (n < lo ∨ hi < n)
def inB (n lo hi : Int) : Bool := decide (lo ≤ n ∧ n ≤ hi)
theorem out_in (n lo hi : Int) : outB n lo hi = !inB n lo hi := by
  unfold outB inB
  by_cases h : lo ≤ n ∧ n ≤ hi
  · have : ¬ (n < lo ∨ hi < n) := by omega
    simp [h, this]
  · have : n < lo ∨ hi < n := by omega
    simp [h, this]
theorem inB_t {n lo hi : Int} (h : inB n lo hi = true) : lo ≤ n ∧ n ≤ hi := by simpa [inB] using h
theorem outB_f {n lo hi : Int} (h : outB n lo hi = false) : lo ≤ n ∧ n ≤ hi := by simp [outB] at h; omega

set_option maxHeartbeats 400000 in
theorem outside_any (n lo hi : Int) (w : World) :
    Calls Try.prog 73 #[.int .i64 n, .int .i64 lo, .int .i64 hi] w fun e w' => e = .returned (.bool (outB n lo hi)) ∧ w = w' := by
  by_cases h1 : n < lo
  · have hf : outB n lo hi = true := by simp [outB, h1]
    have HF := Lib.hid hf
    clear hf
    go_enter Try.func73, Try.ntmps73
    go_wp2
    go_ret
    exact ⟨ret_bool HF.out.symm, rfl⟩
  · have hd : decide (n < lo) = false := by simpa using h1
    by_cases h2 : hi < n
    · have hf : outB n lo hi = true := by simp [outB, h2]
      have HF := Lib.hid hf
      clear hf
      go_enter Try.func73, Try.ntmps73
      go_wp2
      go_ret
      exact ⟨ret_bool HF.out.symm, rfl⟩
    · have hf : outB n lo hi = false := by simp [outB]; omega
      have hd2 : decide (hi < n) = false := by simpa using h2
      have HF := Lib.hid hf
      clear hf
      go_enter Try.func73, Try.ntmps73
      go_wp2
      go_ret
      exact ⟨ret_bool HF.out.symm, rfl⟩

set_option maxHeartbeats 400000 in
theorem in_any (n lo hi : Int) (w : World) :
    Calls Try.prog 74 #[.int .i64 n, .int .i64 lo, .int .i64 hi] w fun e w' => e = .returned (.bool (inB n lo hi)) ∧ w = w' := by
  by_cases h1 : lo ≤ n
  · have hd : decide (lo ≤ n) = true := by simpa using h1
    by_cases h2 : n ≤ hi
    · have hf : inB n lo hi = true := by simp [inB, h1, h2]
      have hd2 : decide (n ≤ hi) = true := by simpa using h2
      have HF := Lib.hid hf
      clear hf
      go_enter Try.func74, Try.ntmps74
      go_wp2
      go_ret
      exact ⟨ret_bool HF.out.symm, rfl⟩
    · have hf : inB n lo hi = false := by simp [inB]; omega
      have hd2 : decide (n ≤ hi) = false := by simpa using h2
      have HF := Lib.hid hf
      clear hf
      go_enter Try.func74, Try.ntmps74
      go_wp2
      go_ret
      exact ⟨ret_bool HF.out.symm, rfl⟩
  · have hf : inB n lo hi = false := by simp [inB]; omega
    have hd : decide (lo ≤ n) = false := by simpa using h1
    have HF := Lib.hid hf
    clear hf
    go_enter Try.func74, Try.ntmps74
    go_wp2
    go_ret
    exact ⟨ret_bool HF.out.symm, rfl⟩

def momB (n : Int) : Bool := inB n 0 345686399999
set_option maxHeartbeats 400000 in
theorem moment_any (n : Int) (w : World) :
    Calls Try.prog 96 #[.int .i64 n] w fun e w' => e = .returned (.bool (momB n)) ∧ w = w' := by
  go_enter Try.func96, Try.ntmps96
  go_wp2_with (go_at_call 74; refine (in_any _ _ _ _).mono ?_; rintro e w' ⟨rfl, rfl⟩)
  go_ret
  exact ⟨rfl, rfl⟩
set_option maxHeartbeats 400000 in
theorem isMoment_any (n : Int) (w : World) :
    Calls Try.prog 93 #[.int .i64 n] w fun e w' => e = .returned (.bool (momB n)) ∧ w = w' := by
  by_cases h1 : 0 ≤ n
  · have hd : decide (0 ≤ n) = true := by simpa using h1
    by_cases h2 : n < 345686400000
    · have hf : momB n = true := by simp [momB, inB]; omega
      have hd2 : decide (n < 345686400000) = true := by simpa using h2
      have HF := Lib.hid hf
      clear hf
      go_enter Try.func93, Try.ntmps93
      go_wp2
      go_ret
      exact ⟨ret_bool HF.out.symm, rfl⟩
    · have hf : momB n = false := by simp [momB, inB]; omega
      have hd2 : decide (n < 345686400000) = false := by simpa using h2
      have HF := Lib.hid hf
      clear hf
      go_enter Try.func93, Try.ntmps93
      go_wp2
      go_ret
      exact ⟨ret_bool HF.out.symm, rfl⟩
  · have hf : momB n = false := by simp [momB, inB]; omega
    have hd : decide (0 ≤ n) = false := by simpa using h1
    have HF := Lib.hid hf
    clear hf
    go_enter Try.func93, Try.ntmps93
    go_wp2
    go_ret
    exact ⟨ret_bool HF.out.symm, rfl⟩

def keyAt (i : Nat) (c : UInt8) : Bool := decide ((97 ≤ (c.toNat : Int) ∧ (c.toNat : Int) ≤ 122) ∨ (0 < i ∧ ((48 ≤ (c.toNat : Int) ∧ (c.toNat : Int) ≤ 57) ∨ (c.toNat : Int) = 45 ∨ (c.toNat : Int) = 95)))
def keyUp (s : List UInt8) (k : Nat) : Bool := (List.range k).all fun j => keyAt j (s.getD j 0)
def keyB (s : List UInt8) : Bool := keyUp s s.length && !s.isEmpty && decide ((s.length : Int) ≤ 40)
theorem keyUp_succ (s : List UInt8) (k : Nat) : keyUp s (k + 1) = (keyUp s k && keyAt k (s.getD k 0)) := by
  unfold keyUp; rw [List.range_succ, List.all_append]; simp

set_option maxHeartbeats 1000000 in
theorem isKey_any (s : ByteArray) (w : World) (hs : s.size ≤ maxLen) :
    Calls Try.prog 92 #[.string s] w fun e w' => e = .returned (.bool (keyB s.data.toList)) ∧ w = w' := by
  unfold maxLen at hs
  go_enter Try.func92, Try.ntmps92
  go_wp2
  go_loop [3] (fun i => ∃ k : Nat, k ≤ s.size ∧ i = .int .i64 k ∧ keyUp s.data.toList k = true) (fun i => s.size - (intOf i).toNat)
  case atStart => exact ⟨0, Nat.zero_le _, rfl, rfl⟩
  case round =>
    obtain ⟨k, hk, rfl, hup⟩ := hrel
    have HU := Lib.hid hup
    clear hup
    by_cases hlt : k < s.size
    · have hsn := keyUp_succ s.data.toList k
      have hgd : s.data.toList.getD k 0 = s[k] := by rw [List.getD_eq_getElem?_getD, List.getElem?_eq_getElem (by simpa using hlt)]; rfl
      rw [hgd, HU.out, Bool.true_and] at hsn
      have hlen : s.data.toList.length = s.size := by simp
      have HN := Lib.hid hsn
      have HG := Lib.hid hgd
      have HL := Lib.hid hlen
      clear hsn hgd hlen
      have hcl : (s[k].toNat : Int) < 45 ∨ (45 ≤ (s[k].toNat : Int) ∧ (s[k].toNat : Int) ≤ 45) ∨ (46 ≤ (s[k].toNat : Int) ∧ (s[k].toNat : Int) ≤ 47) ∨ (48 ≤ (s[k].toNat : Int) ∧ (s[k].toNat : Int) ≤ 57) ∨ (58 ≤ (s[k].toNat : Int) ∧ (s[k].toNat : Int) ≤ 94) ∨ (95 ≤ (s[k].toNat : Int) ∧ (s[k].toNat : Int) ≤ 95) ∨ (96 ≤ (s[k].toNat : Int) ∧ (s[k].toNat : Int) ≤ 96) ∨ (97 ≤ (s[k].toNat : Int) ∧ (s[k].toNat : Int) ≤ 122) ∨ 123 ≤ (s[k].toNat : Int) := by omega
      by_cases hk0 : 0 < k
      all_goals
        rcases hcl with h | ⟨h, h'⟩ | ⟨h, h'⟩ | ⟨h, h'⟩ | ⟨h, h'⟩ | ⟨h, h'⟩ | ⟨h, h'⟩ | ⟨h, h'⟩ | h
        all_goals
          first | (have e45 : ((s[k].toNat : Int) == 45) = true := beq_iff_eq.2 (by omega)) | (have e45 : ((s[k].toNat : Int) == 45) = false := beq_eq_false_iff_ne.2 (by omega))
          first | (have e95 : ((s[k].toNat : Int) == 95) = true := beq_iff_eq.2 (by omega)) | (have e95 : ((s[k].toNat : Int) == 95) = false := beq_eq_false_iff_ne.2 (by omega))
          first | (have d97 : decide (97 ≤ (s[k].toNat : Int)) = true := decide_eq_true (by omega)) | (have d97 : decide (97 ≤ (s[k].toNat : Int)) = false := decide_eq_false (by omega))
          first | (have d122 : decide ((s[k].toNat : Int) ≤ 122) = true := decide_eq_true (by omega)) | (have d122 : decide ((s[k].toNat : Int) ≤ 122) = false := decide_eq_false (by omega))
          first | (have d48 : decide (48 ≤ (s[k].toNat : Int)) = true := decide_eq_true (by omega)) | (have d48 : decide (48 ≤ (s[k].toNat : Int)) = false := decide_eq_false (by omega))
          first | (have d57 : decide ((s[k].toNat : Int) ≤ 57) = true := decide_eq_true (by omega)) | (have d57 : decide ((s[k].toNat : Int) ≤ 57) = false := decide_eq_false (by omega))
          first
          | (have hky : keyAt k s[k] = true := by unfold keyAt; exact decide_eq_true (by omega)
             rw [hky] at HN
             clear hky
             go_wp2
             go_round
             case rel => exact ⟨k + 1, by omega, by go_num, HN.out⟩
             case measure => simp [intOf]; omega)
          | (have hky : keyAt k s[k] = false := by unfold keyAt; exact decide_eq_false (by omega)
             have hfin : keyB s.data.toList = false := by
               unfold keyB
               have : keyUp s.data.toList s.data.toList.length = false := by
                 unfold keyUp
                 rw [List.all_eq_false]
                 exact ⟨k, by rw [List.mem_range, HL.out]; exact hlt, by rw [HG.out, hky]; simp⟩
               rw [this]; rfl
             have HF := Lib.hid hfin
             clear hky hfin
             go_wp2
             go_ret
             exact ⟨ret_bool HF.out.symm, rfl⟩)
    · have hkk : k = s.size := by omega
      have hfin : keyB s.data.toList = (!s.data.toList.isEmpty && decide ((s.size : Int) ≤ 40)) := by
        unfold keyB
        have e1 : s.data.toList.length = s.size := by simp
        rw [e1, ← hkk, HU.out, Bool.true_and]
      have HF := Lib.hid hfin
      clear hfin hkk
      rcases Nat.eq_zero_or_pos s.size with h0 | h0
      · have he : s.toList = [] := by
          rw [toList_dat]
          exact List.eq_nil_of_length_eq_zero (by simpa using h0)
        have he2 : s.data.toList = [] := by rw [← toList_dat]; exact he
        have HE := Lib.hid he2
        clear he2 h0
        go_wp2
        go_ret
        exact ⟨ret_bool (by rw [HF.out, HE.out]; rfl), rfl⟩
      · have he : ¬ s.toList = [] := by
          rw [toList_dat]
          intro h
          have e1 : s.data.toList.length = s.size := by simp
          rw [h] at e1
          simp only [List.length_nil] at e1
          omega
        have he2 : s.data.toList.isEmpty = false := by rw [← toList_dat]; simpa using he
        have HE := Lib.hid he2
        clear he2
        go_wp2
        go_ret
        exact ⟨ret_bool (by rw [HF.out, toList_dat]), rfl⟩
end Go.Proofs.Ytmcegaabopcmfaa
