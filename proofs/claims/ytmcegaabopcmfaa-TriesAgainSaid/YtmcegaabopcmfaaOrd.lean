/- The order of strings: compareBytes is a total order, and Go's own less agrees with it. Plain lemmas. -/
import Derived.Test.YtmcegaabopcmfaaWords
import Derived.Lib.Bytealg
namespace Go.Proofs.Ytmcegaabopcmfaa
open Go.RowKit
abbrev cmpL := Lib.compareBytes
theorem cmp_rng : ∀ a b : List UInt8, cmpL a b = -1 ∨ cmpL a b = 0 ∨ cmpL a b = 1
  | [], [] => .inr (.inl rfl)
  | [], _ :: _ => .inl rfl
  | _ :: _, [] => .inr (.inr rfl)
  | a :: as, b :: bs => by
    simp only [cmpL, Lib.compareBytes]
    split
    · exact .inl rfl
    · split
      · exact .inr (.inr rfl)
      · exact cmp_rng as bs
theorem cmp_swap : ∀ a b : List UInt8, cmpL b a = - cmpL a b
  | [], [] => rfl
  | [], _ :: _ => rfl
  | _ :: _, [] => rfl
  | a :: as, b :: bs => by
    have ih := cmp_swap as bs
    simp only [cmpL, Lib.compareBytes] at ih ⊢
    by_cases h1 : a < b
    · have h2 : ¬ b < a := by rw [UInt8.lt_iff_toNat_lt] at *; omega
      simp [h1, h2]
    · by_cases h2 : b < a
      · simp [h1, h2]
      · simp [h1, h2]; exact ih
theorem cmp_zero : ∀ a b : List UInt8, cmpL a b = 0 ↔ a = b
  | [], [] => by simp [cmpL, Lib.compareBytes]
  | [], _ :: _ => by simp [cmpL, Lib.compareBytes]
  | _ :: _, [] => by simp [cmpL, Lib.compareBytes]
  | a :: as, b :: bs => by
    have ih := cmp_zero as bs
    simp only [cmpL, Lib.compareBytes] at ih ⊢
    by_cases h1 : a < b
    · have h2 : a ≠ b := by rintro rfl; rw [UInt8.lt_iff_toNat_lt] at h1; omega
      simp [h1, h2]
    · by_cases h2 : b < a
      · have h3 : a ≠ b := by rintro rfl; rw [UInt8.lt_iff_toNat_lt] at h2; omega
        simp [h1, h2, h3]
      · have h3 : a = b := by
          rw [UInt8.lt_iff_toNat_lt] at h1 h2
          exact UInt8.toNat_inj.1 (by omega)
        subst h3
        rw [if_neg h1, if_neg h1, ih]
        simp
theorem cmp_trans : ∀ a b c : List UInt8, cmpL a b < 0 → cmpL b c < 0 → cmpL a c < 0
  | _, [], [], _, h => by simp [cmpL, Lib.compareBytes] at h
  | [], [], _ :: _, h, _ => by simp [cmpL, Lib.compareBytes] at h
  | _ :: _, [], _, h, _ => by simp [cmpL, Lib.compareBytes] at h
  | [], _ :: _, [], _, h => by simp [cmpL, Lib.compareBytes] at h
  | [], _ :: _, _ :: _, _, _ => by simp [cmpL, Lib.compareBytes]
  | _ :: _, _ :: _, [], _, h => by simp [cmpL, Lib.compareBytes] at h
  | a :: as, b :: bs, c :: cs, h1, h2 => by
    have ih := cmp_trans as bs cs
    simp only [cmpL, Lib.compareBytes] at ih h1 h2 ⊢
    by_cases ab : a < b
    · by_cases bc : b < c
      · have ac : a < c := by rw [UInt8.lt_iff_toNat_lt] at *; omega
        simp [ac]
      · by_cases cb : c < b
        · simp [bc, cb] at h2
        · have ac : a < c := by rw [UInt8.lt_iff_toNat_lt] at *; omega
          simp [ac]
    · by_cases ba : b < a
      · simp [ab, ba] at h1
      · have e : a = b := by
          rw [UInt8.lt_iff_toNat_lt] at ab ba
          exact UInt8.toNat_inj.1 (by omega)
        subst e
        simp [ab] at h1
        by_cases bc : a < c
        · simp [bc]
        · by_cases cb : c < a
          · simp [bc, cb] at h2
          · simp [bc, cb] at h2 ⊢
            exact ih h1 h2
theorem less_cmp : ∀ a b : List UInt8, Op.bytesLess a b = decide (cmpL a b < 0)
  | [], [] => by simp [Op.bytesLess, cmpL, Lib.compareBytes]
  | [], _ :: _ => by simp [Op.bytesLess, cmpL, Lib.compareBytes]
  | _ :: _, [] => by simp [Op.bytesLess, cmpL, Lib.compareBytes]
  | a :: as, b :: bs => by
    have ih := less_cmp as bs
    simp only [Op.bytesLess, cmpL, Lib.compareBytes] at ih ⊢
    by_cases h1 : a < b
    · simp [h1]
    · by_cases h2 : b < a
      · have : a ≠ b := by rintro rfl; exact h1 h2
        simp [h1, h2, this]
      · have h3 : a = b := by
          rw [UInt8.lt_iff_toNat_lt] at h1 h2
          exact UInt8.toNat_inj.1 (by omega)
        subst h3
        simp [ih]
end Go.Proofs.Ytmcegaabopcmfaa
