/- Plain: hosts without a port, and hosts of any kind: the program's and the reference's normal form. -/
import Derived.Test.YthgeeoecgneclaaGreatDoorMhYo
import Derived.Test.YthgeeoecgneclaaGreatDoorNmYo
import Derived.Test.YthgeeoecgneclaaGreatDoorNbYo
import Derived.Test.YthgeeoecgneclaaGreatDoorSqYo
namespace Go.Proofs.YthgeeoecgneclaaGreatDoor
set_option linter.unusedVariables false
set_option maxRecDepth 20000
def labC (c : UInt8) : Bool := decide (97 ≤ c.toNat ∧ c.toNat ≤ 122) || (decide (65 ≤ c.toNat ∧ c.toNat ≤ 90) || (decide (48 ≤ c.toNat ∧ c.toNat ≤ 57) || decide (c.toNat = 45)))
def labE (l : Bs) : Bool := decide (l ≠ []) && (decide ((l.length : Int) ≤ 63) && (decide (l.head? ≠ some 45) && decide (l.getLast? ≠ some 45)))
def labB (l : Bs) : Bool := l.all labC && labE l
theorem trLR (x : Bs) (hx : x ≠ []) : decide (trL 45 (trR 45 x) ≠ x) = !(decide (x.head? ≠ some 45) && decide (x.getLast? ≠ some 45)) := by
  obtain ⟨l, b, rfl⟩ : ∃ l b, x = l ++ [b] := ⟨x.dropLast, x.getLast hx, (List.dropLast_concat_getLast hx).symm⟩
  have hl : (l ++ [b]).getLast? = some b := by simp
  rw [trR_snoc, hl]
  by_cases hb : b = 45
  · rw [if_pos hb]
    have h1 := trR_len 45 l
    have h2 : (trL 45 (trR 45 l)).length ≤ (trR 45 l).length := (List.dropWhile_sublist _).length_le
    have h3 : trL 45 (trR 45 l) ≠ l ++ [b] := fun h => by
      have := congrArg List.length h
      simp at this; omega
    rw [decide_eq_true h3]
    simp [hb]
  · rw [if_neg hb]
    cases l with
    | nil =>
      have : trL 45 ([] ++ [b]) = [b] := by
        unfold trL
        rw [List.nil_append, List.dropWhile_cons, if_neg (by simpa using hb)]
      rw [this]
      simp [hb]
    | cons c r =>
      unfold trL
      rw [List.cons_append, List.dropWhile_cons]
      by_cases hc : c = 45
      · have h2 : (List.dropWhile (· == (45 : UInt8)) (r ++ [b])).length ≤ (r ++ [b]).length := (List.dropWhile_sublist _).length_le
        rw [if_pos (by simpa using hc)]
        have h3 : List.dropWhile (· == (45 : UInt8)) (r ++ [b]) ≠ c :: (r ++ [b]) := fun h => by
          have := congrArg List.length h
          simp only [List.length_cons] at this
          omega
        rw [decide_eq_true h3]
        simp [hc]
      · rw [if_neg (by simpa using hc)]
        simp [hc, hb]
theorem lo_mem58 (d : Bs) (h : (58 : UInt8) ∉ d) : (58 : UInt8) ∉ lo d := by
  intro hm
  unfold lo Lib.toLowerA at hm
  obtain ⟨c, hc, he⟩ := List.mem_map.1 hm
  have := u8_all (fun c => !(Lib.lowerB c == 58) || c == 58) (by decide +kernel) c
  rw [he] at this
  have hc58 : c = 58 := by simpa using this
  exact h (hc58 ▸ hc)
theorem lo_len (d : Bs) : (lo d).length = d.length := by simp [lo, Lib.toLowerA]
/-- what a cookie's domain must not be -/
def dbB (d : Bs) (r : Bs × Int) : Bool := decide (r.2 ≠ 0) || (decide (r.1 ≠ d) || Lib.contains r.1 [58])
end Go.Proofs.YthgeeoecgneclaaGreatDoor
