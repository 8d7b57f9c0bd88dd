/- Plain: events: their order and their faults: the program and the reference agree. -/
import Derived.Test.YtaolapgdgdmapaaGreatDoorCrZb
namespace Go.Proofs.YtaolapgdgdmapaaGreatDoor
set_option linter.unusedVariables false
set_option linter.unusedSimpArgs false
set_option maxRecDepth 20000
theorem cmpInt_eq (x y : Int) : m_cmp_Compare_int_ x y = some (if x < y then -1 else if y < x then 1 else 0) := by
  unfold m_cmp_Compare_int_ m_cmp_isNaN_int_
  simp only [ne_eq, not_true_eq_false, decide_false, Option.bind_some, Bool.false_eq_true, if_false, decide_eq_true_eq]
  by_cases h1 : x < y
  · rw [if_pos h1, if_pos h1]
  · rw [if_neg h1, if_neg h1]
    by_cases h2 : y < x
    · rw [if_pos h2, if_pos h2]
    · rw [if_neg h2, if_neg h2]
theorem cmpStr_eq (x y : Bs) : m_cmp_Compare_string_ x y = some (cmpL x y) := by
  unfold m_cmp_Compare_string_ m_cmp_isNaN_string_
  simp only [ne_eq, not_true_eq_false, decide_false, Option.bind_some, Bool.false_eq_true, if_false]
  have e1 := less_cmp x y
  have e2 := cmp_zero x y
  rcases cmp_rng x y with h | h | h
  · rw [e1, h]; rfl
  · have : x = y := e2.1 h
    rw [e1, h]; subst this; simp
  · have h3 : x ≠ y := fun h4 => by have := e2.2 h4; omega
    have h4 : (x == y) = false := by simpa using h3
    rw [e1, h, h4]; rfl
def cmp2 (a b c d : Bs) : Int := if cmpL a c ≠ 0 then cmpL a c else cmpL b d
theorem cmpTwo_eq (a b c d : Bs) : m_slices_Compare_L_string_string_ [a, b] [c, d] = some (cmp2 a b c d) := by
  unfold m_slices_Compare_L_string_string_ cmp2
  rw [if_pos (by simp)]
  simp only [forL, slices_Compare_L_string_string__L1, slices_Compare_L_string_string__E1, cmpStr_eq]
  by_cases h1 : cmpL a c = 0
  · by_cases h2 : cmpL b d = 0
    · simp [h1, h2, after]
    · simp [h1, h2, after]
  · simp [h1, after]
theorem orThree_eq (x y z : Int) : m_cmp_Or_int_ [x, y, z] = some (if x ≠ 0 then x else if y ≠ 0 then y else z) := by
  unfold m_cmp_Or_int_
  rw [if_pos (by simp)]
  simp only [forL, cmp_Or_int__L1, cmp_Or_int__E1]
  by_cases h1 : x = 0
  · by_cases h2 : y = 0
    · by_cases h3 : z = 0
      · simp [h1, h2, h3, after]
      · simp [h1, h2, h3, after]
    · simp [h1, h2, after]
  · simp [h1, after]
def or3 (m n : Int) (a b c d : Bs) : Int := if m < n then -1 else if n < m then 1 else cmp2 a b c d
def orE (a b : S_api_Event) : Int := or3 a.At b.At a.App a.Product b.App b.Product
theorem or3_eq (m n : Int) (a b c d : Bs) : ((m_cmp_Compare_int_ m n).bind fun r3 => (m_strings_Compare a c).bind fun r5 => (m_strings_Compare b d).bind fun r7 => (m_cmp_Or_int_ [r3, r5, r7]).bind fun r9 => some r9) = some (or3 m n a b c d) := by
  simp only [cmpInt_eq, m_strings_Compare, Option.bind_some, orThree_eq]
  congr 1
  unfold or3 cmp2
  by_cases h1 : m < n
  · simp [h1]
  · by_cases h2 : n < m
    · simp [h1, h2]
    · simp [h1, h2]
theorem ref3_eq (m n : Int) (a b c d : Bs) (h : -1000000000000000000 ≤ m ∧ m ≤ 1000000000000000000 ∧ -1000000000000000000 ≤ n ∧ n ≤ 1000000000000000000) : (if decide (m ≠ n) then ((m_gateref2_sign (wr (m - n))).bind fun (r4 : Int) => some r4) else ((m_slices_Compare_L_string_string_ [a, b] [c, d]).bind fun (r6 : Int) => some r6)) = some (or3 m n a b c d) := by
  rw [cmpTwo_eq]
  unfold m_gateref2_sign or3
  rw [wr_id (by omega)]
  by_cases h1 : m = n
  · subst h1; simp
  · simp only [ne_eq, h1, not_false_eq_true, decide_true, if_true, decide_eq_true_eq]
    by_cases h2 : m < n
    · have : m - n < 0 := by omega
      simp [h2, this]
    · have h3 : n < m := by omega
      have h4 : ¬ m - n < 0 := by omega
      have h5 : 0 < m - n := by omega
      simp [h2, h3, h4, h5]
theorem cmpEv_eq (a b : S_api_Event) : m_portal_compareEvents a b = some (orE a b) := or3_eq ..
def atB (n : Int) : Prop := -1000000000000000000 ≤ n ∧ n ≤ 1000000000000000000
theorem ordEv_eq (a b : S_api_Event) (ha : atB a.At) (hb : atB b.At) : m_gateref2_EventOrder a b = some (orE a b) := ref3_eq _ _ _ _ _ _ ⟨ha.1, ha.2, hb.1, hb.2⟩
structure EB (x : S_api_Event) : Prop where
  t : atB x.At
  a : x.App.length ≤ 1000000
  p : x.Product.length ≤ 1000000
  l : x.Plan.length ≤ 1000000
def lateE (l : List S_api_Event) (k : Nat) (x : S_api_Event) : Bool := decide (0 < k) && match l[k - 1]? with | some y => decide (0 ≤ orE y x) | none => false
def ev1 (l : List S_api_Event) (k : Nat) (x : S_api_Event) : Int := if momP x.At = false then 1 else if (keyP x.App && keyP x.Product) = false then 5 else if outP x.Kind 1 6 = true then 4 else if (decide (x.Kind = 1) && !keyP x.Plan) = true then 5 else if (decide (x.Kind ≠ 1) && decide (x.Plan ≠ [])) = true then 3 else if lateE l k x = true then 7 else 0
def evF (l : List S_api_Event) : Int := if 1000 < l.length then 2 else feI (ev1 l) 0 l
structure EG (x : S_api_Event) : Prop where
  t : 0 ≤ x.At ∧ x.At ≤ 345686399999
  a : keyP x.App = true
  p : keyP x.Product = true
  k : 1 ≤ x.Kind ∧ x.Kind ≤ 6
  l : x.Plan.length ≤ 40
theorem eqEv_self (a : List S_api_Event) (h : a.length ≤ 1000000000) : m_slices_Equal_L_api_Event_api_Event_ a a = some true :=
  gEql_self (fun (x y : S_api_Event) => !((x.At == y.At) && ((x.App == y.App) && ((x.Product == y.Product) && ((x.Kind == y.Kind) && ((x.Plan == y.Plan) && true)))))) (fun x => by simp) a h
end Go.Proofs.YtaolapgdgdmapaaGreatDoor
