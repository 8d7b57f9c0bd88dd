/- Plain: hosts without a port, and hosts of any kind: the program's and the reference's normal form. -/
import Derived.Test.YtgjfcdcpiamikaaGreatDoorMhYz
import Derived.Test.YtgjfcdcpiamikaaGreatDoorNmYz
import Derived.Test.YtgjfcdcpiamikaaGreatDoorNbYz
import Derived.Test.YtgjfcdcpiamikaaGreatDoorSqYz
namespace Go.Proofs.YtgjfcdcpiamikaaGreatDoor
set_option linter.unusedVariables false
set_option maxRecDepth 20000
def labC (c : UInt8) : Bool := decide (97 ≤ c.toNat ∧ c.toNat ≤ 122) || (decide (65 ≤ c.toNat ∧ c.toNat ≤ 90) || (decide (48 ≤ c.toNat ∧ c.toNat ≤ 57) || decide (c.toNat = 45)))
def labE (l : Bs) : Bool := decide (l ≠ []) && (decide ((l.length : Int) ≤ 63) && (decide (l.head? ≠ some 45) && decide (l.getLast? ≠ some 45)))
def labB (l : Bs) : Bool := l.all labC && labE l
theorem labE_eq (l : Bs) (h : l.length ≤ 1000000000) : message_isLabel_E1 l = some (labE l) := by
  unfold message_isLabel_E1 message_isLabel_J2 labE
  cases l with
  | nil => rfl
  | cons c r =>
    rw [if_pos (by simp)]
    by_cases h63 : ((c :: r).length : Int) ≤ 63
    · rw [if_pos (by simpa using h63)]
      simp only [List.getElem?_cons_zero, Option.bind_some]
      have hw : wr (((c :: r).length : Int) - 1) = (r.length : Int) := by
        simp only [List.length_cons] at h ⊢
        rw [wr_id (by omega)]; omega
      have hat : at? (c :: r) (r.length : Int) = some ((c :: r).getLast (by simp)) := by
        rw [at_nat, List.getLast_eq_getElem]
        simp
      rw [hw, hat]
      simp only [Option.bind_some]
      have e1 : decide ((c.toNat : Int) ≠ 45) = decide ((c :: r).head? ≠ some 45) := by
        refine decide_eq_decide.2 ⟨fun h1 h2 => h1 ?_, fun h1 h2 => h1 ?_⟩
        · have : c = 45 := by simpa using h2
          rw [this]; rfl
        · have : c = 45 := UInt8.toNat_inj.1 (by simp; omega)
          rw [this]; rfl
      have e2 : decide ((((c :: r).getLast (by simp)).toNat : Int) ≠ 45) = decide ((c :: r).getLast? ≠ some 45) := by
        rw [List.getLast?_eq_some_getLast (by simp)]
        refine decide_eq_decide.2 ⟨fun h1 h2 => h1 ?_, fun h1 h2 => h1 ?_⟩
        · have : (c :: r).getLast (by simp) = 45 := Option.some.inj h2
          rw [this]; rfl
        · have : (c :: r).getLast (by simp) = 45 := UInt8.toNat_inj.1 (by simp; omega)
          rw [this]
      rw [e1, e2]
      have e3 : decide (((c :: r).length : Int) ≤ 63) = true := by simpa using h63
      rw [e3]
      have e4 : decide (c :: r ≠ []) = true := by simp
      rw [e4]
      cases decide ((c :: r).head? ≠ some 45) <;> simp
    · rw [if_neg (by simpa using h63)]
      have e3 : decide (((c :: r).length : Int) ≤ 63) = false := by simpa using h63
      rw [e3]
      simp
theorem isLabel_eq (l : Bs) (h : l.length ≤ 1000000000) : m_message_isLabel l = some (labB l) := by
  have hb : ∀ (j : Nat) (x : UInt8), message_isLabel_L1 j x = if labC x then some (.inl ()) else some (.inr false) := fun j x => by
    have := u8_all (fun x => decide (message_isLabel_L1 0 x = if labC x then some (.inl ()) else some (.inr false))) (by decide +kernel) x
    exact of_decide_eq_true this
  unfold m_message_isLabel
  rw [if_pos h, forL_all (p := fun _ c => labC c) (r0 := false) (e := labE l) (labE_eq l h) l 0 (fun j x _ _ => hb j x), allI_all]
  unfold labB
  cases l.all labC <;> simp
theorem trLR (x : Bs) (hx : x ≠ []) : decide (trL 45 (trR 45 x) ≠ x) = !(decide (x.head? ≠ some 45) && decide (x.getLast? ≠ some 45)) := by
  obtain ⟨l, b, rfl⟩ : ∃ l b, x = l ++ [b] := ⟨x.dropLast, x.getLast hx, (List.dropLast_concat_getLast hx).symm⟩
  have hl : (l ++ [b]).getLast? = some b := by simp
  rw [trR_snoc, hl]
  by_cases hb : b = 45
  · rw [if_pos hb]
    have h1 := trR_len 45 l
    have h2 : (trL 45 (trR 45 l)).length ≤ (trR 45 l).length := (List.dropWhile_sublist _).length_le
    have h3 : trL 45 (trR 45 l) ≠ l ++ [b] := fun h => by
      have := congrArg List.length h
      simp at this; omega
    rw [decide_eq_true h3]
    simp [hb]
  · rw [if_neg hb]
    cases l with
    | nil =>
      have : trL 45 ([] ++ [b]) = [b] := by
        unfold trL
        rw [List.nil_append, List.dropWhile_cons, if_neg (by simpa using hb)]
      rw [this]
      simp [hb]
    | cons c r =>
      unfold trL
      rw [List.cons_append, List.dropWhile_cons]
      by_cases hc : c = 45
      · have h2 : (List.dropWhile (· == (45 : UInt8)) (r ++ [b])).length ≤ (r ++ [b]).length := (List.dropWhile_sublist _).length_le
        rw [if_pos (by simpa using hc)]
        have h3 : List.dropWhile (· == (45 : UInt8)) (r ++ [b]) ≠ c :: (r ++ [b]) := fun h => by
          have := congrArg List.length h
          simp only [List.length_cons] at this
          omega
        rw [decide_eq_true h3]
        simp [hc]
      · rw [if_neg (by simpa using hc)]
        simp [hc, hb]
theorem refLabel_eq (k : Nat) (x : Bs) (h : x.length ≤ 1000000000) : gateref2_HostOf_L2 k x = if labB x then some (.inl ()) else some (.inr ([], 3)) := by
  rw [hostL2_eq k x h]
  unfold hostL2 gateref2_HostOf_J4
  rw [in_eq, only_eq _ _ h]
  simp only [Option.bind_some, Bool.not_not]
  have hc : ∀ c : UInt8, ([97, 98, 99, 100, 101, 102, 103, 104, 105, 106, 107, 108, 109, 110, 111, 112, 113, 114, 115, 116, 117, 118, 119, 120, 121, 122, 65, 66, 67, 68, 69, 70, 71, 72, 73, 74, 75, 76, 77, 78, 79, 80, 81, 82, 83, 84, 85, 86, 87, 88, 89, 90, 48, 49, 50, 51, 52, 53, 54, 55, 56, 57, 45] : Bs).contains c = labC c := fun c => by
    have := u8_all (fun c => ([97, 98, 99, 100, 101, 102, 103, 104, 105, 106, 107, 108, 109, 110, 111, 112, 113, 114, 115, 116, 117, 118, 119, 120, 121, 122, 65, 66, 67, 68, 69, 70, 71, 72, 73, 74, 75, 76, 77, 78, 79, 80, 81, 82, 83, 84, 85, 86, 87, 88, 89, 90, 48, 49, 50, 51, 52, 53, 54, 55, 56, 57, 45] : Bs).contains c == labC c) (by decide +kernel) c
    simpa using this
  have ha : (x.all fun c => ([97, 98, 99, 100, 101, 102, 103, 104, 105, 106, 107, 108, 109, 110, 111, 112, 113, 114, 115, 116, 117, 118, 119, 120, 121, 122, 65, 66, 67, 68, 69, 70, 71, 72, 73, 74, 75, 76, 77, 78, 79, 80, 81, 82, 83, 84, 85, 86, 87, 88, 89, 90, 48, 49, 50, 51, 52, 53, 54, 55, 56, 57, 45] : Bs).contains c) = x.all labC := by
    congr 1; funext c; exact hc c
  rw [ha]
  unfold labB labE
  by_cases h0 : x = []
  · subst h0; rfl
  have h1 : 1 ≤ x.length := by cases x with | nil => exact absurd rfl h0 | cons _ _ => simp
  have ho : outP (x.length : Int) 1 63 = !decide ((x.length : Int) ≤ 63) := by
    rw [outP_in, show decide ((1 : Int) ≤ (x.length : Int)) = true from by simp; omega, Bool.true_and]
  rw [ho, trLR x h0, show decide (x ≠ []) = true from by simpa using h0]
  cases decide ((x.length : Int) ≤ 63)
  · simp
  · cases x.all labC
    · simp
    · cases decide (x.head? ≠ some 45) <;> cases decide (x.getLast? ≠ some 45) <;> simp
/-- hosts of any kind are dealt with -/
theorem isHost_any (d : Bs) (h : d.length ≤ 100000) : ∃ b, m_message_isHost d = some b ∧ ((58 : UInt8) ∉ d → b = ((spl 46 d).all labB && decide ((d.length : Int) ≤ 255))) := by
  have h1 := cutb_len d 58
  have hc := cut1_len d 58
  have h2 := spl_len 46 (Lib.cut d [58]).1
  have hk : m_kit_Number (Lib.cut d [58]).2.1 9 = some (if okN 9 (Lib.cut d [58]).2.1 then valB (Lib.cut d [58]).2.1 else 0, okN 9 (Lib.cut d [58]).2.1) := kit_number (Lib.cut d [58]).2.1 9 (by omega) (by omega)
  have hE : ∃ e, message_isHost_E1 d (Lib.cut d [58]) = some e ∧ ((58 : UInt8) ∉ d → e = decide ((d.length : Int) ≤ 255)) := by
    unfold message_isHost_E1 m_kit_Small message_isHost_J2
    rw [hk]
    simp only [Option.bind_some]
    by_cases hl : (d.length : Int) ≤ 255
    · rw [if_pos (by simpa using hl)]
      cases h3 : (Lib.cut d [58]).2.2
      · exact ⟨true, by simp, fun _ => by simpa using hl⟩
      · have hno : ¬ (58 : UInt8) ∉ d := fun hn => by rw [cut_no 58 d hn] at h3; cases h3
        simp only [Bool.not_true, Bool.false_eq_true, if_false]
        cases okN 9 (Lib.cut d [58]).2.1
        · exact ⟨false, by simp, fun hn => absurd hn hno⟩
        · simp only [if_true, out_eq, Option.bind_some]
          exact ⟨_, rfl, fun hn => absurd hn hno⟩
    · rw [if_neg (by simpa using hl)]
      exact ⟨false, rfl, fun _ => by simpa using hl⟩
  obtain ⟨e, e1, e2⟩ := hE
  unfold m_message_isHost m_strings_Cut m_strings_Split
  rw [if_pos (by omega)]
  simp only [Option.bind_some]
  rw [if_pos ⟨by omega, by simp⟩, splitL_one]
  simp only [Option.bind_some]
  rw [if_pos (by omega), forL_all (p := fun _ x => labB x) (r0 := false) (e := e) e1 _ 0 (fun j x _ hx => by
    have := spl_piece 46 _ x (List.mem_of_getElem? hx)
    unfold message_isHost_L1
    rw [isLabel_eq x (by omega)]
    simp only [Option.bind_some]
    cases labB x <;> simp), allI_all]
  refine ⟨_, rfl, fun hn => ?_⟩
  rw [e2 hn, cut_no 58 d hn]
  cases (spl 46 d).all labB <;> simp
theorem lo_mem58 (d : Bs) (h : (58 : UInt8) ∉ d) : (58 : UInt8) ∉ lo d := by
  intro hm
  unfold lo Lib.toLowerA at hm
  obtain ⟨c, hc, he⟩ := List.mem_map.1 hm
  have := u8_all (fun c => !(Lib.lowerB c == 58) || c == 58) (by decide +kernel) c
  rw [he] at this
  have hc58 : c = 58 := by simpa using this
  exact h (hc58 ▸ hc)
theorem lo_len (d : Bs) : (lo d).length = d.length := by simp [lo, Lib.toLowerA]
theorem hostOf_any (d : Bs) (h : d.length ≤ 100000) (ha : ascB d = true) : ∃ r, m_gateref2_HostOf d = some r ∧ ((58 : UInt8) ∉ d → r = if ((spl 46 d).all labB && decide ((d.length : Int) ≤ 255)) then (lo d, 0) else ([], 3)) := by
  have h1 := cutb_len d 58
  have hc := cut1_len d 58
  have h2 := spl_len 46 (Lib.cut d [58]).1
  have hap : ascB (Lib.cut d [58]).1 = true := asc_mem ha hc.2.2.1
  obtain ⟨w, w1, _⟩ := ref_number (Lib.cut d [58]).2.1 5 (by omega) (by omega)
  have hE : ∀ v : Int × Bool, ∃ e, gateref2_HostOf_E2 (Lib.cut d [58]) v = some e ∧ ((58 : UInt8) ∉ d → e = (lo d, 0)) := by
    intro v
    have hl := lo_len (Lib.cut d [58]).1
    unfold gateref2_HostOf_E2 m_strings_ToLower gateref2_HostOf_J3
    rw [if_pos ⟨by omega, hap⟩]
    simp only [Option.bind_some]
    have hll : (Lib.toLowerA (Lib.cut d [58]).1).length = (Lib.cut d [58]).1.length := hl
    split
    · rename_i h3
      have hno : ¬ (58 : UInt8) ∉ d := fun hn => by rw [cut_no 58 d hn] at h3; simp at h3
      have h21 := hc.2.1
      rw [if_pos (by simp; omega), if_pos (by simp; omega)]
      exact ⟨_, rfl, fun hn => absurd hn hno⟩
    · exact ⟨_, rfl, fun hn => by rw [cut_no 58 d hn]⟩
  have hF : ∀ v : Int × Bool, ∃ r, gateref2_HostOf_J1 (Lib.cut d [58]) v false = some r ∧ ((58 : UInt8) ∉ d → r = if (spl 46 d).all labB then (lo d, 0) else ([], 3)) := by
    intro v
    obtain ⟨e, e1, e2⟩ := hE v
    unfold gateref2_HostOf_J1 m_strings_Split
    rw [if_neg (by simp), if_pos ⟨by omega, by simp⟩, splitL_one]
    simp only [Option.bind_some]
    rw [if_pos (by omega), forL_all (p := fun _ x => labB x) (r0 := ([], 3)) (e := e) e1 _ 0 (fun j x _ hx => by
      have := spl_piece 46 _ x (List.mem_of_getElem? hx)
      exact refLabel_eq j x (by omega)), allI_all]
    refine ⟨_, rfl, fun hn => ?_⟩
    rw [e2 hn, cut_no 58 d hn]
  have hT : ∀ v : Int × Bool, gateref2_HostOf_J1 (Lib.cut d [58]) v true = some ([], 3) := fun v => rfl
  unfold m_gateref2_HostOf m_strings_Cut
  rw [if_pos (by omega)]
  simp only [Option.bind_some]
  show ∃ r, ((m_gateref2_Number (Lib.cut d [58]).2.1 ((5 : Nat) : Int)).bind _) = some r ∧ _
  rw [w1]
  simp only [Option.bind_some]
  by_cases hl : 255 < (d.length : Int)
  · rw [if_pos (by simpa using hl), hT]
    refine ⟨_, rfl, fun hn => ?_⟩
    rw [show decide ((d.length : Int) ≤ 255) = false from by simp; omega]
    simp
  · rw [if_neg (by simpa using hl)]
    have hl2 : decide ((d.length : Int) ≤ 255) = true := by simp; omega
    cases h3 : (Lib.cut d [58]).2.2
    · simp only [Bool.false_eq_true, if_false]
      obtain ⟨r, r1, r2⟩ := hF (w, okN 5 (Lib.cut d [58]).2.1)
      exact ⟨r, r1, fun hn => by rw [r2 hn, hl2, Bool.and_true]⟩
    · have hno : ¬ (58 : UInt8) ∉ d := fun hn => by rw [cut_no 58 d hn] at h3; cases h3
      simp only [if_true]
      cases okN 5 (Lib.cut d [58]).2.1
      · simp only [Bool.not_false, if_true]
        rw [hT]
        exact ⟨_, rfl, fun hn => absurd hn hno⟩
      · simp only [Bool.not_true, Bool.false_eq_true, if_false]
        rw [in_eq]
        simp only [Option.bind_some, Bool.not_not]
        cases outP w 1 65535
        · obtain ⟨r, r1, _⟩ := hF (w, true)
          exact ⟨r, r1, fun hn => absurd hn hno⟩
        · rw [hT]
          exact ⟨_, rfl, fun hn => absurd hn hno⟩
/-- what a cookie's domain must not be -/
def dbB (d : Bs) (r : Bs × Int) : Bool := decide (r.2 ≠ 0) || (decide (r.1 ≠ d) || Lib.contains r.1 [58])
end Go.Proofs.YtgjfcdcpiamikaaGreatDoor
