/- Plain: the law TagsMatch is true for every list of numbers. -/
import Derived.Test.YtbicifgfibafmaaGreatDoorCqYp
namespace Go.Proofs.YtbicifgfibafmaaGreatDoor
set_option linter.unusedVariables false
set_option maxRecDepth 20000
/-- tags -/
def qB (c : UInt8) : Bool := !(decide ((c.toNat : Int) < 33) || (decide (126 < (c.toNat : Int)) || (decide ((c.toNat : Int) = 34) || decide ((c.toNat : Int) = 44))))
def uB (s : Bs) : Bs := Lib.trimPrefix s [87, 47]
def inB : Bs → Option Bs
  | 34 :: r => if r.getLast? = some 34 then some r.dropLast else none
  | _ => none
def okB (s : Bs) : Bool := match inB (uB s) with
  | some m => m.all qB
  | none => false
def mB (s : Bs) : Bs := match inB (uB s) with
  | some m => m
  | none => []
theorem uB_len (s : Bs) : (uB s).length ≤ s.length := by
  unfold uB Lib.trimPrefix
  split
  · simp
  · exact Nat.le_refl _
theorem okB_u {s : Bs} (h : okB s = true) : uB s = 34 :: (mB s ++ [34]) := by
  unfold okB at h
  unfold mB
  cases hi : inB (uB s) with
  | none => rw [hi] at h; cases h
  | some m =>
    rw [hi] at h
    show uB s = 34 :: (m ++ [34])
    cases hu : uB s with
    | nil => rw [hu] at hi; cases hi
    | cons a r =>
      rw [hu] at hi
      unfold inB at hi
      split at hi
      · rename_i r' heq
        cases heq
        split at hi
        · rename_i hl
          cases hi
          have : r ≠ [] := by rintro rfl; cases hl
          rw [List.getLast?_eq_some_getLast this] at hl
          have h2 : r.getLast this = 34 := Option.some.inj hl
          have h3 := List.dropLast_concat_getLast this
          rw [h2] at h3
          rw [h3]
        · cases hi
      · cases hi
theorem inB_form (a b : UInt8) (m : Bs) : inB (a :: (m ++ [b])) = if a = 34 ∧ b = 34 then some m else none := by
  by_cases ha : a = 34
  · subst ha
    unfold inB
    simp only [List.getLast?_append, List.getLast?_singleton, Option.some_or]
    by_cases hb : b = 34
    · simp [hb]
    · simp [hb]
  · have : inB (a :: (m ++ [b])) = none := by
      unfold inB
      split
      · rename_i heq; exact absurd (List.cons.inj heq).1 ha
      · rfl
    rw [this, if_neg (by simp [ha])]
theorem opL2 (m : Bs) (h : m.length ≤ 1000000) : (if m.length ≤ 1000000000 then forL (fun (k : Nat) (x : UInt8) (s : Unit) => cache_opaque_L2 k x) (fun (s : Unit) => cache_opaque_E2 m) 0 m () else none) = some (if m.all qB then (m, true) else ([], false)) := by
  rw [if_pos (by omega), forL_all (p := fun _ c => qB c) (e := (m, true)) (r0 := ([], false)) rfl m 0 (fun j x _ _ => ?_), allI_all]
  have := u8_all (fun x => decide (cache_opaque_L2 0 x = if qB x then some (.inl ()) else some (.inr ([], false)))) (by decide +kernel) x
  exact of_decide_eq_true this
theorem at_last (a b : UInt8) (m : Bs) (h : m.length ≤ 1000000) : at? (a :: (m ++ [b])) (wr (((a :: (m ++ [b])).length : Int) - 1)) = some b := by
  have e : wr (((a :: (m ++ [b])).length : Int) - 1) = ((m.length + 1 : Nat) : Int) := by
    simp only [List.length_cons, List.length_append, List.length_nil]
    rw [wr_id (by omega)]; omega
  rw [e, at_nat]
  simp
theorem sub_mid (a b : UInt8) (m : Bs) (h : m.length ≤ 1000000) : sub? (a :: (m ++ [b])) 1 (wr (((a :: (m ++ [b])).length : Int) - 1)) = some m := by
  have e : wr (((a :: (m ++ [b])).length : Int) - 1) = ((m.length + 1 : Nat) : Int) := by
    simp only [List.length_cons, List.length_append, List.length_nil]
    rw [wr_id (by omega)]; omega
  rw [e]
  unfold sub?
  rw [if_pos (by simp only [List.length_cons, List.length_append, List.length_nil]; omega)]
  simp
theorem tag_ok (m : Bs) : (rgB m 33 126 && !m.any ([34, 44] : Bs).contains) = m.all qB := by
  induction m with
  | nil => rfl
  | cons c m ih =>
    rw [List.all_cons, List.any_cons, ← ih]
    have : rgB (c :: m) 33 126 = (!outP (c.toNat : Int) 33 126 && rgB m 33 126) := rfl
    rw [this]
    have hc := u8_all (fun c => qB c == (!outP (c.toNat : Int) 33 126 && !([34, 44] : Bs).contains c)) (by decide +kernel) c
    have hc : qB c = (!outP (c.toNat : Int) 33 126 && !([34, 44] : Bs).contains c) := by simpa using hc
    rw [hc]
    cases outP (c.toNat : Int) 33 126 <;> cases ([34, 44] : Bs).contains c <;> simp
theorem opaque_eq (s : Bs) (h : s.length ≤ 1000000) : m_cache_opaque s = some (if okB s then (mB s, true) else ([], false)) := by
  have hul := uB_len s
  have hT : ∀ r, cache_opaque_J1 r true = some ([], false) := fun r => rfl
  unfold m_cache_opaque m_strings_TrimPrefix
  simp only [Option.bind_some]
  show (if decide (((uB s).length : Int) < 2) then (cache_opaque_J1 (uB s) true) else (((uB s)[0]?).bind fun (x6 : UInt8) => if decide ((x6.toNat : Int) ≠ 34) then (cache_opaque_J1 (uB s) true) else ((at? (uB s) (wr (((uB s).length : Int) - 1))).bind fun (x10 : UInt8) => cache_opaque_J1 (uB s) (decide ((x10.toNat : Int) ≠ 34))))) = _
  unfold okB mB
  cases hu : uB s with
  | nil => rw [if_pos (by simp), hT]; rfl
  | cons a r =>
    rw [hu] at hul
    rcases List.eq_nil_or_concat r with rfl | ⟨m, b, rfl⟩
    · rw [if_pos (by simp), hT]
      have : inB [a] = none := by
        unfold inB
        split
        · rename_i heq; cases heq; rfl
        · rfl
      rw [this]; rfl
    · simp only [List.length_cons, List.length_append, List.length_nil, List.concat_eq_append] at hul ⊢
      rw [if_neg (by simp; omega), inB_form]
      show ((a :: (m ++ [b]))[0]?).bind _ = _
      simp only [List.getElem?_cons_zero, Option.bind_some]
      by_cases ha : a = 34
      · rw [if_neg (by simp [ha])]
        have h1 := at_last a b m (by omega)
        simp only [List.length_cons, List.length_append, List.length_nil] at h1
        rw [h1]
        simp only [Option.bind_some]
        by_cases hb : b = 34
        · rw [show decide ((b.toNat : Int) ≠ 34) = false by rw [hb]; decide, if_pos (show a = 34 ∧ b = 34 from ⟨ha, hb⟩)]
          unfold cache_opaque_J1
          rw [if_neg (by simp), sub_mid a b m (by omega)]
          simp only [Option.bind_some]
          exact opL2 m (by omega)
        · have hbn : ¬ (b.toNat : Int) = 34 := fun h => hb (UInt8.toNat_inj.1 (by simp; omega))
          rw [show decide ((b.toNat : Int) ≠ 34) = true by simpa using hbn, hT, if_neg (show ¬ (a = 34 ∧ b = 34) by simp [hb])]; rfl
      · have han : ¬ (a.toNat : Int) = 34 := fun h => ha (UInt8.toNat_inj.1 (by simp; omega))
        rw [if_pos (by simpa using han), hT, if_neg (show ¬ (a = 34 ∧ b = 34) by simp [ha])]; rfl
theorem tagOf_eq (s : Bs) (h : s.length ≤ 1000000) : m_gateref2_tagOf s = some (uB s, okB s) := by
  have hul := uB_len s
  have hF : ∀ r v, gateref2_tagOf_J1 r v = some (r, v) := fun r v => rfl
  unfold m_gateref2_tagOf m_strings_TrimPrefix
  simp only [Option.bind_some]
  unfold okB
  show (if decide (2 ≤ ((uB s).length : Int)) then (((uB s)[0]?).bind fun (x6 : UInt8) => if decide ((x6.toNat : Int) = 34) then ((at? (uB s) (wr (((uB s).length : Int) - 1))).bind fun (x10 : UInt8) => if decide ((x10.toNat : Int) = 34) then ((m_gateref2_visible (uB s) 33).bind fun (r14 : (Bool)) => if r14 then ((sub? (uB s) 1 (wr (((uB s).length : Int) - 1))).bind fun (l18 : Bs) => (m_strings_ContainsAny l18 [34, 44]).bind fun (r20 : (Bool)) => gateref2_tagOf_J1 (uB s) (!r20)) else (gateref2_tagOf_J1 (uB s) false)) else (gateref2_tagOf_J1 (uB s) false)) else (gateref2_tagOf_J1 (uB s) false)) else (gateref2_tagOf_J1 (uB s) false)) = _
  cases hu : uB s with
  | nil => rw [if_neg (by simp)]; rfl
  | cons a r =>
    rw [hu] at hul
    rcases List.eq_nil_or_concat r with rfl | ⟨m, b, rfl⟩
    · rw [if_neg (by simp), hF]
      have : inB [a] = none := by
        unfold inB
        split
        · rename_i heq; cases heq; rfl
        · rfl
      rw [this]
    · simp only [List.concat_eq_append] at hul ⊢
      have hl : m.length + 2 ≤ s.length := by simpa using hul
      rw [if_pos (by simp; omega), inB_form]
      simp only [List.getElem?_cons_zero, Option.bind_some]
      by_cases ha : a = 34
      · rw [if_pos (by simp [ha]), at_last a b m (by omega)]
        simp only [Option.bind_some]
        by_cases hb : b = 34
        · rw [if_pos (by simp [hb]), if_pos (show a = 34 ∧ b = 34 from ⟨ha, hb⟩), visible_eq, isRange_eq _ _ _ (by simp; omega)]
          simp only [Option.bind_some]
          have hr : rgB (a :: (m ++ [b])) 33 126 = rgB m 33 126 := by
            unfold rgB
            rw [List.all_cons, List.all_append, ha, hb]
            simp [outP]
          rw [hr]
          show _ = some (_, m.all qB)
          rw [← tag_ok m]
          cases hv : rgB m 33 126
          · simp only [Bool.false_eq_true, if_false, Bool.false_and]; exact hF _ _
          · simp only [if_true, Bool.true_and]
            rw [sub_mid a b m (by omega)]
            simp only [Option.bind_some]
            unfold m_strings_ContainsAny
            rw [if_pos ⟨⟨by omega, by simp⟩, rg_asc hv, rfl⟩, any_eq]
            exact hF _ _
        · have hbn : ¬ (b.toNat : Int) = 34 := fun h => hb (UInt8.toNat_inj.1 (by simp; omega))
          rw [if_neg (by simpa using hbn), if_neg (show ¬ (a = 34 ∧ b = 34) by simp [hb])]; exact hF _ _
      · have han : ¬ (a.toNat : Int) = 34 := fun h => ha (UInt8.toNat_inj.1 (by simp; omega))
        rw [if_neg (by simpa using han), if_neg (show ¬ (a = 34 ∧ b = 34) by simp [ha])]; exact hF _ _
/-- does a header have a tag? -/
abbrev tr32 (x : Bs) : Bs := trL 32 (trR 32 x)
theorem tr_len (x : Bs) : (tr32 x).length ≤ x.length := (trim_mem 32 x).1
theorem mtL (r3 : Bs × Bool) : ∀ (l : List Bs) (k : Nat) (f : Bool), (∀ x, x ∈ l → x.length ≤ 200000) →
    forL (fun (k : Nat) (x : Bs) (s : Bool) => cache_Matches_L1 r3 k x s) (fun (s : Bool) => cache_Matches_E1 s) k l f = some (if l.all (fun x => okB (tr32 x)) then (f || l.any (fun x => decide (mB (tr32 x) = r3.1)), 0) else (false, 9))
  | [], k, f, _ => by show some (f, (0 : Int)) = _; simp
  | x :: l, k, f, h => by
    have hx := h x (by simp)
    have ht : (trL 32 (trR 32 x)).length ≤ x.length := tr_len x
    have hst : cache_Matches_L1 r3 k x f = if okB (tr32 x) then some (.inl (f || decide (mB (tr32 x) = r3.1))) else some (.inr (false, 9)) := by
      unfold cache_Matches_L1
      rw [trim_eq 32 (by decide) x (by omega)]
      simp only [Option.bind_some]
      rw [opaque_eq _ (show (trL 32 (trR 32 x)).length ≤ 1000000 by omega)]
      cases okB (trL 32 (trR 32 x)) <;> rfl
    show (cache_Matches_L1 r3 k x f).bind _ = _
    rw [hst, List.all_cons, List.any_cons]
    cases okB (tr32 x)
    · rfl
    · simp only [if_true, Bool.true_and]
      refine Eq.trans (mtL r3 l (k + 1) (f || decide (mB (tr32 x) = r3.1)) fun y hy => h y (List.mem_cons_of_mem _ hy)) ?_
      rw [Bool.or_assoc]
theorem refL (hd : Bs) (r3 : Bs × Bool) : ∀ (l : List Bs) (k : Nat) (ok : Bool) (q : List Bs), (∀ x, x ∈ l → x.length ≤ 200000) → q.length + l.length ≤ 100000000 →
    forL (fun (k : Nat) (x : Bs) (s : Bool × (List Bs)) => gateref2_MatchesOf_L2 k x s.1 s.2) (fun (s : Bool × (List Bs)) => gateref2_MatchesOf_E2 hd r3 s.1 s.2) k l (ok, q) = gateref2_MatchesOf_J1 hd r3 (ok && l.all fun x => okB (tr32 x)) (q ++ l.map fun x => uB (tr32 x))
  | [], k, ok, q, _, _ => by
    show gateref2_MatchesOf_E2 hd r3 ok q = _
    unfold gateref2_MatchesOf_E2
    simp
  | x :: l, k, ok, q, h, hl => by
    have hx := h x (by simp)
    have ht : (trL 32 (trR 32 x)).length ≤ x.length := tr_len x
    simp only [List.length_cons] at hl
    have hst : gateref2_MatchesOf_L2 k x ok q = some (.inl (ok && okB (tr32 x), q ++ [uB (tr32 x)])) := by
      unfold gateref2_MatchesOf_L2
      rw [trim_eq 32 (by decide) x (by omega)]
      simp only [Option.bind_some]
      rw [tagOf_eq _ (show (trL 32 (trR 32 x)).length ≤ 1000000 by omega)]
      simp only [Option.bind_some]
      rw [if_pos (by omega)]
    show (gateref2_MatchesOf_L2 k x ok q).bind _ = _
    rw [hst]
    refine Eq.trans (refL hd r3 l (k + 1) (ok && okB (tr32 x)) (q ++ [uB (tr32 x)]) (fun y hy => h y (List.mem_cons_of_mem _ hy)) (by simp; omega)) ?_
    rw [List.all_cons, Bool.and_assoc, List.append_assoc]; rfl
theorem contains_any (l : List Bs) (v : Bs) (h : l.length ≤ 1000000000) : m_slices_Contains_L_string_string_ l v = some (l.any fun x => decide (v = x)) := by
  unfold m_slices_Contains_L_string_string_
  rw [index_eq l v h]
  simp only [Option.bind_some]
  unfold idxB
  rw [fdx_pos]
theorem any_congr_mem (p q : Bs → Bool) : ∀ l : List Bs, (∀ x, x ∈ l → p x = q x) → l.any p = l.any q
  | [], _ => rfl
  | x :: l, h => by rw [List.any_cons, List.any_cons, h x (by simp), any_congr_mem p q l fun y hy => h y (List.mem_cons_of_mem _ hy)]
theorem matches_err (hd t : Bs) (r : Bool × Int) (h1 : hd.length ≤ 200000) (h2 : t.length ≤ 200000) (h : m_cache_Matches hd t = some r) : r.2 = 0 ∨ r.1 = false := by
  have hs := spl_len 44 hd
  have hp : ∀ x, x ∈ spl 44 hd → x.length ≤ 200000 := fun x hx => by have := spl_piece 44 hd x hx; omega
  unfold m_cache_Matches m_strings_Split at h
  rw [opaque_eq t (by omega)] at h
  simp only [Option.bind_some] at h
  rw [if_pos (show hd.length ≤ 1000000000 ∧ 1 ≤ ([44] : Bs).length from ⟨by omega, by simp⟩), splitL_one] at h
  simp only [Option.bind_some] at h
  rw [if_pos (show (spl 44 hd).length ≤ 1000000000 by omega), mtL _ (spl 44 hd) 0 false hp] at h
  cases hk : okB t
  · rw [hk] at h
    simp at h
    rw [← h]; simp
  · rw [hk] at h
    simp only [if_true, Bool.not_true, Bool.false_eq_true, if_false] at h
    split at h
    · cases h; exact .inl rfl
    · split at h
      · cases h; exact .inl rfl
      · cases h; exact .inr rfl
theorem matches_same (hd t : Bs) (h1 : hd.length ≤ 200000) (h2 : t.length ≤ 200000) : ∃ r, m_cache_Matches hd t = some r ∧ m_gateref2_MatchesOf hd t = some r := by
  have hs := spl_len 44 hd
  have hp : ∀ x, x ∈ spl 44 hd → x.length ≤ 200000 := fun x hx => by have := spl_piece 44 hd x hx; omega
  unfold m_cache_Matches m_gateref2_MatchesOf m_strings_Split
  rw [opaque_eq t (by omega), tagOf_eq t (by omega)]
  simp only [Option.bind_some]
  rw [if_pos (show hd.length ≤ 1000000000 ∧ 1 ≤ ([44] : Bs).length from ⟨by omega, by simp⟩), splitL_one]
  simp only [Option.bind_some]
  rw [if_pos (show (spl 44 hd).length ≤ 1000000000 by omega), if_pos (show (spl 44 hd).length ≤ 1000000000 by omega)]
  cases hk : okB t
  · simp only [Bool.false_eq_true, if_false, Bool.not_false, if_true]
    refine ⟨_, rfl, ?_⟩
    by_cases hh : hd = [42]
    · rw [if_neg (by simpa using hh)]; rfl
    · rw [if_pos (by simpa using hh), refL hd (uB t, false) (spl 44 hd) 0 false [] hp (by simp; omega)]
      rfl
  · simp only [if_true, Bool.not_true, Bool.false_eq_true, if_false]
    by_cases hh : hd = [42]
    · rw [if_pos (by simpa using hh), if_neg (by simpa using hh)]
      refine ⟨_, rfl, ?_⟩
      unfold gateref2_MatchesOf_J1
      rw [if_neg (by simp), if_pos (by simpa using hh)]; rfl
    · rw [if_neg (by simpa using hh), if_pos (by simpa using hh), mtL (mB t, true) (spl 44 hd) 0 false hp, refL hd (uB t, true) (spl 44 hd) 0 true [] hp (by simp; omega)]
      refine ⟨_, rfl, ?_⟩
      unfold gateref2_MatchesOf_J1
      rw [Bool.true_and, List.nil_append]
      cases ha : (spl 44 hd).all fun x => okB (tr32 x)
      · simp
      · simp only [Bool.not_true, Bool.false_eq_true, if_false, if_true, Bool.false_or]
        rw [if_neg (by simpa using hh), contains_any _ _ (by simp; omega)]
        simp only [Option.bind_some, List.any_map]
        have key : ((spl 44 hd).any ((fun x => decide (uB t = x)) ∘ fun x => uB (tr32 x))) = (spl 44 hd).any fun x => decide (mB (tr32 x) = mB t) := by
          rw [List.all_eq_true] at ha
          have : ∀ x, x ∈ spl 44 hd → ((fun x => decide (uB t = x)) ∘ fun x => uB (tr32 x)) x = decide (mB (tr32 x) = mB t) := fun x hx => by
            have e1 := okB_u (ha x hx)
            have e2 := okB_u hk
            show decide (uB t = uB (tr32 x)) = _
            rw [e1, e2]
            refine decide_eq_decide.2 ⟨fun h => ?_, fun h => by rw [h]⟩
            have h3 := (List.cons.inj h).2
            exact (List.append_cancel_right h3).symm
          exact any_congr_mem _ _ _ this
        rw [key]; rfl
/-- can it be answered with 304? -/
abbrev inmL : Bs := [105, 102, 45, 110, 111, 110, 101, 45, 109, 97, 116, 99, 104]
abbrev etagL : Bs := [101, 116, 97, 103]
theorem valsB_len {l : List S_api_Header} (h : ∀ y, y ∈ l → hdA y) (n : Bs) : ∀ v, v ∈ valsB n l → v.length ≤ 100000 := fun v hv => by
  unfold valsB at hv
  obtain ⟨x, hx, rfl⟩ := List.mem_map.1 hv
  exact (h x (List.mem_filter.1 hx).1).1.2
theorem unchanged_same (r : S_api_Request) (a : S_api_Response) (hr : rqA r) (ha : haP 100 a.Headers) : ∃ e1 e2 b, m_gateref2_RequestFault r = some e1 ∧ m_gateref2_ResponseFault a = some e2 ∧ m_cache_Unchanged r a = some (b, if e1 ≠ 0 then e1 else e2) ∧
    ((if e1 ≠ 0 then e1 else e2) ≠ 0 → b = false) ∧ ((if e1 ≠ 0 then e1 else e2) = 0 → m_gateref2_UnchangedOf r a = some b) := by
  obtain ⟨e1, p1, p2⟩ := request_same r hr.1
  obtain ⟨e2, q1, q2⟩ := response_same a (haP_hds ha (by omega))
  have hv1 := values_eq r.Headers inmL (by have := hr.2.1; omega) (fun x hx => (hr.2.2 x hx).2) ⟨rfl, by decide⟩
  have hv2 := values_eq a.Headers etagL (by have := ha.1; omega) (fun x hx => (ha.2 x hx).2) ⟨rfl, by decide⟩
  have hl1 := valsB_len hr.2.2 inmL
  have hl2 := valsB_len ha.2 etagL
  unfold m_cache_Unchanged m_gateref2_UnchangedOf
  rw [p1, q1]
  simp only [Option.bind_some]
  by_cases h1 : e1 = 0
  · by_cases h2 : e2 = 0
    · subst h1; subst h2
      show ∃ e1 e2 b, _ ∧ _ ∧ ((if decide ((0 : Int) ≠ 0) then _ else (if decide ((0 : Int) ≠ 0) then _ else ((m_message_Values r.Headers inmL).bind fun (r9 : ((List Bs))) => (m_message_Values a.Headers etagL).bind fun (r11 : ((List Bs))) => _))) = _) ∧ _ ∧ (_ → ((m_gateref2_Values r.Headers inmL).bind fun (r3 : ((List Bs))) => (m_gateref2_Values a.Headers etagL).bind fun (r5 : ((List Bs))) => _) = _)
      rw [hv1.1, hv1.2, hv2.1, hv2.2]
      simp only [Option.bind_some]
      rw [if_neg (by simp), if_neg (by simp)]
      generalize valsB inmL r.Headers = V at *
      generalize valsB etagL a.Headers = U at *
      have hT : cache_Unchanged_J1 V U true = some (false, 0) := rfl
      have hrd : m_cache_isRead r.Method = some (decide (r.Method = [71, 69, 84]) || decide (r.Method = [72, 69, 65, 68])) := rfl
      rw [hrd]
      simp only [Option.bind_some]
      by_cases c1 : a.Status = 200
      · rw [if_neg (show ¬ decide (a.Status ≠ 200) = true by simpa using c1)]
        cases c2 : (decide (r.Method = [71, 69, 84]) || decide (r.Method = [72, 69, 65, 68]))
        · refine ⟨0, 0, false, p2, q2, ?_, fun _ => rfl, fun _ => ?_⟩
          · simp only [Bool.not_false, if_true]; exact hT
          · rw [if_pos]
            simp only [Bool.or_eq_false_iff, decide_eq_false_iff_not] at c2
            simp [c2.1, c2.2]
        · have c2' : (decide (r.Method ≠ [71, 69, 84]) && decide (r.Method ≠ [72, 69, 65, 68])) = false := by
            simp only [Bool.or_eq_true, decide_eq_true_eq] at c2
            rcases c2 with h | h <;> simp [h]
          by_cases c3 : (V.length : Int) = 1
          · by_cases c4 : (U.length : Int) = 1
            · obtain ⟨x, hx⟩ : ∃ x, V = [x] := List.length_eq_one_iff.1 (by omega)
              obtain ⟨y, hy⟩ : ∃ y, U = [y] := List.length_eq_one_iff.1 (by omega)
              subst hx; subst hy
              obtain ⟨z, z1, z2⟩ := matches_same x y (by have := hl1 x (by simp); omega) (by have := hl2 y (by simp); omega)
              refine ⟨0, 0, z.1 && decide (z.2 = 0), p2, q2, ?_, fun h => absurd rfl h, fun _ => ?_⟩
              · simp only [Bool.not_true, Bool.false_eq_true, if_false]
                rw [if_neg (by simp)]
                unfold cache_Unchanged_J1
                rw [if_neg (by simp)]
                simp only [List.getElem?_cons_zero, Option.bind_some, z1]
                rfl
              · rw [if_neg (by rw [c2']; simp [c1])]
                simp only [List.getElem?_cons_zero, Option.bind_some, z2]
                have hz := matches_err x y z (by have := hl1 x (by simp); omega) (by have := hl2 y (by simp); omega) z1
                rcases hz with h | h <;> simp [h]
            · refine ⟨0, 0, false, p2, q2, ?_, fun _ => rfl, fun _ => ?_⟩
              · simp only [Bool.not_true, Bool.false_eq_true, if_false]
                rw [if_neg (by simpa using c3), show decide ((U.length : Int) ≠ 1) = true by simpa using c4]
                exact hT
              · rw [if_pos (by simp; exact .inr (by omega))]
          · refine ⟨0, 0, false, p2, q2, ?_, fun _ => rfl, fun _ => ?_⟩
            · simp only [Bool.not_true, Bool.false_eq_true, if_false]
              rw [if_pos (by simpa using c3)]
              exact hT
            · rw [if_pos (by simp; exact .inl (.inr (by omega)))]
      · refine ⟨0, 0, false, p2, q2, ?_, fun _ => rfl, fun _ => ?_⟩
        · rw [if_pos (show decide (a.Status ≠ 200) = true by simpa using c1)]
          exact hT
        · rw [if_pos (by simp [c1])]
    · subst h1
      refine ⟨0, e2, false, p2, q2, ?_, fun _ => rfl, fun h => absurd (by simpa using h) h2⟩
      rw [if_neg (by simp), if_pos (by simpa using h2)]
      simp
  · refine ⟨e1, e2, false, p2, q2, ?_, fun _ => rfl, fun h => ?_⟩
    · rw [if_pos (by simpa using h1), if_pos h1]
    · rw [if_pos h1] at h; exact absurd h h1
theorem tagHeader_ok {k : Int} {s : S_gatemake_Stream} (h : SB k s) (hk : k ≤ 1000) : Ok (m_gatemake_Stream_TagHeader s) fun r => r.1.length ≤ 30000 ∧ SB (k + 20) r.2 := by
  unfold m_gatemake_Stream_TagHeader gatemake_Stream_TagHeader_J1
  refine ok_bind (range_ok h (by omega) 1 3 (by omega)) fun r hr => ok_bind (someB_ok hr.2 (by omega) 5 _ ⟨by simp, by simp⟩ (by decide)) fun r4 h4 => ?_
  obtain ⟨m, hm⟩ : ∃ m : Nat, r.1 = (m : Int) := ⟨r.1.toNat, by omega⟩
  rw [hm]
  refine ok_bind (words_ok2 h4.2 (by omega) m (by omega) r4.1 (by have := h4.1; omega) _ ⟨by simp, by simp⟩ (by decide)) fun r6 h6 => ok_bind (flip_ok h6.2 (by omega) 8 (by omega)) fun r8 h8 => ok_if (fun _ => ?_) (fun _ => ok_some ⟨h6.1, h8.mono (by omega)⟩)
  exact ok_bind (someB_ok h8 (by omega) 100 _ ⟨by simp, by simp⟩ (by decide)) fun r11 h11 => ok_some ⟨by have := h11.1; simp only; omega, h11.2.mono (by omega)⟩
theorem tagsMatch_plain (L : List Int) : m_gatelaw2_TagsMatch L = some true := by
  refine ok_eq ?_
  unfold m_gatelaw2_TagsMatch gatelaw2_TagsMatch_J1
  refine ok_bind (tagHeader_ok (k := 0) ⟨by simp, by simp⟩ (by omega)) fun r2 h2 => ok_bind (someB_ok h2.2 (by omega) 100 _ ⟨by simp, by simp⟩ (by decide)) fun r4 h4 => ok_bind (cacheRequest_ok h4.2 (by omega) 0) fun r6 h6 => ok_bind (cacheResponse_ok h6.2 (by omega)) fun r8 h8 => ?_
  obtain ⟨x, x1, x2⟩ := matches_same r2.1 r4.1 (by have := h2.1; omega) (by have := h4.1; omega)
  obtain ⟨e1, e2, b, u1, u2, u3, u4, u5⟩ := unchanged_same r6.1 r8.1 h6.1 h8.1
  rw [x1, x2, u1, u2, u3]
  simp only [Option.bind_some]
  rw [errs_two]
  simp only [Option.bind_some, beq_self_eq_true, if_true, decide_true]
  by_cases h0 : (if e1 ≠ 0 then e1 else e2) = 0
  · rw [if_pos (show decide ((if e1 ≠ 0 then e1 else e2) = 0) = true by simpa using h0), u5 h0]
    simp only [Option.bind_some, beq_self_eq_true, if_true, kept_eq]
    exact ⟨true, rfl, rfl⟩
  · rw [if_neg (show ¬ decide ((if e1 ≠ 0 then e1 else e2) = 0) = true by simpa using h0), u4 h0]
    simp only [beq_self_eq_true, if_true, kept_eq, Option.bind_some]
    exact ⟨true, rfl, rfl⟩
end Go.Proofs.YtbicifgfibafmaaGreatDoor
