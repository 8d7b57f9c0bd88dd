/- Plain: scopes: the program and the reference agree. -/
import Derived.Test.YtpeeeanmfmhlgaaGreatDoorKe
import Derived.Test.YtpeeeanmfmhlgaaGreatDoorSp
namespace Go.Proofs.YtpeeeanmfmhlgaaGreatDoor
set_option linter.unusedVariables false
set_option maxRecDepth 20000
/-- one part of a scope -/
def scK (n : Nat) (k : Nat) (p : Bs) : Bool := keyP p || (decide (p = [42]) && decide ((k : Int) = (n : Int) - 1))
def scP (s : Bs) : Bool := allI (scK (spl 58 s).length) 0 (spl 58 s) && decide (((spl 58 s).length : Int) ≤ 10)
theorem isScope_eq (s : Bs) (h : s.length ≤ 1000000) : m_token_isScope s = some (scP s) := by
  have hn := spl_len 58 s
  unfold m_token_isScope m_strings_Split
  rw [if_pos ⟨by omega, by simp⟩, splitL_one]
  simp only [Option.bind_some]
  rw [if_pos (by omega), forL_all (p := scK (spl 58 s).length) (r0 := false) (e := decide (((spl 58 s).length : Int) ≤ 10)) rfl (spl 58 s) 0 fun j x _ hx => ?_]
  · unfold scP
    cases allI (scK (spl 58 s).length) 0 (spl 58 s) <;> simp
  · have hx : (spl 58 s)[j]? = some x := by simpa using hx
    have hl := spl_piece 58 s x (List.mem_of_getElem? hx)
    unfold token_isScope_L1
    rw [isKey_eq x (by omega), wr_id (by omega)]
    simp only [Option.bind_some]
    unfold scK
    cases keyP x <;> cases (decide (x = [42]) && decide ((j : Int) = ((spl 58 s).length : Int) - 1)) <;> rfl
theorem scope_eq (s : Bs) (h : s.length ≤ 1000000) : m_gateref2_scope s = some (scP s) := by
  have hn := spl_len 58 s
  unfold m_gateref2_scope m_strings_Split
  rw [if_pos ⟨by omega, by simp⟩, splitL_one]
  simp only [Option.bind_some]
  rw [if_pos (by omega), forL_all (p := scK (spl 58 s).length) (r0 := false) (e := decide (((spl 58 s).length : Int) ≤ 10)) rfl (spl 58 s) 0 fun j x _ hx => ?_]
  · unfold scP
    cases allI (scK (spl 58 s).length) 0 (spl 58 s) <;> simp
  · have hx : (spl 58 s)[j]? = some x := by simpa using hx
    have hl := spl_piece 58 s x (List.mem_of_getElem? hx)
    have hj := lt_some hx
    unfold gateref2_scope_L1
    rw [key_eq x (by omega), wr_id (by omega)]
    simp only [Option.bind_some]
    unfold scK
    have e1 : decide ((j : Int) < ((spl 58 s).length : Int) - 1) = !decide ((j : Int) = ((spl 58 s).length : Int) - 1) := by
      by_cases hq : (j : Int) = ((spl 58 s).length : Int) - 1
      · simp [hq]
      · have : (j : Int) < ((spl 58 s).length : Int) - 1 := by omega
        simp [hq, this]
    have e2 : decide (x ≠ [42]) = !decide (x = [42]) := by simp
    rw [e1, e2]
    cases keyP x <;> cases decide (x = [42]) <;> cases decide ((j : Int) = ((spl 58 s).length : Int) - 1) <;> rfl
/-- strings of a list are not long -/
def Sh (l : List Bs) : Prop := l.length ≤ 1000000 ∧ ∀ x, x ∈ l → x.length ≤ 1000000
def scF (l : List Bs) : Int := if 50 < l.length then 2 else if l.all scP = true then 0 else 3
theorem chkC_eq (l : List Bs) (h : Sh l) : m_token_CheckScopes l = some (scF l) := by
  have hn := h.1
  unfold m_token_CheckScopes scF
  by_cases h1 : 50 < l.length
  · rw [if_pos (by simp; omega), if_pos h1]
  · rw [if_neg (by simp; omega), if_neg h1, if_pos (by omega), forL_all (p := fun _ x => scP x) (r0 := (3 : Int)) (e := (0 : Int)) rfl l 0 fun j x _ hx => ?_]
    · rw [allI_all]
    · have hx : l[j]? = some x := by simpa using hx
      unfold token_CheckScopes_L1
      rw [isScope_eq x (h.2 x (List.mem_of_getElem? hx))]
      simp only [Option.bind_some]
      cases scP x <;> rfl
theorem faultC_eq (l : List Bs) (h : Sh l) : m_gateref2_ScopesFault l = some (scF l) := by
  have hn := h.1
  unfold m_gateref2_ScopesFault scF
  by_cases h1 : 50 < l.length
  · rw [if_pos (by simp; omega), if_pos h1]
  · rw [if_neg (by simp; omega), if_neg h1, if_pos (by omega), forL_all (p := fun _ x => scP x) (r0 := (3 : Int)) (e := (0 : Int)) rfl l 0 fun j x _ hx => ?_]
    · rw [allI_all]
    · have hx : l[j]? = some x := by simpa using hx
      unfold gateref2_ScopesFault_L1
      rw [scope_eq x (h.2 x (List.mem_of_getElem? hx))]
      simp only [Option.bind_some]
      cases scP x <;> rfl
/-- the first of two faults -/
def or2 (a b : Int) : Int := if a ≠ 0 then a else b
/-- a scope covers another one -/
def cvB (a b : Bs) : Bool := if Lib.hasSuffix a [42] = true then Lib.hasPrefix b (Lib.trimSuffix a [42]) else decide (a = b)
theorem star_form {a : Bs} (h : Lib.hasSuffix a [42] = true) : ∃ g, a = g ++ [42] ∧ Lib.trimSuffix a [42] = g := by
  unfold Lib.hasSuffix at h
  rw [List.isSuffixOf_iff_suffix] at h
  obtain ⟨g, hg⟩ := h
  refine ⟨g, hg.symm, ?_⟩
  unfold Lib.trimSuffix Lib.hasSuffix
  rw [if_pos (by rw [List.isSuffixOf_iff_suffix]; exact ⟨g, hg⟩), ← hg]
  simp
theorem cvB_refl (a : Bs) : cvB a a = true := by
  unfold cvB
  split
  · rename_i h
    obtain ⟨g, h1, h2⟩ := star_form h
    rw [h2]
    unfold Lib.hasPrefix
    rw [List.isPrefixOf_iff_prefix]
    exact ⟨[42], h1.symm⟩
  · simp
theorem over_eq (a b : Bs) (h : a.length ≤ 1000000) : m_gateref2_over a b = some (cvB a b) := by
  unfold m_gateref2_over m_strings_CutSuffix m_strings_HasPrefix cvB
  rw [if_pos (by omega)]
  simp only [Option.bind_some]
  cases Lib.hasSuffix a [42] <;> simp
theorem covers_eq (a b : Bs) (h : a.length ≤ 1000000) : m_token_covers a b = some (cvB a b) := by
  unfold m_token_covers m_strings_CutSuffix m_strings_HasPrefix token_covers_J1
  by_cases h1 : a = b
  · subst h1
    rw [if_pos (by simp), cvB_refl]
  · rw [if_neg (by simpa using h1), if_pos (by omega)]
    simp only [Option.bind_some]
    unfold cvB
    cases Lib.hasSuffix a [42] <;> simp [h1]
/-- a list covers a scope -/
def cvL (l : List Bs) (s : Bs) : Bool := l.any fun h => cvB h s
def cvA (have_ want : List Bs) : Bool := want.all fun w => cvL have_ w
theorem conB_eq (l : List Bs) (p : Bs → Option Bool) (q : Bs → Bool) (h : l.length ≤ 1000000) (hp : ∀ x, x ∈ l → p x = some (q x)) : m_slices_ContainsFunc_L_string_string_ l p = some (l.any q) :=
  gCon_eq l q (by omega) hp
theorem coveredBy_eq (l : List Bs) (s : Bs) (h : Sh l) : m_token_coveredBy l s = some (cvL l s) := by
  unfold m_token_coveredBy
  rw [conB_eq l _ (fun x => cvB x s) h.1 fun x hx => ?_]
  · rfl
  · unfold m_token_coveredBy_1
    rw [covers_eq x s (h.2 x hx)]; rfl
theorem covered_eq (l : List Bs) (s : Bs) (h : Sh l) : m_gateref2_covered l s = some (cvL l s) := by
  unfold m_gateref2_covered
  rw [conB_eq l _ (fun x => cvB x s) h.1 fun x hx => ?_]
  · rfl
  · unfold m_gateref2_covered_1
    rw [over_eq x s (h.2 x hx)]; rfl
theorem all_any (l : List Bs) (q : Bs → Bool) : (!l.any fun x => !q x) = l.all q := by
  induction l with
  | nil => rfl
  | cons x l ih => simp only [List.any_cons, List.all_cons, Bool.not_or, Bool.not_not, ih]
theorem coverAll_eq (a b : List Bs) (ha : Sh a) (hb : Sh b) : m_token_coverAll a b = some (cvA a b) := by
  unfold m_token_coverAll
  rw [conB_eq b _ (fun x => !cvL a x) hb.1 fun x hx => ?_]
  · simp only [Option.bind_some]
    rw [all_any]; rfl
  · unfold m_token_coverAll_1
    rw [coveredBy_eq a x ha]; rfl
theorem coversOf_eq (a b : List Bs) (ha : Sh a) (hb : Sh b) : m_gateref2_CoversOf a b = some (cvA a b) := by
  unfold m_gateref2_CoversOf
  rw [conB_eq b _ (fun x => !cvL a x) hb.1 fun x hx => ?_]
  · simp only [Option.bind_some]
    rw [all_any]; rfl
  · unfold m_gateref2_CoversOf_1
    rw [covered_eq a x ha]; rfl

/-- the scopes of a list that no other one covers -/
def lsI (l : List Bs) (s : Bs) : Prop := s ∈ l ∧ ∀ h, h ∈ l → h ≠ s → cvB h s = false
def lsQ (l : List Bs) (s : Bs) : Bool := l.any fun h => decide (h ≠ s) && cvB h s
def lsP (l : List Bs) : List Bs := (setB l).filter fun s => !lsQ (setB l) s
theorem lsQ_iff (l : List Bs) (s : Bs) : lsQ l s = false ↔ ∀ h, h ∈ l → h ≠ s → cvB h s = false := by
  unfold lsQ
  rw [List.any_eq_false]
  constructor
  · intro k h hh hne
    have := k h hh
    simpa [hne] using this
  · intro k h hh
    by_cases hne : h = s
    · simp [hne]
    · simp [hne, k h hh hne]
theorem lsP_mem (l : List Bs) (s : Bs) : s ∈ lsP l ↔ lsI l s := by
  unfold lsP lsI
  rw [List.mem_filter, setB_mem, Bool.not_eq_true', lsQ_iff]
  simp only [setB_mem]
theorem lsP_rise (l : List Bs) : Rise (lsP l) := (setB_rise l).filter _
theorem lsP_ext {l l' : List Bs} (h : ∀ x, x ∈ l ↔ x ∈ l') : lsP l = lsP l' :=
  rise_ext (lsP_rise l) (lsP_rise l') fun s => by
    rw [lsP_mem, lsP_mem]
    unfold lsI
    simp only [h]
theorem lsP_ref (l : List Bs) : setB (l.filter fun s => !lsQ l s) = lsP l :=
  rise_ext (setB_rise _) (lsP_rise l) fun s => by
    rw [lsP_mem, setB_mem, List.mem_filter, Bool.not_eq_true', lsQ_iff]
    rfl
theorem lsP_len (l : List Bs) : (lsP l).length ≤ l.length := by
  have h1 := List.length_filter_le (fun s => !lsQ (setB l) s) (setB l)
  have h2 := setB_len l
  unfold lsP; omega
theorem rising_eq (l : List Bs) (h : l.length ≤ 1000000) : m_kit_Rising l = some (setB l) := by
  unfold m_kit_Rising m_slices_Clone m_slices_Sort_string m_slices_Compact_string
  rw [if_pos (by omega)]
  simp only [Option.bind_some]
  rw [if_pos (by omega)]
  simp only [Option.bind_some]
  rw [if_pos (by simp; omega)]
  rfl
theorem delB_eq (l : List Bs) (p : Bs → Option Bool) (q : Bs → Bool) (h : l.length ≤ 1000000) (hp : ∀ x, x ∈ l → p x = some (q x)) : m_slices_DeleteFunc_L_string_string_ l p = some (l.filter fun x => !q x) :=
  gDel_eq [] l q (by omega) hp
theorem least_eq (l : List Bs) (h : Sh l) : m_token_least l = some (lsP l) := by
  have hs := setB_len l
  have hn := h.1
  have h2 : Sh (setB l) := ⟨by omega, fun x hx => h.2 x ((setB_mem l x).1 hx)⟩
  unfold m_token_least
  rw [rising_eq l hn]
  simp only [Option.bind_some]
  unfold m_slices_Clone
  rw [if_pos (by omega)]
  simp only [Option.bind_some]
  rw [delB_eq (setB l) _ (lsQ (setB l)) h2.1 fun x hx => ?_]
  · rfl
  · unfold m_token_least_1
    rw [conB_eq (setB l) _ (fun h => decide (h ≠ x) && cvB h x) h2.1 fun y hy => ?_]
    · rfl
    · unfold m_token_least_1_1 token_least_1_1_J1
      rw [covers_eq y x (h2.2 y hy)]
      simp only [Option.bind_some]
      cases decide (y ≠ x) <;> simp
theorem leastOf_eq (l : List Bs) (h : Sh l) : m_gateref2_LeastOf l = some (lsP l) := by
  have hn := h.1
  unfold m_gateref2_LeastOf
  rw [if_pos (by omega)]
  refine ok_eq (ok_forL (I := fun k (s : List Bs) => s = (l.take k).filter fun s => !lsQ l s) l 0 [] (by simp) ?_ ?_)
  · intro j x s _ hx hs
    have hx : l[j]? = some x := by simpa using hx
    have hj := lt_some hx
    unfold gateref2_LeastOf_L1 gateref2_LeastOf_J2
    rw [conB_eq l _ (fun h => decide (h ≠ x) && cvB h x) hn fun y hy => ?_]
    · simp only [Option.bind_some]
      have hlen := List.length_filter_le (fun s => !lsQ l s) (l.take j)
      rw [List.length_take] at hlen
      have e1 : (l.take (j + 1)).filter (fun s => !lsQ l s) = s ++ (if lsQ l x = false then [x] else []) := by
        rw [List.take_add_one, hx, List.filter_append, hs]
        cases hq : lsQ l x <;> simp [hq]
      show Ok (if (!lsQ l x) = true then _ else _) _
      cases hq : lsQ l x
      · rw [if_pos (by simp), if_pos (by rw [hs]; omega)]
        refine ok_some ?_
        show s ++ [x] = _
        rw [e1, hq]; rfl
      · rw [if_neg (by simp)]
        refine ok_some ?_
        show s = _
        rw [e1, hq]; simp
    · unfold m_gateref2_LeastOf_1 gateref2_LeastOf_1_J1
      rw [over_eq y x (h.2 y hy)]
      simp only [Option.bind_some]
      cases decide (y ≠ x) <;> simp
  · intro s hs
    have hs : s = l.filter fun s => !lsQ l s := by simpa using hs
    have hlen := List.length_filter_le (fun s => !lsQ l s) l
    unfold gateref2_LeastOf_E1 m_slices_Sort_string m_slices_Compact_string
    rw [if_pos (by rw [hs]; omega)]
    simp only [Option.bind_some]
    rw [if_pos (by simp; rw [hs]; omega)]
    refine ok_some ?_
    rw [hs]
    exact lsP_ref l

/-- two right scopes that cover each other are one -/
theorem key_star (p : Bs) : keyP (p ++ [42, 42]) = false := by
  have h : ∀ (l : Bs) k, allI kc k (l ++ [42, 42]) = false := by
    intro l
    induction l with
    | nil => intro k; simp [allI, kc]
    | cons x l ih => intro k; simp [allI, ih]
  unfold keyP
  rw [h]; rfl
theorem allI_false {α : Type} (p : Nat → α → Bool) : ∀ (l : List α) (k j : Nat) (x : α), l[j]? = some x → p (k + j) x = false → allI p k l = false
  | [], k, j, x, h, _ => by simp at h
  | y :: l, k, j, x, h, hp => by
    cases j with
    | zero => simp at h; subst h; simp [allI, show p k y = false from hp]
    | succ j =>
      have := allI_false p l (k + 1) j x (by simpa using h) (by rw [show k + 1 + j = k + (j + 1) by omega]; exact hp)
      simp [allI, this]
theorem sc_star (g : Bs) : scP (g ++ [42, 42]) = false := by
  obtain ⟨ps, p, h⟩ := spl_tail 58 [42, 42] (by decide) g
  unfold scP
  rw [h, allI_false _ _ 0 ps.length (p ++ [42, 42]) (by simp)]
  · rfl
  · unfold scK
    rw [key_star]
    have : p ++ [42, 42] ≠ [42] := fun e => by have := congrArg List.length e; simp at this
    simp [this]
theorem cvB_anti {a b : Bs} (ha : scP a = true) (hb : scP b = true) (h1 : cvB a b = true) (h2 : cvB b a = true) : a = b := by
  unfold cvB at h1 h2
  by_cases sa : Lib.hasSuffix a [42] = true
  · by_cases sb : Lib.hasSuffix b [42] = true
    · obtain ⟨g, e1, t1⟩ := star_form sa
      obtain ⟨h, e2, t2⟩ := star_form sb
      rw [if_pos sa, t1] at h1
      rw [if_pos sb, t2] at h2
      unfold Lib.hasPrefix at h1 h2
      rw [List.isPrefixOf_iff_prefix] at h1 h2
      rw [e2] at h1
      rw [e1] at h2
      have key : ∀ x y : Bs, x <+: y ++ [42] → x.length ≤ y.length → x <+: y := fun x y hp hl =>
        List.prefix_of_prefix_length_le hp (List.prefix_append y [42]) hl
      rcases Nat.lt_trichotomy g.length h.length with hl | hl | hl
      · have h3 := key g h h1 (by omega)
        obtain ⟨t, ht⟩ := h2
        have : t.length = 0 := by have := congrArg List.length ht; simp at this; omega
        have ht0 : t = [] := List.eq_nil_of_length_eq_zero this
        rw [ht0, List.append_nil] at ht
        rw [e2, ht, List.append_assoc] at hb
        have := sc_star g
        rw [show g ++ ([42] ++ [42]) = g ++ [42, 42] from rfl, this] at hb; cases hb
      · have h3 := key g h h1 (by omega)
        have := List.IsPrefix.eq_of_length h3 hl
        rw [e1, e2, this]
      · have h3 := key h g h2 (by omega)
        obtain ⟨t, ht⟩ := h1
        have : t.length = 0 := by have := congrArg List.length ht; simp at this; omega
        have ht0 : t = [] := List.eq_nil_of_length_eq_zero this
        rw [ht0, List.append_nil] at ht
        rw [e1, ht, List.append_assoc] at ha
        have := sc_star h
        rw [show h ++ ([42] ++ [42]) = h ++ [42, 42] from rfl, this] at ha; cases ha
    · rw [if_neg sb] at h2
      exact (of_decide_eq_true h2).symm
  · rw [if_neg sa] at h1
    exact of_decide_eq_true h1
end Go.Proofs.YtpeeeanmfmhlgaaGreatDoor
