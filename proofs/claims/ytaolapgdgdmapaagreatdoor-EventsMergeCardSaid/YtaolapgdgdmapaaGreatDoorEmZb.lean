/- Plain: lists of events are merged: the program and the reference agree. -/
import Derived.Test.YtaolapgdgdmapaaGreatDoorEgZb
import Derived.Test.YtaolapgdgdmapaaGreatDoorEaZb
namespace Go.Proofs.YtaolapgdgdmapaaGreatDoor
set_option linter.unusedVariables false
set_option linter.unusedSimpArgs false
set_option linter.unusedSectionVars false
set_option maxRecDepth 20000
theorem concatEv_two (a b : List S_api_Event) (h : a.length + b.length ≤ 1000000) : m_slices_Concat_L_api_Event_api_Event_ [a, b] = some (a ++ b) := by
  have e1 : ∀ (k : Nat) (x : List S_api_Event) (n : Nat), n + x.length ≤ 1000000 → slices_Concat_L_api_Event_api_Event__L1 k x (n : Int) = some (.inl ((n + x.length : Nat) : Int)) := fun k x n hn => by
    unfold slices_Concat_L_api_Event_api_Event__L1
    rw [wr_id (by omega), if_neg (by simp; omega)]
    congr 2
  have e2 : ∀ (k : Nat) (x l : List S_api_Event), l.length + x.length ≤ 1000000 → slices_Concat_L_api_Event_api_Event__L2 k x l = some (.inl (l ++ x)) := fun k x l hl => by
    unfold slices_Concat_L_api_Event_api_Event__L2
    rw [if_pos (by omega)]
  have e3 : m_slices_Grow (α := S_api_Event) ((a.length + b.length : Nat) : Int) = some [] := by unfold m_slices_Grow; rw [if_pos (by omega)]
  unfold m_slices_Concat_L_api_Event_api_Event_
  rw [if_pos (by simp)]
  have h1 := e1 0 a 0 (by omega)
  have h2 := e1 (0 + 1) b a.length (by omega)
  have h3 := e2 0 a [] (by simp; omega)
  have h4 := e2 (0 + 1) b a (by omega)
  simp only [Nat.zero_add, List.nil_append] at h1 h2 h3 h4
  show (slices_Concat_L_api_Event_api_Event__L1 0 a ((0 : Nat) : Int)).bind _ = _
  rw [h1]
  show (slices_Concat_L_api_Event_api_Event__L1 1 b (a.length : Int)).bind _ = _
  rw [h2]
  show slices_Concat_L_api_Event_api_Event__E1 [a, b] ((a.length + b.length : Nat) : Int) = _
  unfold slices_Concat_L_api_Event_api_Event__E1
  rw [e3]
  simp only [Option.bind_some]
  rw [if_pos (by simp)]
  show (slices_Concat_L_api_Event_api_Event__L2 0 a []).bind _ = _
  rw [h3]
  show (slices_Concat_L_api_Event_api_Event__L2 1 b a).bind _ = _
  rw [h4]
  rfl
theorem cmptEv_ok (r : List S_api_Event) (hl : r.length ≤ 1000000) : Ok (m_slices_Compact_L_api_Event_api_Event_ r) fun q => q.length ≤ r.length ∧ ∀ x, x ∈ q → x ∈ r :=
  gCf_ok (S_api_Event.mk 0 [] [] 0 []) r (fun (x y : S_api_Event) => some ((x.At == y.At) && ((x.App == y.App) && ((x.Product == y.Product) && ((x.Kind == y.Kind) && ((x.Plan == y.Plan) && true)))))) hl fun x y _ _ => ⟨_, rfl⟩
section
variable {α : Type}
theorem gIns_none (l : List α) (b : Int) (p : α → α → Option Int) (hb : 0 ≤ b ∧ b ≤ 1000000) : gIns l b b p = some l := by
  unfold gIns
  rw [wr_id (by omega)]
  refine iterO ?_
  unfold gL1
  rw [if_neg (by simp; omega)]
theorem gStab_20 (l r : List α) (p : α → α → Option Int) (h : l.length ≤ 20) (hr : gIns l 0 (l.length : Int) p = some r) (hl : r.length = l.length) : gStab l (l.length : Int) p = some r := by
  by_cases h19 : l.length ≤ 19
  · exact gStab_eq l r p h19 hr hl
  · have h20 : l.length = 20 := by omega
    rw [h20] at hr hl ⊢
    have e1 : gStL2 ((20 : Nat) : Int) p 0 20 l = some (.inl (20, 40, r)) := by
      unfold gStL2
      rw [if_pos (by decide)]
      have : gIns l 0 20 p = some r := hr
      rw [this]
      simp only [Option.bind_some]
      rw [if_pos (by omega), wr_id (by omega)]
      rfl
    have e2 : gStL2 ((20 : Nat) : Int) p 20 40 r = some (.inr r) := by
      unfold gStL2 gStJ1
      rw [if_neg (by decide)]
      have : gIns r 20 ((20 : Nat) : Int) p = some r := gIns_none r 20 p (by omega)
      rw [this]
      simp only [Option.bind_some, if_true]
      have e3 : iter (fun (s : Int) => gStL3 ((20 : Nat) : Int) r s) 20 = some r := by
        refine iterO ?_
        unfold gStL3
        rw [if_neg (by decide)]
      rw [e3]; rfl
    unfold gStab
    rw [iterI (s' := (20, 40, r)) e1]
    exact iterO e2
end
theorem sortEv_20 (l r : List S_api_Event) (p : S_api_Event → S_api_Event → Option Int) (h : l.length ≤ 20) (hr : gIns l 0 (l.length : Int) p = some r) (hl : r.length = l.length) : m_slices_SortStableFunc_L_api_Event_api_Event_ l p = some r := by
  unfold m_slices_SortStableFunc_L_api_Event_api_Event_
  have e : m_slices_stableCmpFunc_api_Event_ l (l.length : Int) p = some r := gStab_20 l r _ h hr hl
  rw [e]
  simp only [Option.bind_some]
  rw [if_pos hl]
theorem sortEv_two (l : List S_api_Event) (h : l.length ≤ 20) (hb : ∀ x, x ∈ l → EB x) : ∃ r : List S_api_Event, r.Perm l ∧ m_slices_SortStableFunc_L_api_Event_api_Event_ l (fun (a0 : S_api_Event) (a1 : S_api_Event) => m_portal_compareEvents a0 a1) = some r ∧ m_slices_SortStableFunc_L_api_Event_api_Event_ l (fun (a0 : S_api_Event) (a1 : S_api_Event) => m_gateref2_EventOrder a0 a1) = some r := by
  obtain ⟨r, p1, p2, p3⟩ := gIns_two (p := fun a0 a1 => m_portal_compareEvents a0 a1) (q := fun a0 a1 => m_gateref2_EventOrder a0 a1) (f := fun x : S_api_Event => x) l (by omega) (List.pairwise_iff_getElem.2 fun i j hi hj _ => ⟨_, _, cmpEv_eq _ _, ordEv_eq _ _ (hb _ (List.getElem_mem hj)).t (hb _ (List.getElem_mem hi)).t, Iff.rfl⟩)
  simp only [List.map_id'] at p3
  exact ⟨r, p1, sortEv_20 l r _ h p2 p1.length_eq, sortEv_20 l r _ h p3 p1.length_eq⟩
def cfA : List S_api_Event → Bool
  | [] => false
  | [_] => false
  | x :: y :: l => decide (orE x y = 0) || cfA (y :: l)
def mgF (r : List S_api_Event) : List S_api_Event × Int := if cfA r = true then ([], 13) else if 1000 < r.length then ([], 2) else (r, 0)
theorem cfA_short {r : List S_api_Event} (h : r.length ≤ 1) : cfA r = false := by
  match r, h with
  | [], _ => rfl
  | [_], _ => rfl
theorem cfA_drop {r : List S_api_Event} {i : Nat} {x y : S_api_Event} (h0 : 1 ≤ i) (hx : r[i - 1]? = some x) (hy : r[i]? = some y) : cfA (r.drop (i - 1)) = (decide (orE x y = 0) || cfA (r.drop i)) := by
  obtain ⟨h1, e1⟩ := List.getElem?_eq_some_iff.1 hx
  obtain ⟨h2, e2⟩ := List.getElem?_eq_some_iff.1 hy
  have e3 : r.drop (i - 1) = x :: r.drop i := by rw [List.drop_eq_getElem_cons h1, e1]; congr 2; omega
  have e4 : r.drop i = y :: r.drop (i + 1) := by rw [List.drop_eq_getElem_cons h2, e2]
  rw [e3, e4]
  rfl
theorem mergeP (r : List S_api_Event) (hl : r.length ≤ 100000) : ∀ (m i : Nat), 1 ≤ i → r.length ≤ i + m → i ≤ 100000 → iter (fun (s : Int) => portal_Merge_L3 r s) (i : Int) = some (if cfA (r.drop (i - 1)) = true then ([], 13) else if 1000 < r.length then ([], 2) else (r, 0)) := by
  have hend : ∀ i : Nat, r.length ≤ i → 1 ≤ i → iter (fun (s : Int) => portal_Merge_L3 r s) (i : Int) = some (if cfA (r.drop (i - 1)) = true then ([], 13) else if 1000 < r.length then ([], 2) else (r, 0)) := fun i hi h1 => by
    refine iterO ?_
    unfold portal_Merge_L3 portal_Merge_J2
    have : cfA (r.drop (i - 1)) = false := cfA_short (by rw [List.length_drop]; omega)
    rw [if_neg (by simp; omega), this]
    by_cases h2 : 1000 < r.length
    · rw [if_pos (by simp; omega), if_neg (by simp), if_pos h2]; rfl
    · rw [if_neg (by simp; omega), if_neg (by simp), if_neg h2]; rfl
  intro m
  induction m with
  | zero => intro i h1 h2 _; exact hend i (by omega) h1
  | succ m ih =>
    intro i h1 h2 h3
    by_cases hi : r.length ≤ i
    · exact hend i hi h1
    · obtain ⟨x, hx⟩ : ∃ x, r[i - 1]? = some x := ⟨_, List.getElem?_eq_getElem (by omega)⟩
      obtain ⟨y, hy⟩ : ∃ y, r[i]? = some y := ⟨_, List.getElem?_eq_getElem (by omega)⟩
      have e1 : at? r (wr ((i : Int) - 1)) = some x := by rw [wr_id (by omega), at_pred (by omega)]; exact hx
      have e2 : at? r (i : Int) = some y := by rw [at_nat]; exact hy
      have e3 := cfA_drop h1 hx hy
      by_cases h0 : orE x y = 0
      · refine iterO ?_
        unfold portal_Merge_L3
        rw [if_pos (by simp; omega), e1, e2, e3]
        simp [cmpEv_eq, h0]
      · have e4 : portal_Merge_L3 r (i : Int) = some (.inl ((i + 1 : Nat) : Int)) := by
          unfold portal_Merge_L3
          rw [if_pos (by simp; omega), e1, e2]
          simp only [Option.bind_some, cmpEv_eq, h0, decide_false, Bool.false_eq_true, if_false]
          rw [wr_id (by omega)]
          rfl
        rw [iterI e4, e3, ih (i + 1) (by omega) (by omega) (by omega)]
        simp [h0]
theorem mergeR (r : List S_api_Event) (hl : r.length ≤ 100000) (hb : ∀ x, x ∈ r → EB x) : ∀ (n k : Nat), k + n = r.length → rng (fun (k : Nat) (s : Unit) => gateref2_EventsOf_L1 r k) (fun (s : Unit) => gateref2_EventsOf_E1 r) n k () = some (if cfA (r.drop (k - 1)) = true then ([], 13) else if 1000 < r.length then ([], 2) else (r, 0))
  | 0, k, hk => by
    show gateref2_EventsOf_E1 r = _
    unfold gateref2_EventsOf_E1
    have : cfA (r.drop (k - 1)) = false := cfA_short (by rw [List.length_drop]; omega)
    rw [this]
    by_cases h2 : 1000 < r.length
    · rw [if_pos (by simp; omega), if_neg (by simp), if_pos h2]
    · rw [if_neg (by simp; omega), if_neg (by simp), if_neg h2]
  | n + 1, k, hk => by
    show (gateref2_EventsOf_L1 r k).bind _ = _
    have ih := mergeR r hl hb n (k + 1) (by omega)
    by_cases h0 : 0 < k
    · obtain ⟨x, hx⟩ : ∃ x, r[k - 1]? = some x := ⟨_, List.getElem?_eq_getElem (by omega)⟩
      obtain ⟨y, hy⟩ : ∃ y, r[k]? = some y := ⟨_, List.getElem?_eq_getElem (by omega)⟩
      have e1 : at? r ((k : Int) - 1) = some x := by rw [at_pred h0]; exact hx
      have e3 := cfA_drop h0 hx hy
      have e4 : gateref2_EventsOf_L1 r k = if orE x y = 0 then some (.inr ([], 13)) else some (.inl ()) := by
        unfold gateref2_EventsOf_L1 gateref2_EventsOf_J2
        rw [if_pos (by simpa using h0), e1, hy]
        simp only [Option.bind_some, ordEv_eq x y (hb x (List.mem_of_getElem? hx)).t (hb y (List.mem_of_getElem? hy)).t, decide_eq_true_eq]
      rw [e4, e3]
      by_cases h1 : orE x y = 0
      · rw [if_pos h1]; simp [h1, after]
      · rw [if_neg h1]
        simp only [Option.bind_some, after, h1, decide_false, Bool.false_or]
        exact ih
    · have hk0 : k = 0 := by omega
      subst hk0
      have e4 : gateref2_EventsOf_L1 r 0 = some (.inl ()) := by
        unfold gateref2_EventsOf_L1 gateref2_EventsOf_J2
        rw [if_neg (by simp), if_neg (by simp)]
      rw [e4]
      exact ih
theorem merge_two {c : S_api_Catalog} {apps : List S_api_App} {a b : List S_api_Event} (hc : CB c) (ha : AB apps) (h1 : ∀ x, x ∈ a → EB x) (h2 : ∀ x, x ∈ b → EB x) (hl : a.length + b.length ≤ 20) :
    ∃ q, m_gateref2_EventsOf a b = some q ∧ q.1.length ≤ 20 ∧ m_portal_Merge c apps a b = some (if or2 (eF c apps a) (eF c apps b) ≠ 0 then ([], or2 (eF c apps a) (eF c apps b)) else q) := by
  have hab : ∀ x, x ∈ a ++ b → EB x := fun x hx => by
    rcases List.mem_append.1 hx with hx | hx
    · exact h1 x hx
    · exact h2 x hx
  obtain ⟨r, p1, p2, p3⟩ := sortEv_two (a ++ b) (by simp; omega) hab
  have hr : r.length ≤ 20 := by rw [p1.length_eq]; simp; omega
  obtain ⟨q, q1, q2, q3⟩ := cmptEv_ok r (by omega)
  have hq : q.length ≤ 20 := by omega
  have hqb : ∀ x, x ∈ q → EB x := fun x hx => hab x (p1.mem_iff.1 (q3 x hx))
  have e0 := concatEv_two a b (by omega)
  refine ⟨mgF q, ?_, ?_, ?_⟩
  · unfold m_gateref2_EventsOf
    rw [e0]
    simp only [Option.bind_some, p3]
    rw [if_pos p1.length_eq, q1]
    simp only [Option.bind_some]
    rw [if_pos (by omega)]
    exact mergeR q (by omega) hqb q.length 0 (by omega)
  · unfold mgF
    split
    · simp
    · split
      · simp
      · exact hq
  · have e1 : portal_Merge_E1 a b = some (mgF q) := by
      unfold portal_Merge_E1
      rw [e0]
      simp only [Option.bind_some, p2]
      rw [if_pos p1.length_eq, q1]
      simp only [Option.bind_some]
      exact mergeP q (by omega) q.length 1 (by omega) (by omega) (by omega)
    have e2 : ∀ (k : Nat) (x : List S_api_Event), ([a, b] : List (List S_api_Event))[k]? = some x → (∀ y, y ∈ x → EB y) → portal_Merge_L1 c apps a b k = if eF c apps x ≠ 0 then some (.inr ([], eF c apps x)) else some (.inl ()) := fun k x hx hb => by
      unfold portal_Merge_L1
      rw [hx]
      simp only [Option.bind_some, chkEvents_eq hc ha hb]
      by_cases h0 : eF c apps x = 0 <;> simp [h0]
    unfold m_portal_Merge
    rw [if_pos (by decide)]
    show (portal_Merge_L1 c apps a b 0).bind _ = _
    rw [e2 0 a rfl h1]
    unfold or2
    by_cases h3 : eF c apps a = 0
    · rw [if_neg (not_not_intro h3)]
      show (portal_Merge_L1 c apps a b 1).bind _ = _
      rw [e2 1 b rfl h2]
      by_cases h4 : eF c apps b = 0
      · rw [if_neg (not_not_intro h4)]
        show portal_Merge_E1 a b = _
        rw [e1]
        simp [h3, h4]
      · rw [if_pos h4]
        simp [h3, h4, after]
    · rw [if_pos h3]
      simp [h3, after]
end Go.Proofs.YtaolapgdgdmapaaGreatDoor
