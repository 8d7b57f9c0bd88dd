/- Plain: strings.Split at a semicolon and a blank; signs within strings. -/
import Derived.Test.YtgjfcdcpiamikaaGreatDoorWoYz
import Derived.Test.YtgjfcdcpiamikaaGreatDoorKeYz
namespace Go.Proofs.YtgjfcdcpiamikaaGreatDoor
set_option linter.unusedVariables false
set_option maxRecDepth 20000
abbrev scL : Bs := [59, 32]
theorem idx2_no (p : Bs) (h : (59 : UInt8) ∉ p) : Lib.index p scL = -1 := Lib.index_none fun j hj => by
  cases ho : Lib.occAt p scL j
  · rfl
  · exact absurd (List.mem_of_getElem? (Lib.occAt_head (c := 59) (t := [32]) rfl ho)) h
theorem idx2_app (p q : Bs) (h : (59 : UInt8) ∉ p) : Lib.index (p ++ (scL ++ q)) scL = (p.length : Int) := by
  refine Lib.index_first (by simp) ?_ fun j hj => ?_
  · rw [Lib.occAt_iff_take _ _ _ (by simp)]
    simp
  · cases ho : Lib.occAt (p ++ (scL ++ q)) scL j
    · rfl
    · have h1 := Lib.occAt_head (c := 59) (t := [32]) rfl ho
      rw [List.getElem?_append_left hj] at h1
      exact absurd (List.mem_of_getElem? h1) h
theorem join_two (x y : Bs) (l : List Bs) : Lib.join (x :: y :: l) scL = x ++ (scL ++ Lib.join (y :: l) scL) := by
  rw [Lib.join_cons, Lib.join_cons]
  simp [Lib.joinTail]
theorem split2K : ∀ l : List Bs, l ≠ [] → (∀ p, p ∈ l → (59 : UInt8) ∉ p) → Lib.splitK scL 0 (Lib.count (Lib.join l scL) scL) (Lib.join l scL) = l
  | [], h, _ => absurd rfl h
  | [p], _, h => by
    rw [Lib.join_one, Lib.count_miss (idx2_no p (h p (by simp)))]
    rfl
  | p :: q :: l, _, h => by
    have ih := split2K (q :: l) (by simp) fun x hx => h x (by simp at hx ⊢; exact .inr hx)
    have hi := idx2_app p (Lib.join (q :: l) scL) (h p (by simp))
    rw [join_two]
    rw [Lib.count_hit (i := p.length) (by simp) hi, Nat.add_comm, Lib.splitK, if_neg (by rw [hi]; simp), hi]
    simp only [Int.toNat_natCast, Nat.add_zero, List.take_left']
    have hd : (p ++ (scL ++ Lib.join (q :: l) scL)).drop (p.length + scL.length) = Lib.join (q :: l) scL := by
      rw [← List.append_assoc]
      exact List.drop_left' (by simp)
    rw [hd, ih]
theorem split2_join (l : List Bs) (hne : l ≠ []) (h : ∀ p, p ∈ l → (59 : UInt8) ∉ p) : splitL (Lib.join l scL) scL = l := by
  unfold splitL
  rw [Lib.splitB_data]
  exact split2K l hne h
theorem splitK_ok : ∀ (k : Nat) (s : Bs), Lib.splitK scL 0 k s ≠ [] ∧ (Lib.splitK scL 0 k s).length ≤ k + 1 ∧ ∀ p, p ∈ Lib.splitK scL 0 k s → p.length ≤ s.length ∧ ∀ c, c ∈ p → c ∈ s
  | 0, s => ⟨by simp [Lib.splitK], by simp [Lib.splitK], fun p hp => by
      have : p = s := by simpa [Lib.splitK] using hp
      subst this; exact ⟨Nat.le_refl _, fun _ h => h⟩⟩
  | k + 1, s => by
    rw [Lib.splitK]
    split
    · exact ⟨by simp, by simp, fun p hp => by
        have : p = s := by simpa using hp
        subst this; exact ⟨Nat.le_refl _, fun _ h => h⟩⟩
    · obtain ⟨h1, h2, h3⟩ := splitK_ok k (s.drop ((Lib.index s scL).toNat + scL.length))
      refine ⟨by simp, Nat.succ_le_succ h2, fun p hp => ?_⟩
      rcases List.mem_cons.1 hp with rfl | hp
      · exact ⟨by rw [List.length_take]; omega, fun c hc => List.mem_of_mem_take hc⟩
      · obtain ⟨h4, h5⟩ := h3 p hp
        exact ⟨by rw [List.length_drop] at h4; omega, fun c hc => List.mem_of_mem_drop (h5 c hc)⟩
theorem countF_le (sub : Bs) : ∀ (f : Nat) (s : Bs), Lib.countFrom sub f s ≤ f
  | 0, s => by simp [Lib.countFrom]
  | f + 1, s => by
    rw [Lib.countFrom]
    split
    · omega
    · have := countF_le sub f (s.drop ((Lib.index s sub).toNat + sub.length))
      omega
theorem split2_ok (s : Bs) : splitL s scL ≠ [] ∧ (splitL s scL).length ≤ s.length + 2 ∧ ∀ p, p ∈ splitL s scL → p.length ≤ s.length ∧ ∀ c, c ∈ p → c ∈ s := by
  unfold splitL
  rw [Lib.splitB_data]
  have h0 : Lib.count s scL ≤ s.length + 1 := countF_le scL (s.length + 1) s
  obtain ⟨h1, h2, h3⟩ := splitK_ok (Lib.count s scL) s
  exact ⟨h1, Nat.le_trans h2 (by omega), h3⟩
/-- signs within strings -/
theorem any_eq (s cs : Bs) : Lib.containsAny s cs = s.any cs.contains := by
  unfold Lib.containsAny
  induction s with
  | nil => rfl
  | cons b l ih =>
    have hge := Lib.indexAny_ge cs l
    unfold Lib.indexAny
    rw [List.any_cons]
    cases hc : cs.contains b
    · simp only [Bool.false_eq_true, if_false, Bool.false_or]
      rw [← ih]
      split
      · rename_i h
        have : Lib.indexAny l cs = -1 := by simpa using h
        rw [this]
      · refine decide_eq_decide.2 ?_
        rename_i h
        have : ¬ Lib.indexAny l cs = -1 := by simpa using h
        omega
    · simp
theorem has_eq (s : Bs) (c : UInt8) : Lib.contains s [c] = s.contains c := by
  unfold Lib.contains
  rcases first_occ c s with h | ⟨p, q, h1, h2⟩
  · rw [idx_no c s h]
    have : s.contains c = false := by simpa using h
    rw [this]
    rfl
  · subst h1
    rw [idx_app c q p h2]
    have : (p ++ c :: q).contains c = true := by simp
    rw [this]
    simp
theorem cut1_len (s : Bs) (c : UInt8) : (Lib.cut s [c]).1.length ≤ s.length ∧ (Lib.cut s [c]).2.1.length ≤ s.length ∧ (∀ x, x ∈ (Lib.cut s [c]).1 → x ∈ s) ∧ ∀ x, x ∈ (Lib.cut s [c]).2.1 → x ∈ s := by
  unfold Lib.cut
  split
  · exact ⟨by simp; omega, by simp, fun x hx => List.mem_of_mem_take hx, fun x hx => List.mem_of_mem_drop hx⟩
  · exact ⟨Nat.le_refl _, by simp, fun x hx => hx, fun x hx => by cases hx⟩
theorem asc_mem {s t : Bs} (h : ascB s = true) (hm : ∀ c, c ∈ t → c ∈ s) : ascB t = true := by
  unfold ascB at h ⊢
  refine List.all_eq_true.2 fun c hc => List.all_eq_true.1 h c (hm c hc)
theorem spl_mem (c : UInt8) : ∀ (s : Bs) (p : Bs), p ∈ spl c s → ∀ x, x ∈ p → x ∈ s
  | [], p, h, x, hx => by
    have : p = [] := by simpa [spl] using h
    subst this; cases hx
  | b :: l, p, h, x, hx => by
    have ih := spl_mem c l
    unfold spl at h
    split at h
    · rcases List.mem_cons.1 h with rfl | h
      · cases hx
      · exact List.mem_cons_of_mem _ (ih p h x hx)
    · split at h
      · rename_i q ps hq
        rw [hq] at ih
        rcases List.mem_cons.1 h with rfl | h
        · rcases List.mem_cons.1 hx with rfl | hx
          · simp
          · exact List.mem_cons_of_mem _ (ih q (by simp) x hx)
        · exact List.mem_cons_of_mem _ (ih p (List.mem_cons_of_mem _ h) x hx)
      · have : p = [b] := by simpa using h
        subst this
        have : x = b := by simpa using hx
        rw [this]; simp
theorem spl_all (c : UInt8) : ∀ (s : Bs) (x : UInt8), x ∈ s → x ≠ c → ∃ p, p ∈ spl c s ∧ x ∈ p
  | [], x, hx, _ => by cases hx
  | b :: l, x, hx, hn => by
    have ih := spl_all c l x
    unfold spl
    rcases List.mem_cons.1 hx with h | h
    · rw [if_neg (by rw [← h]; exact hn)]
      split
      · exact ⟨_, List.mem_cons_self, by rw [h]; simp⟩
      · exact ⟨_, List.mem_cons_self, by rw [h]; simp⟩
    · obtain ⟨p, h1, h2⟩ := ih h hn
      split
      · exact ⟨p, List.mem_cons_of_mem _ h1, h2⟩
      · split
        · rename_i q ps hq
          rw [hq] at h1
          rcases List.mem_cons.1 h1 with rfl | h1
          · exact ⟨_, List.mem_cons_self, List.mem_cons_of_mem _ h2⟩
          · exact ⟨p, List.mem_cons_of_mem _ h1, h2⟩
        · rename_i hq
          rw [hq] at h1; cases h1
theorem trim_mem (c : UInt8) (s : Bs) : (trL c (trR c s)).length ≤ s.length ∧ ∀ x, x ∈ trL c (trR c s) → x ∈ s := by
  have h1 := trR_len c s
  have h2 : (trL c (trR c s)).Sublist (trR c s) := List.dropWhile_sublist _
  refine ⟨Nat.le_trans h2.length_le h1, fun x hx => ?_⟩
  have h3 := h2.subset hx
  unfold trR at h3
  have h4 := (List.dropWhile_sublist (l := s.reverse) (· == c)).subset (List.mem_reverse.1 h3)
  exact List.mem_reverse.1 h4
end Go.Proofs.YtgjfcdcpiamikaaGreatDoor
