/- Plain: the law ScopesCover is true for every list of numbers. -/
import Derived.Test.YtpeeeanmfmhlgaaGreatDoorSc
namespace Go.Proofs.YtpeeeanmfmhlgaaGreatDoor
set_option linter.unusedVariables false
set_option maxRecDepth 20000
/-- the scopes that two lists both cover -/
def mtS (b : List Bs) (x : Bs) : List Bs := b.flatMap fun y => if cvB x y = true then [y] else if cvB y x = true then [x] else []
def mtL (a b : List Bs) : List Bs := a.flatMap (mtS b)
theorem mtS_len (b : List Bs) (x : Bs) : (mtS b x).length ≤ b.length := by
  induction b with
  | nil => simp [mtS]
  | cons y b ih =>
    unfold mtS at ih ⊢
    rw [List.flatMap_cons, List.length_append]
    have : (if cvB x y = true then [y] else if cvB y x = true then [x] else []).length ≤ 1 := by
      split
      · simp
      · split <;> simp
    simp only [List.length_cons]; omega
theorem mtL_len (a b : List Bs) : (mtL a b).length ≤ a.length * b.length := by
  induction a with
  | nil => simp [mtL]
  | cons x a ih =>
    unfold mtL at ih ⊢
    have := mtS_len b x
    rw [List.flatMap_cons, List.length_append, List.length_cons, Nat.succ_mul]
    omega
theorem mtL_mem {a b : List Bs} (ha : a.all scP = true) (hb : b.all scP = true) (z : Bs) : z ∈ mtL a b ↔ (z ∈ a ∨ z ∈ b) ∧ cvL a z = true ∧ cvL b z = true := by
  have ha := List.all_eq_true.1 ha
  have hb := List.all_eq_true.1 hb
  unfold mtL mtS
  simp only [List.mem_flatMap]
  unfold cvL
  simp only [List.any_eq_true]
  constructor
  · rintro ⟨x, hx, y, hy, hz⟩
    split at hz
    · rename_i h
      simp only [List.mem_singleton] at hz
      subst hz
      exact ⟨.inr hy, ⟨x, hx, h⟩, ⟨_, hy, cvB_refl _⟩⟩
    · split at hz
      · rename_i h
        simp only [List.mem_singleton] at hz
        subst hz
        exact ⟨.inl hx, ⟨_, hx, cvB_refl _⟩, ⟨y, hy, h⟩⟩
      · cases hz
  · rintro ⟨hm, ⟨x, hx, h1⟩, ⟨y, hy, h2⟩⟩
    rcases hm with hm | hm
    · refine ⟨z, hm, y, hy, ?_⟩
      by_cases h3 : cvB z y = true
      · rw [if_pos h3, cvB_anti (ha z hm) (hb y hy) h3 h2]; simp
      · rw [if_neg h3, if_pos h2]; simp
    · exact ⟨x, hx, z, hm, by rw [if_pos h1]; simp⟩
section
variable (a b : List Bs) (ha : Sh a) (hb : Sh b) (hl : a.length ≤ 50 ∧ b.length ≤ 50)
include ha hb
theorem coversP_eq : m_token_Covers a b = some (if or2 (scF a) (scF b) ≠ 0 then (false, or2 (scF a) (scF b)) else (cvA a b, 0)) := by
  unfold m_token_Covers
  rw [lists_eq a b ha hb]
  simp only [Option.bind_some, coverAll_eq a b ha hb]
  by_cases h : or2 (scF a) (scF b) = 0 <;> simp [h]
omit hb in
theorem leastP_eq : m_token_LeastScopes a = some (if scF a ≠ 0 then ([], scF a) else (lsP a, 0)) := by
  unfold m_token_LeastScopes
  rw [chkC_eq a ha]
  simp only [Option.bind_some, least_eq a ha]
  by_cases h : scF a = 0 <;> simp [h]
include hl
theorem meetLoop : Ok (forL (fun (k : Nat) (x : Bs) (s : (List Bs)) => token_Meet_L1 b k x s) (fun (s : (List Bs)) => token_Meet_E1 s) 0 a []) fun r => r = (if 50 < (lsP (mtL a b)).length then ([], 2) else (lsP (mtL a b), 0)) := by
  have hm : ∀ l : List Bs, (∀ x, x ∈ l → x ∈ a ∨ x ∈ b) → ∀ x, x ∈ l → x.length ≤ 1000000 := fun l h x hx => (h x hx).elim (ha.2 x) (hb.2 x)
  refine ok_forL (I := fun k (s : List Bs) => s = mtL (a.take k) b) a 0 [] (by simp [mtL]) ?_ ?_
  · intro j x s _ hx hs
    have hx : a[j]? = some x := by simpa using hx
    have hj := lt_some hx
    have hxl := ha.2 x (List.mem_of_getElem? hx)
    unfold token_Meet_L1
    refine ok_g (by omega) ?_
    have hs0 : s.length ≤ 50 * 50 := by
      have h1 := mtL_len (a.take j) b
      rw [← hs] at h1
      have h2 : (a.take j).length * b.length ≤ 50 * 50 := Nat.mul_le_mul (by rw [List.length_take]; omega) (by omega)
      omega
    refine ok_mono (Q := rd (fun s' => s' = s ++ mtS b x) fun _ => False) (ok_forL (I := fun k (t : List Bs) => t = s ++ mtS (b.take k) x) b 0 s (by simp [mtS]) ?_ ?_) ?_
    · intro i y t _ hy ht
      have hy : b[i]? = some y := by simpa using hy
      have hi := lt_some hy
      have hyl := hb.2 y (List.mem_of_getElem? hy)
      have hlen : t.length ≤ 10000 := by
        rw [ht, List.length_append]
        have := mtS_len (b.take i) x
        rw [List.length_take] at this
        omega
      have e1 : mtS (b.take (i + 1)) x = mtS (b.take i) x ++ (if cvB x y = true then [y] else if cvB y x = true then [x] else []) := by
        unfold mtS
        rw [List.take_add_one, hy, List.flatMap_append]
        simp
      unfold token_Meet_L2 token_Meet_J3
      rw [covers_eq x y hxl, covers_eq y x hyl]
      simp only [Option.bind_some]
      cases h1 : cvB x y
      · cases h2 : cvB y x
        · simp only [Bool.false_eq_true, if_false]
          refine ok_some ?_
          show t = _
          rw [e1, h1, h2, ht]; simp
        · simp only [Bool.false_eq_true, if_false, if_true]
          rw [if_pos (by omega)]
          refine ok_some ?_
          show t ++ [x] = _
          rw [e1, h1, h2, ht]; simp
      · simp only [if_true]
        rw [if_pos (by omega)]
        refine ok_some ?_
        show t ++ [y] = _
        rw [e1, h1, ht]; simp
    · intro t ht
      unfold token_Meet_E2
      refine ok_some ?_
      show t = _
      simpa using ht
    · rintro (t | t) ht
      · have ht : t = s ++ mtS b x := ht
        show t = _
        unfold mtL
        rw [List.take_add_one, hx, List.flatMap_append, ht, hs]
        simp [mtL]
      · exact ht.elim
  · intro s hs
    have hs : s = mtL a b := by simpa using hs
    have hlen : (mtL a b).length ≤ 1000000 := by
      have h1 := mtL_len a b
      have h2 : a.length * b.length ≤ 50 * 50 := Nat.mul_le_mul hl.1 hl.2
      omega
    have hsh : Sh (mtL a b) := ⟨hlen, hm _ fun z hz => by
      unfold mtL mtS at hz
      simp only [List.mem_flatMap] at hz
      obtain ⟨x, hx, y, hy, hz⟩ := hz
      split at hz
      · simp only [List.mem_singleton] at hz; subst hz; exact .inr hy
      · split at hz
        · simp only [List.mem_singleton] at hz; subst hz; exact .inl hx
        · cases hz⟩
    unfold token_Meet_E1
    rw [hs, least_eq _ hsh]
    simp only [Option.bind_some]
    by_cases h : 50 < (lsP (mtL a b)).length
    · rw [if_pos (by simp; omega), if_pos h]; exact ok_some rfl
    · rw [if_neg (by simp; omega), if_neg h]; exact ok_some rfl
end
theorem sc_ok {a : List Bs} (h : scF a = 0) : a.length ≤ 50 ∧ a.all scP = true := by
  unfold scF at h
  split at h
  · cases h
  · split at h
    · rename_i h1 h2; exact ⟨by omega, h2⟩
    · cases h
theorem meetP_eq (a b : List Bs) (ha : Sh a) (hb : Sh b) (hl : a.length * b.length ≤ 50 ∨ or2 (scF a) (scF b) ≠ 0) : m_token_Meet a b = some (if or2 (scF a) (scF b) ≠ 0 then ([], or2 (scF a) (scF b)) else (lsP (mtL a b), 0)) := by
  unfold m_token_Meet
  rw [lists_eq a b ha hb]
  simp only [Option.bind_some]
  by_cases h : or2 (scF a) (scF b) = 0
  · have h1 : scF a = 0 := by unfold or2 at h; split at h; · contradiction
                              · rename_i h1; simpa using h1
    have h2 : scF b = 0 := by unfold or2 at h; rw [h1] at h; simpa using h
    obtain ⟨l1, v1⟩ := sc_ok h1
    obtain ⟨l2, v2⟩ := sc_ok h2
    have hl := hl.resolve_right (by simp [h])
    rw [if_neg (by simp [h]), if_pos (by omega), ok_eq (meetLoop a b ha hb ⟨l1, l2⟩)]
    have h3 := lsP_len (mtL a b)
    have h4 := mtL_len a b
    rw [if_neg (by omega), if_neg (by simp [h])]
  · rw [if_pos (by simpa using h), if_pos h]
theorem meetOf_eq (a b : List Bs) (ha : Sh a) (hb : Sh b) (h1 : scF a = 0) (h2 : scF b = 0) : m_gateref2_MeetOf a b = some (lsP (mtL a b)) := by
  obtain ⟨l1, v1⟩ := sc_ok h1
  obtain ⟨l2, v2⟩ := sc_ok h2
  have hcat : m_slices_Concat_L_string_string_ [a, b] = some (a ++ b) := by
    unfold m_slices_Concat_L_string_string_
    rw [if_pos (by simp)]
    simp only [forL, slices_Concat_L_string_string__L1]
    rw [wr_id (n := 0 + (a.length : Int)) (by omega)]
    rw [if_neg (by simp)]
    simp only [Option.bind_some, after]
    rw [wr_id (n := 0 + (a.length : Int) + (b.length : Int)) (by omega)]
    rw [if_neg (by simp; omega)]
    simp only [Option.bind_some, after]
    unfold slices_Concat_L_string_string__E1 m_slices_Grow
    rw [if_pos (by omega)]
    simp only [Option.bind_some]
    rw [if_pos (by simp)]
    simp only [forL, slices_Concat_L_string_string__L2, slices_Concat_L_string_string__E2]
    rw [if_pos (by simp; omega)]
    simp only [Option.bind_some, after]
    rw [if_pos (by simp; omega)]
    simp [after]
  unfold m_gateref2_MeetOf
  rw [hcat]
  simp only [Option.bind_some]
  rw [if_pos (by simp; omega)]
  refine ok_eq (ok_forL (I := fun k (s : List Bs) => s = ((a ++ b).take k).filter fun z => cvL a z && cvL b z) (a ++ b) 0 [] (by simp) ?_ ?_)
  · intro j x s _ hx hs
    have hx : (a ++ b)[j]? = some x := by simpa using hx
    have hj := lt_some hx
    rw [List.length_append] at hj
    have hlen := List.length_filter_le (fun z => cvL a z && cvL b z) ((a ++ b).take j)
    rw [List.length_take] at hlen
    have e1 : ((a ++ b).take (j + 1)).filter (fun z => cvL a z && cvL b z) = s ++ (if (cvL a x && cvL b x) = true then [x] else []) := by
      rw [List.take_add_one, hx, List.filter_append, hs]
      cases hq : (cvL a x && cvL b x) <;> simp [hq]
    unfold gateref2_MeetOf_L1 gateref2_MeetOf_J3 gateref2_MeetOf_J2
    rw [covered_eq a x ha, covered_eq b x hb]
    simp only [Option.bind_some]
    cases h3 : cvL a x
    · simp only [Bool.false_eq_true, if_false]
      refine ok_some ?_
      show s = _
      rw [e1, h3]; simp
    · cases h4 : cvL b x
      · simp only [Bool.false_eq_true, if_false, if_true]
        refine ok_some ?_
        show s = _
        rw [e1, h3, h4]; simp
      · simp only [if_true]
        rw [if_pos (by rw [hs]; omega)]
        refine ok_some ?_
        show s ++ [x] = _
        rw [e1, h3, h4]; simp
  · intro s hs
    have hs : s = (a ++ b).filter fun z => cvL a z && cvL b z := by rw [hs, Nat.zero_add, List.take_length]
    have hlen := List.length_filter_le (fun z => cvL a z && cvL b z) (a ++ b)
    rw [List.length_append] at hlen
    unfold gateref2_MeetOf_E1
    rw [leastOf_eq s ⟨by rw [hs]; omega, fun x hx => by
      rw [hs] at hx
      rcases List.mem_append.1 (List.mem_filter.1 hx).1 with h | h
      · exact ha.2 x h
      · exact hb.2 x h⟩]
    refine ok_some (lsP_ext fun z => ?_)
    rw [mtL_mem v1 v2, hs, List.mem_filter, List.mem_append, Bool.and_eq_true]
theorem signed_eq : m_gatelaw2_signed = some true := by
  have h : m_token_Encode [97, 98] = some [89, 87, 73] := by
    unfold m_token_Encode
    exact iter_some.2 ⟨2, by decide +kernel⟩
  unfold m_gatelaw2_signed
  rw [h]
  decide +kernel
theorem eqB_self (l : List Bs) (h : l.length ≤ 1000000000) : m_slices_Equal_L_string_string_ l l = some true :=
  gEql_self (fun x7 x10 : Bs => decide (x7 ≠ x10)) (fun x => by simp) l h

/-- what the stream gives -/
def ScB (l : List Bs) : Prop := (l.length ≤ 5 ∨ l = List.replicate 51 []) ∧ Sh l
theorem scope_ok {k : Int} {s : S_gatemake_Stream} (h : SB k s) (hk : k ≤ 1000000) : Ok (m_gatemake_Stream_Scope s) fun r => r.1.length ≤ 1000 ∧ SB (k + 2) r.2 := by
  unfold m_gatemake_Stream_Scope m_strings_Repeat
  refine ok_bind (flip_ok h (by omega) _ (by omega)) fun r hr => ok_if (fun _ => ?_) (fun _ => ?_)
  · rw [if_pos (by decide)]
    simp only [Option.bind_some]
    refine ok_g (by rw [Lib.repeatL_length]; decide) (ok_bind (some_ok hr (by omega) _ ⟨by simp, by simp⟩) fun r3 h3 => ok_some ⟨?_, h3.2.mono (by omega)⟩)
    have h1 := h3.1
    simp only [List.mem_cons, List.not_mem_nil, or_false] at h1
    simp only
    rcases h1 with h1 | h1 | h1 | h1 | h1 | h1 | h1 | h1 <;> rw [h1] <;> first | decide | (rw [List.length_append, Lib.repeatL_length]; decide)
  · refine ok_bind (some_ok hr (by omega) _ ⟨by simp, by simp⟩) fun r3 h3 => ok_some ⟨?_, h3.2.mono (by omega)⟩
    have h1 := h3.1
    simp only [List.mem_cons, List.not_mem_nil, or_false] at h1
    simp only
    rcases h1 with h1 | h1 | h1 | h1 | h1 | h1 | h1 | h1 | h1 | h1 <;> rw [h1] <;> decide
theorem rightSc_ok {k : Int} {s : S_gatemake_Stream} (h : SB k s) (hk : k ≤ 1000000) : Ok (m_gatemake_Stream_RightScopes s) fun r => (r.1.length ≤ 4 ∧ ∀ x, x ∈ r.1 → x.length ≤ 1000) ∧ SB (k + 5) r.2 := by
  unfold m_gatemake_Stream_RightScopes
  refine ok_bind (range_ok h (by omega) 0 4 (by omega)) fun r2 h2 => ok_g (by omega) ?_
  refine ok_rng (fun (j : Nat) (q : (List Int) × Int × (List Bs)) => SB (k + 1 + (j : Int)) ⟨q.1, q.2.1⟩ ∧ q.2.2.length ≤ j ∧ ∀ x, x ∈ q.2.2 → x.length ≤ 1000) _ 0 _ ⟨by simpa using h2.2, by simp, by simp⟩ ?_ ?_
  · rintro j ⟨c, d, l⟩ _ hj ⟨q1, q2, q3⟩
    simp only at q1 q2 q3
    have hj : j < 4 := by omega
    unfold gatemake_Stream_RightScopes_L1
    refine ok_bind (some_ok q1 (by omega) _ ⟨by simp, by simp⟩) fun r3 h3 => ok_g (by simp only; omega) (ok_some ⟨h3.2.mono (by omega), by simp; omega, fun y hy => ?_⟩)
    rcases List.mem_append.1 hy with hy | hy
    · exact q3 y hy
    · simp only [List.mem_singleton] at hy
      subst hy
      have h1 := h3.1
      simp only [List.mem_cons, List.not_mem_nil, or_false] at h1
      rcases h1 with h1 | h1 | h1 | h1 | h1 | h1 | h1 | h1 | h1 <;> rw [h1] <;> decide
  · rintro ⟨c, d, l⟩ ⟨q1, q2, q3⟩
    simp only at q1 q2 q3
    exact ok_some ⟨⟨by simp only; omega, q3⟩, q1.mono (by omega)⟩
theorem scopes_ok {k : Int} {s : S_gatemake_Stream} (h : SB k s) (hk : k ≤ 100000) : Ok (m_gatemake_Stream_Scopes s) fun r => ScB r.1 ∧ SB (k + 20) r.2 := by
  unfold m_gatemake_Stream_Scopes
  refine ok_bind (rightSc_ok h (by omega)) fun r2 h2 => ok_bind (flip_ok h2.2 (by omega) _ (by omega)) fun r4 h4 => ?_
  have hJ : ∀ (l : List Bs) (c : List Int) (d : Int), l.length ≤ 5 ∧ (∀ x, x ∈ l → x.length ≤ 1000) → SB (k + 10) ⟨c, d⟩ → Ok (gatemake_Stream_Scopes_J1 l c d) fun r => ScB r.1 ∧ SB (k + 20) r.2 := by
    intro l c d hl hs
    unfold gatemake_Stream_Scopes_J1 gatemake_Stream_Scopes_J2
    refine ok_bind (flip_ok hs (by omega) _ (by omega)) fun r6 h6 => ok_if (fun _ => ok_g (by decide) (ok_some ⟨⟨.inr rfl, by simp, fun x hx => ?_⟩, h6.mono (by omega)⟩)) (fun _ => ok_some ⟨⟨.inl hl.1, by simp only; omega, fun x hx => by have := hl.2 x hx; omega⟩, h6.mono (by omega)⟩)
    rw [List.eq_of_mem_replicate hx]; decide
  refine ok_if (fun _ => ?_) (fun _ => hJ _ _ _ ⟨by omega, h2.1.2⟩ (h4.mono (by omega)))
  refine ok_bind (scope_ok h4 (by omega)) fun r7 h7 => ok_g (by omega) (hJ _ _ _ ⟨by simp; omega, fun x hx => ?_⟩ (h7.2.mono (by omega)))
  rcases List.mem_append.1 hx with hx | hx
  · exact h2.1.2 x hx
  · simp only [List.mem_singleton] at hx
    subst hx; exact h7.1
theorem mul_ok {a b : List Bs} (ha : ScB a) (hb : ScB b) : a.length * b.length ≤ 50 ∨ or2 (scF a) (scF b) ≠ 0 := by
  rcases ha.1 with h1 | h1
  · rcases hb.1 with h2 | h2
    · left
      have := Nat.mul_le_mul h1 h2
      omega
    · right
      have : scF b = 2 := by rw [h2]; unfold scF; rw [if_pos (by simp)]
      unfold or2; rw [this]
      split
      · assumption
      · decide
  · right
    have : scF a = 2 := by rw [h1]; unfold scF; rw [if_pos (by simp)]
    unfold or2; rw [this, if_pos (by decide)]; decide
theorem scopesCover_plain (L : List Int) : m_gatelaw2_ScopesCover L = some true := by
  refine ok_eq ?_
  unfold m_gatelaw2_ScopesCover
  refine ok_bind (scopes_ok (k := 0) ⟨by simp, by simp⟩ (by omega)) fun r2 h2 => ok_bind (scopes_ok h2.2 (by omega)) fun r4 h4 => ?_
  obtain ⟨a, s2⟩ := r2
  obtain ⟨b, s4⟩ := r4
  have ha : ScB a := h2.1
  have hb : ScB b := h4.1
  have hsa := ha.2
  have hsb := hb.2
  have hna := hsa.1
  have hnb := hsb.1
  have hml := mul_ok ha hb
  have hmo := meetOf_eq a b hsa hsb
  have hor : or2 (scF a) (scF b) = 0 → scF a = 0 ∧ scF b = 0 := by
    intro h0
    unfold or2 at h0
    split at h0
    · contradiction
    · rename_i h1; exact ⟨by simpa using h1, h0⟩
  have hcp := coversP_eq a b hsa hsb
  have hlp := leastP_eq a hsa
  have hmp := meetP_eq a b hsa hsb hml
  have herr := errs2 (scF a) (scF b)
  obtain ⟨t, ht⟩ : ∃ t, or2 (scF a) (scF b) = t := ⟨_, rfl⟩
  obtain ⟨u, hu⟩ : ∃ u, scF a = u := ⟨_, rfl⟩
  rw [ht] at hcp hmp hml hor herr
  simp only
  rw [hcp, hlp, hmp, faultC_eq a hsa, faultC_eq b hsb, chkC_eq a hsa]
  simp only [Option.bind_some]
  rw [herr]
  simp only [Option.bind_some]
  rw [hu] at hor hmo ⊢
  refine ok_of (x := true) ?_ rfl
  have hJ3 : ∀ (p q : List Bs × Int), p.1.length ≤ 1000000000 → q.1.length ≤ 1000000000 → gatelaw2_ScopesCover_J3 p q p.1 q.1 = some true := by
    intro p q hp hq
    unfold gatelaw2_ScopesCover_J3 gatelaw2_ScopesCover_J4
    rw [eqB_self p.1 hp, eqB_self q.1 hq, signed_eq]
    rfl
  have g1 := lsP_len a
  by_cases h0 : t = 0
  · subst h0
    obtain ⟨e1, e2⟩ := hor rfl
    subst e1
    have g2 := lsP_len (mtL a b)
    have g3 := mtL_len a b
    have g4 := hml.resolve_right (by simp)
    rw [coversOf_eq a b hsa hsb]
    simp only [ne_eq, not_true_eq_false, if_false, decide_false, Bool.false_eq_true, decide_true, if_true, Option.bind_some, bne_self_eq_false]
    unfold gatelaw2_ScopesCover_J1 gatelaw2_ScopesCover_J2
    rw [if_neg (by simp), if_pos (by simp), leastOf_eq a hsa]
    simp only [Option.bind_some]
    rw [if_pos (by simp), hmo rfl e2]
    simp only [Option.bind_some]
    exact hJ3 (lsP a, 0) (lsP (mtL a b), 0) (by simp only; omega) (by simp only; omega)
  · by_cases e1 : u = 0
    · subst e1
      simp only [ne_eq, h0, not_true_eq_false, not_false_eq_true, if_false, decide_false, Bool.false_eq_true, if_true, bne_self_eq_false]
      unfold gatelaw2_ScopesCover_J1 gatelaw2_ScopesCover_J2
      rw [if_neg (by simp), if_pos (by simp), leastOf_eq a hsa]
      simp only [Option.bind_some]
      rw [if_neg (by simpa using h0)]
      exact hJ3 (lsP a, 0) ([], _) (by simp only; omega) (by simp)
    · simp only [ne_eq, h0, e1, not_true_eq_false, not_false_eq_true, if_false, decide_false, Bool.false_eq_true, if_true, bne_self_eq_false]
      unfold gatelaw2_ScopesCover_J1 gatelaw2_ScopesCover_J2
      rw [if_neg (by simp), if_neg (by simpa using e1), if_neg (by simpa using h0)]
      exact hJ3 ([], _) ([], _) (by simp) (by simp)
end Go.Proofs.YtpeeeanmfmhlgaaGreatDoor
