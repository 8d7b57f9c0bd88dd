/- Plain: the place of an instance: the program's search and the reference's. -/
import Derived.Test.YtmcegaabopcmfaaPb
namespace Go.Proofs.Ytmcegaabopcmfaa
set_option linter.unusedVariables false

theorem u64_id {n : Int} (h : 0 ≤ n ∧ n ≤ 18446744073709551615) : IntKind.wrap .u64 n = n := by
  unfold IntKind.wrap
  simp [IntKind.bits, IntKind.signed]
  omega
theorem half_eq {m : Int} (h : 0 ≤ m ∧ m ≤ 1000000000) : IntKind.wrap .i64 (shr_ .u64 (IntKind.wrap .u64 (wr m)) 1) = m / 2 := by
  rw [wr_id (n := m) (by omega), u64_id (by omega)]
  have e1 : shr_ .u64 m 1 = m / 2 := by
    show m.fdiv (2 ^ (min (1 : Int).toNat IntKind.u64.bits)) = _
    have : min (1 : Int).toNat IntKind.u64.bits = 1 := by decide
    rw [this]
    rw [Int.fdiv_eq_ediv_of_nonneg _ (by decide)]
    rfl
  rw [e1]
  exact wr_id (by omega)

def Srt (xs : List S_api_Instance) : Prop := xs.Pairwise fun x y => cmpL x.Key y.Key < 0
theorem leB_cmp (a b : Bs) (h : leB a b = false) : cmpL b a < 0 := by
  unfold leB at h
  rw [less_cmp] at h
  simp at h
  have h1 := cmp_rng a b
  have h2 := cmp_swap a b
  have h3 := (cmp_zero a b)
  have : cmpL a b ≠ 0 := fun h0 => h.2 (h3.1 h0)
  omega
theorem ciR_srt : ∀ (l : List S_api_Instance) (last : Bs), ciR l last = 0 → Srt l ∧ ∀ x, x ∈ l → cmpL last x.Key < 0
  | [], last, _ => ⟨List.Pairwise.nil, fun x h => by cases h⟩
  | x :: l, last, h => by
    simp only [ciR] at h
    by_cases hc : ci1 x (leB x.Key last) ≠ 0
    · rw [if_pos hc] at h; exact absurd h hc
    · rw [if_neg hc] at h
      have hc' : ci1 x (leB x.Key last) = 0 := by omega
      have hl : leB x.Key last = false := by
        unfold ci1 ci3 at hc'
        cases hk : keyP x.Key
        · rw [hk] at hc'; simp at hc'
        · cases hq : leB x.Key last
          · rfl
          · rw [hk, hq] at hc'; simp at hc'
      have h1 := leB_cmp _ _ hl
      obtain ⟨h2, h3⟩ := ciR_srt l x.Key h
      refine ⟨List.Pairwise.cons h3 h2, fun y hy => ?_⟩
      rcases List.mem_cons.1 hy with rfl | hy
      · exact h1
      · exact cmp_trans _ _ _ h1 (h3 y hy)
theorem ciF_srt {xs : List S_api_Instance} (h : ciF xs = 0) : Srt xs := by
  unfold ciF at h
  split at h
  · omega
  · exact (ciR_srt xs [] h).1
theorem srt_at {xs : List S_api_Instance} (h : Srt xs) {i j : Nat} {x y : S_api_Instance} (hi : xs[i]? = some x) (hj : xs[j]? = some y) (hij : i < j) : cmpL x.Key y.Key < 0 := by
  obtain ⟨h1, e1⟩ := List.getElem?_eq_some_iff.1 hi
  obtain ⟨h2, e2⟩ := List.getElem?_eq_some_iff.1 hj
  have := List.pairwise_iff_getElem.1 h i j h1 h2 hij
  rw [e1, e2] at this
  exact this
def hasK (xs : List S_api_Instance) (key : Bs) : Bool := xs.any fun x => decide (x.Key = key)
theorem hasK_iff {xs : List S_api_Instance} {key : Bs} : hasK xs key = true ↔ ∃ (i : Nat) (x : S_api_Instance), xs[i]? = some x ∧ x.Key = key := by
  unfold hasK
  rw [List.any_eq_true]
  constructor
  · rintro ⟨x, hx, hk⟩
    obtain ⟨i, hi, rfl⟩ := List.mem_iff_getElem.1 hx
    exact ⟨i, xs[i], List.getElem?_eq_getElem hi, by simpa using hk⟩
  · rintro ⟨i, x, hx, hk⟩
    exact ⟨x, List.mem_of_getElem? hx, by simpa using hk⟩
theorem instAt_ok (xs : List S_api_Instance) (key : Bs) (h : xs.length ≤ 1000) : Ok (m_gateref2_InstanceAt xs key) fun r => decide (r < 0) = !hasK xs key := by
  unfold m_gateref2_InstanceAt m_slices_IndexFunc_L_api_Instance_api_Instance_
  refine ok_bind (Q := fun r => decide (r < 0) = !hasK xs key) ?_ fun r hr => ok_some hr
  refine ok_g (by omega) ?_
  have key' : ∀ (l : List S_api_Instance) (k : Nat), Ok (forL (fun (k : Nat) (x : S_api_Instance) (s : Unit) => slices_IndexFunc_L_api_Instance_api_Instance__L1 (fun (a0 : S_api_Instance) => m_gateref2_InstanceAt_1 a0 key) k x) (fun (s : Unit) => slices_IndexFunc_L_api_Instance_api_Instance__E1) k l ()) fun r => decide (r < 0) = !hasK l key := by
    intro l
    induction l with
    | nil => intro k; exact ok_some (by simp [hasK])
    | cons x l ih =>
      intro k
      by_cases hx : x.Key = key
      · refine ok_of (x := (k : Int)) ?_ ?_
        · show (slices_IndexFunc_L_api_Instance_api_Instance__L1 _ k x).bind _ = _
          simp [slices_IndexFunc_L_api_Instance_api_Instance__L1, m_gateref2_InstanceAt_1, hx, after]
        · simp [hasK, hx]
      · have e1 : hasK (x :: l) key = hasK l key := by simp [hasK, hx]
        rw [e1]
        have e2 : slices_IndexFunc_L_api_Instance_api_Instance__L1 (fun (a0 : S_api_Instance) => m_gateref2_InstanceAt_1 a0 key) k x = some (.inl ()) := by
          simp [slices_IndexFunc_L_api_Instance_api_Instance__L1, m_gateref2_InstanceAt_1, hx]
        show Ok ((slices_IndexFunc_L_api_Instance_api_Instance__L1 _ k x).bind _) _
        rw [e2]
        exact ih (k + 1)
  exact key' xs 0
theorem place_ok (xs : List S_api_Instance) (key : Bs) (h : xs.length ≤ 1000) (hs : Srt xs) :
    Ok (m_upstream_place xs key) fun r => r.2 = hasK xs key ∧ (r.2 = true → 0 ≤ r.1 ∧ ∃ x, xs[r.1.toNat]? = some x ∧ x.Key = key) := by
  unfold m_upstream_place m_slices_BinarySearchFunc_L_api_Instance_api_Instance_string_
  refine ok_bind (Q := fun r => r.2 = hasK xs key ∧ (r.2 = true → 0 ≤ r.1 ∧ ∃ x, xs[r.1.toNat]? = some x ∧ x.Key = key)) ?_ fun r hr => ok_some hr
  refine ok_iter (fun s : Int × Int => 0 ≤ s.1 ∧ s.1 ≤ s.2 ∧ s.2 ≤ (xs.length : Int) ∧ (∀ (i : Nat) x, (i : Int) < s.1 → xs[i]? = some x → cmpL x.Key key < 0) ∧ (∀ (i : Nat) x, s.2 ≤ (i : Int) → xs[i]? = some x → ¬ cmpL x.Key key < 0)) (fun s => (s.2 - s.1).toNat) ?_ _ ⟨by simp, by simp, by simp, fun i x hi => by simp at hi; omega, fun i x hi hx => by have := lt_some hx; simp at hi; omega⟩
  rintro ⟨i, j⟩ ⟨h1, h2, h3, h4, h5⟩
  simp only at h1 h2 h3 h4 h5
  unfold slices_BinarySearchFunc_L_api_Instance_api_Instance_string__L2
  refine ok_if (fun hc => ?_) (fun hc => ?_)
  · have hc : i < j := by simpa using hc
    simp only
    rw [half_eq (m := i + j) (by omega)]
    have hm : 0 ≤ (i + j) / 2 ∧ i ≤ (i + j) / 2 ∧ (i + j) / 2 < j := by omega
    obtain ⟨x, hx⟩ : ∃ x, xs[((i + j) / 2).toNat]? = some x := ⟨_, List.getElem?_eq_getElem (by omega)⟩
    have e1 : at? xs ((i + j) / 2) = some x := by unfold at?; rw [if_pos hm.1]; exact hx
    rw [e1]
    simp only [Option.bind_some, m_upstream_place_1, m_strings_Compare]
    refine ok_if (fun hq => ok_some ?_) (fun hq => ok_some ?_)
    · have hq : cmpL x.Key key < 0 := by simpa using hq
      simp only [rd]
      rw [wr_id (by omega)]
      refine ⟨⟨by omega, by omega, h3, fun q y hq' hy => ?_, h5⟩, by omega⟩
      by_cases he : q = ((i + j) / 2).toNat
      · subst he; rw [hx] at hy; cases hy; exact hq
      · exact cmp_trans _ _ _ (srt_at hs hy hx (by omega)) hq
    · have hq : ¬ cmpL x.Key key < 0 := by simpa using hq
      simp only [rd]
      refine ⟨⟨h1, by omega, by omega, h4, fun q y hq' hy => ?_⟩, by omega⟩
      by_cases he : q = ((i + j) / 2).toNat
      · subst he; rw [hx] at hy; cases hy; exact hq
      · intro hlt
        exact hq (cmp_trans _ _ _ (srt_at hs hx hy (by omega)) hlt)
  · have hij : i = j := by simp at hc; omega
    subst hij
    have hno : ∀ (q : Nat) x, xs[q]? = some x → x.Key = key → (q : Int) = i := by
      intro q x hx hk
      by_cases h6 : (q : Int) < i
      · have := h4 q x h6 hx; rw [hk, (cmp_zero key key).2 rfl] at this; omega
      · by_cases h7 : (q : Int) = i
        · exact h7
        · exfalso
          obtain ⟨y, hy⟩ : ∃ y, xs[i.toNat]? = some y := ⟨_, List.getElem?_eq_getElem (by have := lt_some hx; omega)⟩
          have := srt_at hs hy hx (by omega)
          rw [hk] at this
          exact h5 i.toNat y (by omega) hy this
    unfold slices_BinarySearchFunc_L_api_Instance_api_Instance_string__J1 slices_BinarySearchFunc_L_api_Instance_api_Instance_string__J3
    by_cases hl : i < (xs.length : Int)
    · obtain ⟨y, hy⟩ : ∃ y, xs[i.toNat]? = some y := ⟨_, List.getElem?_eq_getElem (by omega)⟩
      have e1 : at? xs i = some y := by unfold at?; rw [if_pos h1]; exact hy
      have e2 : decide (i < (xs.length : Int)) = true := by simpa using hl
      simp only [e2, if_true, e1, Option.bind_some, m_upstream_place_1, m_strings_Compare, Option.map_some]
      refine ok_some ?_
      simp only [rd]
      by_cases hk : y.Key = key
      · have e3 : Lib.compareBytes y.Key key = 0 := (cmp_zero _ _).2 hk
        refine ⟨?_, fun _ => ⟨h1, y, hy, hk⟩⟩
        rw [e3, hasK_iff.2 ⟨_, y, hy, hk⟩]; rfl
      · have e3 : ¬ Lib.compareBytes y.Key key = 0 := fun h => hk ((cmp_zero _ _).1 h)
        refine ⟨?_, fun h => absurd h (by simpa using e3)⟩
        cases hh : hasK xs key
        · simpa using e3
        · exfalso
          obtain ⟨q, x, hx, hxk⟩ := hasK_iff.1 hh
          have := hno q x hx hxk
          have hq : q = i.toNat := by omega
          subst hq
          rw [hy] at hx; cases hx; exact hk hxk
    · have e2 : decide (i < (xs.length : Int)) = false := by simpa using hl
      simp only [e2, if_false, Option.map_some, Bool.false_eq_true]
      refine ok_some ?_
      simp only [rd]
      refine ⟨?_, fun h => by cases h⟩
      cases hh : hasK xs key
      · rfl
      · exfalso
        obtain ⟨q, x, hx, hxk⟩ := hasK_iff.1 hh
        have := hno q x hx hxk
        have := lt_some hx
        omega
end Go.Proofs.Ytmcegaabopcmfaa
