/- Plain: instances: the checks of both sides, the search, what is drawn. -/
import Derived.Test.YtecnjgefohnkpaaKeYu
namespace Go.Proofs.Ytecnjgefohnkpaa
set_option linter.unusedVariables false
set_option maxRecDepth 20000

/-- a list that the laws draw -/
structure InsB (xs : List S_api_Instance) : Prop where
  len : xs.length ≤ 1000
  key : ∀ x, x ∈ xs → x.Key.length ≤ 1000
/-- the fault of an instance behind a key -/
def ci3 (a b c : Bool) : Int := if (!a) = true then 5 else if b = true then 7 else if c = true then 1 else 0
theorem ci3_eq {σ : Type} (u : σ) (a b c : Bool) : (if (!a) = true then some (.inr 5) else if b = true then some (.inr 7) else if c = true then some (.inr 1) else some (.inl u) : Option (σ ⊕ Int)) = if ci3 a b c ≠ 0 then some (.inr (ci3 a b c)) else some (.inl u) := by
  cases a <;> cases b <;> cases c <;> rfl
def ci1 (x : S_api_Instance) (late : Bool) : Int := ci3 (keyP x.Key) late (outP x.Weight 1 100)
def ciR : List S_api_Instance → Bs → Int
  | [], _ => 0
  | x :: l, last => if ci1 x (leB x.Key last) ≠ 0 then ci1 x (leB x.Key last) else ciR l x.Key
def ciF (xs : List S_api_Instance) : Int := if 50 < xs.length then 2 else ciR xs []
theorem ifault_eq (xs : List S_api_Instance) (h : InsB xs) : m_gateref2_InstancesFault xs = some (ciF xs) := by
  unfold m_gateref2_InstancesFault ciF
  by_cases h1 : 50 < xs.length
  · rw [if_pos (by simp; omega), if_pos h1]
  · rw [if_neg (by simp; omega), if_neg h1, if_pos (by have := h.len; omega)]
    have key : ∀ (l : List S_api_Instance) (k : Nat) (last : Bs), (∀ x, x ∈ l → x.Key.length ≤ 1000) → forL (fun (k : Nat) (x : S_api_Instance) (s : Bs) => gateref2_InstancesFault_L1 k x s) (fun (s : Bs) => gateref2_InstancesFault_E1 s) k l last = some (ciR l last) := by
      intro l
      induction l with
      | nil => intro k last _; rfl
      | cons x l ih =>
        intro k last hl
        have hx := key_eq x.Key (by have := hl x (by simp); omega)
        show (gateref2_InstancesFault_L1 k x last).bind _ = _
        have hb : gateref2_InstancesFault_L1 k x last = if ci1 x (leB x.Key last) ≠ 0 then some (.inr (ci1 x (leB x.Key last))) else some (.inl x.Key) := by
          unfold gateref2_InstancesFault_L1 m_gateref2_in ci1
          rw [hx, outP_in]
          simp only [Option.bind_some, leB]
          exact ci3_eq _ _ _ _
        rw [hb]
        simp only [ciR]
        by_cases hc : ci1 x (leB x.Key last) ≠ 0
        · simp only [hc, if_true, ne_eq, not_false_eq_true, Option.bind_some, after]
        · simp only [hc, if_false, Option.bind_some, after]
          exact ih (k + 1) x.Key fun y hy => hl y (List.mem_cons_of_mem _ hy)
    exact key xs 0 [] h.key
theorem chkI_eq (xs : List S_api_Instance) (h : InsB xs) : m_upstream_CheckInstances xs = some (ciF xs) := by
  unfold m_upstream_CheckInstances ciF
  by_cases h1 : 50 < xs.length
  · rw [if_pos (by simp; omega), if_pos h1]
  · rw [if_neg (by simp; omega), if_neg h1, if_pos (by have := h.len; omega)]
    have key : ∀ (l : List S_api_Instance) (k : Nat) (last : Bs), xs.drop k = l → (k = 0 → last = []) → (0 < k → ∃ y, xs[k - 1]? = some y ∧ y.Key = last) → forL (fun (k : Nat) (x : S_api_Instance) (s : Unit) => upstream_CheckInstances_L1 xs k x) (fun (s : Unit) => upstream_CheckInstances_E1) k l () = some (ciR l last) := by
      intro l
      induction l with
      | nil => intro k last _ _ _; rfl
      | cons x l ih =>
        intro k last hd h0 hp
        obtain ⟨d1, d2, d3⟩ := drop_at hd
        have hx := isKey_eq x.Key (by have := h.key x (List.mem_of_getElem? d2); omega)
        show (upstream_CheckInstances_L1 xs k x).bind _ = _
        have hb : upstream_CheckInstances_L1 xs k x = if ci1 x (leB x.Key last) ≠ 0 then some (.inr (ci1 x (leB x.Key last))) else some (.inl ()) := by
          unfold upstream_CheckInstances_L1 upstream_CheckInstances_J2 m_kit_Outside ci1
          rw [hx]
          simp only [Option.bind_some]
          cases hk : keyP x.Key
          · rfl
          · by_cases hk0 : 0 < k
            · obtain ⟨y, hy, rfl⟩ := hp hk0
              have e1 : at? xs ((k : Int) - 1) = some y := by
                rw [show (k : Int) - 1 = ((k - 1 : Nat) : Int) by omega, at_nat]; exact hy
              have e2 : decide (0 < (k : Int)) = true := by simpa using hk0
              simp only [e2, if_true, e1, Option.bind_some, leB, outP]
              exact ci3_eq _ true _ _
            · have hk1 : k = 0 := by omega
              subst hk1
              rw [h0 rfl, leB_nil hk, if_neg (by simp)]
              simp only [outP]
              exact ci3_eq _ true false _
        rw [hb]
        simp only [ciR]
        by_cases hc : ci1 x (leB x.Key last) ≠ 0
        · simp only [hc, if_true, ne_eq, not_false_eq_true, Option.bind_some, after]
        · simp only [hc, if_false, Option.bind_some, after]
          exact ih (k + 1) x.Key d3 (by omega) fun _ => ⟨x, by simpa using d2, rfl⟩
    exact key xs 0 [] rfl (fun _ => rfl) (fun h => by omega)
def Srt (xs : List S_api_Instance) : Prop := xs.Pairwise fun x y => cmpL x.Key y.Key < 0
theorem ciR_srt : ∀ (l : List S_api_Instance) (last : Bs), ciR l last = 0 → Srt l ∧ ∀ x, x ∈ l → cmpL last x.Key < 0
  | [], last, _ => ⟨List.Pairwise.nil, fun x h => by cases h⟩
  | x :: l, last, h => by
    simp only [ciR] at h
    by_cases hc : ci1 x (leB x.Key last) ≠ 0
    · rw [if_pos hc] at h; exact absurd h hc
    · rw [if_neg hc] at h
      have hc' : ci1 x (leB x.Key last) = 0 := by omega
      have hl : leB x.Key last = false := by
        unfold ci1 ci3 at hc'
        cases hk : keyP x.Key
        · rw [hk] at hc'; simp at hc'
        · cases hq : leB x.Key last
          · rfl
          · rw [hk, hq] at hc'; simp at hc'
      have h1 := leB_cmp _ _ hl
      obtain ⟨h2, h3⟩ := ciR_srt l x.Key h
      refine ⟨List.Pairwise.cons h3 h2, fun y hy => ?_⟩
      rcases List.mem_cons.1 hy with rfl | hy
      · exact h1
      · exact cmp_trans _ _ _ h1 (h3 y hy)
theorem ciF_srt {xs : List S_api_Instance} (h : ciF xs = 0) : Srt xs := by
  unfold ciF at h
  split at h
  · omega
  · exact (ciR_srt xs [] h).1
theorem srt_at {xs : List S_api_Instance} (h : Srt xs) {i j : Nat} {x y : S_api_Instance} (hi : xs[i]? = some x) (hj : xs[j]? = some y) (hij : i < j) : cmpL x.Key y.Key < 0 := by
  obtain ⟨h1, e1⟩ := List.getElem?_eq_some_iff.1 hi
  obtain ⟨h2, e2⟩ := List.getElem?_eq_some_iff.1 hj
  have := List.pairwise_iff_getElem.1 h i j h1 h2 hij
  rw [e1, e2] at this
  exact this
def hasK (xs : List S_api_Instance) (key : Bs) : Bool := xs.any fun x => decide (x.Key = key)
theorem hasK_iff {xs : List S_api_Instance} {key : Bs} : hasK xs key = true ↔ ∃ (i : Nat) (x : S_api_Instance), xs[i]? = some x ∧ x.Key = key := by
  unfold hasK
  rw [List.any_eq_true]
  constructor
  · rintro ⟨x, hx, hk⟩
    obtain ⟨i, hi, rfl⟩ := List.mem_iff_getElem.1 hx
    exact ⟨i, xs[i], List.getElem?_eq_getElem hi, by simpa using hk⟩
  · rintro ⟨i, x, hx, hk⟩
    exact ⟨x, List.mem_of_getElem? hx, by simpa using hk⟩
theorem instAt_ok (xs : List S_api_Instance) (key : Bs) (h : xs.length ≤ 1000) : Ok (m_gateref2_InstanceAt xs key) fun r => decide (r < 0) = !hasK xs key := by
  unfold m_gateref2_InstanceAt m_slices_IndexFunc_L_api_Instance_api_Instance_
  refine ok_bind (Q := fun r => decide (r < 0) = !hasK xs key) ?_ fun r hr => ok_some hr
  refine ok_g (by omega) ?_
  have key' : ∀ (l : List S_api_Instance) (k : Nat), Ok (forL (fun (k : Nat) (x : S_api_Instance) (s : Unit) => slices_IndexFunc_L_api_Instance_api_Instance__L1 (fun (a0 : S_api_Instance) => m_gateref2_InstanceAt_1 a0 key) k x) (fun (s : Unit) => slices_IndexFunc_L_api_Instance_api_Instance__E1) k l ()) fun r => decide (r < 0) = !hasK l key := by
    intro l
    induction l with
    | nil => intro k; exact ok_some (by simp [hasK])
    | cons x l ih =>
      intro k
      by_cases hx : x.Key = key
      · refine ok_of (x := (k : Int)) ?_ ?_
        · show (slices_IndexFunc_L_api_Instance_api_Instance__L1 _ k x).bind _ = _
          simp [slices_IndexFunc_L_api_Instance_api_Instance__L1, m_gateref2_InstanceAt_1, hx, after]
        · simp [hasK, hx]
      · have e1 : hasK (x :: l) key = hasK l key := by simp [hasK, hx]
        rw [e1]
        have e2 : slices_IndexFunc_L_api_Instance_api_Instance__L1 (fun (a0 : S_api_Instance) => m_gateref2_InstanceAt_1 a0 key) k x = some (.inl ()) := by
          simp [slices_IndexFunc_L_api_Instance_api_Instance__L1, m_gateref2_InstanceAt_1, hx]
        show Ok ((slices_IndexFunc_L_api_Instance_api_Instance__L1 _ k x).bind _) _
        rw [e2]
        exact ih (k + 1)
  exact key' xs 0
theorem place_ok (xs : List S_api_Instance) (key : Bs) (h : xs.length ≤ 1000) (hs : Srt xs) :
    Ok (m_upstream_place xs key) fun r => r.2 = hasK xs key ∧ (r.2 = true → 0 ≤ r.1 ∧ ∃ x, xs[r.1.toNat]? = some x ∧ x.Key = key) := by
  unfold m_upstream_place m_slices_BinarySearchFunc_L_api_Instance_api_Instance_string_
  refine ok_bind (Q := fun r => r.2 = hasK xs key ∧ (r.2 = true → 0 ≤ r.1 ∧ ∃ x, xs[r.1.toNat]? = some x ∧ x.Key = key)) ?_ fun r hr => ok_some hr
  refine ok_iter (fun s : Int × Int => 0 ≤ s.1 ∧ s.1 ≤ s.2 ∧ s.2 ≤ (xs.length : Int) ∧ (∀ (i : Nat) x, (i : Int) < s.1 → xs[i]? = some x → cmpL x.Key key < 0) ∧ (∀ (i : Nat) x, s.2 ≤ (i : Int) → xs[i]? = some x → ¬ cmpL x.Key key < 0)) (fun s => (s.2 - s.1).toNat) ?_ _ ⟨by simp, by simp, by simp, fun i x hi => by simp at hi; omega, fun i x hi hx => by have := lt_some hx; simp at hi; omega⟩
  rintro ⟨i, j⟩ ⟨h1, h2, h3, h4, h5⟩
  simp only at h1 h2 h3 h4 h5
  unfold slices_BinarySearchFunc_L_api_Instance_api_Instance_string__L2
  refine ok_if (fun hc => ?_) (fun hc => ?_)
  · have hc : i < j := by simpa using hc
    simp only
    rw [half_eq (m := i + j) (by omega)]
    have hm : 0 ≤ (i + j) / 2 ∧ i ≤ (i + j) / 2 ∧ (i + j) / 2 < j := by omega
    obtain ⟨x, hx⟩ : ∃ x, xs[((i + j) / 2).toNat]? = some x := ⟨_, List.getElem?_eq_getElem (by omega)⟩
    have e1 : at? xs ((i + j) / 2) = some x := by unfold at?; rw [if_pos hm.1]; exact hx
    rw [e1]
    simp only [Option.bind_some, m_upstream_place_1, m_strings_Compare]
    refine ok_if (fun hq => ok_some ?_) (fun hq => ok_some ?_)
    · have hq : cmpL x.Key key < 0 := by simpa using hq
      simp only [rd]
      rw [wr_id (by omega)]
      refine ⟨⟨by omega, by omega, h3, fun q y hq' hy => ?_, h5⟩, by omega⟩
      by_cases he : q = ((i + j) / 2).toNat
      · subst he; rw [hx] at hy; cases hy; exact hq
      · exact cmp_trans _ _ _ (srt_at hs hy hx (by omega)) hq
    · have hq : ¬ cmpL x.Key key < 0 := by simpa using hq
      simp only [rd]
      refine ⟨⟨h1, by omega, by omega, h4, fun q y hq' hy => ?_⟩, by omega⟩
      by_cases he : q = ((i + j) / 2).toNat
      · subst he; rw [hx] at hy; cases hy; exact hq
      · intro hlt
        exact hq (cmp_trans _ _ _ (srt_at hs hx hy (by omega)) hlt)
  · have hij : i = j := by simp at hc; omega
    subst hij
    have hno : ∀ (q : Nat) x, xs[q]? = some x → x.Key = key → (q : Int) = i := by
      intro q x hx hk
      by_cases h6 : (q : Int) < i
      · have := h4 q x h6 hx; rw [hk, (cmp_zero key key).2 rfl] at this; omega
      · by_cases h7 : (q : Int) = i
        · exact h7
        · exfalso
          obtain ⟨y, hy⟩ : ∃ y, xs[i.toNat]? = some y := ⟨_, List.getElem?_eq_getElem (by have := lt_some hx; omega)⟩
          have := srt_at hs hy hx (by omega)
          rw [hk] at this
          exact h5 i.toNat y (by omega) hy this
    unfold slices_BinarySearchFunc_L_api_Instance_api_Instance_string__J1 slices_BinarySearchFunc_L_api_Instance_api_Instance_string__J3
    by_cases hl : i < (xs.length : Int)
    · obtain ⟨y, hy⟩ : ∃ y, xs[i.toNat]? = some y := ⟨_, List.getElem?_eq_getElem (by omega)⟩
      have e1 : at? xs i = some y := by unfold at?; rw [if_pos h1]; exact hy
      have e2 : decide (i < (xs.length : Int)) = true := by simpa using hl
      simp only [e2, if_true, e1, Option.bind_some, m_upstream_place_1, m_strings_Compare, Option.map_some]
      refine ok_some ?_
      simp only [rd]
      by_cases hk : y.Key = key
      · have e3 : Lib.compareBytes y.Key key = 0 := (cmp_zero _ _).2 hk
        refine ⟨?_, fun _ => ⟨h1, y, hy, hk⟩⟩
        rw [e3, hasK_iff.2 ⟨_, y, hy, hk⟩]; rfl
      · have e3 : ¬ Lib.compareBytes y.Key key = 0 := fun h => hk ((cmp_zero _ _).1 h)
        refine ⟨?_, fun h => absurd h (by simpa using e3)⟩
        cases hh : hasK xs key
        · simpa using e3
        · exfalso
          obtain ⟨q, x, hx, hxk⟩ := hasK_iff.1 hh
          have := hno q x hx hxk
          have hq : q = i.toNat := by omega
          subst hq
          rw [hy] at hx; cases hx; exact hk hxk
    · have e2 : decide (i < (xs.length : Int)) = false := by simpa using hl
      simp only [e2, if_false, Option.map_some, Bool.false_eq_true]
      refine ok_some ?_
      simp only [rd]
      refine ⟨?_, fun h => by cases h⟩
      cases hh : hasK xs key
      · rfl
      · exfalso
        obtain ⟨q, x, hx, hxk⟩ := hasK_iff.1 hh
        have := hno q x hx hxk
        have := lt_some hx
        omega
theorem balanced_eq : m_gatelaw2_balanced = some true := by decide +kernel
theorem rightIns_ok {k : Int} {s : S_gatemake_Stream} (h : SB k s) (hk : k ≤ 1000000) : Ok (m_gatemake_Stream_RightInstances s) fun r => (r.1 ≠ [] ∧ r.1.length ≤ 4 ∧ ∀ x, x ∈ r.1 → x.Key.length ≤ 1000) ∧ SB (k + 8) r.2 := by
  unfold m_gatemake_Stream_RightInstances
  refine ok_g (by decide) ?_
  refine ok_forL (fun (j : Nat) (q : (List Int) × Int × (List S_api_Instance)) => SB (k + 2 * (j : Int)) ⟨q.1, q.2.1⟩ ∧ q.2.2.length ≤ j ∧ (∀ x, x ∈ q.2.2 → x.Key.length ≤ 1000) ∧ (4 ≤ j → q.2.2 ≠ [])) _ 0 _ ⟨by simpa [SB] using h, by simp, by simp, by omega⟩ ?_ ?_
  · rintro j x ⟨c2, c3, l4⟩ _ hj ⟨h1, h2, h3, h4⟩
    simp only at h1 h2 h3 h4
    have hjl : j < 4 := by have := lt_some hj; simpa using this
    have hx : x.length ≤ 1000 := by
      rcases j with _ | _ | _ | _ | j <;> simp at hj <;> (try subst hj) <;> simp
    have hlast : 4 ≤ j + 1 → x = [105, 100] := fun h4 => by
      have : j = 3 := by omega
      subst this
      simpa using hj.symm
    have hJ2 : ∀ (b : Bool) (c : List Int) (a : Int), SB (k + 2 * (j : Int) + 1) ⟨c, a⟩ → (4 ≤ j + 1 → l4 = [] → b = true) → Ok (gatemake_Stream_RightInstances_J3 l4 x b c a) (rd (fun q : (List Int) × Int × (List S_api_Instance) => SB (k + 2 * ((j + 1 : Nat) : Int)) ⟨q.1, q.2.1⟩ ∧ q.2.2.length ≤ j + 1 ∧ (∀ x, x ∈ q.2.2 → x.Key.length ≤ 1000) ∧ (4 ≤ j + 1 → q.2.2 ≠ [])) fun r => (r.1 ≠ [] ∧ r.1.length ≤ 4 ∧ ∀ x, x ∈ r.1 → x.Key.length ≤ 1000) ∧ SB (k + 8) r.2) := by
      intro b c a hs hb
      unfold gatemake_Stream_RightInstances_J3 gatemake_Stream_RightInstances_J2
      refine ok_if (fun hb' => ?_) (fun hb' => ?_)
      · refine ok_bind (pick_ok hs (by omega) _ ⟨by simp, by simp⟩) fun r hr => ok_g (by omega) (ok_some ?_)
        refine ⟨hr.2.mono (by omega), by simp; omega, fun y hy => ?_, fun _ => by simp⟩
        rcases List.mem_append.1 hy with hy | hy
        · exact h3 y hy
        · simp at hy; subst hy; exact hx
      · exact ok_some ⟨hs.mono (by omega), by simp only; omega, h3, fun h4 he => hb' (hb h4 he)⟩
    show Ok (gatemake_Stream_RightInstances_L1 j x c2 c3 l4) _
    unfold gatemake_Stream_RightInstances_L1
    refine ok_if (fun hl => ok_if (fun hq => ?_) (fun hq => ?_)) (fun hl => ?_)
    · exact hJ2 true c2 c3 (h1.mono (by omega)) fun _ _ => rfl
    · refine ok_bind (flip_ok h1 (by omega) 4 (by omega)) fun r hr => hJ2 _ _ _ hr fun h4 _ => ?_
      have := hlast h4
      simp [this] at hq
    · refine ok_bind (flip_ok h1 (by omega) 4 (by omega)) fun r hr => hJ2 _ _ _ hr fun h4 he => ?_
      subst he
      simp at hl
  · rintro ⟨c2, c3, l4⟩ ⟨h1, h2, h3, h4⟩
    exact ok_some ⟨⟨h4 (by simp), by simpa using h2, h3⟩, h1.mono (by simp)⟩
theorem ins_ok {k : Int} {s : S_gatemake_Stream} (h : SB k s) (hk : k ≤ 100000) : Ok (m_gatemake_Stream_Instances s) fun r => (InsB r.1 ∧ r.1.length ≤ 4) ∧ SB (k + 14) r.2 := by
  unfold m_gatemake_Stream_Instances
  refine ok_bind (rightIns_ok h (by omega)) fun r hr => ok_bind (flip_ok hr.2 (by omega) _ (by omega)) fun r4 hr4 => ?_
  have hJ : ∀ (out : List S_api_Instance) (c : List Int) (a : Int), InsB out ∧ out.length ≤ 4 → SB (k + 13) ⟨c, a⟩ → Ok (gatemake_Stream_Instances_J1 out c a) fun r => (InsB r.1 ∧ r.1.length ≤ 4) ∧ SB (k + 14) r.2 := by
    intro out c a ho hs
    unfold gatemake_Stream_Instances_J1
    refine ok_bind (flip_ok hs (by omega) _ (by omega)) fun r hr => ok_if (fun _ => ok_some ⟨⟨⟨by simp, fun x hx => (by cases hx)⟩, by simp⟩, hr.mono (by omega)⟩) (fun _ => ok_some ⟨ho, hr.mono (by omega)⟩)
  obtain ⟨⟨hne, hle, hky⟩, hs⟩ := hr
  have hpos : 0 < r.1.length := by cases hq : r.1 with | nil => exact absurd hq hne | cons _ _ => simp
  refine ok_if (fun _ => ?_) (fun _ => ?_)
  · refine ok_bind (next_ok hr4 (by omega) _ (by omega)) fun r7 hr7 => ?_
    have h1 := hr7.1.2.1 (by omega)
    have hat : Ok (at? r.1 r7.1) fun x => x ∈ r.1 := by
      unfold at?
      rw [if_pos hr7.1.1, List.getElem?_eq_getElem (by omega)]
      exact ⟨_, rfl, List.getElem_mem _⟩
    refine ok_bind hat fun x9 hx9 => ok_bind (some_ok hr7.2 (by omega) _ ⟨by simp, by simp⟩) fun r11 hr11 => ok_bind (odd_ok hr11.2 (by omega) 1 100 (by omega)) fun r13 hr13 => hJ _ _ _ ⟨⟨by simp; omega, fun y hy => ?_⟩, by simp; omega⟩ (hr13.2.mono (by omega))
    have hk11 : r11.1.length ≤ 1000 := by
      have := hr11.1
      simp only [List.mem_cons, List.not_mem_nil, or_false] at this
      rcases this with e | e | e | e
      · rw [e]; exact hky x9 hx9
      · rw [e]; simp
      · rw [e]; simp
      · rw [e]; simp
    rcases List.mem_or_eq_of_mem_set hy with hy | hy
    · rcases List.mem_or_eq_of_mem_set hy with hy | hy
      · exact hky y hy
      · rw [hy]; exact hk11
    · rw [hy]; exact hk11
  · exact hJ _ _ _ ⟨⟨by omega, hky⟩, hle⟩ (hr4.mono (by omega))
end Go.Proofs.Ytecnjgefohnkpaa
