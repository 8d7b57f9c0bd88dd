/- Plain: queries: the program and the reference read the same pairs. -/
import Derived.Test.YtmhghppkbppbjaaGreatDoorSp
import Derived.Test.YtmhghppkbppbjaaGreatDoorYqa
namespace Go.Proofs.YtmhghppkbppbjaaGreatDoor
set_option linter.unusedVariables false
set_option maxRecDepth 20000
def vdQ (s : Bs) : Bool := (dec false s).isSome
theorem dec_same : ∀ (n : Nat) (s : Bs), s.length ≤ n → (dec true s).isSome = (dec false s).isSome := by
  intro n
  induction n with
  | zero => intro s h; obtain rfl : s = [] := List.length_eq_zero_iff.1 (by omega); rfl
  | succ n ih =>
    intro s h
    rcases s with _ | ⟨c, r⟩
    · rfl
    simp only [List.length_cons] at h
    by_cases hc : c = 37
    · subst hc
      rcases r with _ | ⟨a, _ | ⟨b, t⟩⟩
      · rfl
      · rfl
      · simp only [List.length_cons] at h
        rw [dec_unit, dec_unit]
        split
        · rw [Option.isSome_map, Option.isSome_map]; exact ih t (by omega)
        · rfl
    · rw [dec_plain _ hc, dec_plain _ hc, Option.isSome_map, Option.isSome_map]; exact ih r (by omega)
theorem dec_sep (c : UInt8) (hc : c ≠ 37) (hh : isH c = false) (b : Bs) : ∀ (n : Nat) (a : Bs), a.length ≤ n → vdQ (a ++ c :: b) = (vdQ a && vdQ b) := by
  intro n
  unfold vdQ
  induction n with
  | zero =>
    intro a h
    obtain rfl : a = [] := List.length_eq_zero_iff.1 (by omega)
    rw [List.nil_append, dec_plain _ hc, Option.isSome_map]
    rfl
  | succ n ih =>
    intro a h
    rcases a with _ | ⟨x, r⟩
    · rw [List.nil_append, dec_plain _ hc, Option.isSome_map]; rfl
    simp only [List.length_cons] at h
    rw [List.cons_append]
    by_cases hx : x = 37
    · subst hx
      rcases r with _ | ⟨y, _ | ⟨z, t⟩⟩
      · rcases b with _ | ⟨b0, b⟩
        · rfl
        · rw [List.nil_append, dec_unit, hh]; rfl
      · rw [List.cons_append, List.nil_append, dec_unit, hh, Bool.and_false]; rfl
      · simp only [List.length_cons] at h
        rw [List.cons_append, List.cons_append, dec_unit, dec_unit]
        split
        · rw [Option.isSome_map, Option.isSome_map]; exact ih t (by omega)
        · rfl
    · rw [dec_plain _ hx, dec_plain _ hx, Option.isSome_map, Option.isSome_map]; exact ih r (by omega)
theorem first_occ (c : UInt8) : ∀ s : Bs, c ∉ s ∨ ∃ p q, s = p ++ c :: q ∧ c ∉ p
  | [] => .inl (by simp)
  | x :: s => by
    by_cases h : x = c
    · exact .inr ⟨[], s, by rw [h]; rfl, by simp⟩
    · rcases first_occ c s with h1 | ⟨p, q, rfl, h1⟩
      · exact .inl (by simp [h1, Ne.symm h])
      · exact .inr ⟨x :: p, q, rfl, by simp [h1, Ne.symm h]⟩
theorem spl_no (c : UInt8) : ∀ s : Bs, c ∉ s → spl c s = [s]
  | [], _ => rfl
  | x :: s, h => by
    have h1 : x ≠ c := fun e => h (by simp [e])
    have h2 := spl_no c s (fun e => h (by simp [e]))
    unfold spl
    rw [if_neg h1, h2]
theorem spl_app (c : UInt8) (q : Bs) : ∀ p : Bs, c ∉ p → spl c (p ++ c :: q) = p :: spl c q
  | [], _ => by
    rw [List.nil_append]
    conv => lhs; unfold spl
    rw [if_pos rfl]
  | x :: p, h => by
    have h1 : x ≠ c := fun e => h (by simp [e])
    have h2 := spl_app c q p (fun e => h (by simp [e]))
    rw [List.cons_append]
    conv => lhs; unfold spl
    rw [if_neg h1, h2]
theorem vdQ_spl (c : UInt8) (hc : c ≠ 37) (hh : isH c = false) : ∀ (n : Nat) (s : Bs), s.length ≤ n → vdQ s = (spl c s).all vdQ := by
  intro n
  induction n with
  | zero => intro s h; obtain rfl : s = [] := List.length_eq_zero_iff.1 (by omega); rfl
  | succ n ih =>
    intro s h
    rcases first_occ c s with h1 | ⟨p, q, rfl, h1⟩
    · rw [spl_no c s h1]; simp
    · rw [spl_app c q p h1, dec_sep c hc hh q p.length p (Nat.le_refl _), List.all_cons, ih q (by simp at h; omega)]
theorem idx_no (c : UInt8) : ∀ s : Bs, c ∉ s → Lib.index s [c] = -1
  | [], _ => rfl
  | x :: s, h => by
    rw [index_one, if_neg (fun e => h (by simp [e])), idx_no c s (fun e => h (by simp [e]))]
    try rfl
theorem idx_app (c : UInt8) (q : Bs) : ∀ p : Bs, c ∉ p → Lib.index (p ++ c :: q) [c] = (p.length : Int)
  | [], _ => by rw [List.nil_append, index_one, if_pos rfl]; rfl
  | x :: p, h => by
    rw [List.cons_append, index_one, if_neg (fun e => h (by simp [e])), idx_app c q p (fun e => h (by simp [e])), if_neg (by simp)]
    simp
theorem cut_no (c : UInt8) (s : Bs) (h : c ∉ s) : Lib.cut s [c] = (s, [], false) := by
  unfold Lib.cut
  rw [idx_no c s h]; rfl
theorem cut_app (c : UInt8) (p q : Bs) (h : c ∉ p) : Lib.cut (p ++ c :: q) [c] = (p, q, true) := by
  unfold Lib.cut
  rw [idx_app c q p h, if_pos (by omega)]
  simp
/-- a plus as a blank's unit -/
def rep (s : Bs) : Bs := s.flatMap fun c => if c = 43 then [37, 50, 48] else [c]
theorem rep_no : ∀ s : Bs, (43 : UInt8) ∉ s → rep s = s
  | [], _ => rfl
  | x :: s, h => by
    have h1 : x ≠ 43 := fun e => h (by simp [e])
    have h2 := rep_no s (fun e => h (by simp [e]))
    unfold rep at h2 ⊢
    rw [List.flatMap_cons, if_neg h1, h2]; rfl
theorem rep_app (p q : Bs) : rep (p ++ q) = rep p ++ rep q := by unfold rep; rw [List.flatMap_append]
theorem rep_cons (c : UInt8) (s : Bs) : rep (c :: s) = (if c = 43 then [37, 50, 48] else [c]) ++ rep s := by unfold rep; rw [List.flatMap_cons]
theorem repK : ∀ (n : Nat) (s : Bs), s.length ≤ n → Lib.replaceK [43] [37, 50, 48] (Lib.count s [43]) s = rep s := by
  intro n
  induction n with
  | zero => intro s h; obtain rfl : s = [] := List.length_eq_zero_iff.1 (by omega); rw [Lib.count_miss (by rfl)]; rfl
  | succ n ih =>
    intro s h
    rcases first_occ 43 s with h1 | ⟨p, q, rfl, h1⟩
    · rw [Lib.count_miss (idx_no 43 s h1), rep_no s h1]; rfl
    · have hi := idx_app 43 q p h1
      have hd : (p ++ 43 :: q).drop (p.length + 1) = q := by rw [← List.drop_drop]; simp
      rw [Lib.count_hit (by simp) hi, Nat.add_comm 1, Lib.replaceK_hit _ _ _ _ _ hi]
      simp only [List.length_cons, List.length_nil, Nat.zero_add]
      rw [hd, ih q (by simp at h; omega), rep_app, rep_cons, rep_no p h1]
      simp
theorem replaceAll_eq (s : Bs) : Lib.replaceAll s [43] [37, 50, 48] = rep s := by
  unfold Lib.replaceAll Lib.replace Lib.replaceNum
  rw [if_neg (by decide), if_pos (.inl (by decide))]
  exact repK s.length s (Nat.le_refl _)
theorem rep_len (s : Bs) : (rep s).length ≤ 3 * s.length := by
  induction s with
  | nil => simp [rep]
  | cons c s ih =>
    rw [rep_cons, List.length_append, List.length_cons]
    have : (if c = (43 : UInt8) then ([37, 50, 48] : Bs) else [c]).length ≤ 3 := by split <;> simp
    omega
theorem rep_notin (s : Bs) (h : (61 : UInt8) ∉ s) : (61 : UInt8) ∉ rep s := by
  unfold rep
  rw [List.mem_flatMap]
  rintro ⟨c, hc, hm⟩
  split at hm
  · simp at hm
  · have : 61 = c := by simpa using hm
    exact h (this ▸ hc)
theorem dec_rep : ∀ (n : Nat) (s : Bs), s.length ≤ n → vdQ s = true → dec false (rep s) = dec true s := by
  intro n
  unfold vdQ
  induction n with
  | zero => intro s h _; obtain rfl : s = [] := List.length_eq_zero_iff.1 (by omega); rfl
  | succ n ih =>
    intro s h hv
    rcases s with _ | ⟨c, r⟩
    · rfl
    simp only [List.length_cons] at h
    by_cases hc : c = 37
    · subst hc
      rcases r with _ | ⟨a, _ | ⟨b, t⟩⟩
      · cases hv
      · cases hv
      · simp only [List.length_cons] at h
        rw [dec_unit] at hv
        cases hh : isH a && isH b
        · rw [hh] at hv; cases hv
        · rw [hh] at hv
          simp only [if_true, Option.isSome_map] at hv
          have ha : a ≠ 43 := fun e => by rw [e] at hh; exact absurd hh (by simp [isH, hx])
          have hb : b ≠ 43 := fun e => by rw [e] at hh; exact absurd hh (by simp [isH, hx])
          rw [rep_cons, rep_cons, rep_cons, if_neg (by decide), if_neg ha, if_neg hb]
          simp only [List.cons_append, List.nil_append]
          rw [dec_unit, dec_unit, hh, ih t (by omega) hv]
    · rw [dec_plain _ hc, Option.isSome_map] at hv
      rw [rep_cons, dec_plain _ hc]
      by_cases h43 : c = 43
      · rw [if_pos h43]
        simp only [List.cons_append, List.nil_append]
        rw [dec_unit, ih r (by omega) hv]
        have e1 : (isH 50 && isH 48) = true := by decide
        have e2 : h2 50 48 = pl true c := by rw [h43]; decide
        rw [e1, e2]; rfl
      · rw [if_neg h43]
        simp only [List.cons_append, List.nil_append]
        rw [dec_plain _ hc, ih r (by omega) hv]
        have : pl false c = pl true c := by unfold pl; rw [if_neg (by simp), if_neg (by simp [h43])]
        rw [this]
theorem bytesOf_eq (s : Bs) (h : s.length ≤ 1000000) : m_gateref2_bytesOf s = some ((dec false s).getD []) := by
  obtain ⟨us, h1, h2⟩ := unitsI s.length s [] (Nat.le_refl _) (by simpa using h)
  unfold m_gateref2_bytesOf m_gateref2_units
  rw [h1]
  simp only [Option.bind_some]
  have key : ∀ (us : List S_gateref2_unit) (k : Nat) (l : List Int), l.length + us.length ≤ 1000000000 → forL (fun (k : Nat) (x : S_gateref2_unit) (s : (List Int)) => gateref2_bytesOf_L1 k x s) (fun (s : (List Int)) => gateref2_bytesOf_E1 s) k us l = some (strN (l ++ us.map (·.c_))) := by
    intro us
    induction us with
    | nil => intro k l _; simp [forL, gateref2_bytesOf_E1]
    | cons u us ih =>
      intro k l hl
      simp only [List.length_cons] at hl
      have e : gateref2_bytesOf_L1 k u l = some (.inl (l ++ [u.c_])) := by unfold gateref2_bytesOf_L1; rw [if_pos (by omega)]
      show (gateref2_bytesOf_L1 k u l).bind _ = _
      rw [e]
      simp only [Option.bind_some, after]
      rw [ih (k + 1) _ (by simp; omega)]
      simp
  cases hd : dec false s with
  | none => rfl
  | some d =>
    have h3 := h2 d hd
    have h4 := dec_len false s.length s d (Nat.le_refl _) hd
    have h5 : us.length = d.length := by
      have := congrArg List.length h3
      simpa [numsB] using this
    simp only [List.nil_append, Option.getD_some]
    rw [if_pos (by omega), key us 0 [] (by simp only [List.length_nil]; omega), List.nil_append, h3, strN_nums']
theorem units_eq (s : Bs) (h : s.length ≤ 1000000) : ∃ us, m_gateref2_units s = some (us, vdQ s) := by
  obtain ⟨us, h1, h2⟩ := unitsI s.length s [] (Nat.le_refl _) (by simpa using h)
  unfold m_gateref2_units vdQ
  rw [h1]
  cases hd : dec false s with
  | none => exact ⟨[], rfl⟩
  | some d => exact ⟨us, rfl⟩
/-- the pair of a part -/
def prQ (x : Bs) : S_api_Pair := ⟨(dec true (Lib.cut x [61]).1).getD [], (dec true (Lib.cut x [61]).2.1).getD []⟩
theorem cutQ_len (x : Bs) : (Lib.cut x [61]).1.length ≤ x.length ∧ (Lib.cut x [61]).2.1.length ≤ x.length := by
  rcases first_occ 61 x with h | ⟨p, q, rfl, h⟩
  · rw [cut_no 61 x h]; simp
  · rw [cut_app 61 p q h]; simp; omega
theorem cutQ_vd (x : Bs) : vdQ x = (vdQ (Lib.cut x [61]).1 && vdQ (Lib.cut x [61]).2.1) := by
  rcases first_occ 61 x with h | ⟨p, q, rfl, h⟩
  · rw [cut_no 61 x h]
    simp [vdQ, dec]
  · rw [cut_app 61 p q h, dec_sep 61 (by decide) (by decide) q p.length p (Nat.le_refl _)]
theorem dec_t (s : Bs) (h : s.length ≤ 1000000) : m_message_decoded s true = some ((dec true s).getD [], vdQ s) := by
  rw [decoded_eq s true h]
  unfold vdQ
  rw [← dec_same s.length s (Nat.le_refl _)]
  cases dec true s <;> rfl
theorem partP (k : Nat) (x : Bs) (l : List S_api_Pair) (hx : x.length ≤ 100000) (hl : l.length + 1 ≤ 1000000000) : message_ParseQuery_L1 k x l = if x = [] then some (.inl l) else if vdQ x = true then some (.inl (l ++ [prQ x])) else some (.inr ([], 9)) := by
  obtain ⟨c1, c2⟩ := cutQ_len x
  unfold message_ParseQuery_L1 message_ParseQuery_J2
  by_cases h0 : x = []
  · rw [if_pos (by simpa using h0), if_pos h0]
  · rw [if_neg (by simpa using h0), if_neg h0]
    unfold m_strings_Cut
    rw [if_pos (by omega)]
    simp only [Option.bind_some]
    rw [dec_t _ (by omega)]
    simp only [Option.bind_some]
    rw [dec_t _ (by omega)]
    simp only [Option.bind_some]
    rw [cutQ_vd x]
    cases vdQ (Lib.cut x [61]).1 <;> cases vdQ (Lib.cut x [61]).2.1 <;> simp [prQ, hl]
theorem partR (k : Nat) (x : Bs) (l : List S_api_Pair) (hx : x.length ≤ 100000) (hv : vdQ x = true) (hl : l.length + 1 ≤ 1000000000) : gateref2_QueryOf_L1 k x l = if x = [] then some (.inl l) else some (.inl (l ++ [prQ x])) := by
  obtain ⟨c1, c2⟩ := cutQ_len x
  have hv2 := cutQ_vd x
  rw [hv] at hv2
  have hv2 := (Bool.and_eq_true _ _).mp hv2.symm
  have hcut : Lib.cut (rep x) [61] = (rep (Lib.cut x [61]).1, rep (Lib.cut x [61]).2.1, (Lib.cut x [61]).2.2) := by
    rcases first_occ 61 x with h | ⟨p, q, rfl, h⟩
    · rw [cut_no 61 x h, cut_no 61 _ (rep_notin x h)]; rfl
    · rw [cut_app 61 p q h, rep_app, rep_cons, if_neg (by decide)]
      exact cut_app 61 _ _ (rep_notin p h)
  unfold gateref2_QueryOf_L1 gateref2_QueryOf_J2
  by_cases h0 : x = []
  · rw [if_pos (by simpa using h0), if_pos h0]
  · rw [if_neg (by simpa using h0), if_neg h0]
    have hr := rep_len x
    have hr1 := rep_len (Lib.cut x [61]).1
    have hr2 := rep_len (Lib.cut x [61]).2.1
    unfold m_strings_ReplaceAll
    rw [if_pos (by simp; omega), replaceAll_eq]
    simp only [Option.bind_some]
    unfold m_strings_Cut
    rw [if_pos (by omega), hcut]
    simp only [Option.bind_some]
    rw [bytesOf_eq _ (by omega)]
    simp only [Option.bind_some]
    rw [bytesOf_eq _ (by omega)]
    simp only [Option.bind_some]
    rw [if_pos hl, dec_rep _ _ (Nat.le_refl _) hv2.1, dec_rep _ _ (Nat.le_refl _) hv2.2]
    rfl
/-- the pairs of the parts -/
def prs (xs : List Bs) : List S_api_Pair := (xs.filter fun x => !decide (x = [])).map prQ
theorem loopP : ∀ (xs : List Bs) (k : Nat) (l : List S_api_Pair), (∀ x, x ∈ xs → x.length ≤ 100000) → l.length + xs.length ≤ 1000000 → forL (fun (k : Nat) (x : Bs) (s : (List S_api_Pair)) => message_ParseQuery_L1 k x s) (fun (s : (List S_api_Pair)) => message_ParseQuery_E1 s) k xs l = if xs.all vdQ = true then message_ParseQuery_E1 (l ++ prs xs) else some ([], 9)
  | [], k, l, _, _ => by simp [forL, prs]
  | x :: xs, k, l, hx, hl => by
    simp only [List.length_cons] at hl
    show (message_ParseQuery_L1 k x l).bind _ = _
    rw [partP k x l (hx x (by simp)) (by omega)]
    by_cases h0 : x = []
    · subst h0
      rw [if_pos rfl]
      simp only [Option.bind_some, after]
      rw [loopP xs (k + 1) l (fun y hy => hx y (by simp [hy])) (by omega)]
      simp [prs, vdQ, dec]
    · rw [if_neg h0]
      cases hv : vdQ x
      · simp [hv, after]
      · simp only [if_true, Option.bind_some, after]
        rw [loopP xs (k + 1) _ (fun y hy => hx y (by simp [hy])) (by simp; omega)]
        simp [prs, hv, h0]
theorem loopR : ∀ (xs : List Bs) (k : Nat) (l : List S_api_Pair), (∀ x, x ∈ xs → x.length ≤ 100000 ∧ vdQ x = true) → l.length + xs.length ≤ 1000000 → forL (fun (k : Nat) (x : Bs) (s : (List S_api_Pair)) => gateref2_QueryOf_L1 k x s) (fun (s : (List S_api_Pair)) => gateref2_QueryOf_E1 s) k xs l = gateref2_QueryOf_E1 (l ++ prs xs)
  | [], k, l, _, _ => by simp [forL, prs]
  | x :: xs, k, l, hx, hl => by
    simp only [List.length_cons] at hl
    obtain ⟨h1, h2⟩ := hx x (by simp)
    show (gateref2_QueryOf_L1 k x l).bind _ = _
    rw [partR k x l h1 h2 (by omega)]
    by_cases h0 : x = []
    · subst h0
      rw [if_pos rfl]
      simp only [Option.bind_some, after]
      rw [loopR xs (k + 1) l (fun y hy => hx y (by simp [hy])) (by omega)]
      simp [prs]
    · rw [if_neg h0]
      simp only [Option.bind_some, after]
      rw [loopR xs (k + 1) _ (fun y hy => hx y (by simp [hy])) (by simp; omega)]
      simp [prs, h0]
theorem vis_some (s : Bs) (h : s.length ≤ 100000) : ∃ b, m_gateref2_visible s 33 = some b := by
  have : Ok (m_gateref2_visible s 33) fun _ => True := by
    unfold m_gateref2_visible
    refine ok_g (by omega) (ok_forL (fun _ _ => True) s 0 () trivial (fun j x u _ _ _ => ?_) (fun _ _ => ⟨_, rfl, trivial⟩))
    unfold gateref2_visible_L1 gateref2_visible_J2
    refine ok_if (fun _ => ok_if (fun _ => ok_some trivial) (fun _ => ok_some trivial)) (fun _ => ok_if (fun _ => ok_some trivial) (fun _ => ok_some trivial))
  obtain ⟨b, h1, _⟩ := this
  exact ⟨b, h1⟩
theorem query_eq (s : Bs) (h : s.length ≤ 100000) : Ok (m_message_ParseQuery s) fun r => m_gateref2_QueryOf s = some r ∧ r.1.length ≤ 1000 := by
  obtain ⟨b, hb⟩ := vis_some s h
  have hr : m_message_isRange s 33 126 = some b := hb
  have hc : m_strings_Contains s [35] = some (Lib.contains s [35]) := by unfold m_strings_Contains; rw [if_pos (by omega)]
  have hbad : m_message_queryFault s = some 3 → m_gateref2_queryForm s = some false → Ok (m_message_ParseQuery s) fun r => m_gateref2_QueryOf s = some r ∧ r.1.length ≤ 1000 := fun h1 h2 => by
    refine ⟨([], 3), ?_, ?_, by simp⟩
    · unfold m_message_ParseQuery; rw [h1]; rfl
    · unfold m_gateref2_QueryOf; rw [h2]; rfl
  by_cases hl : s.length ≤ 1000
  · have e1 : ¬ decide (1000 < (s.length : Int)) = true := by simp; omega
    have e2 : decide ((s.length : Int) ≤ 1000) = true := by simp; omega
    cases hbv : b
    · refine hbad ?_ ?_
      · unfold m_message_queryFault message_queryFault_J1; rw [if_neg e1, hr, hbv]; rfl
      · unfold m_gateref2_queryForm gateref2_queryForm_J1; rw [if_pos e2, hb, hbv]; rfl
    · cases hcv : Lib.contains s [35]
      · have f1 : m_message_queryFault s = some 0 := by unfold m_message_queryFault message_queryFault_J1; rw [if_neg e1, hr, hbv, hc, hcv]; rfl
        have f2 : m_gateref2_queryForm s = some true := by unfold m_gateref2_queryForm gateref2_queryForm_J1; rw [if_pos e2, hb, hbv, hc, hcv]; rfl
        obtain ⟨us, hu⟩ := units_eq s (by omega)
        have hsp : m_strings_Split s [38] = some (spl 38 s) := by
          unfold m_strings_Split
          rw [if_pos ⟨by omega, by simp⟩, splitL_one]
        have hsl := spl_len 38 s
        have hpc : ∀ x, x ∈ spl 38 s → x.length ≤ 100000 := fun x hx => by have := spl_piece 38 s x hx; omega
        have hv := vdQ_spl 38 (by decide) (by decide) s.length s (Nat.le_refl _)
        have hP : m_message_ParseQuery s = if (spl 38 s).all vdQ = true then message_ParseQuery_E1 (prs (spl 38 s)) else some ([], 9) := by
          unfold m_message_ParseQuery
          rw [f1]
          simp only [Option.bind_some, ne_eq, not_true_eq_false, decide_false, Bool.false_eq_true, if_false, hsp]
          rw [if_pos (by omega), loopP _ 0 [] hpc (by simp only [List.length_nil]; omega), List.nil_append]
        rw [hP]
        unfold m_gateref2_QueryOf
        rw [f2]
        simp only [Option.bind_some, Bool.not_true, Bool.false_eq_true, if_false, hu, hsp]
        cases hvs : vdQ s
        · rw [← hv, hvs]
          exact ⟨([], 9), rfl, rfl, by simp⟩
        · rw [← hv, hvs]
          have hall : ∀ x, x ∈ spl 38 s → x.length ≤ 100000 ∧ vdQ x = true := fun x hx => ⟨hpc x hx, List.all_eq_true.1 (by rw [← hv, hvs]) x hx⟩
          simp only [Bool.not_true, Bool.false_eq_true, if_false, if_true]
          rw [if_pos (by omega), loopR _ 0 [] hall (by simp only [List.length_nil]; omega), List.nil_append]
          have hEE : gateref2_QueryOf_E1 (prs (spl 38 s)) = message_ParseQuery_E1 (prs (spl 38 s)) := rfl
          rw [hEE]
          unfold message_ParseQuery_E1
          refine ok_if (fun h1 => ⟨_, rfl, ?_, by simp⟩) (fun h1 => ⟨_, rfl, ?_, ?_⟩)
          · rw [if_pos h1]
          · rw [if_neg h1]
          · have h1 : ¬ 100 < ((prs (spl 38 s)).length : Int) := by simpa using h1
            simp only; omega
      · refine hbad ?_ ?_
        · unfold m_message_queryFault message_queryFault_J1; rw [if_neg e1, hr, hbv, hc, hcv]; rfl
        · unfold m_gateref2_queryForm gateref2_queryForm_J1; rw [if_pos e2, hb, hbv, hc, hcv]; rfl
  · refine hbad ?_ ?_
    · unfold m_message_queryFault message_queryFault_J1; rw [if_pos (by simp; omega)]; rfl
    · unfold m_gateref2_queryForm gateref2_queryForm_J1; rw [if_neg (by simp; omega)]; try rfl
end Go.Proofs.YtmhghppkbppbjaaGreatDoor
