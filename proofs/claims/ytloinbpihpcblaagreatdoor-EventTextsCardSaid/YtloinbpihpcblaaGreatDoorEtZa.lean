/- Plain: events as text, and back. -/
import Derived.Test.YtloinbpihpcblaaGreatDoorEvZa
import Derived.Test.YtloinbpihpcblaaGreatDoorNbZa
import Derived.Test.YtloinbpihpcblaaGreatDoorSrZa
namespace Go.Proofs.YtloinbpihpcblaaGreatDoor
set_option linter.unusedVariables false
set_option linter.unusedSimpArgs false
set_option maxRecDepth 20000
abbrev kwL : List Bs := [[], [97, 115, 107], [97, 112, 112, 114, 111, 118, 101], [114, 101, 102, 117, 115, 101], [112, 97, 117, 115, 101], [114, 101, 115, 117, 109, 101], [101, 110, 100]]
theorem kw_at (k : Int) (h : 1 ≤ k ∧ k ≤ 6) : ∃ w, at? kwL k = some w ∧ kwL[k.toNat]?.getD [] = w ∧ w.length ≤ 10 := by
  obtain ⟨y, h1, h2, h3⟩ := (show ∃ y, at? kwL k = some y ∧ y ∈ kwL ∧ kwL[k.toNat]? = some y by
    unfold at?
    rw [if_pos (by omega), List.getElem?_eq_getElem (by simp; omega)]
    exact ⟨_, rfl, List.getElem_mem _, rfl⟩)
  refine ⟨y, h1, by rw [h3]; rfl, ?_⟩
  simp only [kwL, List.mem_cons, List.not_mem_nil, or_false] at h2
  rcases h2 with h | h | h | h | h | h | h <;> rw [h] <;> decide
def hdE (x : S_api_Event) : Bs := (((((Lib.itoa x.At ++ [32]) ++ x.App) ++ [32]) ++ x.Product) ++ [32]) ++ kwL[x.Kind.toNat]?.getD []
def lnE (x : S_api_Event) : Bs := (hdE x ++ if x.Kind = 1 then [32] ++ x.Plan else []) ++ [10]
theorem itoa_short (n : Int) (h : 0 ≤ n ∧ n ≤ 345686399999) : (Lib.itoa n).length ≤ 15 := by
  obtain ⟨m, hm⟩ : ∃ m : Nat, n = (m : Int) := ⟨n.toNat, by omega⟩
  have h1 := okN_itoa m (by omega)
  rw [hm]
  have h2 := dcd_len 14 m (by omega)
  have e : Lib.itoa (m : Int) = Lib.decDigits m := by
    unfold Lib.itoa
    rw [if_neg (by omega)]
    rfl
  rw [e]
  omega
section
variable {x : S_api_Event} (hx : EG x)
include hx
theorem hd_len : (hdE x).length ≤ 108 := by
  obtain ⟨w, h1, h2, h3⟩ := kw_at x.Kind hx.k
  have h4 := itoa_short x.At hx.t
  have h5 := keyP_len hx.a
  have h6 := keyP_len hx.p
  unfold hdE
  rw [h2]
  simp only [List.length_append, List.length_cons, List.length_nil]
  omega
theorem ln_len : (lnE x).length ≤ 150 := by
  have h1 := hd_len hx
  have h2 := hx.l
  unfold lnE
  split
  · simp only [List.length_append, List.length_cons, List.length_nil]; omega
  · simp only [List.length_append, List.length_cons, List.length_nil]; omega
theorem textL (k : Nat) (out : Bs) (ho : out.length ≤ 400000000) : portal_Text_L1 k x (numsB out) = some (.inl (numsB (out ++ lnE x))) := by
  obtain ⟨w, h1, h2, h3⟩ := kw_at x.Kind hx.k
  have h4 := itoa_short x.At hx.t
  have h5 := keyP_len hx.a
  have h6 := keyP_len hx.p
  have h7 := hx.l
  have h8 := hx.t
  have e1 : m_strconv_Itoa x.At = some (Lib.itoa x.At) := by unfold m_strconv_Itoa; rw [if_pos (by omega)]
  have hlen : (numsB out).length = out.length := nums_len out
  have hd := hd_len hx
  unfold portal_Text_L1 m_portal_kindWords portal_Text_J2 m_strings_Builder_WriteString m_strings_Builder_WriteByte
  rw [e1]
  simp only [Option.bind_some]
  have h1' : at? ([[], [97, 115, 107], [97, 112, 112, 114, 111, 118, 101], [114, 101, 102, 117, 115, 101], [112, 97, 117, 115, 101], [114, 101, 115, 117, 109, 101], [101, 110, 100]] : List Bs) x.Kind = some w := h1
  rw [if_pos (by simp only [List.length_append, List.length_cons, List.length_nil]; omega), if_pos (by simp only [List.length_append, List.length_cons, List.length_nil]; omega), if_pos (by simp only [List.length_append, List.length_cons, List.length_nil]; omega), if_pos (by simp only [List.length_append, List.length_cons, List.length_nil]; omega), if_pos (by simp only [List.length_append, List.length_cons, List.length_nil]; omega), h1']
  simp only [Option.bind_some]
  have eh : (((((Lib.itoa x.At ++ [32]) ++ x.App) ++ [32]) ++ x.Product) ++ [32]) ++ w = hdE x := by unfold hdE; rw [h2]
  rw [if_pos (by simp only [List.length_append, List.length_cons, List.length_nil]; omega), eh, if_pos (by rw [hlen]; omega)]
  simp only [Option.bind_some]
  unfold lnE
  by_cases hk : x.Kind = 1
  · rw [if_pos (by simpa using hk), if_pos hk, if_pos (by simp only [List.length_cons, List.length_nil]; omega), if_pos (by simp only [List.length_append, List.length_cons, List.length_nil, nums_len]; omega)]
    simp only [Option.bind_some]
    rw [if_pos (by simp only [List.length_append, List.length_cons, List.length_nil, nums_len]; omega)]
    simp only [Option.bind_some]
    simp [numsB]
  · rw [if_neg (by simpa using hk), if_neg hk, if_pos (by simp only [List.length_append, List.length_cons, List.length_nil, nums_len]; omega)]
    simp only [Option.bind_some]
    simp [numsB]
theorem linesL (k : Nat) (out : Bs) (ho : out.length ≤ 400000000) : gateref2_EventLines_L1 k x out = some (.inl (out ++ lnE x)) := by
  obtain ⟨w, h1, h2, h3⟩ := kw_at x.Kind hx.k
  have h4 := itoa_short x.At hx.t
  have h5 := keyP_len hx.a
  have h6 := keyP_len hx.p
  have h7 := hx.l
  have h8 := hx.t
  have e1 : m_strconv_Itoa x.At = some (Lib.itoa x.At) := by unfold m_strconv_Itoa; rw [if_pos (by omega)]
  have hd := hd_len hx
  unfold gateref2_EventLines_L1 m_gateref2_eventWords gateref2_EventLines_J2
  rw [e1]
  simp only [Option.bind_some]
  have h1' : at? ([[], [97, 115, 107], [97, 112, 112, 114, 111, 118, 101], [114, 101, 102, 117, 115, 101], [112, 97, 117, 115, 101], [114, 101, 115, 117, 109, 101], [101, 110, 100]] : List Bs) x.Kind = some w := h1
  rw [if_pos (by simp only [List.length_append, List.length_cons, List.length_nil]; omega), if_pos (by simp only [List.length_append, List.length_cons, List.length_nil]; omega), if_pos (by simp only [List.length_append, List.length_cons, List.length_nil]; omega), if_pos (by simp only [List.length_append, List.length_cons, List.length_nil]; omega), if_pos (by simp only [List.length_append, List.length_cons, List.length_nil]; omega), h1']
  simp only [Option.bind_some]
  have eh : (((((Lib.itoa x.At ++ [32]) ++ x.App) ++ [32]) ++ x.Product) ++ [32]) ++ w = hdE x := by unfold hdE; rw [h2]
  rw [if_pos (by simp only [List.length_append, List.length_cons, List.length_nil]; omega), eh, if_pos (by omega)]
  unfold lnE
  by_cases hk : x.Kind = 1
  · rw [if_pos (by simpa using hk), if_pos hk, if_pos (by simp only [List.length_cons, List.length_nil]; omega), if_pos (by simp only [List.length_append, List.length_cons, List.length_nil]; omega), if_pos (by simp only [List.length_append, List.length_cons, List.length_nil]; omega)]
    simp
  · rw [if_neg (by simpa using hk), if_neg hk, if_pos (by simp only [List.length_append, List.length_cons, List.length_nil]; omega)]
    simp
end
theorem textF : ∀ (l : List S_api_Event) (k : Nat) (out : Bs), (∀ x, x ∈ l → EG x) → out.length + 200 * l.length ≤ 300000000 → forL (fun (k : Nat) (x : S_api_Event) (s : (List Int)) => portal_Text_L1 k x s) (fun (s : (List Int)) => portal_Text_E1 s) k l (numsB out) = some (out ++ l.flatMap lnE, 0)
  | [], k, out, _, _ => by
    show portal_Text_E1 (numsB out) = _
    unfold portal_Text_E1
    rw [if_pos (byR_nums out), strN_nums']
    simp
  | x :: l, k, out, hx, ho => by
    have h1 := hx x (by simp)
    have h2 := ln_len h1
    simp only [List.length_cons] at ho
    show (portal_Text_L1 k x (numsB out)).bind _ = _
    rw [textL h1 k out (by omega)]
    simp only [Option.bind_some, after]
    have := textF l (k + 1) (out ++ lnE x) (fun y hy => hx y (by simp [hy])) (by rw [List.length_append]; omega)
    rw [this]
    simp
theorem linesF : ∀ (l : List S_api_Event) (k : Nat) (out : Bs), (∀ x, x ∈ l → EG x) → out.length + 200 * l.length ≤ 300000000 → forL (fun (k : Nat) (x : S_api_Event) (s : Bs) => gateref2_EventLines_L1 k x s) (fun (s : Bs) => gateref2_EventLines_E1 s) k l out = some (out ++ l.flatMap lnE)
  | [], k, out, _, _ => by
    show gateref2_EventLines_E1 out = _
    unfold gateref2_EventLines_E1
    simp
  | x :: l, k, out, hx, ho => by
    have h1 := hx x (by simp)
    have h2 := ln_len h1
    simp only [List.length_cons] at ho
    show (gateref2_EventLines_L1 k x out).bind _ = _
    rw [linesL h1 k out (by omega)]
    simp only [Option.bind_some, after]
    have := linesF l (k + 1) (out ++ lnE x) (fun y hy => hx y (by simp [hy])) (by rw [List.length_append]; omega)
    rw [this]
    simp
theorem text_eq' (l : List S_api_Event) (hb : ∀ x, x ∈ l → EB x) : m_portal_Text l = some (if evF l ≠ 0 then ([], evF l) else (l.flatMap lnE, 0)) := by
  unfold m_portal_Text
  rw [formP_eq l hb]
  simp only [Option.bind_some]
  by_cases h : evF l = 0
  · obtain ⟨h1, h2⟩ := evF_zero h
    rw [if_neg (by simpa using h), if_neg (not_not_intro h), if_pos (by omega)]
    exact textF l 0 [] h2 (by simp; omega)
  · rw [if_pos (by simpa using h), if_pos h]
theorem lines_eq (l : List S_api_Event) (h : evF l = 0) : m_gateref2_EventLines l = some (l.flatMap lnE) := by
  obtain ⟨h1, h2⟩ := evF_zero h
  unfold m_gateref2_EventLines
  rw [if_pos (by omega)]
  exact linesF l 0 [] h2 (by simp; omega)
theorem flatE_len (l : List S_api_Event) (h : ∀ x, x ∈ l → EG x) : (l.flatMap lnE).length ≤ 150 * l.length := by
  induction l with
  | nil => simp
  | cons x l ih =>
    have h1 := ln_len (h x (by simp))
    have h2 := ih fun y hy => h y (by simp [hy])
    rw [List.flatMap_cons, List.length_append, List.length_cons]
    omega
theorem splN (c : UInt8) : ∀ s : Bs, c ∉ s → spl c s = [s]
  | [], _ => rfl
  | x :: s, h => by
    have h1 : x ≠ c := fun e => h (by simp [e])
    have h2 := splN c s (fun e => h (by simp [e]))
    unfold spl
    rw [if_neg h1, h2]
theorem splA (c : UInt8) (q : Bs) : ∀ p : Bs, c ∉ p → spl c (p ++ c :: q) = p :: spl c q
  | [], _ => by
    rw [List.nil_append]
    conv => lhs; unfold spl
    rw [if_pos rfl]
  | x :: p, h => by
    have h1 : x ≠ c := fun e => h (by simp [e])
    have h2 := splA c q p (fun e => h (by simp [e]))
    rw [List.cons_append]
    conv => lhs; unfold spl
    rw [if_neg h1, h2]
theorem first_in {c : UInt8} : ∀ {s : Bs}, c ∈ s → ∃ p q, s = p ++ c :: q ∧ c ∉ p
  | x :: s, h => by
    by_cases h1 : c = x
    · subst h1; exact ⟨[], s, rfl, by simp⟩
    · obtain ⟨p, q, h2, h3⟩ := first_in (s := s) (by simpa [h1] using h)
      exact ⟨x :: p, q, by rw [h2]; rfl, by simp [h1, h3]⟩
def rdE (line : Bs) : Option S_api_Event :=
  if (spl 32 line).any (fun x => decide ([] = x)) = true then none else
  match spl 32 line with
  | a :: b :: c :: d :: e =>
    if okN 15 a = true ∧ 1 ≤ fdx (fun x => decide (d = x)) 0 kwL ∧ e.length = (if fdx (fun x => decide (d = x)) 0 kwL = 1 then 1 else 0) then
      some (S_api_Event.mk (valB a) b c (fdx (fun x => decide (d = x)) 0 kwL) (if fdx (fun x => decide (d = x)) 0 kwL = 1 then e.headD [] else []))
    else none
  | _ => none
theorem index_kw (d : Bs) : m_slices_Index_L_string_string_ kwL d = some (fdx (fun x => decide (d = x)) 0 kwL) :=
  gIdx_eq (p := fun x => some (decide (d = x))) kwL _ (by decide) fun x _ => rfl
theorem has_empty (l : List Bs) (h : l.length ≤ 1000000000) : m_slices_Contains_L_string_string_ l [] = some (l.any fun x => decide ([] = x)) :=
  gCon_eq (p := fun x => some (decide ([] = x))) l _ h fun x _ => rfl
theorem split_sp (s : Bs) (c : UInt8) (h : s.length ≤ 1000000) : m_strings_Split s [c] = some (spl c s) := by
  unfold m_strings_Split
  rw [if_pos ⟨by omega, by simp⟩, splitL_one]
theorem readE_eq (line : Bs) (hl : line.length ≤ 1000000) : ∃ x, m_portal_readEvent line = some (x, (rdE line).isSome) ∧ ∀ y, rdE line = some y → x = y := by
  unfold m_portal_readEvent m_kit_Words
  have hw := spl_len 32 line
  rw [split_sp line 32 hl]
  simp only [Option.bind_some]
  rw [has_empty _ (by omega)]
  simp only [Option.bind_some]
  have hp := spl_piece 32 line
  unfold rdE
  generalize spl 32 line = w at hw hp
  rcases Bool.eq_false_or_eq_true (w.any fun x => decide ([] = x)) with h1 | h1
  · rw [h1]
    simp
  · rw [h1]
    match w, hp with
    | [], _ => simp
    | [_], _ => simp
    | [_, _], _ => simp
    | [_, _, _], _ => simp
    | a :: b :: c :: d :: e, hp =>
      have ha : a.length ≤ 1000000 := by have := hp a (by simp); omega
      have e1 : m_kit_Number a 15 = some (if okN 15 a then valB a else 0, okN 15 a) := kit_number a 15 (by omega) ha
      have e2 : m_slices_Index_L_string_string_ [[], [97, 115, 107], [97, 112, 112, 114, 111, 118, 101], [114, 101, 102, 117, 115, 101], [112, 97, 117, 115, 101], [114, 101, 115, 117, 109, 101], [101, 110, 100]] d = some (fdx (fun x => decide (d = x)) 0 kwL) := index_kw d
      have e0 : (!(!false) || decide (((a :: b :: c :: d :: e).length : Int) < 4)) = false := by simp; omega
      simp only [e0, Bool.false_eq_true, if_false]
      have g0 : (a :: b :: c :: d :: e)[0]? = some a := rfl
      have g1 : (a :: b :: c :: d :: e)[1]? = some b := rfl
      have g2 : (a :: b :: c :: d :: e)[2]? = some c := rfl
      have g3 : (a :: b :: c :: d :: e)[3]? = some d := rfl
      unfold m_portal_kindWords
      simp only [g0, g1, g2, g3, Option.bind_some, e1, e2]
      generalize fdx (fun x => decide (d = x)) 0 kwL = k
      have hlen : ((a :: b :: c :: d :: e).length : Int) = (e.length : Int) + 4 := by simp only [List.length_cons]; omega
      rw [hlen]
      by_cases hk : k < 1
      · have h3 : ¬ 1 ≤ k := by omega
        have h4 : ¬ (okN 15 a = true ∧ 1 ≤ k ∧ e.length = if k = 1 then 1 else 0) := fun h => h3 h.2.1
        simp only [hk, decide_true, Bool.true_or, if_true, h4, if_false]
        exact ⟨_, rfl, fun y hy => by simp at hy⟩
      · have h3 : 1 ≤ k := by omega
        rcases Bool.eq_false_or_eq_true (okN 15 a) with h5 | h5
        · simp only [hk, h5, h3, decide_false, Bool.not_true, Bool.or_false, Bool.false_eq_true, if_false, if_true, true_and]
          by_cases h6 : k = 1
          · subst h6
            simp only [ne_eq, not_true_eq_false, decide_false, Bool.false_eq_true, if_false, if_true]
            by_cases h7 : e.length = 1
            · have h8 : decide (¬ ((e.length : Int) + 4 = 5)) = false := by simp; omega
              rw [h8]
              simp only [Bool.false_eq_true, if_false, h7, if_true]
              match e, h7 with
              | [z], _ => exact ⟨_, rfl, fun y hy => by simpa using hy⟩
            · have h8 : decide (¬ ((e.length : Int) + 4 = 5)) = true := by simp; omega
              rw [h8]
              simp only [if_true, h7, if_false]
              exact ⟨_, rfl, fun y hy => by simp at hy⟩
          · simp only [ne_eq, h6, not_false_eq_true, decide_true, if_true, if_false]
            by_cases h7 : e.length = 0
            · have h8 : decide ((e.length : Int) + 4 = 4) = true := by simp; omega
              rw [h8]
              simp only [h7, if_true]
              exact ⟨_, rfl, fun y hy => by simpa using hy⟩
            · have h8 : decide ((e.length : Int) + 4 = 4) = false := by simp; omega
              rw [h8]
              simp only [h7, if_false]
              exact ⟨_, rfl, fun y hy => by simp at hy⟩
        · have h4 : ¬ (okN 15 a = true ∧ 1 ≤ k ∧ e.length = if k = 1 then 1 else 0) := fun h => by rw [h5] at h; exact absurd h.1 (by simp)
          simp only [hk, h5, decide_false, Bool.not_false, Bool.or_true, if_true, Bool.false_eq_true, if_false, false_and]
          exact ⟨_, rfl, fun y hy => by simp at hy⟩
theorem rdE_eb {line : Bs} {x : S_api_Event} (hl : line.length ≤ 1000000) (h : rdE line = some x) : EB x := by
  have hp := spl_piece 32 line
  unfold rdE at h
  split at h
  · cases h
  · split at h
    · rename_i a b c d e hw
      rw [hw] at hp
      generalize fdx (fun x => decide (d = x)) 0 kwL = z at h
      by_cases hc : okN 15 a = true ∧ 1 ≤ z ∧ e.length = (if z = 1 then 1 else 0)
      · rw [if_pos hc] at h
        have ha := hp a (by simp)
        have hb := hp b (by simp)
        have hcc := hp c (by simp)
        obtain ⟨o1, o2, o3⟩ := hc
        have hv : -100000000000000000 < valB a ∧ valB a < 100000000000000000 := by
          have o1' := o1
          unfold okN at o1'
          simp only [Bool.and_eq_true, decide_eq_true_eq] at o1'
          exact val_rng a 15 (by omega) o1'.1 o1'.2.1.2
        cases h
        refine ⟨by unfold atB; simp only; omega, by simp only; omega, by simp only; omega, ?_⟩
        simp only
        split
        · match e, hp with
          | [], _ => simp
          | z :: _, hp => have := hp z (by simp); simp only [List.headD_cons]; omega
        · simp
      · rw [if_neg hc] at h; cases h
    · cases h
def finE (l : List S_api_Event) : List S_api_Event × Int × Int := if evF l ≠ 0 then ([], 0, evF l) else (l, 0, 0)
def rdL : List Bs → Nat → List S_api_Event → List S_api_Event × Int × Int
  | [], k, out => finE out
  | p :: t, k, out => if t = [] then (if p = [] then finE out else ([], (k : Int), 9)) else match rdE p with
    | none => ([], (k : Int), 9)
    | some y => rdL t (k + 1) (out ++ [y])
section
variable {r3 : List Bs × Bool} {k : Nat} {x : Bs} {out : List S_api_Event}
theorem readL (hx : x.length ≤ 1000000) (hk : r3.1.length ≤ 1000000 ∧ out.length ≤ 1000000) (hc : r3.2 = true ∨ k + 1 ≠ r3.1.length) : portal_Read_L1 r3 k x out = match rdE x with
    | none => some (.inr ([], (k : Int), 9))
    | some y => some (.inl (out ++ [y])) := by
  unfold portal_Read_L1
  obtain ⟨z, h1, h2⟩ := readE_eq x hx
  rw [h1]
  simp only [Option.bind_some]
  rw [wr_id (by omega)]
  have h3 : (!r3.2 && decide ((k : Int) = (r3.1.length : Int) - 1)) = false := by
    rcases hc with hc | hc
    · rw [hc]; rfl
    · have : ¬ (k : Int) = (r3.1.length : Int) - 1 := by omega
      simp [this]
  rw [h3]
  cases hr : rdE x with
  | none => simp
  | some y =>
    have := h2 y hr
    subst this
    simp
    omega
theorem readZ (hx : x.length ≤ 1000000) (hk : r3.1.length ≤ 1000000) (h1 : r3.2 = false) (h2 : k + 1 = r3.1.length) : portal_Read_L1 r3 k x out = some (.inr ([], (k : Int), 9)) := by
  unfold portal_Read_L1
  obtain ⟨z, h3, _⟩ := readE_eq x hx
  rw [h3]
  simp only [Option.bind_some]
  rw [wr_id (by omega)]
  have h4 : decide ((k : Int) = (r3.1.length : Int) - 1) = true := by simp; omega
  rw [h1, h4]
  simp
end
theorem readA (r3 : List Bs × Bool) (h1 : r3.2 = true) (h2 : r3.1.length ≤ 1000000) : ∀ (l : List Bs) (k : Nat) (out : List S_api_Event), (∀ x, x ∈ l → x.length ≤ 1000000) → (∀ x, x ∈ out → EB x) → out.length + l.length ≤ 1000000 →
    forL (fun (k : Nat) (x : Bs) (s : (List S_api_Event)) => portal_Read_L1 r3 k x s) (fun (s : (List S_api_Event)) => portal_Read_E1 s) k l out = some (rdL (l ++ [[]]) k out)
  | [], k, out, _, hb, _ => by
    show portal_Read_E1 out = _
    unfold portal_Read_E1
    rw [formP_eq out hb]
    simp only [Option.bind_some, List.nil_append, rdL, if_true, finE]
    by_cases h : evF out = 0
    · rw [if_neg (by simpa using h), if_neg (by simpa using h)]
    · rw [if_pos (by simpa using h), if_pos h]
  | x :: l, k, out, hx, hb, hl => by
    have h3 := hx x (by simp)
    simp only [List.length_cons] at hl
    show (portal_Read_L1 r3 k x out).bind _ = _
    rw [readL h3 ⟨h2, by omega⟩ (.inl h1)]
    have hn : l ++ [[]] ≠ [] := by simp
    rw [List.cons_append, rdL, if_neg hn]
    cases hr : rdE x with
    | none => rfl
    | some y =>
      simp only [Option.bind_some, after]
      exact readA r3 h1 h2 l (k + 1) (out ++ [y]) (fun z hz => hx z (by simp [hz])) (fun z hz => by
        rcases List.mem_append.1 hz with hz | hz
        · exact hb z hz
        · rw [List.mem_singleton.1 hz]; exact rdE_eb h3 hr) (by simp; omega)
theorem readB (r3 : List Bs × Bool) (h1 : r3.2 = false) (h2 : r3.1.length ≤ 1000000) (p : Bs) (hp : p ≠ [] ∧ p.length ≤ 1000000) : ∀ (l : List Bs) (k : Nat) (out : List S_api_Event), (∀ x, x ∈ l → x.length ≤ 1000000) → (∀ x, x ∈ out → EB x) → out.length + l.length ≤ 1000000 → k + l.length + 1 = r3.1.length →
    forL (fun (k : Nat) (x : Bs) (s : (List S_api_Event)) => portal_Read_L1 r3 k x s) (fun (s : (List S_api_Event)) => portal_Read_E1 s) k (l ++ [p]) out = some (rdL (l ++ [p]) k out)
  | [], k, out, _, hb, _, hk => by
    show (portal_Read_L1 r3 k p out).bind _ = _
    rw [readZ hp.2 h2 h1 (by simpa using hk)]
    simp [rdL, hp.1, after]
  | x :: l, k, out, hx, hb, hl, hk => by
    have h3 := hx x (by simp)
    simp only [List.length_cons] at hl hk
    show (portal_Read_L1 r3 k x out).bind _ = _
    rw [readL h3 ⟨h2, by omega⟩ (.inr (by omega))]
    have hn : l ++ [p] ≠ [] := by simp
    rw [List.cons_append, rdL, if_neg hn]
    cases hr : rdE x with
    | none => rfl
    | some y =>
      simp only [Option.bind_some, after]
      exact readB r3 h1 h2 p hp l (k + 1) (out ++ [y]) (fun z hz => hx z (by simp [hz])) (fun z hz => by
        rcases List.mem_append.1 hz with hz | hz
        · exact hb z hz
        · rw [List.mem_singleton.1 hz]; exact rdE_eb h3 hr) (by simp; omega) (by omega)
theorem readP_eq (t : Bs) (hl : t.length ≤ 1000000) : m_portal_Read t = some (if 200000 < t.length then ([], 0, 2) else rdL (spl 10 t) 0 []) := by
  unfold m_portal_Read
  by_cases h0 : 200000 < t.length
  · rw [if_pos (by simp; omega), if_pos h0]
  · rw [if_neg (by simp; omega), if_neg h0]
    unfold m_kit_Lines
    rw [split_sp t 10 hl]
    simp only [Option.bind_some]
    have hw := spl_len 10 t
    have hp := spl_piece 10 t
    have hn := spl_ne 10 t
    generalize spl 10 t = w at hw hp hn
    obtain ⟨l, p, hlp⟩ : ∃ l p, w = l ++ [p] := ⟨w.dropLast, w.getLast hn, (List.dropLast_concat_getLast hn).symm⟩
    subst hlp
    simp only [List.length_append, List.length_cons, List.length_nil] at hw
    have e1 : wr (((l ++ [p]).length : Int) - 1) = (l.length : Int) := by
      simp only [List.length_append, List.length_cons, List.length_nil]
      rw [wr_id (by omega)]
      omega
    have e2 : at? (l ++ [p]) (l.length : Int) = some p := by
      unfold at?
      rw [if_pos (by omega)]
      simp
    rw [e1, e2]
    simp only [Option.bind_some]
    have hx : ∀ x, x ∈ l → x.length ≤ 1000000 := fun x h => by have := hp x (by simp [h]); omega
    by_cases hpe : p = []
    · subst hpe
      rw [if_pos (by simp), sub_take _ _ (by simp)]
      simp only [Option.bind_some, List.take_left]
      rw [if_pos (by omega)]
      exact readA _ rfl (by show l.length ≤ _; omega) l 0 [] hx (by simp) (by simp; omega)
    · rw [if_neg (by simpa using hpe)]
      simp only [Option.bind_some]
      rw [if_pos (by simp; omega)]
      exact readB _ rfl (by simp; omega) p ⟨hpe, by have := hp p (by simp); omega⟩ l 0 [] hx (by simp) (by simp; omega) (by simp)
theorem readR : ∀ (n : Nat) (s : Bs) (k : Nat) (out : List S_api_Event), s.length ≤ n → s.length ≤ 1000000 → (∀ x, x ∈ out → EB x) → out.length + s.length ≤ 1000000 → k + s.length ≤ 1000000 →
    iter (fun (s : Bs × Int × (List S_api_Event)) => gateref2_EventsRead_L2 s.1 s.2.1 s.2.2) (s, (k : Int), out) = some (rdL (spl 10 s) k out) := by
  intro n
  induction n with
  | zero =>
    intro s k out h1 _ hb _ _
    have : s = [] := by cases s with | nil => rfl | cons _ _ => simp at h1
    subst this
    refine iterO ?_
    show gateref2_EventsRead_L2 [] (k : Int) out = _
    unfold gateref2_EventsRead_L2 gateref2_EventsRead_J1
    rw [if_neg (by simp), formR_eq out hb]
    simp only [Option.bind_some, spl, rdL, if_true, finE]
    by_cases h : evF out = 0
    · rw [if_neg (by simpa using h), if_neg (by simpa using h)]; rfl
    · rw [if_pos (by simpa using h), if_pos h]; rfl
  | succ n ih =>
    intro s k out h1 h2 hb h3 h4
    by_cases hs : s = []
    · subst hs
      exact ih [] k out (by simp) h2 hb h3 h4
    · have hcut : m_strings_Cut s [10] = some (Lib.cut s [10]) := by unfold m_strings_Cut; rw [if_pos (by omega)]
      by_cases hm : (10 : UInt8) ∈ s
      · obtain ⟨p, q, hpq, hno⟩ : ∃ p q, s = p ++ 10 :: q ∧ (10 : UInt8) ∉ p := by
          obtain ⟨p, q, h5, h6⟩ := first_in hm
          exact ⟨p, q, h5, h6⟩
        subst hpq
        simp only [List.length_append, List.length_cons] at h1 h2 h3 h4
        rw [cut_app 10 p q hno] at hcut
        have hw := spl_len 32 p
        have hL : gateref2_EventsRead_L2 (p ++ 10 :: q) (k : Int) out = match rdE p with
            | none => some (.inr ([], (k : Int), 9))
            | some y => some (.inl (q, ((k + 1 : Nat) : Int), out ++ [y])) := by
          unfold gateref2_EventsRead_L2
          rw [if_pos (by simp), hcut]
          simp only [Option.bind_some]
          rw [split_sp p 32 (by omega)]
          simp only [Option.bind_some, Bool.not_true, Bool.false_eq_true, if_false]
          rw [has_empty _ (by omega)]
          simp only [Option.bind_some]
          have hpc := spl_piece 32 p
          unfold gateref2_EventsRead_J3 rdE
          generalize spl 32 p = w at hw hpc
          rcases Bool.eq_false_or_eq_true (w.any fun x => decide ([] = x)) with g1 | g1
          · rw [g1]; simp
          · rw [g1]
            match w, hpc with
            | [], _ => simp
            | [_], _ => simp
            | [_, _], _ => simp
            | [_, _, _], _ => simp
            | a :: b :: c :: d :: e, hpc =>
              have ha : a.length ≤ 1000000 := by have := hpc a (by simp); omega
              obtain ⟨w, e1, e1', _⟩ := ref_number a 15 (by omega) ha
              have e1 : m_gateref2_Number a 15 = some (w, okN 15 a) := e1
              have e2 : m_slices_Index_L_string_string_ [[], [97, 115, 107], [97, 112, 112, 114, 111, 118, 101], [114, 101, 102, 117, 115, 101], [112, 97, 117, 115, 101], [114, 101, 115, 117, 109, 101], [101, 110, 100]] d = some (fdx (fun x => decide (d = x)) 0 kwL) := index_kw d
              have e0 : decide (((a :: b :: c :: d :: e).length : Int) < 4) = false := by simp; omega
              have g0 : (a :: b :: c :: d :: e)[0]? = some a := rfl
              have g1 : (a :: b :: c :: d :: e)[1]? = some b := rfl
              have g2 : (a :: b :: c :: d :: e)[2]? = some c := rfl
              have g3 : (a :: b :: c :: d :: e)[3]? = some d := rfl
              have hlen : ((a :: b :: c :: d :: e).length : Int) = (e.length : Int) + 4 := by simp only [List.length_cons]; omega
              unfold m_gateref2_eventWords gateref2_EventsRead_J4
              simp only [e0, g0, g1, g2, g3, Bool.false_eq_true, if_false, Option.bind_some, e1, e2, hlen]
              generalize fdx (fun x => decide (d = x)) 0 kwL = z
              rw [wr_id (n := (k : Int) + 1) (by omega)]
              have hk1 : (k : Int) + 1 = ((k + 1 : Nat) : Int) := by omega
              rw [hk1]
              have ho : out.length + 1 ≤ 1000000000 := by omega
              rcases Bool.eq_false_or_eq_true (okN 15 a) with h5 | h5
              · have hv := e1' h5
                subst hv
                by_cases hk : z < 1
                · have h6 : ¬ 1 ≤ z := by omega
                  simp [h5, hk, h6]
                · have h6 : 1 ≤ z := by omega
                  by_cases h7 : z = 1
                  · subst h7
                    match e with
                    | [] => simp [h5]
                    | [y] => simp [h5, ho]
                    | y :: y2 :: e' =>
                      have : ¬ ((e'.length : Int) + 1 + 1 + 4 = 5) := by omega
                      simp [h5, this]
                  · match e with
                    | [] => simp [h5, hk, h6, h7, ho]
                    | y :: e' =>
                      have : ¬ ((e'.length : Int) + 1 + 4 = 4) := by omega
                      simp [h5, hk, h6, h7, this]
              · simp [h5]
        have hsp : spl 10 (p ++ 10 :: q) = p :: spl 10 q := splA 10 q p hno
        rw [hsp, rdL, if_neg (spl_ne 10 q)]
        cases hr : rdE p with
        | none =>
          rw [hr] at hL
          exact iterO hL
        | some y =>
          rw [hr] at hL
          rw [iterI hL]
          exact ih q (k + 1) (out ++ [y]) (by omega) (by omega) (fun z hz => by
            rcases List.mem_append.1 hz with hz | hz
            · exact hb z hz
            · rw [List.mem_singleton.1 hz]; exact rdE_eb (by omega) hr) (by simp; omega) (by omega)
      · rw [cut_no 10 s hm] at hcut
        refine iterO ?_
        show gateref2_EventsRead_L2 s (k : Int) out = _
        unfold gateref2_EventsRead_L2 gateref2_EventsRead_J3
        rw [if_pos (by simpa using hs), hcut]
        simp only [Option.bind_some]
        rw [split_sp s 32 h2, splN 10 s hm]
        simp [rdL, hs]
theorem readR_eq (t : Bs) (hl : t.length ≤ 1000000) : m_gateref2_EventsRead t = some (if 200000 < t.length then ([], 0, 2) else rdL (spl 10 t) 0 []) := by
  unfold m_gateref2_EventsRead
  by_cases h0 : 200000 < t.length
  · rw [if_pos (by simp; omega), if_pos h0]
  · rw [if_neg (by simp; omega), if_neg h0]
    exact readR t.length t 0 [] (Nat.le_refl _) hl (by simp) (by simpa using hl) (by simpa using hl)
end Go.Proofs.YtloinbpihpcblaaGreatDoor
