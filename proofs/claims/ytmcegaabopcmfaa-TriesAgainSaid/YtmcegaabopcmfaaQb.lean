/- Plain: budgets, tries; the law TriesAgain is true for every list of numbers. -/
import Derived.Test.YtmcegaabopcmfaaQa
import Derived.Test.YtmcegaabopcmfaaPi
namespace Go.Proofs.Ytmcegaabopcmfaa
set_option linter.unusedVariables false
set_option maxRecDepth 20000

def budF (b : S_api_Budget) : Int := if outP b.Window 1 3600000 || outP b.Least 0 300 || outP b.Part 0 1000 then 1 else 0
theorem chkB_eq (b : S_api_Budget) : m_upstream_CheckBudget b = some (budF b) := by
  have e : ∀ n lo hi, m_kit_Outside n lo hi = some (outP n lo hi) := fun _ _ _ => rfl
  unfold m_upstream_CheckBudget upstream_CheckBudget_J1 budF
  simp only [e, Option.bind_some]
  cases outP b.Window 1 3600000 <;> cases outP b.Least 0 300 <;> cases outP b.Part 0 1000 <;> rfl
theorem budR_eq (b : S_api_Budget) : m_gateref2_BudgetFault b = some (budF b) := by
  unfold m_gateref2_BudgetFault m_gateref2_in gateref2_BudgetFault_J1 budF
  simp only [Option.bind_some, outP_in]
  cases (decide (1 ≤ b.Window) && decide (b.Window ≤ 3600000)) <;> cases (decide (0 ≤ b.Least) && decide (b.Least ≤ 300)) <;> cases (decide (0 ≤ b.Part) && decide (b.Part ≤ 1000)) <;> simp
theorem concat_eq (ls : List (List Int)) (h : ls.length ≤ 1000) (h2 : ∀ l, l ∈ ls → l.length ≤ 1000) : m_slices_Concat_L_int_int_ ls = some ls.flatten := by
  refine ok_eq ?_
  unfold m_slices_Concat_L_int_int_
  refine ok_g (by omega) (ok_forL (I := fun k (s : Int) => 0 ≤ s ∧ s ≤ 1000 * (k : Int)) ls 0 0 (by simp) ?_ ?_)
  · intro j x s _ hx hs
    have hx : ls[j]? = some x := by simpa using hx
    have h3 := lt_some hx
    have h4 := h2 x (List.mem_of_getElem? hx)
    unfold slices_Concat_L_int_int__L1
    rw [wr_id (by omega)]
    refine ok_if (fun h => absurd h (by simp; omega)) (fun _ => ok_some ?_)
    show 0 ≤ s + _ ∧ s + _ ≤ _
    omega
  · intro s hs
    unfold slices_Concat_L_int_int__E1 m_slices_Grow
    rw [if_pos (by omega)]
    refine ok_bind (ok_of rfl rfl) fun l hl => ok_g (by omega) (ok_forL (I := fun k (s : List Int) => s = (ls.take k).flatten ∧ s.length ≤ 1000 * k) ls 0 l (by simp [← hl]) ?_ ?_)
    · intro j x s _ hx hs
      have hx : ls[j]? = some x := by simpa using hx
      have h3 := lt_some hx
      have h4 := h2 x (List.mem_of_getElem? hx)
      unfold slices_Concat_L_int_int__L2
      refine ok_g (by omega) (ok_some ⟨?_, ?_⟩)
      · rw [List.take_add_one, hx, hs.1]; simp
      · simp; omega
    · intro s hs
      unfold slices_Concat_L_int_int__E2
      refine ok_some ?_
      rw [hs.1]; simp
/-- how many are in the window -/
def inW (b : S_api_Budget) (a x : Int) : Bool := decide (a - b.Window < x) && decide (x ≤ a)
def many (b : S_api_Budget) (a : Int) (l : List Int) : Nat := (l.filter (inW b a)).length
theorem many_succ (b : S_api_Budget) (a : Int) (l : List Int) (j : Nat) (x : Int) (h : l[j]? = some x) : many b a (l.take (j + 1)) = many b a (l.take j) + if inW b a x then 1 else 0 := by
  rw [List.take_add_one, h]
  unfold many
  rw [List.filter_append, List.length_append]
  congr 1
  cases hx : inW b a x <;> simp [hx]
theorem many_le (b : S_api_Budget) (a : Int) (l : List Int) : many b a l ≤ l.length := List.length_filter_le _ _
section
variable (b : S_api_Budget) (a : Int) (hb : budF b = 0) (ha : momP a = true)
include hb ha
theorem bud_rng : (1 ≤ b.Window ∧ b.Window ≤ 3600000 ∧ 0 ≤ b.Least ∧ b.Least ≤ 300 ∧ 0 ≤ b.Part ∧ b.Part ≤ 1000) ∧ 0 ≤ a ∧ a ≤ 345686399999 := by
  unfold budF outP at hb
  unfold momP at ha
  simp at hb ha
  omega
theorem may1_eq (l : List Int) (hl : l.length ≤ 1000) : m_upstream_may_1 l a b = some (many b a l : Int) := by
  obtain ⟨h1, h2⟩ := bud_rng b a hb ha
  refine ok_eq ?_
  unfold m_upstream_may_1
  refine ok_g (by omega) (ok_forL (I := fun k (s : Int) => s = (many b a (l.take k) : Int)) l 0 0 (by simp [many]) ?_ ?_)
  · intro j x s _ hx hs
    have hx : l[j]? = some x := by simpa using hx
    have h3 := many_succ b a l j x hx
    have h4 := many_le b a (l.take j)
    rw [List.length_take] at h4
    unfold upstream_may_1_L1 upstream_may_1_J2
    rw [wr_id (n := a - b.Window) (by omega)]
    refine ok_if (fun h => ok_some ?_) (fun h => ok_some ?_)
    · show wr (s + 1) = _
      rw [wr_id (by omega), h3, if_pos (show inW b a x = true from h), hs]; simp
    · show s = _
      rw [h3, if_neg (show ¬ inW b a x = true from h), hs]; simp
  · intro s hs
    unfold upstream_may_1_E1
    exact ok_some (by rw [hs]; simp)
theorem mayR1_eq (l : List Int) (hl : l.length ≤ 1000) : m_gateref2_MayOf_1 l a b = some (many b a l : Int) := by
  obtain ⟨h1, h2⟩ := bud_rng b a hb ha
  refine ok_eq ?_
  unfold m_gateref2_MayOf_1
  refine ok_g (by omega) (ok_forL (I := fun k (s : Int) => s = (many b a (l.take k) : Int)) l 0 0 (by simp [many]) ?_ ?_)
  · intro j x s _ hx hs
    have hx : l[j]? = some x := by simpa using hx
    have h3 := many_succ b a l j x hx
    have h4 := many_le b a (l.take j)
    rw [List.length_take] at h4
    unfold gateref2_MayOf_1_L1 gateref2_MayOf_1_J2 m_gateref2_in
    rw [wr_id (n := a - b.Window) (by omega), wr_id (n := a - b.Window + 1) (by omega)]
    have e1 : (decide (a - b.Window + 1 ≤ x) && decide (x ≤ a)) = inW b a x := by
      unfold inW
      congr 1
    simp only [Option.bind_some, e1]
    refine ok_if (fun h => ok_some ?_) (fun h => ok_some ?_)
    · show wr (s + 1) = _
      rw [wr_id (by omega), h3, if_pos h, hs]; simp
    · show s = _
      rw [h3, if_neg h, hs]; simp
  · intro s hs
    unfold gateref2_MayOf_1_E1
    exact ok_some (by rw [hs]; simp)
def mayB (b : S_api_Budget) (a : Int) (calls again : List Int) : Bool := decide ((many b a again : Int) < wr (b.Least + wr (b.Part * (many b a calls : Int)) / 1000))
theorem may_g (n : Nat) (hn : n ≤ 1000) : ((0 : Int) ≤ wr (b.Part * (n : Int)) ∧ wr (b.Part * (n : Int)) ≤ 9223372036854775807) ∧ (0 : Int) < 1000 := by
  obtain ⟨h1, h2⟩ := bud_rng b a hb ha
  have h3 : b.Part * (n : Int) ≤ 1000 * n := Int.mul_le_mul_of_nonneg_right (by omega) (by omega)
  have h4 : 0 ≤ b.Part * (n : Int) := Int.mul_nonneg (by omega) (by omega)
  rw [wr_id (by omega)]
  omega
theorem may_eq (c g : List Int) (hc : c.length ≤ 1000) (hg : g.length ≤ 1000) : m_upstream_may b c g a = some (mayB b a c g) := by
  have h1 := many_le b a c
  unfold m_upstream_may mayB
  rw [may1_eq b a hb ha g hg, may1_eq b a hb ha c hc]
  simp only [Option.bind_some]
  rw [if_pos (may_g b a hb ha _ (by omega))]
theorem mayR_eq (c g : List Int) (hc : c.length ≤ 1000) (hg : g.length ≤ 1000) : m_gateref2_MayOf b c g a = some (mayB b a c g) := by
  have h1 := many_le b a c
  unfold m_gateref2_MayOf mayB
  rw [mayR1_eq b a hb ha g hg, mayR1_eq b a hb ha c hc]
  simp only [Option.bind_some]
  rw [if_pos (may_g b a hb ha _ (by omega))]
end
/-- the fault of May -/
def mayF (b : S_api_Budget) (l : List Int) : Int := if budF b ≠ 0 then budF b else if l.all momP then 0 else 1
theorem mayP_eq (b : S_api_Budget) (c g : List Int) (a : Int) (hc : c.length ≤ 1000) (hg : g.length ≤ 1000) : m_upstream_May b c g a = some (if mayF b (c ++ g ++ [a]) = 0 then mayB b a c g else false, mayF b (c ++ g ++ [a])) := by
  unfold m_upstream_May
  rw [chkB_eq]
  simp only [Option.bind_some]
  by_cases h0 : budF b = 0
  · rw [if_neg (by simp [h0]), if_neg (by simp; omega), concat_eq [c, g] (by simp) (by simp; omega)]
    simp only [Option.bind_some]
    have e1 : [c, g].flatten = c ++ g := by simp
    rw [e1, if_pos (by simp; omega), if_pos (by simp; omega)]
    have hF : mayF b (c ++ g ++ [a]) = if (c ++ g ++ [a]).all momP then 0 else 1 := by unfold mayF; simp [h0]
    rw [hF]
    generalize hl : c ++ g ++ [a] = l
    have hlen : l.length ≤ 2001 := by rw [← hl]; simp; omega
    have hal : a ∈ l := by rw [← hl]; simp
    refine ok_eq (ok_rng (I := fun k _ => ∀ j x, j < k → l[j]? = some x → momP x = true) _ 0 () (fun j x hj => by omega) ?_ ?_)
    · intro j s _ hj hI
      unfold upstream_May_L1
      rw [hl]
      have hj : j < l.length := by omega
      rw [List.getElem?_eq_getElem hj]
      simp only [Option.bind_some, isMoment_eq]
      refine ok_if (fun h => ok_some ?_) (fun h => ok_some ?_)
      · have : l.all momP = false := by
          rw [List.all_eq_false]
          exact ⟨_, List.getElem_mem hj, by simpa using h⟩
        show (false, (1 : Int)) = _
        rw [this]; rfl
      · intro i x hi hx
        rcases Nat.lt_or_ge i j with h1 | h1
        · exact hI i x h1 hx
        · have : i = j := by omega
          subst this
          rw [List.getElem?_eq_getElem hj] at hx
          cases hx
          simpa using h
    · intro s hI
      have hall : l.all momP = true := by
        rw [List.all_eq_true]
        intro x hx
        obtain ⟨j, hj, rfl⟩ := List.getElem_of_mem hx
        exact hI j _ (by omega) (List.getElem?_eq_getElem hj)
      unfold upstream_May_E1
      rw [may_eq b a h0 (List.all_eq_true.1 hall a hal) c g hc hg, hall]
      exact ok_some (by simp)
  · have hF : mayF b (c ++ g ++ [a]) = budF b := by unfold mayF; simp [h0]
    rw [if_pos (by simpa using h0), hF, if_neg h0]
theorem three_eq {fin : Int → Option Bool} : ∀ (l : List Int) (k : Nat) (v : Int), forL (fun (k : Nat) (x : Int) (s : Int) => gatelaw2_TriesAgain_L3 k x s) fin k l v = fin (if v ≠ 0 then v else if l.all momP then 0 else 1)
  | [], k, v => by
    show fin v = _
    by_cases h : v = 0 <;> simp [h]
  | x :: l, k, v => by
    have hb : gatelaw2_TriesAgain_L3 k x v = some (.inl (errsL [v, if momP x then 0 else 1])) := by
      unfold gatelaw2_TriesAgain_L3
      rw [momentFault_eq]
      simp only [Option.bind_some]
      rw [errs_eq _ (by simp)]
      rfl
    show (gatelaw2_TriesAgain_L3 k x v).bind _ = _
    rw [hb]
    simp only [Option.bind_some, after]
    rw [three_eq l (k + 1)]
    congr 1
    by_cases h : v = 0
    · cases hx : momP x <;> simp [h, hx, errsL]
    · simp [h, errsL]
theorem rightBudget_ok {k : Int} {s : S_gatemake_Stream} (h : SB k s) (hk : k ≤ 1000000) : Ok (m_gatemake_Stream_RightBudget s) fun r => SB (k + 3) r.2 := by
  unfold m_gatemake_Stream_RightBudget
  exact ok_bind (pick_ok h (by omega) _ ⟨by simp, by simp⟩) fun r2 h2 => ok_bind (pick_ok h2.2 (by omega) _ ⟨by simp, by simp⟩) fun r4 h4 => ok_bind (pick_ok h4.2 (by omega) _ ⟨by simp, by simp⟩) fun r6 h6 => ok_some (h6.2.mono (by omega))
theorem budget_ok {k : Int} {s : S_gatemake_Stream} (h : SB k s) (hk : k ≤ 1000000) : Ok (m_gatemake_Stream_Budget s) fun r => SB (k + 10) r.2 := by
  unfold m_gatemake_Stream_Budget
  refine ok_bind (rightBudget_ok h hk) fun r2 h2 => ok_bind (flip_ok h2 (by omega) _ (by omega)) fun r4 h4 => ok_if (fun _ => ?_) (fun _ => ?_)
  · exact ok_bind (odd_ok h4 (by omega) _ _ (by omega)) fun r7 h7 => ok_bind (odd_ok h7.2 (by omega) _ _ (by omega)) fun r9 h9 => ok_bind (odd_ok h9.2 (by omega) _ _ (by omega)) fun r11 h11 => ok_some (h11.2.mono (by omega))
  · exact ok_some (h4.mono (by omega))
theorem times_ok {k : Int} {s : S_gatemake_Stream} (h : SB k s) (hk : k ≤ 1000000) (n : Int) (hn : 0 ≤ n ∧ n ≤ 100) : Ok (m_gatemake_Stream_Times s n) fun r => r.1.length ≤ 100 ∧ SB (k + 200) r.2 := by
  unfold m_gatemake_Stream_Times
  refine ok_bind (range_ok h (by omega) 0 n (by omega)) fun r3 h3 => ok_g (by omega) (ok_rng (I := fun j (q : (List Int) × Int × (List Int)) => SB (k + 1 + j) ⟨q.1, q.2.1⟩ ∧ q.2.2.length ≤ j) _ 0 _ ⟨by simpa using h3.2, by simp⟩ ?_ ?_)
  · rintro j ⟨c5, c6, l7⟩ _ hj ⟨h1, h2⟩
    simp only at h1 h2
    unfold gatemake_Stream_Times_L1
    exact ok_bind (pick_ok h1 (by omega) _ ⟨by simp, by simp⟩) fun r hr => ok_g (by simp only; omega) (ok_some ⟨hr.2.mono (by omega), by simp; omega⟩)
  · rintro ⟨c5, c6, l7⟩ ⟨h1, h2⟩
    simp only at h1 h2
    unfold gatemake_Stream_Times_E1 gatemake_Stream_Times_J3 gatemake_Stream_Times_J2
    refine ok_if (fun h => ?_) (fun h => ?_)
    · refine ok_bind (flip_ok h1 (by omega) _ (by omega)) fun r13 h13 => ok_if (fun _ => ?_) (fun _ => ok_some ⟨by simp only; omega, h13.mono (by omega)⟩)
      refine ok_bind (odd_ok h13 (by omega) _ _ (by omega)) fun r20 h20 => ?_
      have hl : 0 < l7.length := by simpa using h
      rw [List.getElem?_eq_getElem hl]
      exact ok_some ⟨by simp; omega, h20.2.mono (by omega)⟩
    · exact ok_if (fun h => by cases h) (fun _ => ok_some ⟨by simp only; omega, h1.mono (by omega)⟩)
theorem triesAgain_J2 (l6 : List Int) (r10 r16 : Int × S_gatemake_Stream) (v25 v26 : Int) (s : S_gatemake_Stream) {k : Int} (h : SB k s) (hk : k ≤ 1000) (hl : l6.length ≤ 1000) (hr : 0 ≤ r10.1) : Ok (gatelaw2_TriesAgain_J2 l6 r10 r16 v25 v26 s.L s.at_) (· = true) := by
  unfold gatelaw2_TriesAgain_J2
  refine ok_bind (budget_ok h (by omega)) fun r29 h29 => ok_bind (times_ok h29 (by omega) 8 (by omega)) fun r31 h31 => ok_bind (times_ok h31.2 (by omega) 6 (by omega)) fun r33 h33 => ok_bind (pick_ok h33.2 (by omega) _ ⟨by simp, by simp⟩) fun r35 _ => ?_
  have hc := h31.1
  have hg := h33.1
  have hper : ∃ v, m_upstream_Percentile l6 r10.1 = some (v, errsL [if l6 = [] then 8 else 0, if outP r10.1 1 1000 then 1 else 0]) ∧ (errsL [if l6 = [] then 8 else 0, if outP r10.1 1 1000 then 1 else 0] = 0 → m_gateref2_PercentileOf l6 r10.1 = some v) ∧ (errsL [if l6 = [] then 8 else 0, if outP r10.1 1 1000 then 1 else 0] ≠ 0 → v = 0) := by
    by_cases h1 : l6 = []
    · subst h1
      exact ⟨0, rfl, by simp [errsL], fun _ => rfl⟩
    · cases h2 : outP r10.1 1 1000
      · have h3 : 1 ≤ r10.1 ∧ r10.1 ≤ 1000 := by unfold outP at h2; simp at h2; omega
        have e0 : errsL [if l6 = [] then 8 else 0, if false = true then 1 else 0] = 0 := by rw [if_neg h1]; rfl
        rw [e0]
        exact ⟨_, percP_eq l6 r10.1 h1 hl h3, fun _ => percR_eq l6 r10.1 h1 hl h3, fun h => absurd rfl h⟩
      · have e0 : errsL [if l6 = [] then 8 else 0, if true = true then 1 else 0] = 1 := by rw [if_neg h1]; rfl
        rw [e0]
        refine ⟨0, ?_, fun h => absurd h (by decide), fun _ => rfl⟩
        unfold m_upstream_Percentile m_kit_Outside
        rw [if_neg (by simpa using h1), if_neg (by simp; omega)]
        simp only [Option.bind_some]
        unfold outP at h2
        rw [if_pos h2]
  obtain ⟨v, p1, p2, p3⟩ := hper
  rw [p1, backP_eq, mayP_eq _ _ _ _ (by omega) (by omega)]
  simp only [Option.bind_some, m_gatelaw2_when]
  have w1 : (if decide ((l6.length : Int) = 0) = true then some (8 : Int) else some 0) = some (if l6 = [] then 8 else 0) := by
    by_cases h1 : l6 = []
    · simp [h1]
    · have : ¬ ((l6.length : Int) = 0) := by
        cases hq : l6 with
        | nil => exact absurd hq h1
        | cons _ _ => simp; omega
      simp [h1]
  have w2 : (if (decide (r10.1 < 1) || decide (1000 < r10.1)) = true then some (1 : Int) else some 0) = some (if outP r10.1 1 1000 then 1 else 0) := by
    unfold outP
    cases (decide (r10.1 < 1) || decide (1000 < r10.1)) <;> rfl
  rw [w1, w2]
  simp only [Option.bind_some]
  rw [errs_eq _ (by simp), bfR_eq, budR_eq, chkB_eq]
  simp only [Option.bind_some]
  rw [if_neg (by simp), concat_eq [r31.1, r33.1, [r35.1]] (by simp) (by simp; omega)]
  simp only [Option.bind_some]
  rw [if_pos (by simp; omega), three_eq]
  have e3 : [r31.1, r33.1, [r35.1]].flatten = r31.1 ++ r33.1 ++ [r35.1] := by simp
  rw [e3]
  have e4 : (if budF r29.1 ≠ 0 then budF r29.1 else if (r31.1 ++ r33.1 ++ [r35.1]).all momP = true then 0 else 1) = mayF r29.1 (r31.1 ++ r33.1 ++ [r35.1]) := rfl
  rw [e4]
  generalize hq : errsL [if l6 = [] then 8 else 0, if outP r10.1 1 1000 = true then 1 else 0] = q at *
  refine ok_of (x := true) ?_ rfl
  have hJ5 : ∀ (r39 : Int × Int), gatelaw2_TriesAgain_J5 r29 r31 r33 r35 (v, q) r39 (if mayF r29.1 (r31.1 ++ r33.1 ++ [r35.1]) = 0 then mayB r29.1 r35.1 r31.1 r33.1 else false, mayF r29.1 (r31.1 ++ r33.1 ++ [r35.1])) q r39.2 (mayF r29.1 (r31.1 ++ r33.1 ++ [r35.1])) v r39.1 = some true := by
    intro r39
    unfold gatelaw2_TriesAgain_J5 gatelaw2_TriesAgain_J6
    simp only [decide_true, if_true]
    by_cases hm : mayF r29.1 (r31.1 ++ r33.1 ++ [r35.1]) = 0
    · have hm' := hm
      unfold mayF at hm'
      have hb0 : budF r29.1 = 0 := by
        by_cases hb : budF r29.1 = 0
        · exact hb
        · simp [hb] at hm'
      have ha : momP r35.1 = true := by
        rw [if_neg (by simp [hb0])] at hm'
        cases hall : (r31.1 ++ r33.1 ++ [r35.1]).all momP
        · rw [hall] at hm'; simp at hm'
        · exact List.all_eq_true.1 hall _ (by simp)
      rw [if_pos (by simpa using hm), mayR_eq _ _ hb0 ha _ _ (by omega) (by omega), if_pos hm]
      simp only [Option.bind_some, beq_self_eq_true, if_true, balanced_eq]
    · rw [if_neg (by simpa using hm), if_neg hm]
      simp only [beq_self_eq_true, if_true, balanced_eq, Option.bind_some]
  have hJ4 : ∀ v', v' = v → gatelaw2_TriesAgain_J4 r16 v25 v26 r29 r31 r33 r35 (v, q) (if bfF v25 v26 r16.1 = 0 then bo v25 v26 (r16.1 - 2).toNat else 0, bfF v25 v26 r16.1) (if mayF r29.1 (r31.1 ++ r33.1 ++ [r35.1]) = 0 then mayB r29.1 r35.1 r31.1 r33.1 else false, mayF r29.1 (r31.1 ++ r33.1 ++ [r35.1])) q (bfF v25 v26 r16.1) (mayF r29.1 (r31.1 ++ r33.1 ++ [r35.1])) v' = some true := by
    rintro v' rfl
    unfold gatelaw2_TriesAgain_J4
    by_cases hb : bfF v25 v26 r16.1 = 0
    · have h1 := hb
      unfold bfF outP at h1
      simp at h1
      rw [if_pos (by simpa using hb), backR_eq v25 v26 (by omega) (by omega) r16.1 (by omega), if_pos hb]
      exact hJ5 (bo v25 v26 (r16.1 - 2).toNat, bfF v25 v26 r16.1)
    · rw [if_neg (by simpa using hb), if_neg hb]
      exact hJ5 (0, bfF v25 v26 r16.1)
  unfold gatelaw2_TriesAgain_E3
  by_cases hq0 : q = 0
  · rw [if_pos (by simpa using hq0), p2 hq0]
    exact hJ4 v rfl
  · rw [if_neg (by simpa using hq0)]
    exact hJ4 0 (p3 hq0).symm
theorem triesAgain_plain (L : List Int) : m_gatelaw2_TriesAgain L = some true := by
  refine ok_eq ?_
  unfold m_gatelaw2_TriesAgain
  refine ok_bind (range_ok (k := 0) (s := ⟨L, 0⟩) ⟨by simp, by simp⟩ (by omega) 0 8 (by omega)) fun r2 h2 => ok_g (by omega) (ok_rng (I := fun j (q : (List Int) × Int × (List Int)) => SB (1 + j) ⟨q.1, q.2.1⟩ ∧ q.2.2.length ≤ j) _ 0 _ ⟨by simpa using h2.2, by simp⟩ ?_ ?_)
  · rintro j ⟨c4, c5, l6⟩ _ hj ⟨h1, h3⟩
    simp only at h1 h3
    unfold gatelaw2_TriesAgain_L1
    exact ok_bind (pick_ok h1 (by omega) _ ⟨by simp, by simp⟩) fun r hr => ok_g (by simp only; omega) (ok_some ⟨hr.2.mono (by omega), by simp; omega⟩)
  · rintro ⟨c4, c5, l6⟩ ⟨h1, h3⟩
    simp only at h1 h3
    unfold gatelaw2_TriesAgain_E1
    refine ok_bind (pick_ok h1 (by omega) _ ⟨by simp, by simp⟩) fun r10 h10 => ok_bind (pick_ok h10.2 (by omega) _ ⟨by simp, by simp⟩) fun r12 h12 => ok_bind (pick_ok h12.2 (by omega) _ ⟨by simp, by simp⟩) fun r14 h14 => ok_bind (pick_ok h14.2 (by omega) _ ⟨by simp, by simp⟩) fun r16 h16 => ok_bind (flip_ok h16.2 (by omega) _ (by omega)) fun r18 h18 => ?_
    have h10' : 0 ≤ r10.1 := by have := h10.1; simp at this; omega
    refine ok_if (fun _ => ?_) (fun _ => ?_)
    · exact ok_bind (odd_ok h18 (by omega) _ _ (by omega)) fun r21 h21 => ok_bind (odd_ok h21.2 (by omega) _ _ (by omega)) fun r23 h23 => triesAgain_J2 l6 r10 r16 r21.1 r23.1 r23.2 h23.2 (by omega) (by omega) h10'
    · exact triesAgain_J2 l6 r10 r16 r12.1 r14.1 r18.2 h18 (by omega) (by omega) h10'
end Go.Proofs.Ytmcegaabopcmfaa
