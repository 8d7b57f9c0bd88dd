/- Plain: the law CatalogsPrice is true for every list of numbers. -/
import Derived.Test.YtdajmjdjhgpaaaaDoorCrYr
namespace Go.Proofs.YtdajmjdjhgpaaaaDoor
set_option linter.unusedVariables false
set_option maxRecDepth 20000
theorem when_eq (b : Bool) (e : Int) : m_gatelaw2_when b e = some (if b = true then e else 0) := by
  unfold m_gatelaw2_when
  cases b <;> rfl
theorem planOf2_eq (c : S_api_Catalog) (hb : CB c) (ht : ∀ x, x ∈ c.Plans → x.Tiers.length ≤ 1000000) (key : Bs) : m_portal_PlanOf c key = some (if catF c ≠ 0 then (plan0, catF c) else match at? c.Plans (ixL c key) with | none => (plan0, 8) | some x => (x, 0)) := by
  unfold m_portal_PlanOf
  rw [chkCat_eq c hb]
  simp only [Option.bind_some]
  by_cases h1 : catF c = 0
  · obtain ⟨⟨hp, hl⟩, hg⟩ := catF_good h1
    rw [if_neg (by simpa using h1), if_neg (by simpa using h1)]
    rcases planOf_eq c key hb.nl hl with ⟨h2, h3, h4⟩ | ⟨h2, h3, x, h5, h6, _, h4⟩
    · rw [h4]
      have : at? c.Plans (ixL c key) = none := by unfold at?; rw [if_neg (by omega)]
      rw [this]
      rfl
    · have := ht x h6
      rw [h4, h5]
      simp only [Option.bind_some, Bool.not_true, Bool.false_eq_true, if_false, m_slices_Clone]
      rw [if_pos (by omega)]
      rfl
  · rw [if_pos (by simpa using h1), if_pos h1]; rfl
theorem cp_tail (r2 : S_api_Catalog × S_gatemake_Stream) (r6 : Int × S_gatemake_Stream) (e r17 : Int) (he : e ≠ 0) : gatelaw2_CatalogsPrice_J1 r2 r6 (0, e) r17 e false = some true := by
  unfold gatelaw2_CatalogsPrice_J1 gatelaw2_CatalogsPrice_J2 gatelaw2_CatalogsPrice_J3
  rw [if_neg (by decide), if_neg (by simpa using he)]
  simp [priced_eq]
theorem catalogsPrice_plain (L : List Int) : m_gatelaw2_CatalogsPrice L = some true := by
  refine ok_eq ?_
  unfold m_gatelaw2_CatalogsPrice
  refine ok_bind (cat_ok (k := 0) ⟨by simp, by simp⟩ (by omega)) fun r2 h2 => ok_bind (some_ok h2.2 (by omega) _ ⟨by simp, by simp⟩) fun r4 h4 => ok_bind (pick_ok h4.2 (by omega) _ ⟨by simp, by simp⟩) fun r6 h6 => ?_
  have hb := h2.1.cb
  refine ok_of ?_ rfl
  rw [planOf2_eq r2.1 hb (fun x hx => (hb.kl x hx).2), price_eq r2.1 hb, catFault_eq r2.1 hb, chkCat_eq r2.1 hb]
  simp only [Option.bind_some]
  rw [if_neg (by simp), planAt_eq r2.1 _ hb.nl]
  show (some (ixL r2.1 r4.1)).bind _ = _
  simp only [Option.bind_some, when_eq, errs2]
  have same0 : m_gateref2_SamePlan plan0 (S_api_Plan.mk [] [] 0 0 [] 0 0 false) = some true := same_self plan0 (by decide)
  by_cases h1 : catF r2.1 = 0
  · obtain ⟨⟨hp, hl⟩, hg⟩ := catF_good h1
    rw [h1]
    rcases planOf_eq r2.1 r4.1 hb.nl hl with ⟨h3, h5, h7⟩ | ⟨h3, h5, x, h8, h9, _, h7⟩
    · have e1 : at? r2.1.Plans (ixL r2.1 r4.1) = none := by unfold at?; rw [if_neg (by omega)]
      have e2 : decide (ixL r2.1 r4.1 < 0) = true := by simpa using h5
      simp only [e1, e2, ne_eq, not_true_eq_false, if_false, if_true]
      have e3 : or2 0 8 = 8 := rfl
      have e4 : ∀ z, or2 8 z = 8 := fun z => rfl
      simp only [e3, e4, not_true_eq_false, decide_false, Bool.false_eq_true, if_false]
      rw [if_neg (by decide), if_pos (by decide), same0]
      exact cp_tail r2 r6 8 _ (by decide)
    · have e2 : decide (ixL r2.1 r4.1 < 0) = false := by simp; omega
      simp only [h8, e2, ne_eq, not_true_eq_false, if_false, Bool.false_eq_true]
      have e3 : or2 0 0 = 0 := rfl
      have e4 : ∀ z, or2 0 z = z := fun z => rfl
      have e5 : (decide (r6.1 < 0) || decide (1000000000000 < r6.1)) = outP r6.1 0 1000000000000 := rfl
      simp only [e4, e5, not_true_eq_false, decide_false, Bool.false_eq_true, if_false]
      have hx := hg x h9
      have hs := same_self x (by have := hx.len; omega)
      rcases Bool.eq_false_or_eq_true (outP r6.1 0 1000000000000) with h10 | h10
      · rw [h10]
        simp only [if_true, not_true_eq_false, decide_false, Bool.false_eq_true, if_false, decide_true, Option.bind_some, hs, Bool.not_true]
        exact cp_tail r2 r6 1 _ (by decide)
      · rw [h10]
        simp only [if_true, not_true_eq_false, decide_false, Bool.false_eq_true, if_false, decide_true, Option.bind_some, hs, Bool.not_true]
        unfold gatelaw2_CatalogsPrice_J1 gatelaw2_CatalogsPrice_J2 gatelaw2_CatalogsPrice_J3
        rw [if_neg (by decide), if_pos (by decide), h8]
        simp only [Option.bind_some]
        rw [priceR_eq hx (outP_false h10)]
        simp [priced_eq]
  · have e1 : ∀ z, or2 (catF r2.1) z = catF r2.1 := fun z => by unfold or2; rw [if_pos h1]
    rw [if_pos h1, if_pos h1]
    simp only [e1]
    rw [if_neg (by simp), if_neg (by simp), if_neg (by simpa using h1), if_pos (by simpa using h1), same0]
    exact cp_tail r2 r6 _ _ h1
end Go.Proofs.YtdajmjdjhgpaaaaDoor
