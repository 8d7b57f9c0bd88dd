/- Plain: the law PlansCompared is true for every list of numbers. -/
import Derived.Test.YtdajmjdjhgpaaaaDoorCrYr
import Derived.Test.YtdajmjdjhgpaaaaDoorSrYr
namespace Go.Proofs.YtdajmjdjhgpaaaaDoor
set_option linter.unusedVariables false
set_option maxRecDepth 20000
theorem whenB_eq (b : Bool) (e : Int) : m_gatelaw2_when b e = some (if b = true then e else 0) := by
  unfold m_gatelaw2_when
  cases b <;> rfl
theorem errs3 (a b c : Int) : m_gatelaw2_errs [a, b, c] = some (or2 a (or2 b c)) := by
  unfold m_gatelaw2_errs or2
  rw [if_pos (by simp)]
  simp only [forL, gatelaw2_errs_L1, gatelaw2_errs_E1]
  by_cases h1 : a = 0 <;> by_cases h2 : b = 0 <;> by_cases h3 : c = 0 <;> simp [h1, h2, h3, after]
theorem rng_two {ρ ρ' : Type} {body : Nat → Unit → Option (Unit ⊕ ρ)} {body' : Nat → Unit → Option (Unit ⊕ ρ')} {fin : Unit → Option ρ} {fin' : Unit → Option ρ'} (Q : ρ → ρ' → Prop) : ∀ (n k : Nat),
    (∀ j, k ≤ j → j < k + n → (body j () = some (.inl ()) ∧ body' j () = some (.inl ())) ∨ ∃ r r', body j () = some (.inr r) ∧ body' j () = some (.inr r') ∧ Q r r') →
    (∃ r r', fin () = some r ∧ fin' () = some r' ∧ Q r r') → ∃ r r', rng body fin n k () = some r ∧ rng body' fin' n k () = some r' ∧ Q r r'
  | 0, k, hs, hf => hf
  | n + 1, k, hs, hf => by
    show ∃ r r', (body k ()).bind _ = some r ∧ (body' k ()).bind _ = some r' ∧ Q r r'
    rcases hs k (Nat.le_refl _) (by omega) with ⟨q1, q2⟩ | ⟨r, r', q1, q2, q3⟩
    · rw [q1, q2]
      exact rng_two Q n (k + 1) (fun j h1 h2 => hs j (by omega) (by omega)) hf
    · rw [q1, q2]; exact ⟨r, r', rfl, rfl, q3⟩
theorem key_ne {s : Bs} (h : keyP s = true) : s ≠ [] := by
  intro h2
  subst h2
  revert h
  decide
def wn (b : Bool) (e : Int) : Int := if b = true then 0 else e
theorem cheap_law (c : S_api_Catalog) (hb : CB c) (product : Bs) (calls : Int) :
    (or2 (catF c) (or2 (wn (hasP c product) 8) (wn (!outP calls 0 1000000000000) 1)) ≠ 0 ∧ m_portal_Cheapest c product calls = some ([], 0, or2 (catF c) (or2 (wn (hasP c product) 8) (wn (!outP calls 0 1000000000000) 1)))) ∨
    (or2 (catF c) (or2 (wn (hasP c product) 8) (wn (!outP calls 0 1000000000000) 1)) = 0 ∧ ∃ k n f, m_gateref2_CheapestOf c product calls = some (k, n, f) ∧ m_portal_Cheapest c product calls = some (k, n, wn f 8)) := by
  unfold m_portal_Cheapest
  rw [chkCat_eq c hb]
  simp only [Option.bind_some]
  by_cases h1 : catF c = 0
  · obtain ⟨⟨hp, hl⟩, hg⟩ := catF_good h1
    rw [if_neg (by simpa using h1), h1]
    obtain ⟨r, q1, q2⟩ := productAt_ok c product hb.np hp
    rw [q1]
    simp only [Option.bind_some, q2, out_eq]
    rcases Bool.eq_false_or_eq_true (hasP c product) with h2 | h2
    · rcases Bool.eq_false_or_eq_true (outP calls 0 1000000000000) with h3 | h3
      · left
        rw [h2, h3]
        exact ⟨by decide, rfl⟩
      · right
        rw [h2, h3]
        refine ⟨rfl, ?_⟩
        have hc := outP_false h3
        have hn := hb.nl
        unfold m_gateref2_CheapestOf
        simp only [Bool.not_true, Bool.false_eq_true, if_false]
        have hlen : c.Plans.length ≤ 1000000000 := by omega
        simp only [hlen, if_true]
        refine Exists.elim (forL_rel (body := fun (k : Nat) (x : S_api_Plan) (s : Bs × Int) => portal_Cheapest_L1 product calls k x s.1 s.2) (body' := fun (k : Nat) (x : S_api_Plan) (s : Bs × Int × Bool) => gateref2_CheapestOf_L1 product calls k x s.1 s.2.1 s.2.2) (fin := fun (s : Bs × Int) => portal_Cheapest_E1 s.1 s.2) (fin' := fun (s : Bs × Int × Bool) => gateref2_CheapestOf_E1 s.1 s.2.1 s.2.2)
          (fun _ s s' => s' = (s.1, s.2, decide (s.1 ≠ [])) ∧ (s.1 = [] → s.2 = 0)) (fun r r' => r = (r'.1, r'.2.1, wn r'.2.2 8)) c.Plans 0 ([], 0) ([], 0, false) ⟨rfl, fun _ => rfl⟩ ?_ ?_) fun r h => Exists.elim h fun r' h => ?_
        · rintro j x ⟨k, n⟩ s' _ hx ⟨rfl, hz⟩
          simp only at hz
          left
          have hx := hg x (List.mem_of_getElem? hx)
          have hk := key_ne hx.key
          have hpr := priceF_b hx hc
          have hbs := hx.base
          have ew : wr (x.Base + priceF x calls) = x.Base + priceF x calls := wr_id (by omega)
          unfold portal_Cheapest_L1 gateref2_CheapestOf_L1 portal_Cheapest_J2 gateref2_CheapestOf_J2
          simp only [priceP_eq hx hc, priceR_eq hx hc, Option.bind_some, ew]
          by_cases c1 : x.Product = product
          · by_cases c2 : 0 ≤ x.Limit ∧ x.Limit < calls
            · have d1 : ¬ x.Limit < 0 := by omega
              have d2 : ¬ calls ≤ x.Limit := by omega
              refine ⟨(k, n), (k, n, decide (k ≠ [])), by simp [c1, c2.1, c2.2], by simp [c1, d1, d2], rfl, hz⟩
            · have d1 : (decide (0 ≤ x.Limit) && decide (x.Limit < calls)) = false := by simp; omega
              have d2 : (decide (x.Limit < 0) || decide (calls ≤ x.Limit)) = true := by simp; omega
              by_cases c3 : k = [] ∨ x.Base + priceF x calls < n
              · refine ⟨(x.Key, x.Base + priceF x calls), (x.Key, x.Base + priceF x calls, true), ?_, ?_, by simp [hk], fun h => absurd h hk⟩
                · rw [d1, if_neg (by simp [c1]), if_pos (by simpa using c3)]
                · rw [d2, if_pos (by simp [c1]; rcases c3 with c3 | c3 <;> simp [c3])]
              · refine ⟨(k, n), (k, n, decide (k ≠ [])), ?_, ?_, rfl, hz⟩
                · rw [d1, if_neg (by simp [c1]), if_neg (by simpa using c3)]
                · rw [d2, if_neg (by simp [c1]; simp at c3; exact c3)]
          · refine ⟨(k, n), (k, n, decide (k ≠ [])), by simp [c1], by simp [c1], rfl, hz⟩
        · rintro ⟨k, n⟩ s' ⟨rfl, hz⟩
          simp only at hz
          unfold portal_Cheapest_E1 gateref2_CheapestOf_E1
          by_cases c1 : k = []
          · refine ⟨([], 0, 8), _, by simp [c1], rfl, ?_⟩
            rw [hz c1, c1]; rfl
          · refine ⟨(k, n, 0), _, by simp [c1], rfl, ?_⟩
            simp [c1, wn]
        · obtain ⟨e1, e2, e3⟩ := h
          obtain ⟨k, n, f⟩ := r'
          exact ⟨k, n, f, e2, by rw [e1, e3]⟩
    · left
      rw [h2]
      exact ⟨by simp [or2, wn], by simp [or2, wn]⟩
  · left
    have e1 : ∀ z, or2 (catF c) z = catF c := fun z => by unfold or2; rw [if_pos h1]
    rw [if_pos (by simpa using h1), e1]
    exact ⟨h1, rfl⟩
theorem level_law (c : S_api_Catalog) (hb : CB c) (a b : Bs) (most : Int) :
    (or2 (catF c) (or2 (wn (hasL c a && hasL c b) 8) (wn (!outP most 0 100000) 1)) ≠ 0 ∧ m_portal_Level c a b most = some (0, or2 (catF c) (or2 (wn (hasL c a && hasL c b) 8) (wn (!outP most 0 100000) 1)))) ∨
    (or2 (catF c) (or2 (wn (hasL c a && hasL c b) 8) (wn (!outP most 0 100000) 1)) = 0 ∧ ∃ x y n f, at? c.Plans (ixL c a) = some x ∧ at? c.Plans (ixL c b) = some y ∧ m_gateref2_LevelOf x y most = some (n, f) ∧ m_portal_Level c a b most = some (n, wn f 8)) := by
  unfold m_portal_Level
  rw [chkCat_eq c hb]
  simp only [Option.bind_some]
  by_cases h1 : catF c = 0
  · obtain ⟨⟨hp, hl⟩, hg⟩ := catF_good h1
    rw [if_neg (by simpa using h1), h1]
    rcases planOf_eq c a hb.nl hl with ⟨h2, h3, h4⟩ | ⟨h2, h3, x, h5, h6, _, h4⟩
    · left
      rw [h4, h2]
      rcases planOf_eq c b hb.nl hl with ⟨k2, k3, k4⟩ | ⟨k2, k3, y, k5, k6, _, k4⟩
      · rw [k4, k2]; exact ⟨by simp [or2, wn], by simp [or2, wn]⟩
      · rw [k4, k2]; exact ⟨by simp [or2, wn], by simp [or2, wn]⟩
    · rcases planOf_eq c b hb.nl hl with ⟨k2, k3, k4⟩ | ⟨k2, k3, y, k5, k6, _, k4⟩
      · left
        rw [h4, h2, k4, k2]; exact ⟨by simp [or2, wn], by simp [or2, wn]⟩
      · rw [h4, h2, k4, k2]
        simp only [Option.bind_some, out_eq, Bool.not_true, Bool.or_false, Bool.false_eq_true, if_false, Bool.and_true]
        rcases Bool.eq_false_or_eq_true (outP most 0 100000) with m1 | m1
        · left
          rw [m1]
          exact ⟨by decide, rfl⟩
        · right
          rw [m1]
          refine ⟨rfl, x, y, ?_⟩
          have hm := outP_false m1
          have ew : wr (most + 1) = most + 1 := wr_id (by omega)
          unfold m_gateref2_LevelOf
          have hlen : most + 1 ≤ 1000000000 := by omega
          simp only [Bool.false_eq_true, if_false, ew, hlen, if_true]
          refine Exists.elim (rng_two (body := fun (k : Nat) (s : Unit) => portal_Level_L1 (x, true) (y, true) k) (body' := fun (k : Nat) (s : Unit) => gateref2_LevelOf_L1 x y k) (fin := fun (s : Unit) => portal_Level_E1) (fin' := fun (s : Unit) => gateref2_LevelOf_E1) (fun r r' => r = (r'.1, wn r'.2 8)) (most + 1).toNat 0 ?_ ⟨_, _, rfl, rfl, rfl⟩) fun r h => Exists.elim h fun r' h => ?_
          · intro j _ hj
            have hj' : (0 : Int) ≤ (j : Int) ∧ (j : Int) ≤ 1000000000000 := by omega
            unfold portal_Level_L1 gateref2_LevelOf_L1
            simp only [priceP_eq (hg x h6) hj', priceP_eq (hg y k6) hj', priceR_eq (hg x h6) hj', priceR_eq (hg y k6) hj', Option.bind_some]
            by_cases c1 : wr (x.Base + priceF x (j : Int)) ≤ wr (y.Base + priceF y (j : Int))
            · right
              exact ⟨((j : Int), 0), ((j : Int), true), by rw [if_pos (by simpa using c1)], by rw [if_pos (by simpa using c1)], rfl⟩
            · left
              exact ⟨by rw [if_neg (by simpa using c1)], by rw [if_neg (by simpa using c1)]⟩
          · obtain ⟨e1, e2, e3⟩ := h
            obtain ⟨n, f⟩ := r'
            exact ⟨n, f, h5, k5, e2, by rw [e1, e3]⟩
  · left
    have e1 : ∀ z, or2 (catF c) z = catF c := fun z => by unfold or2; rw [if_pos h1]
    rw [if_pos (by simpa using h1), e1]
    exact ⟨h1, rfl⟩
theorem pc_J3 (k : Bs) (n e m f : Int) : gatelaw2_PlansCompared_J3 (k, n, e) (m, f) e k n f m = some true := by
  unfold gatelaw2_PlansCompared_J3 gatelaw2_PlansCompared_J4
  simp [priced_eq]
theorem wn_not (f : Bool) : (if (!f) = true then (8 : Int) else 0) = wn f 8 := by cases f <;> rfl
theorem plansCompared_plain (L : List Int) : m_gatelaw2_PlansCompared L = some true := by
  refine ok_eq ?_
  unfold m_gatelaw2_PlansCompared m_gatemake_Stream_ProductKey
  refine ok_bind (cat_ok (k := 0) ⟨by simp, by simp⟩ (by omega)) fun r2 h2 => ok_bind (Q := fun r => SB 201 r.2) (ok_bind (some_ok h2.2 (by omega) _ ⟨by simp, by simp⟩) fun r h => ok_some (show SB 201 r.2 from h.2.mono (by omega))) fun r4 h4 => ok_bind (pick_ok h4 (by omega) _ ⟨by simp, by simp⟩) fun r6 h6 => ok_bind (some_ok h6.2 (by omega) _ ⟨by simp, by simp⟩) fun r8 h8 => ok_bind (some_ok h8.2 (by omega) _ ⟨by simp, by simp⟩) fun r10 h10 => ok_bind (pick_ok h10.2 (by omega) _ ⟨by simp, by simp⟩) fun r12 h12 => ?_
  have hb := h2.1.cb
  refine ok_of ?_ rfl
  have hneg : ∀ key, decide (ixL r2.1 key < 0) = !hasL r2.1 key := fun key => fdx_neg (fun x : S_api_Plan => decide (x.Key = key)) r2.1.Plans
  have hix : ∀ key, m_gateref2_PlanAt r2.1 key = some (ixL r2.1 key) := fun key => planAt_eq r2.1 key hb.nl
  rw [catFault_eq r2.1 hb, prodAt_eq r2.1 _ hb.np]
  have e26 : or2 (catF r2.1) (or2 (if decide (fdx (fun x : S_api_Product => decide (x.Key = r4.1)) 0 r2.1.Products < 0) = true then 8 else 0) (if (decide (r6.1 < 0) || decide (1000000000000 < r6.1)) = true then 1 else 0)) = or2 (catF r2.1) (or2 (wn (hasP r2.1 r4.1) 8) (wn (!outP r6.1 0 1000000000000) 1)) := by
    rw [fdx_neg]
    show or2 _ (or2 (if (!hasP r2.1 r4.1) = true then 8 else 0) (if outP r6.1 0 1000000000000 = true then 1 else 0)) = _
    cases hasP r2.1 r4.1 <;> cases outP r6.1 0 1000000000000 <;> rfl
  have hmain : ∀ r14 r16 v61, m_portal_Cheapest r2.1 r4.1 r6.1 = some r14 → m_portal_Level r2.1 r8.1 r10.1 r12.1 = some r16 → v61 = or2 (catF r2.1) (or2 (wn (hasL r2.1 r8.1 && hasL r2.1 r10.1) 8) (wn (!outP r12.1 0 100000) 1)) → gatelaw2_PlansCompared_J1 r2 r4 r6 r8 r10 r12 r14 r16 (or2 (catF r2.1) (or2 (wn (hasP r2.1 r4.1) 8) (wn (!outP r6.1 0 1000000000000) 1))) v61 = some true := by
    intro r14 r16 v61 e14 e16 ev
    have h2' : ∀ v67 v68 v69, r14 = (v68, v69, v67) → gatelaw2_PlansCompared_J2 r2 r8 r10 r12 r14 r16 v61 v67 v68 v69 = some true := by
      intro v67 v68 v69 h
      subst h
      unfold gatelaw2_PlansCompared_J2
      rcases level_law r2.1 hb r8.1 r10.1 r12.1 with ⟨l1, l2⟩ | ⟨l1, x, y, n, f, l2, l3, l4, l5⟩
      · rw [← ev] at l1 l2
        rw [e16] at l2
        cases l2
        rw [if_neg (by simpa using l1)]
        exact pc_J3 _ _ _ _ _
      · rw [← ev] at l1
        rw [e16] at l5
        cases l5
        rw [if_pos (by simpa using l1), hix]
        simp only [Option.bind_some, l2, hix, l3, l4, whenB_eq, wn_not]
        exact pc_J3 _ _ _ _ _
    unfold gatelaw2_PlansCompared_J1
    rcases cheap_law r2.1 hb r4.1 r6.1 with ⟨l1, l2⟩ | ⟨l1, k, n, f, l2, l3⟩
    · rw [e14] at l2
      cases l2
      rw [if_neg (by simpa using l1)]
      exact h2' _ _ _ rfl
    · rw [e14] at l3
      cases l3
      rw [if_pos (by simpa using l1), l2]
      simp only [Option.bind_some, whenB_eq, wn_not]
      exact h2' _ _ _ rfl
  obtain ⟨r14, e14⟩ : ∃ r, m_portal_Cheapest r2.1 r4.1 r6.1 = some r := by
    rcases cheap_law r2.1 hb r4.1 r6.1 with ⟨_, l2⟩ | ⟨_, k, n, f, _, l3⟩
    · exact ⟨_, l2⟩
    · exact ⟨_, l3⟩
  obtain ⟨r16, e16⟩ : ∃ r, m_portal_Level r2.1 r8.1 r10.1 r12.1 = some r := by
    rcases level_law r2.1 hb r8.1 r10.1 r12.1 with ⟨_, l2⟩ | ⟨_, x, y, n, f, _, _, _, l3⟩
    · exact ⟨_, l2⟩
    · exact ⟨_, l3⟩
  rw [e14, e16]
  simp only [Option.bind_some, whenB_eq, errs3, hix, e26, if_true, hneg]
  rcases Bool.eq_false_or_eq_true (hasL r2.1 r8.1) with a1 | a1 <;> rcases Bool.eq_false_or_eq_true (hasL r2.1 r10.1) with a2 | a2 <;> by_cases a3 : r12.1 < 0 <;> by_cases a4 : 100000 < r12.1 <;> simp only [a1, a2, a3, a4, Bool.not_true, Bool.not_false, decide_true, decide_false, Bool.false_eq_true, if_true, if_false] <;> exact hmain _ _ _ e14 e16 (by simp [a1, a2, outP, a3, a4, wn])
end Go.Proofs.YtdajmjdjhgpaaaaDoor
