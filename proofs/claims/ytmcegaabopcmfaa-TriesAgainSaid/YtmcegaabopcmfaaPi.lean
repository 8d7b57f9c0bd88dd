/- Plain: the law HealthTurns is true for every list of numbers. -/
import Derived.Test.YtmcegaabopcmfaaPh
namespace Go.Proofs.Ytmcegaabopcmfaa
set_option linter.unusedVariables false
set_option maxRecDepth 20000

theorem eqT_self (a : List S_api_Turn) (h : a.length ≤ 1000) : m_slices_Equal_L_api_Turn_api_Turn_ a a = some true := by
  unfold m_slices_Equal_L_api_Turn_api_Turn_
  rw [if_neg (by simp), if_pos (by omega)]
  rw [forL_all (p := fun _ _ => true) (r0 := false) (e := true) rfl a 0 fun j x _ hj => ?_]
  · have : ∀ (l : List S_api_Turn) k, allI (fun (_ : Nat) (_ : S_api_Turn) => true) k l = true := by
      intro l; induction l with
      | nil => intro k; rfl
      | cons x l ih => intro k; simp [allI, ih]
    rw [this]; rfl
  · unfold slices_Equal_L_api_Turn_api_Turn__L1
    have : a[j]? = some x := by simpa using hj
    rw [this]; simp
theorem eqS_self (a : List Bs) (h : a.length ≤ 1000) : m_slices_Equal_L_string_string_ a a = some true := by
  unfold m_slices_Equal_L_string_string_
  rw [if_neg (by simp), if_pos (by omega)]
  rw [forL_all (p := fun _ _ => true) (r0 := false) (e := true) rfl a 0 fun j x _ hj => ?_]
  · have : ∀ (l : List Bs) k, allI (fun (_ : Nat) (_ : Bs) => true) k l = true := by
      intro l; induction l with
      | nil => intro k; rfl
      | cons x l ih => intro k; simp [allI, ih]
    rw [this]; rfl
  · unfold slices_Equal_L_string_string__L1
    have : a[j]? = some x := by simpa using hj
    rw [this]; simp
theorem cut_all (a : Int) : ∀ (ps : List S_api_Probe), (∀ p, p ∈ ps → p.At ≤ a) → cut a ps = ps
  | [], _ => rfl
  | p :: ps, h => by
    have := h p (by simp)
    simp only [cut]
    rw [if_neg (by omega), cut_all a ps fun q hq => h q (List.mem_cons_of_mem _ hq)]
section
variable (xs : List S_api_Instance) (hx : InsB xs) (h : S_api_Health) (ps : List S_api_Probe) (hp : PrbB ps)
def oneE : Int := errsL [ciF xs, heaF h, prF xs ps]
theorem one_zero (h0 : oneE xs h ps = 0) : ciF xs = 0 ∧ heaF h = 0 ∧ prF xs ps = 0 := by
  unfold oneE at h0
  simp only [errsL] at h0
  by_cases h1 : ciF xs = 0
  · by_cases h2 : heaF h = 0
    · refine ⟨h1, h2, ?_⟩
      by_cases h3 : prF xs ps = 0
      · exact h3
      · simp [h1, h2, h3] at h0
    · simp [h1, h2] at h0
  · simp [h1] at h0
include hx hp
theorem turnsP_eq : m_upstream_Turns xs h ps = some (if oneE xs h ps = 0 then ((runT h ps fun _ => s0).filterMap id, 0) else ([], oneE xs h ps)) := by
  unfold m_upstream_Turns
  rw [hfault_eq xs hx h ps hp]
  show (if decide (oneE xs h ps ≠ 0) = true then some ([], oneE xs h ps) else _) = _
  by_cases h0 : oneE xs h ps = 0
  · obtain ⟨h1, h2, h3⟩ := one_zero xs h ps h0
    rw [if_neg (by simp [h0]), if_pos h0]
    obtain ⟨r, e1, e2, _⟩ := turns_ok (heaF_ok h2) xs hx.len (ciF_srt h1) ps hp.len (fun p q => ((prF_ok h3).2 p q).1) 345686400000
    rw [e1]
    simp only [Option.bind_some]
    rw [e2, cut_all _ ps fun p q => by have := ((prF_ok h3).2 p q).2; unfold momP at this; simp at this; omega]
  · rw [if_pos (by simpa using h0), if_neg h0]
theorem upP_eq (a : Int) : m_upstream_Up xs h ps a = some (if oneE xs h ps = 0 then (if momP a = true then (keysOf xs fun q => !(runS h (cut a ps) (fun _ => s0) q).1, 0) else ([], 1)) else ([], oneE xs h ps)) := by
  unfold m_upstream_Up
  rw [hfault_eq xs hx h ps hp]
  show (if decide (oneE xs h ps ≠ 0) = true then some ([], oneE xs h ps) else _) = _
  by_cases h0 : oneE xs h ps = 0
  · obtain ⟨h1, h2, h3⟩ := one_zero xs h ps h0
    rw [if_neg (by simp [h0]), if_pos h0, isMoment_eq]
    simp only [Option.bind_some]
    cases hm : momP a
    · simp
    · rw [if_neg (by simp)]
      obtain ⟨r, e1, e2, e3⟩ := turns_ok (heaF_ok h2) xs hx.len (ciF_srt h1) ps hp.len (fun p q => ((prF_ok h3).2 p q).1) a
      rw [e1]
      simp only [Option.bind_some]
      have := hx.len
      rw [if_pos (by omega)]
      exact up_ok xs hx r.2 _ e3 r.1
  · rw [if_pos (by simpa using h0), if_neg h0]
end
theorem j4_ok (a : List S_api_Turn) (b : List Bs) (v36 r39 : Int) (ha : a.length ≤ 1000) (hb : b.length ≤ 1000) : gatelaw2_HealthTurns_J4 (a, v36) (b, r39) v36 r39 a b = some true := by
  unfold gatelaw2_HealthTurns_J4 gatelaw2_HealthTurns_J5
  simp only [decide_true, if_true, eqT_self a ha, eqS_self b hb, Option.bind_some, balanced_eq]
theorem healthTurns_plain (L : List Int) : m_gatelaw2_HealthTurns L = some true := by
  refine ok_eq ?_
  unfold m_gatelaw2_HealthTurns
  refine ok_bind (ins_ok (k := 0) ⟨by simp, by simp⟩ (by omega)) fun r2 h2 => ok_bind (health_ok h2.2 (by omega)) fun r4 h4 => ok_bind (pick_ok h4 (by omega) _ ⟨by simp, by simp⟩) fun r6 h6 => ok_bind (probes_ok h6.2 (by omega) r2.1 h2.1) fun r8 h8 => ?_
  obtain ⟨hx, _⟩ := h2
  refine ok_of ?_ rfl
  have hJ2 : gatelaw2_HealthTurns_J2 r2 r4 r6 r8 (if oneE r2.1 r4.1 r8.1 = 0 then ((runT r4.1 r8.1 fun _ => s0).filterMap id, 0) else ([], oneE r2.1 r4.1 r8.1))
      (if oneE r2.1 r4.1 r8.1 = 0 then (if momP r6.1 = true then (keysOf r2.1 fun q => !(runS r4.1 (cut r6.1 r8.1) (fun _ => s0) q).1, 0) else ([], 1)) else ([], oneE r2.1 r4.1 r8.1)) (oneE r2.1 r4.1 r8.1) = some true := by
    unfold gatelaw2_HealthTurns_J2
    rw [momentFault_eq]
    simp only [Option.bind_some]
    rw [errs_eq _ (by simp)]
    simp only [Option.bind_some]
    by_cases h0 : oneE r2.1 r4.1 r8.1 = 0
    · obtain ⟨q1, q2, q3⟩ := one_zero _ _ _ h0
      have hk := fun p q => ((prF_ok q3).2 p q).1
      rw [h0, turnsOf_ok (heaF_ok q2) r2.1 hx.len r8.1 h8.len hk]
      simp only [decide_true, if_true, Option.bind_some]
      unfold gatelaw2_HealthTurns_J3
      have hT : ((runT r4.1 r8.1 fun _ => s0).filterMap id).length ≤ 1000 := Nat.le_trans (List.length_filterMap_le _ _) (by rw [runT_len]; exact h8.len)
      cases hm : momP r6.1
      · have e1 : errsL [0, if false = true then 0 else 1] = 1 := by decide
        rw [e1, if_neg (by decide), if_neg (by decide)]
        exact j4_ok _ [] 0 1 hT (by simp)
      · have e1 : errsL [0, if true = true then 0 else 1] = 0 := by decide
        rw [e1, if_pos (by decide), if_pos rfl, upOf_ok (heaF_ok q2) r2.1 hx r8.1 h8 (prF_ok q3).1 hk r6.1]
        simp only [Option.bind_some]
        refine j4_ok _ _ 0 0 hT ?_
        unfold keysOf
        rw [List.length_map]
        exact Nat.le_trans (List.length_filter_le _ _) hx.len
    · rw [if_neg (by simpa using h0), if_neg h0, if_neg h0]
      unfold gatelaw2_HealthTurns_J3
      have e1 : errsL [oneE r2.1 r4.1 r8.1, if momP r6.1 = true then 0 else 1] = oneE r2.1 r4.1 r8.1 := by simp [errsL, h0]
      rw [e1, if_neg (by simpa using h0)]
      exact j4_ok [] [] _ _ (by simp) (by simp)
  rw [turnsP_eq r2.1 hx r4.1 r8.1 h8, upP_eq r2.1 hx r4.1 r8.1 h8 r6.1, ifault_eq r2.1 hx, chkI_eq r2.1 hx]
  simp only [Option.bind_some]
  rw [if_neg (by simp), chkP_eq r2.1 hx r8.1 h8, pfault_eq r2.1 hx r8.1 h8]
  simp only [Option.bind_some]
  rw [errs_eq _ (by simp)]
  simp only [Option.bind_some]
  unfold gatelaw2_HealthTurns_J1
  rw [if_neg (by simp), healthFaultR_eq]
  simp only [Option.bind_some]
  rw [errs_eq _ (by simp), pfault_eq r2.1 hx r8.1 h8]
  simp only [Option.bind_some]
  by_cases hz : errsL [ciF r2.1, heaF r4.1] = 0
  · rw [if_pos (by simpa using hz)]
    have e1 : prF r2.1 r8.1 = oneE r2.1 r4.1 r8.1 := by
      unfold oneE
      simp only [errsL] at hz ⊢
      by_cases h1 : ciF r2.1 = 0
      · by_cases h3 : heaF r4.1 = 0
        · by_cases h5 : prF r2.1 r8.1 = 0 <;> simp [h1, h3, h5]
        · simp [h1, h3] at hz
      · simp [h1] at hz
    rw [e1]; exact hJ2
  · rw [if_neg (by simpa using hz)]
    have e1 : errsL [ciF r2.1, heaF r4.1] = oneE r2.1 r4.1 r8.1 := by
      unfold oneE
      simp only [errsL] at hz ⊢
      by_cases h1 : ciF r2.1 = 0
      · by_cases h3 : heaF r4.1 = 0
        · simp [h1, h3] at hz
        · simp [h1, h3]
      · simp [h1]
    rw [e1]; exact hJ2
end Go.Proofs.Ytmcegaabopcmfaa
