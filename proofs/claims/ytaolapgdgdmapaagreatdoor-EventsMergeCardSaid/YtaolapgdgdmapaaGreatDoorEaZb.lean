/- Plain: applications and events of a catalog: their faults: the program and the reference agree. -/
import Derived.Test.YtaolapgdgdmapaaGreatDoorEvZb
namespace Go.Proofs.YtaolapgdgdmapaaGreatDoor
set_option linter.unusedVariables false
set_option linter.unusedSimpArgs false
set_option linter.unusedSectionVars false
set_option maxRecDepth 20000
def gA (a : S_api_App) (late : Bool) : Int := if (keyP a.Key && keyP a.Owner) = false then 5 else if late = true then 7 else 0
def apF (l : List S_api_App) : Int := if 500 < l.length then 2 else chR S_api_App.Key gA l []
def AB (l : List S_api_App) : Prop := l.length ≤ 1000 ∧ ∀ x, x ∈ l → x.Key.length ≤ 100 ∧ x.Owner.length ≤ 100
theorem gA_true (x : S_api_App) : gA x true ≠ 0 := by unfold gA; split <;> simp
theorem gA_first (x : S_api_App) : leB x.Key [] = false ∨ ∀ a b, gA x a = gA x b := by
  cases hk : keyP x.Key
  · exact .inr fun a b => by simp [gA, hk]
  · exact .inl (leB_nil hk)
theorem apF_rise {l : List S_api_App} (h : apF l = 0) : RiseK S_api_App.Key l := by
  unfold apF at h
  split at h
  · omega
  · exact (chR_rise gA_true l [] h).1.1
theorem chkApps_eq (l : List S_api_App) (hb : AB l) : m_portal_CheckApps l = some (apF l) := by
  have hn := hb.1
  unfold m_portal_CheckApps apF
  by_cases h1 : 500 < l.length
  · rw [if_pos (by simp; omega), if_pos h1]
  · rw [if_neg (by simp; omega), if_neg h1, if_pos (by omega)]
    rw [chR_idx (key := S_api_App.Key) (g := gA) gA_first l (r := some 0) rfl l 0 [] (.inl ⟨rfl, rfl⟩) (fun j => by simp) fun j x hx => ?_]
    · split
      · rfl
      · next h => have : chR S_api_App.Key gA l [] = 0 := by simpa using h
                  rw [this]
    · obtain ⟨k1, k2⟩ := hb.2 x (List.mem_of_getElem? hx)
      have hJ : ∀ v, portal_CheckApps_J2 l j x v = if v = true then some (.inr 5) else if lateK S_api_App.Key l j x = true then some (.inr 7) else some (.inl ()) := by
        intro v
        unfold portal_CheckApps_J2 portal_CheckApps_J3
        cases v
        · simp only [Bool.false_eq_true, if_false]
          by_cases h0 : 0 < j
          · obtain ⟨y, hy⟩ : ∃ y, l[j - 1]? = some y := ⟨_, List.getElem?_eq_getElem (by have := lt_some hx; omega)⟩
            have e1 : at? l ((j : Int) - 1) = some y := by rw [at_pred h0]; exact hy
            have e2 : decide (0 < (j : Int)) = true := by simpa using h0
            have e3 : lateK S_api_App.Key l j x = leB x.Key y.Key := by simp [lateK, h0, hy]
            simp only [e2, if_true, e1, Option.bind_some, e3]
            rfl
          · have e2 : decide (0 < (j : Int)) = false := by simpa using h0
            have e3 : lateK S_api_App.Key l j x = false := by simp [lateK, h0]
            rw [e2, e3]; rfl
        · simp
      unfold portal_CheckApps_L1
      simp only [isKey_eq _ (show x.Key.length ≤ 1000000000 by omega), isKey_eq _ (show x.Owner.length ≤ 1000000000 by omega), Option.bind_some, hJ]
      unfold gA
      cases keyP x.Key <;> cases keyP x.Owner <;> cases lateK S_api_App.Key l j x <;> simp
theorem appsFault_eq (l : List S_api_App) (hb : AB l) : m_gateref2_AppsFault l = some (apF l) := by
  have hn := hb.1
  unfold m_gateref2_AppsFault apF
  by_cases h1 : 500 < l.length
  · rw [if_pos (by simp; omega), if_pos h1]
  · rw [if_neg (by simp; omega), if_neg h1, if_pos (by omega)]
    rw [chR_ref (key := S_api_App.Key) (g := gA) (fin := fun s => gateref2_AppsFault_E1 s) (r := some 0) (fun s => rfl) l 0 [] fun j x s hx => ?_]
    · split
      · rfl
      · next h => have : chR S_api_App.Key gA l [] = 0 := by simpa using h
                  rw [this]
    · obtain ⟨k1, k2⟩ := hb.2 x hx
      unfold gateref2_AppsFault_L1 gateref2_AppsFault_J2
      simp only [key_eq _ (show x.Key.length ≤ 1000000000 by omega), key_eq _ (show x.Owner.length ≤ 1000000000 by omega), Option.bind_some]
      have e : (Op.bytesLess x.Key s || x.Key == s) = leB x.Key s := rfl
      rw [e]
      unfold gA
      cases keyP x.Key <;> cases keyP x.Owner <;> cases leB x.Key s <;> simp
def hasA (l : List S_api_App) (key : Bs) : Bool := l.any fun x => decide (x.Key = key)
theorem appAt_ok (l : List S_api_App) (key : Bs) (hl : l.length ≤ 100000) (hr : RiseK S_api_App.Key l) : Ok (m_portal_appAt l key) fun r => r.2 = hasA l key ∧ (r.2 = true → r.1 = fdx (fun x : S_api_App => decide (x.Key = key)) 0 l) := by
  unfold m_portal_appAt
  have h := gBin_ok S_api_App.Key l key (p := fun (a0 : S_api_App) (a1 : Bs) => m_portal_appAt_1 a0 a1) (by omega) (fun x _ => rfl) hr
  exact ok_bind (o := m_slices_BinarySearchFunc_L_api_App_api_App_string_ l key (fun (a0 : S_api_App) (a1 : Bs) => m_portal_appAt_1 a0 a1)) h fun r hr => ok_some hr
theorem refAppAt_eq (l : List S_api_App) (key : Bs) (hl : l.length ≤ 100000) : m_gateref2_AppAt l key = some (fdx (fun x : S_api_App => decide (x.Key = key)) 0 l) := by
  unfold m_gateref2_AppAt
  have h : m_slices_IndexFunc_L_api_App_api_App_ l (fun (a0 : S_api_App) => m_gateref2_AppAt_1 a0 key) = some (fdx (fun x : S_api_App => decide (x.Key = key)) 0 l) :=
    gIdx_eq l (p := fun (a0 : S_api_App) => m_gateref2_AppAt_1 a0 key) (fun x => decide (x.Key = key)) (by omega) fun x _ => rfl
  rw [h]; rfl
def plP (c : S_api_Catalog) (x : S_api_Event) : Bool := match at? c.Plans (ixL c x.Plan) with | some p => decide (p.Product ≠ x.Product) | none => false
def ef1 (c : S_api_Catalog) (apps : List S_api_App) (l : List S_api_Event) (k : Nat) (x : S_api_Event) : Int :=
  if momP x.At = false then 1 else if (hasA apps x.App && hasP c x.Product) = false then 8 else if outP x.Kind 1 6 = true then 4 else if (decide (x.Kind ≠ 1) && decide (x.Plan ≠ [])) = true then 3 else
  if (decide (x.Kind = 1) && !hasL c x.Plan) = true then 8 else if (decide (x.Kind = 1) && plP c x) = true then 16 else if lateE l k x = true then 7 else 0
def eF (c : S_api_Catalog) (apps : List S_api_App) (l : List S_api_Event) : Int :=
  if catF c ≠ 0 then catF c else if apF apps ≠ 0 then apF apps else if 1000 < l.length then 2 else feI (ef1 c apps l) 0 l
section
variable {c : S_api_Catalog} {apps : List S_api_App} {l : List S_api_Event} (hb : CB c) (ha : AB apps) (hl : ∀ x, x ∈ l → EB x)
include hb ha hl
theorem efP_eq (h1 : catF c = 0) (h2 : apF apps = 0) (k : Nat) (x : S_api_Event) (hx : l[k]? = some x) (hk : l.length ≤ 1000000) : m_portal_eventFault c apps l (k : Int) = some (ef1 c apps l k x) := by
  obtain ⟨⟨hp, hpl⟩, _⟩ := catF_good h1
  have hlt := lt_some hx
  have hJ : portal_eventFault_J1 l (k : Int) x = some (if lateE l k x = true then 7 else 0) := by
    unfold portal_eventFault_J1 portal_eventFault_J2
    by_cases h0 : 0 < k
    · obtain ⟨y, hy⟩ : ∃ y, l[k - 1]? = some y := ⟨_, List.getElem?_eq_getElem (by omega)⟩
      have e1 : at? l (wr ((k : Int) - 1)) = some y := by rw [wr_id (by omega), at_pred h0]; exact hy
      have e2 : decide (0 < (k : Int)) = true := by simpa using h0
      have e3 : lateE l k x = decide (0 ≤ orE y x) := by simp [lateE, h0, hy]
      simp only [e2, if_true, e1, Option.bind_some, e3, cmpEv_eq]
      by_cases h5 : 0 ≤ orE y x <;> simp [h5]
    · have e2 : decide (0 < (k : Int)) = false := by simpa using h0
      have e3 : lateE l k x = false := by simp [lateE, h0]
      rw [e2, e3]; rfl
  obtain ⟨ra, a1, a2, _⟩ := appAt_ok apps x.App (by have := ha.1; omega) (apF_rise h2)
  obtain ⟨rp, p1, p2⟩ := productAt_ok c x.Product hb.np hp
  unfold m_portal_eventFault
  rw [at_nat, hx]
  simp only [Option.bind_some, isMoment_eq, a1, a2, p1, p2, out_eq, hJ]
  unfold ef1
  rcases Bool.eq_false_or_eq_true (momP x.At) with b1 | b1 <;> rcases Bool.eq_false_or_eq_true (hasA apps x.App) with b2 | b2 <;> rcases Bool.eq_false_or_eq_true (hasP c x.Product) with b3 | b3 <;> simp only [b1, b2, b3, Bool.not_true, Bool.not_false, Bool.false_eq_true, if_true, if_false, Bool.and_true, Bool.and_false, reduceCtorEq] <;> (try rfl)
  rcases Bool.eq_false_or_eq_true (outP x.Kind 1 6) with b4 | b4
  · simp [b4]
  · simp only [b4, Bool.false_eq_true, if_false]
    by_cases b5 : x.Kind = 1
    · rcases planOf_eq c x.Plan hb.nl hpl with ⟨q1, q2, q3⟩ | ⟨q1, q2, y, q3, q4, q5, q6⟩
      · simp [b5, q1, q3]
      · have q7 : plP c x = decide (y.Product ≠ x.Product) := by unfold plP; rw [q3]
        simp only [b5, q1, q6, q7, ne_eq, not_true_eq_false, decide_false, decide_true, Bool.and_false, Bool.false_and, Bool.true_and, Bool.not_true, Bool.false_eq_true, if_false, if_true, Option.bind_some]
        by_cases q8 : y.Product = x.Product <;> simp [q8]
    · by_cases b6 : x.Plan = [] <;> simp [b5, b6]
theorem efR_eq (h1 : catF c = 0) (h2 : apF apps = 0) (k : Nat) (x : S_api_Event) (hx : l[k]? = some x) : gateref2_EventsFault_L1 c apps l k x = if ef1 c apps l k x ≠ 0 then some (.inr (ef1 c apps l k x)) else some (.inl ()) := by
  obtain ⟨⟨hp, hpl⟩, _⟩ := catF_good h1
  have hJ : ∀ v, gateref2_EventsFault_J3 l k x v = if v = true then some (.inr 16) else if lateE l k x = true then some (.inr 7) else some (.inl ()) := by
    intro v
    unfold gateref2_EventsFault_J3 gateref2_EventsFault_J4
    cases v
    · simp only [Bool.false_eq_true, if_false]
      by_cases h0 : 0 < k
      · obtain ⟨y, hy⟩ : ∃ y, l[k - 1]? = some y := ⟨_, List.getElem?_eq_getElem (by have := lt_some hx; omega)⟩
        have e1 : at? l ((k : Int) - 1) = some y := by rw [at_pred h0]; exact hy
        have e2 : decide (0 < (k : Int)) = true := by simpa using h0
        have e3 : lateE l k x = decide (0 ≤ orE y x) := by simp [lateE, h0, hy]
        simp only [e2, if_true, e1, Option.bind_some, e3, ordEv_eq y x (hl y (List.mem_of_getElem? hy)).t (hl x (List.mem_of_getElem? hx)).t]
      · have e2 : decide (0 < (k : Int)) = false := by simpa using h0
        have e3 : lateE l k x = false := by simp [lateE, h0]
        rw [e2, e3]; rfl
    · simp
  have e1 : m_gateref2_PlanAt c x.Plan = some (ixL c x.Plan) := planAt_eq c x.Plan hb.nl
  have e2 : decide (fdx (fun y : S_api_App => decide (y.Key = x.App)) 0 apps < 0) = !hasA apps x.App := fdx_neg _ _
  have e3 : decide (fdx (fun y : S_api_Product => decide (y.Key = x.Product)) 0 c.Products < 0) = !hasP c x.Product := fdx_neg _ _
  have e4 : decide (ixL c x.Plan < 0) = !hasL c x.Plan := fdx_neg (fun y : S_api_Plan => decide (y.Key = x.Plan)) c.Plans
  unfold gateref2_EventsFault_L1 gateref2_EventsFault_J2
  simp only [e1, moment_eq, refAppAt_eq apps x.App (by have := ha.1; omega), prodAt_eq c x.Product hb.np, in_eq, Option.bind_some, e2, e3, e4, hJ]
  unfold ef1
  rcases Bool.eq_false_or_eq_true (momP x.At) with b1 | b1 <;> rcases Bool.eq_false_or_eq_true (hasA apps x.App) with b2 | b2 <;> rcases Bool.eq_false_or_eq_true (hasP c x.Product) with b3 | b3 <;> simp only [b1, b2, b3, Bool.not_true, Bool.not_false, Bool.false_eq_true, if_true, if_false, Bool.and_true, Bool.and_false, ne_eq, not_true_eq_false, not_false_eq_true, reduceCtorEq] <;> (try rfl)
  rcases Bool.eq_false_or_eq_true (outP x.Kind 1 6) with b4 | b4
  · simp [b4]
  · simp only [b4, Bool.false_eq_true, if_false, Bool.not_false, Bool.not_true]
    by_cases b5 : x.Kind = 1
    · rcases planOf_eq c x.Plan hb.nl hpl with ⟨q1, q2, q3⟩ | ⟨q1, q2, y, q3, q4, q5, q6⟩
      · simp [b5, q1]
      · have q7 : plP c x = decide (y.Product ≠ x.Product) := by unfold plP; rw [q3]
        simp only [b5, q1, q3, q7, ne_eq, not_true_eq_false, decide_false, decide_true, Bool.and_false, Bool.false_and, Bool.true_and, Bool.not_true, Bool.false_eq_true, if_false, if_true, Option.bind_some]
        by_cases q8 : y.Product = x.Product
        · rcases Bool.eq_false_or_eq_true (lateE l k x) with b7 | b7 <;> simp [q8, b7]
        · simp [q8]
    · by_cases b6 : x.Plan = []
      · rcases Bool.eq_false_or_eq_true (lateE l k x) with b7 | b7 <;> simp [b5, b6, b7]
      · simp [b5, b6]
theorem chkEvents_eq : m_portal_CheckEvents c apps l = some (eF c apps l) := by
  unfold m_portal_CheckEvents eF
  rw [chkCat_eq c hb, chkApps_eq apps ha]
  simp only [Option.bind_some]
  by_cases h1 : catF c = 0
  · rw [if_neg (by simpa using h1), if_neg (not_not_intro h1)]
    by_cases h2 : apF apps = 0
    · rw [if_neg (by simpa using h2), if_neg (not_not_intro h2)]
      by_cases h3 : 1000 < l.length
      · rw [if_pos (by simp; omega), if_pos h3]
      · rw [if_neg (by simp; omega), if_neg h3, if_pos (by omega)]
        refine forL_fe rfl l 0 fun j x _ hx => ?_
        have hx : l[j]? = some x := by simpa using hx
        unfold portal_CheckEvents_L1
        rw [efP_eq hb ha hl h1 h2 j x hx (by omega)]
        simp only [Option.bind_some]
        by_cases hq : ef1 c apps l j x = 0 <;> simp [hq]
    · rw [if_pos (by simpa using h2), if_pos h2]
  · rw [if_pos (by simpa using h1), if_pos h1]
theorem eventsFault_eq : m_gateref2_EventsFault c apps l = some (eF c apps l) := by
  unfold m_gateref2_EventsFault m_gateref2_both eF
  rw [catFault_eq c hb, appsFault_eq apps ha]
  simp only [Option.bind_some]
  by_cases h1 : catF c = 0
  · have e : (if decide (catF c ≠ 0) = true then some (catF c) else some (apF apps)) = some (apF apps) := if_neg (by simpa using h1)
    rw [e, if_neg (not_not_intro h1)]
    simp only [Option.bind_some]
    by_cases h2 : apF apps = 0
    · rw [if_neg (by simpa using h2), if_neg (not_not_intro h2)]
      by_cases h3 : 1000 < l.length
      · rw [if_pos (by simp; omega), if_pos h3]
      · rw [if_neg (by simp; omega), if_neg h3, if_pos (by omega)]
        exact forL_fe rfl l 0 fun j x _ hx => efR_eq hb ha hl h1 h2 j x (by simpa using hx)
    · rw [if_pos (by simpa using h2), if_pos h2]
  · have e : (if decide (catF c ≠ 0) = true then some (catF c) else some (apF apps)) = some (catF c) := if_pos (by simpa using h1)
    rw [e, if_pos h1]
    simp only [Option.bind_some]
    rw [if_pos (by simpa using h1)]
end
structure EOk (c : S_api_Catalog) (apps : List S_api_App) (x : S_api_Event) : Prop where
  t : 0 ≤ x.At ∧ x.At ≤ 345686399999
  a : hasA apps x.App = true
  p : hasP c x.Product = true
  k : 1 ≤ x.Kind ∧ x.Kind ≤ 6
  l : x.Kind = 1 → hasL c x.Plan = true
theorem ef1_zero {c : S_api_Catalog} {apps : List S_api_App} {l : List S_api_Event} {k : Nat} {x : S_api_Event} (h : ef1 c apps l k x = 0) : EOk c apps x ∧ lateE l k x = false := by
  unfold ef1 at h
  rcases Bool.eq_false_or_eq_true (momP x.At) with b1 | b1
  · rcases Bool.eq_false_or_eq_true (hasA apps x.App) with b2 | b2 <;> rcases Bool.eq_false_or_eq_true (hasP c x.Product) with b3 | b3 <;> simp [b1, b2, b3] at h
    rcases Bool.eq_false_or_eq_true (outP x.Kind 1 6) with b4 | b4
    · simp [b4] at h
    · simp only [b4, Bool.false_eq_true, if_false] at h
      have ht : 0 ≤ x.At ∧ x.At ≤ 345686399999 := by unfold momP at b1; simp at b1; omega
      rcases Bool.eq_false_or_eq_true (lateE l k x) with b7 | b7 <;> rcases Bool.eq_false_or_eq_true (plP c x) with b8 | b8 <;> rcases Bool.eq_false_or_eq_true (hasL c x.Plan) with b9 | b9 <;> by_cases b5 : x.Kind = 1 <;> by_cases b6 : x.Plan = [] <;> simp only [b7, b8, b9] at h <;> simp [b5, b6] at h
      all_goals exact ⟨⟨ht, b2, b3, outP_false b4, fun hk => by first | exact b9 | exact absurd hk b5⟩, b7⟩
  · simp [b1] at h
theorem eF_zero {c : S_api_Catalog} {apps : List S_api_App} {l : List S_api_Event} (h : eF c apps l = 0) : (catF c = 0 ∧ apF apps = 0 ∧ l.length ≤ 1000) ∧ (∀ x, x ∈ l → EOk c apps x) ∧ ∀ k x, l[k]? = some x → lateE l k x = false := by
  unfold eF at h
  by_cases h1 : catF c = 0
  · rw [if_neg (not_not_intro h1)] at h
    by_cases h2 : apF apps = 0
    · rw [if_neg (not_not_intro h2)] at h
      by_cases h3 : 1000 < l.length
      · rw [if_pos h3] at h; omega
      · rw [if_neg h3] at h
        have hz : ∀ k x, l[k]? = some x → ef1 c apps l k x = 0 := fun k x hx => by have := feI_zero l 0 h k x hx; simpa using this
        refine ⟨⟨h1, h2, by omega⟩, fun x hx => ?_, fun k x hx => (ef1_zero (hz k x hx)).2⟩
        obtain ⟨j, hj⟩ := List.getElem?_of_mem hx
        exact (ef1_zero (hz j x hj)).1
    · rw [if_pos h2] at h; exact absurd h h2
  · rw [if_pos h1] at h; exact absurd h h1
end Go.Proofs.YtaolapgdgdmapaaGreatDoor
