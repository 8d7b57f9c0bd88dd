/- Plain: subscriptions that follow from events: the program's book and the reference's stages. -/
import Derived.Test.YtaolapgdgdmapaaGreatDoorEgZb
import Derived.Test.YtaolapgdgdmapaaGreatDoorEaZb
import Derived.Test.YtaolapgdgdmapaaGreatDoorMl
namespace Go.Proofs.YtaolapgdgdmapaaGreatDoor
set_option linter.unusedVariables false
set_option linter.unusedSimpArgs false
set_option linter.unusedSectionVars false
set_option maxRecDepth 20000
def SI (s : S_api_Sub) : Prop := (0 ≤ s.State ∧ s.State ≤ 4) ∧ (s.State = 1 → s.First < 0) ∧ (s.State = 2 ∨ s.State = 3 → 0 ≤ s.First)
def folF (s : S_api_Sub) (x : S_api_Event) (asked : Bool) : S_api_Sub × Bool :=
  if x.Kind = 1 then
    if s.State = 2 ∨ s.State = 3 then (if x.Plan = s.Plan ∨ asked = true then (s, false) else (S_api_Sub.mk s.State x.Plan x.At s.First, true))
    else if s.State = 1 then (s, false) else if asked = true then (S_api_Sub.mk 1 x.Plan x.At (-1), true) else (S_api_Sub.mk 2 x.Plan x.At x.At, true)
  else if x.Kind = 2 then (if s.State = 1 then (S_api_Sub.mk 2 s.Plan x.At x.At, true) else (s, false))
  else if x.Kind = 3 then (if s.State = 1 then (S_api_Sub.mk 4 s.Plan x.At s.First, true) else (s, false))
  else if x.Kind = 4 then (if s.State = 2 then (S_api_Sub.mk 3 s.Plan x.At s.First, true) else (s, false))
  else if x.Kind = 5 then (if s.State = 3 then (S_api_Sub.mk 2 s.Plan x.At s.First, true) else (s, false))
  else if s.State = 1 ∨ s.State = 2 ∨ s.State = 3 then (S_api_Sub.mk 4 s.Plan x.At s.First, true) else (s, false)
def askP (c : S_api_Catalog) (x : S_api_Event) : Bool := match at? c.Plans (ixL c x.Plan) with | some p => p.Asked | none => false
def fol (c : S_api_Catalog) (s : S_api_Sub) (x : S_api_Event) : S_api_Sub × Bool := folF s x (askP c x)
theorem fol_ok {c : S_api_Catalog} {apps : List S_api_App} {s : S_api_Sub} {x : S_api_Event} (hs : SI s) (hx : EOk c apps x) : SI (fol c s x).1 ∧ ((fol c s x).2 = false → (fol c s x).1 = s) := by
  obtain ⟨h1, h2, h3⟩ := hs
  have ht := hx.t
  unfold fol folF SI
  generalize askP c x = a
  repeat' split
  all_goals first
    | exact ⟨⟨h1, h2, h3⟩, fun _ => rfl⟩
    | exact ⟨⟨by simp only; omega, by simp only; omega, by simp only; omega⟩, fun h => by cases h⟩
theorem folP_eq {c : S_api_Catalog} {apps : List S_api_App} {s : S_api_Sub} {x : S_api_Event} (hb : CB c) (hc : catF c = 0) (hs : SI s) (hx : EOk c apps x) : m_portal_followed c s x = some (fol c s x) := by
  obtain ⟨h1, h2, h3⟩ := hs
  have ht := hx.t
  have hk := hx.k
  obtain ⟨⟨_, hpl⟩, _⟩ := catF_good hc
  have hst : s.State = 0 ∨ s.State = 1 ∨ s.State = 2 ∨ s.State = 3 ∨ s.State = 4 := by omega
  unfold m_portal_followed fol
  by_cases k1 : x.Kind = 1
  · have hq := hx.l k1
    rcases planOf_eq c x.Plan hb.nl hpl with ⟨q1, _⟩ | ⟨_, q2, y, q3, q4, q5, q6⟩
    · rw [q1] at hq; cases hq
    · have ea : askP c x = y.Asked := by unfold askP; rw [q3]
      rw [if_pos (by simpa using k1), q6, ea]
      unfold m_portal_asked m_portal_isOn folF
      simp only [Option.bind_some, q5]
      rw [if_pos k1]
      rcases hst with e | e | e | e | e <;> simp only [e] <;> by_cases a1 : x.Plan = s.Plan <;> rcases Bool.eq_false_or_eq_true y.Asked with a2 | a2 <;> simp [a1, a2]
  · have hk2 : x.Kind = 2 ∨ x.Kind = 3 ∨ x.Kind = 4 ∨ x.Kind = 5 ∨ x.Kind = 6 := by omega
    rw [if_neg (by simpa using k1)]
    unfold m_portal_goal m_portal_isOn portal_goal_J1 portal_followed_J1 folF
    have hcase : ∀ n : Int, s.State = n → ((n = 1 → s.First < 0) ∧ (n = 2 ∨ n = 3 → 0 ≤ s.First)) := fun n hn => by rw [← hn]; exact ⟨h2, h3⟩
    rcases hst with e | e | e | e | e <;> have hf := hcase _ e <;> rcases hk2 with k | k | k | k | k <;> simp only [e, k] <;> first
      | (simp; done)
      | (have h9 : ¬ s.First < 0 := by have := hf.2 (by simp); omega
         simp [h9]; done)
      | (have h9 : s.First < 0 := hf.1 (by simp)
         simp [h9]; done)
theorem folR_eq {c : S_api_Catalog} {apps : List S_api_App} {s : S_api_Sub} {x : S_api_Event} (hb : CB c) (hc : catF c = 0) (hs : SI s) (hx : EOk c apps x) : m_gateref2_after c s x = some (fol c s x) := by
  obtain ⟨h1, h2, h3⟩ := hs
  have hk := hx.k
  obtain ⟨⟨_, hpl⟩, _⟩ := catF_good hc
  have hst : s.State = 0 ∨ s.State = 1 ∨ s.State = 2 ∨ s.State = 3 ∨ s.State = 4 := by omega
  have hp : m_gateref2_PlanAt c x.Plan = some (ixL c x.Plan) := planAt_eq c x.Plan hb.nl
  unfold m_gateref2_after fol gateref2_after_J1 gateref2_after_J3 gateref2_after_J4 gateref2_after_J2
  by_cases k1 : x.Kind = 1
  · have hq := hx.l k1
    rcases planOf_eq c x.Plan hb.nl hpl with ⟨q1, _⟩ | ⟨_, q2, y, q3, q4, q5, q6⟩
    · rw [q1] at hq; cases hq
    · have ea : askP c x = y.Asked := by unfold askP; rw [q3]
      have q7 : decide (ixL c x.Plan < 0) = false := by simp; omega
      rw [ea]
      unfold folF
      simp only [hp, q3, q7, Option.bind_some, in_eq]
      rcases hst with e | e | e | e | e <;> simp only [e, k1] <;> by_cases a1 : x.Plan = s.Plan <;> rcases Bool.eq_false_or_eq_true y.Asked with a2 | a2 <;> simp [a1, a2]
  · have hk2 : x.Kind = 2 ∨ x.Kind = 3 ∨ x.Kind = 4 ∨ x.Kind = 5 ∨ x.Kind = 6 := by omega
    unfold folF
    simp only [in_eq, Option.bind_some]
    rcases hst with e | e | e | e | e <;> rcases hk2 with k | k | k | k | k <;> simp only [e, k] <;> simp [outP]
def none0 : S_api_Sub := S_api_Sub.mk 0 [] 0 (-1)
theorem si_none : SI none0 := ⟨by simp [none0], by simp [none0], by simp [none0]⟩
noncomputable def bk (m : List (S_portal_pair × S_api_Sub)) (a p : Bs) : S_api_Sub := (lkG m (S_portal_pair.mk a p)).getD none0
theorem bookSub_eq (b : S_portal_book) (a p : Bs) (ha : a.length ≤ 1000000 ∧ p.length ≤ 1000000) : m_portal_book_sub_w b a p = some (bk b.subs_ a p) := by
  unfold m_portal_book_sub_w m_portal_none bk
  rw [if_pos ⟨by omega, by omega⟩]
  cases lkG b.subs_ (S_portal_pair.mk a p) with
  | none => rfl
  | some v => rfl
def upS (st : Bs → Bs → S_api_Sub) (a p : Bs) (s : S_api_Sub) : Bs → Bs → S_api_Sub := fun a' p' => if a' = a ∧ p' = p then s else st a' p'
theorem bk_pt (m : List (S_portal_pair × S_api_Sub)) (a p : Bs) (s : S_api_Sub) : bk (ptG m (S_portal_pair.mk a p) s) = upS (bk m) a p s := by
  funext a' p'
  unfold bk upS
  rw [lkG_pt]
  by_cases h : a' = a ∧ p' = p
  · obtain ⟨rfl, rfl⟩ := h
    rw [if_pos rfl, if_pos ⟨rfl, rfl⟩]; rfl
  · have h2 : ¬ S_portal_pair.mk a p = S_portal_pair.mk a' p' := fun e => by
      injection e with e1 e2
      exact h ⟨e1.symm, e2.symm⟩
    rw [if_neg h2, if_neg h]
def runR (c : S_api_Catalog) : (Bs → Bs → S_api_Sub) → Nat → List S_api_Event → List (Int × Bs × Bs)
  | _, _, [] => []
  | st, k, x :: l => if (fol c (st x.App x.Product) x).2 = true then runR c (upS st x.App x.Product (fol c (st x.App x.Product) x).1) (k + 1) l else ((k : Int), x.App, x.Product) :: runR c st (k + 1) l
def runS (c : S_api_Catalog) : (Bs → Bs → S_api_Sub) → List S_api_Event → (Bs → Bs → S_api_Sub)
  | st, [] => st
  | st, x :: l => if (fol c (st x.App x.Product) x).2 = true then runS c (upS st x.App x.Product (fol c (st x.App x.Product) x).1) l else runS c st l
theorem upS_si {st : Bs → Bs → S_api_Sub} {a p : Bs} {s : S_api_Sub} (h : ∀ a p, SI (st a p)) (hs : SI s) : ∀ a' p', SI (upS st a p s a' p') := fun a' p' => by
  unfold upS
  split
  · exact hs
  · exact h a' p'
section
variable {c : S_api_Catalog} {apps : List S_api_App} (hb : CB c) (hc : catF c = 0)
include hb hc
theorem bookRun {v3 : Int} : ∀ (l : List S_api_Event) (k : Nat) (m4 : List (S_portal_pair × S_api_Sub)) (m5 : List (S_portal_pair × Int)) (l6 : List Int), (∀ x, x ∈ l → EOk c apps x ∧ EB x ∧ x.At ≤ v3) → (∀ a p, SI (bk m4 a p)) → l6.length + l.length ≤ 1000000 →
    ∃ m4' m5', forL (fun (k : Nat) (x : S_api_Event) (s : (List (S_portal_pair × S_api_Sub)) × (List (S_portal_pair × Int)) × (List Int)) => portal_bookAt_f_L2 c v3 k x s.1 s.2.1 s.2.2) (fun (s : (List (S_portal_pair × S_api_Sub)) × (List (S_portal_pair × Int)) × (List Int)) => portal_bookAt_f_E2 s.1 s.2.1 s.2.2) k l (m4, m5, l6) = some (S_portal_book.mk m4' m5', l6 ++ (runR c (bk m4) k l).map (·.1)) ∧ bk m4' = runS c (bk m4) l
  | [], k, m4, m5, l6, _, _, _ => ⟨m4, m5, by show portal_bookAt_f_E2 m4 m5 l6 = _; unfold portal_bookAt_f_E2 portal_bookAt_f_J1; simp [runR], rfl⟩
  | x :: l, k, m4, m5, l6, hx, hm, hl => by
    obtain ⟨x1, x2, x3⟩ := hx x (by simp)
    simp only [List.length_cons] at hl
    have e1 := bookSub_eq (S_portal_book.mk m4 m5) x.App x.Product ⟨x2.a, x2.p⟩
    have hs := hm x.App x.Product
    have e2 := folP_eq hb hc hs x1
    obtain ⟨f1, f2⟩ := fol_ok hs x1
    have b1 := x2.a
    have b2 := x2.p
    have hstep : portal_bookAt_f_L2 c v3 k x m4 m5 l6 = if (fol c (bk m4 x.App x.Product) x).2 = true then some (.inl (ptG m4 (S_portal_pair.mk x.App x.Product) (fol c (bk m4 x.App x.Product) x).1, (if x.Kind = 1 then ptG m5 (S_portal_pair.mk x.App x.Product) (k : Int) else m5), l6)) else some (.inl (m4, m5, l6 ++ [(k : Int)])) := by
      unfold portal_bookAt_f_L2 portal_bookAt_f_J3
      rw [if_neg (by simp; omega), e1]
      simp only [Option.bind_some, e2]
      cases (fol c (bk m4 x.App x.Product) x).2
      · simp; omega
      · simp only [Bool.not_true, Bool.false_eq_true, if_false, if_true]
        rw [if_pos ⟨by omega, by omega⟩]
        by_cases k1 : x.Kind = 1
        · rw [if_pos (by simpa using k1), if_pos ⟨by omega, by omega⟩, if_pos k1]
        · rw [if_neg (by simpa using k1), if_neg k1]
    show ∃ m4' m5', (portal_bookAt_f_L2 c v3 k x m4 m5 l6).bind _ = _ ∧ _
    rw [hstep]
    cases hf : (fol c (bk m4 x.App x.Product) x).2
    · simp only [Bool.false_eq_true, if_false, Option.bind_some, after]
      obtain ⟨m4', m5', r1, r2⟩ := bookRun l (k + 1) m4 m5 (l6 ++ [(k : Int)]) (fun y hy => hx y (by simp [hy])) hm (by simp; omega)
      refine ⟨m4', m5', ?_, ?_⟩
      · rw [r1]
        simp [runR, hf]
      · rw [r2]
        simp [runS, hf]
    · simp only [if_true, Option.bind_some, after]
      have hm' : ∀ a p, SI (bk (ptG m4 (S_portal_pair.mk x.App x.Product) (fol c (bk m4 x.App x.Product) x).1) a p) := by rw [bk_pt]; exact upS_si hm f1
      obtain ⟨m4', m5', r1, r2⟩ := bookRun l (k + 1) _ (if x.Kind = 1 then ptG m5 (S_portal_pair.mk x.App x.Product) (k : Int) else m5) l6 (fun y hy => hx y (by simp [hy])) hm' (by omega)
      refine ⟨m4', m5', ?_, ?_⟩
      · rw [r1, bk_pt]
        simp [runR, hf]
      · rw [r2, bk_pt]
        simp [runS, hf]
theorem bookAt_eq {v3 : Int} (l : List S_api_Event) (hx : ∀ x, x ∈ l → EOk c apps x ∧ EB x ∧ x.At ≤ v3) (hl : l.length ≤ 100000) : ∃ m4 m5, m_portal_bookAt_f c l v3 = some (S_portal_book.mk m4 m5, (runR c (fun _ _ => none0) 0 l).map (·.1)) ∧ bk m4 = runS c (fun _ _ => none0) l := by
  unfold m_portal_bookAt_f
  rw [if_pos (by omega)]
  have e : bk ([] : List (S_portal_pair × S_api_Sub)) = fun _ _ => none0 := by funext a p; rfl
  obtain ⟨m4, m5, h1, h2⟩ := bookRun (v3 := v3) hb hc l 0 [] [] [] hx (fun a p => by rw [e]; exact si_none) (by simp; omega)
  rw [e] at h1 h2
  exact ⟨m4, m5, by simpa using h1, h2⟩
end
def stR (c : S_api_Catalog) (a p : Bs) : S_api_Sub → Nat → List S_api_Event → List Int
  | _, _, [] => []
  | s, k, x :: l => if x.App = a ∧ x.Product = p then (if (fol c s x).2 = true then stR c a p (fol c s x).1 (k + 1) l else (k : Int) :: stR c a p s (k + 1) l) else stR c a p s (k + 1) l
def stS (c : S_api_Catalog) (a p : Bs) : S_api_Sub → List S_api_Event → List S_api_Sub
  | _, [] => []
  | s, x :: l => if x.App = a ∧ x.Product = p then (if (fol c s x).2 = true then (fol c s x).1 :: stS c a p (fol c s x).1 l else stS c a p s l) else stS c a p s l
section
variable {c : S_api_Catalog} {apps : List S_api_App} (hb : CB c) (hc : catF c = 0)
include hb hc
theorem stagesRun (a p : Bs) : ∀ (l : List S_api_Event) (k : Nat) (out : List S_api_Sub) (s : S_api_Sub) (ref : List Int), (∀ x, x ∈ l → EOk c apps x) → SI s → out.length + l.length ≤ 1000000 → ref.length + l.length ≤ 1000000 →
    forL (fun (k : Nat) (x : S_api_Event) (s : (List S_api_Sub) × (List Int)) => gateref2_Stages_L1 c a p k x s.1 s.2) (fun (s : (List S_api_Sub) × (List Int)) => gateref2_Stages_E1 s.1 s.2) k l (out ++ [s], ref) = some (out ++ [s] ++ stS c a p s l, ref ++ stR c a p s k l)
  | [], k, out, s, ref, _, _, _, _ => by
    show gateref2_Stages_E1 (out ++ [s]) ref = _
    unfold gateref2_Stages_E1
    simp [stS, stR]
  | x :: l, k, out, s, ref, hx, hs, h1, h2 => by
    simp only [List.length_cons] at h1 h2
    have x1 := hx x (by simp)
    have e2 := folR_eq hb hc hs x1
    obtain ⟨f1, f2⟩ := fol_ok hs x1
    have hstep : gateref2_Stages_L1 c a p k x (out ++ [s]) ref = if x.App = a ∧ x.Product = p then (if (fol c s x).2 = true then some (.inl (out ++ [s] ++ [(fol c s x).1], ref)) else some (.inl (out ++ [s], ref ++ [(k : Int)]))) else some (.inl (out ++ [s], ref)) := by
      have e0 : (decide (x.App ≠ a) || decide (x.Product ≠ p)) = !decide (x.App = a ∧ x.Product = p) := by
        by_cases q1 : x.App = a <;> by_cases q2 : x.Product = p <;> simp [q1, q2]
      unfold gateref2_Stages_L1 gateref2_Stages_J2
      rw [e0]
      by_cases hp : x.App = a ∧ x.Product = p
      · have e1 : at? (out ++ [s]) (wr (((out ++ [s]).length : Int) - 1)) = some s := by
          simp only [List.length_append, List.length_cons, List.length_nil]
          rw [wr_id (by omega)]
          have : ((out.length + (0 + 1) : Nat) : Int) - 1 = (out.length : Int) := by omega
          rw [this, at_nat]
          simp
        have e3 : (!decide (x.App = a ∧ x.Product = p)) = false := by rw [decide_eq_true hp]; rfl
        rw [e3, if_neg (by simp), e1, if_pos hp]
        simp only [Option.bind_some, e2]
        cases (fol c s x).2
        · simp only [Bool.false_eq_true, if_false]
          rw [if_pos (by omega)]
        · simp only [if_true]
          rw [if_pos (by simp; omega)]
      · have e3 : (!decide (x.App = a ∧ x.Product = p)) = true := by rw [decide_eq_false hp]; rfl
        rw [e3, if_pos rfl, if_neg hp]
    show (gateref2_Stages_L1 c a p k x (out ++ [s]) ref).bind _ = _
    rw [hstep]
    by_cases hp : x.App = a ∧ x.Product = p
    · rw [if_pos hp]
      cases hf : (fol c s x).2
      · simp only [Bool.false_eq_true, if_false, Option.bind_some, after]
        rw [stagesRun a p l (k + 1) out s (ref ++ [(k : Int)]) (fun y hy => hx y (by simp [hy])) hs (by omega) (by simp; omega)]
        simp [stS, stR, hp, hf]
      · simp only [if_true, Option.bind_some, after]
        rw [stagesRun a p l (k + 1) (out ++ [s]) (fol c s x).1 ref (fun y hy => hx y (by simp [hy])) f1 (by simp; omega) (by omega)]
        simp [stS, stR, hp, hf]
    · rw [if_neg hp]
      simp only [Option.bind_some, after]
      rw [stagesRun a p l (k + 1) out s ref (fun y hy => hx y (by simp [hy])) hs (by omega) (by omega)]
      simp only [stS, stR, if_neg hp]
theorem stages_eq (l : List S_api_Event) (a p : Bs) (hx : ∀ x, x ∈ l → EOk c apps x) (hl : l.length ≤ 100000) : m_gateref2_Stages c l a p = some (none0 :: stS c a p none0 l, stR c a p none0 0 l) := by
  unfold m_gateref2_Stages m_gateref2_none
  simp only [Option.bind_some]
  rw [if_pos (by omega)]
  have := stagesRun (apps := apps) hb hc a p l 0 [] none0 [] hx si_none (by simp; omega) (by simp; omega)
  simp only [List.nil_append] at this
  exact this
end
theorem stR_run (c : S_api_Catalog) (a p : Bs) : ∀ (l : List S_api_Event) (k : Nat) (st : Bs → Bs → S_api_Sub), stR c a p (st a p) k l = ((runR c st k l).filter fun q => decide (q.2.1 = a ∧ q.2.2 = p)).map (·.1)
  | [], k, st => rfl
  | x :: l, k, st => by
    simp only [stR, runR]
    by_cases hp : x.App = a ∧ x.Product = p
    · rw [if_pos hp, hp.1, hp.2]
      cases hf : (fol c (st a p) x).2
      · simp only [Bool.false_eq_true, if_false]
        rw [stR_run c a p l (k + 1) st]
        simp
      · simp only [if_true]
        have := stR_run c a p l (k + 1) (upS st a p (fol c (st a p) x).1)
        have e : upS st a p (fol c (st a p) x).1 a p = (fol c (st a p) x).1 := by unfold upS; rw [if_pos ⟨rfl, rfl⟩]
        rw [e] at this
        exact this
    · rw [if_neg hp]
      cases hf : (fol c (st x.App x.Product) x).2
      · simp only [Bool.false_eq_true, if_false]
        rw [stR_run c a p l (k + 1) st]
        simp [hp]
      · simp only [if_true]
        have := stR_run c a p l (k + 1) (upS st x.App x.Product (fol c (st x.App x.Product) x).1)
        have e : upS st x.App x.Product (fol c (st x.App x.Product) x).1 a p = st a p := by unfold upS; rw [if_neg (fun h => hp ⟨h.1.symm, h.2.symm⟩)]
        rw [e] at this
        exact this
theorem runR_mem (c : S_api_Catalog) : ∀ (l : List S_api_Event) (k : Nat) (st : Bs → Bs → S_api_Sub), (runR c st k l).length ≤ l.length ∧ (runR c st k l).Pairwise (fun q r => q.1 < r.1) ∧ ∀ q, q ∈ runR c st k l → (k : Int) ≤ q.1 ∧ ∃ x, x ∈ l ∧ q.2 = (x.App, x.Product)
  | [], k, st => by simp [runR]
  | x :: l, k, st => by
    simp only [runR]
    split
    · obtain ⟨h0, h1, h2⟩ := runR_mem c l (k + 1) (upS st x.App x.Product (fol c (st x.App x.Product) x).1)
      refine ⟨by simp only [List.length_cons]; omega, h1, fun q hq => ?_⟩
      obtain ⟨h3, y, h4, h5⟩ := h2 q hq
      exact ⟨by omega, y, by simp [h4], h5⟩
    · obtain ⟨h0, h1, h2⟩ := runR_mem c l (k + 1) st
      refine ⟨by simp only [List.length_cons]; omega, List.pairwise_cons.2 ⟨fun q hq => by have := (h2 q hq).1; simp only; omega, h1⟩, fun q hq => ?_⟩
      rcases List.mem_cons.1 hq with rfl | hq
      · exact ⟨Int.le_refl _, x, by simp, rfl⟩
      · obtain ⟨h3, y, h4, h5⟩ := h2 q hq
        exact ⟨by omega, y, by simp [h4], h5⟩
theorem parts_perm {α κ : Type} [DecidableEq κ] (f : α → κ) : ∀ (L : List α) (ks : List κ), ks.Nodup → (∀ x, x ∈ L → f x ∈ ks) → (ks.flatMap fun k => L.filter fun x => decide (f x = k)).Perm L
  | [], ks, _, _ => by simp
  | x :: L, ks, hn, hk => by
    have ih := parts_perm f L ks hn fun y hy => hk y (by simp [hy])
    obtain ⟨k1, k2, rfl⟩ := List.append_of_mem (hk x (by simp))
    rw [List.nodup_append] at hn
    obtain ⟨n1, n2, n3⟩ := hn
    have n4 := (List.nodup_cons.1 n2).1
    have h1 : ∀ ks : List κ, f x ∉ ks → (ks.flatMap fun k => (x :: L).filter fun x => decide (f x = k)) = ks.flatMap fun k => L.filter fun x => decide (f x = k) := fun ks hks => by
      induction ks with
      | nil => rfl
      | cons k ks ih2 =>
        simp only [List.mem_cons, not_or] at hks
        rw [List.flatMap_cons, List.flatMap_cons, ih2 hks.2, List.filter_cons_of_neg (by simpa using hks.1)]
    have h2 : f x ∉ k1 := fun h => n3 _ h _ (by simp) rfl
    rw [List.flatMap_append, List.flatMap_cons, h1 k1 h2, h1 k2 n4, List.filter_cons_of_pos (by simp)] 
    rw [List.flatMap_append, List.flatMap_cons] at ih
    exact (List.perm_middle).trans (ih.cons x)
theorem sort_asc {l l' : List Int} (hp : l.Perm l') (h : l'.Pairwise fun x y => x < y) : (l.mergeSort fun x y => decide (x ≤ y)) = l' := by
  have h1 := List.pairwise_mergeSort (le := fun x y : Int => decide (x ≤ y)) (fun a b c h k => by
    have h := of_decide_eq_true h
    have k := of_decide_eq_true k
    exact decide_eq_true (Int.le_trans h k)) (fun a b => by
    rcases Int.le_total a b with h | h <;> simp [h]) l
  refine List.Perm.eq_of_pairwise (le := fun x y : Int => x ≤ y) (fun a b _ _ hab hba => Int.le_antisymm hab hba) (h1.imp fun h => of_decide_eq_true h) (h.imp fun h => Int.le_of_lt h) ((List.mergeSort_perm _ _).trans hp)
theorem refused_eq {c : S_api_Catalog} {apps : List S_api_App} {l : List S_api_Event} (hb : CB c) (ha : AB apps) (h0 : eF c apps l = 0) : m_gateref2_RefusedOf c apps l = some ((runR c (fun _ _ => none0) 0 l).map (·.1)) := by
  obtain ⟨⟨hc, hap, hlen⟩, hx, _⟩ := eF_zero h0
  obtain ⟨⟨hpr, _⟩, _⟩ := catF_good hc
  have hn := hb.np
  have ham := ha.1
  generalize hR : runR c (fun _ _ => none0) 0 l = R
  obtain ⟨m0, m1, m2⟩ := runR_mem c l 0 (fun _ _ => none0)
  rw [hR] at m0 m1 m2
  have hs : ∀ a p, m_gateref2_Stages c l a p = some (none0 :: stS c a p none0 l, (R.filter fun q => decide (q.2.1 = a ∧ q.2.2 = p)).map (·.1)) := fun a p => by
    rw [stages_eq hb hc l a p hx (by omega), stR_run c a p l 0 (fun _ _ => none0), hR]
  have hfl : ∀ a p, ((R.filter fun q => decide (q.2.1 = a ∧ q.2.2 = p)).map (·.1)).length ≤ 1000 := fun a p => by
    have := List.length_filter_le (fun q : Int × Bs × Bs => decide (q.2.1 = a ∧ q.2.2 = p)) R
    rw [List.length_map]; omega
  have inner : ∀ (a : S_api_App) (ps : List S_api_Product) (k : Nat) (out : List Int), out.length + 1000 * ps.length ≤ 900000000 → forL (fun (k : Nat) (x : S_api_Product) (s : (List Int)) => gateref2_RefusedOf_L2 c l a k x s) (fun (s : (List Int)) => gateref2_RefusedOf_E2 s) k ps out = some (.inl (out ++ ps.flatMap fun p => (R.filter fun q => decide (q.2.1 = a.Key ∧ q.2.2 = p.Key)).map (·.1))) := by
    intro a ps
    induction ps with
    | nil => intro k out _; show gateref2_RefusedOf_E2 out = _; unfold gateref2_RefusedOf_E2; simp
    | cons p ps ih =>
      intro k out ho
      simp only [List.length_cons] at ho
      have h1 := hfl a.Key p.Key
      have e : gateref2_RefusedOf_L2 c l a k p out = some (.inl (out ++ (R.filter fun q => decide (q.2.1 = a.Key ∧ q.2.2 = p.Key)).map (·.1))) := by
        unfold gateref2_RefusedOf_L2
        rw [hs]
        simp only [Option.bind_some]
        rw [if_pos (by omega)]
      show (gateref2_RefusedOf_L2 c l a k p out).bind _ = _
      rw [e]
      simp only [Option.bind_some, after]
      rw [ih (k + 1) _ (by rw [List.length_append]; omega)]
      simp
  have flen : ∀ (a : S_api_App) (ps : List S_api_Product), (ps.flatMap fun p => (R.filter fun q => decide (q.2.1 = a.Key ∧ q.2.2 = p.Key)).map (·.1)).length ≤ 1000 * ps.length := fun a ps => by
    induction ps with
    | nil => simp
    | cons p ps ih =>
      have := hfl a.Key p.Key
      rw [List.flatMap_cons, List.length_append, List.length_cons]; omega
  have outer : ∀ (aps : List S_api_App) (k : Nat) (out : List Int), out.length + 100000000 * aps.length ≤ 700000000000 → aps.length ≤ 7000 → out.length ≤ 800000000 - 100000 * aps.length → (∀ n, n ≤ c.Products.length → 1000 * n ≤ 100000) → forL (fun (k : Nat) (x : S_api_App) (s : (List Int)) => gateref2_RefusedOf_L1 c l k x s) (fun (s : (List Int)) => gateref2_RefusedOf_E1 s) k aps out = gateref2_RefusedOf_E1 (out ++ aps.flatMap fun a => c.Products.flatMap fun p => (R.filter fun q => decide (q.2.1 = a.Key ∧ q.2.2 = p.Key)).map (·.1)) := by
    intro aps
    induction aps with
    | nil => intro k out _ _ _ _; simp [forL]
    | cons a aps ih =>
      intro k out ho h7 h8 h9
      simp only [List.length_cons] at ho h7 h8
      have h10 := h9 c.Products.length (Nat.le_refl _)
      have h11 := flen a c.Products
      have e : gateref2_RefusedOf_L1 c l k a out = some (.inl (out ++ c.Products.flatMap fun p => (R.filter fun q => decide (q.2.1 = a.Key ∧ q.2.2 = p.Key)).map (·.1))) := by
        unfold gateref2_RefusedOf_L1
        rw [if_pos (by omega)]
        exact inner a c.Products 0 out (by omega)
      show (gateref2_RefusedOf_L1 c l k a out).bind _ = _
      rw [e]
      simp only [Option.bind_some, after]
      rw [ih (k + 1) _ (by rw [List.length_append]; omega) (by omega) (by rw [List.length_append]; omega) h9]
      simp
  have hp100 : c.Products.length ≤ 100 := by
    have h2 := hc
    unfold catF at h2
    split at h2
    · next h => exact absurd h2 h
    · next h =>
      have h3 : pdF c.Products = 0 := by simpa using h
      unfold pdF at h3
      split at h3
      · omega
      · omega
  unfold m_gateref2_RefusedOf
  rw [if_pos (by omega), outer apps 0 [] (by simp; omega) (by omega) (by simp) (fun n hn => by omega)]
  unfold gateref2_RefusedOf_E1 m_slices_Sort_int
  rw [List.nil_append]
  have hperm : (apps.flatMap fun a => c.Products.flatMap fun p => (R.filter fun q => decide (q.2.1 = a.Key ∧ q.2.2 = p.Key)).map (·.1)).Perm (R.map (·.1)) := by
    have e1 : (apps.flatMap fun a => c.Products.flatMap fun p => (R.filter fun q => decide (q.2.1 = a.Key ∧ q.2.2 = p.Key)).map (·.1)) = ((apps.flatMap fun a => c.Products.map fun p => (a.Key, p.Key)).flatMap fun k => R.filter fun q => decide (q.2 = k)).map (·.1) := by
      rw [List.flatMap_assoc, List.map_flatMap]
      congr 1
      funext a
      rw [List.flatMap_map, List.map_flatMap]
      congr 1
      funext p
      congr 2
      funext q
      have : (q.2.1 = a.Key ∧ q.2.2 = p.Key) ↔ q.2 = (a.Key, p.Key) := by
        rw [Prod.ext_iff]
      exact decide_eq_decide.2 this
    rw [e1]
    refine List.Perm.map _ (parts_perm (fun q : Int × Bs × Bs => q.2) R _ ?_ fun q hq => ?_)
    · have ra : apps.Pairwise fun x y => x.Key ≠ y.Key := (apF_rise hap).imp fun {a b} h e => by rw [e, (cmp_zero b.Key b.Key).2 rfl] at h; omega
      have rp : c.Products.Pairwise fun x y => x.Key ≠ y.Key := hpr.imp fun {a b} h e => by rw [e, (cmp_zero b.Key b.Key).2 rfl] at h; omega
      clear e1 outer flen inner hfl hs hR m0 m1 m2 hap ham ha hx h0
      induction apps with
      | nil => simp
      | cons a aps ih =>
        obtain ⟨r1, r2⟩ := List.pairwise_cons.1 ra
        rw [List.flatMap_cons, List.nodup_append]
        refine ⟨?_, ih r2, fun x hx y hy e => ?_⟩
        · rw [List.Nodup, List.pairwise_map]
          exact rp.imp fun h e => h (congrArg Prod.snd e)
        · subst e
          obtain ⟨p, _, rfl⟩ := List.mem_map.1 hx
          obtain ⟨b, hb2, hy⟩ := List.mem_flatMap.1 hy
          obtain ⟨p', _, e⟩ := List.mem_map.1 hy
          exact r1 b hb2 (congrArg Prod.fst e).symm
    · obtain ⟨_, x, hxl, hqx⟩ := m2 q hq
      have hxo := hx x hxl
      obtain ⟨a, ha1, ha2⟩ := List.any_eq_true.1 hxo.a
      obtain ⟨p, hp1, hp2⟩ := List.any_eq_true.1 hxo.p
      have ha2 : a.Key = x.App := by simpa using ha2
      have hp2 : p.Key = x.Product := by simpa using hp2
      show q.2 ∈ _
      rw [hqx, ← ha2, ← hp2]
      exact List.mem_flatMap.2 ⟨a, ha1, List.mem_map.2 ⟨p, hp1, rfl⟩⟩
  have hlenp := hperm.length_eq
  rw [if_pos (by rw [hlenp, List.length_map]; omega)]
  simp only [Option.bind_some]
  rw [sort_asc hperm (by rw [List.pairwise_map]; exact m1)]
theorem refusedP_eq {c : S_api_Catalog} {apps : List S_api_App} {l : List S_api_Event} (hb : CB c) (ha : AB apps) (hl : ∀ x, x ∈ l → EB x) : m_portal_Refused c apps l = some (if eF c apps l ≠ 0 then ([], eF c apps l) else ((runR c (fun _ _ => none0) 0 l).map (·.1), 0)) := by
  unfold m_portal_Refused
  rw [chkEvents_eq hb ha hl]
  simp only [Option.bind_some]
  by_cases h0 : eF c apps l = 0
  · obtain ⟨⟨hc, hap, hlen⟩, hx, _⟩ := eF_zero h0
    rw [if_neg (by simpa using h0), if_neg (not_not_intro h0)]
    obtain ⟨m4, m5, h1, _⟩ := bookAt_eq (v3 := 345686400000) hb hc l (fun x hxl => ⟨hx x hxl, hl x hxl, by have := (hx x hxl).t; omega⟩) (by omega)
    rw [h1]; rfl
  · rw [if_pos (by simpa using h0), if_pos h0]
end Go.Proofs.YtaolapgdgdmapaaGreatDoor
