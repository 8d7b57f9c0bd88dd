/- The abstract machine: rules for code, functions, and the first operations. -/
import Derived.Test.YtmcegaabopcmfaaAbsT
import Derived.LoopN
import Derived.Deep.MidRow
namespace Go.Proofs.Ytmcegaabopcmfaa
open Go.RowKit
set_option linter.unusedVariables false

section code
variable {P : Program} {X : Ctx} {Q : Exit → (Nat → Slot) → Own → Prop} {f : Nat → Slot} {own : Own}

theorem awp_mono {c : Code} {Q' : Exit → (Nat → Slot) → Own → Prop} (h : AWP P X c Q' f own) (hq : ∀ e f own, Q' e f own → Q e f own) : AWP P X c Q f own :=
  fun g a w hr => wp_mono (h g a w hr) fun e a' w' ⟨f', own', g', h1, h2⟩ => ⟨f', own', g', h1, hq _ _ _ h2⟩
theorem awp_seq {x y : Code} (h : AWP P X x (fun e f own => match e with | .normal => AWP P X y Q f own | e => Q e f own) f own) : AWP P X (.seq x y) Q f own := by
  intro g a w hr
  refine wp_seq (wp_mono (h g a w hr) ?_)
  rintro e a' w' ⟨f', own', g', h1, h2⟩
  cases e with
  | normal => exact h2 g' a' w' h1
  | exit id => exact ⟨f', own', g', h1, h2⟩
  | goto l => exact ⟨f', own', g', h1, h2⟩
  | ret => exact ⟨f', own', g', h1, h2⟩
  | panic ch => exact ⟨f', own', g', h1, h2⟩
  | outgrown => exact ⟨f', own', g', h1, h2⟩
theorem awp_skip (h : Q .normal f own) : AWP P X .skip Q f own := fun g a w hr => wp_skip ⟨f, own, g, hr, h⟩
theorem awp_ret (h : Q .ret f own) : AWP P X .ret Q f own := fun g a w hr => wp_ret ⟨f, own, g, hr, h⟩
theorem awp_exit {id : Nat} (h : Q (.exit id) f own) : AWP P X (.exit id) Q f own := fun g a w hr => wp_exit ⟨f, own, g, hr, h⟩
theorem awp_block {id : Nat} {c : Code} (h : AWP P X c (fun e f own => match e with | .exit i => if i = id then Q .normal f own else Q (.exit i) f own | e => Q e f own) f own) : AWP P X (.block id c) Q f own := by
  intro g a w hr
  refine wp_block (wp_mono (h g a w hr) ?_)
  rintro e a' w' ⟨f', own', g', h1, h2⟩
  cases e with
  | exit i =>
    have h3 : (if i = id then Q .normal f' own' else Q (.exit i) f' own') := h2
    simp only [Exit.inBlock]
    split
    · rename_i hi; rw [if_pos hi] at h3; exact ⟨f', own', g', h1, h3⟩
    · rename_i hi; rw [if_neg hi] at h3; exact ⟨f', own', g', h1, h3⟩
  | normal => exact ⟨f', own', g', h1, h2⟩
  | goto l => exact ⟨f', own', g', h1, h2⟩
  | ret => exact ⟨f', own', g', h1, h2⟩
  | panic ch => exact ⟨f', own', g', h1, h2⟩
  | outgrown => exact ⟨f', own', g', h1, h2⟩

theorem Rel.ev {g : Gh} {a : Act} {w : World} (h : Rel X f own g a w) (x : Operand) : RepS g w (Mof X g own) (evS f x) (a.eval x) := by
  cases x with
  | tmp t => exact h.fr t
  | const v =>
    exact (rfl : v = v)
  | global _ => trivial
  | func _ => trivial

theorem awp_cond {c : Operand} {x y : Code} (b : Bool) (hc : evS f c = .dat (vval (.bool b))) (ht : b = true → AWP P X x Q f own) (hf : b = false → AWP P X y Q f own) : AWP P X (.cond c x y) Q f own := by
  intro g a w hr
  have h1 := hr.ev c
  rw [hc] at h1
  have h2 : a.eval c = .bool b := h1
  exact wp_cond_split h2 (fun h => ht h g a w hr) (fun h => hf h g a w hr)

/-- slots by a list; all others are unknown -/
def frs (l : List (Nat × Slot)) : Nat → Slot := upl (fun _ => .any) l
def ows (l : List (Nat × AObj)) : Own := upl (fun _ => none) (l.map fun p => (p.1, some (some p.2)))

def liveB (own : Own) (id : Nat) : Bool := match own id with
  | some (some _) => true
  | _ => false
def okS (own : Own) : Slot → Bool
  | .any => true
  | .dat _ => true
  | .ptr id _ => liveB own id
  | .row id _ => liveB own id
  | .rptr id _ _ _ _ => liveB own id
  | .mp id => liveB own id
def okO (own : Own) : AObj → Bool
  | .box _ _ cs => cs.all (okS own)
  | .row _ _ _ => true
  | .opq _ _ => true
  | .rowA _ _ _ _ => true
theorem liveB_at {own : Own} {id : Nat} (h : liveB own id = true) : ∃ o, own id = some (some o) := by
  unfold liveB at h
  split at h
  · rename_i o ho; exact ⟨o, ho⟩
  · cases h
/-- slots and objects as listed -/
def subF (f : Nat → Slot) : List (Nat × Slot) → Prop
  | [] => True
  | (t, s) :: l => s = f t ∧ subF f l
def subO (own : Own) : List (Nat × AObj) → Prop
  | [] => True
  | (id, o) :: l => own id = some (some o) ∧ subO own l
def okL (lf : List (Nat × Slot)) (lo : List (Nat × AObj)) : Bool := lf.all (fun p => okS (ows lo) p.2) && lo.all (fun p => okO (ows lo) p.2)

theorem subF_at {own' : Own} : ∀ (l : List (Nat × Slot)), subF f l → l.all (fun p => okS own' p.2) = true → ∀ t, frs l t = .any ∨ (frs l t = f t ∧ okS own' (frs l t) = true) := by
  intro l
  induction l with
  | nil => intro _ _ t; exact .inl rfl
  | cons p l ih =>
    obtain ⟨k, s⟩ := p
    intro h ho t
    simp only [List.all_cons, Bool.and_eq_true] at ho
    unfold frs
    simp only [upl]
    by_cases hk : t = k
    · subst hk
      have : Nat.beq t t = true := by simp
      simp only [this, cond_true]
      exact .inr ⟨h.1, ho.1⟩
    · simp only [beq_false_of hk, cond_false]
      exact ih h.2 ho.2 t
theorem subO_at {own' : Own} : ∀ (l : List (Nat × AObj)), subO own l → l.all (fun p => okO own' p.2) = true → ∀ id, ows l id = none ∨ ∃ o, ows l id = some (some o) ∧ own id = some (some o) ∧ okO own' o = true := by
  intro l
  induction l with
  | nil => intro _ _ t; exact .inl rfl
  | cons p l ih =>
    obtain ⟨k, s⟩ := p
    intro h ho t
    simp only [List.all_cons, Bool.and_eq_true] at ho
    unfold ows
    simp only [List.map_cons, upl]
    by_cases hk : t = k
    · subst hk
      have : Nat.beq t t = true := by simp
      simp only [this, cond_true]
      exact .inr ⟨s, rfl, h.1, ho.1⟩
    · simp only [beq_false_of hk, cond_false]
      exact ih h.2 ho.2 t

/-- forget slots and objects -/
theorem Rel.less {g : Gh} {a : Act} {w : World} (h : Rel X f own g a w) (lf : List (Nat × Slot)) (lo : List (Nat × AObj)) (hf : subF f lf) (ho : subO own lo) (hok : okL lf lo = true) :
    ∃ g', Rel X (frs lf) (ows lo) g' a w := by
  classical
  simp only [okL, Bool.and_eq_true] at hok
  have hF := subF_at lf hf hok.1
  have hO := subO_at lo ho hok.2
  have hlive : ∀ id o, ows lo id = some (some o) → own id = some (some o) ∧ okO (ows lo) o = true := fun id o h1 => by
    rcases hO id with h2 | ⟨o', h2, h3, h4⟩
    · rw [h2] at h1; cases h1
    · rw [h2] at h1; cases h1; exact ⟨h3, h4⟩
  let g' : Gh := ⟨fun id => if ows lo id = none then none else g.bl id, fun id n => if ows lo id = none then none else g.sv id n⟩
  have gb : ∀ id, ows lo id ≠ none → g'.bl id = g.bl id := fun id hn => if_neg hn
  have gs : ∀ id n, ows lo id ≠ none → g'.sv id n = g.sv id n := fun id n hn => if_neg hn
  have hne : ∀ id o, ows lo id = some (some o) → ows lo id ≠ none := fun id o h1 => by rw [h1]; simp
  have hobk : ∀ id o o', ows lo id = some (some o') → obk g' id o = obk g id o := fun id o o' h1 => by
    cases o with
    | box an t cs => exact gb id (hne id o' h1)
    | row e size es => simp only [obk, gs id _ (hne id o' h1)]
    | opq an R => exact gb id (hne id o' h1)
    | rowA v e size es => rfl
  have hM : ∀ b, Mof X g' (ows lo) b → Mof X g own b := fun b hb => by
    rcases hb with hb | ⟨id, o, h1, h2⟩
    · exact .inl hb
    · rw [hobk id o o h1] at h2
      exact .inr ⟨id, o, (hlive id o h1).1, h2⟩
  have he : Ext (Mof X g own) (Mof X g' (ows lo)) w w := ⟨Nat.le_refl _, fun _ _ _ => rfl, fun b _ hb => hM b hb⟩
  have hS : ∀ s v, okS (ows lo) s = true → RepS g w (Mof X g own) s v → RepS g' w (Mof X g' (ows lo)) s v := fun s v hs hv => by
    cases s with
    | any => trivial
    | dat u => exact u.keep he hv
    | ptr id off =>
      obtain ⟨o, ho⟩ := liveB_at hs
      obtain ⟨b, h1, h2⟩ := hv
      exact ⟨b, by rw [gb id (hne id o ho)]; exact h1, h2⟩
    | row id n =>
      obtain ⟨o, ho⟩ := liveB_at hs
      show g'.sv id n = some v
      rw [gs id n (hne id o ho)]
      exact hv
    | rptr id n size k c =>
      obtain ⟨o, ho⟩ := liveB_at hs
      obtain ⟨b, cap, h1, h2⟩ := hv
      exact ⟨b, cap, by rw [gs id n (hne id o ho)]; exact h1, h2⟩
    | mp id =>
      obtain ⟨o, ho⟩ := liveB_at hs
      obtain ⟨b, h1, h2⟩ := hv
      exact ⟨b, by rw [gb id (hne id o ho)]; exact h1, h2⟩
  refine ⟨g', h.kp, h.m0, h.n, h.df, fun t => ?_, fun id o h1 => ?_, fun id id' o o' b h1 h2 h3 h4 => ?_, fun id o b h1 h2 => ?_, fun id h1 => ⟨if_pos h1, fun n => if_pos h1⟩, fun id e size es h1 k hk => (gs id k (hne id _ h1)).trans (h.top id e size es (hlive id _ h1).1 k hk)⟩
  · rcases hF t with h1 | ⟨h1, h2⟩
    · rw [h1]; trivial
    · refine hS _ _ h2 ?_
      rw [h1]; exact h.fr t
  · obtain ⟨h2, h3⟩ := hlive id o h1
    have h4 := h.ob id o h2
    cases o with
    | box an t cs =>
      obtain ⟨b, l, q1, q0, q2, q3, q4⟩ := h4
      refine ⟨b, l, by rw [gb id (hne id _ h1)]; exact q1, q0, q2, q3, fun j s hs => ?_⟩
      obtain ⟨x, r1, r2, r3⟩ := q4 j s hs
      exact ⟨x, r1, hS _ _ ((List.all_eq_true.1 h3) s (List.mem_of_getElem? hs)) r2, r3⟩
    | row e size es =>
      obtain ⟨v, xs, q1, q2, q3, q4, q5⟩ := h4
      refine ⟨v, xs, by rw [gs id _ (hne id _ h1)]; exact q1, q2, q3, q4, fun k c el u hk hc => ?_⟩
      obtain ⟨x, r1, r2, r3⟩ := q5 k c el u hk hc
      exact ⟨x, r1, u.keep he r2, r3⟩
    | opq an R =>
      obtain ⟨b, o, q1, q0, q2, q3⟩ := h4
      exact ⟨b, o, by rw [gb id (hne id _ h1)]; exact q1, q0, q2, q3⟩
    | rowA v e size es =>
      obtain ⟨xs, q1, q2, q3, q4, q5⟩ := h4
      refine ⟨xs, by rw [gs id _ (hne id _ h1)]; exact q1, q2, q3, q4, fun k c el u hk hc => ?_⟩
      obtain ⟨x, r1, r2, r3⟩ := q5 k c el u hk hc
      exact ⟨x, r1, u.keep he r2, r3⟩
  · rw [hobk id o o h1] at h3
    rw [hobk id' o' o' h2] at h4
    exact h.sep id id' o o' b (hlive id o h1).1 (hlive id' o' h2).1 h3 h4
  · rw [hobk id o o h1] at h2
    exact h.mine id o b (hlive id o h1).1 h2

theorem awp_less {c : Code} (lf : List (Nat × Slot)) (lo : List (Nat × AObj)) (hf : subF f lf) (ho : subO own lo) (hok : okL lf lo = true) (h : AWP P X c Q (frs lf) (ows lo)) : AWP P X c Q f own := by
  intro g a w hr
  obtain ⟨g', hr'⟩ := hr.less lf lo hf ho hok
  exact h g' a w hr'
/-- ways meet -/
theorem awp_join {x y : Code} (lf : List (Nat × Slot)) (lo : List (Nat × AObj)) (hx : AWP P X x (fun e f own => match e with | .normal => subF f lf ∧ subO own lo | e => Q e f own) f own) (hok : okL lf lo = true) (hy : AWP P X y Q (frs lf) (ows lo)) : AWP P X (.seq x y) Q f own := by
  intro g a w hr
  refine wp_seq (wp_mono (hx g a w hr) ?_)
  rintro e a' w' ⟨f', own', g', h1, h2⟩
  cases e with
  | normal =>
    obtain ⟨g'', h3⟩ := h1.less lf lo h2.1 h2.2 hok
    exact hy g'' a' w' h3
  | exit id => exact ⟨f', own', g', h1, h2⟩
  | goto l => exact ⟨f', own', g', h1, h2⟩
  | ret => exact ⟨f', own', g', h1, h2⟩
  | panic ch => exact ⟨f', own', g', h1, h2⟩
  | outgrown => exact ⟨f', own', g', h1, h2⟩

/-- a loop: the states at its head are (F i, O i) -/
theorem awp_loop {ι : Type} {c : Code} (F : ι → List (Nat × Slot)) (O : ι → List (Nat × AObj)) (I : ι → Prop) (μ : ι → Nat) (i0 : ι) (h0 : I i0) (hf : subF f (F i0)) (ho : subO own (O i0)) (hok : ∀ i, okL (F i) (O i) = true)
    (round : ∀ i, I i → AWP P X c (fun e f own => match e with | .normal => ∃ j, I j ∧ μ j < μ i ∧ subF f (F j) ∧ subO own (O j) | e => Q e f own) (frs (F i)) (ows (O i))) : AWP P X (.loop c) Q f own := by
  intro g a w hr
  have key : ∀ n i g a w, μ i < n → I i → Rel X (frs (F i)) (ows (O i)) g a w → Code.rounds P c (fun e a' w' => ∃ f' own' g', Rel X f' own' g' a' w' ∧ Q e f' own') n a w := by
    intro n
    induction n with
    | zero => intro i g a w h; omega
    | succ n ih =>
      intro i g a w hn hi hr
      rw [rounds_succ]
      refine wp_mono (round i hi g a w hr) ?_
      rintro e a' w' ⟨f', own', g', h1, h2⟩
      cases e with
      | normal =>
        obtain ⟨j, hj, hlt, hsf, hso⟩ := h2
        obtain ⟨g'', hr''⟩ := h1.less (F j) (O j) hsf hso (hok j)
        exact ih j g'' a' w' (by omega) hj hr''
      | exit id => exact ⟨f', own', g', h1, h2⟩
      | goto l => exact ⟨f', own', g', h1, h2⟩
      | ret => exact ⟨f', own', g', h1, h2⟩
      | panic ch => exact ⟨f', own', g', h1, h2⟩
      | outgrown => exact ⟨f', own', g', h1, h2⟩
  obtain ⟨g', hr'⟩ := hr.less (F i0) (O i0) hf ho (hok i0)
  exact wp_loop_rounds (μ i0 + 1) (key _ i0 g' a w (by omega) h0 hr')
end code

/-- a function of data: it turns nothing that was there -/
def Pure (P : Program) (fn : Nat) (args : List V) (res : V) : Prop :=
  ∀ (M : Blks) (w : World) (vs : Array Value), (∀ b, M b → b < w.heap.size) → Ts w M args vs.toList →
    Calls P fn vs w fun e w' => ∃ v, e = .returned v ∧ res.p w' M v ∧ Kp [] w w'

/-- what a slot reads as once the own objects are given away -/
def SlotV (own : Own) (s : Slot) (u : V) : Prop := match s with
  | .dat v => v = u ∨ (v = vval (.slice none 0 0) ∧ u = vlst [])
  | .row id n => ∃ e size es, own id = some (some (.row e size es)) ∧ n = es.length ∧ u = vlst es
  | _ => False

theorem own_out {X : Ctx} {f : Nat → Slot} {own : Own} {g : Gh} {a : Act} {w : World} (h : Rel X f own g a w) (M1 : Blks) (he : Ext (Mof X g own) M1 w w)
    (hM1 : ∀ id e size es b, own id = some (some (.row e size es)) → obk g id (.row e size es) = some b → ¬ M1 b) {s : Slot} {u : V} {v : Value} (hs : SlotV own s u) (hv : RepS g w (Mof X g own) s v) : u.p w M1 v := by
  cases s with
  | any => cases hs
  | dat v' =>
    rcases hs with rfl | ⟨rfl, rfl⟩
    · exact v'.keep he hv
    · exact ⟨none, 0, hv, Nat.le_refl _, fun h => absurd rfl h⟩
  | ptr id off => cases hs
  | rptr id n size k c => cases hs
  | mp id => cases hs
  | row id n =>
    obtain ⟨e, size, es, h1, rfl, rfl⟩ := hs
    have h2 := h.ob id _ h1
    obtain ⟨v', xs, q1, q2, q3, q4, q5⟩ := h2
    have hv' : g.sv id es.length = some v := hv
    rw [hv'] at q1
    cases q1
    rcases q2.2 with ⟨rfl, hn⟩ | ⟨b, cap, cur, rfl, _, hb, hnc, _, hcs, htk⟩
    · have : es = [] := List.eq_nil_of_length_eq_zero hn
      subst this
      exact ⟨none, 0, rfl, Nat.le_refl _, fun h => absurd rfl h⟩
    · refine ⟨_, cap, rfl, hnc, fun _ => ⟨b, 0, size, rfl, hM1 id e size es b h1 (by simp only [obk]; rw [hv']; rfl), cur, e, (0, 0), hb, q4, fun k c el u hk hc => ?_⟩⟩
      obtain ⟨x, r1, r2, r3⟩ := q5 k c el u hk hc
      refine ⟨x, ?_, u.keep he r2, r3⟩
      rw [← htk, List.getElem?_take] at r1
      split at r1
      · rw [Nat.zero_add]; simpa using r1
      · cases r1

/-- a type: is it a row or a struct, and its size -/
def tyS (P : Program) (t : TypeId) : Option (Bool × Nat) := (P.info? t).bind fun i => (P.underlying t).map fun d => (d.isRow, i.size)
theorem tyS_at {P : Program} {t : TypeId} {b : Bool} {n : Nat} (h : tyS P t = some (b, n)) : ∃ d i, P.underlying t = some d ∧ d.isRow = b ∧ P.info? t = some i ∧ i.size = n := by
  unfold tyS at h
  cases hi : P.info? t with
  | none => rw [hi] at h; cases h
  | some i =>
    rw [hi] at h
    cases hd : P.underlying t with
    | none => rw [hd] at h; cases h
    | some d =>
      rw [hd] at h
      simp at h
      exact ⟨d, i, rfl, h.1, rfl, h.2⟩
def resF (tmps : Array Value) : ResultVar → Sem Value
  | .tmp t => pure (tmps.getD t undef)
  | .cell a t => do loadVar t (← asAddr (tmps.getD a undef))
theorem results_eq (fn : Func) (tmps : Array Value) : results fn tmps = (do let vs ← fn.results.mapM (resF tmps); pure (if h : vs.size = 1 then vs[0] else .tuple vs)) := by
  rfl

/-- the values of the results -/
def ResVs (P : Program) (f : Nat → Slot) (own : Own) : List ResultVar → List V → Prop
  | [], [] => True
  | .tmp t :: rs, u :: us => SlotV own (f t) u ∧ ResVs P f own rs us
  | .cell t ty :: rs, u :: us => (∃ id an cs ws, f t = .ptr id 0 ∧ own id = some (some (.box an ty cs)) ∧ cs = List.map Slot.dat ws ∧ u = vagg ws ∧ tyS P ty = some (true, ws.length)) ∧ ResVs P f own rs us
  | _, _ => False
def resOf : List V → V
  | [u] => u
  | us => vtup us
theorem run_results {P : Program} {X : Ctx} {f : Nat → Slot} {own : Own} {g : Gh} {a : Act} {w : World} (h : Rel X f own g a w) (M1 : Blks) (he : Ext (Mof X g own) M1 w w)
    (hM1 : ∀ id e size es b, own id = some (some (.row e size es)) → obk g id (.row e size es) = some b → ¬ M1 b) :
    ∀ (rs : List ResultVar) (us : List V), ResVs P f own rs us → ∃ l : List Value,
      (rs.mapM (resF a.tmps)).run P w = .ok l w ∧ Ts w M1 us l := by
  intro rs
  induction rs with
  | nil =>
    intro us hu
    cases us with
    | nil => exact ⟨[], by simp, rfl, fun j u hj => by simp at hj⟩
    | cons u us => cases hu
  | cons r rs ih =>
    intro us hu
    cases us with
    | nil => cases r <;> cases hu
    | cons u us =>
      have hTs : ∀ (v : Value) (l : List Value), u.p w M1 v → Ts w M1 us l → Ts w M1 (u :: us) (v :: l) := fun v l hv hl =>
        ⟨by simp [hl.1], fun j u' hj => by
          cases j with
          | zero => simp at hj; subst hj; exact ⟨v, rfl, hv⟩
          | succ j => exact hl.2 j u' (by simpa using hj)⟩
      cases r with
      | tmp t =>
        obtain ⟨h1, h2⟩ := hu
        obtain ⟨l, q1, q2⟩ := ih us h2
        refine ⟨a.tmps.getD t undef :: l, ?_, hTs _ _ (own_out h M1 he hM1 h1 (h.fr t)) q2⟩
        simp only [List.mapM_cons, resF, Sem.run_bind, Sem.run_pure, Result.andThen_ok, q1]
      | cell t ty =>
        obtain ⟨⟨id, an, cs, ws, h1, h2, h3, h4, h6⟩, h5⟩ := hu
        obtain ⟨l, q1, q2⟩ := ih us h5
        obtain ⟨d, i, r1, r2, r3, r4⟩ := tyS_at h6
        have hfr := h.fr t
        rw [h1] at hfr
        obtain ⟨b, s1, s2⟩ := hfr
        obtain ⟨b', lv, o1, _, o2, o3, o4⟩ := h.ob id _ h2
        rw [s1] at o1
        cases o1
        have hrun := run_loadVar_mid (P := P) w b 0 ty lv d (fun j v hv => by rw [cell_of_row w b _ _ _ _ o2]; simpa using hv) r1 r2 (by rw [r3]; simp [o3, r4, h3])
        refine ⟨.agg lv.toArray :: l, ?_, hTs _ _ ?_ q2⟩
        · simp only [List.mapM_cons, resF, s2, asAddr, Sem.run_bind, Sem.run_pure, Result.andThen_ok, hrun, q1]
        · subst h4
          refine ⟨lv, rfl, by rw [o3, h3]; simp, fun j u' hj => ?_⟩
          obtain ⟨x, p1, p2, p3⟩ := o4 j (.dat u') (by rw [h3]; simp [hj])
          exact ⟨x, p1, u'.keep he p2, p3⟩

theorem run_res {P : Program} {X : Ctx} {f : Nat → Slot} {own : Own} {g : Gh} {a : Act} {w : World} (h : Rel X f own g a w) (M1 : Blks) (he : Ext (Mof X g own) M1 w w)
    (hM1 : ∀ id e size es b, own id = some (some (.row e size es)) → obk g id (.row e size es) = some b → ¬ M1 b) (fc : Func) (us : List V) (hres : ResVs P f own fc.results.toList us) : ∃ v, (results fc a.tmps).run P w = .ok v w ∧ (resOf us).p w M1 v := by
  obtain ⟨l, q1, q2⟩ := run_results (P := P) h M1 he hM1 fc.results.toList us hres
  have hm : (fc.results.mapM (resF a.tmps)).run P w = .ok l.toArray w := by
    rw [Array.mapM_eq_mapM_toList]
    simp [q1]
  rw [results_eq]
  have hl : l.length = us.length := q2.1
  cases hus : us with
  | nil =>
    subst hus
    have : l = [] := List.eq_nil_of_length_eq_zero hl
    subst this
    exact ⟨.tuple #[], by simp [hm], [], rfl, q2⟩
  | cons u us' =>
    cases us' with
    | nil =>
      subst hus
      obtain ⟨x, hx⟩ : ∃ x, l = [x] := List.length_eq_one_iff.1 hl
      subst hx
      refine ⟨x, by simp [hm], ?_⟩
      obtain ⟨y, h1, h2⟩ := q2.2 0 u rfl
      simp at h1
      subst h1
      exact h2
    | cons u2 us2 =>
      subst hus
      refine ⟨.tuple l.toArray, ?_, l, rfl, q2⟩
      have : ¬ l.length = 1 := by simp at hl; omega
      simp [hm, this]

theorem pure_of {P : Program} {fn : Nat} {fc : Func} {c : Code} {args : List V} {us : List V} {N : Nat} {rs : List ResultVar} (hf : P.funcs[fn]? = some fc) (hb : fc.body = some c) (hnt : fc.ntmps = N) (hrs : fc.results.toList = rs) (hn : Nat.ble args.length N = true)
    (h : ∀ X : Ctx, X.N = N → AWP P X c (fun e f own => (match e with | .ret => True | .normal => True | _ => False) ∧ ResVs P f own rs us) (fun t => (args.map Slot.dat).getD t .any) (fun _ => none)) :
    Pure P fn args (resOf us) := by
  subst hnt hrs
  have hn := Nat.le_of_ble_eq_true hn
  intro M w vs hM hvs
  have hvl : vs.size = args.length := by simpa using hvs.1
  refine calls_of_wp hf hb (wp_mono (h ⟨M, w, [], fc.ntmps⟩ rfl ⟨fun _ => none, fun _ _ => none⟩ _ w ?_) ?_)
  · refine ⟨Kp.refl _ _, fun b hb => ⟨hM b hb, by simp⟩, by simp; omega, rfl, fun t => ?_, fun id o ho => (by cases ho), fun id _ o _ b ho => (by cases ho), fun id o b ho => (by cases ho), fun id _ => ⟨rfl, fun _ => rfl⟩, fun id e size es h => (by cases h)⟩
    cases hs : args[t]? with
    | none =>
      have : (args.map Slot.dat).getD t .any = .any := by rw [List.getD_eq_getElem?_getD, List.getElem?_map, hs]; rfl
      rw [this]; trivial
    | some u =>
      have e1 : (args.map Slot.dat).getD t .any = .dat u := by rw [List.getD_eq_getElem?_getD, List.getElem?_map, hs]; rfl
      rw [e1]
      obtain ⟨x, hx, hp⟩ := hvs.2 t u hs
      have hx' : vs[t]? = some x := by simpa using hx
      have hlt : t < vs.size := (Array.getElem?_eq_some_iff.1 hx').1
      show u.p w _ _
      rw [Array.getD_eq_getD_getElem?, Array.getElem?_append_left hlt, hx']
      exact u.keep (M := M) ⟨Nat.le_refl _, fun _ _ _ => rfl, fun b _ hb => by
        rcases hb with hb | ⟨id, o, ho, _⟩
        · exact hb
        · cases ho⟩ hp
  · rintro e a' w' ⟨f', own', g', hr, he, hres⟩
    obtain ⟨v, hv1, hv2⟩ := run_res (P := P) hr M ⟨Nat.le_refl _, fun _ _ _ => rfl, fun b _ hb => .inl hb⟩ (fun id e size es b h1 h2 hM' => by
      have h5 := hr.m0 b hM'
      rcases hr.mine id _ b h1 h2 with h6 | h6
      · exact h5.2 h6
      · have := h5.1
        omega) fc us hres
    have hfin : a'.defers = [] ∧ ∃ v, (results fc a'.tmps).run P w' = .ok v w' ∧ ∃ v_1, Ending.returned v = .returned v_1 ∧ (resOf us).p w' M v_1 ∧ Kp [] w w' := ⟨hr.df, v, hv1, v, rfl, hv2, hr.kp⟩
    cases e with
    | normal => exact hfin
    | ret => exact hfin
    | exit _ => exact he.elim
    | goto _ => exact he.elim
    | panic _ => exact he.elim
    | outgrown => exact he.elim
end Go.Proofs.Ytmcegaabopcmfaa
