/- The abstract machine: functions that take own objects and give some; memory without a frame, names of objects on both sides of a call. -/
import Derived.Test.YtmcegaabopcmfaaAuto
namespace Go.Proofs.Ytmcegaabopcmfaa
open Go.RowKit
set_option linter.unusedVariables false

structure Mem (X : Ctx) (own : Own) (g : Gh) (w : World) : Prop where
  kp : Kp X.S0 X.w0 w
  m0 : ∀ b, X.M0 b → b < X.w0.heap.size ∧ b ∉ X.S0
  ob : ∀ id o, own id = some (some o) → RepO g w (Mof X g own) id o
  sep : ∀ id id' o o' b, own id = some (some o) → own id' = some (some o') → obk g id o = some b → obk g id' o' = some b → id = id'
  mine : ∀ id o b, own id = some (some o) → obk g id o = some b → b ∈ X.S0 ∨ X.w0.heap.size ≤ b
  fresh : ∀ id, own id = none → g.bl id = none ∧ ∀ n, g.sv id n = none
  top : ∀ id e size es, own id = some (some (.row e size es)) → ∀ k, es.length < k → g.sv id k = none

structure An where
  bl : Nat → Nat
  vl : Nat → Value
/-- an object that stays where it is -/
def anO (A : An) (i : Nat) : AObj → AObj
  | .box (some _) t cs => .box (some (A.bl i)) t cs
  | .opq (some _) R => .opq (some (A.bl i)) R
  | .rowA _ e size es => .rowA (A.vl i) e size es
  | o => o
def anL (A : An) : List (Nat × AObj) → List (Nat × AObj)
  | [] => []
  | (i, o) :: l => (i, anO A i o) :: anL A l
theorem anL_map (A : An) (l : List (Nat × AObj)) : anL A l = l.map fun p => (p.1, anO A p.1 p.2) := by
  induction l with
  | nil => rfl
  | cons p l ih => obtain ⟨i, o⟩ := p; simp only [anL, ih, List.map_cons]

/-- what a function does with data and own objects -/
def FnG (P : Program) (fn : Nat) (args : List Slot) (pre : List (Nat × AObj)) (res : Slot) (post : List (Nat × AObj)) : Prop :=
  callOK P fn = true ∧ ∀ (X : Ctx) (A : An) (g : Gh) (w : World) (vs : Array Value), X.w0 = w → Mem X (ows (anL A pre)) g w → vs.size = args.length →
    (∀ (j : Nat) (s : Slot), args[j]? = some s → ∃ v, vs[j]? = some v ∧ RepS g w (Mof X g (ows (anL A pre))) s v) →
    Calls P fn vs w fun e w' => ∃ v g', e = .returned v ∧ Mem X (ows (anL A post)) g' w' ∧ RepS g' w' (Mof X g' (ows (anL A post))) res v

def ResD (P : Program) (f : Nat → Slot) (own : Own) : List ResultVar → List V → Prop
  | [], [] => True
  | .tmp t :: rs, u :: us => f t = .dat u ∧ ResD P f own rs us
  | .cell t ty :: rs, u :: us => (∃ id an cs ws, f t = .ptr id 0 ∧ own id = some (some (.box an ty cs)) ∧ cs = List.map Slot.dat ws ∧ u = vagg ws ∧ tyS P ty = some (true, ws.length)) ∧ ResD P f own rs us
  | _, _ => False
def ResG (P : Program) (f : Nat → Slot) (own : Own) (rs : List ResultVar) (res : Slot) : Prop :=
  (∃ us, ResD P f own rs us ∧ res = .dat (resOf us)) ∨ ∃ t, rs = [.tmp t] ∧ f t = res

theorem run_resD {P : Program} {X : Ctx} {f : Nat → Slot} {own : Own} {g : Gh} {a : Act} {w : World} (h : Rel X f own g a w) :
    ∀ (rs : List ResultVar) (us : List V), ResD P f own rs us → ∃ l : List Value,
      (rs.mapM (resF a.tmps)).run P w = .ok l w ∧ Ts w (Mof X g own) us l := by
  intro rs
  induction rs with
  | nil =>
    intro us hu
    cases us with
    | nil => exact ⟨[], by simp, rfl, fun j u hj => by simp at hj⟩
    | cons u us => cases hu
  | cons r rs ih =>
    intro us hu
    cases us with
    | nil => cases r <;> cases hu
    | cons u us =>
      have hTs : ∀ (v : Value) (l : List Value), u.p w (Mof X g own) v → Ts w (Mof X g own) us l → Ts w (Mof X g own) (u :: us) (v :: l) := fun v l hv hl =>
        ⟨by simp [hl.1], fun j u' hj => by
          cases j with
          | zero => simp at hj; subst hj; exact ⟨v, rfl, hv⟩
          | succ j => exact hl.2 j u' (by simpa using hj)⟩
      cases r with
      | tmp t =>
        obtain ⟨h1, h2⟩ := hu
        obtain ⟨l, q1, q2⟩ := ih us h2
        have hfr := h.fr t
        rw [h1] at hfr
        refine ⟨a.tmps.getD t undef :: l, ?_, hTs _ _ hfr q2⟩
        simp only [List.mapM_cons, resF, Sem.run_bind, Sem.run_pure, Result.andThen_ok, q1]
      | cell t ty =>
        obtain ⟨⟨id, an, cs, ws, h1, h2, h3, h4, h6⟩, h5⟩ := hu
        obtain ⟨l, q1, q2⟩ := ih us h5
        obtain ⟨d, i, r1, r2, r3, r4⟩ := tyS_at h6
        have hfr := h.fr t
        rw [h1] at hfr
        obtain ⟨b, s1, s2⟩ := hfr
        obtain ⟨b', lv, o1, _, o2, o3, o4⟩ := h.ob id _ h2
        rw [s1] at o1
        cases o1
        have hrun := run_loadVar_mid (P := P) w b 0 ty lv d (fun j v hv => by rw [cell_of_row w b _ _ _ _ o2]; simpa using hv) r1 r2 (by rw [r3]; simp [o3, r4, h3])
        refine ⟨.agg lv.toArray :: l, ?_, hTs _ _ ?_ q2⟩
        · simp only [List.mapM_cons, resF, s2, asAddr, Sem.run_bind, Sem.run_pure, Result.andThen_ok, hrun, q1]
        · subst h4
          refine ⟨lv, rfl, by rw [o3, h3]; simp, fun j u' hj => ?_⟩
          obtain ⟨x, p1, p2, p3⟩ := o4 j (.dat u') (by rw [h3]; simp [hj])
          exact ⟨x, p1, p2, p3⟩
theorem run_resG {P : Program} {X : Ctx} {f : Nat → Slot} {own : Own} {g : Gh} {a : Act} {w : World} (h : Rel X f own g a w) (fc : Func) (res : Slot) (hres : ResG P f own fc.results.toList res) : ∃ v, (results fc a.tmps).run P w = .ok v w ∧ RepS g w (Mof X g own) res v := by
  rcases hres with ⟨us, hus, rfl⟩ | ⟨t, h1, rfl⟩
  · obtain ⟨l, q1, q2⟩ := run_resD (P := P) h fc.results.toList us hus
    have hm : (fc.results.mapM (resF a.tmps)).run P w = .ok l.toArray w := by
      rw [Array.mapM_eq_mapM_toList]
      simp [q1]
    rw [results_eq]
    have hl : l.length = us.length := q2.1
    cases hus : us with
    | nil =>
      subst hus
      have : l = [] := List.eq_nil_of_length_eq_zero hl
      subst this
      exact ⟨.tuple #[], by simp [hm], [], rfl, q2⟩
    | cons u us' =>
      cases us' with
      | nil =>
        subst hus
        obtain ⟨x, hx⟩ : ∃ x, l = [x] := List.length_eq_one_iff.1 hl
        subst hx
        refine ⟨x, by simp [hm], ?_⟩
        obtain ⟨y, h1, h2⟩ := q2.2 0 u rfl
        simp at h1
        subst h1
        exact h2
      | cons u2 us2 =>
        subst hus
        refine ⟨.tuple l.toArray, ?_, l, rfl, q2⟩
        have : ¬ l.length = 1 := by simp at hl; omega
        simp [hm, this]
  · have hm : (fc.results.mapM (resF a.tmps)).run P w = .ok #[a.tmps.getD t undef] w := by
      rw [Array.mapM_eq_mapM_toList, h1]
      simp [resF]
    rw [results_eq]
    exact ⟨a.tmps.getD t undef, by simp [hm], h.fr t⟩

theorem fnG_of {P : Program} {fn : Nat} {fc : Func} {c : Code} {args : List Slot} {pre post : List (Nat × AObj)} {res : Slot} {N : Nat} {rs : List ResultVar} (hok : callOK P fn = true) (hf : P.funcs[fn]? = some fc) (hb : fc.body = some c) (hnt : fc.ntmps = N) (hrs : fc.results.toList = rs) (hn : Nat.ble args.length N = true)
    (h : ∀ (X : Ctx) (A : An), X.N = N → AWP P X c (fun e f own => (match e with | .ret => True | .normal => True | _ => False) ∧ ∃ lf, subF f lf ∧ subO own (anL A post) ∧ okL lf (anL A post) = true ∧ ResG P (frs lf) (ows (anL A post)) rs res) (fun t => args.getD t .any) (ows (anL A pre))) :
    FnG P fn args pre res post := by
  subst hnt hrs
  have hn := Nat.le_of_ble_eq_true hn
  refine ⟨hok, fun X0 A g w vs hw hm hvl hvs => ?_⟩
  obtain ⟨M0, w0, S0, N0⟩ := X0
  simp only at hw
  subst hw
  refine calls_of_wp hf hb (wp_mono (h ⟨M0, w0, S0, fc.ntmps⟩ A rfl g _ w0 ?_) ?_)
  · refine ⟨hm.kp, hm.m0, by simp; omega, rfl, fun t => ?_, hm.ob, hm.sep, hm.mine, hm.fresh, hm.top⟩
    cases hs : args[t]? with
    | none =>
      have : args.getD t .any = .any := by rw [List.getD_eq_getElem?_getD, hs]; rfl
      rw [this]; trivial
    | some u =>
      have e1 : args.getD t .any = u := by rw [List.getD_eq_getElem?_getD, hs]; rfl
      rw [e1]
      obtain ⟨x, hx', hp⟩ := hvs t u hs
      have hlt : t < vs.size := (Array.getElem?_eq_some_iff.1 hx').1
      have e2 : (vs ++ Array.replicate (fc.ntmps - vs.size) undef).getD t undef = x := by
        rw [Array.getD_eq_getD_getElem?, Array.getElem?_append_left hlt, hx']; rfl
      show RepS g w0 _ u ((vs ++ Array.replicate (fc.ntmps - vs.size) undef).getD t undef)
      rw [e2]
      exact hp
  · rintro e a' w' ⟨f', own', g', hr, he, lf, hs1, hs2, hok2, hres⟩
    obtain ⟨g'', hr2⟩ := hr.less lf (anL A post) hs1 hs2 hok2
    obtain ⟨v, hv1, hv2⟩ := run_resG (P := P) hr2 fc res hres
    have hfin : a'.defers = [] ∧ ∃ v, (results fc a'.tmps).run P w' = .ok v w' ∧ ∃ v_1 g', Ending.returned v = .returned v_1 ∧ Mem ⟨M0, w0, S0, N0⟩ (ows (anL A post)) g' w' ∧ RepS g' w' (Mof ⟨M0, w0, S0, N0⟩ g' (ows (anL A post))) res v_1 :=
      ⟨hr2.df, v, hv1, v, g'', rfl, ⟨hr2.kp, hr2.m0, hr2.ob, hr2.sep, hr2.mine, hr2.fresh, hr2.top⟩, hv2⟩
    cases e with
    | normal => exact hfin
    | ret => exact hfin
    | exit _ => exact he.elim
    | goto _ => exact he.elim
    | panic _ => exact he.elim
    | outgrown => exact he.elim
end Go.Proofs.Ytmcegaabopcmfaa
