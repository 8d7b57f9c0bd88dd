/- The abstract machine: operations that turn an own object; rows; calls of functions of data. -/
import Derived.Test.YtmcegaabopcmfaaAbsM
namespace Go.Proofs.Ytmcegaabopcmfaa
open Go.RowKit
set_option linter.unusedVariables false

abbrev vnil : V := vval (.slice none 0 0)

section
variable {P : Program} {f : Nat → Slot} {dst : Option Tmp} {ty : TypeId} {pos : String} {af : Array Edge} {gd : Option (Nat × Bool)}

theorem upl_self {own : Own} {id : Nat} {q : Option (Option AObj)} : upl own [(id, q)] id = q := by
  have : Nat.beq id id = true := by simp
  simp only [upl, this, cond_true]
theorem upl_ne {own : Own} {id i : Nat} {q : Option (Option AObj)} (h : i ≠ id) : upl own [(id, q)] i = own i := by
  simp only [upl, beq_false_of h, cond_false]

/-- an own object turns, or comes into being; its block may be a new one -/
theorem rel_upd {X : Ctx} {f' : Nat → Slot} {own : Own} {g g' : Gh} {a : Act} {w w' : World} {id : Nat} {ob' : AObj} (hr : Rel X f' own g a w) (hg : g.le g')
    (hoth : ∀ i, i ≠ id → g'.bl i = g.bl i ∧ ∀ n, g'.sv i n = g.sv i n) (hkp : Kp [] w w' ∨ ∃ ob b, own id = some (some ob) ∧ obk g id ob = some b ∧ Kp [b] w w')
    (hbk : ∀ b, obk g' id ob' = some b → w.heap.size ≤ b ∨ ∃ ob, own id = some (some ob) ∧ obk g id ob = some b) (htop : ∀ e size es, ob' = .row e size es → ∀ k, es.length < k → g'.sv id k = none)
    (hob : ∀ M', Ext (Mof X g own) M' w w' → (∀ b, w.heap.size ≤ b → M' b → obk g' id ob' = some b) → RepO g' w' M' id ob') :
    Rel X f' (upl own [(id, some (some ob'))]) g' a w' ∧ Ext (Mof X g own) (Mof X g' (upl own [(id, some (some ob'))])) w w' := by
  have hblk : ∀ i o b, i ≠ id → own i = some (some o) → obk g i o = some b → w'.heap[b]? = w.heap[b]? := by
    intro i o b hi ho hb
    have hlt := (hr.ob i o ho).blk_lt hb
    rcases hkp with hk | ⟨ob, b', h1, h2, hk⟩
    · exact hk.block b hlt (by simp)
    · refine hk.block b hlt ?_
      intro hm
      have : b = b' := by simpa using hm
      subst this
      exact hi (hr.sep i id o ob b ho h1 hb h2)
  have hsz : w.heap.size ≤ w'.heap.size := by rcases hkp with hk | ⟨_, _, _, _, hk⟩ <;> exact hk.size
  have he : Ext (Mof X g own) (Mof X g' (upl own [(id, some (some ob'))])) w w' := by
    refine ⟨hsz, fun b hb hM => ?_, fun b hb hM => ?_⟩
    · rcases hkp with hk | ⟨ob, b', h1, h2, hk⟩
      · exact hk.block b hb (by simp)
      · refine hk.block b hb ?_
        intro hm
        have : b = b' := by simpa using hm
        subst this
        exact hM (.inr ⟨id, ob, h1, h2⟩)
    · rcases hM with hM | ⟨i, o, h1, h2⟩
      · exact .inl hM
      · by_cases hi : i = id
        · subst hi
          rw [upl_self] at h1
          cases h1
          rcases hbk b h2 with h3 | ⟨ob, h3, h4⟩
          · omega
          · exact .inr ⟨i, ob, h3, h4⟩
        · rw [upl_ne hi] at h1
          rw [(hr.ob i o h1).obk_eq hg] at h2
          exact .inr ⟨i, o, h1, h2⟩
  refine hr.step hg (hkp.imp (fun h => h) fun ⟨ob, b, h1, h2, h3⟩ => ⟨id, ob, b, h1, h2, h3⟩) (fun i o h1 => ?_) (fun i hi => ?_) (fun i e size es h1 => ?_) (fun i i' o1 o2 b h4 h5 h6 h7 hs => ?_)
  · by_cases hi : i = id
    · subst hi
      rw [upl_self] at h1
      cases h1
      refine .inr ⟨hob _ he (fun b hb hM => ?_), hbk⟩
      rcases hM with hM | ⟨i', o', h2, h3⟩
      · have := (hr.m0 b hM).1
        have := hr.kp.size
        omega
      · by_cases hi' : i' = i
        · subst hi'
          rw [upl_self] at h2
          cases h2
          exact h3
        · rw [upl_ne hi'] at h2
          rw [(hr.ob i' o' h2).obk_eq hg] at h3
          have := (hr.ob i' o' h2).blk_lt h3
          omega
    · rw [upl_ne hi] at h1
      exact .inl ⟨h1, fun b hb => hblk i o b hi h1 hb⟩
  · by_cases hid : i = id
    · subst hid; rw [upl_self] at hi; cases hi
    · rw [upl_ne hid] at hi
      obtain ⟨q1, q2⟩ := hoth i hid
      obtain ⟨r1, r2⟩ := hr.fresh i hi
      exact ⟨q1.trans r1, fun n => (q2 n).trans (r2 n)⟩
  · by_cases hid : i = id
    · subst hid; rw [upl_self] at h1; cases h1; exact htop e size es rfl
    · rw [upl_ne hid] at h1
      exact fun k hk => ((hoth i hid).2 k).trans (hr.top i e size es h1 k hk)
  · have key : ∀ i o1, upl own [(id, some (some ob'))] i = some (some o1) → obk g' i o1 = some b → i = id := by
      intro i o1 h4 h6
      by_cases hi : i = id
      · exact hi
      · rw [upl_ne hi] at h4
        rw [(hr.ob i o1 h4).obk_eq hg] at h6
        have := (hr.ob i o1 h4).blk_lt h6
        omega
    rw [key i o1 h4 h6, key i' o2 h5 h7]

/-- a store into a box: some cells turn -/
theorem stp_boxwr {o : Oper} {id : Nat} {an : Option Nat} {bt : TypeId} {cs cs' : List Slot} (hl : cs'.length = cs.length)
    (h : ∀ (X : Ctx) (own : Own) (g : Gh) (a : Act) (w : World), (∀ x, x ∈ o.op.operands → RepS g w (Mof X g own) (evS f x) (a.eval x)) → ∀ (b : Nat) (l : List Value), g.bl id = some b → w.heap[b]? = some (.cells l.toArray bt (0, 0)) → l.length = cs.length →
      ∃ (w' : World) (l' : List Value), (execOp a.eval o).run P w = .ok .skip w' ∧ Kp [b] w w' ∧ w'.heap[b]? = some (.cells l'.toArray bt (0, 0)) ∧ l'.length = cs.length ∧
        ∀ (j : Nat) (s : Slot), cs'[j]? = some s → (cs[j]? = some s ∧ l'[j]? = l[j]?) ∨ ∃ x, l'[j]? = some x ∧ RepS g w (Mof X g own) s x ∧ x.oneCell' = true) :
    Stp P o f ⟨false, [(id, some (some (.box an bt cs)))], [(id, some (some (.box an bt cs')))], .any⟩ := by
  intro X f' own g a w Q hr hd hx hrd K hK
  have ho : own id = some (some (.box an bt cs)) := hrd (id, some (some (.box an bt cs))) (by simp)
  obtain ⟨b, l, q1, q0, q2, q3, q4⟩ := hr.ob id _ ho
  obtain ⟨w', l', h1, h2, h3, h4, h5⟩ := h X own g a w (fun x hm => by rw [← hx x hm]; exact hr.ev x) b l q1 q2 q3
  unfold Oper.wp
  rw [h1]
  have hst := rel_upd (id := id) (ob' := .box an bt cs') (w' := w') hr (Gh.le_refl g) (fun i _ => ⟨rfl, fun _ => rfl⟩) (.inr ⟨_, b, ho, q1, h2⟩) (fun b' hb' => .inr ⟨_, ho, hb'⟩) (fun e size es h => by cases h) (fun M' he _ => ⟨b, l', q1, q0, h3, h4.trans hl.symm, fun j s hs => by
    rcases h5 j s hs with ⟨r1, r2⟩ | ⟨x, r1, r2, r3⟩
    · obtain ⟨x, s1, s2, s3⟩ := q4 j s r1
      exact ⟨x, r2.trans s1, s2.keep he (Gh.le_refl g), s3⟩
    · exact ⟨x, r1, r2.keep he (Gh.le_refl g), r3⟩⟩)
  exact hK g undef w' (hst.1.put o.dst .any undef hd trivial)

theorem sv_one {X : Ctx} {f' : Nat → Slot} {own : Own} {g : Gh} {a : Act} {w : World} (hr : Rel X f' own g a w) : True := trivial

theorem cells_one {v : Value} (h : v.oneCell' = true) : v.cells = #[v] := by
  cases v <;> first | rfl | (simp [Value.oneCell'] at h)

theorem run_store1 {t : TypeId} {b0 : Bool} (ht : tyS P t = some (b0, 1)) (w : World) (b off : Nat) (l : List Value) (bt : TypeId) (v : Value) (hb : w.heap[b]? = some (.cells l.toArray bt (0, 0))) (ho : off < l.length) (h1 : v.oneCell' = true) :
    (Instr.storeAt t (.pointer (some ⟨b, off, none⟩)) v).run P w = .ok () (w.setCell ⟨b, off, none⟩ v) := by
  obtain ⟨d, i, d1, d2, d3, d4⟩ := tyS_at ht
  have hc : w.cell? ⟨b, off, none⟩ = some l[off] := by rw [cell_of_row w b _ _ _ _ hb]; simp [ho]
  have hf : w.frozen? ⟨b, off, none⟩ = false := by simp [World.frozen?, hb]
  have hst : (store (⟨b, off, none⟩ : Addr) v).run P w = .ok () (w.setCell ⟨b, off, none⟩ v) := by
    cases v <;> first | (simp [Value.oneCell'] at h1; done) | simp [store, Sem.run, hc, hf]
  simp [Instr.storeAt, Instr.sureAddr, storeVar, sizeOf, typeInfo, d3, d4, cells_one h1, storeCells]
  exact hst

/-- a slot that holds one cell -/
theorem stp_store1 {t : TypeId} {b0 : Bool} {p x : Operand} {id off : Nat} {an : Option Nat} {bt : TypeId} {cs : List Slot} {v : V} (ht : tyS P t = some (b0, 1)) (hp : evS f p = .ptr id off) (hx : evS f x = .dat v) (h1 : v.one = true) (ho' : Nat.blt off cs.length = true) :
    Stp P ⟨dst, .store t p x, ty, pos, af, gd⟩ f ⟨false, [(id, some (some (.box an bt cs)))], [(id, some (some (.box an bt (cs.set off (.dat v)))))], .any⟩ := by
  have ho : off < cs.length := by simpa [Nat.blt_eq] using ho'
  refine stp_boxwr (by simp) fun X own g a w h b l q1 q2 q3 => ?_
  have h2 := h p (by simp [Op.operands])
  have h3 := h x (by simp [Op.operands])
  rw [hp] at h2
  rw [hx] at h3
  obtain ⟨b', r1, r2⟩ := h2
  rw [q1] at r1
  cases r1
  have h4 := v.hone h1 h3
  refine ⟨w.setCell ⟨b, off, none⟩ (a.eval x), l.set off (a.eval x), ?_, (Kp.refl [b] w).set_ (.inl (by simp)) _, ?_, by simp [q3], fun j s hs => ?_⟩
  · simp only [execOp, r2, Sem.run_bind, run_store1 ht w b off l bt _ q2 (by omega) h4, Result.andThen_ok, Sem.run_pure]
  · have := Blk.set_ (show Blk w b bt l.toArray from q2) off (a.eval x)
    unfold Blk at this
    simpa using this
  · rw [List.getElem?_set] at hs
    by_cases hj : off = j
    · subst hj
      rw [if_pos rfl, if_pos ho] at hs
      cases hs
      exact .inr ⟨a.eval x, by rw [List.getElem?_set_self (by omega)], h3, h4⟩
    · rw [if_neg hj] at hs
      exact .inl ⟨hs, by rw [List.getElem?_set_ne hj]⟩

/-- a whole box -/
theorem stp_storeW {t : TypeId} {n : Nat} {p x : Operand} {id : Nat} {an : Option Nat} {bt : TypeId} {cs : List Slot} {us : List V} (ht : tyS P t = some (true, n)) (hp : evS f p = .ptr id 0) (hx : evS f x = .dat (vagg us)) (hn : us.length = n) (hc : cs.length = n) :
    Stp P ⟨dst, .store t p x, ty, pos, af, gd⟩ f ⟨false, [(id, some (some (.box an bt cs)))], [(id, some (some (.box an bt (us.map .dat))))], .any⟩ := by
  refine stp_boxwr (by simp; omega) fun X own g a w h b l q1 q2 q3 => ?_
  have h2 := h p (by simp [Op.operands])
  have h3 := h x (by simp [Op.operands])
  rw [hp] at h2
  rw [hx] at h3
  obtain ⟨b', r1, r2⟩ := h2
  rw [q1] at r1
  cases r1
  obtain ⟨l', s1, s2⟩ := h3
  have hone : ∀ v ∈ l', v.oneCell' = true := fun v hv => by
    obtain ⟨j, hj, rfl⟩ := List.getElem_of_mem hv
    have : j < us.length := by have := s2.1; omega
    obtain ⟨x', t1, _, t3⟩ := s2.2 j us[j] (List.getElem?_eq_getElem this)
    rw [List.getElem?_eq_getElem hj] at t1
    cases t1
    exact t3
  obtain ⟨d, i, d1, d2, d3, d4⟩ := tyS_at ht
  have hrun := run_storeAt_mid (P := P) w b 0 t l'.toArray (fun j hj => by
    have hj' : j < l.length := by have := s2.1; simp at hj; omega
    refine ⟨?_, ?_⟩
    · rw [cell_of_row w b _ _ _ _ q2]; simp [hj']
    · simp [World.frozen?, q2]) (by rw [d3]; simp [d4, s2.1, hn]) (by simpa using hone)
  refine ⟨w.setCells b 0 l', l', by simp only [execOp, r2, s1, Sem.run_bind, hrun, Result.andThen_ok, Sem.run_pure], ?_, ?_, by rw [s2.1]; omega, fun j s hs => ?_⟩
  · have : Kp [b] w (w.setCells b 0 l') := by
      have key : ∀ (vs : List Value) (w1 : World) (o : Nat), Kp [b] w w1 → Kp [b] w (w1.setCells b o vs) := by
        intro vs
        induction vs with
        | nil => intro w1 o hk; rw [World.setCells]; exact hk
        | cons v vs ih => intro w1 o hk; rw [World.setCells]; exact ih _ _ (hk.set_ (.inl (by simp)) v)
      exact key l' w 0 (Kp.refl _ _)
    exact this
  · have key : ∀ (vs : List Value) (w1 : World) (o : Nat) (pre : List Value), pre.length = o → w1.heap[b]? = some (.cells (pre ++ l.drop o).toArray bt (0, 0)) → o + vs.length ≤ l.length → (w1.setCells b o vs).heap[b]? = some (.cells (pre ++ vs ++ l.drop (o + vs.length)).toArray bt (0, 0)) := by
      intro vs
      induction vs with
      | nil => intro w1 o pre hp hb _; rw [World.setCells]; simpa using hb
      | cons v vs ih =>
        intro w1 o pre hp hb hlen
        have hd : l.drop o = l[o]'(by simp at hlen; omega) :: l.drop (o + 1) := List.drop_eq_getElem_cons (by simp at hlen; omega)
        have h1 := Blk.set_ (show Blk w1 b bt _ from hb) o v
        unfold Blk at h1
        have h2 := ih (w1.setCell ⟨b, o, none⟩ v) (o + 1) (pre ++ [v]) (by simp [hp]) (by
          rw [h1, hd]
          congr 2
          simp only [List.setIfInBounds_toArray]
          congr 1
          rw [List.set_append_right _ _ (by omega), hp, Nat.sub_self, List.set_cons_zero]
          simp) (by simp at hlen ⊢; omega)
        rw [World.setCells]
        simpa [Nat.add_comm, Nat.add_left_comm, Nat.add_assoc] using h2
    have h1 := key l' w 0 [] rfl (by simpa using q2) (by have := s2.1; omega)
    have h2 : l.drop (0 + l'.length) = [] := List.drop_eq_nil_of_le (by have := s2.1; omega)
    rw [h2] at h1
    simpa using h1
  · rw [List.getElem?_map] at hs
    cases hq : us[j]? with
    | none => rw [hq] at hs; cases hs
    | some u =>
      rw [hq] at hs
      cases hs
      exact .inr (s2.2 j u hq)

theorem stp_ext {x : Operand} {us : List V} {i : Nat} {u : V} (hx : evS f x = .dat (vtup us)) (hu : us[i]? = some u) : Stp P ⟨dst, .extract x i, ty, pos, af, gd⟩ f ⟨false, [], [], .dat u⟩ :=
  stp_val fun X own g a w h => by
    have h2 := h x (by simp [Op.operands])
    rw [hx] at h2
    obtain ⟨l, h3, h4⟩ := h2
    obtain ⟨v, q1, q2⟩ := h4.2 i u hu
    exact ⟨v, by simp [execOp, h3, Instr.extract, q1], q2⟩
theorem stp_field1 {t : TypeId} {i o n : Nat} {ft : TypeId} {x : Operand} {us : List V} {u : V} (hf : tyF P t i = some (o, ft)) (ht : tyS P ft = some (false, n)) (hx : evS f x = .dat (vagg us)) (hu : us[o]? = some u) : Stp P ⟨dst, .field t x i, ty, pos, af, gd⟩ f ⟨false, [], [], .dat u⟩ :=
  stp_val fun X own g a w h => by
    have h2 := h x (by simp [Op.operands])
    rw [hx] at h2
    obtain ⟨l, h3, h4⟩ := h2
    obtain ⟨v, q1, q2, _⟩ := h4.2 o u hu
    obtain ⟨fs, fl, j, r1, r2, r3, r4, r5, r6⟩ := tyF_at hf
    obtain ⟨d, i', d1, d2, d3, d4⟩ := tyS_at ht
    have hagg : (isAgg ft).run P w = .ok false w := by
      unfold isAgg
      rw [Sem.run_bind, run_underlying d1 w]
      cases d <;> simp_all
    subst r4 r3
    exact ⟨v, by simp [execOp, h3, Instr.field, run_underlying r1, r2, asAgg, part, hagg, q1], q2⟩

/-- a call of a function of data -/
def callOK (P : Program) (fn : Nat) : Bool := match P.funcs[fn]? with
  | some fc => (!(fc.name == "runtime.NumGoroutine")) && fc.body.isSome
  | none => false
def Fn (P : Program) (fn : Nat) (args : List V) (res : V) : Prop := callOK P fn = true ∧ Pure P fn args res

def argV (s : Slot) (u : V) : Prop := s = .dat u ∨ (s = .dat vnil ∧ u = vlst [])
theorem argV_rep {g : Gh} {w : World} {M : Blks} {s : Slot} {u : V} {v : Value} (h : argV s u) (hv : RepS g w M s v) : u.p w M v := by
  rcases h with rfl | ⟨rfl, rfl⟩
  · exact hv
  · exact ⟨none, 0, hv, Nat.le_refl _, fun h => absurd rfl h⟩
def argsV (f : Nat → Slot) : List Operand → List V → Prop
  | [], [] => True
  | x :: xs, u :: us => argV (evS f x) u ∧ argsV f xs us
  | _, _ => False
theorem argsV_rep {g : Gh} {w : World} {M : Blks} {ev : Operand → Value} : ∀ (xs : List Operand) (us : List V), argsV f xs us → (∀ x, x ∈ xs → RepS g w M (evS f x) (ev x)) → Ts w M us (xs.map ev) := by
  intro xs
  induction xs with
  | nil =>
    intro us h _
    cases us with
    | nil => exact ⟨rfl, fun j u hj => by simp at hj⟩
    | cons u us => cases h
  | cons x xs ih =>
    intro us h hv
    cases us with
    | nil => cases h
    | cons u us =>
      have h2 := ih us h.2 (fun y hy => hv y (List.mem_cons_of_mem _ hy))
      refine ⟨by simp [h2.1], fun j u' hj => ?_⟩
      cases j with
      | zero => simp at hj; subst hj; exact ⟨_, rfl, argV_rep h.1 (hv x (by simp))⟩
      | succ j => exact h2.2 j u' (by simpa using hj)

theorem run_call {fn : Nat} (hc : callOK P fn = true) (xs : Array Operand) (ts : Array TypeId) (ev : Operand → Value) (hev : ev (.func fn) = .func (.func fn) #[] #[]) (w : World) :
    (execOp ev ⟨dst, .call { callee := .value (.func fn), args := xs, argTypes := ts }, ty, pos, af, gd⟩).run P w = .ok (.enter fn (xs.map ev)) w := by
  unfold callOK at hc
  cases hf : P.funcs[fn]? with
  | none => rw [hf] at hc; cases hc
  | some fc =>
    rw [hf] at hc
    simp only [Bool.and_eq_true, Bool.not_eq_true'] at hc
    have h1 : ¬ fc.name = "runtime.NumGoroutine" := by simpa using hc.1
    have h2 : ¬ fc.body = none := by
      intro hb; rw [hb] at hc; cases hc.2
    simp [execOp, resolve, hev, Deferred.ofValue, invoke, callFunc, hf, h1, h2]

theorem stp_call {fn : Nat} {xs : Array Operand} {ts : Array TypeId} {us : List V} {res : V} (hF : Fn P fn us res) (ha : argsV f xs.toList us) : Stp P ⟨dst, .call { callee := .value (.func fn), args := xs, argTypes := ts }, ty, pos, af, gd⟩ f ⟨false, [], [], .dat res⟩ := by
  intro X f' own g a w Q hr hd hx hrd K hK
  unfold Oper.wp
  rw [run_call hF.1 xs ts a.eval rfl w]
  show Calls P fn (xs.map a.eval) w _
  have hT : Ts w (Mof X g own) us (xs.map a.eval).toList := by
    rw [Array.toList_map]
    exact argsV_rep xs.toList us ha (fun x hm => by
      have := hx x (by simp only [Op.operands, Call.operands]; simp at hm ⊢; exact .inr hm)
      rw [← this]; exact hr.ev x)
  have hlt : ∀ b, Mof X g own b → b < w.heap.size := by
    rintro b (hb | ⟨id, o, h1, h2⟩)
    · exact Nat.lt_of_lt_of_le (hr.m0 b hb).1 hr.kp.size
    · exact (hr.ob id o h1).blk_lt h2
  refine (hF.2 _ w _ hlt hT).mono ?_
  rintro e w' ⟨v, rfl, h1, h2⟩
  exact hK g v w' ((hr.grow h2).put _ (.dat res) v hd h1)
end
end Go.Proofs.Ytmcegaabopcmfaa
