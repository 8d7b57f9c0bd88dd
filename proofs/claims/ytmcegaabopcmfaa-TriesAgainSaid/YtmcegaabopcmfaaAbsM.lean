/- The abstract machine: operations on memory; calls of functions of data. -/
import Derived.Test.YtmcegaabopcmfaaAbsO
namespace Go.Proofs.Ytmcegaabopcmfaa
open Go.RowKit
set_option linter.unusedVariables false

def tyZ (P : Program) (t : TypeId) : Option (List Value) := (P.info? t).bind fun i => i.zero.map fun z => z.cells.toList
/-- a field: its offset and its type, whose size is not 0 -/
def tyF (P : Program) (t : TypeId) (i : Nat) : Option (Nat × TypeId) := match P.underlying t with
  | some (.struct fs) => (fs[i]?).bind fun fl => (P.info? fl.type).bind fun j => if j.size = 0 then none else some (fl.offset, fl.type)
  | _ => none
/-- the elements of a slice: their type, size -/
def tyE (P : Program) (t : TypeId) : Option (TypeId × Nat) := match P.underlying t with
  | some (.slice e) => (P.info? e).map fun j => (e, j.size)
  | _ => none
def oneS : Slot → Bool
  | .any => false
  | .dat v => v.one
  | _ => true
theorem oneS_one {g : Gh} {w : World} {M : Blks} {s : Slot} {v : Value} (h : oneS s = true) (hv : RepS g w M s v) (hs : ∀ id n, s = .row id n → v.oneCell' = true) : v.oneCell' = true := by
  cases s with
  | any => cases h
  | dat u => exact u.hone h hv
  | ptr id off => obtain ⟨b, _, rfl⟩ := hv; rfl
  | row id n => exact hs id n rfl
  | rptr id n size k c => obtain ⟨b, cap, _, rfl⟩ := hv; rfl
  | mp id => obtain ⟨b, _, rfl⟩ := hv; rfl

section
variable {P : Program} {f : Nat → Slot} {dst : Option Tmp} {ty : TypeId} {pos : String} {af : Array Edge} {gd : Option (Nat × Bool)}

/-- an operation that reads one own object -/
theorem stp_rd {o : Oper} {s : Slot} {id : Nat} {ob : AObj} (h : ∀ (X : Ctx) (own : Own) (g : Gh) (a : Act) (w : World), (∀ x, x ∈ o.op.operands → RepS g w (Mof X g own) (evS f x) (a.eval x)) → RepO g w (Mof X g own) id ob → ∃ v, (execOp a.eval o).run P w = .ok (.value v) w ∧ RepS g w (Mof X g own) s v) :
    Stp P o f ⟨false, [(id, some (some ob))], [], s⟩ := by
  intro X f' own g a w Q hr hd hx hrd K hK
  have ho : own id = some (some ob) := hrd (id, some (some ob)) (by simp)
  obtain ⟨v, h1, h2⟩ := h X own g a w (fun x hm => by rw [← hx x hm]; exact hr.ev x) (hr.ob id ob ho)
  unfold Oper.wp
  rw [h1]
  exact hK g v w (hr.put o.dst s v hd h2)

/-- a new box -/
theorem stp_new {o : Oper} {id : Nat} {t : TypeId} {cs : List Slot} (h : ∀ (X : Ctx) (own : Own) (g : Gh) (a : Act) (w : World), (∀ x, x ∈ o.op.operands → RepS g w (Mof X g own) (evS f x) (a.eval x)) → 
      ∃ l : List Value, (execOp a.eval o).run P w = .ok (.value (.pointer (some ⟨w.heap.size, 0, none⟩))) (w.alloc (.cells l.toArray t)) ∧ l.length = cs.length ∧ ∀ (j : Nat) (s : Slot), cs[j]? = some s → ∃ x, l[j]? = some x ∧ RepS g w (Mof X g own) s x ∧ x.oneCell' = true) :
    Stp P o f ⟨false, [(id, none)], [(id, some (some (.box none t cs)))], .ptr id 0⟩ := by
  intro X f' own g a w Q hr hd hx hrd K hK
  have ho : own id = none := hrd (id, none) (by simp)
  obtain ⟨l, h1, h2, h3⟩ := h X own g a w (fun x hm => by rw [← hx x hm]; exact hr.ev x)
  unfold Oper.wp
  rw [h1]
  let g' : Gh := ⟨fun i => if i = id then some w.heap.size else g.bl i, g.sv⟩
  have hg' : g.le g' := by
    refine ⟨fun i b hb => ?_, fun _ _ _ h => h⟩
    show (if i = id then _ else _) = _
    rw [if_neg]
    · exact hb
    · rintro rfl; rw [(hr.fresh i ho).1] at hb; cases hb
  have hbl : g'.bl id = some w.heap.size := if_pos rfl
  have hu : ∀ i, i ≠ id → upl own [(id, some (some (.box none t cs)))] i = own i := fun i hi => by simp only [upl, beq_false_of hi, cond_false]
  have hui : upl own [(id, some (some (.box none t cs)))] id = some (some (.box none t cs)) := by
    have : Nat.beq id id = true := by simp
    simp only [upl, this, cond_true]
  have hkp : Kp [] w (w.alloc (.cells l.toArray t)) := (Kp.refl [] w).alloc _
  have hM : ∀ b, b < w.heap.size → Mof X g' (upl own [(id, some (some (.box none t cs)))]) b → Mof X g own b := by
    intro b hb hm
    rcases hm with hm | ⟨i, o', h4, h5⟩
    · exact .inl hm
    · by_cases hi : i = id
      · subst hi
        rw [hui] at h4
        cases h4
        simp only [obk, hbl] at h5
        cases h5
        omega
      · rw [hu i hi] at h4
        rw [(hr.ob i o' h4).obk_eq hg'] at h5
        exact .inr ⟨i, o', h4, h5⟩
  have he : Ext (Mof X g own) (Mof X g' (upl own [(id, some (some (.box none t cs)))])) w (w.alloc (.cells l.toArray t)) := ⟨hkp.size, fun b hb _ => hkp.block b hb (by simp), hM⟩
  have hst := hr.step (own' := upl own [(id, some (some (.box none t cs)))]) (g' := g') (w' := w.alloc (.cells l.toArray t)) hg' (.inl hkp) (fun i o' h4 => by
    by_cases hi : i = id
    · subst hi
      rw [hui] at h4
      cases h4
      refine .inr ⟨⟨w.heap.size, l, hbl, (fun q hq => by cases hq), heap_alloc_new w _, h2, fun j s hs => ?_⟩, fun b hb => ?_⟩
      · obtain ⟨x, q1, q2, q3⟩ := h3 j s hs
        exact ⟨x, q1, q2.keep he hg', q3⟩
      · simp only [obk, hbl] at hb
        cases hb
        exact .inl (Nat.le_refl _)
    · rw [hu i hi] at h4
      exact .inl ⟨h4, fun b hb => hkp.block b ((hr.ob i o' h4).blk_lt hb) (by simp)⟩)
    (fun i hi => by
      by_cases hid : i = id
      · subst hid; rw [hui] at hi; cases hi
      · rw [hu i hid] at hi
        refine ⟨?_, (hr.fresh i hi).2⟩
        show (if i = id then _ else _) = _
        rw [if_neg hid]; exact (hr.fresh i hi).1)
    (fun i e size es h4 => by
      by_cases hid : i = id
      · subst hid; rw [hui] at h4; cases h4
      · rw [hu i hid] at h4
        exact hr.top i e size es h4)
    (fun i i' o1 o2 b h4 h5 h6 h7 hs => by
      have key : ∀ i o1, upl own [(id, some (some (.box none t cs)))] i = some (some o1) → obk g' i o1 = some b → i = id := by
        intro i o1 h4 h6
        by_cases hi : i = id
        · exact hi
        · rw [hu i hi] at h4
          rw [(hr.ob i o1 h4).obk_eq hg'] at h6
          have := (hr.ob i o1 h4).blk_lt h6
          omega
      rw [key i o1 h4 h6, key i' o2 h5 h7])
  exact hK g' _ _ (hst.1.put o.dst (.ptr id 0) _ hd ⟨_, hbl, rfl⟩)

theorem ofConst_rep (g : Gh) (w : World) (M : Blks) (v : Value) : RepS g w M (ofConst v) v := by
  exact (rfl : v = v)

theorem stp_alloc (id : Nat) {t : TypeId} {zs : List Value} (hz : tyZ P t = some zs) (h1 : zs.all (·.oneCell') = true) : Stp P ⟨dst, .alloc t, ty, pos, af, gd⟩ f ⟨false, [(id, none)], [(id, some (some (.box none t (zs.map ofConst))))], .ptr id 0⟩ := by
  refine stp_new fun X own g a w _ => ?_
  unfold tyZ at hz
  cases hi : P.info? t with
  | none => rw [hi] at hz; cases hz
  | some i =>
    rw [hi] at hz
    cases hzz : i.zero with
    | none => simp [hzz] at hz
    | some z =>
      simp [hzz] at hz
      refine ⟨zs, ?_, by simp, fun j s hs => ?_⟩
      · have e1 : z.cells = zs.toArray := by rw [← hz]
        simp [execOp, Instr.alloc, zeroValue, typeInfo, hi, hzz, newVar, newRow, e1]
      · rw [List.getElem?_map] at hs
        cases hq : zs[j]? with
        | none => rw [hq] at hs; cases hs
        | some x =>
          rw [hq] at hs
          cases hs
          exact ⟨x, rfl, ofConst_rep g w _ x, (List.all_eq_true.1 h1) x (List.mem_of_getElem? hq)⟩

theorem stp_box1 (id : Nat) {t : TypeId} {x : Operand} {v : V} (hx : evS f x = .dat v) (h1 : v.one = true) : Stp P ⟨dst, .box t x, ty, pos, af, gd⟩ f ⟨false, [(id, none)], [(id, some (some (.box none t [.dat v])))], .ptr id 0⟩ := by
  refine stp_new fun X own g a w h => ?_
  have h2 := h x (by simp [Op.operands])
  rw [hx] at h2
  have h3 := v.hone h1 h2
  refine ⟨[a.eval x], ?_, rfl, fun j s hs => ?_⟩
  · have e1 : (a.eval x).cells = #[a.eval x] := by
      generalize a.eval x = u at h3
      cases u <;> first | rfl | (simp [Value.oneCell'] at h3)
    simp [execOp, Instr.box, newVar, newRow, e1]
  · cases j with
    | zero => cases hs; exact ⟨_, rfl, h2, h3⟩
    | succ j => cases hs
theorem stp_boxA (id : Nat) {t : TypeId} {x : Operand} {us : List V} (hx : evS f x = .dat (vagg us)) : Stp P ⟨dst, .box t x, ty, pos, af, gd⟩ f ⟨false, [(id, none)], [(id, some (some (.box none t (us.map .dat))))], .ptr id 0⟩ := by
  refine stp_new fun X own g a w h => ?_
  have h2 := h x (by simp [Op.operands])
  rw [hx] at h2
  obtain ⟨l, h3, h4⟩ := h2
  refine ⟨l, ?_, by simp [h4.1], fun j s hs => ?_⟩
  · simp [execOp, Instr.box, newVar, newRow, h3, Value.cells]
  · rw [List.getElem?_map] at hs
    cases hq : us[j]? with
    | none => rw [hq] at hs; cases hs
    | some u =>
      rw [hq] at hs
      cases hs
      exact h4.2 j u hq

theorem run_load1 {t : TypeId} {b : Bool} {n : Nat} (ht : tyS P t = some (false, n)) (w : World) (ad : Addr) (v : Value) (hc : w.cell? ad = some v) : (Instr.loadAt t (.pointer (some ad))).run P w = .ok v w := by
  obtain ⟨d, i, h1, h2, h3, h4⟩ := tyS_at ht
  have hagg : (isAgg t).run P w = .ok false w := by
    unfold isAgg
    rw [Sem.run_bind, run_underlying h1 w]
    cases d <;> simp_all
  simp [Instr.loadAt, Instr.sureAddr, loadVar, hagg, hc]

theorem stp_load1 {t : TypeId} {n : Nat} {p : Operand} {id off : Nat} {an : Option Nat} {bt : TypeId} {cs : List Slot} {s : Slot} (ht : tyS P t = some (false, n)) (hp : evS f p = .ptr id off) (hs : cs[off]? = some s) :
    Stp P ⟨dst, .load t p, ty, pos, af, gd⟩ f ⟨false, [(id, some (some (.box an bt cs)))], [], s⟩ := by
  refine stp_rd fun X own g a w h hob => ?_
  have h2 := h p (by simp [Op.operands])
  rw [hp] at h2
  obtain ⟨b, h3, h4⟩ := h2
  obtain ⟨b', l, q1, _, q2, q3, q4⟩ := hob
  rw [h3] at q1
  cases q1
  obtain ⟨x, r1, r2, r3⟩ := q4 off s hs
  refine ⟨x, ?_, r2⟩
  have hc : w.cell? ⟨b, off, none⟩ = some x := by rw [cell_of_row w b off _ _ _ q2]; simpa using r1
  simp [execOp, h4, run_load1 (b := true) ht w _ x hc]

def toV : Slot → V
  | .dat v => v
  | _ => vval undef
def isDat : Slot → Bool
  | .dat _ => true
  | _ => false
theorem stp_loadA {t : TypeId} {n : Nat} {p : Operand} {id off : Nat} {an : Option Nat} {bt : TypeId} {cs : List Slot} (ht : tyS P t = some (true, n)) (hp : evS f p = .ptr id off) (hl' : Nat.ble (off + n) cs.length = true) (hd : ((cs.drop off).take n).all isDat = true) :
    Stp P ⟨dst, .load t p, ty, pos, af, gd⟩ f ⟨false, [(id, some (some (.box an bt cs)))], [], .dat (vagg (((cs.drop off).take n).map toV))⟩ := by
  have hl := Nat.le_of_ble_eq_true hl'
  refine stp_rd fun X own g a w h hob => ?_
  have h2 := h p (by simp [Op.operands])
  rw [hp] at h2
  obtain ⟨b, h3, h4⟩ := h2
  obtain ⟨b', l, q1, _, q2, q3, q4⟩ := hob
  rw [h3] at q1
  cases q1
  obtain ⟨d, i, d1, d2, d3, d4⟩ := tyS_at ht
  refine ⟨.agg ((l.drop off).take n).toArray, ?_, (l.drop off).take n, rfl, by simp; omega, fun j u hj => ?_⟩
  · have hrun := run_loadAt_mid (P := P) w b off t ((l.drop off).take n) d (fun j v hv => by
      rw [cell_of_row w b _ _ _ _ q2]
      rw [List.getElem?_take] at hv
      split at hv
      · rw [List.getElem?_drop] at hv; simpa using hv
      · cases hv) d1 d2 (by rw [d3]; simp [d4]; omega)
    simp [execOp, h4, hrun]
  · rw [List.getElem?_map] at hj
    cases hq : ((cs.drop off).take n)[j]? with
    | none => rw [hq] at hj; cases hj
    | some s =>
      rw [hq] at hj
      have hd1 := (List.all_eq_true.1 hd) s (List.mem_of_getElem? hq)
      rw [List.getElem?_take] at hq
      split at hq
      · rename_i hjn
        rw [List.getElem?_drop] at hq
        obtain ⟨x, r1, r2, r3⟩ := q4 _ s hq
        refine ⟨x, by rw [List.getElem?_take, if_pos hjn, List.getElem?_drop]; exact r1, ?_, r3⟩
        cases s with
        | dat v => cases hj; exact r2
        | any => cases hd1
        | ptr _ _ => cases hd1
        | row _ _ => cases hd1
        | rptr _ _ _ _ _ => cases hd1
        | mp _ => cases hd1
      · cases hq

/-- out of a slice that stays -/
theorem stp_loadE1 {t : TypeId} {n : Nat} {p : Operand} {es : List (List V)} {k c : Nat} {el : List V} {u : V} (ht : tyS P t = some (false, n)) (hp : evS f p = .dat (vcell es k c)) (he : es[k]? = some el) (hu : el[c]? = some u) :
    Stp P ⟨dst, .load t p, ty, pos, af, gd⟩ f ⟨false, [], [], .dat u⟩ := by
  refine stp_val fun X own g a w h => ?_
  have h2 := h p (by simp [Op.operands])
  rw [hp] at h2
  obtain ⟨b, off, size, h3, hM, arr, e, fz, h4, h5, h6⟩ := h2
  obtain ⟨x, r1, r2, r3⟩ := h6 k c el u he hu
  refine ⟨x, ?_, r2⟩
  have hc : w.cell? ⟨b, off + k * size + c, none⟩ = some x := by rw [cell_of_row w b _ _ _ _ h4]; exact r1
  simp [execOp, h3, run_load1 (b := true) ht w _ x hc]
theorem stp_loadEA {t : TypeId} {n : Nat} {p : Operand} {es : List (List V)} {k : Nat} {el : List V} (ht : tyS P t = some (true, n)) (hp : evS f p = .dat (vcell es k 0)) (he : es[k]? = some el) (hn : el.length = n) :
    Stp P ⟨dst, .load t p, ty, pos, af, gd⟩ f ⟨false, [], [], .dat (vagg el)⟩ := by
  refine stp_val fun X own g a w h => ?_
  have h2 := h p (by simp [Op.operands])
  rw [hp] at h2
  obtain ⟨b, off, size, h3, hM, arr, e, fz, h4, h5, h6⟩ := h2
  obtain ⟨d, i, d1, d2, d3, d4⟩ := tyS_at ht
  have hx : ∀ j, j < el.length → ∃ x, arr[off + k * size + j]? = some x ∧ (∀ u, el[j]? = some u → u.p w (Mof X g own) x) ∧ x.oneCell' = true := fun j hj => by
    obtain ⟨x, r1, r2, r3⟩ := h6 k j el el[j] he (List.getElem?_eq_getElem hj)
    exact ⟨x, r1, fun u hu => by rw [List.getElem?_eq_getElem hj] at hu; cases hu; exact r2, r3⟩
  have hlen : ((arr.toList.drop (off + k * size)).take el.length).length = el.length := by
    rcases Nat.eq_zero_or_pos el.length with h0 | h0
    · simp [h0]
    · obtain ⟨x, r1, _⟩ := hx (el.length - 1) (by omega)
      have := (Array.getElem?_eq_some_iff.1 r1).1
      simp; omega
  refine ⟨.agg ((arr.toList.drop (off + k * size)).take el.length).toArray, ?_, _, rfl, hlen, fun j u hj => ?_⟩
  · have hrun := run_loadAt_mid (P := P) w b (off + k * size + 0) t ((arr.toList.drop (off + k * size)).take el.length) d (fun j v hv => by
      rw [cell_of_row w b _ _ _ _ h4]
      rw [List.getElem?_take] at hv
      split at hv
      · rw [List.getElem?_drop] at hv; simpa using hv
      · cases hv) d1 d2 (by rw [d3]; simp only [Option.map_some, Option.some.injEq]; omega)
    simp only [execOp, h3, hrun, Sem.run_bind, Result.andThen_ok, Sem.run_pure]
  · have hjl : j < el.length := (List.getElem?_eq_some_iff.1 hj).1
    obtain ⟨x, r1, r2, r3⟩ := hx j hjl
    refine ⟨x, ?_, r2 u hj, r3⟩
    rw [List.getElem?_take, if_pos hjl, List.getElem?_drop]
    simpa using r1

theorem tyF_at {t : TypeId} {i o : Nat} {ft : TypeId} (h : tyF P t i = some (o, ft)) : ∃ fs fl j, P.underlying t = some (.struct fs) ∧ fs[i]? = some fl ∧ fl.offset = o ∧ fl.type = ft ∧ P.info? ft = some j ∧ j.size ≠ 0 := by
  unfold tyF at h
  cases hu : P.underlying t with
  | none => rw [hu] at h; cases h
  | some d =>
    rw [hu] at h
    cases d <;> simp only at h <;> try (cases h; done)
    rename_i fs
    cases hf : fs[i]? with
    | none => rw [hf] at h; cases h
    | some fl =>
      rw [hf] at h
      simp only [Option.bind_some] at h
      cases hj : P.info? fl.type with
      | none => rw [hj] at h; cases h
      | some j =>
        rw [hj] at h
        simp only [Option.bind_some] at h
        by_cases hz : j.size = 0
        · rw [if_pos hz] at h; cases h
        · rw [if_neg hz] at h
          cases h
          exact ⟨fs, fl, j, rfl, hf, rfl, rfl, hj, hz⟩
theorem run_fieldAt {t : TypeId} {i o : Nat} {ft : TypeId} (h : tyF P t i = some (o, ft)) (w : World) (b off : Nat) : (Instr.fieldAt t (.pointer (some ⟨b, off, none⟩)) i).run P w = .ok (.pointer (some ⟨b, off + o, none⟩)) w := by
  obtain ⟨fs, fl, j, h1, h2, h3, h4, h5, h6⟩ := tyF_at h
  have e1 : (⟨b, off, none⟩ : Addr).add o = ⟨b, off + o, none⟩ := Addr.add_mid b off o
  simp [Instr.fieldAt, run_underlying h1, h2, Instr.sureAddr, fieldPlace, sizeOf, typeInfo, h4, h5, h6, h3, e1]
theorem stp_fldP {t : TypeId} {i o : Nat} {ft : TypeId} {p : Operand} {id off : Nat} (h : tyF P t i = some (o, ft)) (hp : evS f p = .ptr id off) : Stp P ⟨dst, .fieldAddr t p i, ty, pos, af, gd⟩ f ⟨false, [], [], .ptr id (off + o)⟩ :=
  stp_val fun X own g a w hh => by
    have h2 := hh p (by simp [Op.operands])
    rw [hp] at h2
    obtain ⟨b, h3, h4⟩ := h2
    exact ⟨_, by simp only [execOp, h4, Sem.run_bind, run_fieldAt h w b off, Result.andThen_ok, Sem.run_pure], b, h3, rfl⟩
theorem stp_fldE {t : TypeId} {i o : Nat} {ft : TypeId} {p : Operand} {es : List (List V)} {k c : Nat} (h : tyF P t i = some (o, ft)) (hp : evS f p = .dat (vcell es k c)) : Stp P ⟨dst, .fieldAddr t p i, ty, pos, af, gd⟩ f ⟨false, [], [], .dat (vcell es k (c + o))⟩ :=
  stp_val fun X own g a w hh => by
    have h2 := hh p (by simp [Op.operands])
    rw [hp] at h2
    obtain ⟨b, off, size, h3, h4⟩ := h2
    refine ⟨.pointer (some ⟨b, off + k * size + c + o, none⟩), ?_, b, off, size, by rw [Nat.add_assoc], h4⟩
    simp only [execOp, h3, Sem.run_bind, run_fieldAt h w b _, Result.andThen_ok, Sem.run_pure]

theorem tyE_at {t e : TypeId} {n : Nat} (h : tyE P t = some (e, n)) : ∃ i, P.underlying t = some (.slice e) ∧ P.info? e = some i ∧ i.size = n := by
  unfold tyE at h
  cases hu : P.underlying t with
  | none => rw [hu] at h; cases h
  | some d =>
    rw [hu] at h
    cases d <;> simp only at h <;> try (cases h; done)
    rename_i e'
    cases hj : P.info? e' with
    | none => rw [hj] at h; cases h
    | some j => rw [hj] at h; simp at h; obtain ⟨rfl, rfl⟩ := h; exact ⟨j, rfl, hj, rfl⟩
theorem stp_idxE {t e : TypeId} {n : Nat} {x ix : Operand} {es : List (List V)} {k : Nat} (h : tyE P t = some (e, n)) (hx : evS f x = .dat (vlst es)) (hi : evS f ix = .dat (vint (k : Int))) (hk : k < es.length) (hn : ∀ el, el ∈ es → el.length = n) :
    Stp P ⟨dst, .indexAddr t x ix, ty, pos, af, gd⟩ f ⟨false, [], [], .dat (vcell es k 0)⟩ :=
  stp_val fun X own g a w hh => by
    have h2 := hh x (by simp [Op.operands])
    have h3 := val_of (hh ix (by simp [Op.operands])) hi
    rw [hx] at h2
    obtain ⟨A, c, q1, q2, q3⟩ := h2
    obtain ⟨b, off, size, q4, q5⟩ := q3 (by rintro rfl; simp at hk)
    obtain ⟨i, d1, d2, d3⟩ := tyE_at h
    have hsz : n = size := by
      obtain ⟨_, arr, e', fz, _, h5, _⟩ := q5
      rw [← hn es[k] (List.getElem_mem hk), h5 es[k] (List.getElem_mem hk)]
    subst hsz
    subst q4
    refine ⟨_, ?_, b, off, n, rfl, q5⟩
    have e1 : (⟨b, off, none⟩ : Addr).add (k * n) = ⟨b, off + k * n, none⟩ := Addr.add_mid b off (k * n)
    simp [execOp, h3, q1, Instr.indexAt, asIntOf, run_underlying d1, sizeOf, typeInfo, d2, d3, hk, e1]
end
end Go.Proofs.Ytmcegaabopcmfaa
