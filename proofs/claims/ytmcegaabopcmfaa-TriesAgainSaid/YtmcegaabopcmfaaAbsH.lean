/- The abstract machine: maps of one's own with string keys, to numbers or truth values. -/
import Derived.Test.YtmcegaabopcmfaaAbsG
import Derived.Test.YtmcegaabopcmfaaMap
namespace Go.Proofs.Ytmcegaabopcmfaa
open Go.RowKit
set_option linter.unusedVariables false

/-- the object is a map from strings to truth values (numbers), of at most n entries: m -/
def mapBO (P : Program) (k e : TypeId) (n : Nat) (m : List UInt8 → Bool) : Obj → Prop := fun o => ∀ (w : World) (b : Nat), w.heap[b]? = some o → MapB P w k e b n m
def mapIO (P : Program) (k e : TypeId) (n : Nat) (m : List UInt8 → Int) : Obj → Prop := fun o => ∀ (w : World) (b : Nat), w.heap[b]? = some o → MapI P w k e b n m
theorem mapBO_of {P : Program} {w : World} {k e : TypeId} {b n : Nat} {m : List UInt8 → Bool} {o : Obj} (h : MapB P w k e b n m) (ho : w.heap[b]? = some o) : mapBO P k e n m o := by
  intro w' b' h'
  obtain ⟨D, ⟨es, clock, hh, F, hs, hD⟩, h2⟩ := h
  rw [ho] at hh
  cases hh
  exact ⟨D, ⟨es, clock, h', F, hs, hD⟩, h2⟩
theorem mapIO_of {P : Program} {w : World} {k e : TypeId} {b n : Nat} {m : List UInt8 → Int} {o : Obj} (h : MapI P w k e b n m) (ho : w.heap[b]? = some o) : mapIO P k e n m o := by
  intro w' b' h'
  obtain ⟨D, ⟨es, clock, hh, F, hs, hD⟩, h2⟩ := h
  rw [ho] at hh
  cases hh
  exact ⟨D, ⟨es, clock, h', F, hs, hD⟩, h2⟩
theorem map_obj {P : Program} {w : World} {k : TypeId} {R : Value → Option (DataW Unit × List MemPlace)} {b n : Nat} {D : DataW Unit} (h : w.ownsMap P k R b n D) : ∃ o, w.heap[b]? = some o := by
  obtain ⟨es, clock, hh, _⟩ := h; exact ⟨_, hh⟩

/-- a map type: string keys, elements of this kind -/
def tyMB (P : Program) (t k e : TypeId) : Prop := P.underlying k = some .string ∧ P.underlying t = some (.map k e) ∧ P.underlying e = some .bool ∧ ∀ w, (zeroValue e).run P w = .ok (.bool false) w
def tyMI (P : Program) (t k e : TypeId) : Prop := P.underlying k = some .string ∧ P.underlying t = some (.map k e) ∧ P.underlying e = some (.int .i64) ∧ ∀ w, (zeroValue e).run P w = .ok (.int .i64 0) w

section
variable {P : Program} {f : Nat → Slot} {dst : Option Tmp} {ty : TypeId} {pos : String} {af : Array Edge} {gd : Option (Nat × Bool)}

theorem stp_opnew (id : Nat) {o : Oper} {ob : Obj} {R : Obj → Prop} (hR : R ob) (h : ∀ (ev : Operand → Value) (w : World), (execOp ev o).run P w = .ok (.value (.map (some w.heap.size))) (w.alloc ob)) :
    Stp P o f ⟨false, [(id, none)], [(id, some (some (.opq none R)))], .mp id⟩ := by
  refine stp_upd fun X f' own g a w hr ho hh => ?_
  let g' : Gh := ⟨fun i => if i = id then some w.heap.size else g.bl i, g.sv⟩
  have hbl : g'.bl id = some w.heap.size := if_pos rfl
  refine ⟨g', w.alloc ob, .value (.map (some w.heap.size)), .map (some w.heap.size), ⟨fun i b hb => ?_, fun _ _ _ h => h⟩, fun i hi => ⟨if_neg hi, fun _ => rfl⟩, h a.eval w, .inl rfl, .inl ((Kp.refl [] w).alloc _), fun b hb => ?_, fun e size es h => (by cases h), fun M' he => ⟨⟨w.heap.size, ob, hbl, fun q hq => (by cases hq), heap_alloc_new w _, hR⟩, w.heap.size, hbl, rfl⟩⟩
  · show (if i = id then _ else _) = _
    rw [if_neg]
    · exact hb
    · rintro rfl; rw [(hr.fresh i ho).1] at hb; cases hb
  · simp only [obk, hbl] at hb
    cases hb
    exact .inl (Nat.le_refl _)
theorem stp_mkB (id : Nat) {t k e : TypeId} (ht : tyMB P t k e) : Stp P ⟨dst, .makeMap t none, ty, pos, af, gd⟩ f ⟨false, [(id, none)], [(id, some (some (.opq none (mapBO P k e 0 fun _ => false))))], .mp id⟩ :=
  stp_opnew id (ob := .map #[] 0) (mapBO_of (MapB.made P default k e) (heap_alloc_new _ _)) fun ev w => by simp [execOp, Instr.makeMap]
theorem stp_mkI (id : Nat) {t k e : TypeId} (ht : tyMI P t k e) : Stp P ⟨dst, .makeMap t none, ty, pos, af, gd⟩ f ⟨false, [(id, none)], [(id, some (some (.opq none (mapIO P k e 0 fun _ => 0))))], .mp id⟩ :=
  stp_opnew id (ob := .map #[] 0) (mapIO_of (MapI.made P default k e) (heap_alloc_new _ _)) fun ev w => by simp [execOp, Instr.makeMap]
theorem str_max {l : List UInt8} (h : l.length ≤ 1000000000) : (ByteArray.mk l.toArray).size ≤ maxLen := by
  have : (ByteArray.mk l.toArray).size = l.length := by simp [ByteArray.size]
  rw [this]; unfold maxLen; omega
theorem stp_lookB {an : Option Nat} {t k e : TypeId} {n : Nat} {m : List UInt8 → Bool} {x y : Operand} {id : Nat} {l : List UInt8} (ht : tyMB P t k e) (hx : evS f x = .mp id) (hy : evS f y = .dat (vstr l)) (hl : l.length ≤ 1000000000) :
    Stp P ⟨dst, .lookup t x y false, ty, pos, af, gd⟩ f ⟨false, [(id, some (some (.opq an (mapBO P k e n m))))], [], .dat (vbool (m l))⟩ :=
  stp_rd fun X own g a w h hob => by
    obtain ⟨b, h1, h2⟩ : ∃ b, g.bl id = some b ∧ a.eval x = .map (some b) := by have := h x (by simp [Op.operands]); rw [hx] at this; exact this
    have h3 := val_of (h y (by simp [Op.operands])) hy
    obtain ⟨b', o, q1, _, q2, q3⟩ := hob
    rw [h1] at q1
    cases q1
    have := (q3 w b q2).look ht.1 ht.2.1 ht.2.2.1 ht.2.2.2 ⟨l.toArray⟩ (str_max hl)
    exact ⟨_, by simp only [execOp, h2, h3, Sem.run_bind, this, Result.andThen_ok, Sem.run_pure], rfl⟩
theorem stp_lookI {an : Option Nat} {t k e : TypeId} {n : Nat} {m : List UInt8 → Int} {x y : Operand} {id : Nat} {l : List UInt8} (ht : tyMI P t k e) (hx : evS f x = .mp id) (hy : evS f y = .dat (vstr l)) (hl : l.length ≤ 1000000000) :
    Stp P ⟨dst, .lookup t x y false, ty, pos, af, gd⟩ f ⟨false, [(id, some (some (.opq an (mapIO P k e n m))))], [], .dat (vint (m l))⟩ :=
  stp_rd fun X own g a w h hob => by
    obtain ⟨b, h1, h2⟩ : ∃ b, g.bl id = some b ∧ a.eval x = .map (some b) := by have := h x (by simp [Op.operands]); rw [hx] at this; exact this
    have h3 := val_of (h y (by simp [Op.operands])) hy
    obtain ⟨b', o, q1, _, q2, q3⟩ := hob
    rw [h1] at q1
    cases q1
    have := (q3 w b q2).look ht.1 ht.2.1 ht.2.2.1 ht.2.2.2 ⟨l.toArray⟩ (str_max hl)
    exact ⟨_, by simp only [execOp, h2, h3, Sem.run_bind, this, Result.andThen_ok, Sem.run_pure], rfl⟩
theorem stp_opwr {an : Option Nat} {o : Oper} {id : Nat} {R R' : Obj → Prop} (h : ∀ (X : Ctx) (own : Own) (g : Gh) (a : Act) (w : World) (b : Nat) (ob : Obj), (∀ x, x ∈ o.op.operands → RepS g w (Mof X g own) (evS f x) (a.eval x)) → g.bl id = some b → w.heap[b]? = some ob → R ob →
      ∃ w' ob', (execOp a.eval o).run P w = .ok .skip w' ∧ Kp [b] w w' ∧ w'.heap[b]? = some ob' ∧ R' ob') :
    Stp P o f ⟨false, [(id, some (some (.opq an R)))], [(id, some (some (.opq an R')))], .any⟩ := by
  refine stp_upd fun X f' own g a w hr ho hh => ?_
  obtain ⟨b, ob, q1, q0, q2, q3⟩ := hr.ob id _ ho
  obtain ⟨w', ob', r1, r2, r3, r4⟩ := h X own g a w b ob hh q1 q2 q3
  exact ⟨g, w', .skip, undef, Gh.le_refl g, fun i hi => ⟨rfl, fun _ => rfl⟩, r1, .inr ⟨rfl, rfl⟩, .inr ⟨_, b, ho, q1, r2⟩, fun b' hb => .inr ⟨_, ho, hb⟩, fun e size es h => (by cases h), fun M' he => ⟨⟨b, ob', q1, q0, r3, r4⟩, trivial⟩⟩
theorem stp_putB {an : Option Nat} {t k e : TypeId} {n : Nat} {m : List UInt8 → Bool} {x y z : Operand} {id : Nat} {l : List UInt8} {v : Bool} (ht : tyMB P t k e) (hx : evS f x = .mp id) (hy : evS f y = .dat (vstr l)) (hz : evS f z = .dat (vbool v)) (hl : l.length ≤ 1000000000) (hn : n < 1000000) :
    Stp P ⟨dst, .mapUpdate t x y z, ty, pos, af, gd⟩ f ⟨false, [(id, some (some (.opq an (mapBO P k e n m))))], [(id, some (some (.opq an (mapBO P k e (n + 1) (updM m l v)))))], .any⟩ := by
  refine stp_opwr fun X own g a w b ob h q1 q2 q3 => ?_
  obtain ⟨b', h1, h2⟩ : ∃ b, g.bl id = some b ∧ a.eval x = .map (some b) := by have := h x (by simp [Op.operands]); rw [hx] at this; exact this
  rw [q1] at h1
  cases h1
  have h3 := val_of (h y (by simp [Op.operands])) hy
  have h4 := val_of (h z (by simp [Op.operands])) hz
  obtain ⟨w', r1, r2, r3⟩ := (q3 w b q2).store ht.1 ht.2.1 ht.2.2.1 hn ⟨l.toArray⟩ (str_max hl) v
  obtain ⟨D, hD, hD2⟩ := r2
  obtain ⟨ob', hob⟩ := map_obj hD
  exact ⟨w', ob', by simp only [execOp, h2, h3, h4, Sem.run_bind, r1, Result.andThen_ok, Sem.run_pure], r3, hob, mapBO_of ⟨D, hD, hD2⟩ hob⟩
theorem stp_putI {an : Option Nat} {t k e : TypeId} {n : Nat} {m : List UInt8 → Int} {x y z : Operand} {id : Nat} {l : List UInt8} {v : Int} (ht : tyMI P t k e) (hx : evS f x = .mp id) (hy : evS f y = .dat (vstr l)) (hz : evS f z = .dat (vint v)) (hl : l.length ≤ 1000000000) (hn : n < 1000000) (hv : -9223372036854775808 ≤ v ∧ v ≤ 9223372036854775807) :
    Stp P ⟨dst, .mapUpdate t x y z, ty, pos, af, gd⟩ f ⟨false, [(id, some (some (.opq an (mapIO P k e n m))))], [(id, some (some (.opq an (mapIO P k e (n + 1) (updM m l v)))))], .any⟩ := by
  refine stp_opwr fun X own g a w b ob h q1 q2 q3 => ?_
  obtain ⟨b', h1, h2⟩ : ∃ b, g.bl id = some b ∧ a.eval x = .map (some b) := by have := h x (by simp [Op.operands]); rw [hx] at this; exact this
  rw [q1] at h1
  cases h1
  have h3 := val_of (h y (by simp [Op.operands])) hy
  have h4 := val_of (h z (by simp [Op.operands])) hz
  obtain ⟨w', r1, r2, r3⟩ := (q3 w b q2).store ht.1 ht.2.1 ht.2.2.1 hn ⟨l.toArray⟩ (str_max hl) v hv
  obtain ⟨D, hD, hD2⟩ := r2
  obtain ⟨ob', hob⟩ := map_obj hD
  exact ⟨w', ob', by simp only [execOp, h2, h3, h4, Sem.run_bind, r1, Result.andThen_ok, Sem.run_pure], r3, hob, mapIO_of ⟨D, hD, hD2⟩ hob⟩
end
end Go.Proofs.Ytmcegaabopcmfaa
