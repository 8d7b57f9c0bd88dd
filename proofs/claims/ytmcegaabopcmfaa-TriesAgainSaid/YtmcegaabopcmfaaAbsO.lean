/- The abstract machine: operations on numbers, truth values, strings; boxes; slices that stay; calls of functions of data. -/
import Derived.Test.YtmcegaabopcmfaaAbsC
import Derived.IntWalk
namespace Go.Proofs.Ytmcegaabopcmfaa
open Go.RowKit
set_option linter.unusedVariables false

abbrev vint (n : Int) : V := vval (.int .i64 n)
abbrev vbool (b : Bool) : V := vval (.bool b)
abbrev vstr (l : List UInt8) : V := vval (.string ⟨l.toArray⟩)

section
variable {P : Program} {ops : Array Oper} {os : List Oper} {f : Nat → Slot} {own : Own} {lg : List (List Nat × List Nat)} {K : (Nat → Slot) → Own → List (List Nat × List Nat) → Prop}
variable {dst : Option Tmp} {op : Op} {ty : TypeId} {pos : String} {af : Array Edge} {gd : Option (Nat × Bool)} {s : Slot}

theorem seq_run0 (hst : Stp P ⟨dst, op, ty, pos, af, none⟩ f ⟨false, [], [], s⟩) (h : seqA P ops os (updS f dst s) own (([], []) :: lg) K) : seqA P ops (⟨dst, op, ty, pos, af, none⟩ :: os) f own lg K :=
  ⟨_, ⟨rfl, fun _ => ⟨hst, fun q hq => (by cases hq)⟩, fun h => (by cases h), fun k hk => (by cases hk)⟩, h⟩
theorem seq_run1 {id : Nat} {q : Option (Option AObj)} (hst : Stp P ⟨dst, op, ty, pos, af, none⟩ f ⟨false, [(id, q)], [], s⟩) (hq : own id = q) (h : seqA P ops os (updS f dst s) own (([id], []) :: lg) K) : seqA P ops (⟨dst, op, ty, pos, af, none⟩ :: os) f own lg K :=
  ⟨_, ⟨rfl, fun _ => ⟨hst, fun q' hq' => (by simp only [List.mem_singleton] at hq'; subst hq'; exact hq)⟩, fun h => (by cases h), fun k hk => (by cases hk)⟩, h⟩
theorem seq_run2 {id : Nat} {q q' : Option (Option AObj)} (hst : Stp P ⟨dst, op, ty, pos, af, none⟩ f ⟨false, [(id, q)], [(id, q')], s⟩) (hq : own id = q) (h : seqA P ops os (updS f dst s) (upl own [(id, q')]) (([id], [id]) :: lg) K) : seqA P ops (⟨dst, op, ty, pos, af, none⟩ :: os) f own lg K :=
  ⟨_, ⟨rfl, fun _ => ⟨hst, fun q' hq' => (by simp only [List.mem_singleton] at hq'; subst hq'; exact hq)⟩, fun h => (by cases h), fun k hk => hk⟩, h⟩
/-- an operation under a guard -/
theorem seq_g0 {j d : Nat} {want b : Bool} (h1 : (ops[j]?).bind (·.dst) = some d) (h2 : f d = .dat (vbool b)) (h3 : (b != want) = false) (hst : Stp P ⟨dst, op, ty, pos, af, some (j, want)⟩ f ⟨false, [], [], s⟩) (h : seqA P ops os (updS f dst s) own (([], []) :: lg) K) :
    seqA P ops (⟨dst, op, ty, pos, af, some (j, want)⟩ :: os) f own lg K :=
  ⟨_, ⟨⟨d, .bool b, h1, h2, h3.symm⟩, fun _ => ⟨hst, fun q hq => (by cases hq)⟩, fun h => (by cases h), fun k hk => (by cases hk)⟩, h⟩
theorem seq_g1 {j d : Nat} {want b : Bool} {id : Nat} {q : Option (Option AObj)} (h1 : (ops[j]?).bind (·.dst) = some d) (h2 : f d = .dat (vbool b)) (h3 : (b != want) = false) (hst : Stp P ⟨dst, op, ty, pos, af, some (j, want)⟩ f ⟨false, [(id, q)], [], s⟩) (hq : own id = q) (h : seqA P ops os (updS f dst s) own (([id], []) :: lg) K) :
    seqA P ops (⟨dst, op, ty, pos, af, some (j, want)⟩ :: os) f own lg K :=
  ⟨_, ⟨⟨d, .bool b, h1, h2, h3.symm⟩, fun _ => ⟨hst, fun q' hq' => (by simp only [List.mem_singleton] at hq'; subst hq'; exact hq)⟩, fun h => (by cases h), fun k hk => (by cases hk)⟩, h⟩
theorem seq_skip {j d : Nat} {want b : Bool} (h1 : (ops[j]?).bind (·.dst) = some d) (h2 : f d = .dat (vbool b)) (h3 : (b != want) = true) (h : seqA P ops os (updS f dst (.dat (vval undef))) own (([], []) :: lg) K) :
    seqA P ops (⟨dst, op, ty, pos, af, some (j, want)⟩ :: os) f own lg K :=
  ⟨⟨true, [], [], .dat (vval undef)⟩, ⟨⟨d, .bool b, h1, h2, h3.symm⟩, fun h => (by cases h), fun _ => ⟨rfl, rfl, rfl⟩, fun k hk => (by cases hk)⟩, h⟩
theorem seq_skipU {j d : Nat} {want : Bool} (h1 : (ops[j]?).bind (·.dst) = some d) (h2 : f d = .dat (vval undef)) (h : seqA P ops os (updS f dst (.dat (vval undef))) own (([], []) :: lg) K) :
    seqA P ops (⟨dst, op, ty, pos, af, some (j, want)⟩ :: os) f own lg K :=
  ⟨⟨true, [], [], .dat (vval undef)⟩, ⟨⟨d, undef, h1, h2, rfl⟩, fun h => (by cases h), fun _ => ⟨rfl, rfl, rfl⟩, fun k hk => (by cases hk)⟩, h⟩
theorem seq_g2 {j d : Nat} {want b : Bool} {id : Nat} {q q' : Option (Option AObj)} (h1 : (ops[j]?).bind (·.dst) = some d) (h2 : f d = .dat (vbool b)) (h3 : (b != want) = false) (hst : Stp P ⟨dst, op, ty, pos, af, some (j, want)⟩ f ⟨false, [(id, q)], [(id, q')], s⟩) (hq : own id = q) (h : seqA P ops os (updS f dst s) (upl own [(id, q')]) (([id], [id]) :: lg) K) :
    seqA P ops (⟨dst, op, ty, pos, af, some (j, want)⟩ :: os) f own lg K :=
  ⟨_, ⟨⟨d, .bool b, h1, h2, h3.symm⟩, fun _ => ⟨hst, fun q' hq' => (by simp only [List.mem_singleton] at hq'; subst hq'; exact hq)⟩, fun h => (by cases h), fun k hk => hk⟩, h⟩
theorem seq_split {j d : Nat} {want b : Bool} {o : Oper} (h1 : (ops[j]?).bind (·.dst) = some d) (h2 : f d = .dat (vbool b)) (ht : (b != want) = false → seqA P ops (o :: os) f own lg K) (hf : (b != want) = true → seqA P ops (o :: os) f own lg K) (hg : o.guard = some (j, want)) : seqA P ops (o :: os) f own lg K := by
  cases hb : (b != want)
  · exact ht hb
  · exact hf hb
end

section
variable {P : Program} {f : Nat → Slot} {dst : Option Tmp} {ty : TypeId} {pos : String} {af : Array Edge} {gd : Option (Nat × Bool)}

theorem stp_val {o : Oper} {s : Slot} (h : ∀ (X : Ctx) (own : Own) (g : Gh) (a : Act) (w : World), (∀ x, x ∈ o.op.operands → RepS g w (Mof X g own) (evS f x) (a.eval x)) → ∃ v, (execOp a.eval o).run P w = .ok (.value v) w ∧ RepS g w (Mof X g own) s v) :
    Stp P o f ⟨false, [], [], s⟩ := by
  intro X f' own g a w Q hr hd hx _ K hK
  obtain ⟨v, h1, h2⟩ := h X own g a w (fun x hm => by rw [← hx x hm]; exact hr.ev x)
  unfold Oper.wp
  rw [h1]
  exact hK g v w (hr.put o.dst s v hd h2)

theorem stp_move {x : Operand} (s : Slot) (hx : evS f x = s) : Stp P ⟨dst, .move x, ty, pos, af, gd⟩ f ⟨false, [], [], s⟩ :=
  stp_val fun X own g a w h => ⟨_, rfl, hx ▸ h x (by simp [Op.operands])⟩
theorem stp_assign {x : Operand} (s : Slot) (hx : evS f x = s) : Stp P ⟨dst, .assign x, ty, pos, af, gd⟩ f ⟨false, [], [], s⟩ :=
  stp_val fun X own g a w h => ⟨_, rfl, hx ▸ h x (by simp [Op.operands])⟩

theorem val_of {g : Gh} {w : World} {M : Blks} {s : Slot} {u v : Value} (h : RepS g w M s v) (hs : s = .dat (vval u)) : v = u := by subst hs; exact h

theorem stp_bin {op : BinOp} {t t' : TypeId} {x y : Operand} {u v r : Value} (hx : evS f x = .dat (vval u)) (hy : evS f y = .dat (vval v))
    (hr : ∀ w, (do eqGuard op t x y u v; binOp op t u v : Sem Value).run P w = .ok r w) : Stp P ⟨dst, .binOp op t x y t', ty, pos, af, gd⟩ f ⟨false, [], [], .dat (vval r)⟩ :=
  stp_val fun X own g a w h => by
    have h1 := val_of (h x (by simp [Op.operands])) hx
    have h2 := val_of (h y (by simp [Op.operands])) hy
    refine ⟨r, ?_, rfl⟩
    simp only [execOp, h1, h2, Sem.run_bind, hr w]
    simp

theorem stp_wrap {op : BinOp} {t t' : TypeId} {x y : Operand} {k : IntKind} {m n : Int} (r : Int) (hx : evS f x = .dat (vval (.int k m))) (hy : evS f y = .dat (vval (.int k n)))
    (ho : (op = .add ∧ r = k.wrap (m + n)) ∨ (op = .sub ∧ r = k.wrap (m - n)) ∨ (op = .mul ∧ r = k.wrap (m * n))) : Stp P ⟨dst, .binOp op t x y t', ty, pos, af, gd⟩ f ⟨false, [], [], .dat (vval (.int k r))⟩ :=
  stp_bin hx hy fun w => by rcases ho with ⟨rfl, rfl⟩ | ⟨rfl, rfl⟩ | ⟨rfl, rfl⟩ <;> simp [eqGuard, binOp, Op.intArith]
theorem stp_add {t t' : TypeId} {x y : Operand} {m n : Int} (hx : evS f x = .dat (vint m)) (hy : evS f y = .dat (vint n)) (hr : -9223372036854775808 ≤ m + n ∧ m + n ≤ 9223372036854775807) :
    Stp P ⟨dst, .binOp .add t x y t', ty, pos, af, gd⟩ f ⟨false, [], [], .dat (vint (m + n))⟩ := stp_wrap _ hx hy (.inl ⟨rfl, (IntWalk.i64_in _ (by omega)).symm⟩)
theorem stp_sub {t t' : TypeId} {x y : Operand} {m n : Int} (hx : evS f x = .dat (vint m)) (hy : evS f y = .dat (vint n)) (hr : -9223372036854775808 ≤ m - n ∧ m - n ≤ 9223372036854775807) :
    Stp P ⟨dst, .binOp .sub t x y t', ty, pos, af, gd⟩ f ⟨false, [], [], .dat (vint (m - n))⟩ := stp_wrap _ hx hy (.inr (.inl ⟨rfl, (IntWalk.i64_in _ (by omega)).symm⟩))
theorem stp_mul {t t' : TypeId} {x y : Operand} {m n : Int} (hx : evS f x = .dat (vint m)) (hy : evS f y = .dat (vint n)) (hr : -9223372036854775808 ≤ m * n ∧ m * n ≤ 9223372036854775807) :
    Stp P ⟨dst, .binOp .mul t x y t', ty, pos, af, gd⟩ f ⟨false, [], [], .dat (vint (m * n))⟩ := stp_wrap _ hx hy (.inr (.inr ⟨rfl, (IntWalk.i64_in _ hr).symm⟩))
/-- quotient and rest of what is not negative -/
theorem stp_quo {t t' : TypeId} {x y : Operand} {m n : Int} (hx : evS f x = .dat (vint m)) (hy : evS f y = .dat (vint n)) (h0 : 0 ≤ m ∧ m ≤ 9223372036854775807) (h1 : 0 < n) :
    Stp P ⟨dst, .binOp .quo t x y t', ty, pos, af, gd⟩ f ⟨false, [], [], .dat (vint (m / n))⟩ := by
  refine stp_bin hx hy fun w => ?_
  have h2 : n ≠ 0 := by omega
  have h3 : m.tdiv n = m / n := Int.tdiv_eq_ediv_of_nonneg h0.1
  have h4 : 0 ≤ m / n := Int.ediv_nonneg h0.1 (by omega)
  have h5 : m / n ≤ m := Int.ediv_le_self n h0.1
  simp [eqGuard, binOp, Op.intDiv, h2, h3, IntWalk.i64_in (m / n) (by omega)]
theorem stp_rem {t t' : TypeId} {x y : Operand} {m n : Int} (hx : evS f x = .dat (vint m)) (hy : evS f y = .dat (vint n)) (h0 : 0 ≤ m) (h1 : 0 < n) :
    Stp P ⟨dst, .binOp .rem t x y t', ty, pos, af, gd⟩ f ⟨false, [], [], .dat (vint (m % n))⟩ := by
  refine stp_bin hx hy fun w => ?_
  have h2 : n ≠ 0 := by omega
  have h3 : m.tmod n = m % n := Int.tmod_eq_emod_of_nonneg h0
  simp [eqGuard, binOp, Op.intDiv, h2, h3]

section
variable {t t' : TypeId} {x y : Operand} {k : IntKind} {m n : Int} (hx : evS f x = .dat (vval (.int k m))) (hy : evS f y = .dat (vval (.int k n)))
include hx hy
theorem stp_lss : Stp P ⟨dst, .binOp .lss t x y t', ty, pos, af, gd⟩ f ⟨false, [], [], .dat (vbool (decide (m < n)))⟩ := stp_bin hx hy fun w => by simp [eqGuard, binOp, Op.intCmp]
theorem stp_leq : Stp P ⟨dst, .binOp .leq t x y t', ty, pos, af, gd⟩ f ⟨false, [], [], .dat (vbool (decide (m ≤ n)))⟩ := stp_bin hx hy fun w => by simp [eqGuard, binOp, Op.intCmp]
theorem stp_gtr : Stp P ⟨dst, .binOp .gtr t x y t', ty, pos, af, gd⟩ f ⟨false, [], [], .dat (vbool (decide (n < m)))⟩ := stp_bin hx hy fun w => by simp [eqGuard, binOp, Op.intCmp]
theorem stp_geq : Stp P ⟨dst, .binOp .geq t x y t', ty, pos, af, gd⟩ f ⟨false, [], [], .dat (vbool (decide (n ≤ m)))⟩ := stp_bin hx hy fun w => by simp [eqGuard, binOp, Op.intCmp]
theorem stp_eql : Stp P ⟨dst, .binOp .eql t x y t', ty, pos, af, gd⟩ f ⟨false, [], [], .dat (vbool (decide (m = n)))⟩ := stp_bin hx hy fun w => by simp [eqGuard, binOp, Op.intCmp]; rfl
theorem stp_neq : Stp P ⟨dst, .binOp .neq t x y t', ty, pos, af, gd⟩ f ⟨false, [], [], .dat (vbool (decide (m ≠ n)))⟩ := stp_bin hx hy fun w => by simp [eqGuard, binOp, Op.intCmp]; rfl
end

theorem toList_mk (l : List UInt8) : (ByteArray.mk l.toArray).toList = l := by rw [toList_dat]
section
variable {t t' : TypeId} {x y : Operand} {l r : List UInt8} (hx : evS f x = .dat (vstr l)) (hy : evS f y = .dat (vstr r))
include hx hy
theorem stp_seql : Stp P ⟨dst, .binOp .eql t x y t', ty, pos, af, gd⟩ f ⟨false, [], [], .dat (vbool (decide (l = r)))⟩ := stp_bin hx hy fun w => by simp [eqGuard, binOp, Op.stringOp]; by_cases h : l = r <;> simp [h]
theorem stp_sneq : Stp P ⟨dst, .binOp .neq t x y t', ty, pos, af, gd⟩ f ⟨false, [], [], .dat (vbool (decide (l ≠ r)))⟩ := stp_bin hx hy fun w => by
  simp [eqGuard, binOp, Op.stringOp]
  by_cases h : l = r <;> simp [h]
theorem stp_slss : Stp P ⟨dst, .binOp .lss t x y t', ty, pos, af, gd⟩ f ⟨false, [], [], .dat (vbool (Op.bytesLess l r))⟩ := stp_bin hx hy fun w => by simp [eqGuard, binOp, Op.stringOp]
theorem stp_sleq : Stp P ⟨dst, .binOp .leq t x y t', ty, pos, af, gd⟩ f ⟨false, [], [], .dat (vbool (Op.bytesLess l r || l == r))⟩ := stp_bin hx hy fun w => by simp [eqGuard, binOp, Op.stringOp]
theorem stp_sgtr : Stp P ⟨dst, .binOp .gtr t x y t', ty, pos, af, gd⟩ f ⟨false, [], [], .dat (vbool (!(Op.bytesLess l r || l == r)))⟩ := stp_bin hx hy fun w => by simp [eqGuard, binOp, Op.stringOp]
theorem stp_sgeq : Stp P ⟨dst, .binOp .geq t x y t', ty, pos, af, gd⟩ f ⟨false, [], [], .dat (vbool (!Op.bytesLess l r))⟩ := stp_bin hx hy fun w => by simp [eqGuard, binOp, Op.stringOp]
theorem stp_sadd (hl : l.length + r.length ≤ 9223372036854775807) : Stp P ⟨dst, .binOp .add t x y t', ty, pos, af, gd⟩ f ⟨false, [], [], .dat (vstr (l ++ r))⟩ := stp_bin hx hy fun w => by
  have h1 : ¬ (((ByteArray.mk l.toArray).size + (ByteArray.mk r.toArray).size : Nat) : Int) > IntKind.i64.max := by
    have e1 : (ByteArray.mk l.toArray).size = l.length := by simp [ByteArray.size]
    have e2 : (ByteArray.mk r.toArray).size = r.length := by simp [ByteArray.size]
    have e3 : IntKind.i64.max = 9223372036854775807 := by decide
    rw [e1, e2, e3]
    omega
  have e4 : ByteArray.mk l.toArray ++ ByteArray.mk r.toArray = ByteArray.mk (l ++ r).toArray := by
    apply ByteArray.ext
    simp
  have e5 : (binOp .add t (.string ⟨l.toArray⟩) (.string ⟨r.toArray⟩) : Sem Value) = pure (.string ⟨(l ++ r).toArray⟩) := by
    simp only [binOp, Op.stringOp]
    rw [if_neg h1, e4]
  rw [e5]
  simp [eqGuard]
end

theorem stp_not {t : TypeId} {x : Operand} {b : Bool} (hx : evS f x = .dat (vbool b)) : Stp P ⟨dst, .unOp .not t x, ty, pos, af, gd⟩ f ⟨false, [], [], .dat (vbool (!b))⟩ :=
  stp_val fun X own g a w h => by
    have h1 := val_of (h x (by simp [Op.operands])) hx
    exact ⟨_, by simp [execOp, h1, Op.unary], rfl⟩
theorem stp_neg {t : TypeId} {x : Operand} {n : Int} (hx : evS f x = .dat (vint n)) (hn : -9223372036854775807 ≤ n ∧ n ≤ 9223372036854775807) : Stp P ⟨dst, .unOp .neg t x, ty, pos, af, gd⟩ f ⟨false, [], [], .dat (vint (-n))⟩ :=
  stp_val fun X own g a w h => by
    have h1 := val_of (h x (by simp [Op.operands])) hx
    exact ⟨_, by simp [execOp, h1, Op.unary, Op.intArith, IntWalk.i64_in (-n) (by omega)], rfl⟩
theorem stp_pick_t {c x y : Operand} {b : Bool} {v : V} (hc : evS f c = .dat (vbool b)) (hb : (b != true) = false) (hx : evS f x = .dat v) : Stp P ⟨dst, .pick c x y, ty, pos, af, gd⟩ f ⟨false, [], [], .dat v⟩ :=
  stp_val fun X own g a w h => by
    have h1 := val_of (h c (by simp [Op.operands])) hc
    have h2 := h x (by simp [Op.operands])
    rw [hx] at h2
    have h3 : b = true := by simpa using hb
    exact ⟨_, by simp [execOp, h1, asBool, h3], h2⟩
theorem stp_pick_f {c x y : Operand} {b : Bool} {v : V} (hc : evS f c = .dat (vbool b)) (hb : (b != false) = false) (hy : evS f y = .dat v) : Stp P ⟨dst, .pick c x y, ty, pos, af, gd⟩ f ⟨false, [], [], .dat v⟩ :=
  stp_val fun X own g a w h => by
    have h1 := val_of (h c (by simp [Op.operands])) hc
    have h2 := h y (by simp [Op.operands])
    rw [hy] at h2
    have h3 : b = false := by simpa using hb
    exact ⟨_, by simp [execOp, h1, asBool, h3], h2⟩
theorem stp_pick_t' {c x y : Operand} {b : Bool} {v : V} (hc : evS f c = .dat (vbool b)) (hb : (b != false) = true) (hx : evS f x = .dat v) : Stp P ⟨dst, .pick c x y, ty, pos, af, gd⟩ f ⟨false, [], [], .dat v⟩ :=
  stp_pick_t hc (by simpa using hb) hx
theorem stp_pick_f' {c x y : Operand} {b : Bool} {v : V} (hc : evS f c = .dat (vbool b)) (hb : (b != true) = true) (hy : evS f y = .dat v) : Stp P ⟨dst, .pick c x y, ty, pos, af, gd⟩ f ⟨false, [], [], .dat v⟩ :=
  stp_pick_f hc (by simpa using hb) hy

theorem stp_len_str {x : Operand} {t : TypeId} {l : List UInt8} (ht : P.underlying t = some .string) (hx : evS f x = .dat (vstr l)) : Stp P ⟨dst, .call { callee := .builtin .len, args := #[x], argTypes := #[t] }, ty, pos, af, gd⟩ f ⟨false, [], [], .dat (vint (l.length : Int))⟩ :=
  stp_val fun X own g a w h => by
    have h1 := val_of (h x (by simp [Op.operands, Call.operands])) hx
    refine ⟨.int .i64 (l.length : Int), ?_, rfl⟩
    have hz : (ByteArray.mk l.toArray).size = l.length := by simp [ByteArray.size]
    simp [execOp, resolve, invoke, builtin, Builtin.len_, h1, run_underlying ht, goInt, hz]
theorem stp_len_lst {x : Operand} {t e : TypeId} {es : List (List V)} (ht : P.underlying t = some (.slice e)) (hx : evS f x = .dat (vlst es)) : Stp P ⟨dst, .call { callee := .builtin .len, args := #[x], argTypes := #[t] }, ty, pos, af, gd⟩ f ⟨false, [], [], .dat (vint (es.length : Int))⟩ :=
  stp_val fun X own g a w h => by
    have h1 := h x (by simp [Op.operands, Call.operands])
    rw [hx] at h1
    obtain ⟨A, c, h2, _⟩ := h1
    refine ⟨.int .i64 (es.length : Int), ?_, rfl⟩
    simp [execOp, resolve, invoke, builtin, Builtin.len_, h2, run_underlying ht, goInt]
end
end Go.Proofs.Ytmcegaabopcmfaa
