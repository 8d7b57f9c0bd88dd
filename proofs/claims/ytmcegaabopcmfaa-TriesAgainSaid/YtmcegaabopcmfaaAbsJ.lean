/- The abstract machine: more operations. -/
import Derived.Test.YtmcegaabopcmfaaAbsI
namespace Go.Proofs.Ytmcegaabopcmfaa
open Go.RowKit
set_option linter.unusedVariables false

section
variable {P : Program} {f : Nat → Slot} {dst : Option Tmp} {ty : TypeId} {pos : String} {af : Array Edge} {gd : Option (Nat × Bool)}

theorem stp_nilP {x : Operand} {id off : Nat} (hx : evS f x = .ptr id off) : Stp P ⟨dst, .nilCheck x, ty, pos, af, gd⟩ f ⟨false, [], [], .ptr id off⟩ :=
  stp_val fun X own g a w h => by
    have h1 := h x (by simp [Op.operands])
    rw [hx] at h1
    obtain ⟨b, h2, h3⟩ := h1
    exact ⟨_, by simp [execOp, h3], b, h2, rfl⟩
theorem stp_nilE {x : Operand} {es : List (List V)} {k c : Nat} (hx : evS f x = .dat (vcell es k c)) : Stp P ⟨dst, .nilCheck x, ty, pos, af, gd⟩ f ⟨false, [], [], .dat (vcell es k c)⟩ :=
  stp_val fun X own g a w h => by
    have h1 := h x (by simp [Op.operands])
    rw [hx] at h1
    obtain ⟨b, off, size, h2, h3⟩ := h1
    exact ⟨_, by simp [execOp, h2], b, off, size, rfl, h3⟩
theorem stp_remT {t t' : TypeId} {x y : Operand} {m n : Int} (hx : evS f x = .dat (vint m)) (hy : evS f y = .dat (vint n)) (h1 : n ≠ 0) :
    Stp P ⟨dst, .binOp .rem t x y t', ty, pos, af, gd⟩ f ⟨false, [], [], .dat (vint (m.tmod n))⟩ :=
  stp_bin hx hy fun w => by simp [eqGuard, binOp, Op.intDiv, h1]
theorem stp_shl {t t' : TypeId} {x y : Operand} {k k' : IntKind} {m n : Int} (hx : evS f x = .dat (vval (.int k m))) (hy : evS f y = .dat (vval (.int k' n))) (h0 : 0 ≤ n) :
    Stp P ⟨dst, .binOp .shl t x y t', ty, pos, af, gd⟩ f ⟨false, [], [], .dat (vval (.int k (k.wrap (m * 2 ^ (min n.toNat k.bits)))))⟩ :=
  stp_bin hx hy fun w => by simp [eqGuard, binOp, Op.shift, Int.not_lt.2 h0]
theorem stp_shr {t t' : TypeId} {x y : Operand} {k k' : IntKind} {m n : Int} (hx : evS f x = .dat (vval (.int k m))) (hy : evS f y = .dat (vval (.int k' n))) (h0 : 0 ≤ n) :
    Stp P ⟨dst, .binOp .shr t x y t', ty, pos, af, gd⟩ f ⟨false, [], [], .dat (vval (.int k (m.fdiv (2 ^ (min n.toNat k.bits)))))⟩ :=
  stp_bin hx hy fun w => by simp [eqGuard, binOp, Op.shift, Int.not_lt.2 h0]
theorem stp_and {t t' : TypeId} {x y : Operand} {k : IntKind} {m n : Int} (hx : evS f x = .dat (vval (.int k m))) (hy : evS f y = .dat (vval (.int k n))) :
    Stp P ⟨dst, .binOp .and t x y t', ty, pos, af, gd⟩ f ⟨false, [], [], .dat (vval (.int k (k.wrap (BitVec.ofInt k.bits m &&& BitVec.ofInt k.bits n).toNat)))⟩ :=
  stp_bin hx hy fun w => by simp [eqGuard, binOp, Op.intBits]
theorem stp_or {t t' : TypeId} {x y : Operand} {k : IntKind} {m n : Int} (hx : evS f x = .dat (vval (.int k m))) (hy : evS f y = .dat (vval (.int k n))) :
    Stp P ⟨dst, .binOp .or t x y t', ty, pos, af, gd⟩ f ⟨false, [], [], .dat (vval (.int k (k.wrap (BitVec.ofInt k.bits m ||| BitVec.ofInt k.bits n).toNat)))⟩ :=
  stp_bin hx hy fun w => by simp [eqGuard, binOp, Op.intBits]
theorem stp_xor {t t' : TypeId} {x y : Operand} {k : IntKind} {m n : Int} (hx : evS f x = .dat (vval (.int k m))) (hy : evS f y = .dat (vval (.int k n))) :
    Stp P ⟨dst, .binOp .xor t x y t', ty, pos, af, gd⟩ f ⟨false, [], [], .dat (vval (.int k (k.wrap (BitVec.ofInt k.bits m ^^^ BitVec.ofInt k.bits n).toNat)))⟩ :=
  stp_bin hx hy fun w => by simp [eqGuard, binOp, Op.intBits]
theorem stp_conv {s d : TypeId} {x : Operand} {k k' : IntKind} {n : Int} {ds : TypeDesc} (hs : P.underlying s = some ds) (hd : P.underlying d = some (.int k)) (hx : evS f x = .dat (vval (.int k' n))) : Stp P ⟨dst, .convert s d x, ty, pos, af, gd⟩ f ⟨false, [], [], .dat (vval (.int k (k.wrap n)))⟩ :=
  stp_val fun X own g a w h => by
    have h1 := val_of (h x (by simp [Op.operands])) hx
    exact ⟨_, by simp [execOp, h1, convert, run_underlying hs, run_underlying hd, Conv.intToInt], rfl⟩
/-- between names of the string type -/
theorem stp_convS {s d : TypeId} {x : Operand} {l : List UInt8} {ds : TypeDesc} (hs : P.underlying s = some ds) (hd : P.underlying d = some .string) (hx : evS f x = .dat (vstr l)) : Stp P ⟨dst, .convert s d x, ty, pos, af, gd⟩ f ⟨false, [], [], .dat (vstr l)⟩ :=
  stp_val fun X own g a w h => by
    have h1 := val_of (h x (by simp [Op.operands])) hx
    exact ⟨_, by simp [execOp, h1, convert, run_underlying hs, run_underlying hd], rfl⟩

/-- an index that is some whole number -/
theorem stp_idxI {t e : TypeId} {n : Nat} {x ix : Operand} {es : List (List V)} {m : Int} (h : tyE P t = some (e, n)) (hx : evS f x = .dat (vlst es)) (hi : evS f ix = .dat (vint m)) (hk : 0 ≤ m ∧ m < (es.length : Int)) (hn : ∀ el, el ∈ es → el.length = n) :
    Stp P ⟨dst, .indexAddr t x ix, ty, pos, af, gd⟩ f ⟨false, [], [], .dat (vcell es m.toNat 0)⟩ :=
  stp_idxE h hx (by rw [hi, Int.toNat_of_nonneg hk.1]) (by omega) hn
theorem stp_idxRI {t e e' : TypeId} {n n' : Nat} {x ix : Operand} {id : Nat} {m : Int} {es : List (List V)} (h : tyE P t = some (e, n')) (hx : evS f x = .row id n) (hi : evS f ix = .dat (vint m)) (hn : n = es.length) (hk : 0 ≤ m ∧ m < (es.length : Int)) :
    Stp P ⟨dst, .indexAddr t x ix, ty, pos, af, gd⟩ f ⟨false, [(id, some (some (.row e' n' es)))], [], .rptr id n n' m.toNat 0⟩ :=
  stp_idxR h hx (by rw [hi, Int.toNat_of_nonneg hk.1]) hn (by omega)
theorem stp_indexI {t : TypeId} {x ix : Operand} {l : List UInt8} {m : Int} (ht : P.underlying t = some .string) (hx : evS f x = .dat (vstr l)) (hi : evS f ix = .dat (vint m)) (hk : 0 ≤ m ∧ m < (l.length : Int)) :
    Stp P ⟨dst, .index t x ix, ty, pos, af, gd⟩ f ⟨false, [], [], .dat (vval (.int .u8 ((byt l m.toNat).toNat : Int)))⟩ :=
  stp_index ht hx (by rw [hi, Int.toNat_of_nonneg hk.1]) (by omega)
end


section
variable {P : Program} {f : Nat → Slot} {dst : Option Tmp} {ty : TypeId} {pos : String} {af : Array Edge} {gd : Option (Nat × Bool)}
theorem stp_fieldA {t : TypeId} {i o n : Nat} {ft : TypeId} {x : Operand} {us : List V} (hf : tyF P t i = some (o, ft)) (ht : tyS P ft = some (true, n)) (hx : evS f x = .dat (vagg us)) (hu' : Nat.ble (o + n) us.length = true) : Stp P ⟨dst, .field t x i, ty, pos, af, gd⟩ f ⟨false, [], [], .dat (vagg ((us.drop o).take n))⟩ :=
  stp_val fun X own g a w h => by
    have h2 := h x (by simp [Op.operands])
    rw [hx] at h2
    obtain ⟨l, h3, h4⟩ := h2
    obtain ⟨fs, fl, j, r1, r2, r3, r4, r5, r6⟩ := tyF_at hf
    obtain ⟨d, i', d1, d2, d3, d4⟩ := tyS_at ht
    have hagg : (isAgg ft).run P w = .ok true w := by
      unfold isAgg
      rw [Sem.run_bind, run_underlying d1 w]
      cases d <;> simp_all
    subst r4 r3
    have hsz : (sizeOf fl.type).run P w = .ok n w := by simp [sizeOf, typeInfo, d3, d4]
    have hl := h4.1
    have hu := Nat.le_of_ble_eq_true hu'
    refine ⟨.agg ((l.drop fl.offset).take n).toArray, ?_, (l.drop fl.offset).take n, rfl, by simp; omega, fun q u hq => ?_⟩
    · have e1 : l.toArray.extract fl.offset (fl.offset + n) = ((l.drop fl.offset).take n).toArray := by
        apply Array.ext'
        simp [List.take_drop]
      simp only [execOp, h3, Instr.field, Sem.run_bind, run_underlying r1, Result.andThen_ok, r2, asAgg, Sem.run_pure, part, hagg, if_true, hsz, e1]
    · rw [List.getElem?_take] at hq
      split at hq
      · rename_i hqn
        rw [List.getElem?_drop] at hq
        obtain ⟨y, s1, s2⟩ := h4.2 _ u hq
        exact ⟨y, by rw [List.getElem?_take, if_pos hqn, List.getElem?_drop]; exact s1, s2⟩
      · cases hq
/-- a part of an element that stays -/
theorem stp_loadEP {t : TypeId} {n : Nat} {p : Operand} {es : List (List V)} {k c : Nat} {el : List V} (ht : tyS P t = some (true, n)) (hp : evS f p = .dat (vcell es k c)) (he : es[k]? = some el) (hn' : Nat.ble (c + n) el.length = true) :
    Stp P ⟨dst, .load t p, ty, pos, af, gd⟩ f ⟨false, [], [], .dat (vagg ((el.drop c).take n))⟩ := by
  have hn := Nat.le_of_ble_eq_true hn'
  refine stp_val fun X own g a w h => ?_
  have h2 := h p (by simp [Op.operands])
  rw [hp] at h2
  obtain ⟨b, off, size, h3, hM, arr, e, fz, h4, h5, h6⟩ := h2
  obtain ⟨d, i, d1, d2, d3, d4⟩ := tyS_at ht
  have hx : ∀ j, j < n → ∃ x, arr[off + k * size + c + j]? = some x ∧ (∀ u, el[c + j]? = some u → u.p w (Mof X g own) x) ∧ x.oneCell' = true := fun j hj => by
    have hj' : c + j < el.length := by omega
    obtain ⟨x, r1, r2, r3⟩ := h6 k (c + j) el el[c + j] he (List.getElem?_eq_getElem hj')
    exact ⟨x, by rw [Nat.add_assoc (off + k * size)]; exact r1, fun u hu => by rw [List.getElem?_eq_getElem hj'] at hu; cases hu; exact r2, r3⟩
  have hlen : ((arr.toList.drop (off + k * size + c)).take n).length = n := by
    rcases Nat.eq_zero_or_pos n with h0 | h0
    · simp [h0]
    · obtain ⟨x, r1, _⟩ := hx (n - 1) (by omega)
      have := (Array.getElem?_eq_some_iff.1 r1).1
      simp; omega
  refine ⟨.agg ((arr.toList.drop (off + k * size + c)).take n).toArray, ?_, _, rfl, by rw [hlen]; simp; omega, fun j u hj => ?_⟩
  · have hrun := run_loadAt_mid (P := P) w b (off + k * size + c) t ((arr.toList.drop (off + k * size + c)).take n) d (fun j v hv => by
      rw [cell_of_row w b _ _ _ _ h4]
      rw [List.getElem?_take] at hv
      split at hv
      · rw [List.getElem?_drop] at hv; simpa using hv
      · cases hv) d1 d2 (by rw [d3, hlen]; simp [d4])
    simp only [execOp, h3, hrun, Sem.run_bind, Result.andThen_ok, Sem.run_pure]
  · rw [List.getElem?_take] at hj
    split at hj
    · rename_i hjn
      rw [List.getElem?_drop] at hj
      obtain ⟨x, r1, r2, r3⟩ := hx j hjn
      refine ⟨x, ?_, r2 u hj, r3⟩
      rw [List.getElem?_take, if_pos hjn, List.getElem?_drop]
      simpa using r1
    · cases hj
end
end Go.Proofs.Ytmcegaabopcmfaa
