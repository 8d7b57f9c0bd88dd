/- The abstract machine: a box straight to data; pointers against nil; structs compared. -/
import Derived.Test.YtmcegaabopcmfaaAbsL
import Derived.Laws.StructEq
import Derived.Laws.Pointers
namespace Go.Proofs.Ytmcegaabopcmfaa
open Go.RowKit
set_option linter.unusedVariables false

/-- structs whose fields are one cell each: the fields' types -/
def qF (P : Program) : List Field → Nat → Option (List TypeDesc)
  | [], _ => some []
  | f :: fs, i => if f.name ≠ "_" ∧ f.offset = i ∧ tyS P f.type = some (false, 1) then (P.underlying f.type).bind fun d => (qF P fs (i + 1)).map (d :: ·) else none
def tyQ (P : Program) (t : TypeId) : Option (List TypeDesc) :=
  match P.underlying t with
  | some (.struct fs) => if P.stoodInHeld t = false ∧ P.eqGuardType P.depth t = false then qF P fs.toList 0 else none
  | _ => none
theorem tyQ_at {P : Program} {t : TypeId} {ks : List TypeDesc} (h : tyQ P t = some ks) : P.stoodInHeld t = false ∧ P.eqGuardType P.depth t = false ∧ P.underlying t = some (.struct (P.fieldsOf t)) ∧ qF P (P.fieldsOf t).toList 0 = some ks := by
  unfold tyQ at h
  split at h
  · rename_i fs hu
    split at h
    · rename_i hq
      have : P.fieldsOf t = fs := by simp [Program.fieldsOf, hu]
      rw [this]
      exact ⟨hq.1, hq.2, hu, h⟩
    · cases h
  · cases h
def eqV : TypeDesc → Value → Value → Option Bool
  | .bool, .bool a, .bool b => some (a == b)
  | .int _, .int k a, .int k' b => if k = k' then some (a == b) else none
  | .string, .string a, .string b => some (a.data.toList == b.data.toList)
  | _, _, _ => none
def eqVs : List TypeDesc → List Value → List Value → Option Bool
  | [], _, _ => some true
  | d :: ds, a :: as, b :: bs => (eqV d a b).bind fun r => (eqVs ds as bs).map (r && ·)
  | _, _, _ => none
theorem run_eqV {P : Program} {t : TypeId} {d : TypeDesc} {a b : Value} {r : Bool} (w : World) (n : Nat) (ht : P.underlying t = some d) (h : eqV d a b = some r) : (Op.equalIn (n + 1) t a b).run P w = .ok r w := by
  unfold eqV at h
  split at h
  · cases h; simp [Op.equalIn, run_underlying ht]
  · split at h
    · rename_i hk; subst hk; cases h; simp [Op.equalIn, run_underlying ht]
    · cases h
  · cases h
    rename_i x y
    have := run_equalIn_string w n t x y ht
    rw [this, ByteArray.toList_eq, ByteArray.toList_eq]
  · cases h
theorem run_part1 {P : Program} {t : TypeId} {n : Nat} (ht : tyS P t = some (false, n)) (xs : Array Value) (i : Nat) (v : Value) (hv : xs[i]? = some v) (w : World) : (part t xs i).run P w = .ok v w := by
  obtain ⟨d, i', d1, d2, d3, d4⟩ := tyS_at ht
  have hagg : (isAgg t).run P w = .ok false w := by
    unfold isAgg
    rw [Sem.run_bind, run_underlying d1 w]
    cases d <;> simp_all
  simp [part, hagg, hv]
theorem run_eqVs {P : Program} (w : World) (n : Nat) (xs ys : Array Value) : ∀ (fs : List Field) (i : Nat) (ds : List TypeDesc) (as bs : List Value) (r : Bool), qF P fs i = some ds → eqVs ds as bs = some r → (∀ j v, as[j]? = some v → xs[i + j]? = some v) → (∀ j v, bs[j]? = some v → ys[i + j]? = some v) →
    (Op.eqFields (n + 1) xs ys fs).run P w = .ok r w := by
  intro fs
  induction fs with
  | nil => intro i ds as bs r h1 h2 _ _; cases h1; simp only [eqVs] at h2; cases h2; simp [Op.eqFields]
  | cons f fs ih =>
    intro i ds as bs r h1 h2 hx hy
    unfold qF at h1
    split at h1
    · rename_i hf
      obtain ⟨f1, f2, f3⟩ := hf
      cases hu : P.underlying f.type with
      | none => rw [hu] at h1; cases h1
      | some d =>
        rw [hu] at h1
        cases hq : qF P fs (i + 1) with
        | none => rw [hq] at h1; cases h1
        | some ds' =>
          rw [hq] at h1
          cases h1
          cases as with
          | nil => simp [eqVs] at h2
          | cons a as =>
            cases bs with
            | nil => simp [eqVs] at h2
            | cons b bs =>
              simp only [eqVs] at h2
              cases he : eqV d a b with
              | none => rw [he] at h2; cases h2
              | some r1 =>
                rw [he] at h2
                cases hr : eqVs ds' as bs with
                | none => rw [hr] at h2; cases h2
                | some r2 =>
                  rw [hr] at h2
                  cases h2
                  have p1 := run_part1 f3 xs i a (by simpa using hx 0 a rfl) w
                  have p2 := run_part1 f3 ys i b (by simpa using hy 0 b rfl) w
                  have p3 := run_eqV w n hu he
                  have p4 := ih (i + 1) ds' as bs r2 hq hr (fun j v h => by have := hx (j + 1) v (by simpa using h); rw [← this]; congr 1; omega) (fun j v h => by have := hy (j + 1) v (by simpa using h); rw [← this]; congr 1; omega)
                  simp only [Op.eqFields, if_pos f1, f2, Sem.run_bind, p1, p2, p3, Result.andThen_ok]
                  cases r1
                  · simp
                  · simpa using p4
    · cases h1
section
variable {P : Program} {f : Nat → Slot} {dst : Option Tmp} {ty : TypeId} {pos : String} {af : Array Edge} {gd : Option (Nat × Bool)}
theorem agg_vals {w : World} {M : Blks} {as : List Value} {v : Value} (h : (vagg (as.map vval)).p w M v) : v = .agg as.toArray := by
  obtain ⟨l, rfl, h1, h2⟩ := h
  have : l = as := by
    apply List.ext_getElem?
    intro j
    cases hj : as[j]? with
    | none =>
      rw [List.getElem?_eq_none_iff] at hj ⊢
      simpa [h1] using hj
    | some v =>
      obtain ⟨x, q1, q2, _⟩ := h2 j (vval v) (by simp [hj])
      have q2 : x = v := q2
      rw [q1, q2]
  rw [this]
theorem stp_aneq {t t' : TypeId} {x y : Operand} {ks : List TypeDesc} {r : Bool} (as bs : List Value) (ht : tyQ P t = some ks) (hx : evS f x = .dat (vagg (as.map vval))) (hy : evS f y = .dat (vagg (bs.map vval))) (hr : eqVs ks as bs = some r) : Stp P ⟨dst, .binOp .neq t x y t', ty, pos, af, gd⟩ f ⟨false, [], [], .dat (vbool (!r))⟩ :=
  stp_val fun X own g a w h => by
    have h1 := h x (by simp [Op.operands])
    have h2 := h y (by simp [Op.operands])
    rw [hx] at h1
    rw [hy] at h2
    have h1 := agg_vals h1
    have h2 := agg_vals h2
    have hq := tyQ_at ht
    refine ⟨.bool (!r), ?_, rfl⟩
    have h3 := run_eqVs w 9998 as.toArray bs.toArray _ 0 ks as bs r hq.2.2.2 hr (fun j v h => by simpa using h) (fun j v h => by simpa using h)
    have h4 := run_equalIn_struct w 9999 t as.toArray bs.toArray hq.2.2.1 hq.1
    simp only [execOp, h1, h2, Sem.run_bind, run_eqGuard_agg w _ t x y _ _ hq.2.1, Result.andThen_ok, run_neq_struct]
    rw [h4, h3]
    rfl
/-- a box of data that nobody turns -/
theorem stp_boxD {t : TypeId} {x : Operand} {us : List V} (hx : evS f x = .dat (vagg us)) : Stp P ⟨dst, .box t x, ty, pos, af, gd⟩ f ⟨false, [], [], .dat (vcell [us] 0 0)⟩ :=
  stp_grow fun X own g a w hlt h => by
    have h2 := h x (by simp [Op.operands])
    rw [hx] at h2
    obtain ⟨l, h3, h4⟩ := h2
    refine ⟨.pointer (some ⟨w.heap.size, 0, none⟩), w.alloc (.cells l.toArray t), ?_, (Kp.refl [] w).alloc _, w.heap.size, 0, us.length, by simp, fun hM => absurd (hlt _ hM) (Nat.lt_irrefl _), l.toArray, t, (0, 0), heap_alloc_new _ _, fun el hel => by simp at hel; rw [hel], fun k c el u hk hc => ?_⟩
    · simp [execOp, Instr.box, newVar, newRow, h3, Value.cells]
    · cases k with
      | succ k => simp at hk
      | zero =>
        simp at hk
        subst hk
        obtain ⟨x, q1, q2, q3⟩ := h4.2 c u hc
        refine ⟨x, by simpa using q1, u.keep (M := Mof X g own) ⟨by simp, fun b hb _ => ((Kp.refl [] w).alloc (.cells l.toArray t)).block b hb (by simp), fun b _ hb => hb⟩ q2, q3⟩
theorem stp_pneqC {t e t' : TypeId} {x : Operand} {es : List (List V)} {k c : Nat} (ht : P.underlying t = some (.pointer e)) (hx : evS f x = .dat (vcell es k c)) : Stp P ⟨dst, .binOp .neq t x (.const (.pointer none)) t', ty, pos, af, gd⟩ f ⟨false, [], [], .dat (vbool true)⟩ :=
  stp_val fun X own g a w h => by
    have h1 := h x (by simp [Op.operands])
    rw [hx] at h1
    obtain ⟨b, off, size, h2, _⟩ := h1
    have hp : P.underlying t = some (.pointer (P.pointee t)) := by simp [Program.pointee, ht]
    refine ⟨.bool true, ?_, rfl⟩
    have hc : a.eval (.const (.pointer none)) = .pointer none := rfl
    simp only [execOp, h2, hc, Sem.run_bind]
    simp [eqGuard, run_neq_pointer_nil w t _ hp]
theorem stp_pneqN {t e t' : TypeId} {x : Operand} (ht : P.underlying t = some (.pointer e)) (hx : evS f x = .dat (vval (.pointer none))) : Stp P ⟨dst, .binOp .neq t x (.const (.pointer none)) t', ty, pos, af, gd⟩ f ⟨false, [], [], .dat (vbool false)⟩ :=
  stp_val fun X own g a w h => by
    have h1 := val_of (h x (by simp [Op.operands])) hx
    have hp : P.underlying t = some (.pointer (P.pointee t)) := by simp [Program.pointee, ht]
    refine ⟨.bool false, ?_, rfl⟩
    have hc : a.eval (.const (.pointer none)) = .pointer none := rfl
    simp only [execOp, h1, hc, Sem.run_bind]
    simp [eqGuard, run_neq_pointer_nil w t _ hp]
end
end Go.Proofs.Ytmcegaabopcmfaa
