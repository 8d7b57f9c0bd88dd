/- The abstract machine: arrays of one-cell elements, built and compared. -/
import Derived.Test.YtpeeeanmfmhlgaaGreatDoorMc
namespace Go.Proofs.YtpeeeanmfmhlgaaGreatDoor
open Go.RowKit
set_option linter.unusedVariables false
def tyA (P : Program) (t : TypeId) : Option (Nat × TypeId × TypeDesc) :=
  match P.underlying t with
  | some (.array n e) => if P.eqGuardType P.depth t = false ∧ tyS P e = some (false, 1) then (P.underlying e).map fun d => (n, e, d) else none
  | _ => none
theorem tyA_at {P : Program} {t e : TypeId} {n : Nat} {d : TypeDesc} (h : tyA P t = some (n, e, d)) : P.underlying t = some (.array n e) ∧ P.eqGuardType P.depth t = false ∧ tyS P e = some (false, 1) ∧ P.underlying e = some d := by
  unfold tyA at h
  split at h
  · rename_i m e' hu
    split at h
    · rename_i hq
      cases he : P.underlying e' with
      | none => rw [he] at h; cases h
      | some d' => rw [he] at h; cases h; exact ⟨hu, hq.1, hq.2, he⟩
    · cases h
  · cases h
def eqVA (d : TypeDesc) : List Value → List Value → Option Bool
  | [], [] => some true
  | a :: as1, b :: bs => (eqV d a b).bind fun r => (eqVA d as1 bs).map (r && ·)
  | _, _ => none
theorem forIn_eq {P : Program} {w : World} {d : TypeDesc} {xs ys : Array Value} {body : Nat → (Option Bool × Unit) → Sem (ForInStep ((Option Bool × Unit)))}
    (hb : ∀ i a b r, xs[i]? = some a → ys[i]? = some b → eqV d a b = some r → (body i (none, ())).run P w = .ok (if r then .yield (none, ()) else .done (some false, ())) w) : ∀ (as1 bs : List Value) (i : Nat) (r : Bool), eqVA d as1 bs = some r → (∀ j v, as1[j]? = some v → xs[i + j]? = some v) → (∀ j v, bs[j]? = some v → ys[i + j]? = some v) →
    (forIn (List.range' i as1.length) ((none, ()) : (Option Bool × Unit)) body).run P w = .ok (if r then (none, ()) else (some false, ())) w := by
  intro as1
  induction as1 with
  | nil =>
    intro bs i r h _ _
    cases bs with
    | nil => cases h; simp
    | cons _ _ => cases h
  | cons a as1 ih =>
    intro bs i r h hx hy
    cases bs with
    | nil => cases h
    | cons b bs =>
      simp only [eqVA] at h
      cases he : eqV d a b with
      | none => rw [he] at h; cases h
      | some r1 =>
        rw [he] at h
        cases hr : eqVA d as1 bs with
        | none => rw [hr] at h; cases h
        | some r2 =>
          rw [hr] at h
          cases h
          have h1 := hb i a b r1 (by simpa using hx 0 a rfl) (by simpa using hy 0 b rfl) he
          have h2 := ih bs (i + 1) r2 hr (fun j v h => by have := hx (j + 1) v (by simpa using h); rw [← this]; congr 1; omega) (fun j v h => by have := hy (j + 1) v (by simpa using h); rw [← this]; congr 1; omega)
          simp only [List.length_cons, List.range'_succ, List.forIn_cons, Sem.run_bind, h1, Result.andThen_ok]
          cases r1
          · simp
          · simpa using h2
section
variable {P : Program} {f : Nat → Slot} {dst : Option Tmp} {ty : TypeId} {pos : String} {af : Array Edge} {gd : Option (Nat × Bool)}
theorem size1 {e : TypeId} (h : tyS P e = some (false, 1)) (w : World) : (sizeOf e).run P w = .ok 1 w := by
  obtain ⟨d, i, d1, d2, d3, d4⟩ := tyS_at h
  simp_all [sizeOf, typeInfo]
theorem run_equalIn_array {t e : TypeId} {n : Nat} {d : TypeDesc} {r : Bool} (w : World) (m : Nat) (as1 bs : List Value) (ht : tyA P t = some (n, e, d)) (hn : as1.length = n) (h : eqVA d as1 bs = some r) : (Op.equalIn (m + 2) t (.agg as1.toArray) (.agg bs.toArray)).run P w = .ok r w := by
  obtain ⟨h1, h2, h3, h4⟩ := tyA_at ht
  subst hn
  have hs := size1 h3 w
  rw [Op.equalIn]
  simp only [Sem.run_bind, run_underlying h1, Result.andThen_ok, hs]
  rw [Std.Legacy.Range.forIn_eq_forIn_range']
  have hl : Std.Legacy.Range.size [:as1.length] = as1.length := by simp [Std.Legacy.Range.size]
  rw [hl]
  have := forIn_eq (P := P) (w := w) (d := d) (xs := as1.toArray) (ys := bs.toArray) (body := fun i r => do
      let a ← part e as1.toArray (i * 1)
      let b ← part e bs.toArray (i * 1)
      let c ← Op.equalIn (m + 1) e a b
      if (!c) = true then pure (ForInStep.done (some false, ())) else pure (ForInStep.yield (none, ()))) (fun i a b r hx hy he => by
    have p1 := run_part1 h3 as1.toArray (i * 1) a (by simpa using hx) w
    have p2 := run_part1 h3 bs.toArray (i * 1) b (by simpa using hy) w
    have p3 := run_eqV w m h4 he
    simp only [Sem.run_bind, p1, p2, p3, Result.andThen_ok]
    cases r <;> simp) as1 bs 0 r h (fun j v h => by simpa using h) (fun j v h => by simpa using h)
  refine Eq.trans (congrArg (fun z => Result.andThen z _) this) ?_
  cases r <;> simp
theorem stp_aeqlA {t e t' : TypeId} {n : Nat} {d : TypeDesc} {x y : Operand} {r : Bool} (as1 bs : List Value) (ht : tyA P t = some (n, e, d)) (hn : as1.length = n) (hx : evS f x = .dat (vagg (as1.map vval))) (hy : evS f y = .dat (vagg (bs.map vval))) (hr : eqVA d as1 bs = some r) : Stp P ⟨dst, .binOp .eql t x y t', ty, pos, af, gd⟩ f ⟨false, [], [], .dat (vbool r)⟩ :=
  stp_val fun X own g a w h => by
    have h1 := h x (by simp [Op.operands])
    have h2 := h y (by simp [Op.operands])
    rw [hx] at h1
    rw [hy] at h2
    have h1 := agg_vals h1
    have h2 := agg_vals h2
    have hq := tyA_at ht
    refine ⟨.bool r, ?_, rfl⟩
    have h4 := run_equalIn_array (P := P) w 9998 as1 bs ht hn hr
    simp only [execOp, h1, h2, Sem.run_bind, run_eqGuard_agg w _ t x y _ _ hq.2.1, Result.andThen_ok, run_eql_struct]
    rw [h4]
    rfl
theorem stp_buildA {t e : TypeId} {n : Nat} {d : TypeDesc} {ps : Array (Nat × Operand)} {zs : List Value} (pv : List (Nat × List V)) (hz : tyZ P t = some zs) (ht : tyA P t = some (n, e, d)) (h1 : zs.all (·.oneCell') = true) (hpv : partsOK f (fun i => some (i * 1, 1)) zs.length ps.toList pv) :
    Stp P ⟨dst, .build t ps, ty, pos, af, gd⟩ f ⟨false, [], [], .dat (vagg (buildV (zs.map vval) pv))⟩ :=
  stp_val fun X own g a w h => by
    obtain ⟨hu, _, h3, _⟩ := tyA_at ht
    have hs := size1 h3 w
    unfold tyZ at hz
    cases hi : P.info? t with
    | none => rw [hi] at hz; cases hz
    | some i =>
      rw [hi] at hz
      cases hzz : i.zero with
      | none => simp [hzz] at hz
      | some z =>
        simp [hzz] at hz
        have e1 : z.cells = zs.toArray := by rw [← hz]
        have hCs : Cs w (Mof X g own) (zs.map vval) zs.toArray.toList := by
          refine ⟨by simp, fun j u hj => ?_⟩
          rw [List.getElem?_map] at hj
          cases hq : zs[j]? with
          | none => rw [hq] at hj; cases hj
          | some x => rw [hq] at hj; cases hj; exact ⟨x, rfl, rfl, (List.all_eq_true.1 h1) x (List.mem_of_getElem? hq)⟩
        obtain ⟨cells, r1, r2⟩ := fill_ok (ev := a.eval) ps.toList pv (zs.map vval) zs.toArray (by simp only [List.length_map]; exact hpv) (fun p hp => h p.2 (by simp only [Op.operands]; simp; exact ⟨p.1, by simpa using hp⟩)) hCs
        refine ⟨.agg cells, ?_, cells.toList, by simp, r2⟩
        have hmap : (ps.map fun (i, x) => (i, a.eval x)).toList = ps.toList.map fun p => (p.1, a.eval p.2) := by simp
        have hzv : (zeroValue t).run P w = .ok z w := by simp [zeroValue, typeInfo, hi, hzz]
        simp only [execOp, Instr.build, hzv, Sem.run_bind, Sem.run_pure, Result.andThen_ok, run_underlying hu, hs, e1, hmap, r1]
/-- make: a row of zeros, seen otherwise -/
theorem stp_makeW (id : Nat) {t e : TypeId} {size bytes : Nat} {x y : Operand} {n m : Nat} {zs : List Value} {cs : List V} (hE : Elem P t e size bytes) (hz : tyZ P e = some zs) (h1 : zs.all (·.oneCell') = true) (hwk : WkL (zs.map vval) cs) (hx : evS f x = .dat (vint (n : Int))) (hy : evS f y = .dat (vint (m : Int))) (hnm : n ≤ m) (hm : m ≤ 1000000000) (hb : m * bytes ≤ 281474976710656) :
    Stp P ⟨dst, .makeSlice t x y, ty, pos, af, gd⟩ f ⟨false, [(id, none)], [(id, some (some (.row e size (List.replicate n cs))))], .row id n⟩ := by
  refine stp_upd fun X f' own g a w hr ho h => ?_
  have h2 := val_of (h x (by simp [Op.operands])) hx
  have h3 := val_of (h y (by simp [Op.operands])) hy
  obtain ⟨e1, i, z, e2, e3, e4, e5, e6, e7, e8, e9⟩ := elem_at hE w
  have hzs : z.cells.toList = zs := by simpa [tyZ, e2, e5] using hz
  have hbm : ((bytes : Int) * (m : Int)) = ((m * bytes : Nat) : Int) := by rw [Nat.mul_comm]; simp
  have hmk := run_make (P := P) w t e i z e1 e2 e5 .i64 .i64 n m (by omega) (by omega) (by rw [e4, hbm]; omega) (by omega)
  rw [e3] at hmk
  simp only [Int.toNat_natCast] at hmk
  have hzl : zs.length = size := by rw [← hzs]; simpa using e6
  let v : Value := .slice (some ⟨w.heap.size, 0, none⟩) n m
  let g' : Gh := ⟨g.bl, fun i k => if i = id ∧ k = n then some v else g.sv i k⟩
  have hsv : g'.sv id n = some v := if_pos ⟨rfl, rfl⟩
  have hlen : (List.replicate n cs).length = n := by simp
  refine ⟨g', w.alloc (.cells (madeCells z.cells (m * size)) e), .value v, v, ⟨fun _ _ h => h, fun i k u hu => ?_⟩, fun i hi => ⟨rfl, fun k => if_neg fun h => hi h.1⟩, ?_, .inl rfl, .inl ((Kp.refl [] w).alloc _), fun b hb => ?_, fun e' s' es' he k hk => ?_, fun M' he => ⟨⟨v, (madeCells z.cells (m * size)).toList.take (n * size), by rw [hlen]; exact hsv, ⟨?_, .inr ⟨w.heap.size, m, _, by rw [hlen], Nat.zero_le _, heap_alloc_new w _, by rw [hlen]; exact hnm, by unfold maxLen; omega, by rw [size_madeCells], by rw [hlen]⟩⟩, e7, fun el hel => ?_, fun k c el u hk hc => ?_⟩, hsv⟩⟩
  · show (if i = id ∧ k = n then some v else g.sv i k) = some u
    rw [if_neg]
    · exact hu
    · rintro ⟨rfl, rfl⟩
      rw [(hr.fresh i ho).2] at hu
      cases hu
  · simp only [execOp, h2, h3, Sem.run_bind, hmk, Result.andThen_ok, Sem.run_pure]; rfl
  · simp only [obk, hlen, hsv, Option.bind_some] at hb
    exact .inl (by cases hb; exact Nat.le_refl _)
  · cases he
    rw [hlen] at hk
    show (if id = id ∧ k = n then some v else g.sv id k) = none
    rw [if_neg (by omega)]
    exact (hr.fresh id ho).2 k
  · rw [hlen, List.length_take, Array.length_toList, size_madeCells]
    have := Nat.mul_le_mul_right size hnm
    omega
  · rw [List.eq_of_mem_replicate hel, ← (wkL_at hwk).1]; simpa using hzl
  · have hk' := List.eq_of_mem_replicate (List.mem_of_getElem? hk)
    subst hk'
    have hkn : k < n := by have := (List.getElem?_eq_some_iff.1 hk).1; simpa using this
    obtain ⟨u0, hu0, hwu⟩ := (wkL_at hwk).2 c u hc
    rw [List.getElem?_map] at hu0
    cases hq : zs[c]? with
    | none => rw [hq] at hu0; cases hu0
    | some x =>
      rw [hq] at hu0
      cases hu0
      have hcl := (List.getElem?_eq_some_iff.1 hq).1
      refine ⟨x, ?_, hwu _ _ _ rfl, (List.all_eq_true.1 h1) x (List.mem_of_getElem? hq)⟩
      have hlt : k * size + c < n * size := idx_lt hkn (by omega)
      have hlt2 := Nat.lt_of_lt_of_le hlt (Nat.mul_le_mul_right size hnm)
      rw [List.getElem?_take, if_pos hlt]
      have e10 : (k * size + c) % size = c := by rw [Nat.mul_comm, Nat.mul_add_mod]; exact Nat.mod_eq_of_lt (by omega)
      have e11 : z.cells[c]? = some x := by rw [← hzs] at hq; simpa using hq
      have e12 : z.cells[c]! = x := by rw [Array.getElem!_eq_getD, Array.getD_eq_getD_getElem?, e11]; rfl
      simp [madeCells, hlt2, e6, e10, e12]
theorem t_makeW {α : Type} {C : α → List V} (id : Nat) (z : α) {t e : TypeId} {size bytes : Nat} {x y : Operand} {m : Int} {zs : List Value} (hE : Elem P t e size bytes) (hz : tyZ P e = some zs) (h1 : zs.all (·.oneCell') = true) (hwk : WkL (zs.map vval) (C z)) (hx : evS f x = .dat (vint m)) (hy : evS f y = .dat (vint m)) (hm : 0 ≤ m ∧ m ≤ 1000000000) (hby : Nat.ble bytes 140737 = true) :
    Stp P ⟨dst, .makeSlice t x y, ty, pos, af, gd⟩ f ⟨false, [(id, none)], [(id, some (some (.row e size ((List.replicate m.toNat z).map C))))], .row id m.toNat⟩ := by
  have hb := Nat.le_of_ble_eq_true hby
  obtain ⟨n, rfl⟩ := Int.eq_ofNat_of_zero_le hm.1
  have h := stp_makeW (dst := dst) (ty := ty) (pos := pos) (af := af) (gd := gd) id (n := n) (m := n) hE hz h1 hwk hx hy (Nat.le_refl _) (by omega) (Nat.le_trans (Nat.mul_le_mul (show n ≤ 1000000000 by omega) hb) (by decide))
  rw [List.map_replicate]
  exact h
end
end Go.Proofs.YtpeeeanmfmhlgaaGreatDoor
