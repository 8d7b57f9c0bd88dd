/- The abstract machine: arrays of one-cell elements, built and compared. -/
import Derived.Test.YtbicifgfibafmaaGreatDoorMc
import Derived.WideLaws
import Derived.Laws.Entries
import Derived.Laws.IdiomStrings
namespace Go.Proofs.YtbicifgfibafmaaGreatDoor
open Go.RowKit
set_option linter.unusedVariables false
def tyA (P : Program) (t : TypeId) : Option (Nat × TypeId × TypeDesc) :=
  match P.underlying t with
  | some (.array n e) => if P.eqGuardType P.depth t = false ∧ tyS P e = some (false, 1) then (P.underlying e).map fun d => (n, e, d) else none
  | _ => none
theorem tyA_at {P : Program} {t e : TypeId} {n : Nat} {d : TypeDesc} (h : tyA P t = some (n, e, d)) : P.underlying t = some (.array n e) ∧ P.eqGuardType P.depth t = false ∧ tyS P e = some (false, 1) ∧ P.underlying e = some d := by
  unfold tyA at h
  split at h
  · rename_i m e' hu
    split at h
    · rename_i hq
      cases he : P.underlying e' with
      | none => rw [he] at h; cases h
      | some d' => rw [he] at h; cases h; exact ⟨hu, hq.1, hq.2, he⟩
    · cases h
  · cases h
def eqVA (d : TypeDesc) : List Value → List Value → Option Bool
  | [], [] => some true
  | a :: as1, b :: bs => (eqV d a b).bind fun r => (eqVA d as1 bs).map (r && ·)
  | _, _ => none
theorem forIn_eq {P : Program} {w : World} {d : TypeDesc} {xs ys : Array Value} {body : Nat → (Option Bool × Unit) → Sem (ForInStep ((Option Bool × Unit)))}
    (hb : ∀ i a b r, xs[i]? = some a → ys[i]? = some b → eqV d a b = some r → (body i (none, ())).run P w = .ok (if r then .yield (none, ()) else .done (some false, ())) w) : ∀ (as1 bs : List Value) (i : Nat) (r : Bool), eqVA d as1 bs = some r → (∀ j v, as1[j]? = some v → xs[i + j]? = some v) → (∀ j v, bs[j]? = some v → ys[i + j]? = some v) →
    (forIn (List.range' i as1.length) ((none, ()) : (Option Bool × Unit)) body).run P w = .ok (if r then (none, ()) else (some false, ())) w := by
  intro as1
  induction as1 with
  | nil =>
    intro bs i r h _ _
    cases bs with
    | nil => cases h; simp
    | cons _ _ => cases h
  | cons a as1 ih =>
    intro bs i r h hx hy
    cases bs with
    | nil => cases h
    | cons b bs =>
      simp only [eqVA] at h
      cases he : eqV d a b with
      | none => rw [he] at h; cases h
      | some r1 =>
        rw [he] at h
        cases hr : eqVA d as1 bs with
        | none => rw [hr] at h; cases h
        | some r2 =>
          rw [hr] at h
          cases h
          have h1 := hb i a b r1 (by simpa using hx 0 a rfl) (by simpa using hy 0 b rfl) he
          have h2 := ih bs (i + 1) r2 hr (fun j v h => by have := hx (j + 1) v (by simpa using h); rw [← this]; congr 1; omega) (fun j v h => by have := hy (j + 1) v (by simpa using h); rw [← this]; congr 1; omega)
          simp only [List.length_cons, List.range'_succ, List.forIn_cons, Sem.run_bind, h1, Result.andThen_ok]
          cases r1
          · simp
          · simpa using h2
section
variable {P : Program} {f : Nat → Slot} {dst : Option Tmp} {ty : TypeId} {pos : String} {af : Array Edge} {gd : Option (Nat × Bool)}
theorem size1 {e : TypeId} (h : tyS P e = some (false, 1)) (w : World) : (sizeOf e).run P w = .ok 1 w := by
  obtain ⟨d, i, d1, d2, d3, d4⟩ := tyS_at h
  simp_all [sizeOf, typeInfo]
theorem run_equalIn_array {t e : TypeId} {n : Nat} {d : TypeDesc} {r : Bool} (w : World) (m : Nat) (as1 bs : List Value) (ht : tyA P t = some (n, e, d)) (hn : as1.length = n) (h : eqVA d as1 bs = some r) : (Op.equalIn (m + 2) t (.agg as1.toArray) (.agg bs.toArray)).run P w = .ok r w := by
  obtain ⟨h1, h2, h3, h4⟩ := tyA_at ht
  subst hn
  have hs := size1 h3 w
  rw [Op.equalIn]
  simp only [Sem.run_bind, run_underlying h1, Result.andThen_ok, hs]
  rw [Std.Legacy.Range.forIn_eq_forIn_range']
  have hl : Std.Legacy.Range.size [:as1.length] = as1.length := by simp [Std.Legacy.Range.size]
  rw [hl]
  have := forIn_eq (P := P) (w := w) (d := d) (xs := as1.toArray) (ys := bs.toArray) (body := fun i r => do
      let a ← part e as1.toArray (i * 1)
      let b ← part e bs.toArray (i * 1)
      let c ← Op.equalIn (m + 1) e a b
      if (!c) = true then pure (ForInStep.done (some false, ())) else pure (ForInStep.yield (none, ()))) (fun i a b r hx hy he => by
    have p1 := run_part1 h3 as1.toArray (i * 1) a (by simpa using hx) w
    have p2 := run_part1 h3 bs.toArray (i * 1) b (by simpa using hy) w
    have p3 := run_eqV w m h4 he
    simp only [Sem.run_bind, p1, p2, p3, Result.andThen_ok]
    cases r <;> simp) as1 bs 0 r h (fun j v h => by simpa using h) (fun j v h => by simpa using h)
  refine Eq.trans (congrArg (fun z => Result.andThen z _) this) ?_
  cases r <;> simp
theorem stp_aeqlA {t e t' : TypeId} {n : Nat} {d : TypeDesc} {x y : Operand} {r : Bool} (as1 bs : List Value) (ht : tyA P t = some (n, e, d)) (hn : as1.length = n) (hx : evS f x = .dat (vagg (as1.map vval))) (hy : evS f y = .dat (vagg (bs.map vval))) (hr : eqVA d as1 bs = some r) : Stp P ⟨dst, .binOp .eql t x y t', ty, pos, af, gd⟩ f ⟨false, [], [], .dat (vbool r)⟩ :=
  stp_val fun X own g a w h => by
    have h1 := h x (by simp [Op.operands])
    have h2 := h y (by simp [Op.operands])
    rw [hx] at h1
    rw [hy] at h2
    have h1 := agg_vals h1
    have h2 := agg_vals h2
    have hq := tyA_at ht
    refine ⟨.bool r, ?_, rfl⟩
    have h4 := run_equalIn_array (P := P) w 9998 as1 bs ht hn hr
    simp only [execOp, h1, h2, Sem.run_bind, run_eqGuard_agg w _ t x y _ _ hq.2.1, Result.andThen_ok, run_eql_struct]
    rw [h4]
    rfl
theorem stp_buildA {t e : TypeId} {n : Nat} {d : TypeDesc} {ps : Array (Nat × Operand)} {zs : List Value} (pv : List (Nat × List V)) (hz : tyZ P t = some zs) (ht : tyA P t = some (n, e, d)) (h1 : zs.all (·.oneCell') = true) (hpv : partsOK f (fun i => some (i * 1, 1)) zs.length ps.toList pv) :
    Stp P ⟨dst, .build t ps, ty, pos, af, gd⟩ f ⟨false, [], [], .dat (vagg (buildV (zs.map vval) pv))⟩ :=
  stp_val fun X own g a w h => by
    obtain ⟨hu, _, h3, _⟩ := tyA_at ht
    have hs := size1 h3 w
    unfold tyZ at hz
    cases hi : P.info? t with
    | none => rw [hi] at hz; cases hz
    | some i =>
      rw [hi] at hz
      cases hzz : i.zero with
      | none => simp [hzz] at hz
      | some z =>
        simp [hzz] at hz
        have e1 : z.cells = zs.toArray := by rw [← hz]
        have hCs : Cs w (Mof X g own) (zs.map vval) zs.toArray.toList := by
          refine ⟨by simp, fun j u hj => ?_⟩
          rw [List.getElem?_map] at hj
          cases hq : zs[j]? with
          | none => rw [hq] at hj; cases hj
          | some x => rw [hq] at hj; cases hj; exact ⟨x, rfl, rfl, (List.all_eq_true.1 h1) x (List.mem_of_getElem? hq)⟩
        obtain ⟨cells, r1, r2⟩ := fill_ok (ev := a.eval) ps.toList pv (zs.map vval) zs.toArray (by simp only [List.length_map]; exact hpv) (fun p hp => h p.2 (by simp only [Op.operands]; simp; exact ⟨p.1, by simpa using hp⟩)) hCs
        refine ⟨.agg cells, ?_, cells.toList, by simp, r2⟩
        have hmap : (ps.map fun (i, x) => (i, a.eval x)).toList = ps.toList.map fun p => (p.1, a.eval p.2) := by simp
        have hzv : (zeroValue t).run P w = .ok z w := by simp [zeroValue, typeInfo, hi, hzz]
        simp only [execOp, Instr.build, hzv, Sem.run_bind, Sem.run_pure, Result.andThen_ok, run_underlying hu, hs, e1, hmap, r1]
/-- make: a row of zeros, seen otherwise -/
theorem stp_makeW (id : Nat) {t e : TypeId} {size bytes : Nat} {x y : Operand} {n m : Nat} {zs : List Value} {cs : List V} (hE : Elem P t e size bytes) (hz : tyZ P e = some zs) (h1 : zs.all (·.oneCell') = true) (hwk : WkL (zs.map vval) cs) (hx : evS f x = .dat (vint (n : Int))) (hy : evS f y = .dat (vint (m : Int))) (hnm : n ≤ m) (hm : m ≤ 1000000000) (hb : m * bytes ≤ 281474976710656) :
    Stp P ⟨dst, .makeSlice t x y, ty, pos, af, gd⟩ f ⟨false, [(id, none)], [(id, some (some (.row e size (List.replicate n cs))))], .row id n⟩ := by
  refine stp_upd fun X f' own g a w hr ho h => ?_
  have h2 := val_of (h x (by simp [Op.operands])) hx
  have h3 := val_of (h y (by simp [Op.operands])) hy
  obtain ⟨e1, i, z, e2, e3, e4, e5, e6, e7, e8, e9⟩ := elem_at hE w
  have hzs : z.cells.toList = zs := by simpa [tyZ, e2, e5] using hz
  have hbm : ((bytes : Int) * (m : Int)) = ((m * bytes : Nat) : Int) := by rw [Nat.mul_comm]; simp
  have hmk := run_make (P := P) w t e i z e1 e2 e5 .i64 .i64 n m (by omega) (by omega) (by rw [e4, hbm]; omega) (by omega)
  rw [e3] at hmk
  simp only [Int.toNat_natCast] at hmk
  have hzl : zs.length = size := by rw [← hzs]; simpa using e6
  let v : Value := .slice (some ⟨w.heap.size, 0, none⟩) n m
  let g' : Gh := ⟨g.bl, fun i k => if i = id ∧ k = n then some v else g.sv i k⟩
  have hsv : g'.sv id n = some v := if_pos ⟨rfl, rfl⟩
  have hlen : (List.replicate n cs).length = n := by simp
  refine ⟨g', w.alloc (.cells (madeCells z.cells (m * size)) e), .value v, v, ⟨fun _ _ h => h, fun i k u hu => ?_⟩, fun i hi => ⟨rfl, fun k => if_neg fun h => hi h.1⟩, ?_, .inl rfl, .inl ((Kp.refl [] w).alloc _), fun b hb => ?_, fun e' s' es' he k hk => ?_, fun M' he => ⟨⟨v, (madeCells z.cells (m * size)).toList.take (n * size), by rw [hlen]; exact hsv, ⟨?_, .inr ⟨w.heap.size, m, _, by rw [hlen], Nat.zero_le _, heap_alloc_new w _, by rw [hlen]; exact hnm, by unfold maxLen; omega, by rw [size_madeCells], by rw [hlen]⟩⟩, e7, fun el hel => ?_, fun k c el u hk hc => ?_⟩, hsv⟩⟩
  · show (if i = id ∧ k = n then some v else g.sv i k) = some u
    rw [if_neg]
    · exact hu
    · rintro ⟨rfl, rfl⟩
      rw [(hr.fresh i ho).2] at hu
      cases hu
  · simp only [execOp, h2, h3, Sem.run_bind, hmk, Result.andThen_ok, Sem.run_pure]; rfl
  · simp only [obk, hlen, hsv, Option.bind_some] at hb
    exact .inl (by cases hb; exact Nat.le_refl _)
  · cases he
    rw [hlen] at hk
    show (if id = id ∧ k = n then some v else g.sv id k) = none
    rw [if_neg (by omega)]
    exact (hr.fresh id ho).2 k
  · rw [hlen, List.length_take, Array.length_toList, size_madeCells]
    have := Nat.mul_le_mul_right size hnm
    omega
  · rw [List.eq_of_mem_replicate hel, ← (wkL_at hwk).1]; simpa using hzl
  · have hk' := List.eq_of_mem_replicate (List.mem_of_getElem? hk)
    subst hk'
    have hkn : k < n := by have := (List.getElem?_eq_some_iff.1 hk).1; simpa using this
    obtain ⟨u0, hu0, hwu⟩ := (wkL_at hwk).2 c u hc
    rw [List.getElem?_map] at hu0
    cases hq : zs[c]? with
    | none => rw [hq] at hu0; cases hu0
    | some x =>
      rw [hq] at hu0
      cases hu0
      have hcl := (List.getElem?_eq_some_iff.1 hq).1
      refine ⟨x, ?_, hwu _ _ _ rfl, (List.all_eq_true.1 h1) x (List.mem_of_getElem? hq)⟩
      have hlt : k * size + c < n * size := idx_lt hkn (by omega)
      have hlt2 := Nat.lt_of_lt_of_le hlt (Nat.mul_le_mul_right size hnm)
      rw [List.getElem?_take, if_pos hlt]
      have e10 : (k * size + c) % size = c := by rw [Nat.mul_comm, Nat.mul_add_mod]; exact Nat.mod_eq_of_lt (by omega)
      have e11 : z.cells[c]? = some x := by rw [← hzs] at hq; simpa using hq
      have e12 : z.cells[c]! = x := by rw [Array.getElem!_eq_getD, Array.getD_eq_getD_getElem?, e11]; rfl
      simp [madeCells, hlt2, e6, e10, e12]
theorem t_makeW {α : Type} {C : α → List V} (id : Nat) (z : α) {t e : TypeId} {size bytes : Nat} {x y : Operand} {m : Int} {zs : List Value} (hE : Elem P t e size bytes) (hz : tyZ P e = some zs) (h1 : zs.all (·.oneCell') = true) (hwk : WkL (zs.map vval) (C z)) (hx : evS f x = .dat (vint m)) (hy : evS f y = .dat (vint m)) (hm : 0 ≤ m ∧ m ≤ 1000000000) (hby : Nat.ble bytes 140737 = true) :
    Stp P ⟨dst, .makeSlice t x y, ty, pos, af, gd⟩ f ⟨false, [(id, none)], [(id, some (some (.row e size ((List.replicate m.toNat z).map C))))], .row id m.toNat⟩ := by
  have hb := Nat.le_of_ble_eq_true hby
  obtain ⟨n, rfl⟩ := Int.eq_ofNat_of_zero_le hm.1
  have h := stp_makeW (dst := dst) (ty := ty) (pos := pos) (af := af) (gd := gd) id (n := n) (m := n) hE hz h1 hwk hx hy (Nat.le_refl _) (by omega) (Nat.le_trans (Nat.mul_le_mul (show n ≤ 1000000000 by omega) hb) (by decide))
  rw [List.map_replicate]
  exact h
/-- an array of bytes in a box -/
abbrev bxU (l : List Int) : List V := l.map fun x => vval (.int .u8 x)
theorem t_allocU (id n : Nat) {t : TypeId} (hz : tyZ P t = some (List.replicate n (.int .u8 0))) : Stp P ⟨dst, .alloc t, ty, pos, af, gd⟩ f ⟨false, [(id, none)], [(id, some (some (.box none t ((bxU (List.replicate n 0)).map .dat))))], .ptr id 0⟩ := by
  have h := stp_alloc (dst := dst) (ty := ty) (pos := pos) (af := af) (gd := gd) (f := f) id hz (List.all_eq_true.2 fun v hv => by rw [List.eq_of_mem_replicate hv]; rfl)
  have e : (List.replicate n (Value.int .u8 0)).map ofConst = (bxU (List.replicate n 0)).map .dat := by simp [bxU, ofConst]
  rw [e] at h
  exact h
theorem t_aidx {t e : TypeId} {n id : Nat} {d : TypeDesc} {x ix : Operand} {m : Int} (ht : tyA P t = some (n, e, d)) (hx : evS f x = .ptr id 0) (hi : evS f ix = .dat (vint m)) (hk : 0 ≤ m ∧ m < (n : Int)) :
    Stp P ⟨dst, .indexAddr t x ix, ty, pos, af, gd⟩ f ⟨false, [], [], .ptr id m.toNat⟩ :=
  stp_val fun X own g a w hh => by
    have h2 := hh x (by simp [Op.operands])
    have h3 := val_of (hh ix (by simp [Op.operands])) hi
    rw [hx] at h2
    obtain ⟨b, q1, q2⟩ := h2
    obtain ⟨hu, _, h4, _⟩ := tyA_at ht
    have hs := size1 h4 w
    refine ⟨.pointer (some ⟨b, m.toNat, none⟩), ?_, b, q1, rfl⟩
    have e3 : (⟨b, 0, none⟩ : Addr).add (m.toNat * 1) = ⟨b, m.toNat, none⟩ := by rw [Addr.add_mid]; simp
    simp only [execOp, h3, q2, Instr.indexAt, asIntOf, Instr.sureAddr, Sem.run_bind, run_underlying hu, Result.andThen_ok, Sem.run_pure]
    rw [if_pos hk]
    simp only [Sem.run_bind, hs, Result.andThen_ok, Sem.run_pure, e3]
theorem t_storeU {t bt : TypeId} {p x : Operand} {id off : Nat} {an : Option Nat} {l : List Int} {y : Int} (ht : tyS P t = some (false, 1)) (hp : evS f p = .ptr id off) (hx : evS f x = .dat (vval (.int .u8 y))) (ho : off < l.length) :
    Stp P ⟨dst, .store t p x, ty, pos, af, gd⟩ f ⟨false, [(id, some (some (.box an bt ((bxU l).map .dat))))], [(id, some (some (.box an bt ((bxU (l.set off y)).map .dat))))], .any⟩ := by
  have h := stp_store1 (dst := dst) (ty := ty) (pos := pos) (af := af) (gd := gd) (an := an) (bt := bt) (cs := (bxU l).map .dat) ht hp hx rfl (by simpa [Nat.blt_eq, bxU] using ho)
  have e : ((bxU l).map Slot.dat).set off (.dat (vval (.int .u8 y))) = (bxU (l.set off y)).map .dat := by simp [bxU, List.map_set]
  rw [e] at h
  exact h
theorem t_aslice {t e : TypeId} {n : Nat} {d : TypeDesc} {x y : Operand} {l : List Int} {m : Int} {C : Int → List V} (ht : tyA P t = some (n, e, d)) (hx : evS f x = .dat (vcell [bxU l] 0 0)) (hn : l.length = n) (hy : evS f y = .dat (vint m)) (hk : 0 ≤ m ∧ m ≤ (n : Int)) (hC : ∀ n, C n = [vval (.int .u8 n)]) :
    Stp P ⟨dst, .slice t x (some y) none none, ty, pos, af, gd⟩ f ⟨false, [], [], .dat (vlst ((l.drop m.toNat).map C))⟩ :=
  stp_val fun X own g a w hh => by
    have h2 := hh x (by simp [Op.operands])
    have h3 := val_of (hh y (by simp [Op.operands])) hy
    rw [hx] at h2
    obtain ⟨b, off, size, q1, hM, arr, te, fz, q3, q4, q5⟩ := h2
    obtain ⟨hu, _, h4, _⟩ := tyA_at ht
    have hs := size1 h4 w
    obtain ⟨k, rfl⟩ := Int.eq_ofNat_of_zero_le hk.1
    have hkn : k ≤ n := by omega
    subst hn
    refine ⟨.slice (some ⟨b, off + (if l.length = k then 0 else k), none⟩) (l.length - k) (l.length - k), ?_, some ⟨b, off + (if l.length = k then 0 else k), none⟩, l.length - k, by simp, by simp, fun hne => ⟨b, _, 1, rfl, hM, arr, te, fz, q3, fun el hel => ?_, fun j c el u hj hc => ?_⟩⟩
    · have e1 : (⟨b, off, none⟩ : Addr).add (k * 1) = ⟨b, off + k, none⟩ := by rw [Addr.add_mid, Nat.mul_one]
      simp only [Nat.zero_mul, Nat.add_zero] at q1
      simp only [execOp, h3, q1, Option.map_some, Option.map_none, Instr.sliceAt, Sem.run_bind, run_underlying hu, Result.andThen_ok, Instr.sureAddr, Sem.run_pure, Instr.sliceBounds, Instr.sliceBound, asIntOf]
      rw [if_pos ⟨by omega, by omega⟩]
      simp only [Sem.run_pure, Result.andThen_ok, hs, Int.toNat_natCast, e1]
      by_cases h0 : l.length = k
      · simp [h0]
      · simp [h0]
    · obtain ⟨x, _, rfl⟩ := List.mem_map.1 hel
      rw [hC]; rfl
    · rw [List.getElem?_map, List.getElem?_drop] at hj
      cases hq : l[k + j]? with
      | none => simp [hq] at hj
      | some z =>
        simp [hq] at hj
        subst hj
        have hlt := (List.getElem?_eq_some_iff.1 hq).1
        have h0 : ¬ l.length = k := by omega
        rw [hC] at hc
        cases c with
        | succ c => simp at hc
        | zero =>
          simp at hc
          subst hc
          obtain ⟨x, s1, s2, s3⟩ := q5 0 (k + j) (bxU l) (vval (.int .u8 z)) rfl (by simp [bxU, hq])
          refine ⟨x, ?_, s2, s3⟩
          rw [if_neg h0]
          rw [← s1]; congr 1; omega
theorem t_byteK {t : TypeId} {x ix : Operand} {l : List UInt8} {kd : IntKind} {m : Int} {c : UInt8} (ht : P.underlying t = some .string) (hx : evS f x = .dat (vstr l)) (hi : evS f ix = .dat (vval (.int kd m))) (hk : at? l m = some c) :
    Stp P ⟨dst, .index t x ix, ty, pos, af, gd⟩ f ⟨false, [], [], .dat (vval (.int .u8 (c.toNat : Int)))⟩ :=
  stp_val fun X own g a w h => by
    have h1 := val_of (h x (by simp [Op.operands])) hx
    have h2 := val_of (h ix (by simp [Op.operands])) hi
    obtain ⟨⟨q1, q2⟩, q3⟩ := at_some hk
    obtain ⟨k, rfl⟩ := Int.eq_ofNat_of_zero_le q1
    rw [Int.toNat_natCast] at q3
    refine ⟨.int .u8 (c.toNat : Int), ?_, rfl⟩
    have hlt := (List.getElem?_eq_some_iff.1 q3).1
    have e1 : (ByteArray.mk l.toArray)[k]? = some c := by
      have : k < (ByteArray.mk l.toArray).size := by simpa [ByteArray.size] using hlt
      rw [getElem?_pos (ByteArray.mk l.toArray) k this]
      rw [List.getElem?_eq_getElem hlt] at q3
      exact q3
    simp [execOp, h1, h2, Instr.index, asIntOf, run_underlying ht, e1]
/-- an interface that is nil, compared with nil -/
theorem stp_ifneq {t t' : TypeId} {x : Operand} (ht : P.underlying t = some (.interface (P.methodsAt t))) (hx : evS f x = .dat (vval .nilIface)) : Stp P ⟨dst, .binOp .neq t x (.const .nilIface) t', ty, pos, af, gd⟩ f ⟨false, [], [], .dat (vbool false)⟩ :=
  stp_val fun X own g a w h => by
    have h1 := val_of (h x (by simp [Op.operands])) hx
    have hc : a.eval (.const .nilIface) = .nilIface := rfl
    refine ⟨.bool false, ?_, rfl⟩
    simp only [execOp, h1, hc, Sem.run_bind, eqGuard_nil_constR, Sem.run_pure, Result.andThen_ok, run_neq_nil_nil w t ht]
theorem stp_quoK {t t' : TypeId} {x y : Operand} {k : IntKind} {m n : Int} (hx : evS f x = .dat (vval (.int k m))) (hy : evS f y = .dat (vval (.int k n))) (h1 : n ≠ 0) :
    Stp P ⟨dst, .binOp .quo t x y t', ty, pos, af, gd⟩ f ⟨false, [], [], .dat (vval (.int k (k.wrap (m.tdiv n))))⟩ :=
  stp_bin hx hy fun w => by simp [eqGuard, binOp, Op.intDiv, h1]
/-- a string's bytes -/
theorem stp_convS2B {s d e : TypeId} {x : Operand} {l : Bs} {C : Int → List V} (hs : P.underlying s = some .string) (hd : P.underlying d = some (.slice e)) (he : P.underlying e = some (.int .u8)) (hC : ∀ n, C n = [vval (.int .u8 n)]) (hx : evS f x = .dat (vstr l)) :
    Stp P ⟨dst, .convert s d x, ty, pos, af, gd⟩ f ⟨false, [], [], .dat (vlst ((numsB l).map C))⟩ :=
  stp_grow fun X own g a w hlt h => by
    have h1 := val_of (h x (by simp [Op.operands])) hx
    have hr := run_bytes_of_string (P := P) w s d e ⟨l.toArray⟩ hs hd he
    have hsz : (ByteArray.mk l.toArray).size = l.length := by simp [ByteArray.size]
    have hge := grownCap_ge w (ByteArray.mk l.toArray).size 0 e
    rw [hsz] at hr hge
    have hlen : ((numsB l).map C).length = l.length := by simp [numsB]
    refine ⟨_, _, by simp only [execOp, h1, Sem.run_bind, hr, Result.andThen_ok, Sem.run_pure]; rfl, ((Kp.refl [] w).drew).alloc _, some ⟨w.heap.size, 0, none⟩, grownCap w l.length 0 e, by rw [hlen], by rw [hlen]; exact hge, fun hne => ⟨w.heap.size, 0, 1, rfl, fun hM => absurd (hlt _ hM) (Nat.lt_irrefl _), _, _, _, heap_alloc_new w.drew _, fun el hel => ?_, fun k c el u hk hc => ?_⟩⟩
    · obtain ⟨y, _, rfl⟩ := List.mem_map.1 hel
      rw [hC]; rfl
    · rw [List.getElem?_map] at hk
      cases hq : (numsB l)[k]? with
      | none => rw [hq] at hk; cases hk
      | some y =>
        rw [hq] at hk
        cases hk
        rw [hC] at hc
        cases c with
        | succ c => simp at hc
        | zero =>
          simp at hc
          subst hc
          refine ⟨.int .u8 y, ?_, rfl, rfl⟩
          unfold numsB at hq
          rw [List.getElem?_map] at hq
          cases hz : l[k]? with
          | none => rw [hz] at hq; cases hq
          | some b =>
            rw [hz] at hq
            cases hq
            have hkl := (List.getElem?_eq_some_iff.1 hz).1
            unfold bytesRow
            rw [Array.getElem?_append_left (by simp; omega)]
            simp [hz]
theorem okL_and {lf : List (Nat × Slot)} {lo : List (Nat × AObj)} (h1 : (lf.all fun p => okS (ows lo) p.2) = true) (h2 : (lo.all fun p => okO (ows lo) p.2) = true) : okL lf lo = true := by
  unfold okL
  rw [h1, h2]; rfl
theorem okA_nil {own : Own} : (([] : List (Nat × AObj)).all fun p => okO own p.2) = true := rfl
theorem okA_cons {own : Own} {p : Nat × AObj} {l : List (Nat × AObj)} (h : okO own p.2 = true) (t : (l.all fun p => okO own p.2) = true) : ((p :: l).all fun p => okO own p.2) = true := by
  rw [List.all_cons, h, t]; rfl
theorem okO_bx {own : Own} {an : Option Nat} {t : TypeId} {l : List Int} : okO own (.box an t ((bxU l).map .dat)) = true := by
  simp only [okO, List.all_map, List.all_eq_true]
  intro v _
  rfl
end
end Go.Proofs.YtbicifgfibafmaaGreatDoor
