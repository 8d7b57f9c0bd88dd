/- The abstract machine: literals, made rows, slices, small builtins; memory that a row leaves; functions with a pointer to one object. -/
import Derived.Test.YtmcegaabopcmfaaAbsP
namespace Go.Proofs.Ytmcegaabopcmfaa
open Go.RowKit
set_option linter.unusedVariables false

section
variable {P : Program} {f : Nat → Slot} {dst : Option Tmp} {ty : TypeId} {pos : String} {af : Array Edge} {gd : Option (Nat × Bool)}

theorem Rel.mlt {X : Ctx} {f' : Nat → Slot} {own : Own} {g : Gh} {a : Act} {w : World} (hr : Rel X f' own g a w) : ∀ b, Mof X g own b → b < w.heap.size := by
  rintro b (hb | ⟨id, o, h1, h2⟩)
  · exact Nat.lt_of_lt_of_le (hr.m0 b hb).1 hr.kp.size
  · exact (hr.ob id o h1).blk_lt h2

/-- an operation that makes memory and gives data -/
theorem stp_grow {o : Oper} {s : Slot} (h : ∀ (X : Ctx) (own : Own) (g : Gh) (a : Act) (w : World), (∀ b, Mof X g own b → b < w.heap.size) → (∀ x, x ∈ o.op.operands → RepS g w (Mof X g own) (evS f x) (a.eval x)) → ∃ v w', (execOp a.eval o).run P w = .ok (.value v) w' ∧ Kp [] w w' ∧ RepS g w' (Mof X g own) s v) :
    Stp P o f ⟨false, [], [], s⟩ := by
  intro X f' own g a w Q hr hd hx _ K hK
  obtain ⟨v, w', h1, h2, h3⟩ := h X own g a w hr.mlt (fun x hm => by rw [← hx x hm]; exact hr.ev x)
  unfold Oper.wp
  rw [h1]
  exact hK g v w' ((hr.grow h2).put o.dst s v hd h3)

theorem run_equalIn_bool {t : TypeId} (ht : P.underlying t = some .bool) (d : Nat) (a b : Bool) (w : World) : (Op.equalIn (d + 1) t (.bool a) (.bool b)).run P w = .ok (a == b) w := by
  simp [Op.equalIn, run_underlying ht]
theorem stp_beql {t t' : TypeId} {x y : Operand} {a b : Bool} (ht : P.underlying t = some .bool) (hx : evS f x = .dat (vbool a)) (hy : evS f y = .dat (vbool b)) : Stp P ⟨dst, .binOp .eql t x y t', ty, pos, af, gd⟩ f ⟨false, [], [], .dat (vbool (a == b))⟩ :=
  stp_bin hx hy fun w => by simp [eqGuard, binOp, Op.equal, Op.maxDepth, run_equalIn_bool ht 9999 a b w]
theorem stp_bneq {t t' : TypeId} {x y : Operand} {a b : Bool} (ht : P.underlying t = some .bool) (hx : evS f x = .dat (vbool a)) (hy : evS f y = .dat (vbool b)) : Stp P ⟨dst, .binOp .neq t x y t', ty, pos, af, gd⟩ f ⟨false, [], [], .dat (vbool (a != b))⟩ :=
  stp_bin hx hy fun w => by simp [eqGuard, binOp, Op.equal, Op.maxDepth, run_equalIn_bool ht 9999 a b w]; cases a <;> cases b <;> rfl
theorem stp_pick_b {c x y : Operand} {b p q : Bool} (hc : evS f c = .dat (vbool b)) (hx : evS f x = .dat (vbool p)) (hy : evS f y = .dat (vbool q)) : Stp P ⟨dst, .pick c x y, ty, pos, af, gd⟩ f ⟨false, [], [], .dat (vbool (cond b p q))⟩ :=
  stp_val fun X own g a w h => by
    have h1 := val_of (h c (by simp [Op.operands])) hc
    have h2 := val_of (h x (by simp [Op.operands])) hx
    have h3 := val_of (h y (by simp [Op.operands])) hy
    exact ⟨.bool (cond b p q), by cases b <;> simp [execOp, h1, asBool, h2, h3], rfl⟩

theorem min_ite (m n : Int) : (if n < m then n else m) = min m n := by
  rw [Int.min_def]; split <;> split <;> omega
theorem max_ite (m n : Int) : (if n > m then n else m) = max m n := by
  rw [Int.max_def]; split <;> split <;> omega
theorem stp_min {x y : Operand} {t t' : TypeId} {k : IntKind} {m n : Int} (hx : evS f x = .dat (vval (.int k m))) (hy : evS f y = .dat (vval (.int k n))) : Stp P ⟨dst, .call { callee := .builtin .min, args := #[x, y], argTypes := #[t, t'] }, ty, pos, af, gd⟩ f ⟨false, [], [], .dat (vval (.int k (min m n)))⟩ :=
  stp_val fun X own g a w h => by
    have h1 := val_of (h x (by simp [Op.operands, Call.operands])) hx
    have h2 := val_of (h y (by simp [Op.operands, Call.operands])) hy
    refine ⟨.int k (min m n), ?_, rfl⟩
    rw [← min_ite]
    simp [execOp, resolve, invoke, builtin, Builtin.min_, Builtin.min2, h1, h2]
theorem stp_max {x y : Operand} {t t' : TypeId} {k : IntKind} {m n : Int} (hx : evS f x = .dat (vval (.int k m))) (hy : evS f y = .dat (vval (.int k n))) : Stp P ⟨dst, .call { callee := .builtin .max, args := #[x, y], argTypes := #[t, t'] }, ty, pos, af, gd⟩ f ⟨false, [], [], .dat (vval (.int k (max m n)))⟩ :=
  stp_val fun X own g a w h => by
    have h1 := val_of (h x (by simp [Op.operands, Call.operands])) hx
    have h2 := val_of (h y (by simp [Op.operands, Call.operands])) hy
    refine ⟨.int k (max m n), ?_, rfl⟩
    rw [← max_ite]
    simp [execOp, resolve, invoke, builtin, Builtin.max_, Builtin.max2, h1, h2]

/-- a byte of a string -/
def byt (l : List UInt8) (k : Nat) : UInt8 := l.getD k 0
theorem stp_index {t : TypeId} {x ix : Operand} {l : List UInt8} {k : Nat} (ht : P.underlying t = some .string) (hx : evS f x = .dat (vstr l)) (hi : evS f ix = .dat (vint (k : Int))) (hk : k < l.length) :
    Stp P ⟨dst, .index t x ix, ty, pos, af, gd⟩ f ⟨false, [], [], .dat (vval (.int .u8 ((byt l k).toNat : Int)))⟩ :=
  stp_val fun X own g a w h => by
    have h1 := val_of (h x (by simp [Op.operands])) hx
    have h2 := val_of (h ix (by simp [Op.operands])) hi
    refine ⟨.int .u8 ((byt l k).toNat : Int), ?_, rfl⟩
    have e1 : (ByteArray.mk l.toArray)[k]? = some (byt l k) := by
      unfold byt
      rw [List.getD_eq_getElem?_getD, List.getElem?_eq_getElem hk]
      have : k < (ByteArray.mk l.toArray).size := by simpa [ByteArray.size] using hk
      rw [getElem?_pos (ByteArray.mk l.toArray) k this]
      rfl
    simp [execOp, h1, h2, Instr.index, asIntOf, run_underlying ht, e1]

theorem str_extract (l : List UInt8) (a b : Nat) : (ByteArray.mk l.toArray).extract a b = ByteArray.mk ((l.drop a).take (b - a)).toArray := by
  apply ByteArray.ext
  rw [ByteArray.data_extract]
  apply Array.ext'
  simp [List.take_drop]

/-- s[a:b] of a string -/
theorem stp_subS {t : TypeId} {x : Operand} {lo hi : Option Operand} {l : List UInt8} {a b : Nat} (ht : P.underlying t = some .string) (hx : evS f x = .dat (vstr l))
    (hlo : match lo with | none => a = 0 | some y => evS f y = .dat (vint (a : Int))) (hhi : match hi with | none => b = l.length | some y => evS f y = .dat (vint (b : Int))) (hab : a ≤ b) (hb : b ≤ l.length) :
    Stp P ⟨dst, .slice t x lo hi none, ty, pos, af, gd⟩ f ⟨false, [], [], .dat (vstr ((l.drop a).take (b - a)))⟩ :=
  stp_val fun X own g ac w h => by
    have h1 := val_of (h x (by simp [Op.operands])) hx
    refine ⟨_, ?_, rfl⟩
    have hz : (ByteArray.mk l.toArray).size = l.length := by simp [ByteArray.size]
    have hl : (lo = none ∧ a = 0) ∨ ∃ y, lo = some y ∧ ac.eval y = .int .i64 (a : Int) := by
      cases lo with
      | none => exact .inl ⟨rfl, hlo⟩
      | some y => exact .inr ⟨y, rfl, val_of (h y (by simp [Op.operands])) hlo⟩
    have hh : (hi = none ∧ b = l.length) ∨ ∃ y, hi = some y ∧ ac.eval y = .int .i64 (b : Int) := by
      cases hi with
      | none => exact .inl ⟨rfl, hhi⟩
      | some y => exact .inr ⟨y, rfl, val_of (h y (by simp [Op.operands])) hhi⟩
    have hs := str_extract l a b
    rcases hl with ⟨rfl, rfl⟩ | ⟨y, rfl, hy⟩ <;> rcases hh with ⟨rfl, rfl⟩ | ⟨y', rfl, hy'⟩
    all_goals (simp only [execOp, Instr.sliceAt, Option.map_some, Option.map_none, Sem.run_bind, run_underlying ht, Result.andThen_ok, Instr.slice, h1, Instr.sliceBounds, Instr.sliceBound, Option.isSome_none, Sem.run_pure])
    all_goals (try simp only [hy, asIntOf])
    all_goals (try simp only [hy', asIntOf])
    all_goals simp [hz, hs, hab, hb]

/-- x[a:b] of a slice that stays -/
theorem stp_subL {t e : TypeId} {n : Nat} {x : Operand} {lo hi : Option Operand} {es : List (List V)} {a b : Nat} (ht : tyE P t = some (e, n)) (hx : evS f x = .dat (vlst es)) (hn : ∀ el, el ∈ es → el.length = n)
    (hlo : match lo with | none => a = 0 | some y => evS f y = .dat (vint (a : Int))) (hhi : match hi with | none => b = es.length | some y => evS f y = .dat (vint (b : Int))) (hab : a ≤ b) (hb : b ≤ es.length) :
    Stp P ⟨dst, .slice t x lo hi none, ty, pos, af, gd⟩ f ⟨false, [], [], .dat (vlst ((es.drop a).take (b - a)))⟩ :=
  stp_val fun X own g ac w h => by
    have h1 := h x (by simp [Op.operands])
    rw [hx] at h1
    obtain ⟨A, c, p1, p2, p3⟩ := h1
    obtain ⟨i, d1, d2, d3⟩ := tyE_at ht
    have hl : (lo = none ∧ a = 0) ∨ ∃ y, lo = some y ∧ ac.eval y = .int .i64 (a : Int) := by
      cases lo with
      | none => exact .inl ⟨rfl, hlo⟩
      | some y => exact .inr ⟨y, rfl, val_of (h y (by simp [Op.operands])) hlo⟩
    have hh : (hi = none ∧ b = es.length) ∨ ∃ y, hi = some y ∧ ac.eval y = .int .i64 (b : Int) := by
      cases hi with
      | none => exact .inl ⟨rfl, hhi⟩
      | some y => exact .inr ⟨y, rfl, val_of (h y (by simp [Op.operands])) hhi⟩
    have hbc : b ≤ c := by omega
    refine ⟨.slice (if c = a then A else A.map (·.add (a * n))) (b - a) (c - a), ?_, _, c - a, by rw [show ((es.drop a).take (b - a)).length = b - a from by simp; omega], by rw [show ((es.drop a).take (b - a)).length = b - a from by simp; omega]; omega, fun hne => ?_⟩
    · rcases hl with ⟨rfl, rfl⟩ | ⟨y, rfl, hy⟩ <;> rcases hh with ⟨rfl, rfl⟩ | ⟨y', rfl, hy'⟩
      all_goals simp_all [execOp, Instr.sliceAt, Instr.slice, Instr.sliceBounds, Instr.sliceBound, asIntOf, run_underlying d1, sizeOf, typeInfo]
    · have hes : es ≠ [] := by rintro rfl; simp at hne
      obtain ⟨b', off, size, q1, q2⟩ := p3 hes
      have hab' : a < b := by
        rcases Nat.lt_or_ge a b with h | h
        · exact h
        · exfalso; apply hne; have : b - a = 0 := by omega
          rw [this]; simp
      have hsz : n = size := by
        obtain ⟨_, _, _, _, _, h2, _⟩ := q2
        cases es with
        | nil => exact absurd rfl hes
        | cons el _ => rw [← hn el (by simp), h2 el (by simp)]
      subst hsz
      subst q1
      rw [if_neg (by omega)]
      refine ⟨b', off + a * n, n, by simp [Addr.add_mid], q2.1, ?_⟩
      obtain ⟨_, arr, e', fz, r1, r2, r3⟩ := q2
      refine ⟨arr, e', fz, r1, fun el hel => r2 el (List.mem_of_mem_drop (List.mem_of_mem_take hel)), fun k c' el u hk hc => ?_⟩
      rw [List.getElem?_take] at hk
      split at hk
      · rw [List.getElem?_drop] at hk
        obtain ⟨x', s1, s2⟩ := r3 (a + k) c' el u hk hc
        refine ⟨x', ?_, s2⟩
        have : off + a * n + k * n + c' = off + (a + k) * n + c' := by rw [Nat.add_mul]; omega
        rw [this]; exact s1
      · cases hk

/-! ### literals -/
theorem fold_get : ∀ (vs : List Value) (k off : Nat) (cs : Array Value), off + k + vs.length ≤ cs.size →
    ((vs.zipIdx k).foldl (fun cs (p : Value × Nat) => cs.setIfInBounds (off + p.2) p.1) cs).size = cs.size ∧ ∀ q, ((vs.zipIdx k).foldl (fun cs (p : Value × Nat) => cs.setIfInBounds (off + p.2) p.1) cs)[q]? = if off + k ≤ q ∧ q < off + k + vs.length then vs[q - (off + k)]? else cs[q]? := by
  intro vs
  induction vs with
  | nil => intro k off cs _; refine ⟨rfl, fun q => ?_⟩; simp only [List.zipIdx_nil, List.foldl_nil, List.length_nil, Nat.add_zero]; rw [if_neg (by omega)]
  | cons v vs ih =>
    intro k off cs h
    simp only [List.length_cons] at h
    obtain ⟨h1, h2⟩ := ih (k + 1) off (cs.setIfInBounds (off + k) v) (by simp; omega)
    rw [List.zipIdx_cons, List.foldl_cons]
    refine ⟨by rw [h1]; simp, fun q => ?_⟩
    rw [h2 q]
    simp only [List.length_cons]
    by_cases hq : q = off + k
    · subst hq
      rw [if_neg (by omega), if_pos (by omega), Nat.sub_self, Array.getElem?_setIfInBounds_self_of_lt (by omega)]
      rfl
    · by_cases hr : off + (k + 1) ≤ q ∧ q < off + (k + 1) + vs.length
      · rw [if_pos hr, if_pos (by omega)]
        have : q - (off + k) = (q - (off + (k + 1))) + 1 := by omega
        rw [this]; rfl
      · rw [if_neg hr, if_neg (by omega), Array.getElem?_setIfInBounds_ne (Ne.symm hq)]

/-- a slot's cells -/
def CellsV (s : Slot) (ws : List V) : Prop := (∃ u, s = .dat u ∧ u.one = true ∧ ws = [u]) ∨ s = .dat (vagg ws)
theorem cellsV_rep {g : Gh} {w : World} {M : Blks} {s : Slot} {ws : List V} {v : Value} (h : CellsV s ws) (hv : RepS g w M s v) : Cs w M ws v.cells.toList := by
  rcases h with ⟨u, rfl, h1, rfl⟩ | rfl
  · have h2 := u.hone h1 hv
    rw [cells_one h2]
    refine ⟨rfl, fun j u' hj => ?_⟩
    cases j with
    | zero => cases hj; exact ⟨v, rfl, hv, h2⟩
    | succ j => cases hj
  · obtain ⟨l, rfl, h2⟩ := hv
    simpa [Value.cells] using h2
def putL (us : List V) (off : Nat) (ws : List V) : List V := us.take off ++ ws ++ us.drop (off + ws.length)
def buildV : List V → List (Nat × List V) → List V
  | us, [] => us
  | us, (off, ws) :: ps => buildV (putL us off ws) ps
def partsOK (f : Nat → Slot) (pl : Nat → Option (Nat × Nat)) (total : Nat) : List (Nat × Operand) → List (Nat × List V) → Prop
  | [], [] => True
  | (i, x) :: ps, (off, ws) :: pv => pl i = some (off, ws.length) ∧ CellsV (evS f x) ws ∧ Nat.ble (off + ws.length) total = true ∧ partsOK f pl total ps pv
  | _, _ => False
theorem fill_ok {g : Gh} {w : World} {M : Blks} {pl : Nat → Option (Nat × Nat)} {ev : Operand → Value} : ∀ (ps : List (Nat × Operand)) (pv : List (Nat × List V)) (us : List V) (cells : Array Value), partsOK f pl us.length ps pv → (∀ p, p ∈ ps → RepS g w M (evS f p.2) (ev p.2)) → Cs w M us cells.toList →
    ∃ cells', Instr.fill pl cells (ps.map fun p => (p.1, ev p.2)) = some cells' ∧ Cs w M (buildV us pv) cells'.toList := by
  intro ps
  induction ps with
  | nil =>
    intro pv us cells h _ hc
    cases pv with
    | nil => exact ⟨cells, rfl, hc⟩
    | cons _ _ => cases h
  | cons p ps ih =>
    obtain ⟨i, x⟩ := p
    intro pv us cells h hv hc
    cases pv with
    | nil => cases h
    | cons q pv =>
      obtain ⟨off, ws⟩ := q
      obtain ⟨h1, h2, h3, h4⟩ := h
      have h3 := Nat.le_of_ble_eq_true h3
      have hx := cellsV_rep h2 (hv (i, x) (by simp))
      have hcl : cells.size = us.length := by simpa using hc.1
      have hxl : (ev x).cells.size = ws.length := by simpa using hx.1
      have hus : (putL us off ws).length = us.length := by unfold putL; simp; omega
      obtain ⟨f1, f2⟩ := fold_get (ev x).cells.toList 0 off cells (by simp; omega)
      have hfold : (ev x).cells.zipIdx.foldl (fun cs (p : Value × Nat) => cs.setIfInBounds (off + p.2) p.1) cells = ((ev x).cells.toList.zipIdx 0).foldl (fun cs (p : Value × Nat) => cs.setIfInBounds (off + p.2) p.1) cells := by
        rw [← Array.foldl_toList, Array.toList_zipIdx]
      obtain ⟨cells', r1, r2⟩ := ih pv (putL us off ws) (((ev x).cells.toList.zipIdx 0).foldl (fun cs (p : Value × Nat) => cs.setIfInBounds (off + p.2) p.1) cells) (by rw [hus]; exact h4) (fun p hp => hv p (List.mem_cons_of_mem _ hp)) ⟨by simp only [Array.length_toList]; rw [f1, hus, hcl], fun j u hj => by
        rw [Array.getElem?_toList, f2 j]
        simp only [Array.length_toList, Nat.add_zero]
        unfold putL at hj
        by_cases hr : off ≤ j ∧ j < off + (ev x).cells.size
        · rw [if_pos hr]
          rw [List.append_assoc, List.getElem?_append_right (by simp; omega), List.getElem?_append_left (by simp; omega)] at hj
          have : j - (us.take off).length = j - off := by simp; omega
          rw [this] at hj
          exact hx.2 _ u hj
        · rw [if_neg hr]
          have hj' : us[j]? = some u := by
            rcases Nat.lt_or_ge j off with hl | hl
            · rw [List.append_assoc, List.getElem?_append_left (by simp; omega), List.getElem?_take, if_pos hl] at hj
              exact hj
            · rw [List.getElem?_append_right (by simp; omega), List.getElem?_drop] at hj
              have : off + ws.length + (j - (us.take off ++ ws).length) = j := by simp; omega
              rw [this] at hj
              exact hj
          have := hc.2 j u hj'
          simpa using this⟩
      refine ⟨cells', ?_, r2⟩
      simp only [List.map_cons, Instr.fill, h1, hxl, ne_eq, not_true_eq_false, decide_false, Bool.false_or]
      rw [if_neg (by simp; omega), hfold]
      exact r1

def tyP (P : Program) (t : TypeId) : Option (List (Nat × Nat)) := match P.underlying t with
  | some (.struct fs) => fs.toList.mapM fun fl => (P.info? fl.type).map fun j => (fl.offset, j.size)
  | _ => none
theorem places_run {P : Program} (w : World) : ∀ (fs : List Field) (pls : List (Nat × Nat)), (fs.mapM fun fl => (P.info? fl.type).map fun j => (fl.offset, j.size)) = some pls →
    (fs.mapM fun fl => do pure (fl.offset, ← sizeOf fl.type) : Sem (List (Nat × Nat))).run P w = .ok pls w := by
  intro fs
  induction fs with
  | nil => intro pls h; simp at h; subst h; simp
  | cons fl fs ih =>
    intro pls h
    rw [List.mapM_cons] at h
    cases hj : P.info? fl.type with
    | none => rw [hj] at h; simp at h
    | some j =>
      rw [hj] at h
      cases hr : (fs.mapM fun fl => (P.info? fl.type).map fun j => (fl.offset, j.size)) with
      | none => rw [hr] at h; simp at h
      | some pls' =>
        rw [hr] at h
        simp at h
        subst h
        have hsz : (sizeOf fl.type).run P w = .ok j.size w := by simp [sizeOf, typeInfo, hj]
        simp only [List.mapM_cons, Sem.run_bind, hsz, Result.andThen_ok, Sem.run_pure, ih pls' hr]

theorem stp_build {t : TypeId} {ps : Array (Nat × Operand)} {zs : List Value} {pls : List (Nat × Nat)} (pv : List (Nat × List V)) (hz : tyZ P t = some zs) (hp : tyP P t = some pls) (h1 : zs.all (·.oneCell') = true) (hpv : partsOK f (fun i => pls[i]?) zs.length ps.toList pv) :
    Stp P ⟨dst, .build t ps, ty, pos, af, gd⟩ f ⟨false, [], [], .dat (vagg (buildV (zs.map vval) pv))⟩ :=
  stp_val fun X own g a w h => by
    unfold tyZ at hz
    cases hi : P.info? t with
    | none => rw [hi] at hz; cases hz
    | some i =>
      rw [hi] at hz
      cases hzz : i.zero with
      | none => simp [hzz] at hz
      | some z =>
        simp [hzz] at hz
        have e1 : z.cells = zs.toArray := by rw [← hz]
        unfold tyP at hp
        cases hu : P.underlying t with
        | none => rw [hu] at hp; cases hp
        | some d =>
          rw [hu] at hp
          cases d <;> simp only at hp <;> try (cases hp; done)
          rename_i fs
          have hpl := places_run (P := P) w fs.toList pls hp
          have hCs : Cs w (Mof X g own) (zs.map vval) zs.toArray.toList := by
            refine ⟨by simp, fun j u hj => ?_⟩
            rw [List.getElem?_map] at hj
            cases hq : zs[j]? with
            | none => rw [hq] at hj; cases hj
            | some x => rw [hq] at hj; cases hj; exact ⟨x, rfl, rfl, (List.all_eq_true.1 h1) x (List.mem_of_getElem? hq)⟩
          obtain ⟨cells, r1, r2⟩ := fill_ok (ev := a.eval) ps.toList pv (zs.map vval) zs.toArray (by simp only [List.length_map]; exact hpv) (fun p hp => h p.2 (by simp only [Op.operands]; simp; exact ⟨p.1, by simpa using hp⟩)) hCs
          refine ⟨.agg cells, ?_, cells.toList, by simp, r2⟩
          have hm : (fs.mapM fun fl => do pure (fl.offset, ← sizeOf fl.type) : Sem (Array (Nat × Nat))).run P w = .ok pls.toArray w := by
            rw [Array.mapM_eq_mapM_toList]
            simp only [map_eq_pure_bind, Sem.run_bind, hpl, Result.andThen_ok, Sem.run_pure]
          have hmap : (ps.map fun (i, x) => (i, a.eval x)).toList = ps.toList.map fun p => (p.1, a.eval p.2) := by simp
          have hpls : (fun i : Nat => pls.toArray[i]?) = fun i : Nat => pls[i]? := by funext i; simp
          have hzv : (zeroValue t).run P w = .ok z w := by simp [zeroValue, typeInfo, hi, hzz]
          simp only [execOp, Instr.build, hzv, Sem.run_bind, Sem.run_pure, Result.andThen_ok, run_underlying hu, hm, e1, hmap, hpls, r1]
end
end Go.Proofs.Ytmcegaabopcmfaa
