/- The abstract machine: literal slices, made rows; what is known is seen otherwise (a nil slice as a row, a row as data); functions with a pointer to one object. -/
import Derived.Test.YtmcegaabopcmfaaAbsQ
namespace Go.Proofs.Ytmcegaabopcmfaa
open Go.RowKit
set_option linter.unusedVariables false

section
variable {P : Program} {f : Nat → Slot} {dst : Option Tmp} {ty : TypeId} {pos : String} {af : Array Edge} {gd : Option (Nat × Bool)}

/-- the parts of a literal slice, in order -/
def litOK (f : Nat → Slot) (size : Nat) : Nat → List (Nat × Operand) → List (List V) → Prop
  | _, [], [] => True
  | i, (j, x) :: ps, ws :: es => j = i ∧ CellsV (evS f x) ws ∧ ws.length = size ∧ litOK f size (i + 1) ps es
  | _, _, _ => False
theorem lit_len : ∀ (ps : List (Nat × Operand)) (es : List (List V)) (i size : Nat), litOK f size i ps es → ps.length = es.length ∧ ∀ el, el ∈ es → el.length = size := by
  intro ps
  induction ps with
  | nil =>
    intro es i size h
    cases es with
    | nil => exact ⟨rfl, by simp⟩
    | cons _ _ => cases h
  | cons p ps ih =>
    obtain ⟨j, x⟩ := p
    intro es i size h
    cases es with
    | nil => cases h
    | cons ws es =>
      obtain ⟨_, _, h3, h4⟩ := h
      obtain ⟨q1, q2⟩ := ih es (i + 1) size h4
      refine ⟨by simp [q1], fun el hel => ?_⟩
      rcases List.mem_cons.1 hel with rfl | h
      · exact h3
      · exact q2 el h
theorem fill_lit {g : Gh} {w : World} {M : Blks} {size : Nat} {ev : Operand → Value} : ∀ (ps : List (Nat × Operand)) (es : List (List V)) (i : Nat) (cells : Array Value), litOK f size i ps es → (∀ p, p ∈ ps → RepS g w M (evS f p.2) (ev p.2)) → (i + ps.length) * size ≤ cells.size →
    ∃ cells', Instr.fill (fun i => some (i * size, size)) cells (ps.map fun p => (p.1, ev p.2)) = some cells' ∧ cells'.size = cells.size ∧ (∀ q, q < i * size → cells'[q]? = cells[q]?) ∧
      ∀ (k c : Nat) (el : List V) (u : V), es[k]? = some el → el[c]? = some u → ∃ x, cells'[(i + k) * size + c]? = some x ∧ u.p w M x ∧ x.oneCell' = true := by
  intro ps
  induction ps with
  | nil =>
    intro es i cells h _ _
    cases es with
    | nil => exact ⟨cells, rfl, rfl, fun _ _ => rfl, fun k c el u hk => by simp at hk⟩
    | cons _ _ => cases h
  | cons p ps ih =>
    obtain ⟨j, x⟩ := p
    intro es i cells h hv hsz
    cases es with
    | nil => cases h
    | cons ws es =>
      obtain ⟨rfl, h2, h3, h4⟩ := h
      have hx := cellsV_rep h2 (hv (j, x) (by simp))
      have hxl : (ev x).cells.size = size := by have := hx.1; simp at this; omega
      simp only [List.length_cons] at hsz
      have hsz1 : (j + 1) * size ≤ cells.size := Nat.le_trans (Nat.mul_le_mul_right _ (by omega)) hsz
      have e1 : (j + 1) * size = j * size + size := Nat.succ_mul j size
      obtain ⟨f1, f2⟩ := fold_get (ev x).cells.toList 0 (j * size) cells (by simp; omega)
      have hfold : (ev x).cells.zipIdx.foldl (fun cs (p : Value × Nat) => cs.setIfInBounds (j * size + p.2) p.1) cells = ((ev x).cells.toList.zipIdx 0).foldl (fun cs (p : Value × Nat) => cs.setIfInBounds (j * size + p.2) p.1) cells := by
        rw [← Array.foldl_toList, Array.toList_zipIdx]
      have hjp : j + 1 + ps.length = j + (ps.length + 1) := by omega
      obtain ⟨cells', r1, r2, r3, r4⟩ := ih es (j + 1) (((ev x).cells.toList.zipIdx 0).foldl (fun cs (p : Value × Nat) => cs.setIfInBounds (j * size + p.2) p.1) cells) h4 (fun p hp => hv p (List.mem_cons_of_mem _ hp)) (by rw [f1, hjp]; exact hsz)
      refine ⟨cells', ?_, by rw [r2, f1], fun q hq => ?_, fun k c el u hk hc => ?_⟩
      · simp only [List.map_cons, Instr.fill, hxl, ne_eq, not_true_eq_false, decide_false, Bool.false_or]
        rw [if_neg (by simp; omega), hfold]
        exact r1
      · rw [r3 q (by omega), f2 q, if_neg (by omega)]
      · cases k with
        | zero =>
          cases hk
          have hcl := (List.getElem?_eq_some_iff.1 hc).1
          obtain ⟨y, s1, s2, s3⟩ := hx.2 c u hc
          refine ⟨y, ?_, s2, s3⟩
          rw [Nat.add_zero, r3 _ (by omega), f2, if_pos (by simp; omega)]
          have : j * size + c - (j * size + 0) = c := by omega
          rw [this]; exact s1
        | succ k =>
          have := r4 k c el u (by simpa using hk) hc
          have e2 : j + (k + 1) = j + 1 + k := by omega
          rw [e2]; exact this

theorem elem_at {t e : TypeId} {size bytes : Nat} (h : Elem P t e size bytes) (w : World) : P.underlying t = some (.slice e) ∧ ∃ (i : TypeInfo) (z : Value), P.info? e = some i ∧ i.size = size ∧ i.bytes = bytes ∧ i.zero = some z ∧ z.cells.size = size ∧ 0 < size ∧ (zeroValue e).run P w = .ok z w ∧ (sizeOf e).run P w = .ok size w := by
  obtain ⟨i, z, h1, h2, h3, h4, h5, h6, h7⟩ := h
  exact ⟨h1, i, z, h2, h4, h5, h3, h6, h7, by simp [zeroValue, typeInfo, h2, h3], by simp [sizeOf, typeInfo, h2, h4]⟩

/-- a literal slice, as data -/
theorem stp_lit {t e : TypeId} {size bytes len : Nat} {ps : Array (Nat × Operand)} (es : List (List V)) (hE : Elem P t e size bytes) (h : litOK f size 0 ps.toList es) (hl : len = es.length) (h24b : Nat.ble (es.length * size) 16777216 = true) : Stp P ⟨dst, .buildSlice t len ps, ty, pos, af, gd⟩ f ⟨false, [], [], .dat (vlst es)⟩ :=
  stp_grow fun X own g a w hlt hh => by
    subst hl
    have h24 := Nat.le_of_ble_eq_true h24b
    obtain ⟨e1, i, z, e2, e3, e4, e5, e6, e7, e8, e9⟩ := elem_at hE w
    obtain ⟨l1, l2⟩ := lit_len ps.toList es 0 size h
    obtain ⟨cells, r1, r2, r3, r4⟩ := fill_lit (ev := a.eval) ps.toList es 0 ((Array.range (es.length * size)).map (((if es.length * size = 0 then #[] else z.cells) : Array Value)[· % (if es.length * size = 0 then #[] else z.cells : Array Value).size]!)) h (fun p hp => hh p.2 (by simp only [Op.operands]; simp; exact ⟨p.1, by simpa using hp⟩)) (by simp; rw [← l1]; simp)
    refine ⟨.slice (some ⟨w.heap.size, 0, none⟩) es.length es.length, w.alloc (.cells cells e), ?_, (Kp.refl [] w).alloc _, some ⟨w.heap.size, 0, none⟩, es.length, rfl, Nat.le_refl _, fun _ => ⟨w.heap.size, 0, size, rfl, fun hM => absurd (hlt _ hM) (Nat.lt_irrefl _), cells, e, (0, 0), heap_alloc_new w _, l2, fun k c el u hk hc => ?_⟩⟩
    · have hmap : (ps.map fun (i, x) => (i, a.eval x)).toList = ps.toList.map fun p => (p.1, a.eval p.2) := by simp
      have h24' : ¬ es.length * size > 2 ^ 24 := by omega
      by_cases h0 : es.length * size = 0
      · simp only [if_pos h0] at r1
        simp only [execOp, Instr.buildSlice, Sem.run_bind, run_underlying e1, Result.andThen_ok, e9, if_neg h24', Sem.run_pure, if_pos h0, hmap, r1, newRow, run_newObj_alloc]
      · simp only [if_neg h0] at r1
        simp only [execOp, Instr.buildSlice, Sem.run_bind, run_underlying e1, Result.andThen_ok, e9, if_neg h24', Sem.run_pure, if_neg h0, e8, hmap, r1, newRow, run_newObj_alloc]
    · obtain ⟨x, s1, s2, s3⟩ := r4 k c el u hk hc
      refine ⟨x, by rw [Nat.zero_add] at s1 ⊢; exact s1, u.keep (M := Mof X g own) ⟨by simp, fun b hb _ => ((Kp.refl [] w).alloc (.cells cells e)).block b hb (by simp), fun b _ hb => hb⟩ s2, s3⟩

/-- make: a row of zeros -/
theorem stp_make (id : Nat) {t e : TypeId} {size bytes : Nat} {x y : Operand} {n m : Nat} {zs : List Value} (hE : Elem P t e size bytes) (hz : tyZ P e = some zs) (h1 : zs.all (·.oneCell') = true) (hx : evS f x = .dat (vint (n : Int))) (hy : evS f y = .dat (vint (m : Int))) (hnm : n ≤ m) (hm : m ≤ 1000000000) (hb : m * bytes ≤ 281474976710656) :
    Stp P ⟨dst, .makeSlice t x y, ty, pos, af, gd⟩ f ⟨false, [(id, none)], [(id, some (some (.row e size (List.replicate n (zs.map vval)))))], .row id n⟩ := by
  refine stp_upd fun X f' own g a w hr ho h => ?_
  have h2 := val_of (h x (by simp [Op.operands])) hx
  have h3 := val_of (h y (by simp [Op.operands])) hy
  obtain ⟨e1, i, z, e2, e3, e4, e5, e6, e7, e8, e9⟩ := elem_at hE w
  have hzs : z.cells.toList = zs := by simpa [tyZ, e2, e5] using hz
  have hbm : ((bytes : Int) * (m : Int)) = ((m * bytes : Nat) : Int) := by rw [Nat.mul_comm]; simp
  have hmk := run_make (P := P) w t e i z e1 e2 e5 .i64 .i64 n m (by omega) (by omega) (by rw [e4, hbm]; omega) (by omega)
  rw [e3] at hmk
  simp only [Int.toNat_natCast] at hmk
  have hzl : zs.length = size := by rw [← hzs]; simpa using e6
  let v : Value := .slice (some ⟨w.heap.size, 0, none⟩) n m
  let g' : Gh := ⟨g.bl, fun i k => if i = id ∧ k = n then some v else g.sv i k⟩
  have hsv : g'.sv id n = some v := if_pos ⟨rfl, rfl⟩
  have hlen : (List.replicate n (zs.map vval)).length = n := by simp
  refine ⟨g', w.alloc (.cells (madeCells z.cells (m * size)) e), .value v, v, ⟨fun _ _ h => h, fun i k u hu => ?_⟩, fun i hi => ⟨rfl, fun k => if_neg fun h => hi h.1⟩, ?_, .inl rfl, .inl ((Kp.refl [] w).alloc _), fun b hb => ?_, fun e' s' es' he k hk => ?_, fun M' he => ⟨⟨v, (madeCells z.cells (m * size)).toList.take (n * size), by rw [hlen]; exact hsv, ⟨?_, .inr ⟨w.heap.size, m, _, by rw [hlen], Nat.zero_le _, heap_alloc_new w _, by rw [hlen]; exact hnm, by unfold maxLen; omega, by rw [size_madeCells], by rw [hlen]⟩⟩, e7, fun el hel => ?_, fun k c el u hk hc => ?_⟩, hsv⟩⟩
  · show (if i = id ∧ k = n then some v else g.sv i k) = some u
    rw [if_neg]
    · exact hu
    · rintro ⟨rfl, rfl⟩
      rw [(hr.fresh i ho).2] at hu
      cases hu
  · simp only [execOp, h2, h3, Sem.run_bind, hmk, Result.andThen_ok, Sem.run_pure]; rfl
  · simp only [obk, hlen, hsv, Option.bind_some] at hb
    exact .inl (by cases hb; exact Nat.le_refl _)
  · cases he
    rw [hlen] at hk
    show (if id = id ∧ k = n then some v else g.sv id k) = none
    rw [if_neg (by omega)]
    exact (hr.fresh id ho).2 k
  · rw [hlen, List.length_take, Array.length_toList, size_madeCells]
    have := Nat.mul_le_mul_right size hnm
    omega
  · rw [List.eq_of_mem_replicate hel]; simpa using hzl
  · have hk' := List.eq_of_mem_replicate (List.mem_of_getElem? hk)
    subst hk'
    have hkn : k < n := by have := (List.getElem?_eq_some_iff.1 hk).1; simpa using this
    rw [List.getElem?_map] at hc
    cases hq : zs[c]? with
    | none => rw [hq] at hc; cases hc
    | some x =>
      rw [hq] at hc
      cases hc
      have hcl := (List.getElem?_eq_some_iff.1 hq).1
      refine ⟨x, ?_, rfl, (List.all_eq_true.1 h1) x (List.mem_of_getElem? hq)⟩
      have hlt : k * size + c < n * size := idx_lt hkn (by omega)
      have hlt2 := Nat.lt_of_lt_of_le hlt (Nat.mul_le_mul_right size hnm)
      rw [List.getElem?_take, if_pos hlt]
      have e10 : (k * size + c) % size = c := by rw [Nat.mul_comm, Nat.mul_add_mod]; exact Nat.mod_eq_of_lt (by omega)
      have e11 : z.cells[c]? = some x := by rw [← hzs] at hq; simpa using hq
      have e12 : z.cells[c]! = x := by rw [Array.getElem!_eq_getD, Array.getD_eq_getD_getElem?, e11]; rfl
      simp [madeCells, hlt2, e6, e10, e12]
end

section
variable {P : Program} {X : Ctx} {Q : Exit → (Nat → Slot) → Own → Prop} {f : Nat → Slot} {own : Own} {c : Code}

/-- a nil slice is a row of one's own -/
theorem awp_nilrow (t id : Nat) (e : TypeId) (size : Nat) (hf : f t = .dat vnil) (ho : own id = none) (hs : Nat.blt 0 size = true) (h : AWP P X c Q (updS f (some t) (.row id 0)) (upl own [(id, some (some (.row e size [])))])) : AWP P X c Q f own := by
  intro g a w hr
  let g' : Gh := ⟨g.bl, fun i k => if i = id ∧ k = 0 then some (.slice none 0 0) else g.sv i k⟩
  have hsv : g'.sv id 0 = some (.slice none 0 0) := if_pos ⟨rfl, rfl⟩
  have hle : g.le g' := ⟨fun _ _ h => h, fun i k u hu => by
    show (if i = id ∧ k = 0 then _ else g.sv i k) = some u
    rw [if_neg]
    · exact hu
    · rintro ⟨rfl, rfl⟩
      rw [(hr.fresh i ho).2] at hu
      cases hu⟩
  obtain ⟨hr', he⟩ := rel_upd (id := id) (ob' := .row e size []) (w' := w) hr hle (fun i hi => ⟨rfl, fun k => if_neg fun h => hi h.1⟩) (.inl (Kp.refl _ _)) (fun b hb => by simp only [obk, List.length_nil, hsv, Option.bind_some] at hb; simp [Value.ownBlock] at hb) (fun e' s' es' he k hk => by
    cases he
    show (if id = id ∧ k = 0 then _ else g.sv id k) = none
    rw [if_neg (by simp at hk; omega)]
    exact (hr.fresh id ho).2 k) (fun M' he _ => ⟨_, [], hsv, World.ownsRow_nil w 0 e size, by simpa [Nat.blt_eq] using hs, by simp, by simp⟩)
  have hfr := hr.fr t
  rw [hf] at hfr
  have hv : a.tmps.getD t undef = .slice none 0 0 := hfr
  refine h g' a w ⟨hr'.kp, hr'.m0, hr'.n, hr'.df, fun t' => ?_, hr'.ob, hr'.sep, hr'.mine, hr'.fresh, hr'.top⟩
  by_cases ht : t' = t
  · subst ht
    have : Nat.beq t' t' = true := by simp
    simp only [updS, this, cond_true]
    rw [hv]; exact hsv
  · simp only [updS, beq_false_of ht, cond_false]
    exact hr'.fr t'

/-- a row is given up: it stays as it is -/
theorem awp_freeze (t id : Nat) {e : TypeId} {size n : Nat} {es : List (List V)} (hf : f t = .row id n) (ho : own id = some (some (.row e size es))) (hn : n = es.length) (h : AWP P X c Q (updS f (some t) (.dat (vlst es))) (upl own [(id, some none)])) : AWP P X c Q f own := by
  intro g a w hr
  subst hn
  have hlive : ∀ i o, upl own [(id, some none)] i = some (some o) → i ≠ id ∧ own i = some (some o) := fun i o h1 => by
    by_cases hi : i = id
    · subst hi; rw [upl_self] at h1; cases h1
    · rw [upl_ne hi] at h1; exact ⟨hi, h1⟩
  have hM : ∀ b, Mof X g (upl own [(id, some none)]) b → Mof X g own b := fun b hb => by
    rcases hb with hb | ⟨i, o, h1, h2⟩
    · exact .inl hb
    · exact .inr ⟨i, o, (hlive i o h1).2, h2⟩
  have he : Ext (Mof X g own) (Mof X g (upl own [(id, some none)])) w w := ⟨Nat.le_refl _, fun _ _ _ => rfl, fun b _ hb => hM b hb⟩
  refine h g a w ⟨hr.kp, hr.m0, hr.n, hr.df, fun t' => ?_, fun i o h1 => (hr.ob i o (hlive i o h1).2).keep he (Gh.le_refl g) (fun _ _ => rfl), fun i i' o o' b h1 h2 => hr.sep i i' o o' b (hlive i o h1).2 (hlive i' o' h2).2, fun i o b h1 => hr.mine i o b (hlive i o h1).2, fun i h1 => ?_, fun i e' s' es' h1 => hr.top i e' s' es' (hlive i _ h1).2⟩
  · by_cases ht : t' = t
    · subst ht
      have : Nat.beq t' t' = true := by simp
      simp only [updS, this, cond_true]
      have hfr := hr.fr t'
      rw [hf] at hfr
      have hv : g.sv id es.length = some (a.tmps.getD t' undef) := hfr
      obtain ⟨v', xs, q1, q2, q3, q4, q5⟩ := hr.ob id _ ho
      rw [hv] at q1
      cases q1
      rcases q2.2 with ⟨r1, r2⟩ | ⟨b, cap, cur, r1, _, hb, hnc, _, hcs, htk⟩
      · have : es = [] := List.eq_nil_of_length_eq_zero r2
        subst this
        exact ⟨none, 0, r1, Nat.le_refl _, fun h => absurd rfl h⟩
      · have hobk : obk g id (.row e size es) = some b := by simp only [obk]; rw [hv, r1]; rfl
        refine ⟨_, cap, r1, hnc, fun _ => ⟨b, 0, size, rfl, ?_, cur, e, (0, 0), hb, q4, fun k c el u hk hc => ?_⟩⟩
        · rintro (hM0 | ⟨i, o, h1, h2⟩)
          · have h5 := hr.m0 b hM0
            rcases hr.mine id _ b ho hobk with h6 | h6
            · exact h5.2 h6
            · omega
          · obtain ⟨h3, h4⟩ := hlive i o h1
            exact h3 (hr.sep i id o _ b h4 ho h2 hobk)
        · obtain ⟨x, s1, s2, s3⟩ := q5 k c el u hk hc
          refine ⟨x, ?_, u.keep he s2, s3⟩
          rw [← htk, List.getElem?_take] at s1
          split at s1
          · rw [Nat.zero_add]; simpa using s1
          · cases s1
    · simp only [updS, beq_false_of ht, cond_false]
      exact (hr.fr t').keep he (Gh.le_refl g)
  · by_cases hi : i = id
    · subst hi; rw [upl_self] at h1; cases h1
    · rw [upl_ne hi] at h1; exact hr.fresh i h1
end

/-! ### functions with a pointer to one object -/
def Imp (P : Program) (fn : Nat) (t : TypeId) (cs : List V) (args : List V) (res : V) (cs' : List V) : Prop :=
  callOK P fn = true ∧ ∀ (M : Blks) (w : World) (b : Nat) (l : List Value) (vs : List Value), (∀ b', M b' → b' < w.heap.size) → ¬ M b → w.heap[b]? = some (.cells l.toArray t (0, 0)) → Cs w (fun x => M x ∨ x = b) cs l → Ts w (fun x => M x ∨ x = b) args vs →
    Calls P fn (Value.pointer (some ⟨b, 0, none⟩) :: vs).toArray w fun e w' => ∃ v l', e = .returned v ∧ res.p w' (fun x => M x ∨ x = b) v ∧ Kp [b] w w' ∧ w'.heap[b]? = some (.cells l'.toArray t (0, 0)) ∧ Cs w' (fun x => M x ∨ x = b) cs' l'

section
variable {P : Program} {f : Nat → Slot} {dst : Option Tmp} {ty : TypeId} {pos : String} {af : Array Edge} {gd : Option (Nat × Bool)}
theorem stp_imp {fn : Nat} {p : Operand} {xs : List Operand} {ts : Array TypeId} {id : Nat} {an : Option Nat} {t : TypeId} {cs us cs' : List V} {res : V} {css : List Slot} (hF : Imp P fn t cs us res cs') (hp : evS f p = .ptr id 0) (ha : argsV f xs us) (hcs : css = cs.map .dat) :
    Stp P ⟨dst, .call { callee := .value (.func fn), args := (p :: xs).toArray, argTypes := ts }, ty, pos, af, gd⟩ f ⟨false, [(id, some (some (.box an t css)))], [(id, some (some (.box an t (cs'.map .dat))))], .dat res⟩ := by
  subst hcs
  intro X f' own g a w Q hr hd hx hrd K hK
  have ho : own id = some (some (.box an t (cs.map .dat))) := hrd (id, _) (by simp)
  have hop : ∀ y, y ∈ p :: xs → RepS g w (Mof X g own) (evS f y) (a.eval y) := fun y hy => by
    have := hx y (by simp only [Op.operands, Call.operands]; simp at hy ⊢; exact .inr hy)
    rw [← this]; exact hr.ev y
  have h1 := hop p (by simp)
  rw [hp] at h1
  obtain ⟨b, h2, h3⟩ := h1
  obtain ⟨b', l, q1, q0, q2, q3, q4⟩ := hr.ob id _ ho
  rw [h2] at q1
  cases q1
  have hMeq : (fun x => (Mof X g own x ∧ x ≠ b) ∨ x = b) = Mof X g own := by
    funext x
    apply propext
    constructor
    · rintro (h | rfl)
      · exact h.1
      · exact .inr ⟨id, _, ho, h2⟩
    · intro h
      by_cases hxb : x = b
      · exact .inr hxb
      · exact .inl ⟨h, hxb⟩
  unfold Oper.wp
  rw [run_call hF.1 _ ts a.eval rfl w]
  show Calls P fn ((p :: xs).toArray.map a.eval) w _
  have harg : (p :: xs).toArray.map a.eval = (Value.pointer (some ⟨b, 0, none⟩) :: xs.map a.eval).toArray := by simp [h3]
  rw [harg]
  have hcall := hF.2 (fun x => Mof X g own x ∧ x ≠ b) w b l (xs.map a.eval) (fun b' hb' => hr.mlt b' hb'.1) (fun h => h.2 rfl) q2 (by
    rw [hMeq]
    refine ⟨by simpa using q3, fun j u hj => ?_⟩
    obtain ⟨x, r1, r2, r3⟩ := q4 j (.dat u) (by simp [hj])
    exact ⟨x, r1, r2, r3⟩) (by rw [hMeq]; exact argsV_rep xs us ha (fun y hy => hop y (List.mem_cons_of_mem _ hy)))
  refine hcall.mono ?_
  rintro e w' ⟨v, l', rfl, r1, r2, r3, r4⟩
  rw [hMeq] at r1 r4
  have hb := (hr.ob id _ ho).blk_lt h2
  have hout : ∀ M' : Blks, Ext (Mof X g own) M' w w' → (∀ b'', w.heap.size ≤ b'' → M' b'' → b'' = b) → Ext (Mof X g own) M' w' w' := fun M' he hM => ⟨Nat.le_refl _, fun _ _ _ => rfl, fun b'' hb'' hm => by
    rcases Nat.lt_or_ge b'' w.heap.size with hlt | hge
    · exact he.sub b'' hlt hm
    · have := hM b'' hge hm; omega⟩
  obtain ⟨hr', he⟩ := rel_upd (id := id) (ob' := .box an t (cs'.map .dat)) hr (Gh.le_refl g) (fun i _ => ⟨rfl, fun _ => rfl⟩) (.inr ⟨_, b, ho, h2, r2⟩) (fun b' hb' => .inr ⟨_, ho, hb'⟩) (fun e size es h => by cases h) (fun M' he hM => ⟨b, l', h2, q0, r3, by simpa using r4.1, fun j s hs => by
    rw [List.getElem?_map] at hs
    cases hq : cs'[j]? with
    | none => rw [hq] at hs; cases hs
    | some u =>
      rw [hq] at hs
      cases hs
      obtain ⟨x, s1, s2, s3⟩ := r4.2 j u hq
      exact ⟨x, s1, u.keep (hout M' he fun b'' h5 h6 => by have := hM b'' h5 h6; simp only [obk, h2] at this; cases this; rfl) s2, s3⟩⟩)
  refine hK g v w' (hr'.put _ (.dat res) v hd (res.keep (hout _ he fun b'' h5 h6 => ?_) r1))
  have := hr'.mlt b'' h6
  rcases h6 with h6 | ⟨i, o, h7, h8⟩
  · have h9 := (hr.m0 b'' h6).1
    have := hr.kp.size
    omega
  · by_cases hi : i = id
    · subst hi
      rw [upl_self] at h7
      cases h7
      simp only [obk, h2] at h8
      cases h8; rfl
    · rw [upl_ne hi] at h7
      have := (hr.ob i o h7).blk_lt h8
      omega
end

/-- where a function with a pointer to one object begins -/
theorem imp_start {N : Nat} {t : TypeId} {cs args : List V} {M : Blks} {w : World} {b : Nat} {l vs : List Value} (hn : args.length < N) (hM : ∀ b', M b' → b' < w.heap.size) (hMb : ¬ M b) (hbl : w.heap[b]? = some (.cells l.toArray t (0, 0))) (hcs : Cs w (fun x => M x ∨ x = b) cs l) (hvs : Ts w (fun x => M x ∨ x = b) args vs) :
    ∃ g0, Rel ⟨M, w, [b], N⟩ (fun s => (Slot.ptr 0 0 :: args.map Slot.dat).getD s .any) (ows [(0, .box (some b) t (cs.map .dat))]) g0 { tmps := (Value.pointer (some ⟨b, 0, none⟩) :: vs).toArray ++ Array.replicate (N - (Value.pointer (some ⟨b, 0, none⟩) :: vs).toArray.size) undef, defers := [] } w := by
  have hvl : vs.length = args.length := hvs.1
  let ob : AObj := .box (some b) t (cs.map .dat)
  let g0 : Gh := ⟨fun id => if id = 0 then some b else none, fun _ _ => none⟩
  have hg0 : g0.bl 0 = some b := rfl
  have hows : ∀ id o, ows [(0, ob)] id = some (some o) → id = 0 ∧ o = ob := fun id o ho => by
    by_cases hi : id = 0
    · subst hi
      have : ows [(0, ob)] 0 = some (some ob) := rfl
      rw [this] at ho
      cases ho; exact ⟨rfl, rfl⟩
    · simp only [ows, List.map_cons, upl, beq_false_of hi, cond_false, List.map_nil] at ho; cases ho
  have hMof : ∀ x, Mof ⟨M, w, [b], N⟩ g0 (ows [(0, ob)]) x ↔ (M x ∨ x = b) := fun x => by
    constructor
    · rintro (h | ⟨id, o, h1, h2⟩)
      · exact .inl h
      · obtain ⟨rfl, rfl⟩ := hows id o h1
        have h3 : g0.bl 0 = some x := h2
        rw [hg0] at h3; cases h3; exact .inr rfl
    · rintro (h | rfl)
      · exact .inl h
      · exact .inr ⟨0, ob, rfl, hg0⟩
  have hE : Ext (fun x => M x ∨ x = b) (Mof ⟨M, w, [b], N⟩ g0 (ows [(0, ob)])) w w := ⟨Nat.le_refl _, fun _ _ _ => rfl, fun x _ hx => (hMof x).1 hx⟩
  refine ⟨g0, ?_⟩
  refine ⟨Kp.refl _ _, fun b' hb' => ⟨hM b' hb', fun hm => ?_⟩, ?_, rfl, fun s => ?_, fun id o ho => ?_, fun id id' o o' b' h1 h2 h3 h4 => ?_, fun id o b' h1 h2 => ?_, fun id h1 => ?_, fun id e size es h1 => ?_⟩
  · have : b' = b := by simpa using hm
    subst this; exact hMb hb'
  · simp; omega
  · cases s with
    | zero =>
      refine ⟨b, hg0, ?_⟩
      rw [Array.getD_eq_getD_getElem?, Array.getElem?_append_left (by simp)]
      simp
    | succ s =>
      cases hs : args[s]? with
      | none =>
        have : (Slot.ptr 0 0 :: args.map Slot.dat).getD (s + 1) .any = .any := by rw [List.getD_eq_getElem?_getD, List.getElem?_cons_succ, List.getElem?_map, hs]; rfl
        rw [this]; trivial
      | some u =>
        have e1 : (Slot.ptr 0 0 :: args.map Slot.dat).getD (s + 1) .any = .dat u := by rw [List.getD_eq_getElem?_getD, List.getElem?_cons_succ, List.getElem?_map, hs]; rfl
        rw [e1]
        obtain ⟨x, hx, hp⟩ := hvs.2 s u hs
        have hlt : s < vs.length := (List.getElem?_eq_some_iff.1 hx).1
        show u.p w _ _
        rw [Array.getD_eq_getD_getElem?, Array.getElem?_append_left (by simp; omega), List.getElem?_toArray, List.getElem?_cons_succ, hx]
        exact u.keep hE hp
  · obtain ⟨rfl, rfl⟩ := hows id o ho
    refine ⟨b, l, hg0, (fun q hq => by cases hq; rfl), hbl, by simpa using hcs.1, fun j s hs => ?_⟩
    rw [List.getElem?_map] at hs
    cases hq : cs[j]? with
    | none => rw [hq] at hs; cases hs
    | some u =>
      rw [hq] at hs
      cases hs
      obtain ⟨x, s1, s2, s3⟩ := hcs.2 j u hq
      exact ⟨x, s1, u.keep hE s2, s3⟩
  · rw [(hows id o h1).1, (hows id' o' h2).1]
  · obtain ⟨rfl, rfl⟩ := hows id o h1
    have h3 : g0.bl 0 = some b' := h2
    rw [hg0] at h3
    cases h3
    exact .inl (by simp)
  · have hi : id ≠ 0 := by rintro rfl; cases h1
    exact ⟨if_neg hi, fun _ => rfl⟩
  · obtain ⟨_, h2⟩ := hows id _ h1
    have h3 : AObj.row e size es = .box (some b) t (cs.map .dat) := h2
    cases h3
/-- a function with a pointer to one object, out of its body -/
theorem imp_of {P : Program} {fn : Nat} {fc : Func} {c : Code} {t : TypeId} {cs args us cs' : List V} {N : Nat} {rs : List ResultVar} (hok : callOK P fn = true) (hf : P.funcs[fn]? = some fc) (hb : fc.body = some c) (hnt : fc.ntmps = N) (hrs : fc.results.toList = rs) (hn : Nat.blt args.length N = true)
    (h : ∀ (X : Ctx) (b : Nat), X.N = N → AWP P X c (fun e f own => (match e with | .ret => True | .normal => True | _ => False) ∧ ResVs P f own rs us ∧ own 0 = some (some (.box (some b) t (cs'.map .dat)))) (fun s => (Slot.ptr 0 0 :: args.map Slot.dat).getD s .any) (ows [(0, .box (some b) t (cs.map .dat))])) :
    Imp P fn t cs args (resOf us) cs' := by
  refine ⟨hok, fun M w b l vs hM hMb hbl hcs hvs => ?_⟩
  subst hnt hrs
  have hn : args.length < fc.ntmps := by simpa [Nat.blt_eq] using hn
  obtain ⟨g0, hrel⟩ := imp_start hn hM hMb hbl hcs hvs
  refine calls_of_wp hf hb (wp_mono (h ⟨M, w, [b], fc.ntmps⟩ b rfl g0 _ w hrel) ?_)
  · rintro e a' w' ⟨f', own', g', hr, he, hres, hown⟩
    obtain ⟨b', l', o1, o0, o2, o3, o4⟩ := hr.ob 0 _ hown
    have hbb : b = b' := o0 b rfl
    subst hbb
    have hsub : ∀ x, (M x ∨ x = b) → Mof ⟨M, w, [b], fc.ntmps⟩ g' own' x := fun x hx => by
      rcases hx with hx | rfl
      · exact .inl hx
      · exact .inr ⟨0, _, hown, o1⟩
    have hE' : Ext (Mof ⟨M, w, [b], fc.ntmps⟩ g' own') (fun x => M x ∨ x = b) w' w' := ⟨Nat.le_refl _, fun _ _ _ => rfl, fun x _ hx => hsub x hx⟩
    obtain ⟨v, hv1, hv2⟩ := run_res (P := P) hr (fun x => M x ∨ x = b) hE' (fun id e size es b' h1 h2 hm => by
      rcases hm with hm | rfl
      · have h5 := hr.m0 b' hm
        rcases hr.mine id _ b' h1 h2 with h6 | h6
        · exact h5.2 h6
        · have := h5.1
          omega
      · have h7 := hr.sep id 0 _ _ b' h1 hown h2 o1
        subst h7
        rw [hown] at h1
        cases h1) fc us hres
    have hfin : a'.defers = [] ∧ ∃ v, (results fc a'.tmps).run P w' = .ok v w' ∧ ∃ v_1 l', Ending.returned v = .returned v_1 ∧ (resOf us).p w' (fun x => M x ∨ x = b) v_1 ∧ Kp [b] w w' ∧ w'.heap[b]? = some (.cells l'.toArray t (0, 0)) ∧ Cs w' (fun x => M x ∨ x = b) cs' l' := by
      refine ⟨hr.df, v, hv1, v, l', rfl, hv2, hr.kp, o2, by simpa using o3, fun j u hj => ?_⟩
      obtain ⟨x, s1, s2, s3⟩ := o4 j (.dat u) (by simp [hj])
      exact ⟨x, s1, u.keep hE' s2, s3⟩
    cases e with
    | normal => exact hfin
    | ret => exact hfin
    | exit _ => exact he.elim
    | goto _ => exact he.elim
    | panic _ => exact he.elim
    | outgrown => exact he.elim
end Go.Proofs.Ytmcegaabopcmfaa
