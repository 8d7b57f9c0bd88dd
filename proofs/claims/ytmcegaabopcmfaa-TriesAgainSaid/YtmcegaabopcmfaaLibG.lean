/- The abstract machine: appends of what may be empty; new empty slices; slices and nil; rows that the library's functions turn in place. No program. -/
import Derived.Test.YtmcegaabopcmfaaAbsV
import Derived.Lib.LazyBuf
import Derived.Sort.Grow
namespace Go.Proofs.Ytmcegaabopcmfaa
open Go.RowKit
set_option linter.unusedVariables false

section
variable {P : Program} {f : Nat → Slot} {dst : Option Tmp} {ty : TypeId} {pos : String} {af : Array Edge} {gd : Option (Nat × Bool)}
theorem run_append_empty {t e : TypeId} {size bytes : Nat} (hE : Elem P t e size bytes) (base : Option Addr) (n cap : Nat) (hn : n ≤ cap) (A : Option Addr) (c : Nat) (w : World) :
    (Builtin.append_ #[t, t] ty #[.slice base n cap, .slice A 0 c]).run P w = .ok (.slice base n cap) w := by
  obtain ⟨e1, i, z, e2, e3, e4, e5, e6, e7, e8, e9⟩ := elem_at hE w
  cases A <;> cases base <;> simp [Builtin.append_, run_underlying e1, e9, Builtin.lenOf, Builtin.firstCells, hn, loadCells, loadCellsFrom, storeCells]

theorem stp_app2 {t e : TypeId} {size bytes : Nat} {x y : Operand} {id : Nat} {es news : List (List V)} (hE : Elem P t e size bytes) (hx : evS f x = .row id es.length) (hy : evS f y = .dat (vlst news)) (hn : ∀ el, el ∈ news → el.length = size)
    (hlen : es.length + news.length ≤ 1000000000) (hby : (es.length + news.length) * bytes ≤ 140737488355328) :
    Stp P ⟨dst, .call { callee := .builtin .append, args := #[x, y], argTypes := #[t, t] }, ty, pos, af, gd⟩ f ⟨false, [(id, some (some (.row e size es)))], [(id, some (some (.row e size (es ++ news))))], .row id (es ++ news).length⟩ := by
  by_cases hne : news = []
  · subst hne
    refine stp_upd fun X f' own g a w hr ho h => ?_
    have h1 := h x (by simp [Op.operands, Call.operands])
    have h2 := h y (by simp [Op.operands, Call.operands])
    rw [hx] at h1
    rw [hy] at h2
    obtain ⟨v, xs, q1, q2, q3, q4, q5⟩ := hr.ob id _ ho
    have hv : g.sv id es.length = some (a.eval x) := h1
    rw [hv] at q1
    cases q1
    obtain ⟨A, c, p1, p2, _⟩ := h2
    have hsl : ∃ base cap, a.eval x = .slice base es.length cap ∧ es.length ≤ cap := by
      rcases q2.2 with ⟨e1, e2⟩ | ⟨b, cap, cur, e1, _, _, e4, _⟩
      · exact ⟨none, 0, by rw [e1, e2], by omega⟩
      · exact ⟨_, cap, e1, e4⟩
    obtain ⟨base, cap, hb1, hb2⟩ := hsl
    refine ⟨g, w, .value (a.eval x), a.eval x, Gh.le_refl g, fun i _ => ⟨rfl, fun _ => rfl⟩, run_appendb rfl p1 ?_, .inl rfl, .inl (Kp.refl _ _), fun b hb => .inr ⟨_, ho, by simpa using hb⟩, fun e' s' es' he k hk => ?_, fun M' he => ⟨?_, ?_⟩⟩
    · rw [hb1]; exact run_append_empty hE _ _ _ hb2 _ _ _
    · cases he; exact hr.top id e size es ho k (by simpa using hk)
    · rw [List.append_nil]; exact (hr.ob id _ ho).keep he (Gh.le_refl g) fun _ _ => rfl
    · show g.sv id (es ++ []).length = some (a.eval x)
      rw [List.append_nil]; exact hv
  · exact stp_app hE hx hy hne hn hlen hby
theorem stp_appN2 (id : Nat) {t e : TypeId} {size bytes : Nat} {x y : Operand} {news : List (List V)} (hE : Elem P t e size bytes) (hx : evS f x = .dat vnil) (hy : evS f y = .dat (vlst news)) (hn : ∀ el, el ∈ news → el.length = size)
    (hlen : news.length ≤ 1000000000) (hby : news.length * bytes ≤ 140737488355328) :
    Stp P ⟨dst, .call { callee := .builtin .append, args := #[x, y], argTypes := #[t, t] }, ty, pos, af, gd⟩ f ⟨false, [(id, none)], [(id, some (some (.row e size news)))], .row id news.length⟩ := by
  by_cases hne : news = []
  · subst hne
    refine stp_upd fun X f' own g a w hr ho h => ?_
    have h1 : a.eval x = .slice none 0 0 := val_of (h x (by simp [Op.operands, Call.operands])) hx
    have h2 := h y (by simp [Op.operands, Call.operands])
    rw [hy] at h2
    obtain ⟨A, c, p1, p2, _⟩ := h2
    obtain ⟨_, _, _, _, _, _, _, _, e7, _, _⟩ := elem_at hE w
    let g' : Gh := ⟨g.bl, fun i k => if i = id ∧ k = 0 then some (.slice none 0 0) else g.sv i k⟩
    have hsv : g'.sv id 0 = some (.slice none 0 0) := if_pos ⟨rfl, rfl⟩
    refine ⟨g', w, .value (.slice none 0 0), .slice none 0 0, ⟨fun _ _ h => h, fun i k u hu => ?_⟩, fun i hi => ⟨rfl, fun k => if_neg fun h => hi h.1⟩, run_appendb h1 p1 (run_append_empty hE none 0 0 (Nat.le_refl _) _ _ _), .inl rfl, .inl (Kp.refl _ _), fun b hb => ?_, fun e' s' es' he k hk => ?_, fun M' he => ⟨⟨.slice none 0 0, [], hsv, World.ownsRow_nil w 0 e size, e7, by simp, by simp⟩, hsv⟩⟩
    · show (if i = id ∧ k = 0 then _ else g.sv i k) = some u
      rw [if_neg]
      · exact hu
      · rintro ⟨rfl, rfl⟩
        rw [(hr.fresh i ho).2] at hu
        cases hu
    · simp only [obk, List.length_nil, hsv, Option.bind_some] at hb
      simp [Value.ownBlock] at hb
    · cases he
      show (if id = id ∧ k = 0 then _ else g.sv id k) = none
      rw [if_neg (by simp at hk; omega)]
      exact (hr.fresh id ho).2 k
  · exact stp_appN id hE hx hy hne hn hlen hby
/-- a new empty slice, as a row -/
theorem stp_lit0 (id : Nat) {t e : TypeId} {size bytes : Nat} (hE : Elem P t e size bytes) : Stp P ⟨dst, .buildSlice t 0 #[], ty, pos, af, gd⟩ f ⟨false, [(id, none)], [(id, some (some (.row e size [])))], .row id 0⟩ := by
  refine stp_upd fun X f' own g a w hr ho h => ?_
  obtain ⟨e1, i, z, e2, e3, e4, e5, e6, e7, e8, e9⟩ := elem_at hE w
  let v : Value := .slice (some ⟨w.heap.size, 0, none⟩) 0 0
  let g' : Gh := ⟨g.bl, fun i k => if i = id ∧ k = 0 then some v else g.sv i k⟩
  have hsv : g'.sv id 0 = some v := if_pos ⟨rfl, rfl⟩
  refine ⟨g', w.alloc (.cells #[] e), .value v, v, ⟨fun _ _ h => h, fun i k u hu => ?_⟩, fun i hi => ⟨rfl, fun k => if_neg fun h => hi h.1⟩, ?_, .inl rfl, .inl ((Kp.refl [] w).alloc _), fun b hb => ?_, fun e' s' es' he k hk => ?_, fun M' he => ⟨⟨v, [], hsv, ⟨by simp, .inr ⟨w.heap.size, 0, #[], rfl, Nat.zero_le _, heap_alloc_new w _, Nat.le_refl _, Nat.zero_le _, by simp, by simp⟩⟩, e7, by simp, by simp⟩, hsv⟩⟩
  · show (if i = id ∧ k = 0 then _ else g.sv i k) = some u
    rw [if_neg]
    · exact hu
    · rintro ⟨rfl, rfl⟩
      rw [(hr.fresh i ho).2] at hu
      cases hu
  · simp [execOp, Instr.buildSlice, run_underlying e1, e9, newRow, Instr.fill, v]
    have h0 : Array.map (fun _ => (default : Value)) (Array.range 0) = #[] := by simp [Array.range]
    rw [h0]
  · simp only [obk, List.length_nil, hsv, Option.bind_some] at hb
    exact .inl (by cases hb; exact Nat.le_refl _)
  · cases he
    show (if id = id ∧ k = 0 then _ else g.sv id k) = none
    rw [if_neg (by simp at hk; omega)]
    exact (hr.fresh id ho).2 k
end

/-- a slice that is not nil; a nil -/
def vnn (es : List (List V)) : V :=
  ⟨fun w M v => ∃ A c, v = .slice (some A) es.length c ∧ es.length ≤ c ∧ (es ≠ [] → ∃ b off size, A = ⟨b, off, none⟩ ∧ RowAt w M b off size es), true,
   fun e ⟨A, c, h1, h2, h3⟩ => ⟨A, c, h1, h2, fun hne => let ⟨b, off, size, g1, g2⟩ := h3 hne; ⟨b, off, size, g1, g2.keep e⟩⟩,
   fun _ _ _ v ⟨A, c, h1, _⟩ => by rw [h1]; rfl⟩
def vnl : V := ⟨fun w M v => ∃ c, v = .slice none 0 c, true, fun _ h => h, fun _ _ _ v ⟨c, h⟩ => by rw [h]; rfl⟩
theorem wk_nn {es : List (List V)} : Wk (vnn es) (vlst es) := fun w M v h => by
  obtain ⟨A, c, h1, h2, h3⟩ := h
  exact ⟨some A, c, h1, h2, fun hne => let ⟨b, off, size, g1, g2⟩ := h3 hne; ⟨b, off, size, by rw [g1], g2⟩⟩
section
variable {P : Program} {X : Ctx} {Q : Exit → (Nat → Slot) → Own → Prop} {own : Own} {f : Nat → Slot} {c : Code}
theorem awp_nilcase (t : Nat) {es : List (List V)} (hf : f t = .dat (vlst es)) (h1 : es = [] → AWP P X c Q (updS f (some t) (.dat vnl)) own) (h2 : AWP P X c Q (updS f (some t) (.dat (vnn es))) own) : AWP P X c Q f own := by
  intro g a w hr
  have hfr := hr.fr t
  rw [hf] at hfr
  obtain ⟨A, cc, e1, e2, e3⟩ := hfr
  have hput : ∀ s, RepS g w (Mof X g own) s (a.tmps.getD t undef) → Rel X (updS f (some t) s) own g a w := fun s hs =>
    ⟨hr.kp, hr.m0, hr.n, hr.df, fun t' => by
        by_cases ht : t' = t
        · subst ht
          have e1 : Nat.beq t' t' = true := by simp
          simp only [updS, e1, cond_true]
          exact hs
        · have := hr.fr t'
          simp only [updS, beq_false_of ht, cond_false]
          exact this, hr.ob, hr.sep, hr.mine, hr.fresh, hr.top⟩
  cases A with
  | none =>
    have hes : es = [] := by
      rcases es with _ | ⟨x, l⟩
      · rfl
      · obtain ⟨b, off, size, q, _⟩ := e3 (by simp); cases q
    subst hes
    exact h1 rfl g a w (hput _ ⟨cc, e1⟩)
  | some A => exact h2 g a w (hput _ ⟨A, cc, e1, e2, fun hne => let ⟨b, off, size, g1, g2⟩ := e3 hne; ⟨b, off, size, by cases g1; rfl, g2⟩⟩)
end
section
variable {P : Program} {f : Nat → Slot} {dst : Option Tmp} {ty t' : TypeId} {pos : String} {af : Array Edge} {gd : Option (Nat × Bool)}
theorem stp_eqnil_t {t e : TypeId} {x : Operand} (ht : P.underlying t = some (.slice e)) (hx : evS f x = .dat vnl) : Stp P ⟨dst, .binOp .eql t x (.const (.slice none 0 0)) t', ty, pos, af, gd⟩ f ⟨false, [], [], .dat (vbool true)⟩ :=
  stp_val fun X own g a w h => by
    have h1 := h x (by simp [Op.operands])
    rw [hx] at h1
    obtain ⟨c, h2⟩ := h1
    have h3 : a.eval (.const (.slice none 0 0)) = .slice none 0 0 := rfl
    exact ⟨.bool true, by simp [execOp, h2, h3, eqGuard, Lib.run_eql_slice_nil w t e none 0 c 0 0 ht], rfl⟩
theorem stp_eqnil_f {t e : TypeId} {x : Operand} {es : List (List V)} (ht : P.underlying t = some (.slice e)) (hx : evS f x = .dat (vnn es)) : Stp P ⟨dst, .binOp .eql t x (.const (.slice none 0 0)) t', ty, pos, af, gd⟩ f ⟨false, [], [], .dat (vbool false)⟩ :=
  stp_val fun X own g a w h => by
    have h1 := h x (by simp [Op.operands])
    rw [hx] at h1
    obtain ⟨A, c, h2, _⟩ := h1
    have h3 : a.eval (.const (.slice none 0 0)) = .slice none 0 0 := rfl
    exact ⟨.bool false, by simp [execOp, h2, h3, eqGuard, Lib.run_eql_slice_nil w t e (some A) es.length c 0 0 ht], rfl⟩
variable {α : Type} {C : α → List V} {xs ys : List α}
theorem t_app2 {t e : TypeId} {size bytes : Nat} {x y : Operand} {id n : Nat} (hE : Elem P t e size bytes) (hC : ∀ y, (C y).length = size) (hx : evS f x = .row id n) (hn : n = xs.length) (hy : evS f y = .dat (vlst (ys.map C))) (hlen : xs.length + ys.length ≤ 1000000000) (hby : Nat.ble bytes 140737 = true) :
    Stp P ⟨dst, .call { callee := .builtin .append, args := #[x, y], argTypes := #[t, t] }, ty, pos, af, gd⟩ f ⟨false, [(id, some (some (.row e size (xs.map C))))], [(id, some (some (.row e size ((xs ++ ys).map C))))], .row id (xs ++ ys).length⟩ := by
  subst hn
  have hb := Nat.le_of_ble_eq_true hby
  have h := stp_app2 (dst := dst) (ty := ty) (pos := pos) (af := af) (gd := gd) (id := id) (es := xs.map C) (news := ys.map C) hE (by rw [List.length_map]; exact hx) hy (map_len hC) (by simp only [List.length_map]; exact hlen)
    (by simp only [List.length_map]; exact Nat.le_trans (Nat.mul_le_mul hlen hb) (by decide))
  rw [← List.map_append, List.length_map] at h
  exact h
theorem t_appN2 (id : Nat) {t e : TypeId} {size bytes : Nat} {x y : Operand} (hE : Elem P t e size bytes) (hC : ∀ y, (C y).length = size) (hx : evS f x = .dat vnil) (hy : evS f y = .dat (vlst (ys.map C))) (hlen : ys.length ≤ 1000000000) (hby : Nat.ble bytes 140737 = true) :
    Stp P ⟨dst, .call { callee := .builtin .append, args := #[x, y], argTypes := #[t, t] }, ty, pos, af, gd⟩ f ⟨false, [(id, none)], [(id, some (some (.row e size (ys.map C))))], .row id ys.length⟩ := by
  have hb := Nat.le_of_ble_eq_true hby
  have h := stp_appN2 (dst := dst) (ty := ty) (pos := pos) (af := af) (gd := gd) id (news := ys.map C) hE hx hy (map_len hC) (by simp only [List.length_map]; exact hlen)
    (by simp only [List.length_map]; exact Nat.le_trans (Nat.mul_le_mul hlen hb) (by decide))
  rw [List.length_map] at h
  exact h
end

/-- a function of data that gives a new row -/
theorem fnG_new {P : Program} {fn : Nat} {args : List V} {e : TypeId} {size : Nat} {es : List (List V)} (hok : callOK P fn = true) (hs : 0 < size) (hel : ∀ el, el ∈ es → el.length = size)
    (h : ∀ (M : Blks) (w : World) (vs : List Value), (∀ b, M b → b < w.heap.size) → Ts w M args vs → Calls P fn vs.toArray w fun r w' => ∃ v xs, r = .returned v ∧ Kp [] w w' ∧ w'.ownsRow w.heap.size e size v es.length xs ∧
      ∀ M', Ext M M' w w' → ∀ (k c : Nat) (el : List V) (u : V), es[k]? = some el → el[c]? = some u → ∃ x, xs[k * size + c]? = some x ∧ u.p w' M' x ∧ x.oneCell' = true) :
    FnG P fn (args.map .dat) [] (.row 900 es.length) [(900, .row e size es)] := by
  refine ⟨hok, fun X A g w vs hw hm hvl hvs => ?_⟩
  have hTs : Ts w (Mof X g (ows (anL A []))) args vs.toList := by
    refine ⟨by simpa using hvl, fun j u hj => ?_⟩
    obtain ⟨v, h1, h2⟩ := hvs j (.dat u) (by rw [List.getElem?_map, hj]; rfl)
    exact ⟨v, by simpa using h1, h2⟩
  have hM : ∀ b, Mof X g (ows (anL A [])) b → b < w.heap.size := by
    rintro b (hb | ⟨id, o, h1, h2⟩)
    · have := (hm.m0 b hb).1; rw [hw] at this; exact this
    · cases h1
  have hc := h _ w vs.toList hM hTs
  simp only [Array.toArray_toList] at hc
  refine hc.mono ?_
  rintro r w' ⟨v, xs, rfl, h1, h2, h3⟩
  let g' : Gh := ⟨g.bl, fun i k => if i = 900 ∧ k = es.length then some v else g.sv i k⟩
  have hsv : g'.sv 900 es.length = some v := if_pos ⟨rfl, rfl⟩
  have hown : ∀ id o, ows (anL A [(900, AObj.row e size es)]) id = some (some o) → id = 900 ∧ o = .row e size es := by
    intro id o ho
    have := (ows_iff (by simp [anL]) (id := id) (o := o)).1 ho
    simpa [anL, anO] using this
  have hb : ∀ b, v.ownBlock = some b → w.heap.size ≤ b := by
    intro b hb
    rcases h2.2 with ⟨e1, _⟩ | ⟨b', cap, cur, e1, e2, _⟩
    · rw [e1] at hb; cases hb
    · rw [e1] at hb; cases hb; exact e2
  have hE : Ext (Mof X g (ows (anL A []))) (Mof X g' (ows (anL A [(900, AObj.row e size es)]))) w w' := by
    refine ⟨h1.size, fun b hb _ => h1.block b hb (by simp), fun b hlt hb' => ?_⟩
    rcases hb' with hb' | ⟨id, o, q1, q2⟩
    · exact .inl hb'
    · obtain ⟨rfl, rfl⟩ := hown id o q1
      simp only [obk, hsv, Option.bind_some] at q2
      have := hb b q2
      omega
  refine ⟨v, g', rfl, ⟨?_, hm.m0, ?_, ?_, ?_, ?_, ?_⟩, hsv⟩
  · have hk := hm.kp
    exact ⟨h1.os.trans hk.os, h1.tape.trans hk.tape, h1.output.trans hk.output, Nat.le_trans hk.size h1.size, fun k hk1 hk2 => (h1.block k (Nat.lt_of_lt_of_le hk1 hk.size) (by simp)).trans (hk.block k hk1 hk2)⟩
  · intro id o ho
    obtain ⟨rfl, rfl⟩ := hown id o ho
    refine ⟨v, xs, hsv, ⟨h2.1, ?_⟩, hs, hel, h3 _ hE⟩
    rcases h2.2 with q | ⟨b', cap, cur, q1, q2, q3⟩
    · exact .inl q
    · exact .inr ⟨b', cap, cur, q1, Nat.zero_le _, q3⟩
  · intro id id' o o' b q1 q2 _ _
    rw [(hown id o q1).1, (hown id' o' q2).1]
  · intro id o b q1 q2
    obtain ⟨rfl, rfl⟩ := hown id o q1
    simp only [obk, hsv, Option.bind_some] at q2
    rw [hw]
    exact .inr (hb b q2)
  · intro id hid
    have h9 : id ≠ 900 := fun h => by subst h; cases hid
    have := hm.fresh id rfl
    exact ⟨this.1, fun n => by
      show (if id = 900 ∧ n = es.length then some v else g.sv id n) = none
      rw [if_neg (fun h => h9 h.1)]; exact this.2 n⟩
  · intro id e' s' es' q1 k hk
    obtain ⟨rfl, q2⟩ := hown id _ q1
    cases q2
    show (if 900 = 900 ∧ k = es.length then some v else g.sv 900 k) = none
    rw [if_neg (by omega)]
    exact (hm.fresh 900 rfl).2 k
/-- a new row as data -/
theorem fn_of_fnG {P : Program} {fn : Nat} {args : List V} {e : TypeId} {size : Nat} {es : List (List V)} (h : FnG P fn (args.map .dat) [] (.row 900 es.length) [(900, .row e size es)]) : Fn P fn args (resOf [vlst es]) := by
  refine ⟨h.1, fun M w vs hM hvs => ?_⟩
  have hm : Mem ⟨M, w, [], 0⟩ (ows (anL ⟨fun _ => 0, fun _ => undef⟩ [])) ⟨fun _ => none, fun _ _ => none⟩ w :=
    ⟨Kp.refl _ _, fun b hb => ⟨hM b hb, by simp⟩, fun id o h => (by cases h), fun id id' o o' b h => (by cases h), fun id o b h => (by cases h), fun id _ => ⟨rfl, fun _ => rfl⟩, fun id e size es h => (by cases h)⟩
  have hMe : Mof ⟨M, w, [], 0⟩ ⟨fun _ => none, fun _ _ => none⟩ (ows (anL ⟨fun _ => 0, fun _ => undef⟩ [])) = M := by
    funext b
    apply propext
    constructor
    · rintro (h | ⟨id, o, h1, _⟩)
      · exact h
      · cases h1
    · exact fun h => .inl h
  refine (h.2 ⟨M, w, [], 0⟩ ⟨fun _ => 0, fun _ => undef⟩ ⟨fun _ => none, fun _ _ => none⟩ w vs rfl hm (by simpa using hvs.1) (fun j s hs => ?_)).mono ?_
  · rw [List.getElem?_map] at hs
    cases hq : args[j]? with
    | none => rw [hq] at hs; cases hs
    | some u =>
      rw [hq] at hs
      cases hs
      obtain ⟨x, h1, h2⟩ := hvs.2 j u hq
      exact ⟨x, by simpa using h1, by rw [hMe]; exact h2⟩
  · rintro r w' ⟨v, g', rfl, hm', hv⟩
    refine ⟨v, rfl, ?_, hm'.kp⟩
    have hv : g'.sv 900 es.length = some v := hv
    obtain ⟨v', xs, q1, q2, q3, q4, q5⟩ := hm'.ob 900 _ rfl
    rw [hv] at q1
    cases q1
    rcases q2.2 with ⟨e1, e2⟩ | ⟨b, cap, cur, e1, _, e3, e4, e5, e6, e7⟩
    · exact ⟨none, 0, by rw [e1, e2], by omega, fun hne => absurd (List.eq_nil_of_length_eq_zero e2) hne⟩
    · have hbM : ¬ M b := fun hb => by
        have h1 := hm'.mine 900 _ b rfl (show (g'.sv 900 es.length).bind Value.ownBlock = some b by rw [hv, e1]; rfl)
        rcases h1 with h1 | h1
        · simp at h1
        · exact absurd (hM b hb) (by simpa using h1)
      refine ⟨some ⟨b, 0, none⟩, cap, e1, e4, fun _ => ⟨b, 0, size, rfl, hbM, cur, e, (0, 0), e3, q4, fun k c el u hk hc => ?_⟩⟩
      obtain ⟨x, s1, s2, s3⟩ := q5 k c el u hk hc
      refine ⟨x, ?_, u.keep (M := Mof ⟨M, w, [], 0⟩ g' _) ⟨Nat.le_refl _, fun _ _ _ => rfl, fun b _ hb => .inl hb⟩ s2, s3⟩
      have hkl := (List.getElem?_eq_some_iff.1 hk).1
      have hcl := (List.getElem?_eq_some_iff.1 hc).1
      have hel := q4 el (List.mem_of_getElem? hk)
      rw [← e7, List.getElem?_take_of_lt (idx_lt hkl (by omega))] at s1
      simpa using s1

/-- a function that turns a row in place -/
theorem fnG_turn {α : Type} [Inhabited α] {P : Program} {fn : Nat} {e : TypeId} (enc : α → Value) (ys xs : List α) (hlen : ys.length = xs.length) (hok : callOK P fn = true) (hone : ∀ x, (enc x).oneCell' = true)
    (h : ∀ (blk cap : Nat) (w : World), Sort.Holds enc w blk 0 xs.toArray → blk < w.heap.size → Calls P fn #[.slice (some ⟨blk, 0, none⟩) xs.length cap] w fun r w' => r = .returned (.tuple #[]) ∧ ∃ n os, w' = Sort.grow (Sort.putRow enc (Sort.ahead w n) blk 0 ys.toArray) os)
    (hnil : xs = [] → ∀ w, Calls P fn #[.slice none 0 0] w fun r w' => r = .returned (.tuple #[]) ∧ w' = w) :
    FnG P fn [.row 0 xs.length] [(0, .rowA undef e 1 (xs.map fun x => [vval (enc x)]))] (.dat (resOf [])) [(0, .rowA undef e 1 (ys.map fun x => [vval (enc x)]))] := by
  refine ⟨hok, fun X A g w vs hw hm hvl hvs => ?_⟩
  obtain ⟨v, hv1, hv2⟩ := hvs 0 _ rfl
  have hv2 : g.sv 0 xs.length = some v := hv2
  have hvs' : vs = #[v] := by
    apply Array.ext_getElem?
    intro i
    rcases i with _ | i
    · rw [hv1]; rfl
    · rw [Array.getElem?_eq_none (by simp at hvl; omega), Array.getElem?_eq_none (by simp)]
  subst hvs'
  obtain ⟨cs, o1, o2, o3, o4, o5⟩ := hm.ob 0 _ rfl
  simp only [List.length_map] at o1 o2
  have hvA : A.vl 0 = v := by rw [hv2] at o1; cases o1; rfl
  have hcs : cs = xs.map enc := by
    apply List.ext_getElem?
    intro k
    rcases Nat.lt_or_ge k xs.length with hk | hk
    · obtain ⟨x, q1, q2, q3⟩ := o5 k 0 [vval (enc xs[k])] (vval (enc xs[k])) (by rw [List.getElem?_map, List.getElem?_eq_getElem hk]; rfl) rfl
      have q2 : x = enc xs[k] := q2
      rw [List.getElem?_map, List.getElem?_eq_getElem hk]
      simpa [q2] using q1
    · rw [List.getElem?_eq_none (by rw [o2.1]; omega), List.getElem?_eq_none (by simpa using hk)]
  rcases o2.2 with ⟨e1, e2⟩ | ⟨b, cap, cur, e1, _, e3, e4, e5, e6, e7⟩
  · have hx0 : xs = [] := List.eq_nil_of_length_eq_zero e2
    have hy0 : ys = [] := List.eq_nil_of_length_eq_zero (by rw [hlen, e2])
    subst hx0 hy0
    rw [← hvA, e1]
    refine (hnil rfl w).mono ?_
    rintro r w' ⟨rfl, rfl⟩
    exact ⟨.tuple #[], g, rfl, hm, [], rfl, rfl, fun j u hj => by simp at hj⟩
  · have hbl : b < w.heap.size := heap_lt e3
    have hob : obk g 0 (.rowA (A.vl 0) e 1 (xs.map fun x => [vval (enc x)])) = some b := by simp only [obk, e1]; rfl
    have hbS : b ∈ X.S0 := by
      rcases hm.mine 0 _ b rfl hob with h | h
      · exact h
      · rw [hw] at h; omega
    rw [← hvA, e1]
    have hxs : (cur.toList.take (xs.length * 1)) = xs.map enc := by rw [e7, hcs]
    have hcell : ∀ j, j < xs.length → cur[j]? = some (enc xs[j]!) := fun j hj => by
      have h1 := congrArg (fun l => l[j]?) hxs
      simp only [Nat.mul_one] at h1
      rw [List.getElem?_take_of_lt hj, List.getElem?_map, List.getElem?_eq_getElem hj] at h1
      rw [getElem!_pos xs j hj]
      simpa using h1
    refine (h b cap w (fun j hj => ⟨?_, ?_⟩) hbl).mono ?_
    · rw [cell_of_row w b _ _ _ _ e3]
      have hj' : j < xs.length := by simpa using hj
      rw [Nat.zero_add, hcell j hj']
      simp
    · simp [World.frozen?, e3]
    · rintro r w' ⟨rfl, n, os, rfl⟩
      have hheap : ∀ k, k < w.heap.size → (Sort.grow (Sort.putRow enc (Sort.ahead w n) b 0 ys.toArray) os).heap[k]? = if b = k then (w.heap[k]?).map (Sort.onCells (Sort.putCells enc 0 ys.toArray)) else w.heap[k]? := fun k hk => by
        rw [Sort.heap_grow_old _ _ (by simp [Sort.putRow, Sort.mapBlock, Sort.ahead]; exact hk)]
        simp [Sort.putRow, Sort.mapBlock, Sort.ahead, Array.getElem?_modify]
      have hsz : w.heap.size ≤ (Sort.grow (Sort.putRow enc (Sort.ahead w n) b 0 ys.toArray) os).heap.size := by simp [Sort.grow, Sort.putRow, Sort.mapBlock, Sort.ahead]
      have hb' : (Sort.grow (Sort.putRow enc (Sort.ahead w n) b 0 ys.toArray) os).heap[b]? = some (.cells (Sort.putCells enc 0 ys.toArray cur) e (0, 0)) := by
        rw [hheap b hbl, if_pos rfl, e3]; rfl
      refine ⟨.tuple #[], g, rfl, ⟨⟨?_, ?_, ?_, ?_, ?_⟩, hm.m0, ?_, ?_, ?_, ?_, ?_⟩, [], rfl, rfl, fun j u hj => by simp at hj⟩
      · rw [hw]; rfl
      · rw [hw]; rfl
      · rw [hw]; rfl
      · rw [hw]; exact hsz
      · intro k hk hn
        rw [hw] at hk ⊢
        rw [hheap k hk, if_neg (by rintro rfl; exact hn hbS)]
      · intro id o ho
        rcases id with _ | id
        · cases ho
          refine ⟨ys.map enc, ?_, ?_, o3, ?_, ?_⟩
          · simp only [List.length_map, hlen]; exact o1
          · refine ⟨by simp, .inr ⟨b, cap, Sort.putCells enc 0 ys.toArray cur, by simp only [List.length_map, hlen]; exact e1, Nat.zero_le _, hb', by simp only [List.length_map, hlen]; exact e4, e5, by simp [Sort.putCells, e6], ?_⟩⟩
            apply List.ext_getElem?
            intro k
            simp only [List.length_map, Nat.mul_one]
            rcases Nat.lt_or_ge k ys.length with hk | hk
            · have hkc : k < cur.size := by rw [e6]; omega
              rw [List.getElem?_take_of_lt hk, List.getElem?_map, List.getElem?_eq_getElem hk]
              simp [Sort.putCells, hk, hkc]
            · rw [List.getElem?_eq_none (by simp; omega), List.getElem?_eq_none (by simpa using hk)]
          · intro el hel
            obtain ⟨y, _, rfl⟩ := List.mem_map.1 hel
            rfl
          · intro k c el u hk hc
            rw [List.getElem?_map] at hk
            cases hq : ys[k]? with
            | none => rw [hq] at hk; cases hk
            | some y =>
              rw [hq] at hk
              cases hk
              rcases c with _ | c
              · cases hc
                exact ⟨enc y, by rw [Nat.mul_one, Nat.add_zero, List.getElem?_map, hq]; rfl, rfl, hone y⟩
              · simp at hc
        · cases ho
      · intro id id' o o' b' h1 h2 h3 h4
        rcases id with _ | id
        · rcases id' with _ | id'
          · rfl
          · cases h2
        · cases h1
      · intro id o b' h1 h2
        rcases id with _ | id
        · cases h1
          exact hm.mine 0 _ b' rfl h2
        · cases h1
      · intro id h1
        rcases id with _ | id
        · cases h1
        · exact hm.fresh (id + 1) rfl
      · intro id e' s' es' h1
        rcases id with _ | id
        · cases h1
        · cases h1
end Go.Proofs.Ytmcegaabopcmfaa
