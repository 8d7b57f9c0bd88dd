/- The abstract machine: rows of one's own; literals; slices of strings and of slices; small builtins. -/
import Derived.Test.YtmcegaabopcmfaaAbsN
import Derived.Maps.AppendAt
namespace Go.Proofs.Ytmcegaabopcmfaa
open Go.RowKit
set_option linter.unusedVariables false

theorem idx_lt {k n c size : Nat} (h : k < n) (hc : c < size) : k * size + c < n * size := by
  have h1 : (k + 1) * size ≤ n * size := Nat.mul_le_mul_right _ h
  have h2 : (k + 1) * size = k * size + size := Nat.succ_mul k size
  omega

section
variable {P : Program} {f : Nat → Slot} {dst : Option Tmp} {ty : TypeId} {pos : String} {af : Array Edge} {gd : Option (Nat × Bool)}

theorem stp_upd {o : Oper} {id : Nat} {q : Option (Option AObj)} {ob' : AObj} {s : Slot}
    (h : ∀ (X : Ctx) (f' : Nat → Slot) (own : Own) (g : Gh) (a : Act) (w : World), Rel X f' own g a w → own id = q → (∀ x, x ∈ o.op.operands → RepS g w (Mof X g own) (evS f x) (a.eval x)) →
      ∃ (g' : Gh) (w' : World) (nx : Next) (v : Value), g.le g' ∧ (∀ i, i ≠ id → g'.bl i = g.bl i ∧ ∀ n, g'.sv i n = g.sv i n) ∧ (execOp a.eval o).run P w = .ok nx w' ∧ (nx = .value v ∨ (nx = .skip ∧ v = undef)) ∧
        (Kp [] w w' ∨ ∃ ob b, own id = some (some ob) ∧ obk g id ob = some b ∧ Kp [b] w w') ∧ (∀ b, obk g' id ob' = some b → w.heap.size ≤ b ∨ ∃ ob, own id = some (some ob) ∧ obk g id ob = some b) ∧
        (∀ e size es, ob' = .row e size es → ∀ k, es.length < k → g'.sv id k = none) ∧ ∀ M', Ext (Mof X g own) M' w w' → RepO g' w' M' id ob' ∧ RepS g' w' M' s v) :
    Stp P o f ⟨false, [(id, q)], [(id, some (some ob'))], s⟩ := by
  intro X f' own g a w Q hr hd hx hrd K hK
  have ho : own id = q := hrd (id, q) (by simp)
  obtain ⟨g', w', nx, v, h1, h2, h3, h4, h5, h6, h7, h8⟩ := h X f' own g a w hr ho (fun x hm => by rw [← hx x hm]; exact hr.ev x)
  obtain ⟨hr', he⟩ := rel_upd (id := id) (ob' := ob') hr h1 h2 h5 h6 h7 (fun M' he _ => (h8 M' he).1)
  have hfin := hK g' v w' (hr'.put o.dst s v hd (h8 _ he).2)
  unfold Oper.wp
  rw [h3]
  rcases h4 with rfl | ⟨rfl, rfl⟩
  · exact hfin
  · exact hfin

/-- the cells of some elements in memory -/
theorem row_vals {w : World} {M : Blks} {b off size : Nat} {es : List (List V)} (h : RowAt w M b off size es) : ∃ l : List Value, l.length = es.length * size ∧ (∀ j u, l[j]? = some u → w.cell? ((⟨b, off, none⟩ : Addr).add j) = some u) ∧ (∀ u, u ∈ l → u.oneCell' = true) ∧
    ∀ (k c : Nat) (el : List V) (u : V), es[k]? = some el → el[c]? = some u → ∃ x, l[k * size + c]? = some x ∧ u.p w M x ∧ x.oneCell' = true := by
  obtain ⟨_, arr, e, fz, h1, h2, h3⟩ := h
  have hat : ∀ j, j < es.length * size → ∃ x, arr[off + j]? = some x ∧ x.oneCell' = true := by
    intro j hj
    have hs : 0 < size := by
      rcases Nat.eq_zero_or_pos size with h0 | h0
      · subst h0; simp at hj
      · exact h0
    have hk : j / size < es.length := (Nat.div_lt_iff_lt_mul hs).2 hj
    have hc : j % size < size := Nat.mod_lt _ hs
    have hel := h2 es[j / size] (List.getElem_mem hk)
    obtain ⟨x, q1, q2, q3⟩ := h3 (j / size) (j % size) es[j / size] (es[j / size]'hk)[j % size] (List.getElem?_eq_getElem hk) (List.getElem?_eq_getElem (by omega))
    refine ⟨x, ?_, q3⟩
    have e1 : off + j / size * size + j % size = off + j := by
      have := Nat.div_add_mod j size
      rw [Nat.mul_comm] at this
      omega
    rw [e1] at q1
    exact q1
  refine ⟨(List.range (es.length * size)).map fun j => arr.getD (off + j) undef, by simp, fun j u hu => ?_, fun u hu => ?_, fun k c el u hk hc => ?_⟩
  · have hj : j < es.length * size := by
      have := (List.getElem?_eq_some_iff.1 hu).1
      simpa using this
    obtain ⟨x, q1, _⟩ := hat j hj
    rw [List.getElem?_map, List.getElem?_range hj] at hu
    simp only [Option.map_some, Option.some.injEq] at hu
    rw [Addr.add_mid, cell_of_row w b _ _ _ _ h1, q1, ← hu, Array.getD_eq_getD_getElem?, q1]
    rfl
  · obtain ⟨j, hj, rfl⟩ := List.mem_map.1 hu
    obtain ⟨x, q1, q2⟩ := hat j (List.mem_range.1 hj)
    rw [Array.getD_eq_getD_getElem?, q1]
    exact q2
  · have hkl := (List.getElem?_eq_some_iff.1 hk).1
    have hel := h2 el (List.mem_of_getElem? hk)
    have hcl := (List.getElem?_eq_some_iff.1 hc).1
    obtain ⟨x, q1, q2, q3⟩ := h3 k c el u hk hc
    refine ⟨x, ?_, q2, q3⟩
    rw [List.getElem?_map, List.getElem?_range (idx_lt hkl (by omega)), Option.map_some, ← Nat.add_assoc, Array.getD_eq_getD_getElem?, q1]
    rfl

theorem run_appendb {t : TypeId} {x y : Operand} {v1 v2 v' : Value} {w w' : World} {ev : Operand → Value} (hx : ev x = v1) (hy : ev y = v2) (h : (Builtin.append_ #[t, t] ty #[v1, v2]).run P w = .ok v' w') :
    (execOp ev ⟨dst, .call { callee := .builtin .append, args := #[x, y], argTypes := #[t, t] }, ty, pos, af, gd⟩).run P w = .ok (.value v') w' := by
  subst hx hy
  simp only [execOp, resolve, invoke, builtin, Sem.run_bind, Sem.run_pure, Result.andThen_ok, List.map_toArray, List.map_cons, List.map_nil]
  rw [h]
  rfl

theorem app_core {X : Ctx} {own : Own} {g : Gh} {w : World} {t e : TypeId} {size bytes : Nat} {es news : List (List V)} {v : Value} {xs : List Value} {A : Option Addr} {c : Nat}
    (hE : Elem P t e size bytes) (hown : w.ownsRow 0 e size v es.length xs) (hes : ∀ el, el ∈ es → el.length = size) (hxs : ∀ (k c : Nat) (el : List V) (u : V), es[k]? = some el → el[c]? = some u → ∃ x, xs[k * size + c]? = some x ∧ u.p w (Mof X g own) x ∧ x.oneCell' = true)
    (hA : news ≠ [] → ∃ b off size, A = some ⟨b, off, none⟩ ∧ RowAt w (Mof X g own) b off size news) (hne : news ≠ []) (hn : ∀ el, el ∈ news → el.length = size) (hlen : es.length + news.length ≤ 1000000000) (hby : (es.length + news.length) * bytes ≤ 140737488355328) :
    ∃ v' w' xs', (Builtin.append_ #[t, t] ty #[v, .slice A news.length c]).run P w = .ok v' w' ∧ w'.ownsRow 0 e size v' (es ++ news).length xs' ∧ w.grownBy w' v.ownBlock ∧ (v'.ownBlock = v.ownBlock ∨ v'.ownBlock = some w.heap.size) ∧ 0 < size ∧ (∀ el, el ∈ es ++ news → el.length = size) ∧
      ∀ M', Ext (Mof X g own) M' w w' → ∀ (k c : Nat) (el : List V) (u : V), (es ++ news)[k]? = some el → el[c]? = some u → ∃ x, xs'[k * size + c]? = some x ∧ u.p w' M' x ∧ x.oneCell' = true := by
  obtain ⟨b, off, size', rfl, hrow⟩ := hA hne
  obtain ⟨i, z, e1, e2, e3, e4, e5, e6, e7⟩ := hE
  have hsz : size' = size := by
    obtain ⟨_, _, _, _, _, h2, _⟩ := hrow
    cases news with
    | nil => exact absurd rfl hne
    | cons el _ => rw [← h2 el (by simp), hn el (by simp)]
  subst hsz
  obtain ⟨l, l1, l2, l3, l4⟩ := row_vals hrow
  obtain ⟨v', w', r1, r2, r3, r4, r5⟩ := run_append_own_at (P := P) w 0 t ty e i z size' bytes e1 e2 e3 e4 e5 e6 e7 v es.length xs hown ⟨b, off, none⟩ news.length c l l1 l2 l3 (by unfold maxLen; omega) hby (Nat.zero_le _)
  refine ⟨v', w', xs ++ l, r1, by rw [List.length_append]; exact r2, r3, r5, e7, fun el hel => ?_, fun M' he k c' el u hk hc => ?_⟩
  · rcases List.mem_append.1 hel with h | h
    · exact hes el h
    · exact hn el h
  · have hcl := (List.getElem?_eq_some_iff.1 hc).1
    rcases Nat.lt_or_ge k es.length with hl | hl
    · rw [List.getElem?_append_left hl] at hk
      obtain ⟨x, q1, q2, q3⟩ := hxs k c' el u hk hc
      have h1 := hes el (List.mem_of_getElem? hk)
      exact ⟨x, by rw [List.getElem?_append_left (by rw [hown.1]; exact idx_lt hl (by omega))]; exact q1, u.keep he q2, q3⟩
    · rw [List.getElem?_append_right hl] at hk
      obtain ⟨x, q1, q2, q3⟩ := l4 (k - es.length) c' el u hk hc
      refine ⟨x, ?_, u.keep he q2, q3⟩
      have h1 : xs.length ≤ k * size' + c' := by
        rw [hown.1]
        have := Nat.mul_le_mul_right size' hl
        omega
      rw [List.getElem?_append_right h1]
      have h2 : k * size' + c' - xs.length = (k - es.length) * size' + c' := by
        rw [hown.1, Nat.sub_mul]
        have := Nat.mul_le_mul_right size' hl
        omega
      rw [h2]; exact q1

theorem stp_app {t e : TypeId} {size bytes : Nat} {x y : Operand} {id : Nat} {es news : List (List V)} (hE : Elem P t e size bytes) (hx : evS f x = .row id es.length) (hy : evS f y = .dat (vlst news)) (hne : news ≠ []) (hn : ∀ el, el ∈ news → el.length = size)
    (hlen : es.length + news.length ≤ 1000000000) (hby : (es.length + news.length) * bytes ≤ 140737488355328) :
    Stp P ⟨dst, .call { callee := .builtin .append, args := #[x, y], argTypes := #[t, t] }, ty, pos, af, gd⟩ f ⟨false, [(id, some (some (.row e size es)))], [(id, some (some (.row e size (es ++ news))))], .row id (es ++ news).length⟩ := by
  refine stp_upd fun X f' own g a w hr ho h => ?_
  have h1 := h x (by simp [Op.operands, Call.operands])
  have h2 := h y (by simp [Op.operands, Call.operands])
  rw [hx] at h1
  rw [hy] at h2
  obtain ⟨v, xs, q1, q2, q3, q4, q5⟩ := hr.ob id _ ho
  have hv : g.sv id es.length = some (a.eval x) := h1
  rw [hv] at q1
  cases q1
  obtain ⟨A, c, p1, p2, p3⟩ := h2
  obtain ⟨v', w', xs', r1, r2, r3, r4, r5, r6, r7⟩ := app_core (ty := ty) (X := X) (own := own) (g := g) (c := c) hE q2 q4 q5 p3 hne hn hlen hby
  have hpos : 0 < news.length := by cases news with | nil => exact absurd rfl hne | cons _ _ => simp
  have hlt : es.length < (es ++ news).length := by rw [List.length_append]; omega
  let g' : Gh := ⟨g.bl, fun i k => if i = id ∧ k = (es ++ news).length then some v' else g.sv i k⟩
  have hsv : g'.sv id (es ++ news).length = some v' := if_pos ⟨rfl, rfl⟩
  refine ⟨g', w', .value v', v', ⟨fun _ _ h => h, fun i k u hu => ?_⟩, fun i hi => ⟨rfl, fun k => if_neg fun h => hi h.1⟩, run_appendb rfl p1 r1, .inl rfl, ?_, fun b hb => ?_, fun e' s' es' he k hk => ?_, fun M' he => ⟨⟨v', xs', hsv, r2, r5, r6, r7 M' he⟩, hsv⟩⟩
  · show (if i = id ∧ k = (es ++ news).length then some v' else g.sv i k) = some u
    rw [if_neg]
    · exact hu
    · rintro ⟨rfl, rfl⟩
      rw [hr.top i e size es ho _ hlt] at hu
      cases hu
  · cases hb : (a.eval x).ownBlock with
    | none => exact .inl ⟨r3.os, r3.tape, r3.output, r3.size, fun k hk _ => r3.block k hk (by rw [hb]; simp)⟩
    | some b =>
      refine .inr ⟨_, b, ho, by simp only [obk]; rw [hv]; exact hb, ⟨r3.os, r3.tape, r3.output, r3.size, fun k hk hn => r3.block k hk (fun e => hn (by rw [hb] at e; simpa using e))⟩⟩
  · simp only [obk, hsv, Option.bind_some] at hb
    rcases r4 with h4 | h4
    · exact .inr ⟨_, ho, by simp only [obk]; rw [hv]; rw [h4] at hb; exact hb⟩
    · rw [h4] at hb; cases hb; exact .inl (Nat.le_refl _)
  · cases he
    show (if id = id ∧ k = (es ++ news).length then some v' else g.sv id k) = none
    rw [if_neg (by omega)]
    exact hr.top id e size es ho k (by omega)

/-- append to nil: a new row -/
theorem stp_appN (id : Nat) {t e : TypeId} {size bytes : Nat} {x y : Operand} {news : List (List V)} (hE : Elem P t e size bytes) (hx : evS f x = .dat vnil) (hy : evS f y = .dat (vlst news)) (hne : news ≠ []) (hn : ∀ el, el ∈ news → el.length = size)
    (hlen : news.length ≤ 1000000000) (hby : news.length * bytes ≤ 140737488355328) :
    Stp P ⟨dst, .call { callee := .builtin .append, args := #[x, y], argTypes := #[t, t] }, ty, pos, af, gd⟩ f ⟨false, [(id, none)], [(id, some (some (.row e size news)))], .row id news.length⟩ := by
  refine stp_upd fun X f' own g a w hr ho h => ?_
  have h1 : a.eval x = .slice none 0 0 := val_of (h x (by simp [Op.operands, Call.operands])) hx
  have h2 := h y (by simp [Op.operands, Call.operands])
  rw [hy] at h2
  obtain ⟨A, c, p1, p2, p3⟩ := h2
  obtain ⟨v', w', xs', r1, r2, r3, r4, r5, r6, r7⟩ := app_core (ty := ty) (X := X) (own := own) (g := g) (c := c) (es := []) (xs := []) hE (World.ownsRow_nil w 0 e size) (by simp) (by simp) p3 hne hn (by simpa using hlen) (by simpa using hby)
  let g' : Gh := ⟨g.bl, fun i k => if i = id ∧ k = news.length then some v' else g.sv i k⟩
  have hsv : g'.sv id news.length = some v' := if_pos ⟨rfl, rfl⟩
  refine ⟨g', w', .value v', v', ⟨fun _ _ h => h, fun i k u hu => ?_⟩, fun i hi => ⟨rfl, fun k => if_neg fun h => hi h.1⟩, run_appendb h1 p1 r1, .inl rfl, ?_, fun b hb => ?_, fun e' s' es' he k hk => ?_, fun M' he => ⟨⟨v', xs', hsv, by simpa using r2, r5, by simpa using r6, by simpa using r7 M' he⟩, hsv⟩⟩
  · show (if i = id ∧ k = news.length then some v' else g.sv i k) = some u
    rw [if_neg]
    · exact hu
    · rintro ⟨rfl, rfl⟩
      rw [(hr.fresh i ho).2] at hu
      cases hu
  · exact .inl ⟨r3.os, r3.tape, r3.output, r3.size, fun k hk _ => r3.block k hk (by simp [Value.ownBlock])⟩
  · simp only [obk, hsv, Option.bind_some] at hb
    rcases r4 with h4 | h4
    · rw [h4] at hb; simp [Value.ownBlock] at hb
    · rw [h4] at hb; cases hb; exact .inl (Nat.le_refl _)
  · cases he
    show (if id = id ∧ k = news.length then some v' else g.sv id k) = none
    rw [if_neg (by omega)]
    exact (hr.fresh id ho).2 k

theorem stp_len_row {x : Operand} {t e : TypeId} {id n : Nat} {e' : TypeId} {size : Nat} {es : List (List V)} (ht : P.underlying t = some (.slice e)) (hx : evS f x = .row id n) (hn : n = es.length) :
    Stp P ⟨dst, .call { callee := .builtin .len, args := #[x], argTypes := #[t] }, ty, pos, af, gd⟩ f ⟨false, [(id, some (some (.row e' size es)))], [], .dat (vint (es.length : Int))⟩ :=
  stp_rd fun X own g a w h hob => by
    have h1 := h x (by simp [Op.operands, Call.operands])
    rw [hx] at h1
    obtain ⟨v, xs, q1, q2, _⟩ := hob
    subst hn
    have hv : g.sv id es.length = some (a.eval x) := h1
    rw [hv] at q1
    cases q1
    refine ⟨.int .i64 (es.length : Int), ?_, rfl⟩
    rcases q2.2 with ⟨e1, e2⟩ | ⟨b, cap, cur, e1, _⟩
    · simp [execOp, resolve, invoke, builtin, Builtin.len_, e1, e2, run_underlying ht, goInt]
    · simp [execOp, resolve, invoke, builtin, Builtin.len_, e1, run_underlying ht, goInt]
theorem stp_len_nil {x : Operand} {t e : TypeId} (ht : P.underlying t = some (.slice e)) (hx : evS f x = .dat vnil) : Stp P ⟨dst, .call { callee := .builtin .len, args := #[x], argTypes := #[t] }, ty, pos, af, gd⟩ f ⟨false, [], [], .dat (vint 0)⟩ :=
  stp_val fun X own g a w h => by
    have h1 := val_of (h x (by simp [Op.operands, Call.operands])) hx
    refine ⟨.int .i64 0, ?_, rfl⟩
    simp [execOp, resolve, invoke, builtin, Builtin.len_, h1, run_underlying ht, goInt]

/-- into a row of one's own -/
theorem stp_idxR {t e e' : TypeId} {n n' : Nat} {x ix : Operand} {id k : Nat} {es : List (List V)} (h : tyE P t = some (e, n')) (hx : evS f x = .row id n) (hi : evS f ix = .dat (vint (k : Int))) (hn : n = es.length) (hk : k < es.length) :
    Stp P ⟨dst, .indexAddr t x ix, ty, pos, af, gd⟩ f ⟨false, [(id, some (some (.row e' n' es)))], [], .rptr id n n' k 0⟩ :=
  stp_rd fun X own g a w hh hob => by
    have h2 := hh x (by simp [Op.operands])
    have h3 := val_of (hh ix (by simp [Op.operands])) hi
    rw [hx] at h2
    obtain ⟨v, xs, q1, q2, q3, q4, q5⟩ := hob
    subst hn
    have hv : g.sv id es.length = some (a.eval x) := h2
    rw [hv] at q1
    cases q1
    obtain ⟨i, d1, d2, d3⟩ := tyE_at h
    rcases q2.2 with ⟨e1, e2⟩ | ⟨b, cap, cur, e1, _⟩
    · omega
    · refine ⟨.pointer (some ⟨b, k * n' + 0, none⟩), ?_, b, cap, by rw [hv, e1], rfl⟩
      have e3 : (⟨b, 0, none⟩ : Addr).add (k * n') = ⟨b, k * n' + 0, none⟩ := by rw [Addr.add_mid]; simp
      simp [execOp, h3, e1, Instr.indexAt, asIntOf, run_underlying d1, sizeOf, typeInfo, d2, d3, hk, e3]
theorem stp_fldR {t : TypeId} {i o : Nat} {ft : TypeId} {p : Operand} {id n size k c : Nat} (h : tyF P t i = some (o, ft)) (hp : evS f p = .rptr id n size k c) : Stp P ⟨dst, .fieldAddr t p i, ty, pos, af, gd⟩ f ⟨false, [], [], .rptr id n size k (c + o)⟩ :=
  stp_val fun X own g a w hh => by
    have h2 := hh p (by simp [Op.operands])
    rw [hp] at h2
    obtain ⟨b, cap, h3, h4⟩ := h2
    refine ⟨.pointer (some ⟨b, k * size + c + o, none⟩), ?_, b, cap, h3, by rw [Nat.add_assoc]⟩
    simp only [execOp, h4, Sem.run_bind, run_fieldAt h w b _, Result.andThen_ok, Sem.run_pure]
theorem own_cell {w : World} {e : TypeId} {size n b cap j : Nat} {xs : List Value} {x : Value} (h : w.ownsRow 0 e size (.slice (some ⟨b, 0, none⟩) n cap) n xs) (hx : xs[j]? = some x) : w.cell? ⟨b, j, none⟩ = some x := by
  have := h.cells (g := b) rfl j x hx
  rw [Addr.add_mid, Nat.zero_add] at this
  exact this
theorem stp_loadR1 {t e : TypeId} {n m size : Nat} {p : Operand} {id k c : Nat} {es : List (List V)} {el : List V} {u : V} (ht : tyS P t = some (false, n)) (hp : evS f p = .rptr id m size k c) (hm : m = es.length) (he : es[k]? = some el) (hu : el[c]? = some u) :
    Stp P ⟨dst, .load t p, ty, pos, af, gd⟩ f ⟨false, [(id, some (some (.row e size es)))], [], .dat u⟩ :=
  stp_rd fun X own g a w hh hob => by
    have h2 := hh p (by simp [Op.operands])
    rw [hp] at h2
    obtain ⟨b, cap, h3, h4⟩ := h2
    obtain ⟨v, xs, q1, q2, q3, q4, q5⟩ := hob
    subst hm
    rw [h3] at q1
    cases q1
    obtain ⟨x, r1, r2, r3⟩ := q5 k c el u he hu
    exact ⟨x, by simp [execOp, h4, run_load1 (b := true) ht w _ x (own_cell q2 r1)], r2⟩
theorem stp_loadRA {t e : TypeId} {n m size : Nat} {p : Operand} {id k : Nat} {es : List (List V)} {el : List V} (ht : tyS P t = some (true, n)) (hp : evS f p = .rptr id m size k 0) (hm : m = es.length) (he : es[k]? = some el) (hn : size = n) :
    Stp P ⟨dst, .load t p, ty, pos, af, gd⟩ f ⟨false, [(id, some (some (.row e size es)))], [], .dat (vagg el)⟩ :=
  stp_rd fun X own g a w hh hob => by
    have h2 := hh p (by simp [Op.operands])
    rw [hp] at h2
    obtain ⟨b, cap, h3, h4⟩ := h2
    obtain ⟨v, xs, q1, q2, q3, q4, q5⟩ := hob
    subst hm hn
    rw [h3] at q1
    cases q1
    obtain ⟨d, i, d1, d2, d3, d4⟩ := tyS_at ht
    have hel := q4 el (List.mem_of_getElem? he)
    have hk := (List.getElem?_eq_some_iff.1 he).1
    have hl : ((xs.drop (k * size)).take size).length = size := by
      rw [List.length_take, List.length_drop, q2.1]
      have h1 : (k + 1) * size ≤ es.length * size := Nat.mul_le_mul_right _ hk
      have h2 : (k + 1) * size = k * size + size := Nat.succ_mul k size
      omega
    refine ⟨.agg ((xs.drop (k * size)).take size).toArray, ?_, _, rfl, by rw [hl, hel], fun j u hj => ?_⟩
    · have hrun := run_loadAt_mid (P := P) w b (k * size + 0) t ((xs.drop (k * size)).take size) d (fun j v hv => by
        rw [List.getElem?_take] at hv
        split at hv
        · rw [List.getElem?_drop] at hv; exact own_cell q2 hv
        · cases hv) d1 d2 (by rw [d3, hl]; simp [d4])
      simp only [execOp, h4, Sem.run_bind, hrun, Result.andThen_ok, Sem.run_pure]
    · have hjl := (List.getElem?_eq_some_iff.1 hj).1
      obtain ⟨x, r1, r2, r3⟩ := q5 k j el u he hj
      exact ⟨x, by rw [List.getElem?_take, if_pos (by omega), List.getElem?_drop]; exact r1, r2, r3⟩
/-- one cell of an element -/
theorem stp_storeR {t e : TypeId} {b0 : Bool} {m size : Nat} {p x : Operand} {id k c : Nat} {es : List (List V)} {el : List V} {v : V} (ht : tyS P t = some (b0, 1)) (hp : evS f p = .rptr id m size k c) (hx : evS f x = .dat v) (h1 : v.one = true) (hm : m = es.length) (he : es[k]? = some el) (hc' : Nat.blt c el.length = true) :
    Stp P ⟨dst, .store t p x, ty, pos, af, gd⟩ f ⟨false, [(id, some (some (.row e size es)))], [(id, some (some (.row e size (es.set k (el.set c v)))))], .any⟩ := by
  have hc : c < el.length := by simpa [Nat.blt_eq] using hc'
  refine stp_upd fun X f' own g a w hr ho hh => ?_
  have h2 := hh p (by simp [Op.operands])
  have h3 := hh x (by simp [Op.operands])
  rw [hp] at h2
  rw [hx] at h3
  obtain ⟨b, cap, p1, p2⟩ := h2
  obtain ⟨u, xs, q1, q2, q3, q4, q5⟩ := hr.ob id _ ho
  subst hm
  rw [p1] at q1
  cases q1
  have hone := v.hone h1 h3
  have hk := (List.getElem?_eq_some_iff.1 he).1
  have hel := q4 el (List.mem_of_getElem? he)
  have hpos : k * size + c < es.length * size := idx_lt hk (by omega)
  rcases q2.2 with ⟨e1, _⟩ | ⟨b', cap', cur, e1, e2, e3, e4, e5, e6, e7⟩
  · cases e1
  · cases e1
    have hcur : es.length * size ≤ cap * size := Nat.mul_le_mul_right _ e4
    have hst := run_store1 (P := P) ht w b (k * size + c) cur.toList e (a.eval x) (by simpa using e3) (by simp; omega) hone
    refine ⟨g, w.setCell ⟨b, k * size + c, none⟩ (a.eval x), .skip, undef, Gh.le_refl g, fun i hi => ⟨rfl, fun _ => rfl⟩, ?_, .inr ⟨rfl, rfl⟩, .inr ⟨_, b, ho, by simp only [obk]; rw [p1]; rfl, (Kp.refl [b] w).set_ (.inl (by simp)) _⟩, fun b' hb => .inr ⟨_, ho, ?_⟩, fun e' s' es' h k' hk' => ?_, fun M' he' => ⟨⟨.slice (some ⟨b, 0, none⟩) es.length cap, xs.set (k * size + c) (a.eval x), ?_, ⟨?_, .inr ⟨b, cap, cur.setIfInBounds (k * size + c) (a.eval x), by simp, e2, ?_, by simpa using e4, e5, by simpa using e6, ?_⟩⟩, q3, fun el' hel' => ?_, fun k' c' el' u' hk' hc' => ?_⟩, trivial⟩⟩
    · simp only [execOp, p2, Sem.run_bind, hst, Result.andThen_ok, Sem.run_pure]
    · simp only [obk] at hb ⊢; simpa using hb
    · cases h; exact hr.top id e size es ho k' (by simpa using hk')
    · rw [List.length_set]; exact p1
    · simp [q2.1]
    · have := Blk.set_ (show Blk w b e cur from e3) (k * size + c) (a.eval x)
      exact this
    · rw [Array.toList_setIfInBounds, List.length_set, List.take_set, e7]
    · rcases List.mem_or_eq_of_mem_set hel' with h | rfl
      · exact q4 el' h
      · simpa using hel
    · rw [List.getElem?_set] at hk'
      by_cases hkk : k = k'
      · subst hkk
        rw [if_pos rfl, if_pos hk] at hk'
        cases hk'
        rw [List.getElem?_set] at hc'
        by_cases hcc : c = c'
        · subst hcc
          rw [if_pos rfl, if_pos hc] at hc'
          cases hc'
          exact ⟨a.eval x, by rw [List.getElem?_set_self (by rw [q2.1]; exact hpos)], v.keep he' h3, hone⟩
        · rw [if_neg hcc] at hc'
          obtain ⟨y, r1, r2, r3⟩ := q5 k c' el u' he hc'
          exact ⟨y, by rw [List.getElem?_set_ne (by omega)]; exact r1, u'.keep he' r2, r3⟩
      · rw [if_neg hkk] at hk'
        obtain ⟨y, r1, r2, r3⟩ := q5 k' c' el' u' hk' hc'
        refine ⟨y, ?_, u'.keep he' r2, r3⟩
        have hc2 := (List.getElem?_eq_some_iff.1 hc').1
        have hel2 := q4 el' (List.mem_of_getElem? hk')
        rw [List.getElem?_set_ne]
        · exact r1
        · intro heq
          have h5 : (k * size + c) / size = (k' * size + c') / size := by rw [heq]
          rw [Nat.mul_comm k, Nat.mul_comm k', Nat.mul_add_div q3, Nat.mul_add_div q3, Nat.div_eq_of_lt (by omega), Nat.div_eq_of_lt (by omega)] at h5
          omega
end
end Go.Proofs.Ytmcegaabopcmfaa
