/- The abstract machine for walks that follow a plain model: typed lists in memory, ways that meet, loops that follow the model's loop. -/
import Derived.Test.YtmcegaabopcmfaaAbsU
import Derived.Test.YtmcegaabopcmfaaMod
namespace Go.Proofs.Ytmcegaabopcmfaa
open Go.RowKit
set_option linter.unusedVariables false

def Wk (u u' : V) : Prop := ∀ w M v, u.p w M v → u'.p w M v
theorem wk_rfl {u : V} : Wk u u := fun _ _ _ h => h
theorem wk_nil : Wk vnil (vlst []) := fun w M v h => ⟨none, 0, h, Nat.le_refl _, fun h => absurd rfl h⟩
def WkL : List V → List V → Prop
  | [], [] => True
  | u :: us, u' :: us' => Wk u u' ∧ WkL us us'
  | _, _ => False
theorem wkL_at : ∀ {us us' : List V}, WkL us us' → us.length = us'.length ∧ ∀ (j : Nat) (u' : V), us'[j]? = some u' → ∃ u, us[j]? = some u ∧ Wk u u'
  | [], [], _ => ⟨rfl, fun j u' h => by simp at h⟩
  | u :: us, u' :: us', h => by
    obtain ⟨h1, h2⟩ := wkL_at h.2
    refine ⟨by simp [h1], fun j v' hj => ?_⟩
    cases j with
    | zero => simp at hj; subst hj; exact ⟨u, rfl, h.1⟩
    | succ j => exact h2 j v' (by simpa using hj)
  | [], _ :: _, h => h.elim
  | _ :: _, [], h => h.elim
theorem wk_agg {us us' : List V} (h : WkL us us') : Wk (vagg us) (vagg us') := by
  rintro w M v ⟨l, h1, h2, h3⟩
  obtain ⟨q1, q2⟩ := wkL_at h
  refine ⟨l, h1, by omega, fun j u' hj => ?_⟩
  obtain ⟨u, r1, r2⟩ := q2 j u' hj
  obtain ⟨x, s1, s2, s3⟩ := h3 j u r1
  exact ⟨x, s1, r2 _ _ _ s2, s3⟩

section
variable {P : Program} {X : Ctx} {Q : Exit → (Nat → Slot) → Own → Prop} {f : Nat → Slot} {own : Own}

theorem Rel.wk {g : Gh} {a : Act} {w : World} {u u' : V} {t : Nat} (h : Rel X f own g a w) (hf : f t = .dat u) (hw : Wk u u') : Rel X (updS f (some t) (.dat u')) own g a w := by
  refine ⟨h.kp, h.m0, h.n, h.df, fun s => ?_, h.ob, h.sep, h.mine, h.fresh, h.top⟩
  have h1 := h.fr s
  by_cases hs : s = t
  · subst hs
    have e1 : Nat.beq s s = true := by simp
    simp only [updS, e1, cond_true]
    rw [hf] at h1
    exact hw _ _ _ h1
  · simp only [updS, beq_false_of hs, cond_false]
    exact h1
theorem updS_twice (f : Nat → Slot) (t : Nat) (s s' : Slot) : updS (updS f (some t) s) (some t) s' = updS f (some t) s' := by
  funext x
  simp only [updS]
  cases Nat.beq x t <;> rfl
theorem stp_wk {o : Oper} {sk : Bool} {rd wr : List (Nat × Option (Option AObj))} {u u' : V} (hw : Wk u u') (h : Stp P o f ⟨sk, rd, wr, .dat u⟩) : Stp P o f ⟨sk, rd, wr, .dat u'⟩ := by
  intro X f' own g a w Q hr hd hx hrd K hK
  refine h X f' own g a w Q hr hd hx hrd K fun g' v w' hr' => hK g' v w' ?_
  cases hds : o.dst with
  | none => rw [hds] at hr'; exact hr'
  | some d =>
    rw [hds] at hr'
    have h2 := hr'.wk (t := d) (u := u) (u' := u') (by simp [updS]) hw
    rw [updS_twice] at h2
    exact h2
theorem awp_wk {c : Code} (t : Nat) {u u' : V} (hf : f t = .dat u) (hw : Wk u u') (h : AWP P X c Q (updS f (some t) (.dat u')) own) : AWP P X c Q f own :=
  fun g a w hr => h g a w (hr.wk hf hw)

/-- ways meet -/
theorem awp_joinE {ι : Type} {x y : Code} (F : ι → List (Nat × Slot)) (O : ι → List (Nat × AObj)) (I : ι → Prop) (hok : ∀ i, okL (F i) (O i) = true)
    (hx : AWP P X x (fun e f own => match e with | .normal => ∃ i, I i ∧ subF f (F i) ∧ subO own (O i) | e => Q e f own) f own)
    (hy : ∀ i, I i → AWP P X y Q (frs (F i)) (ows (O i))) : AWP P X (.seq x y) Q f own := by
  intro g a w hr
  refine wp_seq (wp_mono (hx g a w hr) ?_)
  rintro e a' w' ⟨f', own', g', h1, h2⟩
  cases e with
  | normal =>
    obtain ⟨i, hi, hs, ho⟩ := h2
    obtain ⟨g'', h3⟩ := h1.less (F i) (O i) hs ho (hok i)
    exact hy i hi g'' a' w' h3
  | exit id => exact ⟨f', own', g', h1, h2⟩
  | goto l => exact ⟨f', own', g', h1, h2⟩
  | ret => exact ⟨f', own', g', h1, h2⟩
  | panic ch => exact ⟨f', own', g', h1, h2⟩
  | outgrown => exact ⟨f', own', g', h1, h2⟩

section
variable {α σ ρ : Type} {c : Code}
theorem awp_iter {body : σ → Option (σ ⊕ ρ)} {r : ρ} (F : σ → List (Nat × Slot)) (O : σ → List (Nat × AObj)) (s0 : σ) (H : iter body s0 = some r) (hf : subF f (F s0)) (ho : subO own (O s0)) (hok : ∀ s, okL (F s) (O s) = true)
    (round : ∀ s q, body s = some q → (∀ r', q = .inr r' → r' = r) → AWP P X c (fun e f own => match e with | .normal => ∃ s', q = .inl s' ∧ subF f (F s') ∧ subO own (O s') | e => Q e f own) (frs (F s)) (ows (O s))) : AWP P X (.loop c) Q f own := by
  obtain ⟨n, hn⟩ := iter_some.1 H
  refine awp_loop (ι := Nat × σ) (fun i => F i.2) (fun i => O i.2) (fun i => itN body i.1 i.2 = some r) (fun i => i.1) (n, s0) hn hf ho (fun i => hok i.2) ?_
  rintro ⟨n, s⟩ hI
  cases n with
  | zero => cases hI
  | succ n =>
    obtain ⟨q, h1, h2⟩ := bnd hI
    refine awp_mono (round s q h1 fun r' hq => by subst hq; injection h2) ?_
    intro e f own hQ
    cases e with
    | normal =>
      obtain ⟨s', h3, h4, h5⟩ := hQ
      subst h3
      exact ⟨(n, s'), h2, Nat.lt_succ_self _, h4, h5⟩
    | exit id => exact hQ
    | goto l => exact hQ
    | ret => exact hQ
    | panic ch => exact hQ
    | outgrown => exact hQ
theorem awp_rng {body : Nat → σ → Option (σ ⊕ ρ)} {fin : σ → Option ρ} {r : ρ} {n : Nat} (F : Nat → σ → List (Nat × Slot)) (O : Nat → σ → List (Nat × AObj)) (s0 : σ) (H : rng body fin n 0 s0 = some r) (hf : subF f (F 0 s0)) (ho : subO own (O 0 s0)) (hok : ∀ k s, okL (F k s) (O k s) = true)
    (stop : ∀ s, fin s = some r → AWP P X c (fun e f own => match e with | .normal => False | e => Q e f own) (frs (F n s)) (ows (O n s)))
    (round : ∀ k s q, k < n → body k s = some q → (∀ r', q = .inr r' → r' = r) → AWP P X c (fun e f own => match e with | .normal => ∃ s', q = .inl s' ∧ subF f (F (k + 1) s') ∧ subO own (O (k + 1) s') | e => Q e f own) (frs (F k s)) (ows (O k s))) : AWP P X (.loop c) Q f own := by
  refine awp_loop (ι := Nat × Nat × σ) (fun i => F i.2.1 i.2.2) (fun i => O i.2.1 i.2.2) (fun i => i.1 + i.2.1 = n ∧ rng body fin i.1 i.2.1 i.2.2 = some r) (fun i => i.1) (n, 0, s0) ⟨rfl, H⟩ hf ho (fun i => hok i.2.1 i.2.2) ?_
  rintro ⟨m, k, s⟩ ⟨hn, hI⟩
  cases m with
  | zero =>
    have hk : k = n := by simpa using hn
    subst hk
    refine awp_mono (stop s hI) ?_
    intro e f own hQ
    cases e with
    | normal => exact hQ.elim
    | exit id => exact hQ
    | goto l => exact hQ
    | ret => exact hQ
    | panic ch => exact hQ
    | outgrown => exact hQ
  | succ m =>
    obtain ⟨q, h1, h2⟩ := bnd hI
    simp only at hn
    refine awp_mono (round k s q (by omega) h1 fun r' hq => by subst hq; injection h2) ?_
    intro e f own hQ
    cases e with
    | normal =>
      obtain ⟨s', h3, h4, h5⟩ := hQ
      subst h3
      exact ⟨(m, k + 1, s'), ⟨by simp only; omega, h2⟩, Nat.lt_succ_self _, h4, h5⟩
    | exit id => exact hQ
    | goto l => exact hQ
    | ret => exact hQ
    | panic ch => exact hQ
    | outgrown => exact hQ
theorem awp_forL {l : List α} {body : Nat → α → σ → Option (σ ⊕ ρ)} {fin : σ → Option ρ} {r : ρ} (F : Nat → σ → List (Nat × Slot)) (O : Nat → σ → List (Nat × AObj)) (s0 : σ) (H : forL body fin 0 l s0 = some r) (hf : subF f (F 0 s0)) (ho : subO own (O 0 s0)) (hok : ∀ k s, okL (F k s) (O k s) = true)
    (stop : ∀ s, fin s = some r → AWP P X c (fun e f own => match e with | .normal => False | e => Q e f own) (frs (F l.length s)) (ows (O l.length s)))
    (round : ∀ k x s q, k < l.length → l[k]? = some x → body k x s = some q → (∀ r', q = .inr r' → r' = r) → AWP P X c (fun e f own => match e with | .normal => ∃ s', q = .inl s' ∧ subF f (F (k + 1) s') ∧ subO own (O (k + 1) s') | e => Q e f own) (frs (F k s)) (ows (O k s))) : AWP P X (.loop c) Q f own := by
  refine awp_loop (ι := List α × Nat × σ) (fun i => F i.2.1 i.2.2) (fun i => O i.2.1 i.2.2) (fun i => i.2.1 ≤ l.length ∧ l.drop i.2.1 = i.1 ∧ forL body fin i.2.1 i.1 i.2.2 = some r) (fun i => i.1.length) (l, 0, s0) ⟨Nat.zero_le _, rfl, H⟩ hf ho (fun i => hok i.2.1 i.2.2) ?_
  rintro ⟨xs, k, s⟩ ⟨hkl, hn, hI⟩
  cases xs with
  | nil =>
    have hk : k = l.length := by
      have := congrArg List.length hn
      simp only [List.length_drop, List.length_nil] at this
      simp only at hkl
      omega
    subst hk
    refine awp_mono (stop s hI) ?_
    intro e f own hQ
    cases e with
    | normal => exact hQ.elim
    | exit id => exact hQ
    | goto l => exact hQ
    | ret => exact hQ
    | panic ch => exact hQ
    | outgrown => exact hQ
  | cons x xs =>
    obtain ⟨q, h1, h2⟩ := bnd hI
    obtain ⟨d1, d2, d3⟩ := drop_at hn
    refine awp_mono (round k x s q d1 d2 h1 fun r' hq => by subst hq; injection h2) ?_
    intro e f own hQ
    cases e with
    | normal =>
      obtain ⟨s', h3, h4, h5⟩ := hQ
      subst h3
      exact ⟨(xs, k + 1, s'), ⟨d1, d3, h2⟩, by simp, h4, h5⟩
    | exit id => exact hQ
    | goto l => exact hQ
    | ret => exact hQ
    | panic ch => exact hQ
    | outgrown => exact hQ
end
end

section
variable {P : Program} {f : Nat → Slot} {dst : Option Tmp} {ty : TypeId} {pos : String} {af : Array Edge} {gd : Option (Nat × Bool)}
variable {α : Type} {C : α → List V} {xs ys : List α}
theorem map_at {k : Nat} {x : α} (h : xs[k]? = some x) : (xs.map C)[k]? = some (C x) := by rw [List.getElem?_map, h]; rfl
theorem set_at {k : Nat} {x y : α} (h : xs[k]? = some x) : (xs.set k y)[k]? = some y := by rw [List.getElem?_set_self (lt_some h)]
theorem map_len {n : Nat} (hC : ∀ y, (C y).length = n) : ∀ el, el ∈ xs.map C → el.length = n := by
  intro el h; obtain ⟨p, _, rfl⟩ := List.mem_map.1 h; exact hC p
theorem t_idx {t e : TypeId} {n : Nat} {x ix : Operand} {k : Nat} {y : α} (h : tyE P t = some (e, n)) (hC : ∀ y, (C y).length = n) (hx : evS f x = .dat (vlst (xs.map C))) (hi : evS f ix = .dat (vint (k : Int))) (hk : xs[k]? = some y) :
    Stp P ⟨dst, .indexAddr t x ix, ty, pos, af, gd⟩ f ⟨false, [], [], .dat (vcell (xs.map C) k 0)⟩ :=
  stp_idxE h hx hi (by rw [List.length_map]; exact lt_some hk) (map_len hC)
theorem t_idxI {t e : TypeId} {n : Nat} {x ix : Operand} {m : Int} {y : α} (h : tyE P t = some (e, n)) (hC : ∀ y, (C y).length = n) (hx : evS f x = .dat (vlst (xs.map C))) (hi : evS f ix = .dat (vint m)) (hk : at? xs m = some y) :
    Stp P ⟨dst, .indexAddr t x ix, ty, pos, af, gd⟩ f ⟨false, [], [], .dat (vcell (xs.map C) m.toNat 0)⟩ :=
  stp_idxI h hx hi (by rw [List.length_map]; exact (at_some hk).1) (map_len hC)
theorem t_len {x : Operand} {t e : TypeId} (ht : P.underlying t = some (.slice e)) (hx : evS f x = .dat (vlst (xs.map C))) : Stp P ⟨dst, .call { callee := .builtin .len, args := #[x], argTypes := #[t] }, ty, pos, af, gd⟩ f ⟨false, [], [], .dat (vint (xs.length : Int))⟩ :=
  stp_dat (stp_len_lst ht hx) (by rw [List.length_map])
theorem t_lenR {x : Operand} {t e : TypeId} {id n : Nat} {e' : TypeId} {size : Nat} (ht : P.underlying t = some (.slice e)) (hx : evS f x = .row id n) (hn : n = xs.length) :
    Stp P ⟨dst, .call { callee := .builtin .len, args := #[x], argTypes := #[t] }, ty, pos, af, gd⟩ f ⟨false, [(id, some (some (.row e' size (xs.map C))))], [], .dat (vint (xs.length : Int))⟩ :=
  stp_dat (stp_len_row ht hx (by rw [List.length_map]; exact hn)) (by rw [List.length_map])
theorem t_idxR {t e e' : TypeId} {n n' : Nat} {x ix : Operand} {id k : Nat} {y : α} (h : tyE P t = some (e, n')) (hx : evS f x = .row id n) (hn : n = xs.length) (hi : evS f ix = .dat (vint (k : Int))) (hk : xs[k]? = some y) :
    Stp P ⟨dst, .indexAddr t x ix, ty, pos, af, gd⟩ f ⟨false, [(id, some (some (.row e' n' (xs.map C))))], [], .rptr id n n' k 0⟩ :=
  stp_idxR h hx hi (by rw [List.length_map]; exact hn) (by rw [List.length_map]; exact lt_some hk)
theorem t_idxRI {t e e' : TypeId} {n n' : Nat} {x ix : Operand} {id : Nat} {m : Int} {y : α} (h : tyE P t = some (e, n')) (hx : evS f x = .row id n) (hn : n = xs.length) (hi : evS f ix = .dat (vint m)) (hk : at? xs m = some y) :
    Stp P ⟨dst, .indexAddr t x ix, ty, pos, af, gd⟩ f ⟨false, [(id, some (some (.row e' n' (xs.map C))))], [], .rptr id n n' m.toNat 0⟩ :=
  stp_idxRI h hx hi (by rw [List.length_map]; exact hn) (by rw [List.length_map]; exact (at_some hk).1)
theorem t_loadR1 {t e : TypeId} {n m size : Nat} {p : Operand} {id k c : Nat} {y : α} {u : V} (ht : tyS P t = some (false, n)) (hp : evS f p = .rptr id m size k c) (hm : m = xs.length) (he : xs[k]? = some y) (hu : (C y)[c]? = some u) :
    Stp P ⟨dst, .load t p, ty, pos, af, gd⟩ f ⟨false, [(id, some (some (.row e size (xs.map C))))], [], .dat u⟩ :=
  stp_loadR1 ht hp (by rw [List.length_map]; exact hm) (map_at he) hu
theorem t_loadRA {t e : TypeId} {n m size : Nat} {p : Operand} {id k : Nat} {y : α} (ht : tyS P t = some (true, n)) (hp : evS f p = .rptr id m size k 0) (hm : m = xs.length) (he : xs[k]? = some y) (hn : size = n) :
    Stp P ⟨dst, .load t p, ty, pos, af, gd⟩ f ⟨false, [(id, some (some (.row e size (xs.map C))))], [], .dat (vagg (C y))⟩ :=
  stp_loadRA ht hp (by rw [List.length_map]; exact hm) (map_at he) hn
theorem t_storeR {t e : TypeId} {b0 : Bool} {m size : Nat} {p x : Operand} {id k c : Nat} {y : α} (y' : α) {v : V} (ht : tyS P t = some (b0, 1)) (hp : evS f p = .rptr id m size k c) (hx : evS f x = .dat v) (h1 : v.one = true) (hm : m = xs.length) (he : xs[k]? = some y) (hc' : Nat.blt c (C y).length = true) (hy : (C y).set c v = C y') :
    Stp P ⟨dst, .store t p x, ty, pos, af, gd⟩ f ⟨false, [(id, some (some (.row e size (xs.map C))))], [(id, some (some (.row e size ((xs.set k y').map C))))], .any⟩ := by
  have h := stp_storeR (dst := dst) (ty := ty) (pos := pos) (af := af) (gd := gd) (e := e) ht hp hx h1 (by rw [List.length_map]; exact hm) (map_at (C := C) he) hc'
  rw [hy, ← List.map_set] at h
  exact h
theorem t_app {t e : TypeId} {size bytes : Nat} {x y : Operand} {id n : Nat} (hE : Elem P t e size bytes) (hC : ∀ y, (C y).length = size) (hx : evS f x = .row id n) (hn : n = xs.length) (hy : evS f y = .dat (vlst (ys.map C))) (hlen : ys ≠ [] ∧ xs.length + ys.length ≤ 1000000000) (hby : Nat.ble bytes 140737 = true) :
    Stp P ⟨dst, .call { callee := .builtin .append, args := #[x, y], argTypes := #[t, t] }, ty, pos, af, gd⟩ f ⟨false, [(id, some (some (.row e size (xs.map C))))], [(id, some (some (.row e size ((xs ++ ys).map C))))], .row id (xs ++ ys).length⟩ := by
  subst hn
  have hb := Nat.le_of_ble_eq_true hby
  have h := stp_app (dst := dst) (ty := ty) (pos := pos) (af := af) (gd := gd) (id := id) (es := xs.map C) (news := ys.map C) hE (by rw [List.length_map]; exact hx) hy (by simpa using hlen.1) (map_len hC) (by simp only [List.length_map]; exact hlen.2)
    (by simp only [List.length_map]; exact Nat.le_trans (Nat.mul_le_mul hlen.2 hb) (by decide))
  rw [← List.map_append, List.length_map] at h
  exact h
theorem t_appN (id : Nat) {t e : TypeId} {size bytes : Nat} {x y : Operand} (hE : Elem P t e size bytes) (hC : ∀ y, (C y).length = size) (hx : evS f x = .dat vnil) (hy : evS f y = .dat (vlst (ys.map C))) (hlen : ys ≠ [] ∧ ys.length ≤ 1000000000) (hby : Nat.ble bytes 140737 = true) :
    Stp P ⟨dst, .call { callee := .builtin .append, args := #[x, y], argTypes := #[t, t] }, ty, pos, af, gd⟩ f ⟨false, [(id, none)], [(id, some (some (.row e size (ys.map C))))], .row id ys.length⟩ := by
  have hb := Nat.le_of_ble_eq_true hby
  have h := stp_appN (dst := dst) (ty := ty) (pos := pos) (af := af) (gd := gd) id (news := ys.map C) hE hx hy (by simpa using hlen.1) (map_len hC) (by simp only [List.length_map]; exact hlen.2)
    (by simp only [List.length_map]; exact Nat.le_trans (Nat.mul_le_mul hlen.2 hb) (by decide))
  rw [List.length_map] at h
  exact h
theorem t_make (id : Nat) (z : α) {t e : TypeId} {size bytes : Nat} {x y : Operand} {n : Nat} {zs : List Value} (hE : Elem P t e size bytes) (hz : tyZ P e = some zs) (h1 : zs.all (·.oneCell') = true) (hx : evS f x = .dat (vint (n : Int))) (hy : evS f y = .dat (vint (n : Int))) (hCz : zs.map vval = C z) (hm : n ≤ 1000000000) (hby : Nat.ble bytes 140737 = true) :
    Stp P ⟨dst, .makeSlice t x y, ty, pos, af, gd⟩ f ⟨false, [(id, none)], [(id, some (some (.row e size ((List.replicate n z).map C))))], .row id n⟩ := by
  have hb := Nat.le_of_ble_eq_true hby
  have h := stp_make (dst := dst) (ty := ty) (pos := pos) (af := af) (gd := gd) id hE hz h1 hx hy (Nat.le_refl _) hm (Nat.le_trans (Nat.mul_le_mul hm hb) (by decide))
  rw [hCz] at h
  rw [List.map_replicate]
  exact h
theorem t_freeze {X : Ctx} {Q : Exit → (Nat → Slot) → Own → Prop} {own : Own} {c : Code} (t id : Nat) {e : TypeId} {size n : Nat} (hf : f t = .row id n) (ho : own id = some (some (.row e size (xs.map C)))) (hn : n = xs.length) (h : AWP P X c Q (updS f (some t) (.dat (vlst (xs.map C)))) (upl own [(id, some none)])) : AWP P X c Q f own :=
  awp_freeze t id hf ho (by rw [List.length_map]; exact hn) h
theorem t_slotv {own : Own} {id n : Nat} {e : TypeId} {size : Nat} (ho : own id = some (some (.row e size (xs.map C)))) (hn : n = xs.length) : SlotV own (.row id n) (vlst (xs.map C)) := ⟨e, size, _, ho, by rw [List.length_map]; exact hn, rfl⟩
/-- the byte at a number -/
theorem t_byte {t : TypeId} {x ix : Operand} {l : Bs} {k : Nat} {c : UInt8} (ht : P.underlying t = some .string) (hx : evS f x = .dat (vstr l)) (hi : evS f ix = .dat (vint (k : Int))) (hk : l[k]? = some c) :
    Stp P ⟨dst, .index t x ix, ty, pos, af, gd⟩ f ⟨false, [], [], .dat (vval (.int .u8 (c.toNat : Int)))⟩ :=
  stp_dat (stp_index ht hx hi (lt_some hk)) (by unfold byt; rw [List.getD_eq_getElem?_getD, hk]; rfl)
theorem t_byteI {t : TypeId} {x ix : Operand} {l : Bs} {m : Int} {c : UInt8} (ht : P.underlying t = some .string) (hx : evS f x = .dat (vstr l)) (hi : evS f ix = .dat (vint m)) (hk : at? l m = some c) :
    Stp P ⟨dst, .index t x ix, ty, pos, af, gd⟩ f ⟨false, [], [], .dat (vval (.int .u8 (c.toNat : Int)))⟩ := by
  obtain ⟨⟨h1, h2⟩, h3⟩ := at_some hk
  have e1 : ((m.toNat : Nat) : Int) = m := by omega
  exact t_byte ht hx (by rw [hi, e1]) h3
theorem t_subS {t : TypeId} {x : Operand} {lo hi : Option Operand} {l r : Bs} {a b : Int} (ht : P.underlying t = some .string) (hx : evS f x = .dat (vstr l))
    (hlo : match lo with | none => a = 0 | some y => evS f y = .dat (vint a)) (hhi : match hi with | none => b = (l.length : Int) | some y => evS f y = .dat (vint b)) (hs : sub? l a b = some r) :
    Stp P ⟨dst, .slice t x lo hi none, ty, pos, af, gd⟩ f ⟨false, [], [], .dat (vstr r)⟩ := by
  obtain ⟨⟨h1, h2, h3⟩, h4⟩ := gif hs
  injection h4 with h4
  subst h4
  have e1 : ((a.toNat : Nat) : Int) = a := by omega
  have e2 : ((b.toNat : Nat) : Int) = b := by omega
  refine stp_subS (a := a.toNat) (b := b.toNat) ht hx ?_ ?_ (by omega) (by omega)
  · cases lo with
    | none => simp only at hlo ⊢; omega
    | some y => simp only at hlo ⊢; rw [e1]; exact hlo
  · cases hi with
    | none => simp only at hhi ⊢; omega
    | some y => simp only at hhi ⊢; rw [e2]; exact hhi
theorem t_subL {t e : TypeId} {n : Nat} {x : Operand} {lo hi : Option Operand} {r : List α} {a b : Int} (ht : tyE P t = some (e, n)) (hC : ∀ y, (C y).length = n) (hx : evS f x = .dat (vlst (xs.map C)))
    (hlo : match lo with | none => a = 0 | some y => evS f y = .dat (vint a)) (hhi : match hi with | none => b = (xs.length : Int) | some y => evS f y = .dat (vint b)) (hs : sub? xs a b = some r) :
    Stp P ⟨dst, .slice t x lo hi none, ty, pos, af, gd⟩ f ⟨false, [], [], .dat (vlst (r.map C))⟩ := by
  obtain ⟨⟨h1, h2, h3⟩, h4⟩ := gif hs
  injection h4 with h4
  subst h4
  have e1 : ((a.toNat : Nat) : Int) = a := by omega
  have e2 : ((b.toNat : Nat) : Int) = b := by omega
  have h := stp_subL (dst := dst) (ty := ty) (pos := pos) (af := af) (gd := gd) (lo := lo) (hi := hi) (a := a.toNat) (b := b.toNat) ht hx (map_len hC) (by
    cases lo with
    | none => simp only at hlo ⊢; omega
    | some y => simp only at hlo ⊢; rw [e1]; exact hlo) (by
    cases hi with
    | none => simp only [List.length_map] at hhi ⊢; omega
    | some y => simp only at hhi ⊢; rw [e2]; exact hhi) (by omega) (by rw [List.length_map]; omega)
  rw [← List.map_drop, ← List.map_take] at h
  exact h
end
end Go.Proofs.Ytmcegaabopcmfaa
