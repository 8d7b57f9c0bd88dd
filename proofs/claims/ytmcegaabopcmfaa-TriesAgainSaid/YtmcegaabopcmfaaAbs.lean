/- An abstract machine over the model: values that are read out of memory that stays (V), slots, own objects; the relation to a world; how the relation is kept. No program. -/
import Derived.Test.YtmcegaabopcmfaaWords
namespace Go.Proofs.Ytmcegaabopcmfaa
open Go.RowKit
set_option linter.unusedVariables false

abbrev Blks := Nat → Prop

/-- from w to w' all blocks but those of M stay; M' is no more than M on what there was -/
structure Ext (M M' : Blks) (w w' : World) : Prop where
  size : w.heap.size ≤ w'.heap.size
  block : ∀ b, b < w.heap.size → ¬ M b → w'.heap[b]? = w.heap[b]?
  sub : ∀ b, b < w.heap.size → M' b → M b

/-- data: what a value reads as, from blocks outside M -/
structure V where
  p : World → Blks → Value → Prop
  one : Bool
  keep : ∀ {w w' : World} {M M' : Blks} {v : Value}, Ext M M' w w' → p w M v → p w' M' v
  hone : one = true → ∀ {w : World} {M : Blks} {v : Value}, p w M v → v.oneCell' = true

def vval (u : Value) : V := ⟨fun _ _ v => v = u, u.oneCell', fun _ h => h, fun h _ _ _ hv => by rw [hv]; exact h⟩

/-- cells that read as data -/
def Cs (w : World) (M : Blks) (us : List V) (l : List Value) : Prop :=
  l.length = us.length ∧ ∀ (j : Nat) (u : V), us[j]? = some u → ∃ x, l[j]? = some x ∧ u.p w M x ∧ x.oneCell' = true
theorem Cs.keep {w w' : World} {M M' : Blks} {us : List V} {l : List Value} (e : Ext M M' w w') (h : Cs w M us l) : Cs w' M' us l :=
  ⟨h.1, fun j u hu => let ⟨x, h1, h2, h3⟩ := h.2 j u hu; ⟨x, h1, u.keep e h2, h3⟩⟩

def vagg (us : List V) : V := ⟨fun w M v => ∃ l : List Value, v = .agg l.toArray ∧ Cs w M us l, false, fun e ⟨l, h1, h2⟩ => ⟨l, h1, h2.keep e⟩, fun h => by cases h⟩
/-- more than one result -/
def Ts (w : World) (M : Blks) (us : List V) (l : List Value) : Prop :=
  l.length = us.length ∧ ∀ (j : Nat) (u : V), us[j]? = some u → ∃ x, l[j]? = some x ∧ u.p w M x
theorem Ts.keep {w w' : World} {M M' : Blks} {us : List V} {l : List Value} (e : Ext M M' w w') (h : Ts w M us l) : Ts w' M' us l :=
  ⟨h.1, fun j u hu => let ⟨x, h1, h2⟩ := h.2 j u hu; ⟨x, h1, u.keep e h2⟩⟩
def vtup (us : List V) : V := ⟨fun w M v => ∃ l : List Value, v = .tuple l.toArray ∧ Ts w M us l, false, fun e ⟨l, h1, h2⟩ => ⟨l, h1, h2.keep e⟩, fun h => by cases h⟩

/-- elements, each of so many cells, from off on in block b, that stays -/
def RowAt (w : World) (M : Blks) (b off size : Nat) (es : List (List V)) : Prop :=
  ¬ M b ∧ ∃ arr e fz, w.heap[b]? = some (.cells arr e fz) ∧ (∀ el, el ∈ es → el.length = size) ∧
    ∀ (k c : Nat) (el : List V) (u : V), es[k]? = some el → el[c]? = some u → ∃ x, arr[off + k * size + c]? = some x ∧ u.p w M x ∧ x.oneCell' = true
theorem heap_lt {w : World} {b : Nat} {o : Obj} (h : w.heap[b]? = some o) : b < w.heap.size := by
  rcases Nat.lt_or_ge b w.heap.size with hlt | hge
  · exact hlt
  · rw [Array.getElem?_eq_none hge] at h; cases h
theorem RowAt.keep {w w' : World} {M M' : Blks} {b off size : Nat} {es : List (List V)} (e : Ext M M' w w') (h : RowAt w M b off size es) : RowAt w' M' b off size es := by
  obtain ⟨hM, arr, t, fz, h1, h2, h3⟩ := h
  refine ⟨fun hm => hM (e.sub b (heap_lt h1) hm), arr, t, fz, (e.block b (heap_lt h1) hM).trans h1, h2, fun k c el u hk hc => ?_⟩
  obtain ⟨x, g1, g2, g3⟩ := h3 k c el u hk hc
  exact ⟨x, g1, u.keep e g2, g3⟩

/-- a slice: its elements, each the list of its cells -/
def vlst (es : List (List V)) : V :=
  ⟨fun w M v => ∃ A c, v = .slice A es.length c ∧ es.length ≤ c ∧ (es ≠ [] → ∃ b off size, A = some ⟨b, off, none⟩ ∧ RowAt w M b off size es), true,
   fun e ⟨A, c, h1, h2, h3⟩ => ⟨A, c, h1, h2, fun hne => let ⟨b, off, size, g1, g2⟩ := h3 hne; ⟨b, off, size, g1, g2.keep e⟩⟩,
   fun _ _ _ v ⟨A, c, h1, _⟩ => by rw [h1]; rfl⟩
/-- a pointer to cell c of element k -/
def vcell (es : List (List V)) (k c : Nat) : V :=
  ⟨fun w M v => ∃ b off size, v = .pointer (some ⟨b, off + k * size + c, none⟩) ∧ RowAt w M b off size es, true,
   fun e ⟨b, off, size, h1, h2⟩ => ⟨b, off, size, h1, h2.keep e⟩,
   fun _ _ _ v ⟨b, off, size, h1, _⟩ => by rw [h1]; rfl⟩

inductive Slot where
  | any
  | dat (v : V)
  | ptr (id off : Nat)
  | row (id n : Nat)
  | rptr (id n size k c : Nat)
  | mp (id : Nat)

inductive AObj where
  | box (an : Option Nat) (t : TypeId) (cs : List Slot)
  | row (e : TypeId) (size : Nat) (es : List (List V))
  | opq (an : Option Nat) (R : Obj → Prop)
  | rowA (v : Value) (e : TypeId) (size : Nat) (es : List (List V))

/-- where the own objects lie -/
structure Gh where
  bl : Nat → Option Nat
  sv : Nat → Nat → Option Value
structure Gh.le (g g' : Gh) : Prop where
  bl : ∀ id b, g.bl id = some b → g'.bl id = some b
  sv : ∀ id n v, g.sv id n = some v → g'.sv id n = some v
theorem Gh.le_refl (g : Gh) : g.le g := ⟨fun _ _ h => h, fun _ _ _ h => h⟩

def RepS (g : Gh) (w : World) (M : Blks) : Slot → Value → Prop
  | .any, _ => True
  | .dat u, v => u.p w M v
  | .ptr id off, v => ∃ b, g.bl id = some b ∧ v = .pointer (some ⟨b, off, none⟩)
  | .row id n, v => g.sv id n = some v
  | .rptr id n size k c, v => ∃ b cap, g.sv id n = some (.slice (some ⟨b, 0, none⟩) n cap) ∧ v = .pointer (some ⟨b, k * size + c, none⟩)
  | .mp id, v => ∃ b, g.bl id = some b ∧ v = .map (some b)
theorem RepS.keep {g g' : Gh} {w w' : World} {M M' : Blks} {s : Slot} {v : Value} (e : Ext M M' w w') (hg : g.le g') (h : RepS g w M s v) : RepS g' w' M' s v := by
  cases s with
  | any => trivial
  | dat u => exact u.keep e h
  | ptr id off => obtain ⟨b, h1, h2⟩ := h; exact ⟨b, hg.bl _ _ h1, h2⟩
  | row id n => exact hg.sv _ _ _ h
  | rptr id n size k c => obtain ⟨b, cap, h1, h2⟩ := h; exact ⟨b, cap, hg.sv _ _ _ h1, h2⟩
  | mp id => obtain ⟨b, h1, h2⟩ := h; exact ⟨b, hg.bl _ _ h1, h2⟩

abbrev Own := Nat → Option (Option AObj)

/-- the block of an own object -/
def obk (g : Gh) (id : Nat) : AObj → Option Nat
  | .box _ _ _ => g.bl id
  | .row _ _ es => (g.sv id es.length).bind Value.ownBlock
  | .opq _ _ => g.bl id
  | .rowA v _ _ _ => v.ownBlock

def RepO (g : Gh) (w : World) (M : Blks) (id : Nat) : AObj → Prop
  | .box an t cs => ∃ (b : Nat) (l : List Value), g.bl id = some b ∧ (∀ q, an = some q → q = b) ∧ w.heap[b]? = some (.cells l.toArray t (0, 0)) ∧ l.length = cs.length ∧
      ∀ (j : Nat) (s : Slot), cs[j]? = some s → ∃ x, l[j]? = some x ∧ RepS g w M s x ∧ x.oneCell' = true
  | .row e size es => ∃ (v : Value) (xs : List Value), g.sv id es.length = some v ∧ w.ownsRow 0 e size v es.length xs ∧ 0 < size ∧ (∀ el, el ∈ es → el.length = size) ∧
      ∀ (k c : Nat) (el : List V) (u : V), es[k]? = some el → el[c]? = some u → ∃ x, xs[k * size + c]? = some x ∧ u.p w M x ∧ x.oneCell' = true
  | .opq an R => ∃ (b : Nat) (o : Obj), g.bl id = some b ∧ (∀ q, an = some q → q = b) ∧ w.heap[b]? = some o ∧ R o
  | .rowA v e size es => ∃ (xs : List Value), g.sv id es.length = some v ∧ w.ownsRow 0 e size v es.length xs ∧ 0 < size ∧ (∀ el, el ∈ es → el.length = size) ∧
      ∀ (k c : Nat) (el : List V) (u : V), es[k]? = some el → el[c]? = some u → ∃ x, xs[k * size + c]? = some x ∧ u.p w M x ∧ x.oneCell' = true

structure Ctx where
  M0 : Blks
  w0 : World
  S0 : List Nat
  N : Nat

def Mof (X : Ctx) (g : Gh) (own : Own) : Blks := fun b => X.M0 b ∨ ∃ id o, own id = some (some o) ∧ obk g id o = some b

structure Rel (X : Ctx) (f : Nat → Slot) (own : Own) (g : Gh) (a : Act) (w : World) : Prop where
  kp : Kp X.S0 X.w0 w
  m0 : ∀ b, X.M0 b → b < X.w0.heap.size ∧ b ∉ X.S0
  n : a.tmps.size = X.N
  df : a.defers = []
  fr : ∀ t, RepS g w (Mof X g own) (f t) (a.tmps.getD t undef)
  ob : ∀ id o, own id = some (some o) → RepO g w (Mof X g own) id o
  sep : ∀ id id' o o' b, own id = some (some o) → own id' = some (some o') → obk g id o = some b → obk g id' o' = some b → id = id'
  mine : ∀ id o b, own id = some (some o) → obk g id o = some b → b ∈ X.S0 ∨ X.w0.heap.size ≤ b
  fresh : ∀ id, own id = none → g.bl id = none ∧ ∀ n, g.sv id n = none
  top : ∀ id e size es, own id = some (some (.row e size es)) → ∀ k, es.length < k → g.sv id k = none

theorem RepO.blk_lt {g : Gh} {w : World} {M : Blks} {id : Nat} {o : AObj} {b : Nat} (h : RepO g w M id o) (hb : obk g id o = some b) : b < w.heap.size := by
  cases o with
  | box an t cs => obtain ⟨b', l, h1, _, h2, _⟩ := h; simp [obk] at hb; rw [h1] at hb; cases hb; exact heap_lt h2
  | row e size es =>
    obtain ⟨v, xs, h1, h2, _⟩ := h
    simp only [obk, h1, Option.bind_some] at hb
    exact (h2.lt b hb).2
  | opq an R => obtain ⟨b', o, h1, _, h2, _⟩ := h; simp only [obk] at hb; rw [h1] at hb; cases hb; exact heap_lt h2
  | rowA v e size es => obtain ⟨xs, h1, h2, _⟩ := h; exact (h2.lt b hb).2

/-- an object is as it was where its block is -/
theorem RepO.keep {g g' : Gh} {w w' : World} {M M' : Blks} {id : Nat} {o : AObj} (e : Ext M M' w w') (hg : g.le g') (hb : ∀ b, obk g id o = some b → w'.heap[b]? = w.heap[b]?) (h : RepO g w M id o) : RepO g' w' M' id o := by
  cases o with
  | box an t cs =>
    obtain ⟨b, l, h1, h0, h2, h3, h4⟩ := h
    refine ⟨b, l, hg.bl _ _ h1, h0, (hb b h1).trans h2, h3, fun j s hs => ?_⟩
    obtain ⟨x, g1, g2, g3⟩ := h4 j s hs
    exact ⟨x, g1, g2.keep e hg, g3⟩
  | row t size es =>
    obtain ⟨v, xs, h1, h2, h3, h4, h5⟩ := h
    refine ⟨v, xs, hg.sv _ _ _ h1, ⟨h2.1, ?_⟩, h3, h4, fun k c el u hk hc => ?_⟩
    · rcases h2.2 with hn | ⟨q, cap, cur, hv, hb', hq, hr⟩
      · exact .inl hn
      · exact .inr ⟨q, cap, cur, hv, hb', (hb q (by simp only [obk, h1, Option.bind_some]; rw [hv]; rfl)).trans hq, hr⟩
    · obtain ⟨x, g1, g2, g3⟩ := h5 k c el u hk hc
      exact ⟨x, g1, u.keep e g2, g3⟩
  | opq an R => obtain ⟨b, o, h1, h0, h2, h3⟩ := h; exact ⟨b, o, hg.bl _ _ h1, h0, (hb b h1).trans h2, h3⟩
  | rowA v t size es =>
    obtain ⟨xs, h1, h2, h3, h4, h5⟩ := h
    refine ⟨xs, hg.sv _ _ _ h1, ⟨h2.1, ?_⟩, h3, h4, fun k c el u hk hc => ?_⟩
    · rcases h2.2 with hn | ⟨q, cap, cur, hv, hb', hq, hr⟩
      · exact .inl hn
      · exact .inr ⟨q, cap, cur, hv, hb', (hb q (by simp only [obk]; rw [hv]; rfl)).trans hq, hr⟩
    · obtain ⟨x, g1, g2, g3⟩ := h5 k c el u hk hc
      exact ⟨x, g1, u.keep e g2, g3⟩

theorem obk_le {g g' : Gh} {id : Nat} {o : AObj} {b : Nat} (hg : g.le g') (h : obk g id o = some b) : obk g' id o = some b := by
  cases o with
  | box an t cs => exact hg.bl _ _ h
  | row e size es =>
    simp only [obk] at h ⊢
    cases hs : g.sv id es.length with
    | none => rw [hs] at h; cases h
    | some v => rw [hs] at h; rw [hg.sv _ _ _ hs]; exact h
  | opq an R => exact hg.bl _ _ h
  | rowA v e size es => exact h
theorem RepO.obk_eq {g g' : Gh} {w : World} {M : Blks} {id : Nat} {o : AObj} (hg : g.le g') (h : RepO g w M id o) : obk g' id o = obk g id o := by
  cases o with
  | box an t cs => obtain ⟨b, l, h1, _⟩ := h; simp only [obk]; rw [h1, hg.bl _ _ h1]
  | row e size es => obtain ⟨v, xs, h1, _⟩ := h; simp only [obk]; rw [h1, hg.sv _ _ _ h1]
  | opq an R => obtain ⟨b, o, h1, _⟩ := h; simp only [obk]; rw [h1, hg.bl _ _ h1]
  | rowA v e size es => rfl

/-- THE STEP: one object (id) may have turned; what turned in memory is its block alone -/
theorem Rel.step {X : Ctx} {f : Nat → Slot} {own own' : Own} {g g' : Gh} {a : Act} {w w' : World} (h : Rel X f own g a w)
    (hg : g.le g') (hkp : Kp [] w w' ∨ ∃ i o b, own i = some (some o) ∧ obk g i o = some b ∧ Kp [b] w w')
    (hown : ∀ id o, own' id = some (some o) → (own id = some (some o) ∧ ∀ b, obk g id o = some b → w'.heap[b]? = w.heap[b]?) ∨
      (RepO g' w' (Mof X g' own') id o ∧ ∀ b, obk g' id o = some b → w.heap.size ≤ b ∨ ∃ o', own id = some (some o') ∧ obk g id o' = some b))
    (hfr : ∀ id, own' id = none → g'.bl id = none ∧ ∀ n, g'.sv id n = none)
    (htop : ∀ id e size es, own' id = some (some (.row e size es)) → ∀ k, es.length < k → g'.sv id k = none)
    (hnew : ∀ id id' o o' b, own' id = some (some o) → own' id' = some (some o') → obk g' id o = some b → obk g' id' o' = some b → w.heap.size ≤ b → id = id') :
    Rel X f own' g' a w' ∧ Ext (Mof X g own) (Mof X g' own') w w' := by
  have hold : ∀ id o b, own' id = some (some o) → obk g' id o = some b → w.heap.size ≤ b ∨ ∃ o', own id = some (some o') ∧ obk g id o' = some b := by
    intro id o b ho hb
    rcases hown id o ho with ⟨h1, h2⟩ | ⟨_, h2⟩
    · rw [(h.ob id o h1).obk_eq hg] at hb
      exact .inr ⟨o, h1, hb⟩
    · exact h2 b hb
  have hsz : w.heap.size ≤ w'.heap.size := by
    rcases hkp with hk | ⟨i, o, b, _, _, hk⟩ <;> exact hk.size
  have he : Ext (Mof X g own) (Mof X g' own') w w' := by
    refine ⟨hsz, fun b hb hM => ?_, fun b hb hM => ?_⟩
    · rcases hkp with hk | ⟨i, o, b', ho, hbk, hk⟩
      · exact hk.block b hb (by simp)
      · refine hk.block b hb ?_
        intro hm
        have : b = b' := by simpa using hm
        subst this
        exact hM (.inr ⟨i, o, ho, hbk⟩)
    · rcases hM with hM | ⟨id, o, ho, hbk⟩
      · exact .inl hM
      · rcases hold id o b ho hbk with h1 | ⟨o', h1, h2⟩
        · omega
        · exact .inr ⟨id, o', h1, h2⟩
  have hkw : Kp X.S0 X.w0 w' := by
    rcases hkp with hk | ⟨i, o, b, ho, hbk, hk⟩
    · exact h.kp.tr0 hk
    · refine h.kp.trans hk (fun q hq => ?_)
      have : q = b := by simpa using hq
      subst this
      exact h.mine i o q ho hbk
  refine ⟨⟨hkw, h.m0, h.n, h.df, fun t => (h.fr t).keep he hg, fun id o ho => ?_, fun id id' o o' b h1 h2 h3 h4 => ?_, fun id o b ho hb => ?_, hfr, htop⟩, he⟩
  · rcases hown id o ho with ⟨h1, h2⟩ | ⟨h1, _⟩
    · exact (h.ob id o h1).keep he hg h2
    · exact h1
  · rcases hold id o b h1 h3 with q1 | ⟨p1, q1, q2⟩
    · exact hnew id id' o o' b h1 h2 h3 h4 q1
    · rcases hold id' o' b h2 h4 with q3 | ⟨p2, q3, q4⟩
      · exact hnew id id' o o' b h1 h2 h3 h4 q3
      · exact h.sep id id' p1 p2 b q1 q3 q2 q4
  · rcases hold id o b ho hb with q1 | ⟨p1, q1, q2⟩
    · exact .inr (Nat.le_trans h.kp.size q1)
    · exact h.mine id p1 b q1 q2

/-- memory only grew -/
theorem Rel.grow {X : Ctx} {f : Nat → Slot} {own : Own} {g : Gh} {a : Act} {w w' : World} (h : Rel X f own g a w) (hk : Kp [] w w') : Rel X f own g a w' :=
  (h.step (Gh.le_refl g) (.inl hk) (fun id o ho => .inl ⟨ho, fun b hb => hk.block b ((h.ob id o ho).blk_lt hb) (by simp)⟩) h.fresh h.top
    (fun id id' o o' b h1 h2 h3 h4 hs => by have := (h.ob id o h1).blk_lt h3; omega)).1

def updS (f : Nat → Slot) (d : Option Nat) (s : Slot) : Nat → Slot := match d with | some d => fun t => cond (Nat.beq t d) s (f t) | none => f

theorem Rel.put {X : Ctx} {f : Nat → Slot} {own : Own} {g : Gh} {a : Act} {w : World} (h : Rel X f own g a w) (d : Option Nat) (s : Slot) (v : Value) (hd : ∀ d', d = some d' → d' < X.N)
    (hv : RepS g w (Mof X g own) s v) : Rel X (updS f d s) own g (a.put d v) w := by
  cases d with
  | none => exact h
  | some d =>
    refine ⟨h.kp, h.m0, by simpa [Act.put] using h.n, h.df, fun t => ?_, h.ob, h.sep, h.mine, h.fresh, h.top⟩
    have hsz := h.n
    have hdn := hd d rfl
    by_cases htd : t = d
    · subst htd
      have e1 : Nat.beq t t = true := by simp
      simp only [updS, Act.put, e1, cond_true]
      rw [Array.getD_eq_getD_getElem?, Array.getElem?_setIfInBounds_self_of_lt (by omega)]
      exact hv
    · have h1 := h.fr t
      have e1 : Nat.beq t d = false := by
        cases hb : Nat.beq t d
        · rfl
        · exact absurd (Nat.eq_of_beq_eq_true hb) htd
      simp only [updS, Act.put, e1, cond_false]
      rw [Array.getD_eq_getD_getElem?, Array.getElem?_setIfInBounds_ne (Ne.symm htd), ← Array.getD_eq_getD_getElem?]
      exact h1
end Go.Proofs.Ytmcegaabopcmfaa
