/- Words for memory: a block known whole, a slice that reads as a list, what was kept. Plain lemmas, no program. Parts of the first two sections are the kit's own extra words. -/
import Derived.WalkKit
import Derived.WalkSpells
import Derived.WalkLawsBesides
import Derived.Lib.Hide
import Derived.Laws.Rows
import Derived.Deep.Draws
import Derived.Deep.AppendLies
import Derived.Maps.AppendAt
import Derived.RegionTactic
import Derived.Deep.QuietTactic
import Derived.BigQuiet
import Derived.Outline
import Derived.Laws.MakeOwn
import Derived.Deep.DeepCutAuto
namespace Go.Proofs.Ytmcegaabopcmfaa
open Go.RowKit

theorem ret_int {k : IntKind} {a b : Int} (h : a = b) : Ending.returned (.int k a) = .returned (.int k b) := by rw [h]

theorem ret_bool {a b : Bool} (h : a = b) : Ending.returned (.bool a) = .returned (.bool b) := by rw [h]

theorem toList_dat (s : ByteArray) : s.toList = s.data.toList := ByteArray.toList_eq s

/-- block g is just the cells cs of element type t, none frozen -/
def Blk (w : World) (g : Nat) (t : TypeId) (cs : Array Value) : Prop := w.heap[g]? = some (.cells cs t (0, 0))

section
variable {w w' : World} {g : Nat} {t : TypeId} {cs : Array Value}
theorem Blk.lt (h : Blk w g t cs) : g < w.heap.size := by
  rcases Nat.lt_or_ge g w.heap.size with hlt | hge
  · exact hlt
  · unfold Blk at h; rw [Array.getElem?_eq_none hge] at h; cases h
theorem Blk.cell (h : Blk w g t cs) (i : Nat) : w.cell? ⟨g, i, none⟩ = cs[i]? := cell_of_row w g i cs t (0, 0) h
theorem Blk.frozen (h : Blk w g t cs) (i : Nat) : w.frozen? ⟨g, i, none⟩ = false := by
  unfold Blk at h
  simp [World.frozen?, h]
theorem Blk.new (w : World) (t : TypeId) (cs : Array Value) : Blk (w.alloc (.cells cs t)) w.heap.size t cs := heap_alloc_new w _
theorem Blk.drew (h : Blk w g t cs) : Blk w.drew g t cs := h
theorem Blk.drewN (h : Blk w g t cs) (n : Nat) : Blk (w.drewN n) g t cs := h
theorem Blk.alloc (h : Blk w g t cs) (o : Obj) : Blk (w.alloc o) g t cs := (Below.heap_alloc w o g h.lt).trans h
theorem Blk.set_ (h : Blk w g t cs) (i : Nat) (u : Value) : Blk (w.setCell ⟨g, i, none⟩ u) g t (cs.setIfInBounds i u) := by
  unfold Blk at h ⊢
  simp [World.setCell, Array.getElem?_modify, h]
theorem Blk.far (h : Blk w g t cs) {p : Addr} (hp : g ≠ p.block) (u : Value) : Blk (w.setCell p u) g t cs := (Below.heap_setCell w p u g hp).trans h
theorem Blk.below {B : Nat} (h : Blk w g t cs) (hb : Below B w w') (hg : g < B) : Blk w' g t cs := (hb.block g hg).trans h
theorem Blk.grown {row : Option Nat} (h : Blk w g t cs) (hb : w.grownBy w' row) (hg : some g ≠ row) : Blk w' g t cs := (hb.block g h.lt hg).trans h
theorem Blk.ne_ {g' : Nat} {t' : TypeId} {cs' : Array Value} (h : Blk w g t cs) (h' : Blk w g' t' cs') (hne : t ≠ t') : g ≠ g' := by
  rintro rfl
  unfold Blk at h h'
  rw [h] at h'
  injection h' with h'
  injection h' with _ ht
  exact hne ht
end

/-- all is as it was but the blocks of S, and new ones -/
structure Kp (S : List Nat) (w w' : World) : Prop where
  os : w'.os = w.os
  tape : w'.tape = w.tape
  output : w'.output = w.output
  size : w.heap.size ≤ w'.heap.size
  block : ∀ k, k < w.heap.size → k ∉ S → w'.heap[k]? = w.heap[k]?

section
variable {S S' : List Nat} {a b c w w' : World}
theorem Kp.refl (S : List Nat) (w : World) : Kp S w w := ⟨rfl, rfl, rfl, Nat.le_refl _, fun _ _ _ => rfl⟩
theorem Kp.trans (h : Kp S a b) (k : Kp S' b c) (hs : ∀ g, g ∈ S' → g ∈ S ∨ a.heap.size ≤ g) : Kp S a c :=
  ⟨k.os.trans h.os, k.tape.trans h.tape, k.output.trans h.output, Nat.le_trans h.size k.size, fun i hi hn =>
    (k.block i (Nat.lt_of_lt_of_le hi h.size) (fun hm => by
      rcases hs i hm with hh | hh
      · exact hn hh
      · omega)).trans (h.block i hi hn)⟩
theorem Kp.tr (h : Kp S a b) (k : Kp S b c) : Kp S a c := h.trans k fun _ hg => .inl hg
theorem Kp.tr0 (h : Kp S a b) (k : Kp [] b c) : Kp S a c := h.trans k fun _ hg => by simp at hg
theorem Kp.mono (h : Kp S a b) (hs : ∀ g, g ∈ S → g ∈ S') : Kp S' a b := ⟨h.os, h.tape, h.output, h.size, fun i hi hn => h.block i hi fun hm => hn (hs i hm)⟩
theorem Kp.up (h : Kp [] a b) : Kp S a b := h.mono (by simp)
theorem Kp.drew (h : Kp S a w) : Kp S a w.drew := ⟨h.os, h.tape, h.output, h.size, h.block⟩
theorem Kp.drewN (h : Kp S a w) (n : Nat) : Kp S a (w.drewN n) := ⟨h.os, h.tape, h.output, h.size, h.block⟩
theorem Kp.alloc (h : Kp S a w) (o : Obj) : Kp S a (w.alloc o) :=
  ⟨h.os, h.tape, h.output, Nat.le_trans h.size (by simp), fun i hi hn => (Below.heap_alloc w o i (Nat.lt_of_lt_of_le hi h.size)).trans (h.block i hi hn)⟩
theorem Kp.set_ (h : Kp S a w) {p : Addr} (hp : p.block ∈ S ∨ a.heap.size ≤ p.block) (u : Value) : Kp S a (w.setCell p u) :=
  ⟨h.os, h.tape, h.output, by simpa [World.setCell] using h.size, fun i hi hn => (Below.heap_setCell w p u i (by
    rintro rfl
    rcases hp with hp | hp
    · exact hn hp
    · omega)).trans (h.block i hi hn)⟩
theorem Kp.below {B : Nat} (h : Kp S a b) (hB : B ≤ a.heap.size) (hs : ∀ g, g ∈ S → B ≤ g) : Below B a b :=
  ⟨h.os, h.tape, h.output, h.size, fun k hk => h.block k (by omega) fun hm => by have := hs k hm; omega⟩
theorem Kp.of_below (h : Below a.heap.size a b) : Kp [] a b := ⟨h.os, h.tape, h.output, h.size, fun k hk _ => h.block k hk⟩
theorem Kp.to_below (h : Kp [] a b) : Below a.heap.size a b := h.below (Nat.le_refl _) (by simp)
theorem Kp.of_grown {row : Option Nat} (h : a.grownBy b row) (hr : ∀ g, row = some g → g ∈ S ∨ a.heap.size ≤ g) : Kp S a b :=
  ⟨h.os, h.tape, h.output, h.size, fun k hk hn => h.block k hk fun e => by
    rcases hr k e.symm with hh | hh
    · exact hn hh
    · omega⟩
theorem Kp.blk {g : Nat} {t : TypeId} {cs : Array Value} (h : Kp S a b) (hb : Blk a g t cs) (hg : g ∉ S) : Blk b g t cs := (h.block g hb.lt hg).trans hb
theorem Kp.blk0 {g : Nat} {t : TypeId} {cs : Array Value} (h : Kp [] a b) (hb : Blk a g t cs) : Blk b g t cs := h.blk hb (by simp)
end

/-- a slice whose first n elements are the cells xs; it lies in a block whose elements are of type e -/
def Sl (w : World) (e : TypeId) (size : Nat) (A : Option Addr) (n : Nat) (xs : List Value) : Prop :=
  xs.length = n * size ∧ (0 < n → ∃ b off cs fz, A = some ⟨b, off, none⟩ ∧ w.heap[b]? = some (.cells cs e fz) ∧ ∀ j u, xs[j]? = some u → cs[off + j]? = some u)

/-- the block of a slice is not among S -/
def Away (A : Option Addr) (S : List Nat) : Prop := ∀ ad, A = some ad → ad.block ∉ S

section
variable {w w' : World} {S : List Nat} {e : TypeId} {size n : Nat} {A : Option Addr} {xs : List Value}
theorem Sl.none_ : Sl w e size A 0 [] := ⟨by simp, fun h => absurd h (by omega)⟩
theorem Sl.len (h : Sl w e 1 A n xs) : xs.length = n := by simpa using h.1
theorem Sl.at_ {k : Nat} (h : Sl w e size A n xs) (hk : k < n * size) : ∃ b off, A = some ⟨b, off, none⟩ ∧ b < w.heap.size ∧ ∃ u, xs[k]? = some u ∧ w.cell? ⟨b, off + k, none⟩ = some u := by
  have hn : 0 < n := by
    rcases Nat.eq_zero_or_pos n with h0 | h0
    · subst h0; simp at hk
    · exact h0
  obtain ⟨b, off, cs, fz, e1, hb, hc⟩ := h.2 hn
  have hl : k < xs.length := by have := h.1; omega
  refine ⟨b, off, e1, ?_, xs[k], List.getElem?_eq_getElem hl, ?_⟩
  · rcases Nat.lt_or_ge b w.heap.size with hlt | hge
    · exact hlt
    · rw [Array.getElem?_eq_none hge] at hb; cases hb
  · rw [cell_of_row w b (off + k) cs e fz hb]
    exact hc k _ (List.getElem?_eq_getElem hl)
theorem Sl.keep (h : Sl w e size A n xs) (hk : Kp S w w') (ha : Away A S) : Sl w' e size A n xs :=
  ⟨h.1, fun hn => by
    obtain ⟨b, off, cs, fz, e1, hb, hc⟩ := h.2 hn
    refine ⟨b, off, cs, fz, e1, ?_, hc⟩
    rw [hk.block b ?_ (ha _ e1)]
    · exact hb
    · rcases Nat.lt_or_ge b w.heap.size with hlt | hge
      · exact hlt
      · rw [Array.getElem?_eq_none hge] at hb; cases hb⟩
theorem Sl.keepB (h : Sl w e size A n xs) (hk : Kp S w w') (ha : 0 < n → Away A S) : Sl w' e size A n xs := by
  rcases Nat.eq_zero_or_pos n with h0 | h0
  · subst h0
    exact ⟨h.1, fun hn => absurd hn (by omega)⟩
  · exact h.keep hk (ha h0)
theorem Away.nil (A : Option Addr) : Away A [] := fun _ _ => by simp
theorem Sl.keep0 (h : Sl w e size A n xs) (hk : Kp [] w w') : Sl w' e size A n xs := h.keep hk (Away.nil A)
theorem Sl.away_blk (h : Sl w e size A n xs) (hn : 0 < n) {g : Nat} {t : TypeId} {cs : Array Value} (hb : Blk w g t cs) (ht : e ≠ t) : Away A [g] := by
  obtain ⟨b, off, cs', fz, e1, hb', _⟩ := h.2 hn
  intro ad ha
  rw [e1] at ha
  injection ha with ha
  subst ha
  intro hm
  have : b = g := by simpa using hm
  subst this
  unfold Blk at hb
  rw [hb] at hb'
  injection hb' with hb'
  injection hb' with _ he
  exact ht he.symm
/-- one block may turn: it is of another type -/
theorem Sl.keep1 (h : Sl w e size A n xs) {g : Nat} {t : TypeId} {cs : Array Value} (hb : Blk w g t cs) (ht : e ≠ t) (hk : Kp [g] w w') : Sl w' e size A n xs := by
  rcases Nat.eq_zero_or_pos n with h0 | h0
  · subst h0
    exact ⟨h.1, fun hn => absurd hn (by omega)⟩
  · exact h.keep hk (h.away_blk h0 hb ht)
theorem Sl.alloc (h : Sl w e size A n xs) (o : Obj) : Sl (w.alloc o) e size A n xs := h.keep0 ((Kp.refl [] w).alloc o)
theorem Sl.drewN (h : Sl w e size A n xs) (k : Nat) : Sl (w.drewN k) e size A n xs := h
theorem Sl.of_blk {g : Nat} {cs : Array Value} (hb : Blk w g e cs) (hs : cs.size = n * size) : Sl w e size (some ⟨g, 0, none⟩) n cs.toList :=
  ⟨by simpa using hs, fun _ => ⟨g, 0, cs, (0, 0), rfl, hb, fun j u hu => by simpa using hu⟩⟩
theorem Sl.of_own {base : Nat} {c : Nat} (h : w.ownsRow base e size (.slice A n c) n xs) : Sl w e size A n xs := by
  refine ⟨h.1, fun hn => ?_⟩
  obtain ⟨h1, h2⟩ := h
  rcases h2 with ⟨hv, hx⟩ | ⟨g, cap, cur, hv, _, hh, hnc, _, hsz, hpre⟩
  · omega
  · injection hv with hA
    subst hA
    refine ⟨g, 0, cur, (0, 0), rfl, hh, fun j u hu => ?_⟩
    rw [← hpre, List.getElem?_take] at hu
    split at hu
    · simpa using hu
    · cases hu
end

/-- t is the type of slices of elements of type e: each of so many cells and bytes -/
def Elem (P : Program) (t e : TypeId) (size bytes : Nat) : Prop :=
  ∃ (i : TypeInfo) (z : Value), P.underlying t = some (.slice e) ∧ P.info? e = some i ∧ i.zero = some z ∧ i.size = size ∧ i.bytes = bytes ∧ z.cells.size = size ∧ 0 < size
theorem Elem.mk {P : Program} {t e : TypeId} {size bytes : Nat} {z : Value} (ht : P.underlying t = some (.slice e)) (h : (P.info? e).map (fun i => (i.zero, i.size, i.bytes)) = some (some z, size, bytes)) (hz : z.cells.size = size) (hs : 0 < size) : Elem P t e size bytes := by
  obtain ⟨i, h1, h2, h3, h4⟩ := info_parts h
  exact ⟨i, z, ht, h1, h2, h3, h4, hz, hs⟩

theorem own_form {w : World} {base n : Nat} {e : TypeId} {size : Nat} {v : Value} {xs : List Value} (h : w.ownsRow base e size v n xs) : ∃ A c, v = .slice A n c := by
  rcases h.2 with ⟨hv, hn⟩ | ⟨g, cap, cur, hv, _⟩
  · exact ⟨none, 0, by rw [hv, hn]⟩
  · exact ⟨_, _, hv⟩
theorem own_base {w : World} {base n : Nat} {e : TypeId} {size : Nat} {v : Value} {xs : List Value} (h : w.ownsRow base e size v n xs) : ∀ g, v.ownBlock = some g → base ≤ g := by
  intro g hg
  rcases h.2 with ⟨hv, hn⟩ | ⟨g', cap, cur, hv, hb, _⟩
  · rw [hv] at hg; simp [Value.ownBlock] at hg
  · rw [hv] at hg; simp [Value.ownBlock] at hg; omega
theorem own_nil {w : World} {base : Nat} {e : TypeId} {size : Nat} : w.ownsRow base e size (.slice none 0 0) 0 [] := ⟨by simp, .inl ⟨rfl, rfl⟩⟩
theorem own_blk_ne {w : World} {base : Nat} {e t : TypeId} {size n g : Nat} {v : Value} {xs : List Value} {cs : Array Value} (h : w.ownsRow base e size v n xs) (hg : Blk w g t cs) (hne : e ≠ t) : some g ≠ v.ownBlock := by
  rcases h.2 with ⟨rfl, _⟩ | ⟨g', cap, cur, rfl, _, hh, _⟩
  · simp [Value.ownBlock]
  · intro he
    have : g' = g := by simpa [Value.ownBlock] using he.symm
    subst this
    exact Blk.ne_ (t := e) hh hg hne rfl
/-- an owned row is kept where its block is -/
theorem own_kp {w w' : World} {base n : Nat} {e : TypeId} {size : Nat} {v : Value} {xs : List Value} {S : List Nat} (h : w.ownsRow base e size v n xs) (hk : Kp S w w') (ha : ∀ g, g ∈ S → v.ownBlock ≠ some g) : w'.ownsRow base e size v n xs := by
  obtain ⟨h1, h2⟩ := h
  refine ⟨h1, ?_⟩
  rcases h2 with h2 | ⟨g, cap, cur, hv, hb, hh, h3⟩
  · exact .inl h2
  · refine .inr ⟨g, cap, cur, hv, hb, ?_, h3⟩
    have hlt : g < w.heap.size := Blk.lt (t := e) hh
    rw [hk.block g hlt (fun hm => ha g hm (by rw [hv]; rfl))]
    exact hh
theorem own_kp0 {w w' : World} {base n : Nat} {e : TypeId} {size : Nat} {v : Value} {xs : List Value} (h : w.ownsRow base e size v n xs) (hk : Kp [] w w') : w'.ownsRow base e size v n xs := own_kp h hk (by simp)
theorem own_kp1 {w w' : World} {base n g : Nat} {e t : TypeId} {size : Nat} {v : Value} {xs : List Value} {cs : Array Value} (h : w.ownsRow base e size v n xs) (hb : Blk w g t cs) (hne : e ≠ t) (hk : Kp [g] w w') : w'.ownsRow base e size v n xs :=
  own_kp h hk (fun g' hg' => by
    have : g' = g := by simpa using hg'
    subst this
    exact fun e' => own_blk_ne h hb hne e'.symm)
theorem own_grown {w w' : World} {base n : Nat} {e : TypeId} {size : Nat} {v : Value} {xs : List Value} (h : w.ownsRow base e size v n xs) (hg : w.grownBy w' v.ownBlock) {a : World} (ha : Kp [] a w) (hb : a.heap.size ≤ base) : Kp [] a w' :=
  ha.trans (S' := match v.ownBlock with | some g => [g] | none => []) ⟨hg.os, hg.tape, hg.output, hg.size, fun k hk hn => hg.block k hk (fun e => by rw [← e] at hn; simp at hn)⟩ (fun g hm => by
    cases hv : v.ownBlock with
    | none => rw [hv] at hm; simp at hm
    | some g' =>
      rw [hv] at hm
      have : g = g' := by simpa using hm
      subst this
      exact .inr (Nat.le_trans hb (own_base h g hv)))

/-- append(v, x): one element that lies in a new block -/
theorem app1 {P : Program} {ops : Array Oper} {rest : List Oper} {o : Oper} {a : Act} {Q : Exit → Act → World → Prop} (w : World) (news : List Value) (hgd : o.guard = none) (s x : Operand) (t e : TypeId) (size bytes : Nat)
    (ho : o.op = .call { callee := .builtin .append, args := #[s, x], argTypes := #[t, t] }) (hE : Elem P t e size bytes)
    (base : Nat) (v : Value) (n : Nat) (xs : List Value) (hs : a.eval s = v) (hown : w.ownsRow base e size v n xs)
    (g c : Nat) (hx : a.eval x = .slice (some ⟨g, 0, none⟩) 1 c) (hg : g = w.heap.size) (hl : news.length = size) (h1 : ∀ u ∈ news, u.oneCell' = true)
    (hbytes : (n + 1) * bytes ≤ 140737488355328) (h63 : n + 1 ≤ 1000000000) (hbase : base ≤ w.heap.size) (cs : Array Value) (hcs : cs = news.toArray)
    (h : ∀ v' w', w'.ownsRow base e size v' (n + 1) (xs ++ news) → w.grownBy w' v.ownBlock → (v'.ownBlock = v.ownBlock ∨ v'.ownBlock = some (w.heap.size + 1)) → wpList P ops Q rest (a.put o.dst v') w') :
    wpList P ops Q (o :: rest) a (w.alloc (.cells cs e)) := by
  obtain ⟨i, z, h2, h3, h4, h5, h6, h7, h8⟩ := hE
  subst hcs
  subst hg
  have hcell : ∀ j u, news[j]? = some u → (w.alloc (.cells news.toArray e)).cell? ((⟨w.heap.size, 0, none⟩ : Addr).add j) = some u := by
    intro j u hu
    have e1 : (⟨w.heap.size, 0, none⟩ : Addr).add j = ⟨w.heap.size, j, none⟩ := by
      unfold Addr.add
      by_cases hj : j = 0
      · subst hj; rfl
      · rw [if_neg hj]; simp
    rw [e1, (Blk.new w e news.toArray).cell j]
    simpa using hu
  refine wpList_append_own_at (w.alloc (.cells news.toArray e)) hgd s x t ho base e i z size bytes h2 h3 h4 h5 h6 h7 h8 v n xs hs (hown.alloc _) ⟨w.heap.size, 0, none⟩ 1 c news hx (by omega) hcell h1 (by unfold maxLen; omega) hbytes (by simp; omega) ?_
  intro v' w' k1 k2 _ k4
  exact h v' w' k1 ((World.grownBy_alloc w _ _).trans k2) (by simpa using k4)

/-- a row of numbers -/
def rowI (n : Nat) (f : Nat → Int) : Array Value := ((List.range n).map fun j => Value.int .i64 (f j)).toArray
def upd (f : Nat → Int) (i : Nat) (v : Int) : Nat → Int := fun j => if j = i then v else f j
theorem rowI_size (n : Nat) (f : Nat → Int) : (rowI n f).size = n := by simp [rowI]
theorem rowI_get (n : Nat) (f : Nat → Int) (i : Nat) (h : i < n) : (rowI n f)[i]? = some (.int .i64 (f i)) := by simp [rowI, h]
theorem rowI_set (n : Nat) (f : Nat → Int) (i : Nat) (v : Int) : (rowI n f).setIfInBounds i (.int .i64 v) = rowI n (upd f i v) := by
  apply Array.ext_getElem?
  intro j
  rw [Array.getElem?_setIfInBounds]
  by_cases hj : j < n
  · rw [rowI_get n _ j hj, rowI_get n _ j hj, rowI_size]
    by_cases hij : i = j
    · subst hij; simp [upd, hj]
    · rw [if_neg hij]; simp [upd, Ne.symm hij]
  · have e1 : ∀ g, (rowI n g)[j]? = none := fun g => by simp [rowI]; omega
    rw [e1, e1, rowI_size]
    by_cases hij : i = j
    · subst hij; simp [hj]
    · rw [if_neg hij]

/-- make([]int, n) -/
theorem make_ints {P : Program} (t e : TypeId) (i : TypeInfo) (ht : P.underlying t = some (.slice e)) (hi : P.info? e = some i) (hz : i.zero = some (.int .i64 0)) (hs : i.size = 1) (hb : i.bytes = 8) (n : Nat) (hn : n ≤ 1000000) (w : World) :
    (Instr.makeSlice t (.int .i64 (n : Int)) (.int .i64 (n : Int))).run P w = .ok (.slice (some ⟨w.heap.size, 0, none⟩) n n) (w.alloc (.cells (rowI n fun _ => 0) e)) := by
  have hr := run_make (P := P) w t e i (.int .i64 0) ht hi hz .i64 .i64 n n (by omega) (by omega) (by rw [hb]; omega) (by omega)
  simp only [Int.toNat_natCast] at hr
  rw [hr, hs, Nat.mul_one]
  have : madeCells (Value.int .i64 0).cells n = rowI n fun _ => 0 := by
    apply Array.ext_getElem?
    intro j
    by_cases hj : j < n
    · rw [rowI_get n _ j hj]
      simp [madeCells, Value.cells, hj, Nat.mod_one]
    · rw [Array.getElem?_eq_none (by rw [size_madeCells]; omega), Array.getElem?_eq_none (by rw [rowI_size]; omega)]
  rw [this]

/-- the block of an owned slice -/
def obl (v : Value) : List Nat := match v.ownBlock with | some g => [g] | none => []
theorem kp_grown {w w' : World} {v : Value} (h : w.grownBy w' v.ownBlock) : Kp (obl v) w w' :=
  ⟨h.os, h.tape, h.output, h.size, fun k hk hn => h.block k hk fun e => hn (by unfold obl; rw [← e]; simp)⟩
theorem obl_base {w : World} {base n : Nat} {e : TypeId} {size : Nat} {v : Value} {xs : List Value} (h : w.ownsRow base e size v n xs) : ∀ q, q ∈ obl v → base ≤ q ∧ ∃ cs, Blk w q e cs := by
  intro q hq
  rcases h.2 with ⟨hv, _⟩ | ⟨g', cap, cur, hv, hb, hh, _⟩
  · rw [hv] at hq; simp [obl, Value.ownBlock] at hq
  · rw [hv] at hq
    have : q = g' := by simpa [obl, Value.ownBlock] using hq
    subst this
    exact ⟨hb, cur, hh⟩
/-- a block of another type is not the owned one -/
theorem obl_far {w : World} {base n g : Nat} {e t : TypeId} {size : Nat} {v : Value} {xs : List Value} {cs : Array Value} (h : w.ownsRow base e size v n xs) (hb : Blk w g t cs) (hne : e ≠ t) : g ∉ obl v := fun hm => by
  obtain ⟨_, cs', hb'⟩ := obl_base h g hm
  exact hb'.ne_ hb hne rfl
end Go.Proofs.Ytmcegaabopcmfaa
