/- Maps with string keys that the call makes: as plain functions of the key. -/
import Derived.Test.YtmcegaabopcmfaaWords
import Derived.Maps.Own
import Derived.Maps.OwnOps
import Derived.Maps.Views
import Derived.StringKeys
namespace Go.Proofs.Ytmcegaabopcmfaa
open Go.RowKit Go.Maps
set_option linter.unusedVariables false

section
variable {P : Program} {w w' : World} {t k e : TypeId} {b n : Nat}
/-- block b is a map from strings to numbers: m -/
def MapI (P : Program) (w : World) (k e : TypeId) (b n : Nat) (m : List UInt8 → Int) : Prop :=
  ∃ D : DataW Unit, w.ownsMap P k (plainElem P e) b n D ∧ ∀ l, D.atKey (.string l) (.lit (.int .i64 0)) = .lit (.int .i64 (m l))
/-- block b is a map from strings to bools: m -/
def MapB (P : Program) (w : World) (k e : TypeId) (b n : Nat) (m : List UInt8 → Bool) : Prop :=
  ∃ D : DataW Unit, w.ownsMap P k (plainElem P e) b n D ∧ ∀ l, D.atKey (.string l) (.lit (.bool false)) = .lit (.bool (m l))

def updM {α : Type} (m : List UInt8 → α) (l : List UInt8) (v : α) : List UInt8 → α := fun l' => if l' = l then v else m l'

theorem owns_isMap {R : Value → Option (DataW Unit × List MemPlace)} {D : DataW Unit} (h : w.ownsMap P k R b n D) : IsMap D := by
  obtain ⟨es, clock, _, _, _, hD⟩ := h
  exact ⟨_, hD⟩
theorem MapI.made (P : Program) (w : World) (k e : TypeId) : MapI P (w.alloc (.map #[] 0)) k e w.heap.size 0 (fun _ => 0) := ⟨.map [], World.ownsMap_made _ _ _ _, fun _ => rfl⟩
theorem MapB.made (P : Program) (w : World) (k e : TypeId) : MapB P (w.alloc (.map #[] 0)) k e w.heap.size 0 (fun _ => false) := ⟨.map [], World.ownsMap_made _ _ _ _, fun _ => rfl⟩
theorem MapI.lt {m : List UInt8 → Int} (h : MapI P w k e b n m) : b < w.heap.size := by obtain ⟨D, h, _⟩ := h; exact h.lt
theorem MapB.lt {m : List UInt8 → Bool} (h : MapB P w k e b n m) : b < w.heap.size := by obtain ⟨D, h, _⟩ := h; exact h.lt
theorem MapI.kp {m : List UInt8 → Int} {S : List Nat} (h : MapI P w k e b n m) (hk : Kp S w w') (hb : b ∉ S) : MapI P w' k e b n m := by
  obtain ⟨D, h1, h2⟩ := h
  have hlt := h1.lt
  obtain ⟨es, clock, hh, F, hs, hD⟩ := h1
  exact ⟨D, ⟨es, clock, (hk.block b hlt hb).trans hh, F, hs, hD⟩, h2⟩
theorem MapB.kp {m : List UInt8 → Bool} {S : List Nat} (h : MapB P w k e b n m) (hk : Kp S w w') (hb : b ∉ S) : MapB P w' k e b n m := by
  obtain ⟨D, h1, h2⟩ := h
  have hlt := h1.lt
  obtain ⟨es, clock, hh, F, hs, hD⟩ := h1
  exact ⟨D, ⟨es, clock, (hk.block b hlt hb).trans hh, F, hs, hD⟩, h2⟩
/-- a map's block is no block of cells -/
theorem MapI.ne_blk {m : List UInt8 → Int} {g : Nat} {t' : TypeId} {cs : Array Value} (h : MapI P w k e b n m) (hg : Blk w g t' cs) : b ≠ g := by
  rintro rfl
  obtain ⟨D, ⟨es, clock, hh, _⟩, _⟩ := h
  unfold Blk at hg
  rw [hh] at hg
  cases hg
theorem MapB.ne_blk {m : List UInt8 → Bool} {g : Nat} {t' : TypeId} {cs : Array Value} (h : MapB P w k e b n m) (hg : Blk w g t' cs) : b ≠ g := by
  rintro rfl
  obtain ⟨D, ⟨es, clock, hh, _⟩, _⟩ := h
  unfold Blk at hg
  rw [hh] at hg
  cases hg
theorem MapI.look {m : List UInt8 → Int} (h : MapI P w k e b n m) (hk : P.underlying k = some .string) (ht : P.underlying t = some (.map k e)) (he : P.underlying e = some (.int .i64)) (hz : ∀ w, (zeroValue e).run P w = .ok (.int .i64 0) w)
    (s : ByteArray) (hs : s.size ≤ maxLen) : (Instr.lookup t (.map (some b)) (.string s) false).run P w = .ok (.int .i64 (m s.data.toList)) w := by
  obtain ⟨D, h1, h2⟩ := h
  obtain ⟨c, hrun, hat, _⟩ := h1.lookup_int (string_keyed hk) ht he (hz w) (WideMaps.keyOf_string_mk hk hs)
  rw [h2] at hat
  injection hat with hat
  injection hat with _ hat
  rw [hat, hrun]
theorem MapB.look {m : List UInt8 → Bool} (h : MapB P w k e b n m) (hk : P.underlying k = some .string) (ht : P.underlying t = some (.map k e)) (he : P.underlying e = some .bool) (hz : ∀ w, (zeroValue e).run P w = .ok (.bool false) w)
    (s : ByteArray) (hs : s.size ≤ maxLen) : (Instr.lookup t (.map (some b)) (.string s) false).run P w = .ok (.bool (m s.data.toList)) w := by
  obtain ⟨D, h1, h2⟩ := h
  obtain ⟨v, ps, hrun, hv⟩ := h1.lookup (string_keyed hk) ht (hz w) (plainElem_bool he false) (WideMaps.keyOf_string_mk hk hs)
  rw [h2] at hv
  have : v = .bool (m s.data.toList) := by
    unfold plainElem at hv
    rw [he] at hv
    cases v <;> simp at hv
    rw [hv.1]
  rw [hrun, this]
theorem MapI.store {m : List UInt8 → Int} (h : MapI P w k e b n m) (hk : P.underlying k = some .string) (ht : P.underlying t = some (.map k e)) (he : P.underlying e = some (.int .i64)) (hn : n < 1000000)
    (s : ByteArray) (hs : s.size ≤ maxLen) (c : Int) (hc : -9223372036854775808 ≤ c ∧ c ≤ 9223372036854775807) :
    ∃ w', (Instr.mapUpdate t (.map (some b)) (.string s) (.int .i64 c)).run P w = .ok () w' ∧ MapI P w' k e b (n + 1) (updM m s.data.toList c) ∧ Kp [b] w w' := by
  obtain ⟨D, h1, h2⟩ := h
  have hm := owns_isMap h1
  obtain ⟨w', hrun, ho, hg⟩ := h1.update (string_keyed hk) ht (by unfold maxLen; omega) (WideMaps.keyOf_string_mk hk hs) (plainElem_int he (WalkArith.wf_i64 hc))
  refine ⟨w', hrun, ⟨_, ho, fun l => ?_⟩, Kp.of_grown hg (by intro g hg; injection hg with hg; subst hg; exact .inl (by simp))⟩
  unfold updM
  by_cases hl : l = s.data.toList
  · subst hl
    rw [if_pos rfl, atKey_put_same hm (by simp [WideAt.IsKeyLit])]
  · rw [if_neg hl, atKey_put_other (by intro e; injection e with e; exact hl e), h2]
theorem MapB.store {m : List UInt8 → Bool} (h : MapB P w k e b n m) (hk : P.underlying k = some .string) (ht : P.underlying t = some (.map k e)) (he : P.underlying e = some .bool) (hn : n < 1000000)
    (s : ByteArray) (hs : s.size ≤ maxLen) (c : Bool) :
    ∃ w', (Instr.mapUpdate t (.map (some b)) (.string s) (.bool c)).run P w = .ok () w' ∧ MapB P w' k e b (n + 1) (updM m s.data.toList c) ∧ Kp [b] w w' := by
  obtain ⟨D, h1, h2⟩ := h
  have hm := owns_isMap h1
  obtain ⟨w', hrun, ho, hg⟩ := h1.update (string_keyed hk) ht (by unfold maxLen; omega) (WideMaps.keyOf_string_mk hk hs) (plainElem_bool he c)
  refine ⟨w', hrun, ⟨_, ho, fun l => ?_⟩, Kp.of_grown hg (by intro g hg; injection hg with hg; subst hg; exact .inl (by simp))⟩
  unfold updM
  by_cases hl : l = s.data.toList
  · subst hl
    rw [if_pos rfl, atKey_put_same hm (by simp [WideAt.IsKeyLit])]
  · rw [if_neg hl, atKey_put_other (by intro e; injection e with e; exact hl e), h2]
end

/-- a slice of structs: each element is the cells that f gives -/
theorem flat_len {α : Type} (f : α → List Value) (size : Nat) (hf : ∀ a, (f a).length = size) (xs : List α) : (xs.flatMap f).length = xs.length * size := by
  induction xs with
  | nil => simp
  | cons x xs ih => rw [List.flatMap_cons, List.length_append, hf, ih, List.length_cons, Nat.add_mul]; omega
theorem flat_at {α : Type} (f : α → List Value) (size : Nat) (hf : ∀ a, (f a).length = size) (xs : List α) (d : α) (k j : Nat) (hk : k < xs.length) (hj : j < size) : (xs.flatMap f)[k * size + j]? = (f (xs.getD k d))[j]? := by
  induction xs generalizing k with
  | nil => simp at hk
  | cons x xs ih =>
    rw [List.flatMap_cons]
    cases k with
    | zero =>
      rw [Nat.zero_mul, Nat.zero_add, List.getElem?_append_left (by rw [hf]; exact hj)]
      rfl
    | succ k =>
      rw [List.getElem?_append_right (by rw [hf, Nat.add_mul]; omega), hf]
      have : (k + 1) * size + j - size = k * size + j := by rw [Nat.add_mul]; omega
      rw [this, ih k (by simpa using hk)]
      rfl
theorem Sl.rec_at {α : Type} {w : World} {e : TypeId} {size n : Nat} {A : Option Addr} {xs : List α} {f : α → List Value} (h : Sl w e size A n (xs.flatMap f)) (hf : ∀ a, (f a).length = size) (hs : 0 < size) (d : α) {k : Nat} (hk : k < n) :
    xs.length = n ∧ ∃ b off, A = some ⟨b, off, none⟩ ∧ b < w.heap.size ∧ ∀ j u, (f (xs.getD k d))[j]? = some u → w.cell? ⟨b, off + k * size + j, none⟩ = some u := by
  have hl : xs.length = n := by
    have h1 := h.1
    rw [flat_len f size hf] at h1
    exact Nat.eq_of_mul_eq_mul_right hs h1
  refine ⟨hl, ?_⟩
  have h0 : k * size + 0 < n * size := by
    have : (k + 1) * size ≤ n * size := Nat.mul_le_mul_right _ (by omega)
    rw [Nat.add_mul] at this
    omega
  obtain ⟨b, off, e1, hb, _⟩ := h.at_ h0
  refine ⟨b, off, e1, hb, fun j u hu => ?_⟩
  have hj : j < size := by
    rcases Nat.lt_or_ge j size with hl | hl
    · exact hl
    · rw [List.getElem?_eq_none (by rw [hf]; exact hl)] at hu; cases hu
  have hjn : k * size + j < n * size := by
    have : (k + 1) * size ≤ n * size := Nat.mul_le_mul_right _ (by omega)
    rw [Nat.add_mul] at this
    omega
  obtain ⟨b', off', e2, _, u', hu', hc⟩ := h.at_ hjn
  rw [e1] at e2
  injection e2 with e2
  injection e2 with ea eb
  subst ea eb
  rw [flat_at f size hf xs d k j (by omega) hj, hu] at hu'
  injection hu' with hu'
  subst hu'
  rw [Nat.add_assoc]
  exact hc
theorem Sl.rec_len {α : Type} {w : World} {e : TypeId} {size n : Nat} {A : Option Addr} {xs : List α} {f : α → List Value} (h : Sl w e size A n (xs.flatMap f)) (hf : ∀ a, (f a).length = size) (hs : 0 < size) : xs.length = n := by
  have h1 := h.1
  rw [flat_len f size hf] at h1
  exact Nat.eq_of_mul_eq_mul_right hs h1
theorem flat_snoc {α : Type} (f : α → List Value) (xs : List α) (x : α) : (xs ++ [x]).flatMap f = xs.flatMap f ++ f x := by simp
end Go.Proofs.Ytmcegaabopcmfaa
