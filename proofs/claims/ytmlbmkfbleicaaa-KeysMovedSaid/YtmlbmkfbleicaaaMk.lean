/- make, as data: a new slice of zeros that is only read. slices.Reverse at strings. -/
import Derived.Test.YtmlbmkfbleicaaaLibK
namespace Go.Proofs.Ytmlbmkfbleicaaa
open Go.RowKit
set_option linter.unusedVariables false
section
variable {P : Program} {f : Nat → Slot} {dst : Option Tmp} {ty : TypeId} {pos : String} {af : Array Edge} {gd : Option (Nat × Bool)}
theorem at_lt {α : Type} {l : List α} {k : Nat} {x : α} (h : l[k]? = some x) : k < l.length := (List.getElem?_eq_some_iff.1 h).1
theorem setCells_mid {b : Nat} {bt : TypeId} {l : List Value} : ∀ (vs : List Value) (w1 : World) (o : Nat) (pre : List Value), pre.length = o → w1.heap[b]? = some (.cells (pre ++ l.drop o).toArray bt (0, 0)) → o + vs.length ≤ l.length → (w1.setCells b o vs).heap[b]? = some (.cells (pre ++ vs ++ l.drop (o + vs.length)).toArray bt (0, 0)) := by
  intro vs
  induction vs with
  | nil => intro w1 o pre hp hb _; rw [World.setCells]; simpa using hb
  | cons v vs ih =>
    intro w1 o pre hp hb hlen
    have hd : l.drop o = l[o]'(by simp at hlen; omega) :: l.drop (o + 1) := List.drop_eq_getElem_cons (by simp at hlen; omega)
    have h1 := Blk.set_ (show Blk w1 b bt _ from hb) o v
    unfold Blk at h1
    have h2 := ih (w1.setCell ⟨b, o, none⟩ v) (o + 1) (pre ++ [v]) (by simp [hp]) (by
      rw [h1, hd]
      congr 2
      simp only [List.setIfInBounds_toArray]
      congr 1
      rw [List.set_append_right _ _ (by omega), hp, Nat.sub_self, List.set_cons_zero]
      simp) (by simp at hlen ⊢; omega)
    rw [World.setCells]
    simpa [Nat.add_comm, Nat.add_left_comm, Nat.add_assoc] using h2
end
noncomputable def m_slices_Reverse_string (l : List Bs) : Option (List Bs) := if l.length ≤ 1000000000 then some l.reverse else none
end Go.Proofs.Ytmlbmkfbleicaaa
