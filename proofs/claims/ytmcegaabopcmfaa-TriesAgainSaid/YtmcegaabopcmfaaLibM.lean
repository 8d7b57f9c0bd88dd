/- Models of the library's functions that have contracts of the kit's shelf. No program. -/
import Derived.Test.YtmcegaabopcmfaaMod
import Derived.Test.YtmcegaabopcmfaaOrd
import Derived.Lib.IndexAny
import Derived.Test.YtmcegaabopcmfaaAbsK
namespace Go.Proofs.Ytmcegaabopcmfaa
def m_strings_Compare (a b : Bs) : Option Int := some (Lib.compareBytes a b)
def m_strings_IndexByte (l : Bs) (c : Int) : Option Int := some (Lib.indexByte l c.toNat.toUInt8)
abbrev and_ (k : IntKind) (m n : Int) : Int := k.wrap (BitVec.ofInt k.bits m &&& BitVec.ofInt k.bits n).toNat
abbrev or_ (k : IntKind) (m n : Int) : Int := k.wrap (BitVec.ofInt k.bits m ||| BitVec.ofInt k.bits n).toNat
abbrev xor_ (k : IntKind) (m n : Int) : Int := k.wrap (BitVec.ofInt k.bits m ^^^ BitVec.ofInt k.bits n).toNat
abbrev shl_ (k : IntKind) (m n : Int) : Int := k.wrap (m * 2 ^ (min n.toNat k.bits))
abbrev shr_ (k : IntKind) (m n : Int) : Int := m.fdiv (2 ^ (min n.toNat k.bits))
def m_slices_Clone {α : Type} (l : List α) : Option (List α) := if l.length ≤ 1000000000 then some l else none
theorem clone_some {α : Type} {l r : List α} (h : m_slices_Clone l = some r) : l.length ≤ 1000000000 ∧ l = r := by
  unfold m_slices_Clone at h
  split at h
  · rename_i h1; cases h; exact ⟨h1, rfl⟩
  · cases h
def m_slices_Grow {α : Type} (n : Int) : Option (List α) := if 0 ≤ n ∧ n ≤ 1000000000 then some [] else none
theorem grow_some {α : Type} {n : Int} {r : List α} (h : m_slices_Grow n = some r) : 0 ≤ n ∧ n ≤ 1000000000 ∧ [] = r := by
  unfold m_slices_Grow at h
  split at h
  · rename_i h1; cases h; exact ⟨h1.1, h1.2, rfl⟩
  · cases h
noncomputable def m_slices_Sort_int (l : List Int) : Option (List Int) := if l.length ≤ 1000000000 then some (l.mergeSort fun x y => decide (x ≤ y)) else none
theorem sort_some {l r : List Int} (h : m_slices_Sort_int l = some r) : l.length ≤ 1000000000 ∧ r = l.mergeSort fun x y => decide (x ≤ y) := by
  unfold m_slices_Sort_int at h
  split at h
  · rename_i h1; cases h; exact ⟨h1, rfl⟩
  · cases h
theorem sort_len {l r : List Int} (h : m_slices_Sort_int l = some r) : r.length = l.length := by rw [(sort_some h).2]; simp
end Go.Proofs.Ytmcegaabopcmfaa
