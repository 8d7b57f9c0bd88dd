/- The abstract machine: arrays of one-cell elements, built and compared. -/
import Derived.Test.YtmlbmkfbleicaaaMc
import Derived.WideLaws
import Derived.Laws.Entries
import Derived.Laws.IdiomStrings
namespace Go.Proofs.Ytmlbmkfbleicaaa
open Go.RowKit
set_option linter.unusedVariables false
def tyA (P : Program) (t : TypeId) : Option (Nat × TypeId × TypeDesc) :=
  match P.underlying t with
  | some (.array n e) => if P.eqGuardType P.depth t = false ∧ tyS P e = some (false, 1) then (P.underlying e).map fun d => (n, e, d) else none
  | _ => none
def eqVA (d : TypeDesc) : List Value → List Value → Option Bool
  | [], [] => some true
  | a :: as1, b :: bs => (eqV d a b).bind fun r => (eqVA d as1 bs).map (r && ·)
  | _, _ => none
section
variable {P : Program} {f : Nat → Slot} {dst : Option Tmp} {ty : TypeId} {pos : String} {af : Array Edge} {gd : Option (Nat × Bool)}
theorem size1 {e : TypeId} (h : tyS P e = some (false, 1)) (w : World) : (sizeOf e).run P w = .ok 1 w := by
  obtain ⟨d, i, d1, d2, d3, d4⟩ := tyS_at h
  simp_all [sizeOf, typeInfo]
abbrev bxU (l : List Int) : List V := l.map fun x => vval (.int .u8 x)
theorem t_byteK {t : TypeId} {x ix : Operand} {l : List UInt8} {kd : IntKind} {m : Int} {c : UInt8} (ht : P.underlying t = some .string) (hx : evS f x = .dat (vstr l)) (hi : evS f ix = .dat (vval (.int kd m))) (hk : at? l m = some c) :
    Stp P ⟨dst, .index t x ix, ty, pos, af, gd⟩ f ⟨false, [], [], .dat (vval (.int .u8 (c.toNat : Int)))⟩ :=
  stp_val fun X own g a w h => by
    have h1 := val_of (h x (by simp [Op.operands])) hx
    have h2 := val_of (h ix (by simp [Op.operands])) hi
    obtain ⟨⟨q1, q2⟩, q3⟩ := at_some hk
    obtain ⟨k, rfl⟩ := Int.eq_ofNat_of_zero_le q1
    rw [Int.toNat_natCast] at q3
    refine ⟨.int .u8 (c.toNat : Int), ?_, rfl⟩
    have hlt := (List.getElem?_eq_some_iff.1 q3).1
    have e1 : (ByteArray.mk l.toArray)[k]? = some c := by
      have : k < (ByteArray.mk l.toArray).size := by simpa [ByteArray.size] using hlt
      rw [getElem?_pos (ByteArray.mk l.toArray) k this]
      rw [List.getElem?_eq_getElem hlt] at q3
      exact q3
    simp [execOp, h1, h2, Instr.index, asIntOf, run_underlying ht, e1]
end
end Go.Proofs.Ytmlbmkfbleicaaa
