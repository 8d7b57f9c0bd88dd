/- The abstract machine: arrays of one-cell elements, built and compared. -/
import Derived.Test.YtdajmjdjhgpaaaaDoorMc
import Derived.WideLaws
import Derived.Laws.Entries
import Derived.Laws.IdiomStrings
namespace Go.Proofs.YtdajmjdjhgpaaaaDoor
open Go.RowKit
set_option linter.unusedVariables false
def tyA (P : Program) (t : TypeId) : Option (Nat × TypeId × TypeDesc) :=
  match P.underlying t with
  | some (.array n e) => if P.eqGuardType P.depth t = false ∧ tyS P e = some (false, 1) then (P.underlying e).map fun d => (n, e, d) else none
  | _ => none
def eqVA (d : TypeDesc) : List Value → List Value → Option Bool
  | [], [] => some true
  | a :: as1, b :: bs => (eqV d a b).bind fun r => (eqVA d as1 bs).map (r && ·)
  | _, _ => none
section
variable {P : Program} {f : Nat → Slot} {dst : Option Tmp} {ty : TypeId} {pos : String} {af : Array Edge} {gd : Option (Nat × Bool)}
theorem size1 {e : TypeId} (h : tyS P e = some (false, 1)) (w : World) : (sizeOf e).run P w = .ok 1 w := by
  obtain ⟨d, i, d1, d2, d3, d4⟩ := tyS_at h
  simp_all [sizeOf, typeInfo]
abbrev bxU (l : List Int) : List V := l.map fun x => vval (.int .u8 x)
end
end Go.Proofs.YtdajmjdjhgpaaaaDoor
