/- The abstract machine: maps whose elements are pointers to cells of an own box. -/
import Derived.Test.YtnnfdgngnoamoaaGreatDoorMg
import Derived.Test.YtnnfdgngnoamoaaGreatDoorDr
namespace Go.Proofs.YtnnfdgngnoamoaaGreatDoor
open Go.RowKit Go.ChangeMaps Go.MapKept
set_option linter.unusedVariables false
section
variable {P:Program} {f:Nat→Slot} {dst:Option Tmp} {ty:TypeId} {pos:String} {af:Array Edge} {gd:Option (Nat×Bool)}
theorem x6i {g:Gh} {w:World} {M:Blks} {f':Nat→Slot} {d:Option Nat} {s s':Slot} (hs:∀ v,RepS g w M s v→RepS g w M s' v) (k:Nat) (v:Value) (h:RepS g w M (updS f' d s k) v):RepS g w M (updS f' d s' k) v:=by
 cases d with
 | none=>exact h
 | some d =>
  simp only [updS] at h ⊢
  cases hb:Nat.beq k d
  ·rw [hb] at h; exact h
  ·rw [hb] at h; exact hs v h
variable {κ τ:Type} {an:Option Nat} {t kt et:TypeId} {T:MT κ τ} {l:List (κ×τ)} {x y:Operand} {id:Nat}
end
end Go.Proofs.YtnnfdgngnoamoaaGreatDoor
