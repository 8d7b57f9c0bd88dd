/- Bills: models of what the translator does not print. -/
import Derived.Test.YtnnfdgngnoamoaaGreatDoorXbw7
import Derived.Test.YtnnfdgngnoamoaaGreatDoorPm
import Derived.Test.YtnnfdgngnoamoaaGreatDoorBk
namespace Go.Proofs.YtnnfdgngnoamoaaGreatDoor
open Go.RowKit
set_option linter.unusedVariables false
noncomputable abbrev wm:MT zu (Option Nat):=⟨fun x=>vagg (we x),fun x => .agg ([.string ⟨x.app_.toArray⟩,.string ⟨x.product_.toArray⟩]:List Value).toArray,fun x=>x.app_.length≤1000000000∧x.product_.length≤1000000000,fun x=>vval (ptO x),ptO,none⟩
theorem uk:TyG Tryz.prog 114 120 124 wm:=
 ⟨by kernel_rfl,x3g (by kernel_rfl) (by kernel_rfl) (by kernel_rfl) (by kernel_rfl) (by kernel_rfl),fun x hk=>x3e (P:=Tryz.prog) (k:=120) (n:=Tryz.prog.types.size - 1) (by kernel_rfl) (by kernel_rfl) (by kernel_rfl) (by kernel_rfl) (by kernel_rfl) (os:=[(0,9),(1,9)]) (by kernel_rfl) ⟨rfl,by kernel_rfl,.inl ⟨by kernel_rfl,_,rfl,z3u hk.1⟩,rfl,by kernel_rfl,.inl ⟨by kernel_rfl,_,rfl,z3u hk.2⟩,trivial⟩,fun w=>by kernel_rfl,(fun a b h=>by cases a; cases b; simp at h ⊢; exact h),(fun x w M v h=>y9r rfl h),(fun x w M v h=>h),(fun x w M=>rfl),(fun x w M=>y9q rfl rfl w M)⟩
end Go.Proofs.YtnnfdgngnoamoaaGreatDoor
