import Derived.Test.YtbpedjpoikmbjaaGreatDoorXkw7
import Derived.Test.YtbpedjpoikmbjaaGreatDoorBk
namespace Go.Proofs.YtbpedjpoikmbjaaGreatDoor
open Go.RowKit
set_option linter.unusedVariables false
noncomputable abbrev wq:MT zx (Option Nat):=⟨λx=>vagg (we x),λx=>.agg ([.string ⟨x.app_.toArray⟩,.string ⟨x.product_.toArray⟩]:List Value).toArray,λx=>x.app_.length<=1000000000/\x.product_.length<=1000000000,λx=>vval (ptO x),ptO,none⟩
theorem ux:TyG Tryz.prog 151 157 161 wq:=
 ⟨by kernel_rfl,x5x (by kernel_rfl) (by kernel_rfl) (by kernel_rfl) (by kernel_rfl) (by kernel_rfl),λx hk=>x5w (P:=Tryz.prog) (k:=157) (n:=Tryz.prog.types.size-1) (by kernel_rfl) (by kernel_rfl) (by kernel_rfl) (by kernel_rfl) (by kernel_rfl) (os:=[(0,9),(1,9)]) (by kernel_rfl) ⟨rfl,by kernel_rfl,.inl ⟨by kernel_rfl,_,rfl,z2a hk.1⟩,rfl,by kernel_rfl,.inl ⟨by kernel_rfl,_,rfl,z2a hk.2⟩,trivial⟩,λw=>by kernel_rfl,(λa b h=>by cases a;cases b;simp at h ⊢;exact h),(λx w M v h=>x1t rfl h),(λx w M v h=>h),(λx w M=>rfl),(λx w M=>x1s rfl rfl w M)⟩
end Go.Proofs.YtbpedjpoikmbjaaGreatDoor
