/- The cells of values. Printed by a program. -/
import Derived.Test.YtkckjgkfljgjpaaGreatDoorZgm
import Derived.Test.YtkckjgkfljgjpaaGreatDoorTy
import Derived.Test.YtkckjgkfljgjpaaGreatDoorShelf
import Derived.Test.YtkckjgkfljgjpaaGreatDoorLibK
import Derived.Test.YtkckjgkfljgjpaaGreatDoorRng
import Derived.Shelf.Abstract
import Derived.Test.YtkckjgkfljgjpaaGreatDoorMq
import Derived.Test.YtkckjgkfljgjpaaGreatDoorErr
import Derived.Test.YtkckjgkfljgjpaaGreatDoorArr
namespace Go.Proofs.YtkckjgkfljgjpaaGreatDoor
open Go.RowKit
set_option linter.unusedVariables false
set_option maxRecDepth 20000
abbrev y22 (x:Int):List V:=[vint x]
abbrev z0q (x:z0d):List V:=[vlst (List.map y22 x.L),vint x.at_]
abbrev z00 (x:z0g):List V:=[vstr x.Id,vstr x.Secret,vint x.From,vint x.To,vint x.Until]
abbrev z0n (x:Bs):List V:=[vstr x]
abbrev z0t (x:z0e):List V:=[vstr x.Id,vstr x.Subject,vstr x.Issuer,vstr x.Parent,vlst (List.map z0n x.Audience),vlst (List.map z0n x.Scopes),vint x.From,vint x.To]
abbrev x1e (x:(List Bs)):List V:=[vlst (List.map z0n x)]
abbrev z4z (x:Int):List V:=[vval (.int .u8 x)]
abbrev z3b (x:z0i):List V:=[vlst (List.map z0n x.lines_),z01 x.ended_,vint x.at_,z01 x.bad_]
theorem z3x (b:Nat):TyG Tryz.prog 138 9 137 (MTP b):=
 ⟨by kernel_rfl,Maps.string_keyed (by kernel_rfl),fun x hk=>⟨_,WideMaps.keyOf_string_mk (by kernel_rfl) (w3b hk)⟩,fun w=>by kernel_rfl,(fun a b h=>by simpa using h),(fun x w M v h=>h),(fun x w M v h=>h),(fun x w M=>rfl),(fun x w M=>rfl)⟩
theorem y48 {x:Int} (h:z6d x=true):0≤x:=by
 unfold z6d at h
 simp only [Bool.or_eq_true,decide_eq_true_eq] at h
 omega
theorem y40 {c c2:z0e} {x:Int} {y:Bs} (h:z6d x=true) (hc:some (y07 c x y)=some c2):x.toNat < (List.map Slot.dat (z0t c)).length∧(List.map Slot.dat (z0t c)).set x.toNat (.dat (vstr y))=List.map Slot.dat (z0t c2):=by
 cases hc
 unfold z6d at h
 simp only [Bool.or_eq_true,decide_eq_true_eq] at h
 rcases h with ((rfl | rfl) | rfl) | rfl <;> exact ⟨of_decide_eq_true rfl,rfl⟩
end Go.Proofs.YtkckjgkfljgjpaaGreatDoor
