/- The cells of values. Printed by a program. -/
import Derived.Test.YtihjlkocfeoelaaGreatDoorZem
import Derived.Test.YtihjlkocfeoelaaGreatDoorTy
import Derived.Test.YtihjlkocfeoelaaGreatDoorShelf
import Derived.Test.YtihjlkocfeoelaaGreatDoorLibK
import Derived.Test.YtihjlkocfeoelaaGreatDoorMq
import Derived.Test.YtihjlkocfeoelaaGreatDoorErr
import Derived.Test.YtihjlkocfeoelaaGreatDoorMk
import Derived.Test.YtihjlkocfeoelaaGreatDoorArr
namespace Go.Proofs.YtihjlkocfeoelaaGreatDoor
open Go.RowKit
set_option linter.unusedVariables false
set_option maxRecDepth 20000
abbrev y1t (x:Int):List V:=[vint x]
abbrev z0p (x:z0d):List V:=[vlst (List.map y1t x.L),vint x.at_]
abbrev z0j (x:Bs):List V:=[vstr x]
abbrev z0w (x:z0f):List V:=[vstr x.Id,vstr x.Subject,vstr x.Issuer,vstr x.Parent,vlst (List.map z0j x.Audience),vlst (List.map z0j x.Scopes),vint x.From,vint x.To]
abbrev y4u (x:(List Bs)):List V:=[vlst (List.map z0j x)]
abbrev z7w (x:Int):List V:=[vval (.int .u8 x)]
abbrev z16 (x:z0g):List V:=[vlst (List.map z0j x.lines_),z02 x.ended_,vint x.at_,z02 x.bad_]
theorem z2p (b:Nat):TyG Tryz.prog 92 9 91 (MTP b):=
 ⟨by kernel_rfl,Maps.string_keyed (by kernel_rfl),fun x hk=>⟨_,WideMaps.keyOf_string_mk (by kernel_rfl) (x4y hk)⟩,fun w=>by kernel_rfl,(fun a b h=>by simpa using h),(fun x w M v h=>h),(fun x w M v h=>h),(fun x w M=>rfl),(fun x w M=>rfl)⟩
theorem y0b {x:Int} (h:z39 x=true):0≤x:=by
 unfold z39 at h
 simp only [Bool.or_eq_true,decide_eq_true_eq] at h
 omega
theorem z97 {c c2:z0f} {x:Int} {y:Bs} (h:z39 x=true) (hc:some (z7b c x y)=some c2):x.toNat < (List.map Slot.dat (z0w c)).length∧(List.map Slot.dat (z0w c)).set x.toNat (.dat (vstr y))=List.map Slot.dat (z0w c2):=by
 cases hc
 unfold z39 at h
 simp only [Bool.or_eq_true,decide_eq_true_eq] at h
 rcases h with ((rfl | rfl) | rfl) | rfl <;> exact ⟨of_decide_eq_true rfl,rfl⟩
end Go.Proofs.YtihjlkocfeoelaaGreatDoor
