/- The cells of values. Printed by a program. -/
import Derived.Test.YtndabcepiekebaaGreatDoorZjm
import Derived.Test.YtndabcepiekebaaGreatDoorTy
import Derived.Test.YtndabcepiekebaaGreatDoorShelf
import Derived.Test.YtndabcepiekebaaGreatDoorLibK
import Derived.Test.YtndabcepiekebaaGreatDoorRng
import Derived.Shelf.Abstract
import Derived.Test.YtndabcepiekebaaGreatDoorMq
import Derived.Test.YtndabcepiekebaaGreatDoorErr
import Derived.Shelf.Strings.SlTrimAscii
import Derived.Test.YtndabcepiekebaaGreatDoorArr
namespace Go.Proofs.YtndabcepiekebaaGreatDoor
open Go.RowKit
set_option linter.unusedVariables false
set_option maxRecDepth 20000
abbrev y2j (x:Int):List V:=[vint x]
abbrev z0t (x:z0d):List V:=[vlst (List.map y2j x.L),vint x.at_]
abbrev z06 (x:z0i):List V:=[vstr x.Id,vstr x.Secret,vint x.From,vint x.To,vint x.Until]
abbrev z1l (x:z0u):List V:=[vstr x.Id,vint x.At,vint x.Until]
abbrev z0n (x:Bs):List V:=[vstr x]
abbrev z1w (x:z0y):List V:=[vstr x.App,vstr x.Sum,vlst (List.map z0n x.Scopes),vint x.From,vint x.To]
abbrev y1p (x:z1t):List V:=[vstr x.Issuer,vstr x.Audience,vlst (List.map z06 x.Signers),vlst (List.map z1l x.Revoked),vlst (List.map z1w x.Holders),vint x.Skew]
abbrev z5m (x:Int):List V:=[vval (.int .u8 x)]
abbrev x3g (x:Int):List V:=[vint x]
abbrev z0s (x:z0e):List V:=[vstr x.Id,vstr x.Subject,vstr x.Issuer,vstr x.Parent,vlst (List.map z0n x.Audience),vlst (List.map z0n x.Scopes),vint x.From,vint x.To]
abbrev w0o (x:(List Bs)):List V:=[vlst (List.map z0n x)]
abbrev z3t (x:z0k):List V:=[vlst (List.map z0n x.lines_),z05 x.ended_,vint x.at_,z05 x.bad_]
theorem z4m (b:Nat):TyG Tryz.prog 234 9 233 (MTP b):=
 ⟨by kernel_rfl,Maps.string_keyed (by kernel_rfl),fun x hk=>⟨_,WideMaps.keyOf_string_mk (by kernel_rfl) (w6q hk)⟩,fun w=>by kernel_rfl,(fun a b h=>by simpa using h),(fun x w M v h=>h),(fun x w M v h=>h),(fun x w M=>rfl),(fun x w M=>rfl)⟩
theorem y64 {x:Int} (h:z66 x=true):0≤x:=by
 unfold z66 at h
 simp only [Bool.or_eq_true,decide_eq_true_eq] at h
 omega
theorem y6s {c c2:z0e} {x:Int} {y:Bs} (h:z66 x=true) (hc:some (y23 c x y)=some c2):x.toNat < (List.map Slot.dat (z0s c)).length∧(List.map Slot.dat (z0s c)).set x.toNat (.dat (vstr y))=List.map Slot.dat (z0s c2):=by
 cases hc
 unfold z66 at h
 simp only [Bool.or_eq_true,decide_eq_true_eq] at h
 rcases h with ((rfl | rfl) | rfl) | rfl <;> exact ⟨of_decide_eq_true rfl,rfl⟩
end Go.Proofs.YtndabcepiekebaaGreatDoor
