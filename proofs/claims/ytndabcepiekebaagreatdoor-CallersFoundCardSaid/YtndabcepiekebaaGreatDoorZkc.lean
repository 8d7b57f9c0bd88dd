/- The cells of values. Printed by a program. -/
import Derived.Test.YtndabcepiekebaaGreatDoorZkm
import Derived.Test.YtndabcepiekebaaGreatDoorTy
import Derived.Test.YtndabcepiekebaaGreatDoorShelf
import Derived.Test.YtndabcepiekebaaGreatDoorLibK
import Derived.Test.YtndabcepiekebaaGreatDoorRng
import Derived.Shelf.Abstract
import Derived.Test.YtndabcepiekebaaGreatDoorMq
import Derived.Test.YtndabcepiekebaaGreatDoorAg
import Derived.Test.YtndabcepiekebaaGreatDoorDr
import Derived.Test.YtndabcepiekebaaGreatDoorErr
import Derived.Shelf.Strings.SlTrimAscii
import Derived.Test.YtndabcepiekebaaGreatDoorArr
namespace Go.Proofs.YtndabcepiekebaaGreatDoor
open Go.RowKit
set_option linter.unusedVariables false
set_option maxRecDepth 20000
abbrev qz (x:Int):List V:=[vint x]
abbrev qr (x:zt):List V:=[vlst (List.map qz x.L),vint x.at_]
abbrev wg (x:ya):List V:=[vstr x.Id,vstr x.Secret,vint x.From,vint x.To,vint x.Until]
abbrev jb (x:qf):List V:=[vstr x.Id,vint x.At,vint x.Until]
abbrev zo (x:Bs):List V:=[vstr x]
abbrev vx (x:yr):List V:=[vstr x.App,vstr x.Sum,vlst (List.map zo x.Scopes),vint x.From,vint x.To]
abbrev xi (x:wo):List V:=[vstr x.Issuer,vstr x.Audience,vlst (List.map wg x.Signers),vlst (List.map jb x.Revoked),vlst (List.map vx x.Holders),vint x.Skew]
abbrev ve (x:Int):List V:=[vval (.int .u8 x)]
abbrev vg (x:qo):List V:=[vstr x.Name,vstr x.Value]
abbrev z3p (x:wj):List V:=[vint x.At,vstr x.Method,vstr x.Host,vstr x.Path,vstr x.Query,vstr x.From,vlst (List.map vg x.Headers),vstr x.Body]
abbrev yq (x:zm):List V:=[vstr x.Id,vstr x.Subject,vstr x.Issuer,vstr x.Parent,vlst (List.map zo x.Audience),vlst (List.map zo x.Scopes),vint x.From,vint x.To]
abbrev w9e (x:(List Bs)):List V:=[vlst (List.map zo x)]
abbrev qy (x:yl):List V:=[vint x.By,vstr x.Name,vlst (List.map zo x.Scopes)]
abbrev Yn (x:qi):List V:=[vlst (List.map zo x.lines_),zj x.ended_,vint x.at_,zj x.bad_]
abbrev y1n (x:Int):List V:=[vint x]
theorem z3x (b:Nat):TyG Tryz.prog 234 9 233 (MTP b):=
 ⟨by kernel_rfl,Maps.string_keyed (by kernel_rfl),fun x hk=>⟨_,WideMaps.keyOf_string_mk (by kernel_rfl) (x8o hk)⟩,fun w=>by kernel_rfl,(fun a b h=>by simpa using h),(fun x w M v h=>h),(fun x w M v h=>h),(fun x w M=>rfl),(fun x w M=>rfl)⟩
theorem w8b {x:Int} (h:z7f x=true):0≤x:=by
 unfold z7f at h
 simp only [Bool.or_eq_true,decide_eq_true_eq] at h
 omega
theorem x9x {c c2:zm} {x:Int} {y:Bs} (h:z7f x=true) (hc:some (y64 c x y)=some c2):x.toNat < (List.map Slot.dat (yq c)).length∧(List.map Slot.dat (yq c)).set x.toNat (.dat (vstr y))=List.map Slot.dat (yq c2):=by
 cases hc
 unfold z7f at h
 simp only [Bool.or_eq_true,decide_eq_true_eq] at h
 rcases h with ((rfl | rfl) | rfl) | rfl <;> exact ⟨of_decide_eq_true rfl,rfl⟩
end Go.Proofs.YtndabcepiekebaaGreatDoor
