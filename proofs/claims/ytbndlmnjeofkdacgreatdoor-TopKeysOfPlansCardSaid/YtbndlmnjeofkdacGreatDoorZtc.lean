/- The cells of values. Printed by a program. -/
import Derived.Test.YtbndlmnjeofkdacGreatDoorZtm
import Derived.Test.YtbndlmnjeofkdacGreatDoorTy
import Derived.Test.YtbndlmnjeofkdacGreatDoorShelf
import Derived.Test.YtbndlmnjeofkdacGreatDoorLibK
import Derived.Test.YtbndlmnjeofkdacGreatDoorTu
import Derived.Test.YtbndlmnjeofkdacGreatDoorMg
import Derived.Test.YtbndlmnjeofkdacGreatDoorAg
import Derived.Test.YtbndlmnjeofkdacGreatDoorSub
import Derived.Test.YtbndlmnjeofkdacGreatDoorDr
import Derived.Test.YtbndlmnjeofkdacGreatDoorErr
import Derived.Shelf.Strings.SlTrimAscii
import Derived.Test.YtbndlmnjeofkdacGreatDoorMk
import Derived.Test.YtbndlmnjeofkdacGreatDoorBlS
import Derived.Test.YtbndlmnjeofkdacGreatDoorArr
namespace Go.Proofs.YtbndlmnjeofkdacGreatDoor
open Go.RowKit
set_option linter.unusedVariables false
set_option maxRecDepth 20000
abbrev wi (x:Int):List V:=[vint x]
abbrev vf (x:zy):List V:=[vlst (List.map wi x.L),vint x.at_]
abbrev zt (x:Bs):List V:=[vstr x]
abbrev wb (x:yq):List V:=[vstr x.Key,vlst (List.map zt x.Scopes)]
abbrev jy (x:qw):List V:=[vint x.From,vint x.Cents]
abbrev wj (x:yj):List V:=[vstr x.Key,vstr x.Product,vint x.Base,vint x.Free,vlst (List.map jy x.Tiers),vint x.Limit,vint x.Trial,zi x.Asked]
abbrev jo (x:yh):List V:=[vlst (List.map wb x.Products),vlst (List.map wj x.Plans)]
abbrev wd (x:yd):List V:=[vstr x.Key,vstr x.Owner]
abbrev yy (x:zq):List V:=[vint x.At,vstr x.App,vstr x.Product,vint x.Kind,vstr x.Plan]
abbrev qx (x:zz):List V:=[vint x.State,vstr x.Plan,vint x.Since,vint x.First]
abbrev y05 (x:yt):List V:=[vstr x.app_,vstr x.product_]
abbrev wc (x:Int):List V:=[vval (.int .u8 x)]
abbrev Zv (x:vi):List V:=[vstr x.App,vstr x.Sum,vlst (List.map zt x.Scopes),vint x.From,vint x.To]
abbrev um (x:wh):List V:=[vstr x.Id,vstr x.Secret,vint x.From,vint x.To,vint x.Until]
abbrev xb (x:va):List V:=[vstr x.Id,vint x.At,vint x.Until]
abbrev z6h (x:jm):List V:=[vstr x.Issuer,vstr x.Audience,vlst (List.map um x.Signers),vlst (List.map xb x.Revoked),vlst (List.map Zv x.Holders),vint x.Skew]
abbrev kw (x:ql):List V:=[vstr x.Name,vstr x.Value]
abbrev x3f (x:xl):List V:=[vint x.At,vstr x.Method,vstr x.Host,vstr x.Path,vstr x.Query,vstr x.From,vlst (List.map kw x.Headers),vstr x.Body]
abbrev vy (x:wn):List V:=[vint x.By,vstr x.Name,vlst (List.map zt x.Scopes)]
abbrev vd (x:qg):List V:=[vstr x.Id,vstr x.Subject,vstr x.Issuer,vstr x.Parent,vlst (List.map zt x.Audience),vlst (List.map zt x.Scopes),vint x.From,vint x.To]
abbrev Yr (x:jg):List V:=[vlst (List.map zt x.lines_),zi x.ended_,vint x.at_,zi x.bad_]
abbrev un (x:jn):List V:=[vstr x.Key,vint x.Weight]
abbrev y6a (x:xa):List V:=[vint x.Status,vlst (List.map kw x.Headers),vstr x.Body]
abbrev kx (x:qo):List V:=[zi x.NoStore,zi x.NoCache,zi x.Private,zi x.Public,zi x.Must,zi x.Only,vint x.MaxAge,vint x.Shared,vint x.Stale,vint x.OnError,vint x.MaxStale,vint x.MinFresh]
abbrev x3g (x:(List Bs)):List V:=[vlst (List.map zt x)]
noncomputable abbrev Zd:MT yt zz:=⟨fun x=>vagg (y05 x),fun x => .agg ([.string ⟨x.app_.toArray⟩,.string ⟨x.product_.toArray⟩]:List Value).toArray,fun x=>x.app_.length≤1000000000∧x.product_.length≤1000000000,fun x=>vagg (qx x),fun x => .agg ([.int .i64 x.State,.string ⟨x.Plan.toArray⟩,.int .i64 x.Since,.int .i64 x.First]:List Value).toArray,(zz.mk 0 [] 0 0)⟩
theorem y1m:TyG Tryz.prog 128 135 62 Zd:=
 ⟨by kernel_rfl,x7v (by kernel_rfl) (by kernel_rfl) (by kernel_rfl) (by kernel_rfl) (by kernel_rfl),fun x hk=>x7t (P:=Tryz.prog) (k:=135) (n:=363) (by kernel_rfl) (by kernel_rfl) (by kernel_rfl) (by kernel_rfl) (by kernel_rfl) (os:=[(0,9),(1,9)]) (by kernel_rfl) ⟨rfl,by kernel_rfl,.inl ⟨by kernel_rfl,_,rfl,y2f hk.1⟩,rfl,by kernel_rfl,.inl ⟨by kernel_rfl,_,rfl,y2f hk.2⟩,trivial⟩,fun w=>by kernel_rfl,(fun a b h=>by cases a; cases b; simp at h ⊢; exact h),(fun x w M v h=>x3a rfl h),(fun x w M v h=>x3a rfl h),(fun x w M=>x28 rfl rfl w M),(fun x w M=>x28 rfl rfl w M)⟩
noncomputable abbrev Zc:MT yt Int:=⟨fun x=>vagg (y05 x),fun x => .agg ([.string ⟨x.app_.toArray⟩,.string ⟨x.product_.toArray⟩]:List Value).toArray,fun x=>x.app_.length≤1000000000∧x.product_.length≤1000000000,fun x=>vint x,fun x => .int .i64 x,0⟩
theorem x4b:TyG Tryz.prog 129 135 3 Zc:=
 ⟨by kernel_rfl,x7v (by kernel_rfl) (by kernel_rfl) (by kernel_rfl) (by kernel_rfl) (by kernel_rfl),fun x hk=>x7t (P:=Tryz.prog) (k:=135) (n:=363) (by kernel_rfl) (by kernel_rfl) (by kernel_rfl) (by kernel_rfl) (by kernel_rfl) (os:=[(0,9),(1,9)]) (by kernel_rfl) ⟨rfl,by kernel_rfl,.inl ⟨by kernel_rfl,_,rfl,y2f hk.1⟩,rfl,by kernel_rfl,.inl ⟨by kernel_rfl,_,rfl,y2f hk.2⟩,trivial⟩,fun w=>by kernel_rfl,(fun a b h=>by cases a; cases b; simp at h ⊢; exact h),(fun x w M v h=>x3a rfl h),(fun x w M v h=>h),(fun x w M=>rfl),(fun x w M=>x28 rfl rfl w M)⟩
theorem w4t {c c2:qo} {x:Int} {y:Bool} (h:y53 x=true) (hc:some (y74 c x y)=some c2):x.toNat < (List.map Slot.dat (kx c)).length∧(List.map Slot.dat (kx c)).set x.toNat (.dat (zi y))=List.map Slot.dat (kx c2):=by
 cases hc
 unfold y53 at h
 simp only [Bool.or_eq_true,decide_eq_true_eq] at h
 rcases h with ((((rfl | rfl) | rfl) | rfl) | rfl) | rfl <;> exact ⟨of_decide_eq_true rfl,rfl⟩
theorem x83 {c:qo} {x:Int} (h:Qp x=true):(List.map Slot.dat (kx c))[x.toNat]?=some (.dat (vint (z0b c x))):=by
 unfold Qp at h
 simp only [Bool.or_eq_true,decide_eq_true_eq] at h
 rcases h with ((((rfl | rfl) | rfl) | rfl) | rfl) | rfl <;> rfl
theorem x52 {c c2:qo} {x:Int} {y:Int} (h:Qp x=true) (hc:some (y2l c x y)=some c2):x.toNat < (List.map Slot.dat (kx c)).length∧(List.map Slot.dat (kx c)).set x.toNat (.dat (vint y))=List.map Slot.dat (kx c2):=by
 cases hc
 unfold Qp at h
 simp only [Bool.or_eq_true,decide_eq_true_eq] at h
 rcases h with ((((rfl | rfl) | rfl) | rfl) | rfl) | rfl <;> exact ⟨of_decide_eq_true rfl,rfl⟩
end Go.Proofs.YtbndlmnjeofkdacGreatDoor
