/- The cells of values. Printed by a program. -/
import Derived.Test.YthmmalklamiefaaGreatDoorZcm
import Derived.Test.YthmmalklamiefaaGreatDoorTy
import Derived.Test.YthmmalklamiefaaGreatDoorShelf
import Derived.Test.YthmmalklamiefaaGreatDoorLibK
import Derived.Test.YthmmalklamiefaaGreatDoorRng
import Derived.Shelf.Abstract
import Derived.Test.YthmmalklamiefaaGreatDoorTu
import Derived.Test.YthmmalklamiefaaGreatDoorMg
import Derived.Test.YthmmalklamiefaaGreatDoorAg
import Derived.Test.YthmmalklamiefaaGreatDoorOw
import Derived.Test.YthmmalklamiefaaGreatDoorSub
import Derived.Test.YthmmalklamiefaaGreatDoorDr
import Derived.Test.YthmmalklamiefaaGreatDoorMk
namespace Go.Proofs.YthmmalklamiefaaGreatDoor
open Go.RowKit
set_option linter.unusedVariables false
set_option maxRecDepth 20000
abbrev z5a (x:Int):List V:=[vint x]
abbrev z0x (x:z0d):List V:=[vlst (List.map z5a x.L),vint x.at_]
abbrev z1k (x:Bs):List V:=[vstr x]
abbrev z0y (x:z0r):List V:=[vstr x.Key,vlst (List.map z1k x.Scopes)]
abbrev z1y (x:z02):List V:=[vint x.From,vint x.Cents]
abbrev z01 (x:z0p):List V:=[vstr x.Key,vstr x.Product,vint x.Base,vint x.Free,vlst (List.map z1y x.Tiers),vint x.Limit,vint x.Trial,z1p x.Asked]
abbrev z1h (x:z0i):List V:=[vlst (List.map z0y x.Products),vlst (List.map z01 x.Plans)]
abbrev z1a (x:z0s):List V:=[vstr x.Key,vstr x.Owner]
abbrev z00 (x:z0f):List V:=[vint x.At,vstr x.App,vstr x.Product,vint x.Kind,vstr x.Plan]
abbrev z1g (x:z0o):List V:=[vint x.State,vstr x.Plan,vint x.Since,vint x.First]
abbrev z0v (x:z0e):List V:=[vstr x.App,vstr x.Product,vint x.Month,vint x.Calls]
abbrev y5c (x:(List z0e)):List V:=[vlst (List.map z0v x)]
abbrev y2k (x:z0u):List V:=[vstr x.app_,vstr x.product_]
abbrev y6l (x:Int):List V:=[vint x]
noncomputable abbrev z29:MT z0u z0o:=⟨fun x=>vagg (y2k x),fun x => .agg ([.string ⟨x.app_.toArray⟩,.string ⟨x.product_.toArray⟩]:List Value).toArray,fun x=>x.app_.length≤1000000000∧x.product_.length≤1000000000,fun x=>vagg (z1g x),fun x => .agg ([.int .i64 x.State,.string ⟨x.Plan.toArray⟩,.int .i64 x.Since,.int .i64 x.First]:List Value).toArray,(z0o.mk 0 [] 0 0)⟩
theorem z6l:TyG Tryz.prog 133 91 51 z29:=
 ⟨by kernel_rfl,x4t (by kernel_rfl) (by kernel_rfl) (by kernel_rfl) (by kernel_rfl) (by kernel_rfl),fun x hk=>x0f (P:=Tryz.prog) (k:=91) (n:=211) (by kernel_rfl) (by kernel_rfl) (by kernel_rfl) (by kernel_rfl) (by kernel_rfl) (os:=[(0,9),(1,9)]) (by kernel_rfl) ⟨rfl,by kernel_rfl,.inl ⟨by kernel_rfl,_,rfl,x0c hk.1⟩,rfl,by kernel_rfl,.inl ⟨by kernel_rfl,_,rfl,x0c hk.2⟩,trivial⟩,fun w=>by kernel_rfl,(fun a b h=>by cases a; cases b; simp at h ⊢; exact h),(fun x w M v h=>x9c rfl h),(fun x w M v h=>x9c rfl h),(fun x w M=>x9b rfl rfl w M),(fun x w M=>x9b rfl rfl w M)⟩
noncomputable abbrev z4k:MT z0u Int:=⟨fun x=>vagg (y2k x),fun x => .agg ([.string ⟨x.app_.toArray⟩,.string ⟨x.product_.toArray⟩]:List Value).toArray,fun x=>x.app_.length≤1000000000∧x.product_.length≤1000000000,fun x=>vint x,fun x => .int .i64 x,0⟩
theorem y27:TyG Tryz.prog 134 91 3 z4k:=
 ⟨by kernel_rfl,x4t (by kernel_rfl) (by kernel_rfl) (by kernel_rfl) (by kernel_rfl) (by kernel_rfl),fun x hk=>x0f (P:=Tryz.prog) (k:=91) (n:=211) (by kernel_rfl) (by kernel_rfl) (by kernel_rfl) (by kernel_rfl) (by kernel_rfl) (os:=[(0,9),(1,9)]) (by kernel_rfl) ⟨rfl,by kernel_rfl,.inl ⟨by kernel_rfl,_,rfl,x0c hk.1⟩,rfl,by kernel_rfl,.inl ⟨by kernel_rfl,_,rfl,x0c hk.2⟩,trivial⟩,fun w=>by kernel_rfl,(fun a b h=>by cases a; cases b; simp at h ⊢; exact h),(fun x w M v h=>x9c rfl h),(fun x w M v h=>h),(fun x w M=>rfl),(fun x w M=>x9b rfl rfl w M)⟩
noncomputable abbrev y31:MT z0e Int:=⟨fun x=>vagg (z0v x),fun x => .agg ([.string ⟨x.App.toArray⟩,.string ⟨x.Product.toArray⟩,.int .i64 x.Month,.int .i64 x.Calls]:List Value).toArray,fun x=>x.App.length≤1000000000∧x.Product.length≤1000000000∧(-9223372036854775808≤x.Month∧x.Month≤9223372036854775807)∧(-9223372036854775808≤x.Calls∧x.Calls≤9223372036854775807),fun x=>vint x,fun x => .int .i64 x,0⟩
theorem y3o:TyG Tryz.prog 87 57 3 y31:=
 ⟨by kernel_rfl,x4t (by kernel_rfl) (by kernel_rfl) (by kernel_rfl) (by kernel_rfl) (by kernel_rfl),fun x hk=>x0f (P:=Tryz.prog) (k:=57) (n:=211) (by kernel_rfl) (by kernel_rfl) (by kernel_rfl) (by kernel_rfl) (by kernel_rfl) (os:=[(0,9),(1,9),(2,3),(3,3)]) (by kernel_rfl) ⟨rfl,by kernel_rfl,.inl ⟨by kernel_rfl,_,rfl,x0c hk.1⟩,rfl,by kernel_rfl,.inl ⟨by kernel_rfl,_,rfl,x0c hk.2.1⟩,rfl,by kernel_rfl,.inr ⟨by kernel_rfl,_,rfl,hk.2.2.1⟩,rfl,by kernel_rfl,.inr ⟨by kernel_rfl,_,rfl,hk.2.2.2⟩,trivial⟩,fun w=>by kernel_rfl,(fun a b h=>by cases a; cases b; simp at h ⊢; exact h),(fun x w M v h=>x9c rfl h),(fun x w M v h=>h),(fun x w M=>rfl),(fun x w M=>x9b rfl rfl w M)⟩
noncomputable abbrev w46 (x:z3a):List V:=[vmpG z29 x.subs_,vmpG z4k x.asks_]
end Go.Proofs.YthmmalklamiefaaGreatDoor
