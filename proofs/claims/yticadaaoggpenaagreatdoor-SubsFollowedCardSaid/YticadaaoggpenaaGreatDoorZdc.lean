/- The cells of values. Printed by a program. -/
import Derived.Test.YticadaaoggpenaaGreatDoorZdm
import Derived.Test.YticadaaoggpenaaGreatDoorTy
import Derived.Test.YticadaaoggpenaaGreatDoorShelf
import Derived.Test.YticadaaoggpenaaGreatDoorLibK
import Derived.Test.YticadaaoggpenaaGreatDoorRng
import Derived.Shelf.Abstract
import Derived.Test.YticadaaoggpenaaGreatDoorTu
import Derived.Test.YticadaaoggpenaaGreatDoorMr
import Derived.Test.YticadaaoggpenaaGreatDoorAg
import Derived.Test.YticadaaoggpenaaGreatDoorOw
import Derived.Test.YticadaaoggpenaaGreatDoorSub
import Derived.Test.YticadaaoggpenaaGreatDoorDr
import Derived.Test.YticadaaoggpenaaGreatDoorMk
namespace Go.Proofs.YticadaaoggpenaaGreatDoor
open Go.RowKit
set_option linter.unusedVariables false
set_option maxRecDepth 20000
abbrev z3o (x:Int):List V:=[vint x]
abbrev z0v (x:z0d):List V:=[vlst (List.map z3o x.L),vint x.at_]
abbrev z00 (x:Bs):List V:=[vstr x]
abbrev z0u (x:z0m):List V:=[vstr x.Key,vlst (List.map z00 x.Scopes)]
abbrev z1r (x:z01):List V:=[vint x.From,vint x.Cents]
abbrev z0z (x:z0o):List V:=[vstr x.Key,vstr x.Product,vint x.Base,vint x.Free,vlst (List.map z1r x.Tiers),vint x.Limit,vint x.Trial,z1e x.Asked]
abbrev z1d (x:z0g):List V:=[vlst (List.map z0u x.Products),vlst (List.map z0z x.Plans)]
abbrev z1l (x:z0t):List V:=[vstr x.Key,vstr x.Owner]
abbrev z0w (x:z0e):List V:=[vint x.At,vstr x.App,vstr x.Product,vint x.Kind,vstr x.Plan]
abbrev z08 (x:z0h):List V:=[vint x.State,vstr x.Plan,vint x.Since,vint x.First]
abbrev y24 (x:z0q):List V:=[vstr x.app_,vstr x.product_]
abbrev y3c (x:Int):List V:=[vint x]
noncomputable abbrev z14:MT z0q z0h:=⟨fun x=>vagg (y24 x),fun x => .agg ([.string ⟨x.app_.toArray⟩,.string ⟨x.product_.toArray⟩]:List Value).toArray,fun x=>x.app_.length≤1000000000∧x.product_.length≤1000000000,fun x=>vagg (z08 x),fun x => .agg ([.int .i64 x.State,.string ⟨x.Plan.toArray⟩,.int .i64 x.Since,.int .i64 x.First]:List Value).toArray,(z0h.mk 0 [] 0 0)⟩
theorem z2r:TyG Tryz.prog 71 76 39 z14:=
 ⟨by kernel_rfl,x6x (by kernel_rfl) (by kernel_rfl) (by kernel_rfl) (by kernel_rfl) (by kernel_rfl),fun x hk=>x1g (P:=Tryz.prog) (k:=76) (n:=230) (by kernel_rfl) (by kernel_rfl) (by kernel_rfl) (by kernel_rfl) (by kernel_rfl) (os:=[(0,9),(1,9)]) (by kernel_rfl) ⟨rfl,by kernel_rfl,.inl ⟨by kernel_rfl,_,rfl,x2a hk.1⟩,rfl,by kernel_rfl,.inl ⟨by kernel_rfl,_,rfl,x2a hk.2⟩,trivial⟩,fun w=>by kernel_rfl,(fun a b h=>by cases a; cases b; simp at h ⊢; exact h),(fun x w M v h=>w15 rfl h),(fun x w M v h=>w15 rfl h),(fun x w M=>w14 rfl rfl w M),(fun x w M=>w14 rfl rfl w M)⟩
noncomputable abbrev z2q:MT z0q Int:=⟨fun x=>vagg (y24 x),fun x => .agg ([.string ⟨x.app_.toArray⟩,.string ⟨x.product_.toArray⟩]:List Value).toArray,fun x=>x.app_.length≤1000000000∧x.product_.length≤1000000000,fun x=>vint x,fun x => .int .i64 x,0⟩
theorem z83:TyG Tryz.prog 72 76 3 z2q:=
 ⟨by kernel_rfl,x6x (by kernel_rfl) (by kernel_rfl) (by kernel_rfl) (by kernel_rfl) (by kernel_rfl),fun x hk=>x1g (P:=Tryz.prog) (k:=76) (n:=230) (by kernel_rfl) (by kernel_rfl) (by kernel_rfl) (by kernel_rfl) (by kernel_rfl) (os:=[(0,9),(1,9)]) (by kernel_rfl) ⟨rfl,by kernel_rfl,.inl ⟨by kernel_rfl,_,rfl,x2a hk.1⟩,rfl,by kernel_rfl,.inl ⟨by kernel_rfl,_,rfl,x2a hk.2⟩,trivial⟩,fun w=>by kernel_rfl,(fun a b h=>by cases a; cases b; simp at h ⊢; exact h),(fun x w M v h=>w15 rfl h),(fun x w M v h=>h),(fun x w M=>rfl),(fun x w M=>w14 rfl rfl w M)⟩
noncomputable abbrev w38 (x:z17):List V:=[vmpG z14 x.subs_,vmpG z2q x.asks_]
end Go.Proofs.YticadaaoggpenaaGreatDoor
