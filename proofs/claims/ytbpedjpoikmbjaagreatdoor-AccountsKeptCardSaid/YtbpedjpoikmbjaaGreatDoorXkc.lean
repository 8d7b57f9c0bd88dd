import Derived.Test.YtbpedjpoikmbjaaGreatDoorXkm
import Derived.Test.YtbpedjpoikmbjaaGreatDoorTy
import Derived.Test.YtbpedjpoikmbjaaGreatDoorShelf
import Derived.Test.YtbpedjpoikmbjaaGreatDoorDr
import Derived.Test.YtbpedjpoikmbjaaGreatDoorRng
import Derived.Shelf.Abstract
import Derived.Test.YtbpedjpoikmbjaaGreatDoorAg
import Derived.Test.YtbpedjpoikmbjaaGreatDoorOw
import Derived.Test.YtbpedjpoikmbjaaGreatDoorArr
namespace Go.Proofs.YtbpedjpoikmbjaaGreatDoor
open Go.RowKit
set_option linter.unusedVariables false
set_option maxRecDepth 20000
abbrev qv (x:ya):List V:=[vint x.State,vstr x.Plan,vint x.Since,vint x.First]
abbrev yh (x:Bs):List V:=[vstr x]
abbrev yr (x:yl):List V:=[vstr x.Key,vlst (List.map yh x.Scopes)]
abbrev wd (x:yu):List V:=[vint x.From,vint x.Cents]
abbrev yp (x:yd):List V:=[vstr x.Key,vstr x.Product,vint x.Base,vint x.Free,vlst (List.map wd x.Tiers),vint x.Limit,vint x.Trial,zt x.Asked]
abbrev yw (x:zw):List V:=[vlst (List.map yr x.Products),vlst (List.map yp x.Plans)]
abbrev yi (x:zj):List V:=[vint x.At,vstr x.App,vstr x.Product,vint x.Kind,vstr x.Plan]
abbrev jf (x:qu):List V:=[vint x.on_.State,vstr x.on_.Plan,vint x.on_.Since,vint x.on_.First,vint x.last_.State,vstr x.last_.Plan,vint x.last_.Since,vint x.last_.First]
abbrev we (x:zx):List V:=[vstr x.app_,vstr x.product_]
abbrev wt (x:qj):List V:=[vstr x.App,vstr x.Product,vstr x.What,vint x.Calls,vint x.Cents]
abbrev wa (x:zz):List V:=[vstr x.App,vstr x.Product,vint x.Month,vint x.Calls]
abbrev yg (x:zn):List V:=[vstr x.Key,vstr x.Owner]
abbrev qk (x:Int):List V:=[vint x]
abbrev vn (x:zu):List V:=[vstr x.Owner,vint x.Month,vlst (List.map wt x.Lines),vint x.Cents]
abbrev qy (x:zq):List V:=[vlst (List.map qk x.L),vint x.at_]
abbrev vm (x:qc):List V:=[vint x.At,vstr x.Owner,vint x.Cents]
abbrev y1w (x:Int):List V:=[vint x]
noncomputable abbrev uj:MT zz Int:=⟨λx=>vagg (wa x),λx=>.agg ([.string ⟨x.App.toArray⟩,.string ⟨x.Product.toArray⟩,.int .i64 x.Month,.int .i64 x.Calls]:List Value).toArray,λx=>x.App.length<=1000000000/\x.Product.length<=1000000000/\(-9223372036854775808<=x.Month/\x.Month<=9223372036854775807)/\(-9223372036854775808<=x.Calls/\x.Calls<=9223372036854775807),λx=>vint x,λx=>.int .i64 x,0⟩
theorem y6e:TyG Tryz.prog 122 70 3 uj:=
 ⟨by kernel_rfl,x5x (by kernel_rfl) (by kernel_rfl) (by kernel_rfl) (by kernel_rfl) (by kernel_rfl),λx hk=>x5w (P:=Tryz.prog) (k:=70) (n:=287) (by kernel_rfl) (by kernel_rfl) (by kernel_rfl) (by kernel_rfl) (by kernel_rfl) (os:=[(0,9),(1,9),(2,3),(3,3)]) (by kernel_rfl) ⟨rfl,by kernel_rfl,.inl ⟨by kernel_rfl,_,rfl,z2a hk.1⟩,rfl,by kernel_rfl,.inl ⟨by kernel_rfl,_,rfl,z2a hk.2.1⟩,rfl,by kernel_rfl,.inr ⟨by kernel_rfl,_,rfl,hk.2.2.1⟩,rfl,by kernel_rfl,.inr ⟨by kernel_rfl,_,rfl,hk.2.2.2⟩,trivial⟩,λw=>by kernel_rfl,(λa b h=>by cases a;cases b;simp at h ⊢;exact h),(λx w M v h=>x1t rfl h),(λx w M v h=>h),(λx w M=>rfl),(λx w M=>x1s rfl rfl w M)⟩
noncomputable abbrev jm:MT Bs Int:=⟨λx=>vstr x,λx=>.string ⟨x.toArray⟩,λx=>x.length<=1000000000,λx=>vint x,λx=>.int .i64 x,0⟩
theorem xx:TyG Tryz.prog 76 9 3 jm:=
 ⟨by kernel_rfl,Maps.string_keyed (by kernel_rfl),λx hk=>⟨_,WideMaps.keyOf_string_mk (by kernel_rfl) (z2a hk)⟩,λw=>by kernel_rfl,(λa b h=>by simpa using h),(λx w M v h=>h),(λx w M v h=>h),(λx w M=>rfl),(λx w M=>rfl)⟩
end Go.Proofs.YtbpedjpoikmbjaaGreatDoor
