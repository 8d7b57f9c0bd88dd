/- The cells of values. Printed by a program. -/
import Derived.Test.YtnnfdgngnoamoaaGreatDoorXbm
import Derived.Test.YtnnfdgngnoamoaaGreatDoorTy
import Derived.Test.YtnnfdgngnoamoaaGreatDoorShelf
import Derived.Test.YtnnfdgngnoamoaaGreatDoorLibK
import Derived.Test.YtnnfdgngnoamoaaGreatDoorRng
import Derived.Shelf.Abstract
import Derived.Test.YtnnfdgngnoamoaaGreatDoorTu
import Derived.Test.YtnnfdgngnoamoaaGreatDoorMg
import Derived.Test.YtnnfdgngnoamoaaGreatDoorAg
import Derived.Test.YtnnfdgngnoamoaaGreatDoorOw
import Derived.Test.YtnnfdgngnoamoaaGreatDoorSub
import Derived.Test.YtnnfdgngnoamoaaGreatDoorDr
import Derived.Test.YtnnfdgngnoamoaaGreatDoorDw
import Derived.Test.YtnnfdgngnoamoaaGreatDoorMk
import Derived.Test.YtnnfdgngnoamoaaGreatDoorArr
namespace Go.Proofs.YtnnfdgngnoamoaaGreatDoor
open Go.RowKit
set_option linter.unusedVariables false
set_option maxRecDepth 20000
abbrev qq (x:zw):List V:=[vint x.State,vstr x.Plan,vint x.Since,vint x.First]
abbrev yr (x:Bs):List V:=[vstr x]
abbrev yt (x:yh):List V:=[vstr x.Key,vlst (List.map yr x.Scopes)]
abbrev wd (x:yp):List V:=[vint x.From,vint x.Cents]
abbrev ym (x:ya):List V:=[vstr x.Key,vstr x.Product,vint x.Base,vint x.Free,vlst (List.map wd x.Tiers),vint x.Limit,vint x.Trial,zr x.Asked]
abbrev yy (x:zx):List V:=[vlst (List.map yt x.Products),vlst (List.map ym x.Plans)]
abbrev yi (x:zk):List V:=[vint x.At,vstr x.App,vstr x.Product,vint x.Kind,vstr x.Plan]
abbrev vz (x:qp):List V:=[vint x.on_.State,vstr x.on_.Plan,vint x.on_.Since,vint x.on_.First,vint x.last_.State,vstr x.last_.Plan,vint x.last_.Since,vint x.last_.First]
abbrev we (x:zu):List V:=[vstr x.app_,vstr x.product_]
abbrev wh (x:yx):List V:=[vstr x.App,vstr x.Product,vstr x.What,vint x.Calls,vint x.Cents]
abbrev wn (x:zz):List V:=[vstr x.App,vstr x.Product,vint x.Month,vint x.Calls]
abbrev yk (x:zy):List V:=[vstr x.Key,vstr x.Owner]
abbrev qn (x:Int):List V:=[vint x]
abbrev wg (x:zm):List V:=[vstr x.Owner,vint x.Month,vlst (List.map wh x.Lines),vint x.Cents]
abbrev qz (x:zt):List V:=[vlst (List.map qn x.L),vint x.at_]
abbrev y9x (x:Int):List V:=[vint x]
noncomputable abbrev uw:MT zz Int:=⟨fun x=>vagg (wn x),fun x => .agg ([.string ⟨x.App.toArray⟩,.string ⟨x.Product.toArray⟩,.int .i64 x.Month,.int .i64 x.Calls]:List Value).toArray,fun x=>x.App.length≤1000000000∧x.Product.length≤1000000000∧(-9223372036854775808≤x.Month∧x.Month≤9223372036854775807)∧(-9223372036854775808≤x.Calls∧x.Calls≤9223372036854775807),fun x=>vint x,fun x => .int .i64 x,0⟩
theorem y4x:TyG Tryz.prog 70 64 3 uw:=
 ⟨by kernel_rfl,x3g (by kernel_rfl) (by kernel_rfl) (by kernel_rfl) (by kernel_rfl) (by kernel_rfl),fun x hk=>x3e (P:=Tryz.prog) (k:=64) (n:=276) (by kernel_rfl) (by kernel_rfl) (by kernel_rfl) (by kernel_rfl) (by kernel_rfl) (os:=[(0,9),(1,9),(2,3),(3,3)]) (by kernel_rfl) ⟨rfl,by kernel_rfl,.inl ⟨by kernel_rfl,_,rfl,z3u hk.1⟩,rfl,by kernel_rfl,.inl ⟨by kernel_rfl,_,rfl,z3u hk.2.1⟩,rfl,by kernel_rfl,.inr ⟨by kernel_rfl,_,rfl,hk.2.2.1⟩,rfl,by kernel_rfl,.inr ⟨by kernel_rfl,_,rfl,hk.2.2.2⟩,trivial⟩,fun w=>by kernel_rfl,(fun a b h=>by cases a; cases b; simp at h ⊢; exact h),(fun x w M v h=>y9r rfl h),(fun x w M v h=>h),(fun x w M=>rfl),(fun x w M=>y9q rfl rfl w M)⟩
end Go.Proofs.YtnnfdgngnoamoaaGreatDoor
