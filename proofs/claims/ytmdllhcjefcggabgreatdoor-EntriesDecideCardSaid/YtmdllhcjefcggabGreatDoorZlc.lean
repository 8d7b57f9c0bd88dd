/- The cells of values. Printed by a program. -/
import Derived.Test.YtmdllhcjefcggabGreatDoorZlm
import Derived.Test.YtmdllhcjefcggabGreatDoorTy
import Derived.Test.YtmdllhcjefcggabGreatDoorShelf
import Derived.Test.YtmdllhcjefcggabGreatDoorLibK
import Derived.Test.YtmdllhcjefcggabGreatDoorRng
import Derived.Shelf.Abstract
import Derived.Test.YtmdllhcjefcggabGreatDoorTu
import Derived.Test.YtmdllhcjefcggabGreatDoorDr
import Derived.Test.YtmdllhcjefcggabGreatDoorErr
import Derived.Test.YtmdllhcjefcggabGreatDoorMk
import Derived.Test.YtmdllhcjefcggabGreatDoorBlS
import Derived.Test.YtmdllhcjefcggabGreatDoorArr
namespace Go.Proofs.YtmdllhcjefcggabGreatDoor
open Go.RowKit
set_option linter.unusedVariables false
set_option maxRecDepth 20000
abbrev wa (x:Int):List V:=[vint x]
abbrev qo (x:zt):List V:=[vlst (List.map wa x.L),vint x.at_]
abbrev yb (x:zn):List V:=[vstr x.Name,vstr x.Value]
abbrev qx (x:zz):List V:=[vint x.At,vstr x.Method,vstr x.Host,vstr x.Path,vstr x.Query,vstr x.From,vlst (List.map yb x.Headers),vstr x.Body]
abbrev Zj (x:qc):List V:=[vint x.Status,vlst (List.map yb x.Headers),vstr x.Body]
abbrev zr (x:Bs):List V:=[vstr x]
abbrev xr (x:qr):List V:=[vint x.Request.At,vstr x.Request.Method,vstr x.Request.Host,vstr x.Request.Path,vstr x.Request.Query,vstr x.Request.From,vlst (List.map yb x.Request.Headers),vstr x.Request.Body,vint x.Response.Status,vlst (List.map yb x.Response.Headers),vstr x.Response.Body,vint x.At,vlst (List.map zr x.Tags),vint x.Used]
abbrev x5e (x:(List Bs)):List V:=[vlst (List.map zr x)]
abbrev ql (x:Int):List V:=[vval (.int .u8 x)]
abbrev vg (x:zy):List V:=[ze x.NoStore,ze x.NoCache,ze x.Private,ze x.Public,ze x.Must,ze x.Only,vint x.MaxAge,vint x.Shared,vint x.Stale,vint x.OnError,vint x.MaxStale,vint x.MinFresh]
abbrev yr (x:zo):List V:=[vstr x.Name,vstr x.Value]
abbrev z94 (x:Int):List V:=[vint x]
abbrev xq (x:wl):List V:=[vval (.int .u8 x.c_),ze x.plain_]
theorem y90 {c c2:zy} {x:Int} {y:Bool} (h:z90 x=true) (hc:some (ku c x y)=some c2):x.toNat < (List.map Slot.dat (vg c)).length∧(List.map Slot.dat (vg c)).set x.toNat (.dat (ze y))=List.map Slot.dat (vg c2):=by
 cases hc
 unfold z90 at h
 simp only [Bool.or_eq_true,decide_eq_true_eq] at h
 rcases h with ((((rfl | rfl) | rfl) | rfl) | rfl) | rfl <;> exact ⟨of_decide_eq_true rfl,rfl⟩
theorem y3d {c:zy} {x:Int} (h:xb x=true):(List.map Slot.dat (vg c))[x.toNat]?=some (.dat (vint (vx c x))):=by
 unfold xb at h
 simp only [Bool.or_eq_true,decide_eq_true_eq] at h
 rcases h with ((((rfl | rfl) | rfl) | rfl) | rfl) | rfl <;> rfl
theorem y08 {c c2:zy} {x:Int} {y:Int} (h:xb x=true) (hc:some (xh c x y)=some c2):x.toNat < (List.map Slot.dat (vg c)).length∧(List.map Slot.dat (vg c)).set x.toNat (.dat (vint y))=List.map Slot.dat (vg c2):=by
 cases hc
 unfold xb at h
 simp only [Bool.or_eq_true,decide_eq_true_eq] at h
 rcases h with ((((rfl | rfl) | rfl) | rfl) | rfl) | rfl <;> exact ⟨of_decide_eq_true rfl,rfl⟩
end Go.Proofs.YtmdllhcjefcggabGreatDoor
