/- The cells of values. Printed by a program. -/
import Derived.Test.YtmdllhcjefcggacGreatDoorZmm
import Derived.Test.YtmdllhcjefcggacGreatDoorTy
import Derived.Test.YtmdllhcjefcggacGreatDoorShelf
import Derived.Test.YtmdllhcjefcggacGreatDoorLibK
import Derived.Test.YtmdllhcjefcggacGreatDoorRng
import Derived.Shelf.Abstract
import Derived.Test.YtmdllhcjefcggacGreatDoorTu
import Derived.Test.YtmdllhcjefcggacGreatDoorDr
import Derived.Test.YtmdllhcjefcggacGreatDoorErr
import Derived.Test.YtmdllhcjefcggacGreatDoorMk
import Derived.Test.YtmdllhcjefcggacGreatDoorBlS
import Derived.Test.YtmdllhcjefcggacGreatDoorArr
namespace Go.Proofs.YtmdllhcjefcggacGreatDoor
open Go.RowKit
set_option linter.unusedVariables false
set_option maxRecDepth 20000
abbrev qw (x:Int):List V:=[vint x]
abbrev qt (x:zr):List V:=[vlst (List.map qw x.L),vint x.at_]
abbrev yd (x:zt):List V:=[vstr x.Name,vstr x.Value]
abbrev qs (x:zw):List V:=[vint x.At,vstr x.Method,vstr x.Host,vstr x.Path,vstr x.Query,vstr x.From,vlst (List.map yd x.Headers),vstr x.Body]
abbrev Zg (x:yu):List V:=[vint x.Status,vlst (List.map yd x.Headers),vstr x.Body]
abbrev zp (x:Bs):List V:=[vstr x]
abbrev qy (x:yc):List V:=[vint x.Request.At,vstr x.Request.Method,vstr x.Request.Host,vstr x.Request.Path,vstr x.Request.Query,vstr x.Request.From,vlst (List.map yd x.Request.Headers),vstr x.Request.Body,vint x.Response.Status,vlst (List.map yd x.Response.Headers),vstr x.Response.Body,vint x.At,vlst (List.map zp x.Tags),vint x.Used]
abbrev x42 (x:(List Bs)):List V:=[vlst (List.map zp x)]
abbrev qn (x:Int):List V:=[vval (.int .u8 x)]
abbrev yw (x:zo):List V:=[vstr x.Name,vstr x.Value]
abbrev z0f (x:Int):List V:=[vint x]
abbrev xp (x:wm):List V:=[vval (.int .u8 x.c_),zh x.plain_]
abbrev kg (x:qh):List V:=[zh x.NoStore,zh x.NoCache,zh x.Private,zh x.Public,zh x.Must,zh x.Only,vint x.MaxAge,vint x.Shared,vint x.Stale,vint x.OnError,vint x.MaxStale,vint x.MinFresh]
theorem x7v {c c2:qh} {x:Int} {y:Bool} (h:y3n x=true) (hc:some (y4n c x y)=some c2):x.toNat < (List.map Slot.dat (kg c)).length∧(List.map Slot.dat (kg c)).set x.toNat (.dat (zh y))=List.map Slot.dat (kg c2):=by
 cases hc
 unfold y3n at h
 simp only [Bool.or_eq_true,decide_eq_true_eq] at h
 rcases h with ((((rfl | rfl) | rfl) | rfl) | rfl) | rfl <;> exact ⟨of_decide_eq_true rfl,rfl⟩
theorem x3b {c:qh} {x:Int} (h:Qi x=true):(List.map Slot.dat (kg c))[x.toNat]?=some (.dat (vint (Wx c x))):=by
 unfold Qi at h
 simp only [Bool.or_eq_true,decide_eq_true_eq] at h
 rcases h with ((((rfl | rfl) | rfl) | rfl) | rfl) | rfl <;> rfl
theorem y9t {c c2:qh} {x:Int} {y:Int} (h:Qi x=true) (hc:some (y00 c x y)=some c2):x.toNat < (List.map Slot.dat (kg c)).length∧(List.map Slot.dat (kg c)).set x.toNat (.dat (vint y))=List.map Slot.dat (kg c2):=by
 cases hc
 unfold Qi at h
 simp only [Bool.or_eq_true,decide_eq_true_eq] at h
 rcases h with ((((rfl | rfl) | rfl) | rfl) | rfl) | rfl <;> exact ⟨of_decide_eq_true rfl,rfl⟩
end Go.Proofs.YtmdllhcjefcggacGreatDoor
