/- The cells of values. Printed by a program. -/
import Derived.Test.YtkldmhhbbceaoabGreatDoorZrm
import Derived.Test.YtkldmhhbbceaoabGreatDoorTy
import Derived.Test.YtkldmhhbbceaoabGreatDoorShelf
import Derived.Test.YtkldmhhbbceaoabGreatDoorLibK
import Derived.Test.YtkldmhhbbceaoabGreatDoorTu
import Derived.Test.YtkldmhhbbceaoabGreatDoorDr
import Derived.Test.YtkldmhhbbceaoabGreatDoorErr
import Derived.Test.YtkldmhhbbceaoabGreatDoorMk
import Derived.Test.YtkldmhhbbceaoabGreatDoorArr
namespace Go.Proofs.YtkldmhhbbceaoabGreatDoor
open Go.RowKit
set_option linter.unusedVariables false
set_option maxRecDepth 20000
abbrev qm (x:Int):List V:=[vint x]
abbrev yx (x:zn):List V:=[vlst (List.map qm x.L),vint x.at_]
abbrev zq (x:zd):List V:=[vstr x.Name,vstr x.Value]
abbrev wl (x:ya):List V:=[vint x.At,vstr x.Method,vstr x.Host,vstr x.Path,vstr x.Query,vstr x.From,vlst (List.map zq x.Headers),vstr x.Body]
abbrev vt (x:zx):List V:=[vint x.Status,vlst (List.map zq x.Headers),vstr x.Body]
abbrev zt (x:Bs):List V:=[vstr x]
abbrev yy (x:zy):List V:=[vint x.Request.At,vstr x.Request.Method,vstr x.Request.Host,vstr x.Request.Path,vstr x.Request.Query,vstr x.Request.From,vlst (List.map zq x.Request.Headers),vstr x.Request.Body,vint x.Response.Status,vlst (List.map zq x.Response.Headers),vstr x.Response.Body,vint x.At,vlst (List.map zt x.Tags),vint x.Used]
abbrev y61 (x:(List Bs)):List V:=[vlst (List.map zt x)]
abbrev z0j (x:Int):List V:=[vval (.int .u8 x)]
abbrev z5m (x:Int):List V:=[vint x]
abbrev jk (x:yn):List V:=[zj x.NoStore,zj x.NoCache,zj x.Private,zj x.Public,zj x.Must,zj x.Only,vint x.MaxAge,vint x.Shared,vint x.Stale,vint x.OnError,vint x.MaxStale,vint x.MinFresh]
theorem y9b {c c2:yn} {x:Int} {y:Bool} (h:z8g x=true) (hc:some (z81 c x y)=some c2):x.toNat < (List.map Slot.dat (jk c)).length∧(List.map Slot.dat (jk c)).set x.toNat (.dat (zj y))=List.map Slot.dat (jk c2):=by
 cases hc
 unfold z8g at h
 simp only [Bool.or_eq_true,decide_eq_true_eq] at h
 rcases h with ((((rfl | rfl) | rfl) | rfl) | rfl) | rfl <;> exact ⟨of_decide_eq_true rfl,rfl⟩
theorem y5o {c:yn} {x:Int} (h:xw x=true):(List.map Slot.dat (jk c))[x.toNat]?=some (.dat (vint (Zu c x))):=by
 unfold xw at h
 simp only [Bool.or_eq_true,decide_eq_true_eq] at h
 rcases h with ((((rfl | rfl) | rfl) | rfl) | rfl) | rfl <;> rfl
theorem y24 {c c2:yn} {x:Int} {y:Int} (h:xw x=true) (hc:some (z6g c x y)=some c2):x.toNat < (List.map Slot.dat (jk c)).length∧(List.map Slot.dat (jk c)).set x.toNat (.dat (vint y))=List.map Slot.dat (jk c2):=by
 cases hc
 unfold xw at h
 simp only [Bool.or_eq_true,decide_eq_true_eq] at h
 rcases h with ((((rfl | rfl) | rfl) | rfl) | rfl) | rfl <;> exact ⟨of_decide_eq_true rfl,rfl⟩
end Go.Proofs.YtkldmhhbbceaoabGreatDoor
