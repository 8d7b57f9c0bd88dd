/- The cells of values. Printed by a program. -/
import Derived.Test.YtahcnngcpjkpgabGreatDoorZwm
import Derived.Test.YtahcnngcpjkpgabGreatDoorTy
import Derived.Test.YtahcnngcpjkpgabGreatDoorShelf
import Derived.Test.YtahcnngcpjkpgabGreatDoorLibK
import Derived.Test.YtahcnngcpjkpgabGreatDoorTu
import Derived.Test.YtahcnngcpjkpgabGreatDoorDr
import Derived.Test.YtahcnngcpjkpgabGreatDoorErr
import Derived.Shelf.Strings.SlTrimAscii
import Derived.Test.YtahcnngcpjkpgabGreatDoorMk
import Derived.Test.YtahcnngcpjkpgabGreatDoorBlS
import Derived.Test.YtahcnngcpjkpgabGreatDoorArr
namespace Go.Proofs.YtahcnngcpjkpgabGreatDoor
open Go.RowKit
set_option linter.unusedVariables false
set_option maxRecDepth 20000
abbrev qx (x:Int):List V:=[vint x]
abbrev wg (x:zu):List V:=[vlst (List.map qx x.L),vint x.at_]
abbrev zy (x:zg):List V:=[vstr x.Name,vstr x.Value]
abbrev qf (x:yb):List V:=[vint x.Status,vlst (List.map zy x.Headers),vstr x.Body]
abbrev zx (x:Bs):List V:=[vstr x]
abbrev qq (x:zw):List V:=[vint x.At,vstr x.Method,vstr x.Host,vstr x.Path,vstr x.Query,vstr x.From,vlst (List.map zy x.Headers),vstr x.Body]
abbrev yw (x:Int):List V:=[vval (.int .u8 x)]
abbrev z7h (x:jc):List V:=[vstr x.first_,vlst (List.map zy x.headers_),vint x.at_]
abbrev qz (x:zp):List V:=[vstr x.Name,vstr x.Value]
abbrev uv (x:jd):List V:=[vstr x.Key,vint x.Weight]
abbrev ko (x:yh):List V:=[zi x.NoStore,zi x.NoCache,zi x.Private,zi x.Public,zi x.Must,zi x.Only,vint x.MaxAge,vint x.Shared,vint x.Stale,vint x.OnError,vint x.MaxStale,vint x.MinFresh]
abbrev x9m (x:uj):List V:=[vint x.Request.At,vstr x.Request.Method,vstr x.Request.Host,vstr x.Request.Path,vstr x.Request.Query,vstr x.Request.From,vlst (List.map zy x.Request.Headers),vstr x.Request.Body,vint x.Response.Status,vlst (List.map zy x.Response.Headers),vstr x.Response.Body,vint x.At,vlst (List.map zx x.Tags),vint x.Used]
abbrev y5a (x:wx):List V:=[vint x.Entry.Request.At,vstr x.Entry.Request.Method,vstr x.Entry.Request.Host,vstr x.Entry.Request.Path,vstr x.Entry.Request.Query,vstr x.Entry.Request.From,vlst (List.map zy x.Entry.Request.Headers),vstr x.Entry.Request.Body,vint x.Entry.Response.Status,vlst (List.map zy x.Entry.Response.Headers),vstr x.Entry.Response.Body,vint x.Entry.At,vlst (List.map zx x.Entry.Tags),vint x.Entry.Used,vint x.own_.At,vstr x.own_.Method,vstr x.own_.Host,vstr x.own_.Path,vstr x.own_.Query,vstr x.own_.From,vlst (List.map zy x.own_.Headers),vstr x.own_.Body]
theorem w2s {c c2:yh} {x:Int} {y:Bool} (h:y0v x=true) (hc:some (um c x y)=some c2):x.toNat < (List.map Slot.dat (ko c)).length∧(List.map Slot.dat (ko c)).set x.toNat (.dat (zi y))=List.map Slot.dat (ko c2):=by
 cases hc
 unfold y0v at h
 simp only [Bool.or_eq_true,decide_eq_true_eq] at h
 rcases h with ((((rfl | rfl) | rfl) | rfl) | rfl) | rfl <;> exact ⟨of_decide_eq_true rfl,rfl⟩
theorem x69 {c:yh} {x:Int} (h:xn x=true):(List.map Slot.dat (ko c))[x.toNat]?=some (.dat (vint (jz c x))):=by
 unfold xn at h
 simp only [Bool.or_eq_true,decide_eq_true_eq] at h
 rcases h with ((((rfl | rfl) | rfl) | rfl) | rfl) | rfl <;> rfl
theorem x28 {c c2:yh} {x:Int} {y:Int} (h:xn x=true) (hc:some (xw c x y)=some c2):x.toNat < (List.map Slot.dat (ko c)).length∧(List.map Slot.dat (ko c)).set x.toNat (.dat (vint y))=List.map Slot.dat (ko c2):=by
 cases hc
 unfold xn at h
 simp only [Bool.or_eq_true,decide_eq_true_eq] at h
 rcases h with ((((rfl | rfl) | rfl) | rfl) | rfl) | rfl <;> exact ⟨of_decide_eq_true rfl,rfl⟩
end Go.Proofs.YtahcnngcpjkpgabGreatDoor
