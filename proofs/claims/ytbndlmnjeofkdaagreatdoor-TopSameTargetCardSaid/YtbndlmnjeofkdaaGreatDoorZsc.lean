/- The cells of values. Printed by a program. -/
import Derived.Test.YtbndlmnjeofkdaaGreatDoorZsm
import Derived.Test.YtbndlmnjeofkdaaGreatDoorTy
import Derived.Test.YtbndlmnjeofkdaaGreatDoorShelf
import Derived.Test.YtbndlmnjeofkdaaGreatDoorLibK
import Derived.Test.YtbndlmnjeofkdaaGreatDoorTu
import Derived.Test.YtbndlmnjeofkdaaGreatDoorDr
import Derived.Test.YtbndlmnjeofkdaaGreatDoorErr
import Derived.Test.YtbndlmnjeofkdaaGreatDoorMk
import Derived.Test.YtbndlmnjeofkdaaGreatDoorBlS
import Derived.Test.YtbndlmnjeofkdaaGreatDoorArr
namespace Go.Proofs.YtbndlmnjeofkdaaGreatDoor
open Go.RowKit
set_option linter.unusedVariables false
set_option maxRecDepth 20000
abbrev qk (x:Int):List V:=[vint x]
abbrev qa (x:zn):List V:=[vlst (List.map qk x.L),vint x.at_]
abbrev yh (x:zo):List V:=[vstr x.Name,vstr x.Value]
abbrev we (x:zu):List V:=[vint x.At,vstr x.Method,vstr x.Host,vstr x.Path,vstr x.Query,vstr x.From,vlst (List.map yh x.Headers),vstr x.Body]
abbrev zq (x:Bs):List V:=[vstr x]
abbrev qc (x:Int):List V:=[vval (.int .u8 x)]
abbrev qi (x:zj):List V:=[vstr x.Name,vstr x.Value]
abbrev ki (x:vj):List V:=[vstr x.Key,vint x.Weight]
abbrev ku (x:ym):List V:=[vint x.Status,vlst (List.map yh x.Headers),vstr x.Body]
abbrev jp (x:yp):List V:=[zh x.NoStore,zh x.NoCache,zh x.Private,zh x.Public,zh x.Must,zh x.Only,vint x.MaxAge,vint x.Shared,vint x.Stale,vint x.OnError,vint x.MaxStale,vint x.MinFresh]
abbrev uc (x:qo):List V:=[vint x.Request.At,vstr x.Request.Method,vstr x.Request.Host,vstr x.Request.Path,vstr x.Request.Query,vstr x.Request.From,vlst (List.map yh x.Request.Headers),vstr x.Request.Body,vint x.Response.Status,vlst (List.map yh x.Response.Headers),vstr x.Response.Body,vint x.At,vlst (List.map zq x.Tags),vint x.Used]
abbrev x3h (x:(List Bs)):List V:=[vlst (List.map zq x)]
abbrev x3g (x:Int):List V:=[vint x]
theorem x6v {c c2:yp} {x:Int} {y:Bool} (h:y1l x=true) (hc:some (y2p c x y)=some c2):x.toNat < (List.map Slot.dat (jp c)).length∧(List.map Slot.dat (jp c)).set x.toNat (.dat (zh y))=List.map Slot.dat (jp c2):=by
 cases hc
 unfold y1l at h
 simp only [Bool.or_eq_true,decide_eq_true_eq] at h
 rcases h with ((((rfl | rfl) | rfl) | rfl) | rfl) | rfl <;> exact ⟨of_decide_eq_true rfl,rfl⟩
theorem x06 {c:yp} {x:Int} (h:Yd x=true):(List.map Slot.dat (jp c))[x.toNat]?=some (.dat (vint (Qg c x))):=by
 unfold Yd at h
 simp only [Bool.or_eq_true,decide_eq_true_eq] at h
 rcases h with ((((rfl | rfl) | rfl) | rfl) | rfl) | rfl <;> rfl
theorem y75 {c c2:yp} {x:Int} {y:Int} (h:Yd x=true) (hc:some (z88 c x y)=some c2):x.toNat < (List.map Slot.dat (jp c)).length∧(List.map Slot.dat (jp c)).set x.toNat (.dat (vint y))=List.map Slot.dat (jp c2):=by
 cases hc
 unfold Yd at h
 simp only [Bool.or_eq_true,decide_eq_true_eq] at h
 rcases h with ((((rfl | rfl) | rfl) | rfl) | rfl) | rfl <;> exact ⟨of_decide_eq_true rfl,rfl⟩
end Go.Proofs.YtbndlmnjeofkdaaGreatDoor
