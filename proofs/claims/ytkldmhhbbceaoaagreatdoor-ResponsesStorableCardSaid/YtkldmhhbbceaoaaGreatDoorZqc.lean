/- The cells of values. Printed by a program. -/
import Derived.Test.YtkldmhhbbceaoaaGreatDoorZqm
import Derived.Test.YtkldmhhbbceaoaaGreatDoorTy
import Derived.Test.YtkldmhhbbceaoaaGreatDoorShelf
import Derived.Test.YtkldmhhbbceaoaaGreatDoorLibK
import Derived.Test.YtkldmhhbbceaoaaGreatDoorDr
import Derived.Test.YtkldmhhbbceaoaaGreatDoorErr
import Derived.Test.YtkldmhhbbceaoaaGreatDoorMk
import Derived.Test.YtkldmhhbbceaoaaGreatDoorArr
namespace Go.Proofs.YtkldmhhbbceaoaaGreatDoor
open Go.RowKit
set_option linter.unusedVariables false
set_option maxRecDepth 20000
abbrev yq (x:Int):List V:=[vint x]
abbrev yl (x:zh):List V:=[vlst (List.map yq x.L),vint x.at_]
abbrev yg (x:zm):List V:=[vstr x.Name,vstr x.Value]
abbrev jk (x:yv):List V:=[vint x.At,vstr x.Method,vstr x.Host,vstr x.Path,vstr x.Query,vstr x.From,vlst (List.map yg x.Headers),vstr x.Body]
abbrev zo (x:Bs):List V:=[vstr x]
abbrev wt (x:ya):List V:=[vint x.Status,vlst (List.map yg x.Headers),vstr x.Body]
abbrev Wb (x:Int):List V:=[vval (.int .u8 x)]
abbrev wd (x:zv):List V:=[ze x.NoStore,ze x.NoCache,ze x.Private,ze x.Public,ze x.Must,ze x.Only,vint x.MaxAge,vint x.Shared,vint x.Stale,vint x.OnError,vint x.MaxStale,vint x.MinFresh]
abbrev y0g (x:Int):List V:=[vint x]
theorem y1t {c c2:zv} {x:Int} {y:Bool} (h:z4g x=true) (hc:some (jd c x y)=some c2):x.toNat < (List.map Slot.dat (wd c)).length∧(List.map Slot.dat (wd c)).set x.toNat (.dat (ze y))=List.map Slot.dat (wd c2):=by
 cases hc
 unfold z4g at h
 simp only [Bool.or_eq_true,decide_eq_true_eq] at h
 rcases h with ((((rfl | rfl) | rfl) | rfl) | rfl) | rfl <;> exact ⟨of_decide_eq_true rfl,rfl⟩
theorem z65 {c:zv} {x:Int} (h:jy x=true):(List.map Slot.dat (wd c))[x.toNat]?=some (.dat (vint (wg c x))):=by
 unfold jy at h
 simp only [Bool.or_eq_true,decide_eq_true_eq] at h
 rcases h with ((((rfl | rfl) | rfl) | rfl) | rfl) | rfl <;> rfl
theorem z5d {c c2:zv} {x:Int} {y:Int} (h:jy x=true) (hc:some (ke c x y)=some c2):x.toNat < (List.map Slot.dat (wd c)).length∧(List.map Slot.dat (wd c)).set x.toNat (.dat (vint y))=List.map Slot.dat (wd c2):=by
 cases hc
 unfold jy at h
 simp only [Bool.or_eq_true,decide_eq_true_eq] at h
 rcases h with ((((rfl | rfl) | rfl) | rfl) | rfl) | rfl <;> exact ⟨of_decide_eq_true rfl,rfl⟩
end Go.Proofs.YtkldmhhbbceaoaaGreatDoor
