/- The cells of values. Printed by a program. -/
import Derived.Test.YtbndlmnjeofkdadGreatDoorZum
import Derived.Test.YtbndlmnjeofkdadGreatDoorTy
import Derived.Test.YtbndlmnjeofkdadGreatDoorShelf
import Derived.Test.YtbndlmnjeofkdadGreatDoorLibK
import Derived.Test.YtbndlmnjeofkdadGreatDoorRng
import Derived.Shelf.Abstract
import Derived.Test.YtbndlmnjeofkdadGreatDoorDr
import Derived.Test.YtbndlmnjeofkdadGreatDoorErr
import Derived.Shelf.Strings.SlTrimAscii
import Derived.Test.YtbndlmnjeofkdadGreatDoorMk
import Derived.Test.YtbndlmnjeofkdadGreatDoorBlS
import Derived.Test.YtbndlmnjeofkdadGreatDoorArr
namespace Go.Proofs.YtbndlmnjeofkdadGreatDoor
open Go.RowKit
set_option linter.unusedVariables false
set_option maxRecDepth 20000
abbrev uu (x:Int):List V:=[vint x]
abbrev jg (x:qq):List V:=[vlst (List.map uu x.L),vint x.at_]
abbrev zn (x:Bs):List V:=[vstr x]
abbrev yn (x:zm):List V:=[vstr x.Id,vstr x.Subject,vstr x.Issuer,vstr x.Parent,vlst (List.map zn x.Audience),vlst (List.map zn x.Scopes),vint x.From,vint x.To]
abbrev y0t (x:(List Bs)):List V:=[vlst (List.map zn x)]
abbrev wm (x:yh):List V:=[vstr x.Id,vstr x.Secret,vint x.From,vint x.To,vint x.Until]
abbrev jn (x:qs):List V:=[vstr x.Id,vint x.At,vint x.Until]
abbrev uf (x:vp):List V:=[vstr x.App,vstr x.Sum,vlst (List.map zn x.Scopes),vint x.From,vint x.To]
abbrev z3a (x:vg):List V:=[vstr x.Issuer,vstr x.Audience,vlst (List.map wm x.Signers),vlst (List.map jn x.Revoked),vlst (List.map uf x.Holders),vint x.Skew]
abbrev x1k (x:jm):List V:=[vint x.From,vint x.To]
abbrev yy (x:Int):List V:=[vval (.int .u8 x)]
abbrev jy (x:vo):List V:=[vstr x.Key,vint x.Weight]
abbrev jq (x:yj):List V:=[vstr x.Name,vstr x.Value]
abbrev y0s (x:kl):List V:=[vint x.Status,vlst (List.map jq x.Headers),vstr x.Body]
abbrev jr (x:yr):List V:=[zf x.NoStore,zf x.NoCache,zf x.Private,zf x.Public,zf x.Must,zf x.Only,vint x.MaxAge,vint x.Shared,vint x.Stale,vint x.OnError,vint x.MaxStale,vint x.MinFresh]
abbrev wn (x:qg):List V:=[vint x.By,vstr x.Name,vlst (List.map zn x.Scopes)]
abbrev y5i (x:ud):List V:=[vint x.At,vstr x.Method,vstr x.Host,vstr x.Path,vstr x.Query,vstr x.From,vlst (List.map jq x.Headers),vstr x.Body]
abbrev xp (x:yl):List V:=[vlst (List.map zn x.lines_),zf x.ended_,vint x.at_,zf x.bad_]
theorem x5g {c c2:yr} {x:Int} {y:Bool} (h:y0o x=true) (hc:some (y18 c x y)=some c2):x.toNat < (List.map Slot.dat (jr c)).length∧(List.map Slot.dat (jr c)).set x.toNat (.dat (zf y))=List.map Slot.dat (jr c2):=by
 cases hc
 unfold y0o at h
 simp only [Bool.or_eq_true,decide_eq_true_eq] at h
 rcases h with ((((rfl | rfl) | rfl) | rfl) | rfl) | rfl <;> exact ⟨of_decide_eq_true rfl,rfl⟩
theorem y91 {c:yr} {x:Int} (h:Zq x=true):(List.map Slot.dat (jr c))[x.toNat]?=some (.dat (vint (Yx c x))):=by
 unfold Zq at h
 simp only [Bool.or_eq_true,decide_eq_true_eq] at h
 rcases h with ((((rfl | rfl) | rfl) | rfl) | rfl) | rfl <;> rfl
theorem y66 {c c2:yr} {x:Int} {y:Int} (h:Zq x=true) (hc:some (z8e c x y)=some c2):x.toNat < (List.map Slot.dat (jr c)).length∧(List.map Slot.dat (jr c)).set x.toNat (.dat (vint y))=List.map Slot.dat (jr c2):=by
 cases hc
 unfold Zq at h
 simp only [Bool.or_eq_true,decide_eq_true_eq] at h
 rcases h with ((((rfl | rfl) | rfl) | rfl) | rfl) | rfl <;> exact ⟨of_decide_eq_true rfl,rfl⟩
end Go.Proofs.YtbndlmnjeofkdadGreatDoor
