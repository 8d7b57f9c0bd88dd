/- A day of calls: what is turned, lent as data. -/
import Derived.Test.YtgdijjmdfcgifaaGreatXdh3
namespace Go.Proofs.YtgdijjmdfcgifaaGreat
open Go.RowKit Go.ChangeMaps Go.MapKept
set_option linter.unusedVariables false
set_option maxRecDepth 100000
section
variable {P:Program} {f:Nat→Slot} {dst:Option Tmp} {op:Op} {ty:TypeId} {pos:String} {af:Array Edge} {s:Slot} {ops:Array Oper} {os:List Oper} {own:Own} {lg:List (List Nat×List Nat)} {K:(Nat→Slot)→Own→List (List Nat×List Nat)→Prop}
theorem z3c {rd:List (Nat×AObj)} (hst:Stp P ⟨dst,op,ty,pos,af,none⟩ f ⟨false,rd.map (fun p=>(p.1,some (some p.2))),[],s⟩) (hrd:subO own rd) (h:seqA P ops os (updS f dst s) own ((rd.map (·.1),[])::lg) K):seqA P ops (⟨dst,op,ty,pos,af,none⟩::os) f own lg K:=
 ⟨⟨false,rd.map (fun p=>(p.1,some (some p.2))),[],s⟩,⟨rfl,fun _=>⟨hst,fun q hq=>by
  obtain ⟨p,hp,rfl⟩:=List.mem_map.1 hq
  exact ua.1 hrd p hp⟩,fun h=>(by cases h),fun k hk=>(by cases hk)⟩,by
  have e1:keys (rd.map fun p=>(p.1,some (some p.2)))=rd.map (·.1):=by unfold keys; rw [List.map_map]; rfl
  show seqA P ops os _ _ ((keys (rd.map fun p=>(p.1,some (some p.2))),keys [])::lg) K
  rw [e1]; exact h⟩
end
theorem z25 {w:World} {M:Blks}:Ts w M [] []:=⟨rfl,fun j u h=>by simp at h⟩
theorem xz {w:World} {M:Blks} {u:V} {us:List V} {v:Value} {l:List Value} (h1:u.p w M v) (h2:Ts w M us l):Ts w M (u::us) (v::l):=
 ⟨congrArg (· + 1) h2.1,fun j u' hj=>by
  cases j with
  | zero=>cases hj; exact ⟨v,rfl,h1⟩
  | succ j=>exact h2.2 j u' hj⟩
def y48 (g:Gh) (w:World) (M M0:Blks):List Slot→List V→Prop
 | [],[]=>True
 | s::cs,u::us=>(∀ x,RepS g w M s x→u.p w M0 x)∧y48 g w M M0 cs us
 | _,_=>False
theorem y8z {g:Gh} {w:World} {M M0:Blks}:∀ {cs:List Slot} {us:List V},y48 g w M M0 cs us→cs.length=us.length∧∀ (j:Nat) (s:Slot) (u:V),cs[j]?=some s→us[j]?=some u→∀ x,RepS g w M s x→u.p w M0 x
 | [],[],_=>⟨rfl,fun j s u h=>by simp at h⟩
 | s::cs,u::us,h=>by
  obtain ⟨h1,h2⟩:=y8z h.2
  refine ⟨by simp [h1],fun j s' u' hs hu => ?_⟩
  cases j with
  | zero=>cases hs; cases hu; exact h.1
  | succ j=>exact h2 j s' u' hs hu
 | [],_::_,h=>h.elim
 | _::_,[],h=>h.elim
theorem y0j {g:Gh} {w:World} {M M0:Blks} {id b:Nat} {t:TypeId} {cs:List Slot} {us:List V} (h:RepO g w M id (.box (some b) t cs)) (hm:∀ b',obk g id (.box (some b) t cs)=some b'→¬ M0 b') (hc:y48 g w M M0 cs us):(zx [us] 0 0).p w M0 (PB b):=by
 obtain ⟨h1,h2⟩:=y8z hc
 have h':=h
 obtain ⟨b',l,q1,q0,q2⟩:=h'
 obtain rfl:b=b':=q0 b rfl
 exact x7j h q1 (hm b q1) h1 h2
section
variable {g:Gh} {w:World} {M M0:Blks} {D:Dc} {v:Dv}
abbrev noM (g:Gh) (M0:Blks) (id:Nat) (o:AObj):Prop:=∀ b,obk g id o=some b→¬ M0 b
theorem x7h (he:Ext M M0 w w) (h2:RepO g w M 2 (oS D v)) (h3:RepO g w M 3 (oL v)) (m2:noM g M0 2 (oS D v)) (m3:noM g M0 3 (oL v)):(zx [xa v.sd] 0 0).p w M0 (PB D.b2):=
 y0j h2 m2 ⟨fun x hx=>V.keep _ he hx,fun x hx=>V.keep _ he hx,fun x hx=>V.keep _ he hx,fun x hx=>V.keep _ he hx,fun x hx=>by
  have hx:x=v.hs:=hx
  subst hx
  exact z5y he h3 fun b hb=>m3 b hb,trivial⟩
theorem y0i (he:Ext M M0 w w) (h1:RepO g w M 1 (oP D v)) (h2:RepO g w M 2 (oS D v)) (h3:RepO g w M 3 (oL v)) (h5:RepO g w M 5 (oT v)) (m1:noM g M0 1 (oP D v)) (m2:noM g M0 2 (oS D v)) (m3:noM g M0 3 (oL v)) (m5:noM g M0 5 (oT v)) {u:V} (hu:∀ y,(vbs D.bs).p w M y→u.p w M0 y) :
  (zx [plU D.s D.ph vtt vtt (zx [xa v.sd] 0 0) u (vlst (List.map yv v.tries))] 0 0).p w M0 (PB D.b1):=
 y0j h1 m1 ⟨fun x hx=>V.keep _ he hx,fun x hx=>V.keep _ he hx,fun x hx=>V.keep _ he hx,fun x hx=>V.keep _ he hx,fun x hx=>V.keep _ he hx,fun x hx=>V.keep _ he hx,fun x hx=>V.keep _ he hx,fun x hx=>V.keep _ he hx,fun x hx=>V.keep _ he hx,fun x hx=>V.keep _ he hx,fun x hx=>V.keep _ he hx,fun x hx=>V.keep _ he hx,fun x hx=>V.keep _ he hx,
  fun _ _=>trivial,fun _ _=>trivial,fun x hx=>by
   have hx:x=PB D.b2:=hx
   subst hx
   exact x7h he h2 h3 m2 m3,fun x hx=>hu x hx,fun x hx=>by
   have hx:x=v.ht:=hx
   subst hx
   exact z5y he h5 fun b hb=>m5 b hb,trivial⟩
theorem x7i {b m:Nat} {h:Value} {c:yj} (he:Ext M M0 w w) (h50:RepO g w M 50 (oC b m h c)) (h51:RepO g w M 51 (oM m c)) (m50:noM g M0 50 (oC b m h c)) (m51:noM g M0 51 (oM m c)) :
  (zx [[vtt,vtt,vmpG Qd c.tried_,vtt,vtt,vtt,vtt]] 0 0).p w M0 (PB b):=
 y0j h50 m50 ⟨fun _ _=>trivial,fun _ _=>trivial,fun x hx=>by
  have hx:x = .map (some m):=hx
  subst hx
  have h':=h51
  obtain ⟨b',o,q1,q0,q2⟩:=h'
  obtain rfl:m=b':=q0 m rfl
  exact y8y h51 q1 (m51 m q1),fun _ _=>trivial,fun _ _=>trivial,fun _ _=>trivial,fun _ _=>trivial,trivial⟩
end
end Go.Proofs.YtgdijjmdfcgifaaGreat
