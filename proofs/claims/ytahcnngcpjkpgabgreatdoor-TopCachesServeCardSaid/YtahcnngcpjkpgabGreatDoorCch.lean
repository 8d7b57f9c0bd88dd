/- The abstract machine: pointers to own boxes as data within a call (slots and cells seen one way or the other); loops of a known number of rounds. -/
import Derived.Test.YtahcnngcpjkpgabGreatDoorOw
import Derived.LaidEqlPtr
namespace Go.Proofs.YtahcnngcpjkpgabGreatDoor
open Go.RowKit
set_option linter.unusedVariables false
abbrev PB (b:Nat):Value := .pointer (some ⟨b,0,none⟩)
section
variable {P:Program} {X:Ctx} {Q:Exit→(Nat→Slot)→Own→Prop} {f:Nat→Slot} {own:Own} {c:Code}
def AWPR (P:Program) (X:Ctx) (c:Code) (Q:Exit→(Nat→Slot)→Own→Prop):Nat→(Nat→Slot)→Own→Prop
 | 0,_,_=>False
 | n+1,f,own=>AWP P X c (fun e f own=>match e with | .normal=>AWPR P X c Q n f own | e=>Q e f own) f own
theorem Wi (n:Nat) (h:AWPR P X c Q n f own):AWP P X (.loop c) Q f own:=by
 have key:∀ n f own g a w,AWPR P X c Q n f own→Rel X f own g a w→Code.roundsIn (FR X.R) 0 P c (fun e a' w'=>∃ f' own' g',Rel X f' own' g' a' w'∧Q e f' own') n a w:=by
  intro n
  induction n with
  | zero=>intro f own g a w h; exact h.elim
  | succ n ih =>
   intro f own g a w h hr
   rw [roundsIn_succ]
   refine wpIn_mono (h g a w hr) ?_
   rintro e a' w' ⟨f',own',g',h1,h2⟩
   cases e with
   | normal=>exact ih f' own' g' a' w' h2 h1
   | exit id=>exact ⟨f',own',g',h1,h2⟩
   | goto l=>exact ⟨f',own',g',h1,h2⟩
   | ret=>exact ⟨f',own',g',h1,h2⟩
   | panic ch=>exact ⟨f',own',g',h1,h2⟩
   | outgrown=>exact ⟨f',own',g',h1,h2⟩
 intro g a w hr
 exact wpIn_loop_rounds n (key n f own g a w h hr)
theorem awpr {n:Nat} (h:AWP P X c (fun e f own=>match e with | .normal=>AWPR P X c Q n f own | e=>Q e f own) f own):AWPR P X c Q (n+1) f own:=h
theorem z7c (t id b:Nat) {bt:TypeId} {cs:List Slot} (s':Slot) (ho:own id=some (some (.box (some b) bt cs))) (hs:∀ (g:Gh) (w:World) (M:Blks) (v:Value),g.bl id=some b→RepS g w M (f t) v→RepS g w M s' v)
  (h:AWP P X c Q (updS f (some t) s') own):AWP P X c Q f own:=by
 intro g a w hr
 obtain ⟨b',l,q1,q0,_⟩:=hr.ob id _ ho
 have hb:b=b':=q0 b rfl
 subst hb
 refine h g a w ⟨hr.kp,hr.m0,hr.n,hr.df,fun k => ?_,hr.ob,hr.sep,hr.mine,hr.fresh,hr.top⟩
 by_cases hk:k=t
 ·subst hk
  have e1:Nat.beq k k=true:=by simp
  simp only [updS,e1,cond_true]
  exact hs g w _ _ q1 (hr.fr k)
 ·have e1:Nat.beq k t=false:=vg hk
  simp only [updS,e1,cond_false]
  exact hr.fr k
theorem Wh (i j id b:Nat) {bt t:TypeId} {cs0 cs:List Slot} {an:Option Nat} {s:Slot} (s':Slot) (hb:own id=some (some (.box (some b) bt cs0))) (ho:own i=some (some (.box an t cs))) (hj:cs[j]?=some s)
  (hs:∀ (g:Gh) (w:World) (M:Blks) (v:Value),g.bl id=some b→RepS g w M s v→RepS g w M s' v)
  (h:AWP P X c Q f (upl own [(i,some (some (.box an t (cs.set j s'))))])):AWP P X c Q f own:=by
 intro g a w hr
 obtain ⟨b',l',r1,r0,_⟩:=hr.ob id _ hb
 have hbb:b=b':=r0 b rfl
 subst hbb
 obtain ⟨q,l,q1,q0,q2,q3,q4⟩:=hr.ob i _ ho
 refine h g a w (hr.re1 i ho rfl (fun M' he=>⟨q,l,q1,q0,q2,by rw [List.length_set]; exact q3,fun k s0 hk => ?_⟩) (fun e size es h=>by cases h))
 rw [List.getElem?_set] at hk
 split at hk
 ·rename_i hjk
  subst hjk
  split at hk
  ·cases hk
   obtain ⟨x,x1,x2,x3⟩:=q4 j s hj
   exact ⟨x,x1,hs g w _ x r1 (x2.keep he (Gh.le_refl g)),x3⟩
  ·cases hk
 ·obtain ⟨x,x1,x2,x3⟩:=q4 k s0 hk
  exact ⟨x,x1,x2.keep he (Gh.le_refl g),x3⟩
theorem x0n (b:Bool) (ht:b=true→AWP P X c Q f own) (hf:b=false→AWP P X c Q f own):AWP P X c Q f own:=by
 cases b with
 | true=>exact ht rfl
 | false=>exact hf rfl
theorem x8y (id:Nat) {an:Option Nat} {t:TypeId} {cs:List Slot} (ho:own id=some (some (.box an t cs))) (h:AWP P X c Q f (upl own [(id,some (some (.box none t cs)))])):AWP P X c Q f own:=by
 intro g a w hr
 obtain ⟨b,l,h1,h2,h3,h4,h5⟩:=hr.ob id _ ho
 refine h g a w (hr.re1 id ho rfl (fun M' he=>⟨b,l,h1,fun q hq=>(by cases hq),h3,h4,fun j s hs => ?_⟩) (fun e size es h=>by cases h))
 obtain ⟨x,x1,x2,x3⟩:=h5 j s hs
 exact ⟨x,x1,x2.keep he (Gh.le_refl g),x3⟩
end
theorem x3p {g:Gh} {w:World} {M:Blks} {v:Value} {id b:Nat} (hb:g.bl id=some b) (h:RepS g w M (.ptr id 0) v):RepS g w M (.dat (vval (PB b))) v:=by
 obtain ⟨b',h1,h2⟩:=h
 rw [hb] at h1; cases h1
 exact h2
theorem y19 {g:Gh} {w:World} {M:Blks} {v:Value} {id b:Nat} (hb:g.bl id=some b) (h:RepS g w M (.dat (vval (PB b))) v):RepS g w M (.ptr id 0) v:=⟨b,hb,h⟩
theorem y18 {g:Gh} {w:World} {M:Blks} {v:Value} {id b:Nat} {u:Nat→V} (hb:g.bl id=some b) (h:RepS g w M (.dr id u) v):RepS g w M (.dat (u b)) v:=by
 obtain ⟨b',h1,h2⟩:=h
 rw [hb] at h1; cases h1
 exact h2
theorem z8i {g:Gh} {w:World} {M:Blks} {v:Value} {id b:Nat} {u:Nat→V} (hb:g.bl id=some b) (h:RepS g w M (.dat (u b)) v):RepS g w M (.dr id u) v:=⟨b,hb,h⟩
section
variable {P:Program} {f:Nat→Slot} {dst:Option Tmp} {ty:TypeId} {pos:String} {af:Array Edge} {gd:Option (Nat×Bool)}
theorem w1x {t e t':TypeId} {x y:Operand} {b:Nat} {j:TypeInfo} (ht:P.underlying t=some (.pointer e)∧P.info? e=some j) (hx:evS f x = .dat (vval (PB b))) (hy:evS f y = .dat (vval (PB b))):Stp P ⟨dst,.binOp .eql t x y t',ty,pos,af,gd⟩ f ⟨false,[],[],.dat (zi true)⟩:=
 qv fun X own g a w h=>by
  have h1:=wu (h x (by simp [Op.operands])) hx
  have h2:=wu (h y (by simp [Op.operands])) hy
  refine ⟨.bool true,?_,rfl⟩
  simp only [execOp,h1,h2,Sem.run_bind]
  simp [eqGuard,run_eql_ptr_same w _ ht.1 ht.2]
theorem w1w {t e t':TypeId} {x:Operand} {id off:Nat} (ht:P.underlying t=some (.pointer e)) (hx:evS f x = .ptr id off):Stp P ⟨dst,.binOp .neq t x (.const (.pointer none)) t',ty,pos,af,gd⟩ f ⟨false,[],[],.dat (zi true)⟩:=
 qv fun X own g a w h=>by
  have h1:=h x (by simp [Op.operands])
  rw [hx] at h1
  obtain ⟨b,_,h2⟩:=h1
  have hp:P.underlying t=some (.pointer (P.pointee t)):=by simp [Program.pointee,ht]
  refine ⟨.bool true,?_,rfl⟩
  have hc:a.eval (.const (.pointer none)) = .pointer none:=rfl
  simp only [execOp,h2,hc,Sem.run_bind]
  simp [eqGuard,run_neq_pointer_nil w t _ hp]
theorem w1v {t e t':TypeId} {x:Operand} {b:Nat} (ht:P.underlying t=some (.pointer e)) (hx:evS f x = .dat (vval (PB b))):Stp P ⟨dst,.binOp .neq t x (.const (.pointer none)) t',ty,pos,af,gd⟩ f ⟨false,[],[],.dat (zi true)⟩:=
 qv fun X own g a w h=>by
  have h2:=wu (h x (by simp [Op.operands])) hx
  have hp:P.underlying t=some (.pointer (P.pointee t)):=by simp [Program.pointee,ht]
  refine ⟨.bool true,?_,rfl⟩
  have hc:a.eval (.const (.pointer none)) = .pointer none:=rfl
  simp only [execOp,h2,hc,Sem.run_bind]
  simp [eqGuard,run_neq_pointer_nil w t _ hp]
theorem w1y {t e t':TypeId} {x:Operand} {id off:Nat} (ht:P.underlying t=some (.pointer e)) (hx:evS f x = .ptr id off):Stp P ⟨dst,.binOp .eql t x (.const (.pointer none)) t',ty,pos,af,gd⟩ f ⟨false,[],[],.dat (zi false)⟩:=
 qv fun X own g a w h=>by
  have h1:=h x (by simp [Op.operands])
  rw [hx] at h1
  obtain ⟨b,_,h2⟩:=h1
  have hp:P.underlying t=some (.pointer (P.pointee t)):=by simp [Program.pointee,ht]
  refine ⟨.bool false,?_,rfl⟩
  have hc:a.eval (.const (.pointer none)) = .pointer none:=rfl
  simp only [execOp,h2,hc,Sem.run_bind]
  simp [eqGuard,run_eql_pointer_nil w t _ hp]
theorem w1z {t e t':TypeId} {x:Operand} (ht:P.underlying t=some (.pointer e)) (hx:evS f x = .dat (vval (.pointer none))):Stp P ⟨dst,.binOp .eql t x (.const (.pointer none)) t',ty,pos,af,gd⟩ f ⟨false,[],[],.dat (zi true)⟩:=
 qv fun X own g a w h=>by
  have h1:=wu (h x (by simp [Op.operands])) hx
  have hp:P.underlying t=some (.pointer (P.pointee t)):=by simp [Program.pointee,ht]
  refine ⟨.bool true,?_,rfl⟩
  have hc:a.eval (.const (.pointer none)) = .pointer none:=rfl
  simp only [execOp,h1,hc,Sem.run_bind]
  simp [eqGuard,run_eql_pointer_nil w t _ hp]
end
end Go.Proofs.YtahcnngcpjkpgabGreatDoor
