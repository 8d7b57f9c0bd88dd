/- Errors as numbers: 0 is none, 1 to 4 those of the inner package strconv, all others some error. -/
import Derived.Test.YtahcnngcpjkpgabGreatDoorLibK
import Derived.Test.YtahcnngcpjkpgabGreatDoorTy
import Derived.Test.YtahcnngcpjkpgabGreatDoorShelf
import Derived.Test.YtahcnngcpjkpgabGreatDoorArr
import Derived.Shelf.Strconv.ToErrorRange
import Derived.Shelf.Strconv.ToError
namespace Go.Proofs.YtahcnngcpjkpgabGreatDoor
open Go.RowKit Go.Shelf
set_option linter.unusedVariables false
def vifc:V:=⟨fun _ _ v=>∃ t u,v = .iface t u,true,fun _ h=>h,fun _ _ _ v ⟨t,u,h⟩=>by rw [h]; rfl⟩
def verr:Int→V
 | .ofNat 0=>vval .nilIface
 | .ofNat 1=>vval (.iface 245 (.int .i64 1))
 | .ofNat 2=>vval (.iface 245 (.int .i64 2))
 | .ofNat 3=>vval (.iface 245 (.int .i64 3))
 | .ofNat 4=>vval (.iface 245 (.int .i64 4))
 | _=>vifc
theorem y5e {n:Int} {w:World} {M:Blks} {v:Value} (h:(verr n).p w M v):(n=0∧v = .nilIface)∨(n≠0∧∃ t u,v = .iface t u):=by
 unfold verr at h
 split at h
 ·exact .inl ⟨rfl,h⟩
 ·exact .inr ⟨by decide,_,_,h⟩
 ·exact .inr ⟨by decide,_,_,h⟩
 ·exact .inr ⟨by decide,_,_,h⟩
 ·exact .inr ⟨by decide,_,_,h⟩
 ·rename_i h0 _ _ _ _
  exact .inr ⟨fun h=>h0 h,h⟩
section
variable {f:Nat→Slot} {dst:Option Tmp} {ty:TypeId} {pos:String} {af:Array Edge} {gd:Option (Nat×Bool)}
theorem uz {P:Program} {t:TypeId} {k:IntKind} {x:Operand} {n:Int} (ht:P.underlying t=some (.int k)) (hx:evS f x = .dat (vval (.int .i64 n))):Stp P ⟨dst,.makeInterface t x,ty,pos,af,gd⟩ f ⟨false,[],[],.dat (vval (.iface t (.int .i64 n)))⟩:=
 qv fun X own g a w h=>by
  have h1:=wu (h x (by simp [Op.operands])) hx
  refine ⟨.iface t (.int .i64 n),?_,rfl⟩
  simp only [execOp,h1,Instr.makeInterface,Sem.run_bind,run_underlying ht,Result.andThen_ok,Sem.run_pure]
theorem z8d {P:Program} {t t':TypeId} {x:Operand} {n:Int} (ht:P.underlying t=some (.interface (P.methodsAt t))) (hx:evS f x = .dat (verr n)):Stp P ⟨dst,.binOp .neq t x (.const .nilIface) t',ty,pos,af,gd⟩ f ⟨false,[],[],.dat (zi (decide (n≠0)))⟩:=
 qv fun X own g a w h=>by
  have h1:=h x (by simp [Op.operands])
  rw [hx] at h1
  have hc:a.eval (.const .nilIface) = .nilIface:=rfl
  rcases y5e h1 with ⟨rfl,h2⟩ | ⟨hn,tt,u,h2⟩
  ·refine ⟨.bool false,?_,rfl⟩
   simp only [execOp,h2,hc,Sem.run_bind,eqGuard_nil_constR,Sem.run_pure,Result.andThen_ok,run_neq_nil_nil w t ht]
  ·refine ⟨.bool true,?_,?_⟩
   ·simp only [execOp,h2,hc,Sem.run_bind,eqGuard_at_iface,Sem.run_pure,Result.andThen_ok,run_neq_held_nil w t tt u ht]
   ·show Value.bool true=_
    rw [decide_eq_true hn]
theorem y6h {P:Program} {t t':TypeId} {x:Operand} {n:Int} (ht:P.underlying t=some (.interface (P.methodsAt t))) (hx:evS f x = .dat (verr n)):Stp P ⟨dst,.binOp .eql t x (.const .nilIface) t',ty,pos,af,gd⟩ f ⟨false,[],[],.dat (zi (decide (n=0)))⟩:=
 qv fun X own g a w h=>by
  have h1:=h x (by simp [Op.operands])
  rw [hx] at h1
  have hc:a.eval (.const .nilIface) = .nilIface:=rfl
  rcases y5e h1 with ⟨rfl,h2⟩ | ⟨hn,tt,u,h2⟩
  ·refine ⟨.bool true,?_,rfl⟩
   simp only [execOp,h2,hc,Sem.run_bind,eqGuard_nil_constR,Sem.run_pure,Result.andThen_ok,run_eql_nil_nil w t ht]
  ·refine ⟨.bool false,?_,?_⟩
   ·simp only [execOp,h2,hc,Sem.run_bind,eqGuard_at_iface,Sem.run_pure,Result.andThen_ok,run_eql_held_nil w t tt u ht]
   ·show Value.bool false=_
    rw [decide_eq_false hn]
theorem x09 {n:Int} {w:World} {M:Blks} {v:Value} (hn:1≤n∧n≤4) (h:(verr n).p w M v):v = .iface 245 (.int .i64 n):=by
 have:n=1∨n=2∨n=3∨n=4:=by omega
 rcases this with rfl | rfl | rfl | rfl <;> exact h
theorem v0c {t:TypeId} {x y:Operand} {u:TypeId} {a:Value}:eqGuard .neq t x y .nilIface (.iface u a)=pure ():=rfl
theorem w3p {P:Program} (w:World) (d:Nat) (t u:TypeId) (x:Value) (h:P.underlying t=some (.interface (P.methodsAt t))):(Op.equalIn (d+1) t .nilIface (.iface u x)).run P w = .ok false w:=by
 simp [Op.equalIn,run_underlying h]
theorem w3l {P:Program} (w:World) (t u:TypeId) (x:Value) (h:P.underlying t=some (.interface (P.methodsAt t))):(binOp .neq t .nilIface (.iface u x)).run P w = .ok (.bool true) w:=by
 have h1:(Op.equal t .nilIface (.iface u x)).run P w = .ok false w:=w3p w 9999 t u x h
 simp only [binOp]
 simp [h1]
theorem w3o {P:Program} (w:World) (d:Nat) (u:TypeId) (a b:Int) (hu:P.underlying u=some (.int .i64)):(Op.equalIn (d+1) u (.int .i64 a) (.int .i64 b)).run P w = .ok (a == b) w:=by
 simp [Op.equalIn,run_underlying hu]
theorem w3n {P:Program} (w:World) (d:Nat) (t u:TypeId) (a b:Int) (h:P.underlying t=some (.interface (P.methodsAt t))) (hu:P.underlying u=some (.int .i64)) (hi:(P.info? u).map (·.comparable)=some true):(Op.equalIn (d+1+1) t (.iface u (.int .i64 a)) (.iface u (.int .i64 b))).run P w = .ok (a == b) w:=by
 obtain ⟨i,hi1,hi2⟩:∃ i,P.info? u=some i∧i.comparable=true:=by
  cases hq:P.info? u with
  | none=>rw [hq] at hi; cases hi
  | some i=>rw [hq] at hi; exact ⟨i,rfl,by simpa using hi⟩
 have h1:=w3o w d u a b hu
 rw [Op.equalIn]
 simp [run_underlying h,typeInfo,hi1,hi2,h1]
theorem w3k {P:Program} (w:World) (t u:TypeId) (a b:Int) (h:P.underlying t=some (.interface (P.methodsAt t))) (hu:P.underlying u=some (.int .i64)) (hi:(P.info? u).map (·.comparable)=some true):(binOp .neq t (.iface u (.int .i64 a)) (.iface u (.int .i64 b))).run P w = .ok (.bool (!(a == b))) w:=by
 have h1:(Op.equal t (.iface u (.int .i64 a)) (.iface u (.int .i64 b))).run P w = .ok (a == b) w:=w3n w 9998 t u a b h hu hi
 simp only [binOp]
 simp [h1]
theorem w2e {P:Program} {t t':TypeId} {x y:Operand} {n m:Int} (ht:P.underlying t=some (.interface (P.methodsAt t))) (hu:P.underlying 245=some (.int .i64)) (hi:(P.info? 245).map (·.comparable)=some true) (hx:evS f x = .dat (verr n)) (hy:evS f y = .dat (verr m)) (hn:0≤n∧n≤4) (hm:1≤m∧m≤4):Stp P ⟨dst,.binOp .neq t x y t',ty,pos,af,gd⟩ f ⟨false,[],[],.dat (zi (decide (n≠m)))⟩:=
 qv fun X own g a w h=>by
  have h1:=h x (by simp [Op.operands])
  have h2:=h y (by simp [Op.operands])
  rw [hx] at h1
  rw [hy] at h2
  have h2:=x09 hm h2
  rcases y5e h1 with ⟨rfl,h3⟩ | ⟨hn0,_⟩
  ·refine ⟨.bool true,?_,?_⟩
   ·simp only [execOp,h2,h3,Sem.run_bind,v0c,Sem.run_pure,Result.andThen_ok,w3l w t _ _ ht]
   ·show Value.bool true=_
    rw [decide_eq_true (by omega)]
  ·have h3:=x09 (n:=n) (by omega) h1
   refine ⟨.bool (!(n == m)),?_,?_⟩
   ·simp only [execOp,h2,h3,Sem.run_bind,eqGuard_at_iface,Sem.run_pure,Result.andThen_ok,w3k w t _ _ _ ht hu hi]
   ·show Value.bool _=_
    by_cases hnm:n=m
    ·subst hnm; simp
    ·rw [decide_eq_true hnm]; simp [hnm]
end
end Go.Proofs.YtahcnngcpjkpgabGreatDoor
