/- Plain: events: their order and their faults: the program and the reference agree. -/
import Derived.Test.YticadaaoggpenaaGreatDoorCrZd
namespace Go.Proofs.YticadaaoggpenaaGreatDoor
set_option linter.unusedVariables false
set_option linter.unusedSimpArgs false
set_option maxRecDepth 20000
theorem w1l (x y:Int):z8d x y=some (if x < y then -1 else if y < x then 1 else 0):=by
 unfold z8d y09
 simp only [ne_eq,not_true_eq_false,decide_false,Option.bind_some,Bool.false_eq_true,if_false,decide_eq_true_eq]
 by_cases h1:x < y
 ·rw [if_pos h1,if_pos h1]
 ·rw [if_neg h1,if_neg h1]
  by_cases h2:y < x
  ·rw [if_pos h2,if_pos h2]
  ·rw [if_neg h2,if_neg h2]
theorem w1k (x y:Bs):z7z x y=some (cmpL x y):=by
 unfold z7z z9d
 simp only [ne_eq,not_true_eq_false,decide_false,Option.bind_some,Bool.false_eq_true,if_false]
 have e1:=x2q x y
 have e2:=y2l x y
 rcases x50 x y with h | h | h
 ·rw [e1,h]; rfl
 ·have:x=y:=e2.1 h
  rw [e1,h]; subst this; simp
 ·have h3:x≠y:=fun h4=>by have:=e2.2 h4; omega
  have h4:(x == y)=false:=by simpa using h3
  rw [e1,h,h4]; rfl
def cmp2 (a b c d:Bs):Int:=if cmpL a c≠0 then cmpL a c else cmpL b d
theorem w1j (a b c d:Bs):z2w [a,b] [c,d]=some (cmp2 a b c d):=by
 unfold z2w cmp2
 rw [if_pos (by simp)]
 simp only [forL,z4s,z4t,w1k]
 by_cases h1:cmpL a c=0
 ·by_cases h2:cmpL b d=0
  ·simp [h1,h2,after]
  ·simp [h1,h2,after]
 ·simp [h1,after]
theorem x78 (x y z:Int):y10 [x,y,z]=some (if x≠0 then x else if y≠0 then y else z):=by
 unfold y10
 rw [if_pos (by simp)]
 simp only [forL,y3f,y3g]
 by_cases h1:x=0
 ·by_cases h2:y=0
  ·by_cases h3:z=0
   ·simp [h1,h2,h3,after]
   ·simp [h1,h2,h3,after]
  ·simp [h1,h2,after]
 ·simp [h1,after]
def or3 (m n:Int) (a b c d:Bs):Int:=if m < n then -1 else if n < m then 1 else cmp2 a b c d
def orE (a b:z0e):Int:=or3 a.At b.At a.App a.Product b.App b.Product
theorem w7f (m n:Int) (a b c d:Bs):((z8d m n).bind fun r3=>(z5g a c).bind fun r5=>(z5g b d).bind fun r7=>(y10 [r3,r5,r7]).bind fun r9=>some r9)=some (or3 m n a b c d):=by
 simp only [w1l,z5g,Option.bind_some,x78]
 congr 1
 unfold or3 cmp2
 by_cases h1:m < n
 ·simp [h1]
 ·by_cases h2:n < m
  ·simp [h1,h2]
  ·simp [h1,h2]
theorem w5i (m n:Int) (a b c d:Bs) (h:-1000000000000000000≤m∧m≤1000000000000000000∧-1000000000000000000≤n∧n≤1000000000000000000):(if decide (m≠n) then ((y1t (wr (m - n))).bind fun (r4:Int)=>some r4) else ((z2w [a,b] [c,d]).bind fun (r6:Int)=>some r6))=some (or3 m n a b c d):=by
 rw [w1j]
 unfold y1t or3
 rw [y0x (by omega)]
 by_cases h1:m=n
 ·subst h1; simp
 ·simp only [ne_eq,h1,not_false_eq_true,decide_true,if_true,decide_eq_true_eq]
  by_cases h2:m < n
  ·have:m - n < 0:=by omega
   simp [h2,this]
  ·have h3:n < m:=by omega
   have h4:¬ m - n < 0:=by omega
   have h5:0 < m - n:=by omega
   simp [h2,h3,h4,h5]
theorem w3z (a b:z0e):z9j a b=some (orE a b):=w7f ..
def atB (n:Int):Prop:=-1000000000000000000≤n∧n≤1000000000000000000
theorem y9b (a b:z0e) (ha:atB a.At) (hb:atB b.At):z3a a b=some (orE a b):=w5i _ _ _ _ _ _ ⟨ha.1,ha.2,hb.1,hb.2⟩
structure EB (x:z0e):Prop where
 t:atB x.At
 a:x.App.length≤1000000
 p:x.Product.length≤1000000
 l:x.Plan.length≤1000000
def y5c (l:List z0e) (k:Nat) (x:z0e):Bool:=decide (0 < k) && match l[k - 1]? with | some y=>decide (0≤orE y x) | none=>false
def ev1 (l:List z0e) (k:Nat) (x:z0e):Int:=if momP x.At=false then 1 else if (keyP x.App && keyP x.Product)=false then 5 else if outP x.Kind 1 6=true then 4 else if (decide (x.Kind=1) && !keyP x.Plan)=true then 5 else if (decide (x.Kind≠1) && decide (x.Plan≠[]))=true then 3 else if y5c l k x=true then 7 else 0
def evF (l:List z0e):Int:=if 1000 < l.length then 2 else feI (ev1 l) 0 l
structure EG (x:z0e):Prop where
 t:0≤x.At∧x.At≤345686399999
 a:keyP x.App=true
 p:keyP x.Product=true
 k:1≤x.Kind∧x.Kind≤6
 l:x.Plan.length≤40
end Go.Proofs.YticadaaoggpenaaGreatDoor
