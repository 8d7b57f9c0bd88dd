/- Plain: events: their order and their faults: the program and the reference agree. -/
import Derived.Test.YthmmalklamiefaaGreatDoorCrZc
namespace Go.Proofs.YthmmalklamiefaaGreatDoor
set_option linter.unusedVariables false
set_option linter.unusedSimpArgs false
set_option maxRecDepth 20000
theorem w2x (x y:Int):z74 x y=some (if x < y then -1 else if y < x then 1 else 0):=by
 unfold z74 y2p
 simp only [ne_eq,not_true_eq_false,decide_false,Option.bind_some,Bool.false_eq_true,if_false,decide_eq_true_eq]
 by_cases h1:x < y
 ·rw [if_pos h1,if_pos h1]
 ·rw [if_neg h1,if_neg h1]
  by_cases h2:y < x
  ·rw [if_pos h2,if_pos h2]
  ·rw [if_neg h2,if_neg h2]
theorem w2w (x y:Bs):z9j x y=some (cmpL x y):=by
 unfold z9j y0z
 simp only [ne_eq,not_true_eq_false,decide_false,Option.bind_some,Bool.false_eq_true,if_false]
 have e1:=x4s x y
 have e2:=y37 x y
 rcases x7u x y with h | h | h
 ·rw [e1,h]; rfl
 ·have:x=y:=e2.1 h
  rw [e1,h]; subst this; simp
 ·have h3:x≠y:=fun h4=>by have:=e2.2 h4; omega
  have h4:(x == y)=false:=by simpa using h3
  rw [e1,h,h4]; rfl
def cmp2 (a b c d:Bs):Int:=if cmpL a c≠0 then cmpL a c else cmpL b d
theorem w2v (a b c d:Bs):z2z [a,b] [c,d]=some (cmp2 a b c d):=by
 unfold z2z cmp2
 rw [if_pos (by simp)]
 simp only [forL,z5n,z5o,w2w]
 by_cases h1:cmpL a c=0
 ·by_cases h2:cmpL b d=0
  ·simp [h1,h2,after]
  ·simp [h1,h2,after]
 ·simp [h1,after]
theorem x9w (x y z:Int):y2g [x,y,z]=some (if x≠0 then x else if y≠0 then y else z):=by
 unfold y2g
 rw [if_pos (by simp)]
 simp only [forL,y5g,y5h]
 by_cases h1:x=0
 ·by_cases h2:y=0
  ·by_cases h3:z=0
   ·simp [h1,h2,h3,after]
   ·simp [h1,h2,h3,after]
  ·simp [h1,h2,after]
 ·simp [h1,after]
def or3 (m n:Int) (a b c d:Bs):Int:=if m < n then -1 else if n < m then 1 else cmp2 a b c d
def orE (a b:z0f):Int:=or3 a.At b.At a.App a.Product b.App b.Product
theorem w5s (m n:Int) (a b c d:Bs):((z74 m n).bind fun r3=>(z4u a c).bind fun r5=>(z4u b d).bind fun r7=>(y2g [r3,r5,r7]).bind fun r9=>some r9)=some (or3 m n a b c d):=by
 simp only [w2x,z4u,Option.bind_some,x9w]
 congr 1
 unfold or3 cmp2
 by_cases h1:m < n
 ·simp [h1]
 ·by_cases h2:n < m
  ·simp [h1,h2]
  ·simp [h1,h2]
theorem w1i (m n:Int) (a b c d:Bs) (h:-1000000000000000000≤m∧m≤1000000000000000000∧-1000000000000000000≤n∧n≤1000000000000000000):(if decide (m≠n) then ((y1u (wr (m - n))).bind fun (r4:Int)=>some r4) else ((z2z [a,b] [c,d]).bind fun (r6:Int)=>some r6))=some (or3 m n a b c d):=by
 rw [w2v]
 unfold y1u or3
 rw [z6j (by omega)]
 by_cases h1:m=n
 ·subst h1; simp
 ·simp only [ne_eq,h1,not_false_eq_true,decide_true,if_true,decide_eq_true_eq]
  by_cases h2:m < n
  ·have:m - n < 0:=by omega
   simp [h2,this]
  ·have h3:n < m:=by omega
   have h4:¬ m - n < 0:=by omega
   have h5:0 < m - n:=by omega
   simp [h2,h3,h4,h5]
theorem w4y (a b:z0f):y04 a b=some (orE a b):=w5s ..
def atB (n:Int):Prop:=-1000000000000000000≤n∧n≤1000000000000000000
theorem x1h (a b:z0f) (ha:atB a.At) (hb:atB b.At):z3n a b=some (orE a b):=w1i _ _ _ _ _ _ ⟨ha.1,ha.2,hb.1,hb.2⟩
structure EB (x:z0f):Prop where
 t:atB x.At
 a:x.App.length≤1000000
 p:x.Product.length≤1000000
 l:x.Plan.length≤1000000
def y7e (l:List z0f) (k:Nat) (x:z0f):Bool:=decide (0 < k) && match l[k - 1]? with | some y=>decide (0≤orE y x) | none=>false
def ev1 (l:List z0f) (k:Nat) (x:z0f):Int:=if momP x.At=false then 1 else if (keyP x.App && keyP x.Product)=false then 5 else if outP x.Kind 1 6=true then 4 else if (decide (x.Kind=1) && !keyP x.Plan)=true then 5 else if (decide (x.Kind≠1) && decide (x.Plan≠[]))=true then 3 else if y7e l k x=true then 7 else 0
def evF (l:List z0f):Int:=if 1000 < l.length then 2 else feI (ev1 l) 0 l
structure EG (x:z0f):Prop where
 t:0≤x.At∧x.At≤345686399999
 a:keyP x.App=true
 p:keyP x.Product=true
 k:1≤x.Kind∧x.Kind≤6
 l:x.Plan.length≤40
end Go.Proofs.YthmmalklamiefaaGreatDoor
