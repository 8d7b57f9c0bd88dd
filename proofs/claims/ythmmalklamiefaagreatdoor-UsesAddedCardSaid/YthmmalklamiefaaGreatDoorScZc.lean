/- Plain: scopes: the program and the reference agree. -/
import Derived.Test.YthmmalklamiefaaGreatDoorKeZc
import Derived.Test.YthmmalklamiefaaGreatDoorSpZc
namespace Go.Proofs.YthmmalklamiefaaGreatDoor
set_option linter.unusedVariables false
set_option maxRecDepth 20000
def scK (n:Nat) (k:Nat) (p:Bs):Bool:=keyP p || (decide (p=[42]) && decide ((k:Int)=(n:Int) - 1))
def scP (s:Bs):Bool:=allI (scK (spl 58 s).length) 0 (spl 58 s) && decide (((spl 58 s).length:Int)≤10)
theorem w0a (s:Bs) (h:s.length≤1000000):y29 s=some (scP s):=by
 have hn:=x61 58 s
 unfold y29 z9g
 rw [if_pos ⟨by omega,by simp⟩,x3c]
 simp only [Option.bind_some]
 rw [if_pos (by omega),y6w (p:=scK (spl 58 s).length) (r0:=false) (e:=decide (((spl 58 s).length:Int)≤10)) rfl (spl 58 s) 0 fun j x _ hx => ?_]
 ·unfold scP
  cases allI (scK (spl 58 s).length) 0 (spl 58 s) <;> simp
 ·have hx:(spl 58 s)[j]?=some x:=by simpa using hx
  have hl:=x1x 58 s x (List.mem_of_getElem? hx)
  unfold y32
  rw [y93 x (by omega),z6j (by omega)]
  simp only [Option.bind_some]
  unfold scK
  cases keyP x <;> cases (decide (x=[42]) && decide ((j:Int)=((spl 58 s).length:Int) - 1)) <;> rfl
theorem w4b (s:Bs) (h:s.length≤1000000):y2o s=some (scP s):=by
 have hn:=x61 58 s
 unfold y2o z9g
 rw [if_pos ⟨by omega,by simp⟩,x3c]
 simp only [Option.bind_some]
 rw [if_pos (by omega),y6w (p:=scK (spl 58 s).length) (r0:=false) (e:=decide (((spl 58 s).length:Int)≤10)) rfl (spl 58 s) 0 fun j x _ hx => ?_]
 ·unfold scP
  cases allI (scK (spl 58 s).length) 0 (spl 58 s) <;> simp
 ·have hx:(spl 58 s)[j]?=some x:=by simpa using hx
  have hl:=x1x 58 s x (List.mem_of_getElem? hx)
  have hj:=z9l hx
  unfold y3n
  rw [x56 x (by omega),z6j (by omega)]
  simp only [Option.bind_some]
  unfold scK
  have e1:decide ((j:Int) < ((spl 58 s).length:Int) - 1) = !decide ((j:Int)=((spl 58 s).length:Int) - 1):=by
   by_cases hq:(j:Int)=((spl 58 s).length:Int) - 1
   ·simp [hq]
   ·have:(j:Int) < ((spl 58 s).length:Int) - 1:=by omega
    simp [hq,this]
  have e2:decide (x≠[42]) = !decide (x=[42]):=by simp
  rw [e1,e2]
  cases keyP x <;> cases decide (x=[42]) <;> cases decide ((j:Int)=((spl 58 s).length:Int) - 1) <;> rfl
def Sh (l:List Bs):Prop:=l.length≤1000000∧∀ x,x∈l→x.length≤1000000
def scF (l:List Bs):Int:=if 50 < l.length then 2 else if l.all scP=true then 0 else 3
theorem w7j (l:List Bs) (h:Sh l):y0t l=some (scF l):=by
 have hn:=h.1
 unfold y0t scF
 by_cases h1:50 < l.length
 ·rw [if_pos (by simp; omega),if_pos h1]
 ·rw [if_neg (by simp; omega),if_neg h1,if_pos (by omega),y6w (p:=fun _ x=>scP x) (r0:=(3:Int)) (e:=(0:Int)) rfl l 0 fun j x _ hx => ?_]
  ·rw [x5i]
  ·have hx:l[j]?=some x:=by simpa using hx
   unfold y1l
   rw [w0a x (h.2 x (List.mem_of_getElem? hx))]
   simp only [Option.bind_some]
   cases scP x <;> rfl
theorem w2k (l:List Bs) (h:Sh l):z8m l=some (scF l):=by
 have hn:=h.1
 unfold z8m scF
 by_cases h1:50 < l.length
 ·rw [if_pos (by simp; omega),if_pos h1]
 ·rw [if_neg (by simp; omega),if_neg h1,if_pos (by omega),y6w (p:=fun _ x=>scP x) (r0:=(3:Int)) (e:=(0:Int)) rfl l 0 fun j x _ hx => ?_]
  ·rw [x5i]
  ·have hx:l[j]?=some x:=by simpa using hx
   unfold y0f
   rw [w4b x (h.2 x (List.mem_of_getElem? hx))]
   simp only [Option.bind_some]
   cases scP x <;> rfl
def or2 (a b:Int):Int:=if a≠0 then a else b
theorem w9m (a b:Int):z73 [a,b]=some (or2 a b):=by
 unfold z73 or2
 rw [if_pos (by simp)]
 simp only [forL,y2r,y2s]
 by_cases h1:a=0 <;> by_cases h2:b=0 <;> simp [h1,h2,after]
def cvB (a b:Bs):Bool:=if Lib.hasSuffix a [42]=true then Lib.hasPrefix b (Lib.trimSuffix a [42]) else decide (a=b)
def cvL (l:List Bs) (s:Bs):Bool:=l.any fun h=>cvB h s
def cvA (have_ want:List Bs):Bool:=want.all fun w=>cvL have_ w
def lsI (l:List Bs) (s:Bs):Prop:=s∈l∧∀ h,h∈l→h≠s→cvB h s=false
def lsQ (l:List Bs) (s:Bs):Bool:=l.any fun h=>decide (h≠s) && cvB h s
def lsP (l:List Bs):List Bs:=(setB l).filter fun s => !lsQ (setB l) s
end Go.Proofs.YthmmalklamiefaaGreatDoor
