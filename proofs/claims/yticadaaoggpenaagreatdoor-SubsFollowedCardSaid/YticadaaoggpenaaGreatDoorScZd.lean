/- Plain: scopes: the program and the reference agree. -/
import Derived.Test.YticadaaoggpenaaGreatDoorKeZd
import Derived.Test.YticadaaoggpenaaGreatDoorSpZd
namespace Go.Proofs.YticadaaoggpenaaGreatDoor
set_option linter.unusedVariables false
set_option maxRecDepth 20000
def scK (n:Nat) (k:Nat) (p:Bs):Bool:=keyP p || (decide (p=[42]) && decide ((k:Int)=(n:Int) - 1))
def scP (s:Bs):Bool:=allI (scK (spl 58 s).length) 0 (spl 58 s) && decide (((spl 58 s).length:Int)≤10)
theorem x8l (s:Bs) (h:s.length≤1000000):y1s s=some (scP s):=by
 have hn:=x5b 58 s
 unfold y1s z7v
 rw [if_pos ⟨by omega,by simp⟩,x08]
 simp only [Option.bind_some]
 rw [if_pos (by omega),y4w (p:=scK (spl 58 s).length) (r0:=false) (e:=decide (((spl 58 s).length:Int)≤10)) rfl (spl 58 s) 0 fun j x _ hx => ?_]
 ·unfold scP
  cases allI (scK (spl 58 s).length) 0 (spl 58 s) <;> simp
 ·have hx:(spl 58 s)[j]?=some x:=by simpa using hx
  have hl:=y9r 58 s x (List.mem_of_getElem? hx)
  unfold y2h
  rw [y7x x (by omega),y0x (by omega)]
  simp only [Option.bind_some]
  unfold scK
  cases keyP x <;> cases (decide (x=[42]) && decide ((j:Int)=((spl 58 s).length:Int) - 1)) <;> rfl
theorem w25 (s:Bs) (h:s.length≤1000000):y08 s=some (scP s):=by
 have hn:=x5b 58 s
 unfold y08 z7v
 rw [if_pos ⟨by omega,by simp⟩,x08]
 simp only [Option.bind_some]
 rw [if_pos (by omega),y4w (p:=scK (spl 58 s).length) (r0:=false) (e:=decide (((spl 58 s).length:Int)≤10)) rfl (spl 58 s) 0 fun j x _ hx => ?_]
 ·unfold scP
  cases allI (scK (spl 58 s).length) 0 (spl 58 s) <;> simp
 ·have hx:(spl 58 s)[j]?=some x:=by simpa using hx
  have hl:=y9r 58 s x (List.mem_of_getElem? hx)
  have hj:=z9e hx
  unfold y12
  rw [x4a x (by omega),y0x (by omega)]
  simp only [Option.bind_some]
  unfold scK
  have e1:decide ((j:Int) < ((spl 58 s).length:Int) - 1) = !decide ((j:Int)=((spl 58 s).length:Int) - 1):=by
   by_cases hq:(j:Int)=((spl 58 s).length:Int) - 1
   ·simp [hq]
   ·have:(j:Int) < ((spl 58 s).length:Int) - 1:=by omega
    simp [hq,this]
  have e2:decide (x≠[42]) = !decide (x=[42]):=by simp
  rw [e1,e2]
  cases keyP x <;> cases decide (x=[42]) <;> cases decide ((j:Int)=((spl 58 s).length:Int) - 1) <;> rfl
def Sh (l:List Bs):Prop:=l.length≤1000000∧∀ x,x∈l→x.length≤1000000
def scF (l:List Bs):Int:=if 50 < l.length then 2 else if l.all scP=true then 0 else 3
theorem w1n (l:List Bs) (h:Sh l):z7d l=some (scF l):=by
 have hn:=h.1
 unfold z7d scF
 by_cases h1:50 < l.length
 ·rw [if_pos (by simp; omega),if_pos h1]
 ·rw [if_neg (by simp; omega),if_neg h1,if_pos (by omega),y4w (p:=fun _ x=>scP x) (r0:=(3:Int)) (e:=(0:Int)) rfl l 0 fun j x _ hx => ?_]
  ·rw [x3g]
  ·have hx:l[j]?=some x:=by simpa using hx
   unfold y0b
   rw [x8l x (h.2 x (List.mem_of_getElem? hx))]
   simp only [Option.bind_some]
   cases scP x <;> rfl
theorem w07 (l:List Bs) (h:Sh l):z65 l=some (scF l):=by
 have hn:=h.1
 unfold z65 scF
 by_cases h1:50 < l.length
 ·rw [if_pos (by simp; omega),if_pos h1]
 ·rw [if_neg (by simp; omega),if_neg h1,if_pos (by omega),y4w (p:=fun _ x=>scP x) (r0:=(3:Int)) (e:=(0:Int)) rfl l 0 fun j x _ hx => ?_]
  ·rw [x3g]
  ·have hx:l[j]?=some x:=by simpa using hx
   unfold z8x
   rw [w25 x (h.2 x (List.mem_of_getElem? hx))]
   simp only [Option.bind_some]
   cases scP x <;> rfl
def or2 (a b:Int):Int:=if a≠0 then a else b
theorem w8k (a b:Int):z5z [a,b]=some (or2 a b):=by
 unfold z5z or2
 rw [if_pos (by simp)]
 simp only [forL,y1b,y1c]
 by_cases h1:a=0 <;> by_cases h2:b=0 <;> simp [h1,h2,after]
def cvB (a b:Bs):Bool:=if Lib.hasSuffix a [42]=true then Lib.hasPrefix b (Lib.trimSuffix a [42]) else decide (a=b)
theorem x9q {a:Bs} (h:Lib.hasSuffix a [42]=true):∃ g,a=g++[42]∧Lib.trimSuffix a [42]=g:=by
 unfold Lib.hasSuffix at h
 rw [List.isSuffixOf_iff_suffix] at h
 obtain ⟨g,hg⟩:=h
 refine ⟨g,hg.symm,?_⟩
 unfold Lib.trimSuffix Lib.hasSuffix
 rw [if_pos (by rw [List.isSuffixOf_iff_suffix]; exact ⟨g,hg⟩),← hg]
 simp
theorem w3w (a:Bs):cvB a a=true:=by
 unfold cvB
 split
 ·rename_i h
  obtain ⟨g,h1,h2⟩:=x9q h
  rw [h2]
  unfold Lib.hasPrefix
  rw [List.isPrefixOf_iff_prefix]
  exact ⟨[42],h1.symm⟩
 ·simp
theorem w5n (a b:Bs) (h:a.length≤1000000):y1u a b=some (cvB a b):=by
 unfold y1u z55 z88 cvB
 rw [if_pos (by omega)]
 simp only [Option.bind_some]
 cases Lib.hasSuffix a [42] <;> simp
theorem w1g (a b:Bs) (h:a.length≤1000000):y2c a b=some (cvB a b):=by
 unfold y2c z55 z88 y0f
 by_cases h1:a=b
 ·subst h1
  rw [if_pos (by simp),w3w]
 ·rw [if_neg (by simpa using h1),if_pos (by omega)]
  simp only [Option.bind_some]
  unfold cvB
  cases Lib.hasSuffix a [42] <;> simp [h1]
def cvL (l:List Bs) (s:Bs):Bool:=l.any fun h=>cvB h s
def cvA (have_ want:List Bs):Bool:=want.all fun w=>cvL have_ w
theorem w1h (l:List Bs) (p:Bs→Option Bool) (q:Bs→Bool) (h:l.length≤1000000) (hp:∀ x,x∈l→p x=some (q x)):z2v l p=some (l.any q):=
 w56 l q (by omega) hp
def lsI (l:List Bs) (s:Bs):Prop:=s∈l∧∀ h,h∈l→h≠s→cvB h s=false
def lsQ (l:List Bs) (s:Bs):Bool:=l.any fun h=>decide (h≠s) && cvB h s
def lsP (l:List Bs):List Bs:=(setB l).filter fun s => !lsQ (setB l) s
theorem w0o (l:List Bs) (s:Bs):lsQ l s=false↔∀ h,h∈l→h≠s→cvB h s=false:=by
 unfold lsQ
 rw [List.any_eq_false]
 constructor
 ·intro k h hh hne
  have:=k h hh
  simpa [hne] using this
 ·intro k h hh
  by_cases hne:h=s
  ·simp [hne]
  ·simp [hne,k h hh hne]
theorem w5v (l:List Bs) (s:Bs):s∈lsP l↔lsI l s:=by
 unfold lsP lsI
 rw [List.mem_filter,y88,Bool.not_eq_true',w0o]
 simp only [y88]
theorem w3h (l:List Bs):Rise (lsP l):=(x3w l).filter _
theorem w5u (l:List Bs):setB (l.filter fun s => !lsQ l s)=lsP l:=
 w3a (x3w _) (w3h l) fun s=>by
  rw [w5v,y88,List.mem_filter,Bool.not_eq_true',w0o]
  rfl
theorem w5w (l:List Bs):(lsP l).length≤l.length:=by
 have h1:=List.length_filter_le (fun s => !lsQ (setB l) s) (setB l)
 have h2:=x6d l
 unfold lsP; omega
theorem x97 (l:List Bs) (h:l.length≤1000000):y3k l=some (setB l):=by
 unfold y3k z96 z4y z4k
 rw [if_pos (by omega)]
 simp only [Option.bind_some]
 rw [if_pos (by omega)]
 simp only [Option.bind_some]
 rw [if_pos (by simp; omega)]
 rfl
theorem w6g (l:List Bs) (p:Bs→Option Bool) (q:Bs→Bool) (h:l.length≤1000000) (hp:∀ x,x∈l→p x=some (q x)):z4a l p=some (l.filter fun x => !q x):=
 w55 [] l q (by omega) hp
theorem w3i (l:List Bs) (h:Sh l):y2u l=some (lsP l):=by
 have hs:=x6d l
 have hn:=h.1
 have h2:Sh (setB l):=⟨by omega,fun x hx=>h.2 x ((y88 l x).1 hx)⟩
 unfold y2u
 rw [x97 l hn]
 simp only [Option.bind_some]
 unfold z96
 rw [if_pos (by omega)]
 simp only [Option.bind_some]
 rw [w6g (setB l) _ (lsQ (setB l)) h2.1 fun x hx => ?_]
 ·rfl
 ·unfold y1r
  rw [w1h (setB l) _ (fun h=>decide (h≠x) && cvB h x) h2.1 fun y hy => ?_]
  ·rfl
  ·unfold y0h z79
   rw [w1g y x (h2.2 y hy)]
   simp only [Option.bind_some]
   cases decide (y≠x) <;> simp
theorem x8k (l:List Bs) (h:Sh l):z90 l=some (lsP l):=by
 have hn:=h.1
 unfold z90
 rw [if_pos (by omega)]
 refine w5p (y92 (I:=fun k (s:List Bs)=>s=(l.take k).filter fun s => !lsQ l s) l 0 [] (by simp) ?_ ?_)
 ·intro j x s _ hx hs
  have hx:l[j]?=some x:=by simpa using hx
  have hj:=z9e hx
  unfold y03 z7j
  rw [w1h l _ (fun h=>decide (h≠x) && cvB h x) hn fun y hy => ?_]
  ·simp only [Option.bind_some]
   have hlen:=List.length_filter_le (fun s => !lsQ l s) (l.take j)
   rw [List.length_take] at hlen
   have e1:(l.take (j+1)).filter (fun s => !lsQ l s)=s++(if lsQ l x=false then [x] else []):=by
    rw [List.take_add_one,hx,List.filter_append,hs]
    cases hq:lsQ l x <;> simp [hq]
   show Ok (if (!lsQ l x)=true then _ else _) _
   cases hq:lsQ l x
   ·rw [if_pos (by simp),if_pos (by rw [hs]; omega)]
    refine z15 ?_
    show s++[x]=_
    rw [e1,hq]; rfl
   ·rw [if_neg (by simp)]
    refine z15 ?_
    show s=_
    rw [e1,hq]; simp
  ·unfold z8s z6f
   rw [w5n y x (h.2 y hy)]
   simp only [Option.bind_some]
   cases decide (y≠x) <;> simp
 ·intro s hs
  have hs:s=l.filter fun s => !lsQ l s:=by simpa using hs
  have hlen:=List.length_filter_le (fun s => !lsQ l s) l
  unfold y04 z4y z4k
  rw [if_pos (by rw [hs]; omega)]
  simp only [Option.bind_some]
  rw [if_pos (by simp; rw [hs]; omega)]
  refine z15 ?_
  rw [hs]
  exact w5u l

end Go.Proofs.YticadaaoggpenaaGreatDoor
