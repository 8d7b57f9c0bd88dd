/- Plain: scopes: the program and the reference agree. -/
import Derived.Test.YtkckjgkfljgjpaaGreatDoorKeZg
import Derived.Test.YtkckjgkfljgjpaaGreatDoorSpZg
namespace Go.Proofs.YtkckjgkfljgjpaaGreatDoor
set_option linter.unusedVariables false
set_option maxRecDepth 20000
def scK (n:Nat) (k:Nat) (p:Bs):Bool:=keyP p || (decide (p=[42]) && decide ((k:Int)=(n:Int) - 1))
def scP (s:Bs):Bool:=allI (scK (spl 58 s).length) 0 (spl 58 s) && decide (((spl 58 s).length:Int)≤10)
theorem x7q (s:Bs) (h:s.length≤1000000):y1p s=some (scP s):=by
 have hn:=y41 58 s
 unfold y1p z2s
 rw [if_pos ⟨by omega,by simp⟩,y72]
 simp only [Option.bind_some]
 rw [if_pos (by omega),y2z (p:=scK (spl 58 s).length) (r0:=false) (e:=decide (((spl 58 s).length:Int)≤10)) rfl (spl 58 s) 0 fun j x _ hx => ?_]
 ·unfold scP
  cases allI (scK (spl 58 s).length) 0 (spl 58 s) <;> simp
 ·have hx:(spl 58 s)[j]?=some x:=by simpa using hx
  have hl:=y3f 58 s x (List.mem_of_getElem? hx)
  unfold y2c
  rw [y4z x (by omega),y1g (by omega)]
  simp only [Option.bind_some]
  unfold scK
  cases keyP x <;> cases (decide (x=[42]) && decide ((j:Int)=((spl 58 s).length:Int) - 1)) <;> rfl
theorem w1l (s:Bs) (h:s.length≤1000000):y01 s=some (scP s):=by
 have hn:=y41 58 s
 unfold y01 z2s
 rw [if_pos ⟨by omega,by simp⟩,y72]
 simp only [Option.bind_some]
 rw [if_pos (by omega),y2z (p:=scK (spl 58 s).length) (r0:=false) (e:=decide (((spl 58 s).length:Int)≤10)) rfl (spl 58 s) 0 fun j x _ hx => ?_]
 ·unfold scP
  cases allI (scK (spl 58 s).length) 0 (spl 58 s) <;> simp
 ·have hx:(spl 58 s)[j]?=some x:=by simpa using hx
  have hl:=y3f 58 s x (List.mem_of_getElem? hx)
  have hj:=y2u hx
  unfold y1z
  rw [y8h x (by omega),y1g (by omega)]
  simp only [Option.bind_some]
  unfold scK
  have e1:decide ((j:Int) < ((spl 58 s).length:Int) - 1) = !decide ((j:Int)=((spl 58 s).length:Int) - 1):=by
   by_cases hq:(j:Int)=((spl 58 s).length:Int) - 1
   ·simp [hq]
   ·have:(j:Int) < ((spl 58 s).length:Int) - 1:=by omega
    simp [hq,this]
  have e2:decide (x≠[42]) = !decide (x=[42]):=by simp
  rw [e1,e2]
  cases keyP x <;> cases decide (x=[42]) <;> cases decide ((j:Int)=((spl 58 s).length:Int) - 1) <;> rfl
def Sh (l:List Bs):Prop:=l.length≤1000000∧∀ x,x∈l→x.length≤1000000
def scF (l:List Bs):Int:=if 50 < l.length then 2 else if l.all scP=true then 0 else 3
theorem w4p (l:List Bs) (h:Sh l):z9n l=some (scF l):=by
 have hn:=h.1
 unfold z9n scF
 by_cases h1:50 < l.length
 ·rw [if_pos (by simp; omega),if_pos h1]
 ·rw [if_neg (by simp; omega),if_neg h1,if_pos (by omega),y2z (p:=fun _ x=>scP x) (r0:=(3:Int)) (e:=(0:Int)) rfl l 0 fun j x _ hx => ?_]
  ·rw [y6q]
  ·have hx:l[j]?=some x:=by simpa using hx
   unfold y0d
   rw [x7q x (h.2 x (List.mem_of_getElem? hx))]
   simp only [Option.bind_some]
   cases scP x <;> rfl
theorem x9t (l:List Bs) (h:Sh l):z7v l=some (scF l):=by
 have hn:=h.1
 unfold z7v scF
 by_cases h1:50 < l.length
 ·rw [if_pos (by simp; omega),if_pos h1]
 ·rw [if_neg (by simp; omega),if_neg h1,if_pos (by omega),y2z (p:=fun _ x=>scP x) (r0:=(3:Int)) (e:=(0:Int)) rfl l 0 fun j x _ hx => ?_]
  ·rw [y6q]
  ·have hx:l[j]?=some x:=by simpa using hx
   unfold z83
   rw [w1l x (h.2 x (List.mem_of_getElem? hx))]
   simp only [Option.bind_some]
   cases scP x <;> rfl
def or2 (a b:Int):Int:=if a≠0 then a else b
def cvB (a b:Bs):Bool:=if Lib.hasSuffix a [42]=true then Lib.hasPrefix b (Lib.trimSuffix a [42]) else decide (a=b)
theorem x8h {a:Bs} (h:Lib.hasSuffix a [42]=true):∃ g,a=g++[42]∧Lib.trimSuffix a [42]=g:=by
 unfold Lib.hasSuffix at h
 rw [List.isSuffixOf_iff_suffix] at h
 obtain ⟨g,hg⟩:=h
 refine ⟨g,hg.symm,?_⟩
 unfold Lib.trimSuffix Lib.hasSuffix
 rw [if_pos (by rw [List.isSuffixOf_iff_suffix]; exact ⟨g,hg⟩),← hg]
 simp
theorem w2g (a:Bs):cvB a a=true:=by
 unfold cvB
 split
 ·rename_i h
  obtain ⟨g,h1,h2⟩:=x8h h
  rw [h2]
  unfold Lib.hasPrefix
  rw [List.isPrefixOf_iff_prefix]
  exact ⟨[42],h1.symm⟩
 ·simp
theorem w3n (a b:Bs) (h:a.length≤1000000):y1q a b=some (cvB a b):=by
 unfold y1q z6s z9o cvB
 rw [if_pos (by omega)]
 simp only [Option.bind_some]
 cases Lib.hasSuffix a [42] <;> simp
theorem x93 (a b:Bs) (h:a.length≤1000000):y16 a b=some (cvB a b):=by
 unfold y16 z6s z9o y0g
 by_cases h1:a=b
 ·subst h1
  rw [if_pos (by simp),w2g]
 ·rw [if_neg (by simpa using h1),if_pos (by omega)]
  simp only [Option.bind_some]
  unfold cvB
  cases Lib.hasSuffix a [42] <;> simp [h1]
def cvL (l:List Bs) (s:Bs):Bool:=l.any fun h=>cvB h s
def cvA (have_ want:List Bs):Bool:=want.all fun w=>cvL have_ w
theorem x96 (l:List Bs) (p:Bs→Option Bool) (q:Bs→Bool) (h:l.length≤1000000) (hp:∀ x,x∈l→p x=some (q x)):z1r l p=some (l.any q):=
 x2d l q (by omega) hp
def lsI (l:List Bs) (s:Bs):Prop:=s∈l∧∀ h,h∈l→h≠s→cvB h s=false
def lsQ (l:List Bs) (s:Bs):Bool:=l.any fun h=>decide (h≠s) && cvB h s
def lsP (l:List Bs):List Bs:=(setB l).filter fun s => !lsQ (setB l) s
theorem x88 (l:List Bs) (s:Bs):lsQ l s=false↔∀ h,h∈l→h≠s→cvB h s=false:=by
 unfold lsQ
 rw [List.any_eq_false]
 constructor
 ·intro k h hh hne
  have:=k h hh
  simpa [hne] using this
 ·intro k h hh
  by_cases hne:h=s
  ·simp [hne]
  ·simp [hne,k h hh hne]
theorem x46 (l:List Bs) (s:Bs):s∈lsP l↔lsI l s:=by
 unfold lsP lsI
 rw [List.mem_filter,y84,Bool.not_eq_true',x88]
 simp only [y84]
theorem w12 (l:List Bs):Rise (lsP l):=(x20 l).filter _
theorem w30 (l:List Bs):setB (l.filter fun s => !lsQ l s)=lsP l:=
 w1q (x20 _) (w12 l) fun s=>by
  rw [x46,y84,List.mem_filter,Bool.not_eq_true',x88]
  rfl
theorem x47 (l:List Bs):(lsP l).length≤l.length:=by
 have h1:=List.length_filter_le (fun s => !lsQ (setB l) s) (setB l)
 have h2:=x5x l
 unfold lsP; omega
theorem x8w (l:List Bs) (h:l.length≤1000000):y3k l=some (setB l):=by
 unfold y3k z97 z5f z4o
 rw [if_pos (by omega)]
 simp only [Option.bind_some]
 rw [if_pos (by omega)]
 simp only [Option.bind_some]
 rw [if_pos (by simp; omega)]
 rfl
theorem w4l (l:List Bs) (p:Bs→Option Bool) (q:Bs→Bool) (h:l.length≤1000000) (hp:∀ x,x∈l→p x=some (q x)):z4d l p=some (l.filter fun x => !q x):=
 w39 [] l q (by omega) hp
theorem w15 (l:List Bs) (h:Sh l):y2s l=some (lsP l):=by
 have hs:=x5x l
 have hn:=h.1
 have h2:Sh (setB l):=⟨by omega,fun x hx=>h.2 x ((y84 l x).1 hx)⟩
 unfold y2s
 rw [x8w l hn]
 simp only [Option.bind_some]
 unfold z97
 rw [if_pos (by omega)]
 simp only [Option.bind_some]
 rw [w4l (setB l) _ (lsQ (setB l)) h2.1 fun x hx => ?_]
 ·rfl
 ·unfold y1o
  rw [x96 (setB l) _ (fun h=>decide (h≠x) && cvB h x) h2.1 fun y hy => ?_]
  ·rfl
  ·unfold y0i z8j
   rw [x93 y x (h2.2 y hy)]
   simp only [Option.bind_some]
   cases decide (y≠x) <;> simp
theorem y75 (l:List Bs) (h:Sh l):z8m l=some (lsP l):=by
 have hn:=h.1
 unfold z8m
 rw [if_pos (by omega)]
 refine w3t (x41 (I:=fun k (s:List Bs)=>s=(l.take k).filter fun s => !lsQ l s) l 0 [] (by simp) ?_ ?_)
 ·intro j x s _ hx hs
  have hx:l[j]?=some x:=by simpa using hx
  have hj:=y2u hx
  unfold y0y z74
  rw [x96 l _ (fun h=>decide (h≠x) && cvB h x) hn fun y hy => ?_]
  ·simp only [Option.bind_some]
   have hlen:=List.length_filter_le (fun s => !lsQ l s) (l.take j)
   rw [List.length_take] at hlen
   have e1:(l.take (j+1)).filter (fun s => !lsQ l s)=s++(if lsQ l x=false then [x] else []):=by
    rw [List.take_add_one,hx,List.filter_append,hs]
    cases hq:lsQ l x <;> simp [hq]
   show Ok (if (!lsQ l x)=true then _ else _) _
   cases hq:lsQ l x
   ·rw [if_pos (by simp),if_pos (by rw [hs]; omega)]
    refine z1z ?_
    show s++[x]=_
    rw [e1,hq]; rfl
   ·rw [if_neg (by simp)]
    refine z1z ?_
    show s=_
    rw [e1,hq]; simp
  ·unfold z8x z64
   rw [w3n y x (h.2 y hy)]
   simp only [Option.bind_some]
   cases decide (y≠x) <;> simp
 ·intro s hs
  have hs:s=l.filter fun s => !lsQ l s:=by simpa using hs
  have hlen:=List.length_filter_le (fun s => !lsQ l s) l
  unfold y0z z5f z4o
  rw [if_pos (by rw [hs]; omega)]
  simp only [Option.bind_some]
  rw [if_pos (by simp; rw [hs]; omega)]
  refine z1z ?_
  rw [hs]
  exact w30 l

end Go.Proofs.YtkckjgkfljgjpaaGreatDoor
