/- Plain: scopes: the program and the reference agree. -/
import Derived.Test.YtihjlkocfeoelaaGreatDoorKeZe
import Derived.Test.YtihjlkocfeoelaaGreatDoorSpZe
namespace Go.Proofs.YtihjlkocfeoelaaGreatDoor
set_option linter.unusedVariables false
set_option maxRecDepth 20000
def scK (n:Nat) (k:Nat) (p:Bs):Bool:=keyP p || (decide (p=[42]) && decide ((k:Int)=(n:Int) - 1))
def scP (s:Bs):Bool:=allI (scK (spl 58 s).length) 0 (spl 58 s) && decide (((spl 58 s).length:Int)≤10)
theorem y9n (s:Bs) (h:s.length≤1000000):z7k s=some (scP s):=by
 have hn:=y0r 58 s
 unfold z7k z2q
 rw [if_pos ⟨by omega,by simp⟩,y2b]
 simp only [Option.bind_some]
 rw [if_pos (by omega),z9i (p:=scK (spl 58 s).length) (r0:=false) (e:=decide (((spl 58 s).length:Int)≤10)) rfl (spl 58 s) 0 fun j x _ hx => ?_]
 ·unfold scP
  cases allI (scK (spl 58 s).length) 0 (spl 58 s) <;> simp
 ·have hx:(spl 58 s)[j]?=some x:=by simpa using hx
  have hl:=z9s 58 s x (List.mem_of_getElem? hx)
  unfold z74
  rw [y1d x (by omega),z8s (by omega)]
  simp only [Option.bind_some]
  unfold scK
  cases keyP x <;> cases (decide (x=[42]) && decide ((j:Int)=((spl 58 s).length:Int) - 1)) <;> rfl
theorem x3g (s:Bs) (h:s.length≤1000000):z67 s=some (scP s):=by
 have hn:=y0r 58 s
 unfold z67 z2q
 rw [if_pos ⟨by omega,by simp⟩,y2b]
 simp only [Option.bind_some]
 rw [if_pos (by omega),z9i (p:=scK (spl 58 s).length) (r0:=false) (e:=decide (((spl 58 s).length:Int)≤10)) rfl (spl 58 s) 0 fun j x _ hx => ?_]
 ·unfold scP
  cases allI (scK (spl 58 s).length) 0 (spl 58 s) <;> simp
 ·have hx:(spl 58 s)[j]?=some x:=by simpa using hx
  have hl:=z9s 58 s x (List.mem_of_getElem? hx)
  have hj:=y1n hx
  unfold z7r
  rw [y4k x (by omega),z8s (by omega)]
  simp only [Option.bind_some]
  unfold scK
  have e1:decide ((j:Int) < ((spl 58 s).length:Int) - 1) = !decide ((j:Int)=((spl 58 s).length:Int) - 1):=by
   by_cases hq:(j:Int)=((spl 58 s).length:Int) - 1
   ·simp [hq]
   ·have:(j:Int) < ((spl 58 s).length:Int) - 1:=by omega
    simp [hq,this]
  have e2:decide (x≠[42]) = !decide (x=[42]):=by simp
  rw [e1,e2]
  cases keyP x <;> cases decide (x=[42]) <;> cases decide ((j:Int)=((spl 58 s).length:Int) - 1) <;> rfl
def Sh (l:List Bs):Prop:=l.length≤1000000∧∀ x,x∈l→x.length≤1000000
def scF (l:List Bs):Int:=if 50 < l.length then 2 else if l.all scP=true then 0 else 3
theorem x59 (l:List Bs) (h:Sh l):z5z l=some (scF l):=by
 have hn:=h.1
 unfold z5z scF
 by_cases h1:50 < l.length
 ·rw [if_pos (by simp; omega),if_pos h1]
 ·rw [if_neg (by simp; omega),if_neg h1,if_pos (by omega),z9i (p:=fun _ x=>scP x) (r0:=(3:Int)) (e:=(0:Int)) rfl l 0 fun j x _ hx => ?_]
  ·rw [y3b]
  ·have hx:l[j]?=some x:=by simpa using hx
   unfold z6l
   rw [y9n x (h.2 x (List.mem_of_getElem? hx))]
   simp only [Option.bind_some]
   cases scP x <;> rfl
theorem x1j (l:List Bs) (h:Sh l):z44 l=some (scF l):=by
 have hn:=h.1
 unfold z44 scF
 by_cases h1:50 < l.length
 ·rw [if_pos (by simp; omega),if_pos h1]
 ·rw [if_neg (by simp; omega),if_neg h1,if_pos (by omega),z9i (p:=fun _ x=>scP x) (r0:=(3:Int)) (e:=(0:Int)) rfl l 0 fun j x _ hx => ?_]
  ·rw [y3b]
  ·have hx:l[j]?=some x:=by simpa using hx
   unfold z5t
   rw [x3g x (h.2 x (List.mem_of_getElem? hx))]
   simp only [Option.bind_some]
   cases scP x <;> rfl
def or2 (a b:Int):Int:=if a≠0 then a else b
def cvB (a b:Bs):Bool:=if Lib.hasSuffix a [42]=true then Lib.hasPrefix b (Lib.trimSuffix a [42]) else decide (a=b)
theorem x0e {a:Bs} (h:Lib.hasSuffix a [42]=true):∃ g,a=g++[42]∧Lib.trimSuffix a [42]=g:=by
 unfold Lib.hasSuffix at h
 rw [List.isSuffixOf_iff_suffix] at h
 obtain ⟨g,hg⟩:=h
 refine ⟨g,hg.symm,?_⟩
 unfold Lib.trimSuffix Lib.hasSuffix
 rw [if_pos (by rw [List.isSuffixOf_iff_suffix]; exact ⟨g,hg⟩),← hg]
 simp
theorem x38 (a:Bs):cvB a a=true:=by
 unfold cvB
 split
 ·rename_i h
  obtain ⟨g,h1,h2⟩:=x0e h
  rw [h2]
  unfold Lib.hasPrefix
  rw [List.isPrefixOf_iff_prefix]
  exact ⟨[42],h1.symm⟩
 ·simp
theorem x5c (a b:Bs) (h:a.length≤1000000):z7l a b=some (cvB a b):=by
 unfold z7l z4g z50 cvB
 rw [if_pos (by omega)]
 simp only [Option.bind_some]
 cases Lib.hasSuffix a [42] <;> simp
theorem x1p (a b:Bs) (h:a.length≤1000000):z7y a b=some (cvB a b):=by
 unfold z7y z4g z50 z6p
 by_cases h1:a=b
 ·subst h1
  rw [if_pos (by simp),x38]
 ·rw [if_neg (by simpa using h1),if_pos (by omega)]
  simp only [Option.bind_some]
  unfold cvB
  cases Lib.hasSuffix a [42] <;> simp [h1]
def cvL (l:List Bs) (s:Bs):Bool:=l.any fun h=>cvB h s
def cvA (have_ want:List Bs):Bool:=want.all fun w=>cvL have_ w
theorem x1r (l:List Bs) (p:Bs→Option Bool) (q:Bs→Bool) (h:l.length≤1000000) (hp:∀ x,x∈l→p x=some (q x)):z1a l p=some (l.any q):=
 y7o l q (by omega) hp
def lsI (l:List Bs) (s:Bs):Prop:=s∈l∧∀ h,h∈l→h≠s→cvB h s=false
def lsQ (l:List Bs) (s:Bs):Bool:=l.any fun h=>decide (h≠s) && cvB h s
def lsP (l:List Bs):List Bs:=(setB l).filter fun s => !lsQ (setB l) s
theorem x0w (l:List Bs) (s:Bs):lsQ l s=false↔∀ h,h∈l→h≠s→cvB h s=false:=by
 unfold lsQ
 rw [List.any_eq_false]
 constructor
 ·intro k h hh hne
  have:=k h hh
  simpa [hne] using this
 ·intro k h hh
  by_cases hne:h=s
  ·simp [hne]
  ·simp [hne,k h hh hne]
theorem y7f (l:List Bs) (s:Bs):s∈lsP l↔lsI l s:=by
 unfold lsP lsI
 rw [List.mem_filter,y24,Bool.not_eq_true',x0w]
 simp only [y24]
theorem x3y (l:List Bs):Rise (lsP l):=(y5z l).filter _
theorem x5p (l:List Bs):setB (l.filter fun s => !lsQ l s)=lsP l:=
 x3l (y5z _) (x3y l) fun s=>by
  rw [y7f,y24,List.mem_filter,Bool.not_eq_true',x0w]
  rfl
theorem y7g (l:List Bs):(lsP l).length≤l.length:=by
 have h1:=List.length_filter_le (fun s => !lsQ (setB l) s) (setB l)
 have h2:=y74 l
 unfold lsP; omega
theorem x0q (l:List Bs) (h:l.length≤1000000):z8x l=some (setB l):=by
 unfold z8x z6h z3m z26
 rw [if_pos (by omega)]
 simp only [Option.bind_some]
 rw [if_pos (by omega)]
 simp only [Option.bind_some]
 rw [if_pos (by simp; omega)]
 rfl
theorem x56 (l:List Bs) (p:Bs→Option Bool) (q:Bs→Bool) (h:l.length≤1000000) (hp:∀ x,x∈l→p x=some (q x)):z2w l p=some (l.filter fun x => !q x):=
 x5y [] l q (by omega) hp
theorem x31 (l:List Bs) (h:Sh l):z8g l=some (lsP l):=by
 have hs:=y74 l
 have hn:=h.1
 have h2:Sh (setB l):=⟨by omega,fun x hx=>h.2 x ((y24 l x).1 hx)⟩
 unfold z8g
 rw [x0q l hn]
 simp only [Option.bind_some]
 unfold z6h
 rw [if_pos (by omega)]
 simp only [Option.bind_some]
 rw [x56 (setB l) _ (lsQ (setB l)) h2.1 fun x hx => ?_]
 ·rfl
 ·unfold z7j
  rw [x1r (setB l) _ (fun h=>decide (h≠x) && cvB h x) h2.1 fun y hy => ?_]
  ·rfl
  ·unfold z6r z5h
   rw [x1p y x (h2.2 y hy)]
   simp only [Option.bind_some]
   cases decide (y≠x) <;> simp
theorem y2f (l:List Bs) (h:Sh l):z5i l=some (lsP l):=by
 have hn:=h.1
 unfold z5i
 rw [if_pos (by omega)]
 refine x5i (x0u (I:=fun k (s:List Bs)=>s=(l.take k).filter fun s => !lsQ l s) l 0 [] (by simp) ?_ ?_)
 ·intro j x s _ hx hs
  have hx:l[j]?=some x:=by simpa using hx
  have hj:=y1n hx
  unfold z62 z48
  rw [x1r l _ (fun h=>decide (h≠x) && cvB h x) hn fun y hy => ?_]
  ·simp only [Option.bind_some]
   have hlen:=List.length_filter_le (fun s => !lsQ l s) (l.take j)
   rw [List.length_take] at hlen
   have e1:(l.take (j+1)).filter (fun s => !lsQ l s)=s++(if lsQ l x=false then [x] else []):=by
    rw [List.take_add_one,hx,List.filter_append,hs]
    cases hq:lsQ l x <;> simp [hq]
   show Ok (if (!lsQ l x)=true then _ else _) _
   cases hq:lsQ l x
   ·rw [if_pos (by simp),if_pos (by rw [hs]; omega)]
    refine z2x ?_
    show s++[x]=_
    rw [e1,hq]; rfl
   ·rw [if_neg (by simp)]
    refine z2x ?_
    show s=_
    rw [e1,hq]; simp
  ·unfold z5r z4n
   rw [x5c y x (h.2 y hy)]
   simp only [Option.bind_some]
   cases decide (y≠x) <;> simp
 ·intro s hs
  have hs:s=l.filter fun s => !lsQ l s:=by simpa using hs
  have hlen:=List.length_filter_le (fun s => !lsQ l s) l
  unfold z63 z3m z26
  rw [if_pos (by rw [hs]; omega)]
  simp only [Option.bind_some]
  rw [if_pos (by simp; rw [hs]; omega)]
  refine z2x ?_
  rw [hs]
  exact x5p l

end Go.Proofs.YtihjlkocfeoelaaGreatDoor
