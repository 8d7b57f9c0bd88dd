/- A day of calls: the tries that end at a moment. -/
import Derived.Test.YtgdijjmdfcgifaaGreatXdh4
namespace Go.Proofs.YtgdijjmdfcgifaaGreat
open Go.RowKit Go.ChangeMaps Go.MapKept
set_option linter.unusedVariables false
set_option maxRecDepth 100000
def eqE (v3:Int) (x:zt):Bool:=decide (x.end_=v3)
def neE (v3:Int) (x:zt):Bool := !decide (x.end_=v3)
def Zr (v3:Int) (now:List zt) (k:Nat) (x:zt) (s:Unit):Option (Unit ⊕ (Int×List zt)):=if decide (x.end_=v3)=true then some (.inr ((k:Int),now++[x])) else some (.inl ())
def z7k (now:List zt) (s:Unit):Option (Int×List zt):=some (-1,now)
theorem y9z (v3:Int):∀ (ts:List zt) (k:Nat) (s:List zt),(forL (Zr v3 s) (z7k s) k ts ()=some (-1,s)∧ts.filter (neE v3)=ts∧ts.filter (eqE v3)=[]) ∨
  ∃ j x,ts[j]?=some x∧decide (x.end_=v3)=true∧(ts.take j).filter (neE v3)=ts.take j∧(ts.take j).filter (eqE v3)=[]∧forL (Zr v3 s) (z7k s) k ts ()=some (((k+j:Nat):Int),s++[x])
 | [],k,s => .inl ⟨rfl,rfl,rfl⟩
 | x::ts,k,s=>by
  by_cases h:x.end_=v3
  ·refine .inr ⟨0,x,rfl,by simpa using h,rfl,rfl,?_⟩
   show (Zr v3 s k x ()).bind _=_
   unfold Zr
   rw [if_pos (by simpa using h)]; rfl
  ·have e:forL (Zr v3 s) (z7k s) k (x::ts) ()=forL (Zr v3 s) (z7k s) (k+1) ts ():=by
    show (Zr v3 s k x ()).bind _=_
    unfold Zr
    rw [if_neg (by simpa using h)]; rfl
   have n1:neE v3 x=true:=by simp [neE,h]
   have n2:eqE v3 x=false:=by simp [eqE,h]
   rw [e]
   rcases y9z v3 ts (k+1) s with ⟨h1,h2,h3⟩ | ⟨j,y,h1,h2,h3,h4,h5⟩
   ·exact .inl ⟨h1,by rw [List.filter_cons_of_pos n1,h2],by rw [List.filter_cons_of_neg (by simp [n2]),h3]⟩
   ·refine .inr ⟨j+1,y,h1,h2,by rw [List.take_succ_cons,List.filter_cons_of_pos n1,h3],by rw [List.take_succ_cons,List.filter_cons_of_neg (by simp [n2]),h4],?_⟩
    rw [h5]
    congr 3; omega
structure DelI (v3:Int) (ts now:List zt) (i j:Nat) (l nw:List zt):Prop where
 len:l.length=ts.length
 ij:i < j
 jn:j≤ts.length
 kept:l.take i=(ts.take j).filter (neE v3)
 rest:∀ k,j≤k→l[k]?=ts[k]?
 out:nw=now++(ts.take j).filter (eqE v3)
theorem w1b {v3:Int} {ts now:List zt} {i:Nat} {x:zt} (h1:ts[i]?=some x) (h2:decide (x.end_=v3)=true) (h3:(ts.take i).filter (neE v3)=ts.take i) (h4:(ts.take i).filter (eqE v3)=[]):DelI v3 ts now i (i+1) ts (now++[x]):=by
 have hl:=(List.getElem?_eq_some_iff.1 h1).1
 have e:ts.take (i+1)=ts.take i++[x]:=by rw [List.take_add_one,h1]; rfl
 refine ⟨rfl,by omega,hl,?_,fun _ _=>rfl,?_⟩
 ·rw [e,List.filter_append,h3,List.filter_cons_of_neg (by simpa [neE] using h2)]; simp
 ·rw [e,List.filter_append,h4,List.filter_cons_of_pos (by simpa [eqE] using h2)]; simp
theorem DelI.del {v3:Int} {ts now l nw:List zt} {i j:Nat} (h:DelI v3 ts now i j l nw) {x:zt} (hx:l[j]?=some x) (he:decide (x.end_=v3)=true):DelI v3 ts now i (j+1) l (nw++[x]):=by
 rw [h.rest j (Nat.le_refl _)] at hx
 have hl:=(List.getElem?_eq_some_iff.1 hx).1
 have e:ts.take (j+1)=ts.take j++[x]:=by rw [List.take_add_one,hx]; rfl
 refine ⟨h.len,by have:=h.ij; omega,hl,?_,fun k hk=>h.rest k (by omega),?_⟩
 ·rw [e,List.filter_append,List.filter_cons_of_neg (by simpa [neE] using he),h.kept]; simp
 ·rw [e,List.filter_append,List.filter_cons_of_pos (by simpa [eqE] using he),h.out]; simp
theorem DelI.keep {v3:Int} {ts now l nw:List zt} {i j:Nat} (h:DelI v3 ts now i j l nw) {x:zt} (hx:l[j]?=some x) (he:decide (x.end_=v3)=false):DelI v3 ts now (i+1) (j+1) (l.set i x) nw:=by
 rw [h.rest j (Nat.le_refl _)] at hx
 have hl:=(List.getElem?_eq_some_iff.1 hx).1
 have hij:=h.ij
 have hlen:=h.len
 have e:ts.take (j+1)=ts.take j++[x]:=by rw [List.take_add_one,hx]; rfl
 refine ⟨by rw [List.length_set]; exact h.len,by omega,hl,?_,fun k hk => ?_,?_⟩
 ·rw [e,List.filter_append,List.filter_cons_of_pos (by simpa [neE] using he),← h.kept,List.take_add_one,List.getElem?_set_self (by omega),List.take_set_of_le (Nat.le_refl _)]; rfl
 ·rw [List.getElem?_set_ne (by omega)]; exact h.rest k (by omega)
 ·rw [e,List.filter_append,List.filter_cons_of_neg (by simpa [eqE] using he),h.out]; simp
theorem DelI.fin {v3:Int} {ts now l nw:List zt} {i j:Nat} (h:DelI v3 ts now i j l nw) (hj:¬ j < ts.length):l.take i=ts.filter (neE v3)∧nw=now++ts.filter (eqE v3):=by
 have e:j=ts.length:=by have:=h.jn; omega
 have h1:=h.kept
 have h2:=h.out
 rw [e,List.take_length] at h1 h2
 exact ⟨h1,h2⟩
abbrev oN (b:Nat) (hn:Value):AObj := .box (some b) 77 [.dat (vval hn)]
abbrev oW (h:Value) (l:List zt):AObj := .rowA h 122 5 (List.map yv l)
end Go.Proofs.YtgdijjmdfcgifaaGreat
