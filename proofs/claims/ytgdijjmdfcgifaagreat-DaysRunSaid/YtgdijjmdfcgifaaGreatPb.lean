/- The abstract machine: two families side by side: boxes, and rows whose headers lie in them. -/
import Derived.Test.YtgdijjmdfcgifaaGreatKr
namespace Go.Proofs.YtgdijjmdfcgifaaGreat
open Go.RowKit Go.ChangeMaps Go.MapKept
set_option linter.unusedVariables false
section
variable {α β:Type} {g g':Nat→α→β} {E:List α} {i j:Nat} {p v:α} {o:β}
end
def fxV (h:Nat→Value) (i:Nat) (v:Value):Nat→Value:=fun j=>if j=i then v else h j
theorem y39 {f:Nat→Nat} {i b m:Nat} (h:m≠i):fx f i b m=f m:=if_neg h
theorem y95 {f:Nat→Nat} {i b:Nat}:fx f i b i=b:=if_pos rfl
theorem z4r {f:Nat→Value} {i m:Nat} {v:Value} (h:m≠i):fxV f i v m=f m:=if_neg h
theorem y05 {f:Nat→Value} {i:Nat} {v:Value}:fxV f i v i=v:=if_pos rfl
section
variable {A B:List AObj} {i j:Nat} {o:AObj} {lits:List (Nat×AObj)} {own:Own}
end
theorem z5y {g:Gh} {w:World} {M M':Blks} {id:Nat} {v:Value} {e:TypeId} {size:Nat} {es:List (List V)} (he:Ext M M' w w) (h:RepO g w M id (.rowA v e size es)) (hM:∀ b,v.ownBlock=some b→¬ M' b):(vlst es).p w M' v:=by
 obtain ⟨xs,q1,q2,q3,q4,q5⟩:=h
 rcases q2.2 with ⟨rfl,hn⟩ | ⟨b,cap,cur,rfl,_,hb,hnc,_,hcs,htk⟩
 ·have:es=[]:=List.eq_nil_of_length_eq_zero hn
  subst this
  exact ⟨none,0,rfl,Nat.le_refl _,fun h=>absurd rfl h⟩
 ·refine ⟨_,cap,rfl,hnc,fun _=>⟨b,0,size,rfl,hM b rfl,cur,e,(0,0),hb,q4,fun k c el u hk hc => ?_⟩⟩
  obtain ⟨x,r1,r2,r3⟩:=q5 k c el u hk hc
  refine ⟨x,?_,u.keep he r2,r3⟩
  rw [← htk,List.getElem?_take] at r1
  split at r1
  ·rw [Nat.zero_add]; simpa using r1
  ·cases r1
end Go.Proofs.YtgdijjmdfcgifaaGreat
