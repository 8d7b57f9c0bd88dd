/- make, as data: a new slice of zeros that is only read. slices.Reverse at strings. -/
import Derived.Test.YtnnfdgngnoamoaaGreatDoorLibK
namespace Go.Proofs.YtnnfdgngnoamoaaGreatDoor
open Go.RowKit
set_option linter.unusedVariables false
section
variable {P:Program} {f:Nat→Slot} {dst:Option Tmp} {ty:TypeId} {pos:String} {af:Array Edge} {gd:Option (Nat×Bool)}
theorem z3f {α:Type} {l:List α} {k:Nat} {x:α} (h:l[k]?=some x):k < l.length:=(List.getElem?_eq_some_iff.1 h).1
theorem x1e {b:Nat} {bt:TypeId} {l:List Value}:∀ (vs:List Value) (w1:World) (o:Nat) (pre:List Value),pre.length=o→w1.heap[b]?=some (.cells (pre++l.drop o).toArray bt (0,0))→o+vs.length≤l.length→(w1.setCells b o vs).heap[b]?=some (.cells (pre++vs++l.drop (o+vs.length)).toArray bt (0,0)):=by
 intro vs
 induction vs with
 | nil=>intro w1 o pre hp hb _; rw [World.setCells]; simpa using hb
 | cons v vs ih =>
  intro w1 o pre hp hb hlen
  have hd:l.drop o=l[o]'(by simp at hlen; omega)::l.drop (o+1):=List.drop_eq_getElem_cons (by simp at hlen; omega)
  have h1:=Blk.set_ (show Blk w1 b bt _ from hb) o v
  unfold Blk at h1
  have h2:=ih (w1.setCell ⟨b,o,none⟩ v) (o+1) (pre++[v]) (by simp [hp]) (by
   rw [h1,hd]
   congr 2
   simp only [List.setIfInBounds_toArray]
   congr 1
   rw [List.set_append_right _ _ (by omega),hp,Nat.sub_self,List.set_cons_zero]
   simp) (by simp at hlen ⊢; omega)
  rw [World.setCells]
  simpa [Nat.add_comm,Nat.add_left_comm,Nat.add_assoc] using h2
theorem x7p {t e:TypeId} {n m size:Nat} {p x:Operand} {id k:Nat} {es:List (List V)} {us:List V} (ht:tyS P t=some (true,n)) (hp:evS f p = .rptr id m size k 0) (hx:evS f x = .dat (vagg us)) (hm:m=es.length) (hk0:k < es.length) (hu:us.length=n) (hn:size=n) :
  Stp P ⟨dst,.store t p x,ty,pos,af,gd⟩ f ⟨false,[(id,some (some (.row e size es)))],[(id,some (some (.row e size (es.set k us))))],.any⟩:=by
 refine Ya fun X f' own g a w hr ho hh => ?_
 have h2:=hh p (by simp [Op.operands])
 have h3:=hh x (by simp [Op.operands])
 rw [hp] at h2
 rw [hx] at h3
 obtain ⟨b,cap,p1,p2⟩:=h2
 obtain ⟨u,xs,q1,q2,q3,q4,q5⟩:=hr.ob id _ ho
 subst hm
 subst hn
 rw [p1] at q1
 cases q1
 obtain ⟨l',s1,s2⟩:=h3
 have hl':l'.length=size:=by rw [s2.1]; exact hu
 have hone:∀ v∈l',v.oneCell'=true:=fun v hv=>by
  obtain ⟨j,hj,rfl⟩:=List.getElem_of_mem hv
  have:j < us.length:=by have:=s2.1; omega
  obtain ⟨x',t1,_,t3⟩:=s2.2 j us[j] (List.getElem?_eq_getElem this)
  rw [List.getElem?_eq_getElem hj] at t1
  cases t1
  exact t3
 have hpos:(k+1) * size≤es.length * size:=Nat.mul_le_mul_right _ hk0
 have hpos':k * size+size≤es.length * size:=by rw [Nat.succ_mul] at hpos; exact hpos
 rcases q2.2 with ⟨e1,_⟩ | ⟨b',cap',cur,e1,e2,e3,e4,e5,e6,e7⟩
 ·cases e1
 ·cases e1
  have hcur:es.length * size≤cap * size:=Nat.mul_le_mul_right _ e4
  obtain ⟨d,i,d1,d2,d3,d4⟩:=ko ht
  have e3':w.heap[b]?=some (.cells cur.toList.toArray e (0,0)):=by simpa using e3
  have hrun:=run_storeAt_mid (P:=P) w b (k * size) t l'.toArray (fun j hj=>by
   have hj':k * size+j < cur.toList.length:=by simp at hj; simp; omega
   refine ⟨?_,?_⟩
   ·rw [cell_of_row w b _ _ _ _ e3']; simp at hj'; simp [hj']
   ·simp [World.frozen?,e3]) (by rw [d3]; simp [d4,hl']) (by simpa using hone)
  have hsc:(w.setCells b (k * size) l').heap[b]?=some (.cells (cur.toList.take (k * size)++l'++cur.toList.drop (k * size+l'.length)).toArray e (0,0)):=by
   have h5:=x1e (b:=b) (bt:=e) (l:=cur.toList) l' w (k * size) (cur.toList.take (k * size)) (by simp; omega) (by rw [List.take_append_drop]; exact e3') (by simp; omega)
   exact h5
  have hkp:Kp [b] w (w.setCells b (k * size) l'):=by
   have key:∀ (vs:List Value) (w1:World) (o:Nat),Kp [b] w w1→Kp [b] w (w1.setCells b o vs):=by
    intro vs
    induction vs with
    | nil=>intro w1 o hk; rw [World.setCells]; exact hk
    | cons v vs ih=>intro w1 o hk; rw [World.setCells]; exact ih _ _ (hk.set_ (.inl (by simp)) v)
   exact key l' w _ (Kp.refl _ _)
  have hxs:xs.length=es.length * size:=q2.1
  refine ⟨g,w.setCells b (k * size) l',.skip,undef,Gh.le_refl g,fun i hi=>⟨rfl,fun _=>rfl⟩,?_,.inr ⟨rfl,rfl⟩,.inr ⟨_,b,ho,by simp only [obk]; rw [p1]; rfl,hkp⟩,fun b' hb => .inr ⟨_,ho,?_⟩,fun e' s' es' h k' hk' => ?_,fun M' he'=>⟨⟨.slice (some ⟨b,0,none⟩) es.length cap,xs.take (k * size)++l'++xs.drop (k * size+size),?_,⟨?_,.inr ⟨b,cap,_,by simp,e2,hsc,by simpa using e4,e5,?_,?_⟩⟩,q3,fun el' hel' => ?_,fun k' c' el' u' hk' hc' => ?_⟩,trivial⟩⟩
  ·simp only [execOp,p2,Nat.add_zero,s1,Sem.run_bind,hrun,Result.andThen_ok,Sem.run_pure]
  ·simp only [obk] at hb ⊢; simpa using hb
  ·cases h; exact hr.top id e size es ho k' (by simpa using hk')
  ·rw [List.length_set]; exact p1
  ·simp; omega
  ·simp; omega
  ·rw [List.length_set,← e7]
   show List.take (es.length * size) (List.take (k * size) cur.toList++l'++List.drop (k * size+l'.length) cur.toList)=_
   apply List.ext_getElem?
   intro j
   simp only [List.getElem?_take,List.getElem?_append,List.getElem?_drop,List.length_append,List.length_take,Array.length_toList]
   have hm1:min (k * size) cur.size=k * size:=by omega
   have hm2:min (k * size) (min (es.length * size) cur.size)=k * size:=by omega
   simp only [hm1,hm2,hl']
   by_cases hj:j < es.length * size
   ·rw [if_pos hj]
    by_cases h1:j < k * size+size
    ·rw [if_pos h1,if_pos h1]
     by_cases h2:j < k * size
     ·rw [if_pos h2,if_pos h2,if_pos h2,if_pos h2,if_pos hj]
     ·rw [if_neg h2,if_neg h2]
    ·rw [if_neg h1,if_neg h1,if_pos (by omega)]
   ·rw [if_neg hj,if_neg (by omega),if_neg (by omega)]
  ·rcases List.mem_or_eq_of_mem_set hel' with h | rfl
   ·exact q4 el' h
   ·exact hu
  ·have hlx:(xs.take (k * size)).length=k * size:=by rw [List.length_take]; omega
   rw [List.getElem?_set] at hk'
   by_cases hkk:k=k'
   ·subst hkk
    rw [if_pos rfl,if_pos hk0] at hk'
    cases hk'
    obtain ⟨x',t1,t2,t3⟩:=s2.2 c' u' hc'
    have hcl:c' < size:=by have:=(List.getElem?_eq_some_iff.1 hc').1; omega
    refine ⟨x',?_,u'.keep he' t2,t3⟩
    rw [List.getElem?_append_left (by simp only [List.length_append,hlx]; omega),List.getElem?_append_right (by omega),hlx,show k * size+c' - k * size=c' by omega]
    exact t1
   ·rw [if_neg hkk] at hk'
    obtain ⟨x',t1,t2,t3⟩:=q5 k' c' el' u' hk' hc'
    have hcl:c' < size:=by
     have h8:=(List.getElem?_eq_some_iff.1 hc').1
     have h9:=q4 el' (List.mem_of_getElem? hk')
     omega
    refine ⟨x',?_,u'.keep he' t2,t3⟩
    rcases Nat.lt_or_gt_of_ne hkk with h | h
    ·have h5:(k+1) * size≤k' * size:=Nat.mul_le_mul_right _ h
     rw [Nat.succ_mul] at h5
     rw [List.getElem?_append_right (by simp only [List.length_append,hlx]; omega)]
     simp only [List.length_append,hlx,List.getElem?_drop,hl']
     rw [show k * size+size+(k' * size+c' - (k * size+size))=k' * size+c' by omega]
     exact t1
    ·have h5:(k'+1) * size≤k * size:=Nat.mul_le_mul_right _ h
     rw [Nat.succ_mul] at h5
     rw [List.append_assoc,List.getElem?_append_left (by rw [hlx]; omega),List.getElem?_take,if_pos (by omega)]
     exact t1
theorem x68 {α:Type} {C:α→List V} {xs:List α} {t e:TypeId} {n m size:Nat} {p x:Operand} {id k:Nat} {y:α} (ht:tyS P t=some (true,n)) (hp:evS f p = .rptr id m size k 0) (hx:evS f x = .dat (vagg (C y))) (hm:m=xs.length) (hk:k < xs.length) (hC:(C y).length=n) (hn:size=n) :
  Stp P ⟨dst,.store t p x,ty,pos,af,gd⟩ f ⟨false,[(id,some (some (.row e size (xs.map C))))],[(id,some (some (.row e size ((xs.set k y).map C))))],.any⟩:=by
 have h:=x7p (dst:=dst) (ty:=ty) (pos:=pos) (af:=af) (gd:=gd) (e:=e) (es:=xs.map C) ht hp hx (by rw [List.length_map]; exact hm) (by rw [List.length_map]; exact hk) hC hn
 rw [← List.map_set] at h
 exact h
end
end Go.Proofs.YtnnfdgngnoamoaaGreatDoor
