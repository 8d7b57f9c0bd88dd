/- The abstract machine: structs that hold own rows or maps: built, put into a box. -/
import Derived.Test.YtgdijjmdfcgifaaGreatMc
import Derived.Shelf.Vars
import Derived.Lib.SplitLaws
import Derived.Test.YtgdijjmdfcgifaaGreatMl
import Derived.Maps.Keyed
import Derived.DeepKeys5
import Derived.ChangeKeys
namespace Go.Proofs.YtgdijjmdfcgifaaGreat
open Go.RowKit
set_option linter.unusedVariables false
end Go.Proofs.YtgdijjmdfcgifaaGreat
namespace Go.Proofs.YtgdijjmdfcgifaaGreat
open Go.RowKit
set_option linter.unusedVariables false
section
variable {P:Program} {f:Nat→Slot} {dst:Option Tmp} {ty:TypeId} {pos:String} {af:Array Edge} {gd:Option (Nat×Bool)}
theorem x1b {α:Type} {l:List α} {k:Nat} {x:α} (h:l[k]?=some x):k < l.length:=(List.getElem?_eq_some_iff.1 h).1
theorem y60 {b:Nat} {bt:TypeId} {l:List Value}:∀ (vs:List Value) (w1:World) (o:Nat) (pre:List Value),pre.length=o→w1.heap[b]?=some (.cells (pre++l.drop o).toArray bt (0,0))→o+vs.length≤l.length→(w1.setCells b o vs).heap[b]?=some (.cells (pre++vs++l.drop (o+vs.length)).toArray bt (0,0)):=by
 intro vs
 induction vs with
 | nil=>intro w1 o pre hp hb _; rw [World.setCells]; simpa using hb
 | cons v vs ih =>
  intro w1 o pre hp hb hlen
  have hd:l.drop o=l[o]'(by simp at hlen; omega)::l.drop (o+1):=List.drop_eq_getElem_cons (by simp at hlen; omega)
  have h1:=Blk.set_ (show Blk w1 b bt _ from hb) o v
  unfold Blk at h1
  have h2:=ih (w1.setCell ⟨b,o,none⟩ v) (o+1) (pre++[v]) (by simp [hp]) (by
   rw [h1,hd]
   congr 2
   simp only [List.setIfInBounds_toArray]
   congr 1
   rw [List.set_append_right _ _ (by omega),hp,Nat.sub_self,List.set_cons_zero]
   simp) (by simp at hlen ⊢; omega)
  rw [World.setCells]
  simpa [Nat.add_comm,Nat.add_left_comm,Nat.add_assoc] using h2
theorem x37 {t e:TypeId} {n m size:Nat} {p x:Operand} {id k:Nat} {es:List (List V)} {us:List V} (ht:tyS P t=some (true,n)) (hp:evS f p = .rptr id m size k 0) (hx:evS f x = .dat (vagg us)) (hm:m=es.length) (hk0:k < es.length) (hu:us.length=n) (hn:size=n) :
  Stp P ⟨dst,.store t p x,ty,pos,af,gd⟩ f ⟨false,[(id,some (some (.row e size es)))],[(id,some (some (.row e size (es.set k us))))],.any⟩:=by
 refine Qr fun X f' own g a w hr ho hh => ?_
 have h2:=hh p (by simp [Op.operands])
 have h3:=hh x (by simp [Op.operands])
 rw [hp] at h2
 rw [hx] at h3
 obtain ⟨b,cap,p1,p2⟩:=h2
 obtain ⟨u,xs,q1,q2,q3,q4,q5⟩:=hr.ob id _ ho
 subst hm
 subst hn
 rw [p1] at q1
 cases q1
 obtain ⟨l',s1,s2⟩:=h3
 have hl':l'.length=size:=by rw [s2.1]; exact hu
 have hone:∀ v∈l',v.oneCell'=true:=fun v hv=>by
  obtain ⟨j,hj,rfl⟩:=List.getElem_of_mem hv
  have:j < us.length:=by have:=s2.1; omega
  obtain ⟨x',t1,_,t3⟩:=s2.2 j us[j] (List.getElem?_eq_getElem this)
  rw [List.getElem?_eq_getElem hj] at t1
  cases t1
  exact t3
 have hpos:(k+1) * size≤es.length * size:=Nat.mul_le_mul_right _ hk0
 have hpos':k * size+size≤es.length * size:=by rw [Nat.succ_mul] at hpos; exact hpos
 rcases q2.2 with ⟨e1,_⟩ | ⟨b',cap',cur,e1,e2,e3,e4,e5,e6,e7⟩
 ·cases e1
 ·cases e1
  have hcur:es.length * size≤cap * size:=Nat.mul_le_mul_right _ e4
  obtain ⟨d,i,d1,d2,d3,d4⟩:=kr ht
  have e3':w.heap[b]?=some (.cells cur.toList.toArray e (0,0)):=by simpa using e3
  have hrun:=run_storeAt_mid (P:=P) w b (k * size) t l'.toArray (fun j hj=>by
   have hj':k * size+j < cur.toList.length:=by simp at hj; simp; omega
   refine ⟨?_,?_⟩
   ·rw [cell_of_row w b _ _ _ _ e3']; simp at hj'; simp [hj']
   ·simp [World.frozen?,e3]) (by rw [d3]; simp [d4,hl']) (by simpa using hone)
  have hsc:(w.setCells b (k * size) l').heap[b]?=some (.cells (cur.toList.take (k * size)++l'++cur.toList.drop (k * size+l'.length)).toArray e (0,0)):=by
   have h5:=y60 (b:=b) (bt:=e) (l:=cur.toList) l' w (k * size) (cur.toList.take (k * size)) (by simp; omega) (by rw [List.take_append_drop]; exact e3') (by simp; omega)
   exact h5
  have hkp:Kp [b] w (w.setCells b (k * size) l'):=by
   have key:∀ (vs:List Value) (w1:World) (o:Nat),Kp [b] w w1→Kp [b] w (w1.setCells b o vs):=by
    intro vs
    induction vs with
    | nil=>intro w1 o hk; rw [World.setCells]; exact hk
    | cons v vs ih=>intro w1 o hk; rw [World.setCells]; exact ih _ _ (hk.set_ (.inl (by simp)) v)
   exact key l' w _ (Kp.refl _ _)
  have hxs:xs.length=es.length * size:=q2.1
  refine ⟨g,w.setCells b (k * size) l',.skip,undef,Gh.le_refl g,fun i hi=>⟨rfl,fun _=>rfl⟩,?_,.inr ⟨rfl,rfl⟩,.inr ⟨_,b,ho,by simp only [obk]; rw [p1]; rfl,hkp⟩,fun b' hb => .inr ⟨_,ho,?_⟩,fun e' s' es' h k' hk' => ?_,fun M' he'=>⟨⟨.slice (some ⟨b,0,none⟩) es.length cap,xs.take (k * size)++l'++xs.drop (k * size+size),?_,⟨?_,.inr ⟨b,cap,_,by simp,e2,hsc,by simpa using e4,e5,?_,?_⟩⟩,q3,fun el' hel' => ?_,fun k' c' el' u' hk' hc' => ?_⟩,trivial⟩⟩
  ·simp only [execOp,p2,Nat.add_zero,s1,Sem.run_bind,hrun,Result.andThen_ok,Sem.run_pure]
  ·simp only [obk] at hb ⊢; simpa using hb
  ·cases h; exact hr.top id e size es ho k' (by simpa using hk')
  ·rw [List.length_set]; exact p1
  ·simp; omega
  ·simp; omega
  ·rw [List.length_set,← e7]
   show List.take (es.length * size) (List.take (k * size) cur.toList++l'++List.drop (k * size+l'.length) cur.toList)=_
   apply List.ext_getElem?
   intro j
   simp only [List.getElem?_take,List.getElem?_append,List.getElem?_drop,List.length_append,List.length_take,Array.length_toList]
   have hm1:min (k * size) cur.size=k * size:=by omega
   have hm2:min (k * size) (min (es.length * size) cur.size)=k * size:=by omega
   simp only [hm1,hm2,hl']
   by_cases hj:j < es.length * size
   ·rw [if_pos hj]
    by_cases h1:j < k * size+size
    ·rw [if_pos h1,if_pos h1]
     by_cases h2:j < k * size
     ·rw [if_pos h2,if_pos h2,if_pos h2,if_pos h2,if_pos hj]
     ·rw [if_neg h2,if_neg h2]
    ·rw [if_neg h1,if_neg h1,if_pos (by omega)]
   ·rw [if_neg hj,if_neg (by omega),if_neg (by omega)]
  ·rcases List.mem_or_eq_of_mem_set hel' with h | rfl
   ·exact q4 el' h
   ·exact hu
  ·have hlx:(xs.take (k * size)).length=k * size:=by rw [List.length_take]; omega
   rw [List.getElem?_set] at hk'
   by_cases hkk:k=k'
   ·subst hkk
    rw [if_pos rfl,if_pos hk0] at hk'
    cases hk'
    obtain ⟨x',t1,t2,t3⟩:=s2.2 c' u' hc'
    have hcl:c' < size:=by have:=(List.getElem?_eq_some_iff.1 hc').1; omega
    refine ⟨x',?_,u'.keep he' t2,t3⟩
    rw [List.getElem?_append_left (by simp only [List.length_append,hlx]; omega),List.getElem?_append_right (by omega),hlx,show k * size+c' - k * size=c' by omega]
    exact t1
   ·rw [if_neg hkk] at hk'
    obtain ⟨x',t1,t2,t3⟩:=q5 k' c' el' u' hk' hc'
    have hcl:c' < size:=by
     have h8:=(List.getElem?_eq_some_iff.1 hc').1
     have h9:=q4 el' (List.mem_of_getElem? hk')
     omega
    refine ⟨x',?_,u'.keep he' t2,t3⟩
    rcases Nat.lt_or_gt_of_ne hkk with h | h
    ·have h5:(k+1) * size≤k' * size:=Nat.mul_le_mul_right _ h
     rw [Nat.succ_mul] at h5
     rw [List.getElem?_append_right (by simp only [List.length_append,hlx]; omega)]
     simp only [List.length_append,hlx,List.getElem?_drop,hl']
     rw [show k * size+size+(k' * size+c' - (k * size+size))=k' * size+c' by omega]
     exact t1
    ·have h5:(k'+1) * size≤k * size:=Nat.mul_le_mul_right _ h
     rw [Nat.succ_mul] at h5
     rw [List.append_assoc,List.getElem?_append_left (by rw [hlx]; omega),List.getElem?_take,if_pos (by omega)]
     exact t1
theorem x3m {α:Type} {C:α→List V} {xs:List α} {t e:TypeId} {n m size:Nat} {p x:Operand} {id k:Nat} {y:α} (ht:tyS P t=some (true,n)) (hp:evS f p = .rptr id m size k 0) (hx:evS f x = .dat (vagg (C y))) (hm:m=xs.length) (hk:k < xs.length) (hC:(C y).length=n) (hn:size=n) :
  Stp P ⟨dst,.store t p x,ty,pos,af,gd⟩ f ⟨false,[(id,some (some (.row e size (xs.map C))))],[(id,some (some (.row e size ((xs.set k y).map C))))],.any⟩:=by
 have h:=x37 (dst:=dst) (ty:=ty) (pos:=pos) (af:=af) (gd:=gd) (e:=e) (es:=xs.map C) ht hp hx (by rw [List.length_map]; exact hm) (by rw [List.length_map]; exact hk) hC hn
 rw [← List.map_set] at h
 exact h
end
end Go.Proofs.YtgdijjmdfcgifaaGreat
namespace Go.Proofs.YtgdijjmdfcgifaaGreat
open Go.RowKit
set_option linter.unusedVariables false
section
variable {P:Program} {f:Nat→Slot} {dst:Option Tmp} {ty:TypeId} {pos:String} {af:Array Edge} {gd:Option (Nat×Bool)}
theorem x4t {vv:Value} {x:Operand} {t e:TypeId} {id n:Nat} {e':TypeId} {size:Nat} {es:List (List V)} (ht:P.underlying t=some (.slice e)) (hx:evS f x = .row id n) (hn:n=es.length) :
  Stp P ⟨dst,.call { callee := .builtin .len,args := #[x],argTypes := #[t] },ty,pos,af,gd⟩ f ⟨false,[(id,some (some (.rowA vv e' size es)))],[],.dat (vint (es.length:Int))⟩:=
 xv fun X own g a w h hob=>by
  have h1:=h x (by simp [Op.operands,Call.operands])
  rw [hx] at h1
  obtain ⟨xs,q1,q2,_⟩:=hob
  subst hn
  have hv:g.sv id es.length=some (a.eval x):=h1
  rw [hv] at q1
  cases q1
  refine ⟨.int .i64 (es.length:Int),?_,rfl⟩
  rcases q2.2 with ⟨e1,e2⟩ | ⟨b,cap,cur,e1,_⟩
  ·simp [execOp,resolve,invoke,builtin,Builtin.len_,e1,e2,run_underlying ht,goInt]
  ·simp [execOp,resolve,invoke,builtin,Builtin.len_,e1,run_underlying ht,goInt]
theorem y6o {vv:Value} {t e e':TypeId} {n n':Nat} {x ix:Operand} {id k:Nat} {es:List (List V)} (h:tyE P t=some (e,n')) (hx:evS f x = .row id n) (hi:evS f ix = .dat (vint (k:Int))) (hn:n=es.length) (hk:k < es.length) :
  Stp P ⟨dst,.indexAddr t x ix,ty,pos,af,gd⟩ f ⟨false,[(id,some (some (.rowA vv e' n' es)))],[],.rptr id n n' k 0⟩:=
 xv fun X own g a w hh hob=>by
  have h2:=hh x (by simp [Op.operands])
  have h3:=vc (hh ix (by simp [Op.operands])) hi
  rw [hx] at h2
  obtain ⟨xs,q1,q2,q3,q4,q5⟩:=hob
  subst hn
  have hv:g.sv id es.length=some (a.eval x):=h2
  rw [hv] at q1
  cases q1
  obtain ⟨i,d1,d2,d3⟩:=z23 h
  rcases q2.2 with ⟨e1,e2⟩ | ⟨b,cap,cur,e1,_⟩
  ·omega
  ·refine ⟨.pointer (some ⟨b,k * n'+0,none⟩),?_,b,cap,by rw [hv,e1],rfl⟩
   have e3:(⟨b,0,none⟩:Addr).add (k * n')=⟨b,k * n'+0,none⟩:=by rw [Addr.add_mid]; simp
   simp [execOp,h3,e1,Instr.indexAt,asIntOf,run_underlying d1,sizeOf,typeInfo,d2,d3,hk,e3]
theorem z3a {vv:Value} {t e e':TypeId} {n n':Nat} {x ix:Operand} {id:Nat} {m:Int} {es:List (List V)} (h:tyE P t=some (e,n')) (hx:evS f x = .row id n) (hi:evS f ix = .dat (vint m)) (hn:n=es.length) (hk:0≤m∧m < (es.length:Int)) :
  Stp P ⟨dst,.indexAddr t x ix,ty,pos,af,gd⟩ f ⟨false,[(id,some (some (.rowA vv e' n' es)))],[],.rptr id n n' m.toNat 0⟩:=
 y6o h hx (by rw [hi,Int.toNat_of_nonneg hk.1]) hn (by omega)
theorem x4n {vv:Value} {t e:TypeId} {n m size:Nat} {p:Operand} {id k:Nat} {es:List (List V)} {el:List V} (ht:tyS P t=some (true,n)) (hp:evS f p = .rptr id m size k 0) (hm:m=es.length) (he:es[k]?=some el) (hn:size=n) :
  Stp P ⟨dst,.load t p,ty,pos,af,gd⟩ f ⟨false,[(id,some (some (.rowA vv e size es)))],[],.dat (vagg el)⟩:=
 xv fun X own g a w hh hob=>by
  have h2:=hh p (by simp [Op.operands])
  rw [hp] at h2
  obtain ⟨b,cap,h3,h4⟩:=h2
  obtain ⟨xs,q1,q2,q3,q4,q5⟩:=hob
  subst hm hn
  rw [h3] at q1
  cases q1
  obtain ⟨d,i,d1,d2,d3,d4⟩:=kr ht
  have hel:=q4 el (List.mem_of_getElem? he)
  have hk:=(List.getElem?_eq_some_iff.1 he).1
  have hl:((xs.drop (k * size)).take size).length=size:=by
   rw [List.length_take,List.length_drop,q2.1]
   have h1:(k+1) * size≤es.length * size:=Nat.mul_le_mul_right _ hk
   have h2:(k+1) * size=k * size+size:=Nat.succ_mul k size
   omega
  refine ⟨.agg ((xs.drop (k * size)).take size).toArray,?_,_,rfl,by rw [hl,hel],fun j u hj => ?_⟩
  ·have hrun:=run_loadAt_mid (P:=P) w b (k * size+0) t ((xs.drop (k * size)).take size) d (fun j v hv=>by
    rw [List.getElem?_take] at hv
    split at hv
    ·rw [List.getElem?_drop] at hv; exact z9l q2 hv
    ·cases hv) d1 d2 (by rw [d3,hl]; simp [d4])
   simp only [execOp,h4,Sem.run_bind,hrun,Result.andThen_ok,Sem.run_pure]
  ·have hjl:=(List.getElem?_eq_some_iff.1 hj).1
   obtain ⟨x,r1,r2,r3⟩:=q5 k j el u he hj
   exact ⟨x,by rw [List.getElem?_take,if_pos (by omega),List.getElem?_drop]; exact r1,r2,r3⟩
theorem x31 {vv:Value} {t e:TypeId} {n m size:Nat} {p x:Operand} {id k:Nat} {es:List (List V)} {us:List V} (ht:tyS P t=some (true,n)) (hp:evS f p = .rptr id m size k 0) (hx:evS f x = .dat (vagg us)) (hm:m=es.length) (hk0:k < es.length) (hu:us.length=n) (hn:size=n) :
  Stp P ⟨dst,.store t p x,ty,pos,af,gd⟩ f ⟨false,[(id,some (some (.rowA vv e size es)))],[(id,some (some (.rowA vv e size (es.set k us))))],.any⟩:=by
 refine Qr fun X f' own g a w hr ho hh => ?_
 have h2:=hh p (by simp [Op.operands])
 have h3:=hh x (by simp [Op.operands])
 rw [hp] at h2
 rw [hx] at h3
 obtain ⟨b,cap,p1,p2⟩:=h2
 obtain ⟨xs,q1,q2,q3,q4,q5⟩:=hr.ob id _ ho
 subst hm
 subst hn
 rw [p1] at q1
 cases q1
 obtain ⟨l',s1,s2⟩:=h3
 have hl':l'.length=size:=by rw [s2.1]; exact hu
 have hone:∀ v∈l',v.oneCell'=true:=fun v hv=>by
  obtain ⟨j,hj,rfl⟩:=List.getElem_of_mem hv
  have:j < us.length:=by have:=s2.1; omega
  obtain ⟨x',t1,_,t3⟩:=s2.2 j us[j] (List.getElem?_eq_getElem this)
  rw [List.getElem?_eq_getElem hj] at t1
  cases t1
  exact t3
 have hpos:(k+1) * size≤es.length * size:=Nat.mul_le_mul_right _ hk0
 have hpos':k * size+size≤es.length * size:=by rw [Nat.succ_mul] at hpos; exact hpos
 rcases q2.2 with ⟨e1,_⟩ | ⟨b',cap',cur,e1,e2,e3,e4,e5,e6,e7⟩
 ·cases e1
 ·cases e1
  have hcur:es.length * size≤cap * size:=Nat.mul_le_mul_right _ e4
  obtain ⟨d,i,d1,d2,d3,d4⟩:=kr ht
  have e3':w.heap[b]?=some (.cells cur.toList.toArray e (0,0)):=by simpa using e3
  have hrun:=run_storeAt_mid (P:=P) w b (k * size) t l'.toArray (fun j hj=>by
   have hj':k * size+j < cur.toList.length:=by simp at hj; simp; omega
   refine ⟨?_,?_⟩
   ·rw [cell_of_row w b _ _ _ _ e3']; simp at hj'; simp [hj']
   ·simp [World.frozen?,e3]) (by rw [d3]; simp [d4,hl']) (by simpa using hone)
  have hsc:(w.setCells b (k * size) l').heap[b]?=some (.cells (cur.toList.take (k * size)++l'++cur.toList.drop (k * size+l'.length)).toArray e (0,0)):=by
   have h5:=y60 (b:=b) (bt:=e) (l:=cur.toList) l' w (k * size) (cur.toList.take (k * size)) (by simp; omega) (by rw [List.take_append_drop]; exact e3') (by simp; omega)
   exact h5
  have hkp:Kp [b] w (w.setCells b (k * size) l'):=by
   have key:∀ (vs:List Value) (w1:World) (o:Nat),Kp [b] w w1→Kp [b] w (w1.setCells b o vs):=by
    intro vs
    induction vs with
    | nil=>intro w1 o hk; rw [World.setCells]; exact hk
    | cons v vs ih=>intro w1 o hk; rw [World.setCells]; exact ih _ _ (hk.set_ (.inl (by simp)) v)
   exact key l' w _ (Kp.refl _ _)
  have hxs:xs.length=es.length * size:=q2.1
  refine ⟨g,w.setCells b (k * size) l',.skip,undef,Gh.le_refl g,fun i hi=>⟨rfl,fun _=>rfl⟩,?_,.inr ⟨rfl,rfl⟩,.inr ⟨_,b,ho,by simp only [obk]; rfl,hkp⟩,fun b' hb => .inr ⟨_,ho,?_⟩,fun e' s' es' h k' hk' => ?_,fun M' he'=>⟨⟨xs.take (k * size)++l'++xs.drop (k * size+size),?_,⟨?_,.inr ⟨b,cap,_,by simp,e2,hsc,by simpa using e4,e5,?_,?_⟩⟩,q3,fun el' hel' => ?_,fun k' c' el' u' hk' hc' => ?_⟩,trivial⟩⟩
  ·simp only [execOp,p2,Nat.add_zero,s1,Sem.run_bind,hrun,Result.andThen_ok,Sem.run_pure]
  ·exact hb
  ·cases h
  ·rw [List.length_set]; exact p1
  ·simp; omega
  ·simp; omega
  ·rw [List.length_set,← e7]
   show List.take (es.length * size) (List.take (k * size) cur.toList++l'++List.drop (k * size+l'.length) cur.toList)=_
   apply List.ext_getElem?
   intro j
   simp only [List.getElem?_take,List.getElem?_append,List.getElem?_drop,List.length_append,List.length_take,Array.length_toList]
   have hm1:min (k * size) cur.size=k * size:=by omega
   have hm2:min (k * size) (min (es.length * size) cur.size)=k * size:=by omega
   simp only [hm1,hm2,hl']
   by_cases hj:j < es.length * size
   ·rw [if_pos hj]
    by_cases h1:j < k * size+size
    ·rw [if_pos h1,if_pos h1]
     by_cases h2:j < k * size
     ·rw [if_pos h2,if_pos h2,if_pos h2,if_pos h2,if_pos hj]
     ·rw [if_neg h2,if_neg h2]
    ·rw [if_neg h1,if_neg h1,if_pos (by omega)]
   ·rw [if_neg hj,if_neg (by omega),if_neg (by omega)]
  ·rcases List.mem_or_eq_of_mem_set hel' with h | rfl
   ·exact q4 el' h
   ·exact hu
  ·have hlx:(xs.take (k * size)).length=k * size:=by rw [List.length_take]; omega
   rw [List.getElem?_set] at hk'
   by_cases hkk:k=k'
   ·subst hkk
    rw [if_pos rfl,if_pos hk0] at hk'
    cases hk'
    obtain ⟨x',t1,t2,t3⟩:=s2.2 c' u' hc'
    have hcl:c' < size:=by have:=(List.getElem?_eq_some_iff.1 hc').1; omega
    refine ⟨x',?_,u'.keep he' t2,t3⟩
    rw [List.getElem?_append_left (by simp only [List.length_append,hlx]; omega),List.getElem?_append_right (by omega),hlx,show k * size+c' - k * size=c' by omega]
    exact t1
   ·rw [if_neg hkk] at hk'
    obtain ⟨x',t1,t2,t3⟩:=q5 k' c' el' u' hk' hc'
    have hcl:c' < size:=by
     have h8:=(List.getElem?_eq_some_iff.1 hc').1
     have h9:=q4 el' (List.mem_of_getElem? hk')
     omega
    refine ⟨x',?_,u'.keep he' t2,t3⟩
    rcases Nat.lt_or_gt_of_ne hkk with h | h
    ·have h5:(k+1) * size≤k' * size:=Nat.mul_le_mul_right _ h
     rw [Nat.succ_mul] at h5
     rw [List.getElem?_append_right (by simp only [List.length_append,hlx]; omega)]
     simp only [List.length_append,hlx,List.getElem?_drop,hl']
     rw [show k * size+size+(k' * size+c' - (k * size+size))=k' * size+c' by omega]
     exact t1
    ·have h5:(k'+1) * size≤k * size:=Nat.mul_le_mul_right _ h
     rw [Nat.succ_mul] at h5
     rw [List.append_assoc,List.getElem?_append_left (by rw [hlx]; omega),List.getElem?_take,if_pos (by omega)]
     exact t1
end
section
variable {α:Type} {C:α→List V} {xs:List α} {P:Program} {f:Nat→Slot} {dst:Option Tmp} {ty:TypeId} {pos:String} {af:Array Edge} {gd:Option (Nat×Bool)}
theorem Zm {vv:Value} {x:Operand} {t e:TypeId} {id n:Nat} {e':TypeId} {size:Nat} (ht:P.underlying t=some (.slice e)) (hx:evS f x = .row id n) (hn:n=xs.length) :
  Stp P ⟨dst,.call { callee := .builtin .len,args := #[x],argTypes := #[t] },ty,pos,af,gd⟩ f ⟨false,[(id,some (some (.rowA vv e' size (xs.map C))))],[],.dat (vint (xs.length:Int))⟩:=
 yb (x4t ht hx (by rw [List.length_map]; exact hn)) (by rw [List.length_map])
theorem z26 {vv:Value} {t e e':TypeId} {n n':Nat} {x ix:Operand} {id k:Nat} {y:α} (h:tyE P t=some (e,n')) (hx:evS f x = .row id n) (hn:n=xs.length) (hi:evS f ix = .dat (vint (k:Int))) (hk:xs[k]?=some y) :
  Stp P ⟨dst,.indexAddr t x ix,ty,pos,af,gd⟩ f ⟨false,[(id,some (some (.rowA vv e' n' (xs.map C))))],[],.rptr id n n' k 0⟩:=
 y6o h hx hi (by rw [List.length_map]; exact hn) (by rw [List.length_map]; exact wq hk)
theorem jx {vv:Value} {t e e':TypeId} {n n':Nat} {x ix:Operand} {id:Nat} {m:Int} {y:α} (h:tyE P t=some (e,n')) (hx:evS f x = .row id n) (hn:n=xs.length) (hi:evS f ix = .dat (vint m)) (hk:at? xs m=some y) :
  Stp P ⟨dst,.indexAddr t x ix,ty,pos,af,gd⟩ f ⟨false,[(id,some (some (.rowA vv e' n' (xs.map C))))],[],.rptr id n n' m.toNat 0⟩:=
 z3a h hx hi (by rw [List.length_map]; exact hn) (by rw [List.length_map]; exact (yp hk).1)
theorem xq {vv:Value} {t e:TypeId} {n m size:Nat} {p:Operand} {id k c:Nat} {y:α} {u:V} (ht:tyS P t=some (false,n)) (hp:evS f p = .rptr id m size k c) (hm:m=xs.length) (he:xs[k]?=some y) (hu:(C y)[c]?=some u) :
  Stp P ⟨dst,.load t p,ty,pos,af,gd⟩ f ⟨false,[(id,some (some (.rowA vv e size (xs.map C))))],[],.dat u⟩:=
 Qs ht hp (by rw [List.length_map]; exact hm) (yz he) hu
theorem Yk {vv:Value} {t e:TypeId} {n m size:Nat} {p:Operand} {id k:Nat} {y:α} (ht:tyS P t=some (true,n)) (hp:evS f p = .rptr id m size k 0) (hm:m=xs.length) (he:xs[k]?=some y) (hn:size=n) :
  Stp P ⟨dst,.load t p,ty,pos,af,gd⟩ f ⟨false,[(id,some (some (.rowA vv e size (xs.map C))))],[],.dat (vagg (C y))⟩:=
 x4n ht hp (by rw [List.length_map]; exact hm) (yz he) hn
theorem y6c {vv:Value} {t e:TypeId} {n m size:Nat} {p x:Operand} {id k:Nat} {y:α} (ht:tyS P t=some (true,n)) (hp:evS f p = .rptr id m size k 0) (hx:evS f x = .dat (vagg (C y))) (hm:m=xs.length) (hk:k < xs.length) (hC:(C y).length=n) (hn:size=n) :
  Stp P ⟨dst,.store t p x,ty,pos,af,gd⟩ f ⟨false,[(id,some (some (.rowA vv e size (xs.map C))))],[(id,some (some (.rowA vv e size ((xs.set k y).map C))))],.any⟩:=by
 have h:=x31 (vv:=vv) (dst:=dst) (ty:=ty) (pos:=pos) (af:=af) (gd:=gd) (e:=e) (es:=xs.map C) ht hp hx (by rw [List.length_map]; exact hm) (by rw [List.length_map]; exact hk) hC hn
 rw [← List.map_set] at h
 exact h
theorem y6d {vv:Value} {t e:TypeId} {b0:Bool} {m:Nat} {p x:Operand} {id k:Nat} {y:α} {v:V} (ht:tyS P t=some (b0,1)) (hp:evS f p = .rptr id m 1 k 0) (hx:evS f x = .dat v) (h1:v.one=true) (hm:m=xs.length) (hk:k < xs.length) (hC:∀ z,(C z).length=1) (hy:C y=[v]) :
  Stp P ⟨dst,.store t p x,ty,pos,af,gd⟩ f ⟨false,[(id,some (some (.rowA vv e 1 (xs.map C))))],[(id,some (some (.rowA vv e 1 ((xs.set k y).map C))))],.any⟩:=by
 have he:(xs.map C)[k]?=some (C xs[k]):=by rw [List.getElem?_map,List.getElem?_eq_getElem hk]; rfl
 have h:=Ym (vv:=vv) (dst:=dst) (ty:=ty) (pos:=pos) (af:=af) (gd:=gd) (e:=e) ht hp hx h1 (by rw [List.length_map]; exact hm) he (by rw [hC]; rfl)
 have hs:(C xs[k]).set 0 v=C y:=by
  rw [hy]
  obtain ⟨z,hz⟩:∃ z,C xs[k]=[z]:=List.length_eq_one_iff.1 (hC _)
  rw [hz]; rfl
 rw [hs,← List.map_set] at h
 exact h
end
section
variable {P:Program} {f:Nat→Slot} {dst:Option Tmp} {ty:TypeId} {pos:String} {af:Array Edge} {gd:Option (Nat×Bool)}
end
section
variable {P:Program} {X:Ctx} {Q:Exit→(Nat→Slot)→Own→Prop} {c:Code} {f:Nat→Slot} {own:Own}
end
section
variable {P:Program} {f:Nat→Slot} {dst:Option Tmp} {ty:TypeId} {pos:String} {af:Array Edge} {gd:Option (Nat×Bool)}
end
end Go.Proofs.YtgdijjmdfcgifaaGreat
namespace Go.Proofs.YtgdijjmdfcgifaaGreat
open Go.RowKit Go.ChangeMaps Go.MapKept
set_option linter.unusedVariables false
section
variable {κ τ:Type}
structure MT (κ τ:Type) where
 kV:κ→V
 ck:κ→Value
 ok:κ→Prop
 eV:τ→V
 ce:τ→Value
 z:τ
def EnG (T:MT κ τ) (es:Array MapEntry) (clock:Nat) (l:List (κ×τ)):Prop:=
 Stamped es clock∧es.toList.map (fun e=>(e.key,e.val))=l.map (fun p=>(T.ck p.1,T.ce p.2))∧∀ p,p∈l→T.ok p.1
def z3m (T:MT κ τ) (l:List (κ×τ)):Obj→Prop:=fun o=>∃ es clock,o = .map es clock∧EnG T es clock l
structure TyG (P:Program) (t kt et:TypeId) (T:MT κ τ):Prop where
 ut:P.underlying t=some (.map kt et)
 K:Maps.Keyed P kt
 kof:∀ k,T.ok k→∃ kl,keyOf P kt (T.ck k)=some kl
 zv:∀ w,(zeroValue et).run P w = .ok (T.ce T.z) w
 inj:∀ a b,T.ck a=T.ck b→a=b
 kin:∀ k w M v,(T.kV k).p w M v→v=T.ck k
 ein:∀ x w M v,(T.eV x).p w M v→v=T.ce x
 eof:∀ x w M,(T.eV x).p w M (T.ce x)
 kin2:∀ k w M,(T.kV k).p w M (T.ck k)
theorem y4i {T:MT κ τ} {es:Array MapEntry} {clock:Nat} {l:List (κ×τ)} (h:EnG T es clock l) {j:Nat} {e:MapEntry} (he:es.toList[j]?=some e):∃ p,l[j]?=some p∧e.key=T.ck p.1∧e.val=T.ce p.2:=by
 have h1:=congrArg (fun q=>q[j]?) h.2.1
 simp only [List.getElem?_map,he,Option.map_some] at h1
 cases hq:l[j]? with
 | none=>rw [hq] at h1; cases h1
 | some p =>
  rw [hq] at h1
  simp only [Option.map_some,Option.some.injEq,Prod.mk.injEq] at h1
  exact ⟨p,rfl,h1.1,h1.2⟩
theorem w07 {T:MT κ τ} {es:Array MapEntry} {clock:Nat} {l:List (κ×τ)} (h:EnG T es clock l):es.size=l.length:=by
 have:=congrArg List.length h.2.1
 simpa using this
theorem y4h {T:MT κ τ} {es:Array MapEntry} {clock:Nat} {l:List (κ×τ)} (h:EnG T es clock l):l.Pairwise fun p q=>p.1≠q.1:=by
 have h1:(es.toList.map (·.key)).Nodup:=h.1.2.2
 have h2:es.toList.map (·.key)=l.map fun p=>T.ck p.1:=by
  have:=congrArg (List.map Prod.fst) h.2.1
  simpa [List.map_map,Function.comp_def] using this
 rw [h2,List.Nodup,List.pairwise_map] at h1
 exact h1.imp fun {a b} hne e=>hne (congrArg T.ck e)
end
section
variable {κ τ:Type} {P:Program} {t kt et:TypeId} {T:MT κ τ} {w:World} {b:Nat} {es:Array MapEntry} {clock:Nat} {l:List (κ×τ)}
theorem x0p (hT:TyG P t kt et T) (h:EnG T es clock l):∀ e,e∈es.toList→∃ q,keyOf P kt e.key=some q:=fun e he=>by
 obtain ⟨j,hj⟩:=List.getElem?_of_mem he
 obtain ⟨p,p1,p2,_⟩:=y4i h hj
 rw [p2]
 exact hT.kof _ (h.2.2 p (List.mem_of_getElem? p1))
theorem y4g (hT:TyG P t kt et T) (h:EnG T es clock l) {k:κ} (h2:∀ e,e∈es.toList→e.key≠T.ck k):∀ p,p∈l→p.1≠k:=fun p hp e=>by
 obtain ⟨j,hj⟩:=List.getElem?_of_mem hp
 have hlt:j < es.toList.length:=by
  have h1:=w07 h
  have h3:=(List.getElem?_eq_some_iff.1 hj).1
  simp only [Array.length_toList]; omega
 obtain ⟨q,q1,q2,_⟩:=y4i h (List.getElem?_eq_getElem hlt)
 rw [hj] at q1
 cases q1
 exact h2 _ (List.getElem_mem hlt) (by rw [q2,e])
theorem x0q (hT:TyG P t kt et T) (h:EnG T es clock l) {k:κ} {j:Nat} {e0:MapEntry} (h2:es.toList[j]?=some e0) (h3:e0.key=T.ck k):∃ v,l[j]?=some (k,v)∧e0.val=T.ce v:=by
 obtain ⟨p,p1,p2,p3⟩:=y4i h h2
 have e:=hT.inj _ _ (p2.symm.trans h3)
 exact ⟨p.2,by rw [p1,← e],p3⟩
theorem w06 (hT:TyG P t kt et T) (c:Bool) (hb:w.heap[b]?=some (.map es clock)) (h:EnG T es clock l) {k:κ} (hk:T.ok k) :
  (Instr.lookup t (.map (some b)) (T.ck k) c).run P w = .ok (if c then .tuple #[T.ce ((lkG l k).getD T.z),.bool (lkG l k).isSome] else T.ce ((lkG l k).getD T.z)) w:=by
 obtain ⟨kl,hkl⟩:=hT.kof k hk
 rcases hT.K.find w hkl es.toList (x0p hT h) with ⟨h1,h2⟩ | ⟨j,e0,h1,h2,h3⟩
 ·have e1:=(y0e l k (y4g hT h h2)).1
  rw [e1]
  simp [Instr.lookup,run_underlying hT.ut,MapKept.run_getObj_map hb,hT.K.check w _ hkl,h1,hT.zv w,Result.andThen]
 ·obtain ⟨v,v1,v2⟩:=x0q hT h h2 h3
  have e1:=(y0f l j k v (y4h h) v1).1
  rw [e1]
  simp [Instr.lookup,run_underlying hT.ut,MapKept.run_getObj_map hb,hT.K.check w _ hkl,h1,Result.andThen,v2]
theorem w05 (hT:TyG P t kt et T) (hb:w.heap[b]?=some (.map es clock)) (h:EnG T es clock l) {k:κ} (hk:T.ok k) (v:τ) :
  ∃ es' clock',(Instr.mapUpdate t (.map (some b)) (T.ck k) (T.ce v)).run P w = .ok () (setBlock w b (.map es' clock'))∧EnG T es' clock' (ptG l k v):=by
 obtain ⟨kl,hkl⟩:=hT.kof k hk
 rcases hT.K.find w hkl es.toList (x0p hT h) with ⟨h1,h2⟩ | ⟨j,e0,h1,h2,h3⟩
 ·refine ⟨es.push ⟨T.ck k,T.ce v,clock⟩,clock+1,?_,stamped_push h.1 h2,?_,fun p hp => ?_⟩
  ·simp [Instr.mapUpdate,run_underlying hT.ut,MapKept.run_getObj_map hb,hT.K.check w false hkl,h1,MapKept.run_setObj_map _ hb,Result.andThen,setBlock]
  ·rw [(y0e l k (y4g hT h h2)).2,Array.toList_push,List.map_append,List.map_append,h.2.1]; rfl
  ·rw [(y0e l k (y4g hT h h2)).2] at hp
   rcases List.mem_append.1 hp with hp | hp
   ·exact h.2.2 p hp
   ·rw [List.mem_singleton.1 hp]; exact hk
 ·obtain ⟨v0,v1,v2⟩:=x0q hT h h2 h3
  have hj:es[j]?=some e0:=by simpa using h2
  have hlist:(es.modify j (fun e'=>{ e' with key:=T.ck k,val:=T.ce v })).toList=es.toList.set j { e0 with key:=T.ck k,val:=T.ce v }:=by rw [Array.toList_modify,modify_eq_set _ _ _ _ h2]
  refine ⟨es.modify j (fun e'=>{ e' with key:=T.ck k,val:=T.ce v }),clock,?_,stamped_modify h.1 _ _ (fun _ _=>rfl) (fun e' _ he'=>by rw [hj] at he'; cases he'; exact h3.symm),?_,fun p hp => ?_⟩
  ·simp [Instr.mapUpdate,run_underlying hT.ut,MapKept.run_getObj_map hb,hT.K.check w false hkl,h1,hj,h3,hT.K.stays w hkl,MapKept.run_setObj_map _ hb,Result.andThen,setBlock]
  ·rw [(y0f l j k v0 (y4h h) v1).2,hlist,List.map_set,List.map_set,h.2.1]
  ·rw [(y0f l j k v0 (y4h h) v1).2] at hp
   rcases List.mem_or_eq_of_mem_set hp with hp | hp
   ·exact h.2.2 p hp
   ·rw [hp]; exact hk
end
section
variable {κ τ:Type} {P:Program} {f:Nat→Slot} {dst:Option Tmp} {ty:TypeId} {pos:String} {af:Array Edge} {gd:Option (Nat×Bool)}
theorem x4h (id:Nat) {t kt et:TypeId} {T:MT κ τ} (hT:TyG P t kt et T):Stp P ⟨dst,.makeMap t none,ty,pos,af,gd⟩ f ⟨false,[(id,none)],[(id,some (some (.opq none (z3m T []))))],.mp id⟩:=
 y2g id (ob := .map #[] 0) (R:=z3m T []) ⟨#[],0,rfl,stamped_empty 0,rfl,by simp⟩ fun ev w=>by simp [execOp,Instr.makeMap]
def vmpG (T:MT κ τ) (l:List (κ×τ)):V:=
  ⟨fun w M v=>∃ b es clock,v = .map (some b)∧¬ M b∧w.heap[b]?=some (.map es clock)∧EnG T es clock l,true,fun {w w' M M' v} he ⟨b,es,clock,h1,h2,h3,h4⟩ =>
    ⟨b,es,clock,h1,fun hm=>h2 (he.sub b (z14 h3) hm),(he.block b (z14 h3) h2 ⟨_,h3,rfl⟩).trans h3,h4⟩,
   fun _ _ _ v ⟨b,_,_,h1,_⟩=>by rw [h1]; rfl⟩
variable {an:Option Nat} {t kt et:TypeId} {T:MT κ τ} {l:List (κ×τ)} {x y:Operand} {id:Nat}
theorem x4l (k:κ) (hT:TyG P t kt et T) (hx:evS f x = .dat (vmpG T l)) (hy:evS f y = .dat (T.kV k)) (hk:T.ok k) :
  Stp P ⟨dst,.lookup t x y false,ty,pos,af,gd⟩ f ⟨false,[],[],.dat (T.eV ((lkG l k).getD T.z))⟩:=
 ve fun X own g a w h=>by
  have h1:=h x (by simp [Op.operands])
  rw [hx] at h1
  have h3:=h y (by simp [Op.operands])
  rw [hy] at h3
  have h3:=hT.kin _ _ _ _ h3
  obtain ⟨b,es,clock,h2,_,q2,q3⟩:=h1
  have:=w06 hT false q2 q3 hk
  simp only [Bool.false_eq_true,if_false] at this
  exact ⟨_,by simp only [execOp,h2,h3,Sem.run_bind,this,Result.andThen_ok,Sem.run_pure],hT.eof _ _ _⟩
theorem x4f {z:Operand} (k:κ) (v:τ) (hT:TyG P t kt et T) (hx:evS f x = .mp id) (hy:evS f y = .dat (T.kV k)) (hz:evS f z = .dat (T.eV v)) (hk:T.ok k) :
  Stp P ⟨dst,.mapUpdate t x y z,ty,pos,af,gd⟩ f ⟨false,[(id,some (some (.opq an (z3m T l))))],[(id,some (some (.opq an (z3m T (ptG l k v)))))],.any⟩:=by
 refine y2f fun X own g a w b ob h q1 q2 q3 => ?_
 obtain ⟨b',h1,h2⟩:∃ b,g.bl id=some b∧a.eval x = .map (some b):=by have:=h x (by simp [Op.operands]); rw [hx] at this; exact this
 rw [q1] at h1
 cases h1
 have h3:=h y (by simp [Op.operands])
 rw [hy] at h3
 have h3:=hT.kin _ _ _ _ h3
 have h4:=h z (by simp [Op.operands])
 rw [hz] at h4
 have h4:=hT.ein _ _ _ _ h4
 obtain ⟨es,clock,rfl,q3⟩:=q3
 obtain ⟨es',clock',r1,r2⟩:=w05 hT q2 q3 hk v
 refine ⟨setBlock w b (.map es' clock'),.map es' clock',by simp only [execOp,h2,h3,h4,Sem.run_bind,r1,Result.andThen_ok,Sem.run_pure],Kp.of_grown (row:=some b) ⟨rfl,rfl,rfl,by simp [setBlock],fun i _ hi=>heap_setBlock_other q2 _ (fun e=>hi (by rw [e]))⟩ (by intro g hg; injection hg with hg; subst hg; exact .inl (by simp)),heap_setBlock_same q2 _,es',clock',rfl,r2⟩
end
section
variable {κ τ:Type} {P:Program} {X:Ctx} {Q:Exit→(Nat→Slot)→Own→Prop} {c:Code} {f:Nat→Slot} {own:Own}
end
end Go.Proofs.YtgdijjmdfcgifaaGreat
namespace Go.Proofs.YtgdijjmdfcgifaaGreat
open Go.RowKit Go.ChangeMaps Go.MapKept
theorem x7w {P:Program} {k:TypeId} (hk:P.underlying k=some (.int .i64)) {x:Int} (hx:-9223372036854775808≤x∧x≤9223372036854775807):keyOf P k (.int .i64 x)=some (.int .i64 x):=by
 rw [keyOf_int hk]
 have:(Lit.int .i64 x).wf=true:=by
  have e1:IntKind.min .i64=-9223372036854775808:=by decide
  have e2:IntKind.max .i64=9223372036854775807:=by decide
  simp only [Lit.wf,e1,e2,Bool.and_eq_true,decide_eq_true_eq]
  exact hx
 simp [mapKey,hk,this]
end Go.Proofs.YtgdijjmdfcgifaaGreat
namespace Go.Proofs.YtgdijjmdfcgifaaGreat
open Go.RowKit
set_option linter.unusedVariables false
theorem Rel.view {X:Ctx} {f1 f2:Nat→Slot} {own1 own2:Own} {g:Gh} {a:Act} {w:World} {id:Nat} {an an2:Option Nat} {t:TypeId} {cs:List Slot} (h:Rel X f1 own1 g a w)
  (h1:own1 id=some (some (.box an t cs))) (h2:own2=upl own1 [(id,some (some (.box an2 t cs)))]) (ha:∀ q,an2=some q→∀ b,g.bl id=some b→q=b)
  (hf:∀ k v,RepS g w (Mof X g own1) (f1 k) v→RepS g w (Mof X g own1) (f2 k) v):Rel X f2 own2 g a w:=by
 have key:∀ i o2,own2 i=some (some o2)→∃ o1,own1 i=some (some o1)∧obk g i o1=obk g i o2∧(o1=o2∨(i=id∧o2 = .box an2 t cs∧o1 = .box an t cs)):=fun i o2 ho=>by
  rw [h2] at ho
  by_cases hi:i=id
  ·subst hi
   rw [je] at ho
   cases ho
   exact ⟨_,h1,rfl,.inr ⟨rfl,rfl,rfl⟩⟩
  ·rw [jb hi] at ho
   exact ⟨o2,ho,rfl,.inl rfl⟩
 have key':∀ i o1,own1 i=some (some o1)→∃ o2,own2 i=some (some o2)∧obk g i o2=obk g i o1:=fun i o1 ho=>by
  rw [h2]
  by_cases hi:i=id
  ·subst hi
   rw [h1] at ho; cases ho
   exact ⟨_,je,rfl⟩
  ·exact ⟨o1,by rw [jb hi]; exact ho,rfl⟩
 have hM:Mof X g own2=Mof X g own1:=by
  funext b
  refine propext ⟨fun hb => ?_,fun hb => ?_⟩
  ·rcases hb with hb | ⟨i,o,e1,e2⟩
   ·exact .inl hb
   ·obtain ⟨o1,e3,e4,_⟩:=key i o e1
    exact .inr ⟨i,o1,e3,e4.trans e2⟩
  ·rcases hb with hb | ⟨i,o,e1,e2⟩
   ·exact .inl hb
   ·obtain ⟨o1,e3,e4⟩:=key' i o e1
    exact .inr ⟨i,o1,e3,e4.trans e2⟩
 refine ⟨h.kp,h.m0,h.n,h.df,fun k => ?_,fun i o ho => ?_,fun i i' o o' b e1 e2 e3 e4 => ?_,fun i o b e1 e2 => ?_,fun i hi => ?_,fun i e size es e1 k hk => ?_⟩
 ·rw [hM]; exact hf k _ (h.fr k)
 ·rw [hM]
  obtain ⟨o1,e1,_,e3⟩:=key i o ho
  rcases e3 with rfl | ⟨rfl,rfl,rfl⟩
  ·exact h.ob i _ e1
  ·obtain ⟨b,l,q1,q2,q3⟩:=h.ob i _ e1
   exact ⟨b,l,q1,fun q hq=>ha q hq b q1,q3⟩
 ·obtain ⟨o1,p1,p2,_⟩:=key i o e1
  obtain ⟨o2,p3,p4,_⟩:=key i' o' e2
  exact h.sep i i' o1 o2 b p1 p3 (p2.trans e3) (p4.trans e4)
 ·obtain ⟨o1,p1,p2,_⟩:=key i o e1
  exact h.mine i o1 b p1 (p2.trans e2)
 ·refine h.fresh i ?_
  rw [h2] at hi
  by_cases hii:i=id
  ·subst hii; rw [je] at hi; cases hi
  ·rw [jb hii] at hi; exact hi
 ·obtain ⟨o1,p1,_,p3⟩:=key i _ e1
  rcases p3 with rfl | ⟨_,p4,_⟩
  ·exact h.top i e size es p1 k hk
  ·cases p4
section
variable {P:Program} {f:Nat→Slot} {dst:Option Tmp} {ty:TypeId} {pos:String} {af:Array Edge} {gd:Option (Nat×Bool)}
end
section
variable {P:Program} {f:Nat→Slot} {dst:Option Tmp} {ty:TypeId} {pos:String} {af:Array Edge} {ops:Array Oper} {os:List Oper} {own:Own} {lg:List (List Nat×List Nat)} {K:(Nat→Slot)→Own→List (List Nat×List Nat)→Prop}
end
section
variable {P:Program} {X:Ctx} {Q:Exit→(Nat→Slot)→Own→Prop} {c:Code} {f:Nat→Slot} {own:Own}
theorem y4y (i j id:Nat) {an:Option Nat} {t e:TypeId} {size n:Nat} {cs:List Slot} {es:List (List V)} (hb:own i=some (some (.box an t cs))) (hj:cs[j]?=some (.row id n)) (ho:own id=some (some (.row e size es))) (hn:n=es.length)
  (h:AWP P X c Q f (upl (upl own [(id,some none)]) [(i,some (some (.box an t (cs.set j (.dat (vlst es))))))])):AWP P X c Q f own:=by
 intro g a w hr
 subst hn
 have hne:i≠id:=by rintro rfl; rw [hb] at ho; cases ho
 have key:∀ k o,upl (upl own [(id,some none)]) [(i,some (some (.box an t (cs.set j (.dat (vlst es))))))] k=some (some o)→k≠id∧((k=i∧o = .box an t (cs.set j (.dat (vlst es))))∨(k≠i∧own k=some (some o))):=fun k o hk=>by
  by_cases hki:k=i
  ·subst hki
   rw [je] at hk; cases hk
   exact ⟨hne,.inl ⟨rfl,rfl⟩⟩
  ·rw [jb hki] at hk
   by_cases hkd:k=id
   ·subst hkd; rw [je] at hk; cases hk
   ·rw [jb hkd] at hk
    exact ⟨hkd,.inr ⟨hki,hk⟩⟩
 have keyo:∀ k o,upl (upl own [(id,some none)]) [(i,some (some (.box an t (cs.set j (.dat (vlst es))))))] k=some (some o)→k≠id∧∃ o',own k=some (some o')∧obk g k o'=obk g k o:=fun k o hk=>by
  obtain ⟨h1,h2⟩:=key k o hk
  rcases h2 with ⟨rfl,rfl⟩ | ⟨_,h2⟩
  ·exact ⟨h1,_,hb,rfl⟩
  ·exact ⟨h1,o,h2,rfl⟩
 have hM:∀ b,Mof X g (upl (upl own [(id,some none)]) [(i,some (some (.box an t (cs.set j (.dat (vlst es))))))]) b→Mof X g own b:=fun b hb=>by
  rcases hb with hb | ⟨k,o,h1,h2⟩
  ·exact .inl hb
  ·obtain ⟨_,o',h3,h4⟩:=keyo k o h1
   exact .inr ⟨k,o',h3,h4.trans h2⟩
 have he:Ext (Mof X g own) (Mof X g (upl (upl own [(id,some none)]) [(i,some (some (.box an t (cs.set j (.dat (vlst es))))))])) w w:=⟨Nat.le_refl _,fun _ _ _ _=>rfl,fun b _ hb=>hM b hb⟩
 have hfz:∀ x,g.sv id es.length=some x→(vlst es).p w (Mof X g (upl (upl own [(id,some none)]) [(i,some (some (.box an t (cs.set j (.dat (vlst es))))))])) x:=fun x hv=>by
  obtain ⟨v',xs,q1,q2,q3,q4,q5⟩:=hr.ob id _ ho
  rw [hv] at q1
  cases q1
  rcases q2.2 with ⟨r1,r2⟩ | ⟨b,cap,cur,r1,_,hb2,hnc,_,hcs,htk⟩
  ·have:es=[]:=List.eq_nil_of_length_eq_zero r2
   subst this
   exact ⟨none,0,r1,Nat.le_refl _,fun h=>absurd rfl h⟩
  ·have hobk:obk g id (.row e size es)=some b:=by simp only [obk]; rw [hv,r1]; rfl
   refine ⟨_,cap,r1,hnc,fun _=>⟨b,0,size,rfl,?_,cur,e,(0,0),hb2,q4,fun k c el u hk hc => ?_⟩⟩
   ·rintro (hM0 | ⟨k,o,h1,h2⟩)
    ·have h5:=hr.m0.1 b hM0
     rcases hr.mine id _ b ho hobk with h6 | h6
     ·exact h5.2 h6
     ·omega
    ·obtain ⟨h3,o',h4,h5⟩:=keyo k o h1
     exact h3 (hr.sep k id o' _ b h4 ho (h5.trans h2) hobk)
   ·obtain ⟨x,s1,s2,s3⟩:=q5 k c el u hk hc
    refine ⟨x,?_,u.keep he s2,s3⟩
    rw [← htk,List.getElem?_take] at s1
    split at s1
    ·rw [Nat.zero_add]; simpa using s1
    ·cases s1
 refine h g a w ⟨hr.kp,hr.m0,hr.n,hr.df,fun t'=>(hr.fr t').keep he (Gh.le_refl g),fun k o h1 => ?_,fun k k' o o' b h1 h2 h3 h4 => ?_,fun k o b h1 h2 => ?_,fun k h1 => ?_,fun k e' s' es' h1 => ?_⟩
 ·obtain ⟨_,h2⟩:=key k o h1
  rcases h2 with ⟨rfl,rfl⟩ | ⟨_,h2⟩
  ·obtain ⟨b0,l0,q1,q0,q2,q3,q4⟩:=hr.ob k _ hb
   refine ⟨b0,l0,q1,q0,q2,by rw [List.length_set]; exact q3,fun m s hs => ?_⟩
   rw [List.getElem?_set] at hs
   split at hs
   ·rename_i hjm
    subst hjm
    split at hs
    ·cases hs
     obtain ⟨x,x1,x2,x3⟩:=q4 j _ hj
     exact ⟨x,x1,hfz x x2,x3⟩
    ·cases hs
   ·obtain ⟨x,x1,x2,x3⟩:=q4 m s hs
    exact ⟨x,x1,x2.keep he (Gh.le_refl g),x3⟩
  ·exact (hr.ob k o h2).keep he (Gh.le_refl g) (fun _ _=>rfl)
 ·obtain ⟨_,p,p1,p2⟩:=keyo k o h1
  obtain ⟨_,p',p3,p4⟩:=keyo k' o' h2
  exact hr.sep k k' p p' b p1 p3 (p2.trans h3) (p4.trans h4)
 ·obtain ⟨_,p,p1,p2⟩:=keyo k o h1
  exact hr.mine k p b p1 (p2.trans h2)
 ·by_cases hki:k=i
  ·subst hki; rw [je] at h1; cases h1
  ·rw [jb hki] at h1
   by_cases hkd:k=id
   ·subst hkd; rw [je] at h1; cases h1
   ·rw [jb hkd] at h1; exact hr.fresh k h1
 ·obtain ⟨_,h2⟩:=key k _ h1
  rcases h2 with ⟨_,h2⟩ | ⟨_,h2⟩
  ·cases h2
  ·exact hr.top k e' s' es' h2
end
end Go.Proofs.YtgdijjmdfcgifaaGreat
namespace Go.Proofs.YtgdijjmdfcgifaaGreat
open Go.RowKit
set_option linter.unusedVariables false
abbrev Rds:=List (Nat×Option (Option AObj))
def x1m (rd:Rds) (s:Slot) (ws:List Cmp):Prop:=(∃ us,y1n s us∧ws=us.map .dat)∨(∃ id n e size es,s = .row id n∧(id,some (some (.row e size es)))∈rd∧n=es.length∧ws=[.row id n])∨(∃ id,s = .mp id∧ws=[.mp id])
def RepK (g:Gh) (w:World) (M:Blks) (cs:List Cmp) (l:List Value):Prop:=l.length=cs.length∧∀ (j:Nat) (c:Cmp),cs[j]?=some c→∃ x,l[j]?=some x∧RepC g w M c x∧x.oneCell'=true
theorem w1h {rd:Rds} {g:Gh} {w:World} {M:Blks} {s:Slot} {ws:List Cmp} {v:Value} (h:x1m rd s ws) (hv:RepS g w M s v) (hrd:∀ id e size es,(id,some (some (.row e size es)))∈rd→RepO g w M id (.row e size es)):RepK g w M ws v.cells.toList:=by
 rcases h with ⟨us,h1,rfl⟩ | ⟨id,n,e,size,es,rfl,h1,rfl,rfl⟩ | ⟨id,rfl,rfl⟩
 ·obtain ⟨h2,h3⟩:=y4o h1 hv
  refine ⟨by rw [List.length_map]; exact h2,fun j c hj => ?_⟩
  rw [List.getElem?_map] at hj
  obtain ⟨u,h4,rfl⟩:=Option.map_eq_some_iff.1 hj
  exact h3 j u h4
 ·obtain ⟨v',xs,q1,q2,_⟩:=hrd id e size es h1
  have hv':g.sv id es.length=some v:=hv
  rw [hv'] at q1
  cases q1
  have h1:v.oneCell'=true:=by
   rcases q2.2 with ⟨rfl,_⟩ | ⟨b,cap,cur,rfl,_⟩
   ·rfl
   ·rfl
  rw [y1e h1]
  refine ⟨rfl,fun j c hj => ?_⟩
  cases j with
  | zero=>cases hj; exact ⟨v,rfl,hv',h1⟩
  | succ j=>cases hj
 ·obtain ⟨b,h2,rfl⟩:=hv
  have h1:(Value.map (some b)).oneCell'=true:=rfl
  rw [y1e h1]
  refine ⟨rfl,fun j c hj => ?_⟩
  cases j with
  | zero=>cases hj; exact ⟨_,rfl,⟨b,h2,rfl⟩,h1⟩
  | succ j=>cases hj
def putC (us:List Cmp) (off:Nat) (ws:List Cmp):List Cmp:=us.take off++ws++us.drop (off+ws.length)
def y4r:List Cmp→List (Nat×List Cmp)→List Cmp
 | us,[]=>us
 | us,(off,ws)::ps=>y4r (putC us off ws) ps
def y3c (rd:Rds) (f:Nat→Slot) (pl:Nat→Option (Nat×Nat)) (total:Nat):List (Nat×Operand)→List (Nat×List Cmp)→Prop
 | [],[]=>True
 | (i,x)::ps,(off,ws)::pv=>pl i=some (off,ws.length)∧x1m rd (evS f x) ws∧Nat.ble (off+ws.length) total=true∧y3c rd f pl total ps pv
 | _,_=>False
theorem w0y {rd:Rds} {f:Nat→Slot} {g:Gh} {w:World} {M:Blks} {pl:Nat→Option (Nat×Nat)} {ev:Operand→Value} (hrd:∀ id e size es,(id,some (some (.row e size es)))∈rd→RepO g w M id (.row e size es)):∀ (ps:List (Nat×Operand)) (pv:List (Nat×List Cmp)) (us:List Cmp) (cells:Array Value),y3c rd f pl us.length ps pv→(∀ p,p∈ps→RepS g w M (evS f p.2) (ev p.2))→RepK g w M us cells.toList →
  ∃ cells',Instr.fill pl cells (ps.map fun p=>(p.1,ev p.2))=some cells'∧RepK g w M (y4r us pv) cells'.toList:=by
 intro ps
 induction ps with
 | nil =>
  intro pv us cells h _ hc
  cases pv with
  | nil=>exact ⟨cells,rfl,hc⟩
  | cons _ _=>cases h
 | cons p ps ih =>
  obtain ⟨i,x⟩:=p
  intro pv us cells h hv hc
  cases pv with
  | nil=>cases h
  | cons q pv =>
   obtain ⟨off,ws⟩:=q
   obtain ⟨h1,h2,h3,h4⟩:=h
   have h3:=Nat.le_of_ble_eq_true h3
   have hx:=w1h h2 (hv (i,x) (by simp)) hrd
   have hcl:cells.size=us.length:=by simpa using hc.1
   have hxl:(ev x).cells.size=ws.length:=by simpa using hx.1
   have hus:(putC us off ws).length=us.length:=by unfold putC; simp; omega
   obtain ⟨f1,f2⟩:=y4b (ev x).cells.toList 0 off cells (by simp; omega)
   have hfold:(ev x).cells.zipIdx.foldl (fun cs (p:Value×Nat)=>cs.setIfInBounds (off+p.2) p.1) cells=((ev x).cells.toList.zipIdx 0).foldl (fun cs (p:Value×Nat)=>cs.setIfInBounds (off+p.2) p.1) cells:=by
    rw [← Array.foldl_toList,Array.toList_zipIdx]
   obtain ⟨cells',r1,r2⟩:=ih pv (putC us off ws) (((ev x).cells.toList.zipIdx 0).foldl (fun cs (p:Value×Nat)=>cs.setIfInBounds (off+p.2) p.1) cells) (by rw [hus]; exact h4) (fun p hp=>hv p (List.mem_cons_of_mem _ hp)) ⟨by simp only [Array.length_toList]; rw [f1,hus,hcl],fun j u hj=>by
    rw [Array.getElem?_toList,f2 j]
    simp only [Array.length_toList,Nat.add_zero]
    unfold putC at hj
    by_cases hr:off≤j∧j < off+(ev x).cells.size
    ·rw [if_pos hr]
     rw [List.append_assoc,List.getElem?_append_right (by simp; omega),List.getElem?_append_left (by simp; omega)] at hj
     have:j - (us.take off).length=j - off:=by simp; omega
     rw [this] at hj
     exact hx.2 _ u hj
    ·rw [if_neg hr]
     have hj':us[j]?=some u:=by
      rcases Nat.lt_or_ge j off with hl | hl
      ·rw [List.append_assoc,List.getElem?_append_left (by simp; omega),List.getElem?_take,if_pos hl] at hj
       exact hj
      ·rw [List.getElem?_append_right (by simp; omega),List.getElem?_drop] at hj
       have:off+ws.length+(j - (us.take off++ws).length)=j:=by simp; omega
       rw [this] at hj
       exact hj
     have:=hc.2 j u hj'
     simpa using this⟩
   refine ⟨cells',?_,r2⟩
   simp only [List.map_cons,Instr.fill,h1,hxl,ne_eq,not_true_eq_false,decide_false,Bool.false_or]
   rw [if_neg (by simp; omega),hfold]
   exact r1
section
variable {P:Program} {f:Nat→Slot} {dst:Option Tmp} {ty:TypeId} {pos:String} {af:Array Edge} {gd:Option (Nat×Bool)}
theorem x4e {o:Oper} {s:Slot} (rd:Rds) (h:∀ (X:Ctx) (own:Own) (g:Gh) (a:Act) (w:World),(∀ x,x∈o.op.operands→RepS g w (Mof X g own) (evS f x) (a.eval x))→(∀ id e size es,(id,some (some (.row e size es)))∈rd→RepO g w (Mof X g own) id (.row e size es))→∃ v,(execOp a.eval o).run P w = .ok (.value v) w∧RepS g w (Mof X g own) s v) :
  Stp P o f ⟨false,rd,[],s⟩:=by
 intro X f' own g a w Q hr hd hx hrd K hK
 obtain ⟨v,h1,h2⟩:=h X own g a w (fun x hm=>by rw [← hx x hm]; exact hr.ev x) (fun id e size es hm=>hr.ob id _ (hrd _ hm))
 unfold Oper.wp
 rw [h1]
 exact hK g v w (hr.put o.dst s v hd h2)
theorem y2l {t:TypeId} {ps:Array (Nat×Operand)} {zs:List Value} {pls:List (Nat×Nat)} (rd:Rds) (pv:List (Nat×List Cmp)) (hz:tyZ P t=some zs) (hp:tyP P t=some pls) (h1:zs.all (·.oneCell')=true) (hpv:y3c rd f (fun i=>pls[i]?) zs.length ps.toList pv) :
  Stp P ⟨dst,.build t ps,ty,pos,af,gd⟩ f ⟨false,rd,[],.comp false (y4r (zs.map fun z => .dat (vval z)) pv)⟩:=
 x4e rd fun X own g a w h hrd=>by
  unfold tyZ at hz
  cases hi:P.info? t with
  | none=>rw [hi] at hz; cases hz
  | some i =>
   rw [hi] at hz
   cases hzz:i.zero with
   | none=>simp [hzz] at hz
   | some z =>
    simp [hzz] at hz
    have e1:z.cells=zs.toArray:=by rw [← hz]
    unfold tyP at hp
    cases hu:P.underlying t with
    | none=>rw [hu] at hp; cases hp
    | some d =>
     rw [hu] at hp
     cases d <;> simp only at hp <;> try (cases hp; done)
     rename_i fs
     have hpl:=y7w (P:=P) w fs.toList pls hp
     have hCs:RepK g w (Mof X g own) (zs.map fun z=>Cmp.dat (vval z)) zs.toArray.toList:=by
      refine ⟨by simp,fun j u hj => ?_⟩
      rw [List.getElem?_map] at hj
      cases hq:zs[j]? with
      | none=>rw [hq] at hj; cases hj
      | some x=>rw [hq] at hj; cases hj; exact ⟨x,rfl,rfl,(List.all_eq_true.1 h1) x (List.mem_of_getElem? hq)⟩
     obtain ⟨cells,r1,r2⟩:=w0y (ev:=a.eval) hrd ps.toList pv (zs.map fun z=>Cmp.dat (vval z)) zs.toArray (by simp only [List.length_map]; exact hpv) (fun p hp=>h p.2 (by simp only [Op.operands]; simp; exact ⟨p.1,by simpa using hp⟩)) hCs
     refine ⟨.agg cells,?_,cells.toList,by simp,r2.1,fun j c hj=>let ⟨x,s1,s2,s3⟩:=r2.2 j c hj; ⟨x,s1,s2,fun _=>s3⟩⟩
     have hm:(fs.mapM fun fl=>do pure (fl.offset,← sizeOf fl.type):Sem (Array (Nat×Nat))).run P w = .ok pls.toArray w:=by
      rw [Array.mapM_eq_mapM_toList]
      simp only [map_eq_pure_bind,Sem.run_bind,hpl,Result.andThen_ok,Sem.run_pure]
     have hmap:(ps.map fun (i,x)=>(i,a.eval x)).toList=ps.toList.map fun p=>(p.1,a.eval p.2):=by simp
     have hpls:(fun i:Nat=>pls.toArray[i]?)=fun i:Nat=>pls[i]?:=by funext i; simp
     have hzv:(zeroValue t).run P w = .ok z w:=by simp [zeroValue,typeInfo,hi,hzz]
     simp only [execOp,Instr.build,hzv,Sem.run_bind,Sem.run_pure,Result.andThen_ok,run_underlying hu,hm,e1,hmap,hpls,r1]
theorem y2e {o:Oper} {s s':Slot} {rd wr:Rds} {b:Bool} (h:Stp P o f ⟨b,rd,wr,s⟩) (e:s'=s):Stp P o f ⟨b,rd,wr,s'⟩:=e ▸ h
theorem y2n (id:Nat) {t:TypeId} {x:Operand} {cs:List Cmp} (hx:evS f x = .comp false cs):Stp P ⟨dst,.box t x,ty,pos,af,gd⟩ f ⟨false,[(id,none)],[(id,some (some (.box none t (cs.map Cmp.s))))],.ptr id 0⟩:=by
 refine z8x fun X own g a w h => ?_
 have h2:=h x (by simp [Op.operands])
 rw [hx] at h2
 obtain ⟨l,h3,h4,h5⟩:=h2
 refine ⟨l,?_,by simp [h4],fun j s hs => ?_⟩
 ·simp [execOp,Instr.box,newVar,newRow,h3,Value.cells]
 ·rw [List.getElem?_map] at hs
  obtain ⟨c,h6,rfl⟩:=Option.map_eq_some_iff.1 hs
  obtain ⟨x,q1,q2,q3⟩:=h5 j c h6
  refine ⟨x,q1,?_,q3 rfl⟩
  cases c <;> exact q2
theorem y3w {w:World} (b:Nat):∀ (vs:List Value) (w1:World) (o:Nat),Kp [b] w w1→Kp [b] w (w1.setCells b o vs)
 | [],w1,o,hk=>by rw [World.setCells]; exact hk
 | v::vs,w1,o,hk=>by rw [World.setCells]; exact y3w b vs _ _ (hk.set_ (.inl (by simp)) v)
theorem y4t {bt:TypeId} {b:Nat} (l:List Value):∀ (vs:List Value) (w1:World) (o:Nat) (pre:List Value),pre.length=o→w1.heap[b]?=some (.cells (pre++l.drop o).toArray bt (0,0))→o+vs.length≤l.length→(w1.setCells b o vs).heap[b]?=some (.cells (pre++vs++l.drop (o+vs.length)).toArray bt (0,0))
 | [],w1,o,pre,hp,hb,_=>by rw [World.setCells]; simpa using hb
 | v::vs,w1,o,pre,hp,hb,hlen=>by
  have hd:l.drop o=l[o]'(by simp at hlen; omega)::l.drop (o+1):=List.drop_eq_getElem_cons (by simp at hlen; omega)
  have h1:=Blk.set_ (show Blk w1 b bt _ from hb) o v
  unfold Blk at h1
  have h2:=y4t l vs (w1.setCell ⟨b,o,none⟩ v) (o+1) (pre++[v]) (by simp [hp]) (by
   rw [h1,hd]
   congr 2
   simp only [List.setIfInBounds_toArray]
   congr 1
   rw [List.set_append_right _ _ (by omega),hp,Nat.sub_self,List.set_cons_zero]
   simp) (by simp at hlen ⊢; omega)
  rw [World.setCells]
  simpa [Nat.add_comm,Nat.add_left_comm,Nat.add_assoc] using h2
theorem y5f {β:Type} (f:Nat→β):∀ (l:List (Nat×β)),(∀ q,q∈l→f q.1=q.2)→upl f l=f
 | [],_=>by funext k; rfl
 | (i,v)::l,h=>by
  funext k
  show cond (Nat.beq k i) v (upl f l k)=f k
  rw [y5f f l fun q hq=>h q (List.mem_cons_of_mem _ hq)]
  by_cases hk:k=i
  ·subst hk
   have:Nat.beq k k=true:=by simp
   rw [this]
   exact (h (k,v) (by simp)).symm
  ·rw [qu hk]; rfl
theorem x4b {o:Oper} {rd wr:Rds} {b:Bool} {s:Slot} (h:Stp P o f ⟨b,rd,wr,s⟩) (e:wr=rd):Stp P o f ⟨b,rd,[],s⟩:=by
 intro X f' own g a w Q hr hd hx hrd K hK
 refine h X f' own g a w Q hr hd hx hrd K fun g' v w' h2=>hK g' v w' ?_
 have e2:upl own wr=own:=y5f own wr (by rw [e]; exact hrd)
 have h3:Rel X (updS f' o.dst s) (upl own wr) g' (a.put o.dst v) w':=h2
 rw [e2] at h3
 exact h3
variable {ops:Array Oper} {own:Own} {os:List Oper} {lg:List (List Nat×List Nat)} {K:(Nat→Slot)→Own→List (List Nat×List Nat)→Prop}
theorem y64 {fn:Nat} {xs:List Operand} {ts:Array TypeId} {args:List Slot} {res:Slot} (σ:Nat→Nat) (L:List Ent) (hF:FnG P fn args (vi L) res (we L [])) (hrd:y1l own (rdOf σ L [])) (ha:z4y f σ xs args) (hm:matL σ L) (hb:y1f σ args res L []=true) (hw:wrOf σ L []=rdOf σ L [])
  (h:seqA P ops os (updS f dst (rnS σ res)) own (((vk L []).map σ,[])::lg) K) :
  seqA P ops (⟨dst,.call { callee := .value (.func fn),args:=xs.toArray,argTypes:=ts },ty,pos,af,none⟩::os) f own lg K:=
 ⟨⟨false,rdOf σ L [],[],rnS σ res⟩,⟨rfl,fun _=>⟨x4b (y2k hF ha hm hb) hw,y1k hrd⟩,fun h=>(by cases h),fun k hk=>(by cases hk)⟩,by
  have e1:keys (rdOf σ L [])=(vk L []).map σ:=y29 σ L []
  show seqA P ops os _ _ ((keys (rdOf σ L []),[])::lg) K
  rw [e1]; exact h⟩
end
end Go.Proofs.YtgdijjmdfcgifaaGreat
