/- The abstract machine: rows that are turned in place (the caller's row, held where it lies); maps that are given up, as data. -/
import Derived.Test.YtnnfdgngnoamoaaGreatDoorMk
namespace Go.Proofs.YtnnfdgngnoamoaaGreatDoor
open Go.RowKit
set_option linter.unusedVariables false
section
variable {P:Program} {f:Nat→Slot} {dst:Option Tmp} {ty:TypeId} {pos:String} {af:Array Edge} {gd:Option (Nat×Bool)}
theorem x8b {vv:Value} {x:Operand} {t e:TypeId} {id n:Nat} {e':TypeId} {size:Nat} {es:List (List V)} (ht:P.underlying t=some (.slice e)) (hx:evS f x = .row id n) (hn:n=es.length) :
  Stp P ⟨dst,.call { callee := .builtin .len,args := #[x],argTypes := #[t] },ty,pos,af,gd⟩ f ⟨false,[(id,some (some (.rowA vv e' size es)))],[],.dat (vint (es.length:Int))⟩:=
 xa fun X own g a w h hob=>by
  have h1:=h x (by simp [Op.operands,Call.operands])
  rw [hx] at h1
  obtain ⟨xs,q1,q2,_⟩:=hob
  subst hn
  have hv:g.sv id es.length=some (a.eval x):=h1
  rw [hv] at q1
  cases q1
  refine ⟨.int .i64 (es.length:Int),?_,rfl⟩
  rcases q2.2 with ⟨e1,e2⟩ | ⟨b,cap,cur,e1,_⟩
  ·simp [execOp,resolve,invoke,builtin,Builtin.len_,e1,e2,run_underlying ht,goInt]
  ·simp [execOp,resolve,invoke,builtin,Builtin.len_,e1,run_underlying ht,goInt]
theorem x04 {vv:Value} {t e e':TypeId} {n n':Nat} {x ix:Operand} {id k:Nat} {es:List (List V)} (h:tyE P t=some (e,n')) (hx:evS f x = .row id n) (hi:evS f ix = .dat (vint (k:Int))) (hn:n=es.length) (hk:k < es.length) :
  Stp P ⟨dst,.indexAddr t x ix,ty,pos,af,gd⟩ f ⟨false,[(id,some (some (.rowA vv e' n' es)))],[],.rptr id n n' k 0⟩:=
 xa fun X own g a w hh hob=>by
  have h2:=hh x (by simp [Op.operands])
  have h3:=vt (hh ix (by simp [Op.operands])) hi
  rw [hx] at h2
  obtain ⟨xs,q1,q2,q3,q4,q5⟩:=hob
  subst hn
  have hv:g.sv id es.length=some (a.eval x):=h2
  rw [hv] at q1
  cases q1
  obtain ⟨i,d1,d2,d3⟩:=z3s h
  rcases q2.2 with ⟨e1,e2⟩ | ⟨b,cap,cur,e1,_⟩
  ·omega
  ·refine ⟨.pointer (some ⟨b,k * n'+0,none⟩),?_,b,cap,by rw [hv,e1],rfl⟩
   have e3:(⟨b,0,none⟩:Addr).add (k * n')=⟨b,k * n'+0,none⟩:=by rw [Addr.add_mid]; simp
   simp [execOp,h3,e1,Instr.indexAt,asIntOf,run_underlying d1,sizeOf,typeInfo,d2,d3,hk,e3]
theorem x8d {vv:Value} {t e e':TypeId} {n n':Nat} {x ix:Operand} {id:Nat} {m:Int} {es:List (List V)} (h:tyE P t=some (e,n')) (hx:evS f x = .row id n) (hi:evS f ix = .dat (vint m)) (hn:n=es.length) (hk:0≤m∧m < (es.length:Int)) :
  Stp P ⟨dst,.indexAddr t x ix,ty,pos,af,gd⟩ f ⟨false,[(id,some (some (.rowA vv e' n' es)))],[],.rptr id n n' m.toNat 0⟩:=
 x04 h hx (by rw [hi,Int.toNat_of_nonneg hk.1]) hn (by omega)
theorem x76 {vv:Value} {t e:TypeId} {n m size:Nat} {p:Operand} {id k:Nat} {es:List (List V)} {el:List V} (ht:tyS P t=some (true,n)) (hp:evS f p = .rptr id m size k 0) (hm:m=es.length) (he:es[k]?=some el) (hn:size=n) :
  Stp P ⟨dst,.load t p,ty,pos,af,gd⟩ f ⟨false,[(id,some (some (.rowA vv e size es)))],[],.dat (vagg el)⟩:=
 xa fun X own g a w hh hob=>by
  have h2:=hh p (by simp [Op.operands])
  rw [hp] at h2
  obtain ⟨b,cap,h3,h4⟩:=h2
  obtain ⟨xs,q1,q2,q3,q4,q5⟩:=hob
  subst hm hn
  rw [h3] at q1
  cases q1
  obtain ⟨d,i,d1,d2,d3,d4⟩:=ko ht
  have hel:=q4 el (List.mem_of_getElem? he)
  have hk:=(List.getElem?_eq_some_iff.1 he).1
  have hl:((xs.drop (k * size)).take size).length=size:=by
   rw [List.length_take,List.length_drop,q2.1]
   have h1:(k+1) * size≤es.length * size:=Nat.mul_le_mul_right _ hk
   have h2:(k+1) * size=k * size+size:=Nat.succ_mul k size
   omega
  refine ⟨.agg ((xs.drop (k * size)).take size).toArray,?_,_,rfl,by rw [hl,hel],fun j u hj => ?_⟩
  ·have hrun:=run_loadAt_mid (P:=P) w b (k * size+0) t ((xs.drop (k * size)).take size) d (fun j v hv=>by
    rw [List.getElem?_take] at hv
    split at hv
    ·rw [List.getElem?_drop] at hv; exact y6w q2 hv
    ·cases hv) d1 d2 (by rw [d3,hl]; simp [d4])
   simp only [execOp,h4,Sem.run_bind,hrun,Result.andThen_ok,Sem.run_pure]
  ·have hjl:=(List.getElem?_eq_some_iff.1 hj).1
   obtain ⟨x,r1,r2,r3⟩:=q5 k j el u he hj
   exact ⟨x,by rw [List.getElem?_take,if_pos (by omega),List.getElem?_drop]; exact r1,r2,r3⟩
theorem x7o {vv:Value} {t e:TypeId} {n m size:Nat} {p x:Operand} {id k:Nat} {es:List (List V)} {us:List V} (ht:tyS P t=some (true,n)) (hp:evS f p = .rptr id m size k 0) (hx:evS f x = .dat (vagg us)) (hm:m=es.length) (hk0:k < es.length) (hu:us.length=n) (hn:size=n) :
  Stp P ⟨dst,.store t p x,ty,pos,af,gd⟩ f ⟨false,[(id,some (some (.rowA vv e size es)))],[(id,some (some (.rowA vv e size (es.set k us))))],.any⟩:=by
 refine Ya fun X f' own g a w hr ho hh => ?_
 have h2:=hh p (by simp [Op.operands])
 have h3:=hh x (by simp [Op.operands])
 rw [hp] at h2
 rw [hx] at h3
 obtain ⟨b,cap,p1,p2⟩:=h2
 obtain ⟨xs,q1,q2,q3,q4,q5⟩:=hr.ob id _ ho
 subst hm
 subst hn
 rw [p1] at q1
 cases q1
 obtain ⟨l',s1,s2⟩:=h3
 have hl':l'.length=size:=by rw [s2.1]; exact hu
 have hone:∀ v∈l',v.oneCell'=true:=fun v hv=>by
  obtain ⟨j,hj,rfl⟩:=List.getElem_of_mem hv
  have:j < us.length:=by have:=s2.1; omega
  obtain ⟨x',t1,_,t3⟩:=s2.2 j us[j] (List.getElem?_eq_getElem this)
  rw [List.getElem?_eq_getElem hj] at t1
  cases t1
  exact t3
 have hpos:(k+1) * size≤es.length * size:=Nat.mul_le_mul_right _ hk0
 have hpos':k * size+size≤es.length * size:=by rw [Nat.succ_mul] at hpos; exact hpos
 rcases q2.2 with ⟨e1,_⟩ | ⟨b',cap',cur,e1,e2,e3,e4,e5,e6,e7⟩
 ·cases e1
 ·cases e1
  have hcur:es.length * size≤cap * size:=Nat.mul_le_mul_right _ e4
  obtain ⟨d,i,d1,d2,d3,d4⟩:=ko ht
  have e3':w.heap[b]?=some (.cells cur.toList.toArray e (0,0)):=by simpa using e3
  have hrun:=run_storeAt_mid (P:=P) w b (k * size) t l'.toArray (fun j hj=>by
   have hj':k * size+j < cur.toList.length:=by simp at hj; simp; omega
   refine ⟨?_,?_⟩
   ·rw [cell_of_row w b _ _ _ _ e3']; simp at hj'; simp [hj']
   ·simp [World.frozen?,e3]) (by rw [d3]; simp [d4,hl']) (by simpa using hone)
  have hsc:(w.setCells b (k * size) l').heap[b]?=some (.cells (cur.toList.take (k * size)++l'++cur.toList.drop (k * size+l'.length)).toArray e (0,0)):=by
   have h5:=x1e (b:=b) (bt:=e) (l:=cur.toList) l' w (k * size) (cur.toList.take (k * size)) (by simp; omega) (by rw [List.take_append_drop]; exact e3') (by simp; omega)
   exact h5
  have hkp:Kp [b] w (w.setCells b (k * size) l'):=by
   have key:∀ (vs:List Value) (w1:World) (o:Nat),Kp [b] w w1→Kp [b] w (w1.setCells b o vs):=by
    intro vs
    induction vs with
    | nil=>intro w1 o hk; rw [World.setCells]; exact hk
    | cons v vs ih=>intro w1 o hk; rw [World.setCells]; exact ih _ _ (hk.set_ (.inl (by simp)) v)
   exact key l' w _ (Kp.refl _ _)
  have hxs:xs.length=es.length * size:=q2.1
  refine ⟨g,w.setCells b (k * size) l',.skip,undef,Gh.le_refl g,fun i hi=>⟨rfl,fun _=>rfl⟩,?_,.inr ⟨rfl,rfl⟩,.inr ⟨_,b,ho,by simp only [obk]; rfl,hkp⟩,fun b' hb => .inr ⟨_,ho,?_⟩,fun e' s' es' h k' hk' => ?_,fun M' he'=>⟨⟨xs.take (k * size)++l'++xs.drop (k * size+size),?_,⟨?_,.inr ⟨b,cap,_,by simp,e2,hsc,by simpa using e4,e5,?_,?_⟩⟩,q3,fun el' hel' => ?_,fun k' c' el' u' hk' hc' => ?_⟩,trivial⟩⟩
  ·simp only [execOp,p2,Nat.add_zero,s1,Sem.run_bind,hrun,Result.andThen_ok,Sem.run_pure]
  ·exact hb
  ·cases h
  ·rw [List.length_set]; exact p1
  ·simp; omega
  ·simp; omega
  ·rw [List.length_set,← e7]
   show List.take (es.length * size) (List.take (k * size) cur.toList++l'++List.drop (k * size+l'.length) cur.toList)=_
   apply List.ext_getElem?
   intro j
   simp only [List.getElem?_take,List.getElem?_append,List.getElem?_drop,List.length_append,List.length_take,Array.length_toList]
   have hm1:min (k * size) cur.size=k * size:=by omega
   have hm2:min (k * size) (min (es.length * size) cur.size)=k * size:=by omega
   simp only [hm1,hm2,hl']
   by_cases hj:j < es.length * size
   ·rw [if_pos hj]
    by_cases h1:j < k * size+size
    ·rw [if_pos h1,if_pos h1]
     by_cases h2:j < k * size
     ·rw [if_pos h2,if_pos h2,if_pos h2,if_pos h2,if_pos hj]
     ·rw [if_neg h2,if_neg h2]
    ·rw [if_neg h1,if_neg h1,if_pos (by omega)]
   ·rw [if_neg hj,if_neg (by omega),if_neg (by omega)]
  ·rcases List.mem_or_eq_of_mem_set hel' with h | rfl
   ·exact q4 el' h
   ·exact hu
  ·have hlx:(xs.take (k * size)).length=k * size:=by rw [List.length_take]; omega
   rw [List.getElem?_set] at hk'
   by_cases hkk:k=k'
   ·subst hkk
    rw [if_pos rfl,if_pos hk0] at hk'
    cases hk'
    obtain ⟨x',t1,t2,t3⟩:=s2.2 c' u' hc'
    have hcl:c' < size:=by have:=(List.getElem?_eq_some_iff.1 hc').1; omega
    refine ⟨x',?_,u'.keep he' t2,t3⟩
    rw [List.getElem?_append_left (by simp only [List.length_append,hlx]; omega),List.getElem?_append_right (by omega),hlx,show k * size+c' - k * size=c' by omega]
    exact t1
   ·rw [if_neg hkk] at hk'
    obtain ⟨x',t1,t2,t3⟩:=q5 k' c' el' u' hk' hc'
    have hcl:c' < size:=by
     have h8:=(List.getElem?_eq_some_iff.1 hc').1
     have h9:=q4 el' (List.mem_of_getElem? hk')
     omega
    refine ⟨x',?_,u'.keep he' t2,t3⟩
    rcases Nat.lt_or_gt_of_ne hkk with h | h
    ·have h5:(k+1) * size≤k' * size:=Nat.mul_le_mul_right _ h
     rw [Nat.succ_mul] at h5
     rw [List.getElem?_append_right (by simp only [List.length_append,hlx]; omega)]
     simp only [List.length_append,hlx,List.getElem?_drop,hl']
     rw [show k * size+size+(k' * size+c' - (k * size+size))=k' * size+c' by omega]
     exact t1
    ·have h5:(k'+1) * size≤k * size:=Nat.mul_le_mul_right _ h
     rw [Nat.succ_mul] at h5
     rw [List.append_assoc,List.getElem?_append_left (by rw [hlx]; omega),List.getElem?_take,if_pos (by omega)]
     exact t1
end
section
variable {α:Type} {C:α→List V} {xs:List α} {P:Program} {f:Nat→Slot} {dst:Option Tmp} {ty:TypeId} {pos:String} {af:Array Edge} {gd:Option (Nat×Bool)}
theorem y0w {vv:Value} {x:Operand} {t e:TypeId} {id n:Nat} {e':TypeId} {size:Nat} (ht:P.underlying t=some (.slice e)) (hx:evS f x = .row id n) (hn:n=xs.length) :
  Stp P ⟨dst,.call { callee := .builtin .len,args := #[x],argTypes := #[t] },ty,pos,af,gd⟩ f ⟨false,[(id,some (some (.rowA vv e' size (xs.map C))))],[],.dat (vint (xs.length:Int))⟩:=
 yf (x8b ht hx (by rw [List.length_map]; exact hn)) (by rw [List.length_map])
theorem x7b {vv:Value} {t e e':TypeId} {n n':Nat} {x ix:Operand} {id k:Nat} {y:α} (h:tyE P t=some (e,n')) (hx:evS f x = .row id n) (hn:n=xs.length) (hi:evS f ix = .dat (vint (k:Int))) (hk:xs[k]?=some y) :
  Stp P ⟨dst,.indexAddr t x ix,ty,pos,af,gd⟩ f ⟨false,[(id,some (some (.rowA vv e' n' (xs.map C))))],[],.rptr id n n' k 0⟩:=
 x04 h hx hi (by rw [List.length_map]; exact hn) (by rw [List.length_map]; exact jg hk)
theorem kh {vv:Value} {t e e':TypeId} {n n':Nat} {x ix:Operand} {id:Nat} {m:Int} {y:α} (h:tyE P t=some (e,n')) (hx:evS f x = .row id n) (hn:n=xs.length) (hi:evS f ix = .dat (vint m)) (hk:at? xs m=some y) :
  Stp P ⟨dst,.indexAddr t x ix,ty,pos,af,gd⟩ f ⟨false,[(id,some (some (.rowA vv e' n' (xs.map C))))],[],.rptr id n n' m.toNat 0⟩:=
 x8d h hx hi (by rw [List.length_map]; exact hn) (by rw [List.length_map]; exact (qi hk).1)
theorem xo {vv:Value} {t e:TypeId} {n m size:Nat} {p:Operand} {id k:Nat} {y:α} (ht:tyS P t=some (true,n)) (hp:evS f p = .rptr id m size k 0) (hm:m=xs.length) (he:xs[k]?=some y) (hn:size=n) :
  Stp P ⟨dst,.load t p,ty,pos,af,gd⟩ f ⟨false,[(id,some (some (.rowA vv e size (xs.map C))))],[],.dat (vagg (C y))⟩:=
 x76 ht hp (by rw [List.length_map]; exact hm) (qg he) hn
theorem z3t {vv:Value} {t e:TypeId} {n m size:Nat} {p x:Operand} {id k:Nat} {y:α} (ht:tyS P t=some (true,n)) (hp:evS f p = .rptr id m size k 0) (hx:evS f x = .dat (vagg (C y))) (hm:m=xs.length) (hk:k < xs.length) (hC:(C y).length=n) (hn:size=n) :
  Stp P ⟨dst,.store t p x,ty,pos,af,gd⟩ f ⟨false,[(id,some (some (.rowA vv e size (xs.map C))))],[(id,some (some (.rowA vv e size ((xs.set k y).map C))))],.any⟩:=by
 have h:=x7o (vv:=vv) (dst:=dst) (ty:=ty) (pos:=pos) (af:=af) (gd:=gd) (e:=e) (es:=xs.map C) ht hp hx (by rw [List.length_map]; exact hm) (by rw [List.length_map]; exact hk) hC hn
 rw [← List.map_set] at h
 exact h
end
section
variable {P:Program} {f:Nat→Slot} {dst:Option Tmp} {ty:TypeId} {pos:String} {af:Array Edge} {gd:Option (Nat×Bool)}
end
section
variable {P:Program} {X:Ctx} {Q:Exit→(Nat→Slot)→Own→Prop} {c:Code} {f:Nat→Slot} {own:Own}
end
section
variable {P:Program} {f:Nat→Slot} {dst:Option Tmp} {ty:TypeId} {pos:String} {af:Array Edge} {gd:Option (Nat×Bool)}
end
end Go.Proofs.YtnnfdgngnoamoaaGreatDoor
