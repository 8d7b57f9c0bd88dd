import Derived.Test.YtbpedjpoikmbjaaGreatDoorMc
import Derived.Shelf.Vars
import Derived.Lib.SplitLaws
import Derived.Test.YtbpedjpoikmbjaaGreatDoorMl
import Derived.Maps.Keyed
import Derived.DeepKeys5
namespace Go.Proofs.YtbpedjpoikmbjaaGreatDoor
open Go.RowKit
set_option linter.unusedVariables false
theorem w7z {P:Program} {fn:Nat} {args:List V} {e:TypeId} (rs:List Bs) (hok:uv P fn=true)
  (h:∀ (M:Blks) (w:World) (vs:List Value),Mlt w M->Ts w M args vs->Calls P fn vs.toArray w λr w'=>r = .returned (.slice (some ⟨w.heap.size,0,none⟩) rs.length rs.length)/\w'=w.alloc (.cells ((rs.map λs=>Value.string ⟨s.toArray⟩)).toArray e)) (hl:rs.length<=maxLen) :
  FnG P fn (args.map .dat) [] (.row 900 rs.length) [(900,.row e 1 (rs.map λs=>[vstr s]))]:=by
 have hk:=w70 (P:=P) (fn:=fn) (args:=args) (e:=e) (size:=1) (es:=rs.map λs=>[vstr s]) hok (by omega) (by simp) λM w vs hM hvs=>?_
 ·rw [List.length_map] at hk;exact hk
 ·refine (h M w vs hM hvs).mono ?_;rintro r w' ⟨rfl,rfl⟩;refine⟨_,rs.map λs=>Value.string ⟨s.toArray⟩,rfl,(Kp.refl [] w).alloc _,?_,λM' _ k c el u hk hc=>?_⟩
  ·simp only [List.length_map];refine⟨by simp,.inr ⟨w.heap.size,rs.length,_,rfl,Nat.le_refl _,heap_alloc_new w _,Nat.le_refl _,hl,by simp,?_⟩⟩;simp only [Nat.mul_one];exact List.take_of_length_le (by simp)
  ·rw [List.getElem?_map] at hk
   cases hq:rs[k]? with
   | none=>rw [hq] at hk;cases hk
   | some y =>
    rw [hq] at hk;cases hk;rcases c with _|c
    ·cases hc;exact⟨Value.string ⟨y.toArray⟩,by rw [Nat.mul_one,Nat.add_zero,List.getElem?_map,hq];rfl,rfl,rfl⟩
    ·simp at hc
theorem w3d {w:World} {M:Blks} (h:Mlt w M):∃ m,w.cell? ⟨0,0,none⟩=some (.int .i64 m):=by
 obtain⟨_,⟨w1,h1,_,h2⟩,_⟩:=h;obtain⟨m,hm⟩:=cell_of_shapedOpen_int (g:=0) (zero:=#[.int .i64 0]) (t:=3) (k:=.i64) (h1 (by decide)) (of_decide_eq_true (by kernel_rfl)) (by kernel_rfl) rfl (by kernel_rfl) (by kernel_rfl) (by kernel_rfl);refine⟨m,?_⟩;have h3:=(h2 0 (by decide)).2;simp only [World.cell?] at hm ⊢;rw [h3];exact hm
end Go.Proofs.YtbpedjpoikmbjaaGreatDoor
namespace Go.Proofs.YtbpedjpoikmbjaaGreatDoor
open Go.RowKit
set_option linter.unusedVariables false
section
variable {P:Program} {f:Nat->Slot} {dst:Option Tmp} {ty:TypeId} {pos:String} {af:Array Edge} {gd:Option (Nat×Bool)}
theorem z38 {α:Type} {l:List α} {k:Nat} {x:α} (h:l[k]?=some x):k < l.length:=(List.getElem?_eq_some_iff.1 h).1
theorem x32 {b:Nat} {bt:TypeId} {l:List Value}:∀ (vs:List Value) (w1:World) (o:Nat) (pre:List Value),pre.length=o->w1.heap[b]?=some (.cells (pre++l.drop o).toArray bt (0,0))->o+vs.length<=l.length->(w1.setCells b o vs).heap[b]?=some (.cells (pre++vs++l.drop (o+vs.length)).toArray bt (0,0)):=by
 intro vs
 induction vs with
 | nil=>intro w1 o pre hp hb _;rw [World.setCells];simpa using hb
 | cons v vs ih =>
  intro w1 o pre hp hb hlen;have hd:l.drop o=l[o]'(by simp at hlen;omega)::l.drop (o+1):=List.drop_eq_getElem_cons (by simp at hlen;omega);have h1:=Blk.set_ (show Blk w1 b bt _ from hb) o v;unfold Blk at h1
  have h2:=ih (w1.setCell ⟨b,o,none⟩ v) (o+1) (pre++[v]) (by simp [hp]) (by
   rw [h1,hd];congr 2;simp only [List.setIfInBounds_toArray];congr 1;rw [List.set_append_right _ _ (by omega),hp,Nat.sub_self,List.set_cons_zero]
   simp) (by simp at hlen ⊢;omega)
  rw [World.setCells];simpa [Nat.add_comm,Nat.add_left_comm,Nat.add_assoc] using h2
theorem x92 {t e:TypeId} {n m size:Nat} {p x:Operand} {id k:Nat} {es:List (List V)} {us:List V} (ht:tyS P t=some (true,n)) (hp:evS f p = .rptr id m size k 0) (hx:evS f x = .dat (vagg us)) (hm:m=es.length) (hk0:k < es.length) (hu:us.length=n) (hn:size=n) :
  Stp P ⟨dst,.store t p x,ty,pos,af,gd⟩ f ⟨false,[(id,some (some (.row e size es)))],[(id,some (some (.row e size (es.set k us))))],.any⟩:=by
 refine Yr λX f' own g a w hr ho hh=>?_;have h2:=hh p (by simp [Op.operands]);have h3:=hh x (by simp [Op.operands]);rw [hp] at h2;rw [hx] at h3;obtain⟨b,cap,p1,p2⟩:=h2;obtain⟨u,xs,q1,q2,q3,q4,q5⟩:=hr.ob id _ ho;subst hm;subst hn;rw [p1] at q1;cases q1;obtain⟨l',s1,s2⟩:=h3;have hl':l'.length=size:=by rw [s2.1];exact hu
 have hone:∀ v∈l',v.oneCell'=true:=λv hv=>by
  obtain⟨j,hj,rfl⟩:=List.getElem_of_mem hv;have:j < us.length:=by have:=s2.1;omega
  obtain⟨x',t1,_,t3⟩:=s2.2 j us[j] (List.getElem?_eq_getElem this);rw [List.getElem?_eq_getElem hj] at t1;cases t1;exact t3
 have hpos:(k+1)*size<=es.length*size:=Nat.mul_le_mul_right _ hk0;have hpos':k*size+size<=es.length*size:=by rw [Nat.succ_mul] at hpos;exact hpos
 rcases q2.2 with ⟨e1,_⟩|⟨b',cap',cur,e1,e2,e3,e4,e5,e6,e7⟩
 ·cases e1
 ·cases e1;have hcur:es.length*size<=cap*size:=Nat.mul_le_mul_right _ e4;obtain⟨d,i,d1,d2,d3,d4⟩:=uk ht;have e3':w.heap[b]?=some (.cells cur.toList.toArray e (0,0)):=by simpa using e3
  have hrun:=run_storeAt_mid (P:=P) w b (k*size) t l'.toArray (λj hj=>by
   have hj':k*size+j < cur.toList.length:=by simp at hj;simp;omega
   refine⟨?_,?_⟩
   ·rw [cell_of_row w b _ _ _ _ e3'];simp at hj';simp [hj']
   ·simp [World.frozen?,e3]) (by rw [d3];simp [d4,hl']) (by simpa using hone)
  have hsc:(w.setCells b (k*size) l').heap[b]?=some (.cells (cur.toList.take (k*size)++l'++cur.toList.drop (k*size+l'.length)).toArray e (0,0)):=by
   have h5:=x32 (b:=b) (bt:=e) (l:=cur.toList) l' w (k*size) (cur.toList.take (k*size)) (by simp;omega) (by rw [List.take_append_drop];exact e3') (by simp;omega);exact h5
  have hkp:Kp [b] w (w.setCells b (k*size) l'):=by
   have key:∀ (vs:List Value) (w1:World) (o:Nat),Kp [b] w w1->Kp [b] w (w1.setCells b o vs):=by
    intro vs
    induction vs with
    | nil=>intro w1 o hk;rw [World.setCells];exact hk
    | cons v vs ih=>intro w1 o hk;rw [World.setCells];exact ih _ _ (hk.set_ (.inl (by simp)) v)
   exact key l' w _ (Kp.refl _ _)
  have hxs:xs.length=es.length*size:=q2.1;refine⟨g,w.setCells b (k*size) l',.skip,undef,Gh.le_refl g,λi hi=>⟨rfl,λ_=>rfl⟩,?_,.inr ⟨rfl,rfl⟩,.inr ⟨_,b,ho,by simp only [obk];rw [p1];rfl,hkp⟩,λb' hb=>.inr ⟨_,ho,?_⟩,λe' s' es' h k' hk'=>?_,λM' he'=>⟨⟨.slice (some ⟨b,0,none⟩) es.length cap,xs.take (k*size)++l'++xs.drop (k*size+size),?_,⟨?_,.inr ⟨b,cap,_,by simp,e2,hsc,by simpa using e4,e5,?_,?_⟩⟩,q3,λel' hel'=>?_,λk' c' el' u' hk' hc'=>?_⟩,trivial⟩⟩
  ·simp only [execOp,p2,Nat.add_zero,s1,Sem.run_bind,hrun,Result.andThen_ok,Sem.run_pure]
  ·simp only [obk] at hb ⊢;simpa using hb
  ·cases h;exact hr.top id e size es ho k' (by simpa using hk')
  ·rw [List.length_set];exact p1
  ·simp;omega
  ·simp;omega
  ·rw [List.length_set,← e7];show List.take (es.length*size) (List.take (k*size) cur.toList++l'++List.drop (k*size+l'.length) cur.toList)=_;apply List.ext_getElem?;intro j;simp only [List.getElem?_take,List.getElem?_append,List.getElem?_drop,List.length_append,List.length_take,Array.length_toList];have hm1:min (k*size) cur.size=k*size:=by omega
   have hm2:min (k*size) (min (es.length*size) cur.size)=k*size:=by omega
   simp only [hm1,hm2,hl']
   by_cases hj:j < es.length*size
   ·rw [if_pos hj]
    by_cases h1:j < k*size+size
    ·rw [if_pos h1,if_pos h1]
     by_cases h2:j < k*size
     ·rw [if_pos h2,if_pos h2,if_pos h2,if_pos h2,if_pos hj]
     ·rw [if_neg h2,if_neg h2]
    ·rw [if_neg h1,if_neg h1,if_pos (by omega)]
   ·rw [if_neg hj,if_neg (by omega),if_neg (by omega)]
  ·rcases List.mem_or_eq_of_mem_set hel' with h|rfl
   ·exact q4 el' h
   ·exact hu
  ·have hlx:(xs.take (k*size)).length=k*size:=by rw [List.length_take];omega
   rw [List.getElem?_set] at hk'
   by_cases hkk:k=k'
   ·subst hkk;rw [if_pos rfl,if_pos hk0] at hk';cases hk';obtain⟨x',t1,t2,t3⟩:=s2.2 c' u' hc';have hcl:c' < size:=by have:=(List.getElem?_eq_some_iff.1 hc').1;omega
    refine⟨x',?_,u'.keep he' t2,t3⟩;rw [List.getElem?_append_left (by simp only [List.length_append,hlx];omega),List.getElem?_append_right (by omega),hlx,show k*size+c' - k*size=c' by omega];exact t1
   ·rw [if_neg hkk] at hk';obtain⟨x',t1,t2,t3⟩:=q5 k' c' el' u' hk' hc'
    have hcl:c' < size:=by
     have h8:=(List.getElem?_eq_some_iff.1 hc').1;have h9:=q4 el' (List.mem_of_getElem? hk');omega
    refine⟨x',?_,u'.keep he' t2,t3⟩;rcases Nat.lt_or_gt_of_ne hkk with h|h
    ·have h5:(k+1)*size<=k' * size:=Nat.mul_le_mul_right _ h;rw [Nat.succ_mul] at h5;rw [List.getElem?_append_right (by simp only [List.length_append,hlx];omega)];simp only [List.length_append,hlx,List.getElem?_drop,hl'];rw [show k*size+size+(k' * size+c' - (k*size+size))=k' * size+c' by omega];exact t1
    ·have h5:(k'+1)*size<=k*size:=Nat.mul_le_mul_right _ h;rw [Nat.succ_mul] at h5;rw [List.append_assoc,List.getElem?_append_left (by rw [hlx];omega),List.getElem?_take,if_pos (by omega)];exact t1
theorem x9l {α:Type} {C:α->List V} {xs:List α} {t e:TypeId} {n m size:Nat} {p x:Operand} {id k:Nat} {y:α} (ht:tyS P t=some (true,n)) (hp:evS f p = .rptr id m size k 0) (hx:evS f x = .dat (vagg (C y))) (hm:m=xs.length) (hk:k < xs.length) (hC:(C y).length=n) (hn:size=n) :
  Stp P ⟨dst,.store t p x,ty,pos,af,gd⟩ f ⟨false,[(id,some (some (.row e size (xs.map C))))],[(id,some (some (.row e size ((xs.set k y).map C))))],.any⟩:=by
 have h:=x92 (dst:=dst) (ty:=ty) (pos:=pos) (af:=af) (gd:=gd) (e:=e) (es:=xs.map C) ht hp hx (by rw [List.length_map];exact hm) (by rw [List.length_map];exact hk) hC hn;rw [← List.map_set] at h;exact h
end
end Go.Proofs.YtbpedjpoikmbjaaGreatDoor
namespace Go.Proofs.YtbpedjpoikmbjaaGreatDoor
open Go.RowKit
set_option linter.unusedVariables false
section
variable {P:Program} {f:Nat->Slot} {dst:Option Tmp} {ty:TypeId} {pos:String} {af:Array Edge} {gd:Option (Nat×Bool)}
theorem w0o {vv:Value} {x:Operand} {t e:TypeId} {id n:Nat} {e':TypeId} {size:Nat} {es:List (List V)} (ht:P.underlying t=some (.slice e)) (hx:evS f x = .row id n) (hn:n=es.length) :
  Stp P ⟨dst,.call { callee:=.builtin .len,args:=#[x],argTypes:=#[t] },ty,pos,af,gd⟩ f ⟨false,[(id,some (some (.rowA vv e' size es)))],[],.dat (vint (es.length:Int))⟩:=
 xa λX own g a w h hob=>by
  have h1:=h x (by simp [Op.operands,Call.operands]);rw [hx] at h1;obtain⟨xs,q1,q2,_⟩:=hob;subst hn;have hv:g.sv id es.length=some (a.eval x):=h1;rw [hv] at q1;cases q1;refine⟨.int .i64 (es.length:Int),?_,rfl⟩;rcases q2.2 with ⟨e1,e2⟩|⟨b,cap,cur,e1,_⟩
  ·simp [execOp,resolve,invoke,builtin,Builtin.len_,e1,e2,run_underlying ht,goInt]
  ·simp [execOp,resolve,invoke,builtin,Builtin.len_,e1,run_underlying ht,goInt]
theorem x3p {vv:Value} {t e e':TypeId} {n n':Nat} {x ix:Operand} {id k:Nat} {es:List (List V)} (h:tyE P t=some (e,n')) (hx:evS f x = .row id n) (hi:evS f ix = .dat (vint (k:Int))) (hn:n=es.length) (hk:k < es.length) :
  Stp P ⟨dst,.indexAddr t x ix,ty,pos,af,gd⟩ f ⟨false,[(id,some (some (.rowA vv e' n' es)))],[],.rptr id n n' k 0⟩:=
 xa λX own g a w hh hob=>by
  have h2:=hh x (by simp [Op.operands]);have h3:=ja (hh ix (by simp [Op.operands])) hi;rw [hx] at h2;obtain⟨xs,q1,q2,q3,q4,q5⟩:=hob;subst hn;have hv:g.sv id es.length=some (a.eval x):=h2;rw [hv] at q1;cases q1;obtain⟨i,d1,d2,d3⟩:=z4o h;rcases q2.2 with ⟨e1,e2⟩|⟨b,cap,cur,e1,_⟩
  ·omega
  ·refine⟨.pointer (some ⟨b,k*n'+0,none⟩),?_,b,cap,by rw [hv,e1],rfl⟩;have e3:(⟨b,0,none⟩:Addr).add (k*n')=⟨b,k*n'+0,none⟩:=by rw [Addr.add_mid];simp
   simp [execOp,h3,e1,Instr.indexAt,asIntOf,run_underlying d1,sizeOf,typeInfo,d2,d3,hk,e3]
theorem w0q {vv:Value} {t e e':TypeId} {n n':Nat} {x ix:Operand} {id:Nat} {m:Int} {es:List (List V)} (h:tyE P t=some (e,n')) (hx:evS f x = .row id n) (hi:evS f ix = .dat (vint m)) (hn:n=es.length) (hk:0<=m/\m < (es.length:Int)) :
  Stp P ⟨dst,.indexAddr t x ix,ty,pos,af,gd⟩ f ⟨false,[(id,some (some (.rowA vv e' n' es)))],[],.rptr id n n' m.toNat 0⟩:=
 x3p h hx (by rw [hi,Int.toNat_of_nonneg hk.1]) hn (by omega)
theorem w0i {vv:Value} {t e:TypeId} {n m size:Nat} {p:Operand} {id k:Nat} {es:List (List V)} {el:List V} (ht:tyS P t=some (true,n)) (hp:evS f p = .rptr id m size k 0) (hm:m=es.length) (he:es[k]?=some el) (hn:size=n) :
  Stp P ⟨dst,.load t p,ty,pos,af,gd⟩ f ⟨false,[(id,some (some (.rowA vv e size es)))],[],.dat (vagg el)⟩:=
 xa λX own g a w hh hob=>by
  have h2:=hh p (by simp [Op.operands]);rw [hp] at h2;obtain⟨b,cap,h3,h4⟩:=h2;obtain⟨xs,q1,q2,q3,q4,q5⟩:=hob;subst hm hn;rw [h3] at q1;cases q1;obtain⟨d,i,d1,d2,d3,d4⟩:=uk ht;have hel:=q4 el (List.mem_of_getElem? he);have hk:=(List.getElem?_eq_some_iff.1 he).1
  have hl:((xs.drop (k*size)).take size).length=size:=by
   rw [List.length_take,List.length_drop,q2.1];have h1:(k+1)*size<=es.length*size:=Nat.mul_le_mul_right _ hk;have h2:(k+1)*size=k*size+size:=Nat.succ_mul k size;omega
  refine⟨.agg ((xs.drop (k*size)).take size).toArray,?_,_,rfl,by rw [hl,hel],λj u hj=>?_⟩
  ·have hrun:=run_loadAt_mid (P:=P) w b (k*size+0) t ((xs.drop (k*size)).take size) d (λj v hv=>by
    rw [List.getElem?_take] at hv;split at hv
    ·rw [List.getElem?_drop] at hv;exact y3k q2 hv
    ·cases hv) d1 d2 (by rw [d3,hl];simp [d4])
   simp only [execOp,h4,Sem.run_bind,hrun,Result.andThen_ok,Sem.run_pure]
  ·have hjl:=(List.getElem?_eq_some_iff.1 hj).1;obtain⟨x,r1,r2,r3⟩:=q5 k j el u he hj;exact⟨x,by rw [List.getElem?_take,if_pos (by omega),List.getElem?_drop];exact r1,r2,r3⟩
theorem x91 {vv:Value} {t e:TypeId} {n m size:Nat} {p x:Operand} {id k:Nat} {es:List (List V)} {us:List V} (ht:tyS P t=some (true,n)) (hp:evS f p = .rptr id m size k 0) (hx:evS f x = .dat (vagg us)) (hm:m=es.length) (hk0:k < es.length) (hu:us.length=n) (hn:size=n) :
  Stp P ⟨dst,.store t p x,ty,pos,af,gd⟩ f ⟨false,[(id,some (some (.rowA vv e size es)))],[(id,some (some (.rowA vv e size (es.set k us))))],.any⟩:=by
 refine Yr λX f' own g a w hr ho hh=>?_;have h2:=hh p (by simp [Op.operands]);have h3:=hh x (by simp [Op.operands]);rw [hp] at h2;rw [hx] at h3;obtain⟨b,cap,p1,p2⟩:=h2;obtain⟨xs,q1,q2,q3,q4,q5⟩:=hr.ob id _ ho;subst hm;subst hn;rw [p1] at q1;cases q1;obtain⟨l',s1,s2⟩:=h3;have hl':l'.length=size:=by rw [s2.1];exact hu
 have hone:∀ v∈l',v.oneCell'=true:=λv hv=>by
  obtain⟨j,hj,rfl⟩:=List.getElem_of_mem hv;have:j < us.length:=by have:=s2.1;omega
  obtain⟨x',t1,_,t3⟩:=s2.2 j us[j] (List.getElem?_eq_getElem this);rw [List.getElem?_eq_getElem hj] at t1;cases t1;exact t3
 have hpos:(k+1)*size<=es.length*size:=Nat.mul_le_mul_right _ hk0;have hpos':k*size+size<=es.length*size:=by rw [Nat.succ_mul] at hpos;exact hpos
 rcases q2.2 with ⟨e1,_⟩|⟨b',cap',cur,e1,e2,e3,e4,e5,e6,e7⟩
 ·cases e1
 ·cases e1;have hcur:es.length*size<=cap*size:=Nat.mul_le_mul_right _ e4;obtain⟨d,i,d1,d2,d3,d4⟩:=uk ht;have e3':w.heap[b]?=some (.cells cur.toList.toArray e (0,0)):=by simpa using e3
  have hrun:=run_storeAt_mid (P:=P) w b (k*size) t l'.toArray (λj hj=>by
   have hj':k*size+j < cur.toList.length:=by simp at hj;simp;omega
   refine⟨?_,?_⟩
   ·rw [cell_of_row w b _ _ _ _ e3'];simp at hj';simp [hj']
   ·simp [World.frozen?,e3]) (by rw [d3];simp [d4,hl']) (by simpa using hone)
  have hsc:(w.setCells b (k*size) l').heap[b]?=some (.cells (cur.toList.take (k*size)++l'++cur.toList.drop (k*size+l'.length)).toArray e (0,0)):=by
   have h5:=x32 (b:=b) (bt:=e) (l:=cur.toList) l' w (k*size) (cur.toList.take (k*size)) (by simp;omega) (by rw [List.take_append_drop];exact e3') (by simp;omega);exact h5
  have hkp:Kp [b] w (w.setCells b (k*size) l'):=by
   have key:∀ (vs:List Value) (w1:World) (o:Nat),Kp [b] w w1->Kp [b] w (w1.setCells b o vs):=by
    intro vs
    induction vs with
    | nil=>intro w1 o hk;rw [World.setCells];exact hk
    | cons v vs ih=>intro w1 o hk;rw [World.setCells];exact ih _ _ (hk.set_ (.inl (by simp)) v)
   exact key l' w _ (Kp.refl _ _)
  have hxs:xs.length=es.length*size:=q2.1;refine⟨g,w.setCells b (k*size) l',.skip,undef,Gh.le_refl g,λi hi=>⟨rfl,λ_=>rfl⟩,?_,.inr ⟨rfl,rfl⟩,.inr ⟨_,b,ho,by simp only [obk];rfl,hkp⟩,λb' hb=>.inr ⟨_,ho,?_⟩,λe' s' es' h k' hk'=>?_,λM' he'=>⟨⟨xs.take (k*size)++l'++xs.drop (k*size+size),?_,⟨?_,.inr ⟨b,cap,_,by simp,e2,hsc,by simpa using e4,e5,?_,?_⟩⟩,q3,λel' hel'=>?_,λk' c' el' u' hk' hc'=>?_⟩,trivial⟩⟩
  ·simp only [execOp,p2,Nat.add_zero,s1,Sem.run_bind,hrun,Result.andThen_ok,Sem.run_pure]
  ·exact hb
  ·cases h
  ·rw [List.length_set];exact p1
  ·simp;omega
  ·simp;omega
  ·rw [List.length_set,← e7];show List.take (es.length*size) (List.take (k*size) cur.toList++l'++List.drop (k*size+l'.length) cur.toList)=_;apply List.ext_getElem?;intro j;simp only [List.getElem?_take,List.getElem?_append,List.getElem?_drop,List.length_append,List.length_take,Array.length_toList];have hm1:min (k*size) cur.size=k*size:=by omega
   have hm2:min (k*size) (min (es.length*size) cur.size)=k*size:=by omega
   simp only [hm1,hm2,hl']
   by_cases hj:j < es.length*size
   ·rw [if_pos hj]
    by_cases h1:j < k*size+size
    ·rw [if_pos h1,if_pos h1]
     by_cases h2:j < k*size
     ·rw [if_pos h2,if_pos h2,if_pos h2,if_pos h2,if_pos hj]
     ·rw [if_neg h2,if_neg h2]
    ·rw [if_neg h1,if_neg h1,if_pos (by omega)]
   ·rw [if_neg hj,if_neg (by omega),if_neg (by omega)]
  ·rcases List.mem_or_eq_of_mem_set hel' with h|rfl
   ·exact q4 el' h
   ·exact hu
  ·have hlx:(xs.take (k*size)).length=k*size:=by rw [List.length_take];omega
   rw [List.getElem?_set] at hk'
   by_cases hkk:k=k'
   ·subst hkk;rw [if_pos rfl,if_pos hk0] at hk';cases hk';obtain⟨x',t1,t2,t3⟩:=s2.2 c' u' hc';have hcl:c' < size:=by have:=(List.getElem?_eq_some_iff.1 hc').1;omega
    refine⟨x',?_,u'.keep he' t2,t3⟩;rw [List.getElem?_append_left (by simp only [List.length_append,hlx];omega),List.getElem?_append_right (by omega),hlx,show k*size+c' - k*size=c' by omega];exact t1
   ·rw [if_neg hkk] at hk';obtain⟨x',t1,t2,t3⟩:=q5 k' c' el' u' hk' hc'
    have hcl:c' < size:=by
     have h8:=(List.getElem?_eq_some_iff.1 hc').1;have h9:=q4 el' (List.mem_of_getElem? hk');omega
    refine⟨x',?_,u'.keep he' t2,t3⟩;rcases Nat.lt_or_gt_of_ne hkk with h|h
    ·have h5:(k+1)*size<=k' * size:=Nat.mul_le_mul_right _ h;rw [Nat.succ_mul] at h5;rw [List.getElem?_append_right (by simp only [List.length_append,hlx];omega)];simp only [List.length_append,hlx,List.getElem?_drop,hl'];rw [show k*size+size+(k' * size+c' - (k*size+size))=k' * size+c' by omega];exact t1
    ·have h5:(k'+1)*size<=k*size:=Nat.mul_le_mul_right _ h;rw [Nat.succ_mul] at h5;rw [List.append_assoc,List.getElem?_append_left (by rw [hlx];omega),List.getElem?_take,if_pos (by omega)];exact t1
end
section
variable {α:Type} {C:α->List V} {xs:List α} {P:Program} {f:Nat->Slot} {dst:Option Tmp} {ty:TypeId} {pos:String} {af:Array Edge} {gd:Option (Nat×Bool)}
theorem z8k {vv:Value} {x:Operand} {t e:TypeId} {id n:Nat} {e':TypeId} {size:Nat} (ht:P.underlying t=some (.slice e)) (hx:evS f x = .row id n) (hn:n=xs.length) :
  Stp P ⟨dst,.call { callee:=.builtin .len,args:=#[x],argTypes:=#[t] },ty,pos,af,gd⟩ f ⟨false,[(id,some (some (.rowA vv e' size (xs.map C))))],[],.dat (vint (xs.length:Int))⟩:=
 ye (w0o ht hx (by rw [List.length_map];exact hn)) (by rw [List.length_map])
theorem x3c {vv:Value} {t e e':TypeId} {n n':Nat} {x ix:Operand} {id k:Nat} {y:α} (h:tyE P t=some (e,n')) (hx:evS f x = .row id n) (hn:n=xs.length) (hi:evS f ix = .dat (vint (k:Int))) (hk:xs[k]?=some y) :
  Stp P ⟨dst,.indexAddr t x ix,ty,pos,af,gd⟩ f ⟨false,[(id,some (some (.rowA vv e' n' (xs.map C))))],[],.rptr id n n' k 0⟩:=
 x3p h hx hi (by rw [List.length_map];exact hn) (by rw [List.length_map];exact ji hk)
theorem kv {vv:Value} {t e e':TypeId} {n n':Nat} {x ix:Operand} {id:Nat} {m:Int} {y:α} (h:tyE P t=some (e,n')) (hx:evS f x = .row id n) (hn:n=xs.length) (hi:evS f ix = .dat (vint m)) (hk:at? xs m=some y) :
  Stp P ⟨dst,.indexAddr t x ix,ty,pos,af,gd⟩ f ⟨false,[(id,some (some (.rowA vv e' n' (xs.map C))))],[],.rptr id n n' m.toNat 0⟩:=
 w0q h hx hi (by rw [List.length_map];exact hn) (by rw [List.length_map];exact (qi hk).1)
theorem x9n {vv:Value} {t e:TypeId} {n m size:Nat} {p:Operand} {id k c:Nat} {y:α} {u:V} (ht:tyS P t=some (false,n)) (hp:evS f p = .rptr id m size k c) (hm:m=xs.length) (he:xs[k]?=some y) (hu:(C y)[c]?=some u) :
  Stp P ⟨dst,.load t p,ty,pos,af,gd⟩ f ⟨false,[(id,some (some (.rowA vv e size (xs.map C))))],[],.dat u⟩:=
 w0k ht hp (by rw [List.length_map];exact hm) (qa he) hu
theorem Zb {vv:Value} {t e:TypeId} {n m size:Nat} {p:Operand} {id k:Nat} {y:α} (ht:tyS P t=some (true,n)) (hp:evS f p = .rptr id m size k 0) (hm:m=xs.length) (he:xs[k]?=some y) (hn:size=n) :
  Stp P ⟨dst,.load t p,ty,pos,af,gd⟩ f ⟨false,[(id,some (some (.rowA vv e size (xs.map C))))],[],.dat (vagg (C y))⟩:=
 w0i ht hp (by rw [List.length_map];exact hm) (qa he) hn
theorem z4p {vv:Value} {t e:TypeId} {n m size:Nat} {p x:Operand} {id k:Nat} {y:α} (ht:tyS P t=some (true,n)) (hp:evS f p = .rptr id m size k 0) (hx:evS f x = .dat (vagg (C y))) (hm:m=xs.length) (hk:k < xs.length) (hC:(C y).length=n) (hn:size=n) :
  Stp P ⟨dst,.store t p x,ty,pos,af,gd⟩ f ⟨false,[(id,some (some (.rowA vv e size (xs.map C))))],[(id,some (some (.rowA vv e size ((xs.set k y).map C))))],.any⟩:=by
 have h:=x91 (vv:=vv) (dst:=dst) (ty:=ty) (pos:=pos) (af:=af) (gd:=gd) (e:=e) (es:=xs.map C) ht hp hx (by rw [List.length_map];exact hm) (by rw [List.length_map];exact hk) hC hn;rw [← List.map_set] at h;exact h
end
section
variable {P:Program} {f:Nat->Slot} {dst:Option Tmp} {ty:TypeId} {pos:String} {af:Array Edge} {gd:Option (Nat×Bool)}
end
section
variable {P:Program} {X:Ctx} {Q:Exit->(Nat->Slot)->Own->Prop} {c:Code} {f:Nat->Slot} {own:Own}
end
section
variable {P:Program} {f:Nat->Slot} {dst:Option Tmp} {ty:TypeId} {pos:String} {af:Array Edge} {gd:Option (Nat×Bool)}
end
end Go.Proofs.YtbpedjpoikmbjaaGreatDoor
namespace Go.Proofs.YtbpedjpoikmbjaaGreatDoor
open Go.RowKit Go.ChangeMaps Go.MapKept
set_option linter.unusedVariables false
section
variable {κ τ:Type}
structure MT (κ τ:Type) where
 kV:κ->V
 ck:κ->Value
 ok:κ->Prop
 eV:τ->V
 ce:τ->Value
 z:τ
def EnG (T:MT κ τ) (es:Array MapEntry) (clock:Nat) (l:List (κ×τ)):Prop:=
 Stamped es clock/\es.toList.map (λe=>(e.key,e.val))=l.map (λp=>(T.ck p.1,T.ce p.2))/\∀ p,p∈l->T.ok p.1
def qx (T:MT κ τ) (l:List (κ×τ)):Obj->Prop:=λo=>∃ es clock,o = .map es clock/\EnG T es clock l
structure TyG (P:Program) (t kt et:TypeId) (T:MT κ τ):Prop where
 ut:P.underlying t=some (.map kt et)
 K:Maps.Keyed P kt
 kof:∀ k,T.ok k->∃ kl,keyOf P kt (T.ck k)=some kl
 zv:∀ w,(zeroValue et).run P w = .ok (T.ce T.z) w
 inj:∀ a b,T.ck a=T.ck b->a=b
 kin:∀ k w M v,(T.kV k).p w M v->v=T.ck k
 ein:∀ x w M v,(T.eV x).p w M v->v=T.ce x
 eof:∀ x w M,(T.eV x).p w M (T.ce x)
 kin2:∀ k w M,(T.kV k).p w M (T.ck k)
theorem w8k {vs:List Value} {w:World} {M:Blks} {l:List Value} (h:Cs w M (vs.map vval) l):l=vs:=by
 obtain⟨h1,h2⟩:=h;rw [List.length_map] at h1;refine List.ext_getElem? λj=>?_
 cases hq:vs[j]? with
 | none=>rw [List.getElem?_eq_none_iff] at hq ⊢;omega
 | some v =>
  obtain⟨x,e1,e2,_⟩:=h2 j (vval v) (by rw [List.getElem?_map,hq];rfl);rw [e1];exact congrArg some e2
theorem x8o {vs:List Value} {w:World} {M:Blks} (h:vs.all (·.oneCell')=true):Cs w M (vs.map vval) vs:=by
 refine⟨by simp,λj u hj=>?_⟩;rw [List.getElem?_map] at hj
 cases hq:vs[j]? with
 | none=>rw [hq] at hj;cases hj
 | some x=>rw [hq] at hj;cases hj;exact⟨x,rfl,rfl,(List.all_eq_true.1 h) x (List.mem_of_getElem? hq)⟩
theorem x1t {us:List V} {vs:List Value} (e:us=vs.map vval) {w:World} {M:Blks} {v:Value} (h:(vagg us).p w M v):v = .agg vs.toArray:=by
 subst e;obtain⟨l,h1,h2⟩:=h;rw [h1,w8k h2]
theorem x1s {us:List V} {vs:List Value} (e:us=vs.map vval) (ho:vs.all (·.oneCell')=true) (w:World) (M:Blks):(vagg us).p w M (.agg vs.toArray):=by
 subst e;exact⟨vs,rfl,x8o ho⟩
theorem x0q {T:MT κ τ} {es:Array MapEntry} {clock:Nat} {l:List (κ×τ)} (h:EnG T es clock l) {j:Nat} {e:MapEntry} (he:es.toList[j]?=some e):∃ p,l[j]?=some p/\e.key=T.ck p.1/\e.val=T.ce p.2:=by
 have h1:=congrArg (λq=>q[j]?) h.2.1;simp only [List.getElem?_map,he,Option.map_some] at h1
 cases hq:l[j]? with
 | none=>rw [hq] at h1;cases h1
 | some p =>
  rw [hq] at h1;simp only [Option.map_some,Option.some.injEq,Prod.mk.injEq] at h1;exact⟨p,rfl,h1.1,h1.2⟩
theorem w8d {T:MT κ τ} {es:Array MapEntry} {clock:Nat} {l:List (κ×τ)} (h:EnG T es clock l):es.size=l.length:=by
 have:=congrArg List.length h.2.1;simpa using this
theorem y1f {T:MT κ τ} {es:Array MapEntry} {clock:Nat} {l:List (κ×τ)} (h:EnG T es clock l):l.Pairwise λp q=>p.1≠q.1:=by
 have h1:(es.toList.map (·.key)).Nodup:=h.1.2.2
 have h2:es.toList.map (·.key)=l.map λp=>T.ck p.1:=by
  have:=congrArg (List.map Prod.fst) h.2.1;simpa [List.map_map,Function.comp_def] using this
 rw [h2,List.Nodup,List.pairwise_map] at h1;exact h1.imp λ{a b} hne e=>hne (congrArg T.ck e)
end
section
variable {κ τ:Type} {P:Program} {t kt et:TypeId} {T:MT κ τ} {w:World} {b:Nat} {es:Array MapEntry} {clock:Nat} {l:List (κ×τ)}
theorem x7c (hT:TyG P t kt et T) (h:EnG T es clock l):∀ e,e∈es.toList->∃ q,keyOf P kt e.key=some q:=λe he=>by
 obtain⟨j,hj⟩:=List.getElem?_of_mem he;obtain⟨p,p1,p2,_⟩:=x0q h hj;rw [p2];exact hT.kof _ (h.2.2 p (List.mem_of_getElem? p1))
theorem x0o (hT:TyG P t kt et T) (h:EnG T es clock l) {k:κ} (h2:∀ e,e∈es.toList->e.key≠T.ck k):∀ p,p∈l->p.1≠k:=λp hp e=>by
 obtain⟨j,hj⟩:=List.getElem?_of_mem hp
 have hlt:j < es.toList.length:=by
  have h1:=w8d h;have h3:=(List.getElem?_eq_some_iff.1 hj).1;simp only [Array.length_toList];omega
 obtain⟨q,q1,q2,_⟩:=x0q h (List.getElem?_eq_getElem hlt);rw [hj] at q1;cases q1;exact h2 _ (List.getElem_mem hlt) (by rw [q2,e])
theorem x7d (hT:TyG P t kt et T) (h:EnG T es clock l) {k:κ} {j:Nat} {e0:MapEntry} (h2:es.toList[j]?=some e0) (h3:e0.key=T.ck k):∃ v,l[j]?=some (k,v)/\e0.val=T.ce v:=by
 obtain⟨p,p1,p2,p3⟩:=x0q h h2;have e:=hT.inj _ _ (p2.symm.trans h3);exact⟨p.2,by rw [p1,← e],p3⟩
theorem x0p (hT:TyG P t kt et T) (c:Bool) (hb:w.heap[b]?=some (.map es clock)) (h:EnG T es clock l) {k:κ} (hk:T.ok k) :
  (Instr.lookup t (.map (some b)) (T.ck k) c).run P w = .ok (if c then .tuple #[T.ce ((lkG l k).getD T.z),.bool (lkG l k).isSome] else T.ce ((lkG l k).getD T.z)) w:=by
 obtain⟨kl,hkl⟩:=hT.kof k hk;rcases hT.K.find w hkl es.toList (x7c hT h) with ⟨h1,h2⟩|⟨j,e0,h1,h2,h3⟩
 ·have e1:=(y4f l k (x0o hT h h2)).1;rw [e1];simp [Instr.lookup,run_underlying hT.ut,MapKept.run_getObj_map hb,hT.K.check w _ hkl,h1,hT.zv w,Result.andThen]
 ·obtain⟨v,v1,v2⟩:=x7d hT h h2 h3;have e1:=(y0t l j k v (y1f h) v1).1;rw [e1];simp [Instr.lookup,run_underlying hT.ut,MapKept.run_getObj_map hb,hT.K.check w _ hkl,h1,Result.andThen,v2]
theorem w8c (hT:TyG P t kt et T) (hb:w.heap[b]?=some (.map es clock)) (h:EnG T es clock l) {k:κ} (hk:T.ok k) (v:τ) :
  ∃ es' clock',(Instr.mapUpdate t (.map (some b)) (T.ck k) (T.ce v)).run P w = .ok () (setBlock w b (.map es' clock'))/\EnG T es' clock' (ptG l k v):=by
 obtain⟨kl,hkl⟩:=hT.kof k hk;rcases hT.K.find w hkl es.toList (x7c hT h) with ⟨h1,h2⟩|⟨j,e0,h1,h2,h3⟩
 ·refine⟨es.push ⟨T.ck k,T.ce v,clock⟩,clock+1,?_,stamped_push h.1 h2,?_,λp hp=>?_⟩
  ·simp [Instr.mapUpdate,run_underlying hT.ut,MapKept.run_getObj_map hb,hT.K.check w false hkl,h1,MapKept.run_setObj_map _ hb,Result.andThen,setBlock]
  ·rw [(y4f l k (x0o hT h h2)).2,Array.toList_push,List.map_append,List.map_append,h.2.1];rfl
  ·rw [(y4f l k (x0o hT h h2)).2] at hp;rcases List.mem_append.1 hp with hp|hp
   ·exact h.2.2 p hp
   ·rw [List.mem_singleton.1 hp];exact hk
 ·obtain⟨v0,v1,v2⟩:=x7d hT h h2 h3;have hj:es[j]?=some e0:=by simpa using h2
  have hlist:(es.modify j (λe'=>{ e' with key:=T.ck k,val:=T.ce v })).toList=es.toList.set j { e0 with key:=T.ck k,val:=T.ce v }:=by rw [Array.toList_modify,modify_eq_set _ _ _ _ h2]
  refine⟨es.modify j (λe'=>{ e' with key:=T.ck k,val:=T.ce v }),clock,?_,stamped_modify h.1 _ _ (λ_ _=>rfl) (λe' _ he'=>by rw [hj] at he';cases he';exact h3.symm),?_,λp hp=>?_⟩
  ·simp [Instr.mapUpdate,run_underlying hT.ut,MapKept.run_getObj_map hb,hT.K.check w false hkl,h1,hj,h3,hT.K.stays w hkl,MapKept.run_setObj_map _ hb,Result.andThen,setBlock]
  ·rw [(y0t l j k v0 (y1f h) v1).2,hlist,List.map_set,List.map_set,h.2.1]
  ·rw [(y0t l j k v0 (y1f h) v1).2] at hp;rcases List.mem_or_eq_of_mem_set hp with hp|hp
   ·exact h.2.2 p hp
   ·rw [hp];exact hk
end
section
variable {κ τ:Type} {P:Program} {f:Nat->Slot} {dst:Option Tmp} {ty:TypeId} {pos:String} {af:Array Edge} {gd:Option (Nat×Bool)}
theorem z8m (id:Nat) {t kt et:TypeId} {T:MT κ τ} (hT:TyG P t kt et T):Stp P ⟨dst,.makeMap t none,ty,pos,af,gd⟩ f ⟨false,[(id,none)],[(id,some (some (.opq none (qx T []))))],.mp id⟩:=
 w0f id (ob:=.map #[] 0) (R:=qx T []) ⟨#[],0,rfl,stamped_empty 0,rfl,by simp⟩ λev w=>by simp [execOp,Instr.makeMap]
def vmpG (T:MT κ τ) (l:List (κ×τ)):V:=
  ⟨λw M v=>∃ b es clock,v = .map (some b)/\¬ M b/\w.heap[b]?=some (.map es clock)/\EnG T es clock l,true,λ{w w' M M' v} he ⟨b,es,clock,h1,h2,h3,h4⟩ =>
    ⟨b,es,clock,h1,λhm=>h2 (he.sub b (vh h3) hm),(he.block b (vh h3) h2 ⟨_,h3,rfl⟩).trans h3,h4⟩,
   λ_ _ _ v ⟨b,_,_,h1,_⟩=>by rw [h1];rfl⟩
variable {an:Option Nat} {t kt et:TypeId} {T:MT κ τ} {l:List (κ×τ)} {x y:Operand} {id:Nat}
theorem Qh (k:κ) (hT:TyG P t kt et T) (hx:evS f x = .mp id) (hy:evS f y = .dat (T.kV k)) (hk:T.ok k) :
  Stp P ⟨dst,.lookup t x y false,ty,pos,af,gd⟩ f ⟨false,[(id,some (some (.opq an (qx T l))))],[],.dat (T.eV ((lkG l k).getD T.z))⟩:=
 xa λX own g a w h hob=>by
  obtain⟨b,h1,h2⟩:∃ b,g.bl id=some b/\a.eval x = .map (some b):=by have:=h x (by simp [Op.operands]);rw [hx] at this;exact this
  have h3:=h y (by simp [Op.operands]);rw [hy] at h3;have h3:=hT.kin _ _ _ _ h3;obtain⟨b',o,q1,_,q2,es,clock,rfl,q3⟩:=hob;rw [h1] at q1;cases q1;have:=x0p hT false q2 q3 hk;simp only [Bool.false_eq_true,if_false] at this;exact⟨_,by simp only [execOp,h2,h3,Sem.run_bind,this,Result.andThen_ok,Sem.run_pure],hT.eof _ _ _⟩
theorem y6q (k:κ) (hT:TyG P t kt et T) (hx:evS f x = .dat (vmpG T l)) (hy:evS f y = .dat (T.kV k)) (hk:T.ok k) :
  Stp P ⟨dst,.lookup t x y false,ty,pos,af,gd⟩ f ⟨false,[],[],.dat (T.eV ((lkG l k).getD T.z))⟩:=
 vt λX own g a w h=>by
  have h1:=h x (by simp [Op.operands]);rw [hx] at h1;have h3:=h y (by simp [Op.operands]);rw [hy] at h3;have h3:=hT.kin _ _ _ _ h3;obtain⟨b,es,clock,h2,_,q2,q3⟩:=h1;have:=x0p hT false q2 q3 hk;simp only [Bool.false_eq_true,if_false] at this;exact⟨_,by simp only [execOp,h2,h3,Sem.run_bind,this,Result.andThen_ok,Sem.run_pure],hT.eof _ _ _⟩
theorem z2b {z:Operand} (k:κ) (v:τ) (hT:TyG P t kt et T) (hx:evS f x = .mp id) (hy:evS f y = .dat (T.kV k)) (hz:evS f z = .dat (T.eV v)) (hk:T.ok k) :
  Stp P ⟨dst,.mapUpdate t x y z,ty,pos,af,gd⟩ f ⟨false,[(id,some (some (.opq an (qx T l))))],[(id,some (some (.opq an (qx T (ptG l k v)))))],.any⟩:=by
 refine w0e λX own g a w b ob h q1 q2 q3=>?_;obtain⟨b',h1,h2⟩:∃ b,g.bl id=some b/\a.eval x = .map (some b):=by have:=h x (by simp [Op.operands]);rw [hx] at this;exact this
 rw [q1] at h1;cases h1;have h3:=h y (by simp [Op.operands]);rw [hy] at h3;have h3:=hT.kin _ _ _ _ h3;have h4:=h z (by simp [Op.operands]);rw [hz] at h4;have h4:=hT.ein _ _ _ _ h4;obtain⟨es,clock,rfl,q3⟩:=q3;obtain⟨es',clock',r1,r2⟩:=w8c hT q2 q3 hk v;refine⟨setBlock w b (.map es' clock'),.map es' clock',by simp only [execOp,h2,h3,h4,Sem.run_bind,r1,Result.andThen_ok,Sem.run_pure],Kp.of_grown (row:=some b) ⟨rfl,rfl,rfl,by simp [setBlock],λi _ hi=>heap_setBlock_other q2 _ (λe=>hi (by rw [e]))⟩ (by intro g hg;injection hg with hg;subst hg;exact .inl (by simp)),heap_setBlock_same q2 _,es',clock',rfl,r2⟩
end
section
variable {κ τ:Type} {P:Program} {X:Ctx} {Q:Exit->(Nat->Slot)->Own->Prop} {c:Code} {f:Nat->Slot} {own:Own}
theorem z9c {T:MT κ τ} {l:List (κ×τ)} (w:World) (M:Blks) (b:Nat) (o:Obj) (hM:¬ M b) (hb:w.heap[b]?=some o) (h:qx T l o):(vmpG T l).p w M (.map (some b)):=by
 obtain⟨es,clock,rfl,h⟩:=h;exact⟨b,es,clock,rfl,hM,hb,h⟩
theorem v0h (i j id:Nat) {an an':Option Nat} {t:TypeId} {R:Obj->Prop} {u:V} {cs:List Slot} (hu:∀ (w:World) (M:Blks) (b:Nat) (o:Obj),¬ M b->w.heap[b]?=some o->R o->u.p w M (.map (some b))) (hb:own i=some (some (.box an t cs))) (hj:cs[j]?=some (.mp id)) (ho:own id=some (some (.opq an' R)))
  (h:AWP P X c Q f (upl (upl own [(id,some none)]) [(i,some (some (.box an t (cs.set j (.dat u)))))])):AWP P X c Q f own:=by
 intro g a w hr;have hne:i≠id:=by rintro rfl;rw [hb] at ho;cases ho
 have key:∀ k o,upl (upl own [(id,some none)]) [(i,some (some (.box an t (cs.set j (.dat u)))))] k=some (some o)->k≠id/\((k=i/\o = .box an t (cs.set j (.dat u)))∨(k≠i/\own k=some (some o))):=λk o hk=>by
  by_cases hki:k=i
  ·subst hki;rw [vp] at hk;cases hk;exact⟨hne,.inl ⟨rfl,rfl⟩⟩
  ·rw [ve hki] at hk
   by_cases hkd:k=id
   ·subst hkd;rw [vp] at hk;cases hk
   ·rw [ve hkd] at hk;exact⟨hkd,.inr ⟨hki,hk⟩⟩
 have keyo:∀ k o,upl (upl own [(id,some none)]) [(i,some (some (.box an t (cs.set j (.dat u)))))] k=some (some o)->k≠id/\∃ o',own k=some (some o')/\obk g k o'=obk g k o:=λk o hk=>by
  obtain⟨h1,h2⟩:=key k o hk;rcases h2 with ⟨rfl,rfl⟩|⟨_,h2⟩
  ·exact⟨h1,_,hb,rfl⟩
  ·exact⟨h1,o,h2,rfl⟩
 have hM:∀ b,Mof X g (upl (upl own [(id,some none)]) [(i,some (some (.box an t (cs.set j (.dat u)))))]) b->Mof X g own b:=λb hb=>by
  rcases hb with hb|⟨k,o,h1,h2⟩
  ·exact .inl hb
  ·obtain⟨_,o',h3,h4⟩:=keyo k o h1;exact .inr ⟨k,o',h3,h4.trans h2⟩
 have he:Ext (Mof X g own) (Mof X g (upl (upl own [(id,some none)]) [(i,some (some (.box an t (cs.set j (.dat u)))))])) w w:=⟨Nat.le_refl _,λ_ _ _ _=>rfl,λb _ hb=>hM b hb⟩
 have hfz:∀ x,(∃ b,g.bl id=some b/\x = .map (some b))->u.p w (Mof X g (upl (upl own [(id,some none)]) [(i,some (some (.box an t (cs.set j (.dat u)))))])) x:=λx ⟨b,hv,hx⟩=>by
  obtain⟨b',o,q1,_,q2,q3⟩:=hr.ob id _ ho;rw [hv] at q1;cases q1;rw [hx];refine hu _ _ b o ?_ q2 q3;have hobk:obk g id (.opq an' R)=some b:=hv;rintro (hM0|⟨k,o,h1,h2⟩)
  ·have h5:=hr.m0.1 b hM0;rcases hr.mine id _ b ho hobk with h6|h6
   ·exact h5.2 h6
   ·omega
  ·obtain⟨h3,o',h4,h5⟩:=keyo k o h1;exact h3 (hr.sep k id o' _ b h4 ho (h5.trans h2) hobk)
 refine h g a w ⟨hr.kp,hr.m0,hr.n,hr.df,λt'=>(hr.fr t').keep he (Gh.le_refl g),λk o h1=>?_,λk k' o o' b h1 h2 h3 h4=>?_,λk o b h1 h2=>?_,λk h1=>?_,λk e' s' es' h1=>?_⟩
 ·obtain⟨_,h2⟩:=key k o h1;rcases h2 with ⟨rfl,rfl⟩|⟨_,h2⟩
  ·obtain⟨b0,l0,q1,q0,q2,q3,q4⟩:=hr.ob k _ hb;refine⟨b0,l0,q1,q0,q2,by rw [List.length_set];exact q3,λm s hs=>?_⟩;rw [List.getElem?_set] at hs;split at hs
   ·rename_i hjm;subst hjm;split at hs
    ·cases hs;obtain⟨x,x1,x2,x3⟩:=q4 j _ hj;exact⟨x,x1,hfz x x2,x3⟩
    ·cases hs
   ·obtain⟨x,x1,x2,x3⟩:=q4 m s hs;exact⟨x,x1,x2.keep he (Gh.le_refl g),x3⟩
  ·exact (hr.ob k o h2).keep he (Gh.le_refl g) (λ_ _=>rfl)
 ·obtain⟨_,p,p1,p2⟩:=keyo k o h1;obtain⟨_,p',p3,p4⟩:=keyo k' o' h2;exact hr.sep k k' p p' b p1 p3 (p2.trans h3) (p4.trans h4)
 ·obtain⟨_,p,p1,p2⟩:=keyo k o h1;exact hr.mine k p b p1 (p2.trans h2)
 ·by_cases hki:k=i
  ·subst hki;rw [vp] at h1;cases h1
  ·rw [ve hki] at h1
   by_cases hkd:k=id
   ·subst hkd;rw [vp] at h1;cases h1
   ·rw [ve hkd] at h1;exact hr.fresh k h1
 ·obtain⟨_,h2⟩:=key k _ h1;rcases h2 with ⟨_,h2⟩|⟨_,h2⟩
  ·cases h2
  ·exact hr.top k e' s' es' h2
theorem y1n (t id:Nat) {an:Option Nat} {R:Obj->Prop} {u:V} (hu:∀ (w:World) (M:Blks) (b:Nat) (o:Obj),¬ M b->w.heap[b]?=some o->R o->u.p w M (.map (some b))) (hf:f t = .mp id) (ho:own id=some (some (.opq an R)))
  (h:AWP P X c Q (updS f (some t) (.dat u)) (upl own [(id,some none)])):AWP P X c Q f own:=by
 intro g a w hr
 have hlive:∀ i o,upl own [(id,some none)] i=some (some o)->i≠id/\own i=some (some o):=λi o h1=>by
  by_cases hi:i=id
  ·subst hi;rw [vp] at h1;cases h1
  ·rw [ve hi] at h1;exact⟨hi,h1⟩
 have hM:∀ b,Mof X g (upl own [(id,some none)]) b->Mof X g own b:=λb hb=>by
  rcases hb with hb|⟨i,o,h1,h2⟩
  ·exact .inl hb
  ·exact .inr ⟨i,o,(hlive i o h1).2,h2⟩
 have he:Ext (Mof X g own) (Mof X g (upl own [(id,some none)])) w w:=⟨Nat.le_refl _,λ_ _ _ _=>rfl,λb _ hb=>hM b hb⟩
 refine h g a w ⟨hr.kp,hr.m0,hr.n,hr.df,λt'=>?_,λi o h1=>(hr.ob i o (hlive i o h1).2).keep he (Gh.le_refl g) (λ_ _=>rfl),λi i' o o' b h1 h2=>hr.sep i i' o o' b (hlive i o h1).2 (hlive i' o' h2).2,λi o b h1=>hr.mine i o b (hlive i o h1).2,λi h1=>?_,λi e' s' es' h1=>hr.top i e' s' es' (hlive i _ h1).2⟩
 ·by_cases ht:t'=t
  ·subst ht;have:Nat.beq t' t'=true:=by simp
   simp only [updS,this,cond_true];have hfr:=hr.fr t';rw [hf] at hfr;obtain⟨b,hv,hx⟩:∃ b,g.bl id=some b/\a.tmps.getD t' undef = .map (some b):=hfr;obtain⟨b',o,q1,_,q2,q3⟩:=hr.ob id _ ho;rw [hv] at q1;cases q1;show u.p w _ (a.tmps.getD t' undef);rw [hx];refine hu _ _ b o ?_ q2 q3;have hobk:obk g id (.opq an R)=some b:=hv;rintro (hM0|⟨i,o,h1,h2⟩)
   ·have h5:=hr.m0.1 b hM0;rcases hr.mine id _ b ho hobk with h6|h6
    ·exact h5.2 h6
    ·omega
   ·obtain⟨h3,h4⟩:=hlive i o h1;exact h3 (hr.sep i id o _ b h4 ho h2 hobk)
  ·simp only [updS,qz ht,cond_false];exact (hr.fr t').keep he (Gh.le_refl g)
 ·by_cases hi:i=id
  ·subst hi;rw [vp] at h1;cases h1
  ·rw [ve hi] at h1;exact hr.fresh i h1
end
theorem x5x {P:Program} {k:TypeId} (hl:laidOutB P=true) (hs:Nat.ble (P.types.size+2) 10000=true) (hr:Nat.blt k P.types.size=true) (hk:P.keyType k=true) (hw:(match P.underlying k with|some (.array _ _)|some (.struct _)=>true|_=>false)=true):Maps.Keyed P k:=
 Maps.Keyed.of_law (deep_law_gate hl (Nat.le_of_ble_eq_true hs) (by simpa [Nat.blt_eq] using hr) hk hw)
theorem x5n {α β:Type} {f:α->Option β}:∀ (l:List α),(∀ x,x∈l->∃ y,f x=some y)->∃ ys,l.mapM f=some ys
 | [],_=>⟨[],rfl⟩
 | x::l,h=>by
  obtain⟨y,hy⟩:=h x (by simp);obtain⟨ys,hys⟩:=x5n l λz hz=>h z (by simp [hz]);exact⟨y::ys,by rw [List.mapM_cons,hy];simp [hys]⟩
def y3g (P:Program) (e:TypeId) (v:Value):Prop:=(P.underlying e=some .string/\∃ s:ByteArray,v = .string s/\s.size<=maxLen)∨(P.underlying e=some (.int .i64)/\∃ n:Int,v = .int .i64 n/\-9223372036854775808<=n/\n<=9223372036854775807) 
theorem w3i {P:Program} {e:TypeId} {v:Value} (h:y3g P e v) (n:Nat):∃ ls,P.keyLits (n+1) e [v]=some ls:=by
 unfold Program.keyLits;rcases h with ⟨h1,s,rfl,h2⟩|⟨h1,m,rfl,h2⟩
 ·simp only [h1,if_pos h2];exact⟨_,rfl⟩
 ·have hw:(Lit.int IntKind.i64 m).wf=true:=WalkArith.wf_i64 h2;simp only [h1,hw,and_self,if_true];exact⟨_,rfl⟩
def y8e (P:Program):Nat->List (Nat×TypeId)->List Value->Prop
 | _,[],[]=>True
 | j,(o,e)::os,v::vs=>o=j/\P.cellsOf e=1/\y3g P e v/\y8e P (j+1) os vs
 | _,_,_=>False
theorem x4v {P:Program} {all:List Value}:∀ (os:List (Nat×TypeId)) (vs:List Value) (j:Nat),y8e P j os vs->(∀ i,vs[i]?=all[j+i]?)->∀ q,q∈os->∃ v,(all.drop q.1).take (P.cellsOf q.2)=[v]/\y3g P q.2 v
 | [],[],j,_,_,q,hq=>by simp at hq
 | (o,e)::os,v::vs,j,h,ha,q,hq=>by
  obtain⟨h1,h2,h3,h4⟩:=h;rcases List.mem_cons.1 hq with rfl|hq
  ·have h5:all[j]?=some v:=by have:=ha 0;simpa using this.symm
   obtain⟨hlt,h6⟩:=List.getElem?_eq_some_iff.1 h5;refine⟨v,?_,h3⟩;simp only at h1 h2 ⊢;rw [h1,h2,List.drop_eq_getElem_cons hlt,h6];rfl
  ·exact x4v os vs (j+1) h4 (λi=>by have:=ha (i+1);rw [List.getElem?_cons_succ] at this;rw [this];congr 1;omega) q hq
def y1e (P:Program) (k:TypeId):Array Field:=match P.underlying k with|some (.struct fs)=>fs|_=>#[]
theorem x5w {P : Program} {k n : TypeId} {os : List (Nat × TypeId)} {vs : List Value} (hk : P.keyType k = true) (hu : P.underlying k = some (.struct (y1e P k))) (hs : P.types.size = n + 1) (hl : vs.length = P.cellsOf k) (hb : (y1e P k).all (·.name != "_") = true)
    (hm : (y1e P k).toList.map (λf=>(f.offset,f.type)) = os) (hp : y8e P 0 os vs) : ∃ kl,keyOf P k (.agg vs.toArray) = some kl:=by
  have h : ∀ f,f ∈ (y1e P k).toList -> ∃ v,(vs.drop f.offset).take (P.cellsOf f.type) = [v]/\y3g P f.type v:=λf hf =>
    x4v (all:=vs) os vs 0 hp (λi=>by simp) (f.offset,f.type) (by rw [← hm];exact List.mem_map.2 ⟨f,hf,rfl⟩)
  generalize y1e P k = fs at hu hb h;clear hm;have hf : (Value.agg vs.toArray).formed P k = true:=by simp [Value.formed,hu,hl]
  obtain⟨ys,hys⟩ := x5n (f:=λf : Field=>P.keyLits (n+1) f.type ((vs.drop f.offset).take (P.cellsOf f.type))) fs.toList λf hm=>by
    obtain⟨v,e1,e2⟩ := h f hm;rw [e1];exact w3i e2 n
  unfold keyOf;simp only [hu,hk,hf,Bool.and_self,if_true,hs];unfold Program.keyLits;simp only [hu,Value.cells];rw [if_pos ⟨hl,hb⟩,hys];exact⟨_,rfl⟩
end Go.Proofs.YtbpedjpoikmbjaaGreatDoor
namespace Go.Proofs.YtbpedjpoikmbjaaGreatDoor
open Go.RowKit
set_option linter.unusedVariables false
def vw (id b:Nat):Slot->Slot
 | .ptr i off=>cond (Nat.beq i id) (.dat (vval (.pointer (some ⟨b,off,none⟩)))) (.ptr i off)
 | .dr i u=>cond (Nat.beq i id) (.dat (u b)) (.dr i u)
 | s=>s
theorem x8m {g:Gh} {w:World} {M:Blks} {id b:Nat} (hb:g.bl id=some b) {s:Slot} {v:Value} (h:RepS g w M s v):RepS g w M (vw id b s) v:=by
 cases s with
 | ptr i off =>
  simp only [vw]
  by_cases hi:i=id
  ·subst hi;have:Nat.beq i i=true:=by simp
   rw [this];obtain⟨b',h1,h2⟩:=h;rw [hb] at h1;cases h1;exact h2
  ·rw [qz hi];exact h
 | dr i u =>
  simp only [vw]
  by_cases hi:i=id
  ·subst hi;have:Nat.beq i i=true:=by simp
   rw [this];obtain⟨b',h1,h2⟩:=h;rw [hb] at h1;cases h1;exact h2
  ·rw [qz hi];exact h
 | any=>exact h
 | dat u=>exact h
 | row i n=>exact h
 | rptr i n size k c=>exact h
 | mp i=>exact h
 | rsub i n size k=>exact h
 | nptr i=>exact h
 | comp _ _=>exact h
theorem x2f {g:Gh} {w:World} {M:Blks} {id b:Nat} (hb:g.bl id=some b) {s:Slot} {v:Value} (h:RepS g w M (vw id b s) v):RepS g w M s v:=by
 cases s with
 | ptr i off =>
  simp only [vw] at h
  by_cases hi:i=id
  ·subst hi;have:Nat.beq i i=true:=by simp
   rw [this] at h;exact⟨b,hb,h⟩
  ·rw [qz hi] at h;exact h
 | dr i u =>
  simp only [vw] at h
  by_cases hi:i=id
  ·subst hi;have:Nat.beq i i=true:=by simp
   rw [this] at h;exact⟨b,hb,h⟩
  ·rw [qz hi] at h;exact h
 | any=>exact h
 | dat u=>exact h
 | row i n=>exact h
 | rptr i n size k c=>exact h
 | mp i=>exact h
 | rsub i n size k=>exact h
 | nptr i=>exact h
 | comp _ _=>exact h
theorem Rel.view {X:Ctx} {f1 f2:Nat->Slot} {own1 own2:Own} {g:Gh} {a:Act} {w:World} {id:Nat} {an an2:Option Nat} {t:TypeId} {cs:List Slot} (h:Rel X f1 own1 g a w)
  (h1:own1 id=some (some (.box an t cs))) (h2:own2=upl own1 [(id,some (some (.box an2 t cs)))]) (ha:∀ q,an2=some q->∀ b,g.bl id=some b->q=b)
  (hf:∀ k v,RepS g w (Mof X g own1) (f1 k) v->RepS g w (Mof X g own1) (f2 k) v):Rel X f2 own2 g a w:=by
 have key:∀ i o2,own2 i=some (some o2)->∃ o1,own1 i=some (some o1)/\obk g i o1=obk g i o2/\(o1=o2∨(i=id/\o2 = .box an2 t cs/\o1 = .box an t cs)):=λi o2 ho=>by
  rw [h2] at ho
  by_cases hi:i=id
  ·subst hi;rw [vp] at ho;cases ho;exact⟨_,h1,rfl,.inr ⟨rfl,rfl,rfl⟩⟩
  ·rw [ve hi] at ho;exact⟨o2,ho,rfl,.inl rfl⟩
 have key':∀ i o1,own1 i=some (some o1)->∃ o2,own2 i=some (some o2)/\obk g i o2=obk g i o1:=λi o1 ho=>by
  rw [h2]
  by_cases hi:i=id
  ·subst hi;rw [h1] at ho;cases ho;exact⟨_,vp,rfl⟩
  ·exact⟨o1,by rw [ve hi];exact ho,rfl⟩
 have hM:Mof X g own2=Mof X g own1:=by
  funext b;refine propext ⟨λhb=>?_,λhb=>?_⟩
  ·rcases hb with hb|⟨i,o,e1,e2⟩
   ·exact .inl hb
   ·obtain⟨o1,e3,e4,_⟩:=key i o e1;exact .inr ⟨i,o1,e3,e4.trans e2⟩
  ·rcases hb with hb|⟨i,o,e1,e2⟩
   ·exact .inl hb
   ·obtain⟨o1,e3,e4⟩:=key' i o e1;exact .inr ⟨i,o1,e3,e4.trans e2⟩
 refine⟨h.kp,h.m0,h.n,h.df,λk=>?_,λi o ho=>?_,λi i' o o' b e1 e2 e3 e4=>?_,λi o b e1 e2=>?_,λi hi=>?_,λi e size es e1 k hk=>?_⟩
 ·rw [hM];exact hf k _ (h.fr k)
 ·rw [hM];obtain⟨o1,e1,_,e3⟩:=key i o ho;rcases e3 with rfl|⟨rfl,rfl,rfl⟩
  ·exact h.ob i _ e1
  ·obtain⟨b,l,q1,q2,q3⟩:=h.ob i _ e1;exact⟨b,l,q1,λq hq=>ha q hq b q1,q3⟩
 ·obtain⟨o1,p1,p2,_⟩:=key i o e1;obtain⟨o2,p3,p4,_⟩:=key i' o' e2;exact h.sep i i' o1 o2 b p1 p3 (p2.trans e3) (p4.trans e4)
 ·obtain⟨o1,p1,p2,_⟩:=key i o e1;exact h.mine i o1 b p1 (p2.trans e2)
 ·refine h.fresh i ?_;rw [h2] at hi
  by_cases hii:i=id
  ·subst hii;rw [vp] at hi;cases hi
  ·rw [ve hii] at hi;exact hi
 ·obtain⟨o1,p1,_,p3⟩:=key i _ e1;rcases p3 with rfl|⟨_,p4,_⟩
  ·exact h.top i e size es p1 k hk
  ·cases p4
section
variable {P:Program} {f:Nat->Slot} {dst:Option Tmp} {ty:TypeId} {pos:String} {af:Array Edge} {gd:Option (Nat×Bool)}
theorem w0v {o:Oper} (id:Nat) {an:Option Nat} {t:TypeId} {cs:List Slot} {rd wr:List (Nat×Option (Option AObj))} {s:Slot} (h:∀ b,Stp P o (λk=>vw id b (f k)) ⟨false,rd,wr,vw id b s⟩) (hr:(keys rd).contains id=false) (hw:(keys wr).contains id=false) :
  Stp P o f ⟨false,(id,some (some (.box an t cs)))::rd,wr,s⟩:=by
 classical
 intro X f' own g a w Q hrl hd hx hrd K hK;have ho:own id=some (some (.box an t cs)):=hrd (id,_) (by simp);obtain⟨b,l,q1,q2,q3⟩:=hrl.ob id _ ho;have hidw:id ∉ keys wr:=λhm=>by rw [List.contains_iff_mem.2 hm] at hw;cases hw
 let f2:Nat->Slot:=λk=>if Operand.tmp k∈o.op.operands.toList then vw id b (f k) else f' k
 have e0:∀ k,Operand.tmp k∈o.op.operands.toList->f' k=f k:=λk hk=>hx (.tmp k) (by simpa using hk)
 have hR:Rel X f2 (upl own [(id,some (some (.box (some b) t cs)))]) g a w:=hrl.view ho rfl (λq hq b' hb'=>by cases hq;rw [q1] at hb';exact Option.some.inj hb') λk v hv=>by
  show RepS g w _ (if Operand.tmp k∈o.op.operands.toList then vw id b (f k) else f' k) v;split
  ·rename_i hk;rw [← e0 k hk];exact x8m q1 hv
  ·exact hv
 refine h b X f2 _ g a w Q hR hd (λx hxm=>?_) (λq hq=>?_) K λg' v w' hR'=>hK g' v w' ?_
 ·cases x with
  | tmp k =>
   show (if Operand.tmp k∈o.op.operands.toList then vw id b (f k) else f' k)=vw id b (f k);rw [if_pos (by simpa using hxm)]
  | const v=>rfl
  | _=>rfl
 ·have hne:q.1≠id:=λe=>by
   have:(keys rd).contains id=true:=List.contains_iff_mem.2 (List.mem_map.2 ⟨q,hq,e⟩);rw [this] at hr;cases hr
  rw [ve hne];exact hrd q (List.mem_cons_of_mem _ hq)
 ·have e1:upl (upl own [(id,some (some (.box (some b) t cs)))]) wr id=some (some (.box (some b) t cs)):=by rw [Zp _ _ _ hidw];exact vp
  obtain⟨b',l',r1,r2,_⟩:=hR'.ob id _ e1;have hbb:b=b':=r2 b rfl;subst hbb;refine Rel.view (an2:=an) hR' e1 ?_ (λq hq b' hb'=>?_) λk v hv=>?_
  ·funext i
   by_cases hi:i=id
   ·subst hi;rw [vp,Zp _ _ _ hidw];exact ho
   ·rw [ve hi]
    by_cases hm:i∈keys wr
    ·exact y1x _ _ _ _ hm
    ·rw [Zp _ _ _ hm,Zp _ _ _ hm,ve hi]
  ·rw [r1] at hb';cases hb';exact q2 q hq
  ·have hk2:∀ v,RepS g' w' (Mof X g' (upl (upl own [(id,some (some (.box (some b) t cs)))]) wr)) (f2 k) v->RepS g' w' (Mof X g' (upl (upl own [(id,some (some (.box (some b) t cs)))]) wr)) (f' k) v:=λv hv=>by
    by_cases hk:Operand.tmp k∈o.op.operands.toList
    ·have:f2 k=vw id b (f k):=if_pos hk;rw [this] at hv;rw [e0 k hk];exact x2f r1 hv
    ·have:f2 k=f' k:=if_neg hk;rw [this] at hv;exact hv
   cases hdst:o.dst with
   | none =>
    rw [hdst] at hv;exact hk2 v hv
   | some d =>
    rw [hdst] at hv;simp only [updS] at hv ⊢;cases hkd:Nat.beq k d
    ·rw [hkd] at hv;exact hk2 v hv
    ·rw [hkd] at hv;exact x2f r1 hv
end
section
variable {P:Program} {f:Nat->Slot} {dst:Option Tmp} {ty:TypeId} {pos:String} {af:Array Edge} {ops:Array Oper} {os:List Oper} {own:Own} {lg:List (List Nat×List Nat)} {K:(Nat->Slot)->Own->List (List Nat×List Nat)->Prop}
end
section
variable {P:Program} {X:Ctx} {Q:Exit->(Nat->Slot)->Own->Prop} {c:Code} {f:Nat->Slot} {own:Own}
theorem y1p (i j id:Nat) {an:Option Nat} {t e:TypeId} {size n:Nat} {cs:List Slot} {es:List (List V)} (hb:own i=some (some (.box an t cs))) (hj:cs[j]?=some (.row id n)) (ho:own id=some (some (.row e size es))) (hn:n=es.length)
  (h:AWP P X c Q f (upl (upl own [(id,some none)]) [(i,some (some (.box an t (cs.set j (.dat (vlst es))))))])):AWP P X c Q f own:=by
 intro g a w hr;subst hn;have hne:i≠id:=by rintro rfl;rw [hb] at ho;cases ho
 have key:∀ k o,upl (upl own [(id,some none)]) [(i,some (some (.box an t (cs.set j (.dat (vlst es))))))] k=some (some o)->k≠id/\((k=i/\o = .box an t (cs.set j (.dat (vlst es))))∨(k≠i/\own k=some (some o))):=λk o hk=>by
  by_cases hki:k=i
  ·subst hki;rw [vp] at hk;cases hk;exact⟨hne,.inl ⟨rfl,rfl⟩⟩
  ·rw [ve hki] at hk
   by_cases hkd:k=id
   ·subst hkd;rw [vp] at hk;cases hk
   ·rw [ve hkd] at hk;exact⟨hkd,.inr ⟨hki,hk⟩⟩
 have keyo:∀ k o,upl (upl own [(id,some none)]) [(i,some (some (.box an t (cs.set j (.dat (vlst es))))))] k=some (some o)->k≠id/\∃ o',own k=some (some o')/\obk g k o'=obk g k o:=λk o hk=>by
  obtain⟨h1,h2⟩:=key k o hk;rcases h2 with ⟨rfl,rfl⟩|⟨_,h2⟩
  ·exact⟨h1,_,hb,rfl⟩
  ·exact⟨h1,o,h2,rfl⟩
 have hM:∀ b,Mof X g (upl (upl own [(id,some none)]) [(i,some (some (.box an t (cs.set j (.dat (vlst es))))))]) b->Mof X g own b:=λb hb=>by
  rcases hb with hb|⟨k,o,h1,h2⟩
  ·exact .inl hb
  ·obtain⟨_,o',h3,h4⟩:=keyo k o h1;exact .inr ⟨k,o',h3,h4.trans h2⟩
 have he:Ext (Mof X g own) (Mof X g (upl (upl own [(id,some none)]) [(i,some (some (.box an t (cs.set j (.dat (vlst es))))))])) w w:=⟨Nat.le_refl _,λ_ _ _ _=>rfl,λb _ hb=>hM b hb⟩
 have hfz:∀ x,g.sv id es.length=some x->(vlst es).p w (Mof X g (upl (upl own [(id,some none)]) [(i,some (some (.box an t (cs.set j (.dat (vlst es))))))])) x:=λx hv=>by
  obtain⟨v',xs,q1,q2,q3,q4,q5⟩:=hr.ob id _ ho;rw [hv] at q1;cases q1;rcases q2.2 with ⟨r1,r2⟩|⟨b,cap,cur,r1,_,hb2,hnc,_,hcs,htk⟩
  ·have:es=[]:=List.eq_nil_of_length_eq_zero r2;subst this;exact⟨none,0,r1,Nat.le_refl _,λh=>absurd rfl h⟩
  ·have hobk:obk g id (.row e size es)=some b:=by simp only [obk];rw [hv,r1];rfl
   refine⟨_,cap,r1,hnc,λ_=>⟨b,0,size,rfl,?_,cur,e,(0,0),hb2,q4,λk c el u hk hc=>?_⟩⟩
   ·rintro (hM0|⟨k,o,h1,h2⟩)
    ·have h5:=hr.m0.1 b hM0;rcases hr.mine id _ b ho hobk with h6|h6
     ·exact h5.2 h6
     ·omega
    ·obtain⟨h3,o',h4,h5⟩:=keyo k o h1;exact h3 (hr.sep k id o' _ b h4 ho (h5.trans h2) hobk)
   ·obtain⟨x,s1,s2,s3⟩:=q5 k c el u hk hc;refine⟨x,?_,u.keep he s2,s3⟩;rw [← htk,List.getElem?_take] at s1;split at s1
    ·rw [Nat.zero_add];simpa using s1
    ·cases s1
 refine h g a w ⟨hr.kp,hr.m0,hr.n,hr.df,λt'=>(hr.fr t').keep he (Gh.le_refl g),λk o h1=>?_,λk k' o o' b h1 h2 h3 h4=>?_,λk o b h1 h2=>?_,λk h1=>?_,λk e' s' es' h1=>?_⟩
 ·obtain⟨_,h2⟩:=key k o h1;rcases h2 with ⟨rfl,rfl⟩|⟨_,h2⟩
  ·obtain⟨b0,l0,q1,q0,q2,q3,q4⟩:=hr.ob k _ hb;refine⟨b0,l0,q1,q0,q2,by rw [List.length_set];exact q3,λm s hs=>?_⟩;rw [List.getElem?_set] at hs;split at hs
   ·rename_i hjm;subst hjm;split at hs
    ·cases hs;obtain⟨x,x1,x2,x3⟩:=q4 j _ hj;exact⟨x,x1,hfz x x2,x3⟩
    ·cases hs
   ·obtain⟨x,x1,x2,x3⟩:=q4 m s hs;exact⟨x,x1,x2.keep he (Gh.le_refl g),x3⟩
  ·exact (hr.ob k o h2).keep he (Gh.le_refl g) (λ_ _=>rfl)
 ·obtain⟨_,p,p1,p2⟩:=keyo k o h1;obtain⟨_,p',p3,p4⟩:=keyo k' o' h2;exact hr.sep k k' p p' b p1 p3 (p2.trans h3) (p4.trans h4)
 ·obtain⟨_,p,p1,p2⟩:=keyo k o h1;exact hr.mine k p b p1 (p2.trans h2)
 ·by_cases hki:k=i
  ·subst hki;rw [vp] at h1;cases h1
  ·rw [ve hki] at h1
   by_cases hkd:k=id
   ·subst hkd;rw [vp] at h1;cases h1
   ·rw [ve hkd] at h1;exact hr.fresh k h1
 ·obtain⟨_,h2⟩:=key k _ h1;rcases h2 with ⟨_,h2⟩|⟨_,h2⟩
  ·cases h2
  ·exact hr.top k e' s' es' h2
end
end Go.Proofs.YtbpedjpoikmbjaaGreatDoor
