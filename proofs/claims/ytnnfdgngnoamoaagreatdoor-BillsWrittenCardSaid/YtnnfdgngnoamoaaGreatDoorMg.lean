/- The abstract machine: maps whose keys and elements are plain, as lists of entries. -/
import Derived.Test.YtnnfdgngnoamoaaGreatDoorTu
import Derived.Test.YtnnfdgngnoamoaaGreatDoorMl
import Derived.Maps.Keyed
import Derived.DeepKeys5
namespace Go.Proofs.YtnnfdgngnoamoaaGreatDoor
open Go.RowKit Go.ChangeMaps Go.MapKept
set_option linter.unusedVariables false
section
variable {κ τ:Type}
structure MT (κ τ:Type) where
 kV:κ→V
 ck:κ→Value
 ok:κ→Prop
 eV:τ→V
 ce:τ→Value
 z:τ
def EnG (T:MT κ τ) (es:Array MapEntry) (clock:Nat) (l:List (κ×τ)):Prop:=
 Stamped es clock∧es.toList.map (fun e=>(e.key,e.val))=l.map (fun p=>(T.ck p.1,T.ce p.2))∧∀ p,p∈l→T.ok p.1
def qx (T:MT κ τ) (l:List (κ×τ)):Obj→Prop:=fun o=>∃ es clock,o = .map es clock∧EnG T es clock l
structure TyG (P:Program) (t kt et:TypeId) (T:MT κ τ):Prop where
 ut:P.underlying t=some (.map kt et)
 K:Maps.Keyed P kt
 kof:∀ k,T.ok k→∃ kl,keyOf P kt (T.ck k)=some kl
 zv:∀ w,(zeroValue et).run P w = .ok (T.ce T.z) w
 inj:∀ a b,T.ck a=T.ck b→a=b
 kin:∀ k w M v,(T.kV k).p w M v→v=T.ck k
 ein:∀ x w M v,(T.eV x).p w M v→v=T.ce x
 eof:∀ x w M,(T.eV x).p w M (T.ce x)
 kin2:∀ k w M,(T.kV k).p w M (T.ck k)
theorem w57 {vs:List Value} {w:World} {M:Blks} {l:List Value} (h:Cs w M (vs.map vval) l):l=vs:=by
 obtain ⟨h1,h2⟩:=h
 rw [List.length_map] at h1
 refine List.ext_getElem? fun j => ?_
 cases hq:vs[j]? with
 | none=>rw [List.getElem?_eq_none_iff] at hq ⊢; omega
 | some v =>
  obtain ⟨x,e1,e2,_⟩:=h2 j (vval v) (by rw [List.getElem?_map,hq]; rfl)
  rw [e1]
  exact congrArg some e2
theorem x59 {vs:List Value} {w:World} {M:Blks} (h:vs.all (·.oneCell')=true):Cs w M (vs.map vval) vs:=by
 refine ⟨by simp,fun j u hj => ?_⟩
 rw [List.getElem?_map] at hj
 cases hq:vs[j]? with
 | none=>rw [hq] at hj; cases hj
 | some x=>rw [hq] at hj; cases hj; exact ⟨x,rfl,rfl,(List.all_eq_true.1 h) x (List.mem_of_getElem? hq)⟩
theorem y9r {us:List V} {vs:List Value} (e:us=vs.map vval) {w:World} {M:Blks} {v:Value} (h:(vagg us).p w M v):v = .agg vs.toArray:=by
 subst e
 obtain ⟨l,h1,h2⟩:=h
 rw [h1,w57 h2]
theorem y9q {us:List V} {vs:List Value} (e:us=vs.map vval) (ho:vs.all (·.oneCell')=true) (w:World) (M:Blks):(vagg us).p w M (.agg vs.toArray):=by
 subst e
 exact ⟨vs,rfl,x59 ho⟩
theorem y8u {T:MT κ τ} {es:Array MapEntry} {clock:Nat} {l:List (κ×τ)} (h:EnG T es clock l) {j:Nat} {e:MapEntry} (he:es.toList[j]?=some e):∃ p,l[j]?=some p∧e.key=T.ck p.1∧e.val=T.ce p.2:=by
 have h1:=congrArg (fun q=>q[j]?) h.2.1
 simp only [List.getElem?_map,he,Option.map_some] at h1
 cases hq:l[j]? with
 | none=>rw [hq] at h1; cases h1
 | some p =>
  rw [hq] at h1
  simp only [Option.map_some,Option.some.injEq,Prod.mk.injEq] at h1
  exact ⟨p,rfl,h1.1,h1.2⟩
theorem w50 {T:MT κ τ} {es:Array MapEntry} {clock:Nat} {l:List (κ×τ)} (h:EnG T es clock l):es.size=l.length:=by
 have:=congrArg List.length h.2.1
 simpa using this
theorem z9u {T:MT κ τ} {es:Array MapEntry} {clock:Nat} {l:List (κ×τ)} (h:EnG T es clock l):l.Pairwise fun p q=>p.1≠q.1:=by
 have h1:(es.toList.map (·.key)).Nodup:=h.1.2.2
 have h2:es.toList.map (·.key)=l.map fun p=>T.ck p.1:=by
  have:=congrArg (List.map Prod.fst) h.2.1
  simpa [List.map_map,Function.comp_def] using this
 rw [h2,List.Nodup,List.pairwise_map] at h1
 exact h1.imp fun {a b} hne e=>hne (congrArg T.ck e)
end
section
variable {κ τ:Type} {P:Program} {t kt et:TypeId} {T:MT κ τ} {w:World} {b:Nat} {es:Array MapEntry} {clock:Nat} {l:List (κ×τ)}
theorem x4n (hT:TyG P t kt et T) (h:EnG T es clock l):∀ e,e∈es.toList→∃ q,keyOf P kt e.key=some q:=fun e he=>by
 obtain ⟨j,hj⟩:=List.getElem?_of_mem he
 obtain ⟨p,p1,p2,_⟩:=y8u h hj
 rw [p2]
 exact hT.kof _ (h.2.2 p (List.mem_of_getElem? p1))
theorem y8s (hT:TyG P t kt et T) (h:EnG T es clock l) {k:κ} (h2:∀ e,e∈es.toList→e.key≠T.ck k):∀ p,p∈l→p.1≠k:=fun p hp e=>by
 obtain ⟨j,hj⟩:=List.getElem?_of_mem hp
 have hlt:j < es.toList.length:=by
  have h1:=w50 h
  have h3:=(List.getElem?_eq_some_iff.1 hj).1
  simp only [Array.length_toList]; omega
 obtain ⟨q,q1,q2,_⟩:=y8u h (List.getElem?_eq_getElem hlt)
 rw [hj] at q1
 cases q1
 exact h2 _ (List.getElem_mem hlt) (by rw [q2,e])
theorem x4o (hT:TyG P t kt et T) (h:EnG T es clock l) {k:κ} {j:Nat} {e0:MapEntry} (h2:es.toList[j]?=some e0) (h3:e0.key=T.ck k):∃ v,l[j]?=some (k,v)∧e0.val=T.ce v:=by
 obtain ⟨p,p1,p2,p3⟩:=y8u h h2
 have e:=hT.inj _ _ (p2.symm.trans h3)
 exact ⟨p.2,by rw [p1,← e],p3⟩
theorem y8t (hT:TyG P t kt et T) (c:Bool) (hb:w.heap[b]?=some (.map es clock)) (h:EnG T es clock l) {k:κ} (hk:T.ok k) :
  (Instr.lookup t (.map (some b)) (T.ck k) c).run P w = .ok (if c then .tuple #[T.ce ((lkG l k).getD T.z),.bool (lkG l k).isSome] else T.ce ((lkG l k).getD T.z)) w:=by
 obtain ⟨kl,hkl⟩:=hT.kof k hk
 rcases hT.K.find w hkl es.toList (x4n hT h) with ⟨h1,h2⟩ | ⟨j,e0,h1,h2,h3⟩
 ·have e1:=(y23 l k (y8s hT h h2)).1
  rw [e1]
  simp [Instr.lookup,run_underlying hT.ut,MapKept.run_getObj_map hb,hT.K.check w _ hkl,h1,hT.zv w,Result.andThen]
 ·obtain ⟨v,v1,v2⟩:=x4o hT h h2 h3
  have e1:=(z88 l j k v (z9u h) v1).1
  rw [e1]
  simp [Instr.lookup,run_underlying hT.ut,MapKept.run_getObj_map hb,hT.K.check w _ hkl,h1,Result.andThen,v2]
theorem w5z (hT:TyG P t kt et T) (hb:w.heap[b]?=some (.map es clock)) (h:EnG T es clock l) {k:κ} (hk:T.ok k) (v:τ) :
  ∃ es' clock',(Instr.mapUpdate t (.map (some b)) (T.ck k) (T.ce v)).run P w = .ok () (setBlock w b (.map es' clock'))∧EnG T es' clock' (ptG l k v):=by
 obtain ⟨kl,hkl⟩:=hT.kof k hk
 rcases hT.K.find w hkl es.toList (x4n hT h) with ⟨h1,h2⟩ | ⟨j,e0,h1,h2,h3⟩
 ·refine ⟨es.push ⟨T.ck k,T.ce v,clock⟩,clock+1,?_,stamped_push h.1 h2,?_,fun p hp => ?_⟩
  ·simp [Instr.mapUpdate,run_underlying hT.ut,MapKept.run_getObj_map hb,hT.K.check w false hkl,h1,MapKept.run_setObj_map _ hb,Result.andThen,setBlock]
  ·rw [(y23 l k (y8s hT h h2)).2,Array.toList_push,List.map_append,List.map_append,h.2.1]; rfl
  ·rw [(y23 l k (y8s hT h h2)).2] at hp
   rcases List.mem_append.1 hp with hp | hp
   ·exact h.2.2 p hp
   ·rw [List.mem_singleton.1 hp]; exact hk
 ·obtain ⟨v0,v1,v2⟩:=x4o hT h h2 h3
  have hj:es[j]?=some e0:=by simpa using h2
  have hlist:(es.modify j (fun e'=>{ e' with key:=T.ck k,val:=T.ce v })).toList=es.toList.set j { e0 with key:=T.ck k,val:=T.ce v }:=by rw [Array.toList_modify,modify_eq_set _ _ _ _ h2]
  refine ⟨es.modify j (fun e'=>{ e' with key:=T.ck k,val:=T.ce v }),clock,?_,stamped_modify h.1 _ _ (fun _ _=>rfl) (fun e' _ he'=>by rw [hj] at he'; cases he'; exact h3.symm),?_,fun p hp => ?_⟩
  ·simp [Instr.mapUpdate,run_underlying hT.ut,MapKept.run_getObj_map hb,hT.K.check w false hkl,h1,hj,h3,hT.K.stays w hkl,MapKept.run_setObj_map _ hb,Result.andThen,setBlock]
  ·rw [(z88 l j k v0 (z9u h) v1).2,hlist,List.map_set,List.map_set,h.2.1]
  ·rw [(z88 l j k v0 (z9u h) v1).2] at hp
   rcases List.mem_or_eq_of_mem_set hp with hp | hp
   ·exact h.2.2 p hp
   ·rw [hp]; exact hk
end
section
variable {κ τ:Type} {P:Program} {f:Nat→Slot} {dst:Option Tmp} {ty:TypeId} {pos:String} {af:Array Edge} {gd:Option (Nat×Bool)}
theorem y0y (id:Nat) {t kt et:TypeId} {T:MT κ τ} (hT:TyG P t kt et T):Stp P ⟨dst,.makeMap t none,ty,pos,af,gd⟩ f ⟨false,[(id,none)],[(id,some (some (.opq none (qx T []))))],.mp id⟩:=
 x72 id (ob := .map #[] 0) (R:=qx T []) ⟨#[],0,rfl,stamped_empty 0,rfl,by simp⟩ fun ev w=>by simp [execOp,Instr.makeMap]
def vmpG (T:MT κ τ) (l:List (κ×τ)):V:=
  ⟨fun w M v=>∃ b es clock,v = .map (some b)∧¬ M b∧w.heap[b]?=some (.map es clock)∧EnG T es clock l,true,fun {w w' M M' v} he ⟨b,es,clock,h1,h2,h3,h4⟩ =>
    ⟨b,es,clock,h1,fun hm=>h2 (he.sub b (vg h3) hm),(he.block b (vg h3) h2 ⟨_,h3,rfl⟩).trans h3,h4⟩,
   fun _ _ _ v ⟨b,_,_,h1,_⟩=>by rw [h1]; rfl⟩
variable {an:Option Nat} {t kt et:TypeId} {T:MT κ τ} {l:List (κ×τ)} {x y:Operand} {id:Nat}
theorem z0k (k:κ) (hT:TyG P t kt et T) (hx:evS f x = .mp id) (hy:evS f y = .dat (T.kV k)) (hk:T.ok k) :
  Stp P ⟨dst,.lookup t x y false,ty,pos,af,gd⟩ f ⟨false,[(id,some (some (.opq an (qx T l))))],[],.dat (T.eV ((lkG l k).getD T.z))⟩:=
 xa fun X own g a w h hob=>by
  obtain ⟨b,h1,h2⟩:∃ b,g.bl id=some b∧a.eval x = .map (some b):=by have:=h x (by simp [Op.operands]); rw [hx] at this; exact this
  have h3:=h y (by simp [Op.operands])
  rw [hy] at h3
  have h3:=hT.kin _ _ _ _ h3
  obtain ⟨b',o,q1,_,q2,es,clock,rfl,q3⟩:=hob
  rw [h1] at q1
  cases q1
  have:=y8t hT false q2 q3 hk
  simp only [Bool.false_eq_true,if_false] at this
  exact ⟨_,by simp only [execOp,h2,h3,Sem.run_bind,this,Result.andThen_ok,Sem.run_pure],hT.eof _ _ _⟩
theorem x75 (k:κ) (hT:TyG P t kt et T) (hx:evS f x = .dat (vmpG T l)) (hy:evS f y = .dat (T.kV k)) (hk:T.ok k) :
  Stp P ⟨dst,.lookup t x y false,ty,pos,af,gd⟩ f ⟨false,[],[],.dat (T.eV ((lkG l k).getD T.z))⟩:=
 vp fun X own g a w h=>by
  have h1:=h x (by simp [Op.operands])
  rw [hx] at h1
  have h3:=h y (by simp [Op.operands])
  rw [hy] at h3
  have h3:=hT.kin _ _ _ _ h3
  obtain ⟨b,es,clock,h2,_,q2,q3⟩:=h1
  have:=y8t hT false q2 q3 hk
  simp only [Bool.false_eq_true,if_false] at this
  exact ⟨_,by simp only [execOp,h2,h3,Sem.run_bind,this,Result.andThen_ok,Sem.run_pure],hT.eof _ _ _⟩
theorem z6x {z:Operand} (k:κ) (v:τ) (hT:TyG P t kt et T) (hx:evS f x = .mp id) (hy:evS f y = .dat (T.kV k)) (hz:evS f z = .dat (T.eV v)) (hk:T.ok k) :
  Stp P ⟨dst,.mapUpdate t x y z,ty,pos,af,gd⟩ f ⟨false,[(id,some (some (.opq an (qx T l))))],[(id,some (some (.opq an (qx T (ptG l k v)))))],.any⟩:=by
 refine x71 fun X own g a w b ob h q1 q2 q3 => ?_
 obtain ⟨b',h1,h2⟩:∃ b,g.bl id=some b∧a.eval x = .map (some b):=by have:=h x (by simp [Op.operands]); rw [hx] at this; exact this
 rw [q1] at h1
 cases h1
 have h3:=h y (by simp [Op.operands])
 rw [hy] at h3
 have h3:=hT.kin _ _ _ _ h3
 have h4:=h z (by simp [Op.operands])
 rw [hz] at h4
 have h4:=hT.ein _ _ _ _ h4
 obtain ⟨es,clock,rfl,q3⟩:=q3
 obtain ⟨es',clock',r1,r2⟩:=w5z hT q2 q3 hk v
 refine ⟨setBlock w b (.map es' clock'),.map es' clock',by simp only [execOp,h2,h3,h4,Sem.run_bind,r1,Result.andThen_ok,Sem.run_pure],Kp.of_grown (row:=some b) ⟨rfl,rfl,rfl,by simp [setBlock],fun i _ hi=>heap_setBlock_other q2 _ (fun e=>hi (by rw [e]))⟩ (by intro g hg; injection hg with hg; subst hg; exact .inl (by simp)),heap_setBlock_same q2 _,es',clock',rfl,r2⟩
end
section
variable {κ τ:Type} {P:Program} {X:Ctx} {Q:Exit→(Nat→Slot)→Own→Prop} {c:Code} {f:Nat→Slot} {own:Own}
theorem y19 {T:MT κ τ} {l:List (κ×τ)} (w:World) (M:Blks) (b:Nat) (o:Obj) (hM:¬ M b) (hb:w.heap[b]?=some o) (h:qx T l o):(vmpG T l).p w M (.map (some b)):=by
 obtain ⟨es,clock,rfl,h⟩:=h
 exact ⟨b,es,clock,rfl,hM,hb,h⟩
theorem w72 (i j id:Nat) {an an':Option Nat} {t:TypeId} {R:Obj→Prop} {u:V} {cs:List Slot} (hu:∀ (w:World) (M:Blks) (b:Nat) (o:Obj),¬ M b→w.heap[b]?=some o→R o→u.p w M (.map (some b))) (hb:own i=some (some (.box an t cs))) (hj:cs[j]?=some (.mp id)) (ho:own id=some (some (.opq an' R)))
  (h:AWP P X c Q f (upl (upl own [(id,some none)]) [(i,some (some (.box an t (cs.set j (.dat u)))))])):AWP P X c Q f own:=by
 intro g a w hr
 have hne:i≠id:=by rintro rfl; rw [hb] at ho; cases ho
 have key:∀ k o,upl (upl own [(id,some none)]) [(i,some (some (.box an t (cs.set j (.dat u)))))] k=some (some o)→k≠id∧((k=i∧o = .box an t (cs.set j (.dat u)))∨(k≠i∧own k=some (some o))):=fun k o hk=>by
  by_cases hki:k=i
  ·subst hki
   rw [vm] at hk; cases hk
   exact ⟨hne,.inl ⟨rfl,rfl⟩⟩
  ·rw [va hki] at hk
   by_cases hkd:k=id
   ·subst hkd; rw [vm] at hk; cases hk
   ·rw [va hkd] at hk
    exact ⟨hkd,.inr ⟨hki,hk⟩⟩
 have keyo:∀ k o,upl (upl own [(id,some none)]) [(i,some (some (.box an t (cs.set j (.dat u)))))] k=some (some o)→k≠id∧∃ o',own k=some (some o')∧obk g k o'=obk g k o:=fun k o hk=>by
  obtain ⟨h1,h2⟩:=key k o hk
  rcases h2 with ⟨rfl,rfl⟩ | ⟨_,h2⟩
  ·exact ⟨h1,_,hb,rfl⟩
  ·exact ⟨h1,o,h2,rfl⟩
 have hM:∀ b,Mof X g (upl (upl own [(id,some none)]) [(i,some (some (.box an t (cs.set j (.dat u)))))]) b→Mof X g own b:=fun b hb=>by
  rcases hb with hb | ⟨k,o,h1,h2⟩
  ·exact .inl hb
  ·obtain ⟨_,o',h3,h4⟩:=keyo k o h1
   exact .inr ⟨k,o',h3,h4.trans h2⟩
 have he:Ext (Mof X g own) (Mof X g (upl (upl own [(id,some none)]) [(i,some (some (.box an t (cs.set j (.dat u)))))])) w w:=⟨Nat.le_refl _,fun _ _ _ _=>rfl,fun b _ hb=>hM b hb⟩
 have hfz:∀ x,(∃ b,g.bl id=some b∧x = .map (some b))→u.p w (Mof X g (upl (upl own [(id,some none)]) [(i,some (some (.box an t (cs.set j (.dat u)))))])) x:=fun x ⟨b,hv,hx⟩=>by
  obtain ⟨b',o,q1,_,q2,q3⟩:=hr.ob id _ ho
  rw [hv] at q1
  cases q1
  rw [hx]
  refine hu _ _ b o ?_ q2 q3
  have hobk:obk g id (.opq an' R)=some b:=hv
  rintro (hM0 | ⟨k,o,h1,h2⟩)
  ·have h5:=hr.m0.1 b hM0
   rcases hr.mine id _ b ho hobk with h6 | h6
   ·exact h5.2 h6
   ·omega
  ·obtain ⟨h3,o',h4,h5⟩:=keyo k o h1
   exact h3 (hr.sep k id o' _ b h4 ho (h5.trans h2) hobk)
 refine h g a w ⟨hr.kp,hr.m0,hr.n,hr.df,fun t'=>(hr.fr t').keep he (Gh.le_refl g),fun k o h1 => ?_,fun k k' o o' b h1 h2 h3 h4 => ?_,fun k o b h1 h2 => ?_,fun k h1 => ?_,fun k e' s' es' h1 => ?_⟩
 ·obtain ⟨_,h2⟩:=key k o h1
  rcases h2 with ⟨rfl,rfl⟩ | ⟨_,h2⟩
  ·obtain ⟨b0,l0,q1,q0,q2,q3,q4⟩:=hr.ob k _ hb
   refine ⟨b0,l0,q1,q0,q2,by rw [List.length_set]; exact q3,fun m s hs => ?_⟩
   rw [List.getElem?_set] at hs
   split at hs
   ·rename_i hjm
    subst hjm
    split at hs
    ·cases hs
     obtain ⟨x,x1,x2,x3⟩:=q4 j _ hj
     exact ⟨x,x1,hfz x x2,x3⟩
    ·cases hs
   ·obtain ⟨x,x1,x2,x3⟩:=q4 m s hs
    exact ⟨x,x1,x2.keep he (Gh.le_refl g),x3⟩
  ·exact (hr.ob k o h2).keep he (Gh.le_refl g) (fun _ _=>rfl)
 ·obtain ⟨_,p,p1,p2⟩:=keyo k o h1
  obtain ⟨_,p',p3,p4⟩:=keyo k' o' h2
  exact hr.sep k k' p p' b p1 p3 (p2.trans h3) (p4.trans h4)
 ·obtain ⟨_,p,p1,p2⟩:=keyo k o h1
  exact hr.mine k p b p1 (p2.trans h2)
 ·by_cases hki:k=i
  ·subst hki; rw [vm] at h1; cases h1
  ·rw [va hki] at h1
   by_cases hkd:k=id
   ·subst hkd; rw [vm] at h1; cases h1
   ·rw [va hkd] at h1; exact hr.fresh k h1
 ·obtain ⟨_,h2⟩:=key k _ h1
  rcases h2 with ⟨_,h2⟩ | ⟨_,h2⟩
  ·cases h2
  ·exact hr.top k e' s' es' h2
theorem y4i (t id:Nat) {an:Option Nat} {R:Obj→Prop} {u:V} (hu:∀ (w:World) (M:Blks) (b:Nat) (o:Obj),¬ M b→w.heap[b]?=some o→R o→u.p w M (.map (some b))) (hf:f t = .mp id) (ho:own id=some (some (.opq an R)))
  (h:AWP P X c Q (updS f (some t) (.dat u)) (upl own [(id,some none)])):AWP P X c Q f own:=by
 intro g a w hr
 have hlive:∀ i o,upl own [(id,some none)] i=some (some o)→i≠id∧own i=some (some o):=fun i o h1=>by
  by_cases hi:i=id
  ·subst hi; rw [vm] at h1; cases h1
  ·rw [va hi] at h1; exact ⟨hi,h1⟩
 have hM:∀ b,Mof X g (upl own [(id,some none)]) b→Mof X g own b:=fun b hb=>by
  rcases hb with hb | ⟨i,o,h1,h2⟩
  ·exact .inl hb
  ·exact .inr ⟨i,o,(hlive i o h1).2,h2⟩
 have he:Ext (Mof X g own) (Mof X g (upl own [(id,some none)])) w w:=⟨Nat.le_refl _,fun _ _ _ _=>rfl,fun b _ hb=>hM b hb⟩
 refine h g a w ⟨hr.kp,hr.m0,hr.n,hr.df,fun t' => ?_,fun i o h1=>(hr.ob i o (hlive i o h1).2).keep he (Gh.le_refl g) (fun _ _=>rfl),fun i i' o o' b h1 h2=>hr.sep i i' o o' b (hlive i o h1).2 (hlive i' o' h2).2,fun i o b h1=>hr.mine i o b (hlive i o h1).2,fun i h1 => ?_,fun i e' s' es' h1=>hr.top i e' s' es' (hlive i _ h1).2⟩
 ·by_cases ht:t'=t
  ·subst ht
   have:Nat.beq t' t'=true:=by simp
   simp only [updS,this,cond_true]
   have hfr:=hr.fr t'
   rw [hf] at hfr
   obtain ⟨b,hv,hx⟩:∃ b,g.bl id=some b∧a.tmps.getD t' undef = .map (some b):=hfr
   obtain ⟨b',o,q1,_,q2,q3⟩:=hr.ob id _ ho
   rw [hv] at q1
   cases q1
   show u.p w _ (a.tmps.getD t' undef)
   rw [hx]
   refine hu _ _ b o ?_ q2 q3
   have hobk:obk g id (.opq an R)=some b:=hv
   rintro (hM0 | ⟨i,o,h1,h2⟩)
   ·have h5:=hr.m0.1 b hM0
    rcases hr.mine id _ b ho hobk with h6 | h6
    ·exact h5.2 h6
    ·omega
   ·obtain ⟨h3,h4⟩:=hlive i o h1
    exact h3 (hr.sep i id o _ b h4 ho h2 hobk)
  ·simp only [updS,qu ht,cond_false]
   exact (hr.fr t').keep he (Gh.le_refl g)
 ·by_cases hi:i=id
  ·subst hi; rw [vm] at h1; cases h1
  ·rw [va hi] at h1; exact hr.fresh i h1
end
theorem x3g {P:Program} {k:TypeId} (hl:laidOutB P=true) (hs:Nat.ble (P.types.size+2) 10000=true) (hr:Nat.blt k P.types.size=true) (hk:P.keyType k=true) (hw:(match P.underlying k with | some (.array _ _) | some (.struct _)=>true | _=>false)=true):Maps.Keyed P k:=
 Maps.Keyed.of_law (deep_law_gate hl (Nat.le_of_ble_eq_true hs) (by simpa [Nat.blt_eq] using hr) hk hw)
theorem x2y {α β:Type} {f:α→Option β}:∀ (l:List α),(∀ x,x∈l→∃ y,f x=some y)→∃ ys,l.mapM f=some ys
 | [],_=>⟨[],rfl⟩
 | x::l,h=>by
  obtain ⟨y,hy⟩:=h x (by simp)
  obtain ⟨ys,hys⟩:=x2y l fun z hz=>h z (by simp [hz])
  exact ⟨y::ys,by rw [List.mapM_cons,hy]; simp [hys]⟩
def y12 (P:Program) (e:TypeId) (v:Value):Prop:=(P.underlying e=some .string∧∃ s:ByteArray,v = .string s∧s.size≤maxLen)∨(P.underlying e=some (.int .i64)∧∃ n:Int,v = .int .i64 n∧-9223372036854775808≤n∧n≤9223372036854775807) 
theorem w07 {P:Program} {e:TypeId} {v:Value} (h:y12 P e v) (n:Nat):∃ ls,P.keyLits (n+1) e [v]=some ls:=by
 unfold Program.keyLits
 rcases h with ⟨h1,s,rfl,h2⟩ | ⟨h1,m,rfl,h2⟩
 ·simp only [h1,if_pos h2]; exact ⟨_,rfl⟩
 ·have hw:(Lit.int IntKind.i64 m).wf=true:=WalkArith.wf_i64 h2
  simp only [h1,hw,and_self,if_true]; exact ⟨_,rfl⟩
def y6s (P:Program):Nat→List (Nat×TypeId)→List Value→Prop
 | _,[],[]=>True
 | j,(o,e)::os,v::vs=>o=j∧P.cellsOf e=1∧y12 P e v∧y6s P (j+1) os vs
 | _,_,_=>False
theorem x2h {P:Program} {all:List Value}:∀ (os:List (Nat×TypeId)) (vs:List Value) (j:Nat),y6s P j os vs→(∀ i,vs[i]?=all[j+i]?)→∀ q,q∈os→∃ v,(all.drop q.1).take (P.cellsOf q.2)=[v]∧y12 P q.2 v
 | [],[],j,_,_,q,hq=>by simp at hq
 | (o,e)::os,v::vs,j,h,ha,q,hq=>by
  obtain ⟨h1,h2,h3,h4⟩:=h
  rcases List.mem_cons.1 hq with rfl | hq
  ·have h5:all[j]?=some v:=by have:=ha 0; simpa using this.symm
   obtain ⟨hlt,h6⟩:=List.getElem?_eq_some_iff.1 h5
   refine ⟨v,?_,h3⟩
   simp only at h1 h2 ⊢
   rw [h1,h2,List.drop_eq_getElem_cons hlt,h6]
   rfl
  ·exact x2h os vs (j+1) h4 (fun i=>by have:=ha (i+1); rw [List.getElem?_cons_succ] at this; rw [this]; congr 1; omega) q hq
def z9r (P:Program) (k:TypeId):Array Field:=match P.underlying k with | some (.struct fs)=>fs | _ => #[]
theorem x3e {P : Program} {k n : TypeId} {os : List (Nat × TypeId)} {vs : List Value} (hk : P.keyType k = true) (hu : P.underlying k = some (.struct (z9r P k))) (hs : P.types.size = n + 1) (hl : vs.length = P.cellsOf k) (hb : (z9r P k).all (·.name != "_") = true)
    (hm : (z9r P k).toList.map (fun f => (f.offset, f.type)) = os) (hp : y6s P 0 os vs) : ∃ kl, keyOf P k (.agg vs.toArray) = some kl := by
  have h : ∀ f, f ∈ (z9r P k).toList → ∃ v, (vs.drop f.offset).take (P.cellsOf f.type) = [v] ∧ y12 P f.type v := fun f hf =>
    x2h (all := vs) os vs 0 hp (fun i => by simp) (f.offset, f.type) (by rw [← hm]; exact List.mem_map.2 ⟨f, hf, rfl⟩)
  generalize z9r P k = fs at hu hb h
  clear hm
  have hf : (Value.agg vs.toArray).formed P k = true := by simp [Value.formed, hu, hl]
  obtain ⟨ys, hys⟩ := x2y (f := fun f : Field => P.keyLits (n + 1) f.type ((vs.drop f.offset).take (P.cellsOf f.type))) fs.toList fun f hm => by
    obtain ⟨v, e1, e2⟩ := h f hm
    rw [e1]
    exact w07 e2 n
  unfold keyOf
  simp only [hu, hk, hf, Bool.and_self, if_true, hs]
  unfold Program.keyLits
  simp only [hu, Value.cells]
  rw [if_pos ⟨hl, hb⟩, hys]
  exact ⟨_, rfl⟩
end Go.Proofs.YtnnfdgngnoamoaaGreatDoor
