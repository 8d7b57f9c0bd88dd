/- The abstract machine: ranges over maps. -/
import Derived.Test.YtnnfdgngnoamoaaGreatDoorMg
import Derived.Maps.RangeRun
namespace Go.Proofs.YtnnfdgngnoamoaaGreatDoor
open Go.RowKit Go.ChangeMaps Go.MapKept
set_option linter.unusedVariables false
def vmpX (b:Nat) (es:Array MapEntry) (clock:Nat):V:=
 ⟨fun w M v=>v = .map (some b)∧¬ M b∧w.heap[b]?=some (.map es clock),true,fun {w w' M M' v} he ⟨h1,h2,h3⟩=>⟨h1,fun hm=>h2 (he.sub b (vg h3) hm),(he.block b (vg h3) h2 ⟨_,h3,rfl⟩).trans h3⟩,fun _ _ _ v ⟨h1,_⟩=>by rw [h1]; rfl⟩
def vIt (b:Nat) (es:Array MapEntry) (clock:Nat) (r:Nat):V:=
 ⟨fun w M v=>v = .pointer (some ⟨r,0,none⟩)∧¬ M b∧w.heap[b]?=some (.map es clock),true,fun {w w' M M' v} he ⟨h1,h2,h3⟩=>⟨h1,fun hm=>h2 (he.sub b (vg h3) hm),(he.block b (vg h3) h2 ⟨_,h3,rfl⟩).trans h3⟩,fun _ _ _ v ⟨h1,_⟩=>by rw [h1]; rfl⟩
section
variable {κ τ:Type} {P:Program} {X:Ctx} {Q:Exit→(Nat→Slot)→Own→Prop} {c:Code} {f:Nat→Slot} {own:Own}
theorem w66 {ι:Type} (t:Nat) {u:V} {u':ι→V} (hu:∀ w M v,u.p w M v→∃ i,(u' i).p w M v) (hf:f t = .dat u) (h:∀ i,AWP P X c Q (updS f (some t) (.dat (u' i))) own):AWP P X c Q f own:=by
 intro g a w hr
 have h1:=hr.fr t
 rw [hf] at h1
 obtain ⟨i,hi⟩:=hu _ _ _ h1
 refine h i g a w ⟨hr.kp,hr.m0,hr.n,hr.df,fun t' => ?_,hr.ob,hr.sep,hr.mine,hr.fresh,hr.top⟩
 by_cases ht:t'=t
 ·subst ht
  have:Nat.beq t' t'=true:=by simp
  simp only [updS,this,cond_true]
  exact hi
 ·simp only [updS,qu ht,cond_false]
  exact hr.fr t'
abbrev MapK (T:MT κ τ) (l:List (κ×τ)):Type:={ q:Nat×Array MapEntry×Nat // EnG T q.2.1 q.2.2 l }
theorem w0w {T:MT κ τ} {l:List (κ×τ)} {w:World} {M:Blks} {v:Value} (h:(vmpG T l).p w M v):∃ i:MapK T l,(vmpX i.1.1 i.1.2.1 i.1.2.2).p w M v:=by
 obtain ⟨b,es,clock,h1,h2,h3,h4⟩:=h
 exact ⟨⟨(b,es,clock),h4⟩,h1,h2,h3⟩
theorem x5i (t:Nat) {T:MT κ τ} {l:List (κ×τ)} (hf:f t = .dat (vmpG T l)) (h:∀ b es cl,EnG T es cl l→AWP P X c Q (updS f (some t) (.dat (vmpX b es cl))) own):AWP P X c Q f own:=
 w66 (ι:=MapK T l) t (u':=fun i=>vmpX i.1.1 i.1.2.1 i.1.2.2) (fun w M v=>w0w) hf fun i=>h _ _ _ i.2
theorem x5d (id:Nat) {an:Option Nat} {R R':Obj→Prop} (hR:∀ o,R o→R' o) (ho:own id=some (some (.opq an R))) (h:AWP P X c Q f (upl own [(id,some (some (.opq an R')))])):AWP P X c Q f own:=by
 intro g a w hr
 have key:∀ k o,upl own [(id,some (some (.opq an R')))] k=some (some o)→∃ o',own k=some (some o')∧obk g k o'=obk g k o∧(RepO g w (Mof X g own) k o'→RepO g w (Mof X g own) k o):=fun k o hk=>by
  by_cases hki:k=id
  ·subst hki
   rw [vm] at hk; cases hk
   exact ⟨_,ho,rfl,fun ⟨b,o,h1,h2,h3,h4⟩=>⟨b,o,h1,h2,h3,hR o h4⟩⟩
  ·rw [va hki] at hk
   exact ⟨o,hk,rfl,fun h=>h⟩
 have hM:∀ b,Mof X g (upl own [(id,some (some (.opq an R')))]) b→Mof X g own b:=fun b hb=>by
  rcases hb with hb | ⟨k,o,h1,h2⟩
  ·exact .inl hb
  ·obtain ⟨o',h3,h4,_⟩:=key k o h1
   exact .inr ⟨k,o',h3,h4.trans h2⟩
 have he:Ext (Mof X g own) (Mof X g (upl own [(id,some (some (.opq an R')))])) w w:=⟨Nat.le_refl _,fun _ _ _ _=>rfl,fun b _ hb=>hM b hb⟩
 refine h g a w ⟨hr.kp,hr.m0,hr.n,hr.df,fun t'=>(hr.fr t').keep he (Gh.le_refl g),fun k o h1 => ?_,fun k k' o o' b h1 h2 h3 h4 => ?_,fun k o b h1 h2 => ?_,fun k h1 => ?_,fun k e' s' es' h1 => ?_⟩
 ·obtain ⟨o',h2,_,h3⟩:=key k o h1
  exact (h3 (hr.ob k o' h2)).keep he (Gh.le_refl g) (fun _ _=>rfl)
 ·obtain ⟨p,p1,p2,_⟩:=key k o h1
  obtain ⟨p',p3,p4,_⟩:=key k' o' h2
  exact hr.sep k k' p p' b p1 p3 (p2.trans h3) (p4.trans h4)
 ·obtain ⟨p,p1,p2,_⟩:=key k o h1
  exact hr.mine k p b p1 (p2.trans h2)
 ·by_cases hki:k=id
  ·subst hki; rw [vm] at h1; cases h1
  ·rw [va hki] at h1; exact hr.fresh k h1
 ·by_cases hki:k=id
  ·subst hki; rw [vm] at h1; cases h1
  ·rw [va hki] at h1; exact hr.top k e' s' es' h1
end
def itO {κ τ:Type} (T:MT κ τ) (b:Nat) (es:Array MapEntry) (cl:Nat) (q:List (κ×τ)) (cur:Option (κ×τ)):Obj→Prop:=fun o=>∃ since seen c0,o = .mapIter (some b) since seen c0∧(∀ x∈es.toList,x.born < since)∧since≤c0∧since≤cl ∧
 (leftOf es seen).toList.map (fun e=>(e.key,e.val))=q.map (fun p=>(T.ck p.1,T.ce p.2))∧∀ p,cur=some p→∃ (e:MapEntry) (seen':Array Nat),e∈es.toList∧seen=seen'.push e.born∧c0=cl∧e.key=T.ck p.1∧e.val=T.ce p.2
theorem y27 {κ τ:Type} {T:MT κ τ} {b:Nat} {es:Array MapEntry} {cl:Nat} {q:List (κ×τ)} {cur:Option (κ×τ)} (o:Obj) (h:itO T b es cl q cur o):itO T b es cl q none o:=by
 obtain ⟨since,seen,c0,h1,h2,h3,h4,h5,_⟩:=h
 exact ⟨since,seen,c0,h1,h2,h3,h4,h5,fun p hp=>by cases hp⟩
section
variable {κ τ:Type} {P:Program} {f:Nat→Slot} {dst:Option Tmp} {ty:TypeId} {pos:String} {af:Array Edge} {gd:Option (Nat×Bool)}
variable {t kt et:TypeId} {T:MT κ τ} {l:List (κ×τ)} {b:Nat} {es:Array MapEntry} {cl:Nat} {x:Operand}
theorem y47 (id:Nat) (hT:TyG P t kt et T) (hE:EnG T es cl l) (hx:evS f x = .dat (vmpX b es cl)) :
  Stp P ⟨dst,.range t x,ty,pos,af,gd⟩ f ⟨false,[(id,none)],[(id,some (some (.opq none (itO T b es cl l none))))],.dr id (vIt b es cl)⟩:=by
 refine Ya fun X f' own g a w hr ho hh => ?_
 have h1:=hh x (by simp [Op.operands])
 rw [hx] at h1
 obtain ⟨h2,h3,h4⟩:=h1
 let g':Gh:=⟨fun i=>if i=id then some w.heap.size else g.bl i,g.sv⟩
 have hbl:g'.bl id=some w.heap.size:=if_pos rfl
 refine ⟨g',w.alloc (.mapIter (some b) cl #[] cl),.value (.pointer (some ⟨w.heap.size,0,none⟩)),.pointer (some ⟨w.heap.size,0,none⟩),⟨fun i b hb => ?_,fun _ _ _ h=>h⟩,fun i hi=>⟨if_neg hi,fun _=>rfl⟩,?_,.inl rfl,.inl ((Kp.refl [] w).alloc _),fun b hb => ?_,fun e size es h=>(by cases h),fun M' he=>⟨⟨w.heap.size,_,hbl,fun q hq=>(by cases hq),heap_alloc_new w _,cl,#[],cl,rfl,hE.1.1,Nat.le_refl _,Nat.le_refl _,?_,fun p hp=>(by cases hp)⟩,w.heap.size,hbl,rfl,fun hm=>h3 (he.sub b (vg h4) hm),(he.block b (vg h4) h3 ⟨_,h4,rfl⟩).trans h4⟩⟩
 ·show (if i=id then _ else _)=_
  rw [if_neg]
  ·exact hb
  ·rintro rfl; rw [(hr.fresh i ho).1] at hb; cases hb
 ·simp only [execOp,h2,Sem.run_bind,run_range_map w t kt et b es cl hT.ut h4,Result.andThen_ok,Sem.run_pure]
 ·simp only [obk,hbl] at hb
  cases hb
  exact .inl (Nat.le_refl _)
 ·have:leftOf es #[]=es:=by unfold leftOf; simp
  rw [this]; exact hE.2.1
theorem y01 {id:Nat} {an:Option Nat} {q:List (κ×τ)} {p:κ×τ} (hT:TyG P t kt et T) (hE:EnG T es cl l) (hx:evS f x = .dr id (vIt b es cl)) :
  Stp P ⟨dst,.entry x,ty,pos,af,gd⟩ f ⟨false,[(id,some (some (.opq an (itO T b es cl q (some p)))))],[],.dat (vtup [T.kV p.1,T.eV p.2])⟩:=
 xa fun X own g a w h hob=>by
  have h1:=h x (by simp [Op.operands])
  rw [hx] at h1
  obtain ⟨r,r1,r2,r3,r4⟩:=h1
  obtain ⟨r',o,q1,_,q2,since,seen,c0,rfl,_,_,_,_,hc⟩:=hob
  rw [r1] at q1
  cases q1
  obtain ⟨e,seen',e1,rfl,rfl,e4,e5⟩:=hc p rfl
  have:=run_entry_at (P:=P) w r b since seen' es c0 e q2 r4 e1 hE.1.2.1
  refine ⟨.tuple #[T.ck p.1,T.ce p.2],by simp only [execOp,r2,Sem.run_bind,this,e4,e5,Result.andThen_ok,Sem.run_pure],[T.ck p.1,T.ce p.2],rfl,rfl,fun j u hj => ?_⟩
  rcases j with _ | _ | j
  ·cases hj; exact ⟨_,rfl,hT.kin2 _ _ _⟩
  ·cases hj; exact ⟨_,rfl,hT.eof _ _ _⟩
  ·simp at hj
def AltS (P:Program) (o:Oper) (f:Nat→Slot) (own:Own) {ι:Type} (alt:ι→Slot×List (Nat×Option (Option AObj))):Prop:=
 ∀ (X:Ctx) (g:Gh) (a:Act) (w:World) (K:Act→World→Prop) (Q:Exit→Act→World→Prop),Rel X f own g a w→(∀ d,o.dst=some d→d < X.N)→(∀ i g' v w',Rel X (updS f o.dst (alt i).1) (upl own (alt i).2) g' (a.put o.dst v) w'→K (a.put o.dst v) w')→o.wp P a w K Q
def OutN (q:List (κ×τ)):Type:={ o:Option (Nat×(κ×τ)) // match o with | none=>q=[] | some (j,p)=>q[j]?=some p }
def altN (T:MT κ τ) (b:Nat) (es:Array MapEntry) (cl:Nat) (id:Nat) (an:Option Nat) (q:List (κ×τ)):Option (Nat×(κ×τ))→Slot×List (Nat×Option (Option AObj))
 | none=>(.dat (vtup [zr false]),[])
 | some (j,p)=>(.dat (vtup [zr true,T.kV p.1,T.eV p.2]),[(id,some (some (.opq an (itO T b es cl (q.eraseIdx j) (some p)))))])
theorem y67 {α β:Type} (g:α→β):∀ (l:List α) (j:Nat),(l.eraseIdx j).map g=(l.map g).eraseIdx j
 | [],_=>by simp
 | x::l,0=>by simp
 | x::l,j+1=>by simp [y67 g l j]
theorem w1d {es:Array MapEntry} {seen:Array Nat} {e:MapEntry} {j:Nat} (hn:(es.toList.map (·.born)).Nodup) (hj:(leftOf es seen).toList[j]?=some e):(leftOf es (seen.push e.born)).toList=(leftOf es seen).toList.eraseIdx j:=by
 have key:∀ (l:List MapEntry),(l.map (·.born)).Nodup→∀ j,l[j]?=some e→l.filter (fun x => !(x.born == e.born))=l.eraseIdx j:=by
  intro l
  induction l with
  | nil=>intro _ j h; simp at h
  | cons y l ih =>
   intro hn j h
   obtain ⟨n1,n2⟩:=List.nodup_cons.1 hn
   cases j with
   | zero =>
    simp only [List.getElem?_cons_zero,Option.some.injEq] at h
    subst h
    rw [List.eraseIdx_cons_zero,List.filter_cons_of_neg (by simp)]
    refine List.filter_eq_self.2 fun z hz => ?_
    have:z.born≠y.born:=fun e=>n1 (List.mem_map.2 ⟨z,hz,e⟩)
    simpa using this
   | succ j =>
    rw [List.getElem?_cons_succ] at h
    have:y.born≠e.born:=fun e2=>n1 (List.mem_map.2 ⟨e,List.mem_of_getElem? h,e2.symm⟩)
    rw [List.eraseIdx_cons_succ,List.filter_cons_of_pos (by simpa using this),ih n2 j h]
 have e1:(leftOf es (seen.push e.born)).toList=(leftOf es seen).toList.filter (fun x => !(x.born == e.born)):=by
  unfold leftOf
  rw [Array.toList_filter,Array.toList_filter,List.filter_filter]
  refine List.filter_congr fun x _ => ?_
  rw [contains_push]
  cases seen.contains x.born <;> cases (x.born == e.born) <;> rfl
 rw [e1]
 refine key _ ?_ j hj
 unfold leftOf
 rw [Array.toList_filter]
 exact List.Nodup.sublist (List.Sublist.map _ (List.filter_sublist)) hn
theorem z6b {id:Nat} {an:Option Nat} {q:List (κ×τ)} {cur:Option (κ×τ)} {own:Own} (hT:TyG P t kt et T) (hE:EnG T es cl l) (hx:evS f x = .dr id (vIt b es cl)) (ho:own id=some (some (.opq an (itO T b es cl q cur)))) :
  AltS P ⟨dst,.next x false,ty,pos,af,none⟩ f own (fun i:OutN q=>altN T b es cl id an q i.1):=by
 intro X g a w K Q hr hd hK
 have h1:=hr.ev x
 rw [hx] at h1
 obtain ⟨r,r1,r2,r3,r4⟩:=h1
 obtain ⟨r',o,q1,q0,q2,since,seen,c0,rfl,i1,i2,i3,i4,_⟩:=hr.ob id _ ho
 rw [r1] at q1
 cases q1
 unfold Oper.wp
 rcases run_next_at (P:=P) w ty r b since c0 seen es cl q2 r4 i1 i2 with ⟨h0,hrun⟩ | ⟨e,he,w1,hal,hrun⟩
 ·have hq:q=[]:=by
   have h2:=congrArg List.length i4
   simp only [List.length_map,Array.length_toList] at h2
   exact List.eq_nil_of_length_eq_zero (by omega)
  have h3:=hK ⟨none,hq⟩ g (.tuple #[.bool false]) w (hr.put dst (.dat (vtup [zr false])) _ hd ⟨[.bool false],rfl,rfl,fun j u hj=>by
   rcases j with _ | j
   ·cases hj; exact ⟨_,rfl,rfl⟩
   ·simp at hj⟩)
  simp only [execOp,r2,Sem.run_bind,hrun,Result.andThen_ok,Sem.run_pure]
  exact h3
 ·obtain ⟨j,hj⟩:=List.getElem?_of_mem he
  have h2:=congrArg (fun z=>z[j]?) i4
  simp only [List.getElem?_map,hj,Option.map_some] at h2
  cases hp:q[j]? with
  | none=>rw [hp] at h2; cases h2
  | some p =>
   rw [hp] at h2
   simp only [Option.map_some,Option.some.injEq,Prod.mk.injEq] at h2
   have hem:e∈es.toList:=by
    have:=he
    unfold leftOf at this
    simp at this
    simpa using this.1
   have hw1:w1.heap=w.heap:=by rcases hal with rfl | rfl <;> rfl
   have hkp1:Kp [] w w1:=by
    rcases hal with rfl | rfl
    ·exact Kp.refl [] _
    ·exact (Kp.refl [] _).drew
   have q2':w1.heap[r]?=some (.mapIter (some b) since seen c0):=by rw [hw1]; exact q2
   have hrb:r≠b:=by rintro rfl; rw [q2] at r4; cases r4
   have hset:=heap_set (o' := .mapIter (some b) since (seen.push e.born) cl) q2'
   have hkp:Kp [r] w (setBlock w1 r (.mapIter (some b) since (seen.push e.born) cl)):=by
    refine ⟨hkp1.os,hkp1.tape,hkp1.output,by simp [setBlock,hw1],fun i hi hne => ?_⟩
    exact (hset.2 i (fun e=>hne (by simp [e]))).trans (hkp1.block i hi (by simp))
   have hr2:=Zk (id:=id) (ob' := .opq an (itO T b es cl (q.eraseIdx j) (some p))) hr (Gh.le_refl g) (fun i _=>⟨rfl,fun _=>rfl⟩) (.inr ⟨_,r,ho,r1,hkp⟩) (fun b' hb' => .inr ⟨_,ho,hb'⟩) (fun e size es h=>by cases h) (fun M' he' _=>⟨r,_,r1,q0,hset.1,since,seen.push e.born,cl,rfl,i1,i3,i3,by rw [w1d hE.1.2.1 hj,y67,i4,y67],fun p' hp'=>by cases hp'; exact ⟨e,seen,hem,rfl,rfl,h2.1,h2.2⟩⟩)
   have h3:=hK ⟨some (j,p),hp⟩ g (.tuple #[.bool true,e.key,e.val]) _ (hr2.1.put dst (.dat (vtup [zr true,T.kV p.1,T.eV p.2])) _ hd ⟨[.bool true,e.key,e.val],rfl,rfl,fun j u hj=>by
    rcases j with _ | _ | _ | j
    ·cases hj; exact ⟨_,rfl,rfl⟩
    ·cases hj; exact ⟨_,rfl,by rw [h2.1]; exact hT.kin2 _ _ _⟩
    ·cases hj; exact ⟨_,rfl,by rw [h2.2]; exact hT.eof _ _ _⟩
    ·simp at hj⟩)
   simp only [execOp,r2,Sem.run_bind,hrun,Result.andThen_ok,Sem.run_pure]
   exact h3
end
section
variable {P:Program} {X:Ctx} {Q:Exit→(Nat→Slot)→Own→Prop} {f:Nat→Slot} {own:Own}
theorem z6a {ι:Type} {id N:Nat} {o:Oper} {os:List Oper} {alt:ι→Slot×List (Nat×Option (Option AObj))} (hX:X.N=N) (hN:kk N (o::os).toArray=true) (hg:o.guard=none) (hA:AltS P o f own alt)
  (h:∀ i,seqA P (o::os).toArray os (updS f o.dst (alt i).1) (upl own (alt i).2) [] fun f' own' _=>Q .normal f' own'):AWP P X (.region id (o::os).toArray false) Q f own:=by
 subst hX
 intro g a w hr
 refine wpIn_region ?_
 have hoi:((o::os).toArray)[0]?=some o:=by simp
 obtain ⟨hdN,hdf⟩:=Qu hN hoi
 have e:List.range (o::os).toArray.size=0::List.range' 1 os.length:=by
  simp [List.range_eq_range',List.range'_succ]
 rw [e,wpOpsIn_cons]
 unfold wpOpIn
 rw [hoi]
 have hw:Region.wanted o (yielded (o::os).toArray a.tmps)=true:=by unfold Region.wanted; rw [hg]
 simp only [hw,if_true]
 exact Qh hdf (hA X g a w _ _ hr hdN fun i g' v w' hr'=>y1m (P:=P) (X:=X) (Q:=Q) hN os 1 _ _ [] g' _ w' (by simp) hr' (h i))
end
section
variable {α σ ρ:Type}
theorem y8p:∀ (q:List α) (j:Nat) (h:j < q.length),(q[j]::q.eraseIdx j).Perm q
 | x::q,0,h=>by simp
 | x::q,j+1,h=>by
  have h':j < q.length:=by simpa using h
  rw [List.getElem_cons_succ,List.eraseIdx_cons_succ]
  exact (List.Perm.swap x q[j] _).trans ((y8p q j h').cons x)
end
section
variable {α σ ρ:Type} {P:Program} {X:Ctx} {Q:Exit→(Nat→Slot)→Own→Prop} {c:Code} {f:Nat→Slot} {own:Own}
theorem tf_f (h:false=true):False:=Bool.noConfusion h
theorem tf_t (h:true=false):False:=Bool.noConfusion h
theorem z9t {q:List α} {j:Nat} {x:α} (h:q[j]?=some x):(q.eraseIdx j).length < q.length:=by
 have:=jg h
 rw [List.length_eraseIdx_of_lt this]; omega
end
end Go.Proofs.YtnnfdgngnoamoaaGreatDoor
