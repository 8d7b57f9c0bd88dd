import Derived.Test.YtbpedjpoikmbjaaGreatDoorDr
import Derived.Maps.RangeRun
import Derived.Test.YtbpedjpoikmbjaaGreatDoorOw
import Derived.LaidEqlPtr
import Derived.Test.YtbpedjpoikmbjaaGreatDoorMc
namespace Go.Proofs.YtbpedjpoikmbjaaGreatDoor
open Go.RowKit Go.ChangeMaps Go.MapKept
set_option linter.unusedVariables false
def vmpX (b:Nat) (es:Array MapEntry) (clock:Nat):V:=
 ⟨λw M v=>v = .map (some b)/\¬ M b/\w.heap[b]?=some (.map es clock),true,λ{w w' M M' v} he ⟨h1,h2,h3⟩=>⟨h1,λhm=>h2 (he.sub b (vh h3) hm),(he.block b (vh h3) h2 ⟨_,h3,rfl⟩).trans h3⟩,λ_ _ _ v ⟨h1,_⟩=>by rw [h1];rfl⟩
def vIt (b:Nat) (es:Array MapEntry) (clock:Nat) (r:Nat):V:=
 ⟨λw M v=>v = .pointer (some ⟨r,0,none⟩)/\¬ M b/\w.heap[b]?=some (.map es clock),true,λ{w w' M M' v} he ⟨h1,h2,h3⟩=>⟨h1,λhm=>h2 (he.sub b (vh h3) hm),(he.block b (vh h3) h2 ⟨_,h3,rfl⟩).trans h3⟩,λ_ _ _ v ⟨h1,_⟩=>by rw [h1];rfl⟩
section
variable {κ τ:Type} {P:Program} {X:Ctx} {Q:Exit->(Nat->Slot)->Own->Prop} {c:Code} {f:Nat->Slot} {own:Own}
theorem w9l {ι:Type} (t:Nat) {u:V} {u':ι->V} (hu:∀ w M v,u.p w M v->∃ i,(u' i).p w M v) (hf:f t = .dat u) (h:∀ i,AWP P X c Q (updS f (some t) (.dat (u' i))) own):AWP P X c Q f own:=by
 intro g a w hr;have h1:=hr.fr t;rw [hf] at h1;obtain⟨i,hi⟩:=hu _ _ _ h1;refine h i g a w ⟨hr.kp,hr.m0,hr.n,hr.df,λt'=>?_,hr.ob,hr.sep,hr.mine,hr.fresh,hr.top⟩
 by_cases ht:t'=t
 ·subst ht;have:Nat.beq t' t'=true:=by simp
  simp only [updS,this,cond_true];exact hi
 ·simp only [updS,qz ht,cond_false];exact hr.fr t'
abbrev MapK (T:MT κ τ) (l:List (κ×τ)):Type:={ q:Nat×Array MapEntry×Nat // EnG T q.2.1 q.2.2 l }
theorem w25 {T:MT κ τ} {l:List (κ×τ)} {w:World} {M:Blks} {v:Value} (h:(vmpG T l).p w M v):∃ i:MapK T l,(vmpX i.1.1 i.1.2.1 i.1.2.2).p w M v:=by
 obtain⟨b,es,clock,h1,h2,h3,h4⟩:=h;exact⟨⟨(b,es,clock),h4⟩,h1,h2,h3⟩
theorem x70 (t:Nat) {T:MT κ τ} {l:List (κ×τ)} (hf:f t = .dat (vmpG T l)) (h:∀ b es cl,EnG T es cl l->AWP P X c Q (updS f (some t) (.dat (vmpX b es cl))) own):AWP P X c Q f own:=
 w9l (ι:=MapK T l) t (u':=λi=>vmpX i.1.1 i.1.2.1 i.1.2.2) (λw M v=>w25) hf λi=>h _ _ _ i.2
theorem x7v (id:Nat) {an:Option Nat} {R R':Obj->Prop} (hR:∀ o,R o->R' o) (ho:own id=some (some (.opq an R))) (h:AWP P X c Q f (upl own [(id,some (some (.opq an R')))])):AWP P X c Q f own:=by
 intro g a w hr
 have key:∀ k o,upl own [(id,some (some (.opq an R')))] k=some (some o)->∃ o',own k=some (some o')/\obk g k o'=obk g k o/\(RepO g w (Mof X g own) k o'->RepO g w (Mof X g own) k o):=λk o hk=>by
  by_cases hki:k=id
  ·subst hki;rw [vp] at hk;cases hk;exact⟨_,ho,rfl,λ⟨b,o,h1,h2,h3,h4⟩=>⟨b,o,h1,h2,h3,hR o h4⟩⟩
  ·rw [ve hki] at hk;exact⟨o,hk,rfl,λh=>h⟩
 have hM:∀ b,Mof X g (upl own [(id,some (some (.opq an R')))]) b->Mof X g own b:=λb hb=>by
  rcases hb with hb|⟨k,o,h1,h2⟩
  ·exact .inl hb
  ·obtain⟨o',h3,h4,_⟩:=key k o h1;exact .inr ⟨k,o',h3,h4.trans h2⟩
 have he:Ext (Mof X g own) (Mof X g (upl own [(id,some (some (.opq an R')))])) w w:=⟨Nat.le_refl _,λ_ _ _ _=>rfl,λb _ hb=>hM b hb⟩
 refine h g a w ⟨hr.kp,hr.m0,hr.n,hr.df,λt'=>(hr.fr t').keep he (Gh.le_refl g),λk o h1=>?_,λk k' o o' b h1 h2 h3 h4=>?_,λk o b h1 h2=>?_,λk h1=>?_,λk e' s' es' h1=>?_⟩
 ·obtain⟨o',h2,_,h3⟩:=key k o h1;exact (h3 (hr.ob k o' h2)).keep he (Gh.le_refl g) (λ_ _=>rfl)
 ·obtain⟨p,p1,p2,_⟩:=key k o h1;obtain⟨p',p3,p4,_⟩:=key k' o' h2;exact hr.sep k k' p p' b p1 p3 (p2.trans h3) (p4.trans h4)
 ·obtain⟨p,p1,p2,_⟩:=key k o h1;exact hr.mine k p b p1 (p2.trans h2)
 ·by_cases hki:k=id
  ·subst hki;rw [vp] at h1;cases h1
  ·rw [ve hki] at h1;exact hr.fresh k h1
 ·by_cases hki:k=id
  ·subst hki;rw [vp] at h1;cases h1
  ·rw [ve hki] at h1;exact hr.top k e' s' es' h1
end
def itO {κ τ:Type} (T:MT κ τ) (b:Nat) (es:Array MapEntry) (cl:Nat) (q:List (κ×τ)) (cur:Option (κ×τ)):Obj->Prop:=λo=>∃ since seen c0,o = .mapIter (some b) since seen c0/\(∀ x∈es.toList,x.born < since)/\since<=c0/\since<=cl /\
 (leftOf es seen).toList.map (λe=>(e.key,e.val))=q.map (λp=>(T.ck p.1,T.ce p.2))/\∀ p,cur=some p->∃ (e:MapEntry) (seen':Array Nat),e∈es.toList/\seen=seen'.push e.born/\c0=cl/\e.key=T.ck p.1/\e.val=T.ce p.2
theorem y00 {κ τ:Type} {T:MT κ τ} {b:Nat} {es:Array MapEntry} {cl:Nat} {q:List (κ×τ)} {cur:Option (κ×τ)} (o:Obj) (h:itO T b es cl q cur o):itO T b es cl q none o:=by
 obtain⟨since,seen,c0,h1,h2,h3,h4,h5,_⟩:=h;exact⟨since,seen,c0,h1,h2,h3,h4,h5,λp hp=>by cases hp⟩
section
variable {κ τ:Type} {P:Program} {f:Nat->Slot} {dst:Option Tmp} {ty:TypeId} {pos:String} {af:Array Edge} {gd:Option (Nat×Bool)}
variable {t kt et:TypeId} {T:MT κ τ} {l:List (κ×τ)} {b:Nat} {es:Array MapEntry} {cl:Nat} {x:Operand}
theorem y2f (id:Nat) (hT:TyG P t kt et T) (hE:EnG T es cl l) (hx:evS f x = .dat (vmpX b es cl)) :
  Stp P ⟨dst,.range t x,ty,pos,af,gd⟩ f ⟨false,[(id,none)],[(id,some (some (.opq none (itO T b es cl l none))))],.dr id (vIt b es cl)⟩:=by
 refine Yr λX f' own g a w hr ho hh=>?_;have h1:=hh x (by simp [Op.operands]);rw [hx] at h1;obtain⟨h2,h3,h4⟩:=h1
 let g':Gh:=⟨λi=>if i=id then some w.heap.size else g.bl i,g.sv⟩
 have hbl:g'.bl id=some w.heap.size:=if_pos rfl;refine⟨g',w.alloc (.mapIter (some b) cl #[] cl),.value (.pointer (some ⟨w.heap.size,0,none⟩)),.pointer (some ⟨w.heap.size,0,none⟩),⟨λi b hb=>?_,λ_ _ _ h=>h⟩,λi hi=>⟨if_neg hi,λ_=>rfl⟩,?_,.inl rfl,.inl ((Kp.refl [] w).alloc _),λb hb=>?_,λe size es h=>(by cases h),λM' he=>⟨⟨w.heap.size,_,hbl,λq hq=>(by cases hq),heap_alloc_new w _,cl,#[],cl,rfl,hE.1.1,Nat.le_refl _,Nat.le_refl _,?_,λp hp=>(by cases hp)⟩,w.heap.size,hbl,rfl,λhm=>h3 (he.sub b (vh h4) hm),(he.block b (vh h4) h3 ⟨_,h4,rfl⟩).trans h4⟩⟩
 ·show (if i=id then _ else _)=_;rw [if_neg]
  ·exact hb
  ·rintro rfl;rw [(hr.fresh i ho).1] at hb;cases hb
 ·simp only [execOp,h2,Sem.run_bind,run_range_map w t kt et b es cl hT.ut h4,Result.andThen_ok,Sem.run_pure]
 ·simp only [obk,hbl] at hb;cases hb;exact .inl (Nat.le_refl _)
 ·have:leftOf es #[]=es:=by unfold leftOf;simp
  rw [this];exact hE.2.1
theorem z8o {id:Nat} {an:Option Nat} {q:List (κ×τ)} {p:κ×τ} (hT:TyG P t kt et T) (hE:EnG T es cl l) (hx:evS f x = .dr id (vIt b es cl)) :
  Stp P ⟨dst,.entry x,ty,pos,af,gd⟩ f ⟨false,[(id,some (some (.opq an (itO T b es cl q (some p)))))],[],.dat (vtup [T.kV p.1,T.eV p.2])⟩:=
 xa λX own g a w h hob=>by
  have h1:=h x (by simp [Op.operands]);rw [hx] at h1;obtain⟨r,r1,r2,r3,r4⟩:=h1;obtain⟨r',o,q1,_,q2,since,seen,c0,rfl,_,_,_,_,hc⟩:=hob;rw [r1] at q1;cases q1;obtain⟨e,seen',e1,rfl,rfl,e4,e5⟩:=hc p rfl;have:=run_entry_at (P:=P) w r b since seen' es c0 e q2 r4 e1 hE.1.2.1;refine⟨.tuple #[T.ck p.1,T.ce p.2],by simp only [execOp,r2,Sem.run_bind,this,e4,e5,Result.andThen_ok,Sem.run_pure],[T.ck p.1,T.ce p.2],rfl,rfl,λj u hj=>?_⟩;rcases j with _|_|j
  ·cases hj;exact⟨_,rfl,hT.kin2 _ _ _⟩
  ·cases hj;exact⟨_,rfl,hT.eof _ _ _⟩
  ·simp at hj
def AltS (P:Program) (o:Oper) (f:Nat->Slot) (own:Own) {ι:Type} (alt:ι->Slot×List (Nat×Option (Option AObj))):Prop:=
 ∀ (X:Ctx) (g:Gh) (a:Act) (w:World) (K:Act->World->Prop) (Q:Exit->Act->World->Prop),Rel X f own g a w->(∀ d,o.dst=some d->d < X.N)->(∀ i g' v w',Rel X (updS f o.dst (alt i).1) (upl own (alt i).2) g' (a.put o.dst v) w'->K (a.put o.dst v) w')->o.wp P a w K Q
def OutN (q:List (κ×τ)):Type:={ o:Option (Nat×(κ×τ)) // match o with|none=>q=[]|some (j,p)=>q[j]?=some p }
def altN (T:MT κ τ) (b:Nat) (es:Array MapEntry) (cl:Nat) (id:Nat) (an:Option Nat) (q:List (κ×τ)):Option (Nat×(κ×τ))->Slot×List (Nat×Option (Option AObj))
 | none=>(.dat (vtup [zt false]),[])
 | some (j,p)=>(.dat (vtup [zt true,T.kV p.1,T.eV p.2]),[(id,some (some (.opq an (itO T b es cl (q.eraseIdx j) (some p)))))])
theorem y8v {α β:Type} (g:α->β):∀ (l:List α) (j:Nat),(l.eraseIdx j).map g=(l.map g).eraseIdx j
 | [],_=>by simp
 | x::l,0=>by simp
 | x::l,j+1=>by simp [y8v g l j]
theorem w3o {es:Array MapEntry} {seen:Array Nat} {e:MapEntry} {j:Nat} (hn:(es.toList.map (·.born)).Nodup) (hj:(leftOf es seen).toList[j]?=some e):(leftOf es (seen.push e.born)).toList=(leftOf es seen).toList.eraseIdx j:=by
 have key:∀ (l:List MapEntry),(l.map (·.born)).Nodup->∀ j,l[j]?=some e->l.filter (λx=>!(x.born == e.born))=l.eraseIdx j:=by
  intro l
  induction l with
  | nil=>intro _ j h;simp at h
  | cons y l ih =>
   intro hn j h;obtain⟨n1,n2⟩:=List.nodup_cons.1 hn
   cases j with
   | zero =>
    simp only [List.getElem?_cons_zero,Option.some.injEq] at h;subst h;rw [List.eraseIdx_cons_zero,List.filter_cons_of_neg (by simp)];refine List.filter_eq_self.2 λz hz=>?_;have:z.born≠y.born:=λe=>n1 (List.mem_map.2 ⟨z,hz,e⟩);simpa using this
   | succ j =>
    rw [List.getElem?_cons_succ] at h;have:y.born≠e.born:=λe2=>n1 (List.mem_map.2 ⟨e,List.mem_of_getElem? h,e2.symm⟩);rw [List.eraseIdx_cons_succ,List.filter_cons_of_pos (by simpa using this),ih n2 j h]
 have e1:(leftOf es (seen.push e.born)).toList=(leftOf es seen).toList.filter (λx=>!(x.born == e.born)):=by
  unfold leftOf;rw [Array.toList_filter,Array.toList_filter,List.filter_filter];refine List.filter_congr λx _=>?_;rw [contains_push];cases seen.contains x.born <;> cases (x.born == e.born) <;> rfl
 rw [e1];refine key _ ?_ j hj;unfold leftOf;rw [Array.toList_filter];exact List.Nodup.sublist (List.Sublist.map _ (List.filter_sublist)) hn
theorem z1t {id:Nat} {an:Option Nat} {q:List (κ×τ)} {cur:Option (κ×τ)} {own:Own} (hT:TyG P t kt et T) (hE:EnG T es cl l) (hx:evS f x = .dr id (vIt b es cl)) (ho:own id=some (some (.opq an (itO T b es cl q cur)))) :
  AltS P ⟨dst,.next x false,ty,pos,af,none⟩ f own (λi:OutN q=>altN T b es cl id an q i.1):=by
 intro X g a w K Q hr hd hK;have h1:=hr.ev x;rw [hx] at h1;obtain⟨r,r1,r2,r3,r4⟩:=h1;obtain⟨r',o,q1,q0,q2,since,seen,c0,rfl,i1,i2,i3,i4,_⟩:=hr.ob id _ ho;rw [r1] at q1;cases q1;unfold Oper.wp;rcases run_next_at (P:=P) w ty r b since c0 seen es cl q2 r4 i1 i2 with ⟨h0,hrun⟩|⟨e,he,w1,hal,hrun⟩
 ·have hq:q=[]:=by
   have h2:=congrArg List.length i4;simp only [List.length_map,Array.length_toList] at h2;exact List.eq_nil_of_length_eq_zero (by omega)
  have h3:=hK ⟨none,hq⟩ g (.tuple #[.bool false]) w (hr.put dst (.dat (vtup [zt false])) _ hd ⟨[.bool false],rfl,rfl,λj u hj=>by
   rcases j with _|j
   ·cases hj;exact⟨_,rfl,rfl⟩
   ·simp at hj⟩)
  simp only [execOp,r2,Sem.run_bind,hrun,Result.andThen_ok,Sem.run_pure];exact h3
 ·obtain⟨j,hj⟩:=List.getElem?_of_mem he;have h2:=congrArg (λz=>z[j]?) i4;simp only [List.getElem?_map,hj,Option.map_some] at h2
  cases hp:q[j]? with
  | none=>rw [hp] at h2;cases h2
  | some p =>
   rw [hp] at h2;simp only [Option.map_some,Option.some.injEq,Prod.mk.injEq] at h2
   have hem:e∈es.toList:=by
    have:=he;unfold leftOf at this;simp at this;simpa using this.1
   have hw1:w1.heap=w.heap:=by rcases hal with rfl|rfl <;> rfl
   have hkp1:Kp [] w w1:=by
    rcases hal with rfl|rfl
    ·exact Kp.refl [] _
    ·exact (Kp.refl [] _).drew
   have q2':w1.heap[r]?=some (.mapIter (some b) since seen c0):=by rw [hw1];exact q2
   have hrb:r≠b:=by rintro rfl;rw [q2] at r4;cases r4
   have hset:=heap_set (o' := .mapIter (some b) since (seen.push e.born) cl) q2'
   have hkp:Kp [r] w (setBlock w1 r (.mapIter (some b) since (seen.push e.born) cl)):=by
    refine⟨hkp1.os,hkp1.tape,hkp1.output,by simp [setBlock,hw1],λi hi hne=>?_⟩;exact (hset.2 i (λe=>hne (by simp [e]))).trans (hkp1.block i hi (by simp))
   have hr2:=Yb (id:=id) (ob' := .opq an (itO T b es cl (q.eraseIdx j) (some p))) hr (Gh.le_refl g) (λi _=>⟨rfl,λ_=>rfl⟩) (.inr ⟨_,r,ho,r1,hkp⟩) (λb' hb'=>.inr ⟨_,ho,hb'⟩) (λe size es h=>by cases h) (λM' he' _=>⟨r,_,r1,q0,hset.1,since,seen.push e.born,cl,rfl,i1,i3,i3,by rw [w3o hE.1.2.1 hj,y8v,i4,y8v],λp' hp'=>by cases hp';exact⟨e,seen,hem,rfl,rfl,h2.1,h2.2⟩⟩)
   have h3:=hK ⟨some (j,p),hp⟩ g (.tuple #[.bool true,e.key,e.val]) _ (hr2.1.put dst (.dat (vtup [zt true,T.kV p.1,T.eV p.2])) _ hd ⟨[.bool true,e.key,e.val],rfl,rfl,λj u hj=>by
    rcases j with _|_|_|j
    ·cases hj;exact⟨_,rfl,rfl⟩
    ·cases hj;exact⟨_,rfl,by rw [h2.1];exact hT.kin2 _ _ _⟩
    ·cases hj;exact⟨_,rfl,by rw [h2.2];exact hT.eof _ _ _⟩
    ·simp at hj⟩)
   simp only [execOp,r2,Sem.run_bind,hrun,Result.andThen_ok,Sem.run_pure];exact h3
end
section
variable {P:Program} {X:Ctx} {Q:Exit->(Nat->Slot)->Own->Prop} {f:Nat->Slot} {own:Own}
theorem z1r {ι:Type} {id N:Nat} {o:Oper} {os:List Oper} {alt:ι->Slot×List (Nat×Option (Option AObj))} (hX:X.N=N) (hN:kz N (o::os).toArray=true) (hg:o.guard=none) (hA:AltS P o f own alt)
  (h:∀ i,seqA P (o::os).toArray os (updS f o.dst (alt i).1) (upl own (alt i).2) [] λf' own' _=>Q .normal f' own'):AWP P X (.region id (o::os).toArray false) Q f own:=by
 subst hX;intro g a w hr;refine wpIn_region ?_;have hoi:((o::os).toArray)[0]?=some o:=by simp
 obtain⟨hdN,hdf⟩:=Wj hN hoi
 have e:List.range (o::os).toArray.size=0::List.range' 1 os.length:=by
  simp [List.range_eq_range',List.range'_succ]
 rw [e,wpOpsIn_cons];unfold wpOpIn;rw [hoi];have hw:Region.wanted o (yielded (o::os).toArray a.tmps)=true:=by unfold Region.wanted;rw [hg]
 simp only [hw,if_true];exact Qs hdf (hA X g a w _ _ hr hdN λi g' v w' hr'=>y21 (P:=P) (X:=X) (Q:=Q) hN os 1 _ _ [] g' _ w' (by simp) hr' (h i))
end
section
variable {α σ ρ:Type}
theorem x0l:∀ (q:List α) (j:Nat) (h:j < q.length),(q[j]::q.eraseIdx j).Perm q
 | x::q,0,h=>by simp
 | x::q,j+1,h=>by
  have h':j < q.length:=by simpa using h
  rw [List.getElem_cons_succ,List.eraseIdx_cons_succ];exact (List.Perm.swap x q[j] _).trans ((x0l q j h').cons x)
end
section
variable {α σ ρ:Type} {P:Program} {X:Ctx} {Q:Exit->(Nat->Slot)->Own->Prop} {c:Code} {f:Nat->Slot} {own:Own}
theorem tf_f (h:false=true):False:=Bool.noConfusion h
theorem tf_t (h:true=false):False:=Bool.noConfusion h
theorem z7l {q:List α} {j:Nat} {x:α} (h:q[j]?=some x):(q.eraseIdx j).length < q.length:=by
 have:=ji h;rw [List.length_eraseIdx_of_lt this];omega
end
end Go.Proofs.YtbpedjpoikmbjaaGreatDoor
namespace Go.Proofs.YtbpedjpoikmbjaaGreatDoor
open Go.RowKit
set_option linter.unusedVariables false
abbrev PB (b:Nat):Value:=.pointer (some ⟨b,0,none⟩)
section
variable {P:Program} {X:Ctx} {Q:Exit->(Nat->Slot)->Own->Prop} {f:Nat->Slot} {own:Own} {c:Code}
theorem x1e (t id b:Nat) {bt:TypeId} {cs:List Slot} (s':Slot) (ho:own id=some (some (.box (some b) bt cs))) (hs:∀ (g:Gh) (w:World) (M:Blks) (v:Value),g.bl id=some b->RepS g w M (f t) v->RepS g w M s' v)
  (h:AWP P X c Q (updS f (some t) s') own):AWP P X c Q f own:=by
 intro g a w hr;obtain⟨b',l,q1,q0,_⟩:=hr.ob id _ ho;have hb:b=b':=q0 b rfl;subst hb;refine h g a w ⟨hr.kp,hr.m0,hr.n,hr.df,λk=>?_,hr.ob,hr.sep,hr.mine,hr.fresh,hr.top⟩
 by_cases hk:k=t
 ·subst hk;have e1:Nat.beq k k=true:=by simp
  simp only [updS,e1,cond_true];exact hs g w _ _ q1 (hr.fr k)
 ·have e1:Nat.beq k t=false:=qz hk;simp only [updS,e1,cond_false];exact hr.fr k
theorem x1i (b:Bool) (ht:b=true->AWP P X c Q f own) (hf:b=false->AWP P X c Q f own):AWP P X c Q f own:=by
 cases b with
 | true=>exact ht rfl
 | false=>exact hf rfl
end
theorem y7v {g:Gh} {w:World} {M:Blks} {v:Value} {id b:Nat} (hb:g.bl id=some b) (h:RepS g w M (.dat (vval (PB b))) v):RepS g w M (.ptr id 0) v:=⟨b,hb,h⟩
section
variable {P:Program} {f:Nat->Slot} {dst:Option Tmp} {ty:TypeId} {pos:String} {af:Array Edge} {gd:Option (Nat×Bool)}
theorem w0d {t e t':TypeId} {x:Operand} (ht:P.underlying t=some (.pointer e)) (hx:evS f x = .dat (vval (.pointer none))):Stp P ⟨dst,.binOp .eql t x (.const (.pointer none)) t',ty,pos,af,gd⟩ f ⟨false,[],[],.dat (zt true)⟩:=
 vt λX own g a w h=>by
  have h1:=ja (h x (by simp [Op.operands])) hx;have hp:P.underlying t=some (.pointer (P.pointee t)):=by simp [Program.pointee,ht]
  refine⟨.bool true,?_,rfl⟩;have hc:a.eval (.const (.pointer none)) = .pointer none:=rfl;simp only [execOp,h1,hc,Sem.run_bind];simp [eqGuard,run_eql_pointer_nil w t _ hp]
end
end Go.Proofs.YtbpedjpoikmbjaaGreatDoor
namespace Go.Proofs.YtbpedjpoikmbjaaGreatDoor
open Go.RowKit Go.ChangeMaps Go.MapKept
set_option linter.unusedVariables false
def fxB (j id:Nat):Bool:=Nat.blt id 1000 && !(Nat.beq id j)
def okC5 (j:Nat) (own:Own):Cmp->Bool
 | .dat _=>true
 | .ptr id _=>vf own id && fxB j id
 | .row id _=>vf own id && fxB j id
 | .mp id=>vf own id && fxB j id
def okS5 (j:Nat) (own:Own):Slot->Bool
 | .any=>true
 | .dat _=>true
 | .ptr id _=>vf own id && fxB j id
 | .row id _=>vf own id && fxB j id
 | .rptr id _ _ _ _=>vf own id && fxB j id
 | .mp id=>vf own id && fxB j id
 | .rsub id _ _ _=>vf own id && fxB j id
 | .nptr id=>vf own id && fxB j id
 | .dr id _=>vf own id && fxB j id
 | .comp _ cs=>cs.all (okC5 j own)
def okO5 (j:Nat) (own:Own):AObj->Bool
 | .box _ _ cs=>cs.all (okS5 j own)
 | _=>true
def clS:Slot->Bool
 | .any=>true
 | .dat _=>true
 | _=>false
def clO:AObj->Bool
 | .box _ _ cs=>cs.all clS
 | _=>true
theorem x7k {j:Nat} {own:Own} {o:AObj} (h:clO o=true):okO5 j own o=true:=by
 cases o with
 | box an t cs =>
  refine List.all_eq_true.2 λs hs=>?_;have:=List.all_eq_true.1 h s hs;cases s <;> first|rfl|cases this
 | row _ _ _=>rfl
 | opq _ _=>rfl
 | rowA _ _ _ _=>rfl
theorem y99 {j id:Nat} (h:fxB j id=true):id < 1000/\id≠j:=by
 unfold fxB at h;rw [Bool.and_eq_true] at h;refine⟨by simpa [Nat.blt_eq] using h.1,λe=>?_⟩;have h2:=h.2;rw [e] at h2;simp at h2
theorem x3k {f:Nat->Slot} {p:Slot->Bool}:∀ (l:List (Nat×Slot)),subF f l->l.all (λq=>p q.2)=true->∀ t,frs l t = .any∨(frs l t=f t/\p (frs l t)=true)
 | [],_,_,t=>.inl rfl
 | (k,s)::l,h,ho,t=>by
  simp only [List.all_cons,Bool.and_eq_true] at ho;unfold frs;simp only [upl]
  by_cases hk:t=k
  ·subst hk;have:Nat.beq t t=true:=by simp
   simp only [this,cond_true];exact .inr ⟨h.1,ho.1⟩
  ·simp only [qz hk,cond_false];exact x3k l h.2 ho.2 t
theorem Rel.renX {X:Ctx} {f:Nat->Slot} {own:Own} {g:Gh} {a:Act} {w:World} (h:Rel X f own g a w) (j:Nat) (σ:Nat->Nat) (lf:List (Nat×Slot)) (lo:List (Nat×AObj)) (hf:subF f lf) (ho:∀ p,p∈lo->own (σ p.1)=some (some p.2))
  (nd:(lo.map (·.1)).Nodup) (hinj:∀ i k,i∈lo.map (·.1)->k∈lo.map (·.1)->σ i=σ k->i=k) (hσ:∀ id,fxB j id=true->σ id=id) (hok1:lf.all (λp=>okS5 j (ows lo) p.2)=true) (hok2:∀ p,p∈lo->okO5 j (ows lo) p.2=true) :
  ∃ g',Rel X (frs lf) (ows lo) g' a w/\∀ id o,ows lo id=some (some o)->∀ o',obk g' id o'=obk g (σ id) o':=by
 classical
 have hF:=x3k (p:=okS5 j (ows lo)) lf hf hok1;have hin:∀ id o,ows lo id=some (some o)->id∈lo.map (·.1):=λid o h1=>List.mem_map.2 ⟨(id,o),(ug nd).1 h1,rfl⟩
 have hlive:∀ id o,ows lo id=some (some o)->own (σ id)=some (some o)/\okO5 j (ows lo) o=true:=λid o h1=>by
  have h2:=(ug nd).1 h1;exact⟨ho _ h2,hok2 _ h2⟩
 let g':Gh:=⟨λid=>if ows lo id=none then none else g.bl (σ id),λid n=>if ows lo id=none then none else g.sv (σ id) n⟩
 have gb:∀ id,ows lo id≠none->g'.bl id=g.bl (σ id):=λid hn=>if_neg hn;have gs:∀ id n,ows lo id≠none->g'.sv id n=g.sv (σ id) n:=λid n hn=>if_neg hn;have hne:∀ id o,ows lo id=some (some o)->ows lo id≠none:=λid o h1=>by rw [h1];simp
 have hobk:∀ id o o',ows lo id=some (some o')->obk g' id o=obk g (σ id) o:=λid o o' h1=>by
  cases o with
  | box an t cs=>exact gb id (hne id o' h1)
  | row e size es=>simp only [obk,gs id _ (hne id o' h1)]
  | opq an R=>exact gb id (hne id o' h1)
  | rowA v e size es=>rfl
 have hM:∀ b,Mof X g' (ows lo) b->Mof X g own b:=λb hb=>by
  rcases hb with hb|⟨id,o,h1,h2⟩
  ·exact .inl hb
  ·rw [hobk id o o h1] at h2;exact .inr ⟨σ id,o,(hlive id o h1).1,h2⟩
 have he:Ext (Mof X g own) (Mof X g' (ows lo)) w w:=⟨Nat.le_refl _,λ_ _ _ _=>rfl,λb _ hb=>hM b hb⟩
 have nb:∀ id,(vf (ows lo) id && fxB j id)=true->g'.bl id=g.bl id:=λid hs=>by
  rw [Bool.and_eq_true] at hs;obtain⟨o,ho⟩:=uh hs.1;rw [gb id (hne id o ho),hσ id hs.2]
 have ns:∀ id n,(vf (ows lo) id && fxB j id)=true->g'.sv id n=g.sv id n:=λid n hs=>by
  rw [Bool.and_eq_true] at hs;obtain⟨o,ho⟩:=uh hs.1;rw [gs id n (hne id o ho),hσ id hs.2]
 have hS:∀ s v,okS5 j (ows lo) s=true->RepS g w (Mof X g own) s v->RepS g' w (Mof X g' (ows lo)) s v:=λs v hs hv=>by
  cases s with
  | any=>trivial
  | dat u=>exact u.keep he hv
  | ptr id off=>obtain⟨b,h1,h2⟩:=hv;exact⟨b,by rw [nb id hs];exact h1,h2⟩
  | row id n=>show g'.sv id n=some v;rw [ns id n hs];exact hv
  | rptr id n size k c=>obtain⟨b,cap,h1,h2⟩:=hv;exact⟨b,cap,by rw [ns id n hs];exact h1,h2⟩
  | mp id=>obtain⟨b,h1,h2⟩:=hv;exact⟨b,by rw [nb id hs];exact h1,h2⟩
  | rsub id n size k=>obtain⟨b,cap,h1,h2⟩:=hv;exact⟨b,cap,by rw [ns id n hs];exact h1,h2⟩
  | nptr id =>
   rcases hv with hv|⟨b,h1,h2⟩
   ·exact .inl hv
   ·exact .inr ⟨b,by rw [nb id hs];exact h1,h2⟩
  | dr id u=>obtain⟨b,h1,h2⟩:=hv;exact⟨b,by rw [nb id hs];exact h1,(u b).keep he h2⟩
  | comp tup cs =>
   refine ub.mono hv λc x hc hx=>?_;have hs':okC5 j (ows lo) c=true:=(List.all_eq_true.1 hs) c hc
   cases c with
   | dat u=>exact u.keep he hx
   | ptr id off=>obtain⟨b,h1,h2⟩:=hx;exact⟨b,by rw [nb id hs'];exact h1,h2⟩
   | row id n=>show g'.sv id n=some x;rw [ns id n hs'];exact hx
   | mp id=>obtain⟨b,h1,h2⟩:=hx;exact⟨b,by rw [nb id hs'];exact h1,h2⟩
 refine⟨g',⟨h.kp,h.m0,h.n,h.df,λt=>?_,λid o h1=>?_,λid id' o o' b h1 h2 h3 h4=>?_,λid o b h1 h2=>?_,λid h1=>⟨if_pos h1,λn=>if_pos h1⟩,λid e size es h1 k hk=>(gs id k (hne id _ h1)).trans (h.top (σ id) e size es (hlive id _ h1).1 k hk)⟩,λid o h1 o'=>hobk id o' o h1⟩
 ·rcases hF t with h1|⟨h1,h2⟩
  ·rw [h1];trivial
  ·refine hS _ _ h2 ?_;rw [h1];exact h.fr t
 ·obtain⟨h2,h3⟩:=hlive id o h1;have h4:=h.ob (σ id) o h2
  cases o with
  | box an t cs =>
   obtain⟨b,l,q1,q0,q2,q3,q4⟩:=h4;refine⟨b,l,by rw [gb id (hne id _ h1)];exact q1,q0,q2,q3,λj s hs=>?_⟩;obtain⟨x,r1,r2,r3⟩:=q4 j s hs;exact⟨x,r1,hS _ _ ((List.all_eq_true.1 h3) s (List.mem_of_getElem? hs)) r2,r3⟩
  | row e size es =>
   obtain⟨v,xs,q1,q2,q3,q4,q5⟩:=h4;refine⟨v,xs,by rw [gs id _ (hne id _ h1)];exact q1,q2,q3,q4,λk c el u hk hc=>?_⟩;obtain⟨x,r1,r2,r3⟩:=q5 k c el u hk hc;exact⟨x,r1,u.keep he r2,r3⟩
  | opq an R =>
   obtain⟨b,o,q1,q0,q2,q3⟩:=h4;exact⟨b,o,by rw [gb id (hne id _ h1)];exact q1,q0,q2,q3⟩
  | rowA v e size es =>
   obtain⟨xs,q1,q2,q3,q4,q5⟩:=h4;refine⟨xs,by rw [gs id _ (hne id _ h1)];exact q1,q2,q3,q4,λk c el u hk hc=>?_⟩;obtain⟨x,r1,r2,r3⟩:=q5 k c el u hk hc;exact⟨x,r1,u.keep he r2,r3⟩
 ·rw [hobk id o o h1] at h3;rw [hobk id' o' o' h2] at h4;exact hinj _ _ (hin id o h1) (hin id' o' h2) (h.sep _ _ o o' b (hlive id o h1).1 (hlive id' o' h2).1 h3 h4)
 ·rw [hobk id o o h1] at h2;exact h.mine _ o b (hlive id o h1).1 h2
structure Big (R:List (Nat×AObj)):Prop where
 nd:(R.map (·.1)).Nodup
 big:∀ p,p∈R->1000<=p.1
 cl:∀ p,p∈R->clO p.2=true
def kk (l:List (Nat×AObj)):Bool:=l.all (λp=>Nat.blt p.1 1000) && ndB (l.map (·.1))
theorem z8t {l:List (Nat×AObj)} (h:kk l=true) {p:Nat×AObj} (hp:p∈l):p.1 < 1000:=by
 unfold kk at h;rw [Bool.and_eq_true] at h;simpa [Nat.blt_eq] using List.all_eq_true.1 h.1 p hp
theorem z8s {l:List (Nat×AObj)} (h:kk l=true):(l.map (·.1)).Nodup:=by
 unfold kk at h;rw [Bool.and_eq_true] at h;exact xe h.2
theorem y3m {l R:List (Nat×AObj)} (h:kk l=true) (hR:Big R):((l++R).map (·.1)).Nodup:=by
 rw [List.map_append];refine List.nodup_append.2 ⟨z8s h,hR.nd,λa ha b hb e=>?_⟩;obtain⟨p,hp,rfl⟩:=List.mem_map.1 ha;obtain⟨q,hq,rfl⟩:=List.mem_map.1 hb;have:=z8t h hp;have:=hR.big q hq;omega
theorem Zg {l R:List (Nat×AObj)} (h:kk l=true) (hR:Big R) {p:Nat×AObj} (hp:p∈R):ows (l++R) p.1=some (some p.2):=(ug (y3m h hR)).2 (List.mem_append_right _ hp)
theorem w2k {l R:List (Nat×AObj)} (hR:Big R) {i:Nat} (hi:Nat.blt i 1000=true) (hl:(l.map (·.1)).contains i=false):ows (l++R) i=none:=by
 rw [y3j,List.map_append,List.mem_append];rintro (h|h)
 ·rw [List.contains_iff_mem.2 h] at hl;cases hl
 ·obtain⟨p,hp,rfl⟩:=List.mem_map.1 h;have:=hR.big p hp;have:p.1 < 1000:=by simpa [Nat.blt_eq] using hi
  omega
theorem Big.filter {R:List (Nat×AObj)} (h:Big R) (q:Nat×AObj->Bool):Big (R.filter q):=
 ⟨List.Nodup.sublist (List.Sublist.map _ List.filter_sublist) h.nd,λp hp=>h.big p (List.mem_filter.1 hp).1,λp hp=>h.cl p (List.mem_filter.1 hp).1⟩
theorem z0r {own:Own}:∀ {l:List (Nat×AObj)},subO own l↔∀ p,p∈l->own p.1=some (some p.2)
 | []=>⟨λ_ p hp=>by simp at hp,λ_=>trivial⟩
 | (i,o)::l=>by
  have ih:=z0r (own:=own) (l:=l);refine⟨λh p hp=>?_,λh=>⟨h (i,o) (by simp),ih.2 λp hp=>h p (by simp [hp])⟩⟩;rcases List.mem_cons.1 hp with rfl|hp
  ·exact h.1
  ·exact ih.1 h.2 p hp
theorem z19:∀ (l:List (Nat×Slot)),(l.map (·.1)).Nodup->subF (frs l) l:=by
 suffices h:∀ (l0 l:List (Nat×Slot)),(l.map (·.1)).Nodup->(∀ t,t∈l.map (·.1)->frs l0 t=frs l t)->subF (frs l0) l from λl hn=>h l l hn λ_ _=>rfl
 intro l0 l
 induction l with
 | nil=>intro _ _;trivial
 | cons p l ih =>
  obtain⟨k,s⟩:=p;intro hn he;rw [List.map_cons,List.nodup_cons] at hn;refine⟨?_,ih hn.2 λt ht=>?_⟩
  ·rw [he k (by simp)];unfold frs;have:Nat.beq k k=true:=by simp
   simp only [upl,this,cond_true]
  ·rw [he t (by simp at ht ⊢;exact .inr ht)];have hne:t≠k:=by rintro rfl;exact hn.1 ht
   unfold frs;simp only [upl,qz hne,cond_false]
theorem Yd {lf:List (Nat×Slot)} {l R:List (Nat×AObj)} (h:okL lf l=true) (hR:Big R):okL lf (l++R)=true:=by
 have hliv:∀ i,vf (ows l) i=true->vf (ows (l++R)) i=true:=by
  intro i h1;obtain⟨o,ho⟩:=uh h1
  have:∀ (l:List (Nat×AObj)),ows l i=some (some o)->ows (l++R) i=some (some o):=by
   intro l
   induction l with
   | nil=>intro h;cases h
   | cons p l ih =>
    intro h;unfold ows at h ih ⊢;simp only [List.cons_append,List.map_cons,upl] at h ⊢
    by_cases hk:i=p.1
    ·rw [hk] at h ⊢;have e1:Nat.beq p.1 p.1=true:=by simp
     simp only [e1,cond_true] at h ⊢;exact h
    ·simp only [qz hk,cond_false] at h ⊢;exact ih h
  unfold vf;rw [this l ho]
 have hC:∀ c,okC (ows l) c=true->okC (ows (l++R)) c=true:=λc hc=>by
  cases c with
  | dat _=>rfl
  | ptr id _=>exact hliv _ hc
  | row id _=>exact hliv _ hc
  | mp id=>exact hliv _ hc
 have hS:∀ s,okS (ows l) s=true->okS (ows (l++R)) s=true:=λs hs=>by
  cases s with
  | any=>rfl
  | dat _=>rfl
  | ptr id _=>exact hliv _ hs
  | row id _=>exact hliv _ hs
  | rptr id _ _ _ _=>exact hliv _ hs
  | mp id=>exact hliv _ hs
  | rsub id _ _ _=>exact hliv _ hs
  | nptr id=>exact hliv _ hs
  | dr id _=>exact hliv _ hs
  | comp tup cs=>exact List.all_eq_true.2 λc hc=>hC c (List.all_eq_true.1 hs c hc)
 unfold okL at h ⊢;rw [Bool.and_eq_true] at h ⊢;refine⟨List.all_eq_true.2 λp hp=>hS _ (List.all_eq_true.1 h.1 p hp),List.all_eq_true.2 λp hp=>?_⟩;rcases List.mem_append.1 hp with hp|hp
 ·have h2:=List.all_eq_true.1 h.2 p hp;obtain⟨i,o⟩:=p
  cases o with
  | box an t cs=>exact List.all_eq_true.2 λs hs=>hS s (List.all_eq_true.1 h2 s hs)
  | row _ _ _=>rfl
  | opq _ _=>rfl
  | rowA _ _ _ _=>rfl
 ·have h2:=hR.cl p hp;obtain⟨i,o⟩:=p
  cases o with
  | box an t cs =>
   refine List.all_eq_true.2 λs hs=>?_;have:=List.all_eq_true.1 h2 s hs;cases s <;> first|rfl|cases this
  | row _ _ _=>rfl
  | opq _ _=>rfl
  | rowA _ _ _ _=>rfl
def okL5 (j:Nat) (lf:List (Nat×Slot)) (l:List (Nat×AObj)):Bool:=lf.all (λp=>okS5 j (ows l) p.2) && l.all (λp=>okO5 j (ows l) p.2)
theorem y8m {j:Nat} {lf:List (Nat×Slot)} {l R:List (Nat×AObj)} (h:okL5 j lf l=true) (hR:Big R):lf.all (λp=>okS5 j (ows (l++R)) p.2)=true/\∀ p,p∈l++R->okO5 j (ows (l++R)) p.2=true:=by
 have hliv:∀ i,(vf (ows l) i && fxB j i)=true->(vf (ows (l++R)) i && fxB j i)=true:=by
  intro i h1;rw [Bool.and_eq_true] at h1 ⊢;refine⟨?_,h1.2⟩;obtain⟨o,ho⟩:=uh h1.1
  have:∀ (l:List (Nat×AObj)),ows l i=some (some o)->ows (l++R) i=some (some o):=by
   intro l
   induction l with
   | nil=>intro h;cases h
   | cons p l ih =>
    intro h;unfold ows at h ih ⊢;simp only [List.cons_append,List.map_cons,upl] at h ⊢
    by_cases hk:i=p.1
    ·rw [hk] at h ⊢;have e1:Nat.beq p.1 p.1=true:=by simp
     simp only [e1,cond_true] at h ⊢;exact h
    ·simp only [qz hk,cond_false] at h ⊢;exact ih h
  unfold vf;rw [this l ho]
 have hC:∀ c,okC5 j (ows l) c=true->okC5 j (ows (l++R)) c=true:=λc hc=>by
  cases c with
  | dat _=>rfl
  | ptr id _=>exact hliv _ hc
  | row id _=>exact hliv _ hc
  | mp id=>exact hliv _ hc
 have hS:∀ s,okS5 j (ows l) s=true->okS5 j (ows (l++R)) s=true:=λs hs=>by
  cases s with
  | any=>rfl
  | dat _=>rfl
  | ptr id _=>exact hliv _ hs
  | row id _=>exact hliv _ hs
  | rptr id _ _ _ _=>exact hliv _ hs
  | mp id=>exact hliv _ hs
  | rsub id _ _ _=>exact hliv _ hs
  | nptr id=>exact hliv _ hs
  | dr id _=>exact hliv _ hs
  | comp tup cs=>exact List.all_eq_true.2 λc hc=>hC c (List.all_eq_true.1 hs c hc)
 unfold okL5 at h;rw [Bool.and_eq_true] at h;refine⟨List.all_eq_true.2 λp hp=>hS _ (List.all_eq_true.1 h.1 p hp),λp hp=>?_⟩;rcases List.mem_append.1 hp with hp|hp
 ·have h2:=List.all_eq_true.1 h.2 p hp;obtain⟨i,o⟩:=p
  cases o with
  | box an t cs=>exact List.all_eq_true.2 λs hs=>hS s (List.all_eq_true.1 h2 s hs)
  | row _ _ _=>rfl
  | opq _ _=>rfl
  | rowA _ _ _ _=>rfl
 ·exact x7k (hR.cl p hp)
section
variable {P:Program} {X:Ctx} {Q:Exit->(Nat->Slot)->Own->Prop} {f:Nat->Slot} {own:Own} {c:Code}
theorem y1q (j i0:Nat) {o:AObj} {l R:List (Nat×AObj)} (lf:List (Nat×Slot)) (hm:(i0,o)∈R) (hR:Big R) (hs:kk ((j,o)::l)=true) (hok:okL5 j lf l=true) (hf:subF f lf) (ho:subO own l) (hoR:∀ p,p∈R->own p.1=some (some p.2))
  (h:AWP P X c Q (frs lf) (ows (((j,o)::l)++R.filter λp=>p.1 != i0))):AWP P X c Q f own:=by
 intro g a w hr;have hR':=hR.filter λp=>p.1 != i0;have hi0:=hR.big _ hm;have hj:j < 1000:=z8t hs (p:=(j,o)) (by simp);have hoj:=y3m hs hR';have hcl:=hR.cl _ hm
 -- the check with the new object among the few
 have hok':okL5 j lf ((j,o)::l)=true:=by
  have hn:j ∉ l.map (·.1):=by
   have:=z8s hs;rw [List.map_cons,List.nodup_cons] at this;exact this.1
  have hliv:∀ i,(vf (ows l) i && fxB j i)=true->(vf (ows ((j,o)::l)) i && fxB j i)=true:=λi h1=>by
   rw [Bool.and_eq_true] at h1 ⊢;refine⟨?_,h1.2⟩;have hne:=(y99 h1.2).2;obtain⟨o',ho'⟩:=uh h1.1;unfold vf
   have:ows ((j,o)::l) i=ows l i:=by
    unfold ows;simp only [List.map_cons,upl,qz hne,cond_false]
   rw [this,ho']
  have hC:∀ c,okC5 j (ows l) c=true->okC5 j (ows ((j,o)::l)) c=true:=λc hc=>by
   cases c with
   | dat _=>rfl
   | ptr id _=>exact hliv _ hc
   | row id _=>exact hliv _ hc
   | mp id=>exact hliv _ hc
  have hS:∀ s,okS5 j (ows l) s=true->okS5 j (ows ((j,o)::l)) s=true:=λs hs=>by
   cases s with
   | any=>rfl
   | dat _=>rfl
   | ptr id _=>exact hliv _ hs
   | row id _=>exact hliv _ hs
   | rptr id _ _ _ _=>exact hliv _ hs
   | mp id=>exact hliv _ hs
   | rsub id _ _ _=>exact hliv _ hs
   | nptr id=>exact hliv _ hs
   | dr id _=>exact hliv _ hs
   | comp tup cs=>exact List.all_eq_true.2 λc hc=>hC c (List.all_eq_true.1 hs c hc)
  unfold okL5 at hok ⊢;rw [Bool.and_eq_true] at hok ⊢;refine⟨List.all_eq_true.2 λp hp=>hS _ (List.all_eq_true.1 hok.1 p hp),List.all_eq_true.2 λp hp=>?_⟩;rcases List.mem_cons.1 hp with rfl|hp
  ·exact x7k hcl
  ·have h2:=List.all_eq_true.1 hok.2 p hp;obtain⟨i,o⟩:=p
   cases o with
   | box an t cs=>exact List.all_eq_true.2 λs hs=>hS s (List.all_eq_true.1 h2 s hs)
   | row _ _ _=>rfl
   | opq _ _=>rfl
   | rowA _ _ _ _=>rfl
 obtain⟨k1,k2⟩:=y8m hok' hR';have hσne:∀ i,i≠j->(if i=j then i0 else i)=i:=λi hi=>if_neg hi
 have key1:∀ p,p∈(((j,o)::l)++R.filter λp=>p.1 != i0)->own (if p.1=j then i0 else p.1)=some (some p.2):=λp hp=>by
  rcases List.mem_append.1 hp with hp|hp
  ·rcases List.mem_cons.1 hp with rfl|hp
   ·simp only [if_true];exact hoR _ hm
   ·have hne:p.1≠j:=by
     have:=z8s hs;rw [List.map_cons,List.nodup_cons] at this;rintro e;exact this.1 (List.mem_map.2 ⟨p,hp,e⟩)
    rw [hσne _ hne];exact z0r.1 ho p hp
  ·have hp2:=(List.mem_filter.1 hp).1;have:=hR.big p hp2;rw [hσne _ (by omega)];exact hoR p hp2
 have key0:∀ i,i∈(((j,o)::l)++R.filter λp=>p.1 != i0).map (·.1)->i≠i0:=λi hi e=>by
  subst e;obtain⟨p,hp,hpe⟩:=List.mem_map.1 hi;rcases List.mem_append.1 hp with hp|hp
  ·have:=z8t hs hp;omega
  ·have:=(List.mem_filter.1 hp).2;rw [hpe] at this;simp at this
 have key2:∀ i k,i∈(((j,o)::l)++R.filter λp=>p.1 != i0).map (·.1)->k∈(((j,o)::l)++R.filter λp=>p.1 != i0).map (·.1)->(if i=j then i0 else i)=(if k=j then i0 else k)->i=k:=λi k hi hk e=>by
  have h1:=key0 i hi;have h2:=key0 k hk;split at e <;> split at e <;> omega
 obtain⟨g',hr',_⟩:=hr.renX j (λi=>if i=j then i0 else i) lf (((j,o)::l)++R.filter λp=>p.1 != i0) hf key1 hoj key2 (λid hid=>hσne id (y99 hid).2) k1 k2;exact h g' a w hr'
theorem x4h {g:Gh} {a:Act} {w:World} (hr:Rel X f own g a w) (j i0:Nat) {o:AObj} {l R:List (Nat×AObj)} (lf:List (Nat×Slot)) (hm:(i0,o)∈R) (hR:Big R) (hj:Nat.blt j 1000=true) (hjl:(l.map (·.1)).contains j=false) (hs:kk l=true) (hok:okL5 j lf l=true) (hf:subF f lf) (ho:subO own l) (hoj:own j=some (some o)) (hoR:∀ p,p∈R->p.1≠i0->own p.1=some (some p.2)) :
  ∃ g',Rel X (frs lf) (ows (l++R)) g' a w:=by
 have hi0:=hR.big _ hm;have hj:j < 1000:=by simpa [Nat.blt_eq] using hj
 have hjn:j ∉ l.map (·.1):=λh=>by rw [List.contains_iff_mem.2 h] at hjl;cases hjl
 obtain⟨k1,k2⟩:=y8m hok hR;have hσne:∀ i,i≠i0->(if i=i0 then j else i)=i:=λi hi=>if_neg hi
 have key1:∀ p,p∈l++R->own (if p.1=i0 then j else p.1)=some (some p.2):=λp hp=>by
  rcases List.mem_append.1 hp with hp|hp
  ·have:=z8t hs hp;rw [hσne _ (by omega)];exact z0r.1 ho p hp
  ·by_cases hpi:p.1=i0
   ·obtain⟨i,o2⟩:=p;simp only at hpi;subst hpi;have:o=o2:=x5e hR.nd hm hp;subst this;simp only [if_true];exact hoj
   ·rw [hσne _ hpi];exact hoR p hp hpi
 have key0:∀ i,i∈(l++R).map (·.1)->i≠j:=λi hi e=>by
  subst e;rw [List.map_append] at hi;rcases List.mem_append.1 hi with hi|hi
  ·exact hjn hi
  ·obtain⟨p,hp,hpe⟩:=List.mem_map.1 hi;have:=hR.big p hp;omega
 have key2:∀ i k,i∈(l++R).map (·.1)->k∈(l++R).map (·.1)->(if i=i0 then j else i)=(if k=i0 then j else k)->i=k:=λi k hi hk e=>by
  have h1:=key0 i hi;have h2:=key0 k hk;split at e <;> split at e <;> omega
 obtain⟨g',hr',_⟩:=hr.renX j (λi=>if i=i0 then j else i) lf (l++R) hf key1 (y3m hs hR) key2 (λid hid=>hσne id (by have:=(y99 hid).1;omega)) k1 k2;exact⟨g',hr'⟩
theorem y5v (j i0:Nat) {o:AObj} {l R:List (Nat×AObj)} (lf:List (Nat×Slot)) (hm:(i0,o)∈R) (hR:Big R) (hj:Nat.blt j 1000=true) (hjl:(l.map (·.1)).contains j=false) (hs:kk l=true) (hok:okL5 j lf l=true) (hf:subF f lf) (ho:subO own l) (hoj:own j=some (some o)) (hoR:∀ p,p∈R->p.1≠i0->own p.1=some (some p.2))
  (h:AWP P X c Q (frs lf) (ows (l++R))):AWP P X c Q f own:=λg a w hr=>by
 obtain⟨g',hr'⟩:=x4h hr j i0 lf hm hR hj hjl hs hok hf ho hoj hoR;exact h g' a w hr'
theorem z1m {e:Exit} (j i0:Nat) {o:AObj} {l R:List (Nat×AObj)} (lf:List (Nat×Slot)) (hm:(i0,o)∈R) (hR:Big R) (hj:Nat.blt j 1000=true) (hjl:(l.map (·.1)).contains j=false) (hs:kk l=true) (hok:okL5 j lf l=true) (hf:subF f lf) (ho:subO own l) (hoj:own j=some (some o)) (hoR:∀ p,p∈R->p.1≠i0->own p.1=some (some p.2))
  (h:Q e (frs lf) (ows (l++R))):Cv Q e f own:=
 ⟨⟨_,_,λX g a w hr=>x4h hr j i0 lf hm hR hj hjl hs hok hf ho hoj hoR,h⟩⟩
theorem x1h (t:Nat) (u:V) {l R:List (Nat×AObj)} (lf:List (Nat×Slot)) (hR:Big R) (hs:kk l=true) (hok:okL5 1000 lf l=true) (hf:subF f lf) (ho:subO own l) (hoR:∀ p,p∈R->own p.1=some (some p.2)) (ht:Nat.blt t X.N=true)
  (hu:∀ (g:Gh) (w:World) (M M':Blks) (v:Value),Ext M M' w w->(∀ p,p∈R->RepO g w M p.1 p.2/\∀ b,obk g p.1 p.2=some b->¬ M' b)->RepS g w M (f t) v->u.p w M' v)
  (h:AWP P X c Q (updS (frs lf) (some t) (.dat u)) (ows l)):AWP P X c Q f own:=by
 intro g a w hr;have hB0:Big ([]:List (Nat×AObj)):=⟨List.nodup_nil,λ_ h=>by simp at h,λ_ h=>by simp at h⟩
 obtain⟨k1,k2⟩:=y8m hok hB0;rw [List.append_nil] at k1 k2;obtain⟨g',hr',hbk⟩:=hr.renX 1000 (λi=>i) lf l hf (λp hp=>z0r.1 ho p hp) (z8s hs) (λi k _ _ e=>e) (λ_ _=>rfl) k1 k2
 have hlive:∀ id o,ows l id=some (some o)->id < 1000/\own id=some (some o):=λid o h1=>by
  have h2:=(ug (z8s hs)).1 h1;exact⟨z8t hs h2,z0r.1 ho _ h2⟩
 have he:Ext (Mof X g own) (Mof X g' (ows l)) w w:=⟨Nat.le_refl _,λ_ _ _ _=>rfl,λb _ hb=>by
  rcases hb with hb|⟨id,o,h1,h2⟩
  ·exact .inl hb
  ·rw [hbk id o h1 o] at h2
   exact .inr ⟨id,o,(hlive id o h1).2,h2⟩⟩
 refine h g' a w ⟨hr'.kp,hr'.m0,hr'.n,hr'.df,λt'=>?_,hr'.ob,hr'.sep,hr'.mine,hr'.fresh,hr'.top⟩
 by_cases htt:t'=t
 ·subst htt;have:Nat.beq t' t'=true:=by simp
  simp only [updS,this,cond_true];refine hu g w _ _ _ he (λp hp=>⟨hr.ob _ _ (hoR p hp),λb hb hM=>?_⟩) (hr.fr t');rcases hM with hM|⟨id,o,h1,h2⟩
  ·have h5:=hr.m0.1 b hM;rcases hr.mine _ _ b (hoR p hp) hb with h6|h6
   ·exact h5.2 h6
   ·omega
  ·rw [hbk id o h1 o] at h2;obtain⟨h3,h4⟩:=hlive id o h1;have:=hr.sep id p.1 o p.2 b h4 (hoR p hp) h2 hb;have:=hR.big p hp;omega
 ·simp only [updS,qz htt,cond_false];exact hr'.fr t'
end
def fam (c:Nat):Nat->List AObj->List (Nat×AObj)
 | _,[]=>[]
 | n,o::l=>(4*n+c+1000,o)::fam c (n+1) l
theorem Qa {c:Nat}:∀ {l:List AObj} {n:Nat} {p:Nat×AObj},p∈fam c n l↔∃ k o,l[k]?=some o/\p=(4*(n+k)+c+1000,o)
 | [],n,p=>⟨λh=>by simp [fam] at h,λ⟨k,o,h,_⟩=>by simp at h⟩
 | o::l,n,p=>by
  rw [fam,List.mem_cons,Qa];constructor
  ·rintro (rfl|⟨k,o',h,rfl⟩)
   ·exact⟨0,o,rfl,rfl⟩
   ·exact⟨k+1,o',by simpa using h,by rw [show n+1+k=n+(k+1) by omega]⟩
  ·rintro⟨k,o',h,rfl⟩
   cases k with
   | zero=>simp at h;subst h;exact .inl rfl
   | succ k=>exact .inr ⟨k,o',by simpa using h,by rw [show n+1+k=n+(k+1) by omega]⟩
theorem ju {c:Nat} {l:List AObj} {k:Nat} {o:AObj} (h:l[k]?=some o):(4*k+c+1000,o)∈fam c 0 l:=Qa.2 ⟨k,o,h,by rw [Nat.zero_add]⟩
theorem x67 {c:Nat}:∀ {l:List AObj} {n:Nat},((fam c n l).map (·.1)).Nodup
 | [],n=>List.nodup_nil
 | o::l,n=>by
  rw [fam,List.map_cons,List.nodup_cons];refine⟨λh=>?_,x67⟩;obtain⟨p,hp,e⟩:=List.mem_map.1 h;obtain⟨k,o',_,rfl⟩:=Qa.1 hp;simp only at e;omega
theorem y5h {c:Nat} {l:List AObj} {n:Nat} (h:∀ o,o∈l->clO o=true):Big (fam c n l):=
 ⟨x67,λp hp=>by obtain⟨k,o,_,rfl⟩:=Qa.1 hp;simp only;omega,λp hp=>by obtain⟨k,o,h1,rfl⟩:=Qa.1 hp;exact h o (List.mem_of_getElem? h1)⟩
theorem w75 {c d:Nat} {l m:List AObj} (hc:c < 4) (hd:d < 4) (hcd:c≠d) (h:∀ o,o∈l->clO o=true) (h':∀ o,o∈m->clO o=true):Big (fam c 0 l++fam d 0 m):=by
 have h1:=y5h (c:=c) (n:=0) h;have h2:=y5h (c:=d) (n:=0) h';refine⟨?_,λp hp=>?_,λp hp=>?_⟩
 ·rw [List.map_append];refine List.nodup_append.2 ⟨h1.nd,h2.nd,λa ha b hb e=>?_⟩;obtain⟨p,hp,rfl⟩:=List.mem_map.1 ha;obtain⟨q,hq,rfl⟩:=List.mem_map.1 hb;obtain⟨k,o,_,rfl⟩:=Qa.1 hp;obtain⟨k',o',_,rfl⟩:=Qa.1 hq;simp only at e;omega
 ·rcases List.mem_append.1 hp with hp|hp
  ·exact h1.big p hp
  ·exact h2.big p hp
 ·rcases List.mem_append.1 hp with hp|hp
  ·exact h1.cl p hp
  ·exact h2.cl p hp
end Go.Proofs.YtbpedjpoikmbjaaGreatDoor
namespace Go.Proofs.YtbpedjpoikmbjaaGreatDoor
open Go.RowKit Go.ChangeMaps Go.MapKept
set_option linter.unusedVariables false
section
variable {P:Program} {f:Nat->Slot} {dst:Option Tmp} {ty:TypeId} {pos:String} {af:Array Edge} {gd:Option (Nat×Bool)}
theorem x8x {g:Gh} {w:World} {M:Blks} {f':Nat->Slot} {d:Option Nat} {s s':Slot} (hs:∀ v,RepS g w M s v->RepS g w M s' v) (k:Nat) (v:Value) (h:RepS g w M (updS f' d s k) v):RepS g w M (updS f' d s' k) v:=by
 cases d with
 | none=>exact h
 | some d =>
  simp only [updS] at h ⊢;cases hb:Nat.beq k d
  ·rw [hb] at h;exact h
  ·rw [hb] at h;exact hs v h
variable {κ τ:Type} {an:Option Nat} {t kt et:TypeId} {T:MT κ τ} {l:List (κ×τ)} {x y:Operand} {id:Nat}
end
end Go.Proofs.YtbpedjpoikmbjaaGreatDoor
