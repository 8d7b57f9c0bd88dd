/- Bills: the walk of BillsOf. -/
import Derived.Test.YtnnfdgngnoamoaaGreatDoorXbh3
namespace Go.Proofs.YtnnfdgngnoamoaaGreatDoor
open Go.RowKit Go.ChangeMaps Go.MapKept
set_option linter.unusedVariables false
set_option maxRecDepth 100000
set_option maxHeartbeats 4000000
abbrev Hdr:=Option Nat×Nat×Nat
abbrev hV (h:Hdr):Value := .slice (h.1.map fun b=>⟨b,0,none⟩) h.2.1 h.2.2
def fxH (f:Nat→Hdr) (i:Nat) (v:Hdr):Nat→Hdr:=fun j=>if j=i then v else f j
theorem y3z {f:Nat→Hdr} {i m:Nat} {v:Hdr} (h:m≠i):fxH f i v m=f m:=if_neg h
theorem x4a {f:Nat→Hdr} {i:Nat} {v:Hdr}:fxH f i v i=v:=if_pos Z
noncomputable abbrev MTbv:MT Bs (zm×Hdr):=⟨fun x=>vstr x,fun x => .string ⟨x.toArray⟩,fun x=>x.length≤1000000000,fun x=>vagg [vstr x.1.Owner,vint x.1.Month,vval (hV x.2),vint x.1.Cents],fun x => .agg ([.string ⟨x.1.Owner.toArray⟩,.int .i64 x.1.Month,hV x.2,.int .i64 x.1.Cents]:List Value).toArray,(⟨[],0,[],0⟩,(none,0,0))⟩
theorem z0c:TyG Tryz.prog 92 9 50 MTbv:=
 ⟨by kernel_rfl,Maps.string_keyed (by kernel_rfl),fun x hk=>⟨_,WideMaps.keyOf_string_mk (by kernel_rfl) (z3u hk)⟩,fun w=>by kernel_rfl,(fun a b h=>by simpa using h),(fun x w M v h=>h),(fun x w M v h=>y9r Z h),(fun x w M=>y9q Z Z w M),(fun x w M=>Z)⟩
def EV (hd:Nat→Hdr) (O:List (Bs×zm)):List (Bs×(zm×Hdr)):=O.mapIdx fun i p=>(p.1,(p.2,hd i))
theorem z6g {hd:Nat→Hdr} {O:List (Bs×zm)} {i:Nat}:(EV hd O)[i]?=O[i]?.map fun p=>(p.1,(p.2,hd i)):=by
 unfold EV; rw [List.getElem?_mapIdx]
theorem z6f (hd:Nat→Hdr) (p:Bs×zm) (O:List (Bs×zm)):EV hd (p::O)=(p.1,(p.2,hd 0))::EV (fun i=>hd (i+1)) O:=by
 unfold EV; rw [List.mapIdx_cons]
theorem x2z:∀ (O:List (Bs×zm)) (hd:Nat→Hdr) (k:Bs),(lkG O k=none∧lkG (EV hd O) k=none∧(∀ v,ptG O k v=O++[(k,v)])∧∀ v,ptG (EV hd O) k v=EV hd O++[(k,v)]) ∨
  ∃ i a,O[i]?=some (k,a)∧lkG O k=some a∧lkG (EV hd O) k=some (a,hd i)∧(∀ v,ptG O k v=O.set i (k,v))∧∀ v,ptG (EV hd O) k v=(EV hd O).set i (k,v)
 | [],f,k => .inl ⟨Z,Z,fun _=>Z,fun _=>Z⟩
 | p::E,f,k=>by
  by_cases h:p.1=k
  ·refine .inr ⟨0,p.2,by rw [← h]; rfl,by rw [lkG,if_pos h],by rw [z6f,lkG,if_pos h],fun v=>by rw [ptG,if_pos h]; rfl,fun v=>by rw [z6f,ptG,if_pos h]; rfl⟩
  ·rcases x2z E (fun i=>f (i+1)) k with ⟨h1,h2,h3,h4⟩ | ⟨i,a,h1,h2,h3,h4,h5⟩
   ·exact .inl ⟨by rw [lkG,if_neg h]; exact h1,by rw [z6f,lkG,if_neg h]; exact h2,fun v=>by rw [ptG,if_neg h,h3]; rfl,fun v=>by rw [z6f,ptG,if_neg h,h4]; rfl⟩
   ·exact .inr ⟨i+1,a,h1,by rw [lkG,if_neg h]; exact h2,by rw [z6f,lkG,if_neg h]; exact h3,fun v=>by rw [ptG,if_neg h,h4]; rfl,fun v=>by rw [z6f,ptG,if_neg h,h5]; rfl⟩
theorem w7u {hd:Nat→Hdr} {O:List (Bs×zm)} {i:Nat} {k:Bs} {a v:zm} {h:Hdr} (hi:O[i]?=some (k,a)):(EV hd O).set i (k,(v,h))=EV (fxH hd i h) (O.set i (k,v)):=by
 have hl:i < O.length:=(List.getElem?_eq_some_iff.1 hi).1
 refine List.ext_getElem? fun j => ?_
 rw [z6g,List.getElem?_set,List.getElem?_set,z6g]
 have hl2:(EV hd O).length=O.length:=by unfold EV; simp
 by_cases hj:i=j
 ·subst hj
  rw [if_pos Z,if_pos Z,if_pos hl,if_pos (by omega)]
  simp [fxH]
 ·rw [if_neg hj,if_neg hj,y3z (Ne.symm hj)]
theorem w7t {hd:Nat→Hdr} {O:List (Bs×zm)} (k:Bs) (v:zm) (h:Hdr):EV hd O++[(k,(v,h))]=EV (fxH hd O.length h) (O++[(k,v)]):=by
 refine List.ext_getElem? fun j => ?_
 have hl:(EV hd O).length=O.length:=by unfold EV; simp
 rw [z6g]
 rcases Nat.lt_trichotomy j O.length with hj | hj | hj
 ·rw [List.getElem?_append_left hj,List.getElem?_append_left (by omega),z6g,y3z (by omega)]
 ·subst hj
  rw [List.getElem?_append_right (Nat.le_refl _),List.getElem?_append_right (by omega),hl]
  simp [fxH]
 ·rw [List.getElem?_append_right (by omega),List.getElem?_append_right (by omega),hl]
  have:∀ {α:Type} (x:α),[x][j - O.length]?=none:=fun x=>by
   rw [List.getElem?_eq_none_iff]; simp; omega
  rw [this,this]; rfl
abbrev Rb (hd:Nat→Hdr) (O:List (Bs×zm)):List AObj:=O.mapIdx fun i p=>rwB (hV (hd i)) p.2.Lines
abbrev RV (hd:Nat→Hdr) (O:List (Bs×zm)):List (Nat×AObj):=fam 0 0 (Rb hd O)
theorem RVb {hd:Nat→Hdr} {O:List (Bs×zm)}:Big (RV hd O):=y33 fun o ho=>by
 obtain ⟨i,hi⟩:=List.getElem?_of_mem ho
 rw [List.getElem?_mapIdx] at hi
 obtain ⟨p,_,rfl⟩:=Option.map_eq_some_iff.1 hi
 rfl
theorem newR {hd:Nat→Hdr} {O:List (Bs×zm)} {o:Bs} {x:zm} {v:Hdr}:(Rb (fxH hd O.length v) (O++[(o,x)]))[O.length]?=some (rwB (hV v) x.Lines):=by
 rw [y62,x4a]
theorem oldR {hd:Nat→Hdr} {O:List (Bs×zm)} {p:Bs×zm} {v:Hdr} {j:Nat} {o:AObj} (hj:j≠O.length) (h:(Rb (fxH hd O.length v) (O++[p]))[j]?=some o):(Rb hd O)[j]?=some o:=
 y63 hj (fun m q hm=>by rw [y3z hm]) h
theorem setR {hd:Nat→Hdr} {O:List (Bs×zm)} {p:Bs×zm} {v:Hdr} {i j:Nat} {o:AObj} (hj:j≠i) (h:(Rb (fxH hd i v) (O.set i p))[j]?=some o):(Rb hd O)[j]?=some o:=
 y65 hj (fun m q hm=>by rw [y3z hm]) h
theorem x84 {hd:Nat→Hdr} {O:List (Bs×zm)} {o:Bs} {p:Bs×zm} {x:zm} {v:Hdr} {i:Nat} (h:O[i]?=some p):(Rb (fxH hd i v) (O.set i (o,x)))[i]?=some (rwB (hV v) x.Lines):=by
 rw [y64 h,x4a]
theorem x5g {P:Program} {X:Ctx} {Q:Exit→(Nat→Slot)→Own→Prop} {c:Code} {f:Nat→Slot} {own:Own} (id:Nat) {v:Value} {e:TypeId} {size:Nat} {es:List (List V)} (ho:own id=some (some (.rowA v e size es))) (h:∀ h:Hdr,v=hV h→AWP P X c Q f own):AWP P X c Q f own:=by
 intro g a w hr
 obtain ⟨xs,q1,q2,_⟩:=hr.ob id _ ho
 rcases q2.2 with ⟨hv,_⟩ | ⟨b,cap,cur,hv,_⟩
 ·exact h (none,0,0) hv g a w hr
 ·exact h (some b,es.length,cap) hv g a w hr
def vBil (b:Nat) (es:Array MapEntry) (cl:Nat) (hd:Nat→Hdr) (O:List (Bs×zm)):V:=
 ⟨fun w M v=>(vmpX b es cl).p w M v∧∀ i p,O[i]?=some p→(vlst (List.map wh p.2.Lines)).p w M (hV (hd i)),true,
   fun {w w' M M' v} he ⟨h1,h2⟩=>⟨(vmpX b es cl).keep he h1,fun i p hp=>(vlst (List.map wh p.2.Lines)).keep he (h2 i p hp)⟩,fun _ _ _ v ⟨h1,_⟩=>(vmpX b es cl).hone Z h1⟩
theorem x55 {b:Nat} {es:Array MapEntry} {cl:Nat} {hd:Nat→Hdr} {O:List (Bs×zm)} (w:World) (M:Blks) (v:Value) (h:(vBil b es cl hd O).p w M v):(vmpX b es cl).p w M v:=h.1
theorem w5e {hd:Nat→Hdr} {O:List (Bs×zm)} {b:Nat} {es:Array MapEntry} {cl:Nat} {s:Slot} (hs:s = .dat (vmpX b es cl)) (g:Gh) (w:World) (M M':Blks) (v:Value) (he:Ext M M' w w)
  (hR:∀ p,p∈RV hd O→RepO g w M p.1 p.2∧∀ b,obk g p.1 p.2=some b→¬ M' b) (hv:RepS g w M s v):(vBil b es cl hd O).p w M' v:=by
 subst hs
 refine ⟨(vmpX b es cl).keep he hv,fun i p hp => ?_⟩
 obtain ⟨h1,h2⟩:=hR (4 * i+0+1000,rwB (hV (hd i)) p.2.Lines) (jp (z0q hp))
 exact x1q he h1 h2
theorem w6u {b:Nat} {es:Array MapEntry} {cl:Nat} {hd:Nat→Hdr} {O:List (Bs×zm)} {i:Nat} {p:Bs×zm} (hp:O[i]?=some p) {w:World} {M:Blks} {v v0:Value} (h:(vval (hV (hd i))).p w M v) (h0:(vBil b es cl hd O).p w M v0):(vlst (List.map wh p.2.Lines)).p w M v:=by
 have h:v=hV (hd i):=h
 rw [h]
 exact h0.2 i p hp
theorem w61 {P:Program} {X:Ctx} {Q:Exit→(Nat→Slot)→Own→Prop} {c:Code} {f:Nat→Slot} {own:Own} (i j t0:Nat) {an:Option Nat} {t:TypeId} {cs:List Slot} {s:Slot} (s':Slot) (ho:own i=some (some (.box an t cs))) (hj:cs[j]?=some s) (hw:∀ (g:Gh) (w:World) (M:Blks) (v v0:Value),RepS g w M s v→RepS g w M (f t0) v0→RepS g w M s' v)
  (h:AWP P X c Q f (upl own [(i,some (some (.box an t (cs.set j s'))))])):AWP P X c Q f own:=by
 intro g a w hr
 obtain ⟨b,l,q1,q0,q2,q3,q4⟩:=hr.ob i _ ho
 have hst:=Zk (id:=i) (ob' := .box an t (cs.set j s')) (w':=w) hr (Gh.le_refl g) (fun i _=>⟨Z,fun _=>Z⟩) (.inl (Kp.refl _ _)) (fun b' hb' => .inr ⟨_,ho,hb'⟩) (fun e size es h=>by cases h) (fun M' he _=>⟨b,l,q1,q0,q2,by rw [List.length_set]; exact q3,fun k s0 hs=>by
  rw [List.getElem?_set] at hs
  split at hs
  ·rename_i hjk
   subst hjk
   split at hs
   ·cases hs
    obtain ⟨x,r1,r2,r3⟩:=q4 j s hj
    exact ⟨x,r1,hw _ _ _ _ _ (r2.keep he (Gh.le_refl g)) ((hr.fr t0).keep he (Gh.le_refl g)),r3⟩
   ·cases hs
  ·obtain ⟨x,r1,r2,r3⟩:=q4 k s0 hs
   exact ⟨x,r1,r2.keep he (Gh.le_refl g),r3⟩⟩)
 exact h g a w hst.1
theorem x7z {κ τ:Type} {P:Program} {f:Nat→Slot} {dst:Option Tmp} {ty:TypeId} {pos:String} {af:Array Edge} {gd:Option (Nat×Bool)} {t kt et:TypeId} {T:MT κ τ} {l:List (κ×τ)} {b:Nat} {es:Array MapEntry} {cl:Nat} {x:Operand} {u:V} (id:Nat) (hT:TyG P t kt et T) (hE:EnG T es cl l) (hx:evS f x = .dat u) (hw:∀ w M v,u.p w M v→(vmpX b es cl).p w M v) :
  Stp P ⟨dst,.range t x,ty,pos,af,gd⟩ f ⟨false,[(id,none)],[(id,some (some (.opq none (itO T b es cl l none))))],.dr id (vIt b es cl)⟩:=by
 refine Ya fun X f' own g a w hr ho hh => ?_
 have h1:=hh x (by simp [Op.operands])
 rw [hx] at h1
 obtain ⟨h2,h3,h4⟩:=hw _ _ _ h1
 let g':Gh:=⟨fun i=>if i=id then some w.heap.size else g.bl i,g.sv⟩
 have hbl:g'.bl id=some w.heap.size:=if_pos Z
 refine ⟨g',w.alloc (.mapIter (some b) cl #[] cl),.value (.pointer (some ⟨w.heap.size,0,none⟩)),.pointer (some ⟨w.heap.size,0,none⟩),⟨fun i b hb => ?_,fun _ _ _ h=>h⟩,fun i hi=>⟨if_neg hi,fun _=>Z⟩,?_,.inl Z,.inl ((Kp.refl [] w).alloc _),fun b hb => ?_,fun e size es h=>(by cases h),fun M' he=>⟨⟨w.heap.size,_,hbl,fun q hq=>(by cases hq),heap_alloc_new w _,cl,#[],cl,Z,hE.1.1,Nat.le_refl _,Nat.le_refl _,?_,fun p hp=>(by cases hp)⟩,w.heap.size,hbl,Z,fun hm=>h3 (he.sub b (vg h4) hm),(he.block b (vg h4) h3 ⟨_,h4,Z⟩).trans h4⟩⟩
 ·show (if i=id then _ else _)=_
  rw [if_neg]
  ·exact hb
  ·rintro rfl; rw [(hr.fresh i ho).1] at hb; cases hb
 ·simp only [execOp,h2,Sem.run_bind,run_range_map w t kt et b es cl hT.ut h4,Result.andThen_ok,Sem.run_pure]
 ·simp only [obk,hbl] at hb
  cases hb
  exact .inl (Nat.le_refl _)
 ·have:leftOf es #[]=es:=by unfold leftOf; simp
  rw [this]; exact hE.2.1
theorem w7v {hd:Nat→Hdr} {O:List (Bs×zm)}:((EV hd O).map (·.2.1)).Perm (O.map (·.2)):=by
 have:(EV hd O).map (·.2.1)=O.map (·.2):=List.ext_getElem? fun i=>by
  rw [List.getElem?_map,z6g,Option.map_map,List.getElem?_map]; rfl
 rw [this]
theorem w6y {hd:Nat→Hdr} {O:List (Bs×zm)} {q:List (Bs×(zm×Hdr))} (h:∀ x,x∈q→x∈EV hd O) {j:Nat} {p:Bs×(zm×Hdr)} (hj:q[j]?=some p):∃ i k b,p=(k,(b,hd i))∧O[i]?=some (k,b):=by
 obtain ⟨i,hi⟩:=List.getElem?_of_mem (h p (List.mem_of_getElem? hj))
 rw [z6g] at hi
 obtain ⟨x,hx,rfl⟩:=Option.map_eq_some_iff.1 hi
 exact ⟨i,x.1,x.2,Z,hx⟩
theorem w6w {O:List (Bs×zm)} {out:List zm} {q:List (Bs×(zm×Hdr))} (h:(out++q.map (·.2.1)).Perm (O.map (·.2))) {j:Nat} {p:Bs×(zm×Hdr)} (hj:q[j]?=some p) (hO:O.length+1≤1000000000):out.length+1≤1000000000:=by
 have h1:=h.length_eq
 simp only [List.length_append,List.length_map] at h1
 have h2:=(List.getElem?_eq_some_iff.1 hj).1
 omega
theorem w6v {l:List zm} {out:List zm} {q:List (Bs×(zm×Hdr))} {j:Nat} {k:Bs} {b:zm} {h0:Hdr} (h:(out++q.map (·.2.1)).Perm l) (hj:q[j]?=some (k,(b,h0))):((out++[b])++(q.eraseIdx j).map (·.2.1)).Perm l:=by
 obtain ⟨h1,h2⟩:=List.getElem?_eq_some_iff.1 hj
 have h3:(q[j]::q.eraseIdx j).Perm q:=y8p q j h1
 rw [h2] at h3
 have h4:=h3.map (·.2.1)
 rw [List.append_assoc]
 exact (List.Perm.append_left out (by simpa using h4)).trans h
theorem w3r (v1:zx) (v2:List zy) (v3:List zk) (v4:List zz) (v5:Int) (r:List zm) (H:z4x v1 v2 v3 v4 v5=some r):Fn Tryz.prog 17 [vagg (yy v1),vlst (List.map yk v2),vlst (List.map yi v3),vlst (List.map wn v4),vint v5] (yc [vlst (List.map wg r)]):=by
 refine ⟨by kernel_rfl,yl (us:=[vlst (List.map wg r)]) Tryz.func17 Z Z Z Z fun X hN => ?_⟩
 unfold z4x at H
 refine gE H fun hal H=>zc hN Z (zd (qr 1 Z) Z (qe Z (zc hN Z (zd (y0y 2 z0c) Z (za (qy (.mp _) Z) (yw (ι:=List (Bs×zm)×(Nat→Hdr)) (fun i=>[(11,.mp 2)]) (fun i=>[(2,.opq none (qx MTbv (EV i.2 i.1)))]++RV i.2 i.1) (fun i=>z09 i.1=some r) (fun i=>Zm Z RVb) ?_ ?_))))))
 ·skip
  refine zc hN Z (qd Z (za (yu Yq Z) (qd Z (yd (z59 (fun (k:Nat) (O:List (Bs×zm)) (hd:(Nat→Hdr))=>[(2,.dat (vlst (List.map yi v3))),(3,.dat (vlst (List.map wn v4))),(4,.dat (vint v5)),(5,.ptr 1 0),(11,.mp 2),(23,.dat (vlst (List.map yk v2))),(24,.dat (vint (v2.length:Int))),(25,.dat (vint (k:Int)))]) (fun (k:Nat) (O:List (Bs×zm)) (hd:(Nat→Hdr))=>[(1,.box none 29 ((yy v1).map .dat)),(2,.opq none (qx MTbv (EV hd O)))]++RV hd O) [] (fun _=>(none,0,0)) H ⟨Z,Z,Z,Z,Z,Z,Z,Z,U⟩ (kq.2 ⟨⟨Z,Z,U⟩,fun p hp=>by cases hp⟩) (fun _ _ _=>Zm Z RVb) ?_ ?_)))))
  ·rintro O hd H
   refine zc hN Z (za (ye Z Z) (zf (zi _ Z (fun h=>(lt_t h).elim) (fun h => ?_))))
   exact qk ⟨(O,hd),H,⟨Z,U⟩,kq.2 ⟨⟨Z,U⟩,fun p hp=>xu Z RVb hp⟩⟩
  ·rintro k a O hd q hk0 hx H hq0
   replace H:z3b v1 v3 v4 v5 a O=some q:=H
   refine Qf [3] RVb Z (zc hN Z (za (ye Z Z) (zf (zi _ Z (fun h => ?_) (fun h=>(lt_f hk0 h).elim)))))
   refine zp (zf (yd (zc hN Z (za (wq Zy (fun _=>Z) Z Z hx) (za (wo Zt Z (qg hx) Z) (zd (qf 3 Wu Z) Z (zd (yz Zt Z Z Z Z) Z (zf ?_))))))))
   unfold z3b at H
   refine gE H fun hpl H=>bE H fun O2 hO2 H=>zq hN Z (za (zj z0f Z) (ze (zl z0b Z Z) Z (za (yu z1k Z) (qd Z (yd (z59 (fun (k2:Nat) (O:List (Bs×zm)) (hd:(Nat→Hdr))=>[(2,.dat (vlst (List.map yi v3))),(3,.dat (vlst (List.map wn v4))),(4,.dat (vint v5)),(5,.ptr 1 0),(11,.mp 2),(23,.dat (vlst (List.map yk v2))),(24,.dat (vint (v2.length:Int))),(25,.dat (vint (k:Int))),(13,.ptr 3 0),(30,.dat (vlst (List.map yt v1.Products))),(31,.dat (vint (v1.Products.length:Int))),(32,.dat (vint (k2:Int)))]) (fun (k2:Nat) (O:List (Bs×zm)) (hd:(Nat→Hdr))=>[(1,.box none 29 ((yy v1).map .dat)),(2,.opq none (qx MTbv (EV hd O))),(3,.box none 94 ((yk a).map .dat))]++RV hd O) O hd hO2 ⟨Z,Z,Z,Z,Z,Z,Z,Z,Z,Z,Z,Z,U⟩ (kq.2 ⟨⟨Z,Z,Z,U⟩,Yn fun j o h=>xw (lits:=[(1,.box none 29 ((yy v1).map .dat)),(2,.opq none (qx MTbv (EV hd O)))]) Z RVb h⟩) (fun _ _ _=>Zm Z RVb) ?_ ?_))))))
   ·rintro O4 hd2 hs2
    obtain rfl:O2=O4:=(Option.some.inj hs2).symm
    refine zc hN Z (za (ye Z Z) (zf (zi _ Z (fun h=>(lt_t h).elim) (fun h => ?_))))
    exact qk (zq hN Z (za (wa Z Z (by omega)) (qd Z ⟨_,hd2,qj H,⟨Z,Z,Z,Z,Z,Z,Z,Z,U⟩,kq.2 ⟨⟨Z,Z,U⟩,fun p hp=>xu Z RVb hp⟩⟩)))
   ·rintro k2 pr O hd q2 hk02 hx2 H2 hq02
    replace H2:z3a v1 v3 v4 v5 a pr O=some q2:=H2
    unfold z3a at H2
    refine Qf [4] RVb Z (zc hN Z (za (ye Z Z) (zf (zi _ Z (fun h => ?_) (fun h=>(lt_f hk02 h).elim)))))
    refine zp (zf (yd (zc hN Z (za (wq z1q (fun _=>Z) Z Z hx2) (za (wo Qm Z (qg hx2) Z) (zd (qf 4 Qi Z) Z (zd (yz Qm Z Z Z Z) Z (zc hN Z (ze (yg ql Z Z Z) Z (qd Z (qd Z (za (zj Zv Z) (ze (zl tyS9 Z Z) Z (za (zj Qo Z) (ze (zl tyS9 Z Z) Z (qd Z ?_))))))))))))))))
    obtain ⟨ls,hls,H2⟩:=bnd H2
    obtain ⟨hll,H2⟩:=gif H2
    obtain ⟨O3,hO3,H2⟩:=bnd H2
    refine za (yb (w3c _ _ _ _ _ _ ls hls) ⟨.inl Z,.inl Z,.inl Z,.inl Z,.inl Z,.inl Z,U⟩) (za (yu z1j Z) (qd Z (yd (z59 (fun (k3:Nat) (O:List (Bs×zm)) (hd:(Nat→Hdr))=>[(2,.dat (vlst (List.map yi v3))),(3,.dat (vlst (List.map wn v4))),(4,.dat (vint v5)),(5,.ptr 1 0),(11,.mp 2),(23,.dat (vlst (List.map yk v2))),(24,.dat (vint (v2.length:Int))),(25,.dat (vint (k:Int))),(13,.ptr 3 0),(30,.dat (vlst (List.map yt v1.Products))),(31,.dat (vint (v1.Products.length:Int))),(32,.dat (vint (k2:Int))),(44,.dat (vlst (List.map wh ls))),(45,.dat (vint (ls.length:Int))),(46,.dat (vint (k3:Int)))]) (fun (k3:Nat) (O:List (Bs×zm)) (hd:(Nat→Hdr))=>[(1,.box none 29 ((yy v1).map .dat)),(2,.opq none (qx MTbv (EV hd O))),(3,.box none 94 ((yk a).map .dat))]++RV hd O) O hd hO3 ⟨Z,Z,Z,Z,Z,Z,Z,Z,Z,Z,Z,Z,Z,Z,Z,U⟩ (kq.2 ⟨⟨Z,Z,Z,U⟩,Yn fun j o h=>xw (lits:=[(1,.box none 29 ((yy v1).map .dat)),(2,.opq none (qx MTbv (EV hd O))),(3,.box none 94 ((yk a).map .dat))]) Z RVb h⟩) (fun _ _ _=>Zm Z RVb) ?_ ?_))))
    ·rintro O4 hd3 hs3
     obtain rfl:O3=O4:=(Option.some.inj hs3).symm
     refine zc hN Z (za (ye Z Z) (zf (zi _ Z (fun h=>(lt_t h).elim) (fun h => ?_))))
     exact qk (zq hN Z (za (wa Z Z (by omega)) (qd Z ⟨_,hd3,qj H2,⟨Z,Z,Z,Z,Z,Z,Z,Z,Z,Z,Z,Z,U⟩,kq.2 ⟨⟨Z,Z,Z,U⟩,fun p hp=>xu Z RVb hp⟩⟩)))
    ·rintro k3 x O hd q3 hk03 hx3 H3 hq03
     replace H3:z56 a.Owner v5 x O=some q3:=H3
     unfold z56 at H3
     refine Qf [5,6,51,52,53] RVb Z (zc hN Z (za (ye Z Z) (zf (zi _ Z (fun h => ?_) (fun h=>(lt_f hk03 h).elim)))))
     refine zp (zf (yd (zc hN Z (za (wq y0s (fun _=>Z) Z Z hx3) (za (wo Wz Z (qg hx3) Z) (zd (qf 5 z3m Z) Z (zd (yz Wz Z Z Z Z) Z (zf ?_))))))))
     obtain ⟨⟨hko,hl1⟩,H3⟩:=gif H3
     rcases x2z O hd a.Owner with ⟨e1,e2,e3,e4⟩ | ⟨i,b,g1,e2,e3,e4,e5⟩
     ·rw [e1] at H3 hl1
      replace hl1:([]:List yx).length+1≤1000000000:=hl1
      refine y9e 51 90 5 rfl rfl (zq hN rfl (za (zg (.mp _) rfl) (za (zj Qn rfl) (ze (zl tyS9 rfl rfl) rfl (ze (yf (u':=MTbv.eV ((⟨[],0,[],0⟩:zm),(none,0,0))) (z0k a.Owner z0c rfl rfl hko) (by rw [e2]; rfl)) rfl ?_)))))
      refine zd (qf 6 Ww rfl) rfl (zd (yz jh rfl rfl rfl rfl) rfl (zf (z9z 6 2 51 52 rfl rfl rfl rfl (zq hN rfl (za (zj Qn rfl) (ze (zl tyS9 rfl rfl) rfl (qd rfl (za (zj z3r rfl) (zd (wv tyS9 rfl rfl rfl rfl) rfl (za (zj y0p rfl) (zd (wv tyS3 rfl rfl rfl rfl) rfl (zc hN rfl (za (zj z0e rfl) (ze (zl Zu rfl rfl) rfl (ze (yg Wz rfl rfl rfl) rfl (za (yf (u':=vlst (List.map wh [x])) (qa [_] xi ⟨rfl,.inr rfl,rfl,trivial⟩ rfl rfl) rfl) (zd (je xi (fun _=>rfl) rfl (by first | rw [List.length_map] | rfl) rfl ⟨by simp,hl1⟩ rfl) rfl ?_)))))))))))))))))
      refine za (zj z0e rfl) (Ye (Yc Zu rfl rfl (by first | rw [List.length_map] | rfl) rfl) rfl rfl ?_)
      refine zc hN rfl (za (zj xk rfl) (ze (zl tyS3 rfl rfl) rfl (za (zj y4y rfl) (ze (zl tyS3 rfl rfl) rfl (za (yj _ rfl rfl (.inl ⟨rfl,rfl⟩)) (za (zj xk rfl) (zd (wv tyS3 rfl rfl rfl rfl) rfl (z92 6 2 52 53 rfl rfl rfl (by first | rw [List.length_map] | rfl) rfl fun hv => ?_))))))))
      refine x5g 53 Z fun h2 hh => ?_
      subst hh
      refine zq hN rfl (za (zg (.mp _) rfl) (za (zj Qn rfl) (ze (zl tyS9 rfl rfl) rfl (ze (yg jh rfl rfl rfl) rfl (zd (z6x a.Owner (⟨a.Owner,v5,(⟨[],0,[],0⟩:zm).Lines++[x],wr ((⟨[],0,[],0⟩:zm).Cents+x.Cents)⟩,h2) z0c rfl rfl rfl hko) rfl (y4h 53 (4 * O.length+0+1000) [(2,.dat (vlst (List.map yi v3))),(3,.dat (vlst (List.map wn v4))),(4,.dat (vint v5)),(5,.ptr 1 0),(11,.mp 2),(23,.dat (vlst (List.map yk v2))),(24,.dat (vint (v2.length:Int))),(25,.dat (vint (k:Int))),(13,.ptr 3 0),(30,.dat (vlst (List.map yt v1.Products))),(31,.dat (vint (v1.Products.length:Int))),(32,.dat (vint (k2:Int))),(44,.dat (vlst (List.map wh ls))),(45,.dat (vint (ls.length:Int))),(46,.dat (vint (k3:Int)))] (o:=rwB (hV h2) ((⟨[],0,[],0⟩:zm).Lines++[x])) (l:=[(1,.box none 29 ((yy v1).map .dat)),(2,.opq none (qx MTbv (EV (fxH hd O.length h2) (O++[(a.Owner,⟨a.Owner,v5,(⟨[],0,[],0⟩:zm).Lines++[x],wr ((⟨[],0,[],0⟩:zm).Cents+x.Cents)⟩)])))),(3,.box none 94 ((yk a).map .dat))]) (R:=RV (fxH hd O.length h2) (O++[(a.Owner,⟨a.Owner,v5,(⟨[],0,[],0⟩:zm).Lines++[x],wr ((⟨[],0,[],0⟩:zm).Cents+x.Cents)⟩)])) (jp newR) RVb rfl rfl rfl rfl ⟨rfl,rfl,rfl,rfl,rfl,rfl,rfl,rfl,rfl,rfl,rfl,rfl,rfl,rfl,rfl,trivial⟩ ⟨rfl,by rw [← w7t,← e4]; rfl,rfl,trivial⟩ rfl (z05 fun j o hj h=>xw (lits:=[(1,.box none 29 ((yy v1).map .dat)),(2,.opq none (qx MTbv (EV hd O))),(3,.box none 94 ((yk a).map .dat))]) rfl RVb (oldR hj h)) ?_))))))
      refine zq hN Z (za (wa Z Z (by omega)) (qd Z ?_))
      rw [e3] at H3
      exact ⟨_,(fxH hd O.length h2),qj H3,⟨Z,Z,Z,Z,Z,Z,Z,Z,Z,Z,Z,Z,Z,Z,Z,U⟩,Ys Z RVb⟩
     ·rw [e2] at H3 hl1
      replace hl1:b.Lines.length+1≤1000000000:=hl1
      refine zq hN rfl (za (zg (.mp _) rfl) (za (zj Qn rfl) (ze (zl tyS9 rfl rfl) rfl (ze (yf (u':=MTbv.eV (b,hd i)) (z0k a.Owner z0c rfl rfl hko) (by rw [e3]; rfl)) rfl ?_))))
      refine zd (qf 6 Ww rfl) rfl (zd (yz jh rfl rfl rfl rfl) rfl (zf (z95 51 (4 * i+0+1000) [(2,.dat (vlst (List.map yi v3))),(3,.dat (vlst (List.map wn v4))),(4,.dat (vint v5)),(5,.ptr 1 0),(11,.mp 2),(23,.dat (vlst (List.map yk v2))),(24,.dat (vint (v2.length:Int))),(25,.dat (vint (k:Int))),(13,.ptr 3 0),(30,.dat (vlst (List.map yt v1.Products))),(31,.dat (vint (v1.Products.length:Int))),(32,.dat (vint (k2:Int))),(44,.dat (vlst (List.map wh ls))),(45,.dat (vint (ls.length:Int))),(46,.dat (vint (k3:Int))),(17,.ptr 5 0),(18,.ptr 6 0)] (l:=[(1,.box none 29 ((yy v1).map .dat)),(2,.opq none (qx MTbv (EV hd O))),(3,.box none 94 ((yk a).map .dat)),(5,.box none 90 ((wh x).map .dat)),(6,.box none 50 [.dat (vstr b.Owner),.dat (vint b.Month),.dat (vval (hV (hd i))),.dat (vint b.Cents)])]) (R:=RV hd O) (jp (z0q g1)) RVb rfl rfl ⟨rfl,rfl,rfl,rfl,rfl,rfl,rfl,rfl,rfl,rfl,rfl,rfl,rfl,rfl,rfl,rfl,rfl,trivial⟩ ⟨rfl,rfl,rfl,rfl,rfl,trivial⟩ (Yn fun j o h=>xw (lits:=[(1,.box none 29 ((yy v1).map .dat)),(2,.opq none (qx MTbv (EV hd O))),(3,.box none 94 ((yk a).map .dat))]) rfl RVb h) (Qf [52,53] (RVb.filter _) rfl (z9z 6 2 51 52 rfl rfl rfl rfl (zq hN rfl (za (zj Qn rfl) (ze (zl tyS9 rfl rfl) rfl (qd rfl (za (zj z3r rfl) (zd (wv tyS9 rfl rfl rfl rfl) rfl (za (zj y0p rfl) (zd (wv tyS3 rfl rfl rfl rfl) rfl (zc hN rfl (za (zj z0e rfl) (ze (zl Zu rfl rfl) rfl (ze (yg Wz rfl rfl rfl) rfl (za (yf (u':=vlst (List.map wh [x])) (qa [_] xi ⟨rfl,.inr rfl,rfl,trivial⟩ rfl rfl) rfl) (zd (je xi (fun _=>rfl) rfl (by first | rw [List.length_map] | rfl) rfl ⟨by simp,hl1⟩ rfl) rfl ?_)))))))))))))))))))
      refine za (zj z0e rfl) (Ye (Yc Zu rfl rfl (by first | rw [List.length_map] | rfl) rfl) rfl rfl ?_)
      refine zc hN rfl (za (zj xk rfl) (ze (zl tyS3 rfl rfl) rfl (za (zj y4y rfl) (ze (zl tyS3 rfl rfl) rfl (za (yj _ rfl rfl (.inl ⟨rfl,rfl⟩)) (za (zj xk rfl) (zd (wv tyS3 rfl rfl rfl rfl) rfl (z92 6 2 52 53 rfl rfl rfl (by first | rw [List.length_map] | rfl) rfl fun hv => ?_))))))))
      refine x5g 53 Z fun h2 hh => ?_
      subst hh
      refine zq hN rfl (za (zg (.mp _) rfl) (za (zj Qn rfl) (ze (zl tyS9 rfl rfl) rfl (ze (yg jh rfl rfl rfl) rfl (zd (z6x a.Owner (⟨a.Owner,v5,b.Lines++[x],wr (b.Cents+x.Cents)⟩,h2) z0c rfl rfl rfl hko) rfl (y4h 53 (4 * i+0+1000) [(2,.dat (vlst (List.map yi v3))),(3,.dat (vlst (List.map wn v4))),(4,.dat (vint v5)),(5,.ptr 1 0),(11,.mp 2),(23,.dat (vlst (List.map yk v2))),(24,.dat (vint (v2.length:Int))),(25,.dat (vint (k:Int))),(13,.ptr 3 0),(30,.dat (vlst (List.map yt v1.Products))),(31,.dat (vint (v1.Products.length:Int))),(32,.dat (vint (k2:Int))),(44,.dat (vlst (List.map wh ls))),(45,.dat (vint (ls.length:Int))),(46,.dat (vint (k3:Int)))] (o:=rwB (hV h2) (b.Lines++[x])) (l:=[(1,.box none 29 ((yy v1).map .dat)),(2,.opq none (qx MTbv (EV (fxH hd i h2) (O.set i (a.Owner,⟨a.Owner,v5,b.Lines++[x],wr (b.Cents+x.Cents)⟩))))),(3,.box none 94 ((yk a).map .dat))]) (R:=RV (fxH hd i h2) (O.set i (a.Owner,⟨a.Owner,v5,b.Lines++[x],wr (b.Cents+x.Cents)⟩))) (jp (x84 g1)) RVb rfl rfl rfl rfl ⟨rfl,rfl,rfl,rfl,rfl,rfl,rfl,rfl,rfl,rfl,rfl,rfl,rfl,rfl,rfl,trivial⟩ ⟨rfl,by rw [← w7u g1,← e5]; rfl,rfl,trivial⟩ rfl (z05 fun j o hj h=>z5z (c:=0) (lits:=[(51,rwB (hV (hd i)) b.Lines),(1,.box none 29 ((yy v1).map .dat)),(2,.opq none (qx MTbv (EV hd O))),(3,.box none 94 ((yk a).map .dat)),(5,.box none 90 ((wh x).map .dat)),(6,.box none 50 [.dat (vstr b.Owner),.dat (vint b.Month),.dat (vval (hV (hd i))),.dat (vint b.Cents)])]) rfl RVb (setR hj h) hj) ?_))))))
      refine zq hN Z (za (wa Z Z (by omega)) (qd Z ?_))
      rw [e4] at H3
      exact ⟨_,(fxH hd i h2),qj H3,⟨Z,Z,Z,Z,Z,Z,Z,Z,Z,Z,Z,Z,Z,Z,Z,U⟩,Ys Z RVb⟩
 ·rintro ⟨O,hd⟩ H
  unfold z09 at H
  simp only at H
  refine gE H fun hOl H=>y4i 11 2 y19 rfl rfl (x5i 11 rfl fun mb es cl hE=>(y9f 11 (vBil mb es cl hd O) (l:=[]) (R:=RV hd O) [] RVb rfl rfl trivial trivial (Yn fun j o h=>xw (lits:=[(2,.opq none (qx MTbv (EV hd O)))]) rfl RVb h) (by rw [hN]; rfl) (fun g w M M' v he hR hv=>w5e rfl g w M M' v he hR hv) ?_))
  refine zc hN Z (qe Z (zf (zc hN Z (qd Z (zd (x7z 5 z0c hE Z x55) Z (yd (Qg 19 4 50 4 Z Z Z (z3e (ι:=List (Bs×(zm×Hdr))×List zm) (fun i=>[(11,.dat (vBil mb es cl hd O)),(19,.row 4 i.2.length),(79,.dr 5 (vIt mb es cl))]) (fun i=>[(5,.opq none (itO MTbv mb es cl i.1 none)),(4,.row 50 4 (List.map wg i.2))]) (fun i=>(∀ x,x∈i.1→x∈EV hd O)∧(i.2++i.1.map (·.2.1)).Perm (List.map (fun x:Bs×zm=>x.2) O)) (fun i=>i.1.length) (EV hd O,[]) ⟨fun _ h=>h,by simpa using w7v⟩ ⟨Z,Z,Z,U⟩ ⟨Z,Z,U⟩ (fun i=>Z) ?_))))))))
  ·rintro ⟨q,out⟩ ⟨hI1,hI2⟩
   refine zf (z6a hN Z Z (z6b z0c hE Z Z) ?_)
   rintro ⟨_ | ⟨j,p⟩,hj⟩
   ·obtain rfl:q=[]:=hj
    obtain ⟨r0,hsr,H⟩:=bnd (y9o H out (by simpa using hI2))
    refine gE H fun hsl H=>?_
    cases H
    refine za (qm Z Z) (zf (zi _ Z (fun h=>(tf_f h).elim) (fun h => ?_)))
    refine qk (zc hN Z (za (zg (.row _ _) Z) (ue (rn [(0,4)]) [(0,_,_,some _)] [] (w1q out z2i 43 [] (fun a0 a1 r h=>w3q a0 a1 r h) r hsr) ⟨Z,U⟩ ⟨.inl (.inl Z),.inr ⟨_,Z,Z⟩,U⟩ ⟨⟨⟨Z,Z,Z⟩,by simp [uc,hsl]⟩,U⟩ Z ?_)))
    exact zc hN Z (za (zg (.row _ _) Z) (za (qy (.row _ _) Z) (zn ⟨U,xn Z hsl.symm,U⟩)))
   ·obtain ⟨i,bk,bx,hbp,g0⟩:=w6y hI1 (show q[j]?=some p from hj)
    have hlo:=w6w hI2 (show q[j]?=some p from hj) hOl
    subst hbp
    refine za (qm Z Z) (zf (zi _ Z (fun h => ?_) (fun h=>(tf_t h).elim)))
    refine zp (yd (zc hN Z (ze (y01 z0c hE Z) Z (za (qm Z Z) (zd (qf 6 Ww Z) Z (zd (yz jh Z Z Z Z) Z (x5d 5 y27 Z (w61 6 2 11 (.dat (vlst (List.map wh bx.Lines))) Z Z (fun g w M v v0 h h0=>w6u g0 h h0) (zq hN Z (za (zg (.row _ _) Z) (ze (yg jh Z Z Z) Z (za (yf (u':=vlst (List.map wg [bx])) (qa [_] y0m ⟨Z,.inr Z,Z,U⟩ Z Z) Z) (zd (je y0m (fun _=>Z) Z Z Z ⟨by simp,by simpa using hlo⟩ Z) Z ?_)))))))))))))
    exact za (qy (.row _ _) Z) ⟨(q.eraseIdx j,out++[bx]),⟨fun x hx=>hI1 x (List.mem_of_mem_eraseIdx hx),w6v hI2 hj⟩,z9t (show q[j]?=some _ from hj),⟨Z,Z,Z,U⟩,⟨Z,Z,U⟩⟩
end Go.Proofs.YtnnfdgngnoamoaaGreatDoor
