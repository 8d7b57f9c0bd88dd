/- Bills: the walk of accounts. -/
import Derived.Test.YtnnfdgngnoamoaaGreatDoorXbk
namespace Go.Proofs.YtnnfdgngnoamoaaGreatDoor
open Go.RowKit Go.ChangeMaps Go.MapKept
set_option linter.unusedVariables false
set_option maxRecDepth 100000
set_option maxHeartbeats 2000000
abbrev OBa (f:Nat→Nat) (E:List (zu×qp)):List AObj:=OPb 162 vz f E
theorem w7k (z:zw) (b:Nat) (f:Nat→Nat) (E:List (zu×qp)) (k:zu):(OBa (fx f E.length b) (E++[(k,⟨⟨0,[],0,0⟩,z⟩)]))[E.length]?=some (.box (some b) 162 ((vz ⟨⟨0,[],0,0⟩,z⟩).map .dat)):=by
 rw [y0b (p:=(k,⟨⟨0,[],0,0⟩,z⟩)) (by rw [List.getElem?_append_right (Nat.le_refl _)]; simp)]
 simp [fx]
theorem w7j {z:qp} {b:Nat} {f:Nat→Nat} {E:List (zu×qp)} {k:zu} {j:Nat} {o:AObj} (hj:j≠E.length) (h:(OBa (fx f E.length b) (E++[(k,z)]))[j]?=some o):(OBa f E)[j]?=some o:=by
 rw [y4o] at h ⊢
 rcases Nat.lt_or_ge j E.length with hl | hl
 ·rw [List.getElem?_append_left hl] at h
  unfold fx at h
  rw [if_neg hj] at h
  exact h
 ·rw [List.getElem?_append_right hl] at h
  have:[((k,z):zu×qp)][j - E.length]?=none:=by rw [List.getElem?_eq_none_iff]; simp; omega
  rw [this] at h; cases h
theorem z99 {f:Nat→Nat} {E:List (zu×qp)} {i j:Nat} {k:zu} {v:qp} {o:AObj} (hj:j≠i) (h:(OBa f (E.set i (k,v)))[j]?=some o):(OBa f E)[j]?=some o:=by
 rw [y4o] at h ⊢
 rw [List.getElem?_set,if_neg (Ne.symm hj)] at h
 exact h
theorem z98 {f:Nat→Nat} {E:List (zu×qp)} {i:Nat} {k:zu} {a v:qp} (h:E[i]?=some (k,a)):(OBa f (E.set i (k,v)))[i]?=some (.box (some (f i)) 162 ((vz v).map .dat)):=by
 have:i < E.length:=(List.getElem?_eq_some_iff.1 h).1
 rw [y0b (p:=(k,v)) (by rw [List.getElem?_set]; simp [this])]
theorem x6f {a:qp} (h:((decide (a.last_.State=2)) || (decide (a.last_.State=3)))=true):vf a=⟨a.last_,a.last_⟩:=if_pos h
theorem x6g {a:qp} (h:((decide (a.last_.State=2)) || (decide (a.last_.State=3)))=false):vf a=a:=if_neg (by rw [h]; simp)
theorem x6e (a:qp):vf (vf a)=vf a:=by
 unfold vf
 by_cases h:((decide (a.last_.State=2)) || (decide (a.last_.State=3)))=true
 ·rw [if_pos h,if_pos h]
 ·rw [if_neg h,if_neg h]
def AccI (E:List (zu×qp)) (f:Nat→Nat) (q:List (zu×Option Nat)) (E':List (zu×qp)):Prop:=
 E'.length=E.length∧(∀ x,x∈q→x∈EPb f E)∧∀ i p,E[i]?=some p→E'[i]?=some (p.1,vf p.2)∨(E'[i]?=some p∧(p.1,some (f i))∈q)
theorem w7p (E:List (zu×qp)) (f:Nat→Nat):AccI E f (EPb f E) E:=⟨rfl,fun _ h=>h,fun i p hp => .inr ⟨hp,List.mem_of_getElem? (by rw [Yo,hp]; rfl)⟩⟩
theorem w7n {E E':List (zu×qp)} {f:Nat→Nat} (h:AccI E f [] E'):E'=E.map fun p=>(p.1,vf p.2):=by
 refine List.ext_getElem? fun i => ?_
 rw [List.getElem?_map]
 cases hp:E[i]? with
 | none =>
  rw [List.getElem?_eq_none_iff] at hp
  show E'[i]?=none
  rw [List.getElem?_eq_none_iff]; have:=h.1; omega
 | some p =>
  rcases h.2.2 i p hp with h1 | ⟨_,h1⟩
  ·exact h1
  ·cases h1
theorem w7o {E E':List (zu×qp)} {f:Nat→Nat} {q:List (zu×Option Nat)} (h:AccI E f q E') {j:Nat} {x:zu×Option Nat} (hx:q[j]?=some x):∃ i k a a0,x=(k,some (f i))∧E'[i]?=some (k,a)∧E[i]?=some (k,a0)∧vf a=vf a0:=by
 have h1:=h.2.1 x (List.mem_of_getElem? hx)
 obtain ⟨i,hi⟩:=List.getElem?_of_mem h1
 rw [Yo] at hi
 obtain ⟨p,hp,rfl⟩:=Option.map_eq_some_iff.1 hi
 rcases h.2.2 i p hp with h2 | ⟨h2,_⟩
 ·exact ⟨i,p.1,_,p.2,Z,h2,hp,x6e _⟩
 ·exact ⟨i,p.1,p.2,p.2,Z,h2,hp,Z⟩
theorem x5x {E E':List (zu×qp)} {f:Nat→Nat} {q:List (zu×Option Nat)} (hd:(EPb f E).Pairwise fun p q=>p.1≠q.1) (h:AccI E f q E') {j i:Nat} {k:zu} {a a0:qp} (hx:q[j]?=some (k,some (f i))) (hi:E'[i]?=some (k,a)) (h0:E[i]?=some (k,a0)) (hu:vf a=vf a0) :
  AccI E f (q.eraseIdx j) (E'.set i (k,vf a)):=by
 refine ⟨by rw [List.length_set]; exact h.1,fun x hm=>h.2.1 x (List.mem_of_mem_eraseIdx hm),fun m p hp => ?_⟩
 rw [List.getElem?_set]
 by_cases hm:i=m
 ·subst hm
  rw [h0] at hp
  cases hp
  have:i < E'.length:=(List.getElem?_eq_some_iff.1 hi).1
  rw [if_pos Z,if_pos this]
  exact .inl (by rw [hu])
 ·rw [if_neg hm]
  rcases h.2.2 m p hp with h1 | ⟨h1,h2⟩
  ·exact .inl h1
  ·refine .inr ⟨h1,?_⟩
   obtain ⟨m',hm'⟩:=List.getElem?_of_mem h2
   refine List.mem_eraseIdx_iff_getElem?.2 ⟨m',fun e => ?_,hm'⟩
   rw [e,hx] at hm'
   have hk:k=p.1:=(Prod.mk.inj (Option.some.inj hm')).1
   have e1:(EPb f E)[i]?=some (k,some (f i)):=by rw [Yo,h0]; rfl
   have e2:(EPb f E)[m]?=some (p.1,some (f m)):=by rw [Yo,hp]; rfl
   have l1:=(List.getElem?_eq_some_iff.1 e1)
   have l2:=(List.getElem?_eq_some_iff.1 e2)
   obtain ⟨b1,c1⟩:=l1
   obtain ⟨b2,c2⟩:=l2
   have hpw:=List.pairwise_iff_getElem.1 hd
   rcases Nat.lt_or_ge i m with hl | hl
   ·have:=hpw i m b1 b2 hl
    rw [c1,c2] at this
    exact this hk
   ·have:=hpw m i b2 b1 (by omega)
    rw [c1,c2] at this
    exact this hk.symm
theorem w2w (v1:zx) (v2:List zk) (v3:Int) (r:List (zu×qp)) (H:z79 v1 v2 v3=some r):Fn Tryz.prog 61 [vagg (yy v1),vlst (List.map yi v2),vint v3] (yc [vmpA wm 8 vz r]):=by
 refine ⟨by kernel_rfl,yl (us:=[vmpA wm 8 vz r]) Tryz.func61 Z Z Z Z fun X hN => ?_⟩
 unfold z79 at H
 refine gE H fun hlen H=>zc hN Z (zd (qr 1 Z) Z (qe Z (zc hN Z (qd Z (za (yj _ Z Z (.inr (.inr ⟨Z,Z⟩))) (qd Z (za (yj _ Z Z (.inl ⟨Z,Z⟩)) (za (yj _ Z Z (.inr (.inr ⟨Z,Z⟩))) (qe Z (qe Z (zc hN Z (zd (y0y 2 uk) Z (za (qy (.mp _) Z) (yw (ι:=List (zu×qp)×(Nat→Nat)) (fun i=>[(9,.mp 2)]) (fun i=>[(2,.opq none (qx wm (EPb i.2 i.1)))]++fam 0 0 (OBa i.2 i.1)) (fun i=>z6c i.1=some r) (fun i=>Zm Z vo) ?_ ?_))))))))))))))
 ·skip
  refine zc hN Z (qd Z (za (yu Zc Z) (qd Z (yd (z59 (fun (k:Nat) (E:List (zu×qp)) (f:Nat→Nat)=>[(3,.ptr 1 0),(7,.dat (vint (wr (v3 * 2592000000)))),(8,.dat (vint (wr ((wr (v3+1)) * 2592000000)))),(9,.mp 2),(22,.dat (vlst (List.map yi v2))),(23,.dat (vint (v2.length:Int))),(24,.dat (vint (k:Int)))]) (fun (k:Nat) (E:List (zu×qp)) (f:Nat→Nat)=>[(1,.box none 29 ((yy v1).map .dat)),(2,.opq none (qx wm (EPb f E)))]++fam 0 0 (OBa f E)) [] (fun _=>0) H ⟨Z,Z,Z,Z,Z,Z,Z,U⟩ (kq.2 ⟨⟨Z,Z,U⟩,fun p hp=>by cases hp⟩) (fun _ _ _=>Zm Z vo) ?_ ?_)))))
  ·rintro E f H
   refine zc hN Z (za (ye Z Z) (zf (zi _ Z (fun h=>(lt_t h).elim) (fun h => ?_))))
   exact qk ⟨(E,f),H,⟨Z,U⟩,kq.2 ⟨⟨Z,U⟩,Yn fun j o h=>xw (lits:=[(1,.box none 29 ((yy v1).map .dat)),(2,.opq none (qx wm (EPb f E)))]) Z vo h⟩⟩
  ·rintro k x E f q hk0 hx H hq0
   replace H:z1f v1 (wr (v3 * 2592000000)) (wr ((wr (v3+1)) * 2592000000)) x E=some q:=H
   unfold z1f at H
   refine xz (Qf [3,4,51] vo Z (zc hN Z (za (ye Z Z) (zf (zi _ Z (fun h => ?_) (fun h=>(lt_f hk0 h).elim))))))
   refine zp (zf (yd (zc hN Z (za (wq jm (fun _=>Z) Z Z hx) (za (wo vk Z (qg hx) Z) (zd (qf 3 Wx Z) Z (zd (yz vk Z Z Z Z) Z (zf (zc hN Z (za (zj jw Z) (ze (zl tyS3 Z Z) Z (qd Z (za (jn Z Z) (zi _ Z (fun h1 => ?_) (fun h1 => ?_)))))))))))))))
   ·refine tE h1 H fun H=>qk (bE H fun r0 h0 H=>?_)
    obtain rfl:r0=r:=hq0 r0 (Option.some.inj H).symm
    exact xx ⟨(E,f),h0,⟨Z,U⟩,kq.2 ⟨⟨Z,U⟩,Yn fun j o h=>xw (lits:=[(1,.box none 29 ((yy v1).map .dat)),(2,.opq none (qx wm (EPb f E)))]) Z vo h⟩⟩
   ·refine fE h1 H fun H=>zp (zf (gE H fun hk H=>zq hN Z (za (zj Zf Z) (ze (zl tyS9 Z Z) Z (za (zj uz Z) (ze (zl tyS9 Z Z) Z (za (yf (u':=vagg (we (zu.mk x.App x.Product))) (vj [(0,[vstr x.App]),(1,[vstr x.Product])] z6i x6z Z ⟨Z,.inl ⟨_,Z,Z,Z⟩,Z,Z,.inl ⟨_,Z,Z,Z⟩,Z,U⟩) Z) (zd (qf 4 z6i Z) Z (zd (yz jv Z Z Z Z) Z (yw (ι:=List (zu×qp)×(Nat→Nat)) (fun i=>[(3,.ptr 1 0),(7,.dat (vint (wr (v3 * 2592000000)))),(8,.dat (vint (wr ((wr (v3+1)) * 2592000000)))),(9,.mp 2),(22,.dat (vlst (List.map yi v2))),(23,.dat (vint (v2.length:Int))),(24,.dat (vint (k:Int))),(11,.ptr 3 0),(12,.ptr 4 0)]) (fun i=>[(1,.box none 29 ((yy v1).map .dat)),(2,.opq none (qx wm (EPb i.2 i.1))),(3,.box none 102 ((yi x).map .dat)),(4,.box none 120 ((we (zu.mk x.App x.Product)).map .dat))]++fam 0 0 (OBa i.2 i.1)) (fun i=>z1g v1 (wr (v3 * 2592000000)) x i.1=some q) (fun i=>Zm Z vo) ?_ ?_))))))))))
    ·refine xz (zf ?_)
     rcases z41 E f (zu.mk x.App x.Product) with ⟨e1,e2,e3,e4⟩ | ⟨i0,a0,e1,e2,e3,e4⟩
     ·rw [e1] at H
      replace H:=ift (b:=(none:Option qp).isNone) Z H
      refine bE H fun z hz H=>zq hN rfl (za (zg (.mp _) rfl) (ze (yg jv rfl rfl rfl) rfl (ze (z0k (zu.mk x.App x.Product) uk rfl rfl hk) rfl (za (yf (u':=zr true) (y0x x0b rfl) (by rw [e2]; rfl)) ?_))))
      refine zi true Z (fun h => ?_) (fun h=>(by cases h))
      refine w67 (0:Nat) (os1:=[_,_,_,_]) (os2:=[_]) (m:=4) mixed hN rfl rfl rfl rfl rfl rfl (za (zg (.mp _) rfl) (ze (yg jv rfl rfl rfl) rfl (za (yb (w2n z hz) trivial) (za (yf (u':=vagg (vz ⟨⟨0,[],0,0⟩,z⟩)) (vj [(4,[vint z.State,vstr z.Plan,vint z.Since,vint z.First])] x6n x6y rfl ⟨rfl,.inr rfl,rfl,trivial⟩) rfl) ⟨_,_,_,x07 (qr 51 rfl),fun q hq=>(by rw [List.mem_singleton.1 hq]; rfl),fun b k hk=>hk,fun b => ?_⟩))))
      refine zd (z6x (zu.mk x.App x.Product) (some b) uk Z Z Z hk) Z ⟨Z,?_⟩
      refine z08 51 (4 * E.length+0+1000) [(3,.ptr 1 0),(7,.dat (vint (wr (v3 * 2592000000)))),(8,.dat (vint (wr ((wr (v3+1)) * 2592000000)))),(9,.mp 2),(22,.dat (vlst (List.map yi v2))),(23,.dat (vint (v2.length:Int))),(24,.dat (vint (k:Int))),(11,.ptr 3 0),(12,.ptr 4 0)] (o := .box (some (b)) 162 ((vz ⟨⟨0,[],0,0⟩,z⟩).map .dat)) (l:=[(1,.box none 29 ((yy v1).map .dat)),(2,.opq none (qx wm (EPb (fx f E.length b) (E++[((zu.mk x.App x.Product),⟨⟨0,[],0,0⟩,z⟩)])))),(3,.box none 102 ((yi x).map .dat)),(4,.box none 120 ((we (zu.mk x.App x.Product)).map .dat))]) (R:=fam 0 0 (OBa (fx f E.length b) (E++[((zu.mk x.App x.Product),⟨⟨0,[],0,0⟩,z⟩)]))) (jp (w7k z b f E (zu.mk x.App x.Product))) vo rfl rfl rfl rfl ⟨rfl,rfl,rfl,rfl,rfl,rfl,rfl,rfl,rfl,trivial⟩ ⟨rfl,by rw [x50,← e4 (some b)]; rfl,rfl,rfl,trivial⟩ (rfl) (z05 fun j o hj h=>xw (lits:=[(1,.box none 29 ((yy v1).map .dat)),(2,.opq none (qx wm (EPb f E)))]) rfl vo (w7j hj h)) ?_
      exact ⟨((E++[((zu.mk x.App x.Product),⟨⟨0,[],0,0⟩,z⟩)]),(fx f E.length b)),H,z1u _ (uo Z),Ys Z vo⟩
     ·rw [e2] at H
      replace H:=iff_ (b:=(some a0:Option qp).isNone) Z H
      refine zq hN rfl (za (zg (.mp _) rfl) (ze (yg jv rfl rfl rfl) rfl (ze (z0k (zu.mk x.App x.Product) uk rfl rfl hk) rfl (za (yf (u':=zr false) (y0x x0b rfl) (by rw [e3]; rfl)) ?_))))
      refine zi false Z (fun h=>(by cases h)) (fun h => ?_)
      exact zp (xx ⟨(E,f),H,⟨Z,Z,Z,Z,Z,Z,Z,Z,Z,U⟩,kq.2 ⟨⟨Z,Z,Z,Z,U⟩,Yn fun j o h=>xw (lits:=[(1,.box none 29 ((yy v1).map .dat)),(2,.opq none (qx wm (EPb f E)))]) Z vo h⟩⟩)
    ·rintro ⟨E1,f1⟩ H
     unfold z1g at H
     simp only at H
     refine bE H fun a ha H=>bE H fun b hb H=>?_
     obtain ⟨i,g1,g3,g4⟩:∃ i,E1[i]?=some ((zu.mk x.App x.Product),a)∧lkG (EPb f1 E1) (zu.mk x.App x.Product)=some (some (f1 i))∧∀ v,ptG E1 (zu.mk x.App x.Product) v=E1.set i ((zu.mk x.App x.Product),v):=by
      rcases z41 E1 f1 (zu.mk x.App x.Product) with ⟨e1,_⟩ | ⟨i,a2,g1,g2,g3,g4⟩
      ·rw [e1] at ha; cases ha
      ·rw [g2] at ha; cases ha; exact ⟨i,g1,g3,g4⟩
     refine zc hN rfl (za (zg (.mp _) rfl) (ze (yg jv rfl rfl rfl) rfl (ze (yf (u':=vval (PB (f1 i))) (z0k (zu.mk x.App x.Product) uk rfl rfl hk) (by rw [g3]; rfl)) rfl ?_)))
     refine qe Z (zf (zf (z95 50 (4 * i+0+1000) [(3,.ptr 1 0),(7,.dat (vint (wr (v3 * 2592000000)))),(8,.dat (vint (wr ((wr (v3+1)) * 2592000000)))),(9,.mp 2),(22,.dat (vlst (List.map yi v2))),(23,.dat (vint (v2.length:Int))),(24,.dat (vint (k:Int))),(11,.ptr 3 0),(12,.ptr 4 0),(13,.dat (vval (PB (f1 i))))] (l:=[(1,.box none 29 ((yy v1).map .dat)),(2,.opq none (qx wm (EPb f1 E1))),(3,.box none 102 ((yi x).map .dat)),(4,.box none 120 ((we (zu.mk x.App x.Product)).map .dat))]) (R:=fam 0 0 (OBa f1 E1)) (jp (y0b g1)) vo Z Z ⟨Z,Z,Z,Z,Z,Z,Z,Z,Z,Z,U⟩ ⟨Z,Z,Z,Z,U⟩ (Yn fun j o h=>xw (lits:=[(1,.box none 29 ((yy v1).map .dat)),(2,.opq none (qx wm (EPb f1 E1))),(3,.box none 102 ((yi x).map .dat)),(4,.box none 120 ((we (zu.mk x.App x.Product)).map .dat))]) Z vo h) (y9c 13 50 (f1 i) (.ptr 50 0) Z (fun g w M v hb h=>y6d hb h) (y9g b (fun hbb => ?_) (fun hbb => ?_))))))
     ·subst hbb
      refine zq hN Z (za (zg (.ptr _ _) Z) (za (jc Z) (za (zj uy Z) (za (zj vq Z) (ze (zl tyS3 Z Z) Z (za (yb (z44 _ _ hb) ⟨.inl Z,U⟩) (qd Z (zo Z Z Z (zj jw Z) (wc Z Z Z (zl tyS3 Z Z) Z (zo Z Z Z (zg (.dat _) Z) (zo Z Z Z (wz Z Z) (za (qt Z Z Z) (zi _ Z (fun h2 => ?_) (fun h2 => ?_))))))))))))))
      ·refine tE h2 H fun H=>zq hN Z (za (zg (.ptr _ _) Z) (za (zg (.ptr _ _) Z) (za (jc Z) (za (zj uy Z) (ze (yg qh Z Z Z) Z (za (jc Z) (za (zj z6t Z) (zd (z6w qh Z Z Z Z) Z (wl mixed hN Z Z (za (zg (.ptr _ _) Z) (ze (yg ql Z Z Z) Z (za (zg (.ptr _ _) Z) (za (jc Z) (za (zj uy Z) (ze (yg qh Z Z Z) Z (ze (yg vk Z Z Z) Z ?_))))))))))))))))
       unfold z6d at H
       refine bE H fun r1 hr1 H=>za (yb (y7o _ _ _ r1 hr1) ⟨.inl Z,.inl Z,.inl Z,U⟩) (qd Z (za (qm Z Z) (za (qm Z Z) (za (jc Z) (za (zj uy Z) (zd (z6w qh Z Z Z Z) Z ⟨Z,?_⟩))))))
       refine zq hN Z (za (wa Z Z (by omega)) (qd Z ?_))
       rw [g4] at H
       refine z08 50 (4 * i+0+1000) [(3,.ptr 1 0),(7,.dat (vint (wr (v3 * 2592000000)))),(8,.dat (vint (wr ((wr (v3+1)) * 2592000000)))),(9,.mp 2),(22,.dat (vlst (List.map yi v2))),(23,.dat (vint (v2.length:Int))),(24,.dat (vint ((k+1:Nat):Int)))] (o := .box (some (f1 i)) 162 ((vz ⟨a.last_,r1.1⟩).map .dat)) (l:=[(1,.box none 29 ((yy v1).map .dat)),(2,.opq none (qx wm (EPb f1 (E1.set i ((zu.mk x.App x.Product),⟨a.last_,r1.1⟩)))))]) (R:=fam 0 0 (OBa f1 (E1.set i ((zu.mk x.App x.Product),⟨a.last_,r1.1⟩)))) (jp (z98 g1)) vo rfl rfl rfl rfl ⟨rfl,rfl,rfl,rfl,rfl,rfl,rfl,trivial⟩ ⟨rfl,by rw [y4p _ g1]; rfl,trivial⟩ (rfl) (z05 fun j o hj h=>z5z (c:=0) (lits:=[(50,.box (some (f1 i)) 162 ((vz a).map .dat)),(1,.box none 29 ((yy v1).map .dat)),(2,.opq none (qx wm (EPb f1 E1))),(3,.box none 102 ((yi x).map .dat)),(4,.box none 120 ((we (zu.mk x.App x.Product)).map .dat))]) rfl vo (z99 hj h) hj) ?_
       exact ⟨_,f1,qj H,z1u _ (uo Z),Ys Z vo⟩
      ·refine fE h2 H fun H=>zp (wl mixed hN Z Z (za (zg (.ptr _ _) Z) (ze (yg ql Z Z Z) Z (za (zg (.ptr _ _) Z) (za (jc Z) (za (zj uy Z) (ze (yg qh Z Z Z) Z (ze (yg vk Z Z Z) Z ?_))))))))
       unfold z6d at H
       refine bE H fun r1 hr1 H=>za (yb (y7o _ _ _ r1 hr1) ⟨.inl Z,.inl Z,.inl Z,U⟩) (qd Z (za (qm Z Z) (za (qm Z Z) (za (jc Z) (za (zj uy Z) (zd (z6w qh Z Z Z Z) Z ⟨Z,?_⟩))))))
       refine zq hN Z (za (wa Z Z (by omega)) (qd Z ?_))
       rw [g4] at H
       refine z08 50 (4 * i+0+1000) [(3,.ptr 1 0),(7,.dat (vint (wr (v3 * 2592000000)))),(8,.dat (vint (wr ((wr (v3+1)) * 2592000000)))),(9,.mp 2),(22,.dat (vlst (List.map yi v2))),(23,.dat (vint (v2.length:Int))),(24,.dat (vint ((k+1:Nat):Int)))] (o := .box (some (f1 i)) 162 ((vz ⟨a.on_,r1.1⟩).map .dat)) (l:=[(1,.box none 29 ((yy v1).map .dat)),(2,.opq none (qx wm (EPb f1 (E1.set i ((zu.mk x.App x.Product),⟨a.on_,r1.1⟩)))))]) (R:=fam 0 0 (OBa f1 (E1.set i ((zu.mk x.App x.Product),⟨a.on_,r1.1⟩)))) (jp (z98 g1)) vo rfl rfl rfl rfl ⟨rfl,rfl,rfl,rfl,rfl,rfl,rfl,trivial⟩ ⟨rfl,by rw [y4p _ g1]; rfl,trivial⟩ (rfl) (z05 fun j o hj h=>z5z (c:=0) (lits:=[(50,.box (some (f1 i)) 162 ((vz a).map .dat)),(1,.box none 29 ((yy v1).map .dat)),(2,.opq none (qx wm (EPb f1 E1))),(3,.box none 102 ((yi x).map .dat)),(4,.box none 120 ((we (zu.mk x.App x.Product)).map .dat))]) rfl vo (z99 hj h) hj) ?_
       exact ⟨_,f1,qj H,z1u _ (uo Z),Ys Z vo⟩
     ·subst hbb
      replace H:=iff_ (b:=false && decide ((wr (v3 * 2592000000)) < x.At)) Z H
      refine zq hN Z (za (zg (.ptr _ _) Z) (za (jc Z) (za (zj uy Z) (za (zj vq Z) (ze (zl tyS3 Z Z) Z (za (yb (z44 _ _ hb) ⟨.inl Z,U⟩) (qd Z (zh Z Z Z (zh Z Z Z (zh Z Z Z (zh Z Z Z (za (yq Z Z Z) (zi false Z (fun h=>(by cases h)) (fun h => ?_))))))))))))))
      refine zp (wl mixed hN Z Z (za (zg (.ptr _ _) Z) (ze (yg ql Z Z Z) Z (za (zg (.ptr _ _) Z) (za (jc Z) (za (zj uy Z) (ze (yg qh Z Z Z) Z (ze (yg vk Z Z Z) Z ?_))))))))
      unfold z6d at H
      refine bE H fun r1 hr1 H=>za (yb (y7o _ _ _ r1 hr1) ⟨.inl Z,.inl Z,.inl Z,U⟩) (qd Z (za (qm Z Z) (za (qm Z Z) (za (jc Z) (za (zj uy Z) (zd (z6w qh Z Z Z Z) Z ⟨Z,?_⟩))))))
      refine zq hN Z (za (wa Z Z (by omega)) (qd Z ?_))
      rw [g4] at H
      refine z08 50 (4 * i+0+1000) [(3,.ptr 1 0),(7,.dat (vint (wr (v3 * 2592000000)))),(8,.dat (vint (wr ((wr (v3+1)) * 2592000000)))),(9,.mp 2),(22,.dat (vlst (List.map yi v2))),(23,.dat (vint (v2.length:Int))),(24,.dat (vint ((k+1:Nat):Int)))] (o := .box (some (f1 i)) 162 ((vz ⟨a.on_,r1.1⟩).map .dat)) (l:=[(1,.box none 29 ((yy v1).map .dat)),(2,.opq none (qx wm (EPb f1 (E1.set i ((zu.mk x.App x.Product),⟨a.on_,r1.1⟩)))))]) (R:=fam 0 0 (OBa f1 (E1.set i ((zu.mk x.App x.Product),⟨a.on_,r1.1⟩)))) (jp (z98 g1)) vo rfl rfl rfl rfl ⟨rfl,rfl,rfl,rfl,rfl,rfl,rfl,trivial⟩ ⟨rfl,by rw [y4p _ g1]; rfl,trivial⟩ (rfl) (z05 fun j o hj h=>z5z (c:=0) (lits:=[(50,.box (some (f1 i)) 162 ((vz a).map .dat)),(1,.box none 29 ((yy v1).map .dat)),(2,.opq none (qx wm (EPb f1 E1))),(3,.box none 102 ((yi x).map .dat)),(4,.box none 120 ((we (zu.mk x.App x.Product)).map .dat))]) rfl vo (z99 hj h) hj) ?_
      exact ⟨_,f1,qj H,z1u _ (uo Z),Ys Z vo⟩
 ·rintro ⟨E,f⟩ H
  unfold z6c at H
  cases H
  refine Qf [5] vo Z (zf (zf (y4i 9 2 y19 Z Z (x5i 9 Z fun mb es cl hE=>(zq hN Z (qd Z (zd (y47 5 uk hE Z) Z (yd (z3e (ι:=List (zu×Option Nat)×List (zu×qp)) (fun i=>[(9,.dat (vmpX mb es cl)),(83,.dr 5 (vIt mb es cl))]) (fun i=>[(5,.opq none (itO wm mb es cl i.1 none))]++fam 0 0 (OBa f i.2)) (fun i=>AccI E f i.1 i.2) (fun i=>i.1.length) (EPb f E,E) (w7p E f) ⟨Z,Z,U⟩ (kq.2 ⟨⟨Z,U⟩,Yn fun j o h=>xw (lits:=[(2,.opq none (qx wm (EPb f E)))]) Z vo h⟩) (fun i=>Zm Z vo) ?_)))))))))
  ·rintro ⟨q,E1⟩ hI
   refine xz (zf (z6a hN Z Z (z6b uk hE Z Z) ?_))
   rintro ⟨_ | ⟨j,p⟩,hj⟩
   ·obtain rfl:q=[]:=hj
    obtain rfl:=w7n hI
    refine za (qm Z Z) (zf (zi _ Z (fun h=>(tf_f h).elim) (fun h => ?_)))
    refine qk (xx (zc hN rfl (qd rfl (qe rfl (y9f 6 (vmpA wm 8 vz (E.map fun p=>(p.1,vf p.2))) (l:=[]) (R:=fam 0 0 (OBa f (E.map fun p=>(p.1,vf p.2)))) [] vo rfl rfl trivial trivial (Yn fun j o h=>xw (lits:=[(5,.opq none (itO wm mb es cl [] none))]) rfl vo h) (by rw [hN]; rfl) (fun g w M M' v he hR hv=>w5d (size:=8) (C:=vz) (c:=0) (t:=162) rfl (by rw [w7w (fun p=>vf p.2)]; exact hE) (fun _=>rfl) g w M M' v he hR hv) ?_)))))
    exact zn ⟨U,.inl Z,U⟩
   ·obtain ⟨i,k,a,a0,hp,g1,g0,hu⟩:=w7o hI (show q[j]?=some p from hj)
    subst hp
    refine za (qm Z Z) (zf (zi _ Z (fun h => ?_) (fun h=>(tf_t h).elim)))
    refine zp (yd (zc hN Z (ze (y01 uk hE Z) Z (za (qm Z Z) (qe Z (zf (x5d 5 y27 Z (z95 50 (4 * i+0+1000) [(9,.dat (vmpX mb es cl)),(83,.dr 5 (vIt mb es cl)),(15,.dat (vval (PB (f i))))] (l:=[(5,.opq none (itO wm mb es cl (q.eraseIdx j) none))]) (R:=fam 0 0 (OBa f E1)) (jp (y0b g1)) vo Z Z ⟨Z,Z,Z,U⟩ ⟨Z,U⟩ (Yn fun j o h=>xw (lits:=[(5,.opq none (itO wm mb es cl q none))]) Z vo h) (y9c 15 50 (f i) (.ptr 50 0) Z (fun g w M v hb h=>y6d hb h) (y9g ((decide (a.last_.State=2)) || (decide (a.last_.State=3))) (fun hbb => ?_) (fun hbb => ?_)))))))))))
    ·skip
     refine zq hN Z (za (zg (.ptr _ _) Z) (za (jc Z) (za (zj uy Z) (za (zj vq Z) (ze (zl tyS3 Z Z) Z (za (yb (z44 _ true (congrArg some hbb)) ⟨.inl Z,U⟩) (zi true Z (fun h => ?_) (fun h=>(by cases h)))))))))
     refine zq hN rfl (za (zg (.ptr _ _) rfl) (za (zg (.ptr _ _) rfl) (za (jc rfl) (za (zj uy rfl) (ze (yg qh rfl rfl rfl) rfl (za (jc rfl) (za (zj z6t rfl) (zd (z6w qh rfl rfl rfl rfl) rfl (z08 50 (4 * i+0+1000) [(9,.dat (vmpX mb es cl)),(83,.dr 5 (vIt mb es cl))] (o := .box (some (f i)) 162 ((vz (vf a)).map .dat)) (l:=[(5,.opq none (itO wm mb es cl (q.eraseIdx j) none))]) (R:=fam 0 0 (OBa f (E1.set i (k,vf a)))) (jp (z98 g1)) vo rfl rfl rfl rfl ⟨rfl,rfl,trivial⟩ ⟨rfl,trivial⟩ (by rw [x6f hbb]; rfl) (z05 fun j o hj h=>z5z (c:=0) (lits:=[(50,.box (some (f i)) 162 ((vz a).map .dat)),(5,.opq none (itO wm mb es cl (q.eraseIdx j) none))]) rfl vo (z99 hj h) hj) ?_)))))))))
     exact ⟨(q.eraseIdx j,(E1.set i (k,vf a))),x5x (z9u hE) hI hj g1 g0 hu,z9t (show q[j]?=some _ from hj),z1u _ (uo Z),Ys Z vo⟩
    ·skip
     refine zq hN Z (za (zg (.ptr _ _) Z) (za (jc Z) (za (zj uy Z) (za (zj vq Z) (ze (zl tyS3 Z Z) Z (za (yb (z44 _ false (congrArg some hbb)) ⟨.inl Z,U⟩) (zi false Z (fun h=>(by cases h)) (fun h => ?_))))))))
     refine zp (z08 50 (4 * i+0+1000) [(9,.dat (vmpX mb es cl)),(83,.dr 5 (vIt mb es cl))] (o := .box (some (f i)) 162 ((vz (vf a)).map .dat)) (l:=[(5,.opq none (itO wm mb es cl (q.eraseIdx j) none))]) (R:=fam 0 0 (OBa f (E1.set i (k,vf a)))) (jp (z98 g1)) vo rfl rfl rfl rfl ⟨rfl,rfl,trivial⟩ ⟨rfl,trivial⟩ (by rw [x6g hbb]; rfl) (z05 fun j o hj h=>z5z (c:=0) (lits:=[(50,.box (some (f i)) 162 ((vz a).map .dat)),(5,.opq none (itO wm mb es cl (q.eraseIdx j) none))]) rfl vo (z99 hj h) hj) ?_)
     exact ⟨(q.eraseIdx j,(E1.set i (k,vf a))),x5x (z9u hE) hI hj g1 g0 hu,z9t (show q[j]?=some _ from hj),z1u _ (uo Z),Ys Z vo⟩
end Go.Proofs.YtnnfdgngnoamoaaGreatDoor
