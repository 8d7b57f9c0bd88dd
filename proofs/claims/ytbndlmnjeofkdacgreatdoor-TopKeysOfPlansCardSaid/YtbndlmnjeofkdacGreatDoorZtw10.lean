/- Walks along the models. Printed by a program. -/
import Derived.Test.YtbndlmnjeofkdacGreatDoorZtw9
namespace Go.Proofs.YtbndlmnjeofkdacGreatDoor
open Go.RowKit
set_option linter.unusedVariables false
set_option maxRecDepth 100000
set_option maxHeartbeats 2000000
theorem v0c (values1:(List Bs)) (r:((List Bs))) (H:Ws values1=some r):Fn Tryz.prog 161 [vlst (List.map zt values1)] (zr [vlst (List.map zt r)]):=by
 refine ⟨by kernel_rfl,zx (us:=[vlst (List.map zt r)]) Tryz.func161 rfl rfl rfl rfl fun X hN => ?_⟩
 unfold Ws at H
 refine zd ?_
 refine zk hN rfl ?_
 refine qe rfl ?_
 refine zd ?_
 refine zk hN rfl ?_
 refine qe rfl ?_
 refine zd ?_
 refine zd ?_
 refine zk hN rfl ?_
 refine qd rfl ?_
 refine za (yk qr rfl) ?_
 refine qd rfl ?_
 refine zu ?_
 refine uy 3 1 9 1 rfl rfl rfl ?_
 obtain ⟨h5,H⟩:=gif H
 refine qq (fun (k3:Nat) (s:(List Bs))=>[(3,.row 1 s.length),(8,.dat (vlst (List.map zt values1))),(9,.dat (vint (values1.length:Int))),(10,.dat (vint (k3:Int)))]) (fun (k3:Nat) (s:(List Bs))=>[(1,.row 9 1 (List.map zt s))]) [] H ⟨rfl,rfl,rfl,rfl,trivial⟩ ⟨rfl,trivial⟩ (fun _ _=>rfl) ?_ ?_
 ·rintro l2 H
  replace H:z34 l2=some r:=H
  unfold z34 at H
  refine zd ?_
  refine zk hN rfl ?_
  refine za (zw rfl rfl) ?_
  refine zd ?_
  refine zf _ rfl (fun h=>(lt_t h).elim) (fun h => ?_)
  refine yp ?_
  refine zd ?_
  refine zk hN rfl ?_
  refine za (zh (.row _ _) rfl) ?_
  refine za (wm (.row _ _) rfl) ?_
  refine zg ?_
  cases H
  exact ⟨trivial,Yx rfl rfl,trivial⟩
 ·rintro k3 x6 l2 q4 h7 h8 H hq4
  replace H:Qe k3 x6 l2=some q4:=H
  unfold Qe at H
  refine zd ?_
  refine zk hN rfl ?_
  refine za (zw rfl rfl) ?_
  refine zd ?_
  refine zf _ rfl (fun h => ?_) (fun h=>(lt_f h7 h).elim)
  refine zl ?_
  refine zd ?_
  refine zu ?_
  refine zd ?_
  refine zk hN rfl ?_
  refine za (qp wv (fun _=>rfl) rfl rfl h8) ?_
  refine za (yr tyS9 rfl (ym h8) rfl) ?_
  refine qe rfl ?_
  refine zd ?_
  refine zk hN rfl ?_
  refine qd rfl ?_
  obtain ⟨r9,h10,H⟩:=bnd H
  refine za (zo (Qm x6 [44] r9 h10) ⟨.inl rfl,.inl rfl,trivial⟩) ?_
  refine za (yk qr rfl) ?_
  refine qd rfl ?_
  refine zu ?_
  obtain ⟨h14,H⟩:=gif H
  refine qq (fun (k12:Nat) (s:(List Bs))=>[(3,.row 1 s.length),(8,.dat (vlst (List.map zt values1))),(9,.dat (vint (values1.length:Int))),(10,.dat (vint (k3:Int))),(15,.dat (vlst (List.map zt r9))),(16,.dat (vint (r9.length:Int))),(17,.dat (vint (k12:Int)))]) (fun (k12:Nat) (s:(List Bs))=>[(1,.row 9 1 (List.map zt s))]) l2 H ⟨rfl,rfl,rfl,rfl,rfl,rfl,rfl,trivial⟩ ⟨rfl,trivial⟩ (fun _ _=>rfl) ?_ ?_
  ·rintro l11 H
   replace H:z33 l11=some q4:=H
   unfold z33 at H
   refine zd ?_
   refine zk hN rfl ?_
   refine za (zw rfl rfl) ?_
   refine zd ?_
   refine zf _ rfl (fun h=>(lt_t h).elim) (fun h => ?_)
   refine yp ?_
   refine zk hN rfl ?_
   refine za (qi rfl rfl (by omega)) ?_
   refine qd rfl ?_
   exact ⟨_,yw H,⟨rfl,rfl,rfl,rfl,trivial⟩,⟨rfl,trivial⟩⟩
  ·rintro k12 x15 l11 q13 h16 h17 H hq13
   replace H:Qd k12 x15 l11=some q13:=H
   unfold Qd at H
   refine zd ?_
   refine zk hN rfl ?_
   refine za (zw rfl rfl) ?_
   refine zd ?_
   refine zf _ rfl (fun h => ?_) (fun h=>(lt_f h16 h).elim)
   refine zl ?_
   refine yc (ι:=(List Bs)) (fun i=>[(3,.row 1 i.length),(8,.dat (vlst (List.map zt values1))),(9,.dat (vint (values1.length:Int))),(10,.dat (vint (k3:Int))),(15,.dat (vlst (List.map zt r9))),(16,.dat (vint (r9.length:Int))),(17,.dat (vint (k12:Int)))]) (fun i=>[(1,.row 9 1 (List.map zt i))]) (fun i=>Qf i=some q13) (fun i=>rfl) ?_ ?_
   ·skip
    refine zu ?_
    refine zd ?_
    refine zk hN rfl ?_
    refine za (qp wv (fun _=>rfl) rfl rfl h17) ?_
    refine za (yr tyS9 rfl (ym h17) rfl) ?_
    refine qe rfl ?_
    refine zd ?_
    refine zk hN rfl ?_
    refine qd rfl ?_
    obtain ⟨r18,h19,H⟩:=bnd H
    refine za (zo (x0t x15 [32] r18 h19) ⟨.inl rfl,.inl rfl,trivial⟩) ?_
    refine qe rfl ?_
    refine zd ?_
    refine zk hN rfl ?_
    refine qd rfl ?_
    refine za (js rfl rfl) ?_
    refine zf _ rfl (fun h20 => ?_) (fun h20 => ?_)
    ·replace H:=ift h20 H
     refine zk hN rfl ?_
     refine za (zh (.row _ _) rfl) ?_
     refine qd rfl ?_
     refine za (yg (u':=vlst (List.map zt [r18])) (qy [[_]] vn ⟨rfl,.inl ⟨_,rfl,rfl,rfl⟩,rfl,trivial⟩ rfl rfl) rfl) ?_
     obtain ⟨h21,H⟩:=gif H
     refine zj (ko vn (fun _=>rfl) rfl rfl rfl ⟨by simp,by first | (simp; done) | simpa using h21⟩ rfl) rfl ?_
     refine za (wm (.row _ _) rfl) ?_
     exact ⟨(l11++[r18]),H,⟨rfl,rfl,rfl,rfl,rfl,rfl,rfl,trivial⟩,⟨rfl,trivial⟩⟩
    ·replace H:=iff_ h20 H
     refine zl ?_
     exact ⟨l11,H,⟨rfl,rfl,rfl,rfl,rfl,rfl,rfl,trivial⟩,⟨rfl,trivial⟩⟩
   ·rintro out22 H
    replace H:Qf out22=some q13:=H
    unfold Qf at H
    refine zk hN rfl ?_
    refine za (qi rfl rfl (by omega)) ?_
    refine qd rfl ?_
    exact ⟨_,yw H,⟨rfl,rfl,rfl,rfl,rfl,rfl,rfl,trivial⟩,⟨rfl,trivial⟩⟩
theorem v1l (s1:Bs) (r:(Int×Bool)) (H:z9t s1=some r):Fn Tryz.prog 218 [vstr s1] (zr [vint r.1,zi r.2]):=by
 refine ⟨by kernel_rfl,zx (us:=[vint r.1,zi r.2]) Tryz.func218 rfl rfl rfl rfl fun X hN => ?_⟩
 unfold z9t at H
 refine zd ?_
 refine zk hN rfl ?_
 refine qe rfl ?_
 refine qe rfl ?_
 refine zd ?_
 refine zk hN rfl ?_
 refine qd rfl ?_
 obtain ⟨r2,h3,H⟩:=bnd H
 refine za (zo (x8i s1 r2 h3) ⟨.inl rfl,trivial⟩) ?_
 refine qd rfl ?_
 refine za (ye rfl rfl) ?_
 refine za (ye rfl rfl) ?_
 refine qe rfl ?_
 refine qe rfl ?_
 refine yc (ι:=Bool) (fun i=>[(2,.dat (vint r2.1)),(3,.dat (zi i))]) (fun i=>[]) (fun i=>z6b r2 i=some r) (fun i=>rfl) ?_ ?_
 ·skip
  refine zk hN rfl ?_
  refine qd rfl ?_
  refine qd rfl ?_
  refine qd rfl ?_
  refine yi (j:=2) rfl rfl (fun h4 => ?_) (fun h4 => ?_) rfl
  ·have h5:=un1 h4
   replace H:=ift h5 H
   refine ze rfl rfl h4 (zh (.dat _) rfl) ?_
   obtain ⟨r6,h7,H⟩:=bnd H
   refine ze rfl rfl h4 (zo (ue r2.1 0 100000000 r6 h7) ⟨.inl rfl,.inl rfl,.inl rfl,trivial⟩) ?_
   refine ze rfl rfl h4 (yv rfl) ?_
   refine za (yb rfl (bTT h5) rfl) ?_
   refine qe rfl ?_
   refine qe rfl ?_
   exact ⟨!r6,H,⟨rfl,rfl,trivial⟩,trivial⟩
  ·have h8:=un2 h4
   replace H:=iff_ h8 H
   refine zc rfl rfl h4 ?_
   refine zc rfl rfl h4 ?_
   refine zc rfl rfl h4 ?_
   refine za (ya rfl (bFF h8) rfl) ?_
   refine qe rfl ?_
   refine qe rfl ?_
   exact ⟨false,H,⟨rfl,rfl,trivial⟩,trivial⟩
 ·rintro v9 H
  replace H:z6b r2 v9=some r:=H
  unfold z6b at H
  refine zg ?_
  cases H
  exact ⟨trivial,.inl rfl,.inl rfl,trivial⟩
theorem x71 (s:Bs) (r:Bs) (H:Qi s=some r):Fn Tryz.prog 163 [vstr s] (zr [vstr r]):=by
 unfold Qi at H
 obtain ⟨⟨h1,h2⟩,h3⟩:=gif H
 cases h3
 refine Yp (by kernel_rfl) fun M w vs hM h => ?_
 have hv:=ug (us:=[.string ⟨s.toArray⟩]) h
 subst hv
 refine (Tryz.strings_ToLower_ascii ⟨s.toArray⟩ w (by simp [ByteArray.size]; omega) (fun j b hb=>z6c h2 j b (by simpa using hb))).mono ?_
 rintro e w' ⟨rfl,hb⟩
 exact ⟨_,rfl,rfl,Kp.of_below hb⟩

theorem v1o (qb:Nat) (r:((List Bs)×(List Int))) (H:y4m  = some r):Fn Tryz.prog 219 [vval (.pointer (some ⟨qb,0,none⟩))] (zr [vlst (List.map zt r.1),vlst (List.map (CP qb) r.2)]):=by
 refine ⟨by kernel_rfl,zx (us:=[vlst (List.map zt r.1),vlst (List.map (CP qb) r.2)]) Tryz.func219 rfl rfl rfl rfl fun X hN => ?_⟩
 unfold y4m at H
 refine zd ?_
 refine zk hN rfl ?_
 refine qe rfl ?_
 refine qe rfl ?_
 refine zd ?_
 refine wg mixed hN rfl rfl ?_
 refine za (yg (u':=vlst (List.map zt [[110,111,45,115,116,111,114,101],[110,111,45,99,97,99,104,101],[112,114,105,118,97,116,101],[112,117,98,108,105,99],[109,117,115,116,45,114,101,118,97,108,105,100,97,116,101],[111,110,108,121,45,105,102,45,99,97,99,104,101,100]])) (qy [[_],[_],[_],[_],[_],[_]] vn ⟨rfl,.inl ⟨_,rfl,rfl,rfl⟩,rfl,rfl,.inl ⟨_,rfl,rfl,rfl⟩,rfl,rfl,.inl ⟨_,rfl,rfl,rfl⟩,rfl,rfl,.inl ⟨_,rfl,rfl,rfl⟩,rfl,rfl,.inl ⟨_,rfl,rfl,rfl⟩,rfl,rfl,.inl ⟨_,rfl,rfl,rfl⟩,rfl,trivial⟩ rfl rfl) rfl) ?_
 refine qd rfl ?_
 refine za (xr rfl) ?_
 refine za (xt w2b rfl) ?_
 refine qd rfl ?_
 refine za (xr rfl) ?_
 refine za (xt x4w rfl) ?_
 refine qd rfl ?_
 refine za (xr rfl) ?_
 refine za (xt w18 rfl) ?_
 refine qd rfl ?_
 refine za (xr rfl) ?_
 refine za (xt w17 rfl) ?_
 refine qd rfl ?_
 refine za (xr rfl) ?_
 refine za (xt w16 rfl) ?_
 refine qd rfl ?_
 refine za (xr rfl) ?_
 refine za (xt w15 rfl) ?_
 refine za (yg (u':=vlst (List.map (CP qb) ([0,1,2,3,4,5]:List Int))) (qy [[_],[_],[_],[_],[_],[_]] w1s ⟨rfl,.inl ⟨_,rfl,rfl,rfl⟩,rfl,rfl,.inl ⟨_,rfl,rfl,rfl⟩,rfl,rfl,.inl ⟨_,rfl,rfl,rfl⟩,rfl,rfl,.inl ⟨_,rfl,rfl,rfl⟩,rfl,rfl,.inl ⟨_,rfl,rfl,rfl⟩,rfl,rfl,.inl ⟨_,rfl,rfl,rfl⟩,rfl,trivial⟩ rfl rfl) rfl) ?_
 refine qe rfl ?_
 refine qe rfl ?_
 refine ⟨rfl,?_⟩
 refine zg ?_
 cases H
 exact ⟨trivial,.inl rfl,.inl rfl,trivial⟩
theorem v1k (s1:qo) (v2:Bs) (r:(Bool×qo)) (H:z48 s1 v2=some r):Imp Tryz.prog 162 166 (kx s1) [vstr v2] (zr [zi r.1]) (kx r.2):=by
 refine kv (us:=[zi r.1]) (cs':=(kx r.2)) (by kernel_rfl) Tryz.func162 rfl rfl rfl rfl fun X bl hN => ?_
 unfold z48 at H
 refine zd ?_
 refine zk hN rfl ?_
 refine qe rfl ?_
 refine zd ?_
 refine zk hN rfl ?_
 refine qd rfl ?_
 obtain ⟨r3,h4,H⟩:=bnd H
 refine za (zo (x0u v2 [61] r3 h4) ⟨.inl rfl,.inl rfl,trivial⟩) ?_
 refine qd rfl ?_
 refine za (ye rfl rfl) ?_
 refine za (ye rfl rfl) ?_
 refine za (ye rfl rfl) ?_
 refine qe rfl ?_
 refine qe rfl ?_
 refine qe rfl ?_
 refine zd ?_
 refine zk hN rfl ?_
 refine qd rfl ?_
 obtain ⟨r5,h6,H⟩:=bnd H
 refine za (zo (v1l r3.2.1 r5 h6) ⟨.inl rfl,trivial⟩) ?_
 refine qd rfl ?_
 refine za (ye rfl rfl) ?_
 refine za (ye rfl rfl) ?_
 refine qe rfl ?_
 refine qe rfl ?_
 refine zd ?_
 refine zd ?_
 refine zk hN rfl ?_
 refine qd rfl ?_
 obtain ⟨r7,h8,H⟩:=bnd H
 refine za (zo (y4w r3.1 r7 h8) ⟨.inl rfl,trivial⟩) ?_
 refine za (yv rfl) ?_
 refine qd rfl ?_
 refine yu rfl rfl (fun hc=>zh (.dat _) rfl) ?_
 refine yu rfl rfl (fun hc=>zh (.dat _) (cnd (c:=(!(!r7))) hc)) ?_
 refine wz rfl rfl (fun hc=>zh (.dat _) rfl) ?_
 refine wz rfl rfl (fun hc=>yv (cnd (c:=((!(!r7)) && r3.2.2)) hc)) ?_
 refine yu rfl rfl (fun hc=>wy (cnd (c:=(!(!r7))) hc) (fun hb=>(cnd (c:=((!(!r7)) && r3.2.2)) (andI hc hb))) rfl) ?_
 refine za (vk rfl rfl (fun hb=>(cnd (c:=(!(!r7))) (notI hb)))) ?_
 refine zf _ rfl (fun h9 => ?_) (fun h9 => ?_)
 ·replace H:=ift h9 H
  refine zd ?_
  refine zk hN rfl ?_
  refine qe rfl ?_
  refine zg ?_
  cases H
  exact ⟨trivial,⟨.inl rfl,trivial⟩,rfl⟩
 ·replace H:=iff_ h9 H
  refine zl ?_
  refine zd ?_
  refine zk hN rfl ?_
  refine qd rfl ?_
  obtain ⟨r10,h11,H⟩:=bnd H
  refine za (zo (x71 r3.1 r10 h11) ⟨.inl rfl,trivial⟩) ?_
  refine qe rfl ?_
  refine zd ?_
  refine zk hN rfl ?_
  refine za (zh (.ptr _ _) rfl) ?_
  obtain ⟨r12,h13,H⟩:=bnd H
  refine zm (kb (s := .dr 0 (fun qb=>vtup [vlst (List.map zt r12.1),vlst (List.map (CP qb) r12.2)])) 0 (fun qb=>zo (v1o qb r12 h13) ⟨.inl rfl,trivial⟩) rfl rfl) rfl ?_
  refine za (zh (.dr _ _) rfl) ?_
  refine zm (kb (s := .dat (vlst (List.map zt r12.1))) 0 (fun qb=>ye rfl rfl) rfl rfl) rfl ?_
  refine zm (kb (s := .dr 0 (fun qb=>vlst (List.map (CP qb) r12.2))) 0 (fun qb=>ye rfl rfl) rfl rfl) rfl ?_
  refine qe rfl ?_
  refine za (wm (.dr _ _) rfl) ?_
  refine zd ?_
  refine zd ?_
  refine zk hN rfl ?_
  refine qd rfl ?_
  refine qd rfl ?_
  obtain ⟨r14,h15,H⟩:=bnd H
  refine za (zo (x0v r12.1 r10 r14 h15) ⟨.inl rfl,.inl rfl,trivial⟩) ?_
  refine qe rfl ?_
  refine zd ?_
  refine zk hN rfl ?_
  refine qd rfl ?_
  refine za (vt rfl rfl) ?_
  refine zf _ rfl (fun h16 => ?_) (fun h16 => ?_)
  ·replace H:=ift h16 H
   refine zd ?_
   refine zk hN rfl ?_
   refine za (zh (.dr _ _) rfl) ?_
   refine qd rfl ?_
   obtain ⟨x17,h18,H⟩:=bnd H
   refine zm (kb (s := .dr 0 (fun qb=>wt (List.map (CP qb) r12.2) r14.toNat 0)) 0 (fun qb=>wx w2f (fun _=>rfl) rfl rfl h18) rfl rfl) rfl ?_
   obtain ⟨h19,H⟩:=gif H
   refine zm (kb (s := .ptr 0 x17.toNat) 0 (fun qb=>yr w1d rfl (ym (qk h18).2) rfl) rfl rfl) rfl ?_
   refine za (wq rfl) ?_
   obtain ⟨c20,h21,H⟩:=bnd H
   refine zj (y70 tyS4 rfl rfl rfl (w4t (c:=s1) h19 h21)) rfl ?_
   refine zd ?_
   refine zk hN rfl ?_
   refine qd rfl ?_
   refine za (yv rfl) ?_
   refine qe rfl ?_
   refine zg ?_
   cases H
   exact ⟨trivial,⟨.inl rfl,trivial⟩,rfl⟩
  ·replace H:=iff_ h16 H
   refine zl ?_
   refine zd ?_
   refine zk hN rfl ?_
   refine za (zh (.ptr _ _) rfl) ?_
   obtain ⟨r22,h23,H⟩:=bnd H
   refine zm (kb (s := .dr 0 (fun qb=>vtup [vlst (List.map zt r22.1),vlst (List.map (CP qb) r22.2)])) 0 (fun qb=>zo (x8r qb r22 h23) ⟨.inl rfl,trivial⟩) rfl rfl) rfl ?_
   refine za (zh (.dr _ _) rfl) ?_
   refine zm (kb (s := .dat (vlst (List.map zt r22.1))) 0 (fun qb=>ye rfl rfl) rfl rfl) rfl ?_
   refine zm (kb (s := .dr 0 (fun qb=>vlst (List.map (CP qb) r22.2))) 0 (fun qb=>ye rfl rfl) rfl rfl) rfl ?_
   refine qe rfl ?_
   refine za (wm (.dr _ _) rfl) ?_
   refine zd ?_
   refine zk hN rfl ?_
   refine qd rfl ?_
   refine qd rfl ?_
   obtain ⟨r24,h25,H⟩:=bnd H
   refine za (zo (x0v r22.1 r10 r24 h25) ⟨.inl rfl,.inl rfl,trivial⟩) ?_
   refine qe rfl ?_
   refine zd ?_
   refine zd ?_
   refine zk hN rfl ?_
   refine qd rfl ?_
   refine za (zw rfl rfl) ?_
   refine zf _ rfl (fun h26 => ?_) (fun h26 => ?_)
   ·replace H:=ift h26 H
    refine zd ?_
    refine zk hN rfl ?_
    refine qe rfl ?_
    refine zg ?_
    cases H
    exact ⟨trivial,⟨.inl rfl,trivial⟩,rfl⟩
   ·replace H:=iff_ h26 H
    refine zl ?_
    refine yc (ι:=Bool×Bool×Bool×Bool×Bool×Bool×Int×Int×Int×Int×Int×Int) (fun i=>[(7,.dat (zi r3.2.2))]) (fun i=>[(0,.box (some bl) 166 [.dat (zi i.1),.dat (zi i.2.1),.dat (zi i.2.2.1),.dat (zi i.2.2.2.1),.dat (zi i.2.2.2.2.1),.dat (zi i.2.2.2.2.2.1),.dat (vint i.2.2.2.2.2.2.1),.dat (vint i.2.2.2.2.2.2.2.1),.dat (vint i.2.2.2.2.2.2.2.2.1),.dat (vint i.2.2.2.2.2.2.2.2.2.1),.dat (vint i.2.2.2.2.2.2.2.2.2.2.1),.dat (vint i.2.2.2.2.2.2.2.2.2.2.2)])]) (fun i=>z6a r3 i.1 i.2.1 i.2.2.1 i.2.2.2.1 i.2.2.2.2.1 i.2.2.2.2.2.1 i.2.2.2.2.2.2.1 i.2.2.2.2.2.2.2.1 i.2.2.2.2.2.2.2.2.1 i.2.2.2.2.2.2.2.2.2.1 i.2.2.2.2.2.2.2.2.2.2.1 i.2.2.2.2.2.2.2.2.2.2.2=some r) (fun i=>rfl) ?_ ?_
    ·skip
     refine yc (ι:=Bool) (fun i=>[(7,.dat (zi r3.2.2)),(8,.dat (vint r5.1)),(13,.dr 0 (fun qb=>vlst (List.map (CP qb) r22.2))),(14,.dat (vint r24)),(81,.dat (zi i))]) (fun i=>[(0,.box (some bl) 166 [.dat (zi s1.NoStore),.dat (zi s1.NoCache),.dat (zi s1.Private),.dat (zi s1.Public),.dat (zi s1.Must),.dat (zi s1.Only),.dat (vint s1.MaxAge),.dat (vint s1.Shared),.dat (vint s1.Stale),.dat (vint s1.OnError),.dat (vint s1.MaxStale),.dat (vint s1.MinFresh)])]) (fun i=>z58 s1 r3 r5 r22 r24 i=some r) (fun i=>rfl) ?_ ?_
     ·skip
      refine zk hN rfl ?_
      refine za (zh (.dr _ _) rfl) ?_
      refine qd rfl ?_
      obtain ⟨x27,h28,H⟩:=bnd H
      refine zm (kb (s := .dr 0 (fun qb=>wt (List.map (CP qb) r22.2) r24.toNat 0)) 0 (fun qb=>wx y1z (fun _=>rfl) rfl rfl h28) rfl rfl) rfl ?_
      obtain ⟨h29,H⟩:=gif H
      refine zm (kb (s := .ptr 0 x27.toNat) 0 (fun qb=>yr y1j rfl (ym (qk h28).2) rfl) rfl rfl) rfl ?_
      refine za (wq rfl) ?_
      refine zm (zp tyS3 rfl (x83 (c:=s1) h29)) rfl ?_
      refine za (yn rfl rfl) ?_
      refine qd rfl ?_
      refine yi (j:=7) rfl rfl (fun h30 => ?_) (fun h30 => ?_) rfl
      ·have h31:=un3 h30
       replace H:=iff_ h31 H
       refine ze rfl rfl h30 (zh (.dat _) rfl) ?_
       refine ze rfl rfl h30 (zh (.dr _ _) rfl) ?_
       refine ze rfl rfl h30 (zh (.dat _) rfl) ?_
       refine qz rfl rfl h30 (kb (s := .dr 0 (fun qb=>wt (List.map (CP qb) r22.2) r24.toNat 0)) 0 (fun qb=>wx y1z (fun _=>rfl) rfl rfl h28) rfl rfl) rfl ?_
       obtain ⟨h32,H⟩:=gif H
       refine qz rfl rfl h30 (kb (s := .ptr 0 x27.toNat) 0 (fun qb=>yr y1j rfl (ym (qk h28).2) rfl) rfl rfl) rfl ?_
       refine ze rfl rfl h30 (wq rfl) ?_
       refine qz rfl rfl h30 (zp tyS3 rfl (x83 (c:=s1) h32)) rfl ?_
       refine ze rfl rfl h30 (zw rfl rfl) ?_
       refine za (ya rfl (bFF h31) rfl) ?_
       exact ⟨decide (r5.1 < (z0b s1 x27)),H,⟨rfl,rfl,rfl,rfl,rfl,trivial⟩,⟨rfl,trivial⟩⟩
      ·have h33:=un4 h30
       replace H:=ift h33 H
       refine zc rfl rfl h30 ?_
       refine zc rfl rfl h30 ?_
       refine zc rfl rfl h30 ?_
       refine zc rfl rfl h30 ?_
       refine zc rfl rfl h30 ?_
       refine zc rfl rfl h30 ?_
       refine zc rfl rfl h30 ?_
       refine zc rfl rfl h30 ?_
       refine za (yb rfl (bTT h33) rfl) ?_
       exact ⟨true,H,⟨rfl,rfl,rfl,rfl,rfl,trivial⟩,⟨rfl,trivial⟩⟩
     ·rintro v34 H
      replace H:z58 s1 r3 r5 r22 r24 v34=some r:=H
      unfold z58 at H
      refine zf _ rfl (fun h35 => ?_) (fun h35 => ?_)
      ·replace H:=ift h35 H
       refine zk hN rfl ?_
       refine za (zh (.dr _ _) rfl) ?_
       refine qd rfl ?_
       obtain ⟨x36,h37,H⟩:=bnd H
       refine zm (kb (s := .dr 0 (fun qb=>wt (List.map (CP qb) r22.2) r24.toNat 0)) 0 (fun qb=>wx y1z (fun _=>rfl) rfl rfl h37) rfl rfl) rfl ?_
       obtain ⟨h38,H⟩:=gif H
       refine zm (kb (s := .ptr 0 x36.toNat) 0 (fun qb=>yr y1j rfl (ym (qk h37).2) rfl) rfl rfl) rfl ?_
       refine qd rfl ?_
       refine za (wq rfl) ?_
       obtain ⟨c39,h40,H⟩:=bnd H
       refine zj (y70 tyS3 rfl rfl rfl (x52 (c:=s1) h38 h40)) rfl ?_
       exact ⟨(c39.NoStore,c39.NoCache,c39.Private,c39.Public,c39.Must,c39.Only,c39.MaxAge,c39.Shared,c39.Stale,c39.OnError,c39.MaxStale,c39.MinFresh),H,⟨rfl,trivial⟩,⟨rfl,trivial⟩⟩
      ·replace H:=iff_ h35 H
       refine zl ?_
       exact ⟨(s1.NoStore,s1.NoCache,s1.Private,s1.Public,s1.Must,s1.Only,s1.MaxAge,s1.Shared,s1.Stale,s1.OnError,s1.MaxStale,s1.MinFresh),H,⟨rfl,trivial⟩,⟨rfl,trivial⟩⟩
    ·rintro ⟨c41,c42,c43,c44,c45,c46,c47,c48,c49,c50,c51,c52⟩ H
     replace H:z6a r3 c41 c42 c43 c44 c45 c46 c47 c48 c49 c50 c51 c52=some r:=H
     unfold z6a at H
     refine zd ?_
     refine zk hN rfl ?_
     refine qd rfl ?_
     refine qe rfl ?_
     refine zg ?_
     cases H
     exact ⟨trivial,⟨.inl rfl,trivial⟩,rfl⟩
theorem v1m (l1:(List ql)) (r:(qo×Int)) (H:z5a l1=some r):Fn Tryz.prog 95 [vlst (List.map kw l1)] (zr [vagg (kx r.1),vint r.2]):=by
 refine ⟨by kernel_rfl,zx (us:=[vagg (kx r.1),vint r.2]) Tryz.func95 rfl rfl rfl rfl fun X hN => ?_⟩
 unfold z5a at H
 refine zd ?_
 refine zk hN rfl ?_
 refine zj (qm 1 z6l rfl) rfl ?_
 refine qe rfl ?_
 refine zd ?_
 refine zk hN rfl ?_
 refine za (yg (u':=vagg (kx (qo.mk false false false false false false 0 0 0 0 0 0))) (qv [] z6l x31 rfl trivial) rfl) ?_
 refine zj (qm 2 z6l rfl) rfl ?_
 refine zj (yo Qu rfl rfl rfl rfl) rfl ?_
 refine zd ?_
 refine zk hN rfl ?_
 obtain ⟨r2,h3,H⟩:=bnd H
 refine zm (kb (s := .dr 2 (fun qb=>vtup [vlst (List.map zt r2.1),vlst (List.map (CP qb) r2.2)])) 2 (fun qb=>zo (x8r qb r2 h3) ⟨.inl rfl,trivial⟩) rfl rfl) rfl ?_
 refine za (zh (.dr _ _) rfl) ?_
 refine zm (kb (s := .dat (vlst (List.map zt r2.1))) 2 (fun qb=>ye rfl rfl) rfl rfl) rfl ?_
 refine zm (kb (s := .dr 2 (fun qb=>vlst (List.map (CP qb) r2.2))) 2 (fun qb=>ye rfl rfl) rfl rfl) rfl ?_
 refine qe rfl ?_
 refine za (wm (.dr _ _) rfl) ?_
 refine zd ?_
 refine zd ?_
 refine zk hN rfl ?_
 refine za (zh (.dr _ _) rfl) ?_
 refine zm (kb (s := .dat (vint (r2.2.length:Int))) 2 (fun qb=>yk w1a rfl) rfl rfl) rfl ?_
 refine qd rfl ?_
 refine zu ?_
 obtain ⟨h18,H⟩:=gif H
 refine qq (fun (k16:Nat) (s:Bool×Bool×Int×Int×Bool×Bool×Bool×Bool×Int×Int×Int×Int)=>[(0,.dat (vlst (List.map kw l1))),(2,.ptr 1 0),(4,.ptr 2 0),(16,.dr 2 (fun qb=>vlst (List.map (CP qb) r2.2))),(17,.dat (vint (r2.2.length:Int))),(18,.dat (vint (k16:Int)))]) (fun (k16:Nat) (s:Bool×Bool×Int×Int×Bool×Bool×Bool×Bool×Int×Int×Int×Int)=>[(1,.box none 166 [.dat (zi false),.dat (zi false),.dat (zi false),.dat (zi false),.dat (zi false),.dat (zi false),.dat (vint 0),.dat (vint 0),.dat (vint 0),.dat (vint 0),.dat (vint 0),.dat (vint 0)]),(2,.box none 166 [.dat (zi s.1),.dat (zi s.2.1),.dat (zi s.2.2.2.2.1),.dat (zi s.2.2.2.2.2.1),.dat (zi s.2.2.2.2.2.2.1),.dat (zi s.2.2.2.2.2.2.2.1),.dat (vint s.2.2.2.2.2.2.2.2.1),.dat (vint s.2.2.2.2.2.2.2.2.2.1),.dat (vint s.2.2.2.2.2.2.2.2.2.2.1),.dat (vint s.2.2.2.2.2.2.2.2.2.2.2),.dat (vint s.2.2.1),.dat (vint s.2.2.2.1)])]) (false,false,0,0,false,false,false,false,0,0,0,0) H ⟨rfl,rfl,rfl,rfl,rfl,rfl,trivial⟩ ⟨rfl,rfl,trivial⟩ (fun _ _=>rfl) ?_ ?_
 ·rintro ⟨c4,c5,c6,c7,c8,c9,c10,c11,c12,c13,c14,c15⟩ H
  replace H:y00 l1 c4 c5 c6 c7 c8 c9 c10 c11 c12 c13 c14 c15=some r:=H
  unfold y00 at H
  refine zd ?_
  refine zk hN rfl ?_
  refine za (zw rfl rfl) ?_
  refine zd ?_
  refine zf _ rfl (fun h=>(lt_t h).elim) (fun h => ?_)
  refine yp ?_
  refine zd ?_
  refine zd ?_
  refine zk hN rfl ?_
  refine qd rfl ?_
  obtain ⟨r20,h21,H⟩:=bnd H
  refine za (zo (y4v l1 [99,97,99,104,101,45,99,111,110,116,114,111,108] r20 h21) ⟨.inl rfl,.inl rfl,trivial⟩) ?_
  obtain ⟨r22,h23,H⟩:=bnd H
  refine za (zo (v0c r20 r22 h23) ⟨.inl rfl,trivial⟩) ?_
  refine za (yk qr rfl) ?_
  refine qd rfl ?_
  refine zu ?_
  obtain ⟨h38,H⟩:=gif H
  refine qq (fun (k36:Nat) (s:Bool×Bool×Int×Int×Bool×Bool×Bool×Bool×Int×Int×Int×Int)=>[(2,.ptr 1 0),(4,.ptr 2 0),(27,.dat (vlst (List.map zt r22))),(28,.dat (vint (r22.length:Int))),(29,.dat (vint (k36:Int)))]) (fun (k36:Nat) (s:Bool×Bool×Int×Int×Bool×Bool×Bool×Bool×Int×Int×Int×Int)=>[(1,.box none 166 [.dat (zi false),.dat (zi false),.dat (zi false),.dat (zi false),.dat (zi false),.dat (zi false),.dat (vint 0),.dat (vint 0),.dat (vint 0),.dat (vint 0),.dat (vint 0),.dat (vint 0)]),(2,.box none 166 [.dat (zi s.1),.dat (zi s.2.1),.dat (zi s.2.2.2.2.1),.dat (zi s.2.2.2.2.2.1),.dat (zi s.2.2.2.2.2.2.1),.dat (zi s.2.2.2.2.2.2.2.1),.dat (vint s.2.2.2.2.2.2.2.2.1),.dat (vint s.2.2.2.2.2.2.2.2.2.1),.dat (vint s.2.2.2.2.2.2.2.2.2.2.1),.dat (vint s.2.2.2.2.2.2.2.2.2.2.2),.dat (vint s.2.2.1),.dat (vint s.2.2.2.1)])]) (c4,c5,c6,c7,c8,c9,c10,c11,c12,c13,c14,c15) H ⟨rfl,rfl,rfl,rfl,rfl,trivial⟩ ⟨rfl,rfl,trivial⟩ (fun _ _=>rfl) ?_ ?_
  ·rintro ⟨c24,c25,c26,c27,c28,c29,c30,c31,c32,c33,c34,c35⟩ H
   replace H:x2k c24 c25 c26 c27 c28 c29 c30 c31 c32 c33 c34 c35=some r:=H
   unfold x2k at H
   refine zd ?_
   refine zk hN rfl ?_
   refine za (zw rfl rfl) ?_
   refine zd ?_
   refine zf _ rfl (fun h=>(lt_t h).elim) (fun h => ?_)
   refine yp ?_
   refine zd ?_
   refine zk hN rfl ?_
   refine zm (qc Qu rfl rfl rfl) rfl ?_
   refine zj (yo Qu rfl rfl rfl rfl) rfl ?_
   refine qe rfl ?_
   refine zg ?_
   cases H
   exact ⟨trivial,.inl ⟨_,_,_,kx (qo.mk c24 c25 c28 c29 c30 c31 c32 c33 c34 c35 c26 c27),rfl,rfl,rfl,rfl,Qu⟩,.inl rfl,trivial⟩
  ·rintro k36 x39 ⟨c24,c25,c26,c27,c28,c29,c30,c31,c32,c33,c34,c35⟩ q37 h40 h41 H hq37
   replace H:z2n k36 x39 c24 c25 c26 c27 c28 c29 c30 c31 c32 c33 c34 c35=some q37:=H
   unfold z2n at H
   refine zd ?_
   refine zk hN rfl ?_
   refine za (zw rfl rfl) ?_
   refine zd ?_
   refine zf _ rfl (fun h => ?_) (fun h=>(lt_f h40 h).elim)
   refine zl ?_
   refine zd ?_
   refine zu ?_
   refine zd ?_
   refine zk hN rfl ?_
   refine za (qp wv (fun _=>rfl) rfl rfl h41) ?_
   refine za (yr tyS9 rfl (ym h41) rfl) ?_
   refine qe rfl ?_
   refine zd ?_
   refine zk hN rfl ?_
   refine qd rfl ?_
   obtain ⟨r42,h43,H⟩:=bnd H
   refine zj (qt (v1k (qo.mk c24 c25 c28 c29 c30 c31 c32 c33 c34 c35 c26 c27) x39 r42 h43) rfl ⟨.inl rfl,trivial⟩ rfl) rfl ?_
   refine za (yv rfl) ?_
   refine zf _ rfl (fun h44 => ?_) (fun h44 => ?_)
   ·replace H:=ift h44 H
    refine zd ?_
    refine zk hN rfl ?_
    refine za (yg (u':=vagg (kx (qo.mk false false false false false false 0 0 0 0 0 0))) (qv [] z6l x31 rfl trivial) rfl) ?_
    refine zj (yo Qu rfl rfl rfl rfl) rfl ?_
    refine qe rfl ?_
    refine zg ?_
    replace H:=retl H hq37
    cases H
    exact ⟨trivial,.inl ⟨_,_,_,kx (qo.mk false false false false false false 0 0 0 0 0 0),rfl,rfl,rfl,rfl,Qu⟩,.inl rfl,trivial⟩
   ·replace H:=iff_ h44 H
    refine zl ?_
    refine zk hN rfl ?_
    refine za (qi rfl rfl (by omega)) ?_
    refine qd rfl ?_
    exact ⟨_,yw H,⟨rfl,rfl,rfl,rfl,rfl,trivial⟩,⟨rfl,rfl,trivial⟩⟩
 ·rintro k16 x19 ⟨c4,c5,c6,c7,c8,c9,c10,c11,c12,c13,c14,c15⟩ q17 h45 h46 H hq17
  replace H:x2j k16 x19 c4 c5 c6 c7 c8 c9 c10 c11 c12 c13 c14 c15=some q17:=H
  unfold x2j at H
  refine zd ?_
  refine zk hN rfl ?_
  refine za (zw rfl rfl) ?_
  refine zd ?_
  refine zf _ rfl (fun h => ?_) (fun h=>(lt_f h45 h).elim)
  refine zl ?_
  refine zd ?_
  refine zu ?_
  refine zd ?_
  refine zk hN rfl ?_
  refine zm (kb (s := .dr 2 (fun qb=>wt (List.map (CP qb) r2.2) k16 0)) 2 (fun qb=>qp y1z (fun _=>rfl) rfl rfl h46) rfl rfl) rfl ?_
  obtain ⟨h47,H⟩:=gif H
  refine zm (kb (s := .ptr 2 x19.toNat) 2 (fun qb=>yr y1j rfl (ym h46) rfl) rfl rfl) rfl ?_
  refine za (wm (.ptr _ _) rfl) ?_
  refine zk hN rfl ?_
  refine za (zh (.ptr _ _) rfl) ?_
  refine za (wq rfl) ?_
  obtain ⟨c48,h49,H⟩:=bnd H
  refine zj (y70 tyS3 rfl rfl rfl (x52 (c:=(qo.mk c4 c5 c8 c9 c10 c11 c12 c13 c14 c15 c6 c7)) h47 h49)) rfl ?_
  refine zk hN rfl ?_
  refine za (qi rfl rfl (by omega)) ?_
  refine qd rfl ?_
  exact ⟨_,yw H,⟨rfl,rfl,rfl,rfl,rfl,rfl,trivial⟩,⟨rfl,rfl,trivial⟩⟩
theorem w7p (values1:(List Bs)) (r:((List Bs))) (H:Ws values1=some r):FnG Tryz.prog 161 [.dat (vlst (List.map zt values1))] [] (.row 1 r.length) [(1,.row 9 1 (List.map zt r))]:=by
 refine Zs (by kernel_rfl) Tryz.func161 rfl rfl rfl rfl fun X A hN => ?_
 unfold Ws at H
 refine zd ?_
 refine zk hN rfl ?_
 refine qe rfl ?_
 refine zd ?_
 refine zk hN rfl ?_
 refine qe rfl ?_
 refine zd ?_
 refine zd ?_
 refine zk hN rfl ?_
 refine qd rfl ?_
 refine za (yk qr rfl) ?_
 refine qd rfl ?_
 refine zu ?_
 refine uy 3 1 9 1 rfl rfl rfl ?_
 obtain ⟨h5,H⟩:=gif H
 refine qq (fun (k3:Nat) (s:(List Bs))=>[(3,.row 1 s.length),(8,.dat (vlst (List.map zt values1))),(9,.dat (vint (values1.length:Int))),(10,.dat (vint (k3:Int)))]) (fun (k3:Nat) (s:(List Bs))=>[(1,.row 9 1 (List.map zt s))]) [] H ⟨rfl,rfl,rfl,rfl,trivial⟩ ⟨rfl,trivial⟩ (fun _ _=>rfl) ?_ ?_
 ·rintro l2 H
  replace H:z34 l2=some r:=H
  unfold z34 at H
  refine zd ?_
  refine zk hN rfl ?_
  refine za (zw rfl rfl) ?_
  refine zd ?_
  refine zf _ rfl (fun h=>(lt_t h).elim) (fun h => ?_)
  refine yp ?_
  refine zd ?_
  refine zk hN rfl ?_
  refine za (zh (.row _ _) rfl) ?_
  refine za (wm (.row _ _) rfl) ?_
  refine zg ?_
  cases H
  exact ⟨trivial,[(2,.row 1 _)],⟨rfl,trivial⟩,⟨rfl,trivial⟩,rfl,.inr (.inl ⟨2,rfl,rfl⟩)⟩
 ·rintro k3 x6 l2 q4 h7 h8 H hq4
  replace H:Qe k3 x6 l2=some q4:=H
  unfold Qe at H
  refine zd ?_
  refine zk hN rfl ?_
  refine za (zw rfl rfl) ?_
  refine zd ?_
  refine zf _ rfl (fun h => ?_) (fun h=>(lt_f h7 h).elim)
  refine zl ?_
  refine zd ?_
  refine zu ?_
  refine zd ?_
  refine zk hN rfl ?_
  refine za (qp wv (fun _=>rfl) rfl rfl h8) ?_
  refine za (yr tyS9 rfl (ym h8) rfl) ?_
  refine qe rfl ?_
  refine zd ?_
  refine zk hN rfl ?_
  refine qd rfl ?_
  obtain ⟨r9,h10,H⟩:=bnd H
  refine za (zo (Qm x6 [44] r9 h10) ⟨.inl rfl,.inl rfl,trivial⟩) ?_
  refine za (yk qr rfl) ?_
  refine qd rfl ?_
  refine zu ?_
  obtain ⟨h14,H⟩:=gif H
  refine qq (fun (k12:Nat) (s:(List Bs))=>[(3,.row 1 s.length),(8,.dat (vlst (List.map zt values1))),(9,.dat (vint (values1.length:Int))),(10,.dat (vint (k3:Int))),(15,.dat (vlst (List.map zt r9))),(16,.dat (vint (r9.length:Int))),(17,.dat (vint (k12:Int)))]) (fun (k12:Nat) (s:(List Bs))=>[(1,.row 9 1 (List.map zt s))]) l2 H ⟨rfl,rfl,rfl,rfl,rfl,rfl,rfl,trivial⟩ ⟨rfl,trivial⟩ (fun _ _=>rfl) ?_ ?_
  ·rintro l11 H
   replace H:z33 l11=some q4:=H
   unfold z33 at H
   refine zd ?_
   refine zk hN rfl ?_
   refine za (zw rfl rfl) ?_
   refine zd ?_
   refine zf _ rfl (fun h=>(lt_t h).elim) (fun h => ?_)
   refine yp ?_
   refine zk hN rfl ?_
   refine za (qi rfl rfl (by omega)) ?_
   refine qd rfl ?_
   exact ⟨_,yw H,⟨rfl,rfl,rfl,rfl,trivial⟩,⟨rfl,trivial⟩⟩
  ·rintro k12 x15 l11 q13 h16 h17 H hq13
   replace H:Qd k12 x15 l11=some q13:=H
   unfold Qd at H
   refine zd ?_
   refine zk hN rfl ?_
   refine za (zw rfl rfl) ?_
   refine zd ?_
   refine zf _ rfl (fun h => ?_) (fun h=>(lt_f h16 h).elim)
   refine zl ?_
   refine yc (ι:=(List Bs)) (fun i=>[(3,.row 1 i.length),(8,.dat (vlst (List.map zt values1))),(9,.dat (vint (values1.length:Int))),(10,.dat (vint (k3:Int))),(15,.dat (vlst (List.map zt r9))),(16,.dat (vint (r9.length:Int))),(17,.dat (vint (k12:Int)))]) (fun i=>[(1,.row 9 1 (List.map zt i))]) (fun i=>Qf i=some q13) (fun i=>rfl) ?_ ?_
   ·skip
    refine zu ?_
    refine zd ?_
    refine zk hN rfl ?_
    refine za (qp wv (fun _=>rfl) rfl rfl h17) ?_
    refine za (yr tyS9 rfl (ym h17) rfl) ?_
    refine qe rfl ?_
    refine zd ?_
    refine zk hN rfl ?_
    refine qd rfl ?_
    obtain ⟨r18,h19,H⟩:=bnd H
    refine za (zo (x0t x15 [32] r18 h19) ⟨.inl rfl,.inl rfl,trivial⟩) ?_
    refine qe rfl ?_
    refine zd ?_
    refine zk hN rfl ?_
    refine qd rfl ?_
    refine za (js rfl rfl) ?_
    refine zf _ rfl (fun h20 => ?_) (fun h20 => ?_)
    ·replace H:=ift h20 H
     refine zk hN rfl ?_
     refine za (zh (.row _ _) rfl) ?_
     refine qd rfl ?_
     refine za (yg (u':=vlst (List.map zt [r18])) (qy [[_]] vn ⟨rfl,.inl ⟨_,rfl,rfl,rfl⟩,rfl,trivial⟩ rfl rfl) rfl) ?_
     obtain ⟨h21,H⟩:=gif H
     refine zj (ko vn (fun _=>rfl) rfl rfl rfl ⟨by simp,by first | (simp; done) | simpa using h21⟩ rfl) rfl ?_
     refine za (wm (.row _ _) rfl) ?_
     exact ⟨(l11++[r18]),H,⟨rfl,rfl,rfl,rfl,rfl,rfl,rfl,trivial⟩,⟨rfl,trivial⟩⟩
    ·replace H:=iff_ h20 H
     refine zl ?_
     exact ⟨l11,H,⟨rfl,rfl,rfl,rfl,rfl,rfl,rfl,trivial⟩,⟨rfl,trivial⟩⟩
   ·rintro out22 H
    replace H:Qf out22=some q13:=H
    unfold Qf at H
    refine zk hN rfl ?_
    refine za (qi rfl rfl (by omega)) ?_
    refine qd rfl ?_
    exact ⟨_,yw H,⟨rfl,rfl,rfl,rfl,rfl,rfl,rfl,trivial⟩,⟨rfl,trivial⟩⟩
theorem v1j (a1:xa) (r:((List Bs)×Bool×Int)) (H:z9s a1=some r):Fn Tryz.prog 96 [vagg (y6a a1)] (zr [vlst (List.map zt r.1),zi r.2.1,vint r.2.2]):=by
 refine ⟨by kernel_rfl,zx (us:=[vlst (List.map zt r.1),zi r.2.1,vint r.2.2]) Tryz.func96 rfl rfl rfl rfl fun X hN => ?_⟩
 unfold z9s at H
 refine zd ?_
 refine zk hN rfl ?_
 refine zj (qu 1 rfl) rfl ?_
 refine qe rfl ?_
 refine qe rfl ?_
 refine qe rfl ?_
 refine zd ?_
 refine zk hN rfl ?_
 refine za (zn y7d rfl) ?_
 refine zm (zp z2u rfl rfl) rfl ?_
 obtain ⟨r2,h3,H⟩:=bnd H
 refine za (zo (y4v a1.Headers [118,97,114,121] r2 h3) ⟨.inl rfl,.inl rfl,trivial⟩) ?_
 obtain ⟨r4,h5,H⟩:=bnd H
 refine kq (rn [(1,2)]) [] [(1,_)] (w7p r2 r4 h5) ⟨rfl,trivial⟩ ⟨.inl (.inl rfl),trivial⟩ trivial rfl ?_
 refine za (wm (.row _ _) rfl) ?_
 refine zd ?_
 refine zd ?_
 refine zk hN rfl ?_
 refine za (zh (.row _ _) rfl) ?_
 refine zm (Yy qr rfl rfl) rfl ?_
 refine qd rfl ?_
 refine zu ?_
 obtain ⟨h9,H⟩:=gif H
 refine Zt (fun (k7:Nat) (s:(List Bs))=>[(5,.row 2 s.length),(12,.row 2 s.length),(13,.dat (vint (r4.length:Int))),(14,.dat (vint (k7:Int)))]) (fun (k7:Nat) (s:(List Bs))=>[(2,.row 9 1 (List.map zt s))]) r4 H ⟨rfl,rfl,rfl,rfl,trivial⟩ ⟨rfl,trivial⟩ (fun _ _=>rfl) ?_ ?_
 ·rintro l6 H
  replace H:y0z l6=some r:=H
  unfold y0z at H
  refine zd ?_
  refine zk hN rfl ?_
  refine za (zw rfl rfl) ?_
  refine zd ?_
  refine zf _ rfl (fun h=>(lt_t h).elim) (fun h => ?_)
  refine yp ?_
  refine zd ?_
  refine zd ?_
  refine z0y 5 2 rfl rfl rfl ?_
  refine zk hN rfl ?_
  refine qd rfl ?_
  obtain ⟨r10,h11,H⟩:=bnd H
  refine za (zo (x0w l6 [42] r10 h11) ⟨.inl rfl,.inl rfl,trivial⟩) ?_
  refine zf _ rfl (fun h12 => ?_) (fun h12 => ?_)
  ·replace H:=ift h12 H
   refine zd ?_
   refine zk hN rfl ?_
   refine qe rfl ?_
   refine qe rfl ?_
   refine qe rfl ?_
   refine zg ?_
   cases H
   exact ⟨trivial,.inr ⟨rfl,rfl⟩,.inl rfl,.inl rfl,trivial⟩
  ·replace H:=iff_ h12 H
   refine zl ?_
   refine zd ?_
   refine zk hN rfl ?_
   refine qd rfl ?_
   obtain ⟨r13,h14,H⟩:=bnd H
   refine za (zo (x8j l6 r13 h14) ⟨.inl rfl,trivial⟩) ?_
   refine qe rfl ?_
   refine zd ?_
   refine zd ?_
   refine zk hN rfl ?_
   refine qd rfl ?_
   refine za (yk qr rfl) ?_
   refine za (qh rfl rfl) ?_
   refine zf _ rfl (fun h15 => ?_) (fun h15 => ?_)
   ·replace H:=ift h15 H
    refine zd ?_
    refine zk hN rfl ?_
    refine qe rfl ?_
    refine qe rfl ?_
    refine qe rfl ?_
    refine zg ?_
    cases H
    exact ⟨trivial,.inr ⟨rfl,rfl⟩,.inl rfl,.inl rfl,trivial⟩
   ·replace H:=iff_ h15 H
    refine zl ?_
    refine zd ?_
    refine zk hN rfl ?_
    refine qd rfl ?_
    refine qe rfl ?_
    refine qe rfl ?_
    refine qe rfl ?_
    refine zg ?_
    cases H
    exact ⟨trivial,.inl rfl,.inl rfl,.inl rfl,trivial⟩
 ·rintro k7 l6 q8 h16 H hq8
  replace H:x2i k7 l6=some q8:=H
  unfold x2i at H
  refine zd ?_
  refine zk hN rfl ?_
  refine za (zw rfl rfl) ?_
  refine zd ?_
  refine zf _ rfl (fun h => ?_) (fun h=>(lt_f h16 h).elim)
  refine zl ?_
  refine zd ?_
  refine zu ?_
  refine zd ?_
  refine zk hN rfl ?_
  refine qd rfl ?_
  obtain ⟨x17,h18,H⟩:=bnd H
  refine zm (z67 wv rfl rfl rfl h18) rfl ?_
  refine zm (z0x tyS9 rfl rfl h18 rfl) rfl ?_
  refine qe rfl ?_
  refine qe rfl ?_
  refine zd ?_
  refine zd ?_
  refine zk hN rfl ?_
  refine qd rfl ?_
  obtain ⟨r19,h20,H⟩:=bnd H
  refine za (zo (y4w x17 r19 h20) ⟨.inl rfl,trivial⟩) ?_
  refine za (yv rfl) ?_
  refine zf _ rfl (fun h21 => ?_) (fun h21 => ?_)
  ·replace H:=ift h21 H
   refine zd ?_
   refine zk hN rfl ?_
   refine qe rfl ?_
   refine qe rfl ?_
   refine qe rfl ?_
   refine zg ?_
   replace H:=retl H hq8
   cases H
   exact ⟨trivial,.inr ⟨rfl,rfl⟩,.inl rfl,.inl rfl,trivial⟩
  ·replace H:=iff_ h21 H
   refine zl ?_
   refine zk hN rfl ?_
   refine za (zh (.row _ _) rfl) ?_
   refine qd rfl ?_
   refine qd rfl ?_
   obtain ⟨r22,h23,H⟩:=bnd H
   refine za (zo (x71 x17 r22 h23) ⟨.inl rfl,trivial⟩) ?_
   refine zm (z67 wv rfl rfl rfl h18) rfl ?_
   refine zj (y2e r22 tyS9 rfl rfl rfl rfl h18 rfl rfl) rfl ?_
   refine zk hN rfl ?_
   refine za (qi rfl rfl (by omega)) ?_
   refine qd rfl ?_
   exact ⟨_,yw H,⟨congrArg (Slot.row 2) (by simp),congrArg (Slot.row 2) (by simp),rfl,rfl,trivial⟩,⟨rfl,trivial⟩⟩
theorem v1n (c1:qo) (r:(Int)) (H:z9v c1=some r):Fn Tryz.prog 97 [vagg (kx c1)] (zr [vint r]):=by
 refine ⟨by kernel_rfl,zx (us:=[vint r]) Tryz.func97 rfl rfl rfl rfl fun X hN => ?_⟩
 unfold z9v at H
 refine zd ?_
 refine zk hN rfl ?_
 refine zj (qu 1 rfl) rfl ?_
 refine qe rfl ?_
 refine zd ?_
 refine zu ?_
 refine zd ?_
 refine zk hN rfl ?_
 refine za (zn x4w rfl) ?_
 refine zm (zp tyS4 rfl rfl) rfl ?_
 refine qe rfl ?_
 refine zf _ rfl (fun h2 => ?_) (fun h2 => ?_)
 ·replace H:=ift h2 H
  refine zd ?_
  refine zk hN rfl ?_
  refine qe rfl ?_
  refine zg ?_
  cases H
  exact ⟨trivial,.inl rfl,trivial⟩
 ·replace H:=iff_ h2 H
  refine zd ?_
  refine zk hN rfl ?_
  refine za (zn y67 rfl) ?_
  refine zm (zp tyS3 rfl rfl) rfl ?_
  refine za (qj rfl rfl) ?_
  refine qe rfl ?_
  refine zf _ rfl (fun h3 => ?_) (fun h3 => ?_)
  ·replace H:=ift h3 H
   refine zd ?_
   refine zk hN rfl ?_
   refine za (zn y67 rfl) ?_
   refine zm (zp tyS3 rfl rfl) rfl ?_
   refine za (yl _ rfl rfl (.inr (.inr ⟨rfl,rfl⟩))) ?_
   refine qe rfl ?_
   refine zg ?_
   cases H
   exact ⟨trivial,.inl rfl,trivial⟩
  ·replace H:=iff_ h3 H
   refine zd ?_
   refine zk hN rfl ?_
   refine za (zn y68 rfl) ?_
   refine zm (zp tyS3 rfl rfl) rfl ?_
   refine za (qj rfl rfl) ?_
   refine qe rfl ?_
   refine zf _ rfl (fun h4 => ?_) (fun h4 => ?_)
   ·replace H:=ift h4 H
    refine zd ?_
    refine zk hN rfl ?_
    refine za (zn y68 rfl) ?_
    refine zm (zp tyS3 rfl rfl) rfl ?_
    refine za (yl _ rfl rfl (.inr (.inr ⟨rfl,rfl⟩))) ?_
    refine qe rfl ?_
    refine zg ?_
    cases H
    exact ⟨trivial,.inl rfl,trivial⟩
   ·replace H:=iff_ h4 H
    refine zl ?_
    refine zd ?_
    refine zk hN rfl ?_
    refine qe rfl ?_
    refine zg ?_
    cases H
    exact ⟨trivial,.inl rfl,trivial⟩
theorem v1p (a1:xa) (r:(Int×Int)) (H:z9w a1=some r):Fn Tryz.prog 40 [vagg (y6a a1)] (zr [vint r.1,vint r.2]):=by
 refine ⟨by kernel_rfl,zx (us:=[vint r.1,vint r.2]) Tryz.func40 rfl rfl rfl rfl fun X hN => ?_⟩
 unfold z9w at H
 refine zd ?_
 refine zk hN rfl ?_
 refine zj (qu 1 rfl) rfl ?_
 refine qe rfl ?_
 refine qe rfl ?_
 refine zd ?_
 refine zd ?_
 refine zk hN rfl ?_
 refine zm (qc x3x rfl rfl rfl) rfl ?_
 obtain ⟨r2,h3,H⟩:=bnd H
 refine za (zo (v0e a1 r2 h3) ⟨.inl rfl,trivial⟩) ?_
 refine qe rfl ?_
 refine zd ?_
 refine zk hN rfl ?_
 refine qd rfl ?_
 refine za (qj rfl rfl) ?_
 refine zf _ rfl (fun h4 => ?_) (fun h4 => ?_)
 ·replace H:=ift h4 H
  refine zd ?_
  refine zk hN rfl ?_
  refine qd rfl ?_
  refine qe rfl ?_
  refine qe rfl ?_
  refine zg ?_
  cases H
  exact ⟨trivial,.inl rfl,.inl rfl,trivial⟩
 ·replace H:=iff_ h4 H
  refine zl ?_
  refine zd ?_
  refine zk hN rfl ?_
  refine za (zn y7d rfl) ?_
  refine zm (zp z2u rfl rfl) rfl ?_
  obtain ⟨r5,h6,H⟩:=bnd H
  refine za (zo (v1m a1.Headers r5 h6) ⟨.inl rfl,trivial⟩) ?_
  refine qd rfl ?_
  refine za (ye rfl rfl) ?_
  refine za (ye rfl rfl) ?_
  refine zj (qm 2 z6l rfl) rfl ?_
  refine zj (yo Qu rfl rfl rfl rfl) rfl ?_
  refine qe rfl ?_
  refine zd ?_
  refine zd ?_
  refine zk hN rfl ?_
  refine qd rfl ?_
  refine za (qj rfl rfl) ?_
  refine zf _ rfl (fun h7 => ?_) (fun h7 => ?_)
  ·replace H:=ift h7 H
   refine zd ?_
   refine zk hN rfl ?_
   refine qd rfl ?_
   refine qe rfl ?_
   refine qe rfl ?_
   refine zg ?_
   cases H
   exact ⟨trivial,.inl rfl,.inl rfl,trivial⟩
  ·replace H:=iff_ h7 H
   refine zl ?_
   refine zd ?_
   refine zd ?_
   refine zk hN rfl ?_
   refine zm (qc x3x rfl rfl rfl) rfl ?_
   obtain ⟨r8,h9,H⟩:=bnd H
   refine za (zo (v1j a1 r8 h9) ⟨.inl rfl,trivial⟩) ?_
   refine qd rfl ?_
   refine za (ye rfl rfl) ?_
   refine za (ye rfl rfl) ?_
   refine za (ye rfl rfl) ?_
   refine qe rfl ?_
   refine qe rfl ?_
   refine qe rfl ?_
   refine zd ?_
   refine zk hN rfl ?_
   refine qd rfl ?_
   refine za (qj rfl rfl) ?_
   refine zf _ rfl (fun h10 => ?_) (fun h10 => ?_)
   ·replace H:=ift h10 H
    refine zd ?_
    refine zk hN rfl ?_
    refine qd rfl ?_
    refine qe rfl ?_
    refine qe rfl ?_
    refine zg ?_
    cases H
    exact ⟨trivial,.inl rfl,.inl rfl,trivial⟩
   ·replace H:=iff_ h10 H
    refine zl ?_
    refine zd ?_
    refine zk hN rfl ?_
    refine zm (qc Qu rfl rfl rfl) rfl ?_
    obtain ⟨r11,h12,H⟩:=bnd H
    refine za (zo (v1n r5.1 r11 h12) ⟨.inl rfl,trivial⟩) ?_
    refine qe rfl ?_
    refine qe rfl ?_
    refine zg ?_
    cases H
    exact ⟨trivial,.inl rfl,.inl rfl,trivial⟩
theorem v0s  (r:(Bool)) (H:z9b  = some r):Fn Tryz.prog 14 [] (zr [zi r]):=by
 refine ⟨by kernel_rfl,zx (us:=[zi r]) Tryz.func14 rfl rfl rfl rfl fun X hN => ?_⟩
 unfold z9b at H
 refine zd ?_
 refine zk hN rfl ?_
 refine qe rfl ?_
 refine zd ?_
 refine zk hN rfl ?_
 obtain ⟨r1,h2,H⟩:=bnd H
 refine za (zo (v0d [47,97,47,46,46,47,98] r1 h2) ⟨.inl rfl,trivial⟩) ?_
 refine qd rfl ?_
 refine za (ye rfl rfl) ?_
 refine za (ye rfl rfl) ?_
 refine qe rfl ?_
 refine qe rfl ?_
 refine zd ?_
 refine zk hN rfl ?_
 refine za (yg (u':=vagg (un (jn.mk [97] 1))) (qv [(0,[vstr [97]]),(1,[vint 1])] y1g w1p rfl ⟨rfl,.inl ⟨_,rfl,rfl,rfl⟩,rfl,rfl,.inl ⟨_,rfl,rfl,rfl⟩,rfl,trivial⟩) rfl) ?_
 refine za (yg (u':=vlst (List.map un [(jn.mk [97] 1)])) (qy [_] w1w ⟨rfl,.inr rfl,rfl,trivial⟩ rfl rfl) rfl) ?_
 obtain ⟨r3,h4,H⟩:=bnd H
 refine za (zo (w72 ([(jn.mk [97] 1)]) 2 r3 h4) ⟨.inl rfl,.inl rfl,trivial⟩) ?_
 refine qd rfl ?_
 refine za (ye rfl rfl) ?_
 refine za (ye rfl rfl) ?_
 refine qe rfl ?_
 refine qe rfl ?_
 refine zd ?_
 refine zk hN rfl ?_
 refine za (yg (u':=vagg (kw (ql.mk [99,97,99,104,101,45,99,111,110,116,114,111,108] [109,97,120,45,97,103,101,61,50]))) (qv [(0,[vstr [99,97,99,104,101,45,99,111,110,116,114,111,108]]),(1,[vstr [109,97,120,45,97,103,101,61,50]])] y1d x30 rfl ⟨rfl,.inl ⟨_,rfl,rfl,rfl⟩,rfl,rfl,.inl ⟨_,rfl,rfl,rfl⟩,rfl,trivial⟩) rfl) ?_
 refine za (yg (u':=vlst (List.map kw [(ql.mk [99,97,99,104,101,45,99,111,110,116,114,111,108] [109,97,120,45,97,103,101,61,50])])) (qy [_] x37 ⟨rfl,.inr rfl,rfl,trivial⟩ rfl rfl) rfl) ?_
 refine za (yg (u':=vagg (y6a (xa.mk 200 ([(ql.mk [99,97,99,104,101,45,99,111,110,116,114,111,108] [109,97,120,45,97,103,101,61,50])]) []))) (qv [(0,[vint 200]),(1,[vlst (List.map kw ([(ql.mk [99,97,99,104,101,45,99,111,110,116,114,111,108] [109,97,120,45,97,103,101,61,50])]))])] w09 w1o rfl ⟨rfl,.inl ⟨_,rfl,rfl,rfl⟩,rfl,rfl,.inl ⟨_,rfl,rfl,rfl⟩,rfl,trivial⟩) rfl) ?_
 obtain ⟨r5,h6,H⟩:=bnd H
 refine za (zo (v1p (xa.mk 200 ([(ql.mk [99,97,99,104,101,45,99,111,110,116,114,111,108] [109,97,120,45,97,103,101,61,50])]) []) r5 h6) ⟨.inl rfl,trivial⟩) ?_
 refine qd rfl ?_
 refine za (ye rfl rfl) ?_
 refine za (ye rfl rfl) ?_
 refine qe rfl ?_
 refine qe rfl ?_
 refine yc (ι:=Bool) (fun i=>[(0,.dat (zi i))]) (fun i=>[]) (fun i=>Zp i=some r) (fun i=>rfl) ?_ ?_
 ·skip
  refine zk hN rfl ?_
  refine qd rfl ?_
  refine za (yn rfl rfl) ?_
  refine qd rfl ?_
  refine yi (j:=2) rfl rfl (fun h7 => ?_) (fun h7 => ?_) rfl
  ·have h8:=un1 h7
   replace H:=ift h8 H
   refine ze rfl rfl h7 (zh (.dat _) rfl) ?_
   refine ze rfl rfl h7 (vz rfl rfl) ?_
   refine za (yb rfl (bTT h8) rfl) ?_
   refine qd rfl ?_
   refine yi (j:=6) rfl rfl (fun h9 => ?_) (fun h9 => ?_) rfl
   ·have h10:=un1 h9
    replace H:=ift h10 H
    refine ze rfl rfl h9 (zh (.dat _) rfl) ?_
    refine ze rfl rfl h9 (yn rfl rfl) ?_
    refine za (yb rfl (bTT h10) rfl) ?_
    refine qd rfl ?_
    refine yi (j:=10) rfl rfl (fun h11 => ?_) (fun h11 => ?_) rfl
    ·have h12:=un1 h11
     replace H:=ift h12 H
     refine ze rfl rfl h11 (zh (.dat _) rfl) ?_
     refine ze rfl rfl h11 (yk qr rfl) ?_
     refine ze rfl rfl h11 (yn rfl rfl) ?_
     refine za (yb rfl (bTT h12) rfl) ?_
     refine qd rfl ?_
     refine yi (j:=15) rfl rfl (fun h13 => ?_) (fun h13 => ?_) rfl
     ·have h14:=un1 h13
      replace H:=ift h14 H
      refine ze rfl rfl h13 (zh (.dat _) rfl) ?_
      refine ze rfl rfl h13 (yn rfl rfl) ?_
      refine za (yb rfl (bTT h14) rfl) ?_
      refine qd rfl ?_
      refine yi (j:=19) rfl rfl (fun h15 => ?_) (fun h15 => ?_) rfl
      ·have h16:=un1 h15
       replace H:=ift h16 H
       refine ze rfl rfl h15 (zh (.dat _) rfl) ?_
       refine ze rfl rfl h15 (yn rfl rfl) ?_
       refine za (yb rfl (bTT h16) rfl) ?_
       refine qd rfl ?_
       refine yi (j:=23) rfl rfl (fun h17 => ?_) (fun h17 => ?_) rfl
       ·have h18:=un1 h17
        replace H:=ift h18 H
        obtain ⟨r19,h20,H⟩:=bnd H
        refine ze rfl rfl h17 (zo (x7z [97,98] r19 h20) ⟨.inl rfl,trivial⟩) ?_
        refine ze rfl rfl h17 (vz rfl rfl) ?_
        refine za (yb rfl (bTT h18) rfl) ?_
        refine qe rfl ?_
        exact ⟨decide (r19=[89,87,73]),H,⟨rfl,trivial⟩,trivial⟩
       ·have h21:=un2 h17
        replace H:=iff_ h21 H
        refine zc rfl rfl h17 ?_
        refine zc rfl rfl h17 ?_
        refine za (ya rfl (bFF h21) rfl) ?_
        refine qe rfl ?_
        exact ⟨false,H,⟨rfl,trivial⟩,trivial⟩
      ·have h22:=un2 h15
       replace H:=iff_ h22 H
       refine zc rfl rfl h15 ?_
       refine zc rfl rfl h15 ?_
       refine za (ya rfl (bFF h22) rfl) ?_
       refine qd rfl ?_
       refine zc rfl rfl rfl ?_
       refine zc rfl rfl rfl ?_
       refine za (ya rfl rfl rfl) ?_
       refine qe rfl ?_
       exact ⟨false,H,⟨rfl,trivial⟩,trivial⟩
     ·have h23:=un2 h13
      replace H:=iff_ h23 H
      refine zc rfl rfl h13 ?_
      refine zc rfl rfl h13 ?_
      refine za (ya rfl (bFF h23) rfl) ?_
      refine qd rfl ?_
      refine zc rfl rfl rfl ?_
      refine zc rfl rfl rfl ?_
      refine za (ya rfl rfl rfl) ?_
      refine qd rfl ?_
      refine zc rfl rfl rfl ?_
      refine zc rfl rfl rfl ?_
      refine za (ya rfl rfl rfl) ?_
      refine qe rfl ?_
      exact ⟨false,H,⟨rfl,trivial⟩,trivial⟩
    ·have h24:=un2 h11
     replace H:=iff_ h24 H
     refine zc rfl rfl h11 ?_
     refine zc rfl rfl h11 ?_
     refine zc rfl rfl h11 ?_
     refine za (ya rfl (bFF h24) rfl) ?_
     refine qd rfl ?_
     refine zc rfl rfl rfl ?_
     refine zc rfl rfl rfl ?_
     refine za (ya rfl rfl rfl) ?_
     refine qd rfl ?_
     refine zc rfl rfl rfl ?_
     refine zc rfl rfl rfl ?_
     refine za (ya rfl rfl rfl) ?_
     refine qd rfl ?_
     refine zc rfl rfl rfl ?_
     refine zc rfl rfl rfl ?_
     refine za (ya rfl rfl rfl) ?_
     refine qe rfl ?_
     exact ⟨false,H,⟨rfl,trivial⟩,trivial⟩
   ·have h25:=un2 h9
    replace H:=iff_ h25 H
    refine zc rfl rfl h9 ?_
    refine zc rfl rfl h9 ?_
    refine za (ya rfl (bFF h25) rfl) ?_
    refine qd rfl ?_
    refine zc rfl rfl rfl ?_
    refine zc rfl rfl rfl ?_
    refine zc rfl rfl rfl ?_
    refine za (ya rfl rfl rfl) ?_
    refine qd rfl ?_
    refine zc rfl rfl rfl ?_
    refine zc rfl rfl rfl ?_
    refine za (ya rfl rfl rfl) ?_
    refine qd rfl ?_
    refine zc rfl rfl rfl ?_
    refine zc rfl rfl rfl ?_
    refine za (ya rfl rfl rfl) ?_
    refine qd rfl ?_
    refine zc rfl rfl rfl ?_
    refine zc rfl rfl rfl ?_
    refine za (ya rfl rfl rfl) ?_
    refine qe rfl ?_
    exact ⟨false,H,⟨rfl,trivial⟩,trivial⟩
  ·have h26:=un2 h7
   replace H:=iff_ h26 H
   refine zc rfl rfl h7 ?_
   refine zc rfl rfl h7 ?_
   refine za (ya rfl (bFF h26) rfl) ?_
   refine qd rfl ?_
   refine zc rfl rfl rfl ?_
   refine zc rfl rfl rfl ?_
   refine za (ya rfl rfl rfl) ?_
   refine qd rfl ?_
   refine zc rfl rfl rfl ?_
   refine zc rfl rfl rfl ?_
   refine zc rfl rfl rfl ?_
   refine za (ya rfl rfl rfl) ?_
   refine qd rfl ?_
   refine zc rfl rfl rfl ?_
   refine zc rfl rfl rfl ?_
   refine za (ya rfl rfl rfl) ?_
   refine qd rfl ?_
   refine zc rfl rfl rfl ?_
   refine zc rfl rfl rfl ?_
   refine za (ya rfl rfl rfl) ?_
   refine qd rfl ?_
   refine zc rfl rfl rfl ?_
   refine zc rfl rfl rfl ?_
   refine za (ya rfl rfl rfl) ?_
   refine qe rfl ?_
   exact ⟨false,H,⟨rfl,trivial⟩,trivial⟩
 ·rintro v27 H
  replace H:Zp v27=some r:=H
  unfold Zp at H
  refine zg ?_
  cases H
  exact ⟨trivial,.inl rfl,trivial⟩
theorem w9n (c1:yh) (apps2:(List yd)) (app3:Bs) (product4:Bs) (v5:Int) (r:(Int)) (H:z8p c1 apps2 app3 product4 v5=some r):Fn Tryz.prog 35 [vagg (jo c1),vlst (List.map wd apps2),vstr app3,vstr product4,vint v5] (zr [vint r]):=by
 refine ⟨by kernel_rfl,zx (us:=[vint r]) Tryz.func35 rfl rfl rfl rfl fun X hN => ?_⟩
 unfold z8p at H
 refine zd ?_
 refine zk hN rfl ?_
 refine zj (qu 1 rfl) rfl ?_
 refine qe rfl ?_
 refine zd ?_
 refine zk hN rfl ?_
 refine qd rfl ?_
 refine qd rfl ?_
 obtain ⟨r6,h7,H⟩:=bnd H
 refine za (zo (x0z apps2 app3 r6 h7) ⟨.inl rfl,.inl rfl,trivial⟩) ?_
 refine qd rfl ?_
 refine za (ye rfl rfl) ?_
 refine za (ye rfl rfl) ?_
 refine qe rfl ?_
 refine qe rfl ?_
 refine zd ?_
 refine zk hN rfl ?_
 refine zm (qc vj rfl rfl rfl) rfl ?_
 refine qd rfl ?_
 obtain ⟨r8,h9,H⟩:=bnd H
 refine za (zo (x0y c1 product4 r8 h9) ⟨.inl rfl,.inl rfl,trivial⟩) ?_
 refine qd rfl ?_
 refine za (ye rfl rfl) ?_
 refine za (ye rfl rfl) ?_
 refine qe rfl ?_
 refine qe rfl ?_
 refine zd ?_
 refine zd ?_
 refine zk hN rfl ?_
 refine qd rfl ?_
 refine za (yv rfl) ?_
 refine qd rfl ?_
 refine yu rfl rfl (fun hc=>zh (.dat _) rfl) ?_
 refine yu rfl rfl (fun hc=>yv (cnd (c:=(!(!r6.2))) hc)) ?_
 refine za (vk rfl rfl (fun hb=>(cnd (c:=(!(!r6.2))) (notI hb)))) ?_
 refine zf _ rfl (fun h10 => ?_) (fun h10 => ?_)
 ·replace H:=ift h10 H
  refine zd ?_
  refine zk hN rfl ?_
  refine qe rfl ?_
  refine zg ?_
  cases H
  exact ⟨trivial,.inl rfl,trivial⟩
 ·replace H:=iff_ h10 H
  refine zl ?_
  refine zd ?_
  refine zk hN rfl ?_
  refine qd rfl ?_
  obtain ⟨r11,h12,H⟩:=bnd H
  refine za (zo (x79 v5 r11 h12) ⟨.inl rfl,trivial⟩) ?_
  refine qe rfl ?_
  refine zg ?_
  cases H
  exact ⟨trivial,.inl rfl,trivial⟩
theorem w9y (c1:yh) (apps2:(List yd)) (l3:(List zq)) (app4:Bs) (product5:Bs) (v6:Int) (r:(zz×Int)) (H:z8v c1 apps2 l3 app4 product5 v6=some r):Fn Tryz.prog 12 [vagg (jo c1),vlst (List.map wd apps2),vlst (List.map yy l3),vstr app4,vstr product5,vint v6] (zr [vagg (qx r.1),vint r.2]):=by
 refine ⟨by kernel_rfl,zx (us:=[vagg (qx r.1),vint r.2]) Tryz.func12 rfl rfl rfl rfl fun X hN => ?_⟩
 unfold z8v at H
 refine zd ?_
 refine zk hN rfl ?_
 refine zj (qu 1 rfl) rfl ?_
 refine zj (qm 2 jz rfl) rfl ?_
 refine qe rfl ?_
 refine zd ?_
 refine zd ?_
 refine zk hN rfl ?_
 refine zm (qc vj rfl rfl rfl) rfl ?_
 refine qd rfl ?_
 refine qd rfl ?_
 obtain ⟨r7,h8,H⟩:=bnd H
 refine za (zo (x8d c1 apps2 l3 r7 h8) ⟨.inl rfl,.inl rfl,.inl rfl,trivial⟩) ?_
 refine qe rfl ?_
 refine zd ?_
 refine zk hN rfl ?_
 refine qd rfl ?_
 refine za (qj rfl rfl) ?_
 refine zf _ rfl (fun h9 => ?_) (fun h9 => ?_)
 ·replace H:=ift h9 H
  refine zd ?_
  refine zk hN rfl ?_
  refine za (yg (u':=vagg (qx (zz.mk 0 [] 0 0))) (qv [] jz z2x rfl trivial) rfl) ?_
  refine qd rfl ?_
  refine zj (yo qn rfl rfl rfl rfl) rfl ?_
  refine qe rfl ?_
  refine zg ?_
  cases H
  exact ⟨trivial,.inl ⟨_,_,_,qx (zz.mk 0 [] 0 0),rfl,rfl,rfl,rfl,qn⟩,.inl rfl,trivial⟩
 ·replace H:=iff_ h9 H
  refine zl ?_
  refine zd ?_
  refine zd ?_
  refine zk hN rfl ?_
  refine zm (qc vj rfl rfl rfl) rfl ?_
  refine qd rfl ?_
  refine qd rfl ?_
  refine qd rfl ?_
  refine qd rfl ?_
  obtain ⟨r10,h11,H⟩:=bnd H
  refine za (zo (w9n c1 apps2 app4 product5 v6 r10 h11) ⟨.inl rfl,.inl rfl,.inl rfl,.inl rfl,.inl rfl,trivial⟩) ?_
  refine qe rfl ?_
  refine zd ?_
  refine zk hN rfl ?_
  refine qd rfl ?_
  refine za (qj rfl rfl) ?_
  refine zf _ rfl (fun h12 => ?_) (fun h12 => ?_)
  ·replace H:=ift h12 H
   refine zd ?_
   refine zk hN rfl ?_
   refine za (yg (u':=vagg (qx (zz.mk 0 [] 0 0))) (qv [] jz z2x rfl trivial) rfl) ?_
   refine qd rfl ?_
   refine zj (yo qn rfl rfl rfl rfl) rfl ?_
   refine qe rfl ?_
   refine zg ?_
   cases H
   exact ⟨trivial,.inl ⟨_,_,_,qx (zz.mk 0 [] 0 0),rfl,rfl,rfl,rfl,qn⟩,.inl rfl,trivial⟩
  ·replace H:=iff_ h12 H
   refine zl ?_
   refine zd ?_
   refine zk hN rfl ?_
   refine zm (qc vj rfl rfl rfl) rfl ?_
   refine qd rfl ?_
   refine qd rfl ?_
   obtain ⟨r13,h14,H⟩:=bnd H
   refine za (zo (x8c c1 l3 v6 r13 h14) ⟨.inl rfl,.inl rfl,.inl rfl,trivial⟩) ?_
   refine qd rfl ?_
   refine za (ye rfl rfl) ?_
   refine za (ye rfl rfl) ?_
   refine qe rfl ?_
   refine qe rfl ?_
   refine zd ?_
   refine zk hN rfl ?_
   refine qd rfl ?_
   refine qd rfl ?_
   refine qd rfl ?_
   obtain ⟨r15,h16,H⟩:=bnd H
   refine za (zo (x8b r13.1 app4 product5 r15 h16) ⟨.inl rfl,.inl rfl,.inl rfl,trivial⟩) ?_
   refine zj (yo qn rfl rfl rfl rfl) rfl ?_
   refine qe rfl ?_
   refine zg ?_
   cases H
   exact ⟨trivial,.inl ⟨_,_,_,qx r15,rfl,rfl,rfl,rfl,qn⟩,.inl rfl,trivial⟩
theorem w8h (l1:(List (List Bs))) (r:(Int)) (H:z8g l1=some r):Fn Tryz.prog 36 [vlst (List.map x3g l1)] (zr [vint r]):=by
 refine ⟨by kernel_rfl,zx (us:=[vint r]) Tryz.func36 rfl rfl rfl rfl fun X hN => ?_⟩
 unfold z8g at H
 refine zd ?_
 refine zk hN rfl ?_
 refine qe rfl ?_
 refine zd ?_
 refine zd ?_
 refine zk hN rfl ?_
 refine qd rfl ?_
 refine za (yk w1b rfl) ?_
 refine qd rfl ?_
 refine zu ?_
 obtain ⟨h4,H⟩:=gif H
 refine qq (fun (k2:Nat) (s:Unit)=>[(6,.dat (vlst (List.map x3g l1))),(7,.dat (vint (l1.length:Int))),(8,.dat (vint (k2:Int)))]) (fun (k2:Nat) (s:Unit)=>[]) () H ⟨rfl,rfl,rfl,trivial⟩ trivial (fun _ _=>rfl) ?_ ?_
 ·rintro ⟨⟩ H
  replace H:y17=some r:=H
  unfold y17 at H
  refine zd ?_
  refine zk hN rfl ?_
  refine za (zw rfl rfl) ?_
  refine zd ?_
  refine zf _ rfl (fun h=>(lt_t h).elim) (fun h => ?_)
  refine yp ?_
  refine zd ?_
  refine zk hN rfl ?_
  refine qe rfl ?_
  refine zg ?_
  cases H
  exact ⟨trivial,.inl rfl,trivial⟩
 ·rintro k2 x5 ⟨⟩ q3 h6 h7 H hq3
  replace H:y16 k2 x5=some q3:=H
  unfold y16 at H
  refine zd ?_
  refine zk hN rfl ?_
  refine za (zw rfl rfl) ?_
  refine zd ?_
  refine zf _ rfl (fun h => ?_) (fun h=>(lt_f h6 h).elim)
  refine zl ?_
  refine zd ?_
  refine zu ?_
  refine zd ?_
  refine zk hN rfl ?_
  refine za (qp w2g (fun _=>rfl) rfl rfl h7) ?_
  refine za (yr vc rfl (ym h7) rfl) ?_
  refine qe rfl ?_
  refine zd ?_
  refine zk hN rfl ?_
  refine qd rfl ?_
  obtain ⟨r8,h9,H⟩:=bnd H
  refine za (zo (z93 x5 r8 h9) ⟨.inl rfl,trivial⟩) ?_
  refine qe rfl ?_
  refine zd ?_
  refine zk hN rfl ?_
  refine qd rfl ?_
  refine za (qj rfl rfl) ?_
  refine zf _ rfl (fun h10 => ?_) (fun h10 => ?_)
  ·replace H:=ift h10 H
   refine zd ?_
   refine zk hN rfl ?_
   refine qd rfl ?_
   refine qe rfl ?_
   refine zg ?_
   replace H:=retl H hq3
   cases H
   exact ⟨trivial,.inl rfl,trivial⟩
  ·replace H:=iff_ h10 H
   refine zl ?_
   refine zk hN rfl ?_
   refine za (qi rfl rfl (by omega)) ?_
   refine qd rfl ?_
   exact ⟨_,yw H,⟨rfl,rfl,rfl,trivial⟩,trivial⟩
theorem w8c (h1:Bs) (c2:Bs) (r:(Bool)) (H:z8c h1 c2=some r):Fn Tryz.prog 153 [vstr h1,wt [[vstr c2]] 0 0] (zr [zi r]):=by
 refine ⟨by kernel_rfl,zx (us:=[zi r]) Tryz.func153 rfl rfl rfl rfl fun X hN => ?_⟩
 unfold z8c at H
 refine zd ?_
 refine zk hN rfl ?_
 refine qe rfl ?_
 refine zd ?_
 refine zk hN rfl ?_
 refine qd rfl ?_
 refine za (yr tyS9 rfl rfl rfl) ?_
 obtain ⟨r3,h4,H⟩:=bnd H
 refine za (zo (x7y h1 c2 r3 h4) ⟨.inl rfl,.inl rfl,trivial⟩) ?_
 refine qe rfl ?_
 refine zg ?_
 cases H
 exact ⟨trivial,.inl rfl,trivial⟩
theorem w8d (l1:(List Bs)) (s2:Bs) (r:(Bool)) (H:z8d l1 s2=some r):Fn Tryz.prog 88 [vlst (List.map zt l1),vstr s2] (zr [zi r]):=by
 refine ⟨by kernel_rfl,zx (us:=[zi r]) Tryz.func88 rfl rfl rfl rfl fun X hN => ?_⟩
 unfold z8d at H
 refine zd ?_
 refine zk hN rfl ?_
 refine zj (Wg 1 rfl rfl) rfl ?_
 refine qe rfl ?_
 refine zd ?_
 refine xk 1 [vstr s2] rfl rfl ?_
 refine zk hN rfl ?_
 refine qd rfl ?_
 refine za (Ya (us:=[_]) ⟨rfl,trivial⟩) ?_
 obtain ⟨r3,h4,H⟩:=bnd H
 refine za (zo (x0x l1 (fun (a0:Bs)=>z8c a0 s2) 153 [wt [[vstr s2]] 0 0] (fun a0 r h=>w8c a0 s2 r h) r3 h4) ⟨.inl rfl,.inl rfl,trivial⟩) ?_
 refine qe rfl ?_
 refine zg ?_
 cases H
 exact ⟨trivial,.inl rfl,trivial⟩
theorem w8e (s1:Bs) (c2:(List Bs)) (r:(Bool)) (H:z8e s1 c2=some r):Fn Tryz.prog 87 [vstr s1,wt [[vlst (List.map zt c2)]] 0 0] (zr [zi r]):=by
 refine ⟨by kernel_rfl,zx (us:=[zi r]) Tryz.func87 rfl rfl rfl rfl fun X hN => ?_⟩
 unfold z8e at H
 refine zd ?_
 refine zk hN rfl ?_
 refine qe rfl ?_
 refine zd ?_
 refine zk hN rfl ?_
 refine za (yr vc rfl rfl rfl) ?_
 refine qd rfl ?_
 obtain ⟨r3,h4,H⟩:=bnd H
 refine za (zo (w8d c2 s1 r3 h4) ⟨.inl rfl,.inl rfl,trivial⟩) ?_
 refine za (yv rfl) ?_
 refine qe rfl ?_
 refine zg ?_
 cases H
 exact ⟨trivial,.inl rfl,trivial⟩
theorem w8f (v1:(List Bs)) (want2:(List Bs)) (r:(Bool)) (H:z8f v1 want2=some r):Fn Tryz.prog 37 [vlst (List.map zt v1),vlst (List.map zt want2)] (zr [zi r]):=by
 refine ⟨by kernel_rfl,zx (us:=[zi r]) Tryz.func37 rfl rfl rfl rfl fun X hN => ?_⟩
 unfold z8f at H
 refine zd ?_
 refine zk hN rfl ?_
 refine zj (Wg 1 rfl rfl) rfl ?_
 refine qe rfl ?_
 refine zd ?_
 refine xk 1 [vlst (List.map zt v1)] rfl rfl ?_
 refine zk hN rfl ?_
 refine qd rfl ?_
 refine za (Ya (us:=[_]) ⟨rfl,trivial⟩) ?_
 obtain ⟨r3,h4,H⟩:=bnd H
 refine za (zo (x0x want2 (fun (a0:Bs)=>z8e a0 v1) 87 [wt [[vlst (List.map zt v1)]] 0 0] (fun a0 r h=>w8e a0 v1 r h) r3 h4) ⟨.inl rfl,.inl rfl,trivial⟩) ?_
 refine za (yv rfl) ?_
 refine qe rfl ?_
 refine zg ?_
 cases H
 exact ⟨trivial,.inl rfl,trivial⟩
theorem w8s (v1:(List Bs)) (want2:(List Bs)) (r:(Bool×Int)) (H:z8j v1 want2=some r):Fn Tryz.prog 13 [vlst (List.map zt v1),vlst (List.map zt want2)] (zr [zi r.1,vint r.2]):=by
 refine ⟨by kernel_rfl,zx (us:=[zi r.1,vint r.2]) Tryz.func13 rfl rfl rfl rfl fun X hN => ?_⟩
 unfold z8j at H
 refine zd ?_
 refine zk hN rfl ?_
 refine qe rfl ?_
 refine qe rfl ?_
 refine zd ?_
 refine zd ?_
 refine zk hN rfl ?_
 refine qd rfl ?_
 refine qd rfl ?_
 refine za (yg (u':=vlst (List.map x3g [v1,want2])) (qy [[_],[_]] w1v ⟨rfl,.inl ⟨_,rfl,rfl,rfl⟩,rfl,rfl,.inl ⟨_,rfl,rfl,rfl⟩,rfl,trivial⟩ rfl rfl) rfl) ?_
 obtain ⟨r3,h4,H⟩:=bnd H
 refine za (zo (w8h [v1,want2] r3 h4) ⟨.inl rfl,trivial⟩) ?_
 refine qe rfl ?_
 refine zd ?_
 refine zk hN rfl ?_
 refine qd rfl ?_
 refine za (qj rfl rfl) ?_
 refine zf _ rfl (fun h5 => ?_) (fun h5 => ?_)
 ·replace H:=ift h5 H
  refine zd ?_
  refine zk hN rfl ?_
  refine qd rfl ?_
  refine qe rfl ?_
  refine qe rfl ?_
  refine zg ?_
  cases H
  exact ⟨trivial,.inl rfl,.inl rfl,trivial⟩
 ·replace H:=iff_ h5 H
  refine zl ?_
  refine zd ?_
  refine zk hN rfl ?_
  refine qd rfl ?_
  refine qd rfl ?_
  obtain ⟨r6,h7,H⟩:=bnd H
  refine za (zo (w8f v1 want2 r6 h7) ⟨.inl rfl,.inl rfl,trivial⟩) ?_
  refine qe rfl ?_
  refine qe rfl ?_
  refine zg ?_
  cases H
  exact ⟨trivial,.inl rfl,.inl rfl,trivial⟩
theorem v0t (v1:(List Int)) (r:(Bool)) (H:y4f v1=some r):Fn Tryz.prog 3 [vlst (List.map wi v1)] (zr [zi r]):=by
 refine ⟨by kernel_rfl,zx (us:=[zi r]) Tryz.func3 rfl rfl rfl rfl fun X hN => ?_⟩
 unfold y4f at H
 refine zd ?_
 refine zk hN rfl ?_
 refine qe rfl ?_
 refine zd ?_
 refine zk hN rfl ?_
 refine qd rfl ?_
 refine za (yg (u':=vagg (vf (zy.mk v1 0))) (qv [(0,[vlst (List.map wi v1)])] w04 w1l rfl ⟨rfl,.inl ⟨_,rfl,rfl,rfl⟩,rfl,trivial⟩) rfl) ?_
 refine zj (qu 1 rfl) rfl ?_
 refine za (wm (.ptr _ _) rfl) ?_
 refine zd ?_
 refine zk hN rfl ?_
 refine za (zh (.ptr _ _) rfl) ?_
 obtain ⟨r2,h3,H⟩:=bnd H
 refine zj (qt (v1a (zy.mk v1 0) r2 h3) rfl trivial rfl) rfl ?_
 refine za (zh (.ptr _ _) rfl) ?_
 obtain ⟨r4,h5,H⟩:=bnd H
 refine zj (qt (v1b r2.2 r4 h5) rfl trivial rfl) rfl ?_
 refine zj (qm 2 y1e rfl) rfl ?_
 refine zj (yo vj rfl rfl rfl rfl) rfl ?_
 refine qe rfl ?_
 refine zd ?_
 refine wg mixed hN rfl rfl ?_
 refine za (zh (.ptr _ _) rfl) ?_
 refine zm (qc vj rfl rfl rfl) rfl ?_
 refine qd rfl ?_
 refine za (zh (.ptr _ _) rfl) ?_
 obtain ⟨r6,h7,H⟩:=bnd H
 refine zj (qt (z96 r4.2 0 10 r6 h7) rfl ⟨.inl rfl,.inl rfl,trivial⟩ rfl) rfl ?_
 obtain ⟨r8,h9,H⟩:=bnd H
 refine zj (qt (v09 r6.2 r2.1 r4.1 r6.1 r8 h9) rfl ⟨.inl rfl,.inl rfl,.inl rfl,trivial⟩ rfl) rfl ?_
 refine qe rfl ?_
 refine ⟨rfl,?_⟩
 refine zd ?_
 refine zk hN rfl ?_
 refine za (zh (.ptr _ _) rfl) ?_
 obtain ⟨r10,h11,H⟩:=bnd H
 refine zj (qt (z96 r8.2 0 5184000000 r10 h11) rfl ⟨.inl rfl,.inl rfl,trivial⟩ rfl) rfl ?_
 refine qe rfl ?_
 refine zd ?_
 refine zk hN rfl ?_
 refine zm (qc vj rfl rfl rfl) rfl ?_
 refine qd rfl ?_
 refine qd rfl ?_
 refine qd rfl ?_
 obtain ⟨r12,h13,H⟩:=bnd H
 refine za (zo (w9z r2.1 r4.1 r8.1 [97,112,112,49] r10.1 r12 h13) ⟨.inl rfl,.inl rfl,.inl rfl,.inl rfl,.inl rfl,trivial⟩) ?_
 refine qd rfl ?_
 refine za (ye rfl rfl) ?_
 refine za (ye rfl rfl) ?_
 refine qe rfl ?_
 refine qe rfl ?_
 refine zd ?_
 refine zk hN rfl ?_
 obtain ⟨r14,h15,H⟩:=bnd H
 refine za (zo (w8m [103,97,116,101] [107,101,121,45,49] r14 h15) ⟨.inl rfl,.inl rfl,trivial⟩) ?_
 refine qd rfl ?_
 refine za (ye rfl rfl) ?_
 refine za (ye rfl rfl) ?_
 refine qe rfl ?_
 refine qe rfl ?_
 refine zd ?_
 refine zk hN rfl ?_
 refine qd rfl ?_
 refine qd rfl ?_
 refine za (yg (u':=vagg (Zv (vi.mk [97,112,112,49] r14.1 r12.1 0 345686400000))) (qv [(0,[vstr [97,112,112,49]]),(1,[vstr r14.1]),(2,[vlst (List.map zt r12.1)]),(4,[vint 345686400000])] y6n w1i rfl ⟨rfl,.inl ⟨_,rfl,rfl,rfl⟩,rfl,rfl,.inl ⟨_,rfl,rfl,rfl⟩,rfl,rfl,.inl ⟨_,rfl,rfl,rfl⟩,rfl,rfl,.inl ⟨_,rfl,rfl,rfl⟩,rfl,trivial⟩) rfl) ?_
 refine za (yg (u':=vlst (List.map Zv [(vi.mk [97,112,112,49] r14.1 r12.1 0 345686400000)])) (qy [_] w1q ⟨rfl,.inr rfl,rfl,trivial⟩ rfl rfl) rfl) ?_
 refine za (jc (u':=vagg (z6h (jm.mk [103,97,116,101] [115,104,111,112] [] [] ([(vi.mk [97,112,112,49] r14.1 r12.1 0 345686400000)]) 0))) (jb (by exact ⟨yf,yf,wo,wo,yf,yf,trivial⟩)) (qv [(0,[vstr [103,97,116,101]]),(1,[vstr [115,104,111,112]]),(4,[vlst (List.map Zv ([(vi.mk [97,112,112,49] r14.1 r12.1 0 345686400000)]))])] x3s w1h rfl ⟨rfl,.inl ⟨_,rfl,rfl,rfl⟩,rfl,rfl,.inl ⟨_,rfl,rfl,rfl⟩,rfl,rfl,.inl ⟨_,rfl,rfl,rfl⟩,rfl,trivial⟩)) ?_
 refine zj (qm 3 x3s rfl) rfl ?_
 refine zj (yo z2v rfl rfl rfl rfl) rfl ?_
 refine zd ?_
 refine zk hN rfl ?_
 refine zm (qc z2v rfl rfl rfl) rfl ?_
 refine qd rfl ?_
 refine za (yg (u':=vagg (kw (ql.mk [120,45,97,112,105,45,107,101,121] [107,101,121,45,49]))) (qv [(0,[vstr [120,45,97,112,105,45,107,101,121]]),(1,[vstr [107,101,121,45,49]])] y1d x30 rfl ⟨rfl,.inl ⟨_,rfl,rfl,rfl⟩,rfl,rfl,.inl ⟨_,rfl,rfl,rfl⟩,rfl,trivial⟩) rfl) ?_
 refine za (yg (u':=vlst (List.map kw [(ql.mk [120,45,97,112,105,45,107,101,121] [107,101,121,45,49])])) (qy [_] x37 ⟨rfl,.inr rfl,rfl,trivial⟩ rfl rfl) rfl) ?_
 refine za (yg (u':=vagg (x3f (xl.mk r10.1 [71,69,84] [97,46,98] [47] [] [] ([(ql.mk [120,45,97,112,105,45,107,101,121] [107,101,121,45,49])]) []))) (qv [(0,[vint r10.1]),(1,[vstr [71,69,84]]),(2,[vstr [97,46,98]]),(3,[vstr [47]]),(6,[vlst (List.map kw ([(ql.mk [120,45,97,112,105,45,107,101,121] [107,101,121,45,49])]))])] w01 w1g rfl ⟨rfl,.inl ⟨_,rfl,rfl,rfl⟩,rfl,rfl,.inl ⟨_,rfl,rfl,rfl⟩,rfl,rfl,.inl ⟨_,rfl,rfl,rfl⟩,rfl,rfl,.inl ⟨_,rfl,rfl,rfl⟩,rfl,rfl,.inl ⟨_,rfl,rfl,rfl⟩,rfl,trivial⟩) rfl) ?_
 obtain ⟨r16,h17,H⟩:=bnd H
 refine za (zo (w8x (jm.mk [103,97,116,101] [115,104,111,112] [] [] ([(vi.mk [97,112,112,49] r14.1 r12.1 0 345686400000)]) 0) (xl.mk r10.1 [71,69,84] [97,46,98] [47] [] [] ([(ql.mk [120,45,97,112,105,45,107,101,121] [107,101,121,45,49])]) []) r16 h17) ⟨.inl rfl,.inl rfl,trivial⟩) ?_
 refine qd rfl ?_
 refine za (ye rfl rfl) ?_
 refine za (ye rfl rfl) ?_
 refine zj (qm 4 kn rfl) rfl ?_
 refine zj (yo vu rfl rfl rfl rfl) rfl ?_
 refine qe rfl ?_
 refine zd ?_
 refine yc (ι:=Bool) (fun i=>[(4,.ptr 2 0),(5,.dat (vlst (List.map wd r4.1))),(6,.dat (vlst (List.map yy r8.1))),(7,.dat (vint r10.1)),(8,.dat (vlst (List.map zt r12.1))),(88,.dat (zi i))]) (fun i=>[(2,.box none 29 [.dat (vlst (List.map wb r2.1.Products)),.dat (vlst (List.map wj r2.1.Plans))])]) (fun i=>Yo r2 r4 r8 r10 r12 i=some r) (fun i=>rfl) ?_ ?_
 ·skip
  refine zk hN rfl ?_
  refine qd rfl ?_
  refine za (qj rfl rfl) ?_
  refine qd rfl ?_
  refine yi (j:=2) rfl rfl (fun h18 => ?_) (fun h18 => ?_) rfl
  ·have h19:=un3 h18
   replace H:=iff_ h19 H
   refine ze rfl rfl h18 (zh (.dat _) rfl) ?_
   refine ze rfl rfl h18 (qj rfl rfl) ?_
   refine za (ya rfl (bFF h19) rfl) ?_
   refine qd rfl ?_
   refine yi (j:=6) rfl rfl (fun h20 => ?_) (fun h20 => ?_) rfl
   ·have h21:=un3 h20
    replace H:=iff_ h21 H
    refine ze rfl rfl h20 (zh (.dat _) rfl) ?_
    refine ze rfl rfl h20 (qj rfl rfl) ?_
    refine za (ya rfl (bFF h21) rfl) ?_
    refine qd rfl ?_
    refine yi (j:=10) rfl rfl (fun h22 => ?_) (fun h22 => ?_) rfl
    ·have h23:=un3 h22
     replace H:=iff_ h23 H
     refine ze rfl rfl h22 (zn y1p rfl) ?_
     refine qz rfl rfl h22 (zp tyS3 rfl rfl) rfl ?_
     refine ze rfl rfl h22 (qj rfl rfl) ?_
     refine za (ya rfl (bFF h23) rfl) ?_
     refine qd rfl ?_
     refine yi (j:=15) rfl rfl (fun h24 => ?_) (fun h24 => ?_) rfl
     ·have h25:=un3 h24
      replace H:=iff_ h25 H
      refine ze rfl rfl h24 (zn y62 rfl) ?_
      refine qz rfl rfl h24 (zp tyS9 rfl rfl) rfl ?_
      refine ze rfl rfl h24 (js rfl rfl) ?_
      refine za (ya rfl (bFF h25) rfl) ?_
      refine qd rfl ?_
      refine yi (j:=20) rfl rfl (fun h26 => ?_) (fun h26 => ?_) rfl
      ·have h27:=un3 h26
       replace H:=iff_ h27 H
       refine ze rfl rfl h26 (zn z2y rfl) ?_
       refine qz rfl rfl h26 (zp vc rfl rfl) rfl ?_
       refine ze rfl rfl h26 (zh (.dat _) rfl) ?_
       obtain ⟨r28,h29,H⟩:=bnd H
       refine ze rfl rfl h26 (zo (x76 r16.1.Scopes r12.1 r28 h29) ⟨.inl rfl,.inl rfl,trivial⟩) ?_
       refine ze rfl rfl h26 (yv rfl) ?_
       refine za (ya rfl (bFF h27) rfl) ?_
       exact ⟨!r28,H,⟨rfl,rfl,rfl,rfl,rfl,rfl,trivial⟩,⟨rfl,trivial⟩⟩
      ·have h30:=un4 h26
       replace H:=ift h30 H
       refine zc rfl rfl h26 ?_
       refine zc rfl rfl h26 ?_
       refine zc rfl rfl h26 ?_
       refine zc rfl rfl h26 ?_
       refine zc rfl rfl h26 ?_
       refine za (yb rfl (bTT h30) rfl) ?_
       exact ⟨true,H,⟨rfl,rfl,rfl,rfl,rfl,rfl,trivial⟩,⟨rfl,trivial⟩⟩
     ·have h31:=un4 h24
      replace H:=ift h31 H
      refine zc rfl rfl h24 ?_
      refine zc rfl rfl h24 ?_
      refine zc rfl rfl h24 ?_
      refine za (yb rfl (bTT h31) rfl) ?_
      refine qd rfl ?_
      refine zc rfl rfl rfl ?_
      refine zc rfl rfl rfl ?_
      refine zc rfl rfl rfl ?_
      refine zc rfl rfl rfl ?_
      refine zc rfl rfl rfl ?_
      refine za (yb rfl rfl rfl) ?_
      exact ⟨true,H,⟨rfl,rfl,rfl,rfl,rfl,rfl,trivial⟩,⟨rfl,trivial⟩⟩
    ·have h32:=un4 h22
     replace H:=ift h32 H
     refine zc rfl rfl h22 ?_
     refine zc rfl rfl h22 ?_
     refine zc rfl rfl h22 ?_
     refine za (yb rfl (bTT h32) rfl) ?_
     refine qd rfl ?_
     refine zc rfl rfl rfl ?_
     refine zc rfl rfl rfl ?_
     refine zc rfl rfl rfl ?_
     refine za (yb rfl rfl rfl) ?_
     refine qd rfl ?_
     refine zc rfl rfl rfl ?_
     refine zc rfl rfl rfl ?_
     refine zc rfl rfl rfl ?_
     refine zc rfl rfl rfl ?_
     refine zc rfl rfl rfl ?_
     refine za (yb rfl rfl rfl) ?_
     exact ⟨true,H,⟨rfl,rfl,rfl,rfl,rfl,rfl,trivial⟩,⟨rfl,trivial⟩⟩
   ·have h33:=un4 h20
    replace H:=ift h33 H
    refine zc rfl rfl h20 ?_
    refine zc rfl rfl h20 ?_
    refine za (yb rfl (bTT h33) rfl) ?_
    refine qd rfl ?_
    refine zc rfl rfl rfl ?_
    refine zc rfl rfl rfl ?_
    refine zc rfl rfl rfl ?_
    refine za (yb rfl rfl rfl) ?_
    refine qd rfl ?_
    refine zc rfl rfl rfl ?_
    refine zc rfl rfl rfl ?_
    refine zc rfl rfl rfl ?_
    refine za (yb rfl rfl rfl) ?_
    refine qd rfl ?_
    refine zc rfl rfl rfl ?_
    refine zc rfl rfl rfl ?_
    refine zc rfl rfl rfl ?_
    refine zc rfl rfl rfl ?_
    refine zc rfl rfl rfl ?_
    refine za (yb rfl rfl rfl) ?_
    exact ⟨true,H,⟨rfl,rfl,rfl,rfl,rfl,rfl,trivial⟩,⟨rfl,trivial⟩⟩
  ·have h34:=un4 h18
   replace H:=ift h34 H
   refine zc rfl rfl h18 ?_
   refine zc rfl rfl h18 ?_
   refine za (yb rfl (bTT h34) rfl) ?_
   refine qd rfl ?_
   refine zc rfl rfl rfl ?_
   refine zc rfl rfl rfl ?_
   refine za (yb rfl rfl rfl) ?_
   refine qd rfl ?_
   refine zc rfl rfl rfl ?_
   refine zc rfl rfl rfl ?_
   refine zc rfl rfl rfl ?_
   refine za (yb rfl rfl rfl) ?_
   refine qd rfl ?_
   refine zc rfl rfl rfl ?_
   refine zc rfl rfl rfl ?_
   refine zc rfl rfl rfl ?_
   refine za (yb rfl rfl rfl) ?_
   refine qd rfl ?_
   refine zc rfl rfl rfl ?_
   refine zc rfl rfl rfl ?_
   refine zc rfl rfl rfl ?_
   refine zc rfl rfl rfl ?_
   refine zc rfl rfl rfl ?_
   refine za (yb rfl rfl rfl) ?_
   exact ⟨true,H,⟨rfl,rfl,rfl,rfl,rfl,rfl,trivial⟩,⟨rfl,trivial⟩⟩
 ·rintro v35 H
  replace H:Yo r2 r4 r8 r10 r12 v35=some r:=H
  unfold Yo at H
  refine zf _ rfl (fun h36 => ?_) (fun h36 => ?_)
  ·replace H:=ift h36 H
   refine zd ?_
   refine zk hN rfl ?_
   refine qe rfl ?_
   refine zg ?_
   cases H
   exact ⟨trivial,.inl rfl,trivial⟩
  ·replace H:=iff_ h36 H
   refine zl ?_
   refine zd ?_
   refine zd ?_
   refine zk hN rfl ?_
   refine za (zn z0q rfl) ?_
   refine zm (zp z0n rfl rfl) rfl ?_
   refine za (yk Qs rfl) ?_
   refine qd rfl ?_
   refine zu ?_
   obtain ⟨h39,H⟩:=gif H
   refine qq (fun (k37:Nat) (s:Unit)=>[(4,.ptr 2 0),(5,.dat (vlst (List.map wd r4.1))),(6,.dat (vlst (List.map yy r8.1))),(7,.dat (vint r10.1)),(8,.dat (vlst (List.map zt r12.1))),(90,.dat (vlst (List.map wb r2.1.Products))),(91,.dat (vint (r2.1.Products.length:Int))),(92,.dat (vint (k37:Int)))]) (fun (k37:Nat) (s:Unit)=>[(2,.box none 29 [.dat (vlst (List.map wb r2.1.Products)),.dat (vlst (List.map wj r2.1.Plans))])]) () H ⟨rfl,rfl,rfl,rfl,rfl,rfl,rfl,rfl,trivial⟩ ⟨rfl,trivial⟩ (fun _ _=>rfl) ?_ ?_
   ·rintro ⟨⟩ H
    replace H:y46=some r:=H
    unfold y46 at H
    refine zd ?_
    refine zk hN rfl ?_
    refine za (zw rfl rfl) ?_
    refine zd ?_
    refine zf _ rfl (fun h=>(lt_t h).elim) (fun h => ?_)
    refine yp ?_
    refine zd ?_
    refine zk hN rfl ?_
    obtain ⟨r41,h42,H⟩:=bnd H
    refine za (zo (v0s  r41 h42) trivial) ?_
    refine qe rfl ?_
    refine zg ?_
    cases H
    exact ⟨trivial,.inl rfl,trivial⟩
   ·rintro k37 x40 ⟨⟩ q38 h43 h44 H hq38
    replace H:y45 r2 r4 r8 r10 r12 k37 x40=some q38:=H
    unfold y45 at H
    refine zd ?_
    refine zk hN rfl ?_
    refine za (zw rfl rfl) ?_
    refine zd ?_
    refine zf _ rfl (fun h => ?_) (fun h=>(lt_f h43 h).elim)
    refine zl ?_
    refine zd ?_
    refine zu ?_
    refine zd ?_
    refine zk hN rfl ?_
    refine za (qp Qz (fun _=>rfl) rfl rfl h44) ?_
    refine za (vg Zh rfl (ym h44) rfl) ?_
    refine zj (qm 5 z2r rfl) rfl ?_
    refine zj (yo Zh rfl rfl rfl rfl) rfl ?_
    refine zd ?_
    refine zk hN rfl ?_
    refine zm (qc vj rfl rfl rfl) rfl ?_
    refine qd rfl ?_
    refine qd rfl ?_
    refine za (zn Zx rfl) ?_
    refine zm (zp tyS9 rfl rfl) rfl ?_
    refine qd rfl ?_
    obtain ⟨r45,h46,H⟩:=bnd H
    refine za (zo (w9y r2.1 r4.1 r8.1 [97,112,112,49] x40.Key r10.1 r45 h46) ⟨.inl rfl,.inl rfl,.inl rfl,.inl rfl,.inl rfl,.inl rfl,trivial⟩) ?_
    refine qd rfl ?_
    refine za (ye rfl rfl) ?_
    refine za (ye rfl rfl) ?_
    refine zj (qm 6 jz rfl) rfl ?_
    refine zj (yo qn rfl rfl rfl rfl) rfl ?_
    refine qe rfl ?_
    refine zd ?_
    refine zk hN rfl ?_
    refine qd rfl ?_
    refine za (zn y1o rfl) ?_
    refine zm (zp vc rfl rfl) rfl ?_
    obtain ⟨r47,h48,H⟩:=bnd H
    refine za (zo (w8s r12.1 x40.Scopes r47 h48) ⟨.inl rfl,.inl rfl,trivial⟩) ?_
    refine qd rfl ?_
    refine za (ye rfl rfl) ?_
    refine za (ye rfl rfl) ?_
    refine qe rfl ?_
    refine qe rfl ?_
    refine zd ?_
    refine zk hN rfl ?_
    refine qd rfl ?_
    refine za (qj rfl rfl) ?_
    refine qd rfl ?_
    refine yu rfl rfl (fun hc=>zh (.dat _) rfl) ?_
    refine yu rfl rfl (fun hc=>qj (cnd (c:=(!(decide (r45.2≠0)))) hc) rfl) ?_
    refine za (vk rfl rfl (fun hb=>(cnd (c:=(!(decide (r45.2≠0)))) (notI hb)))) ?_
    refine qd rfl ?_
    refine yu rfl rfl (fun hc=>zn jr rfl) ?_
    refine uk rfl rfl (fun hc=>zp tyS3 (cnd (c:=(!((decide (r45.2≠0)) || (decide (r47.2≠0))))) hc) rfl) rfl jf ?_
    refine yu rfl rfl (fun hc=>yn (cnd (c:=(!((decide (r45.2≠0)) || (decide (r47.2≠0))))) hc) rfl) ?_
    refine yu rfl rfl (fun hc=>zh (.dat _) (cnd (c:=(!((decide (r45.2≠0)) || (decide (r47.2≠0))))) hc)) ?_
    refine wz rfl rfl (fun hc=>zh (.dat _) rfl) ?_
    refine wz rfl rfl (fun hc=>yv (cnd (c:=((!((decide (r45.2≠0)) || (decide (r47.2≠0)))) && (decide (r45.1.State=2)))) hc)) ?_
    refine yu rfl rfl (fun hc=>wy (cnd (c:=(!((decide (r45.2≠0)) || (decide (r47.2≠0))))) hc) (fun hb=>(cnd (c:=((!((decide (r45.2≠0)) || (decide (r47.2≠0)))) && (decide (r45.1.State=2)))) (andI hc hb))) rfl) ?_
    refine za (vk rfl rfl (fun hb=>(cnd (c:=(!((decide (r45.2≠0)) || (decide (r47.2≠0))))) (notI hb)))) ?_
    refine zf _ rfl (fun h49 => ?_) (fun h49 => ?_)
    ·replace H:=ift h49 H
     refine zd ?_
     refine zk hN rfl ?_
     refine qe rfl ?_
     refine zg ?_
     replace H:=retl H hq38
     cases H
     exact ⟨trivial,.inl rfl,trivial⟩
    ·replace H:=iff_ h49 H
     refine zl ?_
     refine zk hN rfl ?_
     refine za (qi rfl rfl (by omega)) ?_
     refine qd rfl ?_
     exact ⟨_,yw H,⟨rfl,rfl,rfl,rfl,rfl,rfl,rfl,rfl,trivial⟩,⟨rfl,trivial⟩⟩
end Go.Proofs.YtbndlmnjeofkdacGreatDoor
