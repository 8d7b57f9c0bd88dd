/- Walks along the models. Printed by a program. -/
import Derived.Test.YtbcmpepmafpibabGreatDoorZow4
namespace Go.Proofs.YtbcmpepmafpibabGreatDoor
open Go.RowKit
set_option linter.unusedVariables false
set_option maxRecDepth 100000
set_option maxHeartbeats 2000000
theorem y9y (v1:Bs) (r:(Bs×Int×Int)) (H:z3p v1=some r):Fn Tryz.prog 84 [vstr v1] (zp [vstr r.1,vint r.2.1,vint r.2.2]):=by
 refine ⟨by kernel_rfl,zy (us:=[vstr r.1,vint r.2.1,vint r.2.2]) Tryz.func84 Z Z Z Z fun X hN => ?_⟩
 unfold z3p at H
 refine zc hN Z (qe Z (qe Z (qe Z (zc hN Z (qd Z (qe Z (qe Z (yc (ki (fun (s:Bs×Bs)=>[(0,.dat (vstr v1)),(5,.dat (vstr s.1)),(6,.dat (vstr s.2))]) (fun (s:Bs×Bs)=>[]) ([],v1) H ⟨Z,Z,Z,U⟩ U (fun _=>Z) ?_)))))))))
 rintro ⟨v2,v3⟩ q4 H hq4
 replace H:jy v1 v2 v3=some q4:=H
 unfold jy at H
 refine yc (zc hN Z (qd Z (bE H fun r5 h6 H=>za (zj (kf v3 [13,10] r5 h6) ⟨.inl Z,.inl Z,U⟩) (qd Z (za (zt Z Z) (za (zt Z Z) (za (zt Z Z) (qe Z (qe Z (qe Z (zc hN Z (qd Z (bE H fun r7 h8 H=>za (zj (y2e r5.1 16 64 r7 h8) ⟨.inl Z,.inl Z,.inl Z,U⟩) (qd Z (za (zt Z Z) (za (zt Z Z) (qe Z (qe Z (zh (zz (ι:=Bool) (fun i=>[(0,.dat (vstr v1)),(5,.dat (vstr v2)),(8,.dat (vstr r5.2.1)),(10,.dat (vint r7.1)),(46,.dat (zf i))]) (fun i=>[]) (fun i=>kw v1 v2 r5 r7 i=some q4) (fun i=>Z) ?_ ?_))))))))))))))))))))
 ·skip
  refine zq hN Z (qd Z (za (yk Z) (qd Z (zu (j:=2) Z Z (fun h9 => ?_) (fun h9 => ?_) Z))))
  ·refine u3 h9 H fun h10 H=>zd Z Z h9 (ze (.dat _) Z) (zd Z Z h9 (Wr (n:=r7.2) (show Tryz.prog.underlying 86=some (.interface (Tryz.prog.methodsAt 86)) from by kernel_rfl) Z) ?_)
   refine za (zl Z (bFF h10) Z) (qd Z (zu (j:=6) Z Z (fun h11 => ?_) (fun h11 => ?_) Z))
   ·refine u3 h11 H fun h12 H=>zd Z Z h11 (ze (.dat _) Z) (zd Z Z h11 (yi tyU9 Z) (bE H fun r13 h14 H=>zd Z Z h11 (zj (Yz (r5.1.length:Int) 1 8 r13 h14) ⟨.inl Z,.inl Z,.inl Z,U⟩) (zd Z Z h11 (yk Z) (za (zl Z (bFF h12) Z) (qd Z (zu (j:=12) Z Z (fun h15 => ?_) (fun h15 => ?_) Z))))))
    ·refine u3 h15 H fun h16 H=>zd Z Z h15 (ze (.dat _) Z) (bE H fun r17 h18 H=>zd Z Z h15 (zj (z0x r5.1 [48,49,50,51,52,53,54,55,56,57,97,98,99,100,101,102] r17 h18) ⟨.inl Z,.inl Z,U⟩) (zd Z Z h15 (yk Z) (za (zl Z (bFF h16) Z) (qd Z (zu (j:=17) Z Z (fun h19 => ?_) (fun h19 => ?_) Z)))))
     ·exact u3 h19 H fun h20 H=>zd Z Z h19 (ze (.dat _) Z) (zd Z Z h19 (ze (.dat _) Z) (bE H fun r21 h22 H=>zd Z Z h19 (zj (y2f r7.1 16 r21 h22) ⟨.inl Z,.inl Z,U⟩) (zd Z Z h19 (vc Z Z) (za (zl Z (bFF h20) Z) ⟨decide (r5.1≠r21),H,⟨Z,Z,Z,Z,Z,U⟩,U⟩))))
     ·exact u4 h19 H fun h23 H=>zb Z Z h19 (zb Z Z h19 (zb Z Z h19 (zb Z Z h19 (za (zm Z (bTT h23) Z) ⟨true,H,⟨Z,Z,Z,Z,Z,U⟩,U⟩))))
    ·exact u4 h15 H fun h24 H=>zb Z Z h15 (zb Z Z h15 (zb Z Z h15 (za (zm Z (bTT h24) Z) (qd Z (zb Z Z Z (zb Z Z Z (zb Z Z Z (zb Z Z Z (za (zm Z Z Z) ⟨true,H,⟨Z,Z,Z,Z,Z,U⟩,U⟩)))))))))
   ·exact u4 h11 H fun h25 H=>zb Z Z h11 (zb Z Z h11 (zb Z Z h11 (zb Z Z h11 (za (zm Z (bTT h25) Z) (qd Z (zb Z Z Z (zb Z Z Z (zb Z Z Z (za (zm Z Z Z) (qd Z (zb Z Z Z (zb Z Z Z (zb Z Z Z (zb Z Z Z (za (zm Z Z Z) ⟨true,H,⟨Z,Z,Z,Z,Z,U⟩,U⟩)))))))))))))))
  ·exact u4 h9 H fun h26 H=>zb Z Z h9 (zb Z Z h9 (za (zm Z (bTT h26) Z) (qd Z (zb Z Z Z (zb Z Z Z (zb Z Z Z (zb Z Z Z (za (zm Z Z Z) (qd Z (zb Z Z Z (zb Z Z Z (zb Z Z Z (za (zm Z Z Z) (qd Z (zb Z Z Z (zb Z Z Z (zb Z Z Z (zb Z Z Z (za (zm Z Z Z) ⟨true,H,⟨Z,Z,Z,Z,Z,U⟩,U⟩)))))))))))))))))))
 ·rintro v27 H
  replace H:kw v1 v2 r5 r7 v27=some q4:=H
  unfold kw at H
  refine zi _ Z (fun h28 => ?_) (fun h28 => ?_)
  ·refine tE h28 H fun H=>zc hN Z (qe Z (qe Z (qe Z (zg ?_))))
   replace H:=retl H hq4
   cases H
   exact ⟨U,.inl Z,.inl Z,.inl Z,U⟩
  ·refine fE h28 H fun H=>zn (zh (zc hN Z (qd Z (za (yi tyU9 Z) (qd Z (za (yf _ Z Z (.inl ⟨Z,Z⟩)) (za (qb Z Z) (zi _ Z (fun h29 => ?_) (fun h29 => ?_)))))))))
   ·refine tE h29 H fun H=>zc hN Z (qe Z (qe Z (qe Z (zg ?_))))
    replace H:=retl H hq4
    cases H
    exact ⟨U,.inl Z,.inl Z,.inl Z,U⟩
   ·refine fE h29 H fun H=>zn (zh (zz (ι:=Bool) (fun i=>[(0,.dat (vstr v1)),(5,.dat (vstr v2)),(8,.dat (vstr r5.2.1)),(10,.dat (vint r7.1)),(64,.dat (zf i))]) (fun i=>[]) (fun i=>z1f v1 v2 r5 r7 i=some q4) (fun i=>Z) ?_ ?_))
    ·skip
     refine zq hN Z (qd Z (za (yi tyU9 Z) (qd Z (za (yf _ Z Z (.inl ⟨Z,Z⟩)) (za (yg Z Z) (qd Z (zu (j:=5) Z Z (fun h30 => ?_) (fun h30 => ?_) Z)))))))
     ·exact u3 h30 H fun h31 H=>zd Z Z h30 (ze (.dat _) Z) (zd Z Z h30 (ze (.dat _) Z) (zd Z Z h30 (ze (.dat _) Z) (zd Z Z h30 (yf _ Z Z (.inl ⟨Z,Z⟩)) (bE H fun l32 h33 H=>zd Z Z h30 (qf tyU9 Z Z Z h33) (zd Z Z h30 (vc Z Z) (za (zl Z (bFF h31) Z) ⟨decide (l32≠[13,10]),H,⟨Z,Z,Z,Z,Z,U⟩,U⟩))))))
     ·exact u4 h30 H fun h34 H=>zb Z Z h30 (zb Z Z h30 (zb Z Z h30 (zb Z Z h30 (zb Z Z h30 (zb Z Z h30 (za (zm Z (bTT h34) Z) ⟨true,H,⟨Z,Z,Z,Z,Z,U⟩,U⟩))))))
    ·rintro v35 H
     replace H:z1f v1 v2 r5 r7 v35=some q4:=H
     unfold z1f at H
     refine zi _ Z (fun h36 => ?_) (fun h36 => ?_)
     ·refine tE h36 H fun H=>zc hN Z (qe Z (qe Z (qe Z (zg ?_))))
      replace H:=retl H hq4
      cases H
      exact ⟨U,.inl Z,.inl Z,.inl Z,U⟩
     ·refine fE h36 H fun H=>zn (zc hN Z (qd Z (qd Z (qd Z (bE H fun l37 h38 H=>za (qf tyU9 Z Z Z h38) (gE H fun h39 H=>za (yy Z Z (Nat.le_trans h39 (by decide))) (qe Z (zc hN Z (qd Z (qd Z (za (yf _ Z Z (.inl ⟨Z,Z⟩)) (bE H fun l40 h41 H=>za (qf tyU9 Z Z Z h41) (qe Z (zc hN Z (qd Z (za (yp Z Z) (zi _ Z (fun h42 => ?_) (fun h42 => ?_))))))))))))))))))
      ·refine tE h42 H fun H=>zc hN Z (qd Z (qd Z (za (yi tyU9 Z) (qd Z (za (yi tyU9 Z) (za (yf _ Z Z (.inr (.inl ⟨Z,Z⟩))) (qe Z (qe Z (qe Z (zg ?_))))))))))
       replace H:=retl H hq4
       cases H
       exact ⟨U,.inl Z,.inl Z,.inl Z,U⟩
      ·exact fE h42 H fun H=>zn ⟨_,qr H,⟨Z,Z,Z,U⟩,U⟩
theorem y9m (s1:Bs) (r:(Bool)) (H:z3h s1=some r):Fn Tryz.prog 85 [vstr s1] (zp [zf r]):=by
 refine ⟨by kernel_rfl,zy (us:=[zf r]) Tryz.func85 Z Z Z Z fun X hN => ?_⟩
 unfold z3h at H
 refine zc hN Z (qe Z (zz (ι:=Bool) (fun i=>[(2,.dat (zf i))]) (fun i=>[]) (fun i=>Zp i=some r) (fun i=>Z) ?_ ?_))
 ·skip
  refine zq hN Z (qd Z (za (vc Z Z) (qd Z (zu (j:=2) Z Z (fun h2 => ?_) (fun h2 => ?_) Z))))
  ·refine u1 h2 H fun h3 H=>zd Z Z h2 (ze (.dat _) Z) (bE H fun r4 h5 H=>zd Z Z h2 (zj (z0x s1 [48,49,50,51,52,53,54,55,56,57] r4 h5) ⟨.inl Z,.inl Z,U⟩) (za (zm Z (bTT h3) Z) (qd Z (zu (j:=6) Z Z (fun h6 => ?_) (fun h6 => ?_) Z))))
   ·refine u1 h6 H fun h7 H=>zd Z Z h6 (ze (.dat _) Z) (zd Z Z h6 (qy Z Z) (zd Z Z h6 (ze (.dat _) Z) (zu (j:=9) Z Z (fun h8 => ?_) (fun h8 => ?_) Z)))
    ·exact u3 h8 H fun h9 H=>zd Z Z h8 (ze (.dat _) Z) (bE H fun x10 h11 H=>zd Z Z h8 (qh tyU9 Z Z h11) (zd Z Z h8 (qk Z Z) (zd Z Z h6 (zl Z (bFF h9) Z) (za (zm Z (bTT h7) Z) (qe Z ⟨decide ((x10.toNat:Int)≠48),H,⟨Z,U⟩,U⟩)))))
    ·exact u4 h8 H fun h12 H=>zb Z Z h8 (zb Z Z h8 (zb Z Z h8 (zd Z Z h6 (zm Z (bTT h12) Z) (za (zm Z (bTT h7) Z) (qe Z ⟨true,H,⟨Z,U⟩,U⟩)))))
   ·exact u2 h6 H fun h13 H=>zb Z Z h6 (zb Z Z h6 (zb Z Z h6 (yh Z Z (yh Z Z (yh Z Z (zb Z Z h6 (za (zl Z (bFF h13) Z) (qe Z ⟨false,H,⟨Z,U⟩,U⟩))))))))
  ·exact u2 h2 H fun h14 H=>zb Z Z h2 (zb Z Z h2 (za (zl Z (bFF h14) Z) (qd Z (zb Z Z Z (zb Z Z Z (zb Z Z Z (yh Z Z (yh Z Z (yh Z Z (zb Z Z Z (za (zl Z Z Z) (qe Z ⟨false,H,⟨Z,U⟩,U⟩))))))))))))
 ·rintro v15 H
  replace H:Zp v15=some r:=H
  unfold Zp at H
  refine zg ?_
  cases H
  exact ⟨U,.inl Z,U⟩
theorem y2w (s1:Bs) (most2:Int) (r:(Int×Bool)) (H:Zi s1 most2=some r):Fn Tryz.prog 86 [vstr s1,vint most2] (zp [vint r.1,zf r.2]):=by
 refine ⟨by kernel_rfl,zy (us:=[vint r.1,zf r.2]) Tryz.func86 Z Z Z Z fun X hN => ?_⟩
 unfold Zi at H
 refine zc hN Z (qe Z (qe Z (zc hN Z (qd Z (bE H fun r3 h4 H=>za (zj (y2a s1 [45] r3 h4) ⟨.inl Z,.inl Z,U⟩) (qe Z (zh (zz (ι:=Bool) (fun i=>[(0,.dat (vstr s1)),(23,.dat (zf i))]) (fun i=>[]) (fun i=>kv s1 i=some r) (fun i=>Z) ?_ ?_))))))))
 ·skip
  refine zq hN Z (qd Z (za (qy Z Z) (qd Z (zu (j:=2) Z Z (fun h5 => ?_) (fun h5 => ?_) Z))))
  ·refine u3 h5 H fun h6 H=>zd Z Z h5 (ze (.dat _) Z) (zd Z Z h5 (yi tyU9 Z) (zd Z Z h5 (ze (.dat _) Z) (zd Z Z h5 (qb Z Z) (za (zl Z (bFF h6) Z) (qd Z (zu (j:=8) Z Z (fun h7 => ?_) (fun h7 => ?_) Z))))))
   ·exact u3 h7 H fun h8 H=>zd Z Z h7 (ze (.dat _) Z) (bE H fun r9 h10 H=>zd Z Z h7 (zj (z0x r3 [48,49,50,51,52,53,54,55,56,57] r9 h10) ⟨.inl Z,.inl Z,U⟩) (zd Z Z h7 (yk Z) (za (zl Z (bFF h8) Z) ⟨!r9,H,⟨Z,Z,U⟩,U⟩)))
   ·exact u4 h7 H fun h11 H=>zb Z Z h7 (zb Z Z h7 (zb Z Z h7 (za (zm Z (bTT h11) Z) ⟨true,H,⟨Z,Z,U⟩,U⟩)))
  ·exact u4 h5 H fun h12 H=>zb Z Z h5 (zb Z Z h5 (zb Z Z h5 (zb Z Z h5 (za (zm Z (bTT h12) Z) (qd Z (zb Z Z Z (zb Z Z Z (zb Z Z Z (za (zm Z Z Z) ⟨true,H,⟨Z,Z,U⟩,U⟩)))))))))
 ·rintro v13 H
  replace H:kv s1 v13=some r:=H
  unfold kv at H
  refine zi _ Z (fun h14 => ?_) (fun h14 => ?_)
  ·refine tE h14 H fun H=>zc hN Z (qe Z (qe Z (zg ?_)))
   cases H
   exact ⟨U,.inl Z,.inl Z,U⟩
  ·refine fE h14 H fun H=>zn (zc hN Z (qd Z (bE H fun r15 h16 H=>za (zj (z6f s1 r15 h16) ⟨.inl Z,U⟩) (qd Z (za (zt Z Z) (za (zt Z Z) (qe Z (qe Z (zz (ι:=Bool) (fun i=>[(4,.dat (vint r15.1)),(5,.dat (zf i))]) (fun i=>[]) (fun i=>z1b r15 i=some r) (fun i=>Z) ?_ ?_)))))))))
   ·skip
    refine zq hN Z (qd Z (qd Z (za (z43 (n:=r15.2) (show Tryz.prog.underlying 86=some (.interface (Tryz.prog.methodsAt 86)) from by kernel_rfl) Z) ?_)))
    refine qd Z (zu (j:=3) Z Z (fun h17 => ?_) (fun h17 => ?_) Z)
    ·exact u1 h17 H fun h18 H=>zd Z Z h17 (ze (.dat _) Z) (bE H fun r19 h20 H=>zd Z Z h17 (zj (z8v r15.1 r19 h20) ⟨.inl Z,U⟩) (zd Z Z h17 (ze (.dat _) Z) (zd Z Z h17 (qy Z Z) (za (zm Z (bTT h18) Z) (qe Z (qe Z ⟨decide (r19=s1),H,⟨Z,Z,U⟩,U⟩))))))
    ·exact u2 h17 H fun h21 H=>zb Z Z h17 (zb Z Z h17 (zb Z Z h17 (zb Z Z h17 (za (zl Z (bFF h21) Z) (qe Z (qe Z ⟨false,H,⟨Z,Z,U⟩,U⟩))))))
   ·rintro v22 H
    replace H:z1b r15 v22=some r:=H
    unfold z1b at H
    refine zg ?_
    cases H
    exact ⟨U,.inl Z,.inl Z,U⟩
theorem y2v (v1:qp) (r:(Bs×Bs×Int)) (H:Yv v1=some r):Fn Tryz.prog 36 [vagg (Zs v1)] (zp [vstr r.1,vstr r.2.1,vint r.2.2]):=by
 refine ⟨by kernel_rfl,zy (us:=[vstr r.1,vstr r.2.1,vint r.2.2]) Tryz.func36 Z Z Z Z fun X hN => ?_⟩
 unfold Yv at H
 refine zc hN Z (zo (vp 1 Z) Z (qe Z (qe Z (qe Z (zh (wz mixed hN Z Z (za (zv kj Z) (zr (zx qw Z Z) Z (bE H fun r2 h3 H=>za (zj (z6k v1.headers_ [99,111,110,116,101,110,116,45,108,101,110,103,116,104] r2 h3) ⟨.inl Z,.inl Z,U⟩) (za (zv kj Z) (zr (zx qw Z Z) Z (bE H fun r4 h5 H=>za (zj (z6k v1.headers_ [116,114,97,110,115,102,101,114,45,101,110,99,111,100,105,110,103] r4 h5) ⟨.inl Z,.inl Z,U⟩) (qe Z (qe Z ⟨Z,?_⟩))))))))))))))
 refine zh (yc (zc hN Z (qd Z (za (yw wb Z) (za (qb Z Z) (qd Z (qg Z Z (fun hc=>ze (.dat _) Z) (qg Z Z (fun hc=>yw wb (cnd (c:=(decide (0 < (r2.length:Int)))) hc)) (qg Z Z (fun hc=>qb (cnd (c:=(decide (0 < (r2.length:Int)))) hc) Z) (za (wu Z (fun hb=>(cnd (c:=(decide (0 < (r2.length:Int)))) hb)) Z) (qe Z (zi _ Z (fun h6 => ?_) (fun h6 => ?_)))))))))))))
 ·refine tE h6 H fun H=>zc hN Z (qe Z (qe Z (qe Z (zg ?_))))
  cases H
  exact ⟨U,.inl Z,.inl Z,.inl Z,U⟩
 ·refine fE h6 H fun H=>zc hN Z (qd Z (za (yw wb Z) (za (qb Z Z) (qe Z (zi _ Z (fun h7 => ?_) (fun h7 => ?_))))))
  ·refine tE h7 H fun H=>zh (zc hN Z (qd Z (bE H fun x8 h9 H=>za (qx ww (fun _=>Z) Z Z h9) (za (wa tyS9 Z (qq h9) Z) (za (vc Z Z) (zi _ Z (fun h10 => ?_) (fun h10 => ?_)))))))
   ·refine tE h10 H fun H=>zc hN Z (qe Z (qe Z (qe Z (zg ?_))))
    cases H
    exact ⟨U,.inl Z,.inl Z,.inl Z,U⟩
   ·refine fE h10 H fun H=>zn (zc hN Z (za (zv Zu Z) (zr (zx tyS9 Z Z) Z (bE H fun r11 h12 H=>za (zj (y9y v1.rest_ r11 h12) ⟨.inl Z,U⟩) (qd Z (za (zt Z Z) (za (zt Z Z) (za (zt Z Z) (qe Z (qe Z (qe Z (zh (zc hN Z (qd Z (za (qk Z Z) (zi _ Z (fun h13 => ?_) (fun h13 => ?_)))))))))))))))))
    ·refine tE h13 H fun H=>zc hN Z (qd Z (qe Z (qe Z (qe Z (zg ?_)))))
     cases H
     exact ⟨U,.inl Z,.inl Z,.inl Z,U⟩
    ·refine fE h13 H fun H=>zn (zh (wz mixed hN Z Z (qd Z (za (zv Zu Z) (zr (zx tyS9 Z Z) Z (qd Z (bE H fun l14 h15 H=>za (qf tyU9 Z Z Z h15) (qe Z (qe Z (qe Z ⟨Z,?_⟩))))))))))
     refine zg ?_
     cases H
     exact ⟨U,.inl Z,.inl Z,.inl Z,U⟩
  ·refine fE h7 H fun H=>zc hN Z (qd Z (za (yw wb Z) (za (yp Z Z) (qe Z (zi _ Z (fun h16 => ?_) (fun h16 => ?_))))))
   ·refine tE h16 H fun H=>zh (wz mixed hN Z Z (za (zv Zu Z) (zr (zx tyS9 Z Z) Z (qe Z (qe Z (qe Z ⟨Z,?_⟩))))))
    refine zg ?_
    cases H
    exact ⟨U,.inl Z,.inl Z,.inl Z,U⟩
   ·refine fE h16 H fun H=>zn (zh (zc hN Z (qd Z (bE H fun x17 h18 H=>za (qx ww (fun _=>Z) Z Z h18) (za (wa tyS9 Z (qq h18) Z) (bE H fun r19 h20 H=>za (zj (y9m x17 r19 h20) ⟨.inl Z,U⟩) (za (yk Z) (zi _ Z (fun h21 => ?_) (fun h21 => ?_)))))))))
    ·refine tE h21 H fun H=>zc hN Z (qe Z (qe Z (qe Z (zg ?_))))
     cases H
     exact ⟨U,.inl Z,.inl Z,.inl Z,U⟩
    ·refine fE h21 H fun H=>zn (zc hN Z (qd Z (za (qx ww (fun _=>Z) Z Z h18) (za (wa tyS9 Z (qq h18) Z) (bE H fun r22 h23 H=>za (zj (y2w x17 9 r22 h23) ⟨.inl Z,.inl Z,U⟩) (qd Z (za (zt Z Z) (za (zt Z Z) (qe Z (qe Z (zh (zc hN Z (qd Z (za (yk Z) (qd Z (yz Z Z (fun hc=>ze (.dat _) Z) (yz Z Z (fun hc=>qb (cnd (c:=(!(!r22.2))) hc) Z) (za (vk Z Z (fun hb=>(cnd (c:=(!(!r22.2))) (notI hb)))) (zi _ Z (fun h24 => ?_) (fun h24 => ?_))))))))))))))))))))
     ·refine tE h24 H fun H=>zc hN Z (qe Z (qe Z (qe Z (zg ?_))))
      cases H
      exact ⟨U,.inl Z,.inl Z,.inl Z,U⟩
     ·refine fE h24 H fun H=>zn (zh (zc hN Z (qd Z (za (zv Zu Z) (zr (zx tyS9 Z Z) Z (za (yi tyU9 Z) (za (qb Z Z) (zi _ Z (fun h25 => ?_) (fun h25 => ?_)))))))))
      ·refine tE h25 H fun H=>zc hN Z (qe Z (qe Z (qe Z (zg ?_))))
       cases H
       exact ⟨U,.inl Z,.inl Z,.inl Z,U⟩
      ·refine fE h25 H fun H=>zn (zh (wz mixed hN Z Z (za (zv Zu Z) (zr (zx tyS9 Z Z) Z (qd Z (bE H fun l26 h27 H=>za (qf tyU9 Z Z Z h27) (za (zv Zu Z) (zr (zx tyS9 Z Z) Z (qd Z (bE H fun l28 h29 H=>za (qf tyU9 Z Z Z h29) (qe Z (qe Z (qe Z ⟨Z,?_⟩)))))))))))))
       refine zg ?_
       cases H
       exact ⟨U,.inl Z,.inl Z,.inl Z,U⟩
theorem y9k (h1:zk) (c2:Bool) (r:(Bool)) (H:Yu h1 c2=some r):Fn Tryz.prog 87 [vagg (yb h1),jd [[zf c2]] 0 0] (zp [zf r]):=by
 refine ⟨by kernel_rfl,zy (us:=[zf r]) Tryz.func87 Z Z Z Z fun X hN => ?_⟩
 unfold Yu at H
 refine zc hN Z (zo (vp 1 Z) Z (qe Z (zc hN Z (za (zv Zt Z) (zr (zx tyS9 Z Z) Z (za (wa tyS4 Z Z Z) (bE H fun r3 h4 H=>za (zj (y2t h1.Name c2 r3 h4) ⟨.inl Z,.inl Z,U⟩) (qe Z (zg ?_)))))))))
 cases H
 exact ⟨U,.inl Z,U⟩
theorem y2s (l1:(List zk)) (request2:Bool) (r:((List zk))) (H:z0m l1 request2=some r):Fn Tryz.prog 37 [vlst (List.map yb l1),zf request2] (zp [vlst (List.map yb r)]):=by
 refine ⟨by kernel_rfl,zy (us:=[vlst (List.map yb r)]) Tryz.func37 Z Z Z Z fun X hN => ?_⟩
 unfold z0m at H
 refine zc hN Z (zo (z7q 1 Z Z) Z (qe Z (zh (z67 1 [zf request2] Z Z (zq hN Z (qd Z (bE H fun r3 h4 H=>jt (rn [(900,2)]) [] [(900,_)] (z8q l1 r3 h4) ⟨Z,U⟩ ⟨.inl (.inl Z),U⟩ U Z (za (z7m (us:=[_]) ⟨Z,U⟩) (bE H fun r5 h6 H=>jt (rn [(0,2),(900,3)]) [(0,_,_,none)] [(900,_)] (z8p r3 (fun (a0:zk)=>Yu a0 request2) 87 [jd [[zf request2]] 0 0] (fun a0 r h=>y9k a0 request2 r h) r5 h6) ⟨Z,Z,U⟩ ⟨.inl (.inl Z),.inl (.inl Z),U⟩ ⟨⟨⟨Z,Z,Z⟩,U⟩,U⟩ Z (za (vr (.row _ _) Z) (zg ?_)))))))))))
 cases H
 exact ⟨U,Wj Z Z,U⟩
theorem y9v (v1:Int) (r:(Bool)) (H:z6a v1=some r):Fn Tryz.prog 89 [vint v1] (zp [zf r]):=by
 refine ⟨by kernel_rfl,zy (us:=[zf r]) Tryz.func89 Z Z Z Z fun X hN => ?_⟩
 unfold z6a at H
 refine zc hN Z (qe Z (zc hN Z (qd Z (bE H fun r2 h3 H=>za (zj (Yz v1 0 345686399999 r2 h3) ⟨.inl Z,.inl Z,.inl Z,U⟩) (qe Z (zg ?_))))))
 cases H
 exact ⟨U,.inl Z,U⟩
theorem y9w (v1:Bs) (r:(Bs×Int)) (H:z0p v1=some r):Fn Tryz.prog 90 [vstr v1] (zp [vstr r.1,vint r.2]):=by
 refine ⟨by kernel_rfl,zy (us:=[vstr r.1,vint r.2]) Tryz.func90 Z Z Z Z fun X hN => ?_⟩
 unfold z0p at H
 refine zc hN Z (qe Z (qe Z (zc hN Z (qd Z (bE H fun r2 h3 H=>za (zj (kf v1 [58] r2 h3) ⟨.inl Z,.inl Z,U⟩) (qd Z (za (zt Z Z) (za (zt Z Z) (za (zt Z Z) (qe Z (qe Z (qe Z (zc hN Z (qd Z (bE H fun r4 h5 H=>za (zj (y2w r2.2.1 5 r4 h5) ⟨.inl Z,.inl Z,U⟩) (qd Z (za (zt Z Z) (za (zt Z Z) (qe Z (qe Z (zh ?_)))))))))))))))))))))
 refine zz (ι:=Bool) (fun i=>[(4,.dat (vstr r2.1)),(5,.dat (vstr r2.2.1)),(6,.dat (zf r2.2.2)),(7,.dat (vint r4.1)),(37,.dat (zf i))]) (fun i=>[]) (fun i=>ul r2 r4 i=some r) (fun i=>Z) ?_ ?_
 ·skip
  refine zq hN Z (qd Z (za (yi tyU9 Z) (za (qb Z Z) (qd Z (zu (j:=3) Z Z (fun h6 => ?_) (fun h6 => ?_) Z)))))
  ·refine u3 h6 H fun h7 H=>zd Z Z h6 (ze (.dat _) Z) (zd Z Z h6 (ze (.dat _) Z) (zu (j:=5) Z Z (fun h8 => ?_) (fun h8 => ?_) Z))
   ·refine u1 h8 H fun h9 H=>zd Z Z h8 (ze (.dat _) Z) (zd Z Z h8 (yk Z) (zd Z Z h8 (ze (.dat _) Z) (zu (j:=8) Z Z (fun h10 => ?_) (fun h10 => ?_) Z)))
    ·exact u3 h10 H fun h11 H=>zd Z Z h10 (ze (.dat _) Z) (bE H fun r12 h13 H=>zd Z Z h10 (zj (Yz r4.1 1 65535 r12 h13) ⟨.inl Z,.inl Z,.inl Z,U⟩) (zd Z Z h10 (yk Z) (zd Z Z h8 (zl Z (bFF h11) Z) (zd Z Z h6 (zm Z (bTT h9) Z) (za (zl Z (bFF h7) Z) ⟨!r12,H,⟨Z,Z,Z,Z,Z,U⟩,U⟩)))))
    ·exact u4 h10 H fun h14 H=>zb Z Z h10 (zb Z Z h10 (zb Z Z h10 (zd Z Z h8 (zm Z (bTT h14) Z) (zd Z Z h6 (zm Z (bTT h9) Z) (za (zl Z (bFF h7) Z) ⟨true,H,⟨Z,Z,Z,Z,Z,U⟩,U⟩)))))
   ·exact u2 h8 H fun h15 H=>zb Z Z h8 (zb Z Z h8 (zb Z Z h8 (yh Z Z (yh Z Z (yh Z Z (zb Z Z h8 (zd Z Z h6 (zl Z (bFF h15) Z) (za (zl Z (bFF h7) Z) ⟨false,H,⟨Z,Z,Z,Z,Z,U⟩,U⟩))))))))
  ·exact u4 h6 H fun h16 H=>zb Z Z h6 (zb Z Z h6 (yh Z Z (yh Z Z (yh Z Z (yh Z Z (yh Z Z (yh Z Z (yh Z Z (zb Z Z h6 (za (zm Z (bTT h16) Z) ⟨true,H,⟨Z,Z,Z,Z,Z,U⟩,U⟩))))))))))
 ·rintro v17 H
  replace H:ul r2 r4 v17=some r:=H
  unfold ul at H
  refine zi _ Z (fun h18 => ?_) (fun h18 => ?_)
  ·refine tE h18 H fun H=>zc hN Z (qe Z (qe Z (zg ?_)))
   cases H
   exact ⟨U,.inl Z,.inl Z,U⟩
  ·refine fE h18 H fun H=>zn (zh (zc hN Z (qd Z (bE H fun r19 h20 H=>za (zj (z30 r2.1 [46] r19 h20) ⟨.inl Z,.inl Z,U⟩) (za (yw wb Z) (qd Z (yc (gE H fun h23 H=>ve (fun (k21:Nat) (s:Unit)=>[(4,.dat (vstr r2.1)),(5,.dat (vstr r2.2.1)),(6,.dat (zf r2.2.2)),(7,.dat (vint r4.1)),(39,.dat (vlst (List.map ye r19))),(40,.dat (vint (r19.length:Int))),(41,.dat (vint (k21:Int)))]) (fun (k21:Nat) (s:Unit)=>[]) () H ⟨Z,Z,Z,Z,Z,Z,Z,U⟩ U (fun _ _=>Z) ?_ ?_))))))))
   ·rintro ⟨⟩ H
    replace H:z4c r2 r4=some r:=H
    unfold z4c at H
    refine zc hN Z (za (yg Z Z) (zh (zi _ Z (fun h=>(lt_t h).elim) (fun h => ?_))))
    refine qj (zc hN Z (qd Z (bE H fun r25 h26 H=>za (zj (z8s r2.1 r25 h26) ⟨.inl Z,U⟩) (qe Z (zz (ι:=Bs) (fun i=>[(11,.dat (vstr i))]) (fun i=>[]) (fun i=>z1d i=some r) (fun i=>Z) ?_ ?_)))))
    ·skip
     refine zc hN Z (qd Z (qd Z (qg Z Z (fun hc=>ze (.dat _) Z) (qg Z Z (fun hc=>qk (cnd (c:=r2.2.2) hc) Z) (za (wu Z (fun hb=>(cnd (c:=r2.2.2) hb)) Z) (qd Z (qg Z Z (fun hc=>ze (.dat _) Z) (qg Z Z (fun hc=>qk (cnd (c:=(r2.2.2 && (decide (r4.1≠80)))) hc) Z) (za (wu Z (fun hb=>(cnd (c:=(r2.2.2 && (decide (r4.1≠80)))) hb)) Z) (zi _ Z (fun h27 => ?_) (fun h27 => ?_)))))))))))
     ·exact tE h27 H fun H=>zq hN Z (qd Z (qd Z (gE H fun h28 H=>za (yy Z Z (Nat.le_trans h28 (by decide))) (gE H fun h29 H=>za (yy Z Z (Nat.le_trans h29 (by decide))) (qe Z ⟨(r25++([58]++r2.2.1)),H,⟨Z,U⟩,U⟩)))))
     ·exact fE h27 H fun H=>zn ⟨r25,H,⟨Z,U⟩,U⟩
    ·rintro v30 H
     replace H:z1d v30=some r:=H
     unfold z1d at H
     refine zc hN Z (qd Z (qe Z (qe Z (zg ?_))))
     cases H
     exact ⟨U,.inl Z,.inl Z,U⟩
   ·rintro k21 x24 ⟨⟩ q22 h31 h32 H hq22
    replace H:z1c k21 x24=some q22:=H
    unfold z1c at H
    refine zc hN Z (za (yg Z Z) (zh (zi _ Z (fun h => ?_) (fun h=>(lt_f h31 h).elim))))
    refine zn (zh (yc (zc hN Z (za (qx ww (fun _=>Z) Z Z h32) (za (wa tyS9 Z (qq h32) Z) (qe Z (zz (ι:=Bool) (fun i=>[(4,.dat (vstr r2.1)),(5,.dat (vstr r2.2.1)),(6,.dat (zf r2.2.2)),(7,.dat (vint r4.1)),(39,.dat (vlst (List.map ye r19))),(40,.dat (vint (r19.length:Int))),(41,.dat (vint (k21:Int))),(59,.dat (zf i))]) (fun i=>[]) (fun i=>uk i=some q22) (fun i=>Z) ?_ ?_)))))))
    ·skip
     refine zq hN Z (qd Z (za (yi tyU9 Z) (bE H fun r33 h34 H=>za (zj (Yz (x24.length:Int) 1 63 r33 h34) ⟨.inl Z,.inl Z,.inl Z,U⟩) (za (yk Z) (qd Z (zu (j:=4) Z Z (fun h35 => ?_) (fun h35 => ?_) Z))))))
     ·refine u3 h35 H fun h36 H=>zd Z Z h35 (ze (.dat _) Z) (bE H fun r37 h38 H=>zd Z Z h35 (zj (z0x x24 [97,98,99,100,101,102,103,104,105,106,107,108,109,110,111,112,113,114,115,116,117,118,119,120,121,122,65,66,67,68,69,70,71,72,73,74,75,76,77,78,79,80,81,82,83,84,85,86,87,88,89,90,48,49,50,51,52,53,54,55,56,57,45] r37 h38) ⟨.inl Z,.inl Z,U⟩) (zd Z Z h35 (yk Z) (za (zl Z (bFF h36) Z) (qd Z (zu (j:=9) Z Z (fun h39 => ?_) (fun h39 => ?_) Z)))))
      ·exact u3 h39 H fun h40 H=>zd Z Z h39 (ze (.dat _) Z) (bE H fun r41 h42 H=>zd Z Z h39 (zj (z3z x24 [45] r41 h42) ⟨.inl Z,.inl Z,U⟩) (zd Z Z h39 (ze (.dat _) Z) (zd Z Z h39 (vc Z Z) (za (zl Z (bFF h40) Z) ⟨decide (r41≠x24),H,⟨Z,Z,Z,Z,Z,Z,Z,Z,U⟩,U⟩))))
      ·exact u4 h39 H fun h43 H=>zb Z Z h39 (zb Z Z h39 (zb Z Z h39 (zb Z Z h39 (za (zm Z (bTT h43) Z) ⟨true,H,⟨Z,Z,Z,Z,Z,Z,Z,Z,U⟩,U⟩))))
     ·exact u4 h35 H fun h44 H=>zb Z Z h35 (zb Z Z h35 (zb Z Z h35 (za (zm Z (bTT h44) Z) (qd Z (zb Z Z Z (zb Z Z Z (zb Z Z Z (zb Z Z Z (za (zm Z Z Z) ⟨true,H,⟨Z,Z,Z,Z,Z,Z,Z,Z,U⟩,U⟩)))))))))
    ·rintro v45 H
     replace H:uk v45=some q22:=H
     unfold uk at H
     refine zi _ Z (fun h46 => ?_) (fun h46 => ?_)
     ·refine tE h46 H fun H=>zc hN Z (qe Z (qe Z (zg ?_)))
      replace H:=retl H hq22
      cases H
      exact ⟨U,.inl Z,.inl Z,U⟩
     ·exact fE h46 H fun H=>zn (zq hN Z (za (wy Z Z (by omega)) (qd Z ⟨_,qr H,⟨Z,Z,Z,Z,Z,Z,Z,U⟩,U⟩)))
theorem y9l (s1:Bs) (r:(Bool)) (H:z3g s1=some r):Fn Tryz.prog 91 [vstr s1] (zp [zf r]):=by
 refine ⟨by kernel_rfl,zy (us:=[zf r]) Tryz.func91 Z Z Z Z fun X hN => ?_⟩
 unfold z3g at H
 refine zc hN Z (qe Z (zz (ι:=Bool) (fun i=>[(2,.dat (zf i))]) (fun i=>[]) (fun i=>Zo i=some r) (fun i=>Z) ?_ ?_))
 ·skip
  refine zq hN Z (qd Z (za (yi tyU9 Z) (bE H fun r2 h3 H=>za (zj (Yz (s1.length:Int) 1 1000 r2 h3) ⟨.inl Z,.inl Z,.inl Z,U⟩) (qd Z (zu (j:=3) Z Z (fun h4 => ?_) (fun h4 => ?_) Z)))))
  ·refine u1 h4 H fun h5 H=>zd Z Z h4 (ze (.dat _) Z) (bE H fun x6 h7 H=>zd Z Z h4 (qh tyU9 Z Z h7) (zd Z Z h4 (yp Z Z) (za (zm Z (bTT h5) Z) (qd Z (zu (j:=8) Z Z (fun h8 => ?_) (fun h8 => ?_) Z)))))
   ·refine u1 h8 H fun h9 H=>zd Z Z h8 (ze (.dat _) Z) (bE H fun r10 h11 H=>zd Z Z h8 (zj (z6j s1 33 r10 h11) ⟨.inl Z,.inl Z,U⟩) (za (zm Z (bTT h9) Z) (qd Z (zu (j:=12) Z Z (fun h12 => ?_) (fun h12 => ?_) Z))))
    ·exact u1 h12 H fun h13 H=>zd Z Z h12 (ze (.dat _) Z) (bE H fun r14 h15 H=>zd Z Z h12 (zj (y2c s1 [63,35] r14 h15) ⟨.inl Z,.inl Z,U⟩) (zd Z Z h12 (yk Z) (za (zm Z (bTT h13) Z) (qe Z ⟨!r14,H,⟨Z,U⟩,U⟩))))
    ·exact u2 h12 H fun h16 H=>zb Z Z h12 (zb Z Z h12 (zb Z Z h12 (za (zl Z (bFF h16) Z) (qe Z ⟨false,H,⟨Z,U⟩,U⟩))))
   ·exact u2 h8 H fun h17 H=>zb Z Z h8 (zb Z Z h8 (za (zl Z (bFF h17) Z) (qd Z (zb Z Z Z (zb Z Z Z (zb Z Z Z (za (zl Z Z Z) (qe Z ⟨false,H,⟨Z,U⟩,U⟩))))))))
  ·exact u2 h4 H fun h18 H=>zb Z Z h4 (zb Z Z h4 (zb Z Z h4 (za (zl Z (bFF h18) Z) (qd Z (zb Z Z Z (zb Z Z Z (za (zl Z Z Z) (qd Z (zb Z Z Z (zb Z Z Z (zb Z Z Z (za (zl Z Z Z) (qe Z ⟨false,H,⟨Z,U⟩,U⟩)))))))))))))
 ·rintro v19 H
  replace H:Zo v19=some r:=H
  unfold Zo at H
  refine zg ?_
  cases H
  exact ⟨U,.inl Z,U⟩
theorem y9j (s1:Bs) (r:(Bool)) (H:z3f s1=some r):Fn Tryz.prog 92 [vstr s1] (zp [zf r]):=by
 refine ⟨by kernel_rfl,zy (us:=[zf r]) Tryz.func92 Z Z Z Z fun X hN => ?_⟩
 unfold z3f at H
 refine zc hN Z (qe Z (zz (ι:=Bool) (fun i=>[(2,.dat (zf i))]) (fun i=>[]) (fun i=>Qp i=some r) (fun i=>Z) ?_ ?_))
 ·skip
  refine zq hN Z (qd Z (za (yi tyU9 Z) (za (we Z Z) (qd Z (zu (j:=3) Z Z (fun h2 => ?_) (fun h2 => ?_) Z)))))
  ·refine u1 h2 H fun h3 H=>zd Z Z h2 (ze (.dat _) Z) (bE H fun r4 h5 H=>zd Z Z h2 (zj (z6j s1 33 r4 h5) ⟨.inl Z,.inl Z,U⟩) (za (zm Z (bTT h3) Z) (qd Z (zu (j:=7) Z Z (fun h6 => ?_) (fun h6 => ?_) Z))))
   ·exact u1 h6 H fun h7 H=>zd Z Z h6 (ze (.dat _) Z) (bE H fun r8 h9 H=>zd Z Z h6 (zj (y2d s1 [35] r8 h9) ⟨.inl Z,.inl Z,U⟩) (zd Z Z h6 (yk Z) (za (zm Z (bTT h7) Z) (qe Z ⟨!r8,H,⟨Z,U⟩,U⟩))))
   ·exact u2 h6 H fun h10 H=>zb Z Z h6 (zb Z Z h6 (zb Z Z h6 (za (zl Z (bFF h10) Z) (qe Z ⟨false,H,⟨Z,U⟩,U⟩))))
  ·exact u2 h2 H fun h11 H=>zb Z Z h2 (zb Z Z h2 (za (zl Z (bFF h11) Z) (qd Z (zb Z Z Z (zb Z Z Z (zb Z Z Z (za (zl Z Z Z) (qe Z ⟨false,H,⟨Z,U⟩,U⟩))))))))
 ·rintro v12 H
  replace H:Qp v12=some r:=H
  unfold Qp at H
  refine zg ?_
  cases H
  exact ⟨U,.inl Z,U⟩
theorem y2x (l1:(List zk)) (r:(Int)) (H:z0q l1=some r):Fn Tryz.prog 93 [vlst (List.map yb l1)] (zp [vint r]):=by
 refine ⟨by kernel_rfl,zy (us:=[vint r]) Tryz.func93 Z Z Z Z fun X hN => ?_⟩
 unfold z0q at H
 refine zc hN Z (qe Z (zh (zc hN Z (qd Z (za (yw vg Z) (za (qb Z Z) (zi _ Z (fun h2 => ?_) (fun h2 => ?_))))))))
 ·refine tE h2 H fun H=>zc hN Z (qe Z (zg ?_))
  cases H
  exact ⟨U,.inl Z,U⟩
 ·refine fE h2 H fun H=>zn (zh (zc hN Z (qd Z (za (yw vg Z) (qd Z (yc (gE H fun h5 H=>ve (fun (k3:Nat) (s:Unit)=>[(8,.dat (vlst (List.map yb l1))),(9,.dat (vint (l1.length:Int))),(10,.dat (vint (k3:Int)))]) (fun (k3:Nat) (s:Unit)=>[]) () H ⟨Z,Z,Z,U⟩ U (fun _ _=>Z) ?_ ?_)))))))
  ·rintro ⟨⟩ H
   replace H:z6v=some r:=H
   unfold z6v at H
   refine zc hN Z (za (yg Z Z) (zh (zi _ Z (fun h=>(lt_t h).elim) (fun h => ?_))))
   refine qj (zc hN Z (qe Z (zg ?_)))
   cases H
   exact ⟨U,.inl Z,U⟩
  ·rintro k3 x6 ⟨⟩ q4 h7 h8 H hq4
   replace H:z6u k3 x6=some q4:=H
   unfold z6u at H
   refine zc hN Z (za (yg Z Z) (zh (zi _ Z (fun h => ?_) (fun h=>(lt_f h7 h).elim))))
   refine zn (zh (yc (zc hN Z (za (qx ka (fun _=>Z) Z Z h8) (za (xk wv Z (qq h8) Z) (zo (qm 1 ky Z) Z (zo (yq wv Z Z Z Z) Z (zh (zc hN Z (za (zv Zt Z) (zr (zx tyS9 Z Z) Z (bE H fun r9 h10 H=>za (zj (z8z x6.Name r9 h10) ⟨.inl Z,U⟩) (za (yk Z) (zi _ Z (fun h11 => ?_) (fun h11 => ?_)))))))))))))))
   ·refine tE h11 H fun H=>zc hN Z (qe Z (zg ?_))
    replace H:=retl H hq4
    cases H
    exact ⟨U,.inl Z,U⟩
   ·refine fE h11 H fun H=>zn (zc hN Z (za (zv z1t Z) (zr (zx tyS9 Z Z) Z (bE H fun r12 h13 H=>za (zj (z81 x6.Value r12 h13) ⟨.inl Z,U⟩) (za (yk Z) (zi _ Z (fun h14 => ?_) (fun h14 => ?_)))))))
    ·refine tE h14 H fun H=>zc hN Z (qe Z (zg ?_))
     replace H:=retl H hq4
     cases H
     exact ⟨U,.inl Z,U⟩
    ·exact fE h14 H fun H=>zn (zq hN Z (za (wy Z Z (by omega)) (qd Z ⟨_,qr H,⟨Z,Z,Z,U⟩,U⟩)))
theorem y9t (r1:yd) (r:(Int)) (H:z3o r1=some r):Fn Tryz.prog 38 [vagg (qc r1)] (zp [vint r]):=by
 refine ⟨by kernel_rfl,zy (us:=[vint r]) Tryz.func38 Z Z Z Z fun X hN => ?_⟩
 unfold z3o at H
 refine zc hN Z (zo (vp 1 Z) Z (qe Z (zh (yc (zc hN Z (za (zv z4x Z) (zr (zx tyS3 Z Z) Z (bE H fun r2 h3 H=>za (zj (y9v r1.At r2 h3) ⟨.inl Z,U⟩) (za (yk Z) (qe Z (zi _ Z (fun h4 => ?_) (fun h4 => ?_))))))))))))
 ·refine tE h4 H fun H=>zc hN Z (qe Z (zg ?_))
  cases H
  exact ⟨U,.inl Z,U⟩
 ·refine fE h4 H fun H=>zc hN Z (za (zv z1z Z) (zr (zx tyS9 Z Z) Z (bE H fun r5 h6 H=>za (zj (z8z r1.Method r5 h6) ⟨.inl Z,U⟩) (za (yk Z) (qe Z (zi _ Z (fun h7 => ?_) (fun h7 => ?_)))))))
  ·refine tE h7 H fun H=>zc hN Z (qe Z (zg ?_))
   cases H
   exact ⟨U,.inl Z,U⟩
  ·refine fE h7 H fun H=>zn (zh (zc hN Z (za (zv z1y Z) (zr (zx tyS9 Z Z) Z (bE H fun r8 h9 H=>za (zj (y9w r1.Host r8 h9) ⟨.inl Z,U⟩) (qd Z (za (zt Z Z) (za (zt Z Z) (qe Z (qe Z (zc hN Z (qd Z (za (qk Z Z) (zi _ Z (fun h10 => ?_) (fun h10 => ?_)))))))))))))))
   ·refine tE h10 H fun H=>zc hN Z (qd Z (qe Z (zg ?_)))
    cases H
    exact ⟨U,.inl Z,U⟩
   ·refine fE h10 H fun H=>zn (zh (zz (ι:=Bool) (fun i=>[(1,.ptr 1 0),(40,.dat (zf i))]) (fun i=>[(1,.box none 31 [.dat (vint r1.At),.dat (vstr r1.Method),.dat (vstr r1.Host),.dat (vstr r1.Path),.dat (vstr r1.Query),.dat (vstr r1.From),.dat (vlst (List.map yb r1.Headers)),.dat (vstr r1.Body)])]) (fun i=>Qt r1 i=some r) (fun i=>Z) ?_ ?_))
    ·skip
     refine zq hN Z (za (zv Wi Z) (zr (zx tyS9 Z Z) Z (bE H fun r11 h12 H=>za (zj (y9l r1.Path r11 h12) ⟨.inl Z,U⟩) (za (yk Z) (qd Z (zu (j:=4) Z Z (fun h13 => ?_) (fun h13 => ?_) Z))))))
     ·refine u3 h13 H fun h14 H=>zd Z Z h13 (zv Zv Z) (wg Z Z h13 (zx tyS9 Z Z) Z (bE H fun r15 h16 H=>zd Z Z h13 (zj (y9j r1.Query r15 h16) ⟨.inl Z,U⟩) (zd Z Z h13 (yk Z) (za (zl Z (bFF h14) Z) (qd Z (zu (j:=10) Z Z (fun h17 => ?_) (fun h17 => ?_) Z))))))
      ·exact u3 h17 H fun h18 H=>zd Z Z h17 (zv z4w Z) (wg Z Z h17 (zx tyS9 Z Z) Z (bE H fun r19 h20 H=>zd Z Z h17 (zj (z81 r1.From r19 h20) ⟨.inl Z,U⟩) (zd Z Z h17 (yk Z) (za (zl Z (bFF h18) Z) ⟨!r19,H,⟨Z,Z,U⟩,⟨Z,U⟩⟩))))
      ·exact u4 h17 H fun h21 H=>zb Z Z h17 (zb Z Z h17 (zb Z Z h17 (zb Z Z h17 (za (zm Z (bTT h21) Z) ⟨true,H,⟨Z,Z,U⟩,⟨Z,U⟩⟩))))
     ·exact u4 h13 H fun h22 H=>zb Z Z h13 (zb Z Z h13 (zb Z Z h13 (zb Z Z h13 (za (zm Z (bTT h22) Z) (qd Z (zb Z Z Z (zb Z Z Z (zb Z Z Z (zb Z Z Z (za (zm Z Z Z) ⟨true,H,⟨Z,Z,U⟩,⟨Z,U⟩⟩))))))))))
    ·rintro v23 H
     replace H:Qt r1 v23=some r:=H
     unfold Qt at H
     refine zi _ Z (fun h24 => ?_) (fun h24 => ?_)
     ·refine tE h24 H fun H=>zc hN Z (qe Z (zg ?_))
      cases H
      exact ⟨U,.inl Z,U⟩
     ·refine fE h24 H fun H=>zn (zh (zc hN Z (za (zv z1x Z) (zr (zx qw Z Z) Z (bE H fun r25 h26 H=>za (zj (y2x r1.Headers r25 h26) ⟨.inl Z,U⟩) (qe Z (zc hN Z (qd Z (za (qk Z Z) (zi _ Z (fun h27 => ?_) (fun h27 => ?_)))))))))))
      ·refine tE h27 H fun H=>zc hN Z (qd Z (qe Z (zg ?_)))
       cases H
       exact ⟨U,.inl Z,U⟩
      ·refine fE h27 H fun H=>zn (zh (zc hN Z (za (zv Wh Z) (zr (zx tyS9 Z Z) Z (za (yi tyU9 Z) (za (qb Z Z) (zi _ Z (fun h28 => ?_) (fun h28 => ?_))))))))
       ·refine tE h28 H fun H=>zc hN Z (qe Z (zg ?_))
        cases H
        exact ⟨U,.inl Z,U⟩
       ·refine fE h28 H fun H=>zn (zc hN Z (qe Z (zg ?_)))
        cases H
        exact ⟨U,.inl Z,U⟩
theorem y9s (v1:Bs) (r:(yd×Int×Int)) (H:z3n v1=some r):Fn Tryz.prog 7 [vstr v1] (zp [vagg (qc r.1),vint r.2.1,vint r.2.2]):=by
 refine ⟨by kernel_rfl,zy (us:=[vagg (qc r.1),vint r.2.1,vint r.2.2]) Tryz.func7 Z Z Z Z fun X hN => ?_⟩
 unfold z3n at H
 refine zc hN Z (zo (qm 1 vf Z) Z (qe Z (qe Z (zc hN Z (zo (qm 2 vf Z) Z (zh (zc hN Z (qd Z (za (yi tyU9 Z) (za (qb Z Z) (zi _ Z (fun h2 => ?_) (fun h2 => ?_))))))))))))
 ·refine tE h2 H fun H=>zc hN Z (zr (wn (u':=vagg (qc (yd.mk 0 [] [] [] [] [] [] []))) (wm (by exact ⟨zw,zw,zw,zw,zw,zw,wd,zw,U⟩)) (qa yr Z Z Z)) Z ?_)
  refine zo (yq yr Z Z Z Z) Z (qe Z (qe Z (zg ?_)))
  cases H
  exact ⟨U,.inl ⟨_,_,_,qc (yd.mk 0 [] [] [] [] [] [] []),Z,Z,Z,Z,yr⟩,.inl Z,.inl Z,U⟩
 ·refine fE h2 H fun H=>zn (zc hN Z (qd Z (bE H fun r3 h4 H=>za (zj (y2u v1 r3 h4) ⟨.inl Z,U⟩) (qd Z (za (zt Z Z) (za (zt Z Z) (zo (qm 3 z4q Z) Z (zo (yq vv Z Z Z Z) Z (qe Z (zc hN Z (za (zv z7g Z) (zr (zx tyS9 Z Z) Z (bE H fun r5 h6 H=>za (zj (z30 r3.1.first_ [32] r5 h6) ⟨.inl Z,.inl Z,U⟩) (qe Z (zh (zz (ι:=Bool) (fun i=>[(0,.dat (vstr v1)),(2,.ptr 1 0),(5,.ptr 2 0),(6,.ptr 3 0),(8,.dat (vlst (List.map ye r5))),(45,.dat (zf i))]) (fun i=>[(1,.box none 31 [.dat (vint 0),.dat (vstr []),.dat (vstr []),.dat (vstr []),.dat (vstr []),.dat (vstr []),.dat (vnil),.dat (vstr [])]),(2,.box none 31 [.dat (vint 0),.dat (vstr []),.dat (vstr []),.dat (vstr []),.dat (vstr []),.dat (vstr []),.dat (vnil),.dat (vstr [])]),(3,.box none 69 [.dat (vstr r3.1.first_),.dat (vlst (List.map yb r3.1.headers_)),.dat (vstr r3.1.rest_)])]) (fun i=>kh v1 r3 r5 i=some r) (fun i=>Z) ?_ ?_))))))))))))))))
  ·skip
   refine zq hN Z (qd Z (za (qk Z Z) (qd Z (zu (j:=2) Z Z (fun h7 => ?_) (fun h7 => ?_) Z))))
   ·refine u3 h7 H fun h8 H=>zd Z Z h7 (ze (.dat _) Z) (zd Z Z h7 (yw wb Z) (zd Z Z h7 (qk Z Z) (za (zl Z (bFF h8) Z) (qd Z (zu (j:=7) Z Z (fun h9 => ?_) (fun h9 => ?_) Z)))))
    ·refine u3 h9 H fun h10 H=>zd Z Z h9 (ze (.dat _) Z) (bE H fun r11 h12 H=>zd Z Z h9 (zj (y2h r5 [] r11 h12) ⟨.inl Z,.inl Z,U⟩) (za (zl Z (bFF h10) Z) (qd Z (zu (j:=11) Z Z (fun h13 => ?_) (fun h13 => ?_) Z))))
     ·exact u3 h13 H fun h14 H=>zd Z Z h13 (ze (.dat _) Z) (bE H fun x15 h16 H=>zd Z Z h13 (qx ww (fun _=>Z) Z Z h16) (zd Z Z h13 (wa tyS9 Z (qq h16) Z) (zd Z Z h13 (vc Z Z) (za (zl Z (bFF h14) Z) ⟨decide (x15≠[72,84,84,80,47,49,46,49]),H,⟨Z,Z,Z,Z,Z,Z,U⟩,⟨Z,Z,Z,U⟩⟩))))
     ·exact u4 h13 H fun h17 H=>zb Z Z h13 (zb Z Z h13 (zb Z Z h13 (zb Z Z h13 (za (zm Z (bTT h17) Z) ⟨true,H,⟨Z,Z,Z,Z,Z,Z,U⟩,⟨Z,Z,Z,U⟩⟩))))
    ·exact u4 h9 H fun h18 H=>zb Z Z h9 (zb Z Z h9 (za (zm Z (bTT h18) Z) (qd Z (zb Z Z Z (zb Z Z Z (zb Z Z Z (zb Z Z Z (za (zm Z Z Z) ⟨true,H,⟨Z,Z,Z,Z,Z,Z,U⟩,⟨Z,Z,Z,U⟩⟩))))))))
   ·exact u4 h7 H fun h19 H=>zb Z Z h7 (zb Z Z h7 (zb Z Z h7 (za (zm Z (bTT h19) Z) (qd Z (zb Z Z Z (zb Z Z Z (za (zm Z Z Z) (qd Z (zb Z Z Z (zb Z Z Z (zb Z Z Z (zb Z Z Z (za (zm Z Z Z) ⟨true,H,⟨Z,Z,Z,Z,Z,Z,U⟩,⟨Z,Z,Z,U⟩⟩)))))))))))))
  ·rintro v20 H
   replace H:kh v1 r3 r5 v20=some r:=H
   unfold kh at H
   refine zi _ Z (fun h21 => ?_) (fun h21 => ?_)
   ·refine tE h21 H fun H=>zc hN Z (zr (wn (u':=vagg (qc (yd.mk 0 [] [] [] [] [] [] []))) (wm (by exact ⟨zw,zw,zw,zw,zw,zw,wd,zw,U⟩)) (qa yr Z Z Z)) Z ?_)
    refine zo (yq yr Z Z Z Z) Z (qe Z (qe Z (zg ?_)))
    cases H
    exact ⟨U,.inl ⟨_,_,_,qc (yd.mk 0 [] [] [] [] [] [] []),Z,Z,Z,Z,yr⟩,.inl Z,.inl Z,U⟩
   ·refine fE h21 H fun H=>zn (zc hN Z (za (zv kj Z) (zr (zx qw Z Z) Z (bE H fun r22 h23 H=>za (zj (z6k r3.1.headers_ [104,111,115,116] r22 h23) ⟨.inl Z,.inl Z,U⟩) (qe Z (zh (yc (zc hN Z (za (zv kj Z) (zr (zx qw Z Z) Z (za (yw vg Z) (za (qb Z Z) (qe Z (zi _ Z (fun h24 => ?_) (fun h24 => ?_)))))))))))))))
    ·refine tE h24 H fun H=>zc hN Z (zr (wn (u':=vagg (qc (yd.mk 0 [] [] [] [] [] [] []))) (wm (by exact ⟨zw,zw,zw,zw,zw,zw,wd,zw,U⟩)) (qa yr Z Z Z)) Z ?_)
     refine zo (yq yr Z Z Z Z) Z (qe Z (qe Z (zg ?_)))
     cases H
     exact ⟨U,.inl ⟨_,_,_,qc (yd.mk 0 [] [] [] [] [] [] []),Z,Z,Z,Z,yr⟩,.inl Z,.inl Z,U⟩
    ·refine fE h24 H fun H=>zc hN Z (qd Z (za (yw wb Z) (za (yp Z Z) (qe Z (zi _ Z (fun h25 => ?_) (fun h25 => ?_))))))
     ·refine tE h25 H fun H=>zc hN Z (zr (wn (u':=vagg (qc (yd.mk 0 [] [] [] [] [] [] []))) (wm (by exact ⟨zw,zw,zw,zw,zw,zw,wd,zw,U⟩)) (qa yr Z Z Z)) Z ?_)
      refine zo (yq yr Z Z Z Z) Z (qe Z (qe Z (zg ?_)))
      cases H
      exact ⟨U,.inl ⟨_,_,_,qc (yd.mk 0 [] [] [] [] [] [] []),Z,Z,Z,Z,yr⟩,.inl Z,.inl Z,U⟩
     ·refine fE h25 H fun H=>zc hN Z (za (zv kj Z) (zr (zx qw Z Z) Z (za (yo (u':=vlst (List.map ye [[104,111,115,116],[99,111,110,116,101,110,116,45,108,101,110,103,116,104],[116,114,97,110,115,102,101,114,45,101,110,99,111,100,105,110,103]])) (wc [[_],[_],[_]] wt ⟨Z,.inl ⟨_,Z,Z,Z⟩,Z,Z,.inl ⟨_,Z,Z,Z⟩,Z,Z,.inl ⟨_,Z,Z,Z⟩,Z,U⟩ Z Z) Z) (bE H fun r26 h27 H=>za (zj (y2q r3.1.headers_ ([[104,111,115,116],[99,111,110,116,101,110,116,45,108,101,110,103,116,104],[116,114,97,110,115,102,101,114,45,101,110,99,111,100,105,110,103]]) r26 h27) ⟨.inl Z,.inl Z,U⟩) (qe Z (zi _ Z (fun h28 => ?_) (fun h28 => ?_)))))))
      ·refine tE h28 H fun H=>zc hN Z (zr (wn (u':=vagg (qc (yd.mk 0 [] [] [] [] [] [] []))) (wm (by exact ⟨zw,zw,zw,zw,zw,zw,wd,zw,U⟩)) (qa yr Z Z Z)) Z ?_)
       refine zo (yq yr Z Z Z Z) Z (qe Z (qe Z (zg ?_)))
       cases H
       exact ⟨U,.inl ⟨_,_,_,qc (yd.mk 0 [] [] [] [] [] [] []),Z,Z,Z,Z,yr⟩,.inl Z,.inl Z,U⟩
      ·refine fE h28 H fun H=>zn (zc hN Z (zr (qa vv Z Z Z) Z (bE H fun r29 h30 H=>za (zj (y2v r3.1 r29 h30) ⟨.inl Z,U⟩) (qd Z (za (zt Z Z) (za (zt Z Z) (za (zt Z Z) (qe Z (qe Z (qe Z (zh (zc hN Z (qd Z (za (qk Z Z) (zi _ Z (fun h31 => ?_) (fun h31 => ?_))))))))))))))))
       ·refine tE h31 H fun H=>zc hN Z (zr (wn (u':=vagg (qc (yd.mk 0 [] [] [] [] [] [] []))) (wm (by exact ⟨zw,zw,zw,zw,zw,zw,wd,zw,U⟩)) (qa yr Z Z Z)) Z ?_)
        refine qd Z (zo (yq yr Z Z Z Z) Z (qe Z (qe Z (zg ?_))))
        cases H
        exact ⟨U,.inl ⟨_,_,_,qc (yd.mk 0 [] [] [] [] [] [] []),Z,Z,Z,Z,yr⟩,.inl Z,.inl Z,U⟩
       ·refine fE h31 H fun H=>zn (zc hN Z (qd Z (bE H fun x32 h33 H=>za (qx ww (fun _=>Z) Z Z h33) (za (wa tyS9 Z (qq h33) Z) (bE H fun r34 h35 H=>za (zj (kf x32 [63] r34 h35) ⟨.inl Z,.inl Z,U⟩) (qd Z (za (zt Z Z) (za (zt Z Z) (za (zt Z Z) (qe Z (qe Z (qe Z (zh (wz mixed hN Z Z (qd Z (bE H fun x36 h37 H=>za (qx ww (fun _=>Z) Z Z h37) (za (wa tyS9 Z (qq h37) Z) (qd Z (bE H fun x38 h39 H=>?_)))))))))))))))))))
        refine za (qx ww (fun _=>Z) Z Z h39) (za (wa tyS9 Z (qq h39) Z) (qd Z (qd Z (za (zv kj Z) (zr (zx qw Z Z) Z (bE H fun r40 h41 H=>za (zj (y2s r3.1.headers_ true r40 h41) ⟨.inl Z,.inl Z,U⟩) (qd Z (za (yo (u':=vagg (qc (yd.mk 0 x36 x38 r34.1 r34.2.1 [] r40 r29.1))) (va [(1,[vstr x36]),(2,[vstr x38]),(3,[vstr r34.1]),(4,[vstr r34.2.1]),(6,[vlst (List.map yb r40)]),(7,[vstr r29.1])] vf uo Z ⟨Z,.inl ⟨_,Z,Z,Z⟩,Z,Z,.inl ⟨_,Z,Z,Z⟩,Z,Z,.inl ⟨_,Z,Z,Z⟩,Z,Z,.inl ⟨_,Z,Z,Z⟩,Z,Z,.inl ⟨_,Z,Z,Z⟩,Z,Z,.inl ⟨_,Z,Z,Z⟩,Z,U⟩) Z) (zo (qm 4 vf Z) Z (zo (yq yr Z Z Z Z) Z ⟨Z,?_⟩))))))))))
        refine zh (zc hN Z (zr (qa yr Z Z Z) Z (bE H fun r42 h43 H=>za (zj (y9t (yd.mk 0 x36 x38 r34.1 r34.2.1 [] r40 r29.1) r42 h43) ⟨.inl Z,U⟩) (qe Z (zc hN Z (qd Z (za (qk Z Z) (zi _ Z (fun h44 => ?_) (fun h44 => ?_)))))))))
        ·refine tE h44 H fun H=>zc hN Z (zr (wn (u':=vagg (qc (yd.mk 0 [] [] [] [] [] [] []))) (wm (by exact ⟨zw,zw,zw,zw,zw,zw,wd,zw,U⟩)) (qa yr Z Z Z)) Z ?_)
         refine qd Z (zo (yq yr Z Z Z Z) Z (qe Z (qe Z (zg ?_))))
         cases H
         exact ⟨U,.inl ⟨_,_,_,qc (yd.mk 0 [] [] [] [] [] [] []),Z,Z,Z,Z,yr⟩,.inl Z,.inl Z,U⟩
        ·refine fE h44 H fun H=>zn (zc hN Z (zr (qa yr Z Z Z) Z (qd Z (za (yi tyU9 Z) (qd Z (za (yi tyU9 Z) (za (yf _ Z Z (.inr (.inl ⟨Z,Z⟩))) (zo (yq yr Z Z Z Z) Z (qe Z (qe Z (zg ?_)))))))))))
         cases H
         exact ⟨U,.inl ⟨_,_,_,qc (yd.mk 0 x36 x38 r34.1 r34.2.1 [] r40 r29.1),Z,Z,Z,Z,yr⟩,.inl Z,.inl Z,U⟩
theorem y9a (s1:Bs) (v2:Bs) (r:(Bool)) (H:z52 s1 v2=some r):Fn Tryz.prog 139 [vstr s1,vstr v2] (zp [zf r]):=by
 refine ⟨by kernel_rfl,zy (us:=[zf r]) Tryz.func139 Z Z Z Z fun X hN => ?_⟩
 unfold z52 at H
 refine zc hN Z (qe Z (zz (ι:=Bool) (fun i=>[(4,.dat (zf i))]) (fun i=>[]) (fun i=>z0z i=some r) (fun i=>Z) ?_ ?_))
 ·skip
  refine zq hN Z (qd Z (za (yi tyU9 Z) (qd Z (za (yi tyU9 Z) (za (wx Z Z) (qd Z (zu (j:=5) Z Z (fun h3 => ?_) (fun h3 => ?_) Z)))))))
  ·exact u1 h3 H fun h4 H=>zd Z Z h3 (ze (.dat _) Z) (zd Z Z h3 (ze (.dat _) Z) (zd Z Z h3 (yi tyU9 Z) (bE H fun l5 h6 H=>zd Z Z h3 (qf tyU9 Z Z Z h6) (zd Z Z h3 (ze (.dat _) Z) (zd Z Z h3 (qy Z Z) (za (zm Z (bTT h4) Z) (qe Z ⟨decide (l5=v2),H,⟨Z,U⟩,U⟩)))))))
  ·exact u2 h3 H fun h7 H=>zb Z Z h3 (zb Z Z h3 (zb Z Z h3 (zb Z Z h3 (zb Z Z h3 (zb Z Z h3 (za (zl Z (bFF h7) Z) (qe Z ⟨false,H,⟨Z,U⟩,U⟩)))))))
 ·rintro v8 H
  replace H:z0z v8=some r:=H
  unfold z0z at H
  refine zg ?_
  cases H
  exact ⟨U,.inl Z,U⟩
theorem y9b (s1:Bs) (v2:Bs) (r:(Bs×Bool)) (H:z55 s1 v2=some r):Fn Tryz.prog 96 [vstr s1,vstr v2] (zp [vstr r.1,zf r.2]):=by
 refine ⟨by kernel_rfl,zy (us:=[vstr r.1,zf r.2]) Tryz.func96 Z Z Z Z fun X hN => ?_⟩
 unfold z55 at H
 refine zc hN Z (qe Z (qe Z (zh (zc hN Z (qd Z (qd Z (bE H fun r3 h4 H=>za (zj (y9a s1 v2 r3 h4) ⟨.inl Z,.inl Z,U⟩) (za (yk Z) (zi _ Z (fun h5 => ?_) (fun h5 => ?_))))))))))
 ·refine tE h5 H fun H=>zc hN Z (qd Z (qe Z (qe Z (zg ?_))))
  cases H
  exact ⟨U,.inl Z,.inl Z,U⟩
 ·refine fE h5 H fun H=>zn (zc hN Z (qd Z (qd Z (za (yi tyU9 Z) (bE H fun l6 h7 H=>za (qf tyU9 Z Z Z h7) (qe Z (qe Z (zg ?_))))))))
  cases H
  exact ⟨U,.inl Z,.inl Z,U⟩
theorem y2b (s1:Bs) (v2:Bs) (r:(Bs×Bool)) (H:ud s1 v2=some r):Fn Tryz.prog 41 [vstr s1,vstr v2] (zp [vstr r.1,zf r.2]):=by
 refine ⟨by kernel_rfl,zy (us:=[vstr r.1,zf r.2]) Tryz.func41 Z Z Z Z fun X hN => ?_⟩
 unfold ud at H
 refine zc hN Z (qe Z (qe Z (zc hN Z (qd Z (qd Z (bE H fun r3 h4 H=>za (zj (y9b s1 v2 r3 h4) ⟨.inl Z,.inl Z,U⟩) (za (zt Z Z) (za (zt Z Z) (qe Z (qe Z (zg ?_)))))))))))
 cases H
 exact ⟨U,.inl Z,.inl Z,U⟩
theorem y8n (s1:Bs) (r:(Int×Bool)) (H:z2r s1=some r):Fn Tryz.prog 39 [vstr s1] (zp [vint r.1,zf r.2]):=by
 refine ⟨by kernel_rfl,zy (us:=[vint r.1,zf r.2]) Tryz.func39 Z Z Z Z fun X hN => ?_⟩
 unfold z2r at H
 refine zc hN Z (qe Z (qe Z (zc hN Z (qd Z (bE H fun r2 h3 H=>za (zj (y2b s1 [72,84,84,80,47,49,46,49,32] r2 h3) ⟨.inl Z,.inl Z,U⟩) (qd Z (za (zt Z Z) (za (zt Z Z) (qe Z (qe Z (zh (zz (ι:=Bool) (fun i=>[(4,.dat (vstr r2.1)),(36,.dat (zf i))]) (fun i=>[]) (fun i=>uu r2 i=some r) (fun i=>Z) ?_ ?_))))))))))))
 ·skip
  refine zq hN Z (qd Z (za (yk Z) (qd Z (zu (j:=2) Z Z (fun h4 => ?_) (fun h4 => ?_) Z))))
  ·refine u3 h4 H fun h5 H=>zd Z Z h4 (ze (.dat _) Z) (zd Z Z h4 (yi tyU9 Z) (zd Z Z h4 (yg Z Z) (za (zl Z (bFF h5) Z) (qd Z (zu (j:=7) Z Z (fun h6 => ?_) (fun h6 => ?_) Z)))))
   ·refine u3 h6 H fun h7 H=>zd Z Z h6 (ze (.dat _) Z) (bE H fun l8 h9 H=>zd Z Z h6 (qf tyU9 Z Z Z h9) (bE H fun r10 h11 H=>zd Z Z h6 (zj (z8r l8 [48,49,50,51,52,53,54,55,56,57] r10 h11) ⟨.inl Z,.inl Z,U⟩) (zd Z Z h6 (vc Z Z) (za (zl Z (bFF h7) Z) (qd Z (zu (j:=13) Z Z (fun h12 => ?_) (fun h12 => ?_) Z))))))
    ·refine u3 h12 H fun h13 H=>zd Z Z h12 (ze (.dat _) Z) (bE H fun x14 h15 H=>zd Z Z h12 (qh tyU9 Z Z h15) (zd Z Z h12 (qk Z Z) (za (zl Z (bFF h13) Z) (qd Z (zu (j:=18) Z Z (fun h16 => ?_) (fun h16 => ?_) Z)))))
     ·exact u3 h16 H fun h17 H=>zd Z Z h16 (ze (.dat _) Z) (bE H fun l18 h19 H=>zd Z Z h16 (qf tyU9 Z Z Z h19) (bE H fun r20 h21 H=>zd Z Z h16 (zj (z6g l18 32 126 r20 h21) ⟨.inl Z,.inl Z,.inl Z,U⟩) (zd Z Z h16 (yk Z) (za (zl Z (bFF h17) Z) ⟨!r20,H,⟨Z,Z,U⟩,U⟩))))
     ·exact u4 h16 H fun h22 H=>zb Z Z h16 (zb Z Z h16 (zb Z Z h16 (zb Z Z h16 (za (zm Z (bTT h22) Z) ⟨true,H,⟨Z,Z,U⟩,U⟩))))
    ·exact u4 h12 H fun h23 H=>zb Z Z h12 (zb Z Z h12 (zb Z Z h12 (za (zm Z (bTT h23) Z) (qd Z (zb Z Z Z (zb Z Z Z (zb Z Z Z (zb Z Z Z (za (zm Z Z Z) ⟨true,H,⟨Z,Z,U⟩,U⟩)))))))))
   ·exact u4 h6 H fun h24 H=>zb Z Z h6 (zb Z Z h6 (zb Z Z h6 (zb Z Z h6 (za (zm Z (bTT h24) Z) (qd Z (zb Z Z Z (zb Z Z Z (zb Z Z Z (za (zm Z Z Z) (qd Z (zb Z Z Z (zb Z Z Z (zb Z Z Z (zb Z Z Z (za (zm Z Z Z) ⟨true,H,⟨Z,Z,U⟩,U⟩)))))))))))))))
  ·exact u4 h4 H fun h25 H=>zb Z Z h4 (zb Z Z h4 (zb Z Z h4 (za (zm Z (bTT h25) Z) (qd Z (zb Z Z Z (zb Z Z Z (zb Z Z Z (zb Z Z Z (za (zm Z Z Z) (qd Z (zb Z Z Z (zb Z Z Z (zb Z Z Z (za (zm Z Z Z) (qd Z (zb Z Z Z (zb Z Z Z (zb Z Z Z (zb Z Z Z (za (zm Z Z Z) ⟨true,H,⟨Z,Z,U⟩,U⟩))))))))))))))))))))
 ·rintro v26 H
  replace H:uu r2 v26=some r:=H
  unfold uu at H
  refine zi _ Z (fun h27 => ?_) (fun h27 => ?_)
  ·refine tE h27 H fun H=>zc hN Z (qe Z (qe Z (zg ?_)))
   cases H
   exact ⟨U,.inl Z,.inl Z,U⟩
  ·refine fE h27 H fun H=>zn (zc hN Z (qd Z (bE H fun l28 h29 H=>za (qf tyU9 Z Z Z h29) (bE H fun r30 h31 H=>za (zj (z6f l28 r30 h31) ⟨.inl Z,U⟩) (qd Z (za (zt Z Z) (za (zt Z Z) (qe Z (qe Z (zh (wz mixed hN Z Z (qd Z (qd Z (za (z43 (n:=r30.2) (show Tryz.prog.underlying 86=some (.interface (Tryz.prog.methodsAt 86)) from by kernel_rfl) Z) ?_))))))))))))))
   refine qe Z (qe Z ⟨Z,?_⟩)
   refine zg ?_
   cases H
   exact ⟨U,.inl Z,.inl Z,U⟩
theorem y85 (a1:yj) (r:(Int)) (H:z3a a1=some r):Fn Tryz.prog 40 [vagg (qi a1)] (zp [vint r]):=by
 refine ⟨by kernel_rfl,zy (us:=[vint r]) Tryz.func40 Z Z Z Z fun X hN => ?_⟩
 unfold z3a at H
 refine zc hN Z (zo (vp 1 Z) Z (qe Z (zh (zc hN Z (za (zv Wg Z) (zr (zx tyS3 Z Z) Z (bE H fun r2 h3 H=>za (zj (y2n a1.Status 100 599 r2 h3) ⟨.inl Z,.inl Z,.inl Z,U⟩) (zi _ Z (fun h4 => ?_) (fun h4 => ?_)))))))))
 ·refine tE h4 H fun H=>zc hN Z (qe Z (zg ?_))
  cases H
  exact ⟨U,.inl Z,U⟩
 ·refine fE h4 H fun H=>zn (zh (zc hN Z (za (zv z1w Z) (zr (zx qw Z Z) Z (bE H fun r5 h6 H=>za (zj (y2l a1.Headers r5 h6) ⟨.inl Z,U⟩) (qe Z (zc hN Z (qd Z (za (qk Z Z) (zi _ Z (fun h7 => ?_) (fun h7 => ?_)))))))))))
  ·refine tE h7 H fun H=>zc hN Z (qd Z (qe Z (zg ?_)))
   cases H
   exact ⟨U,.inl Z,U⟩
  ·refine fE h7 H fun H=>zn (zh (zc hN Z (za (zv z1v Z) (zr (zx tyS9 Z Z) Z (za (yi tyU9 Z) (za (qb Z Z) (zi _ Z (fun h8 => ?_) (fun h8 => ?_))))))))
   ·refine tE h8 H fun H=>zc hN Z (qe Z (zg ?_))
    cases H
    exact ⟨U,.inl Z,U⟩
   ·refine fE h8 H fun H=>zn (zc hN Z (qe Z (zg ?_)))
    cases H
    exact ⟨U,.inl Z,U⟩
theorem y82 (v1:Bs) (r:(yj×Int×Int)) (H:z26 v1=some r):Fn Tryz.prog 8 [vstr v1] (zp [vagg (qi r.1),vint r.2.1,vint r.2.2]):=by
 refine ⟨by kernel_rfl,zy (us:=[vagg (qi r.1),vint r.2.1,vint r.2.2]) Tryz.func8 Z Z Z Z fun X hN => ?_⟩
 unfold z26 at H
 refine zc hN Z (zo (qm 1 vo Z) Z (qe Z (qe Z (zh (zc hN Z (qd Z (za (yi tyU9 Z) (za (qb Z Z) (zi _ Z (fun h2 => ?_) (fun h2 => ?_))))))))))
 ·refine tE h2 H fun H=>zc hN Z (za (wn (u':=vagg (qi (yj.mk 0 [] []))) (wm (by exact ⟨zw,wd,zw,U⟩)) (va [] vo xg Z U)) ?_)
  refine zo (yq yx Z Z Z Z) Z (qe Z (qe Z (zg ?_)))
  cases H
  exact ⟨U,.inl ⟨_,_,_,qi (yj.mk 0 [] []),Z,Z,Z,Z,yx⟩,.inl Z,.inl Z,U⟩
 ·refine fE h2 H fun H=>zn (zc hN Z (qd Z (bE H fun r3 h4 H=>za (zj (y2i v1 r3 h4) ⟨.inl Z,U⟩) (qd Z (za (zt Z Z) (za (zt Z Z) (zo (qm 2 z4r Z) Z (zo (yq js Z Z Z Z) Z (qe Z (zc hN Z (za (zv z7h Z) (zr (zx tyS9 Z Z) Z (bE H fun r5 h6 H=>za (zj (y8n r3.1.first_ r5 h6) ⟨.inl Z,U⟩) (qd Z (za (zt Z Z) (za (zt Z Z) (qe Z (qe Z (zh (zc hN Z ?_))))))))))))))))))))
  refine qd Z (za (yk Z) (qd Z (yz Z Z (fun hc=>ze (.dat _) Z) (yz Z Z (fun hc=>yk (cnd (c:=(!(!r3.2))) hc)) (za (vk Z Z (fun hb=>(cnd (c:=(!(!r3.2))) (notI hb)))) (zi _ Z (fun h7 => ?_) (fun h7 => ?_)))))))
  ·refine tE h7 H fun H=>zc hN Z (za (wn (u':=vagg (qi (yj.mk 0 [] []))) (wm (by exact ⟨zw,wd,zw,U⟩)) (va [] vo xg Z U)) ?_)
   refine zo (yq yx Z Z Z Z) Z (qe Z (qe Z (zg ?_)))
   cases H
   exact ⟨U,.inl ⟨_,_,_,qi (yj.mk 0 [] []),Z,Z,Z,Z,yx⟩,.inl Z,.inl Z,U⟩
  ·refine fE h7 H fun H=>zn (zh (zc hN Z (za (zv xi Z) (zr (zx qw Z Z) Z (za (yw vg Z) (za (qb Z Z) (zi _ Z (fun h8 => ?_) (fun h8 => ?_))))))))
   ·refine tE h8 H fun H=>zc hN Z (za (wn (u':=vagg (qi (yj.mk 0 [] []))) (wm (by exact ⟨zw,wd,zw,U⟩)) (va [] vo xg Z U)) ?_)
    refine zo (yq yx Z Z Z Z) Z (qe Z (qe Z (zg ?_)))
    cases H
    exact ⟨U,.inl ⟨_,_,_,qi (yj.mk 0 [] []),Z,Z,Z,Z,yx⟩,.inl Z,.inl Z,U⟩
   ·refine fE h8 H fun H=>zn (zc hN Z (zr (qa js Z Z Z) Z (qd Z (bE H fun r9 h10 H=>za (zj (y20 r3.1 v1 0 r9 h10) ⟨.inl Z,.inl Z,.inl Z,U⟩) (qd Z (za (zt Z Z) (za (zt Z Z) (za (zt Z Z) (za (zt Z Z) (qe Z (qe Z (qe Z (qe Z (zh (zc hN Z (qd Z (za (qk Z Z) (zi _ Z (fun h11 => ?_) (fun h11 => ?_)))))))))))))))))))
    ·refine tE h11 H fun H=>zc hN Z (za (wn (u':=vagg (qi (yj.mk 0 [] []))) (wm (by exact ⟨zw,wd,zw,U⟩)) (va [] vo xg Z U)) ?_)
     refine qd Z (zo (yq yx Z Z Z Z) Z (qe Z (qe Z (zg ?_))))
     cases H
     exact ⟨U,.inl ⟨_,_,_,qi (yj.mk 0 [] []),Z,Z,Z,Z,yx⟩,.inl Z,.inl Z,U⟩
    ·refine fE h11 H fun H=>zn (zc hN Z (qd Z (qd Z (qd Z (za (yo (u':=vagg (qi (yj.mk r5.1 r9.1 r9.2.1))) (va [(0,[vint r5.1]),(1,[vlst (List.map yb r9.1)]),(2,[vstr r9.2.1])] vo xg Z ⟨Z,.inl ⟨_,Z,Z,Z⟩,Z,Z,.inl ⟨_,Z,Z,Z⟩,Z,Z,.inl ⟨_,Z,Z,Z⟩,Z,U⟩) Z) (zo (qm 3 vo Z) Z (zo (yq yx Z Z Z Z) Z (zh (zc hN Z (zr (qa yx Z Z Z) Z (bE H fun r12 h13 H=>za (zj (y85 (yj.mk r5.1 r9.1 r9.2.1) r12 h13) ⟨.inl Z,U⟩) (qe Z (zc hN Z (qd Z (za (qk Z Z) (zi _ Z (fun h14 => ?_) (fun h14 => ?_)))))))))))))))))
     ·refine tE h14 H fun H=>zc hN Z (za (wn (u':=vagg (qi (yj.mk 0 [] []))) (wm (by exact ⟨zw,wd,zw,U⟩)) (va [] vo xg Z U)) ?_)
      refine qd Z (zo (yq yx Z Z Z Z) Z (qe Z (qe Z (zg ?_))))
      cases H
      exact ⟨U,.inl ⟨_,_,_,qi (yj.mk 0 [] []),Z,Z,Z,Z,yx⟩,.inl Z,.inl Z,U⟩
     ·refine fE h14 H fun H=>zn (zc hN Z (zr (qa yx Z Z Z) Z (qd Z (zo (yq yx Z Z Z Z) Z (qe Z (qe Z (zg ?_)))))))
      cases H
      exact ⟨U,.inl ⟨_,_,_,qi (yj.mk r5.1 r9.1 r9.2.1),Z,Z,Z,Z,yx⟩,.inl Z,.inl Z,U⟩
end Go.Proofs.YtbcmpepmafpibabGreatDoor
