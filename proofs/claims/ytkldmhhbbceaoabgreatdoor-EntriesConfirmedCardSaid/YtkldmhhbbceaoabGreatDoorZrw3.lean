/- Walks along the models. Printed by a program. -/
import Derived.Test.YtkldmhhbbceaoabGreatDoorZrw2
namespace Go.Proofs.YtkldmhhbbceaoabGreatDoor
open Go.RowKit
set_option linter.unusedVariables false
set_option maxRecDepth 100000
set_option maxHeartbeats 2000000
theorem y4p (s1:Bs) (r:(Int×Int)) (H:xh s1=some r):Fn Tryz.prog 133 [vstr s1] (zw [vint r.1,verr r.2]):=by
 refine ⟨by kernel_rfl,yh (us:=[vint r.1,verr r.2]) Tryz.func133 Z Z Z Z fun X hN => ?_⟩
 unfold xh at H
 refine zb hN Z (qe Z (qe Z (zb hN Z (qd Z (bE H fun r2 h3 H=>za (zm (x2n s1 r2 h3) ⟨.inl Z,U⟩) (qd Z (za (ym Z Z) (za (ym Z Z) (qe Z (qe Z (zg (zb hN Z (qd Z (za (y2v (n:=r2.2) (show Tryz.prog.underlying 95=some (.interface (Tryz.prog.methodsAt 95)) from by kernel_rfl) Z) ?_))))))))))))))
 refine zh _ Z (fun h4 => ?_) (fun h4 => ?_)
 ·refine tE h4 H fun H=>zb hN Z (qd Z (qd Z (qd Z (bE H fun r5 h6 H=>za (zm (x1u [65,116,111,105] s1 0 0 r2.2 r5 h6) ⟨.inl Z,.inl Z,.inl Z,.inl Z,.inl Z,U⟩) (qe Z (qe Z (zk ?_)))))))
  cases H
  exact ⟨U,.inl Z,.inl Z,U⟩
 ·refine fE h4 H fun H=>zl (zb hN Z (qd Z (qe Z (qe Z (zk ?_)))))
  cases H
  exact ⟨U,.inl Z,.inl Z,U⟩
theorem x2j (s1:Bs) (most2:Int) (r:(Int×Bool)) (H:z1a s1 most2=some r):Fn Tryz.prog 192 [vstr s1,vint most2] (zw [vint r.1,zj r.2]):=by
 refine ⟨by kernel_rfl,yh (us:=[vint r.1,zj r.2]) Tryz.func192 Z Z Z Z fun X hN => ?_⟩
 unfold z1a at H
 refine zb hN Z (qe Z (qe Z (zb hN Z (qd Z (bE H fun r3 h4 H=>za (zm (y4k s1 [45] r3 h4) ⟨.inl Z,.inl Z,U⟩) (qe Z (zg (yf (ι:=Bool) (fun i=>[(0,.dat (vstr s1)),(6,.dat (vstr r3)),(28,.dat (zj i))]) (fun i=>[]) (fun i=>ka s1 r3 i=some r) (fun i=>Z) ?_ ?_))))))))
 ·skip
  refine zu hN Z (qd Z (za (vo Z Z) (qd Z (yi (j:=2) Z Z (fun h5 => ?_) (fun h5 => ?_) Z))))
  ·refine u3 h5 H fun h6 H=>ze Z Z h5 (zf (.dat _) Z) (ze Z Z h5 (qh tyU9 Z) (ze Z Z h5 (zf (.dat _) Z) (ze Z Z h5 (qv Z Z) (za (zv Z (bFF h6) Z) (qd Z (yi (j:=8) Z Z (fun h7 => ?_) (fun h7 => ?_) Z))))))
   ·refine u3 h7 H fun h8 H=>ze Z Z h7 (zf (.dat _) Z) (bE H fun x9 h10 H=>ze Z Z h7 (qx tyU9 Z Z h10) (ze Z Z h7 (yt Z Z) (ze Z Z h7 (zf (.dat _) Z) (yi (j:=12) Z Z (fun h11 => ?_) (fun h11 => ?_) Z))))
    ·exact u1 h11 H fun h12 H=>ze Z Z h11 (zf (.dat _) Z) (ze Z Z h11 (ux Z Z) (ze Z Z h7 (yc Z (bTT h12) Z) (za (zv Z (bFF h8) Z) ⟨decide (s1≠[48]),H,⟨Z,Z,Z,U⟩,U⟩)))
    ·exact u2 h11 H fun h13 H=>zc Z Z h11 (zc Z Z h11 (ze Z Z h7 (zv Z (bFF h13) Z) (za (zv Z (bFF h8) Z) ⟨false,H,⟨Z,Z,Z,U⟩,U⟩)))
   ·exact u4 h7 H fun h14 H=>zc Z Z h7 (zc Z Z h7 (zc Z Z h7 (zc Z Z h7 (yw Z Z (yw Z Z (zc Z Z h7 (za (yc Z (bTT h14) Z) ⟨true,H,⟨Z,Z,Z,U⟩,U⟩)))))))
  ·exact u4 h5 H fun h15 H=>zc Z Z h5 (zc Z Z h5 (zc Z Z h5 (zc Z Z h5 (za (yc Z (bTT h15) Z) (qd Z (zc Z Z Z (zc Z Z Z (zc Z Z Z (zc Z Z Z (yw Z Z (yw Z Z (zc Z Z Z (za (yc Z Z Z) ⟨true,H,⟨Z,Z,Z,U⟩,U⟩)))))))))))))
 ·rintro v16 H
  replace H:ka s1 r3 v16=some r:=H
  unfold ka at H
  refine zh _ Z (fun h17 => ?_) (fun h17 => ?_)
  ·refine tE h17 H fun H=>zb hN Z (qe Z (qe Z (zk ?_)))
   cases H
   exact ⟨U,.inl Z,.inl Z,U⟩
  ·refine fE h17 H fun H=>zl (zg (zb hN Z (qe Z (yg (gE H fun h20 H=>qw (fun (i18:Nat) (s:Unit)=>[(0,.dat (vstr s1)),(6,.dat (vstr r3)),(7,.dat (vint (i18:Int)))]) (fun (i18:Nat) (s:Unit)=>[]) () H ⟨Z,Z,Z,U⟩ U (fun _ _=>Z) ?_ ?_)))))
   ·rintro ⟨⟩ H
    replace H:z1s s1=some r:=H
    unfold z1s at H
    refine zg (zb hN Z (qd Z (qd Z (za (qh tyU9 Z) (za (ye Z Z) (zh _ Z (fun h=>(lt_t h).elim) (fun h => ?_)))))))
    refine qc (zb hN Z (qd Z (bE H fun r22 h23 H=>za (zm (y4p s1 r22 h23) ⟨.inl Z,U⟩) (qd Z (za (ym Z Z) (za (ym Z Z) (qe Z (qe Z (zg (vr mixed hN Z Z (qd Z (qd Z (za (y2w (n:=r22.2) (show Tryz.prog.underlying 95=some (.interface (Tryz.prog.methodsAt 95)) from by kernel_rfl) Z) ?_)))))))))))))
    refine qe Z (qe Z ⟨Z,?_⟩)
    refine zk ?_
    cases H
    exact ⟨U,.inl Z,.inl Z,U⟩
   ·rintro i18 x21 ⟨⟩ q19 h24 h25 H hq19
    replace H:z4j i18 x21=some q19:=H
    unfold z4j at H
    refine zg (zb hN Z (qd Z (qd Z (za (qh tyU9 Z) (za (ye Z Z) (zh _ Z (fun h => ?_) (fun h=>(lt_f h24 h).elim)))))))
    refine zl (zg (yg (yf (ι:=Bool) (fun i=>[(0,.dat (vstr s1)),(6,.dat (vstr r3)),(7,.dat (vint (i18:Int))),(44,.dat (zj i))]) (fun i=>[]) (fun i=>z4k i=some q19) (fun i=>Z) ?_ ?_)))
    ·skip
     refine zu hN Z (qd Z (qd Z (za (qx tyU9 Z Z h25) (za (ye Z Z) (qd Z (yi (j:=4) Z Z (fun h26 => ?_) (fun h26 => ?_) Z))))))
     ·exact u3 h26 H fun h27 H=>ze Z Z h26 (zf (.dat _) Z) (ze Z Z h26 (zf (.dat _) Z) (ze Z Z h26 (qx tyU9 Z Z h25) (ze Z Z h26 (qv Z Z) (za (zv Z (bFF h27) Z) ⟨decide (57 < (x21.toNat:Int)),H,⟨Z,Z,Z,Z,U⟩,U⟩))))
     ·exact u4 h26 H fun h28 H=>zc Z Z h26 (zc Z Z h26 (zc Z Z h26 (zc Z Z h26 (za (yc Z (bTT h28) Z) ⟨true,H,⟨Z,Z,Z,Z,U⟩,U⟩))))
    ·rintro v29 H
     replace H:z4k v29=some q19:=H
     unfold z4k at H
     refine zh _ Z (fun h30 => ?_) (fun h30 => ?_)
     ·refine tE h30 H fun H=>zb hN Z (qe Z (qe Z (zk ?_)))
      replace H:=retl H hq19
      cases H
      exact ⟨U,.inl Z,.inl Z,U⟩
     ·exact fE h30 H fun H=>zl (zu hN Z (qd Z (za (qs Z Z (by omega)) (qe Z ⟨_,qj H,⟨Z,Z,Z,U⟩,U⟩))))
theorem y4w (s1:Bs) (r:(Int×Bool)) (H:z3u s1=some r):Fn Tryz.prog 153 [vstr s1] (zw [vint r.1,zj r.2]):=by
 refine ⟨by kernel_rfl,yh (us:=[vint r.1,zj r.2]) Tryz.func153 Z Z Z Z fun X hN => ?_⟩
 unfold z3u at H
 refine zb hN Z (qe Z (qe Z (zb hN Z (qd Z (bE H fun r2 h3 H=>za (zm (x2j s1 9 r2 h3) ⟨.inl Z,.inl Z,U⟩) (za (ym Z Z) (za (ym Z Z) (qe Z (qe Z (zk ?_))))))))))
 cases H
 exact ⟨U,.inl Z,.inl Z,U⟩
theorem y0e (n1:Int) (low2:Int) (high3:Int) (r:(Bool)) (H:z09 n1 low2 high3=some r):Fn Tryz.prog 75 [vint n1,vint low2,vint high3] (zw [zj r]):=by
 refine ⟨by kernel_rfl,yh (us:=[zj r]) Tryz.func75 Z Z Z Z fun X hN => ?_⟩
 unfold z09 at H
 refine zb hN Z (qe Z (zb hN Z (qd Z (qd Z (za (ye Z Z) (qd Z (wj Z Z (fun hc=>zf (.dat _) Z) (wj Z Z (fun hc=>zf (.dat _) Z) (wj Z Z (fun hc=>qv (cnd (c:=(!(decide (n1 < low2)))) hc) (cnd (c:=(!(decide (n1 < low2)))) hc)) (za (ki Z Z (fun hb=>(cnd (c:=(!(decide (n1 < low2)))) (notI hb)))) (qe Z (zk ?_))))))))))))
 cases H
 exact ⟨U,.inl Z,U⟩
theorem x2d (s1:Bs) (r:(Bool)) (H:z9w s1=some r):Fn Tryz.prog 152 [vstr s1] (zw [zj r]):=by
 refine ⟨by kernel_rfl,yh (us:=[zj r]) Tryz.func152 Z Z Z Z fun X hN => ?_⟩
 unfold z9w at H
 refine zb hN Z (qe Z (zg (zb hN Z (qd Z (za (qh tyU9 Z) (qd Z (yg (gE H fun h4 H=>qw (fun (k2:Nat) (s:Unit)=>[(0,.dat (vstr s1)),(5,.dat (vint (s1.length:Int))),(6,.dat (vint (k2:Int)))]) (fun (k2:Nat) (s:Unit)=>[]) () H ⟨Z,Z,Z,U⟩ U (fun _ _=>Z) ?_ ?_))))))))
 ·rintro ⟨⟩ H
  replace H:z9t s1=some r:=H
  unfold z9t at H
  refine zb hN Z (za (ye Z Z) (zg (zh _ Z (fun h=>(lt_t h).elim) (fun h => ?_))))
  refine qc (yf (ι:=Bool) (fun i=>[(2,.dat (zj i))]) (fun i=>[]) (fun i=>Yn i=some r) (fun i=>Z) ?_ ?_)
  ·skip
   refine zu hN Z (qd Z (za (ux Z Z) (qd Z (yi (j:=2) Z Z (fun h6 => ?_) (fun h6 => ?_) Z))))
   ·refine u1 h6 H fun h7 H=>ze Z Z h6 (zf (.dat _) Z) (ze Z Z h6 (qh tyU9 Z) (ze Z Z h6 (wt Z Z) (za (yc Z (bTT h7) Z) (qd Z (yi (j:=7) Z Z (fun h8 => ?_) (fun h8 => ?_) Z)))))
    ·refine u1 h8 H fun h9 H=>ze Z Z h8 (zf (.dat _) Z) (bE H fun x10 h11 H=>ze Z Z h8 (qx tyU9 Z Z h11) (ze Z Z h8 (qk Z Z) (za (yc Z (bTT h9) Z) (qd Z (yi (j:=12) Z Z (fun h12 => ?_) (fun h12 => ?_) Z)))))
     ·exact u1 h12 H fun h13 H=>ze Z Z h12 (zf (.dat _) Z) (ze Z Z h12 (zf (.dat _) Z) (ze Z Z h12 (qh tyU9 Z) (ze Z Z h12 (qn _ Z Z (.inr (.inl ⟨Z,Z⟩))) (bE H fun x14 h15 H=>ze Z Z h12 (ui tyU9 Z Z h15) (ze Z Z h12 (qk Z Z) (za (yc Z (bTT h13) Z) (qe Z ⟨decide ((x14.toNat:Int)≠45),H,⟨Z,U⟩,U⟩)))))))
     ·exact u2 h12 H fun h16 H=>zc Z Z h12 (zc Z Z h12 (zc Z Z h12 (zc Z Z h12 (zc Z Z h12 (zc Z Z h12 (za (zv Z (bFF h16) Z) (qe Z ⟨false,H,⟨Z,U⟩,U⟩)))))))
    ·exact u2 h8 H fun h17 H=>zc Z Z h8 (zc Z Z h8 (zc Z Z h8 (za (zv Z (bFF h17) Z) (qd Z (zc Z Z Z (zc Z Z Z (zc Z Z Z (zc Z Z Z (zc Z Z Z (zc Z Z Z (za (zv Z Z Z) (qe Z ⟨false,H,⟨Z,U⟩,U⟩))))))))))))
   ·exact u2 h6 H fun h18 H=>zc Z Z h6 (zc Z Z h6 (zc Z Z h6 (za (zv Z (bFF h18) Z) (qd Z (zc Z Z Z (zc Z Z Z (zc Z Z Z (za (zv Z Z Z) (qd Z (zc Z Z Z (zc Z Z Z (zc Z Z Z (zc Z Z Z (zc Z Z Z (zc Z Z Z (za (zv Z Z Z) (qe Z ⟨false,H,⟨Z,U⟩,U⟩)))))))))))))))))
  ·rintro v19 H
   replace H:Yn v19=some r:=H
   unfold Yn at H
   refine zk ?_
   cases H
   exact ⟨U,.inl Z,U⟩
 ·rintro k2 x5 ⟨⟩ q3 h20 h21 H hq3
  replace H:z9s k2 x5=some q3:=H
  unfold z9s at H
  refine zb hN Z (za (ye Z Z) (zg (zh _ Z (fun h => ?_) (fun h=>(lt_f h20 h).elim))))
  refine zl (zg (yg (zb hN Z (qd Z (qe Z (yf (ι:=Bool) (fun i=>[(0,.dat (vstr s1)),(5,.dat (vint (s1.length:Int))),(6,.dat (vint (k2:Int))),(26,.dat (zj i))]) (fun i=>[]) (fun i=>z0v i=some q3) (fun i=>Z) ?_ ?_))))))
  ·skip
   refine zu hN Z (qd Z (qd Z (za (qx tyU9 Z Z h21) (bE H fun r22 h23 H=>za (zm (y4t (x5.toNat:Int) r22 h23) ⟨.inl Z,U⟩) (za (yp Z) (qd Z (yi (j:=5) Z Z (fun h24 => ?_) (fun h24 => ?_) Z)))))))
   ·refine u1 h24 H fun h25 H=>ze Z Z h24 (zf (.dat _) Z) (ze Z Z h24 (zf (.dat _) Z) (ze Z Z h24 (qx tyU9 Z Z h21) (bE H fun r26 h27 H=>ze Z Z h24 (zm (y4u (x5.toNat:Int) r26 h27) ⟨.inl Z,U⟩) (ze Z Z h24 (yp Z) (za (yc Z (bTT h25) Z) (qd Z (yi (j:=12) Z Z (fun h28 => ?_) (fun h28 => ?_) Z)))))))
    ·exact u1 h28 H fun h29 H=>ze Z Z h28 (zf (.dat _) Z) (ze Z Z h28 (zf (.dat _) Z) (ze Z Z h28 (qx tyU9 Z Z h21) (ze Z Z h28 (qk Z Z) (za (yc Z (bTT h29) Z) ⟨decide ((x5.toNat:Int)≠45),H,⟨Z,Z,Z,Z,U⟩,U⟩))))
    ·exact u2 h28 H fun h30 H=>zc Z Z h28 (zc Z Z h28 (zc Z Z h28 (zc Z Z h28 (za (zv Z (bFF h30) Z) ⟨false,H,⟨Z,Z,Z,Z,U⟩,U⟩))))
   ·exact u2 h24 H fun h31 H=>zc Z Z h24 (zc Z Z h24 (zc Z Z h24 (zc Z Z h24 (zc Z Z h24 (za (zv Z (bFF h31) Z) (qd Z (zc Z Z Z (zc Z Z Z (zc Z Z Z (zc Z Z Z (za (zv Z Z Z) ⟨false,H,⟨Z,Z,Z,Z,U⟩,U⟩)))))))))))
  ·rintro v32 H
   replace H:z0v v32=some q3:=H
   unfold z0v at H
   refine zh _ Z (fun h33 => ?_) (fun h33 => ?_)
   ·refine tE h33 H fun H=>zb hN Z (qe Z (zk ?_))
    replace H:=retl H hq3
    cases H
    exact ⟨U,.inl Z,U⟩
   ·exact fE h33 H fun H=>zl (zu hN Z (za (qs Z Z (by omega)) (qd Z ⟨_,qj H,⟨Z,Z,Z,U⟩,U⟩)))
theorem x2e (s1:Bs) (r:(Bool)) (H:z07 s1=some r):Fn Tryz.prog 109 [vstr s1] (zw [zj r]):=by
 refine ⟨by kernel_rfl,yh (us:=[zj r]) Tryz.func109 Z Z Z Z fun X hN => ?_⟩
 unfold z07 at H
 refine zb hN Z (qe Z (zb hN Z (qd Z (bE H fun r2 h3 H=>za (zm (z96 s1 [58] r2 h3) ⟨.inl Z,.inl Z,U⟩) (qd Z (za (ym Z Z) (za (ym Z Z) (za (ym Z Z) (qe Z (qe Z (qe Z (zg (zb hN Z (qd Z (bE H fun r4 h5 H=>za (zm (z4m r2.1 [46] r4 h5) ⟨.inl Z,.inl Z,U⟩) (za (yz we Z) (qd Z (yg (gE H fun h8 H=>qw (fun (k6:Nat) (s:Unit)=>[(0,.dat (vstr s1)),(4,.dat (vstr r2.2.1)),(5,.dat (zj r2.2.2)),(17,.dat (vlst (List.map zt r4))),(18,.dat (vint (r4.length:Int))),(19,.dat (vint (k6:Int)))]) (fun (k6:Nat) (s:Unit)=>[]) () H ⟨Z,Z,Z,Z,Z,Z,U⟩ U (fun _ _=>Z) ?_ ?_)))))))))))))))))))
 ·rintro ⟨⟩ H
  replace H:z62 s1 r2=some r:=H
  unfold z62 at H
  refine zb hN Z (za (ye Z Z) (zg (zh _ Z (fun h=>(lt_t h).elim) (fun h => ?_))))
  refine qc (zb hN Z (qd Z (bE H fun r10 h11 H=>za (zm (y4w r2.2.1 r10 h11) ⟨.inl Z,U⟩) (qd Z (za (ym Z Z) (za (ym Z Z) (qe Z (qe Z (yf (ι:=Bool) (fun i=>[(2,.dat (zj i))]) (fun i=>[]) (fun i=>Yo i=some r) (fun i=>Z) ?_ ?_)))))))))
  ·skip
   refine zu hN Z (qd Z (za (qh tyU9 Z) (za (wt Z Z) (qd Z (yi (j:=3) Z Z (fun h12 => ?_) (fun h12 => ?_) Z)))))
   ·refine u1 h12 H fun h13 H=>ze Z Z h12 (zf (.dat _) Z) (ze Z Z h12 (yp Z) (ze Z Z h12 (zf (.dat _) Z) (yi (j:=6) Z Z (fun h14 => ?_) (fun h14 => ?_) Z)))
    ·refine u3 h14 H fun h15 H=>ze Z Z h14 (zf (.dat _) Z) (ze Z Z h14 (zf (.dat _) Z) (yi (j:=8) Z Z (fun h16 => ?_) (fun h16 => ?_) Z))
     ·exact u1 h16 H fun h17 H=>ze Z Z h16 (zf (.dat _) Z) (bE H fun r18 h19 H=>ze Z Z h16 (zm (y0e r10.1 1 65535 r18 h19) ⟨.inl Z,.inl Z,.inl Z,U⟩) (ze Z Z h16 (yp Z) (ze Z Z h14 (yc Z (bTT h17) Z) (ze Z Z h12 (zv Z (bFF h15) Z) (za (yc Z (bTT h13) Z) (qe Z ⟨!r18,H,⟨Z,U⟩,U⟩))))))
     ·exact u2 h16 H fun h20 H=>zc Z Z h16 (zc Z Z h16 (zc Z Z h16 (ze Z Z h14 (zv Z (bFF h20) Z) (ze Z Z h12 (zv Z (bFF h15) Z) (za (yc Z (bTT h13) Z) (qe Z ⟨false,H,⟨Z,U⟩,U⟩))))))
    ·exact u4 h14 H fun h21 H=>zc Z Z h14 (zc Z Z h14 (yw Z Z (yw Z Z (yw Z Z (zc Z Z h14 (ze Z Z h12 (yc Z (bTT h21) Z) (za (yc Z (bTT h13) Z) (qe Z ⟨true,H,⟨Z,U⟩,U⟩))))))))
   ·exact u2 h12 H fun h22 H=>zc Z Z h12 (zc Z Z h12 (zc Z Z h12 (yw Z Z (yw Z Z (yw Z Z (yw Z Z (yw Z Z (yw Z Z (zc Z Z h12 (za (zv Z (bFF h22) Z) (qe Z ⟨false,H,⟨Z,U⟩,U⟩)))))))))))
  ·rintro v23 H
   replace H:Yo v23=some r:=H
   unfold Yo at H
   refine zk ?_
   cases H
   exact ⟨U,.inl Z,U⟩
 ·rintro k6 x9 ⟨⟩ q7 h24 h25 H hq7
  replace H:z61 k6 x9=some q7:=H
  unfold z61 at H
  refine zb hN Z (za (ye Z Z) (zg (zh _ Z (fun h => ?_) (fun h=>(lt_f h24 h).elim))))
  refine zl (zg (yg (zb hN Z (za (wd wy (fun _=>Z) Z Z h25) (za (qo tyS9 Z (qa h25) Z) (qe Z (zb hN Z (qd Z (bE H fun r26 h27 H=>za (zm (x2d x9 r26 h27) ⟨.inl Z,U⟩) (za (yp Z) (zh _ Z (fun h28 => ?_) (fun h28 => ?_))))))))))))
  ·refine tE h28 H fun H=>zb hN Z (qe Z (zk ?_))
   replace H:=retl H hq7
   cases H
   exact ⟨U,.inl Z,U⟩
  ·exact fE h28 H fun H=>zl (zu hN Z (za (qs Z Z (by omega)) (qd Z ⟨_,qj H,⟨Z,Z,Z,Z,Z,Z,U⟩,U⟩)))
theorem x1r (s p:Bs) (r:Bool) (H:z9v s p=some r):Fn Tryz.prog 62 [vstr s,vstr p] (zw [zj r]):=by
 cases H
 refine y0z (by kernel_rfl) fun M w vs h => ?_
 have h1:=km (us:=[.string ⟨s.toArray⟩,.string ⟨p.toArray⟩]) h
 subst h1
 refine (Tryz.strings_HasPrefix ⟨s.toArray⟩ ⟨p.toArray⟩ w).mono ?_
 rintro e w' ⟨rfl,rfl⟩
 exact ⟨_,Z,Z,Kp.refl _ _⟩
theorem z99 (s1:Bs) (low2:Int) (high3:Int) (r:(Bool)) (H:Zj s1 low2 high3=some r):Fn Tryz.prog 154 [vstr s1,vval (.int .u8 low2),vval (.int .u8 high3)] (zw [zj r]):=by
 refine ⟨by kernel_rfl,yh (us:=[zj r]) Tryz.func154 Z Z Z Z fun X hN => ?_⟩
 unfold Zj at H
 refine zb hN Z (qe Z (zg (zb hN Z (qd Z (za (qh tyU9 Z) (qd Z (yg (gE H fun h6 H=>qw (fun (k4:Nat) (s:Unit)=>[(0,.dat (vstr s1)),(1,.dat (vval (.int .u8 low2))),(2,.dat (vval (.int .u8 high3))),(9,.dat (vint (s1.length:Int))),(10,.dat (vint (k4:Int)))]) (fun (k4:Nat) (s:Unit)=>[]) () H ⟨Z,Z,Z,Z,Z,U⟩ U (fun _ _=>Z) ?_ ?_))))))))
 ·rintro ⟨⟩ H
  replace H:z60=some r:=H
  unfold z60 at H
  refine zb hN Z (za (ye Z Z) (zg (zh _ Z (fun h=>(lt_t h).elim) (fun h => ?_))))
  refine qc (zb hN Z (qe Z (zk ?_)))
  cases H
  exact ⟨U,.inl Z,U⟩
 ·rintro k4 x7 ⟨⟩ q5 h8 h9 H hq5
  replace H:z6z low2 high3 k4 x7=some q5:=H
  unfold z6z at H
  refine zb hN Z (za (ye Z Z) (zg (zh _ Z (fun h => ?_) (fun h=>(lt_f h8 h).elim))))
  refine zl (zg (yg (zb hN Z (qd Z (qe Z (yf (ι:=Bool) (fun i=>[(0,.dat (vstr s1)),(1,.dat (vval (.int .u8 low2))),(2,.dat (vval (.int .u8 high3))),(9,.dat (vint (s1.length:Int))),(10,.dat (vint (k4:Int))),(24,.dat (zj i))]) (fun i=>[]) (fun i=>z0u i=some q5) (fun i=>Z) ?_ ?_))))))
  ·skip
   refine zu hN Z (qd Z (qd Z (za (qx tyU9 Z Z h9) (qd Z (za (ye Z Z) (qd Z (yi (j:=5) Z Z (fun h10 => ?_) (fun h10 => ?_) Z)))))))
   ·exact u3 h10 H fun h11 H=>ze Z Z h10 (zf (.dat _) Z) (ze Z Z h10 (zf (.dat _) Z) (ze Z Z h10 (qx tyU9 Z Z h9) (ze Z Z h10 (zf (.dat _) Z) (ze Z Z h10 (qv Z Z) (za (zv Z (bFF h11) Z) ⟨decide (high3 < (x7.toNat:Int)),H,⟨Z,Z,Z,Z,Z,Z,U⟩,U⟩)))))
   ·exact u4 h10 H fun h12 H=>zc Z Z h10 (zc Z Z h10 (zc Z Z h10 (zc Z Z h10 (zc Z Z h10 (za (yc Z (bTT h12) Z) ⟨true,H,⟨Z,Z,Z,Z,Z,Z,U⟩,U⟩)))))
  ·rintro v13 H
   replace H:z0u v13=some q5:=H
   unfold z0u at H
   refine zh _ Z (fun h14 => ?_) (fun h14 => ?_)
   ·refine tE h14 H fun H=>zb hN Z (qe Z (zk ?_))
    replace H:=retl H hq5
    cases H
    exact ⟨U,.inl Z,U⟩
   ·exact fE h14 H fun H=>zl (zu hN Z (za (qs Z Z (by omega)) (qd Z ⟨_,qj H,⟨Z,Z,Z,Z,Z,U⟩,U⟩)))
theorem y4n (s p:Bs) (r:Bool) (H:z02 s p=some r):Fn Tryz.prog 93 [vstr s,vstr p] (zw [zj r]):=by
 unfold z02 at H
 obtain ⟨⟨⟨h1,h2⟩,h3,h4⟩,h5⟩:=gif H
 cases h5
 refine xv (by kernel_rfl) fun M w vs hM h => ?_
 have hv:=km (us:=[.string ⟨s.toArray⟩,.string ⟨p.toArray⟩]) h
 subst hv
 refine (Tryz.strings_ContainsAny_laid ⟨s.toArray⟩ ⟨p.toArray⟩ w (by simp [ByteArray.size]; omega) (by simp [ByteArray.size]; omega) (fun j b hb=>z5l h3 j b (by simpa using hb)) (fun j b hb=>z5l h4 j b (by simpa using hb))).mono ?_
 rintro e w' ⟨rfl,hb⟩
 exact ⟨_,Z,Z,Kp.of_below hb⟩

theorem x2g (s1:Bs) (r:(Int)) (H:z3t s1=some r):Fn Tryz.prog 110 [vstr s1] (zw [vint r]):=by
 refine ⟨by kernel_rfl,yh (us:=[vint r]) Tryz.func110 Z Z Z Z fun X hN => ?_⟩
 unfold z3t at H
 refine zb hN Z (qe Z (zg (yf (ι:=Bool) (fun i=>[(19,.dat (zj i))]) (fun i=>[]) (fun i=>Ze i=some r) (fun i=>Z) ?_ ?_)))
 ·skip
  refine zu hN Z (qd Z (za (qh tyU9 Z) (za (qv Z Z) (qd Z (yi (j:=3) Z Z (fun h2 => ?_) (fun h2 => ?_) Z)))))
  ·refine u3 h2 H fun h3 H=>ze Z Z h2 (zf (.dat _) Z) (bE H fun r4 h5 H=>ze Z Z h2 (zm (x1r s1 [47] r4 h5) ⟨.inl Z,.inl Z,U⟩) (ze Z Z h2 (yp Z) (za (zv Z (bFF h3) Z) (qd Z (yi (j:=8) Z Z (fun h6 => ?_) (fun h6 => ?_) Z)))))
   ·refine u3 h6 H fun h7 H=>ze Z Z h6 (zf (.dat _) Z) (bE H fun r8 h9 H=>ze Z Z h6 (zm (z99 s1 33 126 r8 h9) ⟨.inl Z,.inl Z,.inl Z,U⟩) (ze Z Z h6 (yp Z) (za (zv Z (bFF h7) Z) (qd Z (yi (j:=13) Z Z (fun h10 => ?_) (fun h10 => ?_) Z)))))
    ·exact u3 h10 H fun h11 H=>ze Z Z h10 (zf (.dat _) Z) (bE H fun r12 h13 H=>ze Z Z h10 (zm (y4n s1 [63,35] r12 h13) ⟨.inl Z,.inl Z,U⟩) (za (zv Z (bFF h11) Z) ⟨r12,H,⟨Z,U⟩,U⟩))
    ·exact u4 h10 H fun h14 H=>zc Z Z h10 (zc Z Z h10 (za (yc Z (bTT h14) Z) ⟨true,H,⟨Z,U⟩,U⟩))
   ·exact u4 h6 H fun h15 H=>zc Z Z h6 (zc Z Z h6 (zc Z Z h6 (za (yc Z (bTT h15) Z) (qd Z (zc Z Z Z (zc Z Z Z (za (yc Z Z Z) ⟨true,H,⟨Z,U⟩,U⟩)))))))
  ·exact u4 h2 H fun h16 H=>zc Z Z h2 (zc Z Z h2 (zc Z Z h2 (za (yc Z (bTT h16) Z) (qd Z (zc Z Z Z (zc Z Z Z (zc Z Z Z (za (yc Z Z Z) (qd Z (zc Z Z Z (zc Z Z Z (za (yc Z Z Z) ⟨true,H,⟨Z,U⟩,U⟩))))))))))))
 ·rintro v17 H
  replace H:Ze v17=some r:=H
  unfold Ze at H
  refine zh _ Z (fun h18 => ?_) (fun h18 => ?_)
  ·refine tE h18 H fun H=>zb hN Z (qe Z (zk ?_))
   cases H
   exact ⟨U,.inl Z,U⟩
  ·refine fE h18 H fun H=>zl (zb hN Z (qe Z (zk ?_)))
   cases H
   exact ⟨U,.inl Z,U⟩
theorem y4o (s p:Bs) (r:Bool) (H:z03 s p=some r):Fn Tryz.prog 94 [vstr s,vstr p] (zw [zj r]):=by
 unfold z03 at H
 obtain ⟨h1,h2⟩:=gif H
 cases h2
 refine xv (by kernel_rfl) fun M w vs hM h => ?_
 have hv:=km (us:=[.string ⟨s.toArray⟩,.string ⟨p.toArray⟩]) h
 subst hv
 obtain ⟨m,hm⟩:=z67 hM
 refine (Tryz.strings_Contains ⟨s.toArray⟩ ⟨p.toArray⟩ m w (by simp [ByteArray.size]; omega) hm).mono ?_
 rintro e w' ⟨rfl,rfl⟩
 exact ⟨_,Z,Z,Kp.refl _ _⟩

theorem x2b (s1:Bs) (r:(Int)) (H:z3q s1=some r):Fn Tryz.prog 111 [vstr s1] (zw [vint r]):=by
 refine ⟨by kernel_rfl,yh (us:=[vint r]) Tryz.func111 Z Z Z Z fun X hN => ?_⟩
 unfold z3q at H
 refine zb hN Z (qe Z (zg (yf (ι:=Bool) (fun i=>[(14,.dat (zj i))]) (fun i=>[]) (fun i=>Ym i=some r) (fun i=>Z) ?_ ?_)))
 ·skip
  refine zu hN Z (qd Z (za (qh tyU9 Z) (za (qv Z Z) (qd Z (yi (j:=3) Z Z (fun h2 => ?_) (fun h2 => ?_) Z)))))
  ·refine u3 h2 H fun h3 H=>ze Z Z h2 (zf (.dat _) Z) (bE H fun r4 h5 H=>ze Z Z h2 (zm (z99 s1 33 126 r4 h5) ⟨.inl Z,.inl Z,.inl Z,U⟩) (ze Z Z h2 (yp Z) (za (zv Z (bFF h3) Z) (qd Z (yi (j:=8) Z Z (fun h6 => ?_) (fun h6 => ?_) Z)))))
   ·exact u3 h6 H fun h7 H=>ze Z Z h6 (zf (.dat _) Z) (bE H fun r8 h9 H=>ze Z Z h6 (zm (y4o s1 [35] r8 h9) ⟨.inl Z,.inl Z,U⟩) (za (zv Z (bFF h7) Z) ⟨r8,H,⟨Z,U⟩,U⟩))
   ·exact u4 h6 H fun h10 H=>zc Z Z h6 (zc Z Z h6 (za (yc Z (bTT h10) Z) ⟨true,H,⟨Z,U⟩,U⟩))
  ·exact u4 h2 H fun h11 H=>zc Z Z h2 (zc Z Z h2 (zc Z Z h2 (za (yc Z (bTT h11) Z) (qd Z (zc Z Z Z (zc Z Z Z (za (yc Z Z Z) ⟨true,H,⟨Z,U⟩,U⟩)))))))
 ·rintro v12 H
  replace H:Ym v12=some r:=H
  unfold Ym at H
  refine zh _ Z (fun h13 => ?_) (fun h13 => ?_)
  ·refine tE h13 H fun H=>zb hN Z (qe Z (zk ?_))
   cases H
   exact ⟨U,.inl Z,U⟩
  ·refine fE h13 H fun H=>zl (zb hN Z (qe Z (zk ?_)))
   cases H
   exact ⟨U,.inl Z,U⟩
theorem x1o (s1:Bs) (c2:Int) (r:(Bs)) (H:Zf s1 c2=some r):Fn Tryz.prog 137 [vstr s1,vval (.int .u8 c2)] (zw [vstr r]):=by
 refine ⟨by kernel_rfl,yh (us:=[vstr r]) Tryz.func137 Z Z Z Z fun X hN => ?_⟩
 unfold Zf at H
 refine zb hN Z (qe Z (yf (ι:=Bs) (fun i=>[(0,.dat (vstr i))]) (fun i=>[]) (fun i=>z3a i=some r) (fun i=>Z) ?_ ?_))
 ·skip
  refine yg (z8i (fun (s:Bs)=>[(0,.dat (vstr s)),(1,.dat (vval (.int .u8 c2)))]) (fun (s:Bs)=>[]) s1 H ⟨Z,Z,U⟩ U (fun _=>Z) ?_)
  rintro s3 q4 H hq4
  replace H:z29 c2 s3=some q4:=H
  unfold z29 at H
  refine zg (yf (ι:=Bool) (fun i=>[(0,.dat (vstr s3)),(1,.dat (vval (.int .u8 c2))),(16,.dat (zj i))]) (fun i=>[]) (fun i=>Yf s3 i=some q4) (fun i=>Z) ?_ ?_)
  ·skip
   refine zu hN Z (qd Z (za (qh tyU9 Z) (za (qv Z Z) (qd Z (yi (j:=3) Z Z (fun h5 => ?_) (fun h5 => ?_) Z)))))
   ·exact u1 h5 H fun h6 H=>ze Z Z h5 (zf (.dat _) Z) (ze Z Z h5 (zf (.dat _) Z) (ze Z Z h5 (qh tyU9 Z) (ze Z Z h5 (qn _ Z Z (.inr (.inl ⟨Z,Z⟩))) (bE H fun x7 h8 H=>ze Z Z h5 (ui tyU9 Z Z h8) (ze Z Z h5 (zf (.dat _) Z) (ze Z Z h5 (yt Z Z) (za (yc Z (bTT h6) Z) ⟨decide ((x7.toNat:Int)=c2),H,⟨Z,Z,Z,U⟩,U⟩)))))))
   ·exact u2 h5 H fun h9 H=>zc Z Z h5 (zc Z Z h5 (zc Z Z h5 (zc Z Z h5 (zc Z Z h5 (zc Z Z h5 (zc Z Z h5 (za (zv Z (bFF h9) Z) ⟨false,H,⟨Z,Z,Z,U⟩,U⟩)))))))
  ·rintro v10 H
   replace H:Yf s3 v10=some q4:=H
   unfold Yf at H
   refine zh _ Z (fun h11 => ?_) (fun h11 => ?_)
   ·exact tE h11 H fun H=>zl (yg (zu hN Z (qd Z (qd Z (za (qh tyU9 Z) (za (qn _ Z Z (.inr (.inl ⟨Z,Z⟩))) (bE H fun l12 h13 H=>za (jf tyU9 Z Z Z h13) (qe Z ⟨_,qj H,⟨Z,Z,U⟩,U⟩))))))))
   ·refine fE h11 H fun H=>qc ?_
    replace H:=outl H hq4
    exact ⟨s3,H,⟨Z,U⟩,U⟩
 ·rintro s14 H
  replace H:z3a s14=some r:=H
  unfold z3a at H
  refine zb hN Z (qd Z (qe Z (zk ?_)))
  cases H
  exact ⟨U,.inl Z,U⟩
theorem x1p (s1:Bs) (c2:Int) (r:(Bs)) (H:Yr s1 c2=some r):Fn Tryz.prog 136 [vstr s1,vval (.int .u8 c2)] (zw [vstr r]):=by
 refine ⟨by kernel_rfl,yh (us:=[vstr r]) Tryz.func136 Z Z Z Z fun X hN => ?_⟩
 unfold Yr at H
 refine zb hN Z (qe Z (yf (ι:=Bs) (fun i=>[(0,.dat (vstr i))]) (fun i=>[]) (fun i=>z3c i=some r) (fun i=>Z) ?_ ?_))
 ·skip
  refine yg (z8i (fun (s:Bs)=>[(0,.dat (vstr s)),(1,.dat (vval (.int .u8 c2)))]) (fun (s:Bs)=>[]) s1 H ⟨Z,Z,U⟩ U (fun _=>Z) ?_)
  rintro s3 q4 H hq4
  replace H:z3b c2 s3=some q4:=H
  unfold z3b at H
  refine zg (yf (ι:=Bool) (fun i=>[(0,.dat (vstr s3)),(1,.dat (vval (.int .u8 c2))),(13,.dat (zj i))]) (fun i=>[]) (fun i=>Yg s3 i=some q4) (fun i=>Z) ?_ ?_)
  ·skip
   refine zu hN Z (qd Z (za (qh tyU9 Z) (za (qv Z Z) (qd Z (yi (j:=3) Z Z (fun h5 => ?_) (fun h5 => ?_) Z)))))
   ·exact u1 h5 H fun h6 H=>ze Z Z h5 (zf (.dat _) Z) (bE H fun x7 h8 H=>ze Z Z h5 (qx tyU9 Z Z h8) (ze Z Z h5 (zf (.dat _) Z) (ze Z Z h5 (yt Z Z) (za (yc Z (bTT h6) Z) ⟨decide ((x7.toNat:Int)=c2),H,⟨Z,Z,Z,U⟩,U⟩))))
   ·exact u2 h5 H fun h9 H=>zc Z Z h5 (zc Z Z h5 (zc Z Z h5 (zc Z Z h5 (za (zv Z (bFF h9) Z) ⟨false,H,⟨Z,Z,Z,U⟩,U⟩))))
  ·rintro v10 H
   replace H:Yg s3 v10=some q4:=H
   unfold Yg at H
   refine zh _ Z (fun h11 => ?_) (fun h11 => ?_)
   ·exact tE h11 H fun H=>zl (yg (zu hN Z (qd Z (bE H fun l12 h13 H=>za (jf tyU9 Z Z Z h13) (qe Z ⟨_,qj H,⟨Z,Z,U⟩,U⟩)))))
   ·refine fE h11 H fun H=>qc ?_
    replace H:=outl H hq4
    exact ⟨s3,H,⟨Z,U⟩,U⟩
 ·rintro s14 H
  replace H:z3c s14=some r:=H
  unfold z3c at H
  refine zb hN Z (qd Z (qe Z (zk ?_)))
  cases H
  exact ⟨U,.inl Z,U⟩
theorem z1t (s1:Bs) (cutset2:Bs) (r:(Bs)) (H:xg s1 cutset2=some r):Fn Tryz.prog 91 [vstr s1,vstr cutset2] (zw [vstr r]):=by
 refine ⟨by kernel_rfl,yh (us:=[vstr r]) Tryz.func91 Z Z Z Z fun X hN => ?_⟩
 unfold xg at H
 refine zb hN Z (qe Z (zg (zb hN Z (qd Z (za (vo Z Z) (qd Z (wj Z Z (fun hc=>zf (.dat _) Z) (wj Z Z (fun hc=>vo (cnd (c:=(!(decide (s1=[])))) hc) Z) (za (ki Z Z (fun hb=>(cnd (c:=(!(decide (s1=[])))) (notI hb)))) (zh _ Z (fun h3 => ?_) (fun h3 => ?_)))))))))))
 ·refine tE h3 H fun H=>zb hN Z (qd Z (qe Z (zk ?_)))
  cases H
  exact ⟨U,.inl Z,U⟩
 ·refine fE h3 H fun H=>zl (zg (yf (ι:=Bool) (fun i=>[(0,.dat (vstr s1)),(1,.dat (vstr cutset2)),(21,.dat (zj i))]) (fun i=>[]) (fun i=>z0p s1 cutset2 i=some r) (fun i=>Z) ?_ ?_))
  ·skip
   refine zu hN Z (qd Z (za (qh tyU9 Z) (za (yt Z Z) (qd Z (yi (j:=3) Z Z (fun h4 => ?_) (fun h4 => ?_) Z)))))
   ·exact u1 h4 H fun h5 H=>ze Z Z h4 (zf (.dat _) Z) (bE H fun x6 h7 H=>ze Z Z h4 (qx tyU9 Z Z h7) (ze Z Z h4 (ye Z Z) (za (yc Z (bTT h5) Z) ⟨decide ((x6.toNat:Int) < 128),H,⟨Z,Z,Z,U⟩,U⟩)))
   ·exact u2 h4 H fun h8 H=>zc Z Z h4 (zc Z Z h4 (zc Z Z h4 (za (zv Z (bFF h8) Z) ⟨false,H,⟨Z,Z,Z,U⟩,U⟩)))
  ·rintro v9 H
   replace H:z0p s1 cutset2 v9=some r:=H
   unfold z0p at H
   refine zh _ Z (fun h10 => ?_) (fun h10 => ?_)
   ·refine tE h10 H fun H=>zg (vr mixed hN Z Z (qd Z (qd Z (bE H fun x11 h12 H=>za (qx tyU9 Z Z h12) (bE H fun r13 h14 H=>za (zm (x1o s1 (x11.toNat:Int) r13 h14) ⟨.inl Z,.inl Z,U⟩) (qd Z (za (qx tyU9 Z Z h12) (bE H fun r15 h16 H=>za (zm (x1p r13 (x11.toNat:Int) r15 h16) ⟨.inl Z,.inl Z,U⟩) (qe Z ⟨Z,?_⟩)))))))))
    refine zk ?_
    cases H
    exact ⟨U,.inl Z,U⟩
   ·refine fE h10 H fun H=>?_
    cases H
theorem y0b (s1:Bs) (r:(Bool)) (H:Zl s1=some r):Fn Tryz.prog 112 [vstr s1] (zw [zj r]):=by
 refine ⟨by kernel_rfl,yh (us:=[zj r]) Tryz.func112 Z Z Z Z fun X hN => ?_⟩
 unfold Zl at H
 refine zb hN Z (qe Z (yf (ι:=Bool) (fun i=>[(2,.dat (zj i))]) (fun i=>[]) (fun i=>Yq i=some r) (fun i=>Z) ?_ ?_))
 ·skip
  refine zu hN Z (qd Z (za (qh tyU9 Z) (za (wt Z Z) (qd Z (yi (j:=3) Z Z (fun h2 => ?_) (fun h2 => ?_) Z)))))
  ·refine u1 h2 H fun h3 H=>ze Z Z h2 (zf (.dat _) Z) (bE H fun r4 h5 H=>ze Z Z h2 (zm (z99 s1 32 126 r4 h5) ⟨.inl Z,.inl Z,.inl Z,U⟩) (za (yc Z (bTT h3) Z) (qd Z (yi (j:=7) Z Z (fun h6 => ?_) (fun h6 => ?_) Z))))
   ·exact u1 h6 H fun h7 H=>ze Z Z h6 (zf (.dat _) Z) (bE H fun r8 h9 H=>ze Z Z h6 (zm (z1t s1 [32] r8 h9) ⟨.inl Z,.inl Z,U⟩) (ze Z Z h6 (zf (.dat _) Z) (ze Z Z h6 (vo Z Z) (za (yc Z (bTT h7) Z) (qe Z ⟨decide (r8=s1),H,⟨Z,U⟩,U⟩)))))
   ·exact u2 h6 H fun h10 H=>zc Z Z h6 (zc Z Z h6 (zc Z Z h6 (zc Z Z h6 (za (zv Z (bFF h10) Z) (qe Z ⟨false,H,⟨Z,U⟩,U⟩)))))
  ·exact u2 h2 H fun h11 H=>zc Z Z h2 (zc Z Z h2 (za (zv Z (bFF h11) Z) (qd Z (zc Z Z Z (zc Z Z Z (zc Z Z Z (zc Z Z Z (za (zv Z Z Z) (qe Z ⟨false,H,⟨Z,U⟩,U⟩)))))))))
 ·rintro v12 H
  replace H:Yq v12=some r:=H
  unfold Yq at H
  refine zk ?_
  cases H
  exact ⟨U,.inl Z,U⟩
theorem y0d (l1:(List zd)) (r:(Int)) (H:Yw l1=some r):Fn Tryz.prog 76 [vlst (List.map zq l1)] (zw [vint r]):=by
 refine ⟨by kernel_rfl,yh (us:=[vint r]) Tryz.func76 Z Z Z Z fun X hN => ?_⟩
 unfold Yw at H
 refine zb hN Z (qe Z (zg (zb hN Z (qd Z (za (yz vm Z) (za (qv Z Z) (zh _ Z (fun h2 => ?_) (fun h2 => ?_))))))))
 ·refine tE h2 H fun H=>zb hN Z (qe Z (zk ?_))
  cases H
  exact ⟨U,.inl Z,U⟩
 ·refine fE h2 H fun H=>zl (zg (zb hN Z (qd Z (za (yz vm Z) (qd Z (yg (gE H fun h5 H=>qw (fun (k3:Nat) (s:Unit)=>[(8,.dat (vlst (List.map zq l1))),(9,.dat (vint (l1.length:Int))),(10,.dat (vint (k3:Int)))]) (fun (k3:Nat) (s:Unit)=>[]) () H ⟨Z,Z,Z,U⟩ U (fun _ _=>Z) ?_ ?_)))))))
  ·rintro ⟨⟩ H
   replace H:z66=some r:=H
   unfold z66 at H
   refine zb hN Z (za (ye Z Z) (zg (zh _ Z (fun h=>(lt_t h).elim) (fun h => ?_))))
   refine qc (zb hN Z (qe Z (zk ?_)))
   cases H
   exact ⟨U,.inl Z,U⟩
  ·rintro k3 x6 ⟨⟩ q4 h7 h8 H hq4
   replace H:z65 k3 x6=some q4:=H
   unfold z65 at H
   refine zb hN Z (za (ye Z Z) (zg (zh _ Z (fun h => ?_) (fun h=>(lt_f h7 h).elim))))
   refine zl (zg (yg (zb hN Z (za (wd je (fun _=>Z) Z Z h8) (za (uj wq Z (qa h8) Z) (zi (qz 1 vk Z) Z (zi (yu wq Z Z Z Z) Z (zg (zb hN Z (za (zp kq Z) (zo (zz tyS9 Z Z) Z (bE H fun r9 h10 H=>za (zm (z4n x6.Name r9 h10) ⟨.inl Z,U⟩) (za (yp Z) (zh _ Z (fun h11 => ?_) (fun h11 => ?_)))))))))))))))
   ·refine tE h11 H fun H=>zb hN Z (qe Z (zk ?_))
    replace H:=retl H hq4
    cases H
    exact ⟨U,.inl Z,U⟩
   ·refine fE h11 H fun H=>zl (zb hN Z (za (zp z0n Z) (zo (zz tyS9 Z Z) Z (bE H fun r12 h13 H=>za (zm (y0b x6.Value r12 h13) ⟨.inl Z,U⟩) (za (yp Z) (zh _ Z (fun h14 => ?_) (fun h14 => ?_)))))))
    ·refine tE h14 H fun H=>zb hN Z (qe Z (zk ?_))
     replace H:=retl H hq4
     cases H
     exact ⟨U,.inl Z,U⟩
    ·exact fE h14 H fun H=>zl (zu hN Z (za (qs Z Z (by omega)) (qd Z ⟨_,qj H,⟨Z,Z,Z,U⟩,U⟩)))
theorem y4v (r1:ya) (r:(Int)) (H:xj r1=some r):Fn Tryz.prog 68 [vagg (wl r1)] (zw [vint r]):=by
 refine ⟨by kernel_rfl,yh (us:=[vint r]) Tryz.func68 Z Z Z Z fun X hN => ?_⟩
 unfold xj at H
 refine zb hN Z (zi (qr 1 Z) Z (qe Z (zg (zb hN Z (za (zp z55 Z) (zo (zz tyS3 Z Z) Z (bE H fun r2 h3 H=>za (zm (z7o r1.At r2 h3) ⟨.inl Z,U⟩) (za (yp Z) (zh _ Z (fun h4 => ?_) (fun h4 => ?_))))))))))
 ·refine tE h4 H fun H=>zb hN Z (qe Z (zk ?_))
  cases H
  exact ⟨U,.inl Z,U⟩
 ·refine fE h4 H fun H=>zl (zg (zb hN Z (za (zp z54 Z) (zo (zz tyS9 Z Z) Z (bE H fun r5 h6 H=>za (zm (z4n r1.Method r5 h6) ⟨.inl Z,U⟩) (za (yp Z) (zh _ Z (fun h7 => ?_) (fun h7 => ?_))))))))
  ·refine tE h7 H fun H=>zb hN Z (qe Z (zk ?_))
   cases H
   exact ⟨U,.inl Z,U⟩
  ·refine fE h7 H fun H=>zl (zg (yf (ι:=Bool) (fun i=>[(1,.ptr 1 0),(33,.dat (zj i))]) (fun i=>[(1,.box none 28 [.dat (vint r1.At),.dat (vstr r1.Method),.dat (vstr r1.Host),.dat (vstr r1.Path),.dat (vstr r1.Query),.dat (vstr r1.From),.dat (vlst (List.map zq r1.Headers)),.dat (vstr r1.Body)])]) (fun i=>xe r1 i=some r) (fun i=>Z) ?_ ?_))
   ·skip
    refine zu hN Z (za (zp z26 Z) (zo (zz tyS9 Z Z) Z (bE H fun r8 h9 H=>za (zm (x2e r1.Host r8 h9) ⟨.inl Z,U⟩) (za (yp Z) (qd Z (yi (j:=4) Z Z (fun h10 => ?_) (fun h10 => ?_) Z))))))
    ·refine u3 h10 H fun h11 H=>ze Z Z h10 (zp z25 Z) (ql Z Z h10 (zz tyS9 Z Z) Z (bE H fun r12 h13 H=>ze Z Z h10 (zm (x2g r1.Path r12 h13) ⟨.inl Z,U⟩) (ze Z Z h10 (qk Z Z) (za (zv Z (bFF h11) Z) (qd Z (yi (j:=10) Z Z (fun h14 => ?_) (fun h14 => ?_) Z))))))
     ·refine u3 h14 H fun h15 H=>ze Z Z h14 (zp z24 Z) (ql Z Z h14 (zz tyS9 Z Z) Z (bE H fun r16 h17 H=>ze Z Z h14 (zm (x2b r1.Query r16 h17) ⟨.inl Z,U⟩) (ze Z Z h14 (qk Z Z) (za (zv Z (bFF h15) Z) (qd Z (yi (j:=16) Z Z (fun h18 => ?_) (fun h18 => ?_) Z))))))
      ·exact u3 h18 H fun h19 H=>ze Z Z h18 (zp z52 Z) (ql Z Z h18 (zz tyS9 Z Z) Z (bE H fun r20 h21 H=>ze Z Z h18 (zm (y0b r1.From r20 h21) ⟨.inl Z,U⟩) (ze Z Z h18 (yp Z) (za (zv Z (bFF h19) Z) ⟨!r20,H,⟨Z,Z,U⟩,⟨Z,U⟩⟩))))
      ·exact u4 h18 H fun h22 H=>zc Z Z h18 (zc Z Z h18 (zc Z Z h18 (zc Z Z h18 (za (yc Z (bTT h22) Z) ⟨true,H,⟨Z,Z,U⟩,⟨Z,U⟩⟩))))
     ·exact u4 h14 H fun h23 H=>zc Z Z h14 (zc Z Z h14 (zc Z Z h14 (zc Z Z h14 (za (yc Z (bTT h23) Z) (qd Z (zc Z Z Z (zc Z Z Z (zc Z Z Z (zc Z Z Z (za (yc Z Z Z) ⟨true,H,⟨Z,Z,U⟩,⟨Z,U⟩⟩))))))))))
    ·exact u4 h10 H fun h24 H=>zc Z Z h10 (zc Z Z h10 (zc Z Z h10 (zc Z Z h10 (za (yc Z (bTT h24) Z) (qd Z (zc Z Z Z (zc Z Z Z (zc Z Z Z (zc Z Z Z (za (yc Z Z Z) (qd Z (zc Z Z Z (zc Z Z Z (zc Z Z Z (zc Z Z Z (za (yc Z Z Z) ⟨true,H,⟨Z,Z,U⟩,⟨Z,U⟩⟩))))))))))))))))
   ·rintro v25 H
    replace H:xe r1 v25=some r:=H
    unfold xe at H
    refine zh _ Z (fun h26 => ?_) (fun h26 => ?_)
    ·refine tE h26 H fun H=>zb hN Z (qe Z (zk ?_))
     cases H
     exact ⟨U,.inl Z,U⟩
    ·refine fE h26 H fun H=>zl (zg (zb hN Z (za (zp vn Z) (zo (zz qg Z Z) Z (bE H fun r27 h28 H=>za (zm (y0d r1.Headers r27 h28) ⟨.inl Z,U⟩) (qe Z (zb hN Z (qd Z (za (qk Z Z) (zh _ Z (fun h29 => ?_) (fun h29 => ?_)))))))))))
     ·refine tE h29 H fun H=>zb hN Z (qd Z (qe Z (zk ?_)))
      cases H
      exact ⟨U,.inl Z,U⟩
     ·refine fE h29 H fun H=>zl (zg (zb hN Z (za (zp z50 Z) (zo (zz tyS9 Z Z) Z (za (qh tyU9 Z) (za (qv Z Z) (zh _ Z (fun h30 => ?_) (fun h30 => ?_))))))))
      ·refine tE h30 H fun H=>zb hN Z (qe Z (zk ?_))
       cases H
       exact ⟨U,.inl Z,U⟩
      ·refine fE h30 H fun H=>zl (zb hN Z (qe Z (zk ?_)))
       cases H
       exact ⟨U,.inl Z,U⟩
theorem y0c (a1:zx) (r:(Int)) (H:ug a1=some r):Fn Tryz.prog 36 [vagg (vt a1)] (zw [vint r]):=by
 refine ⟨by kernel_rfl,yh (us:=[vint r]) Tryz.func36 Z Z Z Z fun X hN => ?_⟩
 unfold ug at H
 refine zb hN Z (zi (qr 1 Z) Z (qe Z (zg (zb hN Z (za (zp xz Z) (zo (zz tyS3 Z Z) Z (bE H fun r2 h3 H=>za (zm (y0e a1.Status 100 599 r2 h3) ⟨.inl Z,.inl Z,.inl Z,U⟩) (zh _ Z (fun h4 => ?_) (fun h4 => ?_)))))))))
 ·refine tE h4 H fun H=>zb hN Z (qe Z (zk ?_))
  cases H
  exact ⟨U,.inl Z,U⟩
 ·refine fE h4 H fun H=>zl (zg (zb hN Z (za (zp wx Z) (zo (zz qg Z Z) Z (bE H fun r5 h6 H=>za (zm (y0d a1.Headers r5 h6) ⟨.inl Z,U⟩) (qe Z (zb hN Z (qd Z (za (qk Z Z) (zh _ Z (fun h7 => ?_) (fun h7 => ?_)))))))))))
  ·refine tE h7 H fun H=>zb hN Z (qd Z (qe Z (zk ?_)))
   cases H
   exact ⟨U,.inl Z,U⟩
  ·refine fE h7 H fun H=>zl (zg (zb hN Z (za (zp z5z Z) (zo (zz tyS9 Z Z) Z (za (qh tyU9 Z) (za (qv Z Z) (zh _ Z (fun h8 => ?_) (fun h8 => ?_))))))))
   ·refine tE h8 H fun H=>zb hN Z (qe Z (zk ?_))
    cases H
    exact ⟨U,.inl Z,U⟩
   ·refine fE h8 H fun H=>zl (zb hN Z (qe Z (zk ?_)))
    cases H
    exact ⟨U,.inl Z,U⟩
theorem y4y (s1:Bs) (r:(Bool)) (H:Yx s1=some r):Fn Tryz.prog 114 [vstr s1] (zw [zj r]):=by
 refine ⟨by kernel_rfl,yh (us:=[zj r]) Tryz.func114 Z Z Z Z fun X hN => ?_⟩
 unfold Yx at H
 refine zb hN Z (qe Z (zg (zb hN Z (qe Z (yg (gE H fun h4 H=>qw (fun (i2:Nat) (s:Unit)=>[(0,.dat (vstr s1)),(3,.dat (vint (i2:Int)))]) (fun (i2:Nat) (s:Unit)=>[]) () H ⟨Z,Z,U⟩ U (fun _ _=>Z) ?_ ?_))))))
 ·rintro ⟨⟩ H
  replace H:z93 s1=some r:=H
  unfold z93 at H
  refine zg (zb hN Z (qd Z (qd Z (za (qh tyU9 Z) (za (ye Z Z) (zh _ Z (fun h=>(lt_t h).elim) (fun h => ?_)))))))
  refine qc (zb hN Z (qd Z (za (ux Z Z) (qd Z (qt Z Z (fun hc=>zf (.dat _) Z) (qt Z Z (fun hc=>qh tyU9 (cnd (c:=(decide (s1≠[]))) hc)) (qt Z Z (fun hc=>wt (cnd (c:=(decide (s1≠[]))) hc) Z) (za (vc Z (fun hb=>(cnd (c:=(decide (s1≠[]))) hb)) Z) (qe Z (zk ?_))))))))))
  cases H
  exact ⟨U,.inl Z,U⟩
 ·rintro i2 x5 ⟨⟩ q3 h6 h7 H hq3
  replace H:z7m i2 x5=some q3:=H
  unfold z7m at H
  refine zg (zb hN Z (qd Z (qd Z (za (qh tyU9 Z) (za (ye Z Z) (zh _ Z (fun h => ?_) (fun h=>(lt_f h6 h).elim)))))))
  refine zl (zg (yg (zb hN Z (qd Z (qd Z (za (qx tyU9 Z Z h7) (qe Z (zb hN Z (qd Z (za (jg Z Z) (qd Z (qt Z Z (fun hc=>zf (.dat _) Z) (qt Z Z (fun hc=>wt (cnd (c:=(decide (97≤(x5.toNat:Int)))) hc) Z) (za (vc Z (fun hb=>(cnd (c:=(decide (97≤(x5.toNat:Int)))) hb)) Z) (qd Z (wj Z Z (fun hc=>zf (.dat _) Z) (wj Z Z (fun hc=>qv (cnd (c:=(!((decide (97≤(x5.toNat:Int))) && (decide ((x5.toNat:Int)≤122))))) hc) Z) (wj Z Z (fun hc=>zf (.dat _) (cnd (c:=(!((decide (97≤(x5.toNat:Int))) && (decide ((x5.toNat:Int)≤122))))) hc)) (ve Z Z (fun hc=>zf (.dat _) Z) (ve Z Z (fun hc=>jg (cnd (c:=((!((decide (97≤(x5.toNat:Int))) && (decide ((x5.toNat:Int)≤122)))) && (decide (0 < (i2:Int))))) hc) Z) (ve Z Z (fun hc=>zf (.dat _) (cnd (c:=((!((decide (97≤(x5.toNat:Int))) && (decide ((x5.toNat:Int)≤122)))) && (decide (0 < (i2:Int))))) hc)) (ve Z Z (fun hc=>zf (.dat _) Z) (ve Z Z (fun hc=>wt (cnd (c:=(((!((decide (97≤(x5.toNat:Int))) && (decide ((x5.toNat:Int)≤122)))) && (decide (0 < (i2:Int)))) && (decide (48≤(x5.toNat:Int))))) hc) Z) ?_)))))))))))))))))))))))
  refine ve Z Z (fun hc=>vc (cnd (c:=((!((decide (97≤(x5.toNat:Int))) && (decide ((x5.toNat:Int)≤122)))) && (decide (0 < (i2:Int))))) hc) (fun hb=>(cnd (c:=(((!((decide (97≤(x5.toNat:Int))) && (decide ((x5.toNat:Int)≤122)))) && (decide (0 < (i2:Int)))) && (decide (48≤(x5.toNat:Int))))) (andI hc hb))) Z) (ve Z Z (fun hc=>zf (.dat _) (cnd (c:=((!((decide (97≤(x5.toNat:Int))) && (decide ((x5.toNat:Int)≤122)))) && (decide (0 < (i2:Int))))) hc)) (z6o Z Z (fun hc=>zf (.dat _) Z) (z6o Z Z (fun hc=>yt (cnd (c:=(((!((decide (97≤(x5.toNat:Int))) && (decide ((x5.toNat:Int)≤122)))) && (decide (0 < (i2:Int)))) && !((decide (48≤(x5.toNat:Int))) && (decide ((x5.toNat:Int)≤57))))) hc) Z) (ve Z Z (fun hc=>ki (cnd (c:=((!((decide (97≤(x5.toNat:Int))) && (decide ((x5.toNat:Int)≤122)))) && (decide (0 < (i2:Int))))) hc) Z (fun hb=>(cnd (c:=(((!((decide (97≤(x5.toNat:Int))) && (decide ((x5.toNat:Int)≤122)))) && (decide (0 < (i2:Int)))) && !((decide (48≤(x5.toNat:Int))) && (decide ((x5.toNat:Int)≤57))))) (andI hc (notI hb))))) (ve Z Z (fun hc=>zf (.dat _) (cnd (c:=((!((decide (97≤(x5.toNat:Int))) && (decide ((x5.toNat:Int)≤122)))) && (decide (0 < (i2:Int))))) hc)) (z6o Z Z (fun hc=>zf (.dat _) Z) (z6o Z Z (fun hc=>yt (cnd (c:=(((!((decide (97≤(x5.toNat:Int))) && (decide ((x5.toNat:Int)≤122)))) && (decide (0 < (i2:Int)))) && !(((decide (48≤(x5.toNat:Int))) && (decide ((x5.toNat:Int)≤57))) || (decide ((x5.toNat:Int)=45))))) hc) Z) (ve Z Z (fun hc=>ki (cnd (c:=((!((decide (97≤(x5.toNat:Int))) && (decide ((x5.toNat:Int)≤122)))) && (decide (0 < (i2:Int))))) hc) Z (fun hb=>(cnd (c:=(((!((decide (97≤(x5.toNat:Int))) && (decide ((x5.toNat:Int)≤122)))) && (decide (0 < (i2:Int)))) && !(((decide (48≤(x5.toNat:Int))) && (decide ((x5.toNat:Int)≤57))) || (decide ((x5.toNat:Int)=45))))) (andI hc (notI hb))))) (wj Z Z (fun hc=>vc (cnd (c:=(!((decide (97≤(x5.toNat:Int))) && (decide ((x5.toNat:Int)≤122))))) hc) (fun hb=>(cnd (c:=((!((decide (97≤(x5.toNat:Int))) && (decide ((x5.toNat:Int)≤122)))) && (decide (0 < (i2:Int))))) (andI hc hb))) Z) (za (ki Z Z (fun hb=>(cnd (c:=(!((decide (97≤(x5.toNat:Int))) && (decide ((x5.toNat:Int)≤122))))) (notI hb)))) (za (yp Z) (zh _ Z (fun h8 => ?_) (fun h8 => ?_)))))))))))))
  ·refine tE h8 H fun H=>zb hN Z (qe Z (zk ?_))
   replace H:=retl H hq3
   cases H
   exact ⟨U,.inl Z,U⟩
  ·exact fE h8 H fun H=>zl (zu hN Z (qd Z (za (qs Z Z (by omega)) (qe Z ⟨_,qj H,⟨Z,Z,U⟩,U⟩))))
theorem x2i (l1:(List Bs)) (r:(Int)) (H:z7c l1=some r):Fn Tryz.prog 73 [vlst (List.map zt l1)] (zw [vint r]):=by
 refine ⟨by kernel_rfl,yh (us:=[vint r]) Tryz.func73 Z Z Z Z fun X hN => ?_⟩
 unfold z7c at H
 refine zb hN Z (qe Z (zg (zb hN Z (qd Z (za (yz we Z) (qd Z (yg (gE H fun h4 H=>qw (fun (k2:Nat) (s:Unit)=>[(0,.dat (vlst (List.map zt l1))),(5,.dat (vlst (List.map zt l1))),(6,.dat (vint (l1.length:Int))),(7,.dat (vint (k2:Int)))]) (fun (k2:Nat) (s:Unit)=>[]) () H ⟨Z,Z,Z,Z,U⟩ U (fun _ _=>Z) ?_ ?_))))))))
 ·rintro ⟨⟩ H
  replace H:z7l=some r:=H
  unfold z7l at H
  refine zb hN Z (za (ye Z Z) (zg (zh _ Z (fun h=>(lt_t h).elim) (fun h => ?_))))
  refine qc (zb hN Z (qe Z (zk ?_)))
  cases H
  exact ⟨U,.inl Z,U⟩
 ·rintro k2 x5 ⟨⟩ q3 h6 h7 H hq3
  replace H:z1q l1 k2 x5=some q3:=H
  unfold z1q at H
  refine zb hN Z (za (ye Z Z) (zg (zh _ Z (fun h => ?_) (fun h=>(lt_f h6 h).elim))))
  refine zl (zg (yg (zb hN Z (qd Z (za (wd wy (fun _=>Z) Z Z h7) (za (qo tyS9 Z (qa h7) Z) (qe Z (qe Z (zg (zb hN Z (qd Z (bE H fun r8 h9 H=>za (zm (y4y x5 r8 h9) ⟨.inl Z,U⟩) (za (yp Z) (zh _ Z (fun h10 => ?_) (fun h10 => ?_)))))))))))))))
  ·refine tE h10 H fun H=>zb hN Z (qe Z (zk ?_))
   replace H:=retl H hq3
   cases H
   exact ⟨U,.inl Z,U⟩
  ·refine fE h10 H fun H=>zl (yf (ι:=Bool) (fun i=>[(0,.dat (vlst (List.map zt l1))),(5,.dat (vlst (List.map zt l1))),(6,.dat (vint (l1.length:Int))),(7,.dat (vint (k2:Int))),(25,.dat (zj i))]) (fun i=>[]) (fun i=>z1r i=some q3) (fun i=>Z) ?_ ?_)
   ·skip
    refine zu hN Z (qd Z (za (qv Z Z) (qd Z (yi (j:=2) Z Z (fun h11 => ?_) (fun h11 => ?_) Z))))
    ·exact u1 h11 H fun h12 H=>ze Z Z h11 (zf (.dat _) Z) (ze Z Z h11 (zf (.dat _) Z) (ze Z Z h11 (zf (.dat _) Z) (ze Z Z h11 (y2l Z Z (by omega)) (bE H fun x13 h14 H=>ze Z Z h11 (kr wy (fun _=>Z) Z Z h14) (ze Z Z h11 (qo tyS9 Z (qa (jj h14).2) Z) (ze Z Z h11 (y2m Z Z) (za (yc Z (bTT h12) Z) ⟨(Op.bytesLess x5 x13 || x5 == x13),H,⟨Z,Z,Z,Z,Z,U⟩,U⟩)))))))
    ·exact u2 h11 H fun h15 H=>zc Z Z h11 (zc Z Z h11 (zc Z Z h11 (zc Z Z h11 (zc Z Z h11 (zc Z Z h11 (zc Z Z h11 (za (zv Z (bFF h15) Z) ⟨false,H,⟨Z,Z,Z,Z,Z,U⟩,U⟩)))))))
   ·rintro v16 H
    replace H:z1r v16=some q3:=H
    unfold z1r at H
    refine zh _ Z (fun h17 => ?_) (fun h17 => ?_)
    ·refine tE h17 H fun H=>zb hN Z (qe Z (zk ?_))
     replace H:=retl H hq3
     cases H
     exact ⟨U,.inl Z,U⟩
    ·exact fE h17 H fun H=>zl (zu hN Z (za (qs Z Z (by omega)) (qd Z ⟨_,qj H,⟨Z,Z,Z,Z,U⟩,U⟩)))
theorem y4m (s t:Bs) (r:Bool) (H:Ys s t=some r):Fn Tryz.prog 80 [vstr s,vstr t] (zw [zj r]):=by
 unfold Ys at H
 obtain ⟨⟨h1,h2,h3⟩,h4⟩:=gif H
 cases h4
 refine xv (by kernel_rfl) fun M w vs hM h => ?_
 have hv:=km (us:=[.string ⟨s.toArray⟩,.string ⟨t.toArray⟩]) h
 subst hv
 refine (Tryz.strings_EqualFold ⟨s.toArray⟩ ⟨t.toArray⟩ w (by simp [ByteArray.size]; omega) (fun j b hb=>z5l h2 j b (by simpa using hb)) (fun j b hb=>z5l h3 j b (by simpa using hb))).mono ?_
 rintro e w' ⟨rfl,rfl⟩
 exact ⟨_,Z,Z,Kp.refl _ _⟩

theorem y0a (h1:zd) (name2:Bs) (r:(Bool)) (H:Yv h1 name2=some r):Fn Tryz.prog 71 [vagg (zq h1),vstr name2] (zw [zj r]):=by
 refine ⟨by kernel_rfl,yh (us:=[zj r]) Tryz.func71 Z Z Z Z fun X hN => ?_⟩
 unfold Yv at H
 refine zb hN Z (zi (qr 1 Z) Z (qe Z (zb hN Z (za (zp kq Z) (zo (zz tyS9 Z Z) Z (qd Z (bE H fun r3 h4 H=>za (zm (y4m h1.Name name2 r3 h4) ⟨.inl Z,.inl Z,U⟩) (qe Z (zk ?_)))))))))
 cases H
 exact ⟨U,.inl Z,U⟩
theorem z7n (l1:(List zd)) (name2:Bs) (r:((List Bs))) (H:kj l1 name2=some r):Fn Tryz.prog 34 [vlst (List.map zq l1),vstr name2] (zw [vlst (List.map zt r)]):=by
 refine ⟨by kernel_rfl,yh (us:=[vlst (List.map zt r)]) Tryz.func34 Z Z Z Z fun X hN => ?_⟩
 unfold kj at H
 refine zb hN Z (qe Z (zb hN Z (qe Z (zg (zb hN Z (qd Z (za (yz vm Z) (qd Z (yg (kl 5 1 9 1 Z Z Z (gE H fun h6 H=>qw (fun (k4:Nat) (s:(List Bs))=>[(1,.dat (vstr name2)),(5,.row 1 s.length),(8,.dat (vlst (List.map zq l1))),(9,.dat (vint (l1.length:Int))),(10,.dat (vint (k4:Int)))]) (fun (k4:Nat) (s:(List Bs))=>[(1,.row 9 1 (List.map zt s))]) [] H ⟨Z,Z,Z,Z,Z,U⟩ ⟨Z,U⟩ (fun _ _=>Z) ?_ ?_)))))))))))
 ·rintro l3 H
  replace H:z63 l3=some r:=H
  unfold z63 at H
  refine zb hN Z (za (ye Z Z) (zg (zh _ Z (fun h=>(lt_t h).elim) (fun h => ?_))))
  refine qc (zb hN Z (za (zf (.row _ _) Z) (za (qi (.row _ _) Z) (zk ?_))))
  cases H
  exact ⟨U,ud Z Z,U⟩
 ·rintro k4 x7 l3 q5 h8 h9 H hq5
  replace H:Yp name2 k4 x7 l3=some q5:=H
  unfold Yp at H
  refine zb hN Z (za (ye Z Z) (zg (zh _ Z (fun h => ?_) (fun h=>(lt_f h8 h).elim))))
  refine zl (yf (ι:=(List Bs)) (fun i=>[(1,.dat (vstr name2)),(5,.row 1 i.length),(8,.dat (vlst (List.map zq l1))),(9,.dat (vint (l1.length:Int))),(10,.dat (vint (k4:Int)))]) (fun i=>[(1,.row 9 1 (List.map zt i))]) (fun i=>z0w i=some q5) (fun i=>Z) ?_ ?_)
  ·skip
   refine yg (zb hN Z (za (wd je (fun _=>Z) Z Z h9) (za (uj wq Z (qa h9) Z) (zi (qz 2 vk Z) Z (zi (yu wq Z Z Z Z) Z (zb hN Z (zo (yk wq Z Z Z) Z (qd Z (bE H fun r10 h11 H=>za (zm (y0a x7 name2 r10 h11) ⟨.inl Z,.inl Z,U⟩) (zh _ Z (fun h12 => ?_) (fun h12 => ?_)))))))))))
   ·refine tE h12 H fun H=>zu hN Z (za (zf (.row _ _) Z) (za (zp z0n Z) (zo (zz tyS9 Z Z) Z (za (yd (u':=vlst (List.map zt [x7.Value])) (yl [[_]] yr ⟨Z,.inl ⟨_,Z,Z,Z⟩,Z,U⟩ Z Z) Z) (gE H fun h13 H=>zi (vu yr (fun _=>Z) Z Z Z ⟨by simp,by first | (simp; done) | simpa using h13⟩ Z) Z ?_)))))
    exact za (qi (.row _ _) Z) ⟨(l3++[x7.Value]),H,⟨Z,Z,Z,Z,Z,U⟩,⟨Z,U⟩⟩
   ·exact fE h12 H fun H=>zl ⟨l3,H,⟨Z,Z,Z,Z,Z,U⟩,⟨Z,U⟩⟩
  ·rintro out14 H
   replace H:z0w out14=some q5:=H
   unfold z0w at H
   exact zu hN Z (za (qs Z Z (by omega)) (qd Z ⟨_,qj H,⟨Z,Z,Z,Z,Z,U⟩,⟨Z,U⟩⟩))
theorem x2h (values1:(List Bs)) (r:((List Bs))) (H:Zk values1=some r):Fn Tryz.prog 115 [vlst (List.map zt values1)] (zw [vlst (List.map zt r)]):=by
 refine ⟨by kernel_rfl,yh (us:=[vlst (List.map zt r)]) Tryz.func115 Z Z Z Z fun X hN => ?_⟩
 unfold Zk at H
 refine zb hN Z (qe Z (zb hN Z (qe Z (zg (zb hN Z (qd Z (za (yz we Z) (qd Z (yg (kl 3 1 9 1 Z Z Z (gE H fun h5 H=>qw (fun (k3:Nat) (s:(List Bs))=>[(3,.row 1 s.length),(8,.dat (vlst (List.map zt values1))),(9,.dat (vint (values1.length:Int))),(10,.dat (vint (k3:Int)))]) (fun (k3:Nat) (s:(List Bs))=>[(1,.row 9 1 (List.map zt s))]) [] H ⟨Z,Z,Z,Z,U⟩ ⟨Z,U⟩ (fun _ _=>Z) ?_ ?_)))))))))))
 ·rintro l2 H
  replace H:z0y l2=some r:=H
  unfold z0y at H
  refine zb hN Z (za (ye Z Z) (zg (zh _ Z (fun h=>(lt_t h).elim) (fun h => ?_))))
  refine qc (zb hN Z (za (zf (.row _ _) Z) (za (qi (.row _ _) Z) (zk ?_))))
  cases H
  exact ⟨U,ud Z Z,U⟩
 ·rintro k3 x6 l2 q4 h7 h8 H hq4
  replace H:xc k3 x6 l2=some q4:=H
  unfold xc at H
  refine zb hN Z (za (ye Z Z) (zg (zh _ Z (fun h => ?_) (fun h=>(lt_f h7 h).elim))))
  refine zl (zg (yg (zb hN Z (za (wd wy (fun _=>Z) Z Z h8) (za (qo tyS9 Z (qa h8) Z) (qe Z (zb hN Z (qd Z (bE H fun r9 h10 H=>za (zm (z4m x6 [44] r9 h10) ⟨.inl Z,.inl Z,U⟩) (za (yz we Z) (qd Z (yg (gE H fun h14 H=>qw (fun (k12:Nat) (s:(List Bs))=>[(3,.row 1 s.length),(8,.dat (vlst (List.map zt values1))),(9,.dat (vint (values1.length:Int))),(10,.dat (vint (k3:Int))),(15,.dat (vlst (List.map zt r9))),(16,.dat (vint (r9.length:Int))),(17,.dat (vint (k12:Int)))]) (fun (k12:Nat) (s:(List Bs))=>[(1,.row 9 1 (List.map zt s))]) l2 H ⟨Z,Z,Z,Z,Z,Z,Z,U⟩ ⟨Z,U⟩ (fun _ _=>Z) ?_ ?_)))))))))))))
  ·rintro l11 H
   replace H:z0x l11=some q4:=H
   unfold z0x at H
   refine zb hN Z (za (ye Z Z) (zg (zh _ Z (fun h=>(lt_t h).elim) (fun h => ?_))))
   exact qc (zu hN Z (za (qs Z Z (by omega)) (qd Z ⟨_,qj H,⟨Z,Z,Z,Z,U⟩,⟨Z,U⟩⟩)))
  ·rintro k12 x15 l11 q13 h16 h17 H hq13
   replace H:xb k12 x15 l11=some q13:=H
   unfold xb at H
   refine zb hN Z (za (ye Z Z) (zg (zh _ Z (fun h => ?_) (fun h=>(lt_f h16 h).elim))))
   refine zl (yf (ι:=(List Bs)) (fun i=>[(3,.row 1 i.length),(8,.dat (vlst (List.map zt values1))),(9,.dat (vint (values1.length:Int))),(10,.dat (vint (k3:Int))),(15,.dat (vlst (List.map zt r9))),(16,.dat (vint (r9.length:Int))),(17,.dat (vint (k12:Int)))]) (fun i=>[(1,.row 9 1 (List.map zt i))]) (fun i=>xd i=some q13) (fun i=>Z) ?_ ?_)
   ·skip
    refine yg (zb hN Z (za (wd wy (fun _=>Z) Z Z h17) (za (qo tyS9 Z (qa h17) Z) (qe Z (zb hN Z (qd Z (bE H fun r18 h19 H=>za (zm (z1t x15 [32] r18 h19) ⟨.inl Z,.inl Z,U⟩) (qe Z (zb hN Z (qd Z (za (ux Z Z) (zh _ Z (fun h20 => ?_) (fun h20 => ?_)))))))))))))
    ·refine tE h20 H fun H=>zu hN Z (za (zf (.row _ _) Z) (qd Z (za (yd (u':=vlst (List.map zt [r18])) (yl [[_]] yr ⟨Z,.inl ⟨_,Z,Z,Z⟩,Z,U⟩ Z Z) Z) (gE H fun h21 H=>zi (vu yr (fun _=>Z) Z Z Z ⟨by simp,by first | (simp; done) | simpa using h21⟩ Z) Z ?_))))
     exact za (qi (.row _ _) Z) ⟨(l11++[r18]),H,⟨Z,Z,Z,Z,Z,Z,Z,U⟩,⟨Z,U⟩⟩
    ·exact fE h20 H fun H=>zl ⟨l11,H,⟨Z,Z,Z,Z,Z,Z,Z,U⟩,⟨Z,U⟩⟩
   ·rintro out22 H
    replace H:xd out22=some q13:=H
    unfold xd at H
    exact zu hN Z (za (qs Z Z (by omega)) (qd Z ⟨_,qj H,⟨Z,Z,Z,Z,Z,Z,Z,U⟩,⟨Z,U⟩⟩))
theorem z97 (s1:(List Bs)) (v2:Bs) (r:(Int)) (H:Yt s1 v2=some r):Fn Tryz.prog 155 [vlst (List.map zt s1),vstr v2] (zw [vint r]):=by
 refine ⟨by kernel_rfl,yh (us:=[vint r]) Tryz.func155 Z Z Z Z fun X hN => ?_⟩
 unfold Yt at H
 refine zb hN Z (qe Z (zg (zb hN Z (qd Z (za (yz we Z) (qd Z (yg (gE H fun h5 H=>qw (fun (k3:Nat) (s:Unit)=>[(0,.dat (vlst (List.map zt s1))),(1,.dat (vstr v2)),(7,.dat (vint (s1.length:Int))),(8,.dat (vint (k3:Int)))]) (fun (k3:Nat) (s:Unit)=>[]) () H ⟨Z,Z,Z,Z,U⟩ U (fun _ _=>Z) ?_ ?_))))))))
 ·rintro ⟨⟩ H
  replace H:z86=some r:=H
  unfold z86 at H
  refine zb hN Z (za (ye Z Z) (zg (zh _ Z (fun h=>(lt_t h).elim) (fun h => ?_))))
  refine qc (zb hN Z (qe Z (zk ?_)))
  cases H
  exact ⟨U,.inl Z,U⟩
 ·rintro k3 x6 ⟨⟩ q4 h7 h8 H hq4
  replace H:z85 v2 k3 x6=some q4:=H
  unfold z85 at H
  refine zb hN Z (za (ye Z Z) (zg (zh _ Z (fun h => ?_) (fun h=>(lt_f h7 h).elim))))
  refine zl (zg (yg (zb hN Z (qd Z (qe Z (zb hN Z (qd Z (qd Z (qd Z (za (wd wy (fun _=>Z) Z Z h8) (za (qo tyS9 Z (qa h8) Z) (za (vo Z Z) (zh _ Z (fun h9 => ?_) (fun h9 => ?_))))))))))))))
  ·refine tE h9 H fun H=>zb hN Z (qd Z (qe Z (zk ?_)))
   replace H:=retl H hq4
   cases H
   exact ⟨U,.inl Z,U⟩
  ·exact fE h9 H fun H=>zl (zu hN Z (za (qs Z Z (by omega)) (qd Z ⟨_,qj H,⟨Z,Z,Z,Z,U⟩,U⟩)))
theorem x1x (s1:(List Bs)) (v2:Bs) (r:(Bool)) (H:z3o s1 v2=some r):Fn Tryz.prog 116 [vlst (List.map zt s1),vstr v2] (zw [zj r]):=by
 refine ⟨by kernel_rfl,yh (us:=[zj r]) Tryz.func116 Z Z Z Z fun X hN => ?_⟩
 unfold z3o at H
 refine zb hN Z (qe Z (zb hN Z (qd Z (qd Z (bE H fun r3 h4 H=>za (zm (z97 s1 v2 r3 h4) ⟨.inl Z,.inl Z,U⟩) (za (jg Z Z) (qe Z (zk ?_))))))))
 cases H
 exact ⟨U,.inl Z,U⟩
theorem y4h (l r:List Bs) (H:wu l=some r):FnG Tryz.prog 119 [.dat (vlst (List.map zt l))] [] (.row 900 r.length) [(900,.row 9 1 (List.map zt r))]:=by
 obtain ⟨hl,rfl⟩:=y6j H
 refine Ya (by kernel_rfl) Tryz.func119 Z Z Z Z fun X A hN => ?_
 refine y6q 0 Z (fun h0 => ?_) ?_
 ·obtain rfl:=List.map_eq_nil_iff.1 h0
  refine zb hN Z (qe Z (zg (zb hN Z (qd Z (za (y2x we Z) (zh _ Z (fun h => ?_) (fun h=>by cases h)))))))
  exact zb hN Z (qe Z (kl 2 900 9 1 Z Z Z (zk ⟨U,[(2,.row 900 0)],⟨Z,U⟩,⟨Z,U⟩,Z,.inr (.inl ⟨2,Z,Z⟩)⟩)))
 ·refine zb hN Z (qe Z (zg (zb hN Z (qd Z (za (y2y we Z) (zh _ Z (fun h=>by cases h) (fun h => ?_)))))))
  refine zl (zg (y6o 0 (u':=vlst (List.map zt l)) Z y1r (zu hN Z (zi (y2q 900 yr) Z (qd Z (zi (z6d (C:=zt) (xs:=[]) yr (fun _=>Z) Z Z Z (by simpa using hl) Z) Z ?_))))))
  exact za (qi (.row _ _) Z) (zk ⟨U,[(2,.row 900 l.length)],⟨Z,U⟩,⟨Z,U⟩,Z,.inr (.inl ⟨2,Z,Z⟩)⟩)
theorem x1y (l r:List Bs) (H:wu l=some r):Fn Tryz.prog 119 [vlst (List.map zt l)] (zw [vlst (List.map zt r)]):=by
 have h:=y4h l r H
 rw [← List.length_map (f:=zt)] at h
 exact z5h h
theorem z90 (l r:List Bs) (H:uf l=some r):FnG Tryz.prog 86 [.row 0 l.length] [(0,.rowA undef 9 1 (List.map zt l))] (.dat (zw [])) [(0,.rowA undef 9 1 (List.map zt r))]:=by
 obtain ⟨hl,hr⟩:=y3a H
 refine x4j (fun s:Bs=>Value.string ⟨s.toArray⟩) r l (Yj H) (by kernel_rfl) (fun _=>Z) (fun blk cap w hH hb => ?_) (fun h w => ?_)
 ·rw [hr]; exact Tryz.slices_Sort_string blk 0 cap l w hH hb (by omega)
 ·exact Tryz.slices_Sort_string_none none 0 w
theorem z92 (l r:List Bs) (H:Zi l=some r):FnG Tryz.prog 87 [.row 0 l.length] [(0,.row 9 1 (List.map zt l))] (.row 900 r.length) [(900,.row 9 1 (List.map zt r))]:=by
 obtain ⟨h1,rfl⟩:=x5d H
 exact x4k (fun s:Bs=>Value.string ⟨s.toArray⟩) [] (Lib.compact l) l (x5c l) (by kernel_rfl) (fun _=>Z) (fun blk cap w hH hc=>Tryz.slices_Compact_string blk 0 cap l w hH (by omega) hc) (fun h a cap w=>Tryz.slices_Compact_string_empty a cap w)
theorem y4x (l1:(List Bs)) (r:((List Bs))) (H:xk l1=some r):Fn Tryz.prog 117 [vlst (List.map zt l1)] (zw [vlst (List.map zt r)]):=by
 refine ⟨by kernel_rfl,yh (us:=[vlst (List.map zt r)]) Tryz.func117 Z Z Z Z fun X hN => ?_⟩
 unfold xk at H
 refine zb hN Z (qe Z (zb hN Z (qd Z (bE H fun r2 h3 H=>vz (rn [(900,1)]) [] [(900,_)] (y4h l1 r2 h3) ⟨Z,U⟩ ⟨.inl (.inl Z),U⟩ U Z (za (qi (.row _ _) Z) (zb hN Z (za (zf (.row _ _) Z) (bE H fun r4 h5 H=>vz (rn [(0,1)]) [(0,_,_,some _)] [] (z90 r2 r4 h5) ⟨Z,U⟩ ⟨.inl (.inl Z),U⟩ ⟨⟨⟨Z,Z,Z⟩,by simp [Yi,Yj h5]⟩,U⟩ Z ?_))))))))
 refine zb hN Z (za (zf (.row _ _) Z) (bE H fun r6 h7 H=>vz (rn [(0,1),(900,2)]) [(0,_,_,none)] [(900,_)] (z92 r4 r6 h7) ⟨Z,Z,U⟩ ⟨.inl (.inl (congrArg (Slot.row 1) (Yj h5).symm)),U⟩ ⟨⟨⟨Z,Z,Z⟩,U⟩,U⟩ Z (za (qi (.row _ _) Z) (zk ?_))))
 cases H
 exact ⟨U,ud Z Z,U⟩
theorem z1u (s:Bs) (r:Bs) (H:jw s=some r):Fn Tryz.prog 85 [vstr s] (zw [vstr r]):=by
 unfold jw at H
 obtain ⟨⟨h1,h2⟩,h3⟩:=gif H
 cases h3
 refine xv (by kernel_rfl) fun M w vs hM h => ?_
 have hv:=km (us:=[.string ⟨s.toArray⟩]) h
 subst hv
 refine (Tryz.strings_ToLower_ascii ⟨s.toArray⟩ w (by simp [ByteArray.size]; omega) (fun j b hb=>z5l h2 j b (by simpa using hb))).mono ?_
 rintro e w' ⟨rfl,hb⟩
 exact ⟨_,Z,Z,Kp.of_below hb⟩

theorem x1g (values1:(List Bs)) (r:((List Bs))) (H:Zk values1=some r):FnG Tryz.prog 115 [.dat (vlst (List.map zt values1))] [] (.row 1 r.length) [(1,.row 9 1 (List.map zt r))]:=by
 refine Ya (by kernel_rfl) Tryz.func115 Z Z Z Z fun X A hN => ?_
 unfold Zk at H
 refine zb hN Z (qe Z (zb hN Z (qe Z (zg (zb hN Z (qd Z (za (yz we Z) (qd Z (yg (kl 3 1 9 1 Z Z Z (gE H fun h5 H=>qw (fun (k3:Nat) (s:(List Bs))=>[(3,.row 1 s.length),(8,.dat (vlst (List.map zt values1))),(9,.dat (vint (values1.length:Int))),(10,.dat (vint (k3:Int)))]) (fun (k3:Nat) (s:(List Bs))=>[(1,.row 9 1 (List.map zt s))]) [] H ⟨Z,Z,Z,Z,U⟩ ⟨Z,U⟩ (fun _ _=>Z) ?_ ?_)))))))))))
 ·rintro l2 H
  replace H:z0y l2=some r:=H
  unfold z0y at H
  refine zb hN Z (za (ye Z Z) (zg (zh _ Z (fun h=>(lt_t h).elim) (fun h => ?_))))
  refine qc (zb hN Z (za (zf (.row _ _) Z) (za (qi (.row _ _) Z) (zk ?_))))
  cases H
  exact ⟨U,[(2,.row 1 _)],⟨Z,U⟩,⟨Z,U⟩,Z,.inr (.inl ⟨2,Z,Z⟩)⟩
 ·rintro k3 x6 l2 q4 h7 h8 H hq4
  replace H:xc k3 x6 l2=some q4:=H
  unfold xc at H
  refine zb hN Z (za (ye Z Z) (zg (zh _ Z (fun h => ?_) (fun h=>(lt_f h7 h).elim))))
  refine zl (zg (yg (zb hN Z (za (wd wy (fun _=>Z) Z Z h8) (za (qo tyS9 Z (qa h8) Z) (qe Z (zb hN Z (qd Z (bE H fun r9 h10 H=>za (zm (z4m x6 [44] r9 h10) ⟨.inl Z,.inl Z,U⟩) (za (yz we Z) (qd Z (yg (gE H fun h14 H=>qw (fun (k12:Nat) (s:(List Bs))=>[(3,.row 1 s.length),(8,.dat (vlst (List.map zt values1))),(9,.dat (vint (values1.length:Int))),(10,.dat (vint (k3:Int))),(15,.dat (vlst (List.map zt r9))),(16,.dat (vint (r9.length:Int))),(17,.dat (vint (k12:Int)))]) (fun (k12:Nat) (s:(List Bs))=>[(1,.row 9 1 (List.map zt s))]) l2 H ⟨Z,Z,Z,Z,Z,Z,Z,U⟩ ⟨Z,U⟩ (fun _ _=>Z) ?_ ?_)))))))))))))
  ·rintro l11 H
   replace H:z0x l11=some q4:=H
   unfold z0x at H
   refine zb hN Z (za (ye Z Z) (zg (zh _ Z (fun h=>(lt_t h).elim) (fun h => ?_))))
   exact qc (zu hN Z (za (qs Z Z (by omega)) (qd Z ⟨_,qj H,⟨Z,Z,Z,Z,U⟩,⟨Z,U⟩⟩)))
  ·rintro k12 x15 l11 q13 h16 h17 H hq13
   replace H:xb k12 x15 l11=some q13:=H
   unfold xb at H
   refine zb hN Z (za (ye Z Z) (zg (zh _ Z (fun h => ?_) (fun h=>(lt_f h16 h).elim))))
   refine zl (yf (ι:=(List Bs)) (fun i=>[(3,.row 1 i.length),(8,.dat (vlst (List.map zt values1))),(9,.dat (vint (values1.length:Int))),(10,.dat (vint (k3:Int))),(15,.dat (vlst (List.map zt r9))),(16,.dat (vint (r9.length:Int))),(17,.dat (vint (k12:Int)))]) (fun i=>[(1,.row 9 1 (List.map zt i))]) (fun i=>xd i=some q13) (fun i=>Z) ?_ ?_)
   ·skip
    refine yg (zb hN Z (za (wd wy (fun _=>Z) Z Z h17) (za (qo tyS9 Z (qa h17) Z) (qe Z (zb hN Z (qd Z (bE H fun r18 h19 H=>za (zm (z1t x15 [32] r18 h19) ⟨.inl Z,.inl Z,U⟩) (qe Z (zb hN Z (qd Z (za (ux Z Z) (zh _ Z (fun h20 => ?_) (fun h20 => ?_)))))))))))))
    ·refine tE h20 H fun H=>zu hN Z (za (zf (.row _ _) Z) (qd Z (za (yd (u':=vlst (List.map zt [r18])) (yl [[_]] yr ⟨Z,.inl ⟨_,Z,Z,Z⟩,Z,U⟩ Z Z) Z) (gE H fun h21 H=>zi (vu yr (fun _=>Z) Z Z Z ⟨by simp,by first | (simp; done) | simpa using h21⟩ Z) Z ?_))))
     exact za (qi (.row _ _) Z) ⟨(l11++[r18]),H,⟨Z,Z,Z,Z,Z,Z,Z,U⟩,⟨Z,U⟩⟩
    ·exact fE h20 H fun H=>zl ⟨l11,H,⟨Z,Z,Z,Z,Z,Z,Z,U⟩,⟨Z,U⟩⟩
   ·rintro out22 H
    replace H:xd out22=some q13:=H
    unfold xd at H
    exact zu hN Z (za (qs Z Z (by omega)) (qd Z ⟨_,qj H,⟨Z,Z,Z,Z,Z,Z,Z,U⟩,⟨Z,U⟩⟩))
end Go.Proofs.YtkldmhhbbceaoabGreatDoor
