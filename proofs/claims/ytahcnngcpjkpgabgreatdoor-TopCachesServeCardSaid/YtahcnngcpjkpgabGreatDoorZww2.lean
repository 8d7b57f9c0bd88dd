/- Walks along the models. Printed by a program. -/
import Derived.Test.YtahcnngcpjkpgabGreatDoorZww1
namespace Go.Proofs.YtahcnngcpjkpgabGreatDoor
open Go.RowKit
set_option linter.unusedVariables false
set_option maxRecDepth 100000
set_option maxHeartbeats 2000000
theorem z6c (s1:Bs) (r:(Bool)) (H:Ym s1=some r):Fn Tryz.prog 73 [vstr s1] (zr [zi r]):=by
 refine ⟨by kernel_rfl,yf (us:=[zi r]) Tryz.func73 Z Z Z Z fun X hN => ?_⟩
 unfold Ym at H
 refine zb hN Z (qe Z (zd (zb hN Z (qd Z (za (qi tyU9 Z) (qd Z (yc (gE H fun h4 H=>va (fun (k2:Nat) (s:Unit)=>[(0,.dat (vstr s1)),(5,.dat (vint (s1.length:Int))),(6,.dat (vint (k2:Int)))]) (fun (k2:Nat) (s:Unit)=>[]) () H ⟨Z,Z,Z,U⟩ U (fun _ _=>Z) ?_ ?_))))))))
 ·rintro ⟨⟩ H
  replace H:y7q s1=some r:=H
  unfold y7q at H
  refine zb hN Z (za (ye Z Z) (zd (zh _ Z (fun h=>(lt_t h).elim) (fun h => ?_))))
  refine yz (zb hN Z (qd Z (za (jo Z Z) (qd Z (ql Z Z (fun hc=>ze (.dat _) Z) (ql Z Z (fun hc=>qi tyU9 (cnd (c:=(decide (s1≠[]))) hc)) (ql Z Z (fun hc=>vm (cnd (c:=(decide (s1≠[]))) hc) Z) (za (wz Z (fun hb=>(cnd (c:=(decide (s1≠[]))) hb)) Z) (qe Z (zk ?_))))))))))
  cases H
  exact ⟨U,.inl Z,U⟩
 ·rintro k2 x5 ⟨⟩ q3 h6 h7 H hq3
  replace H:y2v k2 x5=some q3:=H
  unfold y2v at H
  refine zb hN Z (za (ye Z Z) (zd (zh _ Z (fun h => ?_) (fun h=>(lt_f h6 h).elim))))
  refine zn (zd (yc (zb hN Z (qd Z (qe Z (zb hN Z (qd Z (qd Z (za (wv tyU9 Z Z h7) (bE H fun r8 h9 H=>za (zo (w64 (x5.toNat:Int) r8 h9) ⟨.inl Z,U⟩) (za (yt Z) (zh _ Z (fun h10 => ?_) (fun h10 => ?_)))))))))))))
  ·refine tE h10 H fun H=>zb hN Z (qe Z (zk ?_))
   replace H:=retl H hq3
   cases H
   exact ⟨U,.inl Z,U⟩
  ·exact fE h10 H fun H=>zn (zj hN Z (za (qy Z Z (by omega)) (qd Z ⟨_,qm H,⟨Z,Z,Z,U⟩,U⟩)))
theorem y3t (s1:Bs) (low2:Int) (high3:Int) (r:(Bool)) (H:Yj s1 low2 high3=some r):Fn Tryz.prog 76 [vstr s1,vval (.int .u8 low2),vval (.int .u8 high3)] (zr [zi r]):=by
 refine ⟨by kernel_rfl,yf (us:=[zi r]) Tryz.func76 Z Z Z Z fun X hN => ?_⟩
 unfold Yj at H
 refine zb hN Z (qe Z (zd (zb hN Z (qd Z (za (qi tyU9 Z) (qd Z (yc (gE H fun h6 H=>va (fun (k4:Nat) (s:Unit)=>[(0,.dat (vstr s1)),(1,.dat (vval (.int .u8 low2))),(2,.dat (vval (.int .u8 high3))),(9,.dat (vint (s1.length:Int))),(10,.dat (vint (k4:Int)))]) (fun (k4:Nat) (s:Unit)=>[]) () H ⟨Z,Z,Z,Z,Z,U⟩ U (fun _ _=>Z) ?_ ?_))))))))
 ·rintro ⟨⟩ H
  replace H:y2r=some r:=H
  unfold y2r at H
  refine zb hN Z (za (ye Z Z) (zd (zh _ Z (fun h=>(lt_t h).elim) (fun h => ?_))))
  refine yz (zb hN Z (qe Z (zk ?_)))
  cases H
  exact ⟨U,.inl Z,U⟩
 ·rintro k4 x7 ⟨⟩ q5 h8 h9 H hq5
  replace H:y2q low2 high3 k4 x7=some q5:=H
  unfold y2q at H
  refine zb hN Z (za (ye Z Z) (zd (zh _ Z (fun h => ?_) (fun h=>(lt_f h8 h).elim))))
  refine zn (zd (yc (zb hN Z (qd Z (qe Z (yg (ι:=Bool) (fun i=>[(0,.dat (vstr s1)),(1,.dat (vval (.int .u8 low2))),(2,.dat (vval (.int .u8 high3))),(9,.dat (vint (s1.length:Int))),(10,.dat (vint (k4:Int))),(24,.dat (zi i))]) (fun i=>[]) (fun i=>z4v i=some q5) (fun i=>Z) ?_ ?_))))))
  ·skip
   refine zj hN Z (qd Z (qd Z (za (wv tyU9 Z Z h9) (qd Z (za (ye Z Z) (qd Z (yn (j:=5) Z Z (fun h10 => ?_) (fun h10 => ?_) Z)))))))
   ·exact u3 h10 H fun h11 H=>zf Z Z h10 (ze (.dat _) Z) (zf Z Z h10 (ze (.dat _) Z) (zf Z Z h10 (wv tyU9 Z Z h9) (zf Z Z h10 (ze (.dat _) Z) (zf Z Z h10 (wb Z Z) (za (zv Z (bFF h11) Z) ⟨decide (high3 < (x7.toNat:Int)),H,⟨Z,Z,Z,Z,Z,Z,U⟩,U⟩)))))
   ·exact u4 h10 H fun h12 H=>zc Z Z h10 (zc Z Z h10 (zc Z Z h10 (zc Z Z h10 (zc Z Z h10 (za (ya Z (bTT h12) Z) ⟨true,H,⟨Z,Z,Z,Z,Z,Z,U⟩,U⟩)))))
  ·rintro v13 H
   replace H:z4v v13=some q5:=H
   unfold z4v at H
   refine zh _ Z (fun h14 => ?_) (fun h14 => ?_)
   ·refine tE h14 H fun H=>zb hN Z (qe Z (zk ?_))
    replace H:=retl H hq5
    cases H
    exact ⟨U,.inl Z,U⟩
   ·exact fE h14 H fun H=>zn (zj hN Z (za (qy Z Z (by omega)) (qd Z ⟨_,qm H,⟨Z,Z,Z,Z,Z,U⟩,U⟩)))
theorem w6i (s1:Bs) (c2:Int) (r:(Bs)) (H:z0f s1 c2=some r):Fn Tryz.prog 136 [vstr s1,vval (.int .u8 c2)] (zr [vstr r]):=by
 refine ⟨by kernel_rfl,yf (us:=[vstr r]) Tryz.func136 Z Z Z Z fun X hN => ?_⟩
 unfold z0f at H
 refine zb hN Z (qe Z (yg (ι:=Bs) (fun i=>[(0,.dat (vstr i))]) (fun i=>[]) (fun i=>z77 i=some r) (fun i=>Z) ?_ ?_))
 ·skip
  refine yc (xo (fun (s:Bs)=>[(0,.dat (vstr s)),(1,.dat (vval (.int .u8 c2)))]) (fun (s:Bs)=>[]) s1 H ⟨Z,Z,U⟩ U (fun _=>Z) ?_)
  rintro s3 q4 H hq4
  replace H:z74 c2 s3=some q4:=H
  unfold z74 at H
  refine zd (yg (ι:=Bool) (fun i=>[(0,.dat (vstr s3)),(1,.dat (vval (.int .u8 c2))),(16,.dat (zi i))]) (fun i=>[]) (fun i=>z1m s3 i=some q4) (fun i=>Z) ?_ ?_)
  ·skip
   refine zj hN Z (qd Z (za (qi tyU9 Z) (za (wb Z Z) (qd Z (yn (j:=3) Z Z (fun h5 => ?_) (fun h5 => ?_) Z)))))
   ·exact u1 h5 H fun h6 H=>zf Z Z h5 (ze (.dat _) Z) (zf Z Z h5 (ze (.dat _) Z) (zf Z Z h5 (qi tyU9 Z) (zf Z Z h5 (ym _ Z Z (.inr (.inl ⟨Z,Z⟩))) (bE H fun x7 h8 H=>zf Z Z h5 (kr tyU9 Z Z h8) (zf Z Z h5 (ze (.dat _) Z) (zf Z Z h5 (yq Z Z) (za (ya Z (bTT h6) Z) ⟨decide ((x7.toNat:Int)=c2),H,⟨Z,Z,Z,U⟩,U⟩)))))))
   ·exact u2 h5 H fun h9 H=>zc Z Z h5 (zc Z Z h5 (zc Z Z h5 (zc Z Z h5 (zc Z Z h5 (zc Z Z h5 (zc Z Z h5 (za (zv Z (bFF h9) Z) ⟨false,H,⟨Z,Z,Z,U⟩,U⟩)))))))
  ·rintro v10 H
   replace H:z1m s3 v10=some q4:=H
   unfold z1m at H
   refine zh _ Z (fun h11 => ?_) (fun h11 => ?_)
   ·exact tE h11 H fun H=>zn (yc (zj hN Z (qd Z (qd Z (za (qi tyU9 Z) (za (ym _ Z Z (.inr (.inl ⟨Z,Z⟩))) (bE H fun l12 h13 H=>za (vh tyU9 Z Z Z h13) (qe Z ⟨_,qm H,⟨Z,Z,U⟩,U⟩))))))))
   ·refine fE h11 H fun H=>yz ?_
    replace H:=outl H hq4
    exact ⟨s3,H,⟨Z,U⟩,U⟩
 ·rintro s14 H
  replace H:z77 s14=some r:=H
  unfold z77 at H
  refine zb hN Z (qd Z (qe Z (zk ?_)))
  cases H
  exact ⟨U,.inl Z,U⟩
theorem w6j (s1:Bs) (c2:Int) (r:(Bs)) (H:z2b s1 c2=some r):Fn Tryz.prog 135 [vstr s1,vval (.int .u8 c2)] (zr [vstr r]):=by
 refine ⟨by kernel_rfl,yf (us:=[vstr r]) Tryz.func135 Z Z Z Z fun X hN => ?_⟩
 unfold z2b at H
 refine zb hN Z (qe Z (yg (ι:=Bs) (fun i=>[(0,.dat (vstr i))]) (fun i=>[]) (fun i=>z79 i=some r) (fun i=>Z) ?_ ?_))
 ·skip
  refine yc (xo (fun (s:Bs)=>[(0,.dat (vstr s)),(1,.dat (vval (.int .u8 c2)))]) (fun (s:Bs)=>[]) s1 H ⟨Z,Z,U⟩ U (fun _=>Z) ?_)
  rintro s3 q4 H hq4
  replace H:z78 c2 s3=some q4:=H
  unfold z78 at H
  refine zd (yg (ι:=Bool) (fun i=>[(0,.dat (vstr s3)),(1,.dat (vval (.int .u8 c2))),(13,.dat (zi i))]) (fun i=>[]) (fun i=>z1n s3 i=some q4) (fun i=>Z) ?_ ?_)
  ·skip
   refine zj hN Z (qd Z (za (qi tyU9 Z) (za (wb Z Z) (qd Z (yn (j:=3) Z Z (fun h5 => ?_) (fun h5 => ?_) Z)))))
   ·exact u1 h5 H fun h6 H=>zf Z Z h5 (ze (.dat _) Z) (bE H fun x7 h8 H=>zf Z Z h5 (wv tyU9 Z Z h8) (zf Z Z h5 (ze (.dat _) Z) (zf Z Z h5 (yq Z Z) (za (ya Z (bTT h6) Z) ⟨decide ((x7.toNat:Int)=c2),H,⟨Z,Z,Z,U⟩,U⟩))))
   ·exact u2 h5 H fun h9 H=>zc Z Z h5 (zc Z Z h5 (zc Z Z h5 (zc Z Z h5 (za (zv Z (bFF h9) Z) ⟨false,H,⟨Z,Z,Z,U⟩,U⟩))))
  ·rintro v10 H
   replace H:z1n s3 v10=some q4:=H
   unfold z1n at H
   refine zh _ Z (fun h11 => ?_) (fun h11 => ?_)
   ·exact tE h11 H fun H=>zn (yc (zj hN Z (qd Z (bE H fun l12 h13 H=>za (vh tyU9 Z Z Z h13) (qe Z ⟨_,qm H,⟨Z,Z,U⟩,U⟩)))))
   ·refine fE h11 H fun H=>yz ?_
    replace H:=outl H hq4
    exact ⟨s3,H,⟨Z,U⟩,U⟩
 ·rintro s14 H
  replace H:z79 s14=some r:=H
  unfold z79 at H
  refine zb hN Z (qd Z (qe Z (zk ?_)))
  cases H
  exact ⟨U,.inl Z,U⟩
theorem y3q (s1:Bs) (cutset2:Bs) (r:(Bs)) (H:Zr s1 cutset2=some r):Fn Tryz.prog 72 [vstr s1,vstr cutset2] (zr [vstr r]):=by
 refine ⟨by kernel_rfl,yf (us:=[vstr r]) Tryz.func72 Z Z Z Z fun X hN => ?_⟩
 unfold Zr at H
 refine zb hN Z (qe Z (zd (zb hN Z (qd Z (za (vi Z Z) (qd Z (yp Z Z (fun hc=>ze (.dat _) Z) (yp Z Z (fun hc=>vi (cnd (c:=(!(decide (s1=[])))) hc) Z) (za (wy Z Z (fun hb=>(cnd (c:=(!(decide (s1=[])))) (notI hb)))) (zh _ Z (fun h3 => ?_) (fun h3 => ?_)))))))))))
 ·refine tE h3 H fun H=>zb hN Z (qd Z (qe Z (zk ?_)))
  cases H
  exact ⟨U,.inl Z,U⟩
 ·refine fE h3 H fun H=>zn (zd (yg (ι:=Bool) (fun i=>[(0,.dat (vstr s1)),(1,.dat (vstr cutset2)),(21,.dat (zi i))]) (fun i=>[]) (fun i=>z4e s1 cutset2 i=some r) (fun i=>Z) ?_ ?_))
  ·skip
   refine zj hN Z (qd Z (za (qi tyU9 Z) (za (yq Z Z) (qd Z (yn (j:=3) Z Z (fun h4 => ?_) (fun h4 => ?_) Z)))))
   ·exact u1 h4 H fun h5 H=>zf Z Z h4 (ze (.dat _) Z) (bE H fun x6 h7 H=>zf Z Z h4 (wv tyU9 Z Z h7) (zf Z Z h4 (ye Z Z) (za (ya Z (bTT h5) Z) ⟨decide ((x6.toNat:Int) < 128),H,⟨Z,Z,Z,U⟩,U⟩)))
   ·exact u2 h4 H fun h8 H=>zc Z Z h4 (zc Z Z h4 (zc Z Z h4 (za (zv Z (bFF h8) Z) ⟨false,H,⟨Z,Z,Z,U⟩,U⟩)))
  ·rintro v9 H
   replace H:z4e s1 cutset2 v9=some r:=H
   unfold z4e at H
   refine zh _ Z (fun h10 => ?_) (fun h10 => ?_)
   ·refine tE h10 H fun H=>zd (ww mixed hN Z Z (qd Z (qd Z (bE H fun x11 h12 H=>za (wv tyU9 Z Z h12) (bE H fun r13 h14 H=>za (zo (w6i s1 (x11.toNat:Int) r13 h14) ⟨.inl Z,.inl Z,U⟩) (qd Z (za (wv tyU9 Z Z h12) (bE H fun r15 h16 H=>za (zo (w6j r13 (x11.toNat:Int) r15 h16) ⟨.inl Z,.inl Z,U⟩) (qe Z ⟨Z,?_⟩)))))))))
    refine zk ?_
    cases H
    exact ⟨U,.inl Z,U⟩
   ·refine fE h10 H fun H=>?_
    cases H
theorem y84 (s1:Bs) (r:(Bool)) (H:z0q s1=some r):Fn Tryz.prog 74 [vstr s1] (zr [zi r]):=by
 refine ⟨by kernel_rfl,yf (us:=[zi r]) Tryz.func74 Z Z Z Z fun X hN => ?_⟩
 unfold z0q at H
 refine zb hN Z (qe Z (yg (ι:=Bool) (fun i=>[(2,.dat (zi i))]) (fun i=>[]) (fun i=>z2a i=some r) (fun i=>Z) ?_ ?_))
 ·skip
  refine zj hN Z (qd Z (za (qi tyU9 Z) (za (vm Z Z) (qd Z (yn (j:=3) Z Z (fun h2 => ?_) (fun h2 => ?_) Z)))))
  ·refine u1 h2 H fun h3 H=>zf Z Z h2 (ze (.dat _) Z) (bE H fun r4 h5 H=>zf Z Z h2 (zo (y3t s1 32 126 r4 h5) ⟨.inl Z,.inl Z,.inl Z,U⟩) (za (ya Z (bTT h3) Z) (qd Z (yn (j:=7) Z Z (fun h6 => ?_) (fun h6 => ?_) Z))))
   ·exact u1 h6 H fun h7 H=>zf Z Z h6 (ze (.dat _) Z) (bE H fun r8 h9 H=>zf Z Z h6 (zo (y3q s1 [32] r8 h9) ⟨.inl Z,.inl Z,U⟩) (zf Z Z h6 (ze (.dat _) Z) (zf Z Z h6 (vi Z Z) (za (ya Z (bTT h7) Z) (qe Z ⟨decide (r8=s1),H,⟨Z,U⟩,U⟩)))))
   ·exact u2 h6 H fun h10 H=>zc Z Z h6 (zc Z Z h6 (zc Z Z h6 (zc Z Z h6 (za (zv Z (bFF h10) Z) (qe Z ⟨false,H,⟨Z,U⟩,U⟩)))))
  ·exact u2 h2 H fun h11 H=>zc Z Z h2 (zc Z Z h2 (za (zv Z (bFF h11) Z) (qd Z (zc Z Z Z (zc Z Z Z (zc Z Z Z (zc Z Z Z (za (zv Z Z Z) (qe Z ⟨false,H,⟨Z,U⟩,U⟩)))))))))
 ·rintro v12 H
  replace H:z2a v12=some r:=H
  unfold z2a at H
  refine zk ?_
  cases H
  exact ⟨U,.inl Z,U⟩
theorem y85 (l1:(List zg)) (r:(Int)) (H:z2l l1=some r):Fn Tryz.prog 62 [vlst (List.map zy l1)] (zr [vint r]):=by
 refine ⟨by kernel_rfl,yf (us:=[vint r]) Tryz.func62 Z Z Z Z fun X hN => ?_⟩
 unfold z2l at H
 refine zb hN Z (qe Z (zd (zb hN Z (qd Z (za (qh kz Z) (za (wb Z Z) (zh _ Z (fun h2 => ?_) (fun h2 => ?_))))))))
 ·refine tE h2 H fun H=>zb hN Z (qe Z (zk ?_))
  cases H
  exact ⟨U,.inl Z,U⟩
 ·refine fE h2 H fun H=>zn (zd (zb hN Z (qd Z (za (qh kz Z) (qd Z (yc (gE H fun h5 H=>va (fun (k3:Nat) (s:Unit)=>[(8,.dat (vlst (List.map zy l1))),(9,.dat (vint (l1.length:Int))),(10,.dat (vint (k3:Int)))]) (fun (k3:Nat) (s:Unit)=>[]) () H ⟨Z,Z,Z,U⟩ U (fun _ _=>Z) ?_ ?_)))))))
  ·rintro ⟨⟩ H
   replace H:y2x=some r:=H
   unfold y2x at H
   refine zb hN Z (za (ye Z Z) (zd (zh _ Z (fun h=>(lt_t h).elim) (fun h => ?_))))
   refine yz (zb hN Z (qe Z (zk ?_)))
   cases H
   exact ⟨U,.inl Z,U⟩
  ·rintro k3 x6 ⟨⟩ q4 h7 h8 H hq4
   replace H:y2w k3 x6=some q4:=H
   unfold y2w at H
   refine zb hN Z (za (ye Z Z) (zd (zh _ Z (fun h => ?_) (fun h=>(lt_f h7 h).elim))))
   refine zn (zd (yc (zb hN Z (za (wj uy (fun _=>Z) Z Z h8) (za (xa vx Z (qp h8) Z) (zl (qt 1 ky Z) Z (zl (yx vx Z Z Z Z) Z (zd (zb hN Z (za (zq Wm Z) (zm (zt tyS9 Z Z) Z (bE H fun r9 h10 H=>za (zo (z6c x6.Name r9 h10) ⟨.inl Z,U⟩) (za (yt Z) (zh _ Z (fun h11 => ?_) (fun h11 => ?_)))))))))))))))
   ·refine tE h11 H fun H=>zb hN Z (qe Z (zk ?_))
    replace H:=retl H hq4
    cases H
    exact ⟨U,.inl Z,U⟩
   ·refine fE h11 H fun H=>zn (zb hN Z (za (zq y1g Z) (zm (zt tyS9 Z Z) Z (bE H fun r12 h13 H=>za (zo (y84 x6.Value r12 h13) ⟨.inl Z,U⟩) (za (yt Z) (zh _ Z (fun h14 => ?_) (fun h14 => ?_)))))))
    ·refine tE h14 H fun H=>zb hN Z (qe Z (zk ?_))
     replace H:=retl H hq4
     cases H
     exact ⟨U,.inl Z,U⟩
    ·exact fE h14 H fun H=>zn (zj hN Z (za (qy Z Z (by omega)) (qd Z ⟨_,qm H,⟨Z,Z,Z,U⟩,U⟩)))
theorem y3w (a1:yb) (r:(Int)) (H:kl a1=some r):Fn Tryz.prog 17 [vagg (qf a1)] (zr [vint r]):=by
 refine ⟨by kernel_rfl,yf (us:=[vint r]) Tryz.func17 Z Z Z Z fun X hN => ?_⟩
 unfold kl at H
 refine zb hN Z (zl (we 1 Z) Z (qe Z (zd (zb hN Z (za (zq xr Z) (zm (zt tyS3 Z Z) Z (bE H fun r2 h3 H=>za (zo (z0w a1.Status 100 599 r2 h3) ⟨.inl Z,.inl Z,.inl Z,U⟩) (zh _ Z (fun h4 => ?_) (fun h4 => ?_)))))))))
 ·refine tE h4 H fun H=>zb hN Z (qe Z (zk ?_))
  cases H
  exact ⟨U,.inl Z,U⟩
 ·refine fE h4 H fun H=>zn (zd (zb hN Z (za (zq kq Z) (zm (zt qu Z Z) Z (bE H fun r5 h6 H=>za (zo (y85 a1.Headers r5 h6) ⟨.inl Z,U⟩) (qe Z (zb hN Z (qd Z (za (yy Z Z) (zh _ Z (fun h7 => ?_) (fun h7 => ?_)))))))))))
  ·refine tE h7 H fun H=>zb hN Z (qd Z (qe Z (zk ?_)))
   cases H
   exact ⟨U,.inl Z,U⟩
  ·refine fE h7 H fun H=>zn (zd (zb hN Z (za (zq z1i Z) (zm (zt tyS9 Z Z) Z (za (qi tyU9 Z) (za (wb Z Z) (zh _ Z (fun h8 => ?_) (fun h8 => ?_))))))))
   ·refine tE h8 H fun H=>zb hN Z (qe Z (zk ?_))
    cases H
    exact ⟨U,.inl Z,U⟩
   ·refine fE h8 H fun H=>zn (zb hN Z (qe Z (zk ?_)))
    cases H
    exact ⟨U,.inl Z,U⟩
theorem y3s (n:Int) (r:Bs) (H:xz n=some r):Fn Tryz.prog 19 [vint n] (zr [vstr r]):=by
 obtain ⟨⟨h1,h2⟩,h3⟩:=gif H
 cases h3
 refine Yb (by kernel_rfl) fun M w vs hM h => ?_
 have hv:=ui (us:=[.int .i64 n]) h
 subst hv
 refine (Tryz.strconv_Itoa n h1 h2 w (w4j hM)).mono ?_
 rintro e w' ⟨rfl,k,os,rfl⟩
 exact ⟨_,Z,Z,Kp.of_below ⟨Z,Z,Z,by show w.heap.size≤(w.heap++os).size; rw [Array.size_append]; omega,fun j hj=>by show (w.heap++os)[j]?=w.heap[j]?; exact Array.getElem?_append_left hj⟩⟩
theorem Zx (l1:(List Int)) (s2:Bs) (r:(Int×Int×(List Int))) (H:kk l1 s2=some r):FnG Tryz.prog 18 [.ptr 0 0,.dat (vstr s2)] [(0,.box (some 0) 60 [.nptr 0,.row 1 l1.length]),(1,.row 5 1 (List.map yw l1))] (.dat (zr [vint r.1,verr r.2.1])) [(0,.box (some 0) 60 [.nptr 0,.row 900 r.2.2.length]),(900,.row 5 1 (List.map yw r.2.2))]:=by
 refine vy (by kernel_rfl) Tryz.func18 Z Z Z Z fun X A hN => ?_
 refine wi ?_
 unfold kk at H
 refine zb hN Z (qe Z (qe Z (zb hN Z (za (ze (.ptr _ _) Z) (zl (x2s x8t Z) Z (zb hN Z (za (ze (.ptr _ _) Z) (za (ze (.ptr _ _) Z) (za (qn Z) (za (zq z7u Z) (zm (zt z7p Z Z) Z (qd Z (gE H fun h3 H=>zl (w1h (C:=yw) (fun _=>Z) (show tyB8 Tryz.prog 58 9 5 from ⟨by kernel_rfl,by kernel_rfl,by kernel_rfl⟩) Z Z Z h3) Z ?_)))))))))))))
 refine za (qn Z) (za (zq z7u Z) (Zn (Zm z7p Z Z (by rw [List.length_map]) Z) Z Z ?_))
 refine zb hN Z (qd Z (za (qi tyU9 Z) (qe Z (qe Z (zk ?_)))))
 cases H
 show Cv _ _ _ _
 exact wc (rn [(1,900)]) [(4,.dat (vint (s2.length:Int))),(5,.dat (verr 0))] [(0,.box (some (A.bl 0)) 60 [.nptr 0,.row 1 ((l1++yk s2).length)]),(1,.row 5 1 (List.map yw (l1++yk s2)))] ⟨Z,Z,U⟩ ⟨Z,Z,U⟩ Z Z ⟨U,[(4,.dat (vint (s2.length:Int))),(5,.dat (verr 0))],⟨Z,Z,U⟩,⟨Z,Z,U⟩,Z,.inl ⟨[vint (s2.length:Int),verr 0],⟨Z,Z,U⟩,Z⟩⟩
theorem x5v (s t:Bs) (r:Bool) (H:z2e s t=some r):Fn Tryz.prog 128 [vstr s,vstr t] (zr [zi r]):=by
 unfold z2e at H
 obtain ⟨⟨h1,h2,h3⟩,h4⟩:=gif H
 cases h4
 refine Yb (by kernel_rfl) fun M w vs hM h => ?_
 have hv:=ui (us:=[.string ⟨s.toArray⟩,.string ⟨t.toArray⟩]) h
 subst hv
 refine (Tryz.strings_EqualFold ⟨s.toArray⟩ ⟨t.toArray⟩ w (by simp [ByteArray.size]; omega) (fun j b hb=>z30 h2 j b (by simpa using hb)) (fun j b hb=>z30 h3 j b (by simpa using hb))).mono ?_
 rintro e w' ⟨rfl,rfl⟩
 exact ⟨_,Z,Z,Kp.refl _ _⟩

theorem y3u (h1:zg) (name2:Bs) (r:(Bool)) (H:Qr h1 name2=some r):Fn Tryz.prog 120 [vagg (zy h1),vstr name2] (zr [zi r]):=by
 refine ⟨by kernel_rfl,yf (us:=[zi r]) Tryz.func120 Z Z Z Z fun X hN => ?_⟩
 unfold Qr at H
 refine zb hN Z (zl (we 1 Z) Z (qe Z (zb hN Z (za (zq Wm Z) (zm (zt tyS9 Z Z) Z (qd Z (bE H fun r3 h4 H=>za (zo (x5v h1.Name name2 r3 h4) ⟨.inl Z,.inl Z,U⟩) (qe Z (zk ?_)))))))))
 cases H
 exact ⟨U,.inl Z,U⟩
theorem x6a (h1:zg) (r:(Bool)) (H:z0l h1=some r):Fn Tryz.prog 65 [vagg (zy h1)] (zr [zi r]):=by
 refine ⟨by kernel_rfl,yf (us:=[zi r]) Tryz.func65 Z Z Z Z fun X hN => ?_⟩
 unfold z0l at H
 refine zb hN Z (zl (we 1 Z) Z (qe Z (yg (ι:=Bool) (fun i=>[(2,.dat (zi i))]) (fun i=>[]) (fun i=>z4y i=some r) (fun i=>Z) ?_ ?_)))
 ·skip
  refine zj hN Z (zm (yr vx Z Z Z) Z (bE H fun r2 h3 H=>za (zo (y3u h1 [99,111,110,116,101,110,116,45,108,101,110,103,116,104] r2 h3) ⟨.inl Z,.inl Z,U⟩) (qd Z (yn (j:=2) Z Z (fun h4 => ?_) (fun h4 => ?_) Z))))
  ·exact u3 h4 H fun h5 H=>vc Z Z h4 (yr vx Z Z Z) Z (bE H fun r6 h7 H=>zf Z Z h4 (zo (y3u h1 [116,114,97,110,115,102,101,114,45,101,110,99,111,100,105,110,103] r6 h7) ⟨.inl Z,.inl Z,U⟩) (za (zv Z (bFF h5) Z) (qe Z ⟨r6,H,⟨Z,U⟩,U⟩)))
  ·exact u4 h4 H fun h8 H=>zc Z Z h4 (zc Z Z h4 (za (ya Z (bTT h8) Z) (qe Z ⟨true,H,⟨Z,U⟩,U⟩)))
 ·rintro v9 H
  replace H:z4y v9=some r:=H
  unfold z4y at H
  refine zk ?_
  cases H
  exact ⟨U,.inl Z,U⟩
theorem x5s (l1:(List Int)) (l2:(List zg)) (r:((List Int))) (H:z5p l1 l2=some r):FnG Tryz.prog 20 [.ptr 0 0,.dat (vlst (List.map zy l2))] [(0,.box (some 0) 60 [.nptr 0,.row 1 l1.length]),(1,.row 5 1 (List.map yw l1))] (.dat (zr [])) [(0,.box (some 0) 60 [.nptr 0,.row 900 r.length]),(900,.row 5 1 (List.map yw r))]:=by
 refine vy (by kernel_rfl) Tryz.func20 Z Z Z Z fun X A hN => ?_
 refine wi ?_
 unfold z5p at H
 refine zb hN Z (qd Z (za (qh kz Z) (qd Z (yc (gE H fun h6 H=>va (fun (k4:Nat) (s:(List Int))=>[(0,.ptr 0 0),(6,.dat (vlst (List.map zy l2))),(7,.dat (vint (l2.length:Int))),(8,.dat (vint (k4:Int)))]) (fun (k4:Nat) (s:(List Int))=>[(0,.box (some (A.bl 0)) 60 [.nptr 0,.row 1 s.length]),(1,.row 5 1 (List.map yw s))]) l1 H ⟨Z,Z,Z,Z,U⟩ ⟨Z,Z,U⟩ (fun _ _=>Z) ?_ ?_)))))
 ·rintro l3 H
  replace H:z41 l3=some r:=H
  unfold z41 at H
  refine zb hN Z (za (ye Z Z) (zd (zh _ Z (fun h=>(lt_t h).elim) (fun h => ?_))))
  refine yz ?_
  have eH:l3=r:=Option.some.inj H
  subst eH
  show Cv _ _ _ _
  exact wc (rn [(1,900)]) [] [(0,.box (some (A.bl 0)) 60 [.nptr 0,.row 1 l3.length]),(1,.row 5 1 (List.map yw l3))] U ⟨Z,Z,U⟩ Z Z ⟨U,[],U,⟨Z,Z,U⟩,Z,.inl ⟨[],U,Z⟩⟩
 ·rintro k4 x7 l3 q5 h8 h9 H hq5
  replace H:z12 k4 x7 l3=some q5:=H
  unfold z12 at H
  refine wi (zb hN Z (za (ye Z Z) (zd (zh _ Z (fun h => ?_) (fun h=>(lt_f h8 h).elim)))))
  refine zn (yg (ι:=(List Int)) (fun i=>[(0,.ptr 0 0),(6,.dat (vlst (List.map zy l2))),(7,.dat (vint (l2.length:Int))),(8,.dat (vint (k4:Int)))]) (fun i=>[(0,.box (some (A.bl 0)) 60 [.nptr 0,.row 4 i.length]),(4,.row 5 1 (List.map yw i))]) (fun i=>z4z i=some q5) (fun i=>Z) ?_ ?_)
  ·refine wi (yc (zb hN Z (za (wj uy (fun _=>Z) Z Z h9) (za (xa vx Z (qp h9) Z) (zl (qt 2 ky Z) Z (zl (yx vx Z Z Z Z) Z (zb hN Z (zm (yr vx Z Z Z) Z (bE H fun r10 h11 H=>za (zo (x6a x7 r10 h11) ⟨.inl Z,U⟩) (za (yt Z) (zh _ Z (fun h12 => ?_) (fun h12 => ?_))))))))))))
   ·refine tE h12 H fun H=>zj hN Z (za (ze (.ptr _ _) Z) (za (zq Wm Z) (zm (zt tyS9 Z Z) Z (gE H fun h13 H=>za (vf Z Z (Nat.le_trans h13 (by decide))) (za (zq y1g Z) (zm (zt tyS9 Z Z) Z (gE H fun h14 H=>za (vf Z Z (Nat.le_trans h14 (by decide))) (gE H fun h15 H=>za (vf Z Z (Nat.le_trans h15 (by decide))) (bE H fun r16 h17 H=>qk (rn [(0,0),(1,1),(900,3)]) [(0,_,_,some _),(1,_,_,none)] [(900,_)] (Zx l3 (((x7.Name++[58,32])++x7.Value)++[13,10]) r16 h17) ⟨Z,Z,Z,U⟩ ⟨.inl (.inl Z),.inl (.inl Z),U⟩ ⟨⟨⟨Z,Z⟩,U⟩,⟨⟨Z,Z,Z⟩,U⟩,U⟩ Z (wm ?_))))))))))
    show Cv _ _ _ _
    exact wc (rn [(3,4)]) [(0,.ptr 0 0),(6,.dat (vlst (List.map zy l2))),(7,.dat (vint (l2.length:Int))),(8,.dat (vint (k4:Int)))] [(0,.box (some (A.bl 0)) 60 [.nptr 0,.row 3 r16.2.2.length]),(3,.row 5 1 (List.map yw r16.2.2))] ⟨Z,Z,Z,Z,U⟩ ⟨Z,Z,U⟩ Z Z ⟨r16.2.2,H,⟨Z,Z,Z,Z,U⟩,⟨Z,Z,U⟩⟩
   ·refine fE h12 H fun H=>zn ?_
    show Cv _ _ _ _
    exact wc (rn [(1,4)]) [(0,.ptr 0 0),(6,.dat (vlst (List.map zy l2))),(7,.dat (vint (l2.length:Int))),(8,.dat (vint (k4:Int)))] [(0,.box (some (A.bl 0)) 60 [.nptr 0,.row 1 l3.length]),(1,.row 5 1 (List.map yw l3))] ⟨Z,Z,Z,Z,U⟩ ⟨Z,Z,U⟩ Z Z ⟨l3,H,⟨Z,Z,Z,Z,U⟩,⟨Z,Z,U⟩⟩
  ·rintro l18 H
   replace H:z4z l18=some q5:=H
   unfold z4z at H
   refine zj hN Z (za (qy Z Z (by omega)) (qd Z (wm ?_)))
   show Cv _ _ _ _
   exact wc (rn [(4,1)]) [(0,.ptr 0 0),(6,.dat (vlst (List.map zy l2))),(7,.dat (vint (l2.length:Int))),(8,.dat (vint ((k4:Int)+1)))] [(0,.box (some (A.bl 0)) 60 [.nptr 0,.row 4 l18.length]),(4,.row 5 1 (List.map yw l18))] ⟨Z,Z,Z,Z,U⟩ ⟨Z,Z,U⟩ Z Z ⟨_,qm H,⟨Z,Z,Z,Z,U⟩,⟨Z,Z,U⟩⟩
theorem w7b (a1:yb) (r:(Bs×Int)) (H:z0o a1=some r):Fn Tryz.prog 4 [vagg (qf a1)] (zr [vstr r.1,vint r.2]):=by
 refine ⟨by kernel_rfl,yf (us:=[vstr r.1,vint r.2]) Tryz.func4 Z Z Z Z fun X hN => ?_⟩
 unfold z0o at H
 refine zb hN Z (zl (we 1 Z) Z (qe Z (qe Z (zd (zb hN Z (zm (yr qg Z Z Z) Z (bE H fun r2 h3 H=>za (zo (y3w a1 r2 h3) ⟨.inl Z,U⟩) (qe Z (zb hN Z (qd Z (za (yy Z Z) (zh _ Z (fun h4 => ?_) (fun h4 => ?_)))))))))))))
 ·refine tE h4 H fun H=>zb hN Z (qd Z (qe Z (qe Z (zk ?_))))
  cases H
  exact ⟨U,.inl Z,.inl Z,U⟩
 ·refine fE h4 H fun H=>zn (zb hN Z (qe Z (yg (ι:=Bs) (fun i=>[(1,.ptr 1 0),(5,.dat (vstr i))]) (fun i=>[(1,.box none 31 [.dat (vint a1.Status),.dat (vlst (List.map zy a1.Headers)),.dat (vstr a1.Body)])]) (fun i=>z13 a1 i=some r) (fun i=>Z) ?_ ?_)))
  ·skip
   refine zb hN Z (za (zq xr Z) (zm (zt tyS3 Z Z) Z (za (yq Z Z) (zh _ Z (fun h5 => ?_) (fun h5 => ?_)))))
   ·exact tE h5 H fun H=>zj hN Z (qe Z ⟨[79,75],H,⟨Z,Z,U⟩,⟨Z,U⟩⟩)
   ·exact fE h5 H fun H=>zn ⟨[45],H,⟨Z,Z,U⟩,⟨Z,U⟩⟩
  ·rintro reason6 H
   replace H:z13 a1 reason6=some r:=H
   unfold z13 at H
   refine zb hN Z (zl (qt 2 z35 Z) Z (z7b 2 0 (.nptr 2) Z Z z4q (Yv 2 1 3 5 1 Z Z Z Z (zb hN Z (za (zq xr Z) (zm (zt tyS3 Z Z) Z (bE H fun r7 h8 H=>za (zo (y3s a1.Status r7 h8) ⟨.inl Z,U⟩) (gE H fun h9 H=>za (vf Z Z (Nat.le_trans h9 (by decide))) (gE H fun h10 H=>za (vf Z Z (Nat.le_trans h10 (by decide))) (qd Z (gE H fun h11 H=>za (vf Z Z (Nat.le_trans h11 (by decide))) (gE H fun h12 H=>za (vf Z Z (Nat.le_trans h12 (by decide))) (bE H fun r13 h14 H=>qk (rn [(0,2),(1,3),(900,4)]) [(0,_,_,some _),(1,_,_,none)] [(900,_)] (Zx ([]:List Int) (((([72,84,84,80,47,49,46,49,32]++r7)++[32])++reason6)++[13,10]) r13 h14) ⟨Z,Z,Z,U⟩ ⟨.inl (.inl Z),.inl (.inl Z),U⟩ ⟨⟨⟨Z,Z⟩,U⟩,⟨⟨Z,Z,Z⟩,U⟩,U⟩ Z (zb hN Z (za (zq kq Z) (zm (zt qu Z Z) Z (bE H fun r15 h16 H=>?_)))))))))))))))))
   refine qk (rn [(0,2),(1,4),(900,5)]) [(0,_,_,some _),(1,_,_,none)] [(900,_)] (x5s r13.2.2 a1.Headers r15 h16) ⟨Z,Z,Z,U⟩ ⟨.inl (.inl Z),.inl (.inl Z),U⟩ ⟨⟨⟨Z,Z⟩,U⟩,⟨⟨Z,Z,Z⟩,U⟩,U⟩ Z (zd (ww mixed hN Z Z (za (zq z1i Z) (zm (zt tyS9 Z Z) Z (za (qi tyU9 Z) (bE H fun r17 h18 H=>za (zo (y3s (a1.Body.length:Int) r17 h18) ⟨.inl Z,U⟩) (gE H fun h19 H=>za (vf Z Z (Nat.le_trans h19 (by decide))) (gE H fun h20 H=>za (vf Z Z (Nat.le_trans h20 (by decide))) (gE H fun h21 H=>za (vf Z Z (Nat.le_trans h21 (by decide))) (za (zq z1i Z) (zm (zt tyS9 Z Z) Z (gE H fun h22 H=>za (vf Z Z (Nat.le_trans h22 (by decide))) (bE H fun r23 h24 H=>qk (rn [(0,2),(1,5),(900,6)]) [(0,_,_,some _),(1,_,_,none)] [(900,_)] (Zx r15 (((([99,111,110,116,101,110,116,45,108,101,110,103,116,104,58,32]++r17)++[13,10])++[13,10])++a1.Body) r23 h24) ⟨Z,Z,Z,U⟩ ⟨.inl (.inl Z),.inl (.inl Z),U⟩ ⟨⟨⟨Z,Z⟩,U⟩,⟨⟨Z,Z,Z⟩,U⟩,U⟩ Z ⟨Z,?_⟩)))))))))))))
   refine zb hN Z (gE H fun h25 H=>qk (rn [(0,2),(1,6)]) [(0,_,_,none),(1,_,_,none)] [] (z6a h25 (C:=yw) (fun _=>Z)) ⟨Z,Z,U⟩ ⟨.inl (.inl Z),U⟩ ⟨⟨⟨Z,Z⟩,U⟩,⟨⟨Z,Z,Z⟩,U⟩,U⟩ Z (qe Z (qe Z (zk ?_))))
   cases H
   exact ⟨U,.inl Z,.inl Z,U⟩
theorem z0v (s p:Bs) (r:Bs×Bs×Bool) (H:vq s p=some r):Fn Tryz.prog 54 [vstr s,vstr p] (zr [vstr r.1,vstr r.2.1,zi r.2.2]):=by
 unfold vq at H
 obtain ⟨h1,h2⟩:=gif H
 cases h2
 refine Yb (by kernel_rfl) fun M w vs hM h => ?_
 have hv:=ui (us:=[.string ⟨s.toArray⟩,.string ⟨p.toArray⟩]) h
 subst hv
 obtain ⟨m,hm⟩:=y7r hM
 refine (Tryz.strings_Cut ⟨s.toArray⟩ ⟨p.toArray⟩ m w (by simp [ByteArray.size]; omega) hm).mono ?_
 rintro e w' ⟨rfl,n,rfl⟩
 refine ⟨_,Z,⟨[_,_,_],Z,Z,fun j u hj => ?_⟩,⟨Z,Z,Z,Nat.le_refl _,fun _ _ _=>Z⟩⟩
 rcases j with _ | _ | _ | j
 ·cases hj; exact ⟨_,Z,Z⟩
 ·cases hj; exact ⟨_,Z,Z⟩
 ·cases hj; exact ⟨_,Z,Z⟩
 ·simp at hj

theorem x52 (v1:Bs) (r:(jc×Bool)) (H:Zc v1=some r):Fn Tryz.prog 29 [vstr v1] (zr [vagg (z7h r.1),zi r.2]):=by
 refine ⟨by kernel_rfl,yf (us:=[vagg (z7h r.1),zi r.2]) Tryz.func29 Z Z Z Z fun X hN => ?_⟩
 unfold Zc at H
 refine zb hN Z (zl (qt 1 y09 Z) Z (qe Z (zb hN Z (zl (qt 2 y09 Z) Z (zb hN Z (qe Z (yc (Yv 2 1 3 54 2 Z Z Z Z (xo (fun (s:Int×(List zg)×Bs×Int)=>[(0,.dat (vstr v1)),(2,.ptr 1 0),(4,.ptr 2 0),(5,.dat (vint s.1))]) (fun (s:Int×(List zg)×Bs×Int)=>[(1,.box none 75 [.dat (vstr []),.dat (vnil),.dat (vint 0)]),(2,.box none 75 [.dat (vstr s.2.2.1),.row 3 s.2.1.length,.dat (vint s.2.2.2)]),(3,.row 54 2 (List.map zy s.2.1))]) (0,([]:List zg),[],0) H ⟨Z,Z,Z,Z,U⟩ ⟨Z,(congrArg (fun n=>some (some (AObj.box none 75 [.dat (vstr []),.row 3 n,.dat (vint 0)]))) (show 0=([]:List zg).length from (by simp))),Z,U⟩ (fun _=>Z) ?_)))))))))
 rintro ⟨v2,l3,c4,c5⟩ q6 H hq6
 replace H:ud v1 v2 l3 c4 c5=some q6:=H
 unfold ud at H
 refine wi (yg (ι:=(List zg)×Bs×Int) (fun i=>[(0,.dat (vstr v1)),(2,.ptr 1 0),(4,.ptr 2 0),(5,.dat (vint v2))]) (fun i=>[(1,.box none 75 [.dat (vstr []),.dat (vnil),.dat (vint 0)]),(2,.box none 75 [.dat (vstr i.2.1),.row 3 i.1.length,.dat (vint i.2.2)]),(3,.row 54 2 (List.map zy i.1))]) (fun i=>z4r v2 i.1 i.2.1 i.2.2=some q6) (fun i=>Z) ?_ ?_)
 ·refine wi (yc (zb hN Z (qd Z (za (zq z7t Z) (zm (zt tyS3 Z Z) Z (bE H fun l7 h8 H=>za (vh tyU9 Z Z Z h8) (bE H fun r9 h10 H=>za (zo (z0v l7 [13,10] r9 h10) ⟨.inl Z,.inl Z,U⟩) (qd Z (za (zz Z Z) (za (zz Z Z) (za (zz Z Z) (qe Z (qe Z (qe Z (zd (zb hN Z (qd Z (za (yt Z) (zh _ Z (fun h11 => ?_) (fun h11 => ?_))))))))))))))))))))
  ·refine tE h11 H fun H=>zd (z1a 2 1 3 rfl rfl rfl (by first | rw [List.length_map] | rfl) ?_)
   refine zj hN Z (zm (yr xf Z Z Z) Z (zl (yx xf Z Z Z Z) Z (qe Z (zk ?_))))
   replace H:=retl H hq6
   cases H
   show Cv _ _ _ _
   refine wd ?_
   show Cv _ _ _ _
   exact wd ⟨U,.inl ⟨_,_,_,z7h (jc.mk c4 l3 c5),Z,Z,Z,Z,xf⟩,.inl Z,U⟩
  ·refine fE h11 H fun H=>zn (zb hN Z (za (zq z7t Z) (zm (zt tyS3 Z Z) Z (qd Z (za (qi tyU9 Z) (za (ym _ Z Z (.inl ⟨Z,Z⟩)) (za (ym _ Z Z (.inl ⟨Z,Z⟩)) (za (zq z7t Z) (zl (jn tyS3 Z Z Z Z) Z (zd (yc (zb hN Z (qd Z (za (yq Z Z) (qe Z (zh _ Z (fun h12 => ?_) (fun h12 => ?_)))))))))))))))))
   ·refine tE h12 H fun H=>zb hN Z (qd Z (za (zq y5v Z) (zl (jn tyS9 Z Z Z Z) Z (yz ?_))))
    show Cv _ _ _ _
    exact wd ⟨(l3,r9.1,wr (c5+(wr ((r9.1.length:Int)+2)))),H,⟨Z,Z,Z,Z,U⟩,⟨Z,Z,Z,U⟩⟩
   ·refine fE h12 H fun H=>zb hN Z (qd Z (za (vi Z Z) (qe Z (zh _ Z (fun h13 => ?_) (fun h13 => ?_)))))
    ·refine tE h13 H fun H=>zd (z1a 2 1 3 rfl rfl rfl (by first | rw [List.length_map] | rfl) ?_)
     refine zj hN Z (zm (yr xf Z Z Z) Z (zl (yx xf Z Z Z Z) Z (qe Z (zk ?_))))
     replace H:=retl H hq6
     cases H
     show Cv _ _ _ _
     refine wd ?_
     show Cv _ _ _ _
     exact wd ⟨U,.inl ⟨_,_,_,z7h (jc.mk c4 l3 (wr (c5+(wr ((r9.1.length:Int)+2))))),Z,Z,Z,Z,xf⟩,.inl Z,U⟩
    ·refine fE h13 H fun H=>zn (zb hN Z (qd Z (bE H fun r14 h15 H=>za (zo (z0v r9.1 [58] r14 h15) ⟨.inl Z,.inl Z,U⟩) (qd Z (za (zz Z Z) (za (zz Z Z) (za (zz Z Z) (qe Z (qe Z (qe Z (zb hN Z (qd Z (bE H fun r16 h17 H=>za (zo (y3q r14.2.1 [32] r16 h17) ⟨.inl Z,.inl Z,U⟩) (qe Z (zd (yg (ι:=Bool) (fun i=>[(0,.dat (vstr v1)),(2,.ptr 1 0),(4,.ptr 2 0),(5,.dat (vint v2)),(9,.dat (vstr r14.1)),(10,.dat (vstr r16)),(60,.dat (zi i))]) (fun i=>[(1,.box none 75 [.dat (vstr []),.dat (vnil),.dat (vint 0)]),(2,.box none 75 [.dat (vstr c4),.row 3 l3.length,.dat (vint (wr (c5+(wr ((r9.1.length:Int)+2)))))]),(3,.row 54 2 (List.map zy l3))]) (fun i=>z1v v2 l3 c4 c5 r9 r14 r16 i=some q6) (fun i=>Z) ?_ ?_))))))))))))))))
     ·refine wi (zj hN Z (qd Z (za (yt Z) (qd Z (yn (j:=2) Z Z (fun h18 => ?_) (fun h18 => ?_) Z)))))
      ·refine u3 h18 H fun h19 H=>zf Z Z h18 (ze (.dat _) Z) (bE H fun r20 h21 H=>zf Z Z h18 (zo (z6c r14.1 r20 h21) ⟨.inl Z,U⟩) (zf Z Z h18 (yt Z) (za (zv Z (bFF h19) Z) (qd Z (yn (j:=7) Z Z (fun h22 => ?_) (fun h22 => ?_) Z)))))
       ·refine u3 h22 H fun h23 H=>zf Z Z h22 (ze (.dat _) Z) (bE H fun r24 h25 H=>zf Z Z h22 (zo (y84 r16 r24 h25) ⟨.inl Z,U⟩) (zf Z Z h22 (yt Z) (za (zv Z (bFF h23) Z) (wm ?_))))
        show Cv _ _ _ _
        exact wd ⟨!r24,H,⟨Z,Z,Z,Z,Z,Z,Z,U⟩,⟨Z,Z,Z,U⟩⟩
       ·refine u4 h22 H fun h26 H=>zc Z Z h22 (zc Z Z h22 (zc Z Z h22 (za (ya Z (bTT h26) Z) (wm ?_))))
        show Cv _ _ _ _
        exact wd ⟨true,H,⟨Z,Z,Z,Z,Z,Z,Z,U⟩,⟨Z,Z,Z,U⟩⟩
      ·refine u4 h18 H fun h27 H=>zc Z Z h18 (zc Z Z h18 (zc Z Z h18 (za (ya Z (bTT h27) Z) (qd Z (zc Z Z Z (zc Z Z Z (zc Z Z Z (za (ya Z Z Z) (wm ?_)))))))))
       show Cv _ _ _ _
       exact wd ⟨true,H,⟨Z,Z,Z,Z,Z,Z,Z,U⟩,⟨Z,Z,Z,U⟩⟩
     ·rintro v28 H
      replace H:z1v v2 l3 c4 c5 r9 r14 r16 v28=some q6:=H
      unfold z1v at H
      refine zh _ Z (fun h29 => ?_) (fun h29 => ?_)
      ·refine tE h29 H fun H=>zd (z1a 2 1 3 rfl rfl rfl (by first | rw [List.length_map] | rfl) ?_)
       refine zj hN Z (zm (yr xf Z Z Z) Z (zl (yx xf Z Z Z Z) Z (qe Z (zk ?_))))
       replace H:=retl H hq6
       cases H
       show Cv _ _ _ _
       refine wd ?_
       show Cv _ _ _ _
       exact wd ⟨U,.inl ⟨_,_,_,z7h (jc.mk c4 l3 (wr (c5+(wr ((r9.1.length:Int)+2))))),Z,Z,Z,Z,xf⟩,.inl Z,U⟩
      ·refine fE h29 H fun H=>zn (zj hN Z (za (zq Wl Z) (zm (zt qu Z Z) Z (qd Z (qd Z (za (yd (u':=vagg (zy (zg.mk r14.1 r16))) (qw [(0,[vstr r14.1]),(1,[vstr r16])] ky Yy Z ⟨Z,.inl ⟨_,Z,Z,Z⟩,Z,Z,.inl ⟨_,Z,Z,Z⟩,Z,U⟩) Z) (za (yd (u':=vlst (List.map zy [(zg.mk r14.1 r16)])) (qj [_] js ⟨Z,.inr Z,Z,U⟩ Z Z) Z) (gE H fun h30 H=>zl (ke js (fun _=>Z) Z Z Z ⟨by simp,by first | (simp; done) | simpa using h30⟩ Z) Z ?_))))))))
       refine za (zq Wl Z) (Zn (Zm qu Z Z (by rw [List.length_map]) Z) Z Z ?_)
       refine wm ?_
       show Cv _ _ _ _
       exact wd ⟨((l3++[(zg.mk r14.1 r16)]),c4,wr (c5+(wr ((r9.1.length:Int)+2)))),H,⟨Z,Z,Z,Z,U⟩,⟨Z,Z,Z,U⟩⟩
 ·rintro ⟨l31,c32,c33⟩ H
  replace H:z4r v2 l31 c32 c33=some q6:=H
  unfold z4r at H
  refine zj hN Z (qd Z (za (ym _ Z Z (.inl ⟨Z,Z⟩)) (qe Z (wm ?_))))
  show Cv _ _ _ _
  exact wd ⟨_,qm H,⟨Z,Z,Z,Z,U⟩,⟨Z,Z,Z,U⟩⟩
theorem w7p (s1:Bs) (v2:Bs) (r:(Bool)) (H:z88 s1 v2=some r):Fn Tryz.prog 133 [vstr s1,vstr v2] (zr [zi r]):=by
 refine ⟨by kernel_rfl,yf (us:=[zi r]) Tryz.func133 Z Z Z Z fun X hN => ?_⟩
 unfold z88 at H
 refine zb hN Z (qe Z (yg (ι:=Bool) (fun i=>[(4,.dat (zi i))]) (fun i=>[]) (fun i=>z25 i=some r) (fun i=>Z) ?_ ?_))
 ·skip
  refine zj hN Z (qd Z (za (qi tyU9 Z) (qd Z (za (qi tyU9 Z) (za (vk Z Z) (qd Z (yn (j:=5) Z Z (fun h3 => ?_) (fun h3 => ?_) Z)))))))
  ·exact u1 h3 H fun h4 H=>zf Z Z h3 (ze (.dat _) Z) (zf Z Z h3 (ze (.dat _) Z) (zf Z Z h3 (qi tyU9 Z) (bE H fun l5 h6 H=>zf Z Z h3 (vh tyU9 Z Z Z h6) (zf Z Z h3 (ze (.dat _) Z) (zf Z Z h3 (vi Z Z) (za (ya Z (bTT h4) Z) (qe Z ⟨decide (l5=v2),H,⟨Z,U⟩,U⟩)))))))
  ·exact u2 h3 H fun h7 H=>zc Z Z h3 (zc Z Z h3 (zc Z Z h3 (zc Z Z h3 (zc Z Z h3 (zc Z Z h3 (za (zv Z (bFF h7) Z) (qe Z ⟨false,H,⟨Z,U⟩,U⟩)))))))
 ·rintro v8 H
  replace H:z25 v8=some r:=H
  unfold z25 at H
  refine zk ?_
  cases H
  exact ⟨U,.inl Z,U⟩
theorem w7q (s1:Bs) (v2:Bs) (r:(Bs×Bool)) (H:z89 s1 v2=some r):Fn Tryz.prog 143 [vstr s1,vstr v2] (zr [vstr r.1,zi r.2]):=by
 refine ⟨by kernel_rfl,yf (us:=[vstr r.1,zi r.2]) Tryz.func143 Z Z Z Z fun X hN => ?_⟩
 unfold z89 at H
 refine zb hN Z (qe Z (qe Z (zd (zb hN Z (qd Z (qd Z (bE H fun r3 h4 H=>za (zo (w7p s1 v2 r3 h4) ⟨.inl Z,.inl Z,U⟩) (za (yt Z) (zh _ Z (fun h5 => ?_) (fun h5 => ?_))))))))))
 ·refine tE h5 H fun H=>zb hN Z (qd Z (qe Z (qe Z (zk ?_))))
  cases H
  exact ⟨U,.inl Z,.inl Z,U⟩
 ·refine fE h5 H fun H=>zn (zb hN Z (qd Z (qd Z (za (qi tyU9 Z) (bE H fun l6 h7 H=>za (vh tyU9 Z Z Z h7) (qe Z (qe Z (zk ?_))))))))
  cases H
  exact ⟨U,.inl Z,.inl Z,U⟩
theorem w6o (s1:Bs) (v2:Bs) (r:(Bs×Bool)) (H:Qo s1 v2=some r):Fn Tryz.prog 75 [vstr s1,vstr v2] (zr [vstr r.1,zi r.2]):=by
 refine ⟨by kernel_rfl,yf (us:=[vstr r.1,zi r.2]) Tryz.func75 Z Z Z Z fun X hN => ?_⟩
 unfold Qo at H
 refine zb hN Z (qe Z (qe Z (zb hN Z (qd Z (qd Z (bE H fun r3 h4 H=>za (zo (w7q s1 v2 r3 h4) ⟨.inl Z,.inl Z,U⟩) (za (zz Z Z) (za (zz Z Z) (qe Z (qe Z (zk ?_)))))))))))
 cases H
 exact ⟨U,.inl Z,.inl Z,U⟩
theorem y8x (s p:Bs) (r:Bs) (H:Qn s p=some r):Fn Tryz.prog 72 [vstr s,vstr p] (zr [vstr r]):=by
 unfold Qn at H
 obtain ⟨⟨⟨h1,h2⟩,h3⟩,h4⟩:=gif H
 cases h4
 refine Yb (by kernel_rfl) fun M w vs hM h => ?_
 have hv:=ui (us:=[.string ⟨s.toArray⟩,.string ⟨p.toArray⟩]) h
 subst hv
 refine (Any.strings_Trim_laid Tryz.lays160 (by kernel_rfl) ⟨s.toArray⟩ ⟨p.toArray⟩ w (by simp [ByteArray.size]; omega) (by simp [ByteArray.size]; omega) (fun j b hb=>z30 h3 j b (by simpa using hb))).mono ?_
 rintro e w' ⟨rfl,hb⟩
 exact ⟨_,Z,Z,Kp.of_below hb⟩

theorem xe (c1:Int) (r:(Int)) (H:ue c1=some r):Fn Tryz.prog 271 [vval (.int .u8 c1)] (zr [vval (.int .u8 r)]):=by
 refine ⟨by kernel_rfl,yf (us:=[vval (.int .u8 r)]) Tryz.func271 Z Z Z Z fun X hN => ?_⟩
 unfold ue at H
 refine zb hN Z (qe Z (zb hN Z (qd Z (za (yd (x2g Z Z) Z) (qe Z (zk ?_))))))
 cases H
 exact ⟨U,.inl Z,U⟩
theorem w7r (v1:Bs) (r:(Bool)) (H:y77 v1=some r):Fn Tryz.prog 272 [vstr v1] (zr [zi r]):=by
 refine ⟨by kernel_rfl,yf (us:=[zi r]) Tryz.func272 Z Z Z Z fun X hN => ?_⟩
 unfold y77 at H
 refine zb hN Z (qe Z (zb hN Z (qe Z (zb hN Z (qe Z (yg (ι:=Bs) (fun i=>[(0,.dat (vstr i)),(3,.dat (vval (.int .i32 94))),(4,.dat (vint 0))]) (fun i=>[]) (fun i=>z9y i=some r) (fun i=>Z) ?_ ?_))))))
 ·skip
  refine yg (ι:=Bool) (fun i=>[(0,.dat (vstr v1)),(3,.dat (vval (.int .i32 94))),(4,.dat (vint 0)),(18,.dat (zi i))]) (fun i=>[]) (fun i=>z6i v1 i=some r) (fun i=>Z) ?_ ?_
  ·skip
   refine zj hN Z (qd Z (za (qi tyU9 Z) (za (vk Z Z) (qd Z (yn (j:=3) Z Z (fun h2 => ?_) (fun h2 => ?_) Z)))))
   ·refine u1 h2 H fun h3 H=>zf Z Z h2 (ze (.dat _) Z) (bE H fun x4 h5 H=>zf Z Z h2 (wv tyU9 Z Z h5) (zf Z Z h2 (yq Z Z) (zf Z Z h2 (ze (.dat _) Z) (yn (j:=7) Z Z (fun h6 => ?_) (fun h6 => ?_) Z))))
    ·exact u3 h6 H fun h7 H=>zf Z Z h6 (ze (.dat _) Z) (zf Z Z h6 (wv tyU9 Z Z h5) (zf Z Z h6 (yq Z Z) (zf Z Z h2 (zv Z (bFF h7) Z) (za (ya Z (bTT h3) Z) ⟨decide ((x4.toNat:Int)=43),H,⟨Z,Z,Z,Z,U⟩,U⟩))))
    ·exact u4 h6 H fun h8 H=>zc Z Z h6 (zc Z Z h6 (zc Z Z h6 (zf Z Z h2 (ya Z (bTT h8) Z) (za (ya Z (bTT h3) Z) ⟨true,H,⟨Z,Z,Z,Z,U⟩,U⟩))))
   ·exact u2 h2 H fun h9 H=>zc Z Z h2 (zc Z Z h2 (zc Z Z h2 (zc Z Z h2 (yj Z Z (yj Z Z (yj Z Z (zc Z Z h2 (za (zv Z (bFF h9) Z) ⟨false,H,⟨Z,Z,Z,Z,U⟩,U⟩))))))))
  ·rintro v10 H
   replace H:z6i v1 v10=some r:=H
   unfold z6i at H
   refine zh _ Z (fun h11 => ?_) (fun h11 => ?_)
   ·exact tE h11 H fun H=>zj hN Z (qd Z (bE H fun l12 h13 H=>za (vh tyU9 Z Z Z h13) (qe Z ⟨l12,H,⟨Z,Z,Z,U⟩,U⟩)))
   ·exact fE h11 H fun H=>zn ⟨v1,H,⟨Z,Z,Z,U⟩,U⟩
 ·rintro v14 H
  replace H:z9y v14=some r:=H
  unfold z9y at H
  refine zb hN Z (qe Z (yg (ι:=Int×Int×Bool) (fun i=>[(0,.dat (vstr v14)),(3,.dat (vval (.int .i32 i.1))),(4,.dat (vint i.2.1)),(5,.dat (zi i.2.2))]) (fun i=>[]) (fun i=>z9x v14 i.1 i.2.1 i.2.2=some r) (fun i=>Z) ?_ ?_))
  ·skip
   refine yg (ι:=Bool) (fun i=>[(0,.dat (vstr v14)),(3,.dat (vval (.int .i32 94))),(4,.dat (vint 0)),(5,.dat (zi false)),(46,.dat (zi i))]) (fun i=>[]) (fun i=>z0z v14 i=some r) (fun i=>Z) ?_ ?_
   ·skip
    refine zj hN Z (qd Z (za (qi tyU9 Z) (za (vk Z Z) (qd Z (yn (j:=3) Z Z (fun h15 => ?_) (fun h15 => ?_) Z)))))
    ·refine u1 h15 H fun h16 H=>zf Z Z h15 (ze (.dat _) Z) (bE H fun x17 h18 H=>zf Z Z h15 (wv tyU9 Z Z h18) (zf Z Z h15 (yq Z Z) (za (ya Z (bTT h16) Z) (qd Z (yn (j:=8) Z Z (fun h19 => ?_) (fun h19 => ?_) Z)))))
     ·refine u1 h19 H fun h20 H=>zf Z Z h19 (ze (.dat _) Z) (bE H fun x21 h22 H=>zf Z Z h19 (wv tyU9 Z Z h22) (bE H fun r23 h24 H=>zf Z Z h19 (zo (xe (x21.toNat:Int) r23 h24) ⟨.inl Z,U⟩) (zf Z Z h19 (yq Z Z) (zf Z Z h19 (ze (.dat _) Z) (yn (j:=13) Z Z (fun h25 => ?_) (fun h25 => ?_) Z)))))
      ·refine u3 h25 H fun h26 H=>zf Z Z h25 (ze (.dat _) Z) (zf Z Z h25 (wv tyU9 Z Z h22) (bE H fun r27 h28 H=>zf Z Z h25 (zo (xe (x21.toNat:Int) r27 h28) ⟨.inl Z,U⟩) (zf Z Z h25 (yq Z Z) (zf Z Z h19 (zv Z (bFF h26) Z) (zf Z Z h19 (ze (.dat _) Z) (yn (j:=19) Z Z (fun h29 => ?_) (fun h29 => ?_) Z))))))
       ·exact u3 h29 H fun h30 H=>zf Z Z h29 (ze (.dat _) Z) (zf Z Z h29 (wv tyU9 Z Z h22) (bE H fun r31 h32 H=>zf Z Z h29 (zo (xe (x21.toNat:Int) r31 h32) ⟨.inl Z,U⟩) (zf Z Z h29 (yq Z Z) (zf Z Z h19 (zv Z (bFF h30) Z) (za (ya Z (bTT h20) Z) ⟨decide (r31=120),H,⟨Z,Z,Z,Z,Z,U⟩,U⟩)))))
       ·exact u4 h29 H fun h33 H=>zc Z Z h29 (zc Z Z h29 (zc Z Z h29 (zc Z Z h29 (zf Z Z h19 (ya Z (bTT h33) Z) (za (ya Z (bTT h20) Z) ⟨true,H,⟨Z,Z,Z,Z,Z,U⟩,U⟩)))))
      ·exact u4 h25 H fun h34 H=>zc Z Z h25 (zc Z Z h25 (zc Z Z h25 (zc Z Z h25 (zf Z Z h19 (ya Z (bTT h34) Z) (zf Z Z h19 (ze (.dat _) Z) (zc Z Z Z (zc Z Z Z (zc Z Z Z (zc Z Z Z (zf Z Z h19 (ya Z Z Z) (za (ya Z (bTT h20) Z) ⟨true,H,⟨Z,Z,Z,Z,Z,U⟩,U⟩)))))))))))
     ·exact u2 h19 H fun h35 H=>zc Z Z h19 (zc Z Z h19 (zc Z Z h19 (zc Z Z h19 (zc Z Z h19 (yj Z Z (yj Z Z (yj Z Z (yj Z Z (zc Z Z h19 (zc Z Z h19 (yj Z Z (yj Z Z (yj Z Z (yj Z Z (zc Z Z h19 (za (zv Z (bFF h35) Z) ⟨false,H,⟨Z,Z,Z,Z,Z,U⟩,U⟩))))))))))))))))
    ·exact u2 h15 H fun h36 H=>zc Z Z h15 (zc Z Z h15 (zc Z Z h15 (za (zv Z (bFF h36) Z) (qd Z (zc Z Z Z (zc Z Z Z (zc Z Z Z (zc Z Z Z (zc Z Z Z (yj Z Z (yj Z Z (yj Z Z (yj Z Z (zc Z Z Z (zc Z Z Z (yj Z Z (yj Z Z (yj Z Z (yj Z Z (zc Z Z Z (za (zv Z Z Z) ⟨false,H,⟨Z,Z,Z,Z,Z,U⟩,U⟩)))))))))))))))))))))
   ·rintro v37 H
    replace H:z0z v14 v37=some r:=H
    unfold z0z at H
    refine zh _ Z (fun h38 => ?_) (fun h38 => ?_)
    ·exact tE h38 H fun H=>zb hN Z (qe Z (zb hN Z (qe Z (zj hN Z (qd Z (bE H fun x39 h40 H=>za (wv tyU9 Z Z h40) (bE H fun r41 h42 H=>za (zo (xe (x39.toNat:Int) r41 h42) ⟨.inl Z,U⟩) (za (yq Z Z) (qe Z ⟨(48,2,decide (r41=120)),H,⟨Z,Z,Z,Z,U⟩,U⟩)))))))))
    ·exact fE h38 H fun H=>zn ⟨(94,0,false),H,⟨Z,Z,Z,Z,U⟩,U⟩
  ·rintro ⟨v43,v44,v45⟩ H
   replace H:z9x v14 v43 v44 v45=some r:=H
   unfold z9x at H
   refine yg (ι:=Int) (fun i=>[(3,.dat (vval (.int .i32 i)))]) (fun i=>[]) (fun i=>y3y i=some r) (fun i=>Z) ?_ ?_
   ·skip
    refine yc (xo (fun (s:Int×Int)=>[(0,.dat (vstr v14)),(3,.dat (vval (.int .i32 s.1))),(4,.dat (vint s.2)),(5,.dat (zi v45))]) (fun (s:Int×Int)=>[]) (v43,v44) H ⟨Z,Z,Z,Z,U⟩ U (fun _=>Z) ?_)
    rintro ⟨v46,v47⟩ q48 H hq48
    replace H:y9g v14 v45 v46 v47=some q48:=H
    unfold y9g at H
    refine zd (zb hN Z (qd Z (qd Z (za (qi tyU9 Z) (za (ye Z Z) (zh _ Z (fun h49 => ?_) (fun h49 => ?_)))))))
    ·refine tE h49 H fun H=>zn (yg (ι:=Int) (fun i=>[(0,.dat (vstr v14)),(3,.dat (vval (.int .i32 i))),(4,.dat (vint v47)),(5,.dat (zi v45))]) (fun i=>[]) (fun i=>z6h v47 i=some q48) (fun i=>Z) ?_ ?_)
     ·skip
      refine yc (zd (yg (ι:=Bool) (fun i=>[(0,.dat (vstr v14)),(3,.dat (vval (.int .i32 v46))),(4,.dat (vint v47)),(5,.dat (zi v45)),(83,.dat (zi i))]) (fun i=>[]) (fun i=>Yr v14 v46 v47 i=some q48) (fun i=>Z) ?_ ?_))
      ·skip
       refine zj hN Z (qd Z (qd Z (bE H fun x50 h51 H=>za (kr tyU9 Z Z h51) (za (vm Z Z) (qd Z (yn (j:=4) Z Z (fun h52 => ?_) (fun h52 => ?_) Z))))))
       ·refine u1 h52 H fun h53 H=>zf Z Z h52 (ze (.dat _) Z) (zf Z Z h52 (ze (.dat _) Z) (zf Z Z h52 (kr tyU9 Z Z h51) (zf Z Z h52 (vm Z Z) (za (ya Z (bTT h53) Z) (qd Z (yn (j:=10) Z Z (fun h54 => ?_) (fun h54 => ?_) Z))))))
        ·refine u3 h54 H fun h55 H=>zf Z Z h54 (ze (.dat _) Z) (zf Z Z h54 (ze (.dat _) Z) (yn (j:=12) Z Z (fun h56 => ?_) (fun h56 => ?_) Z))
         ·refine u1 h56 H fun h57 H=>zf Z Z h56 (ze (.dat _) Z) (zf Z Z h56 (ze (.dat _) Z) (zf Z Z h56 (kr tyU9 Z Z h51) (bE H fun r58 h59 H=>zf Z Z h56 (zo (xe (x50.toNat:Int) r58 h59) ⟨.inl Z,U⟩) (zf Z Z h56 (vm Z Z) (zf Z Z h54 (ya Z (bTT h57) Z) (zf Z Z h54 (ze (.dat _) Z) (yn (j:=19) Z Z (fun h60 => ?_) (fun h60 => ?_) Z)))))))
          ·exact u1 h60 H fun h61 H=>zf Z Z h60 (ze (.dat _) Z) (zf Z Z h60 (ze (.dat _) Z) (zf Z Z h60 (kr tyU9 Z Z h51) (bE H fun r62 h63 H=>zf Z Z h60 (zo (xe (x50.toNat:Int) r62 h63) ⟨.inl Z,U⟩) (zf Z Z h60 (vm Z Z) (zf Z Z h54 (ya Z (bTT h61) Z) (za (zv Z (bFF h55) Z) ⟨decide (r62≤102),H,⟨Z,Z,Z,Z,Z,U⟩,U⟩))))))
          ·exact u2 h60 H fun h64 H=>zc Z Z h60 (zc Z Z h60 (zc Z Z h60 (zc Z Z h60 (zc Z Z h60 (zf Z Z h54 (zv Z (bFF h64) Z) (za (zv Z (bFF h55) Z) ⟨false,H,⟨Z,Z,Z,Z,Z,U⟩,U⟩))))))
         ·exact u2 h56 H fun h65 H=>zc Z Z h56 (zc Z Z h56 (zc Z Z h56 (zc Z Z h56 (zc Z Z h56 (zf Z Z h54 (zv Z (bFF h65) Z) (zf Z Z h54 (ze (.dat _) Z) (zc Z Z Z (zc Z Z Z (zc Z Z Z (zc Z Z Z (zc Z Z Z (zf Z Z h54 (zv Z Z Z) (za (zv Z (bFF h55) Z) ⟨false,H,⟨Z,Z,Z,Z,Z,U⟩,U⟩)))))))))))))
        ·exact u4 h54 H fun h66 H=>zc Z Z h54 (zc Z Z h54 (yj Z Z (yj Z Z (yj Z Z (yj Z Z (yj Z Z (zc Z Z h54 (zc Z Z h54 (yj Z Z (yj Z Z (yj Z Z (yj Z Z (yj Z Z (zc Z Z h54 (za (ya Z (bTT h66) Z) ⟨true,H,⟨Z,Z,Z,Z,Z,U⟩,U⟩)))))))))))))))
       ·refine u2 h52 H fun h67 H=>zc Z Z h52 (zc Z Z h52 (zc Z Z h52 (zc Z Z h52 (za (zv Z (bFF h67) Z) (qd Z (zf Z Z Z (ze (.dat _) Z) (zf Z Z Z (ze (.dat _) Z) (yn (j:=12) Z Z (fun h68 => ?_) (fun h68 => ?_) Z))))))))
        ·refine u1 h68 H fun h69 H=>zf Z Z h68 (ze (.dat _) Z) (zf Z Z h68 (ze (.dat _) Z) (zf Z Z h68 (kr tyU9 Z Z h51) (bE H fun r70 h71 H=>zf Z Z h68 (zo (xe (x50.toNat:Int) r70 h71) ⟨.inl Z,U⟩) (zf Z Z h68 (vm Z Z) (zf Z Z Z (ya Z (bTT h69) Z) (zf Z Z Z (ze (.dat _) Z) (yn (j:=19) Z Z (fun h72 => ?_) (fun h72 => ?_) Z)))))))
         ·exact u1 h72 H fun h73 H=>zf Z Z h72 (ze (.dat _) Z) (zf Z Z h72 (ze (.dat _) Z) (zf Z Z h72 (kr tyU9 Z Z h51) (bE H fun r74 h75 H=>zf Z Z h72 (zo (xe (x50.toNat:Int) r74 h75) ⟨.inl Z,U⟩) (zf Z Z h72 (vm Z Z) (zf Z Z Z (ya Z (bTT h73) Z) (za (zv Z Z Z) ⟨decide (r74≤102),H,⟨Z,Z,Z,Z,Z,U⟩,U⟩))))))
         ·exact u2 h72 H fun h76 H=>zc Z Z h72 (zc Z Z h72 (zc Z Z h72 (zc Z Z h72 (zc Z Z h72 (zf Z Z Z (zv Z (bFF h76) Z) (za (zv Z Z Z) ⟨false,H,⟨Z,Z,Z,Z,Z,U⟩,U⟩))))))
        ·exact u2 h68 H fun h77 H=>zc Z Z h68 (zc Z Z h68 (zc Z Z h68 (zc Z Z h68 (zc Z Z h68 (zf Z Z Z (zv Z (bFF h77) Z) (zf Z Z Z (ze (.dat _) Z) (zc Z Z Z (zc Z Z Z (zc Z Z Z (zc Z Z Z (zc Z Z Z (zf Z Z Z (zv Z Z Z) (za (zv Z Z Z) ⟨false,H,⟨Z,Z,Z,Z,Z,U⟩,U⟩)))))))))))))
      ·rintro v78 H
       replace H:Yr v14 v46 v47 v78=some q48:=H
       unfold Yr at H
       refine zh _ Z (fun h79 => ?_) (fun h79 => ?_)
       ·exact tE h79 H fun H=>zb hN Z (qe Z (yz ⟨48,H,⟨Z,Z,Z,Z,U⟩,U⟩))
       ·refine fE h79 H fun H=>zn (zd (zb hN Z (qd Z (qd Z (bE H fun x80 h81 H=>za (kr tyU9 Z Z h81) (za (yq Z Z) (zh _ Z (fun h82 => ?_) (fun h82 => ?_))))))))
        ·refine tE h82 H fun H=>zd (zb hN Z (qd Z (za (yy Z Z) (zh _ Z (fun h83 => ?_) (fun h83 => ?_)))))
         ·refine tE h83 H fun H=>zb hN Z (qe Z (zk ?_))
          replace H:=retl H hq48
          cases H
          exact ⟨U,.inl Z,U⟩
         ·exact fE h83 H fun H=>zn (zb hN Z (qe Z (yz ⟨95,H,⟨Z,Z,Z,Z,U⟩,U⟩)))
        ·refine fE h82 H fun H=>zn (zd (zb hN Z (qd Z (za (yq Z Z) (zh _ Z (fun h84 => ?_) (fun h84 => ?_))))))
         ·refine tE h84 H fun H=>zb hN Z (qe Z (zk ?_))
          replace H:=retl H hq48
          cases H
          exact ⟨U,.inl Z,U⟩
         ·exact fE h84 H fun H=>zn (zj hN Z (qe Z ⟨33,H,⟨Z,Z,Z,Z,U⟩,U⟩))
     ·rintro v85 H
      replace H:z6h v47 v85=some q48:=H
      unfold z6h at H
      exact zj hN Z (qd Z (za (ym _ Z Z (.inl ⟨Z,Z⟩)) (qe Z ⟨_,qm H,⟨Z,Z,Z,Z,U⟩,U⟩)))
    ·refine fE h49 H fun H=>yz ?_
     replace H:=outl H hq48
     exact ⟨v46,H,⟨Z,U⟩,U⟩
   ·rintro v86 H
    replace H:y3y v86=some r:=H
    unfold y3y at H
    refine zb hN Z (qd Z (za (yy Z Z) (qe Z (zk ?_))))
    cases H
    exact ⟨U,.inl Z,U⟩
end Go.Proofs.YtahcnngcpjkpgabGreatDoor
