/- Walks along the models. Printed by a program. -/
import Derived.Test.YtmdllhcjefcggacGreatDoorZmw2
namespace Go.Proofs.YtmdllhcjefcggacGreatDoor
open Go.RowKit
set_option linter.unusedVariables false
set_option maxRecDepth 100000
set_option maxHeartbeats 2000000
theorem x1l (s1:Bs) (r:(Int×Int)) (H:Yr s1=some r):Fn Tryz.prog 96 [vstr s1] (zu [vint r.1,verr r.2]):=by
 refine ⟨by kernel_rfl,yg (us:=[vint r.1,verr r.2]) Tryz.func96 Z Z Z Z fun X hN => ?_⟩
 unfold Yr at H
 refine zb hN Z (qe Z (qe Z (zb hN Z (qd Z (bE H fun r2 h3 H=>za (zk (w1s s1 r2 h3) ⟨.inl Z,U⟩) (qd Z (za (zz Z Z) (za (zz Z Z) (qe Z (qe Z (ze (zb hN Z (qd Z (za (z69 (n:=r2.2) (show Tryz.prog.underlying 104=some (.interface (Tryz.prog.methodsAt 104)) from by kernel_rfl) Z) ?_))))))))))))))
 refine zf _ Z (fun h4 => ?_) (fun h4 => ?_)
 ·refine tE h4 H fun H=>zb hN Z (qd Z (qd Z (qd Z (bE H fun r5 h6 H=>za (zk (x1j [65,116,111,105] s1 0 0 r2.2 r5 h6) ⟨.inl Z,.inl Z,.inl Z,.inl Z,.inl Z,U⟩) (qe Z (qe Z (zi ?_)))))))
  cases H
  exact ⟨U,.inl Z,.inl Z,U⟩
 ·refine fE h4 H fun H=>zl (zb hN Z (qd Z (qe Z (qe Z (zi ?_)))))
  cases H
  exact ⟨U,.inl Z,.inl Z,U⟩
theorem w1o (s1:Bs) (most2:Int) (r:(Int×Bool)) (H:z4f s1 most2=some r):Fn Tryz.prog 176 [vstr s1,vint most2] (zu [vint r.1,zh r.2]):=by
 refine ⟨by kernel_rfl,yg (us:=[vint r.1,zh r.2]) Tryz.func176 Z Z Z Z fun X hN => ?_⟩
 unfold z4f at H
 refine zb hN Z (qe Z (qe Z (zb hN Z (qd Z (bE H fun r3 h4 H=>za (zk (x1f s1 [45] r3 h4) ⟨.inl Z,.inl Z,U⟩) (qe Z (ze (yb (ι:=Bool) (fun i=>[(0,.dat (vstr s1)),(6,.dat (vstr r3)),(28,.dat (zh i))]) (fun i=>[]) (fun i=>uk s1 r3 i=some r) (fun i=>Z) ?_ ?_))))))))
 ·skip
  refine zn hN Z (qd Z (za (vg Z Z) (qd Z (yi (j:=2) Z Z (fun h5 => ?_) (fun h5 => ?_) Z))))
  ·refine u3 h5 H fun h6 H=>zg Z Z h5 (zd (.dat _) Z) (zg Z Z h5 (yz tyU9 Z) (zg Z Z h5 (zd (.dat _) Z) (zg Z Z h5 (wg Z Z) (za (ye Z (bFF h6) Z) (qd Z (yi (j:=8) Z Z (fun h7 => ?_) (fun h7 => ?_) Z))))))
   ·refine u3 h7 H fun h8 H=>zg Z Z h7 (zd (.dat _) Z) (bE H fun x9 h10 H=>zg Z Z h7 (wb tyU9 Z Z h10) (zg Z Z h7 (ql Z Z) (zg Z Z h7 (zd (.dat _) Z) (yi (j:=12) Z Z (fun h11 => ?_) (fun h11 => ?_) Z))))
    ·exact u1 h11 H fun h12 H=>zg Z Z h11 (zd (.dat _) Z) (zg Z Z h11 (ja Z Z) (zg Z Z h7 (yh Z (bTT h12) Z) (za (ye Z (bFF h8) Z) ⟨decide (s1≠[48]),H,⟨Z,Z,Z,U⟩,U⟩)))
    ·exact u2 h11 H fun h13 H=>zc Z Z h11 (zc Z Z h11 (zg Z Z h7 (ye Z (bFF h13) Z) (za (ye Z (bFF h8) Z) ⟨false,H,⟨Z,Z,Z,U⟩,U⟩)))
   ·exact u4 h7 H fun h14 H=>zc Z Z h7 (zc Z Z h7 (zc Z Z h7 (zc Z Z h7 (yt Z Z (yt Z Z (zc Z Z h7 (za (yh Z (bTT h14) Z) ⟨true,H,⟨Z,Z,Z,U⟩,U⟩)))))))
  ·exact u4 h5 H fun h15 H=>zc Z Z h5 (zc Z Z h5 (zc Z Z h5 (zc Z Z h5 (za (yh Z (bTT h15) Z) (qd Z (zc Z Z Z (zc Z Z Z (zc Z Z Z (zc Z Z Z (yt Z Z (yt Z Z (zc Z Z Z (za (yh Z Z Z) ⟨true,H,⟨Z,Z,Z,U⟩,U⟩)))))))))))))
 ·rintro v16 H
  replace H:uk s1 r3 v16=some r:=H
  unfold uk at H
  refine zf _ Z (fun h17 => ?_) (fun h17 => ?_)
  ·refine tE h17 H fun H=>zb hN Z (qe Z (qe Z (zi ?_)))
   cases H
   exact ⟨U,.inl Z,.inl Z,U⟩
  ·refine fE h17 H fun H=>zl (ze (zb hN Z (qe Z (zx (gE H fun h20 H=>qv (fun (i18:Nat) (s:Unit)=>[(0,.dat (vstr s1)),(6,.dat (vstr r3)),(7,.dat (vint (i18:Int)))]) (fun (i18:Nat) (s:Unit)=>[]) () H ⟨Z,Z,Z,U⟩ U (fun _ _=>Z) ?_ ?_)))))
   ·rintro ⟨⟩ H
    replace H:z4z s1=some r:=H
    unfold z4z at H
    refine ze (zb hN Z (qd Z (qd Z (za (yz tyU9 Z) (za (zy Z Z) (zf _ Z (fun h=>(lt_t h).elim) (fun h => ?_)))))))
    refine yr (zb hN Z (qd Z (bE H fun r22 h23 H=>za (zk (x1l s1 r22 h23) ⟨.inl Z,U⟩) (qd Z (za (zz Z Z) (za (zz Z Z) (qe Z (qe Z (ze (vf mixed hN Z Z (qd Z (qd Z (za (y9l (n:=r22.2) (show Tryz.prog.underlying 104=some (.interface (Tryz.prog.methodsAt 104)) from by kernel_rfl) Z) ?_)))))))))))))
    refine qe Z (qe Z ⟨Z,?_⟩)
    refine zi ?_
    cases H
    exact ⟨U,.inl Z,.inl Z,U⟩
   ·rintro i18 x21 ⟨⟩ q19 h24 h25 H hq19
    replace H:z81 i18 x21=some q19:=H
    unfold z81 at H
    refine ze (zb hN Z (qd Z (qd Z (za (yz tyU9 Z) (za (zy Z Z) (zf _ Z (fun h => ?_) (fun h=>(lt_f h24 h).elim)))))))
    refine zl (ze (zx (yb (ι:=Bool) (fun i=>[(0,.dat (vstr s1)),(6,.dat (vstr r3)),(7,.dat (vint (i18:Int))),(44,.dat (zh i))]) (fun i=>[]) (fun i=>z82 i=some q19) (fun i=>Z) ?_ ?_)))
    ·skip
     refine zn hN Z (qd Z (qd Z (za (wb tyU9 Z Z h25) (za (zy Z Z) (qd Z (yi (j:=4) Z Z (fun h26 => ?_) (fun h26 => ?_) Z))))))
     ·exact u3 h26 H fun h27 H=>zg Z Z h26 (zd (.dat _) Z) (zg Z Z h26 (zd (.dat _) Z) (zg Z Z h26 (wb tyU9 Z Z h25) (zg Z Z h26 (wg Z Z) (za (ye Z (bFF h27) Z) ⟨decide (57 < (x21.toNat:Int)),H,⟨Z,Z,Z,Z,U⟩,U⟩))))
     ·exact u4 h26 H fun h28 H=>zc Z Z h26 (zc Z Z h26 (zc Z Z h26 (zc Z Z h26 (za (yh Z (bTT h28) Z) ⟨true,H,⟨Z,Z,Z,Z,U⟩,U⟩))))
    ·rintro v29 H
     replace H:z82 v29=some q19:=H
     unfold z82 at H
     refine zf _ Z (fun h30 => ?_) (fun h30 => ?_)
     ·refine tE h30 H fun H=>zb hN Z (qe Z (qe Z (zi ?_)))
      replace H:=retl H hq19
      cases H
      exact ⟨U,.inl Z,.inl Z,U⟩
     ·exact fE h30 H fun H=>zl (zn hN Z (qd Z (za (qo Z Z (by omega)) (qe Z ⟨_,yx H,⟨Z,Z,Z,U⟩,U⟩))))
theorem x2b (s1:Bs) (r:(Int×Bool)) (H:z8b s1=some r):Fn Tryz.prog 126 [vstr s1] (zu [vint r.1,zh r.2]):=by
 refine ⟨by kernel_rfl,yg (us:=[vint r.1,zh r.2]) Tryz.func126 Z Z Z Z fun X hN => ?_⟩
 unfold z8b at H
 refine zb hN Z (qe Z (qe Z (zb hN Z (qd Z (bE H fun r2 h3 H=>za (zk (w1o s1 9 r2 h3) ⟨.inl Z,.inl Z,U⟩) (za (zz Z Z) (za (zz Z Z) (qe Z (qe Z (zi ?_))))))))))
 cases H
 exact ⟨U,.inl Z,.inl Z,U⟩
theorem y6f (n1:Int) (low2:Int) (high3:Int) (r:(Bool)) (H:z4e n1 low2 high3=some r):Fn Tryz.prog 83 [vint n1,vint low2,vint high3] (zu [zh r]):=by
 refine ⟨by kernel_rfl,yg (us:=[zh r]) Tryz.func83 Z Z Z Z fun X hN => ?_⟩
 unfold z4e at H
 refine zb hN Z (qe Z (zb hN Z (qd Z (qd Z (za (zy Z Z) (qd Z (yl Z Z (fun hc=>zd (.dat _) Z) (yl Z Z (fun hc=>zd (.dat _) Z) (yl Z Z (fun hc=>wg (cnd (c:=(!(decide (n1 < low2)))) hc) (cnd (c:=(!(decide (n1 < low2)))) hc)) (za (ww Z Z (fun hb=>(cnd (c:=(!(decide (n1 < low2)))) (notI hb)))) (qe Z (zi ?_))))))))))))
 cases H
 exact ⟨U,.inl Z,U⟩
theorem w1c (s1:Bs) (r:(Bool)) (H:y5z s1=some r):Fn Tryz.prog 134 [vstr s1] (zu [zh r]):=by
 refine ⟨by kernel_rfl,yg (us:=[zh r]) Tryz.func134 Z Z Z Z fun X hN => ?_⟩
 unfold y5z at H
 refine zb hN Z (qe Z (ze (zb hN Z (qd Z (za (yz tyU9 Z) (qd Z (zx (gE H fun h4 H=>qv (fun (k2:Nat) (s:Unit)=>[(0,.dat (vstr s1)),(5,.dat (vint (s1.length:Int))),(6,.dat (vint (k2:Int)))]) (fun (k2:Nat) (s:Unit)=>[]) () H ⟨Z,Z,Z,U⟩ U (fun _ _=>Z) ?_ ?_))))))))
 ·rintro ⟨⟩ H
  replace H:y5t s1=some r:=H
  unfold y5t at H
  refine zb hN Z (za (zy Z Z) (ze (zf _ Z (fun h=>(lt_t h).elim) (fun h => ?_))))
  refine yr (yb (ι:=Bool) (fun i=>[(2,.dat (zh i))]) (fun i=>[]) (fun i=>z0y i=some r) (fun i=>Z) ?_ ?_)
  ·skip
   refine zn hN Z (qd Z (za (ja Z Z) (qd Z (yi (j:=2) Z Z (fun h6 => ?_) (fun h6 => ?_) Z))))
   ·refine u1 h6 H fun h7 H=>zg Z Z h6 (zd (.dat _) Z) (zg Z Z h6 (yz tyU9 Z) (zg Z Z h6 (wy Z Z) (za (yh Z (bTT h7) Z) (qd Z (yi (j:=7) Z Z (fun h8 => ?_) (fun h8 => ?_) Z)))))
    ·refine u1 h8 H fun h9 H=>zg Z Z h8 (zd (.dat _) Z) (bE H fun x10 h11 H=>zg Z Z h8 (wb tyU9 Z Z h11) (zg Z Z h8 (qj Z Z) (za (yh Z (bTT h9) Z) (qd Z (yi (j:=12) Z Z (fun h12 => ?_) (fun h12 => ?_) Z)))))
     ·exact u1 h12 H fun h13 H=>zg Z Z h12 (zd (.dat _) Z) (zg Z Z h12 (zd (.dat _) Z) (zg Z Z h12 (yz tyU9 Z) (zg Z Z h12 (yj _ Z Z (.inr (.inl ⟨Z,Z⟩))) (bE H fun x14 h15 H=>zg Z Z h12 (jy tyU9 Z Z h15) (zg Z Z h12 (qj Z Z) (za (yh Z (bTT h13) Z) (qe Z ⟨decide ((x14.toNat:Int)≠45),H,⟨Z,U⟩,U⟩)))))))
     ·exact u2 h12 H fun h16 H=>zc Z Z h12 (zc Z Z h12 (zc Z Z h12 (zc Z Z h12 (zc Z Z h12 (zc Z Z h12 (za (ye Z (bFF h16) Z) (qe Z ⟨false,H,⟨Z,U⟩,U⟩)))))))
    ·exact u2 h8 H fun h17 H=>zc Z Z h8 (zc Z Z h8 (zc Z Z h8 (za (ye Z (bFF h17) Z) (qd Z (zc Z Z Z (zc Z Z Z (zc Z Z Z (zc Z Z Z (zc Z Z Z (zc Z Z Z (za (ye Z Z Z) (qe Z ⟨false,H,⟨Z,U⟩,U⟩))))))))))))
   ·exact u2 h6 H fun h18 H=>zc Z Z h6 (zc Z Z h6 (zc Z Z h6 (za (ye Z (bFF h18) Z) (qd Z (zc Z Z Z (zc Z Z Z (zc Z Z Z (za (ye Z Z Z) (qd Z (zc Z Z Z (zc Z Z Z (zc Z Z Z (zc Z Z Z (zc Z Z Z (zc Z Z Z (za (ye Z Z Z) (qe Z ⟨false,H,⟨Z,U⟩,U⟩)))))))))))))))))
  ·rintro v19 H
   replace H:z0y v19=some r:=H
   unfold z0y at H
   refine zi ?_
   cases H
   exact ⟨U,.inl Z,U⟩
 ·rintro k2 x5 ⟨⟩ q3 h20 h21 H hq3
  replace H:y5s k2 x5=some q3:=H
  unfold y5s at H
  refine zb hN Z (za (zy Z Z) (ze (zf _ Z (fun h => ?_) (fun h=>(lt_f h20 h).elim))))
  refine zl (ze (zx (zb hN Z (qd Z (qe Z (yb (ι:=Bool) (fun i=>[(0,.dat (vstr s1)),(5,.dat (vint (s1.length:Int))),(6,.dat (vint (k2:Int))),(26,.dat (zh i))]) (fun i=>[]) (fun i=>z3m i=some q3) (fun i=>Z) ?_ ?_))))))
  ·skip
   refine zn hN Z (qd Z (qd Z (za (wb tyU9 Z Z h21) (bE H fun r22 h23 H=>za (zk (y6e (x5.toNat:Int) r22 h23) ⟨.inl Z,U⟩) (za (yy Z) (qd Z (yi (j:=5) Z Z (fun h24 => ?_) (fun h24 => ?_) Z)))))))
   ·refine u1 h24 H fun h25 H=>zg Z Z h24 (zd (.dat _) Z) (zg Z Z h24 (zd (.dat _) Z) (zg Z Z h24 (wb tyU9 Z Z h21) (bE H fun r26 h27 H=>zg Z Z h24 (zk (y2g (x5.toNat:Int) r26 h27) ⟨.inl Z,U⟩) (zg Z Z h24 (yy Z) (za (yh Z (bTT h25) Z) (qd Z (yi (j:=12) Z Z (fun h28 => ?_) (fun h28 => ?_) Z)))))))
    ·exact u1 h28 H fun h29 H=>zg Z Z h28 (zd (.dat _) Z) (zg Z Z h28 (zd (.dat _) Z) (zg Z Z h28 (wb tyU9 Z Z h21) (zg Z Z h28 (qj Z Z) (za (yh Z (bTT h29) Z) ⟨decide ((x5.toNat:Int)≠45),H,⟨Z,Z,Z,Z,U⟩,U⟩))))
    ·exact u2 h28 H fun h30 H=>zc Z Z h28 (zc Z Z h28 (zc Z Z h28 (zc Z Z h28 (za (ye Z (bFF h30) Z) ⟨false,H,⟨Z,Z,Z,Z,U⟩,U⟩))))
   ·exact u2 h24 H fun h31 H=>zc Z Z h24 (zc Z Z h24 (zc Z Z h24 (zc Z Z h24 (zc Z Z h24 (za (ye Z (bFF h31) Z) (qd Z (zc Z Z Z (zc Z Z Z (zc Z Z Z (zc Z Z Z (za (ye Z Z Z) ⟨false,H,⟨Z,Z,Z,Z,U⟩,U⟩)))))))))))
  ·rintro v32 H
   replace H:z3m v32=some q3:=H
   unfold z3m at H
   refine zf _ Z (fun h33 => ?_) (fun h33 => ?_)
   ·refine tE h33 H fun H=>zb hN Z (qe Z (zi ?_))
    replace H:=retl H hq3
    cases H
    exact ⟨U,.inl Z,U⟩
   ·exact fE h33 H fun H=>zl (zn hN Z (za (qo Z Z (by omega)) (qd Z ⟨_,yx H,⟨Z,Z,Z,U⟩,U⟩)))
theorem x1t (s1:Bs) (r:(Bool)) (H:z1a s1=some r):Fn Tryz.prog 78 [vstr s1] (zu [zh r]):=by
 refine ⟨by kernel_rfl,yg (us:=[zh r]) Tryz.func78 Z Z Z Z fun X hN => ?_⟩
 unfold z1a at H
 refine zb hN Z (qe Z (zb hN Z (qd Z (bE H fun r2 h3 H=>za (zk (z42 s1 [58] r2 h3) ⟨.inl Z,.inl Z,U⟩) (qd Z (za (zz Z Z) (za (zz Z Z) (za (zz Z Z) (qe Z (qe Z (qe Z (ze (zb hN Z (qd Z (bE H fun r4 h5 H=>za (zk (Yx r2.1 [46] r4 h5) ⟨.inl Z,.inl Z,U⟩) (za (qi wt Z) (qd Z (zx (gE H fun h8 H=>qv (fun (k6:Nat) (s:Unit)=>[(0,.dat (vstr s1)),(4,.dat (vstr r2.2.1)),(5,.dat (zh r2.2.2)),(17,.dat (vlst (List.map zp r4))),(18,.dat (vint (r4.length:Int))),(19,.dat (vint (k6:Int)))]) (fun (k6:Nat) (s:Unit)=>[]) () H ⟨Z,Z,Z,Z,Z,Z,U⟩ U (fun _ _=>Z) ?_ ?_)))))))))))))))))))
 ·rintro ⟨⟩ H
  replace H:y1p s1 r2=some r:=H
  unfold y1p at H
  refine zb hN Z (za (zy Z Z) (ze (zf _ Z (fun h=>(lt_t h).elim) (fun h => ?_))))
  refine yr (zb hN Z (qd Z (bE H fun r10 h11 H=>za (zk (x2b r2.2.1 r10 h11) ⟨.inl Z,U⟩) (qd Z (za (zz Z Z) (za (zz Z Z) (qe Z (qe Z (yb (ι:=Bool) (fun i=>[(2,.dat (zh i))]) (fun i=>[]) (fun i=>z0z i=some r) (fun i=>Z) ?_ ?_)))))))))
  ·skip
   refine zn hN Z (qd Z (za (yz tyU9 Z) (za (wy Z Z) (qd Z (yi (j:=3) Z Z (fun h12 => ?_) (fun h12 => ?_) Z)))))
   ·refine u1 h12 H fun h13 H=>zg Z Z h12 (zd (.dat _) Z) (zg Z Z h12 (yy Z) (zg Z Z h12 (zd (.dat _) Z) (yi (j:=6) Z Z (fun h14 => ?_) (fun h14 => ?_) Z)))
    ·refine u3 h14 H fun h15 H=>zg Z Z h14 (zd (.dat _) Z) (zg Z Z h14 (zd (.dat _) Z) (yi (j:=8) Z Z (fun h16 => ?_) (fun h16 => ?_) Z))
     ·exact u1 h16 H fun h17 H=>zg Z Z h16 (zd (.dat _) Z) (bE H fun r18 h19 H=>zg Z Z h16 (zk (y6f r10.1 1 65535 r18 h19) ⟨.inl Z,.inl Z,.inl Z,U⟩) (zg Z Z h16 (yy Z) (zg Z Z h14 (yh Z (bTT h17) Z) (zg Z Z h12 (ye Z (bFF h15) Z) (za (yh Z (bTT h13) Z) (qe Z ⟨!r18,H,⟨Z,U⟩,U⟩))))))
     ·exact u2 h16 H fun h20 H=>zc Z Z h16 (zc Z Z h16 (zc Z Z h16 (zg Z Z h14 (ye Z (bFF h20) Z) (zg Z Z h12 (ye Z (bFF h15) Z) (za (yh Z (bTT h13) Z) (qe Z ⟨false,H,⟨Z,U⟩,U⟩))))))
    ·exact u4 h14 H fun h21 H=>zc Z Z h14 (zc Z Z h14 (yt Z Z (yt Z Z (yt Z Z (zc Z Z h14 (zg Z Z h12 (yh Z (bTT h21) Z) (za (yh Z (bTT h13) Z) (qe Z ⟨true,H,⟨Z,U⟩,U⟩))))))))
   ·exact u2 h12 H fun h22 H=>zc Z Z h12 (zc Z Z h12 (zc Z Z h12 (yt Z Z (yt Z Z (yt Z Z (yt Z Z (yt Z Z (yt Z Z (zc Z Z h12 (za (ye Z (bFF h22) Z) (qe Z ⟨false,H,⟨Z,U⟩,U⟩)))))))))))
  ·rintro v23 H
   replace H:z0z v23=some r:=H
   unfold z0z at H
   refine zi ?_
   cases H
   exact ⟨U,.inl Z,U⟩
 ·rintro k6 x9 ⟨⟩ q7 h24 h25 H hq7
  replace H:y1o k6 x9=some q7:=H
  unfold y1o at H
  refine zb hN Z (za (zy Z Z) (ze (zf _ Z (fun h => ?_) (fun h=>(lt_f h24 h).elim))))
  refine zl (ze (zx (zb hN Z (za (wc vn (fun _=>Z) Z Z h25) (za (qz tyS9 Z (qk h25) Z) (qe Z (zb hN Z (qd Z (bE H fun r26 h27 H=>za (zk (w1c x9 r26 h27) ⟨.inl Z,U⟩) (za (yy Z) (zf _ Z (fun h28 => ?_) (fun h28 => ?_))))))))))))
  ·refine tE h28 H fun H=>zb hN Z (qe Z (zi ?_))
   replace H:=retl H hq7
   cases H
   exact ⟨U,.inl Z,U⟩
  ·exact fE h28 H fun H=>zl (zn hN Z (za (qo Z Z (by omega)) (qd Z ⟨_,yx H,⟨Z,Z,Z,Z,Z,Z,U⟩,U⟩)))
theorem w02 (s p:Bs) (r:Bool) (H:y5v s p=some r):Fn Tryz.prog 119 [vstr s,vstr p] (zu [zh r]):=by
 cases H
 refine y3g (by kernel_rfl) fun M w vs h => ?_
 have h1:=kk (us:=[.string ⟨s.toArray⟩,.string ⟨p.toArray⟩]) h
 subst h1
 refine (Tryz.strings_HasPrefix ⟨s.toArray⟩ ⟨p.toArray⟩ w).mono ?_
 rintro e w' ⟨rfl,rfl⟩
 exact ⟨_,Z,Z,Kp.refl _ _⟩
theorem y6d (s1:Bs) (low2:Int) (high3:Int) (r:(Bool)) (H:Ys s1 low2 high3=some r):Fn Tryz.prog 135 [vstr s1,vval (.int .u8 low2),vval (.int .u8 high3)] (zu [zh r]):=by
 refine ⟨by kernel_rfl,yg (us:=[zh r]) Tryz.func135 Z Z Z Z fun X hN => ?_⟩
 unfold Ys at H
 refine zb hN Z (qe Z (ze (zb hN Z (qd Z (za (yz tyU9 Z) (qd Z (zx (gE H fun h6 H=>qv (fun (k4:Nat) (s:Unit)=>[(0,.dat (vstr s1)),(1,.dat (vval (.int .u8 low2))),(2,.dat (vval (.int .u8 high3))),(9,.dat (vint (s1.length:Int))),(10,.dat (vint (k4:Int)))]) (fun (k4:Nat) (s:Unit)=>[]) () H ⟨Z,Z,Z,Z,Z,U⟩ U (fun _ _=>Z) ?_ ?_))))))))
 ·rintro ⟨⟩ H
  replace H:y1n=some r:=H
  unfold y1n at H
  refine zb hN Z (za (zy Z Z) (ze (zf _ Z (fun h=>(lt_t h).elim) (fun h => ?_))))
  refine yr (zb hN Z (qe Z (zi ?_)))
  cases H
  exact ⟨U,.inl Z,U⟩
 ·rintro k4 x7 ⟨⟩ q5 h8 h9 H hq5
  replace H:y1m low2 high3 k4 x7=some q5:=H
  unfold y1m at H
  refine zb hN Z (za (zy Z Z) (ze (zf _ Z (fun h => ?_) (fun h=>(lt_f h8 h).elim))))
  refine zl (ze (zx (zb hN Z (qd Z (qe Z (yb (ι:=Bool) (fun i=>[(0,.dat (vstr s1)),(1,.dat (vval (.int .u8 low2))),(2,.dat (vval (.int .u8 high3))),(9,.dat (vint (s1.length:Int))),(10,.dat (vint (k4:Int))),(24,.dat (zh i))]) (fun i=>[]) (fun i=>z3l i=some q5) (fun i=>Z) ?_ ?_))))))
  ·skip
   refine zn hN Z (qd Z (qd Z (za (wb tyU9 Z Z h9) (qd Z (za (zy Z Z) (qd Z (yi (j:=5) Z Z (fun h10 => ?_) (fun h10 => ?_) Z)))))))
   ·exact u3 h10 H fun h11 H=>zg Z Z h10 (zd (.dat _) Z) (zg Z Z h10 (zd (.dat _) Z) (zg Z Z h10 (wb tyU9 Z Z h9) (zg Z Z h10 (zd (.dat _) Z) (zg Z Z h10 (wg Z Z) (za (ye Z (bFF h11) Z) ⟨decide (high3 < (x7.toNat:Int)),H,⟨Z,Z,Z,Z,Z,Z,U⟩,U⟩)))))
   ·exact u4 h10 H fun h12 H=>zc Z Z h10 (zc Z Z h10 (zc Z Z h10 (zc Z Z h10 (zc Z Z h10 (za (yh Z (bTT h12) Z) ⟨true,H,⟨Z,Z,Z,Z,Z,Z,U⟩,U⟩)))))
  ·rintro v13 H
   replace H:z3l v13=some q5:=H
   unfold z3l at H
   refine zf _ Z (fun h14 => ?_) (fun h14 => ?_)
   ·refine tE h14 H fun H=>zb hN Z (qe Z (zi ?_))
    replace H:=retl H hq5
    cases H
    exact ⟨U,.inl Z,U⟩
   ·exact fE h14 H fun H=>zl (zn hN Z (za (qo Z Z (by omega)) (qd Z ⟨_,yx H,⟨Z,Z,Z,Z,Z,U⟩,U⟩)))
theorem x1h (s p:Bs) (r:Bool) (H:z3y s p=some r):Fn Tryz.prog 92 [vstr s,vstr p] (zu [zh r]):=by
 unfold z3y at H
 obtain ⟨⟨⟨h1,h2⟩,h3,h4⟩,h5⟩:=gif H
 cases h5
 refine Ze (by kernel_rfl) fun M w vs hM h => ?_
 have hv:=kk (us:=[.string ⟨s.toArray⟩,.string ⟨p.toArray⟩]) h
 subst hv
 refine (Tryz.strings_ContainsAny_laid ⟨s.toArray⟩ ⟨p.toArray⟩ w (by simp [ByteArray.size]; omega) (by simp [ByteArray.size]; omega) (fun j b hb=>z6s h3 j b (by simpa using hb)) (fun j b hb=>z6s h4 j b (by simpa using hb))).mono ?_
 rintro e w' ⟨rfl,hb⟩
 exact ⟨_,Z,Z,Kp.of_below hb⟩

theorem x1x (s1:Bs) (r:(Int)) (H:z4a s1=some r):Fn Tryz.prog 79 [vstr s1] (zu [vint r]):=by
 refine ⟨by kernel_rfl,yg (us:=[vint r]) Tryz.func79 Z Z Z Z fun X hN => ?_⟩
 unfold z4a at H
 refine zb hN Z (qe Z (ze (yb (ι:=Bool) (fun i=>[(19,.dat (zh i))]) (fun i=>[]) (fun i=>Qt i=some r) (fun i=>Z) ?_ ?_)))
 ·skip
  refine zn hN Z (qd Z (za (yz tyU9 Z) (za (wg Z Z) (qd Z (yi (j:=3) Z Z (fun h2 => ?_) (fun h2 => ?_) Z)))))
  ·refine u3 h2 H fun h3 H=>zg Z Z h2 (zd (.dat _) Z) (bE H fun r4 h5 H=>zg Z Z h2 (zk (w02 s1 [47] r4 h5) ⟨.inl Z,.inl Z,U⟩) (zg Z Z h2 (yy Z) (za (ye Z (bFF h3) Z) (qd Z (yi (j:=8) Z Z (fun h6 => ?_) (fun h6 => ?_) Z)))))
   ·refine u3 h6 H fun h7 H=>zg Z Z h6 (zd (.dat _) Z) (bE H fun r8 h9 H=>zg Z Z h6 (zk (y6d s1 33 126 r8 h9) ⟨.inl Z,.inl Z,.inl Z,U⟩) (zg Z Z h6 (yy Z) (za (ye Z (bFF h7) Z) (qd Z (yi (j:=13) Z Z (fun h10 => ?_) (fun h10 => ?_) Z)))))
    ·exact u3 h10 H fun h11 H=>zg Z Z h10 (zd (.dat _) Z) (bE H fun r12 h13 H=>zg Z Z h10 (zk (x1h s1 [63,35] r12 h13) ⟨.inl Z,.inl Z,U⟩) (za (ye Z (bFF h11) Z) ⟨r12,H,⟨Z,U⟩,U⟩))
    ·exact u4 h10 H fun h14 H=>zc Z Z h10 (zc Z Z h10 (za (yh Z (bTT h14) Z) ⟨true,H,⟨Z,U⟩,U⟩))
   ·exact u4 h6 H fun h15 H=>zc Z Z h6 (zc Z Z h6 (zc Z Z h6 (za (yh Z (bTT h15) Z) (qd Z (zc Z Z Z (zc Z Z Z (za (yh Z Z Z) ⟨true,H,⟨Z,U⟩,U⟩)))))))
  ·exact u4 h2 H fun h16 H=>zc Z Z h2 (zc Z Z h2 (zc Z Z h2 (za (yh Z (bTT h16) Z) (qd Z (zc Z Z Z (zc Z Z Z (zc Z Z Z (za (yh Z Z Z) (qd Z (zc Z Z Z (zc Z Z Z (za (yh Z Z Z) ⟨true,H,⟨Z,U⟩,U⟩))))))))))))
 ·rintro v17 H
  replace H:Qt v17=some r:=H
  unfold Qt at H
  refine zf _ Z (fun h18 => ?_) (fun h18 => ?_)
  ·refine tE h18 H fun H=>zb hN Z (qe Z (zi ?_))
   cases H
   exact ⟨U,.inl Z,U⟩
  ·refine fE h18 H fun H=>zl (zb hN Z (qe Z (zi ?_)))
   cases H
   exact ⟨U,.inl Z,U⟩
theorem x1i (s p:Bs) (r:Bool) (H:Qx s p=some r):Fn Tryz.prog 93 [vstr s,vstr p] (zu [zh r]):=by
 unfold Qx at H
 obtain ⟨h1,h2⟩:=gif H
 cases h2
 refine Ze (by kernel_rfl) fun M w vs hM h => ?_
 have hv:=kk (us:=[.string ⟨s.toArray⟩,.string ⟨p.toArray⟩]) h
 subst hv
 obtain ⟨m,hm⟩:=y1w hM
 refine (Tryz.strings_Contains ⟨s.toArray⟩ ⟨p.toArray⟩ m w (by simp [ByteArray.size]; omega) hm).mono ?_
 rintro e w' ⟨rfl,rfl⟩
 exact ⟨_,Z,Z,Kp.refl _ _⟩

theorem x1q (s1:Bs) (r:(Int)) (H:xi s1=some r):Fn Tryz.prog 80 [vstr s1] (zu [vint r]):=by
 refine ⟨by kernel_rfl,yg (us:=[vint r]) Tryz.func80 Z Z Z Z fun X hN => ?_⟩
 unfold xi at H
 refine zb hN Z (qe Z (ze (yb (ι:=Bool) (fun i=>[(14,.dat (zh i))]) (fun i=>[]) (fun i=>xz i=some r) (fun i=>Z) ?_ ?_)))
 ·skip
  refine zn hN Z (qd Z (za (yz tyU9 Z) (za (wg Z Z) (qd Z (yi (j:=3) Z Z (fun h2 => ?_) (fun h2 => ?_) Z)))))
  ·refine u3 h2 H fun h3 H=>zg Z Z h2 (zd (.dat _) Z) (bE H fun r4 h5 H=>zg Z Z h2 (zk (y6d s1 33 126 r4 h5) ⟨.inl Z,.inl Z,.inl Z,U⟩) (zg Z Z h2 (yy Z) (za (ye Z (bFF h3) Z) (qd Z (yi (j:=8) Z Z (fun h6 => ?_) (fun h6 => ?_) Z)))))
   ·exact u3 h6 H fun h7 H=>zg Z Z h6 (zd (.dat _) Z) (bE H fun r8 h9 H=>zg Z Z h6 (zk (x1i s1 [35] r8 h9) ⟨.inl Z,.inl Z,U⟩) (za (ye Z (bFF h7) Z) ⟨r8,H,⟨Z,U⟩,U⟩))
   ·exact u4 h6 H fun h10 H=>zc Z Z h6 (zc Z Z h6 (za (yh Z (bTT h10) Z) ⟨true,H,⟨Z,U⟩,U⟩))
  ·exact u4 h2 H fun h11 H=>zc Z Z h2 (zc Z Z h2 (zc Z Z h2 (za (yh Z (bTT h11) Z) (qd Z (zc Z Z Z (zc Z Z Z (za (yh Z Z Z) ⟨true,H,⟨Z,U⟩,U⟩)))))))
 ·rintro v12 H
  replace H:xz v12=some r:=H
  unfold xz at H
  refine zf _ Z (fun h13 => ?_) (fun h13 => ?_)
  ·refine tE h13 H fun H=>zb hN Z (qe Z (zi ?_))
   cases H
   exact ⟨U,.inl Z,U⟩
  ·refine fE h13 H fun H=>zl (zb hN Z (qe Z (zi ?_)))
   cases H
   exact ⟨U,.inl Z,U⟩
theorem w0z (s1:Bs) (c2:Int) (r:(Bs)) (H:Qv s1 c2=some r):Fn Tryz.prog 141 [vstr s1,vval (.int .u8 c2)] (zu [vstr r]):=by
 refine ⟨by kernel_rfl,yg (us:=[vstr r]) Tryz.func141 Z Z Z Z fun X hN => ?_⟩
 unfold Qv at H
 refine zb hN Z (qe Z (yb (ι:=Bs) (fun i=>[(0,.dat (vstr i))]) (fun i=>[]) (fun i=>z66 i=some r) (fun i=>Z) ?_ ?_))
 ·skip
  refine zx (uz (fun (s:Bs)=>[(0,.dat (vstr s)),(1,.dat (vval (.int .u8 c2)))]) (fun (s:Bs)=>[]) s1 H ⟨Z,Z,U⟩ U (fun _=>Z) ?_)
  rintro s3 q4 H hq4
  replace H:z65 c2 s3=some q4:=H
  unfold z65 at H
  refine ze (yb (ι:=Bool) (fun i=>[(0,.dat (vstr s3)),(1,.dat (vval (.int .u8 c2))),(16,.dat (zh i))]) (fun i=>[]) (fun i=>z0m s3 i=some q4) (fun i=>Z) ?_ ?_)
  ·skip
   refine zn hN Z (qd Z (za (yz tyU9 Z) (za (wg Z Z) (qd Z (yi (j:=3) Z Z (fun h5 => ?_) (fun h5 => ?_) Z)))))
   ·exact u1 h5 H fun h6 H=>zg Z Z h5 (zd (.dat _) Z) (zg Z Z h5 (zd (.dat _) Z) (zg Z Z h5 (yz tyU9 Z) (zg Z Z h5 (yj _ Z Z (.inr (.inl ⟨Z,Z⟩))) (bE H fun x7 h8 H=>zg Z Z h5 (jy tyU9 Z Z h8) (zg Z Z h5 (zd (.dat _) Z) (zg Z Z h5 (ql Z Z) (za (yh Z (bTT h6) Z) ⟨decide ((x7.toNat:Int)=c2),H,⟨Z,Z,Z,U⟩,U⟩)))))))
   ·exact u2 h5 H fun h9 H=>zc Z Z h5 (zc Z Z h5 (zc Z Z h5 (zc Z Z h5 (zc Z Z h5 (zc Z Z h5 (zc Z Z h5 (za (ye Z (bFF h9) Z) ⟨false,H,⟨Z,Z,Z,U⟩,U⟩)))))))
  ·rintro v10 H
   replace H:z0m s3 v10=some q4:=H
   unfold z0m at H
   refine zf _ Z (fun h11 => ?_) (fun h11 => ?_)
   ·exact tE h11 H fun H=>zl (zx (zn hN Z (qd Z (qd Z (za (yz tyU9 Z) (za (yj _ Z Z (.inr (.inl ⟨Z,Z⟩))) (bE H fun l12 h13 H=>za (vy tyU9 Z Z Z h13) (qe Z ⟨_,yx H,⟨Z,Z,U⟩,U⟩))))))))
   ·refine fE h11 H fun H=>yr ?_
    replace H:=outl H hq4
    exact ⟨s3,H,⟨Z,U⟩,U⟩
 ·rintro s14 H
  replace H:z66 s14=some r:=H
  unfold z66 at H
  refine zb hN Z (qd Z (qe Z (zi ?_)))
  cases H
  exact ⟨U,.inl Z,U⟩
theorem w00 (s1:Bs) (c2:Int) (r:(Bs)) (H:z05 s1 c2=some r):Fn Tryz.prog 140 [vstr s1,vval (.int .u8 c2)] (zu [vstr r]):=by
 refine ⟨by kernel_rfl,yg (us:=[vstr r]) Tryz.func140 Z Z Z Z fun X hN => ?_⟩
 unfold z05 at H
 refine zb hN Z (qe Z (yb (ι:=Bs) (fun i=>[(0,.dat (vstr i))]) (fun i=>[]) (fun i=>z68 i=some r) (fun i=>Z) ?_ ?_))
 ·skip
  refine zx (uz (fun (s:Bs)=>[(0,.dat (vstr s)),(1,.dat (vval (.int .u8 c2)))]) (fun (s:Bs)=>[]) s1 H ⟨Z,Z,U⟩ U (fun _=>Z) ?_)
  rintro s3 q4 H hq4
  replace H:z67 c2 s3=some q4:=H
  unfold z67 at H
  refine ze (yb (ι:=Bool) (fun i=>[(0,.dat (vstr s3)),(1,.dat (vval (.int .u8 c2))),(13,.dat (zh i))]) (fun i=>[]) (fun i=>z0n s3 i=some q4) (fun i=>Z) ?_ ?_)
  ·skip
   refine zn hN Z (qd Z (za (yz tyU9 Z) (za (wg Z Z) (qd Z (yi (j:=3) Z Z (fun h5 => ?_) (fun h5 => ?_) Z)))))
   ·exact u1 h5 H fun h6 H=>zg Z Z h5 (zd (.dat _) Z) (bE H fun x7 h8 H=>zg Z Z h5 (wb tyU9 Z Z h8) (zg Z Z h5 (zd (.dat _) Z) (zg Z Z h5 (ql Z Z) (za (yh Z (bTT h6) Z) ⟨decide ((x7.toNat:Int)=c2),H,⟨Z,Z,Z,U⟩,U⟩))))
   ·exact u2 h5 H fun h9 H=>zc Z Z h5 (zc Z Z h5 (zc Z Z h5 (zc Z Z h5 (za (ye Z (bFF h9) Z) ⟨false,H,⟨Z,Z,Z,U⟩,U⟩))))
  ·rintro v10 H
   replace H:z0n s3 v10=some q4:=H
   unfold z0n at H
   refine zf _ Z (fun h11 => ?_) (fun h11 => ?_)
   ·exact tE h11 H fun H=>zl (zx (zn hN Z (qd Z (bE H fun l12 h13 H=>za (vy tyU9 Z Z Z h13) (qe Z ⟨_,yx H,⟨Z,Z,U⟩,U⟩)))))
   ·refine fE h11 H fun H=>yr ?_
    replace H:=outl H hq4
    exact ⟨s3,H,⟨Z,U⟩,U⟩
 ·rintro s14 H
  replace H:z68 s14=some r:=H
  unfold z68 at H
  refine zb hN Z (qd Z (qe Z (zi ?_)))
  cases H
  exact ⟨U,.inl Z,U⟩
theorem z40 (s1:Bs) (cutset2:Bs) (r:(Bs)) (H:Yq s1 cutset2=some r):Fn Tryz.prog 90 [vstr s1,vstr cutset2] (zu [vstr r]):=by
 refine ⟨by kernel_rfl,yg (us:=[vstr r]) Tryz.func90 Z Z Z Z fun X hN => ?_⟩
 unfold Yq at H
 refine zb hN Z (qe Z (ze (zb hN Z (qd Z (za (vg Z Z) (qd Z (yl Z Z (fun hc=>zd (.dat _) Z) (yl Z Z (fun hc=>vg (cnd (c:=(!(decide (s1=[])))) hc) Z) (za (ww Z Z (fun hb=>(cnd (c:=(!(decide (s1=[])))) (notI hb)))) (zf _ Z (fun h3 => ?_) (fun h3 => ?_)))))))))))
 ·refine tE h3 H fun H=>zb hN Z (qd Z (qe Z (zi ?_)))
  cases H
  exact ⟨U,.inl Z,U⟩
 ·refine fE h3 H fun H=>zl (ze (yb (ι:=Bool) (fun i=>[(0,.dat (vstr s1)),(1,.dat (vstr cutset2)),(21,.dat (zh i))]) (fun i=>[]) (fun i=>z3b s1 cutset2 i=some r) (fun i=>Z) ?_ ?_))
  ·skip
   refine zn hN Z (qd Z (za (yz tyU9 Z) (za (ql Z Z) (qd Z (yi (j:=3) Z Z (fun h4 => ?_) (fun h4 => ?_) Z)))))
   ·exact u1 h4 H fun h5 H=>zg Z Z h4 (zd (.dat _) Z) (bE H fun x6 h7 H=>zg Z Z h4 (wb tyU9 Z Z h7) (zg Z Z h4 (zy Z Z) (za (yh Z (bTT h5) Z) ⟨decide ((x6.toNat:Int) < 128),H,⟨Z,Z,Z,U⟩,U⟩)))
   ·exact u2 h4 H fun h8 H=>zc Z Z h4 (zc Z Z h4 (zc Z Z h4 (za (ye Z (bFF h8) Z) ⟨false,H,⟨Z,Z,Z,U⟩,U⟩)))
  ·rintro v9 H
   replace H:z3b s1 cutset2 v9=some r:=H
   unfold z3b at H
   refine zf _ Z (fun h10 => ?_) (fun h10 => ?_)
   ·refine tE h10 H fun H=>ze (vf mixed hN Z Z (qd Z (qd Z (bE H fun x11 h12 H=>za (wb tyU9 Z Z h12) (bE H fun r13 h14 H=>za (zk (w0z s1 (x11.toNat:Int) r13 h14) ⟨.inl Z,.inl Z,U⟩) (qd Z (za (wb tyU9 Z Z h12) (bE H fun r15 h16 H=>za (zk (w00 r13 (x11.toNat:Int) r15 h16) ⟨.inl Z,.inl Z,U⟩) (qe Z ⟨Z,?_⟩)))))))))
    refine zi ?_
    cases H
    exact ⟨U,.inl Z,U⟩
   ·refine fE h10 H fun H=>?_
    cases H
theorem x1y (s1:Bs) (r:(Bool)) (H:z1b s1=some r):Fn Tryz.prog 81 [vstr s1] (zu [zh r]):=by
 refine ⟨by kernel_rfl,yg (us:=[zh r]) Tryz.func81 Z Z Z Z fun X hN => ?_⟩
 unfold z1b at H
 refine zb hN Z (qe Z (yb (ι:=Bool) (fun i=>[(2,.dat (zh i))]) (fun i=>[]) (fun i=>z04 i=some r) (fun i=>Z) ?_ ?_))
 ·skip
  refine zn hN Z (qd Z (za (yz tyU9 Z) (za (wy Z Z) (qd Z (yi (j:=3) Z Z (fun h2 => ?_) (fun h2 => ?_) Z)))))
  ·refine u1 h2 H fun h3 H=>zg Z Z h2 (zd (.dat _) Z) (bE H fun r4 h5 H=>zg Z Z h2 (zk (y6d s1 32 126 r4 h5) ⟨.inl Z,.inl Z,.inl Z,U⟩) (za (yh Z (bTT h3) Z) (qd Z (yi (j:=7) Z Z (fun h6 => ?_) (fun h6 => ?_) Z))))
   ·exact u1 h6 H fun h7 H=>zg Z Z h6 (zd (.dat _) Z) (bE H fun r8 h9 H=>zg Z Z h6 (zk (z40 s1 [32] r8 h9) ⟨.inl Z,.inl Z,U⟩) (zg Z Z h6 (zd (.dat _) Z) (zg Z Z h6 (vg Z Z) (za (yh Z (bTT h7) Z) (qe Z ⟨decide (r8=s1),H,⟨Z,U⟩,U⟩)))))
   ·exact u2 h6 H fun h10 H=>zc Z Z h6 (zc Z Z h6 (zc Z Z h6 (zc Z Z h6 (za (ye Z (bFF h10) Z) (qe Z ⟨false,H,⟨Z,U⟩,U⟩)))))
  ·exact u2 h2 H fun h11 H=>zc Z Z h2 (zc Z Z h2 (za (ye Z (bFF h11) Z) (qd Z (zc Z Z Z (zc Z Z Z (zc Z Z Z (zc Z Z Z (za (ye Z Z Z) (qe Z ⟨false,H,⟨Z,U⟩,U⟩)))))))))
 ·rintro v12 H
  replace H:z04 v12=some r:=H
  unfold z04 at H
  refine zi ?_
  cases H
  exact ⟨U,.inl Z,U⟩
theorem x2a (l1:(List zt)) (r:(Int)) (H:z4c l1=some r):Fn Tryz.prog 82 [vlst (List.map yd l1)] (zu [vint r]):=by
 refine ⟨by kernel_rfl,yg (us:=[vint r]) Tryz.func82 Z Z Z Z fun X hN => ?_⟩
 unfold z4c at H
 refine zb hN Z (qe Z (ze (zb hN Z (qd Z (za (qi xc Z) (za (wg Z Z) (zf _ Z (fun h2 => ?_) (fun h2 => ?_))))))))
 ·refine tE h2 H fun H=>zb hN Z (qe Z (zi ?_))
  cases H
  exact ⟨U,.inl Z,U⟩
 ·refine fE h2 H fun H=>zl (ze (zb hN Z (qd Z (za (qi xc Z) (qd Z (zx (gE H fun h5 H=>qv (fun (k3:Nat) (s:Unit)=>[(8,.dat (vlst (List.map yd l1))),(9,.dat (vint (l1.length:Int))),(10,.dat (vint (k3:Int)))]) (fun (k3:Nat) (s:Unit)=>[]) () H ⟨Z,Z,Z,U⟩ U (fun _ _=>Z) ?_ ?_)))))))
  ·rintro ⟨⟩ H
   replace H:y1v=some r:=H
   unfold y1v at H
   refine zb hN Z (za (zy Z Z) (ze (zf _ Z (fun h=>(lt_t h).elim) (fun h => ?_))))
   refine yr (zb hN Z (qe Z (zi ?_)))
   cases H
   exact ⟨U,.inl Z,U⟩
  ·rintro k3 x6 ⟨⟩ q4 h7 h8 H hq4
   replace H:y1u k3 x6=some q4:=H
   unfold y1u at H
   refine zb hN Z (za (zy Z Z) (ze (zf _ Z (fun h => ?_) (fun h=>(lt_f h7 h).elim))))
   refine zl (ze (zx (zb hN Z (za (wc Yi (fun _=>Z) Z Z h8) (za (kh jx Z (qk h8) Z) (zj (qu 1 kl Z) Z (zj (qm jx Z Z Z Z) Z (ze (zb hN Z (za (zq Yh Z) (zm (zv tyS9 Z Z) Z (bE H fun r9 h10 H=>za (zk (y2i x6.Name r9 h10) ⟨.inl Z,U⟩) (za (yy Z) (zf _ Z (fun h11 => ?_) (fun h11 => ?_)))))))))))))))
   ·refine tE h11 H fun H=>zb hN Z (qe Z (zi ?_))
    replace H:=retl H hq4
    cases H
    exact ⟨U,.inl Z,U⟩
   ·refine fE h11 H fun H=>zl (zb hN Z (za (zq z0i Z) (zm (zv tyS9 Z Z) Z (bE H fun r12 h13 H=>za (zk (x1y x6.Value r12 h13) ⟨.inl Z,U⟩) (za (yy Z) (zf _ Z (fun h14 => ?_) (fun h14 => ?_)))))))
    ·refine tE h14 H fun H=>zb hN Z (qe Z (zi ?_))
     replace H:=retl H hq4
     cases H
     exact ⟨U,.inl Z,U⟩
    ·exact fE h14 H fun H=>zl (zn hN Z (za (qo Z Z (by omega)) (qd Z ⟨_,yx H,⟨Z,Z,Z,U⟩,U⟩)))
theorem y2j (r1:zw) (r:(Int)) (H:kq r1=some r):Fn Tryz.prog 42 [vagg (qs r1)] (zu [vint r]):=by
 refine ⟨by kernel_rfl,yg (us:=[vint r]) Tryz.func42 Z Z Z Z fun X hN => ?_⟩
 unfold kq at H
 refine zb hN Z (zj (we 1 Z) Z (qe Z (ze (zb hN Z (za (zq y8w Z) (zm (zv tyS3 Z Z) Z (bE H fun r2 h3 H=>za (zk (y2k r1.At r2 h3) ⟨.inl Z,U⟩) (za (yy Z) (zf _ Z (fun h4 => ?_) (fun h4 => ?_))))))))))
 ·refine tE h4 H fun H=>zb hN Z (qe Z (zi ?_))
  cases H
  exact ⟨U,.inl Z,U⟩
 ·refine fE h4 H fun H=>zl (ze (zb hN Z (za (zq uc Z) (zm (zv tyS9 Z Z) Z (bE H fun r5 h6 H=>za (zk (y2i r1.Method r5 h6) ⟨.inl Z,U⟩) (za (yy Z) (zf _ Z (fun h7 => ?_) (fun h7 => ?_))))))))
  ·refine tE h7 H fun H=>zb hN Z (qe Z (zi ?_))
   cases H
   exact ⟨U,.inl Z,U⟩
  ·refine fE h7 H fun H=>zl (ze (yb (ι:=Bool) (fun i=>[(1,.ptr 1 0),(33,.dat (zh i))]) (fun i=>[(1,.box none 28 [.dat (vint r1.At),.dat (vstr r1.Method),.dat (vstr r1.Host),.dat (vstr r1.Path),.dat (vstr r1.Query),.dat (vstr r1.From),.dat (vlst (List.map yd r1.Headers)),.dat (vstr r1.Body)])]) (fun i=>Zo r1 i=some r) (fun i=>Z) ?_ ?_))
   ·skip
    refine zn hN Z (za (zq ur Z) (zm (zv tyS9 Z Z) Z (bE H fun r8 h9 H=>za (zk (x1t r1.Host r8 h9) ⟨.inl Z,U⟩) (za (yy Z) (qd Z (yi (j:=4) Z Z (fun h10 => ?_) (fun h10 => ?_) Z))))))
    ·refine u3 h10 H fun h11 H=>zg Z Z h10 (zq uq Z) (jr Z Z h10 (zv tyS9 Z Z) Z (bE H fun r12 h13 H=>zg Z Z h10 (zk (x1x r1.Path r12 h13) ⟨.inl Z,U⟩) (zg Z Z h10 (qj Z Z) (za (ye Z (bFF h11) Z) (qd Z (yi (j:=10) Z Z (fun h14 => ?_) (fun h14 => ?_) Z))))))
     ·refine u3 h14 H fun h15 H=>zg Z Z h14 (zq uo Z) (jr Z Z h14 (zv tyS9 Z Z) Z (bE H fun r16 h17 H=>zg Z Z h14 (zk (x1q r1.Query r16 h17) ⟨.inl Z,U⟩) (zg Z Z h14 (qj Z Z) (za (ye Z (bFF h15) Z) (qd Z (yi (j:=16) Z Z (fun h18 => ?_) (fun h18 => ?_) Z))))))
      ·exact u3 h18 H fun h19 H=>zg Z Z h18 (zq y8v Z) (jr Z Z h18 (zv tyS9 Z Z) Z (bE H fun r20 h21 H=>zg Z Z h18 (zk (x1y r1.From r20 h21) ⟨.inl Z,U⟩) (zg Z Z h18 (yy Z) (za (ye Z (bFF h19) Z) ⟨!r20,H,⟨Z,Z,U⟩,⟨Z,U⟩⟩))))
      ·exact u4 h18 H fun h22 H=>zc Z Z h18 (zc Z Z h18 (zc Z Z h18 (zc Z Z h18 (za (yh Z (bTT h22) Z) ⟨true,H,⟨Z,Z,U⟩,⟨Z,U⟩⟩))))
     ·exact u4 h14 H fun h23 H=>zc Z Z h14 (zc Z Z h14 (zc Z Z h14 (zc Z Z h14 (za (yh Z (bTT h23) Z) (qd Z (zc Z Z Z (zc Z Z Z (zc Z Z Z (zc Z Z Z (za (yh Z Z Z) ⟨true,H,⟨Z,Z,U⟩,⟨Z,U⟩⟩))))))))))
    ·exact u4 h10 H fun h24 H=>zc Z Z h10 (zc Z Z h10 (zc Z Z h10 (zc Z Z h10 (za (yh Z (bTT h24) Z) (qd Z (zc Z Z Z (zc Z Z Z (zc Z Z Z (zc Z Z Z (za (yh Z Z Z) (qd Z (zc Z Z Z (zc Z Z Z (zc Z Z Z (zc Z Z Z (za (yh Z Z Z) ⟨true,H,⟨Z,Z,U⟩,⟨Z,U⟩⟩))))))))))))))))
   ·rintro v25 H
    replace H:Zo r1 v25=some r:=H
    unfold Zo at H
    refine zf _ Z (fun h26 => ?_) (fun h26 => ?_)
    ·refine tE h26 H fun H=>zb hN Z (qe Z (zi ?_))
     cases H
     exact ⟨U,.inl Z,U⟩
    ·refine fE h26 H fun H=>zl (ze (zb hN Z (za (zq vz Z) (zm (zv wu Z Z) Z (bE H fun r27 h28 H=>za (zk (x2a r1.Headers r27 h28) ⟨.inl Z,U⟩) (qe Z (zb hN Z (qd Z (za (qj Z Z) (zf _ Z (fun h29 => ?_) (fun h29 => ?_)))))))))))
     ·refine tE h29 H fun H=>zb hN Z (qd Z (qe Z (zi ?_)))
      cases H
      exact ⟨U,.inl Z,U⟩
     ·refine fE h29 H fun H=>zl (ze (zb hN Z (za (zq y8u Z) (zm (zv tyS9 Z Z) Z (za (yz tyU9 Z) (za (wg Z Z) (zf _ Z (fun h30 => ?_) (fun h30 => ?_))))))))
      ·refine tE h30 H fun H=>zb hN Z (qe Z (zi ?_))
       cases H
       exact ⟨U,.inl Z,U⟩
      ·refine fE h30 H fun H=>zl (zb hN Z (qe Z (zi ?_)))
       cases H
       exact ⟨U,.inl Z,U⟩
theorem x1z (a1:yu) (r:(Int)) (H:Zs a1=some r):Fn Tryz.prog 43 [vagg (Zg a1)] (zu [vint r]):=by
 refine ⟨by kernel_rfl,yg (us:=[vint r]) Tryz.func43 Z Z Z Z fun X hN => ?_⟩
 unfold Zs at H
 refine zb hN Z (zj (we 1 Z) Z (qe Z (ze (zb hN Z (za (zq y38 Z) (zm (zv tyS3 Z Z) Z (bE H fun r2 h3 H=>za (zk (y6f a1.Status 100 599 r2 h3) ⟨.inl Z,.inl Z,.inl Z,U⟩) (zf _ Z (fun h4 => ?_) (fun h4 => ?_)))))))))
 ·refine tE h4 H fun H=>zb hN Z (qe Z (zi ?_))
  cases H
  exact ⟨U,.inl Z,U⟩
 ·refine fE h4 H fun H=>zl (ze (zb hN Z (za (zq xt Z) (zm (zv wu Z Z) Z (bE H fun r5 h6 H=>za (zk (x2a a1.Headers r5 h6) ⟨.inl Z,U⟩) (qe Z (zb hN Z (qd Z (za (qj Z Z) (zf _ Z (fun h7 => ?_) (fun h7 => ?_)))))))))))
  ·refine tE h7 H fun H=>zb hN Z (qd Z (qe Z (zi ?_)))
   cases H
   exact ⟨U,.inl Z,U⟩
  ·refine fE h7 H fun H=>zl (ze (zb hN Z (za (zq y0l Z) (zm (zv tyS9 Z Z) Z (za (yz tyU9 Z) (za (wg Z Z) (zf _ Z (fun h8 => ?_) (fun h8 => ?_))))))))
   ·refine tE h8 H fun H=>zb hN Z (qe Z (zi ?_))
    cases H
    exact ⟨U,.inl Z,U⟩
   ·refine fE h8 H fun H=>zl (zb hN Z (qe Z (zi ?_)))
    cases H
    exact ⟨U,.inl Z,U⟩
theorem w1p (s1:Bs) (r:(Bool)) (H:z8c s1=some r):Fn Tryz.prog 84 [vstr s1] (zu [zh r]):=by
 refine ⟨by kernel_rfl,yg (us:=[zh r]) Tryz.func84 Z Z Z Z fun X hN => ?_⟩
 unfold z8c at H
 refine zb hN Z (qe Z (ze (zb hN Z (qe Z (zx (gE H fun h4 H=>qv (fun (i2:Nat) (s:Unit)=>[(0,.dat (vstr s1)),(3,.dat (vint (i2:Int)))]) (fun (i2:Nat) (s:Unit)=>[]) () H ⟨Z,Z,U⟩ U (fun _ _=>Z) ?_ ?_))))))
 ·rintro ⟨⟩ H
  replace H:y59 s1=some r:=H
  unfold y59 at H
  refine ze (zb hN Z (qd Z (qd Z (za (yz tyU9 Z) (za (zy Z Z) (zf _ Z (fun h=>(lt_t h).elim) (fun h => ?_)))))))
  refine yr (zb hN Z (qd Z (za (ja Z Z) (qd Z (wd Z Z (fun hc=>zd (.dat _) Z) (wd Z Z (fun hc=>yz tyU9 (cnd (c:=(decide (s1≠[]))) hc)) (wd Z Z (fun hc=>wy (cnd (c:=(decide (s1≠[]))) hc) Z) (za (vd Z (fun hb=>(cnd (c:=(decide (s1≠[]))) hb)) Z) (qe Z (zi ?_))))))))))
  cases H
  exact ⟨U,.inl Z,U⟩
 ·rintro i2 x5 ⟨⟩ q3 h6 h7 H hq3
  replace H:y2d i2 x5=some q3:=H
  unfold y2d at H
  refine ze (zb hN Z (qd Z (qd Z (za (yz tyU9 Z) (za (zy Z Z) (zf _ Z (fun h => ?_) (fun h=>(lt_f h6 h).elim)))))))
  refine zl (ze (zx (zb hN Z (qd Z (qd Z (za (wb tyU9 Z Z h7) (qe Z (zb hN Z (qd Z (za (wz Z Z) (qd Z (wd Z Z (fun hc=>zd (.dat _) Z) (wd Z Z (fun hc=>wy (cnd (c:=(decide (97≤(x5.toNat:Int)))) hc) Z) (za (vd Z (fun hb=>(cnd (c:=(decide (97≤(x5.toNat:Int)))) hb)) Z) (qd Z (yl Z Z (fun hc=>zd (.dat _) Z) (yl Z Z (fun hc=>wg (cnd (c:=(!((decide (97≤(x5.toNat:Int))) && (decide ((x5.toNat:Int)≤122))))) hc) Z) (yl Z Z (fun hc=>zd (.dat _) (cnd (c:=(!((decide (97≤(x5.toNat:Int))) && (decide ((x5.toNat:Int)≤122))))) hc)) (wl Z Z (fun hc=>zd (.dat _) Z) (wl Z Z (fun hc=>wz (cnd (c:=((!((decide (97≤(x5.toNat:Int))) && (decide ((x5.toNat:Int)≤122)))) && (decide (0 < (i2:Int))))) hc) Z) (wl Z Z (fun hc=>zd (.dat _) (cnd (c:=((!((decide (97≤(x5.toNat:Int))) && (decide ((x5.toNat:Int)≤122)))) && (decide (0 < (i2:Int))))) hc)) (wl Z Z (fun hc=>zd (.dat _) Z) (wl Z Z (fun hc=>wy (cnd (c:=(((!((decide (97≤(x5.toNat:Int))) && (decide ((x5.toNat:Int)≤122)))) && (decide (0 < (i2:Int)))) && (decide (48≤(x5.toNat:Int))))) hc) Z) ?_)))))))))))))))))))))))
  refine wl Z Z (fun hc=>vd (cnd (c:=((!((decide (97≤(x5.toNat:Int))) && (decide ((x5.toNat:Int)≤122)))) && (decide (0 < (i2:Int))))) hc) (fun hb=>(cnd (c:=(((!((decide (97≤(x5.toNat:Int))) && (decide ((x5.toNat:Int)≤122)))) && (decide (0 < (i2:Int)))) && (decide (48≤(x5.toNat:Int))))) (andI hc hb))) Z) (wl Z Z (fun hc=>zd (.dat _) (cnd (c:=((!((decide (97≤(x5.toNat:Int))) && (decide ((x5.toNat:Int)≤122)))) && (decide (0 < (i2:Int))))) hc)) (z3h Z Z (fun hc=>zd (.dat _) Z) (z3h Z Z (fun hc=>ql (cnd (c:=(((!((decide (97≤(x5.toNat:Int))) && (decide ((x5.toNat:Int)≤122)))) && (decide (0 < (i2:Int)))) && !((decide (48≤(x5.toNat:Int))) && (decide ((x5.toNat:Int)≤57))))) hc) Z) (wl Z Z (fun hc=>ww (cnd (c:=((!((decide (97≤(x5.toNat:Int))) && (decide ((x5.toNat:Int)≤122)))) && (decide (0 < (i2:Int))))) hc) Z (fun hb=>(cnd (c:=(((!((decide (97≤(x5.toNat:Int))) && (decide ((x5.toNat:Int)≤122)))) && (decide (0 < (i2:Int)))) && !((decide (48≤(x5.toNat:Int))) && (decide ((x5.toNat:Int)≤57))))) (andI hc (notI hb))))) (wl Z Z (fun hc=>zd (.dat _) (cnd (c:=((!((decide (97≤(x5.toNat:Int))) && (decide ((x5.toNat:Int)≤122)))) && (decide (0 < (i2:Int))))) hc)) (z3h Z Z (fun hc=>zd (.dat _) Z) (z3h Z Z (fun hc=>ql (cnd (c:=(((!((decide (97≤(x5.toNat:Int))) && (decide ((x5.toNat:Int)≤122)))) && (decide (0 < (i2:Int)))) && !(((decide (48≤(x5.toNat:Int))) && (decide ((x5.toNat:Int)≤57))) || (decide ((x5.toNat:Int)=45))))) hc) Z) (wl Z Z (fun hc=>ww (cnd (c:=((!((decide (97≤(x5.toNat:Int))) && (decide ((x5.toNat:Int)≤122)))) && (decide (0 < (i2:Int))))) hc) Z (fun hb=>(cnd (c:=(((!((decide (97≤(x5.toNat:Int))) && (decide ((x5.toNat:Int)≤122)))) && (decide (0 < (i2:Int)))) && !(((decide (48≤(x5.toNat:Int))) && (decide ((x5.toNat:Int)≤57))) || (decide ((x5.toNat:Int)=45))))) (andI hc (notI hb))))) (yl Z Z (fun hc=>vd (cnd (c:=(!((decide (97≤(x5.toNat:Int))) && (decide ((x5.toNat:Int)≤122))))) hc) (fun hb=>(cnd (c:=((!((decide (97≤(x5.toNat:Int))) && (decide ((x5.toNat:Int)≤122)))) && (decide (0 < (i2:Int))))) (andI hc hb))) Z) (za (ww Z Z (fun hb=>(cnd (c:=(!((decide (97≤(x5.toNat:Int))) && (decide ((x5.toNat:Int)≤122))))) (notI hb)))) (za (yy Z) (zf _ Z (fun h8 => ?_) (fun h8 => ?_)))))))))))))
  ·refine tE h8 H fun H=>zb hN Z (qe Z (zi ?_))
   replace H:=retl H hq3
   cases H
   exact ⟨U,.inl Z,U⟩
  ·exact fE h8 H fun H=>zl (zn hN Z (qd Z (za (qo Z Z (by omega)) (qe Z ⟨_,yx H,⟨Z,Z,U⟩,U⟩))))
theorem w1m (l1:(List Bs)) (r:(Int)) (H:y13 l1=some r):Fn Tryz.prog 45 [vlst (List.map zp l1)] (zu [vint r]):=by
 refine ⟨by kernel_rfl,yg (us:=[vint r]) Tryz.func45 Z Z Z Z fun X hN => ?_⟩
 unfold y13 at H
 refine zb hN Z (qe Z (ze (zb hN Z (qd Z (za (qi wt Z) (qd Z (zx (gE H fun h4 H=>qv (fun (k2:Nat) (s:Unit)=>[(0,.dat (vlst (List.map zp l1))),(5,.dat (vlst (List.map zp l1))),(6,.dat (vint (l1.length:Int))),(7,.dat (vint (k2:Int)))]) (fun (k2:Nat) (s:Unit)=>[]) () H ⟨Z,Z,Z,Z,U⟩ U (fun _ _=>Z) ?_ ?_))))))))
 ·rintro ⟨⟩ H
  replace H:y2c=some r:=H
  unfold y2c at H
  refine zb hN Z (za (zy Z Z) (ze (zf _ Z (fun h=>(lt_t h).elim) (fun h => ?_))))
  refine yr (zb hN Z (qe Z (zi ?_)))
  cases H
  exact ⟨U,.inl Z,U⟩
 ·rintro k2 x5 ⟨⟩ q3 h6 h7 H hq3
  replace H:z4x l1 k2 x5=some q3:=H
  unfold z4x at H
  refine zb hN Z (za (zy Z Z) (ze (zf _ Z (fun h => ?_) (fun h=>(lt_f h6 h).elim))))
  refine zl (ze (zx (zb hN Z (qd Z (za (wc vn (fun _=>Z) Z Z h7) (za (qz tyS9 Z (qk h7) Z) (qe Z (qe Z (ze (zb hN Z (qd Z (bE H fun r8 h9 H=>za (zk (w1p x5 r8 h9) ⟨.inl Z,U⟩) (za (yy Z) (zf _ Z (fun h10 => ?_) (fun h10 => ?_)))))))))))))))
  ·refine tE h10 H fun H=>zb hN Z (qe Z (zi ?_))
   replace H:=retl H hq3
   cases H
   exact ⟨U,.inl Z,U⟩
  ·refine fE h10 H fun H=>zl (yb (ι:=Bool) (fun i=>[(0,.dat (vlst (List.map zp l1))),(5,.dat (vlst (List.map zp l1))),(6,.dat (vint (l1.length:Int))),(7,.dat (vint (k2:Int))),(25,.dat (zh i))]) (fun i=>[]) (fun i=>z4y i=some q3) (fun i=>Z) ?_ ?_)
   ·skip
    refine zn hN Z (qd Z (za (wg Z Z) (qd Z (yi (j:=2) Z Z (fun h11 => ?_) (fun h11 => ?_) Z))))
    ·exact u1 h11 H fun h12 H=>zg Z Z h11 (zd (.dat _) Z) (zg Z Z h11 (zd (.dat _) Z) (zg Z Z h11 (zd (.dat _) Z) (zg Z Z h11 (y0v Z Z (by omega)) (bE H fun x13 h14 H=>zg Z Z h11 (uu vn (fun _=>Z) Z Z h14) (zg Z Z h11 (qz tyS9 Z (qk (vq h14).2) Z) (zg Z Z h11 (y9f Z Z) (za (yh Z (bTT h12) Z) ⟨(Op.bytesLess x5 x13 || x5 == x13),H,⟨Z,Z,Z,Z,Z,U⟩,U⟩)))))))
    ·exact u2 h11 H fun h15 H=>zc Z Z h11 (zc Z Z h11 (zc Z Z h11 (zc Z Z h11 (zc Z Z h11 (zc Z Z h11 (zc Z Z h11 (za (ye Z (bFF h15) Z) ⟨false,H,⟨Z,Z,Z,Z,Z,U⟩,U⟩)))))))
   ·rintro v16 H
    replace H:z4y v16=some q3:=H
    unfold z4y at H
    refine zf _ Z (fun h17 => ?_) (fun h17 => ?_)
    ·refine tE h17 H fun H=>zb hN Z (qe Z (zi ?_))
     replace H:=retl H hq3
     cases H
     exact ⟨U,.inl Z,U⟩
    ·exact fE h17 H fun H=>zl (zn hN Z (za (qo Z Z (by omega)) (qd Z ⟨_,yx H,⟨Z,Z,Z,Z,U⟩,U⟩)))
theorem w03 (s t:Bs) (r:Bool) (H:y1z s t=some r):Fn Tryz.prog 175 [vstr s,vstr t] (zu [zh r]):=by
 unfold y1z at H
 obtain ⟨⟨h1,h2,h3⟩,h4⟩:=gif H
 cases h4
 refine Ze (by kernel_rfl) fun M w vs hM h => ?_
 have hv:=kk (us:=[.string ⟨s.toArray⟩,.string ⟨t.toArray⟩]) h
 subst hv
 refine (Tryz.strings_EqualFold ⟨s.toArray⟩ ⟨t.toArray⟩ w (by simp [ByteArray.size]; omega) (fun j b hb=>z6s h2 j b (by simpa using hb)) (fun j b hb=>z6s h3 j b (by simpa using hb))).mono ?_
 rintro e w' ⟨rfl,rfl⟩
 exact ⟨_,Z,Z,Kp.refl _ _⟩

theorem w1b (h1:zt) (name2:Bs) (r:(Bool)) (H:z74 h1 name2=some r):Fn Tryz.prog 125 [vagg (yd h1),vstr name2] (zu [zh r]):=by
 refine ⟨by kernel_rfl,yg (us:=[zh r]) Tryz.func125 Z Z Z Z fun X hN => ?_⟩
 unfold z74 at H
 refine zb hN Z (zj (we 1 Z) Z (qe Z (zb hN Z (za (zq Yh Z) (zm (zv tyS9 Z Z) Z (qd Z (bE H fun r3 h4 H=>za (zk (w03 h1.Name name2 r3 h4) ⟨.inl Z,.inl Z,U⟩) (qe Z (zi ?_)))))))))
 cases H
 exact ⟨U,.inl Z,U⟩
theorem z84 (l1:(List zt)) (name2:Bs) (r:((List Bs))) (H:ux l1 name2=some r):Fn Tryz.prog 69 [vlst (List.map yd l1),vstr name2] (zu [vlst (List.map zp r)]):=by
 refine ⟨by kernel_rfl,yg (us:=[vlst (List.map zp r)]) Tryz.func69 Z Z Z Z fun X hN => ?_⟩
 unfold ux at H
 refine zb hN Z (qe Z (zb hN Z (qe Z (ze (zb hN Z (qd Z (za (qi xc Z) (qd Z (zx (vp 5 1 9 1 Z Z Z (gE H fun h6 H=>qv (fun (k4:Nat) (s:(List Bs))=>[(1,.dat (vstr name2)),(5,.row 1 s.length),(8,.dat (vlst (List.map yd l1))),(9,.dat (vint (l1.length:Int))),(10,.dat (vint (k4:Int)))]) (fun (k4:Nat) (s:(List Bs))=>[(1,.row 9 1 (List.map zp s))]) [] H ⟨Z,Z,Z,Z,Z,U⟩ ⟨Z,U⟩ (fun _ _=>Z) ?_ ?_)))))))))))
 ·rintro l3 H
  replace H:y1q l3=some r:=H
  unfold y1q at H
  refine zb hN Z (za (zy Z Z) (ze (zf _ Z (fun h=>(lt_t h).elim) (fun h => ?_))))
  refine yr (zb hN Z (za (zd (.row _ _) Z) (za (qr (.row _ _) Z) (zi ?_))))
  cases H
  exact ⟨U,z0l Z Z,U⟩
 ·rintro k4 x7 l3 q5 h8 h9 H hq5
  replace H:z00 name2 k4 x7 l3=some q5:=H
  unfold z00 at H
  refine zb hN Z (za (zy Z Z) (ze (zf _ Z (fun h => ?_) (fun h=>(lt_f h8 h).elim))))
  refine zl (yb (ι:=(List Bs)) (fun i=>[(1,.dat (vstr name2)),(5,.row 1 i.length),(8,.dat (vlst (List.map yd l1))),(9,.dat (vint (l1.length:Int))),(10,.dat (vint (k4:Int)))]) (fun i=>[(1,.row 9 1 (List.map zp i))]) (fun i=>z3o i=some q5) (fun i=>Z) ?_ ?_)
  ·skip
   refine zx (zb hN Z (za (wc Yi (fun _=>Z) Z Z h9) (za (kh jx Z (qk h9) Z) (zj (qu 2 kl Z) Z (zj (qm jx Z Z Z Z) Z (zb hN Z (zm (yq jx Z Z Z) Z (qd Z (bE H fun r10 h11 H=>za (zk (w1b x7 name2 r10 h11) ⟨.inl Z,.inl Z,U⟩) (zf _ Z (fun h12 => ?_) (fun h12 => ?_)))))))))))
   ·refine tE h12 H fun H=>zn hN Z (za (zd (.row _ _) Z) (za (zq z0i Z) (zm (zv tyS9 Z Z) Z (za (ya (u':=vlst (List.map zp [x7.Value])) (yo [[_]] qf ⟨Z,.inl ⟨_,Z,Z,Z⟩,Z,U⟩ Z Z) Z) (gE H fun h13 H=>zj (va qf (fun _=>Z) Z Z Z ⟨by simp,by first | (simp; done) | simpa using h13⟩ Z) Z ?_)))))
    exact za (qr (.row _ _) Z) ⟨(l3++[x7.Value]),H,⟨Z,Z,Z,Z,Z,U⟩,⟨Z,U⟩⟩
   ·exact fE h12 H fun H=>zl ⟨l3,H,⟨Z,Z,Z,Z,Z,U⟩,⟨Z,U⟩⟩
  ·rintro out14 H
   replace H:z3o out14=some q5:=H
   unfold z3o at H
   exact zn hN Z (za (qo Z Z (by omega)) (qd Z ⟨_,yx H,⟨Z,Z,Z,Z,Z,U⟩,⟨Z,U⟩⟩))
theorem w1f (values1:(List Bs)) (r:((List Bs))) (H:Wc values1=some r):Fn Tryz.prog 85 [vlst (List.map zp values1)] (zu [vlst (List.map zp r)]):=by
 refine ⟨by kernel_rfl,yg (us:=[vlst (List.map zp r)]) Tryz.func85 Z Z Z Z fun X hN => ?_⟩
 unfold Wc at H
 refine zb hN Z (qe Z (zb hN Z (qe Z (ze (zb hN Z (qd Z (za (qi wt Z) (qd Z (zx (vp 3 1 9 1 Z Z Z (gE H fun h5 H=>qv (fun (k3:Nat) (s:(List Bs))=>[(3,.row 1 s.length),(8,.dat (vlst (List.map zp values1))),(9,.dat (vint (values1.length:Int))),(10,.dat (vint (k3:Int)))]) (fun (k3:Nat) (s:(List Bs))=>[(1,.row 9 1 (List.map zp s))]) [] H ⟨Z,Z,Z,Z,U⟩ ⟨Z,U⟩ (fun _ _=>Z) ?_ ?_)))))))))))
 ·rintro l2 H
  replace H:z3q l2=some r:=H
  unfold z3q at H
  refine zb hN Z (za (zy Z Z) (ze (zf _ Z (fun h=>(lt_t h).elim) (fun h => ?_))))
  refine yr (zb hN Z (za (zd (.row _ _) Z) (za (qr (.row _ _) Z) (zi ?_))))
  cases H
  exact ⟨U,z0l Z Z,U⟩
 ·rintro k3 x6 l2 q4 h7 h8 H hq4
  replace H:Yn k3 x6 l2=some q4:=H
  unfold Yn at H
  refine zb hN Z (za (zy Z Z) (ze (zf _ Z (fun h => ?_) (fun h=>(lt_f h7 h).elim))))
  refine zl (ze (zx (zb hN Z (za (wc vn (fun _=>Z) Z Z h8) (za (qz tyS9 Z (qk h8) Z) (qe Z (zb hN Z (qd Z (bE H fun r9 h10 H=>za (zk (Yx x6 [44] r9 h10) ⟨.inl Z,.inl Z,U⟩) (za (qi wt Z) (qd Z (zx (gE H fun h14 H=>qv (fun (k12:Nat) (s:(List Bs))=>[(3,.row 1 s.length),(8,.dat (vlst (List.map zp values1))),(9,.dat (vint (values1.length:Int))),(10,.dat (vint (k3:Int))),(15,.dat (vlst (List.map zp r9))),(16,.dat (vint (r9.length:Int))),(17,.dat (vint (k12:Int)))]) (fun (k12:Nat) (s:(List Bs))=>[(1,.row 9 1 (List.map zp s))]) l2 H ⟨Z,Z,Z,Z,Z,Z,Z,U⟩ ⟨Z,U⟩ (fun _ _=>Z) ?_ ?_)))))))))))))
  ·rintro l11 H
   replace H:z3p l11=some q4:=H
   unfold z3p at H
   refine zb hN Z (za (zy Z Z) (ze (zf _ Z (fun h=>(lt_t h).elim) (fun h => ?_))))
   exact yr (zn hN Z (za (qo Z Z (by omega)) (qd Z ⟨_,yx H,⟨Z,Z,Z,Z,U⟩,⟨Z,U⟩⟩)))
  ·rintro k12 x15 l11 q13 h16 h17 H hq13
   replace H:Ym k12 x15 l11=some q13:=H
   unfold Ym at H
   refine zb hN Z (za (zy Z Z) (ze (zf _ Z (fun h => ?_) (fun h=>(lt_f h16 h).elim))))
   refine zl (yb (ι:=(List Bs)) (fun i=>[(3,.row 1 i.length),(8,.dat (vlst (List.map zp values1))),(9,.dat (vint (values1.length:Int))),(10,.dat (vint (k3:Int))),(15,.dat (vlst (List.map zp r9))),(16,.dat (vint (r9.length:Int))),(17,.dat (vint (k12:Int)))]) (fun i=>[(1,.row 9 1 (List.map zp i))]) (fun i=>Yo i=some q13) (fun i=>Z) ?_ ?_)
   ·skip
    refine zx (zb hN Z (za (wc vn (fun _=>Z) Z Z h17) (za (qz tyS9 Z (qk h17) Z) (qe Z (zb hN Z (qd Z (bE H fun r18 h19 H=>za (zk (z40 x15 [32] r18 h19) ⟨.inl Z,.inl Z,U⟩) (qe Z (zb hN Z (qd Z (za (ja Z Z) (zf _ Z (fun h20 => ?_) (fun h20 => ?_)))))))))))))
    ·refine tE h20 H fun H=>zn hN Z (za (zd (.row _ _) Z) (qd Z (za (ya (u':=vlst (List.map zp [r18])) (yo [[_]] qf ⟨Z,.inl ⟨_,Z,Z,Z⟩,Z,U⟩ Z Z) Z) (gE H fun h21 H=>zj (va qf (fun _=>Z) Z Z Z ⟨by simp,by first | (simp; done) | simpa using h21⟩ Z) Z ?_))))
     exact za (qr (.row _ _) Z) ⟨(l11++[r18]),H,⟨Z,Z,Z,Z,Z,Z,Z,U⟩,⟨Z,U⟩⟩
    ·exact fE h20 H fun H=>zl ⟨l11,H,⟨Z,Z,Z,Z,Z,Z,Z,U⟩,⟨Z,U⟩⟩
   ·rintro out22 H
    replace H:Yo out22=some q13:=H
    unfold Yo at H
    exact zn hN Z (za (qo Z Z (by omega)) (qd Z ⟨_,yx H,⟨Z,Z,Z,Z,Z,Z,Z,U⟩,⟨Z,U⟩⟩))
theorem y6c (s1:(List Bs)) (v2:Bs) (r:(Int)) (H:z07 s1 v2=some r):Fn Tryz.prog 136 [vlst (List.map zp s1),vstr v2] (zu [vint r]):=by
 refine ⟨by kernel_rfl,yg (us:=[vint r]) Tryz.func136 Z Z Z Z fun X hN => ?_⟩
 unfold z07 at H
 refine zb hN Z (qe Z (ze (zb hN Z (qd Z (za (qi wt Z) (qd Z (zx (gE H fun h5 H=>qv (fun (k3:Nat) (s:Unit)=>[(0,.dat (vlst (List.map zp s1))),(1,.dat (vstr v2)),(7,.dat (vint (s1.length:Int))),(8,.dat (vint (k3:Int)))]) (fun (k3:Nat) (s:Unit)=>[]) () H ⟨Z,Z,Z,Z,U⟩ U (fun _ _=>Z) ?_ ?_))))))))
 ·rintro ⟨⟩ H
  replace H:y4y=some r:=H
  unfold y4y at H
  refine zb hN Z (za (zy Z Z) (ze (zf _ Z (fun h=>(lt_t h).elim) (fun h => ?_))))
  refine yr (zb hN Z (qe Z (zi ?_)))
  cases H
  exact ⟨U,.inl Z,U⟩
 ·rintro k3 x6 ⟨⟩ q4 h7 h8 H hq4
  replace H:y4x v2 k3 x6=some q4:=H
  unfold y4x at H
  refine zb hN Z (za (zy Z Z) (ze (zf _ Z (fun h => ?_) (fun h=>(lt_f h7 h).elim))))
  refine zl (ze (zx (zb hN Z (qd Z (qe Z (zb hN Z (qd Z (qd Z (qd Z (za (wc vn (fun _=>Z) Z Z h8) (za (qz tyS9 Z (qk h8) Z) (za (vg Z Z) (zf _ Z (fun h9 => ?_) (fun h9 => ?_))))))))))))))
  ·refine tE h9 H fun H=>zb hN Z (qd Z (qe Z (zi ?_)))
   replace H:=retl H hq4
   cases H
   exact ⟨U,.inl Z,U⟩
  ·exact fE h9 H fun H=>zl (zn hN Z (za (qo Z Z (by omega)) (qd Z ⟨_,yx H,⟨Z,Z,Z,Z,U⟩,U⟩)))
theorem w07 (s1:(List Bs)) (v2:Bs) (r:(Bool)) (H:z7z s1 v2=some r):Fn Tryz.prog 86 [vlst (List.map zp s1),vstr v2] (zu [zh r]):=by
 refine ⟨by kernel_rfl,yg (us:=[zh r]) Tryz.func86 Z Z Z Z fun X hN => ?_⟩
 unfold z7z at H
 refine zb hN Z (qe Z (zb hN Z (qd Z (qd Z (bE H fun r3 h4 H=>za (zk (y6c s1 v2 r3 h4) ⟨.inl Z,.inl Z,U⟩) (za (wz Z Z) (qe Z (zi ?_))))))))
 cases H
 exact ⟨U,.inl Z,U⟩
theorem w0m (l r:List Bs) (H:ui l=some r):FnG Tryz.prog 137 [.dat (vlst (List.map zp l))] [] (.row 900 r.length) [(900,.row 9 1 (List.map zp r))]:=by
 obtain ⟨hl,rfl⟩:=y7j H
 refine kv (by kernel_rfl) Tryz.func137 Z Z Z Z fun X A hN => ?_
 refine y7q 0 Z (fun h0 => ?_) ?_
 ·obtain rfl:=List.map_eq_nil_iff.1 h0
  refine zb hN Z (qe Z (ze (zb hN Z (qd Z (za (y4k wt Z) (zf _ Z (fun h => ?_) (fun h=>by cases h)))))))
  exact zb hN Z (qe Z (vp 2 900 9 1 Z Z Z (zi ⟨U,[(2,.row 900 0)],⟨Z,U⟩,⟨Z,U⟩,Z,.inr (.inl ⟨2,Z,Z⟩)⟩)))
 ·refine zb hN Z (qe Z (ze (zb hN Z (qd Z (za (y4l wt Z) (zf _ Z (fun h=>by cases h) (fun h => ?_)))))))
  refine zl (ze (y7p 0 (u':=vlst (List.map zp l)) Z y30 (zn hN Z (zj (y4i 900 qf) Z (qd Z (zj (y4e (C:=zp) (xs:=[]) qf (fun _=>Z) Z Z Z (by simpa using hl) Z) Z ?_))))))
  exact za (qr (.row _ _) Z) (zi ⟨U,[(2,.row 900 l.length)],⟨Z,U⟩,⟨Z,U⟩,Z,.inr (.inl ⟨2,Z,Z⟩)⟩)
theorem x1b (l r:List Bs) (H:Zp l=some r):FnG Tryz.prog 75 [.row 0 l.length] [(0,.rowA undef 9 1 (List.map zp l))] (.dat (zu [])) [(0,.rowA undef 9 1 (List.map zp r))]:=by
 obtain ⟨hl,hr⟩:=y90 H
 refine x3r (fun s:Bs=>Value.string ⟨s.toArray⟩) r l (z7a H) (by kernel_rfl) (fun _=>Z) (fun blk cap w hH hb => ?_) (fun h w => ?_)
 ·rw [hr]; exact Tryz.slices_Sort_string blk 0 cap l w hH hb (by omega)
 ·exact Tryz.slices_Sort_string_none none 0 w
theorem x1d (l r:List Bs) (H:z09 l=some r):FnG Tryz.prog 76 [.row 0 l.length] [(0,.row 9 1 (List.map zp l))] (.row 900 r.length) [(900,.row 9 1 (List.map zp r))]:=by
 obtain ⟨h1,rfl⟩:=w4i H
 exact w3q (fun s:Bs=>Value.string ⟨s.toArray⟩) [] (Lib.compact l) l (w4h l) (by kernel_rfl) (fun _=>Z) (fun blk cap w hH hc=>Tryz.slices_Compact_string blk 0 cap l w hH (by omega) hc) (fun h a cap w=>Tryz.slices_Compact_string_empty a cap w)
theorem w1n (l1:(List Bs)) (r:((List Bs))) (H:z4d l1=some r):Fn Tryz.prog 87 [vlst (List.map zp l1)] (zu [vlst (List.map zp r)]):=by
 refine ⟨by kernel_rfl,yg (us:=[vlst (List.map zp r)]) Tryz.func87 Z Z Z Z fun X hN => ?_⟩
 unfold z4d at H
 refine zb hN Z (qe Z (zb hN Z (qd Z (bE H fun r2 h3 H=>wx (rn [(900,1)]) [] [(900,_)] (w0m l1 r2 h3) ⟨Z,U⟩ ⟨.inl (.inl Z),U⟩ U Z (za (qr (.row _ _) Z) (zb hN Z (za (zd (.row _ _) Z) (bE H fun r4 h5 H=>wx (rn [(0,1)]) [(0,_,_,some _)] [] (x1b r2 r4 h5) ⟨Z,U⟩ ⟨.inl (.inl Z),U⟩ ⟨⟨⟨Z,Z,Z⟩,by simp [ue,z7a h5]⟩,U⟩ Z ?_))))))))
 refine zb hN Z (za (zd (.row _ _) Z) (bE H fun r6 h7 H=>wx (rn [(0,1),(900,2)]) [(0,_,_,none)] [(900,_)] (x1d r4 r6 h7) ⟨Z,Z,U⟩ ⟨.inl (.inl (congrArg (Slot.row 1) (z7a h5).symm)),U⟩ ⟨⟨⟨Z,Z,Z⟩,U⟩,U⟩ Z (za (qr (.row _ _) Z) (zi ?_))))
 cases H
 exact ⟨U,z0l Z Z,U⟩
theorem Yw (s:Bs) (r:Bs) (H:jw s=some r):Fn Tryz.prog 74 [vstr s] (zu [vstr r]):=by
 unfold jw at H
 obtain ⟨⟨h1,h2⟩,h3⟩:=gif H
 cases h3
 refine Ze (by kernel_rfl) fun M w vs hM h => ?_
 have hv:=kk (us:=[.string ⟨s.toArray⟩]) h
 subst hv
 refine (Tryz.strings_ToLower_ascii ⟨s.toArray⟩ w (by simp [ByteArray.size]; omega) (fun j b hb=>z6s h2 j b (by simpa using hb))).mono ?_
 rintro e w' ⟨rfl,hb⟩
 exact ⟨_,Z,Z,Kp.of_below hb⟩

theorem w0p (values1:(List Bs)) (r:((List Bs))) (H:Wc values1=some r):FnG Tryz.prog 85 [.dat (vlst (List.map zp values1))] [] (.row 1 r.length) [(1,.row 9 1 (List.map zp r))]:=by
 refine kv (by kernel_rfl) Tryz.func85 Z Z Z Z fun X A hN => ?_
 unfold Wc at H
 refine zb hN Z (qe Z (zb hN Z (qe Z (ze (zb hN Z (qd Z (za (qi wt Z) (qd Z (zx (vp 3 1 9 1 Z Z Z (gE H fun h5 H=>qv (fun (k3:Nat) (s:(List Bs))=>[(3,.row 1 s.length),(8,.dat (vlst (List.map zp values1))),(9,.dat (vint (values1.length:Int))),(10,.dat (vint (k3:Int)))]) (fun (k3:Nat) (s:(List Bs))=>[(1,.row 9 1 (List.map zp s))]) [] H ⟨Z,Z,Z,Z,U⟩ ⟨Z,U⟩ (fun _ _=>Z) ?_ ?_)))))))))))
 ·rintro l2 H
  replace H:z3q l2=some r:=H
  unfold z3q at H
  refine zb hN Z (za (zy Z Z) (ze (zf _ Z (fun h=>(lt_t h).elim) (fun h => ?_))))
  refine yr (zb hN Z (za (zd (.row _ _) Z) (za (qr (.row _ _) Z) (zi ?_))))
  cases H
  exact ⟨U,[(2,.row 1 _)],⟨Z,U⟩,⟨Z,U⟩,Z,.inr (.inl ⟨2,Z,Z⟩)⟩
 ·rintro k3 x6 l2 q4 h7 h8 H hq4
  replace H:Yn k3 x6 l2=some q4:=H
  unfold Yn at H
  refine zb hN Z (za (zy Z Z) (ze (zf _ Z (fun h => ?_) (fun h=>(lt_f h7 h).elim))))
  refine zl (ze (zx (zb hN Z (za (wc vn (fun _=>Z) Z Z h8) (za (qz tyS9 Z (qk h8) Z) (qe Z (zb hN Z (qd Z (bE H fun r9 h10 H=>za (zk (Yx x6 [44] r9 h10) ⟨.inl Z,.inl Z,U⟩) (za (qi wt Z) (qd Z (zx (gE H fun h14 H=>qv (fun (k12:Nat) (s:(List Bs))=>[(3,.row 1 s.length),(8,.dat (vlst (List.map zp values1))),(9,.dat (vint (values1.length:Int))),(10,.dat (vint (k3:Int))),(15,.dat (vlst (List.map zp r9))),(16,.dat (vint (r9.length:Int))),(17,.dat (vint (k12:Int)))]) (fun (k12:Nat) (s:(List Bs))=>[(1,.row 9 1 (List.map zp s))]) l2 H ⟨Z,Z,Z,Z,Z,Z,Z,U⟩ ⟨Z,U⟩ (fun _ _=>Z) ?_ ?_)))))))))))))
  ·rintro l11 H
   replace H:z3p l11=some q4:=H
   unfold z3p at H
   refine zb hN Z (za (zy Z Z) (ze (zf _ Z (fun h=>(lt_t h).elim) (fun h => ?_))))
   exact yr (zn hN Z (za (qo Z Z (by omega)) (qd Z ⟨_,yx H,⟨Z,Z,Z,Z,U⟩,⟨Z,U⟩⟩)))
  ·rintro k12 x15 l11 q13 h16 h17 H hq13
   replace H:Ym k12 x15 l11=some q13:=H
   unfold Ym at H
   refine zb hN Z (za (zy Z Z) (ze (zf _ Z (fun h => ?_) (fun h=>(lt_f h16 h).elim))))
   refine zl (yb (ι:=(List Bs)) (fun i=>[(3,.row 1 i.length),(8,.dat (vlst (List.map zp values1))),(9,.dat (vint (values1.length:Int))),(10,.dat (vint (k3:Int))),(15,.dat (vlst (List.map zp r9))),(16,.dat (vint (r9.length:Int))),(17,.dat (vint (k12:Int)))]) (fun i=>[(1,.row 9 1 (List.map zp i))]) (fun i=>Yo i=some q13) (fun i=>Z) ?_ ?_)
   ·skip
    refine zx (zb hN Z (za (wc vn (fun _=>Z) Z Z h17) (za (qz tyS9 Z (qk h17) Z) (qe Z (zb hN Z (qd Z (bE H fun r18 h19 H=>za (zk (z40 x15 [32] r18 h19) ⟨.inl Z,.inl Z,U⟩) (qe Z (zb hN Z (qd Z (za (ja Z Z) (zf _ Z (fun h20 => ?_) (fun h20 => ?_)))))))))))))
    ·refine tE h20 H fun H=>zn hN Z (za (zd (.row _ _) Z) (qd Z (za (ya (u':=vlst (List.map zp [r18])) (yo [[_]] qf ⟨Z,.inl ⟨_,Z,Z,Z⟩,Z,U⟩ Z Z) Z) (gE H fun h21 H=>zj (va qf (fun _=>Z) Z Z Z ⟨by simp,by first | (simp; done) | simpa using h21⟩ Z) Z ?_))))
     exact za (qr (.row _ _) Z) ⟨(l11++[r18]),H,⟨Z,Z,Z,Z,Z,Z,Z,U⟩,⟨Z,U⟩⟩
    ·exact fE h20 H fun H=>zl ⟨l11,H,⟨Z,Z,Z,Z,Z,Z,Z,U⟩,⟨Z,U⟩⟩
   ·rintro out22 H
    replace H:Yo out22=some q13:=H
    unfold Yo at H
    exact zn hN Z (za (qo Z Z (by omega)) (qd Z ⟨_,yx H,⟨Z,Z,Z,Z,Z,Z,Z,U⟩,⟨Z,U⟩⟩))
end Go.Proofs.YtmdllhcjefcggacGreatDoor
