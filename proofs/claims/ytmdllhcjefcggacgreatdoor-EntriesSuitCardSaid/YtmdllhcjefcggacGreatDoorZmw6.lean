/- Walks along the models. Printed by a program. -/
import Derived.Test.YtmdllhcjefcggacGreatDoorZmw5
namespace Go.Proofs.YtmdllhcjefcggacGreatDoor
open Go.RowKit
set_option linter.unusedVariables false
set_option maxRecDepth 100000
set_option maxHeartbeats 2000000
theorem x2e (s1:Bs) (r:(Bool)) (H:xl s1=some r):Fn Tryz.prog 50 [vstr s1] (zu [zh r]):=by
 refine ⟨by kernel_rfl,yg (us:=[zh r]) Tryz.func50 Z Z Z Z fun X hN => ?_⟩
 unfold xl at H
 refine zb hN Z (qe Z (yb (ι:=Bool) (fun i=>[(2,.dat (zh i))]) (fun i=>[]) (fun i=>Zc i=some r) (fun i=>Z) ?_ ?_))
 ·skip
  refine zn hN Z (qd Z (za (yz tyU9 Z) (za (wy Z Z) (qd Z (yi (j:=3) Z Z (fun h2 => ?_) (fun h2 => ?_) Z)))))
  ·refine u1 h2 H fun h3 H=>zg Z Z h2 (zd (.dat _) Z) (bE H fun r4 h5 H=>zg Z Z h2 (zk (y6g s1 33 r4 h5) ⟨.inl Z,.inl Z,U⟩) (za (yh Z (bTT h3) Z) (qd Z (yi (j:=7) Z Z (fun h6 => ?_) (fun h6 => ?_) Z))))
   ·exact u1 h6 H fun h7 H=>zg Z Z h6 (zd (.dat _) Z) (bE H fun r8 h9 H=>zg Z Z h6 (zk (x1i s1 [35] r8 h9) ⟨.inl Z,.inl Z,U⟩) (zg Z Z h6 (yy Z) (za (yh Z (bTT h7) Z) (qe Z ⟨!r8,H,⟨Z,U⟩,U⟩))))
   ·exact u2 h6 H fun h10 H=>zc Z Z h6 (zc Z Z h6 (zc Z Z h6 (za (ye Z (bFF h10) Z) (qe Z ⟨false,H,⟨Z,U⟩,U⟩))))
  ·exact u2 h2 H fun h11 H=>zc Z Z h2 (zc Z Z h2 (za (ye Z (bFF h11) Z) (qd Z (zc Z Z Z (zc Z Z Z (zc Z Z Z (za (ye Z Z Z) (qe Z ⟨false,H,⟨Z,U⟩,U⟩))))))))
 ·rintro v12 H
  replace H:Zc v12=some r:=H
  unfold Zc at H
  refine zi ?_
  cases H
  exact ⟨U,.inl Z,U⟩
theorem x2o (s1:Bs) (r:(Bool)) (H:z8i s1=some r):Fn Tryz.prog 51 [vstr s1] (zu [zh r]):=by
 refine ⟨by kernel_rfl,yg (us:=[zh r]) Tryz.func51 Z Z Z Z fun X hN => ?_⟩
 unfold z8i at H
 refine zb hN Z (qe Z (yb (ι:=Bool) (fun i=>[(2,.dat (zh i))]) (fun i=>[]) (fun i=>z5z i=some r) (fun i=>Z) ?_ ?_))
 ·skip
  refine zn hN Z (qd Z (za (yz tyU9 Z) (za (wy Z Z) (qd Z (yi (j:=3) Z Z (fun h2 => ?_) (fun h2 => ?_) Z)))))
  ·refine u1 h2 H fun h3 H=>zg Z Z h2 (zd (.dat _) Z) (bE H fun r4 h5 H=>zg Z Z h2 (zk (y6g s1 32 r4 h5) ⟨.inl Z,.inl Z,U⟩) (za (yh Z (bTT h3) Z) (qd Z (yi (j:=7) Z Z (fun h6 => ?_) (fun h6 => ?_) Z))))
   ·exact u1 h6 H fun h7 H=>zg Z Z h6 (zd (.dat _) Z) (bE H fun r8 h9 H=>zg Z Z h6 (zk (z40 s1 [32] r8 h9) ⟨.inl Z,.inl Z,U⟩) (zg Z Z h6 (zd (.dat _) Z) (zg Z Z h6 (vg Z Z) (za (yh Z (bTT h7) Z) (qe Z ⟨decide (r8=s1),H,⟨Z,U⟩,U⟩)))))
   ·exact u2 h6 H fun h10 H=>zc Z Z h6 (zc Z Z h6 (zc Z Z h6 (zc Z Z h6 (za (ye Z (bFF h10) Z) (qe Z ⟨false,H,⟨Z,U⟩,U⟩)))))
  ·exact u2 h2 H fun h11 H=>zc Z Z h2 (zc Z Z h2 (za (ye Z (bFF h11) Z) (qd Z (zc Z Z Z (zc Z Z Z (zc Z Z Z (zc Z Z Z (za (ye Z Z Z) (qe Z ⟨false,H,⟨Z,U⟩,U⟩)))))))))
 ·rintro v12 H
  replace H:z5z v12=some r:=H
  unfold z5z at H
  refine zi ?_
  cases H
  exact ⟨U,.inl Z,U⟩
theorem x2n (l1:(List zt)) (r:(Int)) (H:z4n l1=some r):Fn Tryz.prog 52 [vlst (List.map yd l1)] (zu [vint r]):=by
 refine ⟨by kernel_rfl,yg (us:=[vint r]) Tryz.func52 Z Z Z Z fun X hN => ?_⟩
 unfold z4n at H
 refine zb hN Z (qe Z (ze (zb hN Z (qd Z (za (qi xc Z) (za (wg Z Z) (zf _ Z (fun h2 => ?_) (fun h2 => ?_))))))))
 ·refine tE h2 H fun H=>zb hN Z (qe Z (zi ?_))
  cases H
  exact ⟨U,.inl Z,U⟩
 ·refine fE h2 H fun H=>zl (ze (zb hN Z (qd Z (za (qi xc Z) (qd Z (zx (gE H fun h5 H=>qv (fun (k3:Nat) (s:Unit)=>[(8,.dat (vlst (List.map yd l1))),(9,.dat (vint (l1.length:Int))),(10,.dat (vint (k3:Int)))]) (fun (k3:Nat) (s:Unit)=>[]) () H ⟨Z,Z,Z,U⟩ U (fun _ _=>Z) ?_ ?_)))))))
  ·rintro ⟨⟩ H
   replace H:y3a=some r:=H
   unfold y3a at H
   refine zb hN Z (za (zy Z Z) (ze (zf _ Z (fun h=>(lt_t h).elim) (fun h => ?_))))
   refine yr (zb hN Z (qe Z (zi ?_)))
   cases H
   exact ⟨U,.inl Z,U⟩
  ·rintro k3 x6 ⟨⟩ q4 h7 h8 H hq4
   replace H:y29 k3 x6=some q4:=H
   unfold y29 at H
   refine zb hN Z (za (zy Z Z) (ze (zf _ Z (fun h => ?_) (fun h=>(lt_f h7 h).elim))))
   refine zl (ze (zx (zb hN Z (za (wc Yi (fun _=>Z) Z Z h8) (za (kh jx Z (qk h8) Z) (zj (qu 1 kl Z) Z (zj (qm jx Z Z Z Z) Z (ze (zb hN Z (za (zq Yh Z) (zm (zv tyS9 Z Z) Z (bE H fun r9 h10 H=>za (zk (y6i x6.Name r9 h10) ⟨.inl Z,U⟩) (za (yy Z) (zf _ Z (fun h11 => ?_) (fun h11 => ?_)))))))))))))))
   ·refine tE h11 H fun H=>zb hN Z (qe Z (zi ?_))
    replace H:=retl H hq4
    cases H
    exact ⟨U,.inl Z,U⟩
   ·refine fE h11 H fun H=>zl (zb hN Z (za (zq z0i Z) (zm (zv tyS9 Z Z) Z (bE H fun r12 h13 H=>za (zk (x2o x6.Value r12 h13) ⟨.inl Z,U⟩) (za (yy Z) (zf _ Z (fun h14 => ?_) (fun h14 => ?_)))))))
    ·refine tE h14 H fun H=>zb hN Z (qe Z (zi ?_))
     replace H:=retl H hq4
     cases H
     exact ⟨U,.inl Z,U⟩
    ·exact fE h14 H fun H=>zl (zn hN Z (za (qo Z Z (by omega)) (qd Z ⟨_,yx H,⟨Z,Z,Z,U⟩,U⟩)))
theorem y2m (r1:zw) (r:(Int)) (H:Yu r1=some r):Fn Tryz.prog 15 [vagg (qs r1)] (zu [vint r]):=by
 refine ⟨by kernel_rfl,yg (us:=[vint r]) Tryz.func15 Z Z Z Z fun X hN => ?_⟩
 unfold Yu at H
 refine zb hN Z (zj (we 1 Z) Z (qe Z (ze (zx (zb hN Z (za (zq y8w Z) (zm (zv tyS3 Z Z) Z (bE H fun r2 h3 H=>za (zk (y2n r1.At r2 h3) ⟨.inl Z,U⟩) (za (yy Z) (qe Z (zf _ Z (fun h4 => ?_) (fun h4 => ?_))))))))))))
 ·refine tE h4 H fun H=>zb hN Z (qe Z (zi ?_))
  cases H
  exact ⟨U,.inl Z,U⟩
 ·refine fE h4 H fun H=>zb hN Z (za (zq uc Z) (zm (zv tyS9 Z Z) Z (bE H fun r5 h6 H=>za (zk (y6i r1.Method r5 h6) ⟨.inl Z,U⟩) (za (yy Z) (qe Z (zf _ Z (fun h7 => ?_) (fun h7 => ?_)))))))
  ·refine tE h7 H fun H=>zb hN Z (qe Z (zi ?_))
   cases H
   exact ⟨U,.inl Z,U⟩
  ·refine fE h7 H fun H=>zl (ze (zb hN Z (za (zq ur Z) (zm (zv tyS9 Z Z) Z (bE H fun r8 h9 H=>za (zk (x2m r1.Host r8 h9) ⟨.inl Z,U⟩) (qd Z (za (zz Z Z) (za (zz Z Z) (qe Z (qe Z (zb hN Z (qd Z (za (qj Z Z) (zf _ Z (fun h10 => ?_) (fun h10 => ?_)))))))))))))))
   ·refine tE h10 H fun H=>zb hN Z (qd Z (qe Z (zi ?_)))
    cases H
    exact ⟨U,.inl Z,U⟩
   ·refine fE h10 H fun H=>zl (ze (yb (ι:=Bool) (fun i=>[(1,.ptr 1 0),(40,.dat (zh i))]) (fun i=>[(1,.box none 28 [.dat (vint r1.At),.dat (vstr r1.Method),.dat (vstr r1.Host),.dat (vstr r1.Path),.dat (vstr r1.Query),.dat (vstr r1.From),.dat (vlst (List.map yd r1.Headers)),.dat (vstr r1.Body)])]) (fun i=>z1y r1 i=some r) (fun i=>Z) ?_ ?_))
    ·skip
     refine zn hN Z (za (zq uq Z) (zm (zv tyS9 Z Z) Z (bE H fun r11 h12 H=>za (zk (x2f r1.Path r11 h12) ⟨.inl Z,U⟩) (za (yy Z) (qd Z (yi (j:=4) Z Z (fun h13 => ?_) (fun h13 => ?_) Z))))))
     ·refine u3 h13 H fun h14 H=>zg Z Z h13 (zq uo Z) (jr Z Z h13 (zv tyS9 Z Z) Z (bE H fun r15 h16 H=>zg Z Z h13 (zk (x2e r1.Query r15 h16) ⟨.inl Z,U⟩) (zg Z Z h13 (yy Z) (za (ye Z (bFF h14) Z) (qd Z (yi (j:=10) Z Z (fun h17 => ?_) (fun h17 => ?_) Z))))))
      ·exact u3 h17 H fun h18 H=>zg Z Z h17 (zq y8v Z) (jr Z Z h17 (zv tyS9 Z Z) Z (bE H fun r19 h20 H=>zg Z Z h17 (zk (x2o r1.From r19 h20) ⟨.inl Z,U⟩) (zg Z Z h17 (yy Z) (za (ye Z (bFF h18) Z) ⟨!r19,H,⟨Z,Z,U⟩,⟨Z,U⟩⟩))))
      ·exact u4 h17 H fun h21 H=>zc Z Z h17 (zc Z Z h17 (zc Z Z h17 (zc Z Z h17 (za (yh Z (bTT h21) Z) ⟨true,H,⟨Z,Z,U⟩,⟨Z,U⟩⟩))))
     ·exact u4 h13 H fun h22 H=>zc Z Z h13 (zc Z Z h13 (zc Z Z h13 (zc Z Z h13 (za (yh Z (bTT h22) Z) (qd Z (zc Z Z Z (zc Z Z Z (zc Z Z Z (zc Z Z Z (za (yh Z Z Z) ⟨true,H,⟨Z,Z,U⟩,⟨Z,U⟩⟩))))))))))
    ·rintro v23 H
     replace H:z1y r1 v23=some r:=H
     unfold z1y at H
     refine zf _ Z (fun h24 => ?_) (fun h24 => ?_)
     ·refine tE h24 H fun H=>zb hN Z (qe Z (zi ?_))
      cases H
      exact ⟨U,.inl Z,U⟩
     ·refine fE h24 H fun H=>zl (ze (zb hN Z (za (zq vz Z) (zm (zv wu Z Z) Z (bE H fun r25 h26 H=>za (zk (x2n r1.Headers r25 h26) ⟨.inl Z,U⟩) (qe Z (zb hN Z (qd Z (za (qj Z Z) (zf _ Z (fun h27 => ?_) (fun h27 => ?_)))))))))))
      ·refine tE h27 H fun H=>zb hN Z (qd Z (qe Z (zi ?_)))
       cases H
       exact ⟨U,.inl Z,U⟩
      ·refine fE h27 H fun H=>zl (ze (zb hN Z (za (zq y8u Z) (zm (zv tyS9 Z Z) Z (za (yz tyU9 Z) (za (wg Z Z) (zf _ Z (fun h28 => ?_) (fun h28 => ?_))))))))
       ·refine tE h28 H fun H=>zb hN Z (qe Z (zi ?_))
        cases H
        exact ⟨U,.inl Z,U⟩
       ·refine fE h28 H fun H=>zl (zb hN Z (qe Z (zi ?_)))
        cases H
        exact ⟨U,.inl Z,U⟩
theorem w1x (a1:yu) (r:(Int)) (H:z4k a1=some r):Fn Tryz.prog 38 [vagg (Zg a1)] (zu [vint r]):=by
 refine ⟨by kernel_rfl,yg (us:=[vint r]) Tryz.func38 Z Z Z Z fun X hN => ?_⟩
 unfold z4k at H
 refine zb hN Z (zj (we 1 Z) Z (qe Z (ze (zb hN Z (za (zq y38 Z) (zm (zv tyS3 Z Z) Z (bE H fun r2 h3 H=>za (zk (Wt a1.Status 100 599 r2 h3) ⟨.inl Z,.inl Z,.inl Z,U⟩) (za (yy Z) (zf _ Z (fun h4 => ?_) (fun h4 => ?_))))))))))
 ·refine tE h4 H fun H=>zb hN Z (qe Z (zi ?_))
  cases H
  exact ⟨U,.inl Z,U⟩
 ·refine fE h4 H fun H=>zl (ze (zb hN Z (za (zq xt Z) (zm (zv wu Z Z) Z (bE H fun r5 h6 H=>za (zk (x2n a1.Headers r5 h6) ⟨.inl Z,U⟩) (qe Z (zb hN Z (qd Z (za (qj Z Z) (zf _ Z (fun h7 => ?_) (fun h7 => ?_)))))))))))
  ·refine tE h7 H fun H=>zb hN Z (qd Z (qe Z (zi ?_)))
   cases H
   exact ⟨U,.inl Z,U⟩
  ·refine fE h7 H fun H=>zl (ze (zb hN Z (za (zq y0l Z) (zm (zv tyS9 Z Z) Z (za (yz tyU9 Z) (za (wg Z Z) (zf _ Z (fun h8 => ?_) (fun h8 => ?_))))))))
   ·refine tE h8 H fun H=>zb hN Z (qe Z (zi ?_))
    cases H
    exact ⟨U,.inl Z,U⟩
   ·refine fE h8 H fun H=>zl (zb hN Z (qe Z (zi ?_)))
    cases H
    exact ⟨U,.inl Z,U⟩
theorem w1u (a1:Bs) (b2:Bs) (r:(Bool)) (H:z8e a1 b2=some r):Fn Tryz.prog 94 [vstr a1,vstr b2] (zu [zh r]):=by
 refine ⟨by kernel_rfl,yg (us:=[zh r]) Tryz.func94 Z Z Z Z fun X hN => ?_⟩
 unfold z8e at H
 refine zb hN Z (qe Z (zb hN Z (qd Z (bE H fun r3 h4 H=>za (zk (Yw a1 r3 h4) ⟨.inl Z,U⟩) (qd Z (bE H fun r5 h6 H=>za (zk (Yw b2 r5 h6) ⟨.inl Z,U⟩) (za (vg Z Z) (qe Z (zi ?_)))))))))
 cases H
 exact ⟨U,.inl Z,U⟩
theorem y2l (l1:(List zt)) (name2:Bs) (r:((List Bs))) (H:Zt l1 name2=some r):Fn Tryz.prog 53 [vlst (List.map yd l1),vstr name2] (zu [vlst (List.map zp r)]):=by
 refine ⟨by kernel_rfl,yg (us:=[vlst (List.map zp r)]) Tryz.func53 Z Z Z Z fun X hN => ?_⟩
 unfold Zt at H
 refine zb hN Z (qe Z (zb hN Z (qe Z (ze (zb hN Z (qd Z (za (qi xc Z) (qd Z (zx (vp 5 1 9 1 Z Z Z (gE H fun h6 H=>qv (fun (k4:Nat) (s:(List Bs))=>[(1,.dat (vstr name2)),(5,.row 1 s.length),(8,.dat (vlst (List.map yd l1))),(9,.dat (vint (l1.length:Int))),(10,.dat (vint (k4:Int)))]) (fun (k4:Nat) (s:(List Bs))=>[(1,.row 9 1 (List.map zp s))]) [] H ⟨Z,Z,Z,Z,Z,U⟩ ⟨Z,U⟩ (fun _ _=>Z) ?_ ?_)))))))))))
 ·rintro l3 H
  replace H:y24 l3=some r:=H
  unfold y24 at H
  refine zb hN Z (za (zy Z Z) (ze (zf _ Z (fun h=>(lt_t h).elim) (fun h => ?_))))
  refine yr (zb hN Z (za (zd (.row _ _) Z) (za (qr (.row _ _) Z) (zi ?_))))
  cases H
  exact ⟨U,z0l Z Z,U⟩
 ·rintro k4 x7 l3 q5 h8 h9 H hq5
  replace H:z1x name2 k4 x7 l3=some q5:=H
  unfold z1x at H
  refine zb hN Z (za (zy Z Z) (ze (zf _ Z (fun h => ?_) (fun h=>(lt_f h8 h).elim))))
  refine zl (yb (ι:=(List Bs)) (fun i=>[(1,.dat (vstr name2)),(5,.row 1 i.length),(8,.dat (vlst (List.map yd l1))),(9,.dat (vint (l1.length:Int))),(10,.dat (vint (k4:Int)))]) (fun i=>[(1,.row 9 1 (List.map zp i))]) (fun i=>z5n i=some q5) (fun i=>Z) ?_ ?_)
  ·skip
   refine zx (zb hN Z (za (wc Yi (fun _=>Z) Z Z h9) (za (kh jx Z (qk h9) Z) (zj (qu 2 kl Z) Z (zj (qm jx Z Z Z Z) Z (zb hN Z (za (zq Yh Z) (zm (zv tyS9 Z Z) Z (qd Z (bE H fun r10 h11 H=>za (zk (w1u x7.Name name2 r10 h11) ⟨.inl Z,.inl Z,U⟩) (zf _ Z (fun h12 => ?_) (fun h12 => ?_))))))))))))
   ·refine tE h12 H fun H=>zn hN Z (za (zd (.row _ _) Z) (za (zq z0i Z) (zm (zv tyS9 Z Z) Z (za (ya (u':=vlst (List.map zp [x7.Value])) (yo [[_]] qf ⟨Z,.inl ⟨_,Z,Z,Z⟩,Z,U⟩ Z Z) Z) (gE H fun h13 H=>zj (va qf (fun _=>Z) Z Z Z ⟨by simp,by first | (simp; done) | simpa using h13⟩ Z) Z ?_)))))
    exact za (qr (.row _ _) Z) ⟨(l3++[x7.Value]),H,⟨Z,Z,Z,Z,Z,U⟩,⟨Z,U⟩⟩
   ·exact fE h12 H fun H=>zl ⟨l3,H,⟨Z,Z,Z,Z,Z,U⟩,⟨Z,U⟩⟩
  ·rintro out14 H
   replace H:z5n out14=some q5:=H
   unfold z5n at H
   exact zn hN Z (za (qo Z Z (by omega)) (qd Z ⟨_,yx H,⟨Z,Z,Z,Z,Z,U⟩,⟨Z,U⟩⟩))
theorem w1t (values1:(List Bs)) (r:((List Bs))) (H:z8d values1=some r):Fn Tryz.prog 73 [vlst (List.map zp values1)] (zu [vlst (List.map zp r)]):=by
 refine ⟨by kernel_rfl,yg (us:=[vlst (List.map zp r)]) Tryz.func73 Z Z Z Z fun X hN => ?_⟩
 unfold z8d at H
 refine zb hN Z (qe Z (zb hN Z (qe Z (ze (zb hN Z (qd Z (bE H fun r2 h3 H=>za (zk (z41 values1 [44] r2 h3) ⟨.inl Z,.inl Z,U⟩) (bE H fun r4 h5 H=>za (zk (Yx r2 [44] r4 h5) ⟨.inl Z,.inl Z,U⟩) (za (qi wt Z) (qd Z (zx (vp 3 1 9 1 Z Z Z (gE H fun h9 H=>qv (fun (k7:Nat) (s:(List Bs))=>[(3,.row 1 s.length),(8,.dat (vlst (List.map zp r4))),(9,.dat (vint (r4.length:Int))),(10,.dat (vint (k7:Int)))]) (fun (k7:Nat) (s:(List Bs))=>[(1,.row 9 1 (List.map zp s))]) [] H ⟨Z,Z,Z,Z,U⟩ ⟨Z,U⟩ (fun _ _=>Z) ?_ ?_)))))))))))))
 ·rintro l6 H
  replace H:y22 l6=some r:=H
  unfold y22 at H
  refine zb hN Z (za (zy Z Z) (ze (zf _ Z (fun h=>(lt_t h).elim) (fun h => ?_))))
  refine yr (zb hN Z (za (zd (.row _ _) Z) (za (qr (.row _ _) Z) (zi ?_))))
  cases H
  exact ⟨U,z0l Z Z,U⟩
 ·rintro k7 x10 l6 q8 h11 h12 H hq8
  replace H:z1u k7 x10 l6=some q8:=H
  unfold z1u at H
  refine zb hN Z (za (zy Z Z) (ze (zf _ Z (fun h => ?_) (fun h=>(lt_f h11 h).elim))))
  refine zl (yb (ι:=(List Bs)) (fun i=>[(3,.row 1 i.length),(8,.dat (vlst (List.map zp r4))),(9,.dat (vint (r4.length:Int))),(10,.dat (vint (k7:Int)))]) (fun i=>[(1,.row 9 1 (List.map zp i))]) (fun i=>z5k i=some q8) (fun i=>Z) ?_ ?_)
  ·skip
   refine zx (zb hN Z (za (wc vn (fun _=>Z) Z Z h12) (za (qz tyS9 Z (qk h12) Z) (qe Z (zb hN Z (qd Z (bE H fun r13 h14 H=>za (zk (z40 x10 [32] r13 h14) ⟨.inl Z,.inl Z,U⟩) (qe Z (zb hN Z (qd Z (za (ja Z Z) (zf _ Z (fun h15 => ?_) (fun h15 => ?_)))))))))))))
   ·refine tE h15 H fun H=>zn hN Z (za (zd (.row _ _) Z) (qd Z (za (ya (u':=vlst (List.map zp [r13])) (yo [[_]] qf ⟨Z,.inl ⟨_,Z,Z,Z⟩,Z,U⟩ Z Z) Z) (gE H fun h16 H=>zj (va qf (fun _=>Z) Z Z Z ⟨by simp,by first | (simp; done) | simpa using h16⟩ Z) Z ?_))))
    exact za (qr (.row _ _) Z) ⟨(l6++[r13]),H,⟨Z,Z,Z,Z,U⟩,⟨Z,U⟩⟩
   ·exact fE h15 H fun H=>zl ⟨l6,H,⟨Z,Z,Z,Z,U⟩,⟨Z,U⟩⟩
  ·rintro out17 H
   replace H:z5k out17=some q8:=H
   unfold z5k at H
   exact zn hN Z (za (qo Z Z (by omega)) (qd Z ⟨_,yx H,⟨Z,Z,Z,Z,U⟩,⟨Z,U⟩⟩))
theorem x2j (a1:yu) (r:((List Bs)×Bool×Int)) (H:z4j a1=some r):Fn Tryz.prog 41 [vagg (Zg a1)] (zu [vlst (List.map zp r.1),zh r.2.1,vint r.2.2]):=by
 refine ⟨by kernel_rfl,yg (us:=[vlst (List.map zp r.1),zh r.2.1,vint r.2.2]) Tryz.func41 Z Z Z Z fun X hN => ?_⟩
 unfold z4j at H
 refine zb hN Z (zj (we 1 Z) Z (qe Z (qe Z (qe Z (zb hN Z (qe Z (zb hN Z (qe Z (ze (zb hN Z (za (zq xt Z) (zm (zv wu Z Z) Z (bE H fun r2 h3 H=>za (zk (y2l a1.Headers [118,97,114,121] r2 h3) ⟨.inl Z,.inl Z,U⟩) (bE H fun r4 h5 H=>za (zk (w1t r2 r4 h5) ⟨.inl Z,U⟩) (za (qi wt Z) (qd Z (zx (vp 5 2 9 1 Z Z Z (gE H fun h10 H=>qv (fun (k8:Nat) (s:Bool×(List Bs))=>[(5,.row 2 s.2.length),(6,.dat (zh s.1)),(12,.dat (vlst (List.map zp r4))),(13,.dat (vint (r4.length:Int))),(14,.dat (vint (k8:Int)))]) (fun (k8:Nat) (s:Bool×(List Bs))=>[(2,.row 9 1 (List.map zp s.2))]) (false,[]) H ⟨Z,Z,Z,Z,Z,U⟩ ⟨Z,U⟩ (fun _ _=>Z) ?_ ?_)))))))))))))))))))
 ·rintro ⟨all6,l7⟩ H
  replace H:z5m all6 l7=some r:=H
  unfold z5m at H
  refine zb hN Z (za (zy Z Z) (ze (zf _ Z (fun h=>(lt_t h).elim) (fun h => ?_))))
  refine yr (ze (zb hN Z (qd Z (zf _ Z (fun h12 => ?_) (fun h12 => ?_)))))
  ·refine tE h12 H fun H=>zb hN Z (qe Z (qe Z (qe Z (zi ?_))))
   cases H
   exact ⟨U,.inr ⟨Z,Z⟩,.inl Z,.inl Z,U⟩
  ·refine fE h12 H fun H=>zl (zb hN Z (za (zd (.row _ _) Z) (bE H fun r13 h14 H=>wx (rn [(0,2)]) [(0,_,_,some _)] [] (x1b l7 r13 h14) ⟨Z,U⟩ ⟨.inl (.inl Z),U⟩ ⟨⟨⟨Z,Z,Z⟩,by simp [ue,z7a h14]⟩,U⟩ Z ?_)))
   refine zb hN Z (za (zd (.row _ _) Z) (bE H fun r15 h16 H=>wx (rn [(0,2),(900,3)]) [(0,_,_,none)] [(900,_)] (x1d r13 r15 h16) ⟨Z,Z,U⟩ ⟨.inl (.inl (congrArg (Slot.row 2) (z7a h14).symm)),U⟩ ⟨⟨⟨Z,Z,Z⟩,U⟩,U⟩ Z (za (qr (.row _ _) Z) (ze (zb hN Z (za (zd (.row _ _) Z) (zm (Qp wt Z Z) Z (za (wg Z Z) (zf _ Z (fun h17 => ?_) (fun h17 => ?_))))))))))
   ·refine tE h17 H fun H=>zb hN Z (qe Z (qe Z (qe Z (zi ?_))))
    cases H
    exact ⟨U,.inr ⟨Z,Z⟩,.inl Z,.inl Z,U⟩
   ·refine fE h17 H fun H=>zl (zb hN Z (za (zd (.row _ _) Z) (za (qr (.row _ _) Z) (qe Z (qe Z (zi ?_))))))
    cases H
    exact ⟨U,z0l Z Z,.inl Z,.inl Z,U⟩
 ·rintro k8 x11 ⟨all6,l7⟩ q9 h18 h19 H hq9
  replace H:z1w k8 x11 all6 l7=some q9:=H
  unfold z1w at H
  refine zb hN Z (za (zy Z Z) (ze (zf _ Z (fun h => ?_) (fun h=>(lt_f h18 h).elim))))
  refine zl (ze (zx (zb hN Z (za (wc vn (fun _=>Z) Z Z h19) (za (qz tyS9 Z (qk h19) Z) (qe Z (ze (zb hN Z (qd Z (bE H fun r20 h21 H=>za (zk (y6i x11 r20 h21) ⟨.inl Z,U⟩) (za (yy Z) (zf _ Z (fun h22 => ?_) (fun h22 => ?_)))))))))))))
  ·refine tE h22 H fun H=>zb hN Z (qe Z (qe Z (qe Z (zi ?_))))
   replace H:=retl H hq9
   cases H
   exact ⟨U,.inr ⟨Z,Z⟩,.inl Z,.inl Z,U⟩
  ·refine fE h22 H fun H=>zl (zb hN Z (qd Z (qd Z (yl Z Z (fun hc=>zd (.dat _) Z) (yl Z Z (fun hc=>vg (cnd (c:=(!all6)) hc) Z) (za (ww Z Z (fun hb=>(cnd (c:=(!all6)) (notI hb)))) (qe Z (zn hN Z (za (zd (.row _ _) Z) (qd Z (bE H fun r23 h24 H=>za (zk (Yw x11 r23 h24) ⟨.inl Z,U⟩) (za (ya (u':=vlst (List.map zp [r23])) (yo [[_]] qf ⟨Z,.inl ⟨_,Z,Z,Z⟩,Z,U⟩ Z Z) Z) (gE H fun h25 H=>zj (va qf (fun _=>Z) Z Z Z ⟨by simp,by first | (simp; done) | simpa using h25⟩ Z) Z ?_)))))))))))))
   exact za (qr (.row _ _) Z) (zn hN Z (za (qo Z Z (by omega)) (qd Z ⟨_,yx H,⟨Z,Z,Z,Z,Z,U⟩,⟨Z,U⟩⟩)))
theorem w12 (s1:Bs) (r:(Bool)) (H:z8h s1=some r):Fn Tryz.prog 40 [vstr s1] (zu [zh r]):=by
 refine ⟨by kernel_rfl,yg (us:=[zh r]) Tryz.func40 Z Z Z Z fun X hN => ?_⟩
 unfold z8h at H
 refine zb hN Z (qe Z (yb (ι:=Bool) (fun i=>[(2,.dat (zh i))]) (fun i=>[]) (fun i=>z14 i=some r) (fun i=>Z) ?_ ?_))
 ·skip
  refine zn hN Z (qd Z (za (yz tyU9 Z) (bE H fun r2 h3 H=>za (zk (Wt (s1.length:Int) 1 40 r2 h3) ⟨.inl Z,.inl Z,.inl Z,U⟩) (qd Z (yi (j:=3) Z Z (fun h4 => ?_) (fun h4 => ?_) Z)))))
  ·refine u1 h4 H fun h5 H=>zg Z Z h4 (zd (.dat _) Z) (bE H fun l6 h7 H=>zg Z Z h4 (vy tyU9 Z Z Z h7) (bE H fun r8 h9 H=>zg Z Z h4 (zk (z43 l6 [97,98,99,100,101,102,103,104,105,106,107,108,109,110,111,112,113,114,115,116,117,118,119,120,121,122] r8 h9) ⟨.inl Z,.inl Z,U⟩) (za (yh Z (bTT h5) Z) (qd Z (yi (j:=8) Z Z (fun h10 => ?_) (fun h10 => ?_) Z)))))
   ·exact u1 h10 H fun h11 H=>zg Z Z h10 (zd (.dat _) Z) (bE H fun r12 h13 H=>zg Z Z h10 (zk (z43 s1 [97,98,99,100,101,102,103,104,105,106,107,108,109,110,111,112,113,114,115,116,117,118,119,120,121,122,48,49,50,51,52,53,54,55,56,57,45,95] r12 h13) ⟨.inl Z,.inl Z,U⟩) (za (yh Z (bTT h11) Z) (qe Z ⟨r12,H,⟨Z,U⟩,U⟩)))
   ·exact u2 h10 H fun h14 H=>zc Z Z h10 (zc Z Z h10 (za (ye Z (bFF h14) Z) (qe Z ⟨false,H,⟨Z,U⟩,U⟩)))
  ·exact u2 h4 H fun h15 H=>zc Z Z h4 (zc Z Z h4 (zc Z Z h4 (za (ye Z (bFF h15) Z) (qd Z (zc Z Z Z (zc Z Z Z (za (ye Z Z Z) (qe Z ⟨false,H,⟨Z,U⟩,U⟩))))))))
 ·rintro v16 H
  replace H:z14 v16=some r:=H
  unfold z14 at H
  refine zi ?_
  cases H
  exact ⟨U,.inl Z,U⟩
theorem x2p (v1:yc) (r:(Int)) (H:Wp v1=some r):Fn Tryz.prog 10 [vagg (qy v1)] (zu [vint r]):=by
 refine ⟨by kernel_rfl,yg (us:=[vint r]) Tryz.func10 Z Z Z Z fun X hN => ?_⟩
 unfold Wp at H
 refine zb hN Z (zj (we 1 Z) Z (qe Z (ze (ze (vf mixed hN Z Z (za (zq un Z) (zm (yq yp Z Z Z) Z (bE H fun r2 h3 H=>za (zk (y2m v1.Request r2 h3) ⟨.inl Z,U⟩) (za (zq um Z) (zm (yq ub Z Z Z) Z (bE H fun r4 h5 H=>za (zk (w1x v1.Response r4 h5) ⟨.inl Z,U⟩) (za (ya (u':=vlst (List.map z0f [r2,r4])) (yo [[_],[_]] z6z ⟨Z,.inl ⟨_,Z,Z,Z⟩,Z,Z,.inl ⟨_,Z,Z,Z⟩,Z,U⟩ Z Z) Z) (za (qi y8j Z) (qd Z ⟨Z,?_⟩))))))))))))))
 refine zx (gE H fun h8 H=>qv (fun (k6:Nat) (s:Unit)=>[(1,.ptr 1 0),(16,.dat (vlst (List.map z0f [r2,r4]))),(17,.dat (vint ([r2,r4].length:Int))),(18,.dat (vint (k6:Int)))]) (fun (k6:Nat) (s:Unit)=>[(1,.box none 33 [.dat (vint v1.Request.At),.dat (vstr v1.Request.Method),.dat (vstr v1.Request.Host),.dat (vstr v1.Request.Path),.dat (vstr v1.Request.Query),.dat (vstr v1.Request.From),.dat (vlst (List.map yd v1.Request.Headers)),.dat (vstr v1.Request.Body),.dat (vint v1.Response.Status),.dat (vlst (List.map yd v1.Response.Headers)),.dat (vstr v1.Response.Body),.dat (vint v1.At),.dat (vlst (List.map zp v1.Tags)),.dat (vint v1.Used)])]) () H ⟨Z,Z,Z,Z,U⟩ ⟨Z,U⟩ (fun _ _=>Z) ?_ ?_)
 ·rintro ⟨⟩ H
  replace H:z55 v1=some r:=H
  unfold z55 at H
  refine zb hN Z (za (zy Z Z) (ze (zf _ Z (fun h=>(lt_t h).elim) (fun h => ?_))))
  refine yr (ze (zx (yb (ι:=Bool) (fun i=>[(1,.ptr 1 0),(26,.dat (zh i))]) (fun i=>[(1,.box none 33 [.dat (vint v1.Request.At),.dat (vstr v1.Request.Method),.dat (vstr v1.Request.Host),.dat (vstr v1.Request.Path),.dat (vstr v1.Request.Query),.dat (vstr v1.Request.From),.dat (vlst (List.map yd v1.Request.Headers)),.dat (vstr v1.Request.Body),.dat (vint v1.Response.Status),.dat (vlst (List.map yd v1.Response.Headers)),.dat (vstr v1.Response.Body),.dat (vint v1.At),.dat (vlst (List.map zp v1.Tags)),.dat (vint v1.Used)])]) (fun i=>z0a v1 i=some r) (fun i=>Z) ?_ ?_)))
  ·skip
   refine zn hN Z (za (zq xd Z) (zm (zv tyS3 Z Z) Z (bE H fun r10 h11 H=>za (zk (y2n v1.At r10 h11) ⟨.inl Z,U⟩) (za (yy Z) (qd Z (yi (j:=4) Z Z (fun h12 => ?_) (fun h12 => ?_) Z))))))
   ·exact u3 h12 H fun h13 H=>zg Z Z h12 (zq y0k Z) (jr Z Z h12 (zv tyS3 Z Z) Z (bE H fun r14 h15 H=>zg Z Z h12 (zk (y2n v1.Used r14 h15) ⟨.inl Z,U⟩) (zg Z Z h12 (yy Z) (za (ye Z (bFF h13) Z) (qe Z ⟨!r14,H,⟨Z,Z,U⟩,⟨Z,U⟩⟩)))))
   ·exact u4 h12 H fun h16 H=>zc Z Z h12 (zc Z Z h12 (zc Z Z h12 (zc Z Z h12 (za (yh Z (bTT h16) Z) (qe Z ⟨true,H,⟨Z,Z,U⟩,⟨Z,U⟩⟩)))))
  ·rintro v17 H
   replace H:z0a v1 v17=some r:=H
   unfold z0a at H
   refine zf _ Z (fun h18 => ?_) (fun h18 => ?_)
   ·refine tE h18 H fun H=>zb hN Z (qe Z (zi ?_))
    cases H
    exact ⟨U,.inl Z,U⟩
   ·refine fE h18 H fun H=>zb hN Z (za (zq z0j Z) (zm (zv jj Z Z) Z (za (qi wt Z) (za (wg Z Z) (qe Z (zf _ Z (fun h19 => ?_) (fun h19 => ?_)))))))
    ·refine tE h19 H fun H=>zb hN Z (qe Z (zi ?_))
     cases H
     exact ⟨U,.inl Z,U⟩
    ·refine fE h19 H fun H=>zl (ze (zb hN Z (za (zq z0j Z) (zm (zv jj Z Z) Z (za (qi wt Z) (qd Z (zx (gE H fun h22 H=>qv (fun (k20:Nat) (s:Unit)=>[(1,.ptr 1 0),(43,.dat (vlst (List.map zp v1.Tags))),(44,.dat (vint (v1.Tags.length:Int))),(45,.dat (vint (k20:Int)))]) (fun (k20:Nat) (s:Unit)=>[(1,.box none 33 [.dat (vint v1.Request.At),.dat (vstr v1.Request.Method),.dat (vstr v1.Request.Host),.dat (vstr v1.Request.Path),.dat (vstr v1.Request.Query),.dat (vstr v1.Request.From),.dat (vlst (List.map yd v1.Request.Headers)),.dat (vstr v1.Request.Body),.dat (vint v1.Response.Status),.dat (vlst (List.map yd v1.Response.Headers)),.dat (vstr v1.Response.Body),.dat (vint v1.At),.dat (vlst (List.map zp v1.Tags)),.dat (vint v1.Used)])]) () H ⟨Z,Z,Z,Z,U⟩ ⟨Z,U⟩ (fun _ _=>Z) ?_ ?_))))))))
     ·rintro ⟨⟩ H
      replace H:z54 v1=some r:=H
      unfold z54 at H
      refine zb hN Z (za (zy Z Z) (ze (zf _ Z (fun h=>(lt_t h).elim) (fun h => ?_))))
      refine yr (zb hN Z (za (zq um Z) (zm (yq ub Z Z Z) Z (bE H fun r24 h25 H=>za (zk (x2j v1.Response r24 h25) ⟨.inl Z,U⟩) (qd Z (za (zz Z Z) (za (zz Z Z) (za (zz Z Z) (qe Z (qe Z (qe Z (zb hN Z (qd Z (qe Z (zi ?_)))))))))))))))
      cases H
      exact ⟨U,.inl Z,U⟩
     ·rintro k20 x23 ⟨⟩ q21 h26 h27 H hq21
      replace H:z50 v1 k20 x23=some q21:=H
      unfold z50 at H
      refine zb hN Z (za (zy Z Z) (ze (zf _ Z (fun h => ?_) (fun h=>(lt_f h26 h).elim))))
      refine zl (ze (zx (zb hN Z (qd Z (za (wc vn (fun _=>Z) Z Z h27) (za (qz tyS9 Z (qk h27) Z) (qe Z (qe Z (ze (zb hN Z (qd Z (bE H fun r28 h29 H=>za (zk (w12 x23 r28 h29) ⟨.inl Z,U⟩) (za (yy Z) (zf _ Z (fun h30 => ?_) (fun h30 => ?_)))))))))))))))
      ·refine tE h30 H fun H=>zb hN Z (qe Z (zi ?_))
       replace H:=retl H hq21
       cases H
       exact ⟨U,.inl Z,U⟩
      ·refine fE h30 H fun H=>zl (yb (ι:=Bool) (fun i=>[(1,.ptr 1 0),(43,.dat (vlst (List.map zp v1.Tags))),(44,.dat (vint (v1.Tags.length:Int))),(45,.dat (vint (k20:Int))),(64,.dat (zh i))]) (fun i=>[(1,.box none 33 [.dat (vint v1.Request.At),.dat (vstr v1.Request.Method),.dat (vstr v1.Request.Host),.dat (vstr v1.Request.Path),.dat (vstr v1.Request.Query),.dat (vstr v1.Request.From),.dat (vlst (List.map yd v1.Request.Headers)),.dat (vstr v1.Request.Body),.dat (vint v1.Response.Status),.dat (vlst (List.map yd v1.Response.Headers)),.dat (vstr v1.Response.Body),.dat (vint v1.At),.dat (vlst (List.map zp v1.Tags)),.dat (vint v1.Used)])]) (fun i=>z52 i=some q21) (fun i=>Z) ?_ ?_)
       ·skip
        refine zn hN Z (qd Z (za (wg Z Z) (qd Z (yi (j:=2) Z Z (fun h31 => ?_) (fun h31 => ?_) Z))))
        ·exact u1 h31 H fun h32 H=>zg Z Z h31 (zd (.dat _) Z) (zg Z Z h31 (zq z0j Z) (jr Z Z h31 (zv jj Z Z) Z (zg Z Z h31 (zd (.dat _) Z) (zg Z Z h31 (y0v Z Z (by omega)) (bE H fun x33 h34 H=>zg Z Z h31 (uu vn (fun _=>Z) Z Z h34) (zg Z Z h31 (qz tyS9 Z (qk (vq h34).2) Z) (zg Z Z h31 (y9f Z Z) (za (yh Z (bTT h32) Z) ⟨(Op.bytesLess x23 x33 || x23 == x33),H,⟨Z,Z,Z,Z,Z,U⟩,⟨Z,U⟩⟩))))))))
        ·exact u2 h31 H fun h35 H=>zc Z Z h31 (zc Z Z h31 (zc Z Z h31 (zc Z Z h31 (zc Z Z h31 (zc Z Z h31 (zc Z Z h31 (zc Z Z h31 (za (ye Z (bFF h35) Z) ⟨false,H,⟨Z,Z,Z,Z,Z,U⟩,⟨Z,U⟩⟩))))))))
       ·rintro v36 H
        replace H:z52 v36=some q21:=H
        unfold z52 at H
        refine zf _ Z (fun h37 => ?_) (fun h37 => ?_)
        ·refine tE h37 H fun H=>zb hN Z (qe Z (zi ?_))
         replace H:=retl H hq21
         cases H
         exact ⟨U,.inl Z,U⟩
        ·exact fE h37 H fun H=>zl (zn hN Z (za (qo Z Z (by omega)) (qd Z ⟨_,yx H,⟨Z,Z,Z,Z,U⟩,⟨Z,U⟩⟩)))
 ·rintro k6 x9 ⟨⟩ q7 h38 h39 H hq7
  replace H:z9q k6 x9=some q7:=H
  unfold z9q at H
  refine zb hN Z (za (zy Z Z) (ze (zf _ Z (fun h => ?_) (fun h=>(lt_f h38 h).elim))))
  refine zl (ze (zx (zb hN Z (za (wc y8y (fun _=>Z) Z Z h39) (za (qz y8m Z (qk h39) Z) (qe Z (zb hN Z (qd Z (za (qj Z Z) (zf _ Z (fun h40 => ?_) (fun h40 => ?_)))))))))))
  ·refine tE h40 H fun H=>zb hN Z (qd Z (qe Z (zi ?_)))
   replace H:=retl H hq7
   cases H
   exact ⟨U,.inl Z,U⟩
  ·exact fE h40 H fun H=>zl (zn hN Z (za (qo Z Z (by omega)) (qd Z ⟨_,yx H,⟨Z,Z,Z,Z,U⟩,⟨Z,U⟩⟩)))
theorem x2s (is1:Bool) (e2:Int) (r:(Int)) (H:z4s is1 e2=some r):Fn Tryz.prog 14 [zh is1,vint e2] (zu [vint r]):=by
 refine ⟨by kernel_rfl,yg (us:=[vint r]) Tryz.func14 Z Z Z Z fun X hN => ?_⟩
 unfold z4s at H
 refine zb hN Z (qe Z (ze (zb hN Z (qd Z (zf _ Z (fun h3 => ?_) (fun h3 => ?_))))))
 ·refine tE h3 H fun H=>zb hN Z (qd Z (qe Z (zi ?_)))
  cases H
  exact ⟨U,.inl Z,U⟩
 ·refine fE h3 H fun H=>zl (zb hN Z (qe Z (zi ?_)))
  cases H
  exact ⟨U,.inl Z,U⟩
theorem w2c (v1:Int) (r:(Int)) (H:z8p v1=some r):Fn Tryz.prog 13 [vint v1] (zu [vint r]):=by
 refine ⟨by kernel_rfl,yg (us:=[vint r]) Tryz.func13 Z Z Z Z fun X hN => ?_⟩
 unfold z8p at H
 refine zb hN Z (qe Z (zb hN Z (qd Z (bE H fun r2 h3 H=>za (zk (y2n v1 r2 h3) ⟨.inl Z,U⟩) (za (yy Z) (bE H fun r4 h5 H=>za (zk (x2s (!r2) 1 r4 h5) ⟨.inl Z,.inl Z,U⟩) (qe Z (zi ?_))))))))
 cases H
 exact ⟨U,.inl Z,U⟩
theorem y2o (l1:(List Int)) (r:(Int)) (H:Wq l1=some r):Fn Tryz.prog 12 [vlst (List.map z0f l1)] (zu [vint r]):=by
 refine ⟨by kernel_rfl,yg (us:=[vint r]) Tryz.func12 Z Z Z Z fun X hN => ?_⟩
 unfold Wq at H
 refine zb hN Z (qe Z (ze (zb hN Z (qd Z (za (qi y8j Z) (qd Z (zx (gE H fun h4 H=>qv (fun (k2:Nat) (s:Unit)=>[(5,.dat (vlst (List.map z0f l1))),(6,.dat (vint (l1.length:Int))),(7,.dat (vint (k2:Int)))]) (fun (k2:Nat) (s:Unit)=>[]) () H ⟨Z,Z,Z,U⟩ U (fun _ _=>Z) ?_ ?_))))))))
 ·rintro ⟨⟩ H
  replace H:y63=some r:=H
  unfold y63 at H
  refine zb hN Z (za (zy Z Z) (ze (zf _ Z (fun h=>(lt_t h).elim) (fun h => ?_))))
  refine yr (zb hN Z (qe Z (zi ?_)))
  cases H
  exact ⟨U,.inl Z,U⟩
 ·rintro k2 x5 ⟨⟩ q3 h6 h7 H hq3
  replace H:y3b k2 x5=some q3:=H
  unfold y3b at H
  refine zb hN Z (za (zy Z Z) (ze (zf _ Z (fun h => ?_) (fun h=>(lt_f h6 h).elim))))
  refine zl (ze (zx (zb hN Z (za (wc y8y (fun _=>Z) Z Z h7) (za (qz y8m Z (qk h7) Z) (qe Z (zb hN Z (qd Z (za (qj Z Z) (zf _ Z (fun h8 => ?_) (fun h8 => ?_)))))))))))
  ·refine tE h8 H fun H=>zb hN Z (qd Z (qe Z (zi ?_)))
   replace H:=retl H hq3
   cases H
   exact ⟨U,.inl Z,U⟩
  ·exact fE h8 H fun H=>zl (zn hN Z (za (qo Z Z (by omega)) (qd Z ⟨_,yx H,⟨Z,Z,Z,U⟩,U⟩)))
theorem w14 (e1:yc) (v2:Int) (r:(Int)) (H:z4p e1 v2=some r):Fn Tryz.prog 16 [vagg (qy e1),vint v2] (zu [vint r]):=by
 refine ⟨by kernel_rfl,yg (us:=[vint r]) Tryz.func16 Z Z Z Z fun X hN => ?_⟩
 unfold z4p at H
 refine zb hN Z (zj (we 1 Z) Z (qe Z (zb hN Z (qe Z (yb (ι:=Int) (fun i=>[(1,.dat (vint v2)),(2,.ptr 1 0),(5,.dat (vint i))]) (fun i=>[(1,.box none 33 [.dat (vint e1.Request.At),.dat (vstr e1.Request.Method),.dat (vstr e1.Request.Host),.dat (vstr e1.Request.Path),.dat (vstr e1.Request.Query),.dat (vstr e1.Request.From),.dat (vlst (List.map yd e1.Request.Headers)),.dat (vstr e1.Request.Body),.dat (vint e1.Response.Status),.dat (vlst (List.map yd e1.Response.Headers)),.dat (vstr e1.Response.Body),.dat (vint e1.At),.dat (vlst (List.map zp e1.Tags)),.dat (vint e1.Used)])]) (fun i=>z0b e1 v2 i=some r) (fun i=>Z) ?_ ?_)))))
 ·skip
  refine zb hN Z (za (zq um Z) (za (zq xt Z) (zm (zv wu Z Z) Z (bE H fun r3 h4 H=>za (zk (y2l e1.Response.Headers [97,103,101] r3 h4) ⟨.inl Z,.inl Z,U⟩) (qe Z (zb hN Z (qd Z (za (qi wt Z) (za (wg Z Z) (zf _ Z (fun h5 => ?_) (fun h5 => ?_)))))))))))
  ·refine tE h5 H fun H=>zb hN Z (qd Z (bE H fun x6 h7 H=>za (wc vn (fun _=>Z) Z Z h7) (za (qz tyS9 Z (qk h7) Z) (bE H fun r8 h9 H=>za (zk (x2l x6 9 r8 h9) ⟨.inl Z,.inl Z,U⟩) (qd Z (za (zz Z Z) (za (zz Z Z) (qe Z (qe Z (yb (ι:=Bool) (fun i=>[(1,.dat (vint v2)),(2,.ptr 1 0),(5,.dat (vint 0)),(7,.dat (vint r8.1)),(27,.dat (zh i))]) (fun i=>[(1,.box none 33 [.dat (vint e1.Request.At),.dat (vstr e1.Request.Method),.dat (vstr e1.Request.Host),.dat (vstr e1.Request.Path),.dat (vstr e1.Request.Query),.dat (vstr e1.Request.From),.dat (vlst (List.map yd e1.Request.Headers)),.dat (vstr e1.Request.Body),.dat (vint e1.Response.Status),.dat (vlst (List.map yd e1.Response.Headers)),.dat (vstr e1.Response.Body),.dat (vint e1.At),.dat (vlst (List.map zp e1.Tags)),.dat (vint e1.Used)])]) (fun i=>z56 e1 v2 r8 i=some r) (fun i=>Z) ?_ ?_))))))))))
   ·skip
    refine zn hN Z (qd Z (qd Z (yi (j:=1) Z Z (fun h10 => ?_) (fun h10 => ?_) Z)))
    ·exact u1 h10 H fun h11 H=>zg Z Z h10 (zd (.dat _) Z) (bE H fun r12 h13 H=>zg Z Z h10 (zk (Wt r8.1 0 100000000 r12 h13) ⟨.inl Z,.inl Z,.inl Z,U⟩) (za (yh Z (bTT h11) Z) ⟨r12,H,⟨Z,Z,Z,Z,Z,U⟩,⟨Z,U⟩⟩))
    ·exact u2 h10 H fun h14 H=>zc Z Z h10 (zc Z Z h10 (za (ye Z (bFF h14) Z) ⟨false,H,⟨Z,Z,Z,Z,Z,U⟩,⟨Z,U⟩⟩))
   ·rintro v15 H
    replace H:z56 e1 v2 r8 v15=some r:=H
    unfold z56 at H
    refine zf _ Z (fun h16 => ?_) (fun h16 => ?_)
    ·exact tE h16 H fun H=>zn hN Z (qd Z (qe Z ⟨r8.1,H,⟨Z,Z,Z,U⟩,⟨Z,U⟩⟩))
    ·exact fE h16 H fun H=>zl ⟨0,H,⟨Z,Z,Z,U⟩,⟨Z,U⟩⟩
  ·exact fE h5 H fun H=>zl ⟨0,H,⟨Z,Z,Z,U⟩,⟨Z,U⟩⟩
 ·rintro n17 H
  replace H:z0b e1 v2 n17=some r:=H
  unfold z0b at H
  refine zb hN Z (qd Z (za (zq xd Z) (zm (zv tyS3 Z Z) Z (za (yj _ Z Z (.inr (.inl ⟨Z,Z⟩))) (qd Z (za (yj _ Z Z (.inr (.inr ⟨Z,Z⟩))) (za (yj _ Z Z (.inl ⟨Z,Z⟩)) (qe Z (zi ?_)))))))))
  cases H
  exact ⟨U,.inl Z,U⟩
theorem y6h (s1:Bs) (r:((List wm)×Bool)) (H:Wh s1=some r):Fn Tryz.prog 153 [vstr s1] (zu [vlst (List.map xp r.1),zh r.2]):=by
 refine ⟨by kernel_rfl,yg (us:=[vlst (List.map xp r.1),zh r.2]) Tryz.func153 Z Z Z Z fun X hN => ?_⟩
 unfold Wh at H
 refine zb hN Z (qe Z (qe Z (zb hN Z (qe Z (yb (ι:=(List wm)) (fun i=>[(4,.row 1 i.length)]) (fun i=>[(1,.row 158 2 (List.map xp i))]) (fun i=>y21 i=some r) (fun i=>Z) ?_ ?_)))))
 ·skip
  refine zx (vp 4 1 158 2 Z Z Z (uz (fun (s:Bs×(List wm))=>[(0,.dat (vstr s.1)),(4,.row 1 s.2.length)]) (fun (s:Bs×(List wm))=>[(1,.row 158 2 (List.map xp s.2))]) (s1,[]) H ⟨Z,Z,U⟩ ⟨Z,U⟩ (fun _=>Z) ?_))
  rintro ⟨s2,l3⟩ q4 H hq4
  replace H:ku s2 l3=some q4:=H
  unfold ku at H
  refine ze (zb hN Z (qd Z (za (ja Z Z) (zf _ Z (fun h5 => ?_) (fun h5 => ?_)))))
  ·refine tE h5 H fun H=>zl (zx (ze (zb hN Z (qd Z (bE H fun x6 h7 H=>za (wb tyU9 Z Z h7) (za (qj Z Z) (zf _ Z (fun h8 => ?_) (fun h8 => ?_))))))))
   ·refine tE h8 H fun H=>ze (vf mixed hN Z Z (za (zd (.row _ _) Z) (qd Z (za (wb tyU9 Z Z h7) (za (ya (u':=vagg (xp (wm.mk (x6.toNat:Int) true))) (vh [(0,[vval (.int .u8 (x6.toNat:Int))]),(1,[zh true])] y0a y8q Z ⟨Z,.inl ⟨_,Z,Z,Z⟩,Z,Z,.inl ⟨_,Z,Z,Z⟩,Z,U⟩) Z) (za (ya (u':=vlst (List.map xp [(wm.mk (x6.toNat:Int) true)])) (yo [_] y0i ⟨Z,.inr Z,Z,U⟩ Z Z) Z) (gE H fun h9 H=>zj (va y0i (fun _=>Z) Z Z Z ⟨by simp,by first | (simp; done) | simpa using h9⟩ Z) Z ?_)))))))
    refine qd Z (bE H fun l10 h11 H=>za (vy tyU9 Z Z Z h11) (za (qr (.row _ _) Z) (qe Z ⟨Z,?_⟩)))
    exact yr ⟨_,yx H,⟨Z,Z,U⟩,⟨Z,U⟩⟩
   ·refine fE h8 H fun H=>zl (ze (zb hN Z (qd Z (za (yz tyU9 Z) (za (zy Z Z) (zf _ Z (fun h12 => ?_) (fun h12 => ?_)))))))
    ·refine tE h12 H fun H=>zb hN Z (qe Z (qe Z (zi ?_)))
     replace H:=retl H hq4
     cases H
     exact ⟨U,.inr ⟨Z,Z⟩,.inl Z,U⟩
    ·refine fE h12 H fun H=>zl (zb hN Z (qd Z (bE H fun l13 h14 H=>za (vy tyU9 Z Z Z h14) (bE H fun r15 h16 H=>za (zk (x1k l13 16 8 r15 h16) ⟨.inl Z,.inl Z,.inl Z,U⟩) (qd Z (za (zz Z Z) (za (zz Z Z) (qe Z (qe Z (ze (zb hN Z (qd Z (za (z69 (n:=r15.2) (show Tryz.prog.underlying 104=some (.interface (Tryz.prog.methodsAt 104)) from by kernel_rfl) Z) ?_)))))))))))))
     refine zf _ Z (fun h17 => ?_) (fun h17 => ?_)
     ·refine tE h17 H fun H=>zb hN Z (qe Z (qe Z (zi ?_)))
      replace H:=retl H hq4
      cases H
      exact ⟨U,.inr ⟨Z,Z⟩,.inl Z,U⟩
     ·refine fE h17 H fun H=>zl (vf mixed hN Z Z (za (zd (.row _ _) Z) (qd Z (za (jg Yf tyU5 Z) (za (ya (u':=vagg (xp (wm.mk (IntKind.wrap .u8 r15.1) false))) (vh [(0,[vval (.int .u8 (IntKind.wrap .u8 r15.1))]),(1,[zh false])] y0a y8q Z ⟨Z,.inl ⟨_,Z,Z,Z⟩,Z,Z,.inl ⟨_,Z,Z,Z⟩,Z,U⟩) Z) (za (ya (u':=vlst (List.map xp [(wm.mk (IntKind.wrap .u8 r15.1) false)])) (yo [_] y0i ⟨Z,.inr Z,Z,U⟩ Z Z) Z) (gE H fun h18 H=>zj (va y0i (fun _=>Z) Z Z Z ⟨by simp,by first | (simp; done) | simpa using h18⟩ Z) Z ?_)))))))
      refine qd Z (bE H fun l19 h20 H=>za (vy tyU9 Z Z Z h20) (za (qr (.row _ _) Z) (qe Z ⟨Z,?_⟩)))
      exact ⟨_,yx H,⟨Z,Z,U⟩,⟨Z,U⟩⟩
  ·refine fE h5 H fun H=>yr ?_
   replace H:=outl H hq4
   exact ⟨l3,H,⟨Z,U⟩,⟨Z,U⟩⟩
 ·rintro out21 H
  replace H:y21 out21=some r:=H
  unfold y21 at H
  refine zb hN Z (za (zd (.row _ _) Z) (za (qr (.row _ _) Z) (qe Z (zi ?_))))
  cases H
  exact ⟨U,z0l Z Z,.inl Z,U⟩
theorem w08 (l:List Bs):Fn Tryz.prog 155 [vlst (List.map zp l)] (zu [vfn 212 [wv [[vlst (List.map zp l)]] 0 0]]):=by
 refine ⟨by kernel_rfl,yg (us:=[vfn 212 [wv [[vlst (List.map zp l)]] 0 0]]) Tryz.func155 Z Z Z Z fun X hN => ?_⟩
 exact zb hN Z (zj (x7r 1 Z Z) Z (qe Z (ze (z9z 1 [vlst (List.map zp l)] Z Z (zn hN Z (za (y0w (us:=[_]) ⟨Z,U⟩) (qe Z (zi ⟨U,.inl Z,U⟩))))))))
theorem w2w:x43 Tryz.prog 212 1 true:=by
 intro vals M l cap J Jx W hn hvn hk hc hY h0
 have hnt:Tryz.f212.ntmps=19:=Z
 refine callsIn_of_wp Tryz.func212 Z U ?_ Z
 rw [hnt]
 obtain ⟨vc,hvc⟩:∃ vc:V,vc=vand (wv [[vlst (vals.map fun c=>c.map vval)]] 0 0) cap:=⟨_,rfl⟩
 have hwk:Wk vc (wv [[vlst (vals.map fun c=>c.map vval)]] 0 0):=by rw [hvc]; exact x5e _ _
 have hvm:∀ W',(wv [[vlst (vals.map fun c=>c.map vval)]] 0 0).p W' M cap→vc.p W' M cap:=fun W' h=>by rw [hvc]; exact ⟨Z,h⟩
 have hvo:∀ W' M' v,vc.p W' M' v→v=cap:=fun W' M' v h=>by rw [hvc] at h; exact h.1
 obtain ⟨hM,hcp⟩:=hc _ _ h0
 refine wpIn_seq (wpIn_mono (y1b (N:=19) hM ?hN ?hD [(0,vval (yv l)),(1,vc)] ?hr (Q:=fun e f=>e = .normal∧f 0 = .dat (vval (yv l))∧f 1 = .dat vc∧f 3 = .dat (vint ((vals.length:Int) - 1))) fun X hN => ?_) ?_)
 case hN=>simp
 case hD=>rfl
 case hr=>exact ⟨by simp [yv,vval],by simpa using hvm _ hcp,trivial⟩
 ·exact zn hN Z (za (y9i jj Z hwk Z Z) (za (qi (C:=fun c:List Value=>c.map vval) wt Z) (za (y0v Z Z (by omega)) (qe Z ⟨Z,Z,Z,Z⟩))))
 rintro e a W1 ⟨hk1,hN,hD,f,own,g,M',hfr,rfl,e0,e1,e3⟩
 have t0:a.tmps.getD 0 undef=yv l:=by have:=hfr 0; rw [e0] at this; exact this
 have t1:a.tmps.getD 1 undef=cap:=by have:=hfr 1; rw [e1] at this; exact hvo _ _ _ this
 have t3:a.tmps.getD 3 undef = .int .i64 ((vals.length:Int) - 1):=by have:=hfr 3; rw [e3] at this; exact this
 refine wpIn_block (wpIn_loop_rounds (vals.length+1) ?_)
 have hJ1:=hk _ _ _ h0 hk1
 clear hk1 hfr e0 e1 e3 hcp hM h0
 suffices key:∀ m,m≤vals.length→∀ a W,a.tmps.size=19→a.defers=[]→a.tmps.getD 0 undef=yv l→a.tmps.getD 1 undef=cap→a.tmps.getD 3 undef = .int .i64 ((m:Int) - 1)→J m W→Code.roundsIn Fence.wide 0 Tryz.prog _ _ (m+1) a W from key _ (Nat.le_refl _) a W1 hN hD t0 t1 t3 hJ1
 clear t0 t1 t3 hN hD hJ1
 intro m
 induction m with
 | zero =>
  intro _ a W hN hD t0 t1 t3 hJ
  obtain ⟨hM,hcp⟩:=hc _ _ hJ
  rw [roundsIn_succ]
  refine wpIn_seq (wpIn_seq (wpIn_mono (y1b (N:=19) hM hN hD [(3,vint (-1))] ⟨by rw [t3]; rfl,trivial⟩ (Q:=fun e f=>e = .normal∧f 8 = .dat (zh (decide ((0:Int)≤-1)))) fun X hN => ?_) ?_))
  ·exact zn hN Z (qd Z (za (wz Z Z) ⟨Z,Z⟩))
  rintro e a' W' ⟨hk1,hN',hD',f,own,g,M',hfr,rfl,e8⟩
  have t8:a'.tmps.getD 8 undef = .bool false:=by have:=hfr 8; rw [e8] at this; exact this
  exact wpIn_cond_false t8 (wpIn_exit ⟨hD',_,results_none Z _ _ _,⟨_,Z⟩,.inl (hk _ _ _ hJ hk1)⟩)
 | succ m ih =>
  intro hm a W hN hD t0 t1 t3 hJ
  obtain ⟨hM,hcp⟩:=hc _ _ hJ
  have hm3:(((m+1:Nat):Int) - 1)=(m:Int):=by omega
  rw [hm3] at t3
  rw [roundsIn_succ]
  refine wpIn_seq (wpIn_seq (wpIn_mono (y1b (N:=19) hM hN hD [(0,vval (yv l)),(1,vc),(3,vint (m:Int))] ⟨t0,by rw [t1]; exact hvm _ hcp,by rw [t3]; rfl,trivial⟩ (Q:=fun e f=>e = .normal∧f 0 = .dat (vval (yv l))∧f 1 = .dat vc∧f 3 = .dat (vint (m:Int))∧f 8 = .dat (zh (decide ((0:Int)≤(m:Int))))) fun X hN => ?_) ?_))
  ·exact zn hN Z (qd Z (za (wz Z Z) ⟨Z,Z,Z,Z,Z⟩))
  rintro e a1 W1 ⟨hk1,hN1,hD1,f,own,g,M',hfr,rfl,e0,e1,e3,e8⟩
  have u0:a1.tmps.getD 0 undef=yv l:=by have:=hfr 0; rw [e0] at this; exact this
  have u1:a1.tmps.getD 1 undef=cap:=by have:=hfr 1; rw [e1] at this; exact hvo _ _ _ this
  have u3:a1.tmps.getD 3 undef = .int .i64 (m:Int):=by have:=hfr 3; rw [e3] at this; exact this
  have u8:a1.tmps.getD 8 undef = .bool true:=by
   have:=hfr 8; rw [e8,decide_eq_true (by omega)] at this; exact this
  refine wpIn_cond_true u8 (wpIn_skip ?_)
  have hJ1:=hk _ _ _ hJ hk1
  clear hfr e0 e1 e3 e8 hk1 hJ hM hcp t0 t1 t3 hN hD
  obtain ⟨hM1,hcp1⟩:=hc _ _ hJ1
  refine wpIn_seq (wpIn_block (wpIn_seq ?_))
  refine wpIn_region ?_
  obtain ⟨X,hX⟩:∃ X:Ctx,X=⟨fun b=>M b,W1,[],19,none,[]⟩:=⟨_,rfl⟩
  have hrel:Rel X (frs (datL [(0,vval (yv l)),(1,vc),(3,vint (m:Int))])) (fun _=>none) ⟨fun _=>none,fun _ _=>none⟩ a1 W1:=by
   subst hX
   have he:Ext M (Mof ⟨fun b=>M b,W1,[],19,none,[]⟩ ⟨fun _=>none,fun _ _=>none⟩ (fun _=>none)) W1 W1:=⟨Nat.le_refl _,fun _ _ _ _=>Z,fun b _ hb=>by
    rcases hb with hb | ⟨id,o,ho,_⟩
    ·exact hb
    ·cases ho⟩
   refine ⟨Kp.refl _ _,⟨fun b hb=>⟨hM1.1 b hb,by simp⟩,hM1.2.1,fun b hb=>⟨hM1.2.2 b hb,by simp⟩⟩,hN1,hD1,fun t=>y1f [(0,vval (yv l)),(1,vc),(3,vint (m:Int))] ⟨u0,by rw [u1]; exact vc.keep he (hvm _ hcp1),by rw [u3]; rfl,trivial⟩ t,fun id o ho=>(by cases ho),fun id _ o _ b ho=>(by cases ho),fun id o b ho=>(by cases ho),fun id _=>⟨rfl,fun _=>rfl⟩,fun id e size es h=>(by cases h)⟩
  have hNX:X.N=19:=by rw [hX]
  have hRX:X.R=none:=by rw [hX]
  have hDX:X.D=[]:=by rw [hX]
  have hKX:∀ W',Kp X.S0 X.w0 W'→Kp [] W1 W':=fun W' h=>by rw [hX] at h; exact h
  obtain ⟨el,hel⟩:∃ el,vals[m]?=some el:=⟨_,List.getElem?_eq_getElem (by omega)⟩
  have hell:(el.map vval).length=1:=by rw [List.length_map]; exact hvn el (List.mem_of_getElem? hel)
  obtain ⟨x,rfl⟩:∃ x,el=[x]:=List.length_eq_one_iff.1 (by simpa using hell)
  have helm:(vals.map fun c=>c.map vval)[m]?=some ([x].map vval):=by rw [List.getElem?_map,hel]; rfl
  have helD:vals.getD m []=[x]:=by rw [List.getD_eq_getElem?_getD,hel]; rfl
  clear hX
  refine opsR hRX (n:=6+2) rfl (y99 (P:=Tryz.prog) (X:=X) (by rw [hNX]; rfl) [_,_,_,_,_,_] [_,_] 0 _ _ [] _ a1 W1 rfl hrel ?_)
  refine qd Z (qd Z (za (y9i jj Z hwk Z Z) (qd Z ?_)))
  refine za (y4j (k:=m) vn Z Z (by rw [List.length_map]; omega) (fun c hc=>by
   obtain ⟨c',hc',rfl⟩:=List.mem_map.1 hc
   rw [List.length_map]; exact hvn c' hc')) ?_
  refine za (qz tyS9 Z helm Z) ?_
  intro g2 a2 W2 k2
  have v0:a2.tmps.getD 0 undef=yv l:=k2.fr 0
  have v1:a2.tmps.getD 1 undef=cap:=hvo _ _ _ (k2.fr 1)
  have v3:a2.tmps.getD 3 undef = .int .i64 (m:Int):=k2.fr 3
  have v11:a2.tmps.getD 11 undef=yv l:=k2.fr 11
  have v12:a2.tmps.getD 12 undef = .int .i64 (m:Int):=k2.fr 12
  have v16:a2.tmps.getD 16 undef=x:=k2.fr 16
  have hN2:a2.tmps.size=19:=k2.n.trans hNX
  have hD2:a2.defers=[]:=k2.df.trans hDX
  have hJ2:=hk _ _ _ hJ1 (hKX _ k2.kp)
  clear k2 hrel
  obtain ⟨fn,tm,asg,bdy,hrun,hR⟩:=hY m W2 (by omega) hJ2
  rw [helD] at hrun
  change (Instr.yield l #[.int .i64 (m:Int),x]).run Tryz.prog W2=_ at hrun
  rw [hRX]
  show wpOpsIn Fence.wide 0 Tryz.prog _ _ [6,7] a2 W2
  refine x5a Z Z Z v11 (by simp [Act.eval,v12,v16]) hrun (hR.mono ?_)
  rintro e W3 (⟨rfl,hJ3⟩ | ⟨rfl,hJ3⟩)
  ·obtain ⟨hM3,hcp3⟩:=hc _ _ hJ3
   refine ⟨_,Z,?_⟩
   obtain ⟨a3,ha3⟩:∃ a3:Act,a3=a2.put (some 17) (.bool true):=⟨_,rfl⟩
   have hN3:a3.tmps.size=19:=by rw [ha3]; simpa [Act.put] using hN2
   have hD3:a3.defers=[]:=by rw [ha3]; exact hD2
   have g3:∀ t,a3.tmps.getD t undef=if t=17 then .bool true else a2.tmps.getD t undef:=fun t=>by rw [ha3]; exact z90 hN2 (by decide) t
   show wpOpsIn Fence.wide 0 Tryz.prog _ _ (List.range' 7 1) (a2.put (some 17) (.bool true)) W3
   rw [← ha3]
   refine opsT (N:=19) (i:=7) (os:=[_]) hM3 hN3 hD3 [(0,vval (yv l)),(1,vc),(3,vint (m:Int)),(17,zh true)] ⟨?_,?_,?_,?_,U⟩ (Q':=fun f=>f 0 = .dat (vval (yv l))∧f 1 = .dat vc∧f 3 = .dat (vint (m:Int))∧f 18 = .dat (zh (!true))) Z Z (fun _ _ => ?_) ?_
   ·show _=_
    rw [g3,if_neg (by decide)]; exact v0
   ·rw [g3,if_neg (by decide),v1]; exact hvm _ hcp3
   ·show _=_
    rw [g3,if_neg (by decide)]; exact v3
   ·show _=_
    rw [g3,if_pos Z]
   ·exact za (yy Z) ⟨Z,Z,Z,Z⟩
   intro a4 W4 hk4 hN4 hD4 f g M' hfr ⟨e0,e1,e3,e18⟩
   have z0:a4.tmps.getD 0 undef=yv l:=by have:=hfr 0; rw [e0] at this; exact this
   have z1:a4.tmps.getD 1 undef=cap:=by have:=hfr 1; rw [e1] at this; exact hvo _ _ _ this
   have z3:a4.tmps.getD 3 undef = .int .i64 (m:Int):=by have:=hfr 3; rw [e3] at this; exact this
   have z18:a4.tmps.getD 18 undef = .bool false:=by have:=hfr 18; rw [e18] at this; exact this
   refine wpIn_cond_false z18 (wpIn_skip ?_)
   have hJ4:=hk _ _ _ hJ3 hk4
   obtain ⟨hM4,hcp4⟩:=hc _ _ hJ4
   refine wpIn_mono (y1b (N:=19) hM4 hN4 hD4 [(0,vval (yv l)),(1,vc),(3,vint (m:Int))] ⟨z0,by rw [z1]; exact hvm _ hcp4,by rw [z3]; rfl,trivial⟩ (Q:=fun e f=>e = .normal∧f 0 = .dat (vval (yv l))∧f 1 = .dat vc∧f 3 = .dat (vint ((m:Int) - 1))) fun X hN => ?_) ?_
   ·exact zn hN Z (qd Z (za (y0v Z Z (by omega)) (qe Z ⟨Z,Z,Z,Z⟩)))
   rintro e a5 W5 ⟨hk5,hN5,hD5,f5,own5,g5,M5,hfr5,rfl,e0,e1,e3⟩
   exact ih (by omega) a5 W5 hN5 hD5 (by have:=hfr5 0; rw [e0] at this; exact this) (by have:=hfr5 1; rw [e1] at this; exact hvo _ _ _ this) (by have:=hfr5 3; rw [e3] at this; exact this) (hk _ _ _ hJ4 hk5)
  ·refine ⟨_,Z,?_⟩
   obtain ⟨a3,ha3⟩:∃ a3:Act,a3=a2.put (some 17) (.bool false):=⟨_,rfl⟩
   show wpOpsIn Fence.wide 0 Tryz.prog _ _ [7] (a2.put (some 17) (.bool false)) W3
   rw [← ha3]
   have g3:∀ t,a3.tmps.getD t undef=if t=17 then .bool false else a2.tmps.getD t undef:=fun t=>by rw [ha3]; exact z90 hN2 (by decide) t
   have hN3:a3.tmps.size=19:=by rw [ha3]; simpa [Act.put] using hN2
   have hD3:a3.defers=[]:=by rw [ha3]; exact hD2
   have v17:a3.tmps.getD 17 undef = .bool false:=by rw [g3,if_pos Z]
   rw [wpOpsIn_cons]
   unfold wpOpIn
   refine ⟨fun _ _=>U,?_⟩
   have hrun:∀ o:Oper,o.op = .unOp .not 4 (.tmp 17)→(o.semAt Fence.wide.round a3.eval).run Tryz.prog W3 = .ok (.value (.bool true)) W3:=fun o ho=>by
    rw [Oper.semAt_eq Fence.wide.round a3.eval o (fun c hc=>by rw [ho] at hc; cases hc)]
    have h1:a3.eval (.tmp 17) = .bool false:=v17
    simp only [execOp,ho,h1,Op.unary]
    rfl
   rw [hrun _ Z,Oper.uponIn_value]
   have t18:(a3.put (some 18) (.bool true)).tmps.getD 18 undef = .bool true:=by rw [show (a3.put (some 18) (.bool true)).tmps=a3.tmps.setIfInBounds 18 (.bool true) from Z,z90 hN3 (by decide),if_pos Z]
   exact wpIn_cond_true t18 (wpIn_ret ⟨hD3,_,results_none Z _ _ _,⟨_,Z⟩,.inr hJ3⟩)

theorem w0k (l r:List Bs) (H:z7y l=some r):FnG Tryz.prog 156 [.row 0 l.length] [(0,.rowA undef 9 1 (List.map zp l))] (.dat (zu [])) [(0,.rowA undef 9 1 (List.map zp r))]:=by
 obtain ⟨hl,hr⟩:=gif H
 cases hr
 refine x3r (fun s:Bs=>Value.string ⟨s.toArray⟩) l.reverse l List.length_reverse (by kernel_rfl) (fun _=>Z) (fun blk cap w hH hb => ?_) (fun h w => ?_)
 ·refine (Tryz.slices_Reverse_string blk 0 cap l w hH (by omega)).mono ?_
  rintro r w' ⟨rfl,n,rfl⟩
  exact ⟨rfl,n,#[],by simp [Sort.grow]; rfl⟩
 ·exact Tryz.slices_Reverse_string_empty none 0 w
theorem x2g (n1:Int) (r:(Bs)) (H:y14 n1=some r):Fn Tryz.prog 211 [vval (.int .u8 n1)] (zu [vstr r]):=by
 refine ⟨by kernel_rfl,yg (us:=[vstr r]) Tryz.func211 Z Z Z Z fun X hN => ?_⟩
 unfold y14 at H
 refine zb hN Z (qe Z (zb hN Z (qd Z (qd Z (za (yj _ Z Z (.inl ⟨Z,Z⟩)) (bE H fun l2 h3 H=>za (x6l tyU9 Z Z Z h3) (qe Z (zi ?_))))))))
 cases H
 exact ⟨U,.inl Z,U⟩
theorem x2h (c1:Int) (r:(Bs)) (H:Wi c1=some r):Fn Tryz.prog 154 [vval (.int .u8 c1)] (zu [vstr r]):=by
 refine ⟨by kernel_rfl,yg (us:=[vstr r]) Tryz.func154 Z Z Z Z fun X hN => ?_⟩
 unfold Wi at H
 refine zb hN Z (qe Z (zb hN Z (qd Z (za (ya (z0o Z Z (by decide)) Z) (bE H fun r2 h3 H=>za (zk (x2g (shr_ .u8 c1 4) r2 h3) ⟨.inl Z,U⟩) (gE H fun h4 H=>za (jb Z Z (Nat.le_trans h4 (by decide))) (qd Z (za (ya (y9r Z Z) Z) (bE H fun r5 h6 H=>za (zk (x2g (and_ .u8 c1 15) r5 h6) ⟨.inl Z,U⟩) (gE H fun h7 H=>za (jb Z Z (Nat.le_trans h7 (by decide))) (qe Z (zi ?_))))))))))))
 cases H
 exact ⟨U,.inl Z,U⟩
theorem w1z (v1:Bs) (r:(Bs×Int)) (H:z8g v1=some r):Fn Tryz.prog 98 [vstr v1] (zu [vstr r.1,vint r.2]):=by
 refine ⟨by kernel_rfl,x9b (us:=[vstr r.1,vint r.2]) Tryz.func98 Z Z Z Z fun X hN hR => ?_⟩
 unfold z8g at H
 refine Qj hR (zn hN Z (qe Z (qe Z (Qj hR (zb hN Z (qd Z (bE H fun r2 h3 H=>za (zk (x2f v1 r2 h3) ⟨.inl Z,U⟩) (za (yy Z) (zf _ Z (fun h4 => ?_) (fun h4 => ?_))))))))))
 ·refine tE h4 H fun H=>zb hN Z (qe Z (qe Z (zi ?_)))
  cases H
  exact ⟨[(2,.dat (vstr [])),(3,.dat (vint 3))],[],⟨Z,Z,U⟩,U,Z,Z,⟨.inl Z,.inl Z,U⟩⟩
 ·refine fE h4 H fun H=>zl (Qj hR (zn hN Z (qd Z (bE H fun r5 h6 H=>za (zk (y6h v1 r5 h6) ⟨.inl Z,U⟩) (qd Z (za (zz Z Z) (za (zz Z Z) (qe Z (qe Z (Qj hR (zb hN Z (qd Z (za (yy Z) (zf _ Z (fun h7 => ?_) (fun h7 => ?_)))))))))))))))
  ·refine tE h7 H fun H=>zb hN Z (qe Z (qe Z (zi ?_)))
   cases H
   exact ⟨[(2,.dat (vstr [])),(3,.dat (vint 9))],[],⟨Z,Z,U⟩,U,Z,Z,⟨.inl Z,.inl Z,U⟩⟩
  ·refine fE h7 H fun H=>zl (Qj hR (zn hN Z (qe Z (Qj hR (zb hN Z (qd Z (za (qi y8l Z) (qd Z (zx (gE H fun h11 H=>qv (fun (k9:Nat) (s:Bs)=>[(2,.dat (vstr [])),(3,.dat (vint 0)),(6,.dat (vstr s)),(24,.dat (vlst (List.map xp r5.1))),(25,.dat (vint (r5.1.length:Int))),(26,.dat (vint (k9:Int)))]) (fun (k9:Nat) (s:Bs)=>[]) [] H ⟨Z,Z,Z,Z,Z,Z,U⟩ U (fun _ _=>Z) ?_ ?_))))))))))
   ·rintro v8 H
    replace H:z9n v8=some r:=H
    unfold z9n at H
    refine zb hN Z (za (zy Z Z) (ze (zf _ Z (fun h=>(lt_t h).elim) (fun h => ?_))))
    refine yr (Qj hR (zn hN Z (qd Z (bE H fun l13 h14 H=>za (vy tyU9 Z Z Z h14) (bE H fun r15 h16 H=>za (zk (Yx l13 [47] r15 h16) ⟨.inl Z,.inl Z,U⟩) (zj (qu 1 y8i Z) Z (zj (vu jj Z Z Z Z) Z (Qj hR (zn hN Z (zj (qu 2 y8i Z) Z (Qj hR (zn hN Z (zj (qu 3 tyZ3 Z) Z (zj (vu tyS3 Z Z Z Z) Z (w40 hR (zn hN Z (zm (zv jj Z Z) Z (za (zk (w08 r15) ⟨.inl Z,U⟩) ⟨Z,?_⟩))))))))))))))))))
    refine x86 2 0 4 9 1 Z Z Z Z (gE H fun h20 H=>x87 (s0:=(0,([]:List Bs))) hR hN [(2,.dat (vstr [])),(3,.dat (vint 0)),(9,.ptr 1 0),(10,.ptr 2 0),(11,.ptr 3 0),(60,.dat (vfn 212 [wv [[vlst (List.map zp r15)]] 0 0]))] [(1,.box none 31 [.dat (vlst (List.map zp r15))]),(2,.box none 31 [.row 4 0]),(3,.box none 3 [.dat (vint 0)]),(4,.row 9 1 (List.map zp ([]:List Bs)))] (fun (s:Int×(List Bs))=>[(1,.box none 31 [.dat (vlst (List.map zp r15))]),(2,.box none 31 [.row 4 s.2.length]),(3,.box none 3 [.dat (vint s.1)]),(4,.row 9 1 (List.map zp s.2))]) w2w (fun _=>Z) (enters_of Tryz.func212 (by kernel_rfl) Z) Z h20 H ⟨Z,Z,Z,Z,Z,Z,U⟩ ⟨Z,Z,Z,Z,U⟩ Z Z (fun _=>Z) (fun _=>Z) (fun _ _=>Z) (fun _ _=>Z) (fun _=>Z) (fun _=>Z) (by decide) (by decide) ?_ ?_)
    ·rintro A X k21 x22 ⟨c17,l18⟩ q19 hN h23 h24 H hq19
     replace H:Wz r15 k21 x22 c17 l18=some q19:=H
     unfold Wz at H
     refine zb hN Z (qe Z (zn hN Z (qe Z ⟨Z,[(9,.ptr 1 0),(10,.ptr 2 0),(11,.ptr 3 0),(12,.dat (vint (k21:Int))),(13,.dat (vstr x22))],[(1,.box (some (A 1)) 31 [.dat (vlst (List.map zp r15))]),(2,.box (some (A 2)) 31 [.row 4 l18.length]),(3,.box (some (A 3)) 3 [.dat (vint c17)]),(4,.row 9 1 (List.map zp l18))],⟨Z,Z,Z,Z,Z,U⟩,⟨Z,Z,Z,Z,U⟩,Z,Z,Z,fun X hN => ?_⟩)))
     refine zx (zx (zb hN Z (qd Z (za (vg Z Z) (qd Z (yl Z Z (fun hc=>zd (.dat _) Z) (yl Z Z (fun hc=>vg (cnd (c:=(!(decide (x22=[46])))) hc) Z) (za (ww Z Z (fun hb=>(cnd (c:=(!(decide (x22=[46])))) (notI hb)))) (qe Z (zf _ Z (fun h25 => ?_) (fun h25 => ?_)))))))))))
     ·refine tE h25 H fun H=>yb (ι:=(List Bs)) (fun i=>[(9,.ptr 1 0),(10,.ptr 2 0),(11,.ptr 3 0),(13,.dat (vstr x22))]) (fun i=>[(1,.box (some (A 1)) 31 [.dat (vlst (List.map zp r15))]),(2,.box (some (A 2)) 31 [.row 4 i.length]),(3,.box (some (A 3)) 3 [.dat (vint c17)]),(4,.row 9 1 (List.map zp i))]) (fun i=>z12 c17 x22 i=some q19) (fun i=>Z) ?_ ?_
      ·skip
       refine zb hN Z (qd Z (zm (zv jj Z Z) Z (za (qi wt Z) (za (yj _ Z Z (.inr (.inl ⟨Z,Z⟩))) (za (ql Z Z) (zf _ Z (fun h26 => ?_) (fun h26 => ?_)))))))
       ·refine tE h26 H fun H=>zn hN Z (zm (zv jj Z Z) Z (za (ya (u':=vlst (List.map zp [[]])) (yo [[_]] qf ⟨Z,.inl ⟨_,Z,Z,Z⟩,Z,U⟩ Z Z) Z) (gE H fun h27 H=>zj (va qf (fun _=>Z) Z Z Z ⟨by simp,by first | (simp; done) | simpa using h27⟩ Z) Z ?_)))
        refine xy (xw jj Z Z (by rw [List.length_map]) Z) Z Z ?_
        exact ⟨(l18++([[]])),H,⟨Z,Z,Z,Z,U⟩,⟨Z,Z,Z,Z,U⟩⟩
       ·exact fE h26 H fun H=>zl ⟨l18,H,⟨Z,Z,Z,Z,U⟩,⟨Z,Z,Z,Z,U⟩⟩
      ·rintro l28 H
       replace H:z12 c17 x22 l28=some q19:=H
       unfold z12 at H
       refine zb hN Z (qd Z (za (vg Z Z) (zf _ Z (fun h29 => ?_) (fun h29 => ?_))))
       ·exact tE h29 H fun H=>zn hN Z (zm (zv tyS3 Z Z) Z (za (yj _ Z Z (.inl ⟨Z,Z⟩)) (zj (vu tyS3 Z Z Z Z) Z ⟨_,yx H,⟨Z,Z,Z,Z,U⟩⟩)))
       ·exact fE h29 H fun H=>zl ⟨_,yx H,⟨Z,Z,Z,Z,U⟩⟩
     ·refine fE h25 H fun H=>zb hN Z (zm (zv tyS3 Z Z) Z (za (wg Z Z) (qe Z (zf _ Z (fun h30 => ?_) (fun h30 => ?_)))))
      ·exact tE h30 H fun H=>zn hN Z (zm (zv tyS3 Z Z) Z (za (yj _ Z Z (.inr (.inl ⟨Z,Z⟩))) (zj (vu tyS3 Z Z Z Z) Z ⟨_,yx H,⟨Z,Z,Z,Z,U⟩⟩)))
      ·refine fE h30 H fun H=>zn hN Z (zm (zv jj Z Z) Z (qd Z (za (ya (u':=vlst (List.map zp [x22])) (yo [[_]] qf ⟨Z,.inl ⟨_,Z,Z,Z⟩,Z,U⟩ Z Z) Z) (gE H fun h31 H=>zj (va qf (fun _=>Z) Z Z Z ⟨by simp,by first | (simp; done) | simpa using h31⟩ Z) Z ?_))))
       refine xy (xw jj Z Z (by rw [List.length_map]) Z) Z Z ?_
       exact ⟨_,yx H,⟨Z,Z,Z,Z,U⟩⟩
    ·rintro A X ⟨c17,l18⟩ hN hR H
     replace H:z5r c17 l18=some r:=H
     unfold z5r at H
     refine zb hN Z (zm (zv jj Z Z) Z (bE H fun r32 h33 H=>wx (rn [(0,4)]) [(0,_,_,some _)] [] (w0k l18 r32 h33) ⟨Z,U⟩ ⟨.inl (.inl Z),U⟩ ⟨⟨⟨Z,Z,Z⟩,by simp [ue,x0i h33]⟩,U⟩ Z ?_))
     refine ze (z9y 2 0 4 Z Z Z (by rw [List.length_map]; exact (x0i h33).symm) ?_)
     refine zn hN Z (zm (zv jj Z Z) Z (bE H fun r34 h35 H=>za (zk (z41 r32 [47] r34 h35) ⟨.inl Z,.inl Z,U⟩) (gE H fun h36 H=>za (jb Z Z (Nat.le_trans h36 (by decide))) (qe Z (qe Z (zi ?_))))))
     cases H
     exact ⟨.inr Z,[(2,.dat (vstr ([47]++r34))),(3,.dat (vint 0))],[],⟨Z,Z,U⟩,U,Z,Z,⟨.inl Z,.inl Z,U⟩⟩
   ·rintro k9 x12 v8 q10 h37 h38 H hq10
    replace H:z10 k9 x12 v8=some q10:=H
    unfold z10 at H
    refine zb hN Z (za (zy Z Z) (ze (zf _ Z (fun h => ?_) (fun h=>(lt_f h37 h).elim))))
    refine zl (yb (ι:=Bs) (fun i=>[(2,.dat (vstr [])),(3,.dat (vint 0)),(6,.dat (vstr i)),(24,.dat (vlst (List.map xp r5.1))),(25,.dat (vint (r5.1.length:Int))),(26,.dat (vint (k9:Int)))]) (fun i=>[]) (fun i=>z11 i=some q10) (fun i=>Z) ?_ ?_)
    ·skip
     refine zx (zb hN Z (za (wc y81 (fun _=>Z) Z Z h38) (za (kh y0f Z (qk h38) Z) (zj (qu 5 y0a Z) Z (zj (qm y0f Z Z Z Z) Z (yb (ι:=Bool) (fun i=>[(2,.dat (vstr [])),(3,.dat (vint 0)),(6,.dat (vstr v8)),(8,.ptr 5 0),(24,.dat (vlst (List.map xp r5.1))),(25,.dat (vint (r5.1.length:Int))),(26,.dat (vint (k9:Int))),(43,.dat (zh i))]) (fun i=>[(5,.box none 158 [.dat (vval (.int .u8 x12.c_)),.dat (zh x12.plain_)])]) (fun i=>Qd v8 x12 i=some q10) (fun i=>Z) ?_ ?_))))))
     ·skip
      refine zn hN Z (za (zq x51 Z) (zm (zv tyS4 Z Z) Z (qd Z (yi (j:=2) Z Z (fun h39 => ?_) (fun h39 => ?_) Z))))
      ·refine u3 h39 H fun h40 H=>zg Z Z h39 (zq z62 Z) (jr Z Z h39 (zv tyS5 Z Z) Z (zg Z Z h39 (jg tyU5 z26 Z) (zg Z Z h39 (y4m z26 Z tyU9 Z) (bE H fun r41 h42 H=>zg Z Z h39 (zk (z43 (encL (IntKind.wrap .i32 x12.c_)) [97,98,99,100,101,102,103,104,105,106,107,108,109,110,111,112,113,114,115,116,117,118,119,120,121,122,65,66,67,68,69,70,71,72,73,74,75,76,77,78,79,80,81,82,83,84,85,86,87,88,89,90,48,49,50,51,52,53,54,55,56,57,45,46,95,126] r41 h42) ⟨.inl Z,.inl Z,U⟩) (zg Z Z h39 (zd (.dat _) Z) (yi (j:=8) Z Z (fun h43 => ?_) (fun h43 => ?_) Z))))))
       ·exact u1 h43 H fun h44 H=>zg Z Z h43 (zq z62 Z) (jr Z Z h43 (zv tyS5 Z Z) Z (zg Z Z h43 (zy Z Z) (zg Z Z h39 (yh Z (bTT h44) Z) (za (ye Z (bFF h40) Z) ⟨decide (x12.c_ < 128),H,⟨Z,Z,Z,Z,Z,Z,Z,Z,U⟩,⟨Z,U⟩⟩))))
       ·exact u2 h43 H fun h45 H=>zc Z Z h43 (zc Z Z h43 (zc Z Z h43 (zg Z Z h39 (ye Z (bFF h45) Z) (za (ye Z (bFF h40) Z) ⟨false,H,⟨Z,Z,Z,Z,Z,Z,Z,Z,U⟩,⟨Z,U⟩⟩))))
      ·exact u4 h39 H fun h46 H=>zc Z Z h39 (zc Z Z h39 (zc Z Z h39 (zc Z Z h39 (zc Z Z h39 (zc Z Z h39 (yt Z Z (yt Z Z (yt Z Z (zc Z Z h39 (za (yh Z (bTT h46) Z) ⟨true,H,⟨Z,Z,Z,Z,Z,Z,Z,Z,U⟩,⟨Z,U⟩⟩))))))))))
     ·rintro v47 H
      replace H:Qd v8 x12 v47=some q10:=H
      unfold Qd at H
      refine zf _ Z (fun h48 => ?_) (fun h48 => ?_)
      ·exact tE h48 H fun H=>zn hN Z (qd Z (za (zq z62 Z) (zm (zv tyS5 Z Z) Z (za (ya (u':=vlst (List.map qn [x12.c_])) (yo [[_]] Zi ⟨Z,.inl ⟨_,Z,Z,Z⟩,Z,U⟩ Z Z) Z) (za (y0y (C:=qn) Qm tyU5 tyU9 (fun _=>Z) Z) (gE H fun h49 H=>za (jb Z Z (Nat.le_trans h49 (by decide))) (qe Z ⟨(v8++(strN [x12.c_])),H,⟨Z,Z,Z,Z,Z,Z,U⟩,U⟩)))))))
      ·exact fE h48 H fun H=>zn hN Z (qd Z (za (zq z62 Z) (zm (zv tyS5 Z Z) Z (bE H fun r50 h51 H=>za (zk (x2h x12.c_ r50 h51) ⟨.inl Z,U⟩) (gE H fun h52 H=>za (jb Z Z (Nat.le_trans h52 (by decide))) (qe Z ⟨(v8++r50),H,⟨Z,Z,Z,Z,Z,Z,U⟩,U⟩))))))
    ·rintro v53 H
     replace H:z11 v53=some q10:=H
     unfold z11 at H
     exact zn hN Z (za (qo Z Z (by omega)) (qd Z ⟨_,yx H,⟨Z,Z,Z,Z,Z,Z,U⟩,U⟩))
theorem w01 (s p q:Bs) (r:Bs) (H:y1y s p q=some r):Fn Tryz.prog 157 [vstr s,vstr p,vstr q] (zu [vstr r]):=by
 unfold y1y at H
 obtain ⟨⟨h1,h2,h3⟩,h4⟩:=gif H
 cases h4
 refine Ze (by kernel_rfl) fun M w vs hM h => ?_
 have hv:=kk (us:=[.string ⟨s.toArray⟩,.string ⟨p.toArray⟩,.string ⟨q.toArray⟩]) h
 subst hv
 obtain ⟨m,hm⟩:=y1w hM
 have hle:=Lib.countB_le ⟨p.toArray⟩ (by simpa [ByteArray.size] using h2) _ ⟨s.toArray⟩ (Nat.le_refl _)
 have e1:(ByteArray.mk s.toArray).size=s.length:=by simp [ByteArray.size]
 have e2:(ByteArray.mk q.toArray).size=q.length:=by simp [ByteArray.size]
 have hmul:Lib.countB ⟨s.toArray⟩ ⟨p.toArray⟩ * q.length≤1000001 * 1000000:=Nat.mul_le_mul (by omega) h3
 refine (Tryz.strings_ReplaceAll ⟨s.toArray⟩ ⟨p.toArray⟩ ⟨q.toArray⟩ m w (by rw [e1]; omega) hm (by simpa [ByteArray.size] using h2) (by rw [e1,e2]; omega)).mono ?_
 rintro e w' ⟨rfl,hb⟩
 exact ⟨_,Z,Z,Kp.of_below hb⟩

theorem x2i (s1:Bs) (r:(Bs)) (H:z1d s1=some r):Fn Tryz.prog 158 [vstr s1] (zu [vstr r]):=by
 refine ⟨by kernel_rfl,yg (us:=[vstr r]) Tryz.func158 Z Z Z Z fun X hN => ?_⟩
 unfold z1d at H
 refine zb hN Z (qe Z (zb hN Z (qd Z (bE H fun r2 h3 H=>za (zk (y6h s1 r2 h3) ⟨.inl Z,U⟩) (qd Z (za (zz Z Z) (za (zz Z Z) (qe Z (qe Z (zb hN Z (qe Z (ze (zb hN Z (qd Z (za (qi y8l Z) (qd Z (zx (vp 5 1 5 1 Z Z Z (gE H fun h7 H=>qv (fun (k5:Nat) (s:(List Int))=>[(5,.row 1 s.length),(13,.dat (vlst (List.map xp r2.1))),(14,.dat (vint (r2.1.length:Int))),(15,.dat (vint (k5:Int)))]) (fun (k5:Nat) (s:(List Int))=>[(1,.row 5 1 (List.map qn s))]) [] H ⟨Z,Z,Z,Z,U⟩ ⟨Z,U⟩ (fun _ _=>Z) ?_ ?_)))))))))))))))))))
 ·rintro l4 H
  replace H:z5l l4=some r:=H
  unfold z5l at H
  refine zb hN Z (za (zy Z Z) (ze (zf _ Z (fun h=>(lt_t h).elim) (fun h => ?_))))
  refine yr (ze (Zj 5 1 Z Z Z (zn hN Z (qd Z (za (y0y (C:=qn) Qm tyU5 tyU9 (fun _=>Z) Z) (qe Z (zi ?_)))))))
  cases H
  exact ⟨U,.inl Z,U⟩
 ·rintro k5 x8 l4 q6 h9 h10 H hq6
  replace H:z1v k5 x8 l4=some q6:=H
  unfold z1v at H
  refine zb hN Z (za (zy Z Z) (ze (zf _ Z (fun h => ?_) (fun h=>(lt_f h9 h).elim))))
  refine zl (ze (zx (zb hN Z (za (wc y81 (fun _=>Z) Z Z h10) (za (kh y0f Z (qk h10) Z) (zj (qu 2 y0a Z) Z (zj (qm y0f Z Z Z Z) Z (zn hN Z (za (zd (.row _ _) Z) (za (zq z62 Z) (zm (zv tyS5 Z Z) Z (za (ya (u':=vlst (List.map qn [x8.c_])) (yo [[_]] Zi ⟨Z,.inl ⟨_,Z,Z,Z⟩,Z,U⟩ Z Z) Z) (gE H fun h11 H=>zj (va Zi (fun _=>Z) Z Z Z ⟨by simp,by first | (simp; done) | simpa using h11⟩ Z) Z ?_)))))))))))))
  exact za (qr (.row _ _) Z) (zn hN Z (za (qo Z Z (by omega)) (qd Z ⟨_,yx H,⟨Z,Z,Z,Z,U⟩,⟨Z,U⟩⟩)))
end Go.Proofs.YtmdllhcjefcggacGreatDoor
