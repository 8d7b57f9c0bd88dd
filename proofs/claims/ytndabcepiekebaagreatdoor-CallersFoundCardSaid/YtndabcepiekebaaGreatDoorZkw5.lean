/- Walks along the models. Printed by a program. -/
import Derived.Test.YtndabcepiekebaaGreatDoorZkw4
namespace Go.Proofs.YtndabcepiekebaaGreatDoor
open Go.RowKit
set_option linter.unusedVariables false
set_option maxRecDepth 100000
set_option maxHeartbeats 2000000
theorem w3f (v1:(List yr)) (v2:Int) (r:(Int)) (H:z8w v1 v2=some r):Fn Tryz.prog 44 [vlst (List.map vx v1),vint v2] (zw [vint r]):=by
 refine ⟨by kernel_rfl,yd (us:=[vint r]) Tryz.func44 Z Z Z Z fun X hN => ?_⟩
 unfold z8w at H
 refine zb hN Z (qe Z (zb hN Z (qd Z (qd Z (bE H fun x3 h4 H=>za (jm Yr (fun _=>Z) Z Z h4) (za (kj Qw Z (yy (vu h4).2) Z) (zi (we 1 z3t Z) Z (zi (yp Qw Z Z Z Z) Z (ze (zb hN Z (za (zn xn Z) (zu (zp tyS9 Z Z) Z (bE H fun r5 h6 H=>za (zl (xu x3.App r5 h6) ⟨.inl Z,U⟩) (za (yt Z) (zg _ Z (fun h7 => ?_) (fun h7 => ?_))))))))))))))))
 ·refine tE h7 H fun H=>zb hN Z (qe Z (zh ?_))
  cases H
  exact ⟨U,.inl Z,U⟩
 ·refine fE h7 H fun H=>zk (ze (zb hN Z (za (zn Zs Z) (zu (zp tyS9 Z Z) Z (bE H fun r8 h9 H=>za (zl (w3d x3.Sum r8 h9) ⟨.inl Z,U⟩) (za (yt Z) (zg _ Z (fun h10 => ?_) (fun h10 => ?_))))))))
  ·refine tE h10 H fun H=>zb hN Z (qe Z (zh ?_))
   cases H
   exact ⟨U,.inl Z,U⟩
  ·refine fE h10 H fun H=>zk (ze (yf (ι:=Bool) (fun i=>[(5,.ptr 1 0),(53,.dat (zj i))]) (fun i=>[(1,.box none 80 [.dat (vstr x3.App),.dat (vstr x3.Sum),.dat (vlst (List.map zo x3.Scopes)),.dat (vint x3.From),.dat (vint x3.To)])]) (fun i=>Ys x3 i=some r) (fun i=>Z) ?_ ?_))
   ·skip
    refine wx mixed hN Z Z (qd Z (za (qh Z Z) (qd Z (yh (j:=2) Z Z (fun h11 => ?_) (fun h11 => ?_) Z))))
    ·refine u1 h11 H fun h12 H=>zd Z Z h11 (zn xn Z) (vj Z Z h11 (zp tyS9 Z Z) Z (zd Z Z h11 (zf (.dat _) Z) (zd Z Z h11 (zf (.dat _) Z) (zd Z Z h11 (yw _ Z Z (.inr (.inl ⟨Z,Z⟩))) (bE H fun x13 h14 H=>zd Z Z h11 (jm Yr (fun _=>Z) Z Z h14) (zd Z Z h11 (vr xn Z) (zd Z Z h11 (yj tyS9 Z (yy (vu h14).2) Z) (zd Z Z h11 (x05 Z Z) (zd Z Z h11 (zf (.dat _) Z) (yh (j:=12) Z Z (fun h15 => ?_) (fun h15 => ?_) Z))))))))))
     ·refine u3 h15 H fun h16 H=>zd Z Z h15 (zn xn Z) (vj Z Z h15 (zp tyS9 Z Z) Z (zd Z Z h15 (zf (.dat _) Z) (zd Z Z h15 (zf (.dat _) Z) (zd Z Z h15 (yw _ Z Z (.inr (.inl ⟨Z,Z⟩))) (zd Z Z h15 (jm Yr (fun _=>Z) Z Z h14) (zd Z Z h15 (vr xn Z) (zd Z Z h15 (yj tyS9 Z (yy (vu h14).2) Z) (zd Z Z h15 (wy Z Z) (zd Z Z h15 (zf (.dat _) Z) (yh (j:=22) Z Z (fun h17 => ?_) (fun h17 => ?_) Z))))))))))
      ·refine u1 h17 H fun h18 H=>zd Z Z h17 (zn Zs Z) (vj Z Z h17 (zp tyS9 Z Z) Z (zd Z Z h17 (zf (.dat _) Z) (zd Z Z h17 (zf (.dat _) Z) (zd Z Z h17 (yw _ Z Z (.inr (.inl ⟨Z,Z⟩))) (zd Z Z h17 (jm Yr (fun _=>Z) Z Z h14) (zd Z Z h17 (vr Zs Z) (zd Z Z h17 (yj tyS9 Z (yy (vu h14).2) Z) (zd Z Z h17 (z79 Z Z) (zd Z Z h15 (zz Z (bTT h18) Z) (zd Z Z h11 (yb Z (bFF h16) Z) (za (zz Z (bTT h12) Z) ⟨Z,?_⟩)))))))))))
       exact ⟨(Op.bytesLess x3.Sum x13.Sum || x3.Sum == x13.Sum),H,⟨Z,Z,U⟩,⟨Z,U⟩⟩
      ·refine u2 h17 H fun h19 H=>zc Z Z h17 (zc Z Z h17 (zc Z Z h17 (zc Z Z h17 (zc Z Z h17 (zc Z Z h17 (zc Z Z h17 (zc Z Z h17 (zc Z Z h17 (zd Z Z h15 (yb Z (bFF h19) Z) (zd Z Z h11 (yb Z (bFF h16) Z) (za (zz Z (bTT h12) Z) ⟨Z,?_⟩)))))))))))
       exact ⟨false,H,⟨Z,Z,U⟩,⟨Z,U⟩⟩
     ·refine u4 h15 H fun h20 H=>zc Z Z h15 (zc Z Z h15 (zc Z Z h15 (zc Z Z h15 (zc Z Z h15 (zc Z Z h15 (zc Z Z h15 (zc Z Z h15 (zc Z Z h15 (zc Z Z h15 (yg Z Z (yg Z Z (yg Z Z (yg Z Z (yg Z Z (yg Z Z (yg Z Z (yg Z Z (yg Z Z (zc Z Z h15 (zd Z Z h11 (zz Z (bTT h20) Z) (za (zz Z (bTT h12) Z) ⟨Z,?_⟩)))))))))))))))))))))
      exact ⟨true,H,⟨Z,Z,U⟩,⟨Z,U⟩⟩
    ·refine u2 h11 H fun h21 H=>zc Z Z h11 (zc Z Z h11 (zc Z Z h11 (zc Z Z h11 (zc Z Z h11 (zc Z Z h11 (zc Z Z h11 (zc Z Z h11 (zc Z Z h11 (zc Z Z h11 (yg Z Z (yg Z Z (yg Z Z (yg Z Z (yg Z Z (yg Z Z (yg Z Z (yg Z Z (yg Z Z (yg Z Z (yg Z Z (yg Z Z (yg Z Z ?_))))))))))))))))))))))
     refine yg Z Z (yg Z Z (yg Z Z (yg Z Z (yg Z Z (yg Z Z (yg Z Z (zc Z Z h11 (za (yb Z (bFF h21) Z) ⟨Z,?_⟩))))))))
     exact ⟨false,H,⟨Z,Z,U⟩,⟨Z,U⟩⟩
   ·rintro v22 H
    replace H:Ys x3 v22=some r:=H
    unfold Ys at H
    refine zg _ Z (fun h23 => ?_) (fun h23 => ?_)
    ·refine tE h23 H fun H=>zb hN Z (qe Z (zh ?_))
     cases H
     exact ⟨U,.inl Z,U⟩
    ·refine fE h23 H fun H=>zk (ze (zb hN Z (za (zn y16 Z) (zu (zp qq Z Z) Z (bE H fun r24 h25 H=>za (zl (x3z x3.Scopes r24 h25) ⟨.inl Z,U⟩) (qe Z (zb hN Z (qd Z (za (wa Z Z) (zg _ Z (fun h26 => ?_) (fun h26 => ?_)))))))))))
     ·refine tE h26 H fun H=>zb hN Z (qd Z (qe Z (zh ?_)))
      cases H
      exact ⟨U,.inl Z,U⟩
     ·refine fE h26 H fun H=>zk (ze (zb hN Z (za (zn y15 Z) (zu (zp tyS3 Z Z) Z (za (zn z3z Z) (zu (zp tyS3 Z Z) Z (bE H fun r27 h28 H=>za (zl (y0p x3.From 0 x3.To r27 h28) ⟨.inl Z,.inl Z,.inl Z,U⟩) (qd Z (yi Z Z (fun hc=>zn z3z Z) (jk Z Z (fun hc=>zp tyS3 (cnd (c:=(!r27)) hc) Z) Z vv (yi Z Z (fun hc=>qh (cnd (c:=(!r27)) hc) Z) (za (wz Z Z (fun hb=>(cnd (c:=(!r27)) (notI hb)))) (zg _ Z (fun h29 => ?_) (fun h29 => ?_))))))))))))))
      ·refine tE h29 H fun H=>zb hN Z (qe Z (zh ?_))
       cases H
       exact ⟨U,.inl Z,U⟩
      ·refine fE h29 H fun H=>zk (zb hN Z (qe Z (zh ?_)))
       cases H
       exact ⟨U,.inl Z,U⟩
theorem w3s (l1:(List yr)) (r:(Int)) (H:z86 l1=some r):Fn Tryz.prog 9 [vlst (List.map vx l1)] (zw [vint r]):=by
 refine ⟨by kernel_rfl,yd (us:=[vint r]) Tryz.func9 Z Z Z Z fun X hN => ?_⟩
 unfold z86 at H
 refine zb hN Z (qe Z (ze (zb hN Z (qd Z (za (yo z3w Z) (za (qh Z Z) (zg _ Z (fun h2 => ?_) (fun h2 => ?_))))))))
 ·refine tE h2 H fun H=>zb hN Z (qe Z (zh ?_))
  cases H
  exact ⟨U,.inl Z,U⟩
 ·refine fE h2 H fun H=>zk (ze (zb hN Z (qd Z (za (yo z3w Z) (qd Z (zx (gE H fun h5 H=>wi (fun (k3:Nat) (s:Unit)=>[(0,.dat (vlst (List.map vx l1))),(9,.dat (vint (l1.length:Int))),(10,.dat (vint (k3:Int)))]) (fun (k3:Nat) (s:Unit)=>[]) () H ⟨Z,Z,Z,U⟩ U (fun _ _=>Z) ?_ ?_)))))))
  ·rintro ⟨⟩ H
   replace H:y6p=some r:=H
   unfold y6p at H
   refine zb hN Z (za (zy Z Z) (ze (zg _ Z (fun h=>(lt_t h).elim) (fun h => ?_))))
   refine qg (zb hN Z (qe Z (zh ?_)))
   cases H
   exact ⟨U,.inl Z,U⟩
  ·rintro k3 x6 ⟨⟩ q4 h7 h8 H hq4
   replace H:y2p l1 k3 x6=some q4:=H
   unfold y2p at H
   refine zb hN Z (za (zy Z Z) (ze (zg _ Z (fun h => ?_) (fun h=>(lt_f h7 h).elim))))
   refine zk (ze (zx (zb hN Z (qd Z (qe Z (zb hN Z (qd Z (qd Z (bE H fun r9 h10 H=>za (zl (w3f l1 (k3:Int) r9 h10) ⟨.inl Z,.inl Z,U⟩) (qe Z (zb hN Z (qd Z (za (wa Z Z) (zg _ Z (fun h11 => ?_) (fun h11 => ?_)))))))))))))))
   ·refine tE h11 H fun H=>zb hN Z (qd Z (qe Z (zh ?_)))
    replace H:=retl H hq4
    cases H
    exact ⟨U,.inl Z,U⟩
   ·exact fE h11 H fun H=>zk (zq hN Z (za (qw Z Z (by omega)) (qd Z ⟨_,qk H,⟨Z,Z,Z,U⟩,U⟩)))
theorem w3r (k1:wo) (r:(Int)) (H:z85 k1=some r):Fn Tryz.prog 11 [vagg (xi k1)] (zw [vint r]):=by
 refine ⟨by kernel_rfl,yd (us:=[vint r]) Tryz.func11 Z Z Z Z fun X hN => ?_⟩
 unfold z85 at H
 refine zb hN Z (zi (jf 1 Z) Z (qe Z (ze (yf (ι:=Bool) (fun i=>[(1,.ptr 1 0),(15,.dat (zj i))]) (fun i=>[(1,.box none 30 [.dat (vstr k1.Issuer),.dat (vstr k1.Audience),.dat (vlst (List.map wg k1.Signers)),.dat (vlst (List.map jb k1.Revoked)),.dat (vlst (List.map vx k1.Holders)),.dat (vint k1.Skew)])]) (fun i=>z1c k1 i=some r) (fun i=>Z) ?_ ?_))))
 ·skip
  refine zq hN Z (za (zn z01 Z) (zu (zp tyS9 Z Z) Z (bE H fun r2 h3 H=>za (zl (xu k1.Issuer r2 h3) ⟨.inl Z,U⟩) (za (yt Z) (qd Z (yh (j:=4) Z Z (fun h4 => ?_) (fun h4 => ?_) Z))))))
  ·exact u3 h4 H fun h5 H=>zd Z Z h4 (zn z7o Z) (vj Z Z h4 (zp tyS9 Z Z) Z (bE H fun r6 h7 H=>zd Z Z h4 (zl (xu k1.Audience r6 h7) ⟨.inl Z,U⟩) (zd Z Z h4 (yt Z) (za (yb Z (bFF h5) Z) ⟨!r6,H,⟨Z,Z,U⟩,⟨Z,U⟩⟩))))
  ·exact u4 h4 H fun h8 H=>zc Z Z h4 (zc Z Z h4 (zc Z Z h4 (zc Z Z h4 (za (zz Z (bTT h8) Z) ⟨true,H,⟨Z,Z,U⟩,⟨Z,U⟩⟩))))
 ·rintro v9 H
  replace H:z1c k1 v9=some r:=H
  unfold z1c at H
  refine zg _ Z (fun h10 => ?_) (fun h10 => ?_)
  ·refine tE h10 H fun H=>zb hN Z (qe Z (zh ?_))
   cases H
   exact ⟨U,.inl Z,U⟩
  ·refine fE h10 H fun H=>zk (ze (zb hN Z (za (zn z32 Z) (zu (zp Qy Z Z) Z (bE H fun r11 h12 H=>za (zl (x3y k1.Signers r11 h12) ⟨.inl Z,U⟩) (qe Z (zb hN Z (qd Z (za (wa Z Z) (zg _ Z (fun h13 => ?_) (fun h13 => ?_)))))))))))
   ·refine tE h13 H fun H=>zb hN Z (qd Z (qe Z (zh ?_)))
    cases H
    exact ⟨U,.inl Z,U⟩
   ·refine fE h13 H fun H=>zk (ze (zb hN Z (za (zn y2a Z) (zu (zp y10 Z Z) Z (bE H fun r14 h15 H=>za (zl (w3q k1.Revoked r14 h15) ⟨.inl Z,U⟩) (qe Z (zb hN Z (qd Z (za (wa Z Z) (zg _ Z (fun h16 => ?_) (fun h16 => ?_)))))))))))
    ·refine tE h16 H fun H=>zb hN Z (qd Z (qe Z (zh ?_)))
     cases H
     exact ⟨U,.inl Z,U⟩
    ·refine fE h16 H fun H=>zk (ze (zb hN Z (za (zn y19 Z) (zu (zp y1z Z Z) Z (bE H fun r17 h18 H=>za (zl (w3s k1.Holders r17 h18) ⟨.inl Z,U⟩) (qe Z (zb hN Z (qd Z (za (wa Z Z) (zg _ Z (fun h19 => ?_) (fun h19 => ?_)))))))))))
     ·refine tE h19 H fun H=>zb hN Z (qd Z (qe Z (zh ?_)))
      cases H
      exact ⟨U,.inl Z,U⟩
     ·refine fE h19 H fun H=>zk (ze (zb hN Z (za (zn z00 Z) (zu (zp tyS3 Z Z) Z (bE H fun r20 h21 H=>za (zl (y0p k1.Skew 0 600000 r20 h21) ⟨.inl Z,.inl Z,.inl Z,U⟩) (zg _ Z (fun h22 => ?_) (fun h22 => ?_)))))))
      ·refine tE h22 H fun H=>zb hN Z (qe Z (zh ?_))
       cases H
       exact ⟨U,.inl Z,U⟩
      ·refine fE h22 H fun H=>zk (zb hN Z (qe Z (zh ?_)))
       cases H
       exact ⟨U,.inl Z,U⟩
theorem x4p (n1:Int) (r:(Bool)) (H:z5c n1=some r):Fn Tryz.prog 136 [vint n1] (zw [zj r]):=by
 refine ⟨by kernel_rfl,yd (us:=[zj r]) Tryz.func136 Z Z Z Z fun X hN => ?_⟩
 unfold z5c at H
 refine zb hN Z (qe Z (zb hN Z (qd Z (za (vy Z Z) (qd Z (qj Z Z (fun hc=>zf (.dat _) Z) (qj Z Z (fun hc=>zy (cnd (c:=(decide (0≤n1))) hc) Z) (za (vi Z (fun hb=>(cnd (c:=(decide (0≤n1))) hb)) Z) (qe Z (zh ?_))))))))))
 cases H
 exact ⟨U,.inl Z,U⟩
theorem x4k (c1:Int) (r:(Bool)) (H:y36 c1=some r):Fn Tryz.prog 266 [vval (.int .u8 c1)] (zw [zj r]):=by
 refine ⟨by kernel_rfl,yd (us:=[zj r]) Tryz.func266 Z Z Z Z fun X hN => ?_⟩
 unfold y36 at H
 refine zb hN Z (qe Z (zb hN Z (qd Z (za (vy Z Z) (qd Z (qj Z Z (fun hc=>zf (.dat _) Z) (qj Z Z (fun hc=>vq (cnd (c:=(decide (97≤c1))) hc) Z) (za (vi Z (fun hb=>(cnd (c:=(decide (97≤c1))) hb)) Z) (qd Z (yi Z Z (fun hc=>zf (.dat _) Z) (yi Z Z (fun hc=>vy (cnd (c:=(!((decide (97≤c1)) && (decide (c1≤122))))) hc) Z) (yi Z Z (fun hc=>zf (.dat _) (cnd (c:=(!((decide (97≤c1)) && (decide (c1≤122))))) hc)) (vk Z Z (fun hc=>zf (.dat _) Z) (vk Z Z (fun hc=>vq (cnd (c:=((!((decide (97≤c1)) && (decide (c1≤122)))) && (decide (65≤c1)))) hc) Z) (yi Z Z (fun hc=>vi (cnd (c:=(!((decide (97≤c1)) && (decide (c1≤122))))) hc) (fun hb=>(cnd (c:=((!((decide (97≤c1)) && (decide (c1≤122)))) && (decide (65≤c1)))) (andI hc hb))) Z) (za (wz Z Z (fun hb=>(cnd (c:=(!((decide (97≤c1)) && (decide (c1≤122))))) (notI hb)))) (qe Z (zh ?_))))))))))))))))))
 cases H
 exact ⟨U,.inl Z,U⟩
theorem x4l (c1:Int) (r:(Bool)) (H:y37 c1=some r):Fn Tryz.prog 267 [vval (.int .u8 c1)] (zw [zj r]):=by
 refine ⟨by kernel_rfl,yd (us:=[zj r]) Tryz.func267 Z Z Z Z fun X hN => ?_⟩
 unfold y37 at H
 refine zb hN Z (qe Z (zb hN Z (qd Z (za (vy Z Z) (qd Z (qj Z Z (fun hc=>zf (.dat _) Z) (qj Z Z (fun hc=>vq (cnd (c:=(decide (48≤c1))) hc) Z) (za (vi Z (fun hb=>(cnd (c:=(decide (48≤c1))) hb)) Z) (qe Z (zh ?_))))))))))
 cases H
 exact ⟨U,.inl Z,U⟩
theorem w34 (c1:Int) (r:(Bool)) (H:z9b c1=some r):Fn Tryz.prog 205 [vval (.int .u8 c1)] (zw [zj r]):=by
 refine ⟨by kernel_rfl,yd (us:=[zj r]) Tryz.func205 Z Z Z Z fun X hN => ?_⟩
 unfold z9b at H
 refine zb hN Z (qe Z (yf (ι:=Bool) (fun i=>[(2,.dat (zj i))]) (fun i=>[]) (fun i=>z4n i=some r) (fun i=>Z) ?_ ?_))
 ·skip
  refine zq hN Z (qd Z (bE H fun r2 h3 H=>za (zl (x4k c1 r2 h3) ⟨.inl Z,U⟩) (qd Z (yh (j:=2) Z Z (fun h4 => ?_) (fun h4 => ?_) Z))))
  ·refine u3 h4 H fun h5 H=>zd Z Z h4 (zf (.dat _) Z) (bE H fun r6 h7 H=>zd Z Z h4 (zl (x4l c1 r6 h7) ⟨.inl Z,U⟩) (za (yb Z (bFF h5) Z) (qd Z (yh (j:=6) Z Z (fun h8 => ?_) (fun h8 => ?_) Z))))
   ·exact u3 h8 H fun h9 H=>zd Z Z h8 (zf (.dat _) Z) (bE H fun r10 h11 H=>zd Z Z h8 (zl (y4s [33,35,36,37,38,39,42,43,45,46,94,95,96,124,126] c1 r10 h11) ⟨.inl Z,.inl Z,U⟩) (zd Z Z h8 (vy Z Z) (za (yb Z (bFF h9) Z) (qe Z ⟨decide (0≤r10),H,⟨Z,U⟩,U⟩))))
   ·exact u4 h8 H fun h12 H=>zc Z Z h8 (zc Z Z h8 (zc Z Z h8 (za (zz Z (bTT h12) Z) (qe Z ⟨true,H,⟨Z,U⟩,U⟩))))
  ·exact u4 h4 H fun h13 H=>zc Z Z h4 (zc Z Z h4 (za (zz Z (bTT h13) Z) (qd Z (zc Z Z Z (zc Z Z Z (zc Z Z Z (za (zz Z Z Z) (qe Z ⟨true,H,⟨Z,U⟩,U⟩))))))))
 ·rintro v14 H
  replace H:z4n v14=some r:=H
  unfold z4n at H
  refine zh ?_
  cases H
  exact ⟨U,.inl Z,U⟩
theorem x4n (s1:Bs) (r:(Bool)) (H:z5a s1=some r):Fn Tryz.prog 142 [vstr s1] (zw [zj r]):=by
 refine ⟨by kernel_rfl,yd (us:=[zj r]) Tryz.func142 Z Z Z Z fun X hN => ?_⟩
 unfold z5a at H
 refine zb hN Z (qe Z (ze (zb hN Z (qd Z (za (qp tyU9 Z) (qd Z (zx (gE H fun h4 H=>wi (fun (k2:Nat) (s:Unit)=>[(0,.dat (vstr s1)),(5,.dat (vint (s1.length:Int))),(6,.dat (vint (k2:Int)))]) (fun (k2:Nat) (s:Unit)=>[]) () H ⟨Z,Z,Z,U⟩ U (fun _ _=>Z) ?_ ?_))))))))
 ·rintro ⟨⟩ H
  replace H:y7y s1=some r:=H
  unfold y7y at H
  refine zb hN Z (za (zy Z Z) (ze (zg _ Z (fun h=>(lt_t h).elim) (fun h => ?_))))
  refine qg (zb hN Z (qd Z (za (jj Z Z) (qd Z (qj Z Z (fun hc=>zf (.dat _) Z) (qj Z Z (fun hc=>qp tyU9 (cnd (c:=(decide (s1≠[]))) hc)) (qj Z Z (fun hc=>vq (cnd (c:=(decide (s1≠[]))) hc) Z) (za (vi Z (fun hb=>(cnd (c:=(decide (s1≠[]))) hb)) Z) (qe Z (zh ?_))))))))))
  cases H
  exact ⟨U,.inl Z,U⟩
 ·rintro k2 x5 ⟨⟩ q3 h6 h7 H hq3
  replace H:y3u k2 x5=some q3:=H
  unfold y3u at H
  refine zb hN Z (za (zy Z Z) (ze (zg _ Z (fun h => ?_) (fun h=>(lt_f h6 h).elim))))
  refine zk (ze (zx (zb hN Z (qd Z (qe Z (zb hN Z (qd Z (qd Z (za (wq tyU9 Z Z h7) (bE H fun r8 h9 H=>za (zl (w34 (x5.toNat:Int) r8 h9) ⟨.inl Z,U⟩) (za (yt Z) (zg _ Z (fun h10 => ?_) (fun h10 => ?_)))))))))))))
  ·refine tE h10 H fun H=>zb hN Z (qe Z (zh ?_))
   replace H:=retl H hq3
   cases H
   exact ⟨U,.inl Z,U⟩
  ·exact fE h10 H fun H=>zk (zq hN Z (za (qw Z Z (by omega)) (qd Z ⟨_,qk H,⟨Z,Z,Z,U⟩,U⟩)))
theorem y4t (s p:Bs) (r:Bs×Bs×Bool) (H:xq s p=some r):Fn Tryz.prog 150 [vstr s,vstr p] (zw [vstr r.1,vstr r.2.1,zj r.2.2]):=by
 unfold xq at H
 obtain ⟨h1,h2⟩:=gif H
 cases h2
 refine xx (by kernel_rfl) fun M w vs hM h => ?_
 have hv:=kr (us:=[.string ⟨s.toArray⟩,.string ⟨p.toArray⟩]) h
 subst hv
 obtain ⟨m,hm⟩:=y30 hM
 refine (Tryz.strings_Cut ⟨s.toArray⟩ ⟨p.toArray⟩ m w (by simp [ByteArray.size]; omega) hm).mono ?_
 rintro e w' ⟨rfl,n,rfl⟩
 refine ⟨_,Z,⟨[_,_,_],Z,Z,fun j u hj => ?_⟩,⟨Z,Z,Z,Nat.le_refl _,fun _ _ _=>Z⟩⟩
 rcases j with _ | _ | _ | j
 ·cases hj; exact ⟨_,Z,Z⟩
 ·cases hj; exact ⟨_,Z,Z⟩
 ·cases hj; exact ⟨_,Z,Z⟩
 ·simp at hj

theorem x33 (s p:Bs) (r:Bs) (H:z4z s p=some r):Fn Tryz.prog 211 [vstr s,vstr p] (zw [vstr r]):=by
 unfold z4z at H
 cases H
 refine xx (by kernel_rfl) fun M w vs hM h => ?_
 have hv:=kr (us:=[.string ⟨s.toArray⟩,.string ⟨p.toArray⟩]) h
 subst hv
 refine (Tryz.strings_TrimPrefix ⟨s.toArray⟩ ⟨p.toArray⟩ w).mono ?_
 rintro e w' ⟨rfl,rfl⟩
 exact ⟨_,Z,Z,Kp.refl _ _⟩

theorem w4n (v1:Bs) (r:(Int×Int)) (H:z17 v1=some r):Fn Tryz.prog 271 [vstr v1] (zw [vint r.1,verr r.2]):=by
 refine ⟨by kernel_rfl,yd (us:=[vint r.1,verr r.2]) Tryz.func271 Z Z Z Z fun X hN => ?_⟩
 unfold z17 at H
 refine zb hN Z (qe Z (qe Z (zb hN Z (qd Z (za (qp tyU9 Z) (qe Z (ze (zb hN Z (qd Z (qj (s := .dat (vint (v1.length:Int))) Z Z (fun hc=>zf (.dat _) Z) (qj (s := .dat (zj (decide (0 < (v1.length:Int))))) Z Z (fun hc=>zy Z (cnd (c:=false) (s := .dat (vint (v1.length:Int))) hc)) (qj (s := .dat (zj (decide (0 < (v1.length:Int))))) Z Z (fun hc=>zf (.dat _) (cnd (c:=false) (s := .dat (zj (decide (0 < (v1.length:Int))))) hc)) (vk (s := .dat (vint (v1.length:Int))) (c:=false) (b:=decide (0 < (v1.length:Int))) Z Z (fun hc=>zf (.dat _) Z) (vk (s := .dat (zj (decide ((v1.length:Int) < 10)))) (c:=false) (b:=decide (0 < (v1.length:Int))) Z Z (fun hc=>zy (cnd (c:=(false && (decide (0 < (v1.length:Int))))) (s := .dat (vint (v1.length:Int))) hc) Z) (qj (s := .dat (zj ((decide (0 < (v1.length:Int))) && (decide ((v1.length:Int) < 10))))) Z Z (fun hc=>vi (cnd (c:=false) (s := .dat (zj (decide (0 < (v1.length:Int))))) hc) (fun hb=>(cnd (c:=(false && (decide (0 < (v1.length:Int))))) (s := .dat (zj (decide ((v1.length:Int) < 10)))) (andI hc hb))) Z) (za (vi Z (fun hb=>(cnd (c:=false) (s := .dat (zj ((decide (0 < (v1.length:Int))) && (decide ((v1.length:Int) < 10))))) hb)) Z) (qd Z (yi (s := .dat (zj true)) Z Z (fun hc=>zf (.dat _) Z) (vk (s := .dat (vint (v1.length:Int))) (c:=(!(false && ((decide (0 < (v1.length:Int))) && (decide ((v1.length:Int) < 10)))))) (b:=true) Z Z (fun hc=>zf (.dat _) Z) (vk (s := .dat (zj (decide (0 < (v1.length:Int))))) (c:=(!(false && ((decide (0 < (v1.length:Int))) && (decide ((v1.length:Int) < 10)))))) (b:=true) Z Z (fun hc=>zy Z (cnd (c:=((!(false && ((decide (0 < (v1.length:Int))) && (decide ((v1.length:Int) < 10))))) && true)) (s := .dat (vint (v1.length:Int))) hc)) (vk (s := .dat (zj (decide (0 < (v1.length:Int))))) (c:=(!(false && ((decide (0 < (v1.length:Int))) && (decide ((v1.length:Int) < 10)))))) (b:=true) Z Z (fun hc=>zf (.dat _) (cnd (c:=((!(false && ((decide (0 < (v1.length:Int))) && (decide ((v1.length:Int) < 10))))) && true)) (s := .dat (zj (decide (0 < (v1.length:Int))))) hc)) (vk (s := .dat (vint (v1.length:Int))) (c:=((!(false && ((decide (0 < (v1.length:Int))) && (decide ((v1.length:Int) < 10))))) && true)) (b:=decide (0 < (v1.length:Int))) Z Z (fun hc=>zf (.dat _) Z) (vk (s := .dat (zj (decide ((v1.length:Int) < 19)))) (c:=((!(false && ((decide (0 < (v1.length:Int))) && (decide ((v1.length:Int) < 10))))) && true)) (b:=decide (0 < (v1.length:Int))) Z Z (fun hc=>zy (cnd (c:=(((!(false && ((decide (0 < (v1.length:Int))) && (decide ((v1.length:Int) < 10))))) && true) && (decide (0 < (v1.length:Int))))) (s := .dat (vint (v1.length:Int))) hc) Z) ?_)))))))))))))))))))))))
 refine vk (s := .dat (zj ((decide (0 < (v1.length:Int))) && (decide ((v1.length:Int) < 19))))) (c:=(!(false && ((decide (0 < (v1.length:Int))) && (decide ((v1.length:Int) < 10)))))) (b:=true) Z Z (fun hc=>vi (cnd (c:=((!(false && ((decide (0 < (v1.length:Int))) && (decide ((v1.length:Int) < 10))))) && true)) (s := .dat (zj (decide (0 < (v1.length:Int))))) hc) (fun hb=>(cnd (c:=(((!(false && ((decide (0 < (v1.length:Int))) && (decide ((v1.length:Int) < 10))))) && true) && (decide (0 < (v1.length:Int))))) (s := .dat (zj (decide ((v1.length:Int) < 19)))) (andI hc hb))) Z) (yi (s := .dat (zj (true && ((decide (0 < (v1.length:Int))) && (decide ((v1.length:Int) < 19)))))) Z Z (fun hc=>vi (cnd (c:=(!(false && ((decide (0 < (v1.length:Int))) && (decide ((v1.length:Int) < 10)))))) (s := .dat (zj true)) hc) (fun hb=>(cnd (c:=((!(false && ((decide (0 < (v1.length:Int))) && (decide ((v1.length:Int) < 10))))) && true)) (s := .dat (zj ((decide (0 < (v1.length:Int))) && (decide ((v1.length:Int) < 19))))) (andI hc hb))) Z) (za (wz Z Z (fun hb=>(cnd (c:=(!(false && ((decide (0 < (v1.length:Int))) && (decide ((v1.length:Int) < 10)))))) (s := .dat (zj (true && ((decide (0 < (v1.length:Int))) && (decide ((v1.length:Int) < 19)))))) (notI hb)))) (zg _ Z (fun h2 => ?_) (fun h2 => ?_))))
 ·refine tE h2 H fun H=>zb hN Z (qd Z (qe Z (yf (ι:=Bs) (fun i=>[(0,.dat (vstr i)),(5,.dat (vstr v1))]) (fun i=>[]) (fun i=>z2j v1 i=some r) (fun i=>Z) ?_ ?_)))
  ·skip
   refine yf (ι:=Bool) (fun i=>[(0,.dat (vstr v1)),(5,.dat (vstr v1)),(39,.dat (zj i))]) (fun i=>[]) (fun i=>z2i v1 i=some r) (fun i=>Z) ?_ ?_
   ·skip
    refine zq hN Z (qd Z (bE H fun x3 h4 H=>za (wq tyU9 Z Z h4) (za (ql Z Z) (qd Z (yh (j:=3) Z Z (fun h5 => ?_) (fun h5 => ?_) Z)))))
    ·exact u3 h5 H fun h6 H=>zd Z Z h5 (zf (.dat _) Z) (zd Z Z h5 (wq tyU9 Z Z h4) (zd Z Z h5 (ql Z Z) (za (yb Z (bFF h6) Z) ⟨decide ((x3.toNat:Int)=43),H,⟨Z,Z,Z,U⟩,U⟩)))
    ·exact u4 h5 H fun h7 H=>zc Z Z h5 (zc Z Z h5 (zc Z Z h5 (za (zz Z (bTT h7) Z) ⟨true,H,⟨Z,Z,Z,U⟩,U⟩)))
   ·rintro v8 H
    replace H:z2i v1 v8=some r:=H
    unfold z2i at H
    refine zg _ Z (fun h9 => ?_) (fun h9 => ?_)
    ·refine tE h9 H fun H=>zb hN Z (qd Z (bE H fun l10 h11 H=>za (jc tyU9 Z Z Z h11) (qe Z (zb hN Z (qd Z (za (qp tyU9 Z) (za (zy Z Z) (zg _ Z (fun h12 => ?_) (fun h12 => ?_)))))))))
     ·refine tE h12 H fun H=>zb hN Z (za (ye (u':=verr 2) (ul (show Tryz.prog.underlying 215=some (.int .i64) from by kernel_rfl) Z) Z) ?_)
      refine qe Z (qe Z (zh ?_))
      cases H
      exact ⟨U,.inl Z,.inl Z,U⟩
     ·exact fE h12 H fun H=>zk ⟨l10,H,⟨Z,Z,U⟩,U⟩
    ·exact fE h9 H fun H=>zk ⟨v1,H,⟨Z,Z,U⟩,U⟩
  ·rintro v13 H
   replace H:z2j v1 v13=some r:=H
   unfold z2j at H
   refine zb hN Z (qe Z (ze (zb hN Z (qd Z (za (x1c (C:=ve) tyU9 Zr tyU5 (fun _=>Z) Z) (za (yo Zr Z) (qd Z (zx (gE H fun h17 H=>wi (fun (k15:Nat) (s:Int)=>[(5,.dat (vstr v1)),(6,.dat (vint s)),(47,.dat (vlst (List.map ve (vd v13)))),(48,.dat (vint ((vd v13).length:Int))),(49,.dat (vint (k15:Int)))]) (fun (k15:Nat) (s:Int)=>[]) 0 H ⟨Z,Z,Z,Z,Z,U⟩ U (fun _ _=>Z) ?_ ?_)))))))))
   ·rintro v14 H
    replace H:z2k v1 v14=some r:=H
    unfold z2k at H
    refine zb hN Z (za (zy Z Z) (ze (zg _ Z (fun h=>(lt_t h).elim) (fun h => ?_))))
    refine qg (yf (ι:=Int) (fun i=>[(6,.dat (vint i))]) (fun i=>[]) (fun i=>z2h i=some r) (fun i=>Z) ?_ ?_)
    ·skip
     refine zb hN Z (qd Z (bE H fun x19 h20 H=>za (wq tyU9 Z Z h20) (za (ql Z Z) (zg _ Z (fun h21 => ?_) (fun h21 => ?_)))))
     ·exact tE h21 H fun H=>zq hN Z (qd Z (gE H fun h22 H=>za (y6y Z h22) (qe Z ⟨(-v14),H,⟨Z,U⟩,U⟩)))
     ·exact fE h21 H fun H=>zk ⟨v14,H,⟨Z,U⟩,U⟩
    ·rintro v23 H
     replace H:z2h v23=some r:=H
     unfold z2h at H
     refine zb hN Z (qd Z (qe Z (qe Z (zh ?_))))
     cases H
     exact ⟨U,.inl Z,.inl Z,U⟩
   ·rintro k15 x18 v14 q16 h24 h25 H hq16
    replace H:z6e k15 x18 v14=some q16:=H
    unfold z6e at H
    refine zb hN Z (za (zy Z Z) (ze (zg _ Z (fun h => ?_) (fun h=>(lt_f h24 h).elim))))
    refine zk (ze (zx (zb hN Z (za (qu x0u (fun _=>Z) Z Z h25) (za (yj tyS5 Z (yy h25) Z) (qe Z (zb hN Z (qd Z (za (yw _ Z Z (.inr (.inl ⟨Z,Z⟩))) (qe Z (ze (zb hN Z (qd Z (za (qh Z Z) (zg _ Z (fun h26 => ?_) (fun h26 => ?_))))))))))))))))
    ·refine tE h26 H fun H=>zb hN Z (za (ye (u':=verr 2) (ul (show Tryz.prog.underlying 215=some (.int .i64) from by kernel_rfl) Z) Z) ?_)
     refine qe Z (qe Z (zh ?_))
     replace H:=retl H hq16
     cases H
     exact ⟨U,.inl Z,.inl Z,U⟩
    ·exact fE h26 H fun H=>zk (zq hN Z (qd Z (za (yw _ Z Z (.inr (.inr ⟨Z,Z⟩))) (qd Z (za (jl tyU5 tyU3 Z) (za (yw _ Z Z (.inl ⟨Z,Z⟩)) (qe Z (zq hN Z (za (qw Z Z (by omega)) (qd Z ⟨_,qk H,⟨Z,Z,Z,Z,Z,U⟩,U⟩))))))))))
 ·refine fE h2 H fun H=>zk (zb hN Z (qd Z (bE H fun r27 h28 H=>za (zl (x4s v1 10 0 r27 h28) ⟨.inl Z,.inl Z,.inl Z,U⟩) (qd Z (za (ym Z Z) (za (ym Z Z) (qe Z (qe Z (zb hN Z (qd Z (qd Z (qe Z (qe Z (zh ?_))))))))))))))
  cases H
  exact ⟨U,.inl Z,.inl Z,U⟩
theorem x4f (s1:Bs) (r:(Int×Int)) (H:Qd s1=some r):Fn Tryz.prog 212 [vstr s1] (zw [vint r.1,verr r.2]):=by
 refine ⟨by kernel_rfl,yd (us:=[vint r.1,verr r.2]) Tryz.func212 Z Z Z Z fun X hN => ?_⟩
 unfold Qd at H
 refine zb hN Z (qe Z (qe Z (zb hN Z (qd Z (bE H fun r2 h3 H=>za (zl (w4n s1 r2 h3) ⟨.inl Z,U⟩) (qd Z (za (ym Z Z) (za (ym Z Z) (qe Z (qe Z (ze (zb hN Z (qd Z (za (y61 (n:=r2.2) (show Tryz.prog.underlying 135=some (.interface (Tryz.prog.methodsAt 135)) from by kernel_rfl) Z) ?_))))))))))))))
 refine zg _ Z (fun h4 => ?_) (fun h4 => ?_)
 ·refine tE h4 H fun H=>zb hN Z (qd Z (qd Z (qd Z (bE H fun r5 h6 H=>za (zl (x4b [65,116,111,105] s1 0 0 r2.2 r5 h6) ⟨.inl Z,.inl Z,.inl Z,.inl Z,.inl Z,U⟩) (qe Z (qe Z (zh ?_)))))))
  cases H
  exact ⟨U,.inl Z,.inl Z,U⟩
 ·refine fE h4 H fun H=>zk (zb hN Z (qd Z (qe Z (qe Z (zh ?_)))))
  cases H
  exact ⟨U,.inl Z,.inl Z,U⟩
theorem y8p (s1:Bs) (most2:Int) (r:(Int×Bool)) (H:Qe s1 most2=some r):Fn Tryz.prog 268 [vstr s1,vint most2] (zw [vint r.1,zj r.2]):=by
 refine ⟨by kernel_rfl,yd (us:=[vint r.1,zj r.2]) Tryz.func268 Z Z Z Z fun X hN => ?_⟩
 unfold Qe at H
 refine zb hN Z (qe Z (qe Z (zb hN Z (qd Z (bE H fun r3 h4 H=>za (zl (x33 s1 [45] r3 h4) ⟨.inl Z,.inl Z,U⟩) (qe Z (ze (yf (ι:=Bool) (fun i=>[(0,.dat (vstr s1)),(6,.dat (vstr r3)),(28,.dat (zj i))]) (fun i=>[]) (fun i=>uq s1 r3 i=some r) (fun i=>Z) ?_ ?_))))))))
 ·skip
  refine zq hN Z (qd Z (za (wy Z Z) (qd Z (yh (j:=2) Z Z (fun h5 => ?_) (fun h5 => ?_) Z))))
  ·refine u3 h5 H fun h6 H=>zd Z Z h5 (zf (.dat _) Z) (zd Z Z h5 (qp tyU9 Z) (zd Z Z h5 (zf (.dat _) Z) (zd Z Z h5 (qh Z Z) (za (yb Z (bFF h6) Z) (qd Z (yh (j:=8) Z Z (fun h7 => ?_) (fun h7 => ?_) Z))))))
   ·refine u3 h7 H fun h8 H=>zd Z Z h7 (zf (.dat _) Z) (bE H fun x9 h10 H=>zd Z Z h7 (wq tyU9 Z Z h10) (zd Z Z h7 (ql Z Z) (zd Z Z h7 (zf (.dat _) Z) (yh (j:=12) Z Z (fun h11 => ?_) (fun h11 => ?_) Z))))
    ·exact u1 h11 H fun h12 H=>zd Z Z h11 (zf (.dat _) Z) (zd Z Z h11 (jj Z Z) (zd Z Z h7 (zz Z (bTT h12) Z) (za (yb Z (bFF h8) Z) ⟨decide (s1≠[48]),H,⟨Z,Z,Z,U⟩,U⟩)))
    ·exact u2 h11 H fun h13 H=>zc Z Z h11 (zc Z Z h11 (zd Z Z h7 (yb Z (bFF h13) Z) (za (yb Z (bFF h8) Z) ⟨false,H,⟨Z,Z,Z,U⟩,U⟩)))
   ·exact u4 h7 H fun h14 H=>zc Z Z h7 (zc Z Z h7 (zc Z Z h7 (zc Z Z h7 (yg Z Z (yg Z Z (zc Z Z h7 (za (zz Z (bTT h14) Z) ⟨true,H,⟨Z,Z,Z,U⟩,U⟩)))))))
  ·exact u4 h5 H fun h15 H=>zc Z Z h5 (zc Z Z h5 (zc Z Z h5 (zc Z Z h5 (za (zz Z (bTT h15) Z) (qd Z (zc Z Z Z (zc Z Z Z (zc Z Z Z (zc Z Z Z (yg Z Z (yg Z Z (zc Z Z Z (za (zz Z Z Z) ⟨true,H,⟨Z,Z,Z,U⟩,U⟩)))))))))))))
 ·rintro v16 H
  replace H:uq s1 r3 v16=some r:=H
  unfold uq at H
  refine zg _ Z (fun h17 => ?_) (fun h17 => ?_)
  ·refine tE h17 H fun H=>zb hN Z (qe Z (qe Z (zh ?_)))
   cases H
   exact ⟨U,.inl Z,.inl Z,U⟩
  ·refine fE h17 H fun H=>zk (ze (zb hN Z (qe Z (zx (gE H fun h20 H=>wi (fun (i18:Nat) (s:Unit)=>[(0,.dat (vstr s1)),(6,.dat (vstr r3)),(7,.dat (vint (i18:Int)))]) (fun (i18:Nat) (s:Unit)=>[]) () H ⟨Z,Z,Z,U⟩ U (fun _ _=>Z) ?_ ?_)))))
   ·rintro ⟨⟩ H
    replace H:z5x s1=some r:=H
    unfold z5x at H
    refine ze (zb hN Z (qd Z (qd Z (za (qp tyU9 Z) (za (zy Z Z) (zg _ Z (fun h=>(lt_t h).elim) (fun h => ?_)))))))
    refine qg (zb hN Z (qd Z (bE H fun r22 h23 H=>za (zl (x4f s1 r22 h23) ⟨.inl Z,U⟩) (qd Z (za (ym Z Z) (za (ym Z Z) (qe Z (qe Z (ze (wx mixed hN Z Z (qd Z (qd Z (za (x1b (n:=r22.2) (show Tryz.prog.underlying 135=some (.interface (Tryz.prog.methodsAt 135)) from by kernel_rfl) Z) ?_)))))))))))))
    refine qe Z (qe Z ⟨Z,?_⟩)
    refine zh ?_
    cases H
    exact ⟨U,.inl Z,.inl Z,U⟩
   ·rintro i18 x21 ⟨⟩ q19 h24 h25 H hq19
    replace H:y0l i18 x21=some q19:=H
    unfold y0l at H
    refine ze (zb hN Z (qd Z (qd Z (za (qp tyU9 Z) (za (zy Z Z) (zg _ Z (fun h => ?_) (fun h=>(lt_f h24 h).elim)))))))
    refine zk (ze (zx (yf (ι:=Bool) (fun i=>[(0,.dat (vstr s1)),(6,.dat (vstr r3)),(7,.dat (vint (i18:Int))),(44,.dat (zj i))]) (fun i=>[]) (fun i=>y0m i=some q19) (fun i=>Z) ?_ ?_)))
    ·skip
     refine zq hN Z (qd Z (qd Z (za (wq tyU9 Z Z h25) (za (zy Z Z) (qd Z (yh (j:=4) Z Z (fun h26 => ?_) (fun h26 => ?_) Z))))))
     ·exact u3 h26 H fun h27 H=>zd Z Z h26 (zf (.dat _) Z) (zd Z Z h26 (zf (.dat _) Z) (zd Z Z h26 (wq tyU9 Z Z h25) (zd Z Z h26 (qh Z Z) (za (yb Z (bFF h27) Z) ⟨decide (57 < (x21.toNat:Int)),H,⟨Z,Z,Z,Z,U⟩,U⟩))))
     ·exact u4 h26 H fun h28 H=>zc Z Z h26 (zc Z Z h26 (zc Z Z h26 (zc Z Z h26 (za (zz Z (bTT h28) Z) ⟨true,H,⟨Z,Z,Z,Z,U⟩,U⟩))))
    ·rintro v29 H
     replace H:y0m v29=some q19:=H
     unfold y0m at H
     refine zg _ Z (fun h30 => ?_) (fun h30 => ?_)
     ·refine tE h30 H fun H=>zb hN Z (qe Z (qe Z (zh ?_)))
      replace H:=retl H hq19
      cases H
      exact ⟨U,.inl Z,.inl Z,U⟩
     ·exact fE h30 H fun H=>zk (zq hN Z (qd Z (za (qw Z Z (by omega)) (qe Z ⟨_,qk H,⟨Z,Z,Z,U⟩,U⟩))))
theorem w4c (s1:Bs) (r:(Int×Bool)) (H:y73 s1=some r):Fn Tryz.prog 207 [vstr s1] (zw [vint r.1,zj r.2]):=by
 refine ⟨by kernel_rfl,yd (us:=[vint r.1,zj r.2]) Tryz.func207 Z Z Z Z fun X hN => ?_⟩
 unfold y73 at H
 refine zb hN Z (qe Z (qe Z (zb hN Z (qd Z (bE H fun r2 h3 H=>za (zl (y8p s1 9 r2 h3) ⟨.inl Z,.inl Z,U⟩) (za (ym Z Z) (za (ym Z Z) (qe Z (qe Z (zh ?_))))))))))
 cases H
 exact ⟨U,.inl Z,.inl Z,U⟩
theorem w36 (s1:Bs) (r:(Bool)) (H:y72 s1=some r):Fn Tryz.prog 206 [vstr s1] (zw [zj r]):=by
 refine ⟨by kernel_rfl,yd (us:=[zj r]) Tryz.func206 Z Z Z Z fun X hN => ?_⟩
 unfold y72 at H
 refine zb hN Z (qe Z (ze (zb hN Z (qd Z (za (qp tyU9 Z) (qd Z (zx (gE H fun h4 H=>wi (fun (k2:Nat) (s:Unit)=>[(0,.dat (vstr s1)),(5,.dat (vint (s1.length:Int))),(6,.dat (vint (k2:Int)))]) (fun (k2:Nat) (s:Unit)=>[]) () H ⟨Z,Z,Z,U⟩ U (fun _ _=>Z) ?_ ?_))))))))
 ·rintro ⟨⟩ H
  replace H:y7x s1=some r:=H
  unfold y7x at H
  refine zb hN Z (za (zy Z Z) (ze (zg _ Z (fun h=>(lt_t h).elim) (fun h => ?_))))
  refine qg (yf (ι:=Bool) (fun i=>[(2,.dat (zj i))]) (fun i=>[]) (fun i=>z1s i=some r) (fun i=>Z) ?_ ?_)
  ·skip
   refine zq hN Z (qd Z (za (jj Z Z) (qd Z (yh (j:=2) Z Z (fun h6 => ?_) (fun h6 => ?_) Z))))
   ·refine u1 h6 H fun h7 H=>zd Z Z h6 (zf (.dat _) Z) (zd Z Z h6 (qp tyU9 Z) (zd Z Z h6 (vq Z Z) (za (zz Z (bTT h7) Z) (qd Z (yh (j:=7) Z Z (fun h8 => ?_) (fun h8 => ?_) Z)))))
    ·refine u1 h8 H fun h9 H=>zd Z Z h8 (zf (.dat _) Z) (bE H fun x10 h11 H=>zd Z Z h8 (wq tyU9 Z Z h11) (zd Z Z h8 (wa Z Z) (za (zz Z (bTT h9) Z) (qd Z (yh (j:=12) Z Z (fun h12 => ?_) (fun h12 => ?_) Z)))))
     ·exact u1 h12 H fun h13 H=>zd Z Z h12 (zf (.dat _) Z) (zd Z Z h12 (zf (.dat _) Z) (zd Z Z h12 (qp tyU9 Z) (zd Z Z h12 (yw _ Z Z (.inr (.inl ⟨Z,Z⟩))) (bE H fun x14 h15 H=>zd Z Z h12 (Zc tyU9 Z Z h15) (zd Z Z h12 (wa Z Z) (za (zz Z (bTT h13) Z) (qe Z ⟨decide ((x14.toNat:Int)≠45),H,⟨Z,U⟩,U⟩)))))))
     ·exact u2 h12 H fun h16 H=>zc Z Z h12 (zc Z Z h12 (zc Z Z h12 (zc Z Z h12 (zc Z Z h12 (zc Z Z h12 (za (yb Z (bFF h16) Z) (qe Z ⟨false,H,⟨Z,U⟩,U⟩)))))))
    ·exact u2 h8 H fun h17 H=>zc Z Z h8 (zc Z Z h8 (zc Z Z h8 (za (yb Z (bFF h17) Z) (qd Z (zc Z Z Z (zc Z Z Z (zc Z Z Z (zc Z Z Z (zc Z Z Z (zc Z Z Z (za (yb Z Z Z) (qe Z ⟨false,H,⟨Z,U⟩,U⟩))))))))))))
   ·exact u2 h6 H fun h18 H=>zc Z Z h6 (zc Z Z h6 (zc Z Z h6 (za (yb Z (bFF h18) Z) (qd Z (zc Z Z Z (zc Z Z Z (zc Z Z Z (za (yb Z Z Z) (qd Z (zc Z Z Z (zc Z Z Z (zc Z Z Z (zc Z Z Z (zc Z Z Z (zc Z Z Z (za (yb Z Z Z) (qe Z ⟨false,H,⟨Z,U⟩,U⟩)))))))))))))))))
  ·rintro v19 H
   replace H:z1s v19=some r:=H
   unfold z1s at H
   refine zh ?_
   cases H
   exact ⟨U,.inl Z,U⟩
 ·rintro k2 x5 ⟨⟩ q3 h20 h21 H hq3
  replace H:y7w k2 x5=some q3:=H
  unfold y7w at H
  refine zb hN Z (za (zy Z Z) (ze (zg _ Z (fun h => ?_) (fun h=>(lt_f h20 h).elim))))
  refine zk (ze (zx (zb hN Z (qd Z (qe Z (yf (ι:=Bool) (fun i=>[(0,.dat (vstr s1)),(5,.dat (vint (s1.length:Int))),(6,.dat (vint (k2:Int))),(26,.dat (zj i))]) (fun i=>[]) (fun i=>z4p i=some q3) (fun i=>Z) ?_ ?_))))))
  ·skip
   refine zq hN Z (qd Z (qd Z (za (wq tyU9 Z Z h21) (bE H fun r22 h23 H=>za (zl (x4k (x5.toNat:Int) r22 h23) ⟨.inl Z,U⟩) (za (yt Z) (qd Z (yh (j:=5) Z Z (fun h24 => ?_) (fun h24 => ?_) Z)))))))
   ·refine u1 h24 H fun h25 H=>zd Z Z h24 (zf (.dat _) Z) (zd Z Z h24 (zf (.dat _) Z) (zd Z Z h24 (wq tyU9 Z Z h21) (bE H fun r26 h27 H=>zd Z Z h24 (zl (x4l (x5.toNat:Int) r26 h27) ⟨.inl Z,U⟩) (zd Z Z h24 (yt Z) (za (zz Z (bTT h25) Z) (qd Z (yh (j:=12) Z Z (fun h28 => ?_) (fun h28 => ?_) Z)))))))
    ·exact u1 h28 H fun h29 H=>zd Z Z h28 (zf (.dat _) Z) (zd Z Z h28 (zf (.dat _) Z) (zd Z Z h28 (wq tyU9 Z Z h21) (zd Z Z h28 (wa Z Z) (za (zz Z (bTT h29) Z) ⟨decide ((x5.toNat:Int)≠45),H,⟨Z,Z,Z,Z,U⟩,U⟩))))
    ·exact u2 h28 H fun h30 H=>zc Z Z h28 (zc Z Z h28 (zc Z Z h28 (zc Z Z h28 (za (yb Z (bFF h30) Z) ⟨false,H,⟨Z,Z,Z,Z,U⟩,U⟩))))
   ·exact u2 h24 H fun h31 H=>zc Z Z h24 (zc Z Z h24 (zc Z Z h24 (zc Z Z h24 (zc Z Z h24 (za (yb Z (bFF h31) Z) (qd Z (zc Z Z Z (zc Z Z Z (zc Z Z Z (zc Z Z Z (za (yb Z Z Z) ⟨false,H,⟨Z,Z,Z,Z,U⟩,U⟩)))))))))))
  ·rintro v32 H
   replace H:z4p v32=some q3:=H
   unfold z4p at H
   refine zg _ Z (fun h33 => ?_) (fun h33 => ?_)
   ·refine tE h33 H fun H=>zb hN Z (qe Z (zh ?_))
    replace H:=retl H hq3
    cases H
    exact ⟨U,.inl Z,U⟩
   ·exact fE h33 H fun H=>zk (zq hN Z (za (qw Z Z (by omega)) (qd Z ⟨_,qk H,⟨Z,Z,Z,U⟩,U⟩)))
theorem w37 (s1:Bs) (r:(Bool)) (H:z47 s1=some r):Fn Tryz.prog 143 [vstr s1] (zw [zj r]):=by
 refine ⟨by kernel_rfl,yd (us:=[zj r]) Tryz.func143 Z Z Z Z fun X hN => ?_⟩
 unfold z47 at H
 refine zb hN Z (qe Z (zb hN Z (qd Z (bE H fun r2 h3 H=>za (zl (y4t s1 [58] r2 h3) ⟨.inl Z,.inl Z,U⟩) (qd Z (za (ym Z Z) (za (ym Z Z) (za (ym Z Z) (qe Z (qe Z (qe Z (ze (zb hN Z (qd Z (bE H fun r4 h5 H=>za (zl (Qi r2.1 [46] r4 h5) ⟨.inl Z,.inl Z,U⟩) (za (yo qm Z) (qd Z (zx (gE H fun h8 H=>wi (fun (k6:Nat) (s:Unit)=>[(0,.dat (vstr s1)),(4,.dat (vstr r2.2.1)),(5,.dat (zj r2.2.2)),(17,.dat (vlst (List.map zo r4))),(18,.dat (vint (r4.length:Int))),(19,.dat (vint (k6:Int)))]) (fun (k6:Nat) (s:Unit)=>[]) () H ⟨Z,Z,Z,Z,Z,Z,U⟩ U (fun _ _=>Z) ?_ ?_)))))))))))))))))))
 ·rintro ⟨⟩ H
  replace H:y3s s1 r2=some r:=H
  unfold y3s at H
  refine zb hN Z (za (zy Z Z) (ze (zg _ Z (fun h=>(lt_t h).elim) (fun h => ?_))))
  refine qg (zb hN Z (qd Z (bE H fun r10 h11 H=>za (zl (w4c r2.2.1 r10 h11) ⟨.inl Z,U⟩) (qd Z (za (ym Z Z) (za (ym Z Z) (qe Z (qe Z (yf (ι:=Bool) (fun i=>[(2,.dat (zj i))]) (fun i=>[]) (fun i=>z1t i=some r) (fun i=>Z) ?_ ?_)))))))))
  ·skip
   refine zq hN Z (qd Z (za (qp tyU9 Z) (za (vq Z Z) (qd Z (yh (j:=3) Z Z (fun h12 => ?_) (fun h12 => ?_) Z)))))
   ·refine u1 h12 H fun h13 H=>zd Z Z h12 (zf (.dat _) Z) (zd Z Z h12 (yt Z) (zd Z Z h12 (zf (.dat _) Z) (yh (j:=6) Z Z (fun h14 => ?_) (fun h14 => ?_) Z)))
    ·refine u3 h14 H fun h15 H=>zd Z Z h14 (zf (.dat _) Z) (zd Z Z h14 (zf (.dat _) Z) (yh (j:=8) Z Z (fun h16 => ?_) (fun h16 => ?_) Z))
     ·exact u1 h16 H fun h17 H=>zd Z Z h16 (zf (.dat _) Z) (bE H fun r18 h19 H=>zd Z Z h16 (zl (y0p r10.1 1 65535 r18 h19) ⟨.inl Z,.inl Z,.inl Z,U⟩) (zd Z Z h16 (yt Z) (zd Z Z h14 (zz Z (bTT h17) Z) (zd Z Z h12 (yb Z (bFF h15) Z) (za (zz Z (bTT h13) Z) (qe Z ⟨!r18,H,⟨Z,U⟩,U⟩))))))
     ·exact u2 h16 H fun h20 H=>zc Z Z h16 (zc Z Z h16 (zc Z Z h16 (zd Z Z h14 (yb Z (bFF h20) Z) (zd Z Z h12 (yb Z (bFF h15) Z) (za (zz Z (bTT h13) Z) (qe Z ⟨false,H,⟨Z,U⟩,U⟩))))))
    ·exact u4 h14 H fun h21 H=>zc Z Z h14 (zc Z Z h14 (yg Z Z (yg Z Z (yg Z Z (zc Z Z h14 (zd Z Z h12 (zz Z (bTT h21) Z) (za (zz Z (bTT h13) Z) (qe Z ⟨true,H,⟨Z,U⟩,U⟩))))))))
   ·exact u2 h12 H fun h22 H=>zc Z Z h12 (zc Z Z h12 (zc Z Z h12 (yg Z Z (yg Z Z (yg Z Z (yg Z Z (yg Z Z (yg Z Z (zc Z Z h12 (za (yb Z (bFF h22) Z) (qe Z ⟨false,H,⟨Z,U⟩,U⟩)))))))))))
  ·rintro v23 H
   replace H:z1t v23=some r:=H
   unfold z1t at H
   refine zh ?_
   cases H
   exact ⟨U,.inl Z,U⟩
 ·rintro k6 x9 ⟨⟩ q7 h24 h25 H hq7
  replace H:y3r k6 x9=some q7:=H
  unfold y3r at H
  refine zb hN Z (za (zy Z Z) (ze (zg _ Z (fun h => ?_) (fun h=>(lt_f h24 h).elim))))
  refine zk (ze (zx (zb hN Z (za (qu qv (fun _=>Z) Z Z h25) (za (yj tyS9 Z (yy h25) Z) (qe Z (zb hN Z (qd Z (bE H fun r26 h27 H=>za (zl (w36 x9 r26 h27) ⟨.inl Z,U⟩) (za (yt Z) (zg _ Z (fun h28 => ?_) (fun h28 => ?_))))))))))))
  ·refine tE h28 H fun H=>zb hN Z (qe Z (zh ?_))
   replace H:=retl H hq7
   cases H
   exact ⟨U,.inl Z,U⟩
  ·exact fE h28 H fun H=>zk (zq hN Z (za (qw Z Z (by omega)) (qd Z ⟨_,qk H,⟨Z,Z,Z,Z,Z,Z,U⟩,U⟩)))
theorem y8o (s1:Bs) (low2:Int) (high3:Int) (r:(Bool)) (H:z0a s1 low2 high3=some r):Fn Tryz.prog 208 [vstr s1,vval (.int .u8 low2),vval (.int .u8 high3)] (zw [zj r]):=by
 refine ⟨by kernel_rfl,yd (us:=[zj r]) Tryz.func208 Z Z Z Z fun X hN => ?_⟩
 unfold z0a at H
 refine zb hN Z (qe Z (ze (zb hN Z (qd Z (za (qp tyU9 Z) (qd Z (zx (gE H fun h6 H=>wi (fun (k4:Nat) (s:Unit)=>[(0,.dat (vstr s1)),(1,.dat (vval (.int .u8 low2))),(2,.dat (vval (.int .u8 high3))),(9,.dat (vint (s1.length:Int))),(10,.dat (vint (k4:Int)))]) (fun (k4:Nat) (s:Unit)=>[]) () H ⟨Z,Z,Z,Z,Z,U⟩ U (fun _ _=>Z) ?_ ?_))))))))
 ·rintro ⟨⟩ H
  replace H:y3q=some r:=H
  unfold y3q at H
  refine zb hN Z (za (zy Z Z) (ze (zg _ Z (fun h=>(lt_t h).elim) (fun h => ?_))))
  refine qg (zb hN Z (qe Z (zh ?_)))
  cases H
  exact ⟨U,.inl Z,U⟩
 ·rintro k4 x7 ⟨⟩ q5 h8 h9 H hq5
  replace H:y3p low2 high3 k4 x7=some q5:=H
  unfold y3p at H
  refine zb hN Z (za (zy Z Z) (ze (zg _ Z (fun h => ?_) (fun h=>(lt_f h8 h).elim))))
  refine zk (ze (zx (zb hN Z (qd Z (qe Z (yf (ι:=Bool) (fun i=>[(0,.dat (vstr s1)),(1,.dat (vval (.int .u8 low2))),(2,.dat (vval (.int .u8 high3))),(9,.dat (vint (s1.length:Int))),(10,.dat (vint (k4:Int))),(24,.dat (zj i))]) (fun i=>[]) (fun i=>z4o i=some q5) (fun i=>Z) ?_ ?_))))))
  ·skip
   refine zq hN Z (qd Z (qd Z (za (wq tyU9 Z Z h9) (qd Z (za (zy Z Z) (qd Z (yh (j:=5) Z Z (fun h10 => ?_) (fun h10 => ?_) Z)))))))
   ·exact u3 h10 H fun h11 H=>zd Z Z h10 (zf (.dat _) Z) (zd Z Z h10 (zf (.dat _) Z) (zd Z Z h10 (wq tyU9 Z Z h9) (zd Z Z h10 (zf (.dat _) Z) (zd Z Z h10 (qh Z Z) (za (yb Z (bFF h11) Z) ⟨decide (high3 < (x7.toNat:Int)),H,⟨Z,Z,Z,Z,Z,Z,U⟩,U⟩)))))
   ·exact u4 h10 H fun h12 H=>zc Z Z h10 (zc Z Z h10 (zc Z Z h10 (zc Z Z h10 (zc Z Z h10 (za (zz Z (bTT h12) Z) ⟨true,H,⟨Z,Z,Z,Z,Z,Z,U⟩,U⟩)))))
  ·rintro v13 H
   replace H:z4o v13=some q5:=H
   unfold z4o at H
   refine zg _ Z (fun h14 => ?_) (fun h14 => ?_)
   ·refine tE h14 H fun H=>zb hN Z (qe Z (zh ?_))
    replace H:=retl H hq5
    cases H
    exact ⟨U,.inl Z,U⟩
   ·exact fE h14 H fun H=>zk (zq hN Z (za (qw Z Z (by omega)) (qd Z ⟨_,qk H,⟨Z,Z,Z,Z,Z,U⟩,U⟩)))
theorem x38 (s p:Bs) (r:Bool) (H:z41 s p=some r):Fn Tryz.prog 155 [vstr s,vstr p] (zw [zj r]):=by
 unfold z41 at H
 obtain ⟨⟨⟨h1,h2⟩,h3,h4⟩,h5⟩:=gif H
 cases h5
 refine xx (by kernel_rfl) fun M w vs hM h => ?_
 have hv:=kr (us:=[.string ⟨s.toArray⟩,.string ⟨p.toArray⟩]) h
 subst hv
 refine (Tryz.strings_ContainsAny_laid ⟨s.toArray⟩ ⟨p.toArray⟩ w (by simp [ByteArray.size]; omega) (by simp [ByteArray.size]; omega) (fun j b hb=>z7i h3 j b (by simpa using hb)) (fun j b hb=>z7i h4 j b (by simpa using hb))).mono ?_
 rintro e w' ⟨rfl,hb⟩
 exact ⟨_,Z,Z,Kp.of_below hb⟩

theorem w38 (s1:Bs) (r:(Int)) (H:z9d s1=some r):Fn Tryz.prog 144 [vstr s1] (zw [vint r]):=by
 refine ⟨by kernel_rfl,yd (us:=[vint r]) Tryz.func144 Z Z Z Z fun X hN => ?_⟩
 unfold z9d at H
 refine zb hN Z (qe Z (ze (yf (ι:=Bool) (fun i=>[(19,.dat (zj i))]) (fun i=>[]) (fun i=>Wq i=some r) (fun i=>Z) ?_ ?_)))
 ·skip
  refine zq hN Z (qd Z (za (qp tyU9 Z) (za (qh Z Z) (qd Z (yh (j:=3) Z Z (fun h2 => ?_) (fun h2 => ?_) Z)))))
  ·refine u3 h2 H fun h3 H=>zd Z Z h2 (zf (.dat _) Z) (bE H fun r4 h5 H=>zd Z Z h2 (zl (y8j s1 [47] r4 h5) ⟨.inl Z,.inl Z,U⟩) (zd Z Z h2 (yt Z) (za (yb Z (bFF h3) Z) (qd Z (yh (j:=8) Z Z (fun h6 => ?_) (fun h6 => ?_) Z)))))
   ·refine u3 h6 H fun h7 H=>zd Z Z h6 (zf (.dat _) Z) (bE H fun r8 h9 H=>zd Z Z h6 (zl (y8o s1 33 126 r8 h9) ⟨.inl Z,.inl Z,.inl Z,U⟩) (zd Z Z h6 (yt Z) (za (yb Z (bFF h7) Z) (qd Z (yh (j:=13) Z Z (fun h10 => ?_) (fun h10 => ?_) Z)))))
    ·exact u3 h10 H fun h11 H=>zd Z Z h10 (zf (.dat _) Z) (bE H fun r12 h13 H=>zd Z Z h10 (zl (x38 s1 [63,35] r12 h13) ⟨.inl Z,.inl Z,U⟩) (za (yb Z (bFF h11) Z) ⟨r12,H,⟨Z,U⟩,U⟩))
    ·exact u4 h10 H fun h14 H=>zc Z Z h10 (zc Z Z h10 (za (zz Z (bTT h14) Z) ⟨true,H,⟨Z,U⟩,U⟩))
   ·exact u4 h6 H fun h15 H=>zc Z Z h6 (zc Z Z h6 (zc Z Z h6 (za (zz Z (bTT h15) Z) (qd Z (zc Z Z Z (zc Z Z Z (za (zz Z Z Z) ⟨true,H,⟨Z,U⟩,U⟩)))))))
  ·exact u4 h2 H fun h16 H=>zc Z Z h2 (zc Z Z h2 (zc Z Z h2 (za (zz Z (bTT h16) Z) (qd Z (zc Z Z Z (zc Z Z Z (zc Z Z Z (za (zz Z Z Z) (qd Z (zc Z Z Z (zc Z Z Z (za (zz Z Z Z) ⟨true,H,⟨Z,U⟩,U⟩))))))))))))
 ·rintro v17 H
  replace H:Wq v17=some r:=H
  unfold Wq at H
  refine zg _ Z (fun h18 => ?_) (fun h18 => ?_)
  ·refine tE h18 H fun H=>zb hN Z (qe Z (zh ?_))
   cases H
   exact ⟨U,.inl Z,U⟩
  ·refine fE h18 H fun H=>zk (zb hN Z (qe Z (zh ?_)))
   cases H
   exact ⟨U,.inl Z,U⟩
theorem x4a (s p:Bs) (r:Bool) (H:z42 s p=some r):Fn Tryz.prog 156 [vstr s,vstr p] (zw [zj r]):=by
 unfold z42 at H
 obtain ⟨h1,h2⟩:=gif H
 cases h2
 refine xx (by kernel_rfl) fun M w vs hM h => ?_
 have hv:=kr (us:=[.string ⟨s.toArray⟩,.string ⟨p.toArray⟩]) h
 subst hv
 obtain ⟨m,hm⟩:=y30 hM
 refine (Tryz.strings_Contains ⟨s.toArray⟩ ⟨p.toArray⟩ m w (by simp [ByteArray.size]; omega) hm).mono ?_
 rintro e w' ⟨rfl,rfl⟩
 exact ⟨_,Z,Z,Kp.refl _ _⟩

theorem w33 (s1:Bs) (r:(Int)) (H:z9a s1=some r):Fn Tryz.prog 145 [vstr s1] (zw [vint r]):=by
 refine ⟨by kernel_rfl,yd (us:=[vint r]) Tryz.func145 Z Z Z Z fun X hN => ?_⟩
 unfold z9a at H
 refine zb hN Z (qe Z (ze (yf (ι:=Bool) (fun i=>[(14,.dat (zj i))]) (fun i=>[]) (fun i=>z1r i=some r) (fun i=>Z) ?_ ?_)))
 ·skip
  refine zq hN Z (qd Z (za (qp tyU9 Z) (za (qh Z Z) (qd Z (yh (j:=3) Z Z (fun h2 => ?_) (fun h2 => ?_) Z)))))
  ·refine u3 h2 H fun h3 H=>zd Z Z h2 (zf (.dat _) Z) (bE H fun r4 h5 H=>zd Z Z h2 (zl (y8o s1 33 126 r4 h5) ⟨.inl Z,.inl Z,.inl Z,U⟩) (zd Z Z h2 (yt Z) (za (yb Z (bFF h3) Z) (qd Z (yh (j:=8) Z Z (fun h6 => ?_) (fun h6 => ?_) Z)))))
   ·exact u3 h6 H fun h7 H=>zd Z Z h6 (zf (.dat _) Z) (bE H fun r8 h9 H=>zd Z Z h6 (zl (x4a s1 [35] r8 h9) ⟨.inl Z,.inl Z,U⟩) (za (yb Z (bFF h7) Z) ⟨r8,H,⟨Z,U⟩,U⟩))
   ·exact u4 h6 H fun h10 H=>zc Z Z h6 (zc Z Z h6 (za (zz Z (bTT h10) Z) ⟨true,H,⟨Z,U⟩,U⟩))
  ·exact u4 h2 H fun h11 H=>zc Z Z h2 (zc Z Z h2 (zc Z Z h2 (za (zz Z (bTT h11) Z) (qd Z (zc Z Z Z (zc Z Z Z (za (zz Z Z Z) ⟨true,H,⟨Z,U⟩,U⟩)))))))
 ·rintro v12 H
  replace H:z1r v12=some r:=H
  unfold z1r at H
  refine zg _ Z (fun h13 => ?_) (fun h13 => ?_)
  ·refine tE h13 H fun H=>zb hN Z (qe Z (zh ?_))
   cases H
   exact ⟨U,.inl Z,U⟩
  ·refine fE h13 H fun H=>zk (zb hN Z (qe Z (zh ?_)))
   cases H
   exact ⟨U,.inl Z,U⟩
theorem w3v (s1:Bs) (c2:Int) (r:(Bs)) (H:Wt s1 c2=some r):Fn Tryz.prog 214 [vstr s1,vval (.int .u8 c2)] (zw [vstr r]):=by
 refine ⟨by kernel_rfl,yd (us:=[vstr r]) Tryz.func214 Z Z Z Z fun X hN => ?_⟩
 unfold Wt at H
 refine zb hN Z (qe Z (yf (ι:=Bs) (fun i=>[(0,.dat (vstr i))]) (fun i=>[]) (fun i=>z74 i=some r) (fun i=>Z) ?_ ?_))
 ·skip
  refine zx (Zq (fun (s:Bs)=>[(0,.dat (vstr s)),(1,.dat (vval (.int .u8 c2)))]) (fun (s:Bs)=>[]) s1 H ⟨Z,Z,U⟩ U (fun _=>Z) ?_)
  rintro s3 q4 H hq4
  replace H:z73 c2 s3=some q4:=H
  unfold z73 at H
  refine ze (yf (ι:=Bool) (fun i=>[(0,.dat (vstr s3)),(1,.dat (vval (.int .u8 c2))),(16,.dat (zj i))]) (fun i=>[]) (fun i=>z1e s3 i=some q4) (fun i=>Z) ?_ ?_)
  ·skip
   refine zq hN Z (qd Z (za (qp tyU9 Z) (za (qh Z Z) (qd Z (yh (j:=3) Z Z (fun h5 => ?_) (fun h5 => ?_) Z)))))
   ·exact u1 h5 H fun h6 H=>zd Z Z h5 (zf (.dat _) Z) (zd Z Z h5 (zf (.dat _) Z) (zd Z Z h5 (qp tyU9 Z) (zd Z Z h5 (yw _ Z Z (.inr (.inl ⟨Z,Z⟩))) (bE H fun x7 h8 H=>zd Z Z h5 (Zc tyU9 Z Z h8) (zd Z Z h5 (zf (.dat _) Z) (zd Z Z h5 (ql Z Z) (za (zz Z (bTT h6) Z) ⟨decide ((x7.toNat:Int)=c2),H,⟨Z,Z,Z,U⟩,U⟩)))))))
   ·exact u2 h5 H fun h9 H=>zc Z Z h5 (zc Z Z h5 (zc Z Z h5 (zc Z Z h5 (zc Z Z h5 (zc Z Z h5 (zc Z Z h5 (za (yb Z (bFF h9) Z) ⟨false,H,⟨Z,Z,Z,U⟩,U⟩)))))))
  ·rintro v10 H
   replace H:z1e s3 v10=some q4:=H
   unfold z1e at H
   refine zg _ Z (fun h11 => ?_) (fun h11 => ?_)
   ·exact tE h11 H fun H=>zk (zx (zq hN Z (qd Z (qd Z (za (qp tyU9 Z) (za (yw _ Z Z (.inr (.inl ⟨Z,Z⟩))) (bE H fun l12 h13 H=>za (jc tyU9 Z Z Z h13) (qe Z ⟨_,qk H,⟨Z,Z,U⟩,U⟩))))))))
   ·refine fE h11 H fun H=>qg ?_
    replace H:=outl H hq4
    exact ⟨s3,H,⟨Z,U⟩,U⟩
 ·rintro s14 H
  replace H:z74 s14=some r:=H
  unfold z74 at H
  refine zb hN Z (qd Z (qe Z (zh ?_)))
  cases H
  exact ⟨U,.inl Z,U⟩
theorem w3w (s1:Bs) (c2:Int) (r:(Bs)) (H:z1x s1 c2=some r):Fn Tryz.prog 213 [vstr s1,vval (.int .u8 c2)] (zw [vstr r]):=by
 refine ⟨by kernel_rfl,yd (us:=[vstr r]) Tryz.func213 Z Z Z Z fun X hN => ?_⟩
 unfold z1x at H
 refine zb hN Z (qe Z (yf (ι:=Bs) (fun i=>[(0,.dat (vstr i))]) (fun i=>[]) (fun i=>z78 i=some r) (fun i=>Z) ?_ ?_))
 ·skip
  refine zx (Zq (fun (s:Bs)=>[(0,.dat (vstr s)),(1,.dat (vval (.int .u8 c2)))]) (fun (s:Bs)=>[]) s1 H ⟨Z,Z,U⟩ U (fun _=>Z) ?_)
  rintro s3 q4 H hq4
  replace H:z77 c2 s3=some q4:=H
  unfold z77 at H
  refine ze (yf (ι:=Bool) (fun i=>[(0,.dat (vstr s3)),(1,.dat (vval (.int .u8 c2))),(13,.dat (zj i))]) (fun i=>[]) (fun i=>z1f s3 i=some q4) (fun i=>Z) ?_ ?_)
  ·skip
   refine zq hN Z (qd Z (za (qp tyU9 Z) (za (qh Z Z) (qd Z (yh (j:=3) Z Z (fun h5 => ?_) (fun h5 => ?_) Z)))))
   ·exact u1 h5 H fun h6 H=>zd Z Z h5 (zf (.dat _) Z) (bE H fun x7 h8 H=>zd Z Z h5 (wq tyU9 Z Z h8) (zd Z Z h5 (zf (.dat _) Z) (zd Z Z h5 (ql Z Z) (za (zz Z (bTT h6) Z) ⟨decide ((x7.toNat:Int)=c2),H,⟨Z,Z,Z,U⟩,U⟩))))
   ·exact u2 h5 H fun h9 H=>zc Z Z h5 (zc Z Z h5 (zc Z Z h5 (zc Z Z h5 (za (yb Z (bFF h9) Z) ⟨false,H,⟨Z,Z,Z,U⟩,U⟩))))
  ·rintro v10 H
   replace H:z1f s3 v10=some q4:=H
   unfold z1f at H
   refine zg _ Z (fun h11 => ?_) (fun h11 => ?_)
   ·exact tE h11 H fun H=>zk (zx (zq hN Z (qd Z (bE H fun l12 h13 H=>za (jc tyU9 Z Z Z h13) (qe Z ⟨_,qk H,⟨Z,Z,U⟩,U⟩)))))
   ·refine fE h11 H fun H=>qg ?_
    replace H:=outl H hq4
    exact ⟨s3,H,⟨Z,U⟩,U⟩
 ·rintro s14 H
  replace H:z78 s14=some r:=H
  unfold z78 at H
  refine zb hN Z (qd Z (qe Z (zh ?_)))
  cases H
  exact ⟨U,.inl Z,U⟩
theorem y8h (s1:Bs) (cutset2:Bs) (r:(Bs)) (H:z1y s1 cutset2=some r):Fn Tryz.prog 152 [vstr s1,vstr cutset2] (zw [vstr r]):=by
 refine ⟨by kernel_rfl,yd (us:=[vstr r]) Tryz.func152 Z Z Z Z fun X hN => ?_⟩
 unfold z1y at H
 refine zb hN Z (qe Z (ze (zb hN Z (qd Z (za (wy Z Z) (qd Z (yi Z Z (fun hc=>zf (.dat _) Z) (yi Z Z (fun hc=>wy (cnd (c:=(!(decide (s1=[])))) hc) Z) (za (wz Z Z (fun hb=>(cnd (c:=(!(decide (s1=[])))) (notI hb)))) (zg _ Z (fun h3 => ?_) (fun h3 => ?_)))))))))))
 ·refine tE h3 H fun H=>zb hN Z (qd Z (qe Z (zh ?_)))
  cases H
  exact ⟨U,.inl Z,U⟩
 ·refine fE h3 H fun H=>zk (ze (yf (ι:=Bool) (fun i=>[(0,.dat (vstr s1)),(1,.dat (vstr cutset2)),(21,.dat (zj i))]) (fun i=>[]) (fun i=>z4e s1 cutset2 i=some r) (fun i=>Z) ?_ ?_))
  ·skip
   refine zq hN Z (qd Z (za (qp tyU9 Z) (za (ql Z Z) (qd Z (yh (j:=3) Z Z (fun h4 => ?_) (fun h4 => ?_) Z)))))
   ·exact u1 h4 H fun h5 H=>zd Z Z h4 (zf (.dat _) Z) (bE H fun x6 h7 H=>zd Z Z h4 (wq tyU9 Z Z h7) (zd Z Z h4 (zy Z Z) (za (zz Z (bTT h5) Z) ⟨decide ((x6.toNat:Int) < 128),H,⟨Z,Z,Z,U⟩,U⟩)))
   ·exact u2 h4 H fun h8 H=>zc Z Z h4 (zc Z Z h4 (zc Z Z h4 (za (yb Z (bFF h8) Z) ⟨false,H,⟨Z,Z,Z,U⟩,U⟩)))
  ·rintro v9 H
   replace H:z4e s1 cutset2 v9=some r:=H
   unfold z4e at H
   refine zg _ Z (fun h10 => ?_) (fun h10 => ?_)
   ·refine tE h10 H fun H=>ze (wx mixed hN Z Z (qd Z (qd Z (bE H fun x11 h12 H=>za (wq tyU9 Z Z h12) (bE H fun r13 h14 H=>za (zl (w3v s1 (x11.toNat:Int) r13 h14) ⟨.inl Z,.inl Z,U⟩) (qd Z (za (wq tyU9 Z Z h12) (bE H fun r15 h16 H=>za (zl (w3w r13 (x11.toNat:Int) r15 h16) ⟨.inl Z,.inl Z,U⟩) (qe Z ⟨Z,?_⟩)))))))))
    refine zh ?_
    cases H
    exact ⟨U,.inl Z,U⟩
   ·refine fE h10 H fun H=>?_
    cases H
theorem x4o (s1:Bs) (r:(Bool)) (H:z16 s1=some r):Fn Tryz.prog 146 [vstr s1] (zw [zj r]):=by
 refine ⟨by kernel_rfl,yd (us:=[zj r]) Tryz.func146 Z Z Z Z fun X hN => ?_⟩
 unfold z16 at H
 refine zb hN Z (qe Z (yf (ι:=Bool) (fun i=>[(2,.dat (zj i))]) (fun i=>[]) (fun i=>z1v i=some r) (fun i=>Z) ?_ ?_))
 ·skip
  refine zq hN Z (qd Z (za (qp tyU9 Z) (za (vq Z Z) (qd Z (yh (j:=3) Z Z (fun h2 => ?_) (fun h2 => ?_) Z)))))
  ·refine u1 h2 H fun h3 H=>zd Z Z h2 (zf (.dat _) Z) (bE H fun r4 h5 H=>zd Z Z h2 (zl (y8o s1 32 126 r4 h5) ⟨.inl Z,.inl Z,.inl Z,U⟩) (za (zz Z (bTT h3) Z) (qd Z (yh (j:=7) Z Z (fun h6 => ?_) (fun h6 => ?_) Z))))
   ·exact u1 h6 H fun h7 H=>zd Z Z h6 (zf (.dat _) Z) (bE H fun r8 h9 H=>zd Z Z h6 (zl (y8h s1 [32] r8 h9) ⟨.inl Z,.inl Z,U⟩) (zd Z Z h6 (zf (.dat _) Z) (zd Z Z h6 (wy Z Z) (za (zz Z (bTT h7) Z) (qe Z ⟨decide (r8=s1),H,⟨Z,U⟩,U⟩)))))
   ·exact u2 h6 H fun h10 H=>zc Z Z h6 (zc Z Z h6 (zc Z Z h6 (zc Z Z h6 (za (yb Z (bFF h10) Z) (qe Z ⟨false,H,⟨Z,U⟩,U⟩)))))
  ·exact u2 h2 H fun h11 H=>zc Z Z h2 (zc Z Z h2 (za (yb Z (bFF h11) Z) (qd Z (zc Z Z Z (zc Z Z Z (zc Z Z Z (zc Z Z Z (za (yb Z Z Z) (qe Z ⟨false,H,⟨Z,U⟩,U⟩)))))))))
 ·rintro v12 H
  replace H:z1v v12=some r:=H
  unfold z1v at H
  refine zh ?_
  cases H
  exact ⟨U,.inl Z,U⟩
theorem w4a (l1:(List qo)) (r:(Int)) (H:z9e l1=some r):Fn Tryz.prog 147 [vlst (List.map vg l1)] (zw [vint r]):=by
 refine ⟨by kernel_rfl,yd (us:=[vint r]) Tryz.func147 Z Z Z Z fun X hN => ?_⟩
 unfold z9e at H
 refine zb hN Z (qe Z (ze (zb hN Z (qd Z (za (yo z3v Z) (za (qh Z Z) (zg _ Z (fun h2 => ?_) (fun h2 => ?_))))))))
 ·refine tE h2 H fun H=>zb hN Z (qe Z (zh ?_))
  cases H
  exact ⟨U,.inl Z,U⟩
 ·refine fE h2 H fun H=>zk (ze (zb hN Z (qd Z (za (yo z3v Z) (qd Z (zx (gE H fun h5 H=>wi (fun (k3:Nat) (s:Unit)=>[(8,.dat (vlst (List.map vg l1))),(9,.dat (vint (l1.length:Int))),(10,.dat (vint (k3:Int)))]) (fun (k3:Nat) (s:Unit)=>[]) () H ⟨Z,Z,Z,U⟩ U (fun _ _=>Z) ?_ ?_)))))))
  ·rintro ⟨⟩ H
   replace H:y3w=some r:=H
   unfold y3w at H
   refine zb hN Z (za (zy Z Z) (ze (zg _ Z (fun h=>(lt_t h).elim) (fun h => ?_))))
   refine qg (zb hN Z (qe Z (zh ?_)))
   cases H
   exact ⟨U,.inl Z,U⟩
  ·rintro k3 x6 ⟨⟩ q4 h7 h8 H hq4
   replace H:y3v k3 x6=some q4:=H
   unfold y3v at H
   refine zb hN Z (za (zy Z Z) (ze (zg _ Z (fun h => ?_) (fun h=>(lt_f h7 h).elim))))
   refine zk (ze (zx (zb hN Z (za (qu y2e (fun _=>Z) Z Z h8) (za (kj Yp Z (yy h8) Z) (zi (we 1 z3u Z) Z (zi (yp Yp Z Z Z Z) Z (ze (zb hN Z (za (zn y2d Z) (zu (zp tyS9 Z Z) Z (bE H fun r9 h10 H=>za (zl (x4n x6.Name r9 h10) ⟨.inl Z,U⟩) (za (yt Z) (zg _ Z (fun h11 => ?_) (fun h11 => ?_)))))))))))))))
   ·refine tE h11 H fun H=>zb hN Z (qe Z (zh ?_))
    replace H:=retl H hq4
    cases H
    exact ⟨U,.inl Z,U⟩
   ·refine fE h11 H fun H=>zk (zb hN Z (za (zn y2c Z) (zu (zp tyS9 Z Z) Z (bE H fun r12 h13 H=>za (zl (x4o x6.Value r12 h13) ⟨.inl Z,U⟩) (za (yt Z) (zg _ Z (fun h14 => ?_) (fun h14 => ?_)))))))
    ·refine tE h14 H fun H=>zb hN Z (qe Z (zh ?_))
     replace H:=retl H hq4
     cases H
     exact ⟨U,.inl Z,U⟩
    ·exact fE h14 H fun H=>zk (zq hN Z (za (qw Z Z (by omega)) (qd Z ⟨_,qk H,⟨Z,Z,Z,U⟩,U⟩)))
theorem w39 (r1:wj) (r:(Int)) (H:z5b r1=some r):Fn Tryz.prog 86 [vagg (z3p r1)] (zw [vint r]):=by
 refine ⟨by kernel_rfl,yd (us:=[vint r]) Tryz.func86 Z Z Z Z fun X hN => ?_⟩
 unfold z5b at H
 refine zb hN Z (zi (jf 1 Z) Z (qe Z (ze (zb hN Z (za (zn z0w Z) (zu (zp tyS3 Z Z) Z (bE H fun r2 h3 H=>za (zl (x4p r1.At r2 h3) ⟨.inl Z,U⟩) (za (yt Z) (zg _ Z (fun h4 => ?_) (fun h4 => ?_))))))))))
 ·refine tE h4 H fun H=>zb hN Z (qe Z (zh ?_))
  cases H
  exact ⟨U,.inl Z,U⟩
 ·refine fE h4 H fun H=>zk (ze (zb hN Z (za (zn x0q Z) (zu (zp tyS9 Z Z) Z (bE H fun r5 h6 H=>za (zl (x4n r1.Method r5 h6) ⟨.inl Z,U⟩) (za (yt Z) (zg _ Z (fun h7 => ?_) (fun h7 => ?_))))))))
  ·refine tE h7 H fun H=>zb hN Z (qe Z (zh ?_))
   cases H
   exact ⟨U,.inl Z,U⟩
  ·refine fE h7 H fun H=>zk (ze (yf (ι:=Bool) (fun i=>[(1,.ptr 1 0),(33,.dat (zj i))]) (fun i=>[(1,.box none 61 [.dat (vint r1.At),.dat (vstr r1.Method),.dat (vstr r1.Host),.dat (vstr r1.Path),.dat (vstr r1.Query),.dat (vstr r1.From),.dat (vlst (List.map vg r1.Headers)),.dat (vstr r1.Body)])]) (fun i=>Wr r1 i=some r) (fun i=>Z) ?_ ?_))
   ·skip
    refine zq hN Z (za (zn x0p Z) (zu (zp tyS9 Z Z) Z (bE H fun r8 h9 H=>za (zl (w37 r1.Host r8 h9) ⟨.inl Z,U⟩) (za (yt Z) (qd Z (yh (j:=4) Z Z (fun h10 => ?_) (fun h10 => ?_) Z))))))
    ·refine u3 h10 H fun h11 H=>zd Z Z h10 (zn y6j Z) (vj Z Z h10 (zp tyS9 Z Z) Z (bE H fun r12 h13 H=>zd Z Z h10 (zl (w38 r1.Path r12 h13) ⟨.inl Z,U⟩) (zd Z Z h10 (wa Z Z) (za (yb Z (bFF h11) Z) (qd Z (yh (j:=10) Z Z (fun h14 => ?_) (fun h14 => ?_) Z))))))
     ·refine u3 h14 H fun h15 H=>zd Z Z h14 (zn x0o Z) (vj Z Z h14 (zp tyS9 Z Z) Z (bE H fun r16 h17 H=>zd Z Z h14 (zl (w33 r1.Query r16 h17) ⟨.inl Z,U⟩) (zd Z Z h14 (wa Z Z) (za (yb Z (bFF h15) Z) (qd Z (yh (j:=16) Z Z (fun h18 => ?_) (fun h18 => ?_) Z))))))
      ·exact u3 h18 H fun h19 H=>zd Z Z h18 (zn x0n Z) (vj Z Z h18 (zp tyS9 Z Z) Z (bE H fun r20 h21 H=>zd Z Z h18 (zl (x4o r1.From r20 h21) ⟨.inl Z,U⟩) (zd Z Z h18 (yt Z) (za (yb Z (bFF h19) Z) ⟨!r20,H,⟨Z,Z,U⟩,⟨Z,U⟩⟩))))
      ·exact u4 h18 H fun h22 H=>zc Z Z h18 (zc Z Z h18 (zc Z Z h18 (zc Z Z h18 (za (zz Z (bTT h22) Z) ⟨true,H,⟨Z,Z,U⟩,⟨Z,U⟩⟩))))
     ·exact u4 h14 H fun h23 H=>zc Z Z h14 (zc Z Z h14 (zc Z Z h14 (zc Z Z h14 (za (zz Z (bTT h23) Z) (qd Z (zc Z Z Z (zc Z Z Z (zc Z Z Z (zc Z Z Z (za (zz Z Z Z) ⟨true,H,⟨Z,Z,U⟩,⟨Z,U⟩⟩))))))))))
    ·exact u4 h10 H fun h24 H=>zc Z Z h10 (zc Z Z h10 (zc Z Z h10 (zc Z Z h10 (za (zz Z (bTT h24) Z) (qd Z (zc Z Z Z (zc Z Z Z (zc Z Z Z (zc Z Z Z (za (zz Z Z Z) (qd Z (zc Z Z Z (zc Z Z Z (zc Z Z Z (zc Z Z Z (za (zz Z Z Z) ⟨true,H,⟨Z,Z,U⟩,⟨Z,U⟩⟩))))))))))))))))
   ·rintro v25 H
    replace H:Wr r1 v25=some r:=H
    unfold Wr at H
    refine zg _ Z (fun h26 => ?_) (fun h26 => ?_)
    ·refine tE h26 H fun H=>zb hN Z (qe Z (zh ?_))
     cases H
     exact ⟨U,.inl Z,U⟩
    ·refine fE h26 H fun H=>zk (ze (zb hN Z (za (zn Wb Z) (zu (zp Qx Z Z) Z (bE H fun r27 h28 H=>za (zl (w4a r1.Headers r27 h28) ⟨.inl Z,U⟩) (qe Z (zb hN Z (qd Z (za (wa Z Z) (zg _ Z (fun h29 => ?_) (fun h29 => ?_)))))))))))
     ·refine tE h29 H fun H=>zb hN Z (qd Z (qe Z (zh ?_)))
      cases H
      exact ⟨U,.inl Z,U⟩
     ·refine fE h29 H fun H=>zk (ze (zb hN Z (za (zn x0m Z) (zu (zp tyS9 Z Z) Z (za (qp tyU9 Z) (za (qh Z Z) (zg _ Z (fun h30 => ?_) (fun h30 => ?_))))))))
      ·refine tE h30 H fun H=>zb hN Z (qe Z (zh ?_))
       cases H
       exact ⟨U,.inl Z,U⟩
      ·refine fE h30 H fun H=>zk (zb hN Z (qe Z (zh ?_)))
       cases H
       exact ⟨U,.inl Z,U⟩
end Go.Proofs.YtndabcepiekebaaGreatDoor
