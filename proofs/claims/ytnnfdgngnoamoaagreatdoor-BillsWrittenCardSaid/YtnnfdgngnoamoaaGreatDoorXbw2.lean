/- Walks along the models. Printed by a program. -/
import Derived.Test.YtnnfdgngnoamoaaGreatDoorXbw1
namespace Go.Proofs.YtnnfdgngnoamoaaGreatDoor
open Go.RowKit
set_option linter.unusedVariables false
set_option maxRecDepth 100000
set_option maxHeartbeats 2000000
theorem w2m (v1:zx) (v2:Int) (r:(Int)) (H:z73 v1 v2=some r):Fn Tryz.prog 115 [vagg (yy v1),vint v2] (yc [vint r]):=by
 refine ⟨by kernel_rfl,yl (us:=[vint r]) Tryz.func115 Z Z Z Z fun X hN => ?_⟩
 unfold z73 at H
 refine zc hN Z (zd (qr 1 Z) Z (qe Z (zc hN Z (za (zj jk Z) (ze (zl jj Z Z) Z (qd Z (bE H fun x3 h4 H=>za (ja xm (fun _=>Z) Z Z h4) (za (wo vu Z (qg (qi h4).2) Z) (zd (qf 2 uj Z) Z (zd (yz vu Z Z Z Z) Z (zf (yd (zc hN Z (za (zj ux Z) (ze (zl tyS9 Z Z) Z (bE H fun r5 h6 H=>za (yb (z9b x3.Key r5 h6) ⟨.inl Z,U⟩) (za (ww Z) (qe Z (zi _ Z (fun h7 => ?_) (fun h7 => ?_))))))))))))))))))))
 ·refine tE h7 H fun H=>zc hN Z (qe Z (zn ?_))
  cases H
  exact ⟨U,.inl Z,U⟩
 ·refine fE h7 H fun H=>yw (ι:=Bool) (fun i=>[(2,.ptr 1 0),(5,.ptr 2 0),(19,.dat (zr i))]) (fun i=>[(1,.box none 29 [.dat (vlst (List.map yt v1.Products)),.dat (vlst (List.map ym v1.Plans))]),(2,.box none 84 [.dat (vstr x3.Key),.dat (vstr x3.Product),.dat (vint x3.Base),.dat (vint x3.Free),.dat (vlst (List.map wd x3.Tiers)),.dat (vint x3.Limit),.dat (vint x3.Trial),.dat (zr x3.Asked)])]) (fun i=>z10 v1 x3 i=some r) (fun i=>Z) ?_ ?_
  ·skip
   refine wl mixed hN Z Z (qd Z (za (wz Z Z) (qd Z (qv (j:=2) Z Z (fun h8 => ?_) (fun h8 => ?_) Z))))
   ·refine u1 h8 H fun h9 H=>zo Z Z h8 (zj ux Z) (wc Z Z h8 (zl tyS9 Z Z) Z (zo Z Z h8 (zj jk Z) (wc Z Z h8 (zl jj Z Z) Z (zo Z Z h8 (zg (.dat _) Z) (zo Z Z h8 (yj _ Z Z (.inr (.inl ⟨Z,Z⟩))) (bE H fun x10 h11 H=>zo Z Z h8 (ja xm (fun _=>Z) Z Z h11) (zo Z Z h8 (jd ux Z) (zo Z Z h8 (wy tyS9 Z (qg (qi h11).2) Z) (zo Z Z h8 (z3v Z Z) (za (qt Z (bTT h9) Z) (qe Z ⟨Z,?_⟩)))))))))))
    exact ⟨(Op.bytesLess x3.Key x10.Key || x3.Key == x10.Key),H,⟨Z,Z,Z,U⟩,⟨Z,Z,U⟩⟩
   ·refine u2 h8 H fun h12 H=>zh Z Z h8 (zh Z Z h8 (zh Z Z h8 (zh Z Z h8 (zh Z Z h8 (zh Z Z h8 (zh Z Z h8 (zh Z Z h8 (zh Z Z h8 (zh Z Z h8 (za (yq Z (bFF h12) Z) (qe Z ⟨Z,?_⟩)))))))))))
    exact ⟨false,H,⟨Z,Z,Z,U⟩,⟨Z,Z,U⟩⟩
  ·rintro v13 H
   replace H:z10 v1 x3 v13=some r:=H
   unfold z10 at H
   refine zi _ Z (fun h14 => ?_) (fun h14 => ?_)
   ·refine tE h14 H fun H=>zc hN Z (qe Z (zn ?_))
    cases H
    exact ⟨U,.inl Z,U⟩
   ·refine fE h14 H fun H=>zp (zf (zc hN Z (ze (yg ql Z Z Z) Z (za (zj z3q Z) (ze (zl tyS9 Z Z) Z (bE H fun r15 h16 H=>za (yb (y7n v1 x3.Product r15 h16) ⟨.inl Z,.inl Z,U⟩) (qd Z (za (qm Z Z) (za (qm Z Z) (qe Z (qe Z (zc hN Z (qd Z (za (ww Z) (zi _ Z (fun h17 => ?_) (fun h17 => ?_))))))))))))))))
    ·refine tE h17 H fun H=>zc hN Z (qe Z (zn ?_))
     cases H
     exact ⟨U,.inl Z,U⟩
    ·refine fE h17 H fun H=>zp (zf (yw (ι:=Bool) (fun i=>[(5,.ptr 2 0),(50,.dat (zr i))]) (fun i=>[(2,.box none 84 [.dat (vstr x3.Key),.dat (vstr x3.Product),.dat (vint x3.Base),.dat (vint x3.Free),.dat (vlst (List.map wd x3.Tiers)),.dat (vint x3.Limit),.dat (vint x3.Trial),.dat (zr x3.Asked)])]) (fun i=>z36 x3 i=some r) (fun i=>Z) ?_ ?_))
     ·skip
      refine zq hN Z (za (zj z1m Z) (ze (zl tyS3 Z Z) Z (bE H fun r18 h19 H=>za (yb (Zo x3.Base 0 1000000000000 r18 h19) ⟨.inl Z,.inl Z,.inl Z,U⟩) (qd Z (qv (j:=3) Z Z (fun h20 => ?_) (fun h20 => ?_) Z)))))
      ·exact u3 h20 H fun h21 H=>zo Z Z h20 (zj z6q Z) (wc Z Z h20 (zl tyS3 Z Z) Z (bE H fun r22 h23 H=>zo Z Z h20 (yb (Zo x3.Free 0 1000000000000 r22 h23) ⟨.inl Z,.inl Z,.inl Z,U⟩) (za (yq Z (bFF h21) Z) ⟨r22,H,⟨Z,Z,U⟩,⟨Z,U⟩⟩)))
      ·exact u4 h20 H fun h24 H=>zh Z Z h20 (zh Z Z h20 (zh Z Z h20 (za (qt Z (bTT h24) Z) ⟨true,H,⟨Z,Z,U⟩,⟨Z,U⟩⟩)))
     ·rintro v25 H
      replace H:z36 x3 v25=some r:=H
      unfold z36 at H
      refine zi _ Z (fun h26 => ?_) (fun h26 => ?_)
      ·refine tE h26 H fun H=>zc hN Z (qe Z (zn ?_))
       cases H
       exact ⟨U,.inl Z,U⟩
      ·refine fE h26 H fun H=>zp (zf (zc hN Z (za (zj kz Z) (ze (zl kg Z Z) Z (bE H fun r27 h28 H=>za (yb (w2i x3.Tiers r27 h28) ⟨.inl Z,U⟩) (qe Z (zc hN Z (qd Z (za (vn Z Z) (zi _ Z (fun h29 => ?_) (fun h29 => ?_)))))))))))
       ·refine tE h29 H fun H=>zc hN Z (qd Z (qe Z (zn ?_)))
        cases H
        exact ⟨U,.inl Z,U⟩
       ·refine fE h29 H fun H=>zp (zf (yw (ι:=Bool) (fun i=>[(64,.dat (zr i))]) (fun i=>[]) (fun i=>z35 i=some r) (fun i=>Z) ?_ ?_))
        ·skip
         refine zq hN Z (za (zj y4z Z) (ze (zl tyS3 Z Z) Z (bE H fun r30 h31 H=>za (yb (Zo x3.Limit (-1) 1000000000000 r30 h31) ⟨.inl Z,.inl Z,.inl Z,U⟩) (qd Z (qv (j:=3) Z Z (fun h32 => ?_) (fun h32 => ?_) Z)))))
         ·exact u3 h32 H fun h33 H=>zo Z Z h32 (zj z6p Z) (wc Z Z h32 (zl tyS3 Z Z) Z (bE H fun r34 h35 H=>zo Z Z h32 (yb (Zo x3.Trial 0 132 r34 h35) ⟨.inl Z,.inl Z,.inl Z,U⟩) (za (yq Z (bFF h33) Z) ⟨r34,H,⟨Z,U⟩,U⟩)))
         ·exact u4 h32 H fun h36 H=>zh Z Z h32 (zh Z Z h32 (zh Z Z h32 (za (qt Z (bTT h36) Z) ⟨true,H,⟨Z,U⟩,U⟩)))
        ·rintro v37 H
         replace H:z35 v37=some r:=H
         unfold z35 at H
         refine zi _ Z (fun h38 => ?_) (fun h38 => ?_)
         ·refine tE h38 H fun H=>zc hN Z (qe Z (zn ?_))
          cases H
          exact ⟨U,.inl Z,U⟩
         ·refine fE h38 H fun H=>zp (zc hN Z (qe Z (zn ?_)))
          cases H
          exact ⟨U,.inl Z,U⟩
theorem y7q (c1:zx) (r:(Int)) (H:z2e c1=some r):Fn Tryz.prog 78 [vagg (yy c1)] (yc [vint r]):=by
 refine ⟨by kernel_rfl,yl (us:=[vint r]) Tryz.func78 Z Z Z Z fun X hN => ?_⟩
 unfold z2e at H
 refine zc hN Z (zd (qr 1 Z) Z (qe Z (zf (zc hN Z (za (zj z0f Z) (ze (zl z0b Z Z) Z (bE H fun r2 h3 H=>za (yb (w2j c1.Products r2 h3) ⟨.inl Z,U⟩) (qe Z (zc hN Z (qd Z (za (vn Z Z) (zi _ Z (fun h4 => ?_) (fun h4 => ?_)))))))))))))
 ·refine tE h4 H fun H=>zc hN Z (qd Z (qe Z (zn ?_)))
  cases H
  exact ⟨U,.inl Z,U⟩
 ·refine fE h4 H fun H=>zp (zf (zc hN Z (za (zj jk Z) (ze (zl jj Z Z) Z (za (yu Zs Z) (za (wz Z Z) (zi _ Z (fun h5 => ?_) (fun h5 => ?_))))))))
  ·refine tE h5 H fun H=>zc hN Z (qe Z (zn ?_))
   cases H
   exact ⟨U,.inl Z,U⟩
  ·refine fE h5 H fun H=>zp (zf (zc hN Z (za (zj jk Z) (ze (zl jj Z Z) Z (za (yu Zs Z) (qd Z (yd (gE H fun h8 H=>ve (fun (k6:Nat) (s:Unit)=>[(1,.ptr 1 0),(18,.dat (vint (c1.Plans.length:Int))),(19,.dat (vint (k6:Int)))]) (fun (k6:Nat) (s:Unit)=>[(1,.box none 29 [.dat (vlst (List.map yt c1.Products)),.dat (vlst (List.map ym c1.Plans))])]) () H ⟨Z,Z,Z,U⟩ ⟨Z,U⟩ (fun _ _=>Z) ?_ ?_))))))))
   ·rintro ⟨⟩ H
    replace H:y6q=some r:=H
    unfold y6q at H
    refine zc hN Z (za (ye Z Z) (zf (zi _ Z (fun h=>(lt_t h).elim) (fun h => ?_))))
    refine qk (zc hN Z (qe Z (zn ?_)))
    cases H
    exact ⟨U,.inl Z,U⟩
   ·rintro k6 x9 ⟨⟩ q7 h10 h11 H hq7
    replace H:y1z c1 k6 x9=some q7:=H
    unfold y1z at H
    refine zc hN Z (za (ye Z Z) (zf (zi _ Z (fun h => ?_) (fun h=>(lt_f h10 h).elim))))
    refine zp (zf (yd (zc hN Z (qd Z (qe Z (zc hN Z (ze (yg ql Z Z Z) Z (qd Z (bE H fun r12 h13 H=>za (yb (w2m c1 (k6:Int) r12 h13) ⟨.inl Z,.inl Z,U⟩) (qe Z (zc hN Z (qd Z (za (vn Z Z) (zi _ Z (fun h14 => ?_) (fun h14 => ?_)))))))))))))))
    ·refine tE h14 H fun H=>zc hN Z (qd Z (qe Z (zn ?_)))
     replace H:=retl H hq7
     cases H
     exact ⟨U,.inl Z,U⟩
    ·exact fE h14 H fun H=>zp (zq hN Z (za (wa Z Z (by omega)) (qd Z ⟨_,qj H,⟨Z,Z,Z,U⟩,⟨Z,U⟩⟩)))
theorem x3l (l1:(List zy)) (r:(Int)) (H:z4m l1=some r):Fn Tryz.prog 97 [vlst (List.map yk l1)] (yc [vint r]):=by
 refine ⟨by kernel_rfl,yl (us:=[vint r]) Tryz.func97 Z Z Z Z fun X hN => ?_⟩
 unfold z4m at H
 refine zc hN Z (qe Z (zf (zc hN Z (qd Z (za (yu Yq Z) (za (wz Z Z) (zi _ Z (fun h2 => ?_) (fun h2 => ?_))))))))
 ·refine tE h2 H fun H=>zc hN Z (qe Z (zn ?_))
  cases H
  exact ⟨U,.inl Z,U⟩
 ·refine fE h2 H fun H=>zp (zf (zc hN Z (qd Z (za (yu Yq Z) (qd Z (yd (gE H fun h5 H=>ve (fun (k3:Nat) (s:Unit)=>[(0,.dat (vlst (List.map yk l1))),(8,.dat (vlst (List.map yk l1))),(9,.dat (vint (l1.length:Int))),(10,.dat (vint (k3:Int)))]) (fun (k3:Nat) (s:Unit)=>[]) () H ⟨Z,Z,Z,Z,U⟩ U (fun _ _=>Z) ?_ ?_)))))))
  ·rintro ⟨⟩ H
   replace H:y6r=some r:=H
   unfold y6r at H
   refine zc hN Z (za (ye Z Z) (zf (zi _ Z (fun h=>(lt_t h).elim) (fun h => ?_))))
   refine qk (zc hN Z (qe Z (zn ?_)))
   cases H
   exact ⟨U,.inl Z,U⟩
  ·rintro k3 x6 ⟨⟩ q4 h7 h8 H hq4
   replace H:y10 l1 k3 x6=some q4:=H
   unfold y10 at H
   refine zc hN Z (za (ye Z Z) (zf (zi _ Z (fun h => ?_) (fun h=>(lt_f h7 h).elim))))
   refine zp (zf (yd (zc hN Z (qd Z (za (wq Zy (fun _=>Z) Z Z h8) (za (wo Zt Z (qg h8) Z) (zd (qf 1 Wu Z) Z (qe Z (zd (yz Zt Z Z Z Z) Z (zf (yw (ι:=Bool) (fun i=>[(0,.dat (vlst (List.map yk l1))),(3,.dat (vint (k3:Int))),(4,.ptr 1 0),(8,.dat (vlst (List.map yk l1))),(9,.dat (vint (l1.length:Int))),(10,.dat (vint (k3:Int))),(24,.dat (zr i))]) (fun i=>[(1,.box none 94 [.dat (vstr x6.Key),.dat (vstr x6.Owner)])]) (fun i=>z15 l1 k3 x6 i=some q4) (fun i=>Z) ?_ ?_)))))))))))
   ·skip
    refine zq hN Z (za (zj Zv Z) (ze (zl tyS9 Z Z) Z (bE H fun r9 h10 H=>za (yb (z9b x6.Key r9 h10) ⟨.inl Z,U⟩) (za (ww Z) (qd Z (qv (j:=4) Z Z (fun h11 => ?_) (fun h11 => ?_) Z))))))
    ·exact u3 h11 H fun h12 H=>zo Z Z h11 (zj Qn Z) (wc Z Z h11 (zl tyS9 Z Z) Z (bE H fun r13 h14 H=>zo Z Z h11 (yb (z9b x6.Owner r13 h14) ⟨.inl Z,U⟩) (zo Z Z h11 (ww Z) (za (yq Z (bFF h12) Z) ⟨!r13,H,⟨Z,Z,Z,Z,Z,Z,Z,U⟩,⟨Z,U⟩⟩))))
    ·exact u4 h11 H fun h15 H=>zh Z Z h11 (zh Z Z h11 (zh Z Z h11 (zh Z Z h11 (za (qt Z (bTT h15) Z) ⟨true,H,⟨Z,Z,Z,Z,Z,Z,Z,U⟩,⟨Z,U⟩⟩))))
   ·rintro v16 H
    replace H:z15 l1 k3 x6 v16=some q4:=H
    unfold z15 at H
    refine zi _ Z (fun h17 => ?_) (fun h17 => ?_)
    ·refine tE h17 H fun H=>zc hN Z (qe Z (zn ?_))
     replace H:=retl H hq4
     cases H
     exact ⟨U,.inl Z,U⟩
    ·refine fE h17 H fun H=>zp (yw (ι:=Bool) (fun i=>[(0,.dat (vlst (List.map yk l1))),(8,.dat (vlst (List.map yk l1))),(9,.dat (vint (l1.length:Int))),(10,.dat (vint (k3:Int))),(37,.dat (zr i))]) (fun i=>[]) (fun i=>z4d i=some q4) (fun i=>Z) ?_ ?_)
     ·skip
      refine wl mixed hN Z Z (qd Z (za (wz Z Z) (qd Z (qv (j:=2) Z Z (fun h18 => ?_) (fun h18 => ?_) Z))))
      ·refine u1 h18 H fun h19 H=>zo Z Z h18 (zj Zv Z) (wc Z Z h18 (zl tyS9 Z Z) Z (zo Z Z h18 (zg (.dat _) Z) (zo Z Z h18 (zg (.dat _) Z) (zo Z Z h18 (Yb Z Z (by omega)) (bE H fun x20 h21 H=>zo Z Z h18 (ja Zy (fun _=>Z) Z Z h21) (zo Z Z h18 (jd Zv Z) (zo Z Z h18 (wy tyS9 Z (qg (qi h21).2) Z) (zo Z Z h18 (z3v Z Z) (za (qt Z (bTT h19) Z) ⟨Z,?_⟩)))))))))
       exact ⟨(Op.bytesLess x6.Key x20.Key || x6.Key == x20.Key),H,⟨Z,Z,Z,Z,Z,U⟩,U⟩
      ·refine u2 h18 H fun h22 H=>zh Z Z h18 (zh Z Z h18 (zh Z Z h18 (zh Z Z h18 (zh Z Z h18 (zh Z Z h18 (zh Z Z h18 (zh Z Z h18 (zh Z Z h18 (za (yq Z (bFF h22) Z) ⟨Z,?_⟩)))))))))
       exact ⟨false,H,⟨Z,Z,Z,Z,Z,U⟩,U⟩
     ·rintro v23 H
      replace H:z4d v23=some q4:=H
      unfold z4d at H
      refine zi _ Z (fun h24 => ?_) (fun h24 => ?_)
      ·refine tE h24 H fun H=>zc hN Z (qe Z (zn ?_))
       replace H:=retl H hq4
       cases H
       exact ⟨U,.inl Z,U⟩
      ·exact fE h24 H fun H=>zp (zq hN Z (za (wa Z Z (by omega)) (qd Z ⟨_,qj H,⟨Z,Z,Z,Z,U⟩,U⟩)))
theorem w28 (n1:Int) (r:(Bool)) (H:z8f n1=some r):Fn Tryz.prog 139 [vint n1] (yc [zr r]):=by
 refine ⟨by kernel_rfl,yl (us:=[zr r]) Tryz.func139 Z Z Z Z fun X hN => ?_⟩
 unfold z8f at H
 refine zc hN Z (qe Z (zc hN Z (qd Z (za (jn Z Z) (qd Z (wb Z Z (fun hc=>zg (.dat _) Z) (wb Z Z (fun hc=>ye (cnd (c:=(decide (0≤n1))) hc) Z) (za (jf Z (fun hb=>(cnd (c:=(decide (0≤n1))) hb)) Z) (qe Z (zn ?_))))))))))
 cases H
 exact ⟨U,.inl Z,U⟩
theorem x3x (x1:Int) (r:(Bool)) (H:z83 x1=some r):Fn Tryz.prog 169 [vint x1] (yc [zr r]):=by
 refine ⟨by kernel_rfl,yl (us:=[zr r]) Tryz.func169 Z Z Z Z fun X hN => ?_⟩
 unfold z83 at H
 refine zc hN Z (qe Z (zc hN Z (qd Z (qd Z (za (vn Z Z) (qe Z (zn ?_)))))))
 cases H
 exact ⟨U,.inl Z,U⟩
theorem x3y (x1:Int) (y2:Int) (r:(Int)) (H:z2m x1 y2=some r):Fn Tryz.prog 143 [vint x1,vint y2] (yc [vint r]):=by
 refine ⟨by kernel_rfl,yl (us:=[vint r]) Tryz.func143 Z Z Z Z fun X hN => ?_⟩
 unfold z2m at H
 refine zc hN Z (qe Z (zc hN Z (qd Z (bE H fun r3 h4 H=>za (yb (x3x x1 r3 h4) ⟨.inl Z,U⟩) (qe Z (zc hN Z (qd Z (bE H fun r5 h6 H=>za (yb (x3x y2 r5 h6) ⟨.inl Z,U⟩) (qe Z (zf (zc hN Z (qd Z (zi _ Z (fun h7 => ?_) (fun h7 => ?_))))))))))))))
 ·refine tE h7 H fun H=>zf (zc hN Z (qd Z (zi _ Z (fun h8 => ?_) (fun h8 => ?_))))
  ·refine tE h8 H fun H=>zc hN Z (qe Z (zn ?_))
   cases H
   exact ⟨U,.inl Z,U⟩
  ·refine fE h8 H fun H=>zp (zc hN Z (qe Z (zn ?_)))
   cases H
   exact ⟨U,.inl Z,U⟩
 ·refine fE h7 H fun H=>zp (zf (zc hN Z (qd Z (zi _ Z (fun h9 => ?_) (fun h9 => ?_)))))
  ·refine tE h9 H fun H=>zc hN Z (qe Z (zn ?_))
   cases H
   exact ⟨U,.inl Z,U⟩
  ·refine fE h9 H fun H=>zp (zf (zc hN Z (qd Z (qd Z (za (ye Z Z) (zi _ Z (fun h10 => ?_) (fun h10 => ?_)))))))
   ·refine tE h10 H fun H=>zc hN Z (qe Z (zn ?_))
    cases H
    exact ⟨U,.inl Z,U⟩
   ·refine fE h10 H fun H=>zp (zf (zc hN Z (qd Z (qd Z (za (wz Z Z) (zi _ Z (fun h11 => ?_) (fun h11 => ?_)))))))
    ·refine tE h11 H fun H=>zc hN Z (qe Z (zn ?_))
     cases H
     exact ⟨U,.inl Z,U⟩
    ·refine fE h11 H fun H=>zp (zc hN Z (qe Z (zn ?_)))
     cases H
     exact ⟨U,.inl Z,U⟩
theorem y7v (vals1:(List Int)) (r:(Int)) (H:We vals1=some r):Fn Tryz.prog 65 [vlst (List.map qn vals1)] (yc [vint r]):=by
 refine ⟨by kernel_rfl,yl (us:=[vint r]) Tryz.func65 Z Z Z Z fun X hN => ?_⟩
 unfold We at H
 refine zc hN Z (qe Z (zc hN Z (qe Z (zf (zc hN Z (qd Z (za (yu z6j Z) (qd Z (yd (gE H fun h4 H=>ve (fun (k2:Nat) (s:Unit)=>[(3,.dat (vint 0)),(6,.dat (vlst (List.map qn vals1))),(7,.dat (vint (vals1.length:Int))),(8,.dat (vint (k2:Int)))]) (fun (k2:Nat) (s:Unit)=>[]) () H ⟨Z,Z,Z,Z,U⟩ U (fun _ _=>Z) ?_ ?_))))))))))
 ·rintro ⟨⟩ H
  replace H:z9y=some r:=H
  unfold z9y at H
  refine zc hN Z (za (ye Z Z) (zf (zi _ Z (fun h=>(lt_t h).elim) (fun h => ?_))))
  refine qk (zc hN Z (qd Z (qe Z (zn ?_))))
  cases H
  exact ⟨U,.inl Z,U⟩
 ·rintro k2 x5 ⟨⟩ q3 h6 h7 H hq3
  replace H:z9x k2 x5=some q3:=H
  unfold z9x at H
  refine zc hN Z (za (ye Z Z) (zf (zi _ Z (fun h => ?_) (fun h=>(lt_f h6 h).elim))))
  refine zp (zf (yd (zc hN Z (za (wq y40 (fun _=>Z) Z Z h7) (za (wy tyS3 Z (qg h7) Z) (qe Z (zc hN Z (qd Z (qd Z (za (vn Z Z) (zi _ Z (fun h8 => ?_) (fun h8 => ?_))))))))))))
  ·refine tE h8 H fun H=>zc hN Z (qd Z (qe Z (zn ?_)))
   replace H:=retl H hq3
   cases H
   exact ⟨U,.inl Z,U⟩
  ·exact fE h8 H fun H=>zp (zq hN Z (za (wa Z Z (by omega)) (qd Z ⟨_,qj H,⟨Z,Z,Z,Z,U⟩,U⟩)))
theorem w2r (a1:zk) (b2:zk) (r:(Int)) (H:y2u a1 b2=some r):Fn Tryz.prog 140 [vagg (yi a1),vagg (yi b2)] (yc [vint r]):=by
 refine ⟨by kernel_rfl,yl (us:=[vint r]) Tryz.func140 Z Z Z Z fun X hN => ?_⟩
 unfold y2u at H
 refine zc hN Z (zd (qr 1 Z) Z (zd (qr 2 Z) Z (qe Z (zf (wl mixed hN Z Z (za (zj jw Z) (ze (zl tyS3 Z Z) Z (za (zj jw Z) (ze (zl tyS3 Z Z) Z (bE H fun r3 h4 H=>za (yb (x3y a1.At b2.At r3 h4) ⟨.inl Z,.inl Z,U⟩) (za (zj Zf Z) (ze (zl tyS9 Z Z) Z (za (zj Zf Z) (ze (zl tyS9 Z Z) Z (bE H fun r5 h6 H=>za (yb (Yz a1.App b2.App r5 h6) ⟨.inl Z,.inl Z,U⟩) (za (zj uz Z) (ze (zl tyS9 Z Z) Z (za (zj uz Z) (ze (zl tyS9 Z Z) Z (bE H fun r7 h8 H=>za (yb (Yz a1.Product b2.Product r7 h8) ⟨.inl Z,.inl Z,U⟩) ?_))))))))))))))))))))
 refine za (yf (u':=vlst (List.map qn [r3,r5,r7])) (qa [[_],[_],[_]] vx ⟨Z,.inl ⟨_,Z,Z,Z⟩,Z,Z,.inl ⟨_,Z,Z,Z⟩,Z,Z,.inl ⟨_,Z,Z,Z⟩,Z,U⟩ Z Z) Z) (bE H fun r9 h10 H=>za (yb (y7v [r3,r5,r7] r9 h10) ⟨.inl Z,U⟩) (qe Z ⟨Z,?_⟩))
 refine zn ?_
 cases H
 exact ⟨U,.inl Z,U⟩
theorem w2p (v1:zx) (v2:(List zy)) (v3:(List zk)) (v4:Int) (r:(Int)) (H:z77 v1 v2 v3 v4=some r):Fn Tryz.prog 98 [vagg (yy v1),vlst (List.map yk v2),vlst (List.map yi v3),vint v4] (yc [vint r]):=by
 refine ⟨by kernel_rfl,yl (us:=[vint r]) Tryz.func98 Z Z Z Z fun X hN => ?_⟩
 unfold z77 at H
 refine zc hN Z (zd (qr 1 Z) Z (qe Z (zc hN Z (qd Z (qd Z (bE H fun x5 h6 H=>za (ja jm (fun _=>Z) Z Z h6) (za (wo vk Z (qg (qi h6).2) Z) (zd (qf 2 Wx Z) Z (zd (yz vk Z Z Z Z) Z (zf (zc hN Z (za (zj jw Z) (ze (zl tyS3 Z Z) Z (bE H fun r7 h8 H=>za (yb (w28 x5.At r7 h8) ⟨.inl Z,U⟩) (za (ww Z) (zi _ Z (fun h9 => ?_) (fun h9 => ?_)))))))))))))))))
 ·refine tE h9 H fun H=>zc hN Z (qe Z (zn ?_))
  cases H
  exact ⟨U,.inl Z,U⟩
 ·refine fE h9 H fun H=>zp (zf (zc hN Z (qd Z (za (zj Zf Z) (ze (zl tyS9 Z Z) Z (bE H fun r10 h11 H=>za (yb (y7p v2 x5.App r10 h11) ⟨.inl Z,.inl Z,U⟩) (qd Z (za (qm Z Z) (za (qm Z Z) (qe Z (qe Z (zc hN Z (qd Z (za (ww Z) (zi _ Z (fun h12 => ?_) (fun h12 => ?_))))))))))))))))
  ·refine tE h12 H fun H=>zc hN Z (qe Z (zn ?_))
   cases H
   exact ⟨U,.inl Z,U⟩
  ·refine fE h12 H fun H=>zp (zf (zc hN Z (ze (yg ql Z Z Z) Z (za (zj uz Z) (ze (zl tyS9 Z Z) Z (bE H fun r13 h14 H=>za (yb (y7n v1 x5.Product r13 h14) ⟨.inl Z,.inl Z,U⟩) (qd Z (za (qm Z Z) (za (qm Z Z) (qe Z (qe Z (zc hN Z (qd Z (za (ww Z) (zi _ Z (fun h15 => ?_) (fun h15 => ?_))))))))))))))))
   ·refine tE h15 H fun H=>zc hN Z (qe Z (zn ?_))
    cases H
    exact ⟨U,.inl Z,U⟩
   ·refine fE h15 H fun H=>zp (zf (zc hN Z (za (zj jt Z) (ze (zl tyS3 Z Z) Z (bE H fun r16 h17 H=>za (yb (Zo x5.Kind 1 6 r16 h17) ⟨.inl Z,.inl Z,.inl Z,U⟩) (zi _ Z (fun h18 => ?_) (fun h18 => ?_)))))))
    ·refine tE h18 H fun H=>zc hN Z (qe Z (zn ?_))
     cases H
     exact ⟨U,.inl Z,U⟩
    ·refine fE h18 H fun H=>zp (zf (zc hN Z (za (zj xl Z) (ze (zl tyS9 Z Z) Z (za (Yd Z Z) (qd Z (wb Z Z (fun hc=>zj jt Z) (un Z Z (fun hc=>zl tyS3 (cnd (c:=(decide (x5.Plan≠[]))) hc) Z) Z jq (wb Z Z (fun hc=>vn (cnd (c:=(decide (x5.Plan≠[]))) hc) Z) (za (jf Z (fun hb=>(cnd (c:=(decide (x5.Plan≠[]))) hb)) Z) (zi _ Z (fun h19 => ?_) (fun h19 => ?_))))))))))))
     ·refine tE h19 H fun H=>zc hN Z (qe Z (zn ?_))
      cases H
      exact ⟨U,.inl Z,U⟩
     ·refine fE h19 H fun H=>zp (yw (ι:=Unit) (fun i=>[(2,.dat (vlst (List.map yi v3))),(3,.dat (vint v4)),(9,.ptr 2 0)]) (fun i=>[(2,.box none 102 [.dat (vint x5.At),.dat (vstr x5.App),.dat (vstr x5.Product),.dat (vint x5.Kind),.dat (vstr x5.Plan)])]) (fun i=>z11 v3 v4 x5=some r) (fun i=>Z) ?_ ?_)
      ·skip
       refine zc hN Z (za (zj jt Z) (ze (zl tyS3 Z Z) Z (za (qc Z Z) (zi _ Z (fun h20 => ?_) (fun h20 => ?_)))))
       ·refine tE h20 H fun H=>zc hN Z (ze (yg ql Z Z Z) Z (za (zj xl Z) (ze (zl tyS9 Z Z) Z (bE H fun r21 h22 H=>za (yb (y25 v1 x5.Plan r21 h22) ⟨.inl Z,.inl Z,U⟩) (qd Z (za (qm Z Z) (za (qm Z Z) (zd (qf 3 uj Z) Z (zd (yz vu Z Z Z Z) Z (qe Z (zf (zc hN Z (qd Z (za (ww Z) (zi _ Z (fun h23 => ?_) (fun h23 => ?_))))))))))))))))
        ·refine tE h23 H fun H=>zc hN Z (qe Z (zn ?_))
         cases H
         exact ⟨U,.inl Z,U⟩
        ·refine fE h23 H fun H=>zp (zc hN Z (za (zj z3q Z) (ze (zl tyS9 Z Z) Z (za (zj uz Z) (ze (zl tyS9 Z Z) Z (za (Yd Z Z) (zi _ Z (fun h24 => ?_) (fun h24 => ?_))))))))
         ·refine tE h24 H fun H=>zc hN Z (qe Z (zn ?_))
          cases H
          exact ⟨U,.inl Z,U⟩
         ·exact fE h24 H fun H=>zp ⟨(),H,⟨Z,Z,Z,U⟩,⟨Z,U⟩⟩
       ·exact fE h20 H fun H=>zp ⟨(),H,⟨Z,Z,Z,U⟩,⟨Z,U⟩⟩
      ·rintro ⟨⟩ H
       replace H:z11 v3 v4 x5=some r:=H
       unfold z11 at H
       refine zf (yw (ι:=Bool) (fun i=>[(81,.dat (zr i))]) (fun i=>[]) (fun i=>z4a i=some r) (fun i=>Z) ?_ ?_)
       ·skip
        refine wl mixed hN Z Z (qd Z (za (wz Z Z) (qd Z (qv (j:=2) Z Z (fun h25 => ?_) (fun h25 => ?_) Z))))
        ·refine u1 h25 H fun h26 H=>zo Z Z h25 (zg (.dat _) Z) (zo Z Z h25 (zg (.dat _) Z) (zo Z Z h25 (yj _ Z Z (.inr (.inl ⟨Z,Z⟩))) (bE H fun x27 h28 H=>zo Z Z h25 (ja jm (fun _=>Z) Z Z h28) (zo Z Z h25 (wo vk Z (qg (qi h28).2) Z) (wc Z Z h25 (yg vk Z Z Z) Z (bE H fun r29 h30 H=>zo Z Z h25 (yb (w2r x27 x5 r29 h30) ⟨.inl Z,.inl Z,U⟩) (zo Z Z h25 (jn Z Z) (za (qt Z (bTT h26) Z) ⟨Z,?_⟩))))))))
         exact ⟨decide (0≤r29),H,⟨Z,U⟩,U⟩
        ·refine u2 h25 H fun h31 H=>zh Z Z h25 (zh Z Z h25 (zh Z Z h25 (zh Z Z h25 (zh Z Z h25 (zh Z Z h25 (zh Z Z h25 (zh Z Z h25 (za (yq Z (bFF h31) Z) ⟨Z,?_⟩))))))))
         exact ⟨false,H,⟨Z,U⟩,U⟩
       ·rintro v32 H
        replace H:z4a v32=some r:=H
        unfold z4a at H
        refine zi _ Z (fun h33 => ?_) (fun h33 => ?_)
        ·refine tE h33 H fun H=>zc hN Z (qe Z (zn ?_))
         cases H
         exact ⟨U,.inl Z,U⟩
        ·refine fE h33 H fun H=>zp (zc hN Z (qe Z (zn ?_)))
         cases H
         exact ⟨U,.inl Z,U⟩
theorem w21 (c1:zx) (apps2:(List zy)) (l3:(List zk)) (r:(Int)) (H:z8d c1 apps2 l3=some r):Fn Tryz.prog 59 [vagg (yy c1),vlst (List.map yk apps2),vlst (List.map yi l3)] (yc [vint r]):=by
 refine ⟨by kernel_rfl,yl (us:=[vint r]) Tryz.func59 Z Z Z Z fun X hN => ?_⟩
 unfold z8d at H
 refine zc hN Z (zd (qr 1 Z) Z (qe Z (zf (zc hN Z (ze (yg ql Z Z Z) Z (bE H fun r4 h5 H=>za (yb (y7q c1 r4 h5) ⟨.inl Z,U⟩) (qe Z (zc hN Z (qd Z (za (vn Z Z) (zi _ Z (fun h6 => ?_) (fun h6 => ?_))))))))))))
 ·refine tE h6 H fun H=>zc hN Z (qd Z (qe Z (zn ?_)))
  cases H
  exact ⟨U,.inl Z,U⟩
 ·refine fE h6 H fun H=>zp (zf (zc hN Z (qd Z (bE H fun r7 h8 H=>za (yb (x3l apps2 r7 h8) ⟨.inl Z,U⟩) (qe Z (zc hN Z (qd Z (za (vn Z Z) (zi _ Z (fun h9 => ?_) (fun h9 => ?_))))))))))
  ·refine tE h9 H fun H=>zc hN Z (qd Z (qe Z (zn ?_)))
   cases H
   exact ⟨U,.inl Z,U⟩
  ·refine fE h9 H fun H=>zp (zf (zc hN Z (qd Z (za (yu Zc Z) (za (wz Z Z) (zi _ Z (fun h10 => ?_) (fun h10 => ?_)))))))
   ·refine tE h10 H fun H=>zc hN Z (qe Z (zn ?_))
    cases H
    exact ⟨U,.inl Z,U⟩
   ·refine fE h10 H fun H=>zp (zf (zc hN Z (qd Z (za (yu Zc Z) (qd Z (yd (gE H fun h13 H=>ve (fun (k11:Nat) (s:Unit)=>[(1,.dat (vlst (List.map yk apps2))),(2,.dat (vlst (List.map yi l3))),(3,.ptr 1 0),(25,.dat (vint (l3.length:Int))),(26,.dat (vint (k11:Int)))]) (fun (k11:Nat) (s:Unit)=>[(1,.box none 29 [.dat (vlst (List.map yt c1.Products)),.dat (vlst (List.map ym c1.Plans))])]) () H ⟨Z,Z,Z,Z,Z,U⟩ ⟨Z,U⟩ (fun _ _=>Z) ?_ ?_)))))))
    ·rintro ⟨⟩ H
     replace H:y6p=some r:=H
     unfold y6p at H
     refine zc hN Z (za (ye Z Z) (zf (zi _ Z (fun h=>(lt_t h).elim) (fun h => ?_))))
     refine qk (zc hN Z (qe Z (zn ?_)))
     cases H
     exact ⟨U,.inl Z,U⟩
    ·rintro k11 x14 ⟨⟩ q12 h15 h16 H hq12
     replace H:y1y c1 apps2 l3 k11 x14=some q12:=H
     unfold y1y at H
     refine zc hN Z (za (ye Z Z) (zf (zi _ Z (fun h => ?_) (fun h=>(lt_f h15 h).elim))))
     refine zp (zf (yd (zc hN Z (qd Z (qe Z (zc hN Z (ze (yg ql Z Z Z) Z (qd Z (qd Z (qd Z (bE H fun r17 h18 H=>za (yb (w2p c1 apps2 l3 (k11:Int) r17 h18) ⟨.inl Z,.inl Z,.inl Z,.inl Z,U⟩) (qe Z (zc hN Z (qd Z (za (vn Z Z) (zi _ Z (fun h19 => ?_) (fun h19 => ?_)))))))))))))))))
     ·refine tE h19 H fun H=>zc hN Z (qd Z (qe Z (zn ?_)))
      replace H:=retl H hq12
      cases H
      exact ⟨U,.inl Z,U⟩
     ·exact fE h19 H fun H=>zp (zq hN Z (za (wa Z Z (by omega)) (qd Z ⟨_,qj H,⟨Z,Z,Z,Z,Z,U⟩,⟨Z,U⟩⟩)))
theorem w2q (a1:zz) (b2:zz) (r:(Int)) (H:y2t a1 b2=some r):Fn Tryz.prog 100 [vagg (wn a1),vagg (wn b2)] (yc [vint r]):=by
 refine ⟨by kernel_rfl,yl (us:=[vint r]) Tryz.func100 Z Z Z Z fun X hN => ?_⟩
 unfold y2t at H
 refine zc hN Z (zd (qr 1 Z) Z (zd (qr 2 Z) Z (qe Z (zf (wl mixed hN Z Z (za (zj Zw Z) (ze (zl tyS3 Z Z) Z (za (zj Zw Z) (ze (zl tyS3 Z Z) Z (bE H fun r3 h4 H=>za (yb (x3y a1.Month b2.Month r3 h4) ⟨.inl Z,.inl Z,U⟩) (za (zj Yr Z) (ze (zl tyS9 Z Z) Z (za (zj Yr Z) (ze (zl tyS9 Z Z) Z (bE H fun r5 h6 H=>za (yb (Yz a1.App b2.App r5 h6) ⟨.inl Z,.inl Z,U⟩) (za (zj z0d Z) (ze (zl tyS9 Z Z) Z (za (zj z0d Z) (ze (zl tyS9 Z Z) Z (bE H fun r7 h8 H=>za (yb (Yz a1.Product b2.Product r7 h8) ⟨.inl Z,.inl Z,U⟩) ?_))))))))))))))))))))
 refine za (yf (u':=vlst (List.map qn [r3,r5,r7])) (qa [[_],[_],[_]] vx ⟨Z,.inl ⟨_,Z,Z,Z⟩,Z,Z,.inl ⟨_,Z,Z,Z⟩,Z,Z,.inl ⟨_,Z,Z,Z⟩,Z,U⟩ Z Z) Z) (bE H fun r9 h10 H=>za (yb (y7v [r3,r5,r7] r9 h10) ⟨.inl Z,U⟩) (qe Z ⟨Z,?_⟩))
 refine zn ?_
 cases H
 exact ⟨U,.inl Z,U⟩
theorem w20 (v1:zx) (v2:(List zy)) (v3:(List zz)) (r:(Int)) (H:z8c v1 v2 v3=some r):Fn Tryz.prog 60 [vagg (yy v1),vlst (List.map yk v2),vlst (List.map wn v3)] (yc [vint r]):=by
 refine ⟨by kernel_rfl,yl (us:=[vint r]) Tryz.func60 Z Z Z Z fun X hN => ?_⟩
 unfold z8c at H
 refine zc hN Z (zd (qr 1 Z) Z (qe Z (zf (zc hN Z (ze (yg ql Z Z Z) Z (bE H fun r4 h5 H=>za (yb (y7q v1 r4 h5) ⟨.inl Z,U⟩) (qe Z (zc hN Z (qd Z (za (vn Z Z) (zi _ Z (fun h6 => ?_) (fun h6 => ?_))))))))))))
 ·refine tE h6 H fun H=>zc hN Z (qd Z (qe Z (zn ?_)))
  cases H
  exact ⟨U,.inl Z,U⟩
 ·refine fE h6 H fun H=>zp (zf (zc hN Z (qd Z (bE H fun r7 h8 H=>za (yb (x3l v2 r7 h8) ⟨.inl Z,U⟩) (qe Z (zc hN Z (qd Z (za (vn Z Z) (zi _ Z (fun h9 => ?_) (fun h9 => ?_))))))))))
  ·refine tE h9 H fun H=>zc hN Z (qd Z (qe Z (zn ?_)))
   cases H
   exact ⟨U,.inl Z,U⟩
  ·refine fE h9 H fun H=>zp (zf (zc hN Z (qd Z (za (yu Wy Z) (za (wz Z Z) (zi _ Z (fun h10 => ?_) (fun h10 => ?_)))))))
   ·refine tE h10 H fun H=>zc hN Z (qe Z (zn ?_))
    cases H
    exact ⟨U,.inl Z,U⟩
   ·refine fE h10 H fun H=>zp (zf (zc hN Z (qd Z (za (yu Wy Z) (qd Z (yd (gE H fun h13 H=>ve (fun (k11:Nat) (s:Unit)=>[(1,.dat (vlst (List.map yk v2))),(2,.dat (vlst (List.map wn v3))),(3,.ptr 1 0),(28,.dat (vlst (List.map wn v3))),(29,.dat (vint (v3.length:Int))),(30,.dat (vint (k11:Int)))]) (fun (k11:Nat) (s:Unit)=>[(1,.box none 29 [.dat (vlst (List.map yt v1.Products)),.dat (vlst (List.map ym v1.Plans))])]) () H ⟨Z,Z,Z,Z,Z,Z,U⟩ ⟨Z,U⟩ (fun _ _=>Z) ?_ ?_)))))))
    ·rintro ⟨⟩ H
     replace H:y6o=some r:=H
     unfold y6o at H
     refine zc hN Z (za (ye Z Z) (zf (zi _ Z (fun h=>(lt_t h).elim) (fun h => ?_))))
     refine qk (zc hN Z (qe Z (zn ?_)))
     cases H
     exact ⟨U,.inl Z,U⟩
    ·rintro k11 x14 ⟨⟩ q12 h15 h16 H hq12
     replace H:z7k v1 v2 v3 k11 x14=some q12:=H
     unfold z7k at H
     refine zc hN Z (za (ye Z Z) (zf (zi _ Z (fun h => ?_) (fun h=>(lt_f h15 h).elim))))
     refine zp (zf (yd (zc hN Z (qd Z (za (wq z1p (fun _=>Z) Z Z h16) (za (wo Zd Z (qg h16) Z) (zd (qf 2 z1i Z) Z (qe Z (zd (yz Zd Z Z Z Z) Z (zc hN Z (qd Z (za (zj Yr Z) (ze (zl tyS9 Z Z) Z (bE H fun r17 h18 H=>za (yb (y7p v2 x14.App r17 h18) ⟨.inl Z,.inl Z,U⟩) (qd Z (za (qm Z Z) (za (qm Z Z) (qe Z (qe Z (zc hN Z (ze (yg ql Z Z Z) Z (za (zj z0d Z) ?_))))))))))))))))))))))
     refine ze (zl tyS9 Z Z) Z (bE H fun r19 h20 H=>za (yb (y7n v1 x14.Product r19 h20) ⟨.inl Z,.inl Z,U⟩) (qd Z (za (qm Z Z) (za (qm Z Z) (qe Z (qe Z (yd (zc hN Z (qd Z (za (ww Z) (qd Z (ji Z Z (fun hc=>zg (.dat _) Z) (ji Z Z (fun hc=>ww (cnd (c:=(!(!r17.2))) hc)) (za (ul Z Z (fun hb=>(cnd (c:=(!(!r17.2))) (notI hb)))) (qe Z (zi _ Z (fun h21 => ?_) (fun h21 => ?_)))))))))))))))))
     ·refine tE h21 H fun H=>zc hN Z (qe Z (zn ?_))
      replace H:=retl H hq12
      cases H
      exact ⟨U,.inl Z,U⟩
     ·refine fE h21 H fun H=>yw (ι:=Bool) (fun i=>[(1,.dat (vlst (List.map yk v2))),(2,.dat (vlst (List.map wn v3))),(3,.ptr 1 0),(9,.dat (vint (k11:Int))),(10,.ptr 2 0),(28,.dat (vlst (List.map wn v3))),(29,.dat (vint (v3.length:Int))),(30,.dat (vint (k11:Int))),(56,.dat (zr i))]) (fun i=>[(1,.box none 29 [.dat (vlst (List.map yt v1.Products)),.dat (vlst (List.map ym v1.Plans))]),(2,.box none 64 [.dat (vstr x14.App),.dat (vstr x14.Product),.dat (vint x14.Month),.dat (vint x14.Calls)])]) (fun i=>z14 v3 k11 x14 i=some q12) (fun i=>Z) ?_ ?_
      ·skip
       refine zq hN Z (za (zj Zw Z) (ze (zl tyS3 Z Z) Z (bE H fun r22 h23 H=>za (yb (Zo x14.Month 0 132 r22 h23) ⟨.inl Z,.inl Z,.inl Z,U⟩) (qd Z (qv (j:=3) Z Z (fun h24 => ?_) (fun h24 => ?_) Z)))))
       ·exact u3 h24 H fun h25 H=>zo Z Z h24 (zj z6r Z) (wc Z Z h24 (zl tyS3 Z Z) Z (bE H fun r26 h27 H=>zo Z Z h24 (yb (Zo x14.Calls 0 1000000000000 r26 h27) ⟨.inl Z,.inl Z,.inl Z,U⟩) (za (yq Z (bFF h25) Z) (qe Z ⟨r26,H,⟨Z,Z,Z,Z,Z,Z,Z,Z,Z,U⟩,⟨Z,Z,U⟩⟩))))
       ·exact u4 h24 H fun h28 H=>zh Z Z h24 (zh Z Z h24 (zh Z Z h24 (za (qt Z (bTT h28) Z) (qe Z ⟨true,H,⟨Z,Z,Z,Z,Z,Z,Z,Z,Z,U⟩,⟨Z,Z,U⟩⟩))))
      ·rintro v29 H
       replace H:z14 v3 k11 x14 v29=some q12:=H
       unfold z14 at H
       refine zi _ Z (fun h30 => ?_) (fun h30 => ?_)
       ·refine tE h30 H fun H=>zc hN Z (qe Z (zn ?_))
        replace H:=retl H hq12
        cases H
        exact ⟨U,.inl Z,U⟩
       ·refine fE h30 H fun H=>yw (ι:=Bool) (fun i=>[(1,.dat (vlst (List.map yk v2))),(2,.dat (vlst (List.map wn v3))),(3,.ptr 1 0),(28,.dat (vlst (List.map wn v3))),(29,.dat (vint (v3.length:Int))),(30,.dat (vint (k11:Int))),(65,.dat (zr i))]) (fun i=>[(1,.box none 29 [.dat (vlst (List.map yt v1.Products)),.dat (vlst (List.map ym v1.Plans))])]) (fun i=>z4c i=some q12) (fun i=>Z) ?_ ?_
        ·skip
         refine wl mixed hN Z Z (qd Z (za (wz Z Z) (qd Z (qv (j:=2) Z Z (fun h31 => ?_) (fun h31 => ?_) Z))))
         ·refine u1 h31 H fun h32 H=>zo Z Z h31 (zg (.dat _) Z) (zo Z Z h31 (zg (.dat _) Z) (zo Z Z h31 (Yb Z Z (by omega)) (bE H fun x33 h34 H=>zo Z Z h31 (ja z1p (fun _=>Z) Z Z h34) (zo Z Z h31 (wo Zd Z (qg (qi h34).2) Z) (wc Z Z h31 (yg Zd Z Z Z) Z (bE H fun r35 h36 H=>zo Z Z h31 (yb (w2q x33 x14 r35 h36) ⟨.inl Z,.inl Z,U⟩) (zo Z Z h31 (jn Z Z) (za (qt Z (bTT h32) Z) (qe Z ⟨Z,?_⟩)))))))))
          exact ⟨decide (0≤r35),H,⟨Z,Z,Z,Z,Z,Z,Z,U⟩,⟨Z,U⟩⟩
         ·refine u2 h31 H fun h37 H=>zh Z Z h31 (zh Z Z h31 (zh Z Z h31 (zh Z Z h31 (zh Z Z h31 (zh Z Z h31 (zh Z Z h31 (zh Z Z h31 (za (yq Z (bFF h37) Z) (qe Z ⟨Z,?_⟩)))))))))
          exact ⟨false,H,⟨Z,Z,Z,Z,Z,Z,Z,U⟩,⟨Z,U⟩⟩
        ·rintro v38 H
         replace H:z4c v38=some q12:=H
         unfold z4c at H
         refine zi _ Z (fun h39 => ?_) (fun h39 => ?_)
         ·refine tE h39 H fun H=>zc hN Z (qe Z (zn ?_))
          replace H:=retl H hq12
          cases H
          exact ⟨U,.inl Z,U⟩
         ·exact fE h39 H fun H=>zp (zq hN Z (za (wa Z Z (by omega)) (qd Z ⟨_,qj H,⟨Z,Z,Z,Z,Z,Z,U⟩,⟨Z,U⟩⟩)))
theorem w2h (c1:zx) (apps2:(List zy)) (l3:(List zk)) (uses4:(List zz)) (r:(Int)) (H:z7y c1 apps2 l3 uses4=some r):Fn Tryz.prog 27 [vagg (yy c1),vlst (List.map yk apps2),vlst (List.map yi l3),vlst (List.map wn uses4)] (yc [vint r]):=by
 refine ⟨by kernel_rfl,yl (us:=[vint r]) Tryz.func27 Z Z Z Z fun X hN => ?_⟩
 unfold z7y at H
 refine zc hN Z (zd (qr 1 Z) Z (qe Z (zf (zc hN Z (ze (yg ql Z Z Z) Z (qd Z (qd Z (bE H fun r5 h6 H=>za (yb (w21 c1 apps2 l3 r5 h6) ⟨.inl Z,.inl Z,.inl Z,U⟩) (qe Z (zc hN Z (qd Z (za (vn Z Z) (zi _ Z (fun h7 => ?_) (fun h7 => ?_))))))))))))))
 ·refine tE h7 H fun H=>zc hN Z (qd Z (qe Z (zn ?_)))
  cases H
  exact ⟨U,.inl Z,U⟩
 ·refine fE h7 H fun H=>zp (zc hN Z (ze (yg ql Z Z Z) Z (qd Z (qd Z (bE H fun r8 h9 H=>za (yb (w20 c1 apps2 uses4 r8 h9) ⟨.inl Z,.inl Z,.inl Z,U⟩) (qe Z (zn ?_)))))))
  cases H
  exact ⟨U,.inl Z,U⟩
theorem w2y (l1:(List zm)) (r:(Int×Int)) (H:z8a l1=some r):Fn Tryz.prog 9 [vlst (List.map wg l1)] (yc [vint r.1,vint r.2]):=by
 refine ⟨by kernel_rfl,yl (us:=[vint r.1,vint r.2]) Tryz.func9 Z Z Z Z fun X hN => ?_⟩
 unfold z8a at H
 refine zc hN Z (qe Z (qe Z (zf (zc hN Z (qd Z (za (yu Qk Z) (za (wz Z Z) (zi _ Z (fun h2 => ?_) (fun h2 => ?_)))))))))
 ·refine tE h2 H fun H=>zc hN Z (qe Z (qe Z (zn ?_)))
  cases H
  exact ⟨U,.inl Z,.inl Z,U⟩
 ·refine fE h2 H fun H=>zp (zc hN Z (qe Z (zf (zc hN Z (qd Z (za (yu Qk Z) (qd Z (yd (gE H fun h6 H=>ve (fun (k4:Nat) (s:Int)=>[(4,.dat (vint s)),(10,.dat (vlst (List.map wg l1))),(11,.dat (vint (l1.length:Int))),(12,.dat (vint (k4:Int)))]) (fun (k4:Nat) (s:Int)=>[]) 0 H ⟨Z,Z,Z,Z,U⟩ U (fun _ _=>Z) ?_ ?_)))))))))
  ·rintro sum3 H
   replace H:y1x sum3=some r:=H
   unfold y1x at H
   refine zc hN Z (za (ye Z Z) (zf (zi _ Z (fun h=>(lt_t h).elim) (fun h => ?_))))
   refine qk (zc hN Z (qd Z (qe Z (qe Z (zn ?_)))))
   cases H
   exact ⟨U,.inl Z,.inl Z,U⟩
  ·rintro k4 x7 sum3 q5 h8 h9 H hq5
   replace H:z4b k4 x7 sum3=some q5:=H
   unfold z4b at H
   refine zc hN Z (za (ye Z Z) (zf (zi _ Z (fun h => ?_) (fun h=>(lt_f h8 h).elim))))
   refine zp (zf (yd (zc hN Z (za (wq Zx (fun _=>Z) Z Z h9) (za (wo jh Z (qg h9) Z) (zd (qf 1 Ww Z) Z (zd (yz jh Z Z Z Z) Z (zf (zc hN Z (za (zj xk Z) (ze (zl tyS3 Z Z) Z (bE H fun r10 h11 H=>za (yb (Zo x7.Cents (-1000000000000) 1000000000000 r10 h11) ⟨.inl Z,.inl Z,.inl Z,U⟩) (zi _ Z (fun h12 => ?_) (fun h12 => ?_))))))))))))))
   ·refine tE h12 H fun H=>zc hN Z (qe Z (qe Z (zn ?_)))
    replace H:=retl H hq5
    cases H
    exact ⟨U,.inl Z,.inl Z,U⟩
   ·exact fE h12 H fun H=>zp (zq hN Z (qd Z (za (zj xk Z) (ze (zl tyS3 Z Z) Z (za (yj _ Z Z (.inl ⟨Z,Z⟩)) (qe Z (zq hN Z (za (wa Z Z (by omega)) (qd Z ⟨_,qj H,⟨Z,Z,Z,Z,U⟩,U⟩)))))))))
theorem y7r  (r:(zw)) (H:z0v  = some r):Fn Tryz.prog 92 [] (yc [vagg (qq r)]):=by
 refine ⟨by kernel_rfl,yl (us:=[vagg (qq r)]) Tryz.func92 Z Z Z Z fun X hN => ?_⟩
 unfold z0v at H
 refine zc hN Z (zd (qf 1 jr Z) Z (zc hN Z (za (yf (u':=vagg (qq (zw.mk 0 [] 0 (-1)))) (vj [(3,[vint (-1)])] jr z6m Z ⟨Z,.inl ⟨_,Z,Z,Z⟩,Z,U⟩) Z) (zd (yz qh Z Z Z Z) Z (zn ?_)))))
 cases H
 exact ⟨U,.inl ⟨_,_,_,qq (zw.mk 0 [] 0 (-1)),Z,Z,Z,Z,qh⟩,U⟩
theorem w16 (s1:(List ya)) (p1:ya→Option (Bool)) (fv1:Nat) (us1:List V) (hp1:∀ a0 r,p1 a0=some r→Fn Tryz.prog fv1 ([vagg (ym a0)]++us1) (yc [zr r])) (r:(Int)) (H:y2k s1 p1=some r):Fn Tryz.prog 95 [vlst (List.map ym s1),vfn fv1 us1] (yc [vint r]):=by
 refine ⟨by kernel_rfl,yl (us:=[vint r]) Tryz.func95 Z Z Z Z fun X hN => ?_⟩
 unfold y2k at H
 refine zc hN Z (qe Z (zf (zc hN Z (qd Z (za (yu Zs Z) (qd Z (yd (gE H fun h4 H=>ve (fun (k2:Nat) (s:Unit)=>[(0,.dat (vlst (List.map ym s1))),(1,.dat (vfn fv1 us1)),(7,.dat (vint (s1.length:Int))),(8,.dat (vint (k2:Int)))]) (fun (k2:Nat) (s:Unit)=>[]) () H ⟨Z,Z,Z,Z,U⟩ U (fun _ _=>Z) ?_ ?_))))))))
 ·rintro ⟨⟩ H
  replace H:y5x=some r:=H
  unfold y5x at H
  refine zc hN Z (za (ye Z Z) (zf (zi _ Z (fun h=>(lt_t h).elim) (fun h => ?_))))
  refine qk (zc hN Z (qe Z (zn ?_)))
  cases H
  exact ⟨U,.inl Z,U⟩
 ·rintro k2 x5 ⟨⟩ q3 h6 h7 H hq3
  replace H:y5w p1 k2 x5=some q3:=H
  unfold y5w at H
  refine zc hN Z (za (ye Z Z) (zf (zi _ Z (fun h => ?_) (fun h=>(lt_f h6 h).elim))))
  refine zp (zf (yd (zc hN Z (qd Z (qe Z (zc hN Z (qd Z (qd Z (qd Z (za (wq xm (fun _=>Z) Z Z h7) (za (wo vu Z (qg h7) Z) (bE H fun r8 h9 H=>za (ua (hp1 x5 r8 h9) Z ⟨.inl Z,U⟩) (zi _ Z (fun h10 => ?_) (fun h10 => ?_))))))))))))))
  ·refine tE h10 H fun H=>zc hN Z (qd Z (qe Z (zn ?_)))
   replace H:=retl H hq3
   cases H
   exact ⟨U,.inl Z,U⟩
  ·exact fE h10 H fun H=>zp (zq hN Z (za (wa Z Z (by omega)) (qd Z ⟨_,qj H,⟨Z,Z,Z,Z,U⟩,U⟩)))
theorem w3n (p1:ya) (c2:Bs) (r:(Bool)) (H:z4v p1 c2=some r):Fn Tryz.prog 96 [vagg (ym p1),qw [[vstr c2]] 0 0] (yc [zr r]):=by
 refine ⟨by kernel_rfl,yl (us:=[zr r]) Tryz.func96 Z Z Z Z fun X hN => ?_⟩
 unfold z4v at H
 refine zc hN Z (zd (qr 1 Z) Z (qe Z (zc hN Z (za (zj ux Z) (ze (zl tyS9 Z Z) Z (za (wy tyS9 Z Z Z) (za (Yt Z Z) (qe Z (zn ?_)))))))))
 cases H
 exact ⟨U,.inl Z,U⟩
theorem z9c (c1:zx) (key2:Bs) (r:(Int)) (H:xc c1 key2=some r):Fn Tryz.prog 56 [vagg (yy c1),vstr key2] (yc [vint r]):=by
 refine ⟨by kernel_rfl,yl (us:=[vint r]) Tryz.func56 Z Z Z Z fun X hN => ?_⟩
 unfold xc at H
 refine zc hN Z (zd (qr 1 Z) Z (zd (Yu 2 Z Z) Z (qe Z (zf (z1c 2 [vstr key2] Z Z (zq hN Z (za (zj jk Z) (ze (zl jj Z Z) Z (za (z0j (us:=[_]) ⟨Z,U⟩) (bE H fun r3 h4 H=>za (yb (w16 c1.Plans (fun (a0:ya)=>z4v a0 key2) 96 [qw [[vstr key2]] 0 0] (fun a0 r h=>w3n a0 key2 r h) r3 h4) ⟨.inl Z,.inl Z,U⟩) (qe Z (zn ?_))))))))))))
 cases H
 exact ⟨U,.inl Z,U⟩
theorem Zp (n1:Int) (low2:Int) (high3:Int) (r:(Bool)) (H:ku n1 low2 high3=some r):Fn Tryz.prog 34 [vint n1,vint low2,vint high3] (yc [zr r]):=by
 refine ⟨by kernel_rfl,yl (us:=[zr r]) Tryz.func34 Z Z Z Z fun X hN => ?_⟩
 unfold ku at H
 refine zc hN Z (qe Z (zc hN Z (qd Z (qd Z (za (xb Z Z) (qd Z (wb Z Z (fun hc=>zg (.dat _) Z) (wb Z Z (fun hc=>zg (.dat _) Z) (wb Z Z (fun hc=>xb (cnd (c:=(decide (low2≤n1))) hc) (cnd (c:=(decide (low2≤n1))) hc)) (za (jf Z (fun hb=>(cnd (c:=(decide (low2≤n1))) hb)) Z) (qe Z (zn ?_))))))))))))
 cases H
 exact ⟨U,.inl Z,U⟩
theorem x3q (v1:zx) (v2:zw) (v3:zk) (r:(zw×Bool)) (H:z0w v1 v2 v3=some r):Fn Tryz.prog 93 [vagg (yy v1),vagg (qq v2),vagg (yi v3)] (yc [vagg (qq r.1),zr r.2]):=by
 refine ⟨by kernel_rfl,yl (us:=[vagg (qq r.1),zr r.2]) Tryz.func93 Z Z Z Z fun X hN => ?_⟩
 unfold z0w at H
 refine zc hN Z (zd (qr 1 Z) Z (zd (qr 2 Z) Z (zd (qr 3 Z) Z (zd (qf 4 jr Z) Z (qe Z (zf (yw (ι:=Bool) (fun i=>[(3,.ptr 1 0),(4,.ptr 2 0),(5,.ptr 3 0),(6,.ptr 4 0),(18,.dat (zr i))]) (fun i=>[(1,.box none 29 [.dat (vlst (List.map yt v1.Products)),.dat (vlst (List.map ym v1.Plans))]),(2,.box none 108 [.dat (vint v2.State),.dat (vstr v2.Plan),.dat (vint v2.Since),.dat (vint v2.First)]),(3,.box none 102 [.dat (vint v3.At),.dat (vstr v3.App),.dat (vstr v3.Product),.dat (vint v3.Kind),.dat (vstr v3.Plan)]),(4,.box none 108 [.dat (vint 0),.dat (vstr []),.dat (vint 0),.dat (vint 0)])]) (fun i=>z2v v1 v2 v3 i=some r) (fun i=>Z) ?_ ?_)))))))
 ·skip
  refine zq hN Z (za (zj jt Z) (ze (zl tyS3 Z Z) Z (za (qc Z Z) (qd Z (qv (j:=3) Z Z (fun h4 => ?_) (fun h4 => ?_) Z)))))
  ·exact u1 h4 H fun h5 H=>wc Z Z h4 (yg ql Z Z Z) Z (zo Z Z h4 (zj xl Z) (wc Z Z h4 (zl tyS9 Z Z) Z (bE H fun r6 h7 H=>zo Z Z h4 (yb (z9c v1 v3.Plan r6 h7) ⟨.inl Z,.inl Z,U⟩) (zo Z Z h4 (ye Z Z) (za (qt Z (bTT h5) Z) ⟨decide (r6 < 0),H,⟨Z,Z,Z,Z,Z,U⟩,⟨Z,Z,Z,Z,U⟩⟩)))))
  ·exact u2 h4 H fun h8 H=>zh Z Z h4 (zh Z Z h4 (zh Z Z h4 (zh Z Z h4 (zh Z Z h4 (za (yq Z (bFF h8) Z) ⟨false,H,⟨Z,Z,Z,Z,Z,U⟩,⟨Z,Z,Z,Z,U⟩⟩)))))
 ·rintro v9 H
  replace H:z2v v1 v2 v3 v9=some r:=H
  unfold z2v at H
  refine zi _ Z (fun h10 => ?_) (fun h10 => ?_)
  ·refine tE h10 H fun H=>zc hN Z (ze (yg qh Z Z Z) Z (zd (yz qh Z Z Z Z) Z (qe Z (zn ?_))))
   cases H
   exact ⟨U,.inl ⟨_,_,_,qq v2,Z,Z,Z,Z,qh⟩,.inl Z,U⟩
  ·refine fE h10 H fun H=>zp (zc hN Z (ze (yg qh Z Z Z) Z (zd (qf 5 jr Z) Z (zd (yz qh Z Z Z Z) Z (zc hN Z (za (zj jw Z) (ze (zl tyS3 Z Z) Z (za (zj Qp Z) (zd (wv tyS3 Z Z Z Z) Z (yw (ι:=Int×Bs×Int) (fun i=>[(6,.ptr 4 0),(8,.ptr 5 0)]) (fun i=>[(4,.box none 108 [.dat (vint 0),.dat (vstr []),.dat (vint 0),.dat (vint 0)]),(5,.box none 108 [.dat (vint i.1),.dat (vstr i.2.1),.dat (vint v3.At),.dat (vint i.2.2)])]) (fun i=>xv v3 i.1 i.2.1 i.2.2=some r) (fun i=>Z) ?_ ?_))))))))))
   ·skip
    refine yd (zc hN Z (za (zj jt Z) (ze (zl tyS3 Z Z) Z (za (qc Z Z) (qd Z (wb Z Z (fun hc=>zj vq Z) (un Z Z (fun hc=>zl tyS3 (cnd (c:=(decide (v3.Kind=1))) hc) Z) Z jq (wb Z Z (fun hc=>qc (cnd (c:=(decide (v3.Kind=1))) hc) Z) (wb Z Z (fun hc=>zg (.dat _) (cnd (c:=(decide (v3.Kind=1))) hc)) (xr Z Z (fun hc=>zj vq Z) (x1h Z Z (fun hc=>zl tyS3 (cnd (c:=((decide (v3.Kind=1)) && !(decide (v2.State=0)))) hc) Z) Z jq (xr Z Z (fun hc=>qc (cnd (c:=((decide (v3.Kind=1)) && !(decide (v2.State=0)))) hc) Z) (wb Z Z (fun hc=>ul (cnd (c:=(decide (v3.Kind=1))) hc) Z (fun hb=>(cnd (c:=((decide (v3.Kind=1)) && !(decide (v2.State=0)))) (andI hc (notI hb))))) (za (jf Z (fun hb=>(cnd (c:=(decide (v3.Kind=1))) hb)) Z) (qe Z (zi _ Z (fun h11 => ?_) (fun h11 => ?_)))))))))))))))))
    ·refine tE h11 H fun H=>zf (wl mixed hN Z Z (za (zj xl Z) (ze (zl tyS9 Z Z) Z (za (zj vq Z) (zd (wv tyS3 Z Z Z Z) Z (za (zj z1o Z) (zd (wv tyS9 Z Z Z Z) Z (za (zj z1n Z) (zd (wv tyS3 Z Z Z Z) Z ⟨Z,?_⟩)))))))))
     refine zf (wl mixed hN Z Z (za (zj jk Z) (ze (zl jj Z Z) Z (ze (yg ql Z Z Z) Z (za (zj xl Z) (ze (zl tyS9 Z Z) Z (bE H fun r12 h13 H=>za (yb (z9c v1 v3.Plan r12 h13) ⟨.inl Z,.inl Z,U⟩) (bE H fun x14 h15 H=>za (ja xm (fun _=>Z) Z Z h15) (za (jd y0n Z) (za (wy tyS4 Z (qg (qi h15).2) Z) (za (ww Z) ⟨Z,?_⟩)))))))))))
     refine zi _ Z (fun h16 => ?_) (fun h16 => ?_)
     ·refine tE h16 H fun H=>wl mixed hN Z Z (za (zj jw Z) (ze (zl tyS3 Z Z) Z (za (zj vq Z) (zd (wv tyS3 Z Z Z Z) Z (za (zj z1n Z) (zd (wv tyS3 Z Z Z Z) Z ⟨Z,?_⟩))))))
      exact ⟨(2,v3.Plan,v3.At),H,⟨Z,Z,U⟩,⟨Z,Z,U⟩⟩
     ·exact fE h16 H fun H=>zp ⟨(1,v3.Plan,(-1)),H,⟨Z,Z,U⟩,⟨Z,Z,U⟩⟩
    ·refine fE h11 H fun H=>zc hN Z (za (zj jt Z) (ze (zl tyS3 Z Z) Z (za (qc Z Z) (qd Z (wb Z Z (fun hc=>zj vq Z) (un Z Z (fun hc=>zl tyS3 (cnd (c:=(decide (v3.Kind=1))) hc) Z) Z jq (wb Z Z (fun hc=>qc (cnd (c:=(decide (v3.Kind=1))) hc) Z) (wb Z Z (fun hc=>zg (.dat _) (cnd (c:=(decide (v3.Kind=1))) hc)) (xr Z Z (fun hc=>zj vq Z) (x1h Z Z (fun hc=>zl tyS3 (cnd (c:=((decide (v3.Kind=1)) && !(decide (v2.State=2)))) hc) Z) Z jq (xr Z Z (fun hc=>qc (cnd (c:=((decide (v3.Kind=1)) && !(decide (v2.State=2)))) hc) Z) (wb Z Z (fun hc=>ul (cnd (c:=(decide (v3.Kind=1))) hc) Z (fun hb=>(cnd (c:=((decide (v3.Kind=1)) && !(decide (v2.State=2)))) (andI hc (notI hb))))) (za (jf Z (fun hb=>(cnd (c:=(decide (v3.Kind=1))) hb)) Z) (qe Z (zi _ Z (fun h17 => ?_) (fun h17 => ?_))))))))))))))))
     ·refine tE h17 H fun H=>zc hN Z (za (zj xl Z) (ze (zl tyS9 Z Z) Z (za (zj z1o Z) (zd (wv tyS9 Z Z Z Z) Z (yw (ι:=Bool) (fun i=>[(4,.ptr 2 0),(6,.ptr 4 0),(8,.ptr 5 0),(90,.dat (zr i))]) (fun i=>[(2,.box none 108 [.dat (vint v2.State),.dat (vstr v2.Plan),.dat (vint v2.Since),.dat (vint v2.First)]),(4,.box none 108 [.dat (vint 0),.dat (vstr []),.dat (vint 0),.dat (vint 0)]),(5,.box none 108 [.dat (vint v2.State),.dat (vstr v3.Plan),.dat (vint v3.At),.dat (vint v2.First)])]) (fun i=>z2u v2 v3 i=some r) (fun i=>Z) ?_ ?_)))))
      ·skip
       refine wl mixed hN Z Z (za (zj xl Z) (ze (zl tyS9 Z Z) Z (za (zj z1o Z) (ze (zl tyS9 Z Z) Z (za (Yt Z Z) (qd Z (qv (j:=5) Z Z (fun h18 => ?_) (fun h18 => ?_) Z)))))))
       ·refine u3 h18 H fun h19 H=>zo Z Z h18 (zj jk Z) (wc Z Z h18 (zl jj Z Z) Z (wc Z Z h18 (yg ql Z Z Z) Z (zo Z Z h18 (zj xl Z) (wc Z Z h18 (zl tyS9 Z Z) Z (bE H fun r20 h21 H=>zo Z Z h18 (yb (z9c v1 v3.Plan r20 h21) ⟨.inl Z,.inl Z,U⟩) (bE H fun x22 h23 H=>zo Z Z h18 (ja xm (fun _=>Z) Z Z h23) (zo Z Z h18 (jd y0n Z) (zo Z Z h18 (wy tyS4 Z (qg (qi h23).2) Z) (za (yq Z (bFF h19) Z) ⟨Z,?_⟩)))))))))
        exact ⟨x22.Asked,H,⟨Z,Z,Z,Z,U⟩,⟨Z,Z,Z,U⟩⟩
       ·refine u4 h18 H fun h24 H=>zh Z Z h18 (zh Z Z h18 (zh Z Z h18 (zh Z Z h18 (zh Z Z h18 (zh Z Z h18 (zh Z Z h18 (zh Z Z h18 (zh Z Z h18 (za (qt Z (bTT h24) Z) ⟨Z,?_⟩)))))))))
        exact ⟨true,H,⟨Z,Z,Z,Z,U⟩,⟨Z,Z,Z,U⟩⟩
      ·rintro v25 H
       replace H:z2u v2 v3 v25=some r:=H
       unfold z2u at H
       refine zi _ Z (fun h26 => ?_) (fun h26 => ?_)
       ·refine tE h26 H fun H=>zc hN Z (ze (yg qh Z Z Z) Z (zd (yz qh Z Z Z Z) Z (qe Z (zn ?_))))
        cases H
        exact ⟨U,.inl ⟨_,_,_,qq v2,Z,Z,Z,Z,qh⟩,.inl Z,U⟩
       ·exact fE h26 H fun H=>zp ⟨(v2.State,v3.Plan,v2.First),H,⟨Z,Z,U⟩,⟨Z,Z,U⟩⟩
     ·refine fE h17 H fun H=>zc hN Z (za (zj jt Z) (ze (zl tyS3 Z Z) Z (za (qc Z Z) (qd Z (wb Z Z (fun hc=>zj vq Z) (un Z Z (fun hc=>zl tyS3 (cnd (c:=(decide (v3.Kind=2))) hc) Z) Z jq (wb Z Z (fun hc=>qc (cnd (c:=(decide (v3.Kind=2))) hc) Z) (za (jf Z (fun hb=>(cnd (c:=(decide (v3.Kind=2))) hb)) Z) (qe Z (zi _ Z (fun h27 => ?_) (fun h27 => ?_)))))))))))
      ·refine tE h27 H fun H=>wl mixed hN Z Z (za (zj jw Z) (ze (zl tyS3 Z Z) Z (za (zj vq Z) (zd (wv tyS3 Z Z Z Z) Z (za (zj z1n Z) (zd (wv tyS3 Z Z Z Z) Z ⟨Z,?_⟩))))))
       exact ⟨(2,v2.Plan,v3.At),H,⟨Z,Z,U⟩,⟨Z,Z,U⟩⟩
      ·refine fE h27 H fun H=>zc hN Z (za (zj jt Z) (ze (zl tyS3 Z Z) Z (za (qc Z Z) (qd Z (wb Z Z (fun hc=>zj vq Z) (un Z Z (fun hc=>zl tyS3 (cnd (c:=(decide (v3.Kind=3))) hc) Z) Z jq (wb Z Z (fun hc=>qc (cnd (c:=(decide (v3.Kind=3))) hc) Z) (za (jf Z (fun hb=>(cnd (c:=(decide (v3.Kind=3))) hb)) Z) (qe Z (zi _ Z (fun h28 => ?_) (fun h28 => ?_)))))))))))
       ·exact tE h28 H fun H=>zq hN Z (za (zj vq Z) (zd (wv tyS3 Z Z Z Z) Z ⟨(4,v2.Plan,v2.First),H,⟨Z,Z,U⟩,⟨Z,Z,U⟩⟩))
       ·refine fE h28 H fun H=>zc hN Z (za (zj jt Z) (ze (zl tyS3 Z Z) Z (za (qc Z Z) (qd Z (wb Z Z (fun hc=>zj vq Z) (un Z Z (fun hc=>zl tyS3 (cnd (c:=(decide (v3.Kind=4))) hc) Z) Z jq (wb Z Z (fun hc=>qc (cnd (c:=(decide (v3.Kind=4))) hc) Z) (za (jf Z (fun hb=>(cnd (c:=(decide (v3.Kind=4))) hb)) Z) (qe Z (zi _ Z (fun h29 => ?_) (fun h29 => ?_)))))))))))
        ·exact tE h29 H fun H=>zq hN Z (za (zj vq Z) (zd (wv tyS3 Z Z Z Z) Z ⟨(3,v2.Plan,v2.First),H,⟨Z,Z,U⟩,⟨Z,Z,U⟩⟩))
        ·refine fE h29 H fun H=>zc hN Z (za (zj jt Z) (ze (zl tyS3 Z Z) Z (za (qc Z Z) (qd Z (wb Z Z (fun hc=>zj vq Z) (un Z Z (fun hc=>zl tyS3 (cnd (c:=(decide (v3.Kind=5))) hc) Z) Z jq (wb Z Z (fun hc=>qc (cnd (c:=(decide (v3.Kind=5))) hc) Z) (za (jf Z (fun hb=>(cnd (c:=(decide (v3.Kind=5))) hb)) Z) (qe Z (zi _ Z (fun h30 => ?_) (fun h30 => ?_)))))))))))
         ·exact tE h30 H fun H=>zq hN Z (za (zj vq Z) (zd (wv tyS3 Z Z Z Z) Z ⟨(2,v2.Plan,v2.First),H,⟨Z,Z,U⟩,⟨Z,Z,U⟩⟩))
         ·refine fE h30 H fun H=>yw (ι:=Bool) (fun i=>[(4,.ptr 2 0),(6,.ptr 4 0),(8,.ptr 5 0),(135,.dat (zr i))]) (fun i=>[(2,.box none 108 [.dat (vint v2.State),.dat (vstr v2.Plan),.dat (vint v2.Since),.dat (vint v2.First)]),(4,.box none 108 [.dat (vint 0),.dat (vstr []),.dat (vint 0),.dat (vint 0)]),(5,.box none 108 [.dat (vint v2.State),.dat (vstr v2.Plan),.dat (vint v3.At),.dat (vint v2.First)])]) (fun i=>z2t v2 v3 i=some r) (fun i=>Z) ?_ ?_
          ·skip
           refine zq hN Z (za (zj jt Z) (ze (zl tyS3 Z Z) Z (za (qc Z Z) (qd Z (qv (j:=3) Z Z (fun h31 => ?_) (fun h31 => ?_) Z)))))
           ·exact u1 h31 H fun h32 H=>zo Z Z h31 (zj vq Z) (wc Z Z h31 (zl tyS3 Z Z) Z (bE H fun r33 h34 H=>zo Z Z h31 (yb (Zp v2.State 1 3 r33 h34) ⟨.inl Z,.inl Z,.inl Z,U⟩) (za (qt Z (bTT h32) Z) (qe Z ⟨r33,H,⟨Z,Z,Z,Z,U⟩,⟨Z,Z,Z,U⟩⟩))))
           ·exact u2 h31 H fun h35 H=>zh Z Z h31 (zh Z Z h31 (zh Z Z h31 (za (yq Z (bFF h35) Z) (qe Z ⟨false,H,⟨Z,Z,Z,Z,U⟩,⟨Z,Z,Z,U⟩⟩))))
          ·rintro v36 H
           replace H:z2t v2 v3 v36=some r:=H
           unfold z2t at H
           refine zi _ Z (fun h37 => ?_) (fun h37 => ?_)
           ·exact tE h37 H fun H=>zq hN Z (za (zj vq Z) (zd (wv tyS3 Z Z Z Z) Z ⟨(4,v2.Plan,v2.First),H,⟨Z,Z,U⟩,⟨Z,Z,U⟩⟩))
           ·refine fE h37 H fun H=>zc hN Z (ze (yg qh Z Z Z) Z (zd (yz qh Z Z Z Z) Z (qe Z (zn ?_))))
            cases H
            exact ⟨U,.inl ⟨_,_,_,qq v2,Z,Z,Z,Z,qh⟩,.inl Z,U⟩
   ·rintro ⟨c38,c39,c40⟩ H
    replace H:xv v3 c38 c39 c40=some r:=H
    unfold xv at H
    refine zc hN Z (ze (yg qh Z Z Z) Z (zd (yz qh Z Z Z Z) Z (qe Z (zn ?_))))
    cases H
    exact ⟨U,.inl ⟨_,_,_,qq (zw.mk c38 c39 v3.At c40),Z,Z,Z,Z,qh⟩,.inl Z,U⟩
theorem x3r (c1:zx) (l2:(List zk)) (app3:Bs) (product4:Bs) (r:((List zw)×(List Int))) (H:z4t c1 l2 app3 product4=some r):Fn Tryz.prog 49 [vagg (yy c1),vlst (List.map yi l2),vstr app3,vstr product4] (yc [vlst (List.map qq r.1),vlst (List.map qn r.2)]):=by
 refine ⟨by kernel_rfl,yl (us:=[vlst (List.map qq r.1),vlst (List.map qn r.2)]) Tryz.func49 Z Z Z Z fun X hN => ?_⟩
 unfold z4t at H
 refine zc hN Z (zd (qr 1 Z) Z (qe Z (qe Z (zc hN Z (bE H fun r5 h6 H=>za (yb (y7r  r5 h6) U) (zd (y0v (C:=qq) 2 ([r5]:(List zw)) z3p ⟨Z,.inr Z,Z,U⟩ Z Z Z) Z (za (qy (.row _ _) Z) (qe Z (zf (zc hN Z (qd Z (za (yu Zc Z) (qd Z (yd (Qg 11 3 3 1 Z Z Z (gE H fun h11 H=>ve (fun (k9:Nat) (s:(List zw)×(List Int))=>[(2,.dat (vstr app3)),(3,.dat (vstr product4)),(4,.ptr 1 0),(10,.row 2 s.1.length),(11,.row 3 s.2.length),(18,.dat (vlst (List.map yi l2))),(19,.dat (vint (l2.length:Int))),(20,.dat (vint (k9:Int)))]) (fun (k9:Nat) (s:(List zw)×(List Int))=>[(1,.box none 29 [.dat (vlst (List.map yt c1.Products)),.dat (vlst (List.map ym c1.Plans))]),(2,.row 108 4 (List.map qq s.1)),(3,.row 3 1 (List.map qn s.2))]) (([r5]:(List zw)),[]) H ⟨Z,Z,Z,Z,Z,Z,Z,Z,U⟩ ⟨Z,Z,Z,U⟩ (fun _ _=>Z) ?_ ?_))))))))))))))))
 ·rintro ⟨l7,l8⟩ H
  replace H:z5f l7 l8=some r:=H
  unfold z5f at H
  refine zc hN Z (za (ye Z Z) (zf (zi _ Z (fun h=>(lt_t h).elim) (fun h => ?_))))
  refine qk (zc hN Z (za (zg (.row _ _) Z) (za (zg (.row _ _) Z) (za (qy (.row _ _) Z) (za (qy (.row _ _) Z) (zn ?_))))))
  cases H
  exact ⟨U,xn Z Z,xn Z Z,U⟩
 ·rintro k9 x12 ⟨l7,l8⟩ q10 h13 h14 H hq10
  replace H:z2y c1 app3 product4 k9 x12 l7 l8=some q10:=H
  unfold z2y at H
  refine zc hN Z (za (ye Z Z) (zf (zi _ Z (fun h => ?_) (fun h=>(lt_f h13 h).elim))))
  refine zp (yw (ι:=(List zw)×(List Int)) (fun i=>[(2,.dat (vstr app3)),(3,.dat (vstr product4)),(4,.ptr 1 0),(10,.row 2 i.1.length),(11,.row 3 i.2.length),(18,.dat (vlst (List.map yi l2))),(19,.dat (vint (l2.length:Int))),(20,.dat (vint (k9:Int)))]) (fun i=>[(1,.box none 29 [.dat (vlst (List.map yt c1.Products)),.dat (vlst (List.map ym c1.Plans))]),(2,.row 108 4 (List.map qq i.1)),(3,.row 3 1 (List.map qn i.2))]) (fun i=>z2z i.1 i.2=some q10) (fun i=>Z) ?_ ?_)
  ·skip
   refine yd (zc hN Z (qd Z (za (wq jm (fun _=>Z) Z Z h14) (za (wo vk Z (qg h14) Z) (zd (qf 4 Wx Z) Z (qe Z (zd (yz vk Z Z Z Z) Z (zf (zc hN Z (za (zj Zf Z) (ze (zl tyS9 Z Z) Z (qd Z (za (Yd Z Z) (qd Z (ji Z Z (fun hc=>zj uz Z) (z7e Z Z (fun hc=>zl tyS9 (cnd (c:=(!(decide (x12.App≠app3)))) hc) Z) Z jq (ji Z Z (fun hc=>zg (.dat _) Z) (ji Z Z (fun hc=>Yd (cnd (c:=(!(decide (x12.App≠app3)))) hc) (cnd (c:=(!(decide (x12.App≠app3)))) hc)) (za (ul Z Z (fun hb=>(cnd (c:=(!(decide (x12.App≠app3)))) (notI hb)))) (zi _ Z (fun h15 => ?_) (fun h15 => ?_)))))))))))))))))))))
   ·exact tE h15 H fun H=>qk ⟨(l7,l8),H,⟨Z,Z,Z,Z,Z,Z,Z,Z,U⟩,⟨Z,Z,Z,U⟩⟩
   ·refine fE h15 H fun H=>zp (zf (wl mixed hN Z Z (ze (yg ql Z Z Z) Z (za (zg (.row _ _) Z) (za (zg (.row _ _) Z) (ze (z0g z6k Z Z) Z (za (yj _ Z Z (.inr (.inl ⟨Z,Z⟩))) (bE H fun x16 h17 H=>ze (z1t z6v Z Z Z h17) Z (ze (z1s qh Z Z (qi h17).2 Z) Z (ze (yg vk Z Z Z) Z (bE H fun r18 h19 H=>za (yb (x3q c1 x16 x12 r18 h19) ⟨.inl Z,.inl Z,.inl Z,U⟩) (qd Z (za (qm Z Z) (za (qm Z Z) (zd (qf 5 jr Z) Z (zd (yz qh Z Z Z Z) Z (qe Z ⟨Z,?_⟩)))))))))))))))))
    refine zc hN Z (qd Z (zi _ Z (fun h20 => ?_) (fun h20 => ?_)))
    ·refine tE h20 H fun H=>zq hN Z (za (zg (.row _ _) Z) (ze (yg qh Z Z Z) Z (za (yf (u':=vlst (List.map qq [r18.1])) (qa [_] z3p ⟨Z,.inr Z,Z,U⟩ Z Z) Z) (gE H fun h21 H=>zd (je z3p (fun _=>Z) Z Z Z ⟨by simp,by first | (simp; done) | simpa using h21⟩ Z) Z ?_))))
     exact za (qy (.row _ _) Z) ⟨((l7++[r18.1]),l8),H,⟨Z,Z,Z,Z,Z,Z,Z,Z,U⟩,⟨Z,Z,Z,U⟩⟩
    ·refine fE h20 H fun H=>zq hN Z (za (zg (.row _ _) Z) (qd Z (za (yf (u':=vlst (List.map qn [(k9:Int)])) (qa [[_]] vx ⟨Z,.inl ⟨_,Z,Z,Z⟩,Z,U⟩ Z Z) Z) (gE H fun h22 H=>zd (je vx (fun _=>Z) Z Z Z ⟨by simp,by first | (simp; done) | simpa using h22⟩ Z) Z ?_))))
     exact za (qy (.row _ _) Z) ⟨(l7,(l8++[(k9:Int)])),H,⟨Z,Z,Z,Z,Z,Z,Z,Z,U⟩,⟨Z,Z,Z,U⟩⟩
  ·rintro ⟨out23,refused24⟩ H
   replace H:z2z out23 refused24=some q10:=H
   unfold z2z at H
   exact zq hN Z (za (wa Z Z (by omega)) (qd Z ⟨_,qj H,⟨Z,Z,Z,Z,Z,Z,Z,Z,U⟩,⟨Z,Z,Z,U⟩⟩))
end Go.Proofs.YtnnfdgngnoamoaaGreatDoor
