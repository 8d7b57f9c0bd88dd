/- Walks along the models. Printed by a program. -/
import Derived.Test.YtbndlmnjeofkdacGreatDoorZtw3
namespace Go.Proofs.YtbndlmnjeofkdacGreatDoor
open Go.RowKit
set_option linter.unusedVariables false
set_option maxRecDepth 100000
set_option maxHeartbeats 2000000
theorem w9m (l1:(List qw)) (r:(Int)) (H:z8o l1=some r):Fn Tryz.prog 169 [vlst (List.map jy l1)] (zr [vint r]):=by
 refine ⟨by kernel_rfl,zx (us:=[vint r]) Tryz.func169 Z Z Z Z fun X hN => ?_⟩
 unfold z8o at H
 refine zb hN Z (qe Z (zd (zb hN Z (qd Z (za (yk z2s Z) (za (qh Z Z) (zf _ Z (fun h2 => ?_) (fun h2 => ?_))))))))
 ·refine tE h2 H fun H=>zb hN Z (qe Z (zg ?_))
  cases H
  exact ⟨U,.inl Z,U⟩
 ·refine fE h2 H fun H=>zl (zd (zb hN Z (qd Z (za (yk z2s Z) (qd Z (zu (gE H fun h5 H=>qq (fun (k3:Nat) (s:Unit)=>[(0,.dat (vlst (List.map jy l1))),(8,.dat (vlst (List.map jy l1))),(9,.dat (vint (l1.length:Int))),(10,.dat (vint (k3:Int)))]) (fun (k3:Nat) (s:Unit)=>[]) () H ⟨Z,Z,Z,Z,U⟩ U (fun _ _=>Z) ?_ ?_)))))))
  ·rintro ⟨⟩ H
   replace H:y27 l1=some r:=H
   unfold y27 at H
   refine zb hN Z (za (zw Z Z) (zd (zf _ Z (fun h=>(lt_t h).elim) (fun h => ?_))))
   refine yp (zd (yc (ι:=Bool) (fun i=>[(46,.dat (zi i))]) (fun i=>[]) (fun i=>z3k i=some r) (fun i=>Z) ?_ ?_))
   ·skip
    refine zk hN Z (qd Z (za (yk z2s Z) (za (qh Z Z) (qd Z (yi (j:=3) Z Z (fun h7 => ?_) (fun h7 => ?_) Z)))))
    ·exact u1 h7 H fun h8 H=>ze Z Z h7 (zh (.dat _) Z) (bE H fun x9 h10 H=>ze Z Z h7 (qp z2z (fun _=>Z) Z Z h10) (ze Z Z h7 (vr Qv Z) (ze Z Z h7 (yr tyS3 Z (ym h10) Z) (ze Z Z h7 (qj Z Z) (za (yb Z (bTT h8) Z) ⟨decide (x9.From≠1),H,⟨Z,U⟩,U⟩)))))
    ·exact u2 h7 H fun h11 H=>zc Z Z h7 (zc Z Z h7 (zc Z Z h7 (zc Z Z h7 (zc Z Z h7 (za (ya Z (bFF h11) Z) ⟨false,H,⟨Z,U⟩,U⟩)))))
   ·rintro v12 H
    replace H:z3k v12=some r:=H
    unfold z3k at H
    refine zf _ Z (fun h13 => ?_) (fun h13 => ?_)
    ·refine tE h13 H fun H=>zb hN Z (qe Z (zg ?_))
     cases H
     exact ⟨U,.inl Z,U⟩
    ·refine fE h13 H fun H=>zl (zb hN Z (qe Z (zg ?_)))
     cases H
     exact ⟨U,.inl Z,U⟩
  ·rintro k3 x6 ⟨⟩ q4 h14 h15 H hq4
   replace H:z7t l1 k3 x6=some q4:=H
   unfold z7t at H
   refine zb hN Z (za (zw Z Z) (zd (zf _ Z (fun h => ?_) (fun h=>(lt_f h14 h).elim))))
   refine zl (zd (zu (zb hN Z (qd Z (za (qp z2z (fun _=>Z) Z Z h15) (za (vg y1h Z (ym h15) Z) (zj (qm 1 y6m Z) Z (qe Z (zj (yo y1h Z Z Z Z) Z (zd (yc (ι:=Bool) (fun i=>[(0,.dat (vlst (List.map jy l1))),(3,.dat (vint (k3:Int))),(4,.ptr 1 0),(8,.dat (vlst (List.map jy l1))),(9,.dat (vint (l1.length:Int))),(10,.dat (vint (k3:Int))),(22,.dat (zi i))]) (fun i=>[(1,.box none 77 [.dat (vint x6.From),.dat (vint x6.Cents)])]) (fun i=>Wi l1 k3 x6 i=some q4) (fun i=>Z) ?_ ?_)))))))))))
   ·skip
    refine zk hN Z (za (zn Qv Z) (zm (zp tyS3 Z Z) Z (bE H fun r16 h17 H=>za (zo (ue x6.From 1 1000000000000 r16 h17) ⟨.inl Z,.inl Z,.inl Z,U⟩) (qd Z (yi (j:=3) Z Z (fun h18 => ?_) (fun h18 => ?_) Z)))))
    ·exact u3 h18 H fun h19 H=>ze Z Z h18 (zn x4e Z) (qz Z Z h18 (zp tyS3 Z Z) Z (bE H fun r20 h21 H=>ze Z Z h18 (zo (ue x6.Cents 0 1000000 r20 h21) ⟨.inl Z,.inl Z,.inl Z,U⟩) (za (ya Z (bFF h19) Z) ⟨r20,H,⟨Z,Z,Z,Z,Z,Z,Z,U⟩,⟨Z,U⟩⟩)))
    ·exact u4 h18 H fun h22 H=>zc Z Z h18 (zc Z Z h18 (zc Z Z h18 (za (yb Z (bTT h22) Z) ⟨true,H,⟨Z,Z,Z,Z,Z,Z,Z,U⟩,⟨Z,U⟩⟩)))
   ·rintro v23 H
    replace H:Wi l1 k3 x6 v23=some q4:=H
    unfold Wi at H
    refine zf _ Z (fun h24 => ?_) (fun h24 => ?_)
    ·refine tE h24 H fun H=>zb hN Z (qe Z (zg ?_))
     replace H:=retl H hq4
     cases H
     exact ⟨U,.inl Z,U⟩
    ·refine fE h24 H fun H=>zl (yc (ι:=Bool) (fun i=>[(0,.dat (vlst (List.map jy l1))),(8,.dat (vlst (List.map jy l1))),(9,.dat (vint (l1.length:Int))),(10,.dat (vint (k3:Int))),(35,.dat (zi i))]) (fun i=>[]) (fun i=>z3j i=some q4) (fun i=>Z) ?_ ?_)
     ·skip
      refine wg mixed hN Z Z (qd Z (za (qh Z Z) (qd Z (yi (j:=2) Z Z (fun h25 => ?_) (fun h25 => ?_) Z))))
      ·refine u1 h25 H fun h26 H=>ze Z Z h25 (zn Qv Z) (qz Z Z h25 (zp tyS3 Z Z) Z (ze Z Z h25 (zh (.dat _) Z) (ze Z Z h25 (zh (.dat _) Z) (ze Z Z h25 (Wd Z Z (by omega)) (bE H fun x27 h28 H=>ze Z Z h25 (wx z2z (fun _=>Z) Z Z h28) (ze Z Z h25 (vr Qv Z) (ze Z Z h25 (yr tyS3 Z (ym (qk h28).2) Z) (ze Z Z h25 (vq Z Z) (za (yb Z (bTT h26) Z) ⟨Z,?_⟩)))))))))
       exact ⟨decide (x6.From≤x27.From),H,⟨Z,Z,Z,Z,Z,U⟩,U⟩
      ·refine u2 h25 H fun h29 H=>zc Z Z h25 (zc Z Z h25 (zc Z Z h25 (zc Z Z h25 (zc Z Z h25 (zc Z Z h25 (zc Z Z h25 (zc Z Z h25 (zc Z Z h25 (za (ya Z (bFF h29) Z) ⟨Z,?_⟩)))))))))
       exact ⟨false,H,⟨Z,Z,Z,Z,Z,U⟩,U⟩
     ·rintro v30 H
      replace H:z3j v30=some q4:=H
      unfold z3j at H
      refine zf _ Z (fun h31 => ?_) (fun h31 => ?_)
      ·refine tE h31 H fun H=>zb hN Z (qe Z (zg ?_))
       replace H:=retl H hq4
       cases H
       exact ⟨U,.inl Z,U⟩
      ·exact fE h31 H fun H=>zl (zk hN Z (za (qi Z Z (by omega)) (qd Z ⟨_,yw H,⟨Z,Z,Z,Z,U⟩,U⟩)))
theorem w9r (v1:yh) (v2:Int) (r:(Int)) (H:z8r v1 v2=some r):Fn Tryz.prog 114 [vagg (jo v1),vint v2] (zr [vint r]):=by
 refine ⟨by kernel_rfl,zx (us:=[vint r]) Tryz.func114 Z Z Z Z fun X hN => ?_⟩
 unfold z8r at H
 refine zb hN Z (zj (qu 1 Z) Z (qe Z (zb hN Z (za (zn uj Z) (zm (zp ui Z Z) Z (qd Z (bE H fun x3 h4 H=>za (wx Zj (fun _=>Z) Z Z h4) (za (vg ka Z (ym (qk h4).2) Z) (zj (qm 2 Ys Z) Z (zj (yo ka Z Z Z Z) Z (zd (zu (zb hN Z (za (zn xc Z) (zm (zp tyS9 Z Z) Z (bE H fun r5 h6 H=>za (zo (ku x3.Key r5 h6) ⟨.inl Z,U⟩) (za (yv Z) (qe Z (zf _ Z (fun h7 => ?_) (fun h7 => ?_))))))))))))))))))))
 ·refine tE h7 H fun H=>zb hN Z (qe Z (zg ?_))
  cases H
  exact ⟨U,.inl Z,U⟩
 ·refine fE h7 H fun H=>yc (ι:=Bool) (fun i=>[(2,.ptr 1 0),(5,.ptr 2 0),(19,.dat (zi i))]) (fun i=>[(1,.box none 29 [.dat (vlst (List.map wb v1.Products)),.dat (vlst (List.map wj v1.Plans))]),(2,.box none 75 [.dat (vstr x3.Key),.dat (vstr x3.Product),.dat (vint x3.Base),.dat (vint x3.Free),.dat (vlst (List.map jy x3.Tiers)),.dat (vint x3.Limit),.dat (vint x3.Trial),.dat (zi x3.Asked)])]) (fun i=>z03 v1 x3 i=some r) (fun i=>Z) ?_ ?_
  ·skip
   refine wg mixed hN Z Z (qd Z (za (qh Z Z) (qd Z (yi (j:=2) Z Z (fun h8 => ?_) (fun h8 => ?_) Z))))
   ·refine u1 h8 H fun h9 H=>ze Z Z h8 (zn xc Z) (qz Z Z h8 (zp tyS9 Z Z) Z (ze Z Z h8 (zn uj Z) (qz Z Z h8 (zp ui Z Z) Z (ze Z Z h8 (zh (.dat _) Z) (ze Z Z h8 (yl _ Z Z (.inr (.inl ⟨Z,Z⟩))) (bE H fun x10 h11 H=>ze Z Z h8 (wx Zj (fun _=>Z) Z Z h11) (ze Z Z h8 (vr xc Z) (ze Z Z h8 (yr tyS9 Z (ym (qk h11).2) Z) (ze Z Z h8 (Zz Z Z) (za (yb Z (bTT h9) Z) (qe Z ⟨Z,?_⟩)))))))))))
    exact ⟨(Op.bytesLess x3.Key x10.Key || x3.Key == x10.Key),H,⟨Z,Z,Z,U⟩,⟨Z,Z,U⟩⟩
   ·refine u2 h8 H fun h12 H=>zc Z Z h8 (zc Z Z h8 (zc Z Z h8 (zc Z Z h8 (zc Z Z h8 (zc Z Z h8 (zc Z Z h8 (zc Z Z h8 (zc Z Z h8 (zc Z Z h8 (za (ya Z (bFF h12) Z) (qe Z ⟨Z,?_⟩)))))))))))
    exact ⟨false,H,⟨Z,Z,Z,U⟩,⟨Z,Z,U⟩⟩
  ·rintro v13 H
   replace H:z03 v1 x3 v13=some r:=H
   unfold z03 at H
   refine zf _ Z (fun h14 => ?_) (fun h14 => ?_)
   ·refine tE h14 H fun H=>zb hN Z (qe Z (zg ?_))
    cases H
    exact ⟨U,.inl Z,U⟩
   ·refine fE h14 H fun H=>zl (zd (zb hN Z (zm (qc vj Z Z Z) Z (za (zn z6o Z) (zm (zp tyS9 Z Z) Z (bE H fun r15 h16 H=>za (zo (x0y v1 x3.Product r15 h16) ⟨.inl Z,.inl Z,U⟩) (qd Z (za (ye Z Z) (za (ye Z Z) (qe Z (qe Z (zb hN Z (qd Z (za (yv Z) (zf _ Z (fun h17 => ?_) (fun h17 => ?_))))))))))))))))
    ·refine tE h17 H fun H=>zb hN Z (qe Z (zg ?_))
     cases H
     exact ⟨U,.inl Z,U⟩
    ·refine fE h17 H fun H=>zl (zd (yc (ι:=Bool) (fun i=>[(5,.ptr 2 0),(50,.dat (zi i))]) (fun i=>[(2,.box none 75 [.dat (vstr x3.Key),.dat (vstr x3.Product),.dat (vint x3.Base),.dat (vint x3.Free),.dat (vlst (List.map jy x3.Tiers)),.dat (vint x3.Limit),.dat (vint x3.Trial),.dat (zi x3.Asked)])]) (fun i=>z3m x3 i=some r) (fun i=>Z) ?_ ?_))
     ·skip
      refine zk hN Z (za (zn x4i Z) (zm (zp tyS3 Z Z) Z (bE H fun r18 h19 H=>za (zo (ue x3.Base 0 1000000000000 r18 h19) ⟨.inl Z,.inl Z,.inl Z,U⟩) (qd Z (yi (j:=3) Z Z (fun h20 => ?_) (fun h20 => ?_) Z)))))
      ·exact u3 h20 H fun h21 H=>ze Z Z h20 (zn x4h Z) (qz Z Z h20 (zp tyS3 Z Z) Z (bE H fun r22 h23 H=>ze Z Z h20 (zo (ue x3.Free 0 1000000000000 r22 h23) ⟨.inl Z,.inl Z,.inl Z,U⟩) (za (ya Z (bFF h21) Z) ⟨r22,H,⟨Z,Z,U⟩,⟨Z,U⟩⟩)))
      ·exact u4 h20 H fun h24 H=>zc Z Z h20 (zc Z Z h20 (zc Z Z h20 (za (yb Z (bTT h24) Z) ⟨true,H,⟨Z,Z,U⟩,⟨Z,U⟩⟩)))
     ·rintro v25 H
      replace H:z3m x3 v25=some r:=H
      unfold z3m at H
      refine zf _ Z (fun h26 => ?_) (fun h26 => ?_)
      ·refine tE h26 H fun H=>zb hN Z (qe Z (zg ?_))
       cases H
       exact ⟨U,.inl Z,U⟩
      ·refine fE h26 H fun H=>zl (zd (zb hN Z (za (zn Qw Z) (zm (zp Qt Z Z) Z (bE H fun r27 h28 H=>za (zo (w9m x3.Tiers r27 h28) ⟨.inl Z,U⟩) (qe Z (zb hN Z (qd Z (za (qj Z Z) (zf _ Z (fun h29 => ?_) (fun h29 => ?_)))))))))))
       ·refine tE h29 H fun H=>zb hN Z (qd Z (qe Z (zg ?_)))
        cases H
        exact ⟨U,.inl Z,U⟩
       ·refine fE h29 H fun H=>zl (zd (yc (ι:=Bool) (fun i=>[(64,.dat (zi i))]) (fun i=>[]) (fun i=>z3l i=some r) (fun i=>Z) ?_ ?_))
        ·skip
         refine zk hN Z (za (zn x4g Z) (zm (zp tyS3 Z Z) Z (bE H fun r30 h31 H=>za (zo (ue x3.Limit (-1) 1000000000000 r30 h31) ⟨.inl Z,.inl Z,.inl Z,U⟩) (qd Z (yi (j:=3) Z Z (fun h32 => ?_) (fun h32 => ?_) Z)))))
         ·exact u3 h32 H fun h33 H=>ze Z Z h32 (zn x4f Z) (qz Z Z h32 (zp tyS3 Z Z) Z (bE H fun r34 h35 H=>ze Z Z h32 (zo (ue x3.Trial 0 132 r34 h35) ⟨.inl Z,.inl Z,.inl Z,U⟩) (za (ya Z (bFF h33) Z) ⟨r34,H,⟨Z,U⟩,U⟩)))
         ·exact u4 h32 H fun h36 H=>zc Z Z h32 (zc Z Z h32 (zc Z Z h32 (za (yb Z (bTT h36) Z) ⟨true,H,⟨Z,U⟩,U⟩)))
        ·rintro v37 H
         replace H:z3l v37=some r:=H
         unfold z3l at H
         refine zf _ Z (fun h38 => ?_) (fun h38 => ?_)
         ·refine tE h38 H fun H=>zb hN Z (qe Z (zg ?_))
          cases H
          exact ⟨U,.inl Z,U⟩
         ·refine fE h38 H fun H=>zl (zb hN Z (qe Z (zg ?_)))
          cases H
          exact ⟨U,.inl Z,U⟩
theorem w90 (c1:yh) (r:(Int)) (H:z8x c1=some r):Fn Tryz.prog 58 [vagg (jo c1)] (zr [vint r]):=by
 refine ⟨by kernel_rfl,zx (us:=[vint r]) Tryz.func58 Z Z Z Z fun X hN => ?_⟩
 unfold z8x at H
 refine zb hN Z (zj (qu 1 Z) Z (qe Z (zd (zb hN Z (za (zn z0q Z) (zm (zp z0n Z Z) Z (bE H fun r2 h3 H=>za (zo (w9o c1.Products r2 h3) ⟨.inl Z,U⟩) (qe Z (zb hN Z (qd Z (za (qj Z Z) (zf _ Z (fun h4 => ?_) (fun h4 => ?_)))))))))))))
 ·refine tE h4 H fun H=>zb hN Z (qd Z (qe Z (zg ?_)))
  cases H
  exact ⟨U,.inl Z,U⟩
 ·refine fE h4 H fun H=>zl (zd (zb hN Z (za (zn uj Z) (zm (zp ui Z Z) Z (za (yk z0l Z) (za (qh Z Z) (zf _ Z (fun h5 => ?_) (fun h5 => ?_))))))))
  ·refine tE h5 H fun H=>zb hN Z (qe Z (zg ?_))
   cases H
   exact ⟨U,.inl Z,U⟩
  ·refine fE h5 H fun H=>zl (zd (zb hN Z (za (zn uj Z) (zm (zp ui Z Z) Z (za (yk z0l Z) (qd Z (zu (gE H fun h8 H=>qq (fun (k6:Nat) (s:Unit)=>[(1,.ptr 1 0),(18,.dat (vint (c1.Plans.length:Int))),(19,.dat (vint (k6:Int)))]) (fun (k6:Nat) (s:Unit)=>[(1,.box none 29 [.dat (vlst (List.map wb c1.Products)),.dat (vlst (List.map wj c1.Plans))])]) () H ⟨Z,Z,Z,U⟩ ⟨Z,U⟩ (fun _ _=>Z) ?_ ?_))))))))
   ·rintro ⟨⟩ H
    replace H:y87=some r:=H
    unfold y87 at H
    refine zb hN Z (za (zw Z Z) (zd (zf _ Z (fun h=>(lt_t h).elim) (fun h => ?_))))
    refine yp (zb hN Z (qe Z (zg ?_)))
    cases H
    exact ⟨U,.inl Z,U⟩
   ·rintro k6 x9 ⟨⟩ q7 h10 h11 H hq7
    replace H:y3a c1 k6 x9=some q7:=H
    unfold y3a at H
    refine zb hN Z (za (zw Z Z) (zd (zf _ Z (fun h => ?_) (fun h=>(lt_f h10 h).elim))))
    refine zl (zd (zu (zb hN Z (qd Z (qe Z (zb hN Z (zm (qc vj Z Z Z) Z (qd Z (bE H fun r12 h13 H=>za (zo (w9r c1 (k6:Int) r12 h13) ⟨.inl Z,.inl Z,U⟩) (qe Z (zb hN Z (qd Z (za (qj Z Z) (zf _ Z (fun h14 => ?_) (fun h14 => ?_)))))))))))))))
    ·refine tE h14 H fun H=>zb hN Z (qd Z (qe Z (zg ?_)))
     replace H:=retl H hq7
     cases H
     exact ⟨U,.inl Z,U⟩
    ·exact fE h14 H fun H=>zl (zk hN Z (za (qi Z Z (by omega)) (qd Z ⟨_,yw H,⟨Z,Z,Z,U⟩,⟨Z,U⟩⟩)))
theorem w91 (l1:(List yd)) (r:(Int)) (H:z8y l1=some r):Fn Tryz.prog 59 [vlst (List.map wd l1)] (zr [vint r]):=by
 refine ⟨by kernel_rfl,zx (us:=[vint r]) Tryz.func59 Z Z Z Z fun X hN => ?_⟩
 unfold z8y at H
 refine zb hN Z (qe Z (zd (zb hN Z (qd Z (za (yk Qr Z) (za (qh Z Z) (zf _ Z (fun h2 => ?_) (fun h2 => ?_))))))))
 ·refine tE h2 H fun H=>zb hN Z (qe Z (zg ?_))
  cases H
  exact ⟨U,.inl Z,U⟩
 ·refine fE h2 H fun H=>zl (zd (zb hN Z (qd Z (za (yk Qr Z) (qd Z (zu (gE H fun h5 H=>qq (fun (k3:Nat) (s:Unit)=>[(0,.dat (vlst (List.map wd l1))),(8,.dat (vlst (List.map wd l1))),(9,.dat (vint (l1.length:Int))),(10,.dat (vint (k3:Int)))]) (fun (k3:Nat) (s:Unit)=>[]) () H ⟨Z,Z,Z,Z,U⟩ U (fun _ _=>Z) ?_ ?_)))))))
  ·rintro ⟨⟩ H
   replace H:y88=some r:=H
   unfold y88 at H
   refine zb hN Z (za (zw Z Z) (zd (zf _ Z (fun h=>(lt_t h).elim) (fun h => ?_))))
   refine yp (zb hN Z (qe Z (zg ?_)))
   cases H
   exact ⟨U,.inl Z,U⟩
  ·rintro k3 x6 ⟨⟩ q4 h7 h8 H hq4
   replace H:y3b l1 k3 x6=some q4:=H
   unfold y3b at H
   refine zb hN Z (za (zw Z Z) (zd (zf _ Z (fun h => ?_) (fun h=>(lt_f h7 h).elim))))
   refine zl (zd (zu (zb hN Z (qd Z (za (qp Qy (fun _=>Z) Z Z h8) (za (vg z0m Z (ym h8) Z) (zj (qm 1 z6k Z) Z (qe Z (zj (yo z0m Z Z Z Z) Z (zd (yc (ι:=Bool) (fun i=>[(0,.dat (vlst (List.map wd l1))),(3,.dat (vint (k3:Int))),(4,.ptr 1 0),(8,.dat (vlst (List.map wd l1))),(9,.dat (vint (l1.length:Int))),(10,.dat (vint (k3:Int))),(24,.dat (zi i))]) (fun i=>[(1,.box none 79 [.dat (vstr x6.Key),.dat (vstr x6.Owner)])]) (fun i=>z08 l1 k3 x6 i=some q4) (fun i=>Z) ?_ ?_)))))))))))
   ·skip
    refine zk hN Z (za (zn Yu Z) (zm (zp tyS9 Z Z) Z (bE H fun r9 h10 H=>za (zo (ku x6.Key r9 h10) ⟨.inl Z,U⟩) (za (yv Z) (qd Z (yi (j:=4) Z Z (fun h11 => ?_) (fun h11 => ?_) Z))))))
    ·exact u3 h11 H fun h12 H=>ze Z Z h11 (zn x4d Z) (qz Z Z h11 (zp tyS9 Z Z) Z (bE H fun r13 h14 H=>ze Z Z h11 (zo (ku x6.Owner r13 h14) ⟨.inl Z,U⟩) (ze Z Z h11 (yv Z) (za (ya Z (bFF h12) Z) ⟨!r13,H,⟨Z,Z,Z,Z,Z,Z,Z,U⟩,⟨Z,U⟩⟩))))
    ·exact u4 h11 H fun h15 H=>zc Z Z h11 (zc Z Z h11 (zc Z Z h11 (zc Z Z h11 (za (yb Z (bTT h15) Z) ⟨true,H,⟨Z,Z,Z,Z,Z,Z,Z,U⟩,⟨Z,U⟩⟩))))
   ·rintro v16 H
    replace H:z08 l1 k3 x6 v16=some q4:=H
    unfold z08 at H
    refine zf _ Z (fun h17 => ?_) (fun h17 => ?_)
    ·refine tE h17 H fun H=>zb hN Z (qe Z (zg ?_))
     replace H:=retl H hq4
     cases H
     exact ⟨U,.inl Z,U⟩
    ·refine fE h17 H fun H=>zl (yc (ι:=Bool) (fun i=>[(0,.dat (vlst (List.map wd l1))),(8,.dat (vlst (List.map wd l1))),(9,.dat (vint (l1.length:Int))),(10,.dat (vint (k3:Int))),(37,.dat (zi i))]) (fun i=>[]) (fun i=>z3s i=some q4) (fun i=>Z) ?_ ?_)
     ·skip
      refine wg mixed hN Z Z (qd Z (za (qh Z Z) (qd Z (yi (j:=2) Z Z (fun h18 => ?_) (fun h18 => ?_) Z))))
      ·refine u1 h18 H fun h19 H=>ze Z Z h18 (zn Yu Z) (qz Z Z h18 (zp tyS9 Z Z) Z (ze Z Z h18 (zh (.dat _) Z) (ze Z Z h18 (zh (.dat _) Z) (ze Z Z h18 (Wd Z Z (by omega)) (bE H fun x20 h21 H=>ze Z Z h18 (wx Qy (fun _=>Z) Z Z h21) (ze Z Z h18 (vr Yu Z) (ze Z Z h18 (yr tyS9 Z (ym (qk h21).2) Z) (ze Z Z h18 (Zz Z Z) (za (yb Z (bTT h19) Z) ⟨Z,?_⟩)))))))))
       exact ⟨(Op.bytesLess x6.Key x20.Key || x6.Key == x20.Key),H,⟨Z,Z,Z,Z,Z,U⟩,U⟩
      ·refine u2 h18 H fun h22 H=>zc Z Z h18 (zc Z Z h18 (zc Z Z h18 (zc Z Z h18 (zc Z Z h18 (zc Z Z h18 (zc Z Z h18 (zc Z Z h18 (zc Z Z h18 (za (ya Z (bFF h22) Z) ⟨Z,?_⟩)))))))))
       exact ⟨false,H,⟨Z,Z,Z,Z,Z,U⟩,U⟩
     ·rintro v23 H
      replace H:z3s v23=some q4:=H
      unfold z3s at H
      refine zf _ Z (fun h24 => ?_) (fun h24 => ?_)
      ·refine tE h24 H fun H=>zb hN Z (qe Z (zg ?_))
       replace H:=retl H hq4
       cases H
       exact ⟨U,.inl Z,U⟩
      ·exact fE h24 H fun H=>zl (zk hN Z (za (qi Z Z (by omega)) (qd Z ⟨_,yw H,⟨Z,Z,Z,Z,U⟩,U⟩)))
theorem y4x (n1:Int) (r:(Bool)) (H:Wv n1=some r):Fn Tryz.prog 64 [vint n1] (zr [zi r]):=by
 refine ⟨by kernel_rfl,zx (us:=[zi r]) Tryz.func64 Z Z Z Z fun X hN => ?_⟩
 unfold Wv at H
 refine zb hN Z (qe Z (zb hN Z (qd Z (za (vt Z Z) (qd Z (yz Z Z (fun hc=>zh (.dat _) Z) (yz Z Z (fun hc=>zw (cnd (c:=(decide (0≤n1))) hc) Z) (za (wy Z (fun hb=>(cnd (c:=(decide (0≤n1))) hb)) Z) (qe Z (zg ?_))))))))))
 cases H
 exact ⟨U,.inl Z,U⟩
theorem w9l (x1:(List yd)) (target2:Bs) (p2:yd→Bs→Option (Int)) (fv2:Nat) (us2:List V) (hp2:∀ a0 a1 r,p2 a0 a1=some r→Fn Tryz.prog fv2 ([vagg (wd a0),vstr a1]++us2) (zr [vint r])) (r:(Int×Bool)) (H:y39 x1 target2 p2=some r):Fn Tryz.prog 61 [vlst (List.map wd x1),vstr target2,vfn fv2 us2] (zr [vint r.1,zi r.2]):=by
 refine ⟨by kernel_rfl,zx (us:=[vint r.1,zi r.2]) Tryz.func61 Z Z Z Z fun X hN => ?_⟩
 unfold y39 at H
 refine zb hN Z (qe Z (qe Z (zb hN Z (qd Z (za (yk Qr Z) (qe Z (zb hN Z (qd Z (qe Z (qe Z (yc (ι:=Int) (fun i=>[(0,.dat (vlst (List.map wd x1))),(1,.dat (vstr target2)),(2,.dat (vfn fv2 us2)),(8,.dat (vint (x1.length:Int))),(9,.dat (vint i))]) (fun i=>[]) (fun i=>y2z x1 target2 p2 i=some r) (fun i=>Z) ?_ ?_)))))))))))
 ·skip
  refine zu (kj (fun (s:Int×Int)=>[(0,.dat (vlst (List.map wd x1))),(1,.dat (vstr target2)),(2,.dat (vfn fv2 us2)),(8,.dat (vint (x1.length:Int))),(9,.dat (vint s.1)),(10,.dat (vint s.2))]) (fun (s:Int×Int)=>[]) (0,(x1.length:Int)) H ⟨Z,Z,Z,Z,Z,Z,U⟩ U (fun _=>Z) ?_)
  rintro ⟨i3,j4⟩ q5 H hq5
  replace H:y8w x1 target2 p2 i3 j4=some q5:=H
  unfold y8w at H
  refine zd (zb hN Z (qd Z (qd Z (za (zw Z Z) (zf _ Z (fun h6 => ?_) (fun h6 => ?_))))))
  ·refine tE h6 H fun H=>zl (zu (zb hN Z (qd Z (qd Z (za (yl _ Z Z (.inl ⟨Z,Z⟩)) (za (jh tyU3 Zf Z) (za (yg (We Z Z (by decide)) Z) (za (jh Zf tyU3 Z) (qe Z (zb hN Z (qd Z (qd Z (qd Z (bE H fun x7 h8 H=>za (wx Qy (fun _=>Z) Z Z h8) (za (vg z0m Z (ym (qk h8).2) Z) (qd Z (bE H fun r9 h10 H=>za (kz (hp2 x7 target2 r9 h10) Z ⟨.inl Z,.inl Z,U⟩) (za (zw Z Z) (zf _ Z (fun h11 => ?_) (fun h11 => ?_))))))))))))))))))))
   ·exact tE h11 H fun H=>zk hN Z (qd Z (za (yl _ Z Z (.inl ⟨Z,Z⟩)) (qe Z ⟨_,yw H,⟨Z,Z,Z,Z,Z,Z,U⟩,U⟩)))
   ·exact fE h11 H fun H=>zk hN Z (qd Z (qe Z ⟨_,yw H,⟨Z,Z,Z,Z,Z,Z,U⟩,U⟩))
  ·refine fE h6 H fun H=>yp ?_
   replace H:=outl H hq5
   exact ⟨i3,H,⟨Z,Z,Z,Z,Z,U⟩,U⟩
 ·rintro i12 H
  replace H:y2z x1 target2 p2 i12=some r:=H
  unfold y2z at H
  refine yc (ι:=Bool) (fun i=>[(6,.dat (vint i12)),(7,.dat (zi i))]) (fun i=>[]) (fun i=>z7o i12 i=some r) (fun i=>Z) ?_ ?_
  ·skip
   refine zk hN Z (qd Z (qd Z (qd Z (za (zw Z Z) (qd Z (yi (j:=4) Z Z (fun h13 => ?_) (fun h13 => ?_) Z))))))
   ·exact u1 h13 H fun h14 H=>ze Z Z h13 (zh (.dat _) Z) (ze Z Z h13 (zh (.dat _) Z) (ze Z Z h13 (zh (.dat _) Z) (bE H fun x15 h16 H=>ze Z Z h13 (wx Qy (fun _=>Z) Z Z h16) (ze Z Z h13 (vg z0m Z (ym (qk h16).2) Z) (ze Z Z h13 (zh (.dat _) Z) (bE H fun r17 h18 H=>ze Z Z h13 (kz (hp2 x15 target2 r17 h18) Z ⟨.inl Z,.inl Z,U⟩) (ze Z Z h13 (yn Z Z) (za (yb Z (bTT h14) Z) (qe Z (qe Z ⟨decide (r17=0),H,⟨Z,Z,U⟩,U⟩))))))))))
   ·exact u2 h13 H fun h19 H=>zc Z Z h13 (zc Z Z h13 (zc Z Z h13 (zc Z Z h13 (zc Z Z h13 (zc Z Z h13 (zc Z Z h13 (zc Z Z h13 (za (ya Z (bFF h19) Z) (qe Z (qe Z ⟨false,H,⟨Z,Z,U⟩,U⟩))))))))))
  ·rintro v20 H
   replace H:z7o i12 v20=some r:=H
   unfold z7o at H
   refine zg ?_
   cases H
   exact ⟨U,.inl Z,.inl Z,U⟩
theorem w9x (a1:yd) (k2:Bs) (r:(Int)) (H:z4r a1 k2=some r):Fn Tryz.prog 62 [vagg (wd a1),vstr k2] (zr [vint r]):=by
 refine ⟨by kernel_rfl,zx (us:=[vint r]) Tryz.func62 Z Z Z Z fun X hN => ?_⟩
 unfold z4r at H
 refine zb hN Z (zj (qu 1 Z) Z (qe Z (zb hN Z (za (zn Yu Z) (zm (zp tyS9 Z Z) Z (qd Z (bE H fun r3 h4 H=>za (zo (z94 a1.Key k2 r3 h4) ⟨.inl Z,.inl Z,U⟩) (qe Z (zg ?_)))))))))
 cases H
 exact ⟨U,.inl Z,U⟩
theorem x0z (l1:(List yd)) (key2:Bs) (r:(Int×Bool)) (H:z1w l1 key2=some r):Fn Tryz.prog 23 [vlst (List.map wd l1),vstr key2] (zr [vint r.1,zi r.2]):=by
 refine ⟨by kernel_rfl,zx (us:=[vint r.1,zi r.2]) Tryz.func23 Z Z Z Z fun X hN => ?_⟩
 unfold z1w at H
 refine zb hN Z (qe Z (qe Z (zb hN Z (qd Z (qd Z (bE H fun r3 h4 H=>za (y73 (w9l l1 key2 (fun (a0:yd) (a1:Bs)=>z4r a0 a1) 62 [] (fun a0 a1 r h=>w9x a0 a1 r h) r3 h4) ⟨.inl (.inl Z),.inl (.inl Z),.inr ⟨_,Z,Z⟩,U⟩) (za (ye Z Z) (za (ye Z Z) (qe Z (qe Z (zg ?_)))))))))))
 cases H
 exact ⟨U,.inl Z,.inl Z,U⟩
theorem w9k (x1:(List yj)) (target2:Bs) (p2:yj→Bs→Option (Int)) (fv2:Nat) (us2:List V) (hp2:∀ a0 a1 r,p2 a0 a1=some r→Fn Tryz.prog fv2 ([vagg (wj a0),vstr a1]++us2) (zr [vint r])) (r:(Int×Bool)) (H:y38 x1 target2 p2=some r):Fn Tryz.prog 170 [vlst (List.map wj x1),vstr target2,vfn fv2 us2] (zr [vint r.1,zi r.2]):=by
 refine ⟨by kernel_rfl,zx (us:=[vint r.1,zi r.2]) Tryz.func170 Z Z Z Z fun X hN => ?_⟩
 unfold y38 at H
 refine zb hN Z (qe Z (qe Z (zb hN Z (qd Z (za (yk z0l Z) (qe Z (zb hN Z (qd Z (qe Z (qe Z (yc (ι:=Int) (fun i=>[(0,.dat (vlst (List.map wj x1))),(1,.dat (vstr target2)),(2,.dat (vfn fv2 us2)),(8,.dat (vint (x1.length:Int))),(9,.dat (vint i))]) (fun i=>[]) (fun i=>y2y x1 target2 p2 i=some r) (fun i=>Z) ?_ ?_)))))))))))
 ·skip
  refine zu (kj (fun (s:Int×Int)=>[(0,.dat (vlst (List.map wj x1))),(1,.dat (vstr target2)),(2,.dat (vfn fv2 us2)),(8,.dat (vint (x1.length:Int))),(9,.dat (vint s.1)),(10,.dat (vint s.2))]) (fun (s:Int×Int)=>[]) (0,(x1.length:Int)) H ⟨Z,Z,Z,Z,Z,Z,U⟩ U (fun _=>Z) ?_)
  rintro ⟨i3,j4⟩ q5 H hq5
  replace H:y8v x1 target2 p2 i3 j4=some q5:=H
  unfold y8v at H
  refine zd (zb hN Z (qd Z (qd Z (za (zw Z Z) (zf _ Z (fun h6 => ?_) (fun h6 => ?_))))))
  ·refine tE h6 H fun H=>zl (zu (zb hN Z (qd Z (qd Z (za (yl _ Z Z (.inl ⟨Z,Z⟩)) (za (jh tyU3 Zf Z) (za (yg (We Z Z (by decide)) Z) (za (jh Zf tyU3 Z) (qe Z (zb hN Z (qd Z (qd Z (qd Z (bE H fun x7 h8 H=>za (wx Zj (fun _=>Z) Z Z h8) (za (vg ka Z (ym (qk h8).2) Z) (qd Z (bE H fun r9 h10 H=>za (kz (hp2 x7 target2 r9 h10) Z ⟨.inl Z,.inl Z,U⟩) (za (zw Z Z) (zf _ Z (fun h11 => ?_) (fun h11 => ?_))))))))))))))))))))
   ·exact tE h11 H fun H=>zk hN Z (qd Z (za (yl _ Z Z (.inl ⟨Z,Z⟩)) (qe Z ⟨_,yw H,⟨Z,Z,Z,Z,Z,Z,U⟩,U⟩)))
   ·exact fE h11 H fun H=>zk hN Z (qd Z (qe Z ⟨_,yw H,⟨Z,Z,Z,Z,Z,Z,U⟩,U⟩))
  ·refine fE h6 H fun H=>yp ?_
   replace H:=outl H hq5
   exact ⟨i3,H,⟨Z,Z,Z,Z,Z,U⟩,U⟩
 ·rintro i12 H
  replace H:y2y x1 target2 p2 i12=some r:=H
  unfold y2y at H
  refine yc (ι:=Bool) (fun i=>[(6,.dat (vint i12)),(7,.dat (zi i))]) (fun i=>[]) (fun i=>z7n i12 i=some r) (fun i=>Z) ?_ ?_
  ·skip
   refine zk hN Z (qd Z (qd Z (qd Z (za (zw Z Z) (qd Z (yi (j:=4) Z Z (fun h13 => ?_) (fun h13 => ?_) Z))))))
   ·exact u1 h13 H fun h14 H=>ze Z Z h13 (zh (.dat _) Z) (ze Z Z h13 (zh (.dat _) Z) (ze Z Z h13 (zh (.dat _) Z) (bE H fun x15 h16 H=>ze Z Z h13 (wx Zj (fun _=>Z) Z Z h16) (ze Z Z h13 (vg ka Z (ym (qk h16).2) Z) (ze Z Z h13 (zh (.dat _) Z) (bE H fun r17 h18 H=>ze Z Z h13 (kz (hp2 x15 target2 r17 h18) Z ⟨.inl Z,.inl Z,U⟩) (ze Z Z h13 (yn Z Z) (za (yb Z (bTT h14) Z) (qe Z (qe Z ⟨decide (r17=0),H,⟨Z,Z,U⟩,U⟩))))))))))
   ·exact u2 h13 H fun h19 H=>zc Z Z h13 (zc Z Z h13 (zc Z Z h13 (zc Z Z h13 (zc Z Z h13 (zc Z Z h13 (zc Z Z h13 (zc Z Z h13 (za (ya Z (bFF h19) Z) (qe Z (qe Z ⟨false,H,⟨Z,Z,U⟩,U⟩))))))))))
  ·rintro v20 H
   replace H:z7n i12 v20=some r:=H
   unfold z7n at H
   refine zg ?_
   cases H
   exact ⟨U,.inl Z,.inl Z,U⟩
theorem w9q (p1:yj) (k2:Bs) (r:(Int)) (H:z4n p1 k2=some r):Fn Tryz.prog 171 [vagg (wj p1),vstr k2] (zr [vint r]):=by
 refine ⟨by kernel_rfl,zx (us:=[vint r]) Tryz.func171 Z Z Z Z fun X hN => ?_⟩
 unfold z4n at H
 refine zb hN Z (zj (qu 1 Z) Z (qe Z (zb hN Z (za (zn xc Z) (zm (zp tyS9 Z Z) Z (qd Z (bE H fun r3 h4 H=>za (zo (z94 p1.Key k2 r3 h4) ⟨.inl Z,.inl Z,U⟩) (qe Z (zg ?_)))))))))
 cases H
 exact ⟨U,.inl Z,U⟩
theorem x77 (c1:yh) (key2:Bs) (r:(yj×Bool)) (H:z1t c1 key2=some r):Fn Tryz.prog 115 [vagg (jo c1),vstr key2] (zr [vagg (wj r.1),zi r.2]):=by
 refine ⟨by kernel_rfl,zx (us:=[vagg (wj r.1),zi r.2]) Tryz.func115 Z Z Z Z fun X hN => ?_⟩
 unfold z1t at H
 refine zb hN Z (zj (qu 1 Z) Z (zj (qm 2 Ys Z) Z (qe Z (zb hN Z (za (zn uj Z) (zm (zp ui Z Z) Z (qd Z (bE H fun r3 h4 H=>za (y73 (w9k c1.Plans key2 (fun (a0:yj) (a1:Bs)=>z4n a0 a1) 171 [] (fun a0 a1 r h=>w9q a0 a1 r h) r3 h4) ⟨.inl (.inl Z),.inl (.inl Z),.inr ⟨_,Z,Z⟩,U⟩) (qd Z (za (ye Z Z) (za (ye Z Z) (qe Z (qe Z (zd (zb hN Z (qd Z (za (yv Z) (zf _ Z (fun h5 => ?_) (fun h5 => ?_)))))))))))))))))))
 ·refine tE h5 H fun H=>zb hN Z (za (jc (u':=vagg (wj (yj.mk [] [] 0 0 [] 0 0 false))) (jb (by exact ⟨yf,yf,yf,yf,wo,yf,yf,yf,U⟩)) (qv [] Ys x3y Z U)) ?_)
  refine zj (yo ka Z Z Z Z) Z (qe Z (zg ?_))
  cases H
  exact ⟨U,.inl ⟨_,_,_,wj (yj.mk [] [] 0 0 [] 0 0 false),Z,Z,Z,Z,ka⟩,.inl Z,U⟩
 ·refine fE h5 H fun H=>zl (zb hN Z (za (zn uj Z) (zm (zp ui Z Z) Z (qd Z (bE H fun x6 h7 H=>za (wx Zj (fun _=>Z) Z Z h7) (za (vg ka Z (ym (qk h7).2) Z) (zj (yo ka Z Z Z Z) Z (qe Z (zg ?_)))))))))
  cases H
  exact ⟨U,.inl ⟨_,_,_,wj x6,Z,Z,Z,Z,ka⟩,.inl Z,U⟩
theorem x8q (x1:Int) (r:(Bool)) (H:z9q x1=some r):Fn Tryz.prog 224 [vint x1] (zr [zi r]):=by
 refine ⟨by kernel_rfl,zx (us:=[zi r]) Tryz.func224 Z Z Z Z fun X hN => ?_⟩
 unfold z9q at H
 refine zb hN Z (qe Z (zb hN Z (qd Z (qd Z (za (qj Z Z) (qe Z (zg ?_)))))))
 cases H
 exact ⟨U,.inl Z,U⟩
theorem v1i (x1:Int) (y2:Int) (r:(Int)) (H:z47 x1 y2=some r):Fn Tryz.prog 173 [vint x1,vint y2] (zr [vint r]):=by
 refine ⟨by kernel_rfl,zx (us:=[vint r]) Tryz.func173 Z Z Z Z fun X hN => ?_⟩
 unfold z47 at H
 refine zb hN Z (qe Z (zb hN Z (qd Z (bE H fun r3 h4 H=>za (zo (x8q x1 r3 h4) ⟨.inl Z,U⟩) (qe Z (zb hN Z (qd Z (bE H fun r5 h6 H=>za (zo (x8q y2 r5 h6) ⟨.inl Z,U⟩) (qe Z (zd (zb hN Z (qd Z (zf _ Z (fun h7 => ?_) (fun h7 => ?_))))))))))))))
 ·refine tE h7 H fun H=>zd (zb hN Z (qd Z (zf _ Z (fun h8 => ?_) (fun h8 => ?_))))
  ·refine tE h8 H fun H=>zb hN Z (qe Z (zg ?_))
   cases H
   exact ⟨U,.inl Z,U⟩
  ·refine fE h8 H fun H=>zl (zb hN Z (qe Z (zg ?_)))
   cases H
   exact ⟨U,.inl Z,U⟩
 ·refine fE h7 H fun H=>zl (zd (zb hN Z (qd Z (zf _ Z (fun h9 => ?_) (fun h9 => ?_)))))
  ·refine tE h9 H fun H=>zb hN Z (qe Z (zg ?_))
   cases H
   exact ⟨U,.inl Z,U⟩
  ·refine fE h9 H fun H=>zl (zd (zb hN Z (qd Z (qd Z (za (zw Z Z) (zf _ Z (fun h10 => ?_) (fun h10 => ?_)))))))
   ·refine tE h10 H fun H=>zb hN Z (qe Z (zg ?_))
    cases H
    exact ⟨U,.inl Z,U⟩
   ·refine fE h10 H fun H=>zl (zd (zb hN Z (qd Z (qd Z (za (qh Z Z) (zf _ Z (fun h11 => ?_) (fun h11 => ?_)))))))
    ·refine tE h11 H fun H=>zb hN Z (qe Z (zg ?_))
     cases H
     exact ⟨U,.inl Z,U⟩
    ·refine fE h11 H fun H=>zl (zb hN Z (qe Z (zg ?_)))
     cases H
     exact ⟨U,.inl Z,U⟩
theorem v1g (vals1:(List Int)) (r:(Int)) (H:z45 vals1=some r):Fn Tryz.prog 172 [vlst (List.map wi vals1)] (zr [vint r]):=by
 refine ⟨by kernel_rfl,zx (us:=[vint r]) Tryz.func172 Z Z Z Z fun X hN => ?_⟩
 unfold z45 at H
 refine zb hN Z (qe Z (zb hN Z (qe Z (zd (zb hN Z (qd Z (za (yk z6m Z) (qd Z (zu (gE H fun h4 H=>qq (fun (k2:Nat) (s:Unit)=>[(3,.dat (vint 0)),(6,.dat (vlst (List.map wi vals1))),(7,.dat (vint (vals1.length:Int))),(8,.dat (vint (k2:Int)))]) (fun (k2:Nat) (s:Unit)=>[]) () H ⟨Z,Z,Z,Z,U⟩ U (fun _ _=>Z) ?_ ?_))))))))))
 ·rintro ⟨⟩ H
  replace H:y52=some r:=H
  unfold y52 at H
  refine zb hN Z (za (zw Z Z) (zd (zf _ Z (fun h=>(lt_t h).elim) (fun h => ?_))))
  refine yp (zb hN Z (qd Z (qe Z (zg ?_))))
  cases H
  exact ⟨U,.inl Z,U⟩
 ·rintro k2 x5 ⟨⟩ q3 h6 h7 H hq3
  replace H:y51 k2 x5=some q3:=H
  unfold y51 at H
  refine zb hN Z (za (zw Z Z) (zd (zf _ Z (fun h => ?_) (fun h=>(lt_f h6 h).elim))))
  refine zl (zd (zu (zb hN Z (za (qp Yv (fun _=>Z) Z Z h7) (za (yr tyS3 Z (ym h7) Z) (qe Z (zb hN Z (qd Z (qd Z (za (qj Z Z) (zf _ Z (fun h8 => ?_) (fun h8 => ?_))))))))))))
  ·refine tE h8 H fun H=>zb hN Z (qd Z (qe Z (zg ?_)))
   replace H:=retl H hq3
   cases H
   exact ⟨U,.inl Z,U⟩
  ·exact fE h8 H fun H=>zl (zk hN Z (za (qi Z Z (by omega)) (qd Z ⟨_,yw H,⟨Z,Z,Z,Z,U⟩,U⟩)))
theorem w9v (a1:zq) (b2:zq) (r:(Int)) (H:y4b a1 b2=some r):Fn Tryz.prog 116 [vagg (yy a1),vagg (yy b2)] (zr [vint r]):=by
 refine ⟨by kernel_rfl,zx (us:=[vint r]) Tryz.func116 Z Z Z Z fun X hN => ?_⟩
 unfold y4b at H
 refine zb hN Z (zj (qu 1 Z) Z (zj (qu 2 Z) Z (qe Z (zd (wg mixed hN Z Z (za (zn kg Z) (zm (zp tyS3 Z Z) Z (za (zn kg Z) (zm (zp tyS3 Z Z) Z (bE H fun r3 h4 H=>za (zo (v1i a1.At b2.At r3 h4) ⟨.inl Z,.inl Z,U⟩) (za (zn xp Z) (zm (zp tyS9 Z Z) Z (za (zn xp Z) (zm (zp tyS9 Z Z) Z (bE H fun r5 h6 H=>za (zo (z94 a1.App b2.App r5 h6) ⟨.inl Z,.inl Z,U⟩) (za (zn uo Z) (zm (zp tyS9 Z Z) Z (za (zn uo Z) (zm (zp tyS9 Z Z) Z (bE H fun r7 h8 H=>za (zo (z94 a1.Product b2.Product r7 h8) ⟨.inl Z,.inl Z,U⟩) ?_))))))))))))))))))))
 refine za (yg (u':=vlst (List.map wi [r3,r5,r7])) (qy [[_],[_],[_]] kf ⟨Z,.inl ⟨_,Z,Z,Z⟩,Z,Z,.inl ⟨_,Z,Z,Z⟩,Z,Z,.inl ⟨_,Z,Z,Z⟩,Z,U⟩ Z Z) Z) (bE H fun r9 h10 H=>za (zo (v1g [r3,r5,r7] r9 h10) ⟨.inl Z,U⟩) (qe Z ⟨Z,?_⟩))
 refine zg ?_
 cases H
 exact ⟨U,.inl Z,U⟩
theorem w9u (v1:yh) (v2:(List yd)) (v3:(List zq)) (v4:Int) (r:(Int)) (H:z8t v1 v2 v3 v4=some r):Fn Tryz.prog 60 [vagg (jo v1),vlst (List.map wd v2),vlst (List.map yy v3),vint v4] (zr [vint r]):=by
 refine ⟨by kernel_rfl,zx (us:=[vint r]) Tryz.func60 Z Z Z Z fun X hN => ?_⟩
 unfold z8t at H
 refine zb hN Z (zj (qu 1 Z) Z (qe Z (zb hN Z (qd Z (qd Z (bE H fun x5 h6 H=>za (wx ju (fun _=>Z) Z Z h6) (za (vg vx Z (ym (qk h6).2) Z) (zj (qm 2 z0k Z) Z (zj (yo vx Z Z Z Z) Z (zd (zb hN Z (za (zn kg Z) (zm (zp tyS3 Z Z) Z (bE H fun r7 h8 H=>za (zo (y4x x5.At r7 h8) ⟨.inl Z,U⟩) (za (yv Z) (zf _ Z (fun h9 => ?_) (fun h9 => ?_)))))))))))))))))
 ·refine tE h9 H fun H=>zb hN Z (qe Z (zg ?_))
  cases H
  exact ⟨U,.inl Z,U⟩
 ·refine fE h9 H fun H=>zl (zd (zb hN Z (qd Z (za (zn xp Z) (zm (zp tyS9 Z Z) Z (bE H fun r10 h11 H=>za (zo (x0z v2 x5.App r10 h11) ⟨.inl Z,.inl Z,U⟩) (qd Z (za (ye Z Z) (za (ye Z Z) (qe Z (qe Z (zb hN Z (qd Z (za (yv Z) (zf _ Z (fun h12 => ?_) (fun h12 => ?_))))))))))))))))
  ·refine tE h12 H fun H=>zb hN Z (qe Z (zg ?_))
   cases H
   exact ⟨U,.inl Z,U⟩
  ·refine fE h12 H fun H=>zl (zd (zb hN Z (zm (qc vj Z Z Z) Z (za (zn uo Z) (zm (zp tyS9 Z Z) Z (bE H fun r13 h14 H=>za (zo (x0y v1 x5.Product r13 h14) ⟨.inl Z,.inl Z,U⟩) (qd Z (za (ye Z Z) (za (ye Z Z) (qe Z (qe Z (zb hN Z (qd Z (za (yv Z) (zf _ Z (fun h15 => ?_) (fun h15 => ?_))))))))))))))))
   ·refine tE h15 H fun H=>zb hN Z (qe Z (zg ?_))
    cases H
    exact ⟨U,.inl Z,U⟩
   ·refine fE h15 H fun H=>zl (zd (zb hN Z (za (zn jt Z) (zm (zp tyS3 Z Z) Z (bE H fun r16 h17 H=>za (zo (ue x5.Kind 1 6 r16 h17) ⟨.inl Z,.inl Z,.inl Z,U⟩) (zf _ Z (fun h18 => ?_) (fun h18 => ?_)))))))
    ·refine tE h18 H fun H=>zb hN Z (qe Z (zg ?_))
     cases H
     exact ⟨U,.inl Z,U⟩
    ·refine fE h18 H fun H=>zl (zd (zb hN Z (za (zn xd Z) (zm (zp tyS9 Z Z) Z (za (js Z Z) (qd Z (yz Z Z (fun hc=>zn jt Z) (xv Z Z (fun hc=>zp tyS3 (cnd (c:=(decide (x5.Plan≠[]))) hc) Z) Z jf (yz Z Z (fun hc=>qj (cnd (c:=(decide (x5.Plan≠[]))) hc) Z) (za (wy Z (fun hb=>(cnd (c:=(decide (x5.Plan≠[]))) hb)) Z) (zf _ Z (fun h19 => ?_) (fun h19 => ?_))))))))))))
     ·refine tE h19 H fun H=>zb hN Z (qe Z (zg ?_))
      cases H
      exact ⟨U,.inl Z,U⟩
     ·refine fE h19 H fun H=>zl (yc (ι:=Unit) (fun i=>[(2,.dat (vlst (List.map yy v3))),(3,.dat (vint v4)),(9,.ptr 2 0)]) (fun i=>[(2,.box none 109 [.dat (vint x5.At),.dat (vstr x5.App),.dat (vstr x5.Product),.dat (vint x5.Kind),.dat (vstr x5.Plan)])]) (fun i=>z04 v3 v4 x5=some r) (fun i=>Z) ?_ ?_)
      ·skip
       refine zb hN Z (za (zn jt Z) (zm (zp tyS3 Z Z) Z (za (yn Z Z) (zf _ Z (fun h20 => ?_) (fun h20 => ?_)))))
       ·refine tE h20 H fun H=>zb hN Z (zm (qc vj Z Z Z) Z (za (zn xd Z) (zm (zp tyS9 Z Z) Z (bE H fun r21 h22 H=>za (zo (x77 v1 x5.Plan r21 h22) ⟨.inl Z,.inl Z,U⟩) (qd Z (za (ye Z Z) (za (ye Z Z) (zj (qm 3 Ys Z) Z (zj (yo ka Z Z Z Z) Z (qe Z (zd (zb hN Z (qd Z (za (yv Z) (zf _ Z (fun h23 => ?_) (fun h23 => ?_))))))))))))))))
        ·refine tE h23 H fun H=>zb hN Z (qe Z (zg ?_))
         cases H
         exact ⟨U,.inl Z,U⟩
        ·refine fE h23 H fun H=>zl (zb hN Z (za (zn z6o Z) (zm (zp tyS9 Z Z) Z (za (zn uo Z) (zm (zp tyS9 Z Z) Z (za (js Z Z) (zf _ Z (fun h24 => ?_) (fun h24 => ?_))))))))
         ·refine tE h24 H fun H=>zb hN Z (qe Z (zg ?_))
          cases H
          exact ⟨U,.inl Z,U⟩
         ·exact fE h24 H fun H=>zl ⟨(),H,⟨Z,Z,Z,U⟩,⟨Z,U⟩⟩
       ·exact fE h20 H fun H=>zl ⟨(),H,⟨Z,Z,Z,U⟩,⟨Z,U⟩⟩
      ·rintro ⟨⟩ H
       replace H:z04 v3 v4 x5=some r:=H
       unfold z04 at H
       refine zd (yc (ι:=Bool) (fun i=>[(81,.dat (zi i))]) (fun i=>[]) (fun i=>z3p i=some r) (fun i=>Z) ?_ ?_)
       ·skip
        refine wg mixed hN Z Z (qd Z (za (qh Z Z) (qd Z (yi (j:=2) Z Z (fun h25 => ?_) (fun h25 => ?_) Z))))
        ·refine u1 h25 H fun h26 H=>ze Z Z h25 (zh (.dat _) Z) (ze Z Z h25 (zh (.dat _) Z) (ze Z Z h25 (yl _ Z Z (.inr (.inl ⟨Z,Z⟩))) (bE H fun x27 h28 H=>ze Z Z h25 (wx ju (fun _=>Z) Z Z h28) (ze Z Z h25 (vg vx Z (ym (qk h28).2) Z) (qz Z Z h25 (qc vx Z Z Z) Z (bE H fun r29 h30 H=>ze Z Z h25 (zo (w9v x27 x5 r29 h30) ⟨.inl Z,.inl Z,U⟩) (ze Z Z h25 (vt Z Z) (za (yb Z (bTT h26) Z) ⟨Z,?_⟩))))))))
         exact ⟨decide (0≤r29),H,⟨Z,U⟩,U⟩
        ·refine u2 h25 H fun h31 H=>zc Z Z h25 (zc Z Z h25 (zc Z Z h25 (zc Z Z h25 (zc Z Z h25 (zc Z Z h25 (zc Z Z h25 (zc Z Z h25 (za (ya Z (bFF h31) Z) ⟨Z,?_⟩))))))))
         exact ⟨false,H,⟨Z,U⟩,U⟩
       ·rintro v32 H
        replace H:z3p v32=some r:=H
        unfold z3p at H
        refine zf _ Z (fun h33 => ?_) (fun h33 => ?_)
        ·refine tE h33 H fun H=>zb hN Z (qe Z (zg ?_))
         cases H
         exact ⟨U,.inl Z,U⟩
        ·refine fE h33 H fun H=>zl (zb hN Z (qe Z (zg ?_)))
         cases H
         exact ⟨U,.inl Z,U⟩
theorem x8d (c1:yh) (apps2:(List yd)) (l3:(List zq)) (r:(Int)) (H:z4s c1 apps2 l3=some r):Fn Tryz.prog 22 [vagg (jo c1),vlst (List.map wd apps2),vlst (List.map yy l3)] (zr [vint r]):=by
 refine ⟨by kernel_rfl,zx (us:=[vint r]) Tryz.func22 Z Z Z Z fun X hN => ?_⟩
 unfold z4s at H
 refine zb hN Z (zj (qu 1 Z) Z (qe Z (zd (zb hN Z (zm (qc vj Z Z Z) Z (bE H fun r4 h5 H=>za (zo (w90 c1 r4 h5) ⟨.inl Z,U⟩) (qe Z (zb hN Z (qd Z (za (qj Z Z) (zf _ Z (fun h6 => ?_) (fun h6 => ?_))))))))))))
 ·refine tE h6 H fun H=>zb hN Z (qd Z (qe Z (zg ?_)))
  cases H
  exact ⟨U,.inl Z,U⟩
 ·refine fE h6 H fun H=>zl (zd (zb hN Z (qd Z (bE H fun r7 h8 H=>za (zo (w91 apps2 r7 h8) ⟨.inl Z,U⟩) (qe Z (zb hN Z (qd Z (za (qj Z Z) (zf _ Z (fun h9 => ?_) (fun h9 => ?_))))))))))
  ·refine tE h9 H fun H=>zb hN Z (qd Z (qe Z (zg ?_)))
   cases H
   exact ⟨U,.inl Z,U⟩
  ·refine fE h9 H fun H=>zl (zd (zb hN Z (qd Z (za (yk Ze Z) (za (qh Z Z) (zf _ Z (fun h10 => ?_) (fun h10 => ?_)))))))
   ·refine tE h10 H fun H=>zb hN Z (qe Z (zg ?_))
    cases H
    exact ⟨U,.inl Z,U⟩
   ·refine fE h10 H fun H=>zl (zd (zb hN Z (qd Z (za (yk Ze Z) (qd Z (zu (gE H fun h13 H=>qq (fun (k11:Nat) (s:Unit)=>[(1,.dat (vlst (List.map wd apps2))),(2,.dat (vlst (List.map yy l3))),(3,.ptr 1 0),(25,.dat (vint (l3.length:Int))),(26,.dat (vint (k11:Int)))]) (fun (k11:Nat) (s:Unit)=>[(1,.box none 29 [.dat (vlst (List.map wb c1.Products)),.dat (vlst (List.map wj c1.Plans))])]) () H ⟨Z,Z,Z,Z,Z,U⟩ ⟨Z,U⟩ (fun _ _=>Z) ?_ ?_)))))))
    ·rintro ⟨⟩ H
     replace H:y86=some r:=H
     unfold y86 at H
     refine zb hN Z (za (zw Z Z) (zd (zf _ Z (fun h=>(lt_t h).elim) (fun h => ?_))))
     refine yp (zb hN Z (qe Z (zg ?_)))
     cases H
     exact ⟨U,.inl Z,U⟩
    ·rintro k11 x14 ⟨⟩ q12 h15 h16 H hq12
     replace H:y29 c1 apps2 l3 k11 x14=some q12:=H
     unfold y29 at H
     refine zb hN Z (za (zw Z Z) (zd (zf _ Z (fun h => ?_) (fun h=>(lt_f h15 h).elim))))
     refine zl (zd (zu (zb hN Z (qd Z (qe Z (zb hN Z (zm (qc vj Z Z Z) Z (qd Z (qd Z (qd Z (bE H fun r17 h18 H=>za (zo (w9u c1 apps2 l3 (k11:Int) r17 h18) ⟨.inl Z,.inl Z,.inl Z,.inl Z,U⟩) (qe Z (zb hN Z (qd Z (za (qj Z Z) (zf _ Z (fun h19 => ?_) (fun h19 => ?_)))))))))))))))))
     ·refine tE h19 H fun H=>zb hN Z (qd Z (qe Z (zg ?_)))
      replace H:=retl H hq12
      cases H
      exact ⟨U,.inl Z,U⟩
     ·exact fE h19 H fun H=>zl (zk hN Z (za (qi Z Z (by omega)) (qd Z ⟨_,yw H,⟨Z,Z,Z,Z,Z,U⟩,⟨Z,U⟩⟩)))
theorem x79 (v1:Int) (r:(Int)) (H:z4p v1=some r):Fn Tryz.prog 24 [vint v1] (zr [vint r]):=by
 refine ⟨by kernel_rfl,zx (us:=[vint r]) Tryz.func24 Z Z Z Z fun X hN => ?_⟩
 unfold z4p at H
 refine zb hN Z (qe Z (zd (zb hN Z (qd Z (bE H fun r2 h3 H=>za (zo (y4x v1 r2 h3) ⟨.inl Z,U⟩) (za (yv Z) (zf _ Z (fun h4 => ?_) (fun h4 => ?_))))))))
 ·refine tE h4 H fun H=>zb hN Z (qe Z (zg ?_))
  cases H
  exact ⟨U,.inl Z,U⟩
 ·refine fE h4 H fun H=>zl (zb hN Z (qe Z (zg ?_)))
  cases H
  exact ⟨U,.inl Z,U⟩
theorem x78  (r:(zz)) (H:z4o  = some r):Fn Tryz.prog 66 [] (zr [vagg (qx r)]):=by
 refine ⟨by kernel_rfl,zx (us:=[vagg (qx r)]) Tryz.func66 Z Z Z Z fun X hN => ?_⟩
 unfold z4o at H
 refine zb hN Z (zj (qm 1 jz Z) Z (zb hN Z (za (yg (u':=vagg (qx (zz.mk 0 [] 0 (-1)))) (qv [(3,[vint (-1)])] jz z2x Z ⟨Z,.inl ⟨_,Z,Z,Z⟩,Z,U⟩) Z) (zj (yo qn Z Z Z Z) Z (zg ?_)))))
 cases H
 exact ⟨U,.inl ⟨_,_,_,qx (zz.mk 0 [] 0 (-1)),Z,Z,Z,Z,qn⟩,U⟩
theorem w7h (s1:jx) (app2:Bs) (product3:Bs) (r:(zz)) (H:z8u s1 app2 product3=some r):FnG Tryz.prog 26 [.ptr 0 0,.dat (vstr app2),.dat (vstr product3)] [(0,.box (some 0) 131 [.mp 2,.mp 3]),(2,.opq (some 0) (ub Zd s1.subs_)),(3,.opq (some 0) (ub Zc s1.asks_))] (.dat (zr [vagg (qx r)])) [(0,.box (some 0) 131 [.mp 2,.mp 3]),(2,.opq (some 0) (ub Zd s1.subs_)),(3,.opq (some 0) (ub Zc s1.asks_)),(10,.box none 62 (List.map .dat (qx r)))]:=by
 refine Zs (by kernel_rfl) Tryz.func26 Z Z Z Z fun X A hN => ?_
 unfold z8u at H
 refine zb hN Z (zj (qm 10 jz Z) Z (zb hN Z (za (zh (.ptr _ _) Z) (za (wq Z) (za (zn y7c Z) (zm (zp y6v Z Z) Z (qd Z (qd Z (za (yg (u':=vagg (y05 (yt.mk app2 product3))) (qv [(0,[vstr app2]),(1,[vstr product3])] y1f y6x Z ⟨Z,.inl ⟨_,Z,Z,Z⟩,Z,Z,.inl ⟨_,Z,Z,Z⟩,Z,U⟩) Z) (gE H fun h4 H=>zm (yg (u':=vtup [vagg (qx ((lkG s1.subs_ (yt.mk app2 product3)).getD (zz.mk 0 [] 0 0))),zi ((lkG s1.subs_ (yt.mk app2 product3)).isSome)]) (w3y (yt.mk app2 product3) y1m Z Z h4) Z) Z (qd Z (za (ye Z Z) (za (ye Z Z) (zj (qm 11 jz Z) Z (zj (yo qn Z Z Z Z) Z (qe Z (zd (zb hN Z (qd Z (za (yv Z) (zf _ Z (fun h5 => ?_) (fun h5 => ?_))))))))))))))))))))))
 ·refine tE h5 H fun H=>zb hN Z (bE H fun r6 h7 H=>za (zo (x78  r6 h7) U) (zj (yo qn Z Z Z Z) Z (zg ?_)))
  have eH:r6=r:=Option.some.inj H
  subst eH
  exact ⟨U,[(6,.ptr 10 0)],⟨Z,U⟩,⟨Z,Z,Z,Z,U⟩,Z,.inl ⟨[vagg (qx r6)],⟨⟨_,_,_,qx r6,Z,Z,Z,Z,qn⟩,U⟩,Z⟩⟩
 ·refine fE h5 H fun H=>zl (zb hN Z (zm (qc qn Z Z Z) Z (zj (yo qn Z Z Z Z) Z (zg ?_))))
  cases H
  exact ⟨U,[(6,.ptr 10 0)],⟨Z,U⟩,⟨Z,Z,Z,Z,U⟩,Z,.inl ⟨[vagg (qx (zz.mk (((lkG s1.subs_ (yt.mk app2 product3)).getD (zz.mk 0 [] 0 0)).State) (((lkG s1.subs_ (yt.mk app2 product3)).getD (zz.mk 0 [] 0 0)).Plan) (((lkG s1.subs_ (yt.mk app2 product3)).getD (zz.mk 0 [] 0 0)).Since) (((lkG s1.subs_ (yt.mk app2 product3)).getD (zz.mk 0 [] 0 0)).First)))],⟨⟨_,_,_,qx (zz.mk (((lkG s1.subs_ (yt.mk app2 product3)).getD (zz.mk 0 [] 0 0)).State) (((lkG s1.subs_ (yt.mk app2 product3)).getD (zz.mk 0 [] 0 0)).Plan) (((lkG s1.subs_ (yt.mk app2 product3)).getD (zz.mk 0 [] 0 0)).Since) (((lkG s1.subs_ (yt.mk app2 product3)).getD (zz.mk 0 [] 0 0)).First)),Z,Z,Z,Z,qn⟩,U⟩,Z⟩⟩
theorem x8a (state1:Int) (r:(Bool)) (H:z4q state1=some r):Fn Tryz.prog 175 [vint state1] (zr [zi r]):=by
 refine ⟨by kernel_rfl,zx (us:=[zi r]) Tryz.func175 Z Z Z Z fun X hN => ?_⟩
 unfold z4q at H
 refine zb hN Z (qe Z (zb hN Z (qd Z (za (yn Z Z) (qd Z (yu Z Z (fun hc=>zh (.dat _) Z) (yu Z Z (fun hc=>yn (cnd (c:=(!(decide (state1=2)))) hc) Z) (za (vk Z Z (fun hb=>(cnd (c:=(!(decide (state1=2)))) (notI hb)))) (qe Z (zg ?_))))))))))
 cases H
 exact ⟨U,.inl Z,U⟩
theorem w9w (s1:zz) (x2:zq) (p3:yj) (r:(zz×Bool)) (H:y4c s1 x2 p3=some r):Fn Tryz.prog 118 [vagg (qx s1),vagg (yy x2),vagg (wj p3)] (zr [vagg (qx r.1),zi r.2]):=by
 refine ⟨by kernel_rfl,zx (us:=[vagg (qx r.1),zi r.2]) Tryz.func118 Z Z Z Z fun X hN => ?_⟩
 unfold y4c at H
 refine zb hN Z (zj (qu 1 Z) Z (zj (qu 2 Z) Z (zj (qu 3 Z) Z (zj (qm 4 jz Z) Z (qe Z (zd (zu (zb hN Z (za (zn jr Z) (zm (zp tyS3 Z Z) Z (bE H fun r4 h5 H=>za (zo (x8a s1.State r4 h5) ⟨.inl Z,U⟩) (qe Z (zf _ Z (fun h6 => ?_) (fun h6 => ?_))))))))))))))
 ·refine tE h6 H fun H=>zd (zb hN Z (za (zn xc Z) (zm (zp tyS9 Z Z) Z (za (zn z6q Z) (zm (zp tyS9 Z Z) Z (za (vz Z Z) (qd Z (yu Z Z (fun hc=>zn y1n Z) (uk Z Z (fun hc=>zp tyS4 (cnd (c:=(!(decide (p3.Key=s1.Plan)))) hc) Z) Z jf (za (vk Z Z (fun hb=>(cnd (c:=(!(decide (p3.Key=s1.Plan)))) (notI hb)))) (zf _ Z (fun h7 => ?_) (fun h7 => ?_))))))))))))
  ·refine tE h7 H fun H=>zb hN Z (zm (qc qn Z Z Z) Z (zj (yo qn Z Z Z Z) Z (qe Z (zg ?_))))
   cases H
   exact ⟨U,.inl ⟨_,_,_,qx s1,Z,Z,Z,Z,qn⟩,.inl Z,U⟩
  ·refine fE h7 H fun H=>zl (zd (wg mixed hN Z Z (za (zn xc Z) (zm (zp tyS9 Z Z) Z (za (zn kg Z) (zm (zp tyS3 Z Z) Z (za (zn z6q Z) (zj (wa tyS9 Z Z Z Z) Z (za (zn y6z Z) (zj (wa tyS3 Z Z Z Z) Z ⟨Z,?_⟩))))))))))
   refine zb hN Z (zm (qc qn Z Z Z) Z (zj (yo qn Z Z Z Z) Z (qe Z (zg ?_))))
   cases H
   exact ⟨U,.inl ⟨_,_,_,qx (zz.mk s1.State p3.Key x2.At s1.First),Z,Z,Z,Z,qn⟩,.inl Z,U⟩
 ·refine fE h6 H fun H=>zb hN Z (za (zn jr Z) (zm (zp tyS3 Z Z) Z (za (yn Z Z) (qe Z (zf _ Z (fun h8 => ?_) (fun h8 => ?_))))))
  ·refine tE h8 H fun H=>zb hN Z (zm (qc qn Z Z Z) Z (zj (yo qn Z Z Z Z) Z (qe Z (zg ?_))))
   cases H
   exact ⟨U,.inl ⟨_,_,_,qx s1,Z,Z,Z,Z,qn⟩,.inl Z,U⟩
  ·refine fE h8 H fun H=>zb hN Z (za (zn y1n Z) (zm (zp tyS4 Z Z) Z (qe Z (zf _ Z (fun h9 => ?_) (fun h9 => ?_)))))
   ·refine tE h9 H fun H=>zb hN Z (za (zn xc Z) (zm (zp tyS9 Z Z) Z (za (zn kg Z) (zm (zp tyS3 Z Z) Z (za (yg (u':=vagg (qx (zz.mk 1 p3.Key x2.At (-1)))) (qv [(0,[vint 1]),(1,[vstr p3.Key]),(2,[vint x2.At]),(3,[vint (-1)])] jz z2x Z ⟨Z,.inl ⟨_,Z,Z,Z⟩,Z,Z,.inl ⟨_,Z,Z,Z⟩,Z,Z,.inl ⟨_,Z,Z,Z⟩,Z,Z,.inl ⟨_,Z,Z,Z⟩,Z,U⟩) Z) (zj (yo qn Z Z Z Z) Z (qe Z (zg ?_))))))))
    cases H
    exact ⟨U,.inl ⟨_,_,_,qx (zz.mk 1 p3.Key x2.At (-1)),Z,Z,Z,Z,qn⟩,.inl Z,U⟩
   ·refine fE h9 H fun H=>zl (zb hN Z (za (zn xc Z) (zm (zp tyS9 Z Z) Z (za (zn kg Z) (zm (zp tyS3 Z Z) Z (za (zn kg Z) (zm (zp tyS3 Z Z) Z (za (yg (u':=vagg (qx (zz.mk 2 p3.Key x2.At x2.At))) (qv [(0,[vint 2]),(1,[vstr p3.Key]),(2,[vint x2.At]),(3,[vint x2.At])] jz z2x Z ⟨Z,.inl ⟨_,Z,Z,Z⟩,Z,Z,.inl ⟨_,Z,Z,Z⟩,Z,Z,.inl ⟨_,Z,Z,Z⟩,Z,Z,.inl ⟨_,Z,Z,Z⟩,Z,U⟩) Z) (zj (yo qn Z Z Z Z) Z (qe Z (zg ?_)))))))))))
    cases H
    exact ⟨U,.inl ⟨_,_,_,qx (zz.mk 2 p3.Key x2.At x2.At),Z,Z,Z,Z,qn⟩,.inl Z,U⟩
theorem w9s (kind1:Int) (state2:Int) (r:(Int×Bool)) (H:y4a kind1 state2=some r):Fn Tryz.prog 119 [vint kind1,vint state2] (zr [vint r.1,zi r.2]):=by
 refine ⟨by kernel_rfl,zx (us:=[vint r.1,zi r.2]) Tryz.func119 Z Z Z Z fun X hN => ?_⟩
 unfold y4a at H
 refine zb hN Z (qe Z (qe Z (zd (zb hN Z (qd Z (zu (zb hN Z (za (yn Z Z) (qe Z (zf _ Z (fun h3 => ?_) (fun h3 => ?_)))))))))))
 ·refine tE h3 H fun H=>zb hN Z (qd Z (za (yn Z Z) (qe Z (qe Z (zg ?_)))))
  cases H
  exact ⟨U,.inl Z,.inl Z,U⟩
 ·refine fE h3 H fun H=>zb hN Z (za (yn Z Z) (qe Z (zf _ Z (fun h4 => ?_) (fun h4 => ?_))))
  ·refine tE h4 H fun H=>zb hN Z (qd Z (za (yn Z Z) (qe Z (qe Z (zg ?_)))))
   cases H
   exact ⟨U,.inl Z,.inl Z,U⟩
  ·refine fE h4 H fun H=>zb hN Z (za (yn Z Z) (qe Z (zf _ Z (fun h5 => ?_) (fun h5 => ?_))))
   ·refine tE h5 H fun H=>zb hN Z (qd Z (za (yn Z Z) (qe Z (qe Z (zg ?_)))))
    cases H
    exact ⟨U,.inl Z,.inl Z,U⟩
   ·refine fE h5 H fun H=>zb hN Z (za (yn Z Z) (qe Z (zf _ Z (fun h6 => ?_) (fun h6 => ?_))))
    ·refine tE h6 H fun H=>zb hN Z (qd Z (za (yn Z Z) (qe Z (qe Z (zg ?_)))))
     cases H
     exact ⟨U,.inl Z,.inl Z,U⟩
    ·refine fE h6 H fun H=>zl (yc (ι:=Bool) (fun i=>[(4,.dat (vint 4)),(5,.dat (zi i))]) (fun i=>[]) (fun i=>z3n i=some r) (fun i=>Z) ?_ ?_)
     ·skip
      refine zk hN Z (qd Z (za (yn Z Z) (qd Z (yi (j:=2) Z Z (fun h7 => ?_) (fun h7 => ?_) Z))))
      ·exact u3 h7 H fun h8 H=>ze Z Z h7 (zh (.dat _) Z) (bE H fun r9 h10 H=>ze Z Z h7 (zo (x8a state2 r9 h10) ⟨.inl Z,U⟩) (za (ya Z (bFF h8) Z) (qe Z (qe Z ⟨r9,H,⟨Z,Z,U⟩,U⟩))))
      ·exact u4 h7 H fun h11 H=>zc Z Z h7 (zc Z Z h7 (za (yb Z (bTT h11) Z) (qe Z (qe Z ⟨true,H,⟨Z,Z,U⟩,U⟩))))
     ·rintro v12 H
      replace H:z3n v12=some r:=H
      unfold z3n at H
      refine zg ?_
      cases H
      exact ⟨U,.inl Z,.inl Z,U⟩
theorem w9t (c1:yh) (s2:zz) (x3:zq) (r:(zz×Bool)) (H:z8s c1 s2 x3=some r):Fn Tryz.prog 65 [vagg (jo c1),vagg (qx s2),vagg (yy x3)] (zr [vagg (qx r.1),zi r.2]):=by
 refine ⟨by kernel_rfl,zx (us:=[vagg (qx r.1),zi r.2]) Tryz.func65 Z Z Z Z fun X hN => ?_⟩
 unfold z8s at H
 refine zb hN Z (zj (qu 1 Z) Z (zj (qu 2 Z) Z (zj (qu 3 Z) Z (zj (qm 4 jz Z) Z (qe Z (zd (zb hN Z (za (zn jt Z) (zm (zp tyS3 Z Z) Z (za (yn Z Z) (zf _ Z (fun h4 => ?_) (fun h4 => ?_))))))))))))
 ·refine tE h4 H fun H=>zb hN Z (zm (qc vj Z Z Z) Z (za (zn xd Z) (zm (zp tyS9 Z Z) Z (bE H fun r5 h6 H=>za (zo (x77 c1 x3.Plan r5 h6) ⟨.inl Z,.inl Z,U⟩) (qd Z (za (ye Z Z) (za (ye Z Z) (zj (qm 5 Ys Z) Z (zj (yo ka Z Z Z Z) Z (qe Z (zb hN Z (zm (qc qn Z Z Z) Z (zm (qc vx Z Z Z) Z (zm (qc ka Z Z Z) Z (bE H fun r7 h8 H=>za (zo (w9w s2 x3 r5.1 r7 h8) ⟨.inl Z,.inl Z,.inl Z,U⟩) (za (ye Z Z) (za (ye Z Z) (zj (yo qn Z Z Z Z) Z (qe Z (zg ?_))))))))))))))))))))
  cases H
  exact ⟨U,.inl ⟨_,_,_,qx r7.1,Z,Z,Z,Z,qn⟩,.inl Z,U⟩
 ·refine fE h4 H fun H=>zl (zb hN Z (za (zn jt Z) (zm (zp tyS3 Z Z) Z (za (zn jr Z) (zm (zp tyS3 Z Z) Z (bE H fun r9 h10 H=>za (zo (w9s x3.Kind s2.State r9 h10) ⟨.inl Z,.inl Z,U⟩) (qd Z (za (ye Z Z) (za (ye Z Z) (qe Z (qe Z (zd (zb hN Z (qd Z (za (yv Z) (zf _ Z (fun h11 => ?_) (fun h11 => ?_)))))))))))))))))
  ·refine tE h11 H fun H=>zb hN Z (zm (qc qn Z Z Z) Z (zj (yo qn Z Z Z Z) Z (qe Z (zg ?_))))
   cases H
   exact ⟨U,.inl ⟨_,_,_,qx s2,Z,Z,Z,Z,qn⟩,.inl Z,U⟩
  ·refine fE h11 H fun H=>zl (zd (wg mixed hN Z Z (qd Z (za (zn kg Z) (zm (zp tyS3 Z Z) Z (za (zn jr Z) (zj (wa tyS3 Z Z Z Z) Z (za (zn y6z Z) (zj (wa tyS3 Z Z Z Z) Z ⟨Z,?_⟩)))))))))
   refine yc (ι:=Int) (fun i=>[(4,.ptr 2 0),(6,.ptr 4 0)]) (fun i=>[(2,.box none 62 [.dat (vint r9.1),.dat (vstr s2.Plan),.dat (vint x3.At),.dat (vint i)]),(4,.box none 62 [.dat (vint 0),.dat (vstr []),.dat (vint 0),.dat (vint 0)])]) (fun i=>z3o s2 x3 r9 i=some r) (fun i=>Z) ?_ ?_
   ·skip
    refine zb hN Z (qd Z (za (yn Z Z) (qd Z (yz Z Z (fun hc=>zn z6p Z) (xv Z Z (fun hc=>zp tyS3 (cnd (c:=(decide (r9.1=2))) hc) Z) Z jf (yz Z Z (fun hc=>zw (cnd (c:=(decide (r9.1=2))) hc) Z) (za (wy Z (fun hb=>(cnd (c:=(decide (r9.1=2))) hb)) Z) (zf _ Z (fun h12 => ?_) (fun h12 => ?_)))))))))
    ·exact tE h12 H fun H=>zk hN Z (za (zn kg Z) (zm (zp tyS3 Z Z) Z (za (zn z6p Z) (zj (wa tyS3 Z Z Z Z) Z ⟨x3.At,H,⟨Z,Z,U⟩,⟨Z,Z,U⟩⟩))))
    ·exact fE h12 H fun H=>zl ⟨s2.First,H,⟨Z,Z,U⟩,⟨Z,Z,U⟩⟩
   ·rintro c13 H
    replace H:z3o s2 x3 r9 c13=some r:=H
    unfold z3o at H
    refine zb hN Z (zm (qc qn Z Z Z) Z (zj (yo qn Z Z Z Z) Z (qe Z (zg ?_))))
    cases H
    exact ⟨U,.inl ⟨_,_,_,qx (zz.mk r9.1 s2.Plan x3.At c13),Z,Z,Z,Z,qn⟩,.inl Z,U⟩
end Go.Proofs.YtbndlmnjeofkdacGreatDoor
