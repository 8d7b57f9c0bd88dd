/- Walks along the models. Printed by a program. -/
import Derived.Test.YtfindajhhadihaaGreatDoorZpw1
namespace Go.Proofs.YtfindajhhadihaaGreatDoor
open Go.RowKit
set_option linter.unusedVariables false
set_option maxRecDepth 100000
set_option maxHeartbeats 2000000
theorem y4p (v1:Bs) (r:(Bool)) (H:z5c v1=some r):Fn Tryz.prog 136 [vstr v1] (zr [zf r]):=by
 refine ⟨by kernel_rfl,yh (us:=[zf r]) Tryz.func136 Z Z Z Z fun X hN => ?_⟩
 unfold z5c at H
 refine zb hN Z (qe Z (zb hN Z (qe Z (zb hN Z (qe Z (zw (ι:=Bs) (fun i=>[(0,.dat (vstr i)),(3,.dat (vval (.int .i32 94))),(4,.dat (vint 0))]) (fun i=>[]) (fun i=>z07 i=some r) (fun i=>Z) ?_ ?_))))))
 ·skip
  refine zw (ι:=Bool) (fun i=>[(0,.dat (vstr v1)),(3,.dat (vval (.int .i32 94))),(4,.dat (vint 0)),(18,.dat (zf i))]) (fun i=>[]) (fun i=>Qq v1 i=some r) (fun i=>Z) ?_ ?_
  ·skip
   refine zm hN Z (qd Z (za (yq tyU9 Z) (za (wt Z Z) (qd Z (zz (j:=3) Z Z (fun h2 => ?_) (fun h2 => ?_) Z)))))
   ·refine u1 h2 H fun h3 H=>zd Z Z h2 (ze (.dat _) Z) (bE H fun x4 h5 H=>zd Z Z h2 (yv tyU9 Z Z h5) (zd Z Z h2 (yl Z Z) (zd Z Z h2 (ze (.dat _) Z) (zz (j:=7) Z Z (fun h6 => ?_) (fun h6 => ?_) Z))))
    ·exact u3 h6 H fun h7 H=>zd Z Z h6 (ze (.dat _) Z) (zd Z Z h6 (yv tyU9 Z Z h5) (zd Z Z h6 (yl Z Z) (zd Z Z h2 (zo Z (bFF h7) Z) (za (zu Z (bTT h3) Z) ⟨decide ((x4.toNat:Int)=43),H,⟨Z,Z,Z,Z,U⟩,U⟩))))
    ·exact u4 h6 H fun h8 H=>zc Z Z h6 (zc Z Z h6 (zc Z Z h6 (zd Z Z h2 (zu Z (bTT h8) Z) (za (zu Z (bTT h3) Z) ⟨true,H,⟨Z,Z,Z,Z,U⟩,U⟩))))
   ·exact u2 h2 H fun h9 H=>zc Z Z h2 (zc Z Z h2 (zc Z Z h2 (zc Z Z h2 (zt Z Z (zt Z Z (zt Z Z (zc Z Z h2 (za (zo Z (bFF h9) Z) ⟨false,H,⟨Z,Z,Z,Z,U⟩,U⟩))))))))
  ·rintro v10 H
   replace H:Qq v1 v10=some r:=H
   unfold Qq at H
   refine zg _ Z (fun h11 => ?_) (fun h11 => ?_)
   ·exact tE h11 H fun H=>zm hN Z (qd Z (bE H fun l12 h13 H=>za (qc tyU9 Z Z Z h13) (qe Z ⟨l12,H,⟨Z,Z,Z,U⟩,U⟩)))
   ·exact fE h11 H fun H=>zl ⟨v1,H,⟨Z,Z,Z,U⟩,U⟩
 ·rintro v14 H
  replace H:z07 v14=some r:=H
  unfold z07 at H
  refine zb hN Z (qe Z (zw (ι:=Int×Int×Bool) (fun i=>[(0,.dat (vstr v14)),(3,.dat (vval (.int .i32 i.1))),(4,.dat (vint i.2.1)),(5,.dat (zf i.2.2))]) (fun i=>[]) (fun i=>z06 v14 i.1 i.2.1 i.2.2=some r) (fun i=>Z) ?_ ?_))
  ·skip
   refine zw (ι:=Bool) (fun i=>[(0,.dat (vstr v14)),(3,.dat (vval (.int .i32 94))),(4,.dat (vint 0)),(5,.dat (zf false)),(46,.dat (zf i))]) (fun i=>[]) (fun i=>uj v14 i=some r) (fun i=>Z) ?_ ?_
   ·skip
    refine zm hN Z (qd Z (za (yq tyU9 Z) (za (wt Z Z) (qd Z (zz (j:=3) Z Z (fun h15 => ?_) (fun h15 => ?_) Z)))))
    ·refine u1 h15 H fun h16 H=>zd Z Z h15 (ze (.dat _) Z) (bE H fun x17 h18 H=>zd Z Z h15 (yv tyU9 Z Z h18) (zd Z Z h15 (yl Z Z) (za (zu Z (bTT h16) Z) (qd Z (zz (j:=8) Z Z (fun h19 => ?_) (fun h19 => ?_) Z)))))
     ·refine u1 h19 H fun h20 H=>zd Z Z h19 (ze (.dat _) Z) (bE H fun x21 h22 H=>zd Z Z h19 (yv tyU9 Z Z h22) (bE H fun r23 h24 H=>zd Z Z h19 (zn (vj (x21.toNat:Int) r23 h24) ⟨.inl Z,U⟩) (zd Z Z h19 (yl Z Z) (zd Z Z h19 (ze (.dat _) Z) (zz (j:=13) Z Z (fun h25 => ?_) (fun h25 => ?_) Z)))))
      ·refine u3 h25 H fun h26 H=>zd Z Z h25 (ze (.dat _) Z) (zd Z Z h25 (yv tyU9 Z Z h22) (bE H fun r27 h28 H=>zd Z Z h25 (zn (vj (x21.toNat:Int) r27 h28) ⟨.inl Z,U⟩) (zd Z Z h25 (yl Z Z) (zd Z Z h19 (zo Z (bFF h26) Z) (zd Z Z h19 (ze (.dat _) Z) (zz (j:=19) Z Z (fun h29 => ?_) (fun h29 => ?_) Z))))))
       ·exact u3 h29 H fun h30 H=>zd Z Z h29 (ze (.dat _) Z) (zd Z Z h29 (yv tyU9 Z Z h22) (bE H fun r31 h32 H=>zd Z Z h29 (zn (vj (x21.toNat:Int) r31 h32) ⟨.inl Z,U⟩) (zd Z Z h29 (yl Z Z) (zd Z Z h19 (zo Z (bFF h30) Z) (za (zu Z (bTT h20) Z) ⟨decide (r31=120),H,⟨Z,Z,Z,Z,Z,U⟩,U⟩)))))
       ·exact u4 h29 H fun h33 H=>zc Z Z h29 (zc Z Z h29 (zc Z Z h29 (zc Z Z h29 (zd Z Z h19 (zu Z (bTT h33) Z) (za (zu Z (bTT h20) Z) ⟨true,H,⟨Z,Z,Z,Z,Z,U⟩,U⟩)))))
      ·exact u4 h25 H fun h34 H=>zc Z Z h25 (zc Z Z h25 (zc Z Z h25 (zc Z Z h25 (zd Z Z h19 (zu Z (bTT h34) Z) (zd Z Z h19 (ze (.dat _) Z) (zc Z Z Z (zc Z Z Z (zc Z Z Z (zc Z Z Z (zd Z Z h19 (zu Z Z Z) (za (zu Z (bTT h20) Z) ⟨true,H,⟨Z,Z,Z,Z,Z,U⟩,U⟩)))))))))))
     ·exact u2 h19 H fun h35 H=>zc Z Z h19 (zc Z Z h19 (zc Z Z h19 (zc Z Z h19 (zc Z Z h19 (zt Z Z (zt Z Z (zt Z Z (zt Z Z (zc Z Z h19 (zc Z Z h19 (zt Z Z (zt Z Z (zt Z Z (zt Z Z (zc Z Z h19 (za (zo Z (bFF h35) Z) ⟨false,H,⟨Z,Z,Z,Z,Z,U⟩,U⟩))))))))))))))))
    ·exact u2 h15 H fun h36 H=>zc Z Z h15 (zc Z Z h15 (zc Z Z h15 (za (zo Z (bFF h36) Z) (qd Z (zc Z Z Z (zc Z Z Z (zc Z Z Z (zc Z Z Z (zc Z Z Z (zt Z Z (zt Z Z (zt Z Z (zt Z Z (zc Z Z Z (zc Z Z Z (zt Z Z (zt Z Z (zt Z Z (zt Z Z (zc Z Z Z (za (zo Z Z Z) ⟨false,H,⟨Z,Z,Z,Z,Z,U⟩,U⟩)))))))))))))))))))))
   ·rintro v37 H
    replace H:uj v14 v37=some r:=H
    unfold uj at H
    refine zg _ Z (fun h38 => ?_) (fun h38 => ?_)
    ·exact tE h38 H fun H=>zb hN Z (qe Z (zb hN Z (qe Z (zm hN Z (qd Z (bE H fun x39 h40 H=>za (yv tyU9 Z Z h40) (bE H fun r41 h42 H=>za (zn (vj (x39.toNat:Int) r41 h42) ⟨.inl Z,U⟩) (za (yl Z Z) (qe Z ⟨(48,2,decide (r41=120)),H,⟨Z,Z,Z,Z,U⟩,U⟩)))))))))
    ·exact fE h38 H fun H=>zl ⟨(94,0,false),H,⟨Z,Z,Z,Z,U⟩,U⟩
  ·rintro ⟨v43,v44,v45⟩ H
   replace H:z06 v14 v43 v44 v45=some r:=H
   unfold z06 at H
   refine zw (ι:=Int) (fun i=>[(3,.dat (vval (.int .i32 i)))]) (fun i=>[]) (fun i=>z3d i=some r) (fun i=>Z) ?_ ?_
   ·skip
    refine ye (jk (fun (s:Int×Int)=>[(0,.dat (vstr v14)),(3,.dat (vval (.int .i32 s.1))),(4,.dat (vint s.2)),(5,.dat (zf v45))]) (fun (s:Int×Int)=>[]) (v43,v44) H ⟨Z,Z,Z,Z,U⟩ U (fun _=>Z) ?_)
    rintro ⟨v46,v47⟩ q48 H hq48
    replace H:z5s v14 v45 v46 v47=some q48:=H
    unfold z5s at H
    refine zh (zb hN Z (qd Z (qd Z (za (yq tyU9 Z) (za (yf Z Z) (zg _ Z (fun h49 => ?_) (fun h49 => ?_)))))))
    ·refine tE h49 H fun H=>zl (zw (ι:=Int) (fun i=>[(0,.dat (vstr v14)),(3,.dat (vval (.int .i32 i))),(4,.dat (vint v47)),(5,.dat (zf v45))]) (fun i=>[]) (fun i=>Qp v47 i=some q48) (fun i=>Z) ?_ ?_)
     ·skip
      refine ye (zh (zw (ι:=Bool) (fun i=>[(0,.dat (vstr v14)),(3,.dat (vval (.int .i32 v46))),(4,.dat (vint v47)),(5,.dat (zf v45)),(83,.dat (zf i))]) (fun i=>[]) (fun i=>kc v14 v46 v47 i=some q48) (fun i=>Z) ?_ ?_))
      ·skip
       refine zm hN Z (qd Z (qd Z (bE H fun x50 h51 H=>za (wc tyU9 Z Z h51) (za (qr Z Z) (qd Z (zz (j:=4) Z Z (fun h52 => ?_) (fun h52 => ?_) Z))))))
       ·refine u1 h52 H fun h53 H=>zd Z Z h52 (ze (.dat _) Z) (zd Z Z h52 (ze (.dat _) Z) (zd Z Z h52 (wc tyU9 Z Z h51) (zd Z Z h52 (qr Z Z) (za (zu Z (bTT h53) Z) (qd Z (zz (j:=10) Z Z (fun h54 => ?_) (fun h54 => ?_) Z))))))
        ·refine u3 h54 H fun h55 H=>zd Z Z h54 (ze (.dat _) Z) (zd Z Z h54 (ze (.dat _) Z) (zz (j:=12) Z Z (fun h56 => ?_) (fun h56 => ?_) Z))
         ·refine u1 h56 H fun h57 H=>zd Z Z h56 (ze (.dat _) Z) (zd Z Z h56 (ze (.dat _) Z) (zd Z Z h56 (wc tyU9 Z Z h51) (bE H fun r58 h59 H=>zd Z Z h56 (zn (vj (x50.toNat:Int) r58 h59) ⟨.inl Z,U⟩) (zd Z Z h56 (qr Z Z) (zd Z Z h54 (zu Z (bTT h57) Z) (zd Z Z h54 (ze (.dat _) Z) (zz (j:=19) Z Z (fun h60 => ?_) (fun h60 => ?_) Z)))))))
          ·exact u1 h60 H fun h61 H=>zd Z Z h60 (ze (.dat _) Z) (zd Z Z h60 (ze (.dat _) Z) (zd Z Z h60 (wc tyU9 Z Z h51) (bE H fun r62 h63 H=>zd Z Z h60 (zn (vj (x50.toNat:Int) r62 h63) ⟨.inl Z,U⟩) (zd Z Z h60 (qr Z Z) (zd Z Z h54 (zu Z (bTT h61) Z) (za (zo Z (bFF h55) Z) ⟨decide (r62≤102),H,⟨Z,Z,Z,Z,Z,U⟩,U⟩))))))
          ·exact u2 h60 H fun h64 H=>zc Z Z h60 (zc Z Z h60 (zc Z Z h60 (zc Z Z h60 (zc Z Z h60 (zd Z Z h54 (zo Z (bFF h64) Z) (za (zo Z (bFF h55) Z) ⟨false,H,⟨Z,Z,Z,Z,Z,U⟩,U⟩))))))
         ·exact u2 h56 H fun h65 H=>zc Z Z h56 (zc Z Z h56 (zc Z Z h56 (zc Z Z h56 (zc Z Z h56 (zd Z Z h54 (zo Z (bFF h65) Z) (zd Z Z h54 (ze (.dat _) Z) (zc Z Z Z (zc Z Z Z (zc Z Z Z (zc Z Z Z (zc Z Z Z (zd Z Z h54 (zo Z Z Z) (za (zo Z (bFF h55) Z) ⟨false,H,⟨Z,Z,Z,Z,Z,U⟩,U⟩)))))))))))))
        ·exact u4 h54 H fun h66 H=>zc Z Z h54 (zc Z Z h54 (zt Z Z (zt Z Z (zt Z Z (zt Z Z (zt Z Z (zc Z Z h54 (zc Z Z h54 (zt Z Z (zt Z Z (zt Z Z (zt Z Z (zt Z Z (zc Z Z h54 (za (zu Z (bTT h66) Z) ⟨true,H,⟨Z,Z,Z,Z,Z,U⟩,U⟩)))))))))))))))
       ·refine u2 h52 H fun h67 H=>zc Z Z h52 (zc Z Z h52 (zc Z Z h52 (zc Z Z h52 (za (zo Z (bFF h67) Z) (qd Z (zd Z Z Z (ze (.dat _) Z) (zd Z Z Z (ze (.dat _) Z) (zz (j:=12) Z Z (fun h68 => ?_) (fun h68 => ?_) Z))))))))
        ·refine u1 h68 H fun h69 H=>zd Z Z h68 (ze (.dat _) Z) (zd Z Z h68 (ze (.dat _) Z) (zd Z Z h68 (wc tyU9 Z Z h51) (bE H fun r70 h71 H=>zd Z Z h68 (zn (vj (x50.toNat:Int) r70 h71) ⟨.inl Z,U⟩) (zd Z Z h68 (qr Z Z) (zd Z Z Z (zu Z (bTT h69) Z) (zd Z Z Z (ze (.dat _) Z) (zz (j:=19) Z Z (fun h72 => ?_) (fun h72 => ?_) Z)))))))
         ·exact u1 h72 H fun h73 H=>zd Z Z h72 (ze (.dat _) Z) (zd Z Z h72 (ze (.dat _) Z) (zd Z Z h72 (wc tyU9 Z Z h51) (bE H fun r74 h75 H=>zd Z Z h72 (zn (vj (x50.toNat:Int) r74 h75) ⟨.inl Z,U⟩) (zd Z Z h72 (qr Z Z) (zd Z Z Z (zu Z (bTT h73) Z) (za (zo Z Z Z) ⟨decide (r74≤102),H,⟨Z,Z,Z,Z,Z,U⟩,U⟩))))))
         ·exact u2 h72 H fun h76 H=>zc Z Z h72 (zc Z Z h72 (zc Z Z h72 (zc Z Z h72 (zc Z Z h72 (zd Z Z Z (zo Z (bFF h76) Z) (za (zo Z Z Z) ⟨false,H,⟨Z,Z,Z,Z,Z,U⟩,U⟩))))))
        ·exact u2 h68 H fun h77 H=>zc Z Z h68 (zc Z Z h68 (zc Z Z h68 (zc Z Z h68 (zc Z Z h68 (zd Z Z Z (zo Z (bFF h77) Z) (zd Z Z Z (ze (.dat _) Z) (zc Z Z Z (zc Z Z Z (zc Z Z Z (zc Z Z Z (zc Z Z Z (zd Z Z Z (zo Z Z Z) (za (zo Z Z Z) ⟨false,H,⟨Z,Z,Z,Z,Z,U⟩,U⟩)))))))))))))
      ·rintro v78 H
       replace H:kc v14 v46 v47 v78=some q48:=H
       unfold kc at H
       refine zg _ Z (fun h79 => ?_) (fun h79 => ?_)
       ·exact tE h79 H fun H=>zb hN Z (qe Z (yu ⟨48,H,⟨Z,Z,Z,Z,U⟩,U⟩))
       ·refine fE h79 H fun H=>zl (zh (zb hN Z (qd Z (qd Z (bE H fun x80 h81 H=>za (wc tyU9 Z Z h81) (za (yl Z Z) (zg _ Z (fun h82 => ?_) (fun h82 => ?_))))))))
        ·refine tE h82 H fun H=>zh (zb hN Z (qd Z (za (vq Z Z) (zg _ Z (fun h83 => ?_) (fun h83 => ?_)))))
         ·refine tE h83 H fun H=>zb hN Z (qe Z (zi ?_))
          replace H:=retl H hq48
          cases H
          exact ⟨U,.inl Z,U⟩
         ·exact fE h83 H fun H=>zl (zb hN Z (qe Z (yu ⟨95,H,⟨Z,Z,Z,Z,U⟩,U⟩)))
        ·refine fE h82 H fun H=>zl (zh (zb hN Z (qd Z (za (yl Z Z) (zg _ Z (fun h84 => ?_) (fun h84 => ?_))))))
         ·refine tE h84 H fun H=>zb hN Z (qe Z (zi ?_))
          replace H:=retl H hq48
          cases H
          exact ⟨U,.inl Z,U⟩
         ·exact fE h84 H fun H=>zl (zm hN Z (qe Z ⟨33,H,⟨Z,Z,Z,Z,U⟩,U⟩))
     ·rintro v85 H
      replace H:Qp v47 v85=some q48:=H
      unfold Qp at H
      exact zm hN Z (qd Z (za (yo _ Z Z (.inl ⟨Z,Z⟩)) (qe Z ⟨_,qb H,⟨Z,Z,Z,Z,U⟩,U⟩)))
    ·refine fE h49 H fun H=>yu ?_
     replace H:=outl H hq48
     exact ⟨v46,H,⟨Z,U⟩,U⟩
   ·rintro v86 H
    replace H:z3d v86=some r:=H
    unfold z3d at H
    refine zb hN Z (qd Z (za (vq Z Z) (qe Z (zi ?_))))
    cases H
    exact ⟨U,.inl Z,U⟩
theorem z8z (v1:Bs) (v2:Int) (v3:Int) (r:(Int×Int)) (H:z2w v1 v2 v3=some r):Fn Tryz.prog 126 [vstr v1,vint v2,vint v3] (zr [vval (.int .u64 r.1),verr r.2]):=by
 refine ⟨by kernel_rfl,yh (us:=[vval (.int .u64 r.1),verr r.2]) Tryz.func126 Z Z Z Z fun X hN => ?_⟩
 unfold z2w at H
 refine zb hN Z (qe Z (qe Z (zh (zb hN Z (qd Z (za (ql Z Z) (zg _ Z (fun h4 => ?_) (fun h4 => ?_))))))))
 ·refine tE h4 H fun H=>zb hN Z (za (ym (u':=verr 2) (vh (show Tryz.prog.underlying 155=some (.int .i64) from by kernel_rfl) Z) Z) ?_)
  refine qe Z (qe Z (zi ?_))
  cases H
  exact ⟨U,.inl Z,.inl Z,U⟩
 ·refine fE h4 H fun H=>zl (zb hN Z (qd Z (za (yl Z Z) (qe Z (zb hN Z (qd Z (qe Z (zw (ι:=Bs×Int) (fun i=>[(0,.dat (vstr i.1)),(1,.dat (vint i.2)),(2,.dat (vint v3)),(8,.dat (zf (decide (v2=0)))),(9,.dat (vstr v1))]) (fun i=>[]) (fun i=>kq v1 v2 v3 i.1 i.2=some r) (fun i=>Z) ?_ ?_))))))))
  ·skip
   refine ye (zb hN Z (qd Z (za (qr Z Z) (qd Z (yp Z Z (fun hc=>ze (.dat _) Z) (yp Z Z (fun hc=>qr (cnd (c:=(decide (2≤v2))) hc) Z) (za (qp Z (fun hb=>(cnd (c:=(decide (2≤v2))) hb)) Z) (qe Z (zg _ Z (fun h5 => ?_) (fun h5 => ?_))))))))))
   ·exact tE h5 H fun H=>zl ⟨(v1,v2),H,⟨Z,Z,Z,Z,Z,U⟩,U⟩
   ·refine fE h5 H fun H=>zb hN Z (qd Z (za (yl Z Z) (qe Z (zg _ Z (fun h6 => ?_) (fun h6 => ?_)))))
    ·refine tE h6 H fun H=>zb hN Z (qe Z (zb hN Z (qd Z (bE H fun x7 h8 H=>za (yv tyU9 Z Z h8) (za (yl Z Z) (zg _ Z (fun h9 => ?_) (fun h9 => ?_)))))))
     ·refine tE h9 H fun H=>ye (zw (ι:=Bool) (fun i=>[(0,.dat (vstr v1)),(2,.dat (vint v3)),(8,.dat (zf (decide (v2=0)))),(9,.dat (vstr v1)),(40,.dat (zf i))]) (fun i=>[]) (fun i=>z1d v1 v2 v3 i=some r) (fun i=>Z) ?_ ?_)
      ·skip
       refine zm hN Z (qd Z (za (yq tyU9 Z) (za (wt Z Z) (qd Z (zz (j:=3) Z Z (fun h10 => ?_) (fun h10 => ?_) Z)))))
       ·exact u1 h10 H fun h11 H=>zd Z Z h10 (ze (.dat _) Z) (bE H fun x12 h13 H=>zd Z Z h10 (yv tyU9 Z Z h13) (bE H fun r14 h15 H=>zd Z Z h10 (zn (vj (x12.toNat:Int) r14 h15) ⟨.inl Z,U⟩) (zd Z Z h10 (yl Z Z) (za (zu Z (bTT h11) Z) (qe Z ⟨decide (r14=98),H,⟨Z,Z,Z,Z,Z,U⟩,U⟩)))))
       ·exact u2 h10 H fun h16 H=>zc Z Z h10 (zc Z Z h10 (zc Z Z h10 (zc Z Z h10 (za (zo Z (bFF h16) Z) (qe Z ⟨false,H,⟨Z,Z,Z,Z,Z,U⟩,U⟩)))))
      ·rintro v17 H
       replace H:z1d v1 v2 v3 v17=some r:=H
       unfold z1d at H
       refine zg _ Z (fun h18 => ?_) (fun h18 => ?_)
       ·exact tE h18 H fun H=>zb hN Z (qe Z (zm hN Z (qd Z (bE H fun l19 h20 H=>za (qc tyU9 Z Z Z h20) (qe Z ⟨(l19,2),H,⟨Z,Z,Z,Z,Z,U⟩,U⟩)))))
       ·refine fE h18 H fun H=>zw (ι:=Bool) (fun i=>[(0,.dat (vstr v1)),(2,.dat (vint v3)),(8,.dat (zf (decide (v2=0)))),(9,.dat (vstr v1)),(52,.dat (zf i))]) (fun i=>[]) (fun i=>z1c v1 v2 v3 i=some r) (fun i=>Z) ?_ ?_
        ·skip
         refine zm hN Z (qd Z (za (yq tyU9 Z) (za (wt Z Z) (qd Z (zz (j:=3) Z Z (fun h21 => ?_) (fun h21 => ?_) Z)))))
         ·exact u1 h21 H fun h22 H=>zd Z Z h21 (ze (.dat _) Z) (bE H fun x23 h24 H=>zd Z Z h21 (yv tyU9 Z Z h24) (bE H fun r25 h26 H=>zd Z Z h21 (zn (vj (x23.toNat:Int) r25 h26) ⟨.inl Z,U⟩) (zd Z Z h21 (yl Z Z) (za (zu Z (bTT h22) Z) (qe Z ⟨decide (r25=111),H,⟨Z,Z,Z,Z,Z,U⟩,U⟩)))))
         ·exact u2 h21 H fun h27 H=>zc Z Z h21 (zc Z Z h21 (zc Z Z h21 (zc Z Z h21 (za (zo Z (bFF h27) Z) (qe Z ⟨false,H,⟨Z,Z,Z,Z,Z,U⟩,U⟩)))))
        ·rintro v28 H
         replace H:z1c v1 v2 v3 v28=some r:=H
         unfold z1c at H
         refine zg _ Z (fun h29 => ?_) (fun h29 => ?_)
         ·exact tE h29 H fun H=>zb hN Z (qe Z (zm hN Z (qd Z (bE H fun l30 h31 H=>za (qc tyU9 Z Z Z h31) (qe Z ⟨(l30,8),H,⟨Z,Z,Z,Z,Z,U⟩,U⟩)))))
         ·refine fE h29 H fun H=>zw (ι:=Bool) (fun i=>[(0,.dat (vstr v1)),(2,.dat (vint v3)),(8,.dat (zf (decide (v2=0)))),(9,.dat (vstr v1)),(64,.dat (zf i))]) (fun i=>[]) (fun i=>z1b v1 v2 v3 i=some r) (fun i=>Z) ?_ ?_
          ·skip
           refine zm hN Z (qd Z (za (yq tyU9 Z) (za (wt Z Z) (qd Z (zz (j:=3) Z Z (fun h32 => ?_) (fun h32 => ?_) Z)))))
           ·exact u1 h32 H fun h33 H=>zd Z Z h32 (ze (.dat _) Z) (bE H fun x34 h35 H=>zd Z Z h32 (yv tyU9 Z Z h35) (bE H fun r36 h37 H=>zd Z Z h32 (zn (vj (x34.toNat:Int) r36 h37) ⟨.inl Z,U⟩) (zd Z Z h32 (yl Z Z) (za (zu Z (bTT h33) Z) (qe Z ⟨decide (r36=120),H,⟨Z,Z,Z,Z,Z,U⟩,U⟩)))))
           ·exact u2 h32 H fun h38 H=>zc Z Z h32 (zc Z Z h32 (zc Z Z h32 (zc Z Z h32 (za (zo Z (bFF h38) Z) (qe Z ⟨false,H,⟨Z,Z,Z,Z,Z,U⟩,U⟩)))))
          ·rintro v39 H
           replace H:z1b v1 v2 v3 v39=some r:=H
           unfold z1b at H
           refine zg _ Z (fun h40 => ?_) (fun h40 => ?_)
           ·exact tE h40 H fun H=>zb hN Z (qe Z (zm hN Z (qd Z (bE H fun l41 h42 H=>za (qc tyU9 Z Z Z h42) (qe Z ⟨(l41,16),H,⟨Z,Z,Z,Z,Z,U⟩,U⟩)))))
           ·exact fE h40 H fun H=>zb hN Z (qe Z (zm hN Z (qd Z (bE H fun l43 h44 H=>za (qc tyU9 Z Z Z h44) (qe Z ⟨(l43,8),H,⟨Z,Z,Z,Z,Z,U⟩,U⟩)))))
     ·exact fE h9 H fun H=>zl ⟨(v1,10),H,⟨Z,Z,Z,Z,Z,U⟩,U⟩
    ·refine fE h6 H fun H=>zb hN Z (za (ym (u':=verr 3) (vh (show Tryz.prog.underlying 155=some (.int .i64) from by kernel_rfl) Z) Z) ?_)
     refine qe Z (qe Z (zi ?_))
     cases H
     exact ⟨U,.inl Z,.inl Z,U⟩
  ·rintro ⟨v45,v46⟩ H
   replace H:kq v1 v2 v3 v45 v46=some r:=H
   unfold kq at H
   refine zw (ι:=Int) (fun i=>[(0,.dat (vstr v45)),(1,.dat (vint v46)),(2,.dat (vint i)),(8,.dat (zf (decide (v2=0)))),(9,.dat (vstr v1))]) (fun i=>[]) (fun i=>z1a v1 v2 v45 v46 i=some r) (fun i=>Z) ?_ ?_
   ·skip
    refine zb hN Z (qd Z (za (yl Z Z) (zg _ Z (fun h47 => ?_) (fun h47 => ?_))))
    ·exact tE h47 H fun H=>zm hN Z (qe Z ⟨64,H,⟨Z,Z,Z,Z,Z,U⟩,U⟩)
    ·refine fE h47 H fun H=>zb hN Z (qd Z (za (yf Z Z) (qd Z (yr Z Z (fun hc=>ze (.dat _) Z) (yr Z Z (fun hc=>qs (cnd (c:=(!(decide (v3 < 0)))) hc) Z) (za (vc Z Z (fun hb=>(cnd (c:=(!(decide (v3 < 0)))) (notI hb)))) (zg _ Z (fun h48 => ?_) (fun h48 => ?_))))))))
     ·refine tE h48 H fun H=>zb hN Z (za (ym (u':=verr 4) (vh (show Tryz.prog.underlying 155=some (.int .i64) from by kernel_rfl) Z) Z) ?_)
      refine qe Z (qe Z (zi ?_))
      cases H
      exact ⟨U,.inl Z,.inl Z,U⟩
     ·exact fE h48 H fun H=>zl ⟨v3,H,⟨Z,Z,Z,Z,Z,U⟩,U⟩
   ·rintro v49 H
    replace H:z1a v1 v2 v45 v46 v49=some r:=H
    unfold z1a at H
    refine zb hN Z (qe Z (zw (ι:=Int) (fun i=>[(0,.dat (vstr v45)),(1,.dat (vint v46)),(2,.dat (vint v49)),(8,.dat (zf (decide (v2=0)))),(9,.dat (vstr v1)),(10,.dat (vval (.int .u64 i)))]) (fun i=>[]) (fun i=>Qr v1 v2 v45 v46 v49 i=some r) (fun i=>Z) ?_ ?_))
    ·skip
     refine zb hN Z (qd Z (ye (zb hN Z (za (yl Z Z) (qe Z (zg _ Z (fun h50 => ?_) (fun h50 => ?_)))))))
     ·exact tE h50 H fun H=>zm hN Z (qe Z ⟨1844674407370955162,H,⟨Z,Z,Z,Z,Z,Z,U⟩,U⟩)
     ·refine fE h50 H fun H=>zb hN Z (za (yl Z Z) (qe Z (zg _ Z (fun h51 => ?_) (fun h51 => ?_))))
      ·exact tE h51 H fun H=>zm hN Z (qe Z ⟨1152921504606846976,H,⟨Z,Z,Z,Z,Z,Z,U⟩,U⟩)
      ·exact fE h51 H fun H=>zm hN Z (qd Z (za (vt tyU3 uu Z) (gE H fun h52 H=>za (y1d Z Z h52) (za (yo _ Z Z (.inl ⟨Z,Z⟩)) (qe Z ⟨IntKind.wrap .u64 ((IntKind.wrap .u64 (Int.tdiv 18446744073709551615 (IntKind.wrap .u64 v46)))+1),H,⟨Z,Z,Z,Z,Z,Z,U⟩,U⟩)))))
    ·rintro v53 H
     replace H:Qr v1 v2 v45 v46 v49 v53=some r:=H
     unfold Qr at H
     refine zb hN Z (qd Z (za (vt tyU3 z6y Z) (gE H fun h54 H=>za (ym (z68 Z Z h54) Z) (za (yo _ Z Z (.inr (.inl ⟨Z,Z⟩))) (qe Z (zb hN Z (qe Z (zb hN Z (qe Z (zh (zb hN Z (qd Z (za (z7e (C:=yw) tyU9 ur tyU5 (fun _=>Z) Z) (za (qo ur Z) (qd Z (ye (gE H fun h59 H=>ve (fun (k57:Nat) (s:Bool×Int)=>[(1,.dat (vint v46)),(8,.dat (zf (decide (v2=0)))),(9,.dat (vstr v1)),(10,.dat (vval (.int .u64 v53))),(11,.dat (vval (.int .u64 (IntKind.wrap .u64 ((shl_ .u64 1 (IntKind.wrap .u64 v49)) - 1))))),(12,.dat (zf s.1)),(13,.dat (vval (.int .u64 s.2))),(99,.dat (vlst (List.map yw (yi v45)))),(100,.dat (vint ((yi v45).length:Int))),(101,.dat (vint (k57:Int)))]) (fun (k57:Nat) (s:Bool×Int)=>[]) (false,0) H ⟨Z,Z,Z,Z,Z,Z,Z,Z,Z,Z,U⟩ U (fun _ _=>Z) ?_ ?_)))))))))))))))))
     ·rintro ⟨v55,v56⟩ H
      replace H:z5u v1 v55 v56=some r:=H
      unfold z5u at H
      refine zb hN Z (za (yf Z Z) (zh (zg _ Z (fun h=>(lt_t h).elim) (fun h => ?_))))
      refine yu (zh (zw (ι:=Bool) (fun i=>[(13,.dat (vval (.int .u64 v56))),(169,.dat (zf i))]) (fun i=>[]) (fun i=>z09 v56 i=some r) (fun i=>Z) ?_ ?_))
      ·skip
       refine zm hN Z (qd Z (qd Z (zz (j:=1) Z Z (fun h61 => ?_) (fun h61 => ?_) Z)))
       ·exact u1 h61 H fun h62 H=>zd Z Z h61 (ze (.dat _) Z) (bE H fun r63 h64 H=>zd Z Z h61 (zn (y4p v1 r63 h64) ⟨.inl Z,U⟩) (zd Z Z h61 (yy Z) (za (zu Z (bTT h62) Z) ⟨!r63,H,⟨Z,Z,U⟩,U⟩)))
       ·exact u2 h61 H fun h65 H=>zc Z Z h61 (zc Z Z h61 (zc Z Z h61 (za (zo Z (bFF h65) Z) ⟨false,H,⟨Z,Z,U⟩,U⟩)))
      ·rintro v66 H
       replace H:z09 v56 v66=some r:=H
       unfold z09 at H
       refine zg _ Z (fun h67 => ?_) (fun h67 => ?_)
       ·refine tE h67 H fun H=>zb hN Z (za (ym (u':=verr 2) (vh (show Tryz.prog.underlying 155=some (.int .i64) from by kernel_rfl) Z) Z) ?_)
        refine qe Z (qe Z (zi ?_))
        cases H
        exact ⟨U,.inl Z,.inl Z,U⟩
       ·refine fE h67 H fun H=>zl (zb hN Z (qd Z (qe Z (qe Z (zi ?_)))))
        cases H
        exact ⟨U,.inl Z,.inl Z,U⟩
     ·rintro k57 x60 ⟨v55,v56⟩ q58 h68 h69 H hq58
      replace H:z5t v2 v46 v49 v53 k57 x60 v55 v56=some q58:=H
      unfold z5t at H
      refine zb hN Z (za (yf Z Z) (zh (zg _ Z (fun h => ?_) (fun h=>(lt_f h68 h).elim))))
      refine zl (zw (ι:=Bool×Int) (fun i=>[(1,.dat (vint v46)),(8,.dat (zf (decide (v2=0)))),(9,.dat (vstr v1)),(10,.dat (vval (.int .u64 v53))),(11,.dat (vval (.int .u64 (IntKind.wrap .u64 ((shl_ .u64 1 (IntKind.wrap .u64 v49)) - 1))))),(12,.dat (zf i.1)),(13,.dat (vval (.int .u64 i.2))),(99,.dat (vlst (List.map yw (yi v45)))),(100,.dat (vint ((yi v45).length:Int))),(101,.dat (vint (k57:Int)))]) (fun i=>[]) (fun i=>z08 i.1 i.2=some q58) (fun i=>Z) ?_ ?_)
      ·skip
       refine ye (zb hN Z (za (jv z62 (fun _=>Z) Z Z h69) (za (vr tyS5 Z (vx h69) Z) (qe Z (zb hN Z (qe Z (zw (ι:=Int) (fun i=>[(1,.dat (vint v46)),(8,.dat (zf (decide (v2=0)))),(9,.dat (vstr v1)),(10,.dat (vval (.int .u64 v53))),(11,.dat (vval (.int .u64 (IntKind.wrap .u64 ((shl_ .u64 1 (IntKind.wrap .u64 v49)) - 1))))),(12,.dat (zf v55)),(13,.dat (vval (.int .u64 v56))),(16,.dat (vval (.int .u8 i))),(99,.dat (vlst (List.map yw (yi v45)))),(100,.dat (vint ((yi v45).length:Int))),(101,.dat (vint (k57:Int)))]) (fun i=>[]) (fun i=>z1f v46 v49 v53 v55 v56 i=some q58) (fun i=>Z) ?_ ?_)))))))
       ·skip
        refine ye (zb hN Z (qd Z (za (yl Z Z) (qd Z (yp Z Z (fun hc=>ze (.dat _) Z) (za (qp Z (fun hb=>(cnd (c:=(decide (x60=95))) hb)) Z) (qe Z (zg _ Z (fun h70 => ?_) (fun h70 => ?_)))))))))
        ·exact tE h70 H fun H=>zb hN Z (qe Z (yu ⟨(true,v56),H,⟨Z,Z,Z,Z,Z,Z,Z,Z,Z,Z,U⟩,U⟩))
        ·refine fE h70 H fun H=>zb hN Z (qd Z (za (qr Z Z) (qd Z (yp Z Z (fun hc=>ze (.dat _) Z) (yp Z Z (fun hc=>qr (cnd (c:=(decide (48≤x60))) hc) Z) (za (qp Z (fun hb=>(cnd (c:=(decide (48≤x60))) hb)) Z) (qe Z (zg _ Z (fun h71 => ?_) (fun h71 => ?_)))))))))
         ·exact tE h71 H fun H=>zm hN Z (qd Z (za (yo _ Z Z (.inr (.inl ⟨Z,Z⟩))) (qe Z ⟨IntKind.wrap .u8 (x60 - 48),H,⟨Z,Z,Z,Z,Z,Z,Z,Z,Z,Z,Z,U⟩,U⟩)))
         ·refine fE h71 H fun H=>zw (ι:=Bool) (fun i=>[(1,.dat (vint v46)),(8,.dat (zf (decide (v2=0)))),(9,.dat (vstr v1)),(10,.dat (vval (.int .u64 v53))),(11,.dat (vval (.int .u64 (IntKind.wrap .u64 ((shl_ .u64 1 (IntKind.wrap .u64 v49)) - 1))))),(12,.dat (zf v55)),(13,.dat (vval (.int .u64 v56))),(15,.dat (vval (.int .u8 x60))),(99,.dat (vlst (List.map yw (yi v45)))),(100,.dat (vint ((yi v45).length:Int))),(101,.dat (vint (k57:Int))),(121,.dat (zf i))]) (fun i=>[]) (fun i=>z1e v46 v49 v53 v55 v56 x60 i=some q58) (fun i=>Z) ?_ ?_
          ·skip
           refine zm hN Z (qd Z (bE H fun r72 h73 H=>za (zn (vj x60 r72 h73) ⟨.inl Z,U⟩) (za (qr Z Z) (qd Z (zz (j:=3) Z Z (fun h74 => ?_) (fun h74 => ?_) Z)))))
           ·exact u1 h74 H fun h75 H=>zd Z Z h74 (ze (.dat _) Z) (bE H fun r76 h77 H=>zd Z Z h74 (zn (vj x60 r76 h77) ⟨.inl Z,U⟩) (zd Z Z h74 (qr Z Z) (za (zu Z (bTT h75) Z) (qe Z ⟨decide (r76≤122),H,⟨Z,Z,Z,Z,Z,Z,Z,Z,Z,Z,Z,Z,U⟩,U⟩))))
           ·exact u2 h74 H fun h78 H=>zc Z Z h74 (zc Z Z h74 (zc Z Z h74 (za (zo Z (bFF h78) Z) (qe Z ⟨false,H,⟨Z,Z,Z,Z,Z,Z,Z,Z,Z,Z,Z,Z,U⟩,U⟩))))
          ·rintro v79 H
           replace H:z1e v46 v49 v53 v55 v56 x60 v79=some q58:=H
           unfold z1e at H
           refine zg _ Z (fun h80 => ?_) (fun h80 => ?_)
           ·exact tE h80 H fun H=>zm hN Z (qd Z (bE H fun r81 h82 H=>za (zn (vj x60 r81 h82) ⟨.inl Z,U⟩) (za (yo _ Z Z (.inr (.inl ⟨Z,Z⟩))) (za (yo _ Z Z (.inl ⟨Z,Z⟩)) (qe Z ⟨IntKind.wrap .u8 ((IntKind.wrap .u8 (r81 - 97))+10),H,⟨Z,Z,Z,Z,Z,Z,Z,Z,Z,Z,Z,U⟩,U⟩)))))
           ·refine fE h80 H fun H=>zb hN Z (za (ym (u':=verr 2) (vh (show Tryz.prog.underlying 155=some (.int .i64) from by kernel_rfl) Z) Z) ?_)
            refine qe Z (qe Z (zi ?_))
            replace H:=retl H hq58
            cases H
            exact ⟨U,.inl Z,.inl Z,U⟩
       ·rintro v83 H
        replace H:z1f v46 v49 v53 v55 v56 v83=some q58:=H
        unfold z1f at H
        refine zh (zb hN Z (qd Z (qd Z (za (vt tyU3 tyU5 Z) (za (wt Z Z) (zg _ Z (fun h84 => ?_) (fun h84 => ?_)))))))
        ·refine tE h84 H fun H=>zb hN Z (za (ym (u':=verr 2) (vh (show Tryz.prog.underlying 155=some (.int .i64) from by kernel_rfl) Z) Z) ?_)
         refine qe Z (qe Z (zi ?_))
         replace H:=retl H hq58
         cases H
         exact ⟨U,.inl Z,.inl Z,U⟩
        ·refine fE h84 H fun H=>zl (zh (zb hN Z (qd Z (qd Z (za (wt Z Z) (zg _ Z (fun h85 => ?_) (fun h85 => ?_)))))))
         ·refine tE h85 H fun H=>zb hN Z (qd Z (za (ym (u':=verr 1) (vh (show Tryz.prog.underlying 155=some (.int .i64) from by kernel_rfl) Z) Z) ?_))
          refine qe Z (qe Z (zi ?_))
          replace H:=retl H hq58
          cases H
          exact ⟨U,.inl Z,.inl Z,U⟩
         ·refine fE h85 H fun H=>zl (zb hN Z (qd Z (qd Z (za (vt tyU3 uu Z) (za (yo _ Z Z (.inr (.inr ⟨Z,Z⟩))) (qe Z (zb hN Z (qd Z (qd Z (za (vt tyU5 uu Z) (za (yo _ Z Z (.inl ⟨Z,Z⟩)) (qe Z (zh (zb hN Z (qd Z (qd Z (za (yf Z Z) (qd Z (yr Z Z (fun hc=>ze (.dat _) Z) (yr Z Z (fun hc=>ze (.dat _) Z) (yr Z Z (fun hc=>qs (cnd (c:=(!(decide ((IntKind.wrap .u64 ((IntKind.wrap .u64 (v56 * (IntKind.wrap .u64 v46)))+(IntKind.wrap .u64 v83))) < (IntKind.wrap .u64 (v56 * (IntKind.wrap .u64 v46))))))) hc) (cnd (c:=(!(decide ((IntKind.wrap .u64 ((IntKind.wrap .u64 (v56 * (IntKind.wrap .u64 v46)))+(IntKind.wrap .u64 v83))) < (IntKind.wrap .u64 (v56 * (IntKind.wrap .u64 v46))))))) hc)) (za (vc Z Z (fun hb=>(cnd (c:=(!(decide ((IntKind.wrap .u64 ((IntKind.wrap .u64 (v56 * (IntKind.wrap .u64 v46)))+(IntKind.wrap .u64 v83))) < (IntKind.wrap .u64 (v56 * (IntKind.wrap .u64 v46))))))) (notI hb)))) ?_))))))))))))))))))))))
          refine zg _ Z (fun h86 => ?_) (fun h86 => ?_)
          ·refine tE h86 H fun H=>zb hN Z (qd Z (za (ym (u':=verr 1) (vh (show Tryz.prog.underlying 155=some (.int .i64) from by kernel_rfl) Z) Z) ?_))
           refine qe Z (qe Z (zi ?_))
           replace H:=retl H hq58
           cases H
           exact ⟨U,.inl Z,.inl Z,U⟩
          ·exact fE h86 H fun H=>zl (zm hN Z (qd Z (qe Z ⟨(v55,IntKind.wrap .u64 ((IntKind.wrap .u64 (v56 * (IntKind.wrap .u64 v46)))+(IntKind.wrap .u64 v83))),H,⟨Z,Z,Z,Z,Z,Z,Z,Z,Z,Z,U⟩,U⟩)))
      ·rintro ⟨v87,v88⟩ H
       replace H:z08 v87 v88=some q58:=H
       unfold z08 at H
       exact zm hN Z (za (wk Z Z (by omega)) (qd Z ⟨_,qb H,⟨Z,Z,Z,Z,Z,Z,Z,Z,Z,Z,U⟩,U⟩))
theorem y4q (v1:Bs) (v2:Int) (v3:Int) (r:(Int×Int)) (H:z5d v1 v2 v3=some r):Fn Tryz.prog 142 [vstr v1,vint v2,vint v3] (zr [vint r.1,verr r.2]):=by
 refine ⟨by kernel_rfl,yh (us:=[vint r.1,verr r.2]) Tryz.func142 Z Z Z Z fun X hN => ?_⟩
 unfold z5d at H
 refine zb hN Z (qe Z (qe Z (zh (zb hN Z (qd Z (za (ql Z Z) (zg _ Z (fun h4 => ?_) (fun h4 => ?_))))))))
 ·refine tE h4 H fun H=>zb hN Z (za (ym (u':=verr 2) (vh (show Tryz.prog.underlying 155=some (.int .i64) from by kernel_rfl) Z) Z) ?_)
  refine qe Z (qe Z (zi ?_))
  cases H
  exact ⟨U,.inl Z,.inl Z,U⟩
 ·refine fE h4 H fun H=>zl (zb hN Z (qe Z (zw (ι:=Bs×Bool) (fun i=>[(0,.dat (vstr i.1)),(1,.dat (vint v2)),(2,.dat (vint v3)),(8,.dat (zf i.2))]) (fun i=>[]) (fun i=>Qs v2 v3 i.1 i.2=some r) (fun i=>Z) ?_ ?_)))
  ·skip
   refine zb hN Z (qd Z (bE H fun x5 h6 H=>za (yv tyU9 Z Z h6) (ye (zb hN Z (za (yl Z Z) (qe Z (zg _ Z (fun h7 => ?_) (fun h7 => ?_))))))))
   ·exact tE h7 H fun H=>zm hN Z (qd Z (bE H fun l8 h9 H=>za (qc tyU9 Z Z Z h9) (qe Z ⟨(l8,false),H,⟨Z,Z,Z,Z,U⟩,U⟩)))
   ·refine fE h7 H fun H=>zb hN Z (za (yl Z Z) (qe Z (zg _ Z (fun h10 => ?_) (fun h10 => ?_))))
    ·exact tE h10 H fun H=>zb hN Z (qd Z (bE H fun l11 h12 H=>za (qc tyU9 Z Z Z h12) (qe Z (zm hN Z (qe Z ⟨(l11,true),H,⟨Z,Z,Z,Z,U⟩,U⟩)))))
    ·exact fE h10 H fun H=>zl ⟨(v1,false),H,⟨Z,Z,Z,Z,U⟩,U⟩
  ·rintro ⟨v13,v14⟩ H
   replace H:Qs v2 v3 v13 v14=some r:=H
   unfold Qs at H
   refine zb hN Z (qe Z (zb hN Z (qd Z (qd Z (qd Z (bE H fun r15 h16 H=>za (zn (z8z v13 v2 v3 r15 h16) ⟨.inl Z,.inl Z,.inl Z,U⟩) (qd Z (za (yd Z Z) (za (yd Z Z) (qe Z (qe Z (zh (zw (ι:=Bool) (fun i=>[(2,.dat (vint v3)),(7,.dat (verr r15.2)),(8,.dat (zf v14)),(9,.dat (vval (.int .u64 r15.1))),(38,.dat (zf i))]) (fun i=>[]) (fun i=>z1i v3 v14 r15 i=some r) (fun i=>Z) ?_ ?_)))))))))))))
   ·skip
    refine zm hN Z (qd Z (za (z0c (n:=r15.2) (show Tryz.prog.underlying 76=some (.interface (Tryz.prog.methodsAt 76)) from by kernel_rfl) Z) ?_))
    refine qd Z (zz (j:=2) Z Z (fun h17 => ?_) (fun h17 => ?_) Z)
    ·refine u1 h17 H fun h18 H=>zd Z Z h17 (ze (.dat _) Z) (zd Z Z h17 (ym (u':=verr 1) (vh (show Tryz.prog.underlying 155=some (.int .i64) from by kernel_rfl) Z) Z) ?_)
     refine gE H fun h19 H=>zd Z Z h17 (y1n (n:=r15.2) (m:=1) (show Tryz.prog.underlying 76=some (.interface (Tryz.prog.methodsAt 76)) from by kernel_rfl) (by kernel_rfl) (by kernel_rfl) Z Z h19 (by decide)) ?_
     exact za (zu Z (bTT h18) Z) ⟨decide (r15.2≠1),H,⟨Z,Z,Z,Z,Z,U⟩,U⟩
    ·exact u2 h17 H fun h20 H=>zc Z Z h17 (zc Z Z h17 (zc Z Z h17 (za (zo Z (bFF h20) Z) ⟨false,H,⟨Z,Z,Z,Z,Z,U⟩,U⟩)))
   ·rintro v21 H
    replace H:z1i v3 v14 r15 v21=some r:=H
    unfold z1i at H
    refine zg _ Z (fun h22 => ?_) (fun h22 => ?_)
    ·refine tE h22 H fun H=>zb hN Z (qd Z (qe Z (qe Z (zi ?_))))
     cases H
     exact ⟨U,.inl Z,.inl Z,U⟩
    ·refine fE h22 H fun H=>zl (zw (ι:=Int) (fun i=>[(2,.dat (vint i)),(8,.dat (zf v14)),(9,.dat (vval (.int .u64 r15.1)))]) (fun i=>[]) (fun i=>z1h v14 r15 i=some r) (fun i=>Z) ?_ ?_)
     ·skip
      refine zb hN Z (qd Z (za (yl Z Z) (zg _ Z (fun h23 => ?_) (fun h23 => ?_))))
      ·exact tE h23 H fun H=>zm hN Z (qe Z ⟨64,H,⟨Z,Z,Z,U⟩,U⟩)
      ·exact fE h23 H fun H=>zl ⟨v3,H,⟨Z,Z,Z,U⟩,U⟩
     ·rintro v24 H
      replace H:z1h v14 r15 v24=some r:=H
      unfold z1h at H
      refine zb hN Z (qd Z (za (yo _ Z Z (.inr (.inl ⟨Z,Z⟩))) (za (vt tyU3 z6y Z) (gE H fun h25 H=>za (ym (z68 Z Z h25) Z) (qe Z (zh (zb hN Z (qd Z (za (yy Z) (qd Z (yp Z Z (fun hc=>ze (.dat _) Z) (yp Z Z (fun hc=>ze (.dat _) Z) (yp Z Z (fun hc=>wt (cnd (c:=(!v14)) hc) (cnd (c:=(!v14)) hc)) (za (qp Z (fun hb=>(cnd (c:=(!v14)) hb)) Z) (zg _ Z (fun h26 => ?_) (fun h26 => ?_))))))))))))))))
      ·refine tE h26 H fun H=>zb hN Z (qd Z (za (yo _ Z Z (.inr (.inl ⟨Z,Z⟩))) (za (vt uu tyU2 Z) (za (ym (u':=verr 1) (vh (show Tryz.prog.underlying 155=some (.int .i64) from by kernel_rfl) Z) Z) ?_))))
       refine qe Z (qe Z (zi ?_))
       cases H
       exact ⟨U,.inl Z,.inl Z,U⟩
      ·refine fE h26 H fun H=>zl (zh (zb hN Z (qd Z (qd Z (yp Z Z (fun hc=>ze (.dat _) Z) (yp Z Z (fun hc=>ze (.dat _) Z) (yp Z Z (fun hc=>qs (cnd (c:=v14) hc) (cnd (c:=v14) hc)) (za (qp Z (fun hb=>(cnd (c:=v14) hb)) Z) (zg _ Z (fun h27 => ?_) (fun h27 => ?_))))))))))
       ·refine tE h27 H fun H=>zb hN Z (qd Z (za (vt uu tyU2 Z) (za (z7a Z) (za (ym (u':=verr 1) (vh (show Tryz.prog.underlying 155=some (.int .i64) from by kernel_rfl) Z) Z) ?_))))
        refine qe Z (qe Z (zi ?_))
        cases H
        exact ⟨U,.inl Z,.inl Z,U⟩
       ·refine fE h27 H fun H=>zl (zb hN Z (qd Z (za (vt uu tyU2 Z) (qe Z (zw (ι:=Int) (fun i=>[(11,.dat (vint i))]) (fun i=>[]) (fun i=>z1g i=some r) (fun i=>Z) ?_ ?_)))))
        ·skip
         refine zb hN Z (qd Z (zg _ Z (fun h28 => ?_) (fun h28 => ?_)))
         ·exact tE h28 H fun H=>zm hN Z (qd Z (za (z7a Z) (qe Z ⟨(wr (-(IntKind.wrap .i64 r15.1))),H,⟨Z,U⟩,U⟩)))
         ·exact fE h28 H fun H=>zl ⟨IntKind.wrap .i64 r15.1,H,⟨Z,U⟩,U⟩
        ·rintro v29 H
         replace H:z1g v29=some r:=H
         unfold z1g at H
         refine zb hN Z (qd Z (qe Z (qe Z (zi ?_))))
         cases H
         exact ⟨U,.inl Z,.inl Z,U⟩
theorem y4r (v1:Bs) (r:(Int×Int)) (H:Za v1=some r):Fn Tryz.prog 131 [vstr v1] (zr [vint r.1,verr r.2]):=by
 refine ⟨by kernel_rfl,yh (us:=[vint r.1,verr r.2]) Tryz.func131 Z Z Z Z fun X hN => ?_⟩
 unfold Za at H
 refine zb hN Z (qe Z (qe Z (zb hN Z (qd Z (za (yq tyU9 Z) (qe Z (zh (zb hN Z (qd Z (yp (s := .dat (vint (v1.length:Int))) Z Z (fun hc=>ze (.dat _) Z) (yp (s := .dat (zf (decide (0 < (v1.length:Int))))) Z Z (fun hc=>yf Z (cnd (c:=false) (s := .dat (vint (v1.length:Int))) hc)) (yp (s := .dat (zf (decide (0 < (v1.length:Int))))) Z Z (fun hc=>ze (.dat _) (cnd (c:=false) (s := .dat (zf (decide (0 < (v1.length:Int))))) hc)) (wv (s := .dat (vint (v1.length:Int))) (c:=false) (b:=decide (0 < (v1.length:Int))) Z Z (fun hc=>ze (.dat _) Z) (wv (s := .dat (zf (decide ((v1.length:Int) < 10)))) (c:=false) (b:=decide (0 < (v1.length:Int))) Z Z (fun hc=>yf (cnd (c:=(false && (decide (0 < (v1.length:Int))))) (s := .dat (vint (v1.length:Int))) hc) Z) (yp (s := .dat (zf ((decide (0 < (v1.length:Int))) && (decide ((v1.length:Int) < 10))))) Z Z (fun hc=>qp (cnd (c:=false) (s := .dat (zf (decide (0 < (v1.length:Int))))) hc) (fun hb=>(cnd (c:=(false && (decide (0 < (v1.length:Int))))) (s := .dat (zf (decide ((v1.length:Int) < 10)))) (andI hc hb))) Z) (za (qp Z (fun hb=>(cnd (c:=false) (s := .dat (zf ((decide (0 < (v1.length:Int))) && (decide ((v1.length:Int) < 10))))) hb)) Z) (qd Z (yr (s := .dat (zf true)) Z Z (fun hc=>ze (.dat _) Z) (wv (s := .dat (vint (v1.length:Int))) (c:=(!(false && ((decide (0 < (v1.length:Int))) && (decide ((v1.length:Int) < 10)))))) (b:=true) Z Z (fun hc=>ze (.dat _) Z) (wv (s := .dat (zf (decide (0 < (v1.length:Int))))) (c:=(!(false && ((decide (0 < (v1.length:Int))) && (decide ((v1.length:Int) < 10)))))) (b:=true) Z Z (fun hc=>yf Z (cnd (c:=((!(false && ((decide (0 < (v1.length:Int))) && (decide ((v1.length:Int) < 10))))) && true)) (s := .dat (vint (v1.length:Int))) hc)) (wv (s := .dat (zf (decide (0 < (v1.length:Int))))) (c:=(!(false && ((decide (0 < (v1.length:Int))) && (decide ((v1.length:Int) < 10)))))) (b:=true) Z Z (fun hc=>ze (.dat _) (cnd (c:=((!(false && ((decide (0 < (v1.length:Int))) && (decide ((v1.length:Int) < 10))))) && true)) (s := .dat (zf (decide (0 < (v1.length:Int))))) hc)) (wv (s := .dat (vint (v1.length:Int))) (c:=((!(false && ((decide (0 < (v1.length:Int))) && (decide ((v1.length:Int) < 10))))) && true)) (b:=decide (0 < (v1.length:Int))) Z Z (fun hc=>ze (.dat _) Z) (wv (s := .dat (zf (decide ((v1.length:Int) < 19)))) (c:=((!(false && ((decide (0 < (v1.length:Int))) && (decide ((v1.length:Int) < 10))))) && true)) (b:=decide (0 < (v1.length:Int))) Z Z (fun hc=>yf (cnd (c:=(((!(false && ((decide (0 < (v1.length:Int))) && (decide ((v1.length:Int) < 10))))) && true) && (decide (0 < (v1.length:Int))))) (s := .dat (vint (v1.length:Int))) hc) Z) ?_)))))))))))))))))))))))
 refine wv (s := .dat (zf ((decide (0 < (v1.length:Int))) && (decide ((v1.length:Int) < 19))))) (c:=(!(false && ((decide (0 < (v1.length:Int))) && (decide ((v1.length:Int) < 10)))))) (b:=true) Z Z (fun hc=>qp (cnd (c:=((!(false && ((decide (0 < (v1.length:Int))) && (decide ((v1.length:Int) < 10))))) && true)) (s := .dat (zf (decide (0 < (v1.length:Int))))) hc) (fun hb=>(cnd (c:=(((!(false && ((decide (0 < (v1.length:Int))) && (decide ((v1.length:Int) < 10))))) && true) && (decide (0 < (v1.length:Int))))) (s := .dat (zf (decide ((v1.length:Int) < 19)))) (andI hc hb))) Z) (yr (s := .dat (zf (true && ((decide (0 < (v1.length:Int))) && (decide ((v1.length:Int) < 19)))))) Z Z (fun hc=>qp (cnd (c:=(!(false && ((decide (0 < (v1.length:Int))) && (decide ((v1.length:Int) < 10)))))) (s := .dat (zf true)) hc) (fun hb=>(cnd (c:=((!(false && ((decide (0 < (v1.length:Int))) && (decide ((v1.length:Int) < 10))))) && true)) (s := .dat (zf ((decide (0 < (v1.length:Int))) && (decide ((v1.length:Int) < 19))))) (andI hc hb))) Z) (za (vc Z Z (fun hb=>(cnd (c:=(!(false && ((decide (0 < (v1.length:Int))) && (decide ((v1.length:Int) < 10)))))) (s := .dat (zf (true && ((decide (0 < (v1.length:Int))) && (decide ((v1.length:Int) < 19)))))) (notI hb)))) (zg _ Z (fun h2 => ?_) (fun h2 => ?_))))
 ·refine tE h2 H fun H=>zb hN Z (qd Z (qe Z (zw (ι:=Bs) (fun i=>[(0,.dat (vstr i)),(5,.dat (vstr v1))]) (fun i=>[]) (fun i=>Zj v1 i=some r) (fun i=>Z) ?_ ?_)))
  ·skip
   refine zw (ι:=Bool) (fun i=>[(0,.dat (vstr v1)),(5,.dat (vstr v1)),(39,.dat (zf i))]) (fun i=>[]) (fun i=>Zi v1 i=some r) (fun i=>Z) ?_ ?_
   ·skip
    refine zm hN Z (qd Z (bE H fun x3 h4 H=>za (yv tyU9 Z Z h4) (za (yl Z Z) (qd Z (zz (j:=3) Z Z (fun h5 => ?_) (fun h5 => ?_) Z)))))
    ·exact u3 h5 H fun h6 H=>zd Z Z h5 (ze (.dat _) Z) (zd Z Z h5 (yv tyU9 Z Z h4) (zd Z Z h5 (yl Z Z) (za (zo Z (bFF h6) Z) ⟨decide ((x3.toNat:Int)=43),H,⟨Z,Z,Z,U⟩,U⟩)))
    ·exact u4 h5 H fun h7 H=>zc Z Z h5 (zc Z Z h5 (zc Z Z h5 (za (zu Z (bTT h7) Z) ⟨true,H,⟨Z,Z,Z,U⟩,U⟩)))
   ·rintro v8 H
    replace H:Zi v1 v8=some r:=H
    unfold Zi at H
    refine zg _ Z (fun h9 => ?_) (fun h9 => ?_)
    ·refine tE h9 H fun H=>zb hN Z (qd Z (bE H fun l10 h11 H=>za (qc tyU9 Z Z Z h11) (qe Z (zb hN Z (qd Z (za (yq tyU9 Z) (za (yf Z Z) (zg _ Z (fun h12 => ?_) (fun h12 => ?_)))))))))
     ·refine tE h12 H fun H=>zb hN Z (za (ym (u':=verr 2) (vh (show Tryz.prog.underlying 155=some (.int .i64) from by kernel_rfl) Z) Z) ?_)
      refine qe Z (qe Z (zi ?_))
      cases H
      exact ⟨U,.inl Z,.inl Z,U⟩
     ·exact fE h12 H fun H=>zl ⟨l10,H,⟨Z,Z,U⟩,U⟩
    ·exact fE h9 H fun H=>zl ⟨v1,H,⟨Z,Z,U⟩,U⟩
  ·rintro v13 H
   replace H:Zj v1 v13=some r:=H
   unfold Zj at H
   refine zb hN Z (qe Z (zh (zb hN Z (qd Z (za (z7e (C:=yw) tyU9 ur tyU5 (fun _=>Z) Z) (za (qo ur Z) (qd Z (ye (gE H fun h17 H=>ve (fun (k15:Nat) (s:Int)=>[(5,.dat (vstr v1)),(6,.dat (vint s)),(47,.dat (vlst (List.map yw (yi v13)))),(48,.dat (vint ((yi v13).length:Int))),(49,.dat (vint (k15:Int)))]) (fun (k15:Nat) (s:Int)=>[]) 0 H ⟨Z,Z,Z,Z,Z,U⟩ U (fun _ _=>Z) ?_ ?_)))))))))
   ·rintro v14 H
    replace H:Zk v1 v14=some r:=H
    unfold Zk at H
    refine zb hN Z (za (yf Z Z) (zh (zg _ Z (fun h=>(lt_t h).elim) (fun h => ?_))))
    refine yu (zw (ι:=Int) (fun i=>[(6,.dat (vint i))]) (fun i=>[]) (fun i=>Zh i=some r) (fun i=>Z) ?_ ?_)
    ·skip
     refine zb hN Z (qd Z (bE H fun x19 h20 H=>za (yv tyU9 Z Z h20) (za (yl Z Z) (zg _ Z (fun h21 => ?_) (fun h21 => ?_)))))
     ·exact tE h21 H fun H=>zm hN Z (qd Z (gE H fun h22 H=>za (y1g Z h22) (qe Z ⟨(-v14),H,⟨Z,U⟩,U⟩)))
     ·exact fE h21 H fun H=>zl ⟨v14,H,⟨Z,U⟩,U⟩
    ·rintro v23 H
     replace H:Zh v23=some r:=H
     unfold Zh at H
     refine zb hN Z (qd Z (qe Z (qe Z (zi ?_))))
     cases H
     exact ⟨U,.inl Z,.inl Z,U⟩
   ·rintro k15 x18 v14 q16 h24 h25 H hq16
    replace H:Qt k15 x18 v14=some q16:=H
    unfold Qt at H
    refine zb hN Z (za (yf Z Z) (zh (zg _ Z (fun h => ?_) (fun h=>(lt_f h24 h).elim))))
    refine zl (zh (ye (zb hN Z (za (jv z62 (fun _=>Z) Z Z h25) (za (vr tyS5 Z (vx h25) Z) (qe Z (zb hN Z (qd Z (za (yo _ Z Z (.inr (.inl ⟨Z,Z⟩))) (qe Z (zh (zb hN Z (qd Z (za (qs Z Z) (zg _ Z (fun h26 => ?_) (fun h26 => ?_))))))))))))))))
    ·refine tE h26 H fun H=>zb hN Z (za (ym (u':=verr 2) (vh (show Tryz.prog.underlying 155=some (.int .i64) from by kernel_rfl) Z) Z) ?_)
     refine qe Z (qe Z (zi ?_))
     replace H:=retl H hq16
     cases H
     exact ⟨U,.inl Z,.inl Z,U⟩
    ·exact fE h26 H fun H=>zl (zm hN Z (qd Z (za (yo _ Z Z (.inr (.inr ⟨Z,Z⟩))) (qd Z (za (vt tyU5 tyU3 Z) (za (yo _ Z Z (.inl ⟨Z,Z⟩)) (qe Z (zm hN Z (za (wk Z Z (by omega)) (qd Z ⟨_,qb H,⟨Z,Z,Z,Z,Z,U⟩,U⟩))))))))))
 ·refine fE h2 H fun H=>zl (zb hN Z (qd Z (bE H fun r27 h28 H=>za (zn (y4q v1 10 0 r27 h28) ⟨.inl Z,.inl Z,.inl Z,U⟩) (qd Z (za (yd Z Z) (za (yd Z Z) (qe Z (qe Z (zb hN Z (qd Z (qd Z (qe Z (qe Z (zi ?_))))))))))))))
  cases H
  exact ⟨U,.inl Z,.inl Z,U⟩
theorem z8r (fn s:Bs) (base bits e r:Int) (H:z43 fn s base bits e=some r):Fn Tryz.prog 127 [vstr fn,vstr s,vint base,vint bits,verr e] (zr [verr r]):=by
 obtain ⟨⟨h1,h2,h3⟩,h4⟩:=gif H
 cases h4
 refine kf (by kernel_rfl) fun M w vs hM h => ?_
 rcases h3 with rfl | rfl
 ·have hv:=vz (us:=[.string ⟨fn.toArray⟩,.string ⟨s.toArray⟩,.int .i64 base,.int .i64 bits,.iface 155 (.int .i64 2)]) h
  subst hv
  obtain ⟨tp,p,hc⟩:=y6q hM
  refine (Tryz.strconv_toError_syntax ⟨fn.toArray⟩ ⟨s.toArray⟩ base bits (.iface tp p) w (by simp [ByteArray.size]; omega) hc (.inr ⟨tp,p,Z⟩)).mono ?_
  rintro e w' ⟨N,rfl,_,_,hb⟩
  exact ⟨_,Z,⟨_,_,Z⟩,Kp.of_below hb⟩
 ·have hv:=vz (us:=[.string ⟨fn.toArray⟩,.string ⟨s.toArray⟩,.int .i64 base,.int .i64 bits,.iface 155 (.int .i64 1)]) h
  subst hv
  obtain ⟨tp,p,hc⟩:=y6r hM
  refine (Tryz.strconv_toError_range ⟨fn.toArray⟩ ⟨s.toArray⟩ base bits (.iface tp p) w (by simp [ByteArray.size]; omega) hc (.inr ⟨tp,p,Z⟩)).mono ?_
  rintro e w' ⟨N,rfl,_,_,hb⟩
  exact ⟨_,Z,⟨_,_,Z⟩,Kp.of_below hb⟩
theorem z5j (s1:Bs) (r:(Int×Int)) (H:je s1=some r):Fn Tryz.prog 116 [vstr s1] (zr [vint r.1,verr r.2]):=by
 refine ⟨by kernel_rfl,yh (us:=[vint r.1,verr r.2]) Tryz.func116 Z Z Z Z fun X hN => ?_⟩
 unfold je at H
 refine zb hN Z (qe Z (qe Z (zb hN Z (qd Z (bE H fun r2 h3 H=>za (zn (y4r s1 r2 h3) ⟨.inl Z,U⟩) (qd Z (za (yd Z Z) (za (yd Z Z) (qe Z (qe Z (zh (zb hN Z (qd Z (za (z0c (n:=r2.2) (show Tryz.prog.underlying 76=some (.interface (Tryz.prog.methodsAt 76)) from by kernel_rfl) Z) ?_))))))))))))))
 refine zg _ Z (fun h4 => ?_) (fun h4 => ?_)
 ·refine tE h4 H fun H=>zb hN Z (qd Z (qd Z (qd Z (bE H fun r5 h6 H=>za (zn (z8r [65,116,111,105] s1 0 0 r2.2 r5 h6) ⟨.inl Z,.inl Z,.inl Z,.inl Z,.inl Z,U⟩) (qe Z (qe Z (zi ?_)))))))
  cases H
  exact ⟨U,.inl Z,.inl Z,U⟩
 ·refine fE h4 H fun H=>zl (zb hN Z (qd Z (qe Z (qe Z (zi ?_)))))
  cases H
  exact ⟨U,.inl Z,.inl Z,U⟩
theorem y4o (s1:Bs) (most2:Int) (r:(Int×Bool)) (H:z0t s1 most2=some r):Fn Tryz.prog 130 [vstr s1,vint most2] (zr [vint r.1,zf r.2]):=by
 refine ⟨by kernel_rfl,yh (us:=[vint r.1,zf r.2]) Tryz.func130 Z Z Z Z fun X hN => ?_⟩
 unfold z0t at H
 refine zb hN Z (qe Z (qe Z (zb hN Z (qd Z (bE H fun r3 h4 H=>za (zn (y3v s1 [45] r3 h4) ⟨.inl Z,.inl Z,U⟩) (qe Z (zh (zw (ι:=Bool) (fun i=>[(0,.dat (vstr s1)),(6,.dat (vstr r3)),(28,.dat (zf i))]) (fun i=>[]) (fun i=>vi s1 r3 i=some r) (fun i=>Z) ?_ ?_))))))))
 ·skip
  refine zm hN Z (qd Z (za (ql Z Z) (qd Z (zz (j:=2) Z Z (fun h5 => ?_) (fun h5 => ?_) Z))))
  ·refine u3 h5 H fun h6 H=>zd Z Z h5 (ze (.dat _) Z) (zd Z Z h5 (yq tyU9 Z) (zd Z Z h5 (ze (.dat _) Z) (zd Z Z h5 (qs Z Z) (za (zo Z (bFF h6) Z) (qd Z (zz (j:=8) Z Z (fun h7 => ?_) (fun h7 => ?_) Z))))))
   ·refine u3 h7 H fun h8 H=>zd Z Z h7 (ze (.dat _) Z) (bE H fun x9 h10 H=>zd Z Z h7 (yv tyU9 Z Z h10) (zd Z Z h7 (yl Z Z) (zd Z Z h7 (ze (.dat _) Z) (zz (j:=12) Z Z (fun h11 => ?_) (fun h11 => ?_) Z))))
    ·exact u1 h11 H fun h12 H=>zd Z Z h11 (ze (.dat _) Z) (zd Z Z h11 (jw Z Z) (zd Z Z h7 (zu Z (bTT h12) Z) (za (zo Z (bFF h8) Z) ⟨decide (s1≠[48]),H,⟨Z,Z,Z,U⟩,U⟩)))
    ·exact u2 h11 H fun h13 H=>zc Z Z h11 (zc Z Z h11 (zd Z Z h7 (zo Z (bFF h13) Z) (za (zo Z (bFF h8) Z) ⟨false,H,⟨Z,Z,Z,U⟩,U⟩)))
   ·exact u4 h7 H fun h14 H=>zc Z Z h7 (zc Z Z h7 (zc Z Z h7 (zc Z Z h7 (zt Z Z (zt Z Z (zc Z Z h7 (za (zu Z (bTT h14) Z) ⟨true,H,⟨Z,Z,Z,U⟩,U⟩)))))))
  ·exact u4 h5 H fun h15 H=>zc Z Z h5 (zc Z Z h5 (zc Z Z h5 (zc Z Z h5 (za (zu Z (bTT h15) Z) (qd Z (zc Z Z Z (zc Z Z Z (zc Z Z Z (zc Z Z Z (zt Z Z (zt Z Z (zc Z Z Z (za (zu Z Z Z) ⟨true,H,⟨Z,Z,Z,U⟩,U⟩)))))))))))))
 ·rintro v16 H
  replace H:vi s1 r3 v16=some r:=H
  unfold vi at H
  refine zg _ Z (fun h17 => ?_) (fun h17 => ?_)
  ·refine tE h17 H fun H=>zb hN Z (qe Z (qe Z (zi ?_)))
   cases H
   exact ⟨U,.inl Z,.inl Z,U⟩
  ·refine fE h17 H fun H=>zl (zh (zb hN Z (qe Z (ye (gE H fun h20 H=>ve (fun (i18:Nat) (s:Unit)=>[(0,.dat (vstr s1)),(6,.dat (vstr r3)),(7,.dat (vint (i18:Int)))]) (fun (i18:Nat) (s:Unit)=>[]) () H ⟨Z,Z,Z,U⟩ U (fun _ _=>Z) ?_ ?_)))))
   ·rintro ⟨⟩ H
    replace H:Qk s1=some r:=H
    unfold Qk at H
    refine zh (zb hN Z (qd Z (qd Z (za (yq tyU9 Z) (za (yf Z Z) (zg _ Z (fun h=>(lt_t h).elim) (fun h => ?_)))))))
    refine yu (zb hN Z (qd Z (bE H fun r22 h23 H=>za (zn (z5j s1 r22 h23) ⟨.inl Z,U⟩) (qd Z (za (yd Z Z) (za (yd Z Z) (qe Z (qe Z (zh (wh mixed hN Z Z (qd Z (qd Z (za (z7d (n:=r22.2) (show Tryz.prog.underlying 76=some (.interface (Tryz.prog.methodsAt 76)) from by kernel_rfl) Z) ?_)))))))))))))
    refine qe Z (qe Z ⟨Z,?_⟩)
    refine zi ?_
    cases H
    exact ⟨U,.inl Z,.inl Z,U⟩
   ·rintro i18 x21 ⟨⟩ q19 h24 h25 H hq19
    replace H:z03 i18 x21=some q19:=H
    unfold z03 at H
    refine zh (zb hN Z (qd Z (qd Z (za (yq tyU9 Z) (za (yf Z Z) (zg _ Z (fun h => ?_) (fun h=>(lt_f h24 h).elim)))))))
    refine zl (zh (ye (zw (ι:=Bool) (fun i=>[(0,.dat (vstr s1)),(6,.dat (vstr r3)),(7,.dat (vint (i18:Int))),(44,.dat (zf i))]) (fun i=>[]) (fun i=>z04 i=some q19) (fun i=>Z) ?_ ?_)))
    ·skip
     refine zm hN Z (qd Z (qd Z (za (yv tyU9 Z Z h25) (za (yf Z Z) (qd Z (zz (j:=4) Z Z (fun h26 => ?_) (fun h26 => ?_) Z))))))
     ·exact u3 h26 H fun h27 H=>zd Z Z h26 (ze (.dat _) Z) (zd Z Z h26 (ze (.dat _) Z) (zd Z Z h26 (yv tyU9 Z Z h25) (zd Z Z h26 (qs Z Z) (za (zo Z (bFF h27) Z) ⟨decide (57 < (x21.toNat:Int)),H,⟨Z,Z,Z,Z,U⟩,U⟩))))
     ·exact u4 h26 H fun h28 H=>zc Z Z h26 (zc Z Z h26 (zc Z Z h26 (zc Z Z h26 (za (zu Z (bTT h28) Z) ⟨true,H,⟨Z,Z,Z,Z,U⟩,U⟩))))
    ·rintro v29 H
     replace H:z04 v29=some q19:=H
     unfold z04 at H
     refine zg _ Z (fun h30 => ?_) (fun h30 => ?_)
     ·refine tE h30 H fun H=>zb hN Z (qe Z (qe Z (zi ?_)))
      replace H:=retl H hq19
      cases H
      exact ⟨U,.inl Z,.inl Z,U⟩
     ·exact fE h30 H fun H=>zl (zm hN Z (qd Z (za (wk Z Z (by omega)) (qe Z ⟨_,qb H,⟨Z,Z,Z,U⟩,U⟩))))
theorem y4m (s1:Bs) (r:(Int×Bool)) (H:z2u s1=some r):Fn Tryz.prog 114 [vstr s1] (zr [vint r.1,zf r.2]):=by
 refine ⟨by kernel_rfl,yh (us:=[vint r.1,zf r.2]) Tryz.func114 Z Z Z Z fun X hN => ?_⟩
 unfold z2u at H
 refine zb hN Z (qe Z (qe Z (zb hN Z (qd Z (bE H fun r2 h3 H=>za (zn (y4o s1 9 r2 h3) ⟨.inl Z,.inl Z,U⟩) (za (yd Z Z) (za (yd Z Z) (qe Z (qe Z (zi ?_))))))))))
 cases H
 exact ⟨U,.inl Z,.inl Z,U⟩
theorem y4n (n1:Int) (low2:Int) (high3:Int) (r:(Bool)) (H:z2v n1 low2 high3=some r):Fn Tryz.prog 115 [vint n1,vint low2,vint high3] (zr [zf r]):=by
 refine ⟨by kernel_rfl,yh (us:=[zf r]) Tryz.func115 Z Z Z Z fun X hN => ?_⟩
 unfold z2v at H
 refine zb hN Z (qe Z (zb hN Z (qd Z (qd Z (za (yf Z Z) (qd Z (yr Z Z (fun hc=>ze (.dat _) Z) (yr Z Z (fun hc=>ze (.dat _) Z) (yr Z Z (fun hc=>qs (cnd (c:=(!(decide (n1 < low2)))) hc) (cnd (c:=(!(decide (n1 < low2)))) hc)) (za (vc Z Z (fun hb=>(cnd (c:=(!(decide (n1 < low2)))) (notI hb)))) (qe Z (zi ?_))))))))))))
 cases H
 exact ⟨U,.inl Z,U⟩
theorem y3u (s p:Bs) (r:Bs) (H:Yy s p=some r):Fn Tryz.prog 58 [vstr s,vstr p] (zr [vstr r]):=by
 unfold Yy at H
 obtain ⟨⟨⟨h1,h2⟩,h3⟩,h4⟩:=gif H
 cases h4
 refine kf (by kernel_rfl) fun M w vs hM h => ?_
 have hv:=vz (us:=[.string ⟨s.toArray⟩,.string ⟨p.toArray⟩]) h
 subst hv
 refine (Any.strings_Trim_laid Tryz.lays160 (by kernel_rfl) ⟨s.toArray⟩ ⟨p.toArray⟩ w (by simp [ByteArray.size]; omega) (by simp [ByteArray.size]; omega) (fun j b hb=>uo h3 j b (by simpa using hb))).mono ?_
 rintro e w' ⟨rfl,hb⟩
 exact ⟨_,Z,Z,Kp.of_below hb⟩

theorem y35 (s1:Bs) (r:(Int×Bool)) (H:xv s1=some r):Fn Tryz.prog 81 [vstr s1] (zr [vint r.1,zf r.2]):=by
 refine ⟨by kernel_rfl,yh (us:=[vint r.1,zf r.2]) Tryz.func81 Z Z Z Z fun X hN => ?_⟩
 unfold xv at H
 refine zb hN Z (qe Z (qe Z (zb hN Z (qd Z (bE H fun r2 h3 H=>za (zn (Ql s1 [46] r2 h3) ⟨.inl Z,.inl Z,U⟩) (qd Z (za (yd Z Z) (za (yd Z Z) (za (yd Z Z) (qe Z (qe Z (qe Z (zb hN Z (qd Z (bE H fun r4 h5 H=>za (zn (y4m r2.1 r4 h5) ⟨.inl Z,U⟩) (qd Z (za (yd Z Z) (za (yd Z Z) (qe Z (qe Z (zh ?_)))))))))))))))))))))
 refine zw (ι:=Bool) (fun i=>[(5,.dat (vstr r2.2.1)),(6,.dat (zf r2.2.2)),(7,.dat (vint r4.1)),(44,.dat (zf i))]) (fun i=>[]) (fun i=>jc r2 r4 i=some r) (fun i=>Z) ?_ ?_
 ·skip
  refine zm hN Z (qd Z (za (yy Z) (qd Z (zz (j:=2) Z Z (fun h6 => ?_) (fun h6 => ?_) Z))))
  ·refine u3 h6 H fun h7 H=>zd Z Z h6 (ze (.dat _) Z) (bE H fun r8 h9 H=>zd Z Z h6 (zn (y4n r4.1 0 1 r8 h9) ⟨.inl Z,.inl Z,.inl Z,U⟩) (za (zo Z (bFF h7) Z) (qd Z (zz (j:=6) Z Z (fun h10 => ?_) (fun h10 => ?_) Z))))
   ·refine u3 h10 H fun h11 H=>zd Z Z h10 (ze (.dat _) Z) (zd Z Z h10 (ze (.dat _) Z) (zz (j:=8) Z Z (fun h12 => ?_) (fun h12 => ?_) Z))
    ·refine u1 h12 H fun h13 H=>zd Z Z h12 (ze (.dat _) Z) (zd Z Z h12 (ql Z Z) (zd Z Z h12 (ze (.dat _) Z) (zz (j:=11) Z Z (fun h14 => ?_) (fun h14 => ?_) Z)))
     ·refine u3 h14 H fun h15 H=>zd Z Z h14 (ze (.dat _) Z) (zd Z Z h14 (yq tyU9 Z) (zd Z Z h14 (qs Z Z) (zd Z Z h12 (zo Z (bFF h15) Z) (zd Z Z h12 (ze (.dat _) Z) (zz (j:=16) Z Z (fun h16 => ?_) (fun h16 => ?_) Z)))))
      ·exact u3 h16 H fun h17 H=>zd Z Z h16 (ze (.dat _) Z) (bE H fun r18 h19 H=>zd Z Z h16 (zn (y3u r2.2.1 [48,49,50,51,52,53,54,55,56,57] r18 h19) ⟨.inl Z,.inl Z,U⟩) (zd Z Z h16 (jw Z Z) (zd Z Z h12 (zo Z (bFF h17) Z) (zd Z Z h10 (zu Z (bTT h13) Z) (za (zo Z (bFF h11) Z) ⟨decide (r18≠[]),H,⟨Z,Z,Z,Z,U⟩,U⟩)))))
      ·exact u4 h16 H fun h20 H=>zc Z Z h16 (zc Z Z h16 (zc Z Z h16 (zd Z Z h12 (zu Z (bTT h20) Z) (zd Z Z h10 (zu Z (bTT h13) Z) (za (zo Z (bFF h11) Z) ⟨true,H,⟨Z,Z,Z,Z,U⟩,U⟩)))))
     ·exact u4 h14 H fun h21 H=>zc Z Z h14 (zc Z Z h14 (zc Z Z h14 (zd Z Z h12 (zu Z (bTT h21) Z) (zd Z Z h12 (ze (.dat _) Z) (zc Z Z Z (zc Z Z Z (zc Z Z Z (zd Z Z h12 (zu Z Z Z) (zd Z Z h10 (zu Z (bTT h13) Z) (za (zo Z (bFF h11) Z) ⟨true,H,⟨Z,Z,Z,Z,U⟩,U⟩))))))))))
    ·exact u2 h12 H fun h22 H=>zc Z Z h12 (zc Z Z h12 (zc Z Z h12 (zt Z Z (zt Z Z (zt Z Z (zc Z Z h12 (zc Z Z h12 (zt Z Z (zt Z Z (zt Z Z (zc Z Z h12 (zd Z Z h10 (zo Z (bFF h22) Z) (za (zo Z (bFF h11) Z) ⟨false,H,⟨Z,Z,Z,Z,U⟩,U⟩)))))))))))))
   ·exact u4 h10 H fun h23 H=>zc Z Z h10 (zc Z Z h10 (zt Z Z (zt Z Z (zt Z Z (zt Z Z (zt Z Z (zt Z Z (zt Z Z (zt Z Z (zt Z Z (zt Z Z (zt Z Z (zt Z Z (zc Z Z h10 (za (zu Z (bTT h23) Z) ⟨true,H,⟨Z,Z,Z,Z,U⟩,U⟩)))))))))))))))
  ·exact u4 h6 H fun h24 H=>zc Z Z h6 (zc Z Z h6 (za (zu Z (bTT h24) Z) (qd Z (zc Z Z Z (zc Z Z Z (zt Z Z (zt Z Z (zt Z Z (zt Z Z (zt Z Z (zt Z Z (zt Z Z (zt Z Z (zt Z Z (zt Z Z (zt Z Z (zt Z Z (zc Z Z Z (za (zu Z Z Z) ⟨true,H,⟨Z,Z,Z,Z,U⟩,U⟩)))))))))))))))))))
 ·rintro v25 H
  replace H:jc r2 r4 v25=some r:=H
  unfold jc at H
  refine zg _ Z (fun h26 => ?_) (fun h26 => ?_)
  ·refine tE h26 H fun H=>zb hN Z (qe Z (qe Z (zi ?_)))
   cases H
   exact ⟨U,.inl Z,.inl Z,U⟩
  ·refine fE h26 H fun H=>zl (zb hN Z (qd Z (za (yo _ Z Z (.inr (.inr ⟨Z,Z⟩))) (qe Z (zw (ι:=Int) (fun i=>[(7,.dat (vint i))]) (fun i=>[]) (fun i=>xe i=some r) (fun i=>Z) ?_ ?_)))))
   ·skip
    refine zb hN Z (qd Z (zg _ Z (fun h27 => ?_) (fun h27 => ?_)))
    ·refine tE h27 H fun H=>zb hN Z (qd Z (gE H fun h28 H=>za (vp Z Z (Nat.le_trans h28 (by decide))) (bE H fun l29 h30 H=>za (qc tyU9 Z Z Z h30) (bE H fun r31 h32 H=>za (zn (z5j l29 r31 h32) ⟨.inl Z,U⟩) (qd Z (za (yd Z Z) (za (yd Z Z) (qe Z (qe Z (zh (zb hN Z (qd Z (za (z0c (n:=r31.2) (show Tryz.prog.underlying 76=some (.interface (Tryz.prog.methodsAt 76)) from by kernel_rfl) Z) ?_)))))))))))))
     refine zg _ Z (fun h33 => ?_) (fun h33 => ?_)
     ·refine tE h33 H fun H=>zb hN Z (qe Z (qe Z (zi ?_)))
      cases H
      exact ⟨U,.inl Z,.inl Z,U⟩
     ·exact fE h33 H fun H=>zl (zm hN Z (qd Z (qd Z (za (yo _ Z Z (.inl ⟨Z,Z⟩)) (qe Z ⟨wr ((wr (r4.1 * 1000))+r31.1),H,⟨Z,U⟩,U⟩)))))
    ·exact fE h27 H fun H=>zl ⟨wr (r4.1 * 1000),H,⟨Z,U⟩,U⟩
   ·rintro n34 H
    replace H:xe n34=some r:=H
    unfold xe at H
    refine zb hN Z (qd Z (qd Z (za (qr Z Z) (qe Z (qe Z (zi ?_))))))
    cases H
    exact ⟨U,.inl Z,.inl Z,U⟩
end Go.Proofs.YtfindajhhadihaaGreatDoor
