/- Walks along the models. Printed by a program. -/
import Derived.Test.YtahcnngcpjkpgabGreatDoorZww2
namespace Go.Proofs.YtahcnngcpjkpgabGreatDoor
open Go.RowKit
set_option linter.unusedVariables false
set_option maxRecDepth 100000
set_option maxHeartbeats 2000000
theorem x6j (v1:Bs) (v2:Int) (v3:Int) (r:(Int×Int)) (H:z5t v1 v2 v3=some r):Fn Tryz.prog 241 [vstr v1,vint v2,vint v3] (zr [vval (.int .u64 r.1),verr r.2]):=by
 refine ⟨by kernel_rfl,yf (us:=[vval (.int .u64 r.1),verr r.2]) Tryz.func241 Z Z Z Z fun X hN => ?_⟩
 unfold z5t at H
 refine zb hN Z (qe Z (qe Z (zd (zb hN Z (qd Z (za (vi Z Z) (zh _ Z (fun h4 => ?_) (fun h4 => ?_))))))))
 ·refine tE h4 H fun H=>zb hN Z (za (yd (u':=verr 2) (uz (show Tryz.prog.underlying 245=some (.int .i64) from by kernel_rfl) Z) Z) ?_)
  refine qe Z (qe Z (zk ?_))
  cases H
  exact ⟨U,.inl Z,.inl Z,U⟩
 ·refine fE h4 H fun H=>zn (zb hN Z (qd Z (za (yq Z Z) (qe Z (zb hN Z (qd Z (qe Z (yg (ι:=Bs×Int) (fun i=>[(0,.dat (vstr i.1)),(1,.dat (vint i.2)),(2,.dat (vint v3)),(8,.dat (zi (decide (v2=0)))),(9,.dat (vstr v1))]) (fun i=>[]) (fun i=>Qy v1 v2 v3 i.1 i.2=some r) (fun i=>Z) ?_ ?_))))))))
  ·skip
   refine yc (zb hN Z (qd Z (za (vm Z Z) (qd Z (ql Z Z (fun hc=>ze (.dat _) Z) (ql Z Z (fun hc=>vm (cnd (c:=(decide (2≤v2))) hc) Z) (za (wz Z (fun hb=>(cnd (c:=(decide (2≤v2))) hb)) Z) (qe Z (zh _ Z (fun h5 => ?_) (fun h5 => ?_))))))))))
   ·exact tE h5 H fun H=>zn ⟨(v1,v2),H,⟨Z,Z,Z,Z,Z,U⟩,U⟩
   ·refine fE h5 H fun H=>zb hN Z (qd Z (za (yq Z Z) (qe Z (zh _ Z (fun h6 => ?_) (fun h6 => ?_)))))
    ·refine tE h6 H fun H=>zb hN Z (qe Z (zb hN Z (qd Z (bE H fun x7 h8 H=>za (wv tyU9 Z Z h8) (za (yq Z Z) (zh _ Z (fun h9 => ?_) (fun h9 => ?_)))))))
     ·refine tE h9 H fun H=>yc (yg (ι:=Bool) (fun i=>[(0,.dat (vstr v1)),(2,.dat (vint v3)),(8,.dat (zi (decide (v2=0)))),(9,.dat (vstr v1)),(40,.dat (zi i))]) (fun i=>[]) (fun i=>z93 v1 v2 v3 i=some r) (fun i=>Z) ?_ ?_)
      ·skip
       refine zj hN Z (qd Z (za (qi tyU9 Z) (za (vk Z Z) (qd Z (yn (j:=3) Z Z (fun h10 => ?_) (fun h10 => ?_) Z)))))
       ·exact u1 h10 H fun h11 H=>zf Z Z h10 (ze (.dat _) Z) (bE H fun x12 h13 H=>zf Z Z h10 (wv tyU9 Z Z h13) (bE H fun r14 h15 H=>zf Z Z h10 (zo (xe (x12.toNat:Int) r14 h15) ⟨.inl Z,U⟩) (zf Z Z h10 (yq Z Z) (za (ya Z (bTT h11) Z) (qe Z ⟨decide (r14=98),H,⟨Z,Z,Z,Z,Z,U⟩,U⟩)))))
       ·exact u2 h10 H fun h16 H=>zc Z Z h10 (zc Z Z h10 (zc Z Z h10 (zc Z Z h10 (za (zv Z (bFF h16) Z) (qe Z ⟨false,H,⟨Z,Z,Z,Z,Z,U⟩,U⟩)))))
      ·rintro v17 H
       replace H:z93 v1 v2 v3 v17=some r:=H
       unfold z93 at H
       refine zh _ Z (fun h18 => ?_) (fun h18 => ?_)
       ·exact tE h18 H fun H=>zb hN Z (qe Z (zj hN Z (qd Z (bE H fun l19 h20 H=>za (vh tyU9 Z Z Z h20) (qe Z ⟨(l19,2),H,⟨Z,Z,Z,Z,Z,U⟩,U⟩)))))
       ·refine fE h18 H fun H=>yg (ι:=Bool) (fun i=>[(0,.dat (vstr v1)),(2,.dat (vint v3)),(8,.dat (zi (decide (v2=0)))),(9,.dat (vstr v1)),(52,.dat (zi i))]) (fun i=>[]) (fun i=>z92 v1 v2 v3 i=some r) (fun i=>Z) ?_ ?_
        ·skip
         refine zj hN Z (qd Z (za (qi tyU9 Z) (za (vk Z Z) (qd Z (yn (j:=3) Z Z (fun h21 => ?_) (fun h21 => ?_) Z)))))
         ·exact u1 h21 H fun h22 H=>zf Z Z h21 (ze (.dat _) Z) (bE H fun x23 h24 H=>zf Z Z h21 (wv tyU9 Z Z h24) (bE H fun r25 h26 H=>zf Z Z h21 (zo (xe (x23.toNat:Int) r25 h26) ⟨.inl Z,U⟩) (zf Z Z h21 (yq Z Z) (za (ya Z (bTT h22) Z) (qe Z ⟨decide (r25=111),H,⟨Z,Z,Z,Z,Z,U⟩,U⟩)))))
         ·exact u2 h21 H fun h27 H=>zc Z Z h21 (zc Z Z h21 (zc Z Z h21 (zc Z Z h21 (za (zv Z (bFF h27) Z) (qe Z ⟨false,H,⟨Z,Z,Z,Z,Z,U⟩,U⟩)))))
        ·rintro v28 H
         replace H:z92 v1 v2 v3 v28=some r:=H
         unfold z92 at H
         refine zh _ Z (fun h29 => ?_) (fun h29 => ?_)
         ·exact tE h29 H fun H=>zb hN Z (qe Z (zj hN Z (qd Z (bE H fun l30 h31 H=>za (vh tyU9 Z Z Z h31) (qe Z ⟨(l30,8),H,⟨Z,Z,Z,Z,Z,U⟩,U⟩)))))
         ·refine fE h29 H fun H=>yg (ι:=Bool) (fun i=>[(0,.dat (vstr v1)),(2,.dat (vint v3)),(8,.dat (zi (decide (v2=0)))),(9,.dat (vstr v1)),(64,.dat (zi i))]) (fun i=>[]) (fun i=>z91 v1 v2 v3 i=some r) (fun i=>Z) ?_ ?_
          ·skip
           refine zj hN Z (qd Z (za (qi tyU9 Z) (za (vk Z Z) (qd Z (yn (j:=3) Z Z (fun h32 => ?_) (fun h32 => ?_) Z)))))
           ·exact u1 h32 H fun h33 H=>zf Z Z h32 (ze (.dat _) Z) (bE H fun x34 h35 H=>zf Z Z h32 (wv tyU9 Z Z h35) (bE H fun r36 h37 H=>zf Z Z h32 (zo (xe (x34.toNat:Int) r36 h37) ⟨.inl Z,U⟩) (zf Z Z h32 (yq Z Z) (za (ya Z (bTT h33) Z) (qe Z ⟨decide (r36=120),H,⟨Z,Z,Z,Z,Z,U⟩,U⟩)))))
           ·exact u2 h32 H fun h38 H=>zc Z Z h32 (zc Z Z h32 (zc Z Z h32 (zc Z Z h32 (za (zv Z (bFF h38) Z) (qe Z ⟨false,H,⟨Z,Z,Z,Z,Z,U⟩,U⟩)))))
          ·rintro v39 H
           replace H:z91 v1 v2 v3 v39=some r:=H
           unfold z91 at H
           refine zh _ Z (fun h40 => ?_) (fun h40 => ?_)
           ·exact tE h40 H fun H=>zb hN Z (qe Z (zj hN Z (qd Z (bE H fun l41 h42 H=>za (vh tyU9 Z Z Z h42) (qe Z ⟨(l41,16),H,⟨Z,Z,Z,Z,Z,U⟩,U⟩)))))
           ·exact fE h40 H fun H=>zb hN Z (qe Z (zj hN Z (qd Z (bE H fun l43 h44 H=>za (vh tyU9 Z Z Z h44) (qe Z ⟨(l43,8),H,⟨Z,Z,Z,Z,Z,U⟩,U⟩)))))
     ·exact fE h9 H fun H=>zn ⟨(v1,10),H,⟨Z,Z,Z,Z,Z,U⟩,U⟩
    ·refine fE h6 H fun H=>zb hN Z (za (yd (u':=verr 3) (uz (show Tryz.prog.underlying 245=some (.int .i64) from by kernel_rfl) Z) Z) ?_)
     refine qe Z (qe Z (zk ?_))
     cases H
     exact ⟨U,.inl Z,.inl Z,U⟩
  ·rintro ⟨v45,v46⟩ H
   replace H:Qy v1 v2 v3 v45 v46=some r:=H
   unfold Qy at H
   refine yg (ι:=Int) (fun i=>[(0,.dat (vstr v45)),(1,.dat (vint v46)),(2,.dat (vint i)),(8,.dat (zi (decide (v2=0)))),(9,.dat (vstr v1))]) (fun i=>[]) (fun i=>z90 v1 v2 v45 v46 i=some r) (fun i=>Z) ?_ ?_
   ·skip
    refine zb hN Z (qd Z (za (yq Z Z) (zh _ Z (fun h47 => ?_) (fun h47 => ?_))))
    ·exact tE h47 H fun H=>zj hN Z (qe Z ⟨64,H,⟨Z,Z,Z,Z,Z,U⟩,U⟩)
    ·refine fE h47 H fun H=>zb hN Z (qd Z (za (ye Z Z) (qd Z (yp Z Z (fun hc=>ze (.dat _) Z) (yp Z Z (fun hc=>wb (cnd (c:=(!(decide (v3 < 0)))) hc) Z) (za (wy Z Z (fun hb=>(cnd (c:=(!(decide (v3 < 0)))) (notI hb)))) (zh _ Z (fun h48 => ?_) (fun h48 => ?_))))))))
     ·refine tE h48 H fun H=>zb hN Z (za (yd (u':=verr 4) (uz (show Tryz.prog.underlying 245=some (.int .i64) from by kernel_rfl) Z) Z) ?_)
      refine qe Z (qe Z (zk ?_))
      cases H
      exact ⟨U,.inl Z,.inl Z,U⟩
     ·exact fE h48 H fun H=>zn ⟨v3,H,⟨Z,Z,Z,Z,Z,U⟩,U⟩
   ·rintro v49 H
    replace H:z90 v1 v2 v45 v46 v49=some r:=H
    unfold z90 at H
    refine zb hN Z (qe Z (yg (ι:=Int) (fun i=>[(0,.dat (vstr v45)),(1,.dat (vint v46)),(2,.dat (vint v49)),(8,.dat (zi (decide (v2=0)))),(9,.dat (vstr v1)),(10,.dat (vval (.int .u64 i)))]) (fun i=>[]) (fun i=>z6k v1 v2 v45 v46 v49 i=some r) (fun i=>Z) ?_ ?_))
    ·skip
     refine zb hN Z (qd Z (yc (zb hN Z (za (yq Z Z) (qe Z (zh _ Z (fun h50 => ?_) (fun h50 => ?_)))))))
     ·exact tE h50 H fun H=>zj hN Z (qe Z ⟨1844674407370955162,H,⟨Z,Z,Z,Z,Z,Z,U⟩,U⟩)
     ·refine fE h50 H fun H=>zb hN Z (za (yq Z Z) (qe Z (zh _ Z (fun h51 => ?_) (fun h51 => ?_))))
      ·exact tE h51 H fun H=>zj hN Z (qe Z ⟨1152921504606846976,H,⟨Z,Z,Z,Z,Z,Z,U⟩,U⟩)
      ·exact fE h51 H fun H=>zj hN Z (qd Z (za (kf tyU3 Wj Z) (gE H fun h52 H=>za (w1u Z Z h52) (za (ym _ Z Z (.inl ⟨Z,Z⟩)) (qe Z ⟨IntKind.wrap .u64 ((IntKind.wrap .u64 (Int.tdiv 18446744073709551615 (IntKind.wrap .u64 v46)))+1),H,⟨Z,Z,Z,Z,Z,Z,U⟩,U⟩)))))
    ·rintro v53 H
     replace H:z6k v1 v2 v45 v46 v49 v53=some r:=H
     unfold z6k at H
     refine zb hN Z (qd Z (za (kf tyU3 y1b Z) (gE H fun h54 H=>za (yd (y6f Z Z h54) Z) (za (ym _ Z Z (.inr (.inl ⟨Z,Z⟩))) (qe Z (zb hN Z (qe Z (zb hN Z (qe Z (zd (zb hN Z (qd Z (za (x2p (C:=yw) tyU9 z1e tyU5 (fun _=>Z) Z) (za (qh z1e Z) (qd Z (yc (gE H fun h59 H=>va (fun (k57:Nat) (s:Bool×Int)=>[(1,.dat (vint v46)),(8,.dat (zi (decide (v2=0)))),(9,.dat (vstr v1)),(10,.dat (vval (.int .u64 v53))),(11,.dat (vval (.int .u64 (IntKind.wrap .u64 ((shl_ .u64 1 (IntKind.wrap .u64 v49)) - 1))))),(12,.dat (zi s.1)),(13,.dat (vval (.int .u64 s.2))),(99,.dat (vlst (List.map yw (yk v45)))),(100,.dat (vint ((yk v45).length:Int))),(101,.dat (vint (k57:Int)))]) (fun (k57:Nat) (s:Bool×Int)=>[]) (false,0) H ⟨Z,Z,Z,Z,Z,Z,Z,Z,Z,Z,U⟩ U (fun _ _=>Z) ?_ ?_)))))))))))))))))
     ·rintro ⟨v55,v56⟩ H
      replace H:z6l v1 v55 v56=some r:=H
      unfold z6l at H
      refine zb hN Z (za (ye Z Z) (zd (zh _ Z (fun h=>(lt_t h).elim) (fun h => ?_))))
      refine yz (zd (yg (ι:=Bool) (fun i=>[(13,.dat (vval (.int .u64 v56))),(169,.dat (zi i))]) (fun i=>[]) (fun i=>z6j v56 i=some r) (fun i=>Z) ?_ ?_))
      ·skip
       refine zj hN Z (qd Z (qd Z (yn (j:=1) Z Z (fun h61 => ?_) (fun h61 => ?_) Z)))
       ·exact u1 h61 H fun h62 H=>zf Z Z h61 (ze (.dat _) Z) (bE H fun r63 h64 H=>zf Z Z h61 (zo (w7r v1 r63 h64) ⟨.inl Z,U⟩) (zf Z Z h61 (yt Z) (za (ya Z (bTT h62) Z) ⟨!r63,H,⟨Z,Z,U⟩,U⟩)))
       ·exact u2 h61 H fun h65 H=>zc Z Z h61 (zc Z Z h61 (zc Z Z h61 (za (zv Z (bFF h65) Z) ⟨false,H,⟨Z,Z,U⟩,U⟩)))
      ·rintro v66 H
       replace H:z6j v56 v66=some r:=H
       unfold z6j at H
       refine zh _ Z (fun h67 => ?_) (fun h67 => ?_)
       ·refine tE h67 H fun H=>zb hN Z (za (yd (u':=verr 2) (uz (show Tryz.prog.underlying 245=some (.int .i64) from by kernel_rfl) Z) Z) ?_)
        refine qe Z (qe Z (zk ?_))
        cases H
        exact ⟨U,.inl Z,.inl Z,U⟩
       ·refine fE h67 H fun H=>zn (zb hN Z (qd Z (qe Z (qe Z (zk ?_)))))
        cases H
        exact ⟨U,.inl Z,.inl Z,U⟩
     ·rintro k57 x60 ⟨v55,v56⟩ q58 h68 h69 H hq58
      replace H:Qx v2 v46 v49 v53 k57 x60 v55 v56=some q58:=H
      unfold Qx at H
      refine zb hN Z (za (ye Z Z) (zd (zh _ Z (fun h => ?_) (fun h=>(lt_f h68 h).elim))))
      refine zn (yg (ι:=Bool×Int) (fun i=>[(1,.dat (vint v46)),(8,.dat (zi (decide (v2=0)))),(9,.dat (vstr v1)),(10,.dat (vval (.int .u64 v53))),(11,.dat (vval (.int .u64 (IntKind.wrap .u64 ((shl_ .u64 1 (IntKind.wrap .u64 v49)) - 1))))),(12,.dat (zi i.1)),(13,.dat (vval (.int .u64 i.2))),(99,.dat (vlst (List.map yw (yk v45)))),(100,.dat (vint ((yk v45).length:Int))),(101,.dat (vint (k57:Int)))]) (fun i=>[]) (fun i=>z9z i.1 i.2=some q58) (fun i=>Z) ?_ ?_)
      ·skip
       refine yc (zb hN Z (za (wj x1s (fun _=>Z) Z Z h69) (za (wh tyS5 Z (qp h69) Z) (qe Z (zb hN Z (qe Z (yg (ι:=Int) (fun i=>[(1,.dat (vint v46)),(8,.dat (zi (decide (v2=0)))),(9,.dat (vstr v1)),(10,.dat (vval (.int .u64 v53))),(11,.dat (vval (.int .u64 (IntKind.wrap .u64 ((shl_ .u64 1 (IntKind.wrap .u64 v49)) - 1))))),(12,.dat (zi v55)),(13,.dat (vval (.int .u64 v56))),(16,.dat (vval (.int .u8 i))),(99,.dat (vlst (List.map yw (yk v45)))),(100,.dat (vint ((yk v45).length:Int))),(101,.dat (vint (k57:Int)))]) (fun i=>[]) (fun i=>z95 v46 v49 v53 v55 v56 i=some q58) (fun i=>Z) ?_ ?_)))))))
       ·skip
        refine yc (zb hN Z (qd Z (za (yq Z Z) (qd Z (ql Z Z (fun hc=>ze (.dat _) Z) (za (wz Z (fun hb=>(cnd (c:=(decide (x60=95))) hb)) Z) (qe Z (zh _ Z (fun h70 => ?_) (fun h70 => ?_)))))))))
        ·exact tE h70 H fun H=>zb hN Z (qe Z (yz ⟨(true,v56),H,⟨Z,Z,Z,Z,Z,Z,Z,Z,Z,Z,U⟩,U⟩))
        ·refine fE h70 H fun H=>zb hN Z (qd Z (za (vm Z Z) (qd Z (ql Z Z (fun hc=>ze (.dat _) Z) (ql Z Z (fun hc=>vm (cnd (c:=(decide (48≤x60))) hc) Z) (za (wz Z (fun hb=>(cnd (c:=(decide (48≤x60))) hb)) Z) (qe Z (zh _ Z (fun h71 => ?_) (fun h71 => ?_)))))))))
         ·exact tE h71 H fun H=>zj hN Z (qd Z (za (ym _ Z Z (.inr (.inl ⟨Z,Z⟩))) (qe Z ⟨IntKind.wrap .u8 (x60 - 48),H,⟨Z,Z,Z,Z,Z,Z,Z,Z,Z,Z,Z,U⟩,U⟩)))
         ·refine fE h71 H fun H=>yg (ι:=Bool) (fun i=>[(1,.dat (vint v46)),(8,.dat (zi (decide (v2=0)))),(9,.dat (vstr v1)),(10,.dat (vval (.int .u64 v53))),(11,.dat (vval (.int .u64 (IntKind.wrap .u64 ((shl_ .u64 1 (IntKind.wrap .u64 v49)) - 1))))),(12,.dat (zi v55)),(13,.dat (vval (.int .u64 v56))),(15,.dat (vval (.int .u8 x60))),(99,.dat (vlst (List.map yw (yk v45)))),(100,.dat (vint ((yk v45).length:Int))),(101,.dat (vint (k57:Int))),(121,.dat (zi i))]) (fun i=>[]) (fun i=>z94 v46 v49 v53 v55 v56 x60 i=some q58) (fun i=>Z) ?_ ?_
          ·skip
           refine zj hN Z (qd Z (bE H fun r72 h73 H=>za (zo (xe x60 r72 h73) ⟨.inl Z,U⟩) (za (vm Z Z) (qd Z (yn (j:=3) Z Z (fun h74 => ?_) (fun h74 => ?_) Z)))))
           ·exact u1 h74 H fun h75 H=>zf Z Z h74 (ze (.dat _) Z) (bE H fun r76 h77 H=>zf Z Z h74 (zo (xe x60 r76 h77) ⟨.inl Z,U⟩) (zf Z Z h74 (vm Z Z) (za (ya Z (bTT h75) Z) (qe Z ⟨decide (r76≤122),H,⟨Z,Z,Z,Z,Z,Z,Z,Z,Z,Z,Z,Z,U⟩,U⟩))))
           ·exact u2 h74 H fun h78 H=>zc Z Z h74 (zc Z Z h74 (zc Z Z h74 (za (zv Z (bFF h78) Z) (qe Z ⟨false,H,⟨Z,Z,Z,Z,Z,Z,Z,Z,Z,Z,Z,Z,U⟩,U⟩))))
          ·rintro v79 H
           replace H:z94 v46 v49 v53 v55 v56 x60 v79=some q58:=H
           unfold z94 at H
           refine zh _ Z (fun h80 => ?_) (fun h80 => ?_)
           ·exact tE h80 H fun H=>zj hN Z (qd Z (bE H fun r81 h82 H=>za (zo (xe x60 r81 h82) ⟨.inl Z,U⟩) (za (ym _ Z Z (.inr (.inl ⟨Z,Z⟩))) (za (ym _ Z Z (.inl ⟨Z,Z⟩)) (qe Z ⟨IntKind.wrap .u8 ((IntKind.wrap .u8 (r81 - 97))+10),H,⟨Z,Z,Z,Z,Z,Z,Z,Z,Z,Z,Z,U⟩,U⟩)))))
           ·refine fE h80 H fun H=>zb hN Z (za (yd (u':=verr 2) (uz (show Tryz.prog.underlying 245=some (.int .i64) from by kernel_rfl) Z) Z) ?_)
            refine qe Z (qe Z (zk ?_))
            replace H:=retl H hq58
            cases H
            exact ⟨U,.inl Z,.inl Z,U⟩
       ·rintro v83 H
        replace H:z95 v46 v49 v53 v55 v56 v83=some q58:=H
        unfold z95 at H
        refine zd (zb hN Z (qd Z (qd Z (za (kf tyU3 tyU5 Z) (za (vk Z Z) (zh _ Z (fun h84 => ?_) (fun h84 => ?_)))))))
        ·refine tE h84 H fun H=>zb hN Z (za (yd (u':=verr 2) (uz (show Tryz.prog.underlying 245=some (.int .i64) from by kernel_rfl) Z) Z) ?_)
         refine qe Z (qe Z (zk ?_))
         replace H:=retl H hq58
         cases H
         exact ⟨U,.inl Z,.inl Z,U⟩
        ·refine fE h84 H fun H=>zn (zd (zb hN Z (qd Z (qd Z (za (vk Z Z) (zh _ Z (fun h85 => ?_) (fun h85 => ?_)))))))
         ·refine tE h85 H fun H=>zb hN Z (qd Z (za (yd (u':=verr 1) (uz (show Tryz.prog.underlying 245=some (.int .i64) from by kernel_rfl) Z) Z) ?_))
          refine qe Z (qe Z (zk ?_))
          replace H:=retl H hq58
          cases H
          exact ⟨U,.inl Z,.inl Z,U⟩
         ·refine fE h85 H fun H=>zn (zb hN Z (qd Z (qd Z (za (kf tyU3 Wj Z) (za (ym _ Z Z (.inr (.inr ⟨Z,Z⟩))) (qe Z (zb hN Z (qd Z (qd Z (za (kf tyU5 Wj Z) (za (ym _ Z Z (.inl ⟨Z,Z⟩)) (qe Z (zd (zb hN Z (qd Z (qd Z (za (ye Z Z) (qd Z (yp Z Z (fun hc=>ze (.dat _) Z) (yp Z Z (fun hc=>ze (.dat _) Z) (yp Z Z (fun hc=>wb (cnd (c:=(!(decide ((IntKind.wrap .u64 ((IntKind.wrap .u64 (v56 * (IntKind.wrap .u64 v46)))+(IntKind.wrap .u64 v83))) < (IntKind.wrap .u64 (v56 * (IntKind.wrap .u64 v46))))))) hc) (cnd (c:=(!(decide ((IntKind.wrap .u64 ((IntKind.wrap .u64 (v56 * (IntKind.wrap .u64 v46)))+(IntKind.wrap .u64 v83))) < (IntKind.wrap .u64 (v56 * (IntKind.wrap .u64 v46))))))) hc)) (za (wy Z Z (fun hb=>(cnd (c:=(!(decide ((IntKind.wrap .u64 ((IntKind.wrap .u64 (v56 * (IntKind.wrap .u64 v46)))+(IntKind.wrap .u64 v83))) < (IntKind.wrap .u64 (v56 * (IntKind.wrap .u64 v46))))))) (notI hb)))) ?_))))))))))))))))))))))
          refine zh _ Z (fun h86 => ?_) (fun h86 => ?_)
          ·refine tE h86 H fun H=>zb hN Z (qd Z (za (yd (u':=verr 1) (uz (show Tryz.prog.underlying 245=some (.int .i64) from by kernel_rfl) Z) Z) ?_))
           refine qe Z (qe Z (zk ?_))
           replace H:=retl H hq58
           cases H
           exact ⟨U,.inl Z,.inl Z,U⟩
          ·exact fE h86 H fun H=>zn (zj hN Z (qd Z (qe Z ⟨(v55,IntKind.wrap .u64 ((IntKind.wrap .u64 (v56 * (IntKind.wrap .u64 v46)))+(IntKind.wrap .u64 v83))),H,⟨Z,Z,Z,Z,Z,Z,Z,Z,Z,Z,U⟩,U⟩)))
      ·rintro ⟨v87,v88⟩ H
       replace H:z9z v87 v88=some q58:=H
       unfold z9z at H
       exact zj hN Z (za (qy Z Z (by omega)) (qd Z ⟨_,qm H,⟨Z,Z,Z,Z,Z,Z,Z,Z,Z,Z,U⟩,U⟩))
theorem x6k (v1:Bs) (v2:Int) (v3:Int) (r:(Int×Int)) (H:y25 v1 v2 v3=some r):Fn Tryz.prog 195 [vstr v1,vint v2,vint v3] (zr [vint r.1,verr r.2]):=by
 refine ⟨by kernel_rfl,yf (us:=[vint r.1,verr r.2]) Tryz.func195 Z Z Z Z fun X hN => ?_⟩
 unfold y25 at H
 refine zb hN Z (qe Z (qe Z (zd (zb hN Z (qd Z (za (vi Z Z) (zh _ Z (fun h4 => ?_) (fun h4 => ?_))))))))
 ·refine tE h4 H fun H=>zb hN Z (za (yd (u':=verr 2) (uz (show Tryz.prog.underlying 245=some (.int .i64) from by kernel_rfl) Z) Z) ?_)
  refine qe Z (qe Z (zk ?_))
  cases H
  exact ⟨U,.inl Z,.inl Z,U⟩
 ·refine fE h4 H fun H=>zn (zb hN Z (qe Z (yg (ι:=Bs×Bool) (fun i=>[(0,.dat (vstr i.1)),(1,.dat (vint v2)),(2,.dat (vint v3)),(8,.dat (zi i.2))]) (fun i=>[]) (fun i=>z6m v2 v3 i.1 i.2=some r) (fun i=>Z) ?_ ?_)))
  ·skip
   refine zb hN Z (qd Z (bE H fun x5 h6 H=>za (wv tyU9 Z Z h6) (yc (zb hN Z (za (yq Z Z) (qe Z (zh _ Z (fun h7 => ?_) (fun h7 => ?_))))))))
   ·exact tE h7 H fun H=>zj hN Z (qd Z (bE H fun l8 h9 H=>za (vh tyU9 Z Z Z h9) (qe Z ⟨(l8,false),H,⟨Z,Z,Z,Z,U⟩,U⟩)))
   ·refine fE h7 H fun H=>zb hN Z (za (yq Z Z) (qe Z (zh _ Z (fun h10 => ?_) (fun h10 => ?_))))
    ·exact tE h10 H fun H=>zb hN Z (qd Z (bE H fun l11 h12 H=>za (vh tyU9 Z Z Z h12) (qe Z (zj hN Z (qe Z ⟨(l11,true),H,⟨Z,Z,Z,Z,U⟩,U⟩)))))
    ·exact fE h10 H fun H=>zn ⟨(v1,false),H,⟨Z,Z,Z,Z,U⟩,U⟩
  ·rintro ⟨v13,v14⟩ H
   replace H:z6m v2 v3 v13 v14=some r:=H
   unfold z6m at H
   refine zb hN Z (qe Z (zb hN Z (qd Z (qd Z (qd Z (bE H fun r15 h16 H=>za (zo (x6j v13 v2 v3 r15 h16) ⟨.inl Z,.inl Z,.inl Z,U⟩) (qd Z (za (zz Z Z) (za (zz Z Z) (qe Z (qe Z (zd (yg (ι:=Bool) (fun i=>[(2,.dat (vint v3)),(7,.dat (verr r15.2)),(8,.dat (zi v14)),(9,.dat (vval (.int .u64 r15.1))),(38,.dat (zi i))]) (fun i=>[]) (fun i=>z98 v3 v14 r15 i=some r) (fun i=>Z) ?_ ?_)))))))))))))
   ·skip
    refine zj hN Z (qd Z (za (z8d (n:=r15.2) (show Tryz.prog.underlying 62=some (.interface (Tryz.prog.methodsAt 62)) from by kernel_rfl) Z) ?_))
    refine qd Z (yn (j:=2) Z Z (fun h17 => ?_) (fun h17 => ?_) Z)
    ·refine u1 h17 H fun h18 H=>zf Z Z h17 (ze (.dat _) Z) (zf Z Z h17 (yd (u':=verr 1) (uz (show Tryz.prog.underlying 245=some (.int .i64) from by kernel_rfl) Z) Z) ?_)
     refine gE H fun h19 H=>zf Z Z h17 (w2e (n:=r15.2) (m:=1) (show Tryz.prog.underlying 62=some (.interface (Tryz.prog.methodsAt 62)) from by kernel_rfl) (by kernel_rfl) (by kernel_rfl) Z Z h19 (by decide)) ?_
     exact za (ya Z (bTT h18) Z) ⟨decide (r15.2≠1),H,⟨Z,Z,Z,Z,Z,U⟩,U⟩
    ·exact u2 h17 H fun h20 H=>zc Z Z h17 (zc Z Z h17 (zc Z Z h17 (za (zv Z (bFF h20) Z) ⟨false,H,⟨Z,Z,Z,Z,Z,U⟩,U⟩)))
   ·rintro v21 H
    replace H:z98 v3 v14 r15 v21=some r:=H
    unfold z98 at H
    refine zh _ Z (fun h22 => ?_) (fun h22 => ?_)
    ·refine tE h22 H fun H=>zb hN Z (qd Z (qe Z (qe Z (zk ?_))))
     cases H
     exact ⟨U,.inl Z,.inl Z,U⟩
    ·refine fE h22 H fun H=>zn (yg (ι:=Int) (fun i=>[(2,.dat (vint i)),(8,.dat (zi v14)),(9,.dat (vval (.int .u64 r15.1)))]) (fun i=>[]) (fun i=>z97 v14 r15 i=some r) (fun i=>Z) ?_ ?_)
     ·skip
      refine zb hN Z (qd Z (za (yq Z Z) (zh _ Z (fun h23 => ?_) (fun h23 => ?_))))
      ·exact tE h23 H fun H=>zj hN Z (qe Z ⟨64,H,⟨Z,Z,Z,U⟩,U⟩)
      ·exact fE h23 H fun H=>zn ⟨v3,H,⟨Z,Z,Z,U⟩,U⟩
     ·rintro v24 H
      replace H:z97 v14 r15 v24=some r:=H
      unfold z97 at H
      refine zb hN Z (qd Z (za (ym _ Z Z (.inr (.inl ⟨Z,Z⟩))) (za (kf tyU3 y1b Z) (gE H fun h25 H=>za (yd (y6f Z Z h25) Z) (qe Z (zd (zb hN Z (qd Z (za (yt Z) (qd Z (ql Z Z (fun hc=>ze (.dat _) Z) (ql Z Z (fun hc=>ze (.dat _) Z) (ql Z Z (fun hc=>vk (cnd (c:=(!v14)) hc) (cnd (c:=(!v14)) hc)) (za (wz Z (fun hb=>(cnd (c:=(!v14)) hb)) Z) (zh _ Z (fun h26 => ?_) (fun h26 => ?_))))))))))))))))
      ·refine tE h26 H fun H=>zb hN Z (qd Z (za (ym _ Z Z (.inr (.inl ⟨Z,Z⟩))) (za (kf Wj tyU2 Z) (za (yd (u':=verr 1) (uz (show Tryz.prog.underlying 245=some (.int .i64) from by kernel_rfl) Z) Z) ?_))))
       refine qe Z (qe Z (zk ?_))
       cases H
       exact ⟨U,.inl Z,.inl Z,U⟩
      ·refine fE h26 H fun H=>zn (zd (zb hN Z (qd Z (qd Z (ql Z Z (fun hc=>ze (.dat _) Z) (ql Z Z (fun hc=>ze (.dat _) Z) (ql Z Z (fun hc=>wb (cnd (c:=v14) hc) (cnd (c:=v14) hc)) (za (wz Z (fun hb=>(cnd (c:=v14) hb)) Z) (zh _ Z (fun h27 => ?_) (fun h27 => ?_))))))))))
       ·refine tE h27 H fun H=>zb hN Z (qd Z (za (kf Wj tyU2 Z) (za (x2h Z) (za (yd (u':=verr 1) (uz (show Tryz.prog.underlying 245=some (.int .i64) from by kernel_rfl) Z) Z) ?_))))
        refine qe Z (qe Z (zk ?_))
        cases H
        exact ⟨U,.inl Z,.inl Z,U⟩
       ·refine fE h27 H fun H=>zn (zb hN Z (qd Z (za (kf Wj tyU2 Z) (qe Z (yg (ι:=Int) (fun i=>[(11,.dat (vint i))]) (fun i=>[]) (fun i=>z96 i=some r) (fun i=>Z) ?_ ?_)))))
        ·skip
         refine zb hN Z (qd Z (zh _ Z (fun h28 => ?_) (fun h28 => ?_)))
         ·exact tE h28 H fun H=>zj hN Z (qd Z (za (x2h Z) (qe Z ⟨(wr (-(IntKind.wrap .i64 r15.1))),H,⟨Z,U⟩,U⟩)))
         ·exact fE h28 H fun H=>zn ⟨IntKind.wrap .i64 r15.1,H,⟨Z,U⟩,U⟩
        ·rintro v29 H
         replace H:z96 v29=some r:=H
         unfold z96 at H
         refine zb hN Z (qd Z (qe Z (qe Z (zk ?_))))
         cases H
         exact ⟨U,.inl Z,.inl Z,U⟩
theorem w7s (v1:Bs) (r:(Int×Int)) (H:z2o v1=some r):Fn Tryz.prog 144 [vstr v1] (zr [vint r.1,verr r.2]):=by
 refine ⟨by kernel_rfl,yf (us:=[vint r.1,verr r.2]) Tryz.func144 Z Z Z Z fun X hN => ?_⟩
 unfold z2o at H
 refine zb hN Z (qe Z (qe Z (zb hN Z (qd Z (za (qi tyU9 Z) (qe Z (zd (zb hN Z (qd Z (ql (s := .dat (vint (v1.length:Int))) Z Z (fun hc=>ze (.dat _) Z) (ql (s := .dat (zi (decide (0 < (v1.length:Int))))) Z Z (fun hc=>ye Z (cnd (c:=false) (s := .dat (vint (v1.length:Int))) hc)) (ql (s := .dat (zi (decide (0 < (v1.length:Int))))) Z Z (fun hc=>ze (.dat _) (cnd (c:=false) (s := .dat (zi (decide (0 < (v1.length:Int))))) hc)) (vd (s := .dat (vint (v1.length:Int))) (c:=false) (b:=decide (0 < (v1.length:Int))) Z Z (fun hc=>ze (.dat _) Z) (vd (s := .dat (zi (decide ((v1.length:Int) < 10)))) (c:=false) (b:=decide (0 < (v1.length:Int))) Z Z (fun hc=>ye (cnd (c:=(false && (decide (0 < (v1.length:Int))))) (s := .dat (vint (v1.length:Int))) hc) Z) (ql (s := .dat (zi ((decide (0 < (v1.length:Int))) && (decide ((v1.length:Int) < 10))))) Z Z (fun hc=>wz (cnd (c:=false) (s := .dat (zi (decide (0 < (v1.length:Int))))) hc) (fun hb=>(cnd (c:=(false && (decide (0 < (v1.length:Int))))) (s := .dat (zi (decide ((v1.length:Int) < 10)))) (andI hc hb))) Z) (za (wz Z (fun hb=>(cnd (c:=false) (s := .dat (zi ((decide (0 < (v1.length:Int))) && (decide ((v1.length:Int) < 10))))) hb)) Z) (qd Z (yp (s := .dat (zi true)) Z Z (fun hc=>ze (.dat _) Z) (vd (s := .dat (vint (v1.length:Int))) (c:=(!(false && ((decide (0 < (v1.length:Int))) && (decide ((v1.length:Int) < 10)))))) (b:=true) Z Z (fun hc=>ze (.dat _) Z) (vd (s := .dat (zi (decide (0 < (v1.length:Int))))) (c:=(!(false && ((decide (0 < (v1.length:Int))) && (decide ((v1.length:Int) < 10)))))) (b:=true) Z Z (fun hc=>ye Z (cnd (c:=((!(false && ((decide (0 < (v1.length:Int))) && (decide ((v1.length:Int) < 10))))) && true)) (s := .dat (vint (v1.length:Int))) hc)) (vd (s := .dat (zi (decide (0 < (v1.length:Int))))) (c:=(!(false && ((decide (0 < (v1.length:Int))) && (decide ((v1.length:Int) < 10)))))) (b:=true) Z Z (fun hc=>ze (.dat _) (cnd (c:=((!(false && ((decide (0 < (v1.length:Int))) && (decide ((v1.length:Int) < 10))))) && true)) (s := .dat (zi (decide (0 < (v1.length:Int))))) hc)) (vd (s := .dat (vint (v1.length:Int))) (c:=((!(false && ((decide (0 < (v1.length:Int))) && (decide ((v1.length:Int) < 10))))) && true)) (b:=decide (0 < (v1.length:Int))) Z Z (fun hc=>ze (.dat _) Z) (vd (s := .dat (zi (decide ((v1.length:Int) < 19)))) (c:=((!(false && ((decide (0 < (v1.length:Int))) && (decide ((v1.length:Int) < 10))))) && true)) (b:=decide (0 < (v1.length:Int))) Z Z (fun hc=>ye (cnd (c:=(((!(false && ((decide (0 < (v1.length:Int))) && (decide ((v1.length:Int) < 10))))) && true) && (decide (0 < (v1.length:Int))))) (s := .dat (vint (v1.length:Int))) hc) Z) ?_)))))))))))))))))))))))
 refine vd (s := .dat (zi ((decide (0 < (v1.length:Int))) && (decide ((v1.length:Int) < 19))))) (c:=(!(false && ((decide (0 < (v1.length:Int))) && (decide ((v1.length:Int) < 10)))))) (b:=true) Z Z (fun hc=>wz (cnd (c:=((!(false && ((decide (0 < (v1.length:Int))) && (decide ((v1.length:Int) < 10))))) && true)) (s := .dat (zi (decide (0 < (v1.length:Int))))) hc) (fun hb=>(cnd (c:=(((!(false && ((decide (0 < (v1.length:Int))) && (decide ((v1.length:Int) < 10))))) && true) && (decide (0 < (v1.length:Int))))) (s := .dat (zi (decide ((v1.length:Int) < 19)))) (andI hc hb))) Z) (yp (s := .dat (zi (true && ((decide (0 < (v1.length:Int))) && (decide ((v1.length:Int) < 19)))))) Z Z (fun hc=>wz (cnd (c:=(!(false && ((decide (0 < (v1.length:Int))) && (decide ((v1.length:Int) < 10)))))) (s := .dat (zi true)) hc) (fun hb=>(cnd (c:=((!(false && ((decide (0 < (v1.length:Int))) && (decide ((v1.length:Int) < 10))))) && true)) (s := .dat (zi ((decide (0 < (v1.length:Int))) && (decide ((v1.length:Int) < 19))))) (andI hc hb))) Z) (za (wy Z Z (fun hb=>(cnd (c:=(!(false && ((decide (0 < (v1.length:Int))) && (decide ((v1.length:Int) < 10)))))) (s := .dat (zi (true && ((decide (0 < (v1.length:Int))) && (decide ((v1.length:Int) < 19)))))) (notI hb)))) (zh _ Z (fun h2 => ?_) (fun h2 => ?_))))
 ·refine tE h2 H fun H=>zb hN Z (qd Z (qe Z (yg (ι:=Bs) (fun i=>[(0,.dat (vstr i)),(5,.dat (vstr v1))]) (fun i=>[]) (fun i=>z28 v1 i=some r) (fun i=>Z) ?_ ?_)))
  ·skip
   refine yg (ι:=Bool) (fun i=>[(0,.dat (vstr v1)),(5,.dat (vstr v1)),(39,.dat (zi i))]) (fun i=>[]) (fun i=>z27 v1 i=some r) (fun i=>Z) ?_ ?_
   ·skip
    refine zj hN Z (qd Z (bE H fun x3 h4 H=>za (wv tyU9 Z Z h4) (za (yq Z Z) (qd Z (yn (j:=3) Z Z (fun h5 => ?_) (fun h5 => ?_) Z)))))
    ·exact u3 h5 H fun h6 H=>zf Z Z h5 (ze (.dat _) Z) (zf Z Z h5 (wv tyU9 Z Z h4) (zf Z Z h5 (yq Z Z) (za (zv Z (bFF h6) Z) ⟨decide ((x3.toNat:Int)=43),H,⟨Z,Z,Z,U⟩,U⟩)))
    ·exact u4 h5 H fun h7 H=>zc Z Z h5 (zc Z Z h5 (zc Z Z h5 (za (ya Z (bTT h7) Z) ⟨true,H,⟨Z,Z,Z,U⟩,U⟩)))
   ·rintro v8 H
    replace H:z27 v1 v8=some r:=H
    unfold z27 at H
    refine zh _ Z (fun h9 => ?_) (fun h9 => ?_)
    ·refine tE h9 H fun H=>zb hN Z (qd Z (bE H fun l10 h11 H=>za (vh tyU9 Z Z Z h11) (qe Z (zb hN Z (qd Z (za (qi tyU9 Z) (za (ye Z Z) (zh _ Z (fun h12 => ?_) (fun h12 => ?_)))))))))
     ·refine tE h12 H fun H=>zb hN Z (za (yd (u':=verr 2) (uz (show Tryz.prog.underlying 245=some (.int .i64) from by kernel_rfl) Z) Z) ?_)
      refine qe Z (qe Z (zk ?_))
      cases H
      exact ⟨U,.inl Z,.inl Z,U⟩
     ·exact fE h12 H fun H=>zn ⟨l10,H,⟨Z,Z,U⟩,U⟩
    ·exact fE h9 H fun H=>zn ⟨v1,H,⟨Z,Z,U⟩,U⟩
  ·rintro v13 H
   replace H:z28 v1 v13=some r:=H
   unfold z28 at H
   refine zb hN Z (qe Z (zd (zb hN Z (qd Z (za (x2p (C:=yw) tyU9 z1e tyU5 (fun _=>Z) Z) (za (qh z1e Z) (qd Z (yc (gE H fun h17 H=>va (fun (k15:Nat) (s:Int)=>[(5,.dat (vstr v1)),(6,.dat (vint s)),(47,.dat (vlst (List.map yw (yk v13)))),(48,.dat (vint ((yk v13).length:Int))),(49,.dat (vint (k15:Int)))]) (fun (k15:Nat) (s:Int)=>[]) 0 H ⟨Z,Z,Z,Z,Z,U⟩ U (fun _ _=>Z) ?_ ?_)))))))))
   ·rintro v14 H
    replace H:z29 v1 v14=some r:=H
    unfold z29 at H
    refine zb hN Z (za (ye Z Z) (zd (zh _ Z (fun h=>(lt_t h).elim) (fun h => ?_))))
    refine yz (yg (ι:=Int) (fun i=>[(6,.dat (vint i))]) (fun i=>[]) (fun i=>z26 i=some r) (fun i=>Z) ?_ ?_)
    ·skip
     refine zb hN Z (qd Z (bE H fun x19 h20 H=>za (wv tyU9 Z Z h20) (za (yq Z Z) (zh _ Z (fun h21 => ?_) (fun h21 => ?_)))))
     ·exact tE h21 H fun H=>zj hN Z (qd Z (gE H fun h22 H=>za (x2i Z h22) (qe Z ⟨(-v14),H,⟨Z,U⟩,U⟩)))
     ·exact fE h21 H fun H=>zn ⟨v14,H,⟨Z,U⟩,U⟩
    ·rintro v23 H
     replace H:z26 v23=some r:=H
     unfold z26 at H
     refine zb hN Z (qd Z (qe Z (qe Z (zk ?_))))
     cases H
     exact ⟨U,.inl Z,.inl Z,U⟩
   ·rintro k15 x18 v14 q16 h24 h25 H hq16
    replace H:z6n k15 x18 v14=some q16:=H
    unfold z6n at H
    refine zb hN Z (za (ye Z Z) (zd (zh _ Z (fun h => ?_) (fun h=>(lt_f h24 h).elim))))
    refine zn (zd (yc (zb hN Z (za (wj x1s (fun _=>Z) Z Z h25) (za (wh tyS5 Z (qp h25) Z) (qe Z (zb hN Z (qd Z (za (ym _ Z Z (.inr (.inl ⟨Z,Z⟩))) (qe Z (zd (zb hN Z (qd Z (za (wb Z Z) (zh _ Z (fun h26 => ?_) (fun h26 => ?_))))))))))))))))
    ·refine tE h26 H fun H=>zb hN Z (za (yd (u':=verr 2) (uz (show Tryz.prog.underlying 245=some (.int .i64) from by kernel_rfl) Z) Z) ?_)
     refine qe Z (qe Z (zk ?_))
     replace H:=retl H hq16
     cases H
     exact ⟨U,.inl Z,.inl Z,U⟩
    ·exact fE h26 H fun H=>zn (zj hN Z (qd Z (za (ym _ Z Z (.inr (.inr ⟨Z,Z⟩))) (qd Z (za (kf tyU5 tyU3 Z) (za (ym _ Z Z (.inl ⟨Z,Z⟩)) (qe Z (zj hN Z (za (qy Z Z (by omega)) (qd Z ⟨_,qm H,⟨Z,Z,Z,Z,Z,U⟩,U⟩))))))))))
 ·refine fE h2 H fun H=>zn (zb hN Z (qd Z (bE H fun r27 h28 H=>za (zo (x6k v1 10 0 r27 h28) ⟨.inl Z,.inl Z,.inl Z,U⟩) (qd Z (za (zz Z Z) (za (zz Z Z) (qe Z (qe Z (zb hN Z (qd Z (qd Z (qe Z (qe Z (zk ?_))))))))))))))
  cases H
  exact ⟨U,.inl Z,.inl Z,U⟩
theorem y8z (fn s:Bs) (base bits e r:Int) (H:y21 fn s base bits e=some r):Fn Tryz.prog 145 [vstr fn,vstr s,vint base,vint bits,verr e] (zr [verr r]):=by
 obtain ⟨⟨h1,h2,h3⟩,h4⟩:=gif H
 cases h4
 refine Yb (by kernel_rfl) fun M w vs hM h => ?_
 rcases h3 with rfl | rfl
 ·have hv:=ui (us:=[.string ⟨fn.toArray⟩,.string ⟨s.toArray⟩,.int .i64 base,.int .i64 bits,.iface 245 (.int .i64 2)]) h
  subst hv
  obtain ⟨tp,p,hc⟩:=v1y hM
  refine (Tryz.strconv_toError_syntax ⟨fn.toArray⟩ ⟨s.toArray⟩ base bits (.iface tp p) w (by simp [ByteArray.size]; omega) hc (.inr ⟨tp,p,Z⟩)).mono ?_
  rintro e w' ⟨N,rfl,_,_,hb⟩
  exact ⟨_,Z,⟨_,_,Z⟩,Kp.of_below hb⟩
 ·have hv:=ui (us:=[.string ⟨fn.toArray⟩,.string ⟨s.toArray⟩,.int .i64 base,.int .i64 bits,.iface 245 (.int .i64 1)]) h
  subst hv
  obtain ⟨tp,p,hc⟩:=v1z hM
  refine (Tryz.strconv_toError_range ⟨fn.toArray⟩ ⟨s.toArray⟩ base bits (.iface tp p) w (by simp [ByteArray.size]; omega) hc (.inr ⟨tp,p,Z⟩)).mono ?_
  rintro e w' ⟨N,rfl,_,_,hb⟩
  exact ⟨_,Z,⟨_,_,Z⟩,Kp.of_below hb⟩
theorem x5x (s1:Bs) (r:(Int×Int)) (H:Za s1=some r):Fn Tryz.prog 77 [vstr s1] (zr [vint r.1,verr r.2]):=by
 refine ⟨by kernel_rfl,yf (us:=[vint r.1,verr r.2]) Tryz.func77 Z Z Z Z fun X hN => ?_⟩
 unfold Za at H
 refine zb hN Z (qe Z (qe Z (zb hN Z (qd Z (bE H fun r2 h3 H=>za (zo (w7s s1 r2 h3) ⟨.inl Z,U⟩) (qd Z (za (zz Z Z) (za (zz Z Z) (qe Z (qe Z (zd (zb hN Z (qd Z (za (z8d (n:=r2.2) (show Tryz.prog.underlying 62=some (.interface (Tryz.prog.methodsAt 62)) from by kernel_rfl) Z) ?_))))))))))))))
 refine zh _ Z (fun h4 => ?_) (fun h4 => ?_)
 ·refine tE h4 H fun H=>zb hN Z (qd Z (qd Z (qd Z (bE H fun r5 h6 H=>za (zo (y8z [65,116,111,105] s1 0 0 r2.2 r5 h6) ⟨.inl Z,.inl Z,.inl Z,.inl Z,.inl Z,U⟩) (qe Z (qe Z (zk ?_)))))))
  cases H
  exact ⟨U,.inl Z,.inl Z,U⟩
 ·refine fE h4 H fun H=>zn (zb hN Z (qd Z (qe Z (qe Z (zk ?_)))))
  cases H
  exact ⟨U,.inl Z,.inl Z,U⟩
theorem w61 (s1:Bs) (r:(Int×Bool)) (H:z5l s1=some r):Fn Tryz.prog 30 [vstr s1] (zr [vint r.1,zi r.2]):=by
 refine ⟨by kernel_rfl,yf (us:=[vint r.1,zi r.2]) Tryz.func30 Z Z Z Z fun X hN => ?_⟩
 unfold z5l at H
 refine zb hN Z (qe Z (qe Z (zb hN Z (qd Z (bE H fun r2 h3 H=>za (zo (w6o s1 [72,84,84,80,47,49,46,49,32] r2 h3) ⟨.inl Z,.inl Z,U⟩) (qd Z (za (zz Z Z) (za (zz Z Z) (qe Z (qe Z (zd (yg (ι:=Bool) (fun i=>[(4,.dat (vstr r2.1)),(36,.dat (zi i))]) (fun i=>[]) (fun i=>Qf r2 i=some r) (fun i=>Z) ?_ ?_))))))))))))
 ·skip
  refine zj hN Z (qd Z (za (yt Z) (qd Z (yn (j:=2) Z Z (fun h4 => ?_) (fun h4 => ?_) Z))))
  ·refine u3 h4 H fun h5 H=>zf Z Z h4 (ze (.dat _) Z) (zf Z Z h4 (qi tyU9 Z) (zf Z Z h4 (ye Z Z) (za (zv Z (bFF h5) Z) (qd Z (yn (j:=7) Z Z (fun h6 => ?_) (fun h6 => ?_) Z)))))
   ·refine u3 h6 H fun h7 H=>zf Z Z h6 (ze (.dat _) Z) (bE H fun l8 h9 H=>zf Z Z h6 (vh tyU9 Z Z Z h9) (bE H fun r10 h11 H=>zf Z Z h6 (zo (y8x l8 [48,49,50,51,52,53,54,55,56,57] r10 h11) ⟨.inl Z,.inl Z,U⟩) (zf Z Z h6 (jo Z Z) (za (zv Z (bFF h7) Z) (qd Z (yn (j:=13) Z Z (fun h12 => ?_) (fun h12 => ?_) Z))))))
    ·refine u3 h12 H fun h13 H=>zf Z Z h12 (ze (.dat _) Z) (bE H fun x14 h15 H=>zf Z Z h12 (wv tyU9 Z Z h15) (zf Z Z h12 (yy Z Z) (za (zv Z (bFF h13) Z) (qd Z (yn (j:=18) Z Z (fun h16 => ?_) (fun h16 => ?_) Z)))))
     ·exact u3 h16 H fun h17 H=>zf Z Z h16 (ze (.dat _) Z) (bE H fun l18 h19 H=>zf Z Z h16 (vh tyU9 Z Z Z h19) (bE H fun r20 h21 H=>zf Z Z h16 (zo (y3t l18 32 126 r20 h21) ⟨.inl Z,.inl Z,.inl Z,U⟩) (zf Z Z h16 (yt Z) (za (zv Z (bFF h17) Z) ⟨!r20,H,⟨Z,Z,U⟩,U⟩))))
     ·exact u4 h16 H fun h22 H=>zc Z Z h16 (zc Z Z h16 (zc Z Z h16 (zc Z Z h16 (za (ya Z (bTT h22) Z) ⟨true,H,⟨Z,Z,U⟩,U⟩))))
    ·exact u4 h12 H fun h23 H=>zc Z Z h12 (zc Z Z h12 (zc Z Z h12 (za (ya Z (bTT h23) Z) (qd Z (zc Z Z Z (zc Z Z Z (zc Z Z Z (zc Z Z Z (za (ya Z Z Z) ⟨true,H,⟨Z,Z,U⟩,U⟩)))))))))
   ·exact u4 h6 H fun h24 H=>zc Z Z h6 (zc Z Z h6 (zc Z Z h6 (zc Z Z h6 (za (ya Z (bTT h24) Z) (qd Z (zc Z Z Z (zc Z Z Z (zc Z Z Z (za (ya Z Z Z) (qd Z (zc Z Z Z (zc Z Z Z (zc Z Z Z (zc Z Z Z (za (ya Z Z Z) ⟨true,H,⟨Z,Z,U⟩,U⟩)))))))))))))))
  ·exact u4 h4 H fun h25 H=>zc Z Z h4 (zc Z Z h4 (zc Z Z h4 (za (ya Z (bTT h25) Z) (qd Z (zc Z Z Z (zc Z Z Z (zc Z Z Z (zc Z Z Z (za (ya Z Z Z) (qd Z (zc Z Z Z (zc Z Z Z (zc Z Z Z (za (ya Z Z Z) (qd Z (zc Z Z Z (zc Z Z Z (zc Z Z Z (zc Z Z Z (za (ya Z Z Z) ⟨true,H,⟨Z,Z,U⟩,U⟩))))))))))))))))))))
 ·rintro v26 H
  replace H:Qf r2 v26=some r:=H
  unfold Qf at H
  refine zh _ Z (fun h27 => ?_) (fun h27 => ?_)
  ·refine tE h27 H fun H=>zb hN Z (qe Z (qe Z (zk ?_)))
   cases H
   exact ⟨U,.inl Z,.inl Z,U⟩
  ·refine fE h27 H fun H=>zn (zb hN Z (qd Z (bE H fun l28 h29 H=>za (vh tyU9 Z Z Z h29) (bE H fun r30 h31 H=>za (zo (x5x l28 r30 h31) ⟨.inl Z,U⟩) (qd Z (za (zz Z Z) (za (zz Z Z) (qe Z (qe Z (zd (ww mixed hN Z Z (qd Z (qd Z (za (y6h (n:=r30.2) (show Tryz.prog.underlying 62=some (.interface (Tryz.prog.methodsAt 62)) from by kernel_rfl) Z) ?_))))))))))))))
   refine qe Z (qe Z ⟨Z,?_⟩)
   refine zk ?_
   cases H
   exact ⟨U,.inl Z,.inl Z,U⟩
theorem Zh (l1:(List zg)) (name2:Bs) (r:((List Bs))) (H:ve l1 name2=some r):Fn Tryz.prog 53 [vlst (List.map zy l1),vstr name2] (zr [vlst (List.map zx r)]):=by
 refine ⟨by kernel_rfl,yf (us:=[vlst (List.map zx r)]) Tryz.func53 Z Z Z Z fun X hN => ?_⟩
 unfold ve at H
 refine zb hN Z (qe Z (zb hN Z (qe Z (zd (zb hN Z (qd Z (za (qh kz Z) (qd Z (yc (ug 5 1 9 1 Z Z Z (gE H fun h6 H=>va (fun (k4:Nat) (s:(List Bs))=>[(1,.dat (vstr name2)),(5,.row 1 s.length),(8,.dat (vlst (List.map zy l1))),(9,.dat (vint (l1.length:Int))),(10,.dat (vint (k4:Int)))]) (fun (k4:Nat) (s:(List Bs))=>[(1,.row 9 1 (List.map zx s))]) [] H ⟨Z,Z,Z,Z,Z,U⟩ ⟨Z,U⟩ (fun _ _=>Z) ?_ ?_)))))))))))
 ·rintro l3 H
  replace H:y2u l3=some r:=H
  unfold y2u at H
  refine zb hN Z (za (ye Z Z) (zd (zh _ Z (fun h=>(lt_t h).elim) (fun h => ?_))))
  refine yz (zb hN Z (za (ze (.row _ _) Z) (za (qs (.row _ _) Z) (zk ?_))))
  cases H
  exact ⟨U,z4b Z Z,U⟩
 ·rintro k4 x7 l3 q5 h8 h9 H hq5
  replace H:z14 name2 k4 x7 l3=some q5:=H
  unfold z14 at H
  refine zb hN Z (za (ye Z Z) (zd (zh _ Z (fun h => ?_) (fun h=>(lt_f h8 h).elim))))
  refine zn (yg (ι:=(List Bs)) (fun i=>[(1,.dat (vstr name2)),(5,.row 1 i.length),(8,.dat (vlst (List.map zy l1))),(9,.dat (vint (l1.length:Int))),(10,.dat (vint (k4:Int)))]) (fun i=>[(1,.row 9 1 (List.map zx i))]) (fun i=>z43 i=some q5) (fun i=>Z) ?_ ?_)
  ·skip
   refine yc (zb hN Z (za (wj uy (fun _=>Z) Z Z h9) (za (xa vx Z (qp h9) Z) (zl (qt 2 ky Z) Z (zl (yx vx Z Z Z Z) Z (zb hN Z (zm (yr vx Z Z Z) Z (qd Z (bE H fun r10 h11 H=>za (zo (y3u x7 name2 r10 h11) ⟨.inl Z,.inl Z,U⟩) (zh _ Z (fun h12 => ?_) (fun h12 => ?_)))))))))))
   ·refine tE h12 H fun H=>zj hN Z (za (ze (.row _ _) Z) (za (zq y1g Z) (zm (zt tyS9 Z Z) Z (za (yd (u':=vlst (List.map zx [x7.Value])) (qj [[_]] qr ⟨Z,.inl ⟨_,Z,Z,Z⟩,Z,U⟩ Z Z) Z) (gE H fun h13 H=>zl (ke qr (fun _=>Z) Z Z Z ⟨by simp,by first | (simp; done) | simpa using h13⟩ Z) Z ?_)))))
    exact za (qs (.row _ _) Z) ⟨(l3++[x7.Value]),H,⟨Z,Z,Z,Z,Z,U⟩,⟨Z,U⟩⟩
   ·exact fE h12 H fun H=>zn ⟨l3,H,⟨Z,Z,Z,Z,Z,U⟩,⟨Z,U⟩⟩
  ·rintro out14 H
   replace H:z43 out14=some q5:=H
   unfold z43 at H
   exact zj hN Z (za (qy Z Z (by omega)) (qd Z ⟨_,qm H,⟨Z,Z,Z,Z,Z,U⟩,⟨Z,U⟩⟩))
theorem w65 (s1:Bs) (r:(Bool)) (H:z83 s1=some r):Fn Tryz.prog 146 [vstr s1] (zr [zi r]):=by
 refine ⟨by kernel_rfl,yf (us:=[zi r]) Tryz.func146 Z Z Z Z fun X hN => ?_⟩
 unfold z83 at H
 refine zb hN Z (qe Z (yg (ι:=Bool) (fun i=>[(2,.dat (zi i))]) (fun i=>[]) (fun i=>z0a i=some r) (fun i=>Z) ?_ ?_))
 ·skip
  refine zj hN Z (qd Z (za (jo Z Z) (qd Z (yn (j:=2) Z Z (fun h2 => ?_) (fun h2 => ?_) Z))))
  ·refine u1 h2 H fun h3 H=>zf Z Z h2 (ze (.dat _) Z) (bE H fun r4 h5 H=>zf Z Z h2 (zo (y8x s1 [48,49,50,51,52,53,54,55,56,57] r4 h5) ⟨.inl Z,.inl Z,U⟩) (zf Z Z h2 (vi Z Z) (za (ya Z (bTT h3) Z) (qd Z (yn (j:=7) Z Z (fun h6 => ?_) (fun h6 => ?_) Z)))))
   ·refine u1 h6 H fun h7 H=>zf Z Z h6 (ze (.dat _) Z) (bE H fun x8 h9 H=>zf Z Z h6 (wv tyU9 Z Z h9) (zf Z Z h6 (yy Z Z) (zf Z Z h6 (ze (.dat _) Z) (yn (j:=11) Z Z (fun h10 => ?_) (fun h10 => ?_) Z))))
    ·exact u3 h10 H fun h11 H=>zf Z Z h10 (ze (.dat _) Z) (zf Z Z h10 (vi Z Z) (zf Z Z h6 (zv Z (bFF h11) Z) (za (ya Z (bTT h7) Z) (qe Z ⟨decide (s1=[48]),H,⟨Z,U⟩,U⟩))))
    ·exact u4 h10 H fun h12 H=>zc Z Z h10 (zc Z Z h10 (zf Z Z h6 (ya Z (bTT h12) Z) (za (ya Z (bTT h7) Z) (qe Z ⟨true,H,⟨Z,U⟩,U⟩))))
   ·exact u2 h6 H fun h13 H=>zc Z Z h6 (zc Z Z h6 (zc Z Z h6 (zc Z Z h6 (yj Z Z (yj Z Z (zc Z Z h6 (za (zv Z (bFF h13) Z) (qe Z ⟨false,H,⟨Z,U⟩,U⟩))))))))
  ·exact u2 h2 H fun h14 H=>zc Z Z h2 (zc Z Z h2 (zc Z Z h2 (za (zv Z (bFF h14) Z) (qd Z (zc Z Z Z (zc Z Z Z (zc Z Z Z (zc Z Z Z (yj Z Z (yj Z Z (zc Z Z Z (za (zv Z Z Z) (qe Z ⟨false,H,⟨Z,U⟩,U⟩)))))))))))))
 ·rintro v15 H
  replace H:z0a v15=some r:=H
  unfold z0a at H
  refine zk ?_
  cases H
  exact ⟨U,.inl Z,U⟩
theorem w67 (l1:(List zg)) (hosts2:Int) (r:(Int)) (H:z84 l1 hosts2=some r):Fn Tryz.prog 78 [vlst (List.map zy l1),vint hosts2] (zr [vint r]):=by
 refine ⟨by kernel_rfl,yf (us:=[vint r]) Tryz.func78 Z Z Z Z fun X hN => ?_⟩
 unfold z84 at H
 refine zb hN Z (qe Z (zb hN Z (qd Z (bE H fun r3 h4 H=>za (zo (Zh l1 [99,111,110,116,101,110,116,45,108,101,110,103,116,104] r3 h4) ⟨.inl Z,.inl Z,U⟩) (qd Z (bE H fun r5 h6 H=>za (zo (Zh l1 [116,114,97,110,115,102,101,114,45,101,110,99,111,100,105,110,103] r5 h6) ⟨.inl Z,.inl Z,U⟩) (qe Z (qe Z (zd (yc (zb hN Z (qd Z (za (wb Z Z) (qd Z (yp Z Z (fun hc=>ze (.dat _) Z) (yp Z Z (fun hc=>qh wl (cnd (c:=(!(decide (1 < hosts2)))) hc)) (yp Z Z (fun hc=>wb (cnd (c:=(!(decide (1 < hosts2)))) hc) Z) (za (wy Z Z (fun hb=>(cnd (c:=(!(decide (1 < hosts2)))) (notI hb)))) (qd Z (yp Z Z (fun hc=>ze (.dat _) Z) (yp Z Z (fun hc=>qh wl (cnd (c:=(!((decide (1 < hosts2)) || (decide (1 < (r3.length:Int)))))) hc)) ?_)))))))))))))))))))))
 refine yp Z Z (fun hc=>wb (cnd (c:=(!((decide (1 < hosts2)) || (decide (1 < (r3.length:Int)))))) hc) Z) (za (wy Z Z (fun hb=>(cnd (c:=(!((decide (1 < hosts2)) || (decide (1 < (r3.length:Int)))))) (notI hb)))) (qe Z (zh _ Z (fun h7 => ?_) (fun h7 => ?_))))
 ·refine tE h7 H fun H=>zb hN Z (qe Z (zk ?_))
  cases H
  exact ⟨U,.inl Z,U⟩
 ·refine fE h7 H fun H=>zb hN Z (qd Z (za (qh wl Z) (za (yq Z Z) (qd Z (ql Z Z (fun hc=>ze (.dat _) Z) (ql Z Z (fun hc=>qh wl (cnd (c:=(decide ((r3.length:Int)=1))) hc)) (ql Z Z (fun hc=>yq (cnd (c:=(decide ((r3.length:Int)=1))) hc) Z) (za (wz Z (fun hb=>(cnd (c:=(decide ((r3.length:Int)=1))) hb)) Z) (qe Z (zh _ Z (fun h8 => ?_) (fun h8 => ?_)))))))))))
  ·refine tE h8 H fun H=>zb hN Z (qe Z (zk ?_))
   cases H
   exact ⟨U,.inl Z,U⟩
  ·refine fE h8 H fun H=>yg (ι:=Bool) (fun i=>[(33,.dat (zi i))]) (fun i=>[]) (fun i=>Yh i=some r) (fun i=>Z) ?_ ?_
   ·skip
    refine zj hN Z (qd Z (za (qh wl Z) (za (yq Z Z) (qd Z (yn (j:=3) Z Z (fun h9 => ?_) (fun h9 => ?_) Z)))))
    ·refine u1 h9 H fun h10 H=>zf Z Z h9 (ze (.dat _) Z) (bE H fun x11 h12 H=>zf Z Z h9 (wj vp (fun _=>Z) Z Z h12) (zf Z Z h9 (wh tyS9 Z (qp h12) Z) (bE H fun r13 h14 H=>zf Z Z h9 (zo (w65 x11 r13 h14) ⟨.inl Z,U⟩) (zf Z Z h9 (yt Z) (za (ya Z (bTT h10) Z) (qd Z (yn (j:=10) Z Z (fun h15 => ?_) (fun h15 => ?_) Z)))))))
     ·refine u3 h15 H fun h16 H=>zf Z Z h15 (ze (.dat _) Z) (zf Z Z h15 (qh wl Z) (zf Z Z h15 (yq Z Z) (zf Z Z h15 (ze (.dat _) Z) (yn (j:=14) Z Z (fun h17 => ?_) (fun h17 => ?_) Z))))
      ·exact u1 h17 H fun h18 H=>zf Z Z h17 (ze (.dat _) Z) (bE H fun x19 h20 H=>zf Z Z h17 (wj vp (fun _=>Z) Z Z h20) (zf Z Z h17 (wh tyS9 Z (qp h20) Z) (zf Z Z h17 (jo Z Z) (zf Z Z h15 (ya Z (bTT h18) Z) (za (zv Z (bFF h16) Z) (qe Z ⟨decide (x19≠[99,104,117,110,107,101,100]),H,⟨Z,U⟩,U⟩))))))
      ·exact u2 h17 H fun h21 H=>zc Z Z h17 (zc Z Z h17 (zc Z Z h17 (zc Z Z h17 (zf Z Z h15 (zv Z (bFF h21) Z) (za (zv Z (bFF h16) Z) (qe Z ⟨false,H,⟨Z,U⟩,U⟩))))))
     ·exact u4 h15 H fun h22 H=>zc Z Z h15 (zc Z Z h15 (zc Z Z h15 (zc Z Z h15 (yj Z Z (yj Z Z (yj Z Z (yj Z Z (zc Z Z h15 (za (ya Z (bTT h22) Z) (qe Z ⟨true,H,⟨Z,U⟩,U⟩))))))))))
    ·refine u2 h9 H fun h23 H=>zc Z Z h9 (zc Z Z h9 (zc Z Z h9 (zc Z Z h9 (zc Z Z h9 (za (zv Z (bFF h23) Z) (qd Z (zf Z Z Z (ze (.dat _) Z) (zf Z Z Z (qh wl Z) (zf Z Z Z (yq Z Z) (zf Z Z Z (ze (.dat _) Z) (yn (j:=14) Z Z (fun h24 => ?_) (fun h24 => ?_) Z)))))))))))
     ·exact u1 h24 H fun h25 H=>zf Z Z h24 (ze (.dat _) Z) (bE H fun x26 h27 H=>zf Z Z h24 (wj vp (fun _=>Z) Z Z h27) (zf Z Z h24 (wh tyS9 Z (qp h27) Z) (zf Z Z h24 (jo Z Z) (zf Z Z Z (ya Z (bTT h25) Z) (za (zv Z Z Z) (qe Z ⟨decide (x26≠[99,104,117,110,107,101,100]),H,⟨Z,U⟩,U⟩))))))
     ·exact u2 h24 H fun h28 H=>zc Z Z h24 (zc Z Z h24 (zc Z Z h24 (zc Z Z h24 (zf Z Z Z (zv Z (bFF h28) Z) (za (zv Z Z Z) (qe Z ⟨false,H,⟨Z,U⟩,U⟩))))))
   ·rintro v29 H
    replace H:Yh v29=some r:=H
    unfold Yh at H
    refine zh _ Z (fun h30 => ?_) (fun h30 => ?_)
    ·refine tE h30 H fun H=>zb hN Z (qe Z (zk ?_))
     cases H
     exact ⟨U,.inl Z,U⟩
    ·refine fE h30 H fun H=>zn (zb hN Z (qe Z (zk ?_)))
     cases H
     exact ⟨U,.inl Z,U⟩
theorem w6s (s1:Bs) (base2:Int) (bitSize3:Int) (r:(Int×Int)) (H:y7w s1 base2 bitSize3=some r):Fn Tryz.prog 244 [vstr s1,vint base2,vint bitSize3] (zr [vint r.1,verr r.2]):=by
 refine ⟨by kernel_rfl,yf (us:=[vint r.1,verr r.2]) Tryz.func244 Z Z Z Z fun X hN => ?_⟩
 unfold y7w at H
 refine zb hN Z (qe Z (qe Z (zb hN Z (qd Z (qd Z (qd Z (bE H fun r4 h5 H=>za (zo (x6k s1 base2 bitSize3 r4 h5) ⟨.inl Z,.inl Z,.inl Z,U⟩) (qd Z (za (zz Z Z) (za (zz Z Z) (qe Z (qe Z (zd (zb hN Z (qd Z (za (z8d (n:=r4.2) (show Tryz.prog.underlying 62=some (.interface (Tryz.prog.methodsAt 62)) from by kernel_rfl) Z) ?_))))))))))))))))
 refine zh _ Z (fun h6 => ?_) (fun h6 => ?_)
 ·refine tE h6 H fun H=>zb hN Z (qd Z (qd Z (qd Z (qd Z (qd Z (bE H fun r7 h8 H=>za (zo (y8z [80,97,114,115,101,73,110,116] s1 base2 bitSize3 r4.2 r7 h8) ⟨.inl Z,.inl Z,.inl Z,.inl Z,.inl Z,U⟩) (qe Z (qe Z (zk ?_)))))))))
  cases H
  exact ⟨U,.inl Z,.inl Z,U⟩
 ·refine fE h6 H fun H=>zn (zb hN Z (qd Z (qe Z (qe Z (zk ?_)))))
  cases H
  exact ⟨U,.inl Z,.inl Z,U⟩
theorem w69 (s1:Bs) (r:(Int×Bool)) (H:y73 s1=some r):Fn Tryz.prog 200 [vstr s1] (zr [vint r.1,zi r.2]):=by
 refine ⟨by kernel_rfl,yf (us:=[vint r.1,zi r.2]) Tryz.func200 Z Z Z Z fun X hN => ?_⟩
 unfold y73 at H
 refine zb hN Z (qe Z (qe Z (zd (yg (ι:=Bool) (fun i=>[(0,.dat (vstr s1)),(26,.dat (zi i))]) (fun i=>[]) (fun i=>z0b s1 i=some r) (fun i=>Z) ?_ ?_))))
 ·skip
  refine zj hN Z (qd Z (za (vi Z Z) (qd Z (yn (j:=2) Z Z (fun h2 => ?_) (fun h2 => ?_) Z))))
  ·refine u3 h2 H fun h3 H=>zf Z Z h2 (ze (.dat _) Z) (zf Z Z h2 (qi tyU9 Z) (zf Z Z h2 (wb Z Z) (za (zv Z (bFF h3) Z) (qd Z (yn (j:=7) Z Z (fun h4 => ?_) (fun h4 => ?_) Z)))))
   ·refine u3 h4 H fun h5 H=>zf Z Z h4 (ze (.dat _) Z) (bE H fun r6 h7 H=>zf Z Z h4 (zo (y8x s1 [48,49,50,51,52,53,54,55,56,57,97,98,99,100,101,102] r6 h7) ⟨.inl Z,.inl Z,U⟩) (zf Z Z h4 (jo Z Z) (za (zv Z (bFF h5) Z) (qd Z (yn (j:=12) Z Z (fun h8 => ?_) (fun h8 => ?_) Z)))))
    ·refine u3 h8 H fun h9 H=>zf Z Z h8 (ze (.dat _) Z) (bE H fun x10 h11 H=>zf Z Z h8 (wv tyU9 Z Z h11) (zf Z Z h8 (yq Z Z) (zf Z Z h8 (ze (.dat _) Z) (yn (j:=16) Z Z (fun h12 => ?_) (fun h12 => ?_) Z))))
     ·exact u1 h12 H fun h13 H=>zf Z Z h12 (ze (.dat _) Z) (zf Z Z h12 (jo Z Z) (zf Z Z h8 (ya Z (bTT h13) Z) (za (zv Z (bFF h9) Z) ⟨decide (s1≠[48]),H,⟨Z,Z,U⟩,U⟩)))
     ·exact u2 h12 H fun h14 H=>zc Z Z h12 (zc Z Z h12 (zf Z Z h8 (zv Z (bFF h14) Z) (za (zv Z (bFF h9) Z) ⟨false,H,⟨Z,Z,U⟩,U⟩)))
    ·exact u4 h8 H fun h15 H=>zc Z Z h8 (zc Z Z h8 (zc Z Z h8 (zc Z Z h8 (yj Z Z (yj Z Z (zc Z Z h8 (za (ya Z (bTT h15) Z) ⟨true,H,⟨Z,Z,U⟩,U⟩)))))))
   ·exact u4 h4 H fun h16 H=>zc Z Z h4 (zc Z Z h4 (zc Z Z h4 (za (ya Z (bTT h16) Z) (qd Z (zc Z Z Z (zc Z Z Z (zc Z Z Z (zc Z Z Z (yj Z Z (yj Z Z (zc Z Z Z (za (ya Z Z Z) ⟨true,H,⟨Z,Z,U⟩,U⟩))))))))))))
  ·exact u4 h2 H fun h17 H=>zc Z Z h2 (zc Z Z h2 (zc Z Z h2 (za (ya Z (bTT h17) Z) (qd Z (zc Z Z Z (zc Z Z Z (zc Z Z Z (za (ya Z Z Z) (qd Z (zc Z Z Z (zc Z Z Z (zc Z Z Z (zc Z Z Z (yj Z Z (yj Z Z (zc Z Z Z (za (ya Z Z Z) ⟨true,H,⟨Z,Z,U⟩,U⟩)))))))))))))))))
 ·rintro v18 H
  replace H:z0b s1 v18=some r:=H
  unfold z0b at H
  refine zh _ Z (fun h19 => ?_) (fun h19 => ?_)
  ·refine tE h19 H fun H=>zb hN Z (qe Z (qe Z (zk ?_)))
   cases H
   exact ⟨U,.inl Z,.inl Z,U⟩
  ·refine fE h19 H fun H=>zn (zb hN Z (qd Z (bE H fun r20 h21 H=>za (zo (w6s s1 16 64 r20 h21) ⟨.inl Z,.inl Z,.inl Z,U⟩) (qd Z (za (zz Z Z) (za (zz Z Z) (qe Z (qe Z (zd (ww mixed hN Z Z (qd Z (qd Z (za (y6h (n:=r20.2) (show Tryz.prog.underlying 62=some (.interface (Tryz.prog.methodsAt 62)) from by kernel_rfl) Z) ?_)))))))))))))
   refine qe Z (qe Z ⟨Z,?_⟩)
   refine zk ?_
   cases H
   exact ⟨U,.inl Z,.inl Z,U⟩
theorem w6d (l1:(List Int)) (r:(Int×(List Int))) (H:y7v l1=some r):FnG Tryz.prog 69 [.ptr 0 0] [(0,.box (some 0) 60 [.nptr 0,.row 1 l1.length]),(1,.row 5 1 (List.map yw l1))] (.dat (zr [vint r.1])) [(0,.box (some 0) 60 [.nptr 0,.row 900 r.2.length]),(900,.row 5 1 (List.map yw r.2))]:=by
 refine vy (by kernel_rfl) Tryz.func69 Z Z Z Z fun X A hN => ?_
 refine wi ?_
 unfold y7v at H
 refine zb hN Z (qe Z (zb hN Z (za (ze (.ptr _ _) Z) (za (qn Z) (za (zq z7u Z) (zm (zt z7p Z Z) Z (zm (Wp z1e Z Z) Z (qe Z (zk ?_)))))))))
 cases H
 show Cv _ _ _ _
 exact wc (rn [(1,900)]) [(2,.dat (vint (l1.length:Int)))] [(0,.box (some (A.bl 0)) 60 [.nptr 0,.row 1 l1.length]),(1,.row 5 1 (List.map yw l1))] ⟨Z,U⟩ ⟨Z,Z,U⟩ Z Z ⟨U,[(2,.dat (vint (l1.length:Int)))],⟨Z,U⟩,⟨Z,Z,U⟩,Z,.inl ⟨[vint (l1.length:Int)],⟨Z,U⟩,Z⟩⟩
theorem w7d (s1:Bs) (r:(Bs×Int×Int)) (H:y74 s1=some r):Fn Tryz.prog 147 [vstr s1] (zr [vstr r.1,vint r.2.1,vint r.2.2]):=by
 refine ⟨by kernel_rfl,yf (us:=[vstr r.1,vint r.2.1,vint r.2.2]) Tryz.func147 Z Z Z Z fun X hN => ?_⟩
 unfold y74 at H
 refine zb hN Z (qe Z (qe Z (qe Z (zb hN Z (zl (qt 1 z35 Z) Z (z7b 1 0 (.nptr 1) Z Z z4q (Yv 1 1 2 5 1 Z Z Z Z (zb hN Z (qe Z (yc (xo (fun (s:Int×(List Int))=>[(0,.dat (vstr s1)),(5,.ptr 1 0),(6,.dat (vint s.1))]) (fun (s:Int×(List Int))=>[(1,.box none 60 [.nptr 1,.row 2 s.2.length]),(2,.row 5 1 (List.map yw s.2))]) (0,([]:List Int)) H ⟨Z,Z,Z,U⟩ ⟨Z,Z,U⟩ (fun _=>Z) ?_)))))))))))
 rintro ⟨v2,l3⟩ q4 H hq4
 replace H:y7p s1 v2 l3=some q4:=H
 unfold y7p at H
 refine wi (yc (zb hN Z (qd Z (qd Z (bE H fun l5 h6 H=>za (vh tyU9 Z Z Z h6) (bE H fun r7 h8 H=>za (zo (z0v l5 [13,10] r7 h8) ⟨.inl Z,.inl Z,U⟩) (qd Z (za (zz Z Z) (za (zz Z Z) (za (zz Z Z) (qe Z (qe Z (qe Z (zb hN Z (qd Z (bE H fun r9 h10 H=>za (zo (w69 r7.1 r9 h10) ⟨.inl Z,U⟩) (qd Z (za (zz Z Z) (za (zz Z Z) (qe Z ?_))))))))))))))))))))
 refine qe Z (zd (zb hN Z (qd Z (za (yt Z) (qd Z (yp Z Z (fun hc=>ze (.dat _) Z) (yp Z Z (fun hc=>yt (cnd (c:=(!(!r7.2.2))) hc)) (za (wy Z Z (fun hb=>(cnd (c:=(!(!r7.2.2))) (notI hb)))) (zh _ Z (fun h11 => ?_) (fun h11 => ?_))))))))))
 ·refine tE h11 H fun H=>zb hN Z (qe Z (qe Z (qe Z (zk ?_))))
  replace H:=retl H hq4
  cases H
  show Cv _ _ _ _
  exact wd ⟨U,.inl Z,.inl Z,.inl Z,U⟩
 ·refine fE h11 H fun H=>zn (zd (zb hN Z (bE H fun r12 h13 H=>qk (rn [(0,1),(1,2),(900,3)]) [(0,_,_,some _),(1,_,_,none)] [(900,_)] (w6d l3 r12 h13) ⟨Z,Z,Z,U⟩ ⟨.inl (.inl Z),U⟩ ⟨⟨⟨Z,Z⟩,U⟩,⟨⟨Z,Z,Z⟩,U⟩,U⟩ Z (qd Z (za (ym _ Z Z (.inl ⟨Z,Z⟩)) (za (wb Z Z) (zh _ Z (fun h14 => ?_) (fun h14 => ?_))))))))
  ·refine tE h14 H fun H=>zb hN Z (qe Z (qe Z (qe Z (zk ?_))))
   replace H:=retl H hq4
   cases H
   show Cv _ _ _ _
   exact wd ⟨U,.inl Z,.inl Z,.inl Z,U⟩
  ·refine fE h14 H fun H=>zn (zd (yg (ι:=Bool) (fun i=>[(0,.dat (vstr s1)),(5,.ptr 1 0),(6,.dat (vint v2)),(7,.dat (vstr r7.1)),(8,.dat (vstr r7.2.1)),(10,.dat (vint r9.1)),(47,.dat (zi i))]) (fun i=>[(1,.box none 60 [.nptr 1,.row 3 r12.2.length]),(3,.row 5 1 (List.map yw r12.2))]) (fun i=>z8q v2 r7 r9 r12 i=some q4) (fun i=>Z) ?_ ?_))
   ·refine wi (zj hN Z (qd Z (za (qi tyU9 Z) (qd Z (za (ym _ Z Z (.inl ⟨Z,Z⟩)) (za (ye Z Z) (qd Z (yn (j:=5) Z Z (fun h15 => ?_) (fun h15 => ?_) Z))))))))
    ·refine u3 h15 H fun h16 H=>zf Z Z h15 (ze (.dat _) Z) (zf Z Z h15 (ze (.dat _) Z) (zf Z Z h15 (ze (.dat _) Z) (zf Z Z h15 (ym _ Z Z (.inl ⟨Z,Z⟩)) (bE H fun l17 h18 H=>zf Z Z h15 (vh tyU9 Z Z Z h18) (zf Z Z h15 (jo Z Z) (za (zv Z (bFF h16) Z) (wm ?_)))))))
     show Cv _ _ _ _
     exact wd ⟨decide (l17≠[13,10]),H,⟨Z,Z,Z,Z,Z,Z,Z,U⟩,⟨Z,Z,U⟩⟩
    ·refine u4 h15 H fun h19 H=>zc Z Z h15 (zc Z Z h15 (zc Z Z h15 (zc Z Z h15 (zc Z Z h15 (zc Z Z h15 (za (ya Z (bTT h19) Z) (wm ?_)))))))
     show Cv _ _ _ _
     exact wd ⟨true,H,⟨Z,Z,Z,Z,Z,Z,Z,U⟩,⟨Z,Z,U⟩⟩
   ·rintro v20 H
    replace H:z8q v2 r7 r9 r12 v20=some q4:=H
    unfold z8q at H
    refine zh _ Z (fun h21 => ?_) (fun h21 => ?_)
    ·refine tE h21 H fun H=>zb hN Z (qe Z (qe Z (qe Z (zk ?_))))
     replace H:=retl H hq4
     cases H
     show Cv _ _ _ _
     exact wd ⟨U,.inl Z,.inl Z,.inl Z,U⟩
    ·refine fE h21 H fun H=>zn (zb hN Z (qd Z (qd Z (za (qi tyU9 Z) (za (ym _ Z Z (.inl ⟨Z,Z⟩)) (qd Z (za (ym _ Z Z (.inl ⟨Z,Z⟩)) (za (ym _ Z Z (.inl ⟨Z,Z⟩)) (za (ym _ Z Z (.inl ⟨Z,Z⟩)) (qe Z (zd (zb hN Z (qd Z (za (yq Z Z) (zh _ Z (fun h22 => ?_) (fun h22 => ?_))))))))))))))))
     ·refine tE h22 H fun H=>zb hN Z (gE H fun h23 H=>qk (rn [(0,1),(1,3)]) [(0,_,_,none),(1,_,_,none)] [] (z6a h23 (C:=yw) (fun _=>Z)) ⟨Z,Z,U⟩ ⟨.inl (.inl Z),U⟩ ⟨⟨⟨Z,Z⟩,U⟩,⟨⟨Z,Z,Z⟩,U⟩,U⟩ Z (qd Z (qe Z (qe Z (qe Z (zk ?_))))))
      replace H:=retl H hq4
      cases H
      show Cv _ _ _ _
      exact wd ⟨U,.inl Z,.inl Z,.inl Z,U⟩
     ·refine fE h22 H fun H=>zn (zj hN Z (qd Z (qd Z (bE H fun l24 h25 H=>za (vh tyU9 Z Z Z h25) (bE H fun r26 h27 H=>qk (rn [(0,1),(1,3),(900,4)]) [(0,_,_,some _),(1,_,_,none)] [(900,_)] (Zx r12.2 l24 r26 h27) ⟨Z,Z,Z,U⟩ ⟨.inl (.inl Z),.inl (.inl Z),U⟩ ⟨⟨⟨Z,Z⟩,U⟩,⟨⟨Z,Z,Z⟩,U⟩,U⟩ Z (wm ?_))))))
      show Cv _ _ _ _
      exact wc (rn [(4,2)]) [(0,.dat (vstr s1)),(5,.ptr 1 0),(6,.dat (vint (wr (v2+(wr ((wr ((wr ((r7.1.length:Int)+2))+r9.1))+2))))))] [(1,.box none 60 [.nptr 1,.row 4 r26.2.2.length]),(4,.row 5 1 (List.map yw r26.2.2))] ⟨Z,Z,Z,U⟩ ⟨Z,Z,U⟩ Z Z ⟨_,qm H,⟨Z,Z,Z,U⟩,⟨Z,Z,U⟩⟩
theorem w6k (s p:Bs) (r:Bs) (H:z5c s p=some r):Fn Tryz.prog 245 [vstr s,vstr p] (zr [vstr r]):=by
 unfold z5c at H
 cases H
 refine Yb (by kernel_rfl) fun M w vs hM h => ?_
 have hv:=ui (us:=[.string ⟨s.toArray⟩,.string ⟨p.toArray⟩]) h
 subst hv
 refine (Tryz.strings_TrimPrefix ⟨s.toArray⟩ ⟨p.toArray⟩ w).mono ?_
 rintro e w' ⟨rfl,rfl⟩
 exact ⟨_,Z,Z,Kp.refl _ _⟩

end Go.Proofs.YtahcnngcpjkpgabGreatDoor
