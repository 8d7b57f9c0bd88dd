/- Walks along the models. Printed by a program. -/
import Derived.Test.YtkldmhhbbceaoaaGreatDoorZqw2
namespace Go.Proofs.YtkldmhhbbceaoaaGreatDoor
open Go.RowKit
set_option linter.unusedVariables false
set_option maxRecDepth 100000
set_option maxHeartbeats 2000000
theorem y9s (v1:Bs) (v2:Int) (v3:Int) (r:(Int×Int)) (H:z8z v1 v2 v3=some r):Fn Tryz.prog 214 [vstr v1,vint v2,vint v3] (zu [vval (.int .u64 r.1),verr r.2]):=by
 refine ⟨by kernel_rfl,yj (us:=[vval (.int .u64 r.1),verr r.2]) Tryz.func214 Z Z Z Z fun X hN => ?_⟩
 unfold z8z at H
 refine zb hN Z (qe Z (qe Z (zi (zb hN Z (qd Z (za (vx Z Z) (zg _ Z (fun h4 => ?_) (fun h4 => ?_))))))))
 ·refine tE h4 H fun H=>zb hN Z (za (zw (u':=verr 2) (jn (show Tryz.prog.underlying 198=some (.int .i64) from by kernel_rfl) Z) Z) ?_)
  refine qe Z (qe Z (zk ?_))
  cases H
  exact ⟨U,.inl Z,.inl Z,U⟩
 ·refine fE h4 H fun H=>zn (zb hN Z (qd Z (za (yo Z Z) (qe Z (zb hN Z (qd Z (qe Z (yd (ι:=Bs×Int) (fun i=>[(0,.dat (vstr i.1)),(1,.dat (vint i.2)),(2,.dat (vint v3)),(8,.dat (ze (decide (v2=0)))),(9,.dat (vstr v1))]) (fun i=>[]) (fun i=>xh v1 v2 v3 i.1 i.2=some r) (fun i=>Z) ?_ ?_))))))))
  ·skip
   refine ye (zb hN Z (qd Z (za (we Z Z) (qd Z (yt Z Z (fun hc=>zd (.dat _) Z) (yt Z Z (fun hc=>we (cnd (c:=(decide (2≤v2))) hc) Z) (za (qw Z (fun hb=>(cnd (c:=(decide (2≤v2))) hb)) Z) (qe Z (zg _ Z (fun h5 => ?_) (fun h5 => ?_))))))))))
   ·exact tE h5 H fun H=>zn ⟨(v1,v2),H,⟨Z,Z,Z,Z,Z,U⟩,U⟩
   ·refine fE h5 H fun H=>zb hN Z (qd Z (za (yo Z Z) (qe Z (zg _ Z (fun h6 => ?_) (fun h6 => ?_)))))
    ·refine tE h6 H fun H=>zb hN Z (qe Z (zb hN Z (qd Z (bE H fun x7 h8 H=>za (qm tyU9 Z Z h8) (za (yo Z Z) (zg _ Z (fun h9 => ?_) (fun h9 => ?_)))))))
     ·refine tE h9 H fun H=>ye (yd (ι:=Bool) (fun i=>[(0,.dat (vstr v1)),(2,.dat (vint v3)),(8,.dat (ze (decide (v2=0)))),(9,.dat (vstr v1)),(40,.dat (ze i))]) (fun i=>[]) (fun i=>z30 v1 v2 v3 i=some r) (fun i=>Z) ?_ ?_)
      ·skip
       refine zp hN Z (qd Z (za (yw tyU9 Z) (za (wy Z Z) (qd Z (yf (j:=3) Z Z (fun h10 => ?_) (fun h10 => ?_) Z)))))
       ·exact u1 h10 H fun h11 H=>zf Z Z h10 (zd (.dat _) Z) (bE H fun x12 h13 H=>zf Z Z h10 (qm tyU9 Z Z h13) (bE H fun r14 h15 H=>zf Z Z h10 (zl (jq (x12.toNat:Int) r14 h15) ⟨.inl Z,U⟩) (zf Z Z h10 (yo Z Z) (za (zy Z (bTT h11) Z) (qe Z ⟨decide (r14=98),H,⟨Z,Z,Z,Z,Z,U⟩,U⟩)))))
       ·exact u2 h10 H fun h16 H=>zc Z Z h10 (zc Z Z h10 (zc Z Z h10 (zc Z Z h10 (za (zq Z (bFF h16) Z) (qe Z ⟨false,H,⟨Z,Z,Z,Z,Z,U⟩,U⟩)))))
      ·rintro v17 H
       replace H:z30 v1 v2 v3 v17=some r:=H
       unfold z30 at H
       refine zg _ Z (fun h18 => ?_) (fun h18 => ?_)
       ·exact tE h18 H fun H=>zb hN Z (qe Z (zp hN Z (qd Z (bE H fun l19 h20 H=>za (vp tyU9 Z Z Z h20) (qe Z ⟨(l19,2),H,⟨Z,Z,Z,Z,Z,U⟩,U⟩)))))
       ·refine fE h18 H fun H=>yd (ι:=Bool) (fun i=>[(0,.dat (vstr v1)),(2,.dat (vint v3)),(8,.dat (ze (decide (v2=0)))),(9,.dat (vstr v1)),(52,.dat (ze i))]) (fun i=>[]) (fun i=>z3z v1 v2 v3 i=some r) (fun i=>Z) ?_ ?_
        ·skip
         refine zp hN Z (qd Z (za (yw tyU9 Z) (za (wy Z Z) (qd Z (yf (j:=3) Z Z (fun h21 => ?_) (fun h21 => ?_) Z)))))
         ·exact u1 h21 H fun h22 H=>zf Z Z h21 (zd (.dat _) Z) (bE H fun x23 h24 H=>zf Z Z h21 (qm tyU9 Z Z h24) (bE H fun r25 h26 H=>zf Z Z h21 (zl (jq (x23.toNat:Int) r25 h26) ⟨.inl Z,U⟩) (zf Z Z h21 (yo Z Z) (za (zy Z (bTT h22) Z) (qe Z ⟨decide (r25=111),H,⟨Z,Z,Z,Z,Z,U⟩,U⟩)))))
         ·exact u2 h21 H fun h27 H=>zc Z Z h21 (zc Z Z h21 (zc Z Z h21 (zc Z Z h21 (za (zq Z (bFF h27) Z) (qe Z ⟨false,H,⟨Z,Z,Z,Z,Z,U⟩,U⟩)))))
        ·rintro v28 H
         replace H:z3z v1 v2 v3 v28=some r:=H
         unfold z3z at H
         refine zg _ Z (fun h29 => ?_) (fun h29 => ?_)
         ·exact tE h29 H fun H=>zb hN Z (qe Z (zp hN Z (qd Z (bE H fun l30 h31 H=>za (vp tyU9 Z Z Z h31) (qe Z ⟨(l30,8),H,⟨Z,Z,Z,Z,Z,U⟩,U⟩)))))
         ·refine fE h29 H fun H=>yd (ι:=Bool) (fun i=>[(0,.dat (vstr v1)),(2,.dat (vint v3)),(8,.dat (ze (decide (v2=0)))),(9,.dat (vstr v1)),(64,.dat (ze i))]) (fun i=>[]) (fun i=>z3y v1 v2 v3 i=some r) (fun i=>Z) ?_ ?_
          ·skip
           refine zp hN Z (qd Z (za (yw tyU9 Z) (za (wy Z Z) (qd Z (yf (j:=3) Z Z (fun h32 => ?_) (fun h32 => ?_) Z)))))
           ·exact u1 h32 H fun h33 H=>zf Z Z h32 (zd (.dat _) Z) (bE H fun x34 h35 H=>zf Z Z h32 (qm tyU9 Z Z h35) (bE H fun r36 h37 H=>zf Z Z h32 (zl (jq (x34.toNat:Int) r36 h37) ⟨.inl Z,U⟩) (zf Z Z h32 (yo Z Z) (za (zy Z (bTT h33) Z) (qe Z ⟨decide (r36=120),H,⟨Z,Z,Z,Z,Z,U⟩,U⟩)))))
           ·exact u2 h32 H fun h38 H=>zc Z Z h32 (zc Z Z h32 (zc Z Z h32 (zc Z Z h32 (za (zq Z (bFF h38) Z) (qe Z ⟨false,H,⟨Z,Z,Z,Z,Z,U⟩,U⟩)))))
          ·rintro v39 H
           replace H:z3y v1 v2 v3 v39=some r:=H
           unfold z3y at H
           refine zg _ Z (fun h40 => ?_) (fun h40 => ?_)
           ·exact tE h40 H fun H=>zb hN Z (qe Z (zp hN Z (qd Z (bE H fun l41 h42 H=>za (vp tyU9 Z Z Z h42) (qe Z ⟨(l41,16),H,⟨Z,Z,Z,Z,Z,U⟩,U⟩)))))
           ·exact fE h40 H fun H=>zb hN Z (qe Z (zp hN Z (qd Z (bE H fun l43 h44 H=>za (vp tyU9 Z Z Z h44) (qe Z ⟨(l43,8),H,⟨Z,Z,Z,Z,Z,U⟩,U⟩)))))
     ·exact fE h9 H fun H=>zn ⟨(v1,10),H,⟨Z,Z,Z,Z,Z,U⟩,U⟩
    ·refine fE h6 H fun H=>zb hN Z (za (zw (u':=verr 3) (jn (show Tryz.prog.underlying 198=some (.int .i64) from by kernel_rfl) Z) Z) ?_)
     refine qe Z (qe Z (zk ?_))
     cases H
     exact ⟨U,.inl Z,.inl Z,U⟩
  ·rintro ⟨v45,v46⟩ H
   replace H:xh v1 v2 v3 v45 v46=some r:=H
   unfold xh at H
   refine yd (ι:=Int) (fun i=>[(0,.dat (vstr v45)),(1,.dat (vint v46)),(2,.dat (vint i)),(8,.dat (ze (decide (v2=0)))),(9,.dat (vstr v1))]) (fun i=>[]) (fun i=>z3x v1 v2 v45 v46 i=some r) (fun i=>Z) ?_ ?_
   ·skip
    refine zb hN Z (qd Z (za (yo Z Z) (zg _ Z (fun h47 => ?_) (fun h47 => ?_))))
    ·exact tE h47 H fun H=>zp hN Z (qe Z ⟨64,H,⟨Z,Z,Z,Z,Z,U⟩,U⟩)
    ·refine fE h47 H fun H=>zb hN Z (qd Z (za (yb Z Z) (qd Z (yy Z Z (fun hc=>zd (.dat _) Z) (yy Z Z (fun hc=>qs (cnd (c:=(!(decide (v3 < 0)))) hc) Z) (za (vj Z Z (fun hb=>(cnd (c:=(!(decide (v3 < 0)))) (notI hb)))) (zg _ Z (fun h48 => ?_) (fun h48 => ?_))))))))
     ·refine tE h48 H fun H=>zb hN Z (za (zw (u':=verr 4) (jn (show Tryz.prog.underlying 198=some (.int .i64) from by kernel_rfl) Z) Z) ?_)
      refine qe Z (qe Z (zk ?_))
      cases H
      exact ⟨U,.inl Z,.inl Z,U⟩
     ·exact fE h48 H fun H=>zn ⟨v3,H,⟨Z,Z,Z,Z,Z,U⟩,U⟩
   ·rintro v49 H
    replace H:z3x v1 v2 v45 v46 v49=some r:=H
    unfold z3x at H
    refine zb hN Z (qe Z (yd (ι:=Int) (fun i=>[(0,.dat (vstr v45)),(1,.dat (vint v46)),(2,.dat (vint v49)),(8,.dat (ze (decide (v2=0)))),(9,.dat (vstr v1)),(10,.dat (vval (.int .u64 i)))]) (fun i=>[]) (fun i=>z07 v1 v2 v45 v46 v49 i=some r) (fun i=>Z) ?_ ?_))
    ·skip
     refine zb hN Z (qd Z (ye (zb hN Z (za (yo Z Z) (qe Z (zg _ Z (fun h50 => ?_) (fun h50 => ?_)))))))
     ·exact tE h50 H fun H=>zp hN Z (qe Z ⟨1844674407370955162,H,⟨Z,Z,Z,Z,Z,Z,U⟩,U⟩)
     ·refine fE h50 H fun H=>zb hN Z (za (yo Z Z) (qe Z (zg _ Z (fun h51 => ?_) (fun h51 => ?_))))
      ·exact tE h51 H fun H=>zp hN Z (qe Z ⟨1152921504606846976,H,⟨Z,Z,Z,Z,Z,Z,U⟩,U⟩)
      ·exact fE h51 H fun H=>zp hN Z (qd Z (za (kd tyU3 We Z) (gE H fun h52 H=>za (y55 Z Z h52) (za (qk _ Z Z (.inl ⟨Z,Z⟩)) (qe Z ⟨IntKind.wrap .u64 ((IntKind.wrap .u64 (Int.tdiv 18446744073709551615 (IntKind.wrap .u64 v46)))+1),H,⟨Z,Z,Z,Z,Z,Z,U⟩,U⟩)))))
    ·rintro v53 H
     replace H:z07 v1 v2 v45 v46 v49 v53=some r:=H
     unfold z07 at H
     refine zb hN Z (qd Z (za (kd tyU3 y0s Z) (gE H fun h54 H=>za (zw (y1f Z Z h54) Z) (za (qk _ Z Z (.inr (.inl ⟨Z,Z⟩))) (qe Z (zb hN Z (qe Z (zb hN Z (qe Z (zi (zb hN Z (qd Z (za (y1n (C:=Wb) tyU9 z4o tyU5 (fun _=>Z) Z) (za (qg z4o Z) (qd Z (ye (gE H fun h59 H=>qu (fun (k57:Nat) (s:Bool×Int)=>[(1,.dat (vint v46)),(8,.dat (ze (decide (v2=0)))),(9,.dat (vstr v1)),(10,.dat (vval (.int .u64 v53))),(11,.dat (vval (.int .u64 (IntKind.wrap .u64 ((shl_ .u64 1 (IntKind.wrap .u64 v49)) - 1))))),(12,.dat (ze s.1)),(13,.dat (vval (.int .u64 s.2))),(99,.dat (vlst (List.map Wb (ww v45)))),(100,.dat (vint ((ww v45).length:Int))),(101,.dat (vint (k57:Int)))]) (fun (k57:Nat) (s:Bool×Int)=>[]) (false,0) H ⟨Z,Z,Z,Z,Z,Z,Z,Z,Z,Z,U⟩ U (fun _ _=>Z) ?_ ?_)))))))))))))))))
     ·rintro ⟨v55,v56⟩ H
      replace H:z9j v1 v55 v56=some r:=H
      unfold z9j at H
      refine zb hN Z (za (yb Z Z) (zi (zg _ Z (fun h=>(lt_t h).elim) (fun h => ?_))))
      refine yx (zi (yd (ι:=Bool) (fun i=>[(13,.dat (vval (.int .u64 v56))),(169,.dat (ze i))]) (fun i=>[]) (fun i=>z3w v56 i=some r) (fun i=>Z) ?_ ?_))
      ·skip
       refine zp hN Z (qd Z (qd Z (yf (j:=1) Z Z (fun h61 => ?_) (fun h61 => ?_) Z)))
       ·exact u1 h61 H fun h62 H=>zf Z Z h61 (zd (.dat _) Z) (bE H fun r63 h64 H=>zf Z Z h61 (zl (y9r v1 r63 h64) ⟨.inl Z,U⟩) (zf Z Z h61 (yp Z) (za (zy Z (bTT h62) Z) ⟨!r63,H,⟨Z,Z,U⟩,U⟩)))
       ·exact u2 h61 H fun h65 H=>zc Z Z h61 (zc Z Z h61 (zc Z Z h61 (za (zq Z (bFF h65) Z) ⟨false,H,⟨Z,Z,U⟩,U⟩)))
      ·rintro v66 H
       replace H:z3w v56 v66=some r:=H
       unfold z3w at H
       refine zg _ Z (fun h67 => ?_) (fun h67 => ?_)
       ·refine tE h67 H fun H=>zb hN Z (za (zw (u':=verr 2) (jn (show Tryz.prog.underlying 198=some (.int .i64) from by kernel_rfl) Z) Z) ?_)
        refine qe Z (qe Z (zk ?_))
        cases H
        exact ⟨U,.inl Z,.inl Z,U⟩
       ·refine fE h67 H fun H=>zn (zb hN Z (qd Z (qe Z (qe Z (zk ?_)))))
        cases H
        exact ⟨U,.inl Z,.inl Z,U⟩
     ·rintro k57 x60 ⟨v55,v56⟩ q58 h68 h69 H hq58
      replace H:z9i v2 v46 v49 v53 k57 x60 v55 v56=some q58:=H
      unfold z9i at H
      refine zb hN Z (za (yb Z Z) (zi (zg _ Z (fun h => ?_) (fun h=>(lt_f h68 h).elim))))
      refine zn (yd (ι:=Bool×Int) (fun i=>[(1,.dat (vint v46)),(8,.dat (ze (decide (v2=0)))),(9,.dat (vstr v1)),(10,.dat (vval (.int .u64 v53))),(11,.dat (vval (.int .u64 (IntKind.wrap .u64 ((shl_ .u64 1 (IntKind.wrap .u64 v49)) - 1))))),(12,.dat (ze i.1)),(13,.dat (vval (.int .u64 i.2))),(99,.dat (vlst (List.map Wb (ww v45)))),(100,.dat (vint ((ww v45).length:Int))),(101,.dat (vint (k57:Int)))]) (fun i=>[]) (fun i=>z3v i.1 i.2=some q58) (fun i=>Z) ?_ ?_)
      ·skip
       refine ye (zb hN Z (za (wi y03 (fun _=>Z) Z Z h69) (za (qx tyS5 Z (ql h69) Z) (qe Z (zb hN Z (qe Z (yd (ι:=Int) (fun i=>[(1,.dat (vint v46)),(8,.dat (ze (decide (v2=0)))),(9,.dat (vstr v1)),(10,.dat (vval (.int .u64 v53))),(11,.dat (vval (.int .u64 (IntKind.wrap .u64 ((shl_ .u64 1 (IntKind.wrap .u64 v49)) - 1))))),(12,.dat (ze v55)),(13,.dat (vval (.int .u64 v56))),(16,.dat (vval (.int .u8 i))),(99,.dat (vlst (List.map Wb (ww v45)))),(100,.dat (vint ((ww v45).length:Int))),(101,.dat (vint (k57:Int)))]) (fun i=>[]) (fun i=>z33 v46 v49 v53 v55 v56 i=some q58) (fun i=>Z) ?_ ?_)))))))
       ·skip
        refine ye (zb hN Z (qd Z (za (yo Z Z) (qd Z (yt Z Z (fun hc=>zd (.dat _) Z) (za (qw Z (fun hb=>(cnd (c:=(decide (x60=95))) hb)) Z) (qe Z (zg _ Z (fun h70 => ?_) (fun h70 => ?_)))))))))
        ·exact tE h70 H fun H=>zb hN Z (qe Z (yx ⟨(true,v56),H,⟨Z,Z,Z,Z,Z,Z,Z,Z,Z,Z,U⟩,U⟩))
        ·refine fE h70 H fun H=>zb hN Z (qd Z (za (we Z Z) (qd Z (yt Z Z (fun hc=>zd (.dat _) Z) (yt Z Z (fun hc=>we (cnd (c:=(decide (48≤x60))) hc) Z) (za (qw Z (fun hb=>(cnd (c:=(decide (48≤x60))) hb)) Z) (qe Z (zg _ Z (fun h71 => ?_) (fun h71 => ?_)))))))))
         ·exact tE h71 H fun H=>zp hN Z (qd Z (za (qk _ Z Z (.inr (.inl ⟨Z,Z⟩))) (qe Z ⟨IntKind.wrap .u8 (x60 - 48),H,⟨Z,Z,Z,Z,Z,Z,Z,Z,Z,Z,Z,U⟩,U⟩)))
         ·refine fE h71 H fun H=>yd (ι:=Bool) (fun i=>[(1,.dat (vint v46)),(8,.dat (ze (decide (v2=0)))),(9,.dat (vstr v1)),(10,.dat (vval (.int .u64 v53))),(11,.dat (vval (.int .u64 (IntKind.wrap .u64 ((shl_ .u64 1 (IntKind.wrap .u64 v49)) - 1))))),(12,.dat (ze v55)),(13,.dat (vval (.int .u64 v56))),(15,.dat (vval (.int .u8 x60))),(99,.dat (vlst (List.map Wb (ww v45)))),(100,.dat (vint ((ww v45).length:Int))),(101,.dat (vint (k57:Int))),(121,.dat (ze i))]) (fun i=>[]) (fun i=>z32 v46 v49 v53 v55 v56 x60 i=some q58) (fun i=>Z) ?_ ?_
          ·skip
           refine zp hN Z (qd Z (bE H fun r72 h73 H=>za (zl (jq x60 r72 h73) ⟨.inl Z,U⟩) (za (we Z Z) (qd Z (yf (j:=3) Z Z (fun h74 => ?_) (fun h74 => ?_) Z)))))
           ·exact u1 h74 H fun h75 H=>zf Z Z h74 (zd (.dat _) Z) (bE H fun r76 h77 H=>zf Z Z h74 (zl (jq x60 r76 h77) ⟨.inl Z,U⟩) (zf Z Z h74 (we Z Z) (za (zy Z (bTT h75) Z) (qe Z ⟨decide (r76≤122),H,⟨Z,Z,Z,Z,Z,Z,Z,Z,Z,Z,Z,Z,U⟩,U⟩))))
           ·exact u2 h74 H fun h78 H=>zc Z Z h74 (zc Z Z h74 (zc Z Z h74 (za (zq Z (bFF h78) Z) (qe Z ⟨false,H,⟨Z,Z,Z,Z,Z,Z,Z,Z,Z,Z,Z,Z,U⟩,U⟩))))
          ·rintro v79 H
           replace H:z32 v46 v49 v53 v55 v56 x60 v79=some q58:=H
           unfold z32 at H
           refine zg _ Z (fun h80 => ?_) (fun h80 => ?_)
           ·exact tE h80 H fun H=>zp hN Z (qd Z (bE H fun r81 h82 H=>za (zl (jq x60 r81 h82) ⟨.inl Z,U⟩) (za (qk _ Z Z (.inr (.inl ⟨Z,Z⟩))) (za (qk _ Z Z (.inl ⟨Z,Z⟩)) (qe Z ⟨IntKind.wrap .u8 ((IntKind.wrap .u8 (r81 - 97))+10),H,⟨Z,Z,Z,Z,Z,Z,Z,Z,Z,Z,Z,U⟩,U⟩)))))
           ·refine fE h80 H fun H=>zb hN Z (za (zw (u':=verr 2) (jn (show Tryz.prog.underlying 198=some (.int .i64) from by kernel_rfl) Z) Z) ?_)
            refine qe Z (qe Z (zk ?_))
            replace H:=retl H hq58
            cases H
            exact ⟨U,.inl Z,.inl Z,U⟩
       ·rintro v83 H
        replace H:z33 v46 v49 v53 v55 v56 v83=some q58:=H
        unfold z33 at H
        refine zi (zb hN Z (qd Z (qd Z (za (kd tyU3 tyU5 Z) (za (wy Z Z) (zg _ Z (fun h84 => ?_) (fun h84 => ?_)))))))
        ·refine tE h84 H fun H=>zb hN Z (za (zw (u':=verr 2) (jn (show Tryz.prog.underlying 198=some (.int .i64) from by kernel_rfl) Z) Z) ?_)
         refine qe Z (qe Z (zk ?_))
         replace H:=retl H hq58
         cases H
         exact ⟨U,.inl Z,.inl Z,U⟩
        ·refine fE h84 H fun H=>zn (zi (zb hN Z (qd Z (qd Z (za (wy Z Z) (zg _ Z (fun h85 => ?_) (fun h85 => ?_)))))))
         ·refine tE h85 H fun H=>zb hN Z (qd Z (za (zw (u':=verr 1) (jn (show Tryz.prog.underlying 198=some (.int .i64) from by kernel_rfl) Z) Z) ?_))
          refine qe Z (qe Z (zk ?_))
          replace H:=retl H hq58
          cases H
          exact ⟨U,.inl Z,.inl Z,U⟩
         ·refine fE h85 H fun H=>zn (zb hN Z (qd Z (qd Z (za (kd tyU3 We Z) (za (qk _ Z Z (.inr (.inr ⟨Z,Z⟩))) (qe Z (zb hN Z (qd Z (qd Z (za (kd tyU5 We Z) (za (qk _ Z Z (.inl ⟨Z,Z⟩)) (qe Z (zi (zb hN Z (qd Z (qd Z (za (yb Z Z) (qd Z (yy Z Z (fun hc=>zd (.dat _) Z) (yy Z Z (fun hc=>zd (.dat _) Z) (yy Z Z (fun hc=>qs (cnd (c:=(!(decide ((IntKind.wrap .u64 ((IntKind.wrap .u64 (v56 * (IntKind.wrap .u64 v46)))+(IntKind.wrap .u64 v83))) < (IntKind.wrap .u64 (v56 * (IntKind.wrap .u64 v46))))))) hc) (cnd (c:=(!(decide ((IntKind.wrap .u64 ((IntKind.wrap .u64 (v56 * (IntKind.wrap .u64 v46)))+(IntKind.wrap .u64 v83))) < (IntKind.wrap .u64 (v56 * (IntKind.wrap .u64 v46))))))) hc)) (za (vj Z Z (fun hb=>(cnd (c:=(!(decide ((IntKind.wrap .u64 ((IntKind.wrap .u64 (v56 * (IntKind.wrap .u64 v46)))+(IntKind.wrap .u64 v83))) < (IntKind.wrap .u64 (v56 * (IntKind.wrap .u64 v46))))))) (notI hb)))) ?_))))))))))))))))))))))
          refine zg _ Z (fun h86 => ?_) (fun h86 => ?_)
          ·refine tE h86 H fun H=>zb hN Z (qd Z (za (zw (u':=verr 1) (jn (show Tryz.prog.underlying 198=some (.int .i64) from by kernel_rfl) Z) Z) ?_))
           refine qe Z (qe Z (zk ?_))
           replace H:=retl H hq58
           cases H
           exact ⟨U,.inl Z,.inl Z,U⟩
          ·exact fE h86 H fun H=>zn (zp hN Z (qd Z (qe Z ⟨(v55,IntKind.wrap .u64 ((IntKind.wrap .u64 (v56 * (IntKind.wrap .u64 v46)))+(IntKind.wrap .u64 v83))),H,⟨Z,Z,Z,Z,Z,Z,Z,Z,Z,Z,U⟩,U⟩)))
      ·rintro ⟨v87,v88⟩ H
       replace H:z3v v87 v88=some q58:=H
       unfold z3v at H
       exact zp hN Z (za (qj Z Z (by omega)) (qd Z ⟨_,qa H,⟨Z,Z,Z,Z,Z,Z,Z,Z,Z,Z,U⟩,U⟩))
theorem y9t (v1:Bs) (v2:Int) (v3:Int) (r:(Int×Int)) (H:z80 v1 v2 v3=some r):Fn Tryz.prog 201 [vstr v1,vint v2,vint v3] (zu [vint r.1,verr r.2]):=by
 refine ⟨by kernel_rfl,yj (us:=[vint r.1,verr r.2]) Tryz.func201 Z Z Z Z fun X hN => ?_⟩
 unfold z80 at H
 refine zb hN Z (qe Z (qe Z (zi (zb hN Z (qd Z (za (vx Z Z) (zg _ Z (fun h4 => ?_) (fun h4 => ?_))))))))
 ·refine tE h4 H fun H=>zb hN Z (za (zw (u':=verr 2) (jn (show Tryz.prog.underlying 198=some (.int .i64) from by kernel_rfl) Z) Z) ?_)
  refine qe Z (qe Z (zk ?_))
  cases H
  exact ⟨U,.inl Z,.inl Z,U⟩
 ·refine fE h4 H fun H=>zn (zb hN Z (qe Z (yd (ι:=Bs×Bool) (fun i=>[(0,.dat (vstr i.1)),(1,.dat (vint v2)),(2,.dat (vint v3)),(8,.dat (ze i.2))]) (fun i=>[]) (fun i=>z08 v2 v3 i.1 i.2=some r) (fun i=>Z) ?_ ?_)))
  ·skip
   refine zb hN Z (qd Z (bE H fun x5 h6 H=>za (qm tyU9 Z Z h6) (ye (zb hN Z (za (yo Z Z) (qe Z (zg _ Z (fun h7 => ?_) (fun h7 => ?_))))))))
   ·exact tE h7 H fun H=>zp hN Z (qd Z (bE H fun l8 h9 H=>za (vp tyU9 Z Z Z h9) (qe Z ⟨(l8,false),H,⟨Z,Z,Z,Z,U⟩,U⟩)))
   ·refine fE h7 H fun H=>zb hN Z (za (yo Z Z) (qe Z (zg _ Z (fun h10 => ?_) (fun h10 => ?_))))
    ·exact tE h10 H fun H=>zb hN Z (qd Z (bE H fun l11 h12 H=>za (vp tyU9 Z Z Z h12) (qe Z (zp hN Z (qe Z ⟨(l11,true),H,⟨Z,Z,Z,Z,U⟩,U⟩)))))
    ·exact fE h10 H fun H=>zn ⟨(v1,false),H,⟨Z,Z,Z,Z,U⟩,U⟩
  ·rintro ⟨v13,v14⟩ H
   replace H:z08 v2 v3 v13 v14=some r:=H
   unfold z08 at H
   refine zb hN Z (qe Z (zb hN Z (qd Z (qd Z (qd Z (bE H fun r15 h16 H=>za (zl (y9s v13 v2 v3 r15 h16) ⟨.inl Z,.inl Z,.inl Z,U⟩) (qd Z (za (yc Z Z) (za (yc Z Z) (qe Z (qe Z (zi (yd (ι:=Bool) (fun i=>[(2,.dat (vint v3)),(7,.dat (verr r15.2)),(8,.dat (ze v14)),(9,.dat (vval (.int .u64 r15.1))),(38,.dat (ze i))]) (fun i=>[]) (fun i=>z36 v3 v14 r15 i=some r) (fun i=>Z) ?_ ?_)))))))))))))
   ·skip
    refine zp hN Z (qd Z (za (y1l (n:=r15.2) (show Tryz.prog.underlying 92=some (.interface (Tryz.prog.methodsAt 92)) from by kernel_rfl) Z) ?_))
    refine qd Z (yf (j:=2) Z Z (fun h17 => ?_) (fun h17 => ?_) Z)
    ·refine u1 h17 H fun h18 H=>zf Z Z h17 (zd (.dat _) Z) (zf Z Z h17 (zw (u':=verr 1) (jn (show Tryz.prog.underlying 198=some (.int .i64) from by kernel_rfl) Z) Z) ?_)
     refine gE H fun h19 H=>zf Z Z h17 (y6i (n:=r15.2) (m:=1) (show Tryz.prog.underlying 92=some (.interface (Tryz.prog.methodsAt 92)) from by kernel_rfl) (by kernel_rfl) (by kernel_rfl) Z Z h19 (by decide)) ?_
     exact za (zy Z (bTT h18) Z) ⟨decide (r15.2≠1),H,⟨Z,Z,Z,Z,Z,U⟩,U⟩
    ·exact u2 h17 H fun h20 H=>zc Z Z h17 (zc Z Z h17 (zc Z Z h17 (za (zq Z (bFF h20) Z) ⟨false,H,⟨Z,Z,Z,Z,Z,U⟩,U⟩)))
   ·rintro v21 H
    replace H:z36 v3 v14 r15 v21=some r:=H
    unfold z36 at H
    refine zg _ Z (fun h22 => ?_) (fun h22 => ?_)
    ·refine tE h22 H fun H=>zb hN Z (qd Z (qe Z (qe Z (zk ?_))))
     cases H
     exact ⟨U,.inl Z,.inl Z,U⟩
    ·refine fE h22 H fun H=>zn (yd (ι:=Int) (fun i=>[(2,.dat (vint i)),(8,.dat (ze v14)),(9,.dat (vval (.int .u64 r15.1)))]) (fun i=>[]) (fun i=>z35 v14 r15 i=some r) (fun i=>Z) ?_ ?_)
     ·skip
      refine zb hN Z (qd Z (za (yo Z Z) (zg _ Z (fun h23 => ?_) (fun h23 => ?_))))
      ·exact tE h23 H fun H=>zp hN Z (qe Z ⟨64,H,⟨Z,Z,Z,U⟩,U⟩)
      ·exact fE h23 H fun H=>zn ⟨v3,H,⟨Z,Z,Z,U⟩,U⟩
     ·rintro v24 H
      replace H:z35 v14 r15 v24=some r:=H
      unfold z35 at H
      refine zb hN Z (qd Z (za (qk _ Z Z (.inr (.inl ⟨Z,Z⟩))) (za (kd tyU3 y0s Z) (gE H fun h25 H=>za (zw (y1f Z Z h25) Z) (qe Z (zi (zb hN Z (qd Z (za (yp Z) (qd Z (yt Z Z (fun hc=>zd (.dat _) Z) (yt Z Z (fun hc=>zd (.dat _) Z) (yt Z Z (fun hc=>wy (cnd (c:=(!v14)) hc) (cnd (c:=(!v14)) hc)) (za (qw Z (fun hb=>(cnd (c:=(!v14)) hb)) Z) (zg _ Z (fun h26 => ?_) (fun h26 => ?_))))))))))))))))
      ·refine tE h26 H fun H=>zb hN Z (qd Z (za (qk _ Z Z (.inr (.inl ⟨Z,Z⟩))) (za (kd We tyU2 Z) (za (zw (u':=verr 1) (jn (show Tryz.prog.underlying 198=some (.int .i64) from by kernel_rfl) Z) Z) ?_))))
       refine qe Z (qe Z (zk ?_))
       cases H
       exact ⟨U,.inl Z,.inl Z,U⟩
      ·refine fE h26 H fun H=>zn (zi (zb hN Z (qd Z (qd Z (yt Z Z (fun hc=>zd (.dat _) Z) (yt Z Z (fun hc=>zd (.dat _) Z) (yt Z Z (fun hc=>qs (cnd (c:=v14) hc) (cnd (c:=v14) hc)) (za (qw Z (fun hb=>(cnd (c:=v14) hb)) Z) (zg _ Z (fun h27 => ?_) (fun h27 => ?_))))))))))
       ·refine tE h27 H fun H=>zb hN Z (qd Z (za (kd We tyU2 Z) (za (y1i Z) (za (zw (u':=verr 1) (jn (show Tryz.prog.underlying 198=some (.int .i64) from by kernel_rfl) Z) Z) ?_))))
        refine qe Z (qe Z (zk ?_))
        cases H
        exact ⟨U,.inl Z,.inl Z,U⟩
       ·refine fE h27 H fun H=>zn (zb hN Z (qd Z (za (kd We tyU2 Z) (qe Z (yd (ι:=Int) (fun i=>[(11,.dat (vint i))]) (fun i=>[]) (fun i=>z34 i=some r) (fun i=>Z) ?_ ?_)))))
        ·skip
         refine zb hN Z (qd Z (zg _ Z (fun h28 => ?_) (fun h28 => ?_)))
         ·exact tE h28 H fun H=>zp hN Z (qd Z (za (y1i Z) (qe Z ⟨(wr (-(IntKind.wrap .i64 r15.1))),H,⟨Z,U⟩,U⟩)))
         ·exact fE h28 H fun H=>zn ⟨IntKind.wrap .i64 r15.1,H,⟨Z,U⟩,U⟩
        ·rintro v29 H
         replace H:z34 v29=some r:=H
         unfold z34 at H
         refine zb hN Z (qd Z (qe Z (qe Z (zk ?_))))
         cases H
         exact ⟨U,.inl Z,.inl Z,U⟩
theorem y9u (v1:Bs) (r:(Int×Int)) (H:Ye v1=some r):Fn Tryz.prog 174 [vstr v1] (zu [vint r.1,verr r.2]):=by
 refine ⟨by kernel_rfl,yj (us:=[vint r.1,verr r.2]) Tryz.func174 Z Z Z Z fun X hN => ?_⟩
 unfold Ye at H
 refine zb hN Z (qe Z (qe Z (zb hN Z (qd Z (za (yw tyU9 Z) (qe Z (zi (zb hN Z (qd Z (yt (s := .dat (vint (v1.length:Int))) Z Z (fun hc=>zd (.dat _) Z) (yt (s := .dat (ze (decide (0 < (v1.length:Int))))) Z Z (fun hc=>yb Z (cnd (c:=false) (s := .dat (vint (v1.length:Int))) hc)) (yt (s := .dat (ze (decide (0 < (v1.length:Int))))) Z Z (fun hc=>zd (.dat _) (cnd (c:=false) (s := .dat (ze (decide (0 < (v1.length:Int))))) hc)) (wv (s := .dat (vint (v1.length:Int))) (c:=false) (b:=decide (0 < (v1.length:Int))) Z Z (fun hc=>zd (.dat _) Z) (wv (s := .dat (ze (decide ((v1.length:Int) < 10)))) (c:=false) (b:=decide (0 < (v1.length:Int))) Z Z (fun hc=>yb (cnd (c:=(false && (decide (0 < (v1.length:Int))))) (s := .dat (vint (v1.length:Int))) hc) Z) (yt (s := .dat (ze ((decide (0 < (v1.length:Int))) && (decide ((v1.length:Int) < 10))))) Z Z (fun hc=>qw (cnd (c:=false) (s := .dat (ze (decide (0 < (v1.length:Int))))) hc) (fun hb=>(cnd (c:=(false && (decide (0 < (v1.length:Int))))) (s := .dat (ze (decide ((v1.length:Int) < 10)))) (andI hc hb))) Z) (za (qw Z (fun hb=>(cnd (c:=false) (s := .dat (ze ((decide (0 < (v1.length:Int))) && (decide ((v1.length:Int) < 10))))) hb)) Z) (qd Z (yy (s := .dat (ze true)) Z Z (fun hc=>zd (.dat _) Z) (wv (s := .dat (vint (v1.length:Int))) (c:=(!(false && ((decide (0 < (v1.length:Int))) && (decide ((v1.length:Int) < 10)))))) (b:=true) Z Z (fun hc=>zd (.dat _) Z) (wv (s := .dat (ze (decide (0 < (v1.length:Int))))) (c:=(!(false && ((decide (0 < (v1.length:Int))) && (decide ((v1.length:Int) < 10)))))) (b:=true) Z Z (fun hc=>yb Z (cnd (c:=((!(false && ((decide (0 < (v1.length:Int))) && (decide ((v1.length:Int) < 10))))) && true)) (s := .dat (vint (v1.length:Int))) hc)) (wv (s := .dat (ze (decide (0 < (v1.length:Int))))) (c:=(!(false && ((decide (0 < (v1.length:Int))) && (decide ((v1.length:Int) < 10)))))) (b:=true) Z Z (fun hc=>zd (.dat _) (cnd (c:=((!(false && ((decide (0 < (v1.length:Int))) && (decide ((v1.length:Int) < 10))))) && true)) (s := .dat (ze (decide (0 < (v1.length:Int))))) hc)) (wv (s := .dat (vint (v1.length:Int))) (c:=((!(false && ((decide (0 < (v1.length:Int))) && (decide ((v1.length:Int) < 10))))) && true)) (b:=decide (0 < (v1.length:Int))) Z Z (fun hc=>zd (.dat _) Z) (wv (s := .dat (ze (decide ((v1.length:Int) < 19)))) (c:=((!(false && ((decide (0 < (v1.length:Int))) && (decide ((v1.length:Int) < 10))))) && true)) (b:=decide (0 < (v1.length:Int))) Z Z (fun hc=>yb (cnd (c:=(((!(false && ((decide (0 < (v1.length:Int))) && (decide ((v1.length:Int) < 10))))) && true) && (decide (0 < (v1.length:Int))))) (s := .dat (vint (v1.length:Int))) hc) Z) ?_)))))))))))))))))))))))
 refine wv (s := .dat (ze ((decide (0 < (v1.length:Int))) && (decide ((v1.length:Int) < 19))))) (c:=(!(false && ((decide (0 < (v1.length:Int))) && (decide ((v1.length:Int) < 10)))))) (b:=true) Z Z (fun hc=>qw (cnd (c:=((!(false && ((decide (0 < (v1.length:Int))) && (decide ((v1.length:Int) < 10))))) && true)) (s := .dat (ze (decide (0 < (v1.length:Int))))) hc) (fun hb=>(cnd (c:=(((!(false && ((decide (0 < (v1.length:Int))) && (decide ((v1.length:Int) < 10))))) && true) && (decide (0 < (v1.length:Int))))) (s := .dat (ze (decide ((v1.length:Int) < 19)))) (andI hc hb))) Z) (yy (s := .dat (ze (true && ((decide (0 < (v1.length:Int))) && (decide ((v1.length:Int) < 19)))))) Z Z (fun hc=>qw (cnd (c:=(!(false && ((decide (0 < (v1.length:Int))) && (decide ((v1.length:Int) < 10)))))) (s := .dat (ze true)) hc) (fun hb=>(cnd (c:=((!(false && ((decide (0 < (v1.length:Int))) && (decide ((v1.length:Int) < 10))))) && true)) (s := .dat (ze ((decide (0 < (v1.length:Int))) && (decide ((v1.length:Int) < 19))))) (andI hc hb))) Z) (za (vj Z Z (fun hb=>(cnd (c:=(!(false && ((decide (0 < (v1.length:Int))) && (decide ((v1.length:Int) < 10)))))) (s := .dat (ze (true && ((decide (0 < (v1.length:Int))) && (decide ((v1.length:Int) < 19)))))) (notI hb)))) (zg _ Z (fun h2 => ?_) (fun h2 => ?_))))
 ·refine tE h2 H fun H=>zb hN Z (qd Z (qe Z (yd (ι:=Bs) (fun i=>[(0,.dat (vstr i)),(5,.dat (vstr v1))]) (fun i=>[]) (fun i=>Yp v1 i=some r) (fun i=>Z) ?_ ?_)))
  ·skip
   refine yd (ι:=Bool) (fun i=>[(0,.dat (vstr v1)),(5,.dat (vstr v1)),(39,.dat (ze i))]) (fun i=>[]) (fun i=>Yo v1 i=some r) (fun i=>Z) ?_ ?_
   ·skip
    refine zp hN Z (qd Z (bE H fun x3 h4 H=>za (qm tyU9 Z Z h4) (za (yo Z Z) (qd Z (yf (j:=3) Z Z (fun h5 => ?_) (fun h5 => ?_) Z)))))
    ·exact u3 h5 H fun h6 H=>zf Z Z h5 (zd (.dat _) Z) (zf Z Z h5 (qm tyU9 Z Z h4) (zf Z Z h5 (yo Z Z) (za (zq Z (bFF h6) Z) ⟨decide ((x3.toNat:Int)=43),H,⟨Z,Z,Z,U⟩,U⟩)))
    ·exact u4 h5 H fun h7 H=>zc Z Z h5 (zc Z Z h5 (zc Z Z h5 (za (zy Z (bTT h7) Z) ⟨true,H,⟨Z,Z,Z,U⟩,U⟩)))
   ·rintro v8 H
    replace H:Yo v1 v8=some r:=H
    unfold Yo at H
    refine zg _ Z (fun h9 => ?_) (fun h9 => ?_)
    ·refine tE h9 H fun H=>zb hN Z (qd Z (bE H fun l10 h11 H=>za (vp tyU9 Z Z Z h11) (qe Z (zb hN Z (qd Z (za (yw tyU9 Z) (za (yb Z Z) (zg _ Z (fun h12 => ?_) (fun h12 => ?_)))))))))
     ·refine tE h12 H fun H=>zb hN Z (za (zw (u':=verr 2) (jn (show Tryz.prog.underlying 198=some (.int .i64) from by kernel_rfl) Z) Z) ?_)
      refine qe Z (qe Z (zk ?_))
      cases H
      exact ⟨U,.inl Z,.inl Z,U⟩
     ·exact fE h12 H fun H=>zn ⟨l10,H,⟨Z,Z,U⟩,U⟩
    ·exact fE h9 H fun H=>zn ⟨v1,H,⟨Z,Z,U⟩,U⟩
  ·rintro v13 H
   replace H:Yp v1 v13=some r:=H
   unfold Yp at H
   refine zb hN Z (qe Z (zi (zb hN Z (qd Z (za (y1n (C:=Wb) tyU9 z4o tyU5 (fun _=>Z) Z) (za (qg z4o Z) (qd Z (ye (gE H fun h17 H=>qu (fun (k15:Nat) (s:Int)=>[(5,.dat (vstr v1)),(6,.dat (vint s)),(47,.dat (vlst (List.map Wb (ww v13)))),(48,.dat (vint ((ww v13).length:Int))),(49,.dat (vint (k15:Int)))]) (fun (k15:Nat) (s:Int)=>[]) 0 H ⟨Z,Z,Z,Z,Z,U⟩ U (fun _ _=>Z) ?_ ?_)))))))))
   ·rintro v14 H
    replace H:Yq v1 v14=some r:=H
    unfold Yq at H
    refine zb hN Z (za (yb Z Z) (zi (zg _ Z (fun h=>(lt_t h).elim) (fun h => ?_))))
    refine yx (yd (ι:=Int) (fun i=>[(6,.dat (vint i))]) (fun i=>[]) (fun i=>Yn i=some r) (fun i=>Z) ?_ ?_)
    ·skip
     refine zb hN Z (qd Z (bE H fun x19 h20 H=>za (qm tyU9 Z Z h20) (za (yo Z Z) (zg _ Z (fun h21 => ?_) (fun h21 => ?_)))))
     ·exact tE h21 H fun H=>zp hN Z (qd Z (gE H fun h22 H=>za (y58 Z h22) (qe Z ⟨(-v14),H,⟨Z,U⟩,U⟩)))
     ·exact fE h21 H fun H=>zn ⟨v14,H,⟨Z,U⟩,U⟩
    ·rintro v23 H
     replace H:Yn v23=some r:=H
     unfold Yn at H
     refine zb hN Z (qd Z (qe Z (qe Z (zk ?_))))
     cases H
     exact ⟨U,.inl Z,.inl Z,U⟩
   ·rintro k15 x18 v14 q16 h24 h25 H hq16
    replace H:z09 k15 x18 v14=some q16:=H
    unfold z09 at H
    refine zb hN Z (za (yb Z Z) (zi (zg _ Z (fun h => ?_) (fun h=>(lt_f h24 h).elim))))
    refine zn (zi (ye (zb hN Z (za (wi y03 (fun _=>Z) Z Z h25) (za (qx tyS5 Z (ql h25) Z) (qe Z (zb hN Z (qd Z (za (qk _ Z Z (.inr (.inl ⟨Z,Z⟩))) (qe Z (zi (zb hN Z (qd Z (za (qs Z Z) (zg _ Z (fun h26 => ?_) (fun h26 => ?_))))))))))))))))
    ·refine tE h26 H fun H=>zb hN Z (za (zw (u':=verr 2) (jn (show Tryz.prog.underlying 198=some (.int .i64) from by kernel_rfl) Z) Z) ?_)
     refine qe Z (qe Z (zk ?_))
     replace H:=retl H hq16
     cases H
     exact ⟨U,.inl Z,.inl Z,U⟩
    ·exact fE h26 H fun H=>zn (zp hN Z (qd Z (za (qk _ Z Z (.inr (.inr ⟨Z,Z⟩))) (qd Z (za (kd tyU5 tyU3 Z) (za (qk _ Z Z (.inl ⟨Z,Z⟩)) (qe Z (zp hN Z (za (qj Z Z (by omega)) (qd Z ⟨_,qa H,⟨Z,Z,Z,Z,Z,U⟩,U⟩))))))))))
 ·refine fE h2 H fun H=>zn (zb hN Z (qd Z (bE H fun r27 h28 H=>za (zl (y9t v1 10 0 r27 h28) ⟨.inl Z,.inl Z,.inl Z,U⟩) (qd Z (za (yc Z Z) (za (yc Z Z) (qe Z (qe Z (zb hN Z (qd Z (qd Z (qe Z (qe Z (zk ?_))))))))))))))
  cases H
  exact ⟨U,.inl Z,.inl Z,U⟩
theorem y9c (fn s:Bs) (base bits e r:Int) (H:y2v fn s base bits e=some r):Fn Tryz.prog 175 [vstr fn,vstr s,vint base,vint bits,verr e] (zu [verr r]):=by cases H
theorem y24 (s1:Bs) (r:(Int×Int)) (H:uy s1=some r):Fn Tryz.prog 135 [vstr s1] (zu [vint r.1,verr r.2]):=by
 refine ⟨by kernel_rfl,yj (us:=[vint r.1,verr r.2]) Tryz.func135 Z Z Z Z fun X hN => ?_⟩
 unfold uy at H
 refine zb hN Z (qe Z (qe Z (zb hN Z (qd Z (bE H fun r2 h3 H=>za (zl (y9u s1 r2 h3) ⟨.inl Z,U⟩) (qd Z (za (yc Z Z) (za (yc Z Z) (qe Z (qe Z (zi (zb hN Z (qd Z (za (y1l (n:=r2.2) (show Tryz.prog.underlying 92=some (.interface (Tryz.prog.methodsAt 92)) from by kernel_rfl) Z) ?_))))))))))))))
 refine zg _ Z (fun h4 => ?_) (fun h4 => ?_)
 ·refine tE h4 H fun H=>zb hN Z (qd Z (qd Z (qd Z (bE H fun r5 h6 H=>za (zl (y9c [65,116,111,105] s1 0 0 r2.2 r5 h6) ⟨.inl Z,.inl Z,.inl Z,.inl Z,.inl Z,U⟩) (qe Z (qe Z (zk ?_)))))))
  cases H
  exact ⟨U,.inl Z,.inl Z,U⟩
 ·refine fE h4 H fun H=>zn (zb hN Z (qd Z (qe Z (qe Z (zk ?_)))))
  cases H
  exact ⟨U,.inl Z,.inl Z,U⟩
theorem y9o (s1:Bs) (most2:Int) (r:(Int×Bool)) (H:z0i s1 most2=some r):Fn Tryz.prog 169 [vstr s1,vint most2] (zu [vint r.1,ze r.2]):=by
 refine ⟨by kernel_rfl,yj (us:=[vint r.1,ze r.2]) Tryz.func169 Z Z Z Z fun X hN => ?_⟩
 unfold z0i at H
 refine zb hN Z (qe Z (qe Z (zb hN Z (qd Z (bE H fun r3 h4 H=>za (zl (y20 s1 [45] r3 h4) ⟨.inl Z,.inl Z,U⟩) (qe Z (zi (yd (ι:=Bool) (fun i=>[(0,.dat (vstr s1)),(6,.dat (vstr r3)),(28,.dat (ze i))]) (fun i=>[]) (fun i=>jp s1 r3 i=some r) (fun i=>Z) ?_ ?_))))))))
 ·skip
  refine zp hN Z (qd Z (za (vx Z Z) (qd Z (yf (j:=2) Z Z (fun h5 => ?_) (fun h5 => ?_) Z))))
  ·refine u3 h5 H fun h6 H=>zf Z Z h5 (zd (.dat _) Z) (zf Z Z h5 (yw tyU9 Z) (zf Z Z h5 (zd (.dat _) Z) (zf Z Z h5 (qs Z Z) (za (zq Z (bFF h6) Z) (qd Z (yf (j:=8) Z Z (fun h7 => ?_) (fun h7 => ?_) Z))))))
   ·refine u3 h7 H fun h8 H=>zf Z Z h7 (zd (.dat _) Z) (bE H fun x9 h10 H=>zf Z Z h7 (qm tyU9 Z Z h10) (zf Z Z h7 (yo Z Z) (zf Z Z h7 (zd (.dat _) Z) (yf (j:=12) Z Z (fun h11 => ?_) (fun h11 => ?_) Z))))
    ·exact u1 h11 H fun h12 H=>zf Z Z h11 (zd (.dat _) Z) (zf Z Z h11 (kn Z Z) (zf Z Z h7 (zy Z (bTT h12) Z) (za (zq Z (bFF h8) Z) ⟨decide (s1≠[48]),H,⟨Z,Z,Z,U⟩,U⟩)))
    ·exact u2 h11 H fun h13 H=>zc Z Z h11 (zc Z Z h11 (zf Z Z h7 (zq Z (bFF h13) Z) (za (zq Z (bFF h8) Z) ⟨false,H,⟨Z,Z,Z,U⟩,U⟩)))
   ·exact u4 h7 H fun h14 H=>zc Z Z h7 (zc Z Z h7 (zc Z Z h7 (zc Z Z h7 (yi Z Z (yi Z Z (zc Z Z h7 (za (zy Z (bTT h14) Z) ⟨true,H,⟨Z,Z,Z,U⟩,U⟩)))))))
  ·exact u4 h5 H fun h15 H=>zc Z Z h5 (zc Z Z h5 (zc Z Z h5 (zc Z Z h5 (za (zy Z (bTT h15) Z) (qd Z (zc Z Z Z (zc Z Z Z (zc Z Z Z (zc Z Z Z (yi Z Z (yi Z Z (zc Z Z Z (za (zy Z Z Z) ⟨true,H,⟨Z,Z,Z,U⟩,U⟩)))))))))))))
 ·rintro v16 H
  replace H:jp s1 r3 v16=some r:=H
  unfold jp at H
  refine zg _ Z (fun h17 => ?_) (fun h17 => ?_)
  ·refine tE h17 H fun H=>zb hN Z (qe Z (qe Z (zk ?_)))
   cases H
   exact ⟨U,.inl Z,.inl Z,U⟩
  ·refine fE h17 H fun H=>zn (zi (zb hN Z (qe Z (ye (gE H fun h20 H=>qu (fun (i18:Nat) (s:Unit)=>[(0,.dat (vstr s1)),(6,.dat (vstr r3)),(7,.dat (vint (i18:Int)))]) (fun (i18:Nat) (s:Unit)=>[]) () H ⟨Z,Z,Z,U⟩ U (fun _ _=>Z) ?_ ?_)))))
   ·rintro ⟨⟩ H
    replace H:z01 s1=some r:=H
    unfold z01 at H
    refine zi (zb hN Z (qd Z (qd Z (za (yw tyU9 Z) (za (yb Z Z) (zg _ Z (fun h=>(lt_t h).elim) (fun h => ?_)))))))
    refine yx (zb hN Z (qd Z (bE H fun r22 h23 H=>za (zl (y24 s1 r22 h23) ⟨.inl Z,U⟩) (qd Z (za (yc Z Z) (za (yc Z Z) (qe Z (qe Z (zi (ji mixed hN Z Z (qd Z (qd Z (za (y1m (n:=r22.2) (show Tryz.prog.underlying 92=some (.interface (Tryz.prog.methodsAt 92)) from by kernel_rfl) Z) ?_)))))))))))))
    refine qe Z (qe Z ⟨Z,?_⟩)
    refine zk ?_
    cases H
    exact ⟨U,.inl Z,.inl Z,U⟩
   ·rintro i18 x21 ⟨⟩ q19 h24 h25 H hq19
    replace H:z3k i18 x21=some q19:=H
    unfold z3k at H
    refine zi (zb hN Z (qd Z (qd Z (za (yw tyU9 Z) (za (yb Z Z) (zg _ Z (fun h => ?_) (fun h=>(lt_f h24 h).elim)))))))
    refine zn (zi (ye (yd (ι:=Bool) (fun i=>[(0,.dat (vstr s1)),(6,.dat (vstr r3)),(7,.dat (vint (i18:Int))),(44,.dat (ze i))]) (fun i=>[]) (fun i=>z3l i=some q19) (fun i=>Z) ?_ ?_)))
    ·skip
     refine zp hN Z (qd Z (qd Z (za (qm tyU9 Z Z h25) (za (yb Z Z) (qd Z (yf (j:=4) Z Z (fun h26 => ?_) (fun h26 => ?_) Z))))))
     ·exact u3 h26 H fun h27 H=>zf Z Z h26 (zd (.dat _) Z) (zf Z Z h26 (zd (.dat _) Z) (zf Z Z h26 (qm tyU9 Z Z h25) (zf Z Z h26 (qs Z Z) (za (zq Z (bFF h27) Z) ⟨decide (57 < (x21.toNat:Int)),H,⟨Z,Z,Z,Z,U⟩,U⟩))))
     ·exact u4 h26 H fun h28 H=>zc Z Z h26 (zc Z Z h26 (zc Z Z h26 (zc Z Z h26 (za (zy Z (bTT h28) Z) ⟨true,H,⟨Z,Z,Z,Z,U⟩,U⟩))))
    ·rintro v29 H
     replace H:z3l v29=some q19:=H
     unfold z3l at H
     refine zg _ Z (fun h30 => ?_) (fun h30 => ?_)
     ·refine tE h30 H fun H=>zb hN Z (qe Z (qe Z (zk ?_)))
      replace H:=retl H hq19
      cases H
      exact ⟨U,.inl Z,.inl Z,U⟩
     ·exact fE h30 H fun H=>zn (zp hN Z (qd Z (za (qj Z Z (by omega)) (qe Z ⟨_,qa H,⟨Z,Z,Z,U⟩,U⟩))))
theorem y3b (s1:Bs) (r:(Int×Bool)) (H:z2s s1=some r):Fn Tryz.prog 126 [vstr s1] (zu [vint r.1,ze r.2]):=by
 refine ⟨by kernel_rfl,yj (us:=[vint r.1,ze r.2]) Tryz.func126 Z Z Z Z fun X hN => ?_⟩
 unfold z2s at H
 refine zb hN Z (qe Z (qe Z (zb hN Z (qd Z (bE H fun r2 h3 H=>za (zl (y9o s1 9 r2 h3) ⟨.inl Z,.inl Z,U⟩) (za (yc Z Z) (za (yc Z Z) (qe Z (qe Z (zk ?_))))))))))
 cases H
 exact ⟨U,.inl Z,.inl Z,U⟩
theorem z88 (n1:Int) (low2:Int) (high3:Int) (r:(Bool)) (H:z0h n1 low2 high3=some r):Fn Tryz.prog 84 [vint n1,vint low2,vint high3] (zu [ze r]):=by
 refine ⟨by kernel_rfl,yj (us:=[ze r]) Tryz.func84 Z Z Z Z fun X hN => ?_⟩
 unfold z0h at H
 refine zb hN Z (qe Z (zb hN Z (qd Z (qd Z (za (yb Z Z) (qd Z (yy Z Z (fun hc=>zd (.dat _) Z) (yy Z Z (fun hc=>zd (.dat _) Z) (yy Z Z (fun hc=>qs (cnd (c:=(!(decide (n1 < low2)))) hc) (cnd (c:=(!(decide (n1 < low2)))) hc)) (za (vj Z Z (fun hb=>(cnd (c:=(!(decide (n1 < low2)))) (notI hb)))) (qe Z (zk ?_))))))))))))
 cases H
 exact ⟨U,.inl Z,U⟩
theorem y9j (s1:Bs) (r:(Bool)) (H:z8x s1=some r):Fn Tryz.prog 125 [vstr s1] (zu [ze r]):=by
 refine ⟨by kernel_rfl,yj (us:=[ze r]) Tryz.func125 Z Z Z Z fun X hN => ?_⟩
 unfold z8x at H
 refine zb hN Z (qe Z (zi (zb hN Z (qd Z (za (yw tyU9 Z) (qd Z (ye (gE H fun h4 H=>qu (fun (k2:Nat) (s:Unit)=>[(0,.dat (vstr s1)),(5,.dat (vint (s1.length:Int))),(6,.dat (vint (k2:Int)))]) (fun (k2:Nat) (s:Unit)=>[]) () H ⟨Z,Z,Z,U⟩ U (fun _ _=>Z) ?_ ?_))))))))
 ·rintro ⟨⟩ H
  replace H:z8t s1=some r:=H
  unfold z8t at H
  refine zb hN Z (za (yb Z Z) (zi (zg _ Z (fun h=>(lt_t h).elim) (fun h => ?_))))
  refine yx (yd (ι:=Bool) (fun i=>[(2,.dat (ze i))]) (fun i=>[]) (fun i=>Zv i=some r) (fun i=>Z) ?_ ?_)
  ·skip
   refine zp hN Z (qd Z (za (kn Z Z) (qd Z (yf (j:=2) Z Z (fun h6 => ?_) (fun h6 => ?_) Z))))
   ·refine u1 h6 H fun h7 H=>zf Z Z h6 (zd (.dat _) Z) (zf Z Z h6 (yw tyU9 Z) (zf Z Z h6 (we Z Z) (za (zy Z (bTT h7) Z) (qd Z (yf (j:=7) Z Z (fun h8 => ?_) (fun h8 => ?_) Z)))))
    ·refine u1 h8 H fun h9 H=>zf Z Z h8 (zd (.dat _) Z) (bE H fun x10 h11 H=>zf Z Z h8 (qm tyU9 Z Z h11) (zf Z Z h8 (qo Z Z) (za (zy Z (bTT h9) Z) (qd Z (yf (j:=12) Z Z (fun h12 => ?_) (fun h12 => ?_) Z)))))
     ·exact u1 h12 H fun h13 H=>zf Z Z h12 (zd (.dat _) Z) (zf Z Z h12 (zd (.dat _) Z) (zf Z Z h12 (yw tyU9 Z) (zf Z Z h12 (qk _ Z Z (.inr (.inl ⟨Z,Z⟩))) (bE H fun x14 h15 H=>zf Z Z h12 (kw tyU9 Z Z h15) (zf Z Z h12 (qo Z Z) (za (zy Z (bTT h13) Z) (qe Z ⟨decide ((x14.toNat:Int)≠45),H,⟨Z,U⟩,U⟩)))))))
     ·exact u2 h12 H fun h16 H=>zc Z Z h12 (zc Z Z h12 (zc Z Z h12 (zc Z Z h12 (zc Z Z h12 (zc Z Z h12 (za (zq Z (bFF h16) Z) (qe Z ⟨false,H,⟨Z,U⟩,U⟩)))))))
    ·exact u2 h8 H fun h17 H=>zc Z Z h8 (zc Z Z h8 (zc Z Z h8 (za (zq Z (bFF h17) Z) (qd Z (zc Z Z Z (zc Z Z Z (zc Z Z Z (zc Z Z Z (zc Z Z Z (zc Z Z Z (za (zq Z Z Z) (qe Z ⟨false,H,⟨Z,U⟩,U⟩))))))))))))
   ·exact u2 h6 H fun h18 H=>zc Z Z h6 (zc Z Z h6 (zc Z Z h6 (za (zq Z (bFF h18) Z) (qd Z (zc Z Z Z (zc Z Z Z (zc Z Z Z (za (zq Z Z Z) (qd Z (zc Z Z Z (zc Z Z Z (zc Z Z Z (zc Z Z Z (zc Z Z Z (zc Z Z Z (za (zq Z Z Z) (qe Z ⟨false,H,⟨Z,U⟩,U⟩)))))))))))))))))
  ·rintro v19 H
   replace H:Zv v19=some r:=H
   unfold Zv at H
   refine zk ?_
   cases H
   exact ⟨U,.inl Z,U⟩
 ·rintro k2 x5 ⟨⟩ q3 h20 h21 H hq3
  replace H:z8s k2 x5=some q3:=H
  unfold z8s at H
  refine zb hN Z (za (yb Z Z) (zi (zg _ Z (fun h => ?_) (fun h=>(lt_f h20 h).elim))))
  refine zn (zi (ye (zb hN Z (qd Z (qe Z (yd (ι:=Bool) (fun i=>[(0,.dat (vstr s1)),(5,.dat (vint (s1.length:Int))),(6,.dat (vint (k2:Int))),(26,.dat (ze i))]) (fun i=>[]) (fun i=>Wv i=some q3) (fun i=>Z) ?_ ?_))))))
  ·skip
   refine zp hN Z (qd Z (qd Z (za (qm tyU9 Z Z h21) (bE H fun r22 h23 H=>za (zl (y27 (x5.toNat:Int) r22 h23) ⟨.inl Z,U⟩) (za (yp Z) (qd Z (yf (j:=5) Z Z (fun h24 => ?_) (fun h24 => ?_) Z)))))))
   ·refine u1 h24 H fun h25 H=>zf Z Z h24 (zd (.dat _) Z) (zf Z Z h24 (zd (.dat _) Z) (zf Z Z h24 (qm tyU9 Z Z h21) (bE H fun r26 h27 H=>zf Z Z h24 (zl (y28 (x5.toNat:Int) r26 h27) ⟨.inl Z,U⟩) (zf Z Z h24 (yp Z) (za (zy Z (bTT h25) Z) (qd Z (yf (j:=12) Z Z (fun h28 => ?_) (fun h28 => ?_) Z)))))))
    ·exact u1 h28 H fun h29 H=>zf Z Z h28 (zd (.dat _) Z) (zf Z Z h28 (zd (.dat _) Z) (zf Z Z h28 (qm tyU9 Z Z h21) (zf Z Z h28 (qo Z Z) (za (zy Z (bTT h29) Z) ⟨decide ((x5.toNat:Int)≠45),H,⟨Z,Z,Z,Z,U⟩,U⟩))))
    ·exact u2 h28 H fun h30 H=>zc Z Z h28 (zc Z Z h28 (zc Z Z h28 (zc Z Z h28 (za (zq Z (bFF h30) Z) ⟨false,H,⟨Z,Z,Z,Z,U⟩,U⟩))))
   ·exact u2 h24 H fun h31 H=>zc Z Z h24 (zc Z Z h24 (zc Z Z h24 (zc Z Z h24 (zc Z Z h24 (za (zq Z (bFF h31) Z) (qd Z (zc Z Z Z (zc Z Z Z (zc Z Z Z (zc Z Z Z (za (zq Z Z Z) ⟨false,H,⟨Z,Z,Z,Z,U⟩,U⟩)))))))))))
  ·rintro v32 H
   replace H:Wv v32=some q3:=H
   unfold Wv at H
   refine zg _ Z (fun h33 => ?_) (fun h33 => ?_)
   ·refine tE h33 H fun H=>zb hN Z (qe Z (zk ?_))
    replace H:=retl H hq3
    cases H
    exact ⟨U,.inl Z,U⟩
   ·exact fE h33 H fun H=>zn (zp hN Z (za (qj Z Z (by omega)) (qd Z ⟨_,qa H,⟨Z,Z,Z,U⟩,U⟩)))
theorem y9k (s1:Bs) (r:(Bool)) (H:z0f s1=some r):Fn Tryz.prog 79 [vstr s1] (zu [ze r]):=by
 refine ⟨by kernel_rfl,yj (us:=[ze r]) Tryz.func79 Z Z Z Z fun X hN => ?_⟩
 unfold z0f at H
 refine zb hN Z (qe Z (zb hN Z (qd Z (bE H fun r2 h3 H=>za (zl (z6o s1 [58] r2 h3) ⟨.inl Z,.inl Z,U⟩) (qd Z (za (yc Z Z) (za (yc Z Z) (za (yc Z Z) (qe Z (qe Z (qe Z (zi (zb hN Z (qd Z (bE H fun r4 h5 H=>za (zl (z3n r2.1 [46] r4 h5) ⟨.inl Z,.inl Z,U⟩) (za (qg wa Z) (qd Z (ye (gE H fun h8 H=>qu (fun (k6:Nat) (s:Unit)=>[(0,.dat (vstr s1)),(4,.dat (vstr r2.2.1)),(5,.dat (ze r2.2.2)),(17,.dat (vlst (List.map zo r4))),(18,.dat (vint (r4.length:Int))),(19,.dat (vint (k6:Int)))]) (fun (k6:Nat) (s:Unit)=>[]) () H ⟨Z,Z,Z,Z,Z,Z,U⟩ U (fun _ _=>Z) ?_ ?_)))))))))))))))))))
 ·rintro ⟨⟩ H
  replace H:z5x s1 r2=some r:=H
  unfold z5x at H
  refine zb hN Z (za (yb Z Z) (zi (zg _ Z (fun h=>(lt_t h).elim) (fun h => ?_))))
  refine yx (zb hN Z (qd Z (bE H fun r10 h11 H=>za (zl (y3b r2.2.1 r10 h11) ⟨.inl Z,U⟩) (qd Z (za (yc Z Z) (za (yc Z Z) (qe Z (qe Z (yd (ι:=Bool) (fun i=>[(2,.dat (ze i))]) (fun i=>[]) (fun i=>Zw i=some r) (fun i=>Z) ?_ ?_)))))))))
  ·skip
   refine zp hN Z (qd Z (za (yw tyU9 Z) (za (we Z Z) (qd Z (yf (j:=3) Z Z (fun h12 => ?_) (fun h12 => ?_) Z)))))
   ·refine u1 h12 H fun h13 H=>zf Z Z h12 (zd (.dat _) Z) (zf Z Z h12 (yp Z) (zf Z Z h12 (zd (.dat _) Z) (yf (j:=6) Z Z (fun h14 => ?_) (fun h14 => ?_) Z)))
    ·refine u3 h14 H fun h15 H=>zf Z Z h14 (zd (.dat _) Z) (zf Z Z h14 (zd (.dat _) Z) (yf (j:=8) Z Z (fun h16 => ?_) (fun h16 => ?_) Z))
     ·exact u1 h16 H fun h17 H=>zf Z Z h16 (zd (.dat _) Z) (bE H fun r18 h19 H=>zf Z Z h16 (zl (z88 r10.1 1 65535 r18 h19) ⟨.inl Z,.inl Z,.inl Z,U⟩) (zf Z Z h16 (yp Z) (zf Z Z h14 (zy Z (bTT h17) Z) (zf Z Z h12 (zq Z (bFF h15) Z) (za (zy Z (bTT h13) Z) (qe Z ⟨!r18,H,⟨Z,U⟩,U⟩))))))
     ·exact u2 h16 H fun h20 H=>zc Z Z h16 (zc Z Z h16 (zc Z Z h16 (zf Z Z h14 (zq Z (bFF h20) Z) (zf Z Z h12 (zq Z (bFF h15) Z) (za (zy Z (bTT h13) Z) (qe Z ⟨false,H,⟨Z,U⟩,U⟩))))))
    ·exact u4 h14 H fun h21 H=>zc Z Z h14 (zc Z Z h14 (yi Z Z (yi Z Z (yi Z Z (zc Z Z h14 (zf Z Z h12 (zy Z (bTT h21) Z) (za (zy Z (bTT h13) Z) (qe Z ⟨true,H,⟨Z,U⟩,U⟩))))))))
   ·exact u2 h12 H fun h22 H=>zc Z Z h12 (zc Z Z h12 (zc Z Z h12 (yi Z Z (yi Z Z (yi Z Z (yi Z Z (yi Z Z (yi Z Z (zc Z Z h12 (za (zq Z (bFF h22) Z) (qe Z ⟨false,H,⟨Z,U⟩,U⟩)))))))))))
  ·rintro v23 H
   replace H:Zw v23=some r:=H
   unfold Zw at H
   refine zk ?_
   cases H
   exact ⟨U,.inl Z,U⟩
 ·rintro k6 x9 ⟨⟩ q7 h24 h25 H hq7
  replace H:z5w k6 x9=some q7:=H
  unfold z5w at H
  refine zb hN Z (za (yb Z Z) (zi (zg _ Z (fun h => ?_) (fun h=>(lt_f h24 h).elim))))
  refine zn (zi (ye (zb hN Z (za (wi vi (fun _=>Z) Z Z h25) (za (qx tyS9 Z (ql h25) Z) (qe Z (zb hN Z (qd Z (bE H fun r26 h27 H=>za (zl (y9j x9 r26 h27) ⟨.inl Z,U⟩) (za (yp Z) (zg _ Z (fun h28 => ?_) (fun h28 => ?_))))))))))))
  ·refine tE h28 H fun H=>zb hN Z (qe Z (zk ?_))
   replace H:=retl H hq7
   cases H
   exact ⟨U,.inl Z,U⟩
  ·exact fE h28 H fun H=>zn (zp hN Z (za (qj Z Z (by omega)) (qd Z ⟨_,qa H,⟨Z,Z,Z,Z,Z,Z,U⟩,U⟩)))
theorem y88 (s p:Bs) (r:Bool) (H:z8v s p=some r):Fn Tryz.prog 69 [vstr s,vstr p] (zu [ze r]):=by
 cases H
 refine z9v (by kernel_rfl) fun M w vs h => ?_
 have h1:=ka (us:=[.string ⟨s.toArray⟩,.string ⟨p.toArray⟩]) h
 subst h1
 refine (Tryz.strings_HasPrefix ⟨s.toArray⟩ ⟨p.toArray⟩ w).mono ?_
 rintro e w' ⟨rfl,rfl⟩
 exact ⟨_,Z,Z,Kp.refl _ _⟩
theorem z87 (s1:Bs) (low2:Int) (high3:Int) (r:(Bool)) (H:xv s1 low2 high3=some r):Fn Tryz.prog 127 [vstr s1,vval (.int .u8 low2),vval (.int .u8 high3)] (zu [ze r]):=by
 refine ⟨by kernel_rfl,yj (us:=[ze r]) Tryz.func127 Z Z Z Z fun X hN => ?_⟩
 unfold xv at H
 refine zb hN Z (qe Z (zi (zb hN Z (qd Z (za (yw tyU9 Z) (qd Z (ye (gE H fun h6 H=>qu (fun (k4:Nat) (s:Unit)=>[(0,.dat (vstr s1)),(1,.dat (vval (.int .u8 low2))),(2,.dat (vval (.int .u8 high3))),(9,.dat (vint (s1.length:Int))),(10,.dat (vint (k4:Int)))]) (fun (k4:Nat) (s:Unit)=>[]) () H ⟨Z,Z,Z,Z,Z,U⟩ U (fun _ _=>Z) ?_ ?_))))))))
 ·rintro ⟨⟩ H
  replace H:z5v=some r:=H
  unfold z5v at H
  refine zb hN Z (za (yb Z Z) (zi (zg _ Z (fun h=>(lt_t h).elim) (fun h => ?_))))
  refine yx (zb hN Z (qe Z (zk ?_)))
  cases H
  exact ⟨U,.inl Z,U⟩
 ·rintro k4 x7 ⟨⟩ q5 h8 h9 H hq5
  replace H:z5u low2 high3 k4 x7=some q5:=H
  unfold z5u at H
  refine zb hN Z (za (yb Z Z) (zi (zg _ Z (fun h => ?_) (fun h=>(lt_f h8 h).elim))))
  refine zn (zi (ye (zb hN Z (qd Z (qe Z (yd (ι:=Bool) (fun i=>[(0,.dat (vstr s1)),(1,.dat (vval (.int .u8 low2))),(2,.dat (vval (.int .u8 high3))),(9,.dat (vint (s1.length:Int))),(10,.dat (vint (k4:Int))),(24,.dat (ze i))]) (fun i=>[]) (fun i=>Wu i=some q5) (fun i=>Z) ?_ ?_))))))
  ·skip
   refine zp hN Z (qd Z (qd Z (za (qm tyU9 Z Z h9) (qd Z (za (yb Z Z) (qd Z (yf (j:=5) Z Z (fun h10 => ?_) (fun h10 => ?_) Z)))))))
   ·exact u3 h10 H fun h11 H=>zf Z Z h10 (zd (.dat _) Z) (zf Z Z h10 (zd (.dat _) Z) (zf Z Z h10 (qm tyU9 Z Z h9) (zf Z Z h10 (zd (.dat _) Z) (zf Z Z h10 (qs Z Z) (za (zq Z (bFF h11) Z) ⟨decide (high3 < (x7.toNat:Int)),H,⟨Z,Z,Z,Z,Z,Z,U⟩,U⟩)))))
   ·exact u4 h10 H fun h12 H=>zc Z Z h10 (zc Z Z h10 (zc Z Z h10 (zc Z Z h10 (zc Z Z h10 (za (zy Z (bTT h12) Z) ⟨true,H,⟨Z,Z,Z,Z,Z,Z,U⟩,U⟩)))))
  ·rintro v13 H
   replace H:Wu v13=some q5:=H
   unfold Wu at H
   refine zg _ Z (fun h14 => ?_) (fun h14 => ?_)
   ·refine tE h14 H fun H=>zb hN Z (qe Z (zk ?_))
    replace H:=retl H hq5
    cases H
    exact ⟨U,.inl Z,U⟩
   ·exact fE h14 H fun H=>zn (zp hN Z (za (qj Z Z (by omega)) (qd Z ⟨_,qa H,⟨Z,Z,Z,Z,Z,U⟩,U⟩)))
theorem y22 (s p:Bs) (r:Bool) (H:z0d s p=some r):Fn Tryz.prog 103 [vstr s,vstr p] (zu [ze r]):=by
 unfold z0d at H
 obtain ⟨⟨⟨h1,h2⟩,h3,h4⟩,h5⟩:=gif H
 cases h5
 refine xl (by kernel_rfl) fun M w vs hM h => ?_
 have hv:=ka (us:=[.string ⟨s.toArray⟩,.string ⟨p.toArray⟩]) h
 subst hv
 refine (Tryz.strings_ContainsAny_laid ⟨s.toArray⟩ ⟨p.toArray⟩ w (by simp [ByteArray.size]; omega) (by simp [ByteArray.size]; omega) (fun j b hb=>z4j h3 j b (by simpa using hb)) (fun j b hb=>z4j h4 j b (by simpa using hb))).mono ?_
 rintro e w' ⟨rfl,hb⟩
 exact ⟨_,Z,Z,Kp.of_below hb⟩

theorem y9l (s1:Bs) (r:(Int)) (H:z2r s1=some r):Fn Tryz.prog 80 [vstr s1] (zu [vint r]):=by
 refine ⟨by kernel_rfl,yj (us:=[vint r]) Tryz.func80 Z Z Z Z fun X hN => ?_⟩
 unfold z2r at H
 refine zb hN Z (qe Z (zi (yd (ι:=Bool) (fun i=>[(19,.dat (ze i))]) (fun i=>[]) (fun i=>xr i=some r) (fun i=>Z) ?_ ?_)))
 ·skip
  refine zp hN Z (qd Z (za (yw tyU9 Z) (za (qs Z Z) (qd Z (yf (j:=3) Z Z (fun h2 => ?_) (fun h2 => ?_) Z)))))
  ·refine u3 h2 H fun h3 H=>zf Z Z h2 (zd (.dat _) Z) (bE H fun r4 h5 H=>zf Z Z h2 (zl (y88 s1 [47] r4 h5) ⟨.inl Z,.inl Z,U⟩) (zf Z Z h2 (yp Z) (za (zq Z (bFF h3) Z) (qd Z (yf (j:=8) Z Z (fun h6 => ?_) (fun h6 => ?_) Z)))))
   ·refine u3 h6 H fun h7 H=>zf Z Z h6 (zd (.dat _) Z) (bE H fun r8 h9 H=>zf Z Z h6 (zl (z87 s1 33 126 r8 h9) ⟨.inl Z,.inl Z,.inl Z,U⟩) (zf Z Z h6 (yp Z) (za (zq Z (bFF h7) Z) (qd Z (yf (j:=13) Z Z (fun h10 => ?_) (fun h10 => ?_) Z)))))
    ·exact u3 h10 H fun h11 H=>zf Z Z h10 (zd (.dat _) Z) (bE H fun r12 h13 H=>zf Z Z h10 (zl (y22 s1 [63,35] r12 h13) ⟨.inl Z,.inl Z,U⟩) (za (zq Z (bFF h11) Z) ⟨r12,H,⟨Z,U⟩,U⟩))
    ·exact u4 h10 H fun h14 H=>zc Z Z h10 (zc Z Z h10 (za (zy Z (bTT h14) Z) ⟨true,H,⟨Z,U⟩,U⟩))
   ·exact u4 h6 H fun h15 H=>zc Z Z h6 (zc Z Z h6 (zc Z Z h6 (za (zy Z (bTT h15) Z) (qd Z (zc Z Z Z (zc Z Z Z (za (zy Z Z Z) ⟨true,H,⟨Z,U⟩,U⟩)))))))
  ·exact u4 h2 H fun h16 H=>zc Z Z h2 (zc Z Z h2 (zc Z Z h2 (za (zy Z (bTT h16) Z) (qd Z (zc Z Z Z (zc Z Z Z (zc Z Z Z (za (zy Z Z Z) (qd Z (zc Z Z Z (zc Z Z Z (za (zy Z Z Z) ⟨true,H,⟨Z,U⟩,U⟩))))))))))))
 ·rintro v17 H
  replace H:xr v17=some r:=H
  unfold xr at H
  refine zg _ Z (fun h18 => ?_) (fun h18 => ?_)
  ·refine tE h18 H fun H=>zb hN Z (qe Z (zk ?_))
   cases H
   exact ⟨U,.inl Z,U⟩
  ·refine fE h18 H fun H=>zn (zb hN Z (qe Z (zk ?_)))
   cases H
   exact ⟨U,.inl Z,U⟩
theorem y23 (s p:Bs) (r:Bool) (H:z0e s p=some r):Fn Tryz.prog 104 [vstr s,vstr p] (zu [ze r]):=by
 unfold z0e at H
 obtain ⟨h1,h2⟩:=gif H
 cases h2
 refine xl (by kernel_rfl) fun M w vs hM h => ?_
 have hv:=ka (us:=[.string ⟨s.toArray⟩,.string ⟨p.toArray⟩]) h
 subst hv
 obtain ⟨m,hm⟩:=z54 hM
 refine (Tryz.strings_Contains ⟨s.toArray⟩ ⟨p.toArray⟩ m w (by simp [ByteArray.size]; omega) hm).mono ?_
 rintro e w' ⟨rfl,rfl⟩
 exact ⟨_,Z,Z,Kp.refl _ _⟩

theorem y9g (s1:Bs) (r:(Int)) (H:z2o s1=some r):Fn Tryz.prog 81 [vstr s1] (zu [vint r]):=by
 refine ⟨by kernel_rfl,yj (us:=[vint r]) Tryz.func81 Z Z Z Z fun X hN => ?_⟩
 unfold z2o at H
 refine zb hN Z (qe Z (zi (yd (ι:=Bool) (fun i=>[(14,.dat (ze i))]) (fun i=>[]) (fun i=>Zu i=some r) (fun i=>Z) ?_ ?_)))
 ·skip
  refine zp hN Z (qd Z (za (yw tyU9 Z) (za (qs Z Z) (qd Z (yf (j:=3) Z Z (fun h2 => ?_) (fun h2 => ?_) Z)))))
  ·refine u3 h2 H fun h3 H=>zf Z Z h2 (zd (.dat _) Z) (bE H fun r4 h5 H=>zf Z Z h2 (zl (z87 s1 33 126 r4 h5) ⟨.inl Z,.inl Z,.inl Z,U⟩) (zf Z Z h2 (yp Z) (za (zq Z (bFF h3) Z) (qd Z (yf (j:=8) Z Z (fun h6 => ?_) (fun h6 => ?_) Z)))))
   ·exact u3 h6 H fun h7 H=>zf Z Z h6 (zd (.dat _) Z) (bE H fun r8 h9 H=>zf Z Z h6 (zl (y23 s1 [35] r8 h9) ⟨.inl Z,.inl Z,U⟩) (za (zq Z (bFF h7) Z) ⟨r8,H,⟨Z,U⟩,U⟩))
   ·exact u4 h6 H fun h10 H=>zc Z Z h6 (zc Z Z h6 (za (zy Z (bTT h10) Z) ⟨true,H,⟨Z,U⟩,U⟩))
  ·exact u4 h2 H fun h11 H=>zc Z Z h2 (zc Z Z h2 (zc Z Z h2 (za (zy Z (bTT h11) Z) (qd Z (zc Z Z Z (zc Z Z Z (za (zy Z Z Z) ⟨true,H,⟨Z,U⟩,U⟩)))))))
 ·rintro v12 H
  replace H:Zu v12=some r:=H
  unfold Zu at H
  refine zg _ Z (fun h13 => ?_) (fun h13 => ?_)
  ·refine tE h13 H fun H=>zb hN Z (qe Z (zk ?_))
   cases H
   exact ⟨U,.inl Z,U⟩
  ·refine fE h13 H fun H=>zn (zb hN Z (qe Z (zk ?_)))
   cases H
   exact ⟨U,.inl Z,U⟩
theorem y85 (s1:Bs) (c2:Int) (r:(Bs)) (H:xt s1 c2=some r):Fn Tryz.prog 139 [vstr s1,vval (.int .u8 c2)] (zu [vstr r]):=by
 refine ⟨by kernel_rfl,yj (us:=[vstr r]) Tryz.func139 Z Z Z Z fun X hN => ?_⟩
 unfold xt at H
 refine zb hN Z (qe Z (yd (ι:=Bs) (fun i=>[(0,.dat (vstr i))]) (fun i=>[]) (fun i=>z2a i=some r) (fun i=>Z) ?_ ?_))
 ·skip
  refine ye (z97 (fun (s:Bs)=>[(0,.dat (vstr s)),(1,.dat (vval (.int .u8 c2)))]) (fun (s:Bs)=>[]) s1 H ⟨Z,Z,U⟩ U (fun _=>Z) ?_)
  rintro s3 q4 H hq4
  replace H:z19 c2 s3=some q4:=H
  unfold z19 at H
  refine zi (yd (ι:=Bool) (fun i=>[(0,.dat (vstr s3)),(1,.dat (vval (.int .u8 c2))),(16,.dat (ze i))]) (fun i=>[]) (fun i=>Zn s3 i=some q4) (fun i=>Z) ?_ ?_)
  ·skip
   refine zp hN Z (qd Z (za (yw tyU9 Z) (za (qs Z Z) (qd Z (yf (j:=3) Z Z (fun h5 => ?_) (fun h5 => ?_) Z)))))
   ·exact u1 h5 H fun h6 H=>zf Z Z h5 (zd (.dat _) Z) (zf Z Z h5 (zd (.dat _) Z) (zf Z Z h5 (yw tyU9 Z) (zf Z Z h5 (qk _ Z Z (.inr (.inl ⟨Z,Z⟩))) (bE H fun x7 h8 H=>zf Z Z h5 (kw tyU9 Z Z h8) (zf Z Z h5 (zd (.dat _) Z) (zf Z Z h5 (yo Z Z) (za (zy Z (bTT h6) Z) ⟨decide ((x7.toNat:Int)=c2),H,⟨Z,Z,Z,U⟩,U⟩)))))))
   ·exact u2 h5 H fun h9 H=>zc Z Z h5 (zc Z Z h5 (zc Z Z h5 (zc Z Z h5 (zc Z Z h5 (zc Z Z h5 (zc Z Z h5 (za (zq Z (bFF h9) Z) ⟨false,H,⟨Z,Z,Z,U⟩,U⟩)))))))
  ·rintro v10 H
   replace H:Zn s3 v10=some q4:=H
   unfold Zn at H
   refine zg _ Z (fun h11 => ?_) (fun h11 => ?_)
   ·exact tE h11 H fun H=>zn (ye (zp hN Z (qd Z (qd Z (za (yw tyU9 Z) (za (qk _ Z Z (.inr (.inl ⟨Z,Z⟩))) (bE H fun l12 h13 H=>za (vp tyU9 Z Z Z h13) (qe Z ⟨_,qa H,⟨Z,Z,U⟩,U⟩))))))))
   ·refine fE h11 H fun H=>yx ?_
    replace H:=outl H hq4
    exact ⟨s3,H,⟨Z,U⟩,U⟩
 ·rintro s14 H
  replace H:z2a s14=some r:=H
  unfold z2a at H
  refine zb hN Z (qd Z (qe Z (zk ?_)))
  cases H
  exact ⟨U,.inl Z,U⟩
theorem y86 (s1:Bs) (c2:Int) (r:(Bs)) (H:Zz s1 c2=some r):Fn Tryz.prog 138 [vstr s1,vval (.int .u8 c2)] (zu [vstr r]):=by
 refine ⟨by kernel_rfl,yj (us:=[vstr r]) Tryz.func138 Z Z Z Z fun X hN => ?_⟩
 unfold Zz at H
 refine zb hN Z (qe Z (yd (ι:=Bs) (fun i=>[(0,.dat (vstr i))]) (fun i=>[]) (fun i=>z2c i=some r) (fun i=>Z) ?_ ?_))
 ·skip
  refine ye (z97 (fun (s:Bs)=>[(0,.dat (vstr s)),(1,.dat (vval (.int .u8 c2)))]) (fun (s:Bs)=>[]) s1 H ⟨Z,Z,U⟩ U (fun _=>Z) ?_)
  rintro s3 q4 H hq4
  replace H:z2b c2 s3=some q4:=H
  unfold z2b at H
  refine zi (yd (ι:=Bool) (fun i=>[(0,.dat (vstr s3)),(1,.dat (vval (.int .u8 c2))),(13,.dat (ze i))]) (fun i=>[]) (fun i=>Zo s3 i=some q4) (fun i=>Z) ?_ ?_)
  ·skip
   refine zp hN Z (qd Z (za (yw tyU9 Z) (za (qs Z Z) (qd Z (yf (j:=3) Z Z (fun h5 => ?_) (fun h5 => ?_) Z)))))
   ·exact u1 h5 H fun h6 H=>zf Z Z h5 (zd (.dat _) Z) (bE H fun x7 h8 H=>zf Z Z h5 (qm tyU9 Z Z h8) (zf Z Z h5 (zd (.dat _) Z) (zf Z Z h5 (yo Z Z) (za (zy Z (bTT h6) Z) ⟨decide ((x7.toNat:Int)=c2),H,⟨Z,Z,Z,U⟩,U⟩))))
   ·exact u2 h5 H fun h9 H=>zc Z Z h5 (zc Z Z h5 (zc Z Z h5 (zc Z Z h5 (za (zq Z (bFF h9) Z) ⟨false,H,⟨Z,Z,Z,U⟩,U⟩))))
  ·rintro v10 H
   replace H:Zo s3 v10=some q4:=H
   unfold Zo at H
   refine zg _ Z (fun h11 => ?_) (fun h11 => ?_)
   ·exact tE h11 H fun H=>zn (ye (zp hN Z (qd Z (bE H fun l12 h13 H=>za (vp tyU9 Z Z Z h13) (qe Z ⟨_,qa H,⟨Z,Z,U⟩,U⟩)))))
   ·refine fE h11 H fun H=>yx ?_
    replace H:=outl H hq4
    exact ⟨s3,H,⟨Z,U⟩,U⟩
 ·rintro s14 H
  replace H:z2c s14=some r:=H
  unfold z2c at H
  refine zb hN Z (qd Z (qe Z (zk ?_)))
  cases H
  exact ⟨U,.inl Z,U⟩
end Go.Proofs.YtkldmhhbbceaoaaGreatDoor
