/- Walks along the models. Printed by a program. -/
import Derived.Test.YtbcmpepmafpibabGreatDoorZow2
namespace Go.Proofs.YtbcmpepmafpibabGreatDoor
open Go.RowKit
set_option linter.unusedVariables false
set_option maxRecDepth 100000
set_option maxHeartbeats 2000000
theorem y2o (v1:Bs) (v2:Int) (v3:Int) (r:(Int×Int)) (H:Zd v1 v2 v3=some r):Fn Tryz.prog 172 [vstr v1,vint v2,vint v3] (zp [vval (.int .u64 r.1),verr r.2]):=by
 refine ⟨by kernel_rfl,zy (us:=[vval (.int .u64 r.1),verr r.2]) Tryz.func172 Z Z Z Z fun X hN => ?_⟩
 unfold Zd at H
 refine zc hN Z (qe Z (qe Z (zh (zc hN Z (qd Z (za (qy Z Z) (zi _ Z (fun h4 => ?_) (fun h4 => ?_))))))))
 ·refine tE h4 H fun H=>zc hN Z (za (yo (u':=verr 2) (jh (show Tryz.prog.underlying 148=some (.int .i64) from by kernel_rfl) Z) Z) ?_)
  refine qe Z (qe Z (zg ?_))
  cases H
  exact ⟨U,.inl Z,.inl Z,U⟩
 ·refine fE h4 H fun H=>zn (zc hN Z (qd Z (za (yp Z Z) (qe Z (zc hN Z (qd Z (qe Z (zz (ι:=Bs×Int) (fun i=>[(0,.dat (vstr i.1)),(1,.dat (vint i.2)),(2,.dat (vint v3)),(8,.dat (zf (decide (v2=0)))),(9,.dat (vstr v1))]) (fun i=>[]) (fun i=>ug v1 v2 v3 i.1 i.2=some r) (fun i=>Z) ?_ ?_))))))))
  ·skip
   refine yc (zc hN Z (qd Z (za (we Z Z) (qd Z (qg Z Z (fun hc=>ze (.dat _) Z) (qg Z Z (fun hc=>we (cnd (c:=(decide (2≤v2))) hc) Z) (za (wu Z (fun hb=>(cnd (c:=(decide (2≤v2))) hb)) Z) (qe Z (zi _ Z (fun h5 => ?_) (fun h5 => ?_))))))))))
   ·exact tE h5 H fun H=>zn ⟨(v1,v2),H,⟨Z,Z,Z,Z,Z,U⟩,U⟩
   ·refine fE h5 H fun H=>zc hN Z (qd Z (za (yp Z Z) (qe Z (zi _ Z (fun h6 => ?_) (fun h6 => ?_)))))
    ·refine tE h6 H fun H=>zc hN Z (qe Z (zc hN Z (qd Z (bE H fun x7 h8 H=>za (qh tyU9 Z Z h8) (za (yp Z Z) (zi _ Z (fun h9 => ?_) (fun h9 => ?_)))))))
     ·refine tE h9 H fun H=>yc (zz (ι:=Bool) (fun i=>[(0,.dat (vstr v1)),(2,.dat (vint v3)),(8,.dat (zf (decide (v2=0)))),(9,.dat (vstr v1)),(40,.dat (zf i))]) (fun i=>[]) (fun i=>z4a v1 v2 v3 i=some r) (fun i=>Z) ?_ ?_)
      ·skip
       refine zq hN Z (qd Z (za (yi tyU9 Z) (za (wx Z Z) (qd Z (zu (j:=3) Z Z (fun h10 => ?_) (fun h10 => ?_) Z)))))
       ·exact u1 h10 H fun h11 H=>zd Z Z h10 (ze (.dat _) Z) (bE H fun x12 h13 H=>zd Z Z h10 (qh tyU9 Z Z h13) (bE H fun r14 h15 H=>zd Z Z h10 (zj (jm (x12.toNat:Int) r14 h15) ⟨.inl Z,U⟩) (zd Z Z h10 (yp Z Z) (za (zm Z (bTT h11) Z) (qe Z ⟨decide (r14=98),H,⟨Z,Z,Z,Z,Z,U⟩,U⟩)))))
       ·exact u2 h10 H fun h16 H=>zb Z Z h10 (zb Z Z h10 (zb Z Z h10 (zb Z Z h10 (za (zl Z (bFF h16) Z) (qe Z ⟨false,H,⟨Z,Z,Z,Z,Z,U⟩,U⟩)))))
      ·rintro v17 H
       replace H:z4a v1 v2 v3 v17=some r:=H
       unfold z4a at H
       refine zi _ Z (fun h18 => ?_) (fun h18 => ?_)
       ·exact tE h18 H fun H=>zc hN Z (qe Z (zq hN Z (qd Z (bE H fun l19 h20 H=>za (qf tyU9 Z Z Z h20) (qe Z ⟨(l19,2),H,⟨Z,Z,Z,Z,Z,U⟩,U⟩)))))
       ·refine fE h18 H fun H=>zz (ι:=Bool) (fun i=>[(0,.dat (vstr v1)),(2,.dat (vint v3)),(8,.dat (zf (decide (v2=0)))),(9,.dat (vstr v1)),(52,.dat (zf i))]) (fun i=>[]) (fun i=>z39 v1 v2 v3 i=some r) (fun i=>Z) ?_ ?_
        ·skip
         refine zq hN Z (qd Z (za (yi tyU9 Z) (za (wx Z Z) (qd Z (zu (j:=3) Z Z (fun h21 => ?_) (fun h21 => ?_) Z)))))
         ·exact u1 h21 H fun h22 H=>zd Z Z h21 (ze (.dat _) Z) (bE H fun x23 h24 H=>zd Z Z h21 (qh tyU9 Z Z h24) (bE H fun r25 h26 H=>zd Z Z h21 (zj (jm (x23.toNat:Int) r25 h26) ⟨.inl Z,U⟩) (zd Z Z h21 (yp Z Z) (za (zm Z (bTT h22) Z) (qe Z ⟨decide (r25=111),H,⟨Z,Z,Z,Z,Z,U⟩,U⟩)))))
         ·exact u2 h21 H fun h27 H=>zb Z Z h21 (zb Z Z h21 (zb Z Z h21 (zb Z Z h21 (za (zl Z (bFF h27) Z) (qe Z ⟨false,H,⟨Z,Z,Z,Z,Z,U⟩,U⟩)))))
        ·rintro v28 H
         replace H:z39 v1 v2 v3 v28=some r:=H
         unfold z39 at H
         refine zi _ Z (fun h29 => ?_) (fun h29 => ?_)
         ·exact tE h29 H fun H=>zc hN Z (qe Z (zq hN Z (qd Z (bE H fun l30 h31 H=>za (qf tyU9 Z Z Z h31) (qe Z ⟨(l30,8),H,⟨Z,Z,Z,Z,Z,U⟩,U⟩)))))
         ·refine fE h29 H fun H=>zz (ι:=Bool) (fun i=>[(0,.dat (vstr v1)),(2,.dat (vint v3)),(8,.dat (zf (decide (v2=0)))),(9,.dat (vstr v1)),(64,.dat (zf i))]) (fun i=>[]) (fun i=>z38 v1 v2 v3 i=some r) (fun i=>Z) ?_ ?_
          ·skip
           refine zq hN Z (qd Z (za (yi tyU9 Z) (za (wx Z Z) (qd Z (zu (j:=3) Z Z (fun h32 => ?_) (fun h32 => ?_) Z)))))
           ·exact u1 h32 H fun h33 H=>zd Z Z h32 (ze (.dat _) Z) (bE H fun x34 h35 H=>zd Z Z h32 (qh tyU9 Z Z h35) (bE H fun r36 h37 H=>zd Z Z h32 (zj (jm (x34.toNat:Int) r36 h37) ⟨.inl Z,U⟩) (zd Z Z h32 (yp Z Z) (za (zm Z (bTT h33) Z) (qe Z ⟨decide (r36=120),H,⟨Z,Z,Z,Z,Z,U⟩,U⟩)))))
           ·exact u2 h32 H fun h38 H=>zb Z Z h32 (zb Z Z h32 (zb Z Z h32 (zb Z Z h32 (za (zl Z (bFF h38) Z) (qe Z ⟨false,H,⟨Z,Z,Z,Z,Z,U⟩,U⟩)))))
          ·rintro v39 H
           replace H:z38 v1 v2 v3 v39=some r:=H
           unfold z38 at H
           refine zi _ Z (fun h40 => ?_) (fun h40 => ?_)
           ·exact tE h40 H fun H=>zc hN Z (qe Z (zq hN Z (qd Z (bE H fun l41 h42 H=>za (qf tyU9 Z Z Z h42) (qe Z ⟨(l41,16),H,⟨Z,Z,Z,Z,Z,U⟩,U⟩)))))
           ·exact fE h40 H fun H=>zc hN Z (qe Z (zq hN Z (qd Z (bE H fun l43 h44 H=>za (qf tyU9 Z Z Z h44) (qe Z ⟨(l43,8),H,⟨Z,Z,Z,Z,Z,U⟩,U⟩)))))
     ·exact fE h9 H fun H=>zn ⟨(v1,10),H,⟨Z,Z,Z,Z,Z,U⟩,U⟩
    ·refine fE h6 H fun H=>zc hN Z (za (yo (u':=verr 3) (jh (show Tryz.prog.underlying 148=some (.int .i64) from by kernel_rfl) Z) Z) ?_)
     refine qe Z (qe Z (zg ?_))
     cases H
     exact ⟨U,.inl Z,.inl Z,U⟩
  ·rintro ⟨v45,v46⟩ H
   replace H:ug v1 v2 v3 v45 v46=some r:=H
   unfold ug at H
   refine zz (ι:=Int) (fun i=>[(0,.dat (vstr v45)),(1,.dat (vint v46)),(2,.dat (vint i)),(8,.dat (zf (decide (v2=0)))),(9,.dat (vstr v1))]) (fun i=>[]) (fun i=>z04 v1 v2 v45 v46 i=some r) (fun i=>Z) ?_ ?_
   ·skip
    refine zc hN Z (qd Z (za (yp Z Z) (zi _ Z (fun h47 => ?_) (fun h47 => ?_))))
    ·exact tE h47 H fun H=>zq hN Z (qe Z ⟨64,H,⟨Z,Z,Z,Z,Z,U⟩,U⟩)
    ·refine fE h47 H fun H=>zc hN Z (qd Z (za (yg Z Z) (qd Z (yz Z Z (fun hc=>ze (.dat _) Z) (yz Z Z (fun hc=>qb (cnd (c:=(!(decide (v3 < 0)))) hc) Z) (za (vk Z Z (fun hb=>(cnd (c:=(!(decide (v3 < 0)))) (notI hb)))) (zi _ Z (fun h48 => ?_) (fun h48 => ?_))))))))
     ·refine tE h48 H fun H=>zc hN Z (za (yo (u':=verr 4) (jh (show Tryz.prog.underlying 148=some (.int .i64) from by kernel_rfl) Z) Z) ?_)
      refine qe Z (qe Z (zg ?_))
      cases H
      exact ⟨U,.inl Z,.inl Z,U⟩
     ·exact fE h48 H fun H=>zn ⟨v3,H,⟨Z,Z,Z,Z,Z,U⟩,U⟩
   ·rintro v49 H
    replace H:z04 v1 v2 v45 v46 v49=some r:=H
    unfold z04 at H
    refine zc hN Z (qe Z (zz (ι:=Int) (fun i=>[(0,.dat (vstr v45)),(1,.dat (vint v46)),(2,.dat (vint v49)),(8,.dat (zf (decide (v2=0)))),(9,.dat (vstr v1)),(10,.dat (vval (.int .u64 i)))]) (fun i=>[]) (fun i=>Qf v1 v2 v45 v46 v49 i=some r) (fun i=>Z) ?_ ?_))
    ·skip
     refine zc hN Z (qd Z (yc (zc hN Z (za (yp Z Z) (qe Z (zi _ Z (fun h50 => ?_) (fun h50 => ?_)))))))
     ·exact tE h50 H fun H=>zq hN Z (qe Z ⟨1844674407370955162,H,⟨Z,Z,Z,Z,Z,Z,U⟩,U⟩)
     ·refine fE h50 H fun H=>zc hN Z (za (yp Z Z) (qe Z (zi _ Z (fun h51 => ?_) (fun h51 => ?_))))
      ·exact tE h51 H fun H=>zq hN Z (qe Z ⟨1152921504606846976,H,⟨Z,Z,Z,Z,Z,Z,U⟩,U⟩)
      ·exact fE h51 H fun H=>zq hN Z (qd Z (za (vh tyU3 kz Z) (gE H fun h52 H=>za (y0s Z Z h52) (za (yf _ Z Z (.inl ⟨Z,Z⟩)) (qe Z ⟨IntKind.wrap .u64 ((IntKind.wrap .u64 (Int.tdiv 18446744073709551615 (IntKind.wrap .u64 v46)))+1),H,⟨Z,Z,Z,Z,Z,Z,U⟩,U⟩)))))
    ·rintro v53 H
     replace H:Qf v1 v2 v45 v46 v49 v53=some r:=H
     unfold Qf at H
     refine zc hN Z (qd Z (za (vh tyU3 z1r Z) (gE H fun h54 H=>za (yo (y0q Z Z h54) Z) (za (yf _ Z Z (.inr (.inl ⟨Z,Z⟩))) (qe Z (zc hN Z (qe Z (zc hN Z (qe Z (zh (zc hN Z (qd Z (za (y0v (C:=yv) tyU9 xf tyU5 (fun _=>Z) Z) (za (yw xf Z) (qd Z (yc (gE H fun h59 H=>ve (fun (k57:Nat) (s:Bool×Int)=>[(1,.dat (vint v46)),(8,.dat (zf (decide (v2=0)))),(9,.dat (vstr v1)),(10,.dat (vval (.int .u64 v53))),(11,.dat (vval (.int .u64 (IntKind.wrap .u64 ((shl_ .u64 1 (IntKind.wrap .u64 v49)) - 1))))),(12,.dat (zf s.1)),(13,.dat (vval (.int .u64 s.2))),(99,.dat (vlst (List.map yv (yu v45)))),(100,.dat (vint ((yu v45).length:Int))),(101,.dat (vint (k57:Int)))]) (fun (k57:Nat) (s:Bool×Int)=>[]) (false,0) H ⟨Z,Z,Z,Z,Z,Z,Z,Z,Z,Z,U⟩ U (fun _ _=>Z) ?_ ?_)))))))))))))))))
     ·rintro ⟨v55,v56⟩ H
      replace H:z05 v1 v55 v56=some r:=H
      unfold z05 at H
      refine zc hN Z (za (yg Z Z) (zh (zi _ Z (fun h=>(lt_t h).elim) (fun h => ?_))))
      refine qj (zh (zz (ι:=Bool) (fun i=>[(13,.dat (vval (.int .u64 v56))),(169,.dat (zf i))]) (fun i=>[]) (fun i=>z03 v56 i=some r) (fun i=>Z) ?_ ?_))
      ·skip
       refine zq hN Z (qd Z (qd Z (zu (j:=1) Z Z (fun h61 => ?_) (fun h61 => ?_) Z)))
       ·exact u1 h61 H fun h62 H=>zd Z Z h61 (ze (.dat _) Z) (bE H fun r63 h64 H=>zd Z Z h61 (zj (y9c v1 r63 h64) ⟨.inl Z,U⟩) (zd Z Z h61 (yk Z) (za (zm Z (bTT h62) Z) ⟨!r63,H,⟨Z,Z,U⟩,U⟩)))
       ·exact u2 h61 H fun h65 H=>zb Z Z h61 (zb Z Z h61 (zb Z Z h61 (za (zl Z (bFF h65) Z) ⟨false,H,⟨Z,Z,U⟩,U⟩)))
      ·rintro v66 H
       replace H:z03 v56 v66=some r:=H
       unfold z03 at H
       refine zi _ Z (fun h67 => ?_) (fun h67 => ?_)
       ·refine tE h67 H fun H=>zc hN Z (za (yo (u':=verr 2) (jh (show Tryz.prog.underlying 148=some (.int .i64) from by kernel_rfl) Z) Z) ?_)
        refine qe Z (qe Z (zg ?_))
        cases H
        exact ⟨U,.inl Z,.inl Z,U⟩
       ·refine fE h67 H fun H=>zn (zc hN Z (qd Z (qe Z (qe Z (zg ?_)))))
        cases H
        exact ⟨U,.inl Z,.inl Z,U⟩
     ·rintro k57 x60 ⟨v55,v56⟩ q58 h68 h69 H hq58
      replace H:kr v2 v46 v49 v53 k57 x60 v55 v56=some q58:=H
      unfold kr at H
      refine zc hN Z (za (yg Z Z) (zh (zi _ Z (fun h => ?_) (fun h=>(lt_f h68 h).elim))))
      refine zn (zz (ι:=Bool×Int) (fun i=>[(1,.dat (vint v46)),(8,.dat (zf (decide (v2=0)))),(9,.dat (vstr v1)),(10,.dat (vval (.int .u64 v53))),(11,.dat (vval (.int .u64 (IntKind.wrap .u64 ((shl_ .u64 1 (IntKind.wrap .u64 v49)) - 1))))),(12,.dat (zf i.1)),(13,.dat (vval (.int .u64 i.2))),(99,.dat (vlst (List.map yv (yu v45)))),(100,.dat (vint ((yu v45).length:Int))),(101,.dat (vint (k57:Int)))]) (fun i=>[]) (fun i=>Qe i.1 i.2=some q58) (fun i=>Z) ?_ ?_)
      ·skip
       refine yc (zc hN Z (za (qx y0d (fun _=>Z) Z Z h69) (za (wa tyS5 Z (qq h69) Z) (qe Z (zc hN Z (qe Z (zz (ι:=Int) (fun i=>[(1,.dat (vint v46)),(8,.dat (zf (decide (v2=0)))),(9,.dat (vstr v1)),(10,.dat (vval (.int .u64 v53))),(11,.dat (vval (.int .u64 (IntKind.wrap .u64 ((shl_ .u64 1 (IntKind.wrap .u64 v49)) - 1))))),(12,.dat (zf v55)),(13,.dat (vval (.int .u64 v56))),(16,.dat (vval (.int .u8 i))),(99,.dat (vlst (List.map yv (yu v45)))),(100,.dat (vint ((yu v45).length:Int))),(101,.dat (vint (k57:Int)))]) (fun i=>[]) (fun i=>uf v46 v49 v53 v55 v56 i=some q58) (fun i=>Z) ?_ ?_)))))))
       ·skip
        refine yc (zc hN Z (qd Z (za (yp Z Z) (qd Z (qg Z Z (fun hc=>ze (.dat _) Z) (za (wu Z (fun hb=>(cnd (c:=(decide (x60=95))) hb)) Z) (qe Z (zi _ Z (fun h70 => ?_) (fun h70 => ?_)))))))))
        ·exact tE h70 H fun H=>zc hN Z (qe Z (qj ⟨(true,v56),H,⟨Z,Z,Z,Z,Z,Z,Z,Z,Z,Z,U⟩,U⟩))
        ·refine fE h70 H fun H=>zc hN Z (qd Z (za (we Z Z) (qd Z (qg Z Z (fun hc=>ze (.dat _) Z) (qg Z Z (fun hc=>we (cnd (c:=(decide (48≤x60))) hc) Z) (za (wu Z (fun hb=>(cnd (c:=(decide (48≤x60))) hb)) Z) (qe Z (zi _ Z (fun h71 => ?_) (fun h71 => ?_)))))))))
         ·exact tE h71 H fun H=>zq hN Z (qd Z (za (yf _ Z Z (.inr (.inl ⟨Z,Z⟩))) (qe Z ⟨IntKind.wrap .u8 (x60 - 48),H,⟨Z,Z,Z,Z,Z,Z,Z,Z,Z,Z,Z,U⟩,U⟩)))
         ·refine fE h71 H fun H=>zz (ι:=Bool) (fun i=>[(1,.dat (vint v46)),(8,.dat (zf (decide (v2=0)))),(9,.dat (vstr v1)),(10,.dat (vval (.int .u64 v53))),(11,.dat (vval (.int .u64 (IntKind.wrap .u64 ((shl_ .u64 1 (IntKind.wrap .u64 v49)) - 1))))),(12,.dat (zf v55)),(13,.dat (vval (.int .u64 v56))),(15,.dat (vval (.int .u8 x60))),(99,.dat (vlst (List.map yv (yu v45)))),(100,.dat (vint ((yu v45).length:Int))),(101,.dat (vint (k57:Int))),(121,.dat (zf i))]) (fun i=>[]) (fun i=>Qg v46 v49 v53 v55 v56 x60 i=some q58) (fun i=>Z) ?_ ?_
          ·skip
           refine zq hN Z (qd Z (bE H fun r72 h73 H=>za (zj (jm x60 r72 h73) ⟨.inl Z,U⟩) (za (we Z Z) (qd Z (zu (j:=3) Z Z (fun h74 => ?_) (fun h74 => ?_) Z)))))
           ·exact u1 h74 H fun h75 H=>zd Z Z h74 (ze (.dat _) Z) (bE H fun r76 h77 H=>zd Z Z h74 (zj (jm x60 r76 h77) ⟨.inl Z,U⟩) (zd Z Z h74 (we Z Z) (za (zm Z (bTT h75) Z) (qe Z ⟨decide (r76≤122),H,⟨Z,Z,Z,Z,Z,Z,Z,Z,Z,Z,Z,Z,U⟩,U⟩))))
           ·exact u2 h74 H fun h78 H=>zb Z Z h74 (zb Z Z h74 (zb Z Z h74 (za (zl Z (bFF h78) Z) (qe Z ⟨false,H,⟨Z,Z,Z,Z,Z,Z,Z,Z,Z,Z,Z,Z,U⟩,U⟩))))
          ·rintro v79 H
           replace H:Qg v46 v49 v53 v55 v56 x60 v79=some q58:=H
           unfold Qg at H
           refine zi _ Z (fun h80 => ?_) (fun h80 => ?_)
           ·exact tE h80 H fun H=>zq hN Z (qd Z (bE H fun r81 h82 H=>za (zj (jm x60 r81 h82) ⟨.inl Z,U⟩) (za (yf _ Z Z (.inr (.inl ⟨Z,Z⟩))) (za (yf _ Z Z (.inl ⟨Z,Z⟩)) (qe Z ⟨IntKind.wrap .u8 ((IntKind.wrap .u8 (r81 - 97))+10),H,⟨Z,Z,Z,Z,Z,Z,Z,Z,Z,Z,Z,U⟩,U⟩)))))
           ·refine fE h80 H fun H=>zc hN Z (za (yo (u':=verr 2) (jh (show Tryz.prog.underlying 148=some (.int .i64) from by kernel_rfl) Z) Z) ?_)
            refine qe Z (qe Z (zg ?_))
            replace H:=retl H hq58
            cases H
            exact ⟨U,.inl Z,.inl Z,U⟩
       ·rintro v83 H
        replace H:uf v46 v49 v53 v55 v56 v83=some q58:=H
        unfold uf at H
        refine zh (zc hN Z (qd Z (qd Z (za (vh tyU3 tyU5 Z) (za (wx Z Z) (zi _ Z (fun h84 => ?_) (fun h84 => ?_)))))))
        ·refine tE h84 H fun H=>zc hN Z (za (yo (u':=verr 2) (jh (show Tryz.prog.underlying 148=some (.int .i64) from by kernel_rfl) Z) Z) ?_)
         refine qe Z (qe Z (zg ?_))
         replace H:=retl H hq58
         cases H
         exact ⟨U,.inl Z,.inl Z,U⟩
        ·refine fE h84 H fun H=>zn (zh (zc hN Z (qd Z (qd Z (za (wx Z Z) (zi _ Z (fun h85 => ?_) (fun h85 => ?_)))))))
         ·refine tE h85 H fun H=>zc hN Z (qd Z (za (yo (u':=verr 1) (jh (show Tryz.prog.underlying 148=some (.int .i64) from by kernel_rfl) Z) Z) ?_))
          refine qe Z (qe Z (zg ?_))
          replace H:=retl H hq58
          cases H
          exact ⟨U,.inl Z,.inl Z,U⟩
         ·refine fE h85 H fun H=>zn (zc hN Z (qd Z (qd Z (za (vh tyU3 kz Z) (za (yf _ Z Z (.inr (.inr ⟨Z,Z⟩))) (qe Z (zc hN Z (qd Z (qd Z (za (vh tyU5 kz Z) (za (yf _ Z Z (.inl ⟨Z,Z⟩)) (qe Z (zh (zc hN Z (qd Z (qd Z (za (yg Z Z) (qd Z (yz Z Z (fun hc=>ze (.dat _) Z) (yz Z Z (fun hc=>ze (.dat _) Z) (yz Z Z (fun hc=>qb (cnd (c:=(!(decide ((IntKind.wrap .u64 ((IntKind.wrap .u64 (v56 * (IntKind.wrap .u64 v46)))+(IntKind.wrap .u64 v83))) < (IntKind.wrap .u64 (v56 * (IntKind.wrap .u64 v46))))))) hc) (cnd (c:=(!(decide ((IntKind.wrap .u64 ((IntKind.wrap .u64 (v56 * (IntKind.wrap .u64 v46)))+(IntKind.wrap .u64 v83))) < (IntKind.wrap .u64 (v56 * (IntKind.wrap .u64 v46))))))) hc)) (za (vk Z Z (fun hb=>(cnd (c:=(!(decide ((IntKind.wrap .u64 ((IntKind.wrap .u64 (v56 * (IntKind.wrap .u64 v46)))+(IntKind.wrap .u64 v83))) < (IntKind.wrap .u64 (v56 * (IntKind.wrap .u64 v46))))))) (notI hb)))) ?_))))))))))))))))))))))
          refine zi _ Z (fun h86 => ?_) (fun h86 => ?_)
          ·refine tE h86 H fun H=>zc hN Z (qd Z (za (yo (u':=verr 1) (jh (show Tryz.prog.underlying 148=some (.int .i64) from by kernel_rfl) Z) Z) ?_))
           refine qe Z (qe Z (zg ?_))
           replace H:=retl H hq58
           cases H
           exact ⟨U,.inl Z,.inl Z,U⟩
          ·exact fE h86 H fun H=>zn (zq hN Z (qd Z (qe Z ⟨(v55,IntKind.wrap .u64 ((IntKind.wrap .u64 (v56 * (IntKind.wrap .u64 v46)))+(IntKind.wrap .u64 v83))),H,⟨Z,Z,Z,Z,Z,Z,Z,Z,Z,Z,U⟩,U⟩)))
      ·rintro ⟨v87,v88⟩ H
       replace H:Qe v87 v88=some q58:=H
       unfold Qe at H
       exact zq hN Z (za (wy Z Z (by omega)) (qd Z ⟨_,qr H,⟨Z,Z,Z,Z,Z,Z,Z,Z,Z,Z,U⟩,U⟩))
theorem y2p (v1:Bs) (v2:Int) (v3:Int) (r:(Int×Int)) (H:Ze v1 v2 v3=some r):Fn Tryz.prog 140 [vstr v1,vint v2,vint v3] (zp [vint r.1,verr r.2]):=by
 refine ⟨by kernel_rfl,zy (us:=[vint r.1,verr r.2]) Tryz.func140 Z Z Z Z fun X hN => ?_⟩
 unfold Ze at H
 refine zc hN Z (qe Z (qe Z (zh (zc hN Z (qd Z (za (qy Z Z) (zi _ Z (fun h4 => ?_) (fun h4 => ?_))))))))
 ·refine tE h4 H fun H=>zc hN Z (za (yo (u':=verr 2) (jh (show Tryz.prog.underlying 148=some (.int .i64) from by kernel_rfl) Z) Z) ?_)
  refine qe Z (qe Z (zg ?_))
  cases H
  exact ⟨U,.inl Z,.inl Z,U⟩
 ·refine fE h4 H fun H=>zn (zc hN Z (qe Z (zz (ι:=Bs×Bool) (fun i=>[(0,.dat (vstr i.1)),(1,.dat (vint v2)),(2,.dat (vint v3)),(8,.dat (zf i.2))]) (fun i=>[]) (fun i=>uh v2 v3 i.1 i.2=some r) (fun i=>Z) ?_ ?_)))
  ·skip
   refine zc hN Z (qd Z (bE H fun x5 h6 H=>za (qh tyU9 Z Z h6) (yc (zc hN Z (za (yp Z Z) (qe Z (zi _ Z (fun h7 => ?_) (fun h7 => ?_))))))))
   ·exact tE h7 H fun H=>zq hN Z (qd Z (bE H fun l8 h9 H=>za (qf tyU9 Z Z Z h9) (qe Z ⟨(l8,false),H,⟨Z,Z,Z,Z,U⟩,U⟩)))
   ·refine fE h7 H fun H=>zc hN Z (za (yp Z Z) (qe Z (zi _ Z (fun h10 => ?_) (fun h10 => ?_))))
    ·exact tE h10 H fun H=>zc hN Z (qd Z (bE H fun l11 h12 H=>za (qf tyU9 Z Z Z h12) (qe Z (zq hN Z (qe Z ⟨(l11,true),H,⟨Z,Z,Z,Z,U⟩,U⟩)))))
    ·exact fE h10 H fun H=>zn ⟨(v1,false),H,⟨Z,Z,Z,Z,U⟩,U⟩
  ·rintro ⟨v13,v14⟩ H
   replace H:uh v2 v3 v13 v14=some r:=H
   unfold uh at H
   refine zc hN Z (qe Z (zc hN Z (qd Z (qd Z (qd Z (bE H fun r15 h16 H=>za (zj (y2o v13 v2 v3 r15 h16) ⟨.inl Z,.inl Z,.inl Z,U⟩) (qd Z (za (zt Z Z) (za (zt Z Z) (qe Z (qe Z (zh (zz (ι:=Bool) (fun i=>[(2,.dat (vint v3)),(7,.dat (verr r15.2)),(8,.dat (zf v14)),(9,.dat (vval (.int .u64 r15.1))),(38,.dat (zf i))]) (fun i=>[]) (fun i=>Zn v3 v14 r15 i=some r) (fun i=>Z) ?_ ?_)))))))))))))
   ·skip
    refine zq hN Z (qd Z (za (Wr (n:=r15.2) (show Tryz.prog.underlying 86=some (.interface (Tryz.prog.methodsAt 86)) from by kernel_rfl) Z) ?_))
    refine qd Z (zu (j:=2) Z Z (fun h17 => ?_) (fun h17 => ?_) Z)
    ·refine u1 h17 H fun h18 H=>zd Z Z h17 (ze (.dat _) Z) (zd Z Z h17 (yo (u':=verr 1) (jh (show Tryz.prog.underlying 148=some (.int .i64) from by kernel_rfl) Z) Z) ?_)
     refine gE H fun h19 H=>zd Z Z h17 (y5r (n:=r15.2) (m:=1) (show Tryz.prog.underlying 86=some (.interface (Tryz.prog.methodsAt 86)) from by kernel_rfl) (by kernel_rfl) (by kernel_rfl) Z Z h19 (by decide)) ?_
     exact za (zm Z (bTT h18) Z) ⟨decide (r15.2≠1),H,⟨Z,Z,Z,Z,Z,U⟩,U⟩
    ·exact u2 h17 H fun h20 H=>zb Z Z h17 (zb Z Z h17 (zb Z Z h17 (za (zl Z (bFF h20) Z) ⟨false,H,⟨Z,Z,Z,Z,Z,U⟩,U⟩)))
   ·rintro v21 H
    replace H:Zn v3 v14 r15 v21=some r:=H
    unfold Zn at H
    refine zi _ Z (fun h22 => ?_) (fun h22 => ?_)
    ·refine tE h22 H fun H=>zc hN Z (qd Z (qe Z (qe Z (zg ?_))))
     cases H
     exact ⟨U,.inl Z,.inl Z,U⟩
    ·refine fE h22 H fun H=>zn (zz (ι:=Int) (fun i=>[(2,.dat (vint i)),(8,.dat (zf v14)),(9,.dat (vval (.int .u64 r15.1)))]) (fun i=>[]) (fun i=>Zm v14 r15 i=some r) (fun i=>Z) ?_ ?_)
     ·skip
      refine zc hN Z (qd Z (za (yp Z Z) (zi _ Z (fun h23 => ?_) (fun h23 => ?_))))
      ·exact tE h23 H fun H=>zq hN Z (qe Z ⟨64,H,⟨Z,Z,Z,U⟩,U⟩)
      ·exact fE h23 H fun H=>zn ⟨v3,H,⟨Z,Z,Z,U⟩,U⟩
     ·rintro v24 H
      replace H:Zm v14 r15 v24=some r:=H
      unfold Zm at H
      refine zc hN Z (qd Z (za (yf _ Z Z (.inr (.inl ⟨Z,Z⟩))) (za (vh tyU3 z1r Z) (gE H fun h25 H=>za (yo (y0q Z Z h25) Z) (qe Z (zh (zc hN Z (qd Z (za (yk Z) (qd Z (qg Z Z (fun hc=>ze (.dat _) Z) (qg Z Z (fun hc=>ze (.dat _) Z) (qg Z Z (fun hc=>wx (cnd (c:=(!v14)) hc) (cnd (c:=(!v14)) hc)) (za (wu Z (fun hb=>(cnd (c:=(!v14)) hb)) Z) (zi _ Z (fun h26 => ?_) (fun h26 => ?_))))))))))))))))
      ·refine tE h26 H fun H=>zc hN Z (qd Z (za (yf _ Z Z (.inr (.inl ⟨Z,Z⟩))) (za (vh kz tyU2 Z) (za (yo (u':=verr 1) (jh (show Tryz.prog.underlying 148=some (.int .i64) from by kernel_rfl) Z) Z) ?_))))
       refine qe Z (qe Z (zg ?_))
       cases H
       exact ⟨U,.inl Z,.inl Z,U⟩
      ·refine fE h26 H fun H=>zn (zh (zc hN Z (qd Z (qd Z (qg Z Z (fun hc=>ze (.dat _) Z) (qg Z Z (fun hc=>ze (.dat _) Z) (qg Z Z (fun hc=>qb (cnd (c:=v14) hc) (cnd (c:=v14) hc)) (za (wu Z (fun hb=>(cnd (c:=v14) hb)) Z) (zi _ Z (fun h27 => ?_) (fun h27 => ?_))))))))))
       ·refine tE h27 H fun H=>zc hN Z (qd Z (za (vh kz tyU2 Z) (za (y0t Z) (za (yo (u':=verr 1) (jh (show Tryz.prog.underlying 148=some (.int .i64) from by kernel_rfl) Z) Z) ?_))))
        refine qe Z (qe Z (zg ?_))
        cases H
        exact ⟨U,.inl Z,.inl Z,U⟩
       ·refine fE h27 H fun H=>zn (zc hN Z (qd Z (za (vh kz tyU2 Z) (qe Z (zz (ι:=Int) (fun i=>[(11,.dat (vint i))]) (fun i=>[]) (fun i=>Qh i=some r) (fun i=>Z) ?_ ?_)))))
        ·skip
         refine zc hN Z (qd Z (zi _ Z (fun h28 => ?_) (fun h28 => ?_)))
         ·exact tE h28 H fun H=>zq hN Z (qd Z (za (y0t Z) (qe Z ⟨(wr (-(IntKind.wrap .i64 r15.1))),H,⟨Z,U⟩,U⟩)))
         ·exact fE h28 H fun H=>zn ⟨IntKind.wrap .i64 r15.1,H,⟨Z,U⟩,U⟩
        ·rintro v29 H
         replace H:Qh v29=some r:=H
         unfold Qh at H
         refine zc hN Z (qd Z (qe Z (qe Z (zg ?_))))
         cases H
         exact ⟨U,.inl Z,.inl Z,U⟩
theorem z8u (fn s:Bs) (base bits e r:Int) (H:z2p fn s base bits e=some r):Fn Tryz.prog 99 [vstr fn,vstr s,vint base,vint bits,verr e] (zp [verr r]):=by
 obtain ⟨⟨h1,h2,h3⟩,h4⟩:=gif H
 cases h4
 refine jz (by kernel_rfl) fun M w vs hM h => ?_
 rcases h3 with rfl | rfl
 ·have hv:=vu (us:=[.string ⟨fn.toArray⟩,.string ⟨s.toArray⟩,.int .i64 base,.int .i64 bits,.iface 148 (.int .i64 2)]) h
  subst hv
  obtain ⟨tp,p,hc⟩:=x2i hM
  refine (Tryz.strconv_toError_syntax ⟨fn.toArray⟩ ⟨s.toArray⟩ base bits (.iface tp p) w (by simp [ByteArray.size]; omega) hc (.inr ⟨tp,p,Z⟩)).mono ?_
  rintro e w' ⟨N,rfl,_,_,hb⟩
  exact ⟨_,Z,⟨_,_,Z⟩,Kp.of_below hb⟩
 ·have hv:=vu (us:=[.string ⟨fn.toArray⟩,.string ⟨s.toArray⟩,.int .i64 base,.int .i64 bits,.iface 148 (.int .i64 1)]) h
  subst hv
  obtain ⟨tp,p,hc⟩:=x2j hM
  refine (Tryz.strconv_toError_range ⟨fn.toArray⟩ ⟨s.toArray⟩ base bits (.iface tp p) w (by simp [ByteArray.size]; omega) hc (.inr ⟨tp,p,Z⟩)).mono ?_
  rintro e w' ⟨N,rfl,_,_,hb⟩
  exact ⟨_,Z,⟨_,_,Z⟩,Kp.of_below hb⟩
theorem y2e (s1:Bs) (base2:Int) (bitSize3:Int) (r:(Int×Int)) (H:xx s1 base2 bitSize3=some r):Fn Tryz.prog 137 [vstr s1,vint base2,vint bitSize3] (zp [vint r.1,verr r.2]):=by
 refine ⟨by kernel_rfl,zy (us:=[vint r.1,verr r.2]) Tryz.func137 Z Z Z Z fun X hN => ?_⟩
 unfold xx at H
 refine zc hN Z (qe Z (qe Z (zc hN Z (qd Z (qd Z (qd Z (bE H fun r4 h5 H=>za (zj (y2p s1 base2 bitSize3 r4 h5) ⟨.inl Z,.inl Z,.inl Z,U⟩) (qd Z (za (zt Z Z) (za (zt Z Z) (qe Z (qe Z (zh (zc hN Z (qd Z (za (Wr (n:=r4.2) (show Tryz.prog.underlying 86=some (.interface (Tryz.prog.methodsAt 86)) from by kernel_rfl) Z) ?_))))))))))))))))
 refine zi _ Z (fun h6 => ?_) (fun h6 => ?_)
 ·refine tE h6 H fun H=>zc hN Z (qd Z (qd Z (qd Z (qd Z (qd Z (bE H fun r7 h8 H=>za (zj (z8u [80,97,114,115,101,73,110,116] s1 base2 bitSize3 r4.2 r7 h8) ⟨.inl Z,.inl Z,.inl Z,.inl Z,.inl Z,U⟩) (qe Z (qe Z (zg ?_)))))))))
  cases H
  exact ⟨U,.inl Z,.inl Z,U⟩
 ·refine fE h6 H fun H=>zn (zc hN Z (qd Z (qe Z (qe Z (zg ?_)))))
  cases H
  exact ⟨U,.inl Z,.inl Z,U⟩
theorem y8z (s1:Bs) (r:(Int×Bool)) (H:z2z s1=some r):Fn Tryz.prog 166 [vstr s1] (zp [vint r.1,zf r.2]):=by
 refine ⟨by kernel_rfl,zy (us:=[vint r.1,zf r.2]) Tryz.func166 Z Z Z Z fun X hN => ?_⟩
 unfold z2z at H
 refine zc hN Z (qe Z (qe Z (zh (zz (ι:=Bool) (fun i=>[(0,.dat (vstr s1)),(26,.dat (zf i))]) (fun i=>[]) (fun i=>km s1 i=some r) (fun i=>Z) ?_ ?_))))
 ·skip
  refine zq hN Z (qd Z (za (qy Z Z) (qd Z (zu (j:=2) Z Z (fun h2 => ?_) (fun h2 => ?_) Z))))
  ·refine u3 h2 H fun h3 H=>zd Z Z h2 (ze (.dat _) Z) (zd Z Z h2 (yi tyU9 Z) (zd Z Z h2 (qb Z Z) (za (zl Z (bFF h3) Z) (qd Z (zu (j:=7) Z Z (fun h4 => ?_) (fun h4 => ?_) Z)))))
   ·refine u3 h4 H fun h5 H=>zd Z Z h4 (ze (.dat _) Z) (bE H fun r6 h7 H=>zd Z Z h4 (zj (z8r s1 [48,49,50,51,52,53,54,55,56,57,97,98,99,100,101,102] r6 h7) ⟨.inl Z,.inl Z,U⟩) (zd Z Z h4 (vc Z Z) (za (zl Z (bFF h5) Z) (qd Z (zu (j:=12) Z Z (fun h8 => ?_) (fun h8 => ?_) Z)))))
    ·refine u3 h8 H fun h9 H=>zd Z Z h8 (ze (.dat _) Z) (bE H fun x10 h11 H=>zd Z Z h8 (qh tyU9 Z Z h11) (zd Z Z h8 (yp Z Z) (zd Z Z h8 (ze (.dat _) Z) (zu (j:=16) Z Z (fun h12 => ?_) (fun h12 => ?_) Z))))
     ·exact u1 h12 H fun h13 H=>zd Z Z h12 (ze (.dat _) Z) (zd Z Z h12 (vc Z Z) (zd Z Z h8 (zm Z (bTT h13) Z) (za (zl Z (bFF h9) Z) ⟨decide (s1≠[48]),H,⟨Z,Z,U⟩,U⟩)))
     ·exact u2 h12 H fun h14 H=>zb Z Z h12 (zb Z Z h12 (zd Z Z h8 (zl Z (bFF h14) Z) (za (zl Z (bFF h9) Z) ⟨false,H,⟨Z,Z,U⟩,U⟩)))
    ·exact u4 h8 H fun h15 H=>zb Z Z h8 (zb Z Z h8 (zb Z Z h8 (zb Z Z h8 (yh Z Z (yh Z Z (zb Z Z h8 (za (zm Z (bTT h15) Z) ⟨true,H,⟨Z,Z,U⟩,U⟩)))))))
   ·exact u4 h4 H fun h16 H=>zb Z Z h4 (zb Z Z h4 (zb Z Z h4 (za (zm Z (bTT h16) Z) (qd Z (zb Z Z Z (zb Z Z Z (zb Z Z Z (zb Z Z Z (yh Z Z (yh Z Z (zb Z Z Z (za (zm Z Z Z) ⟨true,H,⟨Z,Z,U⟩,U⟩))))))))))))
  ·exact u4 h2 H fun h17 H=>zb Z Z h2 (zb Z Z h2 (zb Z Z h2 (za (zm Z (bTT h17) Z) (qd Z (zb Z Z Z (zb Z Z Z (zb Z Z Z (za (zm Z Z Z) (qd Z (zb Z Z Z (zb Z Z Z (zb Z Z Z (zb Z Z Z (yh Z Z (yh Z Z (zb Z Z Z (za (zm Z Z Z) ⟨true,H,⟨Z,Z,U⟩,U⟩)))))))))))))))))
 ·rintro v18 H
  replace H:km s1 v18=some r:=H
  unfold km at H
  refine zi _ Z (fun h19 => ?_) (fun h19 => ?_)
  ·refine tE h19 H fun H=>zc hN Z (qe Z (qe Z (zg ?_)))
   cases H
   exact ⟨U,.inl Z,.inl Z,U⟩
  ·refine fE h19 H fun H=>zn (zc hN Z (qd Z (bE H fun r20 h21 H=>za (zj (y2e s1 16 64 r20 h21) ⟨.inl Z,.inl Z,.inl Z,U⟩) (qd Z (za (zt Z Z) (za (zt Z Z) (qe Z (qe Z (zh (wz mixed hN Z Z (qd Z (qd Z (za (z43 (n:=r20.2) (show Tryz.prog.underlying 86=some (.interface (Tryz.prog.methodsAt 86)) from by kernel_rfl) Z) ?_)))))))))))))
   refine qe Z (qe Z ⟨Z,?_⟩)
   refine zg ?_
   cases H
   exact ⟨U,.inl Z,.inl Z,U⟩
theorem y76 (l1:(List Int)) (r:(Int×(List Int))) (H:z5x l1=some r):FnG Tryz.prog 106 [.ptr 0 0] [(0,.box (some 0) 101 [.nptr 0,.row 1 l1.length]),(1,.row 5 1 (List.map yv l1))] (.dat (zp [vint r.1])) [(0,.box (some 0) 101 [.nptr 0,.row 900 r.2.length]),(900,.row 5 1 (List.map yv r.2))]:=by
 refine z4e (by kernel_rfl) Tryz.func106 Z Z Z Z fun X A hN => ?_
 refine vt ?_
 unfold z5x at H
 refine zc hN Z (qe Z (zc hN Z (za (ze (.ptr _ _) Z) (za (jg Z) (za (zv z11 Z) (zr (zx z1s Z Z) Z (zr (z7j xf Z Z) Z (qe Z (zg ?_)))))))))
 cases H
 show Cv _ _ _ _
 exact ja (rn [(1,900)]) [(2,.dat (vint (l1.length:Int)))] [(0,.box (some (A.bl 0)) 101 [.nptr 0,.row 1 l1.length]),(1,.row 5 1 (List.map yv l1))] ⟨Z,U⟩ ⟨Z,Z,U⟩ Z Z ⟨U,[(2,.dat (vint (l1.length:Int)))],⟨Z,U⟩,⟨Z,Z,U⟩,Z,.inl ⟨[vint (l1.length:Int)],⟨Z,U⟩,Z⟩⟩
theorem y18 (l1:(List Int)) (s2:Bs) (r:(Int×Int×(List Int))) (H:z2o l1 s2=some r):FnG Tryz.prog 58 [.ptr 0 0,.dat (vstr s2)] [(0,.box (some 0) 101 [.nptr 0,.row 1 l1.length]),(1,.row 5 1 (List.map yv l1))] (.dat (zp [vint r.1,verr r.2.1])) [(0,.box (some 0) 101 [.nptr 0,.row 900 r.2.2.length]),(900,.row 5 1 (List.map yv r.2.2))]:=by
 refine z4e (by kernel_rfl) Tryz.func58 Z Z Z Z fun X A hN => ?_
 refine vt ?_
 unfold z2o at H
 refine zc hN Z (qe Z (qe Z (zc hN Z (za (ze (.ptr _ _) Z) (zo (y0x y3p Z) Z (zc hN Z (za (ze (.ptr _ _) Z) (za (ze (.ptr _ _) Z) (za (jg Z) (za (zv z11 Z) (zr (zx z1s Z Z) Z (qd Z (gE H fun h3 H=>zo (y42 (C:=yv) (fun _=>Z) (show tyB8 Tryz.prog 28 9 5 from ⟨by kernel_rfl,by kernel_rfl,by kernel_rfl⟩) Z Z Z h3) Z ?_)))))))))))))
 refine za (jg Z) (za (zv z11 Z) (z5b (z42 z1s Z Z (by rw [List.length_map]) Z) Z Z ?_))
 refine zc hN Z (qd Z (za (yi tyU9 Z) (qe Z (qe Z (zg ?_)))))
 cases H
 show Cv _ _ _ _
 exact ja (rn [(1,900)]) [(4,.dat (vint (s2.length:Int))),(5,.dat (verr 0))] [(0,.box (some (A.bl 0)) 101 [.nptr 0,.row 1 ((l1++yu s2).length)]),(1,.row 5 1 (List.map yv (l1++yu s2)))] ⟨Z,Z,U⟩ ⟨Z,Z,U⟩ Z Z ⟨U,[(4,.dat (vint (s2.length:Int))),(5,.dat (verr 0))],⟨Z,Z,U⟩,⟨Z,Z,U⟩,Z,.inl ⟨[vint (s2.length:Int),verr 0],⟨Z,Z,U⟩,Z⟩⟩
theorem y81 (s1:Bs) (r:(Bs×Int×Int)) (H:z24 s1=some r):Fn Tryz.prog 128 [vstr s1] (zp [vstr r.1,vint r.2.1,vint r.2.2]):=by
 refine ⟨by kernel_rfl,zy (us:=[vstr r.1,vint r.2.1,vint r.2.2]) Tryz.func128 Z Z Z Z fun X hN => ?_⟩
 unfold z24 at H
 refine zc hN Z (qe Z (qe Z (qe Z (zc hN Z (zo (qm 1 y0c Z) Z (y3r 1 0 (.nptr 1) Z Z y1u (z66 1 1 2 5 1 Z Z Z Z (zc hN Z (qe Z (yc (ki (fun (s:Int×(List Int))=>[(0,.dat (vstr s1)),(5,.ptr 1 0),(6,.dat (vint s.1))]) (fun (s:Int×(List Int))=>[(1,.box none 101 [.nptr 1,.row 2 s.2.length]),(2,.row 5 1 (List.map yv s.2))]) (0,([]:List Int)) H ⟨Z,Z,Z,U⟩ ⟨Z,Z,U⟩ (fun _=>Z) ?_)))))))))))
 rintro ⟨v2,l3⟩ q4 H hq4
 replace H:ju s1 v2 l3=some q4:=H
 unfold ju at H
 refine vt (yc (zc hN Z (qd Z (qd Z (bE H fun l5 h6 H=>za (qf tyU9 Z Z Z h6) (bE H fun r7 h8 H=>za (zj (kf l5 [13,10] r7 h8) ⟨.inl Z,.inl Z,U⟩) (qd Z (za (zt Z Z) (za (zt Z Z) (za (zt Z Z) (qe Z (qe Z (qe Z (zc hN Z (qd Z (bE H fun r9 h10 H=>za (zj (y8z r7.1 r9 h10) ⟨.inl Z,U⟩) (qd Z (za (zt Z Z) (za (zt Z Z) (qe Z ?_))))))))))))))))))))
 refine qe Z (zh (zc hN Z (qd Z (za (yk Z) (qd Z (yz Z Z (fun hc=>ze (.dat _) Z) (yz Z Z (fun hc=>yk (cnd (c:=(!(!r7.2.2))) hc)) (za (vk Z Z (fun hb=>(cnd (c:=(!(!r7.2.2))) (notI hb)))) (zi _ Z (fun h11 => ?_) (fun h11 => ?_))))))))))
 ·refine tE h11 H fun H=>zc hN Z (qe Z (qe Z (qe Z (zg ?_))))
  replace H:=retl H hq4
  cases H
  show Cv _ _ _ _
  exact qv ⟨U,.inl Z,.inl Z,.inl Z,U⟩
 ·refine fE h11 H fun H=>zn (zh (zc hN Z (bE H fun r12 h13 H=>jt (rn [(0,1),(1,2),(900,3)]) [(0,_,_,some _),(1,_,_,none)] [(900,_)] (y76 l3 r12 h13) ⟨Z,Z,Z,U⟩ ⟨.inl (.inl Z),U⟩ ⟨⟨⟨Z,Z⟩,U⟩,⟨⟨Z,Z,Z⟩,U⟩,U⟩ Z (qd Z (za (yf _ Z Z (.inl ⟨Z,Z⟩)) (za (qb Z Z) (zi _ Z (fun h14 => ?_) (fun h14 => ?_))))))))
  ·refine tE h14 H fun H=>zc hN Z (qe Z (qe Z (qe Z (zg ?_))))
   replace H:=retl H hq4
   cases H
   show Cv _ _ _ _
   exact qv ⟨U,.inl Z,.inl Z,.inl Z,U⟩
  ·refine fE h14 H fun H=>zn (zh (zz (ι:=Bool) (fun i=>[(0,.dat (vstr s1)),(5,.ptr 1 0),(6,.dat (vint v2)),(7,.dat (vstr r7.1)),(8,.dat (vstr r7.2.1)),(10,.dat (vint r9.1)),(47,.dat (zf i))]) (fun i=>[(1,.box none 101 [.nptr 1,.row 3 r12.2.length]),(3,.row 5 1 (List.map yv r12.2))]) (fun i=>xr v2 r7 r9 r12 i=some q4) (fun i=>Z) ?_ ?_))
   ·refine vt (zq hN Z (qd Z (za (yi tyU9 Z) (qd Z (za (yf _ Z Z (.inl ⟨Z,Z⟩)) (za (yg Z Z) (qd Z (zu (j:=5) Z Z (fun h15 => ?_) (fun h15 => ?_) Z))))))))
    ·refine u3 h15 H fun h16 H=>zd Z Z h15 (ze (.dat _) Z) (zd Z Z h15 (ze (.dat _) Z) (zd Z Z h15 (ze (.dat _) Z) (zd Z Z h15 (yf _ Z Z (.inl ⟨Z,Z⟩)) (bE H fun l17 h18 H=>zd Z Z h15 (qf tyU9 Z Z Z h18) (zd Z Z h15 (vc Z Z) (za (zl Z (bFF h16) Z) (vi ?_)))))))
     show Cv _ _ _ _
     exact qv ⟨decide (l17≠[13,10]),H,⟨Z,Z,Z,Z,Z,Z,Z,U⟩,⟨Z,Z,U⟩⟩
    ·refine u4 h15 H fun h19 H=>zb Z Z h15 (zb Z Z h15 (zb Z Z h15 (zb Z Z h15 (zb Z Z h15 (zb Z Z h15 (za (zm Z (bTT h19) Z) (vi ?_)))))))
     show Cv _ _ _ _
     exact qv ⟨true,H,⟨Z,Z,Z,Z,Z,Z,Z,U⟩,⟨Z,Z,U⟩⟩
   ·rintro v20 H
    replace H:xr v2 r7 r9 r12 v20=some q4:=H
    unfold xr at H
    refine zi _ Z (fun h21 => ?_) (fun h21 => ?_)
    ·refine tE h21 H fun H=>zc hN Z (qe Z (qe Z (qe Z (zg ?_))))
     replace H:=retl H hq4
     cases H
     show Cv _ _ _ _
     exact qv ⟨U,.inl Z,.inl Z,.inl Z,U⟩
    ·refine fE h21 H fun H=>zn (zc hN Z (qd Z (qd Z (za (yi tyU9 Z) (za (yf _ Z Z (.inl ⟨Z,Z⟩)) (qd Z (za (yf _ Z Z (.inl ⟨Z,Z⟩)) (za (yf _ Z Z (.inl ⟨Z,Z⟩)) (za (yf _ Z Z (.inl ⟨Z,Z⟩)) (qe Z (zh (zc hN Z (qd Z (za (yp Z Z) (zi _ Z (fun h22 => ?_) (fun h22 => ?_))))))))))))))))
     ·refine tE h22 H fun H=>zc hN Z (gE H fun h23 H=>jt (rn [(0,1),(1,3)]) [(0,_,_,none),(1,_,_,none)] [] (y17 h23 (C:=yv) (fun _=>Z)) ⟨Z,Z,U⟩ ⟨.inl (.inl Z),U⟩ ⟨⟨⟨Z,Z⟩,U⟩,⟨⟨Z,Z,Z⟩,U⟩,U⟩ Z (qd Z (qe Z (qe Z (qe Z (zg ?_))))))
      replace H:=retl H hq4
      cases H
      show Cv _ _ _ _
      exact qv ⟨U,.inl Z,.inl Z,.inl Z,U⟩
     ·refine fE h22 H fun H=>zn (zq hN Z (qd Z (qd Z (bE H fun l24 h25 H=>za (qf tyU9 Z Z Z h25) (bE H fun r26 h27 H=>jt (rn [(0,1),(1,3),(900,4)]) [(0,_,_,some _),(1,_,_,none)] [(900,_)] (y18 r12.2 l24 r26 h27) ⟨Z,Z,Z,U⟩ ⟨.inl (.inl Z),.inl (.inl Z),U⟩ ⟨⟨⟨Z,Z⟩,U⟩,⟨⟨Z,Z,Z⟩,U⟩,U⟩ Z (vi ?_))))))
      show Cv _ _ _ _
      exact ja (rn [(4,2)]) [(0,.dat (vstr s1)),(5,.ptr 1 0),(6,.dat (vint (wr (v2+(wr ((wr ((wr ((r7.1.length:Int)+2))+r9.1))+2))))))] [(1,.box none 101 [.nptr 1,.row 4 r26.2.2.length]),(4,.row 5 1 (List.map yv r26.2.2))] ⟨Z,Z,Z,U⟩ ⟨Z,Z,U⟩ Z Z ⟨_,qr H,⟨Z,Z,Z,U⟩,⟨Z,Z,U⟩⟩
theorem y2a (s p:Bs) (r:Bs) (H:z0c s p=some r):Fn Tryz.prog 138 [vstr s,vstr p] (zp [vstr r]):=by
 unfold z0c at H
 cases H
 refine jz (by kernel_rfl) fun M w vs hM h => ?_
 have hv:=vu (us:=[.string ⟨s.toArray⟩,.string ⟨p.toArray⟩]) h
 subst hv
 refine (Tryz.strings_TrimPrefix ⟨s.toArray⟩ ⟨p.toArray⟩ w).mono ?_
 rintro e w' ⟨rfl,rfl⟩
 exact ⟨_,Z,Z,Kp.refl _ _⟩

theorem y9h (v1:Bs) (r:(Int×Int)) (H:Ys v1=some r):Fn Tryz.prog 98 [vstr v1] (zp [vint r.1,verr r.2]):=by
 refine ⟨by kernel_rfl,zy (us:=[vint r.1,verr r.2]) Tryz.func98 Z Z Z Z fun X hN => ?_⟩
 unfold Ys at H
 refine zc hN Z (qe Z (qe Z (zc hN Z (qd Z (za (yi tyU9 Z) (qe Z (zh (zc hN Z (qd Z (qg (s := .dat (vint (v1.length:Int))) Z Z (fun hc=>ze (.dat _) Z) (qg (s := .dat (zf (decide (0 < (v1.length:Int))))) Z Z (fun hc=>yg Z (cnd (c:=false) (s := .dat (vint (v1.length:Int))) hc)) (qg (s := .dat (zf (decide (0 < (v1.length:Int))))) Z Z (fun hc=>ze (.dat _) (cnd (c:=false) (s := .dat (zf (decide (0 < (v1.length:Int))))) hc)) (ji (s := .dat (vint (v1.length:Int))) (c:=false) (b:=decide (0 < (v1.length:Int))) Z Z (fun hc=>ze (.dat _) Z) (ji (s := .dat (zf (decide ((v1.length:Int) < 10)))) (c:=false) (b:=decide (0 < (v1.length:Int))) Z Z (fun hc=>yg (cnd (c:=(false && (decide (0 < (v1.length:Int))))) (s := .dat (vint (v1.length:Int))) hc) Z) (qg (s := .dat (zf ((decide (0 < (v1.length:Int))) && (decide ((v1.length:Int) < 10))))) Z Z (fun hc=>wu (cnd (c:=false) (s := .dat (zf (decide (0 < (v1.length:Int))))) hc) (fun hb=>(cnd (c:=(false && (decide (0 < (v1.length:Int))))) (s := .dat (zf (decide ((v1.length:Int) < 10)))) (andI hc hb))) Z) (za (wu Z (fun hb=>(cnd (c:=false) (s := .dat (zf ((decide (0 < (v1.length:Int))) && (decide ((v1.length:Int) < 10))))) hb)) Z) (qd Z (yz (s := .dat (zf true)) Z Z (fun hc=>ze (.dat _) Z) (ji (s := .dat (vint (v1.length:Int))) (c:=(!(false && ((decide (0 < (v1.length:Int))) && (decide ((v1.length:Int) < 10)))))) (b:=true) Z Z (fun hc=>ze (.dat _) Z) (ji (s := .dat (zf (decide (0 < (v1.length:Int))))) (c:=(!(false && ((decide (0 < (v1.length:Int))) && (decide ((v1.length:Int) < 10)))))) (b:=true) Z Z (fun hc=>yg Z (cnd (c:=((!(false && ((decide (0 < (v1.length:Int))) && (decide ((v1.length:Int) < 10))))) && true)) (s := .dat (vint (v1.length:Int))) hc)) (ji (s := .dat (zf (decide (0 < (v1.length:Int))))) (c:=(!(false && ((decide (0 < (v1.length:Int))) && (decide ((v1.length:Int) < 10)))))) (b:=true) Z Z (fun hc=>ze (.dat _) (cnd (c:=((!(false && ((decide (0 < (v1.length:Int))) && (decide ((v1.length:Int) < 10))))) && true)) (s := .dat (zf (decide (0 < (v1.length:Int))))) hc)) (ji (s := .dat (vint (v1.length:Int))) (c:=((!(false && ((decide (0 < (v1.length:Int))) && (decide ((v1.length:Int) < 10))))) && true)) (b:=decide (0 < (v1.length:Int))) Z Z (fun hc=>ze (.dat _) Z) (ji (s := .dat (zf (decide ((v1.length:Int) < 19)))) (c:=((!(false && ((decide (0 < (v1.length:Int))) && (decide ((v1.length:Int) < 10))))) && true)) (b:=decide (0 < (v1.length:Int))) Z Z (fun hc=>yg (cnd (c:=(((!(false && ((decide (0 < (v1.length:Int))) && (decide ((v1.length:Int) < 10))))) && true) && (decide (0 < (v1.length:Int))))) (s := .dat (vint (v1.length:Int))) hc) Z) ?_)))))))))))))))))))))))
 refine ji (s := .dat (zf ((decide (0 < (v1.length:Int))) && (decide ((v1.length:Int) < 19))))) (c:=(!(false && ((decide (0 < (v1.length:Int))) && (decide ((v1.length:Int) < 10)))))) (b:=true) Z Z (fun hc=>wu (cnd (c:=((!(false && ((decide (0 < (v1.length:Int))) && (decide ((v1.length:Int) < 10))))) && true)) (s := .dat (zf (decide (0 < (v1.length:Int))))) hc) (fun hb=>(cnd (c:=(((!(false && ((decide (0 < (v1.length:Int))) && (decide ((v1.length:Int) < 10))))) && true) && (decide (0 < (v1.length:Int))))) (s := .dat (zf (decide ((v1.length:Int) < 19)))) (andI hc hb))) Z) (yz (s := .dat (zf (true && ((decide (0 < (v1.length:Int))) && (decide ((v1.length:Int) < 19)))))) Z Z (fun hc=>wu (cnd (c:=(!(false && ((decide (0 < (v1.length:Int))) && (decide ((v1.length:Int) < 10)))))) (s := .dat (zf true)) hc) (fun hb=>(cnd (c:=((!(false && ((decide (0 < (v1.length:Int))) && (decide ((v1.length:Int) < 10))))) && true)) (s := .dat (zf ((decide (0 < (v1.length:Int))) && (decide ((v1.length:Int) < 19))))) (andI hc hb))) Z) (za (vk Z Z (fun hb=>(cnd (c:=(!(false && ((decide (0 < (v1.length:Int))) && (decide ((v1.length:Int) < 10)))))) (s := .dat (zf (true && ((decide (0 < (v1.length:Int))) && (decide ((v1.length:Int) < 19)))))) (notI hb)))) (zi _ Z (fun h2 => ?_) (fun h2 => ?_))))
 ·refine tE h2 H fun H=>zc hN Z (qd Z (qe Z (zz (ι:=Bs) (fun i=>[(0,.dat (vstr i)),(5,.dat (vstr v1))]) (fun i=>[]) (fun i=>Qk v1 i=some r) (fun i=>Z) ?_ ?_)))
  ·skip
   refine zz (ι:=Bool) (fun i=>[(0,.dat (vstr v1)),(5,.dat (vstr v1)),(39,.dat (zf i))]) (fun i=>[]) (fun i=>Qj v1 i=some r) (fun i=>Z) ?_ ?_
   ·skip
    refine zq hN Z (qd Z (bE H fun x3 h4 H=>za (qh tyU9 Z Z h4) (za (yp Z Z) (qd Z (zu (j:=3) Z Z (fun h5 => ?_) (fun h5 => ?_) Z)))))
    ·exact u3 h5 H fun h6 H=>zd Z Z h5 (ze (.dat _) Z) (zd Z Z h5 (qh tyU9 Z Z h4) (zd Z Z h5 (yp Z Z) (za (zl Z (bFF h6) Z) ⟨decide ((x3.toNat:Int)=43),H,⟨Z,Z,Z,U⟩,U⟩)))
    ·exact u4 h5 H fun h7 H=>zb Z Z h5 (zb Z Z h5 (zb Z Z h5 (za (zm Z (bTT h7) Z) ⟨true,H,⟨Z,Z,Z,U⟩,U⟩)))
   ·rintro v8 H
    replace H:Qj v1 v8=some r:=H
    unfold Qj at H
    refine zi _ Z (fun h9 => ?_) (fun h9 => ?_)
    ·refine tE h9 H fun H=>zc hN Z (qd Z (bE H fun l10 h11 H=>za (qf tyU9 Z Z Z h11) (qe Z (zc hN Z (qd Z (za (yi tyU9 Z) (za (yg Z Z) (zi _ Z (fun h12 => ?_) (fun h12 => ?_)))))))))
     ·refine tE h12 H fun H=>zc hN Z (za (yo (u':=verr 2) (jh (show Tryz.prog.underlying 148=some (.int .i64) from by kernel_rfl) Z) Z) ?_)
      refine qe Z (qe Z (zg ?_))
      cases H
      exact ⟨U,.inl Z,.inl Z,U⟩
     ·exact fE h12 H fun H=>zn ⟨l10,H,⟨Z,Z,U⟩,U⟩
    ·exact fE h9 H fun H=>zn ⟨v1,H,⟨Z,Z,U⟩,U⟩
  ·rintro v13 H
   replace H:Qk v1 v13=some r:=H
   unfold Qk at H
   refine zc hN Z (qe Z (zh (zc hN Z (qd Z (za (y0v (C:=yv) tyU9 xf tyU5 (fun _=>Z) Z) (za (yw xf Z) (qd Z (yc (gE H fun h17 H=>ve (fun (k15:Nat) (s:Int)=>[(5,.dat (vstr v1)),(6,.dat (vint s)),(47,.dat (vlst (List.map yv (yu v13)))),(48,.dat (vint ((yu v13).length:Int))),(49,.dat (vint (k15:Int)))]) (fun (k15:Nat) (s:Int)=>[]) 0 H ⟨Z,Z,Z,Z,Z,U⟩ U (fun _ _=>Z) ?_ ?_)))))))))
   ·rintro v14 H
    replace H:Ql v1 v14=some r:=H
    unfold Ql at H
    refine zc hN Z (za (yg Z Z) (zh (zi _ Z (fun h=>(lt_t h).elim) (fun h => ?_))))
    refine qj (zz (ι:=Int) (fun i=>[(6,.dat (vint i))]) (fun i=>[]) (fun i=>Qi i=some r) (fun i=>Z) ?_ ?_)
    ·skip
     refine zc hN Z (qd Z (bE H fun x19 h20 H=>za (qh tyU9 Z Z h20) (za (yp Z Z) (zi _ Z (fun h21 => ?_) (fun h21 => ?_)))))
     ·exact tE h21 H fun H=>zq hN Z (qd Z (gE H fun h22 H=>za (y5f Z h22) (qe Z ⟨(-v14),H,⟨Z,U⟩,U⟩)))
     ·exact fE h21 H fun H=>zn ⟨v14,H,⟨Z,U⟩,U⟩
    ·rintro v23 H
     replace H:Qi v23=some r:=H
     unfold Qi at H
     refine zc hN Z (qd Z (qe Z (qe Z (zg ?_))))
     cases H
     exact ⟨U,.inl Z,.inl Z,U⟩
   ·rintro k15 x18 v14 q16 h24 h25 H hq16
    replace H:z06 k15 x18 v14=some q16:=H
    unfold z06 at H
    refine zc hN Z (za (yg Z Z) (zh (zi _ Z (fun h => ?_) (fun h=>(lt_f h24 h).elim))))
    refine zn (zh (yc (zc hN Z (za (qx y0d (fun _=>Z) Z Z h25) (za (wa tyS5 Z (qq h25) Z) (qe Z (zc hN Z (qd Z (za (yf _ Z Z (.inr (.inl ⟨Z,Z⟩))) (qe Z (zh (zc hN Z (qd Z (za (qb Z Z) (zi _ Z (fun h26 => ?_) (fun h26 => ?_))))))))))))))))
    ·refine tE h26 H fun H=>zc hN Z (za (yo (u':=verr 2) (jh (show Tryz.prog.underlying 148=some (.int .i64) from by kernel_rfl) Z) Z) ?_)
     refine qe Z (qe Z (zg ?_))
     replace H:=retl H hq16
     cases H
     exact ⟨U,.inl Z,.inl Z,U⟩
    ·exact fE h26 H fun H=>zn (zq hN Z (qd Z (za (yf _ Z Z (.inr (.inr ⟨Z,Z⟩))) (qd Z (za (vh tyU5 tyU3 Z) (za (yf _ Z Z (.inl ⟨Z,Z⟩)) (qe Z (zq hN Z (za (wy Z Z (by omega)) (qd Z ⟨_,qr H,⟨Z,Z,Z,Z,Z,U⟩,U⟩))))))))))
 ·refine fE h2 H fun H=>zn (zc hN Z (qd Z (bE H fun r27 h28 H=>za (zj (y2p v1 10 0 r27 h28) ⟨.inl Z,.inl Z,.inl Z,U⟩) (qd Z (za (zt Z Z) (za (zt Z Z) (qe Z (qe Z (zc hN Z (qd Z (qd Z (qe Z (qe Z (zg ?_))))))))))))))
  cases H
  exact ⟨U,.inl Z,.inl Z,U⟩
theorem z6f (s1:Bs) (r:(Int×Int)) (H:jv s1=some r):Fn Tryz.prog 44 [vstr s1] (zp [vint r.1,verr r.2]):=by
 refine ⟨by kernel_rfl,zy (us:=[vint r.1,verr r.2]) Tryz.func44 Z Z Z Z fun X hN => ?_⟩
 unfold jv at H
 refine zc hN Z (qe Z (qe Z (zc hN Z (qd Z (bE H fun r2 h3 H=>za (zj (y9h s1 r2 h3) ⟨.inl Z,U⟩) (qd Z (za (zt Z Z) (za (zt Z Z) (qe Z (qe Z (zh (zc hN Z (qd Z (za (Wr (n:=r2.2) (show Tryz.prog.underlying 86=some (.interface (Tryz.prog.methodsAt 86)) from by kernel_rfl) Z) ?_))))))))))))))
 refine zi _ Z (fun h4 => ?_) (fun h4 => ?_)
 ·refine tE h4 H fun H=>zc hN Z (qd Z (qd Z (qd Z (bE H fun r5 h6 H=>za (zj (z8u [65,116,111,105] s1 0 0 r2.2 r5 h6) ⟨.inl Z,.inl Z,.inl Z,.inl Z,.inl Z,U⟩) (qe Z (qe Z (zg ?_)))))))
  cases H
  exact ⟨U,.inl Z,.inl Z,U⟩
 ·refine fE h4 H fun H=>zn (zc hN Z (qd Z (qe Z (qe Z (zg ?_)))))
  cases H
  exact ⟨U,.inl Z,.inl Z,U⟩
theorem y88 (s1:Bs) (most2:Int) (r:(Int×Bool)) (H:Yr s1 most2=some r):Fn Tryz.prog 167 [vstr s1,vint most2] (zp [vint r.1,zf r.2]):=by
 refine ⟨by kernel_rfl,zy (us:=[vint r.1,zf r.2]) Tryz.func167 Z Z Z Z fun X hN => ?_⟩
 unfold Yr at H
 refine zc hN Z (qe Z (qe Z (zc hN Z (qd Z (bE H fun r3 h4 H=>za (zj (y2a s1 [45] r3 h4) ⟨.inl Z,.inl Z,U⟩) (qe Z (zh (zz (ι:=Bool) (fun i=>[(0,.dat (vstr s1)),(6,.dat (vstr r3)),(28,.dat (zf i))]) (fun i=>[]) (fun i=>jl s1 r3 i=some r) (fun i=>Z) ?_ ?_))))))))
 ·skip
  refine zq hN Z (qd Z (za (qy Z Z) (qd Z (zu (j:=2) Z Z (fun h5 => ?_) (fun h5 => ?_) Z))))
  ·refine u3 h5 H fun h6 H=>zd Z Z h5 (ze (.dat _) Z) (zd Z Z h5 (yi tyU9 Z) (zd Z Z h5 (ze (.dat _) Z) (zd Z Z h5 (qb Z Z) (za (zl Z (bFF h6) Z) (qd Z (zu (j:=8) Z Z (fun h7 => ?_) (fun h7 => ?_) Z))))))
   ·refine u3 h7 H fun h8 H=>zd Z Z h7 (ze (.dat _) Z) (bE H fun x9 h10 H=>zd Z Z h7 (qh tyU9 Z Z h10) (zd Z Z h7 (yp Z Z) (zd Z Z h7 (ze (.dat _) Z) (zu (j:=12) Z Z (fun h11 => ?_) (fun h11 => ?_) Z))))
    ·exact u1 h11 H fun h12 H=>zd Z Z h11 (ze (.dat _) Z) (zd Z Z h11 (vc Z Z) (zd Z Z h7 (zm Z (bTT h12) Z) (za (zl Z (bFF h8) Z) ⟨decide (s1≠[48]),H,⟨Z,Z,Z,U⟩,U⟩)))
    ·exact u2 h11 H fun h13 H=>zb Z Z h11 (zb Z Z h11 (zd Z Z h7 (zl Z (bFF h13) Z) (za (zl Z (bFF h8) Z) ⟨false,H,⟨Z,Z,Z,U⟩,U⟩)))
   ·exact u4 h7 H fun h14 H=>zb Z Z h7 (zb Z Z h7 (zb Z Z h7 (zb Z Z h7 (yh Z Z (yh Z Z (zb Z Z h7 (za (zm Z (bTT h14) Z) ⟨true,H,⟨Z,Z,Z,U⟩,U⟩)))))))
  ·exact u4 h5 H fun h15 H=>zb Z Z h5 (zb Z Z h5 (zb Z Z h5 (zb Z Z h5 (za (zm Z (bTT h15) Z) (qd Z (zb Z Z Z (zb Z Z Z (zb Z Z Z (zb Z Z Z (yh Z Z (yh Z Z (zb Z Z Z (za (zm Z Z Z) ⟨true,H,⟨Z,Z,Z,U⟩,U⟩)))))))))))))
 ·rintro v16 H
  replace H:jl s1 r3 v16=some r:=H
  unfold jl at H
  refine zi _ Z (fun h17 => ?_) (fun h17 => ?_)
  ·refine tE h17 H fun H=>zc hN Z (qe Z (qe Z (zg ?_)))
   cases H
   exact ⟨U,.inl Z,.inl Z,U⟩
  ·refine fE h17 H fun H=>zn (zh (zc hN Z (qe Z (yc (gE H fun h20 H=>ve (fun (i18:Nat) (s:Unit)=>[(0,.dat (vstr s1)),(6,.dat (vstr r3)),(7,.dat (vint (i18:Int)))]) (fun (i18:Nat) (s:Unit)=>[]) () H ⟨Z,Z,Z,U⟩ U (fun _ _=>Z) ?_ ?_)))))
   ·rintro ⟨⟩ H
    replace H:z0w s1=some r:=H
    unfold z0w at H
    refine zh (zc hN Z (qd Z (qd Z (za (yi tyU9 Z) (za (yg Z Z) (zi _ Z (fun h=>(lt_t h).elim) (fun h => ?_)))))))
    refine qj (zc hN Z (qd Z (bE H fun r22 h23 H=>za (zj (z6f s1 r22 h23) ⟨.inl Z,U⟩) (qd Z (za (zt Z Z) (za (zt Z Z) (qe Z (qe Z (zh (wz mixed hN Z Z (qd Z (qd Z (za (z43 (n:=r22.2) (show Tryz.prog.underlying 86=some (.interface (Tryz.prog.methodsAt 86)) from by kernel_rfl) Z) ?_)))))))))))))
    refine qe Z (qe Z ⟨Z,?_⟩)
    refine zg ?_
    cases H
    exact ⟨U,.inl Z,.inl Z,U⟩
   ·rintro i18 x21 ⟨⟩ q19 h24 h25 H hq19
    replace H:z3x i18 x21=some q19:=H
    unfold z3x at H
    refine zh (zc hN Z (qd Z (qd Z (za (yi tyU9 Z) (za (yg Z Z) (zi _ Z (fun h => ?_) (fun h=>(lt_f h24 h).elim)))))))
    refine zn (zh (yc (zz (ι:=Bool) (fun i=>[(0,.dat (vstr s1)),(6,.dat (vstr r3)),(7,.dat (vint (i18:Int))),(44,.dat (zf i))]) (fun i=>[]) (fun i=>z3y i=some q19) (fun i=>Z) ?_ ?_)))
    ·skip
     refine zq hN Z (qd Z (qd Z (za (qh tyU9 Z Z h25) (za (yg Z Z) (qd Z (zu (j:=4) Z Z (fun h26 => ?_) (fun h26 => ?_) Z))))))
     ·exact u3 h26 H fun h27 H=>zd Z Z h26 (ze (.dat _) Z) (zd Z Z h26 (ze (.dat _) Z) (zd Z Z h26 (qh tyU9 Z Z h25) (zd Z Z h26 (qb Z Z) (za (zl Z (bFF h27) Z) ⟨decide (57 < (x21.toNat:Int)),H,⟨Z,Z,Z,Z,U⟩,U⟩))))
     ·exact u4 h26 H fun h28 H=>zb Z Z h26 (zb Z Z h26 (zb Z Z h26 (zb Z Z h26 (za (zm Z (bTT h28) Z) ⟨true,H,⟨Z,Z,Z,Z,U⟩,U⟩))))
    ·rintro v29 H
     replace H:z3y v29=some q19:=H
     unfold z3y at H
     refine zi _ Z (fun h30 => ?_) (fun h30 => ?_)
     ·refine tE h30 H fun H=>zc hN Z (qe Z (qe Z (zg ?_)))
      replace H:=retl H hq19
      cases H
      exact ⟨U,.inl Z,.inl Z,U⟩
     ·exact fE h30 H fun H=>zn (zq hN Z (qd Z (za (wy Z Z (by omega)) (qe Z ⟨_,qr H,⟨Z,Z,Z,U⟩,U⟩))))
theorem y2m (s1:Bs) (r:(Int×Bool)) (H:Yq s1=some r):Fn Tryz.prog 129 [vstr s1] (zp [vint r.1,zf r.2]):=by
 refine ⟨by kernel_rfl,zy (us:=[vint r.1,zf r.2]) Tryz.func129 Z Z Z Z fun X hN => ?_⟩
 unfold Yq at H
 refine zc hN Z (qe Z (qe Z (zc hN Z (qd Z (bE H fun r2 h3 H=>za (zj (y88 s1 9 r2 h3) ⟨.inl Z,.inl Z,U⟩) (za (zt Z Z) (za (zt Z Z) (qe Z (qe Z (zg ?_))))))))))
 cases H
 exact ⟨U,.inl Z,.inl Z,U⟩
theorem y80 (l1:(List zk)) (s2:Bs) (r:(Bs×Int×Int)) (H:z23 l1 s2=some r):Fn Tryz.prog 67 [vlst (List.map yb l1),vstr s2] (zp [vstr r.1,vint r.2.1,vint r.2.2]):=by
 refine ⟨by kernel_rfl,zy (us:=[vstr r.1,vint r.2.1,vint r.2.2]) Tryz.func67 Z Z Z Z fun X hN => ?_⟩
 unfold z23 at H
 refine zc hN Z (qe Z (qe Z (qe Z (zh (zc hN Z (qd Z (bE H fun r3 h4 H=>za (zj (z32 l1 [116,114,97,110,115,102,101,114,45,101,110,99,111,100,105,110,103] r3 h4) ⟨.inl Z,.inl Z,U⟩) (za (yw wb Z) (za (yp Z Z) (zi _ Z (fun h5 => ?_) (fun h5 => ?_)))))))))))
 ·refine tE h5 H fun H=>zc hN Z (qd Z (bE H fun r6 h7 H=>za (zj (y81 s2 r6 h7) ⟨.inl Z,U⟩) (za (zt Z Z) (za (zt Z Z) (za (zt Z Z) (qe Z (qe Z (qe Z (zg ?_)))))))))
  cases H
  exact ⟨U,.inl Z,.inl Z,.inl Z,U⟩
 ·refine fE h5 H fun H=>zn (zc hN Z (qd Z (bE H fun r8 h9 H=>za (zj (z32 l1 [99,111,110,116,101,110,116,45,108,101,110,103,116,104] r8 h9) ⟨.inl Z,.inl Z,U⟩) (qe Z (zh (zc hN Z (qd Z (za (yw wb Z) (za (yp Z Z) (zi _ Z (fun h10 => ?_) (fun h10 => ?_)))))))))))
  ·refine tE h10 H fun H=>zc hN Z (qe Z (qe Z (qe Z (zg ?_))))
   cases H
   exact ⟨U,.inl Z,.inl Z,.inl Z,U⟩
  ·refine fE h10 H fun H=>zn (zc hN Z (qd Z (bE H fun x11 h12 H=>za (qx ww (fun _=>Z) Z Z h12) (za (wa tyS9 Z (qq h12) Z) (bE H fun r13 h14 H=>za (zj (y2m x11 r13 h14) ⟨.inl Z,U⟩) (qd Z (za (zt Z Z) (za (zt Z Z) (qe Z (qe Z (zh (zc hN Z (qd Z (za (yk Z) (qd Z (yz Z Z (fun hc=>ze (.dat _) Z) (yz Z Z (fun hc=>qb (cnd (c:=(!(!r13.2))) hc) Z) (za (vk Z Z (fun hb=>(cnd (c:=(!(!r13.2))) (notI hb)))) (zi _ Z (fun h15 => ?_) (fun h15 => ?_))))))))))))))))))))
   ·refine tE h15 H fun H=>zc hN Z (qe Z (qe Z (qe Z (zg ?_))))
    cases H
    exact ⟨U,.inl Z,.inl Z,.inl Z,U⟩
   ·refine fE h15 H fun H=>zn (zh (zc hN Z (qd Z (qd Z (za (yi tyU9 Z) (za (qb Z Z) (zi _ Z (fun h16 => ?_) (fun h16 => ?_))))))))
    ·refine tE h16 H fun H=>zc hN Z (qe Z (qe Z (qe Z (zg ?_))))
     cases H
     exact ⟨U,.inl Z,.inl Z,.inl Z,U⟩
    ·refine fE h16 H fun H=>zn (zc hN Z (qd Z (qd Z (bE H fun l17 h18 H=>za (qf tyU9 Z Z Z h18) (qd Z (qe Z (qe Z (qe Z (zg ?_)))))))))
     cases H
     exact ⟨U,.inl Z,.inl Z,.inl Z,U⟩
theorem z8q (l r:List zk) (H:kn l=some r):FnG Tryz.prog 69 [.dat (vlst (List.map yb l))] [] (.row 900 r.length) [(900,.row 91 2 (List.map yb r))]:=by
 obtain ⟨hl,rfl⟩:=x1g H
 refine z4e (by kernel_rfl) Tryz.func69 Z Z Z Z fun X A hN => ?_
 refine x1w 0 Z (fun h0 => ?_) ?_
 ·obtain rfl:=List.map_eq_nil_iff.1 h0
  refine zc hN Z (qe Z (zh (zc hN Z (qd Z (za (y5s vg Z) (zi _ Z (fun h => ?_) (fun h=>by cases h)))))))
  exact zc hN Z (qe Z (z4h 2 900 91 2 Z Z Z (zg ⟨U,[(2,.row 900 0)],⟨Z,U⟩,⟨Z,U⟩,Z,.inr (.inl ⟨2,Z,Z⟩)⟩)))
 ·refine zc hN Z (qe Z (zh (zc hN Z (qd Z (za (y5t vg Z) (zi _ Z (fun h=>by cases h) (fun h => ?_)))))))
  refine zn (zh (x1v 0 (u':=vlst (List.map yb l)) Z y38 (zq hN Z (zo (y5k 900 xh) Z (qd Z (zo (y43 (C:=yb) (xs:=[]) xh (fun _=>Z) Z Z Z (by simpa using hl) Z) Z ?_))))))
  exact za (vr (.row _ _) Z) (zg ⟨U,[(2,.row 900 l.length)],⟨Z,U⟩,⟨Z,U⟩,Z,.inr (.inl ⟨2,Z,Z⟩)⟩)
theorem y8i (s1:(List zk)) (p1:zk→Option (Bool)) (fv1:Nat) (us1:List V) (hp1:∀ a0 r,p1 a0=some r→Fn Tryz.prog fv1 ([vagg (yb a0)]++us1) (zp [zf r])) (r:(Int)) (H:z8i s1 p1=some r):Fn Tryz.prog 130 [vlst (List.map yb s1),vfn fv1 us1] (zp [vint r]):=by
 refine ⟨by kernel_rfl,zy (us:=[vint r]) Tryz.func130 Z Z Z Z fun X hN => ?_⟩
 unfold z8i at H
 refine zc hN Z (qe Z (zh (zc hN Z (qd Z (za (yw vg Z) (qd Z (yc (gE H fun h4 H=>ve (fun (k2:Nat) (s:Unit)=>[(0,.dat (vlst (List.map yb s1))),(1,.dat (vfn fv1 us1)),(7,.dat (vint (s1.length:Int))),(8,.dat (vint (k2:Int)))]) (fun (k2:Nat) (s:Unit)=>[]) () H ⟨Z,Z,Z,Z,U⟩ U (fun _ _=>Z) ?_ ?_))))))))
 ·rintro ⟨⟩ H
  replace H:z71=some r:=H
  unfold z71 at H
  refine zc hN Z (za (yg Z Z) (zh (zi _ Z (fun h=>(lt_t h).elim) (fun h => ?_))))
  refine qj (zc hN Z (qe Z (zg ?_)))
  cases H
  exact ⟨U,.inl Z,U⟩
 ·rintro k2 x5 ⟨⟩ q3 h6 h7 H hq3
  replace H:z7z p1 k2 x5=some q3:=H
  unfold z7z at H
  refine zc hN Z (za (yg Z Z) (zh (zi _ Z (fun h => ?_) (fun h=>(lt_f h6 h).elim))))
  refine zn (zh (yc (zc hN Z (qd Z (qe Z (zc hN Z (qd Z (qd Z (qd Z (za (qx ka (fun _=>Z) Z Z h7) (za (xk wv Z (qq h7) Z) (bE H fun r8 h9 H=>za (z7p (hp1 x5 r8 h9) Z ⟨.inl Z,U⟩) (zi _ Z (fun h10 => ?_) (fun h10 => ?_))))))))))))))
  ·refine tE h10 H fun H=>zc hN Z (qd Z (qe Z (zg ?_)))
   replace H:=retl H hq3
   cases H
   exact ⟨U,.inl Z,U⟩
  ·exact fE h10 H fun H=>zn (zq hN Z (za (wy Z Z (by omega)) (qd Z ⟨_,qr H,⟨Z,Z,Z,Z,U⟩,U⟩)))
end Go.Proofs.YtbcmpepmafpibabGreatDoor
