/- Walks along the models. Printed by a program. -/
import Derived.Test.YtbndlmnjeofkdaaGreatDoorZsw1
namespace Go.Proofs.YtbndlmnjeofkdaaGreatDoor
open Go.RowKit
set_option linter.unusedVariables false
set_option maxRecDepth 100000
set_option maxHeartbeats 2000000
theorem x0n (v1:Bs) (v2:Int) (v3:Int) (r:(Int×Int)) (H:z3a v1 v2 v3=some r):Fn Tryz.prog 195 [vstr v1,vint v2,vint v3] (zt [vval (.int .u64 r.1),verr r.2]):=by
 refine ⟨by kernel_rfl,yf (us:=[vval (.int .u64 r.1),verr r.2]) Tryz.func195 Z Z Z Z fun X hN => ?_⟩
 unfold z3a at H
 refine zb hN Z (qe Z (qe Z (zf (zb hN Z (qd Z (za (va Z Z) (zg _ Z (fun h4 => ?_) (fun h4 => ?_))))))))
 ·refine tE h4 H fun H=>zb hN Z (za (yb (u':=verr 2) (kl (show Tryz.prog.underlying 223=some (.int .i64) from by kernel_rfl) Z) Z) ?_)
  refine qe Z (qe Z (zi ?_))
  cases H
  exact ⟨U,.inl Z,.inl Z,U⟩
 ·refine fE h4 H fun H=>zl (zb hN Z (qd Z (za (yu Z Z) (qe Z (zb hN Z (qd Z (qe Z (yc (ι:=Bs×Int) (fun i=>[(0,.dat (vstr i.1)),(1,.dat (vint i.2)),(2,.dat (vint v3)),(8,.dat (zh (decide (v2=0)))),(9,.dat (vstr v1))]) (fun i=>[]) (fun i=>Zx v1 v2 v3 i.1 i.2=some r) (fun i=>Z) ?_ ?_))))))))
  ·skip
   refine zx (zb hN Z (qd Z (za (wn Z Z) (qd Z (qx Z Z (fun hc=>zd (.dat _) Z) (qx Z Z (fun hc=>wn (cnd (c:=(decide (2≤v2))) hc) Z) (za (ww Z (fun hb=>(cnd (c:=(decide (2≤v2))) hb)) Z) (qe Z (zg _ Z (fun h5 => ?_) (fun h5 => ?_))))))))))
   ·exact tE h5 H fun H=>zl ⟨(v1,v2),H,⟨Z,Z,Z,Z,Z,U⟩,U⟩
   ·refine fE h5 H fun H=>zb hN Z (qd Z (za (yu Z Z) (qe Z (zg _ Z (fun h6 => ?_) (fun h6 => ?_)))))
    ·refine tE h6 H fun H=>zb hN Z (qe Z (zb hN Z (qd Z (bE H fun x7 h8 H=>za (qv tyU9 Z Z h8) (za (yu Z Z) (zg _ Z (fun h9 => ?_) (fun h9 => ?_)))))))
     ·refine tE h9 H fun H=>zx (yc (ι:=Bool) (fun i=>[(0,.dat (vstr v1)),(2,.dat (vint v3)),(8,.dat (zh (decide (v2=0)))),(9,.dat (vstr v1)),(40,.dat (zh i))]) (fun i=>[]) (fun i=>z7n v1 v2 v3 i=some r) (fun i=>Z) ?_ ?_)
      ·skip
       refine zp hN Z (qd Z (za (yw tyU9 Z) (za (wx Z Z) (qd Z (yg (j:=3) Z Z (fun h10 => ?_) (fun h10 => ?_) Z)))))
       ·exact u1 h10 H fun h11 H=>ze Z Z h10 (zd (.dat _) Z) (bE H fun x12 h13 H=>ze Z Z h10 (qv tyU9 Z Z h13) (bE H fun r14 h15 H=>ze Z Z h10 (zm (kr (x12.toNat:Int) r14 h15) ⟨.inl Z,U⟩) (ze Z Z h10 (yu Z Z) (za (zz Z (bTT h11) Z) (qe Z ⟨decide (r14=98),H,⟨Z,Z,Z,Z,Z,U⟩,U⟩)))))
       ·exact u2 h10 H fun h16 H=>zc Z Z h10 (zc Z Z h10 (zc Z Z h10 (zc Z Z h10 (za (zv Z (bFF h16) Z) (qe Z ⟨false,H,⟨Z,Z,Z,Z,Z,U⟩,U⟩)))))
      ·rintro v17 H
       replace H:z7n v1 v2 v3 v17=some r:=H
       unfold z7n at H
       refine zg _ Z (fun h18 => ?_) (fun h18 => ?_)
       ·exact tE h18 H fun H=>zb hN Z (qe Z (zp hN Z (qd Z (bE H fun l19 h20 H=>za (vz tyU9 Z Z Z h20) (qe Z ⟨(l19,2),H,⟨Z,Z,Z,Z,Z,U⟩,U⟩)))))
       ·refine fE h18 H fun H=>yc (ι:=Bool) (fun i=>[(0,.dat (vstr v1)),(2,.dat (vint v3)),(8,.dat (zh (decide (v2=0)))),(9,.dat (vstr v1)),(52,.dat (zh i))]) (fun i=>[]) (fun i=>z7m v1 v2 v3 i=some r) (fun i=>Z) ?_ ?_
        ·skip
         refine zp hN Z (qd Z (za (yw tyU9 Z) (za (wx Z Z) (qd Z (yg (j:=3) Z Z (fun h21 => ?_) (fun h21 => ?_) Z)))))
         ·exact u1 h21 H fun h22 H=>ze Z Z h21 (zd (.dat _) Z) (bE H fun x23 h24 H=>ze Z Z h21 (qv tyU9 Z Z h24) (bE H fun r25 h26 H=>ze Z Z h21 (zm (kr (x23.toNat:Int) r25 h26) ⟨.inl Z,U⟩) (ze Z Z h21 (yu Z Z) (za (zz Z (bTT h22) Z) (qe Z ⟨decide (r25=111),H,⟨Z,Z,Z,Z,Z,U⟩,U⟩)))))
         ·exact u2 h21 H fun h27 H=>zc Z Z h21 (zc Z Z h21 (zc Z Z h21 (zc Z Z h21 (za (zv Z (bFF h27) Z) (qe Z ⟨false,H,⟨Z,Z,Z,Z,Z,U⟩,U⟩)))))
        ·rintro v28 H
         replace H:z7m v1 v2 v3 v28=some r:=H
         unfold z7m at H
         refine zg _ Z (fun h29 => ?_) (fun h29 => ?_)
         ·exact tE h29 H fun H=>zb hN Z (qe Z (zp hN Z (qd Z (bE H fun l30 h31 H=>za (vz tyU9 Z Z Z h31) (qe Z ⟨(l30,8),H,⟨Z,Z,Z,Z,Z,U⟩,U⟩)))))
         ·refine fE h29 H fun H=>yc (ι:=Bool) (fun i=>[(0,.dat (vstr v1)),(2,.dat (vint v3)),(8,.dat (zh (decide (v2=0)))),(9,.dat (vstr v1)),(64,.dat (zh i))]) (fun i=>[]) (fun i=>z7l v1 v2 v3 i=some r) (fun i=>Z) ?_ ?_
          ·skip
           refine zp hN Z (qd Z (za (yw tyU9 Z) (za (wx Z Z) (qd Z (yg (j:=3) Z Z (fun h32 => ?_) (fun h32 => ?_) Z)))))
           ·exact u1 h32 H fun h33 H=>ze Z Z h32 (zd (.dat _) Z) (bE H fun x34 h35 H=>ze Z Z h32 (qv tyU9 Z Z h35) (bE H fun r36 h37 H=>ze Z Z h32 (zm (kr (x34.toNat:Int) r36 h37) ⟨.inl Z,U⟩) (ze Z Z h32 (yu Z Z) (za (zz Z (bTT h33) Z) (qe Z ⟨decide (r36=120),H,⟨Z,Z,Z,Z,Z,U⟩,U⟩)))))
           ·exact u2 h32 H fun h38 H=>zc Z Z h32 (zc Z Z h32 (zc Z Z h32 (zc Z Z h32 (za (zv Z (bFF h38) Z) (qe Z ⟨false,H,⟨Z,Z,Z,Z,Z,U⟩,U⟩)))))
          ·rintro v39 H
           replace H:z7l v1 v2 v3 v39=some r:=H
           unfold z7l at H
           refine zg _ Z (fun h40 => ?_) (fun h40 => ?_)
           ·exact tE h40 H fun H=>zb hN Z (qe Z (zp hN Z (qd Z (bE H fun l41 h42 H=>za (vz tyU9 Z Z Z h42) (qe Z ⟨(l41,16),H,⟨Z,Z,Z,Z,Z,U⟩,U⟩)))))
           ·exact fE h40 H fun H=>zb hN Z (qe Z (zp hN Z (qd Z (bE H fun l43 h44 H=>za (vz tyU9 Z Z Z h44) (qe Z ⟨(l43,8),H,⟨Z,Z,Z,Z,Z,U⟩,U⟩)))))
     ·exact fE h9 H fun H=>zl ⟨(v1,10),H,⟨Z,Z,Z,Z,Z,U⟩,U⟩
    ·refine fE h6 H fun H=>zb hN Z (za (yb (u':=verr 3) (kl (show Tryz.prog.underlying 223=some (.int .i64) from by kernel_rfl) Z) Z) ?_)
     refine qe Z (qe Z (zi ?_))
     cases H
     exact ⟨U,.inl Z,.inl Z,U⟩
  ·rintro ⟨v45,v46⟩ H
   replace H:Zx v1 v2 v3 v45 v46=some r:=H
   unfold Zx at H
   refine yc (ι:=Int) (fun i=>[(0,.dat (vstr v45)),(1,.dat (vint v46)),(2,.dat (vint i)),(8,.dat (zh (decide (v2=0)))),(9,.dat (vstr v1))]) (fun i=>[]) (fun i=>z7k v1 v2 v45 v46 i=some r) (fun i=>Z) ?_ ?_
   ·skip
    refine zb hN Z (qd Z (za (yu Z Z) (zg _ Z (fun h47 => ?_) (fun h47 => ?_))))
    ·exact tE h47 H fun H=>zp hN Z (qe Z ⟨64,H,⟨Z,Z,Z,Z,Z,U⟩,U⟩)
    ·refine fE h47 H fun H=>zb hN Z (qd Z (za (zy Z Z) (qd Z (yv Z Z (fun hc=>zd (.dat _) Z) (yv Z Z (fun hc=>wa (cnd (c:=(!(decide (v3 < 0)))) hc) Z) (za (vr Z Z (fun hb=>(cnd (c:=(!(decide (v3 < 0)))) (notI hb)))) (zg _ Z (fun h48 => ?_) (fun h48 => ?_))))))))
     ·refine tE h48 H fun H=>zb hN Z (za (yb (u':=verr 4) (kl (show Tryz.prog.underlying 223=some (.int .i64) from by kernel_rfl) Z) Z) ?_)
      refine qe Z (qe Z (zi ?_))
      cases H
      exact ⟨U,.inl Z,.inl Z,U⟩
     ·exact fE h48 H fun H=>zl ⟨v3,H,⟨Z,Z,Z,Z,Z,U⟩,U⟩
   ·rintro v49 H
    replace H:z7k v1 v2 v45 v46 v49=some r:=H
    unfold z7k at H
    refine zb hN Z (qe Z (yc (ι:=Int) (fun i=>[(0,.dat (vstr v45)),(1,.dat (vint v46)),(2,.dat (vint v49)),(8,.dat (zh (decide (v2=0)))),(9,.dat (vstr v1)),(10,.dat (vval (.int .u64 i)))]) (fun i=>[]) (fun i=>z3w v1 v2 v45 v46 v49 i=some r) (fun i=>Z) ?_ ?_))
    ·skip
     refine zb hN Z (qd Z (zx (zb hN Z (za (yu Z Z) (qe Z (zg _ Z (fun h50 => ?_) (fun h50 => ?_)))))))
     ·exact tE h50 H fun H=>zp hN Z (qe Z ⟨1844674407370955162,H,⟨Z,Z,Z,Z,Z,Z,U⟩,U⟩)
     ·refine fE h50 H fun H=>zb hN Z (za (yu Z Z) (qe Z (zg _ Z (fun h51 => ?_) (fun h51 => ?_))))
      ·exact tE h51 H fun H=>zp hN Z (qe Z ⟨1152921504606846976,H,⟨Z,Z,Z,Z,Z,Z,U⟩,U⟩)
      ·exact fE h51 H fun H=>zp hN Z (qd Z (za (ja tyU3 Yg Z) (gE H fun h52 H=>za (x54 Z Z h52) (za (yk _ Z Z (.inl ⟨Z,Z⟩)) (qe Z ⟨IntKind.wrap .u64 ((IntKind.wrap .u64 (Int.tdiv 18446744073709551615 (IntKind.wrap .u64 v46)))+1),H,⟨Z,Z,Z,Z,Z,Z,U⟩,U⟩)))))
    ·rintro v53 H
     replace H:z3w v1 v2 v45 v46 v49 v53=some r:=H
     unfold z3w at H
     refine zb hN Z (qd Z (za (ja tyU3 z8j Z) (gE H fun h54 H=>za (yb (y2n Z Z h54) Z) (za (yk _ Z Z (.inr (.inl ⟨Z,Z⟩))) (qe Z (zb hN Z (qe Z (zb hN Z (qe Z (zf (zb hN Z (qd Z (za (y7v (C:=qc) tyU9 z1x tyU5 (fun _=>Z) Z) (za (qf z1x Z) (qd Z (zx (gE H fun h59 H=>qy (fun (k57:Nat) (s:Bool×Int)=>[(1,.dat (vint v46)),(8,.dat (zh (decide (v2=0)))),(9,.dat (vstr v1)),(10,.dat (vval (.int .u64 v53))),(11,.dat (vval (.int .u64 (IntKind.wrap .u64 ((shl_ .u64 1 (IntKind.wrap .u64 v49)) - 1))))),(12,.dat (zh s.1)),(13,.dat (vval (.int .u64 s.2))),(99,.dat (vlst (List.map qc (yj v45)))),(100,.dat (vint ((yj v45).length:Int))),(101,.dat (vint (k57:Int)))]) (fun (k57:Nat) (s:Bool×Int)=>[]) (false,0) H ⟨Z,Z,Z,Z,Z,Z,Z,Z,Z,Z,U⟩ U (fun _ _=>Z) ?_ ?_)))))))))))))))))
     ·rintro ⟨v55,v56⟩ H
      replace H:z3x v1 v55 v56=some r:=H
      unfold z3x at H
      refine zb hN Z (za (zy Z Z) (zf (zg _ Z (fun h=>(lt_t h).elim) (fun h => ?_))))
      refine yt (zf (yc (ι:=Bool) (fun i=>[(13,.dat (vval (.int .u64 v56))),(169,.dat (zh i))]) (fun i=>[]) (fun i=>z3v v56 i=some r) (fun i=>Z) ?_ ?_))
      ·skip
       refine zp hN Z (qd Z (qd Z (yg (j:=1) Z Z (fun h61 => ?_) (fun h61 => ?_) Z)))
       ·exact u1 h61 H fun h62 H=>ze Z Z h61 (zd (.dat _) Z) (bE H fun r63 h64 H=>ze Z Z h61 (zm (w01 v1 r63 h64) ⟨.inl Z,U⟩) (ze Z Z h61 (yr Z) (za (zz Z (bTT h62) Z) ⟨!r63,H,⟨Z,Z,U⟩,U⟩)))
       ·exact u2 h61 H fun h65 H=>zc Z Z h61 (zc Z Z h61 (zc Z Z h61 (za (zv Z (bFF h65) Z) ⟨false,H,⟨Z,Z,U⟩,U⟩)))
      ·rintro v66 H
       replace H:z3v v56 v66=some r:=H
       unfold z3v at H
       refine zg _ Z (fun h67 => ?_) (fun h67 => ?_)
       ·refine tE h67 H fun H=>zb hN Z (za (yb (u':=verr 2) (kl (show Tryz.prog.underlying 223=some (.int .i64) from by kernel_rfl) Z) Z) ?_)
        refine qe Z (qe Z (zi ?_))
        cases H
        exact ⟨U,.inl Z,.inl Z,U⟩
       ·refine fE h67 H fun H=>zl (zb hN Z (qd Z (qe Z (qe Z (zi ?_)))))
        cases H
        exact ⟨U,.inl Z,.inl Z,U⟩
     ·rintro k57 x60 ⟨v55,v56⟩ q58 h68 h69 H hq58
      replace H:Zw v2 v46 v49 v53 k57 x60 v55 v56=some q58:=H
      unfold Zw at H
      refine zb hN Z (za (zy Z Z) (zf (zg _ Z (fun h => ?_) (fun h=>(lt_f h68 h).elim))))
      refine zl (yc (ι:=Bool×Int) (fun i=>[(1,.dat (vint v46)),(8,.dat (zh (decide (v2=0)))),(9,.dat (vstr v1)),(10,.dat (vval (.int .u64 v53))),(11,.dat (vval (.int .u64 (IntKind.wrap .u64 ((shl_ .u64 1 (IntKind.wrap .u64 v49)) - 1))))),(12,.dat (zh i.1)),(13,.dat (vval (.int .u64 i.2))),(99,.dat (vlst (List.map qc (yj v45)))),(100,.dat (vint ((yj v45).length:Int))),(101,.dat (vint (k57:Int)))]) (fun i=>[]) (fun i=>z7j i.1 i.2=some q58) (fun i=>Z) ?_ ?_)
      ·skip
       refine zx (zb hN Z (za (wi y62 (fun _=>Z) Z Z h69) (za (qz tyS5 Z (qg h69) Z) (qe Z (zb hN Z (qe Z (yc (ι:=Int) (fun i=>[(1,.dat (vint v46)),(8,.dat (zh (decide (v2=0)))),(9,.dat (vstr v1)),(10,.dat (vval (.int .u64 v53))),(11,.dat (vval (.int .u64 (IntKind.wrap .u64 ((shl_ .u64 1 (IntKind.wrap .u64 v49)) - 1))))),(12,.dat (zh v55)),(13,.dat (vval (.int .u64 v56))),(16,.dat (vval (.int .u8 i))),(99,.dat (vlst (List.map qc (yj v45)))),(100,.dat (vint ((yj v45).length:Int))),(101,.dat (vint (k57:Int)))]) (fun i=>[]) (fun i=>z7p v46 v49 v53 v55 v56 i=some q58) (fun i=>Z) ?_ ?_)))))))
       ·skip
        refine zx (zb hN Z (qd Z (za (yu Z Z) (qd Z (qx Z Z (fun hc=>zd (.dat _) Z) (za (ww Z (fun hb=>(cnd (c:=(decide (x60=95))) hb)) Z) (qe Z (zg _ Z (fun h70 => ?_) (fun h70 => ?_)))))))))
        ·exact tE h70 H fun H=>zb hN Z (qe Z (yt ⟨(true,v56),H,⟨Z,Z,Z,Z,Z,Z,Z,Z,Z,Z,U⟩,U⟩))
        ·refine fE h70 H fun H=>zb hN Z (qd Z (za (wn Z Z) (qd Z (qx Z Z (fun hc=>zd (.dat _) Z) (qx Z Z (fun hc=>wn (cnd (c:=(decide (48≤x60))) hc) Z) (za (ww Z (fun hb=>(cnd (c:=(decide (48≤x60))) hb)) Z) (qe Z (zg _ Z (fun h71 => ?_) (fun h71 => ?_)))))))))
         ·exact tE h71 H fun H=>zp hN Z (qd Z (za (yk _ Z Z (.inr (.inl ⟨Z,Z⟩))) (qe Z ⟨IntKind.wrap .u8 (x60 - 48),H,⟨Z,Z,Z,Z,Z,Z,Z,Z,Z,Z,Z,U⟩,U⟩)))
         ·refine fE h71 H fun H=>yc (ι:=Bool) (fun i=>[(1,.dat (vint v46)),(8,.dat (zh (decide (v2=0)))),(9,.dat (vstr v1)),(10,.dat (vval (.int .u64 v53))),(11,.dat (vval (.int .u64 (IntKind.wrap .u64 ((shl_ .u64 1 (IntKind.wrap .u64 v49)) - 1))))),(12,.dat (zh v55)),(13,.dat (vval (.int .u64 v56))),(15,.dat (vval (.int .u8 x60))),(99,.dat (vlst (List.map qc (yj v45)))),(100,.dat (vint ((yj v45).length:Int))),(101,.dat (vint (k57:Int))),(121,.dat (zh i))]) (fun i=>[]) (fun i=>z7o v46 v49 v53 v55 v56 x60 i=some q58) (fun i=>Z) ?_ ?_
          ·skip
           refine zp hN Z (qd Z (bE H fun r72 h73 H=>za (zm (kr x60 r72 h73) ⟨.inl Z,U⟩) (za (wn Z Z) (qd Z (yg (j:=3) Z Z (fun h74 => ?_) (fun h74 => ?_) Z)))))
           ·exact u1 h74 H fun h75 H=>ze Z Z h74 (zd (.dat _) Z) (bE H fun r76 h77 H=>ze Z Z h74 (zm (kr x60 r76 h77) ⟨.inl Z,U⟩) (ze Z Z h74 (wn Z Z) (za (zz Z (bTT h75) Z) (qe Z ⟨decide (r76≤122),H,⟨Z,Z,Z,Z,Z,Z,Z,Z,Z,Z,Z,Z,U⟩,U⟩))))
           ·exact u2 h74 H fun h78 H=>zc Z Z h74 (zc Z Z h74 (zc Z Z h74 (za (zv Z (bFF h78) Z) (qe Z ⟨false,H,⟨Z,Z,Z,Z,Z,Z,Z,Z,Z,Z,Z,Z,U⟩,U⟩))))
          ·rintro v79 H
           replace H:z7o v46 v49 v53 v55 v56 x60 v79=some q58:=H
           unfold z7o at H
           refine zg _ Z (fun h80 => ?_) (fun h80 => ?_)
           ·exact tE h80 H fun H=>zp hN Z (qd Z (bE H fun r81 h82 H=>za (zm (kr x60 r81 h82) ⟨.inl Z,U⟩) (za (yk _ Z Z (.inr (.inl ⟨Z,Z⟩))) (za (yk _ Z Z (.inl ⟨Z,Z⟩)) (qe Z ⟨IntKind.wrap .u8 ((IntKind.wrap .u8 (r81 - 97))+10),H,⟨Z,Z,Z,Z,Z,Z,Z,Z,Z,Z,Z,U⟩,U⟩)))))
           ·refine fE h80 H fun H=>zb hN Z (za (yb (u':=verr 2) (kl (show Tryz.prog.underlying 223=some (.int .i64) from by kernel_rfl) Z) Z) ?_)
            refine qe Z (qe Z (zi ?_))
            replace H:=retl H hq58
            cases H
            exact ⟨U,.inl Z,.inl Z,U⟩
       ·rintro v83 H
        replace H:z7p v46 v49 v53 v55 v56 v83=some q58:=H
        unfold z7p at H
        refine zf (zb hN Z (qd Z (qd Z (za (ja tyU3 tyU5 Z) (za (wx Z Z) (zg _ Z (fun h84 => ?_) (fun h84 => ?_)))))))
        ·refine tE h84 H fun H=>zb hN Z (za (yb (u':=verr 2) (kl (show Tryz.prog.underlying 223=some (.int .i64) from by kernel_rfl) Z) Z) ?_)
         refine qe Z (qe Z (zi ?_))
         replace H:=retl H hq58
         cases H
         exact ⟨U,.inl Z,.inl Z,U⟩
        ·refine fE h84 H fun H=>zl (zf (zb hN Z (qd Z (qd Z (za (wx Z Z) (zg _ Z (fun h85 => ?_) (fun h85 => ?_)))))))
         ·refine tE h85 H fun H=>zb hN Z (qd Z (za (yb (u':=verr 1) (kl (show Tryz.prog.underlying 223=some (.int .i64) from by kernel_rfl) Z) Z) ?_))
          refine qe Z (qe Z (zi ?_))
          replace H:=retl H hq58
          cases H
          exact ⟨U,.inl Z,.inl Z,U⟩
         ·refine fE h85 H fun H=>zl (zb hN Z (qd Z (qd Z (za (ja tyU3 Yg Z) (za (yk _ Z Z (.inr (.inr ⟨Z,Z⟩))) (qe Z (zb hN Z (qd Z (qd Z (za (ja tyU5 Yg Z) (za (yk _ Z Z (.inl ⟨Z,Z⟩)) (qe Z (zf (zb hN Z (qd Z (qd Z (za (zy Z Z) (qd Z (yv Z Z (fun hc=>zd (.dat _) Z) (yv Z Z (fun hc=>zd (.dat _) Z) (yv Z Z (fun hc=>wa (cnd (c:=(!(decide ((IntKind.wrap .u64 ((IntKind.wrap .u64 (v56 * (IntKind.wrap .u64 v46)))+(IntKind.wrap .u64 v83))) < (IntKind.wrap .u64 (v56 * (IntKind.wrap .u64 v46))))))) hc) (cnd (c:=(!(decide ((IntKind.wrap .u64 ((IntKind.wrap .u64 (v56 * (IntKind.wrap .u64 v46)))+(IntKind.wrap .u64 v83))) < (IntKind.wrap .u64 (v56 * (IntKind.wrap .u64 v46))))))) hc)) (za (vr Z Z (fun hb=>(cnd (c:=(!(decide ((IntKind.wrap .u64 ((IntKind.wrap .u64 (v56 * (IntKind.wrap .u64 v46)))+(IntKind.wrap .u64 v83))) < (IntKind.wrap .u64 (v56 * (IntKind.wrap .u64 v46))))))) (notI hb)))) ?_))))))))))))))))))))))
          refine zg _ Z (fun h86 => ?_) (fun h86 => ?_)
          ·refine tE h86 H fun H=>zb hN Z (qd Z (za (yb (u':=verr 1) (kl (show Tryz.prog.underlying 223=some (.int .i64) from by kernel_rfl) Z) Z) ?_))
           refine qe Z (qe Z (zi ?_))
           replace H:=retl H hq58
           cases H
           exact ⟨U,.inl Z,.inl Z,U⟩
          ·exact fE h86 H fun H=>zl (zp hN Z (qd Z (qe Z ⟨(v55,IntKind.wrap .u64 ((IntKind.wrap .u64 (v56 * (IntKind.wrap .u64 v46)))+(IntKind.wrap .u64 v83))),H,⟨Z,Z,Z,Z,Z,Z,Z,Z,Z,Z,U⟩,U⟩)))
      ·rintro ⟨v87,v88⟩ H
       replace H:z7j v87 v88=some q58:=H
       unfold z7j at H
       exact zp hN Z (za (qj Z Z (by omega)) (qd Z ⟨_,yx H,⟨Z,Z,Z,Z,Z,Z,Z,Z,Z,Z,U⟩,U⟩))
theorem w02 (v1:Bs) (v2:Int) (v3:Int) (r:(Int×Int)) (H:y33 v1 v2 v3=some r):Fn Tryz.prog 231 [vstr v1,vint v2,vint v3] (zt [vint r.1,verr r.2]):=by
 refine ⟨by kernel_rfl,yf (us:=[vint r.1,verr r.2]) Tryz.func231 Z Z Z Z fun X hN => ?_⟩
 unfold y33 at H
 refine zb hN Z (qe Z (qe Z (zf (zb hN Z (qd Z (za (va Z Z) (zg _ Z (fun h4 => ?_) (fun h4 => ?_))))))))
 ·refine tE h4 H fun H=>zb hN Z (za (yb (u':=verr 2) (kl (show Tryz.prog.underlying 223=some (.int .i64) from by kernel_rfl) Z) Z) ?_)
  refine qe Z (qe Z (zi ?_))
  cases H
  exact ⟨U,.inl Z,.inl Z,U⟩
 ·refine fE h4 H fun H=>zl (zb hN Z (qe Z (yc (ι:=Bs×Bool) (fun i=>[(0,.dat (vstr i.1)),(1,.dat (vint v2)),(2,.dat (vint v3)),(8,.dat (zh i.2))]) (fun i=>[]) (fun i=>z3y v2 v3 i.1 i.2=some r) (fun i=>Z) ?_ ?_)))
  ·skip
   refine zb hN Z (qd Z (bE H fun x5 h6 H=>za (qv tyU9 Z Z h6) (zx (zb hN Z (za (yu Z Z) (qe Z (zg _ Z (fun h7 => ?_) (fun h7 => ?_))))))))
   ·exact tE h7 H fun H=>zp hN Z (qd Z (bE H fun l8 h9 H=>za (vz tyU9 Z Z Z h9) (qe Z ⟨(l8,false),H,⟨Z,Z,Z,Z,U⟩,U⟩)))
   ·refine fE h7 H fun H=>zb hN Z (za (yu Z Z) (qe Z (zg _ Z (fun h10 => ?_) (fun h10 => ?_))))
    ·exact tE h10 H fun H=>zb hN Z (qd Z (bE H fun l11 h12 H=>za (vz tyU9 Z Z Z h12) (qe Z (zp hN Z (qe Z ⟨(l11,true),H,⟨Z,Z,Z,Z,U⟩,U⟩)))))
    ·exact fE h10 H fun H=>zl ⟨(v1,false),H,⟨Z,Z,Z,Z,U⟩,U⟩
  ·rintro ⟨v13,v14⟩ H
   replace H:z3y v2 v3 v13 v14=some r:=H
   unfold z3y at H
   refine zb hN Z (qe Z (zb hN Z (qd Z (qd Z (qd Z (bE H fun r15 h16 H=>za (zm (x0n v13 v2 v3 r15 h16) ⟨.inl Z,.inl Z,.inl Z,U⟩) (qd Z (za (yd Z Z) (za (yd Z Z) (qe Z (qe Z (zf (yc (ι:=Bool) (fun i=>[(2,.dat (vint v3)),(7,.dat (verr r15.2)),(8,.dat (zh v14)),(9,.dat (vval (.int .u64 r15.1))),(38,.dat (zh i))]) (fun i=>[]) (fun i=>z7s v3 v14 r15 i=some r) (fun i=>Z) ?_ ?_)))))))))))))
   ·skip
    refine zp hN Z (qd Z (za (z86 (n:=r15.2) (show Tryz.prog.underlying 104=some (.interface (Tryz.prog.methodsAt 104)) from by kernel_rfl) Z) ?_))
    refine qd Z (yg (j:=2) Z Z (fun h17 => ?_) (fun h17 => ?_) Z)
    ·refine u1 h17 H fun h18 H=>ze Z Z h17 (zd (.dat _) Z) (ze Z Z h17 (yb (u':=verr 1) (kl (show Tryz.prog.underlying 223=some (.int .i64) from by kernel_rfl) Z) Z) ?_)
     refine gE H fun h19 H=>ze Z Z h17 (x6m (n:=r15.2) (m:=1) (show Tryz.prog.underlying 104=some (.interface (Tryz.prog.methodsAt 104)) from by kernel_rfl) (by kernel_rfl) (by kernel_rfl) Z Z h19 (by decide)) ?_
     exact za (zz Z (bTT h18) Z) ⟨decide (r15.2≠1),H,⟨Z,Z,Z,Z,Z,U⟩,U⟩
    ·exact u2 h17 H fun h20 H=>zc Z Z h17 (zc Z Z h17 (zc Z Z h17 (za (zv Z (bFF h20) Z) ⟨false,H,⟨Z,Z,Z,Z,Z,U⟩,U⟩)))
   ·rintro v21 H
    replace H:z7s v3 v14 r15 v21=some r:=H
    unfold z7s at H
    refine zg _ Z (fun h22 => ?_) (fun h22 => ?_)
    ·refine tE h22 H fun H=>zb hN Z (qd Z (qe Z (qe Z (zi ?_))))
     cases H
     exact ⟨U,.inl Z,.inl Z,U⟩
    ·refine fE h22 H fun H=>zl (yc (ι:=Int) (fun i=>[(2,.dat (vint i)),(8,.dat (zh v14)),(9,.dat (vval (.int .u64 r15.1)))]) (fun i=>[]) (fun i=>z7r v14 r15 i=some r) (fun i=>Z) ?_ ?_)
     ·skip
      refine zb hN Z (qd Z (za (yu Z Z) (zg _ Z (fun h23 => ?_) (fun h23 => ?_))))
      ·exact tE h23 H fun H=>zp hN Z (qe Z ⟨64,H,⟨Z,Z,Z,U⟩,U⟩)
      ·exact fE h23 H fun H=>zl ⟨v3,H,⟨Z,Z,Z,U⟩,U⟩
     ·rintro v24 H
      replace H:z7r v14 r15 v24=some r:=H
      unfold z7r at H
      refine zb hN Z (qd Z (za (yk _ Z Z (.inr (.inl ⟨Z,Z⟩))) (za (ja tyU3 z8j Z) (gE H fun h25 H=>za (yb (y2n Z Z h25) Z) (qe Z (zf (zb hN Z (qd Z (za (yr Z) (qd Z (qx Z Z (fun hc=>zd (.dat _) Z) (qx Z Z (fun hc=>zd (.dat _) Z) (qx Z Z (fun hc=>wx (cnd (c:=(!v14)) hc) (cnd (c:=(!v14)) hc)) (za (ww Z (fun hb=>(cnd (c:=(!v14)) hb)) Z) (zg _ Z (fun h26 => ?_) (fun h26 => ?_))))))))))))))))
      ·refine tE h26 H fun H=>zb hN Z (qd Z (za (yk _ Z Z (.inr (.inl ⟨Z,Z⟩))) (za (ja Yg tyU2 Z) (za (yb (u':=verr 1) (kl (show Tryz.prog.underlying 223=some (.int .i64) from by kernel_rfl) Z) Z) ?_))))
       refine qe Z (qe Z (zi ?_))
       cases H
       exact ⟨U,.inl Z,.inl Z,U⟩
      ·refine fE h26 H fun H=>zl (zf (zb hN Z (qd Z (qd Z (qx Z Z (fun hc=>zd (.dat _) Z) (qx Z Z (fun hc=>zd (.dat _) Z) (qx Z Z (fun hc=>wa (cnd (c:=v14) hc) (cnd (c:=v14) hc)) (za (ww Z (fun hb=>(cnd (c:=v14) hb)) Z) (zg _ Z (fun h27 => ?_) (fun h27 => ?_))))))))))
       ·refine tE h27 H fun H=>zb hN Z (qd Z (za (ja Yg tyU2 Z) (za (y7l Z) (za (yb (u':=verr 1) (kl (show Tryz.prog.underlying 223=some (.int .i64) from by kernel_rfl) Z) Z) ?_))))
        refine qe Z (qe Z (zi ?_))
        cases H
        exact ⟨U,.inl Z,.inl Z,U⟩
       ·refine fE h27 H fun H=>zl (zb hN Z (qd Z (za (ja Yg tyU2 Z) (qe Z (yc (ι:=Int) (fun i=>[(11,.dat (vint i))]) (fun i=>[]) (fun i=>z7q i=some r) (fun i=>Z) ?_ ?_)))))
        ·skip
         refine zb hN Z (qd Z (zg _ Z (fun h28 => ?_) (fun h28 => ?_)))
         ·exact tE h28 H fun H=>zp hN Z (qd Z (za (y7l Z) (qe Z ⟨(wr (-(IntKind.wrap .i64 r15.1))),H,⟨Z,U⟩,U⟩)))
         ·exact fE h28 H fun H=>zl ⟨IntKind.wrap .i64 r15.1,H,⟨Z,U⟩,U⟩
        ·rintro v29 H
         replace H:z7q v29=some r:=H
         unfold z7q at H
         refine zb hN Z (qd Z (qe Z (qe Z (zi ?_))))
         cases H
         exact ⟨U,.inl Z,.inl Z,U⟩
theorem w03 (v1:Bs) (r:(Int×Int)) (H:z0d v1=some r):Fn Tryz.prog 216 [vstr v1] (zt [vint r.1,verr r.2]):=by
 refine ⟨by kernel_rfl,yf (us:=[vint r.1,verr r.2]) Tryz.func216 Z Z Z Z fun X hN => ?_⟩
 unfold z0d at H
 refine zb hN Z (qe Z (qe Z (zb hN Z (qd Z (za (yw tyU9 Z) (qe Z (zf (zb hN Z (qd Z (qx (s := .dat (vint (v1.length:Int))) Z Z (fun hc=>zd (.dat _) Z) (qx (s := .dat (zh (decide (0 < (v1.length:Int))))) Z Z (fun hc=>zy Z (cnd (c:=false) (s := .dat (vint (v1.length:Int))) hc)) (qx (s := .dat (zh (decide (0 < (v1.length:Int))))) Z Z (fun hc=>zd (.dat _) (cnd (c:=false) (s := .dat (zh (decide (0 < (v1.length:Int))))) hc)) (wc (s := .dat (vint (v1.length:Int))) (c:=false) (b:=decide (0 < (v1.length:Int))) Z Z (fun hc=>zd (.dat _) Z) (wc (s := .dat (zh (decide ((v1.length:Int) < 10)))) (c:=false) (b:=decide (0 < (v1.length:Int))) Z Z (fun hc=>zy (cnd (c:=(false && (decide (0 < (v1.length:Int))))) (s := .dat (vint (v1.length:Int))) hc) Z) (qx (s := .dat (zh ((decide (0 < (v1.length:Int))) && (decide ((v1.length:Int) < 10))))) Z Z (fun hc=>ww (cnd (c:=false) (s := .dat (zh (decide (0 < (v1.length:Int))))) hc) (fun hb=>(cnd (c:=(false && (decide (0 < (v1.length:Int))))) (s := .dat (zh (decide ((v1.length:Int) < 10)))) (andI hc hb))) Z) (za (ww Z (fun hb=>(cnd (c:=false) (s := .dat (zh ((decide (0 < (v1.length:Int))) && (decide ((v1.length:Int) < 10))))) hb)) Z) (qd Z (yv (s := .dat (zh true)) Z Z (fun hc=>zd (.dat _) Z) (wc (s := .dat (vint (v1.length:Int))) (c:=(!(false && ((decide (0 < (v1.length:Int))) && (decide ((v1.length:Int) < 10)))))) (b:=true) Z Z (fun hc=>zd (.dat _) Z) (wc (s := .dat (zh (decide (0 < (v1.length:Int))))) (c:=(!(false && ((decide (0 < (v1.length:Int))) && (decide ((v1.length:Int) < 10)))))) (b:=true) Z Z (fun hc=>zy Z (cnd (c:=((!(false && ((decide (0 < (v1.length:Int))) && (decide ((v1.length:Int) < 10))))) && true)) (s := .dat (vint (v1.length:Int))) hc)) (wc (s := .dat (zh (decide (0 < (v1.length:Int))))) (c:=(!(false && ((decide (0 < (v1.length:Int))) && (decide ((v1.length:Int) < 10)))))) (b:=true) Z Z (fun hc=>zd (.dat _) (cnd (c:=((!(false && ((decide (0 < (v1.length:Int))) && (decide ((v1.length:Int) < 10))))) && true)) (s := .dat (zh (decide (0 < (v1.length:Int))))) hc)) (wc (s := .dat (vint (v1.length:Int))) (c:=((!(false && ((decide (0 < (v1.length:Int))) && (decide ((v1.length:Int) < 10))))) && true)) (b:=decide (0 < (v1.length:Int))) Z Z (fun hc=>zd (.dat _) Z) (wc (s := .dat (zh (decide ((v1.length:Int) < 19)))) (c:=((!(false && ((decide (0 < (v1.length:Int))) && (decide ((v1.length:Int) < 10))))) && true)) (b:=decide (0 < (v1.length:Int))) Z Z (fun hc=>zy (cnd (c:=(((!(false && ((decide (0 < (v1.length:Int))) && (decide ((v1.length:Int) < 10))))) && true) && (decide (0 < (v1.length:Int))))) (s := .dat (vint (v1.length:Int))) hc) Z) ?_)))))))))))))))))))))))
 refine wc (s := .dat (zh ((decide (0 < (v1.length:Int))) && (decide ((v1.length:Int) < 19))))) (c:=(!(false && ((decide (0 < (v1.length:Int))) && (decide ((v1.length:Int) < 10)))))) (b:=true) Z Z (fun hc=>ww (cnd (c:=((!(false && ((decide (0 < (v1.length:Int))) && (decide ((v1.length:Int) < 10))))) && true)) (s := .dat (zh (decide (0 < (v1.length:Int))))) hc) (fun hb=>(cnd (c:=(((!(false && ((decide (0 < (v1.length:Int))) && (decide ((v1.length:Int) < 10))))) && true) && (decide (0 < (v1.length:Int))))) (s := .dat (zh (decide ((v1.length:Int) < 19)))) (andI hc hb))) Z) (yv (s := .dat (zh (true && ((decide (0 < (v1.length:Int))) && (decide ((v1.length:Int) < 19)))))) Z Z (fun hc=>ww (cnd (c:=(!(false && ((decide (0 < (v1.length:Int))) && (decide ((v1.length:Int) < 10)))))) (s := .dat (zh true)) hc) (fun hb=>(cnd (c:=((!(false && ((decide (0 < (v1.length:Int))) && (decide ((v1.length:Int) < 10))))) && true)) (s := .dat (zh ((decide (0 < (v1.length:Int))) && (decide ((v1.length:Int) < 19))))) (andI hc hb))) Z) (za (vr Z Z (fun hb=>(cnd (c:=(!(false && ((decide (0 < (v1.length:Int))) && (decide ((v1.length:Int) < 10)))))) (s := .dat (zh (true && ((decide (0 < (v1.length:Int))) && (decide ((v1.length:Int) < 19)))))) (notI hb)))) (zg _ Z (fun h2 => ?_) (fun h2 => ?_))))
 ·refine tE h2 H fun H=>zb hN Z (qd Z (qe Z (yc (ι:=Bs) (fun i=>[(0,.dat (vstr i)),(5,.dat (vstr v1))]) (fun i=>[]) (fun i=>z0y v1 i=some r) (fun i=>Z) ?_ ?_)))
  ·skip
   refine yc (ι:=Bool) (fun i=>[(0,.dat (vstr v1)),(5,.dat (vstr v1)),(39,.dat (zh i))]) (fun i=>[]) (fun i=>z0x v1 i=some r) (fun i=>Z) ?_ ?_
   ·skip
    refine zp hN Z (qd Z (bE H fun x3 h4 H=>za (qv tyU9 Z Z h4) (za (yu Z Z) (qd Z (yg (j:=3) Z Z (fun h5 => ?_) (fun h5 => ?_) Z)))))
    ·exact u3 h5 H fun h6 H=>ze Z Z h5 (zd (.dat _) Z) (ze Z Z h5 (qv tyU9 Z Z h4) (ze Z Z h5 (yu Z Z) (za (zv Z (bFF h6) Z) ⟨decide ((x3.toNat:Int)=43),H,⟨Z,Z,Z,U⟩,U⟩)))
    ·exact u4 h5 H fun h7 H=>zc Z Z h5 (zc Z Z h5 (zc Z Z h5 (za (zz Z (bTT h7) Z) ⟨true,H,⟨Z,Z,Z,U⟩,U⟩)))
   ·rintro v8 H
    replace H:z0x v1 v8=some r:=H
    unfold z0x at H
    refine zg _ Z (fun h9 => ?_) (fun h9 => ?_)
    ·refine tE h9 H fun H=>zb hN Z (qd Z (bE H fun l10 h11 H=>za (vz tyU9 Z Z Z h11) (qe Z (zb hN Z (qd Z (za (yw tyU9 Z) (za (zy Z Z) (zg _ Z (fun h12 => ?_) (fun h12 => ?_)))))))))
     ·refine tE h12 H fun H=>zb hN Z (za (yb (u':=verr 2) (kl (show Tryz.prog.underlying 223=some (.int .i64) from by kernel_rfl) Z) Z) ?_)
      refine qe Z (qe Z (zi ?_))
      cases H
      exact ⟨U,.inl Z,.inl Z,U⟩
     ·exact fE h12 H fun H=>zl ⟨l10,H,⟨Z,Z,U⟩,U⟩
    ·exact fE h9 H fun H=>zl ⟨v1,H,⟨Z,Z,U⟩,U⟩
  ·rintro v13 H
   replace H:z0y v1 v13=some r:=H
   unfold z0y at H
   refine zb hN Z (qe Z (zf (zb hN Z (qd Z (za (y7v (C:=qc) tyU9 z1x tyU5 (fun _=>Z) Z) (za (qf z1x Z) (qd Z (zx (gE H fun h17 H=>qy (fun (k15:Nat) (s:Int)=>[(5,.dat (vstr v1)),(6,.dat (vint s)),(47,.dat (vlst (List.map qc (yj v13)))),(48,.dat (vint ((yj v13).length:Int))),(49,.dat (vint (k15:Int)))]) (fun (k15:Nat) (s:Int)=>[]) 0 H ⟨Z,Z,Z,Z,Z,U⟩ U (fun _ _=>Z) ?_ ?_)))))))))
   ·rintro v14 H
    replace H:z0z v1 v14=some r:=H
    unfold z0z at H
    refine zb hN Z (za (zy Z Z) (zf (zg _ Z (fun h=>(lt_t h).elim) (fun h => ?_))))
    refine yt (yc (ι:=Int) (fun i=>[(6,.dat (vint i))]) (fun i=>[]) (fun i=>z0w i=some r) (fun i=>Z) ?_ ?_)
    ·skip
     refine zb hN Z (qd Z (bE H fun x19 h20 H=>za (qv tyU9 Z Z h20) (za (yu Z Z) (zg _ Z (fun h21 => ?_) (fun h21 => ?_)))))
     ·exact tE h21 H fun H=>zp hN Z (qd Z (gE H fun h22 H=>za (x56 Z h22) (qe Z ⟨(-v14),H,⟨Z,U⟩,U⟩)))
     ·exact fE h21 H fun H=>zl ⟨v14,H,⟨Z,U⟩,U⟩
    ·rintro v23 H
     replace H:z0w v23=some r:=H
     unfold z0w at H
     refine zb hN Z (qd Z (qe Z (qe Z (zi ?_))))
     cases H
     exact ⟨U,.inl Z,.inl Z,U⟩
   ·rintro k15 x18 v14 q16 h24 h25 H hq16
    replace H:z3z k15 x18 v14=some q16:=H
    unfold z3z at H
    refine zb hN Z (za (zy Z Z) (zf (zg _ Z (fun h => ?_) (fun h=>(lt_f h24 h).elim))))
    refine zl (zf (zx (zb hN Z (za (wi y62 (fun _=>Z) Z Z h25) (za (qz tyS5 Z (qg h25) Z) (qe Z (zb hN Z (qd Z (za (yk _ Z Z (.inr (.inl ⟨Z,Z⟩))) (qe Z (zf (zb hN Z (qd Z (za (wa Z Z) (zg _ Z (fun h26 => ?_) (fun h26 => ?_))))))))))))))))
    ·refine tE h26 H fun H=>zb hN Z (za (yb (u':=verr 2) (kl (show Tryz.prog.underlying 223=some (.int .i64) from by kernel_rfl) Z) Z) ?_)
     refine qe Z (qe Z (zi ?_))
     replace H:=retl H hq16
     cases H
     exact ⟨U,.inl Z,.inl Z,U⟩
    ·exact fE h26 H fun H=>zl (zp hN Z (qd Z (za (yk _ Z Z (.inr (.inr ⟨Z,Z⟩))) (qd Z (za (ja tyU5 tyU3 Z) (za (yk _ Z Z (.inl ⟨Z,Z⟩)) (qe Z (zp hN Z (za (qj Z Z (by omega)) (qd Z ⟨_,yx H,⟨Z,Z,Z,Z,Z,U⟩,U⟩))))))))))
 ·refine fE h2 H fun H=>zl (zb hN Z (qd Z (bE H fun r27 h28 H=>za (zm (w02 v1 10 0 r27 h28) ⟨.inl Z,.inl Z,.inl Z,U⟩) (qd Z (za (yd Z Z) (za (yd Z Z) (qe Z (qe Z (zb hN Z (qd Z (qd Z (qe Z (qe Z (zi ?_))))))))))))))
  cases H
  exact ⟨U,.inl Z,.inl Z,U⟩
theorem y96 (fn s:Bs) (base bits e r:Int) (H:y3v fn s base bits e=some r):Fn Tryz.prog 196 [vstr fn,vstr s,vint base,vint bits,verr e] (zt [verr r]):=by
 obtain ⟨⟨h1,h2,h3⟩,h4⟩:=gif H
 cases h4
 refine xw (by kernel_rfl) fun M w vs hM h => ?_
 rcases h3 with rfl | rfl
 ·have hv:=kg (us:=[.string ⟨fn.toArray⟩,.string ⟨s.toArray⟩,.int .i64 base,.int .i64 bits,.iface 223 (.int .i64 2)]) h
  subst hv
  obtain ⟨tp,p,hc⟩:=w4t hM
  refine (Tryz.strconv_toError_syntax ⟨fn.toArray⟩ ⟨s.toArray⟩ base bits (.iface tp p) w (by simp [ByteArray.size]; omega) hc (.inr ⟨tp,p,Z⟩)).mono ?_
  rintro e w' ⟨N,rfl,_,_,hb⟩
  exact ⟨_,Z,⟨_,_,Z⟩,Kp.of_below hb⟩
 ·have hv:=kg (us:=[.string ⟨fn.toArray⟩,.string ⟨s.toArray⟩,.int .i64 base,.int .i64 bits,.iface 223 (.int .i64 1)]) h
  subst hv
  obtain ⟨tp,p,hc⟩:=w4u hM
  refine (Tryz.strconv_toError_range ⟨fn.toArray⟩ ⟨s.toArray⟩ base bits (.iface tp p) w (by simp [ByteArray.size]; omega) hc (.inr ⟨tp,p,Z⟩)).mono ?_
  rintro e w' ⟨N,rfl,_,_,hb⟩
  exact ⟨_,Z,⟨_,_,Z⟩,Kp.of_below hb⟩
theorem y97 (s1:Bs) (r:(Int×Int)) (H:Zr s1=some r):Fn Tryz.prog 186 [vstr s1] (zt [vint r.1,verr r.2]):=by
 refine ⟨by kernel_rfl,yf (us:=[vint r.1,verr r.2]) Tryz.func186 Z Z Z Z fun X hN => ?_⟩
 unfold Zr at H
 refine zb hN Z (qe Z (qe Z (zb hN Z (qd Z (bE H fun r2 h3 H=>za (zm (w03 s1 r2 h3) ⟨.inl Z,U⟩) (qd Z (za (yd Z Z) (za (yd Z Z) (qe Z (qe Z (zf (zb hN Z (qd Z (za (z86 (n:=r2.2) (show Tryz.prog.underlying 104=some (.interface (Tryz.prog.methodsAt 104)) from by kernel_rfl) Z) ?_))))))))))))))
 refine zg _ Z (fun h4 => ?_) (fun h4 => ?_)
 ·refine tE h4 H fun H=>zb hN Z (qd Z (qd Z (qd Z (bE H fun r5 h6 H=>za (zm (y96 [65,116,111,105] s1 0 0 r2.2 r5 h6) ⟨.inl Z,.inl Z,.inl Z,.inl Z,.inl Z,U⟩) (qe Z (qe Z (zi ?_)))))))
  cases H
  exact ⟨U,.inl Z,.inl Z,U⟩
 ·refine fE h4 H fun H=>zl (zb hN Z (qd Z (qe Z (qe Z (zi ?_)))))
  cases H
  exact ⟨U,.inl Z,.inl Z,U⟩
theorem w00 (s1:Bs) (most2:Int) (r:(Int×Bool)) (H:z28 s1 most2=some r):Fn Tryz.prog 151 [vstr s1,vint most2] (zt [vint r.1,zh r.2]):=by
 refine ⟨by kernel_rfl,yf (us:=[vint r.1,zh r.2]) Tryz.func151 Z Z Z Z fun X hN => ?_⟩
 unfold z28 at H
 refine zb hN Z (qe Z (qe Z (zb hN Z (qd Z (bE H fun r3 h4 H=>za (zm (y92 s1 [45] r3 h4) ⟨.inl Z,.inl Z,U⟩) (qe Z (zf (yc (ι:=Bool) (fun i=>[(0,.dat (vstr s1)),(6,.dat (vstr r3)),(28,.dat (zh i))]) (fun i=>[]) (fun i=>kq s1 r3 i=some r) (fun i=>Z) ?_ ?_))))))))
 ·skip
  refine zp hN Z (qd Z (za (va Z Z) (qd Z (yg (j:=2) Z Z (fun h5 => ?_) (fun h5 => ?_) Z))))
  ·refine u3 h5 H fun h6 H=>ze Z Z h5 (zd (.dat _) Z) (ze Z Z h5 (yw tyU9 Z) (ze Z Z h5 (zd (.dat _) Z) (ze Z Z h5 (wa Z Z) (za (zv Z (bFF h6) Z) (qd Z (yg (j:=8) Z Z (fun h7 => ?_) (fun h7 => ?_) Z))))))
   ·refine u3 h7 H fun h8 H=>ze Z Z h7 (zd (.dat _) Z) (bE H fun x9 h10 H=>ze Z Z h7 (qv tyU9 Z Z h10) (ze Z Z h7 (yu Z Z) (ze Z Z h7 (zd (.dat _) Z) (yg (j:=12) Z Z (fun h11 => ?_) (fun h11 => ?_) Z))))
    ·exact u1 h11 H fun h12 H=>ze Z Z h11 (zd (.dat _) Z) (ze Z Z h11 (kj Z Z) (ze Z Z h7 (zz Z (bTT h12) Z) (za (zv Z (bFF h8) Z) ⟨decide (s1≠[48]),H,⟨Z,Z,Z,U⟩,U⟩)))
    ·exact u2 h11 H fun h13 H=>zc Z Z h11 (zc Z Z h11 (ze Z Z h7 (zv Z (bFF h13) Z) (za (zv Z (bFF h8) Z) ⟨false,H,⟨Z,Z,Z,U⟩,U⟩)))
   ·exact u4 h7 H fun h14 H=>zc Z Z h7 (zc Z Z h7 (zc Z Z h7 (zc Z Z h7 (yz Z Z (yz Z Z (zc Z Z h7 (za (zz Z (bTT h14) Z) ⟨true,H,⟨Z,Z,Z,U⟩,U⟩)))))))
  ·exact u4 h5 H fun h15 H=>zc Z Z h5 (zc Z Z h5 (zc Z Z h5 (zc Z Z h5 (za (zz Z (bTT h15) Z) (qd Z (zc Z Z Z (zc Z Z Z (zc Z Z Z (zc Z Z Z (yz Z Z (yz Z Z (zc Z Z Z (za (zz Z Z Z) ⟨true,H,⟨Z,Z,Z,U⟩,U⟩)))))))))))))
 ·rintro v16 H
  replace H:kq s1 r3 v16=some r:=H
  unfold kq at H
  refine zg _ Z (fun h17 => ?_) (fun h17 => ?_)
  ·refine tE h17 H fun H=>zb hN Z (qe Z (qe Z (zi ?_)))
   cases H
   exact ⟨U,.inl Z,.inl Z,U⟩
  ·refine fE h17 H fun H=>zl (zf (zb hN Z (qe Z (zx (gE H fun h20 H=>qy (fun (i18:Nat) (s:Unit)=>[(0,.dat (vstr s1)),(6,.dat (vstr r3)),(7,.dat (vint (i18:Int)))]) (fun (i18:Nat) (s:Unit)=>[]) () H ⟨Z,Z,Z,U⟩ U (fun _ _=>Z) ?_ ?_)))))
   ·rintro ⟨⟩ H
    replace H:z3p s1=some r:=H
    unfold z3p at H
    refine zf (zb hN Z (qd Z (qd Z (za (yw tyU9 Z) (za (zy Z Z) (zg _ Z (fun h=>(lt_t h).elim) (fun h => ?_)))))))
    refine yt (zb hN Z (qd Z (bE H fun r22 h23 H=>za (zm (y97 s1 r22 h23) ⟨.inl Z,U⟩) (qd Z (za (yd Z Z) (za (yd Z Z) (qe Z (qe Z (zf (vi mixed hN Z Z (qd Z (qd Z (za (y7s (n:=r22.2) (show Tryz.prog.underlying 104=some (.interface (Tryz.prog.methodsAt 104)) from by kernel_rfl) Z) ?_)))))))))))))
    refine qe Z (qe Z ⟨Z,?_⟩)
    refine zi ?_
    cases H
    exact ⟨U,.inl Z,.inl Z,U⟩
   ·rintro i18 x21 ⟨⟩ q19 h24 h25 H hq19
    replace H:z69 i18 x21=some q19:=H
    unfold z69 at H
    refine zf (zb hN Z (qd Z (qd Z (za (yw tyU9 Z) (za (zy Z Z) (zg _ Z (fun h => ?_) (fun h=>(lt_f h24 h).elim)))))))
    refine zl (zf (zx (yc (ι:=Bool) (fun i=>[(0,.dat (vstr s1)),(6,.dat (vstr r3)),(7,.dat (vint (i18:Int))),(44,.dat (zh i))]) (fun i=>[]) (fun i=>z7a i=some q19) (fun i=>Z) ?_ ?_)))
    ·skip
     refine zp hN Z (qd Z (qd Z (za (qv tyU9 Z Z h25) (za (zy Z Z) (qd Z (yg (j:=4) Z Z (fun h26 => ?_) (fun h26 => ?_) Z))))))
     ·exact u3 h26 H fun h27 H=>ze Z Z h26 (zd (.dat _) Z) (ze Z Z h26 (zd (.dat _) Z) (ze Z Z h26 (qv tyU9 Z Z h25) (ze Z Z h26 (wa Z Z) (za (zv Z (bFF h27) Z) ⟨decide (57 < (x21.toNat:Int)),H,⟨Z,Z,Z,Z,U⟩,U⟩))))
     ·exact u4 h26 H fun h28 H=>zc Z Z h26 (zc Z Z h26 (zc Z Z h26 (zc Z Z h26 (za (zz Z (bTT h28) Z) ⟨true,H,⟨Z,Z,Z,Z,U⟩,U⟩))))
    ·rintro v29 H
     replace H:z7a v29=some q19:=H
     unfold z7a at H
     refine zg _ Z (fun h30 => ?_) (fun h30 => ?_)
     ·refine tE h30 H fun H=>zb hN Z (qe Z (qe Z (zi ?_)))
      replace H:=retl H hq19
      cases H
      exact ⟨U,.inl Z,.inl Z,U⟩
     ·exact fE h30 H fun H=>zl (zp hN Z (qd Z (za (qj Z Z (by omega)) (qe Z ⟨_,yx H,⟨Z,Z,Z,U⟩,U⟩))))
theorem x0l (s1:Bs) (r:(Int×Bool)) (H:z6l s1=some r):Fn Tryz.prog 96 [vstr s1] (zt [vint r.1,zh r.2]):=by
 refine ⟨by kernel_rfl,yf (us:=[vint r.1,zh r.2]) Tryz.func96 Z Z Z Z fun X hN => ?_⟩
 unfold z6l at H
 refine zb hN Z (qe Z (qe Z (zb hN Z (qd Z (bE H fun r2 h3 H=>za (zm (w00 s1 9 r2 h3) ⟨.inl Z,.inl Z,U⟩) (za (yd Z Z) (za (yd Z Z) (qe Z (qe Z (zi ?_))))))))))
 cases H
 exact ⟨U,.inl Z,.inl Z,U⟩
theorem z7d (n1:Int) (low2:Int) (high3:Int) (r:(Bool)) (H:Yy n1 low2 high3=some r):Fn Tryz.prog 69 [vint n1,vint low2,vint high3] (zt [zh r]):=by
 refine ⟨by kernel_rfl,yf (us:=[zh r]) Tryz.func69 Z Z Z Z fun X hN => ?_⟩
 unfold Yy at H
 refine zb hN Z (qe Z (zb hN Z (qd Z (qd Z (za (zy Z Z) (qd Z (yv Z Z (fun hc=>zd (.dat _) Z) (yv Z Z (fun hc=>zd (.dat _) Z) (yv Z Z (fun hc=>wa (cnd (c:=(!(decide (n1 < low2)))) hc) (cnd (c:=(!(decide (n1 < low2)))) hc)) (za (vr Z Z (fun hb=>(cnd (c:=(!(decide (n1 < low2)))) (notI hb)))) (qe Z (zi ?_))))))))))))
 cases H
 exact ⟨U,.inl Z,U⟩
theorem w0p (s1:Bs) (r:(Bool)) (H:y3z s1=some r):Fn Tryz.prog 95 [vstr s1] (zt [zh r]):=by
 refine ⟨by kernel_rfl,yf (us:=[zh r]) Tryz.func95 Z Z Z Z fun X hN => ?_⟩
 unfold y3z at H
 refine zb hN Z (qe Z (zf (zb hN Z (qd Z (za (yw tyU9 Z) (qd Z (zx (gE H fun h4 H=>qy (fun (k2:Nat) (s:Unit)=>[(0,.dat (vstr s1)),(5,.dat (vint (s1.length:Int))),(6,.dat (vint (k2:Int)))]) (fun (k2:Nat) (s:Unit)=>[]) () H ⟨Z,Z,Z,U⟩ U (fun _ _=>Z) ?_ ?_))))))))
 ·rintro ⟨⟩ H
  replace H:y3p s1=some r:=H
  unfold y3p at H
  refine zb hN Z (za (zy Z Z) (zf (zg _ Z (fun h=>(lt_t h).elim) (fun h => ?_))))
  refine yt (yc (ι:=Bool) (fun i=>[(2,.dat (zh i))]) (fun i=>[]) (fun i=>Wj i=some r) (fun i=>Z) ?_ ?_)
  ·skip
   refine zp hN Z (qd Z (za (kj Z Z) (qd Z (yg (j:=2) Z Z (fun h6 => ?_) (fun h6 => ?_) Z))))
   ·refine u1 h6 H fun h7 H=>ze Z Z h6 (zd (.dat _) Z) (ze Z Z h6 (yw tyU9 Z) (ze Z Z h6 (wn Z Z) (za (zz Z (bTT h7) Z) (qd Z (yg (j:=7) Z Z (fun h8 => ?_) (fun h8 => ?_) Z)))))
    ·refine u1 h8 H fun h9 H=>ze Z Z h8 (zd (.dat _) Z) (bE H fun x10 h11 H=>ze Z Z h8 (qv tyU9 Z Z h11) (ze Z Z h8 (qp Z Z) (za (zz Z (bTT h9) Z) (qd Z (yg (j:=12) Z Z (fun h12 => ?_) (fun h12 => ?_) Z)))))
     ·exact u1 h12 H fun h13 H=>ze Z Z h12 (zd (.dat _) Z) (ze Z Z h12 (zd (.dat _) Z) (ze Z Z h12 (yw tyU9 Z) (ze Z Z h12 (yk _ Z Z (.inr (.inl ⟨Z,Z⟩))) (bE H fun x14 h15 H=>ze Z Z h12 (jh tyU9 Z Z h15) (ze Z Z h12 (qp Z Z) (za (zz Z (bTT h13) Z) (qe Z ⟨decide ((x14.toNat:Int)≠45),H,⟨Z,U⟩,U⟩)))))))
     ·exact u2 h12 H fun h16 H=>zc Z Z h12 (zc Z Z h12 (zc Z Z h12 (zc Z Z h12 (zc Z Z h12 (zc Z Z h12 (za (zv Z (bFF h16) Z) (qe Z ⟨false,H,⟨Z,U⟩,U⟩)))))))
    ·exact u2 h8 H fun h17 H=>zc Z Z h8 (zc Z Z h8 (zc Z Z h8 (za (zv Z (bFF h17) Z) (qd Z (zc Z Z Z (zc Z Z Z (zc Z Z Z (zc Z Z Z (zc Z Z Z (zc Z Z Z (za (zv Z Z Z) (qe Z ⟨false,H,⟨Z,U⟩,U⟩))))))))))))
   ·exact u2 h6 H fun h18 H=>zc Z Z h6 (zc Z Z h6 (zc Z Z h6 (za (zv Z (bFF h18) Z) (qd Z (zc Z Z Z (zc Z Z Z (zc Z Z Z (za (zv Z Z Z) (qd Z (zc Z Z Z (zc Z Z Z (zc Z Z Z (zc Z Z Z (zc Z Z Z (zc Z Z Z (za (zv Z Z Z) (qe Z ⟨false,H,⟨Z,U⟩,U⟩)))))))))))))))))
  ·rintro v19 H
   replace H:Wj v19=some r:=H
   unfold Wj at H
   refine zi ?_
   cases H
   exact ⟨U,.inl Z,U⟩
 ·rintro k2 x5 ⟨⟩ q3 h20 h21 H hq3
  replace H:y3o k2 x5=some q3:=H
  unfold y3o at H
  refine zb hN Z (za (zy Z Z) (zf (zg _ Z (fun h => ?_) (fun h=>(lt_f h20 h).elim))))
  refine zl (zf (zx (zb hN Z (qd Z (qe Z (yc (ι:=Bool) (fun i=>[(0,.dat (vstr s1)),(5,.dat (vint (s1.length:Int))),(6,.dat (vint (k2:Int))),(26,.dat (zh i))]) (fun i=>[]) (fun i=>z2l i=some q3) (fun i=>Z) ?_ ?_))))))
  ·skip
   refine zp hN Z (qd Z (qd Z (za (qv tyU9 Z Z h21) (bE H fun r22 h23 H=>za (zm (y4j (x5.toNat:Int) r22 h23) ⟨.inl Z,U⟩) (za (yr Z) (qd Z (yg (j:=5) Z Z (fun h24 => ?_) (fun h24 => ?_) Z)))))))
   ·refine u1 h24 H fun h25 H=>ze Z Z h24 (zd (.dat _) Z) (ze Z Z h24 (zd (.dat _) Z) (ze Z Z h24 (qv tyU9 Z Z h21) (bE H fun r26 h27 H=>ze Z Z h24 (zm (y0i (x5.toNat:Int) r26 h27) ⟨.inl Z,U⟩) (ze Z Z h24 (yr Z) (za (zz Z (bTT h25) Z) (qd Z (yg (j:=12) Z Z (fun h28 => ?_) (fun h28 => ?_) Z)))))))
    ·exact u1 h28 H fun h29 H=>ze Z Z h28 (zd (.dat _) Z) (ze Z Z h28 (zd (.dat _) Z) (ze Z Z h28 (qv tyU9 Z Z h21) (ze Z Z h28 (qp Z Z) (za (zz Z (bTT h29) Z) ⟨decide ((x5.toNat:Int)≠45),H,⟨Z,Z,Z,Z,U⟩,U⟩))))
    ·exact u2 h28 H fun h30 H=>zc Z Z h28 (zc Z Z h28 (zc Z Z h28 (zc Z Z h28 (za (zv Z (bFF h30) Z) ⟨false,H,⟨Z,Z,Z,Z,U⟩,U⟩))))
   ·exact u2 h24 H fun h31 H=>zc Z Z h24 (zc Z Z h24 (zc Z Z h24 (zc Z Z h24 (zc Z Z h24 (za (zv Z (bFF h31) Z) (qd Z (zc Z Z Z (zc Z Z Z (zc Z Z Z (zc Z Z Z (za (zv Z Z Z) ⟨false,H,⟨Z,Z,Z,Z,U⟩,U⟩)))))))))))
  ·rintro v32 H
   replace H:z2l v32=some q3:=H
   unfold z2l at H
   refine zg _ Z (fun h33 => ?_) (fun h33 => ?_)
   ·refine tE h33 H fun H=>zb hN Z (qe Z (zi ?_))
    replace H:=retl H hq3
    cases H
    exact ⟨U,.inl Z,U⟩
   ·exact fE h33 H fun H=>zl (zp hN Z (za (qj Z Z (by omega)) (qd Z ⟨_,yx H,⟨Z,Z,Z,U⟩,U⟩)))
theorem x0d (s1:Bs) (r:(Bool)) (H:uz s1=some r):Fn Tryz.prog 46 [vstr s1] (zt [zh r]):=by
 refine ⟨by kernel_rfl,yf (us:=[zh r]) Tryz.func46 Z Z Z Z fun X hN => ?_⟩
 unfold uz at H
 refine zb hN Z (qe Z (zb hN Z (qd Z (bE H fun r2 h3 H=>za (zm (z7c s1 [58] r2 h3) ⟨.inl Z,.inl Z,U⟩) (qd Z (za (yd Z Z) (za (yd Z Z) (za (yd Z Z) (qe Z (qe Z (qe Z (zf (zb hN Z (qd Z (bE H fun r4 h5 H=>za (zm (z0p r2.1 [46] r4 h5) ⟨.inl Z,.inl Z,U⟩) (za (qf wm Z) (qd Z (zx (gE H fun h8 H=>qy (fun (k6:Nat) (s:Unit)=>[(0,.dat (vstr s1)),(4,.dat (vstr r2.2.1)),(5,.dat (zh r2.2.2)),(17,.dat (vlst (List.map zq r4))),(18,.dat (vint (r4.length:Int))),(19,.dat (vint (k6:Int)))]) (fun (k6:Nat) (s:Unit)=>[]) () H ⟨Z,Z,Z,Z,Z,Z,U⟩ U (fun _ _=>Z) ?_ ?_)))))))))))))))))))
 ·rintro ⟨⟩ H
  replace H:z9w s1 r2=some r:=H
  unfold z9w at H
  refine zb hN Z (za (zy Z Z) (zf (zg _ Z (fun h=>(lt_t h).elim) (fun h => ?_))))
  refine yt (zb hN Z (qd Z (bE H fun r10 h11 H=>za (zm (x0l r2.2.1 r10 h11) ⟨.inl Z,U⟩) (qd Z (za (yd Z Z) (za (yd Z Z) (qe Z (qe Z (yc (ι:=Bool) (fun i=>[(2,.dat (zh i))]) (fun i=>[]) (fun i=>Wl i=some r) (fun i=>Z) ?_ ?_)))))))))
  ·skip
   refine zp hN Z (qd Z (za (yw tyU9 Z) (za (wn Z Z) (qd Z (yg (j:=3) Z Z (fun h12 => ?_) (fun h12 => ?_) Z)))))
   ·refine u1 h12 H fun h13 H=>ze Z Z h12 (zd (.dat _) Z) (ze Z Z h12 (yr Z) (ze Z Z h12 (zd (.dat _) Z) (yg (j:=6) Z Z (fun h14 => ?_) (fun h14 => ?_) Z)))
    ·refine u3 h14 H fun h15 H=>ze Z Z h14 (zd (.dat _) Z) (ze Z Z h14 (zd (.dat _) Z) (yg (j:=8) Z Z (fun h16 => ?_) (fun h16 => ?_) Z))
     ·exact u1 h16 H fun h17 H=>ze Z Z h16 (zd (.dat _) Z) (bE H fun r18 h19 H=>ze Z Z h16 (zm (z7d r10.1 1 65535 r18 h19) ⟨.inl Z,.inl Z,.inl Z,U⟩) (ze Z Z h16 (yr Z) (ze Z Z h14 (zz Z (bTT h17) Z) (ze Z Z h12 (zv Z (bFF h15) Z) (za (zz Z (bTT h13) Z) (qe Z ⟨!r18,H,⟨Z,U⟩,U⟩))))))
     ·exact u2 h16 H fun h20 H=>zc Z Z h16 (zc Z Z h16 (zc Z Z h16 (ze Z Z h14 (zv Z (bFF h20) Z) (ze Z Z h12 (zv Z (bFF h15) Z) (za (zz Z (bTT h13) Z) (qe Z ⟨false,H,⟨Z,U⟩,U⟩))))))
    ·exact u4 h14 H fun h21 H=>zc Z Z h14 (zc Z Z h14 (yz Z Z (yz Z Z (yz Z Z (zc Z Z h14 (ze Z Z h12 (zz Z (bTT h21) Z) (za (zz Z (bTT h13) Z) (qe Z ⟨true,H,⟨Z,U⟩,U⟩))))))))
   ·exact u2 h12 H fun h22 H=>zc Z Z h12 (zc Z Z h12 (zc Z Z h12 (yz Z Z (yz Z Z (yz Z Z (yz Z Z (yz Z Z (yz Z Z (zc Z Z h12 (za (zv Z (bFF h22) Z) (qe Z ⟨false,H,⟨Z,U⟩,U⟩)))))))))))
  ·rintro v23 H
   replace H:Wl v23=some r:=H
   unfold Wl at H
   refine zi ?_
   cases H
   exact ⟨U,.inl Z,U⟩
 ·rintro k6 x9 ⟨⟩ q7 h24 h25 H hq7
  replace H:z9v k6 x9=some q7:=H
  unfold z9v at H
  refine zb hN Z (za (zy Z Z) (zf (zg _ Z (fun h => ?_) (fun h=>(lt_f h24 h).elim))))
  refine zl (zf (zx (zb hN Z (za (wi vm (fun _=>Z) Z Z h25) (za (qz tyS9 Z (qg h25) Z) (qe Z (zb hN Z (qd Z (bE H fun r26 h27 H=>za (zm (w0p x9 r26 h27) ⟨.inl Z,U⟩) (za (yr Z) (zg _ Z (fun h28 => ?_) (fun h28 => ?_))))))))))))
  ·refine tE h28 H fun H=>zb hN Z (qe Z (zi ?_))
   replace H:=retl H hq7
   cases H
   exact ⟨U,.inl Z,U⟩
  ·exact fE h28 H fun H=>zl (zp hN Z (za (qj Z Z (by omega)) (qd Z ⟨_,yx H,⟨Z,Z,Z,Z,Z,Z,U⟩,U⟩)))
theorem w0d (s p:Bs) (r:Bool) (H:y3u s p=some r):Fn Tryz.prog 92 [vstr s,vstr p] (zt [zh r]):=by
 cases H
 refine y1f (by kernel_rfl) fun M w vs h => ?_
 have h1:=kg (us:=[.string ⟨s.toArray⟩,.string ⟨p.toArray⟩]) h
 subst h1
 refine (Tryz.strings_HasPrefix ⟨s.toArray⟩ ⟨p.toArray⟩ w).mono ?_
 rintro e w' ⟨rfl,rfl⟩
 exact ⟨_,Z,Z,Kp.refl _ _⟩
theorem y4i (s1:Bs) (low2:Int) (high3:Int) (r:(Bool)) (H:Zs s1 low2 high3=some r):Fn Tryz.prog 97 [vstr s1,vval (.int .u8 low2),vval (.int .u8 high3)] (zt [zh r]):=by
 refine ⟨by kernel_rfl,yf (us:=[zh r]) Tryz.func97 Z Z Z Z fun X hN => ?_⟩
 unfold Zs at H
 refine zb hN Z (qe Z (zf (zb hN Z (qd Z (za (yw tyU9 Z) (qd Z (zx (gE H fun h6 H=>qy (fun (k4:Nat) (s:Unit)=>[(0,.dat (vstr s1)),(1,.dat (vval (.int .u8 low2))),(2,.dat (vval (.int .u8 high3))),(9,.dat (vint (s1.length:Int))),(10,.dat (vint (k4:Int)))]) (fun (k4:Nat) (s:Unit)=>[]) () H ⟨Z,Z,Z,Z,Z,U⟩ U (fun _ _=>Z) ?_ ?_))))))))
 ·rintro ⟨⟩ H
  replace H:z9u=some r:=H
  unfold z9u at H
  refine zb hN Z (za (zy Z Z) (zf (zg _ Z (fun h=>(lt_t h).elim) (fun h => ?_))))
  refine yt (zb hN Z (qe Z (zi ?_)))
  cases H
  exact ⟨U,.inl Z,U⟩
 ·rintro k4 x7 ⟨⟩ q5 h8 h9 H hq5
  replace H:z9t low2 high3 k4 x7=some q5:=H
  unfold z9t at H
  refine zb hN Z (za (zy Z Z) (zf (zg _ Z (fun h => ?_) (fun h=>(lt_f h8 h).elim))))
  refine zl (zf (zx (zb hN Z (qd Z (qe Z (yc (ι:=Bool) (fun i=>[(0,.dat (vstr s1)),(1,.dat (vval (.int .u8 low2))),(2,.dat (vval (.int .u8 high3))),(9,.dat (vint (s1.length:Int))),(10,.dat (vint (k4:Int))),(24,.dat (zh i))]) (fun i=>[]) (fun i=>z2k i=some q5) (fun i=>Z) ?_ ?_))))))
  ·skip
   refine zp hN Z (qd Z (qd Z (za (qv tyU9 Z Z h9) (qd Z (za (zy Z Z) (qd Z (yg (j:=5) Z Z (fun h10 => ?_) (fun h10 => ?_) Z)))))))
   ·exact u3 h10 H fun h11 H=>ze Z Z h10 (zd (.dat _) Z) (ze Z Z h10 (zd (.dat _) Z) (ze Z Z h10 (qv tyU9 Z Z h9) (ze Z Z h10 (zd (.dat _) Z) (ze Z Z h10 (wa Z Z) (za (zv Z (bFF h11) Z) ⟨decide (high3 < (x7.toNat:Int)),H,⟨Z,Z,Z,Z,Z,Z,U⟩,U⟩)))))
   ·exact u4 h10 H fun h12 H=>zc Z Z h10 (zc Z Z h10 (zc Z Z h10 (zc Z Z h10 (zc Z Z h10 (za (zz Z (bTT h12) Z) ⟨true,H,⟨Z,Z,Z,Z,Z,Z,U⟩,U⟩)))))
  ·rintro v13 H
   replace H:z2k v13=some q5:=H
   unfold z2k at H
   refine zg _ Z (fun h14 => ?_) (fun h14 => ?_)
   ·refine tE h14 H fun H=>zb hN Z (qe Z (zi ?_))
    replace H:=retl H hq5
    cases H
    exact ⟨U,.inl Z,U⟩
   ·exact fE h14 H fun H=>zl (zp hN Z (za (qj Z Z (by omega)) (qd Z ⟨_,yx H,⟨Z,Z,Z,Z,Z,U⟩,U⟩)))
theorem y93 (s p:Bs) (r:Bool) (H:z2u s p=some r):Fn Tryz.prog 98 [vstr s,vstr p] (zt [zh r]):=by
 unfold z2u at H
 obtain ⟨⟨⟨h1,h2⟩,h3,h4⟩,h5⟩:=gif H
 cases h5
 refine xw (by kernel_rfl) fun M w vs hM h => ?_
 have hv:=kg (us:=[.string ⟨s.toArray⟩,.string ⟨p.toArray⟩]) h
 subst hv
 refine (Tryz.strings_ContainsAny_laid ⟨s.toArray⟩ ⟨p.toArray⟩ w (by simp [ByteArray.size]; omega) (by simp [ByteArray.size]; omega) (fun j b hb=>z4z h3 j b (by simpa using hb)) (fun j b hb=>z4z h4 j b (by simpa using hb))).mono ?_
 rintro e w' ⟨rfl,hb⟩
 exact ⟨_,Z,Z,Kp.of_below hb⟩

theorem x0h (s1:Bs) (r:(Int)) (H:z0a s1=some r):Fn Tryz.prog 47 [vstr s1] (zt [vint r]):=by
 refine ⟨by kernel_rfl,yf (us:=[vint r]) Tryz.func47 Z Z Z Z fun X hN => ?_⟩
 unfold z0a at H
 refine zb hN Z (qe Z (zf (yc (ι:=Bool) (fun i=>[(19,.dat (zh i))]) (fun i=>[]) (fun i=>Yp i=some r) (fun i=>Z) ?_ ?_)))
 ·skip
  refine zp hN Z (qd Z (za (yw tyU9 Z) (za (wa Z Z) (qd Z (yg (j:=3) Z Z (fun h2 => ?_) (fun h2 => ?_) Z)))))
  ·refine u3 h2 H fun h3 H=>ze Z Z h2 (zd (.dat _) Z) (bE H fun r4 h5 H=>ze Z Z h2 (zm (w0d s1 [47] r4 h5) ⟨.inl Z,.inl Z,U⟩) (ze Z Z h2 (yr Z) (za (zv Z (bFF h3) Z) (qd Z (yg (j:=8) Z Z (fun h6 => ?_) (fun h6 => ?_) Z)))))
   ·refine u3 h6 H fun h7 H=>ze Z Z h6 (zd (.dat _) Z) (bE H fun r8 h9 H=>ze Z Z h6 (zm (y4i s1 33 126 r8 h9) ⟨.inl Z,.inl Z,.inl Z,U⟩) (ze Z Z h6 (yr Z) (za (zv Z (bFF h7) Z) (qd Z (yg (j:=13) Z Z (fun h10 => ?_) (fun h10 => ?_) Z)))))
    ·exact u3 h10 H fun h11 H=>ze Z Z h10 (zd (.dat _) Z) (bE H fun r12 h13 H=>ze Z Z h10 (zm (y93 s1 [63,35] r12 h13) ⟨.inl Z,.inl Z,U⟩) (za (zv Z (bFF h11) Z) ⟨r12,H,⟨Z,U⟩,U⟩))
    ·exact u4 h10 H fun h14 H=>zc Z Z h10 (zc Z Z h10 (za (zz Z (bTT h14) Z) ⟨true,H,⟨Z,U⟩,U⟩))
   ·exact u4 h6 H fun h15 H=>zc Z Z h6 (zc Z Z h6 (zc Z Z h6 (za (zz Z (bTT h15) Z) (qd Z (zc Z Z Z (zc Z Z Z (za (zz Z Z Z) ⟨true,H,⟨Z,U⟩,U⟩)))))))
  ·exact u4 h2 H fun h16 H=>zc Z Z h2 (zc Z Z h2 (zc Z Z h2 (za (zz Z (bTT h16) Z) (qd Z (zc Z Z Z (zc Z Z Z (zc Z Z Z (za (zz Z Z Z) (qd Z (zc Z Z Z (zc Z Z Z (za (zz Z Z Z) ⟨true,H,⟨Z,U⟩,U⟩))))))))))))
 ·rintro v17 H
  replace H:Yp v17=some r:=H
  unfold Yp at H
  refine zg _ Z (fun h18 => ?_) (fun h18 => ?_)
  ·refine tE h18 H fun H=>zb hN Z (qe Z (zi ?_))
   cases H
   exact ⟨U,.inl Z,U⟩
  ·refine fE h18 H fun H=>zl (zb hN Z (qe Z (zi ?_)))
   cases H
   exact ⟨U,.inl Z,U⟩
theorem y94 (s p:Bs) (r:Bool) (H:Yt s p=some r):Fn Tryz.prog 99 [vstr s,vstr p] (zt [zh r]):=by
 unfold Yt at H
 obtain ⟨h1,h2⟩:=gif H
 cases h2
 refine xw (by kernel_rfl) fun M w vs hM h => ?_
 have hv:=kg (us:=[.string ⟨s.toArray⟩,.string ⟨p.toArray⟩]) h
 subst hv
 obtain ⟨m,hm⟩:=y3r hM
 refine (Tryz.strings_Contains ⟨s.toArray⟩ ⟨p.toArray⟩ m w (by simp [ByteArray.size]; omega) hm).mono ?_
 rintro e w' ⟨rfl,rfl⟩
 exact ⟨_,Z,Z,Kp.refl _ _⟩

theorem x0a (s1:Bs) (r:(Int)) (H:um s1=some r):Fn Tryz.prog 48 [vstr s1] (zt [vint r]):=by
 refine ⟨by kernel_rfl,yf (us:=[vint r]) Tryz.func48 Z Z Z Z fun X hN => ?_⟩
 unfold um at H
 refine zb hN Z (qe Z (zf (yc (ι:=Bool) (fun i=>[(14,.dat (zh i))]) (fun i=>[]) (fun i=>ux i=some r) (fun i=>Z) ?_ ?_)))
 ·skip
  refine zp hN Z (qd Z (za (yw tyU9 Z) (za (wa Z Z) (qd Z (yg (j:=3) Z Z (fun h2 => ?_) (fun h2 => ?_) Z)))))
  ·refine u3 h2 H fun h3 H=>ze Z Z h2 (zd (.dat _) Z) (bE H fun r4 h5 H=>ze Z Z h2 (zm (y4i s1 33 126 r4 h5) ⟨.inl Z,.inl Z,.inl Z,U⟩) (ze Z Z h2 (yr Z) (za (zv Z (bFF h3) Z) (qd Z (yg (j:=8) Z Z (fun h6 => ?_) (fun h6 => ?_) Z)))))
   ·exact u3 h6 H fun h7 H=>ze Z Z h6 (zd (.dat _) Z) (bE H fun r8 h9 H=>ze Z Z h6 (zm (y94 s1 [35] r8 h9) ⟨.inl Z,.inl Z,U⟩) (za (zv Z (bFF h7) Z) ⟨r8,H,⟨Z,U⟩,U⟩))
   ·exact u4 h6 H fun h10 H=>zc Z Z h6 (zc Z Z h6 (za (zz Z (bTT h10) Z) ⟨true,H,⟨Z,U⟩,U⟩))
  ·exact u4 h2 H fun h11 H=>zc Z Z h2 (zc Z Z h2 (zc Z Z h2 (za (zz Z (bTT h11) Z) (qd Z (zc Z Z Z (zc Z Z Z (za (zz Z Z Z) ⟨true,H,⟨Z,U⟩,U⟩)))))))
 ·rintro v12 H
  replace H:ux v12=some r:=H
  unfold ux at H
  refine zg _ Z (fun h13 => ?_) (fun h13 => ?_)
  ·refine tE h13 H fun H=>zb hN Z (qe Z (zi ?_))
   cases H
   exact ⟨U,.inl Z,U⟩
  ·refine fE h13 H fun H=>zl (zb hN Z (qe Z (zi ?_)))
   cases H
   exact ⟨U,.inl Z,U⟩
theorem w0a (s1:Bs) (c2:Int) (r:(Bs)) (H:Yq s1 c2=some r):Fn Tryz.prog 155 [vstr s1,vval (.int .u8 c2)] (zt [vstr r]):=by
 refine ⟨by kernel_rfl,yf (us:=[vstr r]) Tryz.func155 Z Z Z Z fun X hN => ?_⟩
 unfold Yq at H
 refine zb hN Z (qe Z (yc (ι:=Bs) (fun i=>[(0,.dat (vstr i))]) (fun i=>[]) (fun i=>z5m i=some r) (fun i=>Z) ?_ ?_))
 ·skip
  refine zx (xy (fun (s:Bs)=>[(0,.dat (vstr s)),(1,.dat (vval (.int .u8 c2)))]) (fun (s:Bs)=>[]) s1 H ⟨Z,Z,U⟩ U (fun _=>Z) ?_)
  rintro s3 q4 H hq4
  replace H:z5l c2 s3=some q4:=H
  unfold z5l at H
  refine zf (yc (ι:=Bool) (fun i=>[(0,.dat (vstr s3)),(1,.dat (vval (.int .u8 c2))),(16,.dat (zh i))]) (fun i=>[]) (fun i=>Qy s3 i=some q4) (fun i=>Z) ?_ ?_)
  ·skip
   refine zp hN Z (qd Z (za (yw tyU9 Z) (za (wa Z Z) (qd Z (yg (j:=3) Z Z (fun h5 => ?_) (fun h5 => ?_) Z)))))
   ·exact u1 h5 H fun h6 H=>ze Z Z h5 (zd (.dat _) Z) (ze Z Z h5 (zd (.dat _) Z) (ze Z Z h5 (yw tyU9 Z) (ze Z Z h5 (yk _ Z Z (.inr (.inl ⟨Z,Z⟩))) (bE H fun x7 h8 H=>ze Z Z h5 (jh tyU9 Z Z h8) (ze Z Z h5 (zd (.dat _) Z) (ze Z Z h5 (yu Z Z) (za (zz Z (bTT h6) Z) ⟨decide ((x7.toNat:Int)=c2),H,⟨Z,Z,Z,U⟩,U⟩)))))))
   ·exact u2 h5 H fun h9 H=>zc Z Z h5 (zc Z Z h5 (zc Z Z h5 (zc Z Z h5 (zc Z Z h5 (zc Z Z h5 (zc Z Z h5 (za (zv Z (bFF h9) Z) ⟨false,H,⟨Z,Z,Z,U⟩,U⟩)))))))
  ·rintro v10 H
   replace H:Qy s3 v10=some q4:=H
   unfold Qy at H
   refine zg _ Z (fun h11 => ?_) (fun h11 => ?_)
   ·exact tE h11 H fun H=>zl (zx (zp hN Z (qd Z (qd Z (za (yw tyU9 Z) (za (yk _ Z Z (.inr (.inl ⟨Z,Z⟩))) (bE H fun l12 h13 H=>za (vz tyU9 Z Z Z h13) (qe Z ⟨_,yx H,⟨Z,Z,U⟩,U⟩))))))))
   ·refine fE h11 H fun H=>yt ?_
    replace H:=outl H hq4
    exact ⟨s3,H,⟨Z,U⟩,U⟩
 ·rintro s14 H
  replace H:z5m s14=some r:=H
  unfold z5m at H
  refine zb hN Z (qd Z (qe Z (zi ?_)))
  cases H
  exact ⟨U,.inl Z,U⟩
theorem w0b (s1:Bs) (c2:Int) (r:(Bs)) (H:Wu s1 c2=some r):Fn Tryz.prog 154 [vstr s1,vval (.int .u8 c2)] (zt [vstr r]):=by
 refine ⟨by kernel_rfl,yf (us:=[vstr r]) Tryz.func154 Z Z Z Z fun X hN => ?_⟩
 unfold Wu at H
 refine zb hN Z (qe Z (yc (ι:=Bs) (fun i=>[(0,.dat (vstr i))]) (fun i=>[]) (fun i=>z5o i=some r) (fun i=>Z) ?_ ?_))
 ·skip
  refine zx (xy (fun (s:Bs)=>[(0,.dat (vstr s)),(1,.dat (vval (.int .u8 c2)))]) (fun (s:Bs)=>[]) s1 H ⟨Z,Z,U⟩ U (fun _=>Z) ?_)
  rintro s3 q4 H hq4
  replace H:z5n c2 s3=some q4:=H
  unfold z5n at H
  refine zf (yc (ι:=Bool) (fun i=>[(0,.dat (vstr s3)),(1,.dat (vval (.int .u8 c2))),(13,.dat (zh i))]) (fun i=>[]) (fun i=>Qz s3 i=some q4) (fun i=>Z) ?_ ?_)
  ·skip
   refine zp hN Z (qd Z (za (yw tyU9 Z) (za (wa Z Z) (qd Z (yg (j:=3) Z Z (fun h5 => ?_) (fun h5 => ?_) Z)))))
   ·exact u1 h5 H fun h6 H=>ze Z Z h5 (zd (.dat _) Z) (bE H fun x7 h8 H=>ze Z Z h5 (qv tyU9 Z Z h8) (ze Z Z h5 (zd (.dat _) Z) (ze Z Z h5 (yu Z Z) (za (zz Z (bTT h6) Z) ⟨decide ((x7.toNat:Int)=c2),H,⟨Z,Z,Z,U⟩,U⟩))))
   ·exact u2 h5 H fun h9 H=>zc Z Z h5 (zc Z Z h5 (zc Z Z h5 (zc Z Z h5 (za (zv Z (bFF h9) Z) ⟨false,H,⟨Z,Z,Z,U⟩,U⟩))))
  ·rintro v10 H
   replace H:Qz s3 v10=some q4:=H
   unfold Qz at H
   refine zg _ Z (fun h11 => ?_) (fun h11 => ?_)
   ·exact tE h11 H fun H=>zl (zx (zp hN Z (qd Z (bE H fun l12 h13 H=>za (vz tyU9 Z Z Z h13) (qe Z ⟨_,yx H,⟨Z,Z,U⟩,U⟩)))))
   ·refine fE h11 H fun H=>yt ?_
    replace H:=outl H hq4
    exact ⟨s3,H,⟨Z,U⟩,U⟩
 ·rintro s14 H
  replace H:z5o s14=some r:=H
  unfold z5o at H
  refine zb hN Z (qd Z (qe Z (zi ?_)))
  cases H
  exact ⟨U,.inl Z,U⟩
end Go.Proofs.YtbndlmnjeofkdaaGreatDoor
