/- Walks along the models. Printed by a program. -/
import Derived.Test.YtkldmhhbbceaoabGreatDoorZrw4
namespace Go.Proofs.YtkldmhhbbceaoabGreatDoor
open Go.RowKit
set_option linter.unusedVariables false
set_option maxRecDepth 100000
set_option maxHeartbeats 2000000
theorem x20 (v1:Bs) (r:(Bs×Int)) (H:z1f v1=some r):Fn Tryz.prog 44 [vstr v1] (zw [vstr r.1,vint r.2]):=by
 refine ⟨by kernel_rfl,yh (us:=[vstr r.1,vint r.2]) Tryz.func44 Z Z Z Z fun X hN => ?_⟩
 unfold z1f at H
 refine zb hN Z (qe Z (qe Z (zb hN Z (qd Z (bE H fun r2 h3 H=>za (zm (z96 v1 [58] r2 h3) ⟨.inl Z,.inl Z,U⟩) (qd Z (za (ym Z Z) (za (ym Z Z) (za (ym Z Z) (qe Z (qe Z (qe Z (zb hN Z (qd Z (bE H fun r4 h5 H=>za (zm (x2z r2.2.1 5 r4 h5) ⟨.inl Z,.inl Z,U⟩) (qd Z (za (ym Z Z) (za (ym Z Z) (qe Z (qe Z (zg ?_)))))))))))))))))))))
 refine yf (ι:=Bool) (fun i=>[(4,.dat (vstr r2.1)),(5,.dat (vstr r2.2.1)),(6,.dat (zj r2.2.2)),(7,.dat (vint r4.1)),(37,.dat (zj i))]) (fun i=>[]) (fun i=>xr r2 r4 i=some r) (fun i=>Z) ?_ ?_
 ·skip
  refine zu hN Z (qd Z (za (qh tyU9 Z) (za (qv Z Z) (qd Z (yi (j:=3) Z Z (fun h6 => ?_) (fun h6 => ?_) Z)))))
  ·refine u3 h6 H fun h7 H=>ze Z Z h6 (zf (.dat _) Z) (ze Z Z h6 (zf (.dat _) Z) (yi (j:=5) Z Z (fun h8 => ?_) (fun h8 => ?_) Z))
   ·refine u1 h8 H fun h9 H=>ze Z Z h8 (zf (.dat _) Z) (ze Z Z h8 (yp Z) (ze Z Z h8 (zf (.dat _) Z) (yi (j:=8) Z Z (fun h10 => ?_) (fun h10 => ?_) Z)))
    ·exact u3 h10 H fun h11 H=>ze Z Z h10 (zf (.dat _) Z) (bE H fun r12 h13 H=>ze Z Z h10 (zm (Qk r4.1 1 65535 r12 h13) ⟨.inl Z,.inl Z,.inl Z,U⟩) (ze Z Z h10 (yp Z) (ze Z Z h8 (zv Z (bFF h11) Z) (ze Z Z h6 (yc Z (bTT h9) Z) (za (zv Z (bFF h7) Z) ⟨!r12,H,⟨Z,Z,Z,Z,Z,U⟩,U⟩)))))
    ·exact u4 h10 H fun h14 H=>zc Z Z h10 (zc Z Z h10 (zc Z Z h10 (ze Z Z h8 (yc Z (bTT h14) Z) (ze Z Z h6 (yc Z (bTT h9) Z) (za (zv Z (bFF h7) Z) ⟨true,H,⟨Z,Z,Z,Z,Z,U⟩,U⟩)))))
   ·exact u2 h8 H fun h15 H=>zc Z Z h8 (zc Z Z h8 (zc Z Z h8 (yw Z Z (yw Z Z (yw Z Z (zc Z Z h8 (ze Z Z h6 (zv Z (bFF h15) Z) (za (zv Z (bFF h7) Z) ⟨false,H,⟨Z,Z,Z,Z,Z,U⟩,U⟩))))))))
  ·exact u4 h6 H fun h16 H=>zc Z Z h6 (zc Z Z h6 (yw Z Z (yw Z Z (yw Z Z (yw Z Z (yw Z Z (yw Z Z (yw Z Z (zc Z Z h6 (za (yc Z (bTT h16) Z) ⟨true,H,⟨Z,Z,Z,Z,Z,U⟩,U⟩))))))))))
 ·rintro v17 H
  replace H:xr r2 r4 v17=some r:=H
  unfold xr at H
  refine zh _ Z (fun h18 => ?_) (fun h18 => ?_)
  ·refine tE h18 H fun H=>zb hN Z (qe Z (qe Z (zk ?_)))
   cases H
   exact ⟨U,.inl Z,.inl Z,U⟩
  ·refine fE h18 H fun H=>zl (zg (zb hN Z (qd Z (bE H fun r19 h20 H=>za (zm (z4m r2.1 [46] r19 h20) ⟨.inl Z,.inl Z,U⟩) (za (yz we Z) (qd Z (yg (gE H fun h23 H=>qw (fun (k21:Nat) (s:Unit)=>[(4,.dat (vstr r2.1)),(5,.dat (vstr r2.2.1)),(6,.dat (zj r2.2.2)),(7,.dat (vint r4.1)),(39,.dat (vlst (List.map zt r19))),(40,.dat (vint (r19.length:Int))),(41,.dat (vint (k21:Int)))]) (fun (k21:Nat) (s:Unit)=>[]) () H ⟨Z,Z,Z,Z,Z,Z,Z,U⟩ U (fun _ _=>Z) ?_ ?_))))))))
   ·rintro ⟨⟩ H
    replace H:z2a r2 r4=some r:=H
    unfold z2a at H
    refine zb hN Z (za (ye Z Z) (zg (zh _ Z (fun h=>(lt_t h).elim) (fun h => ?_))))
    refine qc (zb hN Z (qd Z (bE H fun r25 h26 H=>za (zm (z1u r2.1 r25 h26) ⟨.inl Z,U⟩) (qe Z (yf (ι:=Bs) (fun i=>[(11,.dat (vstr i))]) (fun i=>[]) (fun i=>z5f i=some r) (fun i=>Z) ?_ ?_)))))
    ·skip
     refine zb hN Z (qd Z (qd Z (qt Z Z (fun hc=>zf (.dat _) Z) (qt Z Z (fun hc=>qk (cnd (c:=r2.2.2) hc) Z) (za (vc Z (fun hb=>(cnd (c:=r2.2.2) hb)) Z) (qd Z (qt Z Z (fun hc=>zf (.dat _) Z) (qt Z Z (fun hc=>qk (cnd (c:=(r2.2.2 && (decide (r4.1≠80)))) hc) Z) (za (vc Z (fun hb=>(cnd (c:=(r2.2.2 && (decide (r4.1≠80)))) hb)) Z) (zh _ Z (fun h27 => ?_) (fun h27 => ?_)))))))))))
     ·exact tE h27 H fun H=>zu hN Z (qd Z (qd Z (gE H fun h28 H=>za (uy Z Z (Nat.le_trans h28 (by decide))) (gE H fun h29 H=>za (uy Z Z (Nat.le_trans h29 (by decide))) (qe Z ⟨(r25++([58]++r2.2.1)),H,⟨Z,U⟩,U⟩)))))
     ·exact fE h27 H fun H=>zl ⟨r25,H,⟨Z,U⟩,U⟩
    ·rintro v30 H
     replace H:z5f v30=some r:=H
     unfold z5f at H
     refine zb hN Z (qd Z (qe Z (qe Z (zk ?_))))
     cases H
     exact ⟨U,.inl Z,.inl Z,U⟩
   ·rintro k21 x24 ⟨⟩ q22 h31 h32 H hq22
    replace H:z19 k21 x24=some q22:=H
    unfold z19 at H
    refine zb hN Z (za (ye Z Z) (zg (zh _ Z (fun h => ?_) (fun h=>(lt_f h31 h).elim))))
    refine zl (zg (yg (zb hN Z (za (wd wy (fun _=>Z) Z Z h32) (za (qo tyS9 Z (qa h32) Z) (qe Z (yf (ι:=Bool) (fun i=>[(4,.dat (vstr r2.1)),(5,.dat (vstr r2.2.1)),(6,.dat (zj r2.2.2)),(7,.dat (vint r4.1)),(39,.dat (vlst (List.map zt r19))),(40,.dat (vint (r19.length:Int))),(41,.dat (vint (k21:Int))),(59,.dat (zj i))]) (fun i=>[]) (fun i=>xq i=some q22) (fun i=>Z) ?_ ?_)))))))
    ·skip
     refine zu hN Z (qd Z (za (qh tyU9 Z) (bE H fun r33 h34 H=>za (zm (Qk (x24.length:Int) 1 63 r33 h34) ⟨.inl Z,.inl Z,.inl Z,U⟩) (za (yp Z) (qd Z (yi (j:=4) Z Z (fun h35 => ?_) (fun h35 => ?_) Z))))))
     ·refine u3 h35 H fun h36 H=>ze Z Z h35 (zf (.dat _) Z) (bE H fun r37 h38 H=>ze Z Z h35 (zm (z4o x24 [97,98,99,100,101,102,103,104,105,106,107,108,109,110,111,112,113,114,115,116,117,118,119,120,121,122,65,66,67,68,69,70,71,72,73,74,75,76,77,78,79,80,81,82,83,84,85,86,87,88,89,90,48,49,50,51,52,53,54,55,56,57,45] r37 h38) ⟨.inl Z,.inl Z,U⟩) (ze Z Z h35 (yp Z) (za (zv Z (bFF h36) Z) (qd Z (yi (j:=9) Z Z (fun h39 => ?_) (fun h39 => ?_) Z)))))
      ·exact u3 h39 H fun h40 H=>ze Z Z h39 (zf (.dat _) Z) (bE H fun r41 h42 H=>ze Z Z h39 (zm (z1t x24 [45] r41 h42) ⟨.inl Z,.inl Z,U⟩) (ze Z Z h39 (zf (.dat _) Z) (ze Z Z h39 (ux Z Z) (za (zv Z (bFF h40) Z) ⟨decide (r41≠x24),H,⟨Z,Z,Z,Z,Z,Z,Z,Z,U⟩,U⟩))))
      ·exact u4 h39 H fun h43 H=>zc Z Z h39 (zc Z Z h39 (zc Z Z h39 (zc Z Z h39 (za (yc Z (bTT h43) Z) ⟨true,H,⟨Z,Z,Z,Z,Z,Z,Z,Z,U⟩,U⟩))))
     ·exact u4 h35 H fun h44 H=>zc Z Z h35 (zc Z Z h35 (zc Z Z h35 (za (yc Z (bTT h44) Z) (qd Z (zc Z Z Z (zc Z Z Z (zc Z Z Z (zc Z Z Z (za (yc Z Z Z) ⟨true,H,⟨Z,Z,Z,Z,Z,Z,Z,Z,U⟩,U⟩)))))))))
    ·rintro v45 H
     replace H:xq v45=some q22:=H
     unfold xq at H
     refine zh _ Z (fun h46 => ?_) (fun h46 => ?_)
     ·refine tE h46 H fun H=>zb hN Z (qe Z (qe Z (zk ?_)))
      replace H:=retl H hq22
      cases H
      exact ⟨U,.inl Z,.inl Z,U⟩
     ·exact fE h46 H fun H=>zl (zu hN Z (za (qs Z Z (by omega)) (qd Z ⟨_,qj H,⟨Z,Z,Z,Z,Z,Z,Z,U⟩,U⟩)))
theorem y0f (s1:Bs) (low2:Int) (r:(Bool)) (H:z1b s1 low2=some r):Fn Tryz.prog 92 [vstr s1,vval (.int .u8 low2)] (zw [zj r]):=by
 refine ⟨by kernel_rfl,yh (us:=[zj r]) Tryz.func92 Z Z Z Z fun X hN => ?_⟩
 unfold z1b at H
 refine zb hN Z (qe Z (zg (zb hN Z (qd Z (za (qh tyU9 Z) (qd Z (yg (gE H fun h5 H=>qw (fun (k3:Nat) (s:Unit)=>[(0,.dat (vstr s1)),(1,.dat (vval (.int .u8 low2))),(7,.dat (vint (s1.length:Int))),(8,.dat (vint (k3:Int)))]) (fun (k3:Nat) (s:Unit)=>[]) () H ⟨Z,Z,Z,Z,U⟩ U (fun _ _=>Z) ?_ ?_))))))))
 ·rintro ⟨⟩ H
  replace H:y0v=some r:=H
  unfold y0v at H
  refine zb hN Z (za (ye Z Z) (zg (zh _ Z (fun h=>(lt_t h).elim) (fun h => ?_))))
  refine qc (zb hN Z (qe Z (zk ?_)))
  cases H
  exact ⟨U,.inl Z,U⟩
 ·rintro k3 x6 ⟨⟩ q4 h7 h8 H hq4
  replace H:y0u low2 k3 x6=some q4:=H
  unfold y0u at H
  refine zb hN Z (za (ye Z Z) (zg (zh _ Z (fun h => ?_) (fun h=>(lt_f h7 h).elim))))
  refine zl (zg (yg (zb hN Z (qd Z (qe Z (yf (ι:=Bool) (fun i=>[(0,.dat (vstr s1)),(1,.dat (vval (.int .u8 low2))),(7,.dat (vint (s1.length:Int))),(8,.dat (vint (k3:Int))),(21,.dat (zj i))]) (fun i=>[]) (fun i=>z5d i=some q4) (fun i=>Z) ?_ ?_))))))
  ·skip
   refine zu hN Z (qd Z (qd Z (za (qx tyU9 Z Z h8) (qd Z (za (ye Z Z) (qd Z (yi (j:=5) Z Z (fun h9 => ?_) (fun h9 => ?_) Z)))))))
   ·exact u3 h9 H fun h10 H=>ze Z Z h9 (zf (.dat _) Z) (ze Z Z h9 (zf (.dat _) Z) (ze Z Z h9 (qx tyU9 Z Z h8) (ze Z Z h9 (qv Z Z) (za (zv Z (bFF h10) Z) ⟨decide (126 < (x6.toNat:Int)),H,⟨Z,Z,Z,Z,Z,U⟩,U⟩))))
   ·exact u4 h9 H fun h11 H=>zc Z Z h9 (zc Z Z h9 (zc Z Z h9 (zc Z Z h9 (za (yc Z (bTT h11) Z) ⟨true,H,⟨Z,Z,Z,Z,Z,U⟩,U⟩))))
  ·rintro v12 H
   replace H:z5d v12=some q4:=H
   unfold z5d at H
   refine zh _ Z (fun h13 => ?_) (fun h13 => ?_)
   ·refine tE h13 H fun H=>zb hN Z (qe Z (zk ?_))
    replace H:=retl H hq4
    cases H
    exact ⟨U,.inl Z,U⟩
   ·exact fE h13 H fun H=>zl (zu hN Z (za (qs Z Z (by omega)) (qd Z ⟨_,qj H,⟨Z,Z,Z,Z,U⟩,U⟩)))
theorem x2p (s1:Bs) (r:(Bool)) (H:z3w s1=some r):Fn Tryz.prog 45 [vstr s1] (zw [zj r]):=by
 refine ⟨by kernel_rfl,yh (us:=[zj r]) Tryz.func45 Z Z Z Z fun X hN => ?_⟩
 unfold z3w at H
 refine zb hN Z (qe Z (yf (ι:=Bool) (fun i=>[(2,.dat (zj i))]) (fun i=>[]) (fun i=>Zw i=some r) (fun i=>Z) ?_ ?_))
 ·skip
  refine zu hN Z (qd Z (za (qh tyU9 Z) (bE H fun r2 h3 H=>za (zm (Qk (s1.length:Int) 1 1000 r2 h3) ⟨.inl Z,.inl Z,.inl Z,U⟩) (qd Z (yi (j:=3) Z Z (fun h4 => ?_) (fun h4 => ?_) Z)))))
  ·refine u1 h4 H fun h5 H=>ze Z Z h4 (zf (.dat _) Z) (bE H fun x6 h7 H=>ze Z Z h4 (qx tyU9 Z Z h7) (ze Z Z h4 (yt Z Z) (za (yc Z (bTT h5) Z) (qd Z (yi (j:=8) Z Z (fun h8 => ?_) (fun h8 => ?_) Z)))))
   ·refine u1 h8 H fun h9 H=>ze Z Z h8 (zf (.dat _) Z) (bE H fun r10 h11 H=>ze Z Z h8 (zm (y0f s1 33 r10 h11) ⟨.inl Z,.inl Z,U⟩) (za (yc Z (bTT h9) Z) (qd Z (yi (j:=12) Z Z (fun h12 => ?_) (fun h12 => ?_) Z))))
    ·exact u1 h12 H fun h13 H=>ze Z Z h12 (zf (.dat _) Z) (bE H fun r14 h15 H=>ze Z Z h12 (zm (y4n s1 [63,35] r14 h15) ⟨.inl Z,.inl Z,U⟩) (ze Z Z h12 (yp Z) (za (yc Z (bTT h13) Z) (qe Z ⟨!r14,H,⟨Z,U⟩,U⟩))))
    ·exact u2 h12 H fun h16 H=>zc Z Z h12 (zc Z Z h12 (zc Z Z h12 (za (zv Z (bFF h16) Z) (qe Z ⟨false,H,⟨Z,U⟩,U⟩))))
   ·exact u2 h8 H fun h17 H=>zc Z Z h8 (zc Z Z h8 (za (zv Z (bFF h17) Z) (qd Z (zc Z Z Z (zc Z Z Z (zc Z Z Z (za (zv Z Z Z) (qe Z ⟨false,H,⟨Z,U⟩,U⟩))))))))
  ·exact u2 h4 H fun h18 H=>zc Z Z h4 (zc Z Z h4 (zc Z Z h4 (za (zv Z (bFF h18) Z) (qd Z (zc Z Z Z (zc Z Z Z (za (zv Z Z Z) (qd Z (zc Z Z Z (zc Z Z Z (zc Z Z Z (za (zv Z Z Z) (qe Z ⟨false,H,⟨Z,U⟩,U⟩)))))))))))))
 ·rintro v19 H
  replace H:Zw v19=some r:=H
  unfold Zw at H
  refine zk ?_
  cases H
  exact ⟨U,.inl Z,U⟩
theorem x2o (s1:Bs) (r:(Bool)) (H:z3v s1=some r):Fn Tryz.prog 46 [vstr s1] (zw [zj r]):=by
 refine ⟨by kernel_rfl,yh (us:=[zj r]) Tryz.func46 Z Z Z Z fun X hN => ?_⟩
 unfold z3v at H
 refine zb hN Z (qe Z (yf (ι:=Bool) (fun i=>[(2,.dat (zj i))]) (fun i=>[]) (fun i=>Qs i=some r) (fun i=>Z) ?_ ?_))
 ·skip
  refine zu hN Z (qd Z (za (qh tyU9 Z) (za (wt Z Z) (qd Z (yi (j:=3) Z Z (fun h2 => ?_) (fun h2 => ?_) Z)))))
  ·refine u1 h2 H fun h3 H=>ze Z Z h2 (zf (.dat _) Z) (bE H fun r4 h5 H=>ze Z Z h2 (zm (y0f s1 33 r4 h5) ⟨.inl Z,.inl Z,U⟩) (za (yc Z (bTT h3) Z) (qd Z (yi (j:=7) Z Z (fun h6 => ?_) (fun h6 => ?_) Z))))
   ·exact u1 h6 H fun h7 H=>ze Z Z h6 (zf (.dat _) Z) (bE H fun r8 h9 H=>ze Z Z h6 (zm (y4o s1 [35] r8 h9) ⟨.inl Z,.inl Z,U⟩) (ze Z Z h6 (yp Z) (za (yc Z (bTT h7) Z) (qe Z ⟨!r8,H,⟨Z,U⟩,U⟩))))
   ·exact u2 h6 H fun h10 H=>zc Z Z h6 (zc Z Z h6 (zc Z Z h6 (za (zv Z (bFF h10) Z) (qe Z ⟨false,H,⟨Z,U⟩,U⟩))))
  ·exact u2 h2 H fun h11 H=>zc Z Z h2 (zc Z Z h2 (za (zv Z (bFF h11) Z) (qd Z (zc Z Z Z (zc Z Z Z (zc Z Z Z (za (zv Z Z Z) (qe Z ⟨false,H,⟨Z,U⟩,U⟩))))))))
 ·rintro v12 H
  replace H:Qs v12=some r:=H
  unfold Qs at H
  refine zk ?_
  cases H
  exact ⟨U,.inl Z,U⟩
theorem y45 (s1:Bs) (r:(Bool)) (H:z32 s1=some r):Fn Tryz.prog 47 [vstr s1] (zw [zj r]):=by
 refine ⟨by kernel_rfl,yh (us:=[zj r]) Tryz.func47 Z Z Z Z fun X hN => ?_⟩
 unfold z32 at H
 refine zb hN Z (qe Z (yf (ι:=Bool) (fun i=>[(2,.dat (zj i))]) (fun i=>[]) (fun i=>z2b i=some r) (fun i=>Z) ?_ ?_))
 ·skip
  refine zu hN Z (qd Z (za (qh tyU9 Z) (za (wt Z Z) (qd Z (yi (j:=3) Z Z (fun h2 => ?_) (fun h2 => ?_) Z)))))
  ·refine u1 h2 H fun h3 H=>ze Z Z h2 (zf (.dat _) Z) (bE H fun r4 h5 H=>ze Z Z h2 (zm (y0f s1 32 r4 h5) ⟨.inl Z,.inl Z,U⟩) (za (yc Z (bTT h3) Z) (qd Z (yi (j:=7) Z Z (fun h6 => ?_) (fun h6 => ?_) Z))))
   ·exact u1 h6 H fun h7 H=>ze Z Z h6 (zf (.dat _) Z) (bE H fun r8 h9 H=>ze Z Z h6 (zm (z1t s1 [32] r8 h9) ⟨.inl Z,.inl Z,U⟩) (ze Z Z h6 (zf (.dat _) Z) (ze Z Z h6 (vo Z Z) (za (yc Z (bTT h7) Z) (qe Z ⟨decide (r8=s1),H,⟨Z,U⟩,U⟩)))))
   ·exact u2 h6 H fun h10 H=>zc Z Z h6 (zc Z Z h6 (zc Z Z h6 (zc Z Z h6 (za (zv Z (bFF h10) Z) (qe Z ⟨false,H,⟨Z,U⟩,U⟩)))))
  ·exact u2 h2 H fun h11 H=>zc Z Z h2 (zc Z Z h2 (za (zv Z (bFF h11) Z) (qd Z (zc Z Z Z (zc Z Z Z (zc Z Z Z (zc Z Z Z (za (zv Z Z Z) (qe Z ⟨false,H,⟨Z,U⟩,U⟩)))))))))
 ·rintro v12 H
  replace H:z2b v12=some r:=H
  unfold z2b at H
  refine zk ?_
  cases H
  exact ⟨U,.inl Z,U⟩
theorem y44 (l1:(List zd)) (r:(Int)) (H:z1g l1=some r):Fn Tryz.prog 48 [vlst (List.map zq l1)] (zw [vint r]):=by
 refine ⟨by kernel_rfl,yh (us:=[vint r]) Tryz.func48 Z Z Z Z fun X hN => ?_⟩
 unfold z1g at H
 refine zb hN Z (qe Z (zg (zb hN Z (qd Z (za (yz vm Z) (za (qv Z Z) (zh _ Z (fun h2 => ?_) (fun h2 => ?_))))))))
 ·refine tE h2 H fun H=>zb hN Z (qe Z (zk ?_))
  cases H
  exact ⟨U,.inl Z,U⟩
 ·refine fE h2 H fun H=>zl (zg (zb hN Z (qd Z (za (yz vm Z) (qd Z (yg (gE H fun h5 H=>qw (fun (k3:Nat) (s:Unit)=>[(8,.dat (vlst (List.map zq l1))),(9,.dat (vint (l1.length:Int))),(10,.dat (vint (k3:Int)))]) (fun (k3:Nat) (s:Unit)=>[]) () H ⟨Z,Z,Z,U⟩ U (fun _ _=>Z) ?_ ?_)))))))
  ·rintro ⟨⟩ H
   replace H:z78=some r:=H
   unfold z78 at H
   refine zb hN Z (za (ye Z Z) (zg (zh _ Z (fun h=>(lt_t h).elim) (fun h => ?_))))
   refine qc (zb hN Z (qe Z (zk ?_)))
   cases H
   exact ⟨U,.inl Z,U⟩
  ·rintro k3 x6 ⟨⟩ q4 h7 h8 H hq4
   replace H:z77 k3 x6=some q4:=H
   unfold z77 at H
   refine zb hN Z (za (ye Z Z) (zg (zh _ Z (fun h => ?_) (fun h=>(lt_f h7 h).elim))))
   refine zl (zg (yg (zb hN Z (za (wd je (fun _=>Z) Z Z h8) (za (uj wq Z (qa h8) Z) (zi (qz 1 vk Z) Z (zi (yu wq Z Z Z Z) Z (zg (zb hN Z (za (zp kq Z) (zo (zz tyS9 Z Z) Z (bE H fun r9 h10 H=>za (zm (y0h x6.Name r9 h10) ⟨.inl Z,U⟩) (za (yp Z) (zh _ Z (fun h11 => ?_) (fun h11 => ?_)))))))))))))))
   ·refine tE h11 H fun H=>zb hN Z (qe Z (zk ?_))
    replace H:=retl H hq4
    cases H
    exact ⟨U,.inl Z,U⟩
   ·refine fE h11 H fun H=>zl (zb hN Z (za (zp z0n Z) (zo (zz tyS9 Z Z) Z (bE H fun r12 h13 H=>za (zm (y45 x6.Value r12 h13) ⟨.inl Z,U⟩) (za (yp Z) (zh _ Z (fun h14 => ?_) (fun h14 => ?_)))))))
    ·refine tE h14 H fun H=>zb hN Z (qe Z (zk ?_))
     replace H:=retl H hq4
     cases H
     exact ⟨U,.inl Z,U⟩
    ·exact fE h14 H fun H=>zl (zu hN Z (za (qs Z Z (by omega)) (qd Z ⟨_,qj H,⟨Z,Z,Z,U⟩,U⟩)))
theorem y42 (r1:ya) (r:(Int)) (H:Qc r1=some r):Fn Tryz.prog 14 [vagg (wl r1)] (zw [vint r]):=by
 refine ⟨by kernel_rfl,yh (us:=[vint r]) Tryz.func14 Z Z Z Z fun X hN => ?_⟩
 unfold Qc at H
 refine zb hN Z (zi (qr 1 Z) Z (qe Z (zg (yg (zb hN Z (za (zp z55 Z) (zo (zz tyS3 Z Z) Z (bE H fun r2 h3 H=>za (zm (z7q r1.At r2 h3) ⟨.inl Z,U⟩) (za (yp Z) (qe Z (zh _ Z (fun h4 => ?_) (fun h4 => ?_))))))))))))
 ·refine tE h4 H fun H=>zb hN Z (qe Z (zk ?_))
  cases H
  exact ⟨U,.inl Z,U⟩
 ·refine fE h4 H fun H=>zb hN Z (za (zp z54 Z) (zo (zz tyS9 Z Z) Z (bE H fun r5 h6 H=>za (zm (y0h r1.Method r5 h6) ⟨.inl Z,U⟩) (za (yp Z) (qe Z (zh _ Z (fun h7 => ?_) (fun h7 => ?_)))))))
  ·refine tE h7 H fun H=>zb hN Z (qe Z (zk ?_))
   cases H
   exact ⟨U,.inl Z,U⟩
  ·refine fE h7 H fun H=>zl (zg (zb hN Z (za (zp z26 Z) (zo (zz tyS9 Z Z) Z (bE H fun r8 h9 H=>za (zm (x20 r1.Host r8 h9) ⟨.inl Z,U⟩) (qd Z (za (ym Z Z) (za (ym Z Z) (qe Z (qe Z (zb hN Z (qd Z (za (qk Z Z) (zh _ Z (fun h10 => ?_) (fun h10 => ?_)))))))))))))))
   ·refine tE h10 H fun H=>zb hN Z (qd Z (qe Z (zk ?_)))
    cases H
    exact ⟨U,.inl Z,U⟩
   ·refine fE h10 H fun H=>zl (zg (yf (ι:=Bool) (fun i=>[(1,.ptr 1 0),(40,.dat (zj i))]) (fun i=>[(1,.box none 28 [.dat (vint r1.At),.dat (vstr r1.Method),.dat (vstr r1.Host),.dat (vstr r1.Path),.dat (vstr r1.Query),.dat (vstr r1.From),.dat (vlst (List.map zq r1.Headers)),.dat (vstr r1.Body)])]) (fun i=>Qz r1 i=some r) (fun i=>Z) ?_ ?_))
    ·skip
     refine zu hN Z (za (zp z25 Z) (zo (zz tyS9 Z Z) Z (bE H fun r11 h12 H=>za (zm (x2p r1.Path r11 h12) ⟨.inl Z,U⟩) (za (yp Z) (qd Z (yi (j:=4) Z Z (fun h13 => ?_) (fun h13 => ?_) Z))))))
     ·refine u3 h13 H fun h14 H=>ze Z Z h13 (zp z24 Z) (ql Z Z h13 (zz tyS9 Z Z) Z (bE H fun r15 h16 H=>ze Z Z h13 (zm (x2o r1.Query r15 h16) ⟨.inl Z,U⟩) (ze Z Z h13 (yp Z) (za (zv Z (bFF h14) Z) (qd Z (yi (j:=10) Z Z (fun h17 => ?_) (fun h17 => ?_) Z))))))
      ·exact u3 h17 H fun h18 H=>ze Z Z h17 (zp z52 Z) (ql Z Z h17 (zz tyS9 Z Z) Z (bE H fun r19 h20 H=>ze Z Z h17 (zm (y45 r1.From r19 h20) ⟨.inl Z,U⟩) (ze Z Z h17 (yp Z) (za (zv Z (bFF h18) Z) ⟨!r19,H,⟨Z,Z,U⟩,⟨Z,U⟩⟩))))
      ·exact u4 h17 H fun h21 H=>zc Z Z h17 (zc Z Z h17 (zc Z Z h17 (zc Z Z h17 (za (yc Z (bTT h21) Z) ⟨true,H,⟨Z,Z,U⟩,⟨Z,U⟩⟩))))
     ·exact u4 h13 H fun h22 H=>zc Z Z h13 (zc Z Z h13 (zc Z Z h13 (zc Z Z h13 (za (yc Z (bTT h22) Z) (qd Z (zc Z Z Z (zc Z Z Z (zc Z Z Z (zc Z Z Z (za (yc Z Z Z) ⟨true,H,⟨Z,Z,U⟩,⟨Z,U⟩⟩))))))))))
    ·rintro v23 H
     replace H:Qz r1 v23=some r:=H
     unfold Qz at H
     refine zh _ Z (fun h24 => ?_) (fun h24 => ?_)
     ·refine tE h24 H fun H=>zb hN Z (qe Z (zk ?_))
      cases H
      exact ⟨U,.inl Z,U⟩
     ·refine fE h24 H fun H=>zl (zg (zb hN Z (za (zp vn Z) (zo (zz qg Z Z) Z (bE H fun r25 h26 H=>za (zm (y44 r1.Headers r25 h26) ⟨.inl Z,U⟩) (qe Z (zb hN Z (qd Z (za (qk Z Z) (zh _ Z (fun h27 => ?_) (fun h27 => ?_)))))))))))
      ·refine tE h27 H fun H=>zb hN Z (qd Z (qe Z (zk ?_)))
       cases H
       exact ⟨U,.inl Z,U⟩
      ·refine fE h27 H fun H=>zl (zg (zb hN Z (za (zp z50 Z) (zo (zz tyS9 Z Z) Z (za (qh tyU9 Z) (za (qv Z Z) (zh _ Z (fun h28 => ?_) (fun h28 => ?_))))))))
       ·refine tE h28 H fun H=>zb hN Z (qe Z (zk ?_))
        cases H
        exact ⟨U,.inl Z,U⟩
       ·refine fE h28 H fun H=>zl (zb hN Z (qe Z (zk ?_)))
        cases H
        exact ⟨U,.inl Z,U⟩
theorem y41 (a1:zx) (r:(Int)) (H:Qb a1=some r):Fn Tryz.prog 39 [vagg (vt a1)] (zw [vint r]):=by
 refine ⟨by kernel_rfl,yh (us:=[vint r]) Tryz.func39 Z Z Z Z fun X hN => ?_⟩
 unfold Qb at H
 refine zb hN Z (zi (qr 1 Z) Z (qe Z (zg (zb hN Z (za (zp xz Z) (zo (zz tyS3 Z Z) Z (bE H fun r2 h3 H=>za (zm (Qk a1.Status 100 599 r2 h3) ⟨.inl Z,.inl Z,.inl Z,U⟩) (za (yp Z) (zh _ Z (fun h4 => ?_) (fun h4 => ?_))))))))))
 ·refine tE h4 H fun H=>zb hN Z (qe Z (zk ?_))
  cases H
  exact ⟨U,.inl Z,U⟩
 ·refine fE h4 H fun H=>zl (zg (zb hN Z (za (zp wx Z) (zo (zz qg Z Z) Z (bE H fun r5 h6 H=>za (zm (y44 a1.Headers r5 h6) ⟨.inl Z,U⟩) (qe Z (zb hN Z (qd Z (za (qk Z Z) (zh _ Z (fun h7 => ?_) (fun h7 => ?_)))))))))))
  ·refine tE h7 H fun H=>zb hN Z (qd Z (qe Z (zk ?_)))
   cases H
   exact ⟨U,.inl Z,U⟩
  ·refine fE h7 H fun H=>zl (zg (zb hN Z (za (zp z5z Z) (zo (zz tyS9 Z Z) Z (za (qh tyU9 Z) (za (qv Z Z) (zh _ Z (fun h8 => ?_) (fun h8 => ?_))))))))
   ·refine tE h8 H fun H=>zb hN Z (qe Z (zk ?_))
    cases H
    exact ⟨U,.inl Z,U⟩
   ·refine fE h8 H fun H=>zl (zb hN Z (qe Z (zk ?_)))
    cases H
    exact ⟨U,.inl Z,U⟩
theorem z7p (a1:Bs) (b2:Bs) (r:(Bool)) (H:xl a1 b2=some r):Fn Tryz.prog 52 [vstr a1,vstr b2] (zw [zj r]):=by
 refine ⟨by kernel_rfl,yh (us:=[zj r]) Tryz.func52 Z Z Z Z fun X hN => ?_⟩
 unfold xl at H
 refine zb hN Z (qe Z (zb hN Z (qd Z (bE H fun r3 h4 H=>za (zm (z1u a1 r3 h4) ⟨.inl Z,U⟩) (qd Z (bE H fun r5 h6 H=>za (zm (z1u b2 r5 h6) ⟨.inl Z,U⟩) (za (vo Z Z) (qe Z (zk ?_)))))))))
 cases H
 exact ⟨U,.inl Z,U⟩
theorem y0g (l1:(List zd)) (name2:Bs) (r:((List Bs))) (H:uo l1 name2=some r):Fn Tryz.prog 50 [vlst (List.map zq l1),vstr name2] (zw [vlst (List.map zt r)]):=by
 refine ⟨by kernel_rfl,yh (us:=[vlst (List.map zt r)]) Tryz.func50 Z Z Z Z fun X hN => ?_⟩
 unfold uo at H
 refine zb hN Z (qe Z (zb hN Z (qe Z (zg (zb hN Z (qd Z (za (yz vm Z) (qd Z (yg (kl 5 1 9 1 Z Z Z (gE H fun h6 H=>qw (fun (k4:Nat) (s:(List Bs))=>[(1,.dat (vstr name2)),(5,.row 1 s.length),(8,.dat (vlst (List.map zq l1))),(9,.dat (vint (l1.length:Int))),(10,.dat (vint (k4:Int)))]) (fun (k4:Nat) (s:(List Bs))=>[(1,.row 9 1 (List.map zt s))]) [] H ⟨Z,Z,Z,Z,Z,U⟩ ⟨Z,U⟩ (fun _ _=>Z) ?_ ?_)))))))))))
 ·rintro l3 H
  replace H:z74 l3=some r:=H
  unfold z74 at H
  refine zb hN Z (za (ye Z Z) (zg (zh _ Z (fun h=>(lt_t h).elim) (fun h => ?_))))
  refine qc (zb hN Z (za (zf (.row _ _) Z) (za (qi (.row _ _) Z) (zk ?_))))
  cases H
  exact ⟨U,ud Z Z,U⟩
 ·rintro k4 x7 l3 q5 h8 h9 H hq5
  replace H:Qv name2 k4 x7 l3=some q5:=H
  unfold Qv at H
  refine zb hN Z (za (ye Z Z) (zg (zh _ Z (fun h => ?_) (fun h=>(lt_f h8 h).elim))))
  refine zl (yf (ι:=(List Bs)) (fun i=>[(1,.dat (vstr name2)),(5,.row 1 i.length),(8,.dat (vlst (List.map zq l1))),(9,.dat (vint (l1.length:Int))),(10,.dat (vint (k4:Int)))]) (fun i=>[(1,.row 9 1 (List.map zt i))]) (fun i=>z16 i=some q5) (fun i=>Z) ?_ ?_)
  ·skip
   refine yg (zb hN Z (za (wd je (fun _=>Z) Z Z h9) (za (uj wq Z (qa h9) Z) (zi (qz 2 vk Z) Z (zi (yu wq Z Z Z Z) Z (zb hN Z (za (zp kq Z) (zo (zz tyS9 Z Z) Z (qd Z (bE H fun r10 h11 H=>za (zm (z7p x7.Name name2 r10 h11) ⟨.inl Z,.inl Z,U⟩) (zh _ Z (fun h12 => ?_) (fun h12 => ?_))))))))))))
   ·refine tE h12 H fun H=>zu hN Z (za (zf (.row _ _) Z) (za (zp z0n Z) (zo (zz tyS9 Z Z) Z (za (yd (u':=vlst (List.map zt [x7.Value])) (yl [[_]] yr ⟨Z,.inl ⟨_,Z,Z,Z⟩,Z,U⟩ Z Z) Z) (gE H fun h13 H=>zi (vu yr (fun _=>Z) Z Z Z ⟨by simp,by first | (simp; done) | simpa using h13⟩ Z) Z ?_)))))
    exact za (qi (.row _ _) Z) ⟨(l3++[x7.Value]),H,⟨Z,Z,Z,Z,Z,U⟩,⟨Z,U⟩⟩
   ·exact fE h12 H fun H=>zl ⟨l3,H,⟨Z,Z,Z,Z,Z,U⟩,⟨Z,U⟩⟩
  ·rintro out14 H
   replace H:z16 out14=some q5:=H
   unfold z16 at H
   exact zu hN Z (za (qs Z Z (by omega)) (qd Z ⟨_,qj H,⟨Z,Z,Z,Z,Z,U⟩,⟨Z,U⟩⟩))
theorem x2q (values1:(List Bs)) (r:((List Bs))) (H:z3x values1=some r):Fn Tryz.prog 84 [vlst (List.map zt values1)] (zw [vlst (List.map zt r)]):=by
 refine ⟨by kernel_rfl,yh (us:=[vlst (List.map zt r)]) Tryz.func84 Z Z Z Z fun X hN => ?_⟩
 unfold z3x at H
 refine zb hN Z (qe Z (zb hN Z (qe Z (zg (zb hN Z (qd Z (bE H fun r2 h3 H=>za (zm (z95 values1 [44] r2 h3) ⟨.inl Z,.inl Z,U⟩) (bE H fun r4 h5 H=>za (zm (z4m r2 [44] r4 h5) ⟨.inl Z,.inl Z,U⟩) (za (yz we Z) (qd Z (yg (kl 3 1 9 1 Z Z Z (gE H fun h9 H=>qw (fun (k7:Nat) (s:(List Bs))=>[(3,.row 1 s.length),(8,.dat (vlst (List.map zt r4))),(9,.dat (vint (r4.length:Int))),(10,.dat (vint (k7:Int)))]) (fun (k7:Nat) (s:(List Bs))=>[(1,.row 9 1 (List.map zt s))]) [] H ⟨Z,Z,Z,Z,U⟩ ⟨Z,U⟩ (fun _ _=>Z) ?_ ?_)))))))))))))
 ·rintro l6 H
  replace H:z71 l6=some r:=H
  unfold z71 at H
  refine zb hN Z (za (ye Z Z) (zg (zh _ Z (fun h=>(lt_t h).elim) (fun h => ?_))))
  refine qc (zb hN Z (za (zf (.row _ _) Z) (za (qi (.row _ _) Z) (zk ?_))))
  cases H
  exact ⟨U,ud Z Z,U⟩
 ·rintro k7 x10 l6 q8 h11 h12 H hq8
  replace H:Qt k7 x10 l6=some q8:=H
  unfold Qt at H
  refine zb hN Z (za (ye Z Z) (zg (zh _ Z (fun h => ?_) (fun h=>(lt_f h11 h).elim))))
  refine zl (yf (ι:=(List Bs)) (fun i=>[(3,.row 1 i.length),(8,.dat (vlst (List.map zt r4))),(9,.dat (vint (r4.length:Int))),(10,.dat (vint (k7:Int)))]) (fun i=>[(1,.row 9 1 (List.map zt i))]) (fun i=>z14 i=some q8) (fun i=>Z) ?_ ?_)
  ·skip
   refine yg (zb hN Z (za (wd wy (fun _=>Z) Z Z h12) (za (qo tyS9 Z (qa h12) Z) (qe Z (zb hN Z (qd Z (bE H fun r13 h14 H=>za (zm (z1t x10 [32] r13 h14) ⟨.inl Z,.inl Z,U⟩) (qe Z (zb hN Z (qd Z (za (ux Z Z) (zh _ Z (fun h15 => ?_) (fun h15 => ?_)))))))))))))
   ·refine tE h15 H fun H=>zu hN Z (za (zf (.row _ _) Z) (qd Z (za (yd (u':=vlst (List.map zt [r13])) (yl [[_]] yr ⟨Z,.inl ⟨_,Z,Z,Z⟩,Z,U⟩ Z Z) Z) (gE H fun h16 H=>zi (vu yr (fun _=>Z) Z Z Z ⟨by simp,by first | (simp; done) | simpa using h16⟩ Z) Z ?_))))
    exact za (qi (.row _ _) Z) ⟨(l6++[r13]),H,⟨Z,Z,Z,Z,U⟩,⟨Z,U⟩⟩
   ·exact fE h15 H fun H=>zl ⟨l6,H,⟨Z,Z,Z,Z,U⟩,⟨Z,U⟩⟩
  ·rintro out17 H
   replace H:z14 out17=some q8:=H
   unfold z14 at H
   exact zu hN Z (za (qs Z Z (by omega)) (qd Z ⟨_,qj H,⟨Z,Z,Z,Z,U⟩,⟨Z,U⟩⟩))
theorem x2s (a1:zx) (r:((List Bs)×Bool×Int)) (H:z3y a1=some r):Fn Tryz.prog 42 [vagg (vt a1)] (zw [vlst (List.map zt r.1),zj r.2.1,vint r.2.2]):=by
 refine ⟨by kernel_rfl,yh (us:=[vlst (List.map zt r.1),zj r.2.1,vint r.2.2]) Tryz.func42 Z Z Z Z fun X hN => ?_⟩
 unfold z3y at H
 refine zb hN Z (zi (qr 1 Z) Z (qe Z (qe Z (qe Z (zb hN Z (qe Z (zb hN Z (qe Z (zg (zb hN Z (za (zp wx Z) (zo (zz qg Z Z) Z (bE H fun r2 h3 H=>za (zm (y0g a1.Headers [118,97,114,121] r2 h3) ⟨.inl Z,.inl Z,U⟩) (bE H fun r4 h5 H=>za (zm (x2q r2 r4 h5) ⟨.inl Z,U⟩) (za (yz we Z) (qd Z (yg (kl 5 2 9 1 Z Z Z (gE H fun h10 H=>qw (fun (k8:Nat) (s:Bool×(List Bs))=>[(5,.row 2 s.2.length),(6,.dat (zj s.1)),(12,.dat (vlst (List.map zt r4))),(13,.dat (vint (r4.length:Int))),(14,.dat (vint (k8:Int)))]) (fun (k8:Nat) (s:Bool×(List Bs))=>[(2,.row 9 1 (List.map zt s.2))]) (false,[]) H ⟨Z,Z,Z,Z,Z,U⟩ ⟨Z,U⟩ (fun _ _=>Z) ?_ ?_)))))))))))))))))))
 ·rintro ⟨all6,l7⟩ H
  replace H:z15 all6 l7=some r:=H
  unfold z15 at H
  refine zb hN Z (za (ye Z Z) (zg (zh _ Z (fun h=>(lt_t h).elim) (fun h => ?_))))
  refine qc (zg (zb hN Z (qd Z (zh _ Z (fun h12 => ?_) (fun h12 => ?_)))))
  ·refine tE h12 H fun H=>zb hN Z (qe Z (qe Z (qe Z (zk ?_))))
   cases H
   exact ⟨U,.inr ⟨Z,Z⟩,.inl Z,.inl Z,U⟩
  ·refine fE h12 H fun H=>zl (zb hN Z (za (zf (.row _ _) Z) (bE H fun r13 h14 H=>vz (rn [(0,2)]) [(0,_,_,some _)] [] (z90 l7 r13 h14) ⟨Z,U⟩ ⟨.inl (.inl Z),U⟩ ⟨⟨⟨Z,Z,Z⟩,by simp [Yi,Yj h14]⟩,U⟩ Z ?_)))
   refine zb hN Z (za (zf (.row _ _) Z) (bE H fun r15 h16 H=>vz (rn [(0,2),(900,3)]) [(0,_,_,none)] [(900,_)] (z92 r13 r15 h16) ⟨Z,Z,U⟩ ⟨.inl (.inl (congrArg (Slot.row 2) (Yj h14).symm)),U⟩ ⟨⟨⟨Z,Z,Z⟩,U⟩,U⟩ Z (za (qi (.row _ _) Z) (zg (zb hN Z (za (zf (.row _ _) Z) (zo (Ye we Z Z) Z (za (qv Z Z) (zh _ Z (fun h17 => ?_) (fun h17 => ?_))))))))))
   ·refine tE h17 H fun H=>zb hN Z (qe Z (qe Z (qe Z (zk ?_))))
    cases H
    exact ⟨U,.inr ⟨Z,Z⟩,.inl Z,.inl Z,U⟩
   ·refine fE h17 H fun H=>zl (zb hN Z (za (zf (.row _ _) Z) (za (qi (.row _ _) Z) (qe Z (qe Z (zk ?_))))))
    cases H
    exact ⟨U,ud Z Z,.inl Z,.inl Z,U⟩
 ·rintro k8 x11 ⟨all6,l7⟩ q9 h18 h19 H hq9
  replace H:Qu k8 x11 all6 l7=some q9:=H
  unfold Qu at H
  refine zb hN Z (za (ye Z Z) (zg (zh _ Z (fun h => ?_) (fun h=>(lt_f h18 h).elim))))
  refine zl (zg (yg (zb hN Z (za (wd wy (fun _=>Z) Z Z h19) (za (qo tyS9 Z (qa h19) Z) (qe Z (zg (zb hN Z (qd Z (bE H fun r20 h21 H=>za (zm (y0h x11 r20 h21) ⟨.inl Z,U⟩) (za (yp Z) (zh _ Z (fun h22 => ?_) (fun h22 => ?_)))))))))))))
  ·refine tE h22 H fun H=>zb hN Z (qe Z (qe Z (qe Z (zk ?_))))
   replace H:=retl H hq9
   cases H
   exact ⟨U,.inr ⟨Z,Z⟩,.inl Z,.inl Z,U⟩
  ·refine fE h22 H fun H=>zl (zb hN Z (qd Z (qd Z (wj Z Z (fun hc=>zf (.dat _) Z) (wj Z Z (fun hc=>vo (cnd (c:=(!all6)) hc) Z) (za (ki Z Z (fun hb=>(cnd (c:=(!all6)) (notI hb)))) (qe Z (zu hN Z (za (zf (.row _ _) Z) (qd Z (bE H fun r23 h24 H=>za (zm (z1u x11 r23 h24) ⟨.inl Z,U⟩) (za (yd (u':=vlst (List.map zt [r23])) (yl [[_]] yr ⟨Z,.inl ⟨_,Z,Z,Z⟩,Z,U⟩ Z Z) Z) (gE H fun h25 H=>zi (vu yr (fun _=>Z) Z Z Z ⟨by simp,by first | (simp; done) | simpa using h25⟩ Z) Z ?_)))))))))))))
   exact za (qi (.row _ _) Z) (zu hN Z (za (qs Z Z (by omega)) (qd Z ⟨_,qj H,⟨Z,Z,Z,Z,Z,U⟩,⟨Z,U⟩⟩)))
theorem y43 (s1:Bs) (r:(Bool)) (H:Qe s1=some r):Fn Tryz.prog 41 [vstr s1] (zw [zj r]):=by
 refine ⟨by kernel_rfl,yh (us:=[zj r]) Tryz.func41 Z Z Z Z fun X hN => ?_⟩
 unfold Qe at H
 refine zb hN Z (qe Z (yf (ι:=Bool) (fun i=>[(2,.dat (zj i))]) (fun i=>[]) (fun i=>Wb i=some r) (fun i=>Z) ?_ ?_))
 ·skip
  refine zu hN Z (qd Z (za (qh tyU9 Z) (bE H fun r2 h3 H=>za (zm (Qk (s1.length:Int) 1 40 r2 h3) ⟨.inl Z,.inl Z,.inl Z,U⟩) (qd Z (yi (j:=3) Z Z (fun h4 => ?_) (fun h4 => ?_) Z)))))
  ·refine u1 h4 H fun h5 H=>ze Z Z h4 (zf (.dat _) Z) (bE H fun l6 h7 H=>ze Z Z h4 (jf tyU9 Z Z Z h7) (bE H fun r8 h9 H=>ze Z Z h4 (zm (z4o l6 [97,98,99,100,101,102,103,104,105,106,107,108,109,110,111,112,113,114,115,116,117,118,119,120,121,122] r8 h9) ⟨.inl Z,.inl Z,U⟩) (za (yc Z (bTT h5) Z) (qd Z (yi (j:=8) Z Z (fun h10 => ?_) (fun h10 => ?_) Z)))))
   ·exact u1 h10 H fun h11 H=>ze Z Z h10 (zf (.dat _) Z) (bE H fun r12 h13 H=>ze Z Z h10 (zm (z4o s1 [97,98,99,100,101,102,103,104,105,106,107,108,109,110,111,112,113,114,115,116,117,118,119,120,121,122,48,49,50,51,52,53,54,55,56,57,45,95] r12 h13) ⟨.inl Z,.inl Z,U⟩) (za (yc Z (bTT h11) Z) (qe Z ⟨r12,H,⟨Z,U⟩,U⟩)))
   ·exact u2 h10 H fun h14 H=>zc Z Z h10 (zc Z Z h10 (za (zv Z (bFF h14) Z) (qe Z ⟨false,H,⟨Z,U⟩,U⟩)))
  ·exact u2 h4 H fun h15 H=>zc Z Z h4 (zc Z Z h4 (zc Z Z h4 (za (zv Z (bFF h15) Z) (qd Z (zc Z Z Z (zc Z Z Z (za (zv Z Z Z) (qe Z ⟨false,H,⟨Z,U⟩,U⟩))))))))
 ·rintro v16 H
  replace H:Wb v16=some r:=H
  unfold Wb at H
  refine zk ?_
  cases H
  exact ⟨U,.inl Z,U⟩
theorem y0i (v1:zy) (r:(Int)) (H:Qf v1=some r):Fn Tryz.prog 13 [vagg (yy v1)] (zw [vint r]):=by
 refine ⟨by kernel_rfl,yh (us:=[vint r]) Tryz.func13 Z Z Z Z fun X hN => ?_⟩
 unfold Qf at H
 refine zb hN Z (zi (qr 1 Z) Z (qe Z (zg (zg (vr mixed hN Z Z (za (zp Yd Z) (zo (yk qp Z Z Z) Z (bE H fun r2 h3 H=>za (zm (y42 v1.Request r2 h3) ⟨.inl Z,U⟩) (za (zp vy Z) (zo (yk wi Z Z Z) Z (bE H fun r4 h5 H=>za (zm (y41 v1.Response r4 h5) ⟨.inl Z,U⟩) (za (yd (u':=vlst (List.map z5m [r2,r4])) (yl [[_],[_]] y15 ⟨Z,.inl ⟨_,Z,Z,Z⟩,Z,Z,.inl ⟨_,Z,Z,Z⟩,Z,U⟩ Z Z) Z) (za (yz y11 Z) (qd Z ⟨Z,?_⟩))))))))))))))
 refine yg (gE H fun h8 H=>qw (fun (k6:Nat) (s:Unit)=>[(1,.ptr 1 0),(16,.dat (vlst (List.map z5m [r2,r4]))),(17,.dat (vint ([r2,r4].length:Int))),(18,.dat (vint (k6:Int)))]) (fun (k6:Nat) (s:Unit)=>[(1,.box none 33 [.dat (vint v1.Request.At),.dat (vstr v1.Request.Method),.dat (vstr v1.Request.Host),.dat (vstr v1.Request.Path),.dat (vstr v1.Request.Query),.dat (vstr v1.Request.From),.dat (vlst (List.map zq v1.Request.Headers)),.dat (vstr v1.Request.Body),.dat (vint v1.Response.Status),.dat (vlst (List.map zq v1.Response.Headers)),.dat (vstr v1.Response.Body),.dat (vint v1.At),.dat (vlst (List.map zt v1.Tags)),.dat (vint v1.Used)])]) () H ⟨Z,Z,Z,Z,U⟩ ⟨Z,U⟩ (fun _ _=>Z) ?_ ?_)
 ·rintro ⟨⟩ H
  replace H:z2f v1=some r:=H
  unfold z2f at H
  refine zb hN Z (za (ye Z Z) (zg (zh _ Z (fun h=>(lt_t h).elim) (fun h => ?_))))
  refine qc (zg (yg (yf (ι:=Bool) (fun i=>[(1,.ptr 1 0),(26,.dat (zj i))]) (fun i=>[(1,.box none 33 [.dat (vint v1.Request.At),.dat (vstr v1.Request.Method),.dat (vstr v1.Request.Host),.dat (vstr v1.Request.Path),.dat (vstr v1.Request.Query),.dat (vstr v1.Request.From),.dat (vlst (List.map zq v1.Request.Headers)),.dat (vstr v1.Request.Body),.dat (vint v1.Response.Status),.dat (vlst (List.map zq v1.Response.Headers)),.dat (vstr v1.Response.Body),.dat (vint v1.At),.dat (vlst (List.map zt v1.Tags)),.dat (vint v1.Used)])]) (fun i=>Zx v1 i=some r) (fun i=>Z) ?_ ?_)))
  ·skip
   refine zu hN Z (za (zp ub Z) (zo (zz tyS3 Z Z) Z (bE H fun r10 h11 H=>za (zm (z7q v1.At r10 h11) ⟨.inl Z,U⟩) (za (yp Z) (qd Z (yi (j:=4) Z Z (fun h12 => ?_) (fun h12 => ?_) Z))))))
   ·exact u3 h12 H fun h13 H=>ze Z Z h12 (zp xy Z) (ql Z Z h12 (zz tyS3 Z Z) Z (bE H fun r14 h15 H=>ze Z Z h12 (zm (z7q v1.Used r14 h15) ⟨.inl Z,U⟩) (ze Z Z h12 (yp Z) (za (zv Z (bFF h13) Z) (qe Z ⟨!r14,H,⟨Z,Z,U⟩,⟨Z,U⟩⟩)))))
   ·exact u4 h12 H fun h16 H=>zc Z Z h12 (zc Z Z h12 (zc Z Z h12 (zc Z Z h12 (za (yc Z (bTT h16) Z) (qe Z ⟨true,H,⟨Z,Z,U⟩,⟨Z,U⟩⟩)))))
  ·rintro v17 H
   replace H:Zx v1 v17=some r:=H
   unfold Zx at H
   refine zh _ Z (fun h18 => ?_) (fun h18 => ?_)
   ·refine tE h18 H fun H=>zb hN Z (qe Z (zk ?_))
    cases H
    exact ⟨U,.inl Z,U⟩
   ·refine fE h18 H fun H=>zb hN Z (za (zp kh Z) (zo (zz jn Z Z) Z (za (yz we Z) (za (qv Z Z) (qe Z (zh _ Z (fun h19 => ?_) (fun h19 => ?_)))))))
    ·refine tE h19 H fun H=>zb hN Z (qe Z (zk ?_))
     cases H
     exact ⟨U,.inl Z,U⟩
    ·refine fE h19 H fun H=>zl (zg (zb hN Z (za (zp kh Z) (zo (zz jn Z Z) Z (za (yz we Z) (qd Z (yg (gE H fun h22 H=>qw (fun (k20:Nat) (s:Unit)=>[(1,.ptr 1 0),(43,.dat (vlst (List.map zt v1.Tags))),(44,.dat (vint (v1.Tags.length:Int))),(45,.dat (vint (k20:Int)))]) (fun (k20:Nat) (s:Unit)=>[(1,.box none 33 [.dat (vint v1.Request.At),.dat (vstr v1.Request.Method),.dat (vstr v1.Request.Host),.dat (vstr v1.Request.Path),.dat (vstr v1.Request.Query),.dat (vstr v1.Request.From),.dat (vlst (List.map zq v1.Request.Headers)),.dat (vstr v1.Request.Body),.dat (vint v1.Response.Status),.dat (vlst (List.map zq v1.Response.Headers)),.dat (vstr v1.Response.Body),.dat (vint v1.At),.dat (vlst (List.map zt v1.Tags)),.dat (vint v1.Used)])]) () H ⟨Z,Z,Z,Z,U⟩ ⟨Z,U⟩ (fun _ _=>Z) ?_ ?_))))))))
     ·rintro ⟨⟩ H
      replace H:z2e v1=some r:=H
      unfold z2e at H
      refine zb hN Z (za (ye Z Z) (zg (zh _ Z (fun h=>(lt_t h).elim) (fun h => ?_))))
      refine qc (zb hN Z (za (zp vy Z) (zo (yk wi Z Z Z) Z (bE H fun r24 h25 H=>za (zm (x2s v1.Response r24 h25) ⟨.inl Z,U⟩) (qd Z (za (ym Z Z) (za (ym Z Z) (za (ym Z Z) (qe Z (qe Z (qe Z (zb hN Z (qd Z (qe Z (zk ?_)))))))))))))))
      cases H
      exact ⟨U,.inl Z,U⟩
     ·rintro k20 x23 ⟨⟩ q21 h26 h27 H hq21
      replace H:z2c v1 k20 x23=some q21:=H
      unfold z2c at H
      refine zb hN Z (za (ye Z Z) (zg (zh _ Z (fun h => ?_) (fun h=>(lt_f h26 h).elim))))
      refine zl (zg (yg (zb hN Z (qd Z (za (wd wy (fun _=>Z) Z Z h27) (za (qo tyS9 Z (qa h27) Z) (qe Z (qe Z (zg (zb hN Z (qd Z (bE H fun r28 h29 H=>za (zm (y43 x23 r28 h29) ⟨.inl Z,U⟩) (za (yp Z) (zh _ Z (fun h30 => ?_) (fun h30 => ?_)))))))))))))))
      ·refine tE h30 H fun H=>zb hN Z (qe Z (zk ?_))
       replace H:=retl H hq21
       cases H
       exact ⟨U,.inl Z,U⟩
      ·refine fE h30 H fun H=>zl (yf (ι:=Bool) (fun i=>[(1,.ptr 1 0),(43,.dat (vlst (List.map zt v1.Tags))),(44,.dat (vint (v1.Tags.length:Int))),(45,.dat (vint (k20:Int))),(64,.dat (zj i))]) (fun i=>[(1,.box none 33 [.dat (vint v1.Request.At),.dat (vstr v1.Request.Method),.dat (vstr v1.Request.Host),.dat (vstr v1.Request.Path),.dat (vstr v1.Request.Query),.dat (vstr v1.Request.From),.dat (vlst (List.map zq v1.Request.Headers)),.dat (vstr v1.Request.Body),.dat (vint v1.Response.Status),.dat (vlst (List.map zq v1.Response.Headers)),.dat (vstr v1.Response.Body),.dat (vint v1.At),.dat (vlst (List.map zt v1.Tags)),.dat (vint v1.Used)])]) (fun i=>z2d i=some q21) (fun i=>Z) ?_ ?_)
       ·skip
        refine zu hN Z (qd Z (za (qv Z Z) (qd Z (yi (j:=2) Z Z (fun h31 => ?_) (fun h31 => ?_) Z))))
        ·exact u1 h31 H fun h32 H=>ze Z Z h31 (zf (.dat _) Z) (ze Z Z h31 (zp kh Z) (ql Z Z h31 (zz jn Z Z) Z (ze Z Z h31 (zf (.dat _) Z) (ze Z Z h31 (y2l Z Z (by omega)) (bE H fun x33 h34 H=>ze Z Z h31 (kr wy (fun _=>Z) Z Z h34) (ze Z Z h31 (qo tyS9 Z (qa (jj h34).2) Z) (ze Z Z h31 (y2m Z Z) (za (yc Z (bTT h32) Z) ⟨(Op.bytesLess x23 x33 || x23 == x33),H,⟨Z,Z,Z,Z,Z,U⟩,⟨Z,U⟩⟩))))))))
        ·exact u2 h31 H fun h35 H=>zc Z Z h31 (zc Z Z h31 (zc Z Z h31 (zc Z Z h31 (zc Z Z h31 (zc Z Z h31 (zc Z Z h31 (zc Z Z h31 (za (zv Z (bFF h35) Z) ⟨false,H,⟨Z,Z,Z,Z,Z,U⟩,⟨Z,U⟩⟩))))))))
       ·rintro v36 H
        replace H:z2d v36=some q21:=H
        unfold z2d at H
        refine zh _ Z (fun h37 => ?_) (fun h37 => ?_)
        ·refine tE h37 H fun H=>zb hN Z (qe Z (zk ?_))
         replace H:=retl H hq21
         cases H
         exact ⟨U,.inl Z,U⟩
        ·exact fE h37 H fun H=>zl (zu hN Z (za (qs Z Z (by omega)) (qd Z ⟨_,qj H,⟨Z,Z,Z,Z,U⟩,⟨Z,U⟩⟩)))
 ·rintro k6 x9 ⟨⟩ q7 h38 h39 H hq7
  replace H:z5g k6 x9=some q7:=H
  unfold z5g at H
  refine zb hN Z (za (ye Z Z) (zg (zh _ Z (fun h => ?_) (fun h=>(lt_f h38 h).elim))))
  refine zl (zg (yg (zb hN Z (za (wd y19 (fun _=>Z) Z Z h39) (za (qo y12 Z (qa h39) Z) (qe Z (zb hN Z (qd Z (za (qk Z Z) (zh _ Z (fun h40 => ?_) (fun h40 => ?_)))))))))))
  ·refine tE h40 H fun H=>zb hN Z (qd Z (qe Z (zk ?_)))
   replace H:=retl H hq7
   cases H
   exact ⟨U,.inl Z,U⟩
  ·exact fE h40 H fun H=>zl (zu hN Z (za (qs Z Z (by omega)) (qd Z ⟨_,qj H,⟨Z,Z,Z,Z,U⟩,⟨Z,U⟩⟩)))
theorem x3g (l1:(List Int)) (r:(Int)) (H:z4c l1=some r):Fn Tryz.prog 12 [vlst (List.map z5m l1)] (zw [vint r]):=by
 refine ⟨by kernel_rfl,yh (us:=[vint r]) Tryz.func12 Z Z Z Z fun X hN => ?_⟩
 unfold z4c at H
 refine zb hN Z (qe Z (zg (zb hN Z (qd Z (za (yz y11 Z) (qd Z (yg (gE H fun h4 H=>qw (fun (k2:Nat) (s:Unit)=>[(5,.dat (vlst (List.map z5m l1))),(6,.dat (vint (l1.length:Int))),(7,.dat (vint (k2:Int)))]) (fun (k2:Nat) (s:Unit)=>[]) () H ⟨Z,Z,Z,U⟩ U (fun _ _=>Z) ?_ ?_))))))))
 ·rintro ⟨⟩ H
  replace H:z8a=some r:=H
  unfold z8a at H
  refine zb hN Z (za (ye Z Z) (zg (zh _ Z (fun h=>(lt_t h).elim) (fun h => ?_))))
  refine qc (zb hN Z (qe Z (zk ?_)))
  cases H
  exact ⟨U,.inl Z,U⟩
 ·rintro k2 x5 ⟨⟩ q3 h6 h7 H hq3
  replace H:Wv k2 x5=some q3:=H
  unfold Wv at H
  refine zb hN Z (za (ye Z Z) (zg (zh _ Z (fun h => ?_) (fun h=>(lt_f h6 h).elim))))
  refine zl (zg (yg (zb hN Z (za (wd y19 (fun _=>Z) Z Z h7) (za (qo y12 Z (qa h7) Z) (qe Z (zb hN Z (qd Z (za (qk Z Z) (zh _ Z (fun h8 => ?_) (fun h8 => ?_)))))))))))
  ·refine tE h8 H fun H=>zb hN Z (qd Z (qe Z (zk ?_)))
   replace H:=retl H hq3
   cases H
   exact ⟨U,.inl Z,U⟩
  ·exact fE h8 H fun H=>zl (zu hN Z (za (qs Z Z (by omega)) (qd Z ⟨_,qj H,⟨Z,Z,Z,U⟩,U⟩)))
theorem y4z (h1:zd) (c2:Bs) (r:(Bool)) (H:Zn h1 c2=some r):Fn Tryz.prog 96 [vagg (zq h1),vi [[vstr c2]] 0 0] (zw [zj r]):=by
 refine ⟨by kernel_rfl,yh (us:=[zj r]) Tryz.func96 Z Z Z Z fun X hN => ?_⟩
 unfold Zn at H
 refine zb hN Z (zi (qr 1 Z) Z (qe Z (zb hN Z (za (zp kq Z) (zo (zz tyS9 Z Z) Z (za (qo tyS9 Z Z Z) (bE H fun r3 h4 H=>za (zm (z7p h1.Name c2 r3 h4) ⟨.inl Z,.inl Z,U⟩) (qe Z (zk ?_)))))))))
 cases H
 exact ⟨U,.inl Z,U⟩
theorem x2r (l1:(List zd)) (name2:Bs) (r:((List zd))) (H:un l1 name2=some r):Fn Tryz.prog 49 [vlst (List.map zq l1),vstr name2] (zw [vlst (List.map zq r)]):=by
 refine ⟨by kernel_rfl,yh (us:=[vlst (List.map zq r)]) Tryz.func49 Z Z Z Z fun X hN => ?_⟩
 unfold un at H
 refine zb hN Z (zi (z6f 1 Z Z) Z (qe Z (zg (z8k 1 [vstr name2] Z Z (zu hN Z (qd Z (bE H fun r3 h4 H=>vz (rn [(900,2)]) [] [(900,_)] (z1o l1 r3 h4) ⟨Z,U⟩ ⟨.inl (.inl Z),U⟩ U Z (za (z3d (us:=[_]) ⟨Z,U⟩) (bE H fun r5 h6 H=>vz (rn [(0,2),(900,3)]) [(0,_,_,none)] [(900,_)] (z91 r3 (fun (a0:zd)=>Zn a0 name2) 96 [vi [[vstr name2]] 0 0] (fun a0 r h=>y4z a0 name2 r h) r5 h6) ⟨Z,Z,U⟩ ⟨.inl (.inl Z),.inl (.inl Z),U⟩ ⟨⟨⟨Z,Z,Z⟩,U⟩,U⟩ Z (za (qi (.row _ _) Z) (zk ?_)))))))))))
 cases H
 exact ⟨U,ud Z Z,U⟩
theorem x1h (l1:(List zd)) (name2:Bs) (r:((List zd))) (H:un l1 name2=some r):FnG Tryz.prog 49 [.dat (vlst (List.map zq l1)),.dat (vstr name2)] [] (.row 3 r.length) [(3,.row 57 2 (List.map zq r))]:=by
 refine Ya (by kernel_rfl) Tryz.func49 Z Z Z Z fun X A hN => ?_
 unfold un at H
 refine zb hN Z (zi (z6f 1 Z Z) Z (qe Z (zg (z8k 1 [vstr name2] Z Z (zu hN Z (qd Z (bE H fun r3 h4 H=>vz (rn [(900,2)]) [] [(900,_)] (z1o l1 r3 h4) ⟨Z,U⟩ ⟨.inl (.inl Z),U⟩ U Z (za (z3d (us:=[_]) ⟨Z,U⟩) (bE H fun r5 h6 H=>vz (rn [(0,2),(900,3)]) [(0,_,_,none)] [(900,_)] (z91 r3 (fun (a0:zd)=>Zn a0 name2) 96 [vi [[vstr name2]] 0 0] (fun a0 r h=>y4z a0 name2 r h) r5 h6) ⟨Z,Z,U⟩ ⟨.inl (.inl Z),.inl (.inl Z),U⟩ ⟨⟨⟨Z,Z,Z⟩,U⟩,U⟩ Z (za (qi (.row _ _) Z) (zk ?_)))))))))))
 cases H
 exact ⟨U,[(4,.row 3 _)],⟨Z,U⟩,⟨Z,U⟩,Z,.inr (.inl ⟨4,Z,Z⟩)⟩
theorem x2y (e1:zy) (r2:ya) (r:(ya×Int)) (H:z30 e1 r2=some r):Fn Tryz.prog 15 [vagg (yy e1),vagg (wl r2)] (zw [vagg (wl r.1),vint r.2]):=by
 refine ⟨by kernel_rfl,yh (us:=[vagg (wl r.1),vint r.2]) Tryz.func15 Z Z Z Z fun X hN => ?_⟩
 unfold z30 at H
 refine zb hN Z (zi (qr 1 Z) Z (zi (qr 2 Z) Z (zi (qz 3 js Z) Z (qe Z (zb hN Z (zo (yk qp Z Z Z) Z (zi (qz 4 js Z) Z (zi (yu qp Z Z Z Z) Z (zb hN Z (za (zp vn Z) (zo (zz qg Z Z) Z (bE H fun r3 h4 H=>vz (rn [(3,5)]) [] [(3,_)] (x1h r2.Headers [105,102,45,110,111,110,101,45,109,97,116,99,104] r3 h4) ⟨Z,U⟩ ⟨.inl (.inl Z),.inl (.inl Z),U⟩ U Z (za (zp vn Z) (Zb (Za qg Z Z (by rw [List.length_map]) Z) Z Z ?_))))))))))))))
 refine yf (ι:=(List zd)) (fun i=>[(4,.ptr 3 0),(6,.ptr 4 0)]) (fun i=>[(3,.box none 28 [.dat (vint 0),.dat (vstr []),.dat (vstr []),.dat (vstr []),.dat (vstr []),.dat (vstr []),.dat (vnil),.dat (vstr [])]),(4,.box none 28 [.dat (vint r2.At),.dat (vstr r2.Method),.dat (vstr r2.Host),.dat (vstr r2.Path),.dat (vstr r2.Query),.dat (vstr r2.From),.row 5 i.length,.dat (vstr r2.Body)]),(5,.row 57 2 (List.map zq i))]) (fun i=>Wa r2 i=some r) (fun i=>Z) ?_ ?_
 ·refine ke (zb hN Z (za (zp vy Z) (za (zp wx Z) (zo (zz qg Z Z) Z (bE H fun r5 h6 H=>za (zm (y0g e1.Response.Headers [101,116,97,103] r5 h6) ⟨.inl Z,.inl Z,U⟩) (qe Z (zb hN Z (qd Z (za (yz we Z) (za (qv Z Z) (zh _ Z (fun h7 => ?_) (fun h7 => ?_))))))))))))
  ·refine tE h7 H fun H=>vr mixed hN Z Z (za (zp vn Z) (zo (zz qg Z Z) Z (qd Z (bE H fun x8 h9 H=>za (wd wy (fun _=>Z) Z Z h9) (za (qo tyS9 Z (qa h9) Z) (za (yd (u':=vagg (zq (zd.mk [105,102,45,110,111,110,101,45,109,97,116,99,104] x8))) (qy [(0,[vstr [105,102,45,110,111,110,101,45,109,97,116,99,104]]),(1,[vstr x8])] vk ko Z ⟨Z,.inl ⟨_,Z,Z,Z⟩,Z,Z,.inl ⟨_,Z,Z,Z⟩,Z,U⟩) Z) (za (yd (u':=vlst (List.map zq [(zd.mk [105,102,45,110,111,110,101,45,109,97,116,99,104] x8)])) (yl [_] wm ⟨Z,.inr Z,Z,U⟩ Z Z) Z) (gE H fun h10 H=>zi (vu wm (fun _=>Z) Z Z Z ⟨by simp,by first | (simp; done) | simpa using h10⟩ Z) Z ?_))))))))
   refine za (zp vn Z) (Zb (Za qg Z Z (by rw [List.length_map]) Z) Z Z ?_)
   refine ⟨Z,?_⟩
   show Cv _ _ _ _
   exact kd ⟨(r3++([(zd.mk [105,102,45,110,111,110,101,45,109,97,116,99,104] x8)])),H,⟨Z,Z,U⟩,⟨Z,Z,Z,U⟩⟩
  ·refine fE h7 H fun H=>zl ?_
   show Cv _ _ _ _
   exact kd ⟨r3,H,⟨Z,Z,U⟩,⟨Z,Z,Z,U⟩⟩
 ·rintro l11 H
  replace H:Wa r2 l11=some r:=H
  unfold Wa at H
  refine zg (zb hN Z (za (zp vn Z) (zo (zz qg Z Z) Z (zo (Ye vm Z Z) Z (za (qv Z Z) (zh _ Z (fun h12 => ?_) (fun h12 => ?_)))))))
  ·refine tE h12 H fun H=>zb hN Z (za (ja (u':=vagg (wl (ya.mk 0 [] [] [] [] [] [] []))) (jd (by exact ⟨zr,zr,zr,zr,zr,zr,qf,zr,U⟩)) (qy [] js z23 Z U)) ?_)
   refine zi (yu qp Z Z Z Z) Z (qe Z (zk ?_))
   cases H
   exact ⟨U,.inl ⟨_,_,_,wl (ya.mk 0 [] [] [] [] [] [] []),Z,Z,Z,Z,qp⟩,.inl Z,U⟩
  ·refine fE h12 H fun H=>zl (zg (z8j 4 6 5 rfl rfl rfl (by first | rw [List.length_map] | rfl) ?_))
   refine zu hN Z (zo (yk qp Z Z Z) Z (zi (yu qp Z Z Z Z) Z (qe Z (zk ?_))))
   cases H
   exact ⟨U,.inl ⟨_,_,_,wl (ya.mk r2.At r2.Method r2.Host r2.Path r2.Query r2.From l11 r2.Body),Z,Z,Z,Z,qp⟩,.inl Z,U⟩
theorem x2u (h1:zd) (c2:Bs) (r:(Bool)) (H:Qa h1 c2=some r):Fn Tryz.prog 98 [vagg (zq h1),vi [[vstr c2]] 0 0] (zw [zj r]):=by
 refine ⟨by kernel_rfl,yh (us:=[zj r]) Tryz.func98 Z Z Z Z fun X hN => ?_⟩
 unfold Qa at H
 refine zb hN Z (zi (qr 1 Z) Z (qe Z (zb hN Z (za (zp kq Z) (zo (zz tyS9 Z Z) Z (za (qo tyS9 Z Z Z) (bE H fun r3 h4 H=>za (zm (z7p h1.Name c2 r3 h4) ⟨.inl Z,.inl Z,U⟩) (qe Z (zk ?_)))))))))
 cases H
 exact ⟨U,.inl Z,U⟩
theorem x2v (l1:(List zd)) (name2:Bs) (value3:Bs) (r:((List zd))) (H:z1d l1 name2 value3=some r):Fn Tryz.prog 53 [vlst (List.map zq l1),vstr name2,vstr value3] (zw [vlst (List.map zq r)]):=by
 refine ⟨by kernel_rfl,yh (us:=[vlst (List.map zq r)]) Tryz.func53 Z Z Z Z fun X hN => ?_⟩
 unfold z1d at H
 refine zb hN Z (zi (z6f 1 Z Z) Z (qe Z (zg (z8k 1 [vstr name2] Z Z (zu hN Z (qd Z (za (z3d (us:=[_]) ⟨Z,U⟩) (bE H fun r4 h5 H=>za (zm (y4q l1 (fun (a0:zd)=>Qa a0 name2) 98 [vi [[vstr name2]] 0 0] (fun a0 r h=>x2u a0 name2 r h) r4 h5) ⟨.inl Z,.inl Z,U⟩) (qe Z (zg (zb hN Z (qd Z (za (ye Z Z) (zh _ Z (fun h6 => ?_) (fun h6 => ?_)))))))))))))))
 ·refine tE h6 H fun H=>zg (vr mixed hN Z Z (qd Z (bE H fun r7 h8 H=>vz (rn [(900,2)]) [] [(900,_)] (z1o l1 r7 h8) ⟨Z,U⟩ ⟨.inl (.inl Z),U⟩ U Z (za (qo tyS9 Z Z Z) (qd Z (za (yd (u':=vagg (zq (zd.mk name2 value3))) (qy [(0,[vstr name2]),(1,[vstr value3])] vk ko Z ⟨Z,.inl ⟨_,Z,Z,Z⟩,Z,Z,.inl ⟨_,Z,Z,Z⟩,Z,U⟩) Z) (za (yd (u':=vlst (List.map zq [(zd.mk name2 value3)])) (yl [_] wm ⟨Z,.inr Z,Z,U⟩ Z Z) Z) (gE H fun h9 H=>zi (vu wm (fun _=>Z) Z Z Z ⟨by simp,by first | (simp; done) | simpa using h9⟩ Z) Z ?_))))))))
  refine za (qi (.row _ _) Z) ⟨Z,?_⟩
  refine zk ?_
  cases H
  exact ⟨U,ud Z Z,U⟩
 ·refine fE h6 H fun H=>zl (zg (vr mixed hN Z Z (qd Z (qd Z (bE H fun l10 h11 H=>za (y2h je (fun _=>Z) Z Z Z h11) (bE H fun r12 h13 H=>vz (rn [(900,3)]) [] [(900,_)] (z1o l10 r12 h13) ⟨Z,U⟩ ⟨.inl (.inl Z),U⟩ U Z (qd Z (qd Z (bE H fun x14 h15 H=>za (kr je (fun _=>Z) Z Z h15) (za (y8z kq Z) (za (qo tyS9 Z (qa (jj h15).2) Z) (qd Z (za (yd (u':=vagg (zq (zd.mk x14.Name value3))) (qy [(0,[vstr x14.Name]),(1,[vstr value3])] vk ko Z ⟨Z,.inl ⟨_,Z,Z,Z⟩,Z,Z,.inl ⟨_,Z,Z,Z⟩,Z,U⟩) Z) (za (yd (u':=vlst (List.map zq [(zd.mk x14.Name value3)])) (yl [_] wm ⟨Z,.inr Z,Z,U⟩ Z Z) Z) (gE H fun h16 H=>zi (vu wm (fun _=>Z) Z Z Z ⟨by simp,by first | (simp; done) | simpa using h16⟩ Z) Z ?_)))))))))))))))
  refine za (qi (.row _ _) Z) ⟨Z,?_⟩
  refine zg (vr mixed hN Z Z (za (zf (.row _ _) Z) (qd Z (qd Z (za (qn _ Z Z (.inl ⟨Z,Z⟩)) (bE H fun l17 h18 H=>za (y2h je (fun _=>Z) Z Z Z h18) (za (qo tyS9 Z Z Z) (bE H fun r19 h20 H=>za (zm (x2r l17 name2 r19 h20) ⟨.inl Z,.inl Z,U⟩) (gE H fun h21 H=>zi (z6d wm (fun _=>Z) Z Z Z h21 Z) Z (za (qi (.row _ _) Z) ⟨Z,?_⟩))))))))))
  refine zk ?_
  cases H
  exact ⟨U,ud Z Z,U⟩
theorem x1q (s p q:Bs) (r:Bs) (H:z68 s p q=some r):Fn Tryz.prog 100 [vstr s,vstr p,vstr q] (zw [vstr r]):=by
 unfold z68 at H
 obtain ⟨⟨h1,h2,h3⟩,h4⟩:=gif H
 cases h4
 refine xv (by kernel_rfl) fun M w vs hM h => ?_
 have hv:=km (us:=[.string ⟨s.toArray⟩,.string ⟨p.toArray⟩,.string ⟨q.toArray⟩]) h
 subst hv
 obtain ⟨m,hm⟩:=z67 hM
 have hle:=Lib.countB_le ⟨p.toArray⟩ (by simpa [ByteArray.size] using h2) _ ⟨s.toArray⟩ (Nat.le_refl _)
 have e1:(ByteArray.mk s.toArray).size=s.length:=by simp [ByteArray.size]
 have e2:(ByteArray.mk q.toArray).size=q.length:=by simp [ByteArray.size]
 have hmul:Lib.countB ⟨s.toArray⟩ ⟨p.toArray⟩ * q.length≤1000001 * 1000000:=Nat.mul_le_mul (by omega) h3
 refine (Tryz.strings_ReplaceAll ⟨s.toArray⟩ ⟨p.toArray⟩ ⟨q.toArray⟩ m w (by rw [e1]; omega) hm (by simpa [ByteArray.size] using h2) (by rw [e1,e2]; omega)).mono ?_
 rintro e w' ⟨rfl,hb⟩
 exact ⟨_,Z,Z,Kp.of_below hb⟩

theorem x1d (s:Bs) (r:List Bs) (H:z01 s=some r):FnG Tryz.prog 99 [.dat (vstr s)] [] (.row 900 r.length) [(900,.row 9 1 (List.map zt r))]:=by
 obtain ⟨h1,h2,rfl⟩:=x4o H
 have hle:=x4p s
 refine y5x (args:=[vstr s]) (Lib.fields s) (by kernel_rfl) (fun M w vs hM hvs => ?_) (by unfold maxLen; omega)
 have hv:=km (us:=[.string ⟨s.toArray⟩]) hvs
 subst hv
 refine (Tryz.strings_Fields ⟨s.toArray⟩ w (by simp [ByteArray.size]; omega) (fun j b hj => ?_) (x5s hM)).mono ?_
 ·have:=List.all_eq_true.1 h1 b (List.mem_of_getElem? (by simpa using hj))
  simpa using this
 ·rintro e w' ⟨rfl,rfl⟩
  exact ⟨Z,Z⟩
theorem x1t (s:Bs) (r:List Bs) (H:z01 s=some r):Fn Tryz.prog 99 [vstr s] (zw [vlst (List.map zt r)]):=by
 have h:=x1d s r H
 rw [← List.length_map (f:=zt)] at h
 exact z5h h
theorem x2t (a1:zx) (r:((List Bs)×Int)) (H:z1c a1=some r):Fn Tryz.prog 54 [vagg (vt a1)] (zw [vlst (List.map zt r.1),vint r.2]):=by
 refine ⟨by kernel_rfl,yh (us:=[vlst (List.map zt r.1),vint r.2]) Tryz.func54 Z Z Z Z fun X hN => ?_⟩
 unfold z1c at H
 refine zb hN Z (zi (qr 1 Z) Z (qe Z (qe Z (zb hN Z (qe Z (zg (zb hN Z (za (zp wx Z) (zo (zz qg Z Z) Z (bE H fun r2 h3 H=>za (zm (y0g a1.Headers [99,97,99,104,101,45,116,97,103] r2 h3) ⟨.inl Z,.inl Z,U⟩) (bE H fun r4 h5 H=>za (zm (z95 r2 [32] r4 h5) ⟨.inl Z,.inl Z,U⟩) (bE H fun r6 h7 H=>za (zm (x1q r4 [44] [32] r6 h7) ⟨.inl Z,.inl Z,.inl Z,U⟩) (bE H fun r8 h9 H=>za (zm (x1t r6 r8 h9) ⟨.inl Z,U⟩) (za (yz we Z) (qd Z (yg (kl 4 2 9 1 Z Z Z (gE H fun h13 H=>qw (fun (k11:Nat) (s:(List Bs))=>[(4,.row 2 s.length),(12,.dat (vlst (List.map zt r8))),(13,.dat (vint (r8.length:Int))),(14,.dat (vint (k11:Int)))]) (fun (k11:Nat) (s:(List Bs))=>[(2,.row 9 1 (List.map zt s))]) [] H ⟨Z,Z,Z,Z,U⟩ ⟨Z,U⟩ (fun _ _=>Z) ?_ ?_))))))))))))))))))
 ·rintro l10 H
  replace H:Qx l10=some r:=H
  unfold Qx at H
  refine zb hN Z (za (ye Z Z) (zg (zh _ Z (fun h=>(lt_t h).elim) (fun h => ?_))))
  refine qc (zb hN Z (za (zf (.row _ _) Z) (bE H fun r15 h16 H=>vz (rn [(0,2)]) [(0,_,_,some _)] [] (z90 l10 r15 h16) ⟨Z,U⟩ ⟨.inl (.inl Z),U⟩ ⟨⟨⟨Z,Z,Z⟩,by simp [Yi,Yj h16]⟩,U⟩ Z ?_)))
  refine zb hN Z (za (zf (.row _ _) Z) (bE H fun r17 h18 H=>vz (rn [(0,2),(900,3)]) [(0,_,_,none)] [(900,_)] (z92 r15 r17 h18) ⟨Z,Z,U⟩ ⟨.inl (.inl (congrArg (Slot.row 2) (Yj h16).symm)),U⟩ ⟨⟨⟨Z,Z,Z⟩,U⟩,U⟩ Z (za (qi (.row _ _) Z) (zg (zb hN Z (za (zf (.row _ _) Z) (zo (Ye we Z Z) Z (za (qv Z Z) (zh _ Z (fun h19 => ?_) (fun h19 => ?_))))))))))
  ·refine tE h19 H fun H=>zb hN Z (qe Z (qe Z (zk ?_)))
   cases H
   exact ⟨U,.inr ⟨Z,Z⟩,.inl Z,U⟩
  ·refine fE h19 H fun H=>zl (zb hN Z (za (zf (.row _ _) Z) (za (qi (.row _ _) Z) (qe Z (zk ?_)))))
   cases H
   exact ⟨U,ud Z Z,.inl Z,U⟩
 ·rintro k11 x14 l10 q12 h20 h21 H hq12
  replace H:Qw k11 x14 l10=some q12:=H
  unfold Qw at H
  refine zb hN Z (za (ye Z Z) (zg (zh _ Z (fun h => ?_) (fun h=>(lt_f h20 h).elim))))
  refine zl (zg (yg (zb hN Z (za (wd wy (fun _=>Z) Z Z h21) (za (qo tyS9 Z (qa h21) Z) (qe Z (zg (zb hN Z (qd Z (bE H fun r22 h23 H=>za (zm (y43 x14 r22 h23) ⟨.inl Z,U⟩) (za (yp Z) (zh _ Z (fun h24 => ?_) (fun h24 => ?_)))))))))))))
  ·refine tE h24 H fun H=>zb hN Z (qe Z (qe Z (zk ?_)))
   replace H:=retl H hq12
   cases H
   exact ⟨U,.inr ⟨Z,Z⟩,.inl Z,U⟩
  ·refine fE h24 H fun H=>zl (zu hN Z (za (zf (.row _ _) Z) (qd Z (za (yd (u':=vlst (List.map zt [x14])) (yl [[_]] yr ⟨Z,.inl ⟨_,Z,Z,Z⟩,Z,U⟩ Z Z) Z) (gE H fun h25 H=>zi (vu yr (fun _=>Z) Z Z Z ⟨by simp,by first | (simp; done) | simpa using h25⟩ Z) Z ?_)))))
   exact za (qi (.row _ _) Z) (zu hN Z (za (qs Z Z (by omega)) (qd Z ⟨_,qj H,⟨Z,Z,Z,Z,U⟩,⟨Z,U⟩⟩)))
end Go.Proofs.YtkldmhhbbceaoabGreatDoor
