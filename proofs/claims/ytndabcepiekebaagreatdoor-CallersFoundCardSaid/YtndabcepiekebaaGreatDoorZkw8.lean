/- Walks along the models. Printed by a program. -/
import Derived.Test.YtndabcepiekebaaGreatDoorZkw7
namespace Go.Proofs.YtndabcepiekebaaGreatDoor
open Go.RowKit
set_option linter.unusedVariables false
set_option maxRecDepth 100000
set_option maxHeartbeats 2000000
theorem w47 (v1:Bs) (r:(Bs×Int)) (H:z5m v1=some r):Fn Tryz.prog 91 [vstr v1] (zw [vstr r.1,vint r.2]):=by
 refine ⟨by kernel_rfl,yd (us:=[vstr r.1,vint r.2]) Tryz.func91 Z Z Z Z fun X hN => ?_⟩
 unfold z5m at H
 refine zb hN Z (qe Z (qe Z (zb hN Z (qd Z (bE H fun r2 h3 H=>za (zl (y4t v1 [58] r2 h3) ⟨.inl Z,.inl Z,U⟩) (qd Z (za (ym Z Z) (za (ym Z Z) (za (ym Z Z) (qe Z (qe Z (qe Z (zb hN Z (qd Z (bE H fun r4 h5 H=>za (zl (y8q r2.2.1 5 r4 h5) ⟨.inl Z,.inl Z,U⟩) (qd Z (za (ym Z Z) (za (ym Z Z) (qe Z (qe Z (ze ?_)))))))))))))))))))))
 refine yf (ι:=Bool) (fun i=>[(4,.dat (vstr r2.1)),(5,.dat (vstr r2.2.1)),(6,.dat (zj r2.2.2)),(7,.dat (vint r4.1)),(37,.dat (zj i))]) (fun i=>[]) (fun i=>Qn r2 r4 i=some r) (fun i=>Z) ?_ ?_
 ·skip
  refine zq hN Z (qd Z (za (qp tyU9 Z) (za (qh Z Z) (qd Z (yh (j:=3) Z Z (fun h6 => ?_) (fun h6 => ?_) Z)))))
  ·refine u3 h6 H fun h7 H=>zd Z Z h6 (zf (.dat _) Z) (zd Z Z h6 (zf (.dat _) Z) (yh (j:=5) Z Z (fun h8 => ?_) (fun h8 => ?_) Z))
   ·refine u1 h8 H fun h9 H=>zd Z Z h8 (zf (.dat _) Z) (zd Z Z h8 (yt Z) (zd Z Z h8 (zf (.dat _) Z) (yh (j:=8) Z Z (fun h10 => ?_) (fun h10 => ?_) Z)))
    ·exact u3 h10 H fun h11 H=>zd Z Z h10 (zf (.dat _) Z) (bE H fun r12 h13 H=>zd Z Z h10 (zl (Yg r4.1 1 65535 r12 h13) ⟨.inl Z,.inl Z,.inl Z,U⟩) (zd Z Z h10 (yt Z) (zd Z Z h8 (yb Z (bFF h11) Z) (zd Z Z h6 (zz Z (bTT h9) Z) (za (yb Z (bFF h7) Z) ⟨!r12,H,⟨Z,Z,Z,Z,Z,U⟩,U⟩)))))
    ·exact u4 h10 H fun h14 H=>zc Z Z h10 (zc Z Z h10 (zc Z Z h10 (zd Z Z h8 (zz Z (bTT h14) Z) (zd Z Z h6 (zz Z (bTT h9) Z) (za (yb Z (bFF h7) Z) ⟨true,H,⟨Z,Z,Z,Z,Z,U⟩,U⟩)))))
   ·exact u2 h8 H fun h15 H=>zc Z Z h8 (zc Z Z h8 (zc Z Z h8 (yg Z Z (yg Z Z (yg Z Z (zc Z Z h8 (zd Z Z h6 (yb Z (bFF h15) Z) (za (yb Z (bFF h7) Z) ⟨false,H,⟨Z,Z,Z,Z,Z,U⟩,U⟩))))))))
  ·exact u4 h6 H fun h16 H=>zc Z Z h6 (zc Z Z h6 (yg Z Z (yg Z Z (yg Z Z (yg Z Z (yg Z Z (yg Z Z (yg Z Z (zc Z Z h6 (za (zz Z (bTT h16) Z) ⟨true,H,⟨Z,Z,Z,Z,Z,U⟩,U⟩))))))))))
 ·rintro v17 H
  replace H:Qn r2 r4 v17=some r:=H
  unfold Qn at H
  refine zg _ Z (fun h18 => ?_) (fun h18 => ?_)
  ·refine tE h18 H fun H=>zb hN Z (qe Z (qe Z (zh ?_)))
   cases H
   exact ⟨U,.inl Z,.inl Z,U⟩
  ·refine fE h18 H fun H=>zk (ze (zb hN Z (qd Z (bE H fun r19 h20 H=>za (zl (Qi r2.1 [46] r19 h20) ⟨.inl Z,.inl Z,U⟩) (za (yo qm Z) (qd Z (zx (gE H fun h23 H=>wi (fun (k21:Nat) (s:Unit)=>[(4,.dat (vstr r2.1)),(5,.dat (vstr r2.2.1)),(6,.dat (zj r2.2.2)),(7,.dat (vint r4.1)),(39,.dat (vlst (List.map zo r19))),(40,.dat (vint (r19.length:Int))),(41,.dat (vint (k21:Int)))]) (fun (k21:Nat) (s:Unit)=>[]) () H ⟨Z,Z,Z,Z,Z,Z,Z,U⟩ U (fun _ _=>Z) ?_ ?_))))))))
   ·rintro ⟨⟩ H
    replace H:z6r r2 r4=some r:=H
    unfold z6r at H
    refine zb hN Z (za (zy Z Z) (ze (zg _ Z (fun h=>(lt_t h).elim) (fun h => ?_))))
    refine qg (zb hN Z (qd Z (bE H fun r25 h26 H=>za (zl (y8i r2.1 r25 h26) ⟨.inl Z,U⟩) (qe Z (yf (ι:=Bs) (fun i=>[(11,.dat (vstr i))]) (fun i=>[]) (fun i=>y1b i=some r) (fun i=>Z) ?_ ?_)))))
    ·skip
     refine zb hN Z (qd Z (qd Z (qj Z Z (fun hc=>zf (.dat _) Z) (qj Z Z (fun hc=>wa (cnd (c:=r2.2.2) hc) Z) (za (vi Z (fun hb=>(cnd (c:=r2.2.2) hb)) Z) (qd Z (qj Z Z (fun hc=>zf (.dat _) Z) (qj Z Z (fun hc=>wa (cnd (c:=(r2.2.2 && (decide (r4.1≠80)))) hc) Z) (za (vi Z (fun hb=>(cnd (c:=(r2.2.2 && (decide (r4.1≠80)))) hb)) Z) (zg _ Z (fun h27 => ?_) (fun h27 => ?_)))))))))))
     ·exact tE h27 H fun H=>zq hN Z (qd Z (qd Z (gE H fun h28 H=>za (wt Z Z (Nat.le_trans h28 (by decide))) (gE H fun h29 H=>za (wt Z Z (Nat.le_trans h29 (by decide))) (qe Z ⟨(r25++([58]++r2.2.1)),H,⟨Z,U⟩,U⟩)))))
     ·exact fE h27 H fun H=>zk ⟨r25,H,⟨Z,U⟩,U⟩
    ·rintro v30 H
     replace H:y1b v30=some r:=H
     unfold y1b at H
     refine zb hN Z (qd Z (qe Z (qe Z (zh ?_))))
     cases H
     exact ⟨U,.inl Z,.inl Z,U⟩
   ·rintro k21 x24 ⟨⟩ q22 h31 h32 H hq22
    replace H:z6q k21 x24=some q22:=H
    unfold z6q at H
    refine zb hN Z (za (zy Z Z) (ze (zg _ Z (fun h => ?_) (fun h=>(lt_f h31 h).elim))))
    refine zk (ze (zx (zb hN Z (za (qu qv (fun _=>Z) Z Z h32) (za (yj tyS9 Z (yy h32) Z) (qe Z (yf (ι:=Bool) (fun i=>[(4,.dat (vstr r2.1)),(5,.dat (vstr r2.2.1)),(6,.dat (zj r2.2.2)),(7,.dat (vint r4.1)),(39,.dat (vlst (List.map zo r19))),(40,.dat (vint (r19.length:Int))),(41,.dat (vint (k21:Int))),(59,.dat (zj i))]) (fun i=>[]) (fun i=>Qm i=some q22) (fun i=>Z) ?_ ?_)))))))
    ·skip
     refine zq hN Z (qd Z (za (qp tyU9 Z) (bE H fun r33 h34 H=>za (zl (Yg (x24.length:Int) 1 63 r33 h34) ⟨.inl Z,.inl Z,.inl Z,U⟩) (za (yt Z) (qd Z (yh (j:=4) Z Z (fun h35 => ?_) (fun h35 => ?_) Z))))))
     ·refine u3 h35 H fun h36 H=>zd Z Z h35 (zf (.dat _) Z) (bE H fun r37 h38 H=>zd Z Z h35 (zl (z5z x24 [97,98,99,100,101,102,103,104,105,106,107,108,109,110,111,112,113,114,115,116,117,118,119,120,121,122,65,66,67,68,69,70,71,72,73,74,75,76,77,78,79,80,81,82,83,84,85,86,87,88,89,90,48,49,50,51,52,53,54,55,56,57,45] r37 h38) ⟨.inl Z,.inl Z,U⟩) (zd Z Z h35 (yt Z) (za (yb Z (bFF h36) Z) (qd Z (yh (j:=9) Z Z (fun h39 => ?_) (fun h39 => ?_) Z)))))
      ·exact u3 h39 H fun h40 H=>zd Z Z h39 (zf (.dat _) Z) (bE H fun r41 h42 H=>zd Z Z h39 (zl (y8h x24 [45] r41 h42) ⟨.inl Z,.inl Z,U⟩) (zd Z Z h39 (zf (.dat _) Z) (zd Z Z h39 (jj Z Z) (za (yb Z (bFF h40) Z) ⟨decide (r41≠x24),H,⟨Z,Z,Z,Z,Z,Z,Z,Z,U⟩,U⟩))))
      ·exact u4 h39 H fun h43 H=>zc Z Z h39 (zc Z Z h39 (zc Z Z h39 (zc Z Z h39 (za (zz Z (bTT h43) Z) ⟨true,H,⟨Z,Z,Z,Z,Z,Z,Z,Z,U⟩,U⟩))))
     ·exact u4 h35 H fun h44 H=>zc Z Z h35 (zc Z Z h35 (zc Z Z h35 (za (zz Z (bTT h44) Z) (qd Z (zc Z Z Z (zc Z Z Z (zc Z Z Z (zc Z Z Z (za (zz Z Z Z) ⟨true,H,⟨Z,Z,Z,Z,Z,Z,Z,Z,U⟩,U⟩)))))))))
    ·rintro v45 H
     replace H:Qm v45=some q22:=H
     unfold Qm at H
     refine zg _ Z (fun h46 => ?_) (fun h46 => ?_)
     ·refine tE h46 H fun H=>zb hN Z (qe Z (qe Z (zh ?_)))
      replace H:=retl H hq22
      cases H
      exact ⟨U,.inl Z,.inl Z,U⟩
     ·exact fE h46 H fun H=>zk (zq hN Z (za (qw Z Z (by omega)) (qd Z ⟨_,qk H,⟨Z,Z,Z,Z,Z,Z,Z,U⟩,U⟩)))
theorem w4q (s1:Bs) (r:(Bool)) (H:z9m s1=some r):Fn Tryz.prog 92 [vstr s1] (zw [zj r]):=by
 refine ⟨by kernel_rfl,yd (us:=[zj r]) Tryz.func92 Z Z Z Z fun X hN => ?_⟩
 unfold z9m at H
 refine zb hN Z (qe Z (yf (ι:=Bool) (fun i=>[(2,.dat (zj i))]) (fun i=>[]) (fun i=>z0j i=some r) (fun i=>Z) ?_ ?_))
 ·skip
  refine zq hN Z (qd Z (za (qp tyU9 Z) (bE H fun r2 h3 H=>za (zl (Yg (s1.length:Int) 1 1000 r2 h3) ⟨.inl Z,.inl Z,.inl Z,U⟩) (qd Z (yh (j:=3) Z Z (fun h4 => ?_) (fun h4 => ?_) Z)))))
  ·refine u1 h4 H fun h5 H=>zd Z Z h4 (zf (.dat _) Z) (bE H fun x6 h7 H=>zd Z Z h4 (wq tyU9 Z Z h7) (zd Z Z h4 (ql Z Z) (za (zz Z (bTT h5) Z) (qd Z (yh (j:=8) Z Z (fun h8 => ?_) (fun h8 => ?_) Z)))))
   ·refine u1 h8 H fun h9 H=>zd Z Z h8 (zf (.dat _) Z) (bE H fun r10 h11 H=>zd Z Z h8 (zl (y4v s1 33 r10 h11) ⟨.inl Z,.inl Z,U⟩) (za (zz Z (bTT h9) Z) (qd Z (yh (j:=12) Z Z (fun h12 => ?_) (fun h12 => ?_) Z))))
    ·exact u1 h12 H fun h13 H=>zd Z Z h12 (zf (.dat _) Z) (bE H fun r14 h15 H=>zd Z Z h12 (zl (x38 s1 [63,35] r14 h15) ⟨.inl Z,.inl Z,U⟩) (zd Z Z h12 (yt Z) (za (zz Z (bTT h13) Z) (qe Z ⟨!r14,H,⟨Z,U⟩,U⟩))))
    ·exact u2 h12 H fun h16 H=>zc Z Z h12 (zc Z Z h12 (zc Z Z h12 (za (yb Z (bFF h16) Z) (qe Z ⟨false,H,⟨Z,U⟩,U⟩))))
   ·exact u2 h8 H fun h17 H=>zc Z Z h8 (zc Z Z h8 (za (yb Z (bFF h17) Z) (qd Z (zc Z Z Z (zc Z Z Z (zc Z Z Z (za (yb Z Z Z) (qe Z ⟨false,H,⟨Z,U⟩,U⟩))))))))
  ·exact u2 h4 H fun h18 H=>zc Z Z h4 (zc Z Z h4 (zc Z Z h4 (za (yb Z (bFF h18) Z) (qd Z (zc Z Z Z (zc Z Z Z (za (yb Z Z Z) (qd Z (zc Z Z Z (zc Z Z Z (zc Z Z Z (za (yb Z Z Z) (qe Z ⟨false,H,⟨Z,U⟩,U⟩)))))))))))))
 ·rintro v19 H
  replace H:z0j v19=some r:=H
  unfold z0j at H
  refine zh ?_
  cases H
  exact ⟨U,.inl Z,U⟩
theorem w4p (s1:Bs) (r:(Bool)) (H:z9l s1=some r):Fn Tryz.prog 93 [vstr s1] (zw [zj r]):=by
 refine ⟨by kernel_rfl,yd (us:=[zj r]) Tryz.func93 Z Z Z Z fun X hN => ?_⟩
 unfold z9l at H
 refine zb hN Z (qe Z (yf (ι:=Bool) (fun i=>[(2,.dat (zj i))]) (fun i=>[]) (fun i=>z2n i=some r) (fun i=>Z) ?_ ?_))
 ·skip
  refine zq hN Z (qd Z (za (qp tyU9 Z) (za (vq Z Z) (qd Z (yh (j:=3) Z Z (fun h2 => ?_) (fun h2 => ?_) Z)))))
  ·refine u1 h2 H fun h3 H=>zd Z Z h2 (zf (.dat _) Z) (bE H fun r4 h5 H=>zd Z Z h2 (zl (y4v s1 33 r4 h5) ⟨.inl Z,.inl Z,U⟩) (za (zz Z (bTT h3) Z) (qd Z (yh (j:=7) Z Z (fun h6 => ?_) (fun h6 => ?_) Z))))
   ·exact u1 h6 H fun h7 H=>zd Z Z h6 (zf (.dat _) Z) (bE H fun r8 h9 H=>zd Z Z h6 (zl (x4a s1 [35] r8 h9) ⟨.inl Z,.inl Z,U⟩) (zd Z Z h6 (yt Z) (za (zz Z (bTT h7) Z) (qe Z ⟨!r8,H,⟨Z,U⟩,U⟩))))
   ·exact u2 h6 H fun h10 H=>zc Z Z h6 (zc Z Z h6 (zc Z Z h6 (za (yb Z (bFF h10) Z) (qe Z ⟨false,H,⟨Z,U⟩,U⟩))))
  ·exact u2 h2 H fun h11 H=>zc Z Z h2 (zc Z Z h2 (za (yb Z (bFF h11) Z) (qd Z (zc Z Z Z (zc Z Z Z (zc Z Z Z (za (yb Z Z Z) (qe Z ⟨false,H,⟨Z,U⟩,U⟩))))))))
 ·rintro v12 H
  replace H:z2n v12=some r:=H
  unfold z2n at H
  refine zh ?_
  cases H
  exact ⟨U,.inl Z,U⟩
theorem x4x (s1:Bs) (r:(Bool)) (H:z9z s1=some r):Fn Tryz.prog 94 [vstr s1] (zw [zj r]):=by
 refine ⟨by kernel_rfl,yd (us:=[zj r]) Tryz.func94 Z Z Z Z fun X hN => ?_⟩
 unfold z9z at H
 refine zb hN Z (qe Z (yf (ι:=Bool) (fun i=>[(2,.dat (zj i))]) (fun i=>[]) (fun i=>z6t i=some r) (fun i=>Z) ?_ ?_))
 ·skip
  refine zq hN Z (qd Z (za (qp tyU9 Z) (za (vq Z Z) (qd Z (yh (j:=3) Z Z (fun h2 => ?_) (fun h2 => ?_) Z)))))
  ·refine u1 h2 H fun h3 H=>zd Z Z h2 (zf (.dat _) Z) (bE H fun r4 h5 H=>zd Z Z h2 (zl (y4v s1 32 r4 h5) ⟨.inl Z,.inl Z,U⟩) (za (zz Z (bTT h3) Z) (qd Z (yh (j:=7) Z Z (fun h6 => ?_) (fun h6 => ?_) Z))))
   ·exact u1 h6 H fun h7 H=>zd Z Z h6 (zf (.dat _) Z) (bE H fun r8 h9 H=>zd Z Z h6 (zl (y8h s1 [32] r8 h9) ⟨.inl Z,.inl Z,U⟩) (zd Z Z h6 (zf (.dat _) Z) (zd Z Z h6 (wy Z Z) (za (zz Z (bTT h7) Z) (qe Z ⟨decide (r8=s1),H,⟨Z,U⟩,U⟩)))))
   ·exact u2 h6 H fun h10 H=>zc Z Z h6 (zc Z Z h6 (zc Z Z h6 (zc Z Z h6 (za (yb Z (bFF h10) Z) (qe Z ⟨false,H,⟨Z,U⟩,U⟩)))))
  ·exact u2 h2 H fun h11 H=>zc Z Z h2 (zc Z Z h2 (za (yb Z (bFF h11) Z) (qd Z (zc Z Z Z (zc Z Z Z (zc Z Z Z (zc Z Z Z (za (yb Z Z Z) (qe Z ⟨false,H,⟨Z,U⟩,U⟩)))))))))
 ·rintro v12 H
  replace H:z6t v12=some r:=H
  unfold z6t at H
  refine zh ?_
  cases H
  exact ⟨U,.inl Z,U⟩
theorem w49 (l1:(List qo)) (r:(Int)) (H:z9y l1=some r):Fn Tryz.prog 95 [vlst (List.map vg l1)] (zw [vint r]):=by
 refine ⟨by kernel_rfl,yd (us:=[vint r]) Tryz.func95 Z Z Z Z fun X hN => ?_⟩
 unfold z9y at H
 refine zb hN Z (qe Z (ze (zb hN Z (qd Z (za (yo z3v Z) (za (qh Z Z) (zg _ Z (fun h2 => ?_) (fun h2 => ?_))))))))
 ·refine tE h2 H fun H=>zb hN Z (qe Z (zh ?_))
  cases H
  exact ⟨U,.inl Z,U⟩
 ·refine fE h2 H fun H=>zk (ze (zb hN Z (qd Z (za (yo z3v Z) (qd Z (zx (gE H fun h5 H=>wi (fun (k3:Nat) (s:Unit)=>[(8,.dat (vlst (List.map vg l1))),(9,.dat (vint (l1.length:Int))),(10,.dat (vint (k3:Int)))]) (fun (k3:Nat) (s:Unit)=>[]) () H ⟨Z,Z,Z,U⟩ U (fun _ _=>Z) ?_ ?_)))))))
  ·rintro ⟨⟩ H
   replace H:y5i=some r:=H
   unfold y5i at H
   refine zb hN Z (za (zy Z Z) (ze (zg _ Z (fun h=>(lt_t h).elim) (fun h => ?_))))
   refine qg (zb hN Z (qe Z (zh ?_)))
   cases H
   exact ⟨U,.inl Z,U⟩
  ·rintro k3 x6 ⟨⟩ q4 h7 h8 H hq4
   replace H:y5h k3 x6=some q4:=H
   unfold y5h at H
   refine zb hN Z (za (zy Z Z) (ze (zg _ Z (fun h => ?_) (fun h=>(lt_f h7 h).elim))))
   refine zk (ze (zx (zb hN Z (za (qu y2e (fun _=>Z) Z Z h8) (za (kj Yp Z (yy h8) Z) (zi (we 1 z3u Z) Z (zi (yp Yp Z Z Z Z) Z (ze (zb hN Z (za (zn y2d Z) (zu (zp tyS9 Z Z) Z (bE H fun r9 h10 H=>za (zl (x4u x6.Name r9 h10) ⟨.inl Z,U⟩) (za (yt Z) (zg _ Z (fun h11 => ?_) (fun h11 => ?_)))))))))))))))
   ·refine tE h11 H fun H=>zb hN Z (qe Z (zh ?_))
    replace H:=retl H hq4
    cases H
    exact ⟨U,.inl Z,U⟩
   ·refine fE h11 H fun H=>zk (zb hN Z (za (zn y2c Z) (zu (zp tyS9 Z Z) Z (bE H fun r12 h13 H=>za (zl (x4x x6.Value r12 h13) ⟨.inl Z,U⟩) (za (yt Z) (zg _ Z (fun h14 => ?_) (fun h14 => ?_)))))))
    ·refine tE h14 H fun H=>zb hN Z (qe Z (zh ?_))
     replace H:=retl H hq4
     cases H
     exact ⟨U,.inl Z,U⟩
    ·exact fE h14 H fun H=>zk (zq hN Z (za (qw Z Z (by omega)) (qd Z ⟨_,qk H,⟨Z,Z,Z,U⟩,U⟩)))
theorem w41 (r1:wj) (r:(Int)) (H:z9s r1=some r):Fn Tryz.prog 33 [vagg (z3p r1)] (zw [vint r]):=by
 refine ⟨by kernel_rfl,yd (us:=[vint r]) Tryz.func33 Z Z Z Z fun X hN => ?_⟩
 unfold z9s at H
 refine zb hN Z (zi (jf 1 Z) Z (qe Z (ze (zx (zb hN Z (za (zn z0w Z) (zu (zp tyS3 Z Z) Z (bE H fun r2 h3 H=>za (zl (y8r r1.At r2 h3) ⟨.inl Z,U⟩) (za (yt Z) (qe Z (zg _ Z (fun h4 => ?_) (fun h4 => ?_))))))))))))
 ·refine tE h4 H fun H=>zb hN Z (qe Z (zh ?_))
  cases H
  exact ⟨U,.inl Z,U⟩
 ·refine fE h4 H fun H=>zb hN Z (za (zn x0q Z) (zu (zp tyS9 Z Z) Z (bE H fun r5 h6 H=>za (zl (x4u r1.Method r5 h6) ⟨.inl Z,U⟩) (za (yt Z) (qe Z (zg _ Z (fun h7 => ?_) (fun h7 => ?_)))))))
  ·refine tE h7 H fun H=>zb hN Z (qe Z (zh ?_))
   cases H
   exact ⟨U,.inl Z,U⟩
  ·refine fE h7 H fun H=>zk (ze (zb hN Z (za (zn x0p Z) (zu (zp tyS9 Z Z) Z (bE H fun r8 h9 H=>za (zl (w47 r1.Host r8 h9) ⟨.inl Z,U⟩) (qd Z (za (ym Z Z) (za (ym Z Z) (qe Z (qe Z (zb hN Z (qd Z (za (wa Z Z) (zg _ Z (fun h10 => ?_) (fun h10 => ?_)))))))))))))))
   ·refine tE h10 H fun H=>zb hN Z (qd Z (qe Z (zh ?_)))
    cases H
    exact ⟨U,.inl Z,U⟩
   ·refine fE h10 H fun H=>zk (ze (yf (ι:=Bool) (fun i=>[(1,.ptr 1 0),(40,.dat (zj i))]) (fun i=>[(1,.box none 61 [.dat (vint r1.At),.dat (vstr r1.Method),.dat (vstr r1.Host),.dat (vstr r1.Path),.dat (vstr r1.Query),.dat (vstr r1.From),.dat (vlst (List.map vg r1.Headers)),.dat (vstr r1.Body)])]) (fun i=>z2r r1 i=some r) (fun i=>Z) ?_ ?_))
    ·skip
     refine zq hN Z (za (zn y6j Z) (zu (zp tyS9 Z Z) Z (bE H fun r11 h12 H=>za (zl (w4q r1.Path r11 h12) ⟨.inl Z,U⟩) (za (yt Z) (qd Z (yh (j:=4) Z Z (fun h13 => ?_) (fun h13 => ?_) Z))))))
     ·refine u3 h13 H fun h14 H=>zd Z Z h13 (zn x0o Z) (vj Z Z h13 (zp tyS9 Z Z) Z (bE H fun r15 h16 H=>zd Z Z h13 (zl (w4p r1.Query r15 h16) ⟨.inl Z,U⟩) (zd Z Z h13 (yt Z) (za (yb Z (bFF h14) Z) (qd Z (yh (j:=10) Z Z (fun h17 => ?_) (fun h17 => ?_) Z))))))
      ·exact u3 h17 H fun h18 H=>zd Z Z h17 (zn x0n Z) (vj Z Z h17 (zp tyS9 Z Z) Z (bE H fun r19 h20 H=>zd Z Z h17 (zl (x4x r1.From r19 h20) ⟨.inl Z,U⟩) (zd Z Z h17 (yt Z) (za (yb Z (bFF h18) Z) ⟨!r19,H,⟨Z,Z,U⟩,⟨Z,U⟩⟩))))
      ·exact u4 h17 H fun h21 H=>zc Z Z h17 (zc Z Z h17 (zc Z Z h17 (zc Z Z h17 (za (zz Z (bTT h21) Z) ⟨true,H,⟨Z,Z,U⟩,⟨Z,U⟩⟩))))
     ·exact u4 h13 H fun h22 H=>zc Z Z h13 (zc Z Z h13 (zc Z Z h13 (zc Z Z h13 (za (zz Z (bTT h22) Z) (qd Z (zc Z Z Z (zc Z Z Z (zc Z Z Z (zc Z Z Z (za (zz Z Z Z) ⟨true,H,⟨Z,Z,U⟩,⟨Z,U⟩⟩))))))))))
    ·rintro v23 H
     replace H:z2r r1 v23=some r:=H
     unfold z2r at H
     refine zg _ Z (fun h24 => ?_) (fun h24 => ?_)
     ·refine tE h24 H fun H=>zb hN Z (qe Z (zh ?_))
      cases H
      exact ⟨U,.inl Z,U⟩
     ·refine fE h24 H fun H=>zk (ze (zb hN Z (za (zn Wb Z) (zu (zp Qx Z Z) Z (bE H fun r25 h26 H=>za (zl (w49 r1.Headers r25 h26) ⟨.inl Z,U⟩) (qe Z (zb hN Z (qd Z (za (wa Z Z) (zg _ Z (fun h27 => ?_) (fun h27 => ?_)))))))))))
      ·refine tE h27 H fun H=>zb hN Z (qd Z (qe Z (zh ?_)))
       cases H
       exact ⟨U,.inl Z,U⟩
      ·refine fE h27 H fun H=>zk (ze (zb hN Z (za (zn x0m Z) (zu (zp tyS9 Z Z) Z (za (qp tyU9 Z) (za (qh Z Z) (zg _ Z (fun h28 => ?_) (fun h28 => ?_))))))))
       ·refine tE h28 H fun H=>zb hN Z (qe Z (zh ?_))
        cases H
        exact ⟨U,.inl Z,U⟩
       ·refine fE h28 H fun H=>zk (zb hN Z (qe Z (zh ?_)))
        cases H
        exact ⟨U,.inl Z,U⟩
theorem w5s (l1:(List Int)) (r:(Int)) (H:y0h l1=some r):Fn Tryz.prog 25 [vlst (List.map y1n l1)] (zw [vint r]):=by
 refine ⟨by kernel_rfl,yd (us:=[vint r]) Tryz.func25 Z Z Z Z fun X hN => ?_⟩
 unfold y0h at H
 refine zb hN Z (qe Z (ze (zb hN Z (qd Z (za (yo x0e Z) (qd Z (zx (gE H fun h4 H=>wi (fun (k2:Nat) (s:Unit)=>[(5,.dat (vlst (List.map y1n l1))),(6,.dat (vint (l1.length:Int))),(7,.dat (vint (k2:Int)))]) (fun (k2:Nat) (s:Unit)=>[]) () H ⟨Z,Z,Z,U⟩ U (fun _ _=>Z) ?_ ?_))))))))
 ·rintro ⟨⟩ H
  replace H:y5y=some r:=H
  unfold y5y at H
  refine zb hN Z (za (zy Z Z) (ze (zg _ Z (fun h=>(lt_t h).elim) (fun h => ?_))))
  refine qg (zb hN Z (qe Z (zh ?_)))
  cases H
  exact ⟨U,.inl Z,U⟩
 ·rintro k2 x5 ⟨⟩ q3 h6 h7 H hq3
  replace H:y5x k2 x5=some q3:=H
  unfold y5x at H
  refine zb hN Z (za (zy Z Z) (ze (zg _ Z (fun h => ?_) (fun h=>(lt_f h6 h).elim))))
  refine zk (ze (zx (zb hN Z (za (qu x0s (fun _=>Z) Z Z h7) (za (yj x0f Z (yy h7) Z) (qe Z (zb hN Z (qd Z (za (wa Z Z) (zg _ Z (fun h8 => ?_) (fun h8 => ?_)))))))))))
  ·refine tE h8 H fun H=>zb hN Z (qd Z (qe Z (zh ?_)))
   replace H:=retl H hq3
   cases H
   exact ⟨U,.inl Z,U⟩
  ·exact fE h8 H fun H=>zk (zq hN Z (za (qw Z Z (by omega)) (qd Z ⟨_,qk H,⟨Z,Z,Z,U⟩,U⟩)))
theorem w4v (a1:Bs) (b2:Bs) (r:(Bool)) (H:z9o a1 b2=some r):Fn Tryz.prog 157 [vstr a1,vstr b2] (zw [zj r]):=by
 refine ⟨by kernel_rfl,yd (us:=[zj r]) Tryz.func157 Z Z Z Z fun X hN => ?_⟩
 unfold z9o at H
 refine zb hN Z (qe Z (zb hN Z (qd Z (bE H fun r3 h4 H=>za (zl (y8i a1 r3 h4) ⟨.inl Z,U⟩) (qd Z (bE H fun r5 h6 H=>za (zl (y8i b2 r5 h6) ⟨.inl Z,U⟩) (za (wy Z Z) (qe Z (zh ?_)))))))))
 cases H
 exact ⟨U,.inl Z,U⟩
theorem x4t (l1:(List qo)) (name2:Bs) (r:((List Bs))) (H:z5f l1 name2=some r):Fn Tryz.prog 96 [vlst (List.map vg l1),vstr name2] (zw [vlst (List.map zo r)]):=by
 refine ⟨by kernel_rfl,yd (us:=[vlst (List.map zo r)]) Tryz.func96 Z Z Z Z fun X hN => ?_⟩
 unfold z5f at H
 refine zb hN Z (qe Z (zb hN Z (qe Z (ze (zb hN Z (qd Z (za (yo z3v Z) (qd Z (zx (uh 5 1 9 1 Z Z Z (gE H fun h6 H=>wi (fun (k4:Nat) (s:(List Bs))=>[(1,.dat (vstr name2)),(5,.row 1 s.length),(8,.dat (vlst (List.map vg l1))),(9,.dat (vint (l1.length:Int))),(10,.dat (vint (k4:Int)))]) (fun (k4:Nat) (s:(List Bs))=>[(1,.row 9 1 (List.map zo s))]) [] H ⟨Z,Z,Z,Z,Z,U⟩ ⟨Z,U⟩ (fun _ _=>Z) ?_ ?_)))))))))))
 ·rintro l3 H
  replace H:y5a l3=some r:=H
  unfold y5a at H
  refine zb hN Z (za (zy Z Z) (ze (zg _ Z (fun h=>(lt_t h).elim) (fun h => ?_))))
  refine qg (zb hN Z (za (zf (.row _ _) Z) (za (wm (.row _ _) Z) (zh ?_))))
  cases H
  exact ⟨U,Yt Z Z,U⟩
 ·rintro k4 x7 l3 q5 h8 h9 H hq5
  replace H:z2o name2 k4 x7 l3=some q5:=H
  unfold z2o at H
  refine zb hN Z (za (zy Z Z) (ze (zg _ Z (fun h => ?_) (fun h=>(lt_f h8 h).elim))))
  refine zk (yf (ι:=(List Bs)) (fun i=>[(1,.dat (vstr name2)),(5,.row 1 i.length),(8,.dat (vlst (List.map vg l1))),(9,.dat (vint (l1.length:Int))),(10,.dat (vint (k4:Int)))]) (fun i=>[(1,.row 9 1 (List.map zo i))]) (fun i=>z6j i=some q5) (fun i=>Z) ?_ ?_)
  ·skip
   refine zx (zb hN Z (za (qu y2e (fun _=>Z) Z Z h9) (za (kj Yp Z (yy h9) Z) (zi (we 2 z3u Z) Z (zi (yp Yp Z Z Z Z) Z (zb hN Z (za (zn y2d Z) (zu (zp tyS9 Z Z) Z (qd Z (bE H fun r10 h11 H=>za (zl (w4v x7.Name name2 r10 h11) ⟨.inl Z,.inl Z,U⟩) (zg _ Z (fun h12 => ?_) (fun h12 => ?_))))))))))))
   ·refine tE h12 H fun H=>zq hN Z (za (zf (.row _ _) Z) (za (zn y2c Z) (zu (zp tyS9 Z Z) Z (za (ye (u':=vlst (List.map zo [x7.Value])) (qa [[_]] qn ⟨Z,.inl ⟨_,Z,Z,Z⟩,Z,U⟩ Z Z) Z) (gE H fun h13 H=>zi (jt qn (fun _=>Z) Z Z Z ⟨by simp,by first | (simp; done) | simpa using h13⟩ Z) Z ?_)))))
    exact za (wm (.row _ _) Z) ⟨(l3++[x7.Value]),H,⟨Z,Z,Z,Z,Z,U⟩,⟨Z,U⟩⟩
   ·exact fE h12 H fun H=>zk ⟨l3,H,⟨Z,Z,Z,Z,Z,U⟩,⟨Z,U⟩⟩
  ·rintro out14 H
   replace H:z6j out14=some q5:=H
   unfold z6j at H
   exact zq hN Z (za (qw Z Z (by omega)) (qd Z ⟨_,qk H,⟨Z,Z,Z,Z,Z,U⟩,⟨Z,U⟩⟩))
theorem w42 (x1:ya) (c2:(List Bs)) (r:(Bool)) (H:z5k x1 c2=some r):Fn Tryz.prog 129 [vagg (wg x1),wv [[vlst (List.map zo c2)]] 0 0] (zw [zj r]):=by
 refine ⟨by kernel_rfl,yd (us:=[zj r]) Tryz.func129 Z Z Z Z fun X hN => ?_⟩
 unfold z5k at H
 refine zb hN Z (zi (jf 1 Z) Z (qe Z (ze (wx mixed hN Z Z (za (zn Zx Z) (zu (zp tyS9 Z Z) Z (za (yj qq Z Z Z) (bE H fun x3 h4 H=>za (qu qv (fun _=>Z) Z Z h4) (za (yj tyS9 Z (yy h4) Z) (za (wy Z Z) (qe Z ⟨Z,?_⟩)))))))))))
 refine zh ?_
 cases H
 exact ⟨U,.inl Z,U⟩
theorem w5a (s1:Bs) (r:(Bs×Int)) (H:z90 s1=some r):Fn Tryz.prog 130 [vstr s1] (zw [vstr r.1,vint r.2]):=by
 refine ⟨by kernel_rfl,yd (us:=[vstr r.1,vint r.2]) Tryz.func130 Z Z Z Z fun X hN => ?_⟩
 unfold z90 at H
 refine zb hN Z (qe Z (qe Z (zb hN Z (qe Z (ze (zb hN Z (qd Z (za (qp tyU9 Z) (qd Z (zx (gE H fun h5 H=>wi (fun (k3:Nat) (s:Bs)=>[(0,.dat (vstr s1)),(4,.dat (vstr s)),(11,.dat (vint (s1.length:Int))),(12,.dat (vint (k3:Int)))]) (fun (k3:Nat) (s:Bs)=>[]) [] H ⟨Z,Z,Z,Z,U⟩ U (fun _ _=>Z) ?_ ?_)))))))))))
 ·rintro bits2 H
  replace H:z2z s1 bits2=some r:=H
  unfold z2z at H
  refine zb hN Z (za (zy Z Z) (ze (zg _ Z (fun h=>(lt_t h).elim) (fun h => ?_))))
  refine qg (zb hN Z (qe Z (yf (ι:=(List Int)) (fun i=>[(0,.dat (vstr s1)),(7,.row 1 i.length)]) (fun i=>[(1,.row 5 1 (List.map ve i))]) (fun i=>z2y s1 i=some r) (fun i=>Z) ?_ ?_)))
  ·skip
   refine zx (uh 7 1 5 1 Z Z Z (Zq (fun (s:Bs×(List Int))=>[(0,.dat (vstr s1)),(4,.dat (vstr s.1)),(7,.row 1 s.2.length)]) (fun (s:Bs×(List Int))=>[(1,.row 5 1 (List.map ve s.2))]) (bits2,[]) H ⟨Z,Z,Z,U⟩ ⟨Z,U⟩ (fun _=>Z) ?_))
   rintro ⟨bits7,l8⟩ q9 H hq9
   replace H:ki s1 bits7 l8=some q9:=H
   unfold ki at H
   refine ze (zb hN Z (qd Z (za (qp tyU9 Z) (za (vy Z Z) (zg _ Z (fun h10 => ?_) (fun h10 => ?_))))))
   ·refine tE h10 H fun H=>zk (zx (zb hN Z (qd Z (bE H fun l11 h12 H=>za (jc tyU9 Z Z Z h12) (bE H fun r13 h14 H=>za (zl (x4c l11 2 64 r13 h14) ⟨.inl Z,.inl Z,.inl Z,U⟩) (qd Z (za (ym Z Z) (za (ym Z Z) (qe Z (qe Z (wx mixed hN Z Z (za (zf (.row _ _) Z) (qd Z (za (jl tyU2 tyU5 Z) (za (ye (u':=vlst (List.map ve [IntKind.wrap .u8 r13.1])) (qa [[_]] z3y ⟨Z,.inl ⟨_,Z,Z,Z⟩,Z,U⟩ Z Z) Z) (gE H fun h15 H=>zi (jt z3y (fun _=>Z) Z Z Z ⟨by simp,by first | (simp; done) | simpa using h15⟩ Z) Z ?_))))))))))))))))
    refine qd Z (bE H fun l16 h17 H=>za (jc tyU9 Z Z Z h17) (za (wm (.row _ _) Z) (qe Z ⟨Z,?_⟩)))
    exact ⟨_,qk H,⟨Z,Z,Z,U⟩,⟨Z,U⟩⟩
   ·refine fE h10 H fun H=>qg ?_
    replace H:=outl H hq9
    exact ⟨l8,H,⟨Z,Z,U⟩,⟨Z,U⟩⟩
  ·rintro out18 H
   replace H:z2y s1 out18=some r:=H
   unfold z2y at H
   refine ze (ze (z7z 7 1 Z Z Z (zq hN Z (qd Z (za (z4f (C:=ve) Zr tyU5 tyU9 (fun _=>Z) Z) (bE H fun r19 h20 H=>za (zl (y4w (strN out18) r19 h20) ⟨.inl Z,U⟩) (qd Z (za (jj Z Z) (zg _ Z (fun h21 => ?_) (fun h21 => ?_))))))))))
   ·refine tE h21 H fun H=>zb hN Z (qe Z (qe Z (zh ?_)))
    cases H
    exact ⟨U,.inl Z,.inl Z,U⟩
   ·refine fE h21 H fun H=>zk (zb hN Z (qd Z (za (z4f (C:=ve) Zr tyU5 tyU9 (fun _=>Z) Z) (qe Z (qe Z (zh ?_))))))
    cases H
    exact ⟨U,.inl Z,.inl Z,U⟩
 ·rintro k3 x6 bits2 q4 h22 h23 H hq4
  replace H:Qo k3 x6 bits2=some q4:=H
  unfold Qo at H
  refine zb hN Z (za (zy Z Z) (ze (zg _ Z (fun h => ?_) (fun h=>(lt_f h22 h).elim))))
  refine zk (ze (zx (zb hN Z (qd Z (qe Z (zb hN Z (qd Z (qd Z (za (wq tyU9 Z Z h23) (bE H fun r24 h25 H=>za (zl (y4s [65,66,67,68,69,70,71,72,73,74,75,76,77,78,79,80,81,82,83,84,85,86,87,88,89,90,97,98,99,100,101,102,103,104,105,106,107,108,109,110,111,112,113,114,115,116,117,118,119,120,121,122,48,49,50,51,52,53,54,55,56,57,45,95] (x6.toNat:Int) r24 h25) ⟨.inl Z,.inl Z,U⟩) (qe Z (ze (zb hN Z (qd Z (za (zy Z Z) (zg _ Z (fun h26 => ?_) (fun h26 => ?_)))))))))))))))))
  ·refine tE h26 H fun H=>zb hN Z (qe Z (qe Z (zh ?_)))
   replace H:=retl H hq4
   cases H
   exact ⟨U,.inl Z,.inl Z,U⟩
  ·exact fE h26 H fun H=>zk (zq hN Z (qd Z (qd Z (za (yw _ Z Z (.inl ⟨Z,Z⟩)) (bE H fun r27 h28 H=>za (zl (x4e (wr (64+r24)) 2 r27 h28) ⟨.inl Z,.inl Z,U⟩) (bE H fun l29 h30 H=>za (jc tyU9 Z Z Z h30) (gE H fun h31 H=>za (wt Z Z (Nat.le_trans h31 (by decide))) (qe Z (zq hN Z (za (qw Z Z (by omega)) (qd Z ⟨_,qk H,⟨Z,Z,Z,Z,U⟩,U⟩)))))))))))
theorem w5c (s1:Bs) (r:(Bool)) (H:z5o s1=some r):Fn Tryz.prog 185 [vstr s1] (zw [zj r]):=by
 refine ⟨by kernel_rfl,yd (us:=[zj r]) Tryz.func185 Z Z Z Z fun X hN => ?_⟩
 unfold z5o at H
 refine zb hN Z (qe Z (zb hN Z (qd Z (za (jj Z Z) (qd Z (qj Z Z (fun hc=>zf (.dat _) Z) (qj Z Z (fun hc=>jj (cnd (c:=(decide (s1≠[112,97,114,101,110,116]))) hc) Z) (za (vi Z (fun hb=>(cnd (c:=(decide (s1≠[112,97,114,101,110,116]))) hb)) Z) (qd Z (qj Z Z (fun hc=>zf (.dat _) Z) (qj Z Z (fun hc=>jj (cnd (c:=((decide (s1≠[112,97,114,101,110,116])) && (decide (s1≠[102,111,114])))) hc) Z) (za (vi Z (fun hb=>(cnd (c:=((decide (s1≠[112,97,114,101,110,116])) && (decide (s1≠[102,111,114])))) hb)) Z) (qe Z (zh ?_))))))))))))))
 cases H
 exact ⟨U,.inl Z,U⟩
theorem w4u (s1:zm) (v2:(List Bs)) (r:(Bool×zm)) (H:Yd s1 v2=some r):Imp Tryz.prog 186 39 (yq s1) [vlst (List.map zo v2)] (zw [zj r.1]) (yq r.2):=by
 refine jo (us:=[zj r.1]) (cs':=(yq r.2)) (by kernel_rfl) Tryz.func186 Z Z Z Z fun X bl hN => ?_
 unfold Yd at H
 refine zb hN Z (qe Z (ze (zb hN Z (qd Z (bE H fun x3 h4 H=>za (qu qv (fun _=>Z) Z Z h4) (za (yj tyS9 Z (yy h4) Z) (zx (zb hN Z (za (wy Z Z) (qe Z (zg _ Z (fun h5 => ?_) (fun h5 => ?_))))))))))))
 ·refine tE h5 H fun H=>zb hN Z (za (zf (.ptr _ _) Z) (qd Z (bE H fun l6 h7 H=>za (z1d qv (fun _=>Z) Z Z Z h7) (za (wu Z) (za (zn uz Z) (zi (wn qq Z Z Z Z) Z (zb hN Z (qd Z (za (yo qm Z) (za (qh Z Z) (qe Z (zh ?_))))))))))))
  cases H
  exact ⟨U,⟨.inl Z,U⟩,Z⟩
 ·refine fE h5 H fun H=>zb hN Z (za (wy Z Z) (qe Z (zg _ Z (fun h8 => ?_) (fun h8 => ?_))))
  ·refine tE h8 H fun H=>zb hN Z (za (zf (.ptr _ _) Z) (qd Z (bE H fun l9 h10 H=>za (z1d qv (fun _=>Z) Z Z Z h10) (za (wu Z) (za (zn xo Z) (zi (wn qq Z Z Z Z) Z (zb hN Z (qd Z (za (yo qm Z) (za (qh Z Z) (qe Z (zh ?_))))))))))))
   cases H
   exact ⟨U,⟨.inl Z,U⟩,Z⟩
  ·refine fE h8 H fun H=>zb hN Z (za (wy Z Z) (qe Z (zg _ Z (fun h11 => ?_) (fun h11 => ?_))))
   ·refine tE h11 H fun H=>ze (zb hN Z (qd Z (za (yo qm Z) (za (wa Z Z) (zg _ Z (fun h12 => ?_) (fun h12 => ?_))))))
    ·refine tE h12 H fun H=>zb hN Z (qe Z (zh ?_))
     cases H
     exact ⟨U,⟨.inl Z,U⟩,Z⟩
    ·refine fE h12 H fun H=>zk (zb hN Z (qe Z (qe Z (zb hN Z (za (zf (.ptr _ _) Z) (qd Z (bE H fun x13 h14 H=>za (qu qv (fun _=>Z) Z Z h14) (za (yj tyS9 Z (yy h14) Z) (bE H fun r15 h16 H=>za (zl (y8q x13 15 r15 h16) ⟨.inl Z,.inl Z,U⟩) (qd Z (za (ym Z Z) (za (ym Z Z) (za (wu Z) (za (zn Zu Z) (zi (wn tyS3 Z Z Z Z) Z (qe Z (zb hN Z (za (zf (.ptr _ _) Z) (qd Z (bE H fun x17 h18 H=>?_))))))))))))))))))))
     refine za (qu qv (fun _=>Z) Z Z h18) (za (yj tyS9 Z (yy h18) Z) (bE H fun r19 h20 H=>za (zl (y8q x17 15 r19 h20) ⟨.inl Z,.inl Z,U⟩) (qd Z (za (ym Z Z) (za (ym Z Z) (za (wu Z) (za (zn Za Z) (zi (wn tyS3 Z Z Z Z) Z (qe Z (zb hN Z (qd Z (qd Z (qj Z Z (fun hc=>zf (.dat _) Z) (za (vi Z (fun hb=>(cnd (c:=r15.2) hb)) Z) (qe Z (zh ?_))))))))))))))))
     cases H
     exact ⟨U,⟨.inl Z,U⟩,Z⟩
   ·refine fE h11 H fun H=>zk (ze (zb hN Z (qd Z (za (yo qm Z) (za (wa Z Z) (zg _ Z (fun h21 => ?_) (fun h21 => ?_)))))))
    ·refine tE h21 H fun H=>zb hN Z (qe Z (zh ?_))
     cases H
     exact ⟨U,⟨.inl Z,U⟩,Z⟩
    ·refine fE h21 H fun H=>zk (ze (w8u (MTP bl) 1 mixed hN Z Z (x1x (x88 1 (z3x bl)) Z (ud (zf (.ptr _ _) Z) (ud (wu Z) (z4j (y21 (zn z0z Z) Z) Z (gE H fun h22 H=>y3f (p:=(([105,100]:Bs),(0:Int))) (y2y [105,100] (0:Int) (z3x bl) Z Z Z h22) Z (by decide) (ud (zf (.ptr _ _) Z) (ud (wu Z) (z4j (y21 (zn z0y Z) Z) Z (gE H fun h23 H=>y3f (p:=(([115,117,98,106,101,99,116]:Bs),(1:Int))) (y2y [115,117,98,106,101,99,116] (1:Int) (z3x bl) Z Z Z h23) Z (by decide) (ud (zf (.ptr _ _) Z) (ud (wu Z) (z4j (y21 (zn z0x Z) Z) Z (gE H fun h24 H=>y3f (p:=(([105,115,115,117,101,114]:Bs),(2:Int))) (y2y [105,115,115,117,101,114] (2:Int) (z3x bl) Z Z Z h24) Z (by decide) (ud (zf (.ptr _ _) Z) (ud (wu Z) (z4j (y21 (zn Zv Z) Z) Z (gE H fun h25 H=>?_)))))))))))))))))))
     refine y3f (p:=(([112,97,114,101,110,116]:Bs),(3:Int))) (y2y [112,97,114,101,110,116] (3:Int) (z3x bl) Z Z Z h25) Z (by decide) (ud (zf (.mp _) Z) (ud (zf (.dat _) Z) (ud (qu qv (fun _=>Z) Z Z h4) (ud (yj tyS9 Z (yy h4) Z) (gE H fun h26 H=>z4j (ye (u':=vval (ptI bl ((lkG ([([105,100],(0:Int)),([115,117,98,106,101,99,116],(1:Int)),([105,115,115,117,101,114],(2:Int)),([112,97,114,101,110,116],(3:Int))]:List (Bs×Int)) x3).getD (-1)))) (x9b ([([105,100],(0:Int)),([115,117,98,106,101,99,116],(1:Int)),([105,115,115,117,101,114],(2:Int)),([112,97,114,101,110,116],(3:Int))]:List (Bs×Int)) x3 (z3x bl) Z Z h26) Z) Z (ud (zf (.dat _) Z) (bE H fun x27 h28 H=>ud (qu qv (fun _=>Z) Z Z h28) (ud (yj tyS9 Z (yy h28) Z) (gE H fun h29 H=>z4j (x8s (id:=0) (x87 (w8b h29) Z) Z) Z (bE H fun c30 h31 H=>x1x (x8w tyS9 Z Z Z (x9x (c:=s1) h29 h31)) Z ⟨Z,by decide,?_⟩))))))))))
     refine zb hN Z (qe Z (zh ?_))
     cases H
     exact ⟨U,⟨.inl Z,U⟩,Z⟩
theorem w5d (v1:Bs) (r:(zm×Int×Int)) (H:z91 v1=some r):Fn Tryz.prog 131 [vstr v1] (zw [vagg (yq r.1),vint r.2.1,vint r.2.2]):=by
 refine ⟨by kernel_rfl,yd (us:=[vagg (yq r.1),vint r.2.1,vint r.2.2]) Tryz.func131 Z Z Z Z fun X hN => ?_⟩
 unfold z91 at H
 refine zb hN Z (zi (we 1 wl Z) Z (qe Z (qe Z (zb hN Z (zi (we 2 wl Z) Z (ze (zb hN Z (qd Z (za (qp tyU9 Z) (za (qh Z Z) (zg _ Z (fun h2 => ?_) (fun h2 => ?_))))))))))))
 ·refine tE h2 H fun H=>zb hN Z (zu (wd (u':=vagg (yq (zm.mk [] [] [] [] [] [] 0 0))) (wh (by exact ⟨zr,zr,zr,zr,yu,yu,zr,zr,U⟩)) (vo yn Z Z Z)) Z ?_)
  refine zi (yp yn Z Z Z Z) Z (qe Z (qe Z (zh ?_)))
  cases H
  exact ⟨U,.inl ⟨_,_,_,yq (zm.mk [] [] [] [] [] [] 0 0),Z,Z,Z,Z,yn⟩,.inl Z,.inl Z,U⟩
 ·refine fE h2 H fun H=>zk (zb hN Z (za (ye (u':=vlst (List.map zo [[105,100],[115,117,98,106,101,99,116],[105,115,115,117,101,114],[112,97,114,101,110,116],[102,111,114],[109,97,121],[116,105,109,101]])) (qa [[_],[_],[_],[_],[_],[_],[_]] qn ⟨Z,.inl ⟨_,Z,Z,Z⟩,Z,Z,.inl ⟨_,Z,Z,Z⟩,Z,Z,.inl ⟨_,Z,Z,Z⟩,Z,Z,.inl ⟨_,Z,Z,Z⟩,Z,Z,.inl ⟨_,Z,Z,Z⟩,Z,Z,.inl ⟨_,Z,Z,Z⟩,Z,Z,.inl ⟨_,Z,Z,Z⟩,Z,U⟩ Z Z) Z) (qe Z (zb hN Z (qe Z (yf (ι:=Bs×Bs×Bs×Bs×(List Bs)×(List Bs)×Int×Int) (fun i=>[(2,.ptr 1 0),(5,.ptr 2 0)]) (fun i=>[(1,.box none 39 [.dat (vstr []),.dat (vstr []),.dat (vstr []),.dat (vstr []),.dat (vnil),.dat (vnil),.dat (vint 0),.dat (vint 0)]),(2,.box none 39 [.dat (vstr i.1),.dat (vstr i.2.1),.dat (vstr i.2.2.1),.dat (vstr i.2.2.2.1),.dat (vlst (List.map zo i.2.2.2.2.1)),.dat (vlst (List.map zo i.2.2.2.2.2.1)),.dat (vint i.2.2.2.2.2.2.1),.dat (vint i.2.2.2.2.2.2.2)])]) (fun i=>y1c i.1 i.2.1 i.2.2.1 i.2.2.2.1 i.2.2.2.2.1 i.2.2.2.2.2.1 i.2.2.2.2.2.2.1 i.2.2.2.2.2.2.2=some r) (fun i=>Z) ?_ ?_))))))
  ·skip
   refine zb hN Z (qe Z (zx (y9s 2 4 (.dat (vlst [])) Z Z (fun g w M v h=>yu w M v h) (y9s 2 5 (.dat (vlst [])) Z Z (fun g w M v h=>yu w M v h) (Zq (fun (s:Bs×Int×Int×Bs×Bs×Bs×Bs×(List Bs)×(List Bs)×Int×Int)=>[(0,.dat (vstr s.1)),(2,.ptr 1 0),(5,.ptr 2 0),(6,.dat (vlst (List.map zo ([[105,100],[115,117,98,106,101,99,116],[105,115,115,117,101,114],[112,97,114,101,110,116],[102,111,114],[109,97,121],[116,105,109,101]])))),(7,.dat (vint s.2.1)),(8,.dat (vint s.2.2.1))]) (fun (s:Bs×Int×Int×Bs×Bs×Bs×Bs×(List Bs)×(List Bs)×Int×Int)=>[(1,.box none 39 [.dat (vstr []),.dat (vstr []),.dat (vstr []),.dat (vstr []),.dat (vnil),.dat (vnil),.dat (vint 0),.dat (vint 0)]),(2,.box none 39 [.dat (vstr s.2.2.2.1),.dat (vstr s.2.2.2.2.1),.dat (vstr s.2.2.2.2.2.1),.dat (vstr s.2.2.2.2.2.2.1),.dat (vlst (List.map zo s.2.2.2.2.2.2.2.1)),.dat (vlst (List.map zo s.2.2.2.2.2.2.2.2.1)),.dat (vint s.2.2.2.2.2.2.2.2.2.1),.dat (vint s.2.2.2.2.2.2.2.2.2.2)])]) (v1,0,0,[],[],[],[],([]:(List Bs)),([]:(List Bs)),0,0) H ⟨Z,Z,Z,Z,Z,Z,U⟩ ⟨Z,Z,U⟩ (fun _=>Z) ?_)))))
   rintro ⟨v3,v4,v5,c6,c7,c8,c9,c10,c11,c12,c13⟩ q14 H hq14
   replace H:Zm v3 v4 v5 c6 c7 c8 c9 c10 c11 c12 c13=some q14:=H
   unfold Zm at H
   refine ze (zx (ze (zb hN Z (qd Z (za (wy Z Z) (zg _ Z (fun h15 => ?_) (fun h15 => ?_)))))))
   ·refine tE h15 H fun H=>ze (zb hN Z (qd Z (qd Z (za (yo qm Z) (za (ql Z Z) (zg _ Z (fun h16 => ?_) (fun h16 => ?_)))))))
    ·refine tE h16 H fun H=>qg ?_
     replace H:=outl H hq14
     exact ⟨(c6,c7,c8,c9,c10,c11,c12,c13),H,⟨Z,Z,U⟩,⟨Z,Z,U⟩⟩
    ·refine fE h16 H fun H=>zk (zb hN Z (za (wd (u':=vagg (yq (zm.mk [] [] [] [] [] [] 0 0))) (wh (by exact ⟨zr,zr,zr,zr,yu,yu,zr,zr,U⟩)) (qt [] wl je Z U)) ?_))
     refine qd Z (zi (yp yn Z Z Z Z) Z (qe Z (qe Z (zh ?_))))
     replace H:=retl H hq14
     cases H
     exact ⟨U,.inl ⟨_,_,_,yq (zm.mk [] [] [] [] [] [] 0 0),Z,Z,Z,Z,yn⟩,.inl Z,.inl Z,U⟩
   ·refine fE h15 H fun H=>zk (zb hN Z (qd Z (bE H fun r17 h18 H=>za (zl (y4t v3 [10] r17 h18) ⟨.inl Z,.inl Z,U⟩) (qd Z (za (ym Z Z) (za (ym Z Z) (za (ym Z Z) (qe Z (qe Z (qe Z (zb hN Z (qd Z (bE H fun r19 h20 H=>za (zl (Qi r17.1 [32] r19 h20) ⟨.inl Z,.inl Z,U⟩) (qe Z (zb hN Z (qd Z (qd Z (bE H fun x21 h22 H=>za (qu qv (fun _=>Z) Z Z h22) (za (yj tyS9 Z (yy h22) Z) ?_)))))))))))))))))))
    refine bE H fun r23 h24 H=>za (zl (x4g ([[105,100],[115,117,98,106,101,99,116],[105,115,115,117,101,114],[112,97,114,101,110,116],[102,111,114],[109,97,121],[116,105,109,101]]) x21 r23 h24) ⟨.inl Z,.inl Z,U⟩) (qe Z (zb hN Z (qd Z (qd Z (qd Z (qd Z (za (x89 Z Z) (bE H fun l25 h26 H=>za (z1d qv (fun _=>Z) Z Z Z h26) (qe Z (zb hN Z (qd Z (bE H fun r27 h28 H=>za (x9q (y8n l25 (fun (a0:Bs)=>z5o a0) 185 [] (fun a0 r h=>w5c a0 r h) r27 h28) ⟨.inl (.inl Z),.inr ⟨_,Z,Z⟩,U⟩) (qe Z (ze (yf (ι:=Bool×Bs×Bs×Bs×Bs×(List Bs)×(List Bs)×Int×Int) (fun i=>[(2,.ptr 1 0),(5,.ptr 2 0),(6,.dat (vlst (List.map zo ([[105,100],[115,117,98,106,101,99,116],[105,115,115,117,101,114],[112,97,114,101,110,116],[102,111,114],[109,97,121],[116,105,109,101]])))),(8,.dat (vint v5)),(10,.dat (vstr r17.2.1)),(13,.dat (vint r23)),(71,.dat (zj i.1))]) (fun i=>[(1,.box none 39 [.dat (vstr []),.dat (vstr []),.dat (vstr []),.dat (vstr []),.dat (vnil),.dat (vnil),.dat (vint 0),.dat (vint 0)]),(2,.box none 39 [.dat (vstr i.2.1),.dat (vstr i.2.2.1),.dat (vstr i.2.2.2.1),.dat (vstr i.2.2.2.2.1),.dat (vlst (List.map zo i.2.2.2.2.2.1)),.dat (vlst (List.map zo i.2.2.2.2.2.2.1)),.dat (vint i.2.2.2.2.2.2.2.1),.dat (vint i.2.2.2.2.2.2.2.2)])]) (fun i=>Yk v5 r17 r23 i.1 i.2.1 i.2.2.1 i.2.2.2.1 i.2.2.2.2.1 i.2.2.2.2.2.1 i.2.2.2.2.2.2.1 i.2.2.2.2.2.2.2.1 i.2.2.2.2.2.2.2.2=some q14) (fun i=>Z) ?_ ?_)))))))))))))))
    ·skip
     refine zq hN Z (qd Z (za (yt Z) (qd Z (yh (j:=2) Z Z (fun h29 => ?_) (fun h29 => ?_) Z))))
     ·refine u3 h29 H fun h30 H=>zd Z Z h29 (zf (.dat _) Z) (zd Z Z h29 (zf (.dat _) Z) (zd Z Z h29 (zy Z Z) (za (yb Z (bFF h30) Z) (qd Z (yh (j:=7) Z Z (fun h31 => ?_) (fun h31 => ?_) Z)))))
      ·refine u3 h31 H fun h32 H=>zd Z Z h31 (zf (.dat _) Z) (za (yb Z (bFF h32) Z) (qd Z (yh (j:=10) Z Z (fun h33 => ?_) (fun h33 => ?_) Z)))
       ·refine u3 h33 H fun h34 H=>zd Z Z h33 (zf (.dat _) Z) (bE H fun r35 h36 H=>zd Z Z h33 (zl (y4u r19 [] r35 h36) ⟨.inl Z,.inl Z,U⟩) (za (yb Z (bFF h34) Z) (qd Z (yh (j:=14) Z Z (fun h37 => ?_) (fun h37 => ?_) Z))))
        ·exact u3 h37 H fun h38 H=>zd Z Z h37 (zf (.dat _) Z) (bE H fun r39 h40 H=>x1v Z Z h37 (yk (w4u (zm.mk c6 c7 c8 c9 c10 c11 c12 c13) r19 r39 h40) Z ⟨.inl Z,U⟩ Z) Z (zd Z Z h37 (yt Z) (za (yb Z (bFF h38) Z) ⟨(!r39.1,r39.2.Id,r39.2.Subject,r39.2.Issuer,r39.2.Parent,r39.2.Audience,r39.2.Scopes,r39.2.From,r39.2.To),H,⟨Z,Z,Z,Z,Z,Z,Z,U⟩,⟨Z,Z,U⟩⟩)))
        ·exact u4 h37 H fun h41 H=>zc Z Z h37 (zc Z Z h37 (zc Z Z h37 (za (zz Z (bTT h41) Z) ⟨(true,c6,c7,c8,c9,c10,c11,c12,c13),H,⟨Z,Z,Z,Z,Z,Z,Z,U⟩,⟨Z,Z,U⟩⟩)))
       ·exact u4 h33 H fun h42 H=>zc Z Z h33 (zc Z Z h33 (za (zz Z (bTT h42) Z) (qd Z (zc Z Z Z (zc Z Z Z (zc Z Z Z (za (zz Z Z Z) ⟨(true,c6,c7,c8,c9,c10,c11,c12,c13),H,⟨Z,Z,Z,Z,Z,Z,Z,U⟩,⟨Z,Z,U⟩⟩)))))))
      ·exact u4 h31 H fun h43 H=>zc Z Z h31 (za (zz Z (bTT h43) Z) (qd Z (zc Z Z Z (zc Z Z Z (za (zz Z Z Z) (qd Z (zc Z Z Z (zc Z Z Z (zc Z Z Z (za (zz Z Z Z) ⟨(true,c6,c7,c8,c9,c10,c11,c12,c13),H,⟨Z,Z,Z,Z,Z,Z,Z,U⟩,⟨Z,Z,U⟩⟩))))))))))
     ·exact u4 h29 H fun h44 H=>zc Z Z h29 (zc Z Z h29 (zc Z Z h29 (za (zz Z (bTT h44) Z) (qd Z (zc Z Z Z (za (zz Z Z Z) (qd Z (zc Z Z Z (zc Z Z Z (za (zz Z Z Z) (qd Z (zc Z Z Z (zc Z Z Z (zc Z Z Z (za (zz Z Z Z) ⟨(true,c6,c7,c8,c9,c10,c11,c12,c13),H,⟨Z,Z,Z,Z,Z,Z,Z,U⟩,⟨Z,Z,U⟩⟩)))))))))))))))
    ·rintro ⟨v45,c46,c47,c48,c49,c50,c51,c52,c53⟩ H
     replace H:Yk v5 r17 r23 v45 c46 c47 c48 c49 c50 c51 c52 c53=some q14:=H
     unfold Yk at H
     refine zg _ Z (fun h54 => ?_) (fun h54 => ?_)
     ·refine tE h54 H fun H=>zb hN Z (za (wd (u':=vagg (yq (zm.mk [] [] [] [] [] [] 0 0))) (wh (by exact ⟨zr,zr,zr,zr,yu,yu,zr,zr,U⟩)) (qt [] wl je Z U)) ?_)
      refine qd Z (zi (yp yn Z Z Z Z) Z (qe Z (qe Z (zh ?_))))
      replace H:=retl H hq14
      cases H
      exact ⟨U,.inl ⟨_,_,_,yq (zm.mk [] [] [] [] [] [] 0 0),Z,Z,Z,Z,yn⟩,.inl Z,.inl Z,U⟩
     ·exact fE h54 H fun H=>zk (zq hN Z (qd Z (za (yw _ Z Z (.inl ⟨Z,Z⟩)) (qd Z (qe Z (qe Z (zq hN Z (qd Z (za (yw _ Z Z (.inl ⟨Z,Z⟩)) (qe Z ⟨_,qk H,⟨Z,Z,Z,Z,Z,Z,U⟩,⟨Z,Z,U⟩⟩))))))))))
  ·rintro ⟨c55,c56,c57,c58,c59,c60,c61,c62⟩ H
   replace H:y1c c55 c56 c57 c58 c59 c60 c61 c62=some r:=H
   unfold y1c at H
   refine ze (zb hN Z (zu (vo yn Z Z Z) Z (bE H fun r63 h64 H=>za (zl (x4y (zm.mk c55 c56 c57 c58 c59 c60 c61 c62) r63 h64) ⟨.inl Z,U⟩) (qe Z (zb hN Z (qd Z (za (wa Z Z) (zg _ Z (fun h65 => ?_) (fun h65 => ?_)))))))))
   ·refine tE h65 H fun H=>zb hN Z (za (wd (u':=vagg (yq (zm.mk [] [] [] [] [] [] 0 0))) (wh (by exact ⟨zr,zr,zr,zr,yu,yu,zr,zr,U⟩)) (qt [] wl je Z U)) ?_)
    refine qd Z (zi (yp yn Z Z Z Z) Z (qe Z (qe Z (zh ?_))))
    cases H
    exact ⟨U,.inl ⟨_,_,_,yq (zm.mk [] [] [] [] [] [] 0 0),Z,Z,Z,Z,yn⟩,.inl Z,.inl Z,U⟩
   ·refine fE h65 H fun H=>zk (zb hN Z (zu (vo yn Z Z Z) Z (zi (yp yn Z Z Z Z) Z (qe Z (qe Z (zh ?_))))))
    cases H
    exact ⟨U,.inl ⟨_,_,_,yq (zm.mk c55 c56 c57 c58 c59 c60 c61 c62),Z,Z,Z,Z,yn⟩,.inl Z,.inl Z,U⟩
theorem w43 (v1:(List ya)) (v2:Bs) (v3:Int) (r:(zm×Int)) (H:z9t v1 v2 v3=some r):Fn Tryz.prog 61 [vlst (List.map wg v1),vstr v2,vint v3] (zw [vagg (yq r.1),vint r.2]):=by
 refine ⟨by kernel_rfl,yd (us:=[vagg (yq r.1),vint r.2]) Tryz.func61 Z Z Z Z fun X hN => ?_⟩
 unfold z9t at H
 refine zb hN Z (zi (we 1 wl Z) Z (qe Z (ze (zb hN Z (qd Z (bE H fun r4 h5 H=>za (zl (y8r v3 r4 h5) ⟨.inl Z,U⟩) (za (yt Z) (zg _ Z (fun h6 => ?_) (fun h6 => ?_)))))))))
 ·refine tE h6 H fun H=>zb hN Z (za (wd (u':=vagg (yq (zm.mk [] [] [] [] [] [] 0 0))) (wh (by exact ⟨zr,zr,zr,zr,yu,yu,zr,zr,U⟩)) (qt [] wl je Z U)) ?_)
  refine zi (yp yn Z Z Z Z) Z (qe Z (zh ?_))
  cases H
  exact ⟨U,.inl ⟨_,_,_,yq (zm.mk [] [] [] [] [] [] 0 0),Z,Z,Z,Z,yn⟩,.inl Z,U⟩
 ·refine fE h6 H fun H=>zk (zb hN Z (qd Z (bE H fun r7 h8 H=>za (zl (Qi v2 [46] r7 h8) ⟨.inl Z,.inl Z,U⟩) (zi (we 2 x0d Z) Z (zi (wn qq Z Z Z Z) Z (ze (yf (ι:=Bool) (fun i=>[(0,.dat (vlst (List.map wg v1))),(2,.dat (vint v3)),(6,.ptr 1 0),(8,.ptr 2 0),(29,.dat (zj i))]) (fun i=>[(1,.box none 39 [.dat (vstr []),.dat (vstr []),.dat (vstr []),.dat (vstr []),.dat (vnil),.dat (vnil),.dat (vint 0),.dat (vint 0)]),(2,.box none 37 [.dat (vlst (List.map zo r7))])]) (fun i=>z0l v1 v3 r7 i=some r) (fun i=>Z) ?_ ?_)))))))
  ·skip
   refine zq hN Z (zu (zp qq Z Z) Z (za (yo qm Z) (za (wa Z Z) (qd Z (yh (j:=3) Z Z (fun h9 => ?_) (fun h9 => ?_) Z)))))
   ·exact u3 h9 H fun h10 H=>vj Z Z h9 (zp qq Z Z) Z (bE H fun x11 h12 H=>zd Z Z h9 (qu qv (fun _=>Z) Z Z h12) (zd Z Z h9 (yj tyS9 Z (yy h12) Z) (bE H fun r13 h14 H=>zd Z Z h9 (zl (xv x11 r13 h14) ⟨.inl Z,U⟩) (zd Z Z h9 (yt Z) (za (yb Z (bFF h10) Z) ⟨!r13,H,⟨Z,Z,Z,Z,Z,U⟩,⟨Z,Z,U⟩⟩)))))
   ·exact u4 h9 H fun h15 H=>zc Z Z h9 (zc Z Z h9 (zc Z Z h9 (zc Z Z h9 (zc Z Z h9 (za (zz Z (bTT h15) Z) ⟨true,H,⟨Z,Z,Z,Z,Z,U⟩,⟨Z,Z,U⟩⟩)))))
  ·rintro v16 H
   replace H:z0l v1 v3 r7 v16=some r:=H
   unfold z0l at H
   refine zg _ Z (fun h17 => ?_) (fun h17 => ?_)
   ·refine tE h17 H fun H=>zb hN Z (za (wd (u':=vagg (yq (zm.mk [] [] [] [] [] [] 0 0))) (wh (by exact ⟨zr,zr,zr,zr,yu,yu,zr,zr,U⟩)) (qt [] wl je Z U)) ?_)
    refine zi (yp yn Z Z Z Z) Z (qe Z (zh ?_))
    cases H
    exact ⟨U,.inl ⟨_,_,_,yq (zm.mk [] [] [] [] [] [] 0 0),Z,Z,Z,Z,yn⟩,.inl Z,U⟩
   ·refine fE h17 H fun H=>zk (ze (xg 2 [vlst (List.map zo r7)] Z Z (zq hN Z (qd Z (za (Zd (us:=[_]) ⟨Z,U⟩) (bE H fun r18 h19 H=>za (zl (y8l v1 (fun (a0:ya)=>z5k a0 r7) 129 [wv [[vlst (List.map zo r7)]] 0 0] (fun a0 r h=>w42 a0 r7 r h) r18 h19) ⟨.inl Z,.inl Z,U⟩) (qe Z (ze (zb hN Z (qd Z (za (zy Z Z) (zg _ Z (fun h20 => ?_) (fun h20 => ?_)))))))))))))
    ·refine tE h20 H fun H=>zb hN Z (za (wd (u':=vagg (yq (zm.mk [] [] [] [] [] [] 0 0))) (wh (by exact ⟨zr,zr,zr,zr,yu,yu,zr,zr,U⟩)) (qt [] wl je Z U)) ?_)
     refine zi (yp yn Z Z Z Z) Z (qe Z (zh ?_))
     cases H
     exact ⟨U,.inl ⟨_,_,_,yq (zm.mk [] [] [] [] [] [] 0 0),Z,Z,Z,Z,yn⟩,.inl Z,U⟩
    ·refine fE h20 H fun H=>zk (ze (ze (wx mixed hN Z Z (qd Z (qd Z (bE H fun x21 h22 H=>za (jm uc (fun _=>Z) Z Z h22) (za (vr z33 Z) (za (yj tyS9 Z (yy (vu h22).2) Z) (za (yj qq Z Z Z) (bE H fun x23 h24 H=>za (qu qv (fun _=>Z) Z Z h24) (za (yj tyS9 Z (yy h24) Z) (gE H fun h25 H=>za (wt Z Z (Nat.le_trans h25 (by decide))) (za (yj qq Z Z Z) (bE H fun x26 h27 H=>za (qu qv (fun _=>Z) Z Z h27) (za (yj tyS9 Z (yy h27) Z) (gE H fun h28 H=>za (wt Z Z (Nat.le_trans h28 (by decide))) (bE H fun r29 h30 H=>?_)))))))))))))))))
     refine za (zl (z2f x21.Secret ((x23++[46])++x26) r29 h30) ⟨.inl Z,.inl Z,U⟩) (za (yj qq Z Z Z) (bE H fun x31 h32 H=>za (qu qv (fun _=>Z) Z Z h32) (za (yj tyS9 Z (yy h32) Z) (za (jj Z Z) ⟨Z,?_⟩))))
     refine zg _ Z (fun h33 => ?_) (fun h33 => ?_)
     ·refine tE h33 H fun H=>zb hN Z (za (wd (u':=vagg (yq (zm.mk [] [] [] [] [] [] 0 0))) (wh (by exact ⟨zr,zr,zr,zr,yu,yu,zr,zr,U⟩)) (qt [] wl je Z U)) ?_)
      refine zi (yp yn Z Z Z Z) Z (qe Z (zh ?_))
      cases H
      exact ⟨U,.inl ⟨_,_,_,yq (zm.mk [] [] [] [] [] [] 0 0),Z,Z,Z,Z,yn⟩,.inl Z,U⟩
     ·refine fE h33 H fun H=>zk (zb hN Z (za (yj qq Z Z Z) (za (qu qv (fun _=>Z) Z Z h27) (za (yj tyS9 Z (yy h27) Z) (bE H fun r34 h35 H=>za (zl (w5a x26 r34 h35) ⟨.inl Z,U⟩) (qd Z (za (ym Z Z) (za (ym Z Z) (qe Z (qe Z (ze (zb hN Z (qd Z (za (wa Z Z) (zg _ Z (fun h36 => ?_) (fun h36 => ?_))))))))))))))))
      ·refine tE h36 H fun H=>zb hN Z (za (wd (u':=vagg (yq (zm.mk [] [] [] [] [] [] 0 0))) (wh (by exact ⟨zr,zr,zr,zr,yu,yu,zr,zr,U⟩)) (qt [] wl je Z U)) ?_)
       refine qd Z (zi (yp yn Z Z Z Z) Z (qe Z (zh ?_)))
       cases H
       exact ⟨U,.inl ⟨_,_,_,yq (zm.mk [] [] [] [] [] [] 0 0),Z,Z,Z,Z,yn⟩,.inl Z,U⟩
      ·refine fE h36 H fun H=>zk (zb hN Z (qd Z (bE H fun r37 h38 H=>za (zl (w5d r34.1 r37 h38) ⟨.inl Z,U⟩) (qd Z (za (ym Z Z) (za (ym Z Z) (za (ym Z Z) (zi (we 3 wl Z) Z (zi (yp yn Z Z Z Z) Z (qe Z (qe Z (yf (ι:=Int) (fun i=>[(6,.ptr 1 0),(11,.dat (vint i)),(12,.ptr 3 0)]) (fun i=>[(1,.box none 39 [.dat (vstr []),.dat (vstr []),.dat (vstr []),.dat (vstr []),.dat (vnil),.dat (vnil),.dat (vint 0),.dat (vint 0)]),(3,.box none 39 [.dat (vstr r37.1.Id),.dat (vstr r37.1.Subject),.dat (vstr r37.1.Issuer),.dat (vstr r37.1.Parent),.dat (vlst (List.map zo r37.1.Audience)),.dat (vlst (List.map zo r37.1.Scopes)),.dat (vint r37.1.From),.dat (vint r37.1.To)])]) (fun i=>z6m r37 i=some r) (fun i=>Z) ?_ ?_))))))))))))
       ·skip
        refine yf (ι:=Bool) (fun i=>[(6,.ptr 1 0),(11,.dat (vint r37.2.2)),(12,.ptr 3 0),(93,.dat (zj i))]) (fun i=>[(1,.box none 39 [.dat (vstr []),.dat (vstr []),.dat (vstr []),.dat (vstr []),.dat (vnil),.dat (vnil),.dat (vint 0),.dat (vint 0)]),(3,.box none 39 [.dat (vstr r37.1.Id),.dat (vstr r37.1.Subject),.dat (vstr r37.1.Issuer),.dat (vstr r37.1.Parent),.dat (vlst (List.map zo r37.1.Audience)),.dat (vlst (List.map zo r37.1.Scopes)),.dat (vint r37.1.From),.dat (vint r37.1.To)])]) (fun i=>z2s r37 i=some r) (fun i=>Z) ?_ ?_
        ·skip
         refine zq hN Z (qd Z (za (ql Z Z) (qd Z (yh (j:=2) Z Z (fun h39 => ?_) (fun h39 => ?_) Z))))
         ·refine u1 h39 H fun h40 H=>zd Z Z h39 (zf (.dat _) Z) (zd Z Z h39 (zf (.dat _) Z) (zd Z Z h39 (jm uc (fun _=>Z) Z Z h22) (zd Z Z h39 (vr Zw Z) (zd Z Z h39 (yj tyS3 Z (yy (vu h22).2) Z) (zd Z Z h39 (zf (.dat _) Z) (zd Z Z h39 (vq Z Z) (zd Z Z h39 (zf (.dat _) Z) (yh (j:=10) Z Z (fun h41 => ?_) (fun h41 => ?_) Z))))))))
          ·exact u1 h41 H fun h42 H=>zd Z Z h41 (zf (.dat _) Z) (zd Z Z h41 (zf (.dat _) Z) (zd Z Z h41 (zf (.dat _) Z) (zd Z Z h41 (jm uc (fun _=>Z) Z Z h22) (zd Z Z h41 (vr Wd Z) (zd Z Z h41 (yj tyS3 Z (yy (vu h22).2) Z) (zd Z Z h41 (zy Z Z) (zd Z Z h39 (zz Z (bTT h42) Z) (zd Z Z h39 (yt Z) (za (zz Z (bTT h40) Z) ⟨!(decide (v3 < x21.Until)),H,⟨Z,Z,Z,Z,U⟩,⟨Z,Z,U⟩⟩)))))))))
          ·exact u2 h41 H fun h43 H=>zc Z Z h41 (zc Z Z h41 (zc Z Z h41 (zc Z Z h41 (zc Z Z h41 (zc Z Z h41 (zc Z Z h41 (zd Z Z h39 (yb Z (bFF h43) Z) (zd Z Z h39 (yt Z) (za (zz Z (bTT h40) Z) ⟨!false,H,⟨Z,Z,Z,Z,U⟩,⟨Z,Z,U⟩⟩)))))))))
         ·exact u2 h39 H fun h44 H=>zc Z Z h39 (zc Z Z h39 (zc Z Z h39 (zc Z Z h39 (zc Z Z h39 (zc Z Z h39 (zc Z Z h39 (zc Z Z h39 (yg Z Z (yg Z Z (yg Z Z (yg Z Z (yg Z Z (yg Z Z (yg Z Z (zc Z Z h39 (zc Z Z h39 (za (yb Z (bFF h44) Z) ⟨false,H,⟨Z,Z,Z,Z,U⟩,⟨Z,Z,U⟩⟩)))))))))))))))))
        ·rintro v45 H
         replace H:z2s r37 v45=some r:=H
         unfold z2s at H
         refine zg _ Z (fun h46 => ?_) (fun h46 => ?_)
         ·exact tE h46 H fun H=>zq hN Z (qe Z ⟨11,H,⟨Z,Z,Z,U⟩,⟨Z,Z,U⟩⟩)
         ·exact fE h46 H fun H=>zk ⟨r37.2.2,H,⟨Z,Z,Z,U⟩,⟨Z,Z,U⟩⟩
       ·rintro v47 H
        replace H:z6m r37 v47=some r:=H
        unfold z6m at H
        refine ze (zb hN Z (qd Z (za (wa Z Z) (zg _ Z (fun h48 => ?_) (fun h48 => ?_)))))
        ·refine tE h48 H fun H=>zb hN Z (za (wd (u':=vagg (yq (zm.mk [] [] [] [] [] [] 0 0))) (wh (by exact ⟨zr,zr,zr,zr,yu,yu,zr,zr,U⟩)) (qt [] wl je Z U)) ?_)
         refine qd Z (zi (yp yn Z Z Z Z) Z (qe Z (zh ?_)))
         cases H
         exact ⟨U,.inl ⟨_,_,_,yq (zm.mk [] [] [] [] [] [] 0 0),Z,Z,Z,Z,yn⟩,.inl Z,U⟩
        ·refine fE h48 H fun H=>zk (zb hN Z (zu (vo yn Z Z Z) Z (zi (yp yn Z Z Z Z) Z (qe Z (zh ?_)))))
         cases H
         exact ⟨U,.inl ⟨_,_,_,yq r37.1,Z,Z,Z,Z,yn⟩,.inl Z,U⟩
theorem w5f (r1:qf) (c2:zm) (c3:Int) (r:(Bool)) (H:z93 r1 c2 c3=some r):Fn Tryz.prog 64 [vagg (jb r1),wv [[vstr c2.Id,vstr c2.Subject,vstr c2.Issuer,vstr c2.Parent,vlst (List.map zo c2.Audience),vlst (List.map zo c2.Scopes),vint c2.From,vint c2.To]] 0 0,wv [[vint c3]] 0 0] (zw [zj r]):=by
 refine ⟨by kernel_rfl,yd (us:=[zj r]) Tryz.func64 Z Z Z Z fun X hN => ?_⟩
 unfold z93 at H
 refine zb hN Z (zi (jf 1 Z) Z (qe Z (zb hN Z (za (zn Zt Z) (zu (zp tyS9 Z Z) Z (za (vr z0z Z) (za (yj tyS9 Z Z Z) (za (wy Z Z) (qd Z (yi Z Z (fun hc=>zn Zt Z) (jk Z Z (fun hc=>zp tyS9 (cnd (c:=(!(decide (r1.Id=c2.Id)))) hc) Z) Z vv (yi Z Z (fun hc=>vr Zv Z) (yi Z Z (fun hc=>yj tyS9 (cnd (c:=(!(decide (r1.Id=c2.Id)))) hc) Z Z) (yi Z Z (fun hc=>wy (cnd (c:=(!(decide (r1.Id=c2.Id)))) hc) (cnd (c:=(!(decide (r1.Id=c2.Id)))) hc)) (za (wz Z Z (fun hb=>(cnd (c:=(!(decide (r1.Id=c2.Id)))) (notI hb)))) (qd Z (qj Z Z (fun hc=>zn y18 Z) (z4i Z Z (fun hc=>zp tyS3 (cnd (c:=((decide (r1.Id=c2.Id)) || (decide (r1.Id=c2.Parent)))) hc) Z) Z vv (qj Z Z (fun hc=>yj tyS3 Z Z Z) (qj Z Z (fun hc=>vq (cnd (c:=((decide (r1.Id=c2.Id)) || (decide (r1.Id=c2.Parent)))) hc) (cnd (c:=((decide (r1.Id=c2.Id)) || (decide (r1.Id=c2.Parent)))) hc)) (za (vi Z (fun hb=>(cnd (c:=((decide (r1.Id=c2.Id)) || (decide (r1.Id=c2.Parent)))) hb)) Z) (qe Z (zh ?_)))))))))))))))))))))))
 cases H
 exact ⟨U,.inl Z,U⟩
end Go.Proofs.YtndabcepiekebaaGreatDoor
