/- Walks along the models. Printed by a program. -/
import Derived.Test.YtbndlmnjeofkdabGreatDoorZvw1
namespace Go.Proofs.YtbndlmnjeofkdabGreatDoor
open Go.RowKit
set_option linter.unusedVariables false
set_option maxRecDepth 100000
set_option maxHeartbeats 2000000
theorem y15 (s1:(List Bs)) (p1:Bs→Option (Bool)) (fv1:Nat) (us1:List V) (hp1:∀ a0 r,p1 a0=some r→Fn Tryz.prog fv1 ([vstr a0]++us1) (zo [zk r])) (r:((List Bs))) (H:z0v s1 p1=some r):FnG Tryz.prog 72 [.row 0 s1.length,.dat (vfn fv1 us1)] [(0,.row 9 1 (List.map zi s1))] (.row 900 r.length) [(900,.row 9 1 (List.map zi r))]:=by
 refine ji (by kernel_rfl) Tryz.func72 Z Z Z Z fun X A hN => ?_
 unfold z0v at H
 refine zb hN Z (qe Z (zb hN Z (za (zd (.row _ _) Z) (qd Z (bE H fun r2 h3 H=>zp (z4x (id:=0) (es:=List.map zi s1) (z6l s1 p1 fv1 us1 hp1 r2 h3) ⟨.inr ⟨(congrArg (Slot.row 0) (by rw [List.length_map]):Slot.row 0 s1.length=_),Z⟩,.inl (.inl (.inl Z)),U⟩ (fun _ _ _ _ h=>h)) Z ?_)))))
 refine qe Z (ze (zb hN Z (qd Z (za (qy Z Z) (zg _ Z (fun h4 => ?_) (fun h4 => ?_))))))
 ·refine tE h4 H fun H=>zb hN Z (za (zd (.row _ _) Z) (za (yj (.row _ _) Z) (z1j 4 0 900 Z Z (by rw [List.length_map]) Z ?_)))
  refine zh ?_
  cases H
  exact ⟨U,[(4,.row 900 _)],⟨Z,U⟩,⟨Z,U⟩,Z,.inr (.inl ⟨4,Z,Z⟩)⟩
 ·refine fE h4 H fun H=>zl (yp (ι:=Int×(List Bs)) (fun i=>[(0,.row 0 i.2.length),(5,.dat (vint i.1))]) (fun i=>[(0,.row 9 1 (List.map zi i.2))]) (fun i=>z0g i.1 i.2=some r) (fun i=>Z) ?_ ?_)
  ·skip
   refine zb hN Z (qd Z (za (ye _ Z Z (.inl ⟨Z,Z⟩)) (qe Z (zw (xg (fun (s:Int×Int×(List Bs))=>[(0,.row 0 s.2.2.length),(1,.dat (vfn fv1 us1)),(5,.dat (vint s.1)),(6,.dat (vint s.2.1))]) (fun (s:Int×Int×(List Bs))=>[(0,.row 9 1 (List.map zi s.2.2))]) (r2,wr (r2+1),s1) H ⟨Z,Z,Z,Z,U⟩ ⟨Z,U⟩ (fun _=>Z) ?_)))))
   rintro ⟨i5,j6,l7⟩ q8 H hq8
   replace H:z2k p1 i5 j6 l7=some q8:=H
   unfold z2k at H
   refine ze (zb hN Z (qd Z (za (zd (.row _ _) Z) (zp (z0a qc Z Z) Z (za (zx Z Z) (zg _ Z (fun h9 => ?_) (fun h9 => ?_)))))))
   ·refine tE h9 H fun H=>zl (yp (ι:=Int×(List Bs)) (fun i=>[(0,.row 0 i.2.length),(1,.dat (vfn fv1 us1)),(5,.dat (vint i.1)),(6,.dat (vint j6))]) (fun i=>[(0,.row 9 1 (List.map zi i.2))]) (fun i=>Yh j6 i.1 i.2=some q8) (fun i=>Z) ?_ ?_)
    ·skip
     refine zw (zb hN Z (za (zd (.row _ _) Z) (qd Z (bE H fun x10 h11 H=>zp (vd qt Z Z Z h11) Z (zp (Ya tyS9 Z Z (yn h11).2 Z) Z (qe Z (zb hN Z (qd Z (qd Z (bE H fun r12 h13 H=>za (ke (hp1 x10 r12 h13) Z ⟨.inl Z,U⟩) (za (yy Z) (zg _ Z (fun h14 => ?_) (fun h14 => ?_)))))))))))))
     ·exact tE h14 H fun H=>zb hN Z (za (zd (.row _ _) Z) (qd Z (qd Z (bE H fun x15 h16 H=>zp (vd qt Z Z Z h16) Z (zj (Zz x10 tyS9 Z Z Z Z (yn h16).2 Z Z) Z (zt hN Z (qd Z (za (ye _ Z Z (.inl ⟨Z,Z⟩)) (qe Z ⟨(wr (i5+1),(l7.set i5.toNat x10)),H,⟨congrArg (Slot.row 0) (by simp),Z,Z,Z,U⟩,⟨Z,U⟩⟩)))))))))
     ·exact fE h14 H fun H=>zl ⟨(i5,l7),H,⟨Z,Z,Z,Z,U⟩,⟨Z,U⟩⟩
    ·rintro ⟨i17,s18⟩ H
     replace H:Yh j6 i17 s18=some q8:=H
     unfold Yh at H
     exact zt hN Z (qd Z (za (ye _ Z Z (.inl ⟨Z,Z⟩)) (qe Z ⟨_,yt H,⟨Z,Z,Z,Z,U⟩,⟨Z,U⟩⟩)))
   ·refine fE h9 H fun H=>yv ?_
    replace H:=outl H hq8
    exact ⟨(i5,l7),H,⟨Z,Z,U⟩,⟨Z,U⟩⟩
  ·rintro ⟨i19,s20⟩ H
   replace H:z0g i19 s20=some r:=H
   unfold z0g at H
   refine zb hN Z (za (zd (.row _ _) Z) (qd Z (gE H fun h21 H=>zp (z4l (C:=zi) qt Z Z Z h21) Z (zj (z4n (C:=zi) [] qc tyZ9 Z Z Z Z Z h21) Z (zb hN Z (za (zd (.row _ _) Z) (qd Z (gE H fun h22 H=>z5d (z4m (C:=zi) 1 qt Z (z7e [] h21) Z h22) Z Z (za (yj (.row _ _) Z) (z1j 4 1 900 Z Z (by rw [List.length_map]; exact (z1f h22)) Z ?_))))))))))
   refine zh ?_
   cases H
   exact ⟨U,[(4,.row 900 _)],⟨Z,U⟩,⟨Z,U⟩,Z,.inr (.inl ⟨4,Z,congrArg (Slot.row 900) (by first | exact z1f (by assumption) | (simp <;> omega))⟩)⟩
theorem y2g (a1:Bs) (b2:Bs) (r:(Bool)) (H:Yv a1 b2=some r):Fn Tryz.prog 76 [vstr a1,vstr b2] (zo [zk r]):=by
 refine ⟨by kernel_rfl,yb (us:=[zk r]) Tryz.func76 Z Z Z Z fun X hN => ?_⟩
 unfold Yv at H
 refine zb hN Z (qe Z (ze (zb hN Z (qd Z (qd Z (za (Yb Z Z) (zg _ Z (fun h3 => ?_) (fun h3 => ?_))))))))
 ·refine tE h3 H fun H=>zb hN Z (qe Z (zh ?_))
  cases H
  exact ⟨U,.inl Z,U⟩
 ·refine fE h3 H fun H=>zl (zb hN Z (qd Z (bE H fun r4 h5 H=>za (zr (z6j a1 [42] r4 h5) ⟨.inl Z,.inl Z,U⟩) (qd Z (za (vh Z Z) (za (vh Z Z) (qe Z (qe Z (yp (ι:=Bool) (fun i=>[(4,.dat (zk i))]) (fun i=>[]) (fun i=>xq i=some r) (fun i=>Z) ?_ ?_)))))))))
  ·skip
   refine zt hN Z (qd Z (qd Z (qh (j:=1) Z Z (fun h6 => ?_) (fun h6 => ?_) Z)))
   ·exact u1 h6 H fun h7 H=>zq Z Z h6 (zd (.dat _) Z) (zq Z Z h6 (zd (.dat _) Z) (bE H fun r8 h9 H=>zq Z Z h6 (zr (z6i b2 r4.1 r8 h9) ⟨.inl Z,.inl Z,U⟩) (za (yq Z (bTT h7) Z) (qe Z ⟨r8,H,⟨Z,U⟩,U⟩))))
   ·exact u2 h6 H fun h10 H=>zf Z Z h6 (zf Z Z h6 (zf Z Z h6 (za (yl Z (bFF h10) Z) (qe Z ⟨false,H,⟨Z,U⟩,U⟩))))
  ·rintro v11 H
   replace H:xq v11=some r:=H
   unfold xq at H
   refine zh ?_
   cases H
   exact ⟨U,.inl Z,U⟩
theorem y2c (h1:Bs) (c2:Bs) (r:(Bool)) (H:Yr h1 c2=some r):Fn Tryz.prog 75 [vstr h1,qj [[vstr c2]] 0 0] (zo [zk r]):=by
 refine ⟨by kernel_rfl,yb (us:=[zk r]) Tryz.func75 Z Z Z Z fun X hN => ?_⟩
 unfold Yr at H
 refine zb hN Z (qe Z (yp (ι:=Bool) (fun i=>[(3,.dat (zk i))]) (fun i=>[]) (fun i=>xp i=some r) (fun i=>Z) ?_ ?_))
 ·skip
  refine zt hN Z (qd Z (za (ym tyS9 Z Z Z) (za (ua Z Z) (qd Z (qh (j:=3) Z Z (fun h3 => ?_) (fun h3 => ?_) Z)))))
  ·exact u1 h3 H fun h4 H=>zq Z Z h3 (zd (.dat _) Z) (zq Z Z h3 (ym tyS9 Z Z Z) (bE H fun r5 h6 H=>zq Z Z h3 (zr (y2g h1 c2 r5 h6) ⟨.inl Z,.inl Z,U⟩) (za (yq Z (bTT h4) Z) (qe Z ⟨r5,H,⟨Z,U⟩,U⟩))))
  ·exact u2 h3 H fun h7 H=>zf Z Z h3 (zf Z Z h3 (zf Z Z h3 (za (yl Z (bFF h7) Z) (qe Z ⟨false,H,⟨Z,U⟩,U⟩))))
 ·rintro v8 H
  replace H:xp v8=some r:=H
  unfold xp at H
  refine zh ?_
  cases H
  exact ⟨U,.inl Z,U⟩
theorem y2d (s1:Bs) (c2:(List Bs)) (r:(Bool)) (H:Ys s1 c2=some r):Fn Tryz.prog 74 [vstr s1,qj [[vlst (List.map zi c2)]] 0 0] (zo [zk r]):=by
 refine ⟨by kernel_rfl,yb (us:=[zk r]) Tryz.func74 Z Z Z Z fun X hN => ?_⟩
 unfold Ys at H
 refine zb hN Z (zj (z0d 1 Z Z) Z (qe Z (ze (Zp 1 [vstr s1] Z Z (zt hN Z (za (ym qp Z Z Z) (za (xt (us:=[_]) ⟨Z,U⟩) (bE H fun r3 h4 H=>za (zr (z6o c2 (fun (a0:Bs)=>Yr a0 s1) 75 [qj [[vstr s1]] 0 0] (fun a0 r h=>y2c a0 s1 r h) r3 h4) ⟨.inl Z,.inl Z,U⟩) (qe Z (zh ?_))))))))))
 cases H
 exact ⟨U,.inl Z,U⟩
theorem y2e (l1:(List Bs)) (r:((List Bs))) (H:Yt l1=some r):Fn Tryz.prog 55 [vlst (List.map zi l1)] (zo [vlst (List.map zi r)]):=by
 refine ⟨by kernel_rfl,yb (us:=[vlst (List.map zi r)]) Tryz.func55 Z Z Z Z fun X hN => ?_⟩
 unfold Yt at H
 refine zb hN Z (zj (z0d 1 Z Z) Z (qe Z (zb hN Z (zp (zv qp Z Z) Z (bE H fun r2 h3 H=>za (zr (y2v l1 r2 h3) ⟨.inl Z,U⟩) (zj (ve qp Z Z Z Z) Z (ze (Zp 1 [vlst (List.map zi r2)] Z Z (zt hN Z (za (ym qp Z Z Z) (bE H fun r4 h5 H=>qn (rn [(900,2)]) [] [(900,_)] (z6f r2 r4 h5) ⟨Z,U⟩ ⟨.inl (.inl Z),U⟩ U Z (za (xt (us:=[_]) ⟨Z,U⟩) (bE H fun r6 h7 H=>qn (rn [(0,2),(900,3)]) [(0,_,_,none)] [(900,_)] (y15 r4 (fun (a0:Bs)=>Ys a0 r2) 74 [qj [[vlst (List.map zi r2)]] 0 0] (fun a0 r h=>y2d a0 r2 r h) r6 h7) ⟨Z,Z,U⟩ ⟨.inl (.inl Z),.inl (.inl Z),U⟩ ⟨⟨⟨Z,Z,Z⟩,U⟩,U⟩ Z (za (yj (.row _ _) Z) (zh ?_)))))))))))))))
 cases H
 exact ⟨U,wo Z Z,U⟩
theorem z6m (s1:(List Bs)) (s2:(List Bs)) (r:(Bool)) (H:Za s1 s2=some r):Fn Tryz.prog 39 [vlst (List.map zi s1),vlst (List.map zi s2)] (zo [zk r]):=by
 refine ⟨by kernel_rfl,yb (us:=[zk r]) Tryz.func39 Z Z Z Z fun X hN => ?_⟩
 unfold Za at H
 refine zb hN Z (qe Z (ze (zb hN Z (qd Z (za (yk qc Z) (qd Z (za (yk qc Z) (za (vf Z Z) (zg _ Z (fun h3 => ?_) (fun h3 => ?_))))))))))
 ·refine tE h3 H fun H=>zb hN Z (qe Z (zh ?_))
  cases H
  exact ⟨U,.inl Z,U⟩
 ·refine fE h3 H fun H=>zl (ze (zb hN Z (qd Z (za (yk qc Z) (qd Z (zw (gE H fun h6 H=>qv (fun (k4:Nat) (s:Unit)=>[(0,.dat (vlst (List.map zi s1))),(1,.dat (vlst (List.map zi s2))),(12,.dat (vint (s1.length:Int))),(13,.dat (vint (k4:Int)))]) (fun (k4:Nat) (s:Unit)=>[]) () H ⟨Z,Z,Z,Z,U⟩ U (fun _ _=>Z) ?_ ?_)))))))
  ·rintro ⟨⟩ H
   replace H:z2h=some r:=H
   unfold z2h at H
   refine zb hN Z (za (zx Z Z) (ze (zg _ Z (fun h=>(lt_t h).elim) (fun h => ?_))))
   refine yv (zb hN Z (qe Z (zh ?_)))
   cases H
   exact ⟨U,.inl Z,U⟩
  ·rintro k4 x7 ⟨⟩ q5 h8 h9 H hq5
   replace H:z0f s2 k4 x7=some q5:=H
   unfold z0f at H
   refine zb hN Z (za (zx Z Z) (ze (zg _ Z (fun h => ?_) (fun h=>(lt_f h8 h).elim))))
   refine zl (ze (zw (zb hN Z (qd Z (qe Z (ze (wz mixed hN Z Z (qd Z (qd Z (za (qx qt (fun _=>Z) Z Z h9) (za (ym tyS9 Z (yr h9) Z) (qd Z (qd Z (bE H fun x10 h11 H=>za (qx qt (fun _=>Z) Z Z h11) (za (ym tyS9 Z (yr h11) Z) (za (ua Z Z) ⟨Z,?_⟩))))))))))))))))
   refine zg _ Z (fun h12 => ?_) (fun h12 => ?_)
   ·refine tE h12 H fun H=>zb hN Z (qe Z (zh ?_))
    replace H:=retl H hq5
    cases H
    exact ⟨U,.inl Z,U⟩
   ·exact fE h12 H fun H=>zl (zt hN Z (za (qg Z Z (by omega)) (qd Z ⟨_,yt H,⟨Z,Z,Z,Z,U⟩,U⟩)))
theorem y2n (v1:yi) (r:(Int)) (H:Yz v1=some r):Fn Tryz.prog 25 [vagg (vu v1)] (zo [vint r]):=by
 refine ⟨by kernel_rfl,yb (us:=[vint r]) Tryz.func25 Z Z Z Z fun X hN => ?_⟩
 unfold Yz at H
 refine zb hN Z (zj (vk 1 Z) Z (qe Z (ze (yp (ι:=Bool) (fun i=>[(1,.ptr 1 0),(31,.dat (zk i))]) (fun i=>[(1,.box none 30 [.dat (vstr v1.Id),.dat (vstr v1.Subject),.dat (vstr v1.Issuer),.dat (vstr v1.Parent),.dat (vlst (List.map zi v1.Audience)),.dat (vlst (List.map zi v1.Scopes)),.dat (vint v1.From),.dat (vint v1.To)])]) (fun i=>vz v1 i=some r) (fun i=>Z) ?_ ?_))))
 ·skip
  refine zt hN Z (za (zu ky Z) (zp (zv tyS9 Z Z) Z (bE H fun r2 h3 H=>za (zr (ur v1.Id r2 h3) ⟨.inl Z,U⟩) (za (yy Z) (qd Z (qh (j:=4) Z Z (fun h4 => ?_) (fun h4 => ?_) Z))))))
  ·refine u3 h4 H fun h5 H=>zq Z Z h4 (zu z1r Z) (wc Z Z h4 (zv tyS9 Z Z) Z (bE H fun r6 h7 H=>zq Z Z h4 (zr (ur v1.Subject r6 h7) ⟨.inl Z,U⟩) (zq Z Z h4 (yy Z) (za (yl Z (bFF h5) Z) (qd Z (qh (j:=10) Z Z (fun h8 => ?_) (fun h8 => ?_) Z))))))
   ·refine u3 h8 H fun h9 H=>zq Z Z h8 (zu z1q Z) (wc Z Z h8 (zv tyS9 Z Z) Z (bE H fun r10 h11 H=>zq Z Z h8 (zr (ur v1.Issuer r10 h11) ⟨.inl Z,U⟩) (zq Z Z h8 (yy Z) (za (yl Z (bFF h9) Z) (qd Z (qh (j:=16) Z Z (fun h12 => ?_) (fun h12 => ?_) Z))))))
    ·refine u3 h12 H fun h13 H=>zq Z Z h12 (zu Zu Z) (wc Z Z h12 (zv tyS9 Z Z) Z (zq Z Z h12 (ua Z Z) (zq Z Z h12 (zd (.dat _) Z) (qh (j:=20) Z Z (fun h14 => ?_) (fun h14 => ?_) Z))))
     ·exact u1 h14 H fun h15 H=>zq Z Z h14 (zu Zu Z) (wc Z Z h14 (zv tyS9 Z Z) Z (bE H fun r16 h17 H=>zq Z Z h14 (zr (ur v1.Parent r16 h17) ⟨.inl Z,U⟩) (zq Z Z h14 (yy Z) (zq Z Z h12 (yq Z (bTT h15) Z) (za (yl Z (bFF h13) Z) ⟨!r16,H,⟨Z,Z,U⟩,⟨Z,U⟩⟩)))))
     ·exact u2 h14 H fun h18 H=>zf Z Z h14 (zf Z Z h14 (zf Z Z h14 (zf Z Z h14 (zq Z Z h12 (yl Z (bFF h18) Z) (za (yl Z (bFF h13) Z) ⟨false,H,⟨Z,Z,U⟩,⟨Z,U⟩⟩)))))
    ·exact u4 h12 H fun h19 H=>zf Z Z h12 (zf Z Z h12 (zf Z Z h12 (zf Z Z h12 (qf Z Z (qf Z Z (qf Z Z (qf Z Z (zf Z Z h12 (za (yq Z (bTT h19) Z) ⟨true,H,⟨Z,Z,U⟩,⟨Z,U⟩⟩)))))))))
   ·exact u4 h8 H fun h20 H=>zf Z Z h8 (zf Z Z h8 (zf Z Z h8 (zf Z Z h8 (za (yq Z (bTT h20) Z) (qd Z (zf Z Z Z (zf Z Z Z (zf Z Z Z (zf Z Z Z (qf Z Z (qf Z Z (qf Z Z (qf Z Z (zf Z Z Z (za (yq Z Z Z) ⟨true,H,⟨Z,Z,U⟩,⟨Z,U⟩⟩)))))))))))))))
  ·exact u4 h4 H fun h21 H=>zf Z Z h4 (zf Z Z h4 (zf Z Z h4 (zf Z Z h4 (za (yq Z (bTT h21) Z) (qd Z (zf Z Z Z (zf Z Z Z (zf Z Z Z (zf Z Z Z (za (yq Z Z Z) (qd Z (zf Z Z Z (zf Z Z Z (zf Z Z Z (zf Z Z Z (qf Z Z (qf Z Z (qf Z Z (qf Z Z (zf Z Z Z (za (yq Z Z Z) ⟨true,H,⟨Z,Z,U⟩,⟨Z,U⟩⟩)))))))))))))))))))))
 ·rintro v22 H
  replace H:vz v1 v22=some r:=H
  unfold vz at H
  refine zg _ Z (fun h23 => ?_) (fun h23 => ?_)
  ·refine tE h23 H fun H=>zb hN Z (qe Z (zh ?_))
   cases H
   exact ⟨U,.inl Z,U⟩
  ·refine fE h23 H fun H=>zl (ze (zb hN Z (za (zu xo Z) (zp (zv qp Z Z) Z (za (yk qc Z) (za (qu Z Z) (zg _ Z (fun h24 => ?_) (fun h24 => ?_))))))))
   ·refine tE h24 H fun H=>zb hN Z (qe Z (zh ?_))
    cases H
    exact ⟨U,.inl Z,U⟩
   ·refine fE h24 H fun H=>zl (ze (zb hN Z (za (zu xo Z) (zp (zv qp Z Z) Z (bE H fun r25 h26 H=>za (zr (y2u v1.Audience r25 h26) ⟨.inl Z,U⟩) (qe Z (zb hN Z (qd Z (za (vf Z Z) (zg _ Z (fun h27 => ?_) (fun h27 => ?_)))))))))))
    ·refine tE h27 H fun H=>zb hN Z (qd Z (qe Z (zh ?_)))
     cases H
     exact ⟨U,.inl Z,U⟩
    ·refine fE h27 H fun H=>zl (ze (zb hN Z (za (zu kx Z) (zp (zv qp Z Z) Z (bE H fun r28 h29 H=>za (zr (y2m v1.Scopes r28 h29) ⟨.inl Z,U⟩) (qe Z (zb hN Z (qd Z (za (vf Z Z) (zg _ Z (fun h30 => ?_) (fun h30 => ?_)))))))))))
     ·refine tE h30 H fun H=>zb hN Z (qd Z (qe Z (zh ?_)))
      cases H
      exact ⟨U,.inl Z,U⟩
     ·refine fE h30 H fun H=>zl (ze (ze (wz mixed hN Z Z (za (zu kx Z) (zp (zv qp Z Z) Z (za (zu kx Z) (zp (zv qp Z Z) Z (bE H fun r31 h32 H=>za (zr (y2e v1.Scopes r31 h32) ⟨.inl Z,U⟩) (bE H fun r33 h34 H=>za (zr (z6m v1.Scopes r31 r33 h34) ⟨.inl Z,.inl Z,U⟩) (za (yy Z) ⟨Z,?_⟩))))))))))
      refine zg _ Z (fun h35 => ?_) (fun h35 => ?_)
      ·refine tE h35 H fun H=>zb hN Z (qe Z (zh ?_))
       cases H
       exact ⟨U,.inl Z,U⟩
      ·refine fE h35 H fun H=>zl (ze (zb hN Z (za (zu xn Z) (zp (zv tyS3 Z Z) Z (za (zx Z Z) (qd Z (ql Z Z (fun hc=>zu xn Z) (kf Z Z (fun hc=>zv tyS3 (cnd (c:=(!(decide (v1.From < 0)))) hc) Z) Z kv (ql Z Z (fun hc=>zu va Z) (kf Z Z (fun hc=>zv tyS3 (cnd (c:=(!(decide (v1.From < 0)))) hc) Z) Z kv (ql Z Z (fun hc=>wq (cnd (c:=(!(decide (v1.From < 0)))) hc) (cnd (c:=(!(decide (v1.From < 0)))) hc)) (za (vj Z Z (fun hb=>(cnd (c:=(!(decide (v1.From < 0)))) (notI hb)))) (qd Z (ql Z Z (fun hc=>zu va Z) (kf Z Z (fun hc=>zv tyS3 (cnd (c:=(!((decide (v1.From < 0)) || (decide (v1.To≤v1.From))))) hc) Z) Z kv (ql Z Z (fun hc=>qu (cnd (c:=(!((decide (v1.From < 0)) || (decide (v1.To≤v1.From))))) hc) Z) (za (vj Z Z (fun hb=>(cnd (c:=(!((decide (v1.From < 0)) || (decide (v1.To≤v1.From))))) (notI hb)))) (zg _ Z (fun h36 => ?_) (fun h36 => ?_)))))))))))))))))))
       ·refine tE h36 H fun H=>zb hN Z (qe Z (zh ?_))
        cases H
        exact ⟨U,.inl Z,U⟩
       ·refine fE h36 H fun H=>zl (zb hN Z (qe Z (zh ?_)))
        cases H
        exact ⟨U,.inl Z,U⟩
theorem y2x (n1:Int) (r:(Bool)) (H:Qj n1=some r):Fn Tryz.prog 56 [vint n1] (zo [zk r]):=by
 refine ⟨by kernel_rfl,yb (us:=[zk r]) Tryz.func56 Z Z Z Z fun X hN => ?_⟩
 unfold Qj at H
 refine zb hN Z (qe Z (zb hN Z (qd Z (za (wq Z Z) (qd Z (qq Z Z (fun hc=>zd (.dat _) Z) (qq Z Z (fun hc=>zx (cnd (c:=(decide (0≤n1))) hc) Z) (za (jk Z (fun hb=>(cnd (c:=(decide (0≤n1))) hb)) Z) (qe Z (zh ?_))))))))))
 cases H
 exact ⟨U,.inl Z,U⟩
theorem z6g (v1:Int) (r:(Int)) (H:ug v1=some r):Fn Tryz.prog 26 [vint v1] (zo [vint r]):=by
 refine ⟨by kernel_rfl,yb (us:=[vint r]) Tryz.func26 Z Z Z Z fun X hN => ?_⟩
 unfold ug at H
 refine zb hN Z (qe Z (ze (zb hN Z (qd Z (bE H fun r2 h3 H=>za (zr (y2x v1 r2 h3) ⟨.inl Z,U⟩) (za (yy Z) (zg _ Z (fun h4 => ?_) (fun h4 => ?_))))))))
 ·refine tE h4 H fun H=>zb hN Z (qe Z (zh ?_))
  cases H
  exact ⟨U,.inl Z,U⟩
 ·refine fE h4 H fun H=>zl (zb hN Z (qe Z (zh ?_)))
  cases H
  exact ⟨U,.inl Z,U⟩
theorem z00 (l r:List zc) (H:wa l=some r):FnG Tryz.prog 27 [.dat (vlst (List.map zn l))] [] (.row 900 r.length) [(900,.row 44 3 (List.map zn r))]:=by
 obtain ⟨hl,rfl⟩:=z7f H
 refine ji (by kernel_rfl) Tryz.func27 Z Z Z Z fun X A hN => ?_
 refine z7m 0 Z (fun h0 => ?_) ?_
 ·obtain rfl:=List.map_eq_nil_iff.1 h0
  refine zb hN Z (qe Z (ze (zb hN Z (qd Z (za (z4v yx Z) (zg _ Z (fun h => ?_) (fun h=>by cases h)))))))
  exact zb hN Z (qe Z (xf 2 900 44 3 Z Z Z (zh ⟨U,[(2,.row 900 0)],⟨Z,U⟩,⟨Z,U⟩,Z,.inr (.inl ⟨2,Z,Z⟩)⟩)))
 ·refine zb hN Z (qe Z (ze (zb hN Z (qd Z (za (z4w yx Z) (zg _ Z (fun h=>by cases h) (fun h => ?_)))))))
  refine zl (ze (z7l 0 (u':=vlst (List.map zn l)) Z z38 (zt hN Z (zj (z4s 900 wn) Z (qd Z (zj (z4p (C:=zn) (xs:=[]) wn (fun _=>Z) Z Z Z (by simpa using hl) Z) Z ?_))))))
  exact za (yj (.row _ _) Z) (zh ⟨U,[(2,.row 900 l.length)],⟨Z,U⟩,⟨Z,U⟩,Z,.inr (.inl ⟨2,Z,Z⟩)⟩)
theorem z6k (a b:Bs) (r:Int) (H:z2w a b=some r):Fn Tryz.prog 30 [vstr a,vstr b] (zo [vint r]):=by
 cases H
 refine We (by kernel_rfl) fun M w vs h => ?_
 have h1:=Zr (us:=[.string ⟨a.toArray⟩,.string ⟨b.toArray⟩]) h
 subst h1
 refine (Tryz.strings_Compare ⟨a.toArray⟩ ⟨b.toArray⟩ w).mono ?_
 rintro e w' ⟨rfl,rfl⟩
 exact ⟨_,Z,Z,Kp.refl _ _⟩
theorem y2h (r1:zc) (id2:Bs) (r:(Int)) (H:ki r1 id2=some r):Fn Tryz.prog 29 [vagg (zn r1),vstr id2] (zo [vint r]):=by
 refine ⟨by kernel_rfl,yb (us:=[vint r]) Tryz.func29 Z Z Z Z fun X hN => ?_⟩
 unfold ki at H
 refine zb hN Z (zj (vk 1 Z) Z (qe Z (zb hN Z (za (zu vy Z) (zp (zv tyS9 Z Z) Z (qd Z (bE H fun r3 h4 H=>za (zr (z6k r1.Id id2 r3 h4) ⟨.inl Z,.inl Z,U⟩) (qe Z (zh ?_)))))))))
 cases H
 exact ⟨U,.inl Z,U⟩
theorem y10 (x1:(List zc)) (target2:Bs) (p2:zc→Bs→Option (Int)) (fv2:Nat) (us2:List V) (hp2:∀ a0 a1 r,p2 a0 a1=some r→Fn Tryz.prog fv2 ([vagg (zn a0),vstr a1]++us2) (zo [vint r])) (r:(Int×Bool)) (H:Qf x1 target2 p2=some r):FnG Tryz.prog 28 [.row 0 x1.length,.dat (vstr target2),.dat (vfn fv2 us2)] [(0,.rowA undef 44 3 (List.map zn x1))] (.dat (zo [vint r.1,zk r.2])) [(0,.rowA undef 44 3 (List.map zn x1))]:=by
 refine ji (by kernel_rfl) Tryz.func28 Z Z Z Z fun X A hN => ?_
 unfold Qf at H
 refine zb hN Z (qe Z (qe Z (zb hN Z (za (zd (.row _ _) Z) (zp (z1z yx Z Z) Z (qe Z (zb hN Z (qd Z (qe Z (qe Z (yp (ι:=Int) (fun i=>[(0,.row 0 x1.length),(1,.dat (vstr target2)),(2,.dat (vfn fv2 us2)),(8,.dat (vint (x1.length:Int))),(9,.dat (vint i))]) (fun i=>[(0,.rowA (A.vl 0) 44 3 (List.map zn x1))]) (fun i=>z0i x1 target2 p2 i=some r) (fun i=>Z) ?_ ?_)))))))))))
 ·skip
  refine zw (xg (fun (s:Int×Int)=>[(0,.row 0 x1.length),(1,.dat (vstr target2)),(2,.dat (vfn fv2 us2)),(8,.dat (vint (x1.length:Int))),(9,.dat (vint s.1)),(10,.dat (vint s.2))]) (fun (s:Int×Int)=>[(0,.rowA (A.vl 0) 44 3 (List.map zn x1))]) (0,(x1.length:Int)) H ⟨Z,Z,Z,Z,Z,Z,U⟩ ⟨Z,U⟩ (fun _=>Z) ?_)
  rintro ⟨i3,j4⟩ q5 H hq5
  replace H:z2m x1 target2 p2 i3 j4=some q5:=H
  unfold z2m at H
  refine ze (zb hN Z (qd Z (qd Z (za (zx Z Z) (zg _ Z (fun h6 => ?_) (fun h6 => ?_))))))
  ·refine tE h6 H fun H=>zl (zw (zb hN Z (qd Z (qd Z (za (ye _ Z Z (.inl ⟨Z,Z⟩)) (za (jm tyU3 Wr Z) (za (zy (ub Z Z (by decide)) Z) (za (jm Wr tyU3 Z) (qe Z (zb hN Z (qd Z (za (zd (.row _ _) Z) (qd Z (bE H fun x7 h8 H=>zp (jv yw Z Z Z h8) Z (zp (kz qk Z Z (yn h8).2 Z) Z (qd Z (bE H fun r9 h10 H=>za (ke (hp2 x7 target2 r9 h10) Z ⟨.inl Z,.inl Z,U⟩) (za (zx Z Z) (zg _ Z (fun h11 => ?_) (fun h11 => ?_))))))))))))))))))))
   ·exact tE h11 H fun H=>zt hN Z (qd Z (za (ye _ Z Z (.inl ⟨Z,Z⟩)) (qe Z ⟨_,yt H,⟨Z,Z,Z,Z,Z,Z,U⟩,⟨Z,U⟩⟩)))
   ·exact fE h11 H fun H=>zt hN Z (qd Z (qe Z ⟨_,yt H,⟨Z,Z,Z,Z,Z,Z,U⟩,⟨Z,U⟩⟩))
  ·refine fE h6 H fun H=>yv ?_
   replace H:=outl H hq5
   exact ⟨i3,H,⟨Z,Z,Z,Z,Z,U⟩,⟨Z,U⟩⟩
 ·rintro i12 H
  replace H:z0i x1 target2 p2 i12=some r:=H
  unfold z0i at H
  refine yp (ι:=Bool) (fun i=>[(6,.dat (vint i12)),(7,.dat (zk i))]) (fun i=>[(0,.rowA (A.vl 0) 44 3 (List.map zn x1))]) (fun i=>Yj i12 i=some r) (fun i=>Z) ?_ ?_
  ·skip
   refine zt hN Z (qd Z (qd Z (qd Z (za (zx Z Z) (qd Z (qh (j:=4) Z Z (fun h13 => ?_) (fun h13 => ?_) Z))))))
   ·exact u1 h13 H fun h14 H=>zq Z Z h13 (zd (.dat _) Z) (zq Z Z h13 (zd (.row _ _) Z) (zq Z Z h13 (zd (.dat _) Z) (bE H fun x15 h16 H=>wc Z Z h13 (jv yw Z Z Z h16) Z (wc Z Z h13 (kz qk Z Z (yn h16).2 Z) Z (zq Z Z h13 (zd (.dat _) Z) (bE H fun r17 h18 H=>zq Z Z h13 (ke (hp2 x15 target2 r17 h18) Z ⟨.inl Z,.inl Z,U⟩) (zq Z Z h13 (qy Z Z) (za (yq Z (bTT h14) Z) (qe Z (qe Z ⟨decide (r17=0),H,⟨Z,Z,U⟩,⟨Z,U⟩⟩))))))))))
   ·exact u2 h13 H fun h19 H=>zf Z Z h13 (zf Z Z h13 (zf Z Z h13 (zf Z Z h13 (zf Z Z h13 (zf Z Z h13 (zf Z Z h13 (zf Z Z h13 (za (yl Z (bFF h19) Z) (qe Z (qe Z ⟨false,H,⟨Z,Z,U⟩,⟨Z,U⟩⟩))))))))))
  ·rintro v20 H
   replace H:Yj i12 v20=some r:=H
   unfold Yj at H
   refine zh ?_
   cases H
   exact ⟨U,[(6,.dat (vint i12)),(7,.dat (zk v20))],⟨Z,Z,U⟩,⟨Z,U⟩,Z,.inl ⟨[vint i12,zk v20],⟨Z,Z,U⟩,Z⟩⟩
def wy (x:zc):List Value:=[Value.string ⟨x.Id.toArray⟩,Value.int .i64 x.At,Value.int .i64 x.Until]
theorem z3o (x:zc) (v:Value) (h:v∈wy x):v.oneCell'=true:=by
 unfold wy at h
 simp only [List.mem_cons,List.not_mem_nil,or_false] at h
 rcases h with rfl | rfl | rfl <;> rfl
theorem y14 (l:List zc) (i:Int) (x:List zc) (r:List zc) (H:xz l i x=some r):FnG Tryz.prog 31 [.row 0 l.length,.dat (vint i),.dat (vlst (List.map zn x))] [(0,.row 44 3 (List.map zn l))] (.row 900 r.length) [(900,.row 44 3 (List.map zn r))]:=by
 obtain ⟨k,y,rfl,rfl,hk,hn,rfl⟩:=y3p H
 refine y4g (size:=3) wy (by decide) (fun _=>Z) z3o (by kernel_rfl) l k y (fun v w vb voff vc ho hne hv hvs => ?_) hk
 have h1:∀ u∈l.flatMap wy,u.oneCell'=true:=fun u hu=>by
  obtain ⟨z,_,hz⟩:=List.mem_flatMap.1 hu
  exact z3o z u hz
 have e:(l.take k++y::l.drop k).flatMap wy=(l.flatMap wy).take (k * 3)++wy y++(l.flatMap wy).drop (k * 3):=by
  have h2:l.flatMap wy=(l.take k).flatMap wy++(l.drop k).flatMap wy:=by rw [← List.flatMap_append,List.take_append_drop]
  have h3:((l.take k).flatMap wy).length=k * 3:=by rw [z3k wy (size:=3) (fun _=>Z),List.length_take,Nat.min_eq_left hk]
  rw [List.flatMap_append,List.flatMap_cons,h2,List.take_left' h3,List.drop_left' h3,List.append_assoc]
 rw [e]
 exact y3w v l.length k _ _ w vb voff vc hk hn ho hne hv Z hvs h1 (z3o y)
theorem y2i (v1:(List zc)) (v2:yi) (v3:Int) (r:((List zc)×Int)) (H:uh v1 v2 v3=some r):Fn Tryz.prog 7 [vlst (List.map zn v1),vagg (vu v2),vint v3] (zo [vlst (List.map zn r.1),vint r.2]):=by
 refine ⟨by kernel_rfl,yb (us:=[vlst (List.map zn r.1),vint r.2]) Tryz.func7 Z Z Z Z fun X hN => ?_⟩
 unfold uh at H
 refine zb hN Z (zj (vk 1 Z) Z (qe Z (qe Z (ze (zb hN Z (qd Z (bE H fun r4 h5 H=>za (zr (z3a v1 r4 h5) ⟨.inl Z,U⟩) (qe Z (zb hN Z (qd Z (za (vf Z Z) (zg _ Z (fun h6 => ?_) (fun h6 => ?_)))))))))))))
 ·refine tE h6 H fun H=>zb hN Z (qd Z (qe Z (qe Z (zh ?_))))
  cases H
  exact ⟨U,.inr ⟨Z,Z⟩,.inl Z,U⟩
 ·refine fE h6 H fun H=>zl (ze (zb hN Z (zp (ka wm Z Z Z) Z (bE H fun r7 h8 H=>za (zr (y2n v2 r7 h8) ⟨.inl Z,U⟩) (qe Z (zb hN Z (qd Z (za (vf Z Z) (zg _ Z (fun h9 => ?_) (fun h9 => ?_))))))))))
  ·refine tE h9 H fun H=>zb hN Z (qd Z (qe Z (qe Z (zh ?_))))
   cases H
   exact ⟨U,.inr ⟨Z,Z⟩,.inl Z,U⟩
  ·refine fE h9 H fun H=>zl (ze (zb hN Z (qd Z (bE H fun r10 h11 H=>za (zr (z6g v3 r10 h11) ⟨.inl Z,U⟩) (qe Z (zb hN Z (qd Z (za (vf Z Z) (zg _ Z (fun h12 => ?_) (fun h12 => ?_))))))))))
   ·refine tE h12 H fun H=>zb hN Z (qd Z (qe Z (qe Z (zh ?_))))
    cases H
    exact ⟨U,.inr ⟨Z,Z⟩,.inl Z,U⟩
   ·refine fE h12 H fun H=>zl (zb hN Z (qd Z (bE H fun r13 h14 H=>qn (rn [(900,2)]) [] [(900,_)] (z00 v1 r13 h14) ⟨Z,U⟩ ⟨.inl (.inl Z),U⟩ U Z (za (yj (.row _ _) Z) (ze (zb hN Z (za (zu va Z) (zp (zv tyS3 Z Z) Z (qd Z (za (vg Z Z) (zg _ Z (fun h15 => ?_) (fun h15 => ?_))))))))))))
    ·refine tE h15 H fun H=>zb hN Z (za (zd (.row _ _) Z) (za (yj (.row _ _) Z) (qe Z (zh ?_))))
     cases H
     exact ⟨U,wo Z Z,.inl Z,U⟩
    ·refine fE h15 H fun H=>zl (zb hN Z (za (zd (.row _ _) Z) (za (zu ky Z) (zp (zv tyS9 Z Z) Z (bE H fun r16 h17 H=>qn (rn [(0,2)]) [(0,_,_,some _)] [] (y10 r13 v2.Id (fun (a0:zc) (a1:Bs)=>ki a0 a1) 29 [] (fun a0 a1 r h=>y2h a0 a1 r h) r16 h17) ⟨Z,U⟩ ⟨.inl (.inl Z),.inl (.inl Z),.inr ⟨_,Z,Z⟩,U⟩ ⟨⟨⟨Z,Z,Z⟩,by simp [vm]⟩,U⟩ Z ?_)))))
     refine qd Z (za (vh Z Z) (za (vh Z Z) (qe Z (qe Z (ze (zb hN Z (qd Z (zg _ Z (fun h18 => ?_) (fun h18 => ?_)))))))))
     ·refine tE h18 H fun H=>ze (wz mixed hN Z Z (za (zd (.row _ _) Z) (qd Z (za (zd (.row _ _) Z) (qd Z (za (zd (.row _ _) Z) (qd Z (bE H fun x19 h20 H=>zp (vd yw Z Z Z h20) Z (za (kb xm Z) (zp (Ya tyS3 Z Z (yn h20).2 Z) Z (qd Z (za (z14 Z Z) (za (zd (.row _ _) Z) (qd Z (zp (vd yw Z Z Z h20) Z (za (kb vx Z) (zp (Ya tyS3 Z Z (yn h20).2 Z) Z (za (zu va Z) (zp (zv tyS3 Z Z) Z (za (z4r Z Z) (zp (vd yw Z Z Z h20) Z ?_)))))))))))))))))))))
      refine za (kb xm Z) (zj (Zz (zc.mk x19.Id (min x19.At v3) x19.Until) tyS3 Z Z Z Z (yn h20).2 Z Z) Z (bE H fun x21 h22 H=>zp (vd yw Z (by simp) Z h22) Z (za (kb vx Z) (zj (Zz (zc.mk x21.Id x21.At (max x19.Until v2.To)) tyS3 Z Z Z (by simp) (yn h22).2 Z Z) Z ⟨Z,?_⟩))))
      refine zb hN Z (za (zd (.row _ _) Z) (za (yj (.row _ _) Z) (qe Z (zh ?_))))
      cases H
      exact ⟨U,wo Z (by simp),.inl Z,U⟩
     ·refine fE h18 H fun H=>zl (ze (zb hN Z (za (zd (.row _ _) Z) (zp (z0a yx Z Z) Z (za (wq Z Z) (zg _ Z (fun h23 => ?_) (fun h23 => ?_)))))))
      ·refine tE h23 H fun H=>zb hN Z (qe Z (qe Z (zh ?_)))
       cases H
       exact ⟨U,.inr ⟨Z,Z⟩,.inl Z,U⟩
      ·refine fE h23 H fun H=>zl (zb hN Z (za (zd (.row _ _) Z) (qd Z (za (zu ky Z) (zp (zv tyS9 Z Z) Z (qd Z (za (zu va Z) (zp (zv tyS3 Z Z) Z (za (zy (u':=vagg (zn (zc.mk v2.Id v3 v2.To))) (xu [(0,[vstr v2.Id]),(1,[vint v3]),(2,[vint v2.To])] ju Wu Z ⟨Z,.inl ⟨_,Z,Z,Z⟩,Z,Z,.inl ⟨_,Z,Z,Z⟩,Z,Z,.inl ⟨_,Z,Z,Z⟩,Z,U⟩) Z) (za (zy (u':=vlst (List.map zn [(zc.mk v2.Id v3 v2.To)])) (yg [_] wn ⟨Z,.inr Z,Z,U⟩ Z Z) Z) (bE H fun r24 h25 H=>qn (rn [(0,2),(900,3)]) [(0,_,_,none)] [(900,_)] (y14 r13 r16.1 [(zc.mk v2.Id v3 v2.To)] r24 h25) ⟨Z,Z,U⟩ ⟨.inl (.inl Z),.inl (.inl Z),.inl (.inl Z),U⟩ ⟨⟨⟨Z,Z,Z⟩,U⟩,U⟩ Z (za (yj (.row _ _) Z) (qe Z (zh ?_))))))))))))))
       cases H
       exact ⟨U,wo Z Z,.inl Z,U⟩
theorem y2q (s1:(List zc)) (p1:zc→Option (Bool)) (fv1:Nat) (us1:List V) (hp1:∀ a0 r,p1 a0=some r→Fn Tryz.prog fv1 ([vagg (zn a0)]++us1) (zo [zk r])) (r:(Int)) (H:z2y s1 p1=some r):Fn Tryz.prog 43 [vlst (List.map zn s1),vfn fv1 us1] (zo [vint r]):=by
 refine ⟨by kernel_rfl,yb (us:=[vint r]) Tryz.func43 Z Z Z Z fun X hN => ?_⟩
 unfold z2y at H
 refine zb hN Z (qe Z (ze (zb hN Z (qd Z (za (yk yx Z) (qd Z (zw (gE H fun h4 H=>qv (fun (k2:Nat) (s:Unit)=>[(0,.dat (vlst (List.map zn s1))),(1,.dat (vfn fv1 us1)),(7,.dat (vint (s1.length:Int))),(8,.dat (vint (k2:Int)))]) (fun (k2:Nat) (s:Unit)=>[]) () H ⟨Z,Z,Z,Z,U⟩ U (fun _ _=>Z) ?_ ?_))))))))
 ·rintro ⟨⟩ H
  replace H:z2g=some r:=H
  unfold z2g at H
  refine zb hN Z (za (zx Z Z) (ze (zg _ Z (fun h=>(lt_t h).elim) (fun h => ?_))))
  refine yv (zb hN Z (qe Z (zh ?_)))
  cases H
  exact ⟨U,.inl Z,U⟩
 ·rintro k2 x5 ⟨⟩ q3 h6 h7 H hq3
  replace H:z2f p1 k2 x5=some q3:=H
  unfold z2f at H
  refine zb hN Z (za (zx Z Z) (ze (zg _ Z (fun h => ?_) (fun h=>(lt_f h6 h).elim))))
  refine zl (ze (zw (zb hN Z (qd Z (qe Z (zb hN Z (qd Z (qd Z (qd Z (za (qx yw (fun _=>Z) Z Z h7) (za (Yc qk Z (yr h7) Z) (bE H fun r8 h9 H=>za (ke (hp1 x5 r8 h9) Z ⟨.inl Z,U⟩) (zg _ Z (fun h10 => ?_) (fun h10 => ?_))))))))))))))
  ·refine tE h10 H fun H=>zb hN Z (qd Z (qe Z (zh ?_)))
   replace H:=retl H hq3
   cases H
   exact ⟨U,.inl Z,U⟩
  ·exact fE h10 H fun H=>zl (zt hN Z (za (qg Z Z (by omega)) (qd Z ⟨_,yt H,⟨Z,Z,Z,Z,U⟩,U⟩)))
theorem z6d (s1:(List zc)) (p1:zc→Option (Bool)) (fv1:Nat) (us1:List V) (hp1:∀ a0 r,p1 a0=some r→Fn Tryz.prog fv1 ([vagg (zn a0)]++us1) (zo [zk r])) (r:((List zc))) (H:Qd s1 p1=some r):FnG Tryz.prog 32 [.row 0 s1.length,.dat (vfn fv1 us1)] [(0,.row 44 3 (List.map zn s1))] (.row 900 r.length) [(900,.row 44 3 (List.map zn r))]:=by
 refine ji (by kernel_rfl) Tryz.func32 Z Z Z Z fun X A hN => ?_
 unfold Qd at H
 refine zb hN Z (qe Z (zb hN Z (za (zd (.row _ _) Z) (qd Z (bE H fun r2 h3 H=>zp (z4x (id:=0) (es:=List.map zn s1) (y2q s1 p1 fv1 us1 hp1 r2 h3) ⟨.inr ⟨(congrArg (Slot.row 0) (by rw [List.length_map]):Slot.row 0 s1.length=_),Z⟩,.inl (.inl (.inl Z)),U⟩ (fun _ _ _ _ h=>h)) Z ?_)))))
 refine qe Z (ze (zb hN Z (qd Z (za (qy Z Z) (zg _ Z (fun h4 => ?_) (fun h4 => ?_))))))
 ·refine tE h4 H fun H=>zb hN Z (za (zd (.row _ _) Z) (za (yj (.row _ _) Z) (z1j 4 0 900 Z Z (by rw [List.length_map]) Z ?_)))
  refine zh ?_
  cases H
  exact ⟨U,[(4,.row 900 _)],⟨Z,U⟩,⟨Z,U⟩,Z,.inr (.inl ⟨4,Z,Z⟩)⟩
 ·refine fE h4 H fun H=>zl (yp (ι:=Int×(List zc)) (fun i=>[(0,.row 0 i.2.length),(5,.dat (vint i.1))]) (fun i=>[(0,.row 44 3 (List.map zn i.2))]) (fun i=>z0h i.1 i.2=some r) (fun i=>Z) ?_ ?_)
  ·skip
   refine zb hN Z (qd Z (za (ye _ Z Z (.inl ⟨Z,Z⟩)) (qe Z (zw (xg (fun (s:Int×Int×(List zc))=>[(0,.row 0 s.2.2.length),(1,.dat (vfn fv1 us1)),(5,.dat (vint s.1)),(6,.dat (vint s.2.1))]) (fun (s:Int×Int×(List zc))=>[(0,.row 44 3 (List.map zn s.2.2))]) (r2,wr (r2+1),s1) H ⟨Z,Z,Z,Z,U⟩ ⟨Z,U⟩ (fun _=>Z) ?_)))))
   rintro ⟨i5,j6,l7⟩ q8 H hq8
   replace H:z2l p1 i5 j6 l7=some q8:=H
   unfold z2l at H
   refine ze (zb hN Z (qd Z (za (zd (.row _ _) Z) (zp (z0a yx Z Z) Z (za (zx Z Z) (zg _ Z (fun h9 => ?_) (fun h9 => ?_)))))))
   ·refine tE h9 H fun H=>zl (yp (ι:=Int×(List zc)) (fun i=>[(0,.row 0 i.2.length),(1,.dat (vfn fv1 us1)),(5,.dat (vint i.1)),(6,.dat (vint j6))]) (fun i=>[(0,.row 44 3 (List.map zn i.2))]) (fun i=>Yi j6 i.1 i.2=some q8) (fun i=>Z) ?_ ?_)
    ·skip
     refine zw (zb hN Z (za (zd (.row _ _) Z) (qd Z (bE H fun x10 h11 H=>zp (vd yw Z Z Z h11) Z (zp (z8y qk Z Z (yn h11).2 Z) Z (zj (jn 1 ju Z) Z (zj (jz qk Z Z Z Z) Z (zb hN Z (qd Z (zp (ka qk Z Z Z) Z (bE H fun r12 h13 H=>za (ke (hp1 x10 r12 h13) Z ⟨.inl Z,U⟩) (za (yy Z) (zg _ Z (fun h14 => ?_) (fun h14 => ?_))))))))))))))
     ·exact tE h14 H fun H=>zb hN Z (za (zd (.row _ _) Z) (qd Z (zp (ka qk Z Z Z) Z (bE H fun x15 h16 H=>zp (vd yw Z Z Z h16) Z (zj (z8w (C:=zn) qk Z Z Z (z3u (yn h16).2) Z Z) Z (zt hN Z (qd Z (za (ye _ Z Z (.inl ⟨Z,Z⟩)) (qe Z ⟨(wr (i5+1),(l7.set i5.toNat x10)),H,⟨congrArg (Slot.row 0) (by simp),Z,Z,Z,U⟩,⟨Z,U⟩⟩)))))))))
     ·exact fE h14 H fun H=>zl ⟨(i5,l7),H,⟨Z,Z,Z,Z,U⟩,⟨Z,U⟩⟩
    ·rintro ⟨i17,s18⟩ H
     replace H:Yi j6 i17 s18=some q8:=H
     unfold Yi at H
     exact zt hN Z (qd Z (za (ye _ Z Z (.inl ⟨Z,Z⟩)) (qe Z ⟨_,yt H,⟨Z,Z,Z,Z,U⟩,⟨Z,U⟩⟩)))
   ·refine fE h9 H fun H=>yv ?_
    replace H:=outl H hq8
    exact ⟨(i5,l7),H,⟨Z,Z,U⟩,⟨Z,U⟩⟩
  ·rintro ⟨i19,s20⟩ H
   replace H:z0h i19 s20=some r:=H
   unfold z0h at H
   refine zb hN Z (za (zd (.row _ _) Z) (qd Z (gE H fun h21 H=>zp (z4l (C:=zn) yw Z Z Z h21) Z (zj (z4n (C:=zn) (zc.mk [] 0 0) yx ju Z Z Z Z Z h21) Z (zb hN Z (za (zd (.row _ _) Z) (qd Z (gE H fun h22 H=>z5d (z4m (C:=zn) 2 yw Z (z7e (zc.mk [] 0 0) h21) Z h22) Z Z (za (yj (.row _ _) Z) (z1j 4 2 900 Z Z (by rw [List.length_map]; exact (z1f h22)) Z ?_))))))))))
   refine zh ?_
   cases H
   exact ⟨U,[(4,.row 900 _)],⟨Z,U⟩,⟨Z,U⟩,Z,.inr (.inl ⟨4,Z,congrArg (Slot.row 900) (by first | exact z1f (by assumption) | (simp <;> omega))⟩)⟩
theorem y2j (r1:zc) (c2:Int) (r:(Bool)) (H:Yw r1 c2=some r):Fn Tryz.prog 33 [vagg (zn r1),qj [[vint c2]] 0 0] (zo [zk r]):=by
 refine ⟨by kernel_rfl,yb (us:=[zk r]) Tryz.func33 Z Z Z Z fun X hN => ?_⟩
 unfold Yw at H
 refine zb hN Z (zj (vk 1 Z) Z (qe Z (zb hN Z (za (zu vx Z) (zp (zv tyS3 Z Z) Z (za (ym tyS3 Z Z Z) (za (vg Z Z) (qe Z (zh ?_)))))))))
 cases H
 exact ⟨U,.inl Z,U⟩
theorem y2k (l1:(List zc)) (v2:Int) (r:((List zc)×Int)) (H:xy l1 v2=some r):Fn Tryz.prog 8 [vlst (List.map zn l1),vint v2] (zo [vlst (List.map zn r.1),vint r.2]):=by
 refine ⟨by kernel_rfl,yb (us:=[vlst (List.map zn r.1),vint r.2]) Tryz.func8 Z Z Z Z fun X hN => ?_⟩
 unfold xy at H
 refine zb hN Z (zj (z0d 1 Z Z) Z (qe Z (qe Z (ze (zb hN Z (qd Z (bE H fun r3 h4 H=>za (zr (z3a l1 r3 h4) ⟨.inl Z,U⟩) (qe Z (zb hN Z (qd Z (za (vf Z Z) (zg _ Z (fun h5 => ?_) (fun h5 => ?_)))))))))))))
 ·refine tE h5 H fun H=>zb hN Z (qd Z (qe Z (qe Z (zh ?_))))
  cases H
  exact ⟨U,.inr ⟨Z,Z⟩,.inl Z,U⟩
 ·refine fE h5 H fun H=>zl (ze (zb hN Z (zp (zv tyS3 Z Z) Z (bE H fun r6 h7 H=>za (zr (z6g v2 r6 h7) ⟨.inl Z,U⟩) (qe Z (zb hN Z (qd Z (za (vf Z Z) (zg _ Z (fun h8 => ?_) (fun h8 => ?_))))))))))
  ·refine tE h8 H fun H=>zb hN Z (qd Z (qe Z (qe Z (zh ?_))))
   cases H
   exact ⟨U,.inr ⟨Z,Z⟩,.inl Z,U⟩
  ·refine fE h8 H fun H=>zl (ze (Zp 1 [vint v2] Z Z (zt hN Z (qd Z (bE H fun r9 h10 H=>qn (rn [(900,2)]) [] [(900,_)] (z00 l1 r9 h10) ⟨Z,U⟩ ⟨.inl (.inl Z),U⟩ U Z (za (xt (us:=[_]) ⟨Z,U⟩) (bE H fun r11 h12 H=>qn (rn [(0,2),(900,3)]) [(0,_,_,none)] [(900,_)] (z6d r9 (fun (a0:zc)=>Yw a0 v2) 33 [qj [[vint v2]] 0 0] (fun a0 r h=>y2j a0 v2 r h) r11 h12) ⟨Z,Z,U⟩ ⟨.inl (.inl Z),.inl (.inl Z),U⟩ ⟨⟨⟨Z,Z,Z⟩,U⟩,U⟩ Z (za (yj (.row _ _) Z) (qe Z (zh ?_))))))))))
   cases H
   exact ⟨U,wo Z Z,.inl Z,U⟩
theorem z3b (n1:Int) (low2:Int) (high3:Int) (r:(Bool)) (H:km n1 low2 high3=some r):Fn Tryz.prog 35 [vint n1,vint low2,vint high3] (zo [zk r]):=by
 refine ⟨by kernel_rfl,yb (us:=[zk r]) Tryz.func35 Z Z Z Z fun X hN => ?_⟩
 unfold km at H
 refine zb hN Z (qe Z (zb hN Z (qd Z (qd Z (za (vg Z Z) (qd Z (qq Z Z (fun hc=>zd (.dat _) Z) (qq Z Z (fun hc=>zd (.dat _) Z) (qq Z Z (fun hc=>vg (cnd (c:=(decide (low2≤n1))) hc) (cnd (c:=(decide (low2≤n1))) hc)) (za (jk Z (fun hb=>(cnd (c:=(decide (low2≤n1))) hb)) Z) (qe Z (zh ?_))))))))))))
 cases H
 exact ⟨U,.inl Z,U⟩
theorem y2p (l:Bs) (c r:Int) (H:z2v l c=some r):Fn Tryz.prog 79 [vstr l,vval (.int .u8 c)] (zo [vint r]):=by
 cases H
 refine We (by kernel_rfl) fun M w vs h => ?_
 have h1:=Zr (us:=[.string ⟨l.toArray⟩,.int .u8 c]) h
 subst h1
 refine (Tryz.strings_IndexByte ⟨l.toArray⟩ c w).mono ?_
 rintro e w' ⟨rfl,rfl⟩
 exact ⟨_,Z,Z,Kp.refl _ _⟩
theorem z6p (s1:Bs) (some2:Bs) (r:(Bool)) (H:Zb s1 some2=some r):Fn Tryz.prog 60 [vstr s1,vstr some2] (zo [zk r]):=by
 refine ⟨by kernel_rfl,yb (us:=[zk r]) Tryz.func60 Z Z Z Z fun X hN => ?_⟩
 unfold Zb at H
 refine zb hN Z (qe Z (ze (zb hN Z (qd Z (za (uc tyU9 Z) (qd Z (zw (gE H fun h5 H=>qv (fun (k3:Nat) (s:Unit)=>[(0,.dat (vstr s1)),(1,.dat (vstr some2)),(7,.dat (vint (s1.length:Int))),(8,.dat (vint (k3:Int)))]) (fun (k3:Nat) (s:Unit)=>[]) () H ⟨Z,Z,Z,Z,U⟩ U (fun _ _=>Z) ?_ ?_))))))))
 ·rintro ⟨⟩ H
  replace H:z3h=some r:=H
  unfold z3h at H
  refine zb hN Z (za (zx Z Z) (ze (zg _ Z (fun h=>(lt_t h).elim) (fun h => ?_))))
  refine yv (zb hN Z (qe Z (zh ?_)))
  cases H
  exact ⟨U,.inl Z,U⟩
 ·rintro k3 x6 ⟨⟩ q4 h7 h8 H hq4
  replace H:z05 some2 k3 x6=some q4:=H
  unfold z05 at H
  refine zb hN Z (za (zx Z Z) (ze (zg _ Z (fun h => ?_) (fun h=>(lt_f h7 h).elim))))
  refine zl (ze (zw (zb hN Z (qd Z (qe Z (zb hN Z (qd Z (qd Z (qd Z (za (z0b tyU9 Z Z h8) (bE H fun r9 h10 H=>za (zr (y2p some2 (x6.toNat:Int) r9 h10) ⟨.inl Z,.inl Z,U⟩) (za (zx Z Z) (zg _ Z (fun h11 => ?_) (fun h11 => ?_))))))))))))))
  ·refine tE h11 H fun H=>zb hN Z (qe Z (zh ?_))
   replace H:=retl H hq4
   cases H
   exact ⟨U,.inl Z,U⟩
  ·exact fE h11 H fun H=>zl (zt hN Z (za (qg Z Z (by omega)) (qd Z ⟨_,yt H,⟨Z,Z,Z,Z,U⟩,U⟩)))
theorem ut (s1:Bs) (r:(Bool)) (H:vo s1=some r):Fn Tryz.prog 34 [vstr s1] (zo [zk r]):=by
 refine ⟨by kernel_rfl,yb (us:=[zk r]) Tryz.func34 Z Z Z Z fun X hN => ?_⟩
 unfold vo at H
 refine zb hN Z (qe Z (yp (ι:=Bool) (fun i=>[(2,.dat (zk i))]) (fun i=>[]) (fun i=>uy i=some r) (fun i=>Z) ?_ ?_))
 ·skip
  refine zt hN Z (qd Z (za (uc tyU9 Z) (bE H fun r2 h3 H=>za (zr (z3b (s1.length:Int) 1 40 r2 h3) ⟨.inl Z,.inl Z,.inl Z,U⟩) (qd Z (qh (j:=3) Z Z (fun h4 => ?_) (fun h4 => ?_) Z)))))
  ·refine u1 h4 H fun h5 H=>zq Z Z h4 (zd (.dat _) Z) (bE H fun l6 h7 H=>zq Z Z h4 (z4j tyU9 Z Z Z h7) (bE H fun r8 h9 H=>zq Z Z h4 (zr (z6p l6 [97,98,99,100,101,102,103,104,105,106,107,108,109,110,111,112,113,114,115,116,117,118,119,120,121,122] r8 h9) ⟨.inl Z,.inl Z,U⟩) (za (yq Z (bTT h5) Z) (qd Z (qh (j:=8) Z Z (fun h10 => ?_) (fun h10 => ?_) Z)))))
   ·exact u1 h10 H fun h11 H=>zq Z Z h10 (zd (.dat _) Z) (bE H fun r12 h13 H=>zq Z Z h10 (zr (z6p s1 [97,98,99,100,101,102,103,104,105,106,107,108,109,110,111,112,113,114,115,116,117,118,119,120,121,122,48,49,50,51,52,53,54,55,56,57,45,95] r12 h13) ⟨.inl Z,.inl Z,U⟩) (za (yq Z (bTT h11) Z) (qe Z ⟨r12,H,⟨Z,U⟩,U⟩)))
   ·exact u2 h10 H fun h14 H=>zf Z Z h10 (zf Z Z h10 (za (yl Z (bFF h14) Z) (qe Z ⟨false,H,⟨Z,U⟩,U⟩)))
  ·exact u2 h4 H fun h15 H=>zf Z Z h4 (zf Z Z h4 (zf Z Z h4 (za (yl Z (bFF h15) Z) (qd Z (zf Z Z Z (zf Z Z Z (za (yl Z Z Z) (qe Z ⟨false,H,⟨Z,U⟩,U⟩))))))))
 ·rintro v16 H
  replace H:uy v16=some r:=H
  unfold uy at H
  refine zh ?_
  cases H
  exact ⟨U,.inl Z,U⟩
theorem y21 (l1:(List zc)) (r:(Int)) (H:Zc l1=some r):Fn Tryz.prog 9 [vlst (List.map zn l1)] (zo [vint r]):=by
 refine ⟨by kernel_rfl,yb (us:=[vint r]) Tryz.func9 Z Z Z Z fun X hN => ?_⟩
 unfold Zc at H
 refine zb hN Z (qe Z (ze (zb hN Z (qd Z (za (yk yx Z) (za (qu Z Z) (zg _ Z (fun h2 => ?_) (fun h2 => ?_))))))))
 ·refine tE h2 H fun H=>zb hN Z (qe Z (zh ?_))
  cases H
  exact ⟨U,.inl Z,U⟩
 ·refine fE h2 H fun H=>zl (zb hN Z (qe Z (ze (zb hN Z (qd Z (za (yk yx Z) (qd Z (zw (gE H fun h6 H=>qv (fun (k4:Nat) (s:Bs)=>[(3,.dat (vstr s)),(9,.dat (vlst (List.map zn l1))),(10,.dat (vint (l1.length:Int))),(11,.dat (vint (k4:Int)))]) (fun (k4:Nat) (s:Bs)=>[]) [] H ⟨Z,Z,Z,Z,U⟩ U (fun _ _=>Z) ?_ ?_)))))))))
  ·rintro last3 H
   replace H:z07 last3=some r:=H
   unfold z07 at H
   refine zb hN Z (za (zx Z Z) (ze (zg _ Z (fun h=>(lt_t h).elim) (fun h => ?_))))
   refine yv (zb hN Z (qe Z (zh ?_)))
   cases H
   exact ⟨U,.inl Z,U⟩
  ·rintro k4 x7 last3 q5 h8 h9 H hq5
   replace H:Qz k4 x7 last3=some q5:=H
   unfold Qz at H
   refine zb hN Z (za (zx Z Z) (ze (zg _ Z (fun h => ?_) (fun h=>(lt_f h8 h).elim))))
   refine zl (ze (zw (zb hN Z (za (qx yw (fun _=>Z) Z Z h9) (za (Yc qk Z (yr h9) Z) (zj (jn 1 ju Z) Z (zj (jz qk Z Z Z Z) Z (ze (zw (zb hN Z (za (zu vy Z) (zp (zv tyS9 Z Z) Z (bE H fun r10 h11 H=>za (zr (ut x7.Id r10 h11) ⟨.inl Z,U⟩) (za (yy Z) (qe Z (zg _ Z (fun h12 => ?_) (fun h12 => ?_)))))))))))))))))
   ·refine tE h12 H fun H=>zb hN Z (qe Z (zh ?_))
    replace H:=retl H hq5
    cases H
    exact ⟨U,.inl Z,U⟩
   ·refine fE h12 H fun H=>zb hN Z (za (zu vy Z) (zp (zv tyS9 Z Z) Z (qd Z (za (z0c Z Z) (qe Z (zg _ Z (fun h13 => ?_) (fun h13 => ?_)))))))
    ·refine tE h13 H fun H=>zb hN Z (qe Z (zh ?_))
     replace H:=retl H hq5
     cases H
     exact ⟨U,.inl Z,U⟩
    ·refine fE h13 H fun H=>zb hN Z (za (zu xm Z) (zp (zv tyS3 Z Z) Z (za (zu vx Z) (zp (zv tyS3 Z Z) Z (bE H fun r14 h15 H=>za (zr (z3b x7.At 0 x7.Until r14 h15) ⟨.inl Z,.inl Z,.inl Z,U⟩) (za (yy Z) (qd Z (ql Z Z (fun hc=>zu vx Z) (kf Z Z (fun hc=>zv tyS3 (cnd (c:=(!(!r14))) hc) Z) Z kv (ql Z Z (fun hc=>qu (cnd (c:=(!(!r14))) hc) Z) (za (vj Z Z (fun hb=>(cnd (c:=(!(!r14))) (notI hb)))) (qe Z (zg _ Z (fun h16 => ?_) (fun h16 => ?_))))))))))))))
     ·refine tE h16 H fun H=>zb hN Z (qe Z (zh ?_))
      replace H:=retl H hq5
      cases H
      exact ⟨U,.inl Z,U⟩
     ·exact fE h16 H fun H=>zl (zt hN Z (za (zu vy Z) (zp (zv tyS9 Z Z) Z (qe Z (zt hN Z (za (qg Z Z (by omega)) (qd Z ⟨_,yt H,⟨Z,Z,Z,Z,U⟩,U⟩)))))))
theorem y2y (s1:Bs) (r:(Bool)) (H:Qk s1=some r):Fn Tryz.prog 61 [vstr s1] (zo [zk r]):=by
 refine ⟨by kernel_rfl,yb (us:=[zk r]) Tryz.func61 Z Z Z Z fun X hN => ?_⟩
 unfold Qk at H
 refine zb hN Z (qe Z (zb hN Z (qd Z (bE H fun r2 h3 H=>za (zr (z6h s1 [58] r2 h3) ⟨.inl Z,.inl Z,U⟩) (qe Z (ze (zb hN Z (qd Z (za (yk qc Z) (qd Z (zw (gE H fun h6 H=>qv (fun (k4:Nat) (s:Unit)=>[(3,.dat (vlst (List.map zi r2))),(8,.dat (vlst (List.map zi r2))),(9,.dat (vint (r2.length:Int))),(10,.dat (vint (k4:Int)))]) (fun (k4:Nat) (s:Unit)=>[]) () H ⟨Z,Z,Z,Z,U⟩ U (fun _ _=>Z) ?_ ?_))))))))))))
 ·rintro ⟨⟩ H
  replace H:z3g r2=some r:=H
  unfold z3g at H
  refine zb hN Z (za (zx Z Z) (ze (zg _ Z (fun h=>(lt_t h).elim) (fun h => ?_))))
  refine yv (zb hN Z (qd Z (za (yk qc Z) (za (vg Z Z) (qe Z (zh ?_))))))
  cases H
  exact ⟨U,.inl Z,U⟩
 ·rintro k4 x7 ⟨⟩ q5 h8 h9 H hq5
  replace H:z04 r2 k4 x7=some q5:=H
  unfold z04 at H
  refine zb hN Z (za (zx Z Z) (ze (zg _ Z (fun h => ?_) (fun h=>(lt_f h8 h).elim))))
  refine zl (ze (zw (zb hN Z (qd Z (za (qx qt (fun _=>Z) Z Z h9) (za (ym tyS9 Z (yr h9) Z) (qe Z (qe Z (zb hN Z (qd Z (bE H fun r10 h11 H=>za (zr (ut x7 r10 h11) ⟨.inl Z,U⟩) (za (yy Z) (qd Z (qq Z Z (fun hc=>zd (.dat _) Z) (qq Z Z (fun hc=>ua (cnd (c:=(!r10)) hc) Z) (qq Z Z (fun hc=>zd (.dat _) (cnd (c:=(!r10)) hc)) (jo Z Z (fun hc=>zd (.dat _) Z) (jo Z Z (fun hc=>zd (.dat _) Z) (jo Z Z (fun hc=>yk qc (cnd (c:=((!r10) && !(decide (x7≠[42])))) hc)) (jo Z Z (fun hc=>ye _ (cnd (c:=((!r10) && !(decide (x7≠[42])))) hc) Z (.inr (.inl ⟨Z,Z⟩))) (jo Z Z (fun hc=>zx (cnd (c:=((!r10) && !(decide (x7≠[42])))) hc) (cnd (c:=((!r10) && !(decide (x7≠[42])))) hc)) (qq Z Z (fun hc=>vj (cnd (c:=(!r10)) hc) Z (fun hb=>(cnd (c:=((!r10) && !(decide (x7≠[42])))) (andI hc (notI hb))))) ?_))))))))))))))))))))))
  refine za (jk Z (fun hb=>(cnd (c:=(!r10)) hb)) Z) (zg _ Z (fun h12 => ?_) (fun h12 => ?_))
  ·refine tE h12 H fun H=>zb hN Z (qe Z (zh ?_))
   replace H:=retl H hq5
   cases H
   exact ⟨U,.inl Z,U⟩
  ·exact fE h12 H fun H=>zl (zt hN Z (za (qg Z Z (by omega)) (qd Z ⟨_,yt H,⟨Z,Z,Z,Z,U⟩,U⟩)))
theorem y20 (l1:(List Bs)) (r:(Int)) (H:Qm l1=some r):Fn Tryz.prog 38 [vlst (List.map zi l1)] (zo [vint r]):=by
 refine ⟨by kernel_rfl,yb (us:=[vint r]) Tryz.func38 Z Z Z Z fun X hN => ?_⟩
 unfold Qm at H
 refine zb hN Z (qe Z (ze (zb hN Z (qd Z (za (yk qc Z) (za (qu Z Z) (zg _ Z (fun h2 => ?_) (fun h2 => ?_))))))))
 ·refine tE h2 H fun H=>zb hN Z (qe Z (zh ?_))
  cases H
  exact ⟨U,.inl Z,U⟩
 ·refine fE h2 H fun H=>zl (ze (zb hN Z (qd Z (za (yk qc Z) (qd Z (zw (gE H fun h5 H=>qv (fun (k3:Nat) (s:Unit)=>[(8,.dat (vlst (List.map zi l1))),(9,.dat (vint (l1.length:Int))),(10,.dat (vint (k3:Int)))]) (fun (k3:Nat) (s:Unit)=>[]) () H ⟨Z,Z,Z,U⟩ U (fun _ _=>Z) ?_ ?_)))))))
  ·rintro ⟨⟩ H
   replace H:z3i=some r:=H
   unfold z3i at H
   refine zb hN Z (za (zx Z Z) (ze (zg _ Z (fun h=>(lt_t h).elim) (fun h => ?_))))
   refine yv (zb hN Z (qe Z (zh ?_)))
   cases H
   exact ⟨U,.inl Z,U⟩
  ·rintro k3 x6 ⟨⟩ q4 h7 h8 H hq4
   replace H:z06 k3 x6=some q4:=H
   unfold z06 at H
   refine zb hN Z (za (zx Z Z) (ze (zg _ Z (fun h => ?_) (fun h=>(lt_f h7 h).elim))))
   refine zl (ze (zw (zb hN Z (za (qx qt (fun _=>Z) Z Z h8) (za (ym tyS9 Z (yr h8) Z) (qe Z (zb hN Z (qd Z (bE H fun r9 h10 H=>za (zr (y2y x6 r9 h10) ⟨.inl Z,U⟩) (za (yy Z) (zg _ Z (fun h11 => ?_) (fun h11 => ?_))))))))))))
   ·refine tE h11 H fun H=>zb hN Z (qe Z (zh ?_))
    replace H:=retl H hq4
    cases H
    exact ⟨U,.inl Z,U⟩
   ·exact fE h11 H fun H=>zl (zt hN Z (za (qg Z Z (by omega)) (qd Z ⟨_,yt H,⟨Z,Z,Z,U⟩,U⟩)))
theorem y29 (v1:yi) (r:(Int)) (H:Qp v1=some r):Fn Tryz.prog 12 [vagg (vu v1)] (zo [vint r]):=by
 refine ⟨by kernel_rfl,yb (us:=[vint r]) Tryz.func12 Z Z Z Z fun X hN => ?_⟩
 unfold Qp at H
 refine zb hN Z (zj (vk 1 Z) Z (qe Z (ze (zw (yp (ι:=Bool) (fun i=>[(1,.ptr 1 0),(6,.dat (zk i))]) (fun i=>[(1,.box none 30 [.dat (vstr v1.Id),.dat (vstr v1.Subject),.dat (vstr v1.Issuer),.dat (vstr v1.Parent),.dat (vlst (List.map zi v1.Audience)),.dat (vlst (List.map zi v1.Scopes)),.dat (vint v1.From),.dat (vint v1.To)])]) (fun i=>jg v1 i=some r) (fun i=>Z) ?_ ?_)))))
 ·skip
  refine zt hN Z (za (zu ky Z) (zp (zv tyS9 Z Z) Z (bE H fun r2 h3 H=>za (zr (ut v1.Id r2 h3) ⟨.inl Z,U⟩) (za (yy Z) (qd Z (qh (j:=4) Z Z (fun h4 => ?_) (fun h4 => ?_) Z))))))
  ·refine u3 h4 H fun h5 H=>zq Z Z h4 (zu z1r Z) (wc Z Z h4 (zv tyS9 Z Z) Z (bE H fun r6 h7 H=>zq Z Z h4 (zr (ut v1.Subject r6 h7) ⟨.inl Z,U⟩) (zq Z Z h4 (yy Z) (za (yl Z (bFF h5) Z) (qd Z (qh (j:=10) Z Z (fun h8 => ?_) (fun h8 => ?_) Z))))))
   ·refine u3 h8 H fun h9 H=>zq Z Z h8 (zu z1q Z) (wc Z Z h8 (zv tyS9 Z Z) Z (bE H fun r10 h11 H=>zq Z Z h8 (zr (ut v1.Issuer r10 h11) ⟨.inl Z,U⟩) (zq Z Z h8 (yy Z) (za (yl Z (bFF h9) Z) (qd Z (qh (j:=16) Z Z (fun h12 => ?_) (fun h12 => ?_) Z))))))
    ·refine u3 h12 H fun h13 H=>zq Z Z h12 (zu Zu Z) (wc Z Z h12 (zv tyS9 Z Z) Z (zq Z Z h12 (ua Z Z) (zq Z Z h12 (zd (.dat _) Z) (qh (j:=20) Z Z (fun h14 => ?_) (fun h14 => ?_) Z))))
     ·exact u1 h14 H fun h15 H=>zq Z Z h14 (zu Zu Z) (wc Z Z h14 (zv tyS9 Z Z) Z (bE H fun r16 h17 H=>zq Z Z h14 (zr (ut v1.Parent r16 h17) ⟨.inl Z,U⟩) (zq Z Z h14 (yy Z) (zq Z Z h12 (yq Z (bTT h15) Z) (za (yl Z (bFF h13) Z) (qe Z ⟨!r16,H,⟨Z,Z,U⟩,⟨Z,U⟩⟩))))))
     ·exact u2 h14 H fun h18 H=>zf Z Z h14 (zf Z Z h14 (zf Z Z h14 (zf Z Z h14 (zq Z Z h12 (yl Z (bFF h18) Z) (za (yl Z (bFF h13) Z) (qe Z ⟨false,H,⟨Z,Z,U⟩,⟨Z,U⟩⟩))))))
    ·exact u4 h12 H fun h19 H=>zf Z Z h12 (zf Z Z h12 (zf Z Z h12 (zf Z Z h12 (qf Z Z (qf Z Z (qf Z Z (qf Z Z (zf Z Z h12 (za (yq Z (bTT h19) Z) (qe Z ⟨true,H,⟨Z,Z,U⟩,⟨Z,U⟩⟩))))))))))
   ·exact u4 h8 H fun h20 H=>zf Z Z h8 (zf Z Z h8 (zf Z Z h8 (zf Z Z h8 (za (yq Z (bTT h20) Z) (qd Z (zf Z Z Z (zf Z Z Z (zf Z Z Z (zf Z Z Z (qf Z Z (qf Z Z (qf Z Z (qf Z Z (zf Z Z Z (za (yq Z Z Z) (qe Z ⟨true,H,⟨Z,Z,U⟩,⟨Z,U⟩⟩))))))))))))))))
  ·refine u4 h4 H fun h21 H=>zf Z Z h4 (zf Z Z h4 (zf Z Z h4 (zf Z Z h4 (za (yq Z (bTT h21) Z) (qd Z (zf Z Z Z (zf Z Z Z (zf Z Z Z (zf Z Z Z (za (yq Z Z Z) (qd Z (zf Z Z Z (zf Z Z Z (zf Z Z Z (zf Z Z Z (qf Z Z (qf Z Z (qf Z Z (qf Z Z (zf Z Z Z (za (yq Z Z Z) (qe Z ?_))))))))))))))))))))))
   exact ⟨true,H,⟨Z,Z,U⟩,⟨Z,U⟩⟩
 ·rintro v22 H
  replace H:jg v1 v22=some r:=H
  unfold jg at H
  refine zg _ Z (fun h23 => ?_) (fun h23 => ?_)
  ·refine tE h23 H fun H=>zb hN Z (qe Z (zh ?_))
   cases H
   exact ⟨U,.inl Z,U⟩
  ·refine fE h23 H fun H=>zb hN Z (za (zu xo Z) (zp (zv qp Z Z) Z (za (yk qc Z) (za (qu Z Z) (qe Z (zg _ Z (fun h24 => ?_) (fun h24 => ?_)))))))
   ·refine tE h24 H fun H=>zb hN Z (qe Z (zh ?_))
    cases H
    exact ⟨U,.inl Z,U⟩
   ·refine fE h24 H fun H=>zl (ze (zb hN Z (za (zu xo Z) (zp (zv qp Z Z) Z (za (yk qc Z) (qd Z (zw (gE H fun h27 H=>qv (fun (k25:Nat) (s:Unit)=>[(1,.ptr 1 0),(40,.dat (vlst (List.map zi v1.Audience))),(41,.dat (vint (v1.Audience.length:Int))),(42,.dat (vint (k25:Int)))]) (fun (k25:Nat) (s:Unit)=>[(1,.box none 30 [.dat (vstr v1.Id),.dat (vstr v1.Subject),.dat (vstr v1.Issuer),.dat (vstr v1.Parent),.dat (vlst (List.map zi v1.Audience)),.dat (vlst (List.map zi v1.Scopes)),.dat (vint v1.From),.dat (vint v1.To)])]) () H ⟨Z,Z,Z,Z,U⟩ ⟨Z,U⟩ (fun _ _=>Z) ?_ ?_))))))))
    ·rintro ⟨⟩ H
     replace H:Wa v1=some r:=H
     unfold Wa at H
     refine zb hN Z (za (zx Z Z) (ze (zg _ Z (fun h=>(lt_t h).elim) (fun h => ?_))))
     refine yv (ze (zb hN Z (za (zu kx Z) (zp (zv qp Z Z) Z (bE H fun r29 h30 H=>za (zr (y20 v1.Scopes r29 h30) ⟨.inl Z,U⟩) (qe Z (zb hN Z (qd Z (za (vf Z Z) (zg _ Z (fun h31 => ?_) (fun h31 => ?_)))))))))))
     ·refine tE h31 H fun H=>zb hN Z (qd Z (qe Z (zh ?_)))
      cases H
      exact ⟨U,.inl Z,U⟩
     ·refine fE h31 H fun H=>zl (ze (ze (wz mixed hN Z Z (za (zu kx Z) (zp (zv qp Z Z) Z (bE H fun r32 h33 H=>za (zr (z6q v1.Scopes r32 h33) ⟨.inl Z,U⟩) (za (zu kx Z) (zp (zv qp Z Z) Z (bE H fun r34 h35 H=>za (zr (z6m r32 v1.Scopes r34 h35) ⟨.inl Z,.inl Z,U⟩) (za (yy Z) ⟨Z,?_⟩))))))))))
      refine zg _ Z (fun h36 => ?_) (fun h36 => ?_)
      ·refine tE h36 H fun H=>zb hN Z (qe Z (zh ?_))
       cases H
       exact ⟨U,.inl Z,U⟩
      ·refine fE h36 H fun H=>zl (ze (zb hN Z (za (zu xn Z) (zp (zv tyS3 Z Z) Z (za (zx Z Z) (qd Z (ql Z Z (fun hc=>zu xn Z) (kf Z Z (fun hc=>zv tyS3 (cnd (c:=(!(decide (v1.From < 0)))) hc) Z) Z kv (ql Z Z (fun hc=>zu va Z) (kf Z Z (fun hc=>zv tyS3 (cnd (c:=(!(decide (v1.From < 0)))) hc) Z) Z kv (ql Z Z (fun hc=>wq (cnd (c:=(!(decide (v1.From < 0)))) hc) (cnd (c:=(!(decide (v1.From < 0)))) hc)) (za (vj Z Z (fun hb=>(cnd (c:=(!(decide (v1.From < 0)))) (notI hb)))) (qd Z (ql Z Z (fun hc=>zu va Z) (kf Z Z (fun hc=>zv tyS3 (cnd (c:=(!((decide (v1.From < 0)) || (decide (v1.To≤v1.From))))) hc) Z) Z kv (ql Z Z (fun hc=>qu (cnd (c:=(!((decide (v1.From < 0)) || (decide (v1.To≤v1.From))))) hc) Z) (za (vj Z Z (fun hb=>(cnd (c:=(!((decide (v1.From < 0)) || (decide (v1.To≤v1.From))))) (notI hb)))) (zg _ Z (fun h37 => ?_) (fun h37 => ?_)))))))))))))))))))
       ·refine tE h37 H fun H=>zb hN Z (qe Z (zh ?_))
        cases H
        exact ⟨U,.inl Z,U⟩
       ·refine fE h37 H fun H=>zl (zb hN Z (qe Z (zh ?_)))
        cases H
        exact ⟨U,.inl Z,U⟩
    ·rintro k25 x28 ⟨⟩ q26 h38 h39 H hq26
     replace H:z1a v1 k25 x28=some q26:=H
     unfold z1a at H
     refine zb hN Z (za (zx Z Z) (ze (zg _ Z (fun h => ?_) (fun h=>(lt_f h38 h).elim))))
     refine zl (ze (zw (zb hN Z (qd Z (za (qx qt (fun _=>Z) Z Z h39) (za (ym tyS9 Z (yr h39) Z) (qe Z (qe Z (ze (zb hN Z (qd Z (bE H fun r40 h41 H=>za (zr (ut x28 r40 h41) ⟨.inl Z,U⟩) (za (yy Z) (zg _ Z (fun h42 => ?_) (fun h42 => ?_)))))))))))))))
     ·refine tE h42 H fun H=>zb hN Z (qe Z (zh ?_))
      replace H:=retl H hq26
      cases H
      exact ⟨U,.inl Z,U⟩
     ·refine fE h42 H fun H=>zl (yp (ι:=Bool) (fun i=>[(1,.ptr 1 0),(40,.dat (vlst (List.map zi v1.Audience))),(41,.dat (vint (v1.Audience.length:Int))),(42,.dat (vint (k25:Int))),(61,.dat (zk i))]) (fun i=>[(1,.box none 30 [.dat (vstr v1.Id),.dat (vstr v1.Subject),.dat (vstr v1.Issuer),.dat (vstr v1.Parent),.dat (vlst (List.map zi v1.Audience)),.dat (vlst (List.map zi v1.Scopes)),.dat (vint v1.From),.dat (vint v1.To)])]) (fun i=>uz i=some q26) (fun i=>Z) ?_ ?_)
      ·skip
       refine zt hN Z (qd Z (za (qu Z Z) (qd Z (qh (j:=2) Z Z (fun h43 => ?_) (fun h43 => ?_) Z))))
       ·exact u1 h43 H fun h44 H=>zq Z Z h43 (zd (.dat _) Z) (zq Z Z h43 (zu xo Z) (wc Z Z h43 (zv qp Z Z) Z (zq Z Z h43 (zd (.dat _) Z) (zq Z Z h43 (z12 Z Z (by omega)) (bE H fun x45 h46 H=>zq Z Z h43 (jw qt (fun _=>Z) Z Z h46) (zq Z Z h43 (ym tyS9 Z (yr (yn h46).2) Z) (zq Z Z h43 (z0c Z Z) (za (yq Z (bTT h44) Z) ⟨(Op.bytesLess x28 x45 || x28 == x45),H,⟨Z,Z,Z,Z,Z,U⟩,⟨Z,U⟩⟩))))))))
       ·exact u2 h43 H fun h47 H=>zf Z Z h43 (zf Z Z h43 (zf Z Z h43 (zf Z Z h43 (zf Z Z h43 (zf Z Z h43 (zf Z Z h43 (zf Z Z h43 (za (yl Z (bFF h47) Z) ⟨false,H,⟨Z,Z,Z,Z,Z,U⟩,⟨Z,U⟩⟩))))))))
      ·rintro v48 H
       replace H:uz v48=some q26:=H
       unfold uz at H
       refine zg _ Z (fun h49 => ?_) (fun h49 => ?_)
       ·refine tE h49 H fun H=>zb hN Z (qe Z (zh ?_))
        replace H:=retl H hq26
        cases H
        exact ⟨U,.inl Z,U⟩
       ·exact fE h49 H fun H=>zl (zt hN Z (za (qg Z Z (by omega)) (qd Z ⟨_,yt H,⟨Z,Z,Z,Z,U⟩,⟨Z,U⟩⟩)))
theorem y27 (v1:Int) (r:(Bool)) (H:z0w v1=some r):Fn Tryz.prog 42 [vint v1] (zo [zk r]):=by
 refine ⟨by kernel_rfl,yb (us:=[zk r]) Tryz.func42 Z Z Z Z fun X hN => ?_⟩
 unfold z0w at H
 refine zb hN Z (qe Z (zb hN Z (qd Z (bE H fun r2 h3 H=>za (zr (z3b v1 0 345686399999 r2 h3) ⟨.inl Z,.inl Z,.inl Z,U⟩) (qe Z (zh ?_))))))
 cases H
 exact ⟨U,.inl Z,U⟩
theorem y3h (is1:Bool) (e2:Int) (r:(Int)) (H:z0x is1 e2=some r):Fn Tryz.prog 41 [zk is1,vint e2] (zo [vint r]):=by
 refine ⟨by kernel_rfl,yb (us:=[vint r]) Tryz.func41 Z Z Z Z fun X hN => ?_⟩
 unfold z0x at H
 refine zb hN Z (qe Z (ze (zb hN Z (qd Z (zg _ Z (fun h3 => ?_) (fun h3 => ?_))))))
 ·refine tE h3 H fun H=>zb hN Z (qd Z (qe Z (zh ?_)))
  cases H
  exact ⟨U,.inl Z,U⟩
 ·refine fE h3 H fun H=>zl (zb hN Z (qe Z (zh ?_)))
  cases H
  exact ⟨U,.inl Z,U⟩
theorem z6r (v1:Int) (r:(Int)) (H:un v1=some r):Fn Tryz.prog 13 [vint v1] (zo [vint r]):=by
 refine ⟨by kernel_rfl,yb (us:=[vint r]) Tryz.func13 Z Z Z Z fun X hN => ?_⟩
 unfold un at H
 refine zb hN Z (qe Z (zb hN Z (qd Z (bE H fun r2 h3 H=>za (zr (y27 v1 r2 h3) ⟨.inl Z,U⟩) (za (yy Z) (bE H fun r4 h5 H=>za (zr (y3h (!r2) 1 r4 h5) ⟨.inl Z,.inl Z,U⟩) (qe Z (zh ?_))))))))
 cases H
 exact ⟨U,.inl Z,U⟩
end Go.Proofs.YtbndlmnjeofkdabGreatDoor
