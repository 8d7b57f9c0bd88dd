/- Walks along the models. Printed by a program. -/
import Derived.Test.YtpjjkhcojjcdpaaGreatDoorZxw3
namespace Go.Proofs.YtpjjkhcojjcdpaaGreatDoor
open Go.RowKit
set_option linter.unusedVariables false
set_option maxRecDepth 100000
set_option maxHeartbeats 2000000
theorem y5m (s1:yb) (s2:zg) (s3:Bool) (r:(Bool×yb×zg×Bool)) (H:xf s1 s2 s3=some r):FnG Tryz.prog 56 [.ptr 0 0,.ptr 10 0,.ptr 20 0] [(0,.box (some 0) 60 [.dat (vstr s1.s_)]),(10,.box (some 10) 45 [.dat (vstr s2.Words),.row 11 s2.Params.length,.dat (vint s2.Quality)]),(11,.row 47 2 (List.map ym s2.Params)),(20,.box (some 20) 4 [.dat (zf s3)])] (.dat (zu [zf r.1])) [(0,.box (some 0) 60 [.dat (vstr r.2.1.s_)]),(10,.box (some 10) 45 [.dat (vstr r.2.2.1.Words),.row 900 r.2.2.1.Params.length,.dat (vint r.2.2.1.Quality)]),(20,.box (some 20) 4 [.dat (zf r.2.2.2)]),(900,.row 47 2 (List.map ym r.2.2.1.Params))]:=by
 refine z7c (by kernel_rfl) Tryz.func56 Z Z Z Z fun X A hN => ?_
 refine wd ?_
 unfold xf at H
 refine zb hN Z (qe Z (zb hN Z (za (ze (.ptr _ _) Z) (bE H fun r4 h5 H=>zl (yh (z4i s1 r4 h5) Z U Z) Z (zb hN Z (za (ze (.ptr _ _) Z) (bE H fun r6 h7 H=>zl (yh (z6x r4 [61,44,59,32] r6 h7) Z ⟨.inl Z,U⟩ Z) Z (qe Z (zh (ya (ι:=Bool) (fun i=>[(0,.ptr 0 0),(1,.ptr 10 0),(2,.ptr 20 0),(7,.dat (vstr r6.1)),(26,.dat (zf i))]) (fun i=>[(0,.box (some (A.bl 0)) 60 [.dat (vstr r6.2.s_)]),(10,.box (some (A.bl 10)) 45 [.dat (vstr s2.Words),.row 11 s2.Params.length,.dat (vint s2.Quality)]),(11,.row 47 2 (List.map ym s2.Params)),(20,.box (some (A.bl 20)) 4 [.dat (zf s3)])]) (fun i=>Yn s2 s3 r6 i=some r) (fun i=>Z) ?_ ?_))))))))))
 ·refine wd (zn hN Z (qd Z (bE H fun r8 h9 H=>za (zp (Wm r6.1 r8 h9) ⟨.inl Z,U⟩) (za (yt Z) (qd Z (yc (j:=3) Z Z (fun h10 => ?_) (fun h10 => ?_) Z))))))
  ·refine u3 h10 H fun h11 H=>zd Z Z h10 (ze (.ptr _ _) Z) (zd Z Z h10 (zy Z) (zd Z Z h10 (zk qb Z) (we Z Z h10 (zr tyS9 Z Z) Z (bE H fun r12 h13 H=>zd Z Z h10 (zp (z4e r6.2.s_ [61] r12 h13) ⟨.inl Z,.inl Z,U⟩) (zd Z Z h10 (yt Z) (za (zq Z (bFF h11) Z) (wg ?_)))))))
   show Cv _ _ _ _
   exact qu ⟨!r12,H,⟨Z,Z,Z,Z,Z,U⟩,⟨Z,Z,Z,Z,U⟩⟩
  ·refine u4 h10 H fun h14 H=>zc Z Z h10 (zc Z Z h10 (zc Z Z h10 (zc Z Z h10 (zc Z Z h10 (zc Z Z h10 (za (zx Z (bTT h14) Z) (wg ?_)))))))
   show Cv _ _ _ _
   exact qu ⟨true,H,⟨Z,Z,Z,Z,Z,U⟩,⟨Z,Z,Z,Z,U⟩⟩
 ·rintro v15 H
  replace H:Yn s2 s3 r6 v15=some r:=H
  unfold Yn at H
  refine zi _ Z (fun h16 => ?_) (fun h16 => ?_)
  ·refine tE h16 H fun H=>zb hN Z (qe Z (zj ?_))
   cases H
   show Cv _ _ _ _
   exact wn (rn [(11,900)]) [(6,.dat (zf false))] [(0,.box (some (A.bl 0)) 60 [.dat (vstr r6.2.s_)]),(10,.box (some (A.bl 10)) 45 [.dat (vstr s2.Words),.row 11 s2.Params.length,.dat (vint s2.Quality)]),(20,.box (some (A.bl 20)) 4 [.dat (zf s3)]),(11,.row 47 2 (List.map ym s2.Params))] ⟨Z,U⟩ ⟨Z,Z,Z,Z,U⟩ Z Z ⟨U,[(6,.dat (zf false))],⟨Z,U⟩,⟨Z,Z,Z,Z,U⟩,Z,.inl ⟨[zf false],⟨Z,U⟩,Z⟩⟩
  ·refine fE h16 H fun H=>zo (zb hN Z (za (ze (.ptr _ _) Z) (za (ze (.ptr _ _) Z) (za (zy Z) (za (zk qb Z) (zw (zr tyS9 Z Z) Z (bE H fun l17 h18 H=>za (qg tyU9 Z Z Z h18) (za (zy Z) (za (zk qb Z) (zl (qn tyS9 Z Z Z Z) Z (zb hN Z (qe Z (qe Z (zb hN Z (za (ze (.ptr _ _) Z) (za (zy Z) (za (zk qb Z) (zw (zr tyS9 Z Z) Z (bE H fun r19 h20 H=>za (zp (z4e l17 [34] r19 h20) ⟨.inl Z,.inl Z,U⟩) (qe Z ?_))))))))))))))))))))
   refine ya (ι:=Bs×Bool×Bs) (fun i=>[(1,.ptr 10 0),(2,.ptr 20 0),(7,.dat (vstr r6.1)),(8,.dat (vstr i.1)),(9,.dat (zf i.2.1)),(10,.dat (zf r19))]) (fun i=>[(0,.box (some (A.bl 0)) 60 [.dat (vstr i.2.2)]),(10,.box (some (A.bl 10)) 45 [.dat (vstr s2.Words),.row 11 s2.Params.length,.dat (vint s2.Quality)]),(11,.row 47 2 (List.map ym s2.Params)),(20,.box (some (A.bl 20)) 4 [.dat (zf s3)])]) (fun i=>Ym s2 s3 r6 r19 i.1 i.2.1 i.2.2=some r) (fun i=>Z) ?_ ?_
   ·refine wd (zb hN Z (qd Z (zi _ Z (fun h21 => ?_) (fun h21 => ?_))))
    ·refine tE h21 H fun H=>zb hN Z (za (ze (.ptr _ _) Z) (za (ze (.ptr _ _) Z) (za (zy Z) (za (zk qb Z) (zw (zr tyS9 Z Z) Z (bE H fun l22 h23 H=>za (qg tyU9 Z Z Z h23) (za (zy Z) (za (zk qb Z) (zl (qn tyS9 Z Z Z Z) Z (zn hN Z (za (ze (.ptr _ _) Z) (bE H fun r24 h25 H=>zl (yh (y6t (yb.mk l22) r24 h25) Z U Z) Z (qd Z (za (yn Z Z) (za (yn Z Z) (qe Z (qe Z (wg ?_))))))))))))))))))
     show Cv _ _ _ _
     exact qu ⟨(r24.1,r24.2.1,r24.2.2.s_),H,⟨Z,Z,Z,Z,Z,Z,U⟩,⟨Z,Z,Z,Z,U⟩⟩
    ·refine fE h21 H fun H=>zb hN Z (za (ze (.ptr _ _) Z) (bE H fun r26 h27 H=>zl (yh (z6x (yb.mk l17) [44,59,32] r26 h27) Z ⟨.inl Z,U⟩ Z) Z (qe Z (zn hN Z (qd Z (bE H fun r28 h29 H=>za (zp (Wm r26.1 r28 h29) ⟨.inl Z,U⟩) (qe Z (wg ?_))))))))
     show Cv _ _ _ _
     exact qu ⟨(r26.1,r28,r26.2.s_),H,⟨Z,Z,Z,Z,Z,Z,U⟩,⟨Z,Z,Z,Z,U⟩⟩
   ·rintro ⟨v30,v31,c32⟩ H
    replace H:Ym s2 s3 r6 r19 v30 v31 c32=some r:=H
    unfold Ym at H
    refine zh (zb hN Z (qd Z (za (yt Z) (zi _ Z (fun h33 => ?_) (fun h33 => ?_)))))
    ·refine tE h33 H fun H=>zb hN Z (qe Z (zj ?_))
     cases H
     show Cv _ _ _ _
     exact wn (rn [(11,900)]) [(6,.dat (zf false))] [(0,.box (some (A.bl 0)) 60 [.dat (vstr c32)]),(10,.box (some (A.bl 10)) 45 [.dat (vstr s2.Words),.row 11 s2.Params.length,.dat (vint s2.Quality)]),(20,.box (some (A.bl 20)) 4 [.dat (zf s3)]),(11,.row 47 2 (List.map ym s2.Params))] ⟨Z,U⟩ ⟨Z,Z,Z,Z,U⟩ Z Z ⟨U,[(6,.dat (zf false))],⟨Z,U⟩,⟨Z,Z,Z,Z,U⟩,Z,.inl ⟨[zf false],⟨Z,U⟩,Z⟩⟩
    ·refine fE h33 H fun H=>zo (zh (zb hN Z (qd Z (za (kj Z Z) (qd Z (yx Z Z (fun hc=>ze (.dat _) Z) (yx Z Z (fun hc=>kj (cnd (c:=(decide (r6.1≠[113]))) hc) Z) (za (wc Z (fun hb=>(cnd (c:=(decide (r6.1≠[113]))) hb)) Z) (zi _ Z (fun h34 => ?_) (fun h34 => ?_))))))))))
     ·refine tE h34 H fun H=>zb hN Z (za (ze (.ptr _ _) Z) (za (ze (.ptr _ _) Z) (za (zy Z) (za (zk wv Z) (zw (zr wu Z Z) Z (qd Z (qd Z (za (yg (u':=vagg (ym (zt.mk r6.1 v30))) (km [(0,[vstr r6.1]),(1,[vstr v30])] xw z2t Z ⟨Z,.inl ⟨_,Z,Z,Z⟩,Z,Z,.inl ⟨_,Z,Z,Z⟩,Z,U⟩) Z) (za (yg (u':=vlst (List.map ym [(zt.mk r6.1 v30)])) (qj [_] un ⟨Z,.inr Z,Z,U⟩ Z Z) Z) (gE H fun h35 H=>zl (jc un (fun _=>Z) Z Z Z ⟨by simp,by first | (simp; done) | simpa using h35⟩ Z) Z ?_))))))))))
      refine za (zy Z) (za (zk wv Z) (z0x (z0t wu Z Z (by rw [List.length_map]) Z) Z Z ?_))
      refine zb hN Z (qe Z (zj ?_))
      cases H
      show Cv _ _ _ _
      exact wn (rn [(11,900)]) [(6,.dat (zf true))] [(0,.box (some (A.bl 0)) 60 [.dat (vstr c32)]),(10,.box (some (A.bl 10)) 45 [.dat (vstr s2.Words),.row 11 ((s2.Params++[(zt.mk r6.1 v30)]).length),.dat (vint s2.Quality)]),(20,.box (some (A.bl 20)) 4 [.dat (zf s3)]),(11,.row 47 2 (List.map ym (s2.Params++[(zt.mk r6.1 v30)])))] ⟨Z,U⟩ ⟨Z,Z,Z,Z,U⟩ Z Z ⟨U,[(6,.dat (zf true))],⟨Z,U⟩,⟨Z,Z,Z,Z,U⟩,Z,.inl ⟨[zf true],⟨Z,U⟩,Z⟩⟩
     ·refine fE h34 H fun H=>zo (zb hN Z (za (ze (.ptr _ _) Z) (za (zy Z) (zw (zr tyS4 Z Z) Z (qe Z (zb hN Z (za (ze (.ptr _ _) Z) (za (zy Z) (zl (qn tyS4 Z Z Z Z) Z (zb hN Z (za (ze (.ptr _ _) Z) (qd Z (bE H fun r36 h37 H=>za (zp (y6s v30 r36 h37) ⟨.inl Z,U⟩) (qd Z (za (yn Z Z) (za (yn Z Z) (za (zy Z) (za (zk jm Z) (zl (qn tyS3 Z Z Z Z) Z (qe Z (zb hN Z ?_)))))))))))))))))))))
      refine qd Z (qd Z (yx Z Z (fun hc=>ze (.dat _) Z) (yx Z Z (fun hc=>yt (cnd (c:=r36.2) hc)) (za (wc Z (fun hb=>(cnd (c:=r36.2) hb)) Z) (qd Z (yx Z Z (fun hc=>ze (.dat _) Z) (yx Z Z (fun hc=>yt (cnd (c:=(r36.2 && (!s3))) hc)) (za (wc Z (fun hb=>(cnd (c:=(r36.2 && (!s3))) hb)) Z) (qe Z (zj ?_))))))))))
      cases H
      show Cv _ _ _ _
      exact wn (rn [(11,900)]) [(6,.dat (zf ((r36.2 && (!s3)) && (!r19))))] [(0,.box (some (A.bl 0)) 60 [.dat (vstr c32)]),(10,.box (some (A.bl 10)) 45 [.dat (vstr s2.Words),.row 11 s2.Params.length,.dat (vint r36.1)]),(20,.box (some (A.bl 20)) 4 [.dat (zf true)]),(11,.row 47 2 (List.map ym s2.Params))] ⟨Z,U⟩ ⟨Z,Z,Z,Z,U⟩ Z Z ⟨U,[(6,.dat (zf ((r36.2 && (!s3)) && (!r19))))],⟨Z,U⟩,⟨Z,Z,Z,Z,U⟩,Z,.inl ⟨[zf ((r36.2 && (!s3)) && (!r19))],⟨Z,U⟩,Z⟩⟩
theorem y6u (s1:yb) (r:(zg×Bool×yb)) (H:z1i s1=some r):Imp Tryz.prog 28 60 (jk s1) [] (zu [vagg (yd r.1),zf r.2.1]) (jk r.2.2):=by
 refine wm (us:=[vagg (yd r.1),zf r.2.1]) (cs':=(jk r.2.2)) (by kernel_rfl) Tryz.func28 Z Z Z Z fun X bl hN => ?_
 unfold z1i at H
 refine zb hN Z (zl (vj 1 vy Z) Z (qe Z (zb hN Z (za (ze (.ptr _ _) Z) (bE H fun r2 h3 H=>zl (yh (z6x s1 [44,59,32] r2 h3) Z ⟨.inl Z,U⟩ Z) Z (za (yg (u':=vagg [vstr r2.1,vnil,vint 1000]) (km [(0,[vstr r2.1]),(2,[vint 1000])] vy z49 Z ⟨Z,.inl ⟨_,Z,Z,Z⟩,Z,Z,.inl ⟨_,Z,Z,Z⟩,Z,U⟩) Z) (zl (vj 2 vy Z) Z (zl (vi qf Z Z Z Z) Z (z42 2 1 3 47 2 Z Z Z Z (zh (zb hN Z (za (zk ki Z) (zw (zr tyS9 Z Z) Z (bE H fun r4 h5 H=>za (zp (y0k r2.1 r4 h5) ⟨.inl Z,U⟩) (za (yt Z) (zi _ Z (fun h6 => ?_) (fun h6 => ?_)))))))))))))))))
 ·refine tE h6 H fun H=>zh (z2f 2 1 3 rfl rfl rfl (by first | rw [List.length_map] | rfl) ?_)
  refine zn hN Z (zw (kl qf Z Z Z) Z (zl (vi qf Z Z Z Z) Z (qe Z (zj ?_))))
  cases H
  exact ⟨U,⟨.inl ⟨_,_,_,yd (zg.mk r2.1 ([]:List zt) 1000),Z,Z,Z,Z,qf⟩,.inl Z,U⟩,Z⟩
 ·refine fE h6 H fun H=>zo (zb hN Z (zl (vj 4 tyZ4 Z) Z (zl (qn tyS4 Z Z Z Z) Z (ye (jv (fun (s:(List zt)×Bs×Bs×Int×Bool)=>[(0,.ptr 0 0),(2,.ptr 1 0),(4,.ptr 2 0),(5,.ptr 4 0)]) (fun (s:(List zt)×Bs×Bs×Int×Bool)=>[(0,.box (some bl) 60 [.dat (vstr s.2.1)]),(1,.box none 45 [.dat (vstr []),.dat (vnil),.dat (vint 0)]),(2,.box none 45 [.dat (vstr s.2.2.1),.row 3 s.1.length,.dat (vint s.2.2.2.1)]),(3,.row 47 2 (List.map ym s.1)),(4,.box none 4 [.dat (zf s.2.2.2.2)])]) (([]:List zt),r2.2.s_,r2.1,1000,false) H ⟨Z,Z,Z,Z,U⟩ ⟨Z,Z,(congrArg (fun n=>some (some (AObj.box none 45 [.dat (vstr r2.1),.row 3 n,.dat (vint 1000)]))) (show 0=([]:List zt).length from (by simp))),Z,Z,U⟩ (fun _=>Z) ?_)))))
  rintro ⟨l7,c8,c9,c10,c11⟩ q12 H hq12
  replace H:Ww l7 c8 c9 c10 c11=some q12:=H
  unfold Ww at H
  refine wd (ye (zb hN Z (za (ze (.ptr _ _) Z) (bE H fun r13 h14 H=>zl (yh (z4i (yb.mk c8) r13 h14) Z U Z) Z (zh (zb hN Z (za (ze (.ptr _ _) Z) (za (zy Z) (za (zk qb Z) (zw (zr tyS9 Z Z) Z (bE H fun r15 h16 H=>za (zp (z4e r13.s_ [59] r15 h16) ⟨.inl Z,.inl Z,U⟩) (za (yt Z) (zi _ Z (fun h17 => ?_) (fun h17 => ?_))))))))))))))
  ·refine tE h17 H fun H=>zh (z2f 2 1 3 rfl rfl rfl (by first | rw [List.length_map] | rfl) ?_)
   refine zn hN Z (zw (kl qf Z Z Z) Z (zl (vi qf Z Z Z Z) Z (qe Z (zj ?_))))
   replace H:=retl H hq12
   cases H
   show Cv _ _ _ _
   exact qu ⟨U,⟨.inl ⟨_,_,_,yd (zg.mk c9 l7 c10),Z,Z,Z,Z,qf⟩,.inl Z,U⟩,Z⟩
  ·refine fE h17 H fun H=>zo (zb hN Z (za (ze (.ptr _ _) Z) (za (ze (.ptr _ _) Z) (za (zy Z) (za (zk qb Z) (zw (zr tyS9 Z Z) Z (bE H fun l18 h19 H=>za (qg tyU9 Z Z Z h19) (za (zy Z) (za (zk qb Z) (zl (qn tyS9 Z Z Z Z) Z (zb hN Z (za (ze (.ptr _ _) Z) (bE H fun r20 h21 H=>Zf (rn [(0,0),(10,2),(11,3),(20,4),(900,5)]) [(0,_,_,some _),(10,_,_,some _),(11,_,_,none),(20,_,_,some _)] [(900,_)] (y5m (yb.mk l18) (zg.mk c9 l7 c10) c11 r20 h21) ⟨Z,Z,Z,Z,Z,U⟩ ⟨.inl (.inl Z),.inl (.inl Z),.inl (.inl Z),U⟩ ⟨⟨⟨Z,Z⟩,U⟩,⟨⟨Z,Z⟩,U⟩,⟨⟨Z,Z,Z⟩,U⟩,⟨⟨Z,Z⟩,U⟩,U⟩ Z (za (yt Z) (zi _ Z (fun h22 => ?_) (fun h22 => ?_))))))))))))))))
   ·refine tE h22 H fun H=>zh (z2f 2 1 5 rfl rfl rfl (by first | rw [List.length_map] | rfl) ?_)
    refine zn hN Z (zw (kl qf Z Z Z) Z (zl (vi qf Z Z Z Z) Z (qe Z (zj ?_))))
    replace H:=retl H hq12
    cases H
    show Cv _ _ _ _
    exact qu ⟨U,⟨.inl ⟨_,_,_,yd r20.2.2.1,Z,Z,Z,Z,qf⟩,.inl Z,U⟩,Z⟩
   ·refine fE h22 H fun H=>zo ?_
    show Cv _ _ _ _
    exact wn (rn [(5,3)]) [(0,.ptr 0 0),(2,.ptr 1 0),(4,.ptr 2 0),(5,.ptr 4 0)] [(0,.box (some bl) 60 [.dat (vstr r20.2.1.s_)]),(1,.box none 45 [.dat (vstr []),.dat (vnil),.dat (vint 0)]),(2,.box none 45 [.dat (vstr r20.2.2.1.Words),.row 5 r20.2.2.1.Params.length,.dat (vint r20.2.2.1.Quality)]),(5,.row 47 2 (List.map ym r20.2.2.1.Params)),(4,.box none 4 [.dat (zf r20.2.2.2)])] ⟨Z,Z,Z,Z,U⟩ ⟨Z,Z,Z,Z,Z,U⟩ Z Z ⟨_,qc H,⟨Z,Z,Z,Z,U⟩,⟨Z,Z,Z,Z,Z,U⟩⟩
theorem y6v (x1:zg) (r:(Bool)) (H:z1j x1=some r):Fn Tryz.prog 29 [vagg (yd x1)] (zu [zf r]):=by
 refine ⟨by kernel_rfl,yi (us:=[zf r]) Tryz.func29 Z Z Z Z fun X hN => ?_⟩
 unfold z1j at H
 refine zb hN Z (zl (jy 1 Z) Z (qe Z (zb hN Z (za (zk wv Z) (zw (zr wu Z Z) Z (za (ql kh Z) (za (qz Z Z) (qe Z (zj ?_)))))))))
 cases H
 exact ⟨U,.inl Z,U⟩
theorem y6w (v1:Bs) (r:((List zg)×Int)) (H:z1k v1=some r):Fn Tryz.prog 7 [vstr v1] (zu [vlst (List.map yd r.1),vint r.2]):=by
 refine ⟨by kernel_rfl,yi (us:=[vlst (List.map yd r.1),vint r.2]) Tryz.func7 Z Z Z Z fun X hN => ?_⟩
 unfold z1k at H
 refine zb hN Z (qe Z (qe Z (zh (zb hN Z (qd Z (bE H fun r2 h3 H=>za (zp (y6z v1 r2 h3) ⟨.inl Z,U⟩) (za (yt Z) (zi _ Z (fun h4 => ?_) (fun h4 => ?_)))))))))
 ·refine tE h4 H fun H=>zb hN Z (qe Z (qe Z (zj ?_)))
  cases H
  exact ⟨U,.inr ⟨Z,Z⟩,.inl Z,U⟩
 ·refine fE h4 H fun H=>zo (zb hN Z (qd Z (za (yg (u':=vagg (jk (yb.mk v1))) (km [(0,[vstr v1])] y14 y19 Z ⟨Z,.inl ⟨_,Z,Z,Z⟩,Z,U⟩) Z) (zl (jy 1 Z) Z (za (wy (.ptr _ _) Z) (zb hN Z (qe Z (ya (ι:=(List zg)) (fun i=>[(5,.row 2 i.length)]) (fun i=>[(2,.row 45 3 (List.map yd i))]) (fun i=>Wz i=some r) (fun i=>Z) ?_ ?_))))))))
  ·skip
   refine zb hN Z (za (ze (.ptr _ _) Z) (bE H fun r5 h6 H=>zl (yh (z4i (yb.mk v1) r5 h6) Z U Z) Z (ye (uk 5 2 45 3 Z Z Z (jv (fun (s:Bs×(List zg))=>[(4,.ptr 1 0),(5,.row 2 s.2.length)]) (fun (s:Bs×(List zg))=>[(1,.box none 60 [.dat (vstr s.1)]),(2,.row 45 3 (List.map yd s.2))]) (r5.s_,[]) H ⟨Z,Z,U⟩ ⟨Z,Z,U⟩ (fun _=>Z) ?_)))))
   rintro ⟨c7,l8⟩ q9 H hq9
   replace H:ju c7 l8=some q9:=H
   unfold ju at H
   refine zh (zb hN Z (za (ze (.ptr _ _) Z) (za (zy Z) (za (zk qb Z) (zw (zr tyS9 Z Z) Z (za (kj Z Z) (zi _ Z (fun h10 => ?_) (fun h10 => ?_))))))))
   ·refine tE h10 H fun H=>zo (ya (ι:=(List zg)×Bs) (fun i=>[(4,.ptr 1 0),(5,.row 2 i.1.length)]) (fun i=>[(1,.box none 60 [.dat (vstr i.2)]),(2,.row 45 3 (List.map yd i.1))]) (fun i=>kg i.1 i.2=some q9) (fun i=>Z) ?_ ?_)
    ·skip
     refine ye (zh (zb hN Z (za (ze (.ptr _ _) Z) (za (zy Z) (za (zk qb Z) (zw (zr tyS9 Z Z) Z (bE H fun x11 h12 H=>za (yw tyU9 Z Z h12) (za (yk Z Z) (zi _ Z (fun h13 => ?_) (fun h13 => ?_))))))))))
     ·exact tE h13 H fun H=>zb hN Z (za (ze (.ptr _ _) Z) (za (ze (.ptr _ _) Z) (za (zy Z) (za (zk qb Z) (zw (zr tyS9 Z Z) Z (bE H fun l14 h15 H=>za (qg tyU9 Z Z Z h15) (za (zy Z) (za (zk qb Z) (zl (qn tyS9 Z Z Z Z) Z (yv ⟨(l8,l14),H,⟨Z,Z,U⟩,⟨Z,Z,U⟩⟩))))))))))
     ·refine fE h13 H fun H=>zo (zb hN Z (za (ze (.ptr _ _) Z) (bE H fun r16 h17 H=>zl (yh (y6u (yb.mk c7) r16 h17) Z U Z) Z (qd Z (za (yn Z Z) (za (yn Z Z) (zl (vj 3 vy Z) Z (zl (vi qf Z Z Z Z) Z (qe Z (zh (ya (ι:=Bool) (fun i=>[(4,.ptr 1 0),(5,.row 2 l8.length),(6,.ptr 3 0),(58,.dat (zf i))]) (fun i=>[(1,.box none 60 [.dat (vstr r16.2.2.s_)]),(2,.row 45 3 (List.map yd l8)),(3,.box none 45 [.dat (vstr r16.1.Words),.dat (vlst (List.map ym r16.1.Params)),.dat (vint r16.1.Quality)])]) (fun i=>Yo l8 r16 i=some q9) (fun i=>Z) ?_ ?_)))))))))))
      ·skip
       refine zn hN Z (qd Z (za (yt Z) (qd Z (yc (j:=2) Z Z (fun h18 => ?_) (fun h18 => ?_) Z))))
       ·refine u3 h18 H fun h19 H=>zd Z Z h18 (ze (.ptr _ _) Z) (zd Z Z h18 (zy Z) (zd Z Z h18 (zk qb Z) (we Z Z h18 (zr tyS9 Z Z) Z (zd Z Z h18 (kj Z Z) (zd Z Z h18 (ze (.dat _) Z) (yc (j:=8) Z Z (fun h20 => ?_) (fun h20 => ?_) Z))))))
        ·exact u1 h20 H fun h21 H=>zd Z Z h20 (ze (.ptr _ _) Z) (zd Z Z h20 (zy Z) (zd Z Z h20 (zk qb Z) (we Z Z h20 (zr tyS9 Z Z) Z (bE H fun x22 h23 H=>zd Z Z h20 (yw tyU9 Z Z h23) (zd Z Z h20 (jn Z Z) (zd Z Z h18 (zx Z (bTT h21) Z) (za (zq Z (bFF h19) Z) ⟨decide ((x22.toNat:Int)≠44),H,⟨Z,Z,Z,Z,U⟩,⟨Z,Z,Z,U⟩⟩)))))))
        ·exact u2 h20 H fun h24 H=>zc Z Z h20 (zc Z Z h20 (zc Z Z h20 (zc Z Z h20 (zc Z Z h20 (zc Z Z h20 (zd Z Z h18 (zq Z (bFF h24) Z) (za (zq Z (bFF h19) Z) ⟨false,H,⟨Z,Z,Z,Z,U⟩,⟨Z,Z,Z,U⟩⟩)))))))
       ·exact u4 h18 H fun h25 H=>zc Z Z h18 (zc Z Z h18 (zc Z Z h18 (zc Z Z h18 (zc Z Z h18 (zc Z Z h18 (zv Z Z (zv Z Z (zv Z Z (zv Z Z (zv Z Z (zv Z Z (zc Z Z h18 (za (zx Z (bTT h25) Z) ⟨true,H,⟨Z,Z,Z,Z,U⟩,⟨Z,Z,Z,U⟩⟩)))))))))))))
      ·rintro v26 H
       replace H:Yo l8 r16 v26=some q9:=H
       unfold Yo at H
       refine zi _ Z (fun h27 => ?_) (fun h27 => ?_)
       ·refine tE h27 H fun H=>zb hN Z (qe Z (qe Z (zj ?_)))
        replace H:=retl H hq9
        cases H
        exact ⟨U,.inr ⟨Z,Z⟩,.inl Z,U⟩
       ·refine fE h27 H fun H=>zo (zn hN Z (za (ze (.row _ _) Z) (zw (kl qf Z Z Z) Z (za (yg (u':=vlst (List.map yd [r16.1])) (qj [_] Qa ⟨Z,.inr Z,Z,U⟩ Z Z) Z) (gE H fun h28 H=>zl (jc Qa (fun _=>Z) Z Z Z ⟨by simp,by first | (simp; done) | simpa using h28⟩ Z) Z ?_)))))
        exact za (wy (.row _ _) Z) ⟨((l8++[r16.1]),r16.2.2.s_),H,⟨Z,Z,U⟩,⟨Z,Z,U⟩⟩
    ·rintro ⟨v29,c30⟩ H
     replace H:kg v29 c30=some q9:=H
     unfold kg at H
     exact zn hN Z (za (ze (.ptr _ _) Z) (bE H fun r31 h32 H=>zl (yh (z4i (yb.mk c30) r31 h32) Z U Z) Z ⟨_,qc H,⟨Z,Z,U⟩,⟨Z,Z,U⟩⟩))
   ·refine fE h10 H fun H=>yv ?_
    replace H:=outl H hq9
    exact ⟨l8,H,⟨Z,U⟩,⟨Z,U⟩⟩
  ·rintro v33 H
   replace H:Wz v33=some r:=H
   unfold Wz at H
   refine zh (ya (ι:=Bool) (fun i=>[(5,.dat (vlst (List.map yd v33))),(69,.dat (zf i))]) (fun i=>[]) (fun i=>Wy v33 i=some r) (fun i=>Z) ?_ ?_)
   ·skip
    refine ur 5 2 Z Z Z (zn hN Z (qd Z (za (ql jl Z) (za (qz Z Z) (qd Z (yc (j:=3) Z Z (fun h34 => ?_) (fun h34 => ?_) Z))))))
    ·exact u3 h34 H fun h35 H=>zd Z Z h34 (ze (.dat _) Z) (bE H fun r36 h37 H=>zd Z Z h34 (z0w (z4g v33 (fun (a0:zg)=>z1j a0) 29 [] (fun a0 r h=>y6v a0 r h) r36 h37) ⟨.inl (.inl Z),.inr ⟨_,Z,Z⟩,U⟩) (za (zq Z (bFF h35) Z) ⟨r36,H,⟨Z,Z,U⟩,U⟩))
    ·exact u4 h34 H fun h38 H=>zc Z Z h34 (zc Z Z h34 (za (zx Z (bTT h38) Z) ⟨true,H,⟨Z,Z,U⟩,U⟩))
   ·rintro v39 H
    replace H:Wy v33 v39=some r:=H
    unfold Wy at H
    refine zi _ Z (fun h40 => ?_) (fun h40 => ?_)
    ·refine tE h40 H fun H=>zb hN Z (qe Z (qe Z (zj ?_)))
     cases H
     exact ⟨U,.inr ⟨Z,Z⟩,.inl Z,U⟩
    ·refine fE h40 H fun H=>zo (zb hN Z (qd Z (qe Z (qe Z (zj ?_)))))
     cases H
     exact ⟨U,.inl Z,.inl Z,U⟩
theorem y6j (it1:zg) (r:(Bool)) (H:Wg it1=some r):Fn Tryz.prog 30 [vagg (yd it1)] (zu [zf r]):=by
 refine ⟨by kernel_rfl,yi (us:=[zf r]) Tryz.func30 Z Z Z Z fun X hN => ?_⟩
 unfold Wg at H
 refine zb hN Z (zl (jy 1 Z) Z (qe Z (zb hN Z (za (zk wv Z) (zw (zr wu Z Z) Z (za (ql kh Z) (za (qz Z Z) (qe Z (zj ?_)))))))))
 cases H
 exact ⟨U,.inl Z,U⟩
theorem y6c (s1:Bs) (r:(Bool)) (H:z09 s1=some r):Fn Tryz.prog 57 [vstr s1] (zu [zf r]):=by
 refine ⟨by kernel_rfl,yi (us:=[zf r]) Tryz.func57 Z Z Z Z fun X hN => ?_⟩
 unfold z09 at H
 refine zb hN Z (qe Z (zb hN Z (qd Z (bE H fun r2 h3 H=>za (zp (z4f s1 [47] r2 h3) ⟨.inl Z,.inl Z,U⟩) (qd Z (za (yn Z Z) (za (yn Z Z) (za (yn Z Z) (qe Z (qe Z (qe Z (ya (ι:=Bool) (fun i=>[(2,.dat (zf i))]) (fun i=>[]) (fun i=>Zp i=some r) (fun i=>Z) ?_ ?_))))))))))))
 ·skip
  refine zn hN Z (qd Z (bE H fun r4 h5 H=>za (zp (z1x r2.1 r4 h5) ⟨.inl Z,U⟩) (qd Z (yc (j:=2) Z Z (fun h6 => ?_) (fun h6 => ?_) Z))))
  ·refine u1 h6 H fun h7 H=>zd Z Z h6 (ze (.dat _) Z) (zd Z Z h6 (yt Z) (zd Z Z h6 (ze (.dat _) Z) (yc (j:=5) Z Z (fun h8 => ?_) (fun h8 => ?_) Z)))
   ·exact u3 h8 H fun h9 H=>zd Z Z h8 (ze (.dat _) Z) (bE H fun r10 h11 H=>zd Z Z h8 (zp (z1x r2.2.1 r10 h11) ⟨.inl Z,U⟩) (zd Z Z h6 (zq Z (bFF h9) Z) (za (zx Z (bTT h7) Z) (qe Z ⟨r10,H,⟨Z,U⟩,U⟩))))
   ·exact u4 h8 H fun h12 H=>zc Z Z h8 (zc Z Z h8 (zd Z Z h6 (zx Z (bTT h12) Z) (za (zx Z (bTT h7) Z) (qe Z ⟨true,H,⟨Z,U⟩,U⟩))))
  ·exact u2 h6 H fun h13 H=>zc Z Z h6 (zc Z Z h6 (zc Z Z h6 (zv Z Z (zv Z Z (zc Z Z h6 (za (zq Z (bFF h13) Z) (qe Z ⟨false,H,⟨Z,U⟩,U⟩)))))))
 ·rintro v14 H
  replace H:Zp v14=some r:=H
  unfold Zp at H
  refine zj ?_
  cases H
  exact ⟨U,.inl Z,U⟩
theorem y6b (it1:zg) (r:(Int)) (H:z3w it1=some r):Fn Tryz.prog 31 [vagg (yd it1)] (zu [vint r]):=by
 refine ⟨by kernel_rfl,yi (us:=[vint r]) Tryz.func31 Z Z Z Z fun X hN => ?_⟩
 unfold z3w at H
 refine zb hN Z (zl (jy 1 Z) Z (qe Z (zh (zb hN Z (za (zk ki Z) (zw (zr tyS9 Z Z) Z (bE H fun r2 h3 H=>za (zp (y6c it1.Words r2 h3) ⟨.inl Z,U⟩) (za (yt Z) (zi _ Z (fun h4 => ?_) (fun h4 => ?_))))))))))
 ·refine tE h4 H fun H=>zb hN Z (qe Z (zj ?_))
  cases H
  exact ⟨U,.inl Z,U⟩
 ·refine fE h4 H fun H=>zo (zh (zb hN Z (za (zk jm Z) (zw (zr tyS3 Z Z) Z (bE H fun r5 h6 H=>za (zp (y0i it1.Quality 0 1000 r5 h6) ⟨.inl Z,.inl Z,.inl Z,U⟩) (zi _ Z (fun h7 => ?_) (fun h7 => ?_)))))))
  ·refine tE h7 H fun H=>zb hN Z (qe Z (zj ?_))
   cases H
   exact ⟨U,.inl Z,U⟩
  ·refine fE h7 H fun H=>zo (zh (zb hN Z (za (zk wv Z) (zw (zr wu Z Z) Z (za (ql kh Z) (qd Z (ye (gE H fun h10 H=>vf (fun (k8:Nat) (s:Unit)=>[(13,.dat (vlst (List.map ym it1.Params))),(14,.dat (vint (it1.Params.length:Int))),(15,.dat (vint (k8:Int)))]) (fun (k8:Nat) (s:Unit)=>[]) () H ⟨Z,Z,Z,U⟩ U (fun _ _=>Z) ?_ ?_))))))))
   ·rintro ⟨⟩ H
    replace H:z3i=some r:=H
    unfold z3i at H
    refine zb hN Z (za (yf Z Z) (zh (zi _ Z (fun h=>(lt_t h).elim) (fun h => ?_))))
    refine yv (zb hN Z (qe Z (zj ?_)))
    cases H
    exact ⟨U,.inl Z,U⟩
   ·rintro k8 x11 ⟨⟩ q9 h12 h13 H hq9
    replace H:Zo k8 x11=some q9:=H
    unfold Zo at H
    refine zb hN Z (za (yf Z Z) (zh (zi _ Z (fun h => ?_) (fun h=>(lt_f h12 h).elim))))
    refine zo (zh (ye (zb hN Z (za (ja z0k (fun _=>Z) Z Z h13) (za (kk um Z (wz h13) Z) (zl (vj 2 xw Z) Z (zl (vi um Z Z Z Z) Z (zh (ya (ι:=Bool) (fun i=>[(4,.ptr 2 0),(13,.dat (vlst (List.map ym it1.Params))),(14,.dat (vint (it1.Params.length:Int))),(15,.dat (vint (k8:Int))),(27,.dat (zf i))]) (fun i=>[(2,.box none 47 [.dat (vstr x11.Name),.dat (vstr x11.Value)])]) (fun i=>Qp x11 i=some q9) (fun i=>Z) ?_ ?_)))))))))
    ·skip
     refine zn hN Z (za (zk Za Z) (zw (zr tyS9 Z Z) Z (bE H fun r14 h15 H=>za (zp (z1x x11.Name r14 h15) ⟨.inl Z,U⟩) (za (yt Z) (qd Z (yc (j:=4) Z Z (fun h16 => ?_) (fun h16 => ?_) Z))))))
     ·exact u3 h16 H fun h17 H=>zd Z Z h16 (zk Za Z) (we Z Z h16 (zr tyS9 Z Z) Z (bE H fun r18 h19 H=>zd Z Z h16 (zp (y0f x11.Name r18 h19) ⟨.inl Z,U⟩) (za (zq Z (bFF h17) Z) ⟨r18,H,⟨Z,Z,Z,Z,Z,U⟩,⟨Z,U⟩⟩)))
     ·exact u4 h16 H fun h20 H=>zc Z Z h16 (zc Z Z h16 (zc Z Z h16 (za (zx Z (bTT h20) Z) ⟨true,H,⟨Z,Z,Z,Z,Z,U⟩,⟨Z,U⟩⟩)))
    ·rintro v21 H
     replace H:Qp x11 v21=some q9:=H
     unfold Qp at H
     refine zi _ Z (fun h22 => ?_) (fun h22 => ?_)
     ·refine tE h22 H fun H=>zb hN Z (qe Z (zj ?_))
      replace H:=retl H hq9
      cases H
      exact ⟨U,.inl Z,U⟩
     ·refine fE h22 H fun H=>zo (zb hN Z (za (zk z2w Z) (zw (zr tyS9 Z Z) Z (bE H fun r23 h24 H=>za (zp (z6u x11.Value 32 126 r23 h24) ⟨.inl Z,.inl Z,.inl Z,U⟩) (za (yt Z) (zi _ Z (fun h25 => ?_) (fun h25 => ?_)))))))
      ·refine tE h25 H fun H=>zb hN Z (qe Z (zj ?_))
       replace H:=retl H hq9
       cases H
       exact ⟨U,.inl Z,U⟩
      ·exact fE h25 H fun H=>zo (zn hN Z (za (wj Z Z (by omega)) (qd Z ⟨_,qc H,⟨Z,Z,Z,U⟩,U⟩)))
theorem y0d (n:Int) (r:Bs) (H:z07 n=some r):Fn Tryz.prog 62 [vint n] (zu [vstr r]):=by
 obtain ⟨⟨h1,h2⟩,h3⟩:=gif H
 cases h3
 refine uj (by kernel_rfl) fun M w vs hM h => ?_
 have hv:=jw (us:=[.int .i64 n]) h
 subst hv
 refine (Tryz.strconv_Itoa n h1 h2 w (y4m hM)).mono ?_
 rintro e w' ⟨rfl,k,os,rfl⟩
 exact ⟨_,Z,Z,Kp.of_below ⟨Z,Z,Z,by show w.heap.size≤(w.heap++os).size; rw [Array.size_append]; omega,fun j hj=>by show (w.heap++os)[j]?=w.heap[j]?; exact Array.getElem?_append_left hj⟩⟩
theorem z99 (s1:Bs) (cutset2:Bs) (r:(Bs)) (H:Zt s1 cutset2=some r):Fn Tryz.prog 63 [vstr s1,vstr cutset2] (zu [vstr r]):=by
 refine ⟨by kernel_rfl,yi (us:=[vstr r]) Tryz.func63 Z Z Z Z fun X hN => ?_⟩
 unfold Zt at H
 refine zb hN Z (qe Z (zh (zb hN Z (qd Z (za (qx Z Z) (qd Z (yu Z Z (fun hc=>ze (.dat _) Z) (yu Z Z (fun hc=>qx (cnd (c:=(!(decide (s1=[])))) hc) Z) (za (ww Z Z (fun hb=>(cnd (c:=(!(decide (s1=[])))) (notI hb)))) (zi _ Z (fun h3 => ?_) (fun h3 => ?_)))))))))))
 ·refine tE h3 H fun H=>zb hN Z (qd Z (qe Z (zj ?_)))
  cases H
  exact ⟨U,.inl Z,U⟩
 ·refine fE h3 H fun H=>zo (zh (ya (ι:=Bool) (fun i=>[(0,.dat (vstr s1)),(1,.dat (vstr cutset2)),(21,.dat (zf i))]) (fun i=>[]) (fun i=>Qe s1 cutset2 i=some r) (fun i=>Z) ?_ ?_))
  ·skip
   refine zn hN Z (qd Z (za (yr tyU9 Z) (za (yk Z Z) (qd Z (yc (j:=3) Z Z (fun h4 => ?_) (fun h4 => ?_) Z)))))
   ·exact u1 h4 H fun h5 H=>zd Z Z h4 (ze (.dat _) Z) (bE H fun x6 h7 H=>zd Z Z h4 (yw tyU9 Z Z h7) (zd Z Z h4 (yf Z Z) (za (zx Z (bTT h5) Z) ⟨decide ((x6.toNat:Int) < 128),H,⟨Z,Z,Z,U⟩,U⟩)))
   ·exact u2 h4 H fun h8 H=>zc Z Z h4 (zc Z Z h4 (zc Z Z h4 (za (zq Z (bFF h8) Z) ⟨false,H,⟨Z,Z,Z,U⟩,U⟩)))
  ·rintro v9 H
   replace H:Qe s1 cutset2 v9=some r:=H
   unfold Qe at H
   refine zi _ Z (fun h10 => ?_) (fun h10 => ?_)
   ·refine tE h10 H fun H=>zb hN Z (qd Z (qd Z (bE H fun x11 h12 H=>za (yw tyU9 Z Z h12) (bE H fun r13 h14 H=>za (zp (z97 s1 (x11.toNat:Int) r13 h14) ⟨.inl Z,.inl Z,U⟩) (qe Z (zj ?_))))))
    cases H
    exact ⟨U,.inl Z,U⟩
   ·refine fE h10 H fun H=>?_
    cases H
theorem y6a (it1:zg) (r:(Bs)) (H:z3v it1=some r):Fn Tryz.prog 32 [vagg (yd it1)] (zu [vstr r]):=by
 refine ⟨by kernel_rfl,yi (us:=[vstr r]) Tryz.func32 Z Z Z Z fun X hN => ?_⟩
 unfold z3v at H
 refine zb hN Z (zl (jy 1 Z) Z (qe Z (zb hN Z (za (zk ki Z) (zw (zr tyS9 Z Z) Z (qe Z (zh (zb hN Z (za (zk wv Z) (zw (zr wu Z Z) Z (za (ql kh Z) (qd Z (ye (gE H fun h5 H=>vf (fun (k3:Nat) (s:Bs)=>[(1,.ptr 1 0),(3,.dat (vstr s)),(11,.dat (vlst (List.map ym it1.Params))),(12,.dat (vint (it1.Params.length:Int))),(13,.dat (vint (k3:Int)))]) (fun (k3:Nat) (s:Bs)=>[(1,.box none 45 [.dat (vstr it1.Words),.dat (vlst (List.map ym it1.Params)),.dat (vint it1.Quality)])]) it1.Words H ⟨Z,Z,Z,Z,Z,U⟩ ⟨Z,U⟩ (fun _ _=>Z) ?_ ?_))))))))))))))
 ·rintro s2 H
  replace H:Zn it1 s2=some r:=H
  unfold Zn at H
  refine zb hN Z (za (yf Z Z) (zh (zi _ Z (fun h=>(lt_t h).elim) (fun h => ?_))))
  refine yv (zh (ye (zb hN Z (za (zk jm Z) (zw (zr tyS3 Z Z) Z (za (yk Z Z) (qe Z (zi _ Z (fun h7 => ?_) (fun h7 => ?_)))))))))
  ·refine tE h7 H fun H=>zb hN Z (qd Z (qe Z (zj ?_)))
   cases H
   exact ⟨U,.inl Z,U⟩
  ·refine fE h7 H fun H=>zb hN Z (za (zk jm Z) (zw (zr tyS3 Z Z) Z (za (yk Z Z) (qe Z (zi _ Z (fun h8 => ?_) (fun h8 => ?_))))))
   ·refine tE h8 H fun H=>zb hN Z (qd Z (gE H fun h9 H=>za (qm Z Z (Nat.le_trans h9 (by decide))) (qe Z (zj ?_))))
    cases H
    exact ⟨U,.inl Z,U⟩
   ·refine fE h8 H fun H=>zo (zb hN Z (za (zk jm Z) (zw (zr tyS3 Z Z) Z (za (yp _ Z Z (.inl ⟨Z,Z⟩)) (bE H fun r10 h11 H=>za (zp (y0d (wr (1000+it1.Quality)) r10 h11) ⟨.inl Z,U⟩) (bE H fun l12 h13 H=>za (qg tyU9 Z Z Z h13) (qe Z (zb hN Z (qd Z (gE H fun h14 H=>za (qm Z Z (Nat.le_trans h14 (by decide))) (qd Z (bE H fun r15 h16 H=>za (zp (z99 l12 [48] r15 h16) ⟨.inl Z,.inl Z,U⟩) (gE H fun h17 H=>za (qm Z Z (Nat.le_trans h17 (by decide))) (qe Z (zj ?_)))))))))))))))
    cases H
    exact ⟨U,.inl Z,U⟩
 ·rintro k3 x6 s2 q4 h18 h19 H hq4
  replace H:Zm k3 x6 s2=some q4:=H
  unfold Zm at H
  refine zb hN Z (za (yf Z Z) (zh (zi _ Z (fun h => ?_) (fun h=>(lt_f h18 h).elim))))
  refine zo (zh (ye (zb hN Z (za (ja z0k (fun _=>Z) Z Z h19) (za (kk um Z (wz h19) Z) (zl (vj 2 xw Z) Z (zl (vi um Z Z Z Z) Z (zb hN Z (za (zk z2w Z) (zw (zr tyS9 Z Z) Z (qe Z (ya (ι:=Bs) (fun i=>[(1,.ptr 1 0),(3,.dat (vstr s2)),(5,.ptr 2 0),(6,.dat (vstr i)),(11,.dat (vlst (List.map ym it1.Params))),(12,.dat (vint (it1.Params.length:Int))),(13,.dat (vint (k3:Int)))]) (fun i=>[(1,.box none 45 [.dat (vstr it1.Words),.dat (vlst (List.map ym it1.Params)),.dat (vint it1.Quality)]),(2,.box none 47 [.dat (vstr x6.Name),.dat (vstr x6.Value)])]) (fun i=>Qo s2 x6 i=some q4) (fun i=>Z) ?_ ?_))))))))))))
  ·skip
   refine zb hN Z (qd Z (bE H fun r20 h21 H=>za (zp (z1x x6.Value r20 h21) ⟨.inl Z,U⟩) (za (yt Z) (zi _ Z (fun h22 => ?_) (fun h22 => ?_)))))
   ·exact tE h22 H fun H=>zn hN Z (za (yg (u':=vlst (List.map yj [[92],[92,92],[34],[92,34]])) (qj [[_],[_],[_],[_]] wb ⟨Z,.inl ⟨_,Z,Z,Z⟩,Z,Z,.inl ⟨_,Z,Z,Z⟩,Z,Z,.inl ⟨_,Z,Z,Z⟩,Z,Z,.inl ⟨_,Z,Z,Z⟩,Z,U⟩ Z Z) Z) (Zf (rn [(900,3)]) [] [(900,_)] (y5q) ⟨Z,U⟩ ⟨.inl (.inl Z),U⟩ U Z (qd Z (bE H fun r24 h23 H=>Zf (rn [(0,3)]) [(0,_,_,none)] [] (y5n h23) ⟨Z,U⟩ ⟨.inl (.inl Z),.inl (.inl Z),U⟩ ⟨⟨⟨Z,Z⟩,U⟩,U⟩ Z (gE H fun h25 H=>za (qm Z Z (Nat.le_trans h25 (by decide))) (gE H fun h26 H=>za (qm Z Z (Nat.le_trans h26 (by decide))) (qe Z ⟨(([34]++r24)++[34]),H,⟨Z,Z,Z,Z,Z,Z,Z,U⟩,⟨Z,Z,U⟩⟩)))))))
   ·exact fE h22 H fun H=>zo ⟨x6.Value,H,⟨Z,Z,Z,Z,Z,Z,Z,U⟩,⟨Z,Z,U⟩⟩
  ·rintro v27 H
   replace H:Qo s2 x6 v27=some q4:=H
   unfold Qo at H
   exact zn hN Z (qd Z (za (zk Za Z) (zw (zr tyS9 Z Z) Z (gE H fun h28 H=>za (qm Z Z (Nat.le_trans h28 (by decide))) (gE H fun h29 H=>za (qm Z Z (Nat.le_trans h29 (by decide))) (qd Z (gE H fun h30 H=>za (qm Z Z (Nat.le_trans h30 (by decide))) (gE H fun h31 H=>za (qm Z Z (Nat.le_trans h31 (by decide))) (qe Z (zn hN Z (za (wj Z Z (by omega)) (qd Z ⟨_,qc H,⟨Z,Z,Z,Z,Z,U⟩,⟨Z,U⟩⟩))))))))))))
theorem y6k (l1:(List zg)) (r:(Bs×Int)) (H:z1e l1=some r):Fn Tryz.prog 8 [vlst (List.map yd l1)] (zu [vstr r.1,vint r.2]):=by
 refine ⟨by kernel_rfl,yi (us:=[vstr r.1,vint r.2]) Tryz.func8 Z Z Z Z fun X hN => ?_⟩
 unfold z1e at H
 refine zb hN Z (qe Z (qe Z (zh (ya (ι:=Bool) (fun i=>[(0,.dat (vlst (List.map yd l1))),(15,.dat (zf i))]) (fun i=>[]) (fun i=>Qw l1 i=some r) (fun i=>Z) ?_ ?_))))
 ·skip
  refine zn hN Z (qd Z (za (ql jl Z) (za (qz Z Z) (qd Z (yc (j:=3) Z Z (fun h2 => ?_) (fun h2 => ?_) Z)))))
  ·exact u3 h2 H fun h3 H=>zd Z Z h2 (ze (.dat _) Z) (bE H fun r4 h5 H=>zd Z Z h2 (z0w (z4g l1 (fun (a0:zg)=>Wg a0) 30 [] (fun a0 r h=>y6j a0 r h) r4 h5) ⟨.inl (.inl Z),.inr ⟨_,Z,Z⟩,U⟩) (za (zq Z (bFF h3) Z) ⟨r4,H,⟨Z,Z,U⟩,U⟩))
  ·exact u4 h2 H fun h6 H=>zc Z Z h2 (zc Z Z h2 (za (zx Z (bTT h6) Z) ⟨true,H,⟨Z,Z,U⟩,U⟩))
 ·rintro v7 H
  replace H:Qw l1 v7=some r:=H
  unfold Qw at H
  refine zi _ Z (fun h8 => ?_) (fun h8 => ?_)
  ·refine tE h8 H fun H=>zb hN Z (qe Z (qe Z (zj ?_)))
   cases H
   exact ⟨U,.inl Z,.inl Z,U⟩
  ·refine fE h8 H fun H=>zo (zb hN Z (qe Z (zh (zb hN Z (qd Z (za (ql jl Z) (qd Z (ye (uk 4 1 9 1 Z Z Z (gE H fun h12 H=>vf (fun (k10:Nat) (s:(List Bs))=>[(4,.row 1 s.length),(16,.dat (vlst (List.map yd l1))),(17,.dat (vint (l1.length:Int))),(18,.dat (vint (k10:Int)))]) (fun (k10:Nat) (s:(List Bs))=>[(1,.row 9 1 (List.map yj s))]) [] H ⟨Z,Z,Z,Z,U⟩ ⟨Z,U⟩ (fun _ _=>Z) ?_ ?_))))))))))
   ·rintro l9 H
    replace H:Qx l9=some r:=H
    unfold Qx at H
    refine zb hN Z (za (yf Z Z) (zh (zi _ Z (fun h=>(lt_t h).elim) (fun h => ?_))))
    refine yv (zh (ur 4 1 Z Z Z (zn hN Z (qd Z (bE H fun r14 h15 H=>za (zp (z4d l9 [44,32] r14 h15) ⟨.inl Z,.inl Z,U⟩) (qe Z (zh (zb hN Z (qd Z (za (yr tyU9 Z) (za (qz Z Z) (zi _ Z (fun h16 => ?_) (fun h16 => ?_)))))))))))))
    ·refine tE h16 H fun H=>zb hN Z (qe Z (qe Z (zj ?_)))
     cases H
     exact ⟨U,.inl Z,.inl Z,U⟩
    ·refine fE h16 H fun H=>zo (zb hN Z (qd Z (qe Z (qe Z (zj ?_)))))
     cases H
     exact ⟨U,.inl Z,.inl Z,U⟩
   ·rintro k10 x13 l9 q11 h17 h18 H hq11
    replace H:xb k10 x13 l9=some q11:=H
    unfold xb at H
    refine zb hN Z (za (yf Z Z) (zh (zi _ Z (fun h => ?_) (fun h=>(lt_f h17 h).elim))))
    refine zo (zh (ye (zb hN Z (za (ja Qb (fun _=>Z) Z Z h18) (za (kk qf Z (wz h18) Z) (zl (vj 2 vy Z) Z (zl (vi qf Z Z Z Z) Z (zh (zb hN Z (zw (kl qf Z Z Z) Z (bE H fun r19 h20 H=>za (zp (y6b x13 r19 h20) ⟨.inl Z,U⟩) (qe Z (zb hN Z (qd Z (za (jn Z Z) (zi _ Z (fun h21 => ?_) (fun h21 => ?_)))))))))))))))))
    ·refine tE h21 H fun H=>zb hN Z (qd Z (qe Z (qe Z (zj ?_))))
     replace H:=retl H hq11
     cases H
     exact ⟨U,.inl Z,.inl Z,U⟩
    ·refine fE h21 H fun H=>zo (zn hN Z (za (ze (.row _ _) Z) (zw (kl qf Z Z Z) Z (bE H fun r22 h23 H=>za (zp (y6a x13 r22 h23) ⟨.inl Z,U⟩) (za (yg (u':=vlst (List.map yj [r22])) (qj [[_]] wb ⟨Z,.inl ⟨_,Z,Z,Z⟩,Z,U⟩ Z Z) Z) (gE H fun h24 H=>zl (jc wb (fun _=>Z) Z Z Z ⟨by simp,by first | (simp; done) | simpa using h24⟩ Z) Z ?_))))))
     exact za (wy (.row _ _) Z) (zn hN Z (za (wj Z Z (by omega)) (qd Z ⟨_,qc H,⟨Z,Z,Z,Z,U⟩,⟨Z,U⟩⟩)))
theorem y6x (x1:zg) (r:(Bool)) (H:z1l x1=some r):Fn Tryz.prog 34 [vagg (yd x1)] (zu [zf r]):=by
 refine ⟨by kernel_rfl,yi (us:=[zf r]) Tryz.func34 Z Z Z Z fun X hN => ?_⟩
 unfold z1l at H
 refine zb hN Z (zl (jy 1 Z) Z (qe Z (zb hN Z (za (zk wv Z) (zw (zr wu Z Z) Z (za (ql kh Z) (za (qz Z Z) (qe Z (zj ?_)))))))))
 cases H
 exact ⟨U,.inl Z,U⟩
theorem y6r (n1:Int) (r:(Bs)) (H:z33 n1=some r):Fn Tryz.prog 40 [vint n1] (zu [vstr r]):=by
 refine ⟨by kernel_rfl,yi (us:=[vstr r]) Tryz.func40 Z Z Z Z fun X hN => ?_⟩
 unfold z33 at H
 refine zb hN Z (qe Z (zh (zb hN Z (qd Z (za (yk Z Z) (zi _ Z (fun h2 => ?_) (fun h2 => ?_)))))))
 ·refine tE h2 H fun H=>zb hN Z (qe Z (zj ?_))
  cases H
  exact ⟨U,.inl Z,U⟩
 ·refine fE h2 H fun H=>zo (zb hN Z (qd Z (za (yp _ Z Z (.inl ⟨Z,Z⟩)) (bE H fun r3 h4 H=>za (zp (y0d (wr (1000+n1)) r3 h4) ⟨.inl Z,U⟩) (bE H fun l5 h6 H=>za (qg tyU9 Z Z Z h6) (bE H fun r7 h8 H=>za (zp (z99 l5 [48] r7 h8) ⟨.inl Z,.inl Z,U⟩) (gE H fun h9 H=>za (qm Z Z (Nat.le_trans h9 (by decide))) (qe Z (zj ?_)))))))))
  cases H
  exact ⟨U,.inl Z,U⟩
theorem y0b (s p q:Bs) (r:Bs) (H:Wb s p q=some r):Fn Tryz.prog 39 [vstr s,vstr p,vstr q] (zu [vstr r]):=by
 unfold Wb at H
 obtain ⟨⟨h1,h2,h3⟩,h4⟩:=gif H
 cases h4
 refine uj (by kernel_rfl) fun M w vs hM h => ?_
 have hv:=jw (us:=[.string ⟨s.toArray⟩,.string ⟨p.toArray⟩,.string ⟨q.toArray⟩]) h
 subst hv
 obtain ⟨m,hm⟩:=z6d hM
 have hle:=Lib.countB_le ⟨p.toArray⟩ (by simpa [ByteArray.size] using h2) _ ⟨s.toArray⟩ (Nat.le_refl _)
 have e1:(ByteArray.mk s.toArray).size=s.length:=by simp [ByteArray.size]
 have e2:(ByteArray.mk q.toArray).size=q.length:=by simp [ByteArray.size]
 have hmul:Lib.countB ⟨s.toArray⟩ ⟨p.toArray⟩ * q.length≤1000001 * 1000000:=Nat.mul_le_mul (by omega) h3
 refine (Tryz.strings_ReplaceAll ⟨s.toArray⟩ ⟨p.toArray⟩ ⟨q.toArray⟩ m w (by rw [e1]; omega) hm (by simpa [ByteArray.size] using h2) (by rw [e1,e2]; omega)).mono ?_
 rintro e w' ⟨rfl,hb⟩
 exact ⟨_,Z,Z,Kp.of_below hb⟩

theorem y6y (v1:(List zg)) (r:(Bs×Int)) (H:z1m v1=some r):Fn Tryz.prog 9 [vlst (List.map yd v1)] (zu [vstr r.1,vint r.2]):=by
 refine ⟨by kernel_rfl,yi (us:=[vstr r.1,vint r.2]) Tryz.func9 Z Z Z Z fun X hN => ?_⟩
 unfold z1m at H
 refine zb hN Z (qe Z (qe Z (zh (ya (ι:=Bool) (fun i=>[(0,.dat (vlst (List.map yd v1))),(18,.dat (zf i))]) (fun i=>[]) (fun i=>z0c v1 i=some r) (fun i=>Z) ?_ ?_))))
 ·skip
  refine zn hN Z (qd Z (za (ql jl Z) (za (qz Z Z) (qd Z (yc (j:=3) Z Z (fun h2 => ?_) (fun h2 => ?_) Z)))))
  ·exact u3 h2 H fun h3 H=>zd Z Z h2 (ze (.dat _) Z) (bE H fun r4 h5 H=>zd Z Z h2 (z0w (z4g v1 (fun (a0:zg)=>z1l a0) 34 [] (fun a0 r h=>y6x a0 r h) r4 h5) ⟨.inl (.inl Z),.inr ⟨_,Z,Z⟩,U⟩) (za (zq Z (bFF h3) Z) ⟨r4,H,⟨Z,Z,U⟩,U⟩))
  ·exact u4 h2 H fun h6 H=>zc Z Z h2 (zc Z Z h2 (za (zx Z (bTT h6) Z) ⟨true,H,⟨Z,Z,U⟩,U⟩))
 ·rintro v7 H
  replace H:z0c v1 v7=some r:=H
  unfold z0c at H
  refine zi _ Z (fun h8 => ?_) (fun h8 => ?_)
  ·refine tE h8 H fun H=>zb hN Z (qe Z (qe Z (zj ?_)))
   cases H
   exact ⟨U,.inl Z,.inl Z,U⟩
  ·refine fE h8 H fun H=>zo (zb hN Z (qe Z (zh (zb hN Z (qd Z (za (ql jl Z) (qd Z (ye (uk 4 1 9 1 Z Z Z (gE H fun h12 H=>vf (fun (k10:Nat) (s:(List Bs))=>[(4,.row 1 s.length),(19,.dat (vlst (List.map yd v1))),(20,.dat (vint (v1.length:Int))),(21,.dat (vint (k10:Int)))]) (fun (k10:Nat) (s:(List Bs))=>[(1,.row 9 1 (List.map yj s))]) [] H ⟨Z,Z,Z,Z,U⟩ ⟨Z,U⟩ (fun _ _=>Z) ?_ ?_))))))))))
   ·rintro l9 H
    replace H:z0d l9=some r:=H
    unfold z0d at H
    refine zb hN Z (za (yf Z Z) (zh (zi _ Z (fun h=>(lt_t h).elim) (fun h => ?_))))
    refine yv (zh (ur 4 1 Z Z Z (zn hN Z (qd Z (bE H fun r14 h15 H=>za (zp (z4d l9 [44,32] r14 h15) ⟨.inl Z,.inl Z,U⟩) (qe Z (zh (zb hN Z (qd Z (za (yr tyU9 Z) (za (qz Z Z) (zi _ Z (fun h16 => ?_) (fun h16 => ?_)))))))))))))
    ·refine tE h16 H fun H=>zb hN Z (qe Z (qe Z (zj ?_)))
     cases H
     exact ⟨U,.inl Z,.inl Z,U⟩
    ·refine fE h16 H fun H=>zo (zb hN Z (qd Z (qe Z (qe Z (zj ?_)))))
     cases H
     exact ⟨U,.inl Z,.inl Z,U⟩
   ·rintro k10 x13 l9 q11 h17 h18 H hq11
    replace H:xo k10 x13 l9=some q11:=H
    unfold xo at H
    refine zb hN Z (za (yf Z Z) (zh (zi _ Z (fun h => ?_) (fun h=>(lt_f h17 h).elim))))
    refine zo (zh (ye (zb hN Z (za (ja Qb (fun _=>Z) Z Z h18) (za (kk qf Z (wz h18) Z) (zl (vj 2 vy Z) Z (zl (vi qf Z Z Z Z) Z (zh (ye (zb hN Z (za (zk ki Z) (zw (zr tyS9 Z Z) Z (bE H fun r19 h20 H=>za (zp (y0k x13.Words r19 h20) ⟨.inl Z,U⟩) (za (yt Z) (qe Z (zi _ Z (fun h21 => ?_) (fun h21 => ?_)))))))))))))))))
    ·refine tE h21 H fun H=>zb hN Z (qe Z (qe Z (zj ?_)))
     replace H:=retl H hq11
     cases H
     exact ⟨U,.inl Z,.inl Z,U⟩
    ·refine fE h21 H fun H=>zb hN Z (za (zk jm Z) (zw (zr tyS3 Z Z) Z (bE H fun r22 h23 H=>za (zp (z4j x13.Quality 0 1000 r22 h23) ⟨.inl Z,.inl Z,.inl Z,U⟩) (za (yt Z) (qe Z (zi _ Z (fun h24 => ?_) (fun h24 => ?_)))))))
     ·refine tE h24 H fun H=>zb hN Z (qe Z (qe Z (zj ?_)))
      replace H:=retl H hq11
      cases H
      exact ⟨U,.inl Z,.inl Z,U⟩
     ·refine fE h24 H fun H=>zo (zb hN Z (za (zk ki Z) (zw (zr tyS9 Z Z) Z (qe Z (zh (zb hN Z (za (zk wv Z) (zw (zr wu Z Z) Z (za (ql kh Z) (qd Z (ye (gE H fun h28 H=>vf (fun (k26:Nat) (s:Bs)=>[(4,.row 1 l9.length),(6,.ptr 2 0),(7,.dat (vstr s)),(19,.dat (vlst (List.map yd v1))),(20,.dat (vint (v1.length:Int))),(21,.dat (vint (k10:Int))),(38,.dat (vlst (List.map ym x13.Params))),(39,.dat (vint (x13.Params.length:Int))),(40,.dat (vint (k26:Int)))]) (fun (k26:Nat) (s:Bs)=>[(1,.row 9 1 (List.map yj l9)),(2,.box none 45 [.dat (vstr x13.Words),.dat (vlst (List.map ym x13.Params)),.dat (vint x13.Quality)])]) x13.Words H ⟨Z,Z,Z,Z,Z,Z,Z,Z,Z,U⟩ ⟨Z,Z,U⟩ (fun _ _=>Z) ?_ ?_))))))))))))
      ·rintro v25 H
       replace H:Yq l9 x13 v25=some q11:=H
       unfold Yq at H
       refine zb hN Z (za (yf Z Z) (zh (zi _ Z (fun h=>(lt_t h).elim) (fun h => ?_))))
       refine yv (ya (ι:=Bs) (fun i=>[(4,.row 1 l9.length),(7,.dat (vstr i)),(19,.dat (vlst (List.map yd v1))),(20,.dat (vint (v1.length:Int))),(21,.dat (vint (k10:Int)))]) (fun i=>[(1,.row 9 1 (List.map yj l9))]) (fun i=>z0b l9 i=some q11) (fun i=>Z) ?_ ?_)
       ·skip
        refine zb hN Z (za (zk jm Z) (zw (zr tyS3 Z Z) Z (za (yf Z Z) (zi _ Z (fun h30 => ?_) (fun h30 => ?_)))))
        ·exact tE h30 H fun H=>zn hN Z (qd Z (za (zk jm Z) (zw (zr tyS3 Z Z) Z (bE H fun r31 h32 H=>za (zp (y6r x13.Quality r31 h32) ⟨.inl Z,U⟩) (gE H fun h33 H=>za (qm Z Z (Nat.le_trans h33 (by decide))) (gE H fun h34 H=>za (qm Z Z (Nat.le_trans h34 (by decide))) (qe Z ⟨(v25++([59,113,61]++r31)),H,⟨Z,Z,Z,Z,Z,U⟩,⟨Z,U⟩⟩)))))))
        ·exact fE h30 H fun H=>zo ⟨v25,H,⟨Z,Z,Z,Z,Z,U⟩,⟨Z,U⟩⟩
       ·rintro v35 H
        replace H:z0b l9 v35=some q11:=H
        unfold z0b at H
        refine zn hN Z (za (ze (.row _ _) Z) (qd Z (za (yg (u':=vlst (List.map yj [v35])) (qj [[_]] wb ⟨Z,.inl ⟨_,Z,Z,Z⟩,Z,U⟩ Z Z) Z) (gE H fun h36 H=>zl (jc wb (fun _=>Z) Z Z Z ⟨by simp,by first | (simp; done) | simpa using h36⟩ Z) Z ?_))))
        exact za (wy (.row _ _) Z) (zn hN Z (za (wj Z Z (by omega)) (qd Z ⟨_,qc H,⟨Z,Z,Z,Z,U⟩,⟨Z,U⟩⟩)))
      ·rintro k26 x29 v25 q27 h37 h38 H hq27
       replace H:Yp k26 x29 v25=some q27:=H
       unfold Yp at H
       refine zb hN Z (za (yf Z Z) (zh (zi _ Z (fun h => ?_) (fun h=>(lt_f h37 h).elim))))
       refine zo (zh (ye (zb hN Z (za (ja z0k (fun _=>Z) Z Z h38) (za (kk um Z (wz h38) Z) (zl (vj 3 xw Z) Z (zl (vi um Z Z Z Z) Z (zh (zb hN Z (za (zk Za Z) (zw (zr tyS9 Z Z) Z (bE H fun r39 h40 H=>za (zp (Wm x29.Name r39 h40) ⟨.inl Z,U⟩) (za (yt Z) (qd Z (yu Z Z (fun hc=>zk Za Z) (z86 Z Z (fun hc=>zr tyS9 (cnd (c:=(!(!r39))) hc) Z) Z z7o (yu Z Z (fun hc=>qx (cnd (c:=(!(!r39))) hc) Z) (za (ww Z Z (fun hb=>(cnd (c:=(!(!r39))) (notI hb)))) (qd Z (yu Z Z (fun hc=>zk Za Z) (z86 Z Z (fun hc=>zr tyS9 (cnd (c:=(!((!r39) || (decide (x29.Name=[113]))))) hc) Z) Z z7o (yu Z Z (fun hc=>qx (cnd (c:=(!((!r39) || (decide (x29.Name=[113]))))) hc) Z) ?_))))))))))))))))))))))
       refine za (ww Z Z (fun hb=>(cnd (c:=(!((!r39) || (decide (x29.Name=[113]))))) (notI hb)))) (zi _ Z (fun h41 => ?_) (fun h41 => ?_))
       ·refine tE h41 H fun H=>zb hN Z (qe Z (qe Z (zj ?_)))
        replace H:=retl H hq27
        replace H:=retl H hq11
        cases H
        exact ⟨U,.inl Z,.inl Z,U⟩
       ·refine fE h41 H fun H=>zo (zh (zb hN Z (za (zk z2w Z) (zw (zr tyS9 Z Z) Z (bE H fun r42 h43 H=>za (zp (y0l x29.Value 32 r42 h43) ⟨.inl Z,.inl Z,U⟩) (za (yt Z) (zi _ Z (fun h44 => ?_) (fun h44 => ?_))))))))
        ·refine tE h44 H fun H=>zb hN Z (qe Z (qe Z (zj ?_)))
         replace H:=retl H hq27
         replace H:=retl H hq11
         cases H
         exact ⟨U,.inl Z,.inl Z,U⟩
        ·refine fE h44 H fun H=>zo (zb hN Z (za (zk z2w Z) (zw (zr tyS9 Z Z) Z (qe Z (ya (ι:=Bs) (fun i=>[(4,.row 1 l9.length),(6,.ptr 2 0),(7,.dat (vstr v25)),(9,.ptr 3 0),(10,.dat (vstr i)),(19,.dat (vlst (List.map yd v1))),(20,.dat (vint (v1.length:Int))),(21,.dat (vint (k10:Int))),(38,.dat (vlst (List.map ym x13.Params))),(39,.dat (vint (x13.Params.length:Int))),(40,.dat (vint (k26:Int)))]) (fun i=>[(1,.row 9 1 (List.map yj l9)),(2,.box none 45 [.dat (vstr x13.Words),.dat (vlst (List.map ym x13.Params)),.dat (vint x13.Quality)]),(3,.box none 47 [.dat (vstr x29.Name),.dat (vstr x29.Value)])]) (fun i=>z0a v25 x29 i=some q27) (fun i=>Z) ?_ ?_)))))
         ·skip
          refine zb hN Z (qd Z (bE H fun r45 h46 H=>za (zp (Wm x29.Value r45 h46) ⟨.inl Z,U⟩) (za (yt Z) (zi _ Z (fun h47 => ?_) (fun h47 => ?_)))))
          ·exact tE h47 H fun H=>zn hN Z (qd Z (bE H fun r48 h49 H=>za (zp (y0b x29.Value [92] [92,92] r48 h49) ⟨.inl Z,.inl Z,.inl Z,U⟩) (bE H fun r50 h51 H=>za (zp (y0b r48 [34] [92,34] r50 h51) ⟨.inl Z,.inl Z,.inl Z,U⟩) (gE H fun h52 H=>za (qm Z Z (Nat.le_trans h52 (by decide))) (gE H fun h53 H=>za (qm Z Z (Nat.le_trans h53 (by decide))) (qe Z ⟨(([34]++r50)++[34]),H,⟨Z,Z,Z,Z,Z,Z,Z,Z,Z,Z,Z,U⟩,⟨Z,Z,Z,U⟩⟩))))))
          ·exact fE h47 H fun H=>zo ⟨x29.Value,H,⟨Z,Z,Z,Z,Z,Z,Z,Z,Z,Z,Z,U⟩,⟨Z,Z,Z,U⟩⟩
         ·rintro v54 H
          replace H:z0a v25 x29 v54=some q27:=H
          unfold z0a at H
          exact zn hN Z (qd Z (za (zk Za Z) (zw (zr tyS9 Z Z) Z (gE H fun h55 H=>za (qm Z Z (Nat.le_trans h55 (by decide))) (gE H fun h56 H=>za (qm Z Z (Nat.le_trans h56 (by decide))) (qd Z (gE H fun h57 H=>za (qm Z Z (Nat.le_trans h57 (by decide))) (gE H fun h58 H=>za (qm Z Z (Nat.le_trans h58 (by decide))) (qe Z (zn hN Z (za (wj Z Z (by omega)) (qd Z ⟨_,qc H,⟨Z,Z,Z,Z,Z,Z,Z,Z,Z,U⟩,⟨Z,Z,U⟩⟩))))))))))))
theorem y53 (s1:(List zg)) (s2:(List zg)) (p2:zg→zg→Option (Bool)) (fv2:Nat) (us2:List V) (hp2:∀ a0 a1 r,p2 a0 a1=some r→Fn Tryz.prog fv2 ([vagg (yd a0),vagg (yd a1)]++us2) (zu [zf r])) (r:(Bool)) (H:z3t s1 s2 p2=some r):Fn Tryz.prog 41 [vlst (List.map yd s1),vlst (List.map yd s2),vfn fv2 us2] (zu [zf r]):=by
 refine ⟨by kernel_rfl,yi (us:=[zf r]) Tryz.func41 Z Z Z Z fun X hN => ?_⟩
 unfold z3t at H
 refine zb hN Z (qe Z (zh (zb hN Z (qd Z (za (ql jl Z) (qd Z (za (ql jl Z) (za (jn Z Z) (zi _ Z (fun h3 => ?_) (fun h3 => ?_))))))))))
 ·refine tE h3 H fun H=>zb hN Z (qe Z (zj ?_))
  cases H
  exact ⟨U,.inl Z,U⟩
 ·refine fE h3 H fun H=>zo (zh (zb hN Z (qd Z (za (ql jl Z) (qd Z (ye (gE H fun h6 H=>vf (fun (k4:Nat) (s:Unit)=>[(1,.dat (vlst (List.map yd s2))),(2,.dat (vfn fv2 us2)),(15,.dat (vlst (List.map yd s1))),(16,.dat (vint (s1.length:Int))),(17,.dat (vint (k4:Int)))]) (fun (k4:Nat) (s:Unit)=>[]) () H ⟨Z,Z,Z,Z,Z,U⟩ U (fun _ _=>Z) ?_ ?_)))))))
  ·rintro ⟨⟩ H
   replace H:z28=some r:=H
   unfold z28 at H
   refine zb hN Z (za (yf Z Z) (zh (zi _ Z (fun h=>(lt_t h).elim) (fun h => ?_))))
   refine yv (zb hN Z (qe Z (zj ?_)))
   cases H
   exact ⟨U,.inl Z,U⟩
  ·rintro k4 x7 ⟨⟩ q5 h8 h9 H hq5
   replace H:Qi s2 p2 k4 x7=some q5:=H
   unfold Qi at H
   refine zb hN Z (za (yf Z Z) (zh (zi _ Z (fun h => ?_) (fun h=>(lt_f h8 h).elim))))
   refine zo (zh (ye (zb hN Z (qd Z (za (ja Qb (fun _=>Z) Z Z h9) (za (kk qf Z (wz h9) Z) (zl (vj 1 vy Z) Z (qe Z (zl (vi qf Z Z Z Z) Z (zb hN Z (qd Z (qd Z (bE H fun x10 h11 H=>za (ja Qb (fun _=>Z) Z Z h11) (za (kk qf Z (wz h11) Z) (zl (vj 2 vy Z) Z (zl (vi qf Z Z Z Z) Z (zb hN Z (qd Z (zw (kl qf Z Z Z) Z (zw (kl qf Z Z Z) Z (bE H fun r12 h13 H=>za (z8y (hp2 x7 x10 r12 h13) Z ⟨.inl Z,.inl Z,U⟩) ?_)))))))))))))))))))))
   refine za (yt Z) (zi _ Z (fun h14 => ?_) (fun h14 => ?_))
   ·refine tE h14 H fun H=>zb hN Z (qe Z (zj ?_))
    replace H:=retl H hq5
    cases H
    exact ⟨U,.inl Z,U⟩
   ·exact fE h14 H fun H=>zo (zn hN Z (za (wj Z Z (by omega)) (qd Z ⟨_,qc H,⟨Z,Z,Z,Z,Z,U⟩,U⟩)))
theorem y52 (s1:(List zt)) (s2:(List zt)) (r:(Bool)) (H:z3s s1 s2=some r):Fn Tryz.prog 43 [vlst (List.map ym s1),vlst (List.map ym s2)] (zu [zf r]):=by
 refine ⟨by kernel_rfl,yi (us:=[zf r]) Tryz.func43 Z Z Z Z fun X hN => ?_⟩
 unfold z3s at H
 refine zb hN Z (qe Z (zh (zb hN Z (qd Z (za (ql kh Z) (qd Z (za (ql kh Z) (za (jn Z Z) (zi _ Z (fun h3 => ?_) (fun h3 => ?_))))))))))
 ·refine tE h3 H fun H=>zb hN Z (qe Z (zj ?_))
  cases H
  exact ⟨U,.inl Z,U⟩
 ·refine fE h3 H fun H=>zo (zh (zb hN Z (qd Z (za (ql kh Z) (qd Z (ye (gE H fun h6 H=>vf (fun (k4:Nat) (s:Unit)=>[(0,.dat (vlst (List.map ym s1))),(1,.dat (vlst (List.map ym s2))),(12,.dat (vint (s1.length:Int))),(13,.dat (vint (k4:Int)))]) (fun (k4:Nat) (s:Unit)=>[]) () H ⟨Z,Z,Z,Z,U⟩ U (fun _ _=>Z) ?_ ?_)))))))
  ·rintro ⟨⟩ H
   replace H:z5u=some r:=H
   unfold z5u at H
   refine zb hN Z (za (yf Z Z) (zh (zi _ Z (fun h=>(lt_t h).elim) (fun h => ?_))))
   refine yv (zb hN Z (qe Z (zj ?_)))
   cases H
   exact ⟨U,.inl Z,U⟩
  ·rintro k4 x7 ⟨⟩ q5 h8 h9 H hq5
   replace H:z5t s2 k4 x7=some q5:=H
   unfold z5t at H
   refine zb hN Z (za (yf Z Z) (zh (zi _ Z (fun h => ?_) (fun h=>(lt_f h8 h).elim))))
   refine zo (zh (ye (zb hN Z (qd Z (qe Z (zh (wl mixed hN Z Z (qd Z (qd Z (za (ja z0k (fun _=>Z) Z Z h9) (za (kk um Z (wz h9) Z) (qd Z (qd Z (bE H fun x10 h11 H=>za (ja z0k (fun _=>Z) Z Z h11) (za (kk um Z (wz h11) Z) (za (y3j [_,_] [_,_] y18 Z Z Z) ⟨Z,?_⟩))))))))))))))))
   refine zi _ Z (fun h12 => ?_) (fun h12 => ?_)
   ·refine tE h12 H fun H=>zb hN Z (qe Z (zj ?_))
    replace H:=retl H hq5
    cases H
    exact ⟨U,.inl Z,U⟩
   ·exact fE h12 H fun H=>zo (zn hN Z (za (wj Z Z (by omega)) (qd Z ⟨_,qc H,⟨Z,Z,Z,Z,U⟩,U⟩)))
theorem y66 (x1:zg) (y2:zg) (r:(Bool)) (H:xk x1 y2=some r):Fn Tryz.prog 42 [vagg (yd x1),vagg (yd y2)] (zu [zf r]):=by
 refine ⟨by kernel_rfl,yi (us:=[zf r]) Tryz.func42 Z Z Z Z fun X hN => ?_⟩
 unfold xk at H
 refine zb hN Z (zl (jy 1 Z) Z (zl (jy 2 Z) Z (qe Z (ya (ι:=Bool) (fun i=>[(4,.dat (zf i))]) (fun i=>[]) (fun i=>Yt i=some r) (fun i=>Z) ?_ ?_))))
 ·skip
  refine zn hN Z (za (zk ki Z) (zw (zr tyS9 Z Z) Z (za (zk ki Z) (zw (zr tyS9 Z Z) Z (za (qx Z Z) (qd Z (yc (j:=5) Z Z (fun h3 => ?_) (fun h3 => ?_) Z)))))))
  ·refine u1 h3 H fun h4 H=>zd Z Z h3 (zk jm Z) (we Z Z h3 (zr tyS3 Z Z) Z (zd Z Z h3 (zk jm Z) (we Z Z h3 (zr tyS3 Z Z) Z (zd Z Z h3 (yk Z Z) (za (zx Z (bTT h4) Z) (qd Z (yc (j:=12) Z Z (fun h5 => ?_) (fun h5 => ?_) Z)))))))
   ·exact u1 h5 H fun h6 H=>zd Z Z h5 (zk wv Z) (we Z Z h5 (zr wu Z Z) Z (zd Z Z h5 (zk wv Z) (we Z Z h5 (zr wu Z Z) Z (bE H fun r7 h8 H=>zd Z Z h5 (zp (y52 x1.Params y2.Params r7 h8) ⟨.inl Z,.inl Z,U⟩) (za (zx Z (bTT h6) Z) (qe Z ⟨r7,H,⟨Z,U⟩,U⟩))))))
   ·exact u2 h5 H fun h9 H=>zc Z Z h5 (zc Z Z h5 (zc Z Z h5 (zc Z Z h5 (zc Z Z h5 (za (zq Z (bFF h9) Z) (qe Z ⟨false,H,⟨Z,U⟩,U⟩))))))
  ·exact u2 h3 H fun h10 H=>zc Z Z h3 (zc Z Z h3 (zc Z Z h3 (zc Z Z h3 (zc Z Z h3 (za (zq Z (bFF h10) Z) (qd Z (zc Z Z Z (zc Z Z Z (zc Z Z Z (zc Z Z Z (zc Z Z Z (za (zq Z Z Z) (qe Z ⟨false,H,⟨Z,U⟩,U⟩)))))))))))))
 ·rintro v11 H
  replace H:Yt v11=some r:=H
  unfold Yt at H
  refine zj ?_
  cases H
  exact ⟨U,.inl Z,U⟩
theorem y67 (a1:(List zg)) (b2:(List zg)) (r:(Bool)) (H:z1t a1 b2=some r):Fn Tryz.prog 10 [vlst (List.map yd a1),vlst (List.map yd b2)] (zu [zf r]):=by
 refine ⟨by kernel_rfl,yi (us:=[zf r]) Tryz.func10 Z Z Z Z fun X hN => ?_⟩
 unfold z1t at H
 refine zb hN Z (qe Z (zb hN Z (qd Z (qd Z (bE H fun r3 h4 H=>za (z0w (y53 a1 b2 (fun (a0:zg) (a1:zg)=>xk a0 a1) 42 [] (fun a0 a1 r h=>y66 a0 a1 r h) r3 h4) ⟨.inl (.inl Z),.inl (.inl Z),.inr ⟨_,Z,Z⟩,U⟩) (qe Z (zj ?_)))))))
 cases H
 exact ⟨U,.inl Z,U⟩
theorem y5z (s p:Bs) (r:Bool) (H:z6g s p=some r):Fn Tryz.prog 97 [vstr s,vstr p] (zu [zf r]):=by
 unfold z6g at H
 obtain ⟨⟨⟨h1,h2⟩,h3,h4⟩,h5⟩:=gif H
 cases h5
 refine uj (by kernel_rfl) fun M w vs hM h => ?_
 have hv:=jw (us:=[.string ⟨s.toArray⟩,.string ⟨p.toArray⟩]) h
 subst hv
 refine (Tryz.strings_ContainsAny_laid ⟨s.toArray⟩ ⟨p.toArray⟩ w (by simp [ByteArray.size]; omega) (by simp [ByteArray.size]; omega) (fun j b hb=>z2h h3 j b (by simpa using hb)) (fun j b hb=>z2h h4 j b (by simpa using hb))).mono ?_
 rintro e w' ⟨rfl,hb⟩
 exact ⟨_,Z,Z,Kp.of_below hb⟩

theorem y6f (s1:Bs) (r:(Int)) (H:z3z s1=some r):Fn Tryz.prog 70 [vstr s1] (zu [vint r]):=by
 refine ⟨by kernel_rfl,yi (us:=[vint r]) Tryz.func70 Z Z Z Z fun X hN => ?_⟩
 unfold z3z at H
 refine zb hN Z (qe Z (zh (ya (ι:=Bool) (fun i=>[(19,.dat (zf i))]) (fun i=>[]) (fun i=>Zq i=some r) (fun i=>Z) ?_ ?_)))
 ·skip
  refine zn hN Z (qd Z (za (yr tyU9 Z) (za (qz Z Z) (qd Z (yc (j:=3) Z Z (fun h2 => ?_) (fun h2 => ?_) Z)))))
  ·refine u3 h2 H fun h3 H=>zd Z Z h2 (ze (.dat _) Z) (bE H fun r4 h5 H=>zd Z Z h2 (zp (z4e s1 [47] r4 h5) ⟨.inl Z,.inl Z,U⟩) (zd Z Z h2 (yt Z) (za (zq Z (bFF h3) Z) (qd Z (yc (j:=8) Z Z (fun h6 => ?_) (fun h6 => ?_) Z)))))
   ·refine u3 h6 H fun h7 H=>zd Z Z h6 (ze (.dat _) Z) (bE H fun r8 h9 H=>zd Z Z h6 (zp (z6u s1 33 126 r8 h9) ⟨.inl Z,.inl Z,.inl Z,U⟩) (zd Z Z h6 (yt Z) (za (zq Z (bFF h7) Z) (qd Z (yc (j:=13) Z Z (fun h10 => ?_) (fun h10 => ?_) Z)))))
    ·exact u3 h10 H fun h11 H=>zd Z Z h10 (ze (.dat _) Z) (bE H fun r12 h13 H=>zd Z Z h10 (zp (y5z s1 [63,35] r12 h13) ⟨.inl Z,.inl Z,U⟩) (za (zq Z (bFF h11) Z) ⟨r12,H,⟨Z,U⟩,U⟩))
    ·exact u4 h10 H fun h14 H=>zc Z Z h10 (zc Z Z h10 (za (zx Z (bTT h14) Z) ⟨true,H,⟨Z,U⟩,U⟩))
   ·exact u4 h6 H fun h15 H=>zc Z Z h6 (zc Z Z h6 (zc Z Z h6 (za (zx Z (bTT h15) Z) (qd Z (zc Z Z Z (zc Z Z Z (za (zx Z Z Z) ⟨true,H,⟨Z,U⟩,U⟩)))))))
  ·exact u4 h2 H fun h16 H=>zc Z Z h2 (zc Z Z h2 (zc Z Z h2 (za (zx Z (bTT h16) Z) (qd Z (zc Z Z Z (zc Z Z Z (zc Z Z Z (za (zx Z Z Z) (qd Z (zc Z Z Z (zc Z Z Z (za (zx Z Z Z) ⟨true,H,⟨Z,U⟩,U⟩))))))))))))
 ·rintro v17 H
  replace H:Zq v17=some r:=H
  unfold Zq at H
  refine zi _ Z (fun h18 => ?_) (fun h18 => ?_)
  ·refine tE h18 H fun H=>zb hN Z (qe Z (zj ?_))
   cases H
   exact ⟨U,.inl Z,U⟩
  ·refine fE h18 H fun H=>zo (zb hN Z (qe Z (zj ?_)))
   cases H
   exact ⟨U,.inl Z,U⟩
theorem z96 (l1:(List Int)) (c2:Int) (r:(Int×(List Int))) (H:z3r l1 c2=some r):FnG Tryz.prog 98 [.ptr 0 0,.dat (vval (.int .u8 c2))] [(0,.box (some 0) 88 [.nptr 0,.row 1 l1.length]),(1,.row 5 1 (List.map yz l1))] (.dat (zu [verr r.1])) [(0,.box (some 0) 88 [.nptr 0,.row 900 r.2.length]),(900,.row 5 1 (List.map yz r.2))]:=by
 refine z7c (by kernel_rfl) Tryz.func98 Z Z Z Z fun X A hN => ?_
 refine wd ?_
 unfold z3r at H
 refine zb hN Z (qe Z (zb hN Z (za (ze (.ptr _ _) Z) (zl (z8x y1h Z) Z (zb hN Z (za (ze (.ptr _ _) Z) (za (ze (.ptr _ _) Z) (za (zy Z) (za (zk z2v Z) (zw (zr z2r Z Z) Z (qd Z (za (yg (u':=vlst (List.map yz [c2])) (qj [[_]] xz ⟨Z,.inl ⟨_,Z,Z,Z⟩,Z,U⟩ Z Z) Z) (gE H fun h3 H=>zl (jc xz (fun _=>Z) Z Z Z ⟨by simp,by first | (simp; done) | simpa using h3⟩ Z) Z ?_)))))))))))))
 refine za (zy Z) (za (zk z2v Z) (z0x (z0t z2r Z Z (by rw [List.length_map]) Z) Z Z ?_))
 refine zb hN Z (qe Z (zj ?_))
 cases H
 show Cv _ _ _ _
 exact wn (rn [(1,900)]) [(4,.dat (verr 0))] [(0,.box (some (A.bl 0)) 88 [.nptr 0,.row 1 ((l1++[c2]).length)]),(1,.row 5 1 (List.map yz (l1++[c2])))] ⟨Z,U⟩ ⟨Z,Z,U⟩ Z Z ⟨U,[(4,.dat (verr 0))],⟨Z,U⟩,⟨Z,Z,U⟩,Z,.inl ⟨[verr 0],⟨Z,U⟩,Z⟩⟩
theorem y0h (c1:Int) (r:(Bool)) (H:z3y c1=some r):Fn Tryz.prog 125 [vval (.int .u8 c1)] (zu [zf r]):=by
 refine ⟨by kernel_rfl,yi (us:=[zf r]) Tryz.func125 Z Z Z Z fun X hN => ?_⟩
 unfold z3y at H
 refine zb hN Z (qe Z (zb hN Z (qd Z (bE H fun r2 h3 H=>za (zp (z6v c1 r2 h3) ⟨.inl Z,U⟩) (qd Z (yu Z Z (fun hc=>ze (.dat _) Z) (yu Z Z (fun hc=>vc (cnd (c:=(!r2)) hc) Z) (yu Z Z (fun hc=>ze (.dat _) (cnd (c:=(!r2)) hc)) (vo Z Z (fun hc=>ze (.dat _) Z) (vo Z Z (fun hc=>qy (cnd (c:=((!r2) && (decide (97≤c1)))) hc) Z) (yu Z Z (fun hc=>wc (cnd (c:=(!r2)) hc) (fun hb=>(cnd (c:=((!r2) && (decide (97≤c1)))) (andI hc hb))) Z) (za (ww Z Z (fun hb=>(cnd (c:=(!r2)) (notI hb)))) (qd Z (yu Z Z (fun hc=>ze (.dat _) Z) (yu Z Z (fun hc=>vc (cnd (c:=(!(r2 || ((decide (97≤c1)) && (decide (c1≤102)))))) hc) Z) (yu Z Z (fun hc=>ze (.dat _) (cnd (c:=(!(r2 || ((decide (97≤c1)) && (decide (c1≤102)))))) hc)) (vo Z Z (fun hc=>ze (.dat _) Z) (vo Z Z (fun hc=>qy (cnd (c:=((!(r2 || ((decide (97≤c1)) && (decide (c1≤102))))) && (decide (65≤c1)))) hc) Z) (yu Z Z (fun hc=>wc (cnd (c:=(!(r2 || ((decide (97≤c1)) && (decide (c1≤102)))))) hc) (fun hb=>(cnd (c:=((!(r2 || ((decide (97≤c1)) && (decide (c1≤102))))) && (decide (65≤c1)))) (andI hc hb))) Z) (za (ww Z Z (fun hb=>(cnd (c:=(!(r2 || ((decide (97≤c1)) && (decide (c1≤102)))))) (notI hb)))) (qe Z (zj ?_))))))))))))))))))))))
 cases H
 exact ⟨U,.inl Z,U⟩
end Go.Proofs.YtpjjkhcojjcdpaaGreatDoor
