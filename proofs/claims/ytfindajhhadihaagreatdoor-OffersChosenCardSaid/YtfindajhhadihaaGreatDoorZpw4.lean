/- Walks along the models. Printed by a program. -/
import Derived.Test.YtfindajhhadihaaGreatDoorZpw3
namespace Go.Proofs.YtfindajhhadihaaGreatDoor
open Go.RowKit
set_option linter.unusedVariables false
set_option maxRecDepth 100000
set_option maxHeartbeats 2000000
theorem y3n (s1:zx) (s2:zj) (s3:Bool) (r:(Bool×zx×zj×Bool)) (H:uf s1 s2 s3=some r):FnG Tryz.prog 62 [.ptr 0 0,.ptr 10 0,.ptr 20 0] [(0,.box (some 0) 61 [.dat (vstr s1.s_)]),(10,.box (some 10) 57 [.dat (vstr s2.Words),.row 11 s2.Params.length,.dat (vint s2.Quality)]),(11,.row 102 2 (List.map qy s2.Params)),(20,.box (some 20) 4 [.dat (zf s3)])] (.dat (zr [zf r.1])) [(0,.box (some 0) 61 [.dat (vstr r.2.1.s_)]),(10,.box (some 10) 57 [.dat (vstr r.2.2.1.Words),.row 900 r.2.2.1.Params.length,.dat (vint r.2.2.1.Quality)]),(20,.box (some 20) 4 [.dat (zf r.2.2.2)]),(900,.row 102 2 (List.map qy r.2.2.1.Params))]:=by
 refine z5z (by kernel_rfl) Tryz.func62 Z Z Z Z fun X A hN => ?_
 refine we ?_
 unfold uf at H
 refine zb hN Z (qe Z (zb hN Z (za (ze (.ptr _ _) Z) (bE H fun r4 h5 H=>zq (yn (z3a s1 r4 h5) Z U Z) Z (zb hN Z (za (ze (.ptr _ _) Z) (bE H fun r6 h7 H=>zq (yn (z5n r4 [61,44,59,32] r6 h7) Z ⟨.inl Z,U⟩ Z) Z (qe Z (zh (zw (ι:=Bool) (fun i=>[(0,.ptr 0 0),(1,.ptr 10 0),(2,.ptr 20 0),(7,.dat (vstr r6.1)),(26,.dat (zf i))]) (fun i=>[(0,.box (some (A.bl 0)) 61 [.dat (vstr r6.2.s_)]),(10,.box (some (A.bl 10)) 57 [.dat (vstr s2.Words),.row 11 s2.Params.length,.dat (vint s2.Quality)]),(11,.row 102 2 (List.map qy s2.Params)),(20,.box (some (A.bl 20)) 4 [.dat (zf s3)])]) (fun i=>Zo s2 s3 r6 i=some r) (fun i=>Z) ?_ ?_))))))))))
 ·refine we (zm hN Z (qd Z (bE H fun r8 h9 H=>za (zn (z3b r6.1 r8 h9) ⟨.inl Z,U⟩) (za (yy Z) (qd Z (zz (j:=3) Z Z (fun h10 => ?_) (fun h10 => ?_) Z))))))
  ·refine u3 h10 H fun h11 H=>zd Z Z h10 (ze (.ptr _ _) Z) (zd Z Z h10 (zv Z) (zd Z Z h10 (zp yz Z) (wo Z Z h10 (zy tyS9 Z Z) Z (bE H fun r12 h13 H=>zd Z Z h10 (zn (z27 r6.2.s_ [61] r12 h13) ⟨.inl Z,.inl Z,U⟩) (zd Z Z h10 (yy Z) (za (zo Z (bFF h11) Z) (wg ?_)))))))
   show Cv _ _ _ _
   exact qq ⟨!r12,H,⟨Z,Z,Z,Z,Z,U⟩,⟨Z,Z,Z,Z,U⟩⟩
  ·refine u4 h10 H fun h14 H=>zc Z Z h10 (zc Z Z h10 (zc Z Z h10 (zc Z Z h10 (zc Z Z h10 (zc Z Z h10 (za (zu Z (bTT h14) Z) (wg ?_)))))))
   show Cv _ _ _ _
   exact qq ⟨true,H,⟨Z,Z,Z,Z,Z,U⟩,⟨Z,Z,Z,Z,U⟩⟩
 ·rintro v15 H
  replace H:Zo s2 s3 r6 v15=some r:=H
  unfold Zo at H
  refine zg _ Z (fun h16 => ?_) (fun h16 => ?_)
  ·refine tE h16 H fun H=>zb hN Z (qe Z (zi ?_))
   cases H
   show Cv _ _ _ _
   exact wn (rn [(11,900)]) [(6,.dat (zf false))] [(0,.box (some (A.bl 0)) 61 [.dat (vstr r6.2.s_)]),(10,.box (some (A.bl 10)) 57 [.dat (vstr s2.Words),.row 11 s2.Params.length,.dat (vint s2.Quality)]),(20,.box (some (A.bl 20)) 4 [.dat (zf s3)]),(11,.row 102 2 (List.map qy s2.Params))] ⟨Z,U⟩ ⟨Z,Z,Z,Z,U⟩ Z Z ⟨U,[(6,.dat (zf false))],⟨Z,U⟩,⟨Z,Z,Z,Z,U⟩,Z,.inl ⟨[zf false],⟨Z,U⟩,Z⟩⟩
  ·refine fE h16 H fun H=>zl (zb hN Z (za (ze (.ptr _ _) Z) (za (ze (.ptr _ _) Z) (za (zv Z) (za (zp yz Z) (yc (zy tyS9 Z Z) Z (bE H fun l17 h18 H=>za (qc tyU9 Z Z Z h18) (za (zv Z) (za (zp yz Z) (zq (qg tyS9 Z Z Z Z) Z (zb hN Z (qe Z (qe Z (zb hN Z (za (ze (.ptr _ _) Z) (za (zv Z) (za (zp yz Z) (yc (zy tyS9 Z Z) Z (bE H fun r19 h20 H=>za (zn (z27 l17 [34] r19 h20) ⟨.inl Z,.inl Z,U⟩) (qe Z ?_))))))))))))))))))))
   refine zw (ι:=Bs×Bool×Bs) (fun i=>[(1,.ptr 10 0),(2,.ptr 20 0),(7,.dat (vstr r6.1)),(8,.dat (vstr i.1)),(9,.dat (zf i.2.1)),(10,.dat (zf r19))]) (fun i=>[(0,.box (some (A.bl 0)) 61 [.dat (vstr i.2.2)]),(10,.box (some (A.bl 10)) 57 [.dat (vstr s2.Words),.row 11 s2.Params.length,.dat (vint s2.Quality)]),(11,.row 102 2 (List.map qy s2.Params)),(20,.box (some (A.bl 20)) 4 [.dat (zf s3)])]) (fun i=>Zn s2 s3 r6 r19 i.1 i.2.1 i.2.2=some r) (fun i=>Z) ?_ ?_
   ·refine we (zb hN Z (qd Z (zg _ Z (fun h21 => ?_) (fun h21 => ?_))))
    ·refine tE h21 H fun H=>zb hN Z (za (ze (.ptr _ _) Z) (za (ze (.ptr _ _) Z) (za (zv Z) (za (zp yz Z) (yc (zy tyS9 Z Z) Z (bE H fun l22 h23 H=>za (qc tyU9 Z Z Z h23) (za (zv Z) (za (zp yz Z) (zq (qg tyS9 Z Z Z Z) Z (zm hN Z (za (ze (.ptr _ _) Z) (bE H fun r24 h25 H=>zq (yn (y4u (zx.mk l22) r24 h25) Z U Z) Z (qd Z (za (yd Z Z) (za (yd Z Z) (qe Z (qe Z (wg ?_))))))))))))))))))
     show Cv _ _ _ _
     exact qq ⟨(r24.1,r24.2.1,r24.2.2.s_),H,⟨Z,Z,Z,Z,Z,Z,U⟩,⟨Z,Z,Z,Z,U⟩⟩
    ·refine fE h21 H fun H=>zb hN Z (za (ze (.ptr _ _) Z) (bE H fun r26 h27 H=>zq (yn (z5n (zx.mk l17) [44,59,32] r26 h27) Z ⟨.inl Z,U⟩ Z) Z (qe Z (zm hN Z (qd Z (bE H fun r28 h29 H=>za (zn (z3b r26.1 r28 h29) ⟨.inl Z,U⟩) (qe Z (wg ?_))))))))
     show Cv _ _ _ _
     exact qq ⟨(r26.1,r28,r26.2.s_),H,⟨Z,Z,Z,Z,Z,Z,U⟩,⟨Z,Z,Z,Z,U⟩⟩
   ·rintro ⟨v30,v31,c32⟩ H
    replace H:Zn s2 s3 r6 r19 v30 v31 c32=some r:=H
    unfold Zn at H
    refine zh (zb hN Z (qd Z (za (yy Z) (zg _ Z (fun h33 => ?_) (fun h33 => ?_)))))
    ·refine tE h33 H fun H=>zb hN Z (qe Z (zi ?_))
     cases H
     show Cv _ _ _ _
     exact wn (rn [(11,900)]) [(6,.dat (zf false))] [(0,.box (some (A.bl 0)) 61 [.dat (vstr c32)]),(10,.box (some (A.bl 10)) 57 [.dat (vstr s2.Words),.row 11 s2.Params.length,.dat (vint s2.Quality)]),(20,.box (some (A.bl 20)) 4 [.dat (zf s3)]),(11,.row 102 2 (List.map qy s2.Params))] ⟨Z,U⟩ ⟨Z,Z,Z,Z,U⟩ Z Z ⟨U,[(6,.dat (zf false))],⟨Z,U⟩,⟨Z,Z,Z,Z,U⟩,Z,.inl ⟨[zf false],⟨Z,U⟩,Z⟩⟩
    ·refine fE h33 H fun H=>zl (zh (zb hN Z (qd Z (za (jw Z Z) (qd Z (yp Z Z (fun hc=>ze (.dat _) Z) (yp Z Z (fun hc=>jw (cnd (c:=(decide (r6.1≠[113]))) hc) Z) (za (qp Z (fun hb=>(cnd (c:=(decide (r6.1≠[113]))) hb)) Z) (zg _ Z (fun h34 => ?_) (fun h34 => ?_))))))))))
     ·refine tE h34 H fun H=>zb hN Z (za (ze (.ptr _ _) Z) (za (ze (.ptr _ _) Z) (za (zv Z) (za (zp Yc Z) (yc (zy Yb Z Z) Z (qd Z (qd Z (za (ym (u':=vagg (qy (yg.mk r6.1 v30))) (xa [(0,[vstr r6.1]),(1,[vstr v30])] z6w z60 Z ⟨Z,.inl ⟨_,Z,Z,Z⟩,Z,Z,.inl ⟨_,Z,Z,Z⟩,Z,U⟩) Z) (za (ym (u':=vlst (List.map qy [(yg.mk r6.1 v30)])) (wa [_] z1s ⟨Z,.inr Z,Z,U⟩ Z Z) Z) (gE H fun h35 H=>zq (vo z1s (fun _=>Z) Z Z Z ⟨by simp,by first | (simp; done) | simpa using h35⟩ Z) Z ?_))))))))))
      refine za (zv Z) (za (zp Yc Z) (z14 (z11 Yb Z Z (by rw [List.length_map]) Z) Z Z ?_))
      refine zb hN Z (qe Z (zi ?_))
      cases H
      show Cv _ _ _ _
      exact wn (rn [(11,900)]) [(6,.dat (zf true))] [(0,.box (some (A.bl 0)) 61 [.dat (vstr c32)]),(10,.box (some (A.bl 10)) 57 [.dat (vstr s2.Words),.row 11 ((s2.Params++[(yg.mk r6.1 v30)]).length),.dat (vint s2.Quality)]),(20,.box (some (A.bl 20)) 4 [.dat (zf s3)]),(11,.row 102 2 (List.map qy (s2.Params++[(yg.mk r6.1 v30)])))] ⟨Z,U⟩ ⟨Z,Z,Z,Z,U⟩ Z Z ⟨U,[(6,.dat (zf true))],⟨Z,U⟩,⟨Z,Z,Z,Z,U⟩,Z,.inl ⟨[zf true],⟨Z,U⟩,Z⟩⟩
     ·refine fE h34 H fun H=>zl (zb hN Z (za (ze (.ptr _ _) Z) (za (zv Z) (yc (zy tyS4 Z Z) Z (qe Z (zb hN Z (za (ze (.ptr _ _) Z) (za (zv Z) (zq (qg tyS4 Z Z Z Z) Z (zb hN Z (za (ze (.ptr _ _) Z) (qd Z (bE H fun r36 h37 H=>za (zn (y4t v30 r36 h37) ⟨.inl Z,U⟩) (qd Z (za (yd Z Z) (za (yd Z Z) (za (zv Z) (za (zp z1v Z) (zq (qg tyS3 Z Z Z Z) Z (qe Z (zb hN Z ?_)))))))))))))))))))))
      refine qd Z (qd Z (yp Z Z (fun hc=>ze (.dat _) Z) (yp Z Z (fun hc=>yy (cnd (c:=r36.2) hc)) (za (qp Z (fun hb=>(cnd (c:=r36.2) hb)) Z) (qd Z (yp Z Z (fun hc=>ze (.dat _) Z) (yp Z Z (fun hc=>yy (cnd (c:=(r36.2 && (!s3))) hc)) (za (qp Z (fun hb=>(cnd (c:=(r36.2 && (!s3))) hb)) Z) (qe Z (zi ?_))))))))))
      cases H
      show Cv _ _ _ _
      exact wn (rn [(11,900)]) [(6,.dat (zf ((r36.2 && (!s3)) && (!r19))))] [(0,.box (some (A.bl 0)) 61 [.dat (vstr c32)]),(10,.box (some (A.bl 10)) 57 [.dat (vstr s2.Words),.row 11 s2.Params.length,.dat (vint r36.1)]),(20,.box (some (A.bl 20)) 4 [.dat (zf true)]),(11,.row 102 2 (List.map qy s2.Params))] ⟨Z,U⟩ ⟨Z,Z,Z,Z,U⟩ Z Z ⟨U,[(6,.dat (zf ((r36.2 && (!s3)) && (!r19))))],⟨Z,U⟩,⟨Z,Z,Z,Z,U⟩,Z,.inl ⟨[zf ((r36.2 && (!s3)) && (!r19))],⟨Z,U⟩,Z⟩⟩
theorem y4v (s1:zx) (r:(zj×Bool×zx)) (H:z0u s1=some r):Imp Tryz.prog 34 61 (ja s1) [] (zr [vagg (yk r.1),zf r.2.1]) (ja r.2.2):=by
 refine wm (us:=[vagg (yk r.1),zf r.2.1]) (cs':=(ja r.2.2)) (by kernel_rfl) Tryz.func34 Z Z Z Z fun X bl hN => ?_
 unfold z0u at H
 refine zb hN Z (zq (kk 1 ki Z) Z (qe Z (zb hN Z (za (ze (.ptr _ _) Z) (bE H fun r2 h3 H=>zq (yn (z5n s1 [44,59,32] r2 h3) Z ⟨.inl Z,U⟩ Z) Z (za (ym (u':=vagg [vstr r2.1,vnil,vint 1000]) (xa [(0,[vstr r2.1]),(2,[vint 1000])] ki z6z Z ⟨Z,.inl ⟨_,Z,Z,Z⟩,Z,Z,.inl ⟨_,Z,Z,Z⟩,Z,U⟩) Z) (zq (kk 2 ki Z) Z (zq (kj qz Z Z Z Z) Z (z58 2 1 3 102 2 Z Z Z Z (zh (zb hN Z (za (zp Wr Z) (yc (zy tyS9 Z Z) Z (bE H fun r4 h5 H=>za (zn (z81 r2.1 r4 h5) ⟨.inl Z,U⟩) (za (yy Z) (zg _ Z (fun h6 => ?_) (fun h6 => ?_)))))))))))))))))
 ·refine tE h6 H fun H=>zh (z3u 2 1 3 rfl rfl rfl (by first | rw [List.length_map] | rfl) ?_)
  refine zm hN Z (yc (z0b qz Z Z Z) Z (zq (kj qz Z Z Z Z) Z (qe Z (zi ?_))))
  cases H
  exact ⟨U,⟨.inl ⟨_,_,_,yk (zj.mk r2.1 ([]:List yg) 1000),Z,Z,Z,Z,qz⟩,.inl Z,U⟩,Z⟩
 ·refine fE h6 H fun H=>zl (zb hN Z (zq (kk 4 tyZ4 Z) Z (zq (qg tyS4 Z Z Z Z) Z (ye (jk (fun (s:(List yg)×Bs×Bs×Int×Bool)=>[(0,.ptr 0 0),(2,.ptr 1 0),(4,.ptr 2 0),(5,.ptr 4 0)]) (fun (s:(List yg)×Bs×Bs×Int×Bool)=>[(0,.box (some bl) 61 [.dat (vstr s.2.1)]),(1,.box none 57 [.dat (vstr []),.dat (vnil),.dat (vint 0)]),(2,.box none 57 [.dat (vstr s.2.2.1),.row 3 s.1.length,.dat (vint s.2.2.2.1)]),(3,.row 102 2 (List.map qy s.1)),(4,.box none 4 [.dat (zf s.2.2.2.2)])]) (([]:List yg),r2.2.s_,r2.1,1000,false) H ⟨Z,Z,Z,Z,U⟩ ⟨Z,Z,(congrArg (fun n=>some (some (AObj.box none 57 [.dat (vstr r2.1),.row 3 n,.dat (vint 1000)]))) (show 0=([]:List yg).length from (by simp))),Z,Z,U⟩ (fun _=>Z) ?_)))))
  rintro ⟨l7,c8,c9,c10,c11⟩ q12 H hq12
  replace H:Qw l7 c8 c9 c10 c11=some q12:=H
  unfold Qw at H
  refine we (ye (zb hN Z (za (ze (.ptr _ _) Z) (bE H fun r13 h14 H=>zq (yn (z3a (zx.mk c8) r13 h14) Z U Z) Z (zh (zb hN Z (za (ze (.ptr _ _) Z) (za (zv Z) (za (zp yz Z) (yc (zy tyS9 Z Z) Z (bE H fun r15 h16 H=>za (zn (z27 r13.s_ [59] r15 h16) ⟨.inl Z,.inl Z,U⟩) (za (yy Z) (zg _ Z (fun h17 => ?_) (fun h17 => ?_))))))))))))))
  ·refine tE h17 H fun H=>zh (z3u 2 1 3 rfl rfl rfl (by first | rw [List.length_map] | rfl) ?_)
   refine zm hN Z (yc (z0b qz Z Z Z) Z (zq (kj qz Z Z Z Z) Z (qe Z (zi ?_))))
   replace H:=retl H hq12
   cases H
   show Cv _ _ _ _
   exact qq ⟨U,⟨.inl ⟨_,_,_,yk (zj.mk c9 l7 c10),Z,Z,Z,Z,qz⟩,.inl Z,U⟩,Z⟩
  ·refine fE h17 H fun H=>zl (zb hN Z (za (ze (.ptr _ _) Z) (za (ze (.ptr _ _) Z) (za (zv Z) (za (zp yz Z) (yc (zy tyS9 Z Z) Z (bE H fun l18 h19 H=>za (qc tyU9 Z Z Z h19) (za (zv Z) (za (zp yz Z) (zq (qg tyS9 Z Z Z Z) Z (zb hN Z (za (ze (.ptr _ _) Z) (bE H fun r20 h21 H=>z0e (rn [(0,0),(10,2),(11,3),(20,4),(900,5)]) [(0,_,_,some _),(10,_,_,some _),(11,_,_,none),(20,_,_,some _)] [(900,_)] (y3n (zx.mk l18) (zj.mk c9 l7 c10) c11 r20 h21) ⟨Z,Z,Z,Z,Z,U⟩ ⟨.inl (.inl Z),.inl (.inl Z),.inl (.inl Z),U⟩ ⟨⟨⟨Z,Z⟩,U⟩,⟨⟨Z,Z⟩,U⟩,⟨⟨Z,Z,Z⟩,U⟩,⟨⟨Z,Z⟩,U⟩,U⟩ Z (za (yy Z) (zg _ Z (fun h22 => ?_) (fun h22 => ?_))))))))))))))))
   ·refine tE h22 H fun H=>zh (z3u 2 1 5 rfl rfl rfl (by first | rw [List.length_map] | rfl) ?_)
    refine zm hN Z (yc (z0b qz Z Z Z) Z (zq (kj qz Z Z Z Z) Z (qe Z (zi ?_))))
    replace H:=retl H hq12
    cases H
    show Cv _ _ _ _
    exact qq ⟨U,⟨.inl ⟨_,_,_,yk r20.2.2.1,Z,Z,Z,Z,qz⟩,.inl Z,U⟩,Z⟩
   ·refine fE h22 H fun H=>zl ?_
    show Cv _ _ _ _
    exact wn (rn [(5,3)]) [(0,.ptr 0 0),(2,.ptr 1 0),(4,.ptr 2 0),(5,.ptr 4 0)] [(0,.box (some bl) 61 [.dat (vstr r20.2.1.s_)]),(1,.box none 57 [.dat (vstr []),.dat (vnil),.dat (vint 0)]),(2,.box none 57 [.dat (vstr r20.2.2.1.Words),.row 5 r20.2.2.1.Params.length,.dat (vint r20.2.2.1.Quality)]),(5,.row 102 2 (List.map qy r20.2.2.1.Params)),(4,.box none 4 [.dat (zf r20.2.2.2)])] ⟨Z,Z,Z,Z,U⟩ ⟨Z,Z,Z,Z,Z,U⟩ Z Z ⟨_,qb H,⟨Z,Z,Z,Z,U⟩,⟨Z,Z,Z,Z,Z,U⟩⟩
theorem y4y (x1:zj) (r:(Bool)) (H:z0w x1=some r):Fn Tryz.prog 36 [vagg (yk x1)] (zr [zf r]):=by
 refine ⟨by kernel_rfl,yh (us:=[zf r]) Tryz.func36 Z Z Z Z fun X hN => ?_⟩
 unfold z0w at H
 refine zb hN Z (zq (z0d 1 Z) Z (qe Z (zb hN Z (za (zp Yc Z) (yc (zy Yb Z Z) Z (za (qo z6x Z) (za (qs Z Z) (qe Z (zi ?_)))))))))
 cases H
 exact ⟨U,.inl Z,U⟩
theorem y4z (v1:Bs) (r:((List zj)×Int)) (H:z0x v1=some r):Fn Tryz.prog 19 [vstr v1] (zr [vlst (List.map yk r.1),vint r.2]):=by
 refine ⟨by kernel_rfl,yh (us:=[vlst (List.map yk r.1),vint r.2]) Tryz.func19 Z Z Z Z fun X hN => ?_⟩
 unfold z0x at H
 refine zb hN Z (qe Z (qe Z (zh (zb hN Z (qd Z (bE H fun r2 h3 H=>za (zn (y40 v1 r2 h3) ⟨.inl Z,U⟩) (za (yy Z) (zg _ Z (fun h4 => ?_) (fun h4 => ?_)))))))))
 ·refine tE h4 H fun H=>zb hN Z (qe Z (qe Z (zi ?_)))
  cases H
  exact ⟨U,.inr ⟨Z,Z⟩,.inl Z,U⟩
 ·refine fE h4 H fun H=>zl (zb hN Z (qd Z (za (ym (u':=vagg (ja (zx.mk v1))) (xa [(0,[vstr v1])] y0l y0o Z ⟨Z,.inl ⟨_,Z,Z,Z⟩,Z,U⟩) Z) (zq (z0d 1 Z) Z (za (wu (.ptr _ _) Z) (zb hN Z (qe Z (zw (ι:=(List zj)) (fun i=>[(5,.row 2 i.length)]) (fun i=>[(2,.row 57 3 (List.map yk i))]) (fun i=>We i=some r) (fun i=>Z) ?_ ?_))))))))
  ·skip
   refine zb hN Z (za (ze (.ptr _ _) Z) (bE H fun r5 h6 H=>zq (yn (z3a (zx.mk v1) r5 h6) Z U Z) Z (ye (Zy 5 2 57 3 Z Z Z (jk (fun (s:Bs×(List zj))=>[(4,.ptr 1 0),(5,.row 2 s.2.length)]) (fun (s:Bs×(List zj))=>[(1,.box none 61 [.dat (vstr s.1)]),(2,.row 57 3 (List.map yk s.2))]) (r5.s_,[]) H ⟨Z,Z,U⟩ ⟨Z,Z,U⟩ (fun _=>Z) ?_)))))
   rintro ⟨c7,l8⟩ q9 H hq9
   replace H:jj c7 l8=some q9:=H
   unfold jj at H
   refine zh (zb hN Z (za (ze (.ptr _ _) Z) (za (zv Z) (za (zp yz Z) (yc (zy tyS9 Z Z) Z (za (jw Z Z) (zg _ Z (fun h10 => ?_) (fun h10 => ?_))))))))
   ·refine tE h10 H fun H=>zl (zw (ι:=(List zj)×Bs) (fun i=>[(4,.ptr 1 0),(5,.row 2 i.1.length)]) (fun i=>[(1,.box none 61 [.dat (vstr i.2)]),(2,.row 57 3 (List.map yk i.1))]) (fun i=>jr i.1 i.2=some q9) (fun i=>Z) ?_ ?_)
    ·skip
     refine ye (zh (zb hN Z (za (ze (.ptr _ _) Z) (za (zv Z) (za (zp yz Z) (yc (zy tyS9 Z Z) Z (bE H fun x11 h12 H=>za (yv tyU9 Z Z h12) (za (yl Z Z) (zg _ Z (fun h13 => ?_) (fun h13 => ?_))))))))))
     ·exact tE h13 H fun H=>zb hN Z (za (ze (.ptr _ _) Z) (za (ze (.ptr _ _) Z) (za (zv Z) (za (zp yz Z) (yc (zy tyS9 Z Z) Z (bE H fun l14 h15 H=>za (qc tyU9 Z Z Z h15) (za (zv Z) (za (zp yz Z) (zq (qg tyS9 Z Z Z Z) Z (yu ⟨(l8,l14),H,⟨Z,Z,U⟩,⟨Z,Z,U⟩⟩))))))))))
     ·refine fE h13 H fun H=>zl (zb hN Z (za (ze (.ptr _ _) Z) (bE H fun r16 h17 H=>zq (yn (y4v (zx.mk c7) r16 h17) Z U Z) Z (qd Z (za (yd Z Z) (za (yd Z Z) (zq (kk 3 ki Z) Z (zq (kj qz Z Z Z Z) Z (qe Z (zh (zw (ι:=Bool) (fun i=>[(4,.ptr 1 0),(5,.row 2 l8.length),(6,.ptr 3 0),(58,.dat (zf i))]) (fun i=>[(1,.box none 61 [.dat (vstr r16.2.2.s_)]),(2,.row 57 3 (List.map yk l8)),(3,.box none 57 [.dat (vstr r16.1.Words),.dat (vlst (List.map qy r16.1.Params)),.dat (vint r16.1.Quality)])]) (fun i=>Zt l8 r16 i=some q9) (fun i=>Z) ?_ ?_)))))))))))
      ·skip
       refine zm hN Z (qd Z (za (yy Z) (qd Z (zz (j:=2) Z Z (fun h18 => ?_) (fun h18 => ?_) Z))))
       ·refine u3 h18 H fun h19 H=>zd Z Z h18 (ze (.ptr _ _) Z) (zd Z Z h18 (zv Z) (zd Z Z h18 (zp yz Z) (wo Z Z h18 (zy tyS9 Z Z) Z (zd Z Z h18 (jw Z Z) (zd Z Z h18 (ze (.dat _) Z) (zz (j:=8) Z Z (fun h20 => ?_) (fun h20 => ?_) Z))))))
        ·exact u1 h20 H fun h21 H=>zd Z Z h20 (ze (.ptr _ _) Z) (zd Z Z h20 (zv Z) (zd Z Z h20 (zp yz Z) (wo Z Z h20 (zy tyS9 Z Z) Z (bE H fun x22 h23 H=>zd Z Z h20 (yv tyU9 Z Z h23) (zd Z Z h20 (vq Z Z) (zd Z Z h18 (zu Z (bTT h21) Z) (za (zo Z (bFF h19) Z) ⟨decide ((x22.toNat:Int)≠44),H,⟨Z,Z,Z,Z,U⟩,⟨Z,Z,Z,U⟩⟩)))))))
        ·exact u2 h20 H fun h24 H=>zc Z Z h20 (zc Z Z h20 (zc Z Z h20 (zc Z Z h20 (zc Z Z h20 (zc Z Z h20 (zd Z Z h18 (zo Z (bFF h24) Z) (za (zo Z (bFF h19) Z) ⟨false,H,⟨Z,Z,Z,Z,U⟩,⟨Z,Z,Z,U⟩⟩)))))))
       ·exact u4 h18 H fun h25 H=>zc Z Z h18 (zc Z Z h18 (zc Z Z h18 (zc Z Z h18 (zc Z Z h18 (zc Z Z h18 (zt Z Z (zt Z Z (zt Z Z (zt Z Z (zt Z Z (zt Z Z (zc Z Z h18 (za (zu Z (bTT h25) Z) ⟨true,H,⟨Z,Z,Z,Z,U⟩,⟨Z,Z,Z,U⟩⟩)))))))))))))
      ·rintro v26 H
       replace H:Zt l8 r16 v26=some q9:=H
       unfold Zt at H
       refine zg _ Z (fun h27 => ?_) (fun h27 => ?_)
       ·refine tE h27 H fun H=>zb hN Z (qe Z (qe Z (zi ?_)))
        replace H:=retl H hq9
        cases H
        exact ⟨U,.inr ⟨Z,Z⟩,.inl Z,U⟩
       ·refine fE h27 H fun H=>zl (zm hN Z (za (ze (.row _ _) Z) (yc (z0b qz Z Z Z) Z (za (ym (u':=vlst (List.map yk [r16.1])) (wa [_] z1t ⟨Z,.inr Z,Z,U⟩ Z Z) Z) (gE H fun h28 H=>zq (vo z1t (fun _=>Z) Z Z Z ⟨by simp,by first | (simp; done) | simpa using h28⟩ Z) Z ?_)))))
        exact za (wu (.row _ _) Z) ⟨((l8++[r16.1]),r16.2.2.s_),H,⟨Z,Z,U⟩,⟨Z,Z,U⟩⟩
    ·rintro ⟨v29,c30⟩ H
     replace H:jr v29 c30=some q9:=H
     unfold jr at H
     exact zm hN Z (za (ze (.ptr _ _) Z) (bE H fun r31 h32 H=>zq (yn (z3a (zx.mk c30) r31 h32) Z U Z) Z ⟨_,qb H,⟨Z,Z,U⟩,⟨Z,Z,U⟩⟩))
   ·refine fE h10 H fun H=>yu ?_
    replace H:=outl H hq9
    exact ⟨l8,H,⟨Z,U⟩,⟨Z,U⟩⟩
  ·rintro v33 H
   replace H:We v33=some r:=H
   unfold We at H
   refine zh (zw (ι:=Bool) (fun i=>[(5,.dat (vlst (List.map yk v33))),(69,.dat (zf i))]) (fun i=>[]) (fun i=>Wd v33 i=some r) (fun i=>Z) ?_ ?_)
   ·skip
    refine Ye 5 2 Z Z Z (zm hN Z (qd Z (za (qo ut Z) (za (qs Z Z) (qd Z (zz (j:=3) Z Z (fun h34 => ?_) (fun h34 => ?_) Z))))))
    ·exact u3 h34 H fun h35 H=>zd Z Z h34 (ze (.dat _) Z) (bE H fun r36 h37 H=>zd Z Z h34 (z12 (z8s v33 (fun (a0:zj)=>z0w a0) 36 [] (fun a0 r h=>y4y a0 r h) r36 h37) ⟨.inl (.inl Z),.inr ⟨_,Z,Z⟩,U⟩) (za (zo Z (bFF h35) Z) ⟨r36,H,⟨Z,Z,U⟩,U⟩))
    ·exact u4 h34 H fun h38 H=>zc Z Z h34 (zc Z Z h34 (za (zu Z (bTT h38) Z) ⟨true,H,⟨Z,Z,U⟩,U⟩))
   ·rintro v39 H
    replace H:Wd v33 v39=some r:=H
    unfold Wd at H
    refine zg _ Z (fun h40 => ?_) (fun h40 => ?_)
    ·refine tE h40 H fun H=>zb hN Z (qe Z (qe Z (zi ?_)))
     cases H
     exact ⟨U,.inr ⟨Z,Z⟩,.inl Z,U⟩
    ·refine fE h40 H fun H=>zl (zb hN Z (qd Z (qe Z (qe Z (zi ?_)))))
     cases H
     exact ⟨U,.inl Z,.inl Z,U⟩
theorem y4w (l1:(List zj)) (offers2:(List Bs)) (p2:Bs→Bs→Option (Int)) (fv2:Nat) (us2:List V) (hp2:∀ a0 a1 r,p2 a0 a1=some r→Fn Tryz.prog fv2 ([vstr a0,vstr a1]++us2) (zr [vint r])) (r:(Int×Int)) (H:z0v l1 offers2 p2=some r):Fn Tryz.prog 22 [vlst (List.map yk l1),vlst (List.map yb offers2),vfn fv2 us2] (zr [vint r.1,vint r.2]):=by
 refine ⟨by kernel_rfl,yh (us:=[vint r.1,vint r.2]) Tryz.func22 Z Z Z Z fun X hN => ?_⟩
 unfold z0v at H
 refine zb hN Z (qe Z (qe Z (zb hN Z (qe Z (qe Z (zh (zb hN Z (qd Z (za (qo jl Z) (qd Z (ye (gE H fun h7 H=>ve (fun (k5:Nat) (s:Int×Int)=>[(0,.dat (vlst (List.map yk l1))),(2,.dat (vfn fv2 us2)),(8,.dat (vint s.1)),(9,.dat (vint s.2)),(17,.dat (vlst (List.map yb offers2))),(18,.dat (vint (offers2.length:Int))),(19,.dat (vint (k5:Int)))]) (fun (k5:Nat) (s:Int×Int)=>[]) (0,(-1)) H ⟨Z,Z,Z,Z,Z,Z,Z,U⟩ U (fun _ _=>Z) ?_ ?_))))))))))))
 ·rintro ⟨best3,taken4⟩ H
  replace H:Zq best3 taken4=some r:=H
  unfold Zq at H
  refine zb hN Z (za (yf Z Z) (zh (zg _ Z (fun h=>(lt_t h).elim) (fun h => ?_))))
  refine yu (zh (zb hN Z (qd Z (za (yf Z Z) (zg _ Z (fun h9 => ?_) (fun h9 => ?_))))))
  ·refine tE h9 H fun H=>zb hN Z (qe Z (qe Z (zi ?_)))
   cases H
   exact ⟨U,.inl Z,.inl Z,U⟩
  ·refine fE h9 H fun H=>zl (zb hN Z (qd Z (qe Z (qe Z (zi ?_)))))
   cases H
   exact ⟨U,.inl Z,.inl Z,U⟩
 ·rintro k5 x8 ⟨best3,taken4⟩ q6 h10 h11 H hq6
  replace H:ji l1 p2 k5 x8 best3 taken4=some q6:=H
  unfold ji at H
  refine zb hN Z (za (yf Z Z) (zh (zg _ Z (fun h => ?_) (fun h=>(lt_f h10 h).elim))))
  refine zl (zw (ι:=Int×Int) (fun i=>[(0,.dat (vlst (List.map yk l1))),(2,.dat (vfn fv2 us2)),(8,.dat (vint i.1)),(9,.dat (vint i.2)),(17,.dat (vlst (List.map yb offers2))),(18,.dat (vint (offers2.length:Int))),(19,.dat (vint (k5:Int)))]) (fun i=>[]) (fun i=>Qz i.1 i.2=some q6) (fun i=>Z) ?_ ?_)
  ·skip
   refine ye (zb hN Z (qd Z (za (jv uw (fun _=>Z) Z Z h11) (za (vr tyS9 Z (vx h11) Z) (qe Z (qe Z (zb hN Z (qe Z (qe Z (zh (zb hN Z (qd Z (za (qo ut Z) (qd Z (ye (gE H fun h16 H=>ve (fun (k14:Nat) (s:Int×Int)=>[(0,.dat (vlst (List.map yk l1))),(2,.dat (vfn fv2 us2)),(8,.dat (vint best3)),(9,.dat (vint taken4)),(10,.dat (vint (k5:Int))),(11,.dat (vstr x8)),(12,.dat (vint s.1)),(13,.dat (vint s.2)),(17,.dat (vlst (List.map yb offers2))),(18,.dat (vint (offers2.length:Int))),(19,.dat (vint (k5:Int))),(24,.dat (vlst (List.map yk l1))),(25,.dat (vint (l1.length:Int))),(26,.dat (vint (k14:Int)))]) (fun (k14:Nat) (s:Int×Int)=>[]) (0,0) H ⟨Z,Z,Z,Z,Z,Z,Z,Z,Z,Z,Z,Z,Z,Z,U⟩ U (fun _ _=>Z) ?_ ?_))))))))))))))))
   ·rintro ⟨q12,most13⟩ H
    replace H:z3i l1 best3 taken4 k5 q12 most13=some q6:=H
    unfold z3i at H
    refine zb hN Z (za (yf Z Z) (zh (zg _ Z (fun h=>(lt_t h).elim) (fun h => ?_))))
    refine yu (zw (ι:=Int) (fun i=>[(0,.dat (vlst (List.map yk l1))),(2,.dat (vfn fv2 us2)),(8,.dat (vint best3)),(9,.dat (vint taken4)),(10,.dat (vint (k5:Int))),(12,.dat (vint i)),(17,.dat (vlst (List.map yb offers2))),(18,.dat (vint (offers2.length:Int))),(19,.dat (vint (k5:Int)))]) (fun i=>[]) (fun i=>Qy best3 taken4 k5 i=some q6) (fun i=>Z) ?_ ?_)
    ·skip
     refine zb hN Z (qd Z (za (qo ut Z) (za (yl Z Z) (zg _ Z (fun h18 => ?_) (fun h18 => ?_)))))
     ·exact tE h18 H fun H=>zm hN Z (qe Z ⟨1000,H,⟨Z,Z,Z,Z,Z,Z,Z,Z,Z,U⟩,U⟩)
     ·exact fE h18 H fun H=>zl ⟨q12,H,⟨Z,Z,Z,Z,Z,Z,Z,Z,Z,U⟩,U⟩
    ·rintro q19 H
     replace H:Qy best3 taken4 k5 q19=some q6:=H
     unfold Qy at H
     refine zb hN Z (qd Z (qd Z (za (qs Z Z) (zg _ Z (fun h20 => ?_) (fun h20 => ?_)))))
     ·exact tE h20 H fun H=>zm hN Z (qd Z (qd Z (qe Z (qe Z ⟨(q19,(k5:Int)),H,⟨Z,Z,Z,Z,Z,Z,Z,U⟩,U⟩))))
     ·exact fE h20 H fun H=>zl ⟨(best3,taken4),H,⟨Z,Z,Z,Z,Z,Z,Z,U⟩,U⟩
   ·rintro k14 x17 ⟨q12,most13⟩ q15 h21 h22 H hq15
    replace H:Zp p2 x8 k14 x17 q12 most13=some q15:=H
    unfold Zp at H
    refine zb hN Z (za (yf Z Z) (zh (zg _ Z (fun h => ?_) (fun h=>(lt_f h21 h).elim))))
    refine zl (zw (ι:=Int×Int) (fun i=>[(0,.dat (vlst (List.map yk l1))),(2,.dat (vfn fv2 us2)),(8,.dat (vint best3)),(9,.dat (vint taken4)),(10,.dat (vint (k5:Int))),(11,.dat (vstr x8)),(12,.dat (vint i.1)),(13,.dat (vint i.2)),(17,.dat (vlst (List.map yb offers2))),(18,.dat (vint (offers2.length:Int))),(19,.dat (vint (k5:Int))),(24,.dat (vlst (List.map yk l1))),(25,.dat (vint (l1.length:Int))),(26,.dat (vint (k14:Int)))]) (fun i=>[]) (fun i=>Qx i.1 i.2=some q15) (fun i=>Z) ?_ ?_)
    ·skip
     refine ye (zb hN Z (za (jv z33 (fun _=>Z) Z Z h22) (za (z4f qz Z (vx h22) Z) (zq (kk 1 ki Z) Z (zq (kj qz Z Z Z Z) Z (zb hN Z (qd Z (za (zp Wr Z) (yc (zy tyS9 Z Z) Z (bE H fun r23 h24 H=>za (zn (z26 x17.Words r23 h24) ⟨.inl Z,U⟩) (qd Z (bE H fun r25 h26 H=>za (zn (z26 x8 r25 h26) ⟨.inl Z,U⟩) (bE H fun r27 h28 H=>za (z4h (hp2 r23 r25 r27 h28) Z ⟨.inl Z,.inl Z,U⟩) (qe Z (zb hN Z (qd Z (qd Z (za (qs Z Z) (zg _ Z (fun h29 => ?_) (fun h29 => ?_))))))))))))))))))))
     ·exact tE h29 H fun H=>zm hN Z (za (zp z1v Z) (yc (zy tyS3 Z Z) Z (qd Z (qe Z (qe Z ⟨(x17.Quality,r27),H,⟨Z,Z,Z,Z,Z,Z,Z,Z,Z,Z,Z,Z,Z,Z,U⟩,U⟩)))))
     ·exact fE h29 H fun H=>zl ⟨(q12,most13),H,⟨Z,Z,Z,Z,Z,Z,Z,Z,Z,Z,Z,Z,Z,Z,U⟩,U⟩
    ·rintro ⟨q30,most31⟩ H
     replace H:Qx q30 most31=some q15:=H
     unfold Qx at H
     exact zm hN Z (za (wk Z Z (by omega)) (qd Z ⟨_,qb H,⟨Z,Z,Z,Z,Z,Z,Z,Z,Z,Z,Z,Z,Z,Z,U⟩,U⟩))
  ·rintro ⟨best32,taken33⟩ H
   replace H:Qz best32 taken33=some q6:=H
   unfold Qz at H
   exact zm hN Z (za (wk Z Z (by omega)) (qd Z ⟨_,qb H,⟨Z,Z,Z,Z,Z,Z,Z,U⟩,U⟩))
theorem y4x (words1:Bs) (offer2:Bs) (c3:Bool) (r:(Int)) (H:ko words1 offer2 c3=some r):Fn Tryz.prog 23 [vstr words1,vstr offer2,jt [[zf c3]] 0 0] (zr [vint r]):=by
 refine ⟨by kernel_rfl,yh (us:=[vint r]) Tryz.func23 Z Z Z Z fun X hN => ?_⟩
 unfold ko at H
 refine zb hN Z (qe Z (zb hN Z (qd Z (bE H fun r4 h5 H=>za (zn (Ql offer2 [47] r4 h5) ⟨.inl Z,.inl Z,U⟩) (qd Z (za (yd Z Z) (za (yd Z Z) (za (yd Z Z) (qe Z (qe Z (qe Z (zh (ye (zb hN Z (qd Z (qd Z (za (ql Z Z) (qe Z (zg _ Z (fun h6 => ?_) (fun h6 => ?_))))))))))))))))))))
 ·refine tE h6 H fun H=>zb hN Z (qe Z (zi ?_))
  cases H
  exact ⟨U,.inl Z,U⟩
 ·refine fE h6 H fun H=>zw (ι:=Bool) (fun i=>[(0,.dat (vstr words1)),(2,.dat (jt [[zf c3]] 0 0)),(19,.dat (zf i))]) (fun i=>[]) (fun i=>Zs words1 c3 i=some r) (fun i=>Z) ?_ ?_
  ·skip
   refine zm hN Z (za (vr tyS4 Z Z Z) (qd Z (zz (j:=1) Z Z (fun h7 => ?_) (fun h7 => ?_) Z)))
   ·exact u1 h7 H fun h8 H=>zd Z Z h7 (ze (.dat _) Z) (zd Z Z h7 (ze (.dat _) Z) (gE H fun h9 H=>zd Z Z h7 (vp Z Z (Nat.le_trans h9 (by decide))) (zd Z Z h7 (ql Z Z) (za (zu Z (bTT h8) Z) (qe Z ⟨decide (words1=(r4.1++[47,42])),H,⟨Z,Z,Z,U⟩,U⟩)))))
   ·exact u2 h7 H fun h10 H=>zc Z Z h7 (zc Z Z h7 (zc Z Z h7 (zc Z Z h7 (za (zo Z (bFF h10) Z) (qe Z ⟨false,H,⟨Z,Z,Z,U⟩,U⟩)))))
  ·rintro v11 H
   replace H:Zs words1 c3 v11=some r:=H
   unfold Zs at H
   refine zg _ Z (fun h12 => ?_) (fun h12 => ?_)
   ·refine tE h12 H fun H=>zb hN Z (qe Z (zi ?_))
    cases H
    exact ⟨U,.inl Z,U⟩
   ·refine fE h12 H fun H=>zb hN Z (za (vr tyS4 Z Z Z) (qd Z (yp Z Z (fun hc=>ze (.dat _) Z) (yp Z Z (fun hc=>ql (cnd (c:=c3) hc) Z) (za (qp Z (fun hb=>(cnd (c:=c3) hb)) Z) (qd Z (yr Z Z (fun hc=>vr tyS4 Z Z Z) (yr Z Z (fun hc=>yy (cnd (c:=(!(c3 && (decide (words1=[42,47,42]))))) hc)) (yr Z Z (fun hc=>ze (.dat _) (cnd (c:=(!(c3 && (decide (words1=[42,47,42]))))) hc)) (wv Z Z (fun hc=>ze (.dat _) Z) (wv Z Z (fun hc=>ql (cnd (c:=((!(c3 && (decide (words1=[42,47,42])))) && (!c3))) hc) Z) (yr Z Z (fun hc=>qp (cnd (c:=(!(c3 && (decide (words1=[42,47,42]))))) hc) (fun hb=>(cnd (c:=((!(c3 && (decide (words1=[42,47,42])))) && (!c3))) (andI hc hb))) Z) (za (vc Z Z (fun hb=>(cnd (c:=(!(c3 && (decide (words1=[42,47,42]))))) (notI hb)))) (qe Z (zg _ Z (fun h13 => ?_) (fun h13 => ?_))))))))))))))))
    ·refine tE h13 H fun H=>zb hN Z (qe Z (zi ?_))
     cases H
     exact ⟨U,.inl Z,U⟩
    ·refine fE h13 H fun H=>zl (zb hN Z (qe Z (zi ?_)))
     cases H
     exact ⟨U,.inl Z,U⟩
theorem z82 (accept1:Bs) (offers2:(List Bs)) (types3:Bool) (r:(Int×Int)) (H:ui accept1 offers2 types3=some r):Fn Tryz.prog 7 [vstr accept1,vlst (List.map yb offers2),zf types3] (zr [vint r.1,vint r.2]):=by
 refine ⟨by kernel_rfl,yh (us:=[vint r.1,vint r.2]) Tryz.func7 Z Z Z Z fun X hN => ?_⟩
 unfold ui at H
 refine zb hN Z (zq (y1s 1 Z Z) Z (qe Z (qe Z (zb hN Z (qd Z (bE H fun r4 h5 H=>za (zn (y4z accept1 r4 h5) ⟨.inl Z,U⟩) (qd Z (za (yd Z Z) (za (yd Z Z) (qe Z (qe Z (zh (zb hN Z (qd Z (za (vq Z Z) (zg _ Z (fun h6 => ?_) (fun h6 => ?_)))))))))))))))))
 ·refine tE h6 H fun H=>zb hN Z (qd Z (qe Z (qe Z (zi ?_))))
  cases H
  exact ⟨U,.inl Z,.inl Z,U⟩
 ·refine fE h6 H fun H=>zl (zh (zb hN Z (qd Z (za (qo jl Z) (za (qs Z Z) (zg _ Z (fun h7 => ?_) (fun h7 => ?_)))))))
  ·refine tE h7 H fun H=>zb hN Z (qe Z (qe Z (zi ?_)))
   cases H
   exact ⟨U,.inl Z,.inl Z,U⟩
  ·refine fE h7 H fun H=>zl (zh (zb hN Z (qd Z (za (qo jl Z) (qd Z (ye (gE H fun h10 H=>ve (fun (k8:Nat) (s:Unit)=>[(1,.dat (vlst (List.map yb offers2))),(5,.ptr 1 0),(8,.dat (vlst (List.map yk r4.1))),(23,.dat (vlst (List.map yb offers2))),(24,.dat (vint (offers2.length:Int))),(25,.dat (vint (k8:Int)))]) (fun (k8:Nat) (s:Unit)=>[(1,.box none 4 [.dat (zf types3)])]) () H ⟨Z,Z,Z,Z,Z,Z,U⟩ ⟨Z,U⟩ (fun _ _=>Z) ?_ ?_)))))))
   ·rintro ⟨⟩ H
    replace H:Wc offers2 types3 r4=some r:=H
    unfold Wc at H
    refine zb hN Z (za (yf Z Z) (zh (zg _ Z (fun h=>(lt_t h).elim) (fun h => ?_))))
    refine yu (zh (y6g 1 [zf types3] Z Z (zm hN Z (qd Z (qd Z (za (y1h (us:=[_]) ⟨Z,U⟩) (bE H fun r12 h13 H=>za (zn (y4w r4.1 offers2 (fun (a0:Bs) (a1:Bs)=>ko a0 a1 types3) 23 [jt [[zf types3]] 0 0] (fun a0 a1 r h=>y4x a0 a1 types3 r h) r12 h13) ⟨.inl Z,.inl Z,.inl Z,U⟩) (za (yd Z Z) (za (yd Z Z) (qe Z (qe Z (zi ?_))))))))))))
    cases H
    exact ⟨U,.inl Z,.inl Z,U⟩
   ·rintro k8 x11 ⟨⟩ q9 h14 h15 H hq9
    replace H:Wb types3 k8 x11=some q9:=H
    unfold Wb at H
    refine zb hN Z (za (yf Z Z) (zh (zg _ Z (fun h => ?_) (fun h=>(lt_f h14 h).elim))))
    refine zl (zh (ye (zb hN Z (za (jv uw (fun _=>Z) Z Z h15) (za (vr tyS9 Z (vx h15) Z) (qe Z (zw (ι:=Bool) (fun i=>[(1,.dat (vlst (List.map yb offers2))),(5,.ptr 1 0),(8,.dat (vlst (List.map yk r4.1))),(23,.dat (vlst (List.map yb offers2))),(24,.dat (vint (offers2.length:Int))),(25,.dat (vint (k8:Int))),(41,.dat (zf i))]) (fun i=>[(1,.box none 4 [.dat (zf types3)])]) (fun i=>Zr i=some q9) (fun i=>Z) ?_ ?_)))))))
    ·skip
     refine wh mixed hN Z Z (qd Z (bE H fun r16 h17 H=>za (zn (z81 x11 r16 h17) ⟨.inl Z,U⟩) (za (yy Z) (qd Z (zz (j:=3) Z Z (fun h18 => ?_) (fun h18 => ?_) Z)))))
     ·refine u3 h18 H fun h19 H=>zd Z Z h18 (ze (.dat _) Z) (bE H fun r20 h21 H=>zd Z Z h18 (zn (z28 x11 [47] r20 h21) ⟨.inl Z,.inl Z,U⟩) (wo Z Z h18 (zy tyS4 Z Z) Z (zd Z Z h18 (z7i tyU4 Z Z) (za (zo Z (bFF h19) Z) (qd Z (zz (j:=9) Z Z (fun h22 => ?_) (fun h22 => ?_) Z))))))
      ·refine u3 h22 H fun h23 H=>zd Z Z h22 (ze (.dat _) Z) (bE H fun r24 h25 H=>zd Z Z h22 (zn (z28 x11 [42] r24 h25) ⟨.inl Z,.inl Z,U⟩) (za (zo Z (bFF h23) Z) ⟨Z,?_⟩))
       exact ⟨r24,H,⟨Z,Z,Z,Z,Z,Z,Z,U⟩,⟨Z,U⟩⟩
      ·refine u4 h22 H fun h26 H=>zc Z Z h22 (zc Z Z h22 (za (zu Z (bTT h26) Z) ⟨Z,?_⟩))
       exact ⟨true,H,⟨Z,Z,Z,Z,Z,Z,Z,U⟩,⟨Z,U⟩⟩
     ·refine u4 h18 H fun h27 H=>zc Z Z h18 (zc Z Z h18 (zc Z Z h18 (zc Z Z h18 (za (zu Z (bTT h27) Z) (qd Z (zc Z Z Z (zc Z Z Z (za (zu Z Z Z) ⟨Z,?_⟩))))))))
      exact ⟨true,H,⟨Z,Z,Z,Z,Z,Z,Z,U⟩,⟨Z,U⟩⟩
    ·rintro v28 H
     replace H:Zr v28=some q9:=H
     unfold Zr at H
     refine zg _ Z (fun h29 => ?_) (fun h29 => ?_)
     ·refine tE h29 H fun H=>zb hN Z (qe Z (qe Z (zi ?_)))
      replace H:=retl H hq9
      cases H
      exact ⟨U,.inl Z,.inl Z,U⟩
     ·exact fE h29 H fun H=>zl (zm hN Z (za (wk Z Z (by omega)) (qd Z ⟨_,qb H,⟨Z,Z,Z,Z,Z,Z,U⟩,⟨Z,U⟩⟩)))
theorem y3z (s t:Bs) (r:Bool) (H:z0m s t=some r):Fn Tryz.prog 40 [vstr s,vstr t] (zr [zf r]):=by
 unfold z0m at H
 obtain ⟨⟨h1,h2,h3⟩,h4⟩:=gif H
 cases h4
 refine kf (by kernel_rfl) fun M w vs hM h => ?_
 have hv:=vz (us:=[.string ⟨s.toArray⟩,.string ⟨t.toArray⟩]) h
 subst hv
 refine (Tryz.strings_EqualFold ⟨s.toArray⟩ ⟨t.toArray⟩ w (by simp [ByteArray.size]; omega) (fun j b hb=>uo h2 j b (by simpa using hb)) (fun j b hb=>uo h3 j b (by simpa using hb))).mono ?_
 rintro e w' ⟨rfl,rfl⟩
 exact ⟨_,Z,Z,Kp.refl _ _⟩

theorem y33 (words1:Bs) (offer2:Bs) (r:(Int)) (H:xu words1 offer2=some r):Fn Tryz.prog 25 [vstr words1,vstr offer2] (zr [vint r]):=by
 refine ⟨by kernel_rfl,yh (us:=[vint r]) Tryz.func25 Z Z Z Z fun X hN => ?_⟩
 unfold xu at H
 refine zb hN Z (qe Z (zh (zb hN Z (qd Z (qd Z (bE H fun r3 h4 H=>za (zn (y3z words1 offer2 r3 h4) ⟨.inl Z,.inl Z,U⟩) (zg _ Z (fun h5 => ?_) (fun h5 => ?_))))))))
 ·refine tE h5 H fun H=>zb hN Z (qe Z (zi ?_))
  cases H
  exact ⟨U,.inl Z,U⟩
 ·refine fE h5 H fun H=>zl (zh (zb hN Z (qd Z (za (ql Z Z) (zg _ Z (fun h6 => ?_) (fun h6 => ?_))))))
  ·refine tE h6 H fun H=>zb hN Z (qe Z (zi ?_))
   cases H
   exact ⟨U,.inl Z,U⟩
  ·refine fE h6 H fun H=>zl (zb hN Z (qe Z (zi ?_)))
   cases H
   exact ⟨U,.inl Z,U⟩
theorem y4f (accept1:Bs) (offers2:(List Bs)) (r:(Int×Int)) (H:z2r accept1 offers2=some r):Fn Tryz.prog 8 [vstr accept1,vlst (List.map yb offers2)] (zr [vint r.1,vint r.2]):=by
 refine ⟨by kernel_rfl,yh (us:=[vint r.1,vint r.2]) Tryz.func8 Z Z Z Z fun X hN => ?_⟩
 unfold z2r at H
 refine zb hN Z (qe Z (qe Z (zb hN Z (qd Z (qd Z (bE H fun r3 h4 H=>za (zn (z8t accept1 offers2 false r3 h4) ⟨.inl Z,.inl Z,.inl Z,U⟩) (qd Z (za (yd Z Z) (za (yd Z Z) (qe Z (qe Z (zh (zb hN Z (qd Z (za (vq Z Z) (zg _ Z (fun h5 => ?_) (fun h5 => ?_)))))))))))))))))
 ·refine tE h5 H fun H=>zb hN Z (qd Z (qe Z (qe Z (zi ?_))))
  cases H
  exact ⟨U,.inl Z,.inl Z,U⟩
 ·refine fE h5 H fun H=>zl (zb hN Z (qd Z (qd Z (bE H fun r6 h7 H=>za (z12 (z8y r3.1 offers2 (fun (a0:Bs) (a1:Bs)=>xu a0 a1) 25 [] (fun a0 a1 r h=>y33 a0 a1 r h) r6 h7) ⟨.inl (.inl Z),.inl (.inl Z),.inr ⟨_,Z,Z⟩,U⟩) (za (yd Z Z) (za (yd Z Z) (qe Z (qe Z (zi ?_)))))))))
  cases H
  exact ⟨U,.inl Z,.inl Z,U⟩
theorem y30 (s p:Bs) (r:Bool) (H:z41 s p=some r):Fn Tryz.prog 70 [vstr s,vstr p] (zr [zf r]):=by
 unfold z41 at H
 obtain ⟨⟨⟨h1,h2⟩,h3,h4⟩,h5⟩:=gif H
 cases h5
 refine kf (by kernel_rfl) fun M w vs hM h => ?_
 have hv:=vz (us:=[.string ⟨s.toArray⟩,.string ⟨p.toArray⟩]) h
 subst hv
 refine (Tryz.strings_ContainsAny_laid ⟨s.toArray⟩ ⟨p.toArray⟩ w (by simp [ByteArray.size]; omega) (by simp [ByteArray.size]; omega) (fun j b hb=>uo h3 j b (by simpa using hb)) (fun j b hb=>uo h4 j b (by simpa using hb))).mono ?_
 rintro e w' ⟨rfl,hb⟩
 exact ⟨_,Z,Z,Kp.of_below hb⟩

theorem y4g (s1:Bs) (r:(Int)) (H:z2s s1=some r):Fn Tryz.prog 41 [vstr s1] (zr [vint r]):=by
 refine ⟨by kernel_rfl,yh (us:=[vint r]) Tryz.func41 Z Z Z Z fun X hN => ?_⟩
 unfold z2s at H
 refine zb hN Z (qe Z (zh (zw (ι:=Bool) (fun i=>[(19,.dat (zf i))]) (fun i=>[]) (fun i=>xn i=some r) (fun i=>Z) ?_ ?_)))
 ·skip
  refine zm hN Z (qd Z (za (yq tyU9 Z) (za (qs Z Z) (qd Z (zz (j:=3) Z Z (fun h2 => ?_) (fun h2 => ?_) Z)))))
  ·refine u3 h2 H fun h3 H=>zd Z Z h2 (ze (.dat _) Z) (bE H fun r4 h5 H=>zd Z Z h2 (zn (z27 s1 [47] r4 h5) ⟨.inl Z,.inl Z,U⟩) (zd Z Z h2 (yy Z) (za (zo Z (bFF h3) Z) (qd Z (zz (j:=8) Z Z (fun h6 => ?_) (fun h6 => ?_) Z)))))
   ·refine u3 h6 H fun h7 H=>zd Z Z h6 (ze (.dat _) Z) (bE H fun r8 h9 H=>zd Z Z h6 (zn (z8v s1 33 126 r8 h9) ⟨.inl Z,.inl Z,.inl Z,U⟩) (zd Z Z h6 (yy Z) (za (zo Z (bFF h7) Z) (qd Z (zz (j:=13) Z Z (fun h10 => ?_) (fun h10 => ?_) Z)))))
    ·exact u3 h10 H fun h11 H=>zd Z Z h10 (ze (.dat _) Z) (bE H fun r12 h13 H=>zd Z Z h10 (zn (y30 s1 [63,35] r12 h13) ⟨.inl Z,.inl Z,U⟩) (za (zo Z (bFF h11) Z) ⟨r12,H,⟨Z,U⟩,U⟩))
    ·exact u4 h10 H fun h14 H=>zc Z Z h10 (zc Z Z h10 (za (zu Z (bTT h14) Z) ⟨true,H,⟨Z,U⟩,U⟩))
   ·exact u4 h6 H fun h15 H=>zc Z Z h6 (zc Z Z h6 (zc Z Z h6 (za (zu Z (bTT h15) Z) (qd Z (zc Z Z Z (zc Z Z Z (za (zu Z Z Z) ⟨true,H,⟨Z,U⟩,U⟩)))))))
  ·exact u4 h2 H fun h16 H=>zc Z Z h2 (zc Z Z h2 (zc Z Z h2 (za (zu Z (bTT h16) Z) (qd Z (zc Z Z Z (zc Z Z Z (zc Z Z Z (za (zu Z Z Z) (qd Z (zc Z Z Z (zc Z Z Z (za (zu Z Z Z) ⟨true,H,⟨Z,U⟩,U⟩))))))))))))
 ·rintro v17 H
  replace H:xn v17=some r:=H
  unfold xn at H
  refine zg _ Z (fun h18 => ?_) (fun h18 => ?_)
  ·refine tE h18 H fun H=>zb hN Z (qe Z (zi ?_))
   cases H
   exact ⟨U,.inl Z,U⟩
  ·refine fE h18 H fun H=>zl (zb hN Z (qe Z (zi ?_)))
   cases H
   exact ⟨U,.inl Z,U⟩
theorem z8n (l1:(List Int)) (c2:Int) (r:(Int×(List Int))) (H:z2m l1 c2=some r):FnG Tryz.prog 54 [.ptr 0 0,.dat (vval (.int .u8 c2))] [(0,.box (some 0) 73 [.nptr 0,.row 1 l1.length]),(1,.row 5 1 (List.map yw l1))] (.dat (zr [verr r.1])) [(0,.box (some 0) 73 [.nptr 0,.row 900 r.2.length]),(900,.row 5 1 (List.map yw r.2))]:=by
 refine z5z (by kernel_rfl) Tryz.func54 Z Z Z Z fun X A hN => ?_
 refine we ?_
 unfold z2m at H
 refine zb hN Z (qe Z (zb hN Z (za (ze (.ptr _ _) Z) (zq (z7g z91 Z) Z (zb hN Z (za (ze (.ptr _ _) Z) (za (ze (.ptr _ _) Z) (za (zv Z) (za (zp z1u Z) (yc (zy z1q Z Z) Z (qd Z (za (ym (u':=vlst (List.map yw [c2])) (wa [[_]] uv ⟨Z,.inl ⟨_,Z,Z,Z⟩,Z,U⟩ Z Z) Z) (gE H fun h3 H=>zq (vo uv (fun _=>Z) Z Z Z ⟨by simp,by first | (simp; done) | simpa using h3⟩ Z) Z ?_)))))))))))))
 refine za (zv Z) (za (zp z1u Z) (z14 (z11 z1q Z Z (by rw [List.length_map]) Z) Z Z ?_))
 refine zb hN Z (qe Z (zi ?_))
 cases H
 show Cv _ _ _ _
 exact wn (rn [(1,900)]) [(4,.dat (verr 0))] [(0,.box (some (A.bl 0)) 73 [.nptr 0,.row 1 ((l1++[c2]).length)]),(1,.row 5 1 (List.map yw (l1++[c2])))] ⟨Z,U⟩ ⟨Z,Z,U⟩ Z Z ⟨U,[(4,.dat (verr 0))],⟨Z,U⟩,⟨Z,Z,U⟩,Z,.inl ⟨[verr 0],⟨Z,U⟩,Z⟩⟩
theorem z8x (c1:Int) (r:(Bool)) (H:z2q c1=some r):Fn Tryz.prog 106 [vval (.int .u8 c1)] (zr [zf r]):=by
 refine ⟨by kernel_rfl,yh (us:=[zf r]) Tryz.func106 Z Z Z Z fun X hN => ?_⟩
 unfold z2q at H
 refine zb hN Z (qe Z (zb hN Z (qd Z (bE H fun r2 h3 H=>za (zn (z5k c1 r2 h3) ⟨.inl Z,U⟩) (qd Z (yr Z Z (fun hc=>ze (.dat _) Z) (yr Z Z (fun hc=>wt (cnd (c:=(!r2)) hc) Z) (yr Z Z (fun hc=>ze (.dat _) (cnd (c:=(!r2)) hc)) (wv Z Z (fun hc=>ze (.dat _) Z) (wv Z Z (fun hc=>qr (cnd (c:=((!r2) && (decide (97≤c1)))) hc) Z) (yr Z Z (fun hc=>qp (cnd (c:=(!r2)) hc) (fun hb=>(cnd (c:=((!r2) && (decide (97≤c1)))) (andI hc hb))) Z) (za (vc Z Z (fun hb=>(cnd (c:=(!r2)) (notI hb)))) (qd Z (yr Z Z (fun hc=>ze (.dat _) Z) (yr Z Z (fun hc=>wt (cnd (c:=(!(r2 || ((decide (97≤c1)) && (decide (c1≤102)))))) hc) Z) (yr Z Z (fun hc=>ze (.dat _) (cnd (c:=(!(r2 || ((decide (97≤c1)) && (decide (c1≤102)))))) hc)) (wv Z Z (fun hc=>ze (.dat _) Z) (wv Z Z (fun hc=>qr (cnd (c:=((!(r2 || ((decide (97≤c1)) && (decide (c1≤102))))) && (decide (65≤c1)))) hc) Z) (yr Z Z (fun hc=>qp (cnd (c:=(!(r2 || ((decide (97≤c1)) && (decide (c1≤102)))))) hc) (fun hb=>(cnd (c:=((!(r2 || ((decide (97≤c1)) && (decide (c1≤102))))) && (decide (65≤c1)))) (andI hc hb))) Z) (za (vc Z Z (fun hb=>(cnd (c:=(!(r2 || ((decide (97≤c1)) && (decide (c1≤102)))))) (notI hb)))) (qe Z (zi ?_))))))))))))))))))))))
 cases H
 exact ⟨U,.inl Z,U⟩
theorem y4c (s1:Bs) (v2:Int) (r:(Bool)) (H:z5a s1 v2=some r):Fn Tryz.prog 71 [vstr s1,vint v2] (zr [zf r]):=by
 refine ⟨by kernel_rfl,yh (us:=[zf r]) Tryz.func71 Z Z Z Z fun X hN => ?_⟩
 unfold z5a at H
 refine zb hN Z (qe Z (zw (ι:=Bool) (fun i=>[(4,.dat (zf i))]) (fun i=>[]) (fun i=>Yo i=some r) (fun i=>Z) ?_ ?_))
 ·skip
  refine zm hN Z (qd Z (za (yo _ Z Z (.inl ⟨Z,Z⟩)) (qd Z (za (yq tyU9 Z) (za (yf Z Z) (qd Z (zz (j:=5) Z Z (fun h3 => ?_) (fun h3 => ?_) Z)))))))
  ·refine u1 h3 H fun h4 H=>zd Z Z h3 (ze (.dat _) Z) (zd Z Z h3 (ze (.dat _) Z) (zd Z Z h3 (yo _ Z Z (.inl ⟨Z,Z⟩)) (bE H fun x5 h6 H=>zd Z Z h3 (wc tyU9 Z Z h6) (bE H fun r7 h8 H=>zd Z Z h3 (zn (z8x (x5.toNat:Int) r7 h8) ⟨.inl Z,U⟩) (za (zu Z (bTT h4) Z) (qd Z (zz (j:=12) Z Z (fun h9 => ?_) (fun h9 => ?_) Z)))))))
   ·exact u1 h9 H fun h10 H=>zd Z Z h9 (ze (.dat _) Z) (zd Z Z h9 (ze (.dat _) Z) (zd Z Z h9 (yo _ Z Z (.inl ⟨Z,Z⟩)) (bE H fun x11 h12 H=>zd Z Z h9 (wc tyU9 Z Z h12) (bE H fun r13 h14 H=>zd Z Z h9 (zn (z8x (x11.toNat:Int) r13 h14) ⟨.inl Z,U⟩) (za (zu Z (bTT h10) Z) (qe Z ⟨r13,H,⟨Z,U⟩,U⟩))))))
   ·exact u2 h9 H fun h15 H=>zc Z Z h9 (zc Z Z h9 (zc Z Z h9 (zc Z Z h9 (zc Z Z h9 (za (zo Z (bFF h15) Z) (qe Z ⟨false,H,⟨Z,U⟩,U⟩))))))
  ·exact u2 h3 H fun h16 H=>zc Z Z h3 (zc Z Z h3 (zc Z Z h3 (zc Z Z h3 (zc Z Z h3 (za (zo Z (bFF h16) Z) (qd Z (zc Z Z Z (zc Z Z Z (zc Z Z Z (zc Z Z Z (zc Z Z Z (za (zo Z Z Z) (qe Z ⟨false,H,⟨Z,U⟩,U⟩)))))))))))))
 ·rintro v17 H
  replace H:Yo v17=some r:=H
  unfold Yo at H
  refine zi ?_
  cases H
  exact ⟨U,.inl Z,U⟩
theorem y31 (s1:Bs) (base2:Int) (bitSize3:Int) (r:(Int×Int)) (H:z44 s1 base2 bitSize3=some r):Fn Tryz.prog 107 [vstr s1,vint base2,vint bitSize3] (zr [vval (.int .u64 r.1),verr r.2]):=by
 refine ⟨by kernel_rfl,yh (us:=[vval (.int .u64 r.1),verr r.2]) Tryz.func107 Z Z Z Z fun X hN => ?_⟩
 unfold z44 at H
 refine zb hN Z (qe Z (qe Z (zb hN Z (qd Z (qd Z (qd Z (bE H fun r4 h5 H=>za (zn (z8z s1 base2 bitSize3 r4 h5) ⟨.inl Z,.inl Z,.inl Z,U⟩) (qd Z (za (yd Z Z) (za (yd Z Z) (qe Z (qe Z (zh (zb hN Z (qd Z (za (z0c (n:=r4.2) (show Tryz.prog.underlying 76=some (.interface (Tryz.prog.methodsAt 76)) from by kernel_rfl) Z) ?_))))))))))))))))
 refine zg _ Z (fun h6 => ?_) (fun h6 => ?_)
 ·refine tE h6 H fun H=>zb hN Z (qd Z (qd Z (qd Z (qd Z (qd Z (bE H fun r7 h8 H=>za (zn (z8r [80,97,114,115,101,85,105,110,116] s1 base2 bitSize3 r4.2 r7 h8) ⟨.inl Z,.inl Z,.inl Z,.inl Z,.inl Z,U⟩) (qe Z (qe Z (zi ?_)))))))))
  cases H
  exact ⟨U,.inl Z,.inl Z,U⟩
 ·refine fE h6 H fun H=>zl (zb hN Z (qd Z (qe Z (qe Z (zi ?_)))))
  cases H
  exact ⟨U,.inl Z,.inl Z,U⟩
theorem y34 (s1:Bs) (v2:Int) (r:(Int)) (H:z47 s1 v2=some r):Fn Tryz.prog 72 [vstr s1,vint v2] (zr [vval (.int .u8 r)]):=by
 refine ⟨by kernel_rfl,yh (us:=[vval (.int .u8 r)]) Tryz.func72 Z Z Z Z fun X hN => ?_⟩
 unfold z47 at H
 refine zb hN Z (qe Z (zb hN Z (qd Z (qd Z (za (yo _ Z Z (.inl ⟨Z,Z⟩)) (qd Z (za (yo _ Z Z (.inl ⟨Z,Z⟩)) (bE H fun l3 h4 H=>za (qc tyU9 Z Z Z h4) (bE H fun r5 h6 H=>za (zn (y31 l3 16 8 r5 h6) ⟨.inl Z,.inl Z,.inl Z,U⟩) (qd Z (za (yd Z Z) (za (yd Z Z) (qe Z (qe Z (zh (zb hN Z (qd Z (za (z0c (n:=r5.2) (show Tryz.prog.underlying 76=some (.interface (Tryz.prog.methodsAt 76)) from by kernel_rfl) Z) ?_))))))))))))))))))
 refine zg _ Z (fun h7 => ?_) (fun h7 => ?_)
 ·refine tE h7 H fun H=>zb hN Z (qe Z (zi ?_))
  cases H
  exact ⟨U,.inl Z,U⟩
 ·refine fE h7 H fun H=>zl (zb hN Z (qd Z (za (vt uu tyU5 Z) (qe Z (zi ?_)))))
  cases H
  exact ⟨U,.inl Z,U⟩
theorem y4e (c1:Int) (r:(Bool)) (H:z5b c1=some r):Fn Tryz.prog 73 [vval (.int .u8 c1)] (zr [zf r]):=by
 refine ⟨by kernel_rfl,yh (us:=[zf r]) Tryz.func73 Z Z Z Z fun X hN => ?_⟩
 unfold z5b at H
 refine zb hN Z (qe Z (zw (ι:=Bool) (fun i=>[(2,.dat (zf i))]) (fun i=>[]) (fun i=>Yr i=some r) (fun i=>Z) ?_ ?_))
 ·skip
  refine zm hN Z (qd Z (bE H fun r2 h3 H=>za (zn (z8w c1 r2 h3) ⟨.inl Z,U⟩) (qd Z (zz (j:=2) Z Z (fun h4 => ?_) (fun h4 => ?_) Z))))
  ·refine u3 h4 H fun h5 H=>zd Z Z h4 (ze (.dat _) Z) (bE H fun r6 h7 H=>zd Z Z h4 (zn (z5k c1 r6 h7) ⟨.inl Z,U⟩) (za (zo Z (bFF h5) Z) (qd Z (zz (j:=6) Z Z (fun h8 => ?_) (fun h8 => ?_) Z))))
   ·exact u3 h8 H fun h9 H=>zd Z Z h8 (ze (.dat _) Z) (bE H fun r10 h11 H=>zd Z Z h8 (zn (z5i [45,46,95,126] c1 r10 h11) ⟨.inl Z,.inl Z,U⟩) (zd Z Z h8 (wt Z Z) (za (zo Z (bFF h9) Z) (qe Z ⟨decide (0≤r10),H,⟨Z,U⟩,U⟩))))
   ·exact u4 h8 H fun h12 H=>zc Z Z h8 (zc Z Z h8 (zc Z Z h8 (za (zu Z (bTT h12) Z) (qe Z ⟨true,H,⟨Z,U⟩,U⟩))))
  ·exact u4 h4 H fun h13 H=>zc Z Z h4 (zc Z Z h4 (za (zu Z (bTT h13) Z) (qd Z (zc Z Z Z (zc Z Z Z (zc Z Z Z (za (zu Z Z Z) (qe Z ⟨true,H,⟨Z,U⟩,U⟩))))))))
 ·rintro v14 H
  replace H:Yr v14=some r:=H
  unfold Yr at H
  refine zi ?_
  cases H
  exact ⟨U,.inl Z,U⟩
theorem y36 (c1:Int) (r:(Bs)) (H:z48 c1=some r):Fn Tryz.prog 74 [vval (.int .u8 c1)] (zr [vstr r]):=by
 refine ⟨by kernel_rfl,yh (us:=[vstr r]) Tryz.func74 Z Z Z Z fun X hN => ?_⟩
 unfold z48 at H
 refine zb hN Z (qe Z (zh (wh mixed hN Z Z (qd Z (za (ym (y1c Z Z (by decide)) Z) (bE H fun x2 h3 H=>za (z66 tyU9 Z Z h3) (qd Z (za (ym (y1v Z Z) Z) (bE H fun x4 h5 H=>za (z66 tyU9 Z Z h5) (za (ym (u':=vlst (List.map yw [37,(x2.toNat:Int),(x4.toNat:Int)])) (wa [[_],[_],[_]] uv ⟨Z,.inl ⟨_,Z,Z,Z⟩,Z,Z,.inl ⟨_,Z,Z,Z⟩,Z,Z,.inl ⟨_,Z,Z,Z⟩,Z,U⟩ Z Z) Z) (za (z4g (C:=yw) ur tyU5 tyU9 (fun _=>Z) Z) (qe Z ⟨Z,?_⟩))))))))))))
 refine zi ?_
 cases H
 exact ⟨U,.inl Z,U⟩
theorem y3s (l1:(List Int)) (s2:Bs) (r:(Int×Int×(List Int))) (H:z42 l1 s2=some r):FnG Tryz.prog 45 [.ptr 0 0,.dat (vstr s2)] [(0,.box (some 0) 73 [.nptr 0,.row 1 l1.length]),(1,.row 5 1 (List.map yw l1))] (.dat (zr [vint r.1,verr r.2.1])) [(0,.box (some 0) 73 [.nptr 0,.row 900 r.2.2.length]),(900,.row 5 1 (List.map yw r.2.2))]:=by
 refine z5z (by kernel_rfl) Tryz.func45 Z Z Z Z fun X A hN => ?_
 refine we ?_
 unfold z42 at H
 refine zb hN Z (qe Z (qe Z (zb hN Z (za (ze (.ptr _ _) Z) (zq (z7g z91 Z) Z (zb hN Z (za (ze (.ptr _ _) Z) (za (ze (.ptr _ _) Z) (za (zv Z) (za (zp z1u Z) (yc (zy z1q Z Z) Z (qd Z (gE H fun h3 H=>zq (y05 (C:=yw) (fun _=>Z) (show tyB8 Tryz.prog 71 9 5 from ⟨by kernel_rfl,by kernel_rfl,by kernel_rfl⟩) Z Z Z h3) Z ?_)))))))))))))
 refine za (zv Z) (za (zp z1u Z) (z14 (z11 z1q Z Z (by rw [List.length_map]) Z) Z Z ?_))
 refine zb hN Z (qd Z (za (yq tyU9 Z) (qe Z (qe Z (zi ?_)))))
 cases H
 show Cv _ _ _ _
 exact wn (rn [(1,900)]) [(4,.dat (vint (s2.length:Int))),(5,.dat (verr 0))] [(0,.box (some (A.bl 0)) 73 [.nptr 0,.row 1 ((l1++yi s2).length)]),(1,.row 5 1 (List.map yw (l1++yi s2)))] ⟨Z,Z,U⟩ ⟨Z,Z,U⟩ Z Z ⟨U,[(4,.dat (vint (s2.length:Int))),(5,.dat (verr 0))],⟨Z,Z,U⟩,⟨Z,Z,U⟩,Z,.inl ⟨[vint (s2.length:Int),verr 0],⟨Z,Z,U⟩,Z⟩⟩
theorem y37 (s1:Bs) (r:(Bs×Bool)) (H:z0n s1=some r):Fn Tryz.prog 42 [vstr s1] (zr [vstr r.1,zf r.2]):=by
 refine ⟨by kernel_rfl,yh (us:=[vstr r.1,zf r.2]) Tryz.func42 Z Z Z Z fun X hN => ?_⟩
 unfold z0n at H
 refine zb hN Z (qe Z (qe Z (zb hN Z (zq (kk 1 y0k Z) Z (y6f 1 0 (.nptr 1) Z Z y29 (z58 1 1 2 5 1 Z Z Z Z (zw (ι:=(List Int)) (fun i=>[(4,.ptr 1 0)]) (fun i=>[(1,.box none 73 [.nptr 1,.row 2 i.length]),(2,.row 5 1 (List.map yw i))]) (fun i=>z2b i=some r) (fun i=>Z) ?_ ?_)))))))
 ·refine we (zb hN Z (qe Z (ye (jk (fun (s:Int×(List Int))=>[(0,.dat (vstr s1)),(4,.ptr 1 0),(5,.dat (vint s.1))]) (fun (s:Int×(List Int))=>[(1,.box none 73 [.nptr 1,.row 2 s.2.length]),(2,.row 5 1 (List.map yw s.2))]) (0,([]:List Int)) H ⟨Z,Z,Z,U⟩ ⟨Z,Z,U⟩ (fun _=>Z) ?_))))
  rintro ⟨i2,l3⟩ q4 H hq4
  replace H:z4x s1 i2 l3=some q4:=H
  unfold z4x at H
  refine we (zh (zb hN Z (qd Z (qd Z (za (yq tyU9 Z) (za (yf Z Z) (zg _ Z (fun h5 => ?_) (fun h5 => ?_))))))))
  ·refine tE h5 H fun H=>zl (zw (ι:=Int×(List Int)) (fun i=>[(0,.dat (vstr s1)),(4,.ptr 1 0),(5,.dat (vint i.1))]) (fun i=>[(1,.box none 73 [.nptr 1,.row 7 i.2.length]),(7,.row 5 1 (List.map yw i.2))]) (fun i=>z0j i.1 i.2=some q4) (fun i=>Z) ?_ ?_)
   ·refine we (ye (zh (zb hN Z (qd Z (qd Z (bE H fun x6 h7 H=>za (wc tyU9 Z Z h7) (za (vq Z Z) (zg _ Z (fun h8 => ?_) (fun h8 => ?_)))))))))
    ·refine tE h8 H fun H=>zb hN Z (qd Z (qd Z (za (wc tyU9 Z Z h7) (bE H fun r9 h10 H=>z0e (rn [(0,1),(1,2),(900,3)]) [(0,_,_,some _),(1,_,_,none)] [(900,_)] (z8n l3 (x6.toNat:Int) r9 h10) ⟨Z,Z,Z,U⟩ ⟨.inl (.inl Z),.inl (.inl Z),U⟩ ⟨⟨⟨Z,Z⟩,U⟩,⟨⟨Z,Z,Z⟩,U⟩,U⟩ Z (yu ?_)))))
     show Cv _ _ _ _
     exact wn (rn [(3,7)]) [(0,.dat (vstr s1)),(4,.ptr 1 0),(5,.dat (vint i2))] [(1,.box none 73 [.nptr 1,.row 3 r9.2.length]),(3,.row 5 1 (List.map yw r9.2))] ⟨Z,Z,Z,U⟩ ⟨Z,Z,U⟩ Z Z ⟨(i2,r9.2),H,⟨Z,Z,Z,U⟩,⟨Z,Z,U⟩⟩
    ·refine fE h8 H fun H=>zl (zh (zb hN Z (qd Z (qd Z (bE H fun r11 h12 H=>za (zn (y4c s1 i2 r11 h12) ⟨.inl Z,.inl Z,U⟩) (za (yy Z) (zg _ Z (fun h13 => ?_) (fun h13 => ?_))))))))
     ·refine tE h13 H fun H=>zb hN Z (qe Z (qe Z (zi ?_)))
      replace H:=retl H hq4
      cases H
      show Cv _ _ _ _
      refine qq ?_
      show Cv _ _ _ _
      refine qq ?_
      show Cv _ _ _ _
      exact qq ⟨U,.inl Z,.inl Z,U⟩
     ·refine fE h13 H fun H=>zl (zw (ι:=(List Int)) (fun i=>[(0,.dat (vstr s1)),(4,.ptr 1 0),(5,.dat (vint i2))]) (fun i=>[(1,.box none 73 [.nptr 1,.row 6 i.length]),(6,.row 5 1 (List.map yw i))]) (fun i=>z0i i2 i=some q4) (fun i=>Z) ?_ ?_)
      ·refine we (zb hN Z (qd Z (qd Z (bE H fun r14 h15 H=>za (zn (y34 s1 i2 r14 h15) ⟨.inl Z,.inl Z,U⟩) (qe Z (zb hN Z (qd Z (bE H fun r16 h17 H=>za (zn (y4e r14 r16 h17) ⟨.inl Z,U⟩) (zg _ Z (fun h18 => ?_) (fun h18 => ?_))))))))))
       ·refine tE h18 H fun H=>zm hN Z (qd Z (bE H fun r19 h20 H=>z0e (rn [(0,1),(1,2),(900,4)]) [(0,_,_,some _),(1,_,_,none)] [(900,_)] (z8n l3 r14 r19 h20) ⟨Z,Z,Z,U⟩ ⟨.inl (.inl Z),.inl (.inl Z),U⟩ ⟨⟨⟨Z,Z⟩,U⟩,⟨⟨Z,Z,Z⟩,U⟩,U⟩ Z (wg ?_)))
        show Cv _ _ _ _
        exact wn (rn [(4,6)]) [(0,.dat (vstr s1)),(4,.ptr 1 0),(5,.dat (vint i2))] [(1,.box none 73 [.nptr 1,.row 4 r19.2.length]),(4,.row 5 1 (List.map yw r19.2))] ⟨Z,Z,Z,U⟩ ⟨Z,Z,U⟩ Z Z ⟨r19.2,H,⟨Z,Z,Z,U⟩,⟨Z,Z,U⟩⟩
       ·refine fE h18 H fun H=>zm hN Z (qd Z (bE H fun r21 h22 H=>za (zn (y36 r14 r21 h22) ⟨.inl Z,U⟩) (bE H fun r23 h24 H=>z0e (rn [(0,1),(1,2),(900,5)]) [(0,_,_,some _),(1,_,_,none)] [(900,_)] (y3s l3 r21 r23 h24) ⟨Z,Z,Z,U⟩ ⟨.inl (.inl Z),.inl (.inl Z),U⟩ ⟨⟨⟨Z,Z⟩,U⟩,⟨⟨Z,Z,Z⟩,U⟩,U⟩ Z (wg ?_))))
        show Cv _ _ _ _
        exact wn (rn [(5,6)]) [(0,.dat (vstr s1)),(4,.ptr 1 0),(5,.dat (vint i2))] [(1,.box none 73 [.nptr 1,.row 5 r23.2.2.length]),(5,.row 5 1 (List.map yw r23.2.2))] ⟨Z,Z,Z,U⟩ ⟨Z,Z,U⟩ Z Z ⟨r23.2.2,H,⟨Z,Z,Z,U⟩,⟨Z,Z,U⟩⟩
      ·rintro l25 H
       replace H:z0i i2 l25=some q4:=H
       unfold z0i at H
       refine zm hN Z (qd Z (za (yo _ Z Z (.inl ⟨Z,Z⟩)) (qe Z (wg ?_))))
       show Cv _ _ _ _
       exact wn (rn [(6,7)]) [(0,.dat (vstr s1)),(4,.ptr 1 0),(5,.dat (vint (wr (i2+2))))] [(1,.box none 73 [.nptr 1,.row 6 l25.length]),(6,.row 5 1 (List.map yw l25))] ⟨Z,Z,Z,U⟩ ⟨Z,Z,U⟩ Z Z ⟨(wr (i2+2),l25),H,⟨Z,Z,Z,U⟩,⟨Z,Z,U⟩⟩
   ·rintro ⟨i26,l27⟩ H
    replace H:z0j i26 l27=some q4:=H
    unfold z0j at H
    refine zm hN Z (qd Z (za (yo _ Z Z (.inl ⟨Z,Z⟩)) (qe Z (wg ?_))))
    show Cv _ _ _ _
    exact wn (rn [(7,2)]) [(0,.dat (vstr s1)),(4,.ptr 1 0),(5,.dat (vint (wr (i26+1))))] [(1,.box none 73 [.nptr 1,.row 7 l27.length]),(7,.row 5 1 (List.map yw l27))] ⟨Z,Z,Z,U⟩ ⟨Z,Z,U⟩ Z Z ⟨_,qb H,⟨Z,Z,Z,U⟩,⟨Z,Z,U⟩⟩
  ·refine fE h5 H fun H=>yu ?_
   replace H:=outl H hq4
   show Cv _ _ _ _
   refine qq ?_
   show Cv _ _ _ _
   exact qq ⟨l3,H,⟨Z,U⟩,⟨Z,Z,U⟩⟩
 ·rintro l28 H
  replace H:z2b l28=some r:=H
  unfold z2b at H
  refine zb hN Z (gE H fun h29 H=>z0e (rn [(0,1),(1,2)]) [(0,_,_,none),(1,_,_,none)] [] (y3r h29 (C:=yw) (fun _=>Z)) ⟨Z,Z,U⟩ ⟨.inl (.inl Z),U⟩ ⟨⟨⟨Z,Z⟩,U⟩,⟨⟨Z,Z,Z⟩,U⟩,U⟩ Z (qe Z (qe Z (zi ?_))))
  cases H
  exact ⟨U,.inl Z,.inl Z,U⟩
theorem y3o (s sep:Bs) (r:List Bs) (H:xq s sep=some r):FnG Tryz.prog 43 [.dat (vstr s),.dat (vstr sep)] [] (.row 900 r.length) [(900,.row 9 1 (List.map yb r))]:=by
 obtain ⟨h1,h2,rfl⟩:=y1y H
 have hlen:=Lib.splitB_all ⟨sep.toArray⟩ (by simpa [ByteArray.size] using h2) 0 _ ⟨s.toArray⟩ Z
 have hle:=Lib.countB_le ⟨sep.toArray⟩ (by simpa [ByteArray.size] using h2) _ ⟨s.toArray⟩ (Nat.le_refl _)
 refine y5q (args:=[vstr s,vstr sep]) (jx s sep) (by kernel_rfl) (fun M w vs hM hvs => ?_) ?_
 ·have hv:=vz (us:=[.string ⟨s.toArray⟩,.string ⟨sep.toArray⟩]) hvs
  subst hv
  obtain ⟨m,hm⟩:=z4z hM
  refine (Tryz.strings_Split ⟨s.toArray⟩ ⟨sep.toArray⟩ m w (by simp [ByteArray.size]; omega) hm (by simpa [ByteArray.size] using h2)).mono ?_
  rintro e w' ⟨rfl,rfl⟩
  have e1:(jx s sep).length=Lib.countB ⟨s.toArray⟩ ⟨sep.toArray⟩+1:=by unfold jx; rw [List.length_map,hlen]
  have e2:((jx s sep).map fun s=>Value.string ⟨s.toArray⟩)=(Lib.splitB ⟨sep.toArray⟩ 0 (Lib.countB ⟨s.toArray⟩ ⟨sep.toArray⟩) ⟨s.toArray⟩).map Value.string:=by
   unfold jx
   rw [List.map_map]
   exact List.map_congr_left fun b _=>by simp
  rw [e1,e2]
  exact ⟨Z,Z⟩
 ·unfold jx maxLen
  rw [List.length_map,hlen]
  have hsz:(ByteArray.mk s.toArray).size=s.length:=by simp [ByteArray.size]
  rw [hsz] at hle
  omega
theorem y3x (s sep:Bs) (r:List Bs) (H:xq s sep=some r):Fn Tryz.prog 43 [vstr s,vstr sep] (zr [vlst (List.map yb r)]):=by
 have h:=y3o s sep r H
 rw [← List.length_map (f:=yb)] at h
 exact y5p h
end Go.Proofs.YtfindajhhadihaaGreatDoor
