/- Walks along the models. Printed by a program. -/
import Derived.Test.YtahcnngcpjkpgabGreatDoorZww6
namespace Go.Proofs.YtahcnngcpjkpgabGreatDoor
open Go.RowKit
set_option linter.unusedVariables false
set_option maxRecDepth 100000
set_option maxHeartbeats 2000000
theorem y89 (a1:yb) (r:((List Bs)×Bool×Int)) (H:xk a1=some r):Fn Tryz.prog 88 [vagg (qf a1)] (zr [vlst (List.map zx r.1),zi r.2.1,vint r.2.2]):=by
 refine ⟨by kernel_rfl,yf (us:=[vlst (List.map zx r.1),zi r.2.1,vint r.2.2]) Tryz.func88 Z Z Z Z fun X hN => ?_⟩
 unfold xk at H
 refine zb hN Z (zl (we 1 Z) Z (qe Z (qe Z (qe Z (zb hN Z (za (zq kq Z) (zm (zt qu Z Z) Z (bE H fun r2 h3 H=>za (zo (Zh a1.Headers [118,97,114,121] r2 h3) ⟨.inl Z,.inl Z,U⟩) (bE H fun r4 h5 H=>qk (rn [(1,2)]) [] [(1,_)] (w5s r2 r4 h5) ⟨Z,U⟩ ⟨.inl (.inl Z),U⟩ U Z (za (qs (.row _ _) Z) (zd (zb hN Z (za (ze (.row _ _) Z) (zm (Wp wl Z Z) Z (qd Z (yc (gE H fun h9 H=>z3z (fun (k7:Nat) (s:(List Bs))=>[(5,.row 2 s.length),(12,.row 2 s.length),(13,.dat (vint (r4.length:Int))),(14,.dat (vint (k7:Int)))]) (fun (k7:Nat) (s:(List Bs))=>[(2,.row 9 1 (List.map zx s))]) r4 H ⟨Z,Z,Z,Z,U⟩ ⟨Z,U⟩ (fun _ _=>Z) ?_ ?_)))))))))))))))))
 ·rintro l6 H
  replace H:z06 l6=some r:=H
  unfold z06 at H
  refine zb hN Z (za (ye Z Z) (zd (zh _ Z (fun h=>(lt_t h).elim) (fun h => ?_))))
  refine yz (zd (zd (z1l 5 2 Z Z Z (zj hN Z (qd Z (bE H fun r10 h11 H=>za (zo (y81 l6 [42] r10 h11) ⟨.inl Z,.inl Z,U⟩) (zh _ Z (fun h12 => ?_) (fun h12 => ?_))))))))
  ·refine tE h12 H fun H=>zb hN Z (qe Z (qe Z (qe Z (zk ?_))))
   cases H
   exact ⟨U,.inr ⟨Z,Z⟩,.inl Z,.inl Z,U⟩
  ·refine fE h12 H fun H=>zn (zb hN Z (qd Z (bE H fun r13 h14 H=>za (zo (x6g l6 r13 h14) ⟨.inl Z,U⟩) (qe Z (zd (zb hN Z (qd Z (za (qh wl Z) (za (wb Z Z) (zh _ Z (fun h15 => ?_) (fun h15 => ?_)))))))))))
   ·refine tE h15 H fun H=>zb hN Z (qe Z (qe Z (qe Z (zk ?_))))
    cases H
    exact ⟨U,.inr ⟨Z,Z⟩,.inl Z,.inl Z,U⟩
   ·refine fE h15 H fun H=>zn (zb hN Z (qd Z (qe Z (qe Z (qe Z (zk ?_))))))
    cases H
    exact ⟨U,.inl Z,.inl Z,.inl Z,U⟩
 ·rintro k7 l6 q8 h16 H hq8
  replace H:z3u k7 l6=some q8:=H
  unfold z3u at H
  refine zb hN Z (za (ye Z Z) (zd (zh _ Z (fun h => ?_) (fun h=>(lt_f h16 h).elim))))
  refine zn (zd (yc (zb hN Z (qd Z (bE H fun x17 h18 H=>zm (Wq vp Z Z Z h18) Z (zm (z4c tyS9 Z Z h18 Z) Z (qe Z (qe Z (zd (zb hN Z (qd Z (bE H fun r19 h20 H=>za (zo (z6c x17 r19 h20) ⟨.inl Z,U⟩) (za (yt Z) (zh _ Z (fun h21 => ?_) (fun h21 => ?_)))))))))))))))
  ·refine tE h21 H fun H=>zb hN Z (qe Z (qe Z (qe Z (zk ?_))))
   replace H:=retl H hq8
   cases H
   exact ⟨U,.inr ⟨Z,Z⟩,.inl Z,.inl Z,U⟩
  ·exact fE h21 H fun H=>zn (zj hN Z (za (ze (.row _ _) Z) (qd Z (qd Z (bE H fun r22 h23 H=>za (zo (y3r x17 r22 h23) ⟨.inl Z,U⟩) (zm (Wq vp Z Z Z h18) Z (zl (y1s r22 tyS9 Z Z Z Z h18 Z Z) Z (zj hN Z (za (qy Z Z (by omega)) (qd Z ⟨_,qm H,⟨congrArg (Slot.row 2) (by simp),congrArg (Slot.row 2) (by simp),Z,Z,U⟩,⟨Z,U⟩⟩))))))))))
theorem y9a (c1:yh) (r:(Int)) (H:Yp c1=some r):Fn Tryz.prog 89 [vagg (ko c1)] (zr [vint r]):=by
 refine ⟨by kernel_rfl,yf (us:=[vint r]) Tryz.func89 Z Z Z Z fun X hN => ?_⟩
 unfold Yp at H
 refine zb hN Z (zl (we 1 Z) Z (qe Z (zd (yc (zb hN Z (za (zq y1k Z) (zm (zt tyS4 Z Z) Z (qe Z (zh _ Z (fun h2 => ?_) (fun h2 => ?_))))))))))
 ·refine tE h2 H fun H=>zb hN Z (qe Z (zk ?_))
  cases H
  exact ⟨U,.inl Z,U⟩
 ·refine fE h2 H fun H=>zb hN Z (za (zq y1j Z) (zm (zt tyS3 Z Z) Z (za (yy Z Z) (qe Z (zh _ Z (fun h3 => ?_) (fun h3 => ?_))))))
  ·refine tE h3 H fun H=>zb hN Z (za (zq y1j Z) (zm (zt tyS3 Z Z) Z (za (ym _ Z Z (.inr (.inr ⟨Z,Z⟩))) (qe Z (zk ?_)))))
   cases H
   exact ⟨U,.inl Z,U⟩
  ·refine fE h3 H fun H=>zb hN Z (za (zq z7x Z) (zm (zt tyS3 Z Z) Z (za (yy Z Z) (qe Z (zh _ Z (fun h4 => ?_) (fun h4 => ?_))))))
   ·refine tE h4 H fun H=>zb hN Z (za (zq z7x Z) (zm (zt tyS3 Z Z) Z (za (ym _ Z Z (.inr (.inr ⟨Z,Z⟩))) (qe Z (zk ?_)))))
    cases H
    exact ⟨U,.inl Z,U⟩
   ·refine fE h4 H fun H=>zn (zb hN Z (qe Z (zk ?_)))
    cases H
    exact ⟨U,.inl Z,U⟩
theorem w8f (a1:yb) (r:(Int×Int)) (H:z9n a1=some r):Fn Tryz.prog 38 [vagg (qf a1)] (zr [vint r.1,vint r.2]):=by
 refine ⟨by kernel_rfl,yf (us:=[vint r.1,vint r.2]) Tryz.func38 Z Z Z Z fun X hN => ?_⟩
 unfold z9n at H
 refine zb hN Z (zl (we 1 Z) Z (qe Z (qe Z (zd (zb hN Z (zm (yr qg Z Z Z) Z (bE H fun r2 h3 H=>za (zo (y3w a1 r2 h3) ⟨.inl Z,U⟩) (qe Z (zb hN Z (qd Z (za (yy Z Z) (zh _ Z (fun h4 => ?_) (fun h4 => ?_)))))))))))))
 ·refine tE h4 H fun H=>zb hN Z (qd Z (qe Z (qe Z (zk ?_))))
  cases H
  exact ⟨U,.inl Z,.inl Z,U⟩
 ·refine fE h4 H fun H=>zn (zb hN Z (za (zq kq Z) (zm (zt qu Z Z) Z (bE H fun r5 h6 H=>za (zo (z9w a1.Headers r5 h6) ⟨.inl Z,U⟩) (qd Z (za (zz Z Z) (za (zz Z Z) (zl (qt 2 Yx Z) Z (zl (yx ub Z Z Z Z) Z (qe Z (zd (zb hN Z (qd Z (za (yy Z Z) (zh _ Z (fun h7 => ?_) (fun h7 => ?_))))))))))))))))
  ·refine tE h7 H fun H=>zb hN Z (qd Z (qe Z (qe Z (zk ?_))))
   cases H
   exact ⟨U,.inl Z,.inl Z,U⟩
  ·refine fE h7 H fun H=>zn (zd (zb hN Z (zm (yr qg Z Z Z) Z (bE H fun r8 h9 H=>za (zo (y89 a1 r8 h9) ⟨.inl Z,U⟩) (qd Z (za (zz Z Z) (za (zz Z Z) (za (zz Z Z) (qe Z (qe Z (qe Z (zb hN Z (qd Z (za (yy Z Z) (zh _ Z (fun h10 => ?_) (fun h10 => ?_))))))))))))))))
   ·refine tE h10 H fun H=>zb hN Z (qd Z (qe Z (qe Z (zk ?_))))
    cases H
    exact ⟨U,.inl Z,.inl Z,U⟩
   ·refine fE h10 H fun H=>zn (zb hN Z (zm (yr ub Z Z Z) Z (bE H fun r11 h12 H=>za (zo (y9a r5.1 r11 h12) ⟨.inl Z,U⟩) (qe Z (qe Z (zk ?_))))))
    cases H
    exact ⟨U,.inl Z,.inl Z,U⟩
theorem w6h (s1:Bs) (r:(Bs)) (H:z8x s1=some r):Fn Tryz.prog 39 [vstr s1] (zr [vstr r]):=by
 refine ⟨by kernel_rfl,yf (us:=[vstr r]) Tryz.func39 Z Z Z Z fun X hN => ?_⟩
 unfold z8x at H
 refine zb hN Z (qe Z (zb hN Z (qe Z (yg (ι:=(List Int)) (fun i=>[(3,.row 1 i.length)]) (fun i=>[(1,.row 5 1 (List.map yw i))]) (fun i=>y1o i=some r) (fun i=>Z) ?_ ?_))))
 ·skip
  refine yc (ug 3 1 5 1 Z Z Z (xo (fun (s:Bs×(List Int))=>[(0,.dat (vstr s.1)),(3,.row 1 s.2.length)]) (fun (s:Bs×(List Int))=>[(1,.row 5 1 (List.map yw s.2))]) (s1,[]) H ⟨Z,Z,U⟩ ⟨Z,U⟩ (fun _=>Z) ?_))
  rintro ⟨s2,l3⟩ q4 H hq4
  replace H:y56 s2 l3=some q4:=H
  unfold y56 at H
  refine zd (zb hN Z (qd Z (za (qi tyU9 Z) (za (wb Z Z) (zh _ Z (fun h5 => ?_) (fun h5 => ?_))))))
  ·refine tE h5 H fun H=>zn (yc (zb hN Z (qd Z (za (qi tyU9 Z) (za (w10 Z Z) (qe Z (zb hN Z (qe Z (zd (zb hN Z (qd Z (yc (gE H fun h9 H=>z3z (fun (k7:Nat) (s:Int)=>[(0,.dat (vstr s2)),(3,.row 1 l3.length),(4,.dat (vint (min 3 (s2.length:Int)))),(5,.dat (vint s)),(14,.dat (vint (k7:Int)))]) (fun (k7:Nat) (s:Int)=>[(1,.row 5 1 (List.map yw l3))]) 0 H ⟨Z,Z,Z,Z,Z,U⟩ ⟨Z,U⟩ (fun _ _=>Z) ?_ ?_)))))))))))))
   ·rintro x6 H
    replace H:y58 s2 l3 x6=some q4:=H
    unfold y58 at H
    refine zb hN Z (za (ye Z Z) (zd (zh _ Z (fun h=>(lt_t h).elim) (fun h => ?_))))
    refine yz (zd (zb hN Z (qd Z (za (ym _ Z Z (.inl ⟨Z,Z⟩)) (qd Z (yc (gE H fun h13 H=>z3z (fun (k11:Nat) (s:(List Int))=>[(0,.dat (vstr s2)),(3,.row 1 s.length),(4,.dat (vint (min 3 (s2.length:Int)))),(5,.dat (vint x6)),(30,.dat (vint (wr ((min 3 (s2.length:Int))+1)))),(31,.dat (vint (k11:Int)))]) (fun (k11:Nat) (s:(List Int))=>[(1,.row 5 1 (List.map yw s))]) l3 H ⟨Z,Z,Z,Z,Z,Z,U⟩ ⟨Z,U⟩ (fun _ _=>Z) ?_ ?_)))))))
    ·rintro l10 H
     replace H:y57 s2 l10=some q4:=H
     unfold y57 at H
     refine zb hN Z (za (ye Z Z) (zd (zh _ Z (fun h=>(y8n h).elim) (fun h => ?_))))
     exact yz (zj hN Z (qd Z (qd Z (bE H fun l14 h15 H=>za (vh tyU9 Z Z Z h15) (qe Z ⟨_,qm H,⟨Z,Z,U⟩,⟨Z,U⟩⟩)))))
    ·rintro k11 l10 q12 h16 H hq12
     replace H:y54 x6 k11 l10=some q12:=H
     unfold y54 at H
     refine zb hN Z (za (ye Z Z) (zd (zh _ Z (fun h => ?_) (fun h=>(y8o h16 h).elim))))
     refine zn (zd (yc (zb hN Z (qd Z (qe Z (zj hN Z (za (ze (.row _ _) Z) (qd Z (qd Z (za (ym _ Z Z (.inr (.inr ⟨Z,Z⟩))) (za (ym _ Z Z (.inr (.inl ⟨Z,Z⟩))) (gE H fun h17 H=>za (yd (z1o Z Z h17) Z) (za (yd (x2w Z Z) Z) (bE H fun x18 h19 H=>za (kr tyU9 Z Z h19) (za (yd (u':=vlst (List.map yw [(x18.toNat:Int)])) (qj [[_]] z7q ⟨Z,.inl ⟨_,Z,Z,Z⟩,Z,U⟩ Z Z) Z) (gE H fun h20 H=>zl (ke z7q (fun _=>Z) Z Z Z ⟨by simp,by first | (simp; done) | simpa using h20⟩ Z) Z ?_))))))))))))))))
     exact za (qs (.row _ _) Z) (zj hN Z (za (qy Z Z (by omega)) (qd Z ⟨_,qm H,⟨Z,Z,Z,Z,Z,Z,U⟩,⟨Z,U⟩⟩)))
   ·rintro k7 x6 q8 h21 H hq8
    replace H:y55 s2 k7 x6=some q8:=H
    unfold y55 at H
    refine zb hN Z (za (ye Z Z) (zd (zh _ Z (fun h => ?_) (fun h=>(lt_f h21 h).elim))))
    refine zn (yg (ι:=Int) (fun i=>[(0,.dat (vstr s2)),(3,.row 1 l3.length),(4,.dat (vint (min 3 (s2.length:Int)))),(5,.dat (vint i)),(14,.dat (vint (k7:Int)))]) (fun i=>[(1,.row 5 1 (List.map yw l3))]) (fun i=>z73 i=some q8) (fun i=>Z) ?_ ?_)
    ·skip
     refine yc (zb hN Z (qd Z (qe Z (zb hN Z (qd Z (za (yd (y6f Z Z (by decide)) Z) (qe Z (zb hN Z (qd Z (qd Z (za (ye Z Z) (zh _ Z (fun h22 => ?_) (fun h22 => ?_)))))))))))))
     ·exact tE h22 H fun H=>zj hN Z (qd Z (qd Z (qd Z (bE H fun x23 h24 H=>za (wv tyU9 Z Z h24) (za (kf tyU5 tyU3 Z) (za (yd (x2g Z Z) Z) (qe Z ⟨(or_ .i64 (shl_ .i64 x6 8) (IntKind.wrap .i64 (x23.toNat:Int))),H,⟨Z,Z,Z,Z,Z,U⟩,⟨Z,U⟩⟩)))))))
     ·exact fE h22 H fun H=>zn ⟨(shl_ .i64 x6 8),H,⟨Z,Z,Z,Z,Z,U⟩,⟨Z,U⟩⟩
    ·rintro x25 H
     replace H:z73 x25=some q8:=H
     unfold z73 at H
     exact zj hN Z (za (qy Z Z (by omega)) (qd Z ⟨_,qm H,⟨Z,Z,Z,Z,Z,U⟩,⟨Z,U⟩⟩))
  ·refine fE h5 H fun H=>yz ?_
   replace H:=outl H hq4
   exact ⟨l3,H,⟨Z,U⟩,⟨Z,U⟩⟩
 ·rintro out26 H
  replace H:y1o out26=some r:=H
  unfold y1o at H
  refine zd (z1l 3 1 Z Z Z (zj hN Z (qd Z (za (x2r (C:=yw) z1e tyU5 tyU9 (fun _=>Z) Z) (qe Z (zk ?_))))))
  cases H
  exact ⟨U,.inl Z,U⟩
theorem z6d  (r:(Bool)) (H:z9a  = some r):Fn Tryz.prog 9 [] (zr [zi r]):=by
 refine ⟨by kernel_rfl,yf (us:=[zi r]) Tryz.func9 Z Z Z Z fun X hN => ?_⟩
 unfold z9a at H
 refine zb hN Z (qe Z (zb hN Z (bE H fun r1 h2 H=>za (zo (x6e [47,97,47,46,46,47,98] r1 h2) ⟨.inl Z,U⟩) (qd Z (za (zz Z Z) (za (zz Z Z) (qe Z (qe Z (zb hN Z (za (yd (u':=vagg (uv (jd.mk [97] 1))) (qw [(0,[vstr [97]]),(1,[vint 1])] y08 w0k Z ⟨Z,.inl ⟨_,Z,Z,Z⟩,Z,Z,.inl ⟨_,Z,Z,Z⟩,Z,U⟩) Z) (za (yd (u':=vlst (List.map uv [(jd.mk [97] 1)])) (qj [_] w0p ⟨Z,.inr Z,Z,U⟩ Z Z) Z) (bE H fun r3 h4 H=>za (zo (w6f ([(jd.mk [97] 1)]) 2 r3 h4) ⟨.inl Z,.inl Z,U⟩) (qd Z (za (zz Z Z) (za (zz Z Z) (qe Z (qe Z (zb hN Z (za (yd (u':=vagg (zy (zg.mk [99,97,99,104,101,45,99,111,110,116,114,111,108] [109,97,120,45,97,103,101,61,50]))) (qw [(0,[vstr [99,97,99,104,101,45,99,111,110,116,114,111,108]]),(1,[vstr [109,97,120,45,97,103,101,61,50]])] ky Yy Z ⟨Z,.inl ⟨_,Z,Z,Z⟩,Z,Z,.inl ⟨_,Z,Z,Z⟩,Z,U⟩) Z) (za (yd (u':=vlst (List.map zy [(zg.mk [99,97,99,104,101,45,99,111,110,116,114,111,108] [109,97,120,45,97,103,101,61,50])])) (qj [_] js ⟨Z,.inr Z,Z,U⟩ Z Z) Z) (za (yd (u':=vagg (qf (yb.mk 200 ([(zg.mk [99,97,99,104,101,45,99,111,110,116,114,111,108] [109,97,120,45,97,103,101,61,50])]) []))) (qw [(0,[vint 200]),(1,[vlst (List.map zy ([(zg.mk [99,97,99,104,101,45,99,111,110,116,114,111,108] [109,97,120,45,97,103,101,61,50])]))])] vu uc Z ⟨Z,.inl ⟨_,Z,Z,Z⟩,Z,Z,.inl ⟨_,Z,Z,Z⟩,Z,U⟩) Z) ?_)))))))))))))))))))))
 refine bE H fun r5 h6 H=>za (zo (w8f (yb.mk 200 ([(zg.mk [99,97,99,104,101,45,99,111,110,116,114,111,108] [109,97,120,45,97,103,101,61,50])]) []) r5 h6) ⟨.inl Z,U⟩) (qd Z (za (zz Z Z) (za (zz Z Z) (qe Z (qe Z (yg (ι:=Bool) (fun i=>[(0,.dat (zi i))]) (fun i=>[]) (fun i=>Ya i=some r) (fun i=>Z) ?_ ?_))))))
 ·skip
  refine zj hN Z (qd Z (za (yq Z Z) (qd Z (yn (j:=2) Z Z (fun h7 => ?_) (fun h7 => ?_) Z))))
  ·refine u1 h7 H fun h8 H=>zf Z Z h7 (ze (.dat _) Z) (zf Z Z h7 (vi Z Z) (za (ya Z (bTT h8) Z) (qd Z (yn (j:=6) Z Z (fun h9 => ?_) (fun h9 => ?_) Z))))
   ·refine u1 h9 H fun h10 H=>zf Z Z h9 (ze (.dat _) Z) (zf Z Z h9 (yq Z Z) (za (ya Z (bTT h10) Z) (qd Z (yn (j:=10) Z Z (fun h11 => ?_) (fun h11 => ?_) Z))))
    ·refine u1 h11 H fun h12 H=>zf Z Z h11 (ze (.dat _) Z) (zf Z Z h11 (qh wl Z) (zf Z Z h11 (yq Z Z) (za (ya Z (bTT h12) Z) (qd Z (yn (j:=15) Z Z (fun h13 => ?_) (fun h13 => ?_) Z)))))
     ·refine u1 h13 H fun h14 H=>zf Z Z h13 (ze (.dat _) Z) (zf Z Z h13 (yq Z Z) (za (ya Z (bTT h14) Z) (qd Z (yn (j:=19) Z Z (fun h15 => ?_) (fun h15 => ?_) Z))))
      ·refine u1 h15 H fun h16 H=>zf Z Z h15 (ze (.dat _) Z) (zf Z Z h15 (yq Z Z) (za (ya Z (bTT h16) Z) (qd Z (yn (j:=23) Z Z (fun h17 => ?_) (fun h17 => ?_) Z))))
       ·exact u1 h17 H fun h18 H=>bE H fun r19 h20 H=>zf Z Z h17 (zo (w6h [97,98] r19 h20) ⟨.inl Z,U⟩) (zf Z Z h17 (vi Z Z) (za (ya Z (bTT h18) Z) (qe Z ⟨decide (r19=[89,87,73]),H,⟨Z,U⟩,U⟩)))
       ·exact u2 h17 H fun h21 H=>zc Z Z h17 (zc Z Z h17 (za (zv Z (bFF h21) Z) (qe Z ⟨false,H,⟨Z,U⟩,U⟩)))
      ·exact u2 h15 H fun h22 H=>zc Z Z h15 (zc Z Z h15 (za (zv Z (bFF h22) Z) (qd Z (zc Z Z Z (zc Z Z Z (za (zv Z Z Z) (qe Z ⟨false,H,⟨Z,U⟩,U⟩)))))))
     ·exact u2 h13 H fun h23 H=>zc Z Z h13 (zc Z Z h13 (za (zv Z (bFF h23) Z) (qd Z (zc Z Z Z (zc Z Z Z (za (zv Z Z Z) (qd Z (zc Z Z Z (zc Z Z Z (za (zv Z Z Z) (qe Z ⟨false,H,⟨Z,U⟩,U⟩)))))))))))
    ·exact u2 h11 H fun h24 H=>zc Z Z h11 (zc Z Z h11 (zc Z Z h11 (za (zv Z (bFF h24) Z) (qd Z (zc Z Z Z (zc Z Z Z (za (zv Z Z Z) (qd Z (zc Z Z Z (zc Z Z Z (za (zv Z Z Z) (qd Z (zc Z Z Z (zc Z Z Z (za (zv Z Z Z) (qe Z ⟨false,H,⟨Z,U⟩,U⟩))))))))))))))))
   ·exact u2 h9 H fun h25 H=>zc Z Z h9 (zc Z Z h9 (za (zv Z (bFF h25) Z) (qd Z (zc Z Z Z (zc Z Z Z (zc Z Z Z (za (zv Z Z Z) (qd Z (zc Z Z Z (zc Z Z Z (za (zv Z Z Z) (qd Z (zc Z Z Z (zc Z Z Z (za (zv Z Z Z) (qd Z (zc Z Z Z (zc Z Z Z (za (zv Z Z Z) (qe Z ⟨false,H,⟨Z,U⟩,U⟩))))))))))))))))))))
  ·refine u2 h7 H fun h26 H=>zc Z Z h7 (zc Z Z h7 (za (zv Z (bFF h26) Z) (qd Z (zc Z Z Z (zc Z Z Z (za (zv Z Z Z) (qd Z (zc Z Z Z (zc Z Z Z (zc Z Z Z (za (zv Z Z Z) (qd Z (zc Z Z Z (zc Z Z Z (za (zv Z Z Z) (qd Z (zc Z Z Z (zc Z Z Z (za (zv Z Z Z) (qd Z (zc Z Z Z (zc Z Z Z ?_))))))))))))))))))))))
   exact za (zv Z Z Z) (qe Z ⟨false,H,⟨Z,U⟩,U⟩)
 ·rintro v27 H
  replace H:Ya v27=some r:=H
  unfold Ya at H
  refine zk ?_
  cases H
  exact ⟨U,.inl Z,U⟩
theorem y9b (method1:Bs) (r:(Bool)) (H:z50 method1=some r):Fn Tryz.prog 46 [vstr method1] (zr [zi r]):=by
 refine ⟨by kernel_rfl,yf (us:=[zi r]) Tryz.func46 Z Z Z Z fun X hN => ?_⟩
 unfold z50 at H
 refine zb hN Z (qe Z (zb hN Z (za (yd (u':=vlst (List.map zx [[71,69,84],[72,69,65,68],[79,80,84,73,79,78,83],[84,82,65,67,69]])) (qj [[_],[_],[_],[_]] qr ⟨Z,.inl ⟨_,Z,Z,Z⟩,Z,Z,.inl ⟨_,Z,Z,Z⟩,Z,Z,.inl ⟨_,Z,Z,Z⟩,Z,Z,.inl ⟨_,Z,Z,Z⟩,Z,U⟩ Z Z) Z) (qd Z (bE H fun r2 h3 H=>za (zo (y81 ([[71,69,84],[72,69,65,68],[79,80,84,73,79,78,83],[84,82,65,67,69]]) method1 r2 h3) ⟨.inl Z,.inl Z,U⟩) (za (yt Z) (qe Z (zk ?_))))))))
 cases H
 exact ⟨U,.inl Z,U⟩
theorem x6o (l1:(List zg)) (name2:Bs) (r:(Bool)) (H:Qw l1 name2=some r):Fn Tryz.prog 93 [vlst (List.map zy l1),vstr name2] (zr [zi r]):=by
 refine ⟨by kernel_rfl,yf (us:=[zi r]) Tryz.func93 Z Z Z Z fun X hN => ?_⟩
 unfold Qw at H
 refine zb hN Z (qe Z (zb hN Z (qd Z (qd Z (bE H fun r3 h4 H=>za (zo (Zh l1 name2 r3 h4) ⟨.inl Z,.inl Z,U⟩) (za (qh wl Z) (za (wb Z Z) (qe Z (zk ?_)))))))))
 cases H
 exact ⟨U,.inl Z,U⟩
theorem w79 (method1:Bs) (r:(Bool)) (H:y3i method1=some r):Fn Tryz.prog 94 [vstr method1] (zr [zi r]):=by
 refine ⟨by kernel_rfl,yf (us:=[zi r]) Tryz.func94 Z Z Z Z fun X hN => ?_⟩
 unfold y3i at H
 refine zb hN Z (qe Z (zb hN Z (qd Z (za (vi Z Z) (qd Z (yp Z Z (fun hc=>ze (.dat _) Z) (yp Z Z (fun hc=>vi (cnd (c:=(!(decide (method1=[71,69,84])))) hc) Z) (za (wy Z Z (fun hb=>(cnd (c:=(!(decide (method1=[71,69,84])))) (notI hb)))) (qe Z (zk ?_))))))))))
 cases H
 exact ⟨U,.inl Z,U⟩
theorem w6t (s1:(List Int)) (v2:Int) (r:(Int)) (H:y7y s1 v2=some r):Fn Tryz.prog 208 [vlst (List.map qx s1),vint v2] (zr [vint r]):=by
 refine ⟨by kernel_rfl,yf (us:=[vint r]) Tryz.func208 Z Z Z Z fun X hN => ?_⟩
 unfold y7y at H
 refine zb hN Z (qe Z (zd (zb hN Z (qd Z (za (qh z7o Z) (qd Z (yc (gE H fun h5 H=>va (fun (k3:Nat) (s:Unit)=>[(0,.dat (vlst (List.map qx s1))),(1,.dat (vint v2)),(7,.dat (vint (s1.length:Int))),(8,.dat (vint (k3:Int)))]) (fun (k3:Nat) (s:Unit)=>[]) () H ⟨Z,Z,Z,Z,U⟩ U (fun _ _=>Z) ?_ ?_))))))))
 ·rintro ⟨⟩ H
  replace H:y6s=some r:=H
  unfold y6s at H
  refine zb hN Z (za (ye Z Z) (zd (zh _ Z (fun h=>(lt_t h).elim) (fun h => ?_))))
  refine yz (zb hN Z (qe Z (zk ?_)))
  cases H
  exact ⟨U,.inl Z,U⟩
 ·rintro k3 x6 ⟨⟩ q4 h7 h8 H hq4
  replace H:y6r v2 k3 x6=some q4:=H
  unfold y6r at H
  refine zb hN Z (za (ye Z Z) (zd (zh _ Z (fun h => ?_) (fun h=>(lt_f h7 h).elim))))
  refine zn (zd (yc (zb hN Z (qd Z (qe Z (zb hN Z (qd Z (qd Z (qd Z (za (wj Qa (fun _=>Z) Z Z h8) (za (wh tyS3 Z (qp h8) Z) (za (yq Z Z) (zh _ Z (fun h9 => ?_) (fun h9 => ?_))))))))))))))
  ·refine tE h9 H fun H=>zb hN Z (qd Z (qe Z (zk ?_)))
   replace H:=retl H hq4
   cases H
   exact ⟨U,.inl Z,U⟩
  ·exact fE h9 H fun H=>zn (zj hN Z (za (qy Z Z (by omega)) (qd Z ⟨_,qm H,⟨Z,Z,Z,Z,U⟩,U⟩)))
theorem w6y (s1:(List Int)) (v2:Int) (r:(Bool)) (H:y23 s1 v2=some r):Fn Tryz.prog 159 [vlst (List.map qx s1),vint v2] (zr [zi r]):=by
 refine ⟨by kernel_rfl,yf (us:=[zi r]) Tryz.func159 Z Z Z Z fun X hN => ?_⟩
 unfold y23 at H
 refine zb hN Z (qe Z (zb hN Z (qd Z (qd Z (bE H fun r3 h4 H=>za (zo (w6t s1 v2 r3 h4) ⟨.inl Z,.inl Z,U⟩) (za (vk Z Z) (qe Z (zk ?_))))))))
 cases H
 exact ⟨U,.inl Z,U⟩
theorem w8a (status1:Int) (r:(Bool)) (H:y3j status1=some r):Fn Tryz.prog 95 [vint status1] (zr [zi r]):=by
 refine ⟨by kernel_rfl,yf (us:=[zi r]) Tryz.func95 Z Z Z Z fun X hN => ?_⟩
 unfold y3j at H
 refine zb hN Z (qe Z (zb hN Z (za (yd (u':=vlst (List.map qx [200,203,204,300,301,404,410])) (qj [[_],[_],[_],[_],[_],[_],[_]] z7r ⟨Z,.inl ⟨_,Z,Z,Z⟩,Z,Z,.inl ⟨_,Z,Z,Z⟩,Z,Z,.inl ⟨_,Z,Z,Z⟩,Z,Z,.inl ⟨_,Z,Z,Z⟩,Z,Z,.inl ⟨_,Z,Z,Z⟩,Z,Z,.inl ⟨_,Z,Z,Z⟩,Z,Z,.inl ⟨_,Z,Z,Z⟩,Z,U⟩ Z Z) Z) (qd Z (bE H fun r2 h3 H=>za (zo (w6y [200,203,204,300,301,404,410] status1 r2 h3) ⟨.inl Z,.inl Z,U⟩) (qe Z (zk ?_)))))))
 cases H
 exact ⟨U,.inl Z,U⟩
theorem w76 (v1:zw) (v2:yb) (r:(Bool×Int)) (H:z5y v1 v2=some r):Fn Tryz.prog 42 [vagg (qq v1),vagg (qf v2)] (zr [zi r.1,vint r.2]):=by
 refine ⟨by kernel_rfl,yf (us:=[zi r.1,vint r.2]) Tryz.func42 Z Z Z Z fun X hN => ?_⟩
 unfold z5y at H
 refine zb hN Z (zl (we 1 Z) Z (zl (we 2 Z) Z (qe Z (qe Z (zb hN Z (za (zq jt Z) (zm (zt qu Z Z) Z (bE H fun r3 h4 H=>za (zo (z9w v1.Headers r3 h4) ⟨.inl Z,U⟩) (qd Z (za (zz Z Z) (za (zz Z Z) (zl (qt 3 Yx Z) Z (zl (yx ub Z Z Z Z) Z (qe Z (zd (zb hN Z (qd Z (za (yy Z Z) (zh _ Z (fun h5 => ?_) (fun h5 => ?_))))))))))))))))))))
 ·refine tE h5 H fun H=>zb hN Z (qd Z (qe Z (qe Z (zk ?_))))
  cases H
  exact ⟨U,.inl Z,.inl Z,U⟩
 ·refine fE h5 H fun H=>zn (zb hN Z (za (zq kq Z) (zm (zt qu Z Z) Z (bE H fun r6 h7 H=>za (zo (z9w v2.Headers r6 h7) ⟨.inl Z,U⟩) (qd Z (za (zz Z Z) (za (zz Z Z) (zl (qt 4 Yx Z) Z (zl (yx ub Z Z Z Z) Z (qe Z (zd (zb hN Z (qd Z (za (yy Z Z) (zh _ Z (fun h8 => ?_) (fun h8 => ?_))))))))))))))))
  ·refine tE h8 H fun H=>zb hN Z (qd Z (qe Z (qe Z (zk ?_))))
   cases H
   exact ⟨U,.inl Z,.inl Z,U⟩
  ·refine fE h8 H fun H=>zn (zb hN Z (zm (yr qg Z Z Z) Z (bE H fun r9 h10 H=>za (zo (y89 v2 r9 h10) ⟨.inl Z,U⟩) (qd Z (za (zz Z Z) (za (zz Z Z) (za (zz Z Z) (qe Z (qe Z (qe Z (zd (zb hN Z (qd Z (za (yy Z Z) (zh _ Z (fun h11 => ?_) (fun h11 => ?_))))))))))))))))
   ·refine tE h11 H fun H=>zb hN Z (qd Z (qe Z (qe Z (zk ?_))))
    cases H
    exact ⟨U,.inl Z,.inl Z,U⟩
   ·refine fE h11 H fun H=>zn (zb hN Z (za (zq jt Z) (zm (zt qu Z Z) Z (bE H fun r12 h13 H=>za (zo (x6o v1.Headers [97,117,116,104,111,114,105,122,97,116,105,111,110] r12 h13) ⟨.inl Z,.inl Z,U⟩) (qd Z (ql Z Z (fun hc=>zq x1p Z) (z4i Z Z (fun hc=>zt tyS4 (cnd (c:=r12) hc) Z) Z uh (ql Z Z (fun hc=>yt (cnd (c:=r12) hc)) (za (wz Z (fun hb=>(cnd (c:=r12) hb)) Z) (qd Z (ql Z Z (fun hc=>zq y5z Z) (z4i Z Z (fun hc=>zt tyS4 (cnd (c:=(r12 && (!r6.1.Public))) hc) Z) Z uh (ql Z Z (fun hc=>yt (cnd (c:=(r12 && (!r6.1.Public))) hc)) (za (wz Z (fun hb=>(cnd (c:=(r12 && (!r6.1.Public))) hb)) Z) (qd Z (ql Z Z (fun hc=>zq y1j Z) (z4i Z Z (fun hc=>zt tyS3 (cnd (c:=((r12 && (!r6.1.Public)) && (!r6.1.Must))) hc) Z) Z uh (ql Z Z (fun hc=>yq (cnd (c:=((r12 && (!r6.1.Public)) && (!r6.1.Must))) hc) Z) (za (wz Z (fun hb=>(cnd (c:=((r12 && (!r6.1.Public)) && (!r6.1.Must))) hb)) Z) (qe Z (yg (ι:=Bool) (fun i=>[(4,.dat (zi i)),(5,.dat (vint 0))]) (fun i=>[]) (fun i=>ka i=some r) (fun i=>Z) ?_ ?_)))))))))))))))))))))
    ·skip
     refine zj hN Z (za (zq ul Z) (zm (zt tyS9 Z Z) Z (bE H fun r14 h15 H=>za (zo (w79 v1.Method r14 h15) ⟨.inl Z,U⟩) (qd Z (yn (j:=3) Z Z (fun h16 => ?_) (fun h16 => ?_) Z)))))
     ·refine u1 h16 H fun h17 H=>zf Z Z h16 (zq xr Z) (vc Z Z h16 (zt tyS3 Z Z) Z (bE H fun r18 h19 H=>zf Z Z h16 (zo (w8a v2.Status r18 h19) ⟨.inl Z,U⟩) (za (ya Z (bTT h17) Z) (qd Z (yn (j:=8) Z Z (fun h20 => ?_) (fun h20 => ?_) Z)))))
      ·refine u1 h20 H fun h21 H=>zf Z Z h20 (zq y52 Z) (vc Z Z h20 (zt tyS4 Z Z) Z (zf Z Z h20 (yt Z) (za (ya Z (bTT h21) Z) (qd Z (yn (j:=13) Z Z (fun h22 => ?_) (fun h22 => ?_) Z)))))
       ·refine u1 h22 H fun h23 H=>zf Z Z h22 (zq y52 Z) (vc Z Z h22 (zt tyS4 Z Z) Z (zf Z Z h22 (yt Z) (za (ya Z (bTT h23) Z) (qd Z (yn (j:=18) Z Z (fun h24 => ?_) (fun h24 => ?_) Z)))))
        ·refine u1 h24 H fun h25 H=>zf Z Z h24 (zq x1q Z) (vc Z Z h24 (zt tyS4 Z Z) Z (zf Z Z h24 (yt Z) (za (ya Z (bTT h25) Z) (qd Z (yn (j:=23) Z Z (fun h26 => ?_) (fun h26 => ?_) Z)))))
         ·refine u1 h26 H fun h27 H=>zf Z Z h26 (ze (.dat _) Z) (zf Z Z h26 (yt Z) (za (ya Z (bTT h27) Z) (qd Z (yn (j:=27) Z Z (fun h28 => ?_) (fun h28 => ?_) Z))))
          ·refine u1 h28 H fun h29 H=>zf Z Z h28 (ze (.dat _) Z) (zf Z Z h28 (yt Z) (za (ya Z (bTT h29) Z) (qd Z (yn (j:=31) Z Z (fun h30 => ?_) (fun h30 => ?_) Z))))
           ·refine u1 h30 H fun h31 H=>vc Z Z h30 (yr ub Z Z Z) Z (bE H fun r32 h33 H=>zf Z Z h30 (zo (y9a r6.1 r32 h33) ⟨.inl Z,U⟩) (zf Z Z h30 (wb Z Z) (zf Z Z h30 (ze (.dat _) Z) (yn (j:=35) Z Z (fun h34 => ?_) (fun h34 => ?_) Z))))
            ·exact u3 h34 H fun h35 H=>zf Z Z h34 (zq kq Z) (vc Z Z h34 (zt qu Z Z) Z (bE H fun r36 h37 H=>zf Z Z h34 (zo (x6o v2.Headers [101,116,97,103] r36 h37) ⟨.inl Z,.inl Z,U⟩) (zf Z Z h30 (zv Z (bFF h35) Z) (za (ya Z (bTT h31) Z) (qe Z (qe Z ⟨r36,H,⟨Z,Z,U⟩,U⟩))))))
            ·exact u4 h34 H fun h38 H=>zc Z Z h34 (zc Z Z h34 (zc Z Z h34 (zf Z Z h30 (ya Z (bTT h38) Z) (za (ya Z (bTT h31) Z) (qe Z (qe Z ⟨true,H,⟨Z,Z,U⟩,U⟩))))))
           ·exact u2 h30 H fun h39 H=>zc Z Z h30 (zc Z Z h30 (zc Z Z h30 (zc Z Z h30 (yj Z Z (yj Z Z (yj Z Z (zc Z Z h30 (za (zv Z (bFF h39) Z) (qe Z (qe Z ⟨false,H,⟨Z,Z,U⟩,U⟩))))))))))
          ·exact u2 h28 H fun h40 H=>zc Z Z h28 (zc Z Z h28 (za (zv Z (bFF h40) Z) (qd Z (zc Z Z Z (zc Z Z Z (zc Z Z Z (zc Z Z Z (yj Z Z (yj Z Z (yj Z Z (zc Z Z Z (za (zv Z Z Z) (qe Z (qe Z ⟨false,H,⟨Z,Z,U⟩,U⟩))))))))))))))
         ·exact u2 h26 H fun h41 H=>zc Z Z h26 (zc Z Z h26 (za (zv Z (bFF h41) Z) (qd Z (zc Z Z Z (zc Z Z Z (za (zv Z Z Z) (qd Z (zc Z Z Z (zc Z Z Z (zc Z Z Z (zc Z Z Z (yj Z Z (yj Z Z (yj Z Z (zc Z Z Z (za (zv Z Z Z) (qe Z (qe Z ⟨false,H,⟨Z,Z,U⟩,U⟩))))))))))))))))))
        ·refine u2 h24 H fun h42 H=>zc Z Z h24 (zc Z Z h24 (zc Z Z h24 (za (zv Z (bFF h42) Z) (qd Z (zc Z Z Z (zc Z Z Z (za (zv Z Z Z) (qd Z (zc Z Z Z (zc Z Z Z (za (zv Z Z Z) (qd Z (zc Z Z Z (zc Z Z Z (zc Z Z Z (zc Z Z Z (yj Z Z (yj Z Z (yj Z Z (zc Z Z Z (za (zv Z Z Z) (qe Z ?_))))))))))))))))))))))
         exact qe Z ⟨false,H,⟨Z,Z,U⟩,U⟩
       ·refine u2 h22 H fun h43 H=>zc Z Z h22 (zc Z Z h22 (zc Z Z h22 (za (zv Z (bFF h43) Z) (qd Z (zc Z Z Z (zc Z Z Z (zc Z Z Z (za (zv Z Z Z) (qd Z (zc Z Z Z (zc Z Z Z (za (zv Z Z Z) (qd Z (zc Z Z Z (zc Z Z Z (za (zv Z Z Z) (qd Z (zc Z Z Z (zc Z Z Z (zc Z Z Z (zc Z Z Z (yj Z Z ?_))))))))))))))))))))))
        exact yj Z Z (yj Z Z (zc Z Z Z (za (zv Z Z Z) (qe Z (qe Z ⟨false,H,⟨Z,Z,U⟩,U⟩)))))
      ·refine u2 h20 H fun h44 H=>zc Z Z h20 (zc Z Z h20 (zc Z Z h20 (za (zv Z (bFF h44) Z) (qd Z (zc Z Z Z (zc Z Z Z (zc Z Z Z (za (zv Z Z Z) (qd Z (zc Z Z Z (zc Z Z Z (zc Z Z Z (za (zv Z Z Z) (qd Z (zc Z Z Z (zc Z Z Z (za (zv Z Z Z) (qd Z (zc Z Z Z (zc Z Z Z (za (zv Z Z Z) (qd Z ?_))))))))))))))))))))))
       exact zc Z Z Z (zc Z Z Z (zc Z Z Z (zc Z Z Z (yj Z Z (yj Z Z (yj Z Z (zc Z Z Z (za (zv Z Z Z) (qe Z (qe Z ⟨false,H,⟨Z,Z,U⟩,U⟩))))))))))
     ·refine u2 h16 H fun h45 H=>zc Z Z h16 (zc Z Z h16 (zc Z Z h16 (za (zv Z (bFF h45) Z) (qd Z (zc Z Z Z (zc Z Z Z (zc Z Z Z (za (zv Z Z Z) (qd Z (zc Z Z Z (zc Z Z Z (zc Z Z Z (za (zv Z Z Z) (qd Z (zc Z Z Z (zc Z Z Z (zc Z Z Z (za (zv Z Z Z) (qd Z (zc Z Z Z (zc Z Z Z (za (zv Z Z Z) ?_))))))))))))))))))))))
      exact qd Z (zc Z Z Z (zc Z Z Z (za (zv Z Z Z) (qd Z (zc Z Z Z (zc Z Z Z (zc Z Z Z (zc Z Z Z (yj Z Z (yj Z Z (yj Z Z (zc Z Z Z (za (zv Z Z Z) (qe Z (qe Z ⟨false,H,⟨Z,Z,U⟩,U⟩)))))))))))))))
    ·rintro v46 H
     replace H:ka v46=some r:=H
     unfold ka at H
     refine zk ?_
     cases H
     exact ⟨U,.inl Z,.inl Z,U⟩
theorem w6n (s:Bs) (p:Int→Option Bool) (fv:Nat) (us:List V) (hp:∀ a r,p a=some r→Fn Tryz.prog fv ([vval (.int .i32 a)]++us) (zr [zi r])) (r:List Bs) (H:z5d s p=some r):Fn Tryz.prog 96 [vstr s,vfn fv us] (zr [vlst (List.map zx r)]):=by
 obtain ⟨h1,h2,h3,rfl⟩:=w94 H
 obtain ⟨b0,hb0⟩:=Option.isSome_iff_exists.1 (h3 0)
 have hok:=(hp 0 b0 hb0).1
 refine y93 (x7x (args:=[vstr s,vfn fv us]) (e:=9) (size:=1) (es:=List.map zx (ffGo (fun c=>(p (c.toNat:Int)).getD false) [] s)) (by kernel_rfl) (by decide) (fun el hel=>by obtain ⟨y,_,rfl⟩:=List.mem_map.1 hel; rfl) fun M w vs hM hvs => ?_)
 obtain ⟨v0,e0,p0⟩:=hvs.2 0 _ rfl
 obtain ⟨v1,e1,l,p1,p2⟩:=hvs.2 1 _ rfl
 have p0:v0 = .string ⟨s.toArray⟩:=p0
 obtain rfl:vs=[.string ⟨s.toArray⟩,.func (.func fv) #[] l.toArray]:=by
  match vs,hvs.1,e0,e1 with
  | [a,b],_,e0,e1=>simp at e0 e1; rw [e0,e1,p0,p1]
 have hpc:=w95 (fun n=>(p (n:Int)).getD false) (fun c=>(p (c.toNat:Int)).getD false) s (fun _ _=>Z) h1
 have hlen:(Lib.goFieldsP (fun n=>(p (n:Int)).getD false) ⟨s.toArray⟩).length=(ffGo (fun c=>(p (c.toNat:Int)).getD false) [] s).length:=by
  have:=congrArg List.length hpc
  simpa using this
 refine (Tryz.strings_FieldsFunc_grows fv l.toArray (v0d hok) (fun n=>(p (n:Int)).getD false) ⟨s.toArray⟩ w (by simp [ByteArray.size]; omega) (w88 hp h3 hM p2)).mono ?_
 rintro e w' ⟨A,rfl,hA,hown,hb⟩
 rw [hlen,hpc] at hown
 rw [hlen]
 refine ⟨_,_,Z,w5v hb,by rw [List.length_map]; exact hown,fun M' _ k c el u hk hc => ?_⟩
 rw [List.getElem?_map] at hk
 cases hq:(ffGo (fun c=>(p (c.toNat:Int)).getD false) [] s)[k]? with
 | none=>rw [hq] at hk; cases hk
 | some y =>
  rw [hq] at hk
  cases hk
  rcases c with _ | c
  ·cases hc
   exact ⟨Value.string ⟨y.toArray⟩,by rw [Nat.mul_one,Nat.add_zero,List.getElem?_map,hq]; rfl,rfl,rfl⟩
  ·simp at hc
theorem w73 (r1:Int) (r:(Bool)) (H:z0t r1=some r):Fn Tryz.prog 97 [vval (.int .i32 r1)] (zr [zi r]):=by
 refine ⟨by kernel_rfl,yf (us:=[zi r]) Tryz.func97 Z Z Z Z fun X hN => ?_⟩
 unfold z0t at H
 refine zb hN Z (qe Z (zb hN Z (qd Z (za (yq Z Z) (qd Z (yp Z Z (fun hc=>ze (.dat _) Z) (yp Z Z (fun hc=>yq (cnd (c:=(!(decide (r1=32)))) hc) Z) (za (wy Z Z (fun hb=>(cnd (c:=(!(decide (r1=32)))) (notI hb)))) (qe Z (zk ?_))))))))))
 cases H
 exact ⟨U,.inl Z,U⟩
theorem w74 (a1:yb) (r:((List Bs)×Int)) (H:z9k a1=some r):Fn Tryz.prog 43 [vagg (qf a1)] (zr [vlst (List.map zx r.1),vint r.2]):=by
 refine ⟨by kernel_rfl,yf (us:=[vlst (List.map zx r.1),vint r.2]) Tryz.func43 Z Z Z Z fun X hN => ?_⟩
 unfold z9k at H
 refine zb hN Z (zl (we 1 Z) Z (qe Z (qe Z (zb hN Z (qe Z (zd (zb hN Z (za (zq kq Z) (zm (zt qu Z Z) Z (bE H fun r2 h3 H=>za (zo (Zh a1.Headers [99,97,99,104,101,45,116,97,103] r2 h3) ⟨.inl Z,.inl Z,U⟩) (za (qh wl Z) (qd Z (yc (ug 4 2 9 1 Z Z Z (gE H fun h7 H=>va (fun (k5:Nat) (s:(List Bs))=>[(4,.row 2 s.length),(11,.dat (vlst (List.map zx r2))),(12,.dat (vint (r2.length:Int))),(13,.dat (vint (k5:Int)))]) (fun (k5:Nat) (s:(List Bs))=>[(2,.row 9 1 (List.map zx s))]) [] H ⟨Z,Z,Z,Z,U⟩ ⟨Z,U⟩ (fun _ _=>Z) ?_ ?_)))))))))))))))
 ·rintro l4 H
  replace H:z68 l4=some r:=H
  unfold z68 at H
  refine zb hN Z (za (ye Z Z) (zd (zh _ Z (fun h=>(lt_t h).elim) (fun h => ?_))))
  refine yz (zd (zb hN Z (za (ze (.row _ _) Z) (zm (Wp wl Z Z) Z (qd Z (yc (gE H fun h11 H=>z3z (fun (k9:Nat) (s:Unit)=>[(4,.row 2 l4.length),(22,.row 2 l4.length),(23,.dat (vint (l4.length:Int))),(24,.dat (vint (k9:Int)))]) (fun (k9:Nat) (s:Unit)=>[(2,.row 9 1 (List.map zx l4))]) () H ⟨Z,Z,Z,Z,U⟩ ⟨Z,U⟩ (fun _ _=>Z) ?_ ?_)))))))
  ·rintro ⟨⟩ H
   replace H:y0w l4=some r:=H
   unfold y0w at H
   refine zb hN Z (za (ye Z Z) (zd (zh _ Z (fun h=>(lt_t h).elim) (fun h => ?_))))
   refine yz (zd (z1l 4 2 Z Z Z (zj hN Z (qd Z (bE H fun r12 h13 H=>za (zo (x6g l4 r12 h13) ⟨.inl Z,U⟩) (qe Z (zd (zb hN Z (qd Z (za (qh wl Z) (za (wb Z Z) (zh _ Z (fun h14 => ?_) (fun h14 => ?_)))))))))))))
   ·refine tE h14 H fun H=>zb hN Z (qe Z (qe Z (zk ?_)))
    cases H
    exact ⟨U,.inr ⟨Z,Z⟩,.inl Z,U⟩
   ·refine fE h14 H fun H=>zn (zb hN Z (qd Z (qe Z (qe Z (zk ?_)))))
    cases H
    exact ⟨U,.inl Z,.inl Z,U⟩
  ·rintro k9 ⟨⟩ q10 h15 H hq10
   replace H:z3v l4 k9=some q10:=H
   unfold z3v at H
   refine zb hN Z (za (ye Z Z) (zd (zh _ Z (fun h => ?_) (fun h=>(lt_f h15 h).elim))))
   refine zn (zd (yc (zb hN Z (bE H fun x16 h17 H=>zm (Wq vp Z Z Z h17) Z (zm (z4c tyS9 Z Z h17 Z) Z (qe Z (zb hN Z (qd Z (bE H fun r18 h19 H=>za (zo (x6i x16 r18 h19) ⟨.inl Z,U⟩) (za (yt Z) (zh _ Z (fun h20 => ?_) (fun h20 => ?_))))))))))))
   ·refine tE h20 H fun H=>zb hN Z (qe Z (qe Z (zk ?_)))
    replace H:=retl H hq10
    cases H
    exact ⟨U,.inr ⟨Z,Z⟩,.inl Z,U⟩
   ·exact fE h20 H fun H=>zn (zj hN Z (za (qy Z Z (by omega)) (qd Z ⟨_,qm H,⟨Z,Z,Z,Z,U⟩,⟨Z,U⟩⟩)))
 ·rintro k5 x8 l4 q6 h21 h22 H hq6
  replace H:z3w k5 x8 l4=some q6:=H
  unfold z3w at H
  refine zb hN Z (za (ye Z Z) (zd (zh _ Z (fun h => ?_) (fun h=>(lt_f h21 h).elim))))
  exact zn (zd (yc (zb hN Z (za (wj vp (fun _=>Z) Z Z h22) (za (wh tyS9 Z (qp h22) Z) (qe Z (zj hN Z (za (ze (.row _ _) Z) (qd Z (bE H fun r23 h24 H=>za (w2h (w6n x8 (fun (a0:Int)=>z0t a0) 97 [] (fun a0 r h=>w73 a0 r h) r23 h24) ⟨.inl (.inl Z),.inr ⟨_,Z,Z⟩,U⟩) (gE H fun h25 H=>zl (y6c qr (fun _=>Z) Z Z Z h25 Z) Z (za (qs (.row _ _) Z) (zj hN Z (za (qy Z Z (by omega)) (qd Z ⟨_,qm H,⟨Z,Z,Z,Z,U⟩,⟨Z,U⟩⟩)))))))))))))))
theorem w6u (s1:(List Bs)) (p1:Bs→Option (Bool)) (fv1:Nat) (us1:List V) (hp1:∀ a0 r,p1 a0=some r→Fn Tryz.prog fv1 ([vstr a0]++us1) (zr [zi r])) (r:(Int)) (H:y7z s1 p1=some r):Fn Tryz.prog 227 [vlst (List.map zx s1),vfn fv1 us1] (zr [vint r]):=by
 refine ⟨by kernel_rfl,yf (us:=[vint r]) Tryz.func227 Z Z Z Z fun X hN => ?_⟩
 unfold y7z at H
 refine zb hN Z (qe Z (zd (zb hN Z (qd Z (za (qh wl Z) (qd Z (yc (gE H fun h4 H=>va (fun (k2:Nat) (s:Unit)=>[(0,.dat (vlst (List.map zx s1))),(1,.dat (vfn fv1 us1)),(7,.dat (vint (s1.length:Int))),(8,.dat (vint (k2:Int)))]) (fun (k2:Nat) (s:Unit)=>[]) () H ⟨Z,Z,Z,Z,U⟩ U (fun _ _=>Z) ?_ ?_))))))))
 ·rintro ⟨⟩ H
  replace H:y6u=some r:=H
  unfold y6u at H
  refine zb hN Z (za (ye Z Z) (zd (zh _ Z (fun h=>(lt_t h).elim) (fun h => ?_))))
  refine yz (zb hN Z (qe Z (zk ?_)))
  cases H
  exact ⟨U,.inl Z,U⟩
 ·rintro k2 x5 ⟨⟩ q3 h6 h7 H hq3
  replace H:y6t p1 k2 x5=some q3:=H
  unfold y6t at H
  refine zb hN Z (za (ye Z Z) (zd (zh _ Z (fun h => ?_) (fun h=>(lt_f h6 h).elim))))
  refine zn (zd (yc (zb hN Z (qd Z (qe Z (zb hN Z (qd Z (qd Z (qd Z (za (wj vp (fun _=>Z) Z Z h7) (za (wh tyS9 Z (qp h7) Z) (bE H fun r8 h9 H=>za (z1q (hp1 x5 r8 h9) Z ⟨.inl Z,U⟩) (zh _ Z (fun h10 => ?_) (fun h10 => ?_))))))))))))))
  ·refine tE h10 H fun H=>zb hN Z (qd Z (qe Z (zk ?_)))
   replace H:=retl H hq3
   cases H
   exact ⟨U,.inl Z,U⟩
  ·exact fE h10 H fun H=>zn (zj hN Z (za (qy Z Z (by omega)) (qd Z ⟨_,qm H,⟨Z,Z,Z,Z,U⟩,U⟩)))
theorem w6z (s1:(List Bs)) (p1:Bs→Option (Bool)) (fv1:Nat) (us1:List V) (hp1:∀ a0 r,p1 a0=some r→Fn Tryz.prog fv1 ([vstr a0]++us1) (zr [zi r])) (r:(Bool)) (H:z5j s1 p1=some r):Fn Tryz.prog 175 [vlst (List.map zx s1),vfn fv1 us1] (zr [zi r]):=by
 refine ⟨by kernel_rfl,yf (us:=[zi r]) Tryz.func175 Z Z Z Z fun X hN => ?_⟩
 unfold z5j at H
 refine zb hN Z (qe Z (zb hN Z (qd Z (qd Z (bE H fun r2 h3 H=>za (zo (w6u s1 p1 fv1 us1 hp1 r2 h3) ⟨.inl Z,.inl Z,U⟩) (za (vk Z Z) (qe Z (zk ?_))))))))
 cases H
 exact ⟨U,.inl Z,U⟩
theorem w6x (s1:(List Bs)) (s2:(List Bs)) (r:(Bool)) (H:z5g s1 s2=some r):Fn Tryz.prog 177 [vlst (List.map zx s1),vlst (List.map zx s2)] (zr [zi r]):=by
 refine ⟨by kernel_rfl,yf (us:=[zi r]) Tryz.func177 Z Z Z Z fun X hN => ?_⟩
 unfold z5g at H
 refine zb hN Z (qe Z (zd (zb hN Z (qd Z (za (qh wl Z) (qd Z (za (qh wl Z) (za (yy Z Z) (zh _ Z (fun h3 => ?_) (fun h3 => ?_))))))))))
 ·refine tE h3 H fun H=>zb hN Z (qe Z (zk ?_))
  cases H
  exact ⟨U,.inl Z,U⟩
 ·refine fE h3 H fun H=>zn (zd (zb hN Z (qd Z (za (qh wl Z) (qd Z (yc (gE H fun h6 H=>va (fun (k4:Nat) (s:Unit)=>[(0,.dat (vlst (List.map zx s1))),(1,.dat (vlst (List.map zx s2))),(12,.dat (vint (s1.length:Int))),(13,.dat (vint (k4:Int)))]) (fun (k4:Nat) (s:Unit)=>[]) () H ⟨Z,Z,Z,Z,U⟩ U (fun _ _=>Z) ?_ ?_)))))))
  ·rintro ⟨⟩ H
   replace H:y6z=some r:=H
   unfold y6z at H
   refine zb hN Z (za (ye Z Z) (zd (zh _ Z (fun h=>(lt_t h).elim) (fun h => ?_))))
   refine yz (zb hN Z (qe Z (zk ?_)))
   cases H
   exact ⟨U,.inl Z,U⟩
  ·rintro k4 x7 ⟨⟩ q5 h8 h9 H hq5
   replace H:y13 s2 k4 x7=some q5:=H
   unfold y13 at H
   refine zb hN Z (za (ye Z Z) (zd (zh _ Z (fun h => ?_) (fun h=>(lt_f h8 h).elim))))
   refine zn (zd (yc (zb hN Z (qd Z (qe Z (zd (ww mixed hN Z Z (qd Z (qd Z (za (wj vp (fun _=>Z) Z Z h9) (za (wh tyS9 Z (qp h9) Z) (qd Z (qd Z (bE H fun x10 h11 H=>za (wj vp (fun _=>Z) Z Z h11) (za (wh tyS9 Z (qp h11) Z) (za (jo Z Z) ⟨Z,?_⟩))))))))))))))))
   refine zh _ Z (fun h12 => ?_) (fun h12 => ?_)
   ·refine tE h12 H fun H=>zb hN Z (qe Z (zk ?_))
    replace H:=retl H hq5
    cases H
    exact ⟨U,.inl Z,U⟩
   ·exact fE h12 H fun H=>zn (zj hN Z (za (qy Z Z (by omega)) (qd Z ⟨_,qm H,⟨Z,Z,Z,Z,U⟩,U⟩)))
theorem w75 (n1:Bs) (c2:zw) (c3:zw) (r:(Bool)) (H:z2u n1 c2 c3=some r):Fn Tryz.prog 176 [vstr n1,kb [[vint c2.At,vstr c2.Method,vstr c2.Host,vstr c2.Path,vstr c2.Query,vstr c2.From,vlst (List.map zy c2.Headers),vstr c2.Body]] 0 0,kb [[vint c3.At,vstr c3.Method,vstr c3.Host,vstr c3.Path,vstr c3.Query,vstr c3.From,vlst (List.map zy c3.Headers),vstr c3.Body]] 0 0] (zr [zi r]):=by
 refine ⟨by kernel_rfl,yf (us:=[zi r]) Tryz.func176 Z Z Z Z fun X hN => ?_⟩
 unfold z2u at H
 refine zb hN Z (qe Z (zd (ww mixed hN Z Z (za (y1v jt Z) (za (wh qu Z Z Z) (qd Z (bE H fun r4 h5 H=>za (zo (Zh c2.Headers n1 r4 h5) ⟨.inl Z,.inl Z,U⟩) (za (y1v jt Z) (za (wh qu Z Z Z) (qd Z (bE H fun r6 h7 H=>za (zo (Zh c3.Headers n1 r6 h7) ⟨.inl Z,.inl Z,U⟩) (bE H fun r8 h9 H=>za (zo (w6x r4 r6 r8 h9) ⟨.inl Z,.inl Z,U⟩) (za (yt Z) (qe Z ⟨Z,?_⟩))))))))))))))
 refine zk ?_
 cases H
 exact ⟨U,.inl Z,U⟩
theorem x6l (own1:zw) (a2:yb) (r3:zw) (r:(Bool)) (H:z0u own1 a2 r3=some r):Fn Tryz.prog 111 [vagg (qq own1),vagg (qf a2),vagg (qq r3)] (zr [zi r]):=by
 refine ⟨by kernel_rfl,yf (us:=[zi r]) Tryz.func111 Z Z Z Z fun X hN => ?_⟩
 unfold z0u at H
 refine zb hN Z (zl (we 1 Z) Z (zl (we 2 Z) Z (zl (we 3 Z) Z (qe Z (zd (zb hN Z (za (zq z1g Z) (zm (zt tyS9 Z Z) Z (za (zq z1g Z) (zm (zt tyS9 Z Z) Z (za (jo Z Z) (qd Z (yp Z Z (fun hc=>zq Yz Z) (Wx Z Z (fun hc=>zt tyS9 (cnd (c:=(!(decide (own1.Host≠r3.Host)))) hc) Z) Z uh (yp Z Z (fun hc=>zq Yz Z) (Wx Z Z (fun hc=>zt tyS9 (cnd (c:=(!(decide (own1.Host≠r3.Host)))) hc) Z) Z uh (yp Z Z (fun hc=>jo (cnd (c:=(!(decide (own1.Host≠r3.Host)))) hc) (cnd (c:=(!(decide (own1.Host≠r3.Host)))) hc)) (za (wy Z Z (fun hb=>(cnd (c:=(!(decide (own1.Host≠r3.Host)))) (notI hb)))) (qd Z (yp Z Z (fun hc=>zq Yd Z) (Wx Z Z (fun hc=>zt tyS9 (cnd (c:=(!((decide (own1.Host≠r3.Host)) || (decide (own1.Path≠r3.Path))))) hc) Z) Z uh (yp Z Z (fun hc=>zq Yd Z) (Wx Z Z (fun hc=>zt tyS9 (cnd (c:=(!((decide (own1.Host≠r3.Host)) || (decide (own1.Path≠r3.Path))))) hc) Z) Z uh ?_)))))))))))))))))))))))
 refine yp Z Z (fun hc=>jo (cnd (c:=(!((decide (own1.Host≠r3.Host)) || (decide (own1.Path≠r3.Path))))) hc) (cnd (c:=(!((decide (own1.Host≠r3.Host)) || (decide (own1.Path≠r3.Path))))) hc)) (za (wy Z Z (fun hb=>(cnd (c:=(!((decide (own1.Host≠r3.Host)) || (decide (own1.Path≠r3.Path))))) (notI hb)))) (qd Z (yp Z Z (fun hc=>zq ul Z) (Wx Z Z (fun hc=>zt tyS9 (cnd (c:=(!(((decide (own1.Host≠r3.Host)) || (decide (own1.Path≠r3.Path))) || (decide (own1.Query≠r3.Query))))) hc) Z) Z uh (yp Z Z (fun hc=>zq ul Z) (Wx Z Z (fun hc=>zt tyS9 (cnd (c:=(!(((decide (own1.Host≠r3.Host)) || (decide (own1.Path≠r3.Path))) || (decide (own1.Query≠r3.Query))))) hc) Z) Z uh (yp Z Z (fun hc=>jo (cnd (c:=(!(((decide (own1.Host≠r3.Host)) || (decide (own1.Path≠r3.Path))) || (decide (own1.Query≠r3.Query))))) hc) (cnd (c:=(!(((decide (own1.Host≠r3.Host)) || (decide (own1.Path≠r3.Path))) || (decide (own1.Query≠r3.Query))))) hc)) (yp Z Z (fun hc=>ze (.dat _) (cnd (c:=(!(((decide (own1.Host≠r3.Host)) || (decide (own1.Path≠r3.Path))) || (decide (own1.Query≠r3.Query))))) hc)) (vd Z Z (fun hc=>zq ul Z) (x3n Z Z (fun hc=>zt tyS9 (cnd (c:=((!(((decide (own1.Host≠r3.Host)) || (decide (own1.Path≠r3.Path))) || (decide (own1.Query≠r3.Query)))) && (decide (own1.Method≠r3.Method)))) hc) Z) Z uh (vd Z Z (fun hc=>vi (cnd (c:=((!(((decide (own1.Host≠r3.Host)) || (decide (own1.Path≠r3.Path))) || (decide (own1.Query≠r3.Query)))) && (decide (own1.Method≠r3.Method)))) hc) Z) (vd Z Z (fun hc=>ze (.dat _) (cnd (c:=((!(((decide (own1.Host≠r3.Host)) || (decide (own1.Path≠r3.Path))) || (decide (own1.Query≠r3.Query)))) && (decide (own1.Method≠r3.Method)))) hc)) (vd Z Z (fun hc=>zq ul Z) (x3n Z Z (fun hc=>zt tyS9 (cnd (c:=(((!(((decide (own1.Host≠r3.Host)) || (decide (own1.Path≠r3.Path))) || (decide (own1.Query≠r3.Query)))) && (decide (own1.Method≠r3.Method))) && (decide (own1.Method=[71,69,84])))) hc) Z) Z uh (vd Z Z (fun hc=>vi (cnd (c:=(((!(((decide (own1.Host≠r3.Host)) || (decide (own1.Path≠r3.Path))) || (decide (own1.Query≠r3.Query)))) && (decide (own1.Method≠r3.Method))) && (decide (own1.Method=[71,69,84])))) hc) Z) (vd Z Z (fun hc=>wz (cnd (c:=((!(((decide (own1.Host≠r3.Host)) || (decide (own1.Path≠r3.Path))) || (decide (own1.Query≠r3.Query)))) && (decide (own1.Method≠r3.Method)))) hc) (fun hb=>(cnd (c:=(((!(((decide (own1.Host≠r3.Host)) || (decide (own1.Path≠r3.Path))) || (decide (own1.Query≠r3.Query)))) && (decide (own1.Method≠r3.Method))) && (decide (own1.Method=[71,69,84])))) (andI hc hb))) Z) (vd Z Z (fun hc=>yt (cnd (c:=((!(((decide (own1.Host≠r3.Host)) || (decide (own1.Path≠r3.Path))) || (decide (own1.Query≠r3.Query)))) && (decide (own1.Method≠r3.Method)))) hc)) (yp Z Z (fun hc=>wz (cnd (c:=(!(((decide (own1.Host≠r3.Host)) || (decide (own1.Path≠r3.Path))) || (decide (own1.Query≠r3.Query))))) hc) (fun hb=>(cnd (c:=((!(((decide (own1.Host≠r3.Host)) || (decide (own1.Path≠r3.Path))) || (decide (own1.Query≠r3.Query)))) && (decide (own1.Method≠r3.Method)))) (andI hc hb))) Z) (za (wy Z Z (fun hb=>(cnd (c:=(!(((decide (own1.Host≠r3.Host)) || (decide (own1.Path≠r3.Path))) || (decide (own1.Query≠r3.Query))))) (notI hb)))) (zh _ Z (fun h4 => ?_) (fun h4 => ?_)))))))))))))))))))))
 ·refine tE h4 H fun H=>zb hN Z (qe Z (zk ?_))
  cases H
  exact ⟨U,.inl Z,U⟩
 ·refine fE h4 H fun H=>zn (zb hN Z (zm (yr qg Z Z Z) Z (bE H fun r5 h6 H=>za (zo (y89 a2 r5 h6) ⟨.inl Z,U⟩) (qd Z (za (zz Z Z) (za (zz Z Z) (za (zz Z Z) (qe Z (qe Z (qe Z (zd (zb hN Z (qd Z (qd Z (yp Z Z (fun hc=>ze (.dat _) Z) (yp Z Z (fun hc=>yy (cnd (c:=(!r5.2.1)) hc) Z) (za (wy Z Z (fun hb=>(cnd (c:=(!r5.2.1)) (notI hb)))) (zh _ Z (fun h7 => ?_) (fun h7 => ?_)))))))))))))))))))
  ·refine tE h7 H fun H=>zb hN Z (qe Z (zk ?_))
   cases H
   exact ⟨U,.inl Z,U⟩
  ·refine fE h7 H fun H=>zn (zd (y00 1 [vint own1.At,vstr own1.Method,vstr own1.Host,vstr own1.Path,vstr own1.Query,vstr own1.From,vlst (List.map zy own1.Headers),vstr own1.Body] Z Z (y00 3 [vint r3.At,vstr r3.Method,vstr r3.Host,vstr r3.Path,vstr r3.Query,vstr r3.From,vlst (List.map zy r3.Headers),vstr r3.Body] Z Z (zj hN Z (qd Z (za (z8a (us:=[_,_]) ⟨Z,Z,U⟩) (bE H fun r8 h9 H=>za (zo (w6z r5.1 (fun (a0:Bs)=>z2u a0 own1 r3) 176 [kb [[vint own1.At,vstr own1.Method,vstr own1.Host,vstr own1.Path,vstr own1.Query,vstr own1.From,vlst (List.map zy own1.Headers),vstr own1.Body]] 0 0,kb [[vint r3.At,vstr r3.Method,vstr r3.Host,vstr r3.Path,vstr r3.Query,vstr r3.From,vlst (List.map zy r3.Headers),vstr r3.Body]] 0 0] (fun a0 r h=>w75 a0 own1 r3 r h) r8 h9) ⟨.inl Z,.inl Z,U⟩) (za (yt Z) (qe Z (zk ?_))))))))))
   cases H
   exact ⟨U,.inl Z,U⟩
theorem w8e (r1:zw) (r:(zw)) (H:z54 r1=some r):Fn Tryz.prog 112 [vagg (qq r1)] (zr [vagg (qq r)]):=by
 refine ⟨by kernel_rfl,yf (us:=[vagg (qq r)]) Tryz.func112 Z Z Z Z fun X hN => ?_⟩
 unfold z54 at H
 refine zb hN Z (zl (we 1 Z) Z (zl (qt 2 jm Z) Z (zb hN Z (za (zq jt Z) (zm (zt qu Z Z) Z (bE H fun r2 h3 H=>za (zo (x5z r1.Headers r2 h3) ⟨.inl Z,U⟩) (za (zq jt Z) (zl (jn qu Z Z Z Z) Z (zb hN Z (zm (yr qa Z Z Z) Z (zl (yx qa Z Z Z Z) Z (zk ?_))))))))))))
 cases H
 exact ⟨U,.inl ⟨_,_,_,qq (zw.mk r1.At r1.Method r1.Host r1.Path r1.Query r1.From r2 r1.Body),Z,Z,Z,Z,qa⟩,U⟩
theorem x6p (a1:yb) (r:(yb)) (H:z2w a1=some r):Fn Tryz.prog 113 [vagg (qf a1)] (zr [vagg (qf r)]):=by
 refine ⟨by kernel_rfl,yf (us:=[vagg (qf r)]) Tryz.func113 Z Z Z Z fun X hN => ?_⟩
 unfold z2w at H
 refine zb hN Z (zl (we 1 Z) Z (zl (qt 2 vu Z) Z (zb hN Z (za (zq kq Z) (zm (zt qu Z Z) Z (bE H fun r2 h3 H=>za (zo (x5z a1.Headers r2 h3) ⟨.inl Z,U⟩) (za (zq kq Z) (zl (jn qu Z Z Z Z) Z (zb hN Z (zm (yr qg Z Z Z) Z (zl (yx qg Z Z Z Z) Z (zk ?_))))))))))))
 cases H
 exact ⟨U,.inl ⟨_,_,_,qf (yb.mk a1.Status r2 a1.Body),Z,Z,Z,Z,qg⟩,U⟩
theorem w77 (e1:uj) (r:(Int)) (H:z2v e1=some r):Fn Tryz.prog 116 [vagg (x9m e1)] (zr [vint r]):=by
 refine ⟨by kernel_rfl,yf (us:=[vint r]) Tryz.func116 Z Z Z Z fun X hN => ?_⟩
 unfold z2v at H
 refine zb hN Z (zl (we 1 Z) Z (qe Z (zb hN Z (za (zq y53 Z) (za (zq z1g Z) (zm (zt tyS9 Z Z) Z (za (qi tyU9 Z) (za (zq y53 Z) (za (zq Yz Z) (zm (zt tyS9 Z Z) Z (za (qi tyU9 Z) (za (ym _ Z Z (.inl ⟨Z,Z⟩)) (za (zq y53 Z) (za (zq Yd Z) (zm (zt tyS9 Z Z) Z (za (qi tyU9 Z) (za (ym _ Z Z (.inl ⟨Z,Z⟩)) (za (zq z1j Z) (za (zq z1i Z) (zm (zt tyS9 Z Z) Z (za (qi tyU9 Z) (za (ym _ Z Z (.inl ⟨Z,Z⟩)) (za (ym _ Z Z (.inl ⟨Z,Z⟩)) ?_)))))))))))))))))))))))
 refine qe Z (zd (zb hN Z (za (zq z1j Z) (za (zq kq Z) (zm (zt qu Z Z) Z (za (qh kz Z) (qd Z (yc (gE H fun h5 H=>va (fun (k3:Nat) (s:Int)=>[(3,.dat (vint s)),(28,.dat (vlst (List.map zy e1.Response.Headers))),(29,.dat (vint (e1.Response.Headers.length:Int))),(30,.dat (vint (k3:Int)))]) (fun (k3:Nat) (s:Int)=>[]) (wr ((wr ((wr ((wr ((e1.Request.Host.length:Int)+(e1.Request.Path.length:Int)))+(e1.Request.Query.length:Int)))+(e1.Response.Body.length:Int)))+100)) H ⟨Z,Z,Z,Z,U⟩ U (fun _ _=>Z) ?_ ?_)))))))))
 ·rintro n2 H
  replace H:x0i n2=some r:=H
  unfold x0i at H
  refine zb hN Z (za (ye Z Z) (zd (zh _ Z (fun h=>(lt_t h).elim) (fun h => ?_))))
  refine yz (zb hN Z (qd Z (qe Z (zk ?_))))
  cases H
  exact ⟨U,.inl Z,U⟩
 ·rintro k3 x6 n2 q4 h7 h8 H hq4
  replace H:y40 k3 x6 n2=some q4:=H
  unfold y40 at H
  refine zb hN Z (za (ye Z Z) (zd (zh _ Z (fun h => ?_) (fun h=>(lt_f h7 h).elim))))
  exact zn (zd (yc (zb hN Z (za (wj uy (fun _=>Z) Z Z h8) (za (xa vx Z (qp h8) Z) (zl (qt 2 ky Z) Z (zl (yx vx Z Z Z Z) Z (zj hN Z (qd Z (za (zq Wm Z) (zm (zt tyS9 Z Z) Z (za (qi tyU9 Z) (za (zq y1g Z) (zm (zt tyS9 Z Z) Z (za (qi tyU9 Z) (za (ym _ Z Z (.inl ⟨Z,Z⟩)) (za (ym _ Z Z (.inl ⟨Z,Z⟩)) (qe Z (zj hN Z (za (qy Z Z (by omega)) (qd Z ⟨_,qm H,⟨Z,Z,Z,Z,U⟩,U⟩)))))))))))))))))))))
theorem x6q (e1:uj) (v2:Int) (r:(Int)) (H:z55 e1 v2=some r):Fn Tryz.prog 59 [vagg (x9m e1),vint v2] (zr [vint r]):=by
 refine ⟨by kernel_rfl,yf (us:=[vint r]) Tryz.func59 Z Z Z Z fun X hN => ?_⟩
 unfold z55 at H
 refine zb hN Z (zl (we 1 Z) Z (qe Z (zb hN Z (qe Z (yg (ι:=Int) (fun i=>[(1,.dat (vint v2)),(2,.ptr 1 0),(5,.dat (vint i))]) (fun i=>[(1,.box none 108 [.dat (vint e1.Request.At),.dat (vstr e1.Request.Method),.dat (vstr e1.Request.Host),.dat (vstr e1.Request.Path),.dat (vstr e1.Request.Query),.dat (vstr e1.Request.From),.dat (vlst (List.map zy e1.Request.Headers)),.dat (vstr e1.Request.Body),.dat (vint e1.Response.Status),.dat (vlst (List.map zy e1.Response.Headers)),.dat (vstr e1.Response.Body),.dat (vint e1.At),.dat (vlst (List.map zx e1.Tags)),.dat (vint e1.Used)])]) (fun i=>z09 e1 v2 i=some r) (fun i=>Z) ?_ ?_)))))
 ·skip
  refine zb hN Z (za (zq z1j Z) (za (zq kq Z) (zm (zt qu Z Z) Z (bE H fun r3 h4 H=>za (zo (Zh e1.Response.Headers [97,103,101] r3 h4) ⟨.inl Z,.inl Z,U⟩) (qe Z (zb hN Z (qd Z (za (qh wl Z) (za (wb Z Z) (zh _ Z (fun h5 => ?_) (fun h5 => ?_)))))))))))
  ·refine tE h5 H fun H=>zb hN Z (qd Z (bE H fun x6 h7 H=>za (wj vp (fun _=>Z) Z Z h7) (za (wh tyS9 Z (qp h7) Z) (bE H fun r8 h9 H=>za (zo (x6m x6 r8 h9) ⟨.inl Z,U⟩) (qd Z (za (zz Z Z) (za (zz Z Z) (qe Z (qe Z (zb hN Z (qd Z (zh _ Z (fun h10 => ?_) (fun h10 => ?_)))))))))))))
   ·exact tE h10 H fun H=>zj hN Z (qd Z (qe Z ⟨r8.1,H,⟨Z,Z,Z,U⟩,⟨Z,U⟩⟩))
   ·exact fE h10 H fun H=>zn ⟨0,H,⟨Z,Z,Z,U⟩,⟨Z,U⟩⟩
  ·exact fE h5 H fun H=>zn ⟨0,H,⟨Z,Z,Z,U⟩,⟨Z,U⟩⟩
 ·rintro n11 H
  replace H:z09 e1 v2 n11=some r:=H
  unfold z09 at H
  refine zb hN Z (qd Z (za (zq w0w Z) (zm (zt tyS3 Z Z) Z (za (ym _ Z Z (.inr (.inl ⟨Z,Z⟩))) (qd Z (za (ym _ Z Z (.inr (.inr ⟨Z,Z⟩))) (za (ym _ Z Z (.inl ⟨Z,Z⟩)) (qe Z (zk ?_)))))))))
  cases H
  exact ⟨U,.inl Z,U⟩
theorem w8c (n1:Int) (most2:Int) (r:(Bool)) (H:y3l n1 most2=some r):Fn Tryz.prog 126 [vint n1,vint most2] (zr [zi r]):=by
 refine ⟨by kernel_rfl,yf (us:=[zi r]) Tryz.func126 Z Z Z Z fun X hN => ?_⟩
 unfold y3l at H
 refine zb hN Z (qe Z (zb hN Z (qd Z (za (yq Z Z) (qd Z (yp Z Z (fun hc=>ze (.dat _) Z) (yp Z Z (fun hc=>ze (.dat _) Z) (yp Z Z (fun hc=>ym _ (cnd (c:=(!(decide (most2=(-1))))) hc) Z (.inr (.inr ⟨Z,Z⟩))) (yp Z Z (fun hc=>vm (cnd (c:=(!(decide (most2=(-1))))) hc) (cnd (c:=(!(decide (most2=(-1))))) hc)) (za (wy Z Z (fun hb=>(cnd (c:=(!(decide (most2=(-1))))) (notI hb)))) (qe Z (zk ?_))))))))))))
 cases H
 exact ⟨U,.inl Z,U⟩
end Go.Proofs.YtahcnngcpjkpgabGreatDoor
