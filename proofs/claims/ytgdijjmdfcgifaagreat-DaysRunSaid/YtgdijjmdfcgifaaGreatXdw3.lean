/- Walks along the models. Printed by a program. -/
import Derived.Test.YtgdijjmdfcgifaaGreatXdw2
namespace Go.Proofs.YtgdijjmdfcgifaaGreat
open Go.RowKit
set_option linter.unusedVariables false
set_option maxRecDepth 100000
set_option maxHeartbeats 2000000
theorem y9p (s1:zr) (r:(vo×zr)) (H:z33 s1=some r):Imp Tryz.prog 56 25 (qk s1) [] (zu [vagg (xx r.1)]) (qk r.2):=by
 refine uj (us:=[vagg (xx r.1)]) (cs':=(qk r.2)) (by kernel_rfl) Tryz.func56 Z Z Z Z fun X bl hN => ?_
 unfold z33 at H
 refine zb hN Z (zi (qh 1 z47 Z) Z (zb hN Z (za (zg (.ptr _ _) Z) (za (yb (u':=vlst (List.map yl [1,2,2,3])) (qr [[_],[_],[_],[_]] vg ⟨Z,.inl ⟨_,Z,Z,Z⟩,Z,Z,.inl ⟨_,Z,Z,Z⟩,Z,Z,.inl ⟨_,Z,Z,Z⟩,Z,Z,.inl ⟨_,Z,Z,Z⟩,Z,U⟩ Z Z) Z) (bE H fun r2 h3 H=>zi (yu (jz s1 [1,2,2,3] r2 h3) Z ⟨.inl Z,U⟩ Z) Z (za (zg (.ptr _ _) Z) (za (yb (u':=vlst (List.map yl [1,5,10])) (qr [[_],[_],[_]] vg ⟨Z,.inl ⟨_,Z,Z,Z⟩,Z,Z,.inl ⟨_,Z,Z,Z⟩,Z,Z,.inl ⟨_,Z,Z,Z⟩,Z,U⟩ Z Z) Z) (bE H fun r4 h5 H=>zi (yu (jz r2.2 [1,5,10] r4 h5) Z ⟨.inl Z,U⟩ Z) Z (za (zg (.ptr _ _) Z) (za (yb (u':=vlst (List.map yl [0,333,500,1000])) (qr [[_],[_],[_],[_]] vg ⟨Z,.inl ⟨_,Z,Z,Z⟩,Z,Z,.inl ⟨_,Z,Z,Z⟩,Z,Z,.inl ⟨_,Z,Z,Z⟩,Z,Z,.inl ⟨_,Z,Z,Z⟩,Z,U⟩ Z Z) Z) (bE H fun r6 h7 H=>zi (yu (jz r4.2 [0,333,500,1000] r6 h7) Z ⟨.inl Z,U⟩ Z) Z (za (yb (u':=vagg (xx (vo.mk r2.1 r4.1 0 r6.1))) (vq [(0,[vint r2.1]),(1,[vint r4.1]),(3,[vint r6.1])] z47 x2r Z ⟨Z,.inl ⟨_,Z,Z,Z⟩,Z,Z,.inl ⟨_,Z,Z,Z⟩,Z,Z,.inl ⟨_,Z,Z,Z⟩,Z,U⟩) Z) (zi (qh 2 z47 Z) Z (zi (qf xb Z Z Z Z) Z (zd (yo mixed hN Z Z (za (ze z21 Z) (zh (zj tyS3 Z Z) Z (za (zg (.ptr _ _) Z) (za (yb (u':=vlst (List.map yl [1,2,3,8])) (qr [[_],[_],[_],[_]] vg ⟨Z,.inl ⟨_,Z,Z,Z⟩,Z,Z,.inl ⟨_,Z,Z,Z⟩,Z,Z,.inl ⟨_,Z,Z,Z⟩,Z,Z,.inl ⟨_,Z,Z,Z⟩,Z,U⟩ Z Z) Z) ?_))))))))))))))))))))
 refine bE H fun r8 h9 H=>zi (yu (jz r6.2 [1,2,3,8] r8 h9) Z ⟨.inl Z,U⟩ Z) Z (za (ym _ Z Z (.inr (.inr ⟨Z,Z⟩))) (za (ze Wy Z) (zi (vf tyS3 Z Z Z Z) Z ⟨Z,?_⟩)))
 refine zb hN Z (zh (wm xb Z Z Z) Z (zi (qf xb Z Z Z Z) Z (zo ?_)))
 cases H
 exact ⟨U,⟨.inl ⟨_,_,_,xx (vo.mk r2.1 r4.1 (wr (r4.1 * r8.1)) r6.1),Z,Z,Z,Z,xb⟩,U⟩,Z⟩
theorem x9v (s1:zr) (r:(qb×zr)) (H:z60 s1=some r):Imp Tryz.prog 18 25 (qk s1) [] (zu [vagg (xo r.1)]) (qk r.2):=by
 refine uj (us:=[vagg (xo r.1)]) (cs':=(qk r.2)) (by kernel_rfl) Tryz.func18 Z Z Z Z fun X bl hN => ?_
 unfold z60 at H
 refine zb hN Z (zi (qh 1 z2v Z) Z (zb hN Z (za (zg (.ptr _ _) Z) (bE H fun r2 h3 H=>zi (yu (x9w s1 r2 h3) Z U Z) Z (za (zg (.ptr _ _) Z) (za (yb (u':=vlst (List.map yl [1,2,3,5])) (qr [[_],[_],[_],[_]] vg ⟨Z,.inl ⟨_,Z,Z,Z⟩,Z,Z,.inl ⟨_,Z,Z,Z⟩,Z,Z,.inl ⟨_,Z,Z,Z⟩,Z,Z,.inl ⟨_,Z,Z,Z⟩,Z,U⟩ Z Z) Z) (bE H fun r4 h5 H=>zi (yu (jz r2.2 [1,2,3,5] r4 h5) Z ⟨.inl Z,U⟩ Z) Z (za (zg (.ptr _ _) Z) (za (yb (u':=vlst (List.map yl [1,10,20,50])) (qr [[_],[_],[_],[_]] vg ⟨Z,.inl ⟨_,Z,Z,Z⟩,Z,Z,.inl ⟨_,Z,Z,Z⟩,Z,Z,.inl ⟨_,Z,Z,Z⟩,Z,Z,.inl ⟨_,Z,Z,Z⟩,Z,U⟩ Z Z) Z) (bE H fun r6 h7 H=>zi (yu (jz r4.2 [1,10,20,50] r6 h7) Z ⟨.inl Z,U⟩ Z) Z (za (zg (.ptr _ _) Z) (za (yb (u':=vlst (List.map yl [0,0,5,10])) (qr [[_],[_],[_],[_]] vg ⟨Z,.inl ⟨_,Z,Z,Z⟩,Z,Z,.inl ⟨_,Z,Z,Z⟩,Z,Z,.inl ⟨_,Z,Z,Z⟩,Z,Z,.inl ⟨_,Z,Z,Z⟩,Z,U⟩ Z Z) Z) (bE H fun r8 h9 H=>zi (yu (jz r6.2 [0,0,5,10] r8 h9) Z ⟨.inl Z,U⟩ Z) Z (za (zg (.ptr _ _) Z) (bE H fun r10 h11 H=>zi (yu (y9q r8.2 r10 h11) Z U Z) Z (za (zg (.ptr _ _) Z) (bE H fun r12 h13 H=>zi (yu (y9p r10.2 r12 h13) Z U Z) Z ?_)))))))))))))))))
 refine za (yb (u':=vagg (xo (qb.mk r2.1 r4.1 r6.1 r8.1 0 r10.1 r12.1))) (vq [(0,[vlst (List.map ya r2.1)]),(1,[vint r4.1]),(2,[vint r6.1]),(3,[vint r8.1]),(5,xy r10.1),(8,xx r12.1)] z2v x2q Z ⟨Z,.inl ⟨_,Z,Z,Z⟩,Z,Z,.inl ⟨_,Z,Z,Z⟩,Z,Z,.inl ⟨_,Z,Z,Z⟩,Z,Z,.inl ⟨_,Z,Z,Z⟩,Z,Z,.inr Z,Z,Z,.inr Z,Z,U⟩) Z) (zi (qh 2 z2v Z) Z (zi (qf uq Z Z Z Z) Z (zd (yo mixed hN Z Z (za (ze z20 Z) (zh (zj tyS3 Z Z) Z (za (zg (.ptr _ _) Z) (za (yb (u':=vlst (List.map yl [1,2,4])) (qr [[_],[_],[_]] vg ⟨Z,.inl ⟨_,Z,Z,Z⟩,Z,Z,.inl ⟨_,Z,Z,Z⟩,Z,Z,.inl ⟨_,Z,Z,Z⟩,Z,U⟩ Z Z) Z) (bE H fun r14 h15 H=>zi (yu (jz r12.2 [1,2,4] r14 h15) Z ⟨.inl Z,U⟩ Z) Z (za (ym _ Z Z (.inr (.inr ⟨Z,Z⟩))) (za (ze Wx Z) (zi (vf tyS3 Z Z Z Z) Z ⟨Z,?_⟩))))))))))))
 refine zb hN Z (zh (wm uq Z Z Z) Z (zi (qf uq Z Z Z Z) Z (zo ?_)))
 cases H
 exact ⟨U,⟨.inl ⟨_,_,_,xo (qb.mk r2.1 r4.1 r6.1 r8.1 (wr (r8.1 * r14.1)) r10.1 r12.1),Z,Z,Z,Z,uq⟩,U⟩,Z⟩
theorem y30 (s1:zr) (l2:(List Bs)) (r:(Bs×zr)) (H:z1w s1 l2=some r):Imp Tryz.prog 26 25 (qk s1) [vlst (List.map vd l2)] (zu [vstr r.1]) (qk r.2):=by
 refine uj (us:=[vstr r.1]) (cs':=(qk r.2)) (by kernel_rfl) Tryz.func26 Z Z Z Z fun X bl hN => ?_
 unfold z1w at H
 refine zb hN Z (qe Z (zb hN Z (qd Z (za (zg (.ptr _ _) Z) (qd Z (za (yx Wu Z) (bE H fun r3 h4 H=>zi (yu (z0n s1 (l2.length:Int) r3 h4) Z ⟨.inl Z,U⟩ Z) Z (bE H fun x5 h6 H=>za (js z24 (fun _=>Z) Z Z h6) (za (yt tyS9 Z (yz (yp h6).2) Z) (qe Z (zo ?_)))))))))))
 cases H
 exact ⟨U,⟨.inl Z,U⟩,Z⟩
theorem y31 (s1:zr) (low2:Int) (high3:Int) (r:(Int×zr)) (H:z1x s1 low2 high3=some r):Imp Tryz.prog 58 25 (qk s1) [vint low2,vint high3] (zu [vint r.1]) (qk r.2):=by
 refine uj (us:=[vint r.1]) (cs':=(qk r.2)) (by kernel_rfl) Tryz.func58 Z Z Z Z fun X bl hN => ?_
 unfold z1x at H
 refine zb hN Z (qe Z (zd (zb hN Z (qd Z (qd Z (za (zq Z Z) (zk _ Z (fun h4 => ?_) (fun h4 => ?_))))))))
 ·refine tE h4 H fun H=>zb hN Z (qd Z (qe Z (zo ?_)))
  cases H
  exact ⟨U,⟨.inl Z,U⟩,Z⟩
 ·refine fE h4 H fun H=>zp (zb hN Z (qd Z (za (zg (.ptr _ _) Z) (qd Z (qd Z (za (ym _ Z Z (.inr (.inl ⟨Z,Z⟩))) (za (ym _ Z Z (.inl ⟨Z,Z⟩)) (bE H fun r5 h6 H=>zi (yu (z0n s1 (wr ((wr (high3 - low2))+1)) r5 h6) Z ⟨.inl Z,U⟩ Z) Z (za (ym _ Z Z (.inl ⟨Z,Z⟩)) (qe Z (zo ?_)))))))))))
  cases H
  exact ⟨U,⟨.inl Z,U⟩,Z⟩
theorem ui (s1:zr) (low2:Int) (high3:Int) (r:(Int×zr)) (H:jw s1 low2 high3=some r):Imp Tryz.prog 22 25 (qk s1) [vint low2,vint high3] (zu [vint r.1]) (qk r.2):=by
 refine uj (us:=[vint r.1]) (cs':=(qk r.2)) (by kernel_rfl) Tryz.func22 Z Z Z Z fun X bl hN => ?_
 unfold jw at H
 refine zb hN Z (qe Z (zd (zb hN Z (za (zg (.ptr _ _) Z) (bE H fun r4 h5 H=>zi (yu (Ze s1 12 r4 h5) Z ⟨.inl Z,U⟩ Z) Z (zk _ Z (fun h6 => ?_) (fun h6 => ?_)))))))
 ·refine tE h6 H fun H=>zb hN Z (za (zg (.ptr _ _) Z) (qd Z (za (ym _ Z Z (.inr (.inl ⟨Z,Z⟩))) (qd Z (za (ym _ Z Z (.inl ⟨Z,Z⟩)) (qd Z (qd Z (za (yb (u':=vlst (List.map yl [wr (low2 - 1),wr (high3+1),low2,high3,(-1099511627776),1099511627776])) (qr [[_],[_],[_],[_],[_],[_]] vg ⟨Z,.inl ⟨_,Z,Z,Z⟩,Z,Z,.inl ⟨_,Z,Z,Z⟩,Z,Z,.inl ⟨_,Z,Z,Z⟩,Z,Z,.inl ⟨_,Z,Z,Z⟩,Z,Z,.inl ⟨_,Z,Z,Z⟩,Z,Z,.inl ⟨_,Z,Z,Z⟩,Z,U⟩ Z Z) Z) (bE H fun r7 h8 H=>zi (yu (jz r4.2 [wr (low2 - 1),wr (high3+1),low2,high3,(-1099511627776),1099511627776] r7 h8) Z ⟨.inl Z,U⟩ Z) Z (qe Z (zo ?_)))))))))))
  cases H
  exact ⟨U,⟨.inl Z,U⟩,Z⟩
 ·refine fE h6 H fun H=>zp (zb hN Z (za (zg (.ptr _ _) Z) (qd Z (qd Z (bE H fun r9 h10 H=>zi (yu (y31 r4.2 low2 high3 r9 h10) Z ⟨.inl Z,.inl Z,U⟩ Z) Z (qe Z (zo ?_)))))))
  cases H
  exact ⟨U,⟨.inl Z,U⟩,Z⟩
theorem x7u (s1:zr) (r:((List zl)×zr)) (H:z0m s1=some r):FnG Tryz.prog 53 [.ptr 0 0] [(0,.box (some 0) 25 (List.map .dat (qk s1)))] (.row 1 r.1.length) [(0,.box (some 0) 25 (List.map .dat (qk r.2))),(1,.row 115 2 (List.map ya r.1))]:=by
 refine Zu (by kernel_rfl) Tryz.func53 Z Z Z Z fun X A hN => ?_
 unfold z0m at H
 refine zb hN Z (qe Z (zb hN Z (qe Z (zd (zb hN Z (za (yb (u':=vlst (List.map vd [[105,97],[105,98],[105,99],[105,100]])) (qr [[_],[_],[_],[_]] Yf ⟨Z,.inl ⟨_,Z,Z,Z⟩,Z,Z,.inl ⟨_,Z,Z,Z⟩,Z,Z,.inl ⟨_,Z,Z,Z⟩,Z,Z,.inl ⟨_,Z,Z,Z⟩,Z,U⟩ Z Z) Z) (za (yx Wu Z) (qd Z (zw (Qb 3 1 115 2 Z Z Z (gE H fun h7 H=>wg (fun (k5:Nat) (s:(List Int)×Int×(List zl))=>[(0,.ptr 0 0),(3,.row 1 s.2.2.length),(6,.dat (vlst (List.map vd ([[105,97],[105,98],[105,99],[105,100]])))),(7,.dat (vint (([[105,97],[105,98],[105,99],[105,100]]).length:Int))),(8,.dat (vint (k5:Int)))]) (fun (k5:Nat) (s:(List Int)×Int×(List zl))=>[(0,.box (some (A.bl 0)) 25 [.dat (vlst (List.map yl s.1)),.dat (vint s.2.1)]),(1,.row 115 2 (List.map ya s.2.2))]) (s1.L,s1.at_,[]) H ⟨Z,Z,Z,Z,Z,U⟩ ⟨Z,Z,U⟩ (fun _ _=>Z) ?_ ?_)))))))))))
 ·rintro ⟨c2,c3,l4⟩ H
  replace H:z7n c2 c3 l4=some r:=H
  unfold z7n at H
  refine zb hN Z (za (zq Z Z) (zd (zk _ Z (fun h=>(lt_t h).elim) (fun h => ?_))))
  refine qa (zb hN Z (za (zg (.row _ _) Z) (za (wo (.row _ _) Z) (zo ?_))))
  cases H
  exact ⟨U,[(2,.row 1 _)],⟨Z,U⟩,⟨Z,Z,U⟩,Z,.inr (.inl ⟨2,Z,Z⟩)⟩
 ·rintro k5 x8 ⟨c2,c3,l4⟩ q6 h9 h10 H hq6
  replace H:z2b k5 x8 c2 c3 l4=some q6:=H
  unfold z2b at H
  refine zb hN Z (za (zq Z Z) (zd (zk _ Z (fun h => ?_) (fun h=>(lt_f h9 h).elim))))
  refine zp (qi (ι:=(List zl)×(List Int)×Int) (fun i=>[(0,.ptr 0 0),(3,.row 1 i.1.length),(6,.dat (vlst (List.map vd ([[105,97],[105,98],[105,99],[105,100]])))),(7,.dat (vint (([[105,97],[105,98],[105,99],[105,100]]).length:Int))),(8,.dat (vint (k5:Int)))]) (fun i=>[(0,.box (some (A.bl 0)) 25 [.dat (vlst (List.map yl i.2.1)),.dat (vint i.2.2)]),(1,.row 115 2 (List.map ya i.1))]) (fun i=>Wl i.1 i.2.1 i.2.2=some q6) (fun i=>Z) ?_ ?_)
  ·skip
   refine zw (zb hN Z (za (wb z24 (fun _=>Z) Z Z h10) (za (yt tyS9 Z (yz h10) Z) (qe Z (qi (ι:=Bool×(List Int)×Int) (fun i=>[(0,.ptr 0 0),(3,.row 1 l4.length),(5,.dat (vstr x8)),(6,.dat (vlst (List.map vd ([[105,97],[105,98],[105,99],[105,100]])))),(7,.dat (vint (([[105,97],[105,98],[105,99],[105,100]]).length:Int))),(8,.dat (vint (k5:Int))),(23,.dat (zn i.1))]) (fun i=>[(0,.box (some (A.bl 0)) 25 [.dat (vlst (List.map yl i.2.1)),.dat (vint i.2.2)]),(1,.row 115 2 (List.map ya l4))]) (fun i=>Zt l4 x8 i.1 i.2.1 i.2.2=some q6) (fun i=>Z) ?_ ?_)))))
   ·skip
    refine zm hN Z (za (zg (.row _ _) Z) (zh (xt vw Z Z) Z (za (qz Z Z) (qd Z (qo (j:=3) Z Z (fun h11 => ?_) (fun h11 => ?_) Z)))))
    ·refine u1 h11 H fun h12 H=>zf Z Z h11 (zg (.dat _) Z) (zf Z Z h11 (xu Z Z) (za (yh Z (bTT h12) Z) (qd Z (qo (j:=7) Z Z (fun h13 => ?_) (fun h13 => ?_) Z))))
     ·exact u3 h13 H fun h14 H=>zf Z Z h13 (zg (.ptr _ _) Z) (bE H fun r15 h16 H=>z3d Z Z h13 (yu (Ze (zr.mk c2 c3) 4 r15 h16) Z ⟨.inl Z,U⟩ Z) Z (zf Z Z h13 (qs Z) (za (yn Z (bFF h14) Z) ⟨(!r15.1,r15.2.L,r15.2.at_),H,⟨Z,Z,Z,Z,Z,Z,Z,U⟩,⟨Z,Z,U⟩⟩)))
     ·exact u4 h13 H fun h17 H=>zc Z Z h13 (zc Z Z h13 (zc Z Z h13 (za (yh Z (bTT h17) Z) ⟨(true,c2,c3),H,⟨Z,Z,Z,Z,Z,Z,Z,U⟩,⟨Z,Z,U⟩⟩)))
    ·exact u2 h11 H fun h18 H=>zc Z Z h11 (zc Z Z h11 (za (yn Z (bFF h18) Z) (qd Z (zf Z Z Z (zg (.ptr _ _) Z) (bE H fun r19 h20 H=>z3d Z Z Z (yu (Ze (zr.mk c2 c3) 4 r19 h20) Z ⟨.inl Z,U⟩ Z) Z (zf Z Z Z (qs Z) (za (yn Z Z Z) ⟨(!r19.1,r19.2.L,r19.2.at_),H,⟨Z,Z,Z,Z,Z,Z,Z,U⟩,⟨Z,Z,U⟩⟩)))))))
   ·rintro ⟨v21,c22,c23⟩ H
    replace H:Zt l4 x8 v21 c22 c23=some q6:=H
    unfold Zt at H
    refine zk _ Z (fun h24 => ?_) (fun h24 => ?_)
    ·refine tE h24 H fun H=>zm hN Z (za (zg (.row _ _) Z) (qd Z (za (zg (.ptr _ _) Z) (za (yb (u':=vlst (List.map yl [1,1,2,3,5])) (qr [[_],[_],[_],[_],[_]] vg ⟨Z,.inl ⟨_,Z,Z,Z⟩,Z,Z,.inl ⟨_,Z,Z,Z⟩,Z,Z,.inl ⟨_,Z,Z,Z⟩,Z,Z,.inl ⟨_,Z,Z,Z⟩,Z,Z,.inl ⟨_,Z,Z,Z⟩,Z,U⟩ Z Z) Z) (bE H fun r25 h26 H=>zi (yu (jz (zr.mk c22 c23) [1,1,2,3,5] r25 h26) Z ⟨.inl Z,U⟩ Z) Z (za (yb (u':=vagg (ya (zl.mk x8 r25.1))) (vq [(0,[vstr x8]),(1,[vint r25.1])] um z8c Z ⟨Z,.inl ⟨_,Z,Z,Z⟩,Z,Z,.inl ⟨_,Z,Z,Z⟩,Z,U⟩) Z) (za (yb (u':=vlst (List.map ya [(zl.mk x8 r25.1)])) (qr [_] Qk ⟨Z,.inr Z,Z,U⟩ Z Z) Z) (gE H fun h27 H=>zi (jo Qk (fun _=>Z) Z Z Z ⟨by simp,by first | (simp; done) | simpa using h27⟩ Z) Z ?_))))))))
     exact za (wo (.row _ _) Z) ⟨((l4++[(zl.mk x8 r25.1)]),r25.2.L,r25.2.at_),H,⟨Z,Z,Z,Z,Z,U⟩,⟨Z,Z,U⟩⟩
    ·exact fE h24 H fun H=>zp ⟨(l4,c22,c23),H,⟨Z,Z,Z,Z,Z,U⟩,⟨Z,Z,U⟩⟩
  ·rintro ⟨out28,c29,c30⟩ H
   replace H:Wl out28 c29 c30=some q6:=H
   unfold Wl at H
   exact zm hN Z (za (yy Z Z (by omega)) (qd Z ⟨_,qx H,⟨Z,Z,Z,Z,Z,U⟩,⟨Z,Z,U⟩⟩))
theorem x9z (s1:zr) (r:((List zl)×zr)) (H:z65 s1=some r):Imp Tryz.prog 21 25 (qk s1) [] (zu [vlst (List.map ya r.1)]) (qk r.2):=by
 refine uj (us:=[vlst (List.map ya r.1)]) (cs':=(qk r.2)) (by kernel_rfl) Tryz.func21 Z Z Z Z fun X bl hN => ?_
 unfold z65 at H
 refine zb hN Z (qe Z (zb hN Z (za (zg (.ptr _ _) Z) (bE H fun r2 h3 H=>Zp (rn [(0,0),(1,1)]) [(0,_,_,some _)] [(1,_)] (x7u s1 r2 h3) ⟨Z,Z,U⟩ ⟨.inl (.inl Z),U⟩ ⟨⟨⟨Z,Z⟩,U⟩,U⟩ Z (za (wo (.row _ _) Z) (qi (ι:=(List zl)×(List Int)×Int) (fun i=>[(0,.ptr 0 0),(3,.row 1 i.1.length)]) (fun i=>[(0,.box (some bl) 25 [.dat (vlst (List.map yl i.2.1)),.dat (vint i.2.2)]),(1,.row 115 2 (List.map ya i.1))]) (fun i=>z2c i.1 i.2.1 i.2.2=some r) (fun i=>Z) ?_ ?_))))))
 ·skip
  refine zb hN Z (za (zg (.ptr _ _) Z) (bE H fun r4 h5 H=>zi (yu (Ze r2.2 15 r4 h5) Z ⟨.inl Z,U⟩ Z) Z (zk _ Z (fun h6 => ?_) (fun h6 => ?_))))
  ·refine tE h6 H fun H=>zb hN Z (za (zg (.row _ _) Z) (za (zg (.ptr _ _) Z) (za (zg (.row _ _) Z) (zh (xt vw Z Z) Z (bE H fun r7 h8 H=>zi (yu (z0n r4.2 (r2.1.length:Int) r7 h8) Z ⟨.inl Z,U⟩ Z) Z (bE H fun x9 h10 H=>zh (Yl jq Z Z Z h10) Z (za (wo (.rptr _ _ _ _ _) Z) (zm hN Z (za (zg (.rptr _ _ _ _ _) Z) (za (zg (.rptr _ _ _ _ _) Z) (za (zg (.ptr _ _) Z) (za (zg (.rptr _ _ _ _ _) Z) (za (wu Z) (za (ql jg Z) (zh (xr tyS9 Z Z (yp h10).2 Z) Z (za (yb (u':=vlst (List.map vd [x9.Key,[],[65],[105,97]])) (qr [[_],[_],[_],[_]] Yf ⟨Z,.inl ⟨_,Z,Z,Z⟩,Z,Z,.inl ⟨_,Z,Z,Z⟩,Z,Z,.inl ⟨_,Z,Z,Z⟩,Z,Z,.inl ⟨_,Z,Z,Z⟩,Z,U⟩ Z Z) Z) (bE H fun r11 h12 H=>zi (yu (y30 r7.2 ([x9.Key,[],[65],[105,97]]) r11 h12) Z ⟨.inl Z,U⟩ Z) Z (za (zg (.ptr _ _) Z) (bE H fun r13 h14 H=>?_)))))))))))))))))))
   exact zi (yu (ui r11.2 1 100 r13 h14) Z ⟨.inl Z,.inl Z,U⟩ Z) Z (za (wu Z) (za (ql jg Z) (zi (kz (zl.mk r11.1 x9.Weight) tyS9 Z Z Z Z (yp h10).2 Z Z) Z (za (wu Z) (za (ql Qo Z) (zi (kz (zl.mk r11.1 r13.1) tyS3 Z Z Z (by simp) (jt (yp h10).2) Z Z) Z ⟨(((r2.1.set r7.1.toNat (zl.mk r11.1 x9.Weight)).set r7.1.toNat (zl.mk r11.1 r13.1)),r13.2.L,r13.2.at_),H,⟨Z,congrArg (Slot.row 1) (by simp),U⟩,⟨Z,Z,U⟩⟩))))))
  ·exact fE h6 H fun H=>zp ⟨(r2.1,r4.2.L,r4.2.at_),H,⟨Z,Z,U⟩,⟨Z,Z,U⟩⟩
 ·rintro ⟨out15,c16,c17⟩ H
  replace H:z2c out15 c16 c17=some r:=H
  unfold z2c at H
  refine zd (zb hN Z (za (zg (.ptr _ _) Z) (bE H fun r18 h19 H=>zi (yu (Ze (zr.mk c16 c17) 25 r18 h19) Z ⟨.inl Z,U⟩ Z) Z (zk _ Z (fun h20 => ?_) (fun h20 => ?_)))))
  ·refine tE h20 H fun H=>zb hN Z (qe Z (zo ?_))
   cases H
   exact ⟨U,⟨.inr ⟨Z,Z⟩,U⟩,Z⟩
  ·refine fE h20 H fun H=>zp (zb hN Z (za (zg (.row _ _) Z) (za (wo (.row _ _) Z) (zo ?_))))
   cases H
   exact ⟨U,⟨z5n Z Z,U⟩,Z⟩
theorem x91 (s1:zr) (r:(wn×zr)) (H:z67 s1=some r):Imp Tryz.prog 23 25 (qk s1) [] (zu [vagg (xy r.1)]) (qk r.2):=by
 refine uj (us:=[vagg (xy r.1)]) (cs':=(qk r.2)) (by kernel_rfl) Tryz.func23 Z Z Z Z fun X bl hN => ?_
 unfold z67 at H
 refine zb hN Z (zi (qh 1 z48 Z) Z (zb hN Z (za (zg (.ptr _ _) Z) (bE H fun r2 h3 H=>zi (yu (y9q s1 r2 h3) Z U Z) Z (zi (qh 2 z48 Z) Z (zi (qf xc Z Z Z Z) Z (qi (ι:=(List Int)×Int×Int×Int×Int) (fun i=>[(2,.ptr 1 0),(3,.ptr 2 0)]) (fun i=>[(0,.box (some bl) 25 [.dat (vlst (List.map yl i.1)),.dat (vint i.2.1)]),(1,.box none 28 [.dat (vint 0),.dat (vint 0),.dat (vint 0)]),(2,.box none 28 [.dat (vint i.2.2.1),.dat (vint i.2.2.2.1),.dat (vint i.2.2.2.2)])]) (fun i=>z7o i.1 i.2.1 i.2.2.1 i.2.2.2.1 i.2.2.2.2=some r) (fun i=>Z) ?_ ?_)))))))
 ·skip
  refine zb hN Z (za (zg (.ptr _ _) Z) (bE H fun r4 h5 H=>zi (yu (Ze r2.2 15 r4 h5) Z ⟨.inl Z,U⟩ Z) Z (zk _ Z (fun h6 => ?_) (fun h6 => ?_))))
  ·exact tE h6 H fun H=>zm hN Z (za (zg (.ptr _ _) Z) (bE H fun r7 h8 H=>zi (yu (ui r4.2 1 3600000 r7 h8) Z ⟨.inl Z,.inl Z,U⟩ Z) Z (za (zg (.ptr _ _) Z) (bE H fun r9 h10 H=>zi (yu (ui r7.2 0 300 r9 h10) Z ⟨.inl Z,.inl Z,U⟩ Z) Z (za (zg (.ptr _ _) Z) (bE H fun r11 h12 H=>zi (yu (ui r9.2 0 1000 r11 h12) Z ⟨.inl Z,.inl Z,U⟩ Z) Z (za (yb (u':=vagg (xy (wn.mk r7.1 r9.1 r11.1))) (vq [(0,[vint r7.1]),(1,[vint r9.1]),(2,[vint r11.1])] z48 y5y Z ⟨Z,.inl ⟨_,Z,Z,Z⟩,Z,Z,.inl ⟨_,Z,Z,Z⟩,Z,Z,.inl ⟨_,Z,Z,Z⟩,Z,U⟩) Z) (zi (qf xc Z Z Z Z) Z ⟨(r11.2.L,r11.2.at_,r7.1,r9.1,r11.1),H,⟨Z,Z,U⟩,⟨Z,Z,Z,U⟩⟩))))))))
  ·exact fE h6 H fun H=>zp ⟨(r4.2.L,r4.2.at_,r2.1.Window,r2.1.Least,r2.1.Part),H,⟨Z,Z,U⟩,⟨Z,Z,Z,U⟩⟩
 ·rintro ⟨c13,c14,c15,c16,c17⟩ H
  replace H:z7o c13 c14 c15 c16 c17=some r:=H
  unfold z7o at H
  refine zb hN Z (zh (wm xc Z Z Z) Z (zi (qf xc Z Z Z Z) Z (zo ?_)))
  cases H
  exact ⟨U,⟨.inl ⟨_,_,_,xy (wn.mk c15 c16 c17),Z,Z,Z,Z,xc⟩,U⟩,Z⟩
theorem x9y (s1:zr) (r:(vo×zr)) (H:z64 s1=some r):Imp Tryz.prog 24 25 (qk s1) [] (zu [vagg (xx r.1)]) (qk r.2):=by
 refine uj (us:=[vagg (xx r.1)]) (cs':=(qk r.2)) (by kernel_rfl) Tryz.func24 Z Z Z Z fun X bl hN => ?_
 unfold z64 at H
 refine zb hN Z (zi (qh 1 z47 Z) Z (zb hN Z (za (zg (.ptr _ _) Z) (bE H fun r2 h3 H=>zi (yu (y9p s1 r2 h3) Z U Z) Z (zi (qh 2 z47 Z) Z (zi (qf xb Z Z Z Z) Z (qi (ι:=(List Int)×Int×Int×Int×Int×Int) (fun i=>[(2,.ptr 1 0),(3,.ptr 2 0)]) (fun i=>[(0,.box (some bl) 25 [.dat (vlst (List.map yl i.1)),.dat (vint i.2.1)]),(1,.box none 30 [.dat (vint 0),.dat (vint 0),.dat (vint 0),.dat (vint 0)]),(2,.box none 30 [.dat (vint i.2.2.1),.dat (vint i.2.2.2.1),.dat (vint i.2.2.2.2.1),.dat (vint i.2.2.2.2.2)])]) (fun i=>z4m i.1 i.2.1 i.2.2.1 i.2.2.2.1 i.2.2.2.2.1 i.2.2.2.2.2=some r) (fun i=>Z) ?_ ?_)))))))
 ·skip
  refine zb hN Z (za (zg (.ptr _ _) Z) (bE H fun r4 h5 H=>zi (yu (Ze r2.2 15 r4 h5) Z ⟨.inl Z,U⟩ Z) Z (zk _ Z (fun h6 => ?_) (fun h6 => ?_))))
  ·exact tE h6 H fun H=>zm hN Z (za (zg (.ptr _ _) Z) (bE H fun r7 h8 H=>zi (yu (ui r4.2 1 100 r7 h8) Z ⟨.inl Z,.inl Z,U⟩ Z) Z (za (zg (.ptr _ _) Z) (bE H fun r9 h10 H=>zi (yu (ui r7.2 1 20 r9 h10) Z ⟨.inl Z,.inl Z,U⟩ Z) Z (za (zg (.ptr _ _) Z) (bE H fun r11 h12 H=>zi (yu (ui r9.2 1 3600000 r11 h12) Z ⟨.inl Z,.inl Z,U⟩ Z) Z (za (zg (.ptr _ _) Z) (bE H fun r13 h14 H=>zi (yu (ui r11.2 0 1000 r13 h14) Z ⟨.inl Z,.inl Z,U⟩ Z) Z (za (ze z5i Z) (zi (vf tyS3 Z Z Z Z) Z (za (ze z21 Z) (zi (vf tyS3 Z Z Z Z) Z (za (ze Wy Z) (zi (vf tyS3 Z Z Z Z) Z (za (ze z5h Z) (zi (vf tyS3 Z Z Z Z) Z ⟨(r13.2.L,r13.2.at_,r7.1,r9.1,r11.1,r13.1),H,⟨Z,Z,U⟩,⟨Z,Z,Z,U⟩⟩))))))))))))))))
  ·exact fE h6 H fun H=>zp ⟨(r4.2.L,r4.2.at_,r2.1.Fails,r2.1.Base,r2.1.Most,r2.1.Share),H,⟨Z,Z,U⟩,⟨Z,Z,Z,U⟩⟩
 ·rintro ⟨c15,c16,c17,c18,c19,c20⟩ H
  replace H:z4m c15 c16 c17 c18 c19 c20=some r:=H
  unfold z4m at H
  refine zb hN Z (zh (wm xb Z Z Z) Z (zi (qf xb Z Z Z Z) Z (zo ?_)))
  cases H
  exact ⟨U,⟨.inl ⟨_,_,_,xx (vo.mk c17 c18 c19 c20),Z,Z,Z,Z,xb⟩,U⟩,Z⟩
theorem x9u (s1:zr) (r:(qb×zr)) (H:z6z s1=some r):Imp Tryz.prog 4 25 (qk s1) [] (zu [vagg (xo r.1)]) (qk r.2):=by
 refine uj (us:=[vagg (xo r.1)]) (cs':=(qk r.2)) (by kernel_rfl) Tryz.func4 Z Z Z Z fun X bl hN => ?_
 unfold z6z at H
 refine zb hN Z (zi (qh 1 z2v Z) Z (zb hN Z (za (zg (.ptr _ _) Z) (bE H fun r2 h3 H=>zi (yu (x9v s1 r2 h3) Z U Z) Z (zi (qh 2 z2v Z) Z (zi (qf uq Z Z Z Z) Z (qi (ι:=(List Int)×Int×(List zl)×Int×Int×Int×Int×Int×Int×Int×Int×Int×Int×Int) (fun i=>[(2,.ptr 1 0),(3,.ptr 2 0)]) (fun i=>[(0,.box (some bl) 25 [.dat (vlst (List.map yl i.1)),.dat (vint i.2.1)]),(1,.box none 32 [.dat (vnil),.dat (vint 0),.dat (vint 0),.dat (vint 0),.dat (vint 0),.dat (vint 0),.dat (vint 0),.dat (vint 0),.dat (vint 0),.dat (vint 0),.dat (vint 0),.dat (vint 0)]),(2,.box none 32 [.dat (vlst (List.map ya i.2.2.1)),.dat (vint i.2.2.2.1),.dat (vint i.2.2.2.2.1),.dat (vint i.2.2.2.2.2.1),.dat (vint i.2.2.2.2.2.2.1),.dat (vint i.2.2.2.2.2.2.2.1),.dat (vint i.2.2.2.2.2.2.2.2.1),.dat (vint i.2.2.2.2.2.2.2.2.2.1),.dat (vint i.2.2.2.2.2.2.2.2.2.2.1),.dat (vint i.2.2.2.2.2.2.2.2.2.2.2.1),.dat (vint i.2.2.2.2.2.2.2.2.2.2.2.2.1),.dat (vint i.2.2.2.2.2.2.2.2.2.2.2.2.2)])]) (fun i=>Wj i.1 i.2.1 i.2.2.1 i.2.2.2.1 i.2.2.2.2.1 i.2.2.2.2.2.1 i.2.2.2.2.2.2.1 i.2.2.2.2.2.2.2.1 i.2.2.2.2.2.2.2.2.1 i.2.2.2.2.2.2.2.2.2.1 i.2.2.2.2.2.2.2.2.2.2.1 i.2.2.2.2.2.2.2.2.2.2.2.1 i.2.2.2.2.2.2.2.2.2.2.2.2.1 i.2.2.2.2.2.2.2.2.2.2.2.2.2=some r) (fun i=>Z) ?_ ?_)))))))
 ·skip
  refine zb hN Z (za (zg (.ptr _ _) Z) (bE H fun r4 h5 H=>zi (yu (Ze r2.2 10 r4 h5) Z ⟨.inl Z,U⟩ Z) Z (zk _ Z (fun h6 => ?_) (fun h6 => ?_))))
  ·refine tE h6 H fun H=>zb hN Z (za (zg (.ptr _ _) Z) (bE H fun r7 h8 H=>zi (yu (z0n r4.2 4 r7 h8) Z ⟨.inl Z,U⟩ Z) Z (zw (zb hN Z (za (qz Z Z) (qe Z (zk _ Z (fun h9 => ?_) (fun h9 => ?_))))))))
   ·exact tE h9 H fun H=>zm hN Z (za (zg (.ptr _ _) Z) (bE H fun r10 h11 H=>zi (yu (x9z r7.2 r10 h11) Z U Z) Z (za (ze kx Z) (zi (vf kd Z Z Z Z) Z ⟨(r10.2.L,r10.2.at_,r10.1,r2.1.Tries,r2.1.Timeout,r2.1.Wait,r2.1.MostWait,r2.1.Budget.Window,r2.1.Budget.Least,r2.1.Budget.Part,r2.1.Outliers.Fails,r2.1.Outliers.Base,r2.1.Outliers.Most,r2.1.Outliers.Share),H,⟨Z,Z,U⟩,⟨Z,Z,Z,U⟩⟩))))
   ·refine fE h9 H fun H=>zb hN Z (za (qz Z Z) (qe Z (zk _ Z (fun h12 => ?_) (fun h12 => ?_))))
    ·exact tE h12 H fun H=>zm hN Z (za (zg (.ptr _ _) Z) (bE H fun r13 h14 H=>zi (yu (ui r7.2 1 5 r13 h14) Z ⟨.inl Z,.inl Z,U⟩ Z) Z (za (zg (.ptr _ _) Z) (bE H fun r15 h16 H=>zi (yu (ui r13.2 1 3600000 r15 h16) Z ⟨.inl Z,.inl Z,U⟩ Z) Z (za (ze Qn Z) (zi (vf tyS3 Z Z Z Z) Z (za (ze z1g Z) (zi (vf tyS3 Z Z Z Z) Z ⟨(r15.2.L,r15.2.at_,r2.1.Instances,r13.1,r15.1,r2.1.Wait,r2.1.MostWait,r2.1.Budget.Window,r2.1.Budget.Least,r2.1.Budget.Part,r2.1.Outliers.Fails,r2.1.Outliers.Base,r2.1.Outliers.Most,r2.1.Outliers.Share),H,⟨Z,Z,U⟩,⟨Z,Z,Z,U⟩⟩))))))))
    ·refine fE h12 H fun H=>zb hN Z (za (qz Z Z) (qe Z (zk _ Z (fun h17 => ?_) (fun h17 => ?_))))
     ·exact tE h17 H fun H=>zm hN Z (za (zg (.ptr _ _) Z) (bE H fun r18 h19 H=>zi (yu (ui r7.2 0 10 r18 h19) Z ⟨.inl Z,.inl Z,U⟩ Z) Z (za (zg (.ptr _ _) Z) (bE H fun r20 h21 H=>zi (yu (ui r18.2 0 3600000 r20 h21) Z ⟨.inl Z,.inl Z,U⟩ Z) Z (za (ze z20 Z) (zi (vf tyS3 Z Z Z Z) Z (za (ze Wx Z) (zi (vf tyS3 Z Z Z Z) Z ⟨(r20.2.L,r20.2.at_,r2.1.Instances,r2.1.Tries,r2.1.Timeout,r18.1,r20.1,r2.1.Budget.Window,r2.1.Budget.Least,r2.1.Budget.Part,r2.1.Outliers.Fails,r2.1.Outliers.Base,r2.1.Outliers.Most,r2.1.Outliers.Share),H,⟨Z,Z,U⟩,⟨Z,Z,Z,U⟩⟩))))))))
     ·exact fE h17 H fun H=>zm hN Z (za (zg (.ptr _ _) Z) (bE H fun r22 h23 H=>zi (yu (x91 r7.2 r22 h23) Z U Z) Z (za (zg (.ptr _ _) Z) (bE H fun r24 h25 H=>zi (yu (x9y r22.2 r24 h25) Z U Z) Z (za (ze z1f Z) (zi (y6k xc Z Z Z Z) Z (za (ze z5g Z) (zi (y6k xb Z Z Z Z) Z ⟨(r24.2.L,r24.2.at_,r2.1.Instances,r2.1.Tries,r2.1.Timeout,r2.1.Wait,r2.1.MostWait,r22.1.Window,r22.1.Least,r22.1.Part,r24.1.Fails,r24.1.Base,r24.1.Most,r24.1.Share),H,⟨Z,Z,U⟩,⟨Z,Z,Z,U⟩⟩))))))))
  ·exact fE h6 H fun H=>zp ⟨(r4.2.L,r4.2.at_,r2.1.Instances,r2.1.Tries,r2.1.Timeout,r2.1.Wait,r2.1.MostWait,r2.1.Budget.Window,r2.1.Budget.Least,r2.1.Budget.Part,r2.1.Outliers.Fails,r2.1.Outliers.Base,r2.1.Outliers.Most,r2.1.Outliers.Share),H,⟨Z,Z,U⟩,⟨Z,Z,Z,U⟩⟩
 ·rintro ⟨c26,c27,c28,c29,c30,c31,c32,c33,c34,c35,c36,c37,c38,c39⟩ H
  replace H:Wj c26 c27 c28 c29 c30 c31 c32 c33 c34 c35 c36 c37 c38 c39=some r:=H
  unfold Wj at H
  refine zb hN Z (zh (wm uq Z Z Z) Z (zi (qf uq Z Z Z Z) Z (zo ?_)))
  cases H
  exact ⟨U,⟨.inl ⟨_,_,_,xo (qb.mk c28 c29 c30 c31 c32 (wn.mk c33 c34 c35) (vo.mk c36 c37 c38 c39)),Z,Z,Z,Z,uq⟩,U⟩,Z⟩
theorem x7v (s1:zr) (most2:Int) (r:((List yi)×zr)) (H:z62 s1 most2=some r):FnG Tryz.prog 25 [.ptr 0 0,.dat (vint most2)] [(0,.box (some 0) 25 (List.map .dat (qk s1)))] (.row 1 r.1.length) [(0,.box (some 0) 25 (List.map .dat (qk r.2))),(1,.row 64 2 (List.map wz r.1))]:=by
 refine Zu (by kernel_rfl) Tryz.func25 Z Z Z Z fun X A hN => ?_
 unfold z62 at H
 refine zb hN Z (qe Z (zb hN Z (qe Z (zb hN Z (qe Z (zd (zb hN Z (za (zg (.ptr _ _) Z) (qd Z (bE H fun r3 h4 H=>zi (yu (y31 s1 0 most2 r3 h4) Z ⟨.inl Z,.inl Z,U⟩ Z) Z (qd Z (zw (Qb 5 1 64 2 Z Z Z (gE H fun h11 H=>z2i (fun (k9:Nat) (s:Int×(List Int)×Int×(List yi))=>[(0,.ptr 0 0),(5,.row 1 s.2.2.2.length),(6,.dat (vint s.1)),(10,.dat (vint r3.1)),(11,.dat (vint (k9:Int)))]) (fun (k9:Nat) (s:Int×(List Int)×Int×(List yi))=>[(0,.box (some (A.bl 0)) 25 [.dat (vlst (List.map yl s.2.1)),.dat (vint s.2.2.1)]),(1,.row 64 2 (List.map wz s.2.2.2))]) (0,r3.2.L,r3.2.at_,[]) H ⟨Z,Z,Z,Z,Z,U⟩ ⟨Z,Z,U⟩ (fun _ _=>Z) ?_ ?_))))))))))))))
 ·rintro ⟨v5,c6,c7,l8⟩ H
  replace H:y03 v5 c6 c7 l8=some r:=H
  unfold y03 at H
  refine zb hN Z (za (zq Z Z) (zd (zk _ Z (fun h=>(z37 h).elim) (fun h => ?_))))
  refine qa (zb hN Z (za (zg (.row _ _) Z) (za (wo (.row _ _) Z) (zo ?_))))
  cases H
  exact ⟨U,[(4,.row 1 _)],⟨Z,U⟩,⟨Z,Z,U⟩,Z,.inr (.inl ⟨4,Z,Z⟩)⟩
 ·rintro k9 ⟨v5,c6,c7,l8⟩ q10 h12 H hq10
  replace H:y02 k9 v5 c6 c7 l8=some q10:=H
  unfold y02 at H
  refine zb hN Z (za (zq Z Z) (zd (zk _ Z (fun h => ?_) (fun h=>(z38 h12 h).elim))))
  refine zp (zd (zw (zb hN Z (qd Z (qe Z (zb hN Z (qd Z (za (zg (.ptr _ _) Z) (za (yb (u':=vlst (List.map yl [0,0,1,5,10,40])) (qr [[_],[_],[_],[_],[_],[_]] vg ⟨Z,.inl ⟨_,Z,Z,Z⟩,Z,Z,.inl ⟨_,Z,Z,Z⟩,Z,Z,.inl ⟨_,Z,Z,Z⟩,Z,Z,.inl ⟨_,Z,Z,Z⟩,Z,Z,.inl ⟨_,Z,Z,Z⟩,Z,Z,.inl ⟨_,Z,Z,Z⟩,Z,U⟩ Z Z) Z) (bE H fun r13 h14 H=>zi (yu (jz (zr.mk c6 c7) [0,0,1,5,10,40] r13 h14) Z ⟨.inl Z,U⟩ Z) Z (za (ym _ Z Z (.inl ⟨Z,Z⟩)) (qe Z (zm hN Z (za (zg (.row _ _) Z) (qd Z (za (ym _ Z Z (.inl ⟨Z,Z⟩)) (za (y2j tyU3 y5n Z) (za (x4z y5n Z tyU9 Z) (gE H fun h15 H=>za (x4c Z Z (Nat.le_trans h15 (by decide))) (qd Z (za (yb (u':=vagg (wz (yi.mk ([99]++(encL (IntKind.wrap .i32 (wr (97+(k9:Int)))))) (wr (v5+r13.1))))) (vq [(0,[vstr ([99]++(encL (IntKind.wrap .i32 (wr (97+(k9:Int))))))]),(1,[vint (wr (v5+r13.1))])] z46 x2p Z ⟨Z,.inl ⟨_,Z,Z,Z⟩,Z,Z,.inl ⟨_,Z,Z,Z⟩,Z,U⟩) Z) ?_)))))))))))))))))))))
  refine za (yb (u':=vlst (List.map wz [(yi.mk ([99]++(encL (IntKind.wrap .i32 (wr (97+(k9:Int)))))) (wr (v5+r13.1)))])) (qr [_] y52 ⟨Z,.inr Z,Z,U⟩ Z Z) Z) (gE H fun h16 H=>zi (jo y52 (fun _=>Z) Z Z Z ⟨by simp,by first | (simp; done) | simpa using h16⟩ Z) Z ?_)
  exact za (wo (.row _ _) Z) (zm hN Z (za (yy Z Z (by omega)) (qd Z ⟨_,qx H,⟨Z,Z,Z,Z,Z,U⟩,⟨Z,Z,U⟩⟩)))
theorem x90 (s1:zr) (most2:Int) (r:((List yi)×zr)) (H:z66 s1 most2=some r):Imp Tryz.prog 5 25 (qk s1) [vint most2] (zu [vlst (List.map wz r.1)]) (qk r.2):=by
 refine uj (us:=[vlst (List.map wz r.1)]) (cs':=(qk r.2)) (by kernel_rfl) Tryz.func5 Z Z Z Z fun X bl hN => ?_
 unfold z66 at H
 refine zb hN Z (qe Z (zb hN Z (za (zg (.ptr _ _) Z) (qd Z (bE H fun r3 h4 H=>Zp (rn [(0,0),(1,1)]) [(0,_,_,some _)] [(1,_)] (x7v s1 most2 r3 h4) ⟨Z,Z,U⟩ ⟨.inl (.inl Z),.inl (.inl Z),U⟩ ⟨⟨⟨Z,Z⟩,U⟩,U⟩ Z (za (wo (.row _ _) Z) (qi (ι:=(List yi)×(List Int)×Int) (fun i=>[(5,.row 1 i.1.length)]) (fun i=>[(0,.box (some bl) 25 [.dat (vlst (List.map yl i.2.1)),.dat (vint i.2.2)]),(1,.row 64 2 (List.map wz i.1))]) (fun i=>z4o i.1 i.2.1 i.2.2=some r) (fun i=>Z) ?_ ?_)))))))
 ·skip
  refine qi (ι:=Bool×(List Int)×Int) (fun i=>[(0,.ptr 0 0),(5,.row 1 r3.1.length),(16,.dat (zn i.1))]) (fun i=>[(0,.box (some bl) 25 [.dat (vlst (List.map yl i.2.1)),.dat (vint i.2.2)]),(1,.row 64 2 (List.map wz r3.1))]) (fun i=>z4n r3 i.1 i.2.1 i.2.2=some r) (fun i=>Z) ?_ ?_
  ·skip
   refine zm hN Z (za (zg (.row _ _) Z) (zh (xt Qh Z Z) Z (za (vn Z Z) (qd Z (qo (j:=3) Z Z (fun h5 => ?_) (fun h5 => ?_) Z)))))
   ·exact u1 h5 H fun h6 H=>zf Z Z h5 (zg (.ptr _ _) Z) (bE H fun r7 h8 H=>z3d Z Z h5 (yu (Ze r3.2 12 r7 h8) Z ⟨.inl Z,U⟩ Z) Z (za (yh Z (bTT h6) Z) ⟨(r7.1,r7.2.L,r7.2.at_),H,⟨Z,Z,Z,U⟩,⟨Z,Z,U⟩⟩))
   ·exact u2 h5 H fun h9 H=>zc Z Z h5 (zc Z Z h5 (za (yn Z (bFF h9) Z) ⟨(false,r3.2.L,r3.2.at_),H,⟨Z,Z,Z,U⟩,⟨Z,Z,U⟩⟩))
  ·rintro ⟨v10,c11,c12⟩ H
   replace H:z4n r3 v10 c11 c12=some r:=H
   unfold z4n at H
   refine zk _ Z (fun h13 => ?_) (fun h13 => ?_)
   ·refine tE h13 H fun H=>zb hN Z (za (zg (.row _ _) Z) (za (zg (.ptr _ _) Z) (za (zg (.row _ _) Z) (zh (xt Qh Z Z) Z (bE H fun r14 h15 H=>zi (yu (z0n (zr.mk c11 c12) (r3.1.length:Int) r14 h15) Z ⟨.inl Z,U⟩ Z) Z (bE H fun x16 h17 H=>zh (Yl Qq Z Z Z h17) Z (za (wo (.rptr _ _ _ _ _) Z) (zm hN Z (za (zg (.rptr _ _ _ _ _) Z) (za (zg (.rptr _ _ _ _ _) Z) (za (zg (.ptr _ _) Z) (za (zg (.rptr _ _ _ _ _) Z) (za (wu Z) (za (ql Yg Z) (zh (xr tyS9 Z Z (yp h17).2 Z) Z (za (yb (u':=vlst (List.map vd [x16.Id,[],[99,97]])) (qr [[_],[_],[_]] Yf ⟨Z,.inl ⟨_,Z,Z,Z⟩,Z,Z,.inl ⟨_,Z,Z,Z⟩,Z,Z,.inl ⟨_,Z,Z,Z⟩,Z,U⟩ Z Z) Z) (bE H fun r18 h19 H=>zi (yu (y30 r14.2 ([x16.Id,[],[99,97]]) r18 h19) Z ⟨.inl Z,U⟩ Z) Z (za (zg (.ptr _ _) Z) (bE H fun r20 h21 H=>?_)))))))))))))))))))
    exact zi (yu (ui r18.2 0 100 r20 h21) Z ⟨.inl Z,.inl Z,U⟩ Z) Z (za (wu Z) (za (ql Yg Z) (zi (kz (yi.mk r18.1 x16.At) tyS9 Z Z Z Z (yp h17).2 Z Z) Z (za (wu Z) (za (ql Zk Z) (zi (kz (yi.mk r18.1 r20.1) tyS3 Z Z Z (by simp) (jt (yp h17).2) Z Z) Z ⟨(((r3.1.set r14.1.toNat (yi.mk r18.1 x16.At)).set r14.1.toNat (yi.mk r18.1 r20.1)),r20.2.L,r20.2.at_),H,⟨congrArg (Slot.row 1) (by simp),U⟩,⟨Z,Z,U⟩⟩))))))
   ·exact fE h13 H fun H=>zp ⟨(r3.1,c11,c12),H,⟨Z,U⟩,⟨Z,Z,U⟩⟩
 ·rintro ⟨out22,c23,c24⟩ H
  replace H:z4o out22 c23 c24=some r:=H
  unfold z4o at H
  refine zb hN Z (za (zg (.row _ _) Z) (za (wo (.row _ _) Z) (zo ?_)))
  cases H
  exact ⟨U,⟨z5n Z Z,U⟩,Z⟩
theorem x7t (s1:zr) (l2:(List zl)) (r:((List zz)×zr)) (H:z61 s1 l2=some r):FnG Tryz.prog 27 [.ptr 0 0,.dat (vlst (List.map ya l2))] [(0,.box (some 0) 25 (List.map .dat (qk s1)))] (.row 1 r.1.length) [(0,.box (some 0) 25 (List.map .dat (qk r.2))),(1,.row 70 5 (List.map qq r.1))]:=by
 refine Zu (by kernel_rfl) Tryz.func27 Z Z Z Z fun X A hN => ?_
 unfold z61 at H
 refine zb hN Z (qe Z (zb hN Z (qe Z (zd (zb hN Z (qd Z (za (yx vw Z) (qd Z (zw (Qb 5 1 70 5 Z Z Z (gE H fun h8 H=>wg (fun (k6:Nat) (s:(List Int)×Int×(List zz))=>[(0,.ptr 0 0),(5,.row 1 s.2.2.length),(10,.dat (vlst (List.map ya l2))),(11,.dat (vint (l2.length:Int))),(12,.dat (vint (k6:Int)))]) (fun (k6:Nat) (s:(List Int)×Int×(List zz))=>[(0,.box (some (A.bl 0)) 25 [.dat (vlst (List.map yl s.1)),.dat (vint s.2.1)]),(1,.row 70 5 (List.map qq s.2.2))]) (s1.L,s1.at_,[]) H ⟨Z,Z,Z,Z,Z,U⟩ ⟨Z,Z,U⟩ (fun _ _=>Z) ?_ ?_)))))))))))
 ·rintro ⟨c3,c4,l5⟩ H
  replace H:y01 c3 c4 l5=some r:=H
  unfold y01 at H
  refine zb hN Z (za (zq Z Z) (zd (zk _ Z (fun h=>(lt_t h).elim) (fun h => ?_))))
  refine qa (zb hN Z (za (zg (.row _ _) Z) (za (wo (.row _ _) Z) (zo ?_))))
  cases H
  exact ⟨U,[(4,.row 1 _)],⟨Z,U⟩,⟨Z,Z,U⟩,Z,.inr (.inl ⟨4,Z,Z⟩)⟩
 ·rintro k6 x9 ⟨c3,c4,l5⟩ q7 h10 h11 H hq7
  replace H:y0z k6 x9 c3 c4 l5=some q7:=H
  unfold y0z at H
  refine zb hN Z (za (zq Z Z) (zd (zk _ Z (fun h => ?_) (fun h=>(lt_f h10 h).elim))))
  refine zp (zd (zw (zb hN Z (za (wb jq (fun _=>Z) Z Z h11) (za (wv vm Z (yz h11) Z) (zi (qh 2 um Z) Z (zi (qf vm Z Z Z Z) Z (zb hN Z (qe Z (zb hN Z (za (zg (.ptr _ _) Z) (bE H fun r12 h13 H=>zi (yu (y31 (zr.mk c3 c4) 0 3 r12 h13) Z ⟨.inl Z,.inl Z,U⟩ Z) Z (qd Z (zw (gE H fun h20 H=>z2i (fun (k18:Nat) (s:Int×(List Int)×Int×(List zz))=>[(0,.ptr 0 0),(5,.row 1 s.2.2.2.length),(7,.ptr 2 0),(8,.dat (vint s.1)),(10,.dat (vlst (List.map ya l2))),(11,.dat (vint (l2.length:Int))),(12,.dat (vint (k6:Int))),(17,.dat (vint r12.1)),(18,.dat (vint (k18:Int)))]) (fun (k18:Nat) (s:Int×(List Int)×Int×(List zz))=>[(0,.box (some (A.bl 0)) 25 [.dat (vlst (List.map yl s.2.1)),.dat (vint s.2.2.1)]),(1,.row 70 5 (List.map qq s.2.2.2)),(2,.box none 115 [.dat (vstr x9.Key),.dat (vint x9.Weight)])]) (0,r12.2.L,r12.2.at_,l5) H ⟨Z,Z,Z,Z,Z,Z,Z,Z,Z,U⟩ ⟨Z,Z,Z,U⟩ (fun _ _=>Z) ?_ ?_)))))))))))))))
  ·rintro ⟨v14,c15,c16,l17⟩ H
   replace H:y00 v14 c15 c16 l17=some q7:=H
   unfold y00 at H
   refine zb hN Z (za (zq Z Z) (zd (zk _ Z (fun h=>(z37 h).elim) (fun h => ?_))))
   exact qa (zm hN Z (za (yy Z Z (by omega)) (qd Z ⟨_,qx H,⟨Z,Z,Z,Z,Z,U⟩,⟨Z,Z,U⟩⟩)))
  ·rintro k18 ⟨v14,c15,c16,l17⟩ q19 h21 H hq19
   replace H:y0y x9 k18 v14 c15 c16 l17=some q19:=H
   unfold y0y at H
   refine zb hN Z (za (zq Z Z) (zd (zk _ Z (fun h => ?_) (fun h=>(z38 h21 h).elim))))
   refine zp (zd (zw (zb hN Z (qd Z (za (zg (.ptr _ _) Z) (za (yb (u':=vlst (List.map yl [0,0,20])) (qr [[_],[_],[_]] vg ⟨Z,.inl ⟨_,Z,Z,Z⟩,Z,Z,.inl ⟨_,Z,Z,Z⟩,Z,Z,.inl ⟨_,Z,Z,Z⟩,Z,U⟩ Z Z) Z) (bE H fun r22 h23 H=>zi (yu (jz (zr.mk c15 c16) [0,0,20] r22 h23) Z ⟨.inl Z,U⟩ Z) Z (za (ym _ Z Z (.inl ⟨Z,Z⟩)) (qe Z (zb hN Z (qd Z (za (zg (.ptr _ _) Z) (za (yb (u':=vlst (List.map yl [10,30,100,1000])) (qr [[_],[_],[_],[_]] vg ⟨Z,.inl ⟨_,Z,Z,Z⟩,Z,Z,.inl ⟨_,Z,Z,Z⟩,Z,Z,.inl ⟨_,Z,Z,Z⟩,Z,Z,.inl ⟨_,Z,Z,Z⟩,Z,U⟩ Z Z) Z) (bE H fun r24 h25 H=>zi (yu (jz r22.2 [10,30,100,1000] r24 h25) Z ⟨.inl Z,U⟩ Z) Z (za (ym _ Z Z (.inl ⟨Z,Z⟩)) (qe Z (zd (yo mixed hN Z Z (za (zg (.row _ _) Z) (za (ze jg Z) (zh (zj tyS9 Z Z) Z ?_)))))))))))))))))))))
   refine qd Z (qd Z (za (yb (u':=vagg (x1o (ka.mk (wr (v14+r22.1)) (wr ((wr (v14+r22.1))+r24.1))))) (vq [(0,[vint (wr (v14+r22.1))]),(1,[vint (wr ((wr (v14+r22.1))+r24.1))])] x2a x2o Z ⟨Z,.inl ⟨_,Z,Z,Z⟩,Z,Z,.inl ⟨_,Z,Z,Z⟩,Z,U⟩) Z) (za (zg (.ptr _ _) Z) (za (yb (u':=vlst (List.map yl [200,200,404,500,503])) (qr [[_],[_],[_],[_],[_]] vg ⟨Z,.inl ⟨_,Z,Z,Z⟩,Z,Z,.inl ⟨_,Z,Z,Z⟩,Z,Z,.inl ⟨_,Z,Z,Z⟩,Z,Z,.inl ⟨_,Z,Z,Z⟩,Z,Z,.inl ⟨_,Z,Z,Z⟩,Z,U⟩ Z Z) Z) (bE H fun r26 h27 H=>zi (yu (jz r24.2 [200,200,404,500,503] r26 h27) Z ⟨.inl Z,U⟩ Z) Z (za (zg (.ptr _ _) Z) (za (yb (u':=vlst (List.map yl [0,0,3,10,20,50])) (qr [[_],[_],[_],[_],[_],[_]] vg ⟨Z,.inl ⟨_,Z,Z,Z⟩,Z,Z,.inl ⟨_,Z,Z,Z⟩,Z,Z,.inl ⟨_,Z,Z,Z⟩,Z,Z,.inl ⟨_,Z,Z,Z⟩,Z,Z,.inl ⟨_,Z,Z,Z⟩,Z,Z,.inl ⟨_,Z,Z,Z⟩,Z,U⟩ Z Z) Z) (bE H fun r28 h29 H=>zi (yu (jz r26.2 [0,0,3,10,20,50] r28 h29) Z ⟨.inl Z,U⟩ Z) Z (za (yb (u':=vagg (qq (zz.mk x9.Key (ka.mk (wr (v14+r22.1)) (wr ((wr (v14+r22.1))+r24.1))) r26.1 r28.1))) (vq [(0,[vstr x9.Key]),(1,x1o (ka.mk (wr (v14+r22.1)) (wr ((wr (v14+r22.1))+r24.1)))),(3,[vint r26.1]),(4,[vint r28.1])] Qg y5x Z ⟨Z,.inl ⟨_,Z,Z,Z⟩,Z,Z,.inr Z,Z,Z,.inl ⟨_,Z,Z,Z⟩,Z,Z,.inl ⟨_,Z,Z,Z⟩,Z,U⟩) Z) (za (yb (u':=vlst (List.map qq [(zz.mk x9.Key (ka.mk (wr (v14+r22.1)) (wr ((wr (v14+r22.1))+r24.1))) r26.1 r28.1)])) (qr [_] y51 ⟨Z,.inr Z,Z,U⟩ Z Z) Z) (gE H fun h30 H=>zi (jo y51 (fun _=>Z) Z Z Z ⟨by simp,by first | (simp; done) | simpa using h30⟩ Z) Z ?_)))))))))))
   refine za (wo (.row _ _) Z) ⟨Z,?_⟩
   exact zm hN Z (qd Z (qe Z (zm hN Z (za (yy Z Z (by omega)) (qd Z ⟨_,qx H,⟨Z,Z,Z,Z,Z,Z,Z,Z,Z,U⟩,⟨Z,Z,Z,U⟩⟩)))))
theorem x9x (s1:zr) (l2:(List zl)) (r:((List zz)×zr)) (H:z63 s1 l2=some r):Imp Tryz.prog 6 25 (qk s1) [vlst (List.map ya l2)] (zu [vlst (List.map qq r.1)]) (qk r.2):=by
 refine uj (us:=[vlst (List.map qq r.1)]) (cs':=(qk r.2)) (by kernel_rfl) Tryz.func6 Z Z Z Z fun X bl hN => ?_
 unfold z63 at H
 refine zb hN Z (qe Z (zb hN Z (za (zg (.ptr _ _) Z) (qd Z (bE H fun r3 h4 H=>Zp (rn [(0,0),(1,1)]) [(0,_,_,some _)] [(1,_)] (x7t s1 l2 r3 h4) ⟨Z,Z,U⟩ ⟨.inl (.inl Z),.inl (.inl Z),U⟩ ⟨⟨⟨Z,Z⟩,U⟩,U⟩ Z (za (wo (.row _ _) Z) (qi (ι:=(List zz)×(List Int)×Int) (fun i=>[(5,.row 1 i.1.length)]) (fun i=>[(0,.box (some bl) 25 [.dat (vlst (List.map yl i.2.1)),.dat (vint i.2.2)]),(1,.row 70 5 (List.map qq i.1))]) (fun i=>z4l i.1 i.2.1 i.2.2=some r) (fun i=>Z) ?_ ?_)))))))
 ·skip
  refine qi (ι:=Bool×(List Int)×Int) (fun i=>[(0,.ptr 0 0),(5,.row 1 r3.1.length),(16,.dat (zn i.1))]) (fun i=>[(0,.box (some bl) 25 [.dat (vlst (List.map yl i.2.1)),.dat (vint i.2.2)]),(1,.row 70 5 (List.map qq r3.1))]) (fun i=>z4k r3 i.1 i.2.1 i.2.2=some r) (fun i=>Z) ?_ ?_
  ·skip
   refine zm hN Z (za (zg (.row _ _) Z) (zh (xt Wt Z Z) Z (za (vn Z Z) (qd Z (qo (j:=3) Z Z (fun h5 => ?_) (fun h5 => ?_) Z)))))
   ·exact u1 h5 H fun h6 H=>zf Z Z h5 (zg (.ptr _ _) Z) (bE H fun r7 h8 H=>z3d Z Z h5 (yu (Ze r3.2 12 r7 h8) Z ⟨.inl Z,U⟩ Z) Z (za (yh Z (bTT h6) Z) ⟨(r7.1,r7.2.L,r7.2.at_),H,⟨Z,Z,Z,U⟩,⟨Z,Z,U⟩⟩))
   ·exact u2 h5 H fun h9 H=>zc Z Z h5 (zc Z Z h5 (za (yn Z (bFF h9) Z) ⟨(false,r3.2.L,r3.2.at_),H,⟨Z,Z,Z,U⟩,⟨Z,Z,U⟩⟩))
  ·rintro ⟨v10,c11,c12⟩ H
   replace H:z4k r3 v10 c11 c12=some r:=H
   unfold z4k at H
   refine zk _ Z (fun h13 => ?_) (fun h13 => ?_)
   ·refine tE h13 H fun H=>zb hN Z (za (zg (.row _ _) Z) (za (zg (.ptr _ _) Z) (za (zg (.row _ _) Z) (zh (xt Wt Z Z) Z (bE H fun r14 h15 H=>zi (yu (z0n (zr.mk c11 c12) (r3.1.length:Int) r14 h15) Z ⟨.inl Z,U⟩ Z) Z (bE H fun x16 h17 H=>zh (Yl Qp Z Z Z h17) Z (za (wo (.rptr _ _ _ _ _) Z) (zm hN Z (za (zg (.rptr _ _ _ _ _) Z) (za (zg (.rptr _ _ _ _ _) Z) (za (zg (.rptr _ _ _ _ _) Z) (za (zg (.rptr _ _ _ _ _) Z) (za (zg (.ptr _ _) Z) (za (zg (.rptr _ _ _ _ _) Z) (za (wu Z) (za (ql xg Z) (zh (xr tyS9 Z Z (yp h17).2 Z) Z (za (yb (u':=vlst (List.map vd [x16.Instance,[110,111,110,101]])) (qr [[_],[_]] Yf ⟨Z,.inl ⟨_,Z,Z,Z⟩,Z,Z,.inl ⟨_,Z,Z,Z⟩,Z,U⟩ Z Z) Z) (bE H fun r18 h19 H=>zi (yu (y30 r14.2 ([x16.Instance,[110,111,110,101]]) r18 h19) Z ⟨.inl Z,U⟩ Z) Z ?_)))))))))))))))))))
    exact za (zg (.ptr _ _) Z) (bE H fun r20 h21 H=>zi (yu (ui r18.2 0 50 r20 h21) Z ⟨.inl Z,.inl Z,U⟩ Z) Z (za (zg (.ptr _ _) Z) (bE H fun r22 h23 H=>zi (yu (ui r20.2 100 599 r22 h23) Z ⟨.inl Z,.inl Z,U⟩ Z) Z (za (zg (.ptr _ _) Z) (bE H fun r24 h25 H=>zi (yu (ui r22.2 0 3600000 r24 h25) Z ⟨.inl Z,.inl Z,U⟩ Z) Z (za (wu Z) (za (ql xg Z) (zi (kz (zz.mk r18.1 x16.Time x16.Status x16.Took) tyS9 Z Z Z Z (yp h17).2 Z Z) Z (za (wu Z) (za (ql kj Z) (za (ql Qm Z) (zi (kz (zz.mk r18.1 (ka.mk r20.1 x16.Time.To) x16.Status x16.Took) tyS3 Z Z Z (by simp) (jt (yp h17).2) Z Z) Z (za (wu Z) (za (ql z5f Z) (zi (kz (zz.mk r18.1 (ka.mk r20.1 x16.Time.To) r22.1 x16.Took) tyS3 Z Z Z (by simp) (jt (jt (yp h17).2)) Z Z) Z (za (wu Z) (za (ql z1e Z) (zi (kz (zz.mk r18.1 (ka.mk r20.1 x16.Time.To) r22.1 r24.1) tyS3 Z Z Z (by simp) (jt (jt (jt (yp h17).2))) Z Z) Z ⟨(((((r3.1.set r14.1.toNat (zz.mk r18.1 x16.Time x16.Status x16.Took)).set r14.1.toNat (zz.mk r18.1 (ka.mk r20.1 x16.Time.To) x16.Status x16.Took)).set r14.1.toNat (zz.mk r18.1 (ka.mk r20.1 x16.Time.To) r22.1 x16.Took)).set r14.1.toNat (zz.mk r18.1 (ka.mk r20.1 x16.Time.To) r22.1 r24.1)),r24.2.L,r24.2.at_),H,⟨congrArg (Slot.row 1) (by simp),U⟩,⟨Z,Z,U⟩⟩))))))))))))))))))
   ·exact fE h13 H fun H=>zp ⟨(r3.1,c11,c12),H,⟨Z,U⟩,⟨Z,Z,U⟩⟩
 ·rintro ⟨out26,c27,c28⟩ H
  replace H:z4l out26 c27 c28=some r:=H
  unfold z4l at H
  refine zb hN Z (za (zg (.row _ _) Z) (za (wo (.row _ _) Z) (zo ?_)))
  cases H
  exact ⟨U,⟨z5n Z Z,U⟩,Z⟩
theorem x8v (l:Bs) (c r:Int) (H:y3o l c=some r):Fn Tryz.prog 97 [vstr l,vval (.int .u8 c)] (zu [vint r]):=by
 cases H
 refine x0a (by kernel_rfl) fun M w vs h => ?_
 have h1:=x1i (us:=[.string ⟨l.toArray⟩,.int .u8 c]) h
 subst h1
 refine (Tryz.strings_IndexByte ⟨l.toArray⟩ c w).mono ?_
 rintro e w' ⟨rfl,rfl⟩
 exact ⟨_,Z,Z,Kp.refl _ _⟩
theorem y9k (s1:Bs) (some2:Bs) (r:(Bool)) (H:z3w s1 some2=some r):Fn Tryz.prog 77 [vstr s1,vstr some2] (zu [zn r]):=by
 refine ⟨by kernel_rfl,yr (us:=[zn r]) Tryz.func77 Z Z Z Z fun X hN => ?_⟩
 unfold z3w at H
 refine zb hN Z (qe Z (zd (zb hN Z (qd Z (za (z5q tyU9 Z) (qd Z (zw (gE H fun h5 H=>wg (fun (k3:Nat) (s:Unit)=>[(0,.dat (vstr s1)),(1,.dat (vstr some2)),(7,.dat (vint (s1.length:Int))),(8,.dat (vint (k3:Int)))]) (fun (k3:Nat) (s:Unit)=>[]) () H ⟨Z,Z,Z,Z,U⟩ U (fun _ _=>Z) ?_ ?_))))))))
 ·rintro ⟨⟩ H
  replace H:y34=some r:=H
  unfold y34 at H
  refine zb hN Z (za (zq Z Z) (zd (zk _ Z (fun h=>(lt_t h).elim) (fun h => ?_))))
  refine qa (zb hN Z (qe Z (zo ?_)))
  cases H
  exact ⟨U,.inl Z,U⟩
 ·rintro k3 x6 ⟨⟩ q4 h7 h8 H hq4
  replace H:y0m some2 k3 x6=some q4:=H
  unfold y0m at H
  refine zb hN Z (za (zq Z Z) (zd (zk _ Z (fun h => ?_) (fun h=>(lt_f h7 h).elim))))
  refine zp (zd (zw (zb hN Z (qd Z (qe Z (zb hN Z (qd Z (qd Z (qd Z (za (y6e tyU9 Z Z h8) (bE H fun r9 h10 H=>za (ye (x8v some2 (x6.toNat:Int) r9 h10) ⟨.inl Z,.inl Z,U⟩) (za (zq Z Z) (zk _ Z (fun h11 => ?_) (fun h11 => ?_))))))))))))))
  ·refine tE h11 H fun H=>zb hN Z (qe Z (zo ?_))
   replace H:=retl H hq4
   cases H
   exact ⟨U,.inl Z,U⟩
  ·exact fE h11 H fun H=>zp (zm hN Z (za (yy Z Z (by omega)) (qd Z ⟨_,qx H,⟨Z,Z,Z,Z,U⟩,U⟩)))
theorem y9o (s1:Bs) (r:(Bool)) (H:z31 s1=some r):Fn Tryz.prog 39 [vstr s1] (zu [zn r]):=by
 refine ⟨by kernel_rfl,yr (us:=[zn r]) Tryz.func39 Z Z Z Z fun X hN => ?_⟩
 unfold z31 at H
 refine zb hN Z (qe Z (qi (ι:=Bool) (fun i=>[(2,.dat (zn i))]) (fun i=>[]) (fun i=>z18 i=some r) (fun i=>Z) ?_ ?_))
 ·skip
  refine zm hN Z (qd Z (za (z5q tyU9 Z) (bE H fun r2 h3 H=>za (ye (uh (s1.length:Int) 1 40 r2 h3) ⟨.inl Z,.inl Z,.inl Z,U⟩) (qd Z (qo (j:=3) Z Z (fun h4 => ?_) (fun h4 => ?_) Z)))))
  ·refine u1 h4 H fun h5 H=>zf Z Z h4 (zg (.dat _) Z) (bE H fun l6 h7 H=>zf Z Z h4 (x3k tyU9 Z Z Z h7) (bE H fun r8 h9 H=>zf Z Z h4 (ye (y9k l6 [97,98,99,100,101,102,103,104,105,106,107,108,109,110,111,112,113,114,115,116,117,118,119,120,121,122] r8 h9) ⟨.inl Z,.inl Z,U⟩) (za (yh Z (bTT h5) Z) (qd Z (qo (j:=8) Z Z (fun h10 => ?_) (fun h10 => ?_) Z)))))
   ·exact u1 h10 H fun h11 H=>zf Z Z h10 (zg (.dat _) Z) (bE H fun r12 h13 H=>zf Z Z h10 (ye (y9k s1 [97,98,99,100,101,102,103,104,105,106,107,108,109,110,111,112,113,114,115,116,117,118,119,120,121,122,48,49,50,51,52,53,54,55,56,57,45,95] r12 h13) ⟨.inl Z,.inl Z,U⟩) (za (yh Z (bTT h11) Z) (qe Z ⟨r12,H,⟨Z,U⟩,U⟩)))
   ·exact u2 h10 H fun h14 H=>zc Z Z h10 (zc Z Z h10 (za (yn Z (bFF h14) Z) (qe Z ⟨false,H,⟨Z,U⟩,U⟩)))
  ·exact u2 h4 H fun h15 H=>zc Z Z h4 (zc Z Z h4 (zc Z Z h4 (za (yn Z (bFF h15) Z) (qd Z (zc Z Z Z (zc Z Z Z (za (yn Z Z Z) (qe Z ⟨false,H,⟨Z,U⟩,U⟩))))))))
 ·rintro v16 H
  replace H:z18 v16=some r:=H
  unfold z18 at H
  refine zo ?_
  cases H
  exact ⟨U,.inl Z,U⟩
theorem x9n (l1:(List zl)) (r:(Int)) (H:z6v l1=some r):Fn Tryz.prog 34 [vlst (List.map ya l1)] (zu [vint r]):=by
 refine ⟨by kernel_rfl,yr (us:=[vint r]) Tryz.func34 Z Z Z Z fun X hN => ?_⟩
 unfold z6v at H
 refine zb hN Z (qe Z (zd (zb hN Z (qd Z (za (yx vw Z) (za (vn Z Z) (zk _ Z (fun h2 => ?_) (fun h2 => ?_))))))))
 ·refine tE h2 H fun H=>zb hN Z (qe Z (zo ?_))
  cases H
  exact ⟨U,.inl Z,U⟩
 ·refine fE h2 H fun H=>zp (zb hN Z (qe Z (zd (zb hN Z (qd Z (za (yx vw Z) (qd Z (zw (gE H fun h6 H=>wg (fun (k4:Nat) (s:Bs)=>[(3,.dat (vstr s)),(9,.dat (vlst (List.map ya l1))),(10,.dat (vint (l1.length:Int))),(11,.dat (vint (k4:Int)))]) (fun (k4:Nat) (s:Bs)=>[]) [] H ⟨Z,Z,Z,Z,U⟩ U (fun _ _=>Z) ?_ ?_)))))))))
  ·rintro last3 H
   replace H:y0u last3=some r:=H
   unfold y0u at H
   refine zb hN Z (za (zq Z Z) (zd (zk _ Z (fun h=>(lt_t h).elim) (fun h => ?_))))
   refine qa (zb hN Z (qe Z (zo ?_)))
   cases H
   exact ⟨U,.inl Z,U⟩
  ·rintro k4 x7 last3 q5 h8 h9 H hq5
   replace H:z19 k4 x7 last3=some q5:=H
   unfold z19 at H
   refine zb hN Z (za (zq Z Z) (zd (zk _ Z (fun h => ?_) (fun h=>(lt_f h8 h).elim))))
   refine zp (zd (zw (zb hN Z (za (wb jq (fun _=>Z) Z Z h9) (za (wv vm Z (yz h9) Z) (zi (qh 1 um Z) Z (zi (qf vm Z Z Z Z) Z (zd (zw (zb hN Z (za (ze jg Z) (zh (zj tyS9 Z Z) Z (bE H fun r10 h11 H=>za (ye (y9o x7.Key r10 h11) ⟨.inl Z,U⟩) (za (qs Z) (qe Z (zk _ Z (fun h12 => ?_) (fun h12 => ?_)))))))))))))))))
   ·refine tE h12 H fun H=>zb hN Z (qe Z (zo ?_))
    replace H:=retl H hq5
    cases H
    exact ⟨U,.inl Z,U⟩
   ·refine fE h12 H fun H=>zb hN Z (za (ze jg Z) (zh (zj tyS9 Z Z) Z (qd Z (za (y6n Z Z) (qe Z (zk _ Z (fun h13 => ?_) (fun h13 => ?_)))))))
    ·refine tE h13 H fun H=>zb hN Z (qe Z (zo ?_))
     replace H:=retl H hq5
     cases H
     exact ⟨U,.inl Z,U⟩
    ·refine fE h13 H fun H=>zb hN Z (za (ze Qo Z) (zh (zj tyS3 Z Z) Z (bE H fun r14 h15 H=>za (ye (uh x7.Weight 1 100 r14 h15) ⟨.inl Z,.inl Z,.inl Z,U⟩) (za (qs Z) (qe Z (zk _ Z (fun h16 => ?_) (fun h16 => ?_)))))))
     ·refine tE h16 H fun H=>zb hN Z (qe Z (zo ?_))
      replace H:=retl H hq5
      cases H
      exact ⟨U,.inl Z,U⟩
     ·exact fE h16 H fun H=>zp (zm hN Z (za (ze jg Z) (zh (zj tyS9 Z Z) Z (qe Z (zm hN Z (za (yy Z Z (by omega)) (qd Z ⟨_,qx H,⟨Z,Z,Z,Z,U⟩,U⟩)))))))
theorem x9s (b1:wn) (r:(Int)) (H:z6y b1=some r):Fn Tryz.prog 36 [vagg (xy b1)] (zu [vint r]):=by
 refine ⟨by kernel_rfl,yr (us:=[vint r]) Tryz.func36 Z Z Z Z fun X hN => ?_⟩
 unfold z6y at H
 refine zb hN Z (zi (vt 1 Z) Z (qe Z (zd (qi (ι:=Bool) (fun i=>[(18,.dat (zn i))]) (fun i=>[]) (fun i=>z2a i=some r) (fun i=>Z) ?_ ?_))))
 ·skip
  refine zm hN Z (za (ze z8l Z) (zh (zj tyS3 Z Z) Z (bE H fun r2 h3 H=>za (ye (uh b1.Window 1 3600000 r2 h3) ⟨.inl Z,.inl Z,.inl Z,U⟩) (za (qs Z) (qd Z (qo (j:=4) Z Z (fun h4 => ?_) (fun h4 => ?_) Z))))))
  ·refine u3 h4 H fun h5 H=>zf Z Z h4 (ze z8k Z) (yd Z Z h4 (zj tyS3 Z Z) Z (bE H fun r6 h7 H=>zf Z Z h4 (ye (uh b1.Least 0 300 r6 h7) ⟨.inl Z,.inl Z,.inl Z,U⟩) (zf Z Z h4 (qs Z) (za (yn Z (bFF h5) Z) (qd Z (qo (j:=10) Z Z (fun h8 => ?_) (fun h8 => ?_) Z))))))
   ·exact u3 h8 H fun h9 H=>zf Z Z h8 (ze z8j Z) (yd Z Z h8 (zj tyS3 Z Z) Z (bE H fun r10 h11 H=>zf Z Z h8 (ye (uh b1.Part 0 1000 r10 h11) ⟨.inl Z,.inl Z,.inl Z,U⟩) (zf Z Z h8 (qs Z) (za (yn Z (bFF h9) Z) ⟨!r10,H,⟨Z,U⟩,U⟩))))
   ·exact u4 h8 H fun h12 H=>zc Z Z h8 (zc Z Z h8 (zc Z Z h8 (zc Z Z h8 (za (yh Z (bTT h12) Z) ⟨true,H,⟨Z,U⟩,U⟩))))
  ·exact u4 h4 H fun h13 H=>zc Z Z h4 (zc Z Z h4 (zc Z Z h4 (zc Z Z h4 (za (yh Z (bTT h13) Z) (qd Z (zc Z Z Z (zc Z Z Z (zc Z Z Z (zc Z Z Z (za (yh Z Z Z) ⟨true,H,⟨Z,U⟩,U⟩))))))))))
 ·rintro v14 H
  replace H:z2a v14=some r:=H
  unfold z2a at H
  refine zk _ Z (fun h15 => ?_) (fun h15 => ?_)
  ·refine tE h15 H fun H=>zb hN Z (qe Z (zo ?_))
   cases H
   exact ⟨U,.inl Z,U⟩
  ·refine fE h15 H fun H=>zp (zb hN Z (qe Z (zo ?_)))
   cases H
   exact ⟨U,.inl Z,U⟩
theorem x9j (o1:vo) (r:(Int)) (H:z6r o1=some r):Fn Tryz.prog 37 [vagg (xx o1)] (zu [vint r]):=by
 refine ⟨by kernel_rfl,yr (us:=[vint r]) Tryz.func37 Z Z Z Z fun X hN => ?_⟩
 unfold z6r at H
 refine zb hN Z (zi (vt 1 Z) Z (qe Z (zd (qi (ι:=Bool) (fun i=>[(25,.dat (zn i))]) (fun i=>[]) (fun i=>z0s i=some r) (fun i=>Z) ?_ ?_))))
 ·skip
  refine zm hN Z (za (ze z5i Z) (zh (zj tyS3 Z Z) Z (bE H fun r2 h3 H=>za (ye (uh o1.Fails 1 100 r2 h3) ⟨.inl Z,.inl Z,.inl Z,U⟩) (za (qs Z) (qd Z (qo (j:=4) Z Z (fun h4 => ?_) (fun h4 => ?_) Z))))))
  ·refine u3 h4 H fun h5 H=>zf Z Z h4 (ze z21 Z) (yd Z Z h4 (zj tyS3 Z Z) Z (zf Z Z h4 (ze Wy Z) (yd Z Z h4 (zj tyS3 Z Z) Z (bE H fun r6 h7 H=>zf Z Z h4 (ye (uh o1.Base 1 o1.Most r6 h7) ⟨.inl Z,.inl Z,.inl Z,U⟩) (zf Z Z h4 (qs Z) (za (yn Z (bFF h5) Z) (qd Z (qo (j:=12) Z Z (fun h8 => ?_) (fun h8 => ?_) Z))))))))
   ·refine u3 h8 H fun h9 H=>zf Z Z h8 (ze Wy Z) (yd Z Z h8 (zj tyS3 Z Z) Z (zf Z Z h8 (vn Z Z) (za (yn Z (bFF h9) Z) (qd Z (qo (j:=17) Z Z (fun h10 => ?_) (fun h10 => ?_) Z)))))
    ·exact u3 h10 H fun h11 H=>zf Z Z h10 (ze z5h Z) (yd Z Z h10 (zj tyS3 Z Z) Z (bE H fun r12 h13 H=>zf Z Z h10 (ye (uh o1.Share 0 1000 r12 h13) ⟨.inl Z,.inl Z,.inl Z,U⟩) (zf Z Z h10 (qs Z) (za (yn Z (bFF h11) Z) ⟨!r12,H,⟨Z,U⟩,U⟩))))
    ·exact u4 h10 H fun h14 H=>zc Z Z h10 (zc Z Z h10 (zc Z Z h10 (zc Z Z h10 (za (yh Z (bTT h14) Z) ⟨true,H,⟨Z,U⟩,U⟩))))
   ·exact u4 h8 H fun h15 H=>zc Z Z h8 (zc Z Z h8 (zc Z Z h8 (za (yh Z (bTT h15) Z) (qd Z (zc Z Z Z (zc Z Z Z (zc Z Z Z (zc Z Z Z (za (yh Z Z Z) ⟨true,H,⟨Z,U⟩,U⟩)))))))))
  ·exact u4 h4 H fun h16 H=>zc Z Z h4 (zc Z Z h4 (zc Z Z h4 (zc Z Z h4 (zc Z Z h4 (zc Z Z h4 (za (yh Z (bTT h16) Z) (qd Z (zc Z Z Z (zc Z Z Z (zc Z Z Z (za (yh Z Z Z) (qd Z (zc Z Z Z (zc Z Z Z (zc Z Z Z (zc Z Z Z (za (yh Z Z Z) ⟨true,H,⟨Z,U⟩,U⟩)))))))))))))))))
 ·rintro v17 H
  replace H:z0s v17=some r:=H
  unfold z0s at H
  refine zk _ Z (fun h18 => ?_) (fun h18 => ?_)
  ·refine tE h18 H fun H=>zb hN Z (qe Z (zo ?_))
   cases H
   exact ⟨U,.inl Z,U⟩
  ·refine fE h18 H fun H=>zp (zb hN Z (qe Z (zo ?_)))
   cases H
   exact ⟨U,.inl Z,U⟩
theorem x9d (s1:qb) (r:(Int)) (H:z6m s1=some r):Fn Tryz.prog 8 [vagg (xo s1)] (zu [vint r]):=by
 refine ⟨by kernel_rfl,yr (us:=[vint r]) Tryz.func8 Z Z Z Z fun X hN => ?_⟩
 unfold z6m at H
 refine zb hN Z (zi (vt 1 Z) Z (qe Z (zd (zb hN Z (za (ze kx Z) (zh (zj kd Z Z) Z (bE H fun r2 h3 H=>za (ye (x9n s1.Instances r2 h3) ⟨.inl Z,U⟩) (qe Z (zb hN Z (qd Z (za (km Z Z) (zk _ Z (fun h4 => ?_) (fun h4 => ?_)))))))))))))
 ·refine tE h4 H fun H=>zb hN Z (qd Z (qe Z (zo ?_)))
  cases H
  exact ⟨U,.inl Z,U⟩
 ·refine fE h4 H fun H=>zp (zd (qi (ι:=Bool) (fun i=>[(1,.ptr 1 0),(33,.dat (zn i))]) (fun i=>[(1,.box none 32 [.dat (vlst (List.map ya s1.Instances)),.dat (vint s1.Tries),.dat (vint s1.Timeout),.dat (vint s1.Wait),.dat (vint s1.MostWait),.dat (vint s1.Budget.Window),.dat (vint s1.Budget.Least),.dat (vint s1.Budget.Part),.dat (vint s1.Outliers.Fails),.dat (vint s1.Outliers.Base),.dat (vint s1.Outliers.Most),.dat (vint s1.Outliers.Share)])]) (fun i=>z0p s1 i=some r) (fun i=>Z) ?_ ?_))
  ·skip
   refine zm hN Z (za (ze Qn Z) (zh (zj tyS3 Z Z) Z (bE H fun r5 h6 H=>za (ye (uh s1.Tries 1 5 r5 h6) ⟨.inl Z,.inl Z,.inl Z,U⟩) (za (qs Z) (qd Z (qo (j:=4) Z Z (fun h7 => ?_) (fun h7 => ?_) Z))))))
   ·refine u3 h7 H fun h8 H=>zf Z Z h7 (ze z1g Z) (yd Z Z h7 (zj tyS3 Z Z) Z (bE H fun r9 h10 H=>zf Z Z h7 (ye (uh s1.Timeout 1 3600000 r9 h10) ⟨.inl Z,.inl Z,.inl Z,U⟩) (zf Z Z h7 (qs Z) (za (yn Z (bFF h8) Z) (qd Z (qo (j:=10) Z Z (fun h11 => ?_) (fun h11 => ?_) Z))))))
    ·refine u3 h11 H fun h12 H=>zf Z Z h11 (ze z20 Z) (yd Z Z h11 (zj tyS3 Z Z) Z (zf Z Z h11 (ze Wx Z) (yd Z Z h11 (zj tyS3 Z Z) Z (bE H fun r13 h14 H=>zf Z Z h11 (ye (uh s1.Wait 0 s1.MostWait r13 h14) ⟨.inl Z,.inl Z,.inl Z,U⟩) (zf Z Z h11 (qs Z) (za (yn Z (bFF h12) Z) (qd Z (qo (j:=18) Z Z (fun h15 => ?_) (fun h15 => ?_) Z))))))))
     ·exact u3 h15 H fun h16 H=>zf Z Z h15 (ze Wx Z) (yd Z Z h15 (zj tyS3 Z Z) Z (zf Z Z h15 (vn Z Z) (za (yn Z (bFF h16) Z) ⟨decide (3600000 < s1.MostWait),H,⟨Z,Z,U⟩,⟨Z,U⟩⟩)))
     ·exact u4 h15 H fun h17 H=>zc Z Z h15 (zc Z Z h15 (zc Z Z h15 (za (yh Z (bTT h17) Z) ⟨true,H,⟨Z,Z,U⟩,⟨Z,U⟩⟩)))
    ·exact u4 h11 H fun h18 H=>zc Z Z h11 (zc Z Z h11 (zc Z Z h11 (zc Z Z h11 (zc Z Z h11 (zc Z Z h11 (za (yh Z (bTT h18) Z) (qd Z (zc Z Z Z (zc Z Z Z (zc Z Z Z (za (yh Z Z Z) ⟨true,H,⟨Z,Z,U⟩,⟨Z,U⟩⟩)))))))))))
   ·exact u4 h7 H fun h19 H=>zc Z Z h7 (zc Z Z h7 (zc Z Z h7 (zc Z Z h7 (za (yh Z (bTT h19) Z) (qd Z (zc Z Z Z (zc Z Z Z (zc Z Z Z (zc Z Z Z (zc Z Z Z (zc Z Z Z (za (yh Z Z Z) (qd Z (zc Z Z Z (zc Z Z Z (zc Z Z Z (za (yh Z Z Z) ⟨true,H,⟨Z,Z,U⟩,⟨Z,U⟩⟩)))))))))))))))))
  ·rintro v20 H
   replace H:z0p s1 v20=some r:=H
   unfold z0p at H
   refine zk _ Z (fun h21 => ?_) (fun h21 => ?_)
   ·refine tE h21 H fun H=>zb hN Z (qe Z (zo ?_))
    cases H
    exact ⟨U,.inl Z,U⟩
   ·refine fE h21 H fun H=>zp (zd (zb hN Z (za (ze z1f Z) (zh (wm xc Z Z Z) Z (bE H fun r22 h23 H=>za (ye (x9s s1.Budget r22 h23) ⟨.inl Z,U⟩) (qe Z (zb hN Z (qd Z (za (km Z Z) (zk _ Z (fun h24 => ?_) (fun h24 => ?_)))))))))))
    ·refine tE h24 H fun H=>zb hN Z (qd Z (qe Z (zo ?_)))
     cases H
     exact ⟨U,.inl Z,U⟩
    ·refine fE h24 H fun H=>zp (zb hN Z (za (ze z5g Z) (zh (wm xb Z Z Z) Z (bE H fun r25 h26 H=>za (ye (x9j s1.Outliers r25 h26) ⟨.inl Z,U⟩) (qe Z (zo ?_))))))
     cases H
     exact ⟨U,.inl Z,U⟩
theorem x80 (s1:(List zl)) (p1:zl→Option (Bool)) (fv1:Nat) (us1:List V) (hp1:∀ a0 r,p1 a0=some r→Fn Tryz.prog fv1 ([vagg (ya a0)]++us1) (zu [zn r])) (r:(Int)) (H:z92 s1 p1=some r):Fn Tryz.prog 75 [vlst (List.map ya s1),vfn fv1 us1] (zu [vint r]):=by
 refine ⟨by kernel_rfl,yr (us:=[vint r]) Tryz.func75 Z Z Z Z fun X hN => ?_⟩
 unfold z92 at H
 refine zb hN Z (qe Z (zd (zb hN Z (qd Z (za (yx vw Z) (qd Z (zw (gE H fun h4 H=>wg (fun (k2:Nat) (s:Unit)=>[(0,.dat (vlst (List.map ya s1))),(1,.dat (vfn fv1 us1)),(7,.dat (vint (s1.length:Int))),(8,.dat (vint (k2:Int)))]) (fun (k2:Nat) (s:Unit)=>[]) () H ⟨Z,Z,Z,Z,U⟩ U (fun _ _=>Z) ?_ ?_))))))))
 ·rintro ⟨⟩ H
  replace H:z87=some r:=H
  unfold z87 at H
  refine zb hN Z (za (zq Z Z) (zd (zk _ Z (fun h=>(lt_t h).elim) (fun h => ?_))))
  refine qa (zb hN Z (qe Z (zo ?_)))
  cases H
  exact ⟨U,.inl Z,U⟩
 ·rintro k2 x5 ⟨⟩ q3 h6 h7 H hq3
  replace H:Qt p1 k2 x5=some q3:=H
  unfold Qt at H
  refine zb hN Z (za (zq Z Z) (zd (zk _ Z (fun h => ?_) (fun h=>(lt_f h6 h).elim))))
  refine zp (zd (zw (zb hN Z (qd Z (qe Z (zb hN Z (qd Z (qd Z (qd Z (za (wb jq (fun _=>Z) Z Z h7) (za (wv vm Z (yz h7) Z) (bE H fun r8 h9 H=>za (uw (hp1 x5 r8 h9) Z ⟨.inl Z,U⟩) (zk _ Z (fun h10 => ?_) (fun h10 => ?_))))))))))))))
  ·refine tE h10 H fun H=>zb hN Z (qd Z (qe Z (zo ?_)))
   replace H:=retl H hq3
   cases H
   exact ⟨U,.inl Z,U⟩
  ·exact fE h10 H fun H=>zp (zm hN Z (za (yy Z Z (by omega)) (qd Z ⟨_,qx H,⟨Z,Z,Z,Z,U⟩,U⟩)))
theorem x9o (x1:zl) (c2:Bs) (r:(Bool)) (H:z0l x1 c2=some r):Fn Tryz.prog 76 [vagg (ya x1),zx [[vstr c2]] 0 0] (zu [zn r]):=by
 refine ⟨by kernel_rfl,yr (us:=[zn r]) Tryz.func76 Z Z Z Z fun X hN => ?_⟩
 unfold z0l at H
 refine zb hN Z (zi (vt 1 Z) Z (qe Z (zb hN Z (za (ze jg Z) (zh (zj tyS9 Z Z) Z (za (yt tyS9 Z Z Z) (za (xu Z Z) (qe Z (zo ?_)))))))))
 cases H
 exact ⟨U,.inl Z,U⟩
theorem x9p (l1:(List zl)) (key2:Bs) (r:(Int)) (H:z6w l1 key2=some r):Fn Tryz.prog 38 [vlst (List.map ya l1),vstr key2] (zu [vint r]):=by
 refine ⟨by kernel_rfl,yr (us:=[vint r]) Tryz.func38 Z Z Z Z fun X hN => ?_⟩
 unfold z6w at H
 refine zb hN Z (zi (z0c 1 Z Z) Z (qe Z (zd (xm 1 [vstr key2] Z Z (zm hN Z (qd Z (za (Yn (us:=[_]) ⟨Z,U⟩) (bE H fun r3 h4 H=>za (ye (x80 l1 (fun (a0:zl)=>z0l a0 key2) 76 [zx [[vstr key2]] 0 0] (fun a0 r h=>x9o a0 key2 r h) r3 h4) ⟨.inl Z,.inl Z,U⟩) (qe Z (zo ?_))))))))))
 cases H
 exact ⟨U,.inl Z,U⟩
end Go.Proofs.YtgdijjmdfcgifaaGreat
