/- Walks along the models. Printed by a program. -/
import Derived.Test.YtbndlmnjeofkdabGreatDoorZvc
namespace Go.Proofs.YtbndlmnjeofkdabGreatDoor
open Go.RowKit
set_option linter.unusedVariables false
set_option maxRecDepth 100000
set_option maxHeartbeats 2000000
theorem z3d (x1:Int) (n2:Int) (r:(Int)) (H:um x1 n2=some r):Fn Tryz.prog 51 [vint x1,vint n2] (zo [vint r]):=by
 refine ⟨by kernel_rfl,yb (us:=[vint r]) Tryz.func51 Z Z Z Z fun X hN => ?_⟩
 unfold um at H
 refine zb hN Z (qe Z (ze (zb hN Z (qd Z (za (zx Z Z) (zg _ Z (fun h3 => ?_) (fun h3 => ?_)))))))
 ·refine tE h3 H fun H=>zb hN Z (qe Z (zh ?_))
  cases H
  exact ⟨U,.inl Z,U⟩
 ·refine fE h3 H fun H=>zl (zb hN Z (qd Z (qd Z (gE H fun h4 H=>za (z4q Z Z h4) (qe Z (yp (ι:=Int) (fun i=>[(0,.dat (vint i))]) (fun i=>[]) (fun i=>Zn i=some r) (fun i=>Z) ?_ ?_))))))
  ·skip
   refine zb hN Z (qd Z (za (zx Z Z) (zg _ Z (fun h5 => ?_) (fun h5 => ?_))))
   ·exact tE h5 H fun H=>zt hN Z (qd Z (qd Z (za (ye _ Z Z (.inl ⟨Z,Z⟩)) (qe Z ⟨wr ((Int.tmod x1 n2)+n2),H,⟨Z,U⟩,U⟩))))
   ·exact fE h5 H fun H=>zl ⟨(Int.tmod x1 n2),H,⟨Z,U⟩,U⟩
  ·rintro x6 H
   replace H:Zn x6=some r:=H
   unfold Zn at H
   refine zb hN Z (qd Z (qe Z (zh ?_)))
   cases H
   exact ⟨U,.inl Z,U⟩
theorem uu (s1:zm) (n2:Int) (r:(Int×zm)) (H:vp s1 n2=some r):Imp Tryz.prog 23 25 (yf s1) [vint n2] (zo [vint r.1]) (yf r.2):=by
 refine wx (us:=[vint r.1]) (cs':=(yf r.2)) (by kernel_rfl) Tryz.func23 Z Z Z Z fun X bl hN => ?_
 unfold vp at H
 refine zb hN Z (qe Z (zb hN Z (za (zd (.ptr _ _) Z) (za (jl Z) (za (zu Zv Z) (zp (zv tyS3 Z Z) Z (za (ye _ Z Z (.inl ⟨Z,Z⟩)) (za (jl Z) (za (zu Zv Z) (zj (ve tyS3 Z Z Z Z) Z (ze (zb hN Z (za (zd (.ptr _ _) Z) (za (jl Z) (za (zu Wv Z) (zp (zv Wt Z Z) Z (za (yk Ws Z) (za (qy Z Z) (zg _ Z (fun h3 => ?_) (fun h3 => ?_))))))))))))))))))))
 ·refine tE h3 H fun H=>zb hN Z (za (zd (.ptr _ _) Z) (za (jl Z) (za (zu Zv Z) (zp (zv tyS3 Z Z) Z (za (ye _ Z Z (.inr (.inr ⟨Z,Z⟩))) (qd Z (bE H fun r4 h5 H=>za (zr (z3d (wr ((wr (s1.at_+1)) * 7919)) n2 r4 h5) ⟨.inl Z,.inl Z,U⟩) (qe Z (zh ?_)))))))))
  cases H
  exact ⟨U,⟨.inl Z,U⟩,Z⟩
 ·refine fE h3 H fun H=>zl (ze (wz mixed hN Z Z (za (zd (.ptr _ _) Z) (za (jl Z) (za (zu Zv Z) (zp (zv tyS3 Z Z) Z (za (ye _ Z Z (.inr (.inl ⟨Z,Z⟩))) (za (zd (.ptr _ _) Z) (za (jl Z) (za (zu Wv Z) (zp (zv Wt Z Z) Z (za (yk Ws Z) (gE H fun h6 H=>za (z4q Z Z h6) (qe Z ⟨Z,?_⟩))))))))))))))
  refine ze (wz mixed hN Z Z (za (zd (.ptr _ _) Z) (za (jl Z) (za (zu Zv Z) (zp (zv tyS3 Z Z) Z (za (ye _ Z Z (.inr (.inl ⟨Z,Z⟩))) (za (zd (.ptr _ _) Z) (za (jl Z) (za (zu Wv Z) (zp (zv Wt Z Z) Z (za (yk Ws Z) (gE H fun h7 H=>za (z9f Z Z h7.1 h7.2) (qe Z ⟨Z,?_⟩)))))))))))))
  refine zb hN Z (za (zd (.ptr _ _) Z) (za (jl Z) (za (zu Wv Z) (zp (zv Wt Z Z) Z (qd Z (bE H fun x8 h9 H=>za (jw z4i (fun _=>Z) Z Z h9) (za (ym tyS3 Z (yr (yn h9).2) Z) (bE H fun r10 h11 H=>za (zr (z3d x8 1073741824 r10 h11) ⟨.inl Z,.inl Z,U⟩) (qd Z (qd Z (za (ye _ Z Z (.inl ⟨Z,Z⟩)) (za (ye _ Z Z (.inr (.inr ⟨Z,Z⟩))) (za (ye _ Z Z (.inl ⟨Z,Z⟩)) (qd Z (bE H fun r12 h13 H=>za (zr (z3d (wr (r10+(wr (((wr ((wr (s1.at_+1)) - 1)) / (s1.L.length:Int)) * (wr (7919+(Int.tmod (wr ((wr (s1.at_+1)) - 1)) (s1.L.length:Int)))))))) n2 r12 h13) ⟨.inl Z,.inl Z,U⟩) (qe Z (zh ?_)))))))))))))))))
  cases H
  exact ⟨U,⟨.inl Z,U⟩,Z⟩
theorem uv (s1:zm) (n2:Int) (r:(Bool×zm)) (H:vq s1 n2=some r):Imp Tryz.prog 18 25 (yf s1) [vint n2] (zo [zk r.1]) (yf r.2):=by
 refine wx (us:=[zk r.1]) (cs':=(yf r.2)) (by kernel_rfl) Tryz.func18 Z Z Z Z fun X bl hN => ?_
 unfold vq at H
 refine zb hN Z (qe Z (zb hN Z (za (zd (.ptr _ _) Z) (qd Z (bE H fun r3 h4 H=>zj (yc (uu s1 n2 r3 h4) Z ⟨.inl Z,U⟩ Z) Z (za (qy Z Z) (qe Z (zh ?_))))))))
 cases H
 exact ⟨U,⟨.inl Z,U⟩,Z⟩
theorem ww (s1:zm) (l2:(List Bs)) (r:(Bs×zm)) (H:wb s1 l2=some r):Imp Tryz.prog 20 25 (yf s1) [vlst (List.map zi l2)] (zo [vstr r.1]) (yf r.2):=by
 refine wx (us:=[vstr r.1]) (cs':=(yf r.2)) (by kernel_rfl) Tryz.func20 Z Z Z Z fun X bl hN => ?_
 unfold wb at H
 refine zb hN Z (qe Z (zb hN Z (qd Z (za (zd (.ptr _ _) Z) (qd Z (za (yk qc Z) (bE H fun r3 h4 H=>zj (yc (uu s1 (l2.length:Int) r3 h4) Z ⟨.inl Z,U⟩ Z) Z (bE H fun x5 h6 H=>za (jw qt (fun _=>Z) Z Z h6) (za (ym tyS9 Z (yr (yn h6).2) Z) (qe Z (zh ?_)))))))))))
 cases H
 exact ⟨U,⟨.inl Z,U⟩,Z⟩
theorem Zg (s1:zm) (l2:(List Int)) (r:(Int×zm)) (H:jc s1 l2=some r):Imp Tryz.prog 19 25 (yf s1) [vlst (List.map qw l2)] (zo [vint r.1]) (yf r.2):=by
 refine wx (us:=[vint r.1]) (cs':=(yf r.2)) (by kernel_rfl) Tryz.func19 Z Z Z Z fun X bl hN => ?_
 unfold jc at H
 refine zb hN Z (qe Z (zb hN Z (qd Z (za (zd (.ptr _ _) Z) (qd Z (za (yk Ws Z) (bE H fun r3 h4 H=>zj (yc (uu s1 (l2.length:Int) r3 h4) Z ⟨.inl Z,U⟩ Z) Z (bE H fun x5 h6 H=>za (jw z4i (fun _=>Z) Z Z h6) (za (ym tyS3 Z (yr (yn h6).2) Z) (qe Z (zh ?_)))))))))))
 cases H
 exact ⟨U,⟨.inl Z,U⟩,Z⟩
theorem z3c (s1:zm) (low2:Int) (high3:Int) (r:(Int×zm)) (H:Zf s1 low2 high3=some r):Imp Tryz.prog 49 25 (yf s1) [vint low2,vint high3] (zo [vint r.1]) (yf r.2):=by
 refine wx (us:=[vint r.1]) (cs':=(yf r.2)) (by kernel_rfl) Tryz.func49 Z Z Z Z fun X bl hN => ?_
 unfold Zf at H
 refine zb hN Z (qe Z (ze (zb hN Z (qd Z (qd Z (za (zx Z Z) (zg _ Z (fun h4 => ?_) (fun h4 => ?_))))))))
 ·refine tE h4 H fun H=>zb hN Z (qd Z (qe Z (zh ?_)))
  cases H
  exact ⟨U,⟨.inl Z,U⟩,Z⟩
 ·refine fE h4 H fun H=>zl (zb hN Z (qd Z (za (zd (.ptr _ _) Z) (qd Z (qd Z (za (ye _ Z Z (.inr (.inl ⟨Z,Z⟩))) (za (ye _ Z Z (.inl ⟨Z,Z⟩)) (bE H fun r5 h6 H=>zj (yc (uu s1 (wr ((wr (high3 - low2))+1)) r5 h6) Z ⟨.inl Z,U⟩ Z) Z (za (ye _ Z Z (.inl ⟨Z,Z⟩)) (qe Z (zh ?_)))))))))))
  cases H
  exact ⟨U,⟨.inl Z,U⟩,Z⟩
theorem z03 (s1:zm) (low2:Int) (high3:Int) (r:(Int×zm)) (H:kr s1 low2 high3=some r):Imp Tryz.prog 21 25 (yf s1) [vint low2,vint high3] (zo [vint r.1]) (yf r.2):=by
 refine wx (us:=[vint r.1]) (cs':=(yf r.2)) (by kernel_rfl) Tryz.func21 Z Z Z Z fun X bl hN => ?_
 unfold kr at H
 refine zb hN Z (qe Z (ze (zb hN Z (za (zd (.ptr _ _) Z) (bE H fun r4 h5 H=>zj (yc (uv s1 12 r4 h5) Z ⟨.inl Z,U⟩ Z) Z (zg _ Z (fun h6 => ?_) (fun h6 => ?_)))))))
 ·refine tE h6 H fun H=>zb hN Z (za (zd (.ptr _ _) Z) (qd Z (za (ye _ Z Z (.inr (.inl ⟨Z,Z⟩))) (qd Z (za (ye _ Z Z (.inl ⟨Z,Z⟩)) (qd Z (qd Z (za (zy (u':=vlst (List.map qw [wr (low2 - 1),wr (high3+1),low2,high3,(-1099511627776),1099511627776])) (yg [[_],[_],[_],[_],[_],[_]] xl ⟨Z,.inl ⟨_,Z,Z,Z⟩,Z,Z,.inl ⟨_,Z,Z,Z⟩,Z,Z,.inl ⟨_,Z,Z,Z⟩,Z,Z,.inl ⟨_,Z,Z,Z⟩,Z,Z,.inl ⟨_,Z,Z,Z⟩,Z,Z,.inl ⟨_,Z,Z,Z⟩,Z,U⟩ Z Z) Z) (bE H fun r7 h8 H=>zj (yc (Zg r4.2 [wr (low2 - 1),wr (high3+1),low2,high3,(-1099511627776),1099511627776] r7 h8) Z ⟨.inl Z,U⟩ Z) Z (qe Z (zh ?_)))))))))))
  cases H
  exact ⟨U,⟨.inl Z,U⟩,Z⟩
 ·refine fE h6 H fun H=>zl (zb hN Z (za (zd (.ptr _ _) Z) (qd Z (qd Z (bE H fun r9 h10 H=>zj (yc (z3c r4.2 low2 high3 r9 h10) Z ⟨.inl Z,.inl Z,U⟩ Z) Z (qe Z (zh ?_)))))))
  cases H
  exact ⟨U,⟨.inl Z,U⟩,Z⟩
theorem y3e (s1:zm) (r:((List zc)×zm)) (H:Qt s1=some r):Imp Tryz.prog 4 25 (yf s1) [] (zo [vlst (List.map zn r.1)]) (yf r.2):=by
 refine wx (us:=[vlst (List.map zn r.1)]) (cs':=(yf r.2)) (by kernel_rfl) Tryz.func4 Z Z Z Z fun X bl hN => ?_
 unfold Qt at H
 refine zb hN Z (qe Z (zb hN Z (qe Z (ze (zb hN Z (za (zy (u':=vlst (List.map zi [[116,48],[116,49],[116,50]])) (yg [[_],[_],[_]] yo ⟨Z,.inl ⟨_,Z,Z,Z⟩,Z,Z,.inl ⟨_,Z,Z,Z⟩,Z,Z,.inl ⟨_,Z,Z,Z⟩,Z,U⟩ Z Z) Z) (za (yk qc Z) (qd Z (zw (xf 3 1 44 3 Z Z Z (gE H fun h7 H=>qv (fun (k5:Nat) (s:(List Int)×Int×(List zc))=>[(0,.ptr 0 0),(3,.row 1 s.2.2.length),(7,.dat (vlst (List.map zi ([[116,48],[116,49],[116,50]])))),(8,.dat (vint (([[116,48],[116,49],[116,50]]).length:Int))),(9,.dat (vint (k5:Int)))]) (fun (k5:Nat) (s:(List Int)×Int×(List zc))=>[(0,.box (some bl) 25 [.dat (vlst (List.map qw s.1)),.dat (vint s.2.1)]),(1,.row 44 3 (List.map zn s.2.2))]) (s1.L,s1.at_,[]) H ⟨Z,Z,Z,Z,Z,U⟩ ⟨Z,Z,U⟩ (fun _ _=>Z) ?_ ?_)))))))))))
 ·rintro ⟨c2,c3,l4⟩ H
  replace H:z1c c2 c3 l4=some r:=H
  unfold z1c at H
  refine zb hN Z (za (zx Z Z) (ze (zg _ Z (fun h=>(lt_t h).elim) (fun h => ?_))))
  refine yv (yp (ι:=(List zc)×(List Int)×Int) (fun i=>[(3,.row 1 i.1.length)]) (fun i=>[(0,.box (some bl) 25 [.dat (vlst (List.map qw i.2.1)),.dat (vint i.2.2)]),(1,.row 44 3 (List.map zn i.1))]) (fun i=>Zm i.1 i.2.1 i.2.2=some r) (fun i=>Z) ?_ ?_)
  ·skip
   refine zb hN Z (za (zd (.ptr _ _) Z) (bE H fun r9 h10 H=>zj (yc (uv (zm.mk c2 c3) 15 r9 h10) Z ⟨.inl Z,U⟩ Z) Z (zg _ Z (fun h11 => ?_) (fun h11 => ?_))))
   ·refine tE h11 H fun H=>zt hN Z (za (zd (.row _ _) Z) (za (zd (.ptr _ _) Z) (za (zy (u':=vlst (List.map zi [[],[116,49],[116,57]])) (yg [[_],[_],[_]] yo ⟨Z,.inl ⟨_,Z,Z,Z⟩,Z,Z,.inl ⟨_,Z,Z,Z⟩,Z,Z,.inl ⟨_,Z,Z,Z⟩,Z,U⟩ Z Z) Z) (bE H fun r12 h13 H=>zj (yc (ww r9.2 ([[],[116,49],[116,57]]) r12 h13) Z ⟨.inl Z,U⟩ Z) Z (za (zd (.ptr _ _) Z) (bE H fun r14 h15 H=>zj (yc (z03 r12.2 0 50 r14 h15) Z ⟨.inl Z,.inl Z,U⟩ Z) Z (za (zd (.ptr _ _) Z) (bE H fun r16 h17 H=>zj (yc (z03 r14.2 50 300 r16 h17) Z ⟨.inl Z,.inl Z,U⟩ Z) Z (za (zy (u':=vagg (zn (zc.mk r12.1 r14.1 r16.1))) (xu [(0,[vstr r12.1]),(1,[vint r14.1]),(2,[vint r16.1])] ju Wu Z ⟨Z,.inl ⟨_,Z,Z,Z⟩,Z,Z,.inl ⟨_,Z,Z,Z⟩,Z,Z,.inl ⟨_,Z,Z,Z⟩,Z,U⟩) Z) (za (zy (u':=vlst (List.map zn [(zc.mk r12.1 r14.1 r16.1)])) (yg [_] wn ⟨Z,.inr Z,Z,U⟩ Z Z) Z) (gE H fun h18 H=>zj (jx wn (fun _=>Z) Z Z Z ⟨by simp,by first | (simp; done) | simpa using h18⟩ Z) Z ?_)))))))))))
    exact za (yj (.row _ _) Z) ⟨((l4++[(zc.mk r12.1 r14.1 r16.1)]),r16.2.L,r16.2.at_),H,⟨Z,U⟩,⟨Z,Z,U⟩⟩
   ·exact fE h11 H fun H=>zl ⟨(l4,r9.2.L,r9.2.at_),H,⟨Z,U⟩,⟨Z,Z,U⟩⟩
  ·rintro ⟨out19,c20,c21⟩ H
   replace H:Zm out19 c20 c21=some r:=H
   unfold Zm at H
   refine zb hN Z (za (zd (.row _ _) Z) (za (yj (.row _ _) Z) (zh ?_)))
   cases H
   exact ⟨U,⟨wo Z Z,U⟩,Z⟩
 ·rintro k5 x8 ⟨c2,c3,l4⟩ q6 h22 h23 H hq6
  replace H:z1b k5 x8 c2 c3 l4=some q6:=H
  unfold z1b at H
  refine zb hN Z (za (zx Z Z) (ze (zg _ Z (fun h => ?_) (fun h=>(lt_f h22 h).elim))))
  refine zl (yp (ι:=(List zc)×(List Int)×Int) (fun i=>[(0,.ptr 0 0),(3,.row 1 i.1.length),(7,.dat (vlst (List.map zi ([[116,48],[116,49],[116,50]])))),(8,.dat (vint (([[116,48],[116,49],[116,50]]).length:Int))),(9,.dat (vint (k5:Int)))]) (fun i=>[(0,.box (some bl) 25 [.dat (vlst (List.map qw i.2.1)),.dat (vint i.2.2)]),(1,.row 44 3 (List.map zn i.1))]) (fun i=>Zl i.1 i.2.1 i.2.2=some q6) (fun i=>Z) ?_ ?_)
  ·skip
   refine zw (zb hN Z (za (qx qt (fun _=>Z) Z Z h23) (za (ym tyS9 Z (yr h23) Z) (qe Z (zb hN Z (za (zd (.ptr _ _) Z) (bE H fun r24 h25 H=>zj (yc (uv (zm.mk c2 c3) 3 r24 h25) Z ⟨.inl Z,U⟩ Z) Z (zg _ Z (fun h26 => ?_) (fun h26 => ?_)))))))))
   ·refine tE h26 H fun H=>zb hN Z (za (zd (.ptr _ _) Z) (za (zy (u':=vlst (List.map qw [0,60,100])) (yg [[_],[_],[_]] xl ⟨Z,.inl ⟨_,Z,Z,Z⟩,Z,Z,.inl ⟨_,Z,Z,Z⟩,Z,Z,.inl ⟨_,Z,Z,Z⟩,Z,U⟩ Z Z) Z) (bE H fun r27 h28 H=>zj (yc (Zg r24.2 [0,60,100] r27 h28) Z ⟨.inl Z,U⟩ Z) Z (qe Z (zt hN Z (za (zd (.row _ _) Z) (qd Z (qd Z (qd Z (za (zd (.ptr _ _) Z) (za (zy (u':=vlst (List.map qw [0,50,200])) (yg [[_],[_],[_]] xl ⟨Z,.inl ⟨_,Z,Z,Z⟩,Z,Z,.inl ⟨_,Z,Z,Z⟩,Z,Z,.inl ⟨_,Z,Z,Z⟩,Z,U⟩ Z Z) Z) (bE H fun r29 h30 H=>zj (yc (Zg r27.2 [0,50,200] r29 h30) Z ⟨.inl Z,U⟩ Z) Z (za (ye _ Z Z (.inl ⟨Z,Z⟩)) (za (zy (u':=vagg (zn (zc.mk x8 r27.1 (wr (r27.1+r29.1))))) (xu [(0,[vstr x8]),(1,[vint r27.1]),(2,[vint (wr (r27.1+r29.1))])] ju Wu Z ⟨Z,.inl ⟨_,Z,Z,Z⟩,Z,Z,.inl ⟨_,Z,Z,Z⟩,Z,Z,.inl ⟨_,Z,Z,Z⟩,Z,U⟩) Z) (za (zy (u':=vlst (List.map zn [(zc.mk x8 r27.1 (wr (r27.1+r29.1)))])) (yg [_] wn ⟨Z,.inr Z,Z,U⟩ Z Z) Z) (gE H fun h31 H=>zj (jx wn (fun _=>Z) Z Z Z ⟨by simp,by first | (simp; done) | simpa using h31⟩ Z) Z ?_))))))))))))))))
    exact za (yj (.row _ _) Z) ⟨((l4++[(zc.mk x8 r27.1 (wr (r27.1+r29.1)))]),r29.2.L,r29.2.at_),H,⟨Z,Z,Z,Z,Z,U⟩,⟨Z,Z,U⟩⟩
   ·exact fE h26 H fun H=>zl ⟨(l4,r24.2.L,r24.2.at_),H,⟨Z,Z,Z,Z,Z,U⟩,⟨Z,Z,U⟩⟩
  ·rintro ⟨out32,c33,c34⟩ H
   replace H:Zl out32 c33 c34=some q6:=H
   unfold Zl at H
   exact zt hN Z (za (qg Z Z (by omega)) (qd Z ⟨_,yt H,⟨Z,Z,Z,Z,Z,U⟩,⟨Z,Z,U⟩⟩))
theorem y3c (s1:zm) (r:((List Bs)×zm)) (H:kq s1=some r):Imp Tryz.prog 50 25 (yf s1) [] (zo [vlst (List.map zi r.1)]) (yf r.2):=by
 refine wx (us:=[vlst (List.map zi r.1)]) (cs':=(yf r.2)) (by kernel_rfl) Tryz.func50 Z Z Z Z fun X bl hN => ?_
 unfold kq at H
 refine zb hN Z (qe Z (zb hN Z (qe Z (ze (zb hN Z (za (zd (.ptr _ _) Z) (bE H fun r2 h3 H=>zj (yc (z3c s1 0 4 r2 h3) Z ⟨.inl Z,.inl Z,U⟩ Z) Z (qd Z (zw (xf 3 1 9 1 Z Z Z (gE H fun h9 H=>z1i (fun (k7:Nat) (s:(List Int)×Int×(List Bs))=>[(0,.ptr 0 0),(3,.row 1 s.2.2.length),(5,.dat (vint r2.1)),(6,.dat (vint (k7:Int)))]) (fun (k7:Nat) (s:(List Int)×Int×(List Bs))=>[(0,.box (some bl) 25 [.dat (vlst (List.map qw s.1)),.dat (vint s.2.1)]),(1,.row 9 1 (List.map zi s.2.2))]) (r2.2.L,r2.2.at_,[]) H ⟨Z,Z,Z,Z,U⟩ ⟨Z,Z,U⟩ (fun _ _=>Z) ?_ ?_)))))))))))
 ·rintro ⟨c4,c5,l6⟩ H
  replace H:Wb c4 c5 l6=some r:=H
  unfold Wb at H
  refine zb hN Z (za (zx Z Z) (ze (zg _ Z (fun h=>(z25 h).elim) (fun h => ?_))))
  refine yv (zb hN Z (za (zd (.row _ _) Z) (za (yj (.row _ _) Z) (zh ?_))))
  cases H
  exact ⟨U,⟨wo Z Z,U⟩,Z⟩
 ·rintro k7 ⟨c4,c5,l6⟩ q8 h10 H hq8
  replace H:Zk k7 c4 c5 l6=some q8:=H
  unfold Zk at H
  refine zb hN Z (za (zx Z Z) (ze (zg _ Z (fun h => ?_) (fun h=>(z26 h10 h).elim))))
  refine zl (ze (zw (zt hN Z (za (zd (.row _ _) Z) (za (zd (.ptr _ _) Z) (za (zy (u':=vlst (List.map zi [[97],[97,58,42],[97,58,98],[97,58,98,58,42],[97,58,98,58,99],[98],[98,58,42],[98,58,99],[42]])) (yg [[_],[_],[_],[_],[_],[_],[_],[_],[_]] yo ⟨Z,.inl ⟨_,Z,Z,Z⟩,Z,Z,.inl ⟨_,Z,Z,Z⟩,Z,Z,.inl ⟨_,Z,Z,Z⟩,Z,Z,.inl ⟨_,Z,Z,Z⟩,Z,Z,.inl ⟨_,Z,Z,Z⟩,Z,Z,.inl ⟨_,Z,Z,Z⟩,Z,Z,.inl ⟨_,Z,Z,Z⟩,Z,Z,.inl ⟨_,Z,Z,Z⟩,Z,Z,.inl ⟨_,Z,Z,Z⟩,Z,U⟩ Z Z) Z) (bE H fun r11 h12 H=>zj (yc (ww (zm.mk c4 c5) ([[97],[97,58,42],[97,58,98],[97,58,98,58,42],[97,58,98,58,99],[98],[98,58,42],[98,58,99],[42]]) r11 h12) Z ⟨.inl Z,U⟩ Z) Z (za (zy (u':=vlst (List.map zi [r11.1])) (yg [[_]] yo ⟨Z,.inl ⟨_,Z,Z,Z⟩,Z,U⟩ Z Z) Z) (gE H fun h13 H=>zj (jx yo (fun _=>Z) Z Z Z ⟨by simp,by first | (simp; done) | simpa using h13⟩ Z) Z ?_)))))))))
  exact za (yj (.row _ _) Z) (zt hN Z (za (qg Z Z (by omega)) (qd Z ⟨_,yt H,⟨Z,Z,Z,Z,U⟩,⟨Z,Z,U⟩⟩)))
theorem z6c (l r:List Bs) (H:kl l=some r):FnG Tryz.prog 65 [.row 0 l.length] [(0,.rowA undef 9 1 (List.map zi l))] (.dat (zo [])) [(0,.rowA undef 9 1 (List.map zi r))]:=by
 obtain ⟨hl,hr⟩:=z44 H
 refine y4c (fun s:Bs=>Value.string ⟨s.toArray⟩) r l (Ye H) (by kernel_rfl) (fun _=>Z) (fun blk cap w hH hb => ?_) (fun h w => ?_)
 ·rw [hr]; exact Tryz.slices_Sort_string blk 0 cap l w hH hb (by omega)
 ·exact Tryz.slices_Sort_string_none none 0 w
theorem z6e (l r:List Bs) (H:uk l=some r):FnG Tryz.prog 66 [.row 0 l.length] [(0,.row 9 1 (List.map zi l))] (.row 900 r.length) [(900,.row 9 1 (List.map zi r))]:=by
 obtain ⟨h1,rfl⟩:=y4x H
 exact y4e (fun s:Bs=>Value.string ⟨s.toArray⟩) [] (Lib.compact l) l (z7a l) (by kernel_rfl) (fun _=>Z) (fun blk cap w hH hc=>Tryz.slices_Compact_string blk 0 cap l w hH (by omega) hc) (fun h a cap w=>Tryz.slices_Compact_string_empty a cap w)
theorem z6l (s1:(List Bs)) (p1:Bs→Option (Bool)) (fv1:Nat) (us1:List V) (hp1:∀ a0 r,p1 a0=some r→Fn Tryz.prog fv1 ([vstr a0]++us1) (zo [zk r])) (r:(Int)) (H:z0t s1 p1=some r):Fn Tryz.prog 81 [vlst (List.map zi s1),vfn fv1 us1] (zo [vint r]):=by
 refine ⟨by kernel_rfl,yb (us:=[vint r]) Tryz.func81 Z Z Z Z fun X hN => ?_⟩
 unfold z0t at H
 refine zb hN Z (qe Z (ze (zb hN Z (qd Z (za (yk qc Z) (qd Z (zw (gE H fun h4 H=>qv (fun (k2:Nat) (s:Unit)=>[(0,.dat (vlst (List.map zi s1))),(1,.dat (vfn fv1 us1)),(7,.dat (vint (s1.length:Int))),(8,.dat (vint (k2:Int)))]) (fun (k2:Nat) (s:Unit)=>[]) () H ⟨Z,Z,Z,Z,U⟩ U (fun _ _=>Z) ?_ ?_))))))))
 ·rintro ⟨⟩ H
  replace H:z2c=some r:=H
  unfold z2c at H
  refine zb hN Z (za (zx Z Z) (ze (zg _ Z (fun h=>(lt_t h).elim) (fun h => ?_))))
  refine yv (zb hN Z (qe Z (zh ?_)))
  cases H
  exact ⟨U,.inl Z,U⟩
 ·rintro k2 x5 ⟨⟩ q3 h6 h7 H hq3
  replace H:z2b p1 k2 x5=some q3:=H
  unfold z2b at H
  refine zb hN Z (za (zx Z Z) (ze (zg _ Z (fun h => ?_) (fun h=>(lt_f h6 h).elim))))
  refine zl (ze (zw (zb hN Z (qd Z (qe Z (zb hN Z (qd Z (qd Z (qd Z (za (qx qt (fun _=>Z) Z Z h7) (za (ym tyS9 Z (yr h7) Z) (bE H fun r8 h9 H=>za (ke (hp1 x5 r8 h9) Z ⟨.inl Z,U⟩) (zg _ Z (fun h10 => ?_) (fun h10 => ?_))))))))))))))
  ·refine tE h10 H fun H=>zb hN Z (qd Z (qe Z (zh ?_)))
   replace H:=retl H hq3
   cases H
   exact ⟨U,.inl Z,U⟩
  ·exact fE h10 H fun H=>zl (zt hN Z (za (qg Z Z (by omega)) (qd Z ⟨_,yt H,⟨Z,Z,Z,Z,U⟩,U⟩)))
theorem z6o (s1:(List Bs)) (p1:Bs→Option (Bool)) (fv1:Nat) (us1:List V) (hp1:∀ a0 r,p1 a0=some r→Fn Tryz.prog fv1 ([vstr a0]++us1) (zo [zk r])) (r:(Bool)) (H:Qe s1 p1=some r):Fn Tryz.prog 62 [vlst (List.map zi s1),vfn fv1 us1] (zo [zk r]):=by
 refine ⟨by kernel_rfl,yb (us:=[zk r]) Tryz.func62 Z Z Z Z fun X hN => ?_⟩
 unfold Qe at H
 refine zb hN Z (qe Z (zb hN Z (qd Z (qd Z (bE H fun r2 h3 H=>za (zr (z6l s1 p1 fv1 us1 hp1 r2 h3) ⟨.inl Z,.inl Z,U⟩) (za (wq Z Z) (qe Z (zh ?_))))))))
 cases H
 exact ⟨U,.inl Z,U⟩
theorem z6j (s p:Bs) (r:Bs×Bool) (H:uj s p=some r):Fn Tryz.prog 82 [vstr s,vstr p] (zo [vstr r.1,zk r.2]):=by
 obtain ⟨h1,rfl⟩:=y4u H
 refine We (by kernel_rfl) fun M w vs h => ?_
 have hv:=Zr (us:=[.string ⟨s.toArray⟩,.string ⟨p.toArray⟩]) h
 subst hv
 refine (Tryz.strings_CutSuffix ⟨s.toArray⟩ ⟨p.toArray⟩ w (by simp [ByteArray.size]; omega)).mono ?_
 rintro e w' ⟨rfl,rfl⟩
 refine ⟨_,Z,⟨[_,_],Z,Z,fun j u hj => ?_⟩,Kp.refl _ _⟩
 rcases j with _ | _ | j
 ·cases hj; exact ⟨_,Z,Z⟩
 ·cases hj; exact ⟨_,Z,Z⟩
 ·simp at hj
theorem z6i (s p:Bs) (r:Bool) (H:Qa s p=some r):Fn Tryz.prog 83 [vstr s,vstr p] (zo [zk r]):=by
 cases H
 refine We (by kernel_rfl) fun M w vs h => ?_
 have h1:=Zr (us:=[.string ⟨s.toArray⟩,.string ⟨p.toArray⟩]) h
 subst h1
 refine (Tryz.strings_HasPrefix ⟨s.toArray⟩ ⟨p.toArray⟩ w).mono ?_
 rintro e w' ⟨rfl,rfl⟩
 exact ⟨_,Z,Z,Kp.refl _ _⟩
theorem y2z (a1:Bs) (b2:Bs) (r:(Bool)) (H:Ql a1 b2=some r):Fn Tryz.prog 64 [vstr a1,vstr b2] (zo [zk r]):=by
 refine ⟨by kernel_rfl,yb (us:=[zk r]) Tryz.func64 Z Z Z Z fun X hN => ?_⟩
 unfold Ql at H
 refine zb hN Z (qe Z (ze (zb hN Z (qd Z (bE H fun r3 h4 H=>za (zr (z6j a1 [42] r3 h4) ⟨.inl Z,.inl Z,U⟩) (qd Z (za (vh Z Z) (za (vh Z Z) (qe Z (qe Z (zb hN Z (qd Z (zg _ Z (fun h5 => ?_) (fun h5 => ?_))))))))))))))
 ·refine tE h5 H fun H=>zb hN Z (qd Z (qd Z (bE H fun r6 h7 H=>za (zr (z6i b2 r3.1 r6 h7) ⟨.inl Z,.inl Z,U⟩) (qe Z (zh ?_)))))
  cases H
  exact ⟨U,.inl Z,U⟩
 ·refine fE h5 H fun H=>zl (zb hN Z (qd Z (qd Z (za (Yb Z Z) (qe Z (zh ?_))))))
  cases H
  exact ⟨U,.inl Z,U⟩
theorem y28 (o1:Bs) (c2:Bs) (r:(Bool)) (H:Qo o1 c2=some r):Fn Tryz.prog 63 [vstr o1,qj [[vstr c2]] 0 0] (zo [zk r]):=by
 refine ⟨by kernel_rfl,yb (us:=[zk r]) Tryz.func63 Z Z Z Z fun X hN => ?_⟩
 unfold Qo at H
 refine zb hN Z (qe Z (yp (ι:=Bool) (fun i=>[(3,.dat (zk i))]) (fun i=>[]) (fun i=>Zi i=some r) (fun i=>Z) ?_ ?_))
 ·skip
  refine zt hN Z (qd Z (za (ym tyS9 Z Z Z) (za (ua Z Z) (qd Z (qh (j:=3) Z Z (fun h3 => ?_) (fun h3 => ?_) Z)))))
  ·exact u1 h3 H fun h4 H=>zq Z Z h3 (zd (.dat _) Z) (zq Z Z h3 (ym tyS9 Z Z Z) (bE H fun r5 h6 H=>zq Z Z h3 (zr (y2z o1 c2 r5 h6) ⟨.inl Z,.inl Z,U⟩) (za (yq Z (bTT h4) Z) (qe Z ⟨r5,H,⟨Z,U⟩,U⟩))))
  ·exact u2 h3 H fun h7 H=>zf Z Z h3 (zf Z Z h3 (zf Z Z h3 (za (yl Z (bFF h7) Z) (qe Z ⟨false,H,⟨Z,U⟩,U⟩))))
 ·rintro v8 H
  replace H:Zi v8=some r:=H
  unfold Zi at H
  refine zh ?_
  cases H
  exact ⟨U,.inl Z,U⟩
theorem z6q (l1:(List Bs)) (r:((List Bs))) (H:Ze l1=some r):Fn Tryz.prog 40 [vlst (List.map zi l1)] (zo [vlst (List.map zi r)]):=by
 refine ⟨by kernel_rfl,yb (us:=[vlst (List.map zi r)]) Tryz.func40 Z Z Z Z fun X hN => ?_⟩
 unfold Ze at H
 refine zb hN Z (qe Z (zb hN Z (qe Z (ze (zb hN Z (qd Z (za (yk qc Z) (qd Z (zw (xf 3 1 9 1 Z Z Z (gE H fun h5 H=>qv (fun (k3:Nat) (s:(List Bs))=>[(0,.dat (vlst (List.map zi l1))),(3,.row 1 s.length),(6,.dat (vlst (List.map zi l1))),(7,.dat (vint (l1.length:Int))),(8,.dat (vint (k3:Int)))]) (fun (k3:Nat) (s:(List Bs))=>[(1,.row 9 1 (List.map zi s))]) [] H ⟨Z,Z,Z,Z,Z,U⟩ ⟨Z,U⟩ (fun _ _=>Z) ?_ ?_)))))))))))
 ·rintro l2 H
  replace H:z09 l2=some r:=H
  unfold z09 at H
  refine zb hN Z (za (zx Z Z) (ze (zg _ Z (fun h=>(lt_t h).elim) (fun h => ?_))))
  refine yv (zb hN Z (za (zd (.row _ _) Z) (bE H fun r7 h8 H=>qn (rn [(0,1)]) [(0,_,_,some _)] [] (z6c l2 r7 h8) ⟨Z,U⟩ ⟨.inl (.inl Z),U⟩ ⟨⟨⟨Z,Z,Z⟩,by simp [vm,Ye h8]⟩,U⟩ Z ?_)))
  refine zb hN Z (za (zd (.row _ _) Z) (bE H fun r9 h10 H=>qn (rn [(0,1),(900,2)]) [(0,_,_,none)] [(900,_)] (z6e r7 r9 h10) ⟨Z,Z,U⟩ ⟨.inl (.inl (congrArg (Slot.row 1) (Ye h8).symm)),U⟩ ⟨⟨⟨Z,Z,Z⟩,U⟩,U⟩ Z (za (yj (.row _ _) Z) (zh ?_))))
  cases H
  exact ⟨U,wo Z Z,U⟩
 ·rintro k3 x6 l2 q4 h11 h12 H hq4
  replace H:z08 l1 k3 x6 l2=some q4:=H
  unfold z08 at H
  refine zb hN Z (za (zx Z Z) (ze (zg _ Z (fun h => ?_) (fun h=>(lt_f h11 h).elim))))
  refine zl (yp (ι:=(List Bs)) (fun i=>[(0,.dat (vlst (List.map zi l1))),(3,.row 1 i.length),(6,.dat (vlst (List.map zi l1))),(7,.dat (vint (l1.length:Int))),(8,.dat (vint (k3:Int)))]) (fun i=>[(1,.row 9 1 (List.map zi i))]) (fun i=>Zh i=some q4) (fun i=>Z) ?_ ?_)
  ·skip
   refine zw (zb hN Z (za (qx qt (fun _=>Z) Z Z h12) (za (ym tyS9 Z (yr h12) Z) (zj (jn 3 tyZ9 Z) Z (zj (ve tyS9 Z Z Z Z) Z (ze (Zp 3 [vstr x6] Z Z (zt hN Z (qd Z (za (xt (us:=[_]) ⟨Z,U⟩) (bE H fun r13 h14 H=>za (zr (z6o l1 (fun (a0:Bs)=>Qo a0 x6) 63 [qj [[vstr x6]] 0 0] (fun a0 r h=>y28 a0 x6 r h) r13 h14) ⟨.inl Z,.inl Z,U⟩) (za (yy Z) (zg _ Z (fun h15 => ?_) (fun h15 => ?_))))))))))))))
   ·refine tE h15 H fun H=>zt hN Z (za (zd (.row _ _) Z) (za (ym tyS9 Z Z Z) (za (zy (u':=vlst (List.map zi [x6])) (yg [[_]] yo ⟨Z,.inl ⟨_,Z,Z,Z⟩,Z,U⟩ Z Z) Z) (gE H fun h16 H=>zj (jx yo (fun _=>Z) Z Z Z ⟨by simp,by first | (simp; done) | simpa using h16⟩ Z) Z ?_))))
    exact za (yj (.row _ _) Z) ⟨(l2++[x6]),H,⟨Z,Z,Z,Z,Z,U⟩,⟨Z,U⟩⟩
   ·exact fE h15 H fun H=>zl ⟨l2,H,⟨Z,Z,Z,Z,Z,U⟩,⟨Z,U⟩⟩
  ·rintro out17 H
   replace H:Zh out17=some q4:=H
   unfold Zh at H
   exact zt hN Z (za (qg Z Z (by omega)) (qd Z ⟨_,yt H,⟨Z,Z,Z,Z,Z,U⟩,⟨Z,U⟩⟩))
theorem y3d (s1:zm) (r:(yi×zm)) (H:Qs s1=some r):Imp Tryz.prog 22 25 (yf s1) [] (zo [vagg (vu r.1)]) (yf r.2):=by
 refine wx (us:=[vagg (vu r.1)]) (cs':=(yf r.2)) (by kernel_rfl) Tryz.func22 Z Z Z Z fun X bl hN => ?_
 unfold Qs at H
 refine zb hN Z (zj (jn 1 xk Z) Z (ze (wz mixed hN Z Z (za (zd (.ptr _ _) Z) (za (zy (u':=vlst (List.map zi [[116,49],[116,49],[116,50],[116,51]])) (yg [[_],[_],[_],[_]] yo ⟨Z,.inl ⟨_,Z,Z,Z⟩,Z,Z,.inl ⟨_,Z,Z,Z⟩,Z,Z,.inl ⟨_,Z,Z,Z⟩,Z,Z,.inl ⟨_,Z,Z,Z⟩,Z,U⟩ Z Z) Z) (bE H fun r2 h3 H=>zj (yc (ww s1 ([[116,49],[116,49],[116,50],[116,51]]) r2 h3) Z ⟨.inl Z,U⟩ Z) Z (za (zd (.ptr _ _) Z) (za (zy (u':=vlst (List.map zi [[97,110,110],[98,111,98]])) (yg [[_],[_]] yo ⟨Z,.inl ⟨_,Z,Z,Z⟩,Z,Z,.inl ⟨_,Z,Z,Z⟩,Z,U⟩ Z Z) Z) (bE H fun r4 h5 H=>zj (yc (ww r2.2 ([[97,110,110],[98,111,98]]) r4 h5) Z ⟨.inl Z,U⟩ Z) Z (za (zd (.ptr _ _) Z) (za (zy (u':=vlst (List.map zi [[103,97,116,101],[103,97,116,101],[103,97,116,101],[111,116,104,101,114]])) (yg [[_],[_],[_],[_]] yo ⟨Z,.inl ⟨_,Z,Z,Z⟩,Z,Z,.inl ⟨_,Z,Z,Z⟩,Z,Z,.inl ⟨_,Z,Z,Z⟩,Z,Z,.inl ⟨_,Z,Z,Z⟩,Z,U⟩ Z Z) Z) (bE H fun r6 h7 H=>zj (yc (ww r4.2 ([[103,97,116,101],[103,97,116,101],[103,97,116,101],[111,116,104,101,114]]) r6 h7) Z ⟨.inl Z,U⟩ Z) Z (za (zd (.ptr _ _) Z) (za (zy (u':=vlst (List.map zi [[],[],[],[116,48],[116,50]])) (yg [[_],[_],[_],[_],[_]] yo ⟨Z,.inl ⟨_,Z,Z,Z⟩,Z,Z,.inl ⟨_,Z,Z,Z⟩,Z,Z,.inl ⟨_,Z,Z,Z⟩,Z,Z,.inl ⟨_,Z,Z,Z⟩,Z,Z,.inl ⟨_,Z,Z,Z⟩,Z,U⟩ Z Z) Z) (bE H fun r8 h9 H=>zj (yc (ww r6.2 ([[],[],[],[116,48],[116,50]]) r8 h9) Z ⟨.inl Z,U⟩ Z) Z (za (zy (u':=vlst (List.map zi [[115,104,111,112]])) (yg [[_]] yo ⟨Z,.inl ⟨_,Z,Z,Z⟩,Z,U⟩ Z Z) Z) (za (zy (u':=vlst (List.map zi [[109,97,112,115],[115,104,111,112]])) (yg [[_],[_]] yo ⟨Z,.inl ⟨_,Z,Z,Z⟩,Z,Z,.inl ⟨_,Z,Z,Z⟩,Z,U⟩ Z Z) Z) (za (zy (u':=vlst (List.map zi [[109,97,112,115]])) (yg [[_]] yo ⟨Z,.inl ⟨_,Z,Z,Z⟩,Z,U⟩ Z Z) Z) (za (z87 (u':=vlst (List.map z8c ([[],[],[[115,104,111,112]],[[109,97,112,115],[115,104,111,112]],[[109,97,112,115]]]:(List (List Bs))))) (z8g (by exact ⟨⟨Zt,U⟩,⟨Zt,U⟩,⟨z1n,U⟩,⟨z1n,U⟩,⟨z1n,U⟩,U⟩)) (yg [[vnil],[vnil],[_],[_],[_]] z4g ⟨Z,.inl ⟨_,Z,Z,Z⟩,Z,Z,.inl ⟨_,Z,Z,Z⟩,Z,Z,.inl ⟨_,Z,Z,Z⟩,Z,Z,.inl ⟨_,Z,Z,Z⟩,Z,Z,.inl ⟨_,Z,Z,Z⟩,Z,U⟩ Z Z)) ?_)))))))))))))))))))
 refine za (zd (.ptr _ _) Z) (bE H fun r10 h11 H=>zj (yc (uu r8.2 5 r10 h11) Z ⟨.inl Z,U⟩ Z) Z (bE H fun x12 h13 H=>za (jw z4h (fun _=>Z) Z Z h13) (za (ym qp Z (yr (yn h13).2) Z) (za (zd (.ptr _ _) Z) (bE H fun r14 h15 H=>zj (yc (y3c r10.2 r14 h15) Z U Z) Z (bE H fun r16 h17 H=>za (zr (z6q r14.1 r16 h17) ⟨.inl Z,U⟩) (za (zd (.ptr _ _) Z) (za (zy (u':=vlst (List.map qw [0,50,100])) (yg [[_],[_],[_]] xl ⟨Z,.inl ⟨_,Z,Z,Z⟩,Z,Z,.inl ⟨_,Z,Z,Z⟩,Z,Z,.inl ⟨_,Z,Z,Z⟩,Z,U⟩ Z Z) Z) (bE H fun r18 h19 H=>zj (yc (Zg r14.2 [0,50,100] r18 h19) Z ⟨.inl Z,U⟩ Z) Z (za (zy (u':=vagg (vu (yi.mk r2.1 r4.1 r6.1 r8.1 x12 r16 r18.1 0))) (xu [(0,[vstr r2.1]),(1,[vstr r4.1]),(2,[vstr r6.1]),(3,[vstr r8.1]),(4,[vlst (List.map zi x12)]),(5,[vlst (List.map zi r16)]),(6,[vint r18.1])] xk z8r Z ⟨Z,.inl ⟨_,Z,Z,Z⟩,Z,Z,.inl ⟨_,Z,Z,Z⟩,Z,Z,.inl ⟨_,Z,Z,Z⟩,Z,Z,.inl ⟨_,Z,Z,Z⟩,Z,Z,.inl ⟨_,Z,Z,Z⟩,Z,Z,.inl ⟨_,Z,Z,Z⟩,Z,Z,.inl ⟨_,Z,Z,Z⟩,Z,U⟩) Z) (zj (jn 2 xk Z) Z (zj (jz wm Z Z Z Z) Z ⟨Z,?_⟩))))))))))))
 refine ze (wz mixed hN Z Z (za (zu xn Z) (zp (zv tyS3 Z Z) Z (za (zd (.ptr _ _) Z) (za (zy (u':=vlst (List.map qw [1,50,100,200])) (yg [[_],[_],[_],[_]] xl ⟨Z,.inl ⟨_,Z,Z,Z⟩,Z,Z,.inl ⟨_,Z,Z,Z⟩,Z,Z,.inl ⟨_,Z,Z,Z⟩,Z,Z,.inl ⟨_,Z,Z,Z⟩,Z,U⟩ Z Z) Z) (bE H fun r20 h21 H=>zj (yc (Zg r18.2 [1,50,100,200] r20 h21) Z ⟨.inl Z,U⟩ Z) Z (za (ye _ Z Z (.inl ⟨Z,Z⟩)) (za (zu va Z) (zj (ve tyS3 Z Z Z Z) Z ⟨Z,?_⟩)))))))))
 refine zb hN Z (zp (ka wm Z Z Z) Z (zj (jz wm Z Z Z Z) Z (zh ?_)))
 cases H
 exact ⟨U,⟨.inl ⟨_,_,_,vu (yi.mk r2.1 r4.1 r6.1 r8.1 x12 r16 r18.1 (wr (r18.1+r20.1))),Z,Z,Z,Z,wm⟩,U⟩,Z⟩
theorem y2o (s:Bs) (n:Int) (r:Bs) (H:ui s n=some r):Fn Tryz.prog 69 [vstr s,vint n] (zo [vstr r]):=by
 obtain ⟨h0,h1,h2,rfl⟩:=y02 H
 obtain ⟨c,rfl⟩:=Int.eq_ofNat_of_zero_le h0
 refine We (by kernel_rfl) fun M w vs h => ?_
 have hv:=Zr (us:=[.string ⟨s.toArray⟩,.int .i64 c]) h
 subst hv
 have hs:(ByteArray.mk s.toArray).size=s.length:=by simp [ByteArray.size]
 refine (Tryz.strings_Repeat ⟨s.toArray⟩ c w (by omega) (by rw [hs]; exact Nat.le_trans (Nat.mul_le_mul h2 (show c≤1000000 by omega)) (by decide))).mono ?_
 rintro e w' ⟨rfl,hb⟩
 exact ⟨_,Z,by simp [zo,vstr,vval],Kp.of_below hb⟩
theorem y3b (s1:zm) (r:(Bs×zm)) (H:Qr s1=some r):Imp Tryz.prog 52 25 (yf s1) [] (zo [vstr r.1]) (yf r.2):=by
 refine wx (us:=[vstr r.1]) (cs':=(yf r.2)) (by kernel_rfl) Tryz.func52 Z Z Z Z fun X bl hN => ?_
 unfold Qr at H
 refine zb hN Z (qe Z (ze (zb hN Z (za (zd (.ptr _ _) Z) (bE H fun r2 h3 H=>zj (yc (uv s1 25 r2 h3) Z ⟨.inl Z,U⟩ Z) Z (zg _ Z (fun h4 => ?_) (fun h4 => ?_)))))))
 ·refine tE h4 H fun H=>zb hN Z (za (zd (.ptr _ _) Z) (bE H fun r5 h6 H=>za (zr (y2o [97,58] 10 r5 h6) ⟨.inl Z,.inl Z,U⟩) (gE H fun h7 H=>za (z9d Z Z (Nat.le_trans h7 (by decide))) (za (zy (u':=vlst (List.map zi [[],[97,58,42,58,98],[65],[97,58,58,98],[97,58],[42,42],[97,42],(r5++[97])])) (yg [[_],[_],[_],[_],[_],[_],[_],[_]] yo ⟨Z,.inl ⟨_,Z,Z,Z⟩,Z,Z,.inl ⟨_,Z,Z,Z⟩,Z,Z,.inl ⟨_,Z,Z,Z⟩,Z,Z,.inl ⟨_,Z,Z,Z⟩,Z,Z,.inl ⟨_,Z,Z,Z⟩,Z,Z,.inl ⟨_,Z,Z,Z⟩,Z,Z,.inl ⟨_,Z,Z,Z⟩,Z,Z,.inl ⟨_,Z,Z,Z⟩,Z,U⟩ Z Z) Z) (bE H fun r8 h9 H=>zj (yc (ww r2.2 ([[],[97,58,42,58,98],[65],[97,58,58,98],[97,58],[42,42],[97,42],(r5++[97])]) r8 h9) Z ⟨.inl Z,U⟩ Z) Z (qe Z (zh ?_)))))))
  cases H
  exact ⟨U,⟨.inl Z,U⟩,Z⟩
 ·refine fE h4 H fun H=>zl (zb hN Z (za (zd (.ptr _ _) Z) (za (zy (u':=vlst (List.map zi [[42],[97],[97,58,42],[97,58,98],[97,58,98,58,42],[97,58,98,58,99],[98],[98,58,42],[98,58,99],[99]])) (yg [[_],[_],[_],[_],[_],[_],[_],[_],[_],[_]] yo ⟨Z,.inl ⟨_,Z,Z,Z⟩,Z,Z,.inl ⟨_,Z,Z,Z⟩,Z,Z,.inl ⟨_,Z,Z,Z⟩,Z,Z,.inl ⟨_,Z,Z,Z⟩,Z,Z,.inl ⟨_,Z,Z,Z⟩,Z,Z,.inl ⟨_,Z,Z,Z⟩,Z,Z,.inl ⟨_,Z,Z,Z⟩,Z,Z,.inl ⟨_,Z,Z,Z⟩,Z,Z,.inl ⟨_,Z,Z,Z⟩,Z,Z,.inl ⟨_,Z,Z,Z⟩,Z,U⟩ Z Z) Z) (bE H fun r10 h11 H=>zj (yc (ww r2.2 ([[42],[97],[97,58,42],[97,58,98],[97,58,98,58,42],[97,58,98,58,99],[98],[98,58,42],[98,58,99],[99]]) r10 h11) Z ⟨.inl Z,U⟩ Z) Z (qe Z (zh ?_))))))
  cases H
  exact ⟨U,⟨.inl Z,U⟩,Z⟩
theorem y17 (s1:zm) (r:((List Bs)×zm)) (H:kq s1=some r):FnG Tryz.prog 50 [.ptr 0 0] [(0,.box (some 0) 25 (List.map .dat (yf s1)))] (.row 1 r.1.length) [(0,.box (some 0) 25 (List.map .dat (yf r.2))),(1,.row 9 1 (List.map zi r.1))]:=by
 refine ji (by kernel_rfl) Tryz.func50 Z Z Z Z fun X A hN => ?_
 unfold kq at H
 refine zb hN Z (qe Z (zb hN Z (qe Z (ze (zb hN Z (za (zd (.ptr _ _) Z) (bE H fun r2 h3 H=>zj (yc (z3c s1 0 4 r2 h3) Z ⟨.inl Z,.inl Z,U⟩ Z) Z (qd Z (zw (xf 3 1 9 1 Z Z Z (gE H fun h9 H=>z1i (fun (k7:Nat) (s:(List Int)×Int×(List Bs))=>[(0,.ptr 0 0),(3,.row 1 s.2.2.length),(5,.dat (vint r2.1)),(6,.dat (vint (k7:Int)))]) (fun (k7:Nat) (s:(List Int)×Int×(List Bs))=>[(0,.box (some (A.bl 0)) 25 [.dat (vlst (List.map qw s.1)),.dat (vint s.2.1)]),(1,.row 9 1 (List.map zi s.2.2))]) (r2.2.L,r2.2.at_,[]) H ⟨Z,Z,Z,Z,U⟩ ⟨Z,Z,U⟩ (fun _ _=>Z) ?_ ?_)))))))))))
 ·rintro ⟨c4,c5,l6⟩ H
  replace H:Wb c4 c5 l6=some r:=H
  unfold Wb at H
  refine zb hN Z (za (zx Z Z) (ze (zg _ Z (fun h=>(z25 h).elim) (fun h => ?_))))
  refine yv (zb hN Z (za (zd (.row _ _) Z) (za (yj (.row _ _) Z) (zh ?_))))
  cases H
  exact ⟨U,[(2,.row 1 _)],⟨Z,U⟩,⟨Z,Z,U⟩,Z,.inr (.inl ⟨2,Z,Z⟩)⟩
 ·rintro k7 ⟨c4,c5,l6⟩ q8 h10 H hq8
  replace H:Zk k7 c4 c5 l6=some q8:=H
  unfold Zk at H
  refine zb hN Z (za (zx Z Z) (ze (zg _ Z (fun h => ?_) (fun h=>(z26 h10 h).elim))))
  refine zl (ze (zw (zt hN Z (za (zd (.row _ _) Z) (za (zd (.ptr _ _) Z) (za (zy (u':=vlst (List.map zi [[97],[97,58,42],[97,58,98],[97,58,98,58,42],[97,58,98,58,99],[98],[98,58,42],[98,58,99],[42]])) (yg [[_],[_],[_],[_],[_],[_],[_],[_],[_]] yo ⟨Z,.inl ⟨_,Z,Z,Z⟩,Z,Z,.inl ⟨_,Z,Z,Z⟩,Z,Z,.inl ⟨_,Z,Z,Z⟩,Z,Z,.inl ⟨_,Z,Z,Z⟩,Z,Z,.inl ⟨_,Z,Z,Z⟩,Z,Z,.inl ⟨_,Z,Z,Z⟩,Z,Z,.inl ⟨_,Z,Z,Z⟩,Z,Z,.inl ⟨_,Z,Z,Z⟩,Z,Z,.inl ⟨_,Z,Z,Z⟩,Z,U⟩ Z Z) Z) (bE H fun r11 h12 H=>zj (yc (ww (zm.mk c4 c5) ([[97],[97,58,42],[97,58,98],[97,58,98,58,42],[97,58,98,58,99],[98],[98,58,42],[98,58,99],[42]]) r11 h12) Z ⟨.inl Z,U⟩ Z) Z (za (zy (u':=vlst (List.map zi [r11.1])) (yg [[_]] yo ⟨Z,.inl ⟨_,Z,Z,Z⟩,Z,U⟩ Z Z) Z) (gE H fun h13 H=>zj (jx yo (fun _=>Z) Z Z Z ⟨by simp,by first | (simp; done) | simpa using h13⟩ Z) Z ?_)))))))))
  exact za (yj (.row _ _) Z) (zt hN Z (za (qg Z Z (by omega)) (qd Z ⟨_,yt H,⟨Z,Z,Z,Z,U⟩,⟨Z,Z,U⟩⟩)))
theorem y3a (s1:zm) (r:((List Bs)×zm)) (H:Qq s1=some r):Imp Tryz.prog 24 25 (yf s1) [] (zo [vlst (List.map zi r.1)]) (yf r.2):=by
 refine wx (us:=[vlst (List.map zi r.1)]) (cs':=(yf r.2)) (by kernel_rfl) Tryz.func24 Z Z Z Z fun X bl hN => ?_
 unfold Qq at H
 refine zb hN Z (qe Z (zb hN Z (za (zd (.ptr _ _) Z) (bE H fun r2 h3 H=>qn (rn [(0,0),(1,1)]) [(0,_,_,some _)] [(1,_)] (y17 s1 r2 h3) ⟨Z,Z,U⟩ ⟨.inl (.inl Z),U⟩ ⟨⟨⟨Z,Z⟩,U⟩,U⟩ Z (za (yj (.row _ _) Z) (yp (ι:=(List Bs)×(List Int)×Int) (fun i=>[(0,.ptr 0 0),(3,.row 1 i.1.length)]) (fun i=>[(0,.box (some bl) 25 [.dat (vlst (List.map qw i.2.1)),.dat (vint i.2.2)]),(1,.row 9 1 (List.map zi i.1))]) (fun i=>xa i.1 i.2.1 i.2.2=some r) (fun i=>Z) ?_ ?_))))))
 ·skip
  refine zb hN Z (za (zd (.ptr _ _) Z) (bE H fun r4 h5 H=>zj (yc (uv r2.2 6 r4 h5) Z ⟨.inl Z,U⟩ Z) Z (zg _ Z (fun h6 => ?_) (fun h6 => ?_))))
  ·refine tE h6 H fun H=>zt hN Z (za (zd (.row _ _) Z) (za (zd (.ptr _ _) Z) (bE H fun r7 h8 H=>zj (yc (y3b r4.2 r7 h8) Z U Z) Z (za (zy (u':=vlst (List.map zi [r7.1])) (yg [[_]] yo ⟨Z,.inl ⟨_,Z,Z,Z⟩,Z,U⟩ Z Z) Z) (gE H fun h9 H=>zj (jx yo (fun _=>Z) Z Z Z ⟨by simp,by first | (simp; done) | simpa using h9⟩ Z) Z ?_)))))
   exact za (yj (.row _ _) Z) ⟨((r2.1++[r7.1]),r7.2.L,r7.2.at_),H,⟨Z,Z,U⟩,⟨Z,Z,U⟩⟩
  ·exact fE h6 H fun H=>zl ⟨(r2.1,r4.2.L,r4.2.at_),H,⟨Z,Z,U⟩,⟨Z,Z,U⟩⟩
 ·rintro ⟨out10,c11,c12⟩ H
  replace H:xa out10 c11 c12=some r:=H
  unfold xa at H
  refine y46 (ι:=(List Bs)×(List Int)×Int) (fun i=>[(3,.dat (vlst (List.map zi i.1)))]) (fun i=>[(0,.box (some bl) 25 [.dat (vlst (List.map qw i.2.1)),.dat (vint i.2.2)])]) (fun i=>Zj i.1 i.2.1 i.2.2=some r) (fun i=>Z) (fun i=>Z) ?_ ?_
  ·skip
   refine zb hN Z (za (zd (.ptr _ _) Z) (bE H fun r13 h14 H=>zj (yc (uv (zm.mk c11 c12) 60 r13 h14) Z ⟨.inl Z,U⟩ Z) Z (zg _ Z (fun h15 => ?_) (fun h15 => ?_))))
   ·exact tE h15 H fun H=>zt hN Z (gE H fun h16 H=>zj (z8x (C:=zi) 2 [] yo tyZ9 Z Z Z Z h16 Z) Z (za (yj (.row _ _) Z) ⟨[(3,2)],_,_,_,_,Z,Z,by simp,⟨((List.replicate 51 []),r13.2.L,r13.2.at_),H,⟨.inl Z,U⟩,⟨Z,U⟩⟩⟩))
   ·exact fE h15 H fun H=>zl ⟨[(3,1)],_,_,_,_,Z,Z,by simp,⟨(out10,r13.2.L,r13.2.at_),H,⟨.inl Z,U⟩,⟨Z,U⟩⟩⟩
  ·rintro ⟨out17,c18,c19⟩ H
   replace H:Zj out17 c18 c19=some r:=H
   unfold Zj at H
   refine zb hN Z (qd Z (qe Z (zh ?_)))
   cases H
   exact ⟨U,⟨.inl Z,U⟩,Z⟩
theorem y3g (s1:zm) (r:(yi×zm)) (H:Qv s1=some r):Imp Tryz.prog 5 25 (yf s1) [] (zo [vagg (vu r.1)]) (yf r.2):=by
 refine wx (us:=[vagg (vu r.1)]) (cs':=(yf r.2)) (by kernel_rfl) Tryz.func5 Z Z Z Z fun X bl hN => ?_
 unfold Qv at H
 refine zb hN Z (zj (jn 1 xk Z) Z (zb hN Z (za (zd (.ptr _ _) Z) (bE H fun r2 h3 H=>zj (yc (y3d s1 r2 h3) Z U Z) Z (zj (jn 2 xk Z) Z (zj (jz wm Z Z Z Z) Z (yp (ι:=(List Int)×Int×Bs×Bs×Bs×Bs×(List Bs)×(List Bs)×Int×Int) (fun i=>[(2,.ptr 1 0),(3,.ptr 2 0)]) (fun i=>[(0,.box (some bl) 25 [.dat (vlst (List.map qw i.1)),.dat (vint i.2.1)]),(1,.box none 30 [.dat (vstr []),.dat (vstr []),.dat (vstr []),.dat (vstr []),.dat (vnil),.dat (vnil),.dat (vint 0),.dat (vint 0)]),(2,.box none 30 [.dat (vstr i.2.2.1),.dat (vstr i.2.2.2.1),.dat (vstr i.2.2.2.2.1),.dat (vstr i.2.2.2.2.2.1),.dat (vlst (List.map zi i.2.2.2.2.2.2.1)),.dat (vlst (List.map zi i.2.2.2.2.2.2.2.1)),.dat (vint i.2.2.2.2.2.2.2.2.1),.dat (vint i.2.2.2.2.2.2.2.2.2)])]) (fun i=>jh i.1 i.2.1 i.2.2.1 i.2.2.2.1 i.2.2.2.2.1 i.2.2.2.2.2.1 i.2.2.2.2.2.2.1 i.2.2.2.2.2.2.2.1 i.2.2.2.2.2.2.2.2.1 i.2.2.2.2.2.2.2.2.2=some r) (fun i=>Z) ?_ ?_)))))))
 ·skip
  refine zb hN Z (za (zd (.ptr _ _) Z) (bE H fun r4 h5 H=>zj (yc (uv r2.2 8 r4 h5) Z ⟨.inl Z,U⟩ Z) Z (zg _ Z (fun h6 => ?_) (fun h6 => ?_))))
  ·refine tE h6 H fun H=>zb hN Z (za (zd (.ptr _ _) Z) (bE H fun r7 h8 H=>zj (yc (uu r4.2 5 r7 h8) Z ⟨.inl Z,U⟩ Z) Z (zw (zb hN Z (za (qy Z Z) (qe Z (zg _ Z (fun h9 => ?_) (fun h9 => ?_))))))))
   ·exact tE h9 H fun H=>zt hN Z (za (zd (.ptr _ _) Z) (za (zy (u':=vlst (List.map zi [[],[65],[116,49]])) (yg [[_],[_],[_]] yo ⟨Z,.inl ⟨_,Z,Z,Z⟩,Z,Z,.inl ⟨_,Z,Z,Z⟩,Z,Z,.inl ⟨_,Z,Z,Z⟩,Z,U⟩ Z Z) Z) (bE H fun r10 h11 H=>zj (yc (ww r7.2 ([[],[65],[116,49]]) r10 h11) Z ⟨.inl Z,U⟩ Z) Z (za (zd (.ptr _ _) Z) (za (zy (u':=vlst (List.map zi [[97,110,110],[]])) (yg [[_],[_]] yo ⟨Z,.inl ⟨_,Z,Z,Z⟩,Z,Z,.inl ⟨_,Z,Z,Z⟩,Z,U⟩ Z Z) Z) (bE H fun r12 h13 H=>zj (yc (ww r10.2 ([[97,110,110],[]]) r12 h13) Z ⟨.inl Z,U⟩ Z) Z (za (zu ky Z) (zj (ve tyS9 Z Z Z Z) Z (za (zu z1r Z) (zj (ve tyS9 Z Z Z Z) Z ⟨(r12.2.L,r12.2.at_,r10.1,r12.1,r2.1.Issuer,r2.1.Parent,r2.1.Audience,r2.1.Scopes,r2.1.From,r2.1.To),H,⟨Z,Z,U⟩,⟨Z,Z,Z,U⟩⟩))))))))))
   ·refine fE h9 H fun H=>zb hN Z (za (qy Z Z) (qe Z (zg _ Z (fun h14 => ?_) (fun h14 => ?_))))
    ·exact tE h14 H fun H=>zt hN Z (za (zd (.ptr _ _) Z) (za (zy (u':=vlst (List.map zi [[],[103,97,116,101]])) (yg [[_],[_]] yo ⟨Z,.inl ⟨_,Z,Z,Z⟩,Z,Z,.inl ⟨_,Z,Z,Z⟩,Z,U⟩ Z Z) Z) (bE H fun r15 h16 H=>zj (yc (ww r7.2 ([[],[103,97,116,101]]) r15 h16) Z ⟨.inl Z,U⟩ Z) Z (za (zd (.ptr _ _) Z) (za (zy (u':=vlst (List.map zi [[65],[116,48]])) (yg [[_],[_]] yo ⟨Z,.inl ⟨_,Z,Z,Z⟩,Z,Z,.inl ⟨_,Z,Z,Z⟩,Z,U⟩ Z Z) Z) (bE H fun r17 h18 H=>zj (yc (ww r15.2 ([[65],[116,48]]) r17 h18) Z ⟨.inl Z,U⟩ Z) Z (za (zu z1q Z) (zj (ve tyS9 Z Z Z Z) Z (za (zu Zu Z) (zj (ve tyS9 Z Z Z Z) Z ⟨(r17.2.L,r17.2.at_,r2.1.Id,r2.1.Subject,r15.1,r17.1,r2.1.Audience,r2.1.Scopes,r2.1.From,r2.1.To),H,⟨Z,Z,U⟩,⟨Z,Z,Z,U⟩⟩))))))))))
    ·refine fE h14 H fun H=>zb hN Z (za (qy Z Z) (qe Z (zg _ Z (fun h19 => ?_) (fun h19 => ?_))))
     ·exact tE h19 H fun H=>zt hN Z (za (zy (u':=vlst (List.map zi [[115,104,111,112],[109,97,112,115]])) (yg [[_],[_]] yo ⟨Z,.inl ⟨_,Z,Z,Z⟩,Z,Z,.inl ⟨_,Z,Z,Z⟩,Z,U⟩ Z Z) Z) (za (zy (u':=vlst (List.map zi [[]])) (yg [[_]] yo ⟨Z,.inl ⟨_,Z,Z,Z⟩,Z,U⟩ Z Z) Z) (za (zy (u':=vlst (List.map zi [[97],[97]])) (yg [[_],[_]] yo ⟨Z,.inl ⟨_,Z,Z,Z⟩,Z,Z,.inl ⟨_,Z,Z,Z⟩,Z,U⟩ Z Z) Z) (za (zy (u':=vlst (List.map z8c [[[115,104,111,112],[109,97,112,115]],[[]],[[97],[97]]])) (yg [[_],[_],[_]] z4g ⟨Z,.inl ⟨_,Z,Z,Z⟩,Z,Z,.inl ⟨_,Z,Z,Z⟩,Z,Z,.inl ⟨_,Z,Z,Z⟩,Z,U⟩ Z Z) Z) (za (zd (.ptr _ _) Z) (bE H fun r20 h21 H=>zj (yc (uu r7.2 3 r20 h21) Z ⟨.inl Z,U⟩ Z) Z (bE H fun x22 h23 H=>za (jw z4h (fun _=>Z) Z Z h23) (za (ym qp Z (yr (yn h23).2) Z) (za (zu xo Z) (zj (ve qp Z Z Z Z) Z ⟨(r20.2.L,r20.2.at_,r2.1.Id,r2.1.Subject,r2.1.Issuer,r2.1.Parent,x22,r2.1.Scopes,r2.1.From,r2.1.To),H,⟨Z,Z,U⟩,⟨Z,Z,Z,U⟩⟩))))))))))
     ·refine fE h19 H fun H=>zb hN Z (za (qy Z Z) (qe Z (zg _ Z (fun h24 => ?_) (fun h24 => ?_))))
      ·exact tE h24 H fun H=>zt hN Z (za (zd (.ptr _ _) Z) (bE H fun r25 h26 H=>zj (yc (y3a r7.2 r25 h26) Z U Z) Z (za (zu kx Z) (zj (ve qp Z Z Z Z) Z ⟨(r25.2.L,r25.2.at_,r2.1.Id,r2.1.Subject,r2.1.Issuer,r2.1.Parent,r2.1.Audience,r25.1,r2.1.From,r2.1.To),H,⟨Z,Z,U⟩,⟨Z,Z,Z,U⟩⟩))))
      ·exact fE h24 H fun H=>zt hN Z (za (zd (.ptr _ _) Z) (bE H fun r27 h28 H=>zj (yc (z03 r7.2 0 300 r27 h28) Z ⟨.inl Z,.inl Z,U⟩ Z) Z (za (zd (.ptr _ _) Z) (bE H fun r29 h30 H=>zj (yc (z03 r27.2 0 300 r29 h30) Z ⟨.inl Z,.inl Z,U⟩ Z) Z (za (zu xn Z) (zj (ve tyS3 Z Z Z Z) Z (za (zu va Z) (zj (ve tyS3 Z Z Z Z) Z ⟨(r29.2.L,r29.2.at_,r2.1.Id,r2.1.Subject,r2.1.Issuer,r2.1.Parent,r2.1.Audience,r2.1.Scopes,r27.1,r29.1),H,⟨Z,Z,U⟩,⟨Z,Z,Z,U⟩⟩))))))))
  ·exact fE h6 H fun H=>zl ⟨(r4.2.L,r4.2.at_,r2.1.Id,r2.1.Subject,r2.1.Issuer,r2.1.Parent,r2.1.Audience,r2.1.Scopes,r2.1.From,r2.1.To),H,⟨Z,Z,U⟩,⟨Z,Z,Z,U⟩⟩
 ·rintro ⟨c31,c32,c33,c34,c35,c36,c37,c38,c39,c40⟩ H
  replace H:jh c31 c32 c33 c34 c35 c36 c37 c38 c39 c40=some r:=H
  unfold jh at H
  refine zb hN Z (zp (ka wm Z Z Z) Z (zj (jz wm Z Z Z Z) Z (zh ?_)))
  cases H
  exact ⟨U,⟨.inl ⟨_,_,_,vu (yi.mk c33 c34 c35 c36 c37 c38 c39 c40),Z,Z,Z,Z,wm⟩,U⟩,Z⟩
theorem y3f (s1:zm) (r:(Int×zm)) (H:Qu s1=some r):Imp Tryz.prog 6 25 (yf s1) [] (zo [vint r.1]) (yf r.2):=by
 refine wx (us:=[vint r.1]) (cs':=(yf r.2)) (by kernel_rfl) Tryz.func6 Z Z Z Z fun X bl hN => ?_
 unfold Qu at H
 refine zb hN Z (qe Z (zb hN Z (za (zd (.ptr _ _) Z) (za (zy (u':=vlst (List.map qw [0,10,49,50,60,99,100,101,149,150,200,300,1000,(-1),345686400000])) (yg [[_],[_],[_],[_],[_],[_],[_],[_],[_],[_],[_],[_],[_],[_],[_]] xl ⟨Z,.inl ⟨_,Z,Z,Z⟩,Z,Z,.inl ⟨_,Z,Z,Z⟩,Z,Z,.inl ⟨_,Z,Z,Z⟩,Z,Z,.inl ⟨_,Z,Z,Z⟩,Z,Z,.inl ⟨_,Z,Z,Z⟩,Z,Z,.inl ⟨_,Z,Z,Z⟩,Z,Z,.inl ⟨_,Z,Z,Z⟩,Z,Z,.inl ⟨_,Z,Z,Z⟩,Z,Z,.inl ⟨_,Z,Z,Z⟩,Z,Z,.inl ⟨_,Z,Z,Z⟩,Z,Z,.inl ⟨_,Z,Z,Z⟩,Z,Z,.inl ⟨_,Z,Z,Z⟩,Z,Z,.inl ⟨_,Z,Z,Z⟩,Z,Z,.inl ⟨_,Z,Z,Z⟩,Z,Z,.inl ⟨_,Z,Z,Z⟩,Z,U⟩ Z Z) Z) (bE H fun r2 h3 H=>zj (yc (Zg s1 [0,10,49,50,60,99,100,101,149,150,200,300,1000,(-1),345686400000] r2 h3) Z ⟨.inl Z,U⟩ Z) Z (qe Z (zh ?_)))))))
 cases H
 exact ⟨U,⟨.inl Z,U⟩,Z⟩
theorem ur (s1:Bs) (r:(Bool)) (H:vn s1=some r):Fn Tryz.prog 36 [vstr s1] (zo [zk r]):=by
 refine ⟨by kernel_rfl,yb (us:=[zk r]) Tryz.func36 Z Z Z Z fun X hN => ?_⟩
 unfold vn at H
 refine zb hN Z (qe Z (ze (zb hN Z (qe Z (zw (gE H fun h4 H=>qv (fun (i2:Nat) (s:Unit)=>[(0,.dat (vstr s1)),(3,.dat (vint (i2:Int)))]) (fun (i2:Nat) (s:Unit)=>[]) () H ⟨Z,Z,U⟩ U (fun _ _=>Z) ?_ ?_))))))
 ·rintro ⟨⟩ H
  replace H:z28 s1=some r:=H
  unfold z28 at H
  refine ze (zb hN Z (qd Z (qd Z (za (uc tyU9 Z) (za (zx Z Z) (zg _ Z (fun h=>(lt_t h).elim) (fun h => ?_)))))))
  refine yv (zb hN Z (qd Z (za (ua Z Z) (qd Z (qq Z Z (fun hc=>zd (.dat _) Z) (qq Z Z (fun hc=>uc tyU9 (cnd (c:=(decide (s1≠[]))) hc)) (qq Z Z (fun hc=>vg (cnd (c:=(decide (s1≠[]))) hc) Z) (za (jk Z (fun hb=>(cnd (c:=(decide (s1≠[]))) hb)) Z) (qe Z (zh ?_))))))))))
  cases H
  exact ⟨U,.inl Z,U⟩
 ·rintro i2 x5 ⟨⟩ q3 h6 h7 H hq3
  replace H:z02 i2 x5=some q3:=H
  unfold z02 at H
  refine ze (zb hN Z (qd Z (qd Z (za (uc tyU9 Z) (za (zx Z Z) (zg _ Z (fun h => ?_) (fun h=>(lt_f h6 h).elim)))))))
  refine zl (ze (zw (zb hN Z (qd Z (qd Z (za (z0b tyU9 Z Z h7) (qe Z (zb hN Z (qd Z (za (wq Z Z) (qd Z (qq Z Z (fun hc=>zd (.dat _) Z) (qq Z Z (fun hc=>vg (cnd (c:=(decide (97≤(x5.toNat:Int)))) hc) Z) (za (jk Z (fun hb=>(cnd (c:=(decide (97≤(x5.toNat:Int)))) hb)) Z) (qd Z (ql Z Z (fun hc=>zd (.dat _) Z) (ql Z Z (fun hc=>qu (cnd (c:=(!((decide (97≤(x5.toNat:Int))) && (decide ((x5.toNat:Int)≤122))))) hc) Z) (ql Z Z (fun hc=>zd (.dat _) (cnd (c:=(!((decide (97≤(x5.toNat:Int))) && (decide ((x5.toNat:Int)≤122))))) hc)) (we Z Z (fun hc=>zd (.dat _) Z) (we Z Z (fun hc=>wq (cnd (c:=((!((decide (97≤(x5.toNat:Int))) && (decide ((x5.toNat:Int)≤122)))) && (decide (0 < (i2:Int))))) hc) Z) (we Z Z (fun hc=>zd (.dat _) (cnd (c:=((!((decide (97≤(x5.toNat:Int))) && (decide ((x5.toNat:Int)≤122)))) && (decide (0 < (i2:Int))))) hc)) (we Z Z (fun hc=>zd (.dat _) Z) (we Z Z (fun hc=>vg (cnd (c:=(((!((decide (97≤(x5.toNat:Int))) && (decide ((x5.toNat:Int)≤122)))) && (decide (0 < (i2:Int)))) && (decide (48≤(x5.toNat:Int))))) hc) Z) ?_)))))))))))))))))))))))
  refine we Z Z (fun hc=>jk (cnd (c:=((!((decide (97≤(x5.toNat:Int))) && (decide ((x5.toNat:Int)≤122)))) && (decide (0 < (i2:Int))))) hc) (fun hb=>(cnd (c:=(((!((decide (97≤(x5.toNat:Int))) && (decide ((x5.toNat:Int)≤122)))) && (decide (0 < (i2:Int)))) && (decide (48≤(x5.toNat:Int))))) (andI hc hb))) Z) (we Z Z (fun hc=>zd (.dat _) (cnd (c:=((!((decide (97≤(x5.toNat:Int))) && (decide ((x5.toNat:Int)≤122)))) && (decide (0 < (i2:Int))))) hc)) (jo Z Z (fun hc=>zd (.dat _) Z) (jo Z Z (fun hc=>qy (cnd (c:=(((!((decide (97≤(x5.toNat:Int))) && (decide ((x5.toNat:Int)≤122)))) && (decide (0 < (i2:Int)))) && !((decide (48≤(x5.toNat:Int))) && (decide ((x5.toNat:Int)≤57))))) hc) Z) (we Z Z (fun hc=>vj (cnd (c:=((!((decide (97≤(x5.toNat:Int))) && (decide ((x5.toNat:Int)≤122)))) && (decide (0 < (i2:Int))))) hc) Z (fun hb=>(cnd (c:=(((!((decide (97≤(x5.toNat:Int))) && (decide ((x5.toNat:Int)≤122)))) && (decide (0 < (i2:Int)))) && !((decide (48≤(x5.toNat:Int))) && (decide ((x5.toNat:Int)≤57))))) (andI hc (notI hb))))) (we Z Z (fun hc=>zd (.dat _) (cnd (c:=((!((decide (97≤(x5.toNat:Int))) && (decide ((x5.toNat:Int)≤122)))) && (decide (0 < (i2:Int))))) hc)) (jo Z Z (fun hc=>zd (.dat _) Z) (jo Z Z (fun hc=>qy (cnd (c:=(((!((decide (97≤(x5.toNat:Int))) && (decide ((x5.toNat:Int)≤122)))) && (decide (0 < (i2:Int)))) && !(((decide (48≤(x5.toNat:Int))) && (decide ((x5.toNat:Int)≤57))) || (decide ((x5.toNat:Int)=45))))) hc) Z) (we Z Z (fun hc=>vj (cnd (c:=((!((decide (97≤(x5.toNat:Int))) && (decide ((x5.toNat:Int)≤122)))) && (decide (0 < (i2:Int))))) hc) Z (fun hb=>(cnd (c:=(((!((decide (97≤(x5.toNat:Int))) && (decide ((x5.toNat:Int)≤122)))) && (decide (0 < (i2:Int)))) && !(((decide (48≤(x5.toNat:Int))) && (decide ((x5.toNat:Int)≤57))) || (decide ((x5.toNat:Int)=45))))) (andI hc (notI hb))))) (ql Z Z (fun hc=>jk (cnd (c:=(!((decide (97≤(x5.toNat:Int))) && (decide ((x5.toNat:Int)≤122))))) hc) (fun hb=>(cnd (c:=((!((decide (97≤(x5.toNat:Int))) && (decide ((x5.toNat:Int)≤122)))) && (decide (0 < (i2:Int))))) (andI hc hb))) Z) (za (vj Z Z (fun hb=>(cnd (c:=(!((decide (97≤(x5.toNat:Int))) && (decide ((x5.toNat:Int)≤122))))) (notI hb)))) (za (yy Z) (zg _ Z (fun h8 => ?_) (fun h8 => ?_)))))))))))))
  ·refine tE h8 H fun H=>zb hN Z (qe Z (zh ?_))
   replace H:=retl H hq3
   cases H
   exact ⟨U,.inl Z,U⟩
  ·exact fE h8 H fun H=>zl (zt hN Z (qd Z (za (qg Z Z (by omega)) (qe Z ⟨_,yt H,⟨Z,Z,U⟩,U⟩))))
theorem y2w (n1:Int) (low2:Int) (high3:Int) (r:(Bool)) (H:z23 n1 low2 high3=some r):Fn Tryz.prog 37 [vint n1,vint low2,vint high3] (zo [zk r]):=by
 refine ⟨by kernel_rfl,yb (us:=[zk r]) Tryz.func37 Z Z Z Z fun X hN => ?_⟩
 unfold z23 at H
 refine zb hN Z (qe Z (zb hN Z (qd Z (qd Z (za (zx Z Z) (qd Z (ql Z Z (fun hc=>zd (.dat _) Z) (ql Z Z (fun hc=>zd (.dat _) Z) (ql Z Z (fun hc=>qu (cnd (c:=(!(decide (n1 < low2)))) hc) (cnd (c:=(!(decide (n1 < low2)))) hc)) (za (vj Z Z (fun hb=>(cnd (c:=(!(decide (n1 < low2)))) (notI hb)))) (qe Z (zh ?_))))))))))))
 cases H
 exact ⟨U,.inl Z,U⟩
theorem z3a (l1:(List zc)) (r:(Int)) (H:kj l1=some r):Fn Tryz.prog 10 [vlst (List.map zn l1)] (zo [vint r]):=by
 refine ⟨by kernel_rfl,yb (us:=[vint r]) Tryz.func10 Z Z Z Z fun X hN => ?_⟩
 unfold kj at H
 refine zb hN Z (qe Z (ze (zb hN Z (qd Z (za (yk yx Z) (za (qu Z Z) (zg _ Z (fun h2 => ?_) (fun h2 => ?_))))))))
 ·refine tE h2 H fun H=>zb hN Z (qe Z (zh ?_))
  cases H
  exact ⟨U,.inl Z,U⟩
 ·refine fE h2 H fun H=>zl (ze (zb hN Z (qd Z (za (yk yx Z) (qd Z (zw (gE H fun h5 H=>qv (fun (k3:Nat) (s:Unit)=>[(0,.dat (vlst (List.map zn l1))),(8,.dat (vlst (List.map zn l1))),(9,.dat (vint (l1.length:Int))),(10,.dat (vint (k3:Int)))]) (fun (k3:Nat) (s:Unit)=>[]) () H ⟨Z,Z,Z,Z,U⟩ U (fun _ _=>Z) ?_ ?_)))))))
  ·rintro ⟨⟩ H
   replace H:Wz=some r:=H
   unfold Wz at H
   refine zb hN Z (za (zx Z Z) (ze (zg _ Z (fun h=>(lt_t h).elim) (fun h => ?_))))
   refine yv (zb hN Z (qe Z (zh ?_)))
   cases H
   exact ⟨U,.inl Z,U⟩
  ·rintro k3 x6 ⟨⟩ q4 h7 h8 H hq4
   replace H:Zy l1 k3 x6=some q4:=H
   unfold Zy at H
   refine zb hN Z (za (zx Z Z) (ze (zg _ Z (fun h => ?_) (fun h=>(lt_f h7 h).elim))))
   refine zl (ze (zw (zb hN Z (qd Z (za (qx yw (fun _=>Z) Z Z h8) (za (Yc qk Z (yr h8) Z) (zj (jn 1 ju Z) Z (qe Z (zj (jz qk Z Z Z Z) Z (zw (zb hN Z (za (zu vy Z) (zp (zv tyS9 Z Z) Z (bE H fun r9 h10 H=>za (zr (ur x6.Id r9 h10) ⟨.inl Z,U⟩) (za (yy Z) (qe Z (zg _ Z (fun h11 => ?_) (fun h11 => ?_))))))))))))))))))
   ·refine tE h11 H fun H=>zb hN Z (qe Z (zh ?_))
    replace H:=retl H hq4
    cases H
    exact ⟨U,.inl Z,U⟩
   ·refine fE h11 H fun H=>yp (ι:=Bool) (fun i=>[(0,.dat (vlst (List.map zn l1))),(4,.ptr 1 0),(8,.dat (vlst (List.map zn l1))),(9,.dat (vint (l1.length:Int))),(10,.dat (vint (k3:Int))),(20,.dat (zk i))]) (fun i=>[(1,.box none 44 [.dat (vstr x6.Id),.dat (vint x6.At),.dat (vint x6.Until)])]) (fun i=>xr x6 i=some q4) (fun i=>Z) ?_ ?_
    ·skip
     refine wz mixed hN Z Z (qd Z (za (qu Z Z) (qd Z (qh (j:=2) Z Z (fun h12 => ?_) (fun h12 => ?_) Z))))
     ·refine u1 h12 H fun h13 H=>zq Z Z h12 (zu vy Z) (wc Z Z h12 (zv tyS9 Z Z) Z (zq Z Z h12 (zd (.dat _) Z) (zq Z Z h12 (zd (.dat _) Z) (zq Z Z h12 (z12 Z Z (by omega)) (bE H fun x14 h15 H=>zq Z Z h12 (jw yw (fun _=>Z) Z Z h15) (zq Z Z h12 (Yd vy Z) (zq Z Z h12 (ym tyS9 Z (yr (yn h15).2) Z) (zq Z Z h12 (z0c Z Z) (za (yq Z (bTT h13) Z) (qe Z ⟨Z,?_⟩))))))))))
      exact ⟨(Op.bytesLess x6.Id x14.Id || x6.Id == x14.Id),H,⟨Z,Z,Z,Z,Z,Z,U⟩,⟨Z,U⟩⟩
     ·refine u2 h12 H fun h16 H=>zf Z Z h12 (zf Z Z h12 (zf Z Z h12 (zf Z Z h12 (zf Z Z h12 (zf Z Z h12 (zf Z Z h12 (zf Z Z h12 (zf Z Z h12 (za (yl Z (bFF h16) Z) (qe Z ⟨Z,?_⟩))))))))))
      exact ⟨false,H,⟨Z,Z,Z,Z,Z,Z,U⟩,⟨Z,U⟩⟩
    ·rintro v17 H
     replace H:xr x6 v17=some q4:=H
     unfold xr at H
     refine zg _ Z (fun h18 => ?_) (fun h18 => ?_)
     ·refine tE h18 H fun H=>zb hN Z (qe Z (zh ?_))
      replace H:=retl H hq4
      cases H
      exact ⟨U,.inl Z,U⟩
     ·refine fE h18 H fun H=>zb hN Z (za (zu xm Z) (zp (zv tyS3 Z Z) Z (za (zu vx Z) (zp (zv tyS3 Z Z) Z (bE H fun r19 h20 H=>za (zr (y2w x6.At 0 x6.Until r19 h20) ⟨.inl Z,.inl Z,.inl Z,U⟩) (qd Z (ql Z Z (fun hc=>zu vx Z) (kf Z Z (fun hc=>zv tyS3 (cnd (c:=(!r19)) hc) Z) Z kv (ql Z Z (fun hc=>qu (cnd (c:=(!r19)) hc) Z) (za (vj Z Z (fun hb=>(cnd (c:=(!r19)) (notI hb)))) (qe Z (zg _ Z (fun h21 => ?_) (fun h21 => ?_)))))))))))))
      ·refine tE h21 H fun H=>zb hN Z (qe Z (zh ?_))
       replace H:=retl H hq4
       cases H
       exact ⟨U,.inl Z,U⟩
      ·exact fE h21 H fun H=>zl (zt hN Z (za (qg Z Z (by omega)) (qd Z ⟨_,yt H,⟨Z,Z,Z,Z,U⟩,U⟩)))
theorem y2u (l1:(List Bs)) (r:(Int)) (H:Qh l1=some r):Fn Tryz.prog 53 [vlst (List.map zi l1)] (zo [vint r]):=by
 refine ⟨by kernel_rfl,yb (us:=[vint r]) Tryz.func53 Z Z Z Z fun X hN => ?_⟩
 unfold Qh at H
 refine zb hN Z (qe Z (ze (zb hN Z (qd Z (za (yk qc Z) (qd Z (zw (gE H fun h4 H=>qv (fun (k2:Nat) (s:Unit)=>[(0,.dat (vlst (List.map zi l1))),(5,.dat (vlst (List.map zi l1))),(6,.dat (vint (l1.length:Int))),(7,.dat (vint (k2:Int)))]) (fun (k2:Nat) (s:Unit)=>[]) () H ⟨Z,Z,Z,Z,U⟩ U (fun _ _=>Z) ?_ ?_))))))))
 ·rintro ⟨⟩ H
  replace H:z27=some r:=H
  unfold z27 at H
  refine zb hN Z (za (zx Z Z) (ze (zg _ Z (fun h=>(lt_t h).elim) (fun h => ?_))))
  refine yv (zb hN Z (qe Z (zh ?_)))
  cases H
  exact ⟨U,.inl Z,U⟩
 ·rintro k2 x5 ⟨⟩ q3 h6 h7 H hq3
  replace H:z01 l1 k2 x5=some q3:=H
  unfold z01 at H
  refine zb hN Z (za (zx Z Z) (ze (zg _ Z (fun h => ?_) (fun h=>(lt_f h6 h).elim))))
  refine zl (ze (zw (zb hN Z (qd Z (za (qx qt (fun _=>Z) Z Z h7) (za (ym tyS9 Z (yr h7) Z) (qe Z (qe Z (ze (zb hN Z (qd Z (bE H fun r8 h9 H=>za (zr (ur x5 r8 h9) ⟨.inl Z,U⟩) (za (yy Z) (zg _ Z (fun h10 => ?_) (fun h10 => ?_)))))))))))))))
  ·refine tE h10 H fun H=>zb hN Z (qe Z (zh ?_))
   replace H:=retl H hq3
   cases H
   exact ⟨U,.inl Z,U⟩
  ·refine fE h10 H fun H=>zl (yp (ι:=Bool) (fun i=>[(0,.dat (vlst (List.map zi l1))),(5,.dat (vlst (List.map zi l1))),(6,.dat (vint (l1.length:Int))),(7,.dat (vint (k2:Int))),(25,.dat (zk i))]) (fun i=>[]) (fun i=>uo i=some q3) (fun i=>Z) ?_ ?_)
   ·skip
    refine zt hN Z (qd Z (za (qu Z Z) (qd Z (qh (j:=2) Z Z (fun h11 => ?_) (fun h11 => ?_) Z))))
    ·exact u1 h11 H fun h12 H=>zq Z Z h11 (zd (.dat _) Z) (zq Z Z h11 (zd (.dat _) Z) (zq Z Z h11 (zd (.dat _) Z) (zq Z Z h11 (z12 Z Z (by omega)) (bE H fun x13 h14 H=>zq Z Z h11 (jw qt (fun _=>Z) Z Z h14) (zq Z Z h11 (ym tyS9 Z (yr (yn h14).2) Z) (zq Z Z h11 (z0c Z Z) (za (yq Z (bTT h12) Z) ⟨(Op.bytesLess x5 x13 || x5 == x13),H,⟨Z,Z,Z,Z,Z,U⟩,U⟩)))))))
    ·exact u2 h11 H fun h15 H=>zf Z Z h11 (zf Z Z h11 (zf Z Z h11 (zf Z Z h11 (zf Z Z h11 (zf Z Z h11 (zf Z Z h11 (za (yl Z (bFF h15) Z) ⟨false,H,⟨Z,Z,Z,Z,Z,U⟩,U⟩)))))))
   ·rintro v16 H
    replace H:uo v16=some q3:=H
    unfold uo at H
    refine zg _ Z (fun h17 => ?_) (fun h17 => ?_)
    ·refine tE h17 H fun H=>zb hN Z (qe Z (zh ?_))
     replace H:=retl H hq3
     cases H
     exact ⟨U,.inl Z,U⟩
    ·exact fE h17 H fun H=>zl (zt hN Z (za (qg Z Z (by omega)) (qd Z ⟨_,yt H,⟨Z,Z,Z,Z,U⟩,U⟩)))
theorem y16 (s sep:Bs) (r:List Bs) (H:kk s sep=some r):FnG Tryz.prog 80 [.dat (vstr s),.dat (vstr sep)] [] (.row 900 r.length) [(900,.row 9 1 (List.map zi r))]:=by
 obtain ⟨h1,h2,rfl⟩:=z93 H
 have hlen:=Lib.splitB_all ⟨sep.toArray⟩ (by simpa [ByteArray.size] using h2) 0 _ ⟨s.toArray⟩ Z
 have hle:=Lib.countB_le ⟨sep.toArray⟩ (by simpa [ByteArray.size] using h2) _ ⟨s.toArray⟩ (Nat.le_refl _)
 refine y4d (args:=[vstr s,vstr sep]) (jb s sep) (by kernel_rfl) (fun M w vs hM hvs => ?_) ?_
 ·have hv:=Zr (us:=[.string ⟨s.toArray⟩,.string ⟨sep.toArray⟩]) hvs
  subst hv
  obtain ⟨m,hm⟩:=y1k hM
  refine (Tryz.strings_Split ⟨s.toArray⟩ ⟨sep.toArray⟩ m w (by simp [ByteArray.size]; omega) hm (by simpa [ByteArray.size] using h2)).mono ?_
  rintro e w' ⟨rfl,rfl⟩
  have e1:(jb s sep).length=Lib.countB ⟨s.toArray⟩ ⟨sep.toArray⟩+1:=by unfold jb; rw [List.length_map,hlen]
  have e2:((jb s sep).map fun s=>Value.string ⟨s.toArray⟩)=(Lib.splitB ⟨sep.toArray⟩ 0 (Lib.countB ⟨s.toArray⟩ ⟨sep.toArray⟩) ⟨s.toArray⟩).map Value.string:=by
   unfold jb
   rw [List.map_map]
   exact List.map_congr_left fun b _=>by simp
  rw [e1,e2]
  exact ⟨Z,Z⟩
 ·unfold jb maxLen
  rw [List.length_map,hlen]
  have hsz:(ByteArray.mk s.toArray).size=s.length:=by simp [ByteArray.size]
  rw [hsz] at hle
  omega
theorem z6h (s sep:Bs) (r:List Bs) (H:kk s sep=some r):Fn Tryz.prog 80 [vstr s,vstr sep] (zo [vlst (List.map zi r)]):=by
 have h:=y16 s sep r H
 rw [← List.length_map (f:=zi)] at h
 exact y4b h
theorem y2f (s1:Bs) (r:(Bool)) (H:Yu s1=some r):Fn Tryz.prog 70 [vstr s1] (zo [zk r]):=by
 refine ⟨by kernel_rfl,yb (us:=[zk r]) Tryz.func70 Z Z Z Z fun X hN => ?_⟩
 unfold Yu at H
 refine zb hN Z (qe Z (zb hN Z (qd Z (bE H fun r2 h3 H=>za (zr (z6h s1 [58] r2 h3) ⟨.inl Z,.inl Z,U⟩) (qe Z (ze (zb hN Z (qd Z (za (yk qc Z) (qd Z (zw (gE H fun h6 H=>qv (fun (k4:Nat) (s:Unit)=>[(3,.dat (vlst (List.map zi r2))),(8,.dat (vlst (List.map zi r2))),(9,.dat (vint (r2.length:Int))),(10,.dat (vint (k4:Int)))]) (fun (k4:Nat) (s:Unit)=>[]) () H ⟨Z,Z,Z,Z,U⟩ U (fun _ _=>Z) ?_ ?_))))))))))))
 ·rintro ⟨⟩ H
  replace H:z1s r2=some r:=H
  unfold z1s at H
  refine zb hN Z (za (zx Z Z) (ze (zg _ Z (fun h=>(lt_t h).elim) (fun h => ?_))))
  refine yv (zb hN Z (qd Z (za (yk qc Z) (za (vg Z Z) (qe Z (zh ?_))))))
  cases H
  exact ⟨U,.inl Z,U⟩
 ·rintro k4 x7 ⟨⟩ q5 h8 h9 H hq5
  replace H:Ww r2 k4 x7=some q5:=H
  unfold Ww at H
  refine zb hN Z (za (zx Z Z) (ze (zg _ Z (fun h => ?_) (fun h=>(lt_f h8 h).elim))))
  refine zl (ze (zw (zb hN Z (qd Z (za (qx qt (fun _=>Z) Z Z h9) (za (ym tyS9 Z (yr h9) Z) (qe Z (qe Z (zb hN Z (qd Z (bE H fun r10 h11 H=>za (zr (ur x7 r10 h11) ⟨.inl Z,U⟩) (za (yy Z) (qd Z (qq Z Z (fun hc=>zd (.dat _) Z) (qq Z Z (fun hc=>Yb (cnd (c:=(!r10)) hc) Z) (qq Z Z (fun hc=>zd (.dat _) (cnd (c:=(!r10)) hc)) (we Z Z (fun hc=>zd (.dat _) Z) (we Z Z (fun hc=>zd (.dat _) Z) (we Z Z (fun hc=>yk qc (cnd (c:=((!r10) && (decide (x7=[42])))) hc)) (we Z Z (fun hc=>ye _ (cnd (c:=((!r10) && (decide (x7=[42])))) hc) Z (.inr (.inl ⟨Z,Z⟩))) (we Z Z (fun hc=>qy (cnd (c:=((!r10) && (decide (x7=[42])))) hc) (cnd (c:=((!r10) && (decide (x7=[42])))) hc)) (qq Z Z (fun hc=>jk (cnd (c:=(!r10)) hc) (fun hb=>(cnd (c:=((!r10) && (decide (x7=[42])))) (andI hc hb))) Z) ?_))))))))))))))))))))))
  refine qq Z Z (fun hc=>yy (cnd (c:=(!r10)) hc)) (za (jk Z (fun hb=>(cnd (c:=(!r10)) hb)) Z) (zg _ Z (fun h12 => ?_) (fun h12 => ?_)))
  ·refine tE h12 H fun H=>zb hN Z (qe Z (zh ?_))
   replace H:=retl H hq5
   cases H
   exact ⟨U,.inl Z,U⟩
  ·exact fE h12 H fun H=>zl (zt hN Z (za (qg Z Z (by omega)) (qd Z ⟨_,yt H,⟨Z,Z,Z,Z,U⟩,U⟩)))
theorem y2m (l1:(List Bs)) (r:(Int)) (H:Yy l1=some r):Fn Tryz.prog 54 [vlst (List.map zi l1)] (zo [vint r]):=by
 refine ⟨by kernel_rfl,yb (us:=[vint r]) Tryz.func54 Z Z Z Z fun X hN => ?_⟩
 unfold Yy at H
 refine zb hN Z (qe Z (ze (zb hN Z (qd Z (za (yk qc Z) (za (qu Z Z) (zg _ Z (fun h2 => ?_) (fun h2 => ?_))))))))
 ·refine tE h2 H fun H=>zb hN Z (qe Z (zh ?_))
  cases H
  exact ⟨U,.inl Z,U⟩
 ·refine fE h2 H fun H=>zl (ze (zb hN Z (qd Z (za (yk qc Z) (qd Z (zw (gE H fun h5 H=>qv (fun (k3:Nat) (s:Unit)=>[(8,.dat (vlst (List.map zi l1))),(9,.dat (vint (l1.length:Int))),(10,.dat (vint (k3:Int)))]) (fun (k3:Nat) (s:Unit)=>[]) () H ⟨Z,Z,Z,U⟩ U (fun _ _=>Z) ?_ ?_)))))))
  ·rintro ⟨⟩ H
   replace H:z1y=some r:=H
   unfold z1y at H
   refine zb hN Z (za (zx Z Z) (ze (zg _ Z (fun h=>(lt_t h).elim) (fun h => ?_))))
   refine yv (zb hN Z (qe Z (zh ?_)))
   cases H
   exact ⟨U,.inl Z,U⟩
  ·rintro k3 x6 ⟨⟩ q4 h7 h8 H hq4
   replace H:Wy k3 x6=some q4:=H
   unfold Wy at H
   refine zb hN Z (za (zx Z Z) (ze (zg _ Z (fun h => ?_) (fun h=>(lt_f h7 h).elim))))
   refine zl (ze (zw (zb hN Z (za (qx qt (fun _=>Z) Z Z h8) (za (ym tyS9 Z (yr h8) Z) (qe Z (zb hN Z (qd Z (bE H fun r9 h10 H=>za (zr (y2f x6 r9 h10) ⟨.inl Z,U⟩) (za (yy Z) (zg _ Z (fun h11 => ?_) (fun h11 => ?_))))))))))))
   ·refine tE h11 H fun H=>zb hN Z (qe Z (zh ?_))
    replace H:=retl H hq4
    cases H
    exact ⟨U,.inl Z,U⟩
   ·exact fE h11 H fun H=>zl (zt hN Z (za (qg Z Z (by omega)) (qd Z ⟨_,yt H,⟨Z,Z,Z,U⟩,U⟩)))
theorem z6f (l r:List Bs) (H:wa l=some r):FnG Tryz.prog 73 [.dat (vlst (List.map zi l))] [] (.row 900 r.length) [(900,.row 9 1 (List.map zi r))]:=by
 obtain ⟨hl,rfl⟩:=z7f H
 refine ji (by kernel_rfl) Tryz.func73 Z Z Z Z fun X A hN => ?_
 refine z7m 0 Z (fun h0 => ?_) ?_
 ·obtain rfl:=List.map_eq_nil_iff.1 h0
  refine zb hN Z (qe Z (ze (zb hN Z (qd Z (za (z4v qc Z) (zg _ Z (fun h => ?_) (fun h=>by cases h)))))))
  exact zb hN Z (qe Z (xf 2 900 9 1 Z Z Z (zh ⟨U,[(2,.row 900 0)],⟨Z,U⟩,⟨Z,U⟩,Z,.inr (.inl ⟨2,Z,Z⟩)⟩)))
 ·refine zb hN Z (qe Z (ze (zb hN Z (qd Z (za (z4w qc Z) (zg _ Z (fun h=>by cases h) (fun h => ?_)))))))
  refine zl (ze (z7l 0 (u':=vlst (List.map zi l)) Z z38 (zt hN Z (zj (z4s 900 yo) Z (qd Z (zj (z4p (C:=zi) (xs:=[]) yo (fun _=>Z) Z Z Z (by simpa using hl) Z) Z ?_))))))
  exact za (yj (.row _ _) Z) (zh ⟨U,[(2,.row 900 l.length)],⟨Z,U⟩,⟨Z,U⟩,Z,.inr (.inl ⟨2,Z,Z⟩)⟩)
theorem y2v (l1:(List Bs)) (r:((List Bs))) (H:Qi l1=some r):Fn Tryz.prog 71 [vlst (List.map zi l1)] (zo [vlst (List.map zi r)]):=by
 refine ⟨by kernel_rfl,yb (us:=[vlst (List.map zi r)]) Tryz.func71 Z Z Z Z fun X hN => ?_⟩
 unfold Qi at H
 refine zb hN Z (qe Z (zb hN Z (qd Z (bE H fun r2 h3 H=>qn (rn [(900,1)]) [] [(900,_)] (z6f l1 r2 h3) ⟨Z,U⟩ ⟨.inl (.inl Z),U⟩ U Z (za (yj (.row _ _) Z) (zb hN Z (za (zd (.row _ _) Z) (bE H fun r4 h5 H=>qn (rn [(0,1)]) [(0,_,_,some _)] [] (z6c r2 r4 h5) ⟨Z,U⟩ ⟨.inl (.inl Z),U⟩ ⟨⟨⟨Z,Z,Z⟩,by simp [vm,Ye h5]⟩,U⟩ Z ?_))))))))
 refine zb hN Z (za (zd (.row _ _) Z) (bE H fun r6 h7 H=>qn (rn [(0,1),(900,2)]) [(0,_,_,none)] [(900,_)] (z6e r4 r6 h7) ⟨Z,Z,U⟩ ⟨.inl (.inl (congrArg (Slot.row 1) (Ye h5).symm)),U⟩ ⟨⟨⟨Z,Z,Z⟩,U⟩,U⟩ Z (za (yj (.row _ _) Z) (zh ?_))))
 cases H
 exact ⟨U,wo Z Z,U⟩
end Go.Proofs.YtbndlmnjeofkdabGreatDoor
