/- Walks along the models. Printed by a program. -/
import Derived.Test.YtbcmpepmafpibabGreatDoorZoc
namespace Go.Proofs.YtbcmpepmafpibabGreatDoor
open Go.RowKit
set_option linter.unusedVariables false
set_option maxRecDepth 100000
set_option maxHeartbeats 2000000
theorem z83 (x1:Int) (n2:Int) (r:(Int)) (H:Yy x1 n2=some r):Fn Tryz.prog 61 [vint x1,vint n2] (zp [vint r]):=by
 refine ⟨by kernel_rfl,zy (us:=[vint r]) Tryz.func61 Z Z Z Z fun X hN => ?_⟩
 unfold Yy at H
 refine zc hN Z (qe Z (zh (zc hN Z (qd Z (za (yg Z Z) (zi _ Z (fun h3 => ?_) (fun h3 => ?_)))))))
 ·refine tE h3 H fun H=>zc hN Z (qe Z (zg ?_))
  cases H
  exact ⟨U,.inl Z,U⟩
 ·refine fE h3 H fun H=>zn (zc hN Z (qd Z (qd Z (gE H fun h4 H=>za (y0r Z Z h4) (qe Z (zz (ι:=Int) (fun i=>[(0,.dat (vint i))]) (fun i=>[]) (fun i=>z1h i=some r) (fun i=>Z) ?_ ?_))))))
  ·skip
   refine zc hN Z (qd Z (za (yg Z Z) (zi _ Z (fun h5 => ?_) (fun h5 => ?_))))
   ·exact tE h5 H fun H=>zq hN Z (qd Z (qd Z (za (yf _ Z Z (.inl ⟨Z,Z⟩)) (qe Z ⟨wr ((Int.tmod x1 n2)+n2),H,⟨Z,U⟩,U⟩))))
   ·exact fE h5 H fun H=>zn ⟨(Int.tmod x1 n2),H,⟨Z,U⟩,U⟩
  ·rintro x6 H
   replace H:z1h x6=some r:=H
   unfold z1h at H
   refine zc hN Z (qd Z (qe Z (zg ?_)))
   cases H
   exact ⟨U,.inl Z,U⟩
theorem Qa (s1:ya) (n2:Int) (r:(Int×ya)) (H:kq s1 n2=some r):Imp Tryz.prog 24 25 (qs s1) [vint n2] (zp [vint r.1]) (qs r.2):=by
 refine kt (us:=[vint r.1]) (cs':=(qs r.2)) (by kernel_rfl) Tryz.func24 Z Z Z Z fun X bl hN => ?_
 unfold kq at H
 refine zc hN Z (qe Z (zc hN Z (za (ze (.ptr _ _) Z) (za (jg Z) (za (zv z10 Z) (zr (zx tyS3 Z Z) Z (za (yf _ Z Z (.inl ⟨Z,Z⟩)) (za (jg Z) (za (zv z10 Z) (zo (ur tyS3 Z Z Z Z) Z (zh (zc hN Z (za (ze (.ptr _ _) Z) (za (jg Z) (za (zv z4y Z) (zr (zx z4u Z Z) Z (za (yw z4s Z) (za (yp Z Z) (zi _ Z (fun h3 => ?_) (fun h3 => ?_))))))))))))))))))))
 ·refine tE h3 H fun H=>zc hN Z (za (ze (.ptr _ _) Z) (za (jg Z) (za (zv z10 Z) (zr (zx tyS3 Z Z) Z (za (yf _ Z Z (.inr (.inr ⟨Z,Z⟩))) (qd Z (bE H fun r4 h5 H=>za (zj (z83 (wr ((wr (s1.at_+1)) * 7919)) n2 r4 h5) ⟨.inl Z,.inl Z,U⟩) (qe Z (zg ?_)))))))))
  cases H
  exact ⟨U,⟨.inl Z,U⟩,Z⟩
 ·refine fE h3 H fun H=>zn (zh (wz mixed hN Z Z (za (ze (.ptr _ _) Z) (za (jg Z) (za (zv z10 Z) (zr (zx tyS3 Z Z) Z (za (yf _ Z Z (.inr (.inl ⟨Z,Z⟩))) (za (ze (.ptr _ _) Z) (za (jg Z) (za (zv z4y Z) (zr (zx z4u Z Z) Z (za (yw z4s Z) (gE H fun h6 H=>za (y0r Z Z h6) (qe Z ⟨Z,?_⟩))))))))))))))
  refine zh (wz mixed hN Z Z (za (ze (.ptr _ _) Z) (za (jg Z) (za (zv z10 Z) (zr (zx tyS3 Z Z) Z (za (yf _ Z Z (.inr (.inl ⟨Z,Z⟩))) (za (ze (.ptr _ _) Z) (za (jg Z) (za (zv z4y Z) (zr (zx z4u Z Z) Z (za (yw z4s Z) (gE H fun h7 H=>za (y5d Z Z h7.1 h7.2) (qe Z ⟨Z,?_⟩)))))))))))))
  refine zc hN Z (za (ze (.ptr _ _) Z) (za (jg Z) (za (zv z4y Z) (zr (zx z4u Z Z) Z (qd Z (bE H fun x8 h9 H=>za (z7k y0e (fun _=>Z) Z Z h9) (za (wa tyS3 Z (qq (xc h9).2) Z) (bE H fun r10 h11 H=>za (zj (z83 x8 1073741824 r10 h11) ⟨.inl Z,.inl Z,U⟩) (qd Z (qd Z (za (yf _ Z Z (.inl ⟨Z,Z⟩)) (za (yf _ Z Z (.inr (.inr ⟨Z,Z⟩))) (za (yf _ Z Z (.inl ⟨Z,Z⟩)) (qd Z (bE H fun r12 h13 H=>za (zj (z83 (wr (r10+(wr (((wr ((wr (s1.at_+1)) - 1)) / (s1.L.length:Int)) * (wr (7919+(Int.tmod (wr ((wr (s1.at_+1)) - 1)) (s1.L.length:Int)))))))) n2 r12 h13) ⟨.inl Z,.inl Z,U⟩) (qe Z (zg ?_)))))))))))))))))
  cases H
  exact ⟨U,⟨.inl Z,U⟩,Z⟩
theorem z82 (s1:ya) (l2:(List Int)) (r:(Int×ya)) (H:Yx s1 l2=some r):Imp Tryz.prog 22 25 (qs s1) [vlst (List.map jp l2)] (zp [vint r.1]) (qs r.2):=by
 refine kt (us:=[vint r.1]) (cs':=(qs r.2)) (by kernel_rfl) Tryz.func22 Z Z Z Z fun X bl hN => ?_
 unfold Yx at H
 refine zc hN Z (qe Z (zc hN Z (qd Z (za (ze (.ptr _ _) Z) (qd Z (za (yw z4s Z) (bE H fun r3 h4 H=>zo (ql (Qa s1 (l2.length:Int) r3 h4) Z ⟨.inl Z,U⟩ Z) Z (bE H fun x5 h6 H=>za (z7k y0e (fun _=>Z) Z Z h6) (za (wa tyS3 Z (qq (xc h6).2) Z) (qe Z (zg ?_)))))))))))
 cases H
 exact ⟨U,⟨.inl Z,U⟩,Z⟩
theorem jw (s1:ya) (l2:(List Bs)) (r:(Bs×ya)) (H:vj s1 l2=some r):Imp Tryz.prog 19 25 (qs s1) [vlst (List.map ye l2)] (zp [vstr r.1]) (qs r.2):=by
 refine kt (us:=[vstr r.1]) (cs':=(qs r.2)) (by kernel_rfl) Tryz.func19 Z Z Z Z fun X bl hN => ?_
 unfold vj at H
 refine zc hN Z (qe Z (zc hN Z (qd Z (za (ze (.ptr _ _) Z) (qd Z (za (yw wb Z) (bE H fun r3 h4 H=>zo (ql (Qa s1 (l2.length:Int) r3 h4) Z ⟨.inl Z,U⟩ Z) Z (bE H fun x5 h6 H=>za (z7k ww (fun _=>Z) Z Z h6) (za (wa tyS9 Z (qq (xc h6).2) Z) (qe Z (zg ?_)))))))))))
 cases H
 exact ⟨U,⟨.inl Z,U⟩,Z⟩
theorem y91 (s1:ya) (r:(Bs×ya)) (H:z6b s1=some r):Imp Tryz.prog 48 25 (qs s1) [] (zp [vstr r.1]) (qs r.2):=by
 refine kt (us:=[vstr r.1]) (cs':=(qs r.2)) (by kernel_rfl) Tryz.func48 Z Z Z Z fun X bl hN => ?_
 unfold z6b at H
 refine zc hN Z (qe Z (zc hN Z (za (ze (.ptr _ _) Z) (za (yo (u':=vlst (List.map ye [[97,46,98],[97,46,98],[65,46,66],[97,46,98,58,56,48],[99,46,100,58,56,48,56,48]])) (wc [[_],[_],[_],[_],[_]] wt ⟨Z,.inl ⟨_,Z,Z,Z⟩,Z,Z,.inl ⟨_,Z,Z,Z⟩,Z,Z,.inl ⟨_,Z,Z,Z⟩,Z,Z,.inl ⟨_,Z,Z,Z⟩,Z,Z,.inl ⟨_,Z,Z,Z⟩,Z,U⟩ Z Z) Z) (bE H fun r2 h3 H=>zo (ql (jw s1 ([[97,46,98],[97,46,98],[65,46,66],[97,46,98,58,56,48],[99,46,100,58,56,48,56,48]]) r2 h3) Z ⟨.inl Z,U⟩ Z) Z (qe Z (zg ?_)))))))
 cases H
 exact ⟨U,⟨.inl Z,U⟩,Z⟩
theorem y92 (s1:ya) (low2:Int) (high3:Int) (r:(Int×ya)) (H:z3s s1 low2 high3=some r):Imp Tryz.prog 103 25 (qs s1) [vint low2,vint high3] (zp [vint r.1]) (qs r.2):=by
 refine kt (us:=[vint r.1]) (cs':=(qs r.2)) (by kernel_rfl) Tryz.func103 Z Z Z Z fun X bl hN => ?_
 unfold z3s at H
 refine zc hN Z (qe Z (zh (zc hN Z (qd Z (qd Z (za (yg Z Z) (zi _ Z (fun h4 => ?_) (fun h4 => ?_))))))))
 ·refine tE h4 H fun H=>zc hN Z (qd Z (qe Z (zg ?_)))
  cases H
  exact ⟨U,⟨.inl Z,U⟩,Z⟩
 ·refine fE h4 H fun H=>zn (zc hN Z (qd Z (za (ze (.ptr _ _) Z) (qd Z (qd Z (za (yf _ Z Z (.inr (.inl ⟨Z,Z⟩))) (za (yf _ Z Z (.inl ⟨Z,Z⟩)) (bE H fun r5 h6 H=>zo (ql (Qa s1 (wr ((wr (high3 - low2))+1)) r5 h6) Z ⟨.inl Z,U⟩ Z) Z (za (yf _ Z Z (.inl ⟨Z,Z⟩)) (qe Z (zg ?_)))))))))))
  cases H
  exact ⟨U,⟨.inl Z,U⟩,Z⟩
theorem y2z (s1:ya) (most2:Int) (r:((List zk)×ya)) (H:z0u s1 most2=some r):Imp Tryz.prog 49 25 (qs s1) [vint most2] (zp [vlst (List.map yb r.1)]) (qs r.2):=by
 refine kt (us:=[vlst (List.map yb r.1)]) (cs':=(qs r.2)) (by kernel_rfl) Tryz.func49 Z Z Z Z fun X bl hN => ?_
 unfold z0u at H
 refine zc hN Z (qe Z (zc hN Z (qe Z (zh (zc hN Z (za (ze (.ptr _ _) Z) (qd Z (bE H fun r3 h4 H=>zo (ql (y92 s1 0 most2 r3 h4) Z ⟨.inl Z,.inl Z,U⟩ Z) Z (qd Z (yc (z4h 5 1 91 2 Z Z Z (gE H fun h10 H=>y3s (fun (k8:Nat) (s:(List Int)×Int×(List zk))=>[(0,.ptr 0 0),(5,.row 1 s.2.2.length),(8,.dat (vint r3.1)),(9,.dat (vint (k8:Int)))]) (fun (k8:Nat) (s:(List Int)×Int×(List zk))=>[(0,.box (some bl) 25 [.dat (vlst (List.map jp s.1)),.dat (vint s.2.1)]),(1,.row 91 2 (List.map yb s.2.2))]) (r3.2.L,r3.2.at_,[]) H ⟨Z,Z,Z,Z,U⟩ ⟨Z,Z,U⟩ (fun _ _=>Z) ?_ ?_))))))))))))
 ·rintro ⟨c5,c6,l7⟩ H
  replace H:z9e c5 c6 l7=some r:=H
  unfold z9e at H
  refine zc hN Z (za (yg Z Z) (zh (zi _ Z (fun h=>(y12 h).elim) (fun h => ?_))))
  refine qj (zc hN Z (za (ze (.row _ _) Z) (za (vr (.row _ _) Z) (zg ?_))))
  cases H
  exact ⟨U,⟨Wj Z Z,U⟩,Z⟩
 ·rintro k8 ⟨c5,c6,l7⟩ q9 h11 H hq9
  replace H:z6y k8 c5 c6 l7=some q9:=H
  unfold z6y at H
  refine zc hN Z (za (yg Z Z) (zh (zi _ Z (fun h => ?_) (fun h=>(y13 h11 h).elim))))
  refine zn (zh (yc (zq hN Z (za (ze (.row _ _) Z) (za (ze (.ptr _ _) Z) (za (yo (u':=vlst (List.map ye [[97,99,99,101,112,116],[65,99,99,101,112,116],[120,45,111,110,101],[88,45,84,119,111],[99,111,111,107,105,101],[118,97,114,121],[99,111,110,110,101,99,116,105,111,110],[120,45,102,111,114,119,97,114,100,101,100,45,102,111,114],[118,105,97],[120,45,102,111,114,119,97,114,100,101,100,45,104,111,115,116],[116,101]])) (wc [[_],[_],[_],[_],[_],[_],[_],[_],[_],[_],[_]] wt ⟨Z,.inl ⟨_,Z,Z,Z⟩,Z,Z,.inl ⟨_,Z,Z,Z⟩,Z,Z,.inl ⟨_,Z,Z,Z⟩,Z,Z,.inl ⟨_,Z,Z,Z⟩,Z,Z,.inl ⟨_,Z,Z,Z⟩,Z,Z,.inl ⟨_,Z,Z,Z⟩,Z,Z,.inl ⟨_,Z,Z,Z⟩,Z,Z,.inl ⟨_,Z,Z,Z⟩,Z,Z,.inl ⟨_,Z,Z,Z⟩,Z,Z,.inl ⟨_,Z,Z,Z⟩,Z,Z,.inl ⟨_,Z,Z,Z⟩,Z,U⟩ Z Z) Z) (bE H fun r12 h13 H=>zo (ql (jw (ya.mk c5 c6) ([[97,99,99,101,112,116],[65,99,99,101,112,116],[120,45,111,110,101],[88,45,84,119,111],[99,111,111,107,105,101],[118,97,114,121],[99,111,110,110,101,99,116,105,111,110],[120,45,102,111,114,119,97,114,100,101,100,45,102,111,114],[118,105,97],[120,45,102,111,114,119,97,114,100,101,100,45,104,111,115,116],[116,101]]) r12 h13) Z ⟨.inl Z,U⟩ Z) Z (za (ze (.ptr _ _) Z) (za (yo (u':=vlst (List.map ye [[49],[120],[97,44,32,98],[],[120,45,111,110,101,44,32,99,108,111,115,101],[103,119],[49,46,50,46,51,46,52],[53,46,54,46,55,46,56,44,32,57,46,57,46,57,46,57]])) (wc [[_],[_],[_],[_],[_],[_],[_],[_]] wt ⟨Z,.inl ⟨_,Z,Z,Z⟩,Z,Z,.inl ⟨_,Z,Z,Z⟩,Z,Z,.inl ⟨_,Z,Z,Z⟩,Z,Z,.inl ⟨_,Z,Z,Z⟩,Z,Z,.inl ⟨_,Z,Z,Z⟩,Z,Z,.inl ⟨_,Z,Z,Z⟩,Z,Z,.inl ⟨_,Z,Z,Z⟩,Z,Z,.inl ⟨_,Z,Z,Z⟩,Z,U⟩ Z Z) Z) (bE H fun r14 h15 H=>zo (ql (jw r12.2 ([[49],[120],[97,44,32,98],[],[120,45,111,110,101,44,32,99,108,111,115,101],[103,119],[49,46,50,46,51,46,52],[53,46,54,46,55,46,56,44,32,57,46,57,46,57,46,57]]) r14 h15) Z ⟨.inl Z,U⟩ Z) Z (za (yo (u':=vagg (yb (zk.mk r12.1 r14.1))) (va [(0,[vstr r12.1]),(1,[vstr r14.1])] ky z7e Z ⟨Z,.inl ⟨_,Z,Z,Z⟩,Z,Z,.inl ⟨_,Z,Z,Z⟩,Z,U⟩) Z) (za (yo (u':=vlst (List.map yb [(zk.mk r12.1 r14.1)])) (wc [_] xh ⟨Z,.inr Z,Z,U⟩ Z Z) Z) (gE H fun h16 H=>zo (xj xh (fun _=>Z) Z Z Z ⟨by simp,by first | (simp; done) | simpa using h16⟩ Z) Z ?_)))))))))))))
  exact za (vr (.row _ _) Z) (zq hN Z (za (wy Z Z (by omega)) (qd Z ⟨_,qr H,⟨Z,Z,Z,Z,U⟩,⟨Z,Z,U⟩⟩)))
theorem z6l (s1:ya) (n2:Int) (r:(Bool×ya)) (H:Zj s1 n2=some r):Imp Tryz.prog 5 25 (qs s1) [vint n2] (zp [zf r.1]) (qs r.2):=by
 refine kt (us:=[zf r.1]) (cs':=(qs r.2)) (by kernel_rfl) Tryz.func5 Z Z Z Z fun X bl hN => ?_
 unfold Zj at H
 refine zc hN Z (qe Z (zc hN Z (za (ze (.ptr _ _) Z) (qd Z (bE H fun r3 h4 H=>zo (ql (Qa s1 n2 r3 h4) Z ⟨.inl Z,U⟩ Z) Z (za (yp Z Z) (qe Z (zg ?_))))))))
 cases H
 exact ⟨U,⟨.inl Z,U⟩,Z⟩
theorem y8a (s:Bs) (n:Int) (r:Bs) (H:z0d s n=some r):Fn Tryz.prog 50 [vstr s,vint n] (zp [vstr r]):=by
 obtain ⟨h0,h1,h2,rfl⟩:=y62 H
 obtain ⟨c,rfl⟩:=Int.eq_ofNat_of_zero_le h0
 refine z9j (by kernel_rfl) fun M w vs h => ?_
 have hv:=vu (us:=[.string ⟨s.toArray⟩,.int .i64 c]) h
 subst hv
 have hs:(ByteArray.mk s.toArray).size=s.length:=by simp [ByteArray.size]
 refine (Tryz.strings_Repeat ⟨s.toArray⟩ c w (by omega) (by rw [hs]; exact Nat.le_trans (Nat.mul_le_mul h2 (show c≤1000000 by omega)) (by decide))).mono ?_
 rintro e w' ⟨rfl,hb⟩
 exact ⟨_,Z,by simp [zp,vstr,vval],Kp.of_below hb⟩
theorem y90 (s1:ya) (r:(yd×ya)) (H:z3r s1=some r):Imp Tryz.prog 13 25 (qs s1) [] (zp [vagg (qc r.1)]) (qs r.2):=by
 refine kt (us:=[vagg (qc r.1)]) (cs':=(qs r.2)) (by kernel_rfl) Tryz.func13 Z Z Z Z fun X bl hN => ?_
 unfold z3r at H
 refine zc hN Z (zo (qm 1 vf Z) Z (zc hN Z (za (ze (.ptr _ _) Z) (za (yo (u':=vlst (List.map jp [0,5,1000,60000])) (wc [[_],[_],[_],[_]] z7f ⟨Z,.inl ⟨_,Z,Z,Z⟩,Z,Z,.inl ⟨_,Z,Z,Z⟩,Z,Z,.inl ⟨_,Z,Z,Z⟩,Z,Z,.inl ⟨_,Z,Z,Z⟩,Z,U⟩ Z Z) Z) (bE H fun r2 h3 H=>zo (ql (z82 s1 [0,5,1000,60000] r2 h3) Z ⟨.inl Z,U⟩ Z) Z (za (ze (.ptr _ _) Z) (za (yo (u':=vlst (List.map ye [[71,69,84],[71,69,84],[71,69,84],[72,69,65,68],[80,79,83,84],[103,101,116]])) (wc [[_],[_],[_],[_],[_],[_]] wt ⟨Z,.inl ⟨_,Z,Z,Z⟩,Z,Z,.inl ⟨_,Z,Z,Z⟩,Z,Z,.inl ⟨_,Z,Z,Z⟩,Z,Z,.inl ⟨_,Z,Z,Z⟩,Z,Z,.inl ⟨_,Z,Z,Z⟩,Z,Z,.inl ⟨_,Z,Z,Z⟩,Z,U⟩ Z Z) Z) (bE H fun r4 h5 H=>zo (ql (jw r2.2 ([[71,69,84],[71,69,84],[71,69,84],[72,69,65,68],[80,79,83,84],[103,101,116]]) r4 h5) Z ⟨.inl Z,U⟩ Z) Z (za (ze (.ptr _ _) Z) (bE H fun r6 h7 H=>zo (ql (y91 r4.2 r6 h7) Z U Z) Z (za (ze (.ptr _ _) Z) (za (yo (u':=vlst (List.map ye [[47],[47,97],[47,97],[47,97,47,98],[47,97,47,46,46,47,98],[47,37,52,49]])) (wc [[_],[_],[_],[_],[_],[_]] wt ⟨Z,.inl ⟨_,Z,Z,Z⟩,Z,Z,.inl ⟨_,Z,Z,Z⟩,Z,Z,.inl ⟨_,Z,Z,Z⟩,Z,Z,.inl ⟨_,Z,Z,Z⟩,Z,Z,.inl ⟨_,Z,Z,Z⟩,Z,Z,.inl ⟨_,Z,Z,Z⟩,Z,U⟩ Z Z) Z) (bE H fun r8 h9 H=>zo (ql (jw r6.2 ([[47],[47,97],[47,97],[47,97,47,98],[47,97,47,46,46,47,98],[47,37,52,49]]) r8 h9) Z ⟨.inl Z,U⟩ Z) Z (za (ze (.ptr _ _) Z) (za (yo (u':=vlst (List.map ye [[],[],[120,61,49],[98,61,50,38,97,61,49]])) (wc [[_],[_],[_],[_]] wt ⟨Z,.inl ⟨_,Z,Z,Z⟩,Z,Z,.inl ⟨_,Z,Z,Z⟩,Z,Z,.inl ⟨_,Z,Z,Z⟩,Z,Z,.inl ⟨_,Z,Z,Z⟩,Z,U⟩ Z Z) Z) (bE H fun r10 h11 H=>zo (ql (jw r8.2 ([[],[],[120,61,49],[98,61,50,38,97,61,49]]) r10 h11) Z ⟨.inl Z,U⟩ Z) Z (za (ze (.ptr _ _) Z) (za (yo (u':=vlst (List.map ye [[49,48,46,48,46,48,46,49],[49,48,46,48,46,48,46,49],[57,46,57,46,57,46,57],[]])) (wc [[_],[_],[_],[_]] wt ⟨Z,.inl ⟨_,Z,Z,Z⟩,Z,Z,.inl ⟨_,Z,Z,Z⟩,Z,Z,.inl ⟨_,Z,Z,Z⟩,Z,Z,.inl ⟨_,Z,Z,Z⟩,Z,U⟩ Z Z) Z) ?_))))))))))))))))))
 refine bE H fun r12 h13 H=>zo (ql (jw r10.2 ([[49,48,46,48,46,48,46,49],[49,48,46,48,46,48,46,49],[57,46,57,46,57,46,57],[]]) r12 h13) Z ⟨.inl Z,U⟩ Z) Z (za (ze (.ptr _ _) Z) (bE H fun r14 h15 H=>zo (ql (y2z r12.2 4 r14 h15) Z ⟨.inl Z,U⟩ Z) Z (za (yo (u':=vagg (qc (yd.mk r2.1 r4.1 r6.1 r8.1 r10.1 r12.1 r14.1 []))) (va [(0,[vint r2.1]),(1,[vstr r4.1]),(2,[vstr r6.1]),(3,[vstr r8.1]),(4,[vstr r10.1]),(5,[vstr r12.1]),(6,[vlst (List.map yb r14.1)])] vf uo Z ⟨Z,.inl ⟨_,Z,Z,Z⟩,Z,Z,.inl ⟨_,Z,Z,Z⟩,Z,Z,.inl ⟨_,Z,Z,Z⟩,Z,Z,.inl ⟨_,Z,Z,Z⟩,Z,Z,.inl ⟨_,Z,Z,Z⟩,Z,Z,.inl ⟨_,Z,Z,Z⟩,Z,Z,.inl ⟨_,Z,Z,Z⟩,Z,U⟩) Z) (zo (qm 2 vf Z) Z (zo (yq yr Z Z Z Z) Z (zz (ι:=(List Int)×Int×Bs) (fun i=>[(2,.ptr 1 0),(3,.ptr 2 0)]) (fun i=>[(0,.box (some bl) 25 [.dat (vlst (List.map jp i.1)),.dat (vint i.2.1)]),(1,.box none 31 [.dat (vint 0),.dat (vstr []),.dat (vstr []),.dat (vstr []),.dat (vstr []),.dat (vstr []),.dat (vnil),.dat (vstr [])]),(2,.box none 31 [.dat (vint r2.1),.dat (vstr r4.1),.dat (vstr r6.1),.dat (vstr r8.1),.dat (vstr r10.1),.dat (vstr r12.1),.dat (vlst (List.map yb r14.1)),.dat (vstr i.2.2)])]) (fun i=>z1g r2 r4 r6 r8 r10 r12 r14 i.1 i.2.1 i.2.2=some r) (fun i=>Z) ?_ ?_))))))
 ·skip
  refine zc hN Z (za (ze (.ptr _ _) Z) (bE H fun r16 h17 H=>zo (ql (z6l r14.2 4 r16 h17) Z ⟨.inl Z,U⟩ Z) Z (zi _ Z (fun h18 => ?_) (fun h18 => ?_))))
  ·exact tE h18 H fun H=>zq hN Z (za (ze (.ptr _ _) Z) (bE H fun r19 h20 H=>za (zj (y8a [97,98] 40 r19 h20) ⟨.inl Z,.inl Z,U⟩) (za (yo (u':=vlst (List.map ye [[104,101,108,108,111],[120],r19])) (wc [[_],[_],[_]] wt ⟨Z,.inl ⟨_,Z,Z,Z⟩,Z,Z,.inl ⟨_,Z,Z,Z⟩,Z,Z,.inl ⟨_,Z,Z,Z⟩,Z,U⟩ Z Z) Z) (bE H fun r21 h22 H=>zo (ql (jw r16.2 ([[104,101,108,108,111],[120],r19]) r21 h22) Z ⟨.inl Z,U⟩ Z) Z (za (zv Wh Z) (zo (ur tyS9 Z Z Z Z) Z ⟨(r21.2.L,r21.2.at_,r21.1),H,⟨Z,Z,U⟩,⟨Z,Z,Z,U⟩⟩))))))
  ·exact fE h18 H fun H=>zn ⟨(r16.2.L,r16.2.at_,[]),H,⟨Z,Z,U⟩,⟨Z,Z,Z,U⟩⟩
 ·rintro ⟨c23,c24,c25⟩ H
  replace H:z1g r2 r4 r6 r8 r10 r12 r14 c23 c24 c25=some r:=H
  unfold z1g at H
  refine zc hN Z (zr (qa yr Z Z Z) Z (zo (yq yr Z Z Z Z) Z (zg ?_)))
  cases H
  exact ⟨U,⟨.inl ⟨_,_,_,qc (yd.mk r2.1 r4.1 r6.1 r8.1 r10.1 r12.1 r14.1 c25),Z,Z,Z,Z,yr⟩,U⟩,Z⟩
theorem y9z (s1:ya) (r:(yj×ya)) (H:z3q s1=some r):Imp Tryz.prog 14 25 (qs s1) [] (zp [vagg (qi r.1)]) (qs r.2):=by
 refine kt (us:=[vagg (qi r.1)]) (cs':=(qs r.2)) (by kernel_rfl) Tryz.func14 Z Z Z Z fun X bl hN => ?_
 unfold z3q at H
 refine zc hN Z (zo (qm 1 vo Z) Z (zc hN Z (za (ze (.ptr _ _) Z) (za (yo (u':=vlst (List.map jp [200,200,200,204,304,404,500,503])) (wc [[_],[_],[_],[_],[_],[_],[_],[_]] z7f ⟨Z,.inl ⟨_,Z,Z,Z⟩,Z,Z,.inl ⟨_,Z,Z,Z⟩,Z,Z,.inl ⟨_,Z,Z,Z⟩,Z,Z,.inl ⟨_,Z,Z,Z⟩,Z,Z,.inl ⟨_,Z,Z,Z⟩,Z,Z,.inl ⟨_,Z,Z,Z⟩,Z,Z,.inl ⟨_,Z,Z,Z⟩,Z,Z,.inl ⟨_,Z,Z,Z⟩,Z,U⟩ Z Z) Z) (bE H fun r2 h3 H=>zo (ql (z82 s1 [200,200,200,204,304,404,500,503] r2 h3) Z ⟨.inl Z,U⟩ Z) Z (za (ze (.ptr _ _) Z) (bE H fun r4 h5 H=>zo (ql (y2z r2.2 3 r4 h5) Z ⟨.inl Z,U⟩ Z) Z (za (ze (.ptr _ _) Z) (za (yo (u':=vlst (List.map ye [[],[104,101,108,108,111],[120]])) (wc [[_],[_],[_]] wt ⟨Z,.inl ⟨_,Z,Z,Z⟩,Z,Z,.inl ⟨_,Z,Z,Z⟩,Z,Z,.inl ⟨_,Z,Z,Z⟩,Z,U⟩ Z Z) Z) (bE H fun r6 h7 H=>zo (ql (jw r4.2 ([[],[104,101,108,108,111],[120]]) r6 h7) Z ⟨.inl Z,U⟩ Z) Z (za (yo (u':=vagg (qi (yj.mk r2.1 r4.1 r6.1))) (va [(0,[vint r2.1]),(1,[vlst (List.map yb r4.1)]),(2,[vstr r6.1])] vo xg Z ⟨Z,.inl ⟨_,Z,Z,Z⟩,Z,Z,.inl ⟨_,Z,Z,Z⟩,Z,Z,.inl ⟨_,Z,Z,Z⟩,Z,U⟩) Z) (zo (yq yx Z Z Z Z) Z (zg ?_)))))))))))))
 cases H
 exact ⟨U,⟨.inl ⟨_,_,_,qi (yj.mk r2.1 r4.1 r6.1),Z,Z,Z,Z,yx⟩,U⟩,Z⟩
theorem z8v (n:Int) (r:Bs) (H:xy n=some r):Fn Tryz.prog 52 [vint n] (zp [vstr r]):=by
 obtain ⟨⟨h1,h2⟩,h3⟩:=gif H
 cases h3
 refine jz (by kernel_rfl) fun M w vs hM h => ?_
 have hv:=vu (us:=[.int .i64 n]) h
 subst hv
 refine (Tryz.strconv_Itoa n h1 h2 w (y7b hM)).mono ?_
 rintro e w' ⟨rfl,k,os,rfl⟩
 exact ⟨_,Z,Z,Kp.of_below ⟨Z,Z,Z,by show w.heap.size≤(w.heap++os).size; rw [Array.size_append]; omega,fun j hj=>by show (w.heap++os)[j]?=w.heap[j]?; exact Array.getElem?_append_left hj⟩⟩
theorem z8s (s:Bs) (r:Bs) (H:Yk s=some r):Fn Tryz.prog 135 [vstr s] (zp [vstr r]):=by
 unfold Yk at H
 obtain ⟨⟨h1,h2⟩,h3⟩:=gif H
 cases h3
 refine jz (by kernel_rfl) fun M w vs hM h => ?_
 have hv:=vu (us:=[.string ⟨s.toArray⟩]) h
 subst hv
 refine (Tryz.strings_ToLower_ascii ⟨s.toArray⟩ w (by simp [ByteArray.size]; omega) (fun j b hb=>z1l h2 j b (by simpa using hb))).mono ?_
 rintro e w' ⟨rfl,hb⟩
 exact ⟨_,Z,Z,Kp.of_below hb⟩

theorem z0y (a1:Bs) (b2:Bs) (r:(Bool)) (H:ko a1 b2=some r):Fn Tryz.prog 81 [vstr a1,vstr b2] (zp [zf r]):=by
 refine ⟨by kernel_rfl,zy (us:=[zf r]) Tryz.func81 Z Z Z Z fun X hN => ?_⟩
 unfold ko at H
 refine zc hN Z (qe Z (zc hN Z (qd Z (bE H fun r3 h4 H=>za (zj (z8s a1 r3 h4) ⟨.inl Z,U⟩) (qd Z (bE H fun r5 h6 H=>za (zj (z8s b2 r5 h6) ⟨.inl Z,U⟩) (za (qy Z Z) (qe Z (zg ?_)))))))))
 cases H
 exact ⟨U,.inl Z,U⟩
theorem y2t (name1:Bs) (request2:Bool) (r:(Bool)) (H:z0n name1 request2=some r):Fn Tryz.prog 88 [vstr name1,zf request2] (zp [zf r]):=by
 refine ⟨by kernel_rfl,zy (us:=[zf r]) Tryz.func88 Z Z Z Z fun X hN => ?_⟩
 unfold z0n at H
 refine zc hN Z (qe Z (zz (ι:=Bool) (fun i=>[(4,.dat (zf i))]) (fun i=>[]) (fun i=>xa i=some r) (fun i=>Z) ?_ ?_))
 ·skip
  refine zq hN Z (qd Z (qd Z (zu (j:=1) Z Z (fun h3 => ?_) (fun h3 => ?_) Z)))
  ·refine u1 h3 H fun h4 H=>zd Z Z h3 (ze (.dat _) Z) (bE H fun r5 h6 H=>zd Z Z h3 (zj (z0y name1 [104,111,115,116] r5 h6) ⟨.inl Z,.inl Z,U⟩) (za (zm Z (bTT h4) Z) (qd Z (zu (j:=5) Z Z (fun h7 => ?_) (fun h7 => ?_) Z))))
   ·refine u3 h7 H fun h8 H=>zd Z Z h7 (ze (.dat _) Z) (bE H fun r9 h10 H=>zd Z Z h7 (zj (z0y name1 [99,111,110,116,101,110,116,45,108,101,110,103,116,104] r9 h10) ⟨.inl Z,.inl Z,U⟩) (za (zl Z (bFF h8) Z) (qd Z (zu (j:=9) Z Z (fun h11 => ?_) (fun h11 => ?_) Z))))
    ·exact u3 h11 H fun h12 H=>zd Z Z h11 (ze (.dat _) Z) (bE H fun r13 h14 H=>zd Z Z h11 (zj (z0y name1 [116,114,97,110,115,102,101,114,45,101,110,99,111,100,105,110,103] r13 h14) ⟨.inl Z,.inl Z,U⟩) (za (zl Z (bFF h12) Z) (qe Z ⟨r13,H,⟨Z,U⟩,U⟩)))
    ·exact u4 h11 H fun h15 H=>zb Z Z h11 (zb Z Z h11 (za (zm Z (bTT h15) Z) (qe Z ⟨true,H,⟨Z,U⟩,U⟩)))
   ·exact u4 h7 H fun h16 H=>zb Z Z h7 (zb Z Z h7 (za (zm Z (bTT h16) Z) (qd Z (zb Z Z Z (zb Z Z Z (za (zm Z Z Z) (qe Z ⟨true,H,⟨Z,U⟩,U⟩)))))))
  ·refine u2 h3 H fun h17 H=>zb Z Z h3 (zb Z Z h3 (za (zl Z (bFF h17) Z) (qd Z (zd Z Z Z (ze (.dat _) Z) (bE H fun r18 h19 H=>zd Z Z Z (zj (z0y name1 [99,111,110,116,101,110,116,45,108,101,110,103,116,104] r18 h19) ⟨.inl Z,.inl Z,U⟩) (za (zl Z Z Z) (qd Z (zu (j:=9) Z Z (fun h20 => ?_) (fun h20 => ?_) Z))))))))
   ·exact u3 h20 H fun h21 H=>zd Z Z h20 (ze (.dat _) Z) (bE H fun r22 h23 H=>zd Z Z h20 (zj (z0y name1 [116,114,97,110,115,102,101,114,45,101,110,99,111,100,105,110,103] r22 h23) ⟨.inl Z,.inl Z,U⟩) (za (zl Z (bFF h21) Z) (qe Z ⟨r22,H,⟨Z,U⟩,U⟩)))
   ·exact u4 h20 H fun h24 H=>zb Z Z h20 (zb Z Z h20 (za (zm Z (bTT h24) Z) (qe Z ⟨true,H,⟨Z,U⟩,U⟩)))
 ·rintro v25 H
  replace H:xa v25=some r:=H
  unfold xa at H
  refine zg ?_
  cases H
  exact ⟨U,.inl Z,U⟩
theorem y2r (l1:(List zk)) (body2:Bs) (request3:Bool) (r:(Bs)) (H:z0l l1 body2 request3=some r):Fn Tryz.prog 51 [vlst (List.map yb l1),vstr body2,zf request3] (zp [vstr r]):=by
 refine ⟨by kernel_rfl,zy (us:=[vstr r]) Tryz.func51 Z Z Z Z fun X hN => ?_⟩
 unfold z0l at H
 refine zc hN Z (qe Z (zc hN Z (qe Z (zh (zc hN Z (qd Z (za (yw vg Z) (qd Z (yc (gE H fun h7 H=>ve (fun (k5:Nat) (s:Bs)=>[(1,.dat (vstr body2)),(2,.dat (zf request3)),(7,.dat (vstr s)),(10,.dat (vlst (List.map yb l1))),(11,.dat (vint (l1.length:Int))),(12,.dat (vint (k5:Int)))]) (fun (k5:Nat) (s:Bs)=>[]) [] H ⟨Z,Z,Z,Z,Z,Z,U⟩ U (fun _ _=>Z) ?_ ?_))))))))))
 ·rintro out4 H
  replace H:z6q body2 request3 out4=some r:=H
  unfold z6q at H
  refine zc hN Z (za (yg Z Z) (zh (zi _ Z (fun h=>(lt_t h).elim) (fun h => ?_))))
  refine qj (zz (ι:=Bs) (fun i=>[(1,.dat (vstr body2)),(7,.dat (vstr i))]) (fun i=>[]) (fun i=>Qo body2 i=some r) (fun i=>Z) ?_ ?_)
  ·skip
   refine zc hN Z (qd Z (za (vc Z Z) (qd Z (yz Z Z (fun hc=>ze (.dat _) Z) (yz Z Z (fun hc=>yk (cnd (c:=(!(decide (body2≠[])))) hc)) (za (vk Z Z (fun hb=>(cnd (c:=(!(decide (body2≠[])))) (notI hb)))) (zi _ Z (fun h9 => ?_) (fun h9 => ?_))))))))
   ·exact tE h9 H fun H=>zq hN Z (qd Z (qd Z (za (yi tyU9 Z) (bE H fun r10 h11 H=>za (zj (z8v (body2.length:Int) r10 h11) ⟨.inl Z,U⟩) (gE H fun h12 H=>za (yy Z Z (Nat.le_trans h12 (by decide))) (gE H fun h13 H=>za (yy Z Z (Nat.le_trans h13 (by decide))) (gE H fun h14 H=>za (yy Z Z (Nat.le_trans h14 (by decide))) (qe Z ⟨(out4++(([99,111,110,116,101,110,116,45,108,101,110,103,116,104,58,32]++r10)++[13,10])),H,⟨Z,Z,U⟩,U⟩))))))))
   ·exact fE h9 H fun H=>zn ⟨out4,H,⟨Z,Z,U⟩,U⟩
  ·rintro out15 H
   replace H:Qo body2 out15=some r:=H
   unfold Qo at H
   refine zc hN Z (qd Z (gE H fun h16 H=>za (yy Z Z (Nat.le_trans h16 (by decide))) (qd Z (gE H fun h17 H=>za (yy Z Z (Nat.le_trans h17 (by decide))) (qe Z (zg ?_))))))
   cases H
   exact ⟨U,.inl Z,U⟩
 ·rintro k5 x8 out4 q6 h18 h19 H hq6
  replace H:z6p request3 k5 x8 out4=some q6:=H
  unfold z6p at H
  refine zc hN Z (za (yg Z Z) (zh (zi _ Z (fun h => ?_) (fun h=>(lt_f h18 h).elim))))
  refine zn (zz (ι:=Bs) (fun i=>[(1,.dat (vstr body2)),(2,.dat (zf request3)),(7,.dat (vstr i)),(10,.dat (vlst (List.map yb l1))),(11,.dat (vint (l1.length:Int))),(12,.dat (vint (k5:Int)))]) (fun i=>[]) (fun i=>z08 i=some q6) (fun i=>Z) ?_ ?_)
  ·skip
   refine yc (zc hN Z (za (qx ka (fun _=>Z) Z Z h19) (za (xk wv Z (qq h19) Z) (zo (qm 1 ky Z) Z (zo (yq wv Z Z Z Z) Z (zc hN Z (za (zv Zt Z) (zr (zx tyS9 Z Z) Z (qd Z (bE H fun r20 h21 H=>za (zj (y2t x8.Name request3 r20 h21) ⟨.inl Z,.inl Z,U⟩) (za (yk Z) (zi _ Z (fun h22 => ?_) (fun h22 => ?_)))))))))))))
   ·exact tE h22 H fun H=>zq hN Z (qd Z (za (zv Zt Z) (zr (zx tyS9 Z Z) Z (gE H fun h23 H=>za (yy Z Z (Nat.le_trans h23 (by decide))) (za (zv z1t Z) (zr (zx tyS9 Z Z) Z (gE H fun h24 H=>za (yy Z Z (Nat.le_trans h24 (by decide))) (gE H fun h25 H=>za (yy Z Z (Nat.le_trans h25 (by decide))) (gE H fun h26 H=>za (yy Z Z (Nat.le_trans h26 (by decide))) (qe Z ⟨(out4++(((x8.Name++[58,32])++x8.Value)++[13,10])),H,⟨Z,Z,Z,Z,Z,Z,U⟩,U⟩))))))))))
   ·exact fE h22 H fun H=>zn ⟨out4,H,⟨Z,Z,Z,Z,Z,Z,U⟩,U⟩
  ·rintro out27 H
   replace H:z08 out27=some q6:=H
   unfold z08 at H
   exact zq hN Z (za (wy Z Z (by omega)) (qd Z ⟨_,qr H,⟨Z,Z,Z,Z,Z,Z,U⟩,U⟩))
theorem y9u (r1:yd) (r:(Bs)) (H:z0o r1=some r):Fn Tryz.prog 15 [vagg (qc r1)] (zp [vstr r]):=by
 refine ⟨by kernel_rfl,zy (us:=[vstr r]) Tryz.func15 Z Z Z Z fun X hN => ?_⟩
 unfold z0o at H
 refine zc hN Z (zo (vp 1 Z) Z (qe Z (zc hN Z (za (zv Wi Z) (zr (zx tyS9 Z Z) Z (qe Z (zz (ι:=Bs) (fun i=>[(1,.ptr 1 0),(3,.dat (vstr i))]) (fun i=>[(1,.box none 31 [.dat (vint r1.At),.dat (vstr r1.Method),.dat (vstr r1.Host),.dat (vstr r1.Path),.dat (vstr r1.Query),.dat (vstr r1.From),.dat (vlst (List.map yb r1.Headers)),.dat (vstr r1.Body)])]) (fun i=>Qu r1 i=some r) (fun i=>Z) ?_ ?_)))))))
 ·skip
  refine zc hN Z (za (zv Zv Z) (zr (zx tyS9 Z Z) Z (za (vc Z Z) (zi _ Z (fun h2 => ?_) (fun h2 => ?_)))))
  ·exact tE h2 H fun H=>zq hN Z (qd Z (za (zv Zv Z) (zr (zx tyS9 Z Z) Z (gE H fun h3 H=>za (yy Z Z (Nat.le_trans h3 (by decide))) (gE H fun h4 H=>za (yy Z Z (Nat.le_trans h4 (by decide))) (qe Z ⟨(r1.Path++([63]++r1.Query)),H,⟨Z,Z,U⟩,⟨Z,U⟩⟩))))))
  ·exact fE h2 H fun H=>zn ⟨r1.Path,H,⟨Z,Z,U⟩,⟨Z,U⟩⟩
 ·rintro target5 H
  replace H:Qu r1 target5=some r:=H
  unfold Qu at H
  refine zh (wz mixed hN Z Z (za (zv z1z Z) (zr (zx tyS9 Z Z) Z (gE H fun h6 H=>za (yy Z Z (Nat.le_trans h6 (by decide))) (qd Z (gE H fun h7 H=>za (yy Z Z (Nat.le_trans h7 (by decide))) (gE H fun h8 H=>za (yy Z Z (Nat.le_trans h8 (by decide))) (gE H fun h9 H=>za (yy Z Z (Nat.le_trans h9 (by decide))) (gE H fun h10 H=>za (yy Z Z (Nat.le_trans h10 (by decide))) (za (zv z1y Z) (zr (zx tyS9 Z Z) Z (gE H fun h11 H=>za (yy Z Z (Nat.le_trans h11 (by decide))) (gE H fun h12 H=>za (yy Z Z (Nat.le_trans h12 (by decide))) (za (zv z1x Z) (zr (zx qw Z Z) Z (za (zv Wh Z) ?_))))))))))))))))
  refine zr (zx tyS9 Z Z) Z (bE H fun r13 h14 H=>za (zj (y2r r1.Headers r1.Body true r13 h14) ⟨.inl Z,.inl Z,.inl Z,U⟩) (gE H fun h15 H=>za (yy Z Z (Nat.le_trans h15 (by decide))) (qe Z ⟨Z,?_⟩)))
  refine zg ?_
  cases H
  exact ⟨U,.inl Z,U⟩
theorem y9r (a1:yj) (r:(Bs)) (H:z3m a1=some r):Fn Tryz.prog 16 [vagg (qi a1)] (zp [vstr r]):=by
 refine ⟨by kernel_rfl,zy (us:=[vstr r]) Tryz.func16 Z Z Z Z fun X hN => ?_⟩
 unfold z3m at H
 refine zc hN Z (zo (vp 1 Z) Z (qe Z (zc hN Z (qe Z (zz (ι:=Bs) (fun i=>[(1,.ptr 1 0),(3,.dat (vstr i))]) (fun i=>[(1,.box none 36 [.dat (vint a1.Status),.dat (vlst (List.map yb a1.Headers)),.dat (vstr a1.Body)])]) (fun i=>Qs a1 i=some r) (fun i=>Z) ?_ ?_)))))
 ·skip
  refine zc hN Z (za (zv Wg Z) (zr (zx tyS3 Z Z) Z (za (yp Z Z) (zi _ Z (fun h2 => ?_) (fun h2 => ?_)))))
  ·exact tE h2 H fun H=>zq hN Z (qe Z ⟨[79,75],H,⟨Z,Z,U⟩,⟨Z,U⟩⟩)
  ·exact fE h2 H fun H=>zn ⟨[45],H,⟨Z,Z,U⟩,⟨Z,U⟩⟩
 ·rintro reason3 H
  replace H:Qs a1 reason3=some r:=H
  unfold Qs at H
  refine zh (wz mixed hN Z Z (za (zv Wg Z) (zr (zx tyS3 Z Z) Z (bE H fun r4 h5 H=>za (zj (z8v a1.Status r4 h5) ⟨.inl Z,U⟩) (gE H fun h6 H=>za (yy Z Z (Nat.le_trans h6 (by decide))) (gE H fun h7 H=>za (yy Z Z (Nat.le_trans h7 (by decide))) (qd Z (gE H fun h8 H=>za (yy Z Z (Nat.le_trans h8 (by decide))) (gE H fun h9 H=>za (yy Z Z (Nat.le_trans h9 (by decide))) (za (zv z1w Z) (zr (zx qw Z Z) Z (za (zv z1v Z) (zr (zx tyS9 Z Z) Z (bE H fun r10 h11 H=>za (zj (y2r a1.Headers a1.Body false r10 h11) ⟨.inl Z,.inl Z,.inl Z,U⟩) (gE H fun h12 H=>za (yy Z Z (Nat.le_trans h12 (by decide))) (qe Z ?_))))))))))))))))
  refine ⟨Z,?_⟩
  refine zg ?_
  cases H
  exact ⟨U,.inl Z,U⟩
theorem kf (s p:Bs) (r:Bs×Bs×Bool) (H:wo s p=some r):Fn Tryz.prog 17 [vstr s,vstr p] (zp [vstr r.1,vstr r.2.1,zf r.2.2]):=by
 unfold wo at H
 obtain ⟨h1,h2⟩:=gif H
 cases h2
 refine jz (by kernel_rfl) fun M w vs hM h => ?_
 have hv:=vu (us:=[.string ⟨s.toArray⟩,.string ⟨p.toArray⟩]) h
 subst hv
 obtain ⟨m,hm⟩:=z2k hM
 refine (Tryz.strings_Cut ⟨s.toArray⟩ ⟨p.toArray⟩ m w (by simp [ByteArray.size]; omega) hm).mono ?_
 rintro e w' ⟨rfl,n,rfl⟩
 refine ⟨_,Z,⟨[_,_,_],Z,Z,fun j u hj => ?_⟩,⟨Z,Z,Z,Nat.le_refl _,fun _ _ _=>Z⟩⟩
 rcases j with _ | _ | _ | j
 ·cases hj; exact ⟨_,Z,Z⟩
 ·cases hj; exact ⟨_,Z,Z⟩
 ·cases hj; exact ⟨_,Z,Z⟩
 ·simp at hj

theorem y8c (s p:Bs) (r:Int) (H:z2n s p=some r):Fn Tryz.prog 18 [vstr s,vstr p] (zp [vint r]):=by
 unfold z2n at H
 obtain ⟨h1,h2⟩:=gif H
 cases h2
 refine jz (by kernel_rfl) fun M w vs hM h => ?_
 have hv:=vu (us:=[.string ⟨s.toArray⟩,.string ⟨p.toArray⟩]) h
 subst hv
 obtain ⟨m,hm⟩:=z2k hM
 refine (Tryz.strings_Index ⟨s.toArray⟩ ⟨p.toArray⟩ m w (by simp [ByteArray.size]; omega) hm).mono ?_
 rintro e w' ⟨rfl,rfl⟩
 exact ⟨_,Z,Z,Kp.refl _ _⟩

theorem y9d (i1:Int) (r:(Bs)) (H:z8o i1=some r):Fn Tryz.prog 154 [vint i1] (zp [vstr r]):=by
 refine ⟨by kernel_rfl,zy (us:=[vstr r]) Tryz.func154 Z Z Z Z fun X hN => ?_⟩
 unfold z8o at H
 refine zc hN Z (qe Z (zh (zc hN Z (qd Z (za (yg Z Z) (zi _ Z (fun h2 => ?_) (fun h2 => ?_)))))))
 ·refine tE h2 H fun H=>zc hN Z (qd Z (qd Z (za (yf _ Z Z (.inl ⟨Z,Z⟩)) (bE H fun l3 h4 H=>za (qf tyU9 Z Z Z h4) (qe Z (zg ?_))))))
  cases H
  exact ⟨U,.inl Z,U⟩
 ·refine fE h2 H fun H=>zn (zc hN Z (qd Z (za (yf _ Z Z (.inr (.inr ⟨Z,Z⟩))) (qd Z (za (yf _ Z Z (.inr (.inr ⟨Z,Z⟩))) (za (yf _ Z Z (.inl ⟨Z,Z⟩)) (bE H fun l5 h6 H=>za (qf tyU9 Z Z Z h6) (qe Z (zg ?_)))))))))
  cases H
  exact ⟨U,.inl Z,U⟩
theorem y9e (x1:Int) (r:(Bool)) (H:z56 x1=some r):Fn Tryz.prog 180 [vint x1] (zp [zf r]):=by
 refine ⟨by kernel_rfl,zy (us:=[zf r]) Tryz.func180 Z Z Z Z fun X hN => ?_⟩
 unfold z56 at H
 refine zc hN Z (qe Z (zc hN Z (qd Z (qd Z (za (yf _ Z Z (.inr (.inl ⟨Z,Z⟩))) (za (yo (z7r Z Z) Z) (za (yp Z Z) (qe Z (zg ?_)))))))))
 cases H
 exact ⟨U,.inl Z,U⟩
theorem y96 (x r:Int) (H:z3v x=some r):Fn Tryz.prog 181 [vval (.int .u64 x)] (zp [vint r]):=by
 obtain ⟨h0,h1,rfl⟩:=y4i H
 obtain ⟨n,rfl⟩:=Int.eq_ofNat_of_zero_le h0
 refine jz (by kernel_rfl) fun M w vs hM h => ?_
 have hv:=vu (us:=[.int .u64 (n:Int)]) h
 subst hv
 refine (Any7.bits_TrailingZeros Tryz.tz181 n (by omega) w (fun _=>y4u hM)).mono ?_
 rintro e w' ⟨rfl,rfl⟩
 exact ⟨_,Z,Z,Kp.refl _ _⟩
theorem y9f (v1:(List Int)) (v2:Int) (v3:Int) (v4:Bool) (v5:Bool) (r:((List Int)×Bs)) (H:z57 v1 v2 v3 v4 v5=some r):Fn Tryz.prog 157 [vlst (List.map yv v1),vval (.int .u64 v2),vint v3,zf v4,zf v5] (zp [vlst (List.map yv r.1),vstr r.2]):=by
 refine ⟨by kernel_rfl,zy (us:=[vlst (List.map yv r.1),vstr r.2]) Tryz.func157 Z Z Z Z fun X hN => ?_⟩
 unfold z57 at H
 refine zc hN Z (qe Z (qe Z (zh (zc hN Z (qd Z (za (yg Z Z) (qd Z (yz Z Z (fun hc=>ze (.dat _) Z) (yz Z Z (fun hc=>yp (cnd (c:=(!(decide (v3 < 2)))) hc) Z) (za (vk Z Z (fun hb=>(cnd (c:=(!(decide (v3 < 2)))) (notI hb)))) (qd Z (yz Z Z (fun hc=>ze (.dat _) Z) (yz Z Z (fun hc=>qb (cnd (c:=(!((decide (v3 < 2)) || (decide (v3=10))))) hc) Z) (za (vk Z Z (fun hb=>(cnd (c:=(!((decide (v3 < 2)) || (decide (v3=10))))) (notI hb)))) (zi _ Z (fun h6 => ?_) (fun h6 => ?_))))))))))))))))
 ·refine tE h6 H fun H=>?_
  cases H
 ·refine fE h6 H fun H=>zn (zc hN Z (zo (y44 1 65 (show tyZ Tryz.prog 185=some (List.replicate 65 (.int .u8 0)) from by kernel_rfl)) Z ?_))
  refine zc hN Z (qe Z (zz (ι:=Unit) (fun i=>[(0,.dat (vlst (List.map yv v1))),(1,.dat (vval (.int .u64 v2))),(2,.dat (vint v3)),(3,.dat (zf v4)),(4,.dat (zf v5)),(10,.dat (vnil)),(11,.dat (vstr [])),(12,.ptr 1 0),(13,.dat (vint 65))]) (fun i=>[(1,.box none 185 (List.map Slot.dat (bxU (List.replicate 65 0))))]) (fun i=>z36 v2 v3 v4 v5=some r) (fun i=>Yb Z (Yd Ya Yc)) ?_ ?_))
  ·skip
   refine zc hN Z (qd Z (zi _ Z (fun h7 => ?_) (fun h7 => ?_)))
   ·refine tE h7 H fun H=>?_
    cases H
   ·exact fE h7 H fun H=>zn ⟨(),H,⟨Z,Z,Z,Z,Z,Z,Z,Z,Z,U⟩,⟨Z,U⟩⟩
  ·rintro ⟨⟩ H
   replace H:z36 v2 v3 v4 v5=some r:=H
   unfold z36 at H
   refine zz (ι:=Int×(List Int)) (fun i=>[(0,.dat (vlst (List.map yv v1))),(3,.dat (zf v4)),(4,.dat (zf v5)),(10,.dat (vnil)),(11,.dat (vstr [])),(12,.ptr 1 0),(13,.dat (vint i.1))]) (fun i=>[(1,.box none 185 (List.map Slot.dat (bxU i.2)))]) (fun i=>Qd v4 v5 i.1 i.2=some r) (fun i=>Yb Z (Yd Ya Yc)) ?_ ?_
   ·skip
    refine zc hN Z (qd Z (bE H fun r8 h9 H=>za (zj (y9e v3 r8 h9) ⟨.inl Z,U⟩) (zi _ Z (fun h10 => ?_) (fun h10 => ?_))))
    ·refine tE h10 H fun H=>zc hN Z (qd Z (za (vh tyU3 z1r Z) (bE H fun r11 h12 H=>za (zj (y96 (IntKind.wrap .u64 v3) r11 h12) ⟨.inl Z,U⟩) (za (vh tyU3 z1r Z) (qe Z (zc hN Z (qd Z (za (vh tyU3 kz Z) (qe Z (zc hN Z (qd Z (za (vh tyU3 z1r Z) (za (yf _ Z Z (.inr (.inl ⟨Z,Z⟩))) (qe Z (zz (ι:=Int×Int×(List Int)) (fun i=>[(0,.dat (vlst (List.map yv v1))),(1,.dat (vval (.int .u64 i.1))),(3,.dat (zf v4)),(4,.dat (zf v5)),(10,.dat (vnil)),(11,.dat (vstr [])),(12,.ptr 1 0),(13,.dat (vint i.2.1))]) (fun i=>[(1,.box none 185 (List.map Slot.dat (bxU i.2.2)))]) (fun i=>z02 v4 v5 i.1 i.2.1 i.2.2=some r) (fun i=>Yb Z (Yd Ya Yc)) ?_ ?_)))))))))))))))
     ·skip
      refine yc (ki (fun (s:Int×Int×(List Int))=>[(0,.dat (vlst (List.map yv v1))),(1,.dat (vval (.int .u64 s.1))),(3,.dat (zf v4)),(4,.dat (zf v5)),(10,.dat (vnil)),(11,.dat (vstr [])),(12,.ptr 1 0),(13,.dat (vint s.2.1)),(14,.dat (vval (.int .u64 (IntKind.wrap .u64 r11)))),(15,.dat (vval (.int .u64 (IntKind.wrap .u64 v3)))),(16,.dat (vval (.int .u64 (IntKind.wrap .u64 ((IntKind.wrap .u64 v3) - 1)))))]) (fun (s:Int×Int×(List Int))=>[(1,.box none 185 (List.map Slot.dat (bxU s.2.2)))]) (v2,65,(List.replicate 65 0)) H ⟨Z,Z,Z,Z,Z,Z,Z,Z,Z,Z,Z,U⟩ ⟨Z,U⟩ (fun _=>Yb Z (Yd Ya Yc)) ?_)
      rintro ⟨v13,v14,l15⟩ q16 H hq16
      replace H:jn v3 v4 v5 r11 v13 v14 l15=some q16:=H
      unfold jn at H
      refine zh (zc hN Z (qd Z (qd Z (za (wx Z Z) (zi _ Z (fun h17 => ?_) (fun h17 => ?_))))))
      ·refine tE h17 H fun H=>zn (yc (zc hN Z (qd Z (za (yf _ Z Z (.inr (.inl ⟨Z,Z⟩))) (qe Z (zc hN Z (qd Z (qd Z (qd Z (za (yo (z7r Z Z) Z) (bE H fun x18 h19 H=>za (Wl tyU9 Z Z h19) (gE H fun h20 H=>za (z14 (show tyA Tryz.prog 185=some (65,5,.int .u8) from by kernel_rfl) Z Z h20) ?_))))))))))))
       exact gE H fun h21 H=>zo (z13 (l:=l15) tyS5 Z Z h21) Z (zq hN Z (qd Z (qd Z (gE H fun h22 H=>za (yo (y0p Z Z h22) Z) (qe Z ⟨_,qr H,⟨Z,Z,Z,Z,Z,Z,Z,Z,Z,Z,Z,U⟩,⟨Z,U⟩⟩)))))
      ·refine fE h17 H fun H=>qj ?_
       replace H:=outl H hq16
       exact ⟨(v13,v14,l15),H,⟨Z,Z,Z,Z,Z,Z,Z,Z,U⟩,⟨Z,U⟩⟩
     ·rintro ⟨v23,v24,l25⟩ H
      replace H:z02 v4 v5 v23 v24 l25=some r:=H
      unfold z02 at H
      refine zc hN Z (qd Z (za (yf _ Z Z (.inr (.inl ⟨Z,Z⟩))) (qe Z (zq hN Z (qd Z (qd Z (bE H fun x26 h27 H=>za (Wl tyU9 Z Z h27) (gE H fun h28 H=>za (z14 (show tyA Tryz.prog 185=some (65,5,.int .u8) from by kernel_rfl) Z Z h28) ?_))))))))
      exact gE H fun h29 H=>zo (z13 (l:=l25) tyS5 Z Z h29) Z ⟨(wr (v24 - 1),(l25.set (wr (v24 - 1)).toNat (x26.toNat:Int))),H,⟨Z,Z,Z,Z,Z,Z,Z,U⟩,⟨Z,U⟩⟩
    ·refine fE h10 H fun H=>zc hN Z (qd Z (za (vh tyU3 kz Z) (qe Z (zz (ι:=Int×Int×(List Int)) (fun i=>[(0,.dat (vlst (List.map yv v1))),(1,.dat (vval (.int .u64 i.1))),(3,.dat (zf v4)),(4,.dat (zf v5)),(10,.dat (vnil)),(11,.dat (vstr [])),(12,.ptr 1 0),(13,.dat (vint i.2.1))]) (fun i=>[(1,.box none 185 (List.map Slot.dat (bxU i.2.2)))]) (fun i=>z6n v4 v5 i.1 i.2.1 i.2.2=some r) (fun i=>Yb Z (Yd Ya Yc)) ?_ ?_))))
     ·skip
      refine yc (ki (fun (s:Int×Int×(List Int))=>[(0,.dat (vlst (List.map yv v1))),(1,.dat (vval (.int .u64 s.1))),(3,.dat (zf v4)),(4,.dat (zf v5)),(10,.dat (vnil)),(11,.dat (vstr [])),(12,.ptr 1 0),(13,.dat (vint s.2.1)),(17,.dat (vval (.int .u64 (IntKind.wrap .u64 v3))))]) (fun (s:Int×Int×(List Int))=>[(1,.box none 185 (List.map Slot.dat (bxU s.2.2)))]) (v2,65,(List.replicate 65 0)) H ⟨Z,Z,Z,Z,Z,Z,Z,Z,Z,U⟩ ⟨Z,U⟩ (fun _=>Yb Z (Yd Ya Yc)) ?_)
      rintro ⟨v30,v31,l32⟩ q33 H hq33
      replace H:z88 v3 v4 v5 v30 v31 l32=some q33:=H
      unfold z88 at H
      refine zh (zc hN Z (qd Z (qd Z (za (wx Z Z) (zi _ Z (fun h34 => ?_) (fun h34 => ?_))))))
      ·refine tE h34 H fun H=>zn (yc (zc hN Z (qd Z (za (yf _ Z Z (.inr (.inl ⟨Z,Z⟩))) (qe Z (zc hN Z (qd Z (qd Z (gE H fun h35 H=>za (y0s Z Z h35) (qe Z (zc hN Z (qd Z (qd Z (qd Z (qd Z (za (yf _ Z Z (.inr (.inr ⟨Z,Z⟩))) (za (yf _ Z Z (.inr (.inl ⟨Z,Z⟩))) (bE H fun x36 h37 H=>za (Wl tyU9 Z Z h37) (gE H fun h38 H=>za (z14 (show tyA Tryz.prog 185=some (65,5,.int .u8) from by kernel_rfl) Z Z h38) ?_)))))))))))))))))))
       exact gE H fun h39 H=>zo (z13 (l:=l32) tyS5 Z Z h39) Z (zq hN Z (qd Z (qe Z ⟨_,qr H,⟨Z,Z,Z,Z,Z,Z,Z,Z,Z,U⟩,⟨Z,U⟩⟩)))
      ·refine fE h34 H fun H=>qj ?_
       replace H:=outl H hq33
       exact ⟨(v30,v31,l32),H,⟨Z,Z,Z,Z,Z,Z,Z,Z,U⟩,⟨Z,U⟩⟩
     ·rintro ⟨v40,v41,l42⟩ H
      replace H:z6n v4 v5 v40 v41 l42=some r:=H
      unfold z6n at H
      refine zc hN Z (qd Z (za (yf _ Z Z (.inr (.inl ⟨Z,Z⟩))) (qe Z (zq hN Z (qd Z (qd Z (bE H fun x43 h44 H=>za (Wl tyU9 Z Z h44) (gE H fun h45 H=>za (z14 (show tyA Tryz.prog 185=some (65,5,.int .u8) from by kernel_rfl) Z Z h45) ?_))))))))
      exact gE H fun h46 H=>zo (z13 (l:=l42) tyS5 Z Z h46) Z ⟨(wr (v41 - 1),(l42.set (wr (v41 - 1)).toNat (x43.toNat:Int))),H,⟨Z,Z,Z,Z,Z,Z,Z,U⟩,⟨Z,U⟩⟩
   ·rintro ⟨v47,l48⟩ H
    replace H:Qd v4 v5 v47 l48=some r:=H
    unfold Qd at H
    refine zz (ι:=Int×(List Int)) (fun i=>[(0,.dat (vlst (List.map yv v1))),(4,.dat (zf v5)),(10,.dat (vnil)),(11,.dat (vstr [])),(12,.ptr 1 0),(13,.dat (vint i.1))]) (fun i=>[(1,.box none 185 (List.map Slot.dat (bxU i.2)))]) (fun i=>Qc v5 i.1 i.2=some r) (fun i=>Yb Z (Yd Ya Yc)) ?_ ?_
    ·skip
     refine zc hN Z (qd Z (zi _ Z (fun h49 => ?_) (fun h49 => ?_)))
     ·refine tE h49 H fun H=>zc hN Z (qd Z (za (yf _ Z Z (.inr (.inl ⟨Z,Z⟩))) (qe Z (zq hN Z (qd Z (gE H fun h50 H=>za (z14 (show tyA Tryz.prog 185=some (65,5,.int .u8) from by kernel_rfl) Z Z h50) ?_))))))
      exact gE H fun h51 H=>zo (z13 (l:=l48) tyS5 Z Z h51) Z ⟨(wr (v47 - 1),(l48.set (wr (v47 - 1)).toNat 45)),H,⟨Z,Z,Z,Z,Z,Z,U⟩,⟨Z,U⟩⟩
     ·exact fE h49 H fun H=>zn ⟨(v47,l48),H,⟨Z,Z,Z,Z,Z,Z,U⟩,⟨Z,U⟩⟩
    ·rintro ⟨v52,l53⟩ H
     replace H:Qc v5 v52 l53=some r:=H
     unfold Qc at H
     refine zh (zc hN Z (qd Z (zi _ Z (fun h54 => ?_) (fun h54 => ?_))))
     ·refine tE h54 H fun H=>?_
      cases H
     ·refine fE h54 H fun H=>zn (zh (z67 1 (bxU l53) Z Z (zq hN Z (qd Z (gE H fun h55 H=>gE H fun h56 H=>za (y41 (C:=yv) (show tyA Tryz.prog 185=some (65,5,.int .u8) from by kernel_rfl) Z h55 Z h56 (fun _=>Z)) ?_)))))
      refine za (z7o (C:=yv) xf tyU5 tyU9 (fun _=>Z) Z) (qe Z (zg ?_))
      cases H
      exact ⟨U,.inr ⟨Z,Z⟩,.inl Z,U⟩
theorem y9g (i1:Int) (base2:Int) (r:(Bs)) (H:z58 i1 base2=some r):Fn Tryz.prog 112 [vint i1,vint base2] (zp [vstr r]):=by
 refine ⟨by kernel_rfl,zy (us:=[vstr r]) Tryz.func112 Z Z Z Z fun X hN => ?_⟩
 unfold z58 at H
 refine zc hN Z (qe Z (zh (zc hN Z (qd Z (za (yp Z Z) (zi _ Z (fun h3 => ?_) (fun h3 => ?_)))))))
 ·refine tE h3 H fun H=>zh (zc hN Z (qd Z (za (we Z Z) (qd Z (qg Z Z (fun hc=>ze (.dat _) Z) (qg Z Z (fun hc=>yg (cnd (c:=(decide (0≤i1))) hc) Z) (za (wu Z (fun hb=>(cnd (c:=(decide (0≤i1))) hb)) Z) (zi _ Z (fun h4 => ?_) (fun h4 => ?_)))))))))
  ·refine tE h4 H fun H=>zc hN Z (qd Z (bE H fun r5 h6 H=>za (zj (y9d i1 r5 h6) ⟨.inl Z,U⟩) (qe Z (zg ?_))))
   cases H
   exact ⟨U,.inl Z,U⟩
  ·refine fE h4 H fun H=>?_
   cases H
 ·refine fE h3 H fun H=>zn (zc hN Z (qd Z (za (vh tyU2 kz Z) (qd Z (qd Z (za (yg Z Z) (bE H fun r7 h8 H=>za (zj (y9f ([]:(List Int)) (IntKind.wrap .u64 i1) base2 (decide (i1 < 0)) false r7 h8) ⟨.inr ⟨Z,Z⟩,.inl Z,.inl Z,.inl Z,.inl Z,U⟩) (qd Z (za (zt Z Z) (za (zt Z Z) (qe Z (qe Z (zc hN Z (qd Z (qe Z (zg ?_))))))))))))))))
  cases H
  exact ⟨U,.inl Z,U⟩
theorem y2f (i1:Int) (base2:Int) (r:(Bs)) (H:z0g i1 base2=some r):Fn Tryz.prog 55 [vint i1,vint base2] (zp [vstr r]):=by
 refine ⟨by kernel_rfl,zy (us:=[vstr r]) Tryz.func55 Z Z Z Z fun X hN => ?_⟩
 unfold z0g at H
 refine zc hN Z (qe Z (zc hN Z (qd Z (qd Z (bE H fun r3 h4 H=>za (zj (y9g i1 base2 r3 h4) ⟨.inl Z,.inl Z,U⟩) (qe Z (zg ?_)))))))
 cases H
 exact ⟨U,.inl Z,U⟩
theorem y9x (body1:Bs) (size2:Int) (r:(Bs)) (H:z0s body1 size2=some r):Fn Tryz.prog 20 [vstr body1,vint size2] (zp [vstr r]):=by
 refine ⟨by kernel_rfl,zy (us:=[vstr r]) Tryz.func20 Z Z Z Z fun X hN => ?_⟩
 unfold z0s at H
 refine zc hN Z (qe Z (zc hN Z (qe Z (zz (ι:=Bs) (fun i=>[(5,.dat (vstr i))]) (fun i=>[]) (fun i=>z4d i=some r) (fun i=>Z) ?_ ?_))))
 ·skip
  refine yc (ki (fun (s:Bs×Bs)=>[(0,.dat (vstr s.1)),(1,.dat (vint size2)),(5,.dat (vstr s.2))]) (fun (s:Bs×Bs)=>[]) (body1,[]) H ⟨Z,Z,Z,U⟩ U (fun _=>Z) ?_)
  rintro ⟨body3,out4⟩ q5 H hq5
  replace H:um size2 body3 out4=some q5:=H
  unfold um at H
  refine zh (zc hN Z (qd Z (za (vc Z Z) (zi _ Z (fun h6 => ?_) (fun h6 => ?_)))))
  ·refine tE h6 H fun H=>zn (yc (zc hN Z (qd Z (qd Z (za (yi tyU9 Z) (za (y5g Z Z) (qe Z (zh (wz mixed hN Z Z (qd Z (qd Z (bE H fun r7 h8 H=>za (zj (y2f (min size2 (body3.length:Int)) 16 r7 h8) ⟨.inl Z,.inl Z,U⟩) (gE H fun h9 H=>za (yy Z Z (Nat.le_trans h9 (by decide))) (qd Z (qd Z (bE H fun l10 h11 H=>za (qf tyU9 Z Z Z h11) (gE H fun h12 H=>za (yy Z Z (Nat.le_trans h12 (by decide))) (gE H fun h13 H=>?_))))))))))))))))))
   refine za (yy Z Z (Nat.le_trans h13 (by decide))) (gE H fun h14 H=>za (yy Z Z (Nat.le_trans h14 (by decide))) (qe Z ⟨Z,?_⟩))
   exact zq hN Z (qd Z (qd Z (bE H fun l15 h16 H=>za (qf tyU9 Z Z Z h16) (qe Z ⟨_,qr H,⟨Z,Z,Z,U⟩,U⟩))))
  ·refine fE h6 H fun H=>qj ?_
   replace H:=outl H hq5
   exact ⟨out4,H,⟨Z,U⟩,U⟩
 ·rintro out17 H
  replace H:z4d out17=some r:=H
  unfold z4d at H
  refine zc hN Z (qd Z (gE H fun h18 H=>za (yy Z Z (Nat.le_trans h18 (by decide))) (gE H fun h19 H=>za (yy Z Z (Nat.le_trans h19 (by decide))) (gE H fun h20 H=>za (yy Z Z (Nat.le_trans h20 (by decide))) (qe Z (zg ?_))))))
  cases H
  exact ⟨U,.inl Z,U⟩
theorem y79 (s p q:Bs) (n:Int) (r:Bs) (H:z2l s p q n=some r):Fn Tryz.prog 21 [vstr s,vstr p,vstr q,vint n] (zp [vstr r]):=by
 unfold z2l at H
 obtain ⟨⟨h1,h2,h3⟩,h4⟩:=gif H
 cases h4
 refine jz (by kernel_rfl) fun M w vs hM h => ?_
 have hv:=vu (us:=[.string ⟨s.toArray⟩,.string ⟨p.toArray⟩,.string ⟨q.toArray⟩,.int .i64 n]) h
 subst hv
 obtain ⟨m,hm⟩:=z2k hM
 have hle:=Lib.countB_le ⟨p.toArray⟩ (by simpa [ByteArray.size] using h2) _ ⟨s.toArray⟩ (Nat.le_refl _)
 have e1:(ByteArray.mk s.toArray).size=s.length:=by simp [ByteArray.size]
 have e2:(ByteArray.mk q.toArray).size=q.length:=by simp [ByteArray.size]
 have hmul:Lib.countB ⟨s.toArray⟩ ⟨p.toArray⟩ * q.length≤1000001 * 1000000:=Nat.mul_le_mul (by omega) h3
 refine (Tryz.strings_Replace ⟨s.toArray⟩ ⟨p.toArray⟩ ⟨q.toArray⟩ n m w (by rw [e1]; omega) hm (by simpa [ByteArray.size] using h2) (by rw [e1,e2]; omega)).mono ?_
 rintro e w' ⟨rfl,hb⟩
 exact ⟨_,Z,Z,Kp.of_below hb⟩

theorem y93 (s1:ya) (t2:Bs) (v3:Bs) (r:(Bs×ya)) (H:z3t s1 t2 v3=some r):Imp Tryz.prog 23 25 (qs s1) [vstr t2,vstr v3] (zp [vstr r.1]) (qs r.2):=by
 refine kt (us:=[vstr r.1]) (cs':=(qs r.2)) (by kernel_rfl) Tryz.func23 Z Z Z Z fun X bl hN => ?_
 unfold z3t at H
 refine zc hN Z (qe Z (zh (zc hN Z (qd Z (za (qy Z Z) (qd Z (yz Z Z (fun hc=>ze (.dat _) Z) (yz Z Z (fun hc=>qy (cnd (c:=(!(decide (t2=[])))) hc) Z) (za (vk Z Z (fun hb=>(cnd (c:=(!(decide (t2=[])))) (notI hb)))) (zi _ Z (fun h4 => ?_) (fun h4 => ?_)))))))))))
 ·refine tE h4 H fun H=>zc hN Z (qd Z (qe Z (zg ?_)))
  cases H
  exact ⟨U,⟨.inl Z,U⟩,Z⟩
 ·refine fE h4 H fun H=>zn (zc hN Z (za (ze (.ptr _ _) Z) (qd Z (za (yi tyU9 Z) (bE H fun r5 h6 H=>zo (ql (Qa s1 (t2.length:Int) r5 h6) Z ⟨.inl Z,U⟩ Z) Z (qe Z (zc hN Z (qd Z (za (ze (.ptr _ _) Z) (qd Z (za (yi tyU9 Z) (bE H fun r7 h8 H=>zo (ql (Qa r5.2 (v3.length:Int) r7 h8) Z ⟨.inl Z,U⟩ Z) Z (bE H fun x9 h10 H=>za (jf tyU9 Z Z h10) (qe Z (zh (zc hN Z (za (ze (.ptr _ _) Z) (bE H fun r11 h12 H=>zo (ql (Qa r7.2 3 r11 h12) Z ⟨.inl Z,U⟩ Z) Z ?_))))))))))))))))))
  refine yc (zc hN Z (za (yp Z Z) (qe Z (zi _ Z (fun h13 => ?_) (fun h13 => ?_)))))
  ·refine tE h13 H fun H=>zh (wz mixed hN Z Z (qd Z (qd Z (bE H fun l14 h15 H=>za (qf tyU9 Z Z Z h15) (qd Z (za (vh tyU5 z4t Z) (za (y0w z4t Z tyU9 Z) (gE H fun h16 H=>za (yy Z Z (Nat.le_trans h16 (by decide))) (qd Z (qd Z (za (yf _ Z Z (.inl ⟨Z,Z⟩)) (bE H fun l17 h18 H=>za (qf tyU9 Z Z Z h18) (gE H fun h19 H=>za (yy Z Z (Nat.le_trans h19 (by decide))) (qe Z ⟨Z,?_⟩))))))))))))))
   refine zg ?_
   cases H
   exact ⟨U,⟨.inl Z,U⟩,Z⟩
  ·refine fE h13 H fun H=>zc hN Z (za (yp Z Z) (qe Z (zi _ Z (fun h20 => ?_) (fun h20 => ?_))))
   ·refine tE h20 H fun H=>zh (wz mixed hN Z Z (qd Z (qd Z (bE H fun l21 h22 H=>za (qf tyU9 Z Z Z h22) (qd Z (za (vh tyU5 z4t Z) (za (y0w z4t Z tyU9 Z) (gE H fun h23 H=>za (yy Z Z (Nat.le_trans h23 (by decide))) (qd Z (qd Z (bE H fun l24 h25 H=>za (qf tyU9 Z Z Z h25) (gE H fun h26 H=>za (yy Z Z (Nat.le_trans h26 (by decide))) (qe Z ⟨Z,?_⟩)))))))))))))
    refine zg ?_
    cases H
    exact ⟨U,⟨.inl Z,U⟩,Z⟩
   ·refine fE h20 H fun H=>zn (zh (wz mixed hN Z Z (qd Z (qd Z (bE H fun l27 h28 H=>za (qf tyU9 Z Z Z h28) (qd Z (qd Z (za (yf _ Z Z (.inl ⟨Z,Z⟩)) (bE H fun l29 h30 H=>za (qf tyU9 Z Z Z h30) (gE H fun h31 H=>za (yy Z Z (Nat.le_trans h31 (by decide))) (qe Z ⟨Z,?_⟩)))))))))))
    refine zg ?_
    cases H
    exact ⟨U,⟨.inl Z,U⟩,Z⟩
theorem y2y (s1:ya) (v2:Bool) (r:(Bs×ya)) (H:z0t s1 v2=some r):Imp Tryz.prog 4 25 (qs s1) [zf v2] (zp [vstr r.1]) (qs r.2):=by
 refine kt (us:=[vstr r.1]) (cs':=(qs r.2)) (by kernel_rfl) Tryz.func4 Z Z Z Z fun X bl hN => ?_
 unfold z0t at H
 refine zc hN Z (qe Z (zc hN Z (qe Z (zz (ι:=Bs×(List Int)×Int) (fun i=>[(0,.ptr 0 0),(5,.dat (vstr i.1))]) (fun i=>[(0,.box (some bl) 25 [.dat (vlst (List.map jp i.2.1)),.dat (vint i.2.2)])]) (fun i=>Qy i.1 i.2.1 i.2.2=some r) (fun i=>Z) ?_ ?_))))
 ·skip
  refine zc hN Z (za (ze (.ptr _ _) Z) (bE H fun r3 h4 H=>zo (ql (y90 s1 r3 h4) Z U Z) Z (za (ze (.ptr _ _) Z) (bE H fun r5 h6 H=>zo (ql (y9z r3.2 r5 h6) Z U Z) Z (zo (qm 1 vf Z) Z (zo (qm 2 vo Z) Z (zo (yq yr Z Z Z Z) Z (zo (yq yx Z Z Z Z) Z (yc (zc hN Z (qd Z (qe Z (zi _ Z (fun h7 => ?_) (fun h7 => ?_))))))))))))))
  ·exact tE h7 H fun H=>zq hN Z (zr (qa yr Z Z Z) Z (bE H fun r8 h9 H=>za (zj (y9u r3.1 r8 h9) ⟨.inl Z,U⟩) (qe Z ⟨(r8,r5.2.L,r5.2.at_),H,⟨Z,Z,U⟩,⟨Z,U⟩⟩)))
  ·exact fE h7 H fun H=>zq hN Z (zr (qa yx Z Z Z) Z (bE H fun r10 h11 H=>za (zj (y9r r5.1 r10 h11) ⟨.inl Z,U⟩) (qe Z ⟨(r10,r5.2.L,r5.2.at_),H,⟨Z,Z,U⟩,⟨Z,U⟩⟩)))
 ·rintro ⟨v12,c13,c14⟩ H
  replace H:Qy v12 c13 c14=some r:=H
  unfold Qy at H
  refine zz (ι:=Bs×(List Int)×Int) (fun i=>[(0,.ptr 0 0),(5,.dat (vstr i.1))]) (fun i=>[(0,.box (some bl) 25 [.dat (vlst (List.map jp i.2.1)),.dat (vint i.2.2)])]) (fun i=>Qx i.1 i.2.1 i.2.2=some r) (fun i=>Z) ?_ ?_
  ·skip
   refine zc hN Z (za (ze (.ptr _ _) Z) (bE H fun r15 h16 H=>zo (ql (z6l (ya.mk c13 c14) 3 r15 h16) Z ⟨.inl Z,U⟩ Z) Z (zi _ Z (fun h17 => ?_) (fun h17 => ?_))))
   ·refine tE h17 H fun H=>zc hN Z (qd Z (bE H fun r18 h19 H=>za (zj (kf v12 [13,10,13,10] r18 h19) ⟨.inl Z,.inl Z,U⟩) (qd Z (za (zt Z Z) (za (zt Z Z) (za (zt Z Z) (qe Z (qe Z (qe Z (zc hN Z (qd Z (bE H fun r20 h21 H=>za (zj (y8c r18.1 [13,10,99,111,110,116,101,110,116,45,108,101,110,103,116,104] r20 h21) ⟨.inl Z,.inl Z,U⟩) (qe Z (zz (ι:=Bs) (fun i=>[(0,.ptr 0 0),(8,.dat (vstr i)),(9,.dat (vstr r18.2.1))]) (fun i=>[(0,.box (some bl) 25 [.dat (vlst (List.map jp r15.2.L)),.dat (vint r15.2.at_)])]) (fun i=>Qw r15 r18 i=some r) (fun i=>Z) ?_ ?_))))))))))))))
    ·skip
     refine zc hN Z (qd Z (za (wx Z Z) (zi _ Z (fun h22 => ?_) (fun h22 => ?_))))
     ·exact tE h22 H fun H=>zq hN Z (qd Z (qd Z (bE H fun l23 h24 H=>za (qf tyU9 Z Z Z h24) (qe Z ⟨l23,H,⟨Z,Z,Z,U⟩,⟨Z,U⟩⟩))))
     ·exact fE h22 H fun H=>zn ⟨r18.1,H,⟨Z,Z,Z,U⟩,⟨Z,U⟩⟩
    ·rintro v25 H
     replace H:Qw r15 r18 v25=some r:=H
     unfold Qw at H
     exact zq hN Z (qd Z (gE H fun h26 H=>za (yy Z Z (Nat.le_trans h26 (by decide))) (za (ze (.ptr _ _) Z) (qd Z (bE H fun r27 h28 H=>za (zj (y9x r18.2.1 3 r27 h28) ⟨.inl Z,.inl Z,U⟩) (gE H fun h29 H=>za (yy Z Z (Nat.le_trans h29 (by decide))) (qd Z (gE H fun h30 H=>za (yy Z Z (Nat.le_trans h30 (by decide))) (qd Z (gE H fun h31 H=>za (yy Z Z (Nat.le_trans h31 (by decide))) (za (yo (u':=vlst (List.map ye [([116,114,97,110,115,102,101,114,45,101,110,99,111,100,105,110,103,58,32,99,104,117,110,107,101,100,13,10,13,10]++r27),[84,114,97,110,115,102,101,114,45,69,110,99,111,100,105,110,103,58,99,104,117,110,107,101,100,13,10,13,10,48,13,10,13,10,109,111,114,101],([116,114,97,110,115,102,101,114,45,101,110,99,111,100,105,110,103,58,32,103,122,105,112,13,10,13,10]++r18.2.1),([99,111,110,116,101,110,116,45,108,101,110,103,116,104,58,32,51,13,10,13,10]++r18.2.1),[99,111,110,116,101,110,116,45,108,101,110,103,116,104,58,32,48,51,13,10,13,10,97,98,99],[99,111,110,116,101,110,116,45,108,101,110,103,116,104,58,32,57,57,57,57,57,57,57,57,57,57,57,57,57,57,57,57,57,57,57,57,13,10,13,10],[99,111,110,116,101,110,116,45,108,101,110,103,116,104,58,32,51,13,10,99,111,110,116,101,110,116,45,108,101,110,103,116,104,58,32,51,13,10,13,10,97,98,99],[99,111,110,116,101,110,116,45,108,101,110,103,116,104,58,32,48,13,10,116,114,97,110,115,102,101,114,45,101,110,99,111,100,105,110,103,58,32,99,104,117,110,107,101,100,13,10,13,10,48,13,10,13,10],[99,111,110,116,101,110,116,45,108,101,110,103,116,104,58,32,45,49,13,10,13,10],[72,79,83,84,58,32,122,13,10,13,10],[99,111,110,116,101,110,116,45,108,101,110,103,116,104,58,32,50,48,48,48,49,13,10,13,10]])) (wc [[_],[_],[_],[_],[_],[_],[_],[_],[_],[_],[_]] wt ⟨Z,.inl ⟨_,Z,Z,Z⟩,Z,Z,.inl ⟨_,Z,Z,Z⟩,Z,Z,.inl ⟨_,Z,Z,Z⟩,Z,Z,.inl ⟨_,Z,Z,Z⟩,Z,Z,.inl ⟨_,Z,Z,Z⟩,Z,Z,.inl ⟨_,Z,Z,Z⟩,Z,Z,.inl ⟨_,Z,Z,Z⟩,Z,Z,.inl ⟨_,Z,Z,Z⟩,Z,Z,.inl ⟨_,Z,Z,Z⟩,Z,Z,.inl ⟨_,Z,Z,Z⟩,Z,Z,.inl ⟨_,Z,Z,Z⟩,Z,U⟩ Z Z) Z) (bE H fun r32 h33 H=>zo (ql (jw r15.2 ([([116,114,97,110,115,102,101,114,45,101,110,99,111,100,105,110,103,58,32,99,104,117,110,107,101,100,13,10,13,10]++r27),[84,114,97,110,115,102,101,114,45,69,110,99,111,100,105,110,103,58,99,104,117,110,107,101,100,13,10,13,10,48,13,10,13,10,109,111,114,101],([116,114,97,110,115,102,101,114,45,101,110,99,111,100,105,110,103,58,32,103,122,105,112,13,10,13,10]++r18.2.1),([99,111,110,116,101,110,116,45,108,101,110,103,116,104,58,32,51,13,10,13,10]++r18.2.1),[99,111,110,116,101,110,116,45,108,101,110,103,116,104,58,32,48,51,13,10,13,10,97,98,99],[99,111,110,116,101,110,116,45,108,101,110,103,116,104,58,32,57,57,57,57,57,57,57,57,57,57,57,57,57,57,57,57,57,57,57,57,13,10,13,10],[99,111,110,116,101,110,116,45,108,101,110,103,116,104,58,32,51,13,10,99,111,110,116,101,110,116,45,108,101,110,103,116,104,58,32,51,13,10,13,10,97,98,99],[99,111,110,116,101,110,116,45,108,101,110,103,116,104,58,32,48,13,10,116,114,97,110,115,102,101,114,45,101,110,99,111,100,105,110,103,58,32,99,104,117,110,107,101,100,13,10,13,10,48,13,10,13,10],[99,111,110,116,101,110,116,45,108,101,110,103,116,104,58,32,45,49,13,10,13,10],[72,79,83,84,58,32,122,13,10,13,10],[99,111,110,116,101,110,116,45,108,101,110,103,116,104,58,32,50,48,48,48,49,13,10,13,10]]) r32 h33) Z ⟨.inl Z,U⟩ Z) Z (gE H fun h34 H=>za (yy Z Z (Nat.le_trans h34 (by decide))) (qe Z ⟨(((v25++[13,10])++r32.1),r32.2.L,r32.2.at_),H,⟨Z,Z,U⟩,⟨Z,U⟩⟩))))))))))))))
   ·exact fE h17 H fun H=>zn ⟨(v12,r15.2.L,r15.2.at_),H,⟨Z,Z,U⟩,⟨Z,U⟩⟩
  ·rintro ⟨v35,c36,c37⟩ H
   replace H:Qx v35 c36 c37=some r:=H
   unfold Qx at H
   refine zz (ι:=Bs×(List Int)×Int) (fun i=>[(0,.ptr 0 0),(5,.dat (vstr i.1))]) (fun i=>[(0,.box (some bl) 25 [.dat (vlst (List.map jp i.2.1)),.dat (vint i.2.2)])]) (fun i=>Qv i.1 i.2.1 i.2.2=some r) (fun i=>Z) ?_ ?_
   ·skip
    refine zc hN Z (za (ze (.ptr _ _) Z) (bE H fun r38 h39 H=>zo (ql (z6l (ya.mk c36 c37) 6 r38 h39) Z ⟨.inl Z,U⟩ Z) Z (zi _ Z (fun h40 => ?_) (fun h40 => ?_))))
    ·exact tE h40 H fun H=>zq hN Z (qd Z (za (ze (.ptr _ _) Z) (za (yo (u':=vlst (List.map ye [[72,84,84,80,47,49,46,49],[13,10],[58,32],[104,111,115,116,58,32],[32,47]])) (wc [[_],[_],[_],[_],[_]] wt ⟨Z,.inl ⟨_,Z,Z,Z⟩,Z,Z,.inl ⟨_,Z,Z,Z⟩,Z,Z,.inl ⟨_,Z,Z,Z⟩,Z,Z,.inl ⟨_,Z,Z,Z⟩,Z,Z,.inl ⟨_,Z,Z,Z⟩,Z,U⟩ Z Z) Z) (bE H fun r41 h42 H=>zo (ql (jw r38.2 ([[72,84,84,80,47,49,46,49],[13,10],[58,32],[104,111,115,116,58,32],[32,47]]) r41 h42) Z ⟨.inl Z,U⟩ Z) Z (za (ze (.ptr _ _) Z) (za (yo (u':=vlst (List.map ye [[72,84,84,80,47,49,46,48],[10],[58],[32,58],[],[32,32,47]])) (wc [[_],[_],[_],[_],[_],[_]] wt ⟨Z,.inl ⟨_,Z,Z,Z⟩,Z,Z,.inl ⟨_,Z,Z,Z⟩,Z,Z,.inl ⟨_,Z,Z,Z⟩,Z,Z,.inl ⟨_,Z,Z,Z⟩,Z,Z,.inl ⟨_,Z,Z,Z⟩,Z,Z,.inl ⟨_,Z,Z,Z⟩,Z,U⟩ Z Z) Z) (bE H fun r43 h44 H=>zo (ql (jw r41.2 ([[72,84,84,80,47,49,46,48],[10],[58],[32,58],[],[32,32,47]]) r43 h44) Z ⟨.inl Z,U⟩ Z) Z (bE H fun r45 h46 H=>za (zj (y79 v35 r41.1 r43.1 1 r45 h46) ⟨.inl Z,.inl Z,.inl Z,.inl Z,U⟩) (qe Z ⟨(r45,r43.2.L,r43.2.at_),H,⟨Z,Z,U⟩,⟨Z,U⟩⟩)))))))))
    ·exact fE h40 H fun H=>zn ⟨(v35,r38.2.L,r38.2.at_),H,⟨Z,Z,U⟩,⟨Z,U⟩⟩
   ·rintro ⟨v47,c48,c49⟩ H
    replace H:Qv v47 c48 c49=some r:=H
    unfold Qv at H
    refine zh (zc hN Z (za (ze (.ptr _ _) Z) (za (yo (u':=vlst (List.map jp [0,0,1,2])) (wc [[_],[_],[_],[_]] z7f ⟨Z,.inl ⟨_,Z,Z,Z⟩,Z,Z,.inl ⟨_,Z,Z,Z⟩,Z,Z,.inl ⟨_,Z,Z,Z⟩,Z,Z,.inl ⟨_,Z,Z,Z⟩,Z,U⟩ Z Z) Z) (bE H fun r50 h51 H=>zo (ql (z82 (ya.mk c48 c49) [0,0,1,2] r50 h51) Z ⟨.inl Z,U⟩ Z) Z (qd Z (yc (gE H fun h57 H=>y3s (fun (k55:Nat) (s:Bs×(List Int)×Int)=>[(0,.ptr 0 0),(5,.dat (vstr s.1)),(62,.dat (vint r50.1)),(63,.dat (vint (k55:Int)))]) (fun (k55:Nat) (s:Bs×(List Int)×Int)=>[(0,.box (some bl) 25 [.dat (vlst (List.map jp s.2.1)),.dat (vint s.2.2)])]) (v47,r50.2.L,r50.2.at_) H ⟨Z,Z,Z,Z,U⟩ ⟨Z,U⟩ (fun _ _=>Z) ?_ ?_)))))))
    ·rintro ⟨v52,c53,c54⟩ H
     replace H:z6x v52 c53 c54=some r:=H
     unfold z6x at H
     refine zc hN Z (za (yg Z Z) (zh (zi _ Z (fun h=>(y12 h).elim) (fun h => ?_))))
     refine qj (zc hN Z (qd Z (za (ze (.ptr _ _) Z) (za (yo (u':=vlst (List.map ye [[],[],[109,111,114,101]])) (wc [[_],[_],[_]] wt ⟨Z,.inl ⟨_,Z,Z,Z⟩,Z,Z,.inl ⟨_,Z,Z,Z⟩,Z,Z,.inl ⟨_,Z,Z,Z⟩,Z,U⟩ Z Z) Z) (bE H fun r58 h59 H=>zo (ql (jw (ya.mk c53 c54) ([[],[],[109,111,114,101]]) r58 h59) Z ⟨.inl Z,U⟩ Z) Z (gE H fun h60 H=>za (yy Z Z (Nat.le_trans h60 (by decide))) (qe Z (zg ?_))))))))
     cases H
     exact ⟨U,⟨.inl Z,U⟩,Z⟩
    ·rintro k55 ⟨v52,c53,c54⟩ q56 h61 H hq56
     replace H:z6w k55 v52 c53 c54=some q56:=H
     unfold z6w at H
     refine zc hN Z (za (yg Z Z) (zh (zi _ Z (fun h => ?_) (fun h=>(y13 h61 h).elim))))
     exact zn (zh (yc (zq hN Z (za (ze (.ptr _ _) Z) (qd Z (bE H fun r62 h63 H=>zo (ql (y93 (ya.mk c53 c54) v52 [13,10,32,58,49,104] r62 h63) Z ⟨.inl Z,.inl Z,U⟩ Z) Z (qe Z (zq hN Z (za (wy Z Z (by omega)) (qd Z ⟨_,qr H,⟨Z,Z,Z,Z,U⟩,⟨Z,U⟩⟩))))))))))
theorem y77 (s1:Bs) (c2:Int) (r:(Bs)) (H:xw s1 c2=some r):Fn Tryz.prog 119 [vstr s1,vval (.int .u8 c2)] (zp [vstr r]):=by
 refine ⟨by kernel_rfl,zy (us:=[vstr r]) Tryz.func119 Z Z Z Z fun X hN => ?_⟩
 unfold xw at H
 refine zc hN Z (qe Z (zz (ι:=Bs) (fun i=>[(0,.dat (vstr i))]) (fun i=>[]) (fun i=>z16 i=some r) (fun i=>Z) ?_ ?_))
 ·skip
  refine yc (ki (fun (s:Bs)=>[(0,.dat (vstr s)),(1,.dat (vval (.int .u8 c2)))]) (fun (s:Bs)=>[]) s1 H ⟨Z,Z,U⟩ U (fun _=>Z) ?_)
  rintro s3 q4 H hq4
  replace H:z15 c2 s3=some q4:=H
  unfold z15 at H
  refine zh (zz (ι:=Bool) (fun i=>[(0,.dat (vstr s3)),(1,.dat (vval (.int .u8 c2))),(16,.dat (zf i))]) (fun i=>[]) (fun i=>Zx s3 i=some q4) (fun i=>Z) ?_ ?_)
  ·skip
   refine zq hN Z (qd Z (za (yi tyU9 Z) (za (qb Z Z) (qd Z (zu (j:=3) Z Z (fun h5 => ?_) (fun h5 => ?_) Z)))))
   ·exact u1 h5 H fun h6 H=>zd Z Z h5 (ze (.dat _) Z) (zd Z Z h5 (ze (.dat _) Z) (zd Z Z h5 (yi tyU9 Z) (zd Z Z h5 (yf _ Z Z (.inr (.inl ⟨Z,Z⟩))) (bE H fun x7 h8 H=>zd Z Z h5 (jf tyU9 Z Z h8) (zd Z Z h5 (ze (.dat _) Z) (zd Z Z h5 (yp Z Z) (za (zm Z (bTT h6) Z) ⟨decide ((x7.toNat:Int)=c2),H,⟨Z,Z,Z,U⟩,U⟩)))))))
   ·exact u2 h5 H fun h9 H=>zb Z Z h5 (zb Z Z h5 (zb Z Z h5 (zb Z Z h5 (zb Z Z h5 (zb Z Z h5 (zb Z Z h5 (za (zl Z (bFF h9) Z) ⟨false,H,⟨Z,Z,Z,U⟩,U⟩)))))))
  ·rintro v10 H
   replace H:Zx s3 v10=some q4:=H
   unfold Zx at H
   refine zi _ Z (fun h11 => ?_) (fun h11 => ?_)
   ·exact tE h11 H fun H=>zn (yc (zq hN Z (qd Z (qd Z (za (yi tyU9 Z) (za (yf _ Z Z (.inr (.inl ⟨Z,Z⟩))) (bE H fun l12 h13 H=>za (qf tyU9 Z Z Z h13) (qe Z ⟨_,qr H,⟨Z,Z,U⟩,U⟩))))))))
   ·refine fE h11 H fun H=>qj ?_
    replace H:=outl H hq4
    exact ⟨s3,H,⟨Z,U⟩,U⟩
 ·rintro s14 H
  replace H:z16 s14=some r:=H
  unfold z16 at H
  refine zc hN Z (qd Z (qe Z (zg ?_)))
  cases H
  exact ⟨U,.inl Z,U⟩
theorem y78 (s1:Bs) (c2:Int) (r:(Bs)) (H:Yj s1 c2=some r):Fn Tryz.prog 118 [vstr s1,vval (.int .u8 c2)] (zp [vstr r]):=by
 refine ⟨by kernel_rfl,zy (us:=[vstr r]) Tryz.func118 Z Z Z Z fun X hN => ?_⟩
 unfold Yj at H
 refine zc hN Z (qe Z (zz (ι:=Bs) (fun i=>[(0,.dat (vstr i))]) (fun i=>[]) (fun i=>z18 i=some r) (fun i=>Z) ?_ ?_))
 ·skip
  refine yc (ki (fun (s:Bs)=>[(0,.dat (vstr s)),(1,.dat (vval (.int .u8 c2)))]) (fun (s:Bs)=>[]) s1 H ⟨Z,Z,U⟩ U (fun _=>Z) ?_)
  rintro s3 q4 H hq4
  replace H:z17 c2 s3=some q4:=H
  unfold z17 at H
  refine zh (zz (ι:=Bool) (fun i=>[(0,.dat (vstr s3)),(1,.dat (vval (.int .u8 c2))),(13,.dat (zf i))]) (fun i=>[]) (fun i=>Zy s3 i=some q4) (fun i=>Z) ?_ ?_)
  ·skip
   refine zq hN Z (qd Z (za (yi tyU9 Z) (za (qb Z Z) (qd Z (zu (j:=3) Z Z (fun h5 => ?_) (fun h5 => ?_) Z)))))
   ·exact u1 h5 H fun h6 H=>zd Z Z h5 (ze (.dat _) Z) (bE H fun x7 h8 H=>zd Z Z h5 (qh tyU9 Z Z h8) (zd Z Z h5 (ze (.dat _) Z) (zd Z Z h5 (yp Z Z) (za (zm Z (bTT h6) Z) ⟨decide ((x7.toNat:Int)=c2),H,⟨Z,Z,Z,U⟩,U⟩))))
   ·exact u2 h5 H fun h9 H=>zb Z Z h5 (zb Z Z h5 (zb Z Z h5 (zb Z Z h5 (za (zl Z (bFF h9) Z) ⟨false,H,⟨Z,Z,Z,U⟩,U⟩))))
  ·rintro v10 H
   replace H:Zy s3 v10=some q4:=H
   unfold Zy at H
   refine zi _ Z (fun h11 => ?_) (fun h11 => ?_)
   ·exact tE h11 H fun H=>zn (yc (zq hN Z (qd Z (bE H fun l12 h13 H=>za (qf tyU9 Z Z Z h13) (qe Z ⟨_,qr H,⟨Z,Z,U⟩,U⟩)))))
   ·refine fE h11 H fun H=>qj ?_
    replace H:=outl H hq4
    exact ⟨s3,H,⟨Z,U⟩,U⟩
 ·rintro s14 H
  replace H:z18 s14=some r:=H
  unfold z18 at H
  refine zc hN Z (qd Z (qe Z (zg ?_)))
  cases H
  exact ⟨U,.inl Z,U⟩
end Go.Proofs.YtbcmpepmafpibabGreatDoor
