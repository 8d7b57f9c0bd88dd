/- Walks along the models. Printed by a program. -/
import Derived.Test.YtnnfdgngnoamoaaGreatDoorXbw4
namespace Go.Proofs.YtnnfdgngnoamoaaGreatDoor
open Go.RowKit
set_option linter.unusedVariables false
set_option maxRecDepth 100000
set_option maxHeartbeats 2000000
theorem w1q (x1:(List zm)) (p1:zm→zm→Option (Int)) (fv1:Nat) (us1:List V) (hp1:∀ a0 a1 r,p1 a0 a1=some r→Fn Tryz.prog fv1 ([vagg (wg a0),vagg (wg a1)]++us1) (yc [vint r])) (r:((List zm))) (H:z7x x1 p1=some r):FnG Tryz.prog 42 [.row 0 x1.length,.dat (vfn fv1 us1)] [(0,.rowA undef 50 4 (List.map wg x1))] (.dat (yc [])) [(0,.rowA undef 50 4 (List.map wg r))]:=by
 refine uv (by kernel_rfl) Tryz.func42 Z Z Z Z fun X A hN => ?_
 unfold z7x at H
 refine zc hN Z (za (zg (.row _ _) Z) (ze (y0w Qk Z Z) Z (qe Z (zq hN Z (za (zg (.row _ _) Z) (qd Z (qd Z (za (xp tyU3 Ql Z) (bE H fun r2 h3 H=>za (yb (x3m (IntKind.wrap .u64 (x1.length:Int)) r2 h3) ⟨.inl Z,U⟩) (qd Z (bE H fun r4 h5 H=>gE H fun h6 H=>ue (rn [(0,0)]) [(0,_,_,some _)] [] (w1k x1 0 (x1.length:Int) r2 p1 fv1 us1 hp1 r4 h5) ⟨Z,U⟩ ⟨.inl (.inl Z),.inl (.inl Z),.inl (.inl Z),.inl (.inl Z),.inl (.inl Z),U⟩ ⟨⟨⟨Z,Z,Z⟩,by simp [uc,h6]⟩,U⟩ Z ?_)))))))))))
 have eH:r4=r:=Option.some.inj H
 subst eH
 exact ⟨U,[],U,⟨Z,U⟩,Z,.inl ⟨[],U,Z⟩⟩
theorem w2s (a1:zu) (b2:zu) (r:(Int)) (H:Qx a1 b2=some r):Fn Tryz.prog 64 [vagg (we a1),vagg (we b2)] (yc [vint r]):=by
 refine ⟨by kernel_rfl,yl (us:=[vint r]) Tryz.func64 Z Z Z Z fun X hN => ?_⟩
 unfold Qx at H
 refine zc hN Z (zd (qr 1 Z) Z (zd (qr 2 Z) Z (qe Z (zf (wl mixed hN Z Z (za (zj z6u Z) (ze (zl tyS9 Z Z) Z (za (zj z6u Z) (ze (zl tyS9 Z Z) Z (bE H fun r3 h4 H=>za (yb (Yz a1.app_ b2.app_ r3 h4) ⟨.inl Z,.inl Z,U⟩) (za (zj y0r Z) (ze (zl tyS9 Z Z) Z (za (zj y0r Z) (ze (zl tyS9 Z Z) Z (bE H fun r5 h6 H=>za (yb (Yz a1.product_ b2.product_ r5 h6) ⟨.inl Z,.inl Z,U⟩) (za (yf (u':=vlst (List.map qn [r3,r5])) (qa [[_],[_]] vx ⟨Z,.inl ⟨_,Z,Z,Z⟩,Z,Z,.inl ⟨_,Z,Z,Z⟩,Z,U⟩ Z Z) Z) (bE H fun r7 h8 H=>za (yb (y7v [r3,r5] r7 h8) ⟨.inl Z,U⟩) (qe Z ⟨Z,?_⟩))))))))))))))))))
 refine zn ?_
 cases H
 exact ⟨U,.inl Z,U⟩
theorem w3q (a1:zm) (b2:zm) (r:(Int)) (H:z2i a1 b2=some r):Fn Tryz.prog 43 [vagg (wg a1),vagg (wg b2)] (yc [vint r]):=by
 refine ⟨by kernel_rfl,yl (us:=[vint r]) Tryz.func43 Z Z Z Z fun X hN => ?_⟩
 unfold z2i at H
 refine zc hN Z (zd (qr 1 Z) Z (zd (qr 2 Z) Z (qe Z (zc hN Z (za (zj z3r Z) (ze (zl tyS9 Z Z) Z (za (zj z3r Z) (ze (zl tyS9 Z Z) Z (bE H fun r3 h4 H=>za (yb (Yz a1.Owner b2.Owner r3 h4) ⟨.inl Z,.inl Z,U⟩) (qe Z (zn ?_)))))))))))
 cases H
 exact ⟨U,.inl Z,U⟩
theorem y7u (x1:Int) (n2:Int) (r:(Int)) (H:z2k x1 n2=some r):Fn Tryz.prog 58 [vint x1,vint n2] (yc [vint r]):=by
 refine ⟨by kernel_rfl,yl (us:=[vint r]) Tryz.func58 Z Z Z Z fun X hN => ?_⟩
 unfold z2k at H
 refine zc hN Z (qe Z (zf (zc hN Z (qd Z (za (ye Z Z) (zi _ Z (fun h3 => ?_) (fun h3 => ?_)))))))
 ·refine tE h3 H fun H=>zc hN Z (qe Z (zn ?_))
  cases H
  exact ⟨U,.inl Z,U⟩
 ·refine fE h3 H fun H=>zp (zc hN Z (qd Z (qd Z (gE H fun h4 H=>za (y46 Z Z h4) (qe Z (yw (ι:=Int) (fun i=>[(0,.dat (vint i))]) (fun i=>[]) (fun i=>z5w i=some r) (fun i=>Z) ?_ ?_))))))
  ·skip
   refine zc hN Z (qd Z (za (ye Z Z) (zi _ Z (fun h5 => ?_) (fun h5 => ?_))))
   ·exact tE h5 H fun H=>zq hN Z (qd Z (qd Z (za (yj _ Z Z (.inl ⟨Z,Z⟩)) (qe Z ⟨wr ((Int.tmod x1 n2)+n2),H,⟨Z,U⟩,U⟩))))
   ·exact fE h5 H fun H=>zp ⟨(Int.tmod x1 n2),H,⟨Z,U⟩,U⟩
  ·rintro x6 H
   replace H:z5w x6=some r:=H
   unfold z5w at H
   refine zc hN Z (qd Z (qe Z (zn ?_)))
   cases H
   exact ⟨U,.inl Z,U⟩
theorem Qb (s1:zt) (n2:Int) (r:(Int×zt)) (H:xe s1 n2=some r):Imp Tryz.prog 22 25 (qz s1) [vint n2] (yc [vint r.1]) (qz r.2):=by
 refine kx (us:=[vint r.1]) (cs':=(qz r.2)) (by kernel_rfl) Tryz.func22 Z Z Z Z fun X bl hN => ?_
 unfold xe at H
 refine zc hN Z (qe Z (zc hN Z (za (zg (.ptr _ _) Z) (za (jc Z) (za (zj z6s Z) (ze (zl tyS3 Z Z) Z (za (yj _ Z Z (.inl ⟨Z,Z⟩)) (za (jc Z) (za (zj z6s Z) (zd (wv tyS3 Z Z Z Z) Z (zf (zc hN Z (za (zg (.ptr _ _) Z) (za (jc Z) (za (zj y0q Z) (ze (zl y0h Z Z) Z (za (yu z6j Z) (za (qc Z Z) (zi _ Z (fun h3 => ?_) (fun h3 => ?_))))))))))))))))))))
 ·refine tE h3 H fun H=>zc hN Z (za (zg (.ptr _ _) Z) (za (jc Z) (za (zj z6s Z) (ze (zl tyS3 Z Z) Z (za (yj _ Z Z (.inr (.inr ⟨Z,Z⟩))) (qd Z (bE H fun r4 h5 H=>za (yb (y7u (wr ((wr (s1.at_+1)) * 7919)) n2 r4 h5) ⟨.inl Z,.inl Z,U⟩) (qe Z (zn ?_)))))))))
  cases H
  exact ⟨U,⟨.inl Z,U⟩,Z⟩
 ·refine fE h3 H fun H=>zp (zf (wl mixed hN Z Z (za (zg (.ptr _ _) Z) (za (jc Z) (za (zj z6s Z) (ze (zl tyS3 Z Z) Z (za (yj _ Z Z (.inr (.inl ⟨Z,Z⟩))) (za (zg (.ptr _ _) Z) (za (jc Z) (za (zj y0q Z) (ze (zl y0h Z Z) Z (za (yu z6j Z) (gE H fun h6 H=>za (y46 Z Z h6) (qe Z ⟨Z,?_⟩))))))))))))))
  refine zf (wl mixed hN Z Z (za (zg (.ptr _ _) Z) (za (jc Z) (za (zj z6s Z) (ze (zl tyS3 Z Z) Z (za (yj _ Z Z (.inr (.inl ⟨Z,Z⟩))) (za (zg (.ptr _ _) Z) (za (jc Z) (za (zj y0q Z) (ze (zl y0h Z Z) Z (za (yu z6j Z) (gE H fun h7 H=>za (Qs Z Z h7.1 h7.2) (qe Z ⟨Z,?_⟩)))))))))))))
  refine zc hN Z (za (zg (.ptr _ _) Z) (za (jc Z) (za (zj y0q Z) (ze (zl y0h Z Z) Z (qd Z (bE H fun x8 h9 H=>za (ja y40 (fun _=>Z) Z Z h9) (za (wy tyS3 Z (qg (qi h9).2) Z) (bE H fun r10 h11 H=>za (yb (y7u x8 1073741824 r10 h11) ⟨.inl Z,.inl Z,U⟩) (qd Z (qd Z (za (yj _ Z Z (.inl ⟨Z,Z⟩)) (za (yj _ Z Z (.inr (.inr ⟨Z,Z⟩))) (za (yj _ Z Z (.inl ⟨Z,Z⟩)) (qd Z (bE H fun r12 h13 H=>za (yb (y7u (wr (r10+(wr (((wr ((wr (s1.at_+1)) - 1)) / (s1.L.length:Int)) * (wr (7919+(Int.tmod (wr ((wr (s1.at_+1)) - 1)) (s1.L.length:Int)))))))) n2 r12 h13) ⟨.inl Z,.inl Z,U⟩) (qe Z (zn ?_)))))))))))))))))
  cases H
  exact ⟨U,⟨.inl Z,U⟩,Z⟩
theorem kw (s1:zt) (n2:Int) (r:(Bool×zt)) (H:ki s1 n2=some r):Imp Tryz.prog 24 25 (qz s1) [vint n2] (yc [zr r.1]) (qz r.2):=by
 refine kx (us:=[zr r.1]) (cs':=(qz r.2)) (by kernel_rfl) Tryz.func24 Z Z Z Z fun X bl hN => ?_
 unfold ki at H
 refine zc hN Z (qe Z (zc hN Z (za (zg (.ptr _ _) Z) (qd Z (bE H fun r3 h4 H=>zd (yo (Qb s1 n2 r3 h4) Z ⟨.inl Z,U⟩ Z) Z (za (qc Z Z) (qe Z (zn ?_))))))))
 cases H
 exact ⟨U,⟨.inl Z,U⟩,Z⟩
theorem kj (s1:zt) (l2:(List Bs)) (r:(Bs×zt)) (H:jx s1 l2=some r):Imp Tryz.prog 25 25 (qz s1) [vlst (List.map yr l2)] (yc [vstr r.1]) (qz r.2):=by
 refine kx (us:=[vstr r.1]) (cs':=(qz r.2)) (by kernel_rfl) Tryz.func25 Z Z Z Z fun X bl hN => ?_
 unfold jx at H
 refine zc hN Z (qe Z (zc hN Z (qd Z (za (zg (.ptr _ _) Z) (qd Z (za (yu js Z) (bE H fun r3 h4 H=>zd (yo (Qb s1 (l2.length:Int) r3 h4) Z ⟨.inl Z,U⟩ Z) Z (bE H fun x5 h6 H=>za (ja Zg (fun _=>Z) Z Z h6) (za (wy tyS9 Z (qg (qi h6).2) Z) (qe Z (zn ?_)))))))))))
 cases H
 exact ⟨U,⟨.inl Z,U⟩,Z⟩
theorem jo (s1:zt) (l2:(List Int)) (r:(Int×zt)) (H:kb s1 l2=some r):Imp Tryz.prog 7 25 (qz s1) [vlst (List.map qn l2)] (yc [vint r.1]) (qz r.2):=by
 refine kx (us:=[vint r.1]) (cs':=(qz r.2)) (by kernel_rfl) Tryz.func7 Z Z Z Z fun X bl hN => ?_
 unfold kb at H
 refine zc hN Z (qe Z (zc hN Z (qd Z (za (zg (.ptr _ _) Z) (qd Z (za (yu z6j Z) (bE H fun r3 h4 H=>zd (yo (Qb s1 (l2.length:Int) r3 h4) Z ⟨.inl Z,U⟩ Z) Z (bE H fun x5 h6 H=>za (ja y40 (fun _=>Z) Z Z h6) (za (wy tyS3 Z (qg (qi h6).2) Z) (qe Z (zn ?_)))))))))))
 cases H
 exact ⟨U,⟨.inl Z,U⟩,Z⟩
theorem z9e (s1:zt) (low2:Int) (high3:Int) (r:(Int×zt)) (H:z0y s1 low2 high3=some r):Imp Tryz.prog 5 25 (qz s1) [vint low2,vint high3] (yc [vint r.1]) (qz r.2):=by
 refine kx (us:=[vint r.1]) (cs':=(qz r.2)) (by kernel_rfl) Tryz.func5 Z Z Z Z fun X bl hN => ?_
 unfold z0y at H
 refine zc hN Z (qe Z (zf (zc hN Z (qd Z (qd Z (za (ye Z Z) (zi _ Z (fun h4 => ?_) (fun h4 => ?_))))))))
 ·refine tE h4 H fun H=>zc hN Z (qd Z (qe Z (zn ?_)))
  cases H
  exact ⟨U,⟨.inl Z,U⟩,Z⟩
 ·refine fE h4 H fun H=>zp (zc hN Z (qd Z (za (zg (.ptr _ _) Z) (qd Z (qd Z (za (yj _ Z Z (.inr (.inl ⟨Z,Z⟩))) (za (yj _ Z Z (.inl ⟨Z,Z⟩)) (bE H fun r5 h6 H=>zd (yo (Qb s1 (wr ((wr (high3 - low2))+1)) r5 h6) Z ⟨.inl Z,U⟩ Z) Z (za (yj _ Z Z (.inl ⟨Z,Z⟩)) (qe Z (zn ?_)))))))))))
  cases H
  exact ⟨U,⟨.inl Z,U⟩,Z⟩
theorem Qa (s1:zt) (low2:Int) (high3:Int) (r:(Int×zt)) (H:xd s1 low2 high3=some r):Imp Tryz.prog 26 25 (qz s1) [vint low2,vint high3] (yc [vint r.1]) (qz r.2):=by
 refine kx (us:=[vint r.1]) (cs':=(qz r.2)) (by kernel_rfl) Tryz.func26 Z Z Z Z fun X bl hN => ?_
 unfold xd at H
 refine zc hN Z (qe Z (zf (zc hN Z (za (zg (.ptr _ _) Z) (bE H fun r4 h5 H=>zd (yo (kw s1 12 r4 h5) Z ⟨.inl Z,U⟩ Z) Z (zi _ Z (fun h6 => ?_) (fun h6 => ?_)))))))
 ·refine tE h6 H fun H=>zc hN Z (za (zg (.ptr _ _) Z) (qd Z (za (yj _ Z Z (.inr (.inl ⟨Z,Z⟩))) (qd Z (za (yj _ Z Z (.inl ⟨Z,Z⟩)) (qd Z (qd Z (za (yf (u':=vlst (List.map qn [wr (low2 - 1),wr (high3+1),low2,high3,(-1099511627776),1099511627776])) (qa [[_],[_],[_],[_],[_],[_]] vx ⟨Z,.inl ⟨_,Z,Z,Z⟩,Z,Z,.inl ⟨_,Z,Z,Z⟩,Z,Z,.inl ⟨_,Z,Z,Z⟩,Z,Z,.inl ⟨_,Z,Z,Z⟩,Z,Z,.inl ⟨_,Z,Z,Z⟩,Z,Z,.inl ⟨_,Z,Z,Z⟩,Z,U⟩ Z Z) Z) (bE H fun r7 h8 H=>zd (yo (jo r4.2 [wr (low2 - 1),wr (high3+1),low2,high3,(-1099511627776),1099511627776] r7 h8) Z ⟨.inl Z,U⟩ Z) Z (qe Z (zn ?_)))))))))))
  cases H
  exact ⟨U,⟨.inl Z,U⟩,Z⟩
 ·refine fE h6 H fun H=>zp (zc hN Z (za (zg (.ptr _ _) Z) (qd Z (qd Z (bE H fun r9 h10 H=>zd (yo (z9e r4.2 low2 high3 r9 h10) Z ⟨.inl Z,.inl Z,U⟩ Z) Z (qe Z (zn ?_)))))))
  cases H
  exact ⟨U,⟨.inl Z,U⟩,Z⟩
theorem x3u (s1:zt) (r:((List Bs)×zt)) (H:z0x s1=some r):Imp Tryz.prog 87 25 (qz s1) [] (yc [vlst (List.map yr r.1)]) (qz r.2):=by
 refine kx (us:=[vlst (List.map yr r.1)]) (cs':=(qz r.2)) (by kernel_rfl) Tryz.func87 Z Z Z Z fun X bl hN => ?_
 unfold z0x at H
 refine zc hN Z (qe Z (zc hN Z (qe Z (zf (zc hN Z (za (zg (.ptr _ _) Z) (bE H fun r2 h3 H=>zd (yo (z9e s1 0 4 r2 h3) Z ⟨.inl Z,.inl Z,U⟩ Z) Z (qd Z (yd (Qg 3 1 9 1 Z Z Z (gE H fun h9 H=>z58 (fun (k7:Nat) (s:(List Int)×Int×(List Bs))=>[(0,.ptr 0 0),(3,.row 1 s.2.2.length),(5,.dat (vint r2.1)),(6,.dat (vint (k7:Int)))]) (fun (k7:Nat) (s:(List Int)×Int×(List Bs))=>[(0,.box (some bl) 25 [.dat (vlst (List.map qn s.1)),.dat (vint s.2.1)]),(1,.row 9 1 (List.map yr s.2.2))]) (r2.2.L,r2.2.at_,[]) H ⟨Z,Z,Z,Z,U⟩ ⟨Z,Z,U⟩ (fun _ _=>Z) ?_ ?_)))))))))))
 ·rintro ⟨c4,c5,l6⟩ H
  replace H:z9p c4 c5 l6=some r:=H
  unfold z9p at H
  refine zc hN Z (za (ye Z Z) (zf (zi _ Z (fun h=>(z85 h).elim) (fun h => ?_))))
  refine qk (zc hN Z (za (zg (.row _ _) Z) (za (qy (.row _ _) Z) (zn ?_))))
  cases H
  exact ⟨U,⟨xn Z Z,U⟩,Z⟩
 ·rintro k7 ⟨c4,c5,l6⟩ q8 h10 H hq8
  replace H:z5o k7 c4 c5 l6=some q8:=H
  unfold z5o at H
  refine zc hN Z (za (ye Z Z) (zf (zi _ Z (fun h => ?_) (fun h=>(z86 h10 h).elim))))
  refine zp (zf (yd (zq hN Z (za (zg (.row _ _) Z) (za (zg (.ptr _ _) Z) (za (yf (u':=vlst (List.map yr [[97],[97,58,42],[97,58,98],[97,58,98,58,42],[97,58,98,58,99],[98],[98,58,42],[98,58,99],[42]])) (qa [[_],[_],[_],[_],[_],[_],[_],[_],[_]] vh ⟨Z,.inl ⟨_,Z,Z,Z⟩,Z,Z,.inl ⟨_,Z,Z,Z⟩,Z,Z,.inl ⟨_,Z,Z,Z⟩,Z,Z,.inl ⟨_,Z,Z,Z⟩,Z,Z,.inl ⟨_,Z,Z,Z⟩,Z,Z,.inl ⟨_,Z,Z,Z⟩,Z,Z,.inl ⟨_,Z,Z,Z⟩,Z,Z,.inl ⟨_,Z,Z,Z⟩,Z,Z,.inl ⟨_,Z,Z,Z⟩,Z,U⟩ Z Z) Z) (bE H fun r11 h12 H=>zd (yo (kj (zt.mk c4 c5) ([[97],[97,58,42],[97,58,98],[97,58,98,58,42],[97,58,98,58,99],[98],[98,58,42],[98,58,99],[42]]) r11 h12) Z ⟨.inl Z,U⟩ Z) Z (za (yf (u':=vlst (List.map yr [r11.1])) (qa [[_]] vh ⟨Z,.inl ⟨_,Z,Z,Z⟩,Z,U⟩ Z Z) Z) (gE H fun h13 H=>zd (je vh (fun _=>Z) Z Z Z ⟨by simp,by first | (simp; done) | simpa using h13⟩ Z) Z ?_)))))))))
  exact za (qy (.row _ _) Z) (zq hN Z (za (wa Z Z (by omega)) (qd Z ⟨_,qj H,⟨Z,Z,Z,Z,U⟩,⟨Z,Z,U⟩⟩)))
theorem w13 (s:Bs) (n:Int) (r:Bs) (H:z7w s n=some r):Fn Tryz.prog 133 [vstr s,vint n] (yc [vstr r]):=by
 obtain ⟨h0,h1,h2,rfl⟩:=x9y H
 obtain ⟨c,rfl⟩:=Int.eq_ofNat_of_zero_le h0
 refine y8h (by kernel_rfl) fun M w vs h => ?_
 have hv:=y4l (us:=[.string ⟨s.toArray⟩,.int .i64 c]) h
 subst hv
 have hs:(ByteArray.mk s.toArray).size=s.length:=by simp [ByteArray.size]
 refine (Tryz.strings_Repeat ⟨s.toArray⟩ c w (by omega) (by rw [hs]; exact Nat.le_trans (Nat.mul_le_mul h2 (show c≤1000000 by omega)) (by decide))).mono ?_
 rintro e w' ⟨rfl,hb⟩
 exact ⟨_,Z,by simp [yc,vstr,vval],Kp.of_below hb⟩
theorem w3w (s1:zt) (r:(Bs×zt)) (H:z8s s1=some r):Imp Tryz.prog 88 25 (qz s1) [] (yc [vstr r.1]) (qz r.2):=by
 refine kx (us:=[vstr r.1]) (cs':=(qz r.2)) (by kernel_rfl) Tryz.func88 Z Z Z Z fun X bl hN => ?_
 unfold z8s at H
 refine zc hN Z (qe Z (zf (zc hN Z (za (zg (.ptr _ _) Z) (bE H fun r2 h3 H=>zd (yo (kw s1 25 r2 h3) Z ⟨.inl Z,U⟩ Z) Z (zi _ Z (fun h4 => ?_) (fun h4 => ?_)))))))
 ·refine tE h4 H fun H=>zc hN Z (za (zg (.ptr _ _) Z) (bE H fun r5 h6 H=>za (yb (w13 [97,58] 10 r5 h6) ⟨.inl Z,.inl Z,U⟩) (gE H fun h7 H=>za (x7w Z Z (Nat.le_trans h7 (by decide))) (za (yf (u':=vlst (List.map yr [[],[97,58,42,58,98],[65],[97,58,58,98],[97,58],[42,42],[97,42],(r5++[97])])) (qa [[_],[_],[_],[_],[_],[_],[_],[_]] vh ⟨Z,.inl ⟨_,Z,Z,Z⟩,Z,Z,.inl ⟨_,Z,Z,Z⟩,Z,Z,.inl ⟨_,Z,Z,Z⟩,Z,Z,.inl ⟨_,Z,Z,Z⟩,Z,Z,.inl ⟨_,Z,Z,Z⟩,Z,Z,.inl ⟨_,Z,Z,Z⟩,Z,Z,.inl ⟨_,Z,Z,Z⟩,Z,Z,.inl ⟨_,Z,Z,Z⟩,Z,U⟩ Z Z) Z) (bE H fun r8 h9 H=>zd (yo (kj r2.2 ([[],[97,58,42,58,98],[65],[97,58,58,98],[97,58],[42,42],[97,42],(r5++[97])]) r8 h9) Z ⟨.inl Z,U⟩ Z) Z (qe Z (zn ?_)))))))
  cases H
  exact ⟨U,⟨.inl Z,U⟩,Z⟩
 ·refine fE h4 H fun H=>zp (zc hN Z (za (zg (.ptr _ _) Z) (za (yf (u':=vlst (List.map yr [[42],[97],[97,58,42],[97,58,98],[97,58,98,58,42],[97,58,98,58,99],[98],[98,58,42],[98,58,99],[99]])) (qa [[_],[_],[_],[_],[_],[_],[_],[_],[_],[_]] vh ⟨Z,.inl ⟨_,Z,Z,Z⟩,Z,Z,.inl ⟨_,Z,Z,Z⟩,Z,Z,.inl ⟨_,Z,Z,Z⟩,Z,Z,.inl ⟨_,Z,Z,Z⟩,Z,Z,.inl ⟨_,Z,Z,Z⟩,Z,Z,.inl ⟨_,Z,Z,Z⟩,Z,Z,.inl ⟨_,Z,Z,Z⟩,Z,Z,.inl ⟨_,Z,Z,Z⟩,Z,Z,.inl ⟨_,Z,Z,Z⟩,Z,Z,.inl ⟨_,Z,Z,Z⟩,Z,U⟩ Z Z) Z) (bE H fun r10 h11 H=>zd (yo (kj r2.2 ([[42],[97],[97,58,42],[97,58,98],[97,58,98,58,42],[97,58,98,58,99],[98],[98,58,42],[98,58,99],[99]]) r10 h11) Z ⟨.inl Z,U⟩ Z) Z (qe Z (zn ?_))))))
  cases H
  exact ⟨U,⟨.inl Z,U⟩,Z⟩
theorem w1u (s1:zt) (r:((List Bs)×zt)) (H:z0x s1=some r):FnG Tryz.prog 87 [.ptr 0 0] [(0,.box (some 0) 25 (List.map .dat (qz s1)))] (.row 1 r.1.length) [(0,.box (some 0) 25 (List.map .dat (qz r.2))),(1,.row 9 1 (List.map yr r.1))]:=by
 refine uv (by kernel_rfl) Tryz.func87 Z Z Z Z fun X A hN => ?_
 unfold z0x at H
 refine zc hN Z (qe Z (zc hN Z (qe Z (zf (zc hN Z (za (zg (.ptr _ _) Z) (bE H fun r2 h3 H=>zd (yo (z9e s1 0 4 r2 h3) Z ⟨.inl Z,.inl Z,U⟩ Z) Z (qd Z (yd (Qg 3 1 9 1 Z Z Z (gE H fun h9 H=>z58 (fun (k7:Nat) (s:(List Int)×Int×(List Bs))=>[(0,.ptr 0 0),(3,.row 1 s.2.2.length),(5,.dat (vint r2.1)),(6,.dat (vint (k7:Int)))]) (fun (k7:Nat) (s:(List Int)×Int×(List Bs))=>[(0,.box (some (A.bl 0)) 25 [.dat (vlst (List.map qn s.1)),.dat (vint s.2.1)]),(1,.row 9 1 (List.map yr s.2.2))]) (r2.2.L,r2.2.at_,[]) H ⟨Z,Z,Z,Z,U⟩ ⟨Z,Z,U⟩ (fun _ _=>Z) ?_ ?_)))))))))))
 ·rintro ⟨c4,c5,l6⟩ H
  replace H:z9p c4 c5 l6=some r:=H
  unfold z9p at H
  refine zc hN Z (za (ye Z Z) (zf (zi _ Z (fun h=>(z85 h).elim) (fun h => ?_))))
  refine qk (zc hN Z (za (zg (.row _ _) Z) (za (qy (.row _ _) Z) (zn ?_))))
  cases H
  exact ⟨U,[(2,.row 1 _)],⟨Z,U⟩,⟨Z,Z,U⟩,Z,.inr (.inl ⟨2,Z,Z⟩)⟩
 ·rintro k7 ⟨c4,c5,l6⟩ q8 h10 H hq8
  replace H:z5o k7 c4 c5 l6=some q8:=H
  unfold z5o at H
  refine zc hN Z (za (ye Z Z) (zf (zi _ Z (fun h => ?_) (fun h=>(z86 h10 h).elim))))
  refine zp (zf (yd (zq hN Z (za (zg (.row _ _) Z) (za (zg (.ptr _ _) Z) (za (yf (u':=vlst (List.map yr [[97],[97,58,42],[97,58,98],[97,58,98,58,42],[97,58,98,58,99],[98],[98,58,42],[98,58,99],[42]])) (qa [[_],[_],[_],[_],[_],[_],[_],[_],[_]] vh ⟨Z,.inl ⟨_,Z,Z,Z⟩,Z,Z,.inl ⟨_,Z,Z,Z⟩,Z,Z,.inl ⟨_,Z,Z,Z⟩,Z,Z,.inl ⟨_,Z,Z,Z⟩,Z,Z,.inl ⟨_,Z,Z,Z⟩,Z,Z,.inl ⟨_,Z,Z,Z⟩,Z,Z,.inl ⟨_,Z,Z,Z⟩,Z,Z,.inl ⟨_,Z,Z,Z⟩,Z,Z,.inl ⟨_,Z,Z,Z⟩,Z,U⟩ Z Z) Z) (bE H fun r11 h12 H=>zd (yo (kj (zt.mk c4 c5) ([[97],[97,58,42],[97,58,98],[97,58,98,58,42],[97,58,98,58,99],[98],[98,58,42],[98,58,99],[42]]) r11 h12) Z ⟨.inl Z,U⟩ Z) Z (za (yf (u':=vlst (List.map yr [r11.1])) (qa [[_]] vh ⟨Z,.inl ⟨_,Z,Z,Z⟩,Z,U⟩ Z Z) Z) (gE H fun h13 H=>zd (je vh (fun _=>Z) Z Z Z ⟨by simp,by first | (simp; done) | simpa using h13⟩ Z) Z ?_)))))))))
  exact za (qy (.row _ _) Z) (zq hN Z (za (wa Z Z (by omega)) (qd Z ⟨_,qj H,⟨Z,Z,Z,Z,U⟩,⟨Z,Z,U⟩⟩)))
theorem w3v (s1:zt) (r:((List Bs)×zt)) (H:z8r s1=some r):Imp Tryz.prog 46 25 (qz s1) [] (yc [vlst (List.map yr r.1)]) (qz r.2):=by
 refine kx (us:=[vlst (List.map yr r.1)]) (cs':=(qz r.2)) (by kernel_rfl) Tryz.func46 Z Z Z Z fun X bl hN => ?_
 unfold z8r at H
 refine zc hN Z (qe Z (zc hN Z (za (zg (.ptr _ _) Z) (bE H fun r2 h3 H=>ue (rn [(0,0),(1,1)]) [(0,_,_,some _)] [(1,_)] (w1u s1 r2 h3) ⟨Z,Z,U⟩ ⟨.inl (.inl Z),U⟩ ⟨⟨⟨Z,Z⟩,U⟩,U⟩ Z (za (qy (.row _ _) Z) (yw (ι:=(List Bs)×(List Int)×Int) (fun i=>[(0,.ptr 0 0),(3,.row 1 i.1.length)]) (fun i=>[(0,.box (some bl) 25 [.dat (vlst (List.map qn i.2.1)),.dat (vint i.2.2)]),(1,.row 9 1 (List.map yr i.1))]) (fun i=>z26 i.1 i.2.1 i.2.2=some r) (fun i=>Z) ?_ ?_))))))
 ·skip
  refine zc hN Z (za (zg (.ptr _ _) Z) (bE H fun r4 h5 H=>zd (yo (kw r2.2 6 r4 h5) Z ⟨.inl Z,U⟩ Z) Z (zi _ Z (fun h6 => ?_) (fun h6 => ?_))))
  ·refine tE h6 H fun H=>zq hN Z (za (zg (.row _ _) Z) (za (zg (.ptr _ _) Z) (bE H fun r7 h8 H=>zd (yo (w3w r4.2 r7 h8) Z U Z) Z (za (yf (u':=vlst (List.map yr [r7.1])) (qa [[_]] vh ⟨Z,.inl ⟨_,Z,Z,Z⟩,Z,U⟩ Z Z) Z) (gE H fun h9 H=>zd (je vh (fun _=>Z) Z Z Z ⟨by simp,by first | (simp; done) | simpa using h9⟩ Z) Z ?_)))))
   exact za (qy (.row _ _) Z) ⟨((r2.1++[r7.1]),r7.2.L,r7.2.at_),H,⟨Z,Z,U⟩,⟨Z,Z,U⟩⟩
  ·exact fE h6 H fun H=>zp ⟨(r2.1,r4.2.L,r4.2.at_),H,⟨Z,Z,U⟩,⟨Z,Z,U⟩⟩
 ·rintro ⟨out10,c11,c12⟩ H
  replace H:z26 out10 c11 c12=some r:=H
  unfold z26 at H
  refine w64 (ι:=(List Bs)×(List Int)×Int) (fun i=>[(3,.dat (vlst (List.map yr i.1)))]) (fun i=>[(0,.box (some bl) 25 [.dat (vlst (List.map qn i.2.1)),.dat (vint i.2.2)])]) (fun i=>z5m i.1 i.2.1 i.2.2=some r) (fun i=>Z) (fun i=>Z) ?_ ?_
  ·skip
   refine zc hN Z (za (zg (.ptr _ _) Z) (bE H fun r13 h14 H=>zd (yo (kw (zt.mk c11 c12) 60 r13 h14) Z ⟨.inl Z,U⟩ Z) Z (zi _ Z (fun h15 => ?_) (fun h15 => ?_))))
   ·exact tE h15 H fun H=>zq hN Z (gE H fun h16 H=>zd (x69 (C:=yr) 2 [] vh tyZ9 Z Z Z Z h16 Z) Z (za (qy (.row _ _) Z) ⟨[(3,2)],_,_,_,_,Z,Z,by simp,⟨((List.replicate 51 []),r13.2.L,r13.2.at_),H,⟨.inl Z,U⟩,⟨Z,U⟩⟩⟩))
   ·exact fE h15 H fun H=>zp ⟨[(3,1)],_,_,_,_,Z,Z,by simp,⟨(out10,r13.2.L,r13.2.at_),H,⟨.inl Z,U⟩,⟨Z,U⟩⟩⟩
  ·rintro ⟨out17,c18,c19⟩ H
   replace H:z5m out17 c18 c19=some r:=H
   unfold z5m at H
   refine zc hN Z (qd Z (qe Z (zn ?_)))
   cases H
   exact ⟨U,⟨.inl Z,U⟩,Z⟩
theorem x3v (s1:zt) (r:(zx×zt)) (H:z2j s1=some r):Imp Tryz.prog 45 25 (qz s1) [] (yc [vagg (yy r.1)]) (qz r.2):=by
 refine kx (us:=[vagg (yy r.1)]) (cs':=(qz r.2)) (by kernel_rfl) Tryz.func45 Z Z Z Z fun X bl hN => ?_
 unfold z2j at H
 refine zc hN Z (zd (qf 1 kn Z) Z (zc hN Z (za (zg (.ptr _ _) Z) (bE H fun r2 h3 H=>zd (yo (x3u s1 r2 h3) Z U Z) Z (za (yf (u':=vagg (yt (yh.mk [109,97,112,115] r2.1))) (vj [(0,[vstr [109,97,112,115]]),(1,[vlst (List.map yr r2.1)])] Qi z3o Z ⟨Z,.inl ⟨_,Z,Z,Z⟩,Z,Z,.inl ⟨_,Z,Z,Z⟩,Z,U⟩) Z) (za (yf (u':=vlst (List.map yr [[111,114,100,101,114,115]])) (qa [[_]] vh ⟨Z,.inl ⟨_,Z,Z,Z⟩,Z,U⟩ Z Z) Z) (za (yf (u':=vagg (yt (yh.mk [115,104,111,112] ([[111,114,100,101,114,115]])))) (vj [(0,[vstr [115,104,111,112]]),(1,[vlst (List.map yr ([[111,114,100,101,114,115]]))])] Qi z3o Z ⟨Z,.inl ⟨_,Z,Z,Z⟩,Z,Z,.inl ⟨_,Z,Z,Z⟩,Z,U⟩) Z) (za (yf (u':=vlst (List.map yt [(yh.mk [109,97,112,115] r2.1),(yh.mk [115,104,111,112] ([[111,114,100,101,114,115]]))])) (qa [_,_] z6o ⟨Z,.inr Z,Z,Z,.inr Z,Z,U⟩ Z Z) Z) (za (yf (u':=vagg [vlst (List.map yt ([(yh.mk [109,97,112,115] r2.1),(yh.mk [115,104,111,112] ([[111,114,100,101,114,115]]))])),vnil]) (vj [(0,[vlst (List.map yt ([(yh.mk [109,97,112,115] r2.1),(yh.mk [115,104,111,112] ([[111,114,100,101,114,115]]))]))])] kn y4v Z ⟨Z,.inl ⟨_,Z,Z,Z⟩,Z,U⟩) Z) (zd (qf 2 kn Z) Z (zd (yz ql Z Z Z Z) Z (z91 2 1 3 84 8 Z Z Z Z (zf (zc hN Z (za (yf (u':=vlst (List.map yr [[98,105,103],[102,114,101,101],[109,105,100],[115,109,97,108,108]])) (qa [[_],[_],[_],[_]] vh ⟨Z,.inl ⟨_,Z,Z,Z⟩,Z,Z,.inl ⟨_,Z,Z,Z⟩,Z,Z,.inl ⟨_,Z,Z,Z⟩,Z,Z,.inl ⟨_,Z,Z,Z⟩,Z,U⟩ Z Z) Z) (za (yu js Z) (qd Z (yd (gE H fun h9 H=>ve (fun (k7:Nat) (s:(List ya)×(List Int)×Int)=>[(0,.ptr 0 0),(2,.ptr 1 0),(3,.ptr 2 0),(15,.dat (vlst (List.map yr ([[98,105,103],[102,114,101,101],[109,105,100],[115,109,97,108,108]])))),(16,.dat (vint (([[98,105,103],[102,114,101,101],[109,105,100],[115,109,97,108,108]]).length:Int))),(17,.dat (vint (k7:Int)))]) (fun (k7:Nat) (s:(List ya)×(List Int)×Int)=>[(0,.box (some bl) 25 [.dat (vlst (List.map qn s.2.1)),.dat (vint s.2.2)]),(1,.box none 29 [.dat (vnil),.dat (vnil)]),(2,.box none 29 [.dat (vlst (List.map yt ([(yh.mk [109,97,112,115] r2.1),(yh.mk [115,104,111,112] ([[111,114,100,101,114,115]]))]))),.row 3 s.1.length]),(3,.row 84 8 (List.map ym s.1))]) (([]:List ya),r2.2.L,r2.2.at_) H ⟨Z,Z,Z,Z,Z,Z,U⟩ ⟨Z,Z,(congrArg (fun n=>some (some (AObj.box none 29 [.dat (vlst (List.map yt ([(yh.mk [109,97,112,115] r2.1),(yh.mk [115,104,111,112] ([[111,114,100,101,114,115]]))]))),.row 3 n]))) (show 0=([]:List ya).length from (by simp))),Z,U⟩ (fun _ _=>Z) ?_ ?_)))))))))))))))))))
 ·rintro ⟨l4,c5,c6⟩ H
  replace H:z5s r2 l4 c5 c6=some r:=H
  unfold z5s at H
  refine zc hN Z (za (ye Z Z) (zf (zi _ Z (fun h=>(lt_t h).elim) (fun h => ?_))))
  refine qk (zf (z94 2 1 3 rfl rfl rfl (by first | rw [List.length_map] | rfl) ?_))
  refine zq hN Z (ze (yg ql Z Z Z) Z (zd (yz ql Z Z Z Z) Z (zn ?_)))
  cases H
  exact ⟨U,⟨.inl ⟨_,_,_,yy (zx.mk ([(yh.mk [109,97,112,115] r2.1),(yh.mk [115,104,111,112] ([[111,114,100,101,114,115]]))]) l4),Z,Z,Z,Z,ql⟩,U⟩,Z⟩
 ·rintro k7 x10 ⟨l4,c5,c6⟩ q8 h11 h12 H hq8
  replace H:z5q k7 x10 l4 c5 c6=some q8:=H
  unfold z5q at H
  refine xz (zc hN Z (za (ye Z Z) (zf (zi _ Z (fun h => ?_) (fun h=>(lt_f h11 h).elim)))))
  refine zp (yw (ι:=(List Int)×Int×(List ya)) (fun i=>[(0,.ptr 0 0),(2,.ptr 1 0),(3,.ptr 2 0),(15,.dat (vlst (List.map yr ([[98,105,103],[102,114,101,101],[109,105,100],[115,109,97,108,108]])))),(16,.dat (vint (([[98,105,103],[102,114,101,101],[109,105,100],[115,109,97,108,108]]).length:Int))),(17,.dat (vint (k7:Int)))]) (fun i=>[(0,.box (some bl) 25 [.dat (vlst (List.map qn i.1)),.dat (vint i.2.1)]),(1,.box none 29 [.dat (vnil),.dat (vnil)]),(2,.box none 29 [.dat (vlst (List.map yt ([(yh.mk [109,97,112,115] r2.1),(yh.mk [115,104,111,112] ([[111,114,100,101,114,115]]))]))),.row 3 i.2.2.length]),(3,.row 84 8 (List.map ym i.2.2))]) (fun i=>Qd i.1 i.2.1 i.2.2=some q8) (fun i=>Z) ?_ ?_)
  ·refine xz (yd (zc hN Z (za (wq Zg (fun _=>Z) Z Z h12) (za (wy tyS9 Z (qg h12) Z) (qe Z (zf (zc hN Z (za (zg (.ptr _ _) Z) (bE H fun r13 h14 H=>zd (yo (kw (zt.mk c5 c6) 5 r13 h14) Z ⟨.inl Z,U⟩ Z) Z (zi _ Z (fun h15 => ?_) (fun h15 => ?_)))))))))))
   ·refine tE h15 H fun H=>qk ?_
    show Cv _ _ _ _
    exact xx ⟨(r13.2.L,r13.2.at_,l4),H,⟨Z,Z,Z,Z,Z,Z,U⟩,⟨Z,Z,Z,Z,U⟩⟩
   ·refine fE h15 H fun H=>zp (zc hN Z (qd Z (za (zg (.ptr _ _) Z) (za (yf (u':=vlst (List.map yr [[115,104,111,112],[115,104,111,112],[109,97,112,115]])) (qa [[_],[_],[_]] vh ⟨Z,.inl ⟨_,Z,Z,Z⟩,Z,Z,.inl ⟨_,Z,Z,Z⟩,Z,Z,.inl ⟨_,Z,Z,Z⟩,Z,U⟩ Z Z) Z) (bE H fun r16 h17 H=>zd (yo (kj r13.2 ([[115,104,111,112],[115,104,111,112],[109,97,112,115]]) r16 h17) Z ⟨.inl Z,U⟩ Z) Z (za (zg (.ptr _ _) Z) (za (yf (u':=vlst (List.map qn [0,0,1000,3000,31])) (qa [[_],[_],[_],[_],[_]] vx ⟨Z,.inl ⟨_,Z,Z,Z⟩,Z,Z,.inl ⟨_,Z,Z,Z⟩,Z,Z,.inl ⟨_,Z,Z,Z⟩,Z,Z,.inl ⟨_,Z,Z,Z⟩,Z,Z,.inl ⟨_,Z,Z,Z⟩,Z,U⟩ Z Z) Z) (bE H fun r18 h19 H=>zd (yo (jo r16.2 [0,0,1000,3000,31] r18 h19) Z ⟨.inl Z,U⟩ Z) Z (za (zg (.ptr _ _) Z) (za (yf (u':=vlst (List.map qn [0,10,100])) (qa [[_],[_],[_]] vx ⟨Z,.inl ⟨_,Z,Z,Z⟩,Z,Z,.inl ⟨_,Z,Z,Z⟩,Z,Z,.inl ⟨_,Z,Z,Z⟩,Z,U⟩ Z Z) Z) (bE H fun r20 h21 H=>zd (yo (jo r18.2 [0,10,100] r20 h21) Z ⟨.inl Z,U⟩ Z) Z (za (zg (.ptr _ _) Z) (za (yf (u':=vlst (List.map qn [(-1),(-1),0,1000])) (qa [[_],[_],[_],[_]] vx ⟨Z,.inl ⟨_,Z,Z,Z⟩,Z,Z,.inl ⟨_,Z,Z,Z⟩,Z,Z,.inl ⟨_,Z,Z,Z⟩,Z,Z,.inl ⟨_,Z,Z,Z⟩,Z,U⟩ Z Z) Z) (bE H fun r22 h23 H=>zd (yo (jo r20.2 [(-1),(-1),0,1000] r22 h23) Z ⟨.inl Z,U⟩ Z) Z (za (zg (.ptr _ _) Z) (za (yf (u':=vlst (List.map qn [0,0,1,2])) (qa [[_],[_],[_],[_]] vx ⟨Z,.inl ⟨_,Z,Z,Z⟩,Z,Z,.inl ⟨_,Z,Z,Z⟩,Z,Z,.inl ⟨_,Z,Z,Z⟩,Z,Z,.inl ⟨_,Z,Z,Z⟩,Z,U⟩ Z Z) Z) (bE H fun r24 h25 H=>zd (yo (jo r22.2 [0,0,1,2] r24 h25) Z ⟨.inl Z,U⟩ Z) Z ?_)))))))))))))))))
    refine za (zg (.ptr _ _) Z) (bE H fun r26 h27 H=>zd (yo (kw r24.2 2 r26 h27) Z ⟨.inl Z,U⟩ Z) Z (za (yf (u':=vagg [vstr x10,vstr r16.1,vint r18.1,vint r20.1,vnil,vint r22.1,vint r24.1,zr r26.1]) (vj [(0,[vstr x10]),(1,[vstr r16.1]),(2,[vint r18.1]),(3,[vint r20.1]),(5,[vint r22.1]),(6,[vint r24.1]),(7,[zr r26.1])] uj y0k Z ⟨Z,.inl ⟨_,Z,Z,Z⟩,Z,Z,.inl ⟨_,Z,Z,Z⟩,Z,Z,.inl ⟨_,Z,Z,Z⟩,Z,Z,.inl ⟨_,Z,Z,Z⟩,Z,Z,.inl ⟨_,Z,Z,Z⟩,Z,Z,.inl ⟨_,Z,Z,Z⟩,Z,Z,.inl ⟨_,Z,Z,Z⟩,Z,U⟩) Z) (zd (qf 4 uj Z) Z (zd (yz vu Z Z Z Z) Z (z91 4 4 5 81 2 Z Z Z Z (zc hN Z (qe Z (zf (zc hN Z (za (zg (.ptr _ _) Z) (za (yf (u':=vlst (List.map qn [0,1,2,3])) (qa [[_],[_],[_],[_]] vx ⟨Z,.inl ⟨_,Z,Z,Z⟩,Z,Z,.inl ⟨_,Z,Z,Z⟩,Z,Z,.inl ⟨_,Z,Z,Z⟩,Z,Z,.inl ⟨_,Z,Z,Z⟩,Z,U⟩ Z Z) Z) (bE H fun r28 h29 H=>zd (yo (jo r26.2 [0,1,2,3] r28 h29) Z ⟨.inl Z,U⟩ Z) Z (qd Z (yd (gE H fun h36 H=>z58 (fun (k34:Nat) (s:Int×(List yp)×(List Int)×Int)=>[(0,.ptr 0 0),(2,.ptr 1 0),(3,.ptr 2 0),(6,.ptr 4 0),(7,.dat (vint s.1)),(15,.dat (vlst (List.map yr ([[98,105,103],[102,114,101,101],[109,105,100],[115,109,97,108,108]])))),(16,.dat (vint (([[98,105,103],[102,114,101,101],[109,105,100],[115,109,97,108,108]]).length:Int))),(17,.dat (vint (k7:Int))),(44,.dat (vint r28.1)),(45,.dat (vint (k34:Int)))]) (fun (k34:Nat) (s:Int×(List yp)×(List Int)×Int)=>[(0,.box (some bl) 25 [.dat (vlst (List.map qn s.2.2.1)),.dat (vint s.2.2.2)]),(1,.box none 29 [.dat (vnil),.dat (vnil)]),(2,.box none 29 [.dat (vlst (List.map yt ([(yh.mk [109,97,112,115] r2.1),(yh.mk [115,104,111,112] ([[111,114,100,101,114,115]]))]))),.row 3 l4.length]),(3,.row 84 8 (List.map ym l4)),(4,.box none 84 [.dat (vstr x10),.dat (vstr r16.1),.dat (vint r18.1),.dat (vint r20.1),.row 5 s.2.1.length,.dat (vint r22.1),.dat (vint r24.1),.dat (zr r26.1)]),(5,.row 81 2 (List.map wd s.2.1))]) (1,([]:List yp),r28.2.L,r28.2.at_) H ⟨Z,Z,Z,Z,Z,Z,Z,Z,Z,Z,U⟩ ⟨Z,Z,Z,Z,(congrArg (fun n=>some (some (AObj.box none 84 [.dat (vstr x10),.dat (vstr r16.1),.dat (vint r18.1),.dat (vint r20.1),.row 5 n,.dat (vint r22.1),.dat (vint r24.1),.dat (zr r26.1)]))) (show 0=([]:List yp).length from (by simp))),Z,U⟩ (fun _ _=>Z) ?_ ?_)))))))))))))))
    ·rintro ⟨v30,l31,c32,c33⟩ H
     replace H:z5r l4 x10 r16 r18 r20 r22 r24 r26 v30 l31 c32 c33=some q8:=H
     unfold z5r at H
     refine zc hN Z (za (ye Z Z) (zf (zi _ Z (fun h=>(z85 h).elim) (fun h => ?_))))
     refine qk (z94 4 4 5 rfl rfl rfl (by first | rw [List.length_map] | rfl) ?_)
     refine zq hN Z (za (zj jk Z) (ze (zl jj Z Z) Z (ze (yg vu Z Z Z) Z (za (yf (u':=vlst (List.map ym [(ya.mk x10 r16.1 r18.1 r20.1 l31 r22.1 r24.1 r26.1)])) (qa [_] z6n ⟨Z,.inr Z,Z,U⟩ Z Z) Z) (gE H fun h37 H=>zd (je z6n (fun _=>Z) Z Z Z ⟨by simp,by first | (simp; done) | simpa using h37⟩ Z) Z ?_)))))
     refine za (zj jk Z) (Ye (Yc jj Z Z (by rw [List.length_map]) Z) Z Z ?_)
     refine z0l ?_
     show Cv _ _ _ _
     exact xx ⟨(c32,c33,(l4++[(ya.mk x10 r16.1 r18.1 r20.1 l31 r22.1 r24.1 r26.1)])),H,⟨Z,Z,Z,Z,Z,Z,U⟩,⟨Z,Z,Z,Z,U⟩⟩
    ·rintro k34 ⟨v30,l31,c32,c33⟩ q35 h38 H hq35
     replace H:z5p k34 v30 l31 c32 c33=some q35:=H
     unfold z5p at H
     refine xz (zc hN Z (za (ye Z Z) (zf (zi _ Z (fun h => ?_) (fun h=>(z86 h38 h).elim)))))
     refine zp (zf (yd (zf (wl mixed hN Z Z (za (zj kz Z) (ze (zl kg Z Z) Z (qd Z (za (zg (.ptr _ _) Z) (za (yf (u':=vlst (List.map qn [0,100,500,1500])) (qa [[_],[_],[_],[_]] vx ⟨Z,.inl ⟨_,Z,Z,Z⟩,Z,Z,.inl ⟨_,Z,Z,Z⟩,Z,Z,.inl ⟨_,Z,Z,Z⟩,Z,Z,.inl ⟨_,Z,Z,Z⟩,Z,U⟩ Z Z) Z) (bE H fun r39 h40 H=>zd (yo (jo (zt.mk c32 c33) [0,100,500,1500] r39 h40) Z ⟨.inl Z,U⟩ Z) Z (za (yf (u':=vagg (wd (yp.mk v30 r39.1))) (vj [(0,[vint v30]),(1,[vint r39.1])] Wv y0l Z ⟨Z,.inl ⟨_,Z,Z,Z⟩,Z,Z,.inl ⟨_,Z,Z,Z⟩,Z,U⟩) Z) (za (yf (u':=vlst (List.map wd [(yp.mk v30 r39.1)])) (qa [_] z1l ⟨Z,.inr Z,Z,U⟩ Z Z) Z) (gE H fun h41 H=>zd (je z1l (fun _=>Z) Z Z Z ⟨by simp,by first | (simp; done) | simpa using h41⟩ Z) Z ?_)))))))))))))
     refine za (zj kz Z) (Ye (Yc kg Z Z (by rw [List.length_map]) Z) Z Z ?_)
     refine ⟨Z,?_⟩
     refine zq hN Z (qd Z (za (zg (.ptr _ _) Z) (za (yf (u':=vlst (List.map qn [1,9,100])) (qa [[_],[_],[_]] vx ⟨Z,.inl ⟨_,Z,Z,Z⟩,Z,Z,.inl ⟨_,Z,Z,Z⟩,Z,Z,.inl ⟨_,Z,Z,Z⟩,Z,U⟩ Z Z) Z) (bE H fun r42 h43 H=>zd (yo (jo r39.2 [1,9,100] r42 h43) Z ⟨.inl Z,U⟩ Z) Z (za (yj _ Z Z (.inl ⟨Z,Z⟩)) (qe Z (zq hN Z (za (wa Z Z (by omega)) (qd Z (z0l ?_))))))))))
     show Cv _ _ _ _
     exact xx ⟨_,qj H,⟨Z,Z,Z,Z,Z,Z,Z,Z,Z,Z,U⟩,⟨Z,Z,Z,Z,Z,Z,U⟩⟩
  ·rintro ⟨c44,c45,l46⟩ H
   replace H:Qd c44 c45 l46=some q8:=H
   unfold Qd at H
   refine zq hN Z (za (wa Z Z (by omega)) (qd Z (z0l ?_)))
   show Cv _ _ _ _
   exact xx ⟨_,qj H,⟨Z,Z,Z,Z,Z,Z,U⟩,⟨Z,Z,Z,Z,U⟩⟩
def Yp (hv:Value) (x:ya):List V:=[vstr x.Key,vstr x.Product,vint x.Base,vint x.Free,vval hv,vint x.Limit,vint x.Trial,zr x.Asked]
def glQ (hv:Value):List ya→Nat→List (List V)
 | [],_=>[]
 | p::ps,0=>Yp hv p::ps.map ym
 | p::ps,g+1=>ym p::glQ hv ps g
def tieQ:List ya→Nat→List yp
 | [],_=>[]
 | p::ps,0=>p.Tiers
 | p::ps,g+1=>tieQ ps g
abbrev glP (g:Nat) (hv:Value) (ps:List ya):List (List V):=glQ hv ps g
abbrev Zz (g:Nat) (ps:List ya):List yp:=tieQ ps g
theorem ju:∀ (g:Nat) (hv:Value) (ps:List ya),(glP g hv ps).length=ps.length
 | _,_,[]=>Z
 | 0,hv,p::ps=>by simp [glP,glQ]
 | g+1,hv,p::ps=>by simp only [glP,glQ,List.length_cons]; rw [← ju g hv ps]
theorem x38:∀ (g:Nat) (hv hv':Value) (ps:List ya) (p:ya),(Nat.beq ps.length g=false→hv'=hv)→glP g hv' (ps++[p])=glP g hv ps++[cond (Nat.beq ps.length g) (Yp hv' p) (ym p)]
 | 0,hv,hv',[],p,h=>Z
 | g+1,hv,hv',[],p,h=>Z
 | 0,hv,hv',q::ps,p,h=>by
  have h1:hv'=hv:=h Z
  subst h1
  show Yp hv' q::List.map ym (ps++[p])=(Yp hv' q::List.map ym ps)++[ym p]
  simp
 | g+1,hv,hv',q::ps,p,h=>by
  have h1:=x38 g hv hv' ps p (fun h2=>h h2)
  show ym q::glP g hv' (ps++[p])=(ym q::glP g hv ps)++[cond (Nat.beq ps.length g) (Yp hv' p) (ym p)]
  rw [h1]; rfl
theorem x0l:∀ (g:Nat) (ps:List ya) (p:ya),List.map wd (Zz g (ps++[p]))=cond (Nat.beq ps.length g) (List.map wd p.Tiers) (List.map wd (Zz g ps))
 | 0,[],p=>Z
 | g+1,[],p=>by rfl
 | 0,q::ps,p=>Z
 | g+1,q::ps,p=>x0l g ps p
theorem z9h:∀ (g:Nat) (hv:Value) (ps:List ya) (p:ya),ps[g]?=some p→(glP g hv ps)[g]?=some (Yp hv p)∧Zz g ps=p.Tiers
 | _,_,[],p,h=>by simp at h
 | 0,hv,q::ps,p,h=>by simp at h; subst h; exact ⟨rfl,rfl⟩
 | g+1,hv,q::ps,p,h=>by
  have:=z9h g hv ps p (by simpa using h)
  exact ⟨by simpa [glP,glQ] using this.1,this.2⟩
theorem x37:∀ (g:Nat) (hv:Value) (ps:List ya) (p:ya),g < ps.length→(glP g hv ps).set g (ym p)=(ps.set g p).map ym
 | _,_,[],p,h=>by simp at h
 | 0,hv,q::ps,p,h=>Z
 | g+1,hv,q::ps,p,h=>by
  have:=x37 g hv ps p (by simpa using h)
  show ym q::(glP g hv ps).set g (ym p)=ym q::(ps.set g p).map ym
  rw [this]
theorem z47:∀ (g:Nat) (hv:Value) (ps:List ya),UpH hv (List.map wd (Zz g ps)) (glP g hv ps) (ps.map ym)
 | _,hv,[]=>⟨by simp [glP,glQ],fun k c el u h=>by simp at h⟩
 | 0,hv,p::ps=>⟨by simp [glP,glQ],fun k c el u h1 h2=>by
  cases k with
  | zero =>
   simp only [List.map_cons,List.getElem?_cons_zero,Option.some.injEq] at h1
   subst h1
   refine ⟨Yp hv p,?_⟩
   rcases c with _ | _ | _ | _ | _ | _ | _ | _ | c <;> simp only [ym,List.getElem?_cons_succ,List.getElem?_cons_zero,Option.some.injEq,List.getElem?_nil] at h2
   ·subst h2; exact ⟨_,rfl,rfl,.inl rfl⟩
   ·subst h2; exact ⟨_,rfl,rfl,.inl rfl⟩
   ·subst h2; exact ⟨_,rfl,rfl,.inl rfl⟩
   ·subst h2; exact ⟨_,rfl,rfl,.inl rfl⟩
   ·subst h2; exact ⟨_,rfl,rfl,.inr ⟨rfl,rfl⟩⟩
   ·subst h2; exact ⟨_,rfl,rfl,.inl rfl⟩
   ·subst h2; exact ⟨_,rfl,rfl,.inl rfl⟩
   ·subst h2; exact ⟨_,rfl,rfl,.inl rfl⟩
   ·cases h2
  | succ k=>exact ⟨el,u,by simpa [glP,glQ] using h1,h2,.inl Z⟩⟩
 | g+1,hv,p::ps=>⟨by simp only [glP,glQ,List.length_cons,List.length_map]; rw [← ju g hv ps],fun k c el u h1 h2=>by
  cases k with
  | zero=>exact ⟨el,u,by simpa [glP,glQ] using h1,h2,.inl Z⟩
  | succ k =>
   obtain ⟨e1,u1,q1,q2,q3⟩:=(z47 g hv ps).2 k c el u (by simpa using h1) h2
   exact ⟨e1,u1,by simpa [glP,glQ] using q1,q2,q3⟩⟩
theorem z7t (ps:List ya):∀ el,el∈ps.map ym→el.length=8:=fun el h=>by obtain ⟨p,_,rfl⟩:=List.mem_map.1 h; rfl
theorem x89 {X:Ctx} {Q:Exit→(Nat→Slot)→Own→Prop} {f:Nat→Slot} {ops:Array Oper} {os:List Oper} {dst:Option Tmp} {ty:TypeId} {pos:String} {af:Array Edge} {ts:Array TypeId} {x:Tmp} {NX:Nat} (bl b2 G:Nat) (s1:zt) (r:(zx×zt)) (H:z2j s1=some r) (hX:X.N=NX) (hNX:kk NX ops=true) (hx:f x = .ptr 0 0) (h0:f 0 = .ptr 0 0) (h2:f 2 = .ptr 40 0)
    (hK:∀ hv1 hv2 hv:Value,SeqW Tryz.prog X ops os (updS (frs (Ws [(0,0),(2,40)])) dst (.dat (vagg [vval hv1,vval hv2]))) (ows [(0,.box (some bl) 25 [.dat (vlst (List.map qn r.2.L)),.dat (vint r.2.at_)]),(40,.box (some b2) 29 [.dat vnil,.dat vnil]),(1,.box none 29 [.dat (vval hv1),.dat (vval hv2)]),(10,.rowA hv1 79 2 (List.map yt r.1.Products)),(11,.rowA hv2 84 8 (glP G hv r.1.Plans)),(12,.rowA hv 81 2 (List.map wd (Zz G r.1.Plans)))]) Q) :
    SeqW Tryz.prog X ops (⟨dst,.call { callee := .value (.func 45),args:=[Operand.tmp x].toArray,argTypes:=ts },ty,pos,af,none⟩::os) f (ows [(0,.box (some bl) 25 (List.map .dat (qz s1))),(40,.box (some b2) 29 [.dat vnil,.dat vnil])]) Q:=by
 refine x9c [.ptr 0 0] [(0,0),(2,40)] (by kernel_rfl) Tryz.func45 rfl rfl rfl rfl hX hNX (by simp [evS,hx]) (fun y hy n=>by simp at hy; subst hy; exact fun h=>by cases h) fun X hN => ?_
 unfold z2j at H
 refine zc hN Z (zd (qf 1 kn Z) Z (zc hN Z (za (zg (.ptr _ _) Z) (bE H fun r2 h3 H=>zd (yo (x3u s1 r2 h3) Z U Z) Z (za (yf (u':=vagg (yt (yh.mk [109,97,112,115] r2.1))) (vj [(0,[vstr [109,97,112,115]]),(1,[vlst (List.map yr r2.1)])] Qi z3o Z ⟨Z,.inl ⟨_,Z,Z,Z⟩,Z,Z,.inl ⟨_,Z,Z,Z⟩,Z,U⟩) Z) (za (yf (u':=vlst (List.map yr [[111,114,100,101,114,115]])) (qa [[_]] vh ⟨Z,.inl ⟨_,Z,Z,Z⟩,Z,U⟩ Z Z) Z) (za (yf (u':=vagg (yt (yh.mk [115,104,111,112] ([[111,114,100,101,114,115]])))) (vj [(0,[vstr [115,104,111,112]]),(1,[vlst (List.map yr ([[111,114,100,101,114,115]]))])] Qi z3o Z ⟨Z,.inl ⟨_,Z,Z,Z⟩,Z,Z,.inl ⟨_,Z,Z,Z⟩,Z,U⟩) Z) (zd (y0v (C:=yt) 8 ([(yh.mk [109,97,112,115] r2.1),(yh.mk [115,104,111,112] ([[111,114,100,101,114,115]]))]:List yh) z6o ⟨Z,.inr Z,Z,Z,.inr Z,Z,U⟩ Z Z Z) Z (ze (x7u (s' := .comp false [.row 8 2,.dat vnil]) (x8o [(8,some (some (.row 79 2 (List.map yt [(yh.mk [109,97,112,115] r2.1),(yh.mk [115,104,111,112] ([[111,114,100,101,114,115]]))]))))] [(0,[.row 8 2])] kn y4v Z ⟨Z,.inr (.inl ⟨_,_,_,_,_,Z,.head _,Z,Z⟩),Z,U⟩) Z) Z (zd (qf 2 kn Z) Z (zd (x7s ql Z Z Z Z) Z (z91 2 1 3 84 8 Z Z Z Z (y9e 6 81 2 Z Z (zf (zc hN Z (za (yf (u':=vlst (List.map yr [[98,105,103],[102,114,101,101],[109,105,100],[115,109,97,108,108]])) (qa [[_],[_],[_],[_]] vh ⟨Z,.inl ⟨_,Z,Z,Z⟩,Z,Z,.inl ⟨_,Z,Z,Z⟩,Z,Z,.inl ⟨_,Z,Z,Z⟩,Z,Z,.inl ⟨_,Z,Z,Z⟩,Z,U⟩ Z Z) Z) (za (yu js Z) (qd Z (yd (gE H fun h9 H=>z59 (γ:=Value) (fun (k7:Nat) (s:(List ya)×(List Int)×Int) (hv:Value)=>[(0,.ptr 0 0),(2,.ptr 1 0),(3,.ptr 2 0),(15,.dat (vlst (List.map yr ([[98,105,103],[102,114,101,101],[109,105,100],[115,109,97,108,108]])))),(16,.dat (vint (([[98,105,103],[102,114,101,101],[109,105,100],[115,109,97,108,108]]).length:Int))),(17,.dat (vint (k7:Int)))]) (fun (k7:Nat) (s:(List ya)×(List Int)×Int) (hv:Value)=>[(0,.box (some bl) 25 [.dat (vlst (List.map qn s.2.1)),.dat (vint s.2.2)]),(1,.box none 29 [.dat (vnil),.dat (vnil)]),(2,.box none 29 [.row 8 2,.row 3 s.1.length]),(3,.row 84 8 (glP G hv s.1)),(6,.rowA hv 81 2 (List.map wd (Zz G s.1))),(8,.row 79 2 (List.map yt [(yh.mk [109,97,112,115] r2.1),(yh.mk [115,104,111,112] ([[111,114,100,101,114,115]]))])),(40,.box (some b2) 29 [.dat (vnil),.dat (vnil)])]) (([]:List ya),r2.2.L,r2.2.at_) (.slice none 0 0) H ⟨Z,Z,Z,Z,Z,Z,U⟩ ⟨Z,Z,Z,Z,Z,Z,Z,U⟩ (fun _ _ _=>Z) ?_ ?_))))))))))))))))))))
 ·rintro ⟨l4,c5,c6⟩ hv H
  replace H:z5s r2 l4 c5 c6=some r:=H
  unfold z5s at H
  refine zc hN Z (za (ye Z Z) (zf (zi _ Z (fun h=>(lt_t h).elim) (fun h => ?_))))
  refine qk (zf (z92 2 1 3 11 Z Z Z (ju _ _ _).symm Z fun hv2=>(z92 2 0 8 10 Z Z Z Z Z fun hv1=>(x5e 6 12 Z Z (zq hN Z (ze (yg ql Z Z Z) Z (zd (yz ql Z Z Z Z) Z ?_)))))))
  cases H
  exact x5f [(2,.ptr 1 0)] [(0,.box (some bl) 25 [.dat (vlst (List.map qn c5)),.dat (vint c6)]),(40,.box (some b2) 29 [.dat vnil,.dat vnil]),(1,.box none 29 [.dat (vval hv1),.dat (vval hv2)]),(10,.rowA hv1 79 2 (List.map yt [(yh.mk [109,97,112,115] r2.1),(yh.mk [115,104,111,112] ([[111,114,100,101,114,115]]))])),(11,.rowA hv2 84 8 (glP G hv l4)),(12,.rowA hv 81 2 (List.map wd (Zz G l4)))] ⟨Z,U⟩ ⟨Z,Z,Z,Z,Z,Z,U⟩ Z (zn ⟨U,[vagg [vval hv1,vval hv2]],.inl ⟨[vagg [vval hv1,vval hv2]],⟨⟨_,_,_,[vval hv1,vval hv2],Z,Z,Z,Z,ql⟩,U⟩,Z⟩,⟨⟨h0,_,_,_,_,_,Z,Z⟩,⟨h2,_,_,_,_,_,Z,Z⟩,U⟩,hK hv1 hv2 hv⟩)
 ·rintro k7 x10 ⟨l4,c5,c6⟩ hv q8 h11 h12 H hq8
  replace H:z5q k7 x10 l4 c5 c6=some q8:=H
  unfold z5q at H
  refine xz (zc hN Z (za (ye Z Z) (zf (zi _ Z (fun h => ?_) (fun h=>(lt_f h11 h).elim)))))
  refine zp (yw (ι:=((List Int)×Int×(List ya))×Value) (fun i=>[(0,.ptr 0 0),(2,.ptr 1 0),(3,.ptr 2 0),(15,.dat (vlst (List.map yr ([[98,105,103],[102,114,101,101],[109,105,100],[115,109,97,108,108]])))),(16,.dat (vint (([[98,105,103],[102,114,101,101],[109,105,100],[115,109,97,108,108]]).length:Int))),(17,.dat (vint (k7:Int)))]) (fun i=>[(0,.box (some bl) 25 [.dat (vlst (List.map qn i.1.1)),.dat (vint i.1.2.1)]),(1,.box none 29 [.dat (vnil),.dat (vnil)]),(2,.box none 29 [.row 8 2,.row 3 i.1.2.2.length]),(3,.row 84 8 (glP G i.2 i.1.2.2)),(6,.rowA i.2 81 2 (List.map wd (Zz G i.1.2.2))),(8,.row 79 2 (List.map yt [(yh.mk [109,97,112,115] r2.1),(yh.mk [115,104,111,112] ([[111,114,100,101,114,115]]))])),(40,.box (some b2) 29 [.dat (vnil),.dat (vnil)])]) (fun i=>Qd i.1.1 i.1.2.1 i.1.2.2=some q8) (fun i=>Z) ?_ ?_)
  ·refine xz (yd (zc hN Z (za (wq Zg (fun _=>Z) Z Z h12) (za (wy tyS9 Z (qg h12) Z) (qe Z (zf (zc hN Z (za (zg (.ptr _ _) Z) (bE H fun r13 h14 H=>zd (yo (kw (zt.mk c5 c6) 5 r13 h14) Z ⟨.inl Z,U⟩ Z) Z (zi _ Z (fun h15 => ?_) (fun h15 => ?_)))))))))))
   ·refine tE h15 H fun H=>qk ?_
    show Cv _ _ _ _
    exact xx ⟨((r13.2.L,r13.2.at_,l4),hv),H,⟨Z,Z,Z,Z,Z,Z,U⟩,⟨Z,Z,Z,Z,Z,Z,Z,U⟩⟩
   ·refine fE h15 H fun H=>zp (zc hN Z (qd Z (za (zg (.ptr _ _) Z) (za (yf (u':=vlst (List.map yr [[115,104,111,112],[115,104,111,112],[109,97,112,115]])) (qa [[_],[_],[_]] vh ⟨Z,.inl ⟨_,Z,Z,Z⟩,Z,Z,.inl ⟨_,Z,Z,Z⟩,Z,Z,.inl ⟨_,Z,Z,Z⟩,Z,U⟩ Z Z) Z) (bE H fun r16 h17 H=>zd (yo (kj r13.2 ([[115,104,111,112],[115,104,111,112],[109,97,112,115]]) r16 h17) Z ⟨.inl Z,U⟩ Z) Z (za (zg (.ptr _ _) Z) (za (yf (u':=vlst (List.map qn [0,0,1000,3000,31])) (qa [[_],[_],[_],[_],[_]] vx ⟨Z,.inl ⟨_,Z,Z,Z⟩,Z,Z,.inl ⟨_,Z,Z,Z⟩,Z,Z,.inl ⟨_,Z,Z,Z⟩,Z,Z,.inl ⟨_,Z,Z,Z⟩,Z,Z,.inl ⟨_,Z,Z,Z⟩,Z,U⟩ Z Z) Z) (bE H fun r18 h19 H=>zd (yo (jo r16.2 [0,0,1000,3000,31] r18 h19) Z ⟨.inl Z,U⟩ Z) Z (za (zg (.ptr _ _) Z) (za (yf (u':=vlst (List.map qn [0,10,100])) (qa [[_],[_],[_]] vx ⟨Z,.inl ⟨_,Z,Z,Z⟩,Z,Z,.inl ⟨_,Z,Z,Z⟩,Z,Z,.inl ⟨_,Z,Z,Z⟩,Z,U⟩ Z Z) Z) (bE H fun r20 h21 H=>zd (yo (jo r18.2 [0,10,100] r20 h21) Z ⟨.inl Z,U⟩ Z) Z (za (zg (.ptr _ _) Z) (za (yf (u':=vlst (List.map qn [(-1),(-1),0,1000])) (qa [[_],[_],[_],[_]] vx ⟨Z,.inl ⟨_,Z,Z,Z⟩,Z,Z,.inl ⟨_,Z,Z,Z⟩,Z,Z,.inl ⟨_,Z,Z,Z⟩,Z,Z,.inl ⟨_,Z,Z,Z⟩,Z,U⟩ Z Z) Z) (bE H fun r22 h23 H=>zd (yo (jo r20.2 [(-1),(-1),0,1000] r22 h23) Z ⟨.inl Z,U⟩ Z) Z (za (zg (.ptr _ _) Z) (za (yf (u':=vlst (List.map qn [0,0,1,2])) (qa [[_],[_],[_],[_]] vx ⟨Z,.inl ⟨_,Z,Z,Z⟩,Z,Z,.inl ⟨_,Z,Z,Z⟩,Z,Z,.inl ⟨_,Z,Z,Z⟩,Z,Z,.inl ⟨_,Z,Z,Z⟩,Z,U⟩ Z Z) Z) (bE H fun r24 h25 H=>zd (yo (jo r22.2 [0,0,1,2] r24 h25) Z ⟨.inl Z,U⟩ Z) Z ?_)))))))))))))))))
    refine za (zg (.ptr _ _) Z) (bE H fun r26 h27 H=>zd (yo (kw r24.2 2 r26 h27) Z ⟨.inl Z,U⟩ Z) Z (za (yf (u':=vagg [vstr x10,vstr r16.1,vint r18.1,vint r20.1,vnil,vint r22.1,vint r24.1,zr r26.1]) (vj [(0,[vstr x10]),(1,[vstr r16.1]),(2,[vint r18.1]),(3,[vint r20.1]),(5,[vint r22.1]),(6,[vint r24.1]),(7,[zr r26.1])] uj y0k Z ⟨Z,.inl ⟨_,Z,Z,Z⟩,Z,Z,.inl ⟨_,Z,Z,Z⟩,Z,Z,.inl ⟨_,Z,Z,Z⟩,Z,Z,.inl ⟨_,Z,Z,Z⟩,Z,Z,.inl ⟨_,Z,Z,Z⟩,Z,Z,.inl ⟨_,Z,Z,Z⟩,Z,Z,.inl ⟨_,Z,Z,Z⟩,Z,U⟩) Z) (zd (qf 4 uj Z) Z (zd (yz vu Z Z Z Z) Z (z91 4 4 5 81 2 Z Z Z Z (zc hN Z (qe Z (zf (zc hN Z (za (zg (.ptr _ _) Z) (za (yf (u':=vlst (List.map qn [0,1,2,3])) (qa [[_],[_],[_],[_]] vx ⟨Z,.inl ⟨_,Z,Z,Z⟩,Z,Z,.inl ⟨_,Z,Z,Z⟩,Z,Z,.inl ⟨_,Z,Z,Z⟩,Z,Z,.inl ⟨_,Z,Z,Z⟩,Z,U⟩ Z Z) Z) (bE H fun r28 h29 H=>zd (yo (jo r26.2 [0,1,2,3] r28 h29) Z ⟨.inl Z,U⟩ Z) Z (qd Z (yd (gE H fun h36 H=>z58 (fun (k34:Nat) (s:Int×(List yp)×(List Int)×Int)=>[(0,.ptr 0 0),(2,.ptr 1 0),(3,.ptr 2 0),(6,.ptr 4 0),(7,.dat (vint s.1)),(15,.dat (vlst (List.map yr ([[98,105,103],[102,114,101,101],[109,105,100],[115,109,97,108,108]])))),(16,.dat (vint (([[98,105,103],[102,114,101,101],[109,105,100],[115,109,97,108,108]]).length:Int))),(17,.dat (vint (k7:Int))),(44,.dat (vint r28.1)),(45,.dat (vint (k34:Int)))]) (fun (k34:Nat) (s:Int×(List yp)×(List Int)×Int)=>[(0,.box (some bl) 25 [.dat (vlst (List.map qn s.2.2.1)),.dat (vint s.2.2.2)]),(1,.box none 29 [.dat (vnil),.dat (vnil)]),(2,.box none 29 [.row 8 2,.row 3 l4.length]),(3,.row 84 8 (glP G hv l4)),(6,.rowA hv 81 2 (List.map wd (Zz G l4))),(8,.row 79 2 (List.map yt [(yh.mk [109,97,112,115] r2.1),(yh.mk [115,104,111,112] ([[111,114,100,101,114,115]]))])),(40,.box (some b2) 29 [.dat (vnil),.dat (vnil)]),(4,.box none 84 [.dat (vstr x10),.dat (vstr r16.1),.dat (vint r18.1),.dat (vint r20.1),.row 5 s.2.1.length,.dat (vint r22.1),.dat (vint r24.1),.dat (zr r26.1)]),(5,.row 81 2 (List.map wd s.2.1))]) (1,([]:List yp),r28.2.L,r28.2.at_) H ⟨Z,Z,Z,Z,Z,Z,Z,Z,Z,Z,U⟩ ⟨Z,Z,Z,Z,Z,Z,Z,Z,Z,U⟩ (fun _ _=>Z) ?_ ?_)))))))))))))))
    ·rintro ⟨v30,l31,c32,c33⟩ H
     replace H:z5r l4 x10 r16 r18 r20 r22 r24 r26 v30 l31 c32 c33=some q8:=H
     unfold z5r at H
     refine zc hN Z (za (ye Z Z) (zf (zi _ Z (fun h=>(z85 h).elim) (fun h => ?_))))
     refine qk (w63 (Nat.beq l4.length G) 4 4 5 6 7 Z Z Z (by rw [List.length_map]) Z Z fun hv' hhv => ?_)
     refine zq hN rfl (za (zj jk rfl) (ze (zl jj rfl rfl) rfl (ze (yg vu rfl rfl rfl) rfl (za (yf (u':=vlst [cond (Nat.beq l4.length G) (Yp hv' (ya.mk x10 r16.1 r18.1 r20.1 l31 r22.1 r24.1 r26.1)) (ym (ya.mk x10 r16.1 r18.1 r20.1 l31 r22.1 r24.1 r26.1))]) (qa [_] z6n ⟨rfl,.inr rfl,rfl,trivial⟩ rfl rfl) (by cases Nat.beq l4.length G <;> rfl)) ?_))))
     refine gE H fun h37 H=>zd (x7e z6n Z (ju _ _ _).symm Z (by simp) (by cases Nat.beq l4.length G <;> simp [Yp]) (by rw [ju]; exact h37) Z) Z ?_
     refine za (zj jk Z) (Ye (Yc jj Z Z Z Z) Z Z (z0l ?_))
     show Cv _ _ _ _
     refine z9v (rn [(7,6)]) [(0,.ptr 0 0),(2,.ptr 1 0),(3,.ptr 2 0),(15,.dat (vlst (List.map yr ([[98,105,103],[102,114,101,101],[109,105,100],[115,109,97,108,108]])))),(16,.dat (vint (([[98,105,103],[102,114,101,101],[109,105,100],[115,109,97,108,108]]).length:Int))),(17,.dat (vint (k7:Int)))] [(0,.box (some bl) 25 [.dat (vlst (List.map qn c32)),.dat (vint c33)]),(1,.box none 29 [.dat (vnil),.dat (vnil)]),(2,.box none 29 [.row 8 2,.row 3 (l4++[(ya.mk x10 r16.1 r18.1 r20.1 l31 r22.1 r24.1 r26.1)]).length]),(3,.row 84 8 (glP G hv' (l4++[(ya.mk x10 r16.1 r18.1 r20.1 l31 r22.1 r24.1 r26.1)]))),(7,.rowA hv' 81 2 (List.map wd (Zz G (l4++[(ya.mk x10 r16.1 r18.1 r20.1 l31 r22.1 r24.1 r26.1)])))),(8,.row 79 2 (List.map yt [(yh.mk [109,97,112,115] r2.1),(yh.mk [115,104,111,112] ([[111,114,100,101,114,115]]))])),(40,.box (some b2) 29 [.dat (vnil),.dat (vnil)])] ⟨Z,Z,Z,Z,Z,Z,U⟩ ⟨Z,Z,congrArg (fun n=>some (some (AObj.box none 29 [.row 8 2,.row 3 n]))) (by simp [ju]),congrArg (fun es=>some (some (AObj.row 84 8 es))) (x38 G hv hv' l4 (ya.mk x10 r16.1 r18.1 r20.1 l31 r22.1 r24.1 r26.1) hhv).symm,congrArg (fun es=>some (some (AObj.rowA hv' 81 2 es))) (x0l G l4 (ya.mk x10 r16.1 r18.1 r20.1 l31 r22.1 r24.1 r26.1)).symm,Z,Z,U⟩ Z Z ?_
     exact ⟨((c32,c33,(l4++[(ya.mk x10 r16.1 r18.1 r20.1 l31 r22.1 r24.1 r26.1)])),hv'),H,⟨Z,Z,Z,Z,Z,Z,U⟩,⟨Z,Z,Z,Z,Z,Z,Z,U⟩⟩
    ·rintro k34 ⟨v30,l31,c32,c33⟩ q35 h38 H hq35
     replace H:z5p k34 v30 l31 c32 c33=some q35:=H
     unfold z5p at H
     refine xz (zc hN Z (za (ye Z Z) (zf (zi _ Z (fun h => ?_) (fun h=>(z86 h38 h).elim)))))
     refine zp (zf (yd (zf (wl mixed hN Z Z (za (zj kz Z) (ze (zl kg Z Z) Z (qd Z (za (zg (.ptr _ _) Z) (za (yf (u':=vlst (List.map qn [0,100,500,1500])) (qa [[_],[_],[_],[_]] vx ⟨Z,.inl ⟨_,Z,Z,Z⟩,Z,Z,.inl ⟨_,Z,Z,Z⟩,Z,Z,.inl ⟨_,Z,Z,Z⟩,Z,Z,.inl ⟨_,Z,Z,Z⟩,Z,U⟩ Z Z) Z) (bE H fun r39 h40 H=>zd (yo (jo (zt.mk c32 c33) [0,100,500,1500] r39 h40) Z ⟨.inl Z,U⟩ Z) Z (za (yf (u':=vagg (wd (yp.mk v30 r39.1))) (vj [(0,[vint v30]),(1,[vint r39.1])] Wv y0l Z ⟨Z,.inl ⟨_,Z,Z,Z⟩,Z,Z,.inl ⟨_,Z,Z,Z⟩,Z,U⟩) Z) (za (yf (u':=vlst (List.map wd [(yp.mk v30 r39.1)])) (qa [_] z1l ⟨Z,.inr Z,Z,U⟩ Z Z) Z) (gE H fun h41 H=>zd (je z1l (fun _=>Z) Z Z Z ⟨by simp,by first | (simp; done) | simpa using h41⟩ Z) Z ?_)))))))))))))
     refine za (zj kz Z) (Ye (Yc kg Z Z (by rw [List.length_map]) Z) Z Z ?_)
     refine ⟨Z,?_⟩
     refine zq hN Z (qd Z (za (zg (.ptr _ _) Z) (za (yf (u':=vlst (List.map qn [1,9,100])) (qa [[_],[_],[_]] vx ⟨Z,.inl ⟨_,Z,Z,Z⟩,Z,Z,.inl ⟨_,Z,Z,Z⟩,Z,Z,.inl ⟨_,Z,Z,Z⟩,Z,U⟩ Z Z) Z) (bE H fun r42 h43 H=>zd (yo (jo r39.2 [1,9,100] r42 h43) Z ⟨.inl Z,U⟩ Z) Z (za (yj _ Z Z (.inl ⟨Z,Z⟩)) (qe Z (zq hN Z (za (wa Z Z (by omega)) (qd Z (z0l ?_))))))))))
     show Cv _ _ _ _
     exact xx ⟨_,qj H,⟨Z,Z,Z,Z,Z,Z,Z,Z,Z,Z,U⟩,⟨Z,Z,Z,Z,Z,Z,Z,Z,Z,U⟩⟩
  ·rintro ⟨⟨c44,c45,l46⟩,hv⟩ H
   replace H:Qd c44 c45 l46=some q8:=H
   unfold Qd at H
   refine zq hN Z (za (wa Z Z (by omega)) (qd Z (z0l ?_)))
   show Cv _ _ _ _
   exact xx ⟨_,hv,qj H,⟨Z,Z,Z,Z,Z,Z,U⟩,⟨Z,Z,Z,Z,Z,Z,Z,U⟩⟩
theorem w4u (g:Nat) (hv:Value) (ps:List ya) (p:ya) (t:yp) (h:ps[g]?=some p):(glP g hv ps).set g ((Yp hv p).set 4 (vlst (List.map wd (Zz g ps)++[wd t])))=List.map ym (ps.set g (ya.mk p.Key p.Product p.Base p.Free (p.Tiers++[t]) p.Limit p.Trial p.Asked)):=by
 rw [← x37 g hv ps _ (List.getElem?_eq_some_iff.1 h).1,(z9h g hv ps p h).2]
 congr 1
 simp [Yp,ym]
theorem w30 (s1:zt) (r:(zx×zt)) (H:z8x s1=some r):Imp Tryz.prog 18 25 (qz s1) [] (yc [vagg (yy r.1)]) (qz r.2):=by
 refine kx (us:=[vagg (yy r.1)]) (cs':=(qz r.2)) (by kernel_rfl) Tryz.func18 Z Z Z Z fun X bl hN => ?_
 unfold z8x at H
 refine bE H fun r2 h3 H=>?_
 cases hc:decide ((r2.1.Plans.length:Int) > 0) with
 | false =>
  rw [hc] at H
  refine zc hN Z (zd (qf 1 kn Z) Z (zc hN Z (za (zg (.ptr _ _) Z) (zd (yo (x3v s1 r2 h3) Z U Z) Z (zd (qf 2 kn Z) Z (zd (yz ql Z Z Z Z) Z (zf (zc hN Z (za (zj jk Z) (ze (zl jj Z Z) Z (za (yu Zs Z) (za (wz Z Z) (qd Z (qv (j:=4) Z Z (fun h4 => ?_) (fun h4 => ?_) Z))))))))))))))
  ·refine hE (un1 h4) fun h5=>?_
   rw [hc] at h5; cases h5
  ·refine hE (un2 h4) fun h8=>zh Z Z h4 (zh Z Z h4 (za (yq Z (bFF h8) Z) (zi false Z (fun h=>by cases h) (fun h => ?_))))
   refine zp (zc hN Z (ze (yg ql Z Z Z) Z (zd (yz ql Z Z Z Z) Z (zn ?_))))
   cases H
   exact ⟨U,⟨.inl ⟨_,_,_,yy r2.1,Z,Z,Z,Z,ql⟩,U⟩,Z⟩
 | true =>
  rw [hc] at H
  refine bE H fun r6 h7 H=>?_
  cases hf:r6.1 with
  | false =>
   rw [hf] at H
   refine zc hN Z (zd (qf 1 kn Z) Z (zc hN Z (za (zg (.ptr _ _) Z) (zd (yo (x3v s1 r2 h3) Z U Z) Z (zd (qf 2 kn Z) Z (zd (yz ql Z Z Z Z) Z (zf (zc hN Z (za (zj jk Z) (ze (zl jj Z Z) Z (za (yu Zs Z) (za (wz Z Z) (qd Z (qv (j:=4) Z Z (fun h4 => ?_) (fun h4 => ?_) Z))))))))))))))
   ·refine hE (un1 h4) fun h5=>zo Z Z h4 (zg (.ptr _ _) Z) (y1k Z Z h4 (yo (kw r2.2 12 r6 h7) Z ⟨.inl Z,U⟩ Z) Z (za (qt Z (bTT h5) Z) (zi r6.1 Z (fun h=>by rw [hf] at h; cases h) (fun h => ?_))))
    refine zp (zc hN Z (ze (yg ql Z Z Z) Z (zd (yz ql Z Z Z Z) Z (zn ?_))))
    cases H
    exact ⟨U,⟨.inl ⟨_,_,_,yy r2.1,Z,Z,Z,Z,ql⟩,U⟩,Z⟩
   ·refine hE (un2 h4) fun h8=>?_
    rw [hc] at h8; cases h8
  | true =>
   rw [hf] at H
   replace H:y3s r2.1 r6.2=some r:=H
   unfold y3s at H
   refine bE H fun r13 h14 H=>bE H fun x15 h16 H=>zc hN Z (zd (qf 40 kn Z) Z (w68 40 Z fun b2=>(x5f [(0,.ptr 0 0),(2,.ptr 40 0)] [(0,.box (some bl) 25 (List.map .dat (qz s1))),(40,.box (some b2) 29 [.dat vnil,.dat vnil])] ⟨Z,Z,U⟩ ⟨Z,Z,U⟩ Z (zf (w62 hN (x9a hN Z (zg (.ptr _ _) Z) (x89 bl b2 r13.1.toNat s1 r2 h3 hN Z Z Z Z fun hv1 hv2 hv=>(x9b hN Z (lg:=[]) (zd (qf 3 kn Z) Z (zd (yz ql Z Z Z Z) Z (z9z 3 1 11 21 Z Z Z Z (z9z 3 0 10 20 Z Z Z Z (yw (ι:=zx×zt) (fun i=>[(2,.ptr 40 0),(3,.ptr 3 0)]) (fun i=>[(0,.box (some bl) 25 (List.map .dat (qz i.2))),(40,.box (some b2) 29 [.dat vnil,.dat vnil]),(3,.box none 29 [.row 20 i.1.Products.length,.row 21 i.1.Plans.length]),(20,.row 79 2 (List.map yt i.1.Products)),(21,.row 84 8 (List.map ym i.1.Plans))]) (fun i=>some i=some r) (fun i=>Z) ?_ ?_)))))))))))))
   ·skip
    refine zc hN Z (za (zj jk Z) (ze (zl jj Z Z) Z (ze (yf (y5a Zs Z Z) (by rw [ju])) Z ?_)))
    refine za (wz Z Z) (qd Z (qv (j:=4) Z Z (fun h4 => ?_) (fun h4=>by have h8:=un2 h4; rw [hc] at h8; cases h8) Z))
    refine hE (un1 h4) fun h5=>zo Z Z h4 (zg (.ptr _ _) Z) (y1k Z Z h4 (yo (kw r2.2 12 r6 h7) Z ⟨.inl Z,U⟩ Z) Z (za (qt Z (bTT h5) Z) (zi r6.1 Z (fun h12 => ?_) (fun h12=>by rw [hf] at h12; cases h12))))
    refine zf (wl mixed hN Z Z (za (zj jk Z) (ze (zl jj Z Z) Z (za (zg (.ptr _ _) Z) (za (zj jk Z) (ze (zl jj Z Z) Z (ze (yf (y5a Zs Z Z) (by rw [ju])) Z ?_)))))))
    refine zd (yo (Qb r6.2 (r2.1.Plans.length:Int) r13 h14) Z ⟨.inl Z,U⟩ Z) Z (ze (x05 xm Z Z Z (by rw [ju]; exact (qi h16).1)) Z ?_)
    refine za (qy (.rptr _ _ _ _ _) Z) ⟨Z,?_⟩
    refine zc hN Z (za (zg (.ptr _ _) Z) (bE H fun r17 h18 H=>zd (yo (Qb r13.2 6 r17 h18) Z ⟨.inl Z,U⟩ Z) Z (yd (zc hN Z (za (qc Z Z) (qe Z (zi _ Z (fun h30 => ?_) (fun h30 => ?_))))))))
    ·exact tE h30 H fun H=>z93 21 12 (List.map ym r2.1.Plans) Z Z (z47 _ _ _) (z7t _) (zq hN Z (za (zg (.rptr _ _ _ _ _) Z) (za (zg (.ptr _ _) Z) (za (yf (u':=vlst (List.map yr [[],[65],[98,105,103]])) (qa [[_],[_],[_]] vh ⟨Z,.inl ⟨_,Z,Z,Z⟩,Z,Z,.inl ⟨_,Z,Z,Z⟩,Z,Z,.inl ⟨_,Z,Z,Z⟩,Z,U⟩ Z Z) Z) (bE H fun r20 h21 H=>zd (yo (kj r17.2 ([[],[65],[98,105,103]]) r20 h21) Z ⟨.inl Z,U⟩ Z) Z (za (Zh Z) (za (Zi ux Z) (zd (Qr (ya.mk r20.1 x15.Product x15.Base x15.Free x15.Tiers x15.Limit x15.Trial x15.Asked) tyS9 Z Z Z (ju _ _ _) (qi h16).2 Z Z) Z ⟨((zx.mk r2.1.Products (r2.1.Plans.set r13.1.toNat (ya.mk r20.1 x15.Product x15.Base x15.Free x15.Tiers x15.Limit x15.Trial x15.Asked))),r20.2),H,⟨Z,Z,U⟩,⟨Z,Z,(by refine Eq.trans (b:=some (some (AObj.box none 29 [.row 20 (List.map yt r2.1.Products).length,.row 21 (glP r13.1.toNat hv r2.1.Plans).length]))) Z (by simp [ju])),Z,Z,U⟩⟩))))))))
    ·refine fE h30 H fun H=>zc hN Z (za (qc Z Z) (qe Z (zi _ Z (fun h31 => ?_) (fun h31 => ?_))))
     ·exact tE h31 H fun H=>z93 21 12 (List.map ym r2.1.Plans) Z Z (z47 _ _ _) (z7t _) (zq hN Z (za (zg (.rptr _ _ _ _ _) Z) (za (zg (.ptr _ _) Z) (za (yf (u':=vlst (List.map yr [[110,111,110,101],[]])) (qa [[_],[_]] vh ⟨Z,.inl ⟨_,Z,Z,Z⟩,Z,Z,.inl ⟨_,Z,Z,Z⟩,Z,U⟩ Z Z) Z) (bE H fun r20 h21 H=>zd (yo (kj r17.2 ([[110,111,110,101],[]]) r20 h21) Z ⟨.inl Z,U⟩ Z) Z (za (Zh Z) (za (Zi z3q Z) (zd (Qr (ya.mk x15.Key r20.1 x15.Base x15.Free x15.Tiers x15.Limit x15.Trial x15.Asked) tyS9 Z Z Z (ju _ _ _) (qi h16).2 Z Z) Z ⟨((zx.mk r2.1.Products (r2.1.Plans.set r13.1.toNat (ya.mk x15.Key r20.1 x15.Base x15.Free x15.Tiers x15.Limit x15.Trial x15.Asked))),r20.2),H,⟨Z,Z,U⟩,⟨Z,Z,(by refine Eq.trans (b:=some (some (AObj.box none 29 [.row 20 (List.map yt r2.1.Products).length,.row 21 (glP r13.1.toNat hv r2.1.Plans).length]))) Z (by simp [ju])),Z,Z,U⟩⟩))))))))
     ·refine fE h31 H fun H=>zc hN Z (za (qc Z Z) (qe Z (zi _ Z (fun h32 => ?_) (fun h32 => ?_))))
      ·refine tE h32 H fun H=>z93 21 12 (List.map ym r2.1.Plans) Z Z (z47 _ _ _) (z7t _) (zq hN Z (za (zg (.rptr _ _ _ _ _) Z) (za (zg (.rptr _ _ _ _ _) Z) (za (zg (.ptr _ _) Z) (bE H fun r20 h21 H=>zd (yo (Qa r17.2 0 1000 r20 h21) Z ⟨.inl Z,.inl Z,U⟩ Z) Z (za (zg (.ptr _ _) Z) (bE H fun r22 h23 H=>zd (yo (Qa r20.2 0 1000 r22 h23) Z ⟨.inl Z,.inl Z,U⟩ Z) Z (za (Zh Z) (za (Zi z1m Z) (zd (Qr (ya.mk x15.Key x15.Product r20.1 x15.Free x15.Tiers x15.Limit x15.Trial x15.Asked) tyS3 Z Z Z (ju _ _ _) (qi h16).2 Z Z) Z (za (Zh Z) (za (Zi z6q Z) (zd (Qr (ya.mk x15.Key x15.Product r20.1 r22.1 x15.Tiers x15.Limit x15.Trial x15.Asked) tyS3 Z Z Z (by simp [ju]) (z7c (qi h16).2) Z Z) Z ?_)))))))))))))
       exact ⟨((zx.mk r2.1.Products (r2.1.Plans.set r13.1.toNat (ya.mk x15.Key x15.Product r20.1 r22.1 x15.Tiers x15.Limit x15.Trial x15.Asked))),r22.2),H,⟨Z,Z,U⟩,⟨Z,Z,(by refine Eq.trans (b:=some (some (AObj.box none 29 [.row 20 (List.map yt r2.1.Products).length,.row 21 (glP r13.1.toNat hv r2.1.Plans).length]))) Z (by simp [ju])),Z,congrArg (fun l=>some (some (AObj.row 84 8 (List.map ym l)))) (by simp),U⟩⟩
      ·refine fE h32 H fun H=>zc hN Z (za (qc Z Z) (qe Z (zi _ Z (fun h33 => ?_) (fun h33 => ?_))))
       ·refine tE h33 H fun H=>wl mixed hN rfl rfl (za (zg (.rptr _ _ _ _ _) rfl) (za (zg (.rptr _ _ _ _ _) rfl) (za (Zh rfl) (za (Zi kz rfl) (ze (x03 kg rfl rfl (z9h _ _ _ _ (qi h16).2).1 rfl) rfl (za (zg (.ptr _ _) rfl) (bE H fun r20 h21 H=>zd (yo (Qa r17.2 1 100 r20 h21) rfl ⟨.inl rfl,.inl rfl,trivial⟩ rfl) rfl (za (zg (.ptr _ _) rfl) (bE H fun r22 h23 H=>zd (yo (Qa r20.2 0 1000000 r22 h23) rfl ⟨.inl rfl,.inl rfl,trivial⟩ rfl) rfl (za (yf (u':=vagg (wd (yp.mk r20.1 r22.1))) (vj [(0,[vint r20.1]),(1,[vint r22.1])] Wv y0l rfl ⟨rfl,.inl ⟨_,rfl,rfl,rfl⟩,rfl,rfl,.inl ⟨_,rfl,rfl,rfl⟩,rfl,trivial⟩) rfl) (za (yf (u':=vlst [wd (yp.mk r20.1 r22.1)]) (qa [_] z1l ⟨rfl,.inr rfl,rfl,trivial⟩ rfl rfl) rfl) (gE H fun h24 H=>x88 (x7d 12 22 70 z1l rfl rfl (fun h=>by cases h) (fun h=>by cases h) (by simp) (fun el h=>by simp at h; subst h; rfl) (by rw [List.length_map,(z9h _ hv _ _ (qi h16).2).2]; exact h24) rfl rfl) rfl rfl ?_))))))))))))
        refine za (Zh Z) (za (Zi kz Z) (y59 (x7r kg Z Z Z Z (z9h _ _ _ _ (qi h16).2).1 Z Z) Z Z ⟨Z,?_⟩))
        exact ⟨((zx.mk r2.1.Products (r2.1.Plans.set r13.1.toNat (ya.mk x15.Key x15.Product x15.Base x15.Free (x15.Tiers++[(yp.mk r20.1 r22.1)]) x15.Limit x15.Trial x15.Asked))),r22.2),H,⟨Z,Z,U⟩,⟨Z,Z,(by refine Eq.trans (b:=some (some (AObj.box none 29 [.row 20 (List.map yt r2.1.Products).length,.row 21 (glP r13.1.toNat hv r2.1.Plans).length]))) Z (by simp [ju])),Z,congrArg (fun es=>some (some (AObj.row 84 8 es))) (w4u r13.1.toNat hv r2.1.Plans x15 (yp.mk r20.1 r22.1) (qi h16).2),U⟩⟩
       ·refine fE h33 H fun H=>zc hN Z (za (qc Z Z) (qe Z (zi _ Z (fun h34 => ?_) (fun h34 => ?_))))
        ·refine tE h34 H fun H=>z93 21 12 (List.map ym r2.1.Plans) Z Z (z47 _ _ _) (z7t _) (zq hN Z (za (zg (.rptr _ _ _ _ _) Z) (za (zg (.rptr _ _ _ _ _) Z) (za (zg (.ptr _ _) Z) (bE H fun r20 h21 H=>zd (yo (Qa r17.2 (-1) 100 r20 h21) Z ⟨.inl Z,.inl Z,U⟩ Z) Z (za (zg (.ptr _ _) Z) (bE H fun r22 h23 H=>zd (yo (Qa r20.2 0 132 r22 h23) Z ⟨.inl Z,.inl Z,U⟩ Z) Z (za (Zh Z) (za (Zi y4z Z) (zd (Qr (ya.mk x15.Key x15.Product x15.Base x15.Free x15.Tiers r20.1 x15.Trial x15.Asked) tyS3 Z Z Z (ju _ _ _) (qi h16).2 Z Z) Z (za (Zh Z) (za (Zi z6p Z) (zd (Qr (ya.mk x15.Key x15.Product x15.Base x15.Free x15.Tiers r20.1 r22.1 x15.Asked) tyS3 Z Z Z (by simp [ju]) (z7c (qi h16).2) Z Z) Z ?_)))))))))))))
         exact ⟨((zx.mk r2.1.Products (r2.1.Plans.set r13.1.toNat (ya.mk x15.Key x15.Product x15.Base x15.Free x15.Tiers r20.1 r22.1 x15.Asked))),r22.2),H,⟨Z,Z,U⟩,⟨Z,Z,(by refine Eq.trans (b:=some (some (AObj.box none 29 [.row 20 (List.map yt r2.1.Products).length,.row 21 (glP r13.1.toNat hv r2.1.Plans).length]))) Z (by simp [ju])),Z,congrArg (fun l=>some (some (AObj.row 84 8 (List.map ym l)))) (by simp),U⟩⟩
        ·refine fE h34 H fun H=>z93 21 12 (List.map ym r2.1.Plans) Z Z (z47 _ _ _) (z7t _) (wl mixed hN Z Z (za (zj z0f Z) (ze (zl z0b Z Z) Z (za (zg (.ptr _ _) Z) (za (yf (u':=vlst (List.map yr [[122,122],[115,104,111,112],[]])) (qa [[_],[_],[_]] vh ⟨Z,.inl ⟨_,Z,Z,Z⟩,Z,Z,.inl ⟨_,Z,Z,Z⟩,Z,Z,.inl ⟨_,Z,Z,Z⟩,Z,U⟩ Z Z) Z) (bE H fun r20 h21 H=>zd (yo (kj r17.2 ([[122,122],[115,104,111,112],[]]) r20 h21) Z ⟨.inl Z,U⟩ Z) Z (za (zg (.ptr _ _) Z) (bE H fun r22 h23 H=>zd (yo (w3v r20.2 r22 h23) Z U Z) Z (za (yf (u':=vagg (yt (yh.mk r20.1 r22.1))) (vj [(0,[vstr r20.1]),(1,[vlst (List.map yr r22.1)])] Qi z3o Z ⟨Z,.inl ⟨_,Z,Z,Z⟩,Z,Z,.inl ⟨_,Z,Z,Z⟩,Z,U⟩) Z) (za (yf (u':=vlst (List.map yt [(yh.mk r20.1 r22.1)])) (qa [_] z6o ⟨Z,.inr Z,Z,U⟩ Z Z) Z) (gE H fun h24 H=>zd (je z6o (fun _=>Z) Z (by simp) Z ⟨by simp,by first | (simp; done) | simpa using h24⟩ Z) Z ?_)))))))))))
         refine za (zj z0f Z) (Ye (Yc z0b Z Z (by rw [List.length_map]) Z) Z Z ?_)
         refine ⟨Z,?_⟩
         exact ⟨((zx.mk (r2.1.Products++[(yh.mk r20.1 r22.1)]) r2.1.Plans),r22.2),H,⟨Z,Z,U⟩,⟨Z,Z,(by refine Eq.trans (b:=some (some (AObj.box none 29 [.row 20 (r2.1.Products++[(yh.mk r20.1 r22.1)]).length,.row 21 (glP r13.1.toNat hv r2.1.Plans).length]))) Z (by simp [ju])),Z,Z,U⟩⟩
   ·rintro i H
    refine zf (z94 3 0 20 Z Z Z (by rw [List.length_map]) ?_)
    refine z94 3 1 21 Z Z Z (by rw [List.length_map]) ?_
    refine zq hN Z (ze (yg ql Z Z Z) Z (zd (yz ql Z Z Z Z) Z (zn ?_)))
    cases H
    exact ⟨U,⟨.inl ⟨_,_,_,yy r.1,Z,Z,Z,Z,ql⟩,U⟩,Z⟩
theorem w1v (s1:zt) (r:((List zy)×zt)) (H:z8u s1=some r):FnG Tryz.prog 47 [.ptr 0 0] [(0,.box (some 0) 25 (List.map .dat (qz s1)))] (.row 2 r.1.length) [(0,.box (some 0) 25 (List.map .dat (qz r.2))),(2,.row 94 2 (List.map yk r.1))]:=by
 refine uv (by kernel_rfl) Tryz.func47 Z Z Z Z fun X A hN => ?_
 unfold z8u at H
 refine zc hN Z (qe Z (zc hN Z (za (yf (u':=vagg (yk (zy.mk [97,112,112,49] [97,110,110]))) (vj [(0,[vstr [97,112,112,49]]),(1,[vstr [97,110,110]])] Wu y0i Z ⟨Z,.inl ⟨_,Z,Z,Z⟩,Z,Z,.inl ⟨_,Z,Z,Z⟩,Z,U⟩) Z) (za (zg (.ptr _ _) Z) (za (yf (u':=vlst (List.map yr [[97,110,110],[98,111,98]])) (qa [[_],[_]] vh ⟨Z,.inl ⟨_,Z,Z,Z⟩,Z,Z,.inl ⟨_,Z,Z,Z⟩,Z,U⟩ Z Z) Z) (bE H fun r2 h3 H=>zd (yo (kj s1 ([[97,110,110],[98,111,98]]) r2 h3) Z ⟨.inl Z,U⟩ Z) Z (za (yf (u':=vagg (yk (zy.mk [97,112,112,50] r2.1))) (vj [(0,[vstr [97,112,112,50]]),(1,[vstr r2.1])] Wu y0i Z ⟨Z,.inl ⟨_,Z,Z,Z⟩,Z,Z,.inl ⟨_,Z,Z,Z⟩,Z,U⟩) Z) (za (yf (u':=vagg (yk (zy.mk [97,112,112,51] [98,111,98]))) (vj [(0,[vstr [97,112,112,51]]),(1,[vstr [98,111,98]])] Wu y0i Z ⟨Z,.inl ⟨_,Z,Z,Z⟩,Z,Z,.inl ⟨_,Z,Z,Z⟩,Z,U⟩) Z) (zd (y0v (C:=yk) 1 ([(zy.mk [97,112,112,49] [97,110,110]),(zy.mk [97,112,112,50] r2.1),(zy.mk [97,112,112,51] [98,111,98])]:(List zy)) y4w ⟨Z,.inr Z,Z,Z,.inr Z,Z,Z,.inr Z,Z,U⟩ Z Z Z) Z (za (qy (.row _ _) Z) (zc hN Z (za (zg (.row _ _) Z) (za (zg (.ptr _ _) Z) (za (yf (u':=vlst (List.map qn [1,2,3,3])) (qa [[_],[_],[_],[_]] vx ⟨Z,.inl ⟨_,Z,Z,Z⟩,Z,Z,.inl ⟨_,Z,Z,Z⟩,Z,Z,.inl ⟨_,Z,Z,Z⟩,Z,Z,.inl ⟨_,Z,Z,Z⟩,Z,U⟩ Z Z) Z) (bE H fun r4 h5 H=>zd (yo (jo r2.2 [1,2,3,3] r4 h5) Z ⟨.inl Z,U⟩ Z) Z (gE H fun h6 H=>y59 (x0s (C:=yk) 2 Zy Z Z Z h6) Z Z (za (qy (.row _ _) Z) (zn ?_))))))))))))))))))
 cases H
 exact ⟨U,[(2,.row 2 _)],⟨Z,U⟩,⟨Z,Z,U⟩,Z,.inr (.inl ⟨2,Z,congrArg (Slot.row 2) (by first | exact y8w (by assumption) | (simp <;> omega))⟩)⟩
theorem w31 (s1:zt) (r:((List zy)×zt)) (H:z8y s1=some r):Imp Tryz.prog 19 25 (qz s1) [] (yc [vlst (List.map yk r.1)]) (qz r.2):=by
 refine kx (us:=[vlst (List.map yk r.1)]) (cs':=(qz r.2)) (by kernel_rfl) Tryz.func19 Z Z Z Z fun X bl hN => ?_
 unfold z8y at H
 refine zc hN Z (qe Z (zc hN Z (za (zg (.ptr _ _) Z) (bE H fun r2 h3 H=>ue (rn [(0,0),(2,1)]) [(0,_,_,some _)] [(2,_)] (w1v s1 r2 h3) ⟨Z,Z,U⟩ ⟨.inl (.inl Z),U⟩ ⟨⟨⟨Z,Z⟩,U⟩,U⟩ Z (za (qy (.row _ _) Z) (yw (ι:=(List zy)×(List Int)×Int) (fun i=>[(3,.row 1 i.1.length)]) (fun i=>[(0,.box (some bl) 25 [.dat (vlst (List.map qn i.2.1)),.dat (vint i.2.2)]),(1,.row 94 2 (List.map yk i.1))]) (fun i=>z5v i.1 i.2.1 i.2.2=some r) (fun i=>Z) ?_ ?_))))))
 ·skip
  refine zc hN Z (za (zg (.ptr _ _) Z) (bE H fun r4 h5 H=>zd (yo (kw r2.2 20 r4 h5) Z ⟨.inl Z,U⟩ Z) Z (zi _ Z (fun h6 => ?_) (fun h6 => ?_))))
  ·refine tE h6 H fun H=>zq hN Z (za (zg (.row _ _) Z) (za (zg (.ptr _ _) Z) (za (yf (u':=vlst (List.map yr [[],[97,112,112,49],[122,122]])) (qa [[_],[_],[_]] vh ⟨Z,.inl ⟨_,Z,Z,Z⟩,Z,Z,.inl ⟨_,Z,Z,Z⟩,Z,Z,.inl ⟨_,Z,Z,Z⟩,Z,U⟩ Z Z) Z) (bE H fun r7 h8 H=>zd (yo (kj r4.2 ([[],[97,112,112,49],[122,122]]) r7 h8) Z ⟨.inl Z,U⟩ Z) Z (za (zg (.ptr _ _) Z) (za (yf (u':=vlst (List.map yr [[97,110,110],[]])) (qa [[_],[_]] vh ⟨Z,.inl ⟨_,Z,Z,Z⟩,Z,Z,.inl ⟨_,Z,Z,Z⟩,Z,U⟩ Z Z) Z) (bE H fun r9 h10 H=>zd (yo (kj r7.2 ([[97,110,110],[]]) r9 h10) Z ⟨.inl Z,U⟩ Z) Z (za (yf (u':=vagg (yk (zy.mk r7.1 r9.1))) (vj [(0,[vstr r7.1]),(1,[vstr r9.1])] Wu y0i Z ⟨Z,.inl ⟨_,Z,Z,Z⟩,Z,Z,.inl ⟨_,Z,Z,Z⟩,Z,U⟩) Z) (za (yf (u':=vlst (List.map yk [(zy.mk r7.1 r9.1)])) (qa [_] y4w ⟨Z,.inr Z,Z,U⟩ Z Z) Z) (gE H fun h11 H=>zd (je y4w (fun _=>Z) Z Z Z ⟨by simp,by first | (simp; done) | simpa using h11⟩ Z) Z ?_))))))))))
   exact za (qy (.row _ _) Z) ⟨((r2.1++[(zy.mk r7.1 r9.1)]),r9.2.L,r9.2.at_),H,⟨Z,U⟩,⟨Z,Z,U⟩⟩
  ·exact fE h6 H fun H=>zp ⟨(r2.1,r4.2.L,r4.2.at_),H,⟨Z,U⟩,⟨Z,Z,U⟩⟩
 ·rintro ⟨out12,c13,c14⟩ H
  replace H:z5v out12 c13 c14=some r:=H
  unfold z5v at H
  refine zc hN Z (za (zg (.row _ _) Z) (za (qy (.row _ _) Z) (zn ?_)))
  cases H
  exact ⟨U,⟨xn Z Z,U⟩,Z⟩
end Go.Proofs.YtnnfdgngnoamoaaGreatDoor
