/- Walks along the models. Printed by a program. -/
import Derived.Test.YtndabcepiekebaaGreatDoorZkc
namespace Go.Proofs.YtndabcepiekebaaGreatDoor
open Go.RowKit
set_option linter.unusedVariables false
set_option maxRecDepth 100000
set_option maxHeartbeats 2000000
theorem y8u (x1:Int) (n2:Int) (r:(Int)) (H:z2c x1 n2=some r):Fn Tryz.prog 120 [vint x1,vint n2] (zw [vint r]):=by
 refine ⟨by kernel_rfl,yd (us:=[vint r]) Tryz.func120 Z Z Z Z fun X hN => ?_⟩
 unfold z2c at H
 refine zb hN Z (qe Z (ze (zb hN Z (qd Z (za (zy Z Z) (zg _ Z (fun h3 => ?_) (fun h3 => ?_)))))))
 ·refine tE h3 H fun H=>zb hN Z (qe Z (zh ?_))
  cases H
  exact ⟨U,.inl Z,U⟩
 ·refine fE h3 H fun H=>zk (zb hN Z (qd Z (qd Z (gE H fun h4 H=>za (x06 Z Z h4) (qe Z (yf (ι:=Int) (fun i=>[(0,.dat (vint i))]) (fun i=>[]) (fun i=>z65 i=some r) (fun i=>Z) ?_ ?_))))))
  ·skip
   refine zb hN Z (qd Z (za (zy Z Z) (zg _ Z (fun h5 => ?_) (fun h5 => ?_))))
   ·exact tE h5 H fun H=>zq hN Z (qd Z (qd Z (za (yw _ Z Z (.inl ⟨Z,Z⟩)) (qe Z ⟨wr ((Int.tmod x1 n2)+n2),H,⟨Z,U⟩,U⟩))))
   ·exact fE h5 H fun H=>zk ⟨(Int.tmod x1 n2),H,⟨Z,U⟩,U⟩
  ·rintro x6 H
   replace H:z65 x6=some r:=H
   unfold z65 at H
   refine zb hN Z (qd Z (qe Z (zh ?_)))
   cases H
   exact ⟨U,.inl Z,U⟩
theorem Zk (s1:zt) (n2:Int) (r:(Int×zt)) (H:uf s1 n2=some r):Imp Tryz.prog 57 25 (qr s1) [vint n2] (zw [vint r.1]) (qr r.2):=by
 refine jo (us:=[vint r.1]) (cs':=(qr r.2)) (by kernel_rfl) Tryz.func57 Z Z Z Z fun X bl hN => ?_
 unfold uf at H
 refine zb hN Z (qe Z (zb hN Z (za (zf (.ptr _ _) Z) (za (wu Z) (za (zn z7p Z) (zu (zp tyS3 Z Z) Z (za (yw _ Z Z (.inl ⟨Z,Z⟩)) (za (wu Z) (za (zn z7p Z) (zi (wn tyS3 Z Z Z Z) Z (ze (zb hN Z (za (zf (.ptr _ _) Z) (za (wu Z) (za (zn y2b Z) (zu (zp y11 Z Z) Z (za (yo y1x Z) (za (ql Z Z) (zg _ Z (fun h3 => ?_) (fun h3 => ?_))))))))))))))))))))
 ·refine tE h3 H fun H=>zb hN Z (za (zf (.ptr _ _) Z) (za (wu Z) (za (zn z7p Z) (zu (zp tyS3 Z Z) Z (za (yw _ Z Z (.inr (.inr ⟨Z,Z⟩))) (qd Z (bE H fun r4 h5 H=>za (zl (y8u (wr ((wr (s1.at_+1)) * 7919)) n2 r4 h5) ⟨.inl Z,.inl Z,U⟩) (qe Z (zh ?_)))))))))
  cases H
  exact ⟨U,⟨.inl Z,U⟩,Z⟩
 ·refine fE h3 H fun H=>zk (ze (wx mixed hN Z Z (za (zf (.ptr _ _) Z) (za (wu Z) (za (zn z7p Z) (zu (zp tyS3 Z Z) Z (za (yw _ Z Z (.inr (.inl ⟨Z,Z⟩))) (za (zf (.ptr _ _) Z) (za (wu Z) (za (zn y2b Z) (zu (zp y11 Z Z) Z (za (yo y1x Z) (gE H fun h6 H=>za (x06 Z Z h6) (qe Z ⟨Z,?_⟩))))))))))))))
  refine ze (wx mixed hN Z Z (za (zf (.ptr _ _) Z) (za (wu Z) (za (zn z7p Z) (zu (zp tyS3 Z Z) Z (za (yw _ Z Z (.inr (.inl ⟨Z,Z⟩))) (za (zf (.ptr _ _) Z) (za (wu Z) (za (zn y2b Z) (zu (zp y11 Z Z) Z (za (yo y1x Z) (gE H fun h7 H=>za (x83 Z Z h7.1 h7.2) (qe Z ⟨Z,?_⟩)))))))))))))
  refine zb hN Z (za (zf (.ptr _ _) Z) (za (wu Z) (za (zn y2b Z) (zu (zp y11 Z Z) Z (qd Z (bE H fun x8 h9 H=>za (jm x0t (fun _=>Z) Z Z h9) (za (yj tyS3 Z (yy (vu h9).2) Z) (bE H fun r10 h11 H=>za (zl (y8u x8 1073741824 r10 h11) ⟨.inl Z,.inl Z,U⟩) (qd Z (qd Z (za (yw _ Z Z (.inl ⟨Z,Z⟩)) (za (yw _ Z Z (.inr (.inr ⟨Z,Z⟩))) (za (yw _ Z Z (.inl ⟨Z,Z⟩)) (qd Z (bE H fun r12 h13 H=>za (zl (y8u (wr (r10+(wr (((wr ((wr (s1.at_+1)) - 1)) / (s1.L.length:Int)) * (wr (7919+(Int.tmod (wr ((wr (s1.at_+1)) - 1)) (s1.L.length:Int)))))))) n2 r12 h13) ⟨.inl Z,.inl Z,U⟩) (qe Z (zh ?_)))))))))))))))))
  cases H
  exact ⟨U,⟨.inl Z,U⟩,Z⟩
theorem y0q (s1:zt) (low2:Int) (high3:Int) (r:(Int×zt)) (H:z0d s1 low2 high3=some r):Imp Tryz.prog 101 25 (qr s1) [vint low2,vint high3] (zw [vint r.1]) (qr r.2):=by
 refine jo (us:=[vint r.1]) (cs':=(qr r.2)) (by kernel_rfl) Tryz.func101 Z Z Z Z fun X bl hN => ?_
 unfold z0d at H
 refine zb hN Z (qe Z (ze (zb hN Z (qd Z (qd Z (za (zy Z Z) (zg _ Z (fun h4 => ?_) (fun h4 => ?_))))))))
 ·refine tE h4 H fun H=>zb hN Z (qd Z (qe Z (zh ?_)))
  cases H
  exact ⟨U,⟨.inl Z,U⟩,Z⟩
 ·refine fE h4 H fun H=>zk (zb hN Z (qd Z (za (zf (.ptr _ _) Z) (qd Z (qd Z (za (yw _ Z Z (.inr (.inl ⟨Z,Z⟩))) (za (yw _ Z Z (.inl ⟨Z,Z⟩)) (bE H fun r5 h6 H=>zi (yk (Zk s1 (wr ((wr (high3 - low2))+1)) r5 h6) Z ⟨.inl Z,U⟩ Z) Z (za (yw _ Z Z (.inl ⟨Z,Z⟩)) (qe Z (zh ?_)))))))))))
  cases H
  exact ⟨U,⟨.inl Z,U⟩,Z⟩
theorem uu (s1:zt) (l2:(List Int)) (r:(Int×zt)) (H:kh s1 l2=some r):Imp Tryz.prog 14 25 (qr s1) [vlst (List.map qz l2)] (zw [vint r.1]) (qr r.2):=by
 refine jo (us:=[vint r.1]) (cs':=(qr r.2)) (by kernel_rfl) Tryz.func14 Z Z Z Z fun X bl hN => ?_
 unfold kh at H
 refine zb hN Z (qe Z (zb hN Z (qd Z (za (zf (.ptr _ _) Z) (qd Z (za (yo y1x Z) (bE H fun r3 h4 H=>zi (yk (Zk s1 (l2.length:Int) r3 h4) Z ⟨.inl Z,U⟩ Z) Z (bE H fun x5 h6 H=>za (jm x0t (fun _=>Z) Z Z h6) (za (yj tyS3 Z (yy (vu h6).2) Z) (qe Z (zh ?_)))))))))))
 cases H
 exact ⟨U,⟨.inl Z,U⟩,Z⟩
theorem ji (s1:zt) (l2:(List Bs)) (r:(Bs×zt)) (H:ja s1 l2=some r):Imp Tryz.prog 39 25 (qr s1) [vlst (List.map zo l2)] (zw [vstr r.1]) (qr r.2):=by
 refine jo (us:=[vstr r.1]) (cs':=(qr r.2)) (by kernel_rfl) Tryz.func39 Z Z Z Z fun X bl hN => ?_
 unfold ja at H
 refine zb hN Z (qe Z (zb hN Z (qd Z (za (zf (.ptr _ _) Z) (qd Z (za (yo qm Z) (bE H fun r3 h4 H=>zi (yk (Zk s1 (l2.length:Int) r3 h4) Z ⟨.inl Z,U⟩ Z) Z (bE H fun x5 h6 H=>za (jm qv (fun _=>Z) Z Z h6) (za (yj tyS9 Z (yy (vu h6).2) Z) (qe Z (zh ?_)))))))))))
 cases H
 exact ⟨U,⟨.inl Z,U⟩,Z⟩
theorem kz (s1:zt) (n2:Int) (r:(Bool×zt)) (H:jx s1 n2=some r):Imp Tryz.prog 38 25 (qr s1) [vint n2] (zw [zj r.1]) (qr r.2):=by
 refine jo (us:=[zj r.1]) (cs':=(qr r.2)) (by kernel_rfl) Tryz.func38 Z Z Z Z fun X bl hN => ?_
 unfold jx at H
 refine zb hN Z (qe Z (zb hN Z (za (zf (.ptr _ _) Z) (qd Z (bE H fun r3 h4 H=>zi (yk (Zk s1 n2 r3 h4) Z ⟨.inl Z,U⟩ Z) Z (za (ql Z Z) (qe Z (zh ?_))))))))
 cases H
 exact ⟨U,⟨.inl Z,U⟩,Z⟩
theorem w2w (s1:zt) (r:((List ya)×zt)) (H:z99 s1=some r):FnG Tryz.prog 98 [.ptr 0 0] [(0,.box (some 0) 25 (List.map .dat (qr s1)))] (.row 1 r.1.length) [(0,.box (some 0) 25 (List.map .dat (qr r.2))),(1,.row 123 5 (List.map wg r.1))]:=by
 refine z66 (by kernel_rfl) Tryz.func98 Z Z Z Z fun X A hN => ?_
 unfold z99 at H
 refine zb hN Z (qe Z (zb hN Z (qe Z (zb hN Z (qe Z (ze (zb hN Z (za (ye (u':=vlst (List.map zo [[115,49],[115,50],[115,51]])) (qa [[_],[_],[_]] qn ⟨Z,.inl ⟨_,Z,Z,Z⟩,Z,Z,.inl ⟨_,Z,Z,Z⟩,Z,Z,.inl ⟨_,Z,Z,Z⟩,Z,U⟩ Z Z) Z) (za (zf (.ptr _ _) Z) (bE H fun r2 h3 H=>zi (yk (y0q s1 0 3 r2 h3) Z ⟨.inl Z,.inl Z,U⟩ Z) Z (bE H fun l4 h5 H=>za (z1d qv (fun _=>Z) Z Z Z h5) (za (yo qm Z) (qd Z (zx (uh 3 1 123 5 Z Z Z (gE H fun h12 H=>wi (fun (k10:Nat) (s:Int×(List Int)×Int×(List ya))=>[(0,.ptr 0 0),(3,.row 1 s.2.2.2.length),(4,.dat (vint s.1)),(11,.dat (vlst (List.map zo l4))),(12,.dat (vint (l4.length:Int))),(13,.dat (vint (k10:Int)))]) (fun (k10:Nat) (s:Int×(List Int)×Int×(List ya))=>[(0,.box (some (A.bl 0)) 25 [.dat (vlst (List.map qz s.2.1)),.dat (vint s.2.2.1)]),(1,.row 123 5 (List.map wg s.2.2.2))]) (0,r2.2.L,r2.2.at_,[]) H ⟨Z,Z,Z,Z,Z,Z,U⟩ ⟨Z,Z,U⟩ (fun _ _=>Z) ?_ ?_))))))))))))))))
 ·rintro ⟨v6,c7,c8,l9⟩ H
  replace H:y89 v6 c7 c8 l9=some r:=H
  unfold y89 at H
  refine zb hN Z (za (zy Z Z) (ze (zg _ Z (fun h=>(lt_t h).elim) (fun h => ?_))))
  refine qg (zb hN Z (za (zf (.row _ _) Z) (za (wm (.row _ _) Z) (zh ?_))))
  cases H
  exact ⟨U,[(2,.row 1 _)],⟨Z,U⟩,⟨Z,Z,U⟩,Z,.inr (.inl ⟨2,Z,Z⟩)⟩
 ·rintro k10 x13 ⟨v6,c7,c8,l9⟩ q11 h14 h15 H hq11
  replace H:y5k k10 x13 v6 c7 c8 l9=some q11:=H
  unfold y5k at H
  refine zb hN Z (za (zy Z Z) (ze (zg _ Z (fun h => ?_) (fun h=>(lt_f h14 h).elim))))
  refine zk (ze (zx (zb hN Z (za (qu qv (fun _=>Z) Z Z h15) (za (yj tyS9 Z (yy h15) Z) (qe Z (zb hN Z (qd Z (za (zf (.ptr _ _) Z) (za (ye (u':=vlst (List.map qz [0,10,50,100])) (qa [[_],[_],[_],[_]] uj ⟨Z,.inl ⟨_,Z,Z,Z⟩,Z,Z,.inl ⟨_,Z,Z,Z⟩,Z,Z,.inl ⟨_,Z,Z,Z⟩,Z,Z,.inl ⟨_,Z,Z,Z⟩,Z,U⟩ Z Z) Z) (bE H fun r16 h17 H=>zi (yk (uu (zt.mk c7 c8) [0,10,50,100] r16 h17) Z ⟨.inl Z,U⟩ Z) Z (za (yw _ Z Z (.inl ⟨Z,Z⟩)) (qe Z (zb hN Z (qd Z (za (zf (.ptr _ _) Z) (za (ye (u':=vlst (List.map zo [[111,110,101],[116,119,111],[107,33]])) (qa [[_],[_],[_]] qn ⟨Z,.inl ⟨_,Z,Z,Z⟩,Z,Z,.inl ⟨_,Z,Z,Z⟩,Z,Z,.inl ⟨_,Z,Z,Z⟩,Z,U⟩ Z Z) Z) (bE H fun r18 h19 H=>zi (yk (ji r16.2 ([[111,110,101],[116,119,111],[107,33]]) r18 h19) Z ⟨.inl Z,U⟩ Z) Z (qd Z (za (ye (u':=vagg (wg (ya.mk x13 r18.1 (wr (v6+r16.1)) 0 0))) (qt [(0,[vstr x13]),(1,[vstr r18.1]),(2,[vint (wr (v6+r16.1))])] Qu x0i Z ⟨Z,.inl ⟨_,Z,Z,Z⟩,Z,Z,.inl ⟨_,Z,Z,Z⟩,Z,Z,.inl ⟨_,Z,Z,Z⟩,Z,U⟩) Z) (zi (we 2 Qu Z) Z ?_)))))))))))))))))))))
  refine zi (yp ub Z Z Z Z) Z (zb hN Z (qd Z (za (zf (.ptr _ _) Z) (za (ye (u':=vlst (List.map qz [0,10,100,200])) (qa [[_],[_],[_],[_]] uj ⟨Z,.inl ⟨_,Z,Z,Z⟩,Z,Z,.inl ⟨_,Z,Z,Z⟩,Z,Z,.inl ⟨_,Z,Z,Z⟩,Z,Z,.inl ⟨_,Z,Z,Z⟩,Z,U⟩ Z Z) Z) (bE H fun r20 h21 H=>zi (yk (uu r18.2 [0,10,100,200] r20 h21) Z ⟨.inl Z,U⟩ Z) Z (za (yw _ Z Z (.inl ⟨Z,Z⟩)) (za (zn We Z) (zi (wn tyS3 Z Z Z Z) Z (ze (wx mixed hN Z Z (za (zn We Z) (zu (zp tyS3 Z Z) Z (za (zf (.ptr _ _) Z) (za (ye (u':=vlst (List.map qz [0,5,100,1000])) (qa [[_],[_],[_],[_]] uj ⟨Z,.inl ⟨_,Z,Z,Z⟩,Z,Z,.inl ⟨_,Z,Z,Z⟩,Z,Z,.inl ⟨_,Z,Z,Z⟩,Z,Z,.inl ⟨_,Z,Z,Z⟩,Z,U⟩ Z Z) Z) (bE H fun r22 h23 H=>zi (yk (uu r20.2 [0,5,100,1000] r22 h23) Z ⟨.inl Z,U⟩ Z) Z (za (yw _ Z Z (.inl ⟨Z,Z⟩)) (za (zn Wd Z) (zi (wn tyS3 Z Z Z Z) Z ⟨Z,?_⟩))))))))))))))))))
  refine zq hN Z (za (zf (.row _ _) Z) (zu (vo ub Z Z Z) Z (za (ye (u':=vlst (List.map wg [(ya.mk x13 r18.1 (wr (v6+r16.1)) (wr ((wr (v6+r16.1))+r20.1)) (wr ((wr ((wr (v6+r16.1))+r20.1))+r22.1)))])) (qa [_] x0l ⟨Z,.inr Z,Z,U⟩ Z Z) Z) (gE H fun h24 H=>zi (jt x0l (fun _=>Z) Z Z Z ⟨by simp,by first | (simp; done) | simpa using h24⟩ Z) Z ?_))))
  exact za (wm (.row _ _) Z) (zq hN Z (za (qw Z Z (by omega)) (qd Z ⟨_,qk H,⟨Z,Z,Z,Z,Z,Z,U⟩,⟨Z,Z,U⟩⟩)))
theorem y4q (s:Bs) (n:Int) (r:Bs) (H:Zh s n=some r):Fn Tryz.prog 159 [vstr s,vint n] (zw [vstr r]):=by
 obtain ⟨h0,h1,h2,rfl⟩:=w09 H
 obtain ⟨c,rfl⟩:=Int.eq_ofNat_of_zero_le h0
 refine y50 (by kernel_rfl) fun M w vs h => ?_
 have hv:=kr (us:=[.string ⟨s.toArray⟩,.int .i64 c]) h
 subst hv
 have hs:(ByteArray.mk s.toArray).size=s.length:=by simp [ByteArray.size]
 refine (Tryz.strings_Repeat ⟨s.toArray⟩ c w (by omega) (by rw [hs]; exact Nat.le_trans (Nat.mul_le_mul h2 (show c≤1000000 by omega)) (by decide))).mono ?_
 rintro e w' ⟨rfl,hb⟩
 exact ⟨_,Z,by simp [zw,vstr,vval],Kp.of_below hb⟩
theorem w5j (s1:zt) (r:(Bs×zt)) (H:z96 s1=some r):Imp Tryz.prog 99 25 (qr s1) [] (zw [vstr r.1]) (qr r.2):=by
 refine jo (us:=[vstr r.1]) (cs':=(qr r.2)) (by kernel_rfl) Tryz.func99 Z Z Z Z fun X bl hN => ?_
 unfold z96 at H
 refine zb hN Z (qe Z (zb hN Z (za (zf (.ptr _ _) Z) (bE H fun r2 h3 H=>za (zl (y4q [115] 101 r2 h3) ⟨.inl Z,.inl Z,U⟩) (za (ye (u':=vlst (List.map zo [[111,110,101],[116,119,111],[116,104,114,101,101],[107,33],[111,110,101],[],[97,32,98],[127],r2])) (qa [[_],[_],[_],[_],[_],[_],[_],[_],[_]] qn ⟨Z,.inl ⟨_,Z,Z,Z⟩,Z,Z,.inl ⟨_,Z,Z,Z⟩,Z,Z,.inl ⟨_,Z,Z,Z⟩,Z,Z,.inl ⟨_,Z,Z,Z⟩,Z,Z,.inl ⟨_,Z,Z,Z⟩,Z,Z,.inl ⟨_,Z,Z,Z⟩,Z,Z,.inl ⟨_,Z,Z,Z⟩,Z,Z,.inl ⟨_,Z,Z,Z⟩,Z,Z,.inl ⟨_,Z,Z,Z⟩,Z,U⟩ Z Z) Z) (bE H fun r4 h5 H=>zi (yk (ji s1 ([[111,110,101],[116,119,111],[116,104,114,101,101],[107,33],[111,110,101],[],[97,32,98],[127],r2]) r4 h5) Z ⟨.inl Z,U⟩ Z) Z (qe Z (zh ?_))))))))
 cases H
 exact ⟨U,⟨.inl Z,U⟩,Z⟩
theorem z50 (s1:zt) (low2:Int) (high3:Int) (r:(Int×zt)) (H:Yf s1 low2 high3=some r):Imp Tryz.prog 40 25 (qr s1) [vint low2,vint high3] (zw [vint r.1]) (qr r.2):=by
 refine jo (us:=[vint r.1]) (cs':=(qr r.2)) (by kernel_rfl) Tryz.func40 Z Z Z Z fun X bl hN => ?_
 unfold Yf at H
 refine zb hN Z (qe Z (ze (zb hN Z (za (zf (.ptr _ _) Z) (bE H fun r4 h5 H=>zi (yk (kz s1 12 r4 h5) Z ⟨.inl Z,U⟩ Z) Z (zg _ Z (fun h6 => ?_) (fun h6 => ?_)))))))
 ·refine tE h6 H fun H=>zb hN Z (za (zf (.ptr _ _) Z) (qd Z (za (yw _ Z Z (.inr (.inl ⟨Z,Z⟩))) (qd Z (za (yw _ Z Z (.inl ⟨Z,Z⟩)) (qd Z (qd Z (za (ye (u':=vlst (List.map qz [wr (low2 - 1),wr (high3+1),low2,high3,(-1099511627776),1099511627776])) (qa [[_],[_],[_],[_],[_],[_]] uj ⟨Z,.inl ⟨_,Z,Z,Z⟩,Z,Z,.inl ⟨_,Z,Z,Z⟩,Z,Z,.inl ⟨_,Z,Z,Z⟩,Z,Z,.inl ⟨_,Z,Z,Z⟩,Z,Z,.inl ⟨_,Z,Z,Z⟩,Z,Z,.inl ⟨_,Z,Z,Z⟩,Z,U⟩ Z Z) Z) (bE H fun r7 h8 H=>zi (yk (uu r4.2 [wr (low2 - 1),wr (high3+1),low2,high3,(-1099511627776),1099511627776] r7 h8) Z ⟨.inl Z,U⟩ Z) Z (qe Z (zh ?_)))))))))))
  cases H
  exact ⟨U,⟨.inl Z,U⟩,Z⟩
 ·refine fE h6 H fun H=>zk (zb hN Z (za (zf (.ptr _ _) Z) (qd Z (qd Z (bE H fun r9 h10 H=>zi (yk (y0q r4.2 low2 high3 r9 h10) Z ⟨.inl Z,.inl Z,U⟩ Z) Z (qe Z (zh ?_)))))))
  cases H
  exact ⟨U,⟨.inl Z,U⟩,Z⟩
theorem w5i (s1:zt) (r:((List ya)×zt)) (H:z95 s1=some r):Imp Tryz.prog 36 25 (qr s1) [] (zw [vlst (List.map wg r.1)]) (qr r.2):=by
 refine jo (us:=[vlst (List.map wg r.1)]) (cs':=(qr r.2)) (by kernel_rfl) Tryz.func36 Z Z Z Z fun X bl hN => ?_
 unfold z95 at H
 refine zb hN Z (qe Z (zb hN Z (za (zf (.ptr _ _) Z) (bE H fun r2 h3 H=>Zf (rn [(0,0),(1,1)]) [(0,_,_,some _)] [(1,_)] (w2w s1 r2 h3) ⟨Z,Z,U⟩ ⟨.inl (.inl Z),U⟩ ⟨⟨⟨Z,Z⟩,U⟩,U⟩ Z (za (wm (.row _ _) Z) (yf (ι:=(List ya)×(List Int)×Int) (fun i=>[(3,.row 1 i.1.length)]) (fun i=>[(0,.box (some bl) 25 [.dat (vlst (List.map qz i.2.1)),.dat (vint i.2.2)]),(1,.row 123 5 (List.map wg i.1))]) (fun i=>z0q i.1 i.2.1 i.2.2=some r) (fun i=>Z) ?_ ?_))))))
 ·skip
  refine yf (ι:=Bool×(List Int)×Int) (fun i=>[(0,.ptr 0 0),(3,.row 1 r2.1.length),(13,.dat (zj i.1))]) (fun i=>[(0,.box (some bl) 25 [.dat (vlst (List.map qz i.2.1)),.dat (vint i.2.2)]),(1,.row 123 5 (List.map wg r2.1))]) (fun i=>z3d r2 i.1 i.2.1 i.2.2=some r) (fun i=>Z) ?_ ?_
  ·skip
   refine zq hN Z (za (zf (.row _ _) Z) (zu (y2r Qv Z Z) Z (za (qh Z Z) (qd Z (yh (j:=3) Z Z (fun h4 => ?_) (fun h4 => ?_) Z)))))
   ·exact u1 h4 H fun h5 H=>zd Z Z h4 (zf (.ptr _ _) Z) (bE H fun r6 h7 H=>x1v Z Z h4 (yk (kz r2.2 12 r6 h7) Z ⟨.inl Z,U⟩ Z) Z (za (zz Z (bTT h5) Z) ⟨(r6.1,r6.2.L,r6.2.at_),H,⟨Z,Z,Z,U⟩,⟨Z,Z,U⟩⟩))
   ·exact u2 h4 H fun h8 H=>zc Z Z h4 (zc Z Z h4 (za (yb Z (bFF h8) Z) ⟨(false,r2.2.L,r2.2.at_),H,⟨Z,Z,Z,U⟩,⟨Z,Z,U⟩⟩))
  ·rintro ⟨v9,c10,c11⟩ H
   replace H:z3d r2 v9 c10 c11=some r:=H
   unfold z3d at H
   refine zg _ Z (fun h12 => ?_) (fun h12 => ?_)
   ·refine tE h12 H fun H=>zb hN Z (za (zf (.row _ _) Z) (za (zf (.ptr _ _) Z) (za (zf (.row _ _) Z) (zu (y2r Qv Z Z) Z (bE H fun r13 h14 H=>zi (yk (Zk (zt.mk c10 c11) (r2.1.length:Int) r13 h14) Z ⟨.inl Z,U⟩ Z) Z (bE H fun x15 h16 H=>zu (y6r uc Z Z Z h16) Z (za (wm (.rptr _ _ _ _ _) Z) (zb hN Z (za (zf (.ptr _ _) Z) (bE H fun r17 h18 H=>zi (yk (Zk r13.2 3 r17 h18) Z ⟨.inl Z,U⟩ Z) Z (zx (zb hN Z (za (ql Z Z) (qe Z (zg _ Z (fun h19 => ?_) (fun h19 => ?_))))))))))))))))
    ·exact tE h19 H fun H=>zq hN Z (za (zf (.rptr _ _ _ _ _) Z) (za (zf (.ptr _ _) Z) (za (ye (u':=vlst (List.map zo [[],[65],[115,49]])) (qa [[_],[_],[_]] qn ⟨Z,.inl ⟨_,Z,Z,Z⟩,Z,Z,.inl ⟨_,Z,Z,Z⟩,Z,Z,.inl ⟨_,Z,Z,Z⟩,Z,U⟩ Z Z) Z) (bE H fun r20 h21 H=>zi (yk (ji r17.2 ([[],[65],[115,49]]) r20 h21) Z ⟨.inl Z,U⟩ Z) Z (za (y2x Z) (za (y2z Zx Z) (zi (z7y (ya.mk r20.1 x15.Secret x15.From x15.To x15.Until) tyS9 Z Z Z Z (vu h16).2 Z Z) Z ⟨((r2.1.set r13.1.toNat (ya.mk r20.1 x15.Secret x15.From x15.To x15.Until)),r20.2.L,r20.2.at_),H,⟨congrArg (Slot.row 1) (by simp),U⟩,⟨Z,Z,U⟩⟩)))))))
    ·refine fE h19 H fun H=>zb hN Z (za (ql Z Z) (qe Z (zg _ Z (fun h22 => ?_) (fun h22 => ?_))))
     ·exact tE h22 H fun H=>zq hN Z (za (zf (.rptr _ _ _ _ _) Z) (za (zf (.ptr _ _) Z) (bE H fun r23 h24 H=>zi (yk (w5j r17.2 r23 h24) Z U Z) Z (za (y2x Z) (za (y2z z33 Z) (zi (z7y (ya.mk x15.Id r23.1 x15.From x15.To x15.Until) tyS9 Z Z Z Z (vu h16).2 Z Z) Z ⟨((r2.1.set r13.1.toNat (ya.mk x15.Id r23.1 x15.From x15.To x15.Until)),r23.2.L,r23.2.at_),H,⟨congrArg (Slot.row 1) (by simp),U⟩,⟨Z,Z,U⟩⟩))))))
     ·exact fE h22 H fun H=>zq hN Z (za (zf (.rptr _ _ _ _ _) Z) (za (zf (.rptr _ _ _ _ _) Z) (za (zf (.ptr _ _) Z) (bE H fun r25 h26 H=>zi (yk (z50 r17.2 0 300 r25 h26) Z ⟨.inl Z,.inl Z,U⟩ Z) Z (za (zf (.ptr _ _) Z) (bE H fun r27 h28 H=>zi (yk (z50 r25.2 0 300 r27 h28) Z ⟨.inl Z,.inl Z,U⟩ Z) Z (za (y2x Z) (za (y2z Zw Z) (zi (z7y (ya.mk x15.Id x15.Secret r25.1 x15.To x15.Until) tyS3 Z Z Z Z (vu h16).2 Z Z) Z (za (y2x Z) (za (y2z We Z) (zi (z7y (ya.mk x15.Id x15.Secret r25.1 r27.1 x15.Until) tyS3 Z Z Z (by simp) (x98 (vu h16).2) Z Z) Z ⟨(((r2.1.set r13.1.toNat (ya.mk x15.Id x15.Secret r25.1 x15.To x15.Until)).set r13.1.toNat (ya.mk x15.Id x15.Secret r25.1 r27.1 x15.Until)),r27.2.L,r27.2.at_),H,⟨congrArg (Slot.row 1) (by simp),U⟩,⟨Z,Z,U⟩⟩))))))))))))
   ·exact fE h12 H fun H=>zk ⟨(r2.1,c10,c11),H,⟨Z,U⟩,⟨Z,Z,U⟩⟩
 ·rintro ⟨out29,c30,c31⟩ H
  replace H:z0q out29 c30 c31=some r:=H
  unfold z0q at H
  refine zb hN Z (za (zf (.row _ _) Z) (za (wm (.row _ _) Z) (zh ?_)))
  cases H
  exact ⟨U,⟨Yt Z Z,U⟩,Z⟩
theorem w5m (s1:zt) (r:((List qf)×zt)) (H:y0b s1=some r):Imp Tryz.prog 19 25 (qr s1) [] (zw [vlst (List.map jb r.1)]) (qr r.2):=by
 refine jo (us:=[vlst (List.map jb r.1)]) (cs':=(qr r.2)) (by kernel_rfl) Tryz.func19 Z Z Z Z fun X bl hN => ?_
 unfold y0b at H
 refine zb hN Z (qe Z (zb hN Z (qe Z (ze (zb hN Z (za (ye (u':=vlst (List.map zo [[116,48],[116,49],[116,50]])) (qa [[_],[_],[_]] qn ⟨Z,.inl ⟨_,Z,Z,Z⟩,Z,Z,.inl ⟨_,Z,Z,Z⟩,Z,Z,.inl ⟨_,Z,Z,Z⟩,Z,U⟩ Z Z) Z) (za (yo qm Z) (qd Z (zx (uh 3 1 58 3 Z Z Z (gE H fun h7 H=>wi (fun (k5:Nat) (s:(List Int)×Int×(List qf))=>[(0,.ptr 0 0),(3,.row 1 s.2.2.length),(7,.dat (vlst (List.map zo ([[116,48],[116,49],[116,50]])))),(8,.dat (vint (([[116,48],[116,49],[116,50]]).length:Int))),(9,.dat (vint (k5:Int)))]) (fun (k5:Nat) (s:(List Int)×Int×(List qf))=>[(0,.box (some bl) 25 [.dat (vlst (List.map qz s.1)),.dat (vint s.2.1)]),(1,.row 58 3 (List.map jb s.2.2))]) (s1.L,s1.at_,[]) H ⟨Z,Z,Z,Z,Z,U⟩ ⟨Z,Z,U⟩ (fun _ _=>Z) ?_ ?_)))))))))))
 ·rintro ⟨c2,c3,l4⟩ H
  replace H:y5o c2 c3 l4=some r:=H
  unfold y5o at H
  refine zb hN Z (za (zy Z Z) (ze (zg _ Z (fun h=>(lt_t h).elim) (fun h => ?_))))
  refine qg (yf (ι:=(List qf)×(List Int)×Int) (fun i=>[(3,.row 1 i.1.length)]) (fun i=>[(0,.box (some bl) 25 [.dat (vlst (List.map qz i.2.1)),.dat (vint i.2.2)]),(1,.row 58 3 (List.map jb i.1))]) (fun i=>z6z i.1 i.2.1 i.2.2=some r) (fun i=>Z) ?_ ?_)
  ·skip
   refine zb hN Z (za (zf (.ptr _ _) Z) (bE H fun r9 h10 H=>zi (yk (kz (zt.mk c2 c3) 15 r9 h10) Z ⟨.inl Z,U⟩ Z) Z (zg _ Z (fun h11 => ?_) (fun h11 => ?_))))
   ·refine tE h11 H fun H=>zq hN Z (za (zf (.row _ _) Z) (za (zf (.ptr _ _) Z) (za (ye (u':=vlst (List.map zo [[],[116,49],[116,57]])) (qa [[_],[_],[_]] qn ⟨Z,.inl ⟨_,Z,Z,Z⟩,Z,Z,.inl ⟨_,Z,Z,Z⟩,Z,Z,.inl ⟨_,Z,Z,Z⟩,Z,U⟩ Z Z) Z) (bE H fun r12 h13 H=>zi (yk (ji r9.2 ([[],[116,49],[116,57]]) r12 h13) Z ⟨.inl Z,U⟩ Z) Z (za (zf (.ptr _ _) Z) (bE H fun r14 h15 H=>zi (yk (z50 r12.2 0 50 r14 h15) Z ⟨.inl Z,.inl Z,U⟩ Z) Z (za (zf (.ptr _ _) Z) (bE H fun r16 h17 H=>zi (yk (z50 r14.2 50 300 r16 h17) Z ⟨.inl Z,.inl Z,U⟩ Z) Z (za (ye (u':=vagg (jb (qf.mk r12.1 r14.1 r16.1))) (qt [(0,[vstr r12.1]),(1,[vint r14.1]),(2,[vint r16.1])] y1v x0h Z ⟨Z,.inl ⟨_,Z,Z,Z⟩,Z,Z,.inl ⟨_,Z,Z,Z⟩,Z,Z,.inl ⟨_,Z,Z,Z⟩,Z,U⟩) Z) (za (ye (u':=vlst (List.map jb [(qf.mk r12.1 r14.1 r16.1)])) (qa [_] y14 ⟨Z,.inr Z,Z,U⟩ Z Z) Z) (gE H fun h18 H=>zi (jt y14 (fun _=>Z) Z Z Z ⟨by simp,by first | (simp; done) | simpa using h18⟩ Z) Z ?_)))))))))))
    exact za (wm (.row _ _) Z) ⟨((l4++[(qf.mk r12.1 r14.1 r16.1)]),r16.2.L,r16.2.at_),H,⟨Z,U⟩,⟨Z,Z,U⟩⟩
   ·exact fE h11 H fun H=>zk ⟨(l4,r9.2.L,r9.2.at_),H,⟨Z,U⟩,⟨Z,Z,U⟩⟩
  ·rintro ⟨out19,c20,c21⟩ H
   replace H:z6z out19 c20 c21=some r:=H
   unfold z6z at H
   refine zb hN Z (za (zf (.row _ _) Z) (za (wm (.row _ _) Z) (zh ?_)))
   cases H
   exact ⟨U,⟨Yt Z Z,U⟩,Z⟩
 ·rintro k5 x8 ⟨c2,c3,l4⟩ q6 h22 h23 H hq6
  replace H:y5n k5 x8 c2 c3 l4=some q6:=H
  unfold y5n at H
  refine zb hN Z (za (zy Z Z) (ze (zg _ Z (fun h => ?_) (fun h=>(lt_f h22 h).elim))))
  refine zk (yf (ι:=(List qf)×(List Int)×Int) (fun i=>[(0,.ptr 0 0),(3,.row 1 i.1.length),(7,.dat (vlst (List.map zo ([[116,48],[116,49],[116,50]])))),(8,.dat (vint (([[116,48],[116,49],[116,50]]).length:Int))),(9,.dat (vint (k5:Int)))]) (fun i=>[(0,.box (some bl) 25 [.dat (vlst (List.map qz i.2.1)),.dat (vint i.2.2)]),(1,.row 58 3 (List.map jb i.1))]) (fun i=>z6y i.1 i.2.1 i.2.2=some q6) (fun i=>Z) ?_ ?_)
  ·skip
   refine zx (zb hN Z (za (qu qv (fun _=>Z) Z Z h23) (za (yj tyS9 Z (yy h23) Z) (qe Z (zb hN Z (za (zf (.ptr _ _) Z) (bE H fun r24 h25 H=>zi (yk (kz (zt.mk c2 c3) 3 r24 h25) Z ⟨.inl Z,U⟩ Z) Z (zg _ Z (fun h26 => ?_) (fun h26 => ?_)))))))))
   ·refine tE h26 H fun H=>zb hN Z (za (zf (.ptr _ _) Z) (za (ye (u':=vlst (List.map qz [0,60,100])) (qa [[_],[_],[_]] uj ⟨Z,.inl ⟨_,Z,Z,Z⟩,Z,Z,.inl ⟨_,Z,Z,Z⟩,Z,Z,.inl ⟨_,Z,Z,Z⟩,Z,U⟩ Z Z) Z) (bE H fun r27 h28 H=>zi (yk (uu r24.2 [0,60,100] r27 h28) Z ⟨.inl Z,U⟩ Z) Z (qe Z (zq hN Z (za (zf (.row _ _) Z) (qd Z (qd Z (qd Z (za (zf (.ptr _ _) Z) (za (ye (u':=vlst (List.map qz [0,50,200])) (qa [[_],[_],[_]] uj ⟨Z,.inl ⟨_,Z,Z,Z⟩,Z,Z,.inl ⟨_,Z,Z,Z⟩,Z,Z,.inl ⟨_,Z,Z,Z⟩,Z,U⟩ Z Z) Z) (bE H fun r29 h30 H=>zi (yk (uu r27.2 [0,50,200] r29 h30) Z ⟨.inl Z,U⟩ Z) Z (za (yw _ Z Z (.inl ⟨Z,Z⟩)) (za (ye (u':=vagg (jb (qf.mk x8 r27.1 (wr (r27.1+r29.1))))) (qt [(0,[vstr x8]),(1,[vint r27.1]),(2,[vint (wr (r27.1+r29.1))])] y1v x0h Z ⟨Z,.inl ⟨_,Z,Z,Z⟩,Z,Z,.inl ⟨_,Z,Z,Z⟩,Z,Z,.inl ⟨_,Z,Z,Z⟩,Z,U⟩) Z) (za (ye (u':=vlst (List.map jb [(qf.mk x8 r27.1 (wr (r27.1+r29.1)))])) (qa [_] y14 ⟨Z,.inr Z,Z,U⟩ Z Z) Z) (gE H fun h31 H=>zi (jt y14 (fun _=>Z) Z Z Z ⟨by simp,by first | (simp; done) | simpa using h31⟩ Z) Z ?_))))))))))))))))
    exact za (wm (.row _ _) Z) ⟨((l4++[(qf.mk x8 r27.1 (wr (r27.1+r29.1)))]),r29.2.L,r29.2.at_),H,⟨Z,Z,Z,Z,Z,U⟩,⟨Z,Z,U⟩⟩
   ·exact fE h26 H fun H=>zk ⟨(l4,r24.2.L,r24.2.at_),H,⟨Z,Z,Z,Z,Z,U⟩,⟨Z,Z,U⟩⟩
  ·rintro ⟨out32,c33,c34⟩ H
   replace H:z6y out32 c33 c34=some q6:=H
   unfold z6y at H
   exact zq hN Z (za (qw Z Z (by omega)) (qd Z ⟨_,qk H,⟨Z,Z,Z,Z,Z,U⟩,⟨Z,Z,U⟩⟩))
theorem x4z (s1:zt) (r:((List Bs)×zt)) (H:Qh s1=some r):Imp Tryz.prog 59 25 (qr s1) [] (zw [vlst (List.map zo r.1)]) (qr r.2):=by
 refine jo (us:=[vlst (List.map zo r.1)]) (cs':=(qr r.2)) (by kernel_rfl) Tryz.func59 Z Z Z Z fun X bl hN => ?_
 unfold Qh at H
 refine zb hN Z (qe Z (zb hN Z (qe Z (ze (zb hN Z (za (zf (.ptr _ _) Z) (bE H fun r2 h3 H=>zi (yk (y0q s1 0 4 r2 h3) Z ⟨.inl Z,.inl Z,U⟩ Z) Z (qd Z (zx (uh 3 1 9 1 Z Z Z (gE H fun h9 H=>Zp (fun (k7:Nat) (s:(List Int)×Int×(List Bs))=>[(0,.ptr 0 0),(3,.row 1 s.2.2.length),(5,.dat (vint r2.1)),(6,.dat (vint (k7:Int)))]) (fun (k7:Nat) (s:(List Int)×Int×(List Bs))=>[(0,.box (some bl) 25 [.dat (vlst (List.map qz s.1)),.dat (vint s.2.1)]),(1,.row 9 1 (List.map zo s.2.2))]) (r2.2.L,r2.2.at_,[]) H ⟨Z,Z,Z,Z,U⟩ ⟨Z,Z,U⟩ (fun _ _=>Z) ?_ ?_)))))))))))
 ·rintro ⟨c4,c5,l6⟩ H
  replace H:y1e c4 c5 l6=some r:=H
  unfold y1e at H
  refine zb hN Z (za (zy Z Z) (ze (zg _ Z (fun h=>(z5t h).elim) (fun h => ?_))))
  refine qg (zb hN Z (za (zf (.row _ _) Z) (za (wm (.row _ _) Z) (zh ?_))))
  cases H
  exact ⟨U,⟨Yt Z Z,U⟩,Z⟩
 ·rintro k7 ⟨c4,c5,l6⟩ q8 h10 H hq8
  replace H:z6x k7 c4 c5 l6=some q8:=H
  unfold z6x at H
  refine zb hN Z (za (zy Z Z) (ze (zg _ Z (fun h => ?_) (fun h=>(z5u h10 h).elim))))
  refine zk (ze (zx (zq hN Z (za (zf (.row _ _) Z) (za (zf (.ptr _ _) Z) (za (ye (u':=vlst (List.map zo [[97],[97,58,42],[97,58,98],[97,58,98,58,42],[97,58,98,58,99],[98],[98,58,42],[98,58,99],[42]])) (qa [[_],[_],[_],[_],[_],[_],[_],[_],[_]] qn ⟨Z,.inl ⟨_,Z,Z,Z⟩,Z,Z,.inl ⟨_,Z,Z,Z⟩,Z,Z,.inl ⟨_,Z,Z,Z⟩,Z,Z,.inl ⟨_,Z,Z,Z⟩,Z,Z,.inl ⟨_,Z,Z,Z⟩,Z,Z,.inl ⟨_,Z,Z,Z⟩,Z,Z,.inl ⟨_,Z,Z,Z⟩,Z,Z,.inl ⟨_,Z,Z,Z⟩,Z,Z,.inl ⟨_,Z,Z,Z⟩,Z,U⟩ Z Z) Z) (bE H fun r11 h12 H=>zi (yk (ji (zt.mk c4 c5) ([[97],[97,58,42],[97,58,98],[97,58,98,58,42],[97,58,98,58,99],[98],[98,58,42],[98,58,99],[42]]) r11 h12) Z ⟨.inl Z,U⟩ Z) Z (za (ye (u':=vlst (List.map zo [r11.1])) (qa [[_]] qn ⟨Z,.inl ⟨_,Z,Z,Z⟩,Z,U⟩ Z Z) Z) (gE H fun h13 H=>zi (jt qn (fun _=>Z) Z Z Z ⟨by simp,by first | (simp; done) | simpa using h13⟩ Z) Z ?_)))))))))
  exact za (wm (.row _ _) Z) (zq hN Z (za (qw Z Z (by omega)) (qd Z ⟨_,qk H,⟨Z,Z,Z,Z,U⟩,⟨Z,Z,U⟩⟩)))
theorem w5l (s1:zt) (r:(Bs×zt)) (H:z98 s1=some r):Imp Tryz.prog 133 25 (qr s1) [] (zw [vstr r.1]) (qr r.2):=by
 refine jo (us:=[vstr r.1]) (cs':=(qr r.2)) (by kernel_rfl) Tryz.func133 Z Z Z Z fun X bl hN => ?_
 unfold z98 at H
 refine zb hN Z (qe Z (ze (zb hN Z (za (zf (.ptr _ _) Z) (bE H fun r2 h3 H=>zi (yk (kz s1 25 r2 h3) Z ⟨.inl Z,U⟩ Z) Z (zg _ Z (fun h4 => ?_) (fun h4 => ?_)))))))
 ·refine tE h4 H fun H=>zb hN Z (za (zf (.ptr _ _) Z) (bE H fun r5 h6 H=>za (zl (y4q [97,58] 10 r5 h6) ⟨.inl Z,.inl Z,U⟩) (gE H fun h7 H=>za (wt Z Z (Nat.le_trans h7 (by decide))) (za (ye (u':=vlst (List.map zo [[],[97,58,42,58,98],[65],[97,58,58,98],[97,58],[42,42],[97,42],(r5++[97])])) (qa [[_],[_],[_],[_],[_],[_],[_],[_]] qn ⟨Z,.inl ⟨_,Z,Z,Z⟩,Z,Z,.inl ⟨_,Z,Z,Z⟩,Z,Z,.inl ⟨_,Z,Z,Z⟩,Z,Z,.inl ⟨_,Z,Z,Z⟩,Z,Z,.inl ⟨_,Z,Z,Z⟩,Z,Z,.inl ⟨_,Z,Z,Z⟩,Z,Z,.inl ⟨_,Z,Z,Z⟩,Z,Z,.inl ⟨_,Z,Z,Z⟩,Z,U⟩ Z Z) Z) (bE H fun r8 h9 H=>zi (yk (ji r2.2 ([[],[97,58,42,58,98],[65],[97,58,58,98],[97,58],[42,42],[97,42],(r5++[97])]) r8 h9) Z ⟨.inl Z,U⟩ Z) Z (qe Z (zh ?_)))))))
  cases H
  exact ⟨U,⟨.inl Z,U⟩,Z⟩
 ·refine fE h4 H fun H=>zk (zb hN Z (za (zf (.ptr _ _) Z) (za (ye (u':=vlst (List.map zo [[42],[97],[97,58,42],[97,58,98],[97,58,98,58,42],[97,58,98,58,99],[98],[98,58,42],[98,58,99],[99]])) (qa [[_],[_],[_],[_],[_],[_],[_],[_],[_],[_]] qn ⟨Z,.inl ⟨_,Z,Z,Z⟩,Z,Z,.inl ⟨_,Z,Z,Z⟩,Z,Z,.inl ⟨_,Z,Z,Z⟩,Z,Z,.inl ⟨_,Z,Z,Z⟩,Z,Z,.inl ⟨_,Z,Z,Z⟩,Z,Z,.inl ⟨_,Z,Z,Z⟩,Z,Z,.inl ⟨_,Z,Z,Z⟩,Z,Z,.inl ⟨_,Z,Z,Z⟩,Z,Z,.inl ⟨_,Z,Z,Z⟩,Z,Z,.inl ⟨_,Z,Z,Z⟩,Z,U⟩ Z Z) Z) (bE H fun r10 h11 H=>zi (yk (ji r2.2 ([[42],[97],[97,58,42],[97,58,98],[97,58,98,58,42],[97,58,98,58,99],[98],[98,58,42],[98,58,99],[99]]) r10 h11) Z ⟨.inl Z,U⟩ Z) Z (qe Z (zh ?_))))))
  cases H
  exact ⟨U,⟨.inl Z,U⟩,Z⟩
theorem w2x (s1:zt) (r:((List Bs)×zt)) (H:Qh s1=some r):FnG Tryz.prog 59 [.ptr 0 0] [(0,.box (some 0) 25 (List.map .dat (qr s1)))] (.row 1 r.1.length) [(0,.box (some 0) 25 (List.map .dat (qr r.2))),(1,.row 9 1 (List.map zo r.1))]:=by
 refine z66 (by kernel_rfl) Tryz.func59 Z Z Z Z fun X A hN => ?_
 unfold Qh at H
 refine zb hN Z (qe Z (zb hN Z (qe Z (ze (zb hN Z (za (zf (.ptr _ _) Z) (bE H fun r2 h3 H=>zi (yk (y0q s1 0 4 r2 h3) Z ⟨.inl Z,.inl Z,U⟩ Z) Z (qd Z (zx (uh 3 1 9 1 Z Z Z (gE H fun h9 H=>Zp (fun (k7:Nat) (s:(List Int)×Int×(List Bs))=>[(0,.ptr 0 0),(3,.row 1 s.2.2.length),(5,.dat (vint r2.1)),(6,.dat (vint (k7:Int)))]) (fun (k7:Nat) (s:(List Int)×Int×(List Bs))=>[(0,.box (some (A.bl 0)) 25 [.dat (vlst (List.map qz s.1)),.dat (vint s.2.1)]),(1,.row 9 1 (List.map zo s.2.2))]) (r2.2.L,r2.2.at_,[]) H ⟨Z,Z,Z,Z,U⟩ ⟨Z,Z,U⟩ (fun _ _=>Z) ?_ ?_)))))))))))
 ·rintro ⟨c4,c5,l6⟩ H
  replace H:y1e c4 c5 l6=some r:=H
  unfold y1e at H
  refine zb hN Z (za (zy Z Z) (ze (zg _ Z (fun h=>(z5t h).elim) (fun h => ?_))))
  refine qg (zb hN Z (za (zf (.row _ _) Z) (za (wm (.row _ _) Z) (zh ?_))))
  cases H
  exact ⟨U,[(2,.row 1 _)],⟨Z,U⟩,⟨Z,Z,U⟩,Z,.inr (.inl ⟨2,Z,Z⟩)⟩
 ·rintro k7 ⟨c4,c5,l6⟩ q8 h10 H hq8
  replace H:z6x k7 c4 c5 l6=some q8:=H
  unfold z6x at H
  refine zb hN Z (za (zy Z Z) (ze (zg _ Z (fun h => ?_) (fun h=>(z5u h10 h).elim))))
  refine zk (ze (zx (zq hN Z (za (zf (.row _ _) Z) (za (zf (.ptr _ _) Z) (za (ye (u':=vlst (List.map zo [[97],[97,58,42],[97,58,98],[97,58,98,58,42],[97,58,98,58,99],[98],[98,58,42],[98,58,99],[42]])) (qa [[_],[_],[_],[_],[_],[_],[_],[_],[_]] qn ⟨Z,.inl ⟨_,Z,Z,Z⟩,Z,Z,.inl ⟨_,Z,Z,Z⟩,Z,Z,.inl ⟨_,Z,Z,Z⟩,Z,Z,.inl ⟨_,Z,Z,Z⟩,Z,Z,.inl ⟨_,Z,Z,Z⟩,Z,Z,.inl ⟨_,Z,Z,Z⟩,Z,Z,.inl ⟨_,Z,Z,Z⟩,Z,Z,.inl ⟨_,Z,Z,Z⟩,Z,Z,.inl ⟨_,Z,Z,Z⟩,Z,U⟩ Z Z) Z) (bE H fun r11 h12 H=>zi (yk (ji (zt.mk c4 c5) ([[97],[97,58,42],[97,58,98],[97,58,98,58,42],[97,58,98,58,99],[98],[98,58,42],[98,58,99],[42]]) r11 h12) Z ⟨.inl Z,U⟩ Z) Z (za (ye (u':=vlst (List.map zo [r11.1])) (qa [[_]] qn ⟨Z,.inl ⟨_,Z,Z,Z⟩,Z,U⟩ Z Z) Z) (gE H fun h13 H=>zi (jt qn (fun _=>Z) Z Z Z ⟨by simp,by first | (simp; done) | simpa using h13⟩ Z) Z ?_)))))))))
  exact za (wm (.row _ _) Z) (zq hN Z (za (qw Z Z (by omega)) (qd Z ⟨_,qk H,⟨Z,Z,Z,Z,U⟩,⟨Z,Z,U⟩⟩)))
theorem w5k (s1:zt) (r:((List Bs)×zt)) (H:z97 s1=some r):Imp Tryz.prog 67 25 (qr s1) [] (zw [vlst (List.map zo r.1)]) (qr r.2):=by
 refine jo (us:=[vlst (List.map zo r.1)]) (cs':=(qr r.2)) (by kernel_rfl) Tryz.func67 Z Z Z Z fun X bl hN => ?_
 unfold z97 at H
 refine zb hN Z (qe Z (zb hN Z (za (zf (.ptr _ _) Z) (bE H fun r2 h3 H=>Zf (rn [(0,0),(1,1)]) [(0,_,_,some _)] [(1,_)] (w2x s1 r2 h3) ⟨Z,Z,U⟩ ⟨.inl (.inl Z),U⟩ ⟨⟨⟨Z,Z⟩,U⟩,U⟩ Z (za (wm (.row _ _) Z) (yf (ι:=(List Bs)×(List Int)×Int) (fun i=>[(0,.ptr 0 0),(3,.row 1 i.1.length)]) (fun i=>[(0,.box (some bl) 25 [.dat (vlst (List.map qz i.2.1)),.dat (vint i.2.2)]),(1,.row 9 1 (List.map zo i.1))]) (fun i=>z3e i.1 i.2.1 i.2.2=some r) (fun i=>Z) ?_ ?_))))))
 ·skip
  refine zb hN Z (za (zf (.ptr _ _) Z) (bE H fun r4 h5 H=>zi (yk (kz r2.2 6 r4 h5) Z ⟨.inl Z,U⟩ Z) Z (zg _ Z (fun h6 => ?_) (fun h6 => ?_))))
  ·refine tE h6 H fun H=>zq hN Z (za (zf (.row _ _) Z) (za (zf (.ptr _ _) Z) (bE H fun r7 h8 H=>zi (yk (w5l r4.2 r7 h8) Z U Z) Z (za (ye (u':=vlst (List.map zo [r7.1])) (qa [[_]] qn ⟨Z,.inl ⟨_,Z,Z,Z⟩,Z,U⟩ Z Z) Z) (gE H fun h9 H=>zi (jt qn (fun _=>Z) Z Z Z ⟨by simp,by first | (simp; done) | simpa using h9⟩ Z) Z ?_)))))
   exact za (wm (.row _ _) Z) ⟨((r2.1++[r7.1]),r7.2.L,r7.2.at_),H,⟨Z,Z,U⟩,⟨Z,Z,U⟩⟩
  ·exact fE h6 H fun H=>zk ⟨(r2.1,r4.2.L,r4.2.at_),H,⟨Z,Z,U⟩,⟨Z,Z,U⟩⟩
 ·rintro ⟨out10,c11,c12⟩ H
  replace H:z3e out10 c11 c12=some r:=H
  unfold z3e at H
  refine w8t (ι:=(List Bs)×(List Int)×Int) (fun i=>[(3,.dat (vlst (List.map zo i.1)))]) (fun i=>[(0,.box (some bl) 25 [.dat (vlst (List.map qz i.2.1)),.dat (vint i.2.2)])]) (fun i=>z6w i.1 i.2.1 i.2.2=some r) (fun i=>Z) (fun i=>Z) ?_ ?_
  ·skip
   refine zb hN Z (za (zf (.ptr _ _) Z) (bE H fun r13 h14 H=>zi (yk (kz (zt.mk c11 c12) 60 r13 h14) Z ⟨.inl Z,U⟩ Z) Z (zg _ Z (fun h15 => ?_) (fun h15 => ?_))))
   ·exact tE h15 H fun H=>zq hN Z (gE H fun h16 H=>zi (x8c (C:=zo) 2 [] qn tyZ9 Z Z Z Z h16 Z) Z (za (wm (.row _ _) Z) ⟨[(3,2)],_,_,_,_,Z,Z,by simp,⟨((List.replicate 51 []),r13.2.L,r13.2.at_),H,⟨.inl Z,U⟩,⟨Z,U⟩⟩⟩))
   ·exact fE h15 H fun H=>zk ⟨[(3,1)],_,_,_,_,Z,Z,by simp,⟨(out10,r13.2.L,r13.2.at_),H,⟨.inl Z,U⟩,⟨Z,U⟩⟩⟩
  ·rintro ⟨out17,c18,c19⟩ H
   replace H:z6w out17 c18 c19=some r:=H
   unfold z6w at H
   refine zb hN Z (qd Z (qe Z (zh ?_)))
   cases H
   exact ⟨U,⟨.inl Z,U⟩,Z⟩
theorem y8c (l r:List Bs) (H:Zi l=some r):FnG Tryz.prog 100 [.row 0 l.length] [(0,.rowA undef 9 1 (List.map zo l))] (.dat (zw [])) [(0,.rowA undef 9 1 (List.map zo r))]:=by
 obtain ⟨hl,hr⟩:=x1j H
 refine w6u (fun s:Bs=>Value.string ⟨s.toArray⟩) r l (Yx H) (by kernel_rfl) (fun _=>Z) (fun blk cap w hH hb => ?_) (fun h w => ?_)
 ·rw [hr]; exact Tryz.slices_Sort_string blk 0 cap l w hH hb (by omega)
 ·exact Tryz.slices_Sort_string_none none 0 w
theorem y4r (l:List Bs) (sep r:Bs) (H:xb l sep=some r):Fn Tryz.prog 115 [vlst (List.map zo l),vstr sep] (zw [vstr r]):=by
 obtain ⟨h1,h2,rfl⟩:=w5w H
 refine xx (by kernel_rfl) fun M w vs hM h => ?_
 obtain ⟨hl,hv⟩:=h
 obtain ⟨a,ha,hap⟩:=hv 0 _ rfl
 obtain ⟨s,hs,hsp⟩:=hv 1 _ rfl
 have hsp:s = .string ⟨sep.toArray⟩:=hsp
 subst hsp
 have hvs:vs.toArray = #[a,.string ⟨sep.toArray⟩]:=by
  rcases vs with _ | ⟨x,_ | ⟨y,_ | ⟨z,t⟩⟩⟩
  ·cases ha
  ·cases hs
  ·cases ha; cases hs; rfl
  ·simp at hl
 rw [hvs]
 obtain ⟨A,c,q1,q2,q3⟩:=hap
 simp only [List.length_map] at q1 q2
 subst q1
 by_cases hne:l=[]
 ·subst hne
  refine (Tryz.strings_Join_none A c ⟨sep.toArray⟩ w).mono ?_
  rintro e w' ⟨rfl,rfl⟩
  exact ⟨_,Z,Z,Kp.refl _ _⟩
 ·obtain ⟨b,off,size,rfl,hMb,arr,t,fz,q5,q6,q7⟩:=q3 (by simpa using hne)
  have hsz:size=1:=by
   cases hq:l with
   | nil=>exact absurd hq hne
   | cons x l'=>have:=q6 (zo x) (by rw [hq]; simp); simpa using this.symm
  subst hsz
  have e1:((l.map fun x=>ByteArray.mk x.toArray).map (·.data.toList))=l:=by
   rw [List.map_map]
   exact (List.map_congr_left fun x _=>Z).trans (List.map_id l)
  have hj:=Tryz.strings_Join b off c (l.map fun x=>ByteArray.mk x.toArray) ⟨sep.toArray⟩ w (fun j x hx=>by
   rw [List.getElem?_map] at hx
   cases hq:l[j]? with
   | none=>rw [hq] at hx; cases hx
   | some y =>
    rw [hq] at hx
    cases hx
    obtain ⟨v,r1,r2,_⟩:=q7 j 0 (zo y) (vstr y) (by rw [List.getElem?_map,hq]; rfl) rfl
    have r2:v = .string ⟨y.toArray⟩:=r2
    rw [cell_of_row w b _ _ _ _ q5]
    simp only [Nat.mul_one,Nat.add_zero] at r1
    rw [r1,r2]) (kb q5) (by simp; omega) (by simpa using q2) (by rw [e1]; simp only; omega)
  rw [List.length_map,e1] at hj
  refine hj.mono ?_
  rintro e w' ⟨rfl,hb⟩
  exact ⟨_,Z,Z,Kp.of_below hb⟩
theorem w4t (l1:(List Bs)) (r:(Int)) (H:y4e l1=some r):Fn Tryz.prog 117 [vlst (List.map zo l1)] (zw [vval (.int .u64 r)]):=by
 refine ⟨by kernel_rfl,yd (us:=[vval (.int .u64 r)]) Tryz.func117 Z Z Z Z fun X hN => ?_⟩
 unfold y4e at H
 refine zb hN Z (qe Z (zb hN Z (qe Z (zb hN Z (qd Z (bE H fun r2 h3 H=>za (zl (y4r l1 [0] r2 h3) ⟨.inl Z,.inl Z,U⟩) (qe Z (ze (zb hN Z (qd Z (za (qp tyU9 Z) (qd Z (zx (gE H fun h7 H=>wi (fun (k5:Nat) (s:Int)=>[(3,.dat (vval (.int .u64 s))),(4,.dat (vstr r2)),(9,.dat (vint (r2.length:Int))),(10,.dat (vint (k5:Int)))]) (fun (k5:Nat) (s:Int)=>[]) 14695981039346656037 H ⟨Z,Z,Z,Z,U⟩ U (fun _ _=>Z) ?_ ?_))))))))))))))
 ·rintro h4 H
  replace H:y49 h4=some r:=H
  unfold y49 at H
  refine zb hN Z (za (zy Z Z) (ze (zg _ Z (fun h=>(lt_t h).elim) (fun h => ?_))))
  refine qg (zb hN Z (qd Z (qe Z (zh ?_))))
  cases H
  exact ⟨U,.inl Z,U⟩
 ·rintro k5 x8 h4 q6 h9 h10 H hq6
  replace H:y48 k5 x8 h4=some q6:=H
  unfold y48 at H
  refine zb hN Z (za (zy Z Z) (ze (zg _ Z (fun h => ?_) (fun h=>(lt_f h9 h).elim))))
  exact zk (ze (zx (zb hN Z (qd Z (qe Z (zq hN Z (qd Z (qd Z (qd Z (za (wq tyU9 Z Z h10) (za (jl tyU5 xm Z) (za (ye (y2v Z Z) Z) (za (yw _ Z Z (.inr (.inr ⟨Z,Z⟩))) (qe Z (zq hN Z (za (qw Z Z (by omega)) (qd Z ⟨_,qk H,⟨Z,Z,Z,Z,U⟩,U⟩)))))))))))))))))
theorem x4q (i1:Int) (r:(Bs)) (H:y4a i1=some r):Fn Tryz.prog 238 [vint i1] (zw [vstr r]):=by
 refine ⟨by kernel_rfl,yd (us:=[vstr r]) Tryz.func238 Z Z Z Z fun X hN => ?_⟩
 unfold y4a at H
 refine zb hN Z (qe Z (ze (zb hN Z (qd Z (za (zy Z Z) (zg _ Z (fun h2 => ?_) (fun h2 => ?_)))))))
 ·refine tE h2 H fun H=>zb hN Z (qd Z (qd Z (za (yw _ Z Z (.inl ⟨Z,Z⟩)) (bE H fun l3 h4 H=>za (jc tyU9 Z Z Z h4) (qe Z (zh ?_))))))
  cases H
  exact ⟨U,.inl Z,U⟩
 ·refine fE h2 H fun H=>zk (zb hN Z (qd Z (za (yw _ Z Z (.inr (.inr ⟨Z,Z⟩))) (qd Z (za (yw _ Z Z (.inr (.inr ⟨Z,Z⟩))) (za (yw _ Z Z (.inl ⟨Z,Z⟩)) (bE H fun l5 h6 H=>za (jc tyU9 Z Z Z h6) (qe Z (zh ?_)))))))))
  cases H
  exact ⟨U,.inl Z,U⟩
theorem w4j (x1:Int) (r:(Bool)) (H:z9j x1=some r):Fn Tryz.prog 288 [vint x1] (zw [zj r]):=by
 refine ⟨by kernel_rfl,yd (us:=[zj r]) Tryz.func288 Z Z Z Z fun X hN => ?_⟩
 unfold z9j at H
 refine zb hN Z (qe Z (zb hN Z (qd Z (qd Z (za (yw _ Z Z (.inr (.inl ⟨Z,Z⟩))) (za (ye (y62 Z Z) Z) (za (ql Z Z) (qe Z (zh ?_)))))))))
 cases H
 exact ⟨U,.inl Z,U⟩
theorem w5v (x r:Int) (H:z5s x=some r):Fn Tryz.prog 289 [vval (.int .u64 x)] (zw [vint r]):=by
 obtain ⟨h0,h1,rfl⟩:=x7s H
 obtain ⟨n,rfl⟩:=Int.eq_ofNat_of_zero_le h0
 refine xx (by kernel_rfl) fun M w vs hM h => ?_
 have hv:=kr (us:=[.int .u64 (n:Int)]) h
 subst hv
 refine (Any7.bits_TrailingZeros Tryz.tz289 n (by omega) w (fun _=>x8a hM)).mono ?_
 rintro e w' ⟨rfl,rfl⟩
 exact ⟨_,Z,Z,Kp.refl _ _⟩
theorem x4r (v1:(List Int)) (v2:Int) (v3:Int) (v4:Bool) (v5:Bool) (r:((List Int)×Bs)) (H:z5d v1 v2 v3 v4 v5=some r):Fn Tryz.prog 241 [vlst (List.map ve v1),vval (.int .u64 v2),vint v3,zj v4,zj v5] (zw [vlst (List.map ve r.1),vstr r.2]):=by
 refine ⟨by kernel_rfl,yd (us:=[vlst (List.map ve r.1),vstr r.2]) Tryz.func241 Z Z Z Z fun X hN => ?_⟩
 unfold z5d at H
 refine zb hN Z (qe Z (qe Z (ze (zb hN Z (qd Z (za (zy Z Z) (qd Z (yi Z Z (fun hc=>zf (.dat _) Z) (yi Z Z (fun hc=>ql (cnd (c:=(!(decide (v3 < 2)))) hc) Z) (za (wz Z Z (fun hb=>(cnd (c:=(!(decide (v3 < 2)))) (notI hb)))) (qd Z (yi Z Z (fun hc=>zf (.dat _) Z) (yi Z Z (fun hc=>qh (cnd (c:=(!((decide (v3 < 2)) || (decide (v3=10))))) hc) Z) (za (wz Z Z (fun hb=>(cnd (c:=(!((decide (v3 < 2)) || (decide (v3=10))))) (notI hb)))) (zg _ Z (fun h6 => ?_) (fun h6 => ?_))))))))))))))))
 ·refine tE h6 H fun H=>?_
  cases H
 ·refine fE h6 H fun H=>zk (zb hN Z (zi (x8i 1 65 (show tyZ Tryz.prog 255=some (List.replicate 65 (.int .u8 0)) from by kernel_rfl)) Z ?_))
  refine zb hN Z (qe Z (yf (ι:=Unit) (fun i=>[(0,.dat (vlst (List.map ve v1))),(1,.dat (vval (.int .u64 v2))),(2,.dat (vint v3)),(3,.dat (zj v4)),(4,.dat (zj v5)),(10,.dat (vnil)),(11,.dat (vstr [])),(12,.ptr 1 0),(13,.dat (vint 65))]) (fun i=>[(1,.box none 255 (List.map Slot.dat (bxU (List.replicate 65 0))))]) (fun i=>z6b v2 v3 v4 v5=some r) (fun i=>z1m Z (z1o z1l z1n)) ?_ ?_))
  ·skip
   refine zb hN Z (qd Z (zg _ Z (fun h7 => ?_) (fun h7 => ?_)))
   ·refine tE h7 H fun H=>?_
    cases H
   ·exact fE h7 H fun H=>zk ⟨(),H,⟨Z,Z,Z,Z,Z,Z,Z,Z,Z,U⟩,⟨Z,U⟩⟩
  ·rintro ⟨⟩ H
   replace H:z6b v2 v3 v4 v5=some r:=H
   unfold z6b at H
   refine yf (ι:=Int×(List Int)) (fun i=>[(0,.dat (vlst (List.map ve v1))),(3,.dat (zj v4)),(4,.dat (zj v5)),(10,.dat (vnil)),(11,.dat (vstr [])),(12,.ptr 1 0),(13,.dat (vint i.1))]) (fun i=>[(1,.box none 255 (List.map Slot.dat (bxU i.2)))]) (fun i=>z6a v4 v5 i.1 i.2=some r) (fun i=>z1m Z (z1o z1l z1n)) ?_ ?_
   ·skip
    refine zb hN Z (qd Z (bE H fun r8 h9 H=>za (zl (w4j v3 r8 h9) ⟨.inl Z,U⟩) (zg _ Z (fun h10 => ?_) (fun h10 => ?_))))
    ·refine tE h10 H fun H=>zb hN Z (qd Z (za (jl tyU3 z7m Z) (bE H fun r11 h12 H=>za (zl (w5v (IntKind.wrap .u64 v3) r11 h12) ⟨.inl Z,U⟩) (za (jl tyU3 z7m Z) (qe Z (zb hN Z (qd Z (za (jl tyU3 xm Z) (qe Z (zb hN Z (qd Z (za (jl tyU3 z7m Z) (za (yw _ Z Z (.inr (.inl ⟨Z,Z⟩))) (qe Z (yf (ι:=Int×Int×(List Int)) (fun i=>[(0,.dat (vlst (List.map ve v1))),(1,.dat (vval (.int .u64 i.1))),(3,.dat (zj v4)),(4,.dat (zj v5)),(10,.dat (vnil)),(11,.dat (vstr [])),(12,.ptr 1 0),(13,.dat (vint i.2.1))]) (fun i=>[(1,.box none 255 (List.map Slot.dat (bxU i.2.2)))]) (fun i=>z58 v4 v5 i.1 i.2.1 i.2.2=some r) (fun i=>z1m Z (z1o z1l z1n)) ?_ ?_)))))))))))))))
     ·skip
      refine zx (Zq (fun (s:Int×Int×(List Int))=>[(0,.dat (vlst (List.map ve v1))),(1,.dat (vval (.int .u64 s.1))),(3,.dat (zj v4)),(4,.dat (zj v5)),(10,.dat (vnil)),(11,.dat (vstr [])),(12,.ptr 1 0),(13,.dat (vint s.2.1)),(14,.dat (vval (.int .u64 (IntKind.wrap .u64 r11)))),(15,.dat (vval (.int .u64 (IntKind.wrap .u64 v3)))),(16,.dat (vval (.int .u64 (IntKind.wrap .u64 ((IntKind.wrap .u64 v3) - 1)))))]) (fun (s:Int×Int×(List Int))=>[(1,.box none 255 (List.map Slot.dat (bxU s.2.2)))]) (v2,65,(List.replicate 65 0)) H ⟨Z,Z,Z,Z,Z,Z,Z,Z,Z,Z,Z,U⟩ ⟨Z,U⟩ (fun _=>z1m Z (z1o z1l z1n)) ?_)
      rintro ⟨v13,v14,l15⟩ q16 H hq16
      replace H:z2g v3 v4 v5 r11 v13 v14 l15=some q16:=H
      unfold z2g at H
      refine ze (zb hN Z (qd Z (qd Z (za (vy Z Z) (zg _ Z (fun h17 => ?_) (fun h17 => ?_))))))
      ·refine tE h17 H fun H=>zk (zx (zb hN Z (qd Z (za (yw _ Z Z (.inr (.inl ⟨Z,Z⟩))) (qe Z (zb hN Z (qd Z (qd Z (qd Z (za (ye (y62 Z Z) Z) (bE H fun x18 h19 H=>za (y2s tyU9 Z Z h19) (gE H fun h20 H=>za (z71 (show tyA Tryz.prog 255=some (65,5,.int .u8) from by kernel_rfl) Z Z h20) ?_))))))))))))
       exact gE H fun h21 H=>zi (z7x (l:=l15) tyS5 Z Z h21) Z (zq hN Z (qd Z (qd Z (gE H fun h22 H=>za (ye (z8a Z Z h22) Z) (qe Z ⟨_,qk H,⟨Z,Z,Z,Z,Z,Z,Z,Z,Z,Z,Z,U⟩,⟨Z,U⟩⟩)))))
      ·refine fE h17 H fun H=>qg ?_
       replace H:=outl H hq16
       exact ⟨(v13,v14,l15),H,⟨Z,Z,Z,Z,Z,Z,Z,Z,U⟩,⟨Z,U⟩⟩
     ·rintro ⟨v23,v24,l25⟩ H
      replace H:z58 v4 v5 v23 v24 l25=some r:=H
      unfold z58 at H
      refine zb hN Z (qd Z (za (yw _ Z Z (.inr (.inl ⟨Z,Z⟩))) (qe Z (zq hN Z (qd Z (qd Z (bE H fun x26 h27 H=>za (y2s tyU9 Z Z h27) (gE H fun h28 H=>za (z71 (show tyA Tryz.prog 255=some (65,5,.int .u8) from by kernel_rfl) Z Z h28) ?_))))))))
      exact gE H fun h29 H=>zi (z7x (l:=l25) tyS5 Z Z h29) Z ⟨(wr (v24 - 1),(l25.set (wr (v24 - 1)).toNat (x26.toNat:Int))),H,⟨Z,Z,Z,Z,Z,Z,Z,U⟩,⟨Z,U⟩⟩
    ·refine fE h10 H fun H=>zb hN Z (qd Z (za (jl tyU3 xm Z) (qe Z (yf (ι:=Int×Int×(List Int)) (fun i=>[(0,.dat (vlst (List.map ve v1))),(1,.dat (vval (.int .u64 i.1))),(3,.dat (zj v4)),(4,.dat (zj v5)),(10,.dat (vnil)),(11,.dat (vstr [])),(12,.ptr 1 0),(13,.dat (vint i.2.1))]) (fun i=>[(1,.box none 255 (List.map Slot.dat (bxU i.2.2)))]) (fun i=>y40 v4 v5 i.1 i.2.1 i.2.2=some r) (fun i=>z1m Z (z1o z1l z1n)) ?_ ?_))))
     ·skip
      refine zx (Zq (fun (s:Int×Int×(List Int))=>[(0,.dat (vlst (List.map ve v1))),(1,.dat (vval (.int .u64 s.1))),(3,.dat (zj v4)),(4,.dat (zj v5)),(10,.dat (vnil)),(11,.dat (vstr [])),(12,.ptr 1 0),(13,.dat (vint s.2.1)),(17,.dat (vval (.int .u64 (IntKind.wrap .u64 v3))))]) (fun (s:Int×Int×(List Int))=>[(1,.box none 255 (List.map Slot.dat (bxU s.2.2)))]) (v2,65,(List.replicate 65 0)) H ⟨Z,Z,Z,Z,Z,Z,Z,Z,Z,U⟩ ⟨Z,U⟩ (fun _=>z1m Z (z1o z1l z1n)) ?_)
      rintro ⟨v30,v31,l32⟩ q33 H hq33
      replace H:y8z v3 v4 v5 v30 v31 l32=some q33:=H
      unfold y8z at H
      refine ze (zb hN Z (qd Z (qd Z (za (vy Z Z) (zg _ Z (fun h34 => ?_) (fun h34 => ?_))))))
      ·refine tE h34 H fun H=>zk (zx (zb hN Z (qd Z (za (yw _ Z Z (.inr (.inl ⟨Z,Z⟩))) (qe Z (zb hN Z (qd Z (qd Z (gE H fun h35 H=>za (x07 Z Z h35) (qe Z (zb hN Z (qd Z (qd Z (qd Z (qd Z (za (yw _ Z Z (.inr (.inr ⟨Z,Z⟩))) (za (yw _ Z Z (.inr (.inl ⟨Z,Z⟩))) (bE H fun x36 h37 H=>za (y2s tyU9 Z Z h37) (gE H fun h38 H=>za (z71 (show tyA Tryz.prog 255=some (65,5,.int .u8) from by kernel_rfl) Z Z h38) ?_)))))))))))))))))))
       exact gE H fun h39 H=>zi (z7x (l:=l32) tyS5 Z Z h39) Z (zq hN Z (qd Z (qe Z ⟨_,qk H,⟨Z,Z,Z,Z,Z,Z,Z,Z,Z,U⟩,⟨Z,U⟩⟩)))
      ·refine fE h34 H fun H=>qg ?_
       replace H:=outl H hq33
       exact ⟨(v30,v31,l32),H,⟨Z,Z,Z,Z,Z,Z,Z,Z,U⟩,⟨Z,U⟩⟩
     ·rintro ⟨v40,v41,l42⟩ H
      replace H:y40 v4 v5 v40 v41 l42=some r:=H
      unfold y40 at H
      refine zb hN Z (qd Z (za (yw _ Z Z (.inr (.inl ⟨Z,Z⟩))) (qe Z (zq hN Z (qd Z (qd Z (bE H fun x43 h44 H=>za (y2s tyU9 Z Z h44) (gE H fun h45 H=>za (z71 (show tyA Tryz.prog 255=some (65,5,.int .u8) from by kernel_rfl) Z Z h45) ?_))))))))
      exact gE H fun h46 H=>zi (z7x (l:=l42) tyS5 Z Z h46) Z ⟨(wr (v41 - 1),(l42.set (wr (v41 - 1)).toNat (x43.toNat:Int))),H,⟨Z,Z,Z,Z,Z,Z,Z,U⟩,⟨Z,U⟩⟩
   ·rintro ⟨v47,l48⟩ H
    replace H:z6a v4 v5 v47 l48=some r:=H
    unfold z6a at H
    refine yf (ι:=Int×(List Int)) (fun i=>[(0,.dat (vlst (List.map ve v1))),(4,.dat (zj v5)),(10,.dat (vnil)),(11,.dat (vstr [])),(12,.ptr 1 0),(13,.dat (vint i.1))]) (fun i=>[(1,.box none 255 (List.map Slot.dat (bxU i.2)))]) (fun i=>z57 v5 i.1 i.2=some r) (fun i=>z1m Z (z1o z1l z1n)) ?_ ?_
    ·skip
     refine zb hN Z (qd Z (zg _ Z (fun h49 => ?_) (fun h49 => ?_)))
     ·refine tE h49 H fun H=>zb hN Z (qd Z (za (yw _ Z Z (.inr (.inl ⟨Z,Z⟩))) (qe Z (zq hN Z (qd Z (gE H fun h50 H=>za (z71 (show tyA Tryz.prog 255=some (65,5,.int .u8) from by kernel_rfl) Z Z h50) ?_))))))
      exact gE H fun h51 H=>zi (z7x (l:=l48) tyS5 Z Z h51) Z ⟨(wr (v47 - 1),(l48.set (wr (v47 - 1)).toNat 45)),H,⟨Z,Z,Z,Z,Z,Z,U⟩,⟨Z,U⟩⟩
     ·exact fE h49 H fun H=>zk ⟨(v47,l48),H,⟨Z,Z,Z,Z,Z,Z,U⟩,⟨Z,U⟩⟩
    ·rintro ⟨v52,l53⟩ H
     replace H:z57 v5 v52 l53=some r:=H
     unfold z57 at H
     refine ze (zb hN Z (qd Z (zg _ Z (fun h54 => ?_) (fun h54 => ?_))))
     ·refine tE h54 H fun H=>?_
      cases H
     ·refine fE h54 H fun H=>zk (ze (xg 1 (bxU l53) Z Z (zq hN Z (qd Z (gE H fun h55 H=>gE H fun h56 H=>za (x8h (C:=ve) (show tyA Tryz.prog 255=some (65,5,.int .u8) from by kernel_rfl) Z h55 Z h56 (fun _=>Z)) ?_)))))
      refine za (z4f (C:=ve) Zr tyU5 tyU9 (fun _=>Z) Z) (qe Z (zh ?_))
      cases H
      exact ⟨U,.inr ⟨Z,Z⟩,.inl Z,U⟩
theorem w4l (i1:Int) (base2:Int) (r:(Bs)) (H:y4c i1 base2=some r):Fn Tryz.prog 249 [vval (.int .u64 i1),vint base2] (zw [vstr r]):=by
 refine ⟨by kernel_rfl,yd (us:=[vstr r]) Tryz.func249 Z Z Z Z fun X hN => ?_⟩
 unfold y4c at H
 refine zb hN Z (qe Z (ze (zb hN Z (qd Z (za (ql Z Z) (zg _ Z (fun h3 => ?_) (fun h3 => ?_)))))))
 ·refine tE h3 H fun H=>ze (zb hN Z (qd Z (za (zy Z Z) (zg _ Z (fun h4 => ?_) (fun h4 => ?_)))))
  ·refine tE h4 H fun H=>zb hN Z (qd Z (za (jl xm tyU3 Z) (bE H fun r5 h6 H=>za (zl (x4q (IntKind.wrap .i64 i1) r5 h6) ⟨.inl Z,U⟩) (qe Z (zh ?_)))))
   cases H
   exact ⟨U,.inl Z,U⟩
  ·refine fE h4 H fun H=>?_
   cases H
 ·refine fE h3 H fun H=>zk (zb hN Z (qd Z (qd Z (bE H fun r7 h8 H=>za (zl (x4r ([]:(List Int)) i1 base2 false false r7 h8) ⟨.inr ⟨Z,Z⟩,.inl Z,.inl Z,.inl Z,.inl Z,U⟩) (qd Z (za (ym Z Z) (za (ym Z Z) (qe Z (qe Z (zb hN Z (qd Z (qe Z (zh ?_)))))))))))))
  cases H
  exact ⟨U,.inl Z,U⟩
theorem x4d (i1:Int) (base2:Int) (r:(Bs)) (H:z43 i1 base2=some r):Fn Tryz.prog 174 [vval (.int .u64 i1),vint base2] (zw [vstr r]):=by
 refine ⟨by kernel_rfl,yd (us:=[vstr r]) Tryz.func174 Z Z Z Z fun X hN => ?_⟩
 unfold z43 at H
 refine zb hN Z (qe Z (zb hN Z (qd Z (qd Z (bE H fun r3 h4 H=>za (zl (w4l i1 base2 r3 h4) ⟨.inl Z,.inl Z,U⟩) (qe Z (zh ?_)))))))
 cases H
 exact ⟨U,.inl Z,U⟩
theorem w4s (h1:Int) (r:(Bs)) (H:z5e h1=some r):Fn Tryz.prog 118 [vval (.int .u64 h1)] (zw [vstr r]):=by
 refine ⟨by kernel_rfl,yd (us:=[vstr r]) Tryz.func118 Z Z Z Z fun X hN => ?_⟩
 unfold z5e at H
 refine zb hN Z (qe Z (zb hN Z (qd Z (bE H fun r2 h3 H=>za (zl (x4d h1 16 r2 h3) ⟨.inl Z,.inl Z,U⟩) (qe Z (zb hN Z (qd Z (za (qp tyU9 Z) (za (yw _ Z Z (.inr (.inl ⟨Z,Z⟩))) (bE H fun r4 h5 H=>za (zl (y4q [48] (wr (16 - (r2.length:Int))) r4 h5) ⟨.inl Z,.inl Z,U⟩) (qd Z (gE H fun h6 H=>za (wt Z Z (Nat.le_trans h6 (by decide))) (qe Z (zh ?_))))))))))))))
 cases H
 exact ⟨U,.inl Z,U⟩
theorem z2f (secret1:Bs) (text2:Bs) (r:(Bs)) (H:uo secret1 text2=some r):Fn Tryz.prog 54 [vstr secret1,vstr text2] (zw [vstr r]):=by
 refine ⟨by kernel_rfl,yd (us:=[vstr r]) Tryz.func54 Z Z Z Z fun X hN => ?_⟩
 unfold uo at H
 refine zb hN Z (qe Z (zb hN Z (qd Z (qd Z (qd Z (za (ye (u':=vlst (List.map zo [secret1,text2,secret1])) (qa [[_],[_],[_]] qn ⟨Z,.inl ⟨_,Z,Z,Z⟩,Z,Z,.inl ⟨_,Z,Z,Z⟩,Z,Z,.inl ⟨_,Z,Z,Z⟩,Z,U⟩ Z Z) Z) (bE H fun r3 h4 H=>za (zl (w4t [secret1,text2,secret1] r3 h4) ⟨.inl Z,U⟩) (qe Z (ze (zb hN Z (qd Z (zx (gE H fun h8 H=>Zp (fun (k6:Nat) (s:Int)=>[(5,.dat (vval (.int .u64 s))),(11,.dat (vint (k6:Int)))]) (fun (k6:Nat) (s:Int)=>[]) r3 H ⟨Z,Z,U⟩ U (fun _ _=>Z) ?_ ?_)))))))))))))
 ·rintro h5 H
  replace H:z6l h5=some r:=H
  unfold z6l at H
  refine zb hN Z (za (zy Z Z) (ze (zg _ Z (fun h=>(lt_t h).elim) (fun h => ?_))))
  refine qg (zb hN Z (qd Z (bE H fun r9 h10 H=>za (zl (w4s h5 r9 h10) ⟨.inl Z,U⟩) (qe Z (zh ?_)))))
  cases H
  exact ⟨U,.inl Z,U⟩
 ·rintro k6 h5 q7 h11 H hq7
  replace H:y5b k6 h5=some q7:=H
  unfold y5b at H
  refine zb hN Z (za (zy Z Z) (ze (zg _ Z (fun h => ?_) (fun h=>(lt_f h11 h).elim))))
  exact zk (ze (zx (zq hN Z (qd Z (qd Z (za (ye (z8a Z Z (by decide)) Z) (za (ye (y2v Z Z) Z) (za (yw _ Z Z (.inr (.inr ⟨Z,Z⟩))) (qe Z (zq hN Z (za (qw Z Z (by omega)) (qd Z ⟨_,qk H,⟨Z,Z,U⟩,U⟩))))))))))))
theorem w5p (s1:zt) (r:((List yr)×zt)) (H:y0e s1=some r):Imp Tryz.prog 37 25 (qr s1) [] (zw [vlst (List.map vx r.1)]) (qr r.2):=by
 refine jo (us:=[vlst (List.map vx r.1)]) (cs':=(qr r.2)) (by kernel_rfl) Tryz.func37 Z Z Z Z fun X bl hN => ?_
 unfold y0e at H
 refine zb hN Z (qe Z (zb hN Z (qe Z (ze (zb hN Z (za (ye (u':=vlst (List.map zo [[97,112,112,49],[97,112,112,50]])) (qa [[_],[_]] qn ⟨Z,.inl ⟨_,Z,Z,Z⟩,Z,Z,.inl ⟨_,Z,Z,Z⟩,Z,U⟩ Z Z) Z) (za (yo qm Z) (qd Z (zx (uh 3 1 80 5 Z Z Z (gE H fun h7 H=>wi (fun (k5:Nat) (s:(List Int)×Int×(List yr))=>[(0,.ptr 0 0),(3,.row 1 s.2.2.length),(12,.dat (vlst (List.map zo ([[97,112,112,49],[97,112,112,50]])))),(13,.dat (vint (([[97,112,112,49],[97,112,112,50]]).length:Int))),(14,.dat (vint (k5:Int)))]) (fun (k5:Nat) (s:(List Int)×Int×(List yr))=>[(0,.box (some bl) 25 [.dat (vlst (List.map qz s.1)),.dat (vint s.2.1)]),(1,.row 80 5 (List.map vx s.2.2))]) (s1.L,s1.at_,[]) H ⟨Z,Z,Z,Z,Z,U⟩ ⟨Z,Z,U⟩ (fun _ _=>Z) ?_ ?_)))))))))))
 ·rintro ⟨c2,c3,l4⟩ H
  replace H:y5u c2 c3 l4=some r:=H
  unfold y5u at H
  refine zb hN Z (za (zy Z Z) (ze (zg _ Z (fun h=>(lt_t h).elim) (fun h => ?_))))
  refine qg (yf (ι:=(List yr)×(List Int)×Int) (fun i=>[(3,.row 1 i.1.length)]) (fun i=>[(0,.box (some bl) 25 [.dat (vlst (List.map qz i.2.1)),.dat (vint i.2.2)]),(1,.row 80 5 (List.map vx i.1))]) (fun i=>z63 i.1 i.2.1 i.2.2=some r) (fun i=>Z) ?_ ?_)
  ·skip
   refine zb hN Z (za (zf (.ptr _ _) Z) (bE H fun r9 h10 H=>zi (yk (kz (zt.mk c2 c3) 15 r9 h10) Z ⟨.inl Z,U⟩ Z) Z (zg _ Z (fun h11 => ?_) (fun h11 => ?_))))
   ·refine tE h11 H fun H=>zq hN Z (za (zf (.row _ _) Z) (za (zf (.ptr _ _) Z) (za (ye (u':=vlst (List.map zo [[97,112,112,49],[],[122,122]])) (qa [[_],[_],[_]] qn ⟨Z,.inl ⟨_,Z,Z,Z⟩,Z,Z,.inl ⟨_,Z,Z,Z⟩,Z,Z,.inl ⟨_,Z,Z,Z⟩,Z,U⟩ Z Z) Z) (bE H fun r12 h13 H=>zi (yk (ji r9.2 ([[97,112,112,49],[],[122,122]]) r12 h13) Z ⟨.inl Z,U⟩ Z) Z (za (zf (.ptr _ _) Z) (za (ye (u':=vlst (List.map zo [[120],[48,49,50,51,52,53,54,55,56,57,97,98,99,100,101,102],[48,49,50,51,52,53,54,55,56,57,65,66,67,68,69,70]])) (qa [[_],[_],[_]] qn ⟨Z,.inl ⟨_,Z,Z,Z⟩,Z,Z,.inl ⟨_,Z,Z,Z⟩,Z,Z,.inl ⟨_,Z,Z,Z⟩,Z,U⟩ Z Z) Z) (bE H fun r14 h15 H=>zi (yk (ji r12.2 ([[120],[48,49,50,51,52,53,54,55,56,57,97,98,99,100,101,102],[48,49,50,51,52,53,54,55,56,57,65,66,67,68,69,70]]) r14 h15) Z ⟨.inl Z,U⟩ Z) Z (za (zf (.ptr _ _) Z) (bE H fun r16 h17 H=>zi (yk (w5k r14.2 r16 h17) Z U Z) Z (za (zf (.ptr _ _) Z) (bE H fun r18 h19 H=>zi (yk (z50 r16.2 0 100 r18 h19) Z ⟨.inl Z,.inl Z,U⟩ Z) Z (za (ye (u':=vagg (vx (yr.mk r12.1 r14.1 r16.1 0 r18.1))) (qt [(0,[vstr r12.1]),(1,[vstr r14.1]),(2,[vlst (List.map zo r16.1)]),(4,[vint r18.1])] z3t x0g Z ⟨Z,.inl ⟨_,Z,Z,Z⟩,Z,Z,.inl ⟨_,Z,Z,Z⟩,Z,Z,.inl ⟨_,Z,Z,Z⟩,Z,Z,.inl ⟨_,Z,Z,Z⟩,Z,U⟩) Z) (za (ye (u':=vlst (List.map vx [(yr.mk r12.1 r14.1 r16.1 0 r18.1)])) (qa [_] y13 ⟨Z,.inr Z,Z,U⟩ Z Z) Z) (gE H fun h20 H=>zi (jt y13 (fun _=>Z) Z Z Z ⟨by simp,by first | (simp; done) | simpa using h20⟩ Z) Z ?_))))))))))))))
    exact za (wm (.row _ _) Z) ⟨((l4++[(yr.mk r12.1 r14.1 r16.1 0 r18.1)]),r18.2.L,r18.2.at_),H,⟨Z,U⟩,⟨Z,Z,U⟩⟩
   ·exact fE h11 H fun H=>zk ⟨(l4,r9.2.L,r9.2.at_),H,⟨Z,U⟩,⟨Z,Z,U⟩⟩
  ·rintro ⟨v21,c22,c23⟩ H
   replace H:z63 v21 c22 c23=some r:=H
   unfold z63 at H
   refine zb hN Z (za (zf (.row _ _) Z) (za (wm (.row _ _) Z) (zh ?_)))
   cases H
   exact ⟨U,⟨Yt Z Z,U⟩,Z⟩
 ·rintro k5 x8 ⟨c2,c3,l4⟩ q6 h24 h25 H hq6
  replace H:y5r k5 x8 c2 c3 l4=some q6:=H
  unfold y5r at H
  refine zb hN Z (za (zy Z Z) (ze (zg _ Z (fun h => ?_) (fun h=>(lt_f h24 h).elim))))
  refine zk (ze (zx (zb hN Z (za (qu qv (fun _=>Z) Z Z h25) (za (yj tyS9 Z (yy h25) Z) (qe Z (zb hN Z (qe Z (ze (zb hN Z (za (ye (u':=vlst (List.map zo [[107,101,121,45,49],[107,101,121,45,50]])) (qa [[_],[_]] qn ⟨Z,.inl ⟨_,Z,Z,Z⟩,Z,Z,.inl ⟨_,Z,Z,Z⟩,Z,U⟩ Z Z) Z) (za (yo qm Z) (qd Z (zx (uh 6 2 9 1 Z Z Z (gE H fun h31 H=>wi (fun (k29:Nat) (s:(List Int)×Int×(List Bs))=>[(0,.ptr 0 0),(3,.row 1 l4.length),(5,.dat (vstr x8)),(6,.row 2 s.2.2.length),(12,.dat (vlst (List.map zo ([[97,112,112,49],[97,112,112,50]])))),(13,.dat (vint (([[97,112,112,49],[97,112,112,50]]).length:Int))),(14,.dat (vint (k5:Int))),(18,.dat (vlst (List.map zo ([[107,101,121,45,49],[107,101,121,45,50]])))),(19,.dat (vint (([[107,101,121,45,49],[107,101,121,45,50]]).length:Int))),(20,.dat (vint (k29:Int)))]) (fun (k29:Nat) (s:(List Int)×Int×(List Bs))=>[(0,.box (some bl) 25 [.dat (vlst (List.map qz s.1)),.dat (vint s.2.1)]),(1,.row 80 5 (List.map vx l4)),(2,.row 9 1 (List.map zo s.2.2))]) (c2,c3,[]) H ⟨Z,Z,Z,Z,Z,Z,Z,Z,Z,Z,U⟩ ⟨Z,Z,Z,U⟩ (fun _ _=>Z) ?_ ?_))))))))))))))))
  ·rintro ⟨c26,c27,l28⟩ H
   replace H:y5t l4 x8 c26 c27 l28=some q6:=H
   unfold y5t at H
   refine zb hN Z (za (zy Z Z) (ze (zg _ Z (fun h=>(lt_t h).elim) (fun h => ?_))))
   refine qg (zb hN Z (za (zf (.row _ _) Z) (bE H fun r33 h34 H=>Zf (rn [(0,2)]) [(0,_,_,some _)] [] (y8c l28 r33 h34) ⟨Z,U⟩ ⟨.inl (.inl Z),U⟩ ⟨⟨⟨Z,Z,Z⟩,by simp [z1h,Yx h34]⟩,U⟩ Z ?_)))
   refine zb hN Z (za (zf (.row _ _) Z) (zu (y2r qm Z (Yx h34).symm) Z (qd Z (zx (gE H fun h40 H=>Zp (fun (k38:Nat) (s:(List Int)×Int×(List yr))=>[(0,.ptr 0 0),(3,.row 1 s.2.2.length),(5,.dat (vstr x8)),(12,.dat (vlst (List.map zo ([[97,112,112,49],[97,112,112,50]])))),(13,.dat (vint (([[97,112,112,49],[97,112,112,50]]).length:Int))),(14,.dat (vint (k5:Int))),(34,.row 2 l28.length),(35,.dat (vint (r33.length:Int))),(36,.dat (vint (k38:Int)))]) (fun (k38:Nat) (s:(List Int)×Int×(List yr))=>[(0,.box (some bl) 25 [.dat (vlst (List.map qz s.1)),.dat (vint s.2.1)]),(1,.row 80 5 (List.map vx s.2.2)),(2,.row 9 1 (List.map zo r33))]) (c26,c27,l4) H ⟨Z,Z,Z,Z,Z,Z,congrArg (Slot.row 2) (by simp),Z,Z,U⟩ ⟨Z,Z,Z,U⟩ (fun _ _=>Z) ?_ ?_)))))
   ·rintro ⟨c35,c36,l37⟩ H
    replace H:y5s c35 c36 l37=some q6:=H
    unfold y5s at H
    refine zb hN Z (za (zy Z Z) (ze (zg _ Z (fun h=>(lt_t h).elim) (fun h => ?_))))
    exact qg (zq hN Z (za (qw Z Z (by omega)) (qd Z ⟨_,qk H,⟨Z,Z,Z,Z,Z,U⟩,⟨Z,Z,U⟩⟩)))
   ·rintro k38 ⟨c35,c36,l37⟩ q39 h41 H hq39
    replace H:y5p x8 r33 k38 c35 c36 l37=some q39:=H
    unfold y5p at H
    refine zb hN Z (za (zy Z Z) (ze (zg _ Z (fun h => ?_) (fun h=>(lt_f h41 h).elim))))
    refine zk (ze (zx (zb hN Z (bE H fun x42 h43 H=>zu (x8e qv Z (Yx h34).symm Z h43) Z (zu (x02 tyS9 Z (Yx h34).symm h43 Z) Z (qe Z (zb hN Z (za (zf (.ptr _ _) Z) (za (ye (u':=vlst (List.map qz [0,0,50])) (qa [[_],[_],[_]] uj ⟨Z,.inl ⟨_,Z,Z,Z⟩,Z,Z,.inl ⟨_,Z,Z,Z⟩,Z,Z,.inl ⟨_,Z,Z,Z⟩,Z,U⟩ Z Z) Z) (bE H fun r44 h45 H=>zi (yk (uu (zt.mk c35 c36) [0,0,50] r44 h45) Z ⟨.inl Z,U⟩ Z) Z (qe Z (zq hN Z (za (zf (.row _ _) Z) (qd Z (qd Z (za (zf (.ptr _ _) Z) (bE H fun r46 h47 H=>zi (yk (x4z r44.2 r46 h47) Z U Z) Z (qd Z (qd Z (za (zf (.ptr _ _) Z) ?_))))))))))))))))))))
    refine za (ye (u':=vlst (List.map qz [0,50,100,1000])) (qa [[_],[_],[_],[_]] uj ⟨Z,.inl ⟨_,Z,Z,Z⟩,Z,Z,.inl ⟨_,Z,Z,Z⟩,Z,Z,.inl ⟨_,Z,Z,Z⟩,Z,Z,.inl ⟨_,Z,Z,Z⟩,Z,U⟩ Z Z) Z) (bE H fun r48 h49 H=>zi (yk (uu r46.2 [0,50,100,1000] r48 h49) Z ⟨.inl Z,U⟩ Z) Z (za (yw _ Z Z (.inl ⟨Z,Z⟩)) (za (ye (u':=vagg (vx (yr.mk x8 x42 r46.1 r44.1 (wr (r44.1+r48.1))))) (qt [(0,[vstr x8]),(1,[vstr x42]),(2,[vlst (List.map zo r46.1)]),(3,[vint r44.1]),(4,[vint (wr (r44.1+r48.1))])] z3t x0g Z ⟨Z,.inl ⟨_,Z,Z,Z⟩,Z,Z,.inl ⟨_,Z,Z,Z⟩,Z,Z,.inl ⟨_,Z,Z,Z⟩,Z,Z,.inl ⟨_,Z,Z,Z⟩,Z,Z,.inl ⟨_,Z,Z,Z⟩,Z,U⟩) Z) (za (ye (u':=vlst (List.map vx [(yr.mk x8 x42 r46.1 r44.1 (wr (r44.1+r48.1)))])) (qa [_] y13 ⟨Z,.inr Z,Z,U⟩ Z Z) Z) (gE H fun h50 H=>zi (jt y13 (fun _=>Z) Z Z Z ⟨by simp,by first | (simp; done) | simpa using h50⟩ Z) Z ?_)))))
    exact za (wm (.row _ _) Z) (zq hN Z (za (qw Z Z (by omega)) (qd Z ⟨_,qk H,⟨Z,Z,Z,Z,Z,Z,congrArg (Slot.row 2) (by simp),Z,Z,U⟩,⟨Z,Z,Z,U⟩⟩)))
  ·rintro k29 x32 ⟨c26,c27,l28⟩ q30 h51 h52 H hq30
   replace H:y5q k29 x32 c26 c27 l28=some q30:=H
   unfold y5q at H
   refine zb hN Z (za (zy Z Z) (ze (zg _ Z (fun h => ?_) (fun h=>(lt_f h51 h).elim))))
   refine zk (yf (ι:=(List Bs)×(List Int)×Int) (fun i=>[(0,.ptr 0 0),(3,.row 1 l4.length),(5,.dat (vstr x8)),(6,.row 2 i.1.length),(12,.dat (vlst (List.map zo ([[97,112,112,49],[97,112,112,50]])))),(13,.dat (vint (([[97,112,112,49],[97,112,112,50]]).length:Int))),(14,.dat (vint (k5:Int))),(18,.dat (vlst (List.map zo ([[107,101,121,45,49],[107,101,121,45,50]])))),(19,.dat (vint (([[107,101,121,45,49],[107,101,121,45,50]]).length:Int))),(20,.dat (vint (k29:Int)))]) (fun i=>[(0,.box (some bl) 25 [.dat (vlst (List.map qz i.2.1)),.dat (vint i.2.2)]),(1,.row 80 5 (List.map vx l4)),(2,.row 9 1 (List.map zo i.1))]) (fun i=>z62 i.1 i.2.1 i.2.2=some q30) (fun i=>Z) ?_ ?_)
   ·skip
    refine zx (zb hN Z (za (qu qv (fun _=>Z) Z Z h52) (za (yj tyS9 Z (yy h52) Z) (qe Z (zb hN Z (za (zf (.ptr _ _) Z) (bE H fun r53 h54 H=>zi (yk (kz (zt.mk c26 c27) 2 r53 h54) Z ⟨.inl Z,U⟩ Z) Z (zg _ Z (fun h55 => ?_) (fun h55 => ?_)))))))))
    ·refine tE h55 H fun H=>zq hN Z (za (zf (.row _ _) Z) (qd Z (bE H fun r56 h57 H=>za (zl (z2f [103,97,116,101] x32 r56 h57) ⟨.inl Z,.inl Z,U⟩) (za (ye (u':=vlst (List.map zo [r56])) (qa [[_]] qn ⟨Z,.inl ⟨_,Z,Z,Z⟩,Z,U⟩ Z Z) Z) (gE H fun h58 H=>zi (jt qn (fun _=>Z) Z Z Z ⟨by simp,by first | (simp; done) | simpa using h58⟩ Z) Z ?_)))))
     exact za (wm (.row _ _) Z) ⟨((l28++[r56]),r53.2.L,r53.2.at_),H,⟨Z,Z,Z,Z,Z,Z,Z,Z,Z,Z,U⟩,⟨Z,Z,Z,U⟩⟩
    ·exact fE h55 H fun H=>zk ⟨(l28,r53.2.L,r53.2.at_),H,⟨Z,Z,Z,Z,Z,Z,Z,Z,Z,Z,U⟩,⟨Z,Z,Z,U⟩⟩
   ·rintro ⟨v59,c60,c61⟩ H
    replace H:z62 v59 c60 c61=some q30:=H
    unfold z62 at H
    exact zq hN Z (za (qw Z Z (by omega)) (qd Z ⟨_,qk H,⟨Z,Z,Z,Z,Z,Z,Z,Z,Z,Z,U⟩,⟨Z,Z,Z,U⟩⟩))
end Go.Proofs.YtndabcepiekebaaGreatDoor
