/- Walks along the models. Printed by a program. -/
import Derived.Test.YtndabcepiekebaaGreatDoorZkw3
namespace Go.Proofs.YtndabcepiekebaaGreatDoor
open Go.RowKit
set_option linter.unusedVariables false
set_option maxRecDepth 100000
set_option maxHeartbeats 2000000
theorem x41 (s1:zt) (t2:Bs) (v3:Bs) (r:(Bs×zt)) (H:z5r s1 t2 v3=some r):Imp Tryz.prog 56 25 (qr s1) [vstr t2,vstr v3] (zw [vstr r.1]) (qr r.2):=by
 refine jo (us:=[vstr r.1]) (cs':=(qr r.2)) (by kernel_rfl) Tryz.func56 Z Z Z Z fun X bl hN => ?_
 unfold z5r at H
 refine zb hN Z (qe Z (ze (zb hN Z (qd Z (za (wy Z Z) (qd Z (yi Z Z (fun hc=>zf (.dat _) Z) (yi Z Z (fun hc=>wy (cnd (c:=(!(decide (t2=[])))) hc) Z) (za (wz Z Z (fun hb=>(cnd (c:=(!(decide (t2=[])))) (notI hb)))) (zg _ Z (fun h4 => ?_) (fun h4 => ?_)))))))))))
 ·refine tE h4 H fun H=>zb hN Z (qd Z (qe Z (zh ?_)))
  cases H
  exact ⟨U,⟨.inl Z,U⟩,Z⟩
 ·refine fE h4 H fun H=>zk (zb hN Z (za (zf (.ptr _ _) Z) (qd Z (za (qp tyU9 Z) (bE H fun r5 h6 H=>zi (yk (Zk s1 (t2.length:Int) r5 h6) Z ⟨.inl Z,U⟩ Z) Z (qe Z (zb hN Z (qd Z (za (zf (.ptr _ _) Z) (qd Z (za (qp tyU9 Z) (bE H fun r7 h8 H=>zi (yk (Zk r5.2 (v3.length:Int) r7 h8) Z ⟨.inl Z,U⟩ Z) Z (bE H fun x9 h10 H=>za (Zc tyU9 Z Z h10) (qe Z (ze (zb hN Z (za (zf (.ptr _ _) Z) (bE H fun r11 h12 H=>zi (yk (Zk r7.2 3 r11 h12) Z ⟨.inl Z,U⟩ Z) Z ?_))))))))))))))))))
  refine zx (zb hN Z (za (ql Z Z) (qe Z (zg _ Z (fun h13 => ?_) (fun h13 => ?_)))))
  ·refine tE h13 H fun H=>ze (wx mixed hN Z Z (qd Z (qd Z (bE H fun l14 h15 H=>za (jc tyU9 Z Z Z h15) (qd Z (za (jl tyU5 y1y Z) (za (x1d y1y Z tyU9 Z) (gE H fun h16 H=>za (wt Z Z (Nat.le_trans h16 (by decide))) (qd Z (qd Z (za (yw _ Z Z (.inl ⟨Z,Z⟩)) (bE H fun l17 h18 H=>za (jc tyU9 Z Z Z h18) (gE H fun h19 H=>za (wt Z Z (Nat.le_trans h19 (by decide))) (qe Z ⟨Z,?_⟩))))))))))))))
   refine zh ?_
   cases H
   exact ⟨U,⟨.inl Z,U⟩,Z⟩
  ·refine fE h13 H fun H=>zb hN Z (za (ql Z Z) (qe Z (zg _ Z (fun h20 => ?_) (fun h20 => ?_))))
   ·refine tE h20 H fun H=>ze (wx mixed hN Z Z (qd Z (qd Z (bE H fun l21 h22 H=>za (jc tyU9 Z Z Z h22) (qd Z (za (jl tyU5 y1y Z) (za (x1d y1y Z tyU9 Z) (gE H fun h23 H=>za (wt Z Z (Nat.le_trans h23 (by decide))) (qd Z (qd Z (bE H fun l24 h25 H=>za (jc tyU9 Z Z Z h25) (gE H fun h26 H=>za (wt Z Z (Nat.le_trans h26 (by decide))) (qe Z ⟨Z,?_⟩)))))))))))))
    refine zh ?_
    cases H
    exact ⟨U,⟨.inl Z,U⟩,Z⟩
   ·refine fE h20 H fun H=>zk (ze (wx mixed hN Z Z (qd Z (qd Z (bE H fun l27 h28 H=>za (jc tyU9 Z Z Z h28) (qd Z (qd Z (za (yw _ Z Z (.inl ⟨Z,Z⟩)) (bE H fun l29 h30 H=>za (jc tyU9 Z Z Z h30) (gE H fun h31 H=>za (wt Z Z (Nat.le_trans h31 (by decide))) (qe Z ⟨Z,?_⟩)))))))))))
    refine zh ?_
    cases H
    exact ⟨U,⟨.inl Z,U⟩,Z⟩
theorem w5q (s1:zt) (r:(Bs×zt)) (H:y0f s1=some r):Imp Tryz.prog 55 25 (qr s1) [] (zw [vstr r.1]) (qr r.2):=by
 refine jo (us:=[vstr r.1]) (cs':=(qr r.2)) (by kernel_rfl) Tryz.func55 Z Z Z Z fun X bl hN => ?_
 unfold y0f at H
 refine zb hN Z (qe Z (zb hN Z (za (zf (.ptr _ _) Z) (bE H fun r2 h3 H=>zi (yk (x40 s1 r2 h3) Z U Z) Z (bE H fun r4 h5 H=>za (zl (y8t r2.1 r4 h5) ⟨.inl Z,U⟩) (qe Z (ze (zb hN Z (za (zf (.ptr _ _) Z) (za (ye (u':=vlst (List.map qz [0,0,1,2])) (qa [[_],[_],[_],[_]] uj ⟨Z,.inl ⟨_,Z,Z,Z⟩,Z,Z,.inl ⟨_,Z,Z,Z⟩,Z,Z,.inl ⟨_,Z,Z,Z⟩,Z,Z,.inl ⟨_,Z,Z,Z⟩,Z,U⟩ Z Z) Z) (bE H fun r6 h7 H=>zi (yk (uu r2.2 [0,0,1,2] r6 h7) Z ⟨.inl Z,U⟩ Z) Z (qd Z (zx (gE H fun h13 H=>Zp (fun (k11:Nat) (s:Bs×(List Int)×Int)=>[(0,.ptr 0 0),(3,.dat (vstr s.1)),(9,.dat (vint r6.1)),(10,.dat (vint (k11:Int)))]) (fun (k11:Nat) (s:Bs×(List Int)×Int)=>[(0,.box (some bl) 25 [.dat (vlst (List.map qz s.2.1)),.dat (vint s.2.2)])]) (r4,r6.2.L,r6.2.at_) H ⟨Z,Z,Z,Z,U⟩ ⟨Z,U⟩ (fun _ _=>Z) ?_ ?_))))))))))))))
 ·rintro ⟨t8,c9,c10⟩ H
  replace H:y5w t8 c9 c10=some r:=H
  unfold y5w at H
  refine zb hN Z (za (zy Z Z) (ze (zg _ Z (fun h=>(z5t h).elim) (fun h => ?_))))
  refine qg (yf (ι:=Bs×(List Int)×Int) (fun i=>[(3,.dat (vstr i.1))]) (fun i=>[(0,.box (some bl) 25 [.dat (vlst (List.map qz i.2.1)),.dat (vint i.2.2)])]) (fun i=>z64 i.1 i.2.1 i.2.2=some r) (fun i=>Z) ?_ ?_)
  ·skip
   refine zb hN Z (za (zf (.ptr _ _) Z) (bE H fun r14 h15 H=>zi (yk (kz (zt.mk c9 c10) 10 r14 h15) Z ⟨.inl Z,U⟩ Z) Z (zg _ Z (fun h16 => ?_) (fun h16 => ?_))))
   ·exact tE h16 H fun H=>zq hN Z (qd Z (za (zf (.ptr _ _) Z) (za (ye (u':=vlst (List.map zo [[105,100,32,116,49,10],[116,105,109,101],[10,105,115,115,117,101,114],[115,117,98,106,101,99,116],[109,97,121]])) (qa [[_],[_],[_],[_],[_]] qn ⟨Z,.inl ⟨_,Z,Z,Z⟩,Z,Z,.inl ⟨_,Z,Z,Z⟩,Z,Z,.inl ⟨_,Z,Z,Z⟩,Z,Z,.inl ⟨_,Z,Z,Z⟩,Z,Z,.inl ⟨_,Z,Z,Z⟩,Z,U⟩ Z Z) Z) (bE H fun r17 h18 H=>zi (yk (ji r14.2 ([[105,100,32,116,49,10],[116,105,109,101],[10,105,115,115,117,101,114],[115,117,98,106,101,99,116],[109,97,121]]) r17 h18) Z ⟨.inl Z,U⟩ Z) Z (za (zf (.ptr _ _) Z) (za (ye (u':=vlst (List.map zo [[],[102,111,114],[10,105,100],[109,97,121],[10]])) (qa [[_],[_],[_],[_],[_]] qn ⟨Z,.inl ⟨_,Z,Z,Z⟩,Z,Z,.inl ⟨_,Z,Z,Z⟩,Z,Z,.inl ⟨_,Z,Z,Z⟩,Z,Z,.inl ⟨_,Z,Z,Z⟩,Z,Z,.inl ⟨_,Z,Z,Z⟩,Z,U⟩ Z Z) Z) (bE H fun r19 h20 H=>zi (yk (ji r17.2 ([[],[102,111,114],[10,105,100],[109,97,121],[10]]) r19 h20) Z ⟨.inl Z,U⟩ Z) Z (bE H fun r21 h22 H=>za (zl (w3y t8 r17.1 r19.1 1 r21 h22) ⟨.inl Z,.inl Z,.inl Z,.inl Z,U⟩) (qe Z ⟨(r21,r19.2.L,r19.2.at_),H,⟨Z,U⟩,⟨Z,U⟩⟩)))))))))
   ·exact fE h16 H fun H=>zk ⟨(t8,r14.2.L,r14.2.at_),H,⟨Z,U⟩,⟨Z,U⟩⟩
  ·rintro ⟨t23,c24,c25⟩ H
   replace H:z64 t23 c24 c25=some r:=H
   unfold z64 at H
   refine zb hN Z (qd Z (qe Z (zh ?_)))
   cases H
   exact ⟨U,⟨.inl Z,U⟩,Z⟩
 ·rintro k11 ⟨t8,c9,c10⟩ q12 h26 H hq12
  replace H:y5v k11 t8 c9 c10=some q12:=H
  unfold y5v at H
  refine zb hN Z (za (zy Z Z) (ze (zg _ Z (fun h => ?_) (fun h=>(z5u h26 h).elim))))
  exact zk (ze (zx (zq hN Z (za (zf (.ptr _ _) Z) (qd Z (bE H fun r27 h28 H=>zi (yk (x41 (zt.mk c9 c10) t8 [32,10,105,116,48,115,58] r27 h28) Z ⟨.inl Z,.inl Z,U⟩ Z) Z (qe Z (zq hN Z (za (qw Z Z (by omega)) (qd Z ⟨_,qk H,⟨Z,Z,Z,Z,U⟩,⟨Z,U⟩⟩))))))))))
theorem w5h (s1:zt) (v2:(List ya)) (v3:zm) (v4:Int) (r:(Bs×zt)) (H:z94 s1 v2 v3 v4=some r):Imp Tryz.prog 12 25 (qr s1) [vlst (List.map wg v2),vagg (yq v3),vint v4] (zw [vstr r.1]) (qr r.2):=by
 refine jo (us:=[vstr r.1]) (cs':=(qr r.2)) (by kernel_rfl) Tryz.func12 Z Z Z Z fun X bl hN => ?_
 unfold z94 at H
 refine zb hN Z (zi (jf 1 Z) Z (qe Z (zb hN Z (qd Z (zu (vo yn Z Z Z) Z (qd Z (bE H fun r5 h6 H=>za (zl (w46 v2 v3 v4 r5 h6) ⟨.inl Z,.inl Z,.inl Z,U⟩) (qd Z (za (ym Z Z) (za (ym Z Z) (qe Z (qe Z (yf (ι:=Bs) (fun i=>[(0,.ptr 0 0),(9,.dat (vstr i))]) (fun i=>[(0,.box (some bl) 25 [.dat (vlst (List.map qz s1.L)),.dat (vint s1.at_)])]) (fun i=>z3c s1 i=some r) (fun i=>Z) ?_ ?_)))))))))))))
 ·skip
  refine zb hN Z (qd Z (za (wa Z Z) (zg _ Z (fun h7 => ?_) (fun h7 => ?_))))
  ·exact tE h7 H fun H=>zb hN Z (zu (vo yn Z Z Z) Z (bE H fun r8 h9 H=>za (zl (y8t v3 r8 h9) ⟨.inl Z,U⟩) (bE H fun r10 h11 H=>za (zl (y4w r8 r10 h11) ⟨.inl Z,U⟩) (gE H fun h12 H=>za (wt Z Z (Nat.le_trans h12 (by decide))) (qe Z (zq hN Z (qd Z (gE H fun h13 H=>za (wt Z Z (Nat.le_trans h13 (by decide))) (qd Z (bE H fun r14 h15 H=>za (zl (z2f [111,110,101] ([115,49,46]++r10) r14 h15) ⟨.inl Z,.inl Z,U⟩) (gE H fun h16 H=>za (wt Z Z (Nat.le_trans h16 (by decide))) (qe Z ⟨((([115,49,46]++r10)++[46])++r14),H,⟨Z,Z,U⟩,⟨Z,U⟩⟩))))))))))))
  ·exact fE h7 H fun H=>zk ⟨r5.1,H,⟨Z,Z,U⟩,⟨Z,U⟩⟩
 ·rintro v17 H
  replace H:z3c s1 v17=some r:=H
  unfold z3c at H
  refine yf (ι:=Bs×(List Int)×Int) (fun i=>[(0,.ptr 0 0),(9,.dat (vstr i.1))]) (fun i=>[(0,.box (some bl) 25 [.dat (vlst (List.map qz i.2.1)),.dat (vint i.2.2)])]) (fun i=>z3b i.1 i.2.1 i.2.2=some r) (fun i=>Z) ?_ ?_
  ·skip
   refine zb hN Z (za (zf (.ptr _ _) Z) (bE H fun r18 h19 H=>zi (yk (kz s1 8 r18 h19) Z ⟨.inl Z,U⟩ Z) Z (zg _ Z (fun h20 => ?_) (fun h20 => ?_))))
   ·refine tE h20 H fun H=>zb hN Z (za (zf (.ptr _ _) Z) (za (ye (u':=vlst (List.map zo [[115,49],[115,50],[115,57]])) (qa [[_],[_],[_]] qn ⟨Z,.inl ⟨_,Z,Z,Z⟩,Z,Z,.inl ⟨_,Z,Z,Z⟩,Z,Z,.inl ⟨_,Z,Z,Z⟩,Z,U⟩ Z Z) Z) (bE H fun r21 h22 H=>zi (yk (ji r18.2 ([[115,49],[115,50],[115,57]]) r21 h22) Z ⟨.inl Z,U⟩ Z) Z (gE H fun h23 H=>za (wt Z Z (Nat.le_trans h23 (by decide))) (za (zf (.ptr _ _) Z) (bE H fun r24 h25 H=>zi (yk (w5q r21.2 r24 h25) Z U Z) Z (bE H fun r26 h27 H=>za (zl (y4w r24.1 r26 h27) ⟨.inl Z,U⟩) (gE H fun h28 H=>za (wt Z Z (Nat.le_trans h28 (by decide))) (qe Z (zq hN Z (qd Z (gE H fun h29 H=>za (wt Z Z (Nat.le_trans h29 (by decide))) (za (zf (.ptr _ _) Z) (za (ye (u':=vlst (List.map zo [[111,110,101],[116,119,111]])) (qa [[_],[_]] qn ⟨Z,.inl ⟨_,Z,Z,Z⟩,Z,Z,.inl ⟨_,Z,Z,Z⟩,Z,U⟩ Z Z) Z) (bE H fun r30 h31 H=>zi (yk (ji r24.2 ([[111,110,101],[116,119,111]]) r30 h31) Z ⟨.inl Z,U⟩ Z) Z ?_)))))))))))))))
    exact qd Z (bE H fun r32 h33 H=>za (zl (z2f r30.1 ((r21.1++[46])++r26) r32 h33) ⟨.inl Z,.inl Z,U⟩) (gE H fun h34 H=>za (wt Z Z (Nat.le_trans h34 (by decide))) (qe Z ⟨(((((r21.1++[46])++r26)++[46])++r32),r30.2.L,r30.2.at_),H,⟨Z,Z,U⟩,⟨Z,U⟩⟩)))
   ·exact fE h20 H fun H=>zk ⟨(v17,r18.2.L,r18.2.at_),H,⟨Z,Z,U⟩,⟨Z,U⟩⟩
  ·rintro ⟨v35,c36,c37⟩ H
   replace H:z3b v35 c36 c37=some r:=H
   unfold z3b at H
   refine yf (ι:=Bs×(List Int)×Int) (fun i=>[(0,.ptr 0 0),(9,.dat (vstr i.1))]) (fun i=>[(0,.box (some bl) 25 [.dat (vlst (List.map qz i.2.1)),.dat (vint i.2.2)])]) (fun i=>z3a i.1 i.2.1 i.2.2=some r) (fun i=>Z) ?_ ?_
   ·skip
    refine zb hN Z (za (zf (.ptr _ _) Z) (bE H fun r38 h39 H=>zi (yk (kz (zt.mk c36 c37) 8 r38 h39) Z ⟨.inl Z,U⟩ Z) Z (zg _ Z (fun h40 => ?_) (fun h40 => ?_))))
    ·exact tE h40 H fun H=>zq hN Z (za (zf (.ptr _ _) Z) (qd Z (bE H fun r41 h42 H=>zi (yk (x41 r38.2 v35 [65,46,98,95,48] r41 h42) Z ⟨.inl Z,.inl Z,U⟩ Z) Z (qe Z ⟨(r41.1,r41.2.L,r41.2.at_),H,⟨Z,Z,U⟩,⟨Z,U⟩⟩))))
    ·exact fE h40 H fun H=>zk ⟨(v35,r38.2.L,r38.2.at_),H,⟨Z,Z,U⟩,⟨Z,U⟩⟩
   ·rintro ⟨v43,c44,c45⟩ H
    replace H:z3a v43 c44 c45=some r:=H
    unfold z3a at H
    refine yf (ι:=Bs×(List Int)×Int) (fun i=>[(9,.dat (vstr i.1))]) (fun i=>[(0,.box (some bl) 25 [.dat (vlst (List.map qz i.2.1)),.dat (vint i.2.2)])]) (fun i=>z6v i.1 i.2.1 i.2.2=some r) (fun i=>Z) ?_ ?_
    ·skip
     refine zb hN Z (za (zf (.ptr _ _) Z) (bE H fun r46 h47 H=>zi (yk (kz (zt.mk c44 c45) 25 r46 h47) Z ⟨.inl Z,U⟩ Z) Z (zg _ Z (fun h48 => ?_) (fun h48 => ?_))))
     ·exact tE h48 H fun H=>zb hN Z (za (zf (.ptr _ _) Z) (za (ye (u':=vlst (List.map zo [[65],[89,82],[42],[]])) (qa [[_],[_],[_],[_]] qn ⟨Z,.inl ⟨_,Z,Z,Z⟩,Z,Z,.inl ⟨_,Z,Z,Z⟩,Z,Z,.inl ⟨_,Z,Z,Z⟩,Z,Z,.inl ⟨_,Z,Z,Z⟩,Z,U⟩ Z Z) Z) (bE H fun r49 h50 H=>zi (yk (ji r46.2 ([[65],[89,82],[42],[]]) r49 h50) Z ⟨.inl Z,U⟩ Z) Z (gE H fun h51 H=>za (wt Z Z (Nat.le_trans h51 (by decide))) (qe Z (zq hN Z (qd Z (gE H fun h52 H=>za (wt Z Z (Nat.le_trans h52 (by decide))) (qd Z (bE H fun r53 h54 H=>za (zl (z2f [111,110,101] ([115,49,46]++r49.1) r53 h54) ⟨.inl Z,.inl Z,U⟩) (gE H fun h55 H=>za (wt Z Z (Nat.le_trans h55 (by decide))) (qe Z ⟨(((([115,49,46]++r49.1)++[46])++r53),r49.2.L,r49.2.at_),H,⟨Z,U⟩,⟨Z,U⟩⟩))))))))))))
     ·exact fE h48 H fun H=>zk ⟨(v43,r46.2.L,r46.2.at_),H,⟨Z,U⟩,⟨Z,U⟩⟩
    ·rintro ⟨v56,c57,c58⟩ H
     replace H:z6v v56 c57 c58=some r:=H
     unfold z6v at H
     refine zb hN Z (qd Z (qe Z (zh ?_)))
     cases H
     exact ⟨U,⟨.inl Z,U⟩,Z⟩
theorem w2y (s1:zt) (most2:Int) (r:((List qo)×zt)) (H:y0a s1 most2=some r):FnG Tryz.prog 84 [.ptr 0 0,.dat (vint most2)] [(0,.box (some 0) 25 (List.map .dat (qr s1)))] (.row 1 r.1.length) [(0,.box (some 0) 25 (List.map .dat (qr r.2))),(1,.row 113 2 (List.map vg r.1))]:=by
 refine z66 (by kernel_rfl) Tryz.func84 Z Z Z Z fun X A hN => ?_
 unfold y0a at H
 refine zb hN Z (qe Z (zb hN Z (qe Z (ze (zb hN Z (za (zf (.ptr _ _) Z) (qd Z (bE H fun r3 h4 H=>zi (yk (y0q s1 0 most2 r3 h4) Z ⟨.inl Z,.inl Z,U⟩ Z) Z (qd Z (zx (uh 5 1 113 2 Z Z Z (gE H fun h10 H=>Zp (fun (k8:Nat) (s:(List Int)×Int×(List qo))=>[(0,.ptr 0 0),(5,.row 1 s.2.2.length),(8,.dat (vint r3.1)),(9,.dat (vint (k8:Int)))]) (fun (k8:Nat) (s:(List Int)×Int×(List qo))=>[(0,.box (some (A.bl 0)) 25 [.dat (vlst (List.map qz s.1)),.dat (vint s.2.1)]),(1,.row 113 2 (List.map vg s.2.2))]) (r3.2.L,r3.2.at_,[]) H ⟨Z,Z,Z,Z,U⟩ ⟨Z,Z,U⟩ (fun _ _=>Z) ?_ ?_))))))))))))
 ·rintro ⟨c5,c6,l7⟩ H
  replace H:y5m c5 c6 l7=some r:=H
  unfold y5m at H
  refine zb hN Z (za (zy Z Z) (ze (zg _ Z (fun h=>(z5t h).elim) (fun h => ?_))))
  refine qg (zb hN Z (za (zf (.row _ _) Z) (za (wm (.row _ _) Z) (zh ?_))))
  cases H
  exact ⟨U,[(4,.row 1 _)],⟨Z,U⟩,⟨Z,Z,U⟩,Z,.inr (.inl ⟨4,Z,Z⟩)⟩
 ·rintro k8 ⟨c5,c6,l7⟩ q9 h11 H hq9
  replace H:y5l k8 c5 c6 l7=some q9:=H
  unfold y5l at H
  refine zb hN Z (za (zy Z Z) (ze (zg _ Z (fun h => ?_) (fun h=>(z5u h11 h).elim))))
  refine zk (ze (zx (zq hN Z (za (zf (.row _ _) Z) (za (zf (.ptr _ _) Z) (za (ye (u':=vlst (List.map zo [[97,99,99,101,112,116],[65,99,99,101,112,116],[120,45,111,110,101],[88,45,84,119,111],[99,111,111,107,105,101],[118,97,114,121],[99,111,110,110,101,99,116,105,111,110],[120,45,102,111,114,119,97,114,100,101,100,45,102,111,114],[118,105,97],[120,45,102,111,114,119,97,114,100,101,100,45,104,111,115,116],[116,101]])) (qa [[_],[_],[_],[_],[_],[_],[_],[_],[_],[_],[_]] qn ⟨Z,.inl ⟨_,Z,Z,Z⟩,Z,Z,.inl ⟨_,Z,Z,Z⟩,Z,Z,.inl ⟨_,Z,Z,Z⟩,Z,Z,.inl ⟨_,Z,Z,Z⟩,Z,Z,.inl ⟨_,Z,Z,Z⟩,Z,Z,.inl ⟨_,Z,Z,Z⟩,Z,Z,.inl ⟨_,Z,Z,Z⟩,Z,Z,.inl ⟨_,Z,Z,Z⟩,Z,Z,.inl ⟨_,Z,Z,Z⟩,Z,Z,.inl ⟨_,Z,Z,Z⟩,Z,Z,.inl ⟨_,Z,Z,Z⟩,Z,U⟩ Z Z) Z) (bE H fun r12 h13 H=>zi (yk (ji (zt.mk c5 c6) ([[97,99,99,101,112,116],[65,99,99,101,112,116],[120,45,111,110,101],[88,45,84,119,111],[99,111,111,107,105,101],[118,97,114,121],[99,111,110,110,101,99,116,105,111,110],[120,45,102,111,114,119,97,114,100,101,100,45,102,111,114],[118,105,97],[120,45,102,111,114,119,97,114,100,101,100,45,104,111,115,116],[116,101]]) r12 h13) Z ⟨.inl Z,U⟩ Z) Z (za (zf (.ptr _ _) Z) (za (ye (u':=vlst (List.map zo [[49],[120],[97,44,32,98],[],[120,45,111,110,101,44,32,99,108,111,115,101],[103,119],[49,46,50,46,51,46,52],[53,46,54,46,55,46,56,44,32,57,46,57,46,57,46,57]])) (qa [[_],[_],[_],[_],[_],[_],[_],[_]] qn ⟨Z,.inl ⟨_,Z,Z,Z⟩,Z,Z,.inl ⟨_,Z,Z,Z⟩,Z,Z,.inl ⟨_,Z,Z,Z⟩,Z,Z,.inl ⟨_,Z,Z,Z⟩,Z,Z,.inl ⟨_,Z,Z,Z⟩,Z,Z,.inl ⟨_,Z,Z,Z⟩,Z,Z,.inl ⟨_,Z,Z,Z⟩,Z,Z,.inl ⟨_,Z,Z,Z⟩,Z,U⟩ Z Z) Z) (bE H fun r14 h15 H=>zi (yk (ji r12.2 ([[49],[120],[97,44,32,98],[],[120,45,111,110,101,44,32,99,108,111,115,101],[103,119],[49,46,50,46,51,46,52],[53,46,54,46,55,46,56,44,32,57,46,57,46,57,46,57]]) r14 h15) Z ⟨.inl Z,U⟩ Z) Z (za (ye (u':=vagg (vg (qo.mk r12.1 r14.1))) (qt [(0,[vstr r12.1]),(1,[vstr r14.1])] z3u x0j Z ⟨Z,.inl ⟨_,Z,Z,Z⟩,Z,Z,.inl ⟨_,Z,Z,Z⟩,Z,U⟩) Z) (za (ye (u':=vlst (List.map vg [(qo.mk r12.1 r14.1)])) (qa [_] y12 ⟨Z,.inr Z,Z,U⟩ Z Z) Z) (gE H fun h16 H=>zi (jt y12 (fun _=>Z) Z Z Z ⟨by simp,by first | (simp; done) | simpa using h16⟩ Z) Z ?_)))))))))))))
  exact za (wm (.row _ _) Z) (zq hN Z (za (qw Z Z (by omega)) (qd Z ⟨_,qk H,⟨Z,Z,Z,Z,U⟩,⟨Z,Z,U⟩⟩)))
theorem y4l (name1:Bs) (value2:Bs) (c3:wj) (r:(wj)) (H:z0e name1 value2 c3=some r):FnG Tryz.prog 85 [.dat (vstr name1),.dat (vstr value2),.ptr 0 0] [(0,.box (some 0) 61 [.dat (vint c3.At),.dat (vstr c3.Method),.dat (vstr c3.Host),.dat (vstr c3.Path),.dat (vstr c3.Query),.dat (vstr c3.From),.row 1 c3.Headers.length,.dat (vstr c3.Body)]),(1,.row 113 2 (List.map vg c3.Headers))] (.dat (zw [])) [(0,.box (some 0) 61 [.dat (vint r.At),.dat (vstr r.Method),.dat (vstr r.Host),.dat (vstr r.Path),.dat (vstr r.Query),.dat (vstr r.From),.row 900 r.Headers.length,.dat (vstr r.Body)]),(900,.row 113 2 (List.map vg r.Headers))]:=by
 refine z66 (by kernel_rfl) Tryz.func85 Z Z Z Z fun X A hN => ?_
 refine Qs ?_
 unfold z0e at H
 refine zq hN Z (za (zn Wb Z) (zu (zp Qx Z Z) Z (qd Z (qd Z (za (ye (u':=vagg (vg (qo.mk name1 value2))) (qt [(0,[vstr name1]),(1,[vstr value2])] z3u x0j Z ⟨Z,.inl ⟨_,Z,Z,Z⟩,Z,Z,.inl ⟨_,Z,Z,Z⟩,Z,U⟩) Z) (za (ye (u':=vlst (List.map vg [(qo.mk name1 value2)])) (qa [_] y12 ⟨Z,.inr Z,Z,U⟩ Z Z) Z) (gE H fun h4 H=>zi (jt y12 (fun _=>Z) Z Z Z ⟨by simp,by first | (simp; done) | simpa using h4⟩ Z) Z ?_)))))))
 refine za (zn Wb Z) (x1u (x04 Qx Z Z (by rw [List.length_map]) Z) Z Z ?_)
 cases H
 show Cv _ _ _ _
 exact z3n (rn [(1,900)]) [] [(0,.box (some (A.bl 0)) 61 [.dat (vint c3.At),.dat (vstr c3.Method),.dat (vstr c3.Host),.dat (vstr c3.Path),.dat (vstr c3.Query),.dat (vstr c3.From),.row 1 ((c3.Headers++[(qo.mk name1 value2)]).length),.dat (vstr c3.Body)]),(1,.row 113 2 (List.map vg (c3.Headers++[(qo.mk name1 value2)])))] U ⟨Z,Z,U⟩ Z Z ⟨U,[],U,⟨Z,Z,U⟩,Z,.inl ⟨[],U,Z⟩⟩
theorem w5n (s1:zt) (v2:wo) (r:(wj×zt)) (H:y0c s1 v2=some r):Imp Tryz.prog 31 25 (qr s1) [vagg (xi v2)] (zw [vagg (z3p r.1)]) (qr r.2):=by
 refine jo (us:=[vagg (z3p r.1)]) (cs':=(qr r.2)) (by kernel_rfl) Tryz.func31 Z Z Z Z fun X bl hN => ?_
 unfold y0c at H
 refine zb hN Z (zi (jf 1 Z) Z (zi (we 2 y1u Z) Z (zb hN Z (za (zf (.ptr _ _) Z) (za (ye (u':=vlst (List.map qz [10,50,60,99,100,120,200])) (qa [[_],[_],[_],[_],[_],[_],[_]] uj ⟨Z,.inl ⟨_,Z,Z,Z⟩,Z,Z,.inl ⟨_,Z,Z,Z⟩,Z,Z,.inl ⟨_,Z,Z,Z⟩,Z,Z,.inl ⟨_,Z,Z,Z⟩,Z,Z,.inl ⟨_,Z,Z,Z⟩,Z,Z,.inl ⟨_,Z,Z,Z⟩,Z,Z,.inl ⟨_,Z,Z,Z⟩,Z,U⟩ Z Z) Z) (bE H fun r3 h4 H=>zi (yk (uu s1 [10,50,60,99,100,120,200] r3 h4) Z ⟨.inl Z,U⟩ Z) Z (za (zf (.ptr _ _) Z) (bE H fun r5 h6 H=>Zf (rn [(0,0),(1,3)]) [(0,_,_,some _)] [(1,_)] (w2y r3.2 1 r5 h6) ⟨Z,Z,U⟩ ⟨.inl (.inl Z),.inl (.inl Z),U⟩ ⟨⟨⟨Z,Z⟩,U⟩,U⟩ Z (zu (x8y (s' := .comp false [.dat (vint r3.1),.dat (vstr [71,69,84]),.dat (vstr [97,46,98]),.dat (vstr [47]),.dat (vstr []),.dat (vstr []),.row 3 r5.1.length,.dat (vstr [])]) (x9v [(3,some (some (.row 113 2 (List.map vg r5.1))))] [(0,[.dat (vint r3.1)]),(1,[.dat (vstr [71,69,84])]),(2,[.dat (vstr [97,46,98])]),(3,[.dat (vstr [47])]),(6,[.row 3 _])] y1u x7v Z ⟨Z,.inl ⟨_,.inl ⟨_,Z,Z,Z⟩,Z⟩,Z,Z,.inl ⟨_,.inl ⟨_,Z,Z,Z⟩,Z⟩,Z,Z,.inl ⟨_,.inl ⟨_,Z,Z,Z⟩,Z⟩,Z,Z,.inl ⟨_,.inl ⟨_,Z,Z,Z⟩,Z⟩,Z,Z,.inr (.inl ⟨_,_,_,_,_,Z,.head _,(by rw [List.length_map]),Z⟩),Z,U⟩) Z) Z ?_)))))))))
 refine zi (we 4 y1u Z) Z (zi (x8x Yo Z Z Z Z) Z (zb hN Z (zu (x9n (s := .dr 4 (fun qb=>vfn 85 [vval (.pointer (some ⟨qb,0,none⟩))])) 4 (fun qb=>Zd (us:=[_]) ⟨Z,U⟩) Z Z) Z (za (wm (.dr _ _) Z) (yf (ι:=(List Int)×Int×(List qo)×Int×Bs×Bs×Bs×Bs×Bs×Bs) (fun i=>[(0,.ptr 0 0),(4,.ptr 2 0),(5,.ptr 4 0),(6,.dr 4 (fun qb=>vfn 85 [vval (.pointer (some ⟨qb,0,none⟩))]))]) (fun i=>[(0,.box (some bl) 25 [.dat (vlst (List.map qz i.1)),.dat (vint i.2.1)]),(2,.box none 61 [.dat (vint 0),.dat (vstr []),.dat (vstr []),.dat (vstr []),.dat (vstr []),.dat (vstr []),.dat (vnil),.dat (vstr [])]),(4,.box none 61 [.dat (vint i.2.2.2.1),.dat (vstr i.2.2.2.2.1),.dat (vstr i.2.2.2.2.2.1),.dat (vstr i.2.2.2.2.2.2.1),.dat (vstr i.2.2.2.2.2.2.2.1),.dat (vstr i.2.2.2.2.2.2.2.2.1),.row 8 i.2.2.1.length,.dat (vstr i.2.2.2.2.2.2.2.2.2)]),(8,.row 113 2 (List.map vg i.2.2.1))]) (fun i=>Qr i.1 i.2.1 i.2.2.1 i.2.2.2.1 i.2.2.2.2.1 i.2.2.2.2.2.1 i.2.2.2.2.2.2.1 i.2.2.2.2.2.2.2.1 i.2.2.2.2.2.2.2.2.1 i.2.2.2.2.2.2.2.2.2=some r) (fun i=>Z) ?_ ?_)))))
 ·refine Qs (zb hN Z (za (zf (.ptr _ _) Z) (bE H fun r7 h8 H=>zi (yk (Zk r5.2 8 r7 h8) Z ⟨.inl Z,U⟩ Z) Z (zx (yf (ι:=Bool) (fun i=>[(0,.ptr 0 0),(3,.ptr 1 0),(4,.ptr 2 0),(5,.ptr 4 0),(6,.dr 4 (fun qb=>vfn 85 [vval (.pointer (some ⟨qb,0,none⟩))])),(16,.dat (vint r7.1)),(17,.dat (zj i))]) (fun i=>[(0,.box (some bl) 25 [.dat (vlst (List.map qz r7.2.L)),.dat (vint r7.2.at_)]),(1,.box none 30 [.dat (vstr v2.Issuer),.dat (vstr v2.Audience),.dat (vlst (List.map wg v2.Signers)),.dat (vlst (List.map jb v2.Revoked)),.dat (vlst (List.map vx v2.Holders)),.dat (vint v2.Skew)]),(2,.box none 61 [.dat (vint 0),.dat (vstr []),.dat (vstr []),.dat (vstr []),.dat (vstr []),.dat (vstr []),.dat (vnil),.dat (vstr [])]),(3,.row 113 2 (List.map vg r5.1)),(4,.box none 61 [.dat (vint r3.1),.dat (vstr [71,69,84]),.dat (vstr [97,46,98]),.dat (vstr [47]),.dat (vstr []),.dat (vstr []),.row 3 r5.1.length,.dat (vstr [])])]) (fun i=>Qq v2 r3 r5 r7 i=some r) (fun i=>Z) ?_ ?_)))))
  ·refine Qs (zb hN Z (za (ql Z Z) (qe Z (zg _ Z (fun h9 => ?_) (fun h9 => ?_)))))
   ·refine tE h9 H fun H=>zk ?_
    show Cv _ _ _ _
    exact ux ⟨decide (r7.1=0),H,⟨Z,Z,Z,Z,Z,Z,Z,U⟩,⟨Z,Z,Z,Z,Z,U⟩⟩
   ·refine fE h9 H fun H=>zb hN Z (za (ql Z Z) (qe Z (zg _ Z (fun h10 => ?_) (fun h10 => ?_))))
    ·refine tE h10 H fun H=>zk ?_
     show Cv _ _ _ _
     exact ux ⟨decide (r7.1=1),H,⟨Z,Z,Z,Z,Z,Z,Z,U⟩,⟨Z,Z,Z,Z,Z,U⟩⟩
    ·refine fE h10 H fun H=>zb hN Z (za (ql Z Z) (qe Z (zg _ Z (fun h11 => ?_) (fun h11 => ?_))))
     ·refine tE h11 H fun H=>zk ?_
      show Cv _ _ _ _
      exact ux ⟨decide (r7.1=2),H,⟨Z,Z,Z,Z,Z,Z,Z,U⟩,⟨Z,Z,Z,Z,Z,U⟩⟩
     ·refine fE h11 H fun H=>zq hN Z (za (ql Z Z) (qe Z (Yz ?_)))
      show Cv _ _ _ _
      exact ux ⟨decide (r7.1=3),H,⟨Z,Z,Z,Z,Z,Z,Z,U⟩,⟨Z,Z,Z,Z,Z,U⟩⟩
  ·rintro v12 H
   replace H:Qq v2 r3 r5 r7 v12=some r:=H
   unfold Qq at H
   refine zg _ Z (fun h13 => ?_) (fun h13 => ?_)
   ·refine tE h13 H fun H=>zb hN Z (qe Z (yf (ι:=Bs×(List Int)×Int) (fun i=>[(0,.ptr 0 0),(4,.ptr 2 0),(5,.ptr 4 0),(6,.dr 4 (fun qb=>vfn 85 [vval (.pointer (some ⟨qb,0,none⟩))])),(7,.dat (vstr i.1))]) (fun i=>[(0,.box (some bl) 25 [.dat (vlst (List.map qz i.2.1)),.dat (vint i.2.2)]),(2,.box none 61 [.dat (vint 0),.dat (vstr []),.dat (vstr []),.dat (vstr []),.dat (vstr []),.dat (vstr []),.dat (vnil),.dat (vstr [])]),(3,.row 113 2 (List.map vg r5.1)),(4,.box none 61 [.dat (vint r3.1),.dat (vstr [71,69,84]),.dat (vstr [97,46,98]),.dat (vstr [47]),.dat (vstr []),.dat (vstr []),.row 3 r5.1.length,.dat (vstr [])])]) (fun i=>z3h r3 r5 i.1 i.2.1 i.2.2=some r) (fun i=>Z) ?_ ?_))
    ·refine Qs (zb hN Z (za (zn z32 Z) (zu (zp Qy Z Z) Z (bE H fun r14 h15 H=>za (zl (x4v v2.Signers r14 h15) ⟨.inl Z,U⟩) (za (ql Z Z) (zg _ Z (fun h16 => ?_) (fun h16 => ?_)))))))
     ·refine tE h16 H fun H=>wx mixed hN Z Z (za (zf (.ptr _ _) Z) (za (zn z32 Z) (zu (zp Qy Z Z) Z (za (zf (.ptr _ _) Z) (bE H fun r17 h18 H=>zi (yk (x40 r7.2 r17 h18) Z U Z) Z (za (zf (.ptr _ _) Z) (za (ye (u':=vlst (List.map qz [10,60,100])) (qa [[_],[_],[_]] uj ⟨Z,.inl ⟨_,Z,Z,Z⟩,Z,Z,.inl ⟨_,Z,Z,Z⟩,Z,Z,.inl ⟨_,Z,Z,Z⟩,Z,U⟩ Z Z) Z) (bE H fun r19 h20 H=>zi (yk (uu r17.2 [10,60,100] r19 h20) Z ⟨.inl Z,U⟩ Z) Z (bE H fun r21 h22 H=>zi (yk (w5h r19.2 v2.Signers r17.1 r19.1 r21 h22) Z ⟨.inl Z,.inl Z,.inl Z,U⟩ Z) Z (qe Z ⟨Z,?_⟩))))))))))
      show Cv _ _ _ _
      exact ux ⟨(r21.1,r21.2.L,r21.2.at_),H,⟨Z,Z,Z,Z,Z,U⟩,⟨Z,Z,Z,Z,U⟩⟩
     ·refine fE h16 H fun H=>zk ?_
      show Cv _ _ _ _
      exact ux ⟨([120],r7.2.L,r7.2.at_),H,⟨Z,Z,Z,Z,Z,U⟩,⟨Z,Z,Z,Z,U⟩⟩
    ·rintro ⟨v23,c24,c25⟩ H
     replace H:z3h r3 r5 v23 c24 c25=some r:=H
     unfold z3h at H
     refine zq hN Z (za (zf (.dr _ _) Z) (za (zf (.ptr _ _) Z) (za (ye (u':=vlst (List.map zo [[97,117,116,104,111,114,105,122,97,116,105,111,110],[65,117,116,104,111,114,105,122,97,116,105,111,110]])) (qa [[_],[_]] qn ⟨Z,.inl ⟨_,Z,Z,Z⟩,Z,Z,.inl ⟨_,Z,Z,Z⟩,Z,U⟩ Z Z) Z) (bE H fun r26 h27 H=>zi (yk (ji (zt.mk c24 c25) ([[97,117,116,104,111,114,105,122,97,116,105,111,110],[65,117,116,104,111,114,105,122,97,116,105,111,110]]) r26 h27) Z ⟨.inl Z,U⟩ Z) Z (qd Z (gE H fun h28 H=>za (wt Z Z (Nat.le_trans h28 (by decide))) (bE H fun r29 h30 H=>y3d (args:=[.dat (vstr r26.1),.dat (vstr ([66,101,97,114,101,114,32]++v23))]) (i0:=0) (rn [(0,4),(1,3),(900,5)]) [(0,_,_,some _),(1,_,_,none)] [(900,_)] (y4l r26.1 ([66,101,97,114,101,114,32]++v23) (wj.mk r3.1 [71,69,84] [97,46,98] [47] [] [] r5.1 []) r29 h30) ⟨Z,Z,Z,U⟩ Z Z ⟨.inl (.inl Z),.inl (.inl Z),U⟩ ⟨⟨⟨Z,Z⟩,U⟩,⟨⟨Z,Z,Z⟩,U⟩,U⟩ Z (Yz ?_))))))))
     show Cv _ _ _ _
     exact z3n (rn [(5,8)]) [(0,.ptr 0 0),(4,.ptr 2 0),(5,.ptr 4 0),(6,.dr 4 (fun qb=>vfn 85 [vval (.pointer (some ⟨qb,0,none⟩))]))] [(0,.box (some bl) 25 [.dat (vlst (List.map qz r26.2.L)),.dat (vint r26.2.at_)]),(2,.box none 61 [.dat (vint 0),.dat (vstr []),.dat (vstr []),.dat (vstr []),.dat (vstr []),.dat (vstr []),.dat (vnil),.dat (vstr [])]),(4,.box none 61 [.dat (vint r29.At),.dat (vstr r29.Method),.dat (vstr r29.Host),.dat (vstr r29.Path),.dat (vstr r29.Query),.dat (vstr r29.From),.row 5 r29.Headers.length,.dat (vstr r29.Body)]),(5,.row 113 2 (List.map vg r29.Headers))] ⟨Z,Z,Z,Z,U⟩ ⟨Z,Z,Z,Z,U⟩ Z Z ⟨(r26.2.L,r26.2.at_,r29.Headers,r29.At,r29.Method,r29.Host,r29.Path,r29.Query,r29.From,r29.Body),H,⟨Z,Z,Z,Z,U⟩,⟨Z,Z,Z,Z,U⟩⟩
   ·refine fE h13 H fun H=>yf (ι:=Bool) (fun i=>[(0,.ptr 0 0),(4,.ptr 2 0),(5,.ptr 4 0),(6,.dr 4 (fun qb=>vfn 85 [vval (.pointer (some ⟨qb,0,none⟩))])),(16,.dat (vint r7.1)),(42,.dat (zj i))]) (fun i=>[(0,.box (some bl) 25 [.dat (vlst (List.map qz r7.2.L)),.dat (vint r7.2.at_)]),(2,.box none 61 [.dat (vint 0),.dat (vstr []),.dat (vstr []),.dat (vstr []),.dat (vstr []),.dat (vstr []),.dat (vnil),.dat (vstr [])]),(3,.row 113 2 (List.map vg r5.1)),(4,.box none 61 [.dat (vint r3.1),.dat (vstr [71,69,84]),.dat (vstr [97,46,98]),.dat (vstr [47]),.dat (vstr []),.dat (vstr []),.row 3 r5.1.length,.dat (vstr [])])]) (fun i=>z3g r3 r5 r7 i=some r) (fun i=>Z) ?_ ?_
    ·refine Qs (zb hN Z (za (ql Z Z) (qe Z (zg _ Z (fun h31 => ?_) (fun h31 => ?_)))))
     ·refine tE h31 H fun H=>zk ?_
      show Cv _ _ _ _
      exact ux ⟨decide (r7.1=4),H,⟨Z,Z,Z,Z,Z,Z,U⟩,⟨Z,Z,Z,Z,U⟩⟩
     ·refine fE h31 H fun H=>zq hN Z (za (ql Z Z) (qe Z (Yz ?_)))
      show Cv _ _ _ _
      exact ux ⟨decide (r7.1=5),H,⟨Z,Z,Z,Z,Z,Z,U⟩,⟨Z,Z,Z,Z,U⟩⟩
    ·rintro v32 H
     replace H:z3g r3 r5 r7 v32=some r:=H
     unfold z3g at H
     refine zg _ Z (fun h33 => ?_) (fun h33 => ?_)
     ·refine tE h33 H fun H=>zq hN Z (za (zf (.dr _ _) Z) (za (zf (.ptr _ _) Z) (za (ye (u':=vlst (List.map zo [[107,101,121,45,49],[107,101,121,45,49],[107,101,121,45,50],[107,101,121,45,51],[]])) (qa [[_],[_],[_],[_],[_]] qn ⟨Z,.inl ⟨_,Z,Z,Z⟩,Z,Z,.inl ⟨_,Z,Z,Z⟩,Z,Z,.inl ⟨_,Z,Z,Z⟩,Z,Z,.inl ⟨_,Z,Z,Z⟩,Z,Z,.inl ⟨_,Z,Z,Z⟩,Z,U⟩ Z Z) Z) (bE H fun r34 h35 H=>zi (yk (ji r7.2 ([[107,101,121,45,49],[107,101,121,45,49],[107,101,121,45,50],[107,101,121,45,51],[]]) r34 h35) Z ⟨.inl Z,U⟩ Z) Z (bE H fun r36 h37 H=>y3d (args:=[.dat (vstr [120,45,97,112,105,45,107,101,121]),.dat (vstr r34.1)]) (i0:=0) (rn [(0,4),(1,3),(900,6)]) [(0,_,_,some _),(1,_,_,none)] [(900,_)] (y4l [120,45,97,112,105,45,107,101,121] r34.1 (wj.mk r3.1 [71,69,84] [97,46,98] [47] [] [] r5.1 []) r36 h37) ⟨Z,Z,Z,U⟩ Z Z ⟨.inl (.inl Z),.inl (.inl Z),U⟩ ⟨⟨⟨Z,Z⟩,U⟩,⟨⟨Z,Z,Z⟩,U⟩,U⟩ Z (Yz ?_))))))
      show Cv _ _ _ _
      exact z3n (rn [(6,8)]) [(0,.ptr 0 0),(4,.ptr 2 0),(5,.ptr 4 0),(6,.dr 4 (fun qb=>vfn 85 [vval (.pointer (some ⟨qb,0,none⟩))]))] [(0,.box (some bl) 25 [.dat (vlst (List.map qz r34.2.L)),.dat (vint r34.2.at_)]),(2,.box none 61 [.dat (vint 0),.dat (vstr []),.dat (vstr []),.dat (vstr []),.dat (vstr []),.dat (vstr []),.dat (vnil),.dat (vstr [])]),(4,.box none 61 [.dat (vint r36.At),.dat (vstr r36.Method),.dat (vstr r36.Host),.dat (vstr r36.Path),.dat (vstr r36.Query),.dat (vstr r36.From),.row 6 r36.Headers.length,.dat (vstr r36.Body)]),(6,.row 113 2 (List.map vg r36.Headers))] ⟨Z,Z,Z,Z,U⟩ ⟨Z,Z,Z,Z,U⟩ Z Z ⟨(r34.2.L,r34.2.at_,r36.Headers,r36.At,r36.Method,r36.Host,r36.Path,r36.Query,r36.From,r36.Body),H,⟨Z,Z,Z,Z,U⟩,⟨Z,Z,Z,Z,U⟩⟩
     ·refine fE h33 H fun H=>zb hN Z (za (ql Z Z) (qe Z (zg _ Z (fun h38 => ?_) (fun h38 => ?_))))
      ·refine tE h38 H fun H=>zq hN Z (za (zf (.dr _ _) Z) (za (zf (.ptr _ _) Z) (za (ye (u':=vlst (List.map zo [[66,97,115,105,99,32,120],[66,101,97,114,101,114],[98,101,97,114,101,114,32,120],[]])) (qa [[_],[_],[_],[_]] qn ⟨Z,.inl ⟨_,Z,Z,Z⟩,Z,Z,.inl ⟨_,Z,Z,Z⟩,Z,Z,.inl ⟨_,Z,Z,Z⟩,Z,Z,.inl ⟨_,Z,Z,Z⟩,Z,U⟩ Z Z) Z) (bE H fun r39 h40 H=>zi (yk (ji r7.2 ([[66,97,115,105,99,32,120],[66,101,97,114,101,114],[98,101,97,114,101,114,32,120],[]]) r39 h40) Z ⟨.inl Z,U⟩ Z) Z (bE H fun r41 h42 H=>y3d (args:=[.dat (vstr [97,117,116,104,111,114,105,122,97,116,105,111,110]),.dat (vstr r39.1)]) (i0:=0) (rn [(0,4),(1,3),(900,7)]) [(0,_,_,some _),(1,_,_,none)] [(900,_)] (y4l [97,117,116,104,111,114,105,122,97,116,105,111,110] r39.1 (wj.mk r3.1 [71,69,84] [97,46,98] [47] [] [] r5.1 []) r41 h42) ⟨Z,Z,Z,U⟩ Z Z ⟨.inl (.inl Z),.inl (.inl Z),U⟩ ⟨⟨⟨Z,Z⟩,U⟩,⟨⟨Z,Z,Z⟩,U⟩,U⟩ Z (Yz ?_))))))
       show Cv _ _ _ _
       exact z3n (rn [(7,8)]) [(0,.ptr 0 0),(4,.ptr 2 0),(5,.ptr 4 0),(6,.dr 4 (fun qb=>vfn 85 [vval (.pointer (some ⟨qb,0,none⟩))]))] [(0,.box (some bl) 25 [.dat (vlst (List.map qz r39.2.L)),.dat (vint r39.2.at_)]),(2,.box none 61 [.dat (vint 0),.dat (vstr []),.dat (vstr []),.dat (vstr []),.dat (vstr []),.dat (vstr []),.dat (vnil),.dat (vstr [])]),(4,.box none 61 [.dat (vint r41.At),.dat (vstr r41.Method),.dat (vstr r41.Host),.dat (vstr r41.Path),.dat (vstr r41.Query),.dat (vstr r41.From),.row 7 r41.Headers.length,.dat (vstr r41.Body)]),(7,.row 113 2 (List.map vg r41.Headers))] ⟨Z,Z,Z,Z,U⟩ ⟨Z,Z,Z,Z,U⟩ Z Z ⟨(r39.2.L,r39.2.at_,r41.Headers,r41.At,r41.Method,r41.Host,r41.Path,r41.Query,r41.From,r41.Body),H,⟨Z,Z,Z,Z,U⟩,⟨Z,Z,Z,Z,U⟩⟩
      ·refine fE h38 H fun H=>zk ?_
       show Cv _ _ _ _
       exact z3n (rn [(3,8)]) [(0,.ptr 0 0),(4,.ptr 2 0),(5,.ptr 4 0),(6,.dr 4 (fun qb=>vfn 85 [vval (.pointer (some ⟨qb,0,none⟩))]))] [(0,.box (some bl) 25 [.dat (vlst (List.map qz r7.2.L)),.dat (vint r7.2.at_)]),(2,.box none 61 [.dat (vint 0),.dat (vstr []),.dat (vstr []),.dat (vstr []),.dat (vstr []),.dat (vstr []),.dat (vnil),.dat (vstr [])]),(4,.box none 61 [.dat (vint r3.1),.dat (vstr [71,69,84]),.dat (vstr [97,46,98]),.dat (vstr [47]),.dat (vstr []),.dat (vstr []),.row 3 r5.1.length,.dat (vstr [])]),(3,.row 113 2 (List.map vg r5.1))] ⟨Z,Z,Z,Z,U⟩ ⟨Z,Z,Z,Z,U⟩ Z Z ⟨(r7.2.L,r7.2.at_,r5.1,r3.1,[71,69,84],[97,46,98],[47],[],[],[]),H,⟨Z,Z,Z,Z,U⟩,⟨Z,Z,Z,Z,U⟩⟩
 ·rintro ⟨c43,c44,l45,c46,c47,c48,c49,c50,c51,c52⟩ H
  replace H:Qr c43 c44 l45 c46 c47 c48 c49 c50 c51 c52=some r:=H
  unfold Qr at H
  refine yf (ι:=(List Int)×Int×(List qo)×Int×Bs×Bs×Bs×Bs×Bs×Bs) (fun i=>[(0,.ptr 0 0),(4,.ptr 2 0),(5,.ptr 4 0)]) (fun i=>[(0,.box (some bl) 25 [.dat (vlst (List.map qz i.1)),.dat (vint i.2.1)]),(2,.box none 61 [.dat (vint 0),.dat (vstr []),.dat (vstr []),.dat (vstr []),.dat (vstr []),.dat (vstr []),.dat (vnil),.dat (vstr [])]),(4,.box none 61 [.dat (vint i.2.2.2.1),.dat (vstr i.2.2.2.2.1),.dat (vstr i.2.2.2.2.2.1),.dat (vstr i.2.2.2.2.2.2.1),.dat (vstr i.2.2.2.2.2.2.2.1),.dat (vstr i.2.2.2.2.2.2.2.2.1),.row 10 i.2.2.1.length,.dat (vstr i.2.2.2.2.2.2.2.2.2)]),(10,.row 113 2 (List.map vg i.2.2.1))]) (fun i=>z3f i.1 i.2.1 i.2.2.1 i.2.2.2.1 i.2.2.2.2.1 i.2.2.2.2.2.1 i.2.2.2.2.2.2.1 i.2.2.2.2.2.2.2.1 i.2.2.2.2.2.2.2.2.1 i.2.2.2.2.2.2.2.2.2=some r) (fun i=>Z) ?_ ?_
  ·refine Qs (zb hN Z (za (zf (.ptr _ _) Z) (bE H fun r53 h54 H=>zi (yk (kz (zt.mk c43 c44) 12 r53 h54) Z ⟨.inl Z,U⟩ Z) Z (zg _ Z (fun h55 => ?_) (fun h55 => ?_)))))
   ·refine tE h55 H fun H=>zq hN Z (za (zf (.dr _ _) Z) (za (zf (.ptr _ _) Z) (za (ye (u':=vlst (List.map zo [[97,117,116,104,111,114,105,122,97,116,105,111,110],[120,45,97,112,105,45,107,101,121],[88,45,65,112,105,45,75,101,121]])) (qa [[_],[_],[_]] qn ⟨Z,.inl ⟨_,Z,Z,Z⟩,Z,Z,.inl ⟨_,Z,Z,Z⟩,Z,Z,.inl ⟨_,Z,Z,Z⟩,Z,U⟩ Z Z) Z) (bE H fun r56 h57 H=>zi (yk (ji r53.2 ([[97,117,116,104,111,114,105,122,97,116,105,111,110],[120,45,97,112,105,45,107,101,121],[88,45,65,112,105,45,75,101,121]]) r56 h57) Z ⟨.inl Z,U⟩ Z) Z (za (zf (.ptr _ _) Z) (za (ye (u':=vlst (List.map zo [[66,101,97,114,101,114,32,120],[107,101,121,45,49]])) (qa [[_],[_]] qn ⟨Z,.inl ⟨_,Z,Z,Z⟩,Z,Z,.inl ⟨_,Z,Z,Z⟩,Z,U⟩ Z Z) Z) (bE H fun r58 h59 H=>zi (yk (ji r56.2 ([[66,101,97,114,101,114,32,120],[107,101,121,45,49]]) r58 h59) Z ⟨.inl Z,U⟩ Z) Z (bE H fun r60 h61 H=>y3d (args:=[.dat (vstr r56.1),.dat (vstr r58.1)]) (i0:=0) (rn [(0,4),(1,8),(900,9)]) [(0,_,_,some _),(1,_,_,none)] [(900,_)] (y4l r56.1 r58.1 (wj.mk c46 c47 c48 c49 c50 c51 l45 c52) r60 h61) ⟨Z,Z,Z,U⟩ Z Z ⟨.inl (.inl Z),.inl (.inl Z),U⟩ ⟨⟨⟨Z,Z⟩,U⟩,⟨⟨Z,Z,Z⟩,U⟩,U⟩ Z (Yz ?_)))))))))
    show Cv _ _ _ _
    exact z3n (rn [(9,10)]) [(0,.ptr 0 0),(4,.ptr 2 0),(5,.ptr 4 0)] [(0,.box (some bl) 25 [.dat (vlst (List.map qz r58.2.L)),.dat (vint r58.2.at_)]),(2,.box none 61 [.dat (vint 0),.dat (vstr []),.dat (vstr []),.dat (vstr []),.dat (vstr []),.dat (vstr []),.dat (vnil),.dat (vstr [])]),(4,.box none 61 [.dat (vint r60.At),.dat (vstr r60.Method),.dat (vstr r60.Host),.dat (vstr r60.Path),.dat (vstr r60.Query),.dat (vstr r60.From),.row 9 r60.Headers.length,.dat (vstr r60.Body)]),(9,.row 113 2 (List.map vg r60.Headers))] ⟨Z,Z,Z,U⟩ ⟨Z,Z,Z,Z,U⟩ Z Z ⟨(r58.2.L,r58.2.at_,r60.Headers,r60.At,r60.Method,r60.Host,r60.Path,r60.Query,r60.From,r60.Body),H,⟨Z,Z,Z,U⟩,⟨Z,Z,Z,Z,U⟩⟩
   ·refine fE h55 H fun H=>zk ?_
    show Cv _ _ _ _
    exact z3n (rn [(8,10)]) [(0,.ptr 0 0),(4,.ptr 2 0),(5,.ptr 4 0)] [(0,.box (some bl) 25 [.dat (vlst (List.map qz r53.2.L)),.dat (vint r53.2.at_)]),(2,.box none 61 [.dat (vint 0),.dat (vstr []),.dat (vstr []),.dat (vstr []),.dat (vstr []),.dat (vstr []),.dat (vnil),.dat (vstr [])]),(4,.box none 61 [.dat (vint c46),.dat (vstr c47),.dat (vstr c48),.dat (vstr c49),.dat (vstr c50),.dat (vstr c51),.row 8 l45.length,.dat (vstr c52)]),(8,.row 113 2 (List.map vg l45))] ⟨Z,Z,Z,U⟩ ⟨Z,Z,Z,Z,U⟩ Z Z ⟨(r53.2.L,r53.2.at_,l45,c46,c47,c48,c49,c50,c51,c52),H,⟨Z,Z,Z,U⟩,⟨Z,Z,Z,Z,U⟩⟩
  ·rintro ⟨c62,c63,l64,c65,c66,c67,c68,c69,c70,c71⟩ H
   replace H:z3f c62 c63 l64 c65 c66 c67 c68 c69 c70 c71=some r:=H
   unfold z3f at H
   refine yf (ι:=(List Int)×Int×Bs) (fun i=>[(4,.ptr 2 0),(5,.ptr 4 0)]) (fun i=>[(0,.box (some bl) 25 [.dat (vlst (List.map qz i.1)),.dat (vint i.2.1)]),(2,.box none 61 [.dat (vint 0),.dat (vstr []),.dat (vstr []),.dat (vstr []),.dat (vstr []),.dat (vstr []),.dat (vnil),.dat (vstr [])]),(4,.box none 61 [.dat (vint c65),.dat (vstr c66),.dat (vstr c67),.dat (vstr i.2.2),.dat (vstr c69),.dat (vstr c70),.row 10 l64.length,.dat (vstr c71)]),(10,.row 113 2 (List.map vg l64))]) (fun i=>z60 l64 c65 c66 c67 c69 c70 c71 i.1 i.2.1 i.2.2=some r) (fun i=>Z) ?_ ?_
   ·refine Qs (zb hN Z (za (zf (.ptr _ _) Z) (bE H fun r72 h73 H=>zi (yk (kz (zt.mk c62 c63) 20 r72 h73) Z ⟨.inl Z,U⟩ Z) Z (zg _ Z (fun h74 => ?_) (fun h74 => ?_)))))
    ·refine tE h74 H fun H=>zq hN Z (za (zn y6j Z) (zi (wn tyS9 Z Z Z Z) Z (Yz ?_)))
     show Cv _ _ _ _
     exact ux ⟨(r72.2.L,r72.2.at_,[]),H,⟨Z,Z,U⟩,⟨Z,Z,Z,Z,U⟩⟩
    ·refine fE h74 H fun H=>zk ?_
     show Cv _ _ _ _
     exact ux ⟨(r72.2.L,r72.2.at_,c68),H,⟨Z,Z,U⟩,⟨Z,Z,Z,Z,U⟩⟩
   ·rintro ⟨c75,c76,c77⟩ H
    replace H:z60 l64 c65 c66 c67 c69 c70 c71 c75 c76 c77=some r:=H
    unfold z60 at H
    refine ze (x6x 4 6 10 Z Z Z (by rw [List.length_map]) ?_)
    refine zq hN Z (zu (vo Yo Z Z Z) Z (zi (yp Yo Z Z Z Z) Z (zh ?_)))
    cases H
    exact ⟨U,⟨.inl ⟨_,_,_,z3p (wj.mk c65 c66 c67 c77 c69 c70 l64 c71),Z,Z,Z,Z,Yo⟩,U⟩,Z⟩
theorem xu (s1:Bs) (r:(Bool)) (H:km s1=some r):Fn Tryz.prog 48 [vstr s1] (zw [zj r]):=by
 refine ⟨by kernel_rfl,yd (us:=[zj r]) Tryz.func48 Z Z Z Z fun X hN => ?_⟩
 unfold km at H
 refine zb hN Z (qe Z (ze (zb hN Z (qe Z (zx (gE H fun h4 H=>wi (fun (i2:Nat) (s:Unit)=>[(0,.dat (vstr s1)),(3,.dat (vint (i2:Int)))]) (fun (i2:Nat) (s:Unit)=>[]) () H ⟨Z,Z,U⟩ U (fun _ _=>Z) ?_ ?_))))))
 ·rintro ⟨⟩ H
  replace H:y8e s1=some r:=H
  unfold y8e at H
  refine ze (zb hN Z (qd Z (qd Z (za (qp tyU9 Z) (za (zy Z Z) (zg _ Z (fun h=>(lt_t h).elim) (fun h => ?_)))))))
  refine qg (zb hN Z (qd Z (za (jj Z Z) (qd Z (qj Z Z (fun hc=>zf (.dat _) Z) (qj Z Z (fun hc=>qp tyU9 (cnd (c:=(decide (s1≠[]))) hc)) (qj Z Z (fun hc=>vq (cnd (c:=(decide (s1≠[]))) hc) Z) (za (vi Z (fun hb=>(cnd (c:=(decide (s1≠[]))) hb)) Z) (qe Z (zh ?_))))))))))
  cases H
  exact ⟨U,.inl Z,U⟩
 ·rintro i2 x5 ⟨⟩ q3 h6 h7 H hq3
  replace H:y4n i2 x5=some q3:=H
  unfold y4n at H
  refine ze (zb hN Z (qd Z (qd Z (za (qp tyU9 Z) (za (zy Z Z) (zg _ Z (fun h => ?_) (fun h=>(lt_f h6 h).elim)))))))
  refine zk (ze (zx (zb hN Z (qd Z (qd Z (za (wq tyU9 Z Z h7) (qe Z (zb hN Z (qd Z (za (vy Z Z) (qd Z (qj Z Z (fun hc=>zf (.dat _) Z) (qj Z Z (fun hc=>vq (cnd (c:=(decide (97≤(x5.toNat:Int)))) hc) Z) (za (vi Z (fun hb=>(cnd (c:=(decide (97≤(x5.toNat:Int)))) hb)) Z) (qd Z (yi Z Z (fun hc=>zf (.dat _) Z) (yi Z Z (fun hc=>qh (cnd (c:=(!((decide (97≤(x5.toNat:Int))) && (decide ((x5.toNat:Int)≤122))))) hc) Z) (yi Z Z (fun hc=>zf (.dat _) (cnd (c:=(!((decide (97≤(x5.toNat:Int))) && (decide ((x5.toNat:Int)≤122))))) hc)) (vk Z Z (fun hc=>zf (.dat _) Z) (vk Z Z (fun hc=>vy (cnd (c:=((!((decide (97≤(x5.toNat:Int))) && (decide ((x5.toNat:Int)≤122)))) && (decide (0 < (i2:Int))))) hc) Z) (vk Z Z (fun hc=>zf (.dat _) (cnd (c:=((!((decide (97≤(x5.toNat:Int))) && (decide ((x5.toNat:Int)≤122)))) && (decide (0 < (i2:Int))))) hc)) (vk Z Z (fun hc=>zf (.dat _) Z) (vk Z Z (fun hc=>vq (cnd (c:=(((!((decide (97≤(x5.toNat:Int))) && (decide ((x5.toNat:Int)≤122)))) && (decide (0 < (i2:Int)))) && (decide (48≤(x5.toNat:Int))))) hc) Z) ?_)))))))))))))))))))))))
  refine vk Z Z (fun hc=>vi (cnd (c:=((!((decide (97≤(x5.toNat:Int))) && (decide ((x5.toNat:Int)≤122)))) && (decide (0 < (i2:Int))))) hc) (fun hb=>(cnd (c:=(((!((decide (97≤(x5.toNat:Int))) && (decide ((x5.toNat:Int)≤122)))) && (decide (0 < (i2:Int)))) && (decide (48≤(x5.toNat:Int))))) (andI hc hb))) Z) (vk Z Z (fun hc=>zf (.dat _) (cnd (c:=((!((decide (97≤(x5.toNat:Int))) && (decide ((x5.toNat:Int)≤122)))) && (decide (0 < (i2:Int))))) hc)) (xp Z Z (fun hc=>zf (.dat _) Z) (xp Z Z (fun hc=>ql (cnd (c:=(((!((decide (97≤(x5.toNat:Int))) && (decide ((x5.toNat:Int)≤122)))) && (decide (0 < (i2:Int)))) && !((decide (48≤(x5.toNat:Int))) && (decide ((x5.toNat:Int)≤57))))) hc) Z) (vk Z Z (fun hc=>wz (cnd (c:=((!((decide (97≤(x5.toNat:Int))) && (decide ((x5.toNat:Int)≤122)))) && (decide (0 < (i2:Int))))) hc) Z (fun hb=>(cnd (c:=(((!((decide (97≤(x5.toNat:Int))) && (decide ((x5.toNat:Int)≤122)))) && (decide (0 < (i2:Int)))) && !((decide (48≤(x5.toNat:Int))) && (decide ((x5.toNat:Int)≤57))))) (andI hc (notI hb))))) (vk Z Z (fun hc=>zf (.dat _) (cnd (c:=((!((decide (97≤(x5.toNat:Int))) && (decide ((x5.toNat:Int)≤122)))) && (decide (0 < (i2:Int))))) hc)) (xp Z Z (fun hc=>zf (.dat _) Z) (xp Z Z (fun hc=>ql (cnd (c:=(((!((decide (97≤(x5.toNat:Int))) && (decide ((x5.toNat:Int)≤122)))) && (decide (0 < (i2:Int)))) && !(((decide (48≤(x5.toNat:Int))) && (decide ((x5.toNat:Int)≤57))) || (decide ((x5.toNat:Int)=45))))) hc) Z) (vk Z Z (fun hc=>wz (cnd (c:=((!((decide (97≤(x5.toNat:Int))) && (decide ((x5.toNat:Int)≤122)))) && (decide (0 < (i2:Int))))) hc) Z (fun hb=>(cnd (c:=(((!((decide (97≤(x5.toNat:Int))) && (decide ((x5.toNat:Int)≤122)))) && (decide (0 < (i2:Int)))) && !(((decide (48≤(x5.toNat:Int))) && (decide ((x5.toNat:Int)≤57))) || (decide ((x5.toNat:Int)=45))))) (andI hc (notI hb))))) (yi Z Z (fun hc=>vi (cnd (c:=(!((decide (97≤(x5.toNat:Int))) && (decide ((x5.toNat:Int)≤122))))) hc) (fun hb=>(cnd (c:=((!((decide (97≤(x5.toNat:Int))) && (decide ((x5.toNat:Int)≤122)))) && (decide (0 < (i2:Int))))) (andI hc hb))) Z) (za (wz Z Z (fun hb=>(cnd (c:=(!((decide (97≤(x5.toNat:Int))) && (decide ((x5.toNat:Int)≤122))))) (notI hb)))) (za (yt Z) (zg _ Z (fun h8 => ?_) (fun h8 => ?_)))))))))))))
  ·refine tE h8 H fun H=>zb hN Z (qe Z (zh ?_))
   replace H:=retl H hq3
   cases H
   exact ⟨U,.inl Z,U⟩
  ·exact fE h8 H fun H=>zk (zq hN Z (qd Z (za (qw Z Z (by omega)) (qe Z ⟨_,qk H,⟨Z,Z,U⟩,U⟩))))
theorem w27 (o1:ya) (c2:ya) (r:(Bool)) (H:z8o o1 c2=some r):Fn Tryz.prog 164 [vagg (wg o1),wv [[vstr c2.Id,vstr c2.Secret,vint c2.From,vint c2.To,vint c2.Until]] 0 0] (zw [zj r]):=by
 refine ⟨by kernel_rfl,yd (us:=[zj r]) Tryz.func164 Z Z Z Z fun X hN => ?_⟩
 unfold z8o at H
 refine zb hN Z (zi (jf 1 Z) Z (qe Z (zb hN Z (za (zn Zx Z) (zu (zp tyS9 Z Z) Z (za (vr Zx Z) (za (yj tyS9 Z Z Z) (za (wy Z Z) (qe Z (zh ?_))))))))))
 cases H
 exact ⟨U,.inl Z,U⟩
theorem w29 (s1:Bs) (r:(Int)) (H:z8q s1=some r):Fn Tryz.prog 165 [vstr s1] (zw [vint r]):=by
 refine ⟨by kernel_rfl,yd (us:=[vint r]) Tryz.func165 Z Z Z Z fun X hN => ?_⟩
 unfold z8q at H
 refine zb hN Z (qe Z (ze (zb hN Z (qd Z (za (qp tyU9 Z) (qd Z (zx (gE H fun h4 H=>wi (fun (k2:Nat) (s:Unit)=>[(0,.dat (vstr s1)),(5,.dat (vint (s1.length:Int))),(6,.dat (vint (k2:Int)))]) (fun (k2:Nat) (s:Unit)=>[]) () H ⟨Z,Z,Z,U⟩ U (fun _ _=>Z) ?_ ?_))))))))
 ·rintro ⟨⟩ H
  replace H:y2k s1=some r:=H
  unfold y2k at H
  refine zb hN Z (za (zy Z Z) (ze (zg _ Z (fun h=>(lt_t h).elim) (fun h => ?_))))
  refine qg (ze (zb hN Z (qd Z (za (wy Z Z) (zg _ Z (fun h6 => ?_) (fun h6 => ?_))))))
  ·refine tE h6 H fun H=>zb hN Z (qe Z (zh ?_))
   cases H
   exact ⟨U,.inl Z,U⟩
  ·refine fE h6 H fun H=>zk (ze (zb hN Z (qd Z (za (qp tyU9 Z) (za (qh Z Z) (zg _ Z (fun h7 => ?_) (fun h7 => ?_)))))))
   ·refine tE h7 H fun H=>zb hN Z (qe Z (zh ?_))
    cases H
    exact ⟨U,.inl Z,U⟩
   ·refine fE h7 H fun H=>zk (zb hN Z (qe Z (zh ?_)))
    cases H
    exact ⟨U,.inl Z,U⟩
 ·rintro k2 x5 ⟨⟩ q3 h8 h9 H hq3
  replace H:y2j k2 x5=some q3:=H
  unfold y2j at H
  refine zb hN Z (za (zy Z Z) (ze (zg _ Z (fun h => ?_) (fun h=>(lt_f h8 h).elim))))
  refine zk (ze (zx (zb hN Z (qd Z (qe Z (yf (ι:=Bool) (fun i=>[(0,.dat (vstr s1)),(5,.dat (vint (s1.length:Int))),(6,.dat (vint (k2:Int))),(18,.dat (zj i))]) (fun i=>[]) (fun i=>z34 i=some q3) (fun i=>Z) ?_ ?_))))))
  ·skip
   refine zq hN Z (qd Z (qd Z (za (wq tyU9 Z Z h9) (za (zy Z Z) (qd Z (yh (j:=4) Z Z (fun h10 => ?_) (fun h10 => ?_) Z))))))
   ·exact u3 h10 H fun h11 H=>zd Z Z h10 (zf (.dat _) Z) (zd Z Z h10 (zf (.dat _) Z) (zd Z Z h10 (wq tyU9 Z Z h9) (zd Z Z h10 (qh Z Z) (za (yb Z (bFF h11) Z) ⟨decide (126 < (x5.toNat:Int)),H,⟨Z,Z,Z,Z,U⟩,U⟩))))
   ·exact u4 h10 H fun h12 H=>zc Z Z h10 (zc Z Z h10 (zc Z Z h10 (zc Z Z h10 (za (zz Z (bTT h12) Z) ⟨true,H,⟨Z,Z,Z,Z,U⟩,U⟩))))
  ·rintro v13 H
   replace H:z34 v13=some q3:=H
   unfold z34 at H
   refine zg _ Z (fun h14 => ?_) (fun h14 => ?_)
   ·refine tE h14 H fun H=>zb hN Z (qe Z (zh ?_))
    replace H:=retl H hq3
    cases H
    exact ⟨U,.inl Z,U⟩
   ·exact fE h14 H fun H=>zk (zq hN Z (za (qw Z Z (by omega)) (qd Z ⟨_,qk H,⟨Z,Z,Z,U⟩,U⟩)))
theorem y0p (n1:Int) (low2:Int) (high3:Int) (r:(Bool)) (H:z0b n1 low2 high3=some r):Fn Tryz.prog 50 [vint n1,vint low2,vint high3] (zw [zj r]):=by
 refine ⟨by kernel_rfl,yd (us:=[zj r]) Tryz.func50 Z Z Z Z fun X hN => ?_⟩
 unfold z0b at H
 refine zb hN Z (qe Z (zb hN Z (qd Z (qd Z (za (zy Z Z) (qd Z (yi Z Z (fun hc=>zf (.dat _) Z) (yi Z Z (fun hc=>zf (.dat _) Z) (yi Z Z (fun hc=>qh (cnd (c:=(!(decide (n1 < low2)))) hc) (cnd (c:=(!(decide (n1 < low2)))) hc)) (za (wz Z Z (fun hb=>(cnd (c:=(!(decide (n1 < low2)))) (notI hb)))) (qe Z (zh ?_))))))))))))
 cases H
 exact ⟨U,.inl Z,U⟩
theorem w28 (l1:(List ya)) (i2:Int) (r:(Int)) (H:z8p l1 i2=some r):Fn Tryz.prog 110 [vlst (List.map wg l1),vint i2] (zw [vint r]):=by
 refine ⟨by kernel_rfl,yd (us:=[vint r]) Tryz.func110 Z Z Z Z fun X hN => ?_⟩
 unfold z8p at H
 refine zb hN Z (qe Z (zb hN Z (qd Z (qd Z (bE H fun x3 h4 H=>za (jm uc (fun _=>Z) Z Z h4) (za (kj ub Z (yy (vu h4).2) Z) (zi (we 1 Qu Z) Z (zi (yp ub Z Z Z Z) Z (ze (zb hN Z (za (zn Zx Z) (zu (zp tyS9 Z Z) Z (bE H fun r5 h6 H=>za (zl (xu x3.Id r5 h6) ⟨.inl Z,U⟩) (za (yt Z) (zg _ Z (fun h7 => ?_) (fun h7 => ?_))))))))))))))))
 ·refine tE h7 H fun H=>zb hN Z (qe Z (zh ?_))
  cases H
  exact ⟨U,.inl Z,U⟩
 ·refine fE h7 H fun H=>zk (ze (ze (xg 1 [vstr x3.Id,vstr x3.Secret,vint x3.From,vint x3.To,vint x3.Until] Z Z (zq hN Z (qd Z (qd Z (bE H fun l8 h9 H=>za (z1d uc (fun _=>Z) Z Z Z h9) (za (Zd (us:=[_]) ⟨Z,U⟩) (bE H fun r10 h11 H=>za (zl (x4i l8 (fun (a0:ya)=>z8o a0 x3) 164 [wv [[vstr x3.Id,vstr x3.Secret,vint x3.From,vint x3.To,vint x3.Until]] 0 0] (fun a0 r h=>w27 a0 x3 r h) r10 h11) ⟨.inl Z,.inl Z,U⟩) (zg _ Z (fun h12 => ?_) (fun h12 => ?_)))))))))))
  ·refine tE h12 H fun H=>zb hN Z (qe Z (zh ?_))
   cases H
   exact ⟨U,.inl Z,U⟩
  ·refine fE h12 H fun H=>zk (ze (zb hN Z (za (vr z33 Z) (za (yj tyS9 Z Z Z) (bE H fun r13 h14 H=>za (zl (w29 x3.Secret r13 h14) ⟨.inl Z,U⟩) (qe Z (zb hN Z (qd Z (za (wa Z Z) (zg _ Z (fun h15 => ?_) (fun h15 => ?_)))))))))))
   ·refine tE h15 H fun H=>zb hN Z (qd Z (qe Z (zh ?_)))
    cases H
    exact ⟨U,.inl Z,U⟩
   ·refine fE h15 H fun H=>zk (ze (zb hN Z (za (vr Zw Z) (za (yj tyS3 Z Z Z) (za (vr We Z) (za (yj tyS3 Z Z Z) (bE H fun r16 h17 H=>za (zl (y0p x3.From 0 x3.To r16 h17) ⟨.inl Z,.inl Z,.inl Z,U⟩) (qd Z (yi Z Z (fun hc=>vr We Z) (yi Z Z (fun hc=>yj tyS3 (cnd (c:=(!r16)) hc) Z Z) (yi Z Z (fun hc=>vr Wd Z) (yi Z Z (fun hc=>yj tyS3 (cnd (c:=(!r16)) hc) Z Z) (yi Z Z (fun hc=>qh (cnd (c:=(!r16)) hc) (cnd (c:=(!r16)) hc)) (za (wz Z Z (fun hb=>(cnd (c:=(!r16)) (notI hb)))) (qd Z (yi Z Z (fun hc=>vr Wd Z) (yi Z Z (fun hc=>yj tyS3 (cnd (c:=(!(r16 || (decide (x3.Until < x3.To))))) hc) Z Z) (yi Z Z (fun hc=>qh (cnd (c:=(!(r16 || (decide (x3.Until < x3.To))))) hc) Z) (za (wz Z Z (fun hb=>(cnd (c:=(!(r16 || (decide (x3.Until < x3.To))))) (notI hb)))) (zg _ Z (fun h18 => ?_) (fun h18 => ?_)))))))))))))))))))))
    ·refine tE h18 H fun H=>zb hN Z (qe Z (zh ?_))
     cases H
     exact ⟨U,.inl Z,U⟩
    ·refine fE h18 H fun H=>zk (ze (yf (ι:=Bool) (fun i=>[(55,.dat (zj i))]) (fun i=>[]) (fun i=>Wh i=some r) (fun i=>Z) ?_ ?_))
     ·skip
      refine wx mixed hN Z Z (qd Z (za (qh Z Z) (qd Z (yh (j:=2) Z Z (fun h19 => ?_) (fun h19 => ?_) Z))))
      ·refine u1 h19 H fun h20 H=>zd Z Z h19 (vr Zw Z) (zd Z Z h19 (yj tyS3 Z Z Z) (zd Z Z h19 (zf (.dat _) Z) (zd Z Z h19 (zf (.dat _) Z) (zd Z Z h19 (yw _ Z Z (.inr (.inl ⟨Z,Z⟩))) (bE H fun x21 h22 H=>zd Z Z h19 (jm uc (fun _=>Z) Z Z h22) (zd Z Z h19 (vr Zw Z) (zd Z Z h19 (yj tyS3 Z (yy (vu h22).2) Z) (zd Z Z h19 (zy Z Z) (za (zz Z (bTT h20) Z) ⟨Z,?_⟩)))))))))
       exact ⟨decide (x3.From < x21.From),H,⟨Z,U⟩,U⟩
      ·refine u2 h19 H fun h23 H=>zc Z Z h19 (zc Z Z h19 (zc Z Z h19 (zc Z Z h19 (zc Z Z h19 (zc Z Z h19 (zc Z Z h19 (zc Z Z h19 (zc Z Z h19 (za (yb Z (bFF h23) Z) ⟨Z,?_⟩)))))))))
       exact ⟨false,H,⟨Z,U⟩,U⟩
     ·rintro v24 H
      replace H:Wh v24=some r:=H
      unfold Wh at H
      refine zg _ Z (fun h25 => ?_) (fun h25 => ?_)
      ·refine tE h25 H fun H=>zb hN Z (qe Z (zh ?_))
       cases H
       exact ⟨U,.inl Z,U⟩
      ·refine fE h25 H fun H=>zk (zb hN Z (qe Z (zh ?_)))
       cases H
       exact ⟨U,.inl Z,U⟩
theorem x3y (l1:(List ya)) (r:(Int)) (H:z4w l1=some r):Fn Tryz.prog 49 [vlst (List.map wg l1)] (zw [vint r]):=by
 refine ⟨by kernel_rfl,yd (us:=[vint r]) Tryz.func49 Z Z Z Z fun X hN => ?_⟩
 unfold z4w at H
 refine zb hN Z (qe Z (ze (zb hN Z (qd Z (za (yo Qv Z) (za (qh Z Z) (zg _ Z (fun h2 => ?_) (fun h2 => ?_))))))))
 ·refine tE h2 H fun H=>zb hN Z (qe Z (zh ?_))
  cases H
  exact ⟨U,.inl Z,U⟩
 ·refine fE h2 H fun H=>zk (ze (zb hN Z (qd Z (za (yo Qv Z) (qd Z (zx (gE H fun h5 H=>wi (fun (k3:Nat) (s:Unit)=>[(0,.dat (vlst (List.map wg l1))),(9,.dat (vint (l1.length:Int))),(10,.dat (vint (k3:Int)))]) (fun (k3:Nat) (s:Unit)=>[]) () H ⟨Z,Z,Z,U⟩ U (fun _ _=>Z) ?_ ?_)))))))
  ·rintro ⟨⟩ H
   replace H:y6n=some r:=H
   unfold y6n at H
   refine zb hN Z (za (zy Z Z) (ze (zg _ Z (fun h=>(lt_t h).elim) (fun h => ?_))))
   refine qg (zb hN Z (qe Z (zh ?_)))
   cases H
   exact ⟨U,.inl Z,U⟩
  ·rintro k3 x6 ⟨⟩ q4 h7 h8 H hq4
   replace H:y2m l1 k3 x6=some q4:=H
   unfold y2m at H
   refine zb hN Z (za (zy Z Z) (ze (zg _ Z (fun h => ?_) (fun h=>(lt_f h7 h).elim))))
   refine zk (ze (zx (zb hN Z (qd Z (qe Z (zb hN Z (qd Z (qd Z (bE H fun r9 h10 H=>za (zl (w28 l1 (k3:Int) r9 h10) ⟨.inl Z,.inl Z,U⟩) (qe Z (zb hN Z (qd Z (za (wa Z Z) (zg _ Z (fun h11 => ?_) (fun h11 => ?_)))))))))))))))
   ·refine tE h11 H fun H=>zb hN Z (qd Z (qe Z (zh ?_)))
    replace H:=retl H hq4
    cases H
    exact ⟨U,.inl Z,U⟩
   ·exact fE h11 H fun H=>zk (zq hN Z (za (qw Z Z (by omega)) (qd Z ⟨_,qk H,⟨Z,Z,Z,U⟩,U⟩)))
theorem w3q (l1:(List qf)) (r:(Int)) (H:z84 l1=some r):Fn Tryz.prog 24 [vlst (List.map jb l1)] (zw [vint r]):=by
 refine ⟨by kernel_rfl,yd (us:=[vint r]) Tryz.func24 Z Z Z Z fun X hN => ?_⟩
 unfold z84 at H
 refine zb hN Z (qe Z (ze (zb hN Z (qd Z (za (yo z7l Z) (za (qh Z Z) (zg _ Z (fun h2 => ?_) (fun h2 => ?_))))))))
 ·refine tE h2 H fun H=>zb hN Z (qe Z (zh ?_))
  cases H
  exact ⟨U,.inl Z,U⟩
 ·refine fE h2 H fun H=>zk (ze (zb hN Z (qd Z (za (yo z7l Z) (qd Z (zx (gE H fun h5 H=>wi (fun (k3:Nat) (s:Unit)=>[(0,.dat (vlst (List.map jb l1))),(8,.dat (vlst (List.map jb l1))),(9,.dat (vint (l1.length:Int))),(10,.dat (vint (k3:Int)))]) (fun (k3:Nat) (s:Unit)=>[]) () H ⟨Z,Z,Z,Z,U⟩ U (fun _ _=>Z) ?_ ?_)))))))
  ·rintro ⟨⟩ H
   replace H:y2o=some r:=H
   unfold y2o at H
   refine zb hN Z (za (zy Z Z) (ze (zg _ Z (fun h=>(lt_t h).elim) (fun h => ?_))))
   refine qg (zb hN Z (qe Z (zh ?_)))
   cases H
   exact ⟨U,.inl Z,U⟩
  ·rintro k3 x6 ⟨⟩ q4 h7 h8 H hq4
   replace H:z7v l1 k3 x6=some q4:=H
   unfold z7v at H
   refine zb hN Z (za (zy Z Z) (ze (zg _ Z (fun h => ?_) (fun h=>(lt_f h7 h).elim))))
   refine zk (ze (zx (zb hN Z (qd Z (za (qu y2f (fun _=>Z) Z Z h8) (za (kj z7n Z (yy h8) Z) (zi (we 1 y1v Z) Z (qe Z (zi (yp z7n Z Z Z Z) Z (zx (zb hN Z (za (zn Zt Z) (zu (zp tyS9 Z Z) Z (bE H fun r9 h10 H=>za (zl (xu x6.Id r9 h10) ⟨.inl Z,U⟩) (za (yt Z) (qe Z (zg _ Z (fun h11 => ?_) (fun h11 => ?_))))))))))))))))))
   ·refine tE h11 H fun H=>zb hN Z (qe Z (zh ?_))
    replace H:=retl H hq4
    cases H
    exact ⟨U,.inl Z,U⟩
   ·refine fE h11 H fun H=>yf (ι:=Bool) (fun i=>[(0,.dat (vlst (List.map jb l1))),(4,.ptr 1 0),(8,.dat (vlst (List.map jb l1))),(9,.dat (vint (l1.length:Int))),(10,.dat (vint (k3:Int))),(20,.dat (zj i))]) (fun i=>[(1,.box none 58 [.dat (vstr x6.Id),.dat (vint x6.At),.dat (vint x6.Until)])]) (fun i=>z4c x6 i=some q4) (fun i=>Z) ?_ ?_
    ·skip
     refine wx mixed hN Z Z (qd Z (za (qh Z Z) (qd Z (yh (j:=2) Z Z (fun h12 => ?_) (fun h12 => ?_) Z))))
     ·refine u1 h12 H fun h13 H=>zd Z Z h12 (zn Zt Z) (vj Z Z h12 (zp tyS9 Z Z) Z (zd Z Z h12 (zf (.dat _) Z) (zd Z Z h12 (zf (.dat _) Z) (zd Z Z h12 (Wn Z Z (by omega)) (bE H fun x14 h15 H=>zd Z Z h12 (jm y2f (fun _=>Z) Z Z h15) (zd Z Z h12 (vr Zt Z) (zd Z Z h12 (yj tyS9 Z (yy (vu h15).2) Z) (zd Z Z h12 (z79 Z Z) (za (zz Z (bTT h13) Z) (qe Z ⟨Z,?_⟩))))))))))
      exact ⟨(Op.bytesLess x6.Id x14.Id || x6.Id == x14.Id),H,⟨Z,Z,Z,Z,Z,Z,U⟩,⟨Z,U⟩⟩
     ·refine u2 h12 H fun h16 H=>zc Z Z h12 (zc Z Z h12 (zc Z Z h12 (zc Z Z h12 (zc Z Z h12 (zc Z Z h12 (zc Z Z h12 (zc Z Z h12 (zc Z Z h12 (za (yb Z (bFF h16) Z) (qe Z ⟨Z,?_⟩))))))))))
      exact ⟨false,H,⟨Z,Z,Z,Z,Z,Z,U⟩,⟨Z,U⟩⟩
    ·rintro v17 H
     replace H:z4c x6 v17=some q4:=H
     unfold z4c at H
     refine zg _ Z (fun h18 => ?_) (fun h18 => ?_)
     ·refine tE h18 H fun H=>zb hN Z (qe Z (zh ?_))
      replace H:=retl H hq4
      cases H
      exact ⟨U,.inl Z,U⟩
     ·refine fE h18 H fun H=>zb hN Z (za (zn y18 Z) (zu (zp tyS3 Z Z) Z (za (zn y17 Z) (zu (zp tyS3 Z Z) Z (bE H fun r19 h20 H=>za (zl (y0p x6.At 0 x6.Until r19 h20) ⟨.inl Z,.inl Z,.inl Z,U⟩) (qd Z (yi Z Z (fun hc=>zn y17 Z) (jk Z Z (fun hc=>zp tyS3 (cnd (c:=(!r19)) hc) Z) Z vv (yi Z Z (fun hc=>qh (cnd (c:=(!r19)) hc) Z) (za (wz Z Z (fun hb=>(cnd (c:=(!r19)) (notI hb)))) (qe Z (zg _ Z (fun h21 => ?_) (fun h21 => ?_)))))))))))))
      ·refine tE h21 H fun H=>zb hN Z (qe Z (zh ?_))
       replace H:=retl H hq4
       cases H
       exact ⟨U,.inl Z,U⟩
      ·exact fE h21 H fun H=>zk (zq hN Z (za (qw Z Z (by omega)) (qd Z ⟨_,qk H,⟨Z,Z,Z,Z,U⟩,U⟩)))
theorem w3x (s p:Bs) (r:Bs) (H:y31 s p=some r):Fn Tryz.prog 152 [vstr s,vstr p] (zw [vstr r]):=by
 unfold y31 at H
 obtain ⟨⟨⟨h1,h2⟩,h3⟩,h4⟩:=gif H
 cases h4
 refine xx (by kernel_rfl) fun M w vs hM h => ?_
 have hv:=kr (us:=[.string ⟨s.toArray⟩,.string ⟨p.toArray⟩]) h
 subst hv
 refine (Any.strings_Trim_laid Tryz.lays160 (by kernel_rfl) ⟨s.toArray⟩ ⟨p.toArray⟩ w (by simp [ByteArray.size]; omega) (by simp [ByteArray.size]; omega) (fun j b hb=>z7i h3 j b (by simpa using hb))).mono ?_
 rintro e w' ⟨rfl,hb⟩
 exact ⟨_,Z,Z,Kp.of_below hb⟩

theorem w3d (s1:Bs) (r:(Bool)) (H:z8u s1=some r):Fn Tryz.prog 105 [vstr s1] (zw [zj r]):=by
 refine ⟨by kernel_rfl,yd (us:=[zj r]) Tryz.func105 Z Z Z Z fun X hN => ?_⟩
 unfold z8u at H
 refine zb hN Z (qe Z (yf (ι:=Bool) (fun i=>[(2,.dat (zj i))]) (fun i=>[]) (fun i=>z36 i=some r) (fun i=>Z) ?_ ?_))
 ·skip
  refine zq hN Z (qd Z (za (qp tyU9 Z) (za (ql Z Z) (qd Z (yh (j:=3) Z Z (fun h2 => ?_) (fun h2 => ?_) Z)))))
  ·exact u1 h2 H fun h3 H=>zd Z Z h2 (zf (.dat _) Z) (bE H fun r4 h5 H=>zd Z Z h2 (zl (w3x s1 [48,49,50,51,52,53,54,55,56,57,97,98,99,100,101,102] r4 h5) ⟨.inl Z,.inl Z,U⟩) (zd Z Z h2 (wy Z Z) (za (zz Z (bTT h3) Z) (qe Z ⟨decide (r4=[]),H,⟨Z,U⟩,U⟩))))
  ·exact u2 h2 H fun h6 H=>zc Z Z h2 (zc Z Z h2 (zc Z Z h2 (za (yb Z (bFF h6) Z) (qe Z ⟨false,H,⟨Z,U⟩,U⟩))))
 ·rintro v7 H
  replace H:z36 v7=some r:=H
  unfold z36 at H
  refine zh ?_
  cases H
  exact ⟨U,.inl Z,U⟩
theorem w3e (s1:Bs) (r:(Bool)) (H:z8v s1=some r):Fn Tryz.prog 161 [vstr s1] (zw [zj r]):=by
 refine ⟨by kernel_rfl,yd (us:=[zj r]) Tryz.func161 Z Z Z Z fun X hN => ?_⟩
 unfold z8v at H
 refine zb hN Z (qe Z (zb hN Z (qd Z (bE H fun r2 h3 H=>za (zl (Qi s1 [58] r2 h3) ⟨.inl Z,.inl Z,U⟩) (qe Z (ze (zb hN Z (qd Z (za (yo qm Z) (qd Z (zx (gE H fun h6 H=>wi (fun (k4:Nat) (s:Unit)=>[(3,.dat (vlst (List.map zo r2))),(8,.dat (vlst (List.map zo r2))),(9,.dat (vint (r2.length:Int))),(10,.dat (vint (k4:Int)))]) (fun (k4:Nat) (s:Unit)=>[]) () H ⟨Z,Z,Z,Z,U⟩ U (fun _ _=>Z) ?_ ?_))))))))))))
 ·rintro ⟨⟩ H
  replace H:y6m r2=some r:=H
  unfold y6m at H
  refine zb hN Z (za (zy Z Z) (ze (zg _ Z (fun h=>(lt_t h).elim) (fun h => ?_))))
  refine qg (zb hN Z (qd Z (za (yo qm Z) (za (vq Z Z) (qe Z (zh ?_))))))
  cases H
  exact ⟨U,.inl Z,U⟩
 ·rintro k4 x7 ⟨⟩ q5 h8 h9 H hq5
  replace H:y2l r2 k4 x7=some q5:=H
  unfold y2l at H
  refine zb hN Z (za (zy Z Z) (ze (zg _ Z (fun h => ?_) (fun h=>(lt_f h8 h).elim))))
  refine zk (ze (zx (zb hN Z (qd Z (za (qu qv (fun _=>Z) Z Z h9) (za (yj tyS9 Z (yy h9) Z) (qe Z (qe Z (zb hN Z (qd Z (bE H fun r10 h11 H=>za (zl (xu x7 r10 h11) ⟨.inl Z,U⟩) (za (yt Z) (qd Z (qj Z Z (fun hc=>zf (.dat _) Z) (qj Z Z (fun hc=>wy (cnd (c:=(!r10)) hc) Z) (qj Z Z (fun hc=>zf (.dat _) (cnd (c:=(!r10)) hc)) (vk Z Z (fun hc=>zf (.dat _) Z) (vk Z Z (fun hc=>zf (.dat _) Z) (vk Z Z (fun hc=>yo qm (cnd (c:=((!r10) && (decide (x7=[42])))) hc)) (vk Z Z (fun hc=>yw _ (cnd (c:=((!r10) && (decide (x7=[42])))) hc) Z (.inr (.inl ⟨Z,Z⟩))) (vk Z Z (fun hc=>ql (cnd (c:=((!r10) && (decide (x7=[42])))) hc) (cnd (c:=((!r10) && (decide (x7=[42])))) hc)) (qj Z Z (fun hc=>vi (cnd (c:=(!r10)) hc) (fun hb=>(cnd (c:=((!r10) && (decide (x7=[42])))) (andI hc hb))) Z) ?_))))))))))))))))))))))
  refine qj Z Z (fun hc=>yt (cnd (c:=(!r10)) hc)) (za (vi Z (fun hb=>(cnd (c:=(!r10)) hb)) Z) (zg _ Z (fun h12 => ?_) (fun h12 => ?_)))
  ·refine tE h12 H fun H=>zb hN Z (qe Z (zh ?_))
   replace H:=retl H hq5
   cases H
   exact ⟨U,.inl Z,U⟩
  ·exact fE h12 H fun H=>zk (zq hN Z (za (qw Z Z (by omega)) (qd Z ⟨_,qk H,⟨Z,Z,Z,Z,U⟩,U⟩)))
theorem x3z (l1:(List Bs)) (r:(Int)) (H:z4x l1=some r):Fn Tryz.prog 106 [vlst (List.map zo l1)] (zw [vint r]):=by
 refine ⟨by kernel_rfl,yd (us:=[vint r]) Tryz.func106 Z Z Z Z fun X hN => ?_⟩
 unfold z4x at H
 refine zb hN Z (qe Z (ze (zb hN Z (qd Z (za (yo qm Z) (za (qh Z Z) (zg _ Z (fun h2 => ?_) (fun h2 => ?_))))))))
 ·refine tE h2 H fun H=>zb hN Z (qe Z (zh ?_))
  cases H
  exact ⟨U,.inl Z,U⟩
 ·refine fE h2 H fun H=>zk (ze (zb hN Z (qd Z (za (yo qm Z) (qd Z (zx (gE H fun h5 H=>wi (fun (k3:Nat) (s:Unit)=>[(8,.dat (vlst (List.map zo l1))),(9,.dat (vint (l1.length:Int))),(10,.dat (vint (k3:Int)))]) (fun (k3:Nat) (s:Unit)=>[]) () H ⟨Z,Z,Z,U⟩ U (fun _ _=>Z) ?_ ?_)))))))
  ·rintro ⟨⟩ H
   replace H:y6o=some r:=H
   unfold y6o at H
   refine zb hN Z (za (zy Z Z) (ze (zg _ Z (fun h=>(lt_t h).elim) (fun h => ?_))))
   refine qg (zb hN Z (qe Z (zh ?_)))
   cases H
   exact ⟨U,.inl Z,U⟩
  ·rintro k3 x6 ⟨⟩ q4 h7 h8 H hq4
   replace H:y2n k3 x6=some q4:=H
   unfold y2n at H
   refine zb hN Z (za (zy Z Z) (ze (zg _ Z (fun h => ?_) (fun h=>(lt_f h7 h).elim))))
   refine zk (ze (zx (zb hN Z (za (qu qv (fun _=>Z) Z Z h8) (za (yj tyS9 Z (yy h8) Z) (qe Z (zb hN Z (qd Z (bE H fun r9 h10 H=>za (zl (w3e x6 r9 h10) ⟨.inl Z,U⟩) (za (yt Z) (zg _ Z (fun h11 => ?_) (fun h11 => ?_))))))))))))
   ·refine tE h11 H fun H=>zb hN Z (qe Z (zh ?_))
    replace H:=retl H hq4
    cases H
    exact ⟨U,.inl Z,U⟩
   ·exact fE h11 H fun H=>zk (zq hN Z (za (qw Z Z (by omega)) (qd Z ⟨_,qk H,⟨Z,Z,Z,U⟩,U⟩)))
end Go.Proofs.YtndabcepiekebaaGreatDoor
