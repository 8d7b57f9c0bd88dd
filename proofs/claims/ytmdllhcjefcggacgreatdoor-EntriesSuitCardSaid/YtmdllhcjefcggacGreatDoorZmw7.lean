/- Walks along the models. Printed by a program. -/
import Derived.Test.YtmdllhcjefcggacGreatDoorZmw6
namespace Go.Proofs.YtmdllhcjefcggacGreatDoor
open Go.RowKit
set_option linter.unusedVariables false
set_option maxRecDepth 100000
set_option maxHeartbeats 2000000
theorem w0r (s1:Bs) (r:((List zo)×Int)) (H:z1f s1=some r):FnG Tryz.prog 99 [.dat (vstr s1)] [] (.comp true [.row 900 r.1.length,.dat (vint r.2)]) [(900,.row 112 2 (List.map yw r.1))]:=by
 refine kv (by kernel_rfl) Tryz.func99 Z Z Z Z fun X A hN => ?_
 unfold z1f at H
 refine zb hN Z (qe Z (qe Z (ze (zb hN Z (qd Z (bE H fun r2 h3 H=>za (zk (x2e s1 r2 h3) ⟨.inl Z,U⟩) (za (yy Z) (zf _ Z (fun h4 => ?_) (fun h4 => ?_)))))))))
 ·refine tE h4 H fun H=>zb hN Z (qe Z (qe Z (vp 2 900 112 2 Z Z Z (zi ?_))))
  cases H
  exact ⟨U,[(2,.row 900 _),(3,.dat (vint 3))],⟨Z,Z,U⟩,⟨Z,U⟩,Z,.inr (.inr ⟨.row 900 [].length,.dat (vint 3),[],⟨Z,Z,U⟩,Z⟩)⟩
 ·refine fE h4 H fun H=>zl (ze (zb hN Z (qd Z (bE H fun r5 h6 H=>za (zk (y6h s1 r5 h6) ⟨.inl Z,U⟩) (qd Z (za (zz Z Z) (za (zz Z Z) (qe Z (qe Z (zb hN Z (qd Z (za (yy Z) (zf _ Z (fun h7 => ?_) (fun h7 => ?_))))))))))))))
  ·refine tE h7 H fun H=>zb hN Z (qe Z (qe Z (vp 2 900 112 2 Z Z Z (zi ?_))))
   cases H
   exact ⟨U,[(2,.row 900 _),(3,.dat (vint 9))],⟨Z,Z,U⟩,⟨Z,U⟩,Z,.inr (.inr ⟨.row 900 [].length,.dat (vint 9),[],⟨Z,Z,U⟩,Z⟩)⟩
  ·refine fE h7 H fun H=>zl (zb hN Z (qe Z (ze (zb hN Z (qd Z (bE H fun r8 h9 H=>za (zk (Yx s1 [38] r8 h9) ⟨.inl Z,.inl Z,U⟩) (za (qi wt Z) (qd Z (zx (vp 6 1 112 2 Z Z Z (gE H fun h13 H=>qv (fun (k11:Nat) (s:(List zo))=>[(6,.row 1 s.length),(23,.dat (vlst (List.map zp r8))),(24,.dat (vint (r8.length:Int))),(25,.dat (vint (k11:Int)))]) (fun (k11:Nat) (s:(List zo))=>[(1,.row 112 2 (List.map yw s))]) [] H ⟨Z,Z,Z,Z,U⟩ ⟨Z,U⟩ (fun _ _=>Z) ?_ ?_)))))))))))
   ·rintro l10 H
    replace H:z5q l10=some r:=H
    unfold z5q at H
    refine zb hN Z (za (zy Z Z) (ze (zf _ Z (fun h=>(lt_t h).elim) (fun h => ?_))))
    refine yr (ze (zb hN Z (za (zd (.row _ _) Z) (zm (Qp xr Z Z) Z (za (wg Z Z) (zf _ Z (fun h15 => ?_) (fun h15 => ?_)))))))
    ·refine tE h15 H fun H=>zb hN Z (qe Z (qe Z (vp 2 900 112 2 Z Z Z (zi ?_))))
     cases H
     exact ⟨U,[(2,.row 900 _),(3,.dat (vint 2))],⟨Z,Z,U⟩,⟨Z,U⟩,Z,.inr (.inr ⟨.row 900 [].length,.dat (vint 2),[],⟨Z,Z,U⟩,Z⟩)⟩
    ·refine fE h15 H fun H=>zl (zb hN Z (za (zd (.row _ _) Z) (za (qr (.row _ _) Z) (qe Z (y3s 2 1 900 Z Z (by rw [List.length_map]) Z ?_)))))
     refine zi ?_
     cases H
     exact ⟨U,[(2,.row 900 _),(3,.dat (vint 0))],⟨Z,Z,U⟩,⟨Z,U⟩,Z,.inr (.inr ⟨.row 900 l10.length,.dat (vint 0),[],⟨Z,Z,U⟩,Z⟩)⟩
   ·rintro k11 x14 l10 q12 h16 h17 H hq12
    replace H:z1z k11 x14 l10=some q12:=H
    unfold z1z at H
    refine zb hN Z (za (zy Z Z) (ze (zf _ Z (fun h => ?_) (fun h=>(lt_f h16 h).elim))))
    refine zl (yb (ι:=(List zo)) (fun i=>[(6,.row 1 i.length),(23,.dat (vlst (List.map zp r8))),(24,.dat (vint (r8.length:Int))),(25,.dat (vint (k11:Int)))]) (fun i=>[(1,.row 112 2 (List.map yw i))]) (fun i=>z5p i=some q12) (fun i=>Z) ?_ ?_)
    ·skip
     refine zx (zb hN Z (za (wc vn (fun _=>Z) Z Z h17) (za (qz tyS9 Z (qk h17) Z) (qe Z (ze (zb hN Z (qd Z (za (vg Z Z) (zf _ Z (fun h18 => ?_) (fun h18 => ?_))))))))))
     ·exact tE h18 H fun H=>yr ⟨l10,H,⟨Z,Z,Z,Z,U⟩,⟨Z,U⟩⟩
     ·refine fE h18 H fun H=>zl (zb hN Z (qd Z (bE H fun r19 h20 H=>za (zk (w01 x14 [43] [37,50,48] r19 h20) ⟨.inl Z,.inl Z,.inl Z,U⟩) (bE H fun r21 h22 H=>za (zk (z42 r19 [61] r21 h22) ⟨.inl Z,.inl Z,U⟩) (qd Z (za (zz Z Z) (za (zz Z Z) (za (zz Z Z) (qe Z (qe Z (qe Z (zn hN Z (za (zd (.row _ _) Z) (qd Z (bE H fun r23 h24 H=>za (zk (x2i r21.1 r23 h24) ⟨.inl Z,U⟩) (qd Z (bE H fun r25 h26 H=>za (zk (x2i r21.2.1 r25 h26) ⟨.inl Z,U⟩) (za (ya (u':=vagg (yw (zo.mk r23 r25))) (vh [(0,[vstr r23]),(1,[vstr r25])] Qk y0h Z ⟨Z,.inl ⟨_,Z,Z,Z⟩,Z,Z,.inl ⟨_,Z,Z,Z⟩,Z,U⟩) Z) ?_))))))))))))))))))
      refine za (ya (u':=vlst (List.map yw [(zo.mk r23 r25)])) (yo [_] y0j ⟨Z,.inr Z,Z,U⟩ Z Z) Z) (gE H fun h27 H=>zj (va y0j (fun _=>Z) Z Z Z ⟨by simp,by first | (simp; done) | simpa using h27⟩ Z) Z ?_)
      exact za (qr (.row _ _) Z) ⟨(l10++[(zo.mk r23 r25)]),H,⟨Z,Z,Z,Z,U⟩,⟨Z,U⟩⟩
    ·rintro out28 H
     replace H:z5p out28=some q12:=H
     unfold z5p at H
     exact zn hN Z (za (qo Z Z (by omega)) (qd Z ⟨_,yx H,⟨Z,Z,Z,Z,U⟩,⟨Z,U⟩⟩))
theorem w11 (p1:zo) (r:(Bool)) (H:z1g p1=some r):Fn Tryz.prog 101 [vagg (yw p1)] (zu [zh r]):=by
 refine ⟨by kernel_rfl,yg (us:=[zh r]) Tryz.func101 Z Z Z Z fun X hN => ?_⟩
 unfold z1g at H
 refine zb hN Z (zj (we 1 Z) Z (qe Z (zb hN Z (za (zq xe Z) (zm (zv tyS9 Z Z) Z (za (zq Qo Z) (zm (zv tyS9 Z Z) Z (gE H fun h2 H=>za (jb Z Z (Nat.le_trans h2 (by decide))) (za (vg Z Z) (qe Z (zi ?_)))))))))))
 cases H
 exact ⟨U,.inl Z,U⟩
theorem w0g (data1:(List zo)) (n2:Int) (p2:zo→zo→Option (Int)) (fv2:Nat) (us2:List V) (hp2:∀ a0 a1 r,p2 a0 a1=some r→Fn Tryz.prog fv2 ([vagg (yw a0),vagg (yw a1)]++us2) (zu [vint r])) (r:((List zo))) (H:y11 data1 n2 p2=some r):FnG Tryz.prog 160 [.row 0 data1.length,.dat (vint n2),.dat (vfn fv2 us2)] [(0,.rowA undef 112 2 (List.map yw data1))] (.dat (zu [])) [(0,.rowA undef 112 2 (List.map yw r))]:=by
 refine kv (by kernel_rfl) Tryz.func160 Z Z Z Z fun X A hN => ?_
 unfold y11 at H
 refine zb hN Z (qe Z (zb hN Z (qd Z (qe Z (qe Z (yb (ι:=Int×(List zo)) (fun i=>[(0,.row 0 i.2.length),(1,.dat (vint n2)),(2,.dat (vfn fv2 us2)),(6,.dat (vint 20)),(7,.dat (vint i.1))]) (fun i=>[(0,.rowA (A.vl 0) 112 2 (List.map yw i.2))]) (fun i=>y05 n2 p2 i.1 i.2=some r) (fun i=>Z) ?_ ?_))))))
 ·skip
  refine zx (uz (fun (s:Int×Int×(List zo))=>[(0,.row 0 s.2.2.length),(1,.dat (vint n2)),(2,.dat (vfn fv2 us2)),(6,.dat (vint 20)),(7,.dat (vint s.1)),(8,.dat (vint s.2.1))]) (fun (s:Int×Int×(List zo))=>[(0,.rowA (A.vl 0) 112 2 (List.map yw s.2.2))]) (0,20,data1) H ⟨Z,Z,Z,Z,Z,Z,U⟩ ⟨Z,U⟩ (fun _=>Z) ?_)
  rintro ⟨a3,b4,l5⟩ q6 H hq6
  replace H:y4t n2 p2 a3 b4 l5=some q6:=H
  unfold y4t at H
  refine ze (zb hN Z (qd Z (qd Z (za (wy Z Z) (zf _ Z (fun h7 => ?_) (fun h7 => ?_))))))
  ·refine tE h7 H fun H=>zl (zx (zb hN Z (za (zd (.row _ _) Z) (qd Z (qd Z (qd Z (bE H fun r8 h9 H=>gE H fun h10 H=>wx (rn [(0,0)]) [(0,_,_,some _)] [] (y58 l5 a3 b4 p2 fv2 us2 hp2 r8 h9) ⟨Z,U⟩ ⟨.inl (.inl Z),.inl (.inl Z),.inl (.inl Z),.inl (.inl Z),U⟩ ⟨⟨⟨Z,Z,Z⟩,by simp [ue,h10]⟩,U⟩ Z ?_)))))))
   exact zb hN Z (qd Z (qe Z (zn hN Z (qd Z (qd Z (za (yj _ Z Z (.inl ⟨Z,Z⟩)) (qe Z ⟨_,yx H,⟨congrArg (Slot.row 0) ((h10).symm).symm,Z,Z,Z,Z,Z,U⟩,⟨Z,U⟩⟩)))))))
  ·refine fE h7 H fun H=>yr ?_
   replace H:=outl H hq6
   exact ⟨(a3,l5),H,⟨Z,Z,Z,Z,Z,U⟩,⟨Z,U⟩⟩
 ·rintro ⟨a11,data12⟩ H
  replace H:y05 n2 p2 a11 data12=some r:=H
  unfold y05 at H
  refine zb hN Z (za (zd (.row _ _) Z) (qd Z (qd Z (qd Z (bE H fun r13 h14 H=>gE H fun h15 H=>wx (rn [(0,0)]) [(0,_,_,some _)] [] (y58 data12 a11 n2 p2 fv2 us2 hp2 r13 h14) ⟨Z,U⟩ ⟨.inl (.inl Z),.inl (.inl Z),.inl (.inl Z),.inl (.inl Z),U⟩ ⟨⟨⟨Z,Z,Z⟩,by simp [ue,h15]⟩,U⟩ Z ?_)))))
  refine zx (uz (fun (s:Int)=>[(0,.row 0 data12.length),(1,.dat (vint n2)),(2,.dat (vfn fv2 us2)),(6,.dat (vint s))]) (fun (s:Int)=>[(0,.rowA (A.vl 0) 112 2 (List.map yw r13))]) 20 H ⟨Z,Z,Z,Z,U⟩ ⟨Z,U⟩ (fun _=>Z) ?_)
  rintro blockSize16 q17 H hq17
  replace H:y4s n2 r13 blockSize16=some q17:=H
  unfold y4s at H
  refine ze (zb hN Z (qd Z (qd Z (za (zy Z Z) (zf _ Z (fun h18 => ?_) (fun h18 => ?_))))))
  ·refine tE h18 H fun H=>zl (zx (zb hN Z (qd Z (za (yj _ Z Z (.inr (.inr ⟨Z,Z⟩))) (qe Z (qe Z (yb (ι:=Int) (fun i=>[(0,.row 0 data12.length),(1,.dat (vint n2)),(2,.dat (vfn fv2 us2)),(6,.dat (vint blockSize16)),(7,.dat (vint i))]) (fun i=>[(0,.rowA (A.vl 0) 112 2 (List.map yw r13))]) (fun i=>y04 n2 blockSize16 i=some q17) (fun i=>Z) ?_ ?_)))))))
   ·skip
    refine zx (uz (fun (s:Int×Int)=>[(0,.row 0 data12.length),(1,.dat (vint n2)),(2,.dat (vfn fv2 us2)),(6,.dat (vint blockSize16)),(7,.dat (vint s.1)),(8,.dat (vint s.2))]) (fun (s:Int×Int)=>[(0,.rowA (A.vl 0) 112 2 (List.map yw r13))]) (0,wr (2 * blockSize16)) H ⟨Z,Z,Z,Z,Z,Z,U⟩ ⟨Z,U⟩ (fun _=>Z) ?_)
    rintro ⟨a19,b20⟩ q21 H hq21
    replace H:y4r n2 blockSize16 a19 b20=some q21:=H
    unfold y4r at H
    refine ze (zb hN Z (qd Z (qd Z (za (wy Z Z) (zf _ Z (fun h22 => ?_) (fun h22 => ?_))))))
    ·refine tE h22 H fun H=>?_
     cases H
    ·refine fE h22 H fun H=>yr ?_
     replace H:=outl H hq21
     exact ⟨a19,H,⟨Z,Z,Z,Z,Z,U⟩,⟨Z,U⟩⟩
   ·rintro a23 H
    replace H:y04 n2 blockSize16 a23=some q17:=H
    unfold y04 at H
    refine yb (ι:=Unit) (fun i=>[(0,.row 0 data12.length),(1,.dat (vint n2)),(2,.dat (vfn fv2 us2)),(6,.dat (vint blockSize16))]) (fun i=>[(0,.rowA (A.vl 0) 112 2 (List.map yw r13))]) (fun i=>y03 blockSize16=some q17) (fun i=>Z) ?_ ?_
    ·skip
     refine zb hN Z (qd Z (qd Z (za (yj _ Z Z (.inl ⟨Z,Z⟩)) (qe Z (zb hN Z (qd Z (qd Z (za (zy Z Z) (zf _ Z (fun h24 => ?_) (fun h24 => ?_))))))))))
     ·refine tE h24 H fun H=>?_
      cases H
     ·exact fE h24 H fun H=>zl ⟨(),H,⟨Z,Z,Z,Z,U⟩,⟨Z,U⟩⟩
    ·rintro ⟨⟩ H
     replace H:y03 blockSize16=some q17:=H
     unfold y03 at H
     exact zn hN Z (qd Z (za (yj _ Z Z (.inr (.inr ⟨Z,Z⟩))) (qe Z ⟨_,yx H,⟨Z,Z,Z,Z,U⟩,⟨Z,U⟩⟩)))
  ·refine fE h18 H fun H=>yr ?_
   replace H:=retl H hq17
   have eH:r13=r:=Option.some.inj H
   subst eH
   exact ⟨U,[],U,⟨Z,U⟩,Z,.inl ⟨[],U,Z⟩⟩
theorem w0i (x1:(List zo)) (p1:zo→zo→Option (Int)) (fv1:Nat) (us1:List V) (hp1:∀ a0 a1 r,p1 a0 a1=some r→Fn Tryz.prog fv1 ([vagg (yw a0),vagg (yw a1)]++us1) (zu [vint r])) (r:((List zo))) (H:z7w x1 p1=some r):FnG Tryz.prog 102 [.row 0 x1.length,.dat (vfn fv1 us1)] [(0,.rowA undef 112 2 (List.map yw x1))] (.dat (zu [])) [(0,.rowA undef 112 2 (List.map yw r))]:=by
 refine kv (by kernel_rfl) Tryz.func102 Z Z Z Z fun X A hN => ?_
 unfold z7w at H
 refine zn hN Z (za (zd (.row _ _) Z) (za (zd (.row _ _) Z) (zm (y89 xr Z Z) Z (qd Z (bE H fun r2 h3 H=>gE H fun h4 H=>wx (rn [(0,0)]) [(0,_,_,some _)] [] (w0g x1 (x1.length:Int) p1 fv1 us1 hp1 r2 h3) ⟨Z,U⟩ ⟨.inl (.inl Z),.inl (.inl Z),.inl (.inl Z),U⟩ ⟨⟨⟨Z,Z,Z⟩,by simp [ue,h4]⟩,U⟩ Z ?_)))))
 have eH:r2=r:=Option.some.inj H
 subst eH
 exact ⟨U,[],U,⟨Z,U⟩,Z,.inl ⟨[],U,Z⟩⟩
theorem w10 (a1:zo) (b2:zo) (r:(Int)) (H:z4m a1 b2=some r):Fn Tryz.prog 103 [vagg (yw a1),vagg (yw b2)] (zu [vint r]):=by
 refine ⟨by kernel_rfl,yg (us:=[vint r]) Tryz.func103 Z Z Z Z fun X hN => ?_⟩
 unfold z4m at H
 refine zb hN Z (zj (we 1 Z) Z (zj (we 2 Z) Z (qe Z (ze (zb hN Z (za (zq xe Z) (zm (zv tyS9 Z Z) Z (za (zq xe Z) (zm (zv tyS9 Z Z) Z (za (ja Z Z) (zf _ Z (fun h3 => ?_) (fun h3 => ?_))))))))))))
 ·refine tE h3 H fun H=>zb hN Z (za (zq xe Z) (zm (zv tyS9 Z Z) Z (za (zq xe Z) (zm (zv tyS9 Z Z) Z (bE H fun r4 h5 H=>za (zk (y2f a1.Name b2.Name r4 h5) ⟨.inl Z,.inl Z,U⟩) (qe Z (zi ?_)))))))
  cases H
  exact ⟨U,.inl Z,U⟩
 ·refine fE h3 H fun H=>zl (zb hN Z (za (zq Qo Z) (zm (zv tyS9 Z Z) Z (za (zq Qo Z) (zm (zv tyS9 Z Z) Z (bE H fun r6 h7 H=>za (zk (y2f a1.Value b2.Value r6 h7) ⟨.inl Z,.inl Z,U⟩) (qe Z (zi ?_))))))))
  cases H
  exact ⟨U,.inl Z,U⟩
theorem x2d (s1:Bs) (r:(Bs)) (H:z4h s1=some r):Fn Tryz.prog 162 [vstr s1] (zu [vstr r]):=by
 refine ⟨by kernel_rfl,yg (us:=[vstr r]) Tryz.func162 Z Z Z Z fun X hN => ?_⟩
 unfold z4h at H
 refine zb hN Z (qe Z (zb hN Z (qe Z (ze (zb hN Z (qd Z (za (yz tyU9 Z) (qd Z (zx (vp 3 1 5 1 Z Z Z (gE H fun h5 H=>qv (fun (k3:Nat) (s:(List Int))=>[(0,.dat (vstr s1)),(3,.row 1 s.length),(6,.dat (vint (s1.length:Int))),(7,.dat (vint (k3:Int)))]) (fun (k3:Nat) (s:(List Int))=>[(1,.row 5 1 (List.map qn s))]) [] H ⟨Z,Z,Z,Z,U⟩ ⟨Z,U⟩ (fun _ _=>Z) ?_ ?_)))))))))))
 ·rintro l2 H
  replace H:z5j l2=some r:=H
  unfold z5j at H
  refine zb hN Z (za (zy Z Z) (ze (zf _ Z (fun h=>(lt_t h).elim) (fun h => ?_))))
  refine yr (ze (Zj 3 1 Z Z Z (zn hN Z (qd Z (za (y0y (C:=qn) Qm tyU5 tyU9 (fun _=>Z) Z) (qe Z (zi ?_)))))))
  cases H
  exact ⟨U,.inl Z,U⟩
 ·rintro k3 x6 l2 q4 h7 h8 H hq4
  replace H:z1s k3 x6 l2=some q4:=H
  unfold z1s at H
  refine zb hN Z (za (zy Z Z) (ze (zf _ Z (fun h => ?_) (fun h=>(lt_f h7 h).elim))))
  refine zl (yb (ι:=(List Int)) (fun i=>[(0,.dat (vstr s1)),(3,.row 1 i.length),(6,.dat (vint (s1.length:Int))),(7,.dat (vint (k3:Int)))]) (fun i=>[(1,.row 5 1 (List.map qn i))]) (fun i=>z1t i=some q4) (fun i=>Z) ?_ ?_)
  ·skip
   refine zx (zb hN Z (qd Z (qe Z (zx (zb hN Z (qd Z (qd Z (za (wb tyU9 Z Z h8) (za (ql Z Z) (qe Z (zf _ Z (fun h9 => ?_) (fun h9 => ?_))))))))))))
   ·refine tE h9 H fun H=>zn hN Z (za (zd (.row _ _) Z) (za (ya (u':=vlst (List.map qn [43])) (yo [[_]] Zi ⟨Z,.inl ⟨_,Z,Z,Z⟩,Z,U⟩ Z Z) Z) (gE H fun h10 H=>zj (va Zi (fun _=>Z) Z Z Z ⟨by simp,by first | (simp; done) | simpa using h10⟩ Z) Z ?_)))
    exact za (qr (.row _ _) Z) ⟨(l2++[43]),H,⟨Z,Z,Z,Z,U⟩,⟨Z,U⟩⟩
   ·refine fE h9 H fun H=>zb hN Z (qd Z (qd Z (za (wb tyU9 Z Z h8) (bE H fun r11 h12 H=>za (zk (y2e [97,98,99,100,101,102,103,104,105,106,107,108,109,110,111,112,113,114,115,116,117,118,119,120,121,122,65,66,67,68,69,70,71,72,73,74,75,76,77,78,79,80,81,82,83,84,85,86,87,88,89,90,48,49,50,51,52,53,54,55,56,57,45,46,95,126] (x6.toNat:Int) r11 h12) ⟨.inl Z,.inl Z,U⟩) (za (wz Z Z) (qe Z (zf _ Z (fun h13 => ?_) (fun h13 => ?_))))))))
    ·refine tE h13 H fun H=>zn hN Z (za (zd (.row _ _) Z) (qd Z (qd Z (za (wb tyU9 Z Z h8) (za (ya (u':=vlst (List.map qn [(x6.toNat:Int)])) (yo [[_]] Zi ⟨Z,.inl ⟨_,Z,Z,Z⟩,Z,U⟩ Z Z) Z) (gE H fun h14 H=>zj (va Zi (fun _=>Z) Z Z Z ⟨by simp,by first | (simp; done) | simpa using h14⟩ Z) Z ?_))))))
     exact za (qr (.row _ _) Z) ⟨(l2++[(x6.toNat:Int)]),H,⟨Z,Z,Z,Z,U⟩,⟨Z,U⟩⟩
    ·refine fE h13 H fun H=>zn hN Z (za (zd (.row _ _) Z) (qd Z (qd Z (za (wb tyU9 Z Z h8) (bE H fun r15 h16 H=>za (zk (x2h (x6.toNat:Int) r15 h16) ⟨.inl Z,U⟩) (gE H fun h17 H=>zj (y9c (C:=qn) (fun _=>Z) (show tyB8 Tryz.prog 129 9 5 from ⟨by kernel_rfl,by kernel_rfl,by kernel_rfl⟩) Z Z Z h17) Z ?_))))))
     exact za (qr (.row _ _) Z) ⟨(l2++yn r15),H,⟨Z,Z,Z,Z,U⟩,⟨Z,U⟩⟩
  ·rintro out18 H
   replace H:z1t out18=some q4:=H
   unfold z1t at H
   exact zn hN Z (za (qo Z Z (by omega)) (qd Z ⟨_,yx H,⟨Z,Z,Z,Z,U⟩,⟨Z,U⟩⟩))
theorem w1y (l1:(List zo)) (r:(Bs×Int)) (H:z4l l1=some r):Fn Tryz.prog 105 [vlst (List.map yw l1)] (zu [vstr r.1,vint r.2]):=by
 refine ⟨by kernel_rfl,yg (us:=[vstr r.1,vint r.2]) Tryz.func105 Z Z Z Z fun X hN => ?_⟩
 unfold z4l at H
 refine zb hN Z (qe Z (qe Z (ze (zb hN Z (qd Z (za (qi xr Z) (za (wg Z Z) (zf _ Z (fun h2 => ?_) (fun h2 => ?_)))))))))
 ·refine tE h2 H fun H=>zb hN Z (qe Z (qe Z (zi ?_)))
  cases H
  exact ⟨U,.inl Z,.inl Z,U⟩
 ·refine fE h2 H fun H=>zl (zb hN Z (qe Z (ze (zb hN Z (qd Z (za (qi xr Z) (qd Z (zx (vp 4 1 9 1 Z Z Z (gE H fun h6 H=>qv (fun (k4:Nat) (s:(List Bs))=>[(4,.row 1 s.length),(11,.dat (vlst (List.map yw l1))),(12,.dat (vint (l1.length:Int))),(13,.dat (vint (k4:Int)))]) (fun (k4:Nat) (s:(List Bs))=>[(1,.row 9 1 (List.map zp s))]) [] H ⟨Z,Z,Z,Z,U⟩ ⟨Z,U⟩ (fun _ _=>Z) ?_ ?_))))))))))
  ·rintro l3 H
   replace H:y62 l3=some r:=H
   unfold y62 at H
   refine zb hN Z (za (zy Z Z) (ze (zf _ Z (fun h=>(lt_t h).elim) (fun h => ?_))))
   refine yr (ze (Zj 4 1 Z Z Z (zn hN Z (qd Z (bE H fun r8 h9 H=>za (zk (z41 l3 [38] r8 h9) ⟨.inl Z,.inl Z,U⟩) (qe Z (ze (zb hN Z (qd Z (za (yz tyU9 Z) (za (wg Z Z) (zf _ Z (fun h10 => ?_) (fun h10 => ?_)))))))))))))
   ·refine tE h10 H fun H=>zb hN Z (qe Z (qe Z (zi ?_)))
    cases H
    exact ⟨U,.inl Z,.inl Z,U⟩
   ·refine fE h10 H fun H=>zl (zb hN Z (qd Z (qe Z (qe Z (zi ?_)))))
    cases H
    exact ⟨U,.inl Z,.inl Z,U⟩
  ·rintro k4 x7 l3 q5 h11 h12 H hq5
   replace H:y27 k4 x7 l3=some q5:=H
   unfold y27 at H
   refine zb hN Z (za (zy Z Z) (ze (zf _ Z (fun h => ?_) (fun h=>(lt_f h11 h).elim))))
   refine zl (ze (zx (zb hN Z (za (wc ut (fun _=>Z) Z Z h12) (za (kh jt Z (qk h12) Z) (zj (qu 2 Qk Z) Z (zj (qm jt Z Z Z Z) Z (ze (zb hN Z (za (zq xe Z) (zm (zv tyS9 Z Z) Z (za (vg Z Z) (qd Z (wd Z Z (fun hc=>zq Qo Z) (x77 Z Z (fun hc=>zv tyS9 (cnd (c:=(decide (x7.Name=[]))) hc) Z) Z js (wd Z Z (fun hc=>vg (cnd (c:=(decide (x7.Name=[]))) hc) Z) (za (vd Z (fun hb=>(cnd (c:=(decide (x7.Name=[]))) hb)) Z) (zf _ Z (fun h13 => ?_) (fun h13 => ?_)))))))))))))))))))
   ·refine tE h13 H fun H=>zb hN Z (qe Z (qe Z (zi ?_)))
    replace H:=retl H hq5
    cases H
    exact ⟨U,.inl Z,.inl Z,U⟩
   ·refine fE h13 H fun H=>zl (vf mixed hN Z Z (za (zd (.row _ _) Z) (za (zq xe Z) (zm (zv tyS9 Z Z) Z (bE H fun r14 h15 H=>za (zk (x2d x7.Name r14 h15) ⟨.inl Z,U⟩) (gE H fun h16 H=>za (jb Z Z (Nat.le_trans h16 (by decide))) (za (zq Qo Z) (zm (zv tyS9 Z Z) Z (bE H fun r17 h18 H=>za (zk (x2d x7.Value r17 h18) ⟨.inl Z,U⟩) (gE H fun h19 H=>za (jb Z Z (Nat.le_trans h19 (by decide))) (za (ya (u':=vlst (List.map zp [((r14++[61])++r17)])) (yo [[_]] qf ⟨Z,.inl ⟨_,Z,Z,Z⟩,Z,U⟩ Z Z) Z) (gE H fun h20 H=>zj (va qf (fun _=>Z) Z Z Z ⟨by simp,by first | (simp; done) | simpa using h20⟩ Z) Z ?_))))))))))))
    refine za (qr (.row _ _) Z) ⟨Z,?_⟩
    exact zn hN Z (za (qo Z Z (by omega)) (qd Z ⟨_,yx H,⟨Z,Z,Z,Z,U⟩,⟨Z,U⟩⟩))
theorem y6j (v1:zw) (r:(zw×Int)) (H:Zu v1=some r):Fn Tryz.prog 56 [vagg (qs v1)] (zu [vagg (qs r.1),vint r.2]):=by
 refine ⟨by kernel_rfl,yg (us:=[vagg (qs r.1),vint r.2]) Tryz.func56 Z Z Z Z fun X hN => ?_⟩
 unfold Zu at H
 refine zb hN Z (zj (we 1 Z) Z (zj (qu 2 vt Z) Z (qe Z (ze (zb hN Z (zm (yq yp Z Z Z) Z (bE H fun r2 h3 H=>za (zk (y2m v1 r2 h3) ⟨.inl Z,U⟩) (qe Z (zb hN Z (qd Z (za (qj Z Z) (zf _ Z (fun h4 => ?_) (fun h4 => ?_)))))))))))))
 ·refine tE h4 H fun H=>zb hN Z (za (xv (u':=vagg (qs (zw.mk 0 [] [] [] [] [] [] []))) (Zh (by exact ⟨ym,ym,ym,ym,ym,ym,ua,ym,U⟩)) (vh [] vt Yg Z U)) ?_)
  refine qd Z (zj (qm yp Z Z Z Z) Z (qe Z (zi ?_)))
  cases H
  exact ⟨U,.inl ⟨_,_,_,qs (zw.mk 0 [] [] [] [] [] [] []),Z,Z,Z,Z,yp⟩,.inl Z,U⟩
 ·refine fE h4 H fun H=>zl (zb hN Z (zm (yq yp Z Z Z) Z (zj (qu 3 vt Z) Z (zj (qm yp Z Z Z Z) Z (zb hN Z (qe Z (zb hN Z (za (zq ur Z) (zm (zv tyS9 Z Z) Z (bE H fun r5 h6 H=>za (zk (x2m v1.Host r5 h6) ⟨.inl Z,U⟩) (qd Z (za (zz Z Z) (za (zz Z Z) (za (zq ur Z) (zj (vu tyS9 Z Z Z Z) Z (ze (zb hN Z (za (zq uq Z) (zm (zv tyS9 Z Z) Z (bE H fun r7 h8 H=>za (zk (w1z v1.Path r7 h8) ⟨.inl Z,U⟩) ?_))))))))))))))))))))
  refine qd Z (za (zz Z Z) (za (zz Z Z) (za (zq uq Z) (zj (vu tyS9 Z Z Z Z) Z (qe Z (zb hN Z (qd Z (za (qj Z Z) (zf _ Z (fun h9 => ?_) (fun h9 => ?_))))))))))
  ·refine tE h9 H fun H=>zb hN Z (za (xv (u':=vagg (qs (zw.mk 0 [] [] [] [] [] [] []))) (Zh (by exact ⟨ym,ym,ym,ym,ym,ym,ua,ym,U⟩)) (vh [] vt Yg Z U)) ?_)
   refine qd Z (zj (qm yp Z Z Z Z) Z (qe Z (zi ?_)))
   cases H
   exact ⟨U,.inl ⟨_,_,_,qs (zw.mk 0 [] [] [] [] [] [] []),Z,Z,Z,Z,yp⟩,.inl Z,U⟩
  ·refine fE h9 H fun H=>zl (zb hN Z (za (zq uo Z) (zm (zv tyS9 Z Z) Z (bE H fun r10 h11 H=>wx (rn [(900,4)]) [] [(900,_)] (w0r v1.Query r10 h11) ⟨Z,U⟩ ⟨.inl (.inl Z),U⟩ U Z (za (zd (.comp _ _) Z) (za (y0x Z Z) (za (y0x Z Z) (za (qr (.row _ _) Z) (qe Z (ze (zb hN Z (qd Z (za (qj Z Z) (zf _ Z (fun h12 => ?_) (fun h12 => ?_)))))))))))))))
   ·refine tE h12 H fun H=>zb hN Z (za (xv (u':=vagg (qs (zw.mk 0 [] [] [] [] [] [] []))) (Zh (by exact ⟨ym,ym,ym,ym,ym,ym,ua,ym,U⟩)) (vh [] vt Yg Z U)) ?_)
    refine qd Z (zj (qm yp Z Z Z Z) Z (qe Z (zi ?_)))
    cases H
    exact ⟨U,.inl ⟨_,_,_,qs (zw.mk 0 [] [] [] [] [] [] []),Z,Z,Z,Z,yp⟩,.inl Z,U⟩
   ·refine fE h12 H fun H=>zl (zb hN Z (za (zd (.row _ _) Z) (bE H fun r13 h14 H=>wx (rn [(0,4),(900,5)]) [(0,_,_,none)] [(900,_)] (x1c r10.1 (fun (a0:zo)=>z1g a0) 101 [] (fun a0 r h=>w11 a0 r h) r13 h14) ⟨Z,Z,U⟩ ⟨.inl (.inl Z),.inr ⟨_,Z,Z⟩,U⟩ ⟨⟨⟨Z,Z,Z⟩,U⟩,U⟩ Z (za (qr (.row _ _) Z) (zb hN Z (za (zd (.row _ _) Z) (bE H fun r15 h16 H=>gE H fun h17 H=>wx (rn [(0,5)]) [(0,_,_,some _)] [] (w0i r13 (fun (a0:zo) (a1:zo)=>z4m a0 a1) 103 [] (fun a0 a1 r h=>w10 a0 a1 r h) r15 h16) ⟨Z,U⟩ ⟨.inl (.inl Z),.inr ⟨_,Z,Z⟩,U⟩ ⟨⟨⟨Z,Z,Z⟩,by simp [ue,h17]⟩,U⟩ Z ?_)))))))
    refine ze (ze (Zj 7 5 Z Z (h17).symm (zn hN Z (qd Z (bE H fun r18 h19 H=>za (zk (w1y r15 r18 h19) ⟨.inl Z,U⟩) (qd Z (za (zz Z Z) (za (zz Z Z) (za (zq uo Z) (zj (vu tyS9 Z Z Z Z) Z (qe Z (zb hN Z (qd Z (za (qj Z Z) (zf _ Z (fun h20 => ?_) (fun h20 => ?_))))))))))))))))
    ·refine tE h20 H fun H=>zb hN Z (za (xv (u':=vagg (qs (zw.mk 0 [] [] [] [] [] [] []))) (Zh (by exact ⟨ym,ym,ym,ym,ym,ym,ua,ym,U⟩)) (vh [] vt Yg Z U)) ?_)
     refine qd Z (zj (qm yp Z Z Z Z) Z (qe Z (zi ?_)))
     cases H
     exact ⟨U,.inl ⟨_,_,_,qs (zw.mk 0 [] [] [] [] [] [] []),Z,Z,Z,Z,yp⟩,.inl Z,U⟩
    ·refine fE h20 H fun H=>zl (zb hN Z (za (zq uc Z) (zm (zv tyS9 Z Z) Z (bE H fun r21 h22 H=>za (zk (x1g v1.Method r21 h22) ⟨.inl Z,U⟩) (za (zq uc Z) (zj (vu tyS9 Z Z Z Z) Z (zb hN Z (za (zq vz Z) (zj (vu wu Z Z Z Z) Z (ze (zb hN Z (za (zq vz Z) (zm (zv wu Z Z) Z (za (qi xc Z) (qd Z (zx (z6r 3 6 6 62 2 Z Z Z Z (gE H fun h26 H=>qv (fun (k24:Nat) (s:(List zt))=>[(2,.ptr 2 0),(5,.ptr 3 0),(65,.dat (vlst (List.map yd v1.Headers))),(66,.dat (vint (v1.Headers.length:Int))),(67,.dat (vint (k24:Int)))]) (fun (k24:Nat) (s:(List zt))=>[(2,.box none 28 [.dat (vint 0),.dat (vstr []),.dat (vstr []),.dat (vstr []),.dat (vstr []),.dat (vstr []),.dat (vnil),.dat (vstr [])]),(3,.box none 28 [.dat (vint v1.At),.dat (vstr r21),.dat (vstr r5.1),.dat (vstr r7.1),.dat (vstr r18.1),.dat (vstr v1.From),.row 6 s.length,.dat (vstr v1.Body)]),(6,.row 62 2 (List.map yd s))]) ([]:List zt) H ⟨Z,Z,Z,Z,Z,U⟩ ⟨Z,(congrArg (fun n=>some (some (AObj.box none 28 [.dat (vint v1.At),.dat (vstr r21),.dat (vstr r5.1),.dat (vstr r7.1),.dat (vstr r18.1),.dat (vstr v1.From),.row 6 n,.dat (vstr v1.Body)]))) (show 0=([]:List zt).length from (by simp))),Z,U⟩ (fun _ _=>Z) ?_ ?_))))))))))))))))))
     ·rintro l23 H
      replace H:y28 v1 r5 r7 r18 r21 l23=some r:=H
      unfold y28 at H
      refine zb hN Z (za (zy Z Z) (ze (zf _ Z (fun h=>(lt_t h).elim) (fun h => ?_))))
      refine yr (ze (z9y 3 6 6 Z Z Z (by rw [List.length_map]) ?_))
      refine zn hN Z (zm (yq yp Z Z Z) Z (zj (qm yp Z Z Z Z) Z (qe Z (zi ?_))))
      cases H
      exact ⟨U,.inl ⟨_,_,_,qs (zw.mk v1.At r21 r5.1 r7.1 r18.1 v1.From l23 v1.Body),Z,Z,Z,Z,yp⟩,.inl Z,U⟩
     ·rintro k24 x27 l23 q25 h28 h29 H hq25
      replace H:z13 k24 x27 l23=some q25:=H
      unfold z13 at H
      refine vi (zb hN Z (za (zy Z Z) (ze (zf _ Z (fun h => ?_) (fun h=>(lt_f h28 h).elim)))))
      refine zl (ze (zx (zb hN Z (za (wc Yi (fun _=>Z) Z Z h29) (za (kh jx Z (qk h29) Z) (zj (qu 7 kl Z) Z (zj (qm jx Z Z Z Z) Z (vf mixed hN Z Z (za (zq vz Z) (zm (zv wu Z Z) Z (za (zq Yh Z) (zm (zv tyS9 Z Z) Z (bE H fun r30 h31 H=>za (zk (Yw x27.Name r30 h31) ⟨.inl Z,U⟩) (za (zq z0i Z) (zm (zv tyS9 Z Z) Z (za (ya (u':=vagg (yd (zt.mk r30 x27.Value))) (vh [(0,[vstr r30]),(1,[vstr x27.Value])] kl z0h Z ⟨Z,.inl ⟨_,Z,Z,Z⟩,Z,Z,.inl ⟨_,Z,Z,Z⟩,Z,U⟩) Z) (za (ya (u':=vlst (List.map yd [(zt.mk r30 x27.Value)])) (yo [_] kn ⟨Z,.inr Z,Z,U⟩ Z Z) Z) (gE H fun h32 H=>zj (va kn (fun _=>Z) Z Z Z ⟨by simp,by first | (simp; done) | simpa using h32⟩ Z) Z ?_))))))))))))))))))
      refine za (zq vz Z) (xy (xw wu Z Z (by rw [List.length_map]) Z) Z Z ?_)
      refine ⟨Z,?_⟩
      refine zn hN Z (za (qo Z Z (by omega)) (qd Z (vo ?_)))
      show Cv _ _ _ _
      exact vr ⟨_,yx H,⟨Z,Z,Z,Z,Z,U⟩,⟨Z,Z,Z,U⟩⟩
theorem w1v (n1:Bs) (c2:zw) (c3:zw) (r:(Bool)) (H:Wj n1 c2 c3=some r):Fn Tryz.prog 58 [vstr n1,wv [[vint c2.At,vstr c2.Method,vstr c2.Host,vstr c2.Path,vstr c2.Query,vstr c2.From,vlst (List.map yd c2.Headers),vstr c2.Body]] 0 0,wv [[vint c3.At,vstr c3.Method,vstr c3.Host,vstr c3.Path,vstr c3.Query,vstr c3.From,vlst (List.map yd c3.Headers),vstr c3.Body]] 0 0] (zu [zh r]):=by
 refine ⟨by kernel_rfl,yg (us:=[zh r]) Tryz.func58 Z Z Z Z fun X hN => ?_⟩
 unfold Wj at H
 refine zb hN Z (qe Z (ze (vf mixed hN Z Z (za (z3d vz Z) (za (qz wu Z Z Z) (qd Z (bE H fun r4 h5 H=>za (zk (y2l c2.Headers n1 r4 h5) ⟨.inl Z,.inl Z,U⟩) (za (z3d vz Z) (za (qz wu Z Z Z) (qd Z (bE H fun r6 h7 H=>za (zk (y2l c3.Headers n1 r6 h7) ⟨.inl Z,.inl Z,U⟩) (bE H fun r8 h9 H=>za (zk (x1m r4 r6 r8 h9) ⟨.inl Z,.inl Z,U⟩) (za (yy Z) (qe Z ⟨Z,?_⟩))))))))))))))
 refine zi ?_
 cases H
 exact ⟨U,.inl Z,U⟩
theorem x2k (v1:yc) (v2:zw) (r:(Bool×Int)) (H:Wl v1 v2=some r):Fn Tryz.prog 17 [vagg (qy v1),vagg (qs v2)] (zu [zh r.1,vint r.2]):=by
 refine ⟨by kernel_rfl,yg (us:=[zh r.1,vint r.2]) Tryz.func17 Z Z Z Z fun X hN => ?_⟩
 unfold Wl at H
 refine zb hN Z (zj (we 1 Z) Z (zj (we 2 Z) Z (qe Z (qe Z (zb hN Z (za (zq un Z) (zm (yq yp Z Z Z) Z (bE H fun r3 h4 H=>za (zk (y6j v1.Request r3 h4) ⟨.inl Z,U⟩) (qd Z (za (zz Z Z) (za (zz Z Z) (zj (qu 3 vt Z) Z (zj (qm yp Z Z Z Z) Z (qe Z (ze (zb hN Z (qd Z (za (qj Z Z) (zf _ Z (fun h5 => ?_) (fun h5 => ?_))))))))))))))))))))
 ·refine tE h5 H fun H=>zb hN Z (qd Z (qe Z (qe Z (zi ?_))))
  cases H
  exact ⟨U,.inl Z,.inl Z,U⟩
 ·refine fE h5 H fun H=>zl (zb hN Z (zm (yq yp Z Z Z) Z (bE H fun r6 h7 H=>za (zk (y6j v2 r6 h7) ⟨.inl Z,U⟩) (qd Z (za (zz Z Z) (za (zz Z Z) (zj (qu 4 vt Z) Z (zj (qm yp Z Z Z Z) Z (qe Z (ze (zb hN Z (qd Z (za (qj Z Z) (zf _ Z (fun h8 => ?_) (fun h8 => ?_)))))))))))))))
  ·refine tE h8 H fun H=>zb hN Z (qd Z (qe Z (qe Z (zi ?_))))
   cases H
   exact ⟨U,.inl Z,.inl Z,U⟩
  ·refine fE h8 H fun H=>zl (zb hN Z (za (zq um Z) (zm (yq ub Z Z Z) Z (bE H fun r9 h10 H=>za (zk (x2j v1.Response r9 h10) ⟨.inl Z,U⟩) (qd Z (za (zz Z Z) (za (zz Z Z) (za (zz Z Z) (qe Z (qe Z (qe Z (ze (zb hN Z (qd Z (qd Z (yl Z Z (fun hc=>zq ur Z) (uf Z Z (fun hc=>zv tyS9 (cnd (c:=(!r9.2.1)) hc) Z) Z js (yl Z Z (fun hc=>zq ur Z) (uf Z Z (fun hc=>zv tyS9 (cnd (c:=(!r9.2.1)) hc) Z) Z js (yl Z Z (fun hc=>ja (cnd (c:=(!r9.2.1)) hc) (cnd (c:=(!r9.2.1)) hc)) (za (ww Z Z (fun hb=>(cnd (c:=(!r9.2.1)) (notI hb)))) ?_)))))))))))))))))))))
   refine qd Z (yl Z Z (fun hc=>zq uq Z) (uf Z Z (fun hc=>zv tyS9 (cnd (c:=(!(r9.2.1 || (decide (r3.1.Host≠r6.1.Host))))) hc) Z) Z js (yl Z Z (fun hc=>zq uq Z) (uf Z Z (fun hc=>zv tyS9 (cnd (c:=(!(r9.2.1 || (decide (r3.1.Host≠r6.1.Host))))) hc) Z) Z js (yl Z Z (fun hc=>ja (cnd (c:=(!(r9.2.1 || (decide (r3.1.Host≠r6.1.Host))))) hc) (cnd (c:=(!(r9.2.1 || (decide (r3.1.Host≠r6.1.Host))))) hc)) (za (ww Z Z (fun hb=>(cnd (c:=(!(r9.2.1 || (decide (r3.1.Host≠r6.1.Host))))) (notI hb)))) (qd Z (yl Z Z (fun hc=>zq uo Z) (uf Z Z (fun hc=>zv tyS9 (cnd (c:=(!((r9.2.1 || (decide (r3.1.Host≠r6.1.Host))) || (decide (r3.1.Path≠r6.1.Path))))) hc) Z) Z js (yl Z Z (fun hc=>zq uo Z) (uf Z Z (fun hc=>zv tyS9 (cnd (c:=(!((r9.2.1 || (decide (r3.1.Host≠r6.1.Host))) || (decide (r3.1.Path≠r6.1.Path))))) hc) Z) Z js (yl Z Z (fun hc=>ja (cnd (c:=(!((r9.2.1 || (decide (r3.1.Host≠r6.1.Host))) || (decide (r3.1.Path≠r6.1.Path))))) hc) (cnd (c:=(!((r9.2.1 || (decide (r3.1.Host≠r6.1.Host))) || (decide (r3.1.Path≠r6.1.Path))))) hc)) (za (ww Z Z (fun hb=>(cnd (c:=(!((r9.2.1 || (decide (r3.1.Host≠r6.1.Host))) || (decide (r3.1.Path≠r6.1.Path))))) (notI hb)))) (qd Z (yl Z Z (fun hc=>zq uc Z) (uf Z Z (fun hc=>zv tyS9 (cnd (c:=(!(((r9.2.1 || (decide (r3.1.Host≠r6.1.Host))) || (decide (r3.1.Path≠r6.1.Path))) || (decide (r3.1.Query≠r6.1.Query))))) hc) Z) Z js (yl Z Z (fun hc=>zq uc Z) (uf Z Z (fun hc=>zv tyS9 (cnd (c:=(!(((r9.2.1 || (decide (r3.1.Host≠r6.1.Host))) || (decide (r3.1.Path≠r6.1.Path))) || (decide (r3.1.Query≠r6.1.Query))))) hc) Z) Z js (yl Z Z (fun hc=>ja (cnd (c:=(!(((r9.2.1 || (decide (r3.1.Host≠r6.1.Host))) || (decide (r3.1.Path≠r6.1.Path))) || (decide (r3.1.Query≠r6.1.Query))))) hc) (cnd (c:=(!(((r9.2.1 || (decide (r3.1.Host≠r6.1.Host))) || (decide (r3.1.Path≠r6.1.Path))) || (decide (r3.1.Query≠r6.1.Query))))) hc)) (yl Z Z (fun hc=>zd (.dat _) (cnd (c:=(!(((r9.2.1 || (decide (r3.1.Host≠r6.1.Host))) || (decide (r3.1.Path≠r6.1.Path))) || (decide (r3.1.Query≠r6.1.Query))))) hc)) (wl Z Z (fun hc=>zq uc Z) (y45 Z Z (fun hc=>zv tyS9 (cnd (c:=((!(((r9.2.1 || (decide (r3.1.Host≠r6.1.Host))) || (decide (r3.1.Path≠r6.1.Path))) || (decide (r3.1.Query≠r6.1.Query)))) && (decide (r3.1.Method≠r6.1.Method)))) hc) Z) Z js (wl Z Z (fun hc=>ja (cnd (c:=((!(((r9.2.1 || (decide (r3.1.Host≠r6.1.Host))) || (decide (r3.1.Path≠r6.1.Path))) || (decide (r3.1.Query≠r6.1.Query)))) && (decide (r3.1.Method≠r6.1.Method)))) hc) Z) ?_)))))))))))))))))))))))
   refine wl Z Z (fun hc=>zd (.dat _) (cnd (c:=((!(((r9.2.1 || (decide (r3.1.Host≠r6.1.Host))) || (decide (r3.1.Path≠r6.1.Path))) || (decide (r3.1.Query≠r6.1.Query)))) && (decide (r3.1.Method≠r6.1.Method)))) hc)) (z3h Z Z (fun hc=>zq uc Z) (x76 Z Z (fun hc=>zv tyS9 (cnd (c:=(((!(((r9.2.1 || (decide (r3.1.Host≠r6.1.Host))) || (decide (r3.1.Path≠r6.1.Path))) || (decide (r3.1.Query≠r6.1.Query)))) && (decide (r3.1.Method≠r6.1.Method))) && !(decide (r3.1.Method≠[71,69,84])))) hc) Z) Z js (z3h Z Z (fun hc=>ja (cnd (c:=(((!(((r9.2.1 || (decide (r3.1.Host≠r6.1.Host))) || (decide (r3.1.Path≠r6.1.Path))) || (decide (r3.1.Query≠r6.1.Query)))) && (decide (r3.1.Method≠r6.1.Method))) && !(decide (r3.1.Method≠[71,69,84])))) hc) Z) (wl Z Z (fun hc=>ww (cnd (c:=((!(((r9.2.1 || (decide (r3.1.Host≠r6.1.Host))) || (decide (r3.1.Path≠r6.1.Path))) || (decide (r3.1.Query≠r6.1.Query)))) && (decide (r3.1.Method≠r6.1.Method)))) hc) Z (fun hb=>(cnd (c:=(((!(((r9.2.1 || (decide (r3.1.Host≠r6.1.Host))) || (decide (r3.1.Path≠r6.1.Path))) || (decide (r3.1.Query≠r6.1.Query)))) && (decide (r3.1.Method≠r6.1.Method))) && !(decide (r3.1.Method≠[71,69,84])))) (andI hc (notI hb))))) (yl Z Z (fun hc=>vd (cnd (c:=(!(((r9.2.1 || (decide (r3.1.Host≠r6.1.Host))) || (decide (r3.1.Path≠r6.1.Path))) || (decide (r3.1.Query≠r6.1.Query))))) hc) (fun hb=>(cnd (c:=((!(((r9.2.1 || (decide (r3.1.Host≠r6.1.Host))) || (decide (r3.1.Path≠r6.1.Path))) || (decide (r3.1.Query≠r6.1.Query)))) && (decide (r3.1.Method≠r6.1.Method)))) (andI hc hb))) Z) (za (ww Z Z (fun hb=>(cnd (c:=(!(((r9.2.1 || (decide (r3.1.Host≠r6.1.Host))) || (decide (r3.1.Path≠r6.1.Path))) || (decide (r3.1.Query≠r6.1.Query))))) (notI hb)))) (zf _ Z (fun h11 => ?_) (fun h11 => ?_))))))))
   ·refine tE h11 H fun H=>zb hN Z (qe Z (qe Z (zi ?_)))
    cases H
    exact ⟨U,.inl Z,.inl Z,U⟩
   ·refine fE h11 H fun H=>zl (ze (z9z 3 [vint r3.1.At,vstr r3.1.Method,vstr r3.1.Host,vstr r3.1.Path,vstr r3.1.Query,vstr r3.1.From,vlst (List.map yd r3.1.Headers),vstr r3.1.Body] Z Z (z9z 4 [vint r6.1.At,vstr r6.1.Method,vstr r6.1.Host,vstr r6.1.Path,vstr r6.1.Query,vstr r6.1.From,vlst (List.map yd r6.1.Headers),vstr r6.1.Body] Z Z (zn hN Z (qd Z (za (y0w (us:=[_,_]) ⟨Z,Z,U⟩) (bE H fun r12 h13 H=>za (zk (x1n r9.1 (fun (a0:Bs)=>Wj a0 r3.1 r6.1) 58 [wv [[vint r3.1.At,vstr r3.1.Method,vstr r3.1.Host,vstr r3.1.Path,vstr r3.1.Query,vstr r3.1.From,vlst (List.map yd r3.1.Headers),vstr r3.1.Body]] 0 0,wv [[vint r6.1.At,vstr r6.1.Method,vstr r6.1.Host,vstr r6.1.Path,vstr r6.1.Query,vstr r6.1.From,vlst (List.map yd r6.1.Headers),vstr r6.1.Body]] 0 0] (fun a0 r h=>w1v a0 r3.1 r6.1 r h) r12 h13) ⟨.inl Z,.inl Z,U⟩) (za (yy Z) (qe Z (qe Z (zi ?_)))))))))))
    cases H
    exact ⟨U,.inl Z,.inl Z,U⟩
theorem w1w (e1:yc) (r:(Int)) (H:z8f e1=some r):Fn Tryz.prog 18 [vagg (qy e1)] (zu [vint r]):=by
 refine ⟨by kernel_rfl,yg (us:=[vint r]) Tryz.func18 Z Z Z Z fun X hN => ?_⟩
 unfold z8f at H
 refine zb hN Z (zj (we 1 Z) Z (qe Z (zb hN Z (za (zq un Z) (za (zq ur Z) (zm (zv tyS9 Z Z) Z (za (yz tyU9 Z) (za (yj _ Z Z (.inl ⟨Z,Z⟩)) (za (zq un Z) (za (zq uq Z) (zm (zv tyS9 Z Z) Z (za (yz tyU9 Z) (za (yj _ Z Z (.inl ⟨Z,Z⟩)) (za (zq un Z) (za (zq uo Z) (zm (zv tyS9 Z Z) Z (za (yz tyU9 Z) (za (yj _ Z Z (.inl ⟨Z,Z⟩)) (za (zq um Z) (za (zq y0l Z) (zm (zv tyS9 Z Z) Z (za (yz tyU9 Z) (za (yj _ Z Z (.inl ⟨Z,Z⟩)) ?_)))))))))))))))))))))))
 refine qe Z (ze (zb hN Z (za (zq um Z) (za (zq xt Z) (zm (zv wu Z Z) Z (za (qi xc Z) (qd Z (zx (gE H fun h5 H=>qv (fun (k3:Nat) (s:Int)=>[(3,.dat (vint s)),(28,.dat (vlst (List.map yd e1.Response.Headers))),(29,.dat (vint (e1.Response.Headers.length:Int))),(30,.dat (vint (k3:Int)))]) (fun (k3:Nat) (s:Int)=>[]) (wr ((wr ((wr ((wr (100+(e1.Request.Host.length:Int)))+(e1.Request.Path.length:Int)))+(e1.Request.Query.length:Int)))+(e1.Response.Body.length:Int))) H ⟨Z,Z,Z,Z,U⟩ U (fun _ _=>Z) ?_ ?_)))))))))
 ·rintro n2 H
  replace H:y26 n2=some r:=H
  unfold y26 at H
  refine zb hN Z (za (zy Z Z) (ze (zf _ Z (fun h=>(lt_t h).elim) (fun h => ?_))))
  refine yr (zb hN Z (qd Z (qe Z (zi ?_))))
  cases H
  exact ⟨U,.inl Z,U⟩
 ·rintro k3 x6 n2 q4 h7 h8 H hq4
  replace H:y25 k3 x6 n2=some q4:=H
  unfold y25 at H
  refine zb hN Z (za (zy Z Z) (ze (zf _ Z (fun h => ?_) (fun h=>(lt_f h7 h).elim))))
  exact zl (ze (zx (zb hN Z (za (wc Yi (fun _=>Z) Z Z h8) (za (kh jx Z (qk h8) Z) (zj (qu 2 kl Z) Z (zj (qm jx Z Z Z Z) Z (zn hN Z (qd Z (za (zq Yh Z) (zm (zv tyS9 Z Z) Z (za (yz tyU9 Z) (za (zq z0i Z) (zm (zv tyS9 Z Z) Z (za (yz tyU9 Z) (za (yj _ Z Z (.inl ⟨Z,Z⟩)) (za (yj _ Z Z (.inl ⟨Z,Z⟩)) (qe Z (zn hN Z (za (qo Z Z (by omega)) (qd Z ⟨_,yx H,⟨Z,Z,Z,Z,U⟩,U⟩)))))))))))))))))))))
theorem w2s (v1:(List yc)) (v2:zw) (r:(Int×Int)) (H:z8y v1 v2=some r):Fn Tryz.prog 20 [vlst (List.map qy v1),vagg (qs v2)] (zu [vint r.1,vint r.2]):=by
 refine ⟨by kernel_rfl,yg (us:=[vint r.1,vint r.2]) Tryz.func20 Z Z Z Z fun X hN => ?_⟩
 unfold z8y at H
 refine zb hN Z (zj (we 1 Z) Z (qe Z (qe Z (ze (zb hN Z (qd Z (za (qi Ql Z) (za (wg Z Z) (zf _ Z (fun h3 => ?_) (fun h3 => ?_))))))))))
 ·refine tE h3 H fun H=>zb hN Z (qe Z (qe Z (zi ?_)))
  cases H
  exact ⟨U,.inl Z,.inl Z,U⟩
 ·refine fE h3 H fun H=>zl (ze (zb hN Z (qd Z (za (qi Ql Z) (qd Z (zx (gE H fun h6 H=>qv (fun (k4:Nat) (s:Unit)=>[(0,.dat (vlst (List.map qy v1))),(3,.ptr 1 0),(23,.dat (vlst (List.map qy v1))),(24,.dat (vint (v1.length:Int))),(25,.dat (vint (k4:Int)))]) (fun (k4:Nat) (s:Unit)=>[(1,.box none 28 [.dat (vint v2.At),.dat (vstr v2.Method),.dat (vstr v2.Host),.dat (vstr v2.Path),.dat (vstr v2.Query),.dat (vstr v2.From),.dat (vlst (List.map yd v2.Headers)),.dat (vstr v2.Body)])]) () H ⟨Z,Z,Z,Z,Z,U⟩ ⟨Z,U⟩ (fun _ _=>Z) ?_ ?_)))))))
  ·rintro ⟨⟩ H
   replace H:z6q v1 v2=some r:=H
   unfold z6q at H
   refine zb hN Z (za (zy Z Z) (ze (zf _ Z (fun h=>(lt_t h).elim) (fun h => ?_))))
   refine yr (ze (zb hN Z (zm (yq yp Z Z Z) Z (bE H fun r8 h9 H=>za (zk (y2j v2 r8 h9) ⟨.inl Z,U⟩) (qe Z (zb hN Z (qd Z (za (qj Z Z) (zf _ Z (fun h10 => ?_) (fun h10 => ?_))))))))))
   ·refine tE h10 H fun H=>zb hN Z (qd Z (qe Z (qe Z (zi ?_))))
    cases H
    exact ⟨U,.inl Z,.inl Z,U⟩
   ·refine fE h10 H fun H=>zl (zb hN Z (qe Z (ze (zb hN Z (qd Z (za (qi Ql Z) (qd Z (zx (vp 10 2 28 8 Z Z Z (gE H fun h14 H=>qv (fun (k12:Nat) (s:(List zw))=>[(0,.dat (vlst (List.map qy v1))),(3,.ptr 1 0),(10,.row 2 s.length),(40,.dat (vlst (List.map qy v1))),(41,.dat (vint (v1.length:Int))),(42,.dat (vint (k12:Int)))]) (fun (k12:Nat) (s:(List zw))=>[(1,.box none 28 [.dat (vint v2.At),.dat (vstr v2.Method),.dat (vstr v2.Host),.dat (vstr v2.Path),.dat (vstr v2.Query),.dat (vstr v2.From),.dat (vlst (List.map yd v2.Headers)),.dat (vstr v2.Body)]),(2,.row 28 8 (List.map qs s))]) [] H ⟨Z,Z,Z,Z,Z,Z,U⟩ ⟨Z,Z,U⟩ (fun _ _=>Z) ?_ ?_))))))))))
    ·rintro l11 H
     replace H:z2w v1 v2 l11=some r:=H
     unfold z2w at H
     refine zb hN Z (za (zy Z Z) (ze (zf _ Z (fun h=>(lt_t h).elim) (fun h => ?_))))
     refine yr (zb hN Z (zm (yq yp Z Z Z) Z (bE H fun r16 h17 H=>za (zk (y2h v2 r16 h17) ⟨.inl Z,U⟩) (qd Z (za (zz Z Z) (za (zz Z Z) (zj (qu 3 vt Z) Z (zj (qm yp Z Z Z Z) Z (qe Z (ze (zb hN Z (qd Z (za (qj Z Z) (zf _ Z (fun h18 => ?_) (fun h18 => ?_)))))))))))))))
     ·refine tE h18 H fun H=>zb hN Z (qd Z (qe Z (qe Z (zi ?_))))
      cases H
      exact ⟨U,.inl Z,.inl Z,U⟩
     ·refine fE h18 H fun H=>zl (zb hN Z (qe Z (ze (zb hN Z (qd Z (za (qi Ql Z) (qd Z (zx (gE H fun h22 H=>qv (fun (k20:Nat) (s:Int)=>[(0,.dat (vlst (List.map qy v1))),(10,.row 2 l11.length),(15,.ptr 3 0),(17,.dat (vint s)),(68,.dat (vlst (List.map qy v1))),(69,.dat (vint (v1.length:Int))),(70,.dat (vint (k20:Int)))]) (fun (k20:Nat) (s:Int)=>[(2,.row 28 8 (List.map qs l11)),(3,.box none 28 [.dat (vint r16.1.At),.dat (vstr r16.1.Method),.dat (vstr r16.1.Host),.dat (vstr r16.1.Path),.dat (vstr r16.1.Query),.dat (vstr r16.1.From),.dat (vlst (List.map yd r16.1.Headers)),.dat (vstr r16.1.Body)])]) (-1) H ⟨Z,Z,Z,Z,Z,Z,Z,U⟩ ⟨Z,Z,U⟩ (fun _ _=>Z) ?_ ?_)))))))))
      ·rintro v19 H
       replace H:z9v v19=some r:=H
       unfold z9v at H
       refine zb hN Z (za (zy Z Z) (ze (zf _ Z (fun h=>(lt_t h).elim) (fun h => ?_))))
       refine yr (ze (zb hN Z (qd Z (za (zy Z Z) (zf _ Z (fun h24 => ?_) (fun h24 => ?_))))))
       ·refine tE h24 H fun H=>zb hN Z (qe Z (qe Z (zi ?_)))
        cases H
        exact ⟨U,.inl Z,.inl Z,U⟩
       ·refine fE h24 H fun H=>zl (zb hN Z (qd Z (qe Z (qe Z (zi ?_)))))
        cases H
        exact ⟨U,.inl Z,.inl Z,U⟩
      ·rintro k20 x23 v19 q21 h25 h26 H hq21
       replace H:z6o v1 l11 r16 k20 x23 v19=some q21:=H
       unfold z6o at H
       refine zb hN Z (za (zy Z Z) (ze (zf _ Z (fun h => ?_) (fun h=>(lt_f h25 h).elim))))
       refine zl (yb (ι:=Int) (fun i=>[(0,.dat (vlst (List.map qy v1))),(10,.row 2 l11.length),(15,.ptr 3 0),(17,.dat (vint i)),(68,.dat (vlst (List.map qy v1))),(69,.dat (vint (v1.length:Int))),(70,.dat (vint (k20:Int)))]) (fun i=>[(2,.row 28 8 (List.map qs l11)),(3,.box none 28 [.dat (vint r16.1.At),.dat (vstr r16.1.Method),.dat (vstr r16.1.Host),.dat (vstr r16.1.Path),.dat (vstr r16.1.Query),.dat (vstr r16.1.From),.dat (vlst (List.map yd r16.1.Headers)),.dat (vstr r16.1.Body)])]) (fun i=>z6p i=some q21) (fun i=>Z) ?_ ?_)
       ·skip
        refine zx (zb hN Z (qd Z (za (wc z0k (fun _=>Z) Z Z h26) (za (kh wo Z (qk h26) Z) (zj (qu 4 xq Z) Z (qe Z (zj (qm wo Z Z Z Z) Z (yb (ι:=Bool) (fun i=>[(0,.dat (vlst (List.map qy v1))),(10,.row 2 l11.length),(15,.ptr 3 0),(17,.dat (vint v19)),(18,.dat (vint (k20:Int))),(68,.dat (vlst (List.map qy v1))),(69,.dat (vint (v1.length:Int))),(70,.dat (vint (k20:Int))),(96,.dat (zh i))]) (fun i=>[(2,.row 28 8 (List.map qs l11)),(3,.box none 28 [.dat (vint r16.1.At),.dat (vstr r16.1.Method),.dat (vstr r16.1.Host),.dat (vstr r16.1.Path),.dat (vstr r16.1.Query),.dat (vstr r16.1.From),.dat (vlst (List.map yd r16.1.Headers)),.dat (vstr r16.1.Body)])]) (fun i=>z2v v19 k20 i=some q21) (fun i=>Z) ?_ ?_))))))))
        ·skip
         refine vf mixed hN Z Z (za (zd (.row _ _) Z) (qd Z (bE H fun x27 h28 H=>zm (z29 x6b Z Z Z h28) Z (zm (y0t yp Z Z h28 Z) Z (za (zq um Z) (zm (yq ub Z Z Z) Z (zm (yq yp Z Z Z) Z (bE H fun r29 h30 H=>za (zk (x2t x27 x23.Response r16.1 r29 h30) ⟨.inl Z,.inl Z,.inl Z,U⟩) (qd Z (yi (j:=8) Z Z (fun h31 => ?_) (fun h31 => ?_) Z))))))))))
         ·refine u1 h31 H fun h32 H=>zg Z Z h31 (zd (.dat _) Z) (zg Z Z h31 (zy Z Z) (zg Z Z h31 (zd (.dat _) Z) (yi (j:=11) Z Z (fun h33 => ?_) (fun h33 => ?_) Z)))
          ·refine u3 h33 H fun h34 H=>zg Z Z h33 (zq xd Z) (jr Z Z h33 (zv tyS3 Z Z) Z (zg Z Z h33 (zd (.dat _) Z) (zg Z Z h33 (zd (.dat _) Z) (bE H fun x35 h36 H=>zg Z Z h33 (uu z0k (fun _=>Z) Z Z h36) (zg Z Z h33 (z3d xd Z) (zg Z Z h33 (qz tyS3 Z (qk (vq h36).2) Z) (zg Z Z h33 (wz Z Z) (zg Z Z h31 (ye Z (bFF h34) Z) (za (yh Z (bTT h32) Z) ⟨Z,?_⟩)))))))))
           exact ⟨decide (x35.At≤x23.At),H,⟨Z,Z,Z,Z,Z,Z,Z,Z,Z,U⟩,⟨Z,Z,U⟩⟩
          ·refine u4 h33 H fun h37 H=>zc Z Z h33 (zc Z Z h33 (zc Z Z h33 (zc Z Z h33 (zc Z Z h33 (zc Z Z h33 (zc Z Z h33 (zc Z Z h33 (zg Z Z h31 (yh Z (bTT h37) Z) (za (yh Z (bTT h32) Z) ⟨Z,?_⟩)))))))))
           exact ⟨true,H,⟨Z,Z,Z,Z,Z,Z,Z,Z,Z,U⟩,⟨Z,Z,U⟩⟩
         ·refine u2 h31 H fun h38 H=>zc Z Z h31 (zc Z Z h31 (zc Z Z h31 (yt Z Z (yt Z Z (yt Z Z (yt Z Z (yt Z Z (yt Z Z (yt Z Z (yt Z Z (zc Z Z h31 (za (ye Z (bFF h38) Z) ⟨Z,?_⟩))))))))))))
          exact ⟨false,H,⟨Z,Z,Z,Z,Z,Z,Z,Z,Z,U⟩,⟨Z,Z,U⟩⟩
        ·rintro v39 H
         replace H:z2v v19 k20 v39=some q21:=H
         unfold z2v at H
         refine zf _ Z (fun h40 => ?_) (fun h40 => ?_)
         ·exact tE h40 H fun H=>zn hN Z (qd Z (qe Z ⟨(k20:Int),H,⟨Z,Z,Z,Z,Z,Z,Z,U⟩,⟨Z,Z,U⟩⟩))
         ·exact fE h40 H fun H=>zl ⟨v19,H,⟨Z,Z,Z,Z,Z,Z,Z,U⟩,⟨Z,Z,U⟩⟩
       ·rintro v41 H
        replace H:z6p v41=some q21:=H
        unfold z6p at H
        exact zn hN Z (za (qo Z Z (by omega)) (qd Z ⟨_,yx H,⟨Z,Z,Z,Z,Z,Z,Z,U⟩,⟨Z,Z,U⟩⟩))
    ·rintro k12 x15 l11 q13 h42 h43 H hq13
     replace H:z2u k12 x15 l11=some q13:=H
     unfold z2u at H
     refine zb hN Z (za (zy Z Z) (ze (zf _ Z (fun h => ?_) (fun h=>(lt_f h42 h).elim))))
     refine zl (ze (zx (zb hN Z (za (wc z0k (fun _=>Z) Z Z h43) (za (kh wo Z (qk h43) Z) (zj (qu 5 xq Z) Z (zj (qm wo Z Z Z Z) Z (zb hN Z (za (zq un Z) (zm (yq yp Z Z Z) Z (bE H fun r44 h45 H=>za (zk (y2h x15.Request r44 h45) ⟨.inl Z,U⟩) (qd Z (za (zz Z Z) (za (zz Z Z) (zj (qu 6 vt Z) Z (zj (qm yp Z Z Z Z) Z (qe Z (ze (zb hN Z (qd Z (za (qj Z Z) (zf _ Z (fun h46 => ?_) (fun h46 => ?_)))))))))))))))))))))))
     ·refine tE h46 H fun H=>zb hN Z (qd Z (qe Z (qe Z (zi ?_))))
      replace H:=retl H hq13
      cases H
      exact ⟨U,.inl Z,.inl Z,U⟩
     ·refine fE h46 H fun H=>zl (zn hN Z (za (zd (.row _ _) Z) (zm (yq yp Z Z Z) Z (za (ya (u':=vlst (List.map qs [r44.1])) (yo [_] y8s ⟨Z,.inr Z,Z,U⟩ Z Z) Z) (gE H fun h47 H=>zj (va y8s (fun _=>Z) Z Z Z ⟨by simp,by first | (simp; done) | simpa using h47⟩ Z) Z ?_)))))
      exact za (qr (.row _ _) Z) (zn hN Z (za (qo Z Z (by omega)) (qd Z ⟨_,yx H,⟨Z,Z,Z,Z,Z,Z,U⟩,⟨Z,Z,U⟩⟩)))
  ·rintro k4 x7 ⟨⟩ q5 h48 h49 H hq5
   replace H:z9u k4 x7=some q5:=H
   unfold z9u at H
   refine zb hN Z (za (zy Z Z) (ze (zf _ Z (fun h => ?_) (fun h=>(lt_f h48 h).elim))))
   refine zl (ze (zx (zb hN Z (za (wc z0k (fun _=>Z) Z Z h49) (za (kh wo Z (qk h49) Z) (zj (qu 7 xq Z) Z (zj (qm wo Z Z Z Z) Z (zb hN Z (zm (yq wo Z Z Z) Z (bE H fun r50 h51 H=>za (zk (z86 x7 r50 h51) ⟨.inl Z,U⟩) (qe Z (zb hN Z (qd Z (za (qj Z Z) (zf _ Z (fun h52 => ?_) (fun h52 => ?_))))))))))))))))
   ·refine tE h52 H fun H=>zb hN Z (qd Z (qe Z (qe Z (zi ?_))))
    replace H:=retl H hq5
    cases H
    exact ⟨U,.inl Z,.inl Z,U⟩
   ·exact fE h52 H fun H=>zl (zn hN Z (za (qo Z Z (by omega)) (qd Z ⟨_,yx H,⟨Z,Z,Z,Z,Z,U⟩,⟨Z,U⟩⟩)))
theorem w0o (l r:List yc) (H:ui l=some r):FnG Tryz.prog 61 [.dat (vlst (List.map qy l))] [] (.row 900 r.length) [(900,.row 33 14 (List.map qy r))]:=by
 obtain ⟨hl,rfl⟩:=y7j H
 refine kv (by kernel_rfl) Tryz.func61 Z Z Z Z fun X A hN => ?_
 refine y7q 0 Z (fun h0 => ?_) ?_
 ·obtain rfl:=List.map_eq_nil_iff.1 h0
  refine zb hN Z (qe Z (ze (zb hN Z (qd Z (za (y4k Ql Z) (zf _ Z (fun h => ?_) (fun h=>by cases h)))))))
  exact zb hN Z (qe Z (vp 2 900 33 14 Z Z Z (zi ⟨U,[(2,.row 900 0)],⟨Z,U⟩,⟨Z,U⟩,Z,.inr (.inl ⟨2,Z,Z⟩)⟩)))
 ·refine zb hN Z (qe Z (ze (zb hN Z (qd Z (za (y4l Ql Z) (zf _ Z (fun h=>by cases h) (fun h => ?_)))))))
  refine zl (ze (y7p 0 (u':=vlst (List.map qy l)) Z y30 (zn hN Z (zj (y4i 900 z27) Z (qd Z (zj (y4e (C:=qy) (xs:=[]) z27 (fun _=>Z) Z Z Z (by simpa using hl) Z) Z ?_))))))
  exact za (qr (.row _ _) Z) (zi ⟨U,[(2,.row 900 l.length)],⟨Z,U⟩,⟨Z,U⟩,Z,.inr (.inl ⟨2,Z,Z⟩)⟩)
theorem w13 (v1:(List yc)) (v2:zw) (r:(Int×Int)) (H:z4o v1 v2=some r):Fn Tryz.prog 21 [vlst (List.map qy v1),vagg (qs v2)] (zu [vint r.1,vint r.2]):=by
 refine ⟨by kernel_rfl,yg (us:=[vint r.1,vint r.2]) Tryz.func21 Z Z Z Z fun X hN => ?_⟩
 unfold z4o at H
 refine zb hN Z (zj (we 1 Z) Z (qe Z (qe Z (zb hN Z (qe Z (ze (ze (vf mixed hN Z Z (qd Z (bE H fun r3 h4 H=>wx (rn [(900,2)]) [] [(900,_)] (w0o v1 r3 h4) ⟨Z,U⟩ ⟨.inl (.inl Z),U⟩ U Z (zm (yq yp Z Z Z) Z (za (xv (u':=vagg (qy (yc.mk v2 (yu.mk 0 [] []) 0 [] 0))) (Zh (by exact ⟨ym,ym,ym,ym,ym,ym,ym,ym,ym,ua,ym,ym,ua,ym,U⟩)) (vh [(0,qs v2)] xq y8o Z ⟨Z,.inr Z,Z,U⟩)) ?_))))))))))))
 refine za (ya (u':=vlst (List.map qy [(yc.mk v2 (yu.mk 0 [] []) 0 [] 0)])) (yo [_] z27 ⟨Z,.inr Z,Z,U⟩ Z Z) Z) (gE H fun h5 H=>zj (va z27 (fun _=>Z) Z Z Z ⟨by simp,by first | (simp; done) | simpa using h5⟩ Z) Z ?_)
 refine zm (Qp Ql Z Z) Z (qd Z ⟨Z,?_⟩)
 refine zx (gE H fun h8 H=>z9w (fun (k6:Nat) (s:Unit)=>[(0,.dat (vlst (List.map qy v1))),(3,.ptr 1 0),(6,.dat (vint (-1))),(20,.row 2 ((r3++([(yc.mk v2 (yu.mk 0 [] []) 0 [] 0)])).length)),(21,.dat (vint ((r3++([(yc.mk v2 (yu.mk 0 [] []) 0 [] 0)])).length:Int))),(22,.dat (vint (k6:Int)))]) (fun (k6:Nat) (s:Unit)=>[(1,.box none 28 [.dat (vint v2.At),.dat (vstr v2.Method),.dat (vstr v2.Host),.dat (vstr v2.Path),.dat (vstr v2.Query),.dat (vstr v2.From),.dat (vlst (List.map yd v2.Headers)),.dat (vstr v2.Body)]),(2,.row 33 14 (List.map qy (r3++([(yc.mk v2 (yu.mk 0 [] []) 0 [] 0)]))))]) () H ⟨Z,Z,Z,Z,Z,Z,U⟩ ⟨Z,Z,U⟩ (fun _ _=>Z) ?_ ?_)
 ·rintro ⟨⟩ H
  replace H:z5y v1 v2=some r:=H
  unfold z5y at H
  refine zb hN Z (za (zy Z Z) (ze (zf _ Z (fun h=>(lt_t h).elim) (fun h => ?_))))
  refine yr (ze (zb hN Z (qd Z (za (qi Ql Z) (qd Z (zx (gE H fun h12 H=>qv (fun (k10:Nat) (s:Int)=>[(0,.dat (vlst (List.map qy v1))),(3,.ptr 1 0),(6,.dat (vint s)),(36,.dat (vlst (List.map qy v1))),(37,.dat (vint (v1.length:Int))),(38,.dat (vint (k10:Int)))]) (fun (k10:Nat) (s:Int)=>[(1,.box none 28 [.dat (vint v2.At),.dat (vstr v2.Method),.dat (vstr v2.Host),.dat (vstr v2.Path),.dat (vstr v2.Query),.dat (vstr v2.From),.dat (vlst (List.map yd v2.Headers)),.dat (vstr v2.Body)])]) (-1) H ⟨Z,Z,Z,Z,Z,Z,U⟩ ⟨Z,U⟩ (fun _ _=>Z) ?_ ?_)))))))
  ·rintro v9 H
   replace H:z9p v9=some r:=H
   unfold z9p at H
   refine zb hN Z (za (zy Z Z) (ze (zf _ Z (fun h=>(lt_t h).elim) (fun h => ?_))))
   refine yr (ze (zb hN Z (qd Z (za (zy Z Z) (zf _ Z (fun h14 => ?_) (fun h14 => ?_))))))
   ·refine tE h14 H fun H=>zb hN Z (qe Z (qe Z (zi ?_)))
    cases H
    exact ⟨U,.inl Z,.inl Z,U⟩
   ·refine fE h14 H fun H=>zl (zb hN Z (qd Z (qe Z (qe Z (zi ?_)))))
    cases H
    exact ⟨U,.inl Z,.inl Z,U⟩
  ·rintro k10 x13 v9 q11 h15 h16 H hq11
   replace H:z5v v1 v2 k10 x13 v9=some q11:=H
   unfold z5v at H
   refine zb hN Z (za (zy Z Z) (ze (zf _ Z (fun h => ?_) (fun h=>(lt_f h15 h).elim))))
   refine zl (yb (ι:=Int) (fun i=>[(0,.dat (vlst (List.map qy v1))),(3,.ptr 1 0),(6,.dat (vint i)),(36,.dat (vlst (List.map qy v1))),(37,.dat (vint (v1.length:Int))),(38,.dat (vint (k10:Int)))]) (fun i=>[(1,.box none 28 [.dat (vint v2.At),.dat (vstr v2.Method),.dat (vstr v2.Host),.dat (vstr v2.Path),.dat (vstr v2.Query),.dat (vstr v2.From),.dat (vlst (List.map yd v2.Headers)),.dat (vstr v2.Body)])]) (fun i=>z5x i=some q11) (fun i=>Z) ?_ ?_)
   ·skip
    refine zx (zb hN Z (qd Z (za (wc z0k (fun _=>Z) Z Z h16) (za (kh wo Z (qk h16) Z) (zj (qu 3 xq Z) Z (qe Z (zj (qm wo Z Z Z Z) Z (zb hN Z (zm (yq wo Z Z Z) Z (zm (yq yp Z Z Z) Z (bE H fun r17 h18 H=>za (zk (x2k x13 v2 r17 h18) ⟨.inl Z,.inl Z,U⟩) (qd Z (za (zz Z Z) (za (zz Z Z) (qe Z (qe Z (yb (ι:=Bool) (fun i=>[(0,.dat (vlst (List.map qy v1))),(3,.ptr 1 0),(6,.dat (vint v9)),(11,.dat (vint (k10:Int))),(36,.dat (vlst (List.map qy v1))),(37,.dat (vint (v1.length:Int))),(38,.dat (vint (k10:Int))),(63,.dat (zh i))]) (fun i=>[(1,.box none 28 [.dat (vint v2.At),.dat (vstr v2.Method),.dat (vstr v2.Host),.dat (vstr v2.Path),.dat (vstr v2.Query),.dat (vstr v2.From),.dat (vlst (List.map yd v2.Headers)),.dat (vstr v2.Body)])]) (fun i=>z15 v9 k10 i=some q11) (fun i=>Z) ?_ ?_)))))))))))))))))
    ·skip
     refine vf mixed hN Z Z (qd Z (qd Z (yi (j:=1) Z Z (fun h19 => ?_) (fun h19 => ?_) Z)))
     ·refine u1 h19 H fun h20 H=>zg Z Z h19 (zd (.dat _) Z) (zg Z Z h19 (zy Z Z) (zg Z Z h19 (zd (.dat _) Z) (yi (j:=4) Z Z (fun h21 => ?_) (fun h21 => ?_) Z)))
      ·refine u3 h21 H fun h22 H=>zg Z Z h21 (zq xd Z) (jr Z Z h21 (zv tyS3 Z Z) Z (zg Z Z h21 (zd (.dat _) Z) (zg Z Z h21 (zd (.dat _) Z) (bE H fun x23 h24 H=>zg Z Z h21 (uu z0k (fun _=>Z) Z Z h24) (zg Z Z h21 (z3d xd Z) (zg Z Z h21 (qz tyS3 Z (qk (vq h24).2) Z) (zg Z Z h21 (wz Z Z) (zg Z Z h19 (ye Z (bFF h22) Z) (za (yh Z (bTT h20) Z) ⟨Z,?_⟩)))))))))
       exact ⟨decide (x23.At≤x13.At),H,⟨Z,Z,Z,Z,Z,Z,Z,Z,U⟩,⟨Z,U⟩⟩
      ·refine u4 h21 H fun h25 H=>zc Z Z h21 (zc Z Z h21 (zc Z Z h21 (zc Z Z h21 (zc Z Z h21 (zc Z Z h21 (zc Z Z h21 (zc Z Z h21 (zg Z Z h19 (yh Z (bTT h25) Z) (za (yh Z (bTT h20) Z) ⟨Z,?_⟩)))))))))
       exact ⟨true,H,⟨Z,Z,Z,Z,Z,Z,Z,Z,U⟩,⟨Z,U⟩⟩
     ·refine u2 h19 H fun h26 H=>zc Z Z h19 (zc Z Z h19 (zc Z Z h19 (yt Z Z (yt Z Z (yt Z Z (yt Z Z (yt Z Z (yt Z Z (yt Z Z (yt Z Z (zc Z Z h19 (za (ye Z (bFF h26) Z) ⟨Z,?_⟩))))))))))))
      exact ⟨false,H,⟨Z,Z,Z,Z,Z,Z,Z,Z,U⟩,⟨Z,U⟩⟩
    ·rintro v27 H
     replace H:z15 v9 k10 v27=some q11:=H
     unfold z15 at H
     refine zf _ Z (fun h28 => ?_) (fun h28 => ?_)
     ·exact tE h28 H fun H=>zn hN Z (qd Z (qe Z ⟨(k10:Int),H,⟨Z,Z,Z,Z,Z,Z,U⟩,⟨Z,U⟩⟩))
     ·exact fE h28 H fun H=>zl ⟨v9,H,⟨Z,Z,Z,Z,Z,Z,U⟩,⟨Z,U⟩⟩
   ·rintro v29 H
    replace H:z5x v29=some q11:=H
    unfold z5x at H
    exact zn hN Z (za (qo Z Z (by omega)) (qd Z ⟨_,yx H,⟨Z,Z,Z,Z,Z,Z,U⟩,⟨Z,U⟩⟩))
 ·rintro k6 ⟨⟩ q7 h30 H hq7
  replace H:z5w v2 r3 k6=some q7:=H
  unfold z5w at H
  refine zb hN Z (za (zy Z Z) (ze (zf _ Z (fun h => ?_) (fun h=>(lt_f h30 h).elim))))
  refine zl (ze (zx (zb hN Z (bE H fun x31 h32 H=>zm (z29 z0k Z Z Z h32) Z (zm (y0t wo Z Z h32 Z) Z (zj (qu 4 xq Z) Z (zj (qm wo Z Z Z Z) Z (zb hN Z (za (zq un Z) (zm (yq yp Z Z Z) Z (bE H fun r33 h34 H=>za (zk (y6j x31.Request r33 h34) ⟨.inl Z,U⟩) (qd Z (za (zz Z Z) (za (zz Z Z) (zj (qu 5 vt Z) Z (zj (qm yp Z Z Z Z) Z (qe Z (zb hN Z (qd Z (za (qj Z Z) (zf _ Z (fun h35 => ?_) (fun h35 => ?_))))))))))))))))))))))
  ·refine tE h35 H fun H=>zb hN Z (qd Z (qe Z (qe Z (zi ?_))))
   replace H:=retl H hq7
   cases H
   exact ⟨U,.inl Z,.inl Z,U⟩
  ·exact fE h35 H fun H=>zl (zn hN Z (za (qo Z Z (by omega)) (qd Z ⟨_,yx H,⟨Z,Z,Z,Z,Z,Z,U⟩,⟨Z,Z,U⟩⟩)))
theorem x2v (qb:Nat) (r:((List Bs)×(List Int))) (H:z8s  = some r):Fn Tryz.prog 168 [vval (.pointer (some ⟨qb,0,none⟩))] (zu [vlst (List.map zp r.1),vlst (List.map (CP qb) r.2)]):=by
 refine ⟨by kernel_rfl,yg (us:=[vlst (List.map zp r.1),vlst (List.map (CP qb) r.2)]) Tryz.func168 Z Z Z Z fun X hN => ?_⟩
 unfold z8s at H
 refine zb hN Z (qe Z (qe Z (ze (vf mixed hN Z Z (za (ya (u':=vlst (List.map zp [[109,97,120,45,97,103,101],[115,45,109,97,120,97,103,101],[115,116,97,108,101,45,119,104,105,108,101,45,114,101,118,97,108,105,100,97,116,101],[115,116,97,108,101,45,105,102,45,101,114,114,111,114],[109,97,120,45,115,116,97,108,101],[109,105,110,45,102,114,101,115,104]])) (yo [[_],[_],[_],[_],[_],[_]] qf ⟨Z,.inl ⟨_,Z,Z,Z⟩,Z,Z,.inl ⟨_,Z,Z,Z⟩,Z,Z,.inl ⟨_,Z,Z,Z⟩,Z,Z,.inl ⟨_,Z,Z,Z⟩,Z,Z,.inl ⟨_,Z,Z,Z⟩,Z,Z,.inl ⟨_,Z,Z,Z⟩,Z,U⟩ Z Z) Z) (qd Z (za (xf Z) (za (xg y4a Z) (qd Z (za (xf Z) (za (xg y39 Z) (qd Z (za (xf Z) (za (xg x53 Z) (qd Z (za (xf Z) (za (xg x52 Z) (qd Z (za (xf Z) (za (xg x59 Z) (qd Z (za (xf Z) (za (xg x58 Z) ?_)))))))))))))))))))))))
 refine za (ya (u':=vlst (List.map (CP qb) ([6,7,8,9,10,11]:List Int))) (yo [[_],[_],[_],[_],[_],[_]] x5y ⟨Z,.inl ⟨_,Z,Z,Z⟩,Z,Z,.inl ⟨_,Z,Z,Z⟩,Z,Z,.inl ⟨_,Z,Z,Z⟩,Z,Z,.inl ⟨_,Z,Z,Z⟩,Z,Z,.inl ⟨_,Z,Z,Z⟩,Z,Z,.inl ⟨_,Z,Z,Z⟩,Z,U⟩ Z Z) Z) (qe Z (qe Z ⟨Z,?_⟩))
 refine zi ?_
 cases H
 exact ⟨U,.inl Z,.inl Z,U⟩
theorem w2n (qb:Nat) (r:((List Bs)×(List Int))) (H:y18  = some r):Fn Tryz.prog 228 [vval (.pointer (some ⟨qb,0,none⟩))] (zu [vlst (List.map zp r.1),vlst (List.map (CP qb) r.2)]):=by
 refine ⟨by kernel_rfl,yg (us:=[vlst (List.map zp r.1),vlst (List.map (CP qb) r.2)]) Tryz.func228 Z Z Z Z fun X hN => ?_⟩
 unfold y18 at H
 refine zb hN Z (qe Z (qe Z (ze (vf mixed hN Z Z (za (ya (u':=vlst (List.map zp [[110,111,45,115,116,111,114,101],[110,111,45,99,97,99,104,101],[112,114,105,118,97,116,101],[112,117,98,108,105,99],[109,117,115,116,45,114,101,118,97,108,105,100,97,116,101],[111,110,108,121,45,105,102,45,99,97,99,104,101,100]])) (yo [[_],[_],[_],[_],[_],[_]] qf ⟨Z,.inl ⟨_,Z,Z,Z⟩,Z,Z,.inl ⟨_,Z,Z,Z⟩,Z,Z,.inl ⟨_,Z,Z,Z⟩,Z,Z,.inl ⟨_,Z,Z,Z⟩,Z,Z,.inl ⟨_,Z,Z,Z⟩,Z,Z,.inl ⟨_,Z,Z,Z⟩,Z,U⟩ Z Z) Z) (qd Z (za (xf Z) (za (xg x6a Z) (qd Z (za (xf Z) (za (xg y8x Z) (qd Z (za (xf Z) (za (xg x57 Z) (qd Z (za (xf Z) (za (xg x56 Z) (qd Z (za (xf Z) (za (xg x55 Z) (qd Z (za (xf Z) (za (xg x54 Z) ?_)))))))))))))))))))))))
 refine za (ya (u':=vlst (List.map (CP qb) ([0,1,2,3,4,5]:List Int))) (yo [[_],[_],[_],[_],[_],[_]] x5x ⟨Z,.inl ⟨_,Z,Z,Z⟩,Z,Z,.inl ⟨_,Z,Z,Z⟩,Z,Z,.inl ⟨_,Z,Z,Z⟩,Z,Z,.inl ⟨_,Z,Z,Z⟩,Z,Z,.inl ⟨_,Z,Z,Z⟩,Z,Z,.inl ⟨_,Z,Z,Z⟩,Z,U⟩ Z Z) Z) (qe Z (qe Z ⟨Z,?_⟩))
 refine zi ?_
 cases H
 exact ⟨U,.inl Z,.inl Z,U⟩
end Go.Proofs.YtmdllhcjefcggacGreatDoor
