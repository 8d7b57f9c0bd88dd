/- Walks along the models. Printed by a program. -/
import Derived.Test.YtbndlmnjeofkdaaGreatDoorZsw3
namespace Go.Proofs.YtbndlmnjeofkdaaGreatDoor
open Go.RowKit
set_option linter.unusedVariables false
set_option maxRecDepth 100000
set_option maxHeartbeats 2000000
theorem x9q (v1:(List zj)) (v2:Int) (v3:Int) (v4:Int) (p4:zj→zj→Option (Int)) (fv4:Nat) (us4:List V) (hp4:∀ a0 a1 r,p4 a0 a1=some r→Fn Tryz.prog fv4 ([vagg (qi a0),vagg (qi a1)]++us4) (zt [vint r])) (r:((List zj))) (H:z6d v1 v2 v3 v4 p4=some r):FnG Tryz.prog 57 [.row 0 v1.length,.dat (vint v2),.dat (vint v3),.dat (vint v4),.dat (vfn fv4 us4)] [(0,.rowA undef 58 2 (List.map qi v1))] (.dat (zt [])) [(0,.rowA undef 58 2 (List.map qi r))]:=by
 refine xg (by kernel_rfl) Tryz.func57 Z Z Z Z fun X A hN => ?_
 unfold z6d at H
 refine zb hN Z (qe Z (zb hN Z (qe Z (zx (xy (fun (s:Int×Int×Int×Bool×Bool)=>[(0,.row 0 v1.length),(1,.dat (vint s.1)),(2,.dat (vint s.2.1)),(3,.dat (vint s.2.2.1)),(4,.dat (vfn fv4 us4)),(10,.dat (zh s.2.2.2.1)),(11,.dat (zh s.2.2.2.2))]) (fun (s:Int×Int×Int×Bool×Bool)=>[(0,.rowA (A.vl 0) 58 2 (List.map qi v1))]) (v2,v3,v4,true,true) H ⟨Z,Z,Z,Z,Z,Z,Z,U⟩ ⟨Z,U⟩ (fun _=>Z) ?_)))))
 rintro ⟨v5,v6,v7,v8,v9⟩ q10 H hq10
 replace H:y2t v1 p4 v5 v6 v7 v8 v9=some q10:=H
 unfold y2t at H
 refine zx (zb hN Z (qd Z (qd Z (za (yk _ Z Z (.inr (.inl ⟨Z,Z⟩))) (qe Z (zf (zb hN Z (qd Z (za (wn Z Z) (zg _ Z (fun h11 => ?_) (fun h11 => ?_)))))))))))
 ·refine tE h11 H fun H=>zb hN Z (za (zd (.row _ _) Z) (qd Z (qd Z (qd Z (bE H fun r12 h13 H=>gE H fun h14 H=>vd (rn [(0,0)]) [(0,_,_,some _)] [] (x9r v1 v5 v6 p4 fv4 us4 hp4 r12 h13) ⟨Z,U⟩ ⟨.inl (.inl Z),.inl (.inl Z),.inl (.inl Z),.inl (.inl Z),U⟩ ⟨⟨⟨Z,Z,Z⟩,by simp [Zg,h14]⟩,U⟩ Z ?_)))))
  refine zi ?_
  replace H:=retl H hq10
  have eH:r12=r:=Option.some.inj H
  subst eH
  exact ⟨U,[],U,⟨Z,U⟩,Z,.inl ⟨[],U,Z⟩⟩
 ·refine fE h11 H fun H=>zl (zf (zb hN Z (qd Z (za (yu Z Z) (zg _ Z (fun h15 => ?_) (fun h15 => ?_))))))
  ·refine tE h15 H fun H=>?_
   cases H
  ·refine fE h15 H fun H=>?_
   cases H
theorem x9s (x1:(List zj)) (p1:zj→zj→Option (Int)) (fv1:Nat) (us1:List V) (hp1:∀ a0 a1 r,p1 a0 a1=some r→Fn Tryz.prog fv1 ([vagg (qi a0),vagg (qi a1)]++us1) (zt [vint r])) (r:((List zj))) (H:uk x1 p1=some r):FnG Tryz.prog 22 [.row 0 x1.length,.dat (vfn fv1 us1)] [(0,.rowA undef 58 2 (List.map qi x1))] (.dat (zt [])) [(0,.rowA undef 58 2 (List.map qi r))]:=by
 refine xg (by kernel_rfl) Tryz.func22 Z Z Z Z fun X A hN => ?_
 unfold uk at H
 refine zb hN Z (za (zd (.row _ _) Z) (zr (x5k Qp Z Z) Z (qe Z (zp hN Z (za (zd (.row _ _) Z) (qd Z (qd Z (za (ja tyU3 z8j Z) (bE H fun r2 h3 H=>za (zm (w0x (IntKind.wrap .u64 (x1.length:Int)) r2 h3) ⟨.inl Z,U⟩) (qd Z (bE H fun r4 h5 H=>gE H fun h6 H=>vd (rn [(0,0)]) [(0,_,_,some _)] [] (x9q x1 0 (x1.length:Int) r2 p1 fv1 us1 hp1 r4 h5) ⟨Z,U⟩ ⟨.inl (.inl Z),.inl (.inl Z),.inl (.inl Z),.inl (.inl Z),.inl (.inl Z),U⟩ ⟨⟨⟨Z,Z,Z⟩,by simp [Zg,h6]⟩,U⟩ Z ?_)))))))))))
 have eH:r4=r:=Option.some.inj H
 subst eH
 exact ⟨U,[],U,⟨Z,U⟩,Z,.inl ⟨[],U,Z⟩⟩
theorem y95 (a b:Bs) (r:Int) (H:Ww a b=some r):Fn Tryz.prog 59 [vstr a,vstr b] (zt [vint r]):=by
 cases H
 refine y1f (by kernel_rfl) fun M w vs h => ?_
 have h1:=kg (us:=[.string ⟨a.toArray⟩,.string ⟨b.toArray⟩]) h
 subst h1
 refine (Tryz.strings_Compare ⟨a.toArray⟩ ⟨b.toArray⟩ w).mono ?_
 rintro e w' ⟨rfl,rfl⟩
 exact ⟨_,Z,Z,Kp.refl _ _⟩
theorem w0q (a1:zj) (b2:zj) (r:(Int)) (H:vf a1 b2=some r):Fn Tryz.prog 23 [vagg (qi a1),vagg (qi b2)] (zt [vint r]):=by
 refine ⟨by kernel_rfl,yf (us:=[vint r]) Tryz.func23 Z Z Z Z fun X hN => ?_⟩
 unfold vf at H
 refine zb hN Z (zk (wy 1 Z) Z (zk (wy 2 Z) Z (qe Z (zf (zb hN Z (za (zw z5d Z) (zr (ye tyS9 Z Z) Z (za (zw z5d Z) (zr (ye tyS9 Z Z) Z (za (kj Z Z) (zg _ Z (fun h3 => ?_) (fun h3 => ?_))))))))))))
 ·refine tE h3 H fun H=>zb hN Z (za (zw z5d Z) (zr (ye tyS9 Z Z) Z (za (zw z5d Z) (zr (ye tyS9 Z Z) Z (bE H fun r4 h5 H=>za (zm (y95 a1.Name b2.Name r4 h5) ⟨.inl Z,.inl Z,U⟩) (qe Z (zi ?_)))))))
  cases H
  exact ⟨U,.inl Z,U⟩
 ·refine fE h3 H fun H=>zl (zb hN Z (za (zw y18 Z) (zr (ye tyS9 Z Z) Z (za (zw y18 Z) (zr (ye tyS9 Z Z) Z (bE H fun r6 h7 H=>za (zm (y95 a1.Value b2.Value r6 h7) ⟨.inl Z,.inl Z,U⟩) (qe Z (zi ?_))))))))
  cases H
  exact ⟨U,.inl Z,U⟩
theorem y99 (s1:Bs) (r:(Bs)) (H:z23 s1=some r):Fn Tryz.prog 60 [vstr s1] (zt [vstr r]):=by
 refine ⟨by kernel_rfl,yf (us:=[vstr r]) Tryz.func60 Z Z Z Z fun X hN => ?_⟩
 unfold z23 at H
 refine zb hN Z (qe Z (zb hN Z (zk (wd 1 y14 Z) Z (y1n 1 0 (.nptr 1) Z Z y3m (z79 1 1 2 5 1 Z Z Z Z (zf (zb hN Z (qd Z (za (yw tyU9 Z) (qd Z (zx (gE H fun h5 H=>qy (fun (k3:Nat) (s:(List Int))=>[(0,.dat (vstr s1)),(3,.ptr 1 0),(7,.dat (vint (s1.length:Int))),(8,.dat (vint (k3:Int)))]) (fun (k3:Nat) (s:(List Int))=>[(1,.box none 101 [.nptr 1,.row 2 s.length]),(2,.row 5 1 (List.map qc s))]) ([]:List Int) H ⟨Z,Z,Z,Z,U⟩ ⟨Z,Z,U⟩ (fun _ _=>Z) ?_ ?_))))))))))))
 ·rintro l2 H
  replace H:z2h l2=some r:=H
  unfold z2h at H
  refine zb hN Z (za (zy Z Z) (zf (zg _ Z (fun h=>(lt_t h).elim) (fun h => ?_))))
  refine yt (zb hN Z (gE H fun h7 H=>vd (rn [(0,1),(1,2)]) [(0,_,_,none),(1,_,_,none)] [] (y4e h7 (C:=qc) (fun _=>Z)) ⟨Z,Z,U⟩ ⟨.inl (.inl Z),U⟩ ⟨⟨⟨Z,Z⟩,U⟩,⟨⟨Z,Z,Z⟩,U⟩,U⟩ Z (qe Z (zi ?_))))
  cases H
  exact ⟨U,.inl Z,U⟩
 ·rintro k3 x6 l2 q4 h8 h9 H hq4
  replace H:We k3 x6 l2=some q4:=H
  unfold We at H
  refine wu (zb hN Z (za (zy Z Z) (zf (zg _ Z (fun h => ?_) (fun h=>(lt_f h8 h).elim)))))
  refine zl (yc (ι:=(List Int)) (fun i=>[(0,.dat (vstr s1)),(3,.ptr 1 0),(7,.dat (vint (s1.length:Int))),(8,.dat (vint (k3:Int)))]) (fun i=>[(1,.box none 101 [.nptr 1,.row 6 i.length]),(6,.row 5 1 (List.map qc i))]) (fun i=>Wg i=some q4) (fun i=>Z) ?_ ?_)
  ·refine wu (zx (zb hN Z (qd Z (qe Z (zb hN Z (qd Z (qd Z (za (qv tyU9 Z Z h9) (qe Z (zx (zb hN Z (qd Z (za (yu Z Z) (qe Z (zg _ Z (fun h10 => ?_) (fun h10 => ?_))))))))))))))))
   ·refine tE h10 H fun H=>zp hN Z (bE H fun r11 h12 H=>vd (rn [(0,1),(1,2),(900,3)]) [(0,_,_,some _),(1,_,_,none)] [(900,_)] (z0o l2 43 r11 h12) ⟨Z,Z,Z,U⟩ ⟨.inl (.inl Z),.inl (.inl Z),U⟩ ⟨⟨⟨Z,Z⟩,U⟩,⟨⟨Z,Z,Z⟩,U⟩,U⟩ Z (wz ?_))
    show Cv _ _ _ _
    exact wb (rn [(3,6)]) [(0,.dat (vstr s1)),(3,.ptr 1 0),(7,.dat (vint (s1.length:Int))),(8,.dat (vint (k3:Int)))] [(1,.box none 101 [.nptr 1,.row 3 r11.2.length]),(3,.row 5 1 (List.map qc r11.2))] ⟨Z,Z,Z,Z,U⟩ ⟨Z,Z,U⟩ Z Z ⟨r11.2,H,⟨Z,Z,Z,Z,U⟩,⟨Z,Z,U⟩⟩
   ·refine fE h10 H fun H=>zb hN Z (qd Z (bE H fun r13 h14 H=>za (zm (x0f (x6.toNat:Int) r13 h14) ⟨.inl Z,U⟩) (qe Z (zg _ Z (fun h15 => ?_) (fun h15 => ?_)))))
    ·refine tE h15 H fun H=>zp hN Z (qd Z (bE H fun r16 h17 H=>vd (rn [(0,1),(1,2),(900,4)]) [(0,_,_,some _),(1,_,_,none)] [(900,_)] (z0o l2 (x6.toNat:Int) r16 h17) ⟨Z,Z,Z,U⟩ ⟨.inl (.inl Z),.inl (.inl Z),U⟩ ⟨⟨⟨Z,Z⟩,U⟩,⟨⟨Z,Z,Z⟩,U⟩,U⟩ Z (wz ?_)))
     show Cv _ _ _ _
     exact wb (rn [(4,6)]) [(0,.dat (vstr s1)),(3,.ptr 1 0),(7,.dat (vint (s1.length:Int))),(8,.dat (vint (k3:Int)))] [(1,.box none 101 [.nptr 1,.row 4 r16.2.length]),(4,.row 5 1 (List.map qc r16.2))] ⟨Z,Z,Z,Z,U⟩ ⟨Z,Z,U⟩ Z Z ⟨r16.2,H,⟨Z,Z,Z,Z,U⟩,⟨Z,Z,U⟩⟩
    ·refine fE h15 H fun H=>zp hN Z (qd Z (bE H fun r18 h19 H=>za (zm (x0b (x6.toNat:Int) r18 h19) ⟨.inl Z,U⟩) (bE H fun r20 h21 H=>vd (rn [(0,1),(1,2),(900,5)]) [(0,_,_,some _),(1,_,_,none)] [(900,_)] (y91 l2 r18 r20 h21) ⟨Z,Z,Z,U⟩ ⟨.inl (.inl Z),.inl (.inl Z),U⟩ ⟨⟨⟨Z,Z⟩,U⟩,⟨⟨Z,Z,Z⟩,U⟩,U⟩ Z (wz ?_))))
     show Cv _ _ _ _
     exact wb (rn [(5,6)]) [(0,.dat (vstr s1)),(3,.ptr 1 0),(7,.dat (vint (s1.length:Int))),(8,.dat (vint (k3:Int)))] [(1,.box none 101 [.nptr 1,.row 5 r20.2.2.length]),(5,.row 5 1 (List.map qc r20.2.2))] ⟨Z,Z,Z,Z,U⟩ ⟨Z,Z,U⟩ Z Z ⟨r20.2.2,H,⟨Z,Z,Z,Z,U⟩,⟨Z,Z,U⟩⟩
  ·rintro l22 H
   replace H:Wg l22=some q4:=H
   unfold Wg at H
   refine zp hN Z (za (qj Z Z (by omega)) (qd Z (wz ?_)))
   show Cv _ _ _ _
   exact wb (rn [(6,2)]) [(0,.dat (vstr s1)),(3,.ptr 1 0),(7,.dat (vint (s1.length:Int))),(8,.dat (vint ((k3:Int)+1)))] [(1,.box none 101 [.nptr 1,.row 6 l22.length]),(6,.row 5 1 (List.map qc l22))] ⟨Z,Z,Z,Z,U⟩ ⟨Z,Z,U⟩ Z Z ⟨_,yx H,⟨Z,Z,Z,Z,U⟩,⟨Z,Z,U⟩⟩
theorem w0r (l1:(List zj)) (r:(Bs×Int)) (H:ky l1=some r):Fn Tryz.prog 24 [vlst (List.map qi l1)] (zt [vstr r.1,vint r.2]):=by
 refine ⟨by kernel_rfl,yf (us:=[vstr r.1,vint r.2]) Tryz.func24 Z Z Z Z fun X hN => ?_⟩
 unfold ky at H
 refine zb hN Z (qe Z (qe Z (zf (zb hN Z (qd Z (za (qf Qp Z) (za (wa Z Z) (zg _ Z (fun h2 => ?_) (fun h2 => ?_)))))))))
 ·refine tE h2 H fun H=>zb hN Z (qe Z (qe Z (zi ?_)))
  cases H
  exact ⟨U,.inl Z,.inl Z,U⟩
 ·refine fE h2 H fun H=>zl (zb hN Z (qe Z (zf (zb hN Z (qd Z (za (qf Qp Z) (qd Z (zx (jo 4 1 9 1 Z Z Z (gE H fun h6 H=>qy (fun (k4:Nat) (s:(List Bs))=>[(4,.row 1 s.length),(11,.dat (vlst (List.map qi l1))),(12,.dat (vint (l1.length:Int))),(13,.dat (vint (k4:Int)))]) (fun (k4:Nat) (s:(List Bs))=>[(1,.row 9 1 (List.map zq s))]) [] H ⟨Z,Z,Z,Z,U⟩ ⟨Z,U⟩ (fun _ _=>Z) ?_ ?_))))))))))
  ·rintro l3 H
   replace H:Wn l3=some r:=H
   unfold Wn at H
   refine zb hN Z (za (zy Z Z) (zf (zg _ Z (fun h=>(lt_t h).elim) (fun h => ?_))))
   refine yt (zf (z18 4 1 Z Z Z (zp hN Z (qd Z (bE H fun r8 h9 H=>za (zm (y0h l3 [38] r8 h9) ⟨.inl Z,.inl Z,U⟩) (qe Z (zf (zb hN Z (qd Z (za (yw tyU9 Z) (za (wa Z Z) (zg _ Z (fun h10 => ?_) (fun h10 => ?_)))))))))))))
   ·refine tE h10 H fun H=>zb hN Z (qe Z (qe Z (zi ?_)))
    cases H
    exact ⟨U,.inl Z,.inl Z,U⟩
   ·refine fE h10 H fun H=>zl (zb hN Z (qd Z (qe Z (qe Z (zi ?_)))))
    cases H
    exact ⟨U,.inl Z,.inl Z,U⟩
  ·rintro k4 x7 l3 q5 h11 h12 H hq5
   replace H:Zl k4 x7 l3=some q5:=H
   unfold Zl at H
   refine zb hN Z (za (zy Z Z) (zf (zg _ Z (fun h => ?_) (fun h=>(lt_f h11 h).elim))))
   refine zl (zf (zx (zb hN Z (za (wi ue (fun _=>Z) Z Z h12) (za (Zf jr Z (qg h12) Z) (zk (wd 2 z1w Z) Z (zk (qw jr Z Z Z Z) Z (zf (zb hN Z (zr (qh jr Z Z Z) Z (za (yb (u':=vagg (qi (zj.mk [] []))) (vc [] z1w y15 Z U) Z) (za (y73 [_,_] [_,_] y6t Z Z Z) (zg _ Z (fun h13 => ?_) (fun h13 => ?_))))))))))))))
   ·refine tE h13 H fun H=>zb hN Z (qe Z (qe Z (zi ?_)))
    replace H:=retl H hq5
    cases H
    exact ⟨U,.inl Z,.inl Z,U⟩
   ·refine fE h13 H fun H=>zl (vi mixed hN Z Z (za (zd (.row _ _) Z) (za (zw z5d Z) (zr (ye tyS9 Z Z) Z (bE H fun r14 h15 H=>za (zm (y99 x7.Name r14 h15) ⟨.inl Z,U⟩) (gE H fun h16 H=>za (kk Z Z (Nat.le_trans h16 (by decide))) (za (zw y18 Z) (zr (ye tyS9 Z Z) Z (bE H fun r17 h18 H=>za (zm (y99 x7.Value r17 h18) ⟨.inl Z,U⟩) (gE H fun h19 H=>za (kk Z Z (Nat.le_trans h19 (by decide))) (za (yb (u':=vlst (List.map zq [((r14++[61])++r17)])) (yo [[_]] yq ⟨Z,.inl ⟨_,Z,Z,Z⟩,Z,U⟩ Z Z) Z) (gE H fun h20 H=>zk (je yq (fun _=>Z) Z Z Z ⟨by simp,by first | (simp; done) | simpa using h20⟩ Z) Z ?_))))))))))))
    refine za (qr (.row _ _) Z) ⟨Z,?_⟩
    exact zp hN Z (za (qj Z Z (by omega)) (qd Z ⟨_,yx H,⟨Z,Z,Z,Z,U⟩,⟨Z,U⟩⟩))
theorem w0c (s:Bs) (r:Bs) (H:Yr s=some r):Fn Tryz.prog 25 [vstr s] (zt [vstr r]):=by
 unfold Yr at H
 obtain ⟨⟨h1,h2⟩,h3⟩:=gif H
 cases h3
 refine xw (by kernel_rfl) fun M w vs hM h => ?_
 have hv:=kg (us:=[.string ⟨s.toArray⟩]) h
 subst hv
 refine (Tryz.strings_ToUpper_ascii ⟨s.toArray⟩ w (by simp [ByteArray.size]; omega) (fun j b hb=>z4z h2 j b (by simpa using hb))).mono ?_
 rintro e w' ⟨rfl,hb⟩
 exact ⟨_,Z,Z,Kp.of_below hb⟩

theorem x9w (l r:List zo) (H:ul l=some r):FnG Tryz.prog 26 [.dat (vlst (List.map yh l))] [] (.row 900 r.length) [(900,.row 49 2 (List.map yh r))]:=by
 obtain ⟨hl,rfl⟩:=x2g H
 refine xg (by kernel_rfl) Tryz.func26 Z Z Z Z fun X A hN => ?_
 refine x2q 0 Z (fun h0 => ?_) ?_
 ·obtain rfl:=List.map_eq_nil_iff.1 h0
  refine zb hN Z (qe Z (zf (zb hN Z (qd Z (za (y7t Zb Z) (zg _ Z (fun h => ?_) (fun h=>by cases h)))))))
  exact zb hN Z (qe Z (jo 2 900 49 2 Z Z Z (zi ⟨U,[(2,.row 900 0)],⟨Z,U⟩,⟨Z,U⟩,Z,.inr (.inl ⟨2,Z,Z⟩)⟩)))
 ·refine zb hN Z (qe Z (zf (zb hN Z (qd Z (za (y7u Zb Z) (zg _ Z (fun h=>by cases h) (fun h => ?_)))))))
  refine zl (zf (x2p 0 (u':=vlst (List.map yh l)) Z y6e (zp hN Z (zk (y7n 900 kv) Z (qd Z (zk (y7f (C:=yh) (xs:=[]) kv (fun _=>Z) Z Z Z (by simpa using hl) Z) Z ?_))))))
  exact za (qr (.row _ _) Z) (zi ⟨U,[(2,.row 900 l.length)],⟨Z,U⟩,⟨Z,U⟩,Z,.inr (.inl ⟨2,Z,Z⟩)⟩)
theorem y4k (v1:zu) (r:(zu×Int)) (H:kb v1=some r):Fn Tryz.prog 5 [vagg (we v1)] (zt [vagg (we r.1),vint r.2]):=by
 refine ⟨by kernel_rfl,yf (us:=[vagg (we r.1),vint r.2]) Tryz.func5 Z Z Z Z fun X hN => ?_⟩
 unfold kb at H
 refine zb hN Z (zk (wy 1 Z) Z (zk (wd 2 jy Z) Z (qe Z (zf (zb hN Z (zr (qh ql Z Z Z) Z (bE H fun r2 h3 H=>za (zm (y4m v1 r2 h3) ⟨.inl Z,U⟩) (qe Z (zb hN Z (qd Z (za (qp Z Z) (zg _ Z (fun h4 => ?_) (fun h4 => ?_)))))))))))))
 ·refine tE h4 H fun H=>zb hN Z (za (Zd (u':=vagg (we (zu.mk 0 [] [] [] [] [] [] []))) (Ye (by exact ⟨yn,yn,yn,yn,yn,yn,ur,yn,U⟩)) (vc [] jy z11 Z U)) ?_)
  refine qd Z (zk (qw ql Z Z Z Z) Z (qe Z (zi ?_)))
  cases H
  exact ⟨U,.inl ⟨_,_,_,we (zu.mk 0 [] [] [] [] [] [] []),Z,Z,Z,Z,ql⟩,.inl Z,U⟩
 ·refine fE h4 H fun H=>zl (zb hN Z (za (zw Qu Z) (zr (ye tyS9 Z Z) Z (bE H fun r5 h6 H=>za (zm (w0u v1.Host r5 h6) ⟨.inl Z,U⟩) (qd Z (za (yd Z Z) (za (yd Z Z) (qe Z (qe Z (zb hN Z (za (zw Qt Z) (zr (ye tyS9 Z Z) Z (bE H fun r7 h8 H=>za (zm (x0i v1.Path r7 h8) ⟨.inl Z,U⟩) (qd Z (za (yd Z Z) (za (yd Z Z) (qe Z (qe Z (zf (zb hN Z ?_))))))))))))))))))))
  refine qd Z (za (qp Z Z) (zg _ Z (fun h9 => ?_) (fun h9 => ?_)))
  ·refine tE h9 H fun H=>zb hN Z (za (Zd (u':=vagg (we (zu.mk 0 [] [] [] [] [] [] []))) (Ye (by exact ⟨yn,yn,yn,yn,yn,yn,ur,yn,U⟩)) (vc [] jy z11 Z U)) ?_)
   refine qd Z (zk (qw ql Z Z Z Z) Z (qe Z (zi ?_)))
   cases H
   exact ⟨U,.inl ⟨_,_,_,we (zu.mk 0 [] [] [] [] [] [] []),Z,Z,Z,Z,ql⟩,.inl Z,U⟩
  ·refine fE h9 H fun H=>zl (zb hN Z (za (zw Qs Z) (zr (ye tyS9 Z Z) Z (bE H fun r10 h11 H=>vd (rn [(900,3)]) [] [(900,_)] (x9y v1.Query r10 h11) ⟨Z,U⟩ ⟨.inl (.inl Z),U⟩ U Z (za (zd (.comp _ _) Z) (za (y7r Z Z) (za (y7r Z Z) (za (qr (.row _ _) Z) (qe Z (zf (zb hN Z (qd Z (za (qp Z Z) (zg _ Z (fun h12 => ?_) (fun h12 => ?_)))))))))))))))
   ·refine tE h12 H fun H=>zb hN Z (za (Zd (u':=vagg (we (zu.mk 0 [] [] [] [] [] [] []))) (Ye (by exact ⟨yn,yn,yn,yn,yn,yn,ur,yn,U⟩)) (vc [] jy z11 Z U)) ?_)
    refine qd Z (zk (qw ql Z Z Z Z) Z (qe Z (zi ?_)))
    cases H
    exact ⟨U,.inl ⟨_,_,_,we (zu.mk 0 [] [] [] [] [] [] []),Z,Z,Z,Z,ql⟩,.inl Z,U⟩
   ·refine fE h12 H fun H=>zl (zb hN Z (za (zd (.row _ _) Z) (bE H fun r13 h14 H=>vd (rn [(0,3),(900,4)]) [(0,_,_,none)] [(900,_)] (x9t r10.1 (fun (a0:zj)=>z6j a0) 21 [] (fun a0 r h=>w0t a0 r h) r13 h14) ⟨Z,Z,U⟩ ⟨.inl (.inl Z),.inr ⟨_,Z,Z⟩,U⟩ ⟨⟨⟨Z,Z,Z⟩,U⟩,U⟩ Z (za (qr (.row _ _) Z) (zb hN Z (za (zd (.row _ _) Z) (bE H fun r15 h16 H=>gE H fun h17 H=>vd (rn [(0,4)]) [(0,_,_,some _)] [] (x9s r13 (fun (a0:zj) (a1:zj)=>vf a0 a1) 23 [] (fun a0 a1 r h=>w0q a0 a1 r h) r15 h16) ⟨Z,U⟩ ⟨.inl (.inl Z),.inr ⟨_,Z,Z⟩,U⟩ ⟨⟨⟨Z,Z,Z⟩,by simp [Zg,h17]⟩,U⟩ Z ?_)))))))
    refine zf (z18 9 4 Z Z (h17).symm (zp hN Z (qd Z (bE H fun r18 h19 H=>za (zm (w0r r15 r18 h19) ⟨.inl Z,U⟩) (qd Z (za (yd Z Z) (za (yd Z Z) (qe Z (qe Z (zf (zb hN Z (qd Z (za (qp Z Z) (zg _ Z (fun h20 => ?_) (fun h20 => ?_)))))))))))))))
    ·refine tE h20 H fun H=>zb hN Z (za (Zd (u':=vagg (we (zu.mk 0 [] [] [] [] [] [] []))) (Ye (by exact ⟨yn,yn,yn,yn,yn,yn,ur,yn,U⟩)) (vc [] jy z11 Z U)) ?_)
     refine qd Z (zk (qw ql Z Z Z Z) Z (qe Z (zi ?_)))
     cases H
     exact ⟨U,.inl ⟨_,_,_,we (zu.mk 0 [] [] [] [] [] [] []),Z,Z,Z,Z,ql⟩,.inl Z,U⟩
    ·refine fE h20 H fun H=>zl (zb hN Z (qd Z (qd Z (qd Z (za (zw Yi Z) (zr (ye tyS9 Z Z) Z (bE H fun r21 h22 H=>za (zm (w0c v1.Method r21 h22) ⟨.inl Z,U⟩) (za (zw Qu Z) (zk (jt tyS9 Z Z Z Z) Z (za (zw Qt Z) (zk (jt tyS9 Z Z Z Z) Z (za (zw Qs Z) (zk (jt tyS9 Z Z Z Z) Z (za (zw Yi Z) (zk (jt tyS9 Z Z Z Z) Z (zb hN Z (za (zw js Z) (zr (ye vk Z Z) Z (bE H fun r23 h24 H=>vd (rn [(900,5)]) [] [(900,_)] (x9w v1.Headers r23 h24) ⟨Z,U⟩ ⟨.inl (.inl Z),U⟩ U Z (za (zw js Z) ?_))))))))))))))))))))
     refine Ym (Yk vk Z Z (by rw [List.length_map]) Z) Z Z ?_
     refine zf (zb hN Z (za (zw js Z) (zr (ye vk Z Z) Z (zr (z16 Zb Z Z) Z (qd Z (zx (gE H fun h28 H=>z1r (fun (k26:Nat) (s:(List zo))=>[(1,.ptr 1 0),(2,.ptr 2 0),(73,.row 5 s.length),(74,.dat (vint (r23.length:Int))),(75,.dat (vint (k26:Int)))]) (fun (k26:Nat) (s:(List zo))=>[(1,.box none 28 [.dat (vint v1.At),.dat (vstr r21),.dat (vstr r5.1),.dat (vstr r7.1),.dat (vstr r18.1),.dat (vstr v1.From),.row 5 s.length,.dat (vstr v1.Body)]),(2,.box none 28 [.dat (vint 0),.dat (vstr []),.dat (vstr []),.dat (vstr []),.dat (vstr []),.dat (vstr []),.dat (vnil),.dat (vstr [])]),(5,.row 49 2 (List.map yh s))]) r23 H ⟨Z,Z,Z,Z,Z,U⟩ ⟨Z,Z,Z,U⟩ (fun _ _=>Z) ?_ ?_)))))))
     ·rintro l25 H
      replace H:z54 v1 r5 r7 r18 r21 l25=some r:=H
      unfold z54 at H
      refine zb hN Z (za (zy Z Z) (zf (zg _ Z (fun h=>(lt_t h).elim) (fun h => ?_))))
      refine yt (zf (y5y 1 6 5 rfl rfl rfl (by first | rw [List.length_map] | rfl) ?_))
      refine zp hN Z (zr (qh ql Z Z Z) Z (zk (qw ql Z Z Z Z) Z (qe Z (zi ?_))))
      cases H
      exact ⟨U,.inl ⟨_,_,_,we (zu.mk v1.At r21 r5.1 r7.1 r18.1 v1.From l25 v1.Body),Z,Z,Z,Z,ql⟩,.inl Z,U⟩
     ·rintro k26 l25 q27 h29 H hq27
      replace H:Wq k26 l25=some q27:=H
      unfold Wq at H
      refine wu (zb hN Z (za (zy Z Z) (zf (zg _ Z (fun h => ?_) (fun h=>(lt_f h29 h).elim)))))
      refine zl (zf (zx (zb hN Z (qd Z (bE H fun x30 h31 H=>zr (Qx z15 Z Z Z h31) Z (zr (y7d uu Z Z h31 Z) Z (zk (wd 6 ut Z) Z (qe Z (zk (qw uu Z Z Z Z) Z (vi mixed hN Z Z (za (zw js Z) (zr (ye vk Z Z) Z (qd Z (za (zw z12 Z) (zr (ye tyS9 Z Z) Z (bE H fun r32 h33 H=>za (zm (Qb x30.Name r32 h33) ⟨.inl Z,U⟩) (zr (Qx z15 Z Z Z h31) Z (za (x6l z12 Z) (zk (z82 (zo.mk r32 x30.Value) tyS9 Z Z Z Z h31 Z Z) Z ⟨Z,?_⟩)))))))))))))))))))
      refine zp hN Z (za (qj Z Z (by omega)) (qd Z (wz ?_)))
      show Cv _ _ _ _
      exact vh ⟨_,yx H,⟨Z,Z,congrArg (Slot.row 5) (by simp),Z,Z,U⟩,⟨(congrArg (fun n=>some (some (AObj.box none 28 [.dat (vint v1.At),.dat (vstr r21),.dat (vstr r5.1),.dat (vstr r7.1),.dat (vstr r18.1),.dat (vstr v1.From),.row 5 n,.dat (vstr v1.Body)]))) (show l25.length=(l25.set k26 (zo.mk r32 x30.Value)).length from (by simp))),Z,Z,U⟩⟩
theorem x0m (s1:Bs) (r:(Bool)) (H:z29 s1=some r):Fn Tryz.prog 82 [vstr s1] (zt [zh r]):=by
 refine ⟨by kernel_rfl,yf (us:=[zh r]) Tryz.func82 Z Z Z Z fun X hN => ?_⟩
 unfold z29 at H
 refine zb hN Z (qe Z (zf (zb hN Z (qe Z (zx (gE H fun h4 H=>qy (fun (i2:Nat) (s:Unit)=>[(0,.dat (vstr s1)),(3,.dat (vint (i2:Int)))]) (fun (i2:Nat) (s:Unit)=>[]) () H ⟨Z,Z,U⟩ U (fun _ _=>Z) ?_ ?_))))))
 ·rintro ⟨⟩ H
  replace H:y4d s1=some r:=H
  unfold y4d at H
  refine zf (zb hN Z (qd Z (qd Z (za (yw tyU9 Z) (za (zy Z Z) (zg _ Z (fun h=>(lt_t h).elim) (fun h => ?_)))))))
  refine yt (zb hN Z (qd Z (za (kj Z Z) (qd Z (qx Z Z (fun hc=>zd (.dat _) Z) (qx Z Z (fun hc=>yw tyU9 (cnd (c:=(decide (s1≠[]))) hc)) (qx Z Z (fun hc=>wn (cnd (c:=(decide (s1≠[]))) hc) Z) (za (ww Z (fun hb=>(cnd (c:=(decide (s1≠[]))) hb)) Z) (qe Z (zi ?_))))))))))
  cases H
  exact ⟨U,.inl Z,U⟩
 ·rintro i2 x5 ⟨⟩ q3 h6 h7 H hq3
  replace H:y0g i2 x5=some q3:=H
  unfold y0g at H
  refine zf (zb hN Z (qd Z (qd Z (za (yw tyU9 Z) (za (zy Z Z) (zg _ Z (fun h => ?_) (fun h=>(lt_f h6 h).elim)))))))
  refine zl (zf (zx (zb hN Z (qd Z (qd Z (za (qv tyU9 Z Z h7) (qe Z (zb hN Z (qd Z (za (wx Z Z) (qd Z (qx Z Z (fun hc=>zd (.dat _) Z) (qx Z Z (fun hc=>wn (cnd (c:=(decide (97≤(x5.toNat:Int)))) hc) Z) (za (ww Z (fun hb=>(cnd (c:=(decide (97≤(x5.toNat:Int)))) hb)) Z) (qd Z (yv Z Z (fun hc=>zd (.dat _) Z) (yv Z Z (fun hc=>wa (cnd (c:=(!((decide (97≤(x5.toNat:Int))) && (decide ((x5.toNat:Int)≤122))))) hc) Z) (yv Z Z (fun hc=>zd (.dat _) (cnd (c:=(!((decide (97≤(x5.toNat:Int))) && (decide ((x5.toNat:Int)≤122))))) hc)) (wc Z Z (fun hc=>zd (.dat _) Z) (wc Z Z (fun hc=>wx (cnd (c:=((!((decide (97≤(x5.toNat:Int))) && (decide ((x5.toNat:Int)≤122)))) && (decide (0 < (i2:Int))))) hc) Z) (wc Z Z (fun hc=>zd (.dat _) (cnd (c:=((!((decide (97≤(x5.toNat:Int))) && (decide ((x5.toNat:Int)≤122)))) && (decide (0 < (i2:Int))))) hc)) (wc Z Z (fun hc=>zd (.dat _) Z) (wc Z Z (fun hc=>wn (cnd (c:=(((!((decide (97≤(x5.toNat:Int))) && (decide ((x5.toNat:Int)≤122)))) && (decide (0 < (i2:Int)))) && (decide (48≤(x5.toNat:Int))))) hc) Z) ?_)))))))))))))))))))))))
  refine wc Z Z (fun hc=>ww (cnd (c:=((!((decide (97≤(x5.toNat:Int))) && (decide ((x5.toNat:Int)≤122)))) && (decide (0 < (i2:Int))))) hc) (fun hb=>(cnd (c:=(((!((decide (97≤(x5.toNat:Int))) && (decide ((x5.toNat:Int)≤122)))) && (decide (0 < (i2:Int)))) && (decide (48≤(x5.toNat:Int))))) (andI hc hb))) Z) (wc Z Z (fun hc=>zd (.dat _) (cnd (c:=((!((decide (97≤(x5.toNat:Int))) && (decide ((x5.toNat:Int)≤122)))) && (decide (0 < (i2:Int))))) hc)) (z9j Z Z (fun hc=>zd (.dat _) Z) (z9j Z Z (fun hc=>yu (cnd (c:=(((!((decide (97≤(x5.toNat:Int))) && (decide ((x5.toNat:Int)≤122)))) && (decide (0 < (i2:Int)))) && !((decide (48≤(x5.toNat:Int))) && (decide ((x5.toNat:Int)≤57))))) hc) Z) (wc Z Z (fun hc=>vr (cnd (c:=((!((decide (97≤(x5.toNat:Int))) && (decide ((x5.toNat:Int)≤122)))) && (decide (0 < (i2:Int))))) hc) Z (fun hb=>(cnd (c:=(((!((decide (97≤(x5.toNat:Int))) && (decide ((x5.toNat:Int)≤122)))) && (decide (0 < (i2:Int)))) && !((decide (48≤(x5.toNat:Int))) && (decide ((x5.toNat:Int)≤57))))) (andI hc (notI hb))))) (wc Z Z (fun hc=>zd (.dat _) (cnd (c:=((!((decide (97≤(x5.toNat:Int))) && (decide ((x5.toNat:Int)≤122)))) && (decide (0 < (i2:Int))))) hc)) (z9j Z Z (fun hc=>zd (.dat _) Z) (z9j Z Z (fun hc=>yu (cnd (c:=(((!((decide (97≤(x5.toNat:Int))) && (decide ((x5.toNat:Int)≤122)))) && (decide (0 < (i2:Int)))) && !(((decide (48≤(x5.toNat:Int))) && (decide ((x5.toNat:Int)≤57))) || (decide ((x5.toNat:Int)=45))))) hc) Z) (wc Z Z (fun hc=>vr (cnd (c:=((!((decide (97≤(x5.toNat:Int))) && (decide ((x5.toNat:Int)≤122)))) && (decide (0 < (i2:Int))))) hc) Z (fun hb=>(cnd (c:=(((!((decide (97≤(x5.toNat:Int))) && (decide ((x5.toNat:Int)≤122)))) && (decide (0 < (i2:Int)))) && !(((decide (48≤(x5.toNat:Int))) && (decide ((x5.toNat:Int)≤57))) || (decide ((x5.toNat:Int)=45))))) (andI hc (notI hb))))) (yv Z Z (fun hc=>ww (cnd (c:=(!((decide (97≤(x5.toNat:Int))) && (decide ((x5.toNat:Int)≤122))))) hc) (fun hb=>(cnd (c:=((!((decide (97≤(x5.toNat:Int))) && (decide ((x5.toNat:Int)≤122)))) && (decide (0 < (i2:Int))))) (andI hc hb))) Z) (za (vr Z Z (fun hb=>(cnd (c:=(!((decide (97≤(x5.toNat:Int))) && (decide ((x5.toNat:Int)≤122))))) (notI hb)))) (za (yr Z) (zg _ Z (fun h8 => ?_) (fun h8 => ?_)))))))))))))
  ·refine tE h8 H fun H=>zb hN Z (qe Z (zi ?_))
   replace H:=retl H hq3
   cases H
   exact ⟨U,.inl Z,U⟩
  ·exact fE h8 H fun H=>zl (zp hN Z (qd Z (za (qj Z Z (by omega)) (qe Z ⟨_,yx H,⟨Z,Z,U⟩,U⟩))))
theorem x98 (l1:(List vj)) (r:(Int)) (H:y3t l1=some r):Fn Tryz.prog 68 [vlst (List.map ki l1)] (zt [vint r]):=by
 refine ⟨by kernel_rfl,yf (us:=[vint r]) Tryz.func68 Z Z Z Z fun X hN => ?_⟩
 unfold y3t at H
 refine zb hN Z (qe Z (zf (zb hN Z (qd Z (za (qf z1y Z) (za (wa Z Z) (zg _ Z (fun h2 => ?_) (fun h2 => ?_))))))))
 ·refine tE h2 H fun H=>zb hN Z (qe Z (zi ?_))
  cases H
  exact ⟨U,.inl Z,U⟩
 ·refine fE h2 H fun H=>zl (zf (zb hN Z (qd Z (za (qf z1y Z) (qd Z (zx (gE H fun h5 H=>qy (fun (k3:Nat) (s:Unit)=>[(0,.dat (vlst (List.map ki l1))),(8,.dat (vlst (List.map ki l1))),(9,.dat (vint (l1.length:Int))),(10,.dat (vint (k3:Int)))]) (fun (k3:Nat) (s:Unit)=>[]) () H ⟨Z,Z,Z,Z,U⟩ U (fun _ _=>Z) ?_ ?_)))))))
  ·rintro ⟨⟩ H
   replace H:y11=some r:=H
   unfold y11 at H
   refine zb hN Z (za (zy Z Z) (zf (zg _ Z (fun h=>(lt_t h).elim) (fun h => ?_))))
   refine yt (zb hN Z (qe Z (zi ?_)))
   cases H
   exact ⟨U,.inl Z,U⟩
  ·rintro k3 x6 ⟨⟩ q4 h7 h8 H hq4
   replace H:y10 l1 k3 x6=some q4:=H
   unfold y10 at H
   refine zb hN Z (za (zy Z Z) (zf (zg _ Z (fun h => ?_) (fun h=>(lt_f h7 h).elim))))
   refine zl (zf (zx (zb hN Z (qd Z (za (wi z5g (fun _=>Z) Z Z h8) (za (Zf z1z Z (qg h8) Z) (zk (wd 1 z8i Z) Z (qe Z (zk (qw z1z Z Z Z Z) Z (zx (zb hN Z (za (zw z8q Z) (zr (ye tyS9 Z Z) Z (bE H fun r9 h10 H=>za (zm (x0m x6.Key r9 h10) ⟨.inl Z,U⟩) (za (yr Z) (qe Z (zg _ Z (fun h11 => ?_) (fun h11 => ?_))))))))))))))))))
   ·refine tE h11 H fun H=>zb hN Z (qe Z (zi ?_))
    replace H:=retl H hq4
    cases H
    exact ⟨U,.inl Z,U⟩
   ·refine fE h11 H fun H=>yc (ι:=Bool) (fun i=>[(0,.dat (vlst (List.map ki l1))),(4,.ptr 1 0),(8,.dat (vlst (List.map ki l1))),(9,.dat (vint (l1.length:Int))),(10,.dat (vint (k3:Int))),(20,.dat (zh i))]) (fun i=>[(1,.box none 68 [.dat (vstr x6.Key),.dat (vint x6.Weight)])]) (fun i=>z47 x6 i=some q4) (fun i=>Z) ?_ ?_
    ·skip
     refine vi mixed hN Z Z (qd Z (za (wa Z Z) (qd Z (yg (j:=2) Z Z (fun h12 => ?_) (fun h12 => ?_) Z))))
     ·refine u1 h12 H fun h13 H=>ze Z Z h12 (zw z8q Z) (ju Z Z h12 (ye tyS9 Z Z) Z (ze Z Z h12 (zd (.dat _) Z) (ze Z Z h12 (zd (.dat _) Z) (ze Z Z h12 (y2k Z Z (by omega)) (bE H fun x14 h15 H=>ze Z Z h12 (kw z5g (fun _=>Z) Z Z h15) (ze Z Z h12 (z85 z8q Z) (ze Z Z h12 (qz tyS9 Z (qg (wo h15).2) Z) (ze Z Z h12 (y2m Z Z) (za (zz Z (bTT h13) Z) (qe Z ⟨Z,?_⟩))))))))))
      exact ⟨(Op.bytesLess x6.Key x14.Key || x6.Key == x14.Key),H,⟨Z,Z,Z,Z,Z,Z,U⟩,⟨Z,U⟩⟩
     ·refine u2 h12 H fun h16 H=>zc Z Z h12 (zc Z Z h12 (zc Z Z h12 (zc Z Z h12 (zc Z Z h12 (zc Z Z h12 (zc Z Z h12 (zc Z Z h12 (zc Z Z h12 (za (zv Z (bFF h16) Z) (qe Z ⟨Z,?_⟩))))))))))
      exact ⟨false,H,⟨Z,Z,Z,Z,Z,Z,U⟩,⟨Z,U⟩⟩
    ·rintro v17 H
     replace H:z47 x6 v17=some q4:=H
     unfold z47 at H
     refine zg _ Z (fun h18 => ?_) (fun h18 => ?_)
     ·refine tE h18 H fun H=>zb hN Z (qe Z (zi ?_))
      replace H:=retl H hq4
      cases H
      exact ⟨U,.inl Z,U⟩
     ·refine fE h18 H fun H=>zb hN Z (za (zw y17 Z) (zr (ye tyS3 Z Z) Z (bE H fun r19 h20 H=>za (zm (z7d x6.Weight 1 100 r19 h20) ⟨.inl Z,.inl Z,.inl Z,U⟩) (qe Z (zg _ Z (fun h21 => ?_) (fun h21 => ?_))))))
      ·refine tE h21 H fun H=>zb hN Z (qe Z (zi ?_))
       replace H:=retl H hq4
       cases H
       exact ⟨U,.inl Z,U⟩
      ·exact fE h21 H fun H=>zl (zp hN Z (za (qj Z Z (by omega)) (qd Z ⟨_,yx H,⟨Z,Z,Z,Z,U⟩,U⟩)))
theorem x96 (l1:(List vj)) (r:(Int)) (H:y3s l1=some r):Fn Tryz.prog 70 [vlst (List.map ki l1)] (zt [vint r]):=by
 refine ⟨by kernel_rfl,yf (us:=[vint r]) Tryz.func70 Z Z Z Z fun X hN => ?_⟩
 unfold y3s at H
 refine zb hN Z (qe Z (zb hN Z (qe Z (zf (zb hN Z (qd Z (za (qf z1y Z) (qd Z (zx (gE H fun h5 H=>qy (fun (k3:Nat) (s:Int)=>[(3,.dat (vint s)),(6,.dat (vlst (List.map ki l1))),(7,.dat (vint (l1.length:Int))),(8,.dat (vint (k3:Int)))]) (fun (k3:Nat) (s:Int)=>[]) 0 H ⟨Z,Z,Z,Z,U⟩ U (fun _ _=>Z) ?_ ?_))))))))))
 ·rintro sum2 H
  replace H:y1v sum2=some r:=H
  unfold y1v at H
  refine zb hN Z (za (zy Z Z) (zf (zg _ Z (fun h=>(lt_t h).elim) (fun h => ?_))))
  refine yt (zb hN Z (qd Z (qe Z (zi ?_))))
  cases H
  exact ⟨U,.inl Z,U⟩
 ·rintro k3 x6 sum2 q4 h7 h8 H hq4
  replace H:y1u k3 x6 sum2=some q4:=H
  unfold y1u at H
  refine zb hN Z (za (zy Z Z) (zf (zg _ Z (fun h => ?_) (fun h=>(lt_f h7 h).elim))))
  exact zl (zf (zx (zb hN Z (za (wi z5g (fun _=>Z) Z Z h8) (za (Zf z1z Z (qg h8) Z) (zk (wd 1 z8i Z) Z (zk (qw z1z Z Z Z Z) Z (zp hN Z (qd Z (za (zw y17 Z) (zr (ye tyS3 Z Z) Z (za (yk _ Z Z (.inl ⟨Z,Z⟩)) (qe Z (zp hN Z (za (qj Z Z (by omega)) (qd Z ⟨_,yx H,⟨Z,Z,Z,Z,U⟩,U⟩))))))))))))))))
theorem x97 (v1:(List vj)) (v2:Int) (r:((List Bs)×Int)) (H:z92 v1 v2=some r):Fn Tryz.prog 28 [vlst (List.map ki v1),vint v2] (zt [vlst (List.map zq r.1),vint r.2]):=by
 refine ⟨by kernel_rfl,yf (us:=[vlst (List.map zq r.1),vint r.2]) Tryz.func28 Z Z Z Z fun X hN => ?_⟩
 unfold z92 at H
 refine zb hN Z (qe Z (qe Z (zf (zb hN Z (qd Z (bE H fun r3 h4 H=>za (zm (x98 v1 r3 h4) ⟨.inl Z,U⟩) (qe Z (zb hN Z (qd Z (za (qp Z Z) (zg _ Z (fun h5 => ?_) (fun h5 => ?_))))))))))))
 ·refine tE h5 H fun H=>zb hN Z (qd Z (qe Z (qe Z (zi ?_))))
  cases H
  exact ⟨U,.inr ⟨Z,Z⟩,.inl Z,U⟩
 ·refine fE h5 H fun H=>zl (zf (zb hN Z (qd Z (bE H fun r6 h7 H=>za (zm (z7d v2 0 2000 r6 h7) ⟨.inl Z,.inl Z,.inl Z,U⟩) (zg _ Z (fun h8 => ?_) (fun h8 => ?_))))))
  ·refine tE h8 H fun H=>zb hN Z (qe Z (qe Z (zi ?_)))
   cases H
   exact ⟨U,.inr ⟨Z,Z⟩,.inl Z,U⟩
  ·refine fE h8 H fun H=>zl (zf (zb hN Z (qd Z (za (qf z1y Z) (za (yu Z Z) (zg _ Z (fun h9 => ?_) (fun h9 => ?_)))))))
   ·refine tE h9 H fun H=>zb hN Z (qe Z (qe Z (zi ?_)))
    cases H
    exact ⟨U,.inr ⟨Z,Z⟩,.inl Z,U⟩
   ·refine fE h9 H fun H=>zl (zb hN Z (qd Z (za (qf z1y Z) (gE H fun h10 H=>zk (x5j (C:=qk) 1 0 z8p tyZ3 Z Z Z Z h10 Z) Z (za (qr (.row _ _) Z) (zb hN Z (qd Z (bE H fun r11 h12 H=>za (zm (x96 v1 r11 h12) ⟨.inl Z,U⟩) (qe Z (zb hN Z (qe Z (zf (zb hN Z (qd Z (qd Z (zx (jo 9 2 9 1 Z Z Z (gE H fun h17 H=>z1r (fun (k15:Nat) (s:(List Int)×(List Bs))=>[(0,.dat (vlst (List.map ki v1))),(7,.row 1 s.1.length),(8,.dat (vint r11)),(9,.row 2 s.2.length),(28,.dat (vint v2)),(29,.dat (vint (k15:Int)))]) (fun (k15:Nat) (s:(List Int)×(List Bs))=>[(1,.row 3 1 (List.map qk s.1)),(2,.row 9 1 (List.map zq s.2))]) ((List.replicate v1.length 0),[]) H ⟨Z,congrArg (Slot.row 1) (by simp),Z,Z,Z,Z,U⟩ ⟨Z,Z,U⟩ (fun _ _=>Z) ?_ ?_))))))))))))))))))
    ·rintro ⟨l13,l14⟩ H
     replace H:y1z l13 l14=some r:=H
     unfold y1z at H
     refine zb hN Z (za (zy Z Z) (zf (zg _ Z (fun h=>(y38 h).elim) (fun h => ?_))))
     refine yt (zb hN Z (za (zd (.row _ _) Z) (za (qr (.row _ _) Z) (qe Z (zi ?_)))))
     cases H
     exact ⟨U,Qw Z Z,.inl Z,U⟩
    ·rintro k15 ⟨l13,l14⟩ q16 h18 H hq16
     replace H:y1x v1 r11 k15 l13 l14=some q16:=H
     unfold y1x at H
     refine zb hN Z (za (zy Z Z) (zf (zg _ Z (fun h => ?_) (fun h=>(y39 h18 h).elim))))
     refine zl (zf (zx (zb hN Z (qe Z (zf (zb hN Z (qd Z (za (qf z1y Z) (qd Z (zx (gE H fun h23 H=>qy (fun (k21:Nat) (s:Int×(List Int))=>[(0,.dat (vlst (List.map ki v1))),(7,.row 1 s.2.length),(8,.dat (vint r11)),(9,.row 2 l14.length),(10,.dat (vint s.1)),(28,.dat (vint v2)),(29,.dat (vint (k15:Int))),(31,.dat (vlst (List.map ki v1))),(32,.dat (vint (v1.length:Int))),(33,.dat (vint (k21:Int)))]) (fun (k21:Nat) (s:Int×(List Int))=>[(1,.row 3 1 (List.map qk s.2)),(2,.row 9 1 (List.map zq l14))]) (0,l13) H ⟨Z,Z,Z,Z,Z,Z,Z,Z,Z,Z,U⟩ ⟨Z,Z,U⟩ (fun _ _=>Z) ?_ ?_)))))))))))
     ·rintro ⟨v19,l20⟩ H
      replace H:y1y v1 r11 l14 v19 l20=some q16:=H
      unfold y1y at H
      refine zb hN Z (za (zy Z Z) (zf (zg _ Z (fun h=>(lt_t h).elim) (fun h => ?_))))
      refine yt (zb hN Z (za (zd (.row _ _) Z) (qd Z (bE H fun x25 h26 H=>zr (z5j Yj Z Z Z h26) Z (zr (z5i tyS3 Z Z (wo h26).2 Z) Z (qd Z (za (yk _ Z Z (.inr (.inl ⟨Z,Z⟩))) (zr (z5j Yj Z Z Z h26) Z (zk (z82 (wr (x25 - r11)) tyS3 Z Z Z Z (wo h26).2 Z Z) Z (zp hN Z (za (zd (.row _ _) Z) (qd Z (qd Z (bE H fun x27 h28 H=>za (kw z5g (fun _=>Z) Z Z h28) (za (z85 z8q Z) (za (qz tyS9 Z (qg (wo h28).2) Z) (za (yb (u':=vlst (List.map zq [x27.Key])) (yo [[_]] yq ⟨Z,.inl ⟨_,Z,Z,Z⟩,Z,U⟩ Z Z) Z) (gE H fun h29 H=>zk (je yq (fun _=>Z) Z Z Z ⟨by simp,by first | (simp; done) | simpa using h29⟩ Z) Z ?_))))))))))))))))))
      exact za (qr (.row _ _) Z) (zp hN Z (za (qj Z Z (by omega)) (qd Z ⟨_,yx H,⟨Z,congrArg (Slot.row 1) (by simp),Z,Z,Z,Z,U⟩,⟨Z,Z,U⟩⟩)))
     ·rintro k21 x24 ⟨v19,l20⟩ q22 h30 h31 H hq22
      replace H:y1w k21 x24 v19 l20=some q22:=H
      unfold y1w at H
      refine zb hN Z (za (zy Z Z) (zf (zg _ Z (fun h => ?_) (fun h=>(lt_f h30 h).elim))))
      refine zl (yc (ι:=Int×(List Int)) (fun i=>[(0,.dat (vlst (List.map ki v1))),(7,.row 1 i.2.length),(8,.dat (vint r11)),(9,.row 2 l14.length),(10,.dat (vint i.1)),(28,.dat (vint v2)),(29,.dat (vint (k15:Int))),(31,.dat (vlst (List.map ki v1))),(32,.dat (vint (v1.length:Int))),(33,.dat (vint (k21:Int)))]) (fun i=>[(1,.row 3 1 (List.map qk i.2)),(2,.row 9 1 (List.map zq l14))]) (fun i=>z45 i.1 i.2=some q22) (fun i=>Z) ?_ ?_)
      ·skip
       refine zx (zb hN Z (qd Z (za (wi z5g (fun _=>Z) Z Z h31) (za (Zf z1z Z (qg h31) Z) (zk (wd 3 z8i Z) Z (qe Z (zk (qw z1z Z Z Z Z) Z (zf (vi mixed hN Z Z (za (zd (.row _ _) Z) (qd Z (bE H fun x32 h33 H=>zr (Qx Yj Z Z Z h33) Z (zr (z5i tyS3 Z Z h33 Z) Z (za (zw y17 Z) (zr (ye tyS3 Z Z) Z (za (yk _ Z Z (.inl ⟨Z,Z⟩)) (zr (Qx Yj Z Z Z h33) Z (zk (z82 (wr (x32+x24.Weight)) tyS3 Z Z Z Z h33 Z Z) Z ⟨Z,?_⟩))))))))))))))))))
       refine zf (vi mixed hN Z Z (za (zd (.row _ _) Z) (qd Z (bE H fun x34 h35 H=>zr (Qx Yj Z (by simp) Z h35) Z (zr (z5i tyS3 Z (by simp) h35 Z) Z (za (zd (.row _ _) Z) (qd Z (bE H fun x36 h37 H=>zr (z5j Yj Z (by simp) Z h37) Z (zr (z5i tyS3 Z (by simp) (wo h37).2 Z) Z (za (wa Z Z) ⟨Z,?_⟩))))))))))
       refine zg _ Z (fun h38 => ?_) (fun h38 => ?_)
       ·exact tE h38 H fun H=>zp hN Z (qd Z (qe Z ⟨((k21:Int),(l20.set k21 (wr (x32+x24.Weight)))),H,⟨Z,congrArg (Slot.row 1) (by simp),Z,Z,Z,Z,Z,Z,Z,Z,U⟩,⟨Z,Z,U⟩⟩))
       ·exact fE h38 H fun H=>zl ⟨(v19,(l20.set k21 (wr (x32+x24.Weight)))),H,⟨Z,congrArg (Slot.row 1) (by simp),Z,Z,Z,Z,Z,Z,Z,Z,U⟩,⟨Z,Z,U⟩⟩
      ·rintro ⟨v39,v40⟩ H
       replace H:z45 v39 v40=some q22:=H
       unfold z45 at H
       exact zp hN Z (za (qj Z Z (by omega)) (qd Z ⟨_,yx H,⟨Z,Z,Z,Z,Z,Z,Z,Z,Z,Z,U⟩,⟨Z,Z,U⟩⟩))
theorem y4l (a1:ym) (r:(Int)) (H:xb a1=some r):Fn Tryz.prog 33 [vagg (ku a1)] (zt [vint r]):=by
 refine ⟨by kernel_rfl,yf (us:=[vint r]) Tryz.func33 Z Z Z Z fun X hN => ?_⟩
 unfold xb at H
 refine zb hN Z (zk (wy 1 Z) Z (qe Z (zf (zb hN Z (za (zw y19 Z) (zr (ye tyS3 Z Z) Z (bE H fun r2 h3 H=>za (zm (z7d a1.Status 100 599 r2 h3) ⟨.inl Z,.inl Z,.inl Z,U⟩) (zg _ Z (fun h4 => ?_) (fun h4 => ?_)))))))))
 ·refine tE h4 H fun H=>zb hN Z (qe Z (zi ?_))
  cases H
  exact ⟨U,.inl Z,U⟩
 ·refine fE h4 H fun H=>zl (zf (zb hN Z (za (zw Qr Z) (zr (ye vk Z Z) Z (bE H fun r5 h6 H=>za (zm (x0k a1.Headers r5 h6) ⟨.inl Z,U⟩) (qe Z (zb hN Z (qd Z (za (qp Z Z) (zg _ Z (fun h7 => ?_) (fun h7 => ?_)))))))))))
  ·refine tE h7 H fun H=>zb hN Z (qd Z (qe Z (zi ?_)))
   cases H
   exact ⟨U,.inl Z,U⟩
  ·refine fE h7 H fun H=>zl (zf (zb hN Z (za (zw y6y Z) (zr (ye tyS9 Z Z) Z (za (yw tyU9 Z) (za (wa Z Z) (zg _ Z (fun h8 => ?_) (fun h8 => ?_))))))))
   ·refine tE h8 H fun H=>zb hN Z (qe Z (zi ?_))
    cases H
    exact ⟨U,.inl Z,U⟩
   ·refine fE h8 H fun H=>zl (zb hN Z (qe Z (zi ?_)))
    cases H
    exact ⟨U,.inl Z,U⟩
theorem x0r (qb:Nat) (r:((List Bs)×(List Int))) (H:z64  = some r):Fn Tryz.prog 125 [vval (.pointer (some ⟨qb,0,none⟩))] (zt [vlst (List.map zq r.1),vlst (List.map (CP qb) r.2)]):=by
 refine ⟨by kernel_rfl,yf (us:=[vlst (List.map zq r.1),vlst (List.map (CP qb) r.2)]) Tryz.func125 Z Z Z Z fun X hN => ?_⟩
 unfold z64 at H
 refine zb hN Z (qe Z (qe Z (zf (vi mixed hN Z Z (za (yb (u':=vlst (List.map zq [[109,97,120,45,97,103,101],[115,45,109,97,120,97,103,101],[115,116,97,108,101,45,119,104,105,108,101,45,114,101,118,97,108,105,100,97,116,101],[115,116,97,108,101,45,105,102,45,101,114,114,111,114],[109,97,120,45,115,116,97,108,101],[109,105,110,45,102,114,101,115,104]])) (yo [[_],[_],[_],[_],[_],[_]] yq ⟨Z,.inl ⟨_,Z,Z,Z⟩,Z,Z,.inl ⟨_,Z,Z,Z⟩,Z,Z,.inl ⟨_,Z,Z,Z⟩,Z,Z,.inl ⟨_,Z,Z,Z⟩,Z,Z,.inl ⟨_,Z,Z,Z⟩,Z,Z,.inl ⟨_,Z,Z,Z⟩,Z,U⟩ Z Z) Z) (qd Z (za (uf Z) (za (ug y2c Z) (qd Z (za (uf Z) (za (ug y2b Z) (qd Z (za (uf Z) (za (ug x4v Z) (qd Z (za (uf Z) (za (ug x4u Z) (qd Z (za (uf Z) (za (ug x41 Z) (qd Z (za (uf Z) (za (ug x40 Z) ?_)))))))))))))))))))))))
 refine za (yb (u':=vlst (List.map (CP qb) ([6,7,8,9,10,11]:List Int))) (yo [[_],[_],[_],[_],[_],[_]] x4r ⟨Z,.inl ⟨_,Z,Z,Z⟩,Z,Z,.inl ⟨_,Z,Z,Z⟩,Z,Z,.inl ⟨_,Z,Z,Z⟩,Z,Z,.inl ⟨_,Z,Z,Z⟩,Z,Z,.inl ⟨_,Z,Z,Z⟩,Z,Z,.inl ⟨_,Z,Z,Z⟩,Z,U⟩ Z Z) Z) (qe Z (qe Z ⟨Z,?_⟩))
 refine zi ?_
 cases H
 exact ⟨U,.inl Z,.inl Z,U⟩
theorem w0e (s t:Bs) (r:Bool) (H:z93 s t=some r):Fn Tryz.prog 183 [vstr s,vstr t] (zt [zh r]):=by
 unfold z93 at H
 obtain ⟨⟨h1,h2,h3⟩,h4⟩:=gif H
 cases h4
 refine xw (by kernel_rfl) fun M w vs hM h => ?_
 have hv:=kg (us:=[.string ⟨s.toArray⟩,.string ⟨t.toArray⟩]) h
 subst hv
 refine (Tryz.strings_EqualFold ⟨s.toArray⟩ ⟨t.toArray⟩ w (by simp [ByteArray.size]; omega) (fun j b hb=>z4z h2 j b (by simpa using hb)) (fun j b hb=>z4z h3 j b (by simpa using hb))).mono ?_
 rintro e w' ⟨rfl,rfl⟩
 exact ⟨_,Z,Z,Kp.refl _ _⟩

theorem w0o (h1:zo) (name2:Bs) (r:(Bool)) (H:z6h h1 name2=some r):Fn Tryz.prog 141 [vagg (yh h1),vstr name2] (zt [zh r]):=by
 refine ⟨by kernel_rfl,yf (us:=[zh r]) Tryz.func141 Z Z Z Z fun X hN => ?_⟩
 unfold z6h at H
 refine zb hN Z (zk (wy 1 Z) Z (qe Z (zb hN Z (za (zw z12 Z) (zr (ye tyS9 Z Z) Z (qd Z (bE H fun r3 h4 H=>za (zm (w0e h1.Name name2 r3 h4) ⟨.inl Z,.inl Z,U⟩) (qe Z (zi ?_)))))))))
 cases H
 exact ⟨U,.inl Z,U⟩
theorem y0j (l1:(List zo)) (name2:Bs) (r:((List Bs))) (H:xa l1 name2=some r):Fn Tryz.prog 84 [vlst (List.map yh l1),vstr name2] (zt [vlst (List.map zq r)]):=by
 refine ⟨by kernel_rfl,yf (us:=[vlst (List.map zq r)]) Tryz.func84 Z Z Z Z fun X hN => ?_⟩
 unfold xa at H
 refine zb hN Z (qe Z (zb hN Z (qe Z (zf (zb hN Z (qd Z (za (qf Zb Z) (qd Z (zx (jo 5 1 9 1 Z Z Z (gE H fun h6 H=>qy (fun (k4:Nat) (s:(List Bs))=>[(1,.dat (vstr name2)),(5,.row 1 s.length),(8,.dat (vlst (List.map yh l1))),(9,.dat (vint (l1.length:Int))),(10,.dat (vint (k4:Int)))]) (fun (k4:Nat) (s:(List Bs))=>[(1,.row 9 1 (List.map zq s))]) [] H ⟨Z,Z,Z,Z,Z,U⟩ ⟨Z,U⟩ (fun _ _=>Z) ?_ ?_)))))))))))
 ·rintro l3 H
  replace H:z9x l3=some r:=H
  unfold z9x at H
  refine zb hN Z (za (zy Z Z) (zf (zg _ Z (fun h=>(lt_t h).elim) (fun h => ?_))))
  refine yt (zb hN Z (za (zd (.row _ _) Z) (za (qr (.row _ _) Z) (zi ?_))))
  cases H
  exact ⟨U,Qw Z Z,U⟩
 ·rintro k4 x7 l3 q5 h8 h9 H hq5
  replace H:Wm name2 k4 x7 l3=some q5:=H
  unfold Wm at H
  refine zb hN Z (za (zy Z Z) (zf (zg _ Z (fun h => ?_) (fun h=>(lt_f h8 h).elim))))
  refine zl (yc (ι:=(List Bs)) (fun i=>[(1,.dat (vstr name2)),(5,.row 1 i.length),(8,.dat (vlst (List.map yh l1))),(9,.dat (vint (l1.length:Int))),(10,.dat (vint (k4:Int)))]) (fun i=>[(1,.row 9 1 (List.map zq i))]) (fun i=>z2n i=some q5) (fun i=>Z) ?_ ?_)
  ·skip
   refine zx (zb hN Z (za (wi z15 (fun _=>Z) Z Z h9) (za (Zf uu Z (qg h9) Z) (zk (wd 2 ut Z) Z (zk (qw uu Z Z Z Z) Z (zb hN Z (zr (qh uu Z Z Z) Z (qd Z (bE H fun r10 h11 H=>za (zm (w0o x7 name2 r10 h11) ⟨.inl Z,.inl Z,U⟩) (zg _ Z (fun h12 => ?_) (fun h12 => ?_)))))))))))
   ·refine tE h12 H fun H=>zp hN Z (za (zd (.row _ _) Z) (za (zw z8r Z) (zr (ye tyS9 Z Z) Z (za (yb (u':=vlst (List.map zq [x7.Value])) (yo [[_]] yq ⟨Z,.inl ⟨_,Z,Z,Z⟩,Z,U⟩ Z Z) Z) (gE H fun h13 H=>zk (je yq (fun _=>Z) Z Z Z ⟨by simp,by first | (simp; done) | simpa using h13⟩ Z) Z ?_)))))
    exact za (qr (.row _ _) Z) ⟨(l3++[x7.Value]),H,⟨Z,Z,Z,Z,Z,U⟩,⟨Z,U⟩⟩
   ·exact fE h12 H fun H=>zl ⟨l3,H,⟨Z,Z,Z,Z,Z,U⟩,⟨Z,U⟩⟩
  ·rintro out14 H
   replace H:z2n out14=some q5:=H
   unfold z2n at H
   exact zp hN Z (za (qj Z Z (by omega)) (qd Z ⟨_,yx H,⟨Z,Z,Z,Z,Z,U⟩,⟨Z,U⟩⟩))
theorem w0s (values1:(List Bs)) (r:((List Bs))) (H:Yw values1=some r):Fn Tryz.prog 83 [vlst (List.map zq values1)] (zt [vlst (List.map zq r)]):=by
 refine ⟨by kernel_rfl,yf (us:=[vlst (List.map zq r)]) Tryz.func83 Z Z Z Z fun X hN => ?_⟩
 unfold Yw at H
 refine zb hN Z (qe Z (zb hN Z (qe Z (zf (zb hN Z (qd Z (za (qf wm Z) (qd Z (zx (jo 3 1 9 1 Z Z Z (gE H fun h5 H=>qy (fun (k3:Nat) (s:(List Bs))=>[(3,.row 1 s.length),(8,.dat (vlst (List.map zq values1))),(9,.dat (vint (values1.length:Int))),(10,.dat (vint (k3:Int)))]) (fun (k3:Nat) (s:(List Bs))=>[(1,.row 9 1 (List.map zq s))]) [] H ⟨Z,Z,Z,Z,U⟩ ⟨Z,U⟩ (fun _ _=>Z) ?_ ?_)))))))))))
 ·rintro l2 H
  replace H:z2p l2=some r:=H
  unfold z2p at H
  refine zb hN Z (za (zy Z Z) (zf (zg _ Z (fun h=>(lt_t h).elim) (fun h => ?_))))
  refine yt (zb hN Z (za (zd (.row _ _) Z) (za (qr (.row _ _) Z) (zi ?_))))
  cases H
  exact ⟨U,Qw Z Z,U⟩
 ·rintro k3 x6 l2 q4 h7 h8 H hq4
  replace H:Zn k3 x6 l2=some q4:=H
  unfold Zn at H
  refine zb hN Z (za (zy Z Z) (zf (zg _ Z (fun h => ?_) (fun h=>(lt_f h7 h).elim))))
  refine zl (zf (zx (zb hN Z (za (wi vm (fun _=>Z) Z Z h8) (za (qz tyS9 Z (qg h8) Z) (qe Z (zb hN Z (qd Z (bE H fun r9 h10 H=>za (zm (z0p x6 [44] r9 h10) ⟨.inl Z,.inl Z,U⟩) (za (qf wm Z) (qd Z (zx (gE H fun h14 H=>qy (fun (k12:Nat) (s:(List Bs))=>[(3,.row 1 s.length),(8,.dat (vlst (List.map zq values1))),(9,.dat (vint (values1.length:Int))),(10,.dat (vint (k3:Int))),(15,.dat (vlst (List.map zq r9))),(16,.dat (vint (r9.length:Int))),(17,.dat (vint (k12:Int)))]) (fun (k12:Nat) (s:(List Bs))=>[(1,.row 9 1 (List.map zq s))]) l2 H ⟨Z,Z,Z,Z,Z,Z,Z,U⟩ ⟨Z,U⟩ (fun _ _=>Z) ?_ ?_)))))))))))))
  ·rintro l11 H
   replace H:z2o l11=some q4:=H
   unfold z2o at H
   refine zb hN Z (za (zy Z Z) (zf (zg _ Z (fun h=>(lt_t h).elim) (fun h => ?_))))
   exact yt (zp hN Z (za (qj Z Z (by omega)) (qd Z ⟨_,yx H,⟨Z,Z,Z,Z,U⟩,⟨Z,U⟩⟩)))
  ·rintro k12 x15 l11 q13 h16 h17 H hq13
   replace H:Zm k12 x15 l11=some q13:=H
   unfold Zm at H
   refine zb hN Z (za (zy Z Z) (zf (zg _ Z (fun h => ?_) (fun h=>(lt_f h16 h).elim))))
   refine zl (yc (ι:=(List Bs)) (fun i=>[(3,.row 1 i.length),(8,.dat (vlst (List.map zq values1))),(9,.dat (vint (values1.length:Int))),(10,.dat (vint (k3:Int))),(15,.dat (vlst (List.map zq r9))),(16,.dat (vint (r9.length:Int))),(17,.dat (vint (k12:Int)))]) (fun i=>[(1,.row 9 1 (List.map zq i))]) (fun i=>Zo i=some q13) (fun i=>Z) ?_ ?_)
   ·skip
    refine zx (zb hN Z (za (wi vm (fun _=>Z) Z Z h17) (za (qz tyS9 Z (qg h17) Z) (qe Z (zb hN Z (qd Z (bE H fun r18 h19 H=>za (zm (z3q x15 [32] r18 h19) ⟨.inl Z,.inl Z,U⟩) (qe Z (zb hN Z (qd Z (za (kj Z Z) (zg _ Z (fun h20 => ?_) (fun h20 => ?_)))))))))))))
    ·refine tE h20 H fun H=>zp hN Z (za (zd (.row _ _) Z) (qd Z (za (yb (u':=vlst (List.map zq [r18])) (yo [[_]] yq ⟨Z,.inl ⟨_,Z,Z,Z⟩,Z,U⟩ Z Z) Z) (gE H fun h21 H=>zk (je yq (fun _=>Z) Z Z Z ⟨by simp,by first | (simp; done) | simpa using h21⟩ Z) Z ?_))))
     exact za (qr (.row _ _) Z) ⟨(l11++[r18]),H,⟨Z,Z,Z,Z,Z,Z,Z,U⟩,⟨Z,U⟩⟩
    ·exact fE h20 H fun H=>zl ⟨l11,H,⟨Z,Z,Z,Z,Z,Z,Z,U⟩,⟨Z,U⟩⟩
   ·rintro out22 H
    replace H:Zo out22=some q13:=H
    unfold Zo at H
    exact zp hN Z (za (qj Z Z (by omega)) (qd Z ⟨_,yx H,⟨Z,Z,Z,Z,Z,Z,Z,U⟩,⟨Z,U⟩⟩))
theorem w1t (s1:Bs) (r:(Int×Bool)) (H:z62 s1=some r):Fn Tryz.prog 177 [vstr s1] (zt [vint r.1,zh r.2]):=by
 refine ⟨by kernel_rfl,yf (us:=[vint r.1,zh r.2]) Tryz.func177 Z Z Z Z fun X hN => ?_⟩
 unfold z62 at H
 refine zb hN Z (qe Z (qe Z (zb hN Z (qd Z (bE H fun r2 h3 H=>za (zm (x0l s1 r2 h3) ⟨.inl Z,U⟩) (qd Z (za (yd Z Z) (za (yd Z Z) (qe Z (qe Z (yc (ι:=Bool) (fun i=>[(2,.dat (vint r2.1)),(3,.dat (zh i))]) (fun i=>[]) (fun i=>z4w r2 i=some r) (fun i=>Z) ?_ ?_)))))))))))
 ·skip
  refine zp hN Z (qd Z (qd Z (qd Z (yg (j:=2) Z Z (fun h4 => ?_) (fun h4 => ?_) Z))))
  ·exact u1 h4 H fun h5 H=>ze Z Z h4 (zd (.dat _) Z) (bE H fun r6 h7 H=>ze Z Z h4 (zm (z7d r2.1 0 100000000 r6 h7) ⟨.inl Z,.inl Z,.inl Z,U⟩) (ze Z Z h4 (yr Z) (za (zz Z (bTT h5) Z) (qe Z (qe Z ⟨!r6,H,⟨Z,Z,U⟩,U⟩)))))
  ·exact u2 h4 H fun h8 H=>zc Z Z h4 (zc Z Z h4 (zc Z Z h4 (za (zv Z (bFF h8) Z) (qe Z (qe Z ⟨false,H,⟨Z,Z,U⟩,U⟩)))))
 ·rintro v9 H
  replace H:z4w r2 v9=some r:=H
  unfold z4w at H
  refine zi ?_
  cases H
  exact ⟨U,.inl Z,.inl Z,U⟩
theorem w1y (qb:Nat) (r:((List Bs)×(List Int))) (H:y0b  = some r):Fn Tryz.prog 178 [vval (.pointer (some ⟨qb,0,none⟩))] (zt [vlst (List.map zq r.1),vlst (List.map (CP qb) r.2)]):=by
 refine ⟨by kernel_rfl,yf (us:=[vlst (List.map zq r.1),vlst (List.map (CP qb) r.2)]) Tryz.func178 Z Z Z Z fun X hN => ?_⟩
 unfold y0b at H
 refine zb hN Z (qe Z (qe Z (zf (vi mixed hN Z Z (za (yb (u':=vlst (List.map zq [[110,111,45,115,116,111,114,101],[110,111,45,99,97,99,104,101],[112,114,105,118,97,116,101],[112,117,98,108,105,99],[109,117,115,116,45,114,101,118,97,108,105,100,97,116,101],[111,110,108,121,45,105,102,45,99,97,99,104,101,100]])) (yo [[_],[_],[_],[_],[_],[_]] yq ⟨Z,.inl ⟨_,Z,Z,Z⟩,Z,Z,.inl ⟨_,Z,Z,Z⟩,Z,Z,.inl ⟨_,Z,Z,Z⟩,Z,Z,.inl ⟨_,Z,Z,Z⟩,Z,Z,.inl ⟨_,Z,Z,Z⟩,Z,Z,.inl ⟨_,Z,Z,Z⟩,Z,U⟩ Z Z) Z) (qd Z (za (uf Z) (za (ug x42 Z) (qd Z (za (uf Z) (za (ug y61 Z) (qd Z (za (uf Z) (za (ug x4z Z) (qd Z (za (uf Z) (za (ug x4y Z) (qd Z (za (uf Z) (za (ug x4x Z) (qd Z (za (uf Z) (za (ug x4w Z) ?_)))))))))))))))))))))))
 refine za (yb (u':=vlst (List.map (CP qb) ([0,1,2,3,4,5]:List Int))) (yo [[_],[_],[_],[_],[_],[_]] x4q ⟨Z,.inl ⟨_,Z,Z,Z⟩,Z,Z,.inl ⟨_,Z,Z,Z⟩,Z,Z,.inl ⟨_,Z,Z,Z⟩,Z,Z,.inl ⟨_,Z,Z,Z⟩,Z,Z,.inl ⟨_,Z,Z,Z⟩,Z,Z,.inl ⟨_,Z,Z,Z⟩,Z,U⟩ Z Z) Z) (qe Z (qe Z ⟨Z,?_⟩))
 refine zi ?_
 cases H
 exact ⟨U,.inl Z,.inl Z,U⟩
theorem y4h (s1:(List Bs)) (v2:Bs) (r:(Int)) (H:Wx s1 v2=some r):Fn Tryz.prog 142 [vlst (List.map zq s1),vstr v2] (zt [vint r]):=by
 refine ⟨by kernel_rfl,yf (us:=[vint r]) Tryz.func142 Z Z Z Z fun X hN => ?_⟩
 unfold Wx at H
 refine zb hN Z (qe Z (zf (zb hN Z (qd Z (za (qf wm Z) (qd Z (zx (gE H fun h5 H=>qy (fun (k3:Nat) (s:Unit)=>[(0,.dat (vlst (List.map zq s1))),(1,.dat (vstr v2)),(7,.dat (vint (s1.length:Int))),(8,.dat (vint (k3:Int)))]) (fun (k3:Nat) (s:Unit)=>[]) () H ⟨Z,Z,Z,Z,U⟩ U (fun _ _=>Z) ?_ ?_))))))))
 ·rintro ⟨⟩ H
  replace H:y2x=some r:=H
  unfold y2x at H
  refine zb hN Z (za (zy Z Z) (zf (zg _ Z (fun h=>(lt_t h).elim) (fun h => ?_))))
  refine yt (zb hN Z (qe Z (zi ?_)))
  cases H
  exact ⟨U,.inl Z,U⟩
 ·rintro k3 x6 ⟨⟩ q4 h7 h8 H hq4
  replace H:y2w v2 k3 x6=some q4:=H
  unfold y2w at H
  refine zb hN Z (za (zy Z Z) (zf (zg _ Z (fun h => ?_) (fun h=>(lt_f h7 h).elim))))
  refine zl (zf (zx (zb hN Z (qd Z (qe Z (zb hN Z (qd Z (qd Z (qd Z (za (wi vm (fun _=>Z) Z Z h8) (za (qz tyS9 Z (qg h8) Z) (za (va Z Z) (zg _ Z (fun h9 => ?_) (fun h9 => ?_))))))))))))))
  ·refine tE h9 H fun H=>zb hN Z (qd Z (qe Z (zi ?_)))
   replace H:=retl H hq4
   cases H
   exact ⟨U,.inl Z,U⟩
  ·exact fE h9 H fun H=>zl (zp hN Z (za (qj Z Z (by omega)) (qd Z ⟨_,yx H,⟨Z,Z,Z,Z,U⟩,U⟩)))
theorem w1q (s1:yp) (v2:Bs) (r:(Bool×yp)) (H:z3i s1 v2=some r):Imp Tryz.prog 126 114 (jp s1) [vstr v2] (zt [zh r.1]) (jp r.2):=by
 refine jm (us:=[zh r.1]) (cs':=(jp r.2)) (by kernel_rfl) Tryz.func126 Z Z Z Z fun X bl hN => ?_
 unfold z3i at H
 refine zb hN Z (qe Z (zb hN Z (qd Z (bE H fun r3 h4 H=>za (zm (z7c v2 [61] r3 h4) ⟨.inl Z,.inl Z,U⟩) (qd Z (za (yd Z Z) (za (yd Z Z) (za (yd Z Z) (qe Z (qe Z (qe Z (zb hN Z (qd Z (bE H fun r5 h6 H=>za (zm (w1t r3.2.1 r5 h6) ⟨.inl Z,U⟩) (qd Z (za (yd Z Z) (za (yd Z Z) (qe Z (qe Z (zf (zb hN Z ?_)))))))))))))))))))))
 refine qd Z (bE H fun r7 h8 H=>za (zm (y0k r3.1 r7 h8) ⟨.inl Z,U⟩) (za (yr Z) (qd Z (yv Z Z (fun hc=>zd (.dat _) Z) (yv Z Z (fun hc=>zd (.dat _) (cnd (c:=(!(!r7))) hc)) (wc Z Z (fun hc=>zd (.dat _) Z) (wc Z Z (fun hc=>yr (cnd (c:=((!(!r7)) && r3.2.2)) hc)) (yv Z Z (fun hc=>ww (cnd (c:=(!(!r7))) hc) (fun hb=>(cnd (c:=((!(!r7)) && r3.2.2)) (andI hc hb))) Z) (za (vr Z Z (fun hb=>(cnd (c:=(!(!r7))) (notI hb)))) (zg _ Z (fun h9 => ?_) (fun h9 => ?_)))))))))))
 ·refine tE h9 H fun H=>zb hN Z (qe Z (zi ?_))
  cases H
  exact ⟨U,⟨.inl Z,U⟩,Z⟩
 ·refine fE h9 H fun H=>zl (zb hN Z (qd Z (bE H fun r10 h11 H=>za (zm (Qb r3.1 r10 h11) ⟨.inl Z,U⟩) (qe Z (zb hN Z (za (zd (.ptr _ _) Z) (bE H fun r12 h13 H=>zr (vt (s := .dr 0 (fun qb=>vtup [vlst (List.map zq r12.1),vlst (List.map (CP qb) r12.2)])) 0 (fun qb=>zm (w1y qb r12 h13) ⟨.inl Z,U⟩) Z Z) Z (za (zd (.dr _ _) Z) (zr (vt (s := .dat (vlst (List.map zq r12.1))) 0 (fun qb=>yd Z Z) Z Z) Z (zr (vt (s := .dr 0 (fun qb=>vlst (List.map (CP qb) r12.2))) 0 (fun qb=>yd Z Z) Z Z) Z (qe Z (za (qr (.dr _ _) Z) (zf (zb hN Z (qd Z (qd Z (bE H fun r14 h15 H=>za (zm (y4h r12.1 r10 r14 h15) ⟨.inl Z,.inl Z,U⟩) (qe Z (zb hN Z ?_)))))))))))))))))))
  refine qd Z (za (wx Z Z) (zg _ Z (fun h16 => ?_) (fun h16 => ?_)))
  ·refine tE h16 H fun H=>zb hN Z (za (zd (.dr _ _) Z) (qd Z (bE H fun x17 h18 H=>zr (vt (s := .dr 0 (fun qb=>jg (List.map (CP qb) r12.2) r14.toNat 0)) 0 (fun qb=>kw x43 (fun _=>Z) Z Z h18) Z Z) Z (gE H fun h19 H=>zr (vt (s := .ptr 0 x17.toNat) 0 (fun qb=>qz x4l Z (qg (wo h18).2) Z) Z Z) Z (za (ji Z) (bE H fun c20 h21 H=>zk (y2l tyS4 Z Z Z (x6v (c:=s1) h19 h21)) Z (zb hN Z (qd Z (za (yr Z) (qe Z (zi ?_)))))))))))
   cases H
   exact ⟨U,⟨.inl Z,U⟩,Z⟩
  ·refine fE h16 H fun H=>zl (zb hN Z (za (zd (.ptr _ _) Z) (bE H fun r22 h23 H=>zr (vt (s := .dr 0 (fun qb=>vtup [vlst (List.map zq r22.1),vlst (List.map (CP qb) r22.2)])) 0 (fun qb=>zm (x0r qb r22 h23) ⟨.inl Z,U⟩) Z Z) Z (za (zd (.dr _ _) Z) (zr (vt (s := .dat (vlst (List.map zq r22.1))) 0 (fun qb=>yd Z Z) Z Z) Z (zr (vt (s := .dr 0 (fun qb=>vlst (List.map (CP qb) r22.2))) 0 (fun qb=>yd Z Z) Z Z) Z (qe Z (za (qr (.dr _ _) Z) (zb hN Z (qd Z (qd Z (bE H fun r24 h25 H=>za (zm (y4h r22.1 r10 r24 h25) ⟨.inl Z,.inl Z,U⟩) (qe Z (zf (zb hN Z (qd Z (za (zy Z Z) (zg _ Z (fun h26 => ?_) (fun h26 => ?_)))))))))))))))))))
   ·refine tE h26 H fun H=>zb hN Z (qe Z (zi ?_))
    cases H
    exact ⟨U,⟨.inl Z,U⟩,Z⟩
   ·refine fE h26 H fun H=>zl (yc (ι:=Bool×Bool×Bool×Bool×Bool×Bool×Int×Int×Int×Int×Int×Int) (fun i=>[(7,.dat (zh r3.2.2))]) (fun i=>[(0,.box (some bl) 114 [.dat (zh i.1),.dat (zh i.2.1),.dat (zh i.2.2.1),.dat (zh i.2.2.2.1),.dat (zh i.2.2.2.2.1),.dat (zh i.2.2.2.2.2.1),.dat (vint i.2.2.2.2.2.2.1),.dat (vint i.2.2.2.2.2.2.2.1),.dat (vint i.2.2.2.2.2.2.2.2.1),.dat (vint i.2.2.2.2.2.2.2.2.2.1),.dat (vint i.2.2.2.2.2.2.2.2.2.2.1),.dat (vint i.2.2.2.2.2.2.2.2.2.2.2)])]) (fun i=>z4v r3 i.1 i.2.1 i.2.2.1 i.2.2.2.1 i.2.2.2.2.1 i.2.2.2.2.2.1 i.2.2.2.2.2.2.1 i.2.2.2.2.2.2.2.1 i.2.2.2.2.2.2.2.2.1 i.2.2.2.2.2.2.2.2.2.1 i.2.2.2.2.2.2.2.2.2.2.1 i.2.2.2.2.2.2.2.2.2.2.2=some r) (fun i=>Z) ?_ ?_)
    ·skip
     refine yc (ι:=Bool) (fun i=>[(7,.dat (zh r3.2.2)),(8,.dat (vint r5.1)),(13,.dr 0 (fun qb=>vlst (List.map (CP qb) r22.2))),(14,.dat (vint r24)),(81,.dat (zh i))]) (fun i=>[(0,.box (some bl) 114 [.dat (zh s1.NoStore),.dat (zh s1.NoCache),.dat (zh s1.Private),.dat (zh s1.Public),.dat (zh s1.Must),.dat (zh s1.Only),.dat (vint s1.MaxAge),.dat (vint s1.Shared),.dat (vint s1.Stale),.dat (vint s1.OnError),.dat (vint s1.MaxStale),.dat (vint s1.MinFresh)])]) (fun i=>z4u s1 r3 r5 r22 r24 i=some r) (fun i=>Z) ?_ ?_
     ·skip
      refine zp hN Z (za (zd (.dr _ _) Z) (qd Z (bE H fun x27 h28 H=>zr (vt (s := .dr 0 (fun qb=>jg (List.map (CP qb) r22.2) r24.toNat 0)) 0 (fun qb=>kw z8w (fun _=>Z) Z Z h28) Z Z) Z (gE H fun h29 H=>zr (vt (s := .ptr 0 x27.toNat) 0 (fun qb=>qz z8o Z (qg (wo h28).2) Z) Z Z) Z (za (ji Z) (zr (ye tyS3 Z (x06 (c:=s1) h29)) Z (za (yu Z Z) (qd Z (yg (j:=7) Z Z (fun h30 => ?_) (fun h30 => ?_) Z)))))))))
      ·exact u3 h30 H fun h31 H=>ze Z Z h30 (zd (.dat _) Z) (ze Z Z h30 (zd (.dr _ _) Z) (ze Z Z h30 (zd (.dat _) Z) (ju Z Z h30 (vt (s := .dr 0 (fun qb=>jg (List.map (CP qb) r22.2) r24.toNat 0)) 0 (fun qb=>kw z8w (fun _=>Z) Z Z h28) Z Z) Z (gE H fun h32 H=>ju Z Z h30 (vt (s := .ptr 0 x27.toNat) 0 (fun qb=>qz z8o Z (qg (wo h28).2) Z) Z Z) Z (ze Z Z h30 (ji Z) (ju Z Z h30 (ye tyS3 Z (x06 (c:=s1) h32)) Z (ze Z Z h30 (zy Z Z) (za (zv Z (bFF h31) Z) ⟨decide (r5.1 < (Qg s1 x27)),H,⟨Z,Z,Z,Z,Z,U⟩,⟨Z,U⟩⟩))))))))
      ·exact u4 h30 H fun h33 H=>zc Z Z h30 (zc Z Z h30 (zc Z Z h30 (zc Z Z h30 (zc Z Z h30 (zc Z Z h30 (zc Z Z h30 (zc Z Z h30 (za (zz Z (bTT h33) Z) ⟨true,H,⟨Z,Z,Z,Z,Z,U⟩,⟨Z,U⟩⟩))))))))
     ·rintro v34 H
      replace H:z4u s1 r3 r5 r22 r24 v34=some r:=H
      unfold z4u at H
      refine zg _ Z (fun h35 => ?_) (fun h35 => ?_)
      ·exact tE h35 H fun H=>zp hN Z (za (zd (.dr _ _) Z) (qd Z (bE H fun x36 h37 H=>zr (vt (s := .dr 0 (fun qb=>jg (List.map (CP qb) r22.2) r24.toNat 0)) 0 (fun qb=>kw z8w (fun _=>Z) Z Z h37) Z Z) Z (gE H fun h38 H=>zr (vt (s := .ptr 0 x36.toNat) 0 (fun qb=>qz z8o Z (qg (wo h37).2) Z) Z Z) Z (qd Z (za (ji Z) (bE H fun c39 h40 H=>zk (y2l tyS3 Z Z Z (y75 (c:=s1) h38 h40)) Z ⟨(c39.NoStore,c39.NoCache,c39.Private,c39.Public,c39.Must,c39.Only,c39.MaxAge,c39.Shared,c39.Stale,c39.OnError,c39.MaxStale,c39.MinFresh),H,⟨Z,U⟩,⟨Z,U⟩⟩)))))))
      ·exact fE h35 H fun H=>zl ⟨(s1.NoStore,s1.NoCache,s1.Private,s1.Public,s1.Must,s1.Only,s1.MaxAge,s1.Shared,s1.Stale,s1.OnError,s1.MaxStale,s1.MinFresh),H,⟨Z,U⟩,⟨Z,U⟩⟩
    ·rintro ⟨c41,c42,c43,c44,c45,c46,c47,c48,c49,c50,c51,c52⟩ H
     replace H:z4v r3 c41 c42 c43 c44 c45 c46 c47 c48 c49 c50 c51 c52=some r:=H
     unfold z4v at H
     refine zb hN Z (qd Z (qe Z (zi ?_)))
     cases H
     exact ⟨U,⟨.inl Z,U⟩,Z⟩
end Go.Proofs.YtbndlmnjeofkdaaGreatDoor
