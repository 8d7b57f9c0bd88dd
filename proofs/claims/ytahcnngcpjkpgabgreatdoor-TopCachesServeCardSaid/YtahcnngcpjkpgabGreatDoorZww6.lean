/- Walks along the models. Printed by a program. -/
import Derived.Test.YtahcnngcpjkpgabGreatDoorZww5
namespace Go.Proofs.YtahcnngcpjkpgabGreatDoor
open Go.RowKit
set_option linter.unusedVariables false
set_option maxRecDepth 100000
set_option maxHeartbeats 2000000
theorem w5k (v1:(List zp)) (v2:Int) (v3:Int) (v4:Int) (p4:zp→zp→Option (Int)) (fv4:Nat) (us4:List V) (hp4:∀ a0 a1 r,p4 a0 a1=some r→Fn Tryz.prog fv4 ([vagg (qz a0),vagg (qz a1)]++us4) (zr [vint r])) (r:((List zp))) (H:z8y v1 v2 v3 v4 p4=some r):FnG Tryz.prog 165 [.row 0 v1.length,.dat (vint v2),.dat (vint v3),.dat (vint v4),.dat (vfn fv4 us4)] [(0,.rowA undef 164 2 (List.map qz v1))] (.dat (zr [])) [(0,.rowA undef 164 2 (List.map qz r))]:=by
 refine vy (by kernel_rfl) Tryz.func165 Z Z Z Z fun X A hN => ?_
 unfold z8y at H
 refine zb hN Z (qe Z (zb hN Z (qe Z (yc (xo (fun (s:Int×Int×Int×Bool×Bool)=>[(0,.row 0 v1.length),(1,.dat (vint s.1)),(2,.dat (vint s.2.1)),(3,.dat (vint s.2.2.1)),(4,.dat (vfn fv4 us4)),(10,.dat (zi s.2.2.2.1)),(11,.dat (zi s.2.2.2.2))]) (fun (s:Int×Int×Int×Bool×Bool)=>[(0,.rowA (A.vl 0) 164 2 (List.map qz v1))]) (v2,v3,v4,true,true) H ⟨Z,Z,Z,Z,Z,Z,Z,U⟩ ⟨Z,U⟩ (fun _=>Z) ?_)))))
 rintro ⟨v5,v6,v7,v8,v9⟩ q10 H hq10
 replace H:y6m v1 p4 v5 v6 v7 v8 v9=some q10:=H
 unfold y6m at H
 refine yc (zb hN Z (qd Z (qd Z (za (ym _ Z Z (.inr (.inl ⟨Z,Z⟩))) (qe Z (zd (zb hN Z (qd Z (za (vm Z Z) (zh _ Z (fun h11 => ?_) (fun h11 => ?_)))))))))))
 ·refine tE h11 H fun H=>zb hN Z (za (ze (.row _ _) Z) (qd Z (qd Z (qd Z (bE H fun r12 h13 H=>gE H fun h14 H=>qk (rn [(0,0)]) [(0,_,_,some _)] [] (w5l v1 v5 v6 p4 fv4 us4 hp4 r12 h13) ⟨Z,U⟩ ⟨.inl (.inl Z),.inl (.inl Z),.inl (.inl Z),.inl (.inl Z),U⟩ ⟨⟨⟨Z,Z,Z⟩,by simp [Wu,h14]⟩,U⟩ Z ?_)))))
  refine zk ?_
  replace H:=retl H hq10
  have eH:r12=r:=Option.some.inj H
  subst eH
  exact ⟨U,[],U,⟨Z,U⟩,Z,.inl ⟨[],U,Z⟩⟩
 ·refine fE h11 H fun H=>zn (zd (zb hN Z (qd Z (za (yq Z Z) (zh _ Z (fun h15 => ?_) (fun h15 => ?_))))))
  ·refine tE h15 H fun H=>?_
   cases H
  ·refine fE h15 H fun H=>?_
   cases H
theorem w5n (x1:(List zp)) (p1:zp→zp→Option (Int)) (fv1:Nat) (us1:List V) (hp1:∀ a0 a1 r,p1 a0 a1=some r→Fn Tryz.prog fv1 ([vagg (qz a0),vagg (qz a1)]++us1) (zr [vint r])) (r:((List zp))) (H:Zb x1 p1=some r):FnG Tryz.prog 104 [.row 0 x1.length,.dat (vfn fv1 us1)] [(0,.rowA undef 164 2 (List.map qz x1))] (.dat (zr [])) [(0,.rowA undef 164 2 (List.map qz r))]:=by
 refine vy (by kernel_rfl) Tryz.func104 Z Z Z Z fun X A hN => ?_
 unfold Zb at H
 refine zb hN Z (za (ze (.row _ _) Z) (zm (w1g z1f Z Z) Z (qe Z (zj hN Z (za (ze (.row _ _) Z) (qd Z (qd Z (za (kf tyU3 y1b Z) (bE H fun r2 h3 H=>za (zo (w7m (IntKind.wrap .u64 (x1.length:Int)) r2 h3) ⟨.inl Z,U⟩) (qd Z (bE H fun r4 h5 H=>gE H fun h6 H=>qk (rn [(0,0)]) [(0,_,_,some _)] [] (w5k x1 0 (x1.length:Int) r2 p1 fv1 us1 hp1 r4 h5) ⟨Z,U⟩ ⟨.inl (.inl Z),.inl (.inl Z),.inl (.inl Z),.inl (.inl Z),.inl (.inl Z),U⟩ ⟨⟨⟨Z,Z,Z⟩,by simp [Wu,h6]⟩,U⟩ Z ?_)))))))))))
 have eH:r4=r:=Option.some.inj H
 subst eH
 exact ⟨U,[],U,⟨Z,U⟩,Z,.inl ⟨[],U,Z⟩⟩
theorem x5w (a b:Bs) (r:Int) (H:z2f a b=some r):Fn Tryz.prog 167 [vstr a,vstr b] (zr [vint r]):=by
 cases H
 refine y4r (by kernel_rfl) fun M w vs h => ?_
 have h1:=ui (us:=[.string ⟨a.toArray⟩,.string ⟨b.toArray⟩]) h
 subst h1
 refine (Tryz.strings_Compare ⟨a.toArray⟩ ⟨b.toArray⟩ w).mono ?_
 rintro e w' ⟨rfl,rfl⟩
 exact ⟨_,Z,Z,Kp.refl _ _⟩
theorem w68 (a1:zp) (b2:zp) (r:(Int)) (H:jb a1 b2=some r):Fn Tryz.prog 105 [vagg (qz a1),vagg (qz b2)] (zr [vint r]):=by
 refine ⟨by kernel_rfl,yf (us:=[vint r]) Tryz.func105 Z Z Z Z fun X hN => ?_⟩
 unfold jb at H
 refine zb hN Z (zl (we 1 Z) Z (zl (we 2 Z) Z (qe Z (zd (zb hN Z (za (zq z7w Z) (zm (zt tyS9 Z Z) Z (za (zq z7w Z) (zm (zt tyS9 Z Z) Z (za (jo Z Z) (zh _ Z (fun h3 => ?_) (fun h3 => ?_))))))))))))
 ·refine tE h3 H fun H=>zb hN Z (za (zq z7w Z) (zm (zt tyS9 Z Z) Z (za (zq z7w Z) (zm (zt tyS9 Z Z) Z (bE H fun r4 h5 H=>za (zo (x5w a1.Name b2.Name r4 h5) ⟨.inl Z,.inl Z,U⟩) (qe Z (zk ?_)))))))
  cases H
  exact ⟨U,.inl Z,U⟩
 ·refine fE h3 H fun H=>zn (zb hN Z (za (zq y5w Z) (zm (zt tyS9 Z Z) Z (za (zq y5w Z) (zm (zt tyS9 Z Z) Z (bE H fun r6 h7 H=>za (zo (x5w a1.Value b2.Value r6 h7) ⟨.inl Z,.inl Z,U⟩) (qe Z (zk ?_))))))))
  cases H
  exact ⟨U,.inl Z,U⟩
theorem x53 (s1:Bs) (r:(Bs)) (H:z5m s1=some r):Fn Tryz.prog 168 [vstr s1] (zr [vstr r]):=by
 refine ⟨by kernel_rfl,yf (us:=[vstr r]) Tryz.func168 Z Z Z Z fun X hN => ?_⟩
 unfold z5m at H
 refine zb hN Z (qe Z (zb hN Z (zl (qt 1 z35 Z) Z (z7b 1 0 (.nptr 1) Z Z z4q (Yv 1 1 2 5 1 Z Z Z Z (zd (zb hN Z (qd Z (za (qi tyU9 Z) (qd Z (yc (gE H fun h5 H=>va (fun (k3:Nat) (s:(List Int))=>[(0,.dat (vstr s1)),(3,.ptr 1 0),(7,.dat (vint (s1.length:Int))),(8,.dat (vint (k3:Int)))]) (fun (k3:Nat) (s:(List Int))=>[(1,.box none 60 [.nptr 1,.row 2 s.length]),(2,.row 5 1 (List.map yw s))]) ([]:List Int) H ⟨Z,Z,Z,Z,U⟩ ⟨Z,Z,U⟩ (fun _ _=>Z) ?_ ?_))))))))))))
 ·rintro l2 H
  replace H:z4s l2=some r:=H
  unfold z4s at H
  refine zb hN Z (za (ye Z Z) (zd (zh _ Z (fun h=>(lt_t h).elim) (fun h => ?_))))
  refine yz (zb hN Z (gE H fun h7 H=>qk (rn [(0,1),(1,2)]) [(0,_,_,none),(1,_,_,none)] [] (z6a h7 (C:=yw) (fun _=>Z)) ⟨Z,Z,U⟩ ⟨.inl (.inl Z),U⟩ ⟨⟨⟨Z,Z⟩,U⟩,⟨⟨Z,Z,Z⟩,U⟩,U⟩ Z (qe Z (zk ?_))))
  cases H
  exact ⟨U,.inl Z,U⟩
 ·rintro k3 x6 l2 q4 h8 h9 H hq4
  replace H:z1w k3 x6 l2=some q4:=H
  unfold z1w at H
  refine wi (zb hN Z (za (ye Z Z) (zd (zh _ Z (fun h => ?_) (fun h=>(lt_f h8 h).elim)))))
  refine zn (yg (ι:=(List Int)) (fun i=>[(0,.dat (vstr s1)),(3,.ptr 1 0),(7,.dat (vint (s1.length:Int))),(8,.dat (vint (k3:Int)))]) (fun i=>[(1,.box none 60 [.nptr 1,.row 6 i.length]),(6,.row 5 1 (List.map yw i))]) (fun i=>z1x i=some q4) (fun i=>Z) ?_ ?_)
  ·refine wi (yc (zb hN Z (qd Z (qe Z (zb hN Z (qd Z (qd Z (za (wv tyU9 Z Z h9) (qe Z (yc (zb hN Z (qd Z (za (yq Z Z) (qe Z (zh _ Z (fun h10 => ?_) (fun h10 => ?_))))))))))))))))
   ·refine tE h10 H fun H=>zj hN Z (bE H fun r11 h12 H=>qk (rn [(0,1),(1,2),(900,3)]) [(0,_,_,some _),(1,_,_,none)] [(900,_)] (z2y l2 43 r11 h12) ⟨Z,Z,Z,U⟩ ⟨.inl (.inl Z),.inl (.inl Z),U⟩ ⟨⟨⟨Z,Z⟩,U⟩,⟨⟨Z,Z,Z⟩,U⟩,U⟩ Z (wm ?_))
    show Cv _ _ _ _
    exact wc (rn [(3,6)]) [(0,.dat (vstr s1)),(3,.ptr 1 0),(7,.dat (vint (s1.length:Int))),(8,.dat (vint (k3:Int)))] [(1,.box none 60 [.nptr 1,.row 3 r11.2.length]),(3,.row 5 1 (List.map yw r11.2))] ⟨Z,Z,Z,Z,U⟩ ⟨Z,Z,U⟩ Z Z ⟨r11.2,H,⟨Z,Z,Z,Z,U⟩,⟨Z,Z,U⟩⟩
   ·refine fE h10 H fun H=>zb hN Z (qd Z (bE H fun r13 h14 H=>za (zo (x59 (x6.toNat:Int) r13 h14) ⟨.inl Z,U⟩) (qe Z (zh _ Z (fun h15 => ?_) (fun h15 => ?_)))))
    ·refine tE h15 H fun H=>zj hN Z (qd Z (bE H fun r16 h17 H=>qk (rn [(0,1),(1,2),(900,4)]) [(0,_,_,some _),(1,_,_,none)] [(900,_)] (z2y l2 (x6.toNat:Int) r16 h17) ⟨Z,Z,Z,U⟩ ⟨.inl (.inl Z),.inl (.inl Z),U⟩ ⟨⟨⟨Z,Z⟩,U⟩,⟨⟨Z,Z,Z⟩,U⟩,U⟩ Z (wm ?_)))
     show Cv _ _ _ _
     exact wc (rn [(4,6)]) [(0,.dat (vstr s1)),(3,.ptr 1 0),(7,.dat (vint (s1.length:Int))),(8,.dat (vint (k3:Int)))] [(1,.box none 60 [.nptr 1,.row 4 r16.2.length]),(4,.row 5 1 (List.map yw r16.2))] ⟨Z,Z,Z,Z,U⟩ ⟨Z,Z,U⟩ Z Z ⟨r16.2,H,⟨Z,Z,Z,Z,U⟩,⟨Z,Z,U⟩⟩
    ·refine fE h15 H fun H=>zj hN Z (qd Z (bE H fun r18 h19 H=>za (zo (x55 (x6.toNat:Int) r18 h19) ⟨.inl Z,U⟩) (bE H fun r20 h21 H=>qk (rn [(0,1),(1,2),(900,5)]) [(0,_,_,some _),(1,_,_,none)] [(900,_)] (Zx l2 r18 r20 h21) ⟨Z,Z,Z,U⟩ ⟨.inl (.inl Z),.inl (.inl Z),U⟩ ⟨⟨⟨Z,Z⟩,U⟩,⟨⟨Z,Z,Z⟩,U⟩,U⟩ Z (wm ?_))))
     show Cv _ _ _ _
     exact wc (rn [(5,6)]) [(0,.dat (vstr s1)),(3,.ptr 1 0),(7,.dat (vint (s1.length:Int))),(8,.dat (vint (k3:Int)))] [(1,.box none 60 [.nptr 1,.row 5 r20.2.2.length]),(5,.row 5 1 (List.map yw r20.2.2))] ⟨Z,Z,Z,Z,U⟩ ⟨Z,Z,U⟩ Z Z ⟨r20.2.2,H,⟨Z,Z,Z,Z,U⟩,⟨Z,Z,U⟩⟩
  ·rintro l22 H
   replace H:z1x l22=some q4:=H
   unfold z1x at H
   refine zj hN Z (za (qy Z Z (by omega)) (qd Z (wm ?_)))
   show Cv _ _ _ _
   exact wc (rn [(6,2)]) [(0,.dat (vstr s1)),(3,.ptr 1 0),(7,.dat (vint (s1.length:Int))),(8,.dat (vint ((k3:Int)+1)))] [(1,.box none 60 [.nptr 1,.row 6 l22.length]),(6,.row 5 1 (List.map yw l22))] ⟨Z,Z,Z,Z,U⟩ ⟨Z,Z,U⟩ Z Z ⟨_,qm H,⟨Z,Z,Z,Z,U⟩,⟨Z,Z,U⟩⟩
theorem w7g (l1:(List zp)) (r:(Bs×Int)) (H:xh l1=some r):Fn Tryz.prog 106 [vlst (List.map qz l1)] (zr [vstr r.1,vint r.2]):=by
 refine ⟨by kernel_rfl,yf (us:=[vstr r.1,vint r.2]) Tryz.func106 Z Z Z Z fun X hN => ?_⟩
 unfold xh at H
 refine zb hN Z (qe Z (qe Z (zd (zb hN Z (qd Z (za (qh z1f Z) (za (wb Z Z) (zh _ Z (fun h2 => ?_) (fun h2 => ?_)))))))))
 ·refine tE h2 H fun H=>zb hN Z (qe Z (qe Z (zk ?_)))
  cases H
  exact ⟨U,.inl Z,.inl Z,U⟩
 ·refine fE h2 H fun H=>zn (zb hN Z (qe Z (zd (zb hN Z (qd Z (za (qh z1f Z) (qd Z (yc (ug 4 1 9 1 Z Z Z (gE H fun h6 H=>va (fun (k4:Nat) (s:(List Bs))=>[(4,.row 1 s.length),(11,.dat (vlst (List.map qz l1))),(12,.dat (vint (l1.length:Int))),(13,.dat (vint (k4:Int)))]) (fun (k4:Nat) (s:(List Bs))=>[(1,.row 9 1 (List.map zx s))]) [] H ⟨Z,Z,Z,Z,U⟩ ⟨Z,U⟩ (fun _ _=>Z) ?_ ?_))))))))))
  ·rintro l3 H
   replace H:z15 l3=some r:=H
   unfold z15 at H
   refine zb hN Z (za (ye Z Z) (zd (zh _ Z (fun h=>(lt_t h).elim) (fun h => ?_))))
   refine yz (zd (z1l 4 1 Z Z Z (zj hN Z (qd Z (bE H fun r8 h9 H=>za (zo (y8y l3 [38] r8 h9) ⟨.inl Z,.inl Z,U⟩) (qe Z (zd (zb hN Z (qd Z (za (qi tyU9 Z) (za (wb Z Z) (zh _ Z (fun h10 => ?_) (fun h10 => ?_)))))))))))))
   ·refine tE h10 H fun H=>zb hN Z (qe Z (qe Z (zk ?_)))
    cases H
    exact ⟨U,.inl Z,.inl Z,U⟩
   ·refine fE h10 H fun H=>zn (zb hN Z (qd Z (qe Z (qe Z (zk ?_)))))
    cases H
    exact ⟨U,.inl Z,.inl Z,U⟩
  ·rintro k4 x7 l3 q5 h11 h12 H hq5
   replace H:Qi k4 x7 l3=some q5:=H
   unfold Qi at H
   refine zb hN Z (za (ye Z Z) (zd (zh _ Z (fun h => ?_) (fun h=>(lt_f h11 h).elim))))
   refine zn (zd (yc (zb hN Z (za (wj xt (fun _=>Z) Z Z h12) (za (xa ua Z (qp h12) Z) (zl (qt 2 z36 Z) Z (zl (yx ua Z Z Z Z) Z (zd (zb hN Z (zm (yr ua Z Z Z) Z (za (yd (u':=vagg (qz (zp.mk [] []))) (qw [] z36 y5t Z U) Z) (za (x2x [_,_] [_,_] x1j Z Z Z) (zh _ Z (fun h13 => ?_) (fun h13 => ?_))))))))))))))
   ·refine tE h13 H fun H=>zb hN Z (qe Z (qe Z (zk ?_)))
    replace H:=retl H hq5
    cases H
    exact ⟨U,.inl Z,.inl Z,U⟩
   ·refine fE h13 H fun H=>zn (ww mixed hN Z Z (za (ze (.row _ _) Z) (za (zq z7w Z) (zm (zt tyS9 Z Z) Z (bE H fun r14 h15 H=>za (zo (x53 x7.Name r14 h15) ⟨.inl Z,U⟩) (gE H fun h16 H=>za (vf Z Z (Nat.le_trans h16 (by decide))) (za (zq y5w Z) (zm (zt tyS9 Z Z) Z (bE H fun r17 h18 H=>za (zo (x53 x7.Value r17 h18) ⟨.inl Z,U⟩) (gE H fun h19 H=>za (vf Z Z (Nat.le_trans h19 (by decide))) (za (yd (u':=vlst (List.map zx [((r14++[61])++r17)])) (qj [[_]] qr ⟨Z,.inl ⟨_,Z,Z,Z⟩,Z,U⟩ Z Z) Z) (gE H fun h20 H=>zl (ke qr (fun _=>Z) Z Z Z ⟨by simp,by first | (simp; done) | simpa using h20⟩ Z) Z ?_))))))))))))
    refine za (qs (.row _ _) Z) ⟨Z,?_⟩
    exact zj hN Z (za (qy Z Z (by omega)) (qd Z ⟨_,qm H,⟨Z,Z,Z,Z,U⟩,⟨Z,U⟩⟩))
theorem w6l (s:Bs) (r:Bs) (H:z0g s=some r):Fn Tryz.prog 107 [vstr s] (zr [vstr r]):=by
 unfold z0g at H
 obtain ⟨⟨h1,h2⟩,h3⟩:=gif H
 cases h3
 refine Yb (by kernel_rfl) fun M w vs hM h => ?_
 have hv:=ui (us:=[.string ⟨s.toArray⟩]) h
 subst hv
 refine (Tryz.strings_ToUpper_ascii ⟨s.toArray⟩ w (by simp [ByteArray.size]; omega) (fun j b hb=>z30 h2 j b (by simpa using hb))).mono ?_
 rintro e w' ⟨rfl,hb⟩
 exact ⟨_,Z,Z,Kp.of_below hb⟩

theorem x6f (v1:zw) (r:(zw×Int)) (H:Yl v1=some r):Fn Tryz.prog 44 [vagg (qq v1)] (zr [vagg (qq r.1),vint r.2]):=by
 refine ⟨by kernel_rfl,yf (us:=[vagg (qq r.1),vint r.2]) Tryz.func44 Z Z Z Z fun X hN => ?_⟩
 unfold Yl at H
 refine zb hN Z (zl (we 1 Z) Z (zl (qt 2 jm Z) Z (qe Z (zd (zb hN Z (zm (yr qa Z Z Z) Z (bE H fun r2 h3 H=>za (zo (z9u v1 r2 h3) ⟨.inl Z,U⟩) (qe Z (zb hN Z (qd Z (za (yy Z Z) (zh _ Z (fun h4 => ?_) (fun h4 => ?_)))))))))))))
 ·refine tE h4 H fun H=>zb hN Z (za (jh (u':=vagg (qq (zw.mk 0 [] [] [] [] [] [] []))) (je (by exact ⟨yl,yl,yl,yl,yl,yl,ja,yl,U⟩)) (qw [] jm xq Z U)) ?_)
  refine qd Z (zl (yx qa Z Z Z Z) Z (qe Z (zk ?_)))
  cases H
  exact ⟨U,.inl ⟨_,_,_,qq (zw.mk 0 [] [] [] [] [] [] []),Z,Z,Z,Z,qa⟩,.inl Z,U⟩
 ·refine fE h4 H fun H=>zn (zb hN Z (za (zq z1g Z) (zm (zt tyS9 Z Z) Z (bE H fun r5 h6 H=>za (zo (w7j v1.Host r5 h6) ⟨.inl Z,U⟩) (qd Z (za (zz Z Z) (za (zz Z Z) (qe Z (qe Z (zb hN Z (za (zq Yz Z) (zm (zt tyS9 Z Z) Z (bE H fun r7 h8 H=>za (zo (x6e v1.Path r7 h8) ⟨.inl Z,U⟩) (qd Z (za (zz Z Z) (za (zz Z Z) (qe Z (qe Z (zd (zb hN Z ?_))))))))))))))))))))
  refine qd Z (za (yy Z Z) (zh _ Z (fun h9 => ?_) (fun h9 => ?_)))
  ·refine tE h9 H fun H=>zb hN Z (za (jh (u':=vagg (qq (zw.mk 0 [] [] [] [] [] [] []))) (je (by exact ⟨yl,yl,yl,yl,yl,yl,ja,yl,U⟩)) (qw [] jm xq Z U)) ?_)
   refine qd Z (zl (yx qa Z Z Z Z) Z (qe Z (zk ?_)))
   cases H
   exact ⟨U,.inl ⟨_,_,_,qq (zw.mk 0 [] [] [] [] [] [] []),Z,Z,Z,Z,qa⟩,.inl Z,U⟩
  ·refine fE h9 H fun H=>zn (zb hN Z (za (zq Yd Z) (zm (zt tyS9 Z Z) Z (bE H fun r10 h11 H=>qk (rn [(900,3)]) [] [(900,_)] (w5t v1.Query r10 h11) ⟨Z,U⟩ ⟨.inl (.inl Z),U⟩ U Z (za (ze (.comp _ _) Z) (za (z4g Z Z) (za (z4g Z Z) (za (qs (.row _ _) Z) (qe Z (zd (zb hN Z (qd Z (za (yy Z Z) (zh _ Z (fun h12 => ?_) (fun h12 => ?_)))))))))))))))
   ·refine tE h12 H fun H=>zb hN Z (za (jh (u':=vagg (qq (zw.mk 0 [] [] [] [] [] [] []))) (je (by exact ⟨yl,yl,yl,yl,yl,yl,ja,yl,U⟩)) (qw [] jm xq Z U)) ?_)
    refine qd Z (zl (yx qa Z Z Z Z) Z (qe Z (zk ?_)))
    cases H
    exact ⟨U,.inl ⟨_,_,_,qq (zw.mk 0 [] [] [] [] [] [] []),Z,Z,Z,Z,qa⟩,.inl Z,U⟩
   ·refine fE h12 H fun H=>zn (zb hN Z (za (ze (.row _ _) Z) (bE H fun r13 h14 H=>qk (rn [(0,3),(900,4)]) [(0,_,_,none)] [(900,_)] (w5o r10.1 (fun (a0:zp)=>z86 a0) 103 [] (fun a0 r h=>w7i a0 r h) r13 h14) ⟨Z,Z,U⟩ ⟨.inl (.inl Z),.inr ⟨_,Z,Z⟩,U⟩ ⟨⟨⟨Z,Z,Z⟩,U⟩,U⟩ Z (za (qs (.row _ _) Z) (zb hN Z (za (ze (.row _ _) Z) (bE H fun r15 h16 H=>gE H fun h17 H=>qk (rn [(0,4)]) [(0,_,_,some _)] [] (w5n r13 (fun (a0:zp) (a1:zp)=>jb a0 a1) 105 [] (fun a0 a1 r h=>w68 a0 a1 r h) r15 h16) ⟨Z,U⟩ ⟨.inl (.inl Z),.inr ⟨_,Z,Z⟩,U⟩ ⟨⟨⟨Z,Z,Z⟩,by simp [Wu,h17]⟩,U⟩ Z ?_)))))))
    refine zd (z1l 9 4 Z Z (h17).symm (zj hN Z (qd Z (bE H fun r18 h19 H=>za (zo (w7g r15 r18 h19) ⟨.inl Z,U⟩) (qd Z (za (zz Z Z) (za (zz Z Z) (qe Z (qe Z (zd (zb hN Z (qd Z (za (yy Z Z) (zh _ Z (fun h20 => ?_) (fun h20 => ?_)))))))))))))))
    ·refine tE h20 H fun H=>zb hN Z (za (jh (u':=vagg (qq (zw.mk 0 [] [] [] [] [] [] []))) (je (by exact ⟨yl,yl,yl,yl,yl,yl,ja,yl,U⟩)) (qw [] jm xq Z U)) ?_)
     refine qd Z (zl (yx qa Z Z Z Z) Z (qe Z (zk ?_)))
     cases H
     exact ⟨U,.inl ⟨_,_,_,qq (zw.mk 0 [] [] [] [] [] [] []),Z,Z,Z,Z,qa⟩,.inl Z,U⟩
    ·refine fE h20 H fun H=>zn (zb hN Z (qd Z (qd Z (qd Z (za (zq ul Z) (zm (zt tyS9 Z Z) Z (bE H fun r21 h22 H=>za (zo (w6l v1.Method r21 h22) ⟨.inl Z,U⟩) (za (zq z1g Z) (zl (jn tyS9 Z Z Z Z) Z (za (zq Yz Z) (zl (jn tyS9 Z Z Z Z) Z (za (zq Yd Z) (zl (jn tyS9 Z Z Z Z) Z (za (zq ul Z) (zl (jn tyS9 Z Z Z Z) Z (zb hN Z (za (zq jt Z) (zm (zt qu Z Z) Z (bE H fun r23 h24 H=>qk (rn [(900,5)]) [] [(900,_)] (y3n v1.Headers r23 h24) ⟨Z,U⟩ ⟨.inl (.inl Z),U⟩ U Z (za (zq jt Z) ?_))))))))))))))))))))
     refine Zn (Zm qu Z Z (by rw [List.length_map]) Z) Z Z ?_
     refine zd (zb hN Z (za (zq jt Z) (zm (zt qu Z Z) Z (zm (Wp kz Z Z) Z (qd Z (yc (gE H fun h28 H=>z3z (fun (k26:Nat) (s:(List zg))=>[(1,.ptr 1 0),(2,.ptr 2 0),(73,.row 5 s.length),(74,.dat (vint (r23.length:Int))),(75,.dat (vint (k26:Int)))]) (fun (k26:Nat) (s:(List zg))=>[(1,.box none 36 [.dat (vint v1.At),.dat (vstr r21),.dat (vstr r5.1),.dat (vstr r7.1),.dat (vstr r18.1),.dat (vstr v1.From),.row 5 s.length,.dat (vstr v1.Body)]),(2,.box none 36 [.dat (vint 0),.dat (vstr []),.dat (vstr []),.dat (vstr []),.dat (vstr []),.dat (vstr []),.dat (vnil),.dat (vstr [])]),(5,.row 54 2 (List.map zy s))]) r23 H ⟨Z,Z,Z,Z,Z,U⟩ ⟨Z,Z,Z,U⟩ (fun _ _=>Z) ?_ ?_)))))))
     ·rintro l25 H
      replace H:z8r v1 r5 r7 r18 r21 l25=some r:=H
      unfold z8r at H
      refine zb hN Z (za (ye Z Z) (zd (zh _ Z (fun h=>(lt_t h).elim) (fun h => ?_))))
      refine yz (zd (z1a 1 6 5 rfl rfl rfl (by first | rw [List.length_map] | rfl) ?_))
      refine zj hN Z (zm (yr qa Z Z Z) Z (zl (yx qa Z Z Z Z) Z (qe Z (zk ?_))))
      cases H
      exact ⟨U,.inl ⟨_,_,_,qq (zw.mk v1.At r21 r5.1 r7.1 r18.1 v1.From l25 v1.Body),Z,Z,Z,Z,qa⟩,.inl Z,U⟩
     ·rintro k26 l25 q27 h29 H hq27
      replace H:z17 k26 l25=some q27:=H
      unfold z17 at H
      refine wi (zb hN Z (za (ye Z Z) (zd (zh _ Z (fun h => ?_) (fun h=>(lt_f h29 h).elim)))))
      refine zn (zd (yc (zb hN Z (qd Z (bE H fun x30 h31 H=>zm (Wq uy Z Z Z h31) Z (zm (y6a vx Z Z h31 Z) Z (zl (qt 6 ky Z) Z (qe Z (zl (yx vx Z Z Z Z) Z (ww mixed hN Z Z (za (zq jt Z) (zm (zt qu Z Z) Z (qd Z (za (zq Wm Z) (zm (zt tyS9 Z Z) Z (bE H fun r32 h33 H=>za (zo (y3r x30.Name r32 h33) ⟨.inl Z,U⟩) (zm (Wq uy Z Z Z h31) Z (za (w2d Wm Z) (zl (y1s (zg.mk r32 x30.Value) tyS9 Z Z Z Z h31 Z Z) Z ⟨Z,?_⟩)))))))))))))))))))
      refine zj hN Z (za (qy Z Z (by omega)) (qd Z (wm ?_)))
      show Cv _ _ _ _
      exact wd ⟨_,qm H,⟨Z,Z,congrArg (Slot.row 5) (by simp),Z,Z,U⟩,⟨(congrArg (fun n=>some (some (AObj.box none 36 [.dat (vint v1.At),.dat (vstr r21),.dat (vstr r5.1),.dat (vstr r7.1),.dat (vstr r18.1),.dat (vstr v1.From),.row 5 n,.dat (vstr v1.Body)]))) (show l25.length=(l25.set k26 (zg.mk r32 x30.Value)).length from (by simp))),Z,Z,U⟩⟩
theorem x6i (s1:Bs) (r:(Bool)) (H:z2n s1=some r):Fn Tryz.prog 98 [vstr s1] (zr [zi r]):=by
 refine ⟨by kernel_rfl,yf (us:=[zi r]) Tryz.func98 Z Z Z Z fun X hN => ?_⟩
 unfold z2n at H
 refine zb hN Z (qe Z (zd (zb hN Z (qe Z (yc (gE H fun h4 H=>va (fun (i2:Nat) (s:Unit)=>[(0,.dat (vstr s1)),(3,.dat (vint (i2:Int)))]) (fun (i2:Nat) (s:Unit)=>[]) () H ⟨Z,Z,U⟩ U (fun _ _=>Z) ?_ ?_))))))
 ·rintro ⟨⟩ H
  replace H:y8v s1=some r:=H
  unfold y8v at H
  refine zd (zb hN Z (qd Z (qd Z (za (qi tyU9 Z) (za (ye Z Z) (zh _ Z (fun h=>(lt_t h).elim) (fun h => ?_)))))))
  refine yz (zb hN Z (qd Z (za (jo Z Z) (qd Z (ql Z Z (fun hc=>ze (.dat _) Z) (ql Z Z (fun hc=>qi tyU9 (cnd (c:=(decide (s1≠[]))) hc)) (ql Z Z (fun hc=>vm (cnd (c:=(decide (s1≠[]))) hc) Z) (za (wz Z (fun hb=>(cnd (c:=(decide (s1≠[]))) hb)) Z) (qe Z (zk ?_))))))))))
  cases H
  exact ⟨U,.inl Z,U⟩
 ·rintro i2 x5 ⟨⟩ q3 h6 h7 H hq3
  replace H:y3p i2 x5=some q3:=H
  unfold y3p at H
  refine zd (zb hN Z (qd Z (qd Z (za (qi tyU9 Z) (za (ye Z Z) (zh _ Z (fun h => ?_) (fun h=>(lt_f h6 h).elim)))))))
  refine zn (zd (yc (zb hN Z (qd Z (qd Z (za (wv tyU9 Z Z h7) (qe Z (zb hN Z (qd Z (za (vk Z Z) (qd Z (ql Z Z (fun hc=>ze (.dat _) Z) (ql Z Z (fun hc=>vm (cnd (c:=(decide (97≤(x5.toNat:Int)))) hc) Z) (za (wz Z (fun hb=>(cnd (c:=(decide (97≤(x5.toNat:Int)))) hb)) Z) (qd Z (yp Z Z (fun hc=>ze (.dat _) Z) (yp Z Z (fun hc=>wb (cnd (c:=(!((decide (97≤(x5.toNat:Int))) && (decide ((x5.toNat:Int)≤122))))) hc) Z) (yp Z Z (fun hc=>ze (.dat _) (cnd (c:=(!((decide (97≤(x5.toNat:Int))) && (decide ((x5.toNat:Int)≤122))))) hc)) (vd Z Z (fun hc=>ze (.dat _) Z) (vd Z Z (fun hc=>vk (cnd (c:=((!((decide (97≤(x5.toNat:Int))) && (decide ((x5.toNat:Int)≤122)))) && (decide (0 < (i2:Int))))) hc) Z) (vd Z Z (fun hc=>ze (.dat _) (cnd (c:=((!((decide (97≤(x5.toNat:Int))) && (decide ((x5.toNat:Int)≤122)))) && (decide (0 < (i2:Int))))) hc)) (vd Z Z (fun hc=>ze (.dat _) Z) (vd Z Z (fun hc=>vm (cnd (c:=(((!((decide (97≤(x5.toNat:Int))) && (decide ((x5.toNat:Int)≤122)))) && (decide (0 < (i2:Int)))) && (decide (48≤(x5.toNat:Int))))) hc) Z) ?_)))))))))))))))))))))))
  refine vd Z Z (fun hc=>wz (cnd (c:=((!((decide (97≤(x5.toNat:Int))) && (decide ((x5.toNat:Int)≤122)))) && (decide (0 < (i2:Int))))) hc) (fun hb=>(cnd (c:=(((!((decide (97≤(x5.toNat:Int))) && (decide ((x5.toNat:Int)≤122)))) && (decide (0 < (i2:Int)))) && (decide (48≤(x5.toNat:Int))))) (andI hc hb))) Z) (vd Z Z (fun hc=>ze (.dat _) (cnd (c:=((!((decide (97≤(x5.toNat:Int))) && (decide ((x5.toNat:Int)≤122)))) && (decide (0 < (i2:Int))))) hc)) (y17 Z Z (fun hc=>ze (.dat _) Z) (y17 Z Z (fun hc=>yq (cnd (c:=(((!((decide (97≤(x5.toNat:Int))) && (decide ((x5.toNat:Int)≤122)))) && (decide (0 < (i2:Int)))) && !((decide (48≤(x5.toNat:Int))) && (decide ((x5.toNat:Int)≤57))))) hc) Z) (vd Z Z (fun hc=>wy (cnd (c:=((!((decide (97≤(x5.toNat:Int))) && (decide ((x5.toNat:Int)≤122)))) && (decide (0 < (i2:Int))))) hc) Z (fun hb=>(cnd (c:=(((!((decide (97≤(x5.toNat:Int))) && (decide ((x5.toNat:Int)≤122)))) && (decide (0 < (i2:Int)))) && !((decide (48≤(x5.toNat:Int))) && (decide ((x5.toNat:Int)≤57))))) (andI hc (notI hb))))) (vd Z Z (fun hc=>ze (.dat _) (cnd (c:=((!((decide (97≤(x5.toNat:Int))) && (decide ((x5.toNat:Int)≤122)))) && (decide (0 < (i2:Int))))) hc)) (y17 Z Z (fun hc=>ze (.dat _) Z) (y17 Z Z (fun hc=>yq (cnd (c:=(((!((decide (97≤(x5.toNat:Int))) && (decide ((x5.toNat:Int)≤122)))) && (decide (0 < (i2:Int)))) && !(((decide (48≤(x5.toNat:Int))) && (decide ((x5.toNat:Int)≤57))) || (decide ((x5.toNat:Int)=45))))) hc) Z) (vd Z Z (fun hc=>wy (cnd (c:=((!((decide (97≤(x5.toNat:Int))) && (decide ((x5.toNat:Int)≤122)))) && (decide (0 < (i2:Int))))) hc) Z (fun hb=>(cnd (c:=(((!((decide (97≤(x5.toNat:Int))) && (decide ((x5.toNat:Int)≤122)))) && (decide (0 < (i2:Int)))) && !(((decide (48≤(x5.toNat:Int))) && (decide ((x5.toNat:Int)≤57))) || (decide ((x5.toNat:Int)=45))))) (andI hc (notI hb))))) (yp Z Z (fun hc=>wz (cnd (c:=(!((decide (97≤(x5.toNat:Int))) && (decide ((x5.toNat:Int)≤122))))) hc) (fun hb=>(cnd (c:=((!((decide (97≤(x5.toNat:Int))) && (decide ((x5.toNat:Int)≤122)))) && (decide (0 < (i2:Int))))) (andI hc hb))) Z) (za (wy Z Z (fun hb=>(cnd (c:=(!((decide (97≤(x5.toNat:Int))) && (decide ((x5.toNat:Int)≤122))))) (notI hb)))) (za (yt Z) (zh _ Z (fun h8 => ?_) (fun h8 => ?_)))))))))))))
  ·refine tE h8 H fun H=>zb hN Z (qe Z (zk ?_))
   replace H:=retl H hq3
   cases H
   exact ⟨U,.inl Z,U⟩
  ·exact fE h8 H fun H=>zn (zj hN Z (qd Z (za (qy Z Z (by omega)) (qe Z ⟨_,qm H,⟨Z,Z,U⟩,U⟩))))
theorem w6g (l1:(List jd)) (r:(Int)) (H:y7t l1=some r):Fn Tryz.prog 86 [vlst (List.map uv l1)] (zr [vint r]):=by
 refine ⟨by kernel_rfl,yf (us:=[vint r]) Tryz.func86 Z Z Z Z fun X hN => ?_⟩
 unfold y7t at H
 refine zb hN Z (qe Z (zd (zb hN Z (qd Z (za (qh z38 Z) (za (wb Z Z) (zh _ Z (fun h2 => ?_) (fun h2 => ?_))))))))
 ·refine tE h2 H fun H=>zb hN Z (qe Z (zk ?_))
  cases H
  exact ⟨U,.inl Z,U⟩
 ·refine fE h2 H fun H=>zn (zd (zb hN Z (qd Z (za (qh z38 Z) (qd Z (yc (gE H fun h5 H=>va (fun (k3:Nat) (s:Unit)=>[(0,.dat (vlst (List.map uv l1))),(8,.dat (vlst (List.map uv l1))),(9,.dat (vint (l1.length:Int))),(10,.dat (vint (k3:Int)))]) (fun (k3:Nat) (s:Unit)=>[]) () H ⟨Z,Z,Z,Z,U⟩ U (fun _ _=>Z) ?_ ?_)))))))
  ·rintro ⟨⟩ H
   replace H:y5p=some r:=H
   unfold y5p at H
   refine zb hN Z (za (ye Z Z) (zd (zh _ Z (fun h=>(lt_t h).elim) (fun h => ?_))))
   refine yz (zb hN Z (qe Z (zk ?_)))
   cases H
   exact ⟨U,.inl Z,U⟩
  ·rintro k3 x6 ⟨⟩ q4 h7 h8 H hq4
   replace H:y5o l1 k3 x6=some q4:=H
   unfold y5o at H
   refine zb hN Z (za (ye Z Z) (zd (zh _ Z (fun h => ?_) (fun h=>(lt_f h7 h).elim))))
   refine zn (zd (yc (zb hN Z (qd Z (za (wj z7z (fun _=>Z) Z Z h8) (za (xa z39 Z (qp h8) Z) (zl (qt 1 y08 Z) Z (qe Z (zl (yx z39 Z Z Z Z) Z (yc (zb hN Z (za (zq y1f Z) (zm (zt tyS9 Z Z) Z (bE H fun r9 h10 H=>za (zo (x6i x6.Key r9 h10) ⟨.inl Z,U⟩) (za (yt Z) (qe Z (zh _ Z (fun h11 => ?_) (fun h11 => ?_))))))))))))))))))
   ·refine tE h11 H fun H=>zb hN Z (qe Z (zk ?_))
    replace H:=retl H hq4
    cases H
    exact ⟨U,.inl Z,U⟩
   ·refine fE h11 H fun H=>yg (ι:=Bool) (fun i=>[(0,.dat (vlst (List.map uv l1))),(4,.ptr 1 0),(8,.dat (vlst (List.map uv l1))),(9,.dat (vint (l1.length:Int))),(10,.dat (vint (k3:Int))),(20,.dat (zi i))]) (fun i=>[(1,.box none 91 [.dat (vstr x6.Key),.dat (vint x6.Weight)])]) (fun i=>z7k x6 i=some q4) (fun i=>Z) ?_ ?_
    ·skip
     refine ww mixed hN Z Z (qd Z (za (wb Z Z) (qd Z (yn (j:=2) Z Z (fun h12 => ?_) (fun h12 => ?_) Z))))
     ·refine u1 h12 H fun h13 H=>zf Z Z h12 (zq y1f Z) (vc Z Z h12 (zt tyS9 Z Z) Z (zf Z Z h12 (ze (.dat _) Z) (zf Z Z h12 (ze (.dat _) Z) (zf Z Z h12 (x2d Z Z (by omega)) (bE H fun x14 h15 H=>zf Z Z h12 (Qb z7z (fun _=>Z) Z Z h15) (zf Z Z h12 (y1v y1f Z) (zf Z Z h12 (wh tyS9 Z (qp (vt h15).2) Z) (zf Z Z h12 (w1s Z Z) (za (ya Z (bTT h13) Z) (qe Z ⟨Z,?_⟩))))))))))
      exact ⟨(Op.bytesLess x6.Key x14.Key || x6.Key == x14.Key),H,⟨Z,Z,Z,Z,Z,Z,U⟩,⟨Z,U⟩⟩
     ·refine u2 h12 H fun h16 H=>zc Z Z h12 (zc Z Z h12 (zc Z Z h12 (zc Z Z h12 (zc Z Z h12 (zc Z Z h12 (zc Z Z h12 (zc Z Z h12 (zc Z Z h12 (za (zv Z (bFF h16) Z) (qe Z ⟨Z,?_⟩))))))))))
      exact ⟨false,H,⟨Z,Z,Z,Z,Z,Z,U⟩,⟨Z,U⟩⟩
    ·rintro v17 H
     replace H:z7k x6 v17=some q4:=H
     unfold z7k at H
     refine zh _ Z (fun h18 => ?_) (fun h18 => ?_)
     ·refine tE h18 H fun H=>zb hN Z (qe Z (zk ?_))
      replace H:=retl H hq4
      cases H
      exact ⟨U,.inl Z,U⟩
     ·refine fE h18 H fun H=>zb hN Z (za (zq y5u Z) (zm (zt tyS3 Z Z) Z (bE H fun r19 h20 H=>za (zo (z0w x6.Weight 1 100 r19 h20) ⟨.inl Z,.inl Z,.inl Z,U⟩) (qe Z (zh _ Z (fun h21 => ?_) (fun h21 => ?_))))))
      ·refine tE h21 H fun H=>zb hN Z (qe Z (zk ?_))
       replace H:=retl H hq4
       cases H
       exact ⟨U,.inl Z,U⟩
      ·exact fE h21 H fun H=>zn (zj hN Z (za (qy Z Z (by omega)) (qd Z ⟨_,qm H,⟨Z,Z,Z,Z,U⟩,U⟩)))
theorem w6e (l1:(List jd)) (r:(Int)) (H:y7s l1=some r):Fn Tryz.prog 87 [vlst (List.map uv l1)] (zr [vint r]):=by
 refine ⟨by kernel_rfl,yf (us:=[vint r]) Tryz.func87 Z Z Z Z fun X hN => ?_⟩
 unfold y7s at H
 refine zb hN Z (qe Z (zb hN Z (qe Z (zd (zb hN Z (qd Z (za (qh z38 Z) (qd Z (yc (gE H fun h5 H=>va (fun (k3:Nat) (s:Int)=>[(3,.dat (vint s)),(6,.dat (vlst (List.map uv l1))),(7,.dat (vint (l1.length:Int))),(8,.dat (vint (k3:Int)))]) (fun (k3:Nat) (s:Int)=>[]) 0 H ⟨Z,Z,Z,Z,U⟩ U (fun _ _=>Z) ?_ ?_))))))))))
 ·rintro sum2 H
  replace H:y5j sum2=some r:=H
  unfold y5j at H
  refine zb hN Z (za (ye Z Z) (zd (zh _ Z (fun h=>(lt_t h).elim) (fun h => ?_))))
  refine yz (zb hN Z (qd Z (qe Z (zk ?_))))
  cases H
  exact ⟨U,.inl Z,U⟩
 ·rintro k3 x6 sum2 q4 h7 h8 H hq4
  replace H:y5i k3 x6 sum2=some q4:=H
  unfold y5i at H
  refine zb hN Z (za (ye Z Z) (zd (zh _ Z (fun h => ?_) (fun h=>(lt_f h7 h).elim))))
  exact zn (zd (yc (zb hN Z (za (wj z7z (fun _=>Z) Z Z h8) (za (xa z39 Z (qp h8) Z) (zl (qt 1 y08 Z) Z (zl (yx z39 Z Z Z Z) Z (zj hN Z (qd Z (za (zq y5u Z) (zm (zt tyS3 Z Z) Z (za (ym _ Z Z (.inl ⟨Z,Z⟩)) (qe Z (zj hN Z (za (qy Z Z (by omega)) (qd Z ⟨_,qm H,⟨Z,Z,Z,Z,U⟩,U⟩))))))))))))))))
theorem w6f (v1:(List jd)) (v2:Int) (r:((List Bs)×Int)) (H:y2z v1 v2=some r):Fn Tryz.prog 37 [vlst (List.map uv v1),vint v2] (zr [vlst (List.map zx r.1),vint r.2]):=by
 refine ⟨by kernel_rfl,yf (us:=[vlst (List.map zx r.1),vint r.2]) Tryz.func37 Z Z Z Z fun X hN => ?_⟩
 unfold y2z at H
 refine zb hN Z (qe Z (qe Z (zd (zb hN Z (qd Z (bE H fun r3 h4 H=>za (zo (w6g v1 r3 h4) ⟨.inl Z,U⟩) (qe Z (zb hN Z (qd Z (za (yy Z Z) (zh _ Z (fun h5 => ?_) (fun h5 => ?_))))))))))))
 ·refine tE h5 H fun H=>zb hN Z (qd Z (qe Z (qe Z (zk ?_))))
  cases H
  exact ⟨U,.inr ⟨Z,Z⟩,.inl Z,U⟩
 ·refine fE h5 H fun H=>zn (zd (zb hN Z (qd Z (bE H fun r6 h7 H=>za (zo (z0w v2 0 2000 r6 h7) ⟨.inl Z,.inl Z,.inl Z,U⟩) (zh _ Z (fun h8 => ?_) (fun h8 => ?_))))))
  ·refine tE h8 H fun H=>zb hN Z (qe Z (qe Z (zk ?_)))
   cases H
   exact ⟨U,.inr ⟨Z,Z⟩,.inl Z,U⟩
  ·refine fE h8 H fun H=>zn (zd (zb hN Z (qd Z (za (qh z38 Z) (za (yq Z Z) (zh _ Z (fun h9 => ?_) (fun h9 => ?_)))))))
   ·refine tE h9 H fun H=>zb hN Z (qe Z (qe Z (zk ?_)))
    cases H
    exact ⟨U,.inr ⟨Z,Z⟩,.inl Z,U⟩
   ·refine fE h9 H fun H=>zn (zb hN Z (qd Z (za (qh z38 Z) (gE H fun h10 H=>zl (w1f (C:=qx) 1 0 z7r tyZ3 Z Z Z Z h10 Z) Z (za (qs (.row _ _) Z) (zb hN Z (qd Z (bE H fun r11 h12 H=>za (zo (w6e v1 r11 h12) ⟨.inl Z,U⟩) (qe Z (zb hN Z (qe Z (zd (zb hN Z (qd Z (qd Z (yc (ug 9 2 9 1 Z Z Z (gE H fun h17 H=>z3z (fun (k15:Nat) (s:(List Int)×(List Bs))=>[(0,.dat (vlst (List.map uv v1))),(7,.row 1 s.1.length),(8,.dat (vint r11)),(9,.row 2 s.2.length),(28,.dat (vint v2)),(29,.dat (vint (k15:Int)))]) (fun (k15:Nat) (s:(List Int)×(List Bs))=>[(1,.row 3 1 (List.map qx s.1)),(2,.row 9 1 (List.map zx s.2))]) ((List.replicate v1.length 0),[]) H ⟨Z,congrArg (Slot.row 1) (by simp),Z,Z,Z,Z,U⟩ ⟨Z,Z,U⟩ (fun _ _=>Z) ?_ ?_))))))))))))))))))
    ·rintro ⟨l13,l14⟩ H
     replace H:y5n l13 l14=some r:=H
     unfold y5n at H
     refine zb hN Z (za (ye Z Z) (zd (zh _ Z (fun h=>(y8n h).elim) (fun h => ?_))))
     refine yz (zb hN Z (za (ze (.row _ _) Z) (za (qs (.row _ _) Z) (qe Z (zk ?_)))))
     cases H
     exact ⟨U,z4b Z Z,.inl Z,U⟩
    ·rintro k15 ⟨l13,l14⟩ q16 h18 H hq16
     replace H:y5l v1 r11 k15 l13 l14=some q16:=H
     unfold y5l at H
     refine zb hN Z (za (ye Z Z) (zd (zh _ Z (fun h => ?_) (fun h=>(y8o h18 h).elim))))
     refine zn (zd (yc (zb hN Z (qe Z (zd (zb hN Z (qd Z (za (qh z38 Z) (qd Z (yc (gE H fun h23 H=>va (fun (k21:Nat) (s:Int×(List Int))=>[(0,.dat (vlst (List.map uv v1))),(7,.row 1 s.2.length),(8,.dat (vint r11)),(9,.row 2 l14.length),(10,.dat (vint s.1)),(28,.dat (vint v2)),(29,.dat (vint (k15:Int))),(31,.dat (vlst (List.map uv v1))),(32,.dat (vint (v1.length:Int))),(33,.dat (vint (k21:Int)))]) (fun (k21:Nat) (s:Int×(List Int))=>[(1,.row 3 1 (List.map qx s.2)),(2,.row 9 1 (List.map zx l14))]) (0,l13) H ⟨Z,Z,Z,Z,Z,Z,Z,Z,Z,Z,U⟩ ⟨Z,Z,U⟩ (fun _ _=>Z) ?_ ?_)))))))))))
     ·rintro ⟨v19,l20⟩ H
      replace H:y5m v1 r11 l14 v19 l20=some q16:=H
      unfold y5m at H
      refine zb hN Z (za (ye Z Z) (zd (zh _ Z (fun h=>(lt_t h).elim) (fun h => ?_))))
      refine yz (zb hN Z (za (ze (.row _ _) Z) (qd Z (bE H fun x25 h26 H=>zm (z1k Qa Z Z Z h26) Z (zm (z4c tyS3 Z Z (vt h26).2 Z) Z (qd Z (za (ym _ Z Z (.inr (.inl ⟨Z,Z⟩))) (zm (z1k Qa Z Z Z h26) Z (zl (y1s (wr (x25 - r11)) tyS3 Z Z Z Z (vt h26).2 Z Z) Z (zj hN Z (za (ze (.row _ _) Z) (qd Z (qd Z (bE H fun x27 h28 H=>za (Qb z7z (fun _=>Z) Z Z h28) (za (y1v y1f Z) (za (wh tyS9 Z (qp (vt h28).2) Z) (za (yd (u':=vlst (List.map zx [x27.Key])) (qj [[_]] qr ⟨Z,.inl ⟨_,Z,Z,Z⟩,Z,U⟩ Z Z) Z) (gE H fun h29 H=>zl (ke qr (fun _=>Z) Z Z Z ⟨by simp,by first | (simp; done) | simpa using h29⟩ Z) Z ?_))))))))))))))))))
      exact za (qs (.row _ _) Z) (zj hN Z (za (qy Z Z (by omega)) (qd Z ⟨_,qm H,⟨Z,congrArg (Slot.row 1) (by simp),Z,Z,Z,Z,U⟩,⟨Z,Z,U⟩⟩)))
     ·rintro k21 x24 ⟨v19,l20⟩ q22 h30 h31 H hq22
      replace H:y5k k21 x24 v19 l20=some q22:=H
      unfold y5k at H
      refine zb hN Z (za (ye Z Z) (zd (zh _ Z (fun h => ?_) (fun h=>(lt_f h30 h).elim))))
      refine zn (yg (ι:=Int×(List Int)) (fun i=>[(0,.dat (vlst (List.map uv v1))),(7,.row 1 i.2.length),(8,.dat (vint r11)),(9,.row 2 l14.length),(10,.dat (vint i.1)),(28,.dat (vint v2)),(29,.dat (vint (k15:Int))),(31,.dat (vlst (List.map uv v1))),(32,.dat (vint (v1.length:Int))),(33,.dat (vint (k21:Int)))]) (fun i=>[(1,.row 3 1 (List.map qx i.2)),(2,.row 9 1 (List.map zx l14))]) (fun i=>z7j i.1 i.2=some q22) (fun i=>Z) ?_ ?_)
      ·skip
       refine yc (zb hN Z (qd Z (za (wj z7z (fun _=>Z) Z Z h31) (za (xa z39 Z (qp h31) Z) (zl (qt 3 y08 Z) Z (qe Z (zl (yx z39 Z Z Z Z) Z (zd (ww mixed hN Z Z (za (ze (.row _ _) Z) (qd Z (bE H fun x32 h33 H=>zm (Wq Qa Z Z Z h33) Z (zm (z4c tyS3 Z Z h33 Z) Z (za (zq y5u Z) (zm (zt tyS3 Z Z) Z (za (ym _ Z Z (.inl ⟨Z,Z⟩)) (zm (Wq Qa Z Z Z h33) Z (zl (y1s (wr (x32+x24.Weight)) tyS3 Z Z Z Z h33 Z Z) Z ⟨Z,?_⟩))))))))))))))))))
       refine zd (ww mixed hN Z Z (za (ze (.row _ _) Z) (qd Z (bE H fun x34 h35 H=>zm (Wq Qa Z (by simp) Z h35) Z (zm (z4c tyS3 Z (by simp) h35 Z) Z (za (ze (.row _ _) Z) (qd Z (bE H fun x36 h37 H=>zm (z1k Qa Z (by simp) Z h37) Z (zm (z4c tyS3 Z (by simp) (vt h37).2 Z) Z (za (wb Z Z) ⟨Z,?_⟩))))))))))
       refine zh _ Z (fun h38 => ?_) (fun h38 => ?_)
       ·exact tE h38 H fun H=>zj hN Z (qd Z (qe Z ⟨((k21:Int),(l20.set k21 (wr (x32+x24.Weight)))),H,⟨Z,congrArg (Slot.row 1) (by simp),Z,Z,Z,Z,Z,Z,Z,Z,U⟩,⟨Z,Z,U⟩⟩))
       ·exact fE h38 H fun H=>zn ⟨(v19,(l20.set k21 (wr (x32+x24.Weight)))),H,⟨Z,congrArg (Slot.row 1) (by simp),Z,Z,Z,Z,Z,Z,Z,Z,U⟩,⟨Z,Z,U⟩⟩
      ·rintro ⟨v39,v40⟩ H
       replace H:z7j v39 v40=some q22:=H
       unfold z7j at H
       exact zj hN Z (za (qy Z Z (by omega)) (qd Z ⟨_,qm H,⟨Z,Z,Z,Z,Z,Z,Z,Z,Z,Z,U⟩,⟨Z,Z,U⟩⟩))
theorem x6n (qb:Nat) (r:((List Bs)×(List Int))) (H:z9l  = some r):Fn Tryz.prog 123 [vval (.pointer (some ⟨qb,0,none⟩))] (zr [vlst (List.map zx r.1),vlst (List.map (CP qb) r.2)]):=by
 refine ⟨by kernel_rfl,yf (us:=[vlst (List.map zx r.1),vlst (List.map (CP qb) r.2)]) Tryz.func123 Z Z Z Z fun X hN => ?_⟩
 unfold z9l at H
 refine zb hN Z (qe Z (qe Z (zd (ww mixed hN Z Z (za (yd (u':=vlst (List.map zx [[109,97,120,45,97,103,101],[115,45,109,97,120,97,103,101],[115,116,97,108,101,45,119,104,105,108,101,45,114,101,118,97,108,105,100,97,116,101],[115,116,97,108,101,45,105,102,45,101,114,114,111,114],[109,97,120,45,115,116,97,108,101],[109,105,110,45,102,114,101,115,104]])) (qj [[_],[_],[_],[_],[_],[_]] qr ⟨Z,.inl ⟨_,Z,Z,Z⟩,Z,Z,.inl ⟨_,Z,Z,Z⟩,Z,Z,.inl ⟨_,Z,Z,Z⟩,Z,Z,.inl ⟨_,Z,Z,Z⟩,Z,Z,.inl ⟨_,Z,Z,Z⟩,Z,Z,.inl ⟨_,Z,Z,Z⟩,Z,U⟩ Z Z) Z) (qd Z (za (xu Z) (za (xv z7x Z) (qd Z (za (xu Z) (za (xv y1j Z) (qd Z (za (xu Z) (za (xv y5x Z) (qd Z (za (xu Z) (za (xv w0u Z) (qd Z (za (xu Z) (za (xv y51 Z) (qd Z (za (xu Z) (za (xv y50 Z) ?_)))))))))))))))))))))))
 refine za (yd (u':=vlst (List.map (CP qb) ([6,7,8,9,10,11]:List Int))) (qj [[_],[_],[_],[_],[_],[_]] w0r ⟨Z,.inl ⟨_,Z,Z,Z⟩,Z,Z,.inl ⟨_,Z,Z,Z⟩,Z,Z,.inl ⟨_,Z,Z,Z⟩,Z,Z,.inl ⟨_,Z,Z,Z⟩,Z,Z,.inl ⟨_,Z,Z,Z⟩,Z,Z,.inl ⟨_,Z,Z,Z⟩,Z,U⟩ Z Z) Z) (qe Z (qe Z ⟨Z,?_⟩))
 refine zk ?_
 cases H
 exact ⟨U,.inl Z,.inl Z,U⟩
theorem w7h (values1:(List Bs)) (r:((List Bs))) (H:z0p values1=some r):Fn Tryz.prog 124 [vlst (List.map zx values1)] (zr [vlst (List.map zx r)]):=by
 refine ⟨by kernel_rfl,yf (us:=[vlst (List.map zx r)]) Tryz.func124 Z Z Z Z fun X hN => ?_⟩
 unfold z0p at H
 refine zb hN Z (qe Z (zb hN Z (qe Z (zd (zb hN Z (qd Z (za (qh wl Z) (qd Z (yc (ug 3 1 9 1 Z Z Z (gE H fun h5 H=>va (fun (k3:Nat) (s:(List Bs))=>[(3,.row 1 s.length),(8,.dat (vlst (List.map zx values1))),(9,.dat (vint (values1.length:Int))),(10,.dat (vint (k3:Int)))]) (fun (k3:Nat) (s:(List Bs))=>[(1,.row 9 1 (List.map zx s))]) [] H ⟨Z,Z,Z,Z,U⟩ ⟨Z,U⟩ (fun _ _=>Z) ?_ ?_)))))))))))
 ·rintro l2 H
  replace H:z45 l2=some r:=H
  unfold z45 at H
  refine zb hN Z (za (ye Z Z) (zd (zh _ Z (fun h=>(lt_t h).elim) (fun h => ?_))))
  refine yz (zb hN Z (za (ze (.row _ _) Z) (za (qs (.row _ _) Z) (zk ?_))))
  cases H
  exact ⟨U,z4b Z Z,U⟩
 ·rintro k3 x6 l2 q4 h7 h8 H hq4
  replace H:Qk k3 x6 l2=some q4:=H
  unfold Qk at H
  refine zb hN Z (za (ye Z Z) (zd (zh _ Z (fun h => ?_) (fun h=>(lt_f h7 h).elim))))
  refine zn (zd (yc (zb hN Z (za (wj vp (fun _=>Z) Z Z h8) (za (wh tyS9 Z (qp h8) Z) (qe Z (zb hN Z (qd Z (bE H fun r9 h10 H=>za (zo (z6b x6 [44] r9 h10) ⟨.inl Z,.inl Z,U⟩) (za (qh wl Z) (qd Z (yc (gE H fun h14 H=>va (fun (k12:Nat) (s:(List Bs))=>[(3,.row 1 s.length),(8,.dat (vlst (List.map zx values1))),(9,.dat (vint (values1.length:Int))),(10,.dat (vint (k3:Int))),(15,.dat (vlst (List.map zx r9))),(16,.dat (vint (r9.length:Int))),(17,.dat (vint (k12:Int)))]) (fun (k12:Nat) (s:(List Bs))=>[(1,.row 9 1 (List.map zx s))]) l2 H ⟨Z,Z,Z,Z,Z,Z,Z,U⟩ ⟨Z,U⟩ (fun _ _=>Z) ?_ ?_)))))))))))))
  ·rintro l11 H
   replace H:z44 l11=some q4:=H
   unfold z44 at H
   refine zb hN Z (za (ye Z Z) (zd (zh _ Z (fun h=>(lt_t h).elim) (fun h => ?_))))
   exact yz (zj hN Z (za (qy Z Z (by omega)) (qd Z ⟨_,qm H,⟨Z,Z,Z,Z,U⟩,⟨Z,U⟩⟩)))
  ·rintro k12 x15 l11 q13 h16 h17 H hq13
   replace H:Qj k12 x15 l11=some q13:=H
   unfold Qj at H
   refine zb hN Z (za (ye Z Z) (zd (zh _ Z (fun h => ?_) (fun h=>(lt_f h16 h).elim))))
   refine zn (yg (ι:=(List Bs)) (fun i=>[(3,.row 1 i.length),(8,.dat (vlst (List.map zx values1))),(9,.dat (vint (values1.length:Int))),(10,.dat (vint (k3:Int))),(15,.dat (vlst (List.map zx r9))),(16,.dat (vint (r9.length:Int))),(17,.dat (vint (k12:Int)))]) (fun i=>[(1,.row 9 1 (List.map zx i))]) (fun i=>Ql i=some q13) (fun i=>Z) ?_ ?_)
   ·skip
    refine yc (zb hN Z (za (wj vp (fun _=>Z) Z Z h17) (za (wh tyS9 Z (qp h17) Z) (qe Z (zb hN Z (qd Z (bE H fun r18 h19 H=>za (zo (y3q x15 [32] r18 h19) ⟨.inl Z,.inl Z,U⟩) (qe Z (zb hN Z (qd Z (za (jo Z Z) (zh _ Z (fun h20 => ?_) (fun h20 => ?_)))))))))))))
    ·refine tE h20 H fun H=>zj hN Z (za (ze (.row _ _) Z) (qd Z (za (yd (u':=vlst (List.map zx [r18])) (qj [[_]] qr ⟨Z,.inl ⟨_,Z,Z,Z⟩,Z,U⟩ Z Z) Z) (gE H fun h21 H=>zl (ke qr (fun _=>Z) Z Z Z ⟨by simp,by first | (simp; done) | simpa using h21⟩ Z) Z ?_))))
     exact za (qs (.row _ _) Z) ⟨(l11++[r18]),H,⟨Z,Z,Z,Z,Z,Z,Z,U⟩,⟨Z,U⟩⟩
    ·exact fE h20 H fun H=>zn ⟨l11,H,⟨Z,Z,Z,Z,Z,Z,Z,U⟩,⟨Z,U⟩⟩
   ·rintro out22 H
    replace H:Ql out22=some q13:=H
    unfold Ql at H
    exact zj hN Z (za (qy Z Z (by omega)) (qd Z ⟨_,qm H,⟨Z,Z,Z,Z,Z,Z,Z,U⟩,⟨Z,U⟩⟩))
theorem x6m (s1:Bs) (r:(Int×Bool)) (H:z5z s1=some r):Fn Tryz.prog 127 [vstr s1] (zr [vint r.1,zi r.2]):=by
 refine ⟨by kernel_rfl,yf (us:=[vint r.1,zi r.2]) Tryz.func127 Z Z Z Z fun X hN => ?_⟩
 unfold z5z at H
 refine zb hN Z (qe Z (qe Z (zb hN Z (qd Z (bE H fun r2 h3 H=>za (zo (y86 s1 r2 h3) ⟨.inl Z,U⟩) (qd Z (za (zz Z Z) (za (zz Z Z) (qe Z (qe Z (yg (ι:=Bool) (fun i=>[(2,.dat (vint r2.1)),(3,.dat (zi i))]) (fun i=>[]) (fun i=>z69 r2 i=some r) (fun i=>Z) ?_ ?_)))))))))))
 ·skip
  refine zj hN Z (qd Z (qd Z (qd Z (yn (j:=2) Z Z (fun h4 => ?_) (fun h4 => ?_) Z))))
  ·exact u1 h4 H fun h5 H=>zf Z Z h4 (ze (.dat _) Z) (bE H fun r6 h7 H=>zf Z Z h4 (zo (z0w r2.1 0 100000000 r6 h7) ⟨.inl Z,.inl Z,.inl Z,U⟩) (zf Z Z h4 (yt Z) (za (ya Z (bTT h5) Z) (qe Z (qe Z ⟨!r6,H,⟨Z,Z,U⟩,U⟩)))))
  ·exact u2 h4 H fun h8 H=>zc Z Z h4 (zc Z Z h4 (zc Z Z h4 (za (zv Z (bFF h8) Z) (qe Z (qe Z ⟨false,H,⟨Z,Z,U⟩,U⟩)))))
 ·rintro v9 H
  replace H:z69 r2 v9=some r:=H
  unfold z69 at H
  refine zk ?_
  cases H
  exact ⟨U,.inl Z,.inl Z,U⟩
theorem w8b (qb:Nat) (r:((List Bs)×(List Int))) (H:y3k  = some r):Fn Tryz.prog 181 [vval (.pointer (some ⟨qb,0,none⟩))] (zr [vlst (List.map zx r.1),vlst (List.map (CP qb) r.2)]):=by
 refine ⟨by kernel_rfl,yf (us:=[vlst (List.map zx r.1),vlst (List.map (CP qb) r.2)]) Tryz.func181 Z Z Z Z fun X hN => ?_⟩
 unfold y3k at H
 refine zb hN Z (qe Z (qe Z (zd (ww mixed hN Z Z (za (yd (u':=vlst (List.map zx [[110,111,45,115,116,111,114,101],[110,111,45,99,97,99,104,101],[112,114,105,118,97,116,101],[112,117,98,108,105,99],[109,117,115,116,45,114,101,118,97,108,105,100,97,116,101],[111,110,108,121,45,105,102,45,99,97,99,104,101,100]])) (qj [[_],[_],[_],[_],[_],[_]] qr ⟨Z,.inl ⟨_,Z,Z,Z⟩,Z,Z,.inl ⟨_,Z,Z,Z⟩,Z,Z,.inl ⟨_,Z,Z,Z⟩,Z,Z,.inl ⟨_,Z,Z,Z⟩,Z,Z,.inl ⟨_,Z,Z,Z⟩,Z,Z,.inl ⟨_,Z,Z,Z⟩,Z,U⟩ Z Z) Z) (qd Z (za (xu Z) (za (xv y52 Z) (qd Z (za (xu Z) (za (xv y1k Z) (qd Z (za (xu Z) (za (xv x1q Z) (qd Z (za (xu Z) (za (xv x1p Z) (qd Z (za (xu Z) (za (xv y5z Z) (qd Z (za (xu Z) (za (xv y5y Z) ?_)))))))))))))))))))))))
 refine za (yd (u':=vlst (List.map (CP qb) ([0,1,2,3,4,5]:List Int))) (qj [[_],[_],[_],[_],[_],[_]] w0q ⟨Z,.inl ⟨_,Z,Z,Z⟩,Z,Z,.inl ⟨_,Z,Z,Z⟩,Z,Z,.inl ⟨_,Z,Z,Z⟩,Z,Z,.inl ⟨_,Z,Z,Z⟩,Z,Z,.inl ⟨_,Z,Z,Z⟩,Z,Z,.inl ⟨_,Z,Z,Z⟩,Z,U⟩ Z Z) Z) (qe Z (qe Z ⟨Z,?_⟩))
 refine zk ?_
 cases H
 exact ⟨U,.inl Z,.inl Z,U⟩
theorem w72 (s1:yh) (v2:Bs) (r:(Bool×yh)) (H:z5x s1 v2=some r):Imp Tryz.prog 125 121 (ko s1) [vstr v2] (zr [zi r.1]) (ko r.2):=by
 refine uf (us:=[zi r.1]) (cs':=(ko r.2)) (by kernel_rfl) Tryz.func125 Z Z Z Z fun X bl hN => ?_
 unfold z5x at H
 refine zb hN Z (qe Z (zb hN Z (qd Z (bE H fun r3 h4 H=>za (zo (z0v v2 [61] r3 h4) ⟨.inl Z,.inl Z,U⟩) (qd Z (za (zz Z Z) (za (zz Z Z) (za (zz Z Z) (qe Z (qe Z (qe Z (zb hN Z (qd Z (bE H fun r5 h6 H=>za (zo (x6m r3.2.1 r5 h6) ⟨.inl Z,U⟩) (qd Z (za (zz Z Z) (za (zz Z Z) (qe Z (qe Z (zd (zb hN Z ?_)))))))))))))))))))))
 refine qd Z (bE H fun r7 h8 H=>za (zo (z6c r3.1 r7 h8) ⟨.inl Z,U⟩) (za (yt Z) (qd Z (yp Z Z (fun hc=>ze (.dat _) Z) (yp Z Z (fun hc=>ze (.dat _) (cnd (c:=(!(!r7))) hc)) (vd Z Z (fun hc=>ze (.dat _) Z) (vd Z Z (fun hc=>yt (cnd (c:=((!(!r7)) && r3.2.2)) hc)) (yp Z Z (fun hc=>wz (cnd (c:=(!(!r7))) hc) (fun hb=>(cnd (c:=((!(!r7)) && r3.2.2)) (andI hc hb))) Z) (za (wy Z Z (fun hb=>(cnd (c:=(!(!r7))) (notI hb)))) (zh _ Z (fun h9 => ?_) (fun h9 => ?_)))))))))))
 ·refine tE h9 H fun H=>zb hN Z (qe Z (zk ?_))
  cases H
  exact ⟨U,⟨.inl Z,U⟩,Z⟩
 ·refine fE h9 H fun H=>zn (zb hN Z (qd Z (bE H fun r10 h11 H=>za (zo (y3r r3.1 r10 h11) ⟨.inl Z,U⟩) (qe Z (zb hN Z (za (ze (.ptr _ _) Z) (bE H fun r12 h13 H=>zm (jp (s := .dr 0 (fun qb=>vtup [vlst (List.map zx r12.1),vlst (List.map (CP qb) r12.2)])) 0 (fun qb=>zo (w8b qb r12 h13) ⟨.inl Z,U⟩) Z Z) Z (za (ze (.dr _ _) Z) (zm (jp (s := .dat (vlst (List.map zx r12.1))) 0 (fun qb=>zz Z Z) Z Z) Z (zm (jp (s := .dr 0 (fun qb=>vlst (List.map (CP qb) r12.2))) 0 (fun qb=>zz Z Z) Z Z) Z (qe Z (za (qs (.dr _ _) Z) (zd (zb hN Z (qd Z (qd Z (bE H fun r14 h15 H=>za (zo (y80 r12.1 r10 r14 h15) ⟨.inl Z,.inl Z,U⟩) (qe Z (zb hN Z ?_)))))))))))))))))))
  refine qd Z (za (vk Z Z) (zh _ Z (fun h16 => ?_) (fun h16 => ?_)))
  ·refine tE h16 H fun H=>zb hN Z (za (ze (.dr _ _) Z) (qd Z (bE H fun x17 h18 H=>zm (jp (s := .dr 0 (fun qb=>kb (List.map (CP qb) r12.2) r14.toNat 0)) 0 (fun qb=>Qb w0x (fun _=>Z) Z Z h18) Z Z) Z (gE H fun h19 H=>zm (jp (s := .ptr 0 x17.toNat) 0 (fun qb=>wh w0i Z (qp (vt h18).2) Z) Z Z) Z (za (qn Z) (bE H fun c20 h21 H=>zl (y6e tyS4 Z Z Z (w2s (c:=s1) h19 h21)) Z (zb hN Z (qd Z (za (yt Z) (qe Z (zk ?_)))))))))))
   cases H
   exact ⟨U,⟨.inl Z,U⟩,Z⟩
  ·refine fE h16 H fun H=>zn (zb hN Z (za (ze (.ptr _ _) Z) (bE H fun r22 h23 H=>zm (jp (s := .dr 0 (fun qb=>vtup [vlst (List.map zx r22.1),vlst (List.map (CP qb) r22.2)])) 0 (fun qb=>zo (x6n qb r22 h23) ⟨.inl Z,U⟩) Z Z) Z (za (ze (.dr _ _) Z) (zm (jp (s := .dat (vlst (List.map zx r22.1))) 0 (fun qb=>zz Z Z) Z Z) Z (zm (jp (s := .dr 0 (fun qb=>vlst (List.map (CP qb) r22.2))) 0 (fun qb=>zz Z Z) Z Z) Z (qe Z (za (qs (.dr _ _) Z) (zb hN Z (qd Z (qd Z (bE H fun r24 h25 H=>za (zo (y80 r22.1 r10 r24 h25) ⟨.inl Z,.inl Z,U⟩) (qe Z (zd (zb hN Z (qd Z (za (ye Z Z) (zh _ Z (fun h26 => ?_) (fun h26 => ?_)))))))))))))))))))
   ·refine tE h26 H fun H=>zb hN Z (qe Z (zk ?_))
    cases H
    exact ⟨U,⟨.inl Z,U⟩,Z⟩
   ·refine fE h26 H fun H=>zn (yg (ι:=Bool×Bool×Bool×Bool×Bool×Bool×Int×Int×Int×Int×Int×Int) (fun i=>[(7,.dat (zi r3.2.2))]) (fun i=>[(0,.box (some bl) 121 [.dat (zi i.1),.dat (zi i.2.1),.dat (zi i.2.2.1),.dat (zi i.2.2.2.1),.dat (zi i.2.2.2.2.1),.dat (zi i.2.2.2.2.2.1),.dat (vint i.2.2.2.2.2.2.1),.dat (vint i.2.2.2.2.2.2.2.1),.dat (vint i.2.2.2.2.2.2.2.2.1),.dat (vint i.2.2.2.2.2.2.2.2.2.1),.dat (vint i.2.2.2.2.2.2.2.2.2.2.1),.dat (vint i.2.2.2.2.2.2.2.2.2.2.2)])]) (fun i=>z67 r3 i.1 i.2.1 i.2.2.1 i.2.2.2.1 i.2.2.2.2.1 i.2.2.2.2.2.1 i.2.2.2.2.2.2.1 i.2.2.2.2.2.2.2.1 i.2.2.2.2.2.2.2.2.1 i.2.2.2.2.2.2.2.2.2.1 i.2.2.2.2.2.2.2.2.2.2.1 i.2.2.2.2.2.2.2.2.2.2.2=some r) (fun i=>Z) ?_ ?_)
    ·skip
     refine yg (ι:=Bool) (fun i=>[(7,.dat (zi r3.2.2)),(8,.dat (vint r5.1)),(13,.dr 0 (fun qb=>vlst (List.map (CP qb) r22.2))),(14,.dat (vint r24)),(81,.dat (zi i))]) (fun i=>[(0,.box (some bl) 121 [.dat (zi s1.NoStore),.dat (zi s1.NoCache),.dat (zi s1.Private),.dat (zi s1.Public),.dat (zi s1.Must),.dat (zi s1.Only),.dat (vint s1.MaxAge),.dat (vint s1.Shared),.dat (vint s1.Stale),.dat (vint s1.OnError),.dat (vint s1.MaxStale),.dat (vint s1.MinFresh)])]) (fun i=>z66 s1 r3 r5 r22 r24 i=some r) (fun i=>Z) ?_ ?_
     ·skip
      refine zj hN Z (za (ze (.dr _ _) Z) (qd Z (bE H fun x27 h28 H=>zm (jp (s := .dr 0 (fun qb=>kb (List.map (CP qb) r22.2) r24.toNat 0)) 0 (fun qb=>Qb y1m (fun _=>Z) Z Z h28) Z Z) Z (gE H fun h29 H=>zm (jp (s := .ptr 0 x27.toNat) 0 (fun qb=>wh y1d Z (qp (vt h28).2) Z) Z Z) Z (za (qn Z) (zm (zt tyS3 Z (x69 (c:=s1) h29)) Z (za (yq Z Z) (qd Z (yn (j:=7) Z Z (fun h30 => ?_) (fun h30 => ?_) Z)))))))))
      ·exact u3 h30 H fun h31 H=>zf Z Z h30 (ze (.dat _) Z) (zf Z Z h30 (ze (.dr _ _) Z) (zf Z Z h30 (ze (.dat _) Z) (vc Z Z h30 (jp (s := .dr 0 (fun qb=>kb (List.map (CP qb) r22.2) r24.toNat 0)) 0 (fun qb=>Qb y1m (fun _=>Z) Z Z h28) Z Z) Z (gE H fun h32 H=>vc Z Z h30 (jp (s := .ptr 0 x27.toNat) 0 (fun qb=>wh y1d Z (qp (vt h28).2) Z) Z Z) Z (zf Z Z h30 (qn Z) (vc Z Z h30 (zt tyS3 Z (x69 (c:=s1) h32)) Z (zf Z Z h30 (ye Z Z) (za (zv Z (bFF h31) Z) ⟨decide (r5.1 < (jz s1 x27)),H,⟨Z,Z,Z,Z,Z,U⟩,⟨Z,U⟩⟩))))))))
      ·exact u4 h30 H fun h33 H=>zc Z Z h30 (zc Z Z h30 (zc Z Z h30 (zc Z Z h30 (zc Z Z h30 (zc Z Z h30 (zc Z Z h30 (zc Z Z h30 (za (ya Z (bTT h33) Z) ⟨true,H,⟨Z,Z,Z,Z,Z,U⟩,⟨Z,U⟩⟩))))))))
     ·rintro v34 H
      replace H:z66 s1 r3 r5 r22 r24 v34=some r:=H
      unfold z66 at H
      refine zh _ Z (fun h35 => ?_) (fun h35 => ?_)
      ·exact tE h35 H fun H=>zj hN Z (za (ze (.dr _ _) Z) (qd Z (bE H fun x36 h37 H=>zm (jp (s := .dr 0 (fun qb=>kb (List.map (CP qb) r22.2) r24.toNat 0)) 0 (fun qb=>Qb y1m (fun _=>Z) Z Z h37) Z Z) Z (gE H fun h38 H=>zm (jp (s := .ptr 0 x36.toNat) 0 (fun qb=>wh y1d Z (qp (vt h37).2) Z) Z Z) Z (qd Z (za (qn Z) (bE H fun c39 h40 H=>zl (y6e tyS3 Z Z Z (x28 (c:=s1) h38 h40)) Z ⟨(c39.NoStore,c39.NoCache,c39.Private,c39.Public,c39.Must,c39.Only,c39.MaxAge,c39.Shared,c39.Stale,c39.OnError,c39.MaxStale,c39.MinFresh),H,⟨Z,U⟩,⟨Z,U⟩⟩)))))))
      ·exact fE h35 H fun H=>zn ⟨(s1.NoStore,s1.NoCache,s1.Private,s1.Public,s1.Must,s1.Only,s1.MaxAge,s1.Shared,s1.Stale,s1.OnError,s1.MaxStale,s1.MinFresh),H,⟨Z,U⟩,⟨Z,U⟩⟩
    ·rintro ⟨c41,c42,c43,c44,c45,c46,c47,c48,c49,c50,c51,c52⟩ H
     replace H:z67 r3 c41 c42 c43 c44 c45 c46 c47 c48 c49 c50 c51 c52=some r:=H
     unfold z67 at H
     refine zb hN Z (qd Z (qe Z (zk ?_)))
     cases H
     exact ⟨U,⟨.inl Z,U⟩,Z⟩
theorem z9w (l1:(List zg)) (r:(yh×Int)) (H:km l1=some r):Fn Tryz.prog 56 [vlst (List.map zy l1)] (zr [vagg (ko r.1),vint r.2]):=by
 refine ⟨by kernel_rfl,yf (us:=[vagg (ko r.1),vint r.2]) Tryz.func56 Z Z Z Z fun X hN => ?_⟩
 unfold km at H
 refine zb hN Z (zl (qt 1 Yx Z) Z (qe Z (zb hN Z (za (yd (u':=vagg (ko (yh.mk false false false false false false 0 0 0 0 0 0))) (qw [] Yx x1k Z U) Z) (zl (qt 2 Yx Z) Z (zl (yx ub Z Z Z Z) Z (zb hN Z (bE H fun r2 h3 H=>zm (jp (s := .dr 2 (fun qb=>vtup [vlst (List.map zx r2.1),vlst (List.map (CP qb) r2.2)])) 2 (fun qb=>zo (x6n qb r2 h3) ⟨.inl Z,U⟩) Z Z) Z (za (ze (.dr _ _) Z) (zm (jp (s := .dat (vlst (List.map zx r2.1))) 2 (fun qb=>zz Z Z) Z Z) Z (zm (jp (s := .dr 2 (fun qb=>vlst (List.map (CP qb) r2.2))) 2 (fun qb=>zz Z Z) Z Z) Z (qe Z (za (qs (.dr _ _) Z) (zd (zb hN Z (za (ze (.dr _ _) Z) (zm (jp (s := .dat (vint (r2.2.length:Int))) 2 (fun qb=>qh w0h Z) Z Z) Z (qd Z (yc (gE H fun h18 H=>va (fun (k16:Nat) (s:Bool×Bool×Int×Int×Bool×Bool×Bool×Bool×Int×Int×Int×Int)=>[(0,.dat (vlst (List.map zy l1))),(2,.ptr 1 0),(4,.ptr 2 0),(16,.dr 2 (fun qb=>vlst (List.map (CP qb) r2.2))),(17,.dat (vint (r2.2.length:Int))),(18,.dat (vint (k16:Int)))]) (fun (k16:Nat) (s:Bool×Bool×Int×Int×Bool×Bool×Bool×Bool×Int×Int×Int×Int)=>[(1,.box none 121 [.dat (zi false),.dat (zi false),.dat (zi false),.dat (zi false),.dat (zi false),.dat (zi false),.dat (vint 0),.dat (vint 0),.dat (vint 0),.dat (vint 0),.dat (vint 0),.dat (vint 0)]),(2,.box none 121 [.dat (zi s.1),.dat (zi s.2.1),.dat (zi s.2.2.2.2.1),.dat (zi s.2.2.2.2.2.1),.dat (zi s.2.2.2.2.2.2.1),.dat (zi s.2.2.2.2.2.2.2.1),.dat (vint s.2.2.2.2.2.2.2.2.1),.dat (vint s.2.2.2.2.2.2.2.2.2.1),.dat (vint s.2.2.2.2.2.2.2.2.2.2.1),.dat (vint s.2.2.2.2.2.2.2.2.2.2.2),.dat (vint s.2.2.1),.dat (vint s.2.2.2.1)])]) (false,false,0,0,false,false,false,false,0,0,0,0) H ⟨Z,Z,Z,Z,Z,Z,U⟩ ⟨Z,Z,U⟩ (fun _ _=>Z) ?_ ?_))))))))))))))))))))
 ·rintro ⟨c4,c5,c6,c7,c8,c9,c10,c11,c12,c13,c14,c15⟩ H
  replace H:z08 l1 c4 c5 c6 c7 c8 c9 c10 c11 c12 c13 c14 c15=some r:=H
  unfold z08 at H
  refine zb hN Z (za (ye Z Z) (zd (zh _ Z (fun h=>(lt_t h).elim) (fun h => ?_))))
  refine yz (zd (zb hN Z (qd Z (bE H fun r20 h21 H=>za (zo (Zh l1 [99,97,99,104,101,45,99,111,110,116,114,111,108] r20 h21) ⟨.inl Z,.inl Z,U⟩) (bE H fun r22 h23 H=>za (zo (w7h r20 r22 h23) ⟨.inl Z,U⟩) (za (qh wl Z) (qd Z (yc (gE H fun h38 H=>va (fun (k36:Nat) (s:Bool×Bool×Int×Int×Bool×Bool×Bool×Bool×Int×Int×Int×Int)=>[(2,.ptr 1 0),(4,.ptr 2 0),(27,.dat (vlst (List.map zx r22))),(28,.dat (vint (r22.length:Int))),(29,.dat (vint (k36:Int)))]) (fun (k36:Nat) (s:Bool×Bool×Int×Int×Bool×Bool×Bool×Bool×Int×Int×Int×Int)=>[(1,.box none 121 [.dat (zi false),.dat (zi false),.dat (zi false),.dat (zi false),.dat (zi false),.dat (zi false),.dat (vint 0),.dat (vint 0),.dat (vint 0),.dat (vint 0),.dat (vint 0),.dat (vint 0)]),(2,.box none 121 [.dat (zi s.1),.dat (zi s.2.1),.dat (zi s.2.2.2.2.1),.dat (zi s.2.2.2.2.2.1),.dat (zi s.2.2.2.2.2.2.1),.dat (zi s.2.2.2.2.2.2.2.1),.dat (vint s.2.2.2.2.2.2.2.2.1),.dat (vint s.2.2.2.2.2.2.2.2.2.1),.dat (vint s.2.2.2.2.2.2.2.2.2.2.1),.dat (vint s.2.2.2.2.2.2.2.2.2.2.2),.dat (vint s.2.2.1),.dat (vint s.2.2.2.1)])]) (c4,c5,c6,c7,c8,c9,c10,c11,c12,c13,c14,c15) H ⟨Z,Z,Z,Z,Z,U⟩ ⟨Z,Z,U⟩ (fun _ _=>Z) ?_ ?_)))))))))
  ·rintro ⟨c24,c25,c26,c27,c28,c29,c30,c31,c32,c33,c34,c35⟩ H
   replace H:y41 c24 c25 c26 c27 c28 c29 c30 c31 c32 c33 c34 c35=some r:=H
   unfold y41 at H
   refine zb hN Z (za (ye Z Z) (zd (zh _ Z (fun h=>(lt_t h).elim) (fun h => ?_))))
   refine yz (zb hN Z (zm (yr ub Z Z Z) Z (zl (yx ub Z Z Z Z) Z (qe Z (zk ?_)))))
   cases H
   exact ⟨U,.inl ⟨_,_,_,ko (yh.mk c24 c25 c28 c29 c30 c31 c32 c33 c34 c35 c26 c27),Z,Z,Z,Z,ub⟩,.inl Z,U⟩
  ·rintro k36 x39 ⟨c24,c25,c26,c27,c28,c29,c30,c31,c32,c33,c34,c35⟩ q37 h40 h41 H hq37
   replace H:z07 k36 x39 c24 c25 c26 c27 c28 c29 c30 c31 c32 c33 c34 c35=some q37:=H
   unfold z07 at H
   refine zb hN Z (za (ye Z Z) (zd (zh _ Z (fun h => ?_) (fun h=>(lt_f h40 h).elim))))
   refine zn (zd (yc (zb hN Z (za (wj vp (fun _=>Z) Z Z h41) (za (wh tyS9 Z (qp h41) Z) (qe Z (zb hN Z (qd Z (bE H fun r42 h43 H=>zl (yu (w72 (yh.mk c24 c25 c28 c29 c30 c31 c32 c33 c34 c35 c26 c27) x39 r42 h43) Z ⟨.inl Z,U⟩ Z) Z (za (yt Z) (zh _ Z (fun h44 => ?_) (fun h44 => ?_))))))))))))
   ·refine tE h44 H fun H=>zb hN Z (za (yd (u':=vagg (ko (yh.mk false false false false false false 0 0 0 0 0 0))) (qw [] Yx x1k Z U) Z) (zl (yx ub Z Z Z Z) Z (qe Z (zk ?_))))
    replace H:=retl H hq37
    cases H
    exact ⟨U,.inl ⟨_,_,_,ko (yh.mk false false false false false false 0 0 0 0 0 0),Z,Z,Z,Z,ub⟩,.inl Z,U⟩
   ·exact fE h44 H fun H=>zn (zj hN Z (za (qy Z Z (by omega)) (qd Z ⟨_,qm H,⟨Z,Z,Z,Z,Z,U⟩,⟨Z,Z,U⟩⟩)))
 ·rintro k16 x19 ⟨c4,c5,c6,c7,c8,c9,c10,c11,c12,c13,c14,c15⟩ q17 h45 h46 H hq17
  replace H:x0j k16 x19 c4 c5 c6 c7 c8 c9 c10 c11 c12 c13 c14 c15=some q17:=H
  unfold x0j at H
  refine zb hN Z (za (ye Z Z) (zd (zh _ Z (fun h => ?_) (fun h=>(lt_f h45 h).elim))))
  exact zn (zd (yc (zb hN Z (zm (jp (s := .dr 2 (fun qb=>kb (List.map (CP qb) r2.2) k16 0)) 2 (fun qb=>wj y1m (fun _=>Z) Z Z h46) Z Z) Z (gE H fun h47 H=>zm (jp (s := .ptr 2 x19.toNat) 2 (fun qb=>wh y1d Z (qp h46) Z) Z Z) Z (za (qs (.ptr _ _) Z) (zj hN Z (za (ze (.ptr _ _) Z) (za (qn Z) (bE H fun c48 h49 H=>zl (y6e tyS3 Z Z Z (x28 (c:=(yh.mk c4 c5 c8 c9 c10 c11 c12 c13 c14 c15 c6 c7)) h47 h49)) Z (zj hN Z (za (qy Z Z (by omega)) (qd Z ⟨_,qm H,⟨Z,Z,Z,Z,Z,Z,U⟩,⟨Z,Z,U⟩⟩)))))))))))))
theorem w5r (l r:List Bs) (H:jj l=some r):FnG Tryz.prog 160 [.dat (vlst (List.map zx l))] [] (.row 900 r.length) [(900,.row 9 1 (List.map zx r))]:=by
 obtain ⟨hl,rfl⟩:=x8n H
 refine vy (by kernel_rfl) Tryz.func160 Z Z Z Z fun X A hN => ?_
 refine x8z 0 Z (fun h0 => ?_) ?_
 ·obtain rfl:=List.map_eq_nil_iff.1 h0
  refine zb hN Z (qe Z (zd (zb hN Z (qd Z (za (x2n wl Z) (zh _ Z (fun h => ?_) (fun h=>by cases h)))))))
  exact zb hN Z (qe Z (ug 2 900 9 1 Z Z Z (zk ⟨U,[(2,.row 900 0)],⟨Z,U⟩,⟨Z,U⟩,Z,.inr (.inl ⟨2,Z,Z⟩)⟩)))
 ·refine zb hN Z (qe Z (zd (zb hN Z (qd Z (za (x2o wl Z) (zh _ Z (fun h=>by cases h) (fun h => ?_)))))))
  refine zn (zd (x8x 0 (u':=vlst (List.map zx l)) Z x04 (zj hN Z (zl (x2j 900 qr) Z (qd Z (zl (y6c (C:=zx) (xs:=[]) qr (fun _=>Z) Z Z Z (by simpa using hl) Z) Z ?_))))))
  exact za (qs (.row _ _) Z) (zk ⟨U,[(2,.row 900 l.length)],⟨Z,U⟩,⟨Z,U⟩,Z,.inr (.inl ⟨2,Z,Z⟩)⟩)
theorem w5m (l r:List Bs) (H:Zt l=some r):FnG Tryz.prog 161 [.row 0 l.length] [(0,.rowA undef 9 1 (List.map zx l))] (.dat (zr [])) [(0,.rowA undef 9 1 (List.map zx r))]:=by
 obtain ⟨hl,hr⟩:=x3f H
 refine w9v (fun s:Bs=>Value.string ⟨s.toArray⟩) r l (y6l H) (by kernel_rfl) (fun _=>Z) (fun blk cap w hH hb => ?_) (fun h w => ?_)
 ·rw [hr]; exact Tryz.slices_Sort_string blk 0 cap l w hH hb (by omega)
 ·exact Tryz.slices_Sort_string_none none 0 w
theorem w5p (l r:List Bs) (H:z0i l=some r):FnG Tryz.prog 162 [.row 0 l.length] [(0,.row 9 1 (List.map zx l))] (.row 900 r.length) [(900,.row 9 1 (List.map zx r))]:=by
 obtain ⟨h1,rfl⟩:=v0w H
 exact w9x (fun s:Bs=>Value.string ⟨s.toArray⟩) [] (Lib.compact l) l (v0v l) (by kernel_rfl) (fun _=>Z) (fun blk cap w hH hc=>Tryz.slices_Compact_string blk 0 cap l w hH (by omega) hc) (fun h a cap w=>Tryz.slices_Compact_string_empty a cap w)
theorem x6g (l1:(List Bs)) (r:((List Bs))) (H:Qt l1=some r):Fn Tryz.prog 99 [vlst (List.map zx l1)] (zr [vlst (List.map zx r)]):=by
 refine ⟨by kernel_rfl,yf (us:=[vlst (List.map zx r)]) Tryz.func99 Z Z Z Z fun X hN => ?_⟩
 unfold Qt at H
 refine zb hN Z (qe Z (zb hN Z (qd Z (bE H fun r2 h3 H=>qk (rn [(900,1)]) [] [(900,_)] (w5r l1 r2 h3) ⟨Z,U⟩ ⟨.inl (.inl Z),U⟩ U Z (za (qs (.row _ _) Z) (zb hN Z (za (ze (.row _ _) Z) (bE H fun r4 h5 H=>qk (rn [(0,1)]) [(0,_,_,some _)] [] (w5m r2 r4 h5) ⟨Z,U⟩ ⟨.inl (.inl Z),U⟩ ⟨⟨⟨Z,Z,Z⟩,by simp [Wu,y6l h5]⟩,U⟩ Z ?_))))))))
 refine zb hN Z (za (ze (.row _ _) Z) (bE H fun r6 h7 H=>qk (rn [(0,1),(900,2)]) [(0,_,_,none)] [(900,_)] (w5p r4 r6 h7) ⟨Z,Z,U⟩ ⟨.inl (.inl (congrArg (Slot.row 1) (y6l h5).symm)),U⟩ ⟨⟨⟨Z,Z,Z⟩,U⟩,U⟩ Z (za (qs (.row _ _) Z) (zk ?_))))
 cases H
 exact ⟨U,z4b Z Z,U⟩
theorem w5s (values1:(List Bs)) (r:((List Bs))) (H:z0p values1=some r):FnG Tryz.prog 124 [.dat (vlst (List.map zx values1))] [] (.row 1 r.length) [(1,.row 9 1 (List.map zx r))]:=by
 refine vy (by kernel_rfl) Tryz.func124 Z Z Z Z fun X A hN => ?_
 unfold z0p at H
 refine zb hN Z (qe Z (zb hN Z (qe Z (zd (zb hN Z (qd Z (za (qh wl Z) (qd Z (yc (ug 3 1 9 1 Z Z Z (gE H fun h5 H=>va (fun (k3:Nat) (s:(List Bs))=>[(3,.row 1 s.length),(8,.dat (vlst (List.map zx values1))),(9,.dat (vint (values1.length:Int))),(10,.dat (vint (k3:Int)))]) (fun (k3:Nat) (s:(List Bs))=>[(1,.row 9 1 (List.map zx s))]) [] H ⟨Z,Z,Z,Z,U⟩ ⟨Z,U⟩ (fun _ _=>Z) ?_ ?_)))))))))))
 ·rintro l2 H
  replace H:z45 l2=some r:=H
  unfold z45 at H
  refine zb hN Z (za (ye Z Z) (zd (zh _ Z (fun h=>(lt_t h).elim) (fun h => ?_))))
  refine yz (zb hN Z (za (ze (.row _ _) Z) (za (qs (.row _ _) Z) (zk ?_))))
  cases H
  exact ⟨U,[(2,.row 1 _)],⟨Z,U⟩,⟨Z,U⟩,Z,.inr (.inl ⟨2,Z,Z⟩)⟩
 ·rintro k3 x6 l2 q4 h7 h8 H hq4
  replace H:Qk k3 x6 l2=some q4:=H
  unfold Qk at H
  refine zb hN Z (za (ye Z Z) (zd (zh _ Z (fun h => ?_) (fun h=>(lt_f h7 h).elim))))
  refine zn (zd (yc (zb hN Z (za (wj vp (fun _=>Z) Z Z h8) (za (wh tyS9 Z (qp h8) Z) (qe Z (zb hN Z (qd Z (bE H fun r9 h10 H=>za (zo (z6b x6 [44] r9 h10) ⟨.inl Z,.inl Z,U⟩) (za (qh wl Z) (qd Z (yc (gE H fun h14 H=>va (fun (k12:Nat) (s:(List Bs))=>[(3,.row 1 s.length),(8,.dat (vlst (List.map zx values1))),(9,.dat (vint (values1.length:Int))),(10,.dat (vint (k3:Int))),(15,.dat (vlst (List.map zx r9))),(16,.dat (vint (r9.length:Int))),(17,.dat (vint (k12:Int)))]) (fun (k12:Nat) (s:(List Bs))=>[(1,.row 9 1 (List.map zx s))]) l2 H ⟨Z,Z,Z,Z,Z,Z,Z,U⟩ ⟨Z,U⟩ (fun _ _=>Z) ?_ ?_)))))))))))))
  ·rintro l11 H
   replace H:z44 l11=some q4:=H
   unfold z44 at H
   refine zb hN Z (za (ye Z Z) (zd (zh _ Z (fun h=>(lt_t h).elim) (fun h => ?_))))
   exact yz (zj hN Z (za (qy Z Z (by omega)) (qd Z ⟨_,qm H,⟨Z,Z,Z,Z,U⟩,⟨Z,U⟩⟩)))
  ·rintro k12 x15 l11 q13 h16 h17 H hq13
   replace H:Qj k12 x15 l11=some q13:=H
   unfold Qj at H
   refine zb hN Z (za (ye Z Z) (zd (zh _ Z (fun h => ?_) (fun h=>(lt_f h16 h).elim))))
   refine zn (yg (ι:=(List Bs)) (fun i=>[(3,.row 1 i.length),(8,.dat (vlst (List.map zx values1))),(9,.dat (vint (values1.length:Int))),(10,.dat (vint (k3:Int))),(15,.dat (vlst (List.map zx r9))),(16,.dat (vint (r9.length:Int))),(17,.dat (vint (k12:Int)))]) (fun i=>[(1,.row 9 1 (List.map zx i))]) (fun i=>Ql i=some q13) (fun i=>Z) ?_ ?_)
   ·skip
    refine yc (zb hN Z (za (wj vp (fun _=>Z) Z Z h17) (za (wh tyS9 Z (qp h17) Z) (qe Z (zb hN Z (qd Z (bE H fun r18 h19 H=>za (zo (y3q x15 [32] r18 h19) ⟨.inl Z,.inl Z,U⟩) (qe Z (zb hN Z (qd Z (za (jo Z Z) (zh _ Z (fun h20 => ?_) (fun h20 => ?_)))))))))))))
    ·refine tE h20 H fun H=>zj hN Z (za (ze (.row _ _) Z) (qd Z (za (yd (u':=vlst (List.map zx [r18])) (qj [[_]] qr ⟨Z,.inl ⟨_,Z,Z,Z⟩,Z,U⟩ Z Z) Z) (gE H fun h21 H=>zl (ke qr (fun _=>Z) Z Z Z ⟨by simp,by first | (simp; done) | simpa using h21⟩ Z) Z ?_))))
     exact za (qs (.row _ _) Z) ⟨(l11++[r18]),H,⟨Z,Z,Z,Z,Z,Z,Z,U⟩,⟨Z,U⟩⟩
    ·exact fE h20 H fun H=>zn ⟨l11,H,⟨Z,Z,Z,Z,Z,Z,Z,U⟩,⟨Z,U⟩⟩
   ·rintro out22 H
    replace H:Ql out22=some q13:=H
    unfold Ql at H
    exact zj hN Z (za (qy Z Z (by omega)) (qd Z ⟨_,qm H,⟨Z,Z,Z,Z,Z,Z,Z,U⟩,⟨Z,U⟩⟩))
end Go.Proofs.YtahcnngcpjkpgabGreatDoor
