/- Walks along the models. Printed by a program. -/
import Derived.Test.YtmdllhcjefcggacGreatDoorZmw4
namespace Go.Proofs.YtmdllhcjefcggacGreatDoor
open Go.RowKit
set_option linter.unusedVariables false
set_option maxRecDepth 100000
set_option maxHeartbeats 2000000
theorem y58 (data1:(List zo)) (a2:Int) (b3:Int) (p3:zo→zo→Option (Int)) (fv3:Nat) (us3:List V) (hp3:∀ a0 a1 r,p3 a0 a1=some r→Fn Tryz.prog fv3 ([vagg (yw a0),vagg (yw a1)]++us3) (zu [vint r])) (r:((List zo))) (H:z7v data1 a2 b3 p3=some r):FnG Tryz.prog 214 [.row 0 data1.length,.dat (vint a2),.dat (vint b3),.dat (vfn fv3 us3)] [(0,.rowA undef 112 2 (List.map yw data1))] (.dat (zu [])) [(0,.rowA undef 112 2 (List.map yw r))]:=by
 refine kv (by kernel_rfl) Tryz.func214 Z Z Z Z fun X A hN => ?_
 unfold z7v at H
 refine zb hN Z (qd Z (za (yj _ Z Z (.inl ⟨Z,Z⟩)) (qe Z (zx (uz (fun (s:Int×(List zo))=>[(0,.row 0 s.2.length),(1,.dat (vint a2)),(2,.dat (vint b3)),(3,.dat (vfn fv3 us3)),(8,.dat (vint s.1))]) (fun (s:Int×(List zo))=>[(0,.rowA (A.vl 0) 112 2 (List.map yw s.2))]) (wr (a2+1),data1) H ⟨Z,Z,Z,Z,Z,U⟩ ⟨Z,U⟩ (fun _=>Z) ?_)))))
 rintro ⟨i4,l5⟩ q6 H hq6
 replace H:y4w a2 b3 p3 i4 l5=some q6:=H
 unfold y4w at H
 refine ze (zb hN Z (qd Z (qd Z (za (zy Z Z) (zf _ Z (fun h7 => ?_) (fun h7 => ?_))))))
 ·refine tE h7 H fun H=>zl (yb (ι:=(List zo)) (fun i=>[(0,.row 0 i.length),(1,.dat (vint a2)),(2,.dat (vint b3)),(3,.dat (vfn fv3 us3)),(8,.dat (vint i4))]) (fun i=>[(0,.rowA (A.vl 0) 112 2 (List.map yw i))]) (fun i=>y06 i4 i=some q6) (fun i=>Z) ?_ ?_)
  ·skip
   refine zx (zb hN Z (qd Z (qe Z (zx (uz (fun (s:Int×(List zo))=>[(0,.row 0 s.2.length),(1,.dat (vint a2)),(2,.dat (vint b3)),(3,.dat (vfn fv3 us3)),(8,.dat (vint i4)),(9,.dat (vint s.1))]) (fun (s:Int×(List zo))=>[(0,.rowA (A.vl 0) 112 2 (List.map yw s.2))]) (i4,l5) H ⟨Z,Z,Z,Z,Z,Z,U⟩ ⟨Z,U⟩ (fun _=>Z) ?_)))))
   rintro ⟨j8,l9⟩ q10 H hq10
   replace H:y4v a2 p3 i4 j8 l9=some q10:=H
   unfold y4v at H
   refine ze (yb (ι:=Bool) (fun i=>[(0,.row 0 l9.length),(1,.dat (vint a2)),(2,.dat (vint b3)),(3,.dat (vfn fv3 us3)),(8,.dat (vint i4)),(9,.dat (vint j8)),(34,.dat (zh i))]) (fun i=>[(0,.rowA (A.vl 0) 112 2 (List.map yw l9))]) (fun i=>z7c i4 j8 l9 i=some q10) (fun i=>Z) ?_ ?_)
   ·skip
    refine vf mixed hN Z Z (qd Z (qd Z (za (wg Z Z) (qd Z (yi (j:=3) Z Z (fun h11 => ?_) (fun h11 => ?_) Z)))))
    ·refine u1 h11 H fun h12 H=>zg Z Z h11 (zd (.dat _) Z) (zg Z Z h11 (zd (.row _ _) Z) (zg Z Z h11 (zd (.dat _) Z) (bE H fun x13 h14 H=>jr Z Z h11 (z28 ut Z Z Z h14) Z (jr Z Z h11 (y0s jt Z Z (vq h14).2 Z) Z (zg Z Z h11 (zd (.row _ _) Z) (zg Z Z h11 (zd (.dat _) Z) (zg Z Z h11 (yj _ Z Z (.inr (.inl ⟨Z,Z⟩))) (bE H fun x15 h16 H=>jr Z Z h11 (z28 ut Z Z Z h16) Z (jr Z Z h11 (y0s jt Z Z (vq h16).2 Z) Z (bE H fun r17 h18 H=>zg Z Z h11 (y0z (hp3 x13 x15 r17 h18) Z ⟨.inl Z,.inl Z,U⟩) (zg Z Z h11 (zy Z Z) (za (yh Z (bTT h12) Z) ⟨Z,?_⟩))))))))))))
     exact ⟨decide (r17 < 0),H,⟨Z,Z,Z,Z,Z,Z,Z,U⟩,⟨Z,U⟩⟩
    ·refine u2 h11 H fun h19 H=>zc Z Z h11 (zc Z Z h11 (zc Z Z h11 (zc Z Z h11 (zc Z Z h11 (zc Z Z h11 (zc Z Z h11 (zc Z Z h11 (zc Z Z h11 (zc Z Z h11 (zc Z Z h11 (zc Z Z h11 (za (ye Z (bFF h19) Z) ⟨Z,?_⟩))))))))))))
     exact ⟨false,H,⟨Z,Z,Z,Z,Z,Z,Z,U⟩,⟨Z,U⟩⟩
   ·rintro v20 H
    replace H:z7c i4 j8 l9 v20=some q10:=H
    unfold z7c at H
    refine zf _ Z (fun h21 => ?_) (fun h21 => ?_)
    ·refine tE h21 H fun H=>zl (ze (zx (vf mixed hN Z Z (za (zd (.row _ _) Z) (qd Z (za (zd (.row _ _) Z) (qd Z (za (yj _ Z Z (.inr (.inl ⟨Z,Z⟩))) (za (zd (.row _ _) Z) (qd Z (za (yj _ Z Z (.inr (.inl ⟨Z,Z⟩))) (bE H fun x22 h23 H=>zm (z28 ut Z Z Z h23) Z (zm (y0s jt Z Z (vq h23).2 Z) Z (za (zd (.row _ _) Z) (qd Z (bE H fun x24 h25 H=>zm (z28 ut Z Z Z h25) Z (zm (y0s jt Z Z (vq h25).2 Z) Z (zm (z28 ut Z Z Z h25) Z (zj (y87 (C:=yw) jt Z Z Z (y7s (vq h25).2) Z Z) Z (bE H fun x26 h27 H=>?_))))))))))))))))))))
     refine zm (z28 ut Z (by simp) Z h27) Z (zj (y87 (C:=yw) jt Z Z (by simp) (y7s (vq h27).2) Z Z) Z ⟨Z,?_⟩)
     exact zn hN Z (qd Z (za (yj _ Z Z (.inr (.inl ⟨Z,Z⟩))) (qe Z ⟨_,yx H,⟨congrArg (Slot.row 0) (by simp),Z,Z,Z,Z,Z,U⟩,⟨Z,U⟩⟩)))
    ·refine fE h21 H fun H=>yr ?_
     replace H:=outl H hq10
     exact ⟨l9,H,⟨Z,Z,Z,Z,Z,U⟩,⟨Z,U⟩⟩
  ·rintro data28 H
   replace H:y06 i4 data28=some q6:=H
   unfold y06 at H
   exact zn hN Z (qd Z (za (yj _ Z Z (.inl ⟨Z,Z⟩)) (qe Z ⟨_,yx H,⟨Z,Z,Z,Z,Z,U⟩,⟨Z,U⟩⟩)))
 ·refine fE h7 H fun H=>yr ?_
  replace H:=retl H hq6
  have eH:l5=r:=Option.some.inj H
  subst eH
  exact ⟨U,[],U,⟨Z,U⟩,Z,.inl ⟨[],U,Z⟩⟩
theorem w0h (v1:(List zo)) (v2:Int) (v3:Int) (v4:Int) (p4:zo→zo→Option (Int)) (fv4:Nat) (us4:List V) (hp4:∀ a0 a1 r,p4 a0 a1=some r→Fn Tryz.prog fv4 ([vagg (yw a0),vagg (yw a1)]++us4) (zu [vint r])) (r:((List zo))) (H:y12 v1 v2 v3 v4 p4=some r):FnG Tryz.prog 166 [.row 0 v1.length,.dat (vint v2),.dat (vint v3),.dat (vint v4),.dat (vfn fv4 us4)] [(0,.rowA undef 112 2 (List.map yw v1))] (.dat (zu [])) [(0,.rowA undef 112 2 (List.map yw r))]:=by
 refine kv (by kernel_rfl) Tryz.func166 Z Z Z Z fun X A hN => ?_
 unfold y12 at H
 refine zb hN Z (qe Z (zb hN Z (qe Z (zx (uz (fun (s:Int×Int×Int×Bool×Bool)=>[(0,.row 0 v1.length),(1,.dat (vint s.1)),(2,.dat (vint s.2.1)),(3,.dat (vint s.2.2.1)),(4,.dat (vfn fv4 us4)),(10,.dat (zh s.2.2.2.1)),(11,.dat (zh s.2.2.2.2))]) (fun (s:Int×Int×Int×Bool×Bool)=>[(0,.rowA (A.vl 0) 112 2 (List.map yw v1))]) (v2,v3,v4,true,true) H ⟨Z,Z,Z,Z,Z,Z,Z,U⟩ ⟨Z,U⟩ (fun _=>Z) ?_)))))
 rintro ⟨v5,v6,v7,v8,v9⟩ q10 H hq10
 replace H:y4u v1 p4 v5 v6 v7 v8 v9=some q10:=H
 unfold y4u at H
 refine zx (zb hN Z (qd Z (qd Z (za (yj _ Z Z (.inr (.inl ⟨Z,Z⟩))) (qe Z (ze (zb hN Z (qd Z (za (wy Z Z) (zf _ Z (fun h11 => ?_) (fun h11 => ?_)))))))))))
 ·refine tE h11 H fun H=>zb hN Z (za (zd (.row _ _) Z) (qd Z (qd Z (qd Z (bE H fun r12 h13 H=>gE H fun h14 H=>wx (rn [(0,0)]) [(0,_,_,some _)] [] (y58 v1 v5 v6 p4 fv4 us4 hp4 r12 h13) ⟨Z,U⟩ ⟨.inl (.inl Z),.inl (.inl Z),.inl (.inl Z),.inl (.inl Z),U⟩ ⟨⟨⟨Z,Z,Z⟩,by simp [ue,h14]⟩,U⟩ Z ?_)))))
  refine zi ?_
  replace H:=retl H hq10
  have eH:r12=r:=Option.some.inj H
  subst eH
  exact ⟨U,[],U,⟨Z,U⟩,Z,.inl ⟨[],U,Z⟩⟩
 ·refine fE h11 H fun H=>zl (ze (zb hN Z (qd Z (za (ql Z Z) (zf _ Z (fun h15 => ?_) (fun h15 => ?_))))))
  ·refine tE h15 H fun H=>?_
   cases H
  ·refine fE h15 H fun H=>?_
   cases H
theorem w0j (x1:(List zo)) (p1:zo→zo→Option (Int)) (fv1:Nat) (us1:List V) (hp1:∀ a0 a1 r,p1 a0 a1=some r→Fn Tryz.prog fv1 ([vagg (yw a0),vagg (yw a1)]++us1) (zu [vint r])) (r:((List zo))) (H:z7x x1 p1=some r):FnG Tryz.prog 112 [.row 0 x1.length,.dat (vfn fv1 us1)] [(0,.rowA undef 112 2 (List.map yw x1))] (.dat (zu [])) [(0,.rowA undef 112 2 (List.map yw r))]:=by
 refine kv (by kernel_rfl) Tryz.func112 Z Z Z Z fun X A hN => ?_
 unfold z7x at H
 refine zb hN Z (za (zd (.row _ _) Z) (zm (y89 xr Z Z) Z (qe Z (zn hN Z (za (zd (.row _ _) Z) (qd Z (qd Z (za (jg tyU3 y0c Z) (bE H fun r2 h3 H=>za (zk (w1l (IntKind.wrap .u64 (x1.length:Int)) r2 h3) ⟨.inl Z,U⟩) (qd Z (bE H fun r4 h5 H=>gE H fun h6 H=>wx (rn [(0,0)]) [(0,_,_,some _)] [] (w0h x1 0 (x1.length:Int) r2 p1 fv1 us1 hp1 r4 h5) ⟨Z,U⟩ ⟨.inl (.inl Z),.inl (.inl Z),.inl (.inl Z),.inl (.inl Z),.inl (.inl Z),U⟩ ⟨⟨⟨Z,Z,Z⟩,by simp [ue,h6]⟩,U⟩ Z ?_)))))))))))
 have eH:r4=r:=Option.some.inj H
 subst eH
 exact ⟨U,[],U,⟨Z,U⟩,Z,.inl ⟨[],U,Z⟩⟩
theorem y2f (a b:Bs) (r:Int) (H:z3z a b=some r):Fn Tryz.prog 104 [vstr a,vstr b] (zu [vint r]):=by
 cases H
 refine y3g (by kernel_rfl) fun M w vs h => ?_
 have h1:=kk (us:=[.string ⟨a.toArray⟩,.string ⟨b.toArray⟩]) h
 subst h1
 refine (Tryz.strings_Compare ⟨a.toArray⟩ ⟨b.toArray⟩ w).mono ?_
 rintro e w' ⟨rfl,rfl⟩
 exact ⟨_,Z,Z,Kp.refl _ _⟩
theorem w1d (a1:zo) (b2:zo) (r:(Int)) (H:xj a1 b2=some r):Fn Tryz.prog 113 [vagg (yw a1),vagg (yw b2)] (zu [vint r]):=by
 refine ⟨by kernel_rfl,yg (us:=[vint r]) Tryz.func113 Z Z Z Z fun X hN => ?_⟩
 unfold xj at H
 refine zb hN Z (zj (we 1 Z) Z (zj (we 2 Z) Z (qe Z (ze (zb hN Z (za (zq xe Z) (zm (zv tyS9 Z Z) Z (za (zq xe Z) (zm (zv tyS9 Z Z) Z (za (ja Z Z) (zf _ Z (fun h3 => ?_) (fun h3 => ?_))))))))))))
 ·refine tE h3 H fun H=>zb hN Z (za (zq xe Z) (zm (zv tyS9 Z Z) Z (za (zq xe Z) (zm (zv tyS9 Z Z) Z (bE H fun r4 h5 H=>za (zk (y2f a1.Name b2.Name r4 h5) ⟨.inl Z,.inl Z,U⟩) (qe Z (zi ?_)))))))
  cases H
  exact ⟨U,.inl Z,U⟩
 ·refine fE h3 H fun H=>zl (zb hN Z (za (zq Qo Z) (zm (zv tyS9 Z Z) Z (za (zq Qo Z) (zm (zv tyS9 Z Z) Z (bE H fun r6 h7 H=>za (zk (y2f a1.Value b2.Value r6 h7) ⟨.inl Z,.inl Z,U⟩) (qe Z (zi ?_))))))))
  cases H
  exact ⟨U,.inl Z,U⟩
theorem x1p (s1:Bs) (r:(Bs)) (H:z36 s1=some r):Fn Tryz.prog 167 [vstr s1] (zu [vstr r]):=by
 refine ⟨by kernel_rfl,yg (us:=[vstr r]) Tryz.func167 Z Z Z Z fun X hN => ?_⟩
 unfold z36 at H
 refine zb hN Z (qe Z (zb hN Z (zj (qu 1 y37 Z) Z (y3r 1 0 (.nptr 1) Z Z y5o (z6r 1 1 2 5 1 Z Z Z Z (ze (zb hN Z (qd Z (za (yz tyU9 Z) (qd Z (zx (gE H fun h5 H=>qv (fun (k3:Nat) (s:(List Int))=>[(0,.dat (vstr s1)),(3,.ptr 1 0),(7,.dat (vint (s1.length:Int))),(8,.dat (vint (k3:Int)))]) (fun (k3:Nat) (s:(List Int))=>[(1,.box none 131 [.nptr 1,.row 2 s.length]),(2,.row 5 1 (List.map qn s))]) ([]:List Int) H ⟨Z,Z,Z,Z,U⟩ ⟨Z,Z,U⟩ (fun _ _=>Z) ?_ ?_))))))))))))
 ·rintro l2 H
  replace H:z3i l2=some r:=H
  unfold z3i at H
  refine zb hN Z (za (zy Z Z) (ze (zf _ Z (fun h=>(lt_t h).elim) (fun h => ?_))))
  refine yr (zb hN Z (gE H fun h7 H=>wx (rn [(0,1),(1,2)]) [(0,_,_,none),(1,_,_,none)] [] (y6a h7 (C:=qn) (fun _=>Z)) ⟨Z,Z,U⟩ ⟨.inl (.inl Z),U⟩ ⟨⟨⟨Z,Z⟩,U⟩,⟨⟨Z,Z,Z⟩,U⟩,U⟩ Z (qe Z (zi ?_))))
  cases H
  exact ⟨U,.inl Z,U⟩
 ·rintro k3 x6 l2 q4 h8 h9 H hq4
  replace H:z0u k3 x6 l2=some q4:=H
  unfold z0u at H
  refine vi (zb hN Z (za (zy Z Z) (ze (zf _ Z (fun h => ?_) (fun h=>(lt_f h8 h).elim)))))
  refine zl (yb (ι:=(List Int)) (fun i=>[(0,.dat (vstr s1)),(3,.ptr 1 0),(7,.dat (vint (s1.length:Int))),(8,.dat (vint (k3:Int)))]) (fun i=>[(1,.box none 131 [.nptr 1,.row 6 i.length]),(6,.row 5 1 (List.map qn i))]) (fun i=>z0v i=some q4) (fun i=>Z) ?_ ?_)
  ·refine vi (zx (zb hN Z (qd Z (qe Z (zb hN Z (qd Z (qd Z (za (wb tyU9 Z Z h9) (qe Z (zx (zb hN Z (qd Z (za (ql Z Z) (qe Z (zf _ Z (fun h10 => ?_) (fun h10 => ?_))))))))))))))))
   ·refine tE h10 H fun H=>zn hN Z (bE H fun r11 h12 H=>wx (rn [(0,1),(1,2),(900,3)]) [(0,_,_,some _),(1,_,_,none)] [(900,_)] (z1m l2 43 r11 h12) ⟨Z,Z,Z,U⟩ ⟨.inl (.inl Z),.inl (.inl Z),U⟩ ⟨⟨⟨Z,Z⟩,U⟩,⟨⟨Z,Z,Z⟩,U⟩,U⟩ Z (vo ?_))
    show Cv _ _ _ _
    exact wq (rn [(3,6)]) [(0,.dat (vstr s1)),(3,.ptr 1 0),(7,.dat (vint (s1.length:Int))),(8,.dat (vint (k3:Int)))] [(1,.box none 131 [.nptr 1,.row 3 r11.2.length]),(3,.row 5 1 (List.map qn r11.2))] ⟨Z,Z,Z,Z,U⟩ ⟨Z,Z,U⟩ Z Z ⟨r11.2,H,⟨Z,Z,Z,Z,U⟩,⟨Z,Z,U⟩⟩
   ·refine fE h10 H fun H=>zb hN Z (qd Z (bE H fun r13 h14 H=>za (zk (x1v (x6.toNat:Int) r13 h14) ⟨.inl Z,U⟩) (qe Z (zf _ Z (fun h15 => ?_) (fun h15 => ?_)))))
    ·refine tE h15 H fun H=>zn hN Z (qd Z (bE H fun r16 h17 H=>wx (rn [(0,1),(1,2),(900,4)]) [(0,_,_,some _),(1,_,_,none)] [(900,_)] (z1m l2 (x6.toNat:Int) r16 h17) ⟨Z,Z,Z,U⟩ ⟨.inl (.inl Z),.inl (.inl Z),U⟩ ⟨⟨⟨Z,Z⟩,U⟩,⟨⟨Z,Z,Z⟩,U⟩,U⟩ Z (vo ?_)))
     show Cv _ _ _ _
     exact wq (rn [(4,6)]) [(0,.dat (vstr s1)),(3,.ptr 1 0),(7,.dat (vint (s1.length:Int))),(8,.dat (vint (k3:Int)))] [(1,.box none 131 [.nptr 1,.row 4 r16.2.length]),(4,.row 5 1 (List.map qn r16.2))] ⟨Z,Z,Z,Z,U⟩ ⟨Z,Z,U⟩ Z Z ⟨r16.2,H,⟨Z,Z,Z,Z,U⟩,⟨Z,Z,U⟩⟩
    ·refine fE h15 H fun H=>zn hN Z (qd Z (bE H fun r18 h19 H=>za (zk (x1r (x6.toNat:Int) r18 h19) ⟨.inl Z,U⟩) (bE H fun r20 h21 H=>wx (rn [(0,1),(1,2),(900,5)]) [(0,_,_,some _),(1,_,_,none)] [(900,_)] (x1e l2 r18 r20 h21) ⟨Z,Z,Z,U⟩ ⟨.inl (.inl Z),.inl (.inl Z),U⟩ ⟨⟨⟨Z,Z⟩,U⟩,⟨⟨Z,Z,Z⟩,U⟩,U⟩ Z (vo ?_))))
     show Cv _ _ _ _
     exact wq (rn [(5,6)]) [(0,.dat (vstr s1)),(3,.ptr 1 0),(7,.dat (vint (s1.length:Int))),(8,.dat (vint (k3:Int)))] [(1,.box none 131 [.nptr 1,.row 5 r20.2.2.length]),(5,.row 5 1 (List.map qn r20.2.2))] ⟨Z,Z,Z,Z,U⟩ ⟨Z,Z,U⟩ Z Z ⟨r20.2.2,H,⟨Z,Z,Z,Z,U⟩,⟨Z,Z,U⟩⟩
  ·rintro l22 H
   replace H:z0v l22=some q4:=H
   unfold z0v at H
   refine zn hN Z (za (qo Z Z (by omega)) (qd Z (vo ?_)))
   show Cv _ _ _ _
   exact wq (rn [(6,2)]) [(0,.dat (vstr s1)),(3,.ptr 1 0),(7,.dat (vint (s1.length:Int))),(8,.dat (vint ((k3:Int)+1)))] [(1,.box none 131 [.nptr 1,.row 6 l22.length]),(6,.row 5 1 (List.map qn l22))] ⟨Z,Z,Z,Z,U⟩ ⟨Z,Z,U⟩ Z Z ⟨_,yx H,⟨Z,Z,Z,Z,U⟩,⟨Z,Z,U⟩⟩
theorem w1e (l1:(List zo)) (r:(Bs×Int)) (H:Wb l1=some r):Fn Tryz.prog 114 [vlst (List.map yw l1)] (zu [vstr r.1,vint r.2]):=by
 refine ⟨by kernel_rfl,yg (us:=[vstr r.1,vint r.2]) Tryz.func114 Z Z Z Z fun X hN => ?_⟩
 unfold Wb at H
 refine zb hN Z (qe Z (qe Z (ze (zb hN Z (qd Z (za (qi xr Z) (za (wg Z Z) (zf _ Z (fun h2 => ?_) (fun h2 => ?_)))))))))
 ·refine tE h2 H fun H=>zb hN Z (qe Z (qe Z (zi ?_)))
  cases H
  exact ⟨U,.inl Z,.inl Z,U⟩
 ·refine fE h2 H fun H=>zl (zb hN Z (qe Z (ze (zb hN Z (qd Z (za (qi xr Z) (qd Z (zx (vp 4 1 9 1 Z Z Z (gE H fun h6 H=>qv (fun (k4:Nat) (s:(List Bs))=>[(4,.row 1 s.length),(11,.dat (vlst (List.map yw l1))),(12,.dat (vint (l1.length:Int))),(13,.dat (vint (k4:Int)))]) (fun (k4:Nat) (s:(List Bs))=>[(1,.row 9 1 (List.map zp s))]) [] H ⟨Z,Z,Z,Z,U⟩ ⟨Z,U⟩ (fun _ _=>Z) ?_ ?_))))))))))
  ·rintro l3 H
   replace H:y1r l3=some r:=H
   unfold y1r at H
   refine zb hN Z (za (zy Z Z) (ze (zf _ Z (fun h=>(lt_t h).elim) (fun h => ?_))))
   refine yr (ze (Zj 4 1 Z Z Z (zn hN Z (qd Z (bE H fun r8 h9 H=>za (zk (z41 l3 [38] r8 h9) ⟨.inl Z,.inl Z,U⟩) (qe Z (ze (zb hN Z (qd Z (za (yz tyU9 Z) (za (wg Z Z) (zf _ Z (fun h10 => ?_) (fun h10 => ?_)))))))))))))
   ·refine tE h10 H fun H=>zb hN Z (qe Z (qe Z (zi ?_)))
    cases H
    exact ⟨U,.inl Z,.inl Z,U⟩
   ·refine fE h10 H fun H=>zl (zb hN Z (qd Z (qe Z (qe Z (zi ?_)))))
    cases H
    exact ⟨U,.inl Z,.inl Z,U⟩
  ·rintro k4 x7 l3 q5 h11 h12 H hq5
   replace H:z7o k4 x7 l3=some q5:=H
   unfold z7o at H
   refine zb hN Z (za (zy Z Z) (ze (zf _ Z (fun h => ?_) (fun h=>(lt_f h11 h).elim))))
   refine zl (ze (zx (zb hN Z (za (wc ut (fun _=>Z) Z Z h12) (za (kh jt Z (qk h12) Z) (zj (qu 2 Qk Z) Z (zj (qm jt Z Z Z Z) Z (ze (zb hN Z (zm (yq jt Z Z Z) Z (za (ya (u':=vagg (yw (zo.mk [] []))) (vh [] Qk y0h Z U) Z) (za (y9s [_,_] [_,_] y8n Z Z Z) (zf _ Z (fun h13 => ?_) (fun h13 => ?_))))))))))))))
   ·refine tE h13 H fun H=>zb hN Z (qe Z (qe Z (zi ?_)))
    replace H:=retl H hq5
    cases H
    exact ⟨U,.inl Z,.inl Z,U⟩
   ·refine fE h13 H fun H=>zl (vf mixed hN Z Z (za (zd (.row _ _) Z) (za (zq xe Z) (zm (zv tyS9 Z Z) Z (bE H fun r14 h15 H=>za (zk (x1p x7.Name r14 h15) ⟨.inl Z,U⟩) (gE H fun h16 H=>za (jb Z Z (Nat.le_trans h16 (by decide))) (za (zq Qo Z) (zm (zv tyS9 Z Z) Z (bE H fun r17 h18 H=>za (zk (x1p x7.Value r17 h18) ⟨.inl Z,U⟩) (gE H fun h19 H=>za (jb Z Z (Nat.le_trans h19 (by decide))) (za (ya (u':=vlst (List.map zp [((r14++[61])++r17)])) (yo [[_]] qf ⟨Z,.inl ⟨_,Z,Z,Z⟩,Z,U⟩ Z Z) Z) (gE H fun h20 H=>zj (va qf (fun _=>Z) Z Z Z ⟨by simp,by first | (simp; done) | simpa using h20⟩ Z) Z ?_))))))))))))
    refine za (qr (.row _ _) Z) ⟨Z,?_⟩
    exact zn hN Z (za (qo Z Z (by omega)) (qd Z ⟨_,yx H,⟨Z,Z,Z,Z,U⟩,⟨Z,U⟩⟩))
theorem x1g (s:Bs) (r:Bs) (H:z3x s=some r):Fn Tryz.prog 106 [vstr s] (zu [vstr r]):=by
 unfold z3x at H
 obtain ⟨⟨h1,h2⟩,h3⟩:=gif H
 cases h3
 refine Ze (by kernel_rfl) fun M w vs hM h => ?_
 have hv:=kk (us:=[.string ⟨s.toArray⟩]) h
 subst hv
 refine (Tryz.strings_ToUpper_ascii ⟨s.toArray⟩ w (by simp [ByteArray.size]; omega) (fun j b hb=>z6s h2 j b (by simpa using hb))).mono ?_
 rintro e w' ⟨rfl,hb⟩
 exact ⟨_,Z,Z,Kp.of_below hb⟩

theorem w0n (l r:List zt) (H:ui l=some r):FnG Tryz.prog 115 [.dat (vlst (List.map yd l))] [] (.row 900 r.length) [(900,.row 62 2 (List.map yd r))]:=by
 obtain ⟨hl,rfl⟩:=y7j H
 refine kv (by kernel_rfl) Tryz.func115 Z Z Z Z fun X A hN => ?_
 refine y7q 0 Z (fun h0 => ?_) ?_
 ·obtain rfl:=List.map_eq_nil_iff.1 h0
  refine zb hN Z (qe Z (ze (zb hN Z (qd Z (za (y4k xc Z) (zf _ Z (fun h => ?_) (fun h=>by cases h)))))))
  exact zb hN Z (qe Z (vp 2 900 62 2 Z Z Z (zi ⟨U,[(2,.row 900 0)],⟨Z,U⟩,⟨Z,U⟩,Z,.inr (.inl ⟨2,Z,Z⟩)⟩)))
 ·refine zb hN Z (qe Z (ze (zb hN Z (qd Z (za (y4l xc Z) (zf _ Z (fun h=>by cases h) (fun h => ?_)))))))
  refine zl (ze (y7p 0 (u':=vlst (List.map yd l)) Z y30 (zn hN Z (zj (y4i 900 kn) Z (qd Z (zj (y4e (C:=yd) (xs:=[]) kn (fun _=>Z) Z Z Z (by simpa using hl) Z) Z ?_))))))
  exact za (qr (.row _ _) Z) (zi ⟨U,[(2,.row 900 l.length)],⟨Z,U⟩,⟨Z,U⟩,Z,.inr (.inl ⟨2,Z,Z⟩)⟩)
theorem y2h (v1:zw) (r:(zw×Int)) (H:xk v1=some r):Fn Tryz.prog 60 [vagg (qs v1)] (zu [vagg (qs r.1),vint r.2]):=by
 refine ⟨by kernel_rfl,yg (us:=[vagg (qs r.1),vint r.2]) Tryz.func60 Z Z Z Z fun X hN => ?_⟩
 unfold xk at H
 refine zb hN Z (zj (we 1 Z) Z (zj (qu 2 vt Z) Z (qe Z (ze (zb hN Z (zm (yq yp Z Z Z) Z (bE H fun r2 h3 H=>za (zk (y2j v1 r2 h3) ⟨.inl Z,U⟩) (qe Z (zb hN Z (qd Z (za (qj Z Z) (zf _ Z (fun h4 => ?_) (fun h4 => ?_)))))))))))))
 ·refine tE h4 H fun H=>zb hN Z (za (xv (u':=vagg (qs (zw.mk 0 [] [] [] [] [] [] []))) (Zh (by exact ⟨ym,ym,ym,ym,ym,ym,ua,ym,U⟩)) (vh [] vt Yg Z U)) ?_)
  refine qd Z (zj (qm yp Z Z Z Z) Z (qe Z (zi ?_)))
  cases H
  exact ⟨U,.inl ⟨_,_,_,qs (zw.mk 0 [] [] [] [] [] [] []),Z,Z,Z,Z,yp⟩,.inl Z,U⟩
 ·refine fE h4 H fun H=>zl (zb hN Z (za (zq ur Z) (zm (zv tyS9 Z Z) Z (bE H fun r5 h6 H=>za (zk (w1i v1.Host r5 h6) ⟨.inl Z,U⟩) (qd Z (za (zz Z Z) (za (zz Z Z) (qe Z (qe Z (zb hN Z (za (zq uq Z) (zm (zv tyS9 Z Z) Z (bE H fun r7 h8 H=>za (zk (w1h v1.Path r7 h8) ⟨.inl Z,U⟩) (qd Z (za (zz Z Z) (za (zz Z Z) (qe Z (qe Z (ze (zb hN Z ?_))))))))))))))))))))
  refine qd Z (za (qj Z Z) (zf _ Z (fun h9 => ?_) (fun h9 => ?_)))
  ·refine tE h9 H fun H=>zb hN Z (za (xv (u':=vagg (qs (zw.mk 0 [] [] [] [] [] [] []))) (Zh (by exact ⟨ym,ym,ym,ym,ym,ym,ua,ym,U⟩)) (vh [] vt Yg Z U)) ?_)
   refine qd Z (zj (qm yp Z Z Z Z) Z (qe Z (zi ?_)))
   cases H
   exact ⟨U,.inl ⟨_,_,_,qs (zw.mk 0 [] [] [] [] [] [] []),Z,Z,Z,Z,yp⟩,.inl Z,U⟩
  ·refine fE h9 H fun H=>zl (zb hN Z (za (zq uo Z) (zm (zv tyS9 Z Z) Z (bE H fun r10 h11 H=>wx (rn [(900,3)]) [] [(900,_)] (w0q v1.Query r10 h11) ⟨Z,U⟩ ⟨.inl (.inl Z),U⟩ U Z (za (zd (.comp _ _) Z) (za (y0x Z Z) (za (y0x Z Z) (za (qr (.row _ _) Z) (qe Z (ze (zb hN Z (qd Z (za (qj Z Z) (zf _ Z (fun h12 => ?_) (fun h12 => ?_)))))))))))))))
   ·refine tE h12 H fun H=>zb hN Z (za (xv (u':=vagg (qs (zw.mk 0 [] [] [] [] [] [] []))) (Zh (by exact ⟨ym,ym,ym,ym,ym,ym,ua,ym,U⟩)) (vh [] vt Yg Z U)) ?_)
    refine qd Z (zj (qm yp Z Z Z Z) Z (qe Z (zi ?_)))
    cases H
    exact ⟨U,.inl ⟨_,_,_,qs (zw.mk 0 [] [] [] [] [] [] []),Z,Z,Z,Z,yp⟩,.inl Z,U⟩
   ·refine fE h12 H fun H=>zl (zb hN Z (za (zd (.row _ _) Z) (bE H fun r13 h14 H=>wx (rn [(0,3),(900,4)]) [(0,_,_,none)] [(900,_)] (x1c r10.1 (fun (a0:zo)=>z78 a0) 111 [] (fun a0 r h=>w1g a0 r h) r13 h14) ⟨Z,Z,U⟩ ⟨.inl (.inl Z),.inr ⟨_,Z,Z⟩,U⟩ ⟨⟨⟨Z,Z,Z⟩,U⟩,U⟩ Z (za (qr (.row _ _) Z) (zb hN Z (za (zd (.row _ _) Z) (bE H fun r15 h16 H=>gE H fun h17 H=>wx (rn [(0,4)]) [(0,_,_,some _)] [] (w0j r13 (fun (a0:zo) (a1:zo)=>xj a0 a1) 113 [] (fun a0 a1 r h=>w1d a0 a1 r h) r15 h16) ⟨Z,U⟩ ⟨.inl (.inl Z),.inr ⟨_,Z,Z⟩,U⟩ ⟨⟨⟨Z,Z,Z⟩,by simp [ue,h17]⟩,U⟩ Z ?_)))))))
    refine ze (Zj 9 4 Z Z (h17).symm (zn hN Z (qd Z (bE H fun r18 h19 H=>za (zk (w1e r15 r18 h19) ⟨.inl Z,U⟩) (qd Z (za (zz Z Z) (za (zz Z Z) (qe Z (qe Z (ze (zb hN Z (qd Z (za (qj Z Z) (zf _ Z (fun h20 => ?_) (fun h20 => ?_)))))))))))))))
    ·refine tE h20 H fun H=>zb hN Z (za (xv (u':=vagg (qs (zw.mk 0 [] [] [] [] [] [] []))) (Zh (by exact ⟨ym,ym,ym,ym,ym,ym,ua,ym,U⟩)) (vh [] vt Yg Z U)) ?_)
     refine qd Z (zj (qm yp Z Z Z Z) Z (qe Z (zi ?_)))
     cases H
     exact ⟨U,.inl ⟨_,_,_,qs (zw.mk 0 [] [] [] [] [] [] []),Z,Z,Z,Z,yp⟩,.inl Z,U⟩
    ·refine fE h20 H fun H=>zl (zb hN Z (qd Z (qd Z (qd Z (za (zq uc Z) (zm (zv tyS9 Z Z) Z (bE H fun r21 h22 H=>za (zk (x1g v1.Method r21 h22) ⟨.inl Z,U⟩) (za (zq ur Z) (zj (vu tyS9 Z Z Z Z) Z (za (zq uq Z) (zj (vu tyS9 Z Z Z Z) Z (za (zq uo Z) (zj (vu tyS9 Z Z Z Z) Z (za (zq uc Z) (zj (vu tyS9 Z Z Z Z) Z (zb hN Z (za (zq vz Z) (zm (zv wu Z Z) Z (bE H fun r23 h24 H=>wx (rn [(900,5)]) [] [(900,_)] (w0n v1.Headers r23 h24) ⟨Z,U⟩ ⟨.inl (.inl Z),U⟩ U Z (za (zq vz Z) ?_))))))))))))))))))))
     refine xy (xw wu Z Z (by rw [List.length_map]) Z) Z Z ?_
     refine ze (zb hN Z (za (zq vz Z) (zm (zv wu Z Z) Z (zm (Qp xc Z Z) Z (qd Z (zx (gE H fun h28 H=>z9w (fun (k26:Nat) (s:(List zt))=>[(1,.ptr 1 0),(2,.ptr 2 0),(73,.row 5 s.length),(74,.dat (vint (r23.length:Int))),(75,.dat (vint (k26:Int)))]) (fun (k26:Nat) (s:(List zt))=>[(1,.box none 28 [.dat (vint v1.At),.dat (vstr r21),.dat (vstr r5.1),.dat (vstr r7.1),.dat (vstr r18.1),.dat (vstr v1.From),.row 5 s.length,.dat (vstr v1.Body)]),(2,.box none 28 [.dat (vint 0),.dat (vstr []),.dat (vstr []),.dat (vstr []),.dat (vstr []),.dat (vstr []),.dat (vnil),.dat (vstr [])]),(5,.row 62 2 (List.map yd s))]) r23 H ⟨Z,Z,Z,Z,Z,U⟩ ⟨Z,Z,Z,U⟩ (fun _ _=>Z) ?_ ?_)))))))
     ·rintro l25 H
      replace H:y1s v1 r5 r7 r18 r21 l25=some r:=H
      unfold y1s at H
      refine zb hN Z (za (zy Z Z) (ze (zf _ Z (fun h=>(lt_t h).elim) (fun h => ?_))))
      refine yr (ze (z9y 1 6 5 Z Z Z (by rw [List.length_map]) ?_))
      refine zn hN Z (zm (yq yp Z Z Z) Z (zj (qm yp Z Z Z Z) Z (qe Z (zi ?_))))
      cases H
      exact ⟨U,.inl ⟨_,_,_,qs (zw.mk v1.At r21 r5.1 r7.1 r18.1 v1.From l25 v1.Body),Z,Z,Z,Z,yp⟩,.inl Z,U⟩
     ·rintro k26 l25 q27 h29 H hq27
      replace H:z02 k26 l25=some q27:=H
      unfold z02 at H
      refine vi (zb hN Z (za (zy Z Z) (ze (zf _ Z (fun h => ?_) (fun h=>(lt_f h29 h).elim)))))
      refine zl (ze (zx (zb hN Z (qd Z (bE H fun x30 h31 H=>zm (z29 Yi Z Z Z h31) Z (zm (y0t jx Z Z h31 Z) Z (zj (qu 6 kl Z) Z (qe Z (zj (qm jx Z Z Z Z) Z (vf mixed hN Z Z (za (zq vz Z) (zm (zv wu Z Z) Z (qd Z (za (zq Yh Z) (zm (zv tyS9 Z Z) Z (bE H fun r32 h33 H=>za (zk (Yw x30.Name r32 h33) ⟨.inl Z,U⟩) (zm (z29 Yi Z Z Z h31) Z (za (x7j Yh Z) (zj (y88 (zt.mk r32 x30.Value) tyS9 Z Z Z Z h31 Z Z) Z ⟨Z,?_⟩)))))))))))))))))))
      refine zn hN Z (za (qo Z Z (by omega)) (qd Z (vo ?_)))
      show Cv _ _ _ _
      exact vr ⟨_,yx H,⟨Z,Z,congrArg (Slot.row 5) (by simp),Z,Z,U⟩,⟨(congrArg (fun n=>some (some (AObj.box none 28 [.dat (vint v1.At),.dat (vstr r21),.dat (vstr r5.1),.dat (vstr r7.1),.dat (vstr r18.1),.dat (vstr v1.From),.row 5 n,.dat (vstr v1.Body)]))) (show l25.length=(l25.set k26 (zt.mk r32 x30.Value)).length from (by simp))),Z,Z,U⟩⟩
theorem w2l (a1:zw) (b2:zw) (r:(zw×zw×Int)) (H:z8t a1 b2=some r):Fn Tryz.prog 35 [vagg (qs a1),vagg (qs b2)] (zu [vagg (qs r.1),vagg (qs r.2.1),vint r.2.2]):=by
 refine ⟨by kernel_rfl,yg (us:=[vagg (qs r.1),vagg (qs r.2.1),vint r.2.2]) Tryz.func35 Z Z Z Z fun X hN => ?_⟩
 unfold z8t at H
 refine zb hN Z (zj (we 1 Z) Z (zj (we 2 Z) Z (zj (qu 3 vt Z) Z (zj (qu 4 vt Z) Z (qe Z (zb hN Z (zm (yq yp Z Z Z) Z (bE H fun r3 h4 H=>za (zk (y2h a1 r3 h4) ⟨.inl Z,U⟩) (qd Z (za (zz Z Z) (za (zz Z Z) (zj (qm yp Z Z Z Z) Z (qe Z (y3r 4 6 (.dat (vlst [])) Z Z (fun g w M v h=>ua w M v h) (yb (ι:=Int×Int×Bs×Bs×Bs×Bs×Bs×(List zt)×Bs) (fun i=>[(4,.ptr 3 0),(5,.ptr 4 0),(6,.dat (vint i.1))]) (fun i=>[(3,.box none 28 [.dat (vint r3.1.At),.dat (vstr r3.1.Method),.dat (vstr r3.1.Host),.dat (vstr r3.1.Path),.dat (vstr r3.1.Query),.dat (vstr r3.1.From),.dat (vlst (List.map yd r3.1.Headers)),.dat (vstr r3.1.Body)]),(4,.box none 28 [.dat (vint i.2.1),.dat (vstr i.2.2.1),.dat (vstr i.2.2.2.1),.dat (vstr i.2.2.2.2.1),.dat (vstr i.2.2.2.2.2.1),.dat (vstr i.2.2.2.2.2.2.1),.dat (vlst (List.map yd i.2.2.2.2.2.2.2.1)),.dat (vstr i.2.2.2.2.2.2.2.2)])]) (fun i=>z6n r3 i.1 i.2.1 i.2.2.1 i.2.2.2.1 i.2.2.2.2.1 i.2.2.2.2.2.1 i.2.2.2.2.2.2.1 i.2.2.2.2.2.2.2.1 i.2.2.2.2.2.2.2.2=some r) (fun i=>Z) ?_ ?_)))))))))))))))
 ·skip
  refine zb hN Z (qd Z (za (ql Z Z) (zf _ Z (fun h5 => ?_) (fun h5 => ?_))))
  ·exact tE h5 H fun H=>zn hN Z (zm (yq yp Z Z Z) Z (bE H fun r6 h7 H=>za (zk (y2h b2 r6 h7) ⟨.inl Z,U⟩) (qd Z (za (zz Z Z) (za (zz Z Z) (zj (qm yp Z Z Z Z) Z (qe Z ⟨(r6.2,r6.1.At,r6.1.Method,r6.1.Host,r6.1.Path,r6.1.Query,r6.1.From,r6.1.Headers,r6.1.Body),H,⟨Z,Z,Z,U⟩,⟨Z,Z,U⟩⟩)))))))
  ·exact fE h5 H fun H=>zl ⟨(r3.2,0,[],[],[],[],[],([]:(List zt)),[]),H,⟨Z,Z,Z,U⟩,⟨Z,Z,U⟩⟩
 ·rintro ⟨e8,c9,c10,c11,c12,c13,c14,c15,c16⟩ H
  replace H:z6n r3 e8 c9 c10 c11 c12 c13 c14 c15 c16=some r:=H
  unfold z6n at H
  refine ze (vf mixed hN Z Z (zm (yq yp Z Z Z) Z (zm (yq yp Z Z Z) Z (qd Z (zj (qm yp Z Z Z Z) Z (zj (qm yp Z Z Z Z) Z (qe Z ⟨Z,?_⟩)))))))
  refine zi ?_
  cases H
  exact ⟨U,.inl ⟨_,_,_,qs r3.1,Z,Z,Z,Z,yp⟩,.inl ⟨_,_,_,qs (zw.mk c9 c10 c11 c12 c13 c14 c15 c16),Z,Z,Z,Z,yp⟩,.inl Z,U⟩
theorem w05 (s1:(List Bs)) (p1:Bs→Option (Bool)) (fv1:Nat) (us1:List V) (hp1:∀ a0 r,p1 a0=some r→Fn Tryz.prog fv1 ([vstr a0]++us1) (zu [zh r])) (r:(Int)) (H:y5x s1 p1=some r):Fn Tryz.prog 107 [vlst (List.map zp s1),vfn fv1 us1] (zu [vint r]):=by
 refine ⟨by kernel_rfl,yg (us:=[vint r]) Tryz.func107 Z Z Z Z fun X hN => ?_⟩
 unfold y5x at H
 refine zb hN Z (qe Z (ze (zb hN Z (qd Z (za (qi wt Z) (qd Z (zx (gE H fun h4 H=>qv (fun (k2:Nat) (s:Unit)=>[(0,.dat (vlst (List.map zp s1))),(1,.dat (vfn fv1 us1)),(7,.dat (vint (s1.length:Int))),(8,.dat (vint (k2:Int)))]) (fun (k2:Nat) (s:Unit)=>[]) () H ⟨Z,Z,Z,Z,U⟩ U (fun _ _=>Z) ?_ ?_))))))))
 ·rintro ⟨⟩ H
  replace H:y40=some r:=H
  unfold y40 at H
  refine zb hN Z (za (zy Z Z) (ze (zf _ Z (fun h=>(lt_t h).elim) (fun h => ?_))))
  refine yr (zb hN Z (qe Z (zi ?_)))
  cases H
  exact ⟨U,.inl Z,U⟩
 ·rintro k2 x5 ⟨⟩ q3 h6 h7 H hq3
  replace H:y4z p1 k2 x5=some q3:=H
  unfold y4z at H
  refine zb hN Z (za (zy Z Z) (ze (zf _ Z (fun h => ?_) (fun h=>(lt_f h6 h).elim))))
  refine zl (ze (zx (zb hN Z (qd Z (qe Z (zb hN Z (qd Z (qd Z (qd Z (za (wc vn (fun _=>Z) Z Z h7) (za (qz tyS9 Z (qk h7) Z) (bE H fun r8 h9 H=>za (y0z (hp1 x5 r8 h9) Z ⟨.inl Z,U⟩) (zf _ Z (fun h10 => ?_) (fun h10 => ?_))))))))))))))
  ·refine tE h10 H fun H=>zb hN Z (qd Z (qe Z (zi ?_)))
   replace H:=retl H hq3
   cases H
   exact ⟨U,.inl Z,U⟩
  ·exact fE h10 H fun H=>zl (zn hN Z (za (qo Z Z (by omega)) (qd Z ⟨_,yx H,⟨Z,Z,Z,Z,U⟩,U⟩)))
theorem x1n (s1:(List Bs)) (p1:Bs→Option (Bool)) (fv1:Nat) (us1:List V) (hp1:∀ a0 r,p1 a0=some r→Fn Tryz.prog fv1 ([vstr a0]++us1) (zu [zh r])) (r:(Bool)) (H:z08 s1 p1=some r):Fn Tryz.prog 57 [vlst (List.map zp s1),vfn fv1 us1] (zu [zh r]):=by
 refine ⟨by kernel_rfl,yg (us:=[zh r]) Tryz.func57 Z Z Z Z fun X hN => ?_⟩
 unfold z08 at H
 refine zb hN Z (qe Z (zb hN Z (qd Z (qd Z (bE H fun r2 h3 H=>za (zk (w05 s1 p1 fv1 us1 hp1 r2 h3) ⟨.inl Z,.inl Z,U⟩) (za (wz Z Z) (qe Z (zi ?_))))))))
 cases H
 exact ⟨U,.inl Z,U⟩
theorem x1m (s1:(List Bs)) (s2:(List Bs)) (r:(Bool)) (H:z33 s1 s2=some r):Fn Tryz.prog 59 [vlst (List.map zp s1),vlst (List.map zp s2)] (zu [zh r]):=by
 refine ⟨by kernel_rfl,yg (us:=[zh r]) Tryz.func59 Z Z Z Z fun X hN => ?_⟩
 unfold z33 at H
 refine zb hN Z (qe Z (ze (zb hN Z (qd Z (za (qi wt Z) (qd Z (za (qi wt Z) (za (qj Z Z) (zf _ Z (fun h3 => ?_) (fun h3 => ?_))))))))))
 ·refine tE h3 H fun H=>zb hN Z (qe Z (zi ?_))
  cases H
  exact ⟨U,.inl Z,U⟩
 ·refine fE h3 H fun H=>zl (ze (zb hN Z (qd Z (za (qi wt Z) (qd Z (zx (gE H fun h6 H=>qv (fun (k4:Nat) (s:Unit)=>[(0,.dat (vlst (List.map zp s1))),(1,.dat (vlst (List.map zp s2))),(12,.dat (vint (s1.length:Int))),(13,.dat (vint (k4:Int)))]) (fun (k4:Nat) (s:Unit)=>[]) () H ⟨Z,Z,Z,Z,U⟩ U (fun _ _=>Z) ?_ ?_)))))))
  ·rintro ⟨⟩ H
   replace H:y43=some r:=H
   unfold y43 at H
   refine zb hN Z (za (zy Z Z) (ze (zf _ Z (fun h=>(lt_t h).elim) (fun h => ?_))))
   refine yr (zb hN Z (qe Z (zi ?_)))
   cases H
   exact ⟨U,.inl Z,U⟩
  ·rintro k4 x7 ⟨⟩ q5 h8 h9 H hq5
   replace H:y07 s2 k4 x7=some q5:=H
   unfold y07 at H
   refine zb hN Z (za (zy Z Z) (ze (zf _ Z (fun h => ?_) (fun h=>(lt_f h8 h).elim))))
   refine zl (ze (zx (zb hN Z (qd Z (qe Z (ze (vf mixed hN Z Z (qd Z (qd Z (za (wc vn (fun _=>Z) Z Z h9) (za (qz tyS9 Z (qk h9) Z) (qd Z (qd Z (bE H fun x10 h11 H=>za (wc vn (fun _=>Z) Z Z h11) (za (qz tyS9 Z (qk h11) Z) (za (ja Z Z) ⟨Z,?_⟩))))))))))))))))
   refine zf _ Z (fun h12 => ?_) (fun h12 => ?_)
   ·refine tE h12 H fun H=>zb hN Z (qe Z (zi ?_))
    replace H:=retl H hq5
    cases H
    exact ⟨U,.inl Z,U⟩
   ·exact fE h12 H fun H=>zl (zn hN Z (za (qo Z Z (by omega)) (qd Z ⟨_,yx H,⟨Z,Z,Z,Z,U⟩,U⟩)))
theorem w2h (n1:Bs) (c2:zw) (c3:zw) (r:(Bool)) (H:z1l n1 c2 c3=some r):Fn Tryz.prog 71 [vstr n1,wv [[vint c2.At,vstr c2.Method,vstr c2.Host,vstr c2.Path,vstr c2.Query,vstr c2.From,vlst (List.map yd c2.Headers),vstr c2.Body]] 0 0,wv [[vint c3.At,vstr c3.Method,vstr c3.Host,vstr c3.Path,vstr c3.Query,vstr c3.From,vlst (List.map yd c3.Headers),vstr c3.Body]] 0 0] (zu [zh r]):=by
 refine ⟨by kernel_rfl,yg (us:=[zh r]) Tryz.func71 Z Z Z Z fun X hN => ?_⟩
 unfold z1l at H
 refine zb hN Z (qe Z (ze (vf mixed hN Z Z (za (z3d vz Z) (za (qz wu Z Z Z) (qd Z (bE H fun r4 h5 H=>za (zk (z84 c2.Headers n1 r4 h5) ⟨.inl Z,.inl Z,U⟩) (za (z3d vz Z) (za (qz wu Z Z Z) (qd Z (bE H fun r6 h7 H=>za (zk (z84 c3.Headers n1 r6 h7) ⟨.inl Z,.inl Z,U⟩) (bE H fun r8 h9 H=>za (zk (x1m r4 r6 r8 h9) ⟨.inl Z,.inl Z,U⟩) (za (yy Z) (qe Z ⟨Z,?_⟩))))))))))))))
 refine zi ?_
 cases H
 exact ⟨U,.inl Z,U⟩
theorem x2t (own1:zw) (a2:yu) (r3:zw) (r:(Bool)) (H:Wr own1 a2 r3=some r):Fn Tryz.prog 36 [vagg (qs own1),vagg (Zg a2),vagg (qs r3)] (zu [zh r]):=by
 refine ⟨by kernel_rfl,yg (us:=[zh r]) Tryz.func36 Z Z Z Z fun X hN => ?_⟩
 unfold Wr at H
 refine zb hN Z (zj (we 1 Z) Z (zj (we 2 Z) Z (zj (we 3 Z) Z (qe Z (ze (zb hN Z (za (zq ur Z) (zm (zv tyS9 Z Z) Z (za (zq ur Z) (zm (zv tyS9 Z Z) Z (za (ja Z Z) (qd Z (yl Z Z (fun hc=>zq uq Z) (uf Z Z (fun hc=>zv tyS9 (cnd (c:=(!(decide (own1.Host≠r3.Host)))) hc) Z) Z js (yl Z Z (fun hc=>zq uq Z) (uf Z Z (fun hc=>zv tyS9 (cnd (c:=(!(decide (own1.Host≠r3.Host)))) hc) Z) Z js (yl Z Z (fun hc=>ja (cnd (c:=(!(decide (own1.Host≠r3.Host)))) hc) (cnd (c:=(!(decide (own1.Host≠r3.Host)))) hc)) (za (ww Z Z (fun hb=>(cnd (c:=(!(decide (own1.Host≠r3.Host)))) (notI hb)))) (qd Z (yl Z Z (fun hc=>zq uo Z) (uf Z Z (fun hc=>zv tyS9 (cnd (c:=(!((decide (own1.Host≠r3.Host)) || (decide (own1.Path≠r3.Path))))) hc) Z) Z js (yl Z Z (fun hc=>zq uo Z) (uf Z Z (fun hc=>zv tyS9 (cnd (c:=(!((decide (own1.Host≠r3.Host)) || (decide (own1.Path≠r3.Path))))) hc) Z) Z js ?_)))))))))))))))))))))))
 refine yl Z Z (fun hc=>ja (cnd (c:=(!((decide (own1.Host≠r3.Host)) || (decide (own1.Path≠r3.Path))))) hc) (cnd (c:=(!((decide (own1.Host≠r3.Host)) || (decide (own1.Path≠r3.Path))))) hc)) (za (ww Z Z (fun hb=>(cnd (c:=(!((decide (own1.Host≠r3.Host)) || (decide (own1.Path≠r3.Path))))) (notI hb)))) (qd Z (yl Z Z (fun hc=>zq uc Z) (uf Z Z (fun hc=>zv tyS9 (cnd (c:=(!(((decide (own1.Host≠r3.Host)) || (decide (own1.Path≠r3.Path))) || (decide (own1.Query≠r3.Query))))) hc) Z) Z js (yl Z Z (fun hc=>zq uc Z) (uf Z Z (fun hc=>zv tyS9 (cnd (c:=(!(((decide (own1.Host≠r3.Host)) || (decide (own1.Path≠r3.Path))) || (decide (own1.Query≠r3.Query))))) hc) Z) Z js (yl Z Z (fun hc=>ja (cnd (c:=(!(((decide (own1.Host≠r3.Host)) || (decide (own1.Path≠r3.Path))) || (decide (own1.Query≠r3.Query))))) hc) (cnd (c:=(!(((decide (own1.Host≠r3.Host)) || (decide (own1.Path≠r3.Path))) || (decide (own1.Query≠r3.Query))))) hc)) (yl Z Z (fun hc=>zd (.dat _) (cnd (c:=(!(((decide (own1.Host≠r3.Host)) || (decide (own1.Path≠r3.Path))) || (decide (own1.Query≠r3.Query))))) hc)) (wl Z Z (fun hc=>zq uc Z) (y45 Z Z (fun hc=>zv tyS9 (cnd (c:=((!(((decide (own1.Host≠r3.Host)) || (decide (own1.Path≠r3.Path))) || (decide (own1.Query≠r3.Query)))) && (decide (own1.Method≠r3.Method)))) hc) Z) Z js (wl Z Z (fun hc=>vg (cnd (c:=((!(((decide (own1.Host≠r3.Host)) || (decide (own1.Path≠r3.Path))) || (decide (own1.Query≠r3.Query)))) && (decide (own1.Method≠r3.Method)))) hc) Z) (wl Z Z (fun hc=>zd (.dat _) (cnd (c:=((!(((decide (own1.Host≠r3.Host)) || (decide (own1.Path≠r3.Path))) || (decide (own1.Query≠r3.Query)))) && (decide (own1.Method≠r3.Method)))) hc)) (wl Z Z (fun hc=>zq uc Z) (y45 Z Z (fun hc=>zv tyS9 (cnd (c:=(((!(((decide (own1.Host≠r3.Host)) || (decide (own1.Path≠r3.Path))) || (decide (own1.Query≠r3.Query)))) && (decide (own1.Method≠r3.Method))) && (decide (own1.Method=[71,69,84])))) hc) Z) Z js (wl Z Z (fun hc=>vg (cnd (c:=(((!(((decide (own1.Host≠r3.Host)) || (decide (own1.Path≠r3.Path))) || (decide (own1.Query≠r3.Query)))) && (decide (own1.Method≠r3.Method))) && (decide (own1.Method=[71,69,84])))) hc) Z) (wl Z Z (fun hc=>vd (cnd (c:=((!(((decide (own1.Host≠r3.Host)) || (decide (own1.Path≠r3.Path))) || (decide (own1.Query≠r3.Query)))) && (decide (own1.Method≠r3.Method)))) hc) (fun hb=>(cnd (c:=(((!(((decide (own1.Host≠r3.Host)) || (decide (own1.Path≠r3.Path))) || (decide (own1.Query≠r3.Query)))) && (decide (own1.Method≠r3.Method))) && (decide (own1.Method=[71,69,84])))) (andI hc hb))) Z) (wl Z Z (fun hc=>yy (cnd (c:=((!(((decide (own1.Host≠r3.Host)) || (decide (own1.Path≠r3.Path))) || (decide (own1.Query≠r3.Query)))) && (decide (own1.Method≠r3.Method)))) hc)) (yl Z Z (fun hc=>vd (cnd (c:=(!(((decide (own1.Host≠r3.Host)) || (decide (own1.Path≠r3.Path))) || (decide (own1.Query≠r3.Query))))) hc) (fun hb=>(cnd (c:=((!(((decide (own1.Host≠r3.Host)) || (decide (own1.Path≠r3.Path))) || (decide (own1.Query≠r3.Query)))) && (decide (own1.Method≠r3.Method)))) (andI hc hb))) Z) (za (ww Z Z (fun hb=>(cnd (c:=(!(((decide (own1.Host≠r3.Host)) || (decide (own1.Path≠r3.Path))) || (decide (own1.Query≠r3.Query))))) (notI hb)))) (zf _ Z (fun h4 => ?_) (fun h4 => ?_)))))))))))))))))))))
 ·refine tE h4 H fun H=>zb hN Z (qe Z (zi ?_))
  cases H
  exact ⟨U,.inl Z,U⟩
 ·refine fE h4 H fun H=>zl (zb hN Z (zm (yq ub Z Z Z) Z (bE H fun r5 h6 H=>za (zk (y6m a2 r5 h6) ⟨.inl Z,U⟩) (qd Z (za (zz Z Z) (za (zz Z Z) (za (zz Z Z) (qe Z (qe Z (qe Z (ze (zb hN Z (qd Z (qd Z (yl Z Z (fun hc=>zd (.dat _) Z) (yl Z Z (fun hc=>qj (cnd (c:=(!r5.2.1)) hc) Z) (za (ww Z Z (fun hb=>(cnd (c:=(!r5.2.1)) (notI hb)))) (zf _ Z (fun h7 => ?_) (fun h7 => ?_)))))))))))))))))))
  ·refine tE h7 H fun H=>zb hN Z (qe Z (zi ?_))
   cases H
   exact ⟨U,.inl Z,U⟩
  ·refine fE h7 H fun H=>zl (ze (z9z 1 [vint own1.At,vstr own1.Method,vstr own1.Host,vstr own1.Path,vstr own1.Query,vstr own1.From,vlst (List.map yd own1.Headers),vstr own1.Body] Z Z (z9z 3 [vint r3.At,vstr r3.Method,vstr r3.Host,vstr r3.Path,vstr r3.Query,vstr r3.From,vlst (List.map yd r3.Headers),vstr r3.Body] Z Z (zn hN Z (qd Z (za (y0w (us:=[_,_]) ⟨Z,Z,U⟩) (bE H fun r8 h9 H=>za (zk (x1n r5.1 (fun (a0:Bs)=>z1l a0 own1 r3) 71 [wv [[vint own1.At,vstr own1.Method,vstr own1.Host,vstr own1.Path,vstr own1.Query,vstr own1.From,vlst (List.map yd own1.Headers),vstr own1.Body]] 0 0,wv [[vint r3.At,vstr r3.Method,vstr r3.Host,vstr r3.Path,vstr r3.Query,vstr r3.From,vlst (List.map yd r3.Headers),vstr r3.Body]] 0 0] (fun a0 r h=>w2h a0 own1 r3 r h) r8 h9) ⟨.inl Z,.inl Z,U⟩) (za (yy Z) (qe Z (zi ?_))))))))))
   cases H
   exact ⟨U,.inl Z,U⟩
theorem w2p (e1:yc) (r2:zw) (r:(Bool×Int)) (H:z8w e1 r2=some r):Fn Tryz.prog 8 [vagg (qy e1),vagg (qs r2)] (zu [zh r.1,vint r.2]):=by
 refine ⟨by kernel_rfl,yg (us:=[zh r.1,vint r.2]) Tryz.func8 Z Z Z Z fun X hN => ?_⟩
 unfold z8w at H
 refine zb hN Z (zj (we 1 Z) Z (zj (we 2 Z) Z (qe Z (qe Z (ze (zb hN Z (zm (yq wo Z Z Z) Z (zm (yq yp Z Z Z) Z (bE H fun r3 h4 H=>za (zk (w2k e1 r2 r3 h4) ⟨.inl Z,.inl Z,U⟩) (qe Z (zb hN Z (qd Z (za (qj Z Z) (zf _ Z (fun h5 => ?_) (fun h5 => ?_)))))))))))))))
 ·refine tE h5 H fun H=>zb hN Z (qd Z (qe Z (qe Z (zi ?_))))
  cases H
  exact ⟨U,.inl Z,.inl Z,U⟩
 ·refine fE h5 H fun H=>zl (zb hN Z (za (zq un Z) (zm (yq yp Z Z Z) Z (zm (yq yp Z Z Z) Z (bE H fun r6 h7 H=>za (zk (w2l e1.Request r2 r6 h7) ⟨.inl Z,.inl Z,U⟩) (qd Z (za (zz Z Z) (za (zz Z Z) (za (zz Z Z) (zj (qu 3 vt Z) Z (zj (qu 4 vt Z) Z (zj (qm yp Z Z Z Z) Z (zj (qm yp Z Z Z Z) Z (qe Z (ze (zb hN Z (qd Z (za (qj Z Z) (zf _ Z (fun h8 => ?_) (fun h8 => ?_))))))))))))))))))))
  ·refine tE h8 H fun H=>zb hN Z (qd Z (qe Z (qe Z (zi ?_))))
   cases H
   exact ⟨U,.inl Z,.inl Z,U⟩
  ·refine fE h8 H fun H=>zl (zb hN Z (zm (yq yp Z Z Z) Z (za (zq um Z) (zm (yq ub Z Z Z) Z (zm (yq yp Z Z Z) Z (bE H fun r9 h10 H=>za (zk (x2t r6.1 e1.Response r6.2.1 r9 h10) ⟨.inl Z,.inl Z,.inl Z,U⟩) (qe Z (qe Z (zi ?_)))))))))
   cases H
   exact ⟨U,.inl Z,.inl Z,U⟩
theorem w2i (e1:yc) (r:(Int)) (H:z8r e1=some r):Fn Tryz.prog 37 [vagg (qy e1)] (zu [vint r]):=by
 refine ⟨by kernel_rfl,yg (us:=[vint r]) Tryz.func37 Z Z Z Z fun X hN => ?_⟩
 unfold z8r at H
 refine zb hN Z (zj (we 1 Z) Z (qe Z (zb hN Z (za (zq un Z) (za (zq ur Z) (zm (zv tyS9 Z Z) Z (za (yz tyU9 Z) (za (zq un Z) (za (zq uq Z) (zm (zv tyS9 Z Z) Z (za (yz tyU9 Z) (za (yj _ Z Z (.inl ⟨Z,Z⟩)) (za (zq un Z) (za (zq uo Z) (zm (zv tyS9 Z Z) Z (za (yz tyU9 Z) (za (yj _ Z Z (.inl ⟨Z,Z⟩)) (za (zq um Z) (za (zq y0l Z) (zm (zv tyS9 Z Z) Z (za (yz tyU9 Z) (za (yj _ Z Z (.inl ⟨Z,Z⟩)) (za (yj _ Z Z (.inl ⟨Z,Z⟩)) ?_)))))))))))))))))))))))
 refine qe Z (ze (zb hN Z (za (zq um Z) (za (zq xt Z) (zm (zv wu Z Z) Z (za (qi xc Z) (qd Z (zx (gE H fun h5 H=>qv (fun (k3:Nat) (s:Int)=>[(3,.dat (vint s)),(28,.dat (vlst (List.map yd e1.Response.Headers))),(29,.dat (vint (e1.Response.Headers.length:Int))),(30,.dat (vint (k3:Int)))]) (fun (k3:Nat) (s:Int)=>[]) (wr ((wr ((wr ((wr ((e1.Request.Host.length:Int)+(e1.Request.Path.length:Int)))+(e1.Request.Query.length:Int)))+(e1.Response.Body.length:Int)))+100)) H ⟨Z,Z,Z,Z,U⟩ U (fun _ _=>Z) ?_ ?_)))))))))
 ·rintro n2 H
  replace H:y3p n2=some r:=H
  unfold y3p at H
  refine zb hN Z (za (zy Z Z) (ze (zf _ Z (fun h=>(lt_t h).elim) (fun h => ?_))))
  refine yr (zb hN Z (qd Z (qe Z (zi ?_))))
  cases H
  exact ⟨U,.inl Z,U⟩
 ·rintro k3 x6 n2 q4 h7 h8 H hq4
  replace H:y3o k3 x6 n2=some q4:=H
  unfold y3o at H
  refine zb hN Z (za (zy Z Z) (ze (zf _ Z (fun h => ?_) (fun h=>(lt_f h7 h).elim))))
  exact zl (ze (zx (zb hN Z (za (wc Yi (fun _=>Z) Z Z h8) (za (kh jx Z (qk h8) Z) (zj (qu 2 kl Z) Z (zj (qm jx Z Z Z Z) Z (zn hN Z (qd Z (za (zq Yh Z) (zm (zv tyS9 Z Z) Z (za (yz tyU9 Z) (za (zq z0i Z) (zm (zv tyS9 Z Z) Z (za (yz tyU9 Z) (za (yj _ Z Z (.inl ⟨Z,Z⟩)) (za (yj _ Z Z (.inl ⟨Z,Z⟩)) (qe Z (zn hN Z (za (qo Z Z (by omega)) (qd Z ⟨_,yx H,⟨Z,Z,Z,Z,U⟩,U⟩)))))))))))))))))))))
theorem w2q (e1:yc) (r:(Int×Int)) (H:z8x e1=some r):Fn Tryz.prog 9 [vagg (qy e1)] (zu [vint r.1,vint r.2]):=by
 refine ⟨by kernel_rfl,yg (us:=[vint r.1,vint r.2]) Tryz.func9 Z Z Z Z fun X hN => ?_⟩
 unfold z8x at H
 refine zb hN Z (zj (we 1 Z) Z (qe Z (qe Z (ze (zb hN Z (zm (yq wo Z Z Z) Z (bE H fun r2 h3 H=>za (zk (z86 e1 r2 h3) ⟨.inl Z,U⟩) (qe Z (zb hN Z (qd Z (za (qj Z Z) (zf _ Z (fun h4 => ?_) (fun h4 => ?_)))))))))))))
 ·refine tE h4 H fun H=>zb hN Z (qd Z (qe Z (qe Z (zi ?_))))
  cases H
  exact ⟨U,.inl Z,.inl Z,U⟩
 ·refine fE h4 H fun H=>zl (zb hN Z (zm (yq wo Z Z Z) Z (bE H fun r5 h6 H=>za (zk (w2i e1 r5 h6) ⟨.inl Z,U⟩) (qe Z (qe Z (zi ?_))))))
  cases H
  exact ⟨U,.inl Z,.inl Z,U⟩
theorem Wt (n1:Int) (low2:Int) (high3:Int) (r:(Bool)) (H:kr n1 low2 high3=some r):Fn Tryz.prog 55 [vint n1,vint low2,vint high3] (zu [zh r]):=by
 refine ⟨by kernel_rfl,yg (us:=[zh r]) Tryz.func55 Z Z Z Z fun X hN => ?_⟩
 unfold kr at H
 refine zb hN Z (qe Z (zb hN Z (qd Z (qd Z (za (wy Z Z) (qd Z (wd Z Z (fun hc=>zd (.dat _) Z) (wd Z Z (fun hc=>zd (.dat _) Z) (wd Z Z (fun hc=>wy (cnd (c:=(decide (low2≤n1))) hc) (cnd (c:=(decide (low2≤n1))) hc)) (za (vd Z (fun hb=>(cnd (c:=(decide (low2≤n1))) hb)) Z) (qe Z (zi ?_))))))))))))
 cases H
 exact ⟨U,.inl Z,U⟩
theorem y2n (v1:Int) (r:(Bool)) (H:z1h v1=some r):Fn Tryz.prog 39 [vint v1] (zu [zh r]):=by
 refine ⟨by kernel_rfl,yg (us:=[zh r]) Tryz.func39 Z Z Z Z fun X hN => ?_⟩
 unfold z1h at H
 refine zb hN Z (qe Z (zb hN Z (qd Z (bE H fun r2 h3 H=>za (zk (Wt v1 0 345686399999 r2 h3) ⟨.inl Z,.inl Z,.inl Z,U⟩) (qe Z (zi ?_))))))
 cases H
 exact ⟨U,.inl Z,U⟩
theorem z43 (s1:Bs) (some2:Bs) (r:(Bool)) (H:uy s1 some2=some r):Fn Tryz.prog 72 [vstr s1,vstr some2] (zu [zh r]):=by
 refine ⟨by kernel_rfl,yg (us:=[zh r]) Tryz.func72 Z Z Z Z fun X hN => ?_⟩
 unfold uy at H
 refine zb hN Z (qe Z (ze (zb hN Z (qd Z (za (yz tyU9 Z) (qd Z (zx (gE H fun h5 H=>qv (fun (k3:Nat) (s:Unit)=>[(0,.dat (vstr s1)),(1,.dat (vstr some2)),(7,.dat (vint (s1.length:Int))),(8,.dat (vint (k3:Int)))]) (fun (k3:Nat) (s:Unit)=>[]) () H ⟨Z,Z,Z,Z,U⟩ U (fun _ _=>Z) ?_ ?_))))))))
 ·rintro ⟨⟩ H
  replace H:y61=some r:=H
  unfold y61 at H
  refine zb hN Z (za (zy Z Z) (ze (zf _ Z (fun h=>(lt_t h).elim) (fun h => ?_))))
  refine yr (zb hN Z (qe Z (zi ?_)))
  cases H
  exact ⟨U,.inl Z,U⟩
 ·rintro k3 x6 ⟨⟩ q4 h7 h8 H hq4
  replace H:y23 some2 k3 x6=some q4:=H
  unfold y23 at H
  refine zb hN Z (za (zy Z Z) (ze (zf _ Z (fun h => ?_) (fun h=>(lt_f h7 h).elim))))
  refine zl (ze (zx (zb hN Z (qd Z (qe Z (zb hN Z (qd Z (qd Z (qd Z (za (wb tyU9 Z Z h8) (bE H fun r9 h10 H=>za (zk (y2e some2 (x6.toNat:Int) r9 h10) ⟨.inl Z,.inl Z,U⟩) (za (zy Z Z) (zf _ Z (fun h11 => ?_) (fun h11 => ?_))))))))))))))
  ·refine tE h11 H fun H=>zb hN Z (qe Z (zi ?_))
   replace H:=retl H hq4
   cases H
   exact ⟨U,.inl Z,U⟩
  ·exact fE h11 H fun H=>zl (zn hN Z (za (qo Z Z (by omega)) (qd Z ⟨_,yx H,⟨Z,Z,Z,Z,U⟩,U⟩)))
theorem y6i (s1:Bs) (r:(Bool)) (H:z1e s1=some r):Fn Tryz.prog 47 [vstr s1] (zu [zh r]):=by
 refine ⟨by kernel_rfl,yg (us:=[zh r]) Tryz.func47 Z Z Z Z fun X hN => ?_⟩
 unfold z1e at H
 refine zb hN Z (qe Z (yb (ι:=Bool) (fun i=>[(2,.dat (zh i))]) (fun i=>[]) (fun i=>z5o i=some r) (fun i=>Z) ?_ ?_))
 ·skip
  refine zn hN Z (qd Z (za (yz tyU9 Z) (bE H fun r2 h3 H=>za (zk (Wt (s1.length:Int) 1 100 r2 h3) ⟨.inl Z,.inl Z,.inl Z,U⟩) (qd Z (yi (j:=3) Z Z (fun h4 => ?_) (fun h4 => ?_) Z)))))
  ·exact u1 h4 H fun h5 H=>zg Z Z h4 (zd (.dat _) Z) (bE H fun r6 h7 H=>zg Z Z h4 (zk (z43 s1 [97,98,99,100,101,102,103,104,105,106,107,108,109,110,111,112,113,114,115,116,117,118,119,120,121,122,65,66,67,68,69,70,71,72,73,74,75,76,77,78,79,80,81,82,83,84,85,86,87,88,89,90,48,49,50,51,52,53,54,55,56,57,33,35,36,37,38,39,42,43,45,46,94,95,96,124,126] r6 h7) ⟨.inl Z,.inl Z,U⟩) (za (yh Z (bTT h5) Z) (qe Z ⟨r6,H,⟨Z,U⟩,U⟩)))
  ·exact u2 h4 H fun h8 H=>zc Z Z h4 (zc Z Z h4 (za (ye Z (bFF h8) Z) (qe Z ⟨false,H,⟨Z,U⟩,U⟩)))
 ·rintro v9 H
  replace H:z5o v9=some r:=H
  unfold z5o at H
  refine zi ?_
  cases H
  exact ⟨U,.inl Z,U⟩
theorem w04 (n:Int) (r:Bs) (H:y10 n=some r):Fn Tryz.prog 97 [vint n] (zu [vstr r]):=by
 obtain ⟨⟨h1,h2⟩,h3⟩:=gif H
 cases h3
 refine Ze (by kernel_rfl) fun M w vs hM h => ?_
 have hv:=kk (us:=[.int .i64 n]) h
 subst hv
 refine (Tryz.strconv_Itoa n h1 h2 w (x9i hM)).mono ?_
 rintro e w' ⟨rfl,k,os,rfl⟩
 exact ⟨_,Z,Z,Kp.of_below ⟨Z,Z,Z,by show w.heap.size≤(w.heap++os).size; rw [Array.size_append]; omega,fun j hj=>by show (w.heap++os)[j]?=w.heap[j]?; exact Array.getElem?_append_left hj⟩⟩
theorem x2l (s1:Bs) (most2:Int) (r:(Int×Bool)) (H:Wm s1 most2=some r):Fn Tryz.prog 54 [vstr s1,vint most2] (zu [vint r.1,zh r.2]):=by
 refine ⟨by kernel_rfl,yg (us:=[vint r.1,zh r.2]) Tryz.func54 Z Z Z Z fun X hN => ?_⟩
 unfold Wm at H
 refine zb hN Z (qe Z (qe Z (zb hN Z (qd Z (bE H fun r3 h4 H=>za (zk (x1f s1 [45] r3 h4) ⟨.inl Z,.inl Z,U⟩) (qe Z (ze (yb (ι:=Bool) (fun i=>[(0,.dat (vstr s1)),(23,.dat (zh i))]) (fun i=>[]) (fun i=>Zd s1 i=some r) (fun i=>Z) ?_ ?_))))))))
 ·skip
  refine zn hN Z (qd Z (za (vg Z Z) (qd Z (yi (j:=2) Z Z (fun h5 => ?_) (fun h5 => ?_) Z))))
  ·refine u3 h5 H fun h6 H=>zg Z Z h5 (zd (.dat _) Z) (zg Z Z h5 (yz tyU9 Z) (zg Z Z h5 (zd (.dat _) Z) (zg Z Z h5 (wg Z Z) (za (ye Z (bFF h6) Z) (qd Z (yi (j:=8) Z Z (fun h7 => ?_) (fun h7 => ?_) Z))))))
   ·exact u3 h7 H fun h8 H=>zg Z Z h7 (zd (.dat _) Z) (bE H fun r9 h10 H=>zg Z Z h7 (zk (z43 r3 [48,49,50,51,52,53,54,55,56,57] r9 h10) ⟨.inl Z,.inl Z,U⟩) (zg Z Z h7 (yy Z) (za (ye Z (bFF h8) Z) ⟨!r9,H,⟨Z,Z,U⟩,U⟩)))
   ·exact u4 h7 H fun h11 H=>zc Z Z h7 (zc Z Z h7 (zc Z Z h7 (za (yh Z (bTT h11) Z) ⟨true,H,⟨Z,Z,U⟩,U⟩)))
  ·exact u4 h5 H fun h12 H=>zc Z Z h5 (zc Z Z h5 (zc Z Z h5 (zc Z Z h5 (za (yh Z (bTT h12) Z) (qd Z (zc Z Z Z (zc Z Z Z (zc Z Z Z (za (yh Z Z Z) ⟨true,H,⟨Z,Z,U⟩,U⟩)))))))))
 ·rintro v13 H
  replace H:Zd s1 v13=some r:=H
  unfold Zd at H
  refine zf _ Z (fun h14 => ?_) (fun h14 => ?_)
  ·refine tE h14 H fun H=>zb hN Z (qe Z (qe Z (zi ?_)))
   cases H
   exact ⟨U,.inl Z,.inl Z,U⟩
  ·refine fE h14 H fun H=>zl (zb hN Z (qd Z (bE H fun r15 h16 H=>za (zk (x1l s1 r15 h16) ⟨.inl Z,U⟩) (qd Z (za (zz Z Z) (za (zz Z Z) (qe Z (qe Z (yb (ι:=Bool) (fun i=>[(4,.dat (vint r15.1)),(5,.dat (zh i))]) (fun i=>[]) (fun i=>z5s r15 i=some r) (fun i=>Z) ?_ ?_)))))))))
   ·skip
    refine zn hN Z (qd Z (qd Z (za (y9l (n:=r15.2) (show Tryz.prog.underlying 104=some (.interface (Tryz.prog.methodsAt 104)) from by kernel_rfl) Z) ?_)))
    refine qd Z (yi (j:=3) Z Z (fun h17 => ?_) (fun h17 => ?_) Z)
    ·exact u1 h17 H fun h18 H=>zg Z Z h17 (zd (.dat _) Z) (bE H fun r19 h20 H=>zg Z Z h17 (zk (w04 r15.1 r19 h20) ⟨.inl Z,U⟩) (zg Z Z h17 (zd (.dat _) Z) (zg Z Z h17 (vg Z Z) (za (yh Z (bTT h18) Z) (qe Z (qe Z ⟨decide (r19=s1),H,⟨Z,Z,U⟩,U⟩))))))
    ·exact u2 h17 H fun h21 H=>zc Z Z h17 (zc Z Z h17 (zc Z Z h17 (zc Z Z h17 (za (ye Z (bFF h21) Z) (qe Z (qe Z ⟨false,H,⟨Z,Z,U⟩,U⟩))))))
   ·rintro v22 H
    replace H:z5s r15 v22=some r:=H
    unfold z5s at H
    refine zi ?_
    cases H
    exact ⟨U,.inl Z,.inl Z,U⟩
theorem x2m (v1:Bs) (r:(Bs×Int)) (H:Wn v1=some r):Fn Tryz.prog 48 [vstr v1] (zu [vstr r.1,vint r.2]):=by
 refine ⟨by kernel_rfl,yg (us:=[vstr r.1,vint r.2]) Tryz.func48 Z Z Z Z fun X hN => ?_⟩
 unfold Wn at H
 refine zb hN Z (qe Z (qe Z (zb hN Z (qd Z (bE H fun r2 h3 H=>za (zk (z42 v1 [58] r2 h3) ⟨.inl Z,.inl Z,U⟩) (qd Z (za (zz Z Z) (za (zz Z Z) (za (zz Z Z) (qe Z (qe Z (qe Z (zb hN Z (qd Z (bE H fun r4 h5 H=>za (zk (x2l r2.2.1 5 r4 h5) ⟨.inl Z,.inl Z,U⟩) (qd Z (za (zz Z Z) (za (zz Z Z) (qe Z (qe Z (ze ?_)))))))))))))))))))))
 refine yb (ι:=Bool) (fun i=>[(4,.dat (vstr r2.1)),(5,.dat (vstr r2.2.1)),(6,.dat (zh r2.2.2)),(7,.dat (vint r4.1)),(37,.dat (zh i))]) (fun i=>[]) (fun i=>Qf r2 r4 i=some r) (fun i=>Z) ?_ ?_
 ·skip
  refine zn hN Z (qd Z (za (yz tyU9 Z) (za (wg Z Z) (qd Z (yi (j:=3) Z Z (fun h6 => ?_) (fun h6 => ?_) Z)))))
  ·refine u3 h6 H fun h7 H=>zg Z Z h6 (zd (.dat _) Z) (zg Z Z h6 (zd (.dat _) Z) (yi (j:=5) Z Z (fun h8 => ?_) (fun h8 => ?_) Z))
   ·refine u1 h8 H fun h9 H=>zg Z Z h8 (zd (.dat _) Z) (zg Z Z h8 (yy Z) (zg Z Z h8 (zd (.dat _) Z) (yi (j:=8) Z Z (fun h10 => ?_) (fun h10 => ?_) Z)))
    ·exact u3 h10 H fun h11 H=>zg Z Z h10 (zd (.dat _) Z) (bE H fun r12 h13 H=>zg Z Z h10 (zk (Wt r4.1 1 65535 r12 h13) ⟨.inl Z,.inl Z,.inl Z,U⟩) (zg Z Z h10 (yy Z) (zg Z Z h8 (ye Z (bFF h11) Z) (zg Z Z h6 (yh Z (bTT h9) Z) (za (ye Z (bFF h7) Z) ⟨!r12,H,⟨Z,Z,Z,Z,Z,U⟩,U⟩)))))
    ·exact u4 h10 H fun h14 H=>zc Z Z h10 (zc Z Z h10 (zc Z Z h10 (zg Z Z h8 (yh Z (bTT h14) Z) (zg Z Z h6 (yh Z (bTT h9) Z) (za (ye Z (bFF h7) Z) ⟨true,H,⟨Z,Z,Z,Z,Z,U⟩,U⟩)))))
   ·exact u2 h8 H fun h15 H=>zc Z Z h8 (zc Z Z h8 (zc Z Z h8 (yt Z Z (yt Z Z (yt Z Z (zc Z Z h8 (zg Z Z h6 (ye Z (bFF h15) Z) (za (ye Z (bFF h7) Z) ⟨false,H,⟨Z,Z,Z,Z,Z,U⟩,U⟩))))))))
  ·exact u4 h6 H fun h16 H=>zc Z Z h6 (zc Z Z h6 (yt Z Z (yt Z Z (yt Z Z (yt Z Z (yt Z Z (yt Z Z (yt Z Z (zc Z Z h6 (za (yh Z (bTT h16) Z) ⟨true,H,⟨Z,Z,Z,Z,Z,U⟩,U⟩))))))))))
 ·rintro v17 H
  replace H:Qf r2 r4 v17=some r:=H
  unfold Qf at H
  refine zf _ Z (fun h18 => ?_) (fun h18 => ?_)
  ·refine tE h18 H fun H=>zb hN Z (qe Z (qe Z (zi ?_)))
   cases H
   exact ⟨U,.inl Z,.inl Z,U⟩
  ·refine fE h18 H fun H=>zl (ze (zb hN Z (qd Z (bE H fun r19 h20 H=>za (zk (Yx r2.1 [46] r19 h20) ⟨.inl Z,.inl Z,U⟩) (za (qi wt Z) (qd Z (zx (gE H fun h23 H=>qv (fun (k21:Nat) (s:Unit)=>[(4,.dat (vstr r2.1)),(5,.dat (vstr r2.2.1)),(6,.dat (zh r2.2.2)),(7,.dat (vint r4.1)),(39,.dat (vlst (List.map zp r19))),(40,.dat (vint (r19.length:Int))),(41,.dat (vint (k21:Int)))]) (fun (k21:Nat) (s:Unit)=>[]) () H ⟨Z,Z,Z,Z,Z,Z,Z,U⟩ U (fun _ _=>Z) ?_ ?_))))))))
   ·rintro ⟨⟩ H
    replace H:z5u r2 r4=some r:=H
    unfold z5u at H
    refine zb hN Z (za (zy Z Z) (ze (zf _ Z (fun h=>(lt_t h).elim) (fun h => ?_))))
    refine yr (zb hN Z (qd Z (bE H fun r25 h26 H=>za (zk (Yw r2.1 r25 h26) ⟨.inl Z,U⟩) (qe Z (yb (ι:=Bs) (fun i=>[(11,.dat (vstr i))]) (fun i=>[]) (fun i=>z9o i=some r) (fun i=>Z) ?_ ?_)))))
    ·skip
     refine zb hN Z (qd Z (qd Z (wd Z Z (fun hc=>zd (.dat _) Z) (wd Z Z (fun hc=>qj (cnd (c:=r2.2.2) hc) Z) (za (vd Z (fun hb=>(cnd (c:=r2.2.2) hb)) Z) (qd Z (wd Z Z (fun hc=>zd (.dat _) Z) (wd Z Z (fun hc=>qj (cnd (c:=(r2.2.2 && (decide (r4.1≠80)))) hc) Z) (za (vd Z (fun hb=>(cnd (c:=(r2.2.2 && (decide (r4.1≠80)))) hb)) Z) (zf _ Z (fun h27 => ?_) (fun h27 => ?_)))))))))))
     ·exact tE h27 H fun H=>zn hN Z (qd Z (qd Z (gE H fun h28 H=>za (jb Z Z (Nat.le_trans h28 (by decide))) (gE H fun h29 H=>za (jb Z Z (Nat.le_trans h29 (by decide))) (qe Z ⟨(r25++([58]++r2.2.1)),H,⟨Z,U⟩,U⟩)))))
     ·exact fE h27 H fun H=>zl ⟨r25,H,⟨Z,U⟩,U⟩
    ·rintro v30 H
     replace H:z9o v30=some r:=H
     unfold z9o at H
     refine zb hN Z (qd Z (qe Z (qe Z (zi ?_))))
     cases H
     exact ⟨U,.inl Z,.inl Z,U⟩
   ·rintro k21 x24 ⟨⟩ q22 h31 h32 H hq22
    replace H:z5t k21 x24=some q22:=H
    unfold z5t at H
    refine zb hN Z (za (zy Z Z) (ze (zf _ Z (fun h => ?_) (fun h=>(lt_f h31 h).elim))))
    refine zl (ze (zx (zb hN Z (za (wc vn (fun _=>Z) Z Z h32) (za (qz tyS9 Z (qk h32) Z) (qe Z (yb (ι:=Bool) (fun i=>[(4,.dat (vstr r2.1)),(5,.dat (vstr r2.2.1)),(6,.dat (zh r2.2.2)),(7,.dat (vint r4.1)),(39,.dat (vlst (List.map zp r19))),(40,.dat (vint (r19.length:Int))),(41,.dat (vint (k21:Int))),(59,.dat (zh i))]) (fun i=>[]) (fun i=>Qe i=some q22) (fun i=>Z) ?_ ?_)))))))
    ·skip
     refine zn hN Z (qd Z (za (yz tyU9 Z) (bE H fun r33 h34 H=>za (zk (Wt (x24.length:Int) 1 63 r33 h34) ⟨.inl Z,.inl Z,.inl Z,U⟩) (za (yy Z) (qd Z (yi (j:=4) Z Z (fun h35 => ?_) (fun h35 => ?_) Z))))))
     ·refine u3 h35 H fun h36 H=>zg Z Z h35 (zd (.dat _) Z) (bE H fun r37 h38 H=>zg Z Z h35 (zk (z43 x24 [97,98,99,100,101,102,103,104,105,106,107,108,109,110,111,112,113,114,115,116,117,118,119,120,121,122,65,66,67,68,69,70,71,72,73,74,75,76,77,78,79,80,81,82,83,84,85,86,87,88,89,90,48,49,50,51,52,53,54,55,56,57,45] r37 h38) ⟨.inl Z,.inl Z,U⟩) (zg Z Z h35 (yy Z) (za (ye Z (bFF h36) Z) (qd Z (yi (j:=9) Z Z (fun h39 => ?_) (fun h39 => ?_) Z)))))
      ·exact u3 h39 H fun h40 H=>zg Z Z h39 (zd (.dat _) Z) (bE H fun r41 h42 H=>zg Z Z h39 (zk (z40 x24 [45] r41 h42) ⟨.inl Z,.inl Z,U⟩) (zg Z Z h39 (zd (.dat _) Z) (zg Z Z h39 (ja Z Z) (za (ye Z (bFF h40) Z) ⟨decide (r41≠x24),H,⟨Z,Z,Z,Z,Z,Z,Z,Z,U⟩,U⟩))))
      ·exact u4 h39 H fun h43 H=>zc Z Z h39 (zc Z Z h39 (zc Z Z h39 (zc Z Z h39 (za (yh Z (bTT h43) Z) ⟨true,H,⟨Z,Z,Z,Z,Z,Z,Z,Z,U⟩,U⟩))))
     ·exact u4 h35 H fun h44 H=>zc Z Z h35 (zc Z Z h35 (zc Z Z h35 (za (yh Z (bTT h44) Z) (qd Z (zc Z Z Z (zc Z Z Z (zc Z Z Z (zc Z Z Z (za (yh Z Z Z) ⟨true,H,⟨Z,Z,Z,Z,Z,Z,Z,Z,U⟩,U⟩)))))))))
    ·rintro v45 H
     replace H:Qe v45=some q22:=H
     unfold Qe at H
     refine zf _ Z (fun h46 => ?_) (fun h46 => ?_)
     ·refine tE h46 H fun H=>zb hN Z (qe Z (qe Z (zi ?_)))
      replace H:=retl H hq22
      cases H
      exact ⟨U,.inl Z,.inl Z,U⟩
     ·exact fE h46 H fun H=>zl (zn hN Z (za (qo Z Z (by omega)) (qd Z ⟨_,yx H,⟨Z,Z,Z,Z,Z,Z,Z,U⟩,U⟩)))
theorem y6g (s1:Bs) (low2:Int) (r:(Bool)) (H:Yt s1 low2=some r):Fn Tryz.prog 91 [vstr s1,vval (.int .u8 low2)] (zu [zh r]):=by
 refine ⟨by kernel_rfl,yg (us:=[zh r]) Tryz.func91 Z Z Z Z fun X hN => ?_⟩
 unfold Yt at H
 refine zb hN Z (qe Z (ze (zb hN Z (qd Z (za (yz tyU9 Z) (qd Z (zx (gE H fun h5 H=>qv (fun (k3:Nat) (s:Unit)=>[(0,.dat (vstr s1)),(1,.dat (vval (.int .u8 low2))),(7,.dat (vint (s1.length:Int))),(8,.dat (vint (k3:Int)))]) (fun (k3:Nat) (s:Unit)=>[]) () H ⟨Z,Z,Z,Z,U⟩ U (fun _ _=>Z) ?_ ?_))))))))
 ·rintro ⟨⟩ H
  replace H:y60=some r:=H
  unfold y60 at H
  refine zb hN Z (za (zy Z Z) (ze (zf _ Z (fun h=>(lt_t h).elim) (fun h => ?_))))
  refine yr (zb hN Z (qe Z (zi ?_)))
  cases H
  exact ⟨U,.inl Z,U⟩
 ·rintro k3 x6 ⟨⟩ q4 h7 h8 H hq4
  replace H:y20 low2 k3 x6=some q4:=H
  unfold y20 at H
  refine zb hN Z (za (zy Z Z) (ze (zf _ Z (fun h => ?_) (fun h=>(lt_f h7 h).elim))))
  refine zl (ze (zx (zb hN Z (qd Z (qe Z (yb (ι:=Bool) (fun i=>[(0,.dat (vstr s1)),(1,.dat (vval (.int .u8 low2))),(7,.dat (vint (s1.length:Int))),(8,.dat (vint (k3:Int))),(21,.dat (zh i))]) (fun i=>[]) (fun i=>z5i i=some q4) (fun i=>Z) ?_ ?_))))))
  ·skip
   refine zn hN Z (qd Z (qd Z (za (wb tyU9 Z Z h8) (qd Z (za (zy Z Z) (qd Z (yi (j:=5) Z Z (fun h9 => ?_) (fun h9 => ?_) Z)))))))
   ·exact u3 h9 H fun h10 H=>zg Z Z h9 (zd (.dat _) Z) (zg Z Z h9 (zd (.dat _) Z) (zg Z Z h9 (wb tyU9 Z Z h8) (zg Z Z h9 (wg Z Z) (za (ye Z (bFF h10) Z) ⟨decide (126 < (x6.toNat:Int)),H,⟨Z,Z,Z,Z,Z,U⟩,U⟩))))
   ·exact u4 h9 H fun h11 H=>zc Z Z h9 (zc Z Z h9 (zc Z Z h9 (zc Z Z h9 (za (yh Z (bTT h11) Z) ⟨true,H,⟨Z,Z,Z,Z,Z,U⟩,U⟩))))
  ·rintro v12 H
   replace H:z5i v12=some q4:=H
   unfold z5i at H
   refine zf _ Z (fun h13 => ?_) (fun h13 => ?_)
   ·refine tE h13 H fun H=>zb hN Z (qe Z (zi ?_))
    replace H:=retl H hq4
    cases H
    exact ⟨U,.inl Z,U⟩
   ·exact fE h13 H fun H=>zl (zn hN Z (za (qo Z Z (by omega)) (qd Z ⟨_,yx H,⟨Z,Z,Z,Z,U⟩,U⟩)))
theorem x2f (s1:Bs) (r:(Bool)) (H:z4i s1=some r):Fn Tryz.prog 49 [vstr s1] (zu [zh r]):=by
 refine ⟨by kernel_rfl,yg (us:=[zh r]) Tryz.func49 Z Z Z Z fun X hN => ?_⟩
 unfold z4i at H
 refine zb hN Z (qe Z (yb (ι:=Bool) (fun i=>[(2,.dat (zh i))]) (fun i=>[]) (fun i=>Wy i=some r) (fun i=>Z) ?_ ?_))
 ·skip
  refine zn hN Z (qd Z (za (yz tyU9 Z) (bE H fun r2 h3 H=>za (zk (Wt (s1.length:Int) 1 1000 r2 h3) ⟨.inl Z,.inl Z,.inl Z,U⟩) (qd Z (yi (j:=3) Z Z (fun h4 => ?_) (fun h4 => ?_) Z)))))
  ·refine u1 h4 H fun h5 H=>zg Z Z h4 (zd (.dat _) Z) (bE H fun x6 h7 H=>zg Z Z h4 (wb tyU9 Z Z h7) (zg Z Z h4 (ql Z Z) (za (yh Z (bTT h5) Z) (qd Z (yi (j:=8) Z Z (fun h8 => ?_) (fun h8 => ?_) Z)))))
   ·refine u1 h8 H fun h9 H=>zg Z Z h8 (zd (.dat _) Z) (bE H fun r10 h11 H=>zg Z Z h8 (zk (y6g s1 33 r10 h11) ⟨.inl Z,.inl Z,U⟩) (za (yh Z (bTT h9) Z) (qd Z (yi (j:=12) Z Z (fun h12 => ?_) (fun h12 => ?_) Z))))
    ·exact u1 h12 H fun h13 H=>zg Z Z h12 (zd (.dat _) Z) (bE H fun r14 h15 H=>zg Z Z h12 (zk (x1h s1 [63,35] r14 h15) ⟨.inl Z,.inl Z,U⟩) (zg Z Z h12 (yy Z) (za (yh Z (bTT h13) Z) (qe Z ⟨!r14,H,⟨Z,U⟩,U⟩))))
    ·exact u2 h12 H fun h16 H=>zc Z Z h12 (zc Z Z h12 (zc Z Z h12 (za (ye Z (bFF h16) Z) (qe Z ⟨false,H,⟨Z,U⟩,U⟩))))
   ·exact u2 h8 H fun h17 H=>zc Z Z h8 (zc Z Z h8 (za (ye Z (bFF h17) Z) (qd Z (zc Z Z Z (zc Z Z Z (zc Z Z Z (za (ye Z Z Z) (qe Z ⟨false,H,⟨Z,U⟩,U⟩))))))))
  ·exact u2 h4 H fun h18 H=>zc Z Z h4 (zc Z Z h4 (zc Z Z h4 (za (ye Z (bFF h18) Z) (qd Z (zc Z Z Z (zc Z Z Z (za (ye Z Z Z) (qd Z (zc Z Z Z (zc Z Z Z (zc Z Z Z (za (ye Z Z Z) (qe Z ⟨false,H,⟨Z,U⟩,U⟩)))))))))))))
 ·rintro v19 H
  replace H:Wy v19=some r:=H
  unfold Wy at H
  refine zi ?_
  cases H
  exact ⟨U,.inl Z,U⟩
end Go.Proofs.YtmdllhcjefcggacGreatDoor
