/- Walks along the models. Printed by a program. -/
import Derived.Test.YtbndlmnjeofkdaaGreatDoorZsw5
namespace Go.Proofs.YtbndlmnjeofkdaaGreatDoor
open Go.RowKit
set_option linter.unusedVariables false
set_option maxRecDepth 100000
set_option maxHeartbeats 2000000
theorem z0q (n1:Int) (low2:Int) (high3:Int) (r:(Bool)) (H:kn n1 low2 high3=some r):Fn Tryz.prog 135 [vint n1,vint low2,vint high3] (zt [zh r]):=by
 refine ⟨by kernel_rfl,yf (us:=[zh r]) Tryz.func135 Z Z Z Z fun X hN => ?_⟩
 unfold kn at H
 refine zb hN Z (qe Z (zb hN Z (qd Z (qd Z (za (wn Z Z) (qd Z (qx Z Z (fun hc=>zd (.dat _) Z) (qx Z Z (fun hc=>zd (.dat _) Z) (qx Z Z (fun hc=>wn (cnd (c:=(decide (low2≤n1))) hc) (cnd (c:=(decide (low2≤n1))) hc)) (za (ww Z (fun hb=>(cnd (c:=(decide (low2≤n1))) hb)) Z) (qe Z (zi ?_))))))))))))
 cases H
 exact ⟨U,.inl Z,U⟩
theorem y4r (v1:Int) (r:(Bool)) (H:z3f v1=some r):Fn Tryz.prog 79 [vint v1] (zt [zh r]):=by
 refine ⟨by kernel_rfl,yf (us:=[zh r]) Tryz.func79 Z Z Z Z fun X hN => ?_⟩
 unfold z3f at H
 refine zb hN Z (qe Z (zb hN Z (qd Z (bE H fun r2 h3 H=>za (zm (z0q v1 0 345686399999 r2 h3) ⟨.inl Z,.inl Z,.inl Z,U⟩) (qe Z (zi ?_))))))
 cases H
 exact ⟨U,.inl Z,U⟩
theorem z7e (s1:Bs) (some2:Bs) (r:(Bool)) (H:uo s1 some2=some r):Fn Tryz.prog 136 [vstr s1,vstr some2] (zt [zh r]):=by
 refine ⟨by kernel_rfl,yf (us:=[zh r]) Tryz.func136 Z Z Z Z fun X hN => ?_⟩
 unfold uo at H
 refine zb hN Z (qe Z (zf (zb hN Z (qd Z (za (yw tyU9 Z) (qd Z (zx (gE H fun h5 H=>qy (fun (k3:Nat) (s:Unit)=>[(0,.dat (vstr s1)),(1,.dat (vstr some2)),(7,.dat (vint (s1.length:Int))),(8,.dat (vint (k3:Int)))]) (fun (k3:Nat) (s:Unit)=>[]) () H ⟨Z,Z,Z,Z,U⟩ U (fun _ _=>Z) ?_ ?_))))))))
 ·rintro ⟨⟩ H
  replace H:y47=some r:=H
  unfold y47 at H
  refine zb hN Z (za (zy Z Z) (zf (zg _ Z (fun h=>(lt_t h).elim) (fun h => ?_))))
  refine yt (zb hN Z (qe Z (zi ?_)))
  cases H
  exact ⟨U,.inl Z,U⟩
 ·rintro k3 x6 ⟨⟩ q4 h7 h8 H hq4
  replace H:y02 some2 k3 x6=some q4:=H
  unfold y02 at H
  refine zb hN Z (za (zy Z Z) (zf (zg _ Z (fun h => ?_) (fun h=>(lt_f h7 h).elim))))
  refine zl (zf (zx (zb hN Z (qd Z (qe Z (zb hN Z (qd Z (qd Z (qd Z (za (qv tyU9 Z Z h8) (bE H fun r9 h10 H=>za (zm (y4g some2 (x6.toNat:Int) r9 h10) ⟨.inl Z,.inl Z,U⟩) (za (zy Z Z) (zg _ Z (fun h11 => ?_) (fun h11 => ?_))))))))))))))
  ·refine tE h11 H fun H=>zb hN Z (qe Z (zi ?_))
   replace H:=retl H hq4
   cases H
   exact ⟨U,.inl Z,U⟩
  ·exact fE h11 H fun H=>zl (zp hN Z (za (qj Z Z (by omega)) (qd Z ⟨_,yx H,⟨Z,Z,Z,Z,U⟩,U⟩)))
theorem y4q (s1:Bs) (r:(Bool)) (H:z0f s1=some r):Fn Tryz.prog 129 [vstr s1] (zt [zh r]):=by
 refine ⟨by kernel_rfl,yf (us:=[zh r]) Tryz.func129 Z Z Z Z fun X hN => ?_⟩
 unfold z0f at H
 refine zb hN Z (qe Z (yc (ι:=Bool) (fun i=>[(2,.dat (zh i))]) (fun i=>[]) (fun i=>z39 i=some r) (fun i=>Z) ?_ ?_))
 ·skip
  refine zp hN Z (qd Z (za (yw tyU9 Z) (bE H fun r2 h3 H=>za (zm (z0q (s1.length:Int) 1 100 r2 h3) ⟨.inl Z,.inl Z,.inl Z,U⟩) (qd Z (yg (j:=3) Z Z (fun h4 => ?_) (fun h4 => ?_) Z)))))
  ·exact u1 h4 H fun h5 H=>ze Z Z h4 (zd (.dat _) Z) (bE H fun r6 h7 H=>ze Z Z h4 (zm (z7e s1 [97,98,99,100,101,102,103,104,105,106,107,108,109,110,111,112,113,114,115,116,117,118,119,120,121,122,65,66,67,68,69,70,71,72,73,74,75,76,77,78,79,80,81,82,83,84,85,86,87,88,89,90,48,49,50,51,52,53,54,55,56,57,33,35,36,37,38,39,42,43,45,46,94,95,96,124,126] r6 h7) ⟨.inl Z,.inl Z,U⟩) (za (zz Z (bTT h5) Z) (qe Z ⟨r6,H,⟨Z,U⟩,U⟩)))
  ·exact u2 h4 H fun h8 H=>zc Z Z h4 (zc Z Z h4 (za (zv Z (bFF h8) Z) (qe Z ⟨false,H,⟨Z,U⟩,U⟩)))
 ·rintro v9 H
  replace H:z39 v9=some r:=H
  unfold z39 at H
  refine zi ?_
  cases H
  exact ⟨U,.inl Z,U⟩
theorem w0g (n:Int) (r:Bs) (H:y9t n=some r):Fn Tryz.prog 203 [vint n] (zt [vstr r]):=by
 obtain ⟨⟨h1,h2⟩,h3⟩:=gif H
 cases h3
 refine xw (by kernel_rfl) fun M w vs hM h => ?_
 have hv:=kg (us:=[.int .i64 n]) h
 subst hv
 refine (Tryz.strconv_Itoa n h1 h2 w (x8i hM)).mono ?_
 rintro e w' ⟨rfl,k,os,rfl⟩
 exact ⟨_,Z,Z,Kp.of_below ⟨Z,Z,Z,by show w.heap.size≤(w.heap++os).size; rw [Array.size_append]; omega,fun j hj=>by show (w.heap++os)[j]?=w.heap[j]?; exact Array.getElem?_append_left hj⟩⟩
theorem w1d (s1:Bs) (most2:Int) (r:(Int×Bool)) (H:z99 s1 most2=some r):Fn Tryz.prog 179 [vstr s1,vint most2] (zt [vint r.1,zh r.2]):=by
 refine ⟨by kernel_rfl,yf (us:=[vint r.1,zh r.2]) Tryz.func179 Z Z Z Z fun X hN => ?_⟩
 unfold z99 at H
 refine zb hN Z (qe Z (qe Z (zb hN Z (qd Z (bE H fun r3 h4 H=>za (zm (y92 s1 [45] r3 h4) ⟨.inl Z,.inl Z,U⟩) (qe Z (zf (yc (ι:=Bool) (fun i=>[(0,.dat (vstr s1)),(23,.dat (zh i))]) (fun i=>[]) (fun i=>z4c s1 i=some r) (fun i=>Z) ?_ ?_))))))))
 ·skip
  refine zp hN Z (qd Z (za (va Z Z) (qd Z (yg (j:=2) Z Z (fun h5 => ?_) (fun h5 => ?_) Z))))
  ·refine u3 h5 H fun h6 H=>ze Z Z h5 (zd (.dat _) Z) (ze Z Z h5 (yw tyU9 Z) (ze Z Z h5 (zd (.dat _) Z) (ze Z Z h5 (wa Z Z) (za (zv Z (bFF h6) Z) (qd Z (yg (j:=8) Z Z (fun h7 => ?_) (fun h7 => ?_) Z))))))
   ·exact u3 h7 H fun h8 H=>ze Z Z h7 (zd (.dat _) Z) (bE H fun r9 h10 H=>ze Z Z h7 (zm (z7e r3 [48,49,50,51,52,53,54,55,56,57] r9 h10) ⟨.inl Z,.inl Z,U⟩) (ze Z Z h7 (yr Z) (za (zv Z (bFF h8) Z) ⟨!r9,H,⟨Z,Z,U⟩,U⟩)))
   ·exact u4 h7 H fun h11 H=>zc Z Z h7 (zc Z Z h7 (zc Z Z h7 (za (zz Z (bTT h11) Z) ⟨true,H,⟨Z,Z,U⟩,U⟩)))
  ·exact u4 h5 H fun h12 H=>zc Z Z h5 (zc Z Z h5 (zc Z Z h5 (zc Z Z h5 (za (zz Z (bTT h12) Z) (qd Z (zc Z Z Z (zc Z Z Z (zc Z Z Z (za (zz Z Z Z) ⟨true,H,⟨Z,Z,U⟩,U⟩)))))))))
 ·rintro v13 H
  replace H:z4c s1 v13=some r:=H
  unfold z4c at H
  refine zg _ Z (fun h14 => ?_) (fun h14 => ?_)
  ·refine tE h14 H fun H=>zb hN Z (qe Z (qe Z (zi ?_)))
   cases H
   exact ⟨U,.inl Z,.inl Z,U⟩
  ·refine fE h14 H fun H=>zl (zb hN Z (qd Z (bE H fun r15 h16 H=>za (zm (y97 s1 r15 h16) ⟨.inl Z,U⟩) (qd Z (za (yd Z Z) (za (yd Z Z) (qe Z (qe Z (yc (ι:=Bool) (fun i=>[(4,.dat (vint r15.1)),(5,.dat (zh i))]) (fun i=>[]) (fun i=>z7z r15 i=some r) (fun i=>Z) ?_ ?_)))))))))
   ·skip
    refine zp hN Z (qd Z (qd Z (za (y7s (n:=r15.2) (show Tryz.prog.underlying 104=some (.interface (Tryz.prog.methodsAt 104)) from by kernel_rfl) Z) ?_)))
    refine qd Z (yg (j:=3) Z Z (fun h17 => ?_) (fun h17 => ?_) Z)
    ·exact u1 h17 H fun h18 H=>ze Z Z h17 (zd (.dat _) Z) (bE H fun r19 h20 H=>ze Z Z h17 (zm (w0g r15.1 r19 h20) ⟨.inl Z,U⟩) (ze Z Z h17 (zd (.dat _) Z) (ze Z Z h17 (va Z Z) (za (zz Z (bTT h18) Z) (qe Z (qe Z ⟨decide (r19=s1),H,⟨Z,Z,U⟩,U⟩))))))
    ·exact u2 h17 H fun h21 H=>zc Z Z h17 (zc Z Z h17 (zc Z Z h17 (zc Z Z h17 (za (zv Z (bFF h21) Z) (qe Z (qe Z ⟨false,H,⟨Z,Z,U⟩,U⟩))))))
   ·rintro v22 H
    replace H:z7z r15 v22=some r:=H
    unfold z7z at H
    refine zi ?_
    cases H
    exact ⟨U,.inl Z,.inl Z,U⟩
theorem w1f (v1:Bs) (r:(Bs×Int)) (H:Qa v1=some r):Fn Tryz.prog 130 [vstr v1] (zt [vstr r.1,vint r.2]):=by
 refine ⟨by kernel_rfl,yf (us:=[vstr r.1,vint r.2]) Tryz.func130 Z Z Z Z fun X hN => ?_⟩
 unfold Qa at H
 refine zb hN Z (qe Z (qe Z (zb hN Z (qd Z (bE H fun r2 h3 H=>za (zm (z7c v1 [58] r2 h3) ⟨.inl Z,.inl Z,U⟩) (qd Z (za (yd Z Z) (za (yd Z Z) (za (yd Z Z) (qe Z (qe Z (qe Z (zb hN Z (qd Z (bE H fun r4 h5 H=>za (zm (w1d r2.2.1 5 r4 h5) ⟨.inl Z,.inl Z,U⟩) (qd Z (za (yd Z Z) (za (yd Z Z) (qe Z (qe Z (zf ?_)))))))))))))))))))))
 refine yc (ι:=Bool) (fun i=>[(4,.dat (vstr r2.1)),(5,.dat (vstr r2.2.1)),(6,.dat (zh r2.2.2)),(7,.dat (vint r4.1)),(37,.dat (zh i))]) (fun i=>[]) (fun i=>Yb r2 r4 i=some r) (fun i=>Z) ?_ ?_
 ·skip
  refine zp hN Z (qd Z (za (yw tyU9 Z) (za (wa Z Z) (qd Z (yg (j:=3) Z Z (fun h6 => ?_) (fun h6 => ?_) Z)))))
  ·refine u3 h6 H fun h7 H=>ze Z Z h6 (zd (.dat _) Z) (ze Z Z h6 (zd (.dat _) Z) (yg (j:=5) Z Z (fun h8 => ?_) (fun h8 => ?_) Z))
   ·refine u1 h8 H fun h9 H=>ze Z Z h8 (zd (.dat _) Z) (ze Z Z h8 (yr Z) (ze Z Z h8 (zd (.dat _) Z) (yg (j:=8) Z Z (fun h10 => ?_) (fun h10 => ?_) Z)))
    ·exact u3 h10 H fun h11 H=>ze Z Z h10 (zd (.dat _) Z) (bE H fun r12 h13 H=>ze Z Z h10 (zm (z0q r4.1 1 65535 r12 h13) ⟨.inl Z,.inl Z,.inl Z,U⟩) (ze Z Z h10 (yr Z) (ze Z Z h8 (zv Z (bFF h11) Z) (ze Z Z h6 (zz Z (bTT h9) Z) (za (zv Z (bFF h7) Z) ⟨!r12,H,⟨Z,Z,Z,Z,Z,U⟩,U⟩)))))
    ·exact u4 h10 H fun h14 H=>zc Z Z h10 (zc Z Z h10 (zc Z Z h10 (ze Z Z h8 (zz Z (bTT h14) Z) (ze Z Z h6 (zz Z (bTT h9) Z) (za (zv Z (bFF h7) Z) ⟨true,H,⟨Z,Z,Z,Z,Z,U⟩,U⟩)))))
   ·exact u2 h8 H fun h15 H=>zc Z Z h8 (zc Z Z h8 (zc Z Z h8 (yz Z Z (yz Z Z (yz Z Z (zc Z Z h8 (ze Z Z h6 (zv Z (bFF h15) Z) (za (zv Z (bFF h7) Z) ⟨false,H,⟨Z,Z,Z,Z,Z,U⟩,U⟩))))))))
  ·exact u4 h6 H fun h16 H=>zc Z Z h6 (zc Z Z h6 (yz Z Z (yz Z Z (yz Z Z (yz Z Z (yz Z Z (yz Z Z (yz Z Z (zc Z Z h6 (za (zz Z (bTT h16) Z) ⟨true,H,⟨Z,Z,Z,Z,Z,U⟩,U⟩))))))))))
 ·rintro v17 H
  replace H:Yb r2 r4 v17=some r:=H
  unfold Yb at H
  refine zg _ Z (fun h18 => ?_) (fun h18 => ?_)
  ·refine tE h18 H fun H=>zb hN Z (qe Z (qe Z (zi ?_)))
   cases H
   exact ⟨U,.inl Z,.inl Z,U⟩
  ·refine fE h18 H fun H=>zl (zf (zb hN Z (qd Z (bE H fun r19 h20 H=>za (zm (z0p r2.1 [46] r19 h20) ⟨.inl Z,.inl Z,U⟩) (za (qf wm Z) (qd Z (zx (gE H fun h23 H=>qy (fun (k21:Nat) (s:Unit)=>[(4,.dat (vstr r2.1)),(5,.dat (vstr r2.2.1)),(6,.dat (zh r2.2.2)),(7,.dat (vint r4.1)),(39,.dat (vlst (List.map zq r19))),(40,.dat (vint (r19.length:Int))),(41,.dat (vint (k21:Int)))]) (fun (k21:Nat) (s:Unit)=>[]) () H ⟨Z,Z,Z,Z,Z,Z,Z,U⟩ U (fun _ _=>Z) ?_ ?_))))))))
   ·rintro ⟨⟩ H
    replace H:z4e r2 r4=some r:=H
    unfold z4e at H
    refine zb hN Z (za (zy Z Z) (zf (zg _ Z (fun h=>(lt_t h).elim) (fun h => ?_))))
    refine yt (zb hN Z (qd Z (bE H fun r25 h26 H=>za (zm (Qb r2.1 r25 h26) ⟨.inl Z,U⟩) (qe Z (yc (ι:=Bs) (fun i=>[(11,.dat (vstr i))]) (fun i=>[]) (fun i=>z73 i=some r) (fun i=>Z) ?_ ?_)))))
    ·skip
     refine zb hN Z (qd Z (qd Z (qx Z Z (fun hc=>zd (.dat _) Z) (qx Z Z (fun hc=>qp (cnd (c:=r2.2.2) hc) Z) (za (ww Z (fun hb=>(cnd (c:=r2.2.2) hb)) Z) (qd Z (qx Z Z (fun hc=>zd (.dat _) Z) (qx Z Z (fun hc=>qp (cnd (c:=(r2.2.2 && (decide (r4.1≠80)))) hc) Z) (za (ww Z (fun hb=>(cnd (c:=(r2.2.2 && (decide (r4.1≠80)))) hb)) Z) (zg _ Z (fun h27 => ?_) (fun h27 => ?_)))))))))))
     ·exact tE h27 H fun H=>zp hN Z (qd Z (qd Z (gE H fun h28 H=>za (kk Z Z (Nat.le_trans h28 (by decide))) (gE H fun h29 H=>za (kk Z Z (Nat.le_trans h29 (by decide))) (qe Z ⟨(r25++([58]++r2.2.1)),H,⟨Z,U⟩,U⟩)))))
     ·exact fE h27 H fun H=>zl ⟨r25,H,⟨Z,U⟩,U⟩
    ·rintro v30 H
     replace H:z73 v30=some r:=H
     unfold z73 at H
     refine zb hN Z (qd Z (qe Z (qe Z (zi ?_))))
     cases H
     exact ⟨U,.inl Z,.inl Z,U⟩
   ·rintro k21 x24 ⟨⟩ q22 h31 h32 H hq22
    replace H:z4d k21 x24=some q22:=H
    unfold z4d at H
    refine zb hN Z (za (zy Z Z) (zf (zg _ Z (fun h => ?_) (fun h=>(lt_f h31 h).elim))))
    refine zl (zf (zx (zb hN Z (za (wi vm (fun _=>Z) Z Z h32) (za (qz tyS9 Z (qg h32) Z) (qe Z (yc (ι:=Bool) (fun i=>[(4,.dat (vstr r2.1)),(5,.dat (vstr r2.2.1)),(6,.dat (zh r2.2.2)),(7,.dat (vint r4.1)),(39,.dat (vlst (List.map zq r19))),(40,.dat (vint (r19.length:Int))),(41,.dat (vint (k21:Int))),(59,.dat (zh i))]) (fun i=>[]) (fun i=>Ya i=some q22) (fun i=>Z) ?_ ?_)))))))
    ·skip
     refine zp hN Z (qd Z (za (yw tyU9 Z) (bE H fun r33 h34 H=>za (zm (z0q (x24.length:Int) 1 63 r33 h34) ⟨.inl Z,.inl Z,.inl Z,U⟩) (za (yr Z) (qd Z (yg (j:=4) Z Z (fun h35 => ?_) (fun h35 => ?_) Z))))))
     ·refine u3 h35 H fun h36 H=>ze Z Z h35 (zd (.dat _) Z) (bE H fun r37 h38 H=>ze Z Z h35 (zm (z7e x24 [97,98,99,100,101,102,103,104,105,106,107,108,109,110,111,112,113,114,115,116,117,118,119,120,121,122,65,66,67,68,69,70,71,72,73,74,75,76,77,78,79,80,81,82,83,84,85,86,87,88,89,90,48,49,50,51,52,53,54,55,56,57,45] r37 h38) ⟨.inl Z,.inl Z,U⟩) (ze Z Z h35 (yr Z) (za (zv Z (bFF h36) Z) (qd Z (yg (j:=9) Z Z (fun h39 => ?_) (fun h39 => ?_) Z)))))
      ·exact u3 h39 H fun h40 H=>ze Z Z h39 (zd (.dat _) Z) (bE H fun r41 h42 H=>ze Z Z h39 (zm (z3q x24 [45] r41 h42) ⟨.inl Z,.inl Z,U⟩) (ze Z Z h39 (zd (.dat _) Z) (ze Z Z h39 (kj Z Z) (za (zv Z (bFF h40) Z) ⟨decide (r41≠x24),H,⟨Z,Z,Z,Z,Z,Z,Z,Z,U⟩,U⟩))))
      ·exact u4 h39 H fun h43 H=>zc Z Z h39 (zc Z Z h39 (zc Z Z h39 (zc Z Z h39 (za (zz Z (bTT h43) Z) ⟨true,H,⟨Z,Z,Z,Z,Z,Z,Z,Z,U⟩,U⟩))))
     ·exact u4 h35 H fun h44 H=>zc Z Z h35 (zc Z Z h35 (zc Z Z h35 (za (zz Z (bTT h44) Z) (qd Z (zc Z Z Z (zc Z Z Z (zc Z Z Z (zc Z Z Z (za (zz Z Z Z) ⟨true,H,⟨Z,Z,Z,Z,Z,Z,Z,Z,U⟩,U⟩)))))))))
    ·rintro v45 H
     replace H:Ya v45=some q22:=H
     unfold Ya at H
     refine zg _ Z (fun h46 => ?_) (fun h46 => ?_)
     ·refine tE h46 H fun H=>zb hN Z (qe Z (qe Z (zi ?_)))
      replace H:=retl H hq22
      cases H
      exact ⟨U,.inl Z,.inl Z,U⟩
     ·exact fE h46 H fun H=>zl (zp hN Z (za (qj Z Z (by omega)) (qd Z ⟨_,yx H,⟨Z,Z,Z,Z,Z,Z,Z,U⟩,U⟩)))
theorem y4p (s1:Bs) (low2:Int) (r:(Bool)) (H:Zu s1 low2=some r):Fn Tryz.prog 180 [vstr s1,vval (.int .u8 low2)] (zt [zh r]):=by
 refine ⟨by kernel_rfl,yf (us:=[zh r]) Tryz.func180 Z Z Z Z fun X hN => ?_⟩
 unfold Zu at H
 refine zb hN Z (qe Z (zf (zb hN Z (qd Z (za (yw tyU9 Z) (qd Z (zx (gE H fun h5 H=>qy (fun (k3:Nat) (s:Unit)=>[(0,.dat (vstr s1)),(1,.dat (vval (.int .u8 low2))),(7,.dat (vint (s1.length:Int))),(8,.dat (vint (k3:Int)))]) (fun (k3:Nat) (s:Unit)=>[]) () H ⟨Z,Z,Z,Z,U⟩ U (fun _ _=>Z) ?_ ?_))))))))
 ·rintro ⟨⟩ H
  replace H:y46=some r:=H
  unfold y46 at H
  refine zb hN Z (za (zy Z Z) (zf (zg _ Z (fun h=>(lt_t h).elim) (fun h => ?_))))
  refine yt (zb hN Z (qe Z (zi ?_)))
  cases H
  exact ⟨U,.inl Z,U⟩
 ·rintro k3 x6 ⟨⟩ q4 h7 h8 H hq4
  replace H:y0y low2 k3 x6=some q4:=H
  unfold y0y at H
  refine zb hN Z (za (zy Z Z) (zf (zg _ Z (fun h => ?_) (fun h=>(lt_f h7 h).elim))))
  refine zl (zf (zx (zb hN Z (qd Z (qe Z (yc (ι:=Bool) (fun i=>[(0,.dat (vstr s1)),(1,.dat (vval (.int .u8 low2))),(7,.dat (vint (s1.length:Int))),(8,.dat (vint (k3:Int))),(21,.dat (zh i))]) (fun i=>[]) (fun i=>z34 i=some q4) (fun i=>Z) ?_ ?_))))))
  ·skip
   refine zp hN Z (qd Z (qd Z (za (qv tyU9 Z Z h8) (qd Z (za (zy Z Z) (qd Z (yg (j:=5) Z Z (fun h9 => ?_) (fun h9 => ?_) Z)))))))
   ·exact u3 h9 H fun h10 H=>ze Z Z h9 (zd (.dat _) Z) (ze Z Z h9 (zd (.dat _) Z) (ze Z Z h9 (qv tyU9 Z Z h8) (ze Z Z h9 (wa Z Z) (za (zv Z (bFF h10) Z) ⟨decide (126 < (x6.toNat:Int)),H,⟨Z,Z,Z,Z,Z,U⟩,U⟩))))
   ·exact u4 h9 H fun h11 H=>zc Z Z h9 (zc Z Z h9 (zc Z Z h9 (zc Z Z h9 (za (zz Z (bTT h11) Z) ⟨true,H,⟨Z,Z,Z,Z,Z,U⟩,U⟩))))
  ·rintro v12 H
   replace H:z34 v12=some q4:=H
   unfold z34 at H
   refine zg _ Z (fun h13 => ?_) (fun h13 => ?_)
   ·refine tE h13 H fun H=>zb hN Z (qe Z (zi ?_))
    replace H:=retl H hq4
    cases H
    exact ⟨U,.inl Z,U⟩
   ·exact fE h13 H fun H=>zl (zp hN Z (za (qj Z Z (by omega)) (qd Z ⟨_,yx H,⟨Z,Z,Z,Z,U⟩,U⟩)))
theorem w06 (s1:Bs) (r:(Bool)) (H:z3c s1=some r):Fn Tryz.prog 131 [vstr s1] (zt [zh r]):=by
 refine ⟨by kernel_rfl,yf (us:=[zh r]) Tryz.func131 Z Z Z Z fun X hN => ?_⟩
 unfold z3c at H
 refine zb hN Z (qe Z (yc (ι:=Bool) (fun i=>[(2,.dat (zh i))]) (fun i=>[]) (fun i=>Qh i=some r) (fun i=>Z) ?_ ?_))
 ·skip
  refine zp hN Z (qd Z (za (yw tyU9 Z) (bE H fun r2 h3 H=>za (zm (z0q (s1.length:Int) 1 1000 r2 h3) ⟨.inl Z,.inl Z,.inl Z,U⟩) (qd Z (yg (j:=3) Z Z (fun h4 => ?_) (fun h4 => ?_) Z)))))
  ·refine u1 h4 H fun h5 H=>ze Z Z h4 (zd (.dat _) Z) (bE H fun x6 h7 H=>ze Z Z h4 (qv tyU9 Z Z h7) (ze Z Z h4 (yu Z Z) (za (zz Z (bTT h5) Z) (qd Z (yg (j:=8) Z Z (fun h8 => ?_) (fun h8 => ?_) Z)))))
   ·refine u1 h8 H fun h9 H=>ze Z Z h8 (zd (.dat _) Z) (bE H fun r10 h11 H=>ze Z Z h8 (zm (y4p s1 33 r10 h11) ⟨.inl Z,.inl Z,U⟩) (za (zz Z (bTT h9) Z) (qd Z (yg (j:=12) Z Z (fun h12 => ?_) (fun h12 => ?_) Z))))
    ·exact u1 h12 H fun h13 H=>ze Z Z h12 (zd (.dat _) Z) (bE H fun r14 h15 H=>ze Z Z h12 (zm (y93 s1 [63,35] r14 h15) ⟨.inl Z,.inl Z,U⟩) (ze Z Z h12 (yr Z) (za (zz Z (bTT h13) Z) (qe Z ⟨!r14,H,⟨Z,U⟩,U⟩))))
    ·exact u2 h12 H fun h16 H=>zc Z Z h12 (zc Z Z h12 (zc Z Z h12 (za (zv Z (bFF h16) Z) (qe Z ⟨false,H,⟨Z,U⟩,U⟩))))
   ·exact u2 h8 H fun h17 H=>zc Z Z h8 (zc Z Z h8 (za (zv Z (bFF h17) Z) (qd Z (zc Z Z Z (zc Z Z Z (zc Z Z Z (za (zv Z Z Z) (qe Z ⟨false,H,⟨Z,U⟩,U⟩))))))))
  ·exact u2 h4 H fun h18 H=>zc Z Z h4 (zc Z Z h4 (zc Z Z h4 (za (zv Z (bFF h18) Z) (qd Z (zc Z Z Z (zc Z Z Z (za (zv Z Z Z) (qd Z (zc Z Z Z (zc Z Z Z (zc Z Z Z (za (zv Z Z Z) (qe Z ⟨false,H,⟨Z,U⟩,U⟩)))))))))))))
 ·rintro v19 H
  replace H:Qh v19=some r:=H
  unfold Qh at H
  refine zi ?_
  cases H
  exact ⟨U,.inl Z,U⟩
theorem w05 (s1:Bs) (r:(Bool)) (H:un s1=some r):Fn Tryz.prog 132 [vstr s1] (zt [zh r]):=by
 refine ⟨by kernel_rfl,yf (us:=[zh r]) Tryz.func132 Z Z Z Z fun X hN => ?_⟩
 unfold un at H
 refine zb hN Z (qe Z (yc (ι:=Bool) (fun i=>[(2,.dat (zh i))]) (fun i=>[]) (fun i=>xf i=some r) (fun i=>Z) ?_ ?_))
 ·skip
  refine zp hN Z (qd Z (za (yw tyU9 Z) (za (wn Z Z) (qd Z (yg (j:=3) Z Z (fun h2 => ?_) (fun h2 => ?_) Z)))))
  ·refine u1 h2 H fun h3 H=>ze Z Z h2 (zd (.dat _) Z) (bE H fun r4 h5 H=>ze Z Z h2 (zm (y4p s1 33 r4 h5) ⟨.inl Z,.inl Z,U⟩) (za (zz Z (bTT h3) Z) (qd Z (yg (j:=7) Z Z (fun h6 => ?_) (fun h6 => ?_) Z))))
   ·exact u1 h6 H fun h7 H=>ze Z Z h6 (zd (.dat _) Z) (bE H fun r8 h9 H=>ze Z Z h6 (zm (y94 s1 [35] r8 h9) ⟨.inl Z,.inl Z,U⟩) (ze Z Z h6 (yr Z) (za (zz Z (bTT h7) Z) (qe Z ⟨!r8,H,⟨Z,U⟩,U⟩))))
   ·exact u2 h6 H fun h10 H=>zc Z Z h6 (zc Z Z h6 (zc Z Z h6 (za (zv Z (bFF h10) Z) (qe Z ⟨false,H,⟨Z,U⟩,U⟩))))
  ·exact u2 h2 H fun h11 H=>zc Z Z h2 (zc Z Z h2 (za (zv Z (bFF h11) Z) (qd Z (zc Z Z Z (zc Z Z Z (zc Z Z Z (za (zv Z Z Z) (qe Z ⟨false,H,⟨Z,U⟩,U⟩))))))))
 ·rintro v12 H
  replace H:xf v12=some r:=H
  unfold xf at H
  refine zi ?_
  cases H
  exact ⟨U,.inl Z,U⟩
theorem x0p (s1:Bs) (r:(Bool)) (H:z6s s1=some r):Fn Tryz.prog 133 [vstr s1] (zt [zh r]):=by
 refine ⟨by kernel_rfl,yf (us:=[zh r]) Tryz.func133 Z Z Z Z fun X hN => ?_⟩
 unfold z6s at H
 refine zb hN Z (qe Z (yc (ι:=Bool) (fun i=>[(2,.dat (zh i))]) (fun i=>[]) (fun i=>z4f i=some r) (fun i=>Z) ?_ ?_))
 ·skip
  refine zp hN Z (qd Z (za (yw tyU9 Z) (za (wn Z Z) (qd Z (yg (j:=3) Z Z (fun h2 => ?_) (fun h2 => ?_) Z)))))
  ·refine u1 h2 H fun h3 H=>ze Z Z h2 (zd (.dat _) Z) (bE H fun r4 h5 H=>ze Z Z h2 (zm (y4p s1 32 r4 h5) ⟨.inl Z,.inl Z,U⟩) (za (zz Z (bTT h3) Z) (qd Z (yg (j:=7) Z Z (fun h6 => ?_) (fun h6 => ?_) Z))))
   ·exact u1 h6 H fun h7 H=>ze Z Z h6 (zd (.dat _) Z) (bE H fun r8 h9 H=>ze Z Z h6 (zm (z3q s1 [32] r8 h9) ⟨.inl Z,.inl Z,U⟩) (ze Z Z h6 (zd (.dat _) Z) (ze Z Z h6 (va Z Z) (za (zz Z (bTT h7) Z) (qe Z ⟨decide (r8=s1),H,⟨Z,U⟩,U⟩)))))
   ·exact u2 h6 H fun h10 H=>zc Z Z h6 (zc Z Z h6 (zc Z Z h6 (zc Z Z h6 (za (zv Z (bFF h10) Z) (qe Z ⟨false,H,⟨Z,U⟩,U⟩)))))
  ·exact u2 h2 H fun h11 H=>zc Z Z h2 (zc Z Z h2 (za (zv Z (bFF h11) Z) (qd Z (zc Z Z Z (zc Z Z Z (zc Z Z Z (zc Z Z Z (za (zv Z Z Z) (qe Z ⟨false,H,⟨Z,U⟩,U⟩)))))))))
 ·rintro v12 H
  replace H:z4f v12=some r:=H
  unfold z4f at H
  refine zi ?_
  cases H
  exact ⟨U,.inl Z,U⟩
theorem x0o (l1:(List zo)) (r:(Int)) (H:z3g l1=some r):Fn Tryz.prog 134 [vlst (List.map yh l1)] (zt [vint r]):=by
 refine ⟨by kernel_rfl,yf (us:=[vint r]) Tryz.func134 Z Z Z Z fun X hN => ?_⟩
 unfold z3g at H
 refine zb hN Z (qe Z (zf (zb hN Z (qd Z (za (qf Zb Z) (za (wa Z Z) (zg _ Z (fun h2 => ?_) (fun h2 => ?_))))))))
 ·refine tE h2 H fun H=>zb hN Z (qe Z (zi ?_))
  cases H
  exact ⟨U,.inl Z,U⟩
 ·refine fE h2 H fun H=>zl (zf (zb hN Z (qd Z (za (qf Zb Z) (qd Z (zx (gE H fun h5 H=>qy (fun (k3:Nat) (s:Unit)=>[(8,.dat (vlst (List.map yh l1))),(9,.dat (vint (l1.length:Int))),(10,.dat (vint (k3:Int)))]) (fun (k3:Nat) (s:Unit)=>[]) () H ⟨Z,Z,Z,U⟩ U (fun _ _=>Z) ?_ ?_)))))))
  ·rintro ⟨⟩ H
   replace H:y1a=some r:=H
   unfold y1a at H
   refine zb hN Z (za (zy Z Z) (zf (zg _ Z (fun h=>(lt_t h).elim) (fun h => ?_))))
   refine yt (zb hN Z (qe Z (zi ?_)))
   cases H
   exact ⟨U,.inl Z,U⟩
  ·rintro k3 x6 ⟨⟩ q4 h7 h8 H hq4
   replace H:y09 k3 x6=some q4:=H
   unfold y09 at H
   refine zb hN Z (za (zy Z Z) (zf (zg _ Z (fun h => ?_) (fun h=>(lt_f h7 h).elim))))
   refine zl (zf (zx (zb hN Z (za (wi z15 (fun _=>Z) Z Z h8) (za (Zf uu Z (qg h8) Z) (zk (wd 1 ut Z) Z (zk (qw uu Z Z Z Z) Z (zf (zb hN Z (za (zw z12 Z) (zr (ye tyS9 Z Z) Z (bE H fun r9 h10 H=>za (zm (y4q x6.Name r9 h10) ⟨.inl Z,U⟩) (za (yr Z) (zg _ Z (fun h11 => ?_) (fun h11 => ?_)))))))))))))))
   ·refine tE h11 H fun H=>zb hN Z (qe Z (zi ?_))
    replace H:=retl H hq4
    cases H
    exact ⟨U,.inl Z,U⟩
   ·refine fE h11 H fun H=>zl (zb hN Z (za (zw z8r Z) (zr (ye tyS9 Z Z) Z (bE H fun r12 h13 H=>za (zm (x0p x6.Value r12 h13) ⟨.inl Z,U⟩) (za (yr Z) (zg _ Z (fun h14 => ?_) (fun h14 => ?_)))))))
    ·refine tE h14 H fun H=>zb hN Z (qe Z (zi ?_))
     replace H:=retl H hq4
     cases H
     exact ⟨U,.inl Z,U⟩
    ·exact fE h14 H fun H=>zl (zp hN Z (za (qj Z Z (by omega)) (qd Z ⟨_,yx H,⟨Z,Z,Z,U⟩,U⟩)))
theorem w1c (r1:zu) (r:(Int)) (H:z0g r1=some r):Fn Tryz.prog 77 [vagg (we r1)] (zt [vint r]):=by
 refine ⟨by kernel_rfl,yf (us:=[vint r]) Tryz.func77 Z Z Z Z fun X hN => ?_⟩
 unfold z0g at H
 refine zb hN Z (zk (wy 1 Z) Z (qe Z (zf (zx (zb hN Z (za (zw y2a Z) (zr (ye tyS3 Z Z) Z (bE H fun r2 h3 H=>za (zm (y4r r1.At r2 h3) ⟨.inl Z,U⟩) (za (yr Z) (qe Z (zg _ Z (fun h4 => ?_) (fun h4 => ?_))))))))))))
 ·refine tE h4 H fun H=>zb hN Z (qe Z (zi ?_))
  cases H
  exact ⟨U,.inl Z,U⟩
 ·refine fE h4 H fun H=>zb hN Z (za (zw Yi Z) (zr (ye tyS9 Z Z) Z (bE H fun r5 h6 H=>za (zm (y4q r1.Method r5 h6) ⟨.inl Z,U⟩) (za (yr Z) (qe Z (zg _ Z (fun h7 => ?_) (fun h7 => ?_)))))))
  ·refine tE h7 H fun H=>zb hN Z (qe Z (zi ?_))
   cases H
   exact ⟨U,.inl Z,U⟩
  ·refine fE h7 H fun H=>zl (zf (zb hN Z (za (zw Qu Z) (zr (ye tyS9 Z Z) Z (bE H fun r8 h9 H=>za (zm (w1f r1.Host r8 h9) ⟨.inl Z,U⟩) (qd Z (za (yd Z Z) (za (yd Z Z) (qe Z (qe Z (zb hN Z (qd Z (za (qp Z Z) (zg _ Z (fun h10 => ?_) (fun h10 => ?_)))))))))))))))
   ·refine tE h10 H fun H=>zb hN Z (qd Z (qe Z (zi ?_)))
    cases H
    exact ⟨U,.inl Z,U⟩
   ·refine fE h10 H fun H=>zl (zf (yc (ι:=Bool) (fun i=>[(1,.ptr 1 0),(40,.dat (zh i))]) (fun i=>[(1,.box none 28 [.dat (vint r1.At),.dat (vstr r1.Method),.dat (vstr r1.Host),.dat (vstr r1.Path),.dat (vstr r1.Query),.dat (vstr r1.From),.dat (vlst (List.map yh r1.Headers)),.dat (vstr r1.Body)])]) (fun i=>z04 r1 i=some r) (fun i=>Z) ?_ ?_))
    ·skip
     refine zp hN Z (za (zw Qt Z) (zr (ye tyS9 Z Z) Z (bE H fun r11 h12 H=>za (zm (w06 r1.Path r11 h12) ⟨.inl Z,U⟩) (za (yr Z) (qd Z (yg (j:=4) Z Z (fun h13 => ?_) (fun h13 => ?_) Z))))))
     ·refine u3 h13 H fun h14 H=>ze Z Z h13 (zw Qs Z) (ju Z Z h13 (ye tyS9 Z Z) Z (bE H fun r15 h16 H=>ze Z Z h13 (zm (w05 r1.Query r15 h16) ⟨.inl Z,U⟩) (ze Z Z h13 (yr Z) (za (zv Z (bFF h14) Z) (qd Z (yg (j:=10) Z Z (fun h17 => ?_) (fun h17 => ?_) Z))))))
      ·exact u3 h17 H fun h18 H=>ze Z Z h17 (zw y60 Z) (ju Z Z h17 (ye tyS9 Z Z) Z (bE H fun r19 h20 H=>ze Z Z h17 (zm (x0p r1.From r19 h20) ⟨.inl Z,U⟩) (ze Z Z h17 (yr Z) (za (zv Z (bFF h18) Z) ⟨!r19,H,⟨Z,Z,U⟩,⟨Z,U⟩⟩))))
      ·exact u4 h17 H fun h21 H=>zc Z Z h17 (zc Z Z h17 (zc Z Z h17 (zc Z Z h17 (za (zz Z (bTT h21) Z) ⟨true,H,⟨Z,Z,U⟩,⟨Z,U⟩⟩))))
     ·exact u4 h13 H fun h22 H=>zc Z Z h13 (zc Z Z h13 (zc Z Z h13 (zc Z Z h13 (za (zz Z (bTT h22) Z) (qd Z (zc Z Z Z (zc Z Z Z (zc Z Z Z (zc Z Z Z (za (zz Z Z Z) ⟨true,H,⟨Z,Z,U⟩,⟨Z,U⟩⟩))))))))))
    ·rintro v23 H
     replace H:z04 r1 v23=some r:=H
     unfold z04 at H
     refine zg _ Z (fun h24 => ?_) (fun h24 => ?_)
     ·refine tE h24 H fun H=>zb hN Z (qe Z (zi ?_))
      cases H
      exact ⟨U,.inl Z,U⟩
     ·refine fE h24 H fun H=>zl (zf (zb hN Z (za (zw js Z) (zr (ye vk Z Z) Z (bE H fun r25 h26 H=>za (zm (x0o r1.Headers r25 h26) ⟨.inl Z,U⟩) (qe Z (zb hN Z (qd Z (za (qp Z Z) (zg _ Z (fun h27 => ?_) (fun h27 => ?_)))))))))))
      ·refine tE h27 H fun H=>zb hN Z (qd Z (qe Z (zi ?_)))
       cases H
       exact ⟨U,.inl Z,U⟩
      ·refine fE h27 H fun H=>zl (zf (zb hN Z (za (zw y6z Z) (zr (ye tyS9 Z Z) Z (za (yw tyU9 Z) (za (wa Z Z) (zg _ Z (fun h28 => ?_) (fun h28 => ?_))))))))
       ·refine tE h28 H fun H=>zb hN Z (qe Z (zi ?_))
        cases H
        exact ⟨U,.inl Z,U⟩
       ·refine fE h28 H fun H=>zl (zb hN Z (qe Z (zi ?_)))
        cases H
        exact ⟨U,.inl Z,U⟩
theorem w1b (a1:ym) (r:(Int)) (H:z3e a1=some r):Fn Tryz.prog 78 [vagg (ku a1)] (zt [vint r]):=by
 refine ⟨by kernel_rfl,yf (us:=[vint r]) Tryz.func78 Z Z Z Z fun X hN => ?_⟩
 unfold z3e at H
 refine zb hN Z (zk (wy 1 Z) Z (qe Z (zf (zb hN Z (za (zw y19 Z) (zr (ye tyS3 Z Z) Z (bE H fun r2 h3 H=>za (zm (z0q a1.Status 100 599 r2 h3) ⟨.inl Z,.inl Z,.inl Z,U⟩) (za (yr Z) (zg _ Z (fun h4 => ?_) (fun h4 => ?_))))))))))
 ·refine tE h4 H fun H=>zb hN Z (qe Z (zi ?_))
  cases H
  exact ⟨U,.inl Z,U⟩
 ·refine fE h4 H fun H=>zl (zf (zb hN Z (za (zw Qr Z) (zr (ye vk Z Z) Z (bE H fun r5 h6 H=>za (zm (x0o a1.Headers r5 h6) ⟨.inl Z,U⟩) (qe Z (zb hN Z (qd Z (za (qp Z Z) (zg _ Z (fun h7 => ?_) (fun h7 => ?_)))))))))))
  ·refine tE h7 H fun H=>zb hN Z (qd Z (qe Z (zi ?_)))
   cases H
   exact ⟨U,.inl Z,U⟩
  ·refine fE h7 H fun H=>zl (zf (zb hN Z (za (zw y6y Z) (zr (ye tyS9 Z Z) Z (za (yw tyU9 Z) (za (wa Z Z) (zg _ Z (fun h8 => ?_) (fun h8 => ?_))))))))
   ·refine tE h8 H fun H=>zb hN Z (qe Z (zi ?_))
    cases H
    exact ⟨U,.inl Z,U⟩
   ·refine fE h8 H fun H=>zl (zb hN Z (qe Z (zi ?_)))
    cases H
    exact ⟨U,.inl Z,U⟩
theorem w08 (a1:Bs) (b2:Bs) (r:(Bool)) (H:z6o a1 b2=some r):Fn Tryz.prog 181 [vstr a1,vstr b2] (zt [zh r]):=by
 refine ⟨by kernel_rfl,yf (us:=[zh r]) Tryz.func181 Z Z Z Z fun X hN => ?_⟩
 unfold z6o at H
 refine zb hN Z (qe Z (zb hN Z (qd Z (bE H fun r3 h4 H=>za (zm (Qb a1 r3 h4) ⟨.inl Z,U⟩) (qd Z (bE H fun r5 h6 H=>za (zm (Qb b2 r5 h6) ⟨.inl Z,U⟩) (za (va Z Z) (qe Z (zi ?_)))))))))
 cases H
 exact ⟨U,.inl Z,U⟩
theorem w1a (l1:(List zo)) (name2:Bs) (r:((List Bs))) (H:Yz l1 name2=some r):Fn Tryz.prog 138 [vlst (List.map yh l1),vstr name2] (zt [vlst (List.map zq r)]):=by
 refine ⟨by kernel_rfl,yf (us:=[vlst (List.map zq r)]) Tryz.func138 Z Z Z Z fun X hN => ?_⟩
 unfold Yz at H
 refine zb hN Z (qe Z (zb hN Z (qe Z (zf (zb hN Z (qd Z (za (qf Zb Z) (qd Z (zx (jo 5 1 9 1 Z Z Z (gE H fun h6 H=>qy (fun (k4:Nat) (s:(List Bs))=>[(1,.dat (vstr name2)),(5,.row 1 s.length),(8,.dat (vlst (List.map yh l1))),(9,.dat (vint (l1.length:Int))),(10,.dat (vint (k4:Int)))]) (fun (k4:Nat) (s:(List Bs))=>[(1,.row 9 1 (List.map zq s))]) [] H ⟨Z,Z,Z,Z,Z,U⟩ ⟨Z,U⟩ (fun _ _=>Z) ?_ ?_)))))))))))
 ·rintro l3 H
  replace H:y04 l3=some r:=H
  unfold y04 at H
  refine zb hN Z (za (zy Z Z) (zf (zg _ Z (fun h=>(lt_t h).elim) (fun h => ?_))))
  refine yt (zb hN Z (za (zd (.row _ _) Z) (za (qr (.row _ _) Z) (zi ?_))))
  cases H
  exact ⟨U,Qw Z Z,U⟩
 ·rintro k4 x7 l3 q5 h8 h9 H hq5
  replace H:z03 name2 k4 x7 l3=some q5:=H
  unfold z03 at H
  refine zb hN Z (za (zy Z Z) (zf (zg _ Z (fun h => ?_) (fun h=>(lt_f h8 h).elim))))
  refine zl (yc (ι:=(List Bs)) (fun i=>[(1,.dat (vstr name2)),(5,.row 1 i.length),(8,.dat (vlst (List.map yh l1))),(9,.dat (vint (l1.length:Int))),(10,.dat (vint (k4:Int)))]) (fun i=>[(1,.row 9 1 (List.map zq i))]) (fun i=>z38 i=some q5) (fun i=>Z) ?_ ?_)
  ·skip
   refine zx (zb hN Z (za (wi z15 (fun _=>Z) Z Z h9) (za (Zf uu Z (qg h9) Z) (zk (wd 2 ut Z) Z (zk (qw uu Z Z Z Z) Z (zb hN Z (za (zw z12 Z) (zr (ye tyS9 Z Z) Z (qd Z (bE H fun r10 h11 H=>za (zm (w08 x7.Name name2 r10 h11) ⟨.inl Z,.inl Z,U⟩) (zg _ Z (fun h12 => ?_) (fun h12 => ?_))))))))))))
   ·refine tE h12 H fun H=>zp hN Z (za (zd (.row _ _) Z) (za (zw z8r Z) (zr (ye tyS9 Z Z) Z (za (yb (u':=vlst (List.map zq [x7.Value])) (yo [[_]] yq ⟨Z,.inl ⟨_,Z,Z,Z⟩,Z,U⟩ Z Z) Z) (gE H fun h13 H=>zk (je yq (fun _=>Z) Z Z Z ⟨by simp,by first | (simp; done) | simpa using h13⟩ Z) Z ?_)))))
    exact za (qr (.row _ _) Z) ⟨(l3++[x7.Value]),H,⟨Z,Z,Z,Z,Z,U⟩,⟨Z,U⟩⟩
   ·exact fE h12 H fun H=>zl ⟨l3,H,⟨Z,Z,Z,Z,Z,U⟩,⟨Z,U⟩⟩
  ·rintro out14 H
   replace H:z38 out14=some q5:=H
   unfold z38 at H
   exact zp hN Z (za (qj Z Z (by omega)) (qd Z ⟨_,yx H,⟨Z,Z,Z,Z,Z,U⟩,⟨Z,U⟩⟩))
theorem w07 (values1:(List Bs)) (r:((List Bs))) (H:z6m values1=some r):Fn Tryz.prog 137 [vlst (List.map zq values1)] (zt [vlst (List.map zq r)]):=by
 refine ⟨by kernel_rfl,yf (us:=[vlst (List.map zq r)]) Tryz.func137 Z Z Z Z fun X hN => ?_⟩
 unfold z6m at H
 refine zb hN Z (qe Z (zb hN Z (qe Z (zf (zb hN Z (qd Z (bE H fun r2 h3 H=>za (zm (y0h values1 [44] r2 h3) ⟨.inl Z,.inl Z,U⟩) (bE H fun r4 h5 H=>za (zm (z0p r2 [44] r4 h5) ⟨.inl Z,.inl Z,U⟩) (za (qf wm Z) (qd Z (zx (jo 3 1 9 1 Z Z Z (gE H fun h9 H=>qy (fun (k7:Nat) (s:(List Bs))=>[(3,.row 1 s.length),(8,.dat (vlst (List.map zq r4))),(9,.dat (vint (r4.length:Int))),(10,.dat (vint (k7:Int)))]) (fun (k7:Nat) (s:(List Bs))=>[(1,.row 9 1 (List.map zq s))]) [] H ⟨Z,Z,Z,Z,U⟩ ⟨Z,U⟩ (fun _ _=>Z) ?_ ?_)))))))))))))
 ·rintro l6 H
  replace H:y01 l6=some r:=H
  unfold y01 at H
  refine zb hN Z (za (zy Z Z) (zf (zg _ Z (fun h=>(lt_t h).elim) (fun h => ?_))))
  refine yt (zb hN Z (za (zd (.row _ _) Z) (za (qr (.row _ _) Z) (zi ?_))))
  cases H
  exact ⟨U,Qw Z Z,U⟩
 ·rintro k7 x10 l6 q8 h11 h12 H hq8
  replace H:z01 k7 x10 l6=some q8:=H
  unfold z01 at H
  refine zb hN Z (za (zy Z Z) (zf (zg _ Z (fun h => ?_) (fun h=>(lt_f h11 h).elim))))
  refine zl (yc (ι:=(List Bs)) (fun i=>[(3,.row 1 i.length),(8,.dat (vlst (List.map zq r4))),(9,.dat (vint (r4.length:Int))),(10,.dat (vint (k7:Int)))]) (fun i=>[(1,.row 9 1 (List.map zq i))]) (fun i=>z35 i=some q8) (fun i=>Z) ?_ ?_)
  ·skip
   refine zx (zb hN Z (za (wi vm (fun _=>Z) Z Z h12) (za (qz tyS9 Z (qg h12) Z) (qe Z (zb hN Z (qd Z (bE H fun r13 h14 H=>za (zm (z3q x10 [32] r13 h14) ⟨.inl Z,.inl Z,U⟩) (qe Z (zb hN Z (qd Z (za (kj Z Z) (zg _ Z (fun h15 => ?_) (fun h15 => ?_)))))))))))))
   ·refine tE h15 H fun H=>zp hN Z (za (zd (.row _ _) Z) (qd Z (za (yb (u':=vlst (List.map zq [r13])) (yo [[_]] yq ⟨Z,.inl ⟨_,Z,Z,Z⟩,Z,U⟩ Z Z) Z) (gE H fun h16 H=>zk (je yq (fun _=>Z) Z Z Z ⟨by simp,by first | (simp; done) | simpa using h16⟩ Z) Z ?_))))
    exact za (qr (.row _ _) Z) ⟨(l6++[r13]),H,⟨Z,Z,Z,Z,U⟩,⟨Z,U⟩⟩
   ·exact fE h15 H fun H=>zl ⟨l6,H,⟨Z,Z,Z,Z,U⟩,⟨Z,U⟩⟩
  ·rintro out17 H
   replace H:z35 out17=some q8:=H
   unfold z35 at H
   exact zp hN Z (za (qj Z Z (by omega)) (qd Z ⟨_,yx H,⟨Z,Z,Z,Z,U⟩,⟨Z,U⟩⟩))
theorem w09 (a1:ym) (r:((List Bs)×Bool×Int)) (H:z6p a1=some r):Fn Tryz.prog 81 [vagg (ku a1)] (zt [vlst (List.map zq r.1),zh r.2.1,vint r.2.2]):=by
 refine ⟨by kernel_rfl,yf (us:=[vlst (List.map zq r.1),zh r.2.1,vint r.2.2]) Tryz.func81 Z Z Z Z fun X hN => ?_⟩
 unfold z6p at H
 refine zb hN Z (zk (wy 1 Z) Z (qe Z (qe Z (qe Z (zb hN Z (qe Z (zb hN Z (qe Z (zf (zb hN Z (za (zw Qr Z) (zr (ye vk Z Z) Z (bE H fun r2 h3 H=>za (zm (w1a a1.Headers [118,97,114,121] r2 h3) ⟨.inl Z,.inl Z,U⟩) (bE H fun r4 h5 H=>za (zm (w07 r2 r4 h5) ⟨.inl Z,U⟩) (za (qf wm Z) (qd Z (zx (jo 5 2 9 1 Z Z Z (gE H fun h10 H=>qy (fun (k8:Nat) (s:Bool×(List Bs))=>[(5,.row 2 s.2.length),(6,.dat (zh s.1)),(12,.dat (vlst (List.map zq r4))),(13,.dat (vint (r4.length:Int))),(14,.dat (vint (k8:Int)))]) (fun (k8:Nat) (s:Bool×(List Bs))=>[(2,.row 9 1 (List.map zq s.2))]) (false,[]) H ⟨Z,Z,Z,Z,Z,U⟩ ⟨Z,U⟩ (fun _ _=>Z) ?_ ?_)))))))))))))))))))
 ·rintro ⟨all6,l7⟩ H
  replace H:z36 all6 l7=some r:=H
  unfold z36 at H
  refine zb hN Z (za (zy Z Z) (zf (zg _ Z (fun h=>(lt_t h).elim) (fun h => ?_))))
  refine yt (zf (zb hN Z (qd Z (zg _ Z (fun h12 => ?_) (fun h12 => ?_)))))
  ·refine tE h12 H fun H=>zb hN Z (qe Z (qe Z (qe Z (zi ?_))))
   cases H
   exact ⟨U,.inr ⟨Z,Z⟩,.inl Z,.inl Z,U⟩
  ·refine fE h12 H fun H=>zl (zb hN Z (za (zd (.row _ _) Z) (bE H fun r13 h14 H=>vd (rn [(0,2)]) [(0,_,_,some _)] [] (y9z l7 r13 h14) ⟨Z,U⟩ ⟨.inl (.inl Z),U⟩ ⟨⟨⟨Z,Z,Z⟩,by simp [Zg,z5p h14]⟩,U⟩ Z ?_)))
   refine zb hN Z (za (zd (.row _ _) Z) (bE H fun r15 h16 H=>vd (rn [(0,2),(900,3)]) [(0,_,_,none)] [(900,_)] (y90 r13 r15 h16) ⟨Z,Z,U⟩ ⟨.inl (.inl (congrArg (Slot.row 2) (z5p h14).symm)),U⟩ ⟨⟨⟨Z,Z,Z⟩,U⟩,U⟩ Z (za (qr (.row _ _) Z) (zf (zb hN Z (za (zd (.row _ _) Z) (zr (z16 wm Z Z) Z (za (wa Z Z) (zg _ Z (fun h17 => ?_) (fun h17 => ?_))))))))))
   ·refine tE h17 H fun H=>zb hN Z (qe Z (qe Z (qe Z (zi ?_))))
    cases H
    exact ⟨U,.inr ⟨Z,Z⟩,.inl Z,.inl Z,U⟩
   ·refine fE h17 H fun H=>zl (zb hN Z (za (zd (.row _ _) Z) (za (qr (.row _ _) Z) (qe Z (qe Z (zi ?_))))))
    cases H
    exact ⟨U,Qw Z Z,.inl Z,.inl Z,U⟩
 ·rintro k8 x11 ⟨all6,l7⟩ q9 h18 h19 H hq9
  replace H:z02 k8 x11 all6 l7=some q9:=H
  unfold z02 at H
  refine zb hN Z (za (zy Z Z) (zf (zg _ Z (fun h => ?_) (fun h=>(lt_f h18 h).elim))))
  refine zl (zf (zx (zb hN Z (za (wi vm (fun _=>Z) Z Z h19) (za (qz tyS9 Z (qg h19) Z) (qe Z (zf (zb hN Z (qd Z (bE H fun r20 h21 H=>za (zm (y4q x11 r20 h21) ⟨.inl Z,U⟩) (za (yr Z) (zg _ Z (fun h22 => ?_) (fun h22 => ?_)))))))))))))
  ·refine tE h22 H fun H=>zb hN Z (qe Z (qe Z (qe Z (zi ?_))))
   replace H:=retl H hq9
   cases H
   exact ⟨U,.inr ⟨Z,Z⟩,.inl Z,.inl Z,U⟩
  ·refine fE h22 H fun H=>zl (zb hN Z (qd Z (qd Z (yv Z Z (fun hc=>zd (.dat _) Z) (yv Z Z (fun hc=>va (cnd (c:=(!all6)) hc) Z) (za (vr Z Z (fun hb=>(cnd (c:=(!all6)) (notI hb)))) (qe Z (zp hN Z (za (zd (.row _ _) Z) (qd Z (bE H fun r23 h24 H=>za (zm (Qb x11 r23 h24) ⟨.inl Z,U⟩) (za (yb (u':=vlst (List.map zq [r23])) (yo [[_]] yq ⟨Z,.inl ⟨_,Z,Z,Z⟩,Z,U⟩ Z Z) Z) (gE H fun h25 H=>zk (je yq (fun _=>Z) Z Z Z ⟨by simp,by first | (simp; done) | simpa using h25⟩ Z) Z ?_)))))))))))))
   exact za (qr (.row _ _) Z) (zp hN Z (za (qj Z Z (by omega)) (qd Z ⟨_,yx H,⟨Z,Z,Z,Z,Z,U⟩,⟨Z,U⟩⟩)))
theorem w1e (s1:Bs) (r:(Bool)) (H:z6r s1=some r):Fn Tryz.prog 80 [vstr s1] (zt [zh r]):=by
 refine ⟨by kernel_rfl,yf (us:=[zh r]) Tryz.func80 Z Z Z Z fun X hN => ?_⟩
 unfold z6r at H
 refine zb hN Z (qe Z (yc (ι:=Bool) (fun i=>[(2,.dat (zh i))]) (fun i=>[]) (fun i=>z05 i=some r) (fun i=>Z) ?_ ?_))
 ·skip
  refine zp hN Z (qd Z (za (yw tyU9 Z) (bE H fun r2 h3 H=>za (zm (z0q (s1.length:Int) 1 40 r2 h3) ⟨.inl Z,.inl Z,.inl Z,U⟩) (qd Z (yg (j:=3) Z Z (fun h4 => ?_) (fun h4 => ?_) Z)))))
  ·refine u1 h4 H fun h5 H=>ze Z Z h4 (zd (.dat _) Z) (bE H fun l6 h7 H=>ze Z Z h4 (vz tyU9 Z Z Z h7) (bE H fun r8 h9 H=>ze Z Z h4 (zm (z7e l6 [97,98,99,100,101,102,103,104,105,106,107,108,109,110,111,112,113,114,115,116,117,118,119,120,121,122] r8 h9) ⟨.inl Z,.inl Z,U⟩) (za (zz Z (bTT h5) Z) (qd Z (yg (j:=8) Z Z (fun h10 => ?_) (fun h10 => ?_) Z)))))
   ·exact u1 h10 H fun h11 H=>ze Z Z h10 (zd (.dat _) Z) (bE H fun r12 h13 H=>ze Z Z h10 (zm (z7e s1 [97,98,99,100,101,102,103,104,105,106,107,108,109,110,111,112,113,114,115,116,117,118,119,120,121,122,48,49,50,51,52,53,54,55,56,57,45,95] r12 h13) ⟨.inl Z,.inl Z,U⟩) (za (zz Z (bTT h11) Z) (qe Z ⟨r12,H,⟨Z,U⟩,U⟩)))
   ·exact u2 h10 H fun h14 H=>zc Z Z h10 (zc Z Z h10 (za (zv Z (bFF h14) Z) (qe Z ⟨false,H,⟨Z,U⟩,U⟩)))
  ·exact u2 h4 H fun h15 H=>zc Z Z h4 (zc Z Z h4 (zc Z Z h4 (za (zv Z (bFF h15) Z) (qd Z (zc Z Z Z (zc Z Z Z (za (zv Z Z Z) (qe Z ⟨false,H,⟨Z,U⟩,U⟩))))))))
 ·rintro v16 H
  replace H:z05 v16=some r:=H
  unfold z05 at H
  refine zi ?_
  cases H
  exact ⟨U,.inl Z,U⟩
theorem w1g (v1:qo) (r:(Int)) (H:z6t v1=some r):Fn Tryz.prog 32 [vagg (uc v1)] (zt [vint r]):=by
 refine ⟨by kernel_rfl,yf (us:=[vint r]) Tryz.func32 Z Z Z Z fun X hN => ?_⟩
 unfold z6t at H
 refine zb hN Z (zk (wy 1 Z) Z (qe Z (zf (zf (vi mixed hN Z Z (za (zw z14 Z) (zr (qh ql Z Z Z) Z (bE H fun r2 h3 H=>za (zm (w1c v1.Request r2 h3) ⟨.inl Z,U⟩) (za (zw z13 Z) (zr (qh jz Z Z Z) Z (bE H fun r4 h5 H=>za (zm (w1b v1.Response r4 h5) ⟨.inl Z,U⟩) (za (yb (u':=vlst (List.map x3g [r2,r4])) (yo [[_],[_]] x4s ⟨Z,.inl ⟨_,Z,Z,Z⟩,Z,Z,.inl ⟨_,Z,Z,Z⟩,Z,U⟩ Z Z) Z) (za (qf x4j Z) (qd Z ⟨Z,?_⟩))))))))))))))
 refine zx (gE H fun h8 H=>qy (fun (k6:Nat) (s:Unit)=>[(1,.ptr 1 0),(16,.dat (vlst (List.map x3g [r2,r4]))),(17,.dat (vint ([r2,r4].length:Int))),(18,.dat (vint (k6:Int)))]) (fun (k6:Nat) (s:Unit)=>[(1,.box none 38 [.dat (vint v1.Request.At),.dat (vstr v1.Request.Method),.dat (vstr v1.Request.Host),.dat (vstr v1.Request.Path),.dat (vstr v1.Request.Query),.dat (vstr v1.Request.From),.dat (vlst (List.map yh v1.Request.Headers)),.dat (vstr v1.Request.Body),.dat (vint v1.Response.Status),.dat (vlst (List.map yh v1.Response.Headers)),.dat (vstr v1.Response.Body),.dat (vint v1.At),.dat (vlst (List.map zq v1.Tags)),.dat (vint v1.Used)])]) () H ⟨Z,Z,Z,Z,U⟩ ⟨Z,U⟩ (fun _ _=>Z) ?_ ?_)
 ·rintro ⟨⟩ H
  replace H:z4j v1=some r:=H
  unfold z4j at H
  refine zb hN Z (za (zy Z Z) (zf (zg _ Z (fun h=>(lt_t h).elim) (fun h => ?_))))
  refine yt (zf (zx (yc (ι:=Bool) (fun i=>[(1,.ptr 1 0),(26,.dat (zh i))]) (fun i=>[(1,.box none 38 [.dat (vint v1.Request.At),.dat (vstr v1.Request.Method),.dat (vstr v1.Request.Host),.dat (vstr v1.Request.Path),.dat (vstr v1.Request.Query),.dat (vstr v1.Request.From),.dat (vlst (List.map yh v1.Request.Headers)),.dat (vstr v1.Request.Body),.dat (vint v1.Response.Status),.dat (vlst (List.map yh v1.Response.Headers)),.dat (vstr v1.Response.Body),.dat (vint v1.At),.dat (vlst (List.map zq v1.Tags)),.dat (vint v1.Used)])]) (fun i=>Qi v1 i=some r) (fun i=>Z) ?_ ?_)))
  ·skip
   refine zp hN Z (za (zw z8t Z) (zr (ye tyS3 Z Z) Z (bE H fun r10 h11 H=>za (zm (y4r v1.At r10 h11) ⟨.inl Z,U⟩) (za (yr Z) (qd Z (yg (j:=4) Z Z (fun h12 => ?_) (fun h12 => ?_) Z))))))
   ·exact u3 h12 H fun h13 H=>ze Z Z h12 (zw z8s Z) (ju Z Z h12 (ye tyS3 Z Z) Z (bE H fun r14 h15 H=>ze Z Z h12 (zm (y4r v1.Used r14 h15) ⟨.inl Z,U⟩) (ze Z Z h12 (yr Z) (za (zv Z (bFF h13) Z) (qe Z ⟨!r14,H,⟨Z,Z,U⟩,⟨Z,U⟩⟩)))))
   ·exact u4 h12 H fun h16 H=>zc Z Z h12 (zc Z Z h12 (zc Z Z h12 (zc Z Z h12 (za (zz Z (bTT h16) Z) (qe Z ⟨true,H,⟨Z,Z,U⟩,⟨Z,U⟩⟩)))))
  ·rintro v17 H
   replace H:Qi v1 v17=some r:=H
   unfold Qi at H
   refine zg _ Z (fun h18 => ?_) (fun h18 => ?_)
   ·refine tE h18 H fun H=>zb hN Z (qe Z (zi ?_))
    cases H
    exact ⟨U,.inl Z,U⟩
   ·refine fE h18 H fun H=>zb hN Z (za (zw Qq Z) (zr (ye Zc Z Z) Z (za (qf wm Z) (za (wa Z Z) (qe Z (zg _ Z (fun h19 => ?_) (fun h19 => ?_)))))))
    ·refine tE h19 H fun H=>zb hN Z (qe Z (zi ?_))
     cases H
     exact ⟨U,.inl Z,U⟩
    ·refine fE h19 H fun H=>zl (zf (zb hN Z (za (zw Qq Z) (zr (ye Zc Z Z) Z (za (qf wm Z) (qd Z (zx (gE H fun h22 H=>qy (fun (k20:Nat) (s:Unit)=>[(1,.ptr 1 0),(43,.dat (vlst (List.map zq v1.Tags))),(44,.dat (vint (v1.Tags.length:Int))),(45,.dat (vint (k20:Int)))]) (fun (k20:Nat) (s:Unit)=>[(1,.box none 38 [.dat (vint v1.Request.At),.dat (vstr v1.Request.Method),.dat (vstr v1.Request.Host),.dat (vstr v1.Request.Path),.dat (vstr v1.Request.Query),.dat (vstr v1.Request.From),.dat (vlst (List.map yh v1.Request.Headers)),.dat (vstr v1.Request.Body),.dat (vint v1.Response.Status),.dat (vlst (List.map yh v1.Response.Headers)),.dat (vstr v1.Response.Body),.dat (vint v1.At),.dat (vlst (List.map zq v1.Tags)),.dat (vint v1.Used)])]) () H ⟨Z,Z,Z,Z,U⟩ ⟨Z,U⟩ (fun _ _=>Z) ?_ ?_))))))))
     ·rintro ⟨⟩ H
      replace H:z4i v1=some r:=H
      unfold z4i at H
      refine zb hN Z (za (zy Z Z) (zf (zg _ Z (fun h=>(lt_t h).elim) (fun h => ?_))))
      refine yt (zb hN Z (za (zw z13 Z) (zr (qh jz Z Z Z) Z (bE H fun r24 h25 H=>za (zm (w09 v1.Response r24 h25) ⟨.inl Z,U⟩) (qd Z (za (yd Z Z) (za (yd Z Z) (za (yd Z Z) (qe Z (qe Z (qe Z (zb hN Z (qd Z (qe Z (zi ?_)))))))))))))))
      cases H
      exact ⟨U,.inl Z,U⟩
     ·rintro k20 x23 ⟨⟩ q21 h26 h27 H hq21
      replace H:z4g v1 k20 x23=some q21:=H
      unfold z4g at H
      refine zb hN Z (za (zy Z Z) (zf (zg _ Z (fun h => ?_) (fun h=>(lt_f h26 h).elim))))
      refine zl (zf (zx (zb hN Z (qd Z (za (wi vm (fun _=>Z) Z Z h27) (za (qz tyS9 Z (qg h27) Z) (qe Z (qe Z (zf (zb hN Z (qd Z (bE H fun r28 h29 H=>za (zm (w1e x23 r28 h29) ⟨.inl Z,U⟩) (za (yr Z) (zg _ Z (fun h30 => ?_) (fun h30 => ?_)))))))))))))))
      ·refine tE h30 H fun H=>zb hN Z (qe Z (zi ?_))
       replace H:=retl H hq21
       cases H
       exact ⟨U,.inl Z,U⟩
      ·refine fE h30 H fun H=>zl (yc (ι:=Bool) (fun i=>[(1,.ptr 1 0),(43,.dat (vlst (List.map zq v1.Tags))),(44,.dat (vint (v1.Tags.length:Int))),(45,.dat (vint (k20:Int))),(64,.dat (zh i))]) (fun i=>[(1,.box none 38 [.dat (vint v1.Request.At),.dat (vstr v1.Request.Method),.dat (vstr v1.Request.Host),.dat (vstr v1.Request.Path),.dat (vstr v1.Request.Query),.dat (vstr v1.Request.From),.dat (vlst (List.map yh v1.Request.Headers)),.dat (vstr v1.Request.Body),.dat (vint v1.Response.Status),.dat (vlst (List.map yh v1.Response.Headers)),.dat (vstr v1.Response.Body),.dat (vint v1.At),.dat (vlst (List.map zq v1.Tags)),.dat (vint v1.Used)])]) (fun i=>z4h i=some q21) (fun i=>Z) ?_ ?_)
       ·skip
        refine zp hN Z (qd Z (za (wa Z Z) (qd Z (yg (j:=2) Z Z (fun h31 => ?_) (fun h31 => ?_) Z))))
        ·exact u1 h31 H fun h32 H=>ze Z Z h31 (zd (.dat _) Z) (ze Z Z h31 (zw Qq Z) (ju Z Z h31 (ye Zc Z Z) Z (ze Z Z h31 (zd (.dat _) Z) (ze Z Z h31 (y2k Z Z (by omega)) (bE H fun x33 h34 H=>ze Z Z h31 (kw vm (fun _=>Z) Z Z h34) (ze Z Z h31 (qz tyS9 Z (qg (wo h34).2) Z) (ze Z Z h31 (y2m Z Z) (za (zz Z (bTT h32) Z) ⟨(Op.bytesLess x23 x33 || x23 == x33),H,⟨Z,Z,Z,Z,Z,U⟩,⟨Z,U⟩⟩))))))))
        ·exact u2 h31 H fun h35 H=>zc Z Z h31 (zc Z Z h31 (zc Z Z h31 (zc Z Z h31 (zc Z Z h31 (zc Z Z h31 (zc Z Z h31 (zc Z Z h31 (za (zv Z (bFF h35) Z) ⟨false,H,⟨Z,Z,Z,Z,Z,U⟩,⟨Z,U⟩⟩))))))))
       ·rintro v36 H
        replace H:z4h v36=some q21:=H
        unfold z4h at H
        refine zg _ Z (fun h37 => ?_) (fun h37 => ?_)
        ·refine tE h37 H fun H=>zb hN Z (qe Z (zi ?_))
         replace H:=retl H hq21
         cases H
         exact ⟨U,.inl Z,U⟩
        ·exact fE h37 H fun H=>zl (zp hN Z (za (qj Z Z (by omega)) (qd Z ⟨_,yx H,⟨Z,Z,Z,Z,U⟩,⟨Z,U⟩⟩)))
 ·rintro k6 x9 ⟨⟩ q7 h38 h39 H hq7
  replace H:z74 k6 x9=some q7:=H
  unfold z74 at H
  refine zb hN Z (za (zy Z Z) (zf (zg _ Z (fun h => ?_) (fun h=>(lt_f h38 h).elim))))
  refine zl (zf (zx (zb hN Z (za (wi x44 (fun _=>Z) Z Z h39) (za (qz x4k Z (qg h39) Z) (qe Z (zb hN Z (qd Z (za (qp Z Z) (zg _ Z (fun h40 => ?_) (fun h40 => ?_)))))))))))
  ·refine tE h40 H fun H=>zb hN Z (qd Z (qe Z (zi ?_)))
   replace H:=retl H hq7
   cases H
   exact ⟨U,.inl Z,U⟩
  ·exact fE h40 H fun H=>zl (zp hN Z (za (qj Z Z (by omega)) (qd Z ⟨_,yx H,⟨Z,Z,Z,Z,U⟩,⟨Z,U⟩⟩)))
theorem w1h (s1:zn) (r:(qo×zn)) (H:z6u s1=some r):Imp Tryz.prog 7 25 (qa s1) [] (zt [vagg (uc r.1)]) (qa r.2):=by
 refine jm (us:=[vagg (uc r.1)]) (cs':=(qa r.2)) (by kernel_rfl) Tryz.func7 Z Z Z Z fun X bl hN => ?_
 unfold z6u at H
 refine zb hN Z (zk (wd 1 Qo Z) Z (zf (zb hN Z (qd Z (zx (gE H fun h6 H=>z1r (fun (k4:Nat) (s:(List Int)×Int)=>[(0,.ptr 0 0),(2,.ptr 1 0),(4,.dat (vint (k4:Int)))]) (fun (k4:Nat) (s:(List Int)×Int)=>[(0,.box (some bl) 25 [.dat (vlst (List.map qk s.1)),.dat (vint s.2)]),(1,.box none 38 [.dat (vint 0),.dat (vstr []),.dat (vstr []),.dat (vstr []),.dat (vstr []),.dat (vstr []),.dat (vnil),.dat (vstr []),.dat (vint 0),.dat (vnil),.dat (vstr []),.dat (vint 0),.dat (vnil),.dat (vint 0)])]) (s1.L,s1.at_) H ⟨Z,Z,Z,U⟩ ⟨Z,Z,U⟩ (fun _ _=>Z) ?_ ?_))))))
 ·rintro ⟨c2,c3⟩ H
  replace H:y1c c2 c3=some r:=H
  unfold y1c at H
  refine zb hN Z (za (zy Z Z) (zf (zg _ Z (fun h=>(lt_t h).elim) (fun h => ?_))))
  refine yt (zb hN Z (za (Zd (u':=vagg (we (zu.mk 0 [71,69,84] [97,46,98] [47,120] [] [] [] []))) (Ye (by exact ⟨yn,yn,yn,yn,yn,yn,ur,yn,U⟩)) (vc [(1,[vstr [71,69,84]]),(2,[vstr [97,46,98]]),(3,[vstr [47,120]])] jy z11 Z ⟨Z,.inl ⟨_,Z,Z,Z⟩,Z,Z,.inl ⟨_,Z,Z,Z⟩,Z,Z,.inl ⟨_,Z,Z,Z⟩,Z,U⟩)) ?_))
  refine za (Zd (u':=vagg (ku (ym.mk 200 [] []))) (Ye (by exact ⟨yn,ur,yn,U⟩)) (vc [(0,[vint 200])] z5a y16 Z ⟨Z,.inl ⟨_,Z,Z,Z⟩,Z,U⟩)) ?_
  refine za (Zd (u':=vagg (uc (qo.mk (zu.mk 0 [71,69,84] [97,46,98] [47,120] [] [] [] []) (ym.mk 200 [] []) 0 [] 0))) (Ye (by exact ⟨yn,yn,yn,yn,yn,yn,yn,yn,yn,yn,yn,yn,ur,yn,U⟩)) (vc [(0,we (zu.mk 0 [71,69,84] [97,46,98] [47,120] [] [] [] [])),(8,ku (ym.mk 200 [] []))] Qo y6u Z ⟨Z,.inr Z,Z,Z,.inr Z,Z,U⟩)) ?_
  refine zk (qw jn Z Z Z Z) Z (zi ?_)
  cases H
  exact ⟨U,⟨.inl ⟨_,_,_,uc (qo.mk (zu.mk 0 [71,69,84] [97,46,98] [47,120] [] [] [] []) (ym.mk 200 [] []) 0 [] 0),Z,Z,Z,Z,jn⟩,U⟩,Z⟩
 ·rintro k4 ⟨c2,c3⟩ q5 h7 H hq5
  replace H:y1b k4 c2 c3=some q5:=H
  unfold y1b at H
  refine zb hN Z (za (zy Z Z) (zf (zg _ Z (fun h => ?_) (fun h=>(lt_f h7 h).elim))))
  refine zl (zf (zx (zb hN Z (za (zd (.ptr _ _) Z) (bE H fun r8 h9 H=>zk (yi (w1l (zn.mk c2 c3) r8 h9) Z U Z) Z (zk (wd 2 Qo Z) Z (zk (qw jn Z Z Z Z) Z (zb hN Z (zr (qh jn Z Z Z) Z (bE H fun r10 h11 H=>za (zm (w1g r8.1 r10 h11) ⟨.inl Z,U⟩) (za (yu Z Z) (zg _ Z (fun h12 => ?_) (fun h12 => ?_)))))))))))))
  ·refine tE h12 H fun H=>zb hN Z (zr (qh jn Z Z Z) Z (zk (qw jn Z Z Z Z) Z (zi ?_)))
   replace H:=retl H hq5
   cases H
   exact ⟨U,⟨.inl ⟨_,_,_,uc r8.1,Z,Z,Z,Z,jn⟩,U⟩,Z⟩
  ·exact fE h12 H fun H=>zl (zp hN Z (za (qj Z Z (by omega)) (qd Z ⟨_,yx H,⟨Z,Z,Z,U⟩,⟨Z,Z,U⟩⟩)))
theorem w0y (l1:(List Bs)) (r:(Int)) (H:z94 l1=some r):Fn Tryz.prog 35 [vlst (List.map zq l1)] (zt [vint r]):=by
 refine ⟨by kernel_rfl,yf (us:=[vint r]) Tryz.func35 Z Z Z Z fun X hN => ?_⟩
 unfold z94 at H
 refine zb hN Z (qe Z (zf (zb hN Z (qd Z (za (qf wm Z) (qd Z (zx (gE H fun h4 H=>qy (fun (k2:Nat) (s:Unit)=>[(0,.dat (vlst (List.map zq l1))),(5,.dat (vlst (List.map zq l1))),(6,.dat (vint (l1.length:Int))),(7,.dat (vint (k2:Int)))]) (fun (k2:Nat) (s:Unit)=>[]) () H ⟨Z,Z,Z,Z,U⟩ U (fun _ _=>Z) ?_ ?_))))))))
 ·rintro ⟨⟩ H
  replace H:y0f=some r:=H
  unfold y0f at H
  refine zb hN Z (za (zy Z Z) (zf (zg _ Z (fun h=>(lt_t h).elim) (fun h => ?_))))
  refine yt (zb hN Z (qe Z (zi ?_)))
  cases H
  exact ⟨U,.inl Z,U⟩
 ·rintro k2 x5 ⟨⟩ q3 h6 h7 H hq3
  replace H:z3n l1 k2 x5=some q3:=H
  unfold z3n at H
  refine zb hN Z (za (zy Z Z) (zf (zg _ Z (fun h => ?_) (fun h=>(lt_f h6 h).elim))))
  refine zl (zf (zx (zb hN Z (qd Z (za (wi vm (fun _=>Z) Z Z h7) (za (qz tyS9 Z (qg h7) Z) (qe Z (qe Z (zf (zb hN Z (qd Z (bE H fun r8 h9 H=>za (zm (x0m x5 r8 h9) ⟨.inl Z,U⟩) (za (yr Z) (zg _ Z (fun h10 => ?_) (fun h10 => ?_)))))))))))))))
  ·refine tE h10 H fun H=>zb hN Z (qe Z (zi ?_))
   replace H:=retl H hq3
   cases H
   exact ⟨U,.inl Z,U⟩
  ·refine fE h10 H fun H=>zl (yc (ι:=Bool) (fun i=>[(0,.dat (vlst (List.map zq l1))),(5,.dat (vlst (List.map zq l1))),(6,.dat (vint (l1.length:Int))),(7,.dat (vint (k2:Int))),(25,.dat (zh i))]) (fun i=>[]) (fun i=>z3o i=some q3) (fun i=>Z) ?_ ?_)
   ·skip
    refine zp hN Z (qd Z (za (wa Z Z) (qd Z (yg (j:=2) Z Z (fun h11 => ?_) (fun h11 => ?_) Z))))
    ·exact u1 h11 H fun h12 H=>ze Z Z h11 (zd (.dat _) Z) (ze Z Z h11 (zd (.dat _) Z) (ze Z Z h11 (zd (.dat _) Z) (ze Z Z h11 (y2k Z Z (by omega)) (bE H fun x13 h14 H=>ze Z Z h11 (kw vm (fun _=>Z) Z Z h14) (ze Z Z h11 (qz tyS9 Z (qg (wo h14).2) Z) (ze Z Z h11 (y2m Z Z) (za (zz Z (bTT h12) Z) ⟨(Op.bytesLess x5 x13 || x5 == x13),H,⟨Z,Z,Z,Z,Z,U⟩,U⟩)))))))
    ·exact u2 h11 H fun h15 H=>zc Z Z h11 (zc Z Z h11 (zc Z Z h11 (zc Z Z h11 (zc Z Z h11 (zc Z Z h11 (zc Z Z h11 (za (zv Z (bFF h15) Z) ⟨false,H,⟨Z,Z,Z,Z,Z,U⟩,U⟩)))))))
   ·rintro v16 H
    replace H:z3o v16=some q3:=H
    unfold z3o at H
    refine zg _ Z (fun h17 => ?_) (fun h17 => ?_)
    ·refine tE h17 H fun H=>zb hN Z (qe Z (zi ?_))
     replace H:=retl H hq3
     cases H
     exact ⟨U,.inl Z,U⟩
    ·exact fE h17 H fun H=>zl (zp hN Z (za (qj Z Z (by omega)) (qd Z ⟨_,yx H,⟨Z,Z,Z,Z,U⟩,U⟩)))
theorem x0t (e1:qo) (r:(Int)) (H:z0m e1=some r):Fn Tryz.prog 8 [vagg (uc e1)] (zt [vint r]):=by
 refine ⟨by kernel_rfl,yf (us:=[vint r]) Tryz.func8 Z Z Z Z fun X hN => ?_⟩
 unfold z0m at H
 refine zb hN Z (zk (wy 1 Z) Z (qe Z (zf (zb hN Z (za (zw z14 Z) (zr (qh ql Z Z Z) Z (bE H fun r2 h3 H=>za (zm (y4m e1.Request r2 h3) ⟨.inl Z,U⟩) (qe Z (zb hN Z (qd Z (za (qp Z Z) (zg _ Z (fun h4 => ?_) (fun h4 => ?_)))))))))))))
 ·refine tE h4 H fun H=>zb hN Z (qd Z (qe Z (zi ?_)))
  cases H
  exact ⟨U,.inl Z,U⟩
 ·refine fE h4 H fun H=>zl (zf (zb hN Z (za (zw z13 Z) (zr (qh jz Z Z Z) Z (bE H fun r5 h6 H=>za (zm (y4l e1.Response r5 h6) ⟨.inl Z,U⟩) (qe Z (zb hN Z (qd Z (za (qp Z Z) (zg _ Z (fun h7 => ?_) (fun h7 => ?_)))))))))))
  ·refine tE h7 H fun H=>zb hN Z (qd Z (qe Z (zi ?_)))
   cases H
   exact ⟨U,.inl Z,U⟩
  ·refine fE h7 H fun H=>zl (zf (yc (ι:=Bool) (fun i=>[(1,.ptr 1 0),(30,.dat (zh i))]) (fun i=>[(1,.box none 38 [.dat (vint e1.Request.At),.dat (vstr e1.Request.Method),.dat (vstr e1.Request.Host),.dat (vstr e1.Request.Path),.dat (vstr e1.Request.Query),.dat (vstr e1.Request.From),.dat (vlst (List.map yh e1.Request.Headers)),.dat (vstr e1.Request.Body),.dat (vint e1.Response.Status),.dat (vlst (List.map yh e1.Response.Headers)),.dat (vstr e1.Response.Body),.dat (vint e1.At),.dat (vlst (List.map zq e1.Tags)),.dat (vint e1.Used)])]) (fun i=>z1q e1 i=some r) (fun i=>Z) ?_ ?_))
   ·skip
    refine zp hN Z (za (zw z8t Z) (zr (ye tyS3 Z Z) Z (bE H fun r8 h9 H=>za (zm (y4n e1.At r8 h9) ⟨.inl Z,U⟩) (za (yr Z) (qd Z (yg (j:=4) Z Z (fun h10 => ?_) (fun h10 => ?_) Z))))))
    ·exact u3 h10 H fun h11 H=>ze Z Z h10 (zw z8s Z) (ju Z Z h10 (ye tyS3 Z Z) Z (bE H fun r12 h13 H=>ze Z Z h10 (zm (y4n e1.Used r12 h13) ⟨.inl Z,U⟩) (ze Z Z h10 (yr Z) (za (zv Z (bFF h11) Z) ⟨!r12,H,⟨Z,Z,U⟩,⟨Z,U⟩⟩))))
    ·exact u4 h10 H fun h14 H=>zc Z Z h10 (zc Z Z h10 (zc Z Z h10 (zc Z Z h10 (za (zz Z (bTT h14) Z) ⟨true,H,⟨Z,Z,U⟩,⟨Z,U⟩⟩))))
   ·rintro v15 H
    replace H:z1q e1 v15=some r:=H
    unfold z1q at H
    refine zg _ Z (fun h16 => ?_) (fun h16 => ?_)
    ·refine tE h16 H fun H=>zb hN Z (qe Z (zi ?_))
     cases H
     exact ⟨U,.inl Z,U⟩
    ·refine fE h16 H fun H=>zl (zf (zb hN Z (za (zw Qq Z) (zr (ye Zc Z Z) Z (za (qf wm Z) (za (wa Z Z) (zg _ Z (fun h17 => ?_) (fun h17 => ?_))))))))
     ·refine tE h17 H fun H=>zb hN Z (qe Z (zi ?_))
      cases H
      exact ⟨U,.inl Z,U⟩
     ·refine fE h17 H fun H=>zl (zf (zb hN Z (za (zw Qq Z) (zr (ye Zc Z Z) Z (bE H fun r18 h19 H=>za (zm (w0y e1.Tags r18 h19) ⟨.inl Z,U⟩) (qe Z (zb hN Z (qd Z (za (qp Z Z) (zg _ Z (fun h20 => ?_) (fun h20 => ?_)))))))))))
      ·refine tE h20 H fun H=>zb hN Z (qd Z (qe Z (zi ?_)))
       cases H
       exact ⟨U,.inl Z,U⟩
      ·refine fE h20 H fun H=>zl (zb hN Z (za (zw z13 Z) (zr (qh jz Z Z Z) Z (bE H fun r21 h22 H=>za (zm (y0l e1.Response r21 h22) ⟨.inl Z,U⟩) (qd Z (za (yd Z Z) (za (yd Z Z) (za (yd Z Z) (qe Z (qe Z (qe Z (zb hN Z (qd Z (qe Z (zi ?_)))))))))))))))
       cases H
       exact ⟨U,.inl Z,U⟩
theorem w1v (e1:qo) (r2:zu) (r:(Int)) (H:z63 e1 r2=some r):Fn Tryz.prog 37 [vagg (uc e1),vagg (we r2)] (zt [vint r]):=by
 refine ⟨by kernel_rfl,yf (us:=[vint r]) Tryz.func37 Z Z Z Z fun X hN => ?_⟩
 unfold z63 at H
 refine zb hN Z (zk (wy 1 Z) Z (zk (wy 2 Z) Z (qe Z (zf (zb hN Z (zr (qh jn Z Z Z) Z (bE H fun r3 h4 H=>za (zm (x0t e1 r3 h4) ⟨.inl Z,U⟩) (qe Z (zb hN Z (qd Z (za (qp Z Z) (zg _ Z (fun h5 => ?_) (fun h5 => ?_)))))))))))))
 ·refine tE h5 H fun H=>zb hN Z (qd Z (qe Z (zi ?_)))
  cases H
  exact ⟨U,.inl Z,U⟩
 ·refine fE h5 H fun H=>zl (zb hN Z (zr (qh ql Z Z Z) Z (bE H fun r6 h7 H=>za (zm (y4m r2 r6 h7) ⟨.inl Z,U⟩) (qe Z (zi ?_)))))
  cases H
  exact ⟨U,.inl Z,U⟩
theorem w1w (a1:zu) (b2:zu) (r:(zu×zu×Int)) (H:z65 a1 b2=some r):Fn Tryz.prog 38 [vagg (we a1),vagg (we b2)] (zt [vagg (we r.1),vagg (we r.2.1),vint r.2.2]):=by
 refine ⟨by kernel_rfl,yf (us:=[vagg (we r.1),vagg (we r.2.1),vint r.2.2]) Tryz.func38 Z Z Z Z fun X hN => ?_⟩
 unfold z65 at H
 refine zb hN Z (zk (wy 1 Z) Z (zk (wy 2 Z) Z (zk (wd 3 jy Z) Z (zk (wd 4 jy Z) Z (qe Z (zb hN Z (zr (qh ql Z Z Z) Z (bE H fun r3 h4 H=>za (zm (y4k a1 r3 h4) ⟨.inl Z,U⟩) (qd Z (za (yd Z Z) (za (yd Z Z) (zk (qw ql Z Z Z Z) Z (qe Z (y1n 4 6 (.dat (vlst [])) Z Z (fun g w M v h=>ur w M v h) (yc (ι:=Int×Int×Bs×Bs×Bs×Bs×Bs×(List zo)×Bs) (fun i=>[(4,.ptr 3 0),(5,.ptr 4 0),(6,.dat (vint i.1))]) (fun i=>[(3,.box none 28 [.dat (vint r3.1.At),.dat (vstr r3.1.Method),.dat (vstr r3.1.Host),.dat (vstr r3.1.Path),.dat (vstr r3.1.Query),.dat (vstr r3.1.From),.dat (vlst (List.map yh r3.1.Headers)),.dat (vstr r3.1.Body)]),(4,.box none 28 [.dat (vint i.2.1),.dat (vstr i.2.2.1),.dat (vstr i.2.2.2.1),.dat (vstr i.2.2.2.2.1),.dat (vstr i.2.2.2.2.2.1),.dat (vstr i.2.2.2.2.2.2.1),.dat (vlst (List.map yh i.2.2.2.2.2.2.2.1)),.dat (vstr i.2.2.2.2.2.2.2.2)])]) (fun i=>z4x r3 i.1 i.2.1 i.2.2.1 i.2.2.2.1 i.2.2.2.2.1 i.2.2.2.2.2.1 i.2.2.2.2.2.2.1 i.2.2.2.2.2.2.2.1 i.2.2.2.2.2.2.2.2=some r) (fun i=>Z) ?_ ?_)))))))))))))))
 ·skip
  refine zb hN Z (qd Z (za (yu Z Z) (zg _ Z (fun h5 => ?_) (fun h5 => ?_))))
  ·exact tE h5 H fun H=>zp hN Z (zr (qh ql Z Z Z) Z (bE H fun r6 h7 H=>za (zm (y4k b2 r6 h7) ⟨.inl Z,U⟩) (qd Z (za (yd Z Z) (za (yd Z Z) (zk (qw ql Z Z Z Z) Z (qe Z ⟨(r6.2,r6.1.At,r6.1.Method,r6.1.Host,r6.1.Path,r6.1.Query,r6.1.From,r6.1.Headers,r6.1.Body),H,⟨Z,Z,Z,U⟩,⟨Z,Z,U⟩⟩)))))))
  ·exact fE h5 H fun H=>zl ⟨(r3.2,0,[],[],[],[],[],([]:(List zo)),[]),H,⟨Z,Z,Z,U⟩,⟨Z,Z,U⟩⟩
 ·rintro ⟨e8,c9,c10,c11,c12,c13,c14,c15,c16⟩ H
  replace H:z4x r3 e8 c9 c10 c11 c12 c13 c14 c15 c16=some r:=H
  unfold z4x at H
  refine zf (vi mixed hN Z Z (zr (qh ql Z Z Z) Z (zr (qh ql Z Z Z) Z (qd Z (zk (qw ql Z Z Z Z) Z (zk (qw ql Z Z Z Z) Z (qe Z ⟨Z,?_⟩)))))))
  refine zi ?_
  cases H
  exact ⟨U,.inl ⟨_,_,_,we r3.1,Z,Z,Z,Z,ql⟩,.inl ⟨_,_,_,we (zu.mk c9 c10 c11 c12 c13 c14 c15 c16),Z,Z,Z,Z,ql⟩,.inl Z,U⟩
end Go.Proofs.YtbndlmnjeofkdaaGreatDoor
