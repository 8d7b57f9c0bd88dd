/- Walks along the models. Printed by a program. -/
import Derived.Test.YtkldmhhbbceaoaaGreatDoorZqw4
namespace Go.Proofs.YtkldmhhbbceaoaaGreatDoor
open Go.RowKit
set_option linter.unusedVariables false
set_option maxRecDepth 100000
set_option maxHeartbeats 2000000
theorem x0q (v1:yv) (v2:ya) (r:(Bool×Int)) (H:z3h v1 v2=some r):Fn Tryz.prog 41 [vagg (jk v1),vagg (wt v2)] (zu [ze r.1,vint r.2]):=by
 refine ⟨by kernel_rfl,yj (us:=[ze r.1,vint r.2]) Tryz.func41 Z Z Z Z fun X hN => ?_⟩
 unfold z3h at H
 refine zb hN Z (zj (wu 1 Z) Z (zj (wu 2 Z) Z (qe Z (qe Z (zb hN Z (za (zz jc Z) (zt (yh qv Z Z) Z (bE H fun r3 h4 H=>za (zl (z9f v1.Headers r3 h4) ⟨.inl Z,U⟩) (qd Z (za (yc Z Z) (za (yc Z Z) (zj (wc 3 ja Z) Z (zj (qq wh Z Z Z Z) Z (qe Z (zi (zb hN Z (qd Z (za (qo Z Z) (zg _ Z (fun h5 => ?_) (fun h5 => ?_))))))))))))))))))))
 ·refine tE h5 H fun H=>zb hN Z (qd Z (qe Z (qe Z (zk ?_))))
  cases H
  exact ⟨U,.inl Z,.inl Z,U⟩
 ·refine fE h5 H fun H=>zn (zb hN Z (za (zz jb Z) (zt (yh qv Z Z) Z (bE H fun r6 h7 H=>za (zl (z9f v2.Headers r6 h7) ⟨.inl Z,U⟩) (qd Z (za (yc Z Z) (za (yc Z Z) (zj (wc 4 ja Z) Z (zj (qq wh Z Z Z Z) Z (qe Z (zi (zb hN Z (qd Z (za (qo Z Z) (zg _ Z (fun h8 => ?_) (fun h8 => ?_))))))))))))))))
  ·refine tE h8 H fun H=>zb hN Z (qd Z (qe Z (qe Z (zk ?_))))
   cases H
   exact ⟨U,.inl Z,.inl Z,U⟩
  ·refine fE h8 H fun H=>zn (zb hN Z (zt (qi qp Z Z Z) Z (bE H fun r9 h10 H=>za (zl (z9e v2 r9 h10) ⟨.inl Z,U⟩) (qd Z (za (yc Z Z) (za (yc Z Z) (za (yc Z Z) (qe Z (qe Z (qe Z (zi (zb hN Z (qd Z (za (qo Z Z) (zg _ Z (fun h11 => ?_) (fun h11 => ?_))))))))))))))))
   ·refine tE h11 H fun H=>zb hN Z (qd Z (qe Z (qe Z (zk ?_))))
    cases H
    exact ⟨U,.inl Z,.inl Z,U⟩
   ·refine fE h11 H fun H=>zn (zb hN Z (za (zz jc Z) (zt (yh qv Z Z) Z (bE H fun r12 h13 H=>za (zl (y3r v1.Headers [97,117,116,104,111,114,105,122,97,116,105,111,110] r12 h13) ⟨.inl Z,.inl Z,U⟩) (qd Z (yt Z Z (fun hc=>zz z4s Z) (Zr Z Z (fun hc=>yh tyS4 (cnd (c:=r12) hc) Z) Z uf (yt Z Z (fun hc=>yp (cnd (c:=r12) hc)) (za (qw Z (fun hb=>(cnd (c:=r12) hb)) Z) (qd Z (yt Z Z (fun hc=>zz z4r Z) (Zr Z Z (fun hc=>yh tyS4 (cnd (c:=(r12 && (!r6.1.Public))) hc) Z) Z uf (yt Z Z (fun hc=>yp (cnd (c:=(r12 && (!r6.1.Public))) hc)) (za (qw Z (fun hb=>(cnd (c:=(r12 && (!r6.1.Public))) hb)) Z) (qd Z (yt Z Z (fun hc=>zz xo Z) (Zr Z Z (fun hc=>yh tyS3 (cnd (c:=((r12 && (!r6.1.Public)) && (!r6.1.Must))) hc) Z) Z uf (yt Z Z (fun hc=>yo (cnd (c:=((r12 && (!r6.1.Public)) && (!r6.1.Must))) hc) Z) (za (qw Z (fun hb=>(cnd (c:=((r12 && (!r6.1.Public)) && (!r6.1.Must))) hb)) Z) (qe Z (yd (ι:=Bool) (fun i=>[(4,.dat (ze i)),(5,.dat (vint 0))]) (fun i=>[]) (fun i=>vd i=some r) (fun i=>Z) ?_ ?_)))))))))))))))))))))
    ·skip
     refine zp hN Z (za (zz Wj Z) (zt (yh tyS9 Z Z) Z (bE H fun r14 h15 H=>za (zl (x0s v1.Method r14 h15) ⟨.inl Z,U⟩) (qd Z (yf (j:=3) Z Z (fun h16 => ?_) (fun h16 => ?_) Z)))))
     ·refine u1 h16 H fun h17 H=>zf Z Z h16 (zz Wi Z) (je Z Z h16 (yh tyS3 Z Z) Z (bE H fun r18 h19 H=>zf Z Z h16 (zl (x0t v2.Status r18 h19) ⟨.inl Z,U⟩) (za (zy Z (bTT h17) Z) (qd Z (yf (j:=8) Z Z (fun h20 => ?_) (fun h20 => ?_) Z)))))
      ·refine u1 h20 H fun h21 H=>zf Z Z h20 (zz Wh Z) (je Z Z h20 (yh tyS4 Z Z) Z (zf Z Z h20 (yp Z) (za (zy Z (bTT h21) Z) (qd Z (yf (j:=13) Z Z (fun h22 => ?_) (fun h22 => ?_) Z)))))
       ·refine u1 h22 H fun h23 H=>zf Z Z h22 (zz Wh Z) (je Z Z h22 (yh tyS4 Z Z) Z (zf Z Z h22 (yp Z) (za (zy Z (bTT h23) Z) (qd Z (yf (j:=18) Z Z (fun h24 => ?_) (fun h24 => ?_) Z)))))
        ·refine u1 h24 H fun h25 H=>zf Z Z h24 (zz z4t Z) (je Z Z h24 (yh tyS4 Z Z) Z (zf Z Z h24 (yp Z) (za (zy Z (bTT h25) Z) (qd Z (yf (j:=23) Z Z (fun h26 => ?_) (fun h26 => ?_) Z)))))
         ·refine u1 h26 H fun h27 H=>zf Z Z h26 (zd (.dat _) Z) (zf Z Z h26 (yp Z) (za (zy Z (bTT h27) Z) (qd Z (yf (j:=27) Z Z (fun h28 => ?_) (fun h28 => ?_) Z))))
          ·refine u1 h28 H fun h29 H=>zf Z Z h28 (zd (.dat _) Z) (zf Z Z h28 (yp Z) (za (zy Z (bTT h29) Z) (qd Z (yf (j:=31) Z Z (fun h30 => ?_) (fun h30 => ?_) Z))))
           ·refine u1 h30 H fun h31 H=>je Z Z h30 (qi wh Z Z Z) Z (bE H fun r32 h33 H=>zf Z Z h30 (zl (y3q r6.1 r32 h33) ⟨.inl Z,U⟩) (zf Z Z h30 (qs Z Z) (zf Z Z h30 (zd (.dat _) Z) (yf (j:=35) Z Z (fun h34 => ?_) (fun h34 => ?_) Z))))
            ·exact u3 h34 H fun h35 H=>zf Z Z h34 (zz jb Z) (je Z Z h34 (yh qv Z Z) Z (bE H fun r36 h37 H=>zf Z Z h34 (zl (y3r v2.Headers [101,116,97,103] r36 h37) ⟨.inl Z,.inl Z,U⟩) (zf Z Z h30 (zq Z (bFF h35) Z) (za (zy Z (bTT h31) Z) (qe Z (qe Z ⟨r36,H,⟨Z,Z,U⟩,U⟩))))))
            ·exact u4 h34 H fun h38 H=>zc Z Z h34 (zc Z Z h34 (zc Z Z h34 (zf Z Z h30 (zy Z (bTT h38) Z) (za (zy Z (bTT h31) Z) (qe Z (qe Z ⟨true,H,⟨Z,Z,U⟩,U⟩))))))
           ·exact u2 h30 H fun h39 H=>zc Z Z h30 (zc Z Z h30 (zc Z Z h30 (zc Z Z h30 (yi Z Z (yi Z Z (yi Z Z (zc Z Z h30 (za (zq Z (bFF h39) Z) (qe Z (qe Z ⟨false,H,⟨Z,Z,U⟩,U⟩))))))))))
          ·exact u2 h28 H fun h40 H=>zc Z Z h28 (zc Z Z h28 (za (zq Z (bFF h40) Z) (qd Z (zc Z Z Z (zc Z Z Z (zc Z Z Z (zc Z Z Z (yi Z Z (yi Z Z (yi Z Z (zc Z Z Z (za (zq Z Z Z) (qe Z (qe Z ⟨false,H,⟨Z,Z,U⟩,U⟩))))))))))))))
         ·exact u2 h26 H fun h41 H=>zc Z Z h26 (zc Z Z h26 (za (zq Z (bFF h41) Z) (qd Z (zc Z Z Z (zc Z Z Z (za (zq Z Z Z) (qd Z (zc Z Z Z (zc Z Z Z (zc Z Z Z (zc Z Z Z (yi Z Z (yi Z Z (yi Z Z (zc Z Z Z (za (zq Z Z Z) (qe Z (qe Z ⟨false,H,⟨Z,Z,U⟩,U⟩))))))))))))))))))
        ·refine u2 h24 H fun h42 H=>zc Z Z h24 (zc Z Z h24 (zc Z Z h24 (za (zq Z (bFF h42) Z) (qd Z (zc Z Z Z (zc Z Z Z (za (zq Z Z Z) (qd Z (zc Z Z Z (zc Z Z Z (za (zq Z Z Z) (qd Z (zc Z Z Z (zc Z Z Z (zc Z Z Z (zc Z Z Z (yi Z Z (yi Z Z (yi Z Z (zc Z Z Z (za (zq Z Z Z) (qe Z ?_))))))))))))))))))))))
         exact qe Z ⟨false,H,⟨Z,Z,U⟩,U⟩
       ·refine u2 h22 H fun h43 H=>zc Z Z h22 (zc Z Z h22 (zc Z Z h22 (za (zq Z (bFF h43) Z) (qd Z (zc Z Z Z (zc Z Z Z (zc Z Z Z (za (zq Z Z Z) (qd Z (zc Z Z Z (zc Z Z Z (za (zq Z Z Z) (qd Z (zc Z Z Z (zc Z Z Z (za (zq Z Z Z) (qd Z (zc Z Z Z (zc Z Z Z (zc Z Z Z (zc Z Z Z (yi Z Z ?_))))))))))))))))))))))
        exact yi Z Z (yi Z Z (zc Z Z Z (za (zq Z Z Z) (qe Z (qe Z ⟨false,H,⟨Z,Z,U⟩,U⟩)))))
      ·refine u2 h20 H fun h44 H=>zc Z Z h20 (zc Z Z h20 (zc Z Z h20 (za (zq Z (bFF h44) Z) (qd Z (zc Z Z Z (zc Z Z Z (zc Z Z Z (za (zq Z Z Z) (qd Z (zc Z Z Z (zc Z Z Z (zc Z Z Z (za (zq Z Z Z) (qd Z (zc Z Z Z (zc Z Z Z (za (zq Z Z Z) (qd Z (zc Z Z Z (zc Z Z Z (za (zq Z Z Z) (qd Z ?_))))))))))))))))))))))
       exact zc Z Z Z (zc Z Z Z (zc Z Z Z (zc Z Z Z (yi Z Z (yi Z Z (yi Z Z (zc Z Z Z (za (zq Z Z Z) (qe Z (qe Z ⟨false,H,⟨Z,Z,U⟩,U⟩))))))))))
     ·refine u2 h16 H fun h45 H=>zc Z Z h16 (zc Z Z h16 (zc Z Z h16 (za (zq Z (bFF h45) Z) (qd Z (zc Z Z Z (zc Z Z Z (zc Z Z Z (za (zq Z Z Z) (qd Z (zc Z Z Z (zc Z Z Z (zc Z Z Z (za (zq Z Z Z) (qd Z (zc Z Z Z (zc Z Z Z (zc Z Z Z (za (zq Z Z Z) (qd Z (zc Z Z Z (zc Z Z Z (za (zq Z Z Z) ?_))))))))))))))))))))))
      exact qd Z (zc Z Z Z (zc Z Z Z (za (zq Z Z Z) (qd Z (zc Z Z Z (zc Z Z Z (zc Z Z Z (zc Z Z Z (yi Z Z (yi Z Z (yi Z Z (zc Z Z Z (za (zq Z Z Z) (qe Z (qe Z ⟨false,H,⟨Z,Z,U⟩,U⟩)))))))))))))))
    ·rintro v46 H
     replace H:vd v46=some r:=H
     unfold vd at H
     refine zk ?_
     cases H
     exact ⟨U,.inl Z,.inl Z,U⟩
theorem x0x (r1:yv) (a2:ya) (r:(Bool×Int)) (H:z0z r1 a2=some r):Fn Tryz.prog 9 [vagg (jk r1),vagg (wt a2)] (zu [ze r.1,vint r.2]):=by
 refine ⟨by kernel_rfl,yj (us:=[ze r.1,vint r.2]) Tryz.func9 Z Z Z Z fun X hN => ?_⟩
 unfold z0z at H
 refine zb hN Z (zj (wu 1 Z) Z (zj (wu 2 Z) Z (qe Z (qe Z (zi (zb hN Z (zt (qi vg Z Z Z) Z (bE H fun r3 h4 H=>za (zl (y9n r1 r3 h4) ⟨.inl Z,U⟩) (qe Z (zb hN Z (qd Z (za (qo Z Z) (zg _ Z (fun h5 => ?_) (fun h5 => ?_))))))))))))))
 ·refine tE h5 H fun H=>zb hN Z (qd Z (qe Z (qe Z (zk ?_))))
  cases H
  exact ⟨U,.inl Z,.inl Z,U⟩
 ·refine fE h5 H fun H=>zn (zi (zb hN Z (zt (qi qp Z Z Z) Z (bE H fun r6 h7 H=>za (zl (z6r a2 r6 h7) ⟨.inl Z,U⟩) (qe Z (zb hN Z (qd Z (za (qo Z Z) (zg _ Z (fun h8 => ?_) (fun h8 => ?_))))))))))
  ·refine tE h8 H fun H=>zb hN Z (qd Z (qe Z (qe Z (zk ?_))))
   cases H
   exact ⟨U,.inl Z,.inl Z,U⟩
  ·refine fE h8 H fun H=>zn (zb hN Z (zt (qi vg Z Z Z) Z (zt (qi qp Z Z Z) Z (bE H fun r9 h10 H=>za (zl (x0q r1 a2 r9 h10) ⟨.inl Z,.inl Z,U⟩) (za (yc Z Z) (za (yc Z Z) (qe Z (qe Z (zk ?_)))))))))
   cases H
   exact ⟨U,.inl Z,.inl Z,U⟩
theorem y3s (a1:ya) (r:(Int×Int)) (H:xf a1=some r):Fn Tryz.prog 10 [vagg (wt a1)] (zu [vint r.1,vint r.2]):=by
 refine ⟨by kernel_rfl,yj (us:=[vint r.1,vint r.2]) Tryz.func10 Z Z Z Z fun X hN => ?_⟩
 unfold xf at H
 refine zb hN Z (zj (wu 1 Z) Z (qe Z (qe Z (zi (zb hN Z (zt (qi qp Z Z Z) Z (bE H fun r2 h3 H=>za (zl (z6r a1 r2 h3) ⟨.inl Z,U⟩) (qe Z (zb hN Z (qd Z (za (qo Z Z) (zg _ Z (fun h4 => ?_) (fun h4 => ?_)))))))))))))
 ·refine tE h4 H fun H=>zb hN Z (qd Z (qe Z (qe Z (zk ?_))))
  cases H
  exact ⟨U,.inl Z,.inl Z,U⟩
 ·refine fE h4 H fun H=>zn (zb hN Z (za (zz jb Z) (zt (yh qv Z Z) Z (bE H fun r5 h6 H=>za (zl (z9f a1.Headers r5 h6) ⟨.inl Z,U⟩) (qd Z (za (yc Z Z) (za (yc Z Z) (zj (wc 2 ja Z) Z (zj (qq wh Z Z Z Z) Z (qe Z (zi (zb hN Z (qd Z (za (qo Z Z) (zg _ Z (fun h7 => ?_) (fun h7 => ?_))))))))))))))))
  ·refine tE h7 H fun H=>zb hN Z (qd Z (qe Z (qe Z (zk ?_))))
   cases H
   exact ⟨U,.inl Z,.inl Z,U⟩
  ·refine fE h7 H fun H=>zn (zi (zb hN Z (zt (qi qp Z Z Z) Z (bE H fun r8 h9 H=>za (zl (z9e a1 r8 h9) ⟨.inl Z,U⟩) (qd Z (za (yc Z Z) (za (yc Z Z) (za (yc Z Z) (qe Z (qe Z (qe Z (zb hN Z (qd Z (za (qo Z Z) (zg _ Z (fun h10 => ?_) (fun h10 => ?_))))))))))))))))
   ·refine tE h10 H fun H=>zb hN Z (qd Z (qe Z (qe Z (zk ?_))))
    cases H
    exact ⟨U,.inl Z,.inl Z,U⟩
   ·refine fE h10 H fun H=>zn (zb hN Z (zt (qi wh Z Z Z) Z (bE H fun r11 h12 H=>za (zl (y3q r5.1 r11 h12) ⟨.inl Z,U⟩) (qe Z (qe Z (zk ?_))))))
    cases H
    exact ⟨U,.inl Z,.inl Z,U⟩
theorem x0v (a1:ya) (r:((List Bs)×Bool×Int)) (H:Yi a1=some r):Fn Tryz.prog 11 [vagg (wt a1)] (zu [vlst (List.map zo r.1),ze r.2.1,vint r.2.2]):=by
 refine ⟨by kernel_rfl,yj (us:=[vlst (List.map zo r.1),ze r.2.1,vint r.2.2]) Tryz.func11 Z Z Z Z fun X hN => ?_⟩
 unfold Yi at H
 refine zb hN Z (zj (wu 1 Z) Z (qe Z (qe Z (qe Z (zi (zb hN Z (zt (qi qp Z Z Z) Z (bE H fun r2 h3 H=>za (zl (z6r a1 r2 h3) ⟨.inl Z,U⟩) (qe Z (zb hN Z (qd Z (za (qo Z Z) (zg _ Z (fun h4 => ?_) (fun h4 => ?_))))))))))))))
 ·refine tE h4 H fun H=>zb hN Z (qd Z (qe Z (qe Z (qe Z (zk ?_)))))
  cases H
  exact ⟨U,.inr ⟨Z,Z⟩,.inl Z,.inl Z,U⟩
 ·refine fE h4 H fun H=>zn (zb hN Z (zt (qi qp Z Z Z) Z (bE H fun r5 h6 H=>za (zl (z9e a1 r5 h6) ⟨.inl Z,U⟩) (za (yc Z Z) (za (yc Z Z) (za (yc Z Z) (qe Z (qe Z (qe Z (zk ?_))))))))))
  cases H
  exact ⟨U,.inl Z,.inl Z,.inl Z,U⟩
theorem y9q (s1:Bs) (r:(Bool)) (H:z0j s1=some r):Fn Tryz.prog 96 [vstr s1] (zu [ze r]):=by
 refine ⟨by kernel_rfl,yj (us:=[ze r]) Tryz.func96 Z Z Z Z fun X hN => ?_⟩
 unfold z0j at H
 refine zb hN Z (qe Z (zi (zb hN Z (qe Z (ye (gE H fun h4 H=>qu (fun (i2:Nat) (s:Unit)=>[(0,.dat (vstr s1)),(3,.dat (vint (i2:Int)))]) (fun (i2:Nat) (s:Unit)=>[]) () H ⟨Z,Z,U⟩ U (fun _ _=>Z) ?_ ?_))))))
 ·rintro ⟨⟩ H
  replace H:z85 s1=some r:=H
  unfold z85 at H
  refine zi (zb hN Z (qd Z (qd Z (za (yw tyU9 Z) (za (yb Z Z) (zg _ Z (fun h=>(lt_t h).elim) (fun h => ?_)))))))
  refine yx (zb hN Z (qd Z (za (kn Z Z) (qd Z (yt Z Z (fun hc=>zd (.dat _) Z) (yt Z Z (fun hc=>yw tyU9 (cnd (c:=(decide (s1≠[]))) hc)) (yt Z Z (fun hc=>we (cnd (c:=(decide (s1≠[]))) hc) Z) (za (qw Z (fun hb=>(cnd (c:=(decide (s1≠[]))) hb)) Z) (qe Z (zk ?_))))))))))
  cases H
  exact ⟨U,.inl Z,U⟩
 ·rintro i2 x5 ⟨⟩ q3 h6 h7 H hq3
  replace H:z6n i2 x5=some q3:=H
  unfold z6n at H
  refine zi (zb hN Z (qd Z (qd Z (za (yw tyU9 Z) (za (yb Z Z) (zg _ Z (fun h => ?_) (fun h=>(lt_f h6 h).elim)))))))
  refine zn (zi (ye (zb hN Z (qd Z (qd Z (za (qm tyU9 Z Z h7) (qe Z (zb hN Z (qd Z (za (wy Z Z) (qd Z (yt Z Z (fun hc=>zd (.dat _) Z) (yt Z Z (fun hc=>we (cnd (c:=(decide (97≤(x5.toNat:Int)))) hc) Z) (za (qw Z (fun hb=>(cnd (c:=(decide (97≤(x5.toNat:Int)))) hb)) Z) (qd Z (yy Z Z (fun hc=>zd (.dat _) Z) (yy Z Z (fun hc=>qs (cnd (c:=(!((decide (97≤(x5.toNat:Int))) && (decide ((x5.toNat:Int)≤122))))) hc) Z) (yy Z Z (fun hc=>zd (.dat _) (cnd (c:=(!((decide (97≤(x5.toNat:Int))) && (decide ((x5.toNat:Int)≤122))))) hc)) (wv Z Z (fun hc=>zd (.dat _) Z) (wv Z Z (fun hc=>wy (cnd (c:=((!((decide (97≤(x5.toNat:Int))) && (decide ((x5.toNat:Int)≤122)))) && (decide (0 < (i2:Int))))) hc) Z) (wv Z Z (fun hc=>zd (.dat _) (cnd (c:=((!((decide (97≤(x5.toNat:Int))) && (decide ((x5.toNat:Int)≤122)))) && (decide (0 < (i2:Int))))) hc)) (wv Z Z (fun hc=>zd (.dat _) Z) (wv Z Z (fun hc=>we (cnd (c:=(((!((decide (97≤(x5.toNat:Int))) && (decide ((x5.toNat:Int)≤122)))) && (decide (0 < (i2:Int)))) && (decide (48≤(x5.toNat:Int))))) hc) Z) ?_)))))))))))))))))))))))
  refine wv Z Z (fun hc=>qw (cnd (c:=((!((decide (97≤(x5.toNat:Int))) && (decide ((x5.toNat:Int)≤122)))) && (decide (0 < (i2:Int))))) hc) (fun hb=>(cnd (c:=(((!((decide (97≤(x5.toNat:Int))) && (decide ((x5.toNat:Int)≤122)))) && (decide (0 < (i2:Int)))) && (decide (48≤(x5.toNat:Int))))) (andI hc hb))) Z) (wv Z Z (fun hc=>zd (.dat _) (cnd (c:=((!((decide (97≤(x5.toNat:Int))) && (decide ((x5.toNat:Int)≤122)))) && (decide (0 < (i2:Int))))) hc)) (z5k Z Z (fun hc=>zd (.dat _) Z) (z5k Z Z (fun hc=>yo (cnd (c:=(((!((decide (97≤(x5.toNat:Int))) && (decide ((x5.toNat:Int)≤122)))) && (decide (0 < (i2:Int)))) && !((decide (48≤(x5.toNat:Int))) && (decide ((x5.toNat:Int)≤57))))) hc) Z) (wv Z Z (fun hc=>vj (cnd (c:=((!((decide (97≤(x5.toNat:Int))) && (decide ((x5.toNat:Int)≤122)))) && (decide (0 < (i2:Int))))) hc) Z (fun hb=>(cnd (c:=(((!((decide (97≤(x5.toNat:Int))) && (decide ((x5.toNat:Int)≤122)))) && (decide (0 < (i2:Int)))) && !((decide (48≤(x5.toNat:Int))) && (decide ((x5.toNat:Int)≤57))))) (andI hc (notI hb))))) (wv Z Z (fun hc=>zd (.dat _) (cnd (c:=((!((decide (97≤(x5.toNat:Int))) && (decide ((x5.toNat:Int)≤122)))) && (decide (0 < (i2:Int))))) hc)) (z5k Z Z (fun hc=>zd (.dat _) Z) (z5k Z Z (fun hc=>yo (cnd (c:=(((!((decide (97≤(x5.toNat:Int))) && (decide ((x5.toNat:Int)≤122)))) && (decide (0 < (i2:Int)))) && !(((decide (48≤(x5.toNat:Int))) && (decide ((x5.toNat:Int)≤57))) || (decide ((x5.toNat:Int)=45))))) hc) Z) (wv Z Z (fun hc=>vj (cnd (c:=((!((decide (97≤(x5.toNat:Int))) && (decide ((x5.toNat:Int)≤122)))) && (decide (0 < (i2:Int))))) hc) Z (fun hb=>(cnd (c:=(((!((decide (97≤(x5.toNat:Int))) && (decide ((x5.toNat:Int)≤122)))) && (decide (0 < (i2:Int)))) && !(((decide (48≤(x5.toNat:Int))) && (decide ((x5.toNat:Int)≤57))) || (decide ((x5.toNat:Int)=45))))) (andI hc (notI hb))))) (yy Z Z (fun hc=>qw (cnd (c:=(!((decide (97≤(x5.toNat:Int))) && (decide ((x5.toNat:Int)≤122))))) hc) (fun hb=>(cnd (c:=((!((decide (97≤(x5.toNat:Int))) && (decide ((x5.toNat:Int)≤122)))) && (decide (0 < (i2:Int))))) (andI hc hb))) Z) (za (vj Z Z (fun hb=>(cnd (c:=(!((decide (97≤(x5.toNat:Int))) && (decide ((x5.toNat:Int)≤122))))) (notI hb)))) (za (yp Z) (zg _ Z (fun h8 => ?_) (fun h8 => ?_)))))))))))))
  ·refine tE h8 H fun H=>zb hN Z (qe Z (zk ?_))
   replace H:=retl H hq3
   cases H
   exact ⟨U,.inl Z,U⟩
  ·exact fE h8 H fun H=>zn (zp hN Z (qd Z (za (qj Z Z (by omega)) (qe Z ⟨_,qa H,⟨Z,Z,U⟩,U⟩))))
theorem y89 (s:Bs) (p:Int→Option Bool) (fv:Nat) (us:List V) (hp:∀ a r,p a=some r→Fn Tryz.prog fv ([vval (.int .i32 a)]++us) (zu [ze r])) (r:List Bs) (H:z0b s p=some r):Fn Tryz.prog 94 [vstr s,vfn fv us] (zu [vlst (List.map zo r)]):=by
 obtain ⟨h1,h2,h3,rfl⟩:=x1r H
 obtain ⟨b0,hb0⟩:=Option.isSome_iff_exists.1 (h3 0)
 have hok:=(hp 0 b0 hb0).1
 refine z9u (y4e (args:=[vstr s,vfn fv us]) (e:=9) (size:=1) (es:=List.map zo (ffGo (fun c=>(p (c.toNat:Int)).getD false) [] s)) (by kernel_rfl) (by decide) (fun el hel=>by obtain ⟨y,_,rfl⟩:=List.mem_map.1 hel; rfl) fun M w vs hM hvs => ?_)
 obtain ⟨v0,e0,p0⟩:=hvs.2 0 _ rfl
 obtain ⟨v1,e1,l,p1,p2⟩:=hvs.2 1 _ rfl
 have p0:v0 = .string ⟨s.toArray⟩:=p0
 obtain rfl:vs=[.string ⟨s.toArray⟩,.func (.func fv) #[] l.toArray]:=by
  match vs,hvs.1,e0,e1 with
  | [a,b],_,e0,e1=>simp at e0 e1; rw [e0,e1,p0,p1]
 have hpc:=x1s (fun n=>(p (n:Int)).getD false) (fun c=>(p (c.toNat:Int)).getD false) s (fun _ _=>Z) h1
 have hlen:(Lib.goFieldsP (fun n=>(p (n:Int)).getD false) ⟨s.toArray⟩).length=(ffGo (fun c=>(p (c.toNat:Int)).getD false) [] s).length:=by
  have:=congrArg List.length hpc
  simpa using this
 refine (Tryz.strings_FieldsFunc_grows fv l.toArray (x1y hok) (fun n=>(p (n:Int)).getD false) ⟨s.toArray⟩ w (by simp [ByteArray.size]; omega) (x1f hp h3 hM p2)).mono ?_
 rintro e w' ⟨A,rfl,hA,hown,hb⟩
 rw [hlen,hpc] at hown
 rw [hlen]
 refine ⟨_,_,Z,y8y hb,by rw [List.length_map]; exact hown,fun M' _ k c el u hk hc => ?_⟩
 rw [List.getElem?_map] at hk
 cases hq:(ffGo (fun c=>(p (c.toNat:Int)).getD false) [] s)[k]? with
 | none=>rw [hq] at hk; cases hk
 | some y =>
  rw [hq] at hk
  cases hk
  rcases c with _ | c
  ·cases hc
   exact ⟨Value.string ⟨y.toArray⟩,by rw [Nat.mul_one,Nat.add_zero,List.getElem?_map,hq]; rfl,rfl,rfl⟩
  ·simp at hc
theorem x0o (r1:Int) (r:(Bool)) (H:Zb r1=some r):Fn Tryz.prog 95 [vval (.int .i32 r1)] (zu [ze r]):=by
 refine ⟨by kernel_rfl,yj (us:=[ze r]) Tryz.func95 Z Z Z Z fun X hN => ?_⟩
 unfold Zb at H
 refine zb hN Z (qe Z (zb hN Z (qd Z (za (yo Z Z) (qd Z (yy Z Z (fun hc=>zd (.dat _) Z) (yy Z Z (fun hc=>yo (cnd (c:=(!(decide (r1=32)))) hc) Z) (za (vj Z Z (fun hb=>(cnd (c:=(!(decide (r1=32)))) (notI hb)))) (qe Z (zk ?_))))))))))
 cases H
 exact ⟨U,.inl Z,U⟩
theorem x0p (a1:ya) (r:((List Bs)×Int)) (H:z3g a1=some r):Fn Tryz.prog 45 [vagg (wt a1)] (zu [vlst (List.map zo r.1),vint r.2]):=by
 refine ⟨by kernel_rfl,yj (us:=[vlst (List.map zo r.1),vint r.2]) Tryz.func45 Z Z Z Z fun X hN => ?_⟩
 unfold z3g at H
 refine zb hN Z (zj (wu 1 Z) Z (qe Z (qe Z (zb hN Z (qe Z (zi (zb hN Z (za (zz jb Z) (zt (yh qv Z Z) Z (bE H fun r2 h3 H=>za (zl (z6p a1.Headers [99,97,99,104,101,45,116,97,103] r2 h3) ⟨.inl Z,.inl Z,U⟩) (za (qg wa Z) (qd Z (ye (km 4 2 9 1 Z Z Z (gE H fun h7 H=>qu (fun (k5:Nat) (s:(List Bs))=>[(4,.row 2 s.length),(11,.dat (vlst (List.map zo r2))),(12,.dat (vint (r2.length:Int))),(13,.dat (vint (k5:Int)))]) (fun (k5:Nat) (s:(List Bs))=>[(2,.row 9 1 (List.map zo s))]) [] H ⟨Z,Z,Z,Z,U⟩ ⟨Z,U⟩ (fun _ _=>Z) ?_ ?_)))))))))))))))
 ·rintro l4 H
  replace H:z1z l4=some r:=H
  unfold z1z at H
  refine zb hN Z (za (yb Z Z) (zi (zg _ Z (fun h=>(lt_t h).elim) (fun h => ?_))))
  refine yx (zi (zb hN Z (za (zd (.row _ _) Z) (zt (z5a wa Z Z) Z (qd Z (ye (gE H fun h11 H=>z11 (fun (k9:Nat) (s:Unit)=>[(4,.row 2 l4.length),(22,.row 2 l4.length),(23,.dat (vint (l4.length:Int))),(24,.dat (vint (k9:Int)))]) (fun (k9:Nat) (s:Unit)=>[(2,.row 9 1 (List.map zo l4))]) () H ⟨Z,Z,Z,Z,U⟩ ⟨Z,U⟩ (fun _ _=>Z) ?_ ?_)))))))
  ·rintro ⟨⟩ H
   replace H:z4h l4=some r:=H
   unfold z4h at H
   refine zb hN Z (za (yb Z Z) (zi (zg _ Z (fun h=>(lt_t h).elim) (fun h => ?_))))
   refine yx (zi (z73 4 2 Z Z Z (zp hN Z (qd Z (bE H fun r12 h13 H=>za (zl (y3c l4 r12 h13) ⟨.inl Z,U⟩) (qe Z (zi (zb hN Z (qd Z (za (qg wa Z) (za (qs Z Z) (zg _ Z (fun h14 => ?_) (fun h14 => ?_)))))))))))))
   ·refine tE h14 H fun H=>zb hN Z (qe Z (qe Z (zk ?_)))
    cases H
    exact ⟨U,.inr ⟨Z,Z⟩,.inl Z,U⟩
   ·refine fE h14 H fun H=>zn (zb hN Z (qd Z (qe Z (qe Z (zk ?_)))))
    cases H
    exact ⟨U,.inl Z,.inl Z,U⟩
  ·rintro k9 ⟨⟩ q10 h15 H hq10
   replace H:Qx l4 k9=some q10:=H
   unfold Qx at H
   refine zb hN Z (za (yb Z Z) (zi (zg _ Z (fun h => ?_) (fun h=>(lt_f h15 h).elim))))
   refine zn (zi (ye (zb hN Z (bE H fun x16 h17 H=>zt (z71 vi Z Z Z h17) Z (zt (y1b tyS9 Z Z h17 Z) Z (qe Z (zb hN Z (qd Z (bE H fun r18 h19 H=>za (zl (y9q x16 r18 h19) ⟨.inl Z,U⟩) (za (yp Z) (zg _ Z (fun h20 => ?_) (fun h20 => ?_))))))))))))
   ·refine tE h20 H fun H=>zb hN Z (qe Z (qe Z (zk ?_)))
    replace H:=retl H hq10
    cases H
    exact ⟨U,.inr ⟨Z,Z⟩,.inl Z,U⟩
   ·exact fE h20 H fun H=>zn (zp hN Z (za (qj Z Z (by omega)) (qd Z ⟨_,qa H,⟨Z,Z,Z,Z,U⟩,⟨Z,U⟩⟩)))
 ·rintro k5 x8 l4 q6 h21 h22 H hq6
  replace H:Qy k5 x8 l4=some q6:=H
  unfold Qy at H
  refine zb hN Z (za (yb Z Z) (zi (zg _ Z (fun h => ?_) (fun h=>(lt_f h21 h).elim))))
  exact zn (zi (ye (zb hN Z (za (wi vi (fun _=>Z) Z Z h22) (za (qx tyS9 Z (ql h22) Z) (qe Z (zp hN Z (za (zd (.row _ _) Z) (qd Z (bE H fun r23 h24 H=>za (y6l (y89 x8 (fun (a0:Int)=>Zb a0) 95 [] (fun a0 r h=>x0o a0 r h) r23 h24) ⟨.inl (.inl Z),.inr ⟨_,Z,Z⟩,U⟩) (gE H fun h25 H=>zj (y1c yn (fun _=>Z) Z Z Z h25 Z) Z (za (qc (.row _ _) Z) (zp hN Z (za (qj Z Z (by omega)) (qd Z ⟨_,qa H,⟨Z,Z,Z,Z,U⟩,⟨Z,U⟩⟩)))))))))))))))
theorem x0w (a1:ya) (r:((List Bs)×Int)) (H:Yj a1=some r):Fn Tryz.prog 12 [vagg (wt a1)] (zu [vlst (List.map zo r.1),vint r.2]):=by
 refine ⟨by kernel_rfl,yj (us:=[vlst (List.map zo r.1),vint r.2]) Tryz.func12 Z Z Z Z fun X hN => ?_⟩
 unfold Yj at H
 refine zb hN Z (zj (wu 1 Z) Z (qe Z (qe Z (zi (zb hN Z (zt (qi qp Z Z Z) Z (bE H fun r2 h3 H=>za (zl (z6r a1 r2 h3) ⟨.inl Z,U⟩) (qe Z (zb hN Z (qd Z (za (qo Z Z) (zg _ Z (fun h4 => ?_) (fun h4 => ?_)))))))))))))
 ·refine tE h4 H fun H=>zb hN Z (qd Z (qe Z (qe Z (zk ?_))))
  cases H
  exact ⟨U,.inr ⟨Z,Z⟩,.inl Z,U⟩
 ·refine fE h4 H fun H=>zn (zb hN Z (zt (qi qp Z Z Z) Z (bE H fun r5 h6 H=>za (zl (x0p a1 r5 h6) ⟨.inl Z,U⟩) (za (yc Z Z) (za (yc Z Z) (qe Z (qe Z (zk ?_))))))))
  cases H
  exact ⟨U,.inl Z,.inl Z,U⟩
theorem Zd (n1:Int) (low2:Int) (high3:Int) (r:(Bool)) (H:jf n1 low2 high3=some r):Fn Tryz.prog 46 [vint n1,vint low2,vint high3] (zu [ze r]):=by
 refine ⟨by kernel_rfl,yj (us:=[ze r]) Tryz.func46 Z Z Z Z fun X hN => ?_⟩
 unfold jf at H
 refine zb hN Z (qe Z (zb hN Z (qd Z (qd Z (za (we Z Z) (qd Z (yt Z Z (fun hc=>zd (.dat _) Z) (yt Z Z (fun hc=>zd (.dat _) Z) (yt Z Z (fun hc=>we (cnd (c:=(decide (low2≤n1))) hc) (cnd (c:=(decide (low2≤n1))) hc)) (za (qw Z (fun hb=>(cnd (c:=(decide (low2≤n1))) hb)) Z) (qe Z (zk ?_))))))))))))
 cases H
 exact ⟨U,.inl Z,U⟩
theorem z3p (s1:Bs) (some2:Bs) (r:(Bool)) (H:ki s1 some2=some r):Fn Tryz.prog 97 [vstr s1,vstr some2] (zu [ze r]):=by
 refine ⟨by kernel_rfl,yj (us:=[ze r]) Tryz.func97 Z Z Z Z fun X hN => ?_⟩
 unfold ki at H
 refine zb hN Z (qe Z (zi (zb hN Z (qd Z (za (yw tyU9 Z) (qd Z (ye (gE H fun h5 H=>qu (fun (k3:Nat) (s:Unit)=>[(0,.dat (vstr s1)),(1,.dat (vstr some2)),(7,.dat (vint (s1.length:Int))),(8,.dat (vint (k3:Int)))]) (fun (k3:Nat) (s:Unit)=>[]) () H ⟨Z,Z,Z,Z,U⟩ U (fun _ _=>Z) ?_ ?_))))))))
 ·rintro ⟨⟩ H
  replace H:z9r=some r:=H
  unfold z9r at H
  refine zb hN Z (za (yb Z Z) (zi (zg _ Z (fun h=>(lt_t h).elim) (fun h => ?_))))
  refine yx (zb hN Z (qe Z (zk ?_)))
  cases H
  exact ⟨U,.inl Z,U⟩
 ·rintro k3 x6 ⟨⟩ q4 h7 h8 H hq4
  replace H:z67 some2 k3 x6=some q4:=H
  unfold z67 at H
  refine zb hN Z (za (yb Z Z) (zi (zg _ Z (fun h => ?_) (fun h=>(lt_f h7 h).elim))))
  refine zn (zi (ye (zb hN Z (qd Z (qe Z (zb hN Z (qd Z (qd Z (qd Z (za (qm tyU9 Z Z h8) (bE H fun r9 h10 H=>za (zl (y21 some2 (x6.toNat:Int) r9 h10) ⟨.inl Z,.inl Z,U⟩) (za (yb Z Z) (zg _ Z (fun h11 => ?_) (fun h11 => ?_))))))))))))))
  ·refine tE h11 H fun H=>zb hN Z (qe Z (zk ?_))
   replace H:=retl H hq4
   cases H
   exact ⟨U,.inl Z,U⟩
  ·exact fE h11 H fun H=>zn (zp hN Z (za (qj Z Z (by omega)) (qd Z ⟨_,qa H,⟨Z,Z,Z,Z,U⟩,U⟩)))
theorem z6s (s1:Bs) (r:(Bool)) (H:xy s1=some r):Fn Tryz.prog 49 [vstr s1] (zu [ze r]):=by
 refine ⟨by kernel_rfl,yj (us:=[ze r]) Tryz.func49 Z Z Z Z fun X hN => ?_⟩
 unfold xy at H
 refine zb hN Z (qe Z (yd (ι:=Bool) (fun i=>[(2,.dat (ze i))]) (fun i=>[]) (fun i=>z1g i=some r) (fun i=>Z) ?_ ?_))
 ·skip
  refine zp hN Z (qd Z (za (yw tyU9 Z) (bE H fun r2 h3 H=>za (zl (Zd (s1.length:Int) 1 100 r2 h3) ⟨.inl Z,.inl Z,.inl Z,U⟩) (qd Z (yf (j:=3) Z Z (fun h4 => ?_) (fun h4 => ?_) Z)))))
  ·exact u1 h4 H fun h5 H=>zf Z Z h4 (zd (.dat _) Z) (bE H fun r6 h7 H=>zf Z Z h4 (zl (z3p s1 [97,98,99,100,101,102,103,104,105,106,107,108,109,110,111,112,113,114,115,116,117,118,119,120,121,122,65,66,67,68,69,70,71,72,73,74,75,76,77,78,79,80,81,82,83,84,85,86,87,88,89,90,48,49,50,51,52,53,54,55,56,57,33,35,36,37,38,39,42,43,45,46,94,95,96,124,126] r6 h7) ⟨.inl Z,.inl Z,U⟩) (za (zy Z (bTT h5) Z) (qe Z ⟨r6,H,⟨Z,U⟩,U⟩)))
  ·exact u2 h4 H fun h8 H=>zc Z Z h4 (zc Z Z h4 (za (zq Z (bFF h8) Z) (qe Z ⟨false,H,⟨Z,U⟩,U⟩)))
 ·rintro v9 H
  replace H:z1g v9=some r:=H
  unfold z1g at H
  refine zk ?_
  cases H
  exact ⟨U,.inl Z,U⟩
theorem z89 (s1:Bs) (low2:Int) (r:(Bool)) (H:z0k s1 low2=some r):Fn Tryz.prog 102 [vstr s1,vval (.int .u8 low2)] (zu [ze r]):=by
 refine ⟨by kernel_rfl,yj (us:=[ze r]) Tryz.func102 Z Z Z Z fun X hN => ?_⟩
 unfold z0k at H
 refine zb hN Z (qe Z (zi (zb hN Z (qd Z (za (yw tyU9 Z) (qd Z (ye (gE H fun h5 H=>qu (fun (k3:Nat) (s:Unit)=>[(0,.dat (vstr s1)),(1,.dat (vval (.int .u8 low2))),(7,.dat (vint (s1.length:Int))),(8,.dat (vint (k3:Int)))]) (fun (k3:Nat) (s:Unit)=>[]) () H ⟨Z,Z,Z,Z,U⟩ U (fun _ _=>Z) ?_ ?_))))))))
 ·rintro ⟨⟩ H
  replace H:z9q=some r:=H
  unfold z9q at H
  refine zb hN Z (za (yb Z Z) (zi (zg _ Z (fun h=>(lt_t h).elim) (fun h => ?_))))
  refine yx (zb hN Z (qe Z (zk ?_)))
  cases H
  exact ⟨U,.inl Z,U⟩
 ·rintro k3 x6 ⟨⟩ q4 h7 h8 H hq4
  replace H:z9p low2 k3 x6=some q4:=H
  unfold z9p at H
  refine zb hN Z (za (yb Z Z) (zi (zg _ Z (fun h => ?_) (fun h=>(lt_f h7 h).elim))))
  refine zn (zi (ye (zb hN Z (qd Z (qe Z (yd (ι:=Bool) (fun i=>[(0,.dat (vstr s1)),(1,.dat (vval (.int .u8 low2))),(7,.dat (vint (s1.length:Int))),(8,.dat (vint (k3:Int))),(21,.dat (ze i))]) (fun i=>[]) (fun i=>z4a i=some q4) (fun i=>Z) ?_ ?_))))))
  ·skip
   refine zp hN Z (qd Z (qd Z (za (qm tyU9 Z Z h8) (qd Z (za (yb Z Z) (qd Z (yf (j:=5) Z Z (fun h9 => ?_) (fun h9 => ?_) Z)))))))
   ·exact u3 h9 H fun h10 H=>zf Z Z h9 (zd (.dat _) Z) (zf Z Z h9 (zd (.dat _) Z) (zf Z Z h9 (qm tyU9 Z Z h8) (zf Z Z h9 (qs Z Z) (za (zq Z (bFF h10) Z) ⟨decide (126 < (x6.toNat:Int)),H,⟨Z,Z,Z,Z,Z,U⟩,U⟩))))
   ·exact u4 h9 H fun h11 H=>zc Z Z h9 (zc Z Z h9 (zc Z Z h9 (zc Z Z h9 (za (zy Z (bTT h11) Z) ⟨true,H,⟨Z,Z,Z,Z,Z,U⟩,U⟩))))
  ·rintro v12 H
   replace H:z4a v12=some q4:=H
   unfold z4a at H
   refine zg _ Z (fun h13 => ?_) (fun h13 => ?_)
   ·refine tE h13 H fun H=>zb hN Z (qe Z (zk ?_))
    replace H:=retl H hq4
    cases H
    exact ⟨U,.inl Z,U⟩
   ·exact fE h13 H fun H=>zn (zp hN Z (za (qj Z Z (by omega)) (qd Z ⟨_,qa H,⟨Z,Z,Z,Z,U⟩,U⟩)))
theorem y3i (s1:Bs) (r:(Bool)) (H:z23 s1=some r):Fn Tryz.prog 53 [vstr s1] (zu [ze r]):=by
 refine ⟨by kernel_rfl,yj (us:=[ze r]) Tryz.func53 Z Z Z Z fun X hN => ?_⟩
 unfold z23 at H
 refine zb hN Z (qe Z (yd (ι:=Bool) (fun i=>[(2,.dat (ze i))]) (fun i=>[]) (fun i=>z1l i=some r) (fun i=>Z) ?_ ?_))
 ·skip
  refine zp hN Z (qd Z (za (yw tyU9 Z) (za (we Z Z) (qd Z (yf (j:=3) Z Z (fun h2 => ?_) (fun h2 => ?_) Z)))))
  ·refine u1 h2 H fun h3 H=>zf Z Z h2 (zd (.dat _) Z) (bE H fun r4 h5 H=>zf Z Z h2 (zl (z89 s1 32 r4 h5) ⟨.inl Z,.inl Z,U⟩) (za (zy Z (bTT h3) Z) (qd Z (yf (j:=7) Z Z (fun h6 => ?_) (fun h6 => ?_) Z))))
   ·exact u1 h6 H fun h7 H=>zf Z Z h6 (zd (.dat _) Z) (bE H fun r8 h9 H=>zf Z Z h6 (zl (z02 s1 [32] r8 h9) ⟨.inl Z,.inl Z,U⟩) (zf Z Z h6 (zd (.dat _) Z) (zf Z Z h6 (vx Z Z) (za (zy Z (bTT h7) Z) (qe Z ⟨decide (r8=s1),H,⟨Z,U⟩,U⟩)))))
   ·exact u2 h6 H fun h10 H=>zc Z Z h6 (zc Z Z h6 (zc Z Z h6 (zc Z Z h6 (za (zq Z (bFF h10) Z) (qe Z ⟨false,H,⟨Z,U⟩,U⟩)))))
  ·exact u2 h2 H fun h11 H=>zc Z Z h2 (zc Z Z h2 (za (zq Z (bFF h11) Z) (qd Z (zc Z Z Z (zc Z Z Z (zc Z Z Z (zc Z Z Z (za (zq Z Z Z) (qe Z ⟨false,H,⟨Z,U⟩,U⟩)))))))))
 ·rintro v12 H
  replace H:z1l v12=some r:=H
  unfold z1l at H
  refine zk ?_
  cases H
  exact ⟨U,.inl Z,U⟩
theorem y3h (l1:(List zm)) (r:(Int)) (H:z0r l1=some r):Fn Tryz.prog 47 [vlst (List.map yg l1)] (zu [vint r]):=by
 refine ⟨by kernel_rfl,yj (us:=[vint r]) Tryz.func47 Z Z Z Z fun X hN => ?_⟩
 unfold z0r at H
 refine zb hN Z (qe Z (zi (zb hN Z (qd Z (za (qg Wd Z) (za (qs Z Z) (zg _ Z (fun h2 => ?_) (fun h2 => ?_))))))))
 ·refine tE h2 H fun H=>zb hN Z (qe Z (zk ?_))
  cases H
  exact ⟨U,.inl Z,U⟩
 ·refine fE h2 H fun H=>zn (zi (zb hN Z (qd Z (za (qg Wd Z) (qd Z (ye (gE H fun h5 H=>qu (fun (k3:Nat) (s:Unit)=>[(8,.dat (vlst (List.map yg l1))),(9,.dat (vint (l1.length:Int))),(10,.dat (vint (k3:Int)))]) (fun (k3:Nat) (s:Unit)=>[]) () H ⟨Z,Z,Z,U⟩ U (fun _ _=>Z) ?_ ?_)))))))
  ·rintro ⟨⟩ H
   replace H:z7a=some r:=H
   unfold z7a at H
   refine zb hN Z (za (yb Z Z) (zi (zg _ Z (fun h=>(lt_t h).elim) (fun h => ?_))))
   refine yx (zb hN Z (qe Z (zk ?_)))
   cases H
   exact ⟨U,.inl Z,U⟩
  ·rintro k3 x6 ⟨⟩ q4 h7 h8 H hq4
   replace H:z69 k3 x6=some q4:=H
   unfold z69 at H
   refine zb hN Z (za (yb Z Z) (zi (zg _ Z (fun h => ?_) (fun h=>(lt_f h7 h).elim))))
   refine zn (zi (ye (zb hN Z (za (wi z42 (fun _=>Z) Z Z h8) (za (z5c uj Z (ql h8) Z) (zj (wc 1 jm Z) Z (zj (qq uj Z Z Z Z) Z (zi (zb hN Z (za (zz z4w Z) (zt (yh tyS9 Z Z) Z (bE H fun r9 h10 H=>za (zl (z6s x6.Name r9 h10) ⟨.inl Z,U⟩) (za (yp Z) (zg _ Z (fun h11 => ?_) (fun h11 => ?_)))))))))))))))
   ·refine tE h11 H fun H=>zb hN Z (qe Z (zk ?_))
    replace H:=retl H hq4
    cases H
    exact ⟨U,.inl Z,U⟩
   ·refine fE h11 H fun H=>zn (zb hN Z (za (zz z4v Z) (zt (yh tyS9 Z Z) Z (bE H fun r12 h13 H=>za (zl (y3i x6.Value r12 h13) ⟨.inl Z,U⟩) (za (yp Z) (zg _ Z (fun h14 => ?_) (fun h14 => ?_)))))))
    ·refine tE h14 H fun H=>zb hN Z (qe Z (zk ?_))
     replace H:=retl H hq4
     cases H
     exact ⟨U,.inl Z,U⟩
    ·exact fE h14 H fun H=>zn (zp hN Z (za (qj Z Z (by omega)) (qd Z ⟨_,qa H,⟨Z,Z,Z,U⟩,U⟩)))
theorem y93 (a1:ya) (r:(Int)) (H:z0n a1=some r):Fn Tryz.prog 13 [vagg (wt a1)] (zu [vint r]):=by
 refine ⟨by kernel_rfl,yj (us:=[vint r]) Tryz.func13 Z Z Z Z fun X hN => ?_⟩
 unfold z0n at H
 refine zb hN Z (zj (wu 1 Z) Z (qe Z (zi (zb hN Z (za (zz Wi Z) (zt (yh tyS3 Z Z) Z (bE H fun r2 h3 H=>za (zl (Zd a1.Status 100 599 r2 h3) ⟨.inl Z,.inl Z,.inl Z,U⟩) (za (yp Z) (zg _ Z (fun h4 => ?_) (fun h4 => ?_))))))))))
 ·refine tE h4 H fun H=>zb hN Z (qe Z (zk ?_))
  cases H
  exact ⟨U,.inl Z,U⟩
 ·refine fE h4 H fun H=>zn (zi (zb hN Z (za (zz jb Z) (zt (yh qv Z Z) Z (bE H fun r5 h6 H=>za (zl (y3h a1.Headers r5 h6) ⟨.inl Z,U⟩) (qe Z (zb hN Z (qd Z (za (qo Z Z) (zg _ Z (fun h7 => ?_) (fun h7 => ?_)))))))))))
  ·refine tE h7 H fun H=>zb hN Z (qd Z (qe Z (zk ?_)))
   cases H
   exact ⟨U,.inl Z,U⟩
  ·refine fE h7 H fun H=>zn (zi (zb hN Z (za (zz z7u Z) (zt (yh tyS9 Z Z) Z (za (yw tyU9 Z) (za (qs Z Z) (zg _ Z (fun h8 => ?_) (fun h8 => ?_))))))))
   ·refine tE h8 H fun H=>zb hN Z (qe Z (zk ?_))
    cases H
    exact ⟨U,.inl Z,U⟩
   ·refine fE h8 H fun H=>zn (zb hN Z (qe Z (zk ?_)))
    cases H
    exact ⟨U,.inl Z,U⟩
theorem y95 (v1:Int) (r:(Bool)) (H:z6g v1=some r):Fn Tryz.prog 48 [vint v1] (zu [ze r]):=by
 refine ⟨by kernel_rfl,yj (us:=[ze r]) Tryz.func48 Z Z Z Z fun X hN => ?_⟩
 unfold z6g at H
 refine zb hN Z (qe Z (zb hN Z (qd Z (bE H fun r2 h3 H=>za (zl (Zd v1 0 345686399999 r2 h3) ⟨.inl Z,.inl Z,.inl Z,U⟩) (qe Z (zk ?_))))))
 cases H
 exact ⟨U,.inl Z,U⟩
theorem y9d (n:Int) (r:Bs) (H:z6a n=some r):Fn Tryz.prog 136 [vint n] (zu [vstr r]):=by
 obtain ⟨⟨h1,h2⟩,h3⟩:=gif H
 cases h3
 refine xl (by kernel_rfl) fun M w vs hM h => ?_
 have hv:=ka (us:=[.int .i64 n]) h
 subst hv
 refine (Tryz.strconv_Itoa n h1 h2 w (y72 hM)).mono ?_
 rintro e w' ⟨rfl,k,os,rfl⟩
 exact ⟨_,Z,Z,Kp.of_below ⟨Z,Z,Z,by show w.heap.size≤(w.heap++os).size; rw [Array.size_append]; omega,fun j hj=>by show (w.heap++os)[j]?=w.heap[j]?; exact Array.getElem?_append_left hj⟩⟩
theorem y3g (s1:Bs) (most2:Int) (r:(Int×Bool)) (H:xz s1 most2=some r):Fn Tryz.prog 99 [vstr s1,vint most2] (zu [vint r.1,ze r.2]):=by
 refine ⟨by kernel_rfl,yj (us:=[vint r.1,ze r.2]) Tryz.func99 Z Z Z Z fun X hN => ?_⟩
 unfold xz at H
 refine zb hN Z (qe Z (qe Z (zb hN Z (qd Z (bE H fun r3 h4 H=>za (zl (y20 s1 [45] r3 h4) ⟨.inl Z,.inl Z,U⟩) (qe Z (zi (yd (ι:=Bool) (fun i=>[(0,.dat (vstr s1)),(23,.dat (ze i))]) (fun i=>[]) (fun i=>ks s1 i=some r) (fun i=>Z) ?_ ?_))))))))
 ·skip
  refine zp hN Z (qd Z (za (vx Z Z) (qd Z (yf (j:=2) Z Z (fun h5 => ?_) (fun h5 => ?_) Z))))
  ·refine u3 h5 H fun h6 H=>zf Z Z h5 (zd (.dat _) Z) (zf Z Z h5 (yw tyU9 Z) (zf Z Z h5 (zd (.dat _) Z) (zf Z Z h5 (qs Z Z) (za (zq Z (bFF h6) Z) (qd Z (yf (j:=8) Z Z (fun h7 => ?_) (fun h7 => ?_) Z))))))
   ·exact u3 h7 H fun h8 H=>zf Z Z h7 (zd (.dat _) Z) (bE H fun r9 h10 H=>zf Z Z h7 (zl (z3p r3 [48,49,50,51,52,53,54,55,56,57] r9 h10) ⟨.inl Z,.inl Z,U⟩) (zf Z Z h7 (yp Z) (za (zq Z (bFF h8) Z) ⟨!r9,H,⟨Z,Z,U⟩,U⟩)))
   ·exact u4 h7 H fun h11 H=>zc Z Z h7 (zc Z Z h7 (zc Z Z h7 (za (zy Z (bTT h11) Z) ⟨true,H,⟨Z,Z,U⟩,U⟩)))
  ·exact u4 h5 H fun h12 H=>zc Z Z h5 (zc Z Z h5 (zc Z Z h5 (zc Z Z h5 (za (zy Z (bTT h12) Z) (qd Z (zc Z Z Z (zc Z Z Z (zc Z Z Z (za (zy Z Z Z) ⟨true,H,⟨Z,Z,U⟩,U⟩)))))))))
 ·rintro v13 H
  replace H:ks s1 v13=some r:=H
  unfold ks at H
  refine zg _ Z (fun h14 => ?_) (fun h14 => ?_)
  ·refine tE h14 H fun H=>zb hN Z (qe Z (qe Z (zk ?_)))
   cases H
   exact ⟨U,.inl Z,.inl Z,U⟩
  ·refine fE h14 H fun H=>zn (zb hN Z (qd Z (bE H fun r15 h16 H=>za (zl (y24 s1 r15 h16) ⟨.inl Z,U⟩) (qd Z (za (yc Z Z) (za (yc Z Z) (qe Z (qe Z (yd (ι:=Bool) (fun i=>[(4,.dat (vint r15.1)),(5,.dat (ze i))]) (fun i=>[]) (fun i=>z1i r15 i=some r) (fun i=>Z) ?_ ?_)))))))))
   ·skip
    refine zp hN Z (qd Z (qd Z (za (y1m (n:=r15.2) (show Tryz.prog.underlying 92=some (.interface (Tryz.prog.methodsAt 92)) from by kernel_rfl) Z) ?_)))
    refine qd Z (yf (j:=3) Z Z (fun h17 => ?_) (fun h17 => ?_) Z)
    ·exact u1 h17 H fun h18 H=>zf Z Z h17 (zd (.dat _) Z) (bE H fun r19 h20 H=>zf Z Z h17 (zl (y9d r15.1 r19 h20) ⟨.inl Z,U⟩) (zf Z Z h17 (zd (.dat _) Z) (zf Z Z h17 (vx Z Z) (za (zy Z (bTT h18) Z) (qe Z (qe Z ⟨decide (r19=s1),H,⟨Z,Z,U⟩,U⟩))))))
    ·exact u2 h17 H fun h21 H=>zc Z Z h17 (zc Z Z h17 (zc Z Z h17 (zc Z Z h17 (za (zq Z (bFF h21) Z) (qe Z (qe Z ⟨false,H,⟨Z,Z,U⟩,U⟩))))))
   ·rintro v22 H
    replace H:z1i r15 v22=some r:=H
    unfold z1i at H
    refine zk ?_
    cases H
    exact ⟨U,.inl Z,.inl Z,U⟩
theorem y98 (v1:Bs) (r:(Bs×Int)) (H:z0q v1=some r):Fn Tryz.prog 50 [vstr v1] (zu [vstr r.1,vint r.2]):=by
 refine ⟨by kernel_rfl,yj (us:=[vstr r.1,vint r.2]) Tryz.func50 Z Z Z Z fun X hN => ?_⟩
 unfold z0q at H
 refine zb hN Z (qe Z (qe Z (zb hN Z (qd Z (bE H fun r2 h3 H=>za (zl (z6o v1 [58] r2 h3) ⟨.inl Z,.inl Z,U⟩) (qd Z (za (yc Z Z) (za (yc Z Z) (za (yc Z Z) (qe Z (qe Z (qe Z (zb hN Z (qd Z (bE H fun r4 h5 H=>za (zl (y3g r2.2.1 5 r4 h5) ⟨.inl Z,.inl Z,U⟩) (qd Z (za (yc Z Z) (za (yc Z Z) (qe Z (qe Z (zi ?_)))))))))))))))))))))
 refine yd (ι:=Bool) (fun i=>[(4,.dat (vstr r2.1)),(5,.dat (vstr r2.2.1)),(6,.dat (ze r2.2.2)),(7,.dat (vint r4.1)),(37,.dat (ze i))]) (fun i=>[]) (fun i=>xk r2 r4 i=some r) (fun i=>Z) ?_ ?_
 ·skip
  refine zp hN Z (qd Z (za (yw tyU9 Z) (za (qs Z Z) (qd Z (yf (j:=3) Z Z (fun h6 => ?_) (fun h6 => ?_) Z)))))
  ·refine u3 h6 H fun h7 H=>zf Z Z h6 (zd (.dat _) Z) (zf Z Z h6 (zd (.dat _) Z) (yf (j:=5) Z Z (fun h8 => ?_) (fun h8 => ?_) Z))
   ·refine u1 h8 H fun h9 H=>zf Z Z h8 (zd (.dat _) Z) (zf Z Z h8 (yp Z) (zf Z Z h8 (zd (.dat _) Z) (yf (j:=8) Z Z (fun h10 => ?_) (fun h10 => ?_) Z)))
    ·exact u3 h10 H fun h11 H=>zf Z Z h10 (zd (.dat _) Z) (bE H fun r12 h13 H=>zf Z Z h10 (zl (Zd r4.1 1 65535 r12 h13) ⟨.inl Z,.inl Z,.inl Z,U⟩) (zf Z Z h10 (yp Z) (zf Z Z h8 (zq Z (bFF h11) Z) (zf Z Z h6 (zy Z (bTT h9) Z) (za (zq Z (bFF h7) Z) ⟨!r12,H,⟨Z,Z,Z,Z,Z,U⟩,U⟩)))))
    ·exact u4 h10 H fun h14 H=>zc Z Z h10 (zc Z Z h10 (zc Z Z h10 (zf Z Z h8 (zy Z (bTT h14) Z) (zf Z Z h6 (zy Z (bTT h9) Z) (za (zq Z (bFF h7) Z) ⟨true,H,⟨Z,Z,Z,Z,Z,U⟩,U⟩)))))
   ·exact u2 h8 H fun h15 H=>zc Z Z h8 (zc Z Z h8 (zc Z Z h8 (yi Z Z (yi Z Z (yi Z Z (zc Z Z h8 (zf Z Z h6 (zq Z (bFF h15) Z) (za (zq Z (bFF h7) Z) ⟨false,H,⟨Z,Z,Z,Z,Z,U⟩,U⟩))))))))
  ·exact u4 h6 H fun h16 H=>zc Z Z h6 (zc Z Z h6 (yi Z Z (yi Z Z (yi Z Z (yi Z Z (yi Z Z (yi Z Z (yi Z Z (zc Z Z h6 (za (zy Z (bTT h16) Z) ⟨true,H,⟨Z,Z,Z,Z,Z,U⟩,U⟩))))))))))
 ·rintro v17 H
  replace H:xk r2 r4 v17=some r:=H
  unfold xk at H
  refine zg _ Z (fun h18 => ?_) (fun h18 => ?_)
  ·refine tE h18 H fun H=>zb hN Z (qe Z (qe Z (zk ?_)))
   cases H
   exact ⟨U,.inl Z,.inl Z,U⟩
  ·refine fE h18 H fun H=>zn (zi (zb hN Z (qd Z (bE H fun r19 h20 H=>za (zl (z3n r2.1 [46] r19 h20) ⟨.inl Z,.inl Z,U⟩) (za (qg wa Z) (qd Z (ye (gE H fun h23 H=>qu (fun (k21:Nat) (s:Unit)=>[(4,.dat (vstr r2.1)),(5,.dat (vstr r2.2.1)),(6,.dat (ze r2.2.2)),(7,.dat (vint r4.1)),(39,.dat (vlst (List.map zo r19))),(40,.dat (vint (r19.length:Int))),(41,.dat (vint (k21:Int)))]) (fun (k21:Nat) (s:Unit)=>[]) () H ⟨Z,Z,Z,Z,Z,Z,Z,U⟩ U (fun _ _=>Z) ?_ ?_))))))))
   ·rintro ⟨⟩ H
    replace H:z1k r2 r4=some r:=H
    unfold z1k at H
    refine zb hN Z (za (yb Z Z) (zi (zg _ Z (fun h=>(lt_t h).elim) (fun h => ?_))))
    refine yx (zb hN Z (qd Z (bE H fun r25 h26 H=>za (zl (Yk r2.1 r25 h26) ⟨.inl Z,U⟩) (qe Z (yd (ι:=Bs) (fun i=>[(11,.dat (vstr i))]) (fun i=>[]) (fun i=>z4b i=some r) (fun i=>Z) ?_ ?_)))))
    ·skip
     refine zb hN Z (qd Z (qd Z (yt Z Z (fun hc=>zd (.dat _) Z) (yt Z Z (fun hc=>qo (cnd (c:=r2.2.2) hc) Z) (za (qw Z (fun hb=>(cnd (c:=r2.2.2) hb)) Z) (qd Z (yt Z Z (fun hc=>zd (.dat _) Z) (yt Z Z (fun hc=>qo (cnd (c:=(r2.2.2 && (decide (r4.1≠80)))) hc) Z) (za (qw Z (fun hb=>(cnd (c:=(r2.2.2 && (decide (r4.1≠80)))) hb)) Z) (zg _ Z (fun h27 => ?_) (fun h27 => ?_)))))))))))
     ·exact tE h27 H fun H=>zp hN Z (qd Z (qd Z (gE H fun h28 H=>za (um Z Z (Nat.le_trans h28 (by decide))) (gE H fun h29 H=>za (um Z Z (Nat.le_trans h29 (by decide))) (qe Z ⟨(r25++([58]++r2.2.1)),H,⟨Z,U⟩,U⟩)))))
     ·exact fE h27 H fun H=>zn ⟨r25,H,⟨Z,U⟩,U⟩
    ·rintro v30 H
     replace H:z4b v30=some r:=H
     unfold z4b at H
     refine zb hN Z (qd Z (qe Z (qe Z (zk ?_))))
     cases H
     exact ⟨U,.inl Z,.inl Z,U⟩
   ·rintro k21 x24 ⟨⟩ q22 h31 h32 H hq22
    replace H:z1j k21 x24=some q22:=H
    unfold z1j at H
    refine zb hN Z (za (yb Z Z) (zi (zg _ Z (fun h => ?_) (fun h=>(lt_f h31 h).elim))))
    refine zn (zi (ye (zb hN Z (za (wi vi (fun _=>Z) Z Z h32) (za (qx tyS9 Z (ql h32) Z) (qe Z (yd (ι:=Bool) (fun i=>[(4,.dat (vstr r2.1)),(5,.dat (vstr r2.2.1)),(6,.dat (ze r2.2.2)),(7,.dat (vint r4.1)),(39,.dat (vlst (List.map zo r19))),(40,.dat (vint (r19.length:Int))),(41,.dat (vint (k21:Int))),(59,.dat (ze i))]) (fun i=>[]) (fun i=>xj i=some q22) (fun i=>Z) ?_ ?_)))))))
    ·skip
     refine zp hN Z (qd Z (za (yw tyU9 Z) (bE H fun r33 h34 H=>za (zl (Zd (x24.length:Int) 1 63 r33 h34) ⟨.inl Z,.inl Z,.inl Z,U⟩) (za (yp Z) (qd Z (yf (j:=4) Z Z (fun h35 => ?_) (fun h35 => ?_) Z))))))
     ·refine u3 h35 H fun h36 H=>zf Z Z h35 (zd (.dat _) Z) (bE H fun r37 h38 H=>zf Z Z h35 (zl (z3p x24 [97,98,99,100,101,102,103,104,105,106,107,108,109,110,111,112,113,114,115,116,117,118,119,120,121,122,65,66,67,68,69,70,71,72,73,74,75,76,77,78,79,80,81,82,83,84,85,86,87,88,89,90,48,49,50,51,52,53,54,55,56,57,45] r37 h38) ⟨.inl Z,.inl Z,U⟩) (zf Z Z h35 (yp Z) (za (zq Z (bFF h36) Z) (qd Z (yf (j:=9) Z Z (fun h39 => ?_) (fun h39 => ?_) Z)))))
      ·exact u3 h39 H fun h40 H=>zf Z Z h39 (zd (.dat _) Z) (bE H fun r41 h42 H=>zf Z Z h39 (zl (z02 x24 [45] r41 h42) ⟨.inl Z,.inl Z,U⟩) (zf Z Z h39 (zd (.dat _) Z) (zf Z Z h39 (kn Z Z) (za (zq Z (bFF h40) Z) ⟨decide (r41≠x24),H,⟨Z,Z,Z,Z,Z,Z,Z,Z,U⟩,U⟩))))
      ·exact u4 h39 H fun h43 H=>zc Z Z h39 (zc Z Z h39 (zc Z Z h39 (zc Z Z h39 (za (zy Z (bTT h43) Z) ⟨true,H,⟨Z,Z,Z,Z,Z,Z,Z,Z,U⟩,U⟩))))
     ·exact u4 h35 H fun h44 H=>zc Z Z h35 (zc Z Z h35 (zc Z Z h35 (za (zy Z (bTT h44) Z) (qd Z (zc Z Z Z (zc Z Z Z (zc Z Z Z (zc Z Z Z (za (zy Z Z Z) ⟨true,H,⟨Z,Z,Z,Z,Z,Z,Z,Z,U⟩,U⟩)))))))))
    ·rintro v45 H
     replace H:xj v45=some q22:=H
     unfold xj at H
     refine zg _ Z (fun h46 => ?_) (fun h46 => ?_)
     ·refine tE h46 H fun H=>zb hN Z (qe Z (qe Z (zk ?_)))
      replace H:=retl H hq22
      cases H
      exact ⟨U,.inl Z,.inl Z,U⟩
     ·exact fE h46 H fun H=>zn (zp hN Z (za (qj Z Z (by omega)) (qd Z ⟨_,qa H,⟨Z,Z,Z,Z,Z,Z,Z,U⟩,U⟩)))
theorem y9w (s1:Bs) (r:(Bool)) (H:z2v s1=some r):Fn Tryz.prog 51 [vstr s1] (zu [ze r]):=by
 refine ⟨by kernel_rfl,yj (us:=[ze r]) Tryz.func51 Z Z Z Z fun X hN => ?_⟩
 unfold z2v at H
 refine zb hN Z (qe Z (yd (ι:=Bool) (fun i=>[(2,.dat (ze i))]) (fun i=>[]) (fun i=>Zf i=some r) (fun i=>Z) ?_ ?_))
 ·skip
  refine zp hN Z (qd Z (za (yw tyU9 Z) (bE H fun r2 h3 H=>za (zl (Zd (s1.length:Int) 1 1000 r2 h3) ⟨.inl Z,.inl Z,.inl Z,U⟩) (qd Z (yf (j:=3) Z Z (fun h4 => ?_) (fun h4 => ?_) Z)))))
  ·refine u1 h4 H fun h5 H=>zf Z Z h4 (zd (.dat _) Z) (bE H fun x6 h7 H=>zf Z Z h4 (qm tyU9 Z Z h7) (zf Z Z h4 (yo Z Z) (za (zy Z (bTT h5) Z) (qd Z (yf (j:=8) Z Z (fun h8 => ?_) (fun h8 => ?_) Z)))))
   ·refine u1 h8 H fun h9 H=>zf Z Z h8 (zd (.dat _) Z) (bE H fun r10 h11 H=>zf Z Z h8 (zl (z89 s1 33 r10 h11) ⟨.inl Z,.inl Z,U⟩) (za (zy Z (bTT h9) Z) (qd Z (yf (j:=12) Z Z (fun h12 => ?_) (fun h12 => ?_) Z))))
    ·exact u1 h12 H fun h13 H=>zf Z Z h12 (zd (.dat _) Z) (bE H fun r14 h15 H=>zf Z Z h12 (zl (y22 s1 [63,35] r14 h15) ⟨.inl Z,.inl Z,U⟩) (zf Z Z h12 (yp Z) (za (zy Z (bTT h13) Z) (qe Z ⟨!r14,H,⟨Z,U⟩,U⟩))))
    ·exact u2 h12 H fun h16 H=>zc Z Z h12 (zc Z Z h12 (zc Z Z h12 (za (zq Z (bFF h16) Z) (qe Z ⟨false,H,⟨Z,U⟩,U⟩))))
   ·exact u2 h8 H fun h17 H=>zc Z Z h8 (zc Z Z h8 (za (zq Z (bFF h17) Z) (qd Z (zc Z Z Z (zc Z Z Z (zc Z Z Z (za (zq Z Z Z) (qe Z ⟨false,H,⟨Z,U⟩,U⟩))))))))
  ·exact u2 h4 H fun h18 H=>zc Z Z h4 (zc Z Z h4 (zc Z Z h4 (za (zq Z (bFF h18) Z) (qd Z (zc Z Z Z (zc Z Z Z (za (zq Z Z Z) (qd Z (zc Z Z Z (zc Z Z Z (zc Z Z Z (za (zq Z Z Z) (qe Z ⟨false,H,⟨Z,U⟩,U⟩)))))))))))))
 ·rintro v19 H
  replace H:Zf v19=some r:=H
  unfold Zf at H
  refine zk ?_
  cases H
  exact ⟨U,.inl Z,U⟩
theorem y9v (s1:Bs) (r:(Bool)) (H:z2u s1=some r):Fn Tryz.prog 52 [vstr s1] (zu [ze r]):=by
 refine ⟨by kernel_rfl,yj (us:=[ze r]) Tryz.func52 Z Z Z Z fun X hN => ?_⟩
 unfold z2u at H
 refine zb hN Z (qe Z (yd (ι:=Bool) (fun i=>[(2,.dat (ze i))]) (fun i=>[]) (fun i=>Ys i=some r) (fun i=>Z) ?_ ?_))
 ·skip
  refine zp hN Z (qd Z (za (yw tyU9 Z) (za (we Z Z) (qd Z (yf (j:=3) Z Z (fun h2 => ?_) (fun h2 => ?_) Z)))))
  ·refine u1 h2 H fun h3 H=>zf Z Z h2 (zd (.dat _) Z) (bE H fun r4 h5 H=>zf Z Z h2 (zl (z89 s1 33 r4 h5) ⟨.inl Z,.inl Z,U⟩) (za (zy Z (bTT h3) Z) (qd Z (yf (j:=7) Z Z (fun h6 => ?_) (fun h6 => ?_) Z))))
   ·exact u1 h6 H fun h7 H=>zf Z Z h6 (zd (.dat _) Z) (bE H fun r8 h9 H=>zf Z Z h6 (zl (y23 s1 [35] r8 h9) ⟨.inl Z,.inl Z,U⟩) (zf Z Z h6 (yp Z) (za (zy Z (bTT h7) Z) (qe Z ⟨!r8,H,⟨Z,U⟩,U⟩))))
   ·exact u2 h6 H fun h10 H=>zc Z Z h6 (zc Z Z h6 (zc Z Z h6 (za (zq Z (bFF h10) Z) (qe Z ⟨false,H,⟨Z,U⟩,U⟩))))
  ·exact u2 h2 H fun h11 H=>zc Z Z h2 (zc Z Z h2 (za (zq Z (bFF h11) Z) (qd Z (zc Z Z Z (zc Z Z Z (zc Z Z Z (za (zq Z Z Z) (qe Z ⟨false,H,⟨Z,U⟩,U⟩))))))))
 ·rintro v12 H
  replace H:Ys v12=some r:=H
  unfold Ys at H
  refine zk ?_
  cases H
  exact ⟨U,.inl Z,U⟩
theorem y94 (r1:yv) (r:(Int)) (H:z0o r1=some r):Fn Tryz.prog 15 [vagg (jk r1)] (zu [vint r]):=by
 refine ⟨by kernel_rfl,yj (us:=[vint r]) Tryz.func15 Z Z Z Z fun X hN => ?_⟩
 unfold z0o at H
 refine zb hN Z (zj (wu 1 Z) Z (qe Z (zi (ye (zb hN Z (za (zz z7x Z) (zt (yh tyS3 Z Z) Z (bE H fun r2 h3 H=>za (zl (y95 r1.At r2 h3) ⟨.inl Z,U⟩) (za (yp Z) (qe Z (zg _ Z (fun h4 => ?_) (fun h4 => ?_))))))))))))
 ·refine tE h4 H fun H=>zb hN Z (qe Z (zk ?_))
  cases H
  exact ⟨U,.inl Z,U⟩
 ·refine fE h4 H fun H=>zb hN Z (za (zz Wj Z) (zt (yh tyS9 Z Z) Z (bE H fun r5 h6 H=>za (zl (z6s r1.Method r5 h6) ⟨.inl Z,U⟩) (za (yp Z) (qe Z (zg _ Z (fun h7 => ?_) (fun h7 => ?_)))))))
  ·refine tE h7 H fun H=>zb hN Z (qe Z (zk ?_))
   cases H
   exact ⟨U,.inl Z,U⟩
  ·refine fE h7 H fun H=>zn (zi (zb hN Z (za (zz z7w Z) (zt (yh tyS9 Z Z) Z (bE H fun r8 h9 H=>za (zl (y98 r1.Host r8 h9) ⟨.inl Z,U⟩) (qd Z (za (yc Z Z) (za (yc Z Z) (qe Z (qe Z (zb hN Z (qd Z (za (qo Z Z) (zg _ Z (fun h10 => ?_) (fun h10 => ?_)))))))))))))))
   ·refine tE h10 H fun H=>zb hN Z (qd Z (qe Z (zk ?_)))
    cases H
    exact ⟨U,.inl Z,U⟩
   ·refine fE h10 H fun H=>zn (zi (yd (ι:=Bool) (fun i=>[(1,.ptr 1 0),(40,.dat (ze i))]) (fun i=>[(1,.box none 28 [.dat (vint r1.At),.dat (vstr r1.Method),.dat (vstr r1.Host),.dat (vstr r1.Path),.dat (vstr r1.Query),.dat (vstr r1.From),.dat (vlst (List.map yg r1.Headers)),.dat (vstr r1.Body)])]) (fun i=>Yz r1 i=some r) (fun i=>Z) ?_ ?_))
    ·skip
     refine zp hN Z (za (zz z4z Z) (zt (yh tyS9 Z Z) Z (bE H fun r11 h12 H=>za (zl (y9w r1.Path r11 h12) ⟨.inl Z,U⟩) (za (yp Z) (qd Z (yf (j:=4) Z Z (fun h13 => ?_) (fun h13 => ?_) Z))))))
     ·refine u3 h13 H fun h14 H=>zf Z Z h13 (zz z4y Z) (je Z Z h13 (yh tyS9 Z Z) Z (bE H fun r15 h16 H=>zf Z Z h13 (zl (y9v r1.Query r15 h16) ⟨.inl Z,U⟩) (zf Z Z h13 (yp Z) (za (zq Z (bFF h14) Z) (qd Z (yf (j:=10) Z Z (fun h17 => ?_) (fun h17 => ?_) Z))))))
      ·exact u3 h17 H fun h18 H=>zf Z Z h17 (zz z7v Z) (je Z Z h17 (yh tyS9 Z Z) Z (bE H fun r19 h20 H=>zf Z Z h17 (zl (y3i r1.From r19 h20) ⟨.inl Z,U⟩) (zf Z Z h17 (yp Z) (za (zq Z (bFF h18) Z) ⟨!r19,H,⟨Z,Z,U⟩,⟨Z,U⟩⟩))))
      ·exact u4 h17 H fun h21 H=>zc Z Z h17 (zc Z Z h17 (zc Z Z h17 (zc Z Z h17 (za (zy Z (bTT h21) Z) ⟨true,H,⟨Z,Z,U⟩,⟨Z,U⟩⟩))))
     ·exact u4 h13 H fun h22 H=>zc Z Z h13 (zc Z Z h13 (zc Z Z h13 (zc Z Z h13 (za (zy Z (bTT h22) Z) (qd Z (zc Z Z Z (zc Z Z Z (zc Z Z Z (zc Z Z Z (za (zy Z Z Z) ⟨true,H,⟨Z,Z,U⟩,⟨Z,U⟩⟩))))))))))
    ·rintro v23 H
     replace H:Yz r1 v23=some r:=H
     unfold Yz at H
     refine zg _ Z (fun h24 => ?_) (fun h24 => ?_)
     ·refine tE h24 H fun H=>zb hN Z (qe Z (zk ?_))
      cases H
      exact ⟨U,.inl Z,U⟩
     ·refine fE h24 H fun H=>zn (zi (zb hN Z (za (zz jc Z) (zt (yh qv Z Z) Z (bE H fun r25 h26 H=>za (zl (y3h r1.Headers r25 h26) ⟨.inl Z,U⟩) (qe Z (zb hN Z (qd Z (za (qo Z Z) (zg _ Z (fun h27 => ?_) (fun h27 => ?_)))))))))))
      ·refine tE h27 H fun H=>zb hN Z (qd Z (qe Z (zk ?_)))
       cases H
       exact ⟨U,.inl Z,U⟩
      ·refine fE h27 H fun H=>zn (zi (zb hN Z (za (zz z4x Z) (zt (yh tyS9 Z Z) Z (za (yw tyU9 Z) (za (qs Z Z) (zg _ Z (fun h28 => ?_) (fun h28 => ?_))))))))
       ·refine tE h28 H fun H=>zb hN Z (qe Z (zk ?_))
        cases H
        exact ⟨U,.inl Z,U⟩
       ·refine fE h28 H fun H=>zn (zb hN Z (qe Z (zk ?_)))
        cases H
        exact ⟨U,.inl Z,U⟩
theorem x0l (l1:(List Int)) (r:(Int)) (H:z3f l1=some r):Fn Tryz.prog 14 [vlst (List.map y0g l1)] (zu [vint r]):=by
 refine ⟨by kernel_rfl,yj (us:=[vint r]) Tryz.func14 Z Z Z Z fun X hN => ?_⟩
 unfold z3f at H
 refine zb hN Z (qe Z (zi (zb hN Z (qd Z (za (qg y5g Z) (qd Z (ye (gE H fun h4 H=>qu (fun (k2:Nat) (s:Unit)=>[(5,.dat (vlst (List.map y0g l1))),(6,.dat (vint (l1.length:Int))),(7,.dat (vint (k2:Int)))]) (fun (k2:Nat) (s:Unit)=>[]) () H ⟨Z,Z,Z,U⟩ U (fun _ _=>Z) ?_ ?_))))))))
 ·rintro ⟨⟩ H
  replace H:z7e=some r:=H
  unfold z7e at H
  refine zb hN Z (za (yb Z Z) (zi (zg _ Z (fun h=>(lt_t h).elim) (fun h => ?_))))
  refine yx (zb hN Z (qe Z (zk ?_)))
  cases H
  exact ⟨U,.inl Z,U⟩
 ·rintro k2 x5 ⟨⟩ q3 h6 h7 H hq3
  replace H:Qr k2 x5=some q3:=H
  unfold Qr at H
  refine zb hN Z (za (yb Z Z) (zi (zg _ Z (fun h => ?_) (fun h=>(lt_f h6 h).elim))))
  refine zn (zi (ye (zb hN Z (za (wi y5l (fun _=>Z) Z Z h7) (za (qx y5h Z (ql h7) Z) (qe Z (zb hN Z (qd Z (za (qo Z Z) (zg _ Z (fun h8 => ?_) (fun h8 => ?_)))))))))))
  ·refine tE h8 H fun H=>zb hN Z (qd Z (qe Z (zk ?_)))
   replace H:=retl H hq3
   cases H
   exact ⟨U,.inl Z,U⟩
  ·exact fE h8 H fun H=>zn (zp hN Z (za (qj Z Z (by omega)) (qd Z ⟨_,qa H,⟨Z,Z,Z,U⟩,U⟩)))
theorem y3f (qb:Nat) (r:((List Int))) (H:z2w  = some r):Fn Tryz.prog 105 [vval (.pointer (some ⟨qb,0,none⟩))] (zu [vlst (List.map (CP qb) r)]):=by
 refine ⟨by kernel_rfl,yj (us:=[vlst (List.map (CP qb) r)]) Tryz.func105 Z Z Z Z fun X hN => ?_⟩
 unfold z2w at H
 refine zb hN Z (qe Z (zi (ji mixed hN Z Z (qd Z (za (wo Z) (za (wq z17 Z) (qd Z (za (wo Z) (za (wq xo Z) (qd Z (za (wo Z) (za (wq y0y Z) (qd Z (za (wo Z) (za (wq y0x Z) (qd Z (za (wo Z) (za (wq y01 Z) (qd Z (za (wo Z) (za (wq y00 Z) (za (zw (u':=vlst (List.map (CP qb) ([6,7,8,9,10,11]:List Int))) (yk [[_],[_],[_],[_],[_],[_]] y0v ⟨Z,.inl ⟨_,Z,Z,Z⟩,Z,Z,.inl ⟨_,Z,Z,Z⟩,Z,Z,.inl ⟨_,Z,Z,Z⟩,Z,Z,.inl ⟨_,Z,Z,Z⟩,Z,Z,.inl ⟨_,Z,Z,Z⟩,Z,Z,.inl ⟨_,Z,Z,Z⟩,Z,U⟩ Z Z) Z) (qe Z ?_)))))))))))))))))))))))
 refine ⟨Z,?_⟩
 refine zk ?_
 cases H
 exact ⟨U,.inl Z,U⟩
theorem y90 (a1:Bs) (b2:Bs) (r:(Bool)) (H:z2x a1 b2=some r):Fn Tryz.prog 111 [vstr a1,vstr b2] (zu [ze r]):=by
 refine ⟨by kernel_rfl,yj (us:=[ze r]) Tryz.func111 Z Z Z Z fun X hN => ?_⟩
 unfold z2x at H
 refine zb hN Z (qe Z (zb hN Z (qd Z (bE H fun r3 h4 H=>za (zl (Yk a1 r3 h4) ⟨.inl Z,U⟩) (qd Z (bE H fun r5 h6 H=>za (zl (Yk b2 r5 h6) ⟨.inl Z,U⟩) (za (vx Z Z) (qe Z (zk ?_)))))))))
 cases H
 exact ⟨U,.inl Z,U⟩
end Go.Proofs.YtkldmhhbbceaoaaGreatDoor
