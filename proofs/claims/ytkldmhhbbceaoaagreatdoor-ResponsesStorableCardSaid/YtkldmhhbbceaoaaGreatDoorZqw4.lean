/- Walks along the models. Printed by a program. -/
import Derived.Test.YtkldmhhbbceaoaaGreatDoorZqw3
namespace Go.Proofs.YtkldmhhbbceaoaaGreatDoor
open Go.RowKit
set_option linter.unusedVariables false
set_option maxRecDepth 100000
set_option maxHeartbeats 2000000
theorem z02 (s1:Bs) (cutset2:Bs) (r:(Bs)) (H:ux s1 cutset2=some r):Fn Tryz.prog 101 [vstr s1,vstr cutset2] (zu [vstr r]):=by
 refine ⟨by kernel_rfl,yj (us:=[vstr r]) Tryz.func101 Z Z Z Z fun X hN => ?_⟩
 unfold ux at H
 refine zb hN Z (qe Z (zi (zb hN Z (qd Z (za (vx Z Z) (qd Z (yy Z Z (fun hc=>zd (.dat _) Z) (yy Z Z (fun hc=>vx (cnd (c:=(!(decide (s1=[])))) hc) Z) (za (vj Z Z (fun hb=>(cnd (c:=(!(decide (s1=[])))) (notI hb)))) (zg _ Z (fun h3 => ?_) (fun h3 => ?_)))))))))))
 ·refine tE h3 H fun H=>zb hN Z (qd Z (qe Z (zk ?_)))
  cases H
  exact ⟨U,.inl Z,U⟩
 ·refine fE h3 H fun H=>zn (zi (yd (ι:=Bool) (fun i=>[(0,.dat (vstr s1)),(1,.dat (vstr cutset2)),(21,.dat (ze i))]) (fun i=>[]) (fun i=>Wn s1 cutset2 i=some r) (fun i=>Z) ?_ ?_))
  ·skip
   refine zp hN Z (qd Z (za (yw tyU9 Z) (za (yo Z Z) (qd Z (yf (j:=3) Z Z (fun h4 => ?_) (fun h4 => ?_) Z)))))
   ·exact u1 h4 H fun h5 H=>zf Z Z h4 (zd (.dat _) Z) (bE H fun x6 h7 H=>zf Z Z h4 (qm tyU9 Z Z h7) (zf Z Z h4 (yb Z Z) (za (zy Z (bTT h5) Z) ⟨decide ((x6.toNat:Int) < 128),H,⟨Z,Z,Z,U⟩,U⟩)))
   ·exact u2 h4 H fun h8 H=>zc Z Z h4 (zc Z Z h4 (zc Z Z h4 (za (zq Z (bFF h8) Z) ⟨false,H,⟨Z,Z,Z,U⟩,U⟩)))
  ·rintro v9 H
   replace H:Wn s1 cutset2 v9=some r:=H
   unfold Wn at H
   refine zg _ Z (fun h10 => ?_) (fun h10 => ?_)
   ·refine tE h10 H fun H=>zi (ji mixed hN Z Z (qd Z (qd Z (bE H fun x11 h12 H=>za (qm tyU9 Z Z h12) (bE H fun r13 h14 H=>za (zl (y85 s1 (x11.toNat:Int) r13 h14) ⟨.inl Z,.inl Z,U⟩) (qd Z (za (qm tyU9 Z Z h12) (bE H fun r15 h16 H=>za (zl (y86 r13 (x11.toNat:Int) r15 h16) ⟨.inl Z,.inl Z,U⟩) (qe Z ⟨Z,?_⟩)))))))))
    refine zk ?_
    cases H
    exact ⟨U,.inl Z,U⟩
   ·refine fE h10 H fun H=>?_
    cases H
theorem y29 (s1:Bs) (r:(Bool)) (H:Yc s1=some r):Fn Tryz.prog 82 [vstr s1] (zu [ze r]):=by
 refine ⟨by kernel_rfl,yj (us:=[ze r]) Tryz.func82 Z Z Z Z fun X hN => ?_⟩
 unfold Yc at H
 refine zb hN Z (qe Z (yd (ι:=Bool) (fun i=>[(2,.dat (ze i))]) (fun i=>[]) (fun i=>Zy i=some r) (fun i=>Z) ?_ ?_))
 ·skip
  refine zp hN Z (qd Z (za (yw tyU9 Z) (za (we Z Z) (qd Z (yf (j:=3) Z Z (fun h2 => ?_) (fun h2 => ?_) Z)))))
  ·refine u1 h2 H fun h3 H=>zf Z Z h2 (zd (.dat _) Z) (bE H fun r4 h5 H=>zf Z Z h2 (zl (z87 s1 32 126 r4 h5) ⟨.inl Z,.inl Z,.inl Z,U⟩) (za (zy Z (bTT h3) Z) (qd Z (yf (j:=7) Z Z (fun h6 => ?_) (fun h6 => ?_) Z))))
   ·exact u1 h6 H fun h7 H=>zf Z Z h6 (zd (.dat _) Z) (bE H fun r8 h9 H=>zf Z Z h6 (zl (z02 s1 [32] r8 h9) ⟨.inl Z,.inl Z,U⟩) (zf Z Z h6 (zd (.dat _) Z) (zf Z Z h6 (vx Z Z) (za (zy Z (bTT h7) Z) (qe Z ⟨decide (r8=s1),H,⟨Z,U⟩,U⟩)))))
   ·exact u2 h6 H fun h10 H=>zc Z Z h6 (zc Z Z h6 (zc Z Z h6 (zc Z Z h6 (za (zq Z (bFF h10) Z) (qe Z ⟨false,H,⟨Z,U⟩,U⟩)))))
  ·exact u2 h2 H fun h11 H=>zc Z Z h2 (zc Z Z h2 (za (zq Z (bFF h11) Z) (qd Z (zc Z Z Z (zc Z Z Z (zc Z Z Z (zc Z Z Z (za (zq Z Z Z) (qe Z ⟨false,H,⟨Z,U⟩,U⟩)))))))))
 ·rintro v12 H
  replace H:Zy v12=some r:=H
  unfold Zy at H
  refine zk ?_
  cases H
  exact ⟨U,.inl Z,U⟩
theorem y3a (l1:(List zm)) (r:(Int)) (H:z0g l1=some r):Fn Tryz.prog 83 [vlst (List.map yg l1)] (zu [vint r]):=by
 refine ⟨by kernel_rfl,yj (us:=[vint r]) Tryz.func83 Z Z Z Z fun X hN => ?_⟩
 unfold z0g at H
 refine zb hN Z (qe Z (zi (zb hN Z (qd Z (za (qg Wd Z) (za (qs Z Z) (zg _ Z (fun h2 => ?_) (fun h2 => ?_))))))))
 ·refine tE h2 H fun H=>zb hN Z (qe Z (zk ?_))
  cases H
  exact ⟨U,.inl Z,U⟩
 ·refine fE h2 H fun H=>zn (zi (zb hN Z (qd Z (za (qg Wd Z) (qd Z (ye (gE H fun h5 H=>qu (fun (k3:Nat) (s:Unit)=>[(8,.dat (vlst (List.map yg l1))),(9,.dat (vint (l1.length:Int))),(10,.dat (vint (k3:Int)))]) (fun (k3:Nat) (s:Unit)=>[]) () H ⟨Z,Z,Z,U⟩ U (fun _ _=>Z) ?_ ?_)))))))
  ·rintro ⟨⟩ H
   replace H:z52=some r:=H
   unfold z52 at H
   refine zb hN Z (za (yb Z Z) (zi (zg _ Z (fun h=>(lt_t h).elim) (fun h => ?_))))
   refine yx (zb hN Z (qe Z (zk ?_)))
   cases H
   exact ⟨U,.inl Z,U⟩
  ·rintro k3 x6 ⟨⟩ q4 h7 h8 H hq4
   replace H:z50 k3 x6=some q4:=H
   unfold z50 at H
   refine zb hN Z (za (yb Z Z) (zi (zg _ Z (fun h => ?_) (fun h=>(lt_f h7 h).elim))))
   refine zn (zi (ye (zb hN Z (za (wi z42 (fun _=>Z) Z Z h8) (za (z5c uj Z (ql h8) Z) (zj (wc 1 jm Z) Z (zj (qq uj Z Z Z Z) Z (zi (zb hN Z (za (zz z4w Z) (zt (yh tyS9 Z Z) Z (bE H fun r9 h10 H=>za (zl (z6q x6.Name r9 h10) ⟨.inl Z,U⟩) (za (yp Z) (zg _ Z (fun h11 => ?_) (fun h11 => ?_)))))))))))))))
   ·refine tE h11 H fun H=>zb hN Z (qe Z (zk ?_))
    replace H:=retl H hq4
    cases H
    exact ⟨U,.inl Z,U⟩
   ·refine fE h11 H fun H=>zn (zb hN Z (za (zz z4v Z) (zt (yh tyS9 Z Z) Z (bE H fun r12 h13 H=>za (zl (y29 x6.Value r12 h13) ⟨.inl Z,U⟩) (za (yp Z) (zg _ Z (fun h14 => ?_) (fun h14 => ?_)))))))
    ·refine tE h14 H fun H=>zb hN Z (qe Z (zk ?_))
     replace H:=retl H hq4
     cases H
     exact ⟨U,.inl Z,U⟩
    ·exact fE h14 H fun H=>zn (zp hN Z (za (qj Z Z (by omega)) (qd Z ⟨_,qa H,⟨Z,Z,Z,U⟩,U⟩)))
theorem y9n (r1:yv) (r:(Int)) (H:Yd r1=some r):Fn Tryz.prog 39 [vagg (jk r1)] (zu [vint r]):=by
 refine ⟨by kernel_rfl,yj (us:=[vint r]) Tryz.func39 Z Z Z Z fun X hN => ?_⟩
 unfold Yd at H
 refine zb hN Z (zj (wu 1 Z) Z (qe Z (zi (zb hN Z (za (zz z7x Z) (zt (yh tyS3 Z Z) Z (bE H fun r2 h3 H=>za (zl (y9p r1.At r2 h3) ⟨.inl Z,U⟩) (za (yp Z) (zg _ Z (fun h4 => ?_) (fun h4 => ?_))))))))))
 ·refine tE h4 H fun H=>zb hN Z (qe Z (zk ?_))
  cases H
  exact ⟨U,.inl Z,U⟩
 ·refine fE h4 H fun H=>zn (zi (zb hN Z (za (zz Wj Z) (zt (yh tyS9 Z Z) Z (bE H fun r5 h6 H=>za (zl (z6q r1.Method r5 h6) ⟨.inl Z,U⟩) (za (yp Z) (zg _ Z (fun h7 => ?_) (fun h7 => ?_))))))))
  ·refine tE h7 H fun H=>zb hN Z (qe Z (zk ?_))
   cases H
   exact ⟨U,.inl Z,U⟩
  ·refine fE h7 H fun H=>zn (zi (yd (ι:=Bool) (fun i=>[(1,.ptr 1 0),(33,.dat (ze i))]) (fun i=>[(1,.box none 28 [.dat (vint r1.At),.dat (vstr r1.Method),.dat (vstr r1.Host),.dat (vstr r1.Path),.dat (vstr r1.Query),.dat (vstr r1.From),.dat (vlst (List.map yg r1.Headers)),.dat (vstr r1.Body)])]) (fun i=>uv r1 i=some r) (fun i=>Z) ?_ ?_))
   ·skip
    refine zp hN Z (za (zz z7w Z) (zt (yh tyS9 Z Z) Z (bE H fun r8 h9 H=>za (zl (y9k r1.Host r8 h9) ⟨.inl Z,U⟩) (za (yp Z) (qd Z (yf (j:=4) Z Z (fun h10 => ?_) (fun h10 => ?_) Z))))))
    ·refine u3 h10 H fun h11 H=>zf Z Z h10 (zz z4z Z) (je Z Z h10 (yh tyS9 Z Z) Z (bE H fun r12 h13 H=>zf Z Z h10 (zl (y9l r1.Path r12 h13) ⟨.inl Z,U⟩) (zf Z Z h10 (qo Z Z) (za (zq Z (bFF h11) Z) (qd Z (yf (j:=10) Z Z (fun h14 => ?_) (fun h14 => ?_) Z))))))
     ·refine u3 h14 H fun h15 H=>zf Z Z h14 (zz z4y Z) (je Z Z h14 (yh tyS9 Z Z) Z (bE H fun r16 h17 H=>zf Z Z h14 (zl (y9g r1.Query r16 h17) ⟨.inl Z,U⟩) (zf Z Z h14 (qo Z Z) (za (zq Z (bFF h15) Z) (qd Z (yf (j:=16) Z Z (fun h18 => ?_) (fun h18 => ?_) Z))))))
      ·exact u3 h18 H fun h19 H=>zf Z Z h18 (zz z7v Z) (je Z Z h18 (yh tyS9 Z Z) Z (bE H fun r20 h21 H=>zf Z Z h18 (zl (y29 r1.From r20 h21) ⟨.inl Z,U⟩) (zf Z Z h18 (yp Z) (za (zq Z (bFF h19) Z) ⟨!r20,H,⟨Z,Z,U⟩,⟨Z,U⟩⟩))))
      ·exact u4 h18 H fun h22 H=>zc Z Z h18 (zc Z Z h18 (zc Z Z h18 (zc Z Z h18 (za (zy Z (bTT h22) Z) ⟨true,H,⟨Z,Z,U⟩,⟨Z,U⟩⟩))))
     ·exact u4 h14 H fun h23 H=>zc Z Z h14 (zc Z Z h14 (zc Z Z h14 (zc Z Z h14 (za (zy Z (bTT h23) Z) (qd Z (zc Z Z Z (zc Z Z Z (zc Z Z Z (zc Z Z Z (za (zy Z Z Z) ⟨true,H,⟨Z,Z,U⟩,⟨Z,U⟩⟩))))))))))
    ·exact u4 h10 H fun h24 H=>zc Z Z h10 (zc Z Z h10 (zc Z Z h10 (zc Z Z h10 (za (zy Z (bTT h24) Z) (qd Z (zc Z Z Z (zc Z Z Z (zc Z Z Z (zc Z Z Z (za (zy Z Z Z) (qd Z (zc Z Z Z (zc Z Z Z (zc Z Z Z (zc Z Z Z (za (zy Z Z Z) ⟨true,H,⟨Z,Z,U⟩,⟨Z,U⟩⟩))))))))))))))))
   ·rintro v25 H
    replace H:uv r1 v25=some r:=H
    unfold uv at H
    refine zg _ Z (fun h26 => ?_) (fun h26 => ?_)
    ·refine tE h26 H fun H=>zb hN Z (qe Z (zk ?_))
     cases H
     exact ⟨U,.inl Z,U⟩
    ·refine fE h26 H fun H=>zn (zi (zb hN Z (za (zz jc Z) (zt (yh qv Z Z) Z (bE H fun r27 h28 H=>za (zl (y3a r1.Headers r27 h28) ⟨.inl Z,U⟩) (qe Z (zb hN Z (qd Z (za (qo Z Z) (zg _ Z (fun h29 => ?_) (fun h29 => ?_)))))))))))
     ·refine tE h29 H fun H=>zb hN Z (qd Z (qe Z (zk ?_)))
      cases H
      exact ⟨U,.inl Z,U⟩
     ·refine fE h29 H fun H=>zn (zi (zb hN Z (za (zz z4x Z) (zt (yh tyS9 Z Z) Z (za (yw tyU9 Z) (za (qs Z Z) (zg _ Z (fun h30 => ?_) (fun h30 => ?_))))))))
      ·refine tE h30 H fun H=>zb hN Z (qe Z (zk ?_))
       cases H
       exact ⟨U,.inl Z,U⟩
      ·refine fE h30 H fun H=>zn (zb hN Z (qe Z (zk ?_)))
       cases H
       exact ⟨U,.inl Z,U⟩
theorem z6r (a1:ya) (r:(Int)) (H:jt a1=some r):Fn Tryz.prog 40 [vagg (wt a1)] (zu [vint r]):=by
 refine ⟨by kernel_rfl,yj (us:=[vint r]) Tryz.func40 Z Z Z Z fun X hN => ?_⟩
 unfold jt at H
 refine zb hN Z (zj (wu 1 Z) Z (qe Z (zi (zb hN Z (za (zz Wi Z) (zt (yh tyS3 Z Z) Z (bE H fun r2 h3 H=>za (zl (z88 a1.Status 100 599 r2 h3) ⟨.inl Z,.inl Z,.inl Z,U⟩) (zg _ Z (fun h4 => ?_) (fun h4 => ?_)))))))))
 ·refine tE h4 H fun H=>zb hN Z (qe Z (zk ?_))
  cases H
  exact ⟨U,.inl Z,U⟩
 ·refine fE h4 H fun H=>zn (zi (zb hN Z (za (zz jb Z) (zt (yh qv Z Z) Z (bE H fun r5 h6 H=>za (zl (y3a a1.Headers r5 h6) ⟨.inl Z,U⟩) (qe Z (zb hN Z (qd Z (za (qo Z Z) (zg _ Z (fun h7 => ?_) (fun h7 => ?_)))))))))))
  ·refine tE h7 H fun H=>zb hN Z (qd Z (qe Z (zk ?_)))
   cases H
   exact ⟨U,.inl Z,U⟩
  ·refine fE h7 H fun H=>zn (zi (zb hN Z (za (zz z7u Z) (zt (yh tyS9 Z Z) Z (za (yw tyU9 Z) (za (qs Z Z) (zg _ Z (fun h8 => ?_) (fun h8 => ?_))))))))
   ·refine tE h8 H fun H=>zb hN Z (qe Z (zk ?_))
    cases H
    exact ⟨U,.inl Z,U⟩
   ·refine fE h8 H fun H=>zn (zb hN Z (qe Z (zk ?_)))
    cases H
    exact ⟨U,.inl Z,U⟩
theorem y3p (qb:Nat) (r:((List Bs)×(List Int))) (H:z3j  = some r):Fn Tryz.prog 88 [vval (.pointer (some ⟨qb,0,none⟩))] (zu [vlst (List.map zo r.1),vlst (List.map (CP qb) r.2)]):=by
 refine ⟨by kernel_rfl,yj (us:=[vlst (List.map zo r.1),vlst (List.map (CP qb) r.2)]) Tryz.func88 Z Z Z Z fun X hN => ?_⟩
 unfold z3j at H
 refine zb hN Z (qe Z (qe Z (zi (ji mixed hN Z Z (za (zw (u':=vlst (List.map zo [[109,97,120,45,97,103,101],[115,45,109,97,120,97,103,101],[115,116,97,108,101,45,119,104,105,108,101,45,114,101,118,97,108,105,100,97,116,101],[115,116,97,108,101,45,105,102,45,101,114,114,111,114],[109,97,120,45,115,116,97,108,101],[109,105,110,45,102,114,101,115,104]])) (yk [[_],[_],[_],[_],[_],[_]] yn ⟨Z,.inl ⟨_,Z,Z,Z⟩,Z,Z,.inl ⟨_,Z,Z,Z⟩,Z,Z,.inl ⟨_,Z,Z,Z⟩,Z,Z,.inl ⟨_,Z,Z,Z⟩,Z,Z,.inl ⟨_,Z,Z,Z⟩,Z,Z,.inl ⟨_,Z,Z,Z⟩,Z,U⟩ Z Z) Z) (qd Z (za (wo Z) (za (wq z17 Z) (qd Z (za (wo Z) (za (wq xo Z) (qd Z (za (wo Z) (za (wq y0y Z) (qd Z (za (wo Z) (za (wq y0x Z) (qd Z (za (wo Z) (za (wq y01 Z) (qd Z (za (wo Z) (za (wq y00 Z) ?_)))))))))))))))))))))))
 refine za (zw (u':=vlst (List.map (CP qb) ([6,7,8,9,10,11]:List Int))) (yk [[_],[_],[_],[_],[_],[_]] y0v ⟨Z,.inl ⟨_,Z,Z,Z⟩,Z,Z,.inl ⟨_,Z,Z,Z⟩,Z,Z,.inl ⟨_,Z,Z,Z⟩,Z,Z,.inl ⟨_,Z,Z,Z⟩,Z,Z,.inl ⟨_,Z,Z,Z⟩,Z,Z,.inl ⟨_,Z,Z,Z⟩,Z,U⟩ Z Z) Z) (qe Z (qe Z ⟨Z,?_⟩))
 refine zk ?_
 cases H
 exact ⟨U,.inl Z,.inl Z,U⟩
theorem y9b (s t:Bs) (r:Bool) (H:z58 s t=some r):Fn Tryz.prog 170 [vstr s,vstr t] (zu [ze r]):=by
 unfold z58 at H
 obtain ⟨⟨h1,h2,h3⟩,h4⟩:=gif H
 cases h4
 refine xl (by kernel_rfl) fun M w vs hM h => ?_
 have hv:=ka (us:=[.string ⟨s.toArray⟩,.string ⟨t.toArray⟩]) h
 subst hv
 refine (Tryz.strings_EqualFold ⟨s.toArray⟩ ⟨t.toArray⟩ w (by simp [ByteArray.size]; omega) (fun j b hb=>z4j h2 j b (by simpa using hb)) (fun j b hb=>z4j h3 j b (by simpa using hb))).mono ?_
 rintro e w' ⟨rfl,rfl⟩
 exact ⟨_,Z,Z,Kp.refl _ _⟩

theorem y9i (h1:zm) (name2:Bs) (r:(Bool)) (H:z2q h1 name2=some r):Fn Tryz.prog 128 [vagg (yg h1),vstr name2] (zu [ze r]):=by
 refine ⟨by kernel_rfl,yj (us:=[ze r]) Tryz.func128 Z Z Z Z fun X hN => ?_⟩
 unfold z2q at H
 refine zb hN Z (zj (wu 1 Z) Z (qe Z (zb hN Z (za (zz z4w Z) (zt (yh tyS9 Z Z) Z (qd Z (bE H fun r3 h4 H=>za (zl (y9b h1.Name name2 r3 h4) ⟨.inl Z,.inl Z,U⟩) (qe Z (zk ?_)))))))))
 cases H
 exact ⟨U,.inl Z,U⟩
theorem z6p (l1:(List zm)) (name2:Bs) (r:((List Bs))) (H:vy l1 name2=some r):Fn Tryz.prog 90 [vlst (List.map yg l1),vstr name2] (zu [vlst (List.map zo r)]):=by
 refine ⟨by kernel_rfl,yj (us:=[vlst (List.map zo r)]) Tryz.func90 Z Z Z Z fun X hN => ?_⟩
 unfold vy at H
 refine zb hN Z (qe Z (zb hN Z (qe Z (zi (zb hN Z (qd Z (za (qg Wd Z) (qd Z (ye (km 5 1 9 1 Z Z Z (gE H fun h6 H=>qu (fun (k4:Nat) (s:(List Bs))=>[(1,.dat (vstr name2)),(5,.row 1 s.length),(8,.dat (vlst (List.map yg l1))),(9,.dat (vint (l1.length:Int))),(10,.dat (vint (k4:Int)))]) (fun (k4:Nat) (s:(List Bs))=>[(1,.row 9 1 (List.map zo s))]) [] H ⟨Z,Z,Z,Z,Z,U⟩ ⟨Z,U⟩ (fun _ _=>Z) ?_ ?_)))))))))))
 ·rintro l3 H
  replace H:z5y l3=some r:=H
  unfold z5y at H
  refine zb hN Z (za (yb Z Z) (zi (zg _ Z (fun h=>(lt_t h).elim) (fun h => ?_))))
  refine yx (zb hN Z (za (zd (.row _ _) Z) (za (qc (.row _ _) Z) (zk ?_))))
  cases H
  exact ⟨U,uk Z Z,U⟩
 ·rintro k4 x7 l3 q5 h8 h9 H hq5
  replace H:Zx name2 k4 x7 l3=some q5:=H
  unfold Zx at H
  refine zb hN Z (za (yb Z Z) (zi (zg _ Z (fun h => ?_) (fun h=>(lt_f h8 h).elim))))
  refine zn (yd (ι:=(List Bs)) (fun i=>[(1,.dat (vstr name2)),(5,.row 1 i.length),(8,.dat (vlst (List.map yg l1))),(9,.dat (vint (l1.length:Int))),(10,.dat (vint (k4:Int)))]) (fun i=>[(1,.row 9 1 (List.map zo i))]) (fun i=>Ww i=some q5) (fun i=>Z) ?_ ?_)
  ·skip
   refine ye (zb hN Z (za (wi z42 (fun _=>Z) Z Z h9) (za (z5c uj Z (ql h9) Z) (zj (wc 2 jm Z) Z (zj (qq uj Z Z Z Z) Z (zb hN Z (zt (qi uj Z Z Z) Z (qd Z (bE H fun r10 h11 H=>za (zl (y9i x7 name2 r10 h11) ⟨.inl Z,.inl Z,U⟩) (zg _ Z (fun h12 => ?_) (fun h12 => ?_)))))))))))
   ·refine tE h12 H fun H=>zp hN Z (za (zd (.row _ _) Z) (za (zz z4v Z) (zt (yh tyS9 Z Z) Z (za (zw (u':=vlst (List.map zo [x7.Value])) (yk [[_]] yn ⟨Z,.inl ⟨_,Z,Z,Z⟩,Z,U⟩ Z Z) Z) (gE H fun h13 H=>zj (vq yn (fun _=>Z) Z Z Z ⟨by simp,by first | (simp; done) | simpa using h13⟩ Z) Z ?_)))))
    exact za (qc (.row _ _) Z) ⟨(l3++[x7.Value]),H,⟨Z,Z,Z,Z,Z,U⟩,⟨Z,U⟩⟩
   ·exact fE h12 H fun H=>zn ⟨l3,H,⟨Z,Z,Z,Z,Z,U⟩,⟨Z,U⟩⟩
  ·rintro out14 H
   replace H:Ww out14=some q5:=H
   unfold Ww at H
   exact zp hN Z (za (qj Z Z (by omega)) (qd Z ⟨_,qa H,⟨Z,Z,Z,Z,Z,U⟩,⟨Z,U⟩⟩))
theorem y9m (values1:(List Bs)) (r:((List Bs))) (H:xw values1=some r):Fn Tryz.prog 89 [vlst (List.map zo values1)] (zu [vlst (List.map zo r)]):=by
 refine ⟨by kernel_rfl,yj (us:=[vlst (List.map zo r)]) Tryz.func89 Z Z Z Z fun X hN => ?_⟩
 unfold xw at H
 refine zb hN Z (qe Z (zb hN Z (qe Z (zi (zb hN Z (qd Z (za (qg wa Z) (qd Z (ye (km 3 1 9 1 Z Z Z (gE H fun h5 H=>qu (fun (k3:Nat) (s:(List Bs))=>[(3,.row 1 s.length),(8,.dat (vlst (List.map zo values1))),(9,.dat (vint (values1.length:Int))),(10,.dat (vint (k3:Int)))]) (fun (k3:Nat) (s:(List Bs))=>[(1,.row 9 1 (List.map zo s))]) [] H ⟨Z,Z,Z,Z,U⟩ ⟨Z,U⟩ (fun _ _=>Z) ?_ ?_)))))))))))
 ·rintro l2 H
  replace H:Wy l2=some r:=H
  unfold Wy at H
  refine zb hN Z (za (yb Z Z) (zi (zg _ Z (fun h=>(lt_t h).elim) (fun h => ?_))))
  refine yx (zb hN Z (za (zd (.row _ _) Z) (za (qc (.row _ _) Z) (zk ?_))))
  cases H
  exact ⟨U,uk Z Z,U⟩
 ·rintro k3 x6 l2 q4 h7 h8 H hq4
  replace H:ut k3 x6 l2=some q4:=H
  unfold ut at H
  refine zb hN Z (za (yb Z Z) (zi (zg _ Z (fun h => ?_) (fun h=>(lt_f h7 h).elim))))
  refine zn (zi (ye (zb hN Z (za (wi vi (fun _=>Z) Z Z h8) (za (qx tyS9 Z (ql h8) Z) (qe Z (zb hN Z (qd Z (bE H fun r9 h10 H=>za (zl (z3n x6 [44] r9 h10) ⟨.inl Z,.inl Z,U⟩) (za (qg wa Z) (qd Z (ye (gE H fun h14 H=>qu (fun (k12:Nat) (s:(List Bs))=>[(3,.row 1 s.length),(8,.dat (vlst (List.map zo values1))),(9,.dat (vint (values1.length:Int))),(10,.dat (vint (k3:Int))),(15,.dat (vlst (List.map zo r9))),(16,.dat (vint (r9.length:Int))),(17,.dat (vint (k12:Int)))]) (fun (k12:Nat) (s:(List Bs))=>[(1,.row 9 1 (List.map zo s))]) l2 H ⟨Z,Z,Z,Z,Z,Z,Z,U⟩ ⟨Z,U⟩ (fun _ _=>Z) ?_ ?_)))))))))))))
  ·rintro l11 H
   replace H:Wx l11=some q4:=H
   unfold Wx at H
   refine zb hN Z (za (yb Z Z) (zi (zg _ Z (fun h=>(lt_t h).elim) (fun h => ?_))))
   exact yx (zp hN Z (za (qj Z Z (by omega)) (qd Z ⟨_,qa H,⟨Z,Z,Z,Z,U⟩,⟨Z,U⟩⟩)))
  ·rintro k12 x15 l11 q13 h16 h17 H hq13
   replace H:ur k12 x15 l11=some q13:=H
   unfold ur at H
   refine zb hN Z (za (yb Z Z) (zi (zg _ Z (fun h => ?_) (fun h=>(lt_f h16 h).elim))))
   refine zn (yd (ι:=(List Bs)) (fun i=>[(3,.row 1 i.length),(8,.dat (vlst (List.map zo values1))),(9,.dat (vint (values1.length:Int))),(10,.dat (vint (k3:Int))),(15,.dat (vlst (List.map zo r9))),(16,.dat (vint (r9.length:Int))),(17,.dat (vint (k12:Int)))]) (fun i=>[(1,.row 9 1 (List.map zo i))]) (fun i=>uu i=some q13) (fun i=>Z) ?_ ?_)
   ·skip
    refine ye (zb hN Z (za (wi vi (fun _=>Z) Z Z h17) (za (qx tyS9 Z (ql h17) Z) (qe Z (zb hN Z (qd Z (bE H fun r18 h19 H=>za (zl (z02 x15 [32] r18 h19) ⟨.inl Z,.inl Z,U⟩) (qe Z (zb hN Z (qd Z (za (kn Z Z) (zg _ Z (fun h20 => ?_) (fun h20 => ?_)))))))))))))
    ·refine tE h20 H fun H=>zp hN Z (za (zd (.row _ _) Z) (qd Z (za (zw (u':=vlst (List.map zo [r18])) (yk [[_]] yn ⟨Z,.inl ⟨_,Z,Z,Z⟩,Z,U⟩ Z Z) Z) (gE H fun h21 H=>zj (vq yn (fun _=>Z) Z Z Z ⟨by simp,by first | (simp; done) | simpa using h21⟩ Z) Z ?_))))
     exact za (qc (.row _ _) Z) ⟨(l11++[r18]),H,⟨Z,Z,Z,Z,Z,Z,Z,U⟩,⟨Z,U⟩⟩
    ·exact fE h20 H fun H=>zn ⟨l11,H,⟨Z,Z,Z,Z,Z,Z,Z,U⟩,⟨Z,U⟩⟩
   ·rintro out22 H
    replace H:uu out22=some q13:=H
    unfold uu at H
    exact zp hN Z (za (qj Z Z (by omega)) (qd Z ⟨_,qa H,⟨Z,Z,Z,Z,Z,Z,Z,U⟩,⟨Z,U⟩⟩))
theorem x0r (s1:Bs) (r:(Int×Bool)) (H:z3i s1=some r):Fn Tryz.prog 129 [vstr s1] (zu [vint r.1,ze r.2]):=by
 refine ⟨by kernel_rfl,yj (us:=[vint r.1,ze r.2]) Tryz.func129 Z Z Z Z fun X hN => ?_⟩
 unfold z3i at H
 refine zb hN Z (qe Z (qe Z (zb hN Z (qd Z (bE H fun r2 h3 H=>za (zl (y3b s1 r2 h3) ⟨.inl Z,U⟩) (qd Z (za (yc Z Z) (za (yc Z Z) (qe Z (qe Z (yd (ι:=Bool) (fun i=>[(2,.dat (vint r2.1)),(3,.dat (ze i))]) (fun i=>[]) (fun i=>z10 r2 i=some r) (fun i=>Z) ?_ ?_)))))))))))
 ·skip
  refine zp hN Z (qd Z (qd Z (qd Z (yf (j:=2) Z Z (fun h4 => ?_) (fun h4 => ?_) Z))))
  ·exact u1 h4 H fun h5 H=>zf Z Z h4 (zd (.dat _) Z) (bE H fun r6 h7 H=>zf Z Z h4 (zl (z88 r2.1 0 100000000 r6 h7) ⟨.inl Z,.inl Z,.inl Z,U⟩) (zf Z Z h4 (yp Z) (za (zy Z (bTT h5) Z) (qe Z (qe Z ⟨!r6,H,⟨Z,Z,U⟩,U⟩)))))
  ·exact u2 h4 H fun h8 H=>zc Z Z h4 (zc Z Z h4 (zc Z Z h4 (za (zq Z (bFF h8) Z) (qe Z (qe Z ⟨false,H,⟨Z,Z,U⟩,U⟩)))))
 ·rintro v9 H
  replace H:z10 r2 v9=some r:=H
  unfold z10 at H
  refine zk ?_
  cases H
  exact ⟨U,.inl Z,.inl Z,U⟩
theorem Yk (s:Bs) (r:Bs) (H:vu s=some r):Fn Tryz.prog 59 [vstr s] (zu [vstr r]):=by
 unfold vu at H
 obtain ⟨⟨h1,h2⟩,h3⟩:=gif H
 cases h3
 refine xl (by kernel_rfl) fun M w vs hM h => ?_
 have hv:=ka (us:=[.string ⟨s.toArray⟩]) h
 subst hv
 refine (Tryz.strings_ToLower_ascii ⟨s.toArray⟩ w (by simp [ByteArray.size]; omega) (fun j b hb=>z4j h2 j b (by simpa using hb))).mono ?_
 rintro e w' ⟨rfl,hb⟩
 exact ⟨_,Z,Z,Kp.of_below hb⟩

theorem x0u (qb:Nat) (r:((List Bs)×(List Int))) (H:z6k  = some r):Fn Tryz.prog 130 [vval (.pointer (some ⟨qb,0,none⟩))] (zu [vlst (List.map zo r.1),vlst (List.map (CP qb) r.2)]):=by
 refine ⟨by kernel_rfl,yj (us:=[vlst (List.map zo r.1),vlst (List.map (CP qb) r.2)]) Tryz.func130 Z Z Z Z fun X hN => ?_⟩
 unfold z6k at H
 refine zb hN Z (qe Z (qe Z (zi (ji mixed hN Z Z (za (zw (u':=vlst (List.map zo [[110,111,45,115,116,111,114,101],[110,111,45,99,97,99,104,101],[112,114,105,118,97,116,101],[112,117,98,108,105,99],[109,117,115,116,45,114,101,118,97,108,105,100,97,116,101],[111,110,108,121,45,105,102,45,99,97,99,104,101,100]])) (yk [[_],[_],[_],[_],[_],[_]] yn ⟨Z,.inl ⟨_,Z,Z,Z⟩,Z,Z,.inl ⟨_,Z,Z,Z⟩,Z,Z,.inl ⟨_,Z,Z,Z⟩,Z,Z,.inl ⟨_,Z,Z,Z⟩,Z,Z,.inl ⟨_,Z,Z,Z⟩,Z,Z,.inl ⟨_,Z,Z,Z⟩,Z,U⟩ Z Z) Z) (qd Z (za (wo Z) (za (wq Wh Z) (qd Z (za (wo Z) (za (wq z4u Z) (qd Z (za (wo Z) (za (wq z4t Z) (qd Z (za (wo Z) (za (wq z4s Z) (qd Z (za (wo Z) (za (wq z4r Z) (qd Z (za (wo Z) (za (wq y0z Z) ?_)))))))))))))))))))))))
 refine za (zw (u':=vlst (List.map (CP qb) ([0,1,2,3,4,5]:List Int))) (yk [[_],[_],[_],[_],[_],[_]] y0w ⟨Z,.inl ⟨_,Z,Z,Z⟩,Z,Z,.inl ⟨_,Z,Z,Z⟩,Z,Z,.inl ⟨_,Z,Z,Z⟩,Z,Z,.inl ⟨_,Z,Z,Z⟩,Z,Z,.inl ⟨_,Z,Z,Z⟩,Z,Z,.inl ⟨_,Z,Z,Z⟩,Z,U⟩ Z Z) Z) (qe Z (qe Z ⟨Z,?_⟩))
 refine zk ?_
 cases H
 exact ⟨U,.inl Z,.inl Z,U⟩
theorem z3o (s1:(List Bs)) (v2:Bs) (r:(Int)) (H:uz s1 v2=some r):Fn Tryz.prog 106 [vlst (List.map zo s1),vstr v2] (zu [vint r]):=by
 refine ⟨by kernel_rfl,yj (us:=[vint r]) Tryz.func106 Z Z Z Z fun X hN => ?_⟩
 unfold uz at H
 refine zb hN Z (qe Z (zi (zb hN Z (qd Z (za (qg wa Z) (qd Z (ye (gE H fun h5 H=>qu (fun (k3:Nat) (s:Unit)=>[(0,.dat (vlst (List.map zo s1))),(1,.dat (vstr v2)),(7,.dat (vint (s1.length:Int))),(8,.dat (vint (k3:Int)))]) (fun (k3:Nat) (s:Unit)=>[]) () H ⟨Z,Z,Z,Z,U⟩ U (fun _ _=>Z) ?_ ?_))))))))
 ·rintro ⟨⟩ H
  replace H:z79=some r:=H
  unfold z79 at H
  refine zb hN Z (za (yb Z Z) (zi (zg _ Z (fun h=>(lt_t h).elim) (fun h => ?_))))
  refine yx (zb hN Z (qe Z (zk ?_)))
  cases H
  exact ⟨U,.inl Z,U⟩
 ·rintro k3 x6 ⟨⟩ q4 h7 h8 H hq4
  replace H:z78 v2 k3 x6=some q4:=H
  unfold z78 at H
  refine zb hN Z (za (yb Z Z) (zi (zg _ Z (fun h => ?_) (fun h=>(lt_f h7 h).elim))))
  refine zn (zi (ye (zb hN Z (qd Z (qe Z (zb hN Z (qd Z (qd Z (qd Z (za (wi vi (fun _=>Z) Z Z h8) (za (qx tyS9 Z (ql h8) Z) (za (vx Z Z) (zg _ Z (fun h9 => ?_) (fun h9 => ?_))))))))))))))
  ·refine tE h9 H fun H=>zb hN Z (qd Z (qe Z (zk ?_)))
   replace H:=retl H hq4
   cases H
   exact ⟨U,.inl Z,U⟩
  ·exact fE h9 H fun H=>zn (zp hN Z (za (qj Z Z (by omega)) (qd Z ⟨_,qa H,⟨Z,Z,Z,Z,U⟩,U⟩)))
theorem x0n (s1:zv) (v2:Bs) (r:(Bool×zv)) (H:z0y s1 v2=some r):Imp Tryz.prog 91 63 (wd s1) [vstr v2] (zu [ze r.1]) (wd r.2):=by
 refine wl (us:=[ze r.1]) (cs':=(wd r.2)) (by kernel_rfl) Tryz.func91 Z Z Z Z fun X bl hN => ?_
 unfold z0y at H
 refine zb hN Z (qe Z (zb hN Z (qd Z (bE H fun r3 h4 H=>za (zl (z6o v2 [61] r3 h4) ⟨.inl Z,.inl Z,U⟩) (qd Z (za (yc Z Z) (za (yc Z Z) (za (yc Z Z) (qe Z (qe Z (qe Z (zb hN Z (qd Z (bE H fun r5 h6 H=>za (zl (x0r r3.2.1 r5 h6) ⟨.inl Z,U⟩) (qd Z (za (yc Z Z) (za (yc Z Z) (qe Z (qe Z (zi (zb hN Z ?_)))))))))))))))))))))
 refine qd Z (bE H fun r7 h8 H=>za (zl (z6q r3.1 r7 h8) ⟨.inl Z,U⟩) (za (yp Z) (qd Z (yy Z Z (fun hc=>zd (.dat _) Z) (yy Z Z (fun hc=>zd (.dat _) (cnd (c:=(!(!r7))) hc)) (wv Z Z (fun hc=>zd (.dat _) Z) (wv Z Z (fun hc=>yp (cnd (c:=((!(!r7)) && r3.2.2)) hc)) (yy Z Z (fun hc=>qw (cnd (c:=(!(!r7))) hc) (fun hb=>(cnd (c:=((!(!r7)) && r3.2.2)) (andI hc hb))) Z) (za (vj Z Z (fun hb=>(cnd (c:=(!(!r7))) (notI hb)))) (zg _ Z (fun h9 => ?_) (fun h9 => ?_)))))))))))
 ·refine tE h9 H fun H=>zb hN Z (qe Z (zk ?_))
  cases H
  exact ⟨U,⟨.inl Z,U⟩,Z⟩
 ·refine fE h9 H fun H=>zn (zb hN Z (qd Z (bE H fun r10 h11 H=>za (zl (Yk r3.1 r10 h11) ⟨.inl Z,U⟩) (qe Z (zb hN Z (za (zd (.ptr _ _) Z) (bE H fun r12 h13 H=>zt (qt (s := .dr 0 (fun qb=>vtup [vlst (List.map zo r12.1),vlst (List.map (CP qb) r12.2)])) 0 (fun qb=>zl (x0u qb r12 h13) ⟨.inl Z,U⟩) Z Z) Z (za (zd (.dr _ _) Z) (zt (qt (s := .dat (vlst (List.map zo r12.1))) 0 (fun qb=>yc Z Z) Z Z) Z (zt (qt (s := .dr 0 (fun qb=>vlst (List.map (CP qb) r12.2))) 0 (fun qb=>yc Z Z) Z Z) Z (qe Z (za (qc (.dr _ _) Z) (zi (zb hN Z (qd Z (qd Z (bE H fun r14 h15 H=>za (zl (z3o r12.1 r10 r14 h15) ⟨.inl Z,.inl Z,U⟩) (qe Z (zb hN Z ?_)))))))))))))))))))
  refine qd Z (za (wy Z Z) (zg _ Z (fun h16 => ?_) (fun h16 => ?_)))
  ·refine tE h16 H fun H=>zb hN Z (za (zd (.dr _ _) Z) (qd Z (bE H fun x17 h18 H=>zt (qt (s := .dr 0 (fun qb=>jl (List.map (CP qb) r12.2) r14.toNat 0)) 0 (fun qb=>ul y04 (fun _=>Z) Z Z h18) Z Z) Z (gE H fun h19 H=>zt (qt (s := .ptr 0 x17.toNat) 0 (fun qb=>qx y0t Z (ql (kt h18).2) Z) Z Z) Z (za (vk Z) (bE H fun c20 h21 H=>zj (Wp tyS4 Z Z Z (y1t (c:=s1) h19 h21)) Z (zb hN Z (qd Z (za (yp Z) (qe Z (zk ?_)))))))))))
   cases H
   exact ⟨U,⟨.inl Z,U⟩,Z⟩
  ·refine fE h16 H fun H=>zn (zb hN Z (za (zd (.ptr _ _) Z) (bE H fun r22 h23 H=>zt (qt (s := .dr 0 (fun qb=>vtup [vlst (List.map zo r22.1),vlst (List.map (CP qb) r22.2)])) 0 (fun qb=>zl (y3p qb r22 h23) ⟨.inl Z,U⟩) Z Z) Z (za (zd (.dr _ _) Z) (zt (qt (s := .dat (vlst (List.map zo r22.1))) 0 (fun qb=>yc Z Z) Z Z) Z (zt (qt (s := .dr 0 (fun qb=>vlst (List.map (CP qb) r22.2))) 0 (fun qb=>yc Z Z) Z Z) Z (qe Z (za (qc (.dr _ _) Z) (zb hN Z (qd Z (qd Z (bE H fun r24 h25 H=>za (zl (z3o r22.1 r10 r24 h25) ⟨.inl Z,.inl Z,U⟩) (qe Z (zi (zb hN Z (qd Z (za (yb Z Z) (zg _ Z (fun h26 => ?_) (fun h26 => ?_)))))))))))))))))))
   ·refine tE h26 H fun H=>zb hN Z (qe Z (zk ?_))
    cases H
    exact ⟨U,⟨.inl Z,U⟩,Z⟩
   ·refine fE h26 H fun H=>zn (yd (ι:=Bool×Bool×Bool×Bool×Bool×Bool×Int×Int×Int×Int×Int×Int) (fun i=>[(7,.dat (ze r3.2.2))]) (fun i=>[(0,.box (some bl) 63 [.dat (ze i.1),.dat (ze i.2.1),.dat (ze i.2.2.1),.dat (ze i.2.2.2.1),.dat (ze i.2.2.2.2.1),.dat (ze i.2.2.2.2.2.1),.dat (vint i.2.2.2.2.2.2.1),.dat (vint i.2.2.2.2.2.2.2.1),.dat (vint i.2.2.2.2.2.2.2.2.1),.dat (vint i.2.2.2.2.2.2.2.2.2.1),.dat (vint i.2.2.2.2.2.2.2.2.2.2.1),.dat (vint i.2.2.2.2.2.2.2.2.2.2.2)])]) (fun i=>z1y r3 i.1 i.2.1 i.2.2.1 i.2.2.2.1 i.2.2.2.2.1 i.2.2.2.2.2.1 i.2.2.2.2.2.2.1 i.2.2.2.2.2.2.2.1 i.2.2.2.2.2.2.2.2.1 i.2.2.2.2.2.2.2.2.2.1 i.2.2.2.2.2.2.2.2.2.2.1 i.2.2.2.2.2.2.2.2.2.2.2=some r) (fun i=>Z) ?_ ?_)
    ·skip
     refine yd (ι:=Bool) (fun i=>[(7,.dat (ze r3.2.2)),(8,.dat (vint r5.1)),(13,.dr 0 (fun qb=>vlst (List.map (CP qb) r22.2))),(14,.dat (vint r24)),(81,.dat (ze i))]) (fun i=>[(0,.box (some bl) 63 [.dat (ze s1.NoStore),.dat (ze s1.NoCache),.dat (ze s1.Private),.dat (ze s1.Public),.dat (ze s1.Must),.dat (ze s1.Only),.dat (vint s1.MaxAge),.dat (vint s1.Shared),.dat (vint s1.Stale),.dat (vint s1.OnError),.dat (vint s1.MaxStale),.dat (vint s1.MinFresh)])]) (fun i=>z1x s1 r3 r5 r22 r24 i=some r) (fun i=>Z) ?_ ?_
     ·skip
      refine zp hN Z (za (zd (.dr _ _) Z) (qd Z (bE H fun x27 h28 H=>zt (qt (s := .dr 0 (fun qb=>jl (List.map (CP qb) r22.2) r24.toNat 0)) 0 (fun qb=>ul Wl (fun _=>Z) Z Z h28) Z Z) Z (gE H fun h29 H=>zt (qt (s := .ptr 0 x27.toNat) 0 (fun qb=>qx Wg Z (ql (kt h28).2) Z) Z Z) Z (za (vk Z) (zt (yh tyS3 Z (z65 (c:=s1) h29)) Z (za (yo Z Z) (qd Z (yf (j:=7) Z Z (fun h30 => ?_) (fun h30 => ?_) Z)))))))))
      ·exact u3 h30 H fun h31 H=>zf Z Z h30 (zd (.dat _) Z) (zf Z Z h30 (zd (.dr _ _) Z) (zf Z Z h30 (zd (.dat _) Z) (je Z Z h30 (qt (s := .dr 0 (fun qb=>jl (List.map (CP qb) r22.2) r24.toNat 0)) 0 (fun qb=>ul Wl (fun _=>Z) Z Z h28) Z Z) Z (gE H fun h32 H=>je Z Z h30 (qt (s := .ptr 0 x27.toNat) 0 (fun qb=>qx Wg Z (ql (kt h28).2) Z) Z Z) Z (zf Z Z h30 (vk Z) (je Z Z h30 (yh tyS3 Z (z65 (c:=s1) h32)) Z (zf Z Z h30 (yb Z Z) (za (zq Z (bFF h31) Z) ⟨decide (r5.1 < (wg s1 x27)),H,⟨Z,Z,Z,Z,Z,U⟩,⟨Z,U⟩⟩))))))))
      ·exact u4 h30 H fun h33 H=>zc Z Z h30 (zc Z Z h30 (zc Z Z h30 (zc Z Z h30 (zc Z Z h30 (zc Z Z h30 (zc Z Z h30 (zc Z Z h30 (za (zy Z (bTT h33) Z) ⟨true,H,⟨Z,Z,Z,Z,Z,U⟩,⟨Z,U⟩⟩))))))))
     ·rintro v34 H
      replace H:z1x s1 r3 r5 r22 r24 v34=some r:=H
      unfold z1x at H
      refine zg _ Z (fun h35 => ?_) (fun h35 => ?_)
      ·exact tE h35 H fun H=>zp hN Z (za (zd (.dr _ _) Z) (qd Z (bE H fun x36 h37 H=>zt (qt (s := .dr 0 (fun qb=>jl (List.map (CP qb) r22.2) r24.toNat 0)) 0 (fun qb=>ul Wl (fun _=>Z) Z Z h37) Z Z) Z (gE H fun h38 H=>zt (qt (s := .ptr 0 x36.toNat) 0 (fun qb=>qx Wg Z (ql (kt h37).2) Z) Z Z) Z (qd Z (za (vk Z) (bE H fun c39 h40 H=>zj (Wp tyS3 Z Z Z (z5d (c:=s1) h38 h40)) Z ⟨(c39.NoStore,c39.NoCache,c39.Private,c39.Public,c39.Must,c39.Only,c39.MaxAge,c39.Shared,c39.Stale,c39.OnError,c39.MaxStale,c39.MinFresh),H,⟨Z,U⟩,⟨Z,U⟩⟩)))))))
      ·exact fE h35 H fun H=>zn ⟨(s1.NoStore,s1.NoCache,s1.Private,s1.Public,s1.Must,s1.Only,s1.MaxAge,s1.Shared,s1.Stale,s1.OnError,s1.MaxStale,s1.MinFresh),H,⟨Z,U⟩,⟨Z,U⟩⟩
    ·rintro ⟨c41,c42,c43,c44,c45,c46,c47,c48,c49,c50,c51,c52⟩ H
     replace H:z1y r3 c41 c42 c43 c44 c45 c46 c47 c48 c49 c50 c51 c52=some r:=H
     unfold z1y at H
     refine zb hN Z (qd Z (qe Z (zk ?_)))
     cases H
     exact ⟨U,⟨.inl Z,U⟩,Z⟩
theorem z9f (l1:(List zm)) (r:(zv×Int)) (H:kr l1=some r):Fn Tryz.prog 42 [vlst (List.map yg l1)] (zu [vagg (wd r.1),vint r.2]):=by
 refine ⟨by kernel_rfl,yj (us:=[vagg (wd r.1),vint r.2]) Tryz.func42 Z Z Z Z fun X hN => ?_⟩
 unfold kr at H
 refine zb hN Z (zj (wc 1 ja Z) Z (qe Z (zb hN Z (za (zw (u':=vagg (wd (zv.mk false false false false false false 0 0 0 0 0 0))) (wz [] ja z16 Z U) Z) (zj (wc 2 ja Z) Z (zj (qq wh Z Z Z Z) Z (zb hN Z (bE H fun r2 h3 H=>zt (qt (s := .dr 2 (fun qb=>vtup [vlst (List.map zo r2.1),vlst (List.map (CP qb) r2.2)])) 2 (fun qb=>zl (y3p qb r2 h3) ⟨.inl Z,U⟩) Z Z) Z (za (zd (.dr _ _) Z) (zt (qt (s := .dat (vlst (List.map zo r2.1))) 2 (fun qb=>yc Z Z) Z Z) Z (zt (qt (s := .dr 2 (fun qb=>vlst (List.map (CP qb) r2.2))) 2 (fun qb=>yc Z Z) Z Z) Z (qe Z (za (qc (.dr _ _) Z) (zi (zb hN Z (za (zd (.dr _ _) Z) (zt (qt (s := .dat (vint (r2.2.length:Int))) 2 (fun qb=>qg y0r Z) Z Z) Z (qd Z (ye (gE H fun h18 H=>qu (fun (k16:Nat) (s:Bool×Bool×Int×Int×Bool×Bool×Bool×Bool×Int×Int×Int×Int)=>[(0,.dat (vlst (List.map yg l1))),(2,.ptr 1 0),(4,.ptr 2 0),(16,.dr 2 (fun qb=>vlst (List.map (CP qb) r2.2))),(17,.dat (vint (r2.2.length:Int))),(18,.dat (vint (k16:Int)))]) (fun (k16:Nat) (s:Bool×Bool×Int×Int×Bool×Bool×Bool×Bool×Int×Int×Int×Int)=>[(1,.box none 63 [.dat (ze false),.dat (ze false),.dat (ze false),.dat (ze false),.dat (ze false),.dat (ze false),.dat (vint 0),.dat (vint 0),.dat (vint 0),.dat (vint 0),.dat (vint 0),.dat (vint 0)]),(2,.box none 63 [.dat (ze s.1),.dat (ze s.2.1),.dat (ze s.2.2.2.2.1),.dat (ze s.2.2.2.2.2.1),.dat (ze s.2.2.2.2.2.2.1),.dat (ze s.2.2.2.2.2.2.2.1),.dat (vint s.2.2.2.2.2.2.2.2.1),.dat (vint s.2.2.2.2.2.2.2.2.2.1),.dat (vint s.2.2.2.2.2.2.2.2.2.2.1),.dat (vint s.2.2.2.2.2.2.2.2.2.2.2),.dat (vint s.2.2.1),.dat (vint s.2.2.2.1)])]) (false,false,0,0,false,false,false,false,0,0,0,0) H ⟨Z,Z,Z,Z,Z,Z,U⟩ ⟨Z,Z,U⟩ (fun _ _=>Z) ?_ ?_))))))))))))))))))))
 ·rintro ⟨c4,c5,c6,c7,c8,c9,c10,c11,c12,c13,c14,c15⟩ H
  replace H:Qz l1 c4 c5 c6 c7 c8 c9 c10 c11 c12 c13 c14 c15=some r:=H
  unfold Qz at H
  refine zb hN Z (za (yb Z Z) (zi (zg _ Z (fun h=>(lt_t h).elim) (fun h => ?_))))
  refine yx (zi (zb hN Z (qd Z (bE H fun r20 h21 H=>za (zl (z6p l1 [99,97,99,104,101,45,99,111,110,116,114,111,108] r20 h21) ⟨.inl Z,.inl Z,U⟩) (bE H fun r22 h23 H=>za (zl (y9m r20 r22 h23) ⟨.inl Z,U⟩) (za (qg wa Z) (qd Z (ye (gE H fun h38 H=>qu (fun (k36:Nat) (s:Bool×Bool×Int×Int×Bool×Bool×Bool×Bool×Int×Int×Int×Int)=>[(2,.ptr 1 0),(4,.ptr 2 0),(27,.dat (vlst (List.map zo r22))),(28,.dat (vint (r22.length:Int))),(29,.dat (vint (k36:Int)))]) (fun (k36:Nat) (s:Bool×Bool×Int×Int×Bool×Bool×Bool×Bool×Int×Int×Int×Int)=>[(1,.box none 63 [.dat (ze false),.dat (ze false),.dat (ze false),.dat (ze false),.dat (ze false),.dat (ze false),.dat (vint 0),.dat (vint 0),.dat (vint 0),.dat (vint 0),.dat (vint 0),.dat (vint 0)]),(2,.box none 63 [.dat (ze s.1),.dat (ze s.2.1),.dat (ze s.2.2.2.2.1),.dat (ze s.2.2.2.2.2.1),.dat (ze s.2.2.2.2.2.2.1),.dat (ze s.2.2.2.2.2.2.2.1),.dat (vint s.2.2.2.2.2.2.2.2.1),.dat (vint s.2.2.2.2.2.2.2.2.2.1),.dat (vint s.2.2.2.2.2.2.2.2.2.2.1),.dat (vint s.2.2.2.2.2.2.2.2.2.2.2),.dat (vint s.2.2.1),.dat (vint s.2.2.2.1)])]) (c4,c5,c6,c7,c8,c9,c10,c11,c12,c13,c14,c15) H ⟨Z,Z,Z,Z,Z,U⟩ ⟨Z,Z,U⟩ (fun _ _=>Z) ?_ ?_)))))))))
  ·rintro ⟨c24,c25,c26,c27,c28,c29,c30,c31,c32,c33,c34,c35⟩ H
   replace H:z7k c24 c25 c26 c27 c28 c29 c30 c31 c32 c33 c34 c35=some r:=H
   unfold z7k at H
   refine zb hN Z (za (yb Z Z) (zi (zg _ Z (fun h=>(lt_t h).elim) (fun h => ?_))))
   refine yx (zb hN Z (zt (qi wh Z Z Z) Z (zj (qq wh Z Z Z Z) Z (qe Z (zk ?_)))))
   cases H
   exact ⟨U,.inl ⟨_,_,_,wd (zv.mk c24 c25 c28 c29 c30 c31 c32 c33 c34 c35 c26 c27),Z,Z,Z,Z,wh⟩,.inl Z,U⟩
  ·rintro k36 x39 ⟨c24,c25,c26,c27,c28,c29,c30,c31,c32,c33,c34,c35⟩ q37 h40 h41 H hq37
   replace H:Zl k36 x39 c24 c25 c26 c27 c28 c29 c30 c31 c32 c33 c34 c35=some q37:=H
   unfold Zl at H
   refine zb hN Z (za (yb Z Z) (zi (zg _ Z (fun h => ?_) (fun h=>(lt_f h40 h).elim))))
   refine zn (zi (ye (zb hN Z (za (wi vi (fun _=>Z) Z Z h41) (za (qx tyS9 Z (ql h41) Z) (qe Z (zb hN Z (qd Z (bE H fun r42 h43 H=>zj (zx (x0n (zv.mk c24 c25 c28 c29 c30 c31 c32 c33 c34 c35 c26 c27) x39 r42 h43) Z ⟨.inl Z,U⟩ Z) Z (za (yp Z) (zg _ Z (fun h44 => ?_) (fun h44 => ?_))))))))))))
   ·refine tE h44 H fun H=>zb hN Z (za (zw (u':=vagg (wd (zv.mk false false false false false false 0 0 0 0 0 0))) (wz [] ja z16 Z U) Z) (zj (qq wh Z Z Z Z) Z (qe Z (zk ?_))))
    replace H:=retl H hq37
    cases H
    exact ⟨U,.inl ⟨_,_,_,wd (zv.mk false false false false false false 0 0 0 0 0 0),Z,Z,Z,Z,wh⟩,.inl Z,U⟩
   ·exact fE h44 H fun H=>zn (zp hN Z (za (qj Z Z (by omega)) (qd Z ⟨_,qa H,⟨Z,Z,Z,Z,Z,U⟩,⟨Z,Z,U⟩⟩)))
 ·rintro k16 x19 ⟨c4,c5,c6,c7,c8,c9,c10,c11,c12,c13,c14,c15⟩ q17 h45 h46 H hq17
  replace H:z93 k16 x19 c4 c5 c6 c7 c8 c9 c10 c11 c12 c13 c14 c15=some q17:=H
  unfold z93 at H
  refine zb hN Z (za (yb Z Z) (zi (zg _ Z (fun h => ?_) (fun h=>(lt_f h45 h).elim))))
  exact zn (zi (ye (zb hN Z (zt (qt (s := .dr 2 (fun qb=>jl (List.map (CP qb) r2.2) k16 0)) 2 (fun qb=>wi Wl (fun _=>Z) Z Z h46) Z Z) Z (gE H fun h47 H=>zt (qt (s := .ptr 2 x19.toNat) 2 (fun qb=>qx Wg Z (ql h46) Z) Z Z) Z (za (qc (.ptr _ _) Z) (zp hN Z (za (zd (.ptr _ _) Z) (za (vk Z) (bE H fun c48 h49 H=>zj (Wp tyS3 Z Z Z (z5d (c:=(zv.mk c4 c5 c8 c9 c10 c11 c12 c13 c14 c15 c6 c7)) h47 h49)) Z (zp hN Z (za (qj Z Z (by omega)) (qd Z ⟨_,qa H,⟨Z,Z,Z,Z,Z,Z,U⟩,⟨Z,Z,U⟩⟩)))))))))))))
theorem y9f (s1:(List Bs)) (v2:Bs) (r:(Bool)) (H:z2m s1 v2=some r):Fn Tryz.prog 92 [vlst (List.map zo s1),vstr v2] (zu [ze r]):=by
 refine ⟨by kernel_rfl,yj (us:=[ze r]) Tryz.func92 Z Z Z Z fun X hN => ?_⟩
 unfold z2m at H
 refine zb hN Z (qe Z (zb hN Z (qd Z (qd Z (bE H fun r3 h4 H=>za (zl (z3o s1 v2 r3 h4) ⟨.inl Z,.inl Z,U⟩) (za (wy Z Z) (qe Z (zk ?_))))))))
 cases H
 exact ⟨U,.inl Z,U⟩
theorem y8v (l r:List Bs) (H:Yb l=some r):FnG Tryz.prog 131 [.dat (vlst (List.map zo l))] [] (.row 900 r.length) [(900,.row 9 1 (List.map zo r))]:=by
 obtain ⟨hl,rfl⟩:=x2k H
 refine z7f (by kernel_rfl) Tryz.func131 Z Z Z Z fun X A hN => ?_
 refine x2x 0 Z (fun h0 => ?_) ?_
 ·obtain rfl:=List.map_eq_nil_iff.1 h0
  refine zb hN Z (qe Z (zi (zb hN Z (qd Z (za (y6j wa Z) (zg _ Z (fun h => ?_) (fun h=>by cases h)))))))
  exact zb hN Z (qe Z (km 2 900 9 1 Z Z Z (zk ⟨U,[(2,.row 900 0)],⟨Z,U⟩,⟨Z,U⟩,Z,.inr (.inl ⟨2,Z,Z⟩)⟩)))
 ·refine zb hN Z (qe Z (zi (zb hN Z (qd Z (za (y6k wa Z) (zg _ Z (fun h=>by cases h) (fun h => ?_)))))))
  refine zn (zi (x2w 0 (u':=vlst (List.map zo l)) Z y5a (zp hN Z (zj (y6c 900 yn) Z (qd Z (zj (y1c (C:=zo) (xs:=[]) yn (fun _=>Z) Z Z Z (by simpa using hl) Z) Z ?_))))))
  exact za (qc (.row _ _) Z) (zk ⟨U,[(2,.row 900 l.length)],⟨Z,U⟩,⟨Z,U⟩,Z,.inr (.inl ⟨2,Z,Z⟩)⟩)
theorem z83 (l r:List Bs) (H:kq l=some r):FnG Tryz.prog 60 [.row 0 l.length] [(0,.rowA undef 9 1 (List.map zo l))] (.dat (zu [])) [(0,.rowA undef 9 1 (List.map zo r))]:=by
 obtain ⟨hl,hr⟩:=y1y H
 refine x1j (fun s:Bs=>Value.string ⟨s.toArray⟩) r l (Zq H) (by kernel_rfl) (fun _=>Z) (fun blk cap w hH hb => ?_) (fun h w => ?_)
 ·rw [hr]; exact Tryz.slices_Sort_string blk 0 cap l w hH hb (by omega)
 ·exact Tryz.slices_Sort_string_none none 0 w
theorem z84 (l r:List Bs) (H:xu l=some r):FnG Tryz.prog 61 [.row 0 l.length] [(0,.row 9 1 (List.map zo l))] (.row 900 r.length) [(900,.row 9 1 (List.map zo r))]:=by
 obtain ⟨h1,rfl⟩:=x2h H
 exact x1k (fun s:Bs=>Value.string ⟨s.toArray⟩) [] (Lib.compact l) l (x2g l) (by kernel_rfl) (fun _=>Z) (fun blk cap w hH hc=>Tryz.slices_Compact_string blk 0 cap l w hH (by omega) hc) (fun h a cap w=>Tryz.slices_Compact_string_empty a cap w)
theorem y3c (l1:(List Bs)) (r:((List Bs))) (H:xa l1=some r):Fn Tryz.prog 93 [vlst (List.map zo l1)] (zu [vlst (List.map zo r)]):=by
 refine ⟨by kernel_rfl,yj (us:=[vlst (List.map zo r)]) Tryz.func93 Z Z Z Z fun X hN => ?_⟩
 unfold xa at H
 refine zb hN Z (qe Z (zb hN Z (qd Z (bE H fun r2 h3 H=>uo (rn [(900,1)]) [] [(900,_)] (y8v l1 r2 h3) ⟨Z,U⟩ ⟨.inl (.inl Z),U⟩ U Z (za (qc (.row _ _) Z) (zb hN Z (za (zd (.row _ _) Z) (bE H fun r4 h5 H=>uo (rn [(0,1)]) [(0,_,_,some _)] [] (z83 r2 r4 h5) ⟨Z,U⟩ ⟨.inl (.inl Z),U⟩ ⟨⟨⟨Z,Z,Z⟩,by simp [Zp,Zq h5]⟩,U⟩ Z ?_))))))))
 refine zb hN Z (za (zd (.row _ _) Z) (bE H fun r6 h7 H=>uo (rn [(0,1),(900,2)]) [(0,_,_,none)] [(900,_)] (z84 r4 r6 h7) ⟨Z,Z,U⟩ ⟨.inl (.inl (congrArg (Slot.row 1) (Zq h5).symm)),U⟩ ⟨⟨⟨Z,Z,Z⟩,U⟩,U⟩ Z (za (qc (.row _ _) Z) (zk ?_))))
 cases H
 exact ⟨U,uk Z Z,U⟩
theorem y8w (values1:(List Bs)) (r:((List Bs))) (H:xw values1=some r):FnG Tryz.prog 89 [.dat (vlst (List.map zo values1))] [] (.row 1 r.length) [(1,.row 9 1 (List.map zo r))]:=by
 refine z7f (by kernel_rfl) Tryz.func89 Z Z Z Z fun X A hN => ?_
 unfold xw at H
 refine zb hN Z (qe Z (zb hN Z (qe Z (zi (zb hN Z (qd Z (za (qg wa Z) (qd Z (ye (km 3 1 9 1 Z Z Z (gE H fun h5 H=>qu (fun (k3:Nat) (s:(List Bs))=>[(3,.row 1 s.length),(8,.dat (vlst (List.map zo values1))),(9,.dat (vint (values1.length:Int))),(10,.dat (vint (k3:Int)))]) (fun (k3:Nat) (s:(List Bs))=>[(1,.row 9 1 (List.map zo s))]) [] H ⟨Z,Z,Z,Z,U⟩ ⟨Z,U⟩ (fun _ _=>Z) ?_ ?_)))))))))))
 ·rintro l2 H
  replace H:Wy l2=some r:=H
  unfold Wy at H
  refine zb hN Z (za (yb Z Z) (zi (zg _ Z (fun h=>(lt_t h).elim) (fun h => ?_))))
  refine yx (zb hN Z (za (zd (.row _ _) Z) (za (qc (.row _ _) Z) (zk ?_))))
  cases H
  exact ⟨U,[(2,.row 1 _)],⟨Z,U⟩,⟨Z,U⟩,Z,.inr (.inl ⟨2,Z,Z⟩)⟩
 ·rintro k3 x6 l2 q4 h7 h8 H hq4
  replace H:ut k3 x6 l2=some q4:=H
  unfold ut at H
  refine zb hN Z (za (yb Z Z) (zi (zg _ Z (fun h => ?_) (fun h=>(lt_f h7 h).elim))))
  refine zn (zi (ye (zb hN Z (za (wi vi (fun _=>Z) Z Z h8) (za (qx tyS9 Z (ql h8) Z) (qe Z (zb hN Z (qd Z (bE H fun r9 h10 H=>za (zl (z3n x6 [44] r9 h10) ⟨.inl Z,.inl Z,U⟩) (za (qg wa Z) (qd Z (ye (gE H fun h14 H=>qu (fun (k12:Nat) (s:(List Bs))=>[(3,.row 1 s.length),(8,.dat (vlst (List.map zo values1))),(9,.dat (vint (values1.length:Int))),(10,.dat (vint (k3:Int))),(15,.dat (vlst (List.map zo r9))),(16,.dat (vint (r9.length:Int))),(17,.dat (vint (k12:Int)))]) (fun (k12:Nat) (s:(List Bs))=>[(1,.row 9 1 (List.map zo s))]) l2 H ⟨Z,Z,Z,Z,Z,Z,Z,U⟩ ⟨Z,U⟩ (fun _ _=>Z) ?_ ?_)))))))))))))
  ·rintro l11 H
   replace H:Wx l11=some q4:=H
   unfold Wx at H
   refine zb hN Z (za (yb Z Z) (zi (zg _ Z (fun h=>(lt_t h).elim) (fun h => ?_))))
   exact yx (zp hN Z (za (qj Z Z (by omega)) (qd Z ⟨_,qa H,⟨Z,Z,Z,Z,U⟩,⟨Z,U⟩⟩)))
  ·rintro k12 x15 l11 q13 h16 h17 H hq13
   replace H:ur k12 x15 l11=some q13:=H
   unfold ur at H
   refine zb hN Z (za (yb Z Z) (zi (zg _ Z (fun h => ?_) (fun h=>(lt_f h16 h).elim))))
   refine zn (yd (ι:=(List Bs)) (fun i=>[(3,.row 1 i.length),(8,.dat (vlst (List.map zo values1))),(9,.dat (vint (values1.length:Int))),(10,.dat (vint (k3:Int))),(15,.dat (vlst (List.map zo r9))),(16,.dat (vint (r9.length:Int))),(17,.dat (vint (k12:Int)))]) (fun i=>[(1,.row 9 1 (List.map zo i))]) (fun i=>uu i=some q13) (fun i=>Z) ?_ ?_)
   ·skip
    refine ye (zb hN Z (za (wi vi (fun _=>Z) Z Z h17) (za (qx tyS9 Z (ql h17) Z) (qe Z (zb hN Z (qd Z (bE H fun r18 h19 H=>za (zl (z02 x15 [32] r18 h19) ⟨.inl Z,.inl Z,U⟩) (qe Z (zb hN Z (qd Z (za (kn Z Z) (zg _ Z (fun h20 => ?_) (fun h20 => ?_)))))))))))))
    ·refine tE h20 H fun H=>zp hN Z (za (zd (.row _ _) Z) (qd Z (za (zw (u':=vlst (List.map zo [r18])) (yk [[_]] yn ⟨Z,.inl ⟨_,Z,Z,Z⟩,Z,U⟩ Z Z) Z) (gE H fun h21 H=>zj (vq yn (fun _=>Z) Z Z Z ⟨by simp,by first | (simp; done) | simpa using h21⟩ Z) Z ?_))))
     exact za (qc (.row _ _) Z) ⟨(l11++[r18]),H,⟨Z,Z,Z,Z,Z,Z,Z,U⟩,⟨Z,U⟩⟩
    ·exact fE h20 H fun H=>zn ⟨l11,H,⟨Z,Z,Z,Z,Z,Z,Z,U⟩,⟨Z,U⟩⟩
   ·rintro out22 H
    replace H:uu out22=some q13:=H
    unfold uu at H
    exact zp hN Z (za (qj Z Z (by omega)) (qd Z ⟨_,qa H,⟨Z,Z,Z,Z,Z,Z,Z,U⟩,⟨Z,U⟩⟩))
theorem z9e (a1:ya) (r:((List Bs)×Bool×Int)) (H:xc a1=some r):Fn Tryz.prog 43 [vagg (wt a1)] (zu [vlst (List.map zo r.1),ze r.2.1,vint r.2.2]):=by
 refine ⟨by kernel_rfl,yj (us:=[vlst (List.map zo r.1),ze r.2.1,vint r.2.2]) Tryz.func43 Z Z Z Z fun X hN => ?_⟩
 unfold xc at H
 refine zb hN Z (zj (wu 1 Z) Z (qe Z (qe Z (qe Z (zb hN Z (za (zz jb Z) (zt (yh qv Z Z) Z (bE H fun r2 h3 H=>za (zl (z6p a1.Headers [118,97,114,121] r2 h3) ⟨.inl Z,.inl Z,U⟩) (bE H fun r4 h5 H=>uo (rn [(1,2)]) [] [(1,_)] (y8w r2 r4 h5) ⟨Z,U⟩ ⟨.inl (.inl Z),U⟩ U Z (za (qc (.row _ _) Z) (zi (zb hN Z (za (zd (.row _ _) Z) (zt (z5a wa Z Z) Z (qd Z (ye (gE H fun h9 H=>z11 (fun (k7:Nat) (s:(List Bs))=>[(5,.row 2 s.length),(12,.row 2 s.length),(13,.dat (vint (r4.length:Int))),(14,.dat (vint (k7:Int)))]) (fun (k7:Nat) (s:(List Bs))=>[(2,.row 9 1 (List.map zo s))]) r4 H ⟨Z,Z,Z,Z,U⟩ ⟨Z,U⟩ (fun _ _=>Z) ?_ ?_)))))))))))))))))
 ·rintro l6 H
  replace H:Zk l6=some r:=H
  unfold Zk at H
  refine zb hN Z (za (yb Z Z) (zi (zg _ Z (fun h=>(lt_t h).elim) (fun h => ?_))))
  refine yx (zi (zi (z73 5 2 Z Z Z (zp hN Z (qd Z (bE H fun r10 h11 H=>za (zl (y9f l6 [42] r10 h11) ⟨.inl Z,.inl Z,U⟩) (zg _ Z (fun h12 => ?_) (fun h12 => ?_))))))))
  ·refine tE h12 H fun H=>zb hN Z (qe Z (qe Z (qe Z (zk ?_))))
   cases H
   exact ⟨U,.inr ⟨Z,Z⟩,.inl Z,.inl Z,U⟩
  ·refine fE h12 H fun H=>zn (zb hN Z (qd Z (bE H fun r13 h14 H=>za (zl (y3c l6 r13 h14) ⟨.inl Z,U⟩) (qe Z (zi (zb hN Z (qd Z (za (qg wa Z) (za (qs Z Z) (zg _ Z (fun h15 => ?_) (fun h15 => ?_)))))))))))
   ·refine tE h15 H fun H=>zb hN Z (qe Z (qe Z (qe Z (zk ?_))))
    cases H
    exact ⟨U,.inr ⟨Z,Z⟩,.inl Z,.inl Z,U⟩
   ·refine fE h15 H fun H=>zn (zb hN Z (qd Z (qe Z (qe Z (qe Z (zk ?_))))))
    cases H
    exact ⟨U,.inl Z,.inl Z,.inl Z,U⟩
 ·rintro k7 l6 q8 h16 H hq8
  replace H:Qw k7 l6=some q8:=H
  unfold Qw at H
  refine zb hN Z (za (yb Z Z) (zi (zg _ Z (fun h => ?_) (fun h=>(lt_f h16 h).elim))))
  refine zn (zi (ye (zb hN Z (qd Z (bE H fun x17 h18 H=>zt (z71 vi Z Z Z h18) Z (zt (y1b tyS9 Z Z h18 Z) Z (qe Z (qe Z (zi (zb hN Z (qd Z (bE H fun r19 h20 H=>za (zl (z6q x17 r19 h20) ⟨.inl Z,U⟩) (za (yp Z) (zg _ Z (fun h21 => ?_) (fun h21 => ?_)))))))))))))))
  ·refine tE h21 H fun H=>zb hN Z (qe Z (qe Z (qe Z (zk ?_))))
   replace H:=retl H hq8
   cases H
   exact ⟨U,.inr ⟨Z,Z⟩,.inl Z,.inl Z,U⟩
  ·exact fE h21 H fun H=>zn (zp hN Z (za (zd (.row _ _) Z) (qd Z (qd Z (bE H fun r22 h23 H=>za (zl (Yk x17 r22 h23) ⟨.inl Z,U⟩) (zt (z71 vi Z Z Z h18) Z (zj (y5y r22 tyS9 Z Z Z Z h18 Z Z) Z (zp hN Z (za (qj Z Z (by omega)) (qd Z ⟨_,qa H,⟨congrArg (Slot.row 2) (by simp),congrArg (Slot.row 2) (by simp),Z,Z,U⟩,⟨Z,U⟩⟩))))))))))
theorem y3r (l1:(List zm)) (name2:Bs) (r:(Bool)) (H:xe l1 name2=some r):Fn Tryz.prog 85 [vlst (List.map yg l1),vstr name2] (zu [ze r]):=by
 refine ⟨by kernel_rfl,yj (us:=[ze r]) Tryz.func85 Z Z Z Z fun X hN => ?_⟩
 unfold xe at H
 refine zb hN Z (qe Z (zb hN Z (qd Z (qd Z (bE H fun r3 h4 H=>za (zl (z6p l1 name2 r3 h4) ⟨.inl Z,.inl Z,U⟩) (za (qg wa Z) (za (qs Z Z) (qe Z (zk ?_)))))))))
 cases H
 exact ⟨U,.inl Z,U⟩
theorem x0s (method1:Bs) (r:(Bool)) (H:z6i method1=some r):Fn Tryz.prog 86 [vstr method1] (zu [ze r]):=by
 refine ⟨by kernel_rfl,yj (us:=[ze r]) Tryz.func86 Z Z Z Z fun X hN => ?_⟩
 unfold z6i at H
 refine zb hN Z (qe Z (zb hN Z (qd Z (za (vx Z Z) (qd Z (yy Z Z (fun hc=>zd (.dat _) Z) (yy Z Z (fun hc=>vx (cnd (c:=(!(decide (method1=[71,69,84])))) hc) Z) (za (vj Z Z (fun hb=>(cnd (c:=(!(decide (method1=[71,69,84])))) (notI hb)))) (qe Z (zk ?_))))))))))
 cases H
 exact ⟨U,.inl Z,U⟩
theorem y9e (s1:(List Int)) (v2:Int) (r:(Int)) (H:z8w s1 v2=some r):Fn Tryz.prog 110 [vlst (List.map yq s1),vint v2] (zu [vint r]):=by
 refine ⟨by kernel_rfl,yj (us:=[vint r]) Tryz.func110 Z Z Z Z fun X hN => ?_⟩
 unfold z8w at H
 refine zb hN Z (qe Z (zi (zb hN Z (qd Z (za (qg z15 Z) (qd Z (ye (gE H fun h5 H=>qu (fun (k3:Nat) (s:Unit)=>[(0,.dat (vlst (List.map yq s1))),(1,.dat (vint v2)),(7,.dat (vint (s1.length:Int))),(8,.dat (vint (k3:Int)))]) (fun (k3:Nat) (s:Unit)=>[]) () H ⟨Z,Z,Z,Z,U⟩ U (fun _ _=>Z) ?_ ?_))))))))
 ·rintro ⟨⟩ H
  replace H:z8b=some r:=H
  unfold z8b at H
  refine zb hN Z (za (yb Z Z) (zi (zg _ Z (fun h=>(lt_t h).elim) (fun h => ?_))))
  refine yx (zb hN Z (qe Z (zk ?_)))
  cases H
  exact ⟨U,.inl Z,U⟩
 ·rintro k3 x6 ⟨⟩ q4 h7 h8 H hq4
  replace H:z8a v2 k3 x6=some q4:=H
  unfold z8a at H
  refine zb hN Z (za (yb Z Z) (zi (zg _ Z (fun h => ?_) (fun h=>(lt_f h7 h).elim))))
  refine zn (zi (ye (zb hN Z (qd Z (qe Z (zb hN Z (qd Z (qd Z (qd Z (za (wi z7y (fun _=>Z) Z Z h8) (za (qx tyS3 Z (ql h8) Z) (za (yo Z Z) (zg _ Z (fun h9 => ?_) (fun h9 => ?_))))))))))))))
  ·refine tE h9 H fun H=>zb hN Z (qd Z (qe Z (zk ?_)))
   replace H:=retl H hq4
   cases H
   exact ⟨U,.inl Z,U⟩
  ·exact fE h9 H fun H=>zn (zp hN Z (za (qj Z Z (by omega)) (qd Z ⟨_,qa H,⟨Z,Z,Z,Z,U⟩,U⟩)))
theorem y26 (s1:(List Int)) (v2:Int) (r:(Bool)) (H:z2n s1 v2=some r):Fn Tryz.prog 55 [vlst (List.map yq s1),vint v2] (zu [ze r]):=by
 refine ⟨by kernel_rfl,yj (us:=[ze r]) Tryz.func55 Z Z Z Z fun X hN => ?_⟩
 unfold z2n at H
 refine zb hN Z (qe Z (zb hN Z (qd Z (qd Z (bE H fun r3 h4 H=>za (zl (y9e s1 v2 r3 h4) ⟨.inl Z,.inl Z,U⟩) (za (wy Z Z) (qe Z (zk ?_))))))))
 cases H
 exact ⟨U,.inl Z,U⟩
theorem x0t (status1:Int) (r:(Bool)) (H:z6j status1=some r):Fn Tryz.prog 87 [vint status1] (zu [ze r]):=by
 refine ⟨by kernel_rfl,yj (us:=[ze r]) Tryz.func87 Z Z Z Z fun X hN => ?_⟩
 unfold z6j at H
 refine zb hN Z (qe Z (zb hN Z (za (zw (u':=vlst (List.map yq [200,203,204,300,301,404,410])) (yk [[_],[_],[_],[_],[_],[_],[_]] xn ⟨Z,.inl ⟨_,Z,Z,Z⟩,Z,Z,.inl ⟨_,Z,Z,Z⟩,Z,Z,.inl ⟨_,Z,Z,Z⟩,Z,Z,.inl ⟨_,Z,Z,Z⟩,Z,Z,.inl ⟨_,Z,Z,Z⟩,Z,Z,.inl ⟨_,Z,Z,Z⟩,Z,Z,.inl ⟨_,Z,Z,Z⟩,Z,U⟩ Z Z) Z) (qd Z (bE H fun r2 h3 H=>za (zl (y26 [200,203,204,300,301,404,410] status1 r2 h3) ⟨.inl Z,.inl Z,U⟩) (qe Z (zk ?_)))))))
 cases H
 exact ⟨U,.inl Z,U⟩
theorem y3q (c1:zv) (r:(Int)) (H:xd c1=some r):Fn Tryz.prog 44 [vagg (wd c1)] (zu [vint r]):=by
 refine ⟨by kernel_rfl,yj (us:=[vint r]) Tryz.func44 Z Z Z Z fun X hN => ?_⟩
 unfold xd at H
 refine zb hN Z (zj (wu 1 Z) Z (qe Z (zi (ye (zb hN Z (za (zz z4u Z) (zt (yh tyS4 Z Z) Z (qe Z (zg _ Z (fun h2 => ?_) (fun h2 => ?_))))))))))
 ·refine tE h2 H fun H=>zb hN Z (qe Z (zk ?_))
  cases H
  exact ⟨U,.inl Z,U⟩
 ·refine fE h2 H fun H=>zb hN Z (za (zz xo Z) (zt (yh tyS3 Z Z) Z (za (qo Z Z) (qe Z (zg _ Z (fun h3 => ?_) (fun h3 => ?_))))))
  ·refine tE h3 H fun H=>zb hN Z (za (zz xo Z) (zt (yh tyS3 Z Z) Z (za (qk _ Z Z (.inr (.inr ⟨Z,Z⟩))) (qe Z (zk ?_)))))
   cases H
   exact ⟨U,.inl Z,U⟩
  ·refine fE h3 H fun H=>zb hN Z (za (zz z17 Z) (zt (yh tyS3 Z Z) Z (za (qo Z Z) (qe Z (zg _ Z (fun h4 => ?_) (fun h4 => ?_))))))
   ·refine tE h4 H fun H=>zb hN Z (za (zz z17 Z) (zt (yh tyS3 Z Z) Z (za (qk _ Z Z (.inr (.inr ⟨Z,Z⟩))) (qe Z (zk ?_)))))
    cases H
    exact ⟨U,.inl Z,U⟩
   ·refine fE h4 H fun H=>zn (zb hN Z (qe Z (zk ?_)))
    cases H
    exact ⟨U,.inl Z,U⟩
end Go.Proofs.YtkldmhhbbceaoaaGreatDoor
