/- Walks along the models. Printed by a program. -/
import Derived.Test.YtpjjkhcojjcdpaaGreatDoorZxw2
namespace Go.Proofs.YtpjjkhcojjcdpaaGreatDoor
open Go.RowKit
set_option linter.unusedVariables false
set_option maxRecDepth 100000
set_option maxHeartbeats 2000000
theorem y6n (s1:Bs) (most2:Int) (r:(Int×Bool)) (H:z1g s1 most2=some r):Fn Tryz.prog 109 [vstr s1,vint most2] (zu [vint r.1,zf r.2]):=by
 refine ⟨by kernel_rfl,yi (us:=[vint r.1,zf r.2]) Tryz.func109 Z Z Z Z fun X hN => ?_⟩
 unfold z1g at H
 refine zb hN Z (qe Z (qe Z (zb hN Z (qd Z (bE H fun r3 h4 H=>za (zp (y5v s1 [45] r3 h4) ⟨.inl Z,.inl Z,U⟩) (qe Z (zh (ya (ι:=Bool) (fun i=>[(0,.dat (vstr s1)),(6,.dat (vstr r3)),(28,.dat (zf i))]) (fun i=>[]) (fun i=>vr s1 r3 i=some r) (fun i=>Z) ?_ ?_))))))))
 ·skip
  refine zn hN Z (qd Z (za (qx Z Z) (qd Z (yc (j:=2) Z Z (fun h5 => ?_) (fun h5 => ?_) Z))))
  ·refine u3 h5 H fun h6 H=>zd Z Z h5 (ze (.dat _) Z) (zd Z Z h5 (yr tyU9 Z) (zd Z Z h5 (ze (.dat _) Z) (zd Z Z h5 (qz Z Z) (za (zq Z (bFF h6) Z) (qd Z (yc (j:=8) Z Z (fun h7 => ?_) (fun h7 => ?_) Z))))))
   ·refine u3 h7 H fun h8 H=>zd Z Z h7 (ze (.dat _) Z) (bE H fun x9 h10 H=>zd Z Z h7 (yw tyU9 Z Z h10) (zd Z Z h7 (yk Z Z) (zd Z Z h7 (ze (.dat _) Z) (yc (j:=12) Z Z (fun h11 => ?_) (fun h11 => ?_) Z))))
    ·exact u1 h11 H fun h12 H=>zd Z Z h11 (ze (.dat _) Z) (zd Z Z h11 (kj Z Z) (zd Z Z h7 (zx Z (bTT h12) Z) (za (zq Z (bFF h8) Z) ⟨decide (s1≠[48]),H,⟨Z,Z,Z,U⟩,U⟩)))
    ·exact u2 h11 H fun h13 H=>zc Z Z h11 (zc Z Z h11 (zd Z Z h7 (zq Z (bFF h13) Z) (za (zq Z (bFF h8) Z) ⟨false,H,⟨Z,Z,Z,U⟩,U⟩)))
   ·exact u4 h7 H fun h14 H=>zc Z Z h7 (zc Z Z h7 (zc Z Z h7 (zc Z Z h7 (zv Z Z (zv Z Z (zc Z Z h7 (za (zx Z (bTT h14) Z) ⟨true,H,⟨Z,Z,Z,U⟩,U⟩)))))))
  ·exact u4 h5 H fun h15 H=>zc Z Z h5 (zc Z Z h5 (zc Z Z h5 (zc Z Z h5 (za (zx Z (bTT h15) Z) (qd Z (zc Z Z Z (zc Z Z Z (zc Z Z Z (zc Z Z Z (zv Z Z (zv Z Z (zc Z Z Z (za (zx Z Z Z) ⟨true,H,⟨Z,Z,Z,U⟩,U⟩)))))))))))))
 ·rintro v16 H
  replace H:vr s1 r3 v16=some r:=H
  unfold vr at H
  refine zi _ Z (fun h17 => ?_) (fun h17 => ?_)
  ·refine tE h17 H fun H=>zb hN Z (qe Z (qe Z (zj ?_)))
   cases H
   exact ⟨U,.inl Z,.inl Z,U⟩
  ·refine fE h17 H fun H=>zo (zh (zb hN Z (qe Z (ye (gE H fun h20 H=>vf (fun (i18:Nat) (s:Unit)=>[(0,.dat (vstr s1)),(6,.dat (vstr r3)),(7,.dat (vint (i18:Int)))]) (fun (i18:Nat) (s:Unit)=>[]) () H ⟨Z,Z,Z,U⟩ U (fun _ _=>Z) ?_ ?_)))))
   ·rintro ⟨⟩ H
    replace H:Wj s1=some r:=H
    unfold Wj at H
    refine zh (zb hN Z (qd Z (qd Z (za (yr tyU9 Z) (za (yf Z Z) (zi _ Z (fun h=>(lt_t h).elim) (fun h => ?_)))))))
    refine yv (zb hN Z (qd Z (bE H fun r22 h23 H=>za (zp (z6t s1 r22 h23) ⟨.inl Z,U⟩) (qd Z (za (yn Z Z) (za (yn Z Z) (qe Z (qe Z (zh (wl mixed hN Z Z (qd Z (qd Z (za (z8u (n:=r22.2) (show Tryz.prog.underlying 91=some (.interface (Tryz.prog.methodsAt 91)) from by kernel_rfl) Z) ?_)))))))))))))
    refine qe Z (qe Z ⟨Z,?_⟩)
    refine zj ?_
    cases H
    exact ⟨U,.inl Z,.inl Z,U⟩
   ·rintro i18 x21 ⟨⟩ q19 h24 h25 H hq19
    replace H:z1u i18 x21=some q19:=H
    unfold z1u at H
    refine zh (zb hN Z (qd Z (qd Z (za (yr tyU9 Z) (za (yf Z Z) (zi _ Z (fun h => ?_) (fun h=>(lt_f h24 h).elim)))))))
    refine zo (zh (ye (ya (ι:=Bool) (fun i=>[(0,.dat (vstr s1)),(6,.dat (vstr r3)),(7,.dat (vint (i18:Int))),(44,.dat (zf i))]) (fun i=>[]) (fun i=>z1v i=some q19) (fun i=>Z) ?_ ?_)))
    ·skip
     refine zn hN Z (qd Z (qd Z (za (yw tyU9 Z Z h25) (za (yf Z Z) (qd Z (yc (j:=4) Z Z (fun h26 => ?_) (fun h26 => ?_) Z))))))
     ·exact u3 h26 H fun h27 H=>zd Z Z h26 (ze (.dat _) Z) (zd Z Z h26 (ze (.dat _) Z) (zd Z Z h26 (yw tyU9 Z Z h25) (zd Z Z h26 (qz Z Z) (za (zq Z (bFF h27) Z) ⟨decide (57 < (x21.toNat:Int)),H,⟨Z,Z,Z,Z,U⟩,U⟩))))
     ·exact u4 h26 H fun h28 H=>zc Z Z h26 (zc Z Z h26 (zc Z Z h26 (zc Z Z h26 (za (zx Z (bTT h28) Z) ⟨true,H,⟨Z,Z,Z,Z,U⟩,U⟩))))
    ·rintro v29 H
     replace H:z1v v29=some q19:=H
     unfold z1v at H
     refine zi _ Z (fun h30 => ?_) (fun h30 => ?_)
     ·refine tE h30 H fun H=>zb hN Z (qe Z (qe Z (zj ?_)))
      replace H:=retl H hq19
      cases H
      exact ⟨U,.inl Z,.inl Z,U⟩
     ·exact fE h30 H fun H=>zo (zn hN Z (qd Z (za (wj Z Z (by omega)) (qe Z ⟨_,qc H,⟨Z,Z,Z,U⟩,U⟩))))
theorem y6m (s1:Bs) (r:(Int×Bool)) (H:z30 s1=some r):Fn Tryz.prog 81 [vstr s1] (zu [vint r.1,zf r.2]):=by
 refine ⟨by kernel_rfl,yi (us:=[vint r.1,zf r.2]) Tryz.func81 Z Z Z Z fun X hN => ?_⟩
 unfold z30 at H
 refine zb hN Z (qe Z (qe Z (zb hN Z (qd Z (bE H fun r2 h3 H=>za (zp (y6n s1 9 r2 h3) ⟨.inl Z,.inl Z,U⟩) (za (yn Z Z) (za (yn Z Z) (qe Z (qe Z (zj ?_))))))))))
 cases H
 exact ⟨U,.inl Z,.inl Z,U⟩
theorem y0i (n1:Int) (low2:Int) (high3:Int) (r:(Bool)) (H:z1f n1 low2 high3=some r):Fn Tryz.prog 58 [vint n1,vint low2,vint high3] (zu [zf r]):=by
 refine ⟨by kernel_rfl,yi (us:=[zf r]) Tryz.func58 Z Z Z Z fun X hN => ?_⟩
 unfold z1f at H
 refine zb hN Z (qe Z (zb hN Z (qd Z (qd Z (za (yf Z Z) (qd Z (yu Z Z (fun hc=>ze (.dat _) Z) (yu Z Z (fun hc=>ze (.dat _) Z) (yu Z Z (fun hc=>qz (cnd (c:=(!(decide (n1 < low2)))) hc) (cnd (c:=(!(decide (n1 < low2)))) hc)) (za (ww Z Z (fun hb=>(cnd (c:=(!(decide (n1 < low2)))) (notI hb)))) (qe Z (zj ?_))))))))))))
 cases H
 exact ⟨U,.inl Z,U⟩
theorem y5u (s p:Bs) (r:Bs) (H:Qz s p=some r):Fn Tryz.prog 47 [vstr s,vstr p] (zu [vstr r]):=by
 unfold Qz at H
 obtain ⟨⟨⟨h1,h2⟩,h3⟩,h4⟩:=gif H
 cases h4
 refine uj (by kernel_rfl) fun M w vs hM h => ?_
 have hv:=jw (us:=[.string ⟨s.toArray⟩,.string ⟨p.toArray⟩]) h
 subst hv
 refine (Any.strings_Trim_laid Tryz.lays160 (by kernel_rfl) ⟨s.toArray⟩ ⟨p.toArray⟩ w (by simp [ByteArray.size]; omega) (by simp [ByteArray.size]; omega) (fun j b hb=>z2h h3 j b (by simpa using hb))).mono ?_
 rintro e w' ⟨rfl,hb⟩
 exact ⟨_,Z,Z,Kp.of_below hb⟩

theorem y55 (s1:Bs) (r:(Int×Bool)) (H:Zx s1=some r):Fn Tryz.prog 51 [vstr s1] (zu [vint r.1,zf r.2]):=by
 refine ⟨by kernel_rfl,yi (us:=[vint r.1,zf r.2]) Tryz.func51 Z Z Z Z fun X hN => ?_⟩
 unfold Zx at H
 refine zb hN Z (qe Z (qe Z (zb hN Z (qd Z (bE H fun r2 h3 H=>za (zp (z4f s1 [46] r2 h3) ⟨.inl Z,.inl Z,U⟩) (qd Z (za (yn Z Z) (za (yn Z Z) (za (yn Z Z) (qe Z (qe Z (qe Z (zb hN Z (qd Z (bE H fun r4 h5 H=>za (zp (y6m r2.1 r4 h5) ⟨.inl Z,U⟩) (qd Z (za (yn Z Z) (za (yn Z Z) (qe Z (qe Z (zh ?_)))))))))))))))))))))
 refine ya (ι:=Bool) (fun i=>[(5,.dat (vstr r2.2.1)),(6,.dat (zf r2.2.2)),(7,.dat (vint r4.1)),(44,.dat (zf i))]) (fun i=>[]) (fun i=>jp r2 r4 i=some r) (fun i=>Z) ?_ ?_
 ·skip
  refine zn hN Z (qd Z (za (yt Z) (qd Z (yc (j:=2) Z Z (fun h6 => ?_) (fun h6 => ?_) Z))))
  ·refine u3 h6 H fun h7 H=>zd Z Z h6 (ze (.dat _) Z) (bE H fun r8 h9 H=>zd Z Z h6 (zp (y0i r4.1 0 1 r8 h9) ⟨.inl Z,.inl Z,.inl Z,U⟩) (za (zq Z (bFF h7) Z) (qd Z (yc (j:=6) Z Z (fun h10 => ?_) (fun h10 => ?_) Z))))
   ·refine u3 h10 H fun h11 H=>zd Z Z h10 (ze (.dat _) Z) (zd Z Z h10 (ze (.dat _) Z) (yc (j:=8) Z Z (fun h12 => ?_) (fun h12 => ?_) Z))
    ·refine u1 h12 H fun h13 H=>zd Z Z h12 (ze (.dat _) Z) (zd Z Z h12 (qx Z Z) (zd Z Z h12 (ze (.dat _) Z) (yc (j:=11) Z Z (fun h14 => ?_) (fun h14 => ?_) Z)))
     ·refine u3 h14 H fun h15 H=>zd Z Z h14 (ze (.dat _) Z) (zd Z Z h14 (yr tyU9 Z) (zd Z Z h14 (qz Z Z) (zd Z Z h12 (zq Z (bFF h15) Z) (zd Z Z h12 (ze (.dat _) Z) (yc (j:=16) Z Z (fun h16 => ?_) (fun h16 => ?_) Z)))))
      ·exact u3 h16 H fun h17 H=>zd Z Z h16 (ze (.dat _) Z) (bE H fun r18 h19 H=>zd Z Z h16 (zp (y5u r2.2.1 [48,49,50,51,52,53,54,55,56,57] r18 h19) ⟨.inl Z,.inl Z,U⟩) (zd Z Z h16 (kj Z Z) (zd Z Z h12 (zq Z (bFF h17) Z) (zd Z Z h10 (zx Z (bTT h13) Z) (za (zq Z (bFF h11) Z) ⟨decide (r18≠[]),H,⟨Z,Z,Z,Z,U⟩,U⟩)))))
      ·exact u4 h16 H fun h20 H=>zc Z Z h16 (zc Z Z h16 (zc Z Z h16 (zd Z Z h12 (zx Z (bTT h20) Z) (zd Z Z h10 (zx Z (bTT h13) Z) (za (zq Z (bFF h11) Z) ⟨true,H,⟨Z,Z,Z,Z,U⟩,U⟩)))))
     ·exact u4 h14 H fun h21 H=>zc Z Z h14 (zc Z Z h14 (zc Z Z h14 (zd Z Z h12 (zx Z (bTT h21) Z) (zd Z Z h12 (ze (.dat _) Z) (zc Z Z Z (zc Z Z Z (zc Z Z Z (zd Z Z h12 (zx Z Z Z) (zd Z Z h10 (zx Z (bTT h13) Z) (za (zq Z (bFF h11) Z) ⟨true,H,⟨Z,Z,Z,Z,U⟩,U⟩))))))))))
    ·exact u2 h12 H fun h22 H=>zc Z Z h12 (zc Z Z h12 (zc Z Z h12 (zv Z Z (zv Z Z (zv Z Z (zc Z Z h12 (zc Z Z h12 (zv Z Z (zv Z Z (zv Z Z (zc Z Z h12 (zd Z Z h10 (zq Z (bFF h22) Z) (za (zq Z (bFF h11) Z) ⟨false,H,⟨Z,Z,Z,Z,U⟩,U⟩)))))))))))))
   ·exact u4 h10 H fun h23 H=>zc Z Z h10 (zc Z Z h10 (zv Z Z (zv Z Z (zv Z Z (zv Z Z (zv Z Z (zv Z Z (zv Z Z (zv Z Z (zv Z Z (zv Z Z (zv Z Z (zv Z Z (zc Z Z h10 (za (zx Z (bTT h23) Z) ⟨true,H,⟨Z,Z,Z,Z,U⟩,U⟩)))))))))))))))
  ·exact u4 h6 H fun h24 H=>zc Z Z h6 (zc Z Z h6 (za (zx Z (bTT h24) Z) (qd Z (zc Z Z Z (zc Z Z Z (zv Z Z (zv Z Z (zv Z Z (zv Z Z (zv Z Z (zv Z Z (zv Z Z (zv Z Z (zv Z Z (zv Z Z (zv Z Z (zv Z Z (zc Z Z Z (za (zx Z Z Z) ⟨true,H,⟨Z,Z,Z,Z,U⟩,U⟩)))))))))))))))))))
 ·rintro v25 H
  replace H:jp r2 r4 v25=some r:=H
  unfold jp at H
  refine zi _ Z (fun h26 => ?_) (fun h26 => ?_)
  ·refine tE h26 H fun H=>zb hN Z (qe Z (qe Z (zj ?_)))
   cases H
   exact ⟨U,.inl Z,.inl Z,U⟩
  ·refine fE h26 H fun H=>zo (zb hN Z (qd Z (za (yp _ Z Z (.inr (.inr ⟨Z,Z⟩))) (qe Z (ya (ι:=Int) (fun i=>[(7,.dat (vint i))]) (fun i=>[]) (fun i=>Zh i=some r) (fun i=>Z) ?_ ?_)))))
   ·skip
    refine zb hN Z (qd Z (zi _ Z (fun h27 => ?_) (fun h27 => ?_)))
    ·refine tE h27 H fun H=>zb hN Z (qd Z (gE H fun h28 H=>za (qm Z Z (Nat.le_trans h28 (by decide))) (bE H fun l29 h30 H=>za (qg tyU9 Z Z Z h30) (bE H fun r31 h32 H=>za (zp (z6t l29 r31 h32) ⟨.inl Z,U⟩) (qd Z (za (yn Z Z) (za (yn Z Z) (qe Z (qe Z (zh (zb hN Z (qd Z (za (z0v (n:=r31.2) (show Tryz.prog.underlying 91=some (.interface (Tryz.prog.methodsAt 91)) from by kernel_rfl) Z) ?_)))))))))))))
     refine zi _ Z (fun h33 => ?_) (fun h33 => ?_)
     ·refine tE h33 H fun H=>zb hN Z (qe Z (qe Z (zj ?_)))
      cases H
      exact ⟨U,.inl Z,.inl Z,U⟩
     ·exact fE h33 H fun H=>zo (zn hN Z (qd Z (qd Z (za (yp _ Z Z (.inl ⟨Z,Z⟩)) (qe Z ⟨wr ((wr (r4.1 * 1000))+r31.1),H,⟨Z,U⟩,U⟩)))))
    ·exact fE h27 H fun H=>zo ⟨wr (r4.1 * 1000),H,⟨Z,U⟩,U⟩
   ·rintro n34 H
    replace H:Zh n34=some r:=H
    unfold Zh at H
    refine zb hN Z (qd Z (qd Z (za (qy Z Z) (qe Z (qe Z (zj ?_))))))
    cases H
    exact ⟨U,.inl Z,.inl Z,U⟩
theorem y59 (s1:zm) (r:(zg×zm)) (H:Wc s1=some r):Imp Tryz.prog 23 53 (vg s1) [] (zu [vagg (yd r.1)]) (vg r.2):=by
 refine wm (us:=[vagg (yd r.1)]) (cs':=(vg r.2)) (by kernel_rfl) Tryz.func23 Z Z Z Z fun X bl hN => ?_
 unfold Wc at H
 refine zb hN Z (zl (vj 1 vy Z) Z (zb hN Z (za (ze (.ptr _ _) Z) (bE H fun r2 h3 H=>zl (yh (z4h s1 r2 h3) Z U Z) Z (za (yg (u':=vagg [vstr r2.1,vnil,vint 1000]) (km [(0,[vstr r2.1]),(2,[vint 1000])] vy z49 Z ⟨Z,.inl ⟨_,Z,Z,Z⟩,Z,Z,.inl ⟨_,Z,Z,Z⟩,Z,U⟩) Z) (zl (vj 2 vy Z) Z (zl (vi qf Z Z Z Z) Z (z42 2 1 3 47 2 Z Z Z Z (ya (ι:=Bs×Int×Bool×Bs) (fun i=>[(0,.ptr 0 0),(2,.ptr 1 0),(3,.ptr 2 0)]) (fun i=>[(0,.box (some bl) 53 [.dat (vstr i.1),.dat (vint i.2.1),.dat (zf i.2.2.1)]),(1,.box none 45 [.dat (vstr []),.dat (vnil),.dat (vint 0)]),(2,.box none 45 [.dat (vstr i.2.2.2),.row 3 (([]:List zt).length),.dat (vint 1000)]),(3,.row 47 2 (List.map ym ([]:List zt)))]) (fun i=>Zl i.1 i.2.1 i.2.2.1 i.2.2.2=some r) (fun i=>Z) ?_ ?_)))))))))
 ·refine wd (zb hN Z (za (ze (.ptr _ _) Z) (bE H fun r4 h5 H=>zl (yh (Wl r2.2 47 r4 h5) Z ⟨.inl Z,U⟩ Z) Z (zi _ Z (fun h6 => ?_) (fun h6 => ?_)))))
  ·refine tE h6 H fun H=>wl mixed hN Z Z (za (zk ki Z) (zw (zr tyS9 Z Z) Z (za (ze (.ptr _ _) Z) (bE H fun r7 h8 H=>zl (yh (z4h r4.2 r7 h8) Z U Z) Z (gE H fun h9 H=>za (qm Z Z (Nat.le_trans h9 (by decide))) (gE H fun h10 H=>za (qm Z Z (Nat.le_trans h10 (by decide))) (za (zk ki Z) (zl (qn tyS9 Z Z Z Z) Z ⟨Z,?_⟩))))))))
   show Cv _ _ _ _
   exact qu ⟨(r7.2.s_,r7.2.i_,r7.2.bad_,(r2.1++([47]++r7.1))),H,⟨Z,Z,Z,U⟩,⟨Z,Z,(congrArg (fun n=>some (some (AObj.box none 45 [.dat (vstr (r2.1++([47]++r7.1))),.row 3 n,.dat (vint 1000)]))) (show 0=([]:List zt).length from (by simp))),Z,U⟩⟩
  ·refine fE h6 H fun H=>zo ?_
   show Cv _ _ _ _
   exact qu ⟨(r4.2.s_,r4.2.i_,r4.2.bad_,r2.1),H,⟨Z,Z,Z,U⟩,⟨Z,Z,(congrArg (fun n=>some (some (AObj.box none 45 [.dat (vstr r2.1),.row 3 n,.dat (vint 1000)]))) (show 0=([]:List zt).length from (by simp))),Z,U⟩⟩
 ·rintro ⟨c11,c12,c13,c14⟩ H
  replace H:Zl c11 c12 c13 c14=some r:=H
  unfold Zl at H
  refine zb hN Z (qe Z (ya (ι:=Bs×Int×Bool×(List zt)×Int) (fun i=>[(2,.ptr 1 0),(3,.ptr 2 0)]) (fun i=>[(0,.box (some bl) 53 [.dat (vstr i.1),.dat (vint i.2.1),.dat (zf i.2.2.1)]),(1,.box none 45 [.dat (vstr []),.dat (vnil),.dat (vint 0)]),(2,.box none 45 [.dat (vstr c14),.row 3 i.2.2.2.1.length,.dat (vint i.2.2.2.2)]),(3,.row 47 2 (List.map ym i.2.2.2.1))]) (fun i=>z3h c14 i.1 i.2.1 i.2.2.1 i.2.2.2.1 i.2.2.2.2=some r) (fun i=>Z) ?_ ?_))
  ·refine wd (zb hN Z (za (ze (.ptr _ _) Z) (bE H fun r15 h16 H=>zl (yh (z1w (zm.mk c11 c12 c13) r15 h16) Z U Z) Z (ye (jv (fun (s:Bool×(List zt)×Bs×Int×Bool×Int)=>[(0,.ptr 0 0),(2,.ptr 1 0),(3,.ptr 2 0),(4,.dat (zf s.1))]) (fun (s:Bool×(List zt)×Bs×Int×Bool×Int)=>[(0,.box (some bl) 53 [.dat (vstr s.2.2.1),.dat (vint s.2.2.2.1),.dat (zf s.2.2.2.2.1)]),(1,.box none 45 [.dat (vstr []),.dat (vnil),.dat (vint 0)]),(2,.box none 45 [.dat (vstr c14),.row 3 s.2.1.length,.dat (vint s.2.2.2.2.2)]),(3,.row 47 2 (List.map ym s.2.1))]) (false,([]:List zt),r15.s_,r15.i_,r15.bad_,1000) H ⟨Z,Z,Z,Z,U⟩ ⟨Z,Z,Z,Z,U⟩ (fun _=>Z) ?_)))))
   rintro ⟨v17,l18,c19,c20,c21,c22⟩ q23 H hq23
   replace H:uz c14 v17 l18 c19 c20 c21 c22=some q23:=H
   unfold uz at H
   refine wd (zh (ya (ι:=Bool×Bs×Int×Bool) (fun i=>[(0,.ptr 0 0),(2,.ptr 1 0),(3,.ptr 2 0),(4,.dat (zf v17)),(32,.dat (zf i.1))]) (fun i=>[(0,.box (some bl) 53 [.dat (vstr i.2.1),.dat (vint i.2.2.1),.dat (zf i.2.2.2)]),(1,.box none 45 [.dat (vstr []),.dat (vnil),.dat (vint 0)]),(2,.box none 45 [.dat (vstr c14),.row 3 l18.length,.dat (vint c22)]),(3,.row 47 2 (List.map ym l18))]) (fun i=>kq c14 v17 l18 c22 i.1 i.2.1 i.2.2.1 i.2.2.2=some q23) (fun i=>Z) ?_ ?_))
   ·refine wd (zn hN Z (za (ze (.ptr _ _) Z) (za (zy Z) (za (zk va Z) (zw (zr tyS4 Z Z) Z (za (yt Z) (qd Z (yc (j:=5) Z Z (fun h24 => ?_) (fun h24 => ?_) Z))))))))
    ·refine u1 h24 H fun h25 H=>zd Z Z h24 (ze (.ptr _ _) Z) (bE H fun r26 h27 H=>z29 Z Z h24 (yh (Wl (zm.mk c19 c20 c21) 59 r26 h27) Z ⟨.inl Z,U⟩ Z) Z (za (zx Z (bTT h25) Z) (wg ?_)))
     show Cv _ _ _ _
     exact qu ⟨(r26.1,r26.2.s_,r26.2.i_,r26.2.bad_),H,⟨Z,Z,Z,Z,Z,U⟩,⟨Z,Z,Z,Z,U⟩⟩
    ·refine u2 h24 H fun h28 H=>zc Z Z h24 (zc Z Z h24 (za (zq Z (bFF h28) Z) (wg ?_)))
     show Cv _ _ _ _
     exact qu ⟨(false,c19,c20,c21),H,⟨Z,Z,Z,Z,Z,U⟩,⟨Z,Z,Z,Z,U⟩⟩
   ·rintro ⟨v29,c30,c31,c32⟩ H
    replace H:kq c14 v17 l18 c22 v29 c30 c31 c32=some q23:=H
    unfold kq at H
    refine zi _ Z (fun h33 => ?_) (fun h33 => ?_)
    ·refine tE h33 H fun H=>zo (ya (ι:=Bool×Bs×Int×Bool×(List zt)×Int) (fun i=>[(0,.ptr 0 0),(2,.ptr 1 0),(3,.ptr 2 0),(4,.dat (zf i.1))]) (fun i=>[(0,.box (some bl) 53 [.dat (vstr i.2.1),.dat (vint i.2.2.1),.dat (zf i.2.2.2.1)]),(1,.box none 45 [.dat (vstr []),.dat (vnil),.dat (vint 0)]),(2,.box none 45 [.dat (vstr c14),.row 3 i.2.2.2.2.1.length,.dat (vint i.2.2.2.2.2)]),(3,.row 47 2 (List.map ym i.2.2.2.2.1))]) (fun i=>Qm i.1 i.2.1 i.2.2.1 i.2.2.2.1 i.2.2.2.2.1 i.2.2.2.2.2=some q23) (fun i=>Z) ?_ ?_)
     ·refine wd (ye (zb hN Z (za (ze (.ptr _ _) Z) (bE H fun r34 h35 H=>zl (yh (z1w (zm.mk c30 c31 c32) r34 h35) Z U Z) Z (zb hN Z (za (ze (.ptr _ _) Z) (bE H fun r36 h37 H=>zl (yh (z4h r34 r36 h37) Z U Z) Z (qe Z (ya (ι:=Bs×Int×Bool) (fun i=>[(0,.ptr 0 0),(2,.ptr 1 0),(3,.ptr 2 0),(4,.dat (zf v17)),(5,.dat (vstr r36.1))]) (fun i=>[(0,.box (some bl) 53 [.dat (vstr i.1),.dat (vint i.2.1),.dat (zf i.2.2)]),(1,.box none 45 [.dat (vstr []),.dat (vnil),.dat (vint 0)]),(2,.box none 45 [.dat (vstr c14),.row 3 l18.length,.dat (vint c22)]),(3,.row 47 2 (List.map ym l18))]) (fun i=>ko v17 l18 c22 r36 i.1 i.2.1 i.2.2=some q23) (fun i=>Z) ?_ ?_)))))))))
      ·refine wd (zn hN Z (za (ze (.ptr _ _) Z) (za (ze (.ptr _ _) Z) (za (zy Z) (za (zk va Z) (zw (zr tyS4 Z Z) Z (qd Z (yc (j:=5) Z Z (fun h38 => ?_) (fun h38 => ?_) Z))))))))
       ·refine u3 h38 H fun h39 H=>zd Z Z h38 (ze (.ptr _ _) Z) (bE H fun r40 h41 H=>z29 Z Z h38 (yh (Wl r36.2 61 r40 h41) Z ⟨.inl Z,U⟩ Z) Z (zd Z Z h38 (yt Z) (za (zq Z (bFF h39) Z) (za (zy Z) (za (zk va Z) (zl (qn tyS4 Z Z Z Z) Z (wg ?_)))))))
        show Cv _ _ _ _
        exact qu ⟨(r40.2.s_,r40.2.i_,!r40.1),H,⟨Z,Z,Z,Z,Z,U⟩,⟨Z,Z,Z,Z,U⟩⟩
       ·refine u4 h38 H fun h42 H=>zc Z Z h38 (zc Z Z h38 (zc Z Z h38 (za (zx Z (bTT h42) Z) (za (zy Z) (za (zk va Z) (zl (qn tyS4 Z Z Z Z) Z (wg ?_)))))))
        show Cv _ _ _ _
        exact qu ⟨(r36.2.s_,r36.2.i_,true),H,⟨Z,Z,Z,Z,Z,U⟩,⟨Z,Z,Z,Z,U⟩⟩
      ·rintro ⟨c43,c44,c45⟩ H
       replace H:ko v17 l18 c22 r36 c43 c44 c45=some q23:=H
       unfold ko at H
       refine zb hN Z (za (ze (.ptr _ _) Z) (bE H fun r46 h47 H=>zl (yh (Wl (zm.mk c43 c44 c45) 34 r46 h47) Z ⟨.inl Z,U⟩ Z) Z (qe Z (zb hN Z (qe Z (ya (ι:=Bs×Bs×Int×Bool) (fun i=>[(0,.ptr 0 0),(2,.ptr 1 0),(3,.ptr 2 0),(4,.dat (zf v17)),(5,.dat (vstr r36.1)),(6,.dat (zf r46.1)),(7,.dat (vstr i.1))]) (fun i=>[(0,.box (some bl) 53 [.dat (vstr i.2.1),.dat (vint i.2.2.1),.dat (zf i.2.2.2)]),(1,.box none 45 [.dat (vstr []),.dat (vnil),.dat (vint 0)]),(2,.box none 45 [.dat (vstr c14),.row 3 l18.length,.dat (vint c22)]),(3,.row 47 2 (List.map ym l18))]) (fun i=>xa v17 l18 c22 r36 r46 i.1 i.2.1 i.2.2.1 i.2.2.2=some q23) (fun i=>Z) ?_ ?_))))))
       ·refine wd (zb hN Z (qd Z (zi _ Z (fun h48 => ?_) (fun h48 => ?_))))
        ·refine tE h48 H fun H=>zn hN Z (za (ze (.ptr _ _) Z) (bE H fun r49 h50 H=>zl (yh (y58 r46.2 r49 h50) Z U Z) Z (qe Z (wg ?_))))
         show Cv _ _ _ _
         exact qu ⟨(r49.1,r49.2.s_,r49.2.i_,r49.2.bad_),H,⟨Z,Z,Z,Z,Z,Z,Z,U⟩,⟨Z,Z,Z,Z,U⟩⟩
        ·refine fE h48 H fun H=>zn hN Z (za (ze (.ptr _ _) Z) (bE H fun r51 h52 H=>zl (yh (z4h r46.2 r51 h52) Z U Z) Z (qe Z (wg ?_))))
         show Cv _ _ _ _
         exact qu ⟨(r51.1,r51.2.s_,r51.2.i_,r51.2.bad_),H,⟨Z,Z,Z,Z,Z,Z,Z,U⟩,⟨Z,Z,Z,Z,U⟩⟩
       ·rintro ⟨v53,c54,c55,c56⟩ H
        replace H:xa v17 l18 c22 r36 r46 v53 c54 c55 c56=some q23:=H
        unfold xa at H
        refine zh (zb hN Z (qd Z (bE H fun r57 h58 H=>za (zp (y0f r36.1 r57 h58) ⟨.inl Z,U⟩) (za (yt Z) (zi _ Z (fun h59 => ?_) (fun h59 => ?_))))))
        ·refine tE h59 H fun H=>zb hN Z (za (zk wv Z) (zw (zr wu Z Z) Z (qd Z (qd Z (za (yg (u':=vagg (ym (zt.mk r36.1 v53))) (km [(0,[vstr r36.1]),(1,[vstr v53])] xw z2t Z ⟨Z,.inl ⟨_,Z,Z,Z⟩,Z,Z,.inl ⟨_,Z,Z,Z⟩,Z,U⟩) Z) (za (yg (u':=vlst (List.map ym [(zt.mk r36.1 v53)])) (qj [_] un ⟨Z,.inr Z,Z,U⟩ Z Z) Z) (gE H fun h60 H=>zl (jc un (fun _=>Z) Z Z Z ⟨by simp,by first | (simp; done) | simpa using h60⟩ Z) Z ?_)))))))
         refine za (zk wv Z) (z0x (z0t wu Z Z (by rw [List.length_map]) Z) Z Z ?_)
         refine yv ?_
         show Cv _ _ _ _
         exact qu ⟨(v17,c54,c55,c56,(l18++[(zt.mk r36.1 v53)]),c22),H,⟨Z,Z,Z,Z,U⟩,⟨Z,Z,Z,Z,U⟩⟩
        ·refine fE h59 H fun H=>zo (zb hN Z (qd Z (bE H fun r61 h62 H=>za (zp (y55 v53 r61 h62) ⟨.inl Z,U⟩) (qd Z (za (yn Z Z) (za (yn Z Z) (qe Z (qe Z (zb hN Z (za (ze (.ptr _ _) Z) (za (ze (.ptr _ _) Z) (za (zy Z) (za (zk va Z) (zw (zr tyS4 Z Z) Z (qd Z (yu Z Z (fun hc=>ze (.dat _) Z) (za (ww Z Z (fun hb=>(cnd (c:=(!c56)) (notI hb)))) (qd Z (yu Z Z (fun hc=>ze (.dat _) Z) (za (ww Z Z (fun hb=>(cnd (c:=(!(c56 || v17))) (notI hb)))) (qd Z ?_)))))))))))))))))))))
         refine yu Z Z (fun hc=>ze (.dat _) Z) (yu Z Z (fun hc=>yt (cnd (c:=(!((c56 || v17) || r46.1))) hc)) (za (ww Z Z (fun hb=>(cnd (c:=(!((c56 || v17) || r46.1))) (notI hb)))) (za (zy Z) (za (zk va Z) (zl (qn tyS4 Z Z Z Z) Z (zn hN Z (qd Z (za (zk jm Z) (zl (qn tyS3 Z Z Z Z) Z (qe Z (wg ?_)))))))))))
         show Cv _ _ _ _
         exact qu ⟨(true,c54,c55,(((c56 || v17) || r46.1) || (!r61.2)),l18,r61.1),H,⟨Z,Z,Z,Z,U⟩,⟨Z,Z,Z,Z,U⟩⟩
     ·rintro ⟨v63,c64,c65,c66,l67,c68⟩ H
      replace H:Qm v63 c64 c65 c66 l67 c68=some q23:=H
      unfold Qm at H
      refine zn hN Z (za (ze (.ptr _ _) Z) (bE H fun r69 h70 H=>zl (yh (z1w (zm.mk c64 c65 c66) r69 h70) Z U Z) Z (wg ?_)))
      show Cv _ _ _ _
      exact qu ⟨_,qc H,⟨Z,Z,Z,Z,U⟩,⟨Z,Z,Z,Z,U⟩⟩
    ·refine fE h33 H fun H=>yv ?_
     replace H:=outl H hq23
     show Cv _ _ _ _
     refine qu ?_
     show Cv _ _ _ _
     exact qu ⟨(c30,c31,c32,l18,c22),H,⟨Z,Z,U⟩,⟨Z,Z,Z,Z,U⟩⟩
  ·rintro ⟨c71,c72,c73,l74,c75⟩ H
   replace H:z3h c14 c71 c72 c73 l74 c75=some r:=H
   unfold z3h at H
   refine zh (z2f 2 1 3 rfl rfl rfl (by first | rw [List.length_map] | rfl) ?_)
   refine zn hN Z (zw (kl qf Z Z Z) Z (zl (vi qf Z Z Z Z) Z (zj ?_)))
   cases H
   exact ⟨U,⟨.inl ⟨_,_,_,yd (zg.mk c14 l74 c75),Z,Z,Z,Z,qf⟩,U⟩,Z⟩
theorem y51 (s1:(List zg)) (p1:zg→Option (Bool)) (fv1:Nat) (us1:List V) (hp1:∀ a0 r,p1 a0=some r→Fn Tryz.prog fv1 ([vagg (yd a0)]++us1) (zu [zf r])) (r:(Int)) (H:z6k s1 p1=some r):Fn Tryz.prog 52 [vlst (List.map yd s1),vfn fv1 us1] (zu [vint r]):=by
 refine ⟨by kernel_rfl,yi (us:=[vint r]) Tryz.func52 Z Z Z Z fun X hN => ?_⟩
 unfold z6k at H
 refine zb hN Z (qe Z (zh (zb hN Z (qd Z (za (ql jl Z) (qd Z (ye (gE H fun h4 H=>vf (fun (k2:Nat) (s:Unit)=>[(0,.dat (vlst (List.map yd s1))),(1,.dat (vfn fv1 us1)),(7,.dat (vint (s1.length:Int))),(8,.dat (vint (k2:Int)))]) (fun (k2:Nat) (s:Unit)=>[]) () H ⟨Z,Z,Z,Z,U⟩ U (fun _ _=>Z) ?_ ?_))))))))
 ·rintro ⟨⟩ H
  replace H:z5s=some r:=H
  unfold z5s at H
  refine zb hN Z (za (yf Z Z) (zh (zi _ Z (fun h=>(lt_t h).elim) (fun h => ?_))))
  refine yv (zb hN Z (qe Z (zj ?_)))
  cases H
  exact ⟨U,.inl Z,U⟩
 ·rintro k2 x5 ⟨⟩ q3 h6 h7 H hq3
  replace H:z5r p1 k2 x5=some q3:=H
  unfold z5r at H
  refine zb hN Z (za (yf Z Z) (zh (zi _ Z (fun h => ?_) (fun h=>(lt_f h6 h).elim))))
  refine zo (zh (ye (zb hN Z (qd Z (qe Z (zb hN Z (qd Z (qd Z (qd Z (za (ja Qb (fun _=>Z) Z Z h7) (za (kk qf Z (wz h7) Z) (bE H fun r8 h9 H=>za (z8y (hp1 x5 r8 h9) Z ⟨.inl Z,U⟩) (zi _ Z (fun h10 => ?_) (fun h10 => ?_))))))))))))))
  ·refine tE h10 H fun H=>zb hN Z (qd Z (qe Z (zj ?_)))
   replace H:=retl H hq3
   cases H
   exact ⟨U,.inl Z,U⟩
  ·exact fE h10 H fun H=>zo (zn hN Z (za (wj Z Z (by omega)) (qd Z ⟨_,qc H,⟨Z,Z,Z,Z,U⟩,U⟩)))
theorem z4g (s1:(List zg)) (p1:zg→Option (Bool)) (fv1:Nat) (us1:List V) (hp1:∀ a0 r,p1 a0=some r→Fn Tryz.prog fv1 ([vagg (yd a0)]++us1) (zu [zf r])) (r:(Bool)) (H:ke s1 p1=some r):Fn Tryz.prog 24 [vlst (List.map yd s1),vfn fv1 us1] (zu [zf r]):=by
 refine ⟨by kernel_rfl,yi (us:=[zf r]) Tryz.func24 Z Z Z Z fun X hN => ?_⟩
 unfold ke at H
 refine zb hN Z (qe Z (zb hN Z (qd Z (qd Z (bE H fun r2 h3 H=>za (zp (y51 s1 p1 fv1 us1 hp1 r2 h3) ⟨.inl Z,.inl Z,U⟩) (za (vc Z Z) (qe Z (zj ?_))))))))
 cases H
 exact ⟨U,.inl Z,U⟩
theorem y6g (it1:zg) (r:(Bool)) (H:z1b it1=some r):Fn Tryz.prog 25 [vagg (yd it1)] (zu [zf r]):=by
 refine ⟨by kernel_rfl,yi (us:=[zf r]) Tryz.func25 Z Z Z Z fun X hN => ?_⟩
 unfold z1b at H
 refine zb hN Z (zl (jy 1 Z) Z (qe Z (zb hN Z (za (zk wv Z) (zw (zr wu Z Z) Z (za (ql kh Z) (za (qz Z Z) (qe Z (zj ?_)))))))))
 cases H
 exact ⟨U,.inl Z,U⟩
theorem y6h (v1:Bs) (r:((List zg)×Int)) (H:z1c v1=some r):Fn Tryz.prog 6 [vstr v1] (zu [vlst (List.map yd r.1),vint r.2]):=by
 refine ⟨by kernel_rfl,yi (us:=[vlst (List.map yd r.1),vint r.2]) Tryz.func6 Z Z Z Z fun X hN => ?_⟩
 unfold z1c at H
 refine zb hN Z (qe Z (qe Z (zh (zb hN Z (qd Z (bE H fun r2 h3 H=>za (zp (y6l v1 r2 h3) ⟨.inl Z,U⟩) (za (yt Z) (zi _ Z (fun h4 => ?_) (fun h4 => ?_)))))))))
 ·refine tE h4 H fun H=>zb hN Z (qe Z (qe Z (zj ?_)))
  cases H
  exact ⟨U,.inr ⟨Z,Z⟩,.inl Z,U⟩
 ·refine fE h4 H fun H=>zo (zb hN Z (qd Z (za (yg (u':=vagg (vg (zm.mk v1 0 false))) (km [(0,[vstr v1])] y15 y2a Z ⟨Z,.inl ⟨_,Z,Z,Z⟩,Z,U⟩) Z) (zl (jy 1 Z) Z (za (wy (.ptr _ _) Z) (zb hN Z (qe Z (ya (ι:=(List zg)×Bs×Int×Bool) (fun i=>[(4,.ptr 1 0),(5,.row 2 i.1.length)]) (fun i=>[(1,.box none 53 [.dat (vstr i.2.1),.dat (vint i.2.2.1),.dat (zf i.2.2.2)]),(2,.row 45 3 (List.map yd i.1))]) (fun i=>Zr i.1 i.2.1 i.2.2.1 i.2.2.2=some r) (fun i=>Z) ?_ ?_))))))))
  ·skip
   refine zb hN Z (za (ze (.ptr _ _) Z) (bE H fun r5 h6 H=>zl (yh (z1w (zm.mk v1 0 false) r5 h6) Z U Z) Z (ye (uk 5 2 45 3 Z Z Z (jv (fun (s:Bs×Int×Bool×(List zg))=>[(0,.dat (vstr v1)),(4,.ptr 1 0),(5,.row 2 s.2.2.2.length)]) (fun (s:Bs×Int×Bool×(List zg))=>[(1,.box none 53 [.dat (vstr s.1),.dat (vint s.2.1),.dat (zf s.2.2.1)]),(2,.row 45 3 (List.map yd s.2.2.2))]) (r5.s_,r5.i_,r5.bad_,[]) H ⟨Z,Z,Z,U⟩ ⟨Z,Z,U⟩ (fun _=>Z) ?_)))))
   rintro ⟨c7,c8,c9,l10⟩ q11 H hq11
   replace H:jq v1 c7 c8 c9 l10=some q11:=H
   unfold jq at H
   refine zh (zb hN Z (za (ze (.ptr _ _) Z) (za (zy Z) (za (zk qq Z) (zw (zr tyS3 Z Z) Z (qd Z (za (yr tyU9 Z) (za (yf Z Z) (qd Z (yx Z Z (fun hc=>ze (.ptr _ _) Z) (yx Z Z (fun hc=>zy (cnd (c:=(decide (c8 < (v1.length:Int)))) hc)) (yx Z Z (fun hc=>zk va (cnd (c:=(decide (c8 < (v1.length:Int)))) hc)) (y3s Z Z (fun hc=>zr tyS4 (cnd (c:=(decide (c8 < (v1.length:Int)))) hc) Z) Z z7o (yx Z Z (fun hc=>yt (cnd (c:=(decide (c8 < (v1.length:Int)))) hc)) (za (wc Z (fun hb=>(cnd (c:=(decide (c8 < (v1.length:Int)))) hb)) Z) (zi _ Z (fun h12 => ?_) (fun h12 => ?_)))))))))))))))))
   ·refine tE h12 H fun H=>zo (ya (ι:=(List zg)×Bs×Int×Bool) (fun i=>[(0,.dat (vstr v1)),(4,.ptr 1 0),(5,.row 2 i.1.length)]) (fun i=>[(1,.box none 53 [.dat (vstr i.2.1),.dat (vint i.2.2.1),.dat (zf i.2.2.2)]),(2,.row 45 3 (List.map yd i.1))]) (fun i=>jg i.1 i.2.1 i.2.2.1 i.2.2.2=some q11) (fun i=>Z) ?_ ?_)
    ·skip
     refine ye (zh (zb hN Z (za (ze (.ptr _ _) Z) (bE H fun r13 h14 H=>zl (yh (Wl (zm.mk c7 c8 c9) 44 r13 h14) Z ⟨.inl Z,U⟩ Z) Z (zi _ Z (fun h15 => ?_) (fun h15 => ?_))))))
     ·exact tE h15 H fun H=>yv ⟨(l10,r13.2.s_,r13.2.i_,r13.2.bad_),H,⟨Z,Z,Z,U⟩,⟨Z,Z,U⟩⟩
     ·refine fE h15 H fun H=>zo (zb hN Z (za (ze (.row _ _) Z) (za (ze (.ptr _ _) Z) (bE H fun r16 h17 H=>zl (yh (y59 r13.2 r16 h17) Z U Z) Z (za (yg (u':=vlst (List.map yd [r16.1])) (qj [_] Qa ⟨Z,.inr Z,Z,U⟩ Z Z) Z) (gE H fun h18 H=>zl (jc Qa (fun _=>Z) Z Z Z ⟨by simp,by first | (simp; done) | simpa using h18⟩ Z) Z ?_))))))
      refine za (wy (.row _ _) Z) (zn hN Z (za (ze (.ptr _ _) Z) (za (ze (.ptr _ _) Z) (za (zy Z) (za (zk va Z) (zw (zr tyS4 Z Z) Z (qd Z (yc (j:=5) Z Z (fun h19 => ?_) (fun h19 => ?_) Z))))))))
      ·refine u3 h19 H fun h20 H=>zd Z Z h19 (ze (.ptr _ _) Z) (zd Z Z h19 (zy Z) (zd Z Z h19 (zk qq Z) (we Z Z h19 (zr tyS3 Z Z) Z (zd Z Z h19 (ze (.dat _) Z) (zd Z Z h19 (yr tyU9 Z) (zd Z Z h19 (yf Z Z) (zd Z Z h19 (ze (.dat _) Z) (yc (j:=13) Z Z (fun h21 => ?_) (fun h21 => ?_) Z))))))))
       ·exact u1 h21 H fun h22 H=>zd Z Z h21 (ze (.ptr _ _) Z) (bE H fun r23 h24 H=>z29 Z Z h21 (yh (Wl r16.2 44 r23 h24) Z ⟨.inl Z,U⟩ Z) Z (zd Z Z h21 (yt Z) (zd Z Z h19 (zx Z (bTT h22) Z) (za (zq Z (bFF h20) Z) (za (zy Z) (za (zk va Z) (zl (qn tyS4 Z Z Z Z) Z ⟨((l10++[r16.1]),r23.2.s_,r23.2.i_,!r23.1),H,⟨Z,Z,Z,U⟩,⟨Z,Z,U⟩⟩)))))))
       ·exact u2 h21 H fun h25 H=>zc Z Z h21 (zc Z Z h21 (zc Z Z h21 (zd Z Z h19 (zq Z (bFF h25) Z) (za (zq Z (bFF h20) Z) (za (zy Z) (za (zk va Z) (zl (qn tyS4 Z Z Z Z) Z ⟨((l10++[r16.1]),r16.2.s_,r16.2.i_,false),H,⟨Z,Z,Z,U⟩,⟨Z,Z,U⟩⟩)))))))
      ·exact u4 h19 H fun h26 H=>zc Z Z h19 (zc Z Z h19 (zc Z Z h19 (zc Z Z h19 (zc Z Z h19 (zc Z Z h19 (zc Z Z h19 (zc Z Z h19 (zv Z Z (zv Z Z (zv Z Z (zc Z Z h19 (za (zx Z (bTT h26) Z) (za (zy Z) (za (zk va Z) (zl (qn tyS4 Z Z Z Z) Z ⟨((l10++[r16.1]),r16.2.s_,r16.2.i_,true),H,⟨Z,Z,Z,U⟩,⟨Z,Z,U⟩⟩)))))))))))))))
    ·rintro ⟨v27,c28,c29,c30⟩ H
     replace H:jg v27 c28 c29 c30=some q11:=H
     unfold jg at H
     exact zn hN Z (za (ze (.ptr _ _) Z) (bE H fun r31 h32 H=>zl (yh (z1w (zm.mk c28 c29 c30) r31 h32) Z U Z) Z ⟨_,qc H,⟨Z,Z,Z,U⟩,⟨Z,Z,U⟩⟩))
   ·refine fE h12 H fun H=>yv ?_
    replace H:=outl H hq11
    exact ⟨(l10,c7,c8,c9),H,⟨Z,Z,U⟩,⟨Z,Z,U⟩⟩
  ·rintro ⟨v33,c34,c35,c36⟩ H
   replace H:Zr v33 c34 c35 c36=some r:=H
   unfold Zr at H
   refine zh (zb hN Z (za (ze (.ptr _ _) Z) (za (zy Z) (za (zk va Z) (zw (zr tyS4 Z Z) Z (zi _ Z (fun h37 => ?_) (fun h37 => ?_)))))))
   ·refine tE h37 H fun H=>zb hN Z (qe Z (qe Z (zj ?_)))
    cases H
    exact ⟨U,.inr ⟨Z,Z⟩,.inl Z,U⟩
   ·refine fE h37 H fun H=>zo (zh (ya (ι:=Bool) (fun i=>[(5,.dat (vlst (List.map yd v33))),(68,.dat (zf i))]) (fun i=>[]) (fun i=>Qu v33 i=some r) (fun i=>Z) ?_ ?_))
    ·skip
     refine ur 5 2 Z Z Z (zn hN Z (qd Z (za (ql jl Z) (za (qz Z Z) (qd Z (yc (j:=3) Z Z (fun h38 => ?_) (fun h38 => ?_) Z))))))
     ·exact u3 h38 H fun h39 H=>zd Z Z h38 (ze (.dat _) Z) (bE H fun r40 h41 H=>zd Z Z h38 (z0w (z4g v33 (fun (a0:zg)=>z1b a0) 25 [] (fun a0 r h=>y6g a0 r h) r40 h41) ⟨.inl (.inl Z),.inr ⟨_,Z,Z⟩,U⟩) (za (zq Z (bFF h39) Z) ⟨r40,H,⟨Z,Z,U⟩,U⟩))
     ·exact u4 h38 H fun h42 H=>zc Z Z h38 (zc Z Z h38 (za (zx Z (bTT h42) Z) ⟨true,H,⟨Z,Z,U⟩,U⟩))
    ·rintro v43 H
     replace H:Qu v33 v43=some r:=H
     unfold Qu at H
     refine zi _ Z (fun h44 => ?_) (fun h44 => ?_)
     ·refine tE h44 H fun H=>zb hN Z (qe Z (qe Z (zj ?_)))
      cases H
      exact ⟨U,.inr ⟨Z,Z⟩,.inl Z,U⟩
     ·refine fE h44 H fun H=>zo (zb hN Z (qd Z (qe Z (qe Z (zj ?_)))))
      cases H
      exact ⟨U,.inl Z,.inl Z,U⟩
theorem y0l (s1:Bs) (low2:Int) (r:(Bool)) (H:z1h s1 low2=some r):Fn Tryz.prog 38 [vstr s1,vval (.int .u8 low2)] (zu [zf r]):=by
 refine ⟨by kernel_rfl,yi (us:=[zf r]) Tryz.func38 Z Z Z Z fun X hN => ?_⟩
 unfold z1h at H
 refine zb hN Z (qe Z (zh (zb hN Z (qd Z (za (yr tyU9 Z) (qd Z (ye (gE H fun h5 H=>vf (fun (k3:Nat) (s:Unit)=>[(0,.dat (vstr s1)),(1,.dat (vval (.int .u8 low2))),(7,.dat (vint (s1.length:Int))),(8,.dat (vint (k3:Int)))]) (fun (k3:Nat) (s:Unit)=>[]) () H ⟨Z,Z,Z,Z,U⟩ U (fun _ _=>Z) ?_ ?_))))))))
 ·rintro ⟨⟩ H
  replace H:z69=some r:=H
  unfold z69 at H
  refine zb hN Z (za (yf Z Z) (zh (zi _ Z (fun h=>(lt_t h).elim) (fun h => ?_))))
  refine yv (zb hN Z (qe Z (zj ?_)))
  cases H
  exact ⟨U,.inl Z,U⟩
 ·rintro k3 x6 ⟨⟩ q4 h7 h8 H hq4
  replace H:z68 low2 k3 x6=some q4:=H
  unfold z68 at H
  refine zb hN Z (za (yf Z Z) (zh (zi _ Z (fun h => ?_) (fun h=>(lt_f h7 h).elim))))
  refine zo (zh (ye (zb hN Z (qd Z (qe Z (ya (ι:=Bool) (fun i=>[(0,.dat (vstr s1)),(1,.dat (vval (.int .u8 low2))),(7,.dat (vint (s1.length:Int))),(8,.dat (vint (k3:Int))),(21,.dat (zf i))]) (fun i=>[]) (fun i=>z2d i=some q4) (fun i=>Z) ?_ ?_))))))
  ·skip
   refine zn hN Z (qd Z (qd Z (za (yw tyU9 Z Z h8) (qd Z (za (yf Z Z) (qd Z (yc (j:=5) Z Z (fun h9 => ?_) (fun h9 => ?_) Z)))))))
   ·exact u3 h9 H fun h10 H=>zd Z Z h9 (ze (.dat _) Z) (zd Z Z h9 (ze (.dat _) Z) (zd Z Z h9 (yw tyU9 Z Z h8) (zd Z Z h9 (qz Z Z) (za (zq Z (bFF h10) Z) ⟨decide (126 < (x6.toNat:Int)),H,⟨Z,Z,Z,Z,Z,U⟩,U⟩))))
   ·exact u4 h9 H fun h11 H=>zc Z Z h9 (zc Z Z h9 (zc Z Z h9 (zc Z Z h9 (za (zx Z (bTT h11) Z) ⟨true,H,⟨Z,Z,Z,Z,Z,U⟩,U⟩))))
  ·rintro v12 H
   replace H:z2d v12=some q4:=H
   unfold z2d at H
   refine zi _ Z (fun h13 => ?_) (fun h13 => ?_)
   ·refine tE h13 H fun H=>zb hN Z (qe Z (zj ?_))
    replace H:=retl H hq4
    cases H
    exact ⟨U,.inl Z,U⟩
   ·exact fE h13 H fun H=>zo (zn hN Z (za (wj Z Z (by omega)) (qd Z ⟨_,qc H,⟨Z,Z,Z,Z,U⟩,U⟩)))
theorem y6z (s1:Bs) (r:(Bool)) (H:z35 s1=some r):Fn Tryz.prog 26 [vstr s1] (zu [zf r]):=by
 refine ⟨by kernel_rfl,yi (us:=[zf r]) Tryz.func26 Z Z Z Z fun X hN => ?_⟩
 unfold z35 at H
 refine zb hN Z (qe Z (ya (ι:=Bool) (fun i=>[(2,.dat (zf i))]) (fun i=>[]) (fun i=>z0e i=some r) (fun i=>Z) ?_ ?_))
 ·skip
  refine zn hN Z (qd Z (za (yr tyU9 Z) (za (qy Z Z) (qd Z (yc (j:=3) Z Z (fun h2 => ?_) (fun h2 => ?_) Z)))))
  ·refine u1 h2 H fun h3 H=>zd Z Z h2 (ze (.dat _) Z) (bE H fun r4 h5 H=>zd Z Z h2 (zp (y0l s1 32 r4 h5) ⟨.inl Z,.inl Z,U⟩) (za (zx Z (bTT h3) Z) (qd Z (yc (j:=7) Z Z (fun h6 => ?_) (fun h6 => ?_) Z))))
   ·exact u1 h6 H fun h7 H=>zd Z Z h6 (ze (.dat _) Z) (bE H fun r8 h9 H=>zd Z Z h6 (zp (y0a s1 [32] r8 h9) ⟨.inl Z,.inl Z,U⟩) (zd Z Z h6 (ze (.dat _) Z) (zd Z Z h6 (qx Z Z) (za (zx Z (bTT h7) Z) (qe Z ⟨decide (r8=s1),H,⟨Z,U⟩,U⟩)))))
   ·exact u2 h6 H fun h10 H=>zc Z Z h6 (zc Z Z h6 (zc Z Z h6 (zc Z Z h6 (za (zq Z (bFF h10) Z) (qe Z ⟨false,H,⟨Z,U⟩,U⟩)))))
  ·exact u2 h2 H fun h11 H=>zc Z Z h2 (zc Z Z h2 (za (zq Z (bFF h11) Z) (qd Z (zc Z Z Z (zc Z Z Z (zc Z Z Z (zc Z Z Z (za (zq Z Z Z) (qe Z ⟨false,H,⟨Z,U⟩,U⟩)))))))))
 ·rintro v12 H
  replace H:z0e v12=some r:=H
  unfold z0e at H
  refine zj ?_
  cases H
  exact ⟨U,.inl Z,U⟩
theorem y5w (s1:Bs) (cutset2:Bs) (r:(Bs)) (H:z3p s1 cutset2=some r):Fn Tryz.prog 53 [vstr s1,vstr cutset2] (zu [vstr r]):=by
 refine ⟨by kernel_rfl,yi (us:=[vstr r]) Tryz.func53 Z Z Z Z fun X hN => ?_⟩
 unfold z3p at H
 refine zb hN Z (qe Z (zh (zb hN Z (qd Z (za (qx Z Z) (qd Z (yu Z Z (fun hc=>ze (.dat _) Z) (yu Z Z (fun hc=>qx (cnd (c:=(!(decide (s1=[])))) hc) Z) (za (ww Z Z (fun hb=>(cnd (c:=(!(decide (s1=[])))) (notI hb)))) (zi _ Z (fun h3 => ?_) (fun h3 => ?_)))))))))))
 ·refine tE h3 H fun H=>zb hN Z (qd Z (qe Z (zj ?_)))
  cases H
  exact ⟨U,.inl Z,U⟩
 ·refine fE h3 H fun H=>zo (zh (ya (ι:=Bool) (fun i=>[(0,.dat (vstr s1)),(1,.dat (vstr cutset2)),(21,.dat (zf i))]) (fun i=>[]) (fun i=>Qf s1 cutset2 i=some r) (fun i=>Z) ?_ ?_))
  ·skip
   refine zn hN Z (qd Z (za (yr tyU9 Z) (za (yk Z Z) (qd Z (yc (j:=3) Z Z (fun h4 => ?_) (fun h4 => ?_) Z)))))
   ·exact u1 h4 H fun h5 H=>zd Z Z h4 (ze (.dat _) Z) (bE H fun x6 h7 H=>zd Z Z h4 (yw tyU9 Z Z h7) (zd Z Z h4 (yf Z Z) (za (zx Z (bTT h5) Z) ⟨decide ((x6.toNat:Int) < 128),H,⟨Z,Z,Z,U⟩,U⟩)))
   ·exact u2 h4 H fun h8 H=>zc Z Z h4 (zc Z Z h4 (zc Z Z h4 (za (zq Z (bFF h8) Z) ⟨false,H,⟨Z,Z,Z,U⟩,U⟩)))
  ·rintro v9 H
   replace H:Qf s1 cutset2 v9=some r:=H
   unfold Qf at H
   refine zi _ Z (fun h10 => ?_) (fun h10 => ?_)
   ·refine tE h10 H fun H=>zb hN Z (qd Z (qd Z (bE H fun x11 h12 H=>za (yw tyU9 Z Z h12) (bE H fun r13 h14 H=>za (zp (z98 s1 (x11.toNat:Int) r13 h14) ⟨.inl Z,.inl Z,U⟩) (qe Z (zj ?_))))))
    cases H
    exact ⟨U,.inl Z,U⟩
   ·refine fE h10 H fun H=>?_
    cases H
theorem z4i (s1:yb) (r:(yb)) (H:xg s1=some r):Imp Tryz.prog 27 60 (jk s1) [] (zu []) (jk r):=by
 refine wm (us:=[]) (cs':=(jk r)) (by kernel_rfl) Tryz.func27 Z Z Z Z fun X bl hN => ?_
 unfold xg at H
 refine zn hN Z (za (ze (.ptr _ _) Z) (za (ze (.ptr _ _) Z) (za (zy Z) (za (zk qb Z) (zw (zr tyS9 Z Z) Z (bE H fun r2 h3 H=>za (zp (y5w s1.s_ [32] r2 h3) ⟨.inl Z,.inl Z,U⟩) (za (zy Z) (za (zk qb Z) (zl (qn tyS9 Z Z Z Z) Z ?_)))))))))
 cases H
 exact ⟨U,U,Z⟩
theorem y5y (s p:Bs) (r:Int) (H:z3q s p=some r):Fn Tryz.prog 83 [vstr s,vstr p] (zu [vint r]):=by
 unfold z3q at H
 obtain ⟨⟨⟨h1,h2⟩,h3,h4⟩,h5⟩:=gif H
 cases h5
 refine uj (by kernel_rfl) fun M w vs hM h => ?_
 have hv:=jw (us:=[.string ⟨s.toArray⟩,.string ⟨p.toArray⟩]) h
 subst hv
 refine (Tryz.strings_IndexAny_laid ⟨s.toArray⟩ ⟨p.toArray⟩ w (by simp [ByteArray.size]; omega) (by simp [ByteArray.size]; omega) (fun j b hb=>z2h h3 j b (by simpa using hb)) (fun j b hb=>z2h h4 j b (by simpa using hb))).mono ?_
 rintro e w' ⟨rfl,hb⟩
 exact ⟨_,Z,Z,Kp.of_below hb⟩

theorem z6x (s1:yb) (some2:Bs) (r:(Bs×yb)) (H:js s1 some2=some r):Imp Tryz.prog 54 60 (jk s1) [vstr some2] (zu [vstr r.1]) (jk r.2):=by
 refine wm (us:=[vstr r.1]) (cs':=(jk r.2)) (by kernel_rfl) Tryz.func54 Z Z Z Z fun X bl hN => ?_
 unfold js at H
 refine zb hN Z (qe Z (zb hN Z (za (ze (.ptr _ _) Z) (za (zy Z) (za (zk qb Z) (zw (zr tyS9 Z Z) Z (qd Z (bE H fun r3 h4 H=>za (zp (y5y s1.s_ some2 r3 h4) ⟨.inl Z,.inl Z,U⟩) (qe Z (ya (ι:=Int) (fun i=>[(0,.ptr 0 0),(5,.dat (vint i))]) (fun i=>[(0,.box (some bl) 60 [.dat (vstr s1.s_)])]) (fun i=>Wv s1 i=some r) (fun i=>Z) ?_ ?_))))))))))
 ·skip
  refine zb hN Z (qd Z (za (yf Z Z) (zi _ Z (fun h5 => ?_) (fun h5 => ?_))))
  ·exact tE h5 H fun H=>zn hN Z (za (ze (.ptr _ _) Z) (za (zy Z) (za (zk qb Z) (zw (zr tyS9 Z Z) Z (za (yr tyU9 Z) (qe Z ⟨(s1.s_.length:Int),H,⟨Z,Z,U⟩,⟨Z,U⟩⟩))))))
  ·exact fE h5 H fun H=>zo ⟨r3,H,⟨Z,Z,U⟩,⟨Z,U⟩⟩
 ·rintro i6 H
  replace H:Wv s1 i6=some r:=H
  unfold Wv at H
  refine zb hN Z (za (ze (.ptr _ _) Z) (za (zy Z) (za (zk qb Z) (zw (zr tyS9 Z Z) Z (qd Z (bE H fun l7 h8 H=>za (qg tyU9 Z Z Z h8) (qe Z (zb hN Z (za (ze (.ptr _ _) Z) (za (ze (.ptr _ _) Z) (za (zy Z) (za (zk qb Z) (zw (zr tyS9 Z Z) Z (qd Z (bE H fun l9 h10 H=>za (qg tyU9 Z Z Z h10) (za (zy Z) (za (zk qb Z) (zl (qn tyS9 Z Z Z Z) Z (zb hN Z (qd Z (qe Z ?_)))))))))))))))))))))
  refine zj ?_
  cases H
  exact ⟨U,⟨.inl Z,U⟩,Z⟩
theorem z4j (n1:Int) (low2:Int) (high3:Int) (r:(Bool)) (H:xh n1 low2 high3=some r):Fn Tryz.prog 36 [vint n1,vint low2,vint high3] (zu [zf r]):=by
 refine ⟨by kernel_rfl,yi (us:=[zf r]) Tryz.func36 Z Z Z Z fun X hN => ?_⟩
 unfold xh at H
 refine zb hN Z (qe Z (zb hN Z (qd Z (qd Z (za (qy Z Z) (qd Z (yx Z Z (fun hc=>ze (.dat _) Z) (yx Z Z (fun hc=>ze (.dat _) Z) (yx Z Z (fun hc=>qy (cnd (c:=(decide (low2≤n1))) hc) (cnd (c:=(decide (low2≤n1))) hc)) (za (wc Z (fun hb=>(cnd (c:=(decide (low2≤n1))) hb)) Z) (qe Z (zj ?_))))))))))))
 cases H
 exact ⟨U,.inl Z,U⟩
theorem z6w (s1:Bs) (some2:Bs) (r:(Bool)) (H:ue s1 some2=some r):Fn Tryz.prog 68 [vstr s1,vstr some2] (zu [zf r]):=by
 refine ⟨by kernel_rfl,yi (us:=[zf r]) Tryz.func68 Z Z Z Z fun X hN => ?_⟩
 unfold ue at H
 refine zb hN Z (qe Z (zh (zb hN Z (qd Z (za (yr tyU9 Z) (qd Z (ye (gE H fun h5 H=>vf (fun (k3:Nat) (s:Unit)=>[(0,.dat (vstr s1)),(1,.dat (vstr some2)),(7,.dat (vint (s1.length:Int))),(8,.dat (vint (k3:Int)))]) (fun (k3:Nat) (s:Unit)=>[]) () H ⟨Z,Z,Z,Z,U⟩ U (fun _ _=>Z) ?_ ?_))))))))
 ·rintro ⟨⟩ H
  replace H:z7a=some r:=H
  unfold z7a at H
  refine zb hN Z (za (yf Z Z) (zh (zi _ Z (fun h=>(lt_t h).elim) (fun h => ?_))))
  refine yv (zb hN Z (qe Z (zj ?_)))
  cases H
  exact ⟨U,.inl Z,U⟩
 ·rintro k3 x6 ⟨⟩ q4 h7 h8 H hq4
  replace H:z4p some2 k3 x6=some q4:=H
  unfold z4p at H
  refine zb hN Z (za (yf Z Z) (zh (zi _ Z (fun h => ?_) (fun h=>(lt_f h7 h).elim))))
  refine zo (zh (ye (zb hN Z (qd Z (qe Z (zb hN Z (qd Z (qd Z (qd Z (za (yw tyU9 Z Z h8) (bE H fun r9 h10 H=>za (zp (z6s some2 (x6.toNat:Int) r9 h10) ⟨.inl Z,.inl Z,U⟩) (za (yf Z Z) (zi _ Z (fun h11 => ?_) (fun h11 => ?_))))))))))))))
  ·refine tE h11 H fun H=>zb hN Z (qe Z (zj ?_))
   replace H:=retl H hq4
   cases H
   exact ⟨U,.inl Z,U⟩
  ·exact fE h11 H fun H=>zo (zn hN Z (za (wj Z Z (by omega)) (qd Z ⟨_,qc H,⟨Z,Z,Z,Z,U⟩,U⟩)))
theorem Wm (s1:Bs) (r:(Bool)) (H:kt s1=some r):Fn Tryz.prog 37 [vstr s1] (zu [zf r]):=by
 refine ⟨by kernel_rfl,yi (us:=[zf r]) Tryz.func37 Z Z Z Z fun X hN => ?_⟩
 unfold kt at H
 refine zb hN Z (qe Z (ya (ι:=Bool) (fun i=>[(2,.dat (zf i))]) (fun i=>[]) (fun i=>Wx i=some r) (fun i=>Z) ?_ ?_))
 ·skip
  refine zn hN Z (qd Z (za (yr tyU9 Z) (bE H fun r2 h3 H=>za (zp (z4j (s1.length:Int) 1 100 r2 h3) ⟨.inl Z,.inl Z,.inl Z,U⟩) (qd Z (yc (j:=3) Z Z (fun h4 => ?_) (fun h4 => ?_) Z)))))
  ·exact u1 h4 H fun h5 H=>zd Z Z h4 (ze (.dat _) Z) (bE H fun r6 h7 H=>zd Z Z h4 (zp (z6w s1 [97,98,99,100,101,102,103,104,105,106,107,108,109,110,111,112,113,114,115,116,117,118,119,120,121,122,65,66,67,68,69,70,71,72,73,74,75,76,77,78,79,80,81,82,83,84,85,86,87,88,89,90,48,49,50,51,52,53,54,55,56,57,33,35,36,37,38,39,42,43,45,46,94,95,96,124,126] r6 h7) ⟨.inl Z,.inl Z,U⟩) (za (zx Z (bTT h5) Z) (qe Z ⟨r6,H,⟨Z,U⟩,U⟩)))
  ·exact u2 h4 H fun h8 H=>zc Z Z h4 (zc Z Z h4 (za (zq Z (bFF h8) Z) (qe Z ⟨false,H,⟨Z,U⟩,U⟩)))
 ·rintro v9 H
  replace H:Wx v9=some r:=H
  unfold Wx at H
  refine zj ?_
  cases H
  exact ⟨U,.inl Z,U⟩
theorem y0k (s1:Bs) (r:(Bool)) (H:Wi s1=some r):Fn Tryz.prog 35 [vstr s1] (zu [zf r]):=by
 refine ⟨by kernel_rfl,yi (us:=[zf r]) Tryz.func35 Z Z Z Z fun X hN => ?_⟩
 unfold Wi at H
 refine zb hN Z (qe Z (zb hN Z (qd Z (bE H fun r2 h3 H=>za (zp (z4f s1 [47] r2 h3) ⟨.inl Z,.inl Z,U⟩) (qd Z (za (yn Z Z) (za (yn Z Z) (za (yn Z Z) (qe Z (qe Z (qe Z (ya (ι:=Bool) (fun i=>[(2,.dat (zf i))]) (fun i=>[]) (fun i=>Yk i=some r) (fun i=>Z) ?_ ?_))))))))))))
 ·skip
  refine zn hN Z (qd Z (bE H fun r4 h5 H=>za (zp (Wm r2.1 r4 h5) ⟨.inl Z,U⟩) (qd Z (yc (j:=2) Z Z (fun h6 => ?_) (fun h6 => ?_) Z))))
  ·refine u1 h6 H fun h7 H=>zd Z Z h6 (ze (.dat _) Z) (zd Z Z h6 (yt Z) (zd Z Z h6 (ze (.dat _) Z) (yc (j:=5) Z Z (fun h8 => ?_) (fun h8 => ?_) Z)))
   ·exact u3 h8 H fun h9 H=>zd Z Z h8 (ze (.dat _) Z) (bE H fun r10 h11 H=>zd Z Z h8 (zp (Wm r2.2.1 r10 h11) ⟨.inl Z,U⟩) (zd Z Z h6 (zq Z (bFF h9) Z) (za (zx Z (bTT h7) Z) (qe Z ⟨r10,H,⟨Z,U⟩,U⟩))))
   ·exact u4 h8 H fun h12 H=>zc Z Z h8 (zc Z Z h8 (zd Z Z h6 (zx Z (bTT h12) Z) (za (zx Z (bTT h7) Z) (qe Z ⟨true,H,⟨Z,U⟩,U⟩))))
  ·exact u2 h6 H fun h13 H=>zc Z Z h6 (zc Z Z h6 (zc Z Z h6 (zv Z Z (zv Z Z (zc Z Z h6 (za (zq Z (bFF h13) Z) (qe Z ⟨false,H,⟨Z,U⟩,U⟩)))))))
 ·rintro v14 H
  replace H:Yk v14=some r:=H
  unfold Yk at H
  refine zj ?_
  cases H
  exact ⟨U,.inl Z,U⟩
theorem z4e (s p:Bs) (r:Bool) (H:Zw s p=some r):Fn Tryz.prog 55 [vstr s,vstr p] (zu [zf r]):=by
 cases H
 refine y01 (by kernel_rfl) fun M w vs h => ?_
 have h1:=jw (us:=[.string ⟨s.toArray⟩,.string ⟨p.toArray⟩]) h
 subst h1
 refine (Tryz.strings_HasPrefix ⟨s.toArray⟩ ⟨p.toArray⟩ w).mono ?_
 rintro e w' ⟨rfl,rfl⟩
 exact ⟨_,Z,Z,Kp.refl _ _⟩
theorem y6t (s1:yb) (r:(Bs×Bool×yb)) (H:z34 s1=some r):Imp Tryz.prog 85 60 (jk s1) [] (zu [vstr r.1,zf r.2.1]) (jk r.2.2):=by
 refine wm (us:=[vstr r.1,zf r.2.1]) (cs':=(jk r.2.2)) (by kernel_rfl) Tryz.func85 Z Z Z Z fun X bl hN => ?_
 unfold z34 at H
 refine zb hN Z (qe Z (qe Z (zb hN Z (qe Z (ya (ι:=Bs) (fun i=>[]) (fun i=>[(0,.box (some bl) 60 [.dat (vstr i)])]) (fun i=>z4q i=some r) (fun i=>Z) ?_ ?_)))))
 ·skip
  refine ye (uk 4 1 5 1 Z Z Z (jv (fun (s:Bs×(List Int))=>[(0,.ptr 0 0),(4,.row 1 s.2.length)]) (fun (s:Bs×(List Int))=>[(0,.box (some bl) 60 [.dat (vstr s.1)]),(1,.row 5 1 (List.map yz s.2))]) (s1.s_,[]) H ⟨Z,Z,U⟩ ⟨Z,Z,U⟩ (fun _=>Z) ?_))
  rintro ⟨c2,l3⟩ q4 H hq4
  replace H:ve c2 l3=some q4:=H
  unfold ve at H
  refine zh (zb hN Z (za (ze (.ptr _ _) Z) (za (zy Z) (za (zk qb Z) (zw (zr tyS9 Z Z) Z (za (kj Z Z) (zi _ Z (fun h5 => ?_) (fun h5 => ?_))))))))
  ·refine tE h5 H fun H=>zo (ye (zb hN Z (za (ze (.ptr _ _) Z) (za (zy Z) (za (zk qb Z) (zw (zr tyS9 Z Z) Z (bE H fun x6 h7 H=>za (yw tyU9 Z Z h7) (qe Z (zb hN Z (za (ze (.ptr _ _) Z) (za (ze (.ptr _ _) Z) (za (zy Z) (za (zk qb Z) (zw (zr tyS9 Z Z) Z (bE H fun l8 h9 H=>za (qg tyU9 Z Z Z h9) (za (zy Z) (za (zk qb Z) (zl (qn tyS9 Z Z Z Z) Z (ya (ι:=Int×Bs) (fun i=>[(0,.ptr 0 0),(4,.row 1 l3.length),(5,.dat (vval (.int .u8 i.1)))]) (fun i=>[(0,.box (some bl) 60 [.dat (vstr i.2)]),(1,.row 5 1 (List.map yz l3))]) (fun i=>Yl l3 i.1 i.2=some q4) (fun i=>Z) ?_ ?_)))))))))))))))))))
   ·skip
    refine ye (zb hN Z (qd Z (za (yk Z Z) (qe Z (zi _ Z (fun h10 => ?_) (fun h10 => ?_))))))
    ·refine tE h10 H fun H=>zh (ur 4 1 Z Z Z (zn hN Z (qd Z (za (z5m (C:=yz) xx tyU5 tyU9 (fun _=>Z) Z) (qe Z (qe Z (zj ?_)))))))
     replace H:=retl H hq4
     cases H
     exact ⟨U,⟨.inl Z,.inl Z,U⟩,Z⟩
    ·refine fE h10 H fun H=>zb hN Z (qd Z (za (yk Z Z) (qe Z (zi _ Z (fun h11 => ?_) (fun h11 => ?_)))))
     ·refine tE h11 H fun H=>zh (ya (ι:=Bool) (fun i=>[(0,.ptr 0 0),(4,.row 1 l3.length),(52,.dat (zf i))]) (fun i=>[(0,.box (some bl) 60 [.dat (vstr l8)]),(1,.row 5 1 (List.map yz l3))]) (fun i=>xn l3 l8 i=some q4) (fun i=>Z) ?_ ?_)
      ·skip
       refine zn hN Z (za (ze (.ptr _ _) Z) (za (zy Z) (za (zk qb Z) (zw (zr tyS9 Z Z) Z (za (qx Z Z) (qd Z (yc (j:=5) Z Z (fun h12 => ?_) (fun h12 => ?_) Z)))))))
       ·refine u3 h12 H fun h13 H=>zd Z Z h12 (ze (.ptr _ _) Z) (zd Z Z h12 (zy Z) (zd Z Z h12 (zk qb Z) (we Z Z h12 (zr tyS9 Z Z) Z (bE H fun x14 h15 H=>zd Z Z h12 (yw tyU9 Z Z h15) (zd Z Z h12 (jn Z Z) (zd Z Z h12 (ze (.dat _) Z) (yc (j:=12) Z Z (fun h16 => ?_) (fun h16 => ?_) Z)))))))
        ·exact u1 h16 H fun h17 H=>zd Z Z h16 (ze (.ptr _ _) Z) (zd Z Z h16 (zy Z) (zd Z Z h16 (zk qb Z) (we Z Z h16 (zr tyS9 Z Z) Z (zd Z Z h16 (yw tyU9 Z Z h15) (zd Z Z h16 (jn Z Z) (zd Z Z h12 (zx Z (bTT h17) Z) (za (zq Z (bFF h13) Z) ⟨decide ((x14.toNat:Int)≠92),H,⟨Z,Z,Z,U⟩,⟨Z,Z,U⟩⟩)))))))
        ·exact u2 h16 H fun h18 H=>zc Z Z h16 (zc Z Z h16 (zc Z Z h16 (zc Z Z h16 (zc Z Z h16 (zc Z Z h16 (zd Z Z h12 (zq Z (bFF h18) Z) (za (zq Z (bFF h13) Z) ⟨false,H,⟨Z,Z,Z,U⟩,⟨Z,Z,U⟩⟩)))))))
       ·exact u4 h12 H fun h19 H=>zc Z Z h12 (zc Z Z h12 (zc Z Z h12 (zc Z Z h12 (zc Z Z h12 (zc Z Z h12 (zc Z Z h12 (zv Z Z (zv Z Z (zv Z Z (zv Z Z (zv Z Z (zv Z Z (zc Z Z h12 (za (zx Z (bTT h19) Z) ⟨true,H,⟨Z,Z,Z,U⟩,⟨Z,Z,U⟩⟩))))))))))))))
      ·rintro v20 H
       replace H:xn l3 l8 v20=some q4:=H
       unfold xn at H
       refine zi _ Z (fun h21 => ?_) (fun h21 => ?_)
       ·refine tE h21 H fun H=>zb hN Z (qe Z (qe Z (zj ?_)))
        replace H:=retl H hq4
        cases H
        exact ⟨U,⟨.inl Z,.inl Z,U⟩,Z⟩
       ·exact fE h21 H fun H=>zo (zb hN Z (za (ze (.ptr _ _) Z) (za (zy Z) (za (zk qb Z) (zw (zr tyS9 Z Z) Z (bE H fun x22 h23 H=>za (yw tyU9 Z Z h23) (qe Z (zn hN Z (za (ze (.ptr _ _) Z) (za (ze (.ptr _ _) Z) (za (zy Z) (za (zk qb Z) (zw (zr tyS9 Z Z) Z (bE H fun l24 h25 H=>za (qg tyU9 Z Z Z h25) (za (zy Z) (za (zk qb Z) (zl (qn tyS9 Z Z Z Z) Z ⟨((x22.toNat:Int),l24),H,⟨Z,Z,Z,U⟩,⟨Z,Z,U⟩⟩)))))))))))))))))
     ·exact fE h11 H fun H=>zo ⟨((x6.toNat:Int),l8),H,⟨Z,Z,Z,U⟩,⟨Z,Z,U⟩⟩
   ·rintro ⟨v26,c27⟩ H
    replace H:Yl l3 v26 c27=some q4:=H
    unfold Yl at H
    refine zn hN Z (za (ze (.row _ _) Z) (qd Z (za (yg (u':=vlst (List.map yz [v26])) (qj [[_]] xz ⟨Z,.inl ⟨_,Z,Z,Z⟩,Z,U⟩ Z Z) Z) (gE H fun h28 H=>zl (jc xz (fun _=>Z) Z Z Z ⟨by simp,by first | (simp; done) | simpa using h28⟩ Z) Z ?_))))
    exact za (wy (.row _ _) Z) ⟨_,qc H,⟨Z,Z,U⟩,⟨Z,Z,U⟩⟩
  ·refine fE h5 H fun H=>yv ?_
   replace H:=outl H hq4
   exact ⟨c2,H,U,⟨Z,U⟩⟩
 ·rintro c29 H
  replace H:z4q c29=some r:=H
  unfold z4q at H
  refine zb hN Z (qe Z (qe Z (zj ?_)))
  cases H
  exact ⟨U,⟨.inl Z,.inl Z,U⟩,Z⟩
theorem y6s (s1:Bs) (r:(Int×Bool)) (H:Ya s1=some r):Fn Tryz.prog 86 [vstr s1] (zu [vint r.1,zf r.2]):=by
 refine ⟨by kernel_rfl,yi (us:=[vint r.1,zf r.2]) Tryz.func86 Z Z Z Z fun X hN => ?_⟩
 unfold Ya at H
 refine zb hN Z (qe Z (qe Z (zb hN Z (qd Z (bE H fun r2 h3 H=>za (zp (z4f s1 [46] r2 h3) ⟨.inl Z,.inl Z,U⟩) (qd Z (za (yn Z Z) (za (yn Z Z) (za (yn Z Z) (qe Z (qe Z (qe Z (zh (ya (ι:=Bool) (fun i=>[(4,.dat (vstr r2.1)),(5,.dat (vstr r2.2.1)),(34,.dat (zf i))]) (fun i=>[]) (fun i=>vu r2 i=some r) (fun i=>Z) ?_ ?_))))))))))))))
 ·skip
  refine zn hN Z (qd Z (za (kj Z Z) (qd Z (yc (j:=2) Z Z (fun h4 => ?_) (fun h4 => ?_) Z))))
  ·refine u1 h4 H fun h5 H=>zd Z Z h4 (ze (.dat _) Z) (zd Z Z h4 (kj Z Z) (za (zx Z (bTT h5) Z) (qd Z (yc (j:=6) Z Z (fun h6 => ?_) (fun h6 => ?_) Z))))
   ·refine u3 h6 H fun h7 H=>zd Z Z h6 (ze (.dat _) Z) (zd Z Z h6 (ze (.dat _) Z) (yc (j:=8) Z Z (fun h8 => ?_) (fun h8 => ?_) Z))
    ·refine u1 h8 H fun h9 H=>zd Z Z h8 (ze (.dat _) Z) (zd Z Z h8 (yr tyU9 Z) (bE H fun r10 h11 H=>zd Z Z h8 (zp (z4j (r2.2.1.length:Int) 1 3 r10 h11) ⟨.inl Z,.inl Z,.inl Z,U⟩) (zd Z Z h8 (yt Z) (zd Z Z h8 (ze (.dat _) Z) (yc (j:=13) Z Z (fun h12 => ?_) (fun h12 => ?_) Z)))))
     ·exact u3 h12 H fun h13 H=>zd Z Z h12 (ze (.dat _) Z) (bE H fun r14 h15 H=>zd Z Z h12 (zp (z6w r2.2.1 [48,49,50,51,52,53,54,55,56,57] r14 h15) ⟨.inl Z,.inl Z,U⟩) (zd Z Z h12 (yt Z) (zd Z Z h8 (zq Z (bFF h13) Z) (zd Z Z h6 (zx Z (bTT h9) Z) (za (zq Z (bFF h7) Z) ⟨!r14,H,⟨Z,Z,Z,U⟩,U⟩)))))
     ·exact u4 h12 H fun h16 H=>zc Z Z h12 (zc Z Z h12 (zc Z Z h12 (zd Z Z h8 (zx Z (bTT h16) Z) (zd Z Z h6 (zx Z (bTT h9) Z) (za (zq Z (bFF h7) Z) ⟨true,H,⟨Z,Z,Z,U⟩,U⟩)))))
    ·exact u2 h8 H fun h17 H=>zc Z Z h8 (zc Z Z h8 (zc Z Z h8 (zc Z Z h8 (zc Z Z h8 (zv Z Z (zv Z Z (zv Z Z (zc Z Z h8 (zd Z Z h6 (zq Z (bFF h17) Z) (za (zq Z (bFF h7) Z) ⟨false,H,⟨Z,Z,Z,U⟩,U⟩))))))))))
   ·exact u4 h6 H fun h18 H=>zc Z Z h6 (zc Z Z h6 (zv Z Z (zv Z Z (zv Z Z (zv Z Z (zv Z Z (zv Z Z (zv Z Z (zv Z Z (zv Z Z (zc Z Z h6 (za (zx Z (bTT h18) Z) ⟨true,H,⟨Z,Z,Z,U⟩,U⟩))))))))))))
  ·refine u2 h4 H fun h19 H=>zc Z Z h4 (zc Z Z h4 (za (zq Z (bFF h19) Z) (qd Z (zd Z Z Z (ze (.dat _) Z) (zd Z Z Z (ze (.dat _) Z) (yc (j:=8) Z Z (fun h20 => ?_) (fun h20 => ?_) Z))))))
   ·refine u1 h20 H fun h21 H=>zd Z Z h20 (ze (.dat _) Z) (zd Z Z h20 (yr tyU9 Z) (bE H fun r22 h23 H=>zd Z Z h20 (zp (z4j (r2.2.1.length:Int) 1 3 r22 h23) ⟨.inl Z,.inl Z,.inl Z,U⟩) (zd Z Z h20 (yt Z) (zd Z Z h20 (ze (.dat _) Z) (yc (j:=13) Z Z (fun h24 => ?_) (fun h24 => ?_) Z)))))
    ·exact u3 h24 H fun h25 H=>zd Z Z h24 (ze (.dat _) Z) (bE H fun r26 h27 H=>zd Z Z h24 (zp (z6w r2.2.1 [48,49,50,51,52,53,54,55,56,57] r26 h27) ⟨.inl Z,.inl Z,U⟩) (zd Z Z h24 (yt Z) (zd Z Z h20 (zq Z (bFF h25) Z) (zd Z Z Z (zx Z (bTT h21) Z) (za (zq Z Z Z) ⟨!r26,H,⟨Z,Z,Z,U⟩,U⟩)))))
    ·exact u4 h24 H fun h28 H=>zc Z Z h24 (zc Z Z h24 (zc Z Z h24 (zd Z Z h20 (zx Z (bTT h28) Z) (zd Z Z Z (zx Z (bTT h21) Z) (za (zq Z Z Z) ⟨true,H,⟨Z,Z,Z,U⟩,U⟩)))))
   ·exact u2 h20 H fun h29 H=>zc Z Z h20 (zc Z Z h20 (zc Z Z h20 (zc Z Z h20 (zc Z Z h20 (zv Z Z (zv Z Z (zv Z Z (zc Z Z h20 (zd Z Z Z (zq Z (bFF h29) Z) (za (zq Z Z Z) ⟨false,H,⟨Z,Z,Z,U⟩,U⟩))))))))))
 ·rintro v30 H
  replace H:vu r2 v30=some r:=H
  unfold vu at H
  refine zi _ Z (fun h31 => ?_) (fun h31 => ?_)
  ·refine tE h31 H fun H=>zb hN Z (qe Z (qe Z (zj ?_)))
   cases H
   exact ⟨U,.inl Z,.inl Z,U⟩
  ·refine fE h31 H fun H=>zo (zb hN Z (qd Z (qd Z (gE H fun h32 H=>za (qm Z Z (Nat.le_trans h32 (by decide))) (bE H fun l33 h34 H=>za (qg tyU9 Z Z Z h34) (gE H fun h35 H=>za (qm Z Z (Nat.le_trans h35 (by decide))) (bE H fun r36 h37 H=>za (zp (z6t (r2.1++l33) r36 h37) ⟨.inl Z,U⟩) (qd Z (za (yn Z Z) (za (yn Z Z) (qe Z (qe Z (zb hN Z (qd Z (qd Z (za (z8u (n:=r36.2) (show Tryz.prog.underlying 91=some (.interface (Tryz.prog.methodsAt 91)) from by kernel_rfl) Z) ?_))))))))))))))))
   refine qd Z (yx Z Z (fun hc=>ze (.dat _) Z) (yx Z Z (fun hc=>qy (cnd (c:=(decide (r36.2=0))) hc) Z) (za (wc Z (fun hb=>(cnd (c:=(decide (r36.2=0))) hb)) Z) (qe Z (qe Z (zj ?_))))))
   cases H
   exact ⟨U,.inl Z,.inl Z,U⟩
end Go.Proofs.YtpjjkhcojjcdpaaGreatDoor
