/- Walks along the models. Printed by a program. -/
import Derived.Test.YtbndlmnjeofkdacGreatDoorZtw5
namespace Go.Proofs.YtbndlmnjeofkdacGreatDoor
open Go.RowKit
set_option linter.unusedVariables false
set_option maxRecDepth 100000
set_option maxHeartbeats 2000000
theorem w8t (l1:(List va)) (r:(Int)) (H:z8k l1=some r):Fn Tryz.prog 73 [vlst (List.map xb l1)] (zr [vint r]):=by
 refine ⟨by kernel_rfl,zx (us:=[vint r]) Tryz.func73 Z Z Z Z fun X hN => ?_⟩
 unfold z8k at H
 refine zb hN Z (qe Z (zd (zb hN Z (qd Z (za (yk y6p Z) (za (qh Z Z) (zf _ Z (fun h2 => ?_) (fun h2 => ?_))))))))
 ·refine tE h2 H fun H=>zb hN Z (qe Z (zg ?_))
  cases H
  exact ⟨U,.inl Z,U⟩
 ·refine fE h2 H fun H=>zl (zd (zb hN Z (qd Z (za (yk y6p Z) (qd Z (zu (gE H fun h5 H=>qq (fun (k3:Nat) (s:Unit)=>[(0,.dat (vlst (List.map xb l1))),(8,.dat (vlst (List.map xb l1))),(9,.dat (vint (l1.length:Int))),(10,.dat (vint (k3:Int)))]) (fun (k3:Nat) (s:Unit)=>[]) () H ⟨Z,Z,Z,Z,U⟩ U (fun _ _=>Z) ?_ ?_)))))))
  ·rintro ⟨⟩ H
   replace H:y2c=some r:=H
   unfold y2c at H
   refine zb hN Z (za (zw Z Z) (zd (zf _ Z (fun h=>(lt_t h).elim) (fun h => ?_))))
   refine yp (zb hN Z (qe Z (zg ?_)))
   cases H
   exact ⟨U,.inl Z,U⟩
  ·rintro k3 x6 ⟨⟩ q4 h7 h8 H hq4
   replace H:z64 l1 k3 x6=some q4:=H
   unfold z64 at H
   refine zb hN Z (za (zw Z Z) (zd (zf _ Z (fun h => ?_) (fun h=>(lt_f h7 h).elim))))
   refine zl (zd (zu (zb hN Z (qd Z (za (qp y7f (fun _=>Z) Z Z h8) (za (vg y6t Z (ym h8) Z) (zj (qm 1 w06 Z) Z (qe Z (zj (yo y6t Z Z Z Z) Z (zu (zb hN Z (za (zn z6t Z) (zm (zp tyS9 Z Z) Z (bE H fun r9 h10 H=>za (zo (ku x6.Id r9 h10) ⟨.inl Z,U⟩) (za (yv Z) (qe Z (zf _ Z (fun h11 => ?_) (fun h11 => ?_))))))))))))))))))
   ·refine tE h11 H fun H=>zb hN Z (qe Z (zg ?_))
    replace H:=retl H hq4
    cases H
    exact ⟨U,.inl Z,U⟩
   ·refine fE h11 H fun H=>yc (ι:=Bool) (fun i=>[(0,.dat (vlst (List.map xb l1))),(4,.ptr 1 0),(8,.dat (vlst (List.map xb l1))),(9,.dat (vint (l1.length:Int))),(10,.dat (vint (k3:Int))),(20,.dat (zi i))]) (fun i=>[(1,.box none 203 [.dat (vstr x6.Id),.dat (vint x6.At),.dat (vint x6.Until)])]) (fun i=>z3c x6 i=some q4) (fun i=>Z) ?_ ?_
    ·skip
     refine wg mixed hN Z Z (qd Z (za (qh Z Z) (qd Z (yi (j:=2) Z Z (fun h12 => ?_) (fun h12 => ?_) Z))))
     ·refine u1 h12 H fun h13 H=>ze Z Z h12 (zn z6t Z) (qz Z Z h12 (zp tyS9 Z Z) Z (ze Z Z h12 (zh (.dat _) Z) (ze Z Z h12 (zh (.dat _) Z) (ze Z Z h12 (Wd Z Z (by omega)) (bE H fun x14 h15 H=>ze Z Z h12 (wx y7f (fun _=>Z) Z Z h15) (ze Z Z h12 (vr z6t Z) (ze Z Z h12 (yr tyS9 Z (ym (qk h15).2) Z) (ze Z Z h12 (Zz Z Z) (za (yb Z (bTT h13) Z) (qe Z ⟨Z,?_⟩))))))))))
      exact ⟨(Op.bytesLess x6.Id x14.Id || x6.Id == x14.Id),H,⟨Z,Z,Z,Z,Z,Z,U⟩,⟨Z,U⟩⟩
     ·refine u2 h12 H fun h16 H=>zc Z Z h12 (zc Z Z h12 (zc Z Z h12 (zc Z Z h12 (zc Z Z h12 (zc Z Z h12 (zc Z Z h12 (zc Z Z h12 (zc Z Z h12 (za (ya Z (bFF h16) Z) (qe Z ⟨Z,?_⟩))))))))))
      exact ⟨false,H,⟨Z,Z,Z,Z,Z,Z,U⟩,⟨Z,U⟩⟩
    ·rintro v17 H
     replace H:z3c x6 v17=some q4:=H
     unfold z3c at H
     refine zf _ Z (fun h18 => ?_) (fun h18 => ?_)
     ·refine tE h18 H fun H=>zb hN Z (qe Z (zg ?_))
      replace H:=retl H hq4
      cases H
      exact ⟨U,.inl Z,U⟩
     ·refine fE h18 H fun H=>zb hN Z (za (zn x4v Z) (zm (zp tyS3 Z Z) Z (za (zn x4u Z) (zm (zp tyS3 Z Z) Z (bE H fun r19 h20 H=>za (zo (ue x6.At 0 x6.Until r19 h20) ⟨.inl Z,.inl Z,.inl Z,U⟩) (qd Z (yu Z Z (fun hc=>zn x4u Z) (uk Z Z (fun hc=>zp tyS3 (cnd (c:=(!r19)) hc) Z) Z jf (yu Z Z (fun hc=>qh (cnd (c:=(!r19)) hc) Z) (za (vk Z Z (fun hb=>(cnd (c:=(!r19)) (notI hb)))) (qe Z (zf _ Z (fun h21 => ?_) (fun h21 => ?_)))))))))))))
      ·refine tE h21 H fun H=>zb hN Z (qe Z (zg ?_))
       replace H:=retl H hq4
       cases H
       exact ⟨U,.inl Z,U⟩
      ·exact fE h21 H fun H=>zl (zk hN Z (za (qi Z Z (by omega)) (qd Z ⟨_,yw H,⟨Z,Z,Z,Z,U⟩,U⟩)))
theorem w80 (s p:Bs) (r:Bs) (H:y3t s p=some r):Fn Tryz.prog 143 [vstr s,vstr p] (zr [vstr r]):=by
 unfold y3t at H
 obtain ⟨⟨⟨h1,h2⟩,h3⟩,h4⟩:=gif H
 cases h4
 refine Yp (by kernel_rfl) fun M w vs hM h => ?_
 have hv:=ug (us:=[.string ⟨s.toArray⟩,.string ⟨p.toArray⟩]) h
 subst hv
 refine (Any.strings_Trim_laid Tryz.lays160 (by kernel_rfl) ⟨s.toArray⟩ ⟨p.toArray⟩ w (by simp [ByteArray.size]; omega) (by simp [ByteArray.size]; omega) (fun j b hb=>z6c h3 j b (by simpa using hb))).mono ?_
 rintro e w' ⟨rfl,hb⟩
 exact ⟨_,Z,Z,Kp.of_below hb⟩

theorem w79 (s1:Bs) (r:(Bool)) (H:z79 s1=some r):Fn Tryz.prog 190 [vstr s1] (zr [zi r]):=by
 refine ⟨by kernel_rfl,zx (us:=[zi r]) Tryz.func190 Z Z Z Z fun X hN => ?_⟩
 unfold z79 at H
 refine zb hN Z (qe Z (yc (ι:=Bool) (fun i=>[(2,.dat (zi i))]) (fun i=>[]) (fun i=>z28 i=some r) (fun i=>Z) ?_ ?_))
 ·skip
  refine zk hN Z (qd Z (za (wl tyU9 Z) (za (yn Z Z) (qd Z (yi (j:=3) Z Z (fun h2 => ?_) (fun h2 => ?_) Z)))))
  ·exact u1 h2 H fun h3 H=>ze Z Z h2 (zh (.dat _) Z) (bE H fun r4 h5 H=>ze Z Z h2 (zo (w80 s1 [48,49,50,51,52,53,54,55,56,57,97,98,99,100,101,102] r4 h5) ⟨.inl Z,.inl Z,U⟩) (ze Z Z h2 (vz Z Z) (za (yb Z (bTT h3) Z) (qe Z ⟨decide (r4=[]),H,⟨Z,U⟩,U⟩))))
  ·exact u2 h2 H fun h6 H=>zc Z Z h2 (zc Z Z h2 (zc Z Z h2 (za (ya Z (bFF h6) Z) (qe Z ⟨false,H,⟨Z,U⟩,U⟩))))
 ·rintro v7 H
  replace H:z28 v7=some r:=H
  unfold z28 at H
  refine zg ?_
  cases H
  exact ⟨U,.inl Z,U⟩
theorem w8b (v1:(List vi)) (v2:Int) (r:(Int)) (H:z8b v1 v2=some r):Fn Tryz.prog 135 [vlst (List.map Zv v1),vint v2] (zr [vint r]):=by
 refine ⟨by kernel_rfl,zx (us:=[vint r]) Tryz.func135 Z Z Z Z fun X hN => ?_⟩
 unfold z8b at H
 refine zb hN Z (qe Z (zb hN Z (qd Z (qd Z (bE H fun x3 h4 H=>za (wx z6w (fun _=>Z) Z Z h4) (za (vg y1i Z (ym (qk h4).2) Z) (zj (qm 1 y6n Z) Z (zj (yo y1i Z Z Z Z) Z (zd (zb hN Z (za (zn z0p Z) (zm (zp tyS9 Z Z) Z (bE H fun r5 h6 H=>za (zo (ku x3.App r5 h6) ⟨.inl Z,U⟩) (za (yv Z) (zf _ Z (fun h7 => ?_) (fun h7 => ?_))))))))))))))))
 ·refine tE h7 H fun H=>zb hN Z (qe Z (zg ?_))
  cases H
  exact ⟨U,.inl Z,U⟩
 ·refine fE h7 H fun H=>zl (zd (zb hN Z (za (zn y1q Z) (zm (zp tyS9 Z Z) Z (bE H fun r8 h9 H=>za (zo (w79 x3.Sum r8 h9) ⟨.inl Z,U⟩) (za (yv Z) (zf _ Z (fun h10 => ?_) (fun h10 => ?_))))))))
  ·refine tE h10 H fun H=>zb hN Z (qe Z (zg ?_))
   cases H
   exact ⟨U,.inl Z,U⟩
  ·refine fE h10 H fun H=>zl (zd (yc (ι:=Bool) (fun i=>[(5,.ptr 1 0),(53,.dat (zi i))]) (fun i=>[(1,.box none 43 [.dat (vstr x3.App),.dat (vstr x3.Sum),.dat (vlst (List.map zt x3.Scopes)),.dat (vint x3.From),.dat (vint x3.To)])]) (fun i=>Yw x3 i=some r) (fun i=>Z) ?_ ?_))
   ·skip
    refine wg mixed hN Z Z (qd Z (za (qh Z Z) (qd Z (yi (j:=2) Z Z (fun h11 => ?_) (fun h11 => ?_) Z))))
    ·refine u1 h11 H fun h12 H=>ze Z Z h11 (zn z0p Z) (qz Z Z h11 (zp tyS9 Z Z) Z (ze Z Z h11 (zh (.dat _) Z) (ze Z Z h11 (zh (.dat _) Z) (ze Z Z h11 (yl _ Z Z (.inr (.inl ⟨Z,Z⟩))) (bE H fun x13 h14 H=>ze Z Z h11 (wx z6w (fun _=>Z) Z Z h14) (ze Z Z h11 (vr z0p Z) (ze Z Z h11 (yr tyS9 Z (ym (qk h14).2) Z) (ze Z Z h11 (x5m Z Z) (ze Z Z h11 (zh (.dat _) Z) (yi (j:=12) Z Z (fun h15 => ?_) (fun h15 => ?_) Z))))))))))
     ·refine u3 h15 H fun h16 H=>ze Z Z h15 (zn z0p Z) (qz Z Z h15 (zp tyS9 Z Z) Z (ze Z Z h15 (zh (.dat _) Z) (ze Z Z h15 (zh (.dat _) Z) (ze Z Z h15 (yl _ Z Z (.inr (.inl ⟨Z,Z⟩))) (ze Z Z h15 (wx z6w (fun _=>Z) Z Z h14) (ze Z Z h15 (vr z0p Z) (ze Z Z h15 (yr tyS9 Z (ym (qk h14).2) Z) (ze Z Z h15 (vz Z Z) (ze Z Z h15 (zh (.dat _) Z) (yi (j:=22) Z Z (fun h17 => ?_) (fun h17 => ?_) Z))))))))))
      ·refine u1 h17 H fun h18 H=>ze Z Z h17 (zn y1q Z) (qz Z Z h17 (zp tyS9 Z Z) Z (ze Z Z h17 (zh (.dat _) Z) (ze Z Z h17 (zh (.dat _) Z) (ze Z Z h17 (yl _ Z Z (.inr (.inl ⟨Z,Z⟩))) (ze Z Z h17 (wx z6w (fun _=>Z) Z Z h14) (ze Z Z h17 (vr y1q Z) (ze Z Z h17 (yr tyS9 Z (ym (qk h14).2) Z) (ze Z Z h17 (Zz Z Z) (ze Z Z h15 (yb Z (bTT h18) Z) (ze Z Z h11 (ya Z (bFF h16) Z) (za (yb Z (bTT h12) Z) ⟨Z,?_⟩)))))))))))
       exact ⟨(Op.bytesLess x3.Sum x13.Sum || x3.Sum == x13.Sum),H,⟨Z,Z,U⟩,⟨Z,U⟩⟩
      ·refine u2 h17 H fun h19 H=>zc Z Z h17 (zc Z Z h17 (zc Z Z h17 (zc Z Z h17 (zc Z Z h17 (zc Z Z h17 (zc Z Z h17 (zc Z Z h17 (zc Z Z h17 (ze Z Z h15 (ya Z (bFF h19) Z) (ze Z Z h11 (ya Z (bFF h16) Z) (za (yb Z (bTT h12) Z) ⟨Z,?_⟩)))))))))))
       exact ⟨false,H,⟨Z,Z,U⟩,⟨Z,U⟩⟩
     ·refine u4 h15 H fun h20 H=>zc Z Z h15 (zc Z Z h15 (zc Z Z h15 (zc Z Z h15 (zc Z Z h15 (zc Z Z h15 (zc Z Z h15 (zc Z Z h15 (zc Z Z h15 (zc Z Z h15 (yx Z Z (yx Z Z (yx Z Z (yx Z Z (yx Z Z (yx Z Z (yx Z Z (yx Z Z (yx Z Z (zc Z Z h15 (ze Z Z h11 (yb Z (bTT h20) Z) (za (yb Z (bTT h12) Z) ⟨Z,?_⟩)))))))))))))))))))))
      exact ⟨true,H,⟨Z,Z,U⟩,⟨Z,U⟩⟩
    ·refine u2 h11 H fun h21 H=>zc Z Z h11 (zc Z Z h11 (zc Z Z h11 (zc Z Z h11 (zc Z Z h11 (zc Z Z h11 (zc Z Z h11 (zc Z Z h11 (zc Z Z h11 (zc Z Z h11 (yx Z Z (yx Z Z (yx Z Z (yx Z Z (yx Z Z (yx Z Z (yx Z Z (yx Z Z (yx Z Z (yx Z Z (yx Z Z (yx Z Z (yx Z Z ?_))))))))))))))))))))))
     refine yx Z Z (yx Z Z (yx Z Z (yx Z Z (yx Z Z (yx Z Z (yx Z Z (zc Z Z h11 (za (ya Z (bFF h21) Z) ⟨Z,?_⟩))))))))
     exact ⟨false,H,⟨Z,Z,U⟩,⟨Z,U⟩⟩
   ·rintro v22 H
    replace H:Yw x3 v22=some r:=H
    unfold Yw at H
    refine zf _ Z (fun h23 => ?_) (fun h23 => ?_)
    ·refine tE h23 H fun H=>zb hN Z (qe Z (zg ?_))
     cases H
     exact ⟨U,.inl Z,U⟩
    ·refine fE h23 H fun H=>zl (zd (zb hN Z (za (zn x4q Z) (zm (zp vc Z Z) Z (bE H fun r24 h25 H=>za (zo (z93 x3.Scopes r24 h25) ⟨.inl Z,U⟩) (qe Z (zb hN Z (qd Z (za (qj Z Z) (zf _ Z (fun h26 => ?_) (fun h26 => ?_)))))))))))
     ·refine tE h26 H fun H=>zb hN Z (qd Z (qe Z (zg ?_)))
      cases H
      exact ⟨U,.inl Z,U⟩
     ·refine fE h26 H fun H=>zl (zd (zb hN Z (za (zn x4p Z) (zm (zp tyS3 Z Z) Z (za (zn y65 Z) (zm (zp tyS3 Z Z) Z (bE H fun r27 h28 H=>za (zo (ue x3.From 0 x3.To r27 h28) ⟨.inl Z,.inl Z,.inl Z,U⟩) (qd Z (yu Z Z (fun hc=>zn y65 Z) (uk Z Z (fun hc=>zp tyS3 (cnd (c:=(!r27)) hc) Z) Z jf (yu Z Z (fun hc=>qh (cnd (c:=(!r27)) hc) Z) (za (vk Z Z (fun hb=>(cnd (c:=(!r27)) (notI hb)))) (zf _ Z (fun h29 => ?_) (fun h29 => ?_))))))))))))))
      ·refine tE h29 H fun H=>zb hN Z (qe Z (zg ?_))
       cases H
       exact ⟨U,.inl Z,U⟩
      ·refine fE h29 H fun H=>zl (zb hN Z (qe Z (zg ?_)))
       cases H
       exact ⟨U,.inl Z,U⟩
theorem w8v (l1:(List vi)) (r:(Int)) (H:z8l l1=some r):Fn Tryz.prog 74 [vlst (List.map Zv l1)] (zr [vint r]):=by
 refine ⟨by kernel_rfl,zx (us:=[vint r]) Tryz.func74 Z Z Z Z fun X hN => ?_⟩
 unfold z8l at H
 refine zb hN Z (qe Z (zd (zb hN Z (qd Z (za (yk y6r Z) (za (qh Z Z) (zf _ Z (fun h2 => ?_) (fun h2 => ?_))))))))
 ·refine tE h2 H fun H=>zb hN Z (qe Z (zg ?_))
  cases H
  exact ⟨U,.inl Z,U⟩
 ·refine fE h2 H fun H=>zl (zd (zb hN Z (qd Z (za (yk y6r Z) (qd Z (zu (gE H fun h5 H=>qq (fun (k3:Nat) (s:Unit)=>[(0,.dat (vlst (List.map Zv l1))),(9,.dat (vint (l1.length:Int))),(10,.dat (vint (k3:Int)))]) (fun (k3:Nat) (s:Unit)=>[]) () H ⟨Z,Z,Z,U⟩ U (fun _ _=>Z) ?_ ?_)))))))
  ·rintro ⟨⟩ H
   replace H:y7u=some r:=H
   unfold y7u at H
   refine zb hN Z (za (zw Z Z) (zd (zf _ Z (fun h=>(lt_t h).elim) (fun h => ?_))))
   refine yp (zb hN Z (qe Z (zg ?_)))
   cases H
   exact ⟨U,.inl Z,U⟩
  ·rintro k3 x6 ⟨⟩ q4 h7 h8 H hq4
   replace H:y2d l1 k3 x6=some q4:=H
   unfold y2d at H
   refine zb hN Z (za (zw Z Z) (zd (zf _ Z (fun h => ?_) (fun h=>(lt_f h7 h).elim))))
   refine zl (zd (zu (zb hN Z (qd Z (qe Z (zb hN Z (qd Z (qd Z (bE H fun r9 h10 H=>za (zo (w8b l1 (k3:Int) r9 h10) ⟨.inl Z,.inl Z,U⟩) (qe Z (zb hN Z (qd Z (za (qj Z Z) (zf _ Z (fun h11 => ?_) (fun h11 => ?_)))))))))))))))
   ·refine tE h11 H fun H=>zb hN Z (qd Z (qe Z (zg ?_)))
    replace H:=retl H hq4
    cases H
    exact ⟨U,.inl Z,U⟩
   ·exact fE h11 H fun H=>zl (zk hN Z (za (qi Z Z (by omega)) (qd Z ⟨_,yw H,⟨Z,Z,Z,U⟩,U⟩)))
theorem w8u (k1:jm) (r:(Int)) (H:z4f k1=some r):Fn Tryz.prog 30 [vagg (z6h k1)] (zr [vint r]):=by
 refine ⟨by kernel_rfl,zx (us:=[vint r]) Tryz.func30 Z Z Z Z fun X hN => ?_⟩
 unfold z4f at H
 refine zb hN Z (zj (qu 1 Z) Z (qe Z (zd (yc (ι:=Bool) (fun i=>[(1,.ptr 1 0),(15,.dat (zi i))]) (fun i=>[(1,.box none 48 [.dat (vstr k1.Issuer),.dat (vstr k1.Audience),.dat (vlst (List.map um k1.Signers)),.dat (vlst (List.map xb k1.Revoked)),.dat (vlst (List.map Zv k1.Holders)),.dat (vint k1.Skew)])]) (fun i=>z0w k1 i=some r) (fun i=>Z) ?_ ?_))))
 ·skip
  refine zk hN Z (za (zn y64 Z) (zm (zp tyS9 Z Z) Z (bE H fun r2 h3 H=>za (zo (ku k1.Issuer r2 h3) ⟨.inl Z,U⟩) (za (yv Z) (qd Z (yi (j:=4) Z Z (fun h4 => ?_) (fun h4 => ?_) Z))))))
  ·exact u3 h4 H fun h5 H=>ze Z Z h4 (zn x4o Z) (qz Z Z h4 (zp tyS9 Z Z) Z (bE H fun r6 h7 H=>ze Z Z h4 (zo (ku k1.Audience r6 h7) ⟨.inl Z,U⟩) (ze Z Z h4 (yv Z) (za (ya Z (bFF h5) Z) ⟨!r6,H,⟨Z,Z,U⟩,⟨Z,U⟩⟩))))
  ·exact u4 h4 H fun h8 H=>zc Z Z h4 (zc Z Z h4 (zc Z Z h4 (zc Z Z h4 (za (yb Z (bTT h8) Z) ⟨true,H,⟨Z,Z,U⟩,⟨Z,U⟩⟩))))
 ·rintro v9 H
  replace H:z0w k1 v9=some r:=H
  unfold z0w at H
  refine zf _ Z (fun h10 => ?_) (fun h10 => ?_)
  ·refine tE h10 H fun H=>zb hN Z (qe Z (zg ?_))
   cases H
   exact ⟨U,.inl Z,U⟩
  ·refine fE h10 H fun H=>zl (zd (zb hN Z (za (zn x4n Z) (zm (zp x3v Z Z) Z (bE H fun r11 h12 H=>za (zo (x70 k1.Signers r11 h12) ⟨.inl Z,U⟩) (qe Z (zb hN Z (qd Z (za (qj Z Z) (zf _ Z (fun h13 => ?_) (fun h13 => ?_)))))))))))
   ·refine tE h13 H fun H=>zb hN Z (qd Z (qe Z (zg ?_)))
    cases H
    exact ⟨U,.inl Z,U⟩
   ·refine fE h13 H fun H=>zl (zd (zb hN Z (za (zn x4m Z) (zm (zp x3u Z Z) Z (bE H fun r14 h15 H=>za (zo (w8t k1.Revoked r14 h15) ⟨.inl Z,U⟩) (qe Z (zb hN Z (qd Z (za (qj Z Z) (zf _ Z (fun h16 => ?_) (fun h16 => ?_)))))))))))
    ·refine tE h16 H fun H=>zb hN Z (qd Z (qe Z (zg ?_)))
     cases H
     exact ⟨U,.inl Z,U⟩
    ·refine fE h16 H fun H=>zl (zd (zb hN Z (za (zn x4l Z) (zm (zp x3w Z Z) Z (bE H fun r17 h18 H=>za (zo (w8v k1.Holders r17 h18) ⟨.inl Z,U⟩) (qe Z (zb hN Z (qd Z (za (qj Z Z) (zf _ Z (fun h19 => ?_) (fun h19 => ?_)))))))))))
     ·refine tE h19 H fun H=>zb hN Z (qd Z (qe Z (zg ?_)))
      cases H
      exact ⟨U,.inl Z,U⟩
     ·refine fE h19 H fun H=>zl (zd (zb hN Z (za (zn y63 Z) (zm (zp tyS3 Z Z) Z (bE H fun r20 h21 H=>za (zo (ue k1.Skew 0 600000 r20 h21) ⟨.inl Z,.inl Z,.inl Z,U⟩) (zf _ Z (fun h22 => ?_) (fun h22 => ?_)))))))
      ·refine tE h22 H fun H=>zb hN Z (qe Z (zg ?_))
       cases H
       exact ⟨U,.inl Z,U⟩
      ·refine fE h22 H fun H=>zl (zb hN Z (qe Z (zg ?_)))
       cases H
       exact ⟨U,.inl Z,U⟩
theorem x01 (c1:Int) (r:(Bool)) (H:z84 c1=some r):Fn Tryz.prog 191 [vval (.int .u8 c1)] (zr [zi r]):=by
 refine ⟨by kernel_rfl,zx (us:=[zi r]) Tryz.func191 Z Z Z Z fun X hN => ?_⟩
 unfold z84 at H
 refine zb hN Z (qe Z (zb hN Z (qd Z (za (vt Z Z) (qd Z (yz Z Z (fun hc=>zh (.dat _) Z) (yz Z Z (fun hc=>vq (cnd (c:=(decide (97≤c1))) hc) Z) (za (wy Z (fun hb=>(cnd (c:=(decide (97≤c1))) hb)) Z) (qd Z (yu Z Z (fun hc=>zh (.dat _) Z) (yu Z Z (fun hc=>vt (cnd (c:=(!((decide (97≤c1)) && (decide (c1≤122))))) hc) Z) (yu Z Z (fun hc=>zh (.dat _) (cnd (c:=(!((decide (97≤c1)) && (decide (c1≤122))))) hc)) (wz Z Z (fun hc=>zh (.dat _) Z) (wz Z Z (fun hc=>vq (cnd (c:=((!((decide (97≤c1)) && (decide (c1≤122)))) && (decide (65≤c1)))) hc) Z) (yu Z Z (fun hc=>wy (cnd (c:=(!((decide (97≤c1)) && (decide (c1≤122))))) hc) (fun hb=>(cnd (c:=((!((decide (97≤c1)) && (decide (c1≤122)))) && (decide (65≤c1)))) (andI hc hb))) Z) (za (vk Z Z (fun hb=>(cnd (c:=(!((decide (97≤c1)) && (decide (c1≤122))))) (notI hb)))) (qe Z (zg ?_))))))))))))))))))
 cases H
 exact ⟨U,.inl Z,U⟩
theorem y4u (c1:Int) (r:(Bool)) (H:z4u c1=some r):Fn Tryz.prog 192 [vval (.int .u8 c1)] (zr [zi r]):=by
 refine ⟨by kernel_rfl,zx (us:=[zi r]) Tryz.func192 Z Z Z Z fun X hN => ?_⟩
 unfold z4u at H
 refine zb hN Z (qe Z (zb hN Z (qd Z (za (vt Z Z) (qd Z (yz Z Z (fun hc=>zh (.dat _) Z) (yz Z Z (fun hc=>vq (cnd (c:=(decide (48≤c1))) hc) Z) (za (wy Z (fun hb=>(cnd (c:=(decide (48≤c1))) hb)) Z) (qe Z (zg ?_))))))))))
 cases H
 exact ⟨U,.inl Z,U⟩
theorem w97 (c1:Int) (r:(Bool)) (H:z82 c1=some r):Fn Tryz.prog 136 [vval (.int .u8 c1)] (zr [zi r]):=by
 refine ⟨by kernel_rfl,zx (us:=[zi r]) Tryz.func136 Z Z Z Z fun X hN => ?_⟩
 unfold z82 at H
 refine zb hN Z (qe Z (yc (ι:=Bool) (fun i=>[(2,.dat (zi i))]) (fun i=>[]) (fun i=>z3x i=some r) (fun i=>Z) ?_ ?_))
 ·skip
  refine zk hN Z (qd Z (bE H fun r2 h3 H=>za (zo (x01 c1 r2 h3) ⟨.inl Z,U⟩) (qd Z (yi (j:=2) Z Z (fun h4 => ?_) (fun h4 => ?_) Z))))
  ·refine u3 h4 H fun h5 H=>ze Z Z h4 (zh (.dat _) Z) (bE H fun r6 h7 H=>ze Z Z h4 (zo (y4u c1 r6 h7) ⟨.inl Z,U⟩) (za (ya Z (bFF h5) Z) (qd Z (yi (j:=6) Z Z (fun h8 => ?_) (fun h8 => ?_) Z))))
   ·exact u3 h8 H fun h9 H=>ze Z Z h8 (zh (.dat _) Z) (bE H fun r10 h11 H=>ze Z Z h8 (zo (y4t [33,35,36,37,38,39,42,43,45,46,94,95,96,124,126] c1 r10 h11) ⟨.inl Z,.inl Z,U⟩) (ze Z Z h8 (vt Z Z) (za (ya Z (bFF h9) Z) (qe Z ⟨decide (0≤r10),H,⟨Z,U⟩,U⟩))))
   ·exact u4 h8 H fun h12 H=>zc Z Z h8 (zc Z Z h8 (zc Z Z h8 (za (yb Z (bTT h12) Z) (qe Z ⟨true,H,⟨Z,U⟩,U⟩))))
  ·exact u4 h4 H fun h13 H=>zc Z Z h4 (zc Z Z h4 (za (yb Z (bTT h13) Z) (qd Z (zc Z Z Z (zc Z Z Z (zc Z Z Z (za (yb Z Z Z) (qe Z ⟨true,H,⟨Z,U⟩,U⟩))))))))
 ·rintro v14 H
  replace H:z3x v14=some r:=H
  unfold z3x at H
  refine zg ?_
  cases H
  exact ⟨U,.inl Z,U⟩
theorem y4w (s1:Bs) (r:(Bool)) (H:Wt s1=some r):Fn Tryz.prog 76 [vstr s1] (zr [zi r]):=by
 refine ⟨by kernel_rfl,zx (us:=[zi r]) Tryz.func76 Z Z Z Z fun X hN => ?_⟩
 unfold Wt at H
 refine zb hN Z (qe Z (zd (zb hN Z (qd Z (za (wl tyU9 Z) (qd Z (zu (gE H fun h4 H=>qq (fun (k2:Nat) (s:Unit)=>[(0,.dat (vstr s1)),(5,.dat (vint (s1.length:Int))),(6,.dat (vint (k2:Int)))]) (fun (k2:Nat) (s:Unit)=>[]) () H ⟨Z,Z,Z,U⟩ U (fun _ _=>Z) ?_ ?_))))))))
 ·rintro ⟨⟩ H
  replace H:y9j s1=some r:=H
  unfold y9j at H
  refine zb hN Z (za (zw Z Z) (zd (zf _ Z (fun h=>(lt_t h).elim) (fun h => ?_))))
  refine yp (zb hN Z (qd Z (za (js Z Z) (qd Z (yz Z Z (fun hc=>zh (.dat _) Z) (yz Z Z (fun hc=>wl tyU9 (cnd (c:=(decide (s1≠[]))) hc)) (yz Z Z (fun hc=>vq (cnd (c:=(decide (s1≠[]))) hc) Z) (za (wy Z (fun hb=>(cnd (c:=(decide (s1≠[]))) hb)) Z) (qe Z (zg ?_))))))))))
  cases H
  exact ⟨U,.inl Z,U⟩
 ·rintro k2 x5 ⟨⟩ q3 h6 h7 H hq3
  replace H:y3n k2 x5=some q3:=H
  unfold y3n at H
  refine zb hN Z (za (zw Z Z) (zd (zf _ Z (fun h => ?_) (fun h=>(lt_f h6 h).elim))))
  refine zl (zd (zu (zb hN Z (qd Z (qe Z (zb hN Z (qd Z (qd Z (za (vh tyU9 Z Z h7) (bE H fun r8 h9 H=>za (zo (w97 (x5.toNat:Int) r8 h9) ⟨.inl Z,U⟩) (za (yv Z) (zf _ Z (fun h10 => ?_) (fun h10 => ?_)))))))))))))
  ·refine tE h10 H fun H=>zb hN Z (qe Z (zg ?_))
   replace H:=retl H hq3
   cases H
   exact ⟨U,.inl Z,U⟩
  ·exact fE h10 H fun H=>zl (zk hN Z (za (qi Z Z (by omega)) (qd Z ⟨_,yw H,⟨Z,Z,Z,U⟩,U⟩)))
theorem x0u (s p:Bs) (r:Bs×Bs×Bool) (H:z1o s p=some r):Fn Tryz.prog 137 [vstr s,vstr p] (zr [vstr r.1,vstr r.2.1,zi r.2.2]):=by
 unfold z1o at H
 obtain ⟨h1,h2⟩:=gif H
 cases h2
 refine Yp (by kernel_rfl) fun M w vs hM h => ?_
 have hv:=ug (us:=[.string ⟨s.toArray⟩,.string ⟨p.toArray⟩]) h
 subst hv
 obtain ⟨m,hm⟩:=y9k hM
 refine (Tryz.strings_Cut ⟨s.toArray⟩ ⟨p.toArray⟩ m w (by simp [ByteArray.size]; omega) hm).mono ?_
 rintro e w' ⟨rfl,n,rfl⟩
 refine ⟨_,Z,⟨[_,_,_],Z,Z,fun j u hj => ?_⟩,⟨Z,Z,Z,Nat.le_refl _,fun _ _ _=>Z⟩⟩
 rcases j with _ | _ | _ | j
 ·cases hj; exact ⟨_,Z,Z⟩
 ·cases hj; exact ⟨_,Z,Z⟩
 ·cases hj; exact ⟨_,Z,Z⟩
 ·simp at hj

theorem w81 (s p:Bs) (r:Bs) (H:y3u s p=some r):Fn Tryz.prog 237 [vstr s,vstr p] (zr [vstr r]):=by
 unfold y3u at H
 cases H
 refine Yp (by kernel_rfl) fun M w vs hM h => ?_
 have hv:=ug (us:=[.string ⟨s.toArray⟩,.string ⟨p.toArray⟩]) h
 subst hv
 refine (Tryz.strings_TrimPrefix ⟨s.toArray⟩ ⟨p.toArray⟩ w).mono ?_
 rintro e w' ⟨rfl,rfl⟩
 exact ⟨_,Z,Z,Kp.refl _ _⟩

theorem uw (c1:Int) (r:(Int)) (H:uc c1=some r):Fn Tryz.prog 284 [vval (.int .u8 c1)] (zr [vval (.int .u8 r)]):=by
 refine ⟨by kernel_rfl,zx (us:=[vval (.int .u8 r)]) Tryz.func284 Z Z Z Z fun X hN => ?_⟩
 unfold uc at H
 refine zb hN Z (qe Z (zb hN Z (qd Z (za (yg (y72 Z Z) Z) (qe Z (zg ?_))))))
 cases H
 exact ⟨U,.inl Z,U⟩
theorem v0l (v1:Bs) (r:(Bool)) (H:x0c v1=some r):Fn Tryz.prog 285 [vstr v1] (zr [zi r]):=by
 refine ⟨by kernel_rfl,zx (us:=[zi r]) Tryz.func285 Z Z Z Z fun X hN => ?_⟩
 unfold x0c at H
 refine zb hN Z (qe Z (zb hN Z (qe Z (zb hN Z (qe Z (yc (ι:=Bs) (fun i=>[(0,.dat (vstr i)),(3,.dat (vval (.int .i32 94))),(4,.dat (vint 0))]) (fun i=>[]) (fun i=>z99 i=some r) (fun i=>Z) ?_ ?_))))))
 ·skip
  refine yc (ι:=Bool) (fun i=>[(0,.dat (vstr v1)),(3,.dat (vval (.int .i32 94))),(4,.dat (vint 0)),(18,.dat (zi i))]) (fun i=>[]) (fun i=>z5j v1 i=some r) (fun i=>Z) ?_ ?_
  ·skip
   refine zk hN Z (qd Z (za (wl tyU9 Z) (za (vt Z Z) (qd Z (yi (j:=3) Z Z (fun h2 => ?_) (fun h2 => ?_) Z)))))
   ·refine u1 h2 H fun h3 H=>ze Z Z h2 (zh (.dat _) Z) (bE H fun x4 h5 H=>ze Z Z h2 (vh tyU9 Z Z h5) (ze Z Z h2 (yn Z Z) (ze Z Z h2 (zh (.dat _) Z) (yi (j:=7) Z Z (fun h6 => ?_) (fun h6 => ?_) Z))))
    ·exact u3 h6 H fun h7 H=>ze Z Z h6 (zh (.dat _) Z) (ze Z Z h6 (vh tyU9 Z Z h5) (ze Z Z h6 (yn Z Z) (ze Z Z h2 (ya Z (bFF h7) Z) (za (yb Z (bTT h3) Z) ⟨decide ((x4.toNat:Int)=43),H,⟨Z,Z,Z,Z,U⟩,U⟩))))
    ·exact u4 h6 H fun h8 H=>zc Z Z h6 (zc Z Z h6 (zc Z Z h6 (ze Z Z h2 (yb Z (bTT h8) Z) (za (yb Z (bTT h3) Z) ⟨true,H,⟨Z,Z,Z,Z,U⟩,U⟩))))
   ·exact u2 h2 H fun h9 H=>zc Z Z h2 (zc Z Z h2 (zc Z Z h2 (zc Z Z h2 (yx Z Z (yx Z Z (yx Z Z (zc Z Z h2 (za (ya Z (bFF h9) Z) ⟨false,H,⟨Z,Z,Z,Z,U⟩,U⟩))))))))
  ·rintro v10 H
   replace H:z5j v1 v10=some r:=H
   unfold z5j at H
   refine zf _ Z (fun h11 => ?_) (fun h11 => ?_)
   ·exact tE h11 H fun H=>zk hN Z (qd Z (bE H fun l12 h13 H=>za (kh tyU9 Z Z Z h13) (qe Z ⟨l12,H,⟨Z,Z,Z,U⟩,U⟩)))
   ·exact fE h11 H fun H=>zl ⟨v1,H,⟨Z,Z,Z,U⟩,U⟩
 ·rintro v14 H
  replace H:z99 v14=some r:=H
  unfold z99 at H
  refine zb hN Z (qe Z (yc (ι:=Int×Int×Bool) (fun i=>[(0,.dat (vstr v14)),(3,.dat (vval (.int .i32 i.1))),(4,.dat (vint i.2.1)),(5,.dat (zi i.2.2))]) (fun i=>[]) (fun i=>z98 v14 i.1 i.2.1 i.2.2=some r) (fun i=>Z) ?_ ?_))
  ·skip
   refine yc (ι:=Bool) (fun i=>[(0,.dat (vstr v14)),(3,.dat (vval (.int .i32 94))),(4,.dat (vint 0)),(5,.dat (zi false)),(46,.dat (zi i))]) (fun i=>[]) (fun i=>Wy v14 i=some r) (fun i=>Z) ?_ ?_
   ·skip
    refine zk hN Z (qd Z (za (wl tyU9 Z) (za (vt Z Z) (qd Z (yi (j:=3) Z Z (fun h15 => ?_) (fun h15 => ?_) Z)))))
    ·refine u1 h15 H fun h16 H=>ze Z Z h15 (zh (.dat _) Z) (bE H fun x17 h18 H=>ze Z Z h15 (vh tyU9 Z Z h18) (ze Z Z h15 (yn Z Z) (za (yb Z (bTT h16) Z) (qd Z (yi (j:=8) Z Z (fun h19 => ?_) (fun h19 => ?_) Z)))))
     ·refine u1 h19 H fun h20 H=>ze Z Z h19 (zh (.dat _) Z) (bE H fun x21 h22 H=>ze Z Z h19 (vh tyU9 Z Z h22) (bE H fun r23 h24 H=>ze Z Z h19 (zo (uw (x21.toNat:Int) r23 h24) ⟨.inl Z,U⟩) (ze Z Z h19 (yn Z Z) (ze Z Z h19 (zh (.dat _) Z) (yi (j:=13) Z Z (fun h25 => ?_) (fun h25 => ?_) Z)))))
      ·refine u3 h25 H fun h26 H=>ze Z Z h25 (zh (.dat _) Z) (ze Z Z h25 (vh tyU9 Z Z h22) (bE H fun r27 h28 H=>ze Z Z h25 (zo (uw (x21.toNat:Int) r27 h28) ⟨.inl Z,U⟩) (ze Z Z h25 (yn Z Z) (ze Z Z h19 (ya Z (bFF h26) Z) (ze Z Z h19 (zh (.dat _) Z) (yi (j:=19) Z Z (fun h29 => ?_) (fun h29 => ?_) Z))))))
       ·exact u3 h29 H fun h30 H=>ze Z Z h29 (zh (.dat _) Z) (ze Z Z h29 (vh tyU9 Z Z h22) (bE H fun r31 h32 H=>ze Z Z h29 (zo (uw (x21.toNat:Int) r31 h32) ⟨.inl Z,U⟩) (ze Z Z h29 (yn Z Z) (ze Z Z h19 (ya Z (bFF h30) Z) (za (yb Z (bTT h20) Z) ⟨decide (r31=120),H,⟨Z,Z,Z,Z,Z,U⟩,U⟩)))))
       ·exact u4 h29 H fun h33 H=>zc Z Z h29 (zc Z Z h29 (zc Z Z h29 (zc Z Z h29 (ze Z Z h19 (yb Z (bTT h33) Z) (za (yb Z (bTT h20) Z) ⟨true,H,⟨Z,Z,Z,Z,Z,U⟩,U⟩)))))
      ·exact u4 h25 H fun h34 H=>zc Z Z h25 (zc Z Z h25 (zc Z Z h25 (zc Z Z h25 (ze Z Z h19 (yb Z (bTT h34) Z) (ze Z Z h19 (zh (.dat _) Z) (zc Z Z Z (zc Z Z Z (zc Z Z Z (zc Z Z Z (ze Z Z h19 (yb Z Z Z) (za (yb Z (bTT h20) Z) ⟨true,H,⟨Z,Z,Z,Z,Z,U⟩,U⟩)))))))))))
     ·exact u2 h19 H fun h35 H=>zc Z Z h19 (zc Z Z h19 (zc Z Z h19 (zc Z Z h19 (zc Z Z h19 (yx Z Z (yx Z Z (yx Z Z (yx Z Z (zc Z Z h19 (zc Z Z h19 (yx Z Z (yx Z Z (yx Z Z (yx Z Z (zc Z Z h19 (za (ya Z (bFF h35) Z) ⟨false,H,⟨Z,Z,Z,Z,Z,U⟩,U⟩))))))))))))))))
    ·exact u2 h15 H fun h36 H=>zc Z Z h15 (zc Z Z h15 (zc Z Z h15 (za (ya Z (bFF h36) Z) (qd Z (zc Z Z Z (zc Z Z Z (zc Z Z Z (zc Z Z Z (zc Z Z Z (yx Z Z (yx Z Z (yx Z Z (yx Z Z (zc Z Z Z (zc Z Z Z (yx Z Z (yx Z Z (yx Z Z (yx Z Z (zc Z Z Z (za (ya Z Z Z) ⟨false,H,⟨Z,Z,Z,Z,Z,U⟩,U⟩)))))))))))))))))))))
   ·rintro v37 H
    replace H:Wy v14 v37=some r:=H
    unfold Wy at H
    refine zf _ Z (fun h38 => ?_) (fun h38 => ?_)
    ·exact tE h38 H fun H=>zb hN Z (qe Z (zb hN Z (qe Z (zk hN Z (qd Z (bE H fun x39 h40 H=>za (vh tyU9 Z Z h40) (bE H fun r41 h42 H=>za (zo (uw (x39.toNat:Int) r41 h42) ⟨.inl Z,U⟩) (za (yn Z Z) (qe Z ⟨(48,2,decide (r41=120)),H,⟨Z,Z,Z,Z,U⟩,U⟩)))))))))
    ·exact fE h38 H fun H=>zl ⟨(94,0,false),H,⟨Z,Z,Z,Z,U⟩,U⟩
  ·rintro ⟨v43,v44,v45⟩ H
   replace H:z98 v14 v43 v44 v45=some r:=H
   unfold z98 at H
   refine yc (ι:=Int) (fun i=>[(3,.dat (vval (.int .i32 i)))]) (fun i=>[]) (fun i=>y41 i=some r) (fun i=>Z) ?_ ?_
   ·skip
    refine zu (kj (fun (s:Int×Int)=>[(0,.dat (vstr v14)),(3,.dat (vval (.int .i32 s.1))),(4,.dat (vint s.2)),(5,.dat (zi v45))]) (fun (s:Int×Int)=>[]) (v43,v44) H ⟨Z,Z,Z,Z,U⟩ U (fun _=>Z) ?_)
    rintro ⟨v46,v47⟩ q48 H hq48
    replace H:x1b v14 v45 v46 v47=some q48:=H
    unfold x1b at H
    refine zd (zb hN Z (qd Z (qd Z (za (wl tyU9 Z) (za (zw Z Z) (zf _ Z (fun h49 => ?_) (fun h49 => ?_)))))))
    ·refine tE h49 H fun H=>zl (yc (ι:=Int) (fun i=>[(0,.dat (vstr v14)),(3,.dat (vval (.int .i32 i))),(4,.dat (vint v47)),(5,.dat (zi v45))]) (fun i=>[]) (fun i=>z5i v47 i=some q48) (fun i=>Z) ?_ ?_)
     ·skip
      refine zu (zd (yc (ι:=Bool) (fun i=>[(0,.dat (vstr v14)),(3,.dat (vval (.int .i32 v46))),(4,.dat (vint v47)),(5,.dat (zi v45)),(83,.dat (zi i))]) (fun i=>[]) (fun i=>Yk v14 v46 v47 i=some q48) (fun i=>Z) ?_ ?_))
      ·skip
       refine zk hN Z (qd Z (qd Z (bE H fun x50 h51 H=>za (uq tyU9 Z Z h51) (za (vq Z Z) (qd Z (yi (j:=4) Z Z (fun h52 => ?_) (fun h52 => ?_) Z))))))
       ·refine u1 h52 H fun h53 H=>ze Z Z h52 (zh (.dat _) Z) (ze Z Z h52 (zh (.dat _) Z) (ze Z Z h52 (uq tyU9 Z Z h51) (ze Z Z h52 (vq Z Z) (za (yb Z (bTT h53) Z) (qd Z (yi (j:=10) Z Z (fun h54 => ?_) (fun h54 => ?_) Z))))))
        ·refine u3 h54 H fun h55 H=>ze Z Z h54 (zh (.dat _) Z) (ze Z Z h54 (zh (.dat _) Z) (yi (j:=12) Z Z (fun h56 => ?_) (fun h56 => ?_) Z))
         ·refine u1 h56 H fun h57 H=>ze Z Z h56 (zh (.dat _) Z) (ze Z Z h56 (zh (.dat _) Z) (ze Z Z h56 (uq tyU9 Z Z h51) (bE H fun r58 h59 H=>ze Z Z h56 (zo (uw (x50.toNat:Int) r58 h59) ⟨.inl Z,U⟩) (ze Z Z h56 (vq Z Z) (ze Z Z h54 (yb Z (bTT h57) Z) (ze Z Z h54 (zh (.dat _) Z) (yi (j:=19) Z Z (fun h60 => ?_) (fun h60 => ?_) Z)))))))
          ·exact u1 h60 H fun h61 H=>ze Z Z h60 (zh (.dat _) Z) (ze Z Z h60 (zh (.dat _) Z) (ze Z Z h60 (uq tyU9 Z Z h51) (bE H fun r62 h63 H=>ze Z Z h60 (zo (uw (x50.toNat:Int) r62 h63) ⟨.inl Z,U⟩) (ze Z Z h60 (vq Z Z) (ze Z Z h54 (yb Z (bTT h61) Z) (za (ya Z (bFF h55) Z) ⟨decide (r62≤102),H,⟨Z,Z,Z,Z,Z,U⟩,U⟩))))))
          ·exact u2 h60 H fun h64 H=>zc Z Z h60 (zc Z Z h60 (zc Z Z h60 (zc Z Z h60 (zc Z Z h60 (ze Z Z h54 (ya Z (bFF h64) Z) (za (ya Z (bFF h55) Z) ⟨false,H,⟨Z,Z,Z,Z,Z,U⟩,U⟩))))))
         ·exact u2 h56 H fun h65 H=>zc Z Z h56 (zc Z Z h56 (zc Z Z h56 (zc Z Z h56 (zc Z Z h56 (ze Z Z h54 (ya Z (bFF h65) Z) (ze Z Z h54 (zh (.dat _) Z) (zc Z Z Z (zc Z Z Z (zc Z Z Z (zc Z Z Z (zc Z Z Z (ze Z Z h54 (ya Z Z Z) (za (ya Z (bFF h55) Z) ⟨false,H,⟨Z,Z,Z,Z,Z,U⟩,U⟩)))))))))))))
        ·exact u4 h54 H fun h66 H=>zc Z Z h54 (zc Z Z h54 (yx Z Z (yx Z Z (yx Z Z (yx Z Z (yx Z Z (zc Z Z h54 (zc Z Z h54 (yx Z Z (yx Z Z (yx Z Z (yx Z Z (yx Z Z (zc Z Z h54 (za (yb Z (bTT h66) Z) ⟨true,H,⟨Z,Z,Z,Z,Z,U⟩,U⟩)))))))))))))))
       ·refine u2 h52 H fun h67 H=>zc Z Z h52 (zc Z Z h52 (zc Z Z h52 (zc Z Z h52 (za (ya Z (bFF h67) Z) (qd Z (ze Z Z Z (zh (.dat _) Z) (ze Z Z Z (zh (.dat _) Z) (yi (j:=12) Z Z (fun h68 => ?_) (fun h68 => ?_) Z))))))))
        ·refine u1 h68 H fun h69 H=>ze Z Z h68 (zh (.dat _) Z) (ze Z Z h68 (zh (.dat _) Z) (ze Z Z h68 (uq tyU9 Z Z h51) (bE H fun r70 h71 H=>ze Z Z h68 (zo (uw (x50.toNat:Int) r70 h71) ⟨.inl Z,U⟩) (ze Z Z h68 (vq Z Z) (ze Z Z Z (yb Z (bTT h69) Z) (ze Z Z Z (zh (.dat _) Z) (yi (j:=19) Z Z (fun h72 => ?_) (fun h72 => ?_) Z)))))))
         ·exact u1 h72 H fun h73 H=>ze Z Z h72 (zh (.dat _) Z) (ze Z Z h72 (zh (.dat _) Z) (ze Z Z h72 (uq tyU9 Z Z h51) (bE H fun r74 h75 H=>ze Z Z h72 (zo (uw (x50.toNat:Int) r74 h75) ⟨.inl Z,U⟩) (ze Z Z h72 (vq Z Z) (ze Z Z Z (yb Z (bTT h73) Z) (za (ya Z Z Z) ⟨decide (r74≤102),H,⟨Z,Z,Z,Z,Z,U⟩,U⟩))))))
         ·exact u2 h72 H fun h76 H=>zc Z Z h72 (zc Z Z h72 (zc Z Z h72 (zc Z Z h72 (zc Z Z h72 (ze Z Z Z (ya Z (bFF h76) Z) (za (ya Z Z Z) ⟨false,H,⟨Z,Z,Z,Z,Z,U⟩,U⟩))))))
        ·exact u2 h68 H fun h77 H=>zc Z Z h68 (zc Z Z h68 (zc Z Z h68 (zc Z Z h68 (zc Z Z h68 (ze Z Z Z (ya Z (bFF h77) Z) (ze Z Z Z (zh (.dat _) Z) (zc Z Z Z (zc Z Z Z (zc Z Z Z (zc Z Z Z (zc Z Z Z (ze Z Z Z (ya Z Z Z) (za (ya Z Z Z) ⟨false,H,⟨Z,Z,Z,Z,Z,U⟩,U⟩)))))))))))))
      ·rintro v78 H
       replace H:Yk v14 v46 v47 v78=some q48:=H
       unfold Yk at H
       refine zf _ Z (fun h79 => ?_) (fun h79 => ?_)
       ·exact tE h79 H fun H=>zb hN Z (qe Z (yp ⟨48,H,⟨Z,Z,Z,Z,U⟩,U⟩))
       ·refine fE h79 H fun H=>zl (zd (zb hN Z (qd Z (qd Z (bE H fun x80 h81 H=>za (uq tyU9 Z Z h81) (za (yn Z Z) (zf _ Z (fun h82 => ?_) (fun h82 => ?_))))))))
        ·refine tE h82 H fun H=>zd (zb hN Z (qd Z (za (qj Z Z) (zf _ Z (fun h83 => ?_) (fun h83 => ?_)))))
         ·refine tE h83 H fun H=>zb hN Z (qe Z (zg ?_))
          replace H:=retl H hq48
          cases H
          exact ⟨U,.inl Z,U⟩
         ·exact fE h83 H fun H=>zl (zb hN Z (qe Z (yp ⟨95,H,⟨Z,Z,Z,Z,U⟩,U⟩)))
        ·refine fE h82 H fun H=>zl (zd (zb hN Z (qd Z (za (yn Z Z) (zf _ Z (fun h84 => ?_) (fun h84 => ?_))))))
         ·refine tE h84 H fun H=>zb hN Z (qe Z (zg ?_))
          replace H:=retl H hq48
          cases H
          exact ⟨U,.inl Z,U⟩
         ·exact fE h84 H fun H=>zl (zk hN Z (qe Z ⟨33,H,⟨Z,Z,Z,Z,U⟩,U⟩))
     ·rintro v85 H
      replace H:z5i v47 v85=some q48:=H
      unfold z5i at H
      exact zk hN Z (qd Z (za (yl _ Z Z (.inl ⟨Z,Z⟩)) (qe Z ⟨_,yw H,⟨Z,Z,Z,Z,U⟩,U⟩)))
    ·refine fE h49 H fun H=>yp ?_
     replace H:=outl H hq48
     exact ⟨v46,H,⟨Z,U⟩,U⟩
   ·rintro v86 H
    replace H:y41 v86=some r:=H
    unfold y41 at H
    refine zb hN Z (qd Z (za (qj Z Z) (qe Z (zg ?_))))
    cases H
    exact ⟨U,.inl Z,U⟩
theorem x8k (v1:Bs) (v2:Int) (v3:Int) (r:(Int×Int)) (H:y4e v1 v2 v3=some r):Fn Tryz.prog 252 [vstr v1,vint v2,vint v3] (zr [vval (.int .u64 r.1),verr r.2]):=by
 refine ⟨by kernel_rfl,zx (us:=[vval (.int .u64 r.1),verr r.2]) Tryz.func252 Z Z Z Z fun X hN => ?_⟩
 unfold y4e at H
 refine zb hN Z (qe Z (qe Z (zd (zb hN Z (qd Z (za (vz Z Z) (zf _ Z (fun h4 => ?_) (fun h4 => ?_))))))))
 ·refine tE h4 H fun H=>zb hN Z (za (yg (u':=verr 2) (ur (show Tryz.prog.underlying 325=some (.int .i64) from by kernel_rfl) Z) Z) ?_)
  refine qe Z (qe Z (zg ?_))
  cases H
  exact ⟨U,.inl Z,.inl Z,U⟩
 ·refine fE h4 H fun H=>zl (zb hN Z (qd Z (za (yn Z Z) (qe Z (zb hN Z (qd Z (qe Z (yc (ι:=Bs×Int) (fun i=>[(0,.dat (vstr i.1)),(1,.dat (vint i.2)),(2,.dat (vint v3)),(8,.dat (zi (decide (v2=0)))),(9,.dat (vstr v1))]) (fun i=>[]) (fun i=>Qn v1 v2 v3 i.1 i.2=some r) (fun i=>Z) ?_ ?_))))))))
  ·skip
   refine zu (zb hN Z (qd Z (za (vq Z Z) (qd Z (yz Z Z (fun hc=>zh (.dat _) Z) (yz Z Z (fun hc=>vq (cnd (c:=(decide (2≤v2))) hc) Z) (za (wy Z (fun hb=>(cnd (c:=(decide (2≤v2))) hb)) Z) (qe Z (zf _ Z (fun h5 => ?_) (fun h5 => ?_))))))))))
   ·exact tE h5 H fun H=>zl ⟨(v1,v2),H,⟨Z,Z,Z,Z,Z,U⟩,U⟩
   ·refine fE h5 H fun H=>zb hN Z (qd Z (za (yn Z Z) (qe Z (zf _ Z (fun h6 => ?_) (fun h6 => ?_)))))
    ·refine tE h6 H fun H=>zb hN Z (qe Z (zb hN Z (qd Z (bE H fun x7 h8 H=>za (vh tyU9 Z Z h8) (za (yn Z Z) (zf _ Z (fun h9 => ?_) (fun h9 => ?_)))))))
     ·refine tE h9 H fun H=>zu (yc (ι:=Bool) (fun i=>[(0,.dat (vstr v1)),(2,.dat (vint v3)),(8,.dat (zi (decide (v2=0)))),(9,.dat (vstr v1)),(40,.dat (zi i))]) (fun i=>[]) (fun i=>y0g v1 v2 v3 i=some r) (fun i=>Z) ?_ ?_)
      ·skip
       refine zk hN Z (qd Z (za (wl tyU9 Z) (za (vt Z Z) (qd Z (yi (j:=3) Z Z (fun h10 => ?_) (fun h10 => ?_) Z)))))
       ·exact u1 h10 H fun h11 H=>ze Z Z h10 (zh (.dat _) Z) (bE H fun x12 h13 H=>ze Z Z h10 (vh tyU9 Z Z h13) (bE H fun r14 h15 H=>ze Z Z h10 (zo (uw (x12.toNat:Int) r14 h15) ⟨.inl Z,U⟩) (ze Z Z h10 (yn Z Z) (za (yb Z (bTT h11) Z) (qe Z ⟨decide (r14=98),H,⟨Z,Z,Z,Z,Z,U⟩,U⟩)))))
       ·exact u2 h10 H fun h16 H=>zc Z Z h10 (zc Z Z h10 (zc Z Z h10 (zc Z Z h10 (za (ya Z (bFF h16) Z) (qe Z ⟨false,H,⟨Z,Z,Z,Z,Z,U⟩,U⟩)))))
      ·rintro v17 H
       replace H:y0g v1 v2 v3 v17=some r:=H
       unfold y0g at H
       refine zf _ Z (fun h18 => ?_) (fun h18 => ?_)
       ·exact tE h18 H fun H=>zb hN Z (qe Z (zk hN Z (qd Z (bE H fun l19 h20 H=>za (kh tyU9 Z Z Z h20) (qe Z ⟨(l19,2),H,⟨Z,Z,Z,Z,Z,U⟩,U⟩)))))
       ·refine fE h18 H fun H=>yc (ι:=Bool) (fun i=>[(0,.dat (vstr v1)),(2,.dat (vint v3)),(8,.dat (zi (decide (v2=0)))),(9,.dat (vstr v1)),(52,.dat (zi i))]) (fun i=>[]) (fun i=>y0f v1 v2 v3 i=some r) (fun i=>Z) ?_ ?_
        ·skip
         refine zk hN Z (qd Z (za (wl tyU9 Z) (za (vt Z Z) (qd Z (yi (j:=3) Z Z (fun h21 => ?_) (fun h21 => ?_) Z)))))
         ·exact u1 h21 H fun h22 H=>ze Z Z h21 (zh (.dat _) Z) (bE H fun x23 h24 H=>ze Z Z h21 (vh tyU9 Z Z h24) (bE H fun r25 h26 H=>ze Z Z h21 (zo (uw (x23.toNat:Int) r25 h26) ⟨.inl Z,U⟩) (ze Z Z h21 (yn Z Z) (za (yb Z (bTT h22) Z) (qe Z ⟨decide (r25=111),H,⟨Z,Z,Z,Z,Z,U⟩,U⟩)))))
         ·exact u2 h21 H fun h27 H=>zc Z Z h21 (zc Z Z h21 (zc Z Z h21 (zc Z Z h21 (za (ya Z (bFF h27) Z) (qe Z ⟨false,H,⟨Z,Z,Z,Z,Z,U⟩,U⟩)))))
        ·rintro v28 H
         replace H:y0f v1 v2 v3 v28=some r:=H
         unfold y0f at H
         refine zf _ Z (fun h29 => ?_) (fun h29 => ?_)
         ·exact tE h29 H fun H=>zb hN Z (qe Z (zk hN Z (qd Z (bE H fun l30 h31 H=>za (kh tyU9 Z Z Z h31) (qe Z ⟨(l30,8),H,⟨Z,Z,Z,Z,Z,U⟩,U⟩)))))
         ·refine fE h29 H fun H=>yc (ι:=Bool) (fun i=>[(0,.dat (vstr v1)),(2,.dat (vint v3)),(8,.dat (zi (decide (v2=0)))),(9,.dat (vstr v1)),(64,.dat (zi i))]) (fun i=>[]) (fun i=>y0e v1 v2 v3 i=some r) (fun i=>Z) ?_ ?_
          ·skip
           refine zk hN Z (qd Z (za (wl tyU9 Z) (za (vt Z Z) (qd Z (yi (j:=3) Z Z (fun h32 => ?_) (fun h32 => ?_) Z)))))
           ·exact u1 h32 H fun h33 H=>ze Z Z h32 (zh (.dat _) Z) (bE H fun x34 h35 H=>ze Z Z h32 (vh tyU9 Z Z h35) (bE H fun r36 h37 H=>ze Z Z h32 (zo (uw (x34.toNat:Int) r36 h37) ⟨.inl Z,U⟩) (ze Z Z h32 (yn Z Z) (za (yb Z (bTT h33) Z) (qe Z ⟨decide (r36=120),H,⟨Z,Z,Z,Z,Z,U⟩,U⟩)))))
           ·exact u2 h32 H fun h38 H=>zc Z Z h32 (zc Z Z h32 (zc Z Z h32 (zc Z Z h32 (za (ya Z (bFF h38) Z) (qe Z ⟨false,H,⟨Z,Z,Z,Z,Z,U⟩,U⟩)))))
          ·rintro v39 H
           replace H:y0e v1 v2 v3 v39=some r:=H
           unfold y0e at H
           refine zf _ Z (fun h40 => ?_) (fun h40 => ?_)
           ·exact tE h40 H fun H=>zb hN Z (qe Z (zk hN Z (qd Z (bE H fun l41 h42 H=>za (kh tyU9 Z Z Z h42) (qe Z ⟨(l41,16),H,⟨Z,Z,Z,Z,Z,U⟩,U⟩)))))
           ·exact fE h40 H fun H=>zb hN Z (qe Z (zk hN Z (qd Z (bE H fun l43 h44 H=>za (kh tyU9 Z Z Z h44) (qe Z ⟨(l43,8),H,⟨Z,Z,Z,Z,Z,U⟩,U⟩)))))
     ·exact fE h9 H fun H=>zl ⟨(v1,10),H,⟨Z,Z,Z,Z,Z,U⟩,U⟩
    ·refine fE h6 H fun H=>zb hN Z (za (yg (u':=verr 3) (ur (show Tryz.prog.underlying 325=some (.int .i64) from by kernel_rfl) Z) Z) ?_)
     refine qe Z (qe Z (zg ?_))
     cases H
     exact ⟨U,.inl Z,.inl Z,U⟩
  ·rintro ⟨v45,v46⟩ H
   replace H:Qn v1 v2 v3 v45 v46=some r:=H
   unfold Qn at H
   refine yc (ι:=Int) (fun i=>[(0,.dat (vstr v45)),(1,.dat (vint v46)),(2,.dat (vint i)),(8,.dat (zi (decide (v2=0)))),(9,.dat (vstr v1))]) (fun i=>[]) (fun i=>y0d v1 v2 v45 v46 i=some r) (fun i=>Z) ?_ ?_
   ·skip
    refine zb hN Z (qd Z (za (yn Z Z) (zf _ Z (fun h47 => ?_) (fun h47 => ?_))))
    ·exact tE h47 H fun H=>zk hN Z (qe Z ⟨64,H,⟨Z,Z,Z,Z,Z,U⟩,U⟩)
    ·refine fE h47 H fun H=>zb hN Z (qd Z (za (zw Z Z) (qd Z (yu Z Z (fun hc=>zh (.dat _) Z) (yu Z Z (fun hc=>qh (cnd (c:=(!(decide (v3 < 0)))) hc) Z) (za (vk Z Z (fun hb=>(cnd (c:=(!(decide (v3 < 0)))) (notI hb)))) (zf _ Z (fun h48 => ?_) (fun h48 => ?_))))))))
     ·refine tE h48 H fun H=>zb hN Z (za (yg (u':=verr 4) (ur (show Tryz.prog.underlying 325=some (.int .i64) from by kernel_rfl) Z) Z) ?_)
      refine qe Z (qe Z (zg ?_))
      cases H
      exact ⟨U,.inl Z,.inl Z,U⟩
     ·exact fE h48 H fun H=>zl ⟨v3,H,⟨Z,Z,Z,Z,Z,U⟩,U⟩
   ·rintro v49 H
    replace H:y0d v1 v2 v45 v46 v49=some r:=H
    unfold y0d at H
    refine zb hN Z (qe Z (yc (ι:=Int) (fun i=>[(0,.dat (vstr v45)),(1,.dat (vint v46)),(2,.dat (vint v49)),(8,.dat (zi (decide (v2=0)))),(9,.dat (vstr v1)),(10,.dat (vval (.int .u64 i)))]) (fun i=>[]) (fun i=>z5l v1 v2 v45 v46 v49 i=some r) (fun i=>Z) ?_ ?_))
    ·skip
     refine zb hN Z (qd Z (zu (zb hN Z (za (yn Z Z) (qe Z (zf _ Z (fun h50 => ?_) (fun h50 => ?_)))))))
     ·exact tE h50 H fun H=>zk hN Z (qe Z ⟨1844674407370955162,H,⟨Z,Z,Z,Z,Z,Z,U⟩,U⟩)
     ·refine fE h50 H fun H=>zb hN Z (za (yn Z Z) (qe Z (zf _ Z (fun h51 => ?_) (fun h51 => ?_))))
      ·exact tE h51 H fun H=>zk hN Z (qe Z ⟨1152921504606846976,H,⟨Z,Z,Z,Z,Z,Z,U⟩,U⟩)
      ·exact fE h51 H fun H=>zk hN Z (qd Z (za (jh tyU3 Zg Z) (gE H fun h52 H=>za (x5n Z Z h52) (za (yl _ Z Z (.inl ⟨Z,Z⟩)) (qe Z ⟨IntKind.wrap .u64 ((IntKind.wrap .u64 (Int.tdiv 18446744073709551615 (IntKind.wrap .u64 v46)))+1),H,⟨Z,Z,Z,Z,Z,Z,U⟩,U⟩)))))
    ·rintro v53 H
     replace H:z5l v1 v2 v45 v46 v49 v53=some r:=H
     unfold z5l at H
     refine zb hN Z (qd Z (za (jh tyU3 Zf Z) (gE H fun h54 H=>za (yg (y2g Z Z h54) Z) (za (yl _ Z Z (.inr (.inl ⟨Z,Z⟩))) (qe Z (zb hN Z (qe Z (zb hN Z (qe Z (zd (zb hN Z (qd Z (za (x5w (C:=wc) tyU9 Yt tyU5 (fun _=>Z) Z) (za (yk Yt Z) (qd Z (zu (gE H fun h59 H=>qq (fun (k57:Nat) (s:Bool×Int)=>[(1,.dat (vint v46)),(8,.dat (zi (decide (v2=0)))),(9,.dat (vstr v1)),(10,.dat (vval (.int .u64 v53))),(11,.dat (vval (.int .u64 (IntKind.wrap .u64 ((shl_ .u64 1 (IntKind.wrap .u64 v49)) - 1))))),(12,.dat (zi s.1)),(13,.dat (vval (.int .u64 s.2))),(99,.dat (vlst (List.map wc (jd v45)))),(100,.dat (vint ((jd v45).length:Int))),(101,.dat (vint (k57:Int)))]) (fun (k57:Nat) (s:Bool×Int)=>[]) (false,0) H ⟨Z,Z,Z,Z,Z,Z,Z,Z,Z,Z,U⟩ U (fun _ _=>Z) ?_ ?_)))))))))))))))))
     ·rintro ⟨v55,v56⟩ H
      replace H:x1e v1 v55 v56=some r:=H
      unfold x1e at H
      refine zb hN Z (za (zw Z Z) (zd (zf _ Z (fun h=>(lt_t h).elim) (fun h => ?_))))
      refine yp (zd (yc (ι:=Bool) (fun i=>[(13,.dat (vval (.int .u64 v56))),(169,.dat (zi i))]) (fun i=>[]) (fun i=>y0c v56 i=some r) (fun i=>Z) ?_ ?_))
      ·skip
       refine zk hN Z (qd Z (qd Z (yi (j:=1) Z Z (fun h61 => ?_) (fun h61 => ?_) Z)))
       ·exact u1 h61 H fun h62 H=>ze Z Z h61 (zh (.dat _) Z) (bE H fun r63 h64 H=>ze Z Z h61 (zo (v0l v1 r63 h64) ⟨.inl Z,U⟩) (ze Z Z h61 (yv Z) (za (yb Z (bTT h62) Z) ⟨!r63,H,⟨Z,Z,U⟩,U⟩)))
       ·exact u2 h61 H fun h65 H=>zc Z Z h61 (zc Z Z h61 (zc Z Z h61 (za (ya Z (bFF h65) Z) ⟨false,H,⟨Z,Z,U⟩,U⟩)))
      ·rintro v66 H
       replace H:y0c v56 v66=some r:=H
       unfold y0c at H
       refine zf _ Z (fun h67 => ?_) (fun h67 => ?_)
       ·refine tE h67 H fun H=>zb hN Z (za (yg (u':=verr 2) (ur (show Tryz.prog.underlying 325=some (.int .i64) from by kernel_rfl) Z) Z) ?_)
        refine qe Z (qe Z (zg ?_))
        cases H
        exact ⟨U,.inl Z,.inl Z,U⟩
       ·refine fE h67 H fun H=>zl (zb hN Z (qd Z (qe Z (qe Z (zg ?_)))))
        cases H
        exact ⟨U,.inl Z,.inl Z,U⟩
     ·rintro k57 x60 ⟨v55,v56⟩ q58 h68 h69 H hq58
      replace H:x1d v2 v46 v49 v53 k57 x60 v55 v56=some q58:=H
      unfold x1d at H
      refine zb hN Z (za (zw Z Z) (zd (zf _ Z (fun h => ?_) (fun h=>(lt_f h68 h).elim))))
      refine zl (yc (ι:=Bool×Int) (fun i=>[(1,.dat (vint v46)),(8,.dat (zi (decide (v2=0)))),(9,.dat (vstr v1)),(10,.dat (vval (.int .u64 v53))),(11,.dat (vval (.int .u64 (IntKind.wrap .u64 ((shl_ .u64 1 (IntKind.wrap .u64 v49)) - 1))))),(12,.dat (zi i.1)),(13,.dat (vval (.int .u64 i.2))),(99,.dat (vlst (List.map wc (jd v45)))),(100,.dat (vint ((jd v45).length:Int))),(101,.dat (vint (k57:Int)))]) (fun i=>[]) (fun i=>y0b i.1 i.2=some q58) (fun i=>Z) ?_ ?_)
      ·skip
       refine zu (zb hN Z (za (qp x4y (fun _=>Z) Z Z h69) (za (yr tyS5 Z (ym h69) Z) (qe Z (zb hN Z (qe Z (yc (ι:=Int) (fun i=>[(1,.dat (vint v46)),(8,.dat (zi (decide (v2=0)))),(9,.dat (vstr v1)),(10,.dat (vval (.int .u64 v53))),(11,.dat (vval (.int .u64 (IntKind.wrap .u64 ((shl_ .u64 1 (IntKind.wrap .u64 v49)) - 1))))),(12,.dat (zi v55)),(13,.dat (vval (.int .u64 v56))),(16,.dat (vval (.int .u8 i))),(99,.dat (vlst (List.map wc (jd v45)))),(100,.dat (vint ((jd v45).length:Int))),(101,.dat (vint (k57:Int)))]) (fun i=>[]) (fun i=>y0i v46 v49 v53 v55 v56 i=some q58) (fun i=>Z) ?_ ?_)))))))
       ·skip
        refine zu (zb hN Z (qd Z (za (yn Z Z) (qd Z (yz Z Z (fun hc=>zh (.dat _) Z) (za (wy Z (fun hb=>(cnd (c:=(decide (x60=95))) hb)) Z) (qe Z (zf _ Z (fun h70 => ?_) (fun h70 => ?_)))))))))
        ·exact tE h70 H fun H=>zb hN Z (qe Z (yp ⟨(true,v56),H,⟨Z,Z,Z,Z,Z,Z,Z,Z,Z,Z,U⟩,U⟩))
        ·refine fE h70 H fun H=>zb hN Z (qd Z (za (vq Z Z) (qd Z (yz Z Z (fun hc=>zh (.dat _) Z) (yz Z Z (fun hc=>vq (cnd (c:=(decide (48≤x60))) hc) Z) (za (wy Z (fun hb=>(cnd (c:=(decide (48≤x60))) hb)) Z) (qe Z (zf _ Z (fun h71 => ?_) (fun h71 => ?_)))))))))
         ·exact tE h71 H fun H=>zk hN Z (qd Z (za (yl _ Z Z (.inr (.inl ⟨Z,Z⟩))) (qe Z ⟨IntKind.wrap .u8 (x60 - 48),H,⟨Z,Z,Z,Z,Z,Z,Z,Z,Z,Z,Z,U⟩,U⟩)))
         ·refine fE h71 H fun H=>yc (ι:=Bool) (fun i=>[(1,.dat (vint v46)),(8,.dat (zi (decide (v2=0)))),(9,.dat (vstr v1)),(10,.dat (vval (.int .u64 v53))),(11,.dat (vval (.int .u64 (IntKind.wrap .u64 ((shl_ .u64 1 (IntKind.wrap .u64 v49)) - 1))))),(12,.dat (zi v55)),(13,.dat (vval (.int .u64 v56))),(15,.dat (vval (.int .u8 x60))),(99,.dat (vlst (List.map wc (jd v45)))),(100,.dat (vint ((jd v45).length:Int))),(101,.dat (vint (k57:Int))),(121,.dat (zi i))]) (fun i=>[]) (fun i=>y0h v46 v49 v53 v55 v56 x60 i=some q58) (fun i=>Z) ?_ ?_
          ·skip
           refine zk hN Z (qd Z (bE H fun r72 h73 H=>za (zo (uw x60 r72 h73) ⟨.inl Z,U⟩) (za (vq Z Z) (qd Z (yi (j:=3) Z Z (fun h74 => ?_) (fun h74 => ?_) Z)))))
           ·exact u1 h74 H fun h75 H=>ze Z Z h74 (zh (.dat _) Z) (bE H fun r76 h77 H=>ze Z Z h74 (zo (uw x60 r76 h77) ⟨.inl Z,U⟩) (ze Z Z h74 (vq Z Z) (za (yb Z (bTT h75) Z) (qe Z ⟨decide (r76≤122),H,⟨Z,Z,Z,Z,Z,Z,Z,Z,Z,Z,Z,Z,U⟩,U⟩))))
           ·exact u2 h74 H fun h78 H=>zc Z Z h74 (zc Z Z h74 (zc Z Z h74 (za (ya Z (bFF h78) Z) (qe Z ⟨false,H,⟨Z,Z,Z,Z,Z,Z,Z,Z,Z,Z,Z,Z,U⟩,U⟩))))
          ·rintro v79 H
           replace H:y0h v46 v49 v53 v55 v56 x60 v79=some q58:=H
           unfold y0h at H
           refine zf _ Z (fun h80 => ?_) (fun h80 => ?_)
           ·exact tE h80 H fun H=>zk hN Z (qd Z (bE H fun r81 h82 H=>za (zo (uw x60 r81 h82) ⟨.inl Z,U⟩) (za (yl _ Z Z (.inr (.inl ⟨Z,Z⟩))) (za (yl _ Z Z (.inl ⟨Z,Z⟩)) (qe Z ⟨IntKind.wrap .u8 ((IntKind.wrap .u8 (r81 - 97))+10),H,⟨Z,Z,Z,Z,Z,Z,Z,Z,Z,Z,Z,U⟩,U⟩)))))
           ·refine fE h80 H fun H=>zb hN Z (za (yg (u':=verr 2) (ur (show Tryz.prog.underlying 325=some (.int .i64) from by kernel_rfl) Z) Z) ?_)
            refine qe Z (qe Z (zg ?_))
            replace H:=retl H hq58
            cases H
            exact ⟨U,.inl Z,.inl Z,U⟩
       ·rintro v83 H
        replace H:y0i v46 v49 v53 v55 v56 v83=some q58:=H
        unfold y0i at H
        refine zd (zb hN Z (qd Z (qd Z (za (jh tyU3 tyU5 Z) (za (vt Z Z) (zf _ Z (fun h84 => ?_) (fun h84 => ?_)))))))
        ·refine tE h84 H fun H=>zb hN Z (za (yg (u':=verr 2) (ur (show Tryz.prog.underlying 325=some (.int .i64) from by kernel_rfl) Z) Z) ?_)
         refine qe Z (qe Z (zg ?_))
         replace H:=retl H hq58
         cases H
         exact ⟨U,.inl Z,.inl Z,U⟩
        ·refine fE h84 H fun H=>zl (zd (zb hN Z (qd Z (qd Z (za (vt Z Z) (zf _ Z (fun h85 => ?_) (fun h85 => ?_)))))))
         ·refine tE h85 H fun H=>zb hN Z (qd Z (za (yg (u':=verr 1) (ur (show Tryz.prog.underlying 325=some (.int .i64) from by kernel_rfl) Z) Z) ?_))
          refine qe Z (qe Z (zg ?_))
          replace H:=retl H hq58
          cases H
          exact ⟨U,.inl Z,.inl Z,U⟩
         ·refine fE h85 H fun H=>zl (zb hN Z (qd Z (qd Z (za (jh tyU3 Zg Z) (za (yl _ Z Z (.inr (.inr ⟨Z,Z⟩))) (qe Z (zb hN Z (qd Z (qd Z (za (jh tyU5 Zg Z) (za (yl _ Z Z (.inl ⟨Z,Z⟩)) (qe Z (zd (zb hN Z (qd Z (qd Z (za (zw Z Z) (qd Z (yu Z Z (fun hc=>zh (.dat _) Z) (yu Z Z (fun hc=>zh (.dat _) Z) (yu Z Z (fun hc=>qh (cnd (c:=(!(decide ((IntKind.wrap .u64 ((IntKind.wrap .u64 (v56 * (IntKind.wrap .u64 v46)))+(IntKind.wrap .u64 v83))) < (IntKind.wrap .u64 (v56 * (IntKind.wrap .u64 v46))))))) hc) (cnd (c:=(!(decide ((IntKind.wrap .u64 ((IntKind.wrap .u64 (v56 * (IntKind.wrap .u64 v46)))+(IntKind.wrap .u64 v83))) < (IntKind.wrap .u64 (v56 * (IntKind.wrap .u64 v46))))))) hc)) (za (vk Z Z (fun hb=>(cnd (c:=(!(decide ((IntKind.wrap .u64 ((IntKind.wrap .u64 (v56 * (IntKind.wrap .u64 v46)))+(IntKind.wrap .u64 v83))) < (IntKind.wrap .u64 (v56 * (IntKind.wrap .u64 v46))))))) (notI hb)))) ?_))))))))))))))))))))))
          refine zf _ Z (fun h86 => ?_) (fun h86 => ?_)
          ·refine tE h86 H fun H=>zb hN Z (qd Z (za (yg (u':=verr 1) (ur (show Tryz.prog.underlying 325=some (.int .i64) from by kernel_rfl) Z) Z) ?_))
           refine qe Z (qe Z (zg ?_))
           replace H:=retl H hq58
           cases H
           exact ⟨U,.inl Z,.inl Z,U⟩
          ·exact fE h86 H fun H=>zl (zk hN Z (qd Z (qe Z ⟨(v55,IntKind.wrap .u64 ((IntKind.wrap .u64 (v56 * (IntKind.wrap .u64 v46)))+(IntKind.wrap .u64 v83))),H,⟨Z,Z,Z,Z,Z,Z,Z,Z,Z,Z,U⟩,U⟩)))
      ·rintro ⟨v87,v88⟩ H
       replace H:y0b v87 v88=some q58:=H
       unfold y0b at H
       exact zk hN Z (za (qi Z Z (by omega)) (qd Z ⟨_,yw H,⟨Z,Z,Z,Z,Z,Z,Z,Z,Z,Z,U⟩,U⟩))
end Go.Proofs.YtbndlmnjeofkdacGreatDoor
