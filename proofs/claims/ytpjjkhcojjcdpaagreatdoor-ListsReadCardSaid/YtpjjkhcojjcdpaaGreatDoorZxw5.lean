/- Walks along the models. Printed by a program. -/
import Derived.Test.YtpjjkhcojjcdpaaGreatDoorZxw4
namespace Go.Proofs.YtpjjkhcojjcdpaaGreatDoor
open Go.RowKit
set_option linter.unusedVariables false
set_option maxRecDepth 100000
set_option maxHeartbeats 2000000
theorem y6d (s1:Bs) (v2:Int) (r:(Bool)) (H:z6n s1 v2=some r):Fn Tryz.prog 99 [vstr s1,vint v2] (zu [zf r]):=by
 refine ⟨by kernel_rfl,yi (us:=[zf r]) Tryz.func99 Z Z Z Z fun X hN => ?_⟩
 unfold z6n at H
 refine zb hN Z (qe Z (ya (ι:=Bool) (fun i=>[(4,.dat (zf i))]) (fun i=>[]) (fun i=>Qq i=some r) (fun i=>Z) ?_ ?_))
 ·skip
  refine zn hN Z (qd Z (za (yp _ Z Z (.inl ⟨Z,Z⟩)) (qd Z (za (yr tyU9 Z) (za (yf Z Z) (qd Z (yc (j:=5) Z Z (fun h3 => ?_) (fun h3 => ?_) Z)))))))
  ·refine u1 h3 H fun h4 H=>zd Z Z h3 (ze (.dat _) Z) (zd Z Z h3 (ze (.dat _) Z) (zd Z Z h3 (yp _ Z Z (.inl ⟨Z,Z⟩)) (bE H fun x5 h6 H=>zd Z Z h3 (wi tyU9 Z Z h6) (bE H fun r7 h8 H=>zd Z Z h3 (zp (y0h (x5.toNat:Int) r7 h8) ⟨.inl Z,U⟩) (za (zx Z (bTT h4) Z) (qd Z (yc (j:=12) Z Z (fun h9 => ?_) (fun h9 => ?_) Z)))))))
   ·exact u1 h9 H fun h10 H=>zd Z Z h9 (ze (.dat _) Z) (zd Z Z h9 (ze (.dat _) Z) (zd Z Z h9 (yp _ Z Z (.inl ⟨Z,Z⟩)) (bE H fun x11 h12 H=>zd Z Z h9 (wi tyU9 Z Z h12) (bE H fun r13 h14 H=>zd Z Z h9 (zp (y0h (x11.toNat:Int) r13 h14) ⟨.inl Z,U⟩) (za (zx Z (bTT h10) Z) (qe Z ⟨r13,H,⟨Z,U⟩,U⟩))))))
   ·exact u2 h9 H fun h15 H=>zc Z Z h9 (zc Z Z h9 (zc Z Z h9 (zc Z Z h9 (zc Z Z h9 (za (zq Z (bFF h15) Z) (qe Z ⟨false,H,⟨Z,U⟩,U⟩))))))
  ·exact u2 h3 H fun h16 H=>zc Z Z h3 (zc Z Z h3 (zc Z Z h3 (zc Z Z h3 (zc Z Z h3 (za (zq Z (bFF h16) Z) (qd Z (zc Z Z Z (zc Z Z Z (zc Z Z Z (zc Z Z Z (zc Z Z Z (za (zq Z Z Z) (qe Z ⟨false,H,⟨Z,U⟩,U⟩)))))))))))))
 ·rintro v17 H
  replace H:Qq v17=some r:=H
  unfold Qq at H
  refine zj ?_
  cases H
  exact ⟨U,.inl Z,U⟩
theorem y50 (s1:Bs) (base2:Int) (bitSize3:Int) (r:(Int×Int)) (H:z6j s1 base2 bitSize3=some r):Fn Tryz.prog 126 [vstr s1,vint base2,vint bitSize3] (zu [vval (.int .u64 r.1),verr r.2]):=by
 refine ⟨by kernel_rfl,yi (us:=[vval (.int .u64 r.1),verr r.2]) Tryz.func126 Z Z Z Z fun X hN => ?_⟩
 unfold z6j at H
 refine zb hN Z (qe Z (qe Z (zb hN Z (qd Z (qd Z (qd Z (bE H fun r4 h5 H=>za (zp (y0j s1 base2 bitSize3 r4 h5) ⟨.inl Z,.inl Z,.inl Z,U⟩) (qd Z (za (yn Z Z) (za (yn Z Z) (qe Z (qe Z (zh (zb hN Z (qd Z (za (z0v (n:=r4.2) (show Tryz.prog.underlying 91=some (.interface (Tryz.prog.methodsAt 91)) from by kernel_rfl) Z) ?_))))))))))))))))
 refine zi _ Z (fun h6 => ?_) (fun h6 => ?_)
 ·refine tE h6 H fun H=>zb hN Z (qd Z (qd Z (qd Z (qd Z (qd Z (bE H fun r7 h8 H=>za (zp (y0c [80,97,114,115,101,85,105,110,116] s1 base2 bitSize3 r4.2 r7 h8) ⟨.inl Z,.inl Z,.inl Z,.inl Z,.inl Z,U⟩) (qe Z (qe Z (zj ?_)))))))))
  cases H
  exact ⟨U,.inl Z,.inl Z,U⟩
 ·refine fE h6 H fun H=>zo (zb hN Z (qd Z (qe Z (qe Z (zj ?_)))))
  cases H
  exact ⟨U,.inl Z,.inl Z,U⟩
theorem y54 (s1:Bs) (v2:Int) (r:(Int)) (H:z6l s1 v2=some r):Fn Tryz.prog 100 [vstr s1,vint v2] (zu [vval (.int .u8 r)]):=by
 refine ⟨by kernel_rfl,yi (us:=[vval (.int .u8 r)]) Tryz.func100 Z Z Z Z fun X hN => ?_⟩
 unfold z6l at H
 refine zb hN Z (qe Z (zb hN Z (qd Z (qd Z (za (yp _ Z Z (.inl ⟨Z,Z⟩)) (qd Z (za (yp _ Z Z (.inl ⟨Z,Z⟩)) (bE H fun l3 h4 H=>za (qg tyU9 Z Z Z h4) (bE H fun r5 h6 H=>za (zp (y50 l3 16 8 r5 h6) ⟨.inl Z,.inl Z,.inl Z,U⟩) (qd Z (za (yn Z Z) (za (yn Z Z) (qe Z (qe Z (zh (zb hN Z (qd Z (za (z0v (n:=r5.2) (show Tryz.prog.underlying 91=some (.interface (Tryz.prog.methodsAt 91)) from by kernel_rfl) Z) ?_))))))))))))))))))
 refine zi _ Z (fun h7 => ?_) (fun h7 => ?_)
 ·refine tE h7 H fun H=>zb hN Z (qe Z (zj ?_))
  cases H
  exact ⟨U,.inl Z,U⟩
 ·refine fE h7 H fun H=>zo (zb hN Z (qd Z (za (jd xy tyU5 Z) (qe Z (zj ?_)))))
  cases H
  exact ⟨U,.inl Z,U⟩
theorem y6e (c1:Int) (r:(Bool)) (H:z6o c1=some r):Fn Tryz.prog 101 [vval (.int .u8 c1)] (zu [zf r]):=by
 refine ⟨by kernel_rfl,yi (us:=[zf r]) Tryz.func101 Z Z Z Z fun X hN => ?_⟩
 unfold z6o at H
 refine zb hN Z (qe Z (ya (ι:=Bool) (fun i=>[(2,.dat (zf i))]) (fun i=>[]) (fun i=>Qt i=some r) (fun i=>Z) ?_ ?_))
 ·skip
  refine zn hN Z (qd Z (bE H fun r2 h3 H=>za (zp (y0g c1 r2 h3) ⟨.inl Z,U⟩) (qd Z (yc (j:=2) Z Z (fun h4 => ?_) (fun h4 => ?_) Z))))
  ·refine u3 h4 H fun h5 H=>zd Z Z h4 (ze (.dat _) Z) (bE H fun r6 h7 H=>zd Z Z h4 (zp (z6v c1 r6 h7) ⟨.inl Z,U⟩) (za (zq Z (bFF h5) Z) (qd Z (yc (j:=6) Z Z (fun h8 => ?_) (fun h8 => ?_) Z))))
   ·exact u3 h8 H fun h9 H=>zd Z Z h8 (ze (.dat _) Z) (bE H fun r10 h11 H=>zd Z Z h8 (zp (z6s [45,46,95,126] c1 r10 h11) ⟨.inl Z,.inl Z,U⟩) (zd Z Z h8 (vc Z Z) (za (zq Z (bFF h9) Z) (qe Z ⟨decide (0≤r10),H,⟨Z,U⟩,U⟩))))
   ·exact u4 h8 H fun h12 H=>zc Z Z h8 (zc Z Z h8 (zc Z Z h8 (za (zx Z (bTT h12) Z) (qe Z ⟨true,H,⟨Z,U⟩,U⟩))))
  ·exact u4 h4 H fun h13 H=>zc Z Z h4 (zc Z Z h4 (za (zx Z (bTT h13) Z) (qd Z (zc Z Z Z (zc Z Z Z (zc Z Z Z (za (zx Z Z Z) (qe Z ⟨true,H,⟨Z,U⟩,U⟩))))))))
 ·rintro v14 H
  replace H:Qt v14=some r:=H
  unfold Qt at H
  refine zj ?_
  cases H
  exact ⟨U,.inl Z,U⟩
theorem y56 (c1:Int) (r:(Bs)) (H:z6m c1=some r):Fn Tryz.prog 102 [vval (.int .u8 c1)] (zu [vstr r]):=by
 refine ⟨by kernel_rfl,yi (us:=[vstr r]) Tryz.func102 Z Z Z Z fun X hN => ?_⟩
 unfold z6m at H
 refine zb hN Z (qe Z (zh (wl mixed hN Z Z (qd Z (za (yg (y20 Z Z (by decide)) Z) (bE H fun x2 h3 H=>za (z8n tyU9 Z Z h3) (qd Z (za (yg (y3k Z Z) Z) (bE H fun x4 h5 H=>za (z8n tyU9 Z Z h5) (za (yg (u':=vlst (List.map yz [37,(x2.toNat:Int),(x4.toNat:Int)])) (qj [[_],[_],[_]] xz ⟨Z,.inl ⟨_,Z,Z,Z⟩,Z,Z,.inl ⟨_,Z,Z,Z⟩,Z,Z,.inl ⟨_,Z,Z,Z⟩,Z,U⟩ Z Z) Z) (za (z5m (C:=yz) xx tyU5 tyU9 (fun _=>Z) Z) (qe Z ⟨Z,?_⟩))))))))))))
 refine zj ?_
 cases H
 exact ⟨U,.inl Z,U⟩
theorem y5t (l1:(List Int)) (s2:Bs) (r:(Int×Int×(List Int))) (H:z6h l1 s2=some r):FnG Tryz.prog 65 [.ptr 0 0,.dat (vstr s2)] [(0,.box (some 0) 88 [.nptr 0,.row 1 l1.length]),(1,.row 5 1 (List.map yz l1))] (.dat (zu [vint r.1,verr r.2.1])) [(0,.box (some 0) 88 [.nptr 0,.row 900 r.2.2.length]),(900,.row 5 1 (List.map yz r.2.2))]:=by
 refine z7c (by kernel_rfl) Tryz.func65 Z Z Z Z fun X A hN => ?_
 refine wd ?_
 unfold z6h at H
 refine zb hN Z (qe Z (qe Z (zb hN Z (za (ze (.ptr _ _) Z) (zl (z8x y1h Z) Z (zb hN Z (za (ze (.ptr _ _) Z) (za (ze (.ptr _ _) Z) (za (zy Z) (za (zk z2v Z) (zw (zr z2r Z Z) Z (qd Z (gE H fun h3 H=>zl (y2p (C:=yz) (fun _=>Z) (show tyB8 Tryz.prog 86 9 5 from ⟨by kernel_rfl,by kernel_rfl,by kernel_rfl⟩) Z Z Z h3) Z ?_)))))))))))))
 refine za (zy Z) (za (zk z2v Z) (z0x (z0t z2r Z Z (by rw [List.length_map]) Z) Z Z ?_))
 refine zb hN Z (qd Z (za (yr tyU9 Z) (qe Z (qe Z (zj ?_)))))
 cases H
 show Cv _ _ _ _
 exact wn (rn [(1,900)]) [(4,.dat (vint (s2.length:Int))),(5,.dat (verr 0))] [(0,.box (some (A.bl 0)) 88 [.nptr 0,.row 1 ((l1++yl s2).length)]),(1,.row 5 1 (List.map yz (l1++yl s2)))] ⟨Z,Z,U⟩ ⟨Z,Z,U⟩ Z Z ⟨U,[(4,.dat (vint (s2.length:Int))),(5,.dat (verr 0))],⟨Z,Z,U⟩,⟨Z,Z,U⟩,Z,.inl ⟨[vint (s2.length:Int),verr 0],⟨Z,Z,U⟩,Z⟩⟩
theorem y57 (s1:Bs) (r:(Bs×Bool)) (H:z08 s1=some r):Fn Tryz.prog 71 [vstr s1] (zu [vstr r.1,zf r.2]):=by
 refine ⟨by kernel_rfl,yi (us:=[vstr r.1,zf r.2]) Tryz.func71 Z Z Z Z fun X hN => ?_⟩
 unfold z08 at H
 refine zb hN Z (qe Z (qe Z (zb hN Z (zl (vj 1 y13 Z) Z (y81 1 0 (.nptr 1) Z Z y48 (z42 1 1 2 5 1 Z Z Z Z (ya (ι:=(List Int)) (fun i=>[(4,.ptr 1 0)]) (fun i=>[(1,.box none 88 [.nptr 1,.row 2 i.length]),(2,.row 5 1 (List.map yz i))]) (fun i=>z3g i=some r) (fun i=>Z) ?_ ?_)))))))
 ·refine wd (zb hN Z (qe Z (ye (jv (fun (s:Int×(List Int))=>[(0,.dat (vstr s1)),(4,.ptr 1 0),(5,.dat (vint s.1))]) (fun (s:Int×(List Int))=>[(1,.box none 88 [.nptr 1,.row 2 s.2.length]),(2,.row 5 1 (List.map yz s.2))]) (0,([]:List Int)) H ⟨Z,Z,Z,U⟩ ⟨Z,Z,U⟩ (fun _=>Z) ?_))))
  rintro ⟨i2,l3⟩ q4 H hq4
  replace H:z6b s1 i2 l3=some q4:=H
  unfold z6b at H
  refine wd (zh (zb hN Z (qd Z (qd Z (za (yr tyU9 Z) (za (yf Z Z) (zi _ Z (fun h5 => ?_) (fun h5 => ?_))))))))
  ·refine tE h5 H fun H=>zo (ya (ι:=Int×(List Int)) (fun i=>[(0,.dat (vstr s1)),(4,.ptr 1 0),(5,.dat (vint i.1))]) (fun i=>[(1,.box none 88 [.nptr 1,.row 7 i.2.length]),(7,.row 5 1 (List.map yz i.2))]) (fun i=>z04 i.1 i.2=some q4) (fun i=>Z) ?_ ?_)
   ·refine wd (ye (zh (zb hN Z (qd Z (qd Z (bE H fun x6 h7 H=>za (wi tyU9 Z Z h7) (za (jn Z Z) (zi _ Z (fun h8 => ?_) (fun h8 => ?_)))))))))
    ·refine tE h8 H fun H=>zb hN Z (qd Z (qd Z (za (wi tyU9 Z Z h7) (bE H fun r9 h10 H=>Zf (rn [(0,1),(1,2),(900,3)]) [(0,_,_,some _),(1,_,_,none)] [(900,_)] (z96 l3 (x6.toNat:Int) r9 h10) ⟨Z,Z,Z,U⟩ ⟨.inl (.inl Z),.inl (.inl Z),U⟩ ⟨⟨⟨Z,Z⟩,U⟩,⟨⟨Z,Z,Z⟩,U⟩,U⟩ Z (yv ?_)))))
     show Cv _ _ _ _
     exact wn (rn [(3,7)]) [(0,.dat (vstr s1)),(4,.ptr 1 0),(5,.dat (vint i2))] [(1,.box none 88 [.nptr 1,.row 3 r9.2.length]),(3,.row 5 1 (List.map yz r9.2))] ⟨Z,Z,Z,U⟩ ⟨Z,Z,U⟩ Z Z ⟨(i2,r9.2),H,⟨Z,Z,Z,U⟩,⟨Z,Z,U⟩⟩
    ·refine fE h8 H fun H=>zo (zh (zb hN Z (qd Z (qd Z (bE H fun r11 h12 H=>za (zp (y6d s1 i2 r11 h12) ⟨.inl Z,.inl Z,U⟩) (za (yt Z) (zi _ Z (fun h13 => ?_) (fun h13 => ?_))))))))
     ·refine tE h13 H fun H=>zb hN Z (qe Z (qe Z (zj ?_)))
      replace H:=retl H hq4
      cases H
      show Cv _ _ _ _
      refine qu ?_
      show Cv _ _ _ _
      refine qu ?_
      show Cv _ _ _ _
      exact qu ⟨U,.inl Z,.inl Z,U⟩
     ·refine fE h13 H fun H=>zo (ya (ι:=(List Int)) (fun i=>[(0,.dat (vstr s1)),(4,.ptr 1 0),(5,.dat (vint i2))]) (fun i=>[(1,.box none 88 [.nptr 1,.row 6 i.length]),(6,.row 5 1 (List.map yz i))]) (fun i=>z03 i2 i=some q4) (fun i=>Z) ?_ ?_)
      ·refine wd (zb hN Z (qd Z (qd Z (bE H fun r14 h15 H=>za (zp (y54 s1 i2 r14 h15) ⟨.inl Z,.inl Z,U⟩) (qe Z (zb hN Z (qd Z (bE H fun r16 h17 H=>za (zp (y6e r14 r16 h17) ⟨.inl Z,U⟩) (zi _ Z (fun h18 => ?_) (fun h18 => ?_))))))))))
       ·refine tE h18 H fun H=>zn hN Z (qd Z (bE H fun r19 h20 H=>Zf (rn [(0,1),(1,2),(900,4)]) [(0,_,_,some _),(1,_,_,none)] [(900,_)] (z96 l3 r14 r19 h20) ⟨Z,Z,Z,U⟩ ⟨.inl (.inl Z),.inl (.inl Z),U⟩ ⟨⟨⟨Z,Z⟩,U⟩,⟨⟨Z,Z,Z⟩,U⟩,U⟩ Z (wg ?_)))
        show Cv _ _ _ _
        exact wn (rn [(4,6)]) [(0,.dat (vstr s1)),(4,.ptr 1 0),(5,.dat (vint i2))] [(1,.box none 88 [.nptr 1,.row 4 r19.2.length]),(4,.row 5 1 (List.map yz r19.2))] ⟨Z,Z,Z,U⟩ ⟨Z,Z,U⟩ Z Z ⟨r19.2,H,⟨Z,Z,Z,U⟩,⟨Z,Z,U⟩⟩
       ·refine fE h18 H fun H=>zn hN Z (qd Z (bE H fun r21 h22 H=>za (zp (y56 r14 r21 h22) ⟨.inl Z,U⟩) (bE H fun r23 h24 H=>Zf (rn [(0,1),(1,2),(900,5)]) [(0,_,_,some _),(1,_,_,none)] [(900,_)] (y5t l3 r21 r23 h24) ⟨Z,Z,Z,U⟩ ⟨.inl (.inl Z),.inl (.inl Z),U⟩ ⟨⟨⟨Z,Z⟩,U⟩,⟨⟨Z,Z,Z⟩,U⟩,U⟩ Z (wg ?_))))
        show Cv _ _ _ _
        exact wn (rn [(5,6)]) [(0,.dat (vstr s1)),(4,.ptr 1 0),(5,.dat (vint i2))] [(1,.box none 88 [.nptr 1,.row 5 r23.2.2.length]),(5,.row 5 1 (List.map yz r23.2.2))] ⟨Z,Z,Z,U⟩ ⟨Z,Z,U⟩ Z Z ⟨r23.2.2,H,⟨Z,Z,Z,U⟩,⟨Z,Z,U⟩⟩
      ·rintro l25 H
       replace H:z03 i2 l25=some q4:=H
       unfold z03 at H
       refine zn hN Z (qd Z (za (yp _ Z Z (.inl ⟨Z,Z⟩)) (qe Z (wg ?_))))
       show Cv _ _ _ _
       exact wn (rn [(6,7)]) [(0,.dat (vstr s1)),(4,.ptr 1 0),(5,.dat (vint (wr (i2+2))))] [(1,.box none 88 [.nptr 1,.row 6 l25.length]),(6,.row 5 1 (List.map yz l25))] ⟨Z,Z,Z,U⟩ ⟨Z,Z,U⟩ Z Z ⟨(wr (i2+2),l25),H,⟨Z,Z,Z,U⟩,⟨Z,Z,U⟩⟩
   ·rintro ⟨i26,l27⟩ H
    replace H:z04 i26 l27=some q4:=H
    unfold z04 at H
    refine zn hN Z (qd Z (za (yp _ Z Z (.inl ⟨Z,Z⟩)) (qe Z (wg ?_))))
    show Cv _ _ _ _
    exact wn (rn [(7,2)]) [(0,.dat (vstr s1)),(4,.ptr 1 0),(5,.dat (vint (wr (i26+1))))] [(1,.box none 88 [.nptr 1,.row 7 l27.length]),(7,.row 5 1 (List.map yz l27))] ⟨Z,Z,Z,U⟩ ⟨Z,Z,U⟩ Z Z ⟨_,qc H,⟨Z,Z,Z,U⟩,⟨Z,Z,U⟩⟩
  ·refine fE h5 H fun H=>yv ?_
   replace H:=outl H hq4
   show Cv _ _ _ _
   refine qu ?_
   show Cv _ _ _ _
   exact qu ⟨l3,H,⟨Z,U⟩,⟨Z,Z,U⟩⟩
 ·rintro l28 H
  replace H:z3g l28=some r:=H
  unfold z3g at H
  refine zb hN Z (gE H fun h29 H=>Zf (rn [(0,1),(1,2)]) [(0,_,_,none),(1,_,_,none)] [] (y5s h29 (C:=yz) (fun _=>Z)) ⟨Z,Z,U⟩ ⟨.inl (.inl Z),U⟩ ⟨⟨⟨Z,Z⟩,U⟩,⟨⟨Z,Z,Z⟩,U⟩,U⟩ Z (qe Z (qe Z (zj ?_))))
  cases H
  exact ⟨U,.inl Z,.inl Z,U⟩
theorem y5o (s sep:Bs) (r:List Bs) (H:Zu s sep=some r):FnG Tryz.prog 72 [.dat (vstr s),.dat (vstr sep)] [] (.row 900 r.length) [(900,.row 9 1 (List.map yj r))]:=by
 obtain ⟨h1,h2,rfl⟩:=y3o H
 have hlen:=Lib.splitB_all ⟨sep.toArray⟩ (by simpa [ByteArray.size] using h2) 0 _ ⟨s.toArray⟩ Z
 have hle:=Lib.countB_le ⟨sep.toArray⟩ (by simpa [ByteArray.size] using h2) _ ⟨s.toArray⟩ (Nat.le_refl _)
 refine y7w (args:=[vstr s,vstr sep]) (kn s sep) (by kernel_rfl) (fun M w vs hM hvs => ?_) ?_
 ·have hv:=jw (us:=[.string ⟨s.toArray⟩,.string ⟨sep.toArray⟩]) hvs
  subst hv
  obtain ⟨m,hm⟩:=z6d hM
  refine (Tryz.strings_Split ⟨s.toArray⟩ ⟨sep.toArray⟩ m w (by simp [ByteArray.size]; omega) hm (by simpa [ByteArray.size] using h2)).mono ?_
  rintro e w' ⟨rfl,rfl⟩
  have e1:(kn s sep).length=Lib.countB ⟨s.toArray⟩ ⟨sep.toArray⟩+1:=by unfold kn; rw [List.length_map,hlen]
  have e2:((kn s sep).map fun s=>Value.string ⟨s.toArray⟩)=(Lib.splitB ⟨sep.toArray⟩ 0 (Lib.countB ⟨s.toArray⟩ ⟨sep.toArray⟩) ⟨s.toArray⟩).map Value.string:=by
   unfold kn
   rw [List.map_map]
   exact List.map_congr_left fun b _=>by simp
  rw [e1,e2]
  exact ⟨Z,Z⟩
 ·unfold kn maxLen
  rw [List.length_map,hlen]
  have hsz:(ByteArray.mk s.toArray).size=s.length:=by simp [ByteArray.size]
  rw [hsz] at hle
  omega
theorem y5x (s sep:Bs) (r:List Bs) (H:Zu s sep=some r):Fn Tryz.prog 72 [vstr s,vstr sep] (zu [vlst (List.map yj r)]):=by
 have h:=y5o s sep r H
 rw [← List.length_map (f:=yj)] at h
 exact y7v h
theorem y6i (s1:Bs) (r:(Bs×Int)) (H:z1d s1=some r):Fn Tryz.prog 44 [vstr s1] (zu [vstr r.1,vint r.2]):=by
 refine ⟨by kernel_rfl,yi (us:=[vstr r.1,vint r.2]) Tryz.func44 Z Z Z Z fun X hN => ?_⟩
 unfold z1d at H
 refine zb hN Z (qe Z (qe Z (zh (zb hN Z (qd Z (bE H fun r2 h3 H=>za (zp (y6f s1 r2 h3) ⟨.inl Z,U⟩) (qe Z (zb hN Z (qd Z (za (jn Z Z) (zi _ Z (fun h4 => ?_) (fun h4 => ?_))))))))))))
 ·refine tE h4 H fun H=>zb hN Z (qd Z (qe Z (qe Z (zj ?_))))
  cases H
  exact ⟨U,.inl Z,.inl Z,U⟩
 ·refine fE h4 H fun H=>zo (zb hN Z (qd Z (bE H fun r5 h6 H=>za (zp (y57 s1 r5 h6) ⟨.inl Z,U⟩) (qd Z (za (yn Z Z) (za (yn Z Z) (qe Z (qe Z (zh (zb hN Z (qd Z (za (yt Z) (zi _ Z (fun h7 => ?_) (fun h7 => ?_))))))))))))))
  ·refine tE h7 H fun H=>zb hN Z (qe Z (qe Z (zj ?_)))
   cases H
   exact ⟨U,.inl Z,.inl Z,U⟩
  ·refine fE h7 H fun H=>zo (zb hN Z (qe Z (zb hN Z (qd Z (bE H fun l8 h9 H=>za (qg tyU9 Z Z Z h9) (bE H fun r10 h11 H=>za (zp (y5x l8 [47] r10 h11) ⟨.inl Z,.inl Z,U⟩) (qe Z (zh (zb hN Z (qd Z (za (ql z2o Z) (qd Z (ye (uk 6 1 9 1 Z Z Z (gE H fun h15 H=>vf (fun (k13:Nat) (s:(List Bs))=>[(6,.row 1 s.length),(7,.dat (vlst (List.map yj r10))),(25,.dat (vlst (List.map yj r10))),(26,.dat (vint (r10.length:Int))),(27,.dat (vint (k13:Int)))]) (fun (k13:Nat) (s:(List Bs))=>[(1,.row 9 1 (List.map yj s))]) [] H ⟨Z,Z,Z,Z,Z,U⟩ ⟨Z,U⟩ (fun _ _=>Z) ?_ ?_)))))))))))))))
   ·rintro l12 H
    replace H:z3m l12=some r:=H
    unfold z3m at H
    refine zb hN Z (za (yf Z Z) (zh (zi _ Z (fun h=>(lt_t h).elim) (fun h => ?_))))
    refine yv (zh (ur 6 1 Z Z Z (zn hN Z (qd Z (bE H fun r17 h18 H=>za (zp (z4d l12 [47] r17 h18) ⟨.inl Z,.inl Z,U⟩) (gE H fun h19 H=>za (qm Z Z (Nat.le_trans h19 (by decide))) (qe Z (qe Z (zj ?_)))))))))
    cases H
    exact ⟨U,.inl Z,.inl Z,U⟩
   ·rintro k13 x16 l12 q14 h20 h21 H hq14
    replace H:z3l r10 k13 x16 l12=some q14:=H
    unfold z3l at H
    refine wd (zb hN Z (za (yf Z Z) (zh (zi _ Z (fun h => ?_) (fun h=>(lt_f h20 h).elim)))))
    refine zo (ya (ι:=(List Bs)) (fun i=>[(6,.row 4 i.length),(7,.dat (vlst (List.map yj r10))),(25,.dat (vlst (List.map yj r10))),(26,.dat (vint (r10.length:Int))),(27,.dat (vint (k13:Int)))]) (fun i=>[(4,.row 9 1 (List.map yj i))]) (fun i=>Qv i=some q14) (fun i=>Z) ?_ ?_)
    ·refine wd (ye (zb hN Z (qd Z (za (ja z5b (fun _=>Z) Z Z h21) (za (Qg tyS9 Z (wz h21) Z) (qe Z (qe Z (ya (ι:=(List Bs)) (fun i=>[(6,.row 3 i.length),(7,.dat (vlst (List.map yj r10))),(8,.dat (vint (k13:Int))),(25,.dat (vlst (List.map yj r10))),(26,.dat (vint (r10.length:Int))),(27,.dat (vint (k13:Int)))]) (fun i=>[(3,.row 9 1 (List.map yj i))]) (fun i=>z05 r10 k13 i=some q14) (fun i=>Z) ?_ ?_))))))))
     ·refine wd (zb hN Z (qd Z (ye (zb hN Z (za (qx Z Z) (qe Z (zi _ Z (fun h22 => ?_) (fun h22 => ?_))))))))
      ·refine tE h22 H fun H=>zo ?_
       show Cv _ _ _ _
       exact wn (rn [(1,3)]) [(6,.row 1 l12.length),(7,.dat (vlst (List.map yj r10))),(8,.dat (vint (k13:Int))),(25,.dat (vlst (List.map yj r10))),(26,.dat (vint (r10.length:Int))),(27,.dat (vint (k13:Int)))] [(1,.row 9 1 (List.map yj l12))] ⟨Z,Z,Z,Z,Z,Z,U⟩ ⟨Z,U⟩ Z Z ⟨l12,H,⟨Z,Z,Z,Z,Z,Z,U⟩,⟨Z,U⟩⟩
      ·refine fE h22 H fun H=>zb hN Z (za (qx Z Z) (qe Z (zi _ Z (fun h23 => ?_) (fun h23 => ?_))))
       ·refine tE h23 H fun H=>zn hN Z (za (ze (.row _ _) Z) (za (ze (.row _ _) Z) (zw (y2n z2o Z Z) Z (za (yp _ Z Z (.inr (.inl ⟨Z,Z⟩))) (za (y25 Z Z) (gE H fun h24 H=>z84 (y2o (C:=yj) 2 z5b Z Z Z h24) Z Z (za (wy (.row _ _) Z) (wg ?_))))))))
        show Cv _ _ _ _
        exact wn (rn [(2,3)]) [(6,.row 2 ((max (wr ((l12.length:Int) - 1)) 0).toNat)),(7,.dat (vlst (List.map yj r10))),(8,.dat (vint (k13:Int))),(25,.dat (vlst (List.map yj r10))),(26,.dat (vint (r10.length:Int))),(27,.dat (vint (k13:Int)))] [(2,.row 9 1 (List.map yj (l12.take (max (wr ((l12.length:Int) - 1)) 0).toNat)))] ⟨Z,Z,Z,Z,Z,Z,U⟩ ⟨Z,U⟩ Z Z ⟨(l12.take (max (wr ((l12.length:Int) - 1)) 0).toNat),H,⟨congrArg (Slot.row 3) ((y8f h24)).symm,Z,Z,Z,Z,Z,U⟩,⟨Z,U⟩⟩
       ·refine fE h23 H fun H=>zb hN Z (za (ze (.row _ _) Z) (qd Z (za (yg (u':=vlst (List.map yj [x16])) (qj [[_]] wb ⟨Z,.inl ⟨_,Z,Z,Z⟩,Z,U⟩ Z Z) Z) (gE H fun h25 H=>zl (jc wb (fun _=>Z) Z Z Z ⟨by simp,by first | (simp; done) | simpa using h25⟩ Z) Z ?_))))
        refine za (wy (.row _ _) Z) (yv ?_)
        show Cv _ _ _ _
        refine qu ?_
        show Cv _ _ _ _
        exact wn (rn [(1,4)]) [(6,.row 1 ((l12++[x16]).length)),(7,.dat (vlst (List.map yj r10))),(25,.dat (vlst (List.map yj r10))),(26,.dat (vint (r10.length:Int))),(27,.dat (vint (k13:Int)))] [(1,.row 9 1 (List.map yj (l12++[x16])))] ⟨Z,Z,Z,Z,Z,U⟩ ⟨Z,U⟩ Z Z ⟨(l12++[x16]),H,⟨Z,Z,Z,Z,Z,U⟩,⟨Z,U⟩⟩
     ·rintro out26 H
      replace H:z05 r10 k13 out26=some q14:=H
      unfold z05 at H
      refine zb hN Z (qd Z (qd Z (za (ql z2o Z) (za (yp _ Z Z (.inr (.inl ⟨Z,Z⟩))) (za (yk Z Z) (zi _ Z (fun h27 => ?_) (fun h27 => ?_)))))))
      ·refine tE h27 H fun H=>zn hN Z (za (ze (.row _ _) Z) (za (yg (u':=vlst (List.map yj [[]])) (qj [[_]] wb ⟨Z,.inl ⟨_,Z,Z,Z⟩,Z,U⟩ Z Z) Z) (gE H fun h28 H=>zl (jc wb (fun _=>Z) Z Z Z ⟨by simp,by first | (simp; done) | simpa using h28⟩ Z) Z ?_)))
       refine za (wy (.row _ _) Z) (wg ?_)
       show Cv _ _ _ _
       exact wn (rn [(3,4)]) [(6,.row 3 ((out26++([[]])).length)),(7,.dat (vlst (List.map yj r10))),(25,.dat (vlst (List.map yj r10))),(26,.dat (vint (r10.length:Int))),(27,.dat (vint (k13:Int)))] [(3,.row 9 1 (List.map yj (out26++([[]]))))] ⟨Z,Z,Z,Z,Z,U⟩ ⟨Z,U⟩ Z Z ⟨(out26++([[]])),H,⟨Z,Z,Z,Z,Z,U⟩,⟨Z,U⟩⟩
      ·refine fE h27 H fun H=>zo ?_
       show Cv _ _ _ _
       exact wn (rn [(3,4)]) [(6,.row 3 out26.length),(7,.dat (vlst (List.map yj r10))),(25,.dat (vlst (List.map yj r10))),(26,.dat (vint (r10.length:Int))),(27,.dat (vint (k13:Int)))] [(3,.row 9 1 (List.map yj out26))] ⟨Z,Z,Z,Z,Z,U⟩ ⟨Z,U⟩ Z Z ⟨out26,H,⟨Z,Z,Z,Z,Z,U⟩,⟨Z,U⟩⟩
    ·rintro out29 H
     replace H:Qv out29=some q14:=H
     unfold Qv at H
     refine zn hN Z (za (wj Z Z (by omega)) (qd Z (wg ?_)))
     show Cv _ _ _ _
     exact wn (rn [(4,1)]) [(6,.row 4 out29.length),(7,.dat (vlst (List.map yj r10))),(25,.dat (vlst (List.map yj r10))),(26,.dat (vint (r10.length:Int))),(27,.dat (vint ((k13:Int)+1)))] [(4,.row 9 1 (List.map yj out29))] ⟨Z,Z,Z,Z,Z,U⟩ ⟨Z,U⟩ Z Z ⟨_,qc H,⟨Z,Z,Z,Z,Z,U⟩,⟨Z,U⟩⟩
theorem y65  (r:(Bool)) (H:z1s  = some r):Fn Tryz.prog 11 [] (zu [zf r]):=by
 refine ⟨by kernel_rfl,yi (us:=[zf r]) Tryz.func11 Z Z Z Z fun X hN => ?_⟩
 unfold z1s at H
 refine zb hN Z (qe Z (zb hN Z (bE H fun r1 h2 H=>za (zp (y6i [47,97,47,46,46,47,98] r1 h2) ⟨.inl Z,U⟩) (qd Z (za (yn Z Z) (za (yn Z Z) (qe Z (qe Z (zb hN Z (qd Z (za (yk Z Z) (qd Z (yx Z Z (fun hc=>ze (.dat _) Z) (yx Z Z (fun hc=>qx (cnd (c:=(decide (r1.2=0))) hc) Z) (za (wc Z (fun hb=>(cnd (c:=(decide (r1.2=0))) hb)) Z) (qe Z (zj ?_)))))))))))))))))
 cases H
 exact ⟨U,.inl Z,U⟩
theorem y68 (l1:(List Int)) (r:(Bool)) (H:z36 l1=some r):Fn Tryz.prog 3 [vlst (List.map vh l1)] (zu [zf r]):=by
 refine ⟨by kernel_rfl,yi (us:=[zf r]) Tryz.func3 Z Z Z Z fun X hN => ?_⟩
 unfold z36 at H
 refine zb hN Z (qe Z (zb hN Z (qd Z (za (yg (u':=vagg (qi (zz.mk l1 0))) (km [(0,[vlst (List.map vh l1)])] y16 y2b Z ⟨Z,.inl ⟨_,Z,Z,Z⟩,Z,U⟩) Z) (zl (jy 1 Z) Z (za (wy (.ptr _ _) Z) (zb hN Z (za (ze (.ptr _ _) Z) (bE H fun r2 h3 H=>zl (yh (y62 (zz.mk l1 0) r2 h3) Z U Z) Z (za (ze (.ptr _ _) Z) (bE H fun r4 h5 H=>zl (yh (y63 r2.2 r4 h5) Z U Z) Z (qe Z (qe Z (zb hN Z (qd Z (bE H fun r6 h7 H=>za (zp (y6h r2.1 r6 h7) ⟨.inl Z,U⟩) (qd Z (za (yn Z Z) (za (yn Z Z) (qe Z ?_))))))))))))))))))))
 refine qe Z (zb hN Z (qd Z (bE H fun r8 h9 H=>za (zp (y6w r2.1 r8 h9) ⟨.inl Z,U⟩) (qd Z (za (yn Z Z) (za (yn Z Z) (qe Z (qe Z (zb hN Z (qd Z (bE H fun r10 h11 H=>za (zp (y6k r4.1 r10 h11) ⟨.inl Z,U⟩) (qd Z (za (yn Z Z) (za (yn Z Z) (qe Z (qe Z (zb hN Z (qd Z (bE H fun r12 h13 H=>za (zp (y6y r4.1 r12 h13) ⟨.inl Z,U⟩) (qd Z ?_))))))))))))))))))))
 refine za (yn Z Z) (za (yn Z Z) (qe Z (qe Z (ya (ι:=Bool) (fun i=>[(2,.dat (zf i))]) (fun i=>[]) (fun i=>xp i=some r) (fun i=>Z) ?_ ?_))))
 ·skip
  refine zn hN Z (qd Z (qd Z (bE H fun r14 h15 H=>za (zp (y67 r6.1 r8.1 r14 h15) ⟨.inl Z,.inl Z,U⟩) (qd Z (yc (j:=3) Z Z (fun h16 => ?_) (fun h16 => ?_) Z)))))
  ·refine u1 h16 H fun h17 H=>zd Z Z h16 (ze (.dat _) Z) (zd Z Z h16 (ze (.dat _) Z) (zd Z Z h16 (yk Z Z) (za (zx Z (bTT h17) Z) (qd Z (yc (j:=8) Z Z (fun h18 => ?_) (fun h18 => ?_) Z)))))
   ·refine u1 h18 H fun h19 H=>zd Z Z h18 (ze (.dat _) Z) (zd Z Z h18 (ze (.dat _) Z) (zd Z Z h18 (qx Z Z) (za (zx Z (bTT h19) Z) (qd Z (yc (j:=13) Z Z (fun h20 => ?_) (fun h20 => ?_) Z)))))
    ·refine u1 h20 H fun h21 H=>zd Z Z h20 (ze (.dat _) Z) (zd Z Z h20 (ze (.dat _) Z) (zd Z Z h20 (yk Z Z) (za (zx Z (bTT h21) Z) (qd Z (yc (j:=18) Z Z (fun h22 => ?_) (fun h22 => ?_) Z)))))
     ·exact u1 h22 H fun h23 H=>bE H fun r24 h25 H=>zd Z Z h22 (zp (y65  r24 h25) U) (za (zx Z (bTT h23) Z) (qe Z ⟨r24,H,⟨Z,U⟩,U⟩))
     ·exact u2 h22 H fun h26 H=>zc Z Z h22 (za (zq Z (bFF h26) Z) (qe Z ⟨false,H,⟨Z,U⟩,U⟩))
    ·exact u2 h20 H fun h27 H=>zc Z Z h20 (zc Z Z h20 (zc Z Z h20 (za (zq Z (bFF h27) Z) (qd Z (zc Z Z Z (za (zq Z Z Z) (qe Z ⟨false,H,⟨Z,U⟩,U⟩)))))))
   ·exact u2 h18 H fun h28 H=>zc Z Z h18 (zc Z Z h18 (zc Z Z h18 (za (zq Z (bFF h28) Z) (qd Z (zc Z Z Z (zc Z Z Z (zc Z Z Z (za (zq Z Z Z) (qd Z (zc Z Z Z (za (zq Z Z Z) (qe Z ⟨false,H,⟨Z,U⟩,U⟩))))))))))))
  ·exact u2 h16 H fun h29 H=>zc Z Z h16 (zc Z Z h16 (zc Z Z h16 (za (zq Z (bFF h29) Z) (qd Z (zc Z Z Z (zc Z Z Z (zc Z Z Z (za (zq Z Z Z) (qd Z (zc Z Z Z (zc Z Z Z (zc Z Z Z (za (zq Z Z Z) (qd Z (zc Z Z Z (za (zq Z Z Z) (qe Z ⟨false,H,⟨Z,U⟩,U⟩)))))))))))))))))
 ·rintro v30 H
  replace H:xp v30=some r:=H
  unfold xp at H
  refine zj ?_
  cases H
  exact ⟨U,.inl Z,U⟩
end Go.Proofs.YtpjjkhcojjcdpaaGreatDoor
