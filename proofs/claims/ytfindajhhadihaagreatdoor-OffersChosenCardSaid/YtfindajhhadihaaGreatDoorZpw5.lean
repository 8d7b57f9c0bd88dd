/- Walks along the models. Printed by a program. -/
import Derived.Test.YtfindajhhadihaaGreatDoorZpw4
namespace Go.Proofs.YtfindajhhadihaaGreatDoor
open Go.RowKit
set_option linter.unusedVariables false
set_option maxRecDepth 100000
set_option maxHeartbeats 2000000
theorem y4j (s1:Bs) (r:(Bs×Int)) (H:z0s s1=some r):Fn Tryz.prog 26 [vstr s1] (zr [vstr r.1,vint r.2]):=by
 refine ⟨by kernel_rfl,yh (us:=[vstr r.1,vint r.2]) Tryz.func26 Z Z Z Z fun X hN => ?_⟩
 unfold z0s at H
 refine zb hN Z (qe Z (qe Z (zh (zb hN Z (qd Z (bE H fun r2 h3 H=>za (zn (y4g s1 r2 h3) ⟨.inl Z,U⟩) (qe Z (zb hN Z (qd Z (za (vq Z Z) (zg _ Z (fun h4 => ?_) (fun h4 => ?_))))))))))))
 ·refine tE h4 H fun H=>zb hN Z (qd Z (qe Z (qe Z (zi ?_))))
  cases H
  exact ⟨U,.inl Z,.inl Z,U⟩
 ·refine fE h4 H fun H=>zl (zb hN Z (qd Z (bE H fun r5 h6 H=>za (zn (y37 s1 r5 h6) ⟨.inl Z,U⟩) (qd Z (za (yd Z Z) (za (yd Z Z) (qe Z (qe Z (zh (zb hN Z (qd Z (za (yy Z) (zg _ Z (fun h7 => ?_) (fun h7 => ?_))))))))))))))
  ·refine tE h7 H fun H=>zb hN Z (qe Z (qe Z (zi ?_)))
   cases H
   exact ⟨U,.inl Z,.inl Z,U⟩
  ·refine fE h7 H fun H=>zl (zb hN Z (qe Z (zb hN Z (qd Z (bE H fun l8 h9 H=>za (qc tyU9 Z Z Z h9) (bE H fun r10 h11 H=>za (zn (y3x l8 [47] r10 h11) ⟨.inl Z,.inl Z,U⟩) (qe Z (zh (zb hN Z (qd Z (za (qo jl Z) (qd Z (ye (Zy 6 1 9 1 Z Z Z (gE H fun h15 H=>ve (fun (k13:Nat) (s:(List Bs))=>[(6,.row 1 s.length),(7,.dat (vlst (List.map yb r10))),(25,.dat (vlst (List.map yb r10))),(26,.dat (vint (r10.length:Int))),(27,.dat (vint (k13:Int)))]) (fun (k13:Nat) (s:(List Bs))=>[(1,.row 9 1 (List.map yb s))]) [] H ⟨Z,Z,Z,Z,Z,U⟩ ⟨Z,U⟩ (fun _ _=>Z) ?_ ?_)))))))))))))))
   ·rintro l12 H
    replace H:z2h l12=some r:=H
    unfold z2h at H
    refine zb hN Z (za (yf Z Z) (zh (zg _ Z (fun h=>(lt_t h).elim) (fun h => ?_))))
    refine yu (zh (Ye 6 1 Z Z Z (zm hN Z (qd Z (bE H fun r17 h18 H=>za (zn (z8q l12 [47] r17 h18) ⟨.inl Z,.inl Z,U⟩) (gE H fun h19 H=>za (vp Z Z (Nat.le_trans h19 (by decide))) (qe Z (qe Z (zi ?_)))))))))
    cases H
    exact ⟨U,.inl Z,.inl Z,U⟩
   ·rintro k13 x16 l12 q14 h20 h21 H hq14
    replace H:z2g r10 k13 x16 l12=some q14:=H
    unfold z2g at H
    refine we (zb hN Z (za (yf Z Z) (zh (zg _ Z (fun h => ?_) (fun h=>(lt_f h20 h).elim)))))
    refine zl (zw (ι:=(List Bs)) (fun i=>[(6,.row 4 i.length),(7,.dat (vlst (List.map yb r10))),(25,.dat (vlst (List.map yb r10))),(26,.dat (vint (r10.length:Int))),(27,.dat (vint (k13:Int)))]) (fun i=>[(4,.row 9 1 (List.map yb i))]) (fun i=>Yw i=some q14) (fun i=>Z) ?_ ?_)
    ·refine we (ye (zb hN Z (qd Z (za (jv uw (fun _=>Z) Z Z h21) (za (vr tyS9 Z (vx h21) Z) (qe Z (qe Z (zw (ι:=(List Bs)) (fun i=>[(6,.row 3 i.length),(7,.dat (vlst (List.map yb r10))),(8,.dat (vint (k13:Int))),(25,.dat (vlst (List.map yb r10))),(26,.dat (vint (r10.length:Int))),(27,.dat (vint (k13:Int)))]) (fun i=>[(3,.row 9 1 (List.map yb i))]) (fun i=>z0k r10 k13 i=some q14) (fun i=>Z) ?_ ?_))))))))
     ·refine we (zb hN Z (qd Z (ye (zb hN Z (za (ql Z Z) (qe Z (zg _ Z (fun h22 => ?_) (fun h22 => ?_))))))))
      ·refine tE h22 H fun H=>zl ?_
       show Cv _ _ _ _
       exact wn (rn [(1,3)]) [(6,.row 1 l12.length),(7,.dat (vlst (List.map yb r10))),(8,.dat (vint (k13:Int))),(25,.dat (vlst (List.map yb r10))),(26,.dat (vint (r10.length:Int))),(27,.dat (vint (k13:Int)))] [(1,.row 9 1 (List.map yb l12))] ⟨Z,Z,Z,Z,Z,Z,U⟩ ⟨Z,U⟩ Z Z ⟨l12,H,⟨Z,Z,Z,Z,Z,Z,U⟩,⟨Z,U⟩⟩
      ·refine fE h22 H fun H=>zb hN Z (za (ql Z Z) (qe Z (zg _ Z (fun h23 => ?_) (fun h23 => ?_))))
       ·refine tE h23 H fun H=>zm hN Z (za (ze (.row _ _) Z) (za (ze (.row _ _) Z) (yc (y03 jl Z Z) Z (za (yo _ Z Z (.inr (.inl ⟨Z,Z⟩))) (za (y1i Z Z) (gE H fun h24 H=>y10 (y04 (C:=yb) 2 uw Z Z Z h24) Z Z (za (wu (.row _ _) Z) (wg ?_))))))))
        show Cv _ _ _ _
        exact wn (rn [(2,3)]) [(6,.row 2 ((max (wr ((l12.length:Int) - 1)) 0).toNat)),(7,.dat (vlst (List.map yb r10))),(8,.dat (vint (k13:Int))),(25,.dat (vlst (List.map yb r10))),(26,.dat (vint (r10.length:Int))),(27,.dat (vint (k13:Int)))] [(2,.row 9 1 (List.map yb (l12.take (max (wr ((l12.length:Int) - 1)) 0).toNat)))] ⟨Z,Z,Z,Z,Z,Z,U⟩ ⟨Z,U⟩ Z Z ⟨(l12.take (max (wr ((l12.length:Int) - 1)) 0).toNat),H,⟨congrArg (Slot.row 3) ((y54 h24)).symm,Z,Z,Z,Z,Z,U⟩,⟨Z,U⟩⟩
       ·refine fE h23 H fun H=>zb hN Z (za (ze (.row _ _) Z) (qd Z (za (ym (u':=vlst (List.map yb [x16])) (wa [[_]] wi ⟨Z,.inl ⟨_,Z,Z,Z⟩,Z,U⟩ Z Z) Z) (gE H fun h25 H=>zq (vo wi (fun _=>Z) Z Z Z ⟨by simp,by first | (simp; done) | simpa using h25⟩ Z) Z ?_))))
        refine za (wu (.row _ _) Z) (yu ?_)
        show Cv _ _ _ _
        refine qq ?_
        show Cv _ _ _ _
        exact wn (rn [(1,4)]) [(6,.row 1 ((l12++[x16]).length)),(7,.dat (vlst (List.map yb r10))),(25,.dat (vlst (List.map yb r10))),(26,.dat (vint (r10.length:Int))),(27,.dat (vint (k13:Int)))] [(1,.row 9 1 (List.map yb (l12++[x16])))] ⟨Z,Z,Z,Z,Z,U⟩ ⟨Z,U⟩ Z Z ⟨(l12++[x16]),H,⟨Z,Z,Z,Z,Z,U⟩,⟨Z,U⟩⟩
     ·rintro out26 H
      replace H:z0k r10 k13 out26=some q14:=H
      unfold z0k at H
      refine zb hN Z (qd Z (qd Z (za (qo jl Z) (za (yo _ Z Z (.inr (.inl ⟨Z,Z⟩))) (za (yl Z Z) (zg _ Z (fun h27 => ?_) (fun h27 => ?_)))))))
      ·refine tE h27 H fun H=>zm hN Z (za (ze (.row _ _) Z) (za (ym (u':=vlst (List.map yb [[]])) (wa [[_]] wi ⟨Z,.inl ⟨_,Z,Z,Z⟩,Z,U⟩ Z Z) Z) (gE H fun h28 H=>zq (vo wi (fun _=>Z) Z Z Z ⟨by simp,by first | (simp; done) | simpa using h28⟩ Z) Z ?_)))
       refine za (wu (.row _ _) Z) (wg ?_)
       show Cv _ _ _ _
       exact wn (rn [(3,4)]) [(6,.row 3 ((out26++([[]])).length)),(7,.dat (vlst (List.map yb r10))),(25,.dat (vlst (List.map yb r10))),(26,.dat (vint (r10.length:Int))),(27,.dat (vint (k13:Int)))] [(3,.row 9 1 (List.map yb (out26++([[]]))))] ⟨Z,Z,Z,Z,Z,U⟩ ⟨Z,U⟩ Z Z ⟨(out26++([[]])),H,⟨Z,Z,Z,Z,Z,U⟩,⟨Z,U⟩⟩
      ·refine fE h27 H fun H=>zl ?_
       show Cv _ _ _ _
       exact wn (rn [(3,4)]) [(6,.row 3 out26.length),(7,.dat (vlst (List.map yb r10))),(25,.dat (vlst (List.map yb r10))),(26,.dat (vint (r10.length:Int))),(27,.dat (vint (k13:Int)))] [(3,.row 9 1 (List.map yb out26))] ⟨Z,Z,Z,Z,Z,U⟩ ⟨Z,U⟩ Z Z ⟨out26,H,⟨Z,Z,Z,Z,Z,U⟩,⟨Z,U⟩⟩
    ·rintro out29 H
     replace H:Yw out29=some q14:=H
     unfold Yw at H
     refine zm hN Z (za (wk Z Z (by omega)) (qd Z (wg ?_)))
     show Cv _ _ _ _
     exact wn (rn [(4,1)]) [(6,.row 4 out29.length),(7,.dat (vlst (List.map yb r10))),(25,.dat (vlst (List.map yb r10))),(26,.dat (vint (r10.length:Int))),(27,.dat (vint ((k13:Int)+1)))] [(4,.row 9 1 (List.map yb out29))] ⟨Z,Z,Z,Z,Z,U⟩ ⟨Z,U⟩ Z Z ⟨_,qb H,⟨Z,Z,Z,Z,Z,U⟩,⟨Z,U⟩⟩
theorem y45  (r:(Bool)) (H:z02  = some r):Fn Tryz.prog 9 [] (zr [zf r]):=by
 refine ⟨by kernel_rfl,yh (us:=[zf r]) Tryz.func9 Z Z Z Z fun X hN => ?_⟩
 unfold z02 at H
 refine zb hN Z (qe Z (zb hN Z (bE H fun r1 h2 H=>za (zn (y4j [47,97,47,46,46,47,98] r1 h2) ⟨.inl Z,U⟩) (qd Z (za (yd Z Z) (za (yd Z Z) (qe Z (qe Z (zb hN Z (qd Z (za (yl Z Z) (qd Z (yp Z Z (fun hc=>ze (.dat _) Z) (yp Z Z (fun hc=>ql (cnd (c:=(decide (r1.2=0))) hc) Z) (za (qp Z (fun hb=>(cnd (c:=(decide (r1.2=0))) hb)) Z) (qe Z (zi ?_)))))))))))))))))
 cases H
 exact ⟨U,.inl Z,U⟩
theorem y46 (v1:(List Int)) (r:(Bool)) (H:z2z v1=some r):Fn Tryz.prog 3 [vlst (List.map js v1)] (zr [zf r]):=by
 refine ⟨by kernel_rfl,yh (us:=[zf r]) Tryz.func3 Z Z Z Z fun X hN => ?_⟩
 unfold z2z at H
 refine zb hN Z (qe Z (zb hN Z (qd Z (za (ym (u':=vagg (qh (ya.mk v1 0))) (xa [(0,[vlst (List.map js v1)])] y0m y0p Z ⟨Z,.inl ⟨_,Z,Z,Z⟩,Z,U⟩) Z) (zq (z0d 1 Z) Z (za (wu (.ptr _ _) Z) (zb hN Z (za (ze (.ptr _ _) Z) (bE H fun r2 h3 H=>zq (yn (y43 (ya.mk v1 0) r2 h3) Z U Z) Z (za (ze (.ptr _ _) Z) (bE H fun r4 h5 H=>zq (yn (z84 r2.2 true r4 h5) Z ⟨.inl Z,U⟩ Z) Z (za (ze (.ptr _ _) Z) (bE H fun r6 h7 H=>zq (yn (z84 r4.2 false r6 h7) Z ⟨.inl Z,U⟩ Z) Z (qe Z (qe Z (qe Z (zb hN Z (qd Z (qd Z (bE H fun r8 h9 H=>?_))))))))))))))))))))
 refine za (zn (y4k r2.1 r4.1 r8 h9) ⟨.inl Z,.inl Z,U⟩) (qd Z (za (yd Z Z) (za (yd Z Z) (qe Z (qe Z (zb hN Z (qd Z (qd Z (bE H fun r10 h11 H=>za (zn (z82 r2.1 r4.1 true r10 h11) ⟨.inl Z,.inl Z,.inl Z,U⟩) (qd Z (za (yd Z Z) (za (yd Z Z) (qe Z (qe Z (zb hN Z (qd Z (qd Z (bE H fun r12 h13 H=>za (zn (y4f r2.1 r6.1 r12 h13) ⟨.inl Z,.inl Z,U⟩) (qd Z (za (yd Z Z) (za (yd Z Z) ?_)))))))))))))))))))))
 refine qe Z (qe Z (zb hN Z (qd Z (qd Z (bE H fun r14 h15 H=>za (zn (z82 r2.1 r6.1 false r14 h15) ⟨.inl Z,.inl Z,.inl Z,U⟩) (qd Z (za (yd Z Z) (za (yd Z Z) (qe Z (qe Z (zw (ι:=Bool) (fun i=>[(2,.dat (zf i))]) (fun i=>[]) (fun i=>um i=some r) (fun i=>Z) ?_ ?_)))))))))))
 ·skip
  refine zm hN Z (qd Z (qd Z (za (yl Z Z) (qd Z (zz (j:=3) Z Z (fun h16 => ?_) (fun h16 => ?_) Z)))))
  ·refine u1 h16 H fun h17 H=>zd Z Z h16 (ze (.dat _) Z) (zd Z Z h16 (ze (.dat _) Z) (zd Z Z h16 (yl Z Z) (za (zu Z (bTT h17) Z) (qd Z (zz (j:=8) Z Z (fun h18 => ?_) (fun h18 => ?_) Z)))))
   ·refine u1 h18 H fun h19 H=>zd Z Z h18 (ze (.dat _) Z) (zd Z Z h18 (ze (.dat _) Z) (zd Z Z h18 (yl Z Z) (za (zu Z (bTT h19) Z) (qd Z (zz (j:=13) Z Z (fun h20 => ?_) (fun h20 => ?_) Z)))))
    ·refine u1 h20 H fun h21 H=>zd Z Z h20 (ze (.dat _) Z) (zd Z Z h20 (ze (.dat _) Z) (zd Z Z h20 (yl Z Z) (za (zu Z (bTT h21) Z) (qd Z (zz (j:=18) Z Z (fun h22 => ?_) (fun h22 => ?_) Z)))))
     ·exact u1 h22 H fun h23 H=>bE H fun r24 h25 H=>zd Z Z h22 (zn (y45  r24 h25) U) (za (zu Z (bTT h23) Z) (qe Z ⟨r24,H,⟨Z,U⟩,U⟩))
     ·exact u2 h22 H fun h26 H=>zc Z Z h22 (za (zo Z (bFF h26) Z) (qe Z ⟨false,H,⟨Z,U⟩,U⟩))
    ·exact u2 h20 H fun h27 H=>zc Z Z h20 (zc Z Z h20 (zc Z Z h20 (za (zo Z (bFF h27) Z) (qd Z (zc Z Z Z (za (zo Z Z Z) (qe Z ⟨false,H,⟨Z,U⟩,U⟩)))))))
   ·exact u2 h18 H fun h28 H=>zc Z Z h18 (zc Z Z h18 (zc Z Z h18 (za (zo Z (bFF h28) Z) (qd Z (zc Z Z Z (zc Z Z Z (zc Z Z Z (za (zo Z Z Z) (qd Z (zc Z Z Z (za (zo Z Z Z) (qe Z ⟨false,H,⟨Z,U⟩,U⟩))))))))))))
  ·exact u2 h16 H fun h29 H=>zc Z Z h16 (zc Z Z h16 (zc Z Z h16 (za (zo Z (bFF h29) Z) (qd Z (zc Z Z Z (zc Z Z Z (zc Z Z Z (za (zo Z Z Z) (qd Z (zc Z Z Z (zc Z Z Z (zc Z Z Z (za (zo Z Z Z) (qd Z (zc Z Z Z (za (zo Z Z Z) (qe Z ⟨false,H,⟨Z,U⟩,U⟩)))))))))))))))))
 ·rintro v30 H
  replace H:um v30=some r:=H
  unfold um at H
  refine zi ?_
  cases H
  exact ⟨U,.inl Z,U⟩
end Go.Proofs.YtfindajhhadihaaGreatDoor
