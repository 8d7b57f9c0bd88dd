/- Walks along the models. Printed by a program. -/
import Derived.Test.YtbndlmnjeofkdadGreatDoorZuw2
namespace Go.Proofs.YtbndlmnjeofkdadGreatDoor
open Go.RowKit
set_option linter.unusedVariables false
set_option maxRecDepth 100000
set_option maxHeartbeats 2000000
theorem x94 (s1:Bs) (r:(Bs×Int)) (H:z1z s1=some r):Fn Tryz.prog 24 [vstr s1] (zu [vstr r.1,vint r.2]):=by
 refine ⟨by kernel_rfl,zy (us:=[vstr r.1,vint r.2]) Tryz.func24 Z Z Z Z fun X hN => ?_⟩
 unfold z1z at H
 refine zb hN Z (qe Z (qe Z (ze (zb hN Z (qd Z (bE H fun r2 h3 H=>za (zl (y9b s1 r2 h3) ⟨.inl Z,U⟩) (qe Z (zb hN Z (qd Z (za (ql Z Z) (zg _ Z (fun h4 => ?_) (fun h4 => ?_))))))))))))
 ·refine tE h4 H fun H=>zb hN Z (qd Z (qe Z (qe Z (zh ?_))))
  cases H
  exact ⟨U,.inl Z,.inl Z,U⟩
 ·refine fE h4 H fun H=>zj (zb hN Z (qd Z (bE H fun r5 h6 H=>za (zl (x9w s1 r5 h6) ⟨.inl Z,U⟩) (qd Z (za (ya Z Z) (za (ya Z Z) (qe Z (qe Z (ze (zb hN Z (qd Z (za (yt Z) (zg _ Z (fun h7 => ?_) (fun h7 => ?_))))))))))))))
  ·refine tE h7 H fun H=>zb hN Z (qe Z (qe Z (zh ?_)))
   cases H
   exact ⟨U,.inl Z,.inl Z,U⟩
  ·refine fE h7 H fun H=>zj (zb hN Z (qe Z (zb hN Z (qd Z (bE H fun l8 h9 H=>za (ji tyU9 Z Z Z h9) (bE H fun r10 h11 H=>za (zl (Yq l8 [47] r10 h11) ⟨.inl Z,.inl Z,U⟩) (qe Z (ze (zb hN Z (qd Z (za (yo qi Z) (qd Z (zx (xn 6 1 9 1 Z Z Z (gE H fun h15 H=>wd (fun (k13:Nat) (s:(List Bs))=>[(6,.row 1 s.length),(7,.dat (vlst (List.map zn r10))),(25,.dat (vlst (List.map zn r10))),(26,.dat (vint (r10.length:Int))),(27,.dat (vint (k13:Int)))]) (fun (k13:Nat) (s:(List Bs))=>[(1,.row 9 1 (List.map zn s))]) [] H ⟨Z,Z,Z,Z,Z,U⟩ ⟨Z,U⟩ (fun _ _=>Z) ?_ ?_)))))))))))))))
   ·rintro l12 H
    replace H:z83 l12=some r:=H
    unfold z83 at H
    refine zb hN Z (za (zw Z Z) (ze (zg _ Z (fun h=>(lt_t h).elim) (fun h => ?_))))
    refine yu (ze (z79 6 1 Z Z Z (zt hN Z (qd Z (bE H fun r17 h18 H=>za (zl (y31 l12 [47] r17 h18) ⟨.inl Z,.inl Z,U⟩) (gE H fun h19 H=>za (va Z Z (Nat.le_trans h19 (by decide))) (qe Z (qe Z (zh ?_)))))))))
    cases H
    exact ⟨U,.inl Z,.inl Z,U⟩
   ·rintro k13 x16 l12 q14 h20 h21 H hq14
    replace H:z82 r10 k13 x16 l12=some q14:=H
    unfold z82 at H
    refine ut (zb hN Z (za (zw Z Z) (ze (zg _ Z (fun h => ?_) (fun h=>(lt_f h20 h).elim)))))
    refine zj (yb (ι:=(List Bs)) (fun i=>[(6,.row 4 i.length),(7,.dat (vlst (List.map zn r10))),(25,.dat (vlst (List.map zn r10))),(26,.dat (vint (r10.length:Int))),(27,.dat (vint (k13:Int)))]) (fun i=>[(4,.row 9 1 (List.map zn i))]) (fun i=>z1m i=some q14) (fun i=>Z) ?_ ?_)
    ·refine ut (zx (zb hN Z (qd Z (za (qt qv (fun _=>Z) Z Z h21) (za (yi tyS9 Z (yp h21) Z) (qe Z (qe Z (yb (ι:=(List Bs)) (fun i=>[(6,.row 3 i.length),(7,.dat (vlst (List.map zn r10))),(8,.dat (vint (k13:Int))),(25,.dat (vlst (List.map zn r10))),(26,.dat (vint (r10.length:Int))),(27,.dat (vint (k13:Int)))]) (fun i=>[(3,.row 9 1 (List.map zn i))]) (fun i=>z4n r10 k13 i=some q14) (fun i=>Z) ?_ ?_))))))))
     ·refine ut (zb hN Z (qd Z (zx (zb hN Z (za (vd Z Z) (qe Z (zg _ Z (fun h22 => ?_) (fun h22 => ?_))))))))
      ·refine tE h22 H fun H=>zj ?_
       show Cv _ _ _ _
       exact kq (rn [(1,3)]) [(6,.row 1 l12.length),(7,.dat (vlst (List.map zn r10))),(8,.dat (vint (k13:Int))),(25,.dat (vlst (List.map zn r10))),(26,.dat (vint (r10.length:Int))),(27,.dat (vint (k13:Int)))] [(1,.row 9 1 (List.map zn l12))] ⟨Z,Z,Z,Z,Z,Z,U⟩ ⟨Z,U⟩ Z Z ⟨l12,H,⟨Z,Z,Z,Z,Z,Z,U⟩,⟨Z,U⟩⟩
      ·refine fE h22 H fun H=>zb hN Z (za (vd Z Z) (qe Z (zg _ Z (fun h23 => ?_) (fun h23 => ?_))))
       ·refine tE h23 H fun H=>zt hN Z (za (zi (.row _ _) Z) (za (zi (.row _ _) Z) (zp (y11 qi Z Z) Z (za (ye _ Z Z (.inr (.inl ⟨Z,Z⟩))) (za (x4t Z Z) (gE H fun h24 H=>y7m (y6r (C:=zn) 2 qv Z Z Z h24) Z Z (za (wu (.row _ _) Z) (xx ?_))))))))
        show Cv _ _ _ _
        exact kq (rn [(2,3)]) [(6,.row 2 ((max (wr ((l12.length:Int) - 1)) 0).toNat)),(7,.dat (vlst (List.map zn r10))),(8,.dat (vint (k13:Int))),(25,.dat (vlst (List.map zn r10))),(26,.dat (vint (r10.length:Int))),(27,.dat (vint (k13:Int)))] [(2,.row 9 1 (List.map zn (l12.take (max (wr ((l12.length:Int) - 1)) 0).toNat)))] ⟨Z,Z,Z,Z,Z,Z,U⟩ ⟨Z,U⟩ Z Z ⟨(l12.take (max (wr ((l12.length:Int) - 1)) 0).toNat),H,⟨congrArg (Slot.row 3) ((y42 h24)).symm,Z,Z,Z,Z,Z,U⟩,⟨Z,U⟩⟩
       ·refine fE h23 H fun H=>zb hN Z (za (zi (.row _ _) Z) (qd Z (za (yf (u':=vlst (List.map zn [x16])) (wo [[_]] wz ⟨Z,.inl ⟨_,Z,Z,Z⟩,Z,U⟩ Z Z) Z) (gE H fun h25 H=>zk (ul wz (fun _=>Z) Z Z Z ⟨by simp,by first | (simp; done) | simpa using h25⟩ Z) Z ?_))))
        refine za (wu (.row _ _) Z) (yu ?_)
        show Cv _ _ _ _
        refine xm ?_
        show Cv _ _ _ _
        exact kq (rn [(1,4)]) [(6,.row 1 ((l12++[x16]).length)),(7,.dat (vlst (List.map zn r10))),(25,.dat (vlst (List.map zn r10))),(26,.dat (vint (r10.length:Int))),(27,.dat (vint (k13:Int)))] [(1,.row 9 1 (List.map zn (l12++[x16])))] ⟨Z,Z,Z,Z,Z,U⟩ ⟨Z,U⟩ Z Z ⟨(l12++[x16]),H,⟨Z,Z,Z,Z,Z,U⟩,⟨Z,U⟩⟩
     ·rintro out26 H
      replace H:z4n r10 k13 out26=some q14:=H
      unfold z4n at H
      refine zb hN Z (qd Z (qd Z (za (yo qi Z) (za (ye _ Z Z (.inr (.inl ⟨Z,Z⟩))) (za (yw Z Z) (zg _ Z (fun h27 => ?_) (fun h27 => ?_)))))))
      ·refine tE h27 H fun H=>zt hN Z (za (zi (.row _ _) Z) (za (yf (u':=vlst (List.map zn [[]])) (wo [[_]] wz ⟨Z,.inl ⟨_,Z,Z,Z⟩,Z,U⟩ Z Z) Z) (gE H fun h28 H=>zk (ul wz (fun _=>Z) Z Z Z ⟨by simp,by first | (simp; done) | simpa using h28⟩ Z) Z ?_)))
       refine za (wu (.row _ _) Z) (xx ?_)
       show Cv _ _ _ _
       exact kq (rn [(3,4)]) [(6,.row 3 ((out26++([[]])).length)),(7,.dat (vlst (List.map zn r10))),(25,.dat (vlst (List.map zn r10))),(26,.dat (vint (r10.length:Int))),(27,.dat (vint (k13:Int)))] [(3,.row 9 1 (List.map zn (out26++([[]]))))] ⟨Z,Z,Z,Z,Z,U⟩ ⟨Z,U⟩ Z Z ⟨(out26++([[]])),H,⟨Z,Z,Z,Z,Z,U⟩,⟨Z,U⟩⟩
      ·refine fE h27 H fun H=>zj ?_
       show Cv _ _ _ _
       exact kq (rn [(3,4)]) [(6,.row 3 out26.length),(7,.dat (vlst (List.map zn r10))),(25,.dat (vlst (List.map zn r10))),(26,.dat (vint (r10.length:Int))),(27,.dat (vint (k13:Int)))] [(3,.row 9 1 (List.map zn out26))] ⟨Z,Z,Z,Z,Z,U⟩ ⟨Z,U⟩ Z Z ⟨out26,H,⟨Z,Z,Z,Z,Z,U⟩,⟨Z,U⟩⟩
    ·rintro out29 H
     replace H:z1m out29=some q14:=H
     unfold z1m at H
     refine zt hN Z (za (qo Z Z (by omega)) (qd Z (xx ?_)))
     show Cv _ _ _ _
     exact kq (rn [(4,1)]) [(6,.row 4 out29.length),(7,.dat (vlst (List.map zn r10))),(25,.dat (vlst (List.map zn r10))),(26,.dat (vint (r10.length:Int))),(27,.dat (vint ((k13:Int)+1)))] [(4,.row 9 1 (List.map zn out29))] ⟨Z,Z,Z,Z,Z,U⟩ ⟨Z,U⟩ Z Z ⟨_,yx H,⟨Z,Z,Z,Z,Z,U⟩,⟨Z,U⟩⟩
theorem Zk (n1:Int) (low2:Int) (high3:Int) (r:(Bool)) (H:ub n1 low2 high3=some r):Fn Tryz.prog 59 [vint n1,vint low2,vint high3] (zu [zf r]):=by
 refine ⟨by kernel_rfl,zy (us:=[zf r]) Tryz.func59 Z Z Z Z fun X hN => ?_⟩
 unfold ub at H
 refine zb hN Z (qe Z (zb hN Z (qd Z (qd Z (za (zw Z Z) (qd Z (yg Z Z (fun hc=>zi (.dat _) Z) (yg Z Z (fun hc=>zi (.dat _) Z) (yg Z Z (fun hc=>qc (cnd (c:=(!(decide (n1 < low2)))) hc) (cnd (c:=(!(decide (n1 < low2)))) hc)) (za (ve Z Z (fun hb=>(cnd (c:=(!(decide (n1 < low2)))) (notI hb)))) (qe Z (zh ?_))))))))))))
 cases H
 exact ⟨U,.inl Z,U⟩
theorem x8g (l1:(List vo)) (r:(Int)) (H:y23 l1=some r):Fn Tryz.prog 58 [vlst (List.map jy l1)] (zu [vint r]):=by
 refine ⟨by kernel_rfl,zy (us:=[vint r]) Tryz.func58 Z Z Z Z fun X hN => ?_⟩
 unfold y23 at H
 refine zb hN Z (qe Z (ze (zb hN Z (qd Z (za (yo z0p Z) (za (qc Z Z) (zg _ Z (fun h2 => ?_) (fun h2 => ?_))))))))
 ·refine tE h2 H fun H=>zb hN Z (qe Z (zh ?_))
  cases H
  exact ⟨U,.inl Z,U⟩
 ·refine fE h2 H fun H=>zj (ze (zb hN Z (qd Z (za (yo z0p Z) (qd Z (zx (gE H fun h5 H=>wd (fun (k3:Nat) (s:Unit)=>[(0,.dat (vlst (List.map jy l1))),(8,.dat (vlst (List.map jy l1))),(9,.dat (vint (l1.length:Int))),(10,.dat (vint (k3:Int)))]) (fun (k3:Nat) (s:Unit)=>[]) () H ⟨Z,Z,Z,Z,U⟩ U (fun _ _=>Z) ?_ ?_)))))))
  ·rintro ⟨⟩ H
   replace H:y04=some r:=H
   unfold y04 at H
   refine zb hN Z (za (zw Z Z) (ze (zg _ Z (fun h=>(lt_t h).elim) (fun h => ?_))))
   refine yu (zb hN Z (qe Z (zh ?_)))
   cases H
   exact ⟨U,.inl Z,U⟩
  ·rintro k3 x6 ⟨⟩ q4 h7 h8 H hq4
   replace H:y03 l1 k3 x6=some q4:=H
   unfold y03 at H
   refine zb hN Z (za (zw Z Z) (ze (zg _ Z (fun h => ?_) (fun h=>(lt_f h7 h).elim))))
   refine zj (ze (zx (zb hN Z (qd Z (za (qt z3o (fun _=>Z) Z Z h8) (za (ke z0q Z (yp h8) Z) (zk (qr 1 z7d Z) Z (qe Z (zk (ym z0q Z Z Z Z) Z (zx (zb hN Z (za (zo z7l Z) (zp (zr tyS9 Z Z) Z (bE H fun r9 h10 H=>za (zl (jx x6.Key r9 h10) ⟨.inl Z,U⟩) (za (yt Z) (qe Z (zg _ Z (fun h11 => ?_) (fun h11 => ?_))))))))))))))))))
   ·refine tE h11 H fun H=>zb hN Z (qe Z (zh ?_))
    replace H:=retl H hq4
    cases H
    exact ⟨U,.inl Z,U⟩
   ·refine fE h11 H fun H=>yb (ι:=Bool) (fun i=>[(0,.dat (vlst (List.map jy l1))),(4,.ptr 1 0),(8,.dat (vlst (List.map jy l1))),(9,.dat (vint (l1.length:Int))),(10,.dat (vint (k3:Int))),(20,.dat (zf i))]) (fun i=>[(1,.box none 74 [.dat (vstr x6.Key),.dat (vint x6.Weight)])]) (fun i=>z3c x6 i=some q4) (fun i=>Z) ?_ ?_
    ·skip
     refine wq mixed hN Z Z (qd Z (za (qc Z Z) (qd Z (yc (j:=2) Z Z (fun h12 => ?_) (fun h12 => ?_) Z))))
     ·refine u1 h12 H fun h13 H=>zd Z Z h12 (zo z7l Z) (vn Z Z h12 (zr tyS9 Z Z) Z (zd Z Z h12 (zi (.dat _) Z) (zd Z Z h12 (zi (.dat _) Z) (zd Z Z h12 (z34 Z Z (by omega)) (bE H fun x14 h15 H=>zd Z Z h12 (vq z3o (fun _=>Z) Z Z h15) (zd Z Z h12 (vu z7l Z) (zd Z Z h12 (yi tyS9 Z (yp (ww h15).2) Z) (zd Z Z h12 (z8a Z Z) (za (zz Z (bTT h13) Z) (qe Z ⟨Z,?_⟩))))))))))
      exact ⟨(Op.bytesLess x6.Key x14.Key || x6.Key == x14.Key),H,⟨Z,Z,Z,Z,Z,Z,U⟩,⟨Z,U⟩⟩
     ·refine u2 h12 H fun h16 H=>zc Z Z h12 (zc Z Z h12 (zc Z Z h12 (zc Z Z h12 (zc Z Z h12 (zc Z Z h12 (zc Z Z h12 (zc Z Z h12 (zc Z Z h12 (za (zv Z (bFF h16) Z) (qe Z ⟨Z,?_⟩))))))))))
      exact ⟨false,H,⟨Z,Z,Z,Z,Z,Z,U⟩,⟨Z,U⟩⟩
    ·rintro v17 H
     replace H:z3c x6 v17=some q4:=H
     unfold z3c at H
     refine zg _ Z (fun h18 => ?_) (fun h18 => ?_)
     ·refine tE h18 H fun H=>zb hN Z (qe Z (zh ?_))
      replace H:=retl H hq4
      cases H
      exact ⟨U,.inl Z,U⟩
     ·refine fE h18 H fun H=>zb hN Z (za (zo y1c Z) (zp (zr tyS3 Z Z) Z (bE H fun r19 h20 H=>za (zl (Zk x6.Weight 1 100 r19 h20) ⟨.inl Z,.inl Z,.inl Z,U⟩) (qe Z (zg _ Z (fun h21 => ?_) (fun h21 => ?_))))))
      ·refine tE h21 H fun H=>zb hN Z (qe Z (zh ?_))
       replace H:=retl H hq4
       cases H
       exact ⟨U,.inl Z,U⟩
      ·exact fE h21 H fun H=>zj (zt hN Z (za (qo Z Z (by omega)) (qd Z ⟨_,yx H,⟨Z,Z,Z,Z,U⟩,U⟩)))
theorem x8e (l1:(List vo)) (r:(Int)) (H:y22 l1=some r):Fn Tryz.prog 60 [vlst (List.map jy l1)] (zu [vint r]):=by
 refine ⟨by kernel_rfl,zy (us:=[vint r]) Tryz.func60 Z Z Z Z fun X hN => ?_⟩
 unfold y22 at H
 refine zb hN Z (qe Z (zb hN Z (qe Z (ze (zb hN Z (qd Z (za (yo z0p Z) (qd Z (zx (gE H fun h5 H=>wd (fun (k3:Nat) (s:Int)=>[(3,.dat (vint s)),(6,.dat (vlst (List.map jy l1))),(7,.dat (vint (l1.length:Int))),(8,.dat (vint (k3:Int)))]) (fun (k3:Nat) (s:Int)=>[]) 0 H ⟨Z,Z,Z,Z,U⟩ U (fun _ _=>Z) ?_ ?_))))))))))
 ·rintro sum2 H
  replace H:y0y sum2=some r:=H
  unfold y0y at H
  refine zb hN Z (za (zw Z Z) (ze (zg _ Z (fun h=>(lt_t h).elim) (fun h => ?_))))
  refine yu (zb hN Z (qd Z (qe Z (zh ?_))))
  cases H
  exact ⟨U,.inl Z,U⟩
 ·rintro k3 x6 sum2 q4 h7 h8 H hq4
  replace H:y0x k3 x6 sum2=some q4:=H
  unfold y0x at H
  refine zb hN Z (za (zw Z Z) (ze (zg _ Z (fun h => ?_) (fun h=>(lt_f h7 h).elim))))
  exact zj (ze (zx (zb hN Z (za (qt z3o (fun _=>Z) Z Z h8) (za (ke z0q Z (yp h8) Z) (zk (qr 1 z7d Z) Z (zk (ym z0q Z Z Z Z) Z (zt hN Z (qd Z (za (zo y1c Z) (zp (zr tyS3 Z Z) Z (za (ye _ Z Z (.inl ⟨Z,Z⟩)) (qe Z (zt hN Z (za (qo Z Z (by omega)) (qd Z ⟨_,yx H,⟨Z,Z,Z,Z,U⟩,U⟩))))))))))))))))
theorem x8f (v1:(List vo)) (v2:Int) (r:((List Bs)×Int)) (H:z87 v1 v2=some r):Fn Tryz.prog 25 [vlst (List.map jy v1),vint v2] (zu [vlst (List.map zn r.1),vint r.2]):=by
 refine ⟨by kernel_rfl,zy (us:=[vlst (List.map zn r.1),vint r.2]) Tryz.func25 Z Z Z Z fun X hN => ?_⟩
 unfold z87 at H
 refine zb hN Z (qe Z (qe Z (ze (zb hN Z (qd Z (bE H fun r3 h4 H=>za (zl (x8g v1 r3 h4) ⟨.inl Z,U⟩) (qe Z (zb hN Z (qd Z (za (ql Z Z) (zg _ Z (fun h5 => ?_) (fun h5 => ?_))))))))))))
 ·refine tE h5 H fun H=>zb hN Z (qd Z (qe Z (qe Z (zh ?_))))
  cases H
  exact ⟨U,.inr ⟨Z,Z⟩,.inl Z,U⟩
 ·refine fE h5 H fun H=>zj (ze (zb hN Z (qd Z (bE H fun r6 h7 H=>za (zl (Zk v2 0 2000 r6 h7) ⟨.inl Z,.inl Z,.inl Z,U⟩) (zg _ Z (fun h8 => ?_) (fun h8 => ?_))))))
  ·refine tE h8 H fun H=>zb hN Z (qe Z (qe Z (zh ?_)))
   cases H
   exact ⟨U,.inr ⟨Z,Z⟩,.inl Z,U⟩
  ·refine fE h8 H fun H=>zj (ze (zb hN Z (qd Z (za (yo z0p Z) (za (yw Z Z) (zg _ Z (fun h9 => ?_) (fun h9 => ?_)))))))
   ·refine tE h9 H fun H=>zb hN Z (qe Z (qe Z (zh ?_)))
    cases H
    exact ⟨U,.inr ⟨Z,Z⟩,.inl Z,U⟩
   ·refine fE h9 H fun H=>zj (zb hN Z (qd Z (za (yo z0p Z) (gE H fun h10 H=>zk (x33 (C:=uu) 1 0 y1a tyZ3 Z Z Z Z h10 Z) Z (za (wu (.row _ _) Z) (zb hN Z (qd Z (bE H fun r11 h12 H=>za (zl (x8e v1 r11 h12) ⟨.inl Z,U⟩) (qe Z (zb hN Z (qe Z (ze (zb hN Z (qd Z (qd Z (zx (xn 9 2 9 1 Z Z Z (gE H fun h17 H=>Yy (fun (k15:Nat) (s:(List Int)×(List Bs))=>[(0,.dat (vlst (List.map jy v1))),(7,.row 1 s.1.length),(8,.dat (vint r11)),(9,.row 2 s.2.length),(28,.dat (vint v2)),(29,.dat (vint (k15:Int)))]) (fun (k15:Nat) (s:(List Int)×(List Bs))=>[(1,.row 3 1 (List.map uu s.1)),(2,.row 9 1 (List.map zn s.2))]) ((List.replicate v1.length 0),[]) H ⟨Z,congrArg (Slot.row 1) (by simp),Z,Z,Z,Z,U⟩ ⟨Z,Z,U⟩ (fun _ _=>Z) ?_ ?_))))))))))))))))))
    ·rintro ⟨l13,l14⟩ H
     replace H:y02 l13 l14=some r:=H
     unfold y02 at H
     refine zb hN Z (za (zw Z Z) (ze (zg _ Z (fun h=>(z9o h).elim) (fun h => ?_))))
     refine yu (zb hN Z (za (zi (.row _ _) Z) (za (wu (.row _ _) Z) (qe Z (zh ?_)))))
     cases H
     exact ⟨U,Qq Z Z,.inl Z,U⟩
    ·rintro k15 ⟨l13,l14⟩ q16 h18 H hq16
     replace H:y00 v1 r11 k15 l13 l14=some q16:=H
     unfold y00 at H
     refine zb hN Z (za (zw Z Z) (ze (zg _ Z (fun h => ?_) (fun h=>(z9p h18 h).elim))))
     refine zj (ze (zx (zb hN Z (qe Z (ze (zb hN Z (qd Z (za (yo z0p Z) (qd Z (zx (gE H fun h23 H=>wd (fun (k21:Nat) (s:Int×(List Int))=>[(0,.dat (vlst (List.map jy v1))),(7,.row 1 s.2.length),(8,.dat (vint r11)),(9,.row 2 l14.length),(10,.dat (vint s.1)),(28,.dat (vint v2)),(29,.dat (vint (k15:Int))),(31,.dat (vlst (List.map jy v1))),(32,.dat (vint (v1.length:Int))),(33,.dat (vint (k21:Int)))]) (fun (k21:Nat) (s:Int×(List Int))=>[(1,.row 3 1 (List.map uu s.2)),(2,.row 9 1 (List.map zn l14))]) (0,l13) H ⟨Z,Z,Z,Z,Z,Z,Z,Z,Z,Z,U⟩ ⟨Z,Z,U⟩ (fun _ _=>Z) ?_ ?_)))))))))))
     ·rintro ⟨v19,l20⟩ H
      replace H:y01 v1 r11 l14 v19 l20=some q16:=H
      unfold y01 at H
      refine zb hN Z (za (zw Z Z) (ze (zg _ Z (fun h=>(lt_t h).elim) (fun h => ?_))))
      refine yu (zb hN Z (za (zi (.row _ _) Z) (qd Z (bE H fun x25 h26 H=>zp (z3w Zx Z Z Z h26) Z (zp (z04 tyS3 Z Z (ww h26).2 Z) Z (qd Z (za (ye _ Z Z (.inr (.inl ⟨Z,Z⟩))) (zp (z3w Zx Z Z Z h26) Z (zk (z78 (wr (x25 - r11)) tyS3 Z Z Z Z (ww h26).2 Z Z) Z (zt hN Z (za (zi (.row _ _) Z) (qd Z (qd Z (bE H fun x27 h28 H=>za (vq z3o (fun _=>Z) Z Z h28) (za (vu z7l Z) (za (yi tyS9 Z (yp (ww h28).2) Z) (za (yf (u':=vlst (List.map zn [x27.Key])) (wo [[_]] wz ⟨Z,.inl ⟨_,Z,Z,Z⟩,Z,U⟩ Z Z) Z) (gE H fun h29 H=>zk (ul wz (fun _=>Z) Z Z Z ⟨by simp,by first | (simp; done) | simpa using h29⟩ Z) Z ?_))))))))))))))))))
      exact za (wu (.row _ _) Z) (zt hN Z (za (qo Z Z (by omega)) (qd Z ⟨_,yx H,⟨Z,congrArg (Slot.row 1) (by simp),Z,Z,Z,Z,U⟩,⟨Z,Z,U⟩⟩)))
     ·rintro k21 x24 ⟨v19,l20⟩ q22 h30 h31 H hq22
      replace H:y0z k21 x24 v19 l20=some q22:=H
      unfold y0z at H
      refine zb hN Z (za (zw Z Z) (ze (zg _ Z (fun h => ?_) (fun h=>(lt_f h30 h).elim))))
      refine zj (yb (ι:=Int×(List Int)) (fun i=>[(0,.dat (vlst (List.map jy v1))),(7,.row 1 i.2.length),(8,.dat (vint r11)),(9,.row 2 l14.length),(10,.dat (vint i.1)),(28,.dat (vint v2)),(29,.dat (vint (k15:Int))),(31,.dat (vlst (List.map jy v1))),(32,.dat (vint (v1.length:Int))),(33,.dat (vint (k21:Int)))]) (fun i=>[(1,.row 3 1 (List.map uu i.2)),(2,.row 9 1 (List.map zn l14))]) (fun i=>z3b i.1 i.2=some q22) (fun i=>Z) ?_ ?_)
      ·skip
       refine zx (zb hN Z (qd Z (za (qt z3o (fun _=>Z) Z Z h31) (za (ke z0q Z (yp h31) Z) (zk (qr 3 z7d Z) Z (qe Z (zk (ym z0q Z Z Z Z) Z (ze (wq mixed hN Z Z (za (zi (.row _ _) Z) (qd Z (bE H fun x32 h33 H=>zp (z3x Zx Z Z Z h33) Z (zp (z04 tyS3 Z Z h33 Z) Z (za (zo y1c Z) (zp (zr tyS3 Z Z) Z (za (ye _ Z Z (.inl ⟨Z,Z⟩)) (zp (z3x Zx Z Z Z h33) Z (zk (z78 (wr (x32+x24.Weight)) tyS3 Z Z Z Z h33 Z Z) Z ⟨Z,?_⟩))))))))))))))))))
       refine ze (wq mixed hN Z Z (za (zi (.row _ _) Z) (qd Z (bE H fun x34 h35 H=>zp (z3x Zx Z (by simp) Z h35) Z (zp (z04 tyS3 Z (by simp) h35 Z) Z (za (zi (.row _ _) Z) (qd Z (bE H fun x36 h37 H=>zp (z3w Zx Z (by simp) Z h37) Z (zp (z04 tyS3 Z (by simp) (ww h37).2 Z) Z (za (qc Z Z) ⟨Z,?_⟩))))))))))
       refine zg _ Z (fun h38 => ?_) (fun h38 => ?_)
       ·exact tE h38 H fun H=>zt hN Z (qd Z (qe Z ⟨((k21:Int),(l20.set k21 (wr (x32+x24.Weight)))),H,⟨Z,congrArg (Slot.row 1) (by simp),Z,Z,Z,Z,Z,Z,Z,Z,U⟩,⟨Z,Z,U⟩⟩))
       ·exact fE h38 H fun H=>zj ⟨(v19,(l20.set k21 (wr (x32+x24.Weight)))),H,⟨Z,congrArg (Slot.row 1) (by simp),Z,Z,Z,Z,Z,Z,Z,Z,U⟩,⟨Z,Z,U⟩⟩
      ·rintro ⟨v39,v40⟩ H
       replace H:z3b v39 v40=some q22:=H
       unfold z3b at H
       exact zt hN Z (za (qo Z Z (by omega)) (qd Z ⟨_,yx H,⟨Z,Z,Z,Z,Z,Z,Z,Z,Z,Z,U⟩,⟨Z,Z,U⟩⟩))
theorem x9y (c1:Int) (r:(Bool)) (H:z5j c1=some r):Fn Tryz.prog 112 [vval (.int .u8 c1)] (zu [zf r]):=by
 refine ⟨by kernel_rfl,zy (us:=[zf r]) Tryz.func112 Z Z Z Z fun X hN => ?_⟩
 unfold z5j at H
 refine zb hN Z (qe Z (yb (ι:=Bool) (fun i=>[(2,.dat (zf i))]) (fun i=>[]) (fun i=>z1f i=some r) (fun i=>Z) ?_ ?_))
 ·skip
  refine zt hN Z (qd Z (bE H fun r2 h3 H=>za (zl (y38 c1 r2 h3) ⟨.inl Z,U⟩) (qd Z (yc (j:=2) Z Z (fun h4 => ?_) (fun h4 => ?_) Z))))
  ·refine u3 h4 H fun h5 H=>zd Z Z h4 (zi (.dat _) Z) (bE H fun r6 h7 H=>zd Z Z h4 (zl (z90 c1 r6 h7) ⟨.inl Z,U⟩) (za (zv Z (bFF h5) Z) (qd Z (yc (j:=6) Z Z (fun h8 => ?_) (fun h8 => ?_) Z))))
   ·exact u3 h8 H fun h9 H=>zd Z Z h8 (zi (.dat _) Z) (bE H fun r10 h11 H=>zd Z Z h8 (zl (y32 [33,35,36,37,38,39,42,43,45,46,94,95,96,124,126] c1 r10 h11) ⟨.inl Z,.inl Z,U⟩) (zd Z Z h8 (wy Z Z) (za (zv Z (bFF h9) Z) (qe Z ⟨decide (0≤r10),H,⟨Z,U⟩,U⟩))))
   ·exact u4 h8 H fun h12 H=>zc Z Z h8 (zc Z Z h8 (zc Z Z h8 (za (zz Z (bTT h12) Z) (qe Z ⟨true,H,⟨Z,U⟩,U⟩))))
  ·exact u4 h4 H fun h13 H=>zc Z Z h4 (zc Z Z h4 (za (zz Z (bTT h13) Z) (qd Z (zc Z Z Z (zc Z Z Z (zc Z Z Z (za (zz Z Z Z) (qe Z ⟨true,H,⟨Z,U⟩,U⟩))))))))
 ·rintro v14 H
  replace H:z1f v14=some r:=H
  unfold z1f at H
  refine zh ?_
  cases H
  exact ⟨U,.inl Z,U⟩
theorem z92 (s1:Bs) (r:(Bool)) (H:Yo s1=some r):Fn Tryz.prog 73 [vstr s1] (zu [zf r]):=by
 refine ⟨by kernel_rfl,zy (us:=[zf r]) Tryz.func73 Z Z Z Z fun X hN => ?_⟩
 unfold Yo at H
 refine zb hN Z (qe Z (ze (zb hN Z (qd Z (za (qj tyU9 Z) (qd Z (zx (gE H fun h4 H=>wd (fun (k2:Nat) (s:Unit)=>[(0,.dat (vstr s1)),(5,.dat (vint (s1.length:Int))),(6,.dat (vint (k2:Int)))]) (fun (k2:Nat) (s:Unit)=>[]) () H ⟨Z,Z,Z,U⟩ U (fun _ _=>Z) ?_ ?_))))))))
 ·rintro ⟨⟩ H
  replace H:y20 s1=some r:=H
  unfold y20 at H
  refine zb hN Z (za (zw Z Z) (ze (zg _ Z (fun h=>(lt_t h).elim) (fun h => ?_))))
  refine yu (zb hN Z (qd Z (za (js Z Z) (qd Z (qa Z Z (fun hc=>zi (.dat _) Z) (qa Z Z (fun hc=>qj tyU9 (cnd (c:=(decide (s1≠[]))) hc)) (qa Z Z (fun hc=>vf (cnd (c:=(decide (s1≠[]))) hc) Z) (za (wx Z (fun hb=>(cnd (c:=(decide (s1≠[]))) hb)) Z) (qe Z (zh ?_))))))))))
  cases H
  exact ⟨U,.inl Z,U⟩
 ·rintro k2 x5 ⟨⟩ q3 h6 h7 H hq3
  replace H:z84 k2 x5=some q3:=H
  unfold z84 at H
  refine zb hN Z (za (zw Z Z) (ze (zg _ Z (fun h => ?_) (fun h=>(lt_f h6 h).elim))))
  refine zj (ze (zx (zb hN Z (qd Z (qe Z (zb hN Z (qd Z (qd Z (za (wg tyU9 Z Z h7) (bE H fun r8 h9 H=>za (zl (x9y (x5.toNat:Int) r8 h9) ⟨.inl Z,U⟩) (za (yt Z) (zg _ Z (fun h10 => ?_) (fun h10 => ?_)))))))))))))
  ·refine tE h10 H fun H=>zb hN Z (qe Z (zh ?_))
   replace H:=retl H hq3
   cases H
   exact ⟨U,.inl Z,U⟩
  ·exact fE h10 H fun H=>zj (zt hN Z (za (qo Z Z (by omega)) (qd Z ⟨_,yx H,⟨Z,Z,Z,U⟩,U⟩)))
theorem x9c (s1:Bs) (c2:Int) (r:(Bs)) (H:Yj s1 c2=some r):Fn Tryz.prog 164 [vstr s1,vval (.int .u8 c2)] (zu [vstr r]):=by
 refine ⟨by kernel_rfl,zy (us:=[vstr r]) Tryz.func164 Z Z Z Z fun X hN => ?_⟩
 unfold Yj at H
 refine zb hN Z (qe Z (yb (ι:=Bs) (fun i=>[(0,.dat (vstr i))]) (fun i=>[]) (fun i=>z30 i=some r) (fun i=>Z) ?_ ?_))
 ·skip
  refine zx (Zr (fun (s:Bs)=>[(0,.dat (vstr s)),(1,.dat (vval (.int .u8 c2)))]) (fun (s:Bs)=>[]) s1 H ⟨Z,Z,U⟩ U (fun _=>Z) ?_)
  rintro s3 q4 H hq4
  replace H:z3z c2 s3=some q4:=H
  unfold z3z at H
  refine ze (yb (ι:=Bool) (fun i=>[(0,.dat (vstr s3)),(1,.dat (vval (.int .u8 c2))),(16,.dat (zf i))]) (fun i=>[]) (fun i=>Qr s3 i=some q4) (fun i=>Z) ?_ ?_)
  ·skip
   refine zt hN Z (qd Z (za (qj tyU9 Z) (za (qc Z Z) (qd Z (yc (j:=3) Z Z (fun h5 => ?_) (fun h5 => ?_) Z)))))
   ·exact u1 h5 H fun h6 H=>zd Z Z h5 (zi (.dat _) Z) (zd Z Z h5 (zi (.dat _) Z) (zd Z Z h5 (qj tyU9 Z) (zd Z Z h5 (ye _ Z Z (.inr (.inl ⟨Z,Z⟩))) (bE H fun x7 h8 H=>zd Z Z h5 (ka tyU9 Z Z h8) (zd Z Z h5 (zi (.dat _) Z) (zd Z Z h5 (yw Z Z) (za (zz Z (bTT h6) Z) ⟨decide ((x7.toNat:Int)=c2),H,⟨Z,Z,Z,U⟩,U⟩)))))))
   ·exact u2 h5 H fun h9 H=>zc Z Z h5 (zc Z Z h5 (zc Z Z h5 (zc Z Z h5 (zc Z Z h5 (zc Z Z h5 (zc Z Z h5 (za (zv Z (bFF h9) Z) ⟨false,H,⟨Z,Z,Z,U⟩,U⟩)))))))
  ·rintro v10 H
   replace H:Qr s3 v10=some q4:=H
   unfold Qr at H
   refine zg _ Z (fun h11 => ?_) (fun h11 => ?_)
   ·exact tE h11 H fun H=>zj (zx (zt hN Z (qd Z (qd Z (za (qj tyU9 Z) (za (ye _ Z Z (.inr (.inl ⟨Z,Z⟩))) (bE H fun l12 h13 H=>za (ji tyU9 Z Z Z h13) (qe Z ⟨_,yx H,⟨Z,Z,U⟩,U⟩))))))))
   ·refine fE h11 H fun H=>yu ?_
    replace H:=outl H hq4
    exact ⟨s3,H,⟨Z,U⟩,U⟩
 ·rintro s14 H
  replace H:z30 s14=some r:=H
  unfold z30 at H
  refine zb hN Z (qd Z (qe Z (zh ?_)))
  cases H
  exact ⟨U,.inl Z,U⟩
theorem x9d (s1:Bs) (c2:Int) (r:(Bs)) (H:Wm s1 c2=some r):Fn Tryz.prog 163 [vstr s1,vval (.int .u8 c2)] (zu [vstr r]):=by
 refine ⟨by kernel_rfl,zy (us:=[vstr r]) Tryz.func163 Z Z Z Z fun X hN => ?_⟩
 unfold Wm at H
 refine zb hN Z (qe Z (yb (ι:=Bs) (fun i=>[(0,.dat (vstr i))]) (fun i=>[]) (fun i=>z33 i=some r) (fun i=>Z) ?_ ?_))
 ·skip
  refine zx (Zr (fun (s:Bs)=>[(0,.dat (vstr s)),(1,.dat (vval (.int .u8 c2)))]) (fun (s:Bs)=>[]) s1 H ⟨Z,Z,U⟩ U (fun _=>Z) ?_)
  rintro s3 q4 H hq4
  replace H:z32 c2 s3=some q4:=H
  unfold z32 at H
  refine ze (yb (ι:=Bool) (fun i=>[(0,.dat (vstr s3)),(1,.dat (vval (.int .u8 c2))),(13,.dat (zf i))]) (fun i=>[]) (fun i=>Qs s3 i=some q4) (fun i=>Z) ?_ ?_)
  ·skip
   refine zt hN Z (qd Z (za (qj tyU9 Z) (za (qc Z Z) (qd Z (yc (j:=3) Z Z (fun h5 => ?_) (fun h5 => ?_) Z)))))
   ·exact u1 h5 H fun h6 H=>zd Z Z h5 (zi (.dat _) Z) (bE H fun x7 h8 H=>zd Z Z h5 (wg tyU9 Z Z h8) (zd Z Z h5 (zi (.dat _) Z) (zd Z Z h5 (yw Z Z) (za (zz Z (bTT h6) Z) ⟨decide ((x7.toNat:Int)=c2),H,⟨Z,Z,Z,U⟩,U⟩))))
   ·exact u2 h5 H fun h9 H=>zc Z Z h5 (zc Z Z h5 (zc Z Z h5 (zc Z Z h5 (za (zv Z (bFF h9) Z) ⟨false,H,⟨Z,Z,Z,U⟩,U⟩))))
  ·rintro v10 H
   replace H:Qs s3 v10=some q4:=H
   unfold Qs at H
   refine zg _ Z (fun h11 => ?_) (fun h11 => ?_)
   ·exact tE h11 H fun H=>zj (zx (zt hN Z (qd Z (bE H fun l12 h13 H=>za (ji tyU9 Z Z Z h13) (qe Z ⟨_,yx H,⟨Z,Z,U⟩,U⟩)))))
   ·refine fE h11 H fun H=>yu ?_
    replace H:=outl H hq4
    exact ⟨s3,H,⟨Z,U⟩,U⟩
 ·rintro s14 H
  replace H:z33 s14=some r:=H
  unfold z33 at H
  refine zb hN Z (qd Z (qe Z (zh ?_)))
  cases H
  exact ⟨U,.inl Z,U⟩
theorem y30 (s1:Bs) (cutset2:Bs) (r:(Bs)) (H:Wn s1 cutset2=some r):Fn Tryz.prog 117 [vstr s1,vstr cutset2] (zu [vstr r]):=by
 refine ⟨by kernel_rfl,zy (us:=[vstr r]) Tryz.func117 Z Z Z Z fun X hN => ?_⟩
 unfold Wn at H
 refine zb hN Z (qe Z (ze (zb hN Z (qd Z (za (vd Z Z) (qd Z (yg Z Z (fun hc=>zi (.dat _) Z) (yg Z Z (fun hc=>vd (cnd (c:=(!(decide (s1=[])))) hc) Z) (za (ve Z Z (fun hb=>(cnd (c:=(!(decide (s1=[])))) (notI hb)))) (zg _ Z (fun h3 => ?_) (fun h3 => ?_)))))))))))
 ·refine tE h3 H fun H=>zb hN Z (qd Z (qe Z (zh ?_)))
  cases H
  exact ⟨U,.inl Z,U⟩
 ·refine fE h3 H fun H=>zj (ze (yb (ι:=Bool) (fun i=>[(0,.dat (vstr s1)),(1,.dat (vstr cutset2)),(21,.dat (zf i))]) (fun i=>[]) (fun i=>z06 s1 cutset2 i=some r) (fun i=>Z) ?_ ?_))
  ·skip
   refine zt hN Z (qd Z (za (qj tyU9 Z) (za (yw Z Z) (qd Z (yc (j:=3) Z Z (fun h4 => ?_) (fun h4 => ?_) Z)))))
   ·exact u1 h4 H fun h5 H=>zd Z Z h4 (zi (.dat _) Z) (bE H fun x6 h7 H=>zd Z Z h4 (wg tyU9 Z Z h7) (zd Z Z h4 (zw Z Z) (za (zz Z (bTT h5) Z) ⟨decide ((x6.toNat:Int) < 128),H,⟨Z,Z,Z,U⟩,U⟩)))
   ·exact u2 h4 H fun h8 H=>zc Z Z h4 (zc Z Z h4 (zc Z Z h4 (za (zv Z (bFF h8) Z) ⟨false,H,⟨Z,Z,Z,U⟩,U⟩)))
  ·rintro v9 H
   replace H:z06 s1 cutset2 v9=some r:=H
   unfold z06 at H
   refine zg _ Z (fun h10 => ?_) (fun h10 => ?_)
   ·refine tE h10 H fun H=>ze (wq mixed hN Z Z (qd Z (qd Z (bE H fun x11 h12 H=>za (wg tyU9 Z Z h12) (bE H fun r13 h14 H=>za (zl (x9c s1 (x11.toNat:Int) r13 h14) ⟨.inl Z,.inl Z,U⟩) (qd Z (za (wg tyU9 Z Z h12) (bE H fun r15 h16 H=>za (zl (x9d r13 (x11.toNat:Int) r15 h16) ⟨.inl Z,.inl Z,U⟩) (qe Z ⟨Z,?_⟩)))))))))
    refine zh ?_
    cases H
    exact ⟨U,.inl Z,U⟩
   ·refine fE h10 H fun H=>?_
    cases H
theorem y9c (s1:Bs) (r:(Bool)) (H:Wx s1=some r):Fn Tryz.prog 76 [vstr s1] (zu [zf r]):=by
 refine ⟨by kernel_rfl,zy (us:=[zf r]) Tryz.func76 Z Z Z Z fun X hN => ?_⟩
 unfold Wx at H
 refine zb hN Z (qe Z (yb (ι:=Bool) (fun i=>[(2,.dat (zf i))]) (fun i=>[]) (fun i=>Wj i=some r) (fun i=>Z) ?_ ?_))
 ·skip
  refine zt hN Z (qd Z (za (qj tyU9 Z) (za (vf Z Z) (qd Z (yc (j:=3) Z Z (fun h2 => ?_) (fun h2 => ?_) Z)))))
  ·refine u1 h2 H fun h3 H=>zd Z Z h2 (zi (.dat _) Z) (bE H fun r4 h5 H=>zd Z Z h2 (zl (y37 s1 32 126 r4 h5) ⟨.inl Z,.inl Z,.inl Z,U⟩) (za (zz Z (bTT h3) Z) (qd Z (yc (j:=7) Z Z (fun h6 => ?_) (fun h6 => ?_) Z))))
   ·exact u1 h6 H fun h7 H=>zd Z Z h6 (zi (.dat _) Z) (bE H fun r8 h9 H=>zd Z Z h6 (zl (y30 s1 [32] r8 h9) ⟨.inl Z,.inl Z,U⟩) (zd Z Z h6 (zi (.dat _) Z) (zd Z Z h6 (vd Z Z) (za (zz Z (bTT h7) Z) (qe Z ⟨decide (r8=s1),H,⟨Z,U⟩,U⟩)))))
   ·exact u2 h6 H fun h10 H=>zc Z Z h6 (zc Z Z h6 (zc Z Z h6 (zc Z Z h6 (za (zv Z (bFF h10) Z) (qe Z ⟨false,H,⟨Z,U⟩,U⟩)))))
  ·exact u2 h2 H fun h11 H=>zc Z Z h2 (zc Z Z h2 (za (zv Z (bFF h11) Z) (qd Z (zc Z Z Z (zc Z Z Z (zc Z Z Z (zc Z Z Z (za (zv Z Z Z) (qe Z ⟨false,H,⟨Z,U⟩,U⟩)))))))))
 ·rintro v12 H
  replace H:Wj v12=some r:=H
  unfold Wj at H
  refine zh ?_
  cases H
  exact ⟨U,.inl Z,U⟩
theorem y9d (l1:(List yj)) (r:(Int)) (H:z10 l1=some r):Fn Tryz.prog 77 [vlst (List.map jq l1)] (zu [vint r]):=by
 refine ⟨by kernel_rfl,zy (us:=[vint r]) Tryz.func77 Z Z Z Z fun X hN => ?_⟩
 unfold z10 at H
 refine zb hN Z (qe Z (ze (zb hN Z (qd Z (za (yo y06 Z) (za (qc Z Z) (zg _ Z (fun h2 => ?_) (fun h2 => ?_))))))))
 ·refine tE h2 H fun H=>zb hN Z (qe Z (zh ?_))
  cases H
  exact ⟨U,.inl Z,U⟩
 ·refine fE h2 H fun H=>zj (ze (zb hN Z (qd Z (za (yo y06 Z) (qd Z (zx (gE H fun h5 H=>wd (fun (k3:Nat) (s:Unit)=>[(8,.dat (vlst (List.map jq l1))),(9,.dat (vint (l1.length:Int))),(10,.dat (vint (k3:Int)))]) (fun (k3:Nat) (s:Unit)=>[]) () H ⟨Z,Z,Z,U⟩ U (fun _ _=>Z) ?_ ?_)))))))
  ·rintro ⟨⟩ H
   replace H:z86=some r:=H
   unfold z86 at H
   refine zb hN Z (za (zw Z Z) (ze (zg _ Z (fun h=>(lt_t h).elim) (fun h => ?_))))
   refine yu (zb hN Z (qe Z (zh ?_)))
   cases H
   exact ⟨U,.inl Z,U⟩
  ·rintro k3 x6 ⟨⟩ q4 h7 h8 H hq4
   replace H:z85 k3 x6=some q4:=H
   unfold z85 at H
   refine zb hN Z (za (zw Z Z) (ze (zg _ Z (fun h => ?_) (fun h=>(lt_f h7 h).elim))))
   refine zj (ze (zx (zb hN Z (za (qt y6h (fun _=>Z) Z Z h8) (za (ke z3f Z (yp h8) Z) (zk (qr 1 z7e Z) Z (zk (ym z3f Z Z Z Z) Z (ze (zb hN Z (za (zo y54 Z) (zp (zr tyS9 Z Z) Z (bE H fun r9 h10 H=>za (zl (z92 x6.Name r9 h10) ⟨.inl Z,U⟩) (za (yt Z) (zg _ Z (fun h11 => ?_) (fun h11 => ?_)))))))))))))))
   ·refine tE h11 H fun H=>zb hN Z (qe Z (zh ?_))
    replace H:=retl H hq4
    cases H
    exact ⟨U,.inl Z,U⟩
   ·refine fE h11 H fun H=>zj (zb hN Z (za (zo y53 Z) (zp (zr tyS9 Z Z) Z (bE H fun r12 h13 H=>za (zl (y9c x6.Value r12 h13) ⟨.inl Z,U⟩) (za (yt Z) (zg _ Z (fun h14 => ?_) (fun h14 => ?_)))))))
    ·refine tE h14 H fun H=>zb hN Z (qe Z (zh ?_))
     replace H:=retl H hq4
     cases H
     exact ⟨U,.inl Z,U⟩
    ·exact fE h14 H fun H=>zj (zt hN Z (za (qo Z Z (by omega)) (qd Z ⟨_,yx H,⟨Z,Z,Z,U⟩,U⟩)))
theorem x95 (a1:kl) (r:(Int)) (H:z5m a1=some r):Fn Tryz.prog 61 [vagg (y0s a1)] (zu [vint r]):=by
 refine ⟨by kernel_rfl,zy (us:=[vint r]) Tryz.func61 Z Z Z Z fun X hN => ?_⟩
 unfold z5m at H
 refine zb hN Z (zk (vr 1 Z) Z (qe Z (ze (zb hN Z (za (zo x2y Z) (zp (zr tyS3 Z Z) Z (bE H fun r2 h3 H=>za (zl (Zk a1.Status 100 599 r2 h3) ⟨.inl Z,.inl Z,.inl Z,U⟩) (zg _ Z (fun h4 => ?_) (fun h4 => ?_)))))))))
 ·refine tE h4 H fun H=>zb hN Z (qe Z (zh ?_))
  cases H
  exact ⟨U,.inl Z,U⟩
 ·refine fE h4 H fun H=>zj (ze (zb hN Z (za (zo y1b Z) (zp (zr z0r Z Z) Z (bE H fun r5 h6 H=>za (zl (y9d a1.Headers r5 h6) ⟨.inl Z,U⟩) (qe Z (zb hN Z (qd Z (za (ql Z Z) (zg _ Z (fun h7 => ?_) (fun h7 => ?_)))))))))))
  ·refine tE h7 H fun H=>zb hN Z (qd Z (qe Z (zh ?_)))
   cases H
   exact ⟨U,.inl Z,U⟩
  ·refine fE h7 H fun H=>zj (ze (zb hN Z (za (zo x2x Z) (zp (zr tyS9 Z Z) Z (za (qj tyU9 Z) (za (qc Z Z) (zg _ Z (fun h8 => ?_) (fun h8 => ?_))))))))
   ·refine tE h8 H fun H=>zb hN Z (qe Z (zh ?_))
    cases H
    exact ⟨U,.inl Z,U⟩
   ·refine fE h8 H fun H=>zj (zb hN Z (qe Z (zh ?_)))
    cases H
    exact ⟨U,.inl Z,U⟩
theorem y9n (qb:Nat) (r:((List Bs)×(List Int))) (H:z52  = some r):Fn Tryz.prog 98 [vval (.pointer (some ⟨qb,0,none⟩))] (zu [vlst (List.map zn r.1),vlst (List.map (CP qb) r.2)]):=by
 refine ⟨by kernel_rfl,zy (us:=[vlst (List.map zn r.1),vlst (List.map (CP qb) r.2)]) Tryz.func98 Z Z Z Z fun X hN => ?_⟩
 unfold z52 at H
 refine zb hN Z (qe Z (qe Z (ze (wq mixed hN Z Z (za (yf (u':=vlst (List.map zn [[109,97,120,45,97,103,101],[115,45,109,97,120,97,103,101],[115,116,97,108,101,45,119,104,105,108,101,45,114,101,118,97,108,105,100,97,116,101],[115,116,97,108,101,45,105,102,45,101,114,114,111,114],[109,97,120,45,115,116,97,108,101],[109,105,110,45,102,114,101,115,104]])) (wo [[_],[_],[_],[_],[_],[_]] wz ⟨Z,.inl ⟨_,Z,Z,Z⟩,Z,Z,.inl ⟨_,Z,Z,Z⟩,Z,Z,.inl ⟨_,Z,Z,Z⟩,Z,Z,.inl ⟨_,Z,Z,Z⟩,Z,Z,.inl ⟨_,Z,Z,Z⟩,Z,Z,.inl ⟨_,Z,Z,Z⟩,Z,U⟩ Z Z) Z) (qd Z (za (kw Z) (za (kx y1n Z) (qd Z (za (kw Z) (za (kx y1m Z) (qd Z (za (kw Z) (za (kx x3d Z) (qd Z (za (kw Z) (za (kx x3c Z) (qd Z (za (kw Z) (za (kx x3j Z) (qd Z (za (kw Z) (za (kx x3i Z) ?_)))))))))))))))))))))))
 refine za (yf (u':=vlst (List.map (CP qb) ([6,7,8,9,10,11]:List Int))) (wo [[_],[_],[_],[_],[_],[_]] x2v ⟨Z,.inl ⟨_,Z,Z,Z⟩,Z,Z,.inl ⟨_,Z,Z,Z⟩,Z,Z,.inl ⟨_,Z,Z,Z⟩,Z,Z,.inl ⟨_,Z,Z,Z⟩,Z,Z,.inl ⟨_,Z,Z,Z⟩,Z,Z,.inl ⟨_,Z,Z,Z⟩,Z,U⟩ Z Z) Z) (qe Z (qe Z ⟨Z,?_⟩))
 refine zh ?_
 cases H
 exact ⟨U,.inl Z,.inl Z,U⟩
theorem x9h (s t:Bs) (r:Bool) (H:z9b s t=some r):Fn Tryz.prog 118 [vstr s,vstr t] (zu [zf r]):=by
 unfold z9b at H
 obtain ⟨⟨h1,h2,h3⟩,h4⟩:=gif H
 cases h4
 refine uq (by kernel_rfl) fun M w vs hM h => ?_
 have hv:=jw (us:=[.string ⟨s.toArray⟩,.string ⟨t.toArray⟩]) h
 subst hv
 refine (Tryz.strings_EqualFold ⟨s.toArray⟩ ⟨t.toArray⟩ w (by simp [ByteArray.size]; omega) (fun j b hb=>z26 h2 j b (by simpa using hb)) (fun j b hb=>z26 h3 j b (by simpa using hb))).mono ?_
 rintro e w' ⟨rfl,rfl⟩
 exact ⟨_,Z,Z,Kp.refl _ _⟩

theorem x9z (h1:yj) (name2:Bs) (r:(Bool)) (H:z5k h1 name2=some r):Fn Tryz.prog 78 [vagg (jq h1),vstr name2] (zu [zf r]):=by
 refine ⟨by kernel_rfl,zy (us:=[zf r]) Tryz.func78 Z Z Z Z fun X hN => ?_⟩
 unfold z5k at H
 refine zb hN Z (zk (vr 1 Z) Z (qe Z (zb hN Z (za (zo y54 Z) (zp (zr tyS9 Z Z) Z (qd Z (bE H fun r3 h4 H=>za (zl (x9h h1.Name name2 r3 h4) ⟨.inl Z,.inl Z,U⟩) (qe Z (zh ?_)))))))))
 cases H
 exact ⟨U,.inl Z,U⟩
theorem z91 (l1:(List yj)) (name2:Bs) (r:((List Bs))) (H:kh l1 name2=some r):Fn Tryz.prog 35 [vlst (List.map jq l1),vstr name2] (zu [vlst (List.map zn r)]):=by
 refine ⟨by kernel_rfl,zy (us:=[vlst (List.map zn r)]) Tryz.func35 Z Z Z Z fun X hN => ?_⟩
 unfold kh at H
 refine zb hN Z (qe Z (zb hN Z (qe Z (ze (zb hN Z (qd Z (za (yo y06 Z) (qd Z (zx (xn 5 1 9 1 Z Z Z (gE H fun h6 H=>wd (fun (k4:Nat) (s:(List Bs))=>[(1,.dat (vstr name2)),(5,.row 1 s.length),(8,.dat (vlst (List.map jq l1))),(9,.dat (vint (l1.length:Int))),(10,.dat (vint (k4:Int)))]) (fun (k4:Nat) (s:(List Bs))=>[(1,.row 9 1 (List.map zn s))]) [] H ⟨Z,Z,Z,Z,Z,U⟩ ⟨Z,U⟩ (fun _ _=>Z) ?_ ?_)))))))))))
 ·rintro l3 H
  replace H:z81 l3=some r:=H
  unfold z81 at H
  refine zb hN Z (za (zw Z Z) (ze (zg _ Z (fun h=>(lt_t h).elim) (fun h => ?_))))
  refine yu (zb hN Z (za (zi (.row _ _) Z) (za (wu (.row _ _) Z) (zh ?_))))
  cases H
  exact ⟨U,Qq Z Z,U⟩
 ·rintro k4 x7 l3 q5 h8 h9 H hq5
  replace H:Wi name2 k4 x7 l3=some q5:=H
  unfold Wi at H
  refine zb hN Z (za (zw Z Z) (ze (zg _ Z (fun h => ?_) (fun h=>(lt_f h8 h).elim))))
  refine zj (yb (ι:=(List Bs)) (fun i=>[(1,.dat (vstr name2)),(5,.row 1 i.length),(8,.dat (vlst (List.map jq l1))),(9,.dat (vint (l1.length:Int))),(10,.dat (vint (k4:Int)))]) (fun i=>[(1,.row 9 1 (List.map zn i))]) (fun i=>z1j i=some q5) (fun i=>Z) ?_ ?_)
  ·skip
   refine zx (zb hN Z (za (qt y6h (fun _=>Z) Z Z h9) (za (ke z3f Z (yp h9) Z) (zk (qr 2 z7e Z) Z (zk (ym z3f Z Z Z Z) Z (zb hN Z (zp (vh z3f Z Z Z) Z (qd Z (bE H fun r10 h11 H=>za (zl (x9z x7 name2 r10 h11) ⟨.inl Z,.inl Z,U⟩) (zg _ Z (fun h12 => ?_) (fun h12 => ?_)))))))))))
   ·refine tE h12 H fun H=>zt hN Z (za (zi (.row _ _) Z) (za (zo y53 Z) (zp (zr tyS9 Z Z) Z (za (yf (u':=vlst (List.map zn [x7.Value])) (wo [[_]] wz ⟨Z,.inl ⟨_,Z,Z,Z⟩,Z,U⟩ Z Z) Z) (gE H fun h13 H=>zk (ul wz (fun _=>Z) Z Z Z ⟨by simp,by first | (simp; done) | simpa using h13⟩ Z) Z ?_)))))
    exact za (wu (.row _ _) Z) ⟨(l3++[x7.Value]),H,⟨Z,Z,Z,Z,Z,U⟩,⟨Z,U⟩⟩
   ·exact fE h12 H fun H=>zj ⟨l3,H,⟨Z,Z,Z,Z,Z,U⟩,⟨Z,U⟩⟩
  ·rintro out14 H
   replace H:z1j out14=some q5:=H
   unfold z1j at H
   exact zt hN Z (za (qo Z Z (by omega)) (qd Z ⟨_,yx H,⟨Z,Z,Z,Z,Z,U⟩,⟨Z,U⟩⟩))
theorem x93 (values1:(List Bs)) (r:((List Bs))) (H:Yn values1=some r):Fn Tryz.prog 99 [vlst (List.map zn values1)] (zu [vlst (List.map zn r)]):=by
 refine ⟨by kernel_rfl,zy (us:=[vlst (List.map zn r)]) Tryz.func99 Z Z Z Z fun X hN => ?_⟩
 unfold Yn at H
 refine zb hN Z (qe Z (zb hN Z (qe Z (ze (zb hN Z (qd Z (za (yo qi Z) (qd Z (zx (xn 3 1 9 1 Z Z Z (gE H fun h5 H=>wd (fun (k3:Nat) (s:(List Bs))=>[(3,.row 1 s.length),(8,.dat (vlst (List.map zn values1))),(9,.dat (vint (values1.length:Int))),(10,.dat (vint (k3:Int)))]) (fun (k3:Nat) (s:(List Bs))=>[(1,.row 9 1 (List.map zn s))]) [] H ⟨Z,Z,Z,Z,U⟩ ⟨Z,U⟩ (fun _ _=>Z) ?_ ?_)))))))))))
 ·rintro l2 H
  replace H:z1l l2=some r:=H
  unfold z1l at H
  refine zb hN Z (za (zw Z Z) (ze (zg _ Z (fun h=>(lt_t h).elim) (fun h => ?_))))
  refine yu (zb hN Z (za (zi (.row _ _) Z) (za (wu (.row _ _) Z) (zh ?_))))
  cases H
  exact ⟨U,Qq Z Z,U⟩
 ·rintro k3 x6 l2 q4 h7 h8 H hq4
  replace H:Za k3 x6 l2=some q4:=H
  unfold Za at H
  refine zb hN Z (za (zw Z Z) (ze (zg _ Z (fun h => ?_) (fun h=>(lt_f h7 h).elim))))
  refine zj (ze (zx (zb hN Z (za (qt qv (fun _=>Z) Z Z h8) (za (yi tyS9 Z (yp h8) Z) (qe Z (zb hN Z (qd Z (bE H fun r9 h10 H=>za (zl (Yq x6 [44] r9 h10) ⟨.inl Z,.inl Z,U⟩) (za (yo qi Z) (qd Z (zx (gE H fun h14 H=>wd (fun (k12:Nat) (s:(List Bs))=>[(3,.row 1 s.length),(8,.dat (vlst (List.map zn values1))),(9,.dat (vint (values1.length:Int))),(10,.dat (vint (k3:Int))),(15,.dat (vlst (List.map zn r9))),(16,.dat (vint (r9.length:Int))),(17,.dat (vint (k12:Int)))]) (fun (k12:Nat) (s:(List Bs))=>[(1,.row 9 1 (List.map zn s))]) l2 H ⟨Z,Z,Z,Z,Z,Z,Z,U⟩ ⟨Z,U⟩ (fun _ _=>Z) ?_ ?_)))))))))))))
  ·rintro l11 H
   replace H:z1k l11=some q4:=H
   unfold z1k at H
   refine zb hN Z (za (zw Z Z) (ze (zg _ Z (fun h=>(lt_t h).elim) (fun h => ?_))))
   exact yu (zt hN Z (za (qo Z Z (by omega)) (qd Z ⟨_,yx H,⟨Z,Z,Z,Z,U⟩,⟨Z,U⟩⟩)))
  ·rintro k12 x15 l11 q13 h16 h17 H hq13
   replace H:xz k12 x15 l11=some q13:=H
   unfold xz at H
   refine zb hN Z (za (zw Z Z) (ze (zg _ Z (fun h => ?_) (fun h=>(lt_f h16 h).elim))))
   refine zj (yb (ι:=(List Bs)) (fun i=>[(3,.row 1 i.length),(8,.dat (vlst (List.map zn values1))),(9,.dat (vint (values1.length:Int))),(10,.dat (vint (k3:Int))),(15,.dat (vlst (List.map zn r9))),(16,.dat (vint (r9.length:Int))),(17,.dat (vint (k12:Int)))]) (fun i=>[(1,.row 9 1 (List.map zn i))]) (fun i=>Zb i=some q13) (fun i=>Z) ?_ ?_)
   ·skip
    refine zx (zb hN Z (za (qt qv (fun _=>Z) Z Z h17) (za (yi tyS9 Z (yp h17) Z) (qe Z (zb hN Z (qd Z (bE H fun r18 h19 H=>za (zl (y30 x15 [32] r18 h19) ⟨.inl Z,.inl Z,U⟩) (qe Z (zb hN Z (qd Z (za (js Z Z) (zg _ Z (fun h20 => ?_) (fun h20 => ?_)))))))))))))
    ·refine tE h20 H fun H=>zt hN Z (za (zi (.row _ _) Z) (qd Z (za (yf (u':=vlst (List.map zn [r18])) (wo [[_]] wz ⟨Z,.inl ⟨_,Z,Z,Z⟩,Z,U⟩ Z Z) Z) (gE H fun h21 H=>zk (ul wz (fun _=>Z) Z Z Z ⟨by simp,by first | (simp; done) | simpa using h21⟩ Z) Z ?_))))
     exact za (wu (.row _ _) Z) ⟨(l11++[r18]),H,⟨Z,Z,Z,Z,Z,Z,Z,U⟩,⟨Z,U⟩⟩
    ·exact fE h20 H fun H=>zj ⟨l11,H,⟨Z,Z,Z,Z,Z,Z,Z,U⟩,⟨Z,U⟩⟩
   ·rintro out22 H
    replace H:Zb out22=some q13:=H
    unfold Zb at H
    exact zt hN Z (za (qo Z Z (by omega)) (qd Z ⟨_,yx H,⟨Z,Z,Z,Z,Z,Z,Z,U⟩,⟨Z,U⟩⟩))
theorem y34 (s p:Bs) (r:Bs×Bs×Bool) (H:Zi s p=some r):Fn Tryz.prog 113 [vstr s,vstr p] (zu [vstr r.1,vstr r.2.1,zf r.2.2]):=by
 unfold Zi at H
 obtain ⟨h1,h2⟩:=gif H
 cases h2
 refine uq (by kernel_rfl) fun M w vs hM h => ?_
 have hv:=jw (us:=[.string ⟨s.toArray⟩,.string ⟨p.toArray⟩]) h
 subst hv
 obtain ⟨m,hm⟩:=y21 hM
 refine (Tryz.strings_Cut ⟨s.toArray⟩ ⟨p.toArray⟩ m w (by simp [ByteArray.size]; omega) hm).mono ?_
 rintro e w' ⟨rfl,n,rfl⟩
 refine ⟨_,Z,⟨[_,_,_],Z,Z,fun j u hj => ?_⟩,⟨Z,Z,Z,Nat.le_refl _,fun _ _ _=>Z⟩⟩
 rcases j with _ | _ | _ | j
 ·cases hj; exact ⟨_,Z,Z⟩
 ·cases hj; exact ⟨_,Z,Z⟩
 ·cases hj; exact ⟨_,Z,Z⟩
 ·simp at hj

theorem x9f (s p:Bs) (r:Bs) (H:z9a s p=some r):Fn Tryz.prog 202 [vstr s,vstr p] (zu [vstr r]):=by
 unfold z9a at H
 cases H
 refine uq (by kernel_rfl) fun M w vs hM h => ?_
 have hv:=jw (us:=[.string ⟨s.toArray⟩,.string ⟨p.toArray⟩]) h
 subst hv
 refine (Tryz.strings_TrimPrefix ⟨s.toArray⟩ ⟨p.toArray⟩ w).mono ?_
 rintro e w' ⟨rfl,rfl⟩
 exact ⟨_,Z,Z,Kp.refl _ _⟩

theorem w0g (v1:Bs) (v2:Int) (v3:Int) (r:(Int×Int)) (H:y3h v1 v2 v3=some r):Fn Tryz.prog 237 [vstr v1,vint v2,vint v3] (zu [vint r.1,verr r.2]):=by
 refine ⟨by kernel_rfl,zy (us:=[vint r.1,verr r.2]) Tryz.func237 Z Z Z Z fun X hN => ?_⟩
 unfold y3h at H
 refine zb hN Z (qe Z (qe Z (ze (zb hN Z (qd Z (za (vd Z Z) (zg _ Z (fun h4 => ?_) (fun h4 => ?_))))))))
 ·refine tE h4 H fun H=>zb hN Z (za (yf (u':=verr 2) (kb (show Tryz.prog.underlying 258=some (.int .i64) from by kernel_rfl) Z) Z) ?_)
  refine qe Z (qe Z (zh ?_))
  cases H
  exact ⟨U,.inl Z,.inl Z,U⟩
 ·refine fE h4 H fun H=>zj (zb hN Z (qe Z (yb (ι:=Bs×Bool) (fun i=>[(0,.dat (vstr i.1)),(1,.dat (vint v2)),(2,.dat (vint v3)),(8,.dat (zf i.2))]) (fun i=>[]) (fun i=>z2m v2 v3 i.1 i.2=some r) (fun i=>Z) ?_ ?_)))
  ·skip
   refine zb hN Z (qd Z (bE H fun x5 h6 H=>za (wg tyU9 Z Z h6) (zx (zb hN Z (za (yw Z Z) (qe Z (zg _ Z (fun h7 => ?_) (fun h7 => ?_))))))))
   ·exact tE h7 H fun H=>zt hN Z (qd Z (bE H fun l8 h9 H=>za (ji tyU9 Z Z Z h9) (qe Z ⟨(l8,false),H,⟨Z,Z,Z,Z,U⟩,U⟩)))
   ·refine fE h7 H fun H=>zb hN Z (za (yw Z Z) (qe Z (zg _ Z (fun h10 => ?_) (fun h10 => ?_))))
    ·exact tE h10 H fun H=>zb hN Z (qd Z (bE H fun l11 h12 H=>za (ji tyU9 Z Z Z h12) (qe Z (zt hN Z (qe Z ⟨(l11,true),H,⟨Z,Z,Z,Z,U⟩,U⟩)))))
    ·exact fE h10 H fun H=>zj ⟨(v1,false),H,⟨Z,Z,Z,Z,U⟩,U⟩
  ·rintro ⟨v13,v14⟩ H
   replace H:z2m v2 v3 v13 v14=some r:=H
   unfold z2m at H
   refine zb hN Z (qe Z (zb hN Z (qd Z (qd Z (qd Z (bE H fun r15 h16 H=>za (zl (y9h v13 v2 v3 r15 h16) ⟨.inl Z,.inl Z,.inl Z,U⟩) (qd Z (za (ya Z Z) (za (ya Z Z) (qe Z (qe Z (ze (yb (ι:=Bool) (fun i=>[(2,.dat (vint v3)),(7,.dat (verr r15.2)),(8,.dat (zf v14)),(9,.dat (vval (.int .u64 r15.1))),(38,.dat (zf i))]) (fun i=>[]) (fun i=>z6s v3 v14 r15 i=some r) (fun i=>Z) ?_ ?_)))))))))))))
   ·skip
    refine zt hN Z (qd Z (za (z8c (n:=r15.2) (show Tryz.prog.underlying 140=some (.interface (Tryz.prog.methodsAt 140)) from by kernel_rfl) Z) ?_))
    refine qd Z (yc (j:=2) Z Z (fun h17 => ?_) (fun h17 => ?_) Z)
    ·refine u1 h17 H fun h18 H=>zd Z Z h17 (zi (.dat _) Z) (zd Z Z h17 (yf (u':=verr 1) (kb (show Tryz.prog.underlying 258=some (.int .i64) from by kernel_rfl) Z) Z) ?_)
     refine gE H fun h19 H=>zd Z Z h17 (x42 (n:=r15.2) (m:=1) (show Tryz.prog.underlying 140=some (.interface (Tryz.prog.methodsAt 140)) from by kernel_rfl) (by kernel_rfl) (by kernel_rfl) Z Z h19 (by decide)) ?_
     exact za (zz Z (bTT h18) Z) ⟨decide (r15.2≠1),H,⟨Z,Z,Z,Z,Z,U⟩,U⟩
    ·exact u2 h17 H fun h20 H=>zc Z Z h17 (zc Z Z h17 (zc Z Z h17 (za (zv Z (bFF h20) Z) ⟨false,H,⟨Z,Z,Z,Z,Z,U⟩,U⟩)))
   ·rintro v21 H
    replace H:z6s v3 v14 r15 v21=some r:=H
    unfold z6s at H
    refine zg _ Z (fun h22 => ?_) (fun h22 => ?_)
    ·refine tE h22 H fun H=>zb hN Z (qd Z (qe Z (qe Z (zh ?_))))
     cases H
     exact ⟨U,.inl Z,.inl Z,U⟩
    ·refine fE h22 H fun H=>zj (yb (ι:=Int) (fun i=>[(2,.dat (vint i)),(8,.dat (zf v14)),(9,.dat (vval (.int .u64 r15.1)))]) (fun i=>[]) (fun i=>z6r v14 r15 i=some r) (fun i=>Z) ?_ ?_)
     ·skip
      refine zb hN Z (qd Z (za (yw Z Z) (zg _ Z (fun h23 => ?_) (fun h23 => ?_))))
      ·exact tE h23 H fun H=>zt hN Z (qe Z ⟨64,H,⟨Z,Z,Z,U⟩,U⟩)
      ·exact fE h23 H fun H=>zj ⟨v3,H,⟨Z,Z,Z,U⟩,U⟩
     ·rintro v24 H
      replace H:z6r v14 r15 v24=some r:=H
      unfold z6r at H
      refine zb hN Z (qd Z (za (ye _ Z Z (.inr (.inl ⟨Z,Z⟩))) (za (vz tyU3 z3e Z) (gE H fun h25 H=>za (yf (z8b Z Z h25) Z) (qe Z (ze (zb hN Z (qd Z (za (yt Z) (qd Z (qa Z Z (fun hc=>zi (.dat _) Z) (qa Z Z (fun hc=>zi (.dat _) Z) (qa Z Z (fun hc=>wy (cnd (c:=(!v14)) hc) (cnd (c:=(!v14)) hc)) (za (wx Z (fun hb=>(cnd (c:=(!v14)) hb)) Z) (zg _ Z (fun h26 => ?_) (fun h26 => ?_))))))))))))))))
      ·refine tE h26 H fun H=>zb hN Z (qd Z (za (ye _ Z Z (.inr (.inl ⟨Z,Z⟩))) (za (vz uh tyU2 Z) (za (yf (u':=verr 1) (kb (show Tryz.prog.underlying 258=some (.int .i64) from by kernel_rfl) Z) Z) ?_))))
       refine qe Z (qe Z (zh ?_))
       cases H
       exact ⟨U,.inl Z,.inl Z,U⟩
      ·refine fE h26 H fun H=>zj (ze (zb hN Z (qd Z (qd Z (qa Z Z (fun hc=>zi (.dat _) Z) (qa Z Z (fun hc=>zi (.dat _) Z) (qa Z Z (fun hc=>qc (cnd (c:=v14) hc) (cnd (c:=v14) hc)) (za (wx Z (fun hb=>(cnd (c:=v14) hb)) Z) (zg _ Z (fun h27 => ?_) (fun h27 => ?_))))))))))
       ·refine tE h27 H fun H=>zb hN Z (qd Z (za (vz uh tyU2 Z) (za (y6x Z) (za (yf (u':=verr 1) (kb (show Tryz.prog.underlying 258=some (.int .i64) from by kernel_rfl) Z) Z) ?_))))
        refine qe Z (qe Z (zh ?_))
        cases H
        exact ⟨U,.inl Z,.inl Z,U⟩
       ·refine fE h27 H fun H=>zj (zb hN Z (qd Z (za (vz uh tyU2 Z) (qe Z (yb (ι:=Int) (fun i=>[(11,.dat (vint i))]) (fun i=>[]) (fun i=>z6q i=some r) (fun i=>Z) ?_ ?_)))))
        ·skip
         refine zb hN Z (qd Z (zg _ Z (fun h28 => ?_) (fun h28 => ?_)))
         ·exact tE h28 H fun H=>zt hN Z (qd Z (za (y6x Z) (qe Z ⟨(wr (-(IntKind.wrap .i64 r15.1))),H,⟨Z,U⟩,U⟩)))
         ·exact fE h28 H fun H=>zj ⟨IntKind.wrap .i64 r15.1,H,⟨Z,U⟩,U⟩
        ·rintro v29 H
         replace H:z6q v29=some r:=H
         unfold z6q at H
         refine zb hN Z (qd Z (qe Z (qe Z (zh ?_))))
         cases H
         exact ⟨U,.inl Z,.inl Z,U⟩
theorem w0i (v1:Bs) (r:(Int×Int)) (H:Wz v1=some r):Fn Tryz.prog 230 [vstr v1] (zu [vint r.1,verr r.2]):=by
 refine ⟨by kernel_rfl,zy (us:=[vint r.1,verr r.2]) Tryz.func230 Z Z Z Z fun X hN => ?_⟩
 unfold Wz at H
 refine zb hN Z (qe Z (qe Z (zb hN Z (qd Z (za (qj tyU9 Z) (qe Z (ze (zb hN Z (qd Z (qa (s := .dat (vint (v1.length:Int))) Z Z (fun hc=>zi (.dat _) Z) (qa (s := .dat (zf (decide (0 < (v1.length:Int))))) Z Z (fun hc=>zw Z (cnd (c:=false) (s := .dat (vint (v1.length:Int))) hc)) (qa (s := .dat (zf (decide (0 < (v1.length:Int))))) Z Z (fun hc=>zi (.dat _) (cnd (c:=false) (s := .dat (zf (decide (0 < (v1.length:Int))))) hc)) (qu (s := .dat (vint (v1.length:Int))) (c:=false) (b:=decide (0 < (v1.length:Int))) Z Z (fun hc=>zi (.dat _) Z) (qu (s := .dat (zf (decide ((v1.length:Int) < 10)))) (c:=false) (b:=decide (0 < (v1.length:Int))) Z Z (fun hc=>zw (cnd (c:=(false && (decide (0 < (v1.length:Int))))) (s := .dat (vint (v1.length:Int))) hc) Z) (qa (s := .dat (zf ((decide (0 < (v1.length:Int))) && (decide ((v1.length:Int) < 10))))) Z Z (fun hc=>wx (cnd (c:=false) (s := .dat (zf (decide (0 < (v1.length:Int))))) hc) (fun hb=>(cnd (c:=(false && (decide (0 < (v1.length:Int))))) (s := .dat (zf (decide ((v1.length:Int) < 10)))) (andI hc hb))) Z) (za (wx Z (fun hb=>(cnd (c:=false) (s := .dat (zf ((decide (0 < (v1.length:Int))) && (decide ((v1.length:Int) < 10))))) hb)) Z) (qd Z (yg (s := .dat (zf true)) Z Z (fun hc=>zi (.dat _) Z) (qu (s := .dat (vint (v1.length:Int))) (c:=(!(false && ((decide (0 < (v1.length:Int))) && (decide ((v1.length:Int) < 10)))))) (b:=true) Z Z (fun hc=>zi (.dat _) Z) (qu (s := .dat (zf (decide (0 < (v1.length:Int))))) (c:=(!(false && ((decide (0 < (v1.length:Int))) && (decide ((v1.length:Int) < 10)))))) (b:=true) Z Z (fun hc=>zw Z (cnd (c:=((!(false && ((decide (0 < (v1.length:Int))) && (decide ((v1.length:Int) < 10))))) && true)) (s := .dat (vint (v1.length:Int))) hc)) (qu (s := .dat (zf (decide (0 < (v1.length:Int))))) (c:=(!(false && ((decide (0 < (v1.length:Int))) && (decide ((v1.length:Int) < 10)))))) (b:=true) Z Z (fun hc=>zi (.dat _) (cnd (c:=((!(false && ((decide (0 < (v1.length:Int))) && (decide ((v1.length:Int) < 10))))) && true)) (s := .dat (zf (decide (0 < (v1.length:Int))))) hc)) (qu (s := .dat (vint (v1.length:Int))) (c:=((!(false && ((decide (0 < (v1.length:Int))) && (decide ((v1.length:Int) < 10))))) && true)) (b:=decide (0 < (v1.length:Int))) Z Z (fun hc=>zi (.dat _) Z) (qu (s := .dat (zf (decide ((v1.length:Int) < 19)))) (c:=((!(false && ((decide (0 < (v1.length:Int))) && (decide ((v1.length:Int) < 10))))) && true)) (b:=decide (0 < (v1.length:Int))) Z Z (fun hc=>zw (cnd (c:=(((!(false && ((decide (0 < (v1.length:Int))) && (decide ((v1.length:Int) < 10))))) && true) && (decide (0 < (v1.length:Int))))) (s := .dat (vint (v1.length:Int))) hc) Z) ?_)))))))))))))))))))))))
 refine qu (s := .dat (zf ((decide (0 < (v1.length:Int))) && (decide ((v1.length:Int) < 19))))) (c:=(!(false && ((decide (0 < (v1.length:Int))) && (decide ((v1.length:Int) < 10)))))) (b:=true) Z Z (fun hc=>wx (cnd (c:=((!(false && ((decide (0 < (v1.length:Int))) && (decide ((v1.length:Int) < 10))))) && true)) (s := .dat (zf (decide (0 < (v1.length:Int))))) hc) (fun hb=>(cnd (c:=(((!(false && ((decide (0 < (v1.length:Int))) && (decide ((v1.length:Int) < 10))))) && true) && (decide (0 < (v1.length:Int))))) (s := .dat (zf (decide ((v1.length:Int) < 19)))) (andI hc hb))) Z) (yg (s := .dat (zf (true && ((decide (0 < (v1.length:Int))) && (decide ((v1.length:Int) < 19)))))) Z Z (fun hc=>wx (cnd (c:=(!(false && ((decide (0 < (v1.length:Int))) && (decide ((v1.length:Int) < 10)))))) (s := .dat (zf true)) hc) (fun hb=>(cnd (c:=((!(false && ((decide (0 < (v1.length:Int))) && (decide ((v1.length:Int) < 10))))) && true)) (s := .dat (zf ((decide (0 < (v1.length:Int))) && (decide ((v1.length:Int) < 19))))) (andI hc hb))) Z) (za (ve Z Z (fun hb=>(cnd (c:=(!(false && ((decide (0 < (v1.length:Int))) && (decide ((v1.length:Int) < 10)))))) (s := .dat (zf (true && ((decide (0 < (v1.length:Int))) && (decide ((v1.length:Int) < 19)))))) (notI hb)))) (zg _ Z (fun h2 => ?_) (fun h2 => ?_))))
 ·refine tE h2 H fun H=>zb hN Z (qd Z (qe Z (yb (ι:=Bs) (fun i=>[(0,.dat (vstr i)),(5,.dat (vstr v1))]) (fun i=>[]) (fun i=>z0h v1 i=some r) (fun i=>Z) ?_ ?_)))
  ·skip
   refine yb (ι:=Bool) (fun i=>[(0,.dat (vstr v1)),(5,.dat (vstr v1)),(39,.dat (zf i))]) (fun i=>[]) (fun i=>z0g v1 i=some r) (fun i=>Z) ?_ ?_
   ·skip
    refine zt hN Z (qd Z (bE H fun x3 h4 H=>za (wg tyU9 Z Z h4) (za (yw Z Z) (qd Z (yc (j:=3) Z Z (fun h5 => ?_) (fun h5 => ?_) Z)))))
    ·exact u3 h5 H fun h6 H=>zd Z Z h5 (zi (.dat _) Z) (zd Z Z h5 (wg tyU9 Z Z h4) (zd Z Z h5 (yw Z Z) (za (zv Z (bFF h6) Z) ⟨decide ((x3.toNat:Int)=43),H,⟨Z,Z,Z,U⟩,U⟩)))
    ·exact u4 h5 H fun h7 H=>zc Z Z h5 (zc Z Z h5 (zc Z Z h5 (za (zz Z (bTT h7) Z) ⟨true,H,⟨Z,Z,Z,U⟩,U⟩)))
   ·rintro v8 H
    replace H:z0g v1 v8=some r:=H
    unfold z0g at H
    refine zg _ Z (fun h9 => ?_) (fun h9 => ?_)
    ·refine tE h9 H fun H=>zb hN Z (qd Z (bE H fun l10 h11 H=>za (ji tyU9 Z Z Z h11) (qe Z (zb hN Z (qd Z (za (qj tyU9 Z) (za (zw Z Z) (zg _ Z (fun h12 => ?_) (fun h12 => ?_)))))))))
     ·refine tE h12 H fun H=>zb hN Z (za (yf (u':=verr 2) (kb (show Tryz.prog.underlying 258=some (.int .i64) from by kernel_rfl) Z) Z) ?_)
      refine qe Z (qe Z (zh ?_))
      cases H
      exact ⟨U,.inl Z,.inl Z,U⟩
     ·exact fE h12 H fun H=>zj ⟨l10,H,⟨Z,Z,U⟩,U⟩
    ·exact fE h9 H fun H=>zj ⟨v1,H,⟨Z,Z,U⟩,U⟩
  ·rintro v13 H
   replace H:z0h v1 v13=some r:=H
   unfold z0h at H
   refine zb hN Z (qe Z (ze (zb hN Z (qd Z (za (y62 (C:=yy) tyU9 xq tyU5 (fun _=>Z) Z) (za (yo xq Z) (qd Z (zx (gE H fun h17 H=>wd (fun (k15:Nat) (s:Int)=>[(5,.dat (vstr v1)),(6,.dat (vint s)),(47,.dat (vlst (List.map yy (qn v13)))),(48,.dat (vint ((qn v13).length:Int))),(49,.dat (vint (k15:Int)))]) (fun (k15:Nat) (s:Int)=>[]) 0 H ⟨Z,Z,Z,Z,Z,U⟩ U (fun _ _=>Z) ?_ ?_)))))))))
   ·rintro v14 H
    replace H:z0i v1 v14=some r:=H
    unfold z0i at H
    refine zb hN Z (za (zw Z Z) (ze (zg _ Z (fun h=>(lt_t h).elim) (fun h => ?_))))
    refine yu (yb (ι:=Int) (fun i=>[(6,.dat (vint i))]) (fun i=>[]) (fun i=>z0f i=some r) (fun i=>Z) ?_ ?_)
    ·skip
     refine zb hN Z (qd Z (bE H fun x19 h20 H=>za (wg tyU9 Z Z h20) (za (yw Z Z) (zg _ Z (fun h21 => ?_) (fun h21 => ?_)))))
     ·exact tE h21 H fun H=>zt hN Z (qd Z (gE H fun h22 H=>za (x4s Z h22) (qe Z ⟨(-v14),H,⟨Z,U⟩,U⟩)))
     ·exact fE h21 H fun H=>zj ⟨v14,H,⟨Z,U⟩,U⟩
    ·rintro v23 H
     replace H:z0f v23=some r:=H
     unfold z0f at H
     refine zb hN Z (qd Z (qe Z (qe Z (zh ?_))))
     cases H
     exact ⟨U,.inl Z,.inl Z,U⟩
   ·rintro k15 x18 v14 q16 h24 h25 H hq16
    replace H:z2n k15 x18 v14=some q16:=H
    unfold z2n at H
    refine zb hN Z (za (zw Z Z) (ze (zg _ Z (fun h => ?_) (fun h=>(lt_f h24 h).elim))))
    refine zj (ze (zx (zb hN Z (za (qt y6i (fun _=>Z) Z Z h25) (za (yi tyS5 Z (yp h25) Z) (qe Z (zb hN Z (qd Z (za (ye _ Z Z (.inr (.inl ⟨Z,Z⟩))) (qe Z (ze (zb hN Z (qd Z (za (qc Z Z) (zg _ Z (fun h26 => ?_) (fun h26 => ?_))))))))))))))))
    ·refine tE h26 H fun H=>zb hN Z (za (yf (u':=verr 2) (kb (show Tryz.prog.underlying 258=some (.int .i64) from by kernel_rfl) Z) Z) ?_)
     refine qe Z (qe Z (zh ?_))
     replace H:=retl H hq16
     cases H
     exact ⟨U,.inl Z,.inl Z,U⟩
    ·exact fE h26 H fun H=>zj (zt hN Z (qd Z (za (ye _ Z Z (.inr (.inr ⟨Z,Z⟩))) (qd Z (za (vz tyU5 tyU3 Z) (za (ye _ Z Z (.inl ⟨Z,Z⟩)) (qe Z (zt hN Z (za (qo Z Z (by omega)) (qd Z ⟨_,yx H,⟨Z,Z,Z,Z,Z,U⟩,U⟩))))))))))
 ·refine fE h2 H fun H=>zj (zb hN Z (qd Z (bE H fun r27 h28 H=>za (zl (w0g v1 10 0 r27 h28) ⟨.inl Z,.inl Z,.inl Z,U⟩) (qd Z (za (ya Z Z) (za (ya Z Z) (qe Z (qe Z (zb hN Z (qd Z (qd Z (qe Z (qe Z (zh ?_))))))))))))))
  cases H
  exact ⟨U,.inl Z,.inl Z,U⟩
theorem x9n (s1:Bs) (r:(Int×Int)) (H:Ym s1=some r):Fn Tryz.prog 203 [vstr s1] (zu [vint r.1,verr r.2]):=by
 refine ⟨by kernel_rfl,zy (us:=[vint r.1,verr r.2]) Tryz.func203 Z Z Z Z fun X hN => ?_⟩
 unfold Ym at H
 refine zb hN Z (qe Z (qe Z (zb hN Z (qd Z (bE H fun r2 h3 H=>za (zl (w0i s1 r2 h3) ⟨.inl Z,U⟩) (qd Z (za (ya Z Z) (za (ya Z Z) (qe Z (qe Z (ze (zb hN Z (qd Z (za (z8c (n:=r2.2) (show Tryz.prog.underlying 140=some (.interface (Tryz.prog.methodsAt 140)) from by kernel_rfl) Z) ?_))))))))))))))
 refine zg _ Z (fun h4 => ?_) (fun h4 => ?_)
 ·refine tE h4 H fun H=>zb hN Z (qd Z (qd Z (qd Z (bE H fun r5 h6 H=>za (zl (y85 [65,116,111,105] s1 0 0 r2.2 r5 h6) ⟨.inl Z,.inl Z,.inl Z,.inl Z,.inl Z,U⟩) (qe Z (qe Z (zh ?_)))))))
  cases H
  exact ⟨U,.inl Z,.inl Z,U⟩
 ·refine fE h4 H fun H=>zj (zb hN Z (qd Z (qe Z (qe Z (zh ?_)))))
  cases H
  exact ⟨U,.inl Z,.inl Z,U⟩
end Go.Proofs.YtbndlmnjeofkdadGreatDoor
