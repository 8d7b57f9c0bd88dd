/- Walks along the models. Printed by a program. -/
import Derived.Test.YtgdijjmdfcgifaaGreatXdc
namespace Go.Proofs.YtgdijjmdfcgifaaGreat
open Go.RowKit
set_option linter.unusedVariables false
set_option maxRecDepth 100000
set_option maxHeartbeats 2000000
theorem z7i (status1:Int) (r:(Bool)) (H:z1q status1=some r):Fn Tryz.prog 91 [vint status1] (zu [zn r]):=by
 refine ⟨by kernel_rfl,yr (us:=[zn r]) Tryz.func91 Z Z Z Z fun X hN => ?_⟩
 unfold z1q at H
 refine zb hN Z (qe Z (zb hN Z (qd Z (za (qz Z Z) (qd Z (ue Z Z (fun hc=>zg (.dat _) Z) (ue Z Z (fun hc=>ke (cnd (c:=(!(decide (status1=0)))) hc) Z) (za (z1k Z Z (fun hb=>(cnd (c:=(!(decide (status1=0)))) (notI hb)))) (qe Z (zo ?_))))))))))
 cases H
 exact ⟨U,.inl Z,U⟩
theorem y9e (l1:(List Int)) (c2:Int) (c3:wn) (r:(Int)) (H:z3r l1 c2 c3=some r):Fn Tryz.prog 108 [vlst (List.map yl l1),zx [[vint c2]] 0 0,zx [[vint c3.Window,vint c3.Least,vint c3.Part]] 0 0] (zu [vint r]):=by
 refine ⟨by kernel_rfl,yr (us:=[vint r]) Tryz.func108 Z Z Z Z fun X hN => ?_⟩
 unfold z3r at H
 refine zb hN Z (qe Z (zb hN Z (qe Z (zd (zb hN Z (qd Z (za (yx z09 Z) (qd Z (zw (gE H fun h7 H=>wg (fun (k5:Nat) (s:Int)=>[(1,.dat (zx [[vint c2]] 0 0)),(2,.dat (zx [[vint c3.Window,vint c3.Least,vint c3.Part]] 0 0)),(5,.dat (vint s)),(8,.dat (vlst (List.map yl l1))),(9,.dat (vint (l1.length:Int))),(10,.dat (vint (k5:Int)))]) (fun (k5:Nat) (s:Int)=>[]) 0 H ⟨Z,Z,Z,Z,Z,Z,U⟩ U (fun _ _=>Z) ?_ ?_))))))))))
 ·rintro n4 H
  replace H:z74 n4=some r:=H
  unfold z74 at H
  refine zb hN Z (za (zq Z Z) (zd (zk _ Z (fun h=>(lt_t h).elim) (fun h => ?_))))
  refine qa (zb hN Z (qd Z (qe Z (zo ?_))))
  cases H
  exact ⟨U,.inl Z,U⟩
 ·rintro k5 x8 n4 q6 h9 h10 H hq6
  replace H:z73 c2 c3 k5 x8 n4=some q6:=H
  unfold z73 at H
  refine zb hN Z (za (zq Z Z) (zd (zk _ Z (fun h => ?_) (fun h=>(lt_f h9 h).elim))))
  refine zp (qi (ι:=Int) (fun i=>[(1,.dat (zx [[vint c2]] 0 0)),(2,.dat (zx [[vint c3.Window,vint c3.Least,vint c3.Part]] 0 0)),(5,.dat (vint i)),(8,.dat (vlst (List.map yl l1))),(9,.dat (vint (l1.length:Int))),(10,.dat (vint (k5:Int)))]) (fun i=>[]) (fun i=>z2m i=some q6) (fun i=>Z) ?_ ?_)
  ·skip
   refine zw (zb hN Z (za (wb jr (fun _=>Z) Z Z h10) (za (yt tyS3 Z (yz h10) Z) (qe Z (zb hN Z (qd Z (za (yt tyS3 Z Z Z) (za (wd z8l Z) (za (yt tyS3 Z Z Z) (za (ym _ Z Z (.inr (.inl ⟨Z,Z⟩))) (za (vn Z Z) (qd Z (qt Z Z (fun hc=>zg (.dat _) Z) (qt Z Z (fun hc=>yt tyS3 Z Z Z) (qt Z Z (fun hc=>xi (cnd (c:=(decide ((wr (c2 - c3.Window)) < x8))) hc) (cnd (c:=(decide ((wr (c2 - c3.Window)) < x8))) hc)) (za (uv Z (fun hb=>(cnd (c:=(decide ((wr (c2 - c3.Window)) < x8))) hb)) Z) (zk _ Z (fun h11 => ?_) (fun h11 => ?_))))))))))))))))))
   ·exact tE h11 H fun H=>zm hN Z (qd Z (za (ym _ Z Z (.inl ⟨Z,Z⟩)) (qe Z ⟨wr (n4+1),H,⟨Z,Z,Z,Z,Z,Z,U⟩,U⟩)))
   ·exact fE h11 H fun H=>zp ⟨n4,H,⟨Z,Z,Z,Z,Z,Z,U⟩,U⟩
  ·rintro n12 H
   replace H:z2m n12=some q6:=H
   unfold z2m at H
   exact zm hN Z (za (yy Z Z (by omega)) (qd Z ⟨_,qx H,⟨Z,Z,Z,Z,Z,Z,U⟩,U⟩))
theorem y9f (b1:wn) (calls2:(List Int)) (again3:(List Int)) (v4:Int) (r:(Bool)) (H:z6b b1 calls2 again3 v4=some r):Fn Tryz.prog 92 [vagg (xy b1),vlst (List.map yl calls2),vlst (List.map yl again3),vint v4] (zu [zn r]):=by
 refine ⟨by kernel_rfl,yr (us:=[zn r]) Tryz.func92 Z Z Z Z fun X hN => ?_⟩
 unfold z6b at H
 refine zb hN Z (zi (vt 1 Z) Z (zi (z0c 2 Z Z) Z (qe Z (zd (xm 2 [vint v4] Z Z (xm 1 [vint b1.Window,vint b1.Least,vint b1.Part] Z Z (zm hN Z (za (Yn (us:=[_,_]) ⟨Z,Z,U⟩) (qe Z (zd (yo mixed hN Z Z (qd Z (qd Z (bE H fun r5 h6 H=>za (uw (us:=[vlst (List.map yl again3)]) (cs:=[zx [[vint v4]] 0 0,zx [[vint b1.Window,vint b1.Least,vint b1.Part]] 0 0]) (y9e again3 v4 b1 r5 h6) Z ⟨.inl Z,U⟩) (za (wd z8k Z) (za (yt tyS3 Z Z Z) (za (wd z8j Z) (za (yt tyS3 Z Z Z) (qd Z (qd Z (bE H fun r7 h8 H=>za (uw (us:=[vlst (List.map yl calls2)]) (cs:=[zx [[vint v4]] 0 0,zx [[vint b1.Window,vint b1.Least,vint b1.Part]] 0 0]) (y9e calls2 v4 b1 r7 h8) Z ⟨.inl Z,U⟩) ?_)))))))))))))))))))))
 refine za (ym _ Z Z (.inr (.inr ⟨Z,Z⟩))) (gE H fun h9 H=>za (z1j Z Z h9.1 h9.2) (za (ym _ Z Z (.inl ⟨Z,Z⟩)) (za (zq Z Z) (qe Z ⟨Z,?_⟩))))
 refine zo ?_
 cases H
 exact ⟨U,.inl Z,U⟩
theorem y9h (n1:Int) (times2:Int) (most3:Int) (r:(Int)) (H:Qz n1 times2 most3=some r):Fn Tryz.prog 94 [vint n1,vint times2,vint most3] (zu [vint r]):=by
 refine ⟨by kernel_rfl,yr (us:=[vint r]) Tryz.func94 Z Z Z Z fun X hN => ?_⟩
 unfold Qz at H
 refine zb hN Z (qe Z (qi (ι:=Int) (fun i=>[(0,.dat (vint i)),(2,.dat (vint most3))]) (fun i=>[]) (fun i=>Qe most3 i=some r) (fun i=>Z) ?_ ?_))
 ·skip
  refine zb hN Z (qd Z (qd Z (zw (gE H fun h7 H=>z2i (fun (k5:Nat) (s:Int)=>[(0,.dat (vint s)),(2,.dat (vint most3)),(7,.dat (vint times2)),(8,.dat (vint (k5:Int)))]) (fun (k5:Nat) (s:Int)=>[]) n1 H ⟨Z,Z,Z,Z,U⟩ U (fun _ _=>Z) ?_ ?_))))
  ·rintro n4 H
   replace H:z03 most3 n4=some r:=H
   unfold z03 at H
   refine zb hN Z (za (zq Z Z) (zd (zk _ Z (fun h=>(z37 h).elim) (fun h => ?_))))
   exact qa ⟨n4,H,⟨Z,Z,U⟩,U⟩
  ·rintro k5 n4 q6 h8 H hq6
   replace H:Zz most3 k5 n4=some q6:=H
   unfold Zz at H
   refine zb hN Z (za (zq Z Z) (zd (zk _ Z (fun h => ?_) (fun h=>(z38 h8 h).elim))))
   refine zp (zd (zw (zd (zb hN Z (qd Z (qd Z (za (ke Z Z) (zk _ Z (fun h9 => ?_) (fun h9 => ?_)))))))))
   ·refine tE h9 H fun H=>qa ?_
    replace H:=outl H hq6
    exact ⟨n4,H,⟨Z,Z,U⟩,U⟩
   ·exact fE h9 H fun H=>zp (zm hN Z (qd Z (za (ym _ Z Z (.inr (.inr ⟨Z,Z⟩))) (qe Z (zm hN Z (za (yy Z Z (by omega)) (qd Z ⟨_,qx H,⟨Z,Z,Z,Z,U⟩,U⟩)))))))
 ·rintro n10 H
  replace H:Qe most3 n10=some r:=H
  unfold Qe at H
  refine zb hN Z (qd Z (qd Z (za (y2i Z Z) (qe Z (zo ?_)))))
  cases H
  exact ⟨U,.inl Z,U⟩
theorem y9g (l1:(List zl)) (loads2:(List Int)) (p2:Int→Option (Bool)) (fv2:Nat) (us2:List V) (hp2:∀ a0 r,p2 a0=some r→Fn Tryz.prog fv2 ([vint a0]++us2) (zu [zn r])) (r:(Int)) (H:z3s l1 loads2 p2=some r):Fn Tryz.prog 110 [vlst (List.map ya l1),vlst (List.map yl loads2),vfn fv2 us2] (zu [vint r]):=by
 refine ⟨by kernel_rfl,yr (us:=[vint r]) Tryz.func110 Z Z Z Z fun X hN => ?_⟩
 unfold z3s at H
 refine zb hN Z (qe Z (zb hN Z (qe Z (zd (zb hN Z (qd Z (za (yx vw Z) (qd Z (zw (gE H fun h6 H=>wg (fun (k4:Nat) (s:Int)=>[(0,.dat (vlst (List.map ya l1))),(1,.dat (vlst (List.map yl loads2))),(2,.dat (vfn fv2 us2)),(7,.dat (vint s)),(10,.dat (vlst (List.map ya l1))),(11,.dat (vint (l1.length:Int))),(12,.dat (vint (k4:Int)))]) (fun (k4:Nat) (s:Int)=>[]) (-1) H ⟨Z,Z,Z,Z,Z,Z,Z,U⟩ U (fun _ _=>Z) ?_ ?_))))))))))
 ·rintro best3 H
  replace H:z76 best3=some r:=H
  unfold z76 at H
  refine zb hN Z (za (zq Z Z) (zd (zk _ Z (fun h=>(lt_t h).elim) (fun h => ?_))))
  refine qa (zb hN Z (qd Z (qe Z (zo ?_))))
  cases H
  exact ⟨U,.inl Z,U⟩
 ·rintro k4 x7 best3 q5 h8 h9 H hq5
  replace H:z75 l1 loads2 p2 k4 x7 best3=some q5:=H
  unfold z75 at H
  refine zb hN Z (za (zq Z Z) (zd (zk _ Z (fun h => ?_) (fun h=>(lt_f h8 h).elim))))
  refine zp (qi (ι:=Int) (fun i=>[(0,.dat (vlst (List.map ya l1))),(1,.dat (vlst (List.map yl loads2))),(2,.dat (vfn fv2 us2)),(7,.dat (vint i)),(10,.dat (vlst (List.map ya l1))),(11,.dat (vint (l1.length:Int))),(12,.dat (vint (k4:Int)))]) (fun i=>[]) (fun i=>z2n i=some q5) (fun i=>Z) ?_ ?_)
  ·skip
   refine zw (zb hN Z (qd Z (za (wb jq (fun _=>Z) Z Z h9) (za (wv vm Z (yz h9) Z) (zi (qh 1 um Z) Z (qe Z (zi (qf vm Z Z Z Z) Z (qi (ι:=Bool) (fun i=>[(0,.dat (vlst (List.map ya l1))),(1,.dat (vlst (List.map yl loads2))),(2,.dat (vfn fv2 us2)),(7,.dat (vint best3)),(8,.dat (vint (k4:Int))),(10,.dat (vlst (List.map ya l1))),(11,.dat (vint (l1.length:Int))),(12,.dat (vint (k4:Int))),(45,.dat (zn i))]) (fun i=>[]) (fun i=>z02 best3 k4 i=some q5) (fun i=>Z) ?_ ?_))))))))
   ·skip
    refine yo mixed hN Z Z (qd Z (qd Z (bE H fun r10 h11 H=>za (uw (hp2 (k4:Int) r10 h11) Z ⟨.inl Z,U⟩) (qd Z (qo (j:=3) Z Z (fun h12 => ?_) (fun h12 => ?_) Z)))))
    ·refine u1 h12 H fun h13 H=>zf Z Z h12 (zg (.dat _) Z) (zf Z Z h12 (zq Z Z) (zf Z Z h12 (zg (.dat _) Z) (qo (j:=6) Z Z (fun h14 => ?_) (fun h14 => ?_) Z)))
     ·refine u3 h14 H fun h15 H=>zf Z Z h14 (zg (.dat _) Z) (zf Z Z h14 (zg (.dat _) Z) (bE H fun x16 h17 H=>zf Z Z h14 (wb jr (fun _=>Z) Z Z h17) (zf Z Z h14 (yt tyS3 Z (yz h17) Z) (zf Z Z h14 (ym _ Z Z (.inl ⟨Z,Z⟩)) (zf Z Z h14 (zg (.dat _) Z) (zf Z Z h14 (zg (.dat _) Z) (bE H fun x18 h19 H=>zf Z Z h14 (js jq (fun _=>Z) Z Z h19) (zf Z Z h14 (wd Qo Z) (zf Z Z h14 (yt tyS3 Z (yz (yp h19).2) Z) (zf Z Z h14 (ym _ Z Z (.inr (.inr ⟨Z,Z⟩))) (zf Z Z h14 (zg (.dat _) Z) (zf Z Z h14 (zg (.dat _) Z) (bE H fun x20 h21 H=>zf Z Z h14 (js jr (fun _=>Z) Z Z h21) (zf Z Z h14 (yt tyS3 Z (yz (yp h21).2) Z) (zf Z Z h14 (ym _ Z Z (.inl ⟨Z,Z⟩)) (zf Z Z h14 (ze Qo Z) (yd Z Z h14 (zj tyS3 Z Z) Z (zf Z Z h14 (ym _ Z Z (.inr (.inr ⟨Z,Z⟩))) (zf Z Z h14 (zq Z Z) ?_)))))))))))))))))))
      refine zf Z Z h12 (yn Z (bFF h15) Z) (za (yh Z (bTT h13) Z) ⟨Z,?_⟩)
      exact ⟨decide ((wr ((wr (x16+1)) * x18.Weight)) < (wr ((wr (x20+1)) * x7.Weight))),H,⟨Z,Z,Z,Z,Z,Z,Z,Z,Z,U⟩,U⟩
     ·refine u4 h14 H fun h22 H=>zc Z Z h14 (zc Z Z h14 (zc Z Z h14 (zc Z Z h14 (zc Z Z h14 (zc Z Z h14 (zc Z Z h14 (zc Z Z h14 (zc Z Z h14 (zc Z Z h14 (zc Z Z h14 (zc Z Z h14 (zc Z Z h14 (zc Z Z h14 (zc Z Z h14 (zc Z Z h14 (zc Z Z h14 (zc Z Z h14 (zc Z Z h14 (zc Z Z h14 (zf Z Z h12 (yh Z (bTT h22) Z) (za (yh Z (bTT h13) Z) ⟨Z,?_⟩)))))))))))))))))))))
      exact ⟨true,H,⟨Z,Z,Z,Z,Z,Z,Z,Z,Z,U⟩,U⟩
    ·refine u2 h12 H fun h23 H=>zc Z Z h12 (zc Z Z h12 (zc Z Z h12 (yg Z Z (yg Z Z (yg Z Z (yg Z Z (yg Z Z (yg Z Z (yg Z Z (yg Z Z (yg Z Z (yg Z Z (yg Z Z (yg Z Z (yg Z Z (yg Z Z (yg Z Z (yg Z Z (yg Z Z (yg Z Z (yg Z Z (yg Z Z ?_))))))))))))))))))))))
     refine zc Z Z h12 (za (yn Z (bFF h23) Z) ⟨Z,?_⟩)
     exact ⟨false,H,⟨Z,Z,Z,Z,Z,Z,Z,Z,Z,U⟩,U⟩
   ·rintro v24 H
    replace H:z02 best3 k4 v24=some q5:=H
    unfold z02 at H
    refine zk _ Z (fun h25 => ?_) (fun h25 => ?_)
    ·exact tE h25 H fun H=>zm hN Z (qd Z (qe Z ⟨(k4:Int),H,⟨Z,Z,Z,Z,Z,Z,Z,U⟩,U⟩))
    ·exact fE h25 H fun H=>zp ⟨best3,H,⟨Z,Z,Z,Z,Z,Z,Z,U⟩,U⟩
  ·rintro best26 H
   replace H:z2n best26=some q5:=H
   unfold z2n at H
   exact zm hN Z (za (yy Z Z (by omega)) (qd Z ⟨_,qx H,⟨Z,Z,Z,Z,Z,Z,Z,U⟩,U⟩))
theorem y84 (s1:qj) (i2:Int) (v3:Int) (r:(Bool)) (H:z3o s1 i2 v3=some r):FnG Tryz.prog 107 [.ptr 0 0,.dat (vint i2),.dat (vint v3)] [(0,.box (some 0) 75 [.dat (vint s1.o_.Fails),.dat (vint s1.o_.Base),.dat (vint s1.o_.Most),.dat (vint s1.o_.Share),.row 1 s1.list_.length]),(1,.rowA undef 170 3 (List.map ul s1.list_))] (.dat (zu [zn r])) [(0,.box (some 0) 75 [.dat (vint s1.o_.Fails),.dat (vint s1.o_.Base),.dat (vint s1.o_.Most),.dat (vint s1.o_.Share),.row 1 s1.list_.length]),(1,.rowA undef 170 3 (List.map ul s1.list_))]:=by
 refine Zu (by kernel_rfl) Tryz.func107 Z Z Z Z fun X A hN => ?_
 unfold z3o at H
 refine zb hN Z (qe Z (zb hN Z (qd Z (za (zg (.ptr _ _) Z) (za (zy Z) (za (ze z5e Z) (zh (zj z5a Z Z) Z (qd Z (bE H fun x4 h5 H=>zh (jx y2b Z Z Z h5) Z (za (ql y15 Z) (zh (xq tyS3 Z Z (yp h5).2 Z) Z (za (zq Z Z) (qe Z (zo ?_))))))))))))))
 cases H
 exact ⟨U,[(6,.dat (zn (decide (v3 < x4.until_))))],⟨Z,U⟩,⟨Z,Z,U⟩,Z,.inl ⟨[zn (decide (v3 < x4.until_))],⟨Z,U⟩,Z⟩⟩
theorem x7p (s1:qj) (v2:Int) (v3:Int) (v4:Int) (r:(qj)) (H:z58 s1 v2 v3 v4=some r):FnG Tryz.prog 90 [.ptr 0 0,.dat (vint v2),.dat (vint v3),.dat (vint v4)] [(0,.box (some 0) 75 [.dat (vint s1.o_.Fails),.dat (vint s1.o_.Base),.dat (vint s1.o_.Most),.dat (vint s1.o_.Share),.row 1 s1.list_.length]),(1,.row 170 3 (List.map ul s1.list_))] (.dat (zu [])) [(0,.box (some 0) 75 [.dat (vint r.o_.Fails),.dat (vint r.o_.Base),.dat (vint r.o_.Most),.dat (vint r.o_.Share),.row 900 r.list_.length]),(900,.row 170 3 (List.map ul r.list_))]:=by
 refine Zu (by kernel_rfl) Tryz.func90 Z Z Z Z fun X A hN => ?_
 refine y40 ?_
 unfold z58 at H
 refine zd (zb hN Z (za (zg (.ptr _ _) Z) (qd Z (qd Z (bE H fun r5 h6 H=>Zp (rn [(0,0),(1,1)]) [(0,_,_,some _),(1,_,_,some _)] [] (y84 s1 v2 v3 r5 h6) ⟨Z,Z,U⟩ ⟨.inl (.inl Z),.inl (.inl Z),.inl (.inl Z),U⟩ ⟨⟨⟨Z,Z⟩,⟨by rw [List.length_map],U⟩⟩,⟨⟨Z,Z,Z⟩,Z⟩,U⟩ Z ?_)))))
 refine zk _ Z (fun h7 => ?_) (fun h7 => ?_)
 ·refine tE h7 H fun H=>zo ?_
  have eH:s1=r:=Option.some.inj H
  subst eH
  show Cv _ _ _ _
  exact z7s (rn [(1,900)]) [] [(0,.box (some (A.bl 0)) 75 [.dat (vint s1.o_.Fails),.dat (vint s1.o_.Base),.dat (vint s1.o_.Most),.dat (vint s1.o_.Share),.row 1 s1.list_.length]),(1,.row 170 3 (List.map ul s1.list_))] U ⟨Z,Z,U⟩ Z Z ⟨U,[],U,⟨Z,Z,U⟩,Z,.inl ⟨[],U,Z⟩⟩
 ·refine fE h7 H fun H=>zp (zb hN Z (za (zg (.ptr _ _) Z) (za (zy Z) (za (ze z5e Z) (zh (zj z5a Z Z) Z (qd Z (bE H fun x8 h9 H=>zh (Yl y2b Z Z Z h9) Z (za (wo (.rptr _ _ _ _ _) Z) (zd (zb hN Z (qd Z (bE H fun r10 h11 H=>za (ye (z7i v4 r10 h11) ⟨.inl Z,U⟩) (za (qs Z) (zk _ Z (fun h12 => ?_) (fun h12 => ?_)))))))))))))))
  ·refine tE h12 H fun H=>zb hN Z (za (zg (.rptr _ _ _ _ _) Z) (za (wu Z) (za (ql z5k Z) (zi (kz (yq.mk 0 x8.until_ x8.times_) tyS3 Z Z Z Z (yp h9).2 Z Z) Z (zo ?_)))))
   cases H
   show Cv _ _ _ _
   exact z7s (rn [(1,900)]) [] [(0,.box (some (A.bl 0)) 75 [.dat (vint s1.o_.Fails),.dat (vint s1.o_.Base),.dat (vint s1.o_.Most),.dat (vint s1.o_.Share),.row 1 s1.list_.length]),(1,.row 170 3 (List.map ul (s1.list_.set v2.toNat (yq.mk 0 x8.until_ x8.times_))))] U ⟨Z,Z,U⟩ Z Z ⟨U,[],U,⟨(congrArg (fun n=>some (some (AObj.box (some (A.bl 0)) 75 [.dat (vint s1.o_.Fails),.dat (vint s1.o_.Base),.dat (vint s1.o_.Most),.dat (vint s1.o_.Share),.row 900 n]))) (show s1.list_.length=(s1.list_.set v2.toNat (yq.mk 0 x8.until_ x8.times_)).length from (by simp))),Z,U⟩,Z,.inl ⟨[],U,Z⟩⟩
  ·refine fE h12 H fun H=>zp (zb hN Z (za (zg (.rptr _ _ _ _ _) Z) (za (wu Z) (za (ql z5k Z) (zh (xr tyS3 Z Z (yp h9).2 Z) Z (za (ym _ Z Z (.inl ⟨Z,Z⟩)) (za (wu Z) (za (ql z5k Z) (zi (kz (yq.mk (wr (x8.row_+1)) x8.until_ x8.times_) tyS3 Z Z Z Z (yp h9).2 Z Z) Z (zd (zd (yo mixed hN Z Z (za (zg (.rptr _ _ _ _ _) Z) (za (wu Z) (za (ql z5k Z) (zh (xr tyS3 Z (by simp) (jt (yp h9).2) Z) Z (za (zg (.ptr _ _) Z) (za (zy Z) (za (ze z8i Z) (za (ze z5i Z) (zh (zj tyS3 Z Z) Z (za (zq Z Z) ?_))))))))))))))))))))))
   refine ⟨Z,?_⟩
   refine zk _ Z (fun h13 => ?_) (fun h13 => ?_)
   ·refine tE h13 H fun H=>zo ?_
    cases H
    show Cv _ _ _ _
    exact z7s (rn [(1,900)]) [] [(0,.box (some (A.bl 0)) 75 [.dat (vint s1.o_.Fails),.dat (vint s1.o_.Base),.dat (vint s1.o_.Most),.dat (vint s1.o_.Share),.row 1 s1.list_.length]),(1,.row 170 3 (List.map ul (s1.list_.set v2.toNat (yq.mk (wr (x8.row_+1)) x8.until_ x8.times_))))] U ⟨Z,Z,U⟩ Z Z ⟨U,[],U,⟨(congrArg (fun n=>some (some (AObj.box (some (A.bl 0)) 75 [.dat (vint s1.o_.Fails),.dat (vint s1.o_.Base),.dat (vint s1.o_.Most),.dat (vint s1.o_.Share),.row 900 n]))) (show s1.list_.length=(s1.list_.set v2.toNat (yq.mk (wr (x8.row_+1)) x8.until_ x8.times_)).length from (by simp))),Z,U⟩,Z,.inl ⟨[],U,Z⟩⟩
   ·refine fE h13 H fun H=>zp (zb hN Z (za (zg (.rptr _ _ _ _ _) Z) (za (wu Z) (za (ql z5k Z) (zi (kz (yq.mk 0 x8.until_ x8.times_) tyS3 Z Z Z (by simp) (jt (yp h9).2) Z Z) Z (zb hN Z (qe Z (zd (zb hN Z (za (zg (.ptr _ _) Z) (za (zy Z) (za (ze z5e Z) (zh (zj z5a Z Z) Z (zh (xt y5m Z (by simp)) Z (qd Z (zw (gE H fun h17 H=>z2i (fun (k15:Nat) (s:Int)=>[(0,.ptr 0 0),(2,.dat (vint v3)),(8,.rptr 1 s1.list_.length 3 v2.toNat 0),(9,.dat (vint s)),(51,.dat (vint (((s1.list_.set v2.toNat (yq.mk (wr (x8.row_+1)) x8.until_ x8.times_)).set v2.toNat (yq.mk 0 x8.until_ x8.times_)).length:Int))),(52,.dat (vint (k15:Int)))]) (fun (k15:Nat) (s:Int)=>[(0,.box (some (A.bl 0)) 75 [.dat (vint s1.o_.Fails),.dat (vint s1.o_.Base),.dat (vint s1.o_.Most),.dat (vint s1.o_.Share),.row 1 s1.list_.length]),(1,.row 170 3 (List.map ul ((s1.list_.set v2.toNat (yq.mk (wr (x8.row_+1)) x8.until_ x8.times_)).set v2.toNat (yq.mk 0 x8.until_ x8.times_))))]) 1 H ⟨Z,Z,Z,Z,Z,Z,U⟩ ⟨Z,Z,U⟩ (fun _ _=>Z) ?_ ?_)))))))))))))))))
    ·rintro v14 H
     replace H:z41 s1 v2 v3 x8 v14=some r:=H
     unfold z41 at H
     refine zb hN Z (za (zq Z Z) (zd (zk _ Z (fun h=>(lt_t h).elim) (fun h => ?_))))
     refine qa (zd (yo mixed hN Z Z (qd Z (za (ym _ Z Z (.inr (.inr ⟨Z,Z⟩))) (za (zg (.ptr _ _) Z) (za (zy Z) (za (ze z8i Z) (za (ze z5h Z) (zh (zj tyS3 Z Z) Z (za (zg (.ptr _ _) Z) (za (zy Z) (za (ze z5e Z) (zh (zj z5a Z Z) Z (zh (xt y5m Z (by simp)) Z (za (ym _ Z Z (.inr (.inr ⟨Z,Z⟩))) (za (xi Z Z) ⟨Z,?_⟩))))))))))))))))
     refine zk _ Z (fun h18 => ?_) (fun h18 => ?_)
     ·refine tE h18 H fun H=>zd (yo mixed hN Z Z (za (zg (.rptr _ _ _ _ _) Z) (qd Z (za (zg (.ptr _ _) Z) (za (zy Z) (za (ze z8i Z) (za (ze z21 Z) (zh (zj tyS3 Z Z) Z (za (zg (.rptr _ _ _ _ _) Z) (za (wu Z) (za (ql y14 Z) (zh (xr tyS3 Z (by simp) (jt (jt (yp h9).2)) Z) Z (za (zg (.ptr _ _) Z) (za (zy Z) (za (ze z8i Z) (za (ze Wy Z) (zh (zj tyS3 Z Z) Z (bE H fun r19 h20 H=>za (ye (y9h s1.o_.Base x8.times_ s1.o_.Most r19 h20) ⟨.inl Z,.inl Z,.inl Z,U⟩) (za (ym _ Z Z (.inl ⟨Z,Z⟩)) (za (wu Z) (za (ql y15 Z) ?_)))))))))))))))))))))
      refine zi (kz (yq.mk 0 (wr (v3+r19)) x8.times_) tyS3 Z Z Z (by simp) (jt (jt (yp h9).2)) Z Z) Z ⟨Z,?_⟩
      refine zm hN Z (za (zg (.rptr _ _ _ _ _) Z) (za (wu Z) (za (ql y14 Z) (zh (xr tyS3 Z (by simp) (jt (jt (jt (yp h9).2))) Z) Z (za (ym _ Z Z (.inl ⟨Z,Z⟩)) (za (wu Z) (za (ql y14 Z) (zi (kz (yq.mk 0 (wr (v3+r19)) (wr (x8.times_+1))) tyS3 Z Z Z (by simp) (jt (jt (jt (yp h9).2))) Z Z) Z ?_))))))))
      cases H
      show Cv _ _ _ _
      exact z7s (rn [(1,900)]) [] [(0,.box (some (A.bl 0)) 75 [.dat (vint s1.o_.Fails),.dat (vint s1.o_.Base),.dat (vint s1.o_.Most),.dat (vint s1.o_.Share),.row 1 s1.list_.length]),(1,.row 170 3 (List.map ul ((((s1.list_.set v2.toNat (yq.mk (wr (x8.row_+1)) x8.until_ x8.times_)).set v2.toNat (yq.mk 0 x8.until_ x8.times_)).set v2.toNat (yq.mk 0 (wr (v3+r19)) x8.times_)).set v2.toNat (yq.mk 0 (wr (v3+r19)) (wr (x8.times_+1))))))] U ⟨Z,Z,U⟩ Z Z ⟨U,[],U,⟨(congrArg (fun n=>some (some (AObj.box (some (A.bl 0)) 75 [.dat (vint s1.o_.Fails),.dat (vint s1.o_.Base),.dat (vint s1.o_.Most),.dat (vint s1.o_.Share),.row 900 n]))) (show s1.list_.length=((((s1.list_.set v2.toNat (yq.mk (wr (x8.row_+1)) x8.until_ x8.times_)).set v2.toNat (yq.mk 0 x8.until_ x8.times_)).set v2.toNat (yq.mk 0 (wr (v3+r19)) x8.times_)).set v2.toNat (yq.mk 0 (wr (v3+r19)) (wr (x8.times_+1)))).length from (by simp))),Z,U⟩,Z,.inl ⟨[],U,Z⟩⟩
     ·refine fE h18 H fun H=>zp ?_
      cases H
      show Cv _ _ _ _
      exact z7s (rn [(1,900)]) [] [(0,.box (some (A.bl 0)) 75 [.dat (vint s1.o_.Fails),.dat (vint s1.o_.Base),.dat (vint s1.o_.Most),.dat (vint s1.o_.Share),.row 1 s1.list_.length]),(1,.row 170 3 (List.map ul ((s1.list_.set v2.toNat (yq.mk (wr (x8.row_+1)) x8.until_ x8.times_)).set v2.toNat (yq.mk 0 x8.until_ x8.times_))))] U ⟨Z,Z,U⟩ Z Z ⟨U,[],U,⟨(congrArg (fun n=>some (some (AObj.box (some (A.bl 0)) 75 [.dat (vint s1.o_.Fails),.dat (vint s1.o_.Base),.dat (vint s1.o_.Most),.dat (vint s1.o_.Share),.row 900 n]))) (show s1.list_.length=((s1.list_.set v2.toNat (yq.mk (wr (x8.row_+1)) x8.until_ x8.times_)).set v2.toNat (yq.mk 0 x8.until_ x8.times_)).length from (by simp))),Z,U⟩,Z,.inl ⟨[],U,Z⟩⟩
    ·rintro k15 v14 q16 h21 H hq16
     replace H:z40 s1 v2 v3 x8 k15 v14=some q16:=H
     unfold z40 at H
     refine y40 (zb hN Z (za (zq Z Z) (zd (zk _ Z (fun h => ?_) (fun h=>(lt_f h21 h).elim)))))
     refine zp (qi (ι:=Int) (fun i=>[(0,.ptr 0 0),(2,.dat (vint v3)),(8,.rptr 1 s1.list_.length 3 v2.toNat 0),(9,.dat (vint i)),(51,.dat (vint (((s1.list_.set v2.toNat (yq.mk (wr (x8.row_+1)) x8.until_ x8.times_)).set v2.toNat (yq.mk 0 x8.until_ x8.times_)).length:Int))),(52,.dat (vint (k15:Int)))]) (fun i=>[(0,.box (some (A.bl 0)) 75 [.dat (vint s1.o_.Fails),.dat (vint s1.o_.Base),.dat (vint s1.o_.Most),.dat (vint s1.o_.Share),.row 1 (((s1.list_.set v2.toNat (yq.mk (wr (x8.row_+1)) x8.until_ x8.times_)).set v2.toNat (yq.mk 0 x8.until_ x8.times_)).length)]),(1,.row 170 3 (List.map ul ((s1.list_.set v2.toNat (yq.mk (wr (x8.row_+1)) x8.until_ x8.times_)).set v2.toNat (yq.mk 0 x8.until_ x8.times_))))]) (fun i=>z2l i=some q16) (fun i=>Z) ?_ ?_)
     ·refine y40 (zw (zb hN Z (qd Z (qe Z (zb hN Z (za (zg (.ptr _ _) Z) (qd Z (qd Z (bE H fun r22 h23 H=>Zp (rn [(0,0),(1,1)]) [(0,_,_,some _),(1,_,_,some _)] [] (y84 (qj.mk s1.o_ ((s1.list_.set v2.toNat (yq.mk (wr (x8.row_+1)) x8.until_ x8.times_)).set v2.toNat (yq.mk 0 x8.until_ x8.times_))) (k15:Int) v3 r22 h23) ⟨Z,Z,U⟩ ⟨.inl (.inl Z),.inl (.inl Z),.inl (.inl Z),U⟩ ⟨⟨⟨Z,(congrArg (fun n=>([.dat (vint s1.o_.Fails),.dat (vint s1.o_.Base),.dat (vint s1.o_.Most),.dat (vint s1.o_.Share),.row 1 n]:List Slot)) (show s1.list_.length=((s1.list_.set v2.toNat (yq.mk (wr (x8.row_+1)) x8.until_ x8.times_)).set v2.toNat (yq.mk 0 x8.until_ x8.times_)).length from (by simp)))⟩,⟨by rw [List.length_map],U⟩⟩,⟨⟨Z,Z,Z⟩,Z⟩,U⟩ Z ?_)))))))))
      refine zk _ Z (fun h24 => ?_) (fun h24 => ?_)
      ·refine tE h24 H fun H=>zm hN Z (qd Z (za (ym _ Z Z (.inl ⟨Z,Z⟩)) (qe Z (y63 ?_))))
       show Cv _ _ _ _
       exact y4j ⟨wr (v14+1),H,⟨Z,Z,Z,Z,Z,Z,U⟩,⟨Z,Z,U⟩⟩
      ·refine fE h24 H fun H=>zp ?_
       show Cv _ _ _ _
       exact y4j ⟨v14,H,⟨Z,Z,Z,Z,Z,Z,U⟩,⟨Z,Z,U⟩⟩
     ·rintro v25 H
      replace H:z2l v25=some q16:=H
      unfold z2l at H
      refine zm hN Z (za (yy Z Z (by omega)) (qd Z (y63 ?_)))
      show Cv _ _ _ _
      exact y4j ⟨_,qx H,⟨Z,Z,Z,Z,Z,Z,U⟩,⟨(congrArg (fun n=>some (some (AObj.box (some (A.bl 0)) 75 [.dat (vint s1.o_.Fails),.dat (vint s1.o_.Base),.dat (vint s1.o_.Most),.dat (vint s1.o_.Share),.row 1 n]))) (show ((s1.list_.set v2.toNat (yq.mk (wr (x8.row_+1)) x8.until_ x8.times_)).set v2.toNat (yq.mk 0 x8.until_ x8.times_)).length=s1.list_.length from (by simp))),Z,U⟩⟩
theorem x8i (s1:qj) (i2:Int) (v3:Int) (r:(Bool)) (H:z9v s1 i2 v3=some r):Fn Tryz.prog 107 [zx [[vint s1.o_.Fails,vint s1.o_.Base,vint s1.o_.Most,vint s1.o_.Share,vlst (List.map ul s1.list_)]] 0 0,vint i2,vint v3] (zu [zn r]):=by
 refine ⟨by kernel_rfl,yr (us:=[zn r]) Tryz.func107 Z Z Z Z fun X hN => ?_⟩
 unfold z9v at H
 refine zb hN Z (qe Z (zb hN Z (qd Z (qd Z (za (ub Z) (za (wd z5e Z) (za (yt z5a Z Z Z) (qd Z (bE H fun x4 h5 H=>za (js y2b (fun _=>Z) Z Z h5) (za (wd y15 Z) (za (yt tyS3 Z (yz (yp h5).2) Z) (za (zq Z Z) (qe Z (zo ?_))))))))))))))
 cases H
 exact ⟨U,.inl Z,U⟩
theorem z7j (status1:Int) (r:(Bool)) (H:z3x status1=some r):Fn Tryz.prog 99 [vint status1] (zu [zn r]):=by
 refine ⟨by kernel_rfl,yr (us:=[zn r]) Tryz.func99 Z Z Z Z fun X hN => ?_⟩
 unfold z3x at H
 refine zb hN Z (qe Z (zb hN Z (qd Z (za (qz Z Z) (qd Z (ue Z Z (fun hc=>zg (.dat _) Z) (ue Z Z (fun hc=>ke (cnd (c:=(!(decide (status1=0)))) hc) Z) (za (z1k Z Z (fun hb=>(cnd (c:=(!(decide (status1=0)))) (notI hb)))) (qe Z (zo ?_))))))))))
 cases H
 exact ⟨U,.inl Z,U⟩
theorem y85 (s1:qn) (v2:Int) (r:((List Bs))) (H:z3y s1 v2=some r):FnG Tryz.prog 113 [.ptr 0 0,.dat (vint v2)] [(0,.box (some 0) 137 [.dat (vlst (List.map ya s1.l_)),.dat (vint s1.o_.Fails),.dat (vint s1.o_.Base),.dat (vint s1.o_.Most),.dat (vint s1.o_.Share),.mp 2,.mp 3,.mp 4]),(2,.opq (some 0) (vj Tryz.prog 9 3 s1.row_.1 s1.row_.2)),(3,.opq (some 0) (vj Tryz.prog 9 3 s1.times_.1 s1.times_.2)),(4,.opq (some 0) (vj Tryz.prog 9 3 s1.until_.1 s1.until_.2))] (.dat (zu [vlst (List.map vd r)])) [(0,.box (some 0) 137 [.dat (vlst (List.map ya s1.l_)),.dat (vint s1.o_.Fails),.dat (vint s1.o_.Base),.dat (vint s1.o_.Most),.dat (vint s1.o_.Share),.mp 2,.mp 3,.mp 4]),(2,.opq (some 0) (vj Tryz.prog 9 3 s1.row_.1 s1.row_.2)),(3,.opq (some 0) (vj Tryz.prog 9 3 s1.times_.1 s1.times_.2)),(4,.opq (some 0) (vj Tryz.prog 9 3 s1.until_.1 s1.until_.2))]:=by
 refine Zu (by kernel_rfl) Tryz.func113 Z Z Z Z fun X A hN => ?_
 unfold z3y at H
 refine zb hN Z (qe Z (zb hN Z (qe Z (zd (zb hN Z (za (zg (.ptr _ _) Z) (za (zy Z) (za (ze y6a Z) (zh (zj kd Z Z) Z (za (yx vw Z) (qd Z (zw (Qb 5 10 9 1 Z Z Z (gE H fun h6 H=>wg (fun (k4:Nat) (s:(List Bs))=>[(0,.ptr 0 0),(1,.dat (vint v2)),(5,.row 10 s.length),(11,.dat (vlst (List.map ya s1.l_))),(12,.dat (vint (s1.l_.length:Int))),(13,.dat (vint (k4:Int)))]) (fun (k4:Nat) (s:(List Bs))=>[(0,.box (some (A.bl 0)) 137 [.dat (vlst (List.map ya s1.l_)),.dat (vint s1.o_.Fails),.dat (vint s1.o_.Base),.dat (vint s1.o_.Most),.dat (vint s1.o_.Share),.mp 2,.mp 3,.mp 4]),(2,.opq (some (A.bl 2)) (vj Tryz.prog 9 3 s1.row_.1 s1.row_.2)),(3,.opq (some (A.bl 3)) (vj Tryz.prog 9 3 s1.times_.1 s1.times_.2)),(4,.opq (some (A.bl 4)) (vj Tryz.prog 9 3 s1.until_.1 s1.until_.2)),(10,.row 9 1 (List.map vd s))]) [] H ⟨Z,Z,Z,Z,Z,Z,U⟩ ⟨Z,Z,Z,Z,Z,U⟩ (fun _ _=>Z) ?_ ?_))))))))))))))
 ·rintro l3 H
  replace H:y0o l3=some r:=H
  unfold y0o at H
  refine zb hN Z (za (zq Z Z) (zd (zk _ Z (fun h=>(lt_t h).elim) (fun h => ?_))))
  refine qa (zb hN Z (za (zg (.row _ _) Z) (za (wo (.row _ _) Z) (x3p 4 10 Z Z Z (zo ?_)))))
  have eH:l3=r:=Option.some.inj H
  subst eH
  exact ⟨U,[(4,.dat (vlst (List.map vd l3)))],⟨Z,U⟩,⟨Z,Z,Z,Z,U⟩,Z,.inl ⟨[vlst (List.map vd l3)],⟨Z,U⟩,Z⟩⟩
 ·rintro k4 x7 l3 q5 h8 h9 H hq5
  replace H:z15 s1 v2 k4 x7 l3=some q5:=H
  unfold z15 at H
  refine zb hN Z (za (zq Z Z) (zd (zk _ Z (fun h => ?_) (fun h=>(lt_f h8 h).elim))))
  refine zp (qi (ι:=(List Bs)) (fun i=>[(0,.ptr 0 0),(1,.dat (vint v2)),(5,.row 10 i.length),(11,.dat (vlst (List.map ya s1.l_))),(12,.dat (vint (s1.l_.length:Int))),(13,.dat (vint (k4:Int)))]) (fun i=>[(0,.box (some (A.bl 0)) 137 [.dat (vlst (List.map ya s1.l_)),.dat (vint s1.o_.Fails),.dat (vint s1.o_.Base),.dat (vint s1.o_.Most),.dat (vint s1.o_.Share),.mp 2,.mp 3,.mp 4]),(2,.opq (some (A.bl 2)) (vj Tryz.prog 9 3 s1.row_.1 s1.row_.2)),(3,.opq (some (A.bl 3)) (vj Tryz.prog 9 3 s1.times_.1 s1.times_.2)),(4,.opq (some (A.bl 4)) (vj Tryz.prog 9 3 s1.until_.1 s1.until_.2)),(10,.row 9 1 (List.map vd i))]) (fun i=>z4e i=some q5) (fun i=>Z) ?_ ?_)
  ·skip
   refine zw (zb hN Z (za (wb jq (fun _=>Z) Z Z h9) (za (wv vm Z (yz h9) Z) (zi (qh 11 um Z) Z (zi (qf vm Z Z Z Z) Z (zd (yo mixed hN Z Z (qd Z (za (zg (.ptr _ _) Z) (za (zy Z) (za (ze y17 Z) (zh (zj Qj Z Z) Z (za (ze jg Z) (zh (zj tyS9 Z Z) Z (gE H fun h10 H=>zh (z28 xe Z Z h10) Z (za (zq Z Z) ⟨Z,?_⟩))))))))))))))))
   refine zk _ Z (fun h11 => ?_) (fun h11 => ?_)
   ·refine tE h11 H fun H=>zm hN Z (za (zg (.row _ _) Z) (za (ze jg Z) (zh (zj tyS9 Z Z) Z (za (yb (u':=vlst (List.map vd [x7.Key])) (qr [[_]] Yf ⟨Z,.inl ⟨_,Z,Z,Z⟩,Z,U⟩ Z Z) Z) (gE H fun h12 H=>zi (jo Yf (fun _=>Z) Z Z Z ⟨by simp,by first | (simp; done) | simpa using h12⟩ Z) Z ?_)))))
    exact za (wo (.row _ _) Z) ⟨(l3++[x7.Key]),H,⟨Z,Z,Z,Z,Z,Z,U⟩,⟨Z,Z,Z,Z,Z,U⟩⟩
   ·exact fE h11 H fun H=>zp ⟨l3,H,⟨Z,Z,Z,Z,Z,Z,U⟩,⟨Z,Z,Z,Z,Z,U⟩⟩
  ·rintro out13 H
   replace H:z4e out13=some q5:=H
   unfold z4e at H
   exact zm hN Z (za (yy Z Z (by omega)) (qd Z ⟨_,qx H,⟨Z,Z,Z,Z,Z,Z,U⟩,⟨Z,Z,Z,Z,Z,U⟩⟩))
theorem x7q (s1:qn) (v2:z7w) (r:(qn)) (H:z6l s1 v2=some r):FnG Tryz.prog 98 [.ptr 0 0,.dat (vagg (x1p v2))] [(0,.box (some 0) 137 [.dat (vlst (List.map ya s1.l_)),.dat (vint s1.o_.Fails),.dat (vint s1.o_.Base),.dat (vint s1.o_.Most),.dat (vint s1.o_.Share),.mp 2,.mp 3,.mp 4]),(2,.opq (some 0) (vj Tryz.prog 9 3 s1.row_.1 s1.row_.2)),(3,.opq (some 0) (vj Tryz.prog 9 3 s1.times_.1 s1.times_.2)),(4,.opq (some 0) (vj Tryz.prog 9 3 s1.until_.1 s1.until_.2))] (.dat (zu [])) [(0,.box (some 0) 137 [.dat (vlst (List.map ya r.l_)),.dat (vint r.o_.Fails),.dat (vint r.o_.Base),.dat (vint r.o_.Most),.dat (vint r.o_.Share),.mp 2,.mp 3,.mp 4]),(2,.opq (some 0) (vj Tryz.prog 9 3 r.row_.1 r.row_.2)),(3,.opq (some 0) (vj Tryz.prog 9 3 r.times_.1 r.times_.2)),(4,.opq (some 0) (vj Tryz.prog 9 3 r.until_.1 r.until_.2))]:=by
 refine Zu (by kernel_rfl) Tryz.func98 Z Z Z Z fun X A hN => ?_
 unfold z6l at H
 refine zb hN Z (zi (vt 10 Z) Z (zd (zd (yo mixed hN Z Z (za (ze y16 Z) (zh (zj tyS3 Z Z) Z (za (zg (.ptr _ _) Z) (za (zy Z) (za (ze y17 Z) (zh (zj Qj Z Z) Z (za (ze Wz Z) (zh (zj tyS9 Z Z) Z (gE H fun h3 H=>zh (z28 xe Z Z h3) Z (za (zq Z Z) ⟨Z,?_⟩))))))))))))))
 refine zk _ Z (fun h4 => ?_) (fun h4 => ?_)
 ·refine tE h4 H fun H=>zo ?_
  cases H
  exact ⟨U,[],U,⟨Z,Z,Z,Z,U⟩,Z,.inl ⟨[],U,Z⟩⟩
 ·refine fE h4 H fun H=>zp (zd (zb hN Z (za (ze x3c Z) (zh (zj tyS3 Z Z) Z (bE H fun r5 h6 H=>za (ye (z7j v2.Status r5 h6) ⟨.inl Z,U⟩) (za (qs Z) (zk _ Z (fun h7 => ?_) (fun h7 => ?_))))))))
  ·refine tE h7 H fun H=>zd (yo mixed hN Z Z (za (zg (.ptr _ _) Z) (za (zy Z) (za (ze z8n Z) (zh (zj Qj Z Z) Z (za (ze Wz Z) (zh (zj tyS9 Z Z) Z (gE H fun h8 H=>zi (z5p xe Z Z Z h8.1 h8.2.1 h8.2.2) Z ⟨Z,?_⟩))))))))
   refine zo ?_
   cases H
   exact ⟨U,[],U,⟨Z,Z,Z,Z,U⟩,Z,.inl ⟨[],U,Z⟩⟩
  ·refine fE h7 H fun H=>zp (zd (yo mixed hN Z Z (za (zg (.ptr _ _) Z) (za (zy Z) (za (ze z8n Z) (zh (zj Qj Z Z) Z (za (ze Wz Z) (zh (zj tyS9 Z Z) Z (gE H fun h9 H=>zh (z28 xe Z Z h9) Z (za (ym _ Z Z (.inl ⟨Z,Z⟩)) (gE H fun h10 H=>zi (z5p xe Z Z Z h10.1 h10.2.1 h10.2.2) Z ⟨Z,?_⟩)))))))))))
   refine zd (zd (yo mixed hN Z Z (za (zg (.ptr _ _) Z) (za (zy Z) (za (ze z8n Z) (zh (zj Qj Z Z) Z (za (ze Wz Z) (zh (zj tyS9 Z Z) Z (gE H fun h11 H=>zh (z28 xe Z Z h11) Z (za (zg (.ptr _ _) Z) (za (zy Z) (za (ze z8o Z) (za (ze z5i Z) (zh (zj tyS3 Z Z) Z (za (zq Z Z) ⟨Z,?_⟩)))))))))))))))
   refine zk _ Z (fun h12 => ?_) (fun h12 => ?_)
   ·refine tE h12 H fun H=>zo ?_
    cases H
    exact ⟨U,[],U,⟨Z,Z,Z,Z,U⟩,Z,.inl ⟨[],U,Z⟩⟩
   ·refine fE h12 H fun H=>zp (zd (yo mixed hN Z Z (za (zg (.ptr _ _) Z) (za (zy Z) (za (ze z8n Z) (zh (zj Qj Z Z) Z (za (ze Wz Z) (zh (zj tyS9 Z Z) Z (gE H fun h13 H=>zi (z5p xe Z Z Z h13.1 h13.2.1 h13.2.2) Z ⟨Z,?_⟩)))))))))
    refine zd (zd (yo mixed hN Z Z (za (zg (.ptr _ _) Z) (za (ze y16 Z) (zh (zj tyS3 Z Z) Z (bE H fun r14 h15 H=>y64 (rn [(0,0),(2,2),(3,3),(4,4)]) [(0,_,_,some _),(2,_,_,some _),(3,_,_,some _),(4,_,_,some _)] (y85 (qn.mk s1.l_ s1.o_ (((s1.row_.1+1)+1),(upm (upm s1.row_.2 v2.Instance (wr ((s1.row_.2 v2.Instance)+1))) v2.Instance 0)) (s1.times_.1,s1.times_.2) (s1.until_.1,s1.until_.2)) v2.At r14 h15) ⟨Z,Z,Z,Z,U⟩ ⟨.inl (.inl Z),.inl (.inl Z),U⟩ ⟨⟨⟨Z,Z⟩,U⟩,⟨Z,U⟩,⟨Z,U⟩,⟨Z,U⟩,U⟩ Z Z (za (yx Wu Z) (za (ym _ Z Z (.inl ⟨Z,Z⟩)) (za (ym _ Z Z (.inr (.inr ⟨Z,Z⟩))) (za (zg (.ptr _ _) Z) (za (zy Z) (za (ze z8o Z) (za (ze z5h Z) (zh (zj tyS3 Z Z) Z (za (zg (.ptr _ _) Z) (za (zy Z) (za (ze y6a Z) (zh (zj kd Z Z) Z (za (yx vw Z) (za (ym _ Z Z (.inr (.inr ⟨Z,Z⟩))) (za (vn Z Z) ⟨Z,?_⟩)))))))))))))))))))))
    refine zk _ Z (fun h16 => ?_) (fun h16 => ?_)
    ·refine tE h16 H fun H=>zo ?_
     cases H
     exact ⟨U,[],U,⟨Z,Z,Z,Z,U⟩,Z,.inl ⟨[],U,Z⟩⟩
    ·refine fE h16 H fun H=>zp (zb hN Z (za (zg (.ptr _ _) Z) (za (zy Z) (za (ze z8o Z) (za (ze z21 Z) (zh (zj tyS3 Z Z) Z (qe Z (zd (zd (yo mixed hN Z Z (za (zg (.ptr _ _) Z) (za (zy Z) (za (ze y59 Z) (zh (zj Qj Z Z) Z (za (ze Wz Z) (zh (zj tyS9 Z Z) Z (gE H fun h17 H=>zh (z28 xe Z Z h17) Z (qd Z ⟨Z,?_⟩))))))))))))))))))
     refine zw (gE H fun h21 H=>z2i (fun (k19:Nat) (s:Int)=>[(0,.ptr 0 0),(3,.ptr 10 0),(4,.dat (vint s)),(82,.dat (vint (s1.times_.2 v2.Instance))),(83,.dat (vint (k19:Int)))]) (fun (k19:Nat) (s:Int)=>[(0,.box (some (A.bl 0)) 137 [.dat (vlst (List.map ya s1.l_)),.dat (vint s1.o_.Fails),.dat (vint s1.o_.Base),.dat (vint s1.o_.Most),.dat (vint s1.o_.Share),.mp 2,.mp 3,.mp 4]),(2,.opq (some (A.bl 2)) (vj Tryz.prog 9 3 ((s1.row_.1+1)+1) (upm (upm s1.row_.2 v2.Instance (wr ((s1.row_.2 v2.Instance)+1))) v2.Instance 0))),(3,.opq (some (A.bl 3)) (vj Tryz.prog 9 3 s1.times_.1 s1.times_.2)),(4,.opq (some (A.bl 4)) (vj Tryz.prog 9 3 s1.until_.1 s1.until_.2)),(10,.box none 158 [.dat (vint v2.At),.dat (vstr v2.Instance),.dat (vint v2.Status)])]) s1.o_.Base H ⟨Z,Z,Z,Z,Z,U⟩ ⟨Z,Z,Z,Z,Z,U⟩ (fun _ _=>Z) ?_ ?_)
     ·rintro v18 H
      replace H:z4d s1 v2 v18=some r:=H
      unfold z4d at H
      refine zb hN Z (za (zq Z Z) (zd (zk _ Z (fun h=>(z37 h).elim) (fun h => ?_))))
      refine qa (zd (yo mixed hN Z Z (za (zg (.ptr _ _) Z) (za (zy Z) (za (ze y59 Z) (zh (zj Qj Z Z) Z (za (ze Wz Z) (zh (zj tyS9 Z Z) Z (gE H fun h22 H=>zh (z28 xe Z Z h22) Z (za (ym _ Z Z (.inl ⟨Z,Z⟩)) (gE H fun h23 H=>zi (z5p xe Z Z Z h23.1 h23.2.1 h23.2.2) Z ⟨Z,?_⟩)))))))))))
      refine yo mixed hN Z Z (za (zg (.ptr _ _) Z) (za (zy Z) (za (ze y17 Z) (zh (zj Qj Z Z) Z (za (ze Wz Z) (zh (zj tyS9 Z Z) Z (za (ze y16 Z) (zh (zj tyS3 Z Z) Z (qd Z (za (ym _ Z Z (.inl ⟨Z,Z⟩)) (gE H fun h24 H=>zi (z5p xe Z Z Z h24.1 h24.2.1 h24.2.2) Z ⟨Z,?_⟩)))))))))))
      cases H
      exact ⟨U,[],U,⟨Z,Z,Z,Z,U⟩,Z,.inl ⟨[],U,Z⟩⟩
     ·rintro k19 v18 q20 h25 H hq20
      replace H:z0o s1 k19 v18=some q20:=H
      unfold z0o at H
      refine zb hN Z (za (zq Z Z) (zd (zk _ Z (fun h => ?_) (fun h=>(z38 h25 h).elim))))
      exact zp (zd (zw (zm hN Z (qd Z (za (ym _ Z Z (.inr (.inr ⟨Z,Z⟩))) (za (zg (.ptr _ _) Z) (za (zy Z) (za (ze z8o Z) (za (ze Wy Z) (zh (zj tyS3 Z Z) Z (za (y2i Z Z) (qe Z (zm hN Z (za (yy Z Z (by omega)) (qd Z ⟨_,qx H,⟨Z,Z,Z,Z,Z,U⟩,⟨Z,Z,Z,Z,Z,U⟩⟩)))))))))))))))
theorem x7x (l1:(List zl)) (o2:vo) (r:(qn)) (H:y0a l1 o2=some r):FnG Tryz.prog 43 [.dat (vlst (List.map ya l1)),.dat (vagg (xx o2))] [] (.ptr 5 0) [(5,.box none 137 [.dat (vlst (List.map ya r.l_)),.dat (vint r.o_.Fails),.dat (vint r.o_.Base),.dat (vint r.o_.Most),.dat (vint r.o_.Share),.mp 2,.mp 3,.mp 4]),(2,.opq none (vj Tryz.prog 9 3 r.row_.1 r.row_.2)),(3,.opq none (vj Tryz.prog 9 3 r.times_.1 r.times_.2)),(4,.opq none (vj Tryz.prog 9 3 r.until_.1 r.until_.2))]:=by
 refine Zu (by kernel_rfl) Tryz.func43 Z Z Z Z fun X A hN => ?_
 unfold y0a at H
 refine zb hN Z (zi (vt 1 Z) Z (qe Z (zb hN Z (qd Z (zh (wm xb Z Z Z) Z (zi (y2h 2 xe) Z (zi (y2h 3 xe) Z (zi (y2h 4 xe) Z (za (y2e (s' := .comp false [.dat (vlst (List.map ya l1)),.dat (vint o2.Fails),.dat (vint o2.Base),.dat (vint o2.Most),.dat (vint o2.Share),.mp 2,.mp 3,.mp 4]) (y2l [] [(0,[.dat (vlst (List.map ya l1))]),(1,(xx o2).map .dat),(5,[.mp 2]),(6,[.mp 3]),(7,[.mp 4])] x2f x2w Z ⟨Z,.inl ⟨_,.inl ⟨_,Z,Z,Z⟩,Z⟩,Z,Z,.inl ⟨_,.inr Z,Z⟩,Z,Z,.inr (.inr ⟨_,Z,Z⟩),Z,Z,.inr (.inr ⟨_,Z,Z⟩),Z,Z,.inr (.inr ⟨_,Z,Z⟩),Z,U⟩) Z) (zi (y2n 5 Z) Z (za (wo (.ptr _ _) Z) (zo ?_))))))))))))
 cases H
 exact ⟨U,[(4,.ptr 5 0)],⟨Z,U⟩,⟨Z,Z,Z,Z,U⟩,Z,.inr (.inl ⟨4,Z,Z⟩)⟩
theorem x8j (s1:yj) (c2:Int) (r:(Bool)) (H:z9w s1 c2=some r):Fn Tryz.prog 73 [zx [[vint s1.state_,vint s1.start_,vmpG Qd s1.tried_,vstr s1.out_.Call,vlst (List.map jm s1.out_.Tries),vint s1.out_.Done,vint s1.out_.Status]] 0 0,zx [[vint c2]] 0 0] (zu [zn r]):=by
 refine ⟨by kernel_rfl,yr (us:=[zn r]) Tryz.func73 Z Z Z Z fun X hN => ?_⟩
 unfold z9w at H
 refine zb hN Z (qe Z (zd (yo mixed hN Z Z (qd Z (za (ub Z) (za (wd z5d Z) (za (yt tyS3 Z Z Z) (za (qz Z Z) (qd Z (qt Z Z (fun hc=>zg (.dat _) Z) (qt Z Z (fun hc=>ub (cnd (c:=(decide (s1.state_=0))) hc)) (qt Z Z (fun hc=>wd y13 (cnd (c:=(decide (s1.state_=0))) hc)) (qt Z Z (fun hc=>yt tyS3 (cnd (c:=(decide (s1.state_=0))) hc) Z Z) (qt Z Z (fun hc=>yt tyS3 Z Z Z) (qt Z Z (fun hc=>qz (cnd (c:=(decide (s1.state_=0))) hc) (cnd (c:=(decide (s1.state_=0))) hc)) (za (uv Z (fun hb=>(cnd (c:=(decide (s1.state_=0))) hb)) Z) (qe Z ⟨Z,?_⟩)))))))))))))))))
 refine zo ?_
 cases H
 exact ⟨U,.inl Z,U⟩
theorem x8y (s1:(List (Option yj))) (p1:(Option yj)→Option (Bool)) (fv1:Nat) (us1:List V) (hp1:∀ a0 r,p1 a0=some r→Fn Tryz.prog fv1 ([vopt y1o a0]++us1) (zu [zn r])) (r:(Int)) (H:z91 s1 p1=some r):Fn Tryz.prog 72 [vlst (List.map x1n s1),vfn fv1 us1] (zu [vint r]):=by
 refine ⟨by kernel_rfl,yr (us:=[vint r]) Tryz.func72 Z Z Z Z fun X hN => ?_⟩
 unfold z91 at H
 refine zb hN Z (qe Z (zd (zb hN Z (qd Z (za (yx y1z Z) (qd Z (zw (gE H fun h4 H=>wg (fun (k2:Nat) (s:Unit)=>[(0,.dat (vlst (List.map x1n s1))),(1,.dat (vfn fv1 us1)),(7,.dat (vint (s1.length:Int))),(8,.dat (vint (k2:Int)))]) (fun (k2:Nat) (s:Unit)=>[]) () H ⟨Z,Z,Z,Z,U⟩ U (fun _ _=>Z) ?_ ?_))))))))
 ·rintro ⟨⟩ H
  replace H:z86=some r:=H
  unfold z86 at H
  refine zb hN Z (za (zq Z Z) (zd (zk _ Z (fun h=>(lt_t h).elim) (fun h => ?_))))
  refine qa (zb hN Z (qe Z (zo ?_)))
  cases H
  exact ⟨U,.inl Z,U⟩
 ·rintro k2 x5 ⟨⟩ q3 h6 h7 H hq3
  replace H:z85 p1 k2 x5=some q3:=H
  unfold z85 at H
  refine zb hN Z (za (zq Z Z) (zd (zk _ Z (fun h => ?_) (fun h=>(lt_f h6 h).elim))))
  refine zp (zd (zw (zb hN Z (qd Z (qe Z (zb hN Z (qd Z (qd Z (qd Z (za (wb z5m (fun _=>Z) Z Z h7) (za (yt z2w Z (yz h7) Z) (bE H fun r8 h9 H=>za (uw (hp1 x5 r8 h9) Z ⟨.inl Z,U⟩) (zk _ Z (fun h10 => ?_) (fun h10 => ?_))))))))))))))
  ·refine tE h10 H fun H=>zb hN Z (qd Z (qe Z (zo ?_)))
   replace H:=retl H hq3
   cases H
   exact ⟨U,.inl Z,U⟩
  ·exact fE h10 H fun H=>zp (zm hN Z (za (yy Z Z (by omega)) (qd Z ⟨_,qx H,⟨Z,Z,Z,Z,U⟩,U⟩)))
theorem x9c (t1:qc) (c2:zl) (r:(Bool)) (H:y3s t1 c2=some r):Fn Tryz.prog 117 [vagg (jm t1),zx [[vstr c2.Key,vint c2.Weight]] 0 0] (zu [zn r]):=by
 refine ⟨by kernel_rfl,yr (us:=[zn r]) Tryz.func117 Z Z Z Z fun X hN => ?_⟩
 unfold y3s at H
 refine zb hN Z (zi (vt 1 Z) Z (qe Z (zb hN Z (za (ze z8p Z) (zh (zj tyS9 Z Z) Z (za (wd jg Z) (za (yt tyS9 Z Z Z) (za (xu Z Z) (qe Z (zo ?_))))))))))
 cases H
 exact ⟨U,.inl Z,U⟩
theorem x8z (s1:(List qc)) (p1:qc→Option (Bool)) (fv1:Nat) (us1:List V) (hp1:∀ a0 r,p1 a0=some r→Fn Tryz.prog fv1 ([vagg (jm a0)]++us1) (zu [zn r])) (r:(Int)) (H:y3q s1 p1=some r):Fn Tryz.prog 123 [vlst (List.map jm s1),vfn fv1 us1] (zu [vint r]):=by
 refine ⟨by kernel_rfl,yr (us:=[vint r]) Tryz.func123 Z Z Z Z fun X hN => ?_⟩
 unfold y3q at H
 refine zb hN Z (qe Z (zd (zb hN Z (qd Z (za (yx Zi Z) (qd Z (zw (gE H fun h4 H=>wg (fun (k2:Nat) (s:Unit)=>[(0,.dat (vlst (List.map jm s1))),(1,.dat (vfn fv1 us1)),(7,.dat (vint (s1.length:Int))),(8,.dat (vint (k2:Int)))]) (fun (k2:Nat) (s:Unit)=>[]) () H ⟨Z,Z,Z,Z,U⟩ U (fun _ _=>Z) ?_ ?_))))))))
 ·rintro ⟨⟩ H
  replace H:y2x=some r:=H
  unfold y2x at H
  refine zb hN Z (za (zq Z Z) (zd (zk _ Z (fun h=>(lt_t h).elim) (fun h => ?_))))
  refine qa (zb hN Z (qe Z (zo ?_)))
  cases H
  exact ⟨U,.inl Z,U⟩
 ·rintro k2 x5 ⟨⟩ q3 h6 h7 H hq3
  replace H:y2w p1 k2 x5=some q3:=H
  unfold y2w at H
  refine zb hN Z (za (zq Z Z) (zd (zk _ Z (fun h => ?_) (fun h=>(lt_f h6 h).elim))))
  refine zp (zd (zw (zb hN Z (qd Z (qe Z (zb hN Z (qd Z (qd Z (qd Z (za (wb z5l (fun _=>Z) Z Z h7) (za (wv z2y Z (yz h7) Z) (bE H fun r8 h9 H=>za (uw (hp1 x5 r8 h9) Z ⟨.inl Z,U⟩) (zk _ Z (fun h10 => ?_) (fun h10 => ?_))))))))))))))
  ·refine tE h10 H fun H=>zb hN Z (qd Z (qe Z (zo ?_)))
   replace H:=retl H hq3
   cases H
   exact ⟨U,.inl Z,U⟩
  ·exact fE h10 H fun H=>zp (zm hN Z (za (yy Z Z (by omega)) (qd Z ⟨_,qx H,⟨Z,Z,Z,Z,U⟩,U⟩)))
theorem x86 (s1:(List qc)) (p1:qc→Option (Bool)) (fv1:Nat) (us1:List V) (hp1:∀ a0 r,p1 a0=some r→Fn Tryz.prog fv1 ([vagg (jm a0)]++us1) (zu [zn r])) (r:(Bool)) (H:z96 s1 p1=some r):Fn Tryz.prog 116 [vlst (List.map jm s1),vfn fv1 us1] (zu [zn r]):=by
 refine ⟨by kernel_rfl,yr (us:=[zn r]) Tryz.func116 Z Z Z Z fun X hN => ?_⟩
 unfold z96 at H
 refine zb hN Z (qe Z (zb hN Z (qd Z (qd Z (bE H fun r2 h3 H=>za (ye (x8z s1 p1 fv1 us1 hp1 r2 h3) ⟨.inl Z,.inl Z,U⟩) (za (ke Z Z) (qe Z (zo ?_))))))))
 cases H
 exact ⟨U,.inl Z,U⟩
theorem y9s (x1:Int) (r:(Bool)) (H:z7b x1=some r):Fn Tryz.prog 89 [vint x1] (zu [zn r]):=by
 refine ⟨by kernel_rfl,yr (us:=[zn r]) Tryz.func89 Z Z Z Z fun X hN => ?_⟩
 unfold z7b at H
 refine zb hN Z (qe Z (zb hN Z (qd Z (qd Z (za (km Z Z) (qe Z (zo ?_)))))))
 cases H
 exact ⟨U,.inl Z,U⟩
theorem x96 (x1:Int) (y2:Int) (r:(Int)) (H:y0d x1 y2=some r):Fn Tryz.prog 70 [vint x1,vint y2] (zu [vint r]):=by
 refine ⟨by kernel_rfl,yr (us:=[vint r]) Tryz.func70 Z Z Z Z fun X hN => ?_⟩
 unfold y0d at H
 refine zb hN Z (qe Z (zb hN Z (qd Z (bE H fun r3 h4 H=>za (ye (y9s x1 r3 h4) ⟨.inl Z,U⟩) (qe Z (zb hN Z (qd Z (bE H fun r5 h6 H=>za (ye (y9s y2 r5 h6) ⟨.inl Z,U⟩) (qe Z (zd (zb hN Z (qd Z (zk _ Z (fun h7 => ?_) (fun h7 => ?_))))))))))))))
 ·refine tE h7 H fun H=>zd (zb hN Z (qd Z (zk _ Z (fun h8 => ?_) (fun h8 => ?_))))
  ·refine tE h8 H fun H=>zb hN Z (qe Z (zo ?_))
   cases H
   exact ⟨U,.inl Z,U⟩
  ·refine fE h8 H fun H=>zp (zb hN Z (qe Z (zo ?_)))
   cases H
   exact ⟨U,.inl Z,U⟩
 ·refine fE h7 H fun H=>zp (zd (zb hN Z (qd Z (zk _ Z (fun h9 => ?_) (fun h9 => ?_)))))
  ·refine tE h9 H fun H=>zb hN Z (qe Z (zo ?_))
   cases H
   exact ⟨U,.inl Z,U⟩
  ·refine fE h9 H fun H=>zp (zd (zb hN Z (qd Z (qd Z (za (zq Z Z) (zk _ Z (fun h10 => ?_) (fun h10 => ?_)))))))
   ·refine tE h10 H fun H=>zb hN Z (qe Z (zo ?_))
    cases H
    exact ⟨U,.inl Z,U⟩
   ·refine fE h10 H fun H=>zp (zd (zb hN Z (qd Z (qd Z (za (vn Z Z) (zk _ Z (fun h11 => ?_) (fun h11 => ?_)))))))
    ·refine tE h11 H fun H=>zb hN Z (qe Z (zo ?_))
     cases H
     exact ⟨U,.inl Z,U⟩
    ·refine fE h11 H fun H=>zp (zb hN Z (qe Z (zo ?_)))
     cases H
     exact ⟨U,.inl Z,U⟩
theorem x8k (a1:zt) (b2:zt) (r:(Int)) (H:Yr a1 b2=some r):Fn Tryz.prog 69 [vagg (yv a1),vagg (yv b2)] (zu [vint r]):=by
 refine ⟨by kernel_rfl,yr (us:=[vint r]) Tryz.func69 Z Z Z Z fun X hN => ?_⟩
 unfold Yr at H
 refine zb hN Z (zi (vt 1 Z) Z (zi (vt 2 Z) Z (qe Z (zb hN Z (za (ze y18 Z) (zh (zj tyS3 Z Z) Z (za (ze y18 Z) (zh (zj tyS3 Z Z) Z (bE H fun r3 h4 H=>za (ye (x96 a1.sent_ b2.sent_ r3 h4) ⟨.inl Z,.inl Z,U⟩) (qe Z (zo ?_)))))))))))
 cases H
 exact ⟨U,.inl Z,U⟩
theorem y86 (data1:(List zt)) (a2:Int) (b3:Int) (p3:zt→zt→Option (Int)) (fv3:Nat) (us3:List V) (hp3:∀ a0 a1 r,p3 a0 a1=some r→Fn Tryz.prog fv3 ([vagg (yv a0),vagg (yv a1)]++us3) (zu [vint r])) (r:((List zt))) (H:z90 data1 a2 b3 p3=some r):FnG Tryz.prog 105 [.row 0 data1.length,.dat (vint a2),.dat (vint b3),.dat (vfn fv3 us3)] [(0,.rowA undef 122 5 (List.map yv data1))] (.dat (zu [])) [(0,.rowA undef 122 5 (List.map yv r))]:=by
 refine Zu (by kernel_rfl) Tryz.func105 Z Z Z Z fun X A hN => ?_
 unfold z90 at H
 refine zb hN Z (qd Z (za (ym _ Z Z (.inl ⟨Z,Z⟩)) (qe Z (zw (z0x (fun (s:Int×(List zt))=>[(0,.row 0 s.2.length),(1,.dat (vint a2)),(2,.dat (vint b3)),(3,.dat (vfn fv3 us3)),(8,.dat (vint s.1))]) (fun (s:Int×(List zt))=>[(0,.rowA (A.vl 0) 122 5 (List.map yv s.2))]) (wr (a2+1),data1) H ⟨Z,Z,Z,Z,Z,U⟩ ⟨Z,U⟩ (fun _=>Z) ?_)))))
 rintro ⟨i4,l5⟩ q6 H hq6
 replace H:y2t a2 b3 p3 i4 l5=some q6:=H
 unfold y2t at H
 refine zd (zb hN Z (qd Z (qd Z (za (zq Z Z) (zk _ Z (fun h7 => ?_) (fun h7 => ?_))))))
 ·refine tE h7 H fun H=>zp (qi (ι:=(List zt)) (fun i=>[(0,.row 0 i.length),(1,.dat (vint a2)),(2,.dat (vint b3)),(3,.dat (vfn fv3 us3)),(8,.dat (vint i4))]) (fun i=>[(0,.rowA (A.vl 0) 122 5 (List.map yv i))]) (fun i=>z84 i4 i=some q6) (fun i=>Z) ?_ ?_)
  ·skip
   refine zw (zb hN Z (qd Z (qe Z (zw (z0x (fun (s:Int×(List zt))=>[(0,.row 0 s.2.length),(1,.dat (vint a2)),(2,.dat (vint b3)),(3,.dat (vfn fv3 us3)),(8,.dat (vint i4)),(9,.dat (vint s.1))]) (fun (s:Int×(List zt))=>[(0,.rowA (A.vl 0) 122 5 (List.map yv s.2))]) (i4,l5) H ⟨Z,Z,Z,Z,Z,Z,U⟩ ⟨Z,U⟩ (fun _=>Z) ?_)))))
   rintro ⟨j8,l9⟩ q10 H hq10
   replace H:y2s a2 p3 i4 j8 l9=some q10:=H
   unfold y2s at H
   refine zd (qi (ι:=Bool) (fun i=>[(0,.row 0 l9.length),(1,.dat (vint a2)),(2,.dat (vint b3)),(3,.dat (vfn fv3 us3)),(8,.dat (vint i4)),(9,.dat (vint j8)),(34,.dat (zn i))]) (fun i=>[(0,.rowA (A.vl 0) 122 5 (List.map yv l9))]) (fun i=>z5v i4 j8 l9 i=some q10) (fun i=>Z) ?_ ?_)
   ·skip
    refine yo mixed hN Z Z (qd Z (qd Z (za (vn Z Z) (qd Z (qo (j:=3) Z Z (fun h11 => ?_) (fun h11 => ?_) Z)))))
    ·refine u1 h11 H fun h12 H=>zf Z Z h11 (zg (.dat _) Z) (zf Z Z h11 (zg (.row _ _) Z) (zf Z Z h11 (zg (.dat _) Z) (bE H fun x13 h14 H=>yd Z Z h11 (jx ur Z Z Z h14) Z (yd Z Z h11 (Yk ja Z Z (yp h14).2 Z) Z (zf Z Z h11 (zg (.row _ _) Z) (zf Z Z h11 (zg (.dat _) Z) (zf Z Z h11 (ym _ Z Z (.inr (.inl ⟨Z,Z⟩))) (bE H fun x15 h16 H=>yd Z Z h11 (jx ur Z Z Z h16) Z (yd Z Z h11 (Yk ja Z Z (yp h16).2 Z) Z (bE H fun r17 h18 H=>zf Z Z h11 (uw (hp3 x13 x15 r17 h18) Z ⟨.inl Z,.inl Z,U⟩) (zf Z Z h11 (zq Z Z) (za (yh Z (bTT h12) Z) ⟨Z,?_⟩))))))))))))
     exact ⟨decide (r17 < 0),H,⟨Z,Z,Z,Z,Z,Z,Z,U⟩,⟨Z,U⟩⟩
    ·refine u2 h11 H fun h19 H=>zc Z Z h11 (zc Z Z h11 (zc Z Z h11 (zc Z Z h11 (zc Z Z h11 (zc Z Z h11 (zc Z Z h11 (zc Z Z h11 (zc Z Z h11 (zc Z Z h11 (zc Z Z h11 (zc Z Z h11 (za (yn Z (bFF h19) Z) ⟨Z,?_⟩))))))))))))
     exact ⟨false,H,⟨Z,Z,Z,Z,Z,Z,Z,U⟩,⟨Z,U⟩⟩
   ·rintro v20 H
    replace H:z5v i4 j8 l9 v20=some q10:=H
    unfold z5v at H
    refine zk _ Z (fun h21 => ?_) (fun h21 => ?_)
    ·refine tE h21 H fun H=>zp (zd (zw (yo mixed hN Z Z (za (zg (.row _ _) Z) (qd Z (za (zg (.row _ _) Z) (qd Z (za (ym _ Z Z (.inr (.inl ⟨Z,Z⟩))) (za (zg (.row _ _) Z) (qd Z (za (ym _ Z Z (.inr (.inl ⟨Z,Z⟩))) (bE H fun x22 h23 H=>zh (jx ur Z Z Z h23) Z (zh (Yk ja Z Z (yp h23).2 Z) Z (za (zg (.row _ _) Z) (qd Z (bE H fun x24 h25 H=>zh (jx ur Z Z Z h25) Z (zh (Yk ja Z Z (yp h25).2 Z) Z (zh (jx ur Z Z Z h25) Z (zi (y6c (C:=yv) ja Z Z Z (x1b (yp h25).2) Z Z) Z (bE H fun x26 h27 H=>?_))))))))))))))))))))
     refine zh (jx ur Z (by simp) Z h27) Z (zi (y6c (C:=yv) ja Z Z (by simp) (x1b (yp h27).2) Z Z) Z ⟨Z,?_⟩)
     exact zm hN Z (qd Z (za (ym _ Z Z (.inr (.inl ⟨Z,Z⟩))) (qe Z ⟨_,qx H,⟨congrArg (Slot.row 0) (by simp),Z,Z,Z,Z,Z,U⟩,⟨Z,U⟩⟩)))
    ·refine fE h21 H fun H=>qa ?_
     replace H:=outl H hq10
     exact ⟨l9,H,⟨Z,Z,Z,Z,Z,U⟩,⟨Z,U⟩⟩
  ·rintro data28 H
   replace H:z84 i4 data28=some q6:=H
   unfold z84 at H
   exact zm hN Z (qd Z (za (ym _ Z Z (.inl ⟨Z,Z⟩)) (qe Z ⟨_,qx H,⟨Z,Z,Z,Z,Z,U⟩,⟨Z,U⟩⟩)))
 ·refine fE h7 H fun H=>qa ?_
  replace H:=retl H hq6
  have eH:l5=r:=Option.some.inj H
  subst eH
  exact ⟨U,[],U,⟨Z,U⟩,Z,.inl ⟨[],U,Z⟩⟩
theorem x7r (data1:(List zt)) (n2:Int) (p2:zt→zt→Option (Int)) (fv2:Nat) (us2:List V) (hp2:∀ a0 a1 r,p2 a0 a1=some r→Fn Tryz.prog fv2 ([vagg (yv a0),vagg (yv a1)]++us2) (zu [vint r])) (r:((List zt))) (H:z9z data1 n2 p2=some r):FnG Tryz.prog 88 [.row 0 data1.length,.dat (vint n2),.dat (vfn fv2 us2)] [(0,.rowA undef 122 5 (List.map yv data1))] (.dat (zu [])) [(0,.rowA undef 122 5 (List.map yv r))]:=by
 refine Zu (by kernel_rfl) Tryz.func88 Z Z Z Z fun X A hN => ?_
 unfold z9z at H
 refine zb hN Z (qe Z (zb hN Z (qd Z (qe Z (qe Z (qi (ι:=Int×(List zt)) (fun i=>[(0,.row 0 i.2.length),(1,.dat (vint n2)),(2,.dat (vfn fv2 us2)),(6,.dat (vint 20)),(7,.dat (vint i.1))]) (fun i=>[(0,.rowA (A.vl 0) 122 5 (List.map yv i.2))]) (fun i=>z83 n2 p2 i.1 i.2=some r) (fun i=>Z) ?_ ?_))))))
 ·skip
  refine zw (z0x (fun (s:Int×Int×(List zt))=>[(0,.row 0 s.2.2.length),(1,.dat (vint n2)),(2,.dat (vfn fv2 us2)),(6,.dat (vint 20)),(7,.dat (vint s.1)),(8,.dat (vint s.2.1))]) (fun (s:Int×Int×(List zt))=>[(0,.rowA (A.vl 0) 122 5 (List.map yv s.2.2))]) (0,20,data1) H ⟨Z,Z,Z,Z,Z,Z,U⟩ ⟨Z,U⟩ (fun _=>Z) ?_)
  rintro ⟨a3,b4,l5⟩ q6 H hq6
  replace H:y2r n2 p2 a3 b4 l5=some q6:=H
  unfold y2r at H
  refine zd (zb hN Z (qd Z (qd Z (za (xi Z Z) (zk _ Z (fun h7 => ?_) (fun h7 => ?_))))))
  ·refine tE h7 H fun H=>zp (zw (zb hN Z (za (zg (.row _ _) Z) (qd Z (qd Z (qd Z (bE H fun r8 h9 H=>gE H fun h10 H=>Zp (rn [(0,0)]) [(0,_,_,some _)] [] (y86 l5 a3 b4 p2 fv2 us2 hp2 r8 h9) ⟨Z,U⟩ ⟨.inl (.inl Z),.inl (.inl Z),.inl (.inl Z),.inl (.inl Z),U⟩ ⟨⟨⟨Z,Z,Z⟩,by simp [z0d,h10]⟩,U⟩ Z ?_)))))))
   exact zb hN Z (qd Z (qe Z (zm hN Z (qd Z (qd Z (za (ym _ Z Z (.inl ⟨Z,Z⟩)) (qe Z ⟨_,qx H,⟨congrArg (Slot.row 0) ((h10).symm).symm,Z,Z,Z,Z,Z,U⟩,⟨Z,U⟩⟩)))))))
  ·refine fE h7 H fun H=>qa ?_
   replace H:=outl H hq6
   exact ⟨(a3,l5),H,⟨Z,Z,Z,Z,Z,U⟩,⟨Z,U⟩⟩
 ·rintro ⟨a11,data12⟩ H
  replace H:z83 n2 p2 a11 data12=some r:=H
  unfold z83 at H
  refine zb hN Z (za (zg (.row _ _) Z) (qd Z (qd Z (qd Z (bE H fun r13 h14 H=>gE H fun h15 H=>Zp (rn [(0,0)]) [(0,_,_,some _)] [] (y86 data12 a11 n2 p2 fv2 us2 hp2 r13 h14) ⟨Z,U⟩ ⟨.inl (.inl Z),.inl (.inl Z),.inl (.inl Z),.inl (.inl Z),U⟩ ⟨⟨⟨Z,Z,Z⟩,by simp [z0d,h15]⟩,U⟩ Z ?_)))))
  refine zw (z0x (fun (s:Int)=>[(0,.row 0 data12.length),(1,.dat (vint n2)),(2,.dat (vfn fv2 us2)),(6,.dat (vint s))]) (fun (s:Int)=>[(0,.rowA (A.vl 0) 122 5 (List.map yv r13))]) 20 H ⟨Z,Z,Z,Z,U⟩ ⟨Z,U⟩ (fun _=>Z) ?_)
  rintro blockSize16 q17 H hq17
  replace H:y2q n2 r13 blockSize16=some q17:=H
  unfold y2q at H
  refine zd (zb hN Z (qd Z (qd Z (za (zq Z Z) (zk _ Z (fun h18 => ?_) (fun h18 => ?_))))))
  ·refine tE h18 H fun H=>zp (zw (zb hN Z (qd Z (za (ym _ Z Z (.inr (.inr ⟨Z,Z⟩))) (qe Z (qe Z (qi (ι:=Int) (fun i=>[(0,.row 0 data12.length),(1,.dat (vint n2)),(2,.dat (vfn fv2 us2)),(6,.dat (vint blockSize16)),(7,.dat (vint i))]) (fun i=>[(0,.rowA (A.vl 0) 122 5 (List.map yv r13))]) (fun i=>z82 n2 blockSize16 i=some q17) (fun i=>Z) ?_ ?_)))))))
   ·skip
    refine zw (z0x (fun (s:Int×Int)=>[(0,.row 0 data12.length),(1,.dat (vint n2)),(2,.dat (vfn fv2 us2)),(6,.dat (vint blockSize16)),(7,.dat (vint s.1)),(8,.dat (vint s.2))]) (fun (s:Int×Int)=>[(0,.rowA (A.vl 0) 122 5 (List.map yv r13))]) (0,wr (2 * blockSize16)) H ⟨Z,Z,Z,Z,Z,Z,U⟩ ⟨Z,U⟩ (fun _=>Z) ?_)
    rintro ⟨a19,b20⟩ q21 H hq21
    replace H:y2p n2 blockSize16 a19 b20=some q21:=H
    unfold y2p at H
    refine zd (zb hN Z (qd Z (qd Z (za (xi Z Z) (zk _ Z (fun h22 => ?_) (fun h22 => ?_))))))
    ·refine tE h22 H fun H=>?_
     cases H
    ·refine fE h22 H fun H=>qa ?_
     replace H:=outl H hq21
     exact ⟨a19,H,⟨Z,Z,Z,Z,Z,U⟩,⟨Z,U⟩⟩
   ·rintro a23 H
    replace H:z82 n2 blockSize16 a23=some q17:=H
    unfold z82 at H
    refine qi (ι:=Unit) (fun i=>[(0,.row 0 data12.length),(1,.dat (vint n2)),(2,.dat (vfn fv2 us2)),(6,.dat (vint blockSize16))]) (fun i=>[(0,.rowA (A.vl 0) 122 5 (List.map yv r13))]) (fun i=>z81 blockSize16=some q17) (fun i=>Z) ?_ ?_
    ·skip
     refine zb hN Z (qd Z (qd Z (za (ym _ Z Z (.inl ⟨Z,Z⟩)) (qe Z (zb hN Z (qd Z (qd Z (za (zq Z Z) (zk _ Z (fun h24 => ?_) (fun h24 => ?_))))))))))
     ·refine tE h24 H fun H=>?_
      cases H
     ·exact fE h24 H fun H=>zp ⟨(),H,⟨Z,Z,Z,Z,U⟩,⟨Z,U⟩⟩
    ·rintro ⟨⟩ H
     replace H:z81 blockSize16=some q17:=H
     unfold z81 at H
     exact zm hN Z (qd Z (za (ym _ Z Z (.inr (.inr ⟨Z,Z⟩))) (qe Z ⟨_,qx H,⟨Z,Z,Z,Z,U⟩,⟨Z,U⟩⟩)))
  ·refine fE h18 H fun H=>qa ?_
   replace H:=retl H hq17
   have eH:r13=r:=Option.some.inj H
   subst eH
   exact ⟨U,[],U,⟨Z,U⟩,Z,.inl ⟨[],U,Z⟩⟩
end Go.Proofs.YtgdijjmdfcgifaaGreat
