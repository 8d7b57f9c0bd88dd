/- Walks along the models. Printed by a program. -/
import Derived.Test.YtnnfdgngnoamoaaGreatDoorXbw5
namespace Go.Proofs.YtnnfdgngnoamoaaGreatDoor
open Go.RowKit
set_option linter.unusedVariables false
set_option maxRecDepth 100000
set_option maxHeartbeats 2000000
theorem x3c (data1:(List zk)) (a2:Int) (b3:Int) (p3:zk→zk→Option (Int)) (fv3:Nat) (us3:List V) (hp3:∀ a0 a1 r,p3 a0 a1=some r→Fn Tryz.prog fv3 ([vagg (yi a0),vagg (yi a1)]++us3) (yc [vint r])) (r:((List zk))) (H:y2h data1 a2 b3 p3=some r):FnG Tryz.prog 136 [.row 0 data1.length,.dat (vint a2),.dat (vint b3),.dat (vfn fv3 us3)] [(0,.rowA undef 102 5 (List.map yi data1))] (.dat (yc [])) [(0,.rowA undef 102 5 (List.map yi r))]:=by
 refine uv (by kernel_rfl) Tryz.func136 Z Z Z Z fun X A hN => ?_
 unfold y2h at H
 refine zc hN Z (qd Z (za (yj _ Z Z (.inl ⟨Z,Z⟩)) (qe Z (yd (ui (fun (s:Int×(List zk))=>[(0,.row 0 s.2.length),(1,.dat (vint a2)),(2,.dat (vint b3)),(3,.dat (vfn fv3 us3)),(8,.dat (vint s.1))]) (fun (s:Int×(List zk))=>[(0,.rowA (A.vl 0) 102 5 (List.map yi s.2))]) (wr (a2+1),data1) H ⟨Z,Z,Z,Z,Z,U⟩ ⟨Z,U⟩ (fun _=>Z) ?_)))))
 rintro ⟨i4,l5⟩ q6 H hq6
 replace H:y5r a2 b3 p3 i4 l5=some q6:=H
 unfold y5r at H
 refine zf (zc hN Z (qd Z (qd Z (za (ye Z Z) (zi _ Z (fun h7 => ?_) (fun h7 => ?_))))))
 ·refine tE h7 H fun H=>zp (yw (ι:=(List zk)) (fun i=>[(0,.row 0 i.length),(1,.dat (vint a2)),(2,.dat (vint b3)),(3,.dat (vfn fv3 us3)),(8,.dat (vint i4))]) (fun i=>[(0,.rowA (A.vl 0) 102 5 (List.map yi i))]) (fun i=>y1a i4 i=some q6) (fun i=>Z) ?_ ?_)
  ·skip
   refine yd (zc hN Z (qd Z (qe Z (yd (ui (fun (s:Int×(List zk))=>[(0,.row 0 s.2.length),(1,.dat (vint a2)),(2,.dat (vint b3)),(3,.dat (vfn fv3 us3)),(8,.dat (vint i4)),(9,.dat (vint s.1))]) (fun (s:Int×(List zk))=>[(0,.rowA (A.vl 0) 102 5 (List.map yi s.2))]) (i4,l5) H ⟨Z,Z,Z,Z,Z,Z,U⟩ ⟨Z,U⟩ (fun _=>Z) ?_)))))
   rintro ⟨j8,l9⟩ q10 H hq10
   replace H:y5q a2 p3 i4 j8 l9=some q10:=H
   unfold y5q at H
   refine zf (yw (ι:=Bool) (fun i=>[(0,.row 0 l9.length),(1,.dat (vint a2)),(2,.dat (vint b3)),(3,.dat (vfn fv3 us3)),(8,.dat (vint i4)),(9,.dat (vint j8)),(34,.dat (zr i))]) (fun i=>[(0,.rowA (A.vl 0) 102 5 (List.map yi l9))]) (fun i=>z65 i4 j8 l9 i=some q10) (fun i=>Z) ?_ ?_)
   ·skip
    refine wl mixed hN Z Z (qd Z (qd Z (za (wz Z Z) (qd Z (qv (j:=3) Z Z (fun h11 => ?_) (fun h11 => ?_) Z)))))
    ·refine u1 h11 H fun h12 H=>zo Z Z h11 (zg (.dat _) Z) (zo Z Z h11 (zg (.row _ _) Z) (zo Z Z h11 (zg (.dat _) Z) (bE H fun x13 h14 H=>wc Z Z h11 (kh jm Z Z Z h14) Z (wc Z Z h11 (xo vk Z Z (qi h14).2 Z) Z (zo Z Z h11 (zg (.row _ _) Z) (zo Z Z h11 (zg (.dat _) Z) (zo Z Z h11 (yj _ Z Z (.inr (.inl ⟨Z,Z⟩))) (bE H fun x15 h16 H=>wc Z Z h11 (kh jm Z Z Z h16) Z (wc Z Z h11 (xo vk Z Z (qi h16).2 Z) Z (bE H fun r17 h18 H=>zo Z Z h11 (ua (hp3 x13 x15 r17 h18) Z ⟨.inl Z,.inl Z,U⟩) (zo Z Z h11 (ye Z Z) (za (qt Z (bTT h12) Z) ⟨Z,?_⟩))))))))))))
     exact ⟨decide (r17 < 0),H,⟨Z,Z,Z,Z,Z,Z,Z,U⟩,⟨Z,U⟩⟩
    ·refine u2 h11 H fun h19 H=>zh Z Z h11 (zh Z Z h11 (zh Z Z h11 (zh Z Z h11 (zh Z Z h11 (zh Z Z h11 (zh Z Z h11 (zh Z Z h11 (zh Z Z h11 (zh Z Z h11 (zh Z Z h11 (zh Z Z h11 (za (yq Z (bFF h19) Z) ⟨Z,?_⟩))))))))))))
     exact ⟨false,H,⟨Z,Z,Z,Z,Z,Z,Z,U⟩,⟨Z,U⟩⟩
   ·rintro v20 H
    replace H:z65 i4 j8 l9 v20=some q10:=H
    unfold z65 at H
    refine zi _ Z (fun h21 => ?_) (fun h21 => ?_)
    ·refine tE h21 H fun H=>zp (zf (yd (wl mixed hN Z Z (za (zg (.row _ _) Z) (qd Z (za (zg (.row _ _) Z) (qd Z (za (yj _ Z Z (.inr (.inl ⟨Z,Z⟩))) (za (zg (.row _ _) Z) (qd Z (za (yj _ Z Z (.inr (.inl ⟨Z,Z⟩))) (bE H fun x22 h23 H=>ze (kh jm Z Z Z h23) Z (ze (xo vk Z Z (qi h23).2 Z) Z (za (zg (.row _ _) Z) (qd Z (bE H fun x24 h25 H=>ze (kh jm Z Z Z h25) Z (ze (xo vk Z Z (qi h25).2 Z) Z (ze (kh jm Z Z Z h25) Z (zd (z3t (C:=yi) vk Z Z Z (z3f (qi h25).2) Z Z) Z (bE H fun x26 h27 H=>?_))))))))))))))))))))
     refine ze (kh jm Z (by simp) Z h27) Z (zd (z3t (C:=yi) vk Z Z (by simp) (z3f (qi h27).2) Z Z) Z ⟨Z,?_⟩)
     exact zq hN Z (qd Z (za (yj _ Z Z (.inr (.inl ⟨Z,Z⟩))) (qe Z ⟨_,qj H,⟨congrArg (Slot.row 0) (by simp),Z,Z,Z,Z,Z,U⟩,⟨Z,U⟩⟩)))
    ·refine fE h21 H fun H=>qk ?_
     replace H:=outl H hq10
     exact ⟨l9,H,⟨Z,Z,Z,Z,Z,U⟩,⟨Z,U⟩⟩
  ·rintro data28 H
   replace H:y1a i4 data28=some q6:=H
   unfold y1a at H
   exact zq hN Z (qd Z (za (yj _ Z Z (.inl ⟨Z,Z⟩)) (qe Z ⟨_,qj H,⟨Z,Z,Z,Z,Z,U⟩,⟨Z,U⟩⟩)))
 ·refine fE h7 H fun H=>qk ?_
  replace H:=retl H hq6
  have eH:l5=r:=Option.some.inj H
  subst eH
  exact ⟨U,[],U,⟨Z,U⟩,Z,.inl ⟨[],U,Z⟩⟩
theorem w1i (data1:(List zk)) (n2:Int) (p2:zk→zk→Option (Int)) (fv2:Nat) (us2:List V) (hp2:∀ a0 a1 r,p2 a0 a1=some r→Fn Tryz.prog fv2 ([vagg (yi a0),vagg (yi a1)]++us2) (yc [vint r])) (r:((List zk))) (H:y2e data1 n2 p2=some r):FnG Tryz.prog 94 [.row 0 data1.length,.dat (vint n2),.dat (vfn fv2 us2)] [(0,.rowA undef 102 5 (List.map yi data1))] (.dat (yc [])) [(0,.rowA undef 102 5 (List.map yi r))]:=by
 refine uv (by kernel_rfl) Tryz.func94 Z Z Z Z fun X A hN => ?_
 unfold y2e at H
 refine zc hN Z (qe Z (zc hN Z (qd Z (qe Z (qe Z (yw (ι:=Int×(List zk)) (fun i=>[(0,.row 0 i.2.length),(1,.dat (vint n2)),(2,.dat (vfn fv2 us2)),(6,.dat (vint 20)),(7,.dat (vint i.1))]) (fun i=>[(0,.rowA (A.vl 0) 102 5 (List.map yi i.2))]) (fun i=>y08 n2 p2 i.1 i.2=some r) (fun i=>Z) ?_ ?_))))))
 ·skip
  refine yd (ui (fun (s:Int×Int×(List zk))=>[(0,.row 0 s.2.2.length),(1,.dat (vint n2)),(2,.dat (vfn fv2 us2)),(6,.dat (vint 20)),(7,.dat (vint s.1)),(8,.dat (vint s.2.1))]) (fun (s:Int×Int×(List zk))=>[(0,.rowA (A.vl 0) 102 5 (List.map yi s.2.2))]) (0,20,data1) H ⟨Z,Z,Z,Z,Z,Z,U⟩ ⟨Z,U⟩ (fun _=>Z) ?_)
  rintro ⟨a3,b4,l5⟩ q6 H hq6
  replace H:y5l n2 p2 a3 b4 l5=some q6:=H
  unfold y5l at H
  refine zf (zc hN Z (qd Z (qd Z (za (xb Z Z) (zi _ Z (fun h7 => ?_) (fun h7 => ?_))))))
  ·refine tE h7 H fun H=>zp (yd (zc hN Z (za (zg (.row _ _) Z) (qd Z (qd Z (qd Z (bE H fun r8 h9 H=>gE H fun h10 H=>ue (rn [(0,0)]) [(0,_,_,some _)] [] (x3c l5 a3 b4 p2 fv2 us2 hp2 r8 h9) ⟨Z,U⟩ ⟨.inl (.inl Z),.inl (.inl Z),.inl (.inl Z),.inl (.inl Z),U⟩ ⟨⟨⟨Z,Z,Z⟩,by simp [uc,h10]⟩,U⟩ Z ?_)))))))
   exact zc hN Z (qd Z (qe Z (zq hN Z (qd Z (qd Z (za (yj _ Z Z (.inl ⟨Z,Z⟩)) (qe Z ⟨_,qj H,⟨congrArg (Slot.row 0) ((h10).symm).symm,Z,Z,Z,Z,Z,U⟩,⟨Z,U⟩⟩)))))))
  ·refine fE h7 H fun H=>qk ?_
   replace H:=outl H hq6
   exact ⟨(a3,l5),H,⟨Z,Z,Z,Z,Z,U⟩,⟨Z,U⟩⟩
 ·rintro ⟨a11,data12⟩ H
  replace H:y08 n2 p2 a11 data12=some r:=H
  unfold y08 at H
  refine zc hN Z (za (zg (.row _ _) Z) (qd Z (qd Z (qd Z (bE H fun r13 h14 H=>gE H fun h15 H=>ue (rn [(0,0)]) [(0,_,_,some _)] [] (x3c data12 a11 n2 p2 fv2 us2 hp2 r13 h14) ⟨Z,U⟩ ⟨.inl (.inl Z),.inl (.inl Z),.inl (.inl Z),.inl (.inl Z),U⟩ ⟨⟨⟨Z,Z,Z⟩,by simp [uc,h15]⟩,U⟩ Z ?_)))))
  refine yd (ui (fun (s:Int)=>[(0,.row 0 data12.length),(1,.dat (vint n2)),(2,.dat (vfn fv2 us2)),(6,.dat (vint s))]) (fun (s:Int)=>[(0,.rowA (A.vl 0) 102 5 (List.map yi r13))]) 20 H ⟨Z,Z,Z,Z,U⟩ ⟨Z,U⟩ (fun _=>Z) ?_)
  rintro blockSize16 q17 H hq17
  replace H:y5k n2 r13 blockSize16=some q17:=H
  unfold y5k at H
  refine zf (zc hN Z (qd Z (qd Z (za (ye Z Z) (zi _ Z (fun h18 => ?_) (fun h18 => ?_))))))
  ·refine tE h18 H fun H=>zp (yd (zc hN Z (qd Z (za (yj _ Z Z (.inr (.inr ⟨Z,Z⟩))) (qe Z (qe Z (yw (ι:=Int) (fun i=>[(0,.row 0 data12.length),(1,.dat (vint n2)),(2,.dat (vfn fv2 us2)),(6,.dat (vint blockSize16)),(7,.dat (vint i))]) (fun i=>[(0,.rowA (A.vl 0) 102 5 (List.map yi r13))]) (fun i=>y07 n2 blockSize16 i=some q17) (fun i=>Z) ?_ ?_)))))))
   ·skip
    refine yd (ui (fun (s:Int×Int)=>[(0,.row 0 data12.length),(1,.dat (vint n2)),(2,.dat (vfn fv2 us2)),(6,.dat (vint blockSize16)),(7,.dat (vint s.1)),(8,.dat (vint s.2))]) (fun (s:Int×Int)=>[(0,.rowA (A.vl 0) 102 5 (List.map yi r13))]) (0,wr (2 * blockSize16)) H ⟨Z,Z,Z,Z,Z,Z,U⟩ ⟨Z,U⟩ (fun _=>Z) ?_)
    rintro ⟨a19,b20⟩ q21 H hq21
    replace H:y5j n2 blockSize16 a19 b20=some q21:=H
    unfold y5j at H
    refine zf (zc hN Z (qd Z (qd Z (za (xb Z Z) (zi _ Z (fun h22 => ?_) (fun h22 => ?_))))))
    ·refine tE h22 H fun H=>?_
     cases H
    ·refine fE h22 H fun H=>qk ?_
     replace H:=outl H hq21
     exact ⟨a19,H,⟨Z,Z,Z,Z,Z,U⟩,⟨Z,U⟩⟩
   ·rintro a23 H
    replace H:y07 n2 blockSize16 a23=some q17:=H
    unfold y07 at H
    refine yw (ι:=Unit) (fun i=>[(0,.row 0 data12.length),(1,.dat (vint n2)),(2,.dat (vfn fv2 us2)),(6,.dat (vint blockSize16))]) (fun i=>[(0,.rowA (A.vl 0) 102 5 (List.map yi r13))]) (fun i=>y06 blockSize16=some q17) (fun i=>Z) ?_ ?_
    ·skip
     refine zc hN Z (qd Z (qd Z (za (yj _ Z Z (.inl ⟨Z,Z⟩)) (qe Z (zc hN Z (qd Z (qd Z (za (ye Z Z) (zi _ Z (fun h24 => ?_) (fun h24 => ?_))))))))))
     ·refine tE h24 H fun H=>?_
      cases H
     ·exact fE h24 H fun H=>zp ⟨(),H,⟨Z,Z,Z,Z,U⟩,⟨Z,U⟩⟩
    ·rintro ⟨⟩ H
     replace H:y06 blockSize16=some q17:=H
     unfold y06 at H
     exact zq hN Z (qd Z (za (yj _ Z Z (.inr (.inr ⟨Z,Z⟩))) (qe Z ⟨_,qj H,⟨Z,Z,Z,Z,U⟩,⟨Z,U⟩⟩)))
  ·refine fE h18 H fun H=>qk ?_
   replace H:=retl H hq17
   have eH:r13=r:=Option.some.inj H
   subst eH
   exact ⟨U,[],U,⟨Z,U⟩,Z,.inl ⟨[],U,Z⟩⟩
theorem w1o (x1:(List zk)) (p1:zk→zk→Option (Int)) (fv1:Nat) (us1:List V) (hp1:∀ a0 a1 r,p1 a0 a1=some r→Fn Tryz.prog fv1 ([vagg (yi a0),vagg (yi a1)]++us1) (yc [vint r])) (r:((List zk))) (H:z4h x1 p1=some r):FnG Tryz.prog 52 [.row 0 x1.length,.dat (vfn fv1 us1)] [(0,.rowA undef 102 5 (List.map yi x1))] (.dat (yc [])) [(0,.rowA undef 102 5 (List.map yi r))]:=by
 refine uv (by kernel_rfl) Tryz.func52 Z Z Z Z fun X A hN => ?_
 unfold z4h at H
 refine zq hN Z (za (zg (.row _ _) Z) (za (zg (.row _ _) Z) (ze (y0w Zc Z Z) Z (qd Z (bE H fun r2 h3 H=>gE H fun h4 H=>ue (rn [(0,0)]) [(0,_,_,some _)] [] (w1i x1 (x1.length:Int) p1 fv1 us1 hp1 r2 h3) ⟨Z,U⟩ ⟨.inl (.inl Z),.inl (.inl Z),.inl (.inl Z),U⟩ ⟨⟨⟨Z,Z,Z⟩,by simp [uc,h4]⟩,U⟩ Z ?_)))))
 have eH:r2=r:=Option.some.inj H
 subst eH
 exact ⟨U,[],U,⟨Z,U⟩,Z,.inl ⟨[],U,Z⟩⟩
theorem y7t (a1:zk) (b2:zk) (r:(Int)) (H:Yy a1 b2=some r):Fn Tryz.prog 53 [vagg (yi a1),vagg (yi b2)] (yc [vint r]):=by
 refine ⟨by kernel_rfl,yl (us:=[vint r]) Tryz.func53 Z Z Z Z fun X hN => ?_⟩
 unfold Yy at H
 refine zc hN Z (zd (qr 1 Z) Z (zd (qr 2 Z) Z (qe Z (zf (zc hN Z (za (zj jw Z) (ze (zl tyS3 Z Z) Z (za (zj jw Z) (ze (zl tyS3 Z Z) Z (za (vn Z Z) (zi _ Z (fun h3 => ?_) (fun h3 => ?_))))))))))))
 ·refine tE h3 H fun H=>zc hN Z (za (zj jw Z) (ze (zl tyS3 Z Z) Z (za (zj jw Z) (ze (zl tyS3 Z Z) Z (za (yj _ Z Z (.inr (.inl ⟨Z,Z⟩))) (bE H fun r4 h5 H=>za (yb (x3n (wr (a1.At - b2.At)) r4 h5) ⟨.inl Z,U⟩) (qe Z (zn ?_))))))))
  cases H
  exact ⟨U,.inl Z,U⟩
 ·refine fE h3 H fun H=>zp (zc hN Z (za (zj Zf Z) (ze (zl tyS9 Z Z) Z (za (zj uz Z) (ze (zl tyS9 Z Z) Z (za (yf (u':=vlst (List.map yr [a1.App,a1.Product])) (qa [[_],[_]] vh ⟨Z,.inl ⟨_,Z,Z,Z⟩,Z,Z,.inl ⟨_,Z,Z,Z⟩,Z,U⟩ Z Z) Z) (za (zj Zf Z) (ze (zl tyS9 Z Z) Z (za (zj uz Z) (ze (zl tyS9 Z Z) Z (za (yf (u':=vlst (List.map yr [b2.App,b2.Product])) (qa [[_],[_]] vh ⟨Z,.inl ⟨_,Z,Z,Z⟩,Z,Z,.inl ⟨_,Z,Z,Z⟩,Z,U⟩ Z Z) Z) (bE H fun r6 h7 H=>za (yb (x3i [a1.App,a1.Product] [b2.App,b2.Product] r6 h7) ⟨.inl Z,.inl Z,U⟩) (qe Z (zn ?_))))))))))))))
  cases H
  exact ⟨U,.inl Z,U⟩
theorem w1r (v1:(List zk)) (p1:zk→zk→Option (Bool)) (fv1:Nat) (us1:List V) (hp1:∀ a0 a1 r,p1 a0 a1=some r→Fn Tryz.prog fv1 ([vagg (yi a0),vagg (yi a1)]++us1) (yc [zr r])) (r:((List zk))) (H:y7c v1 p1=some r):FnG Tryz.prog 54 [.row 0 v1.length,.dat (vfn fv1 us1)] [(0,.row 102 5 (List.map yi v1))] (.row 900 r.length) [(900,.row 102 5 (List.map yi r))]:=by
 refine uv (by kernel_rfl) Tryz.func54 Z Z Z Z fun X A hN => ?_
 unfold y7c at H
 refine zc hN Z (qe Z (zf (zc hN Z (za (zg (.row _ _) Z) (ze (z0g Zc Z Z) Z (za (ye Z Z) (zi _ Z (fun h2 => ?_) (fun h2 => ?_))))))))
 ·refine tE h2 H fun H=>zc hN Z (za (zg (.row _ _) Z) (za (qy (.row _ _) Z) (y9d 4 0 900 Z Z (by rw [List.length_map]) Z ?_)))
  refine zn ?_
  cases H
  exact ⟨U,[(4,.row 900 _)],⟨Z,U⟩,⟨Z,U⟩,Z,.inr (.inl ⟨4,Z,Z⟩)⟩
 ·refine fE h2 H fun H=>zp (yw (ι:=Unit) (fun i=>[(0,.row 0 v1.length)]) (fun i=>[(0,.row 102 5 (List.map yi v1))]) (fun i=>y1g v1=some r) (fun i=>Z) ?_ ?_)
  ·skip
   refine zc hN Z (qe Z (yd (ui (fun (s:Int)=>[(0,.row 0 v1.length),(1,.dat (vfn fv1 us1)),(5,.dat (vint s))]) (fun (s:Int)=>[(0,.row 102 5 (List.map yi v1))]) 1 H ⟨Z,Z,Z,U⟩ ⟨Z,U⟩ (fun _=>Z) ?_)))
   rintro v3 q4 H hq4
   replace H:y55 v1 p1 v3=some q4:=H
   unfold y55 at H
   refine zf (zc hN Z (qd Z (za (zg (.row _ _) Z) (ze (z0g Zc Z Z) Z (za (ye Z Z) (zi _ Z (fun h5 => ?_) (fun h5 => ?_)))))))
   ·refine tE h5 H fun H=>zp (zf (yd (zf (wl mixed hN Z Z (qd Z (za (zg (.row _ _) Z) (qd Z (bE H fun x6 h7 H=>ze (z1t jm Z Z Z h7) Z (ze (z1s vk Z Z (qi h7).2 Z) Z (za (zg (.row _ _) Z) (qd Z (za (yj _ Z Z (.inr (.inl ⟨Z,Z⟩))) (bE H fun x8 h9 H=>ze (z1t jm Z Z Z h9) Z (ze (z1s vk Z Z (qi h9).2 Z) Z (bE H fun r10 h11 H=>za (ua (hp1 x6 x8 r10 h11) Z ⟨.inl Z,.inl Z,U⟩) ⟨Z,?_⟩)))))))))))))))
    refine zi _ Z (fun h12 => ?_) (fun h12 => ?_)
    ·refine tE h12 H fun H=>zc hN Z (za (zg (.row _ _) Z) (qd Z (gE H fun h13 H=>ze (x0p (C:=yi) jm Z Z Z h13) Z (za (qy (.rsub _ _ _ _) Z) (yw (ι:=Int×(List zk)) (fun i=>[(0,.row 0 i.2.length),(5,.dat (vint i.1))]) (fun i=>[(0,.row 102 5 (List.map yi i.2))]) (fun i=>y1f i.1 i.2=some q4) (fun i=>Z) ?_ ?_)))))
     ·skip
      refine zc hN Z (qe Z (yd (ui (fun (s:Int×Int×(List zk))=>[(0,.row 0 s.2.2.length),(1,.dat (vfn fv1 us1)),(5,.dat (vint s.1)),(6,.rsub 0 s.2.2.length 5 v3.toNat),(7,.dat (vint s.2.1))]) (fun (s:Int×Int×(List zk))=>[(0,.row 102 5 (List.map yi s.2.2))]) (v3,1,v1) H ⟨Z,Z,Z,Z,Z,U⟩ ⟨Z,U⟩ (fun _=>Z) ?_)))
      rintro ⟨v14,v15,l16⟩ q17 H hq17
      replace H:y54 p1 v3 v14 v15 l16=some q17:=H
      unfold y54 at H
      refine zf (zc hN Z (qd Z (za (zg (.rsub _ _ _ _) Z) (ze (x7a Zc Z Z) Z (za (ye Z Z) (zi _ Z (fun h18 => ?_) (fun h18 => ?_)))))))
      ·refine tE h18 H fun H=>zp (yw (ι:=Int×(List zk)) (fun i=>[(0,.row 0 i.2.length),(1,.dat (vfn fv1 us1)),(5,.dat (vint i.1)),(6,.rsub 0 i.2.length 5 v3.toNat),(7,.dat (vint v15))]) (fun i=>[(0,.row 102 5 (List.map yi i.2))]) (fun i=>z68 v15 i.1 i.2=some q17) (fun i=>Z) ?_ ?_)
       ·skip
        refine yd (zf (wl mixed hN Z Z (qd Z (za (zg (.rsub _ _ _ _) Z) (qd Z (bE H fun x19 h20 H=>ze (y43 jm Z Z Z h20) Z (ze (z1s vk Z Z (y4a (qi h20).2) Z) Z (za (zg (.rsub _ _ _ _) Z) (qd Z (za (yj _ Z Z (.inr (.inl ⟨Z,Z⟩))) (bE H fun x21 h22 H=>ze (y43 jm Z Z Z h22) Z (ze (z1s vk Z Z (y4a (qi h22).2) Z) Z (bE H fun r23 h24 H=>za (ua (hp1 x19 x21 r23 h24) Z ⟨.inl Z,.inl Z,U⟩) (za (ww Z) ⟨Z,?_⟩))))))))))))))
        refine zi _ Z (fun h25 => ?_) (fun h25 => ?_)
        ·exact tE h25 H fun H=>zc hN Z (za (zg (.row _ _) Z) (qd Z (za (zg (.rsub _ _ _ _) Z) (qd Z (ze (y43 jm Z Z Z h20) Z (ze (z1s vk Z Z (y4a (qi h20).2) Z) Z (bE H fun x26 h27 H=>ze (z1t jm Z Z Z h27) Z (zd (x68 (C:=yi) vk Z Z Z (z3f (qi h27).2) Z Z) Z (zq hN Z (qd Z (za (yj _ Z Z (.inl ⟨Z,Z⟩)) (qe Z ⟨(wr (v14+1),(l16.set v14.toNat x19)),H,⟨congrArg (Slot.row 0) (by simp),Z,Z,congrArg (fun n=>Slot.rsub 0 n 5 v3.toNat) (by simp),Z,U⟩,⟨Z,U⟩⟩))))))))))))
        ·exact fE h25 H fun H=>zp ⟨(v14,l16),H,⟨Z,Z,Z,Z,Z,U⟩,⟨Z,U⟩⟩
       ·rintro ⟨v28,v29⟩ H
        replace H:z68 v15 v28 v29=some q17:=H
        unfold z68 at H
        exact zq hN Z (qd Z (za (yj _ Z Z (.inl ⟨Z,Z⟩)) (qe Z ⟨_,qj H,⟨Z,Z,Z,Z,Z,U⟩,⟨Z,U⟩⟩)))
      ·refine fE h18 H fun H=>qk ?_
       replace H:=outl H hq17
       exact ⟨(v14,l16),H,⟨Z,Z,U⟩,⟨Z,U⟩⟩
     ·rintro ⟨v30,v31⟩ H
      replace H:y1f v30 v31=some q4:=H
      unfold y1f at H
      refine zc hN Z (za (zg (.row _ _) Z) (qd Z (gE H fun h32 H=>ze (x0p (C:=yi) jm Z Z Z h32) Z (zd (x7c (C:=yi) (zk.mk 0 [] [] 0 []) Zc Wx Z Z Z Z Z h32) Z (zc hN Z (za (zg (.row _ _) Z) (qd Z (gE H fun h33 H=>y59 (x0s (C:=yi) 1 jm Z (w6g (zk.mk 0 [] [] 0 []) h32) Z h33) Z Z (za (qy (.row _ _) Z) (y9d 4 1 900 Z Z (by rw [List.length_map]; exact (y8w h33)) Z ?_))))))))))
      refine zn ?_
      replace H:=retl H hq4
      cases H
      exact ⟨U,[(4,.row 900 _)],⟨Z,U⟩,⟨Z,U⟩,Z,.inr (.inl ⟨4,Z,congrArg (Slot.row 900) (by first | exact y8w (by assumption) | (simp <;> omega))⟩)⟩
    ·exact fE h12 H fun H=>zp (zq hN Z (qd Z (za (yj _ Z Z (.inl ⟨Z,Z⟩)) (qe Z ⟨_,qj H,⟨Z,Z,Z,U⟩,⟨Z,U⟩⟩))))
   ·refine fE h5 H fun H=>qk ?_
    replace H:=outl H hq4
    exact ⟨(),H,⟨Z,U⟩,⟨Z,U⟩⟩
  ·rintro ⟨⟩ H
   replace H:y1g v1=some r:=H
   unfold y1g at H
   refine zc hN Z (za (zg (.row _ _) Z) (za (qy (.row _ _) Z) (y9d 4 0 900 Z Z (by rw [List.length_map]) Z ?_)))
   refine zn ?_
   cases H
   exact ⟨U,[(4,.row 900 _)],⟨Z,U⟩,⟨Z,U⟩,Z,.inr (.inl ⟨4,Z,Z⟩)⟩
theorem w3y (a1:zk) (b2:zk) (r:(Bool)) (H:z8v a1 b2=some r):Fn Tryz.prog 55 [vagg (yi a1),vagg (yi b2)] (yc [zr r]):=by
 refine ⟨by kernel_rfl,yl (us:=[zr r]) Tryz.func55 Z Z Z Z fun X hN => ?_⟩
 unfold z8v at H
 refine zc hN Z (zd (qr 1 Z) Z (zd (qr 2 Z) Z (qe Z (zc hN Z (ze (yg vk Z Z Z) Z (ze (yg vk Z Z Z) Z (bE H fun r3 h4 H=>za (yb (y7t a1 b2 r3 h4) ⟨.inl Z,.inl Z,U⟩) (za (qc Z Z) (qe Z (zn ?_))))))))))
 cases H
 exact ⟨U,.inl Z,U⟩
theorem w32 (s1:zt) (r:(Bs×zt)) (H:y20 s1=some r):Imp Tryz.prog 50 25 (qz s1) [] (yc [vstr r.1]) (qz r.2):=by
 refine kx (us:=[vstr r.1]) (cs':=(qz r.2)) (by kernel_rfl) Tryz.func50 Z Z Z Z fun X bl hN => ?_
 unfold y20 at H
 refine zc hN Z (qe Z (zc hN Z (za (zg (.ptr _ _) Z) (za (yf (u':=vlst (List.map yr [[97,112,112,49],[97,112,112,49],[97,112,112,49],[97,112,112,50],[97,112,112,51],[110,111,110,101]])) (qa [[_],[_],[_],[_],[_],[_]] vh ⟨Z,.inl ⟨_,Z,Z,Z⟩,Z,Z,.inl ⟨_,Z,Z,Z⟩,Z,Z,.inl ⟨_,Z,Z,Z⟩,Z,Z,.inl ⟨_,Z,Z,Z⟩,Z,Z,.inl ⟨_,Z,Z,Z⟩,Z,Z,.inl ⟨_,Z,Z,Z⟩,Z,U⟩ Z Z) Z) (bE H fun r2 h3 H=>zd (yo (kj s1 ([[97,112,112,49],[97,112,112,49],[97,112,112,49],[97,112,112,50],[97,112,112,51],[110,111,110,101]]) r2 h3) Z ⟨.inl Z,U⟩ Z) Z (qe Z (zn ?_)))))))
 cases H
 exact ⟨U,⟨.inl Z,U⟩,Z⟩
theorem w3x (s1:zt) (r:(Bs×zt)) (H:y2z s1=some r):Imp Tryz.prog 51 25 (qz s1) [] (yc [vstr r.1]) (qz r.2):=by
 refine kx (us:=[vstr r.1]) (cs':=(qz r.2)) (by kernel_rfl) Tryz.func51 Z Z Z Z fun X bl hN => ?_
 unfold y2z at H
 refine zc hN Z (qe Z (zc hN Z (za (zg (.ptr _ _) Z) (za (yf (u':=vlst (List.map yr [[115,104,111,112],[115,104,111,112],[115,104,111,112],[109,97,112,115],[110,111,110,101]])) (qa [[_],[_],[_],[_],[_]] vh ⟨Z,.inl ⟨_,Z,Z,Z⟩,Z,Z,.inl ⟨_,Z,Z,Z⟩,Z,Z,.inl ⟨_,Z,Z,Z⟩,Z,Z,.inl ⟨_,Z,Z,Z⟩,Z,Z,.inl ⟨_,Z,Z,Z⟩,Z,U⟩ Z Z) Z) (bE H fun r2 h3 H=>zd (yo (kj s1 ([[115,104,111,112],[115,104,111,112],[115,104,111,112],[109,97,112,115],[110,111,110,101]]) r2 h3) Z ⟨.inl Z,U⟩ Z) Z (qe Z (zn ?_)))))))
 cases H
 exact ⟨U,⟨.inl Z,U⟩,Z⟩
theorem w1h (c1:zx) (l2:(List zk)) (app3:Bs) (product4:Bs) (r:((List zw)×(List Int))) (H:z8k c1 l2 app3 product4=some r):FnG Tryz.prog 49 [.dat (vagg (yy c1)),.row 0 l2.length,.dat (vstr app3),.dat (vstr product4)] [(0,.rowA undef 102 5 (List.map yi l2))] (.dat (yc [vlst (List.map qq r.1),vlst (List.map qn r.2)])) [(0,.rowA undef 102 5 (List.map yi l2))]:=by
 refine uv (by kernel_rfl) Tryz.func49 Z Z Z Z fun X A hN => ?_
 unfold z8k at H
 refine zc hN Z (zd (qr 1 Z) Z (qe Z (qe Z (zc hN Z (bE H fun r5 h6 H=>za (yb (y7r  r5 h6) U) (zd (y0v (C:=qq) 2 ([r5]:(List zw)) z3p ⟨Z,.inr Z,Z,U⟩ Z Z Z) Z (za (qy (.row _ _) Z) (qe Z (zf (zc hN Z (za (zg (.row _ _) Z) (ze (y0w Zc Z Z) Z (qd Z (yd (Qg 11 3 3 1 Z Z Z (gE H fun h11 H=>ve (fun (k9:Nat) (s:(List zw)×(List Int))=>[(2,.dat (vstr app3)),(3,.dat (vstr product4)),(4,.ptr 1 0),(10,.row 2 s.1.length),(11,.row 3 s.2.length),(18,.row 0 l2.length),(19,.dat (vint (l2.length:Int))),(20,.dat (vint (k9:Int)))]) (fun (k9:Nat) (s:(List zw)×(List Int))=>[(0,.rowA (A.vl 0) 102 5 (List.map yi l2)),(1,.box none 29 [.dat (vlst (List.map yt c1.Products)),.dat (vlst (List.map ym c1.Plans))]),(2,.row 108 4 (List.map qq s.1)),(3,.row 3 1 (List.map qn s.2))]) (([r5]:(List zw)),[]) H ⟨Z,Z,Z,Z,Z,Z,Z,Z,U⟩ ⟨Z,Z,Z,Z,U⟩ (fun _ _=>Z) ?_ ?_))))))))))))))))
 ·rintro ⟨l7,l8⟩ H
  replace H:y3e l7 l8=some r:=H
  unfold y3e at H
  refine zc hN Z (za (ye Z Z) (zf (zi _ Z (fun h=>(lt_t h).elim) (fun h => ?_))))
  refine qk (zc hN Z (za (zg (.row _ _) Z) (za (zg (.row _ _) Z) (za (qy (.row _ _) Z) (za (qy (.row _ _) Z) (x0r 8 2 Z Z Z (x0r 9 3 Z Z Z (zn ?_))))))))
  cases H
  exact ⟨U,[(8,.dat (vlst (List.map qq l7))),(9,.dat (vlst (List.map qn l8)))],⟨Z,Z,U⟩,⟨Z,U⟩,Z,.inl ⟨[vlst (List.map qq l7),vlst (List.map qn l8)],⟨Z,Z,U⟩,Z⟩⟩
 ·rintro k9 x12 ⟨l7,l8⟩ q10 h13 h14 H hq10
  replace H:y3d c1 app3 product4 k9 x12 l7 l8=some q10:=H
  unfold y3d at H
  refine zc hN Z (za (ye Z Z) (zf (zi _ Z (fun h => ?_) (fun h=>(lt_f h13 h).elim))))
  refine zp (yw (ι:=(List zw)×(List Int)) (fun i=>[(2,.dat (vstr app3)),(3,.dat (vstr product4)),(4,.ptr 1 0),(10,.row 2 i.1.length),(11,.row 3 i.2.length),(18,.row 0 l2.length),(19,.dat (vint (l2.length:Int))),(20,.dat (vint (k9:Int)))]) (fun i=>[(0,.rowA (A.vl 0) 102 5 (List.map yi l2)),(1,.box none 29 [.dat (vlst (List.map yt c1.Products)),.dat (vlst (List.map ym c1.Plans))]),(2,.row 108 4 (List.map qq i.1)),(3,.row 3 1 (List.map qn i.2))]) (fun i=>z2x i.1 i.2=some q10) (fun i=>Z) ?_ ?_)
  ·skip
   refine yd (zc hN Z (qd Z (ze (x7b jm Z Z Z h14) Z (ze (xo vk Z Z h14 Z) Z (zd (qf 4 Wx Z) Z (qe Z (zd (yz vk Z Z Z Z) Z (zf (zc hN Z (za (zj Zf Z) (ze (zl tyS9 Z Z) Z (qd Z (za (Yd Z Z) (qd Z (ji Z Z (fun hc=>zj uz Z) (z7e Z Z (fun hc=>zl tyS9 (cnd (c:=(!(decide (x12.App≠app3)))) hc) Z) Z jq (ji Z Z (fun hc=>zg (.dat _) Z) (ji Z Z (fun hc=>Yd (cnd (c:=(!(decide (x12.App≠app3)))) hc) (cnd (c:=(!(decide (x12.App≠app3)))) hc)) (za (ul Z Z (fun hb=>(cnd (c:=(!(decide (x12.App≠app3)))) (notI hb)))) (zi _ Z (fun h15 => ?_) (fun h15 => ?_)))))))))))))))))))))
   ·exact tE h15 H fun H=>qk ⟨(l7,l8),H,⟨Z,Z,Z,Z,Z,Z,Z,Z,U⟩,⟨Z,Z,Z,Z,U⟩⟩
   ·refine fE h15 H fun H=>zp (zf (wl mixed hN Z Z (ze (yg ql Z Z Z) Z (za (zg (.row _ _) Z) (za (zg (.row _ _) Z) (ze (z0g z6k Z Z) Z (za (yj _ Z Z (.inr (.inl ⟨Z,Z⟩))) (bE H fun x16 h17 H=>ze (z1t z6v Z Z Z h17) Z (ze (z1s qh Z Z (qi h17).2 Z) Z (ze (yg vk Z Z Z) Z (bE H fun r18 h19 H=>za (yb (x3q c1 x16 x12 r18 h19) ⟨.inl Z,.inl Z,.inl Z,U⟩) (qd Z (za (qm Z Z) (za (qm Z Z) (zd (qf 5 jr Z) Z (zd (yz qh Z Z Z Z) Z (qe Z ⟨Z,?_⟩)))))))))))))))))
    refine zc hN Z (qd Z (zi _ Z (fun h20 => ?_) (fun h20 => ?_)))
    ·refine tE h20 H fun H=>zq hN Z (za (zg (.row _ _) Z) (ze (yg qh Z Z Z) Z (za (yf (u':=vlst (List.map qq [r18.1])) (qa [_] z3p ⟨Z,.inr Z,Z,U⟩ Z Z) Z) (gE H fun h21 H=>zd (je z3p (fun _=>Z) Z Z Z ⟨by simp,by first | (simp; done) | simpa using h21⟩ Z) Z ?_))))
     exact za (qy (.row _ _) Z) ⟨((l7++[r18.1]),l8),H,⟨Z,Z,Z,Z,Z,Z,Z,Z,U⟩,⟨Z,Z,Z,Z,U⟩⟩
    ·refine fE h20 H fun H=>zq hN Z (za (zg (.row _ _) Z) (qd Z (za (yf (u':=vlst (List.map qn [(k9:Int)])) (qa [[_]] vx ⟨Z,.inl ⟨_,Z,Z,Z⟩,Z,U⟩ Z Z) Z) (gE H fun h22 H=>zd (je vx (fun _=>Z) Z Z Z ⟨by simp,by first | (simp; done) | simpa using h22⟩ Z) Z ?_))))
     exact za (qy (.row _ _) Z) ⟨(l7,(l8++[(k9:Int)])),H,⟨Z,Z,Z,Z,Z,Z,Z,Z,U⟩,⟨Z,Z,Z,Z,U⟩⟩
  ·rintro ⟨out23,refused24⟩ H
   replace H:z2x out23 refused24=some q10:=H
   unfold z2x at H
   exact zq hN Z (za (wa Z Z (by omega)) (qd Z ⟨_,qj H,⟨Z,Z,Z,Z,Z,Z,Z,Z,U⟩,⟨Z,Z,Z,Z,U⟩⟩))
theorem w3z (s1:zt) (v2:zx) (v3:(List zy)) (v4:Int) (r:((List zk)×zt)) (H:z8w s1 v2 v3 v4=some r):Imp Tryz.prog 20 25 (qz s1) [vagg (yy v2),vlst (List.map yk v3),vint v4] (yc [vlst (List.map yi r.1)]) (qz r.2):=by
 refine kx (us:=[vlst (List.map yi r.1)]) (cs':=(qz r.2)) (by kernel_rfl) Tryz.func20 Z Z Z Z fun X bl hN => ?_
 unfold z8w at H
 refine zc hN Z (zd (qr 1 Z) Z (qe Z (zc hN Z (qe Z (zc hN Z (qe Z (zf (zc hN Z (qd Z (qd Z (yd (Qg 9 2 102 5 Z Z Z (gE H fun h11 H=>z58 (fun (k9:Nat) (s:Int×(List Int)×Int×(List zk))=>[(0,.ptr 0 0),(2,.dat (vlst (List.map yk v3))),(5,.ptr 1 0),(9,.row 2 s.2.2.2.length),(10,.dat (vint s.1)),(17,.dat (vint v4)),(18,.dat (vint (k9:Int)))]) (fun (k9:Nat) (s:Int×(List Int)×Int×(List zk))=>[(0,.box (some bl) 25 [.dat (vlst (List.map qn s.2.1)),.dat (vint s.2.2.1)]),(1,.box none 29 [.dat (vlst (List.map yt v2.Products)),.dat (vlst (List.map ym v2.Plans))]),(2,.row 102 5 (List.map yi s.2.2.2))]) (0,s1.L,s1.at_,[]) H ⟨Z,Z,Z,Z,Z,Z,Z,U⟩ ⟨Z,Z,Z,U⟩ (fun _ _=>Z) ?_ ?_)))))))))))))
 ·rintro ⟨v5,c6,c7,l8⟩ H
  replace H:y3r v5 c6 c7 l8=some r:=H
  unfold y3r at H
  refine zc hN Z (za (ye Z Z) (zf (zi _ Z (fun h=>(z85 h).elim) (fun h => ?_))))
  refine qk (zc hN Z (za (zg (.row _ _) Z) (bE H fun r12 h13 H=>gE H fun h14 H=>ue (rn [(0,2)]) [(0,_,_,some _)] [] (w1o l8 (fun (a0:zk) (a1:zk)=>Yy a0 a1) 53 [] (fun a0 a1 r h=>y7t a0 a1 r h) r12 h13) ⟨Z,U⟩ ⟨.inl (.inl Z),.inr ⟨_,Z,Z⟩,U⟩ ⟨⟨⟨Z,Z,Z⟩,by simp [uc,h14]⟩,U⟩ Z ?_)))
  refine zf (zc hN Z (za (zg (.ptr _ _) Z) (bE H fun r15 h16 H=>zd (yo (kw (zt.mk c6 c7) 60 r15 h16) Z ⟨.inl Z,U⟩ Z) Z (zi _ Z (fun h17 => ?_) (fun h17 => ?_)))))
  ·refine tE h17 H fun H=>zc hN Z (za (zg (.row _ _) Z) (za (qy (.row _ _) Z) (zn ?_)))
   cases H
   exact ⟨U,⟨xn Z (h14).symm,U⟩,Z⟩
  ·refine fE h17 H fun H=>zp (zc hN Z (za (zg (.row _ _) Z) (bE H fun r18 h19 H=>ue (rn [(0,2),(900,3)]) [(0,_,_,none)] [(900,_)] (w1r r12 (fun (a0:zk) (a1:zk)=>z8v a0 a1) 55 [] (fun a0 a1 r h=>w3y a0 a1 r h) r18 h19) ⟨Z,Z,U⟩ ⟨.inl (.inl (congrArg (Slot.row 2) (h14).symm)),.inr ⟨_,Z,Z⟩,U⟩ ⟨⟨⟨Z,Z,Z⟩,U⟩,U⟩ Z (za (qy (.row _ _) Z) (zn ?_)))))
   cases H
   exact ⟨U,⟨xn Z Z,U⟩,Z⟩
 ·rintro k9 ⟨v5,c6,c7,l8⟩ q10 h20 H hq10
  replace H:y3p v2 v3 k9 v5 c6 c7 l8=some q10:=H
  unfold y3p at H
  refine zc hN Z (za (ye Z Z) (zf (zi _ Z (fun h => ?_) (fun h=>(z86 h20 h).elim))))
  refine zp (yw (ι:=Int×(List zk)×(List Int)×Int) (fun i=>[(0,.ptr 0 0),(2,.dat (vlst (List.map yk v3))),(5,.ptr 1 0),(9,.row 2 i.2.1.length),(10,.dat (vint i.1)),(17,.dat (vint v4)),(18,.dat (vint (k9:Int)))]) (fun i=>[(0,.box (some bl) 25 [.dat (vlst (List.map qn i.2.2.1)),.dat (vint i.2.2.2)]),(1,.box none 29 [.dat (vlst (List.map yt v2.Products)),.dat (vlst (List.map ym v2.Plans))]),(2,.row 102 5 (List.map yi i.2.1))]) (fun i=>z03 i.1 i.2.1 i.2.2.1 i.2.2.2=some q10) (fun i=>Z) ?_ ?_)
  ·skip
   refine yd (zc hN Z (qd Z (za (zg (.ptr _ _) Z) (qd Z (za (y46 Z Z (by decide)) (za (yj _ Z Z (.inr (.inl ⟨Z,Z⟩))) (za (yf (u':=vlst (List.map qn [1,5,86400000,864000000,2592000000,wr (2592000000 - (Int.tmod v5 2592000000))])) (qa [[_],[_],[_],[_],[_],[_]] vx ⟨Z,.inl ⟨_,Z,Z,Z⟩,Z,Z,.inl ⟨_,Z,Z,Z⟩,Z,Z,.inl ⟨_,Z,Z,Z⟩,Z,Z,.inl ⟨_,Z,Z,Z⟩,Z,Z,.inl ⟨_,Z,Z,Z⟩,Z,Z,.inl ⟨_,Z,Z,Z⟩,Z,U⟩ Z Z) Z) (bE H fun r21 h22 H=>zd (yo (jo (zt.mk c6 c7) [1,5,86400000,864000000,2592000000,wr (2592000000 - (Int.tmod v5 2592000000))] r21 h22) Z ⟨.inl Z,U⟩ Z) Z (za (yj _ Z Z (.inl ⟨Z,Z⟩)) (qe Z (zc hN Z (qd Z (za (zg (.ptr _ _) Z) (za (yf (u':=vlst (List.map yr [[97,112,112,49],[97,112,112,49],[97,112,112,50]])) (qa [[_],[_],[_]] vh ⟨Z,.inl ⟨_,Z,Z,Z⟩,Z,Z,.inl ⟨_,Z,Z,Z⟩,Z,Z,.inl ⟨_,Z,Z,Z⟩,Z,U⟩ Z Z) Z) (bE H fun r23 h24 H=>zd (yo (kj r21.2 ([[97,112,112,49],[97,112,112,49],[97,112,112,50]]) r23 h24) Z ⟨.inl Z,U⟩ Z) Z (za (zg (.ptr _ _) Z) (za (yf (u':=vlst (List.map yr [[115,104,111,112],[115,104,111,112],[109,97,112,115]])) (qa [[_],[_],[_]] vh ⟨Z,.inl ⟨_,Z,Z,Z⟩,Z,Z,.inl ⟨_,Z,Z,Z⟩,Z,Z,.inl ⟨_,Z,Z,Z⟩,Z,U⟩ Z Z) Z) (bE H fun r25 h26 H=>zd (yo (kj r23.2 ([[115,104,111,112],[115,104,111,112],[109,97,112,115]]) r25 h26) Z ⟨.inl Z,U⟩ Z) Z (za (zg (.ptr _ _) Z) (bE H fun r27 h28 H=>?_))))))))))))))))))))
   refine zd (yo (z9e r25.2 1 6 r27 h28) Z ⟨.inl Z,.inl Z,U⟩ Z) Z (za (yf (u':=vagg (yi (zk.mk (wr (v5+r21.1)) r23.1 r25.1 r27.1 []))) (vj [(0,[vint (wr (v5+r21.1))]),(1,[vstr r23.1]),(2,[vstr r25.1]),(3,[vint r27.1])] Wx x60 Z ⟨Z,.inl ⟨_,Z,Z,Z⟩,Z,Z,.inl ⟨_,Z,Z,Z⟩,Z,Z,.inl ⟨_,Z,Z,Z⟩,Z,Z,.inl ⟨_,Z,Z,Z⟩,Z,U⟩) Z) (zd (qf 4 Wx Z) Z (zd (yz vk Z Z Z Z) Z (yw (ι:=(List Int)×Int×Bs) (fun i=>[(0,.ptr 0 0),(2,.dat (vlst (List.map yk v3))),(5,.ptr 1 0),(9,.row 2 l8.length),(10,.dat (vint (wr (v5+r21.1)))),(11,.ptr 4 0),(17,.dat (vint v4)),(18,.dat (vint (k9:Int)))]) (fun i=>[(0,.box (some bl) 25 [.dat (vlst (List.map qn i.1)),.dat (vint i.2.1)]),(1,.box none 29 [.dat (vlst (List.map yt v2.Products)),.dat (vlst (List.map ym v2.Plans))]),(2,.row 102 5 (List.map yi l8)),(4,.box none 102 [.dat (vint (wr (v5+r21.1))),.dat (vstr i.2.2),.dat (vstr r25.1),.dat (vint r27.1),.dat (vstr [])])]) (fun i=>z02 v2 v5 l8 r21 r25 r27 i.1 i.2.1 i.2.2=some q10) (fun i=>Z) ?_ ?_))))
   ·skip
    refine yw (ι:=Bool×(List Int)×Int) (fun i=>[(0,.ptr 0 0),(2,.dat (vlst (List.map yk v3))),(5,.ptr 1 0),(9,.row 2 l8.length),(10,.dat (vint (wr (v5+r21.1)))),(11,.ptr 4 0),(17,.dat (vint v4)),(18,.dat (vint (k9:Int))),(44,.dat (zr i.1))]) (fun i=>[(0,.box (some bl) 25 [.dat (vlst (List.map qn i.2.1)),.dat (vint i.2.2)]),(1,.box none 29 [.dat (vlst (List.map yt v2.Products)),.dat (vlst (List.map ym v2.Plans))]),(2,.row 102 5 (List.map yi l8)),(4,.box none 102 [.dat (vint (wr (v5+r21.1))),.dat (vstr r23.1),.dat (vstr r25.1),.dat (vint r27.1),.dat (vstr [])])]) (fun i=>z5t v2 v3 v5 l8 r21 r23 r25 r27 i.1 i.2.1 i.2.2=some q10) (fun i=>Z) ?_ ?_
    ·skip
     refine zq hN Z (qd Z (za (yu Yq Z) (za (wz Z Z) (qd Z (qv (j:=3) Z Z (fun h29 => ?_) (fun h29 => ?_) Z)))))
     ·exact u1 h29 H fun h30 H=>zo Z Z h29 (zg (.ptr _ _) Z) (bE H fun r31 h32 H=>y1k Z Z h29 (yo (kw r27.2 3 r31 h32) Z ⟨.inl Z,U⟩ Z) Z (za (qt Z (bTT h30) Z) ⟨(r31.1,r31.2.L,r31.2.at_),H,⟨Z,Z,Z,Z,Z,Z,Z,Z,Z,U⟩,⟨Z,Z,Z,Z,U⟩⟩))
     ·exact u2 h29 H fun h33 H=>zh Z Z h29 (zh Z Z h29 (za (yq Z (bFF h33) Z) ⟨(false,r27.2.L,r27.2.at_),H,⟨Z,Z,Z,Z,Z,Z,Z,Z,Z,U⟩,⟨Z,Z,Z,Z,U⟩⟩))
    ·rintro ⟨v34,c35,c36⟩ H
     replace H:z5t v2 v3 v5 l8 r21 r23 r25 r27 v34 c35 c36=some q10:=H
     unfold z5t at H
     refine zi _ Z (fun h37 => ?_) (fun h37 => ?_)
     ·exact tE h37 H fun H=>zq hN Z (qd Z (za (zg (.ptr _ _) Z) (qd Z (za (yu Yq Z) (bE H fun r38 h39 H=>zd (yo (Qb (zt.mk c35 c36) (v3.length:Int) r38 h39) Z ⟨.inl Z,U⟩ Z) Z (bE H fun x40 h41 H=>za (ja Zy (fun _=>Z) Z Z h41) (za (jd Zv Z) (za (wy tyS9 Z (qg (qi h41).2) Z) (za (zj Zf Z) (zd (wv tyS9 Z Z Z Z) Z ⟨(r38.2.L,r38.2.at_,x40.Key),H,⟨Z,Z,Z,Z,Z,Z,Z,Z,U⟩,⟨Z,Z,Z,Z,U⟩⟩))))))))))
     ·exact fE h37 H fun H=>zp ⟨(c35,c36,r23.1),H,⟨Z,Z,Z,Z,Z,Z,Z,Z,U⟩,⟨Z,Z,Z,Z,U⟩⟩
   ·rintro ⟨c42,c43,c44⟩ H
    replace H:z02 v2 v5 l8 r21 r25 r27 c42 c43 c44=some q10:=H
    unfold z02 at H
    refine zc hN Z (qe Z (zf (zc hN Z (za (zj jk Z) (ze (zl jj Z Z) Z (za (yu Zs Z) (qd Z (yd (Qg 12 5 9 1 Z Z Z (gE H fun h48 H=>ve (fun (k46:Nat) (s:(List Bs))=>[(0,.ptr 0 0),(2,.dat (vlst (List.map yk v3))),(5,.ptr 1 0),(9,.row 2 l8.length),(10,.dat (vint (wr (v5+r21.1)))),(11,.ptr 4 0),(12,.row 5 s.length),(17,.dat (vint v4)),(18,.dat (vint (k9:Int))),(55,.dat (vlst (List.map ym v2.Plans))),(56,.dat (vint (v2.Plans.length:Int))),(57,.dat (vint (k46:Int)))]) (fun (k46:Nat) (s:(List Bs))=>[(0,.box (some bl) 25 [.dat (vlst (List.map qn c42)),.dat (vint c43)]),(1,.box none 29 [.dat (vlst (List.map yt v2.Products)),.dat (vlst (List.map ym v2.Plans))]),(2,.row 102 5 (List.map yi l8)),(4,.box none 102 [.dat (vint (wr (v5+r21.1))),.dat (vstr c44),.dat (vstr r25.1),.dat (vint r27.1),.dat (vstr [])]),(5,.row 9 1 (List.map yr s))]) [] H ⟨Z,Z,Z,Z,Z,Z,Z,Z,Z,Z,Z,Z,U⟩ ⟨Z,Z,Z,Z,Z,U⟩ (fun _ _=>Z) ?_ ?_))))))))))
    ·rintro l45 H
     replace H:y3q v2 v5 l8 r21 r25 r27 c42 c43 c44 l45=some q10:=H
     unfold y3q at H
     refine zc hN Z (za (ye Z Z) (zf (zi _ Z (fun h=>(lt_t h).elim) (fun h => ?_))))
     refine qk (yw (ι:=(List Int)×Int×Int) (fun i=>[(0,.ptr 0 0),(2,.dat (vlst (List.map yk v3))),(5,.ptr 1 0),(9,.row 2 l8.length),(10,.dat (vint (wr (v5+r21.1)))),(11,.ptr 4 0),(12,.row 5 l45.length),(17,.dat (vint v4)),(18,.dat (vint (k9:Int)))]) (fun i=>[(0,.box (some bl) 25 [.dat (vlst (List.map qn i.1)),.dat (vint i.2.1)]),(1,.box none 29 [.dat (vlst (List.map yt v2.Products)),.dat (vlst (List.map ym v2.Plans))]),(2,.row 102 5 (List.map yi l8)),(4,.box none 102 [.dat (vint (wr (v5+r21.1))),.dat (vstr c44),.dat (vstr r25.1),.dat (vint i.2.2),.dat (vstr [])]),(5,.row 9 1 (List.map yr l45))]) (fun i=>Yl v5 l8 r21 r25 c44 l45 i.1 i.2.1 i.2.2=some q10) (fun i=>Z) ?_ ?_)
     ·skip
      refine yw (ι:=Bool×(List Int)×Int) (fun i=>[(0,.ptr 0 0),(2,.dat (vlst (List.map yk v3))),(5,.ptr 1 0),(9,.row 2 l8.length),(10,.dat (vint (wr (v5+r21.1)))),(11,.ptr 4 0),(12,.row 5 l45.length),(17,.dat (vint v4)),(18,.dat (vint (k9:Int))),(79,.dat (zr i.1))]) (fun i=>[(0,.box (some bl) 25 [.dat (vlst (List.map qn i.2.1)),.dat (vint i.2.2)]),(1,.box none 29 [.dat (vlst (List.map yt v2.Products)),.dat (vlst (List.map ym v2.Plans))]),(2,.row 102 5 (List.map yi l8)),(4,.box none 102 [.dat (vint (wr (v5+r21.1))),.dat (vstr c44),.dat (vstr r25.1),.dat (vint r27.1),.dat (vstr [])]),(5,.row 9 1 (List.map yr l45))]) (fun i=>z01 v2 v5 l8 r21 r25 r27 c44 l45 i.1 i.2.1 i.2.2=some q10) (fun i=>Z) ?_ ?_
      ·skip
       refine zq hN Z (za (zg (.ptr _ _) Z) (bE H fun r50 h51 H=>zd (yo (kw (zt.mk c42 c43) 4 r50 h51) Z ⟨.inl Z,U⟩ Z) Z (za (ww Z) (qd Z (qv (j:=3) Z Z (fun h52 => ?_) (fun h52 => ?_) Z)))))
       ·exact u1 h52 H fun h53 H=>wc Z Z h52 (yg ql Z Z Z) Z (bE H fun r54 h55 H=>zo Z Z h52 (yb (x3s v2 r54 h55) ⟨.inl Z,U⟩) (zo Z Z h52 (qc Z Z) (za (qt Z (bTT h53) Z) ⟨(decide (r54=0),r50.2.L,r50.2.at_),H,⟨Z,Z,Z,Z,Z,Z,Z,Z,Z,Z,U⟩,⟨Z,Z,Z,Z,Z,U⟩⟩)))
       ·exact u2 h52 H fun h56 H=>zh Z Z h52 (zh Z Z h52 (zh Z Z h52 (za (yq Z (bFF h56) Z) ⟨(false,r50.2.L,r50.2.at_),H,⟨Z,Z,Z,Z,Z,Z,Z,Z,Z,Z,U⟩,⟨Z,Z,Z,Z,Z,U⟩⟩)))
      ·rintro ⟨v57,c58,c59⟩ H
       replace H:z01 v2 v5 l8 r21 r25 r27 c44 l45 v57 c58 c59=some q10:=H
       unfold z01 at H
       refine zi _ Z (fun h60 => ?_) (fun h60 => ?_)
       ·refine tE h60 H fun H=>zc hN Z (ze (yg ql Z Z Z) Z (za (zg (.row _ _) Z) (za (zj Zf Z) (ze (zl tyS9 Z Z) Z (za (zj uz Z) (ze (zl tyS9 Z Z) Z (bE H fun r61 h62 H=>ue (rn [(0,2)]) [(0,_,_,some _)] [] (w1h v2 l8 c44 r25.1 r61 h62) ⟨Z,U⟩ ⟨.inl (.inl Z),.inl (.inl Z),.inl (.inl Z),.inl (.inl Z),U⟩ ⟨⟨⟨Z,Z,Z⟩,by simp [uc]⟩,U⟩ Z ?_)))))))
        refine qd Z (za (qm Z Z) (za (qm Z Z) (qe Z (qe Z (zc hN Z (qd Z (qd Z (za (yu z6k Z) (za (yj _ Z Z (.inr (.inl ⟨Z,Z⟩))) (bE H fun x63 h64 H=>za (ja z6v (fun _=>Z) Z Z h64) (za (jd vq Z) (za (wy tyS3 Z (qg (qi h64).2) Z) (yd (zc hN Z (za (qc Z Z) (qe Z (zi _ Z (fun h65 => ?_) (fun h65 => ?_))))))))))))))))))
        ·exact tE h65 H fun H=>zq hN Z (za (zg (.ptr _ _) Z) (za (yf (u':=vlst (List.map qn [2,2,3])) (qa [[_],[_],[_]] vx ⟨Z,.inl ⟨_,Z,Z,Z⟩,Z,Z,.inl ⟨_,Z,Z,Z⟩,Z,Z,.inl ⟨_,Z,Z,Z⟩,Z,U⟩ Z Z) Z) (bE H fun r66 h67 H=>zd (yo (jo (zt.mk c58 c59) [2,2,3] r66 h67) Z ⟨.inl Z,U⟩ Z) Z (za (zj jt Z) (zd (wv tyS3 Z Z Z Z) Z ⟨(r66.2.L,r66.2.at_,r66.1),H,⟨Z,Z,Z,Z,Z,Z,Z,Z,Z,U⟩,⟨Z,Z,Z,Z,Z,U⟩⟩)))))
        ·refine fE h65 H fun H=>zc hN Z (za (qc Z Z) (qe Z (zi _ Z (fun h68 => ?_) (fun h68 => ?_))))
         ·exact tE h68 H fun H=>zq hN Z (za (zg (.ptr _ _) Z) (za (yf (u':=vlst (List.map qn [4,6,1])) (qa [[_],[_],[_]] vx ⟨Z,.inl ⟨_,Z,Z,Z⟩,Z,Z,.inl ⟨_,Z,Z,Z⟩,Z,Z,.inl ⟨_,Z,Z,Z⟩,Z,U⟩ Z Z) Z) (bE H fun r69 h70 H=>zd (yo (jo (zt.mk c58 c59) [4,6,1] r69 h70) Z ⟨.inl Z,U⟩ Z) Z (za (zj jt Z) (zd (wv tyS3 Z Z Z Z) Z ⟨(r69.2.L,r69.2.at_,r69.1),H,⟨Z,Z,Z,Z,Z,Z,Z,Z,Z,U⟩,⟨Z,Z,Z,Z,Z,U⟩⟩)))))
         ·refine fE h68 H fun H=>zc hN Z (za (qc Z Z) (qe Z (zi _ Z (fun h71 => ?_) (fun h71 => ?_))))
          ·exact tE h71 H fun H=>zq hN Z (za (zg (.ptr _ _) Z) (za (yf (u':=vlst (List.map qn [5,6])) (qa [[_],[_]] vx ⟨Z,.inl ⟨_,Z,Z,Z⟩,Z,Z,.inl ⟨_,Z,Z,Z⟩,Z,U⟩ Z Z) Z) (bE H fun r72 h73 H=>zd (yo (jo (zt.mk c58 c59) [5,6] r72 h73) Z ⟨.inl Z,U⟩ Z) Z (za (zj jt Z) (zd (wv tyS3 Z Z Z Z) Z ⟨(r72.2.L,r72.2.at_,r72.1),H,⟨Z,Z,Z,Z,Z,Z,Z,Z,Z,U⟩,⟨Z,Z,Z,Z,Z,U⟩⟩)))))
          ·exact fE h71 H fun H=>zq hN Z (za (zj jt Z) (zd (wv tyS3 Z Z Z Z) Z ⟨(c58,c59,1),H,⟨Z,Z,Z,Z,Z,Z,Z,Z,Z,U⟩,⟨Z,Z,Z,Z,Z,U⟩⟩))
       ·exact fE h60 H fun H=>zp ⟨(c58,c59,r27.1),H,⟨Z,Z,Z,Z,Z,Z,Z,Z,Z,U⟩,⟨Z,Z,Z,Z,Z,U⟩⟩
     ·rintro ⟨c74,c75,c76⟩ H
      replace H:Yl v5 l8 r21 r25 c44 l45 c74 c75 c76=some q10:=H
      unfold Yl at H
      refine yw (ι:=(List Int)×Int×Bs) (fun i=>[(0,.ptr 0 0),(2,.dat (vlst (List.map yk v3))),(5,.ptr 1 0),(9,.row 2 l8.length),(10,.dat (vint (wr (v5+r21.1)))),(11,.ptr 4 0),(17,.dat (vint v4)),(18,.dat (vint (k9:Int)))]) (fun i=>[(0,.box (some bl) 25 [.dat (vlst (List.map qn i.1)),.dat (vint i.2.1)]),(1,.box none 29 [.dat (vlst (List.map yt v2.Products)),.dat (vlst (List.map ym v2.Plans))]),(2,.row 102 5 (List.map yi l8)),(4,.box none 102 [.dat (vint (wr (v5+r21.1))),.dat (vstr c44),.dat (vstr r25.1),.dat (vint c76),.dat (vstr i.2.2)])]) (fun i=>z27 v5 l8 r21 r25 c44 c76 i.1 i.2.1 i.2.2=some q10) (fun i=>Z) ?_ ?_
      ·skip
       refine zc hN Z (za (zj jt Z) (ze (zl tyS3 Z Z) Z (za (qc Z Z) (zi _ Z (fun h77 => ?_) (fun h77 => ?_)))))
       ·refine tE h77 H fun H=>zf (zc hN Z (za (zg (.row _ _) Z) (ze (z0g js Z Z) Z (za (qc Z Z) (zi _ Z (fun h78 => ?_) (fun h78 => ?_))))))
        ·exact tE h78 H fun H=>qk ⟨(wr (v5+r21.1),l8,c74,c75),H,⟨Z,Z,Z,Z,Z,Z,Z,U⟩,⟨Z,Z,Z,U⟩⟩
        ·exact fE h78 H fun H=>zp (zq hN Z (za (zg (.row _ _) Z) (za (zg (.ptr _ _) Z) (za (zg (.row _ _) Z) (ze (z0g js Z Z) Z (bE H fun r79 h80 H=>zd (yo (Qb (zt.mk c74 c75) (l45.length:Int) r79 h80) Z ⟨.inl Z,U⟩ Z) Z (bE H fun x81 h82 H=>ze (z1t Zg Z Z Z h82) Z (ze (x0q tyS9 Z Z (qi h82).2 Z) Z (za (zj xl Z) (zd (wv tyS9 Z Z Z Z) Z ⟨(r79.2.L,r79.2.at_,x81),H,⟨Z,Z,Z,Z,Z,Z,Z,Z,U⟩,⟨Z,Z,Z,Z,U⟩⟩))))))))))
       ·exact fE h77 H fun H=>zp ⟨(c74,c75,[]),H,⟨Z,Z,Z,Z,Z,Z,Z,Z,U⟩,⟨Z,Z,Z,Z,U⟩⟩
      ·rintro ⟨c83,c84,c85⟩ H
       replace H:z27 v5 l8 r21 r25 c44 c76 c83 c84 c85=some q10:=H
       unfold z27 at H
       refine yw (ι:=(List Int)×Int×Int×Bs×Bs×Int×Bs) (fun i=>[(0,.ptr 0 0),(2,.dat (vlst (List.map yk v3))),(5,.ptr 1 0),(9,.row 2 l8.length),(10,.dat (vint (wr (v5+r21.1)))),(11,.ptr 4 0),(17,.dat (vint v4)),(18,.dat (vint (k9:Int)))]) (fun i=>[(0,.box (some bl) 25 [.dat (vlst (List.map qn i.1)),.dat (vint i.2.1)]),(1,.box none 29 [.dat (vlst (List.map yt v2.Products)),.dat (vlst (List.map ym v2.Plans))]),(2,.row 102 5 (List.map yi l8)),(4,.box none 102 [.dat (vint i.2.2.1),.dat (vstr i.2.2.2.1),.dat (vstr i.2.2.2.2.1),.dat (vint i.2.2.2.2.2.1),.dat (vstr i.2.2.2.2.2.2)])]) (fun i=>Yk v5 l8 r21 i.1 i.2.1 i.2.2.1 i.2.2.2.1 i.2.2.2.2.1 i.2.2.2.2.2.1 i.2.2.2.2.2.2=some q10) (fun i=>Z) ?_ ?_
       ·skip
        refine zc hN Z (za (zg (.ptr _ _) Z) (bE H fun r86 h87 H=>zd (yo (kw (zt.mk c83 c84) 60 r86 h87) Z ⟨.inl Z,U⟩ Z) Z (zi _ Z (fun h88 => ?_) (fun h88 => ?_))))
        ·refine tE h88 H fun H=>zc hN Z (za (zg (.ptr _ _) Z) (bE H fun r89 h90 H=>zd (yo (Qb r86.2 5 r89 h90) Z ⟨.inl Z,U⟩ Z) Z (yd (zc hN Z (za (qc Z Z) (qe Z (zi _ Z (fun h91 => ?_) (fun h91 => ?_))))))))
         ·exact tE h91 H fun H=>zq hN Z (za (zg (.ptr _ _) Z) (bE H fun r92 h93 H=>zd (yo (w32 r89.2 r92 h93) Z U Z) Z (za (zj Zf Z) (zd (wv tyS9 Z Z Z Z) Z ⟨(r92.2.L,r92.2.at_,(wr (v5+r21.1)),r92.1,r25.1,c76,c85),H,⟨Z,Z,Z,Z,Z,Z,Z,Z,U⟩,⟨Z,Z,Z,Z,U⟩⟩))))
         ·refine fE h91 H fun H=>zc hN Z (za (qc Z Z) (qe Z (zi _ Z (fun h94 => ?_) (fun h94 => ?_))))
          ·exact tE h94 H fun H=>zq hN Z (za (zg (.ptr _ _) Z) (bE H fun r95 h96 H=>zd (yo (w3x r89.2 r95 h96) Z U Z) Z (za (zj uz Z) (zd (wv tyS9 Z Z Z Z) Z ⟨(r95.2.L,r95.2.at_,(wr (v5+r21.1)),c44,r95.1,c76,c85),H,⟨Z,Z,Z,Z,Z,Z,Z,Z,U⟩,⟨Z,Z,Z,Z,U⟩⟩))))
          ·refine fE h94 H fun H=>zc hN Z (za (qc Z Z) (qe Z (zi _ Z (fun h97 => ?_) (fun h97 => ?_))))
           ·exact tE h97 H fun H=>zq hN Z (za (zg (.ptr _ _) Z) (bE H fun r98 h99 H=>zd (yo (Qa r89.2 1 6 r98 h99) Z ⟨.inl Z,.inl Z,U⟩ Z) Z (za (zj jt Z) (zd (wv tyS3 Z Z Z Z) Z ⟨(r98.2.L,r98.2.at_,(wr (v5+r21.1)),c44,r25.1,r98.1,c85),H,⟨Z,Z,Z,Z,Z,Z,Z,Z,U⟩,⟨Z,Z,Z,Z,U⟩⟩))))
           ·refine fE h97 H fun H=>zc hN Z (za (qc Z Z) (qe Z (zi _ Z (fun h100 => ?_) (fun h100 => ?_))))
            ·exact tE h100 H fun H=>zq hN Z (za (zg (.ptr _ _) Z) (za (yf (u':=vlst (List.map yr [[98,105,103],[110,111,110,101],[]])) (qa [[_],[_],[_]] vh ⟨Z,.inl ⟨_,Z,Z,Z⟩,Z,Z,.inl ⟨_,Z,Z,Z⟩,Z,Z,.inl ⟨_,Z,Z,Z⟩,Z,U⟩ Z Z) Z) (bE H fun r101 h102 H=>zd (yo (kj r89.2 ([[98,105,103],[110,111,110,101],[]]) r101 h102) Z ⟨.inl Z,U⟩ Z) Z (za (zj xl Z) (zd (wv tyS9 Z Z Z Z) Z ⟨(r101.2.L,r101.2.at_,(wr (v5+r21.1)),c44,r25.1,c76,r101.1),H,⟨Z,Z,Z,Z,Z,Z,Z,Z,U⟩,⟨Z,Z,Z,Z,U⟩⟩)))))
            ·exact fE h100 H fun H=>zq hN Z (za (zg (.ptr _ _) Z) (bE H fun r103 h104 H=>zd (yo (Qa r89.2 0 1000 r103 h104) Z ⟨.inl Z,.inl Z,U⟩ Z) Z (za (zj jw Z) (zd (wv tyS3 Z Z Z Z) Z ⟨(r103.2.L,r103.2.at_,r103.1,c44,r25.1,c76,c85),H,⟨Z,Z,Z,Z,Z,Z,Z,Z,U⟩,⟨Z,Z,Z,Z,U⟩⟩))))
        ·exact fE h88 H fun H=>zp ⟨(r86.2.L,r86.2.at_,(wr (v5+r21.1)),c44,r25.1,c76,c85),H,⟨Z,Z,Z,Z,Z,Z,Z,Z,U⟩,⟨Z,Z,Z,Z,U⟩⟩
       ·rintro ⟨c105,c106,c107,c108,c109,c110,c111⟩ H
        replace H:Yk v5 l8 r21 c105 c106 c107 c108 c109 c110 c111=some q10:=H
        unfold Yk at H
        refine zq hN Z (za (zg (.row _ _) Z) (ze (yg vk Z Z Z) Z (za (yf (u':=vlst (List.map yi [(zk.mk c107 c108 c109 c110 c111)])) (qa [_] x0e ⟨Z,.inr Z,Z,U⟩ Z Z) Z) (gE H fun h112 H=>zd (je x0e (fun _=>Z) Z Z Z ⟨by simp,by first | (simp; done) | simpa using h112⟩ Z) Z ?_))))
        exact za (qy (.row _ _) Z) ⟨(wr (v5+r21.1),(l8++[(zk.mk c107 c108 c109 c110 c111)]),c105,c106),H,⟨Z,Z,Z,Z,Z,Z,Z,U⟩,⟨Z,Z,Z,U⟩⟩
    ·rintro k46 x49 l45 q47 h113 h114 H hq47
     replace H:y3o r25 k46 x49 l45=some q47:=H
     unfold y3o at H
     refine zc hN Z (za (ye Z Z) (zf (zi _ Z (fun h => ?_) (fun h=>(lt_f h113 h).elim))))
     refine zp (yw (ι:=(List Bs)) (fun i=>[(0,.ptr 0 0),(2,.dat (vlst (List.map yk v3))),(5,.ptr 1 0),(9,.row 2 l8.length),(10,.dat (vint (wr (v5+r21.1)))),(11,.ptr 4 0),(12,.row 5 i.length),(17,.dat (vint v4)),(18,.dat (vint (k9:Int))),(55,.dat (vlst (List.map ym v2.Plans))),(56,.dat (vint (v2.Plans.length:Int))),(57,.dat (vint (k46:Int)))]) (fun i=>[(0,.box (some bl) 25 [.dat (vlst (List.map qn c42)),.dat (vint c43)]),(1,.box none 29 [.dat (vlst (List.map yt v2.Products)),.dat (vlst (List.map ym v2.Plans))]),(2,.row 102 5 (List.map yi l8)),(4,.box none 102 [.dat (vint (wr (v5+r21.1))),.dat (vstr c44),.dat (vstr r25.1),.dat (vint r27.1),.dat (vstr [])]),(5,.row 9 1 (List.map yr i))]) (fun i=>z5u i=some q47) (fun i=>Z) ?_ ?_)
     ·skip
      refine yd (zc hN Z (za (wq xm (fun _=>Z) Z Z h114) (za (wo vu Z (qg h114) Z) (zd (qf 6 uj Z) Z (zd (yz vu Z Z Z Z) Z (zc hN Z (za (zj z3q Z) (ze (zl tyS9 Z Z) Z (za (zj uz Z) (ze (zl tyS9 Z Z) Z (za (Yt Z Z) (zi _ Z (fun h115 => ?_) (fun h115 => ?_)))))))))))))
      ·refine tE h115 H fun H=>zq hN Z (za (zg (.row _ _) Z) (za (zj ux Z) (ze (zl tyS9 Z Z) Z (za (yf (u':=vlst (List.map yr [x49.Key])) (qa [[_]] vh ⟨Z,.inl ⟨_,Z,Z,Z⟩,Z,U⟩ Z Z) Z) (gE H fun h116 H=>zd (je vh (fun _=>Z) Z Z Z ⟨by simp,by first | (simp; done) | simpa using h116⟩ Z) Z ?_)))))
       exact za (qy (.row _ _) Z) ⟨(l45++[x49.Key]),H,⟨Z,Z,Z,Z,Z,Z,Z,Z,Z,Z,Z,Z,U⟩,⟨Z,Z,Z,Z,Z,U⟩⟩
      ·exact fE h115 H fun H=>zp ⟨l45,H,⟨Z,Z,Z,Z,Z,Z,Z,Z,Z,Z,Z,Z,U⟩,⟨Z,Z,Z,Z,Z,U⟩⟩
     ·rintro v117 H
      replace H:z5u v117=some q47:=H
      unfold z5u at H
      exact zq hN Z (za (wa Z Z (by omega)) (qd Z ⟨_,qj H,⟨Z,Z,Z,Z,Z,Z,Z,Z,Z,Z,Z,Z,U⟩,⟨Z,Z,Z,Z,Z,U⟩⟩))
  ·rintro ⟨v118,v119,c120,c121⟩ H
   replace H:z03 v118 v119 c120 c121=some q10:=H
   unfold z03 at H
   exact zq hN Z (za (wa Z Z (by omega)) (qd Z ⟨_,qj H,⟨Z,Z,Z,Z,Z,Z,Z,U⟩,⟨Z,Z,Z,U⟩⟩))
theorem w3o (v1:Int) (r:(Bool)) (H:y2y v1=some r):Fn Tryz.prog 57 [vint v1] (yc [zr r]):=by
 refine ⟨by kernel_rfl,yl (us:=[zr r]) Tryz.func57 Z Z Z Z fun X hN => ?_⟩
 unfold y2y at H
 refine zc hN Z (qe Z (zc hN Z (qd Z (bE H fun r2 h3 H=>za (yb (Zp v1 0 345686399999 r2 h3) ⟨.inl Z,.inl Z,.inl Z,U⟩) (qe Z (zn ?_))))))
 cases H
 exact ⟨U,.inl Z,U⟩
theorem w3p (v1:zx) (v2:(List zy)) (v3:(List zk)) (r:(Int)) (H:z8o v1 v2 v3=some r):Fn Tryz.prog 21 [vagg (yy v1),vlst (List.map yk v2),vlst (List.map yi v3)] (yc [vint r]):=by
 refine ⟨by kernel_rfl,yl (us:=[vint r]) Tryz.func21 Z Z Z Z fun X hN => ?_⟩
 unfold z8o at H
 refine zc hN Z (zd (qr 1 Z) Z (qe Z (zf (zc hN Z (ze (yg ql Z Z Z) Z (qd Z (bE H fun r4 h5 H=>za (yb (x3p v1 v2 r4 h5) ⟨.inl Z,.inl Z,U⟩) (qe Z (zc hN Z (qd Z (za (vn Z Z) (zi _ Z (fun h6 => ?_) (fun h6 => ?_)))))))))))))
 ·refine tE h6 H fun H=>zc hN Z (qd Z (qe Z (zn ?_)))
  cases H
  exact ⟨U,.inl Z,U⟩
 ·refine fE h6 H fun H=>zp (zf (zc hN Z (qd Z (za (yu Zc Z) (za (wz Z Z) (zi _ Z (fun h7 => ?_) (fun h7 => ?_)))))))
  ·refine tE h7 H fun H=>zc hN Z (qe Z (zn ?_))
   cases H
   exact ⟨U,.inl Z,U⟩
  ·refine fE h7 H fun H=>zp (zf (zc hN Z (qd Z (za (yu Zc Z) (qd Z (yd (gE H fun h10 H=>ve (fun (k8:Nat) (s:Unit)=>[(1,.dat (vlst (List.map yk v2))),(2,.dat (vlst (List.map yi v3))),(3,.ptr 1 0),(21,.dat (vlst (List.map yi v3))),(22,.dat (vint (v3.length:Int))),(23,.dat (vint (k8:Int)))]) (fun (k8:Nat) (s:Unit)=>[(1,.box none 29 [.dat (vlst (List.map yt v1.Products)),.dat (vlst (List.map ym v1.Plans))])]) () H ⟨Z,Z,Z,Z,Z,Z,U⟩ ⟨Z,U⟩ (fun _ _=>Z) ?_ ?_)))))))
   ·rintro ⟨⟩ H
    replace H:y72=some r:=H
    unfold y72 at H
    refine zc hN Z (za (ye Z Z) (zf (zi _ Z (fun h=>(lt_t h).elim) (fun h => ?_))))
    refine qk (zc hN Z (qe Z (zn ?_)))
    cases H
    exact ⟨U,.inl Z,U⟩
   ·rintro k8 x11 ⟨⟩ q9 h12 h13 H hq9
    replace H:z9o v1 v2 v3 k8 x11=some q9:=H
    unfold z9o at H
    refine zc hN Z (za (ye Z Z) (zf (zi _ Z (fun h => ?_) (fun h=>(lt_f h12 h).elim))))
    refine zp (zf (yd (zc hN Z (qd Z (za (wq jm (fun _=>Z) Z Z h13) (za (wo vk Z (qg h13) Z) (zd (qf 2 Wx Z) Z (qe Z (zd (yz vk Z Z Z Z) Z (zc hN Z (ze (yg ql Z Z Z) Z (za (zj xl Z) (ze (zl tyS9 Z Z) Z (bE H fun r14 h15 H=>za (yb (z9c v1 x11.Plan r14 h15) ⟨.inl Z,.inl Z,U⟩) (qe Z (zc hN Z (za (zj jt Z) (ze (zl tyS3 Z Z) Z (za (qc Z Z) (qe Z (yd (zc hN Z ?_))))))))))))))))))))))
    refine za (zj jw Z) (ze (zl tyS3 Z Z) Z (bE H fun r16 h17 H=>za (yb (w3o x11.At r16 h17) ⟨.inl Z,U⟩) (za (ww Z) (qe Z (zi _ Z (fun h18 => ?_) (fun h18 => ?_))))))
    ·refine tE h18 H fun H=>zc hN Z (qe Z (zn ?_))
     replace H:=retl H hq9
     cases H
     exact ⟨U,.inl Z,U⟩
    ·refine fE h18 H fun H=>yw (ι:=Bool) (fun i=>[(1,.dat (vlst (List.map yk v2))),(2,.dat (vlst (List.map yi v3))),(3,.ptr 1 0),(8,.dat (vint (k8:Int))),(9,.ptr 2 0),(10,.dat (vint r14)),(11,.dat (zr (decide (x11.Kind=1)))),(21,.dat (vlst (List.map yi v3))),(22,.dat (vint (v3.length:Int))),(23,.dat (vint (k8:Int))),(40,.dat (zr i))]) (fun i=>[(1,.box none 29 [.dat (vlst (List.map yt v1.Products)),.dat (vlst (List.map ym v1.Plans))]),(2,.box none 102 [.dat (vint x11.At),.dat (vstr x11.App),.dat (vstr x11.Product),.dat (vint x11.Kind),.dat (vstr x11.Plan)])]) (fun i=>z5i v1 v3 k8 x11 r14 i=some q9) (fun i=>Z) ?_ ?_
     ·skip
      refine zq hN Z (qd Z (za (zj Zf Z) (ze (zl tyS9 Z Z) Z (bE H fun r19 h20 H=>za (yb (x3t v2 x11.App r19 h20) ⟨.inl Z,.inl Z,U⟩) (za (ye Z Z) (qd Z (qv (j:=5) Z Z (fun h21 => ?_) (fun h21 => ?_) Z)))))))
      ·exact u3 h21 H fun h22 H=>wc Z Z h21 (yg ql Z Z Z) Z (zo Z Z h21 (zj uz Z) (wc Z Z h21 (zl tyS9 Z Z) Z (bE H fun r23 h24 H=>zo Z Z h21 (yb (y7s v1 x11.Product r23 h24) ⟨.inl Z,.inl Z,U⟩) (zo Z Z h21 (ye Z Z) (za (yq Z (bFF h22) Z) (qe Z ⟨decide (r23 < 0),H,⟨Z,Z,Z,Z,Z,Z,Z,Z,Z,Z,Z,U⟩,⟨Z,Z,U⟩⟩))))))
      ·exact u4 h21 H fun h25 H=>zh Z Z h21 (zh Z Z h21 (zh Z Z h21 (zh Z Z h21 (zh Z Z h21 (za (qt Z (bTT h25) Z) (qe Z ⟨true,H,⟨Z,Z,Z,Z,Z,Z,Z,Z,Z,Z,Z,U⟩,⟨Z,Z,U⟩⟩))))))
     ·rintro v26 H
      replace H:z5i v1 v3 k8 x11 r14 v26=some q9:=H
      unfold z5i at H
      refine zi _ Z (fun h27 => ?_) (fun h27 => ?_)
      ·refine tE h27 H fun H=>zc hN Z (qe Z (zn ?_))
       replace H:=retl H hq9
       cases H
       exact ⟨U,.inl Z,U⟩
      ·refine fE h27 H fun H=>zc hN Z (za (zj jt Z) (ze (zl tyS3 Z Z) Z (bE H fun r28 h29 H=>za (yb (Zp x11.Kind 1 6 r28 h29) ⟨.inl Z,.inl Z,.inl Z,U⟩) (za (ww Z) (qe Z (zi _ Z (fun h30 => ?_) (fun h30 => ?_)))))))
       ·refine tE h30 H fun H=>zc hN Z (qe Z (zn ?_))
        replace H:=retl H hq9
        cases H
        exact ⟨U,.inl Z,U⟩
       ·refine fE h30 H fun H=>zc hN Z (qd Z (za (ww Z) (qd Z (wb Z Z (fun hc=>zj xl Z) (un Z Z (fun hc=>zl tyS9 (cnd (c:=(!(decide (x11.Kind=1)))) hc) Z) Z jq (wb Z Z (fun hc=>Yd (cnd (c:=(!(decide (x11.Kind=1)))) hc) Z) (za (jf Z (fun hb=>(cnd (c:=(!(decide (x11.Kind=1)))) hb)) Z) (qe Z (zi _ Z (fun h31 => ?_) (fun h31 => ?_))))))))))
        ·refine tE h31 H fun H=>zc hN Z (qe Z (zn ?_))
         replace H:=retl H hq9
         cases H
         exact ⟨U,.inl Z,U⟩
        ·refine fE h31 H fun H=>zc hN Z (qd Z (qd Z (wb Z Z (fun hc=>zg (.dat _) Z) (wb Z Z (fun hc=>ye (cnd (c:=(decide (x11.Kind=1))) hc) Z) (za (jf Z (fun hb=>(cnd (c:=(decide (x11.Kind=1))) hb)) Z) (qe Z (zi _ Z (fun h32 => ?_) (fun h32 => ?_))))))))
         ·refine tE h32 H fun H=>zc hN Z (qe Z (zn ?_))
          replace H:=retl H hq9
          cases H
          exact ⟨U,.inl Z,U⟩
         ·refine fE h32 H fun H=>yw (ι:=Bool) (fun i=>[(1,.dat (vlst (List.map yk v2))),(2,.dat (vlst (List.map yi v3))),(3,.ptr 1 0),(8,.dat (vint (k8:Int))),(9,.ptr 2 0),(21,.dat (vlst (List.map yi v3))),(22,.dat (vint (v3.length:Int))),(23,.dat (vint (k8:Int))),(72,.dat (zr i))]) (fun i=>[(1,.box none 29 [.dat (vlst (List.map yt v1.Products)),.dat (vlst (List.map ym v1.Plans))]),(2,.box none 102 [.dat (vint x11.At),.dat (vstr x11.App),.dat (vstr x11.Product),.dat (vint x11.Kind),.dat (vstr x11.Plan)])]) (fun i=>z24 v3 k8 x11 i=some q9) (fun i=>Z) ?_ ?_
          ·skip
           refine wl mixed hN Z Z (qd Z (qd Z (qv (j:=1) Z Z (fun h33 => ?_) (fun h33 => ?_) Z)))
           ·refine u1 h33 H fun h34 H=>zo Z Z h33 (zj jk Z) (wc Z Z h33 (zl jj Z Z) Z (zo Z Z h33 (zg (.dat _) Z) (bE H fun x35 h36 H=>zo Z Z h33 (ja xm (fun _=>Z) Z Z h36) (zo Z Z h33 (jd z3q Z) (zo Z Z h33 (wy tyS9 Z (qg (qi h36).2) Z) (zo Z Z h33 (zj uz Z) (wc Z Z h33 (zl tyS9 Z Z) Z (zo Z Z h33 (Yd Z Z) (za (qt Z (bTT h34) Z) (qe Z ⟨Z,?_⟩))))))))))
            exact ⟨decide (x35.Product≠x11.Product),H,⟨Z,Z,Z,Z,Z,Z,Z,Z,Z,U⟩,⟨Z,Z,U⟩⟩
           ·refine u2 h33 H fun h37 H=>zh Z Z h33 (zh Z Z h33 (zh Z Z h33 (zh Z Z h33 (zh Z Z h33 (zh Z Z h33 (zh Z Z h33 (zh Z Z h33 (zh Z Z h33 (za (yq Z (bFF h37) Z) (qe Z ⟨Z,?_⟩))))))))))
            exact ⟨false,H,⟨Z,Z,Z,Z,Z,Z,Z,Z,Z,U⟩,⟨Z,Z,U⟩⟩
          ·rintro v38 H
           replace H:z24 v3 k8 x11 v38=some q9:=H
           unfold z24 at H
           refine zi _ Z (fun h39 => ?_) (fun h39 => ?_)
           ·refine tE h39 H fun H=>zc hN Z (qe Z (zn ?_))
            replace H:=retl H hq9
            cases H
            exact ⟨U,.inl Z,U⟩
           ·refine fE h39 H fun H=>yw (ι:=Bool) (fun i=>[(1,.dat (vlst (List.map yk v2))),(2,.dat (vlst (List.map yi v3))),(3,.ptr 1 0),(21,.dat (vlst (List.map yi v3))),(22,.dat (vint (v3.length:Int))),(23,.dat (vint (k8:Int))),(85,.dat (zr i))]) (fun i=>[(1,.box none 29 [.dat (vlst (List.map yt v1.Products)),.dat (vlst (List.map ym v1.Plans))])]) (fun i=>z5h i=some q9) (fun i=>Z) ?_ ?_
            ·skip
             refine wl mixed hN Z Z (qd Z (za (wz Z Z) (qd Z (qv (j:=2) Z Z (fun h40 => ?_) (fun h40 => ?_) Z))))
             ·refine u1 h40 H fun h41 H=>zo Z Z h40 (zg (.dat _) Z) (zo Z Z h40 (zg (.dat _) Z) (zo Z Z h40 (Yb Z Z (by omega)) (bE H fun x42 h43 H=>zo Z Z h40 (ja jm (fun _=>Z) Z Z h43) (zo Z Z h40 (wo vk Z (qg (qi h43).2) Z) (wc Z Z h40 (yg vk Z Z Z) Z (bE H fun r44 h45 H=>zo Z Z h40 (yb (y7t x42 x11 r44 h45) ⟨.inl Z,.inl Z,U⟩) (zo Z Z h40 (jn Z Z) (za (qt Z (bTT h41) Z) (qe Z ⟨Z,?_⟩)))))))))
              exact ⟨decide (0≤r44),H,⟨Z,Z,Z,Z,Z,Z,Z,U⟩,⟨Z,U⟩⟩
             ·refine u2 h40 H fun h46 H=>zh Z Z h40 (zh Z Z h40 (zh Z Z h40 (zh Z Z h40 (zh Z Z h40 (zh Z Z h40 (zh Z Z h40 (zh Z Z h40 (za (yq Z (bFF h46) Z) (qe Z ⟨Z,?_⟩)))))))))
              exact ⟨false,H,⟨Z,Z,Z,Z,Z,Z,Z,U⟩,⟨Z,U⟩⟩
            ·rintro v47 H
             replace H:z5h v47=some q9:=H
             unfold z5h at H
             refine zi _ Z (fun h48 => ?_) (fun h48 => ?_)
             ·refine tE h48 H fun H=>zc hN Z (qe Z (zn ?_))
              replace H:=retl H hq9
              cases H
              exact ⟨U,.inl Z,U⟩
             ·exact fE h48 H fun H=>zp (zq hN Z (za (wa Z Z (by omega)) (qd Z ⟨_,qj H,⟨Z,Z,Z,Z,Z,Z,U⟩,⟨Z,U⟩⟩)))
theorem w34 (s1:zt) (many2:Int) (r:(zx×(List zy)×(List zk)×Int×zt)) (H:z80 s1 many2=some r):Imp Tryz.prog 4 25 (qz s1) [vint many2] (yc [vagg (yy r.1),vlst (List.map yk r.2.1),vlst (List.map yi r.2.2.1),vint r.2.2.2.1]) (qz r.2.2.2.2):=by
 refine kx (us:=[vagg (yy r.1),vlst (List.map yk r.2.1),vlst (List.map yi r.2.2.1),vint r.2.2.2.1]) (cs':=(qz r.2.2.2.2)) (by kernel_rfl) Tryz.func4 Z Z Z Z fun X bl hN => ?_
 unfold z80 at H
 refine zc hN Z (zd (qf 1 kn Z) Z (qe Z (qe Z (qe Z (zc hN Z (za (zg (.ptr _ _) Z) (bE H fun r3 h4 H=>zd (yo (w30 s1 r3 h4) Z U Z) Z (za (zg (.ptr _ _) Z) (bE H fun r5 h6 H=>zd (yo (w31 r3.2 r5 h6) Z U Z) Z (zd (qf 2 kn Z) Z (zd (yz ql Z Z Z Z) Z (qe Z (zc hN Z (za (zg (.ptr _ _) Z) (ze (yg ql Z Z Z) Z (qd Z (qd Z (bE H fun r7 h8 H=>zd (yo (w3z r5.2 r3.1 r5.1 many2 r7 h8) Z ⟨.inl Z,.inl Z,.inl Z,U⟩ Z) Z (qe Z (zf ?_))))))))))))))))))))
 refine wl mixed hN Z Z (ze (yg ql Z Z Z) Z (qd Z (qd Z (ze (yg ql Z Z Z) Z (qd Z (qd Z (bE H fun r9 h10 H=>za (yb (w3p r3.1 r5.1 r7.1 r9 h10) ⟨.inl Z,.inl Z,.inl Z,U⟩) (zd (yz ql Z Z Z Z) Z (qe Z (qe Z (qe Z ⟨Z,?_⟩)))))))))))
 refine zn ?_
 cases H
 exact ⟨U,⟨.inl ⟨_,_,_,yy r3.1,Z,Z,Z,Z,ql⟩,.inl Z,.inl Z,.inl Z,U⟩,Z⟩
theorem w2z (c1:zx) (plan2:Bs) (calls3:Int) (r:(Int×Int)) (H:z8b c1 plan2 calls3=some r):Fn Tryz.prog 36 [vagg (yy c1),vstr plan2,vint calls3] (yc [vint r.1,vint r.2]):=by
 refine ⟨by kernel_rfl,yl (us:=[vint r.1,vint r.2]) Tryz.func36 Z Z Z Z fun X hN => ?_⟩
 unfold z8b at H
 refine zc hN Z (zd (qr 1 Z) Z (qe Z (qe Z (zf (zc hN Z (ze (yg ql Z Z Z) Z (bE H fun r4 h5 H=>za (yb (y7q c1 r4 h5) ⟨.inl Z,U⟩) (qe Z (zc hN Z (qd Z (za (vn Z Z) (zi _ Z (fun h6 => ?_) (fun h6 => ?_)))))))))))))
 ·refine tE h6 H fun H=>zc hN Z (qd Z (qe Z (qe Z (zn ?_))))
  cases H
  exact ⟨U,.inl Z,.inl Z,U⟩
 ·refine fE h6 H fun H=>zp (zc hN Z (ze (yg ql Z Z Z) Z (qd Z (bE H fun r7 h8 H=>za (yb (y25 c1 plan2 r7 h8) ⟨.inl Z,.inl Z,U⟩) (qd Z (za (qm Z Z) (za (qm Z Z) (zd (qf 2 uj Z) Z (zd (yz vu Z Z Z Z) Z (qe Z (zf (zc hN Z (qd Z (za (ww Z) (zi _ Z (fun h9 => ?_) (fun h9 => ?_))))))))))))))))
  ·refine tE h9 H fun H=>zc hN Z (qe Z (qe Z (zn ?_)))
   cases H
   exact ⟨U,.inl Z,.inl Z,U⟩
  ·refine fE h9 H fun H=>zp (zf (zc hN Z (qd Z (bE H fun r10 h11 H=>za (yb (Zo calls3 0 1000000000000 r10 h11) ⟨.inl Z,.inl Z,.inl Z,U⟩) (zi _ Z (fun h12 => ?_) (fun h12 => ?_))))))
   ·refine tE h12 H fun H=>zc hN Z (qe Z (qe Z (zn ?_)))
    cases H
    exact ⟨U,.inl Z,.inl Z,U⟩
   ·refine fE h12 H fun H=>zp (zc hN Z (ze (yg vu Z Z Z) Z (qd Z (bE H fun r13 h14 H=>za (yb (x3k r7.1 calls3 r13 h14) ⟨.inl Z,.inl Z,U⟩) (qe Z (qe Z (zn ?_)))))))
    cases H
    exact ⟨U,.inl Z,.inl Z,U⟩
end Go.Proofs.YtnnfdgngnoamoaaGreatDoor
