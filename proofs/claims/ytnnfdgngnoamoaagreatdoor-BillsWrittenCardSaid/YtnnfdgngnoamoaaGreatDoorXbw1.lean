/- Walks along the models. Printed by a program. -/
import Derived.Test.YtnnfdgngnoamoaaGreatDoorXbc
namespace Go.Proofs.YtnnfdgngnoamoaaGreatDoor
open Go.RowKit
set_option linter.unusedVariables false
set_option maxRecDepth 100000
set_option maxHeartbeats 2000000
theorem w2n  (r:(zw)) (H:y7d  = some r):Fn Tryz.prog 101 [] (yc [vagg (qq r)]):=by
 refine ⟨by kernel_rfl,yl (us:=[vagg (qq r)]) Tryz.func101 Z Z Z Z fun X hN => ?_⟩
 unfold y7d at H
 refine zc hN Z (zd (qf 1 jr Z) Z (zc hN Z (za (yf (u':=vagg (qq (zw.mk 0 [] 0 (-1)))) (vj [(3,[vint (-1)])] jr z6m Z ⟨Z,.inl ⟨_,Z,Z,Z⟩,Z,U⟩) Z) (zd (yz qh Z Z Z Z) Z (zn ?_)))))
 cases H
 exact ⟨U,.inl ⟨_,_,_,qq (zw.mk 0 [] 0 (-1)),Z,Z,Z,Z,qh⟩,U⟩
theorem z44 (state1:Int) (r:(Bool)) (H:z0s state1=some r):Fn Tryz.prog 102 [vint state1] (yc [zr r]):=by
 refine ⟨by kernel_rfl,yl (us:=[zr r]) Tryz.func102 Z Z Z Z fun X hN => ?_⟩
 unfold z0s at H
 refine zc hN Z (qe Z (zc hN Z (qd Z (za (qc Z Z) (qd Z (ji Z Z (fun hc=>zg (.dat _) Z) (ji Z Z (fun hc=>qc (cnd (c:=(!(decide (state1=2)))) hc) Z) (za (ul Z Z (fun hb=>(cnd (c:=(!(decide (state1=2)))) (notI hb)))) (qe Z (zn ?_))))))))))
 cases H
 exact ⟨U,.inl Z,U⟩
theorem w2d (x1:(List ya)) (target2:Bs) (p2:ya→Bs→Option (Int)) (fv2:Nat) (us2:List V) (hp2:∀ a0 a1 r,p2 a0 a1=some r→Fn Tryz.prog fv2 ([vagg (ym a0),vstr a1]++us2) (yc [vint r])) (r:(Int×Bool)) (H:y2q x1 target2 p2=some r):Fn Tryz.prog 116 [vlst (List.map ym x1),vstr target2,vfn fv2 us2] (yc [vint r.1,zr r.2]):=by
 refine ⟨by kernel_rfl,yl (us:=[vint r.1,zr r.2]) Tryz.func116 Z Z Z Z fun X hN => ?_⟩
 unfold y2q at H
 refine zc hN Z (qe Z (qe Z (zc hN Z (qd Z (za (yu Zs Z) (qe Z (zc hN Z (qd Z (qe Z (qe Z (yw (ι:=Int) (fun i=>[(0,.dat (vlst (List.map ym x1))),(1,.dat (vstr target2)),(2,.dat (vfn fv2 us2)),(8,.dat (vint (x1.length:Int))),(9,.dat (vint i))]) (fun i=>[]) (fun i=>y1i x1 target2 p2 i=some r) (fun i=>Z) ?_ ?_)))))))))))
 ·skip
  refine yd (ui (fun (s:Int×Int)=>[(0,.dat (vlst (List.map ym x1))),(1,.dat (vstr target2)),(2,.dat (vfn fv2 us2)),(8,.dat (vint (x1.length:Int))),(9,.dat (vint s.1)),(10,.dat (vint s.2))]) (fun (s:Int×Int)=>[]) (0,(x1.length:Int)) H ⟨Z,Z,Z,Z,Z,Z,U⟩ U (fun _=>Z) ?_)
  rintro ⟨i3,j4⟩ q5 H hq5
  replace H:y57 x1 target2 p2 i3 j4=some q5:=H
  unfold y57 at H
  refine zf (zc hN Z (qd Z (qd Z (za (ye Z Z) (zi _ Z (fun h6 => ?_) (fun h6 => ?_))))))
  ·refine tE h6 H fun H=>zp (yd (zc hN Z (qd Z (qd Z (za (yj _ Z Z (.inl ⟨Z,Z⟩)) (za (xp tyU3 Ql Z) (za (yf (z0i Z Z (by decide)) Z) (za (xp Ql tyU3 Z) (qe Z (zc hN Z (qd Z (qd Z (qd Z (bE H fun x7 h8 H=>za (ja xm (fun _=>Z) Z Z h8) (za (wo vu Z (qg (qi h8).2) Z) (qd Z (bE H fun r9 h10 H=>za (ua (hp2 x7 target2 r9 h10) Z ⟨.inl Z,.inl Z,U⟩) (za (ye Z Z) (zi _ Z (fun h11 => ?_) (fun h11 => ?_))))))))))))))))))))
   ·exact tE h11 H fun H=>zq hN Z (qd Z (za (yj _ Z Z (.inl ⟨Z,Z⟩)) (qe Z ⟨_,qj H,⟨Z,Z,Z,Z,Z,Z,U⟩,U⟩)))
   ·exact fE h11 H fun H=>zq hN Z (qd Z (qe Z ⟨_,qj H,⟨Z,Z,Z,Z,Z,Z,U⟩,U⟩))
  ·refine fE h6 H fun H=>qk ?_
   replace H:=outl H hq5
   exact ⟨i3,H,⟨Z,Z,Z,Z,Z,U⟩,U⟩
 ·rintro i12 H
  replace H:y1i x1 target2 p2 i12=some r:=H
  unfold y1i at H
  refine yw (ι:=Bool) (fun i=>[(6,.dat (vint i12)),(7,.dat (zr i))]) (fun i=>[]) (fun i=>z7a i12 i=some r) (fun i=>Z) ?_ ?_
  ·skip
   refine zq hN Z (qd Z (qd Z (qd Z (za (ye Z Z) (qd Z (qv (j:=4) Z Z (fun h13 => ?_) (fun h13 => ?_) Z))))))
   ·exact u1 h13 H fun h14 H=>zo Z Z h13 (zg (.dat _) Z) (zo Z Z h13 (zg (.dat _) Z) (zo Z Z h13 (zg (.dat _) Z) (bE H fun x15 h16 H=>zo Z Z h13 (ja xm (fun _=>Z) Z Z h16) (zo Z Z h13 (wo vu Z (qg (qi h16).2) Z) (zo Z Z h13 (zg (.dat _) Z) (bE H fun r17 h18 H=>zo Z Z h13 (ua (hp2 x15 target2 r17 h18) Z ⟨.inl Z,.inl Z,U⟩) (zo Z Z h13 (qc Z Z) (za (qt Z (bTT h14) Z) (qe Z (qe Z ⟨decide (r17=0),H,⟨Z,Z,U⟩,U⟩))))))))))
   ·exact u2 h13 H fun h19 H=>zh Z Z h13 (zh Z Z h13 (zh Z Z h13 (zh Z Z h13 (zh Z Z h13 (zh Z Z h13 (zh Z Z h13 (zh Z Z h13 (za (yq Z (bFF h19) Z) (qe Z (qe Z ⟨false,H,⟨Z,Z,U⟩,U⟩))))))))))
  ·rintro v20 H
   replace H:z7a i12 v20=some r:=H
   unfold z7a at H
   refine zn ?_
   cases H
   exact ⟨U,.inl Z,.inl Z,U⟩
theorem Yz (a b:Bs) (r:Int) (H:uq a b=some r):Fn Tryz.prog 44 [vstr a,vstr b] (yc [vint r]):=by
 cases H
 refine y8h (by kernel_rfl) fun M w vs h => ?_
 have h1:=y4l (us:=[.string ⟨a.toArray⟩,.string ⟨b.toArray⟩]) h
 subst h1
 refine (Tryz.strings_Compare ⟨a.toArray⟩ ⟨b.toArray⟩ w).mono ?_
 rintro e w' ⟨rfl,rfl⟩
 exact ⟨_,Z,Z,Kp.refl _ _⟩
theorem w2l (p1:ya) (k2:Bs) (r:(Int)) (H:z4k p1 k2=some r):Fn Tryz.prog 117 [vagg (ym p1),vstr k2] (yc [vint r]):=by
 refine ⟨by kernel_rfl,yl (us:=[vint r]) Tryz.func117 Z Z Z Z fun X hN => ?_⟩
 unfold z4k at H
 refine zc hN Z (zd (qr 1 Z) Z (qe Z (zc hN Z (za (zj ux Z) (ze (zl tyS9 Z Z) Z (qd Z (bE H fun r3 h4 H=>za (yb (Yz p1.Key k2 r3 h4) ⟨.inl Z,.inl Z,U⟩) (qe Z (zn ?_)))))))))
 cases H
 exact ⟨U,.inl Z,U⟩
theorem y25 (c1:zx) (key2:Bs) (r:(ya×Bool)) (H:Yh c1 key2=some r):Fn Tryz.prog 79 [vagg (yy c1),vstr key2] (yc [vagg (ym r.1),zr r.2]):=by
 refine ⟨by kernel_rfl,yl (us:=[vagg (ym r.1),zr r.2]) Tryz.func79 Z Z Z Z fun X hN => ?_⟩
 unfold Yh at H
 refine zc hN Z (zd (qr 1 Z) Z (zd (qf 2 uj Z) Z (qe Z (zc hN Z (za (zj jk Z) (ze (zl jj Z Z) Z (qd Z (bE H fun r3 h4 H=>za (z3x (w2d c1.Plans key2 (fun (a0:ya) (a1:Bs)=>z4k a0 a1) 117 [] (fun a0 a1 r h=>w2l a0 a1 r h) r3 h4) ⟨.inl (.inl Z),.inl (.inl Z),.inr ⟨_,Z,Z⟩,U⟩) (qd Z (za (qm Z Z) (za (qm Z Z) (qe Z (qe Z (zf (zc hN Z (qd Z (za (ww Z) (zi _ Z (fun h5 => ?_) (fun h5 => ?_)))))))))))))))))))
 ·refine tE h5 H fun H=>zc hN Z (za (x00 (u':=vagg (ym (ya.mk [] [] 0 0 [] 0 0 false))) (y93 (by exact ⟨Wt,Wt,Wt,Wt,z6h,Wt,Wt,Wt,U⟩)) (vj [] uj y0k Z U)) ?_)
  refine zd (yz vu Z Z Z Z) Z (qe Z (zn ?_))
  cases H
  exact ⟨U,.inl ⟨_,_,_,ym (ya.mk [] [] 0 0 [] 0 0 false),Z,Z,Z,Z,vu⟩,.inl Z,U⟩
 ·refine fE h5 H fun H=>zp (zc hN Z (za (zj jk Z) (ze (zl jj Z Z) Z (qd Z (bE H fun x6 h7 H=>za (ja xm (fun _=>Z) Z Z h7) (za (wo vu Z (qg (qi h7).2) Z) (zd (yz vu Z Z Z Z) Z (qe Z (zn ?_)))))))))
  cases H
  exact ⟨U,.inl ⟨_,_,_,ym x6,Z,Z,Z,Z,vu⟩,.inl Z,U⟩
theorem w2u (s1:zw) (x2:zk) (p3:ya) (r:(zw×Bool)) (H:y2v s1 x2 p3=some r):Fn Tryz.prog 144 [vagg (qq s1),vagg (yi x2),vagg (ym p3)] (yc [vagg (qq r.1),zr r.2]):=by
 refine ⟨by kernel_rfl,yl (us:=[vagg (qq r.1),zr r.2]) Tryz.func144 Z Z Z Z fun X hN => ?_⟩
 unfold y2v at H
 refine zc hN Z (zd (qr 1 Z) Z (zd (qr 2 Z) Z (zd (qr 3 Z) Z (zd (qf 4 jr Z) Z (qe Z (zf (yd (zc hN Z (za (zj vq Z) (ze (zl tyS3 Z Z) Z (bE H fun r4 h5 H=>za (yb (z44 s1.State r4 h5) ⟨.inl Z,U⟩) (qe Z (zi _ Z (fun h6 => ?_) (fun h6 => ?_))))))))))))))
 ·refine tE h6 H fun H=>zf (zc hN Z (za (zj ux Z) (ze (zl tyS9 Z Z) Z (za (zj z1o Z) (ze (zl tyS9 Z Z) Z (za (Yt Z Z) (qd Z (ji Z Z (fun hc=>zj y0n Z) (z7e Z Z (fun hc=>zl tyS4 (cnd (c:=(!(decide (p3.Key=s1.Plan)))) hc) Z) Z jq (za (ul Z Z (fun hb=>(cnd (c:=(!(decide (p3.Key=s1.Plan)))) (notI hb)))) (zi _ Z (fun h7 => ?_) (fun h7 => ?_))))))))))))
  ·refine tE h7 H fun H=>zc hN Z (ze (yg qh Z Z Z) Z (zd (yz qh Z Z Z Z) Z (qe Z (zn ?_))))
   cases H
   exact ⟨U,.inl ⟨_,_,_,qq s1,Z,Z,Z,Z,qh⟩,.inl Z,U⟩
  ·refine fE h7 H fun H=>zp (zf (wl mixed hN Z Z (za (zj ux Z) (ze (zl tyS9 Z Z) Z (za (zj jw Z) (ze (zl tyS3 Z Z) Z (za (zj z1o Z) (zd (wv tyS9 Z Z Z Z) Z (za (zj Qp Z) (zd (wv tyS3 Z Z Z Z) Z ⟨Z,?_⟩))))))))))
   refine zc hN Z (ze (yg qh Z Z Z) Z (zd (yz qh Z Z Z Z) Z (qe Z (zn ?_))))
   cases H
   exact ⟨U,.inl ⟨_,_,_,qq (zw.mk s1.State p3.Key x2.At s1.First),Z,Z,Z,Z,qh⟩,.inl Z,U⟩
 ·refine fE h6 H fun H=>zc hN Z (za (zj vq Z) (ze (zl tyS3 Z Z) Z (za (qc Z Z) (qe Z (zi _ Z (fun h8 => ?_) (fun h8 => ?_))))))
  ·refine tE h8 H fun H=>zc hN Z (ze (yg qh Z Z Z) Z (zd (yz qh Z Z Z Z) Z (qe Z (zn ?_))))
   cases H
   exact ⟨U,.inl ⟨_,_,_,qq s1,Z,Z,Z,Z,qh⟩,.inl Z,U⟩
  ·refine fE h8 H fun H=>zc hN Z (za (zj y0n Z) (ze (zl tyS4 Z Z) Z (qe Z (zi _ Z (fun h9 => ?_) (fun h9 => ?_)))))
   ·refine tE h9 H fun H=>zc hN Z (za (zj ux Z) (ze (zl tyS9 Z Z) Z (za (zj jw Z) (ze (zl tyS3 Z Z) Z (za (yf (u':=vagg (qq (zw.mk 1 p3.Key x2.At (-1)))) (vj [(0,[vint 1]),(1,[vstr p3.Key]),(2,[vint x2.At]),(3,[vint (-1)])] jr z6m Z ⟨Z,.inl ⟨_,Z,Z,Z⟩,Z,Z,.inl ⟨_,Z,Z,Z⟩,Z,Z,.inl ⟨_,Z,Z,Z⟩,Z,Z,.inl ⟨_,Z,Z,Z⟩,Z,U⟩) Z) (zd (yz qh Z Z Z Z) Z (qe Z (zn ?_))))))))
    cases H
    exact ⟨U,.inl ⟨_,_,_,qq (zw.mk 1 p3.Key x2.At (-1)),Z,Z,Z,Z,qh⟩,.inl Z,U⟩
   ·refine fE h9 H fun H=>zp (zc hN Z (za (zj ux Z) (ze (zl tyS9 Z Z) Z (za (zj jw Z) (ze (zl tyS3 Z Z) Z (za (zj jw Z) (ze (zl tyS3 Z Z) Z (za (yf (u':=vagg (qq (zw.mk 2 p3.Key x2.At x2.At))) (vj [(0,[vint 2]),(1,[vstr p3.Key]),(2,[vint x2.At]),(3,[vint x2.At])] jr z6m Z ⟨Z,.inl ⟨_,Z,Z,Z⟩,Z,Z,.inl ⟨_,Z,Z,Z⟩,Z,Z,.inl ⟨_,Z,Z,Z⟩,Z,Z,.inl ⟨_,Z,Z,Z⟩,Z,U⟩) Z) (zd (yz qh Z Z Z Z) Z (qe Z (zn ?_)))))))))))
    cases H
    exact ⟨U,.inl ⟨_,_,_,qq (zw.mk 2 p3.Key x2.At x2.At),Z,Z,Z,Z,qh⟩,.inl Z,U⟩
theorem w2o (kind1:Int) (state2:Int) (r:(Int×Bool)) (H:y2s kind1 state2=some r):Fn Tryz.prog 145 [vint kind1,vint state2] (yc [vint r.1,zr r.2]):=by
 refine ⟨by kernel_rfl,yl (us:=[vint r.1,zr r.2]) Tryz.func145 Z Z Z Z fun X hN => ?_⟩
 unfold y2s at H
 refine zc hN Z (qe Z (qe Z (zf (zc hN Z (qd Z (yd (zc hN Z (za (qc Z Z) (qe Z (zi _ Z (fun h3 => ?_) (fun h3 => ?_)))))))))))
 ·refine tE h3 H fun H=>zc hN Z (qd Z (za (qc Z Z) (qe Z (qe Z (zn ?_)))))
  cases H
  exact ⟨U,.inl Z,.inl Z,U⟩
 ·refine fE h3 H fun H=>zc hN Z (za (qc Z Z) (qe Z (zi _ Z (fun h4 => ?_) (fun h4 => ?_))))
  ·refine tE h4 H fun H=>zc hN Z (qd Z (za (qc Z Z) (qe Z (qe Z (zn ?_)))))
   cases H
   exact ⟨U,.inl Z,.inl Z,U⟩
  ·refine fE h4 H fun H=>zc hN Z (za (qc Z Z) (qe Z (zi _ Z (fun h5 => ?_) (fun h5 => ?_))))
   ·refine tE h5 H fun H=>zc hN Z (qd Z (za (qc Z Z) (qe Z (qe Z (zn ?_)))))
    cases H
    exact ⟨U,.inl Z,.inl Z,U⟩
   ·refine fE h5 H fun H=>zc hN Z (za (qc Z Z) (qe Z (zi _ Z (fun h6 => ?_) (fun h6 => ?_))))
    ·refine tE h6 H fun H=>zc hN Z (qd Z (za (qc Z Z) (qe Z (qe Z (zn ?_)))))
     cases H
     exact ⟨U,.inl Z,.inl Z,U⟩
    ·refine fE h6 H fun H=>zp (yw (ι:=Bool) (fun i=>[(4,.dat (vint 4)),(5,.dat (zr i))]) (fun i=>[]) (fun i=>z38 i=some r) (fun i=>Z) ?_ ?_)
     ·skip
      refine zq hN Z (qd Z (za (qc Z Z) (qd Z (qv (j:=2) Z Z (fun h7 => ?_) (fun h7 => ?_) Z))))
      ·exact u3 h7 H fun h8 H=>zo Z Z h7 (zg (.dat _) Z) (bE H fun r9 h10 H=>zo Z Z h7 (yb (z44 state2 r9 h10) ⟨.inl Z,U⟩) (za (yq Z (bFF h8) Z) (qe Z (qe Z ⟨r9,H,⟨Z,Z,U⟩,U⟩))))
      ·exact u4 h7 H fun h11 H=>zh Z Z h7 (zh Z Z h7 (za (qt Z (bTT h11) Z) (qe Z (qe Z ⟨true,H,⟨Z,Z,U⟩,U⟩))))
     ·rintro v12 H
      replace H:z38 v12=some r:=H
      unfold z38 at H
      refine zn ?_
      cases H
      exact ⟨U,.inl Z,.inl Z,U⟩
theorem y7o (c1:zx) (s2:zw) (x3:zk) (r:(zw×Bool)) (H:z74 c1 s2 x3=some r):Fn Tryz.prog 103 [vagg (yy c1),vagg (qq s2),vagg (yi x3)] (yc [vagg (qq r.1),zr r.2]):=by
 refine ⟨by kernel_rfl,yl (us:=[vagg (qq r.1),zr r.2]) Tryz.func103 Z Z Z Z fun X hN => ?_⟩
 unfold z74 at H
 refine zc hN Z (zd (qr 1 Z) Z (zd (qr 2 Z) Z (zd (qr 3 Z) Z (zd (qf 4 jr Z) Z (qe Z (zf (zc hN Z (za (zj jt Z) (ze (zl tyS3 Z Z) Z (za (qc Z Z) (zi _ Z (fun h4 => ?_) (fun h4 => ?_))))))))))))
 ·refine tE h4 H fun H=>zc hN Z (ze (yg ql Z Z Z) Z (za (zj xl Z) (ze (zl tyS9 Z Z) Z (bE H fun r5 h6 H=>za (yb (y25 c1 x3.Plan r5 h6) ⟨.inl Z,.inl Z,U⟩) (qd Z (za (qm Z Z) (za (qm Z Z) (zd (qf 5 uj Z) Z (zd (yz vu Z Z Z Z) Z (qe Z (zc hN Z (ze (yg qh Z Z Z) Z (ze (yg vk Z Z Z) Z (ze (yg vu Z Z Z) Z (bE H fun r7 h8 H=>za (yb (w2u s2 x3 r5.1 r7 h8) ⟨.inl Z,.inl Z,.inl Z,U⟩) (za (qm Z Z) (za (qm Z Z) (zd (yz qh Z Z Z Z) Z (qe Z (zn ?_))))))))))))))))))))
  cases H
  exact ⟨U,.inl ⟨_,_,_,qq r7.1,Z,Z,Z,Z,qh⟩,.inl Z,U⟩
 ·refine fE h4 H fun H=>zp (zc hN Z (za (zj jt Z) (ze (zl tyS3 Z Z) Z (za (zj vq Z) (ze (zl tyS3 Z Z) Z (bE H fun r9 h10 H=>za (yb (w2o x3.Kind s2.State r9 h10) ⟨.inl Z,.inl Z,U⟩) (qd Z (za (qm Z Z) (za (qm Z Z) (qe Z (qe Z (zf (zc hN Z (qd Z (za (ww Z) (zi _ Z (fun h11 => ?_) (fun h11 => ?_)))))))))))))))))
  ·refine tE h11 H fun H=>zc hN Z (ze (yg qh Z Z Z) Z (zd (yz qh Z Z Z Z) Z (qe Z (zn ?_))))
   cases H
   exact ⟨U,.inl ⟨_,_,_,qq s2,Z,Z,Z,Z,qh⟩,.inl Z,U⟩
  ·refine fE h11 H fun H=>zp (zf (wl mixed hN Z Z (qd Z (za (zj jw Z) (ze (zl tyS3 Z Z) Z (za (zj vq Z) (zd (wv tyS3 Z Z Z Z) Z (za (zj Qp Z) (zd (wv tyS3 Z Z Z Z) Z ⟨Z,?_⟩)))))))))
   refine yw (ι:=Int) (fun i=>[(4,.ptr 2 0),(6,.ptr 4 0)]) (fun i=>[(2,.box none 108 [.dat (vint r9.1),.dat (vstr s2.Plan),.dat (vint x3.At),.dat (vint i)]),(4,.box none 108 [.dat (vint 0),.dat (vstr []),.dat (vint 0),.dat (vint 0)])]) (fun i=>z39 s2 x3 r9 i=some r) (fun i=>Z) ?_ ?_
   ·skip
    refine zc hN Z (qd Z (za (qc Z Z) (qd Z (wb Z Z (fun hc=>zj z1n Z) (un Z Z (fun hc=>zl tyS3 (cnd (c:=(decide (r9.1=2))) hc) Z) Z jq (wb Z Z (fun hc=>ye (cnd (c:=(decide (r9.1=2))) hc) Z) (za (jf Z (fun hb=>(cnd (c:=(decide (r9.1=2))) hb)) Z) (zi _ Z (fun h12 => ?_) (fun h12 => ?_)))))))))
    ·exact tE h12 H fun H=>zq hN Z (za (zj jw Z) (ze (zl tyS3 Z Z) Z (za (zj z1n Z) (zd (wv tyS3 Z Z Z Z) Z ⟨x3.At,H,⟨Z,Z,U⟩,⟨Z,Z,U⟩⟩))))
    ·exact fE h12 H fun H=>zp ⟨s2.First,H,⟨Z,Z,U⟩,⟨Z,Z,U⟩⟩
   ·rintro c13 H
    replace H:z39 s2 x3 r9 c13=some r:=H
    unfold z39 at H
    refine zc hN Z (ze (yg qh Z Z Z) Z (zd (yz qh Z Z Z Z) Z (qe Z (zn ?_))))
    cases H
    exact ⟨U,.inl ⟨_,_,_,qq (zw.mk r9.1 s2.Plan x3.At c13),Z,Z,Z,Z,qh⟩,.inl Z,U⟩
theorem y7l (what1:Bs) (calls2:Int) (cents3:Int) (c4:(List yx)) (c5:zu) (r:((List yx))) (H:z2d what1 calls2 cents3 c4 c5=some r):FnG Tryz.prog 107 [.dat (vstr what1),.dat (vint calls2),.dat (vint cents3),.ptr 0 0,.dat (qw [[vstr c5.app_,vstr c5.product_]] 0 0)] [(0,.box (some 0) 48 [.row 1 c4.length]),(1,.row 90 5 (List.map wh c4))] (.dat (yc [])) [(0,.box (some 0) 48 [.row 900 r.length]),(900,.row 90 5 (List.map wh r))]:=by
 refine uv (by kernel_rfl) Tryz.func107 Z Z Z Z fun X A hN => ?_
 refine xz ?_
 unfold z2d at H
 refine zc hN Z (qd Z (za (vn Z Z) (zi _ Z (fun h6 => ?_) (fun h6 => ?_))))
 ·refine tE h6 H fun H=>zq hN Z (ze (zl Zu Z Z) Z (za (jd z6u Z) (za (wy tyS9 Z Z Z) (za (jd y0r Z) (za (wy tyS9 Z Z Z) (qd Z (qd Z (qd Z (za (yf (u':=vagg (wh (yx.mk c5.app_ c5.product_ what1 calls2 cents3))) (vj [(0,[vstr c5.app_]),(1,[vstr c5.product_]),(2,[vstr what1]),(3,[vint calls2]),(4,[vint cents3])] z3m y0j Z ⟨Z,.inl ⟨_,Z,Z,Z⟩,Z,Z,.inl ⟨_,Z,Z,Z⟩,Z,Z,.inl ⟨_,Z,Z,Z⟩,Z,Z,.inl ⟨_,Z,Z,Z⟩,Z,Z,.inl ⟨_,Z,Z,Z⟩,Z,U⟩) Z) (za (yf (u':=vlst (List.map wh [(yx.mk c5.app_ c5.product_ what1 calls2 cents3)])) (qa [_] xi ⟨Z,.inr Z,Z,U⟩ Z Z) Z) (gE H fun h7 H=>zd (je xi (fun _=>Z) Z Z Z ⟨by simp,by first | (simp; done) | simpa using h7⟩ Z) Z ?_)))))))))))
  refine Ye (Yc Zu Z Z (by rw [List.length_map]) Z) Z Z ?_
  cases H
  show Cv _ _ _ _
  exact z9v (rn [(1,900)]) [] [(0,.box (some (A.bl 0)) 48 [.row 1 ((c4++[(yx.mk c5.app_ c5.product_ what1 calls2 cents3)]).length)]),(1,.row 90 5 (List.map wh (c4++[(yx.mk c5.app_ c5.product_ what1 calls2 cents3)])))] U ⟨Z,Z,U⟩ Z Z ⟨U,[],U,⟨Z,Z,U⟩,Z,.inl ⟨[],U,Z⟩⟩
 ·refine fE h6 H fun H=>zp ?_
  have eH:c4=r:=Option.some.inj H
  subst eH
  show Cv _ _ _ _
  exact z9v (rn [(1,900)]) [] [(0,.box (some (A.bl 0)) 48 [.row 1 c4.length]),(1,.row 90 5 (List.map wh c4))] U ⟨Z,Z,U⟩ Z Z ⟨U,[],U,⟨Z,Z,U⟩,Z,.inl ⟨[],U,Z⟩⟩
theorem x3k (p1:ya) (calls2:Int) (r:(Int)) (H:z4j p1 calls2=some r):Fn Tryz.prog 80 [vagg (ym p1),vint calls2] (yc [vint r]):=by
 refine ⟨by kernel_rfl,yl (us:=[vint r]) Tryz.func80 Z Z Z Z fun X hN => ?_⟩
 unfold z4j at H
 refine zc hN Z (zd (qr 1 Z) Z (qe Z (zc hN Z (qd Z (za (zj z6q Z) (ze (zl tyS3 Z Z) Z (za (yj _ Z Z (.inr (.inl ⟨Z,Z⟩))) (za (y49 Z Z) (qe Z (zc hN Z (qe Z (zf (zc hN Z (za (zj kz Z) (ze (zl kg Z Z) Z (za (yu Qj Z) (qd Z (yd (gE H fun h6 H=>ve (fun (k4:Nat) (s:Int)=>[(2,.ptr 1 0),(5,.dat (vint (max 0 (wr (calls2 - p1.Free))))),(6,.dat (vint s)),(16,.dat (vlst (List.map wd p1.Tiers))),(17,.dat (vint (p1.Tiers.length:Int))),(18,.dat (vint (k4:Int)))]) (fun (k4:Nat) (s:Int)=>[(1,.box none 84 [.dat (vstr p1.Key),.dat (vstr p1.Product),.dat (vint p1.Base),.dat (vint p1.Free),.dat (vlst (List.map wd p1.Tiers)),.dat (vint p1.Limit),.dat (vint p1.Trial),.dat (zr p1.Asked)])]) 0 H ⟨Z,Z,Z,Z,Z,Z,U⟩ ⟨Z,U⟩ (fun _ _=>Z) ?_ ?_)))))))))))))))))))
 ·rintro sum3 H
  replace H:z34 sum3=some r:=H
  unfold z34 at H
  refine zc hN Z (za (ye Z Z) (zf (zi _ Z (fun h=>(lt_t h).elim) (fun h => ?_))))
  refine qk (zc hN Z (qd Z (gE H fun h8 H=>za (Qs Z Z h8.1 h8.2) (qe Z (zn ?_)))))
  cases H
  exact ⟨U,.inl Z,U⟩
 ·rintro k4 x7 sum3 q5 h9 h10 H hq5
  replace H:z1y p1 calls2 k4 x7 sum3=some q5:=H
  unfold z1y at H
  refine zc hN Z (za (ye Z Z) (zf (zi _ Z (fun h => ?_) (fun h=>(lt_f h9 h).elim))))
  refine zp (zf (yd (zc hN Z (qd Z (za (wq Qq (fun _=>Z) Z Z h10) (za (wo z0a Z (qg h10) Z) (zd (qf 2 Wv Z) Z (qe Z (zd (yz z0a Z Z Z Z) Z (zc hN Z (qd Z (qe Z (yw (ι:=Int) (fun i=>[(2,.ptr 1 0),(5,.dat (vint (max 0 (wr (calls2 - p1.Free))))),(6,.dat (vint sum3)),(8,.ptr 2 0),(9,.dat (vint i)),(16,.dat (vlst (List.map wd p1.Tiers))),(17,.dat (vint (p1.Tiers.length:Int))),(18,.dat (vint (k4:Int)))]) (fun i=>[(1,.box none 84 [.dat (vstr p1.Key),.dat (vstr p1.Product),.dat (vint p1.Base),.dat (vint p1.Free),.dat (vlst (List.map wd p1.Tiers)),.dat (vint p1.Limit),.dat (vint p1.Trial),.dat (zr p1.Asked)]),(2,.box none 81 [.dat (vint x7.From),.dat (vint x7.Cents)])]) (fun i=>z1z sum3 x7 i=some q5) (fun i=>Z) ?_ ?_)))))))))))))
  ·skip
   refine zc hN Z (qd Z (za (wa Z Z (by omega)) (za (zj kz Z) (ze (zl kg Z Z) Z (za (yu Qj Z) (za (ye Z Z) (zi _ Z (fun h11 => ?_) (fun h11 => ?_))))))))
   ·exact tE h11 H fun H=>zq hN Z (qd Z (za (zj kz Z) (ze (zl kg Z Z) Z (qd Z (za (wa Z Z (by omega)) (bE H fun x12 h13 H=>za (wq Qq (fun _=>Z) Z Z h13) (za (jd xj Z) (za (wy tyS3 Z (qg h13) Z) (za (yj _ Z Z (.inr (.inl ⟨Z,Z⟩))) (za (x73 Z Z) (qe Z ⟨(min (max 0 (wr (calls2 - p1.Free))) (wr (x12.From - 1))),H,⟨Z,Z,Z,Z,Z,Z,Z,Z,U⟩,⟨Z,Z,U⟩⟩)))))))))))
   ·exact fE h11 H fun H=>zp ⟨(max 0 (wr (calls2 - p1.Free))),H,⟨Z,Z,Z,Z,Z,Z,Z,Z,U⟩,⟨Z,Z,U⟩⟩
  ·rintro to14 H
   replace H:z1z sum3 x7 to14=some q5:=H
   unfold z1z at H
   exact zq hN Z (qd Z (qd Z (za (zj xj Z) (ze (zl tyS3 Z Z) Z (za (yj _ Z Z (.inr (.inl ⟨Z,Z⟩))) (za (yj _ Z Z (.inl ⟨Z,Z⟩)) (za (y49 Z Z) (za (zj y0o Z) (ze (zl tyS3 Z Z) Z (za (yj _ Z Z (.inr (.inr ⟨Z,Z⟩))) (za (yj _ Z Z (.inl ⟨Z,Z⟩)) (qe Z (zq hN Z (za (wa Z Z (by omega)) (qd Z ⟨_,qj H,⟨Z,Z,Z,Z,Z,Z,U⟩,⟨Z,U⟩⟩)))))))))))))))
theorem w2x (s1:qp) (v2:zx) (v3:zu) (v4:Int) (v5:Int) (r:((List yx))) (H:z0u s1 v2 v3 v4 v5=some r):Fn Tryz.prog 66 [qw [[vint s1.on_.State,vstr s1.on_.Plan,vint s1.on_.Since,vint s1.on_.First,vint s1.last_.State,vstr s1.last_.Plan,vint s1.last_.Since,vint s1.last_.First]] 0 0,vagg (yy v2),vagg (we v3),vint v4,vint v5] (yc [vlst (List.map wh r)]):=by
 refine ⟨by kernel_rfl,yl (us:=[vlst (List.map wh r)]) Tryz.func66 Z Z Z Z fun X hN => ?_⟩
 unfold z0u at H
 refine zc hN Z (zd (qr 1 Z) Z (zd (qr 2 Z) Z (qe Z (zf (zc hN Z (qd Z (za (z3w Z) (za (jd z6t Z) (za (jd vq Z) (za (wy tyS3 Z Z Z) (za (qc Z Z) (zi _ Z (fun h6 => ?_) (fun h6 => ?_)))))))))))))
 ·refine tE h6 H fun H=>zc hN Z (qe Z (zn ?_))
  cases H
  exact ⟨U,.inr ⟨Z,Z⟩,U⟩
 ·refine fE h6 H fun H=>zp (zf (wl mixed hN Z Z (ze (yg ql Z Z Z) Z (qd Z (za (z3w Z) (za (jd z6t Z) (za (jd z1o Z) (za (wy tyS9 Z Z Z) (bE H fun r7 h8 H=>za (yb (y25 v2 s1.on_.Plan r7 h8) ⟨.inl Z,.inl Z,U⟩) (qd Z (za (qm Z Z) (za (qm Z Z) (zd (qf 3 uj Z) Z (zd (yz vu Z Z Z Z) Z (qe Z ⟨Z,?_⟩)))))))))))))))
  refine zc hN Z (zd (qf 4 x6l Z) Z (z91 4 0 5 90 5 Z Z Z Z (zf (z1c 2 [vstr v3.app_,vstr v3.product_] Z Z (zq hN Z (ze (x8i (s := .dr 4 (fun qb=>vfn 107 [vval (.pointer (some ⟨qb,0,none⟩)),qw [[vstr v3.app_,vstr v3.product_]] 0 0])) 4 (fun qb=>z0j (us:=[_,_]) ⟨Z,Z,U⟩) Z Z) Z (za (qy (.dr _ _) Z) (zc hN Z (qe Z (yw (ι:=Int) (fun i=>[(0,.dat (qw [[vint s1.on_.State,vstr s1.on_.Plan,vint s1.on_.Since,vint s1.on_.First,vint s1.last_.State,vstr s1.last_.Plan,vint s1.last_.Since,vint s1.last_.First]] 0 0)),(3,.dat (vint v4)),(4,.dat (vint v5)),(11,.ptr 3 0),(13,.ptr 4 0),(14,.dr 4 (fun qb=>vfn 107 [vval (.pointer (some ⟨qb,0,none⟩)),qw [[vstr v3.app_,vstr v3.product_]] 0 0])),(15,.dat (vint i))]) (fun i=>[(3,.box none 84 [.dat (vstr r7.1.Key),.dat (vstr r7.1.Product),.dat (vint r7.1.Base),.dat (vint r7.1.Free),.dat (vlst (List.map wd r7.1.Tiers)),.dat (vint r7.1.Limit),.dat (vint r7.1.Trial),.dat (zr r7.1.Asked)]),(4,.box none 48 [.row 5 (([]:List yx).length)]),(5,.row 90 5 (List.map wh ([]:List yx)))]) (fun i=>z13 s1 v3 v4 v5 r7 i=some r) (fun i=>Z) ?_ ?_))))))))))
  ·refine xz (zf (wl mixed hN Z Z (qd Z (qd Z (za (z3w Z) (za (jd z6t Z) (za (jd z1n Z) (za (wy tyS3 Z Z Z) (gE H fun h9 H=>za (Qs Z Z h9.1 h9.2) (za (yj _ Z Z (.inr (.inl ⟨Z,Z⟩))) (za (zj z6p Z) (ze (zl tyS3 Z Z) Z (za (jn Z Z) ⟨Z,?_⟩)))))))))))))
   refine zi _ Z (fun h10 => ?_) (fun h10 => ?_)
   ·refine tE h10 H fun H=>zq hN Z (za (zj z1m Z) (ze (zl tyS3 Z Z) Z (qe Z (z0l ?_))))
    show Cv _ _ _ _
    exact xx ⟨r7.1.Base,H,⟨Z,Z,Z,Z,Z,Z,Z,U⟩,⟨Z,(congrArg (fun n=>some (some (AObj.box none 48 [.row 5 n]))) (show 0=([]:List yx).length from (by simp))),Z,U⟩⟩
   ·refine fE h10 H fun H=>zp ?_
    show Cv _ _ _ _
    exact xx ⟨0,H,⟨Z,Z,Z,Z,Z,Z,Z,U⟩,⟨Z,(congrArg (fun n=>some (some (AObj.box none 48 [.row 5 n]))) (show 0=([]:List yx).length from (by simp))),Z,U⟩⟩
  ·rintro v11 H
   replace H:z13 s1 v3 v4 v5 r7 v11=some r:=H
   unfold z13 at H
   refine zc hN Z (za (zg (.dr _ _) Z) (qd Z (bE H fun r12 h13 H=>y6b (args:=[.dat (vstr [98,97,115,101]),.dat (vint 0),.dat (vint v11)]) (us:=[qw [[vstr v3.app_,vstr v3.product_]] 0 0]) (i0:=0) (rn [(0,4),(1,5),(900,6)]) [(0,_,_,some _),(1,_,_,none)] [(900,_)] (y7l [98,97,115,101] 0 v11 ([]:List yx) v3 r12 h13) ⟨Z,Z,Z,U⟩ Z Z ⟨.inl (.inl Z),.inl (.inl Z),.inl (.inl Z),U⟩ ⟨⟨⟨Z,Z⟩,U⟩,⟨⟨Z,Z,Z⟩,U⟩,U⟩ Z (zc hN Z (za (zg (.dr _ _) Z) (qd Z (ze (yg vu Z Z Z) Z (qd Z (bE H fun r14 h15 H=>za (yb (x3k r7.1 v5 r14 h15) ⟨.inl Z,.inl Z,U⟩) (bE H fun r16 h17 H=>y6b (args:=[.dat (vstr [99,97,108,108,115]),.dat (vint v5),.dat (vint r14)]) (us:=[qw [[vstr v3.app_,vstr v3.product_]] 0 0]) (i0:=0) (rn [(0,4),(1,6),(900,7)]) [(0,_,_,some _),(1,_,_,none)] [(900,_)] (y7l [99,97,108,108,115] v5 r14 r12 v3 r16 h17) ⟨Z,Z,Z,U⟩ Z Z ⟨.inl (.inl Z),.inl (.inl Z),.inl (.inl Z),U⟩ ⟨⟨⟨Z,Z⟩,U⟩,⟨⟨Z,Z,Z⟩,U⟩,U⟩ Z (yw (ι:=(List yx)) (fun i=>[(13,.ptr 4 0)]) (fun i=>[(4,.box none 48 [.row 9 i.length]),(9,.row 90 5 (List.map wh i))]) (fun i=>z12 i=some r) (fun i=>Z) ?_ ?_)))))))))))
   ·refine xz (zc hN Z (qd Z (za (z3w Z) (za (jd uy Z) (za (jd vq Z) (za (wy tyS3 Z Z Z) (za (qc Z Z) (zi _ Z (fun h18 => ?_) (fun h18 => ?_)))))))))
    ·refine tE h18 H fun H=>zc hN Z (qd Z (za (z3w Z) (za (jd uy Z) (za (jd Qp Z) (za (wy tyS3 Z Z Z) (qd Z (za (yj _ Z Z (.inr (.inr ⟨Z,Z⟩))) (za (yj _ Z Z (.inr (.inl ⟨Z,Z⟩))) (gE H fun h19 H=>za (Qs Z Z h19.1 h19.2) (qe Z (zq hN Z (za (zg (.dr _ _) Z) (qd Z (qd Z (za (yj _ Z Z (.inr (.inl ⟨Z,Z⟩))) (za (yj _ Z Z (.inr (.inr ⟨Z,Z⟩))) (gE H fun h20 H=>za (Qs Z Z h20.1 h20.2) (gE H fun h21 H=>za (x01 Z h21) (bE H fun r22 h23 H=>?_)))))))))))))))))))
     refine y6b (args:=[.dat (vstr [114,101,102,117,110,100]),.dat (vint 0),.dat (vint (-((wr (v11 * (wr (29 - ((wr (s1.last_.Since - (wr (v4 * 2592000000)))) / 86400000))))) / 30)))]) (us:=[qw [[vstr v3.app_,vstr v3.product_]] 0 0]) (i0:=0) (rn [(0,4),(1,7),(900,8)]) [(0,_,_,some _),(1,_,_,none)] [(900,_)] (y7l [114,101,102,117,110,100] 0 (-((wr (v11 * (wr (29 - ((wr (s1.last_.Since - (wr (v4 * 2592000000)))) / 86400000))))) / 30)) r16 v3 r22 h23) ⟨Z,Z,Z,U⟩ Z Z ⟨.inl (.inl Z),.inl (.inl Z),.inl (.inl Z),U⟩ ⟨⟨⟨Z,Z⟩,U⟩,⟨⟨Z,Z,Z⟩,U⟩,U⟩ Z (z0l ?_)
     show Cv _ _ _ _
     exact z9v (rn [(8,9)]) [(13,.ptr 4 0)] [(4,.box none 48 [.row 8 r22.length]),(8,.row 90 5 (List.map wh r22))] ⟨Z,U⟩ ⟨Z,Z,U⟩ Z Z ⟨r22,H,⟨Z,U⟩,⟨Z,Z,U⟩⟩
    ·refine fE h18 H fun H=>zp ?_
     show Cv _ _ _ _
     exact z9v (rn [(7,9)]) [(13,.ptr 4 0)] [(4,.box none 48 [.row 7 r16.length]),(7,.row 90 5 (List.map wh r16))] ⟨Z,U⟩ ⟨Z,Z,U⟩ Z Z ⟨r16,H,⟨Z,U⟩,⟨Z,Z,U⟩⟩
   ·rintro l24 H
    replace H:z12 l24=some r:=H
    unfold z12 at H
    refine zc hN Z (ze (zl Zu Z Z) Z (za (qy (.row _ _) Z) (zn ?_)))
    cases H
    exact ⟨U,xn Z Z,U⟩
theorem w4c (u1:(List (zz×Int))) (k2:zu) (month3:Int) (r:(Int)) (H:z40 u1 k2 month3=some r):Fn Tryz.prog 67 [vmpG uw u1,vagg (we k2),vint month3] (yc [vint r]):=by
 refine ⟨by kernel_rfl,yl (us:=[vint r]) Tryz.func67 Z Z Z Z fun X hN => ?_⟩
 unfold z40 at H
 refine zc hN Z (zd (qr 1 Z) Z (qe Z (zc hN Z (qd Z (za (zj z6u Z) (ze (zl tyS9 Z Z) Z (za (zj y0r Z) (ze (zl tyS9 Z Z) Z (qd Z (za (yf (u':=vagg (wn (zz.mk k2.app_ k2.product_ month3 0))) (vj [(0,[vstr k2.app_]),(1,[vstr k2.product_]),(2,[vint month3])] z1i y4u Z ⟨Z,.inl ⟨_,Z,Z,Z⟩,Z,Z,.inl ⟨_,Z,Z,Z⟩,Z,Z,.inl ⟨_,Z,Z,Z⟩,Z,U⟩) Z) (gE H fun h4 H=>za (yf (u':=vint ((lkG u1 (zz.mk k2.app_ k2.product_ month3 0)).getD 0)) (x75 (zz.mk k2.app_ k2.product_ month3 0) y4x Z Z h4) Z) (qe Z (zn ?_)))))))))))))
 cases H
 exact ⟨U,.inl Z,U⟩
theorem w2g (l1:(List zz)) (r:((List (zz×Int)))) (H:Yg l1=some r):Fn Tryz.prog 30 [vlst (List.map wn l1)] (yc [vmpG uw r]):=by
 refine ⟨by kernel_rfl,yl (us:=[vmpG uw r]) Tryz.func30 Z Z Z Z fun X hN => ?_⟩
 unfold Yg at H
 refine zc hN Z (qe Z (zc hN Z (zd (y0y 1 y4x) Z (za (qy (.mp _) Z) (zf (zc hN Z (qd Z (za (yu Wy Z) (qd Z (yd (gE H fun h5 H=>ve (fun (k3:Nat) (s:(List (zz×Int)))=>[(3,.mp 1),(7,.dat (vlst (List.map wn l1))),(8,.dat (vint (l1.length:Int))),(9,.dat (vint (k3:Int)))]) (fun (k3:Nat) (s:(List (zz×Int)))=>[(1,.opq none (qx uw s))]) [] H ⟨Z,Z,Z,Z,U⟩ ⟨Z,U⟩ (fun _ _=>Z) ?_ ?_)))))))))))
 ·rintro m2 H
  replace H:y1u m2=some r:=H
  unfold y1u at H
  refine zc hN Z (za (ye Z Z) (zf (zi _ Z (fun h=>(lt_t h).elim) (fun h => ?_))))
  refine qk (zc hN Z (za (zg (.mp _) Z) (za (qy (.mp _) Z) (y4i 2 1 y19 Z Z (zn ?_)))))
  cases H
  exact ⟨U,.inl Z,U⟩
 ·rintro k3 x6 m2 q4 h7 h8 H hq4
  replace H:z30 k3 x6 m2=some q4:=H
  unfold z30 at H
  refine zc hN Z (za (ye Z Z) (zf (zi _ Z (fun h => ?_) (fun h=>(lt_f h7 h).elim))))
  refine zp (zf (yd (zc hN Z (za (wq z1p (fun _=>Z) Z Z h8) (za (wo Zd Z (qg h8) Z) (zd (qf 2 z1i Z) Z (zd (yz Zd Z Z Z Z) Z (zq hN Z (za (zg (.mp _) Z) (za (zj Yr Z) (ze (zl tyS9 Z Z) Z (za (zj z0d Z) (ze (zl tyS9 Z Z) Z (za (zj Zw Z) (ze (zl tyS3 Z Z) Z (za (yf (u':=vagg (wn (zz.mk x6.App x6.Product x6.Month 0))) (vj [(0,[vstr x6.App]),(1,[vstr x6.Product]),(2,[vint x6.Month])] z1i y4u Z ⟨Z,.inl ⟨_,Z,Z,Z⟩,Z,Z,.inl ⟨_,Z,Z,Z⟩,Z,Z,.inl ⟨_,Z,Z,Z⟩,Z,U⟩) Z) (za (zj z6r Z) (ze (zl tyS3 Z Z) Z (gE H fun h9 H=>zd (z6x (zz.mk x6.App x6.Product x6.Month 0) x6.Calls y4x Z Z Z h9) Z (zq hN Z (za (wa Z Z (by omega)) (qd Z ?_))))))))))))))))))))))
  exact ⟨_,qj H,⟨Z,Z,Z,Z,U⟩,⟨Z,U⟩⟩
theorem w2e (x1:(List zy)) (target2:Bs) (p2:zy→Bs→Option (Int)) (fv2:Nat) (us2:List V) (hp2:∀ a0 a1 r,p2 a0 a1=some r→Fn Tryz.prog fv2 ([vagg (yk a0),vstr a1]++us2) (yc [vint r])) (r:(Int×Bool)) (H:y2r x1 target2 p2=some r):Fn Tryz.prog 108 [vlst (List.map yk x1),vstr target2,vfn fv2 us2] (yc [vint r.1,zr r.2]):=by
 refine ⟨by kernel_rfl,yl (us:=[vint r.1,zr r.2]) Tryz.func108 Z Z Z Z fun X hN => ?_⟩
 unfold y2r at H
 refine zc hN Z (qe Z (qe Z (zc hN Z (qd Z (za (yu Yq Z) (qe Z (zc hN Z (qd Z (qe Z (qe Z (yw (ι:=Int) (fun i=>[(0,.dat (vlst (List.map yk x1))),(1,.dat (vstr target2)),(2,.dat (vfn fv2 us2)),(8,.dat (vint (x1.length:Int))),(9,.dat (vint i))]) (fun i=>[]) (fun i=>y1j x1 target2 p2 i=some r) (fun i=>Z) ?_ ?_)))))))))))
 ·skip
  refine yd (ui (fun (s:Int×Int)=>[(0,.dat (vlst (List.map yk x1))),(1,.dat (vstr target2)),(2,.dat (vfn fv2 us2)),(8,.dat (vint (x1.length:Int))),(9,.dat (vint s.1)),(10,.dat (vint s.2))]) (fun (s:Int×Int)=>[]) (0,(x1.length:Int)) H ⟨Z,Z,Z,Z,Z,Z,U⟩ U (fun _=>Z) ?_)
  rintro ⟨i3,j4⟩ q5 H hq5
  replace H:y58 x1 target2 p2 i3 j4=some q5:=H
  unfold y58 at H
  refine zf (zc hN Z (qd Z (qd Z (za (ye Z Z) (zi _ Z (fun h6 => ?_) (fun h6 => ?_))))))
  ·refine tE h6 H fun H=>zp (yd (zc hN Z (qd Z (qd Z (za (yj _ Z Z (.inl ⟨Z,Z⟩)) (za (xp tyU3 Ql Z) (za (yf (z0i Z Z (by decide)) Z) (za (xp Ql tyU3 Z) (qe Z (zc hN Z (qd Z (qd Z (qd Z (bE H fun x7 h8 H=>za (ja Zy (fun _=>Z) Z Z h8) (za (wo Zt Z (qg (qi h8).2) Z) (qd Z (bE H fun r9 h10 H=>za (ua (hp2 x7 target2 r9 h10) Z ⟨.inl Z,.inl Z,U⟩) (za (ye Z Z) (zi _ Z (fun h11 => ?_) (fun h11 => ?_))))))))))))))))))))
   ·exact tE h11 H fun H=>zq hN Z (qd Z (za (yj _ Z Z (.inl ⟨Z,Z⟩)) (qe Z ⟨_,qj H,⟨Z,Z,Z,Z,Z,Z,U⟩,U⟩)))
   ·exact fE h11 H fun H=>zq hN Z (qd Z (qe Z ⟨_,qj H,⟨Z,Z,Z,Z,Z,Z,U⟩,U⟩))
  ·refine fE h6 H fun H=>qk ?_
   replace H:=outl H hq5
   exact ⟨i3,H,⟨Z,Z,Z,Z,Z,U⟩,U⟩
 ·rintro i12 H
  replace H:y1j x1 target2 p2 i12=some r:=H
  unfold y1j at H
  refine yw (ι:=Bool) (fun i=>[(6,.dat (vint i12)),(7,.dat (zr i))]) (fun i=>[]) (fun i=>z7b i12 i=some r) (fun i=>Z) ?_ ?_
  ·skip
   refine zq hN Z (qd Z (qd Z (qd Z (za (ye Z Z) (qd Z (qv (j:=4) Z Z (fun h13 => ?_) (fun h13 => ?_) Z))))))
   ·exact u1 h13 H fun h14 H=>zo Z Z h13 (zg (.dat _) Z) (zo Z Z h13 (zg (.dat _) Z) (zo Z Z h13 (zg (.dat _) Z) (bE H fun x15 h16 H=>zo Z Z h13 (ja Zy (fun _=>Z) Z Z h16) (zo Z Z h13 (wo Zt Z (qg (qi h16).2) Z) (zo Z Z h13 (zg (.dat _) Z) (bE H fun r17 h18 H=>zo Z Z h13 (ua (hp2 x15 target2 r17 h18) Z ⟨.inl Z,.inl Z,U⟩) (zo Z Z h13 (qc Z Z) (za (qt Z (bTT h14) Z) (qe Z (qe Z ⟨decide (r17=0),H,⟨Z,Z,U⟩,U⟩))))))))))
   ·exact u2 h13 H fun h19 H=>zh Z Z h13 (zh Z Z h13 (zh Z Z h13 (zh Z Z h13 (zh Z Z h13 (zh Z Z h13 (zh Z Z h13 (zh Z Z h13 (za (yq Z (bFF h19) Z) (qe Z (qe Z ⟨false,H,⟨Z,Z,U⟩,U⟩))))))))))
  ·rintro v20 H
   replace H:z7b i12 v20=some r:=H
   unfold z7b at H
   refine zn ?_
   cases H
   exact ⟨U,.inl Z,.inl Z,U⟩
theorem w2v (a1:zy) (k2:Bs) (r:(Int)) (H:z4l a1 k2=some r):Fn Tryz.prog 109 [vagg (yk a1),vstr k2] (yc [vint r]):=by
 refine ⟨by kernel_rfl,yl (us:=[vint r]) Tryz.func109 Z Z Z Z fun X hN => ?_⟩
 unfold z4l at H
 refine zc hN Z (zd (qr 1 Z) Z (qe Z (zc hN Z (za (zj Zv Z) (ze (zl tyS9 Z Z) Z (qd Z (bE H fun r3 h4 H=>za (yb (Yz a1.Key k2 r3 h4) ⟨.inl Z,.inl Z,U⟩) (qe Z (zn ?_)))))))))
 cases H
 exact ⟨U,.inl Z,U⟩
theorem y7p (l1:(List zy)) (key2:Bs) (r:(Int×Bool)) (H:z0t l1 key2=some r):Fn Tryz.prog 68 [vlst (List.map yk l1),vstr key2] (yc [vint r.1,zr r.2]):=by
 refine ⟨by kernel_rfl,yl (us:=[vint r.1,zr r.2]) Tryz.func68 Z Z Z Z fun X hN => ?_⟩
 unfold z0t at H
 refine zc hN Z (qe Z (qe Z (zc hN Z (qd Z (qd Z (bE H fun r3 h4 H=>za (z3x (w2e l1 key2 (fun (a0:zy) (a1:Bs)=>z4l a0 a1) 109 [] (fun a0 a1 r h=>w2v a0 a1 r h) r3 h4) ⟨.inl (.inl Z),.inl (.inl Z),.inr ⟨_,Z,Z⟩,U⟩) (za (qm Z Z) (za (qm Z Z) (qe Z (qe Z (zn ?_)))))))))))
 cases H
 exact ⟨U,.inl Z,.inl Z,U⟩
theorem z9b (s1:Bs) (r:(Bool)) (H:Qy s1=some r):Fn Tryz.prog 138 [vstr s1] (yc [zr r]):=by
 refine ⟨by kernel_rfl,yl (us:=[zr r]) Tryz.func138 Z Z Z Z fun X hN => ?_⟩
 unfold Qy at H
 refine zc hN Z (qe Z (zf (zc hN Z (qe Z (yd (gE H fun h4 H=>ve (fun (i2:Nat) (s:Unit)=>[(0,.dat (vstr s1)),(3,.dat (vint (i2:Int)))]) (fun (i2:Nat) (s:Unit)=>[]) () H ⟨Z,Z,U⟩ U (fun _ _=>Z) ?_ ?_))))))
 ·rintro ⟨⟩ H
  replace H:y7m s1=some r:=H
  unfold y7m at H
  refine zf (zc hN Z (qd Z (qd Z (za (z6y tyU9 Z) (za (ye Z Z) (zi _ Z (fun h=>(lt_t h).elim) (fun h => ?_)))))))
  refine qk (zc hN Z (qd Z (za (Yd Z Z) (qd Z (wb Z Z (fun hc=>zg (.dat _) Z) (wb Z Z (fun hc=>z6y tyU9 (cnd (c:=(decide (s1≠[]))) hc)) (wb Z Z (fun hc=>xb (cnd (c:=(decide (s1≠[]))) hc) Z) (za (jf Z (fun hb=>(cnd (c:=(decide (s1≠[]))) hb)) Z) (qe Z (zn ?_))))))))))
  cases H
  exact ⟨U,.inl Z,U⟩
 ·rintro i2 x5 ⟨⟩ q3 h6 h7 H hq3
  replace H:y24 i2 x5=some q3:=H
  unfold y24 at H
  refine zf (zc hN Z (qd Z (qd Z (za (z6y tyU9 Z) (za (ye Z Z) (zi _ Z (fun h => ?_) (fun h=>(lt_f h6 h).elim)))))))
  refine zp (zf (yd (zc hN Z (qd Z (qd Z (za (x0u tyU9 Z Z h7) (qe Z (zc hN Z (qd Z (za (jn Z Z) (qd Z (wb Z Z (fun hc=>zg (.dat _) Z) (wb Z Z (fun hc=>xb (cnd (c:=(decide (97≤(x5.toNat:Int)))) hc) Z) (za (jf Z (fun hb=>(cnd (c:=(decide (97≤(x5.toNat:Int)))) hb)) Z) (qd Z (ji Z Z (fun hc=>zg (.dat _) Z) (ji Z Z (fun hc=>wz (cnd (c:=(!((decide (97≤(x5.toNat:Int))) && (decide ((x5.toNat:Int)≤122))))) hc) Z) (ji Z Z (fun hc=>zg (.dat _) (cnd (c:=(!((decide (97≤(x5.toNat:Int))) && (decide ((x5.toNat:Int)≤122))))) hc)) (um Z Z (fun hc=>zg (.dat _) Z) (um Z Z (fun hc=>jn (cnd (c:=((!((decide (97≤(x5.toNat:Int))) && (decide ((x5.toNat:Int)≤122)))) && (decide (0 < (i2:Int))))) hc) Z) (um Z Z (fun hc=>zg (.dat _) (cnd (c:=((!((decide (97≤(x5.toNat:Int))) && (decide ((x5.toNat:Int)≤122)))) && (decide (0 < (i2:Int))))) hc)) (um Z Z (fun hc=>zg (.dat _) Z) (um Z Z (fun hc=>xb (cnd (c:=(((!((decide (97≤(x5.toNat:Int))) && (decide ((x5.toNat:Int)≤122)))) && (decide (0 < (i2:Int)))) && (decide (48≤(x5.toNat:Int))))) hc) Z) ?_)))))))))))))))))))))))
  refine um Z Z (fun hc=>jf (cnd (c:=((!((decide (97≤(x5.toNat:Int))) && (decide ((x5.toNat:Int)≤122)))) && (decide (0 < (i2:Int))))) hc) (fun hb=>(cnd (c:=(((!((decide (97≤(x5.toNat:Int))) && (decide ((x5.toNat:Int)≤122)))) && (decide (0 < (i2:Int)))) && (decide (48≤(x5.toNat:Int))))) (andI hc hb))) Z) (um Z Z (fun hc=>zg (.dat _) (cnd (c:=((!((decide (97≤(x5.toNat:Int))) && (decide ((x5.toNat:Int)≤122)))) && (decide (0 < (i2:Int))))) hc)) (xr Z Z (fun hc=>zg (.dat _) Z) (xr Z Z (fun hc=>qc (cnd (c:=(((!((decide (97≤(x5.toNat:Int))) && (decide ((x5.toNat:Int)≤122)))) && (decide (0 < (i2:Int)))) && !((decide (48≤(x5.toNat:Int))) && (decide ((x5.toNat:Int)≤57))))) hc) Z) (um Z Z (fun hc=>ul (cnd (c:=((!((decide (97≤(x5.toNat:Int))) && (decide ((x5.toNat:Int)≤122)))) && (decide (0 < (i2:Int))))) hc) Z (fun hb=>(cnd (c:=(((!((decide (97≤(x5.toNat:Int))) && (decide ((x5.toNat:Int)≤122)))) && (decide (0 < (i2:Int)))) && !((decide (48≤(x5.toNat:Int))) && (decide ((x5.toNat:Int)≤57))))) (andI hc (notI hb))))) (um Z Z (fun hc=>zg (.dat _) (cnd (c:=((!((decide (97≤(x5.toNat:Int))) && (decide ((x5.toNat:Int)≤122)))) && (decide (0 < (i2:Int))))) hc)) (xr Z Z (fun hc=>zg (.dat _) Z) (xr Z Z (fun hc=>qc (cnd (c:=(((!((decide (97≤(x5.toNat:Int))) && (decide ((x5.toNat:Int)≤122)))) && (decide (0 < (i2:Int)))) && !(((decide (48≤(x5.toNat:Int))) && (decide ((x5.toNat:Int)≤57))) || (decide ((x5.toNat:Int)=45))))) hc) Z) (um Z Z (fun hc=>ul (cnd (c:=((!((decide (97≤(x5.toNat:Int))) && (decide ((x5.toNat:Int)≤122)))) && (decide (0 < (i2:Int))))) hc) Z (fun hb=>(cnd (c:=(((!((decide (97≤(x5.toNat:Int))) && (decide ((x5.toNat:Int)≤122)))) && (decide (0 < (i2:Int)))) && !(((decide (48≤(x5.toNat:Int))) && (decide ((x5.toNat:Int)≤57))) || (decide ((x5.toNat:Int)=45))))) (andI hc (notI hb))))) (ji Z Z (fun hc=>jf (cnd (c:=(!((decide (97≤(x5.toNat:Int))) && (decide ((x5.toNat:Int)≤122))))) hc) (fun hb=>(cnd (c:=((!((decide (97≤(x5.toNat:Int))) && (decide ((x5.toNat:Int)≤122)))) && (decide (0 < (i2:Int))))) (andI hc hb))) Z) (za (ul Z Z (fun hb=>(cnd (c:=(!((decide (97≤(x5.toNat:Int))) && (decide ((x5.toNat:Int)≤122))))) (notI hb)))) (za (ww Z) (zi _ Z (fun h8 => ?_) (fun h8 => ?_)))))))))))))
  ·refine tE h8 H fun H=>zc hN Z (qe Z (zn ?_))
   replace H:=retl H hq3
   cases H
   exact ⟨U,.inl Z,U⟩
  ·exact fE h8 H fun H=>zp (zq hN Z (qd Z (za (wa Z Z (by omega)) (qe Z ⟨_,qj H,⟨Z,Z,U⟩,U⟩))))
theorem w1s (s sep:Bs) (r:List Bs) (H:z0r s sep=some r):FnG Tryz.prog 167 [.dat (vstr s),.dat (vstr sep)] [] (.row 900 r.length) [(900,.row 9 1 (List.map yr r))]:=by
 obtain ⟨h1,h2,rfl⟩:=x8v H
 have hlen:=Lib.splitB_all ⟨sep.toArray⟩ (by simpa [ByteArray.size] using h2) 0 _ ⟨s.toArray⟩ Z
 have hle:=Lib.countB_le ⟨sep.toArray⟩ (by simpa [ByteArray.size] using h2) _ ⟨s.toArray⟩ (Nat.le_refl _)
 refine w5m (args:=[vstr s,vstr sep]) (Yv s sep) (by kernel_rfl) (fun M w vs hM hvs => ?_) ?_
 ·have hv:=y4l (us:=[.string ⟨s.toArray⟩,.string ⟨sep.toArray⟩]) hvs
  subst hv
  obtain ⟨m,hm⟩:=w02 hM
  refine (Tryz.strings_Split ⟨s.toArray⟩ ⟨sep.toArray⟩ m w (by simp [ByteArray.size]; omega) hm (by simpa [ByteArray.size] using h2)).mono ?_
  rintro e w' ⟨rfl,rfl⟩
  have e1:(Yv s sep).length=Lib.countB ⟨s.toArray⟩ ⟨sep.toArray⟩+1:=by unfold Yv; rw [List.length_map,hlen]
  have e2:((Yv s sep).map fun s=>Value.string ⟨s.toArray⟩)=(Lib.splitB ⟨sep.toArray⟩ 0 (Lib.countB ⟨s.toArray⟩ ⟨sep.toArray⟩) ⟨s.toArray⟩).map Value.string:=by
   unfold Yv
   rw [List.map_map]
   exact List.map_congr_left fun b _=>by simp
  rw [e1,e2]
  exact ⟨Z,Z⟩
 ·unfold Yv maxLen
  rw [List.length_map,hlen]
  have hsz:(ByteArray.mk s.toArray).size=s.length:=by simp [ByteArray.size]
  rw [hsz] at hle
  omega
theorem x3h (s sep:Bs) (r:List Bs) (H:z0r s sep=some r):Fn Tryz.prog 167 [vstr s,vstr sep] (yc [vlst (List.map yr r)]):=by
 have h:=w1s s sep r H
 rw [← List.length_map (f:=yr)] at h
 exact w5k h
theorem w11 (s1:Bs) (r:(Bool)) (H:z7u s1=some r):Fn Tryz.prog 187 [vstr s1] (yc [zr r]):=by
 refine ⟨by kernel_rfl,yl (us:=[zr r]) Tryz.func187 Z Z Z Z fun X hN => ?_⟩
 unfold z7u at H
 refine zc hN Z (qe Z (zc hN Z (qd Z (bE H fun r2 h3 H=>za (yb (x3h s1 [58] r2 h3) ⟨.inl Z,.inl Z,U⟩) (qe Z (zf (zc hN Z (qd Z (za (yu js Z) (qd Z (yd (gE H fun h6 H=>ve (fun (k4:Nat) (s:Unit)=>[(3,.dat (vlst (List.map yr r2))),(8,.dat (vlst (List.map yr r2))),(9,.dat (vint (r2.length:Int))),(10,.dat (vint (k4:Int)))]) (fun (k4:Nat) (s:Unit)=>[]) () H ⟨Z,Z,Z,Z,U⟩ U (fun _ _=>Z) ?_ ?_))))))))))))
 ·rintro ⟨⟩ H
  replace H:y41 r2=some r:=H
  unfold y41 at H
  refine zc hN Z (za (ye Z Z) (zf (zi _ Z (fun h=>(lt_t h).elim) (fun h => ?_))))
  refine qk (zc hN Z (qd Z (za (yu js Z) (za (xb Z Z) (qe Z (zn ?_))))))
  cases H
  exact ⟨U,.inl Z,U⟩
 ·rintro k4 x7 ⟨⟩ q5 h8 h9 H hq5
  replace H:y0t r2 k4 x7=some q5:=H
  unfold y0t at H
  refine zc hN Z (za (ye Z Z) (zf (zi _ Z (fun h => ?_) (fun h=>(lt_f h8 h).elim))))
  refine zp (zf (yd (zc hN Z (qd Z (za (wq Zg (fun _=>Z) Z Z h9) (za (wy tyS9 Z (qg h9) Z) (qe Z (qe Z (zc hN Z (qd Z (bE H fun r10 h11 H=>za (yb (z9b x7 r10 h11) ⟨.inl Z,U⟩) (za (ww Z) (qd Z (wb Z Z (fun hc=>zg (.dat _) Z) (wb Z Z (fun hc=>Yt (cnd (c:=(!r10)) hc) Z) (wb Z Z (fun hc=>zg (.dat _) (cnd (c:=(!r10)) hc)) (um Z Z (fun hc=>zg (.dat _) Z) (um Z Z (fun hc=>zg (.dat _) Z) (um Z Z (fun hc=>yu js (cnd (c:=((!r10) && (decide (x7=[42])))) hc)) (um Z Z (fun hc=>yj _ (cnd (c:=((!r10) && (decide (x7=[42])))) hc) Z (.inr (.inl ⟨Z,Z⟩))) (um Z Z (fun hc=>qc (cnd (c:=((!r10) && (decide (x7=[42])))) hc) (cnd (c:=((!r10) && (decide (x7=[42])))) hc)) (wb Z Z (fun hc=>jf (cnd (c:=(!r10)) hc) (fun hb=>(cnd (c:=((!r10) && (decide (x7=[42])))) (andI hc hb))) Z) ?_))))))))))))))))))))))
  refine wb Z Z (fun hc=>ww (cnd (c:=(!r10)) hc)) (za (jf Z (fun hb=>(cnd (c:=(!r10)) hb)) Z) (zi _ Z (fun h12 => ?_) (fun h12 => ?_)))
  ·refine tE h12 H fun H=>zc hN Z (qe Z (zn ?_))
   replace H:=retl H hq5
   cases H
   exact ⟨U,.inl Z,U⟩
  ·exact fE h12 H fun H=>zp (zq hN Z (za (wa Z Z (by omega)) (qd Z ⟨_,qj H,⟨Z,Z,Z,Z,U⟩,U⟩)))
theorem w12 (l1:(List Bs)) (r:(Int)) (H:z7v l1=some r):Fn Tryz.prog 151 [vlst (List.map yr l1)] (yc [vint r]):=by
 refine ⟨by kernel_rfl,yl (us:=[vint r]) Tryz.func151 Z Z Z Z fun X hN => ?_⟩
 unfold z7v at H
 refine zc hN Z (qe Z (zf (zc hN Z (qd Z (za (yu js Z) (za (wz Z Z) (zi _ Z (fun h2 => ?_) (fun h2 => ?_))))))))
 ·refine tE h2 H fun H=>zc hN Z (qe Z (zn ?_))
  cases H
  exact ⟨U,.inl Z,U⟩
 ·refine fE h2 H fun H=>zp (zf (zc hN Z (qd Z (za (yu js Z) (qd Z (yd (gE H fun h5 H=>ve (fun (k3:Nat) (s:Unit)=>[(8,.dat (vlst (List.map yr l1))),(9,.dat (vint (l1.length:Int))),(10,.dat (vint (k3:Int)))]) (fun (k3:Nat) (s:Unit)=>[]) () H ⟨Z,Z,Z,U⟩ U (fun _ _=>Z) ?_ ?_)))))))
  ·rintro ⟨⟩ H
   replace H:y42=some r:=H
   unfold y42 at H
   refine zc hN Z (za (ye Z Z) (zf (zi _ Z (fun h=>(lt_t h).elim) (fun h => ?_))))
   refine qk (zc hN Z (qe Z (zn ?_)))
   cases H
   exact ⟨U,.inl Z,U⟩
  ·rintro k3 x6 ⟨⟩ q4 h7 h8 H hq4
   replace H:y0u k3 x6=some q4:=H
   unfold y0u at H
   refine zc hN Z (za (ye Z Z) (zf (zi _ Z (fun h => ?_) (fun h=>(lt_f h7 h).elim))))
   refine zp (zf (yd (zc hN Z (za (wq Zg (fun _=>Z) Z Z h8) (za (wy tyS9 Z (qg h8) Z) (qe Z (zc hN Z (qd Z (bE H fun r9 h10 H=>za (yb (w11 x6 r9 h10) ⟨.inl Z,U⟩) (za (ww Z) (zi _ Z (fun h11 => ?_) (fun h11 => ?_))))))))))))
   ·refine tE h11 H fun H=>zc hN Z (qe Z (zn ?_))
    replace H:=retl H hq4
    cases H
    exact ⟨U,.inl Z,U⟩
   ·exact fE h11 H fun H=>zp (zq hN Z (za (wa Z Z (by omega)) (qd Z ⟨_,qj H,⟨Z,Z,Z,U⟩,U⟩)))
theorem w2j (l1:(List yh)) (r:(Int)) (H:z71 l1=some r):Fn Tryz.prog 114 [vlst (List.map yt l1)] (yc [vint r]):=by
 refine ⟨by kernel_rfl,yl (us:=[vint r]) Tryz.func114 Z Z Z Z fun X hN => ?_⟩
 unfold z71 at H
 refine zc hN Z (qe Z (zf (zc hN Z (qd Z (za (yu z1k Z) (za (wz Z Z) (zi _ Z (fun h2 => ?_) (fun h2 => ?_))))))))
 ·refine tE h2 H fun H=>zc hN Z (qe Z (zn ?_))
  cases H
  exact ⟨U,.inl Z,U⟩
 ·refine fE h2 H fun H=>zp (zf (zc hN Z (qd Z (za (yu z1k Z) (qd Z (yd (gE H fun h5 H=>ve (fun (k3:Nat) (s:Unit)=>[(0,.dat (vlst (List.map yt l1))),(9,.dat (vlst (List.map yt l1))),(10,.dat (vint (l1.length:Int))),(11,.dat (vint (k3:Int)))]) (fun (k3:Nat) (s:Unit)=>[]) () H ⟨Z,Z,Z,Z,U⟩ U (fun _ _=>Z) ?_ ?_)))))))
  ·rintro ⟨⟩ H
   replace H:y6n=some r:=H
   unfold y6n at H
   refine zc hN Z (za (ye Z Z) (zf (zi _ Z (fun h=>(lt_t h).elim) (fun h => ?_))))
   refine qk (zc hN Z (qe Z (zn ?_)))
   cases H
   exact ⟨U,.inl Z,U⟩
  ·rintro k3 x6 ⟨⟩ q4 h7 h8 H hq4
   replace H:y1w l1 k3 x6=some q4:=H
   unfold y1w at H
   refine zc hN Z (za (ye Z Z) (zf (zi _ Z (fun h => ?_) (fun h=>(lt_f h7 h).elim))))
   refine zp (zf (yd (zc hN Z (qd Z (za (wq z1q (fun _=>Z) Z Z h8) (za (wo Qm Z (qg h8) Z) (zd (qf 1 Qi Z) Z (qe Z (zd (yz Qm Z Z Z Z) Z (zf (zc hN Z (za (zj Qo Z) (ze (zl tyS9 Z Z) Z (bE H fun r9 h10 H=>za (yb (z9b x6.Key r9 h10) ⟨.inl Z,U⟩) (za (ww Z) (zi _ Z (fun h11 => ?_) (fun h11 => ?_)))))))))))))))))
   ·refine tE h11 H fun H=>zc hN Z (qe Z (zn ?_))
    replace H:=retl H hq4
    cases H
    exact ⟨U,.inl Z,U⟩
   ·refine fE h11 H fun H=>zp (zf (yw (ι:=Bool) (fun i=>[(0,.dat (vlst (List.map yt l1))),(4,.ptr 1 0),(9,.dat (vlst (List.map yt l1))),(10,.dat (vint (l1.length:Int))),(11,.dat (vint (k3:Int))),(32,.dat (zr i))]) (fun i=>[(1,.box none 79 [.dat (vstr x6.Key),.dat (vlst (List.map yr x6.Scopes))])]) (fun i=>z1x x6 i=some q4) (fun i=>Z) ?_ ?_))
    ·skip
     refine wl mixed hN Z Z (qd Z (za (wz Z Z) (qd Z (qv (j:=2) Z Z (fun h12 => ?_) (fun h12 => ?_) Z))))
     ·refine u1 h12 H fun h13 H=>zo Z Z h12 (zj Qo Z) (wc Z Z h12 (zl tyS9 Z Z) Z (zo Z Z h12 (zg (.dat _) Z) (zo Z Z h12 (zg (.dat _) Z) (zo Z Z h12 (Yb Z Z (by omega)) (bE H fun x14 h15 H=>zo Z Z h12 (ja z1q (fun _=>Z) Z Z h15) (zo Z Z h12 (jd Qo Z) (zo Z Z h12 (wy tyS9 Z (qg (qi h15).2) Z) (zo Z Z h12 (z3v Z Z) (za (qt Z (bTT h13) Z) ⟨Z,?_⟩)))))))))
      exact ⟨(Op.bytesLess x6.Key x14.Key || x6.Key == x14.Key),H,⟨Z,Z,Z,Z,Z,Z,U⟩,⟨Z,U⟩⟩
     ·refine u2 h12 H fun h16 H=>zh Z Z h12 (zh Z Z h12 (zh Z Z h12 (zh Z Z h12 (zh Z Z h12 (zh Z Z h12 (zh Z Z h12 (zh Z Z h12 (zh Z Z h12 (za (yq Z (bFF h16) Z) ⟨Z,?_⟩)))))))))
      exact ⟨false,H,⟨Z,Z,Z,Z,Z,Z,U⟩,⟨Z,U⟩⟩
    ·rintro v17 H
     replace H:z1x x6 v17=some q4:=H
     unfold z1x at H
     refine zi _ Z (fun h18 => ?_) (fun h18 => ?_)
     ·refine tE h18 H fun H=>zc hN Z (qe Z (zn ?_))
      replace H:=retl H hq4
      cases H
      exact ⟨U,.inl Z,U⟩
     ·refine fE h18 H fun H=>zp (zc hN Z (za (zj x0g Z) (ze (zl z6l Z Z) Z (bE H fun r19 h20 H=>za (yb (w12 x6.Scopes r19 h20) ⟨.inl Z,U⟩) (qe Z (zc hN Z (qd Z (za (vn Z Z) (zi _ Z (fun h21 => ?_) (fun h21 => ?_))))))))))
      ·refine tE h21 H fun H=>zc hN Z (qd Z (qe Z (zn ?_)))
       replace H:=retl H hq4
       cases H
       exact ⟨U,.inl Z,U⟩
      ·exact fE h21 H fun H=>zp (zq hN Z (za (wa Z Z (by omega)) (qd Z ⟨_,qj H,⟨Z,Z,Z,Z,U⟩,U⟩)))
theorem w2c (x1:(List yh)) (target2:Bs) (p2:yh→Bs→Option (Int)) (fv2:Nat) (us2:List V) (hp2:∀ a0 a1 r,p2 a0 a1=some r→Fn Tryz.prog fv2 ([vagg (yt a0),vstr a1]++us2) (yc [vint r])) (r:(Int×Bool)) (H:y2p x1 target2 p2=some r):Fn Tryz.prog 141 [vlst (List.map yt x1),vstr target2,vfn fv2 us2] (yc [vint r.1,zr r.2]):=by
 refine ⟨by kernel_rfl,yl (us:=[vint r.1,zr r.2]) Tryz.func141 Z Z Z Z fun X hN => ?_⟩
 unfold y2p at H
 refine zc hN Z (qe Z (qe Z (zc hN Z (qd Z (za (yu z1k Z) (qe Z (zc hN Z (qd Z (qe Z (qe Z (yw (ι:=Int) (fun i=>[(0,.dat (vlst (List.map yt x1))),(1,.dat (vstr target2)),(2,.dat (vfn fv2 us2)),(8,.dat (vint (x1.length:Int))),(9,.dat (vint i))]) (fun i=>[]) (fun i=>y1h x1 target2 p2 i=some r) (fun i=>Z) ?_ ?_)))))))))))
 ·skip
  refine yd (ui (fun (s:Int×Int)=>[(0,.dat (vlst (List.map yt x1))),(1,.dat (vstr target2)),(2,.dat (vfn fv2 us2)),(8,.dat (vint (x1.length:Int))),(9,.dat (vint s.1)),(10,.dat (vint s.2))]) (fun (s:Int×Int)=>[]) (0,(x1.length:Int)) H ⟨Z,Z,Z,Z,Z,Z,U⟩ U (fun _=>Z) ?_)
  rintro ⟨i3,j4⟩ q5 H hq5
  replace H:y56 x1 target2 p2 i3 j4=some q5:=H
  unfold y56 at H
  refine zf (zc hN Z (qd Z (qd Z (za (ye Z Z) (zi _ Z (fun h6 => ?_) (fun h6 => ?_))))))
  ·refine tE h6 H fun H=>zp (yd (zc hN Z (qd Z (qd Z (za (yj _ Z Z (.inl ⟨Z,Z⟩)) (za (xp tyU3 Ql Z) (za (yf (z0i Z Z (by decide)) Z) (za (xp Ql tyU3 Z) (qe Z (zc hN Z (qd Z (qd Z (qd Z (bE H fun x7 h8 H=>za (ja z1q (fun _=>Z) Z Z h8) (za (wo Qm Z (qg (qi h8).2) Z) (qd Z (bE H fun r9 h10 H=>za (ua (hp2 x7 target2 r9 h10) Z ⟨.inl Z,.inl Z,U⟩) (za (ye Z Z) (zi _ Z (fun h11 => ?_) (fun h11 => ?_))))))))))))))))))))
   ·exact tE h11 H fun H=>zq hN Z (qd Z (za (yj _ Z Z (.inl ⟨Z,Z⟩)) (qe Z ⟨_,qj H,⟨Z,Z,Z,Z,Z,Z,U⟩,U⟩)))
   ·exact fE h11 H fun H=>zq hN Z (qd Z (qe Z ⟨_,qj H,⟨Z,Z,Z,Z,Z,Z,U⟩,U⟩))
  ·refine fE h6 H fun H=>qk ?_
   replace H:=outl H hq5
   exact ⟨i3,H,⟨Z,Z,Z,Z,Z,U⟩,U⟩
 ·rintro i12 H
  replace H:y1h x1 target2 p2 i12=some r:=H
  unfold y1h at H
  refine yw (ι:=Bool) (fun i=>[(6,.dat (vint i12)),(7,.dat (zr i))]) (fun i=>[]) (fun i=>z69 i12 i=some r) (fun i=>Z) ?_ ?_
  ·skip
   refine zq hN Z (qd Z (qd Z (qd Z (za (ye Z Z) (qd Z (qv (j:=4) Z Z (fun h13 => ?_) (fun h13 => ?_) Z))))))
   ·exact u1 h13 H fun h14 H=>zo Z Z h13 (zg (.dat _) Z) (zo Z Z h13 (zg (.dat _) Z) (zo Z Z h13 (zg (.dat _) Z) (bE H fun x15 h16 H=>zo Z Z h13 (ja z1q (fun _=>Z) Z Z h16) (zo Z Z h13 (wo Qm Z (qg (qi h16).2) Z) (zo Z Z h13 (zg (.dat _) Z) (bE H fun r17 h18 H=>zo Z Z h13 (ua (hp2 x15 target2 r17 h18) Z ⟨.inl Z,.inl Z,U⟩) (zo Z Z h13 (qc Z Z) (za (qt Z (bTT h14) Z) (qe Z (qe Z ⟨decide (r17=0),H,⟨Z,Z,U⟩,U⟩))))))))))
   ·exact u2 h13 H fun h19 H=>zh Z Z h13 (zh Z Z h13 (zh Z Z h13 (zh Z Z h13 (zh Z Z h13 (zh Z Z h13 (zh Z Z h13 (zh Z Z h13 (za (yq Z (bFF h19) Z) (qe Z (qe Z ⟨false,H,⟨Z,Z,U⟩,U⟩))))))))))
  ·rintro v20 H
   replace H:z69 i12 v20=some r:=H
   unfold z69 at H
   refine zn ?_
   cases H
   exact ⟨U,.inl Z,.inl Z,U⟩
theorem w2k (p1:yh) (k2:Bs) (r:(Int)) (H:z4i p1 k2=some r):Fn Tryz.prog 142 [vagg (yt p1),vstr k2] (yc [vint r]):=by
 refine ⟨by kernel_rfl,yl (us:=[vint r]) Tryz.func142 Z Z Z Z fun X hN => ?_⟩
 unfold z4i at H
 refine zc hN Z (zd (qr 1 Z) Z (qe Z (zc hN Z (za (zj Qo Z) (ze (zl tyS9 Z Z) Z (qd Z (bE H fun r3 h4 H=>za (yb (Yz p1.Key k2 r3 h4) ⟨.inl Z,.inl Z,U⟩) (qe Z (zn ?_)))))))))
 cases H
 exact ⟨U,.inl Z,U⟩
theorem y7n (c1:zx) (key2:Bs) (r:(Int×Bool)) (H:z2c c1 key2=some r):Fn Tryz.prog 99 [vagg (yy c1),vstr key2] (yc [vint r.1,zr r.2]):=by
 refine ⟨by kernel_rfl,yl (us:=[vint r.1,zr r.2]) Tryz.func99 Z Z Z Z fun X hN => ?_⟩
 unfold z2c at H
 refine zc hN Z (zd (qr 1 Z) Z (qe Z (qe Z (zc hN Z (za (zj z0f Z) (ze (zl z0b Z Z) Z (qd Z (bE H fun r3 h4 H=>za (z3x (w2c c1.Products key2 (fun (a0:yh) (a1:Bs)=>z4i a0 a1) 142 [] (fun a0 a1 r h=>w2k a0 a1 r h) r3 h4) ⟨.inl (.inl Z),.inl (.inl Z),.inr ⟨_,Z,Z⟩,U⟩) (za (qm Z Z) (za (qm Z Z) (qe Z (qe Z (zn ?_)))))))))))))
 cases H
 exact ⟨U,.inl Z,.inl Z,U⟩
theorem Zo (n1:Int) (low2:Int) (high3:Int) (r:(Bool)) (H:ur n1 low2 high3=some r):Fn Tryz.prog 28 [vint n1,vint low2,vint high3] (yc [zr r]):=by
 refine ⟨by kernel_rfl,yl (us:=[zr r]) Tryz.func28 Z Z Z Z fun X hN => ?_⟩
 unfold ur at H
 refine zc hN Z (qe Z (zc hN Z (qd Z (qd Z (za (ye Z Z) (qd Z (ji Z Z (fun hc=>zg (.dat _) Z) (ji Z Z (fun hc=>zg (.dat _) Z) (ji Z Z (fun hc=>wz (cnd (c:=(!(decide (n1 < low2)))) hc) (cnd (c:=(!(decide (n1 < low2)))) hc)) (za (ul Z Z (fun hb=>(cnd (c:=(!(decide (n1 < low2)))) (notI hb)))) (qe Z (zn ?_))))))))))))
 cases H
 exact ⟨U,.inl Z,U⟩
theorem w2i (l1:(List yp)) (r:(Int)) (H:z7z l1=some r):Fn Tryz.prog 152 [vlst (List.map wd l1)] (yc [vint r]):=by
 refine ⟨by kernel_rfl,yl (us:=[vint r]) Tryz.func152 Z Z Z Z fun X hN => ?_⟩
 unfold z7z at H
 refine zc hN Z (qe Z (zf (zc hN Z (qd Z (za (yu Qj Z) (za (wz Z Z) (zi _ Z (fun h2 => ?_) (fun h2 => ?_))))))))
 ·refine tE h2 H fun H=>zc hN Z (qe Z (zn ?_))
  cases H
  exact ⟨U,.inl Z,U⟩
 ·refine fE h2 H fun H=>zp (zf (zc hN Z (qd Z (za (yu Qj Z) (qd Z (yd (gE H fun h5 H=>ve (fun (k3:Nat) (s:Unit)=>[(0,.dat (vlst (List.map wd l1))),(8,.dat (vlst (List.map wd l1))),(9,.dat (vint (l1.length:Int))),(10,.dat (vint (k3:Int)))]) (fun (k3:Nat) (s:Unit)=>[]) () H ⟨Z,Z,Z,Z,U⟩ U (fun _ _=>Z) ?_ ?_)))))))
  ·rintro ⟨⟩ H
   replace H:y1v l1=some r:=H
   unfold y1v at H
   refine zc hN Z (za (ye Z Z) (zf (zi _ Z (fun h=>(lt_t h).elim) (fun h => ?_))))
   refine qk (zf (yw (ι:=Bool) (fun i=>[(46,.dat (zr i))]) (fun i=>[]) (fun i=>z33 i=some r) (fun i=>Z) ?_ ?_))
   ·skip
    refine zq hN Z (qd Z (za (yu Qj Z) (za (wz Z Z) (qd Z (qv (j:=3) Z Z (fun h7 => ?_) (fun h7 => ?_) Z)))))
    ·exact u1 h7 H fun h8 H=>zo Z Z h7 (zg (.dat _) Z) (bE H fun x9 h10 H=>zo Z Z h7 (wq Qq (fun _=>Z) Z Z h10) (zo Z Z h7 (jd xj Z) (zo Z Z h7 (wy tyS3 Z (qg h10) Z) (zo Z Z h7 (vn Z Z) (za (qt Z (bTT h8) Z) ⟨decide (x9.From≠1),H,⟨Z,U⟩,U⟩)))))
    ·exact u2 h7 H fun h11 H=>zh Z Z h7 (zh Z Z h7 (zh Z Z h7 (zh Z Z h7 (zh Z Z h7 (za (yq Z (bFF h11) Z) ⟨false,H,⟨Z,U⟩,U⟩)))))
   ·rintro v12 H
    replace H:z33 v12=some r:=H
    unfold z33 at H
    refine zi _ Z (fun h13 => ?_) (fun h13 => ?_)
    ·refine tE h13 H fun H=>zc hN Z (qe Z (zn ?_))
     cases H
     exact ⟨U,.inl Z,U⟩
    ·refine fE h13 H fun H=>zp (zc hN Z (qe Z (zn ?_)))
     cases H
     exact ⟨U,.inl Z,U⟩
  ·rintro k3 x6 ⟨⟩ q4 h14 h15 H hq4
   replace H:z7j l1 k3 x6=some q4:=H
   unfold z7j at H
   refine zc hN Z (za (ye Z Z) (zf (zi _ Z (fun h => ?_) (fun h=>(lt_f h14 h).elim))))
   refine zp (zf (yd (zc hN Z (qd Z (za (wq Qq (fun _=>Z) Z Z h15) (za (wo z0a Z (qg h15) Z) (zd (qf 1 Wv Z) Z (qe Z (zd (yz z0a Z Z Z Z) Z (zf (yw (ι:=Bool) (fun i=>[(0,.dat (vlst (List.map wd l1))),(3,.dat (vint (k3:Int))),(4,.ptr 1 0),(8,.dat (vlst (List.map wd l1))),(9,.dat (vint (l1.length:Int))),(10,.dat (vint (k3:Int))),(22,.dat (zr i))]) (fun i=>[(1,.box none 81 [.dat (vint x6.From),.dat (vint x6.Cents)])]) (fun i=>z0o l1 k3 x6 i=some q4) (fun i=>Z) ?_ ?_)))))))))))
   ·skip
    refine zq hN Z (za (zj xj Z) (ze (zl tyS3 Z Z) Z (bE H fun r16 h17 H=>za (yb (Zo x6.From 1 1000000000000 r16 h17) ⟨.inl Z,.inl Z,.inl Z,U⟩) (qd Z (qv (j:=3) Z Z (fun h18 => ?_) (fun h18 => ?_) Z)))))
    ·exact u3 h18 H fun h19 H=>zo Z Z h18 (zj y0o Z) (wc Z Z h18 (zl tyS3 Z Z) Z (bE H fun r20 h21 H=>zo Z Z h18 (yb (Zo x6.Cents 0 1000000 r20 h21) ⟨.inl Z,.inl Z,.inl Z,U⟩) (za (yq Z (bFF h19) Z) ⟨r20,H,⟨Z,Z,Z,Z,Z,Z,Z,U⟩,⟨Z,U⟩⟩)))
    ·exact u4 h18 H fun h22 H=>zh Z Z h18 (zh Z Z h18 (zh Z Z h18 (za (qt Z (bTT h22) Z) ⟨true,H,⟨Z,Z,Z,Z,Z,Z,Z,U⟩,⟨Z,U⟩⟩)))
   ·rintro v23 H
    replace H:z0o l1 k3 x6 v23=some q4:=H
    unfold z0o at H
    refine zi _ Z (fun h24 => ?_) (fun h24 => ?_)
    ·refine tE h24 H fun H=>zc hN Z (qe Z (zn ?_))
     replace H:=retl H hq4
     cases H
     exact ⟨U,.inl Z,U⟩
    ·refine fE h24 H fun H=>zp (yw (ι:=Bool) (fun i=>[(0,.dat (vlst (List.map wd l1))),(8,.dat (vlst (List.map wd l1))),(9,.dat (vint (l1.length:Int))),(10,.dat (vint (k3:Int))),(35,.dat (zr i))]) (fun i=>[]) (fun i=>z32 i=some q4) (fun i=>Z) ?_ ?_)
     ·skip
      refine wl mixed hN Z Z (qd Z (za (wz Z Z) (qd Z (qv (j:=2) Z Z (fun h25 => ?_) (fun h25 => ?_) Z))))
      ·refine u1 h25 H fun h26 H=>zo Z Z h25 (zj xj Z) (wc Z Z h25 (zl tyS3 Z Z) Z (zo Z Z h25 (zg (.dat _) Z) (zo Z Z h25 (zg (.dat _) Z) (zo Z Z h25 (Yb Z Z (by omega)) (bE H fun x27 h28 H=>zo Z Z h25 (ja Qq (fun _=>Z) Z Z h28) (zo Z Z h25 (jd xj Z) (zo Z Z h25 (wy tyS3 Z (qg (qi h28).2) Z) (zo Z Z h25 (xb Z Z) (za (qt Z (bTT h26) Z) ⟨Z,?_⟩)))))))))
       exact ⟨decide (x6.From≤x27.From),H,⟨Z,Z,Z,Z,Z,U⟩,U⟩
      ·refine u2 h25 H fun h29 H=>zh Z Z h25 (zh Z Z h25 (zh Z Z h25 (zh Z Z h25 (zh Z Z h25 (zh Z Z h25 (zh Z Z h25 (zh Z Z h25 (zh Z Z h25 (za (yq Z (bFF h29) Z) ⟨Z,?_⟩)))))))))
       exact ⟨false,H,⟨Z,Z,Z,Z,Z,U⟩,U⟩
     ·rintro v30 H
      replace H:z32 v30=some q4:=H
      unfold z32 at H
      refine zi _ Z (fun h31 => ?_) (fun h31 => ?_)
      ·refine tE h31 H fun H=>zc hN Z (qe Z (zn ?_))
       replace H:=retl H hq4
       cases H
       exact ⟨U,.inl Z,U⟩
      ·exact fE h31 H fun H=>zp (zq hN Z (za (wa Z Z (by omega)) (qd Z ⟨_,qj H,⟨Z,Z,Z,Z,U⟩,U⟩)))
end Go.Proofs.YtnnfdgngnoamoaaGreatDoor
