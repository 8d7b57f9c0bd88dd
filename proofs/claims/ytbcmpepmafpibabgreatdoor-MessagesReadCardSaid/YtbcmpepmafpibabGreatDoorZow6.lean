/- Walks along the models. Printed by a program. -/
import Derived.Test.YtbcmpepmafpibabGreatDoorZow5
namespace Go.Proofs.YtbcmpepmafpibabGreatDoor
open Go.RowKit
set_option linter.unusedVariables false
set_option maxRecDepth 100000
set_option maxHeartbeats 2000000
theorem y9q (a1:yj) (r:(Int)) (H:z3l a1=some r):Fn Tryz.prog 45 [vagg (qi a1)] (zp [vint r]):=by
 refine ⟨by kernel_rfl,zy (us:=[vint r]) Tryz.func45 Z Z Z Z fun X hN => ?_⟩
 unfold z3l at H
 refine zc hN Z (zo (vp 1 Z) Z (qe Z (zh (zc hN Z (za (zv Wg Z) (zr (zx tyS3 Z Z) Z (bE H fun r2 h3 H=>za (zj (Yz a1.Status 100 599 r2 h3) ⟨.inl Z,.inl Z,.inl Z,U⟩) (za (yk Z) (zi _ Z (fun h4 => ?_) (fun h4 => ?_))))))))))
 ·refine tE h4 H fun H=>zc hN Z (qe Z (zg ?_))
  cases H
  exact ⟨U,.inl Z,U⟩
 ·refine fE h4 H fun H=>zn (zh (zc hN Z (za (zv z1w Z) (zr (zx qw Z Z) Z (bE H fun r5 h6 H=>za (zj (y2x a1.Headers r5 h6) ⟨.inl Z,U⟩) (qe Z (zc hN Z (qd Z (za (qk Z Z) (zi _ Z (fun h7 => ?_) (fun h7 => ?_)))))))))))
  ·refine tE h7 H fun H=>zc hN Z (qd Z (qe Z (zg ?_)))
   cases H
   exact ⟨U,.inl Z,U⟩
  ·refine fE h7 H fun H=>zn (zh (zc hN Z (za (zv z1v Z) (zr (zx tyS9 Z Z) Z (za (yi tyU9 Z) (za (qb Z Z) (zi _ Z (fun h8 => ?_) (fun h8 => ?_))))))))
   ·refine tE h8 H fun H=>zc hN Z (qe Z (zg ?_))
    cases H
    exact ⟨U,.inl Z,U⟩
   ·refine fE h8 H fun H=>zn (zc hN Z (qe Z (zg ?_)))
    cases H
    exact ⟨U,.inl Z,U⟩
theorem y9p (v1:Bs) (r:(yj×Int×Int)) (H:z3k v1=some r):Fn Tryz.prog 9 [vstr v1] (zp [vagg (qi r.1),vint r.2.1,vint r.2.2]):=by
 refine ⟨by kernel_rfl,zy (us:=[vagg (qi r.1),vint r.2.1,vint r.2.2]) Tryz.func9 Z Z Z Z fun X hN => ?_⟩
 unfold z3k at H
 refine zc hN Z (zo (qm 1 vo Z) Z (qe Z (qe Z (zc hN Z (zo (qm 2 vo Z) Z (zh (zc hN Z (qd Z (za (yi tyU9 Z) (za (qb Z Z) (zi _ Z (fun h2 => ?_) (fun h2 => ?_))))))))))))
 ·refine tE h2 H fun H=>zc hN Z (zr (wn (u':=vagg (qi (yj.mk 0 [] []))) (wm (by exact ⟨zw,wd,zw,U⟩)) (qa yx Z Z Z)) Z ?_)
  refine zo (yq yx Z Z Z Z) Z (qe Z (qe Z (zg ?_)))
  cases H
  exact ⟨U,.inl ⟨_,_,_,qi (yj.mk 0 [] []),Z,Z,Z,Z,yx⟩,.inl Z,.inl Z,U⟩
 ·refine fE h2 H fun H=>zn (zc hN Z (qd Z (bE H fun r3 h4 H=>za (zj (y2u v1 r3 h4) ⟨.inl Z,U⟩) (qd Z (za (zt Z Z) (za (zt Z Z) (zo (qm 3 z4q Z) Z (zo (yq vv Z Z Z Z) Z (qe Z (zc hN Z (za (zv z7g Z) (zr (zx tyS9 Z Z) Z (bE H fun r5 h6 H=>za (zj (y2b r3.1.first_ [72,84,84,80,47,49,46,49,32] r5 h6) ⟨.inl Z,.inl Z,U⟩) (qd Z (za (zt Z Z) (za (zt Z Z) (qe Z (qe Z (zh (zz (ι:=Bool) (fun i=>[(0,.dat (vstr v1)),(2,.ptr 1 0),(5,.ptr 2 0),(6,.ptr 3 0),(8,.dat (vstr r5.1)),(57,.dat (zf i))]) (fun i=>[(1,.box none 36 [.dat (vint 0),.dat (vnil),.dat (vstr [])]),(2,.box none 36 [.dat (vint 0),.dat (vnil),.dat (vstr [])]),(3,.box none 69 [.dat (vstr r3.1.first_),.dat (vlst (List.map yb r3.1.headers_)),.dat (vstr r3.1.rest_)])]) (fun i=>vz v1 r3 r5 i=some r) (fun i=>Z) ?_ ?_))))))))))))))))))))
  ·skip
   refine zq hN Z (qd Z (za (qk Z Z) (qd Z (zu (j:=2) Z Z (fun h7 => ?_) (fun h7 => ?_) Z))))
   ·refine u3 h7 H fun h8 H=>zd Z Z h7 (ze (.dat _) Z) (zd Z Z h7 (yk Z) (za (zl Z (bFF h8) Z) (qd Z (zu (j:=6) Z Z (fun h9 => ?_) (fun h9 => ?_) Z))))
    ·refine u3 h9 H fun h10 H=>zd Z Z h9 (ze (.dat _) Z) (zd Z Z h9 (yi tyU9 Z) (zd Z Z h9 (yg Z Z) (za (zl Z (bFF h10) Z) (qd Z (zu (j:=11) Z Z (fun h11 => ?_) (fun h11 => ?_) Z)))))
     ·refine u3 h11 H fun h12 H=>zd Z Z h11 (ze (.dat _) Z) (bE H fun x13 h14 H=>zd Z Z h11 (qh tyU9 Z Z h14) (zd Z Z h11 (qk Z Z) (za (zl Z (bFF h12) Z) (qd Z (zu (j:=16) Z Z (fun h15 => ?_) (fun h15 => ?_) Z)))))
      ·refine u3 h15 H fun h16 H=>zd Z Z h15 (ze (.dat _) Z) (bE H fun l17 h18 H=>zd Z Z h15 (qf tyU9 Z Z Z h18) (bE H fun r19 h20 H=>zd Z Z h15 (zj (z0x l17 [48,49,50,51,52,53,54,55,56,57] r19 h20) ⟨.inl Z,.inl Z,U⟩) (zd Z Z h15 (yk Z) (za (zl Z (bFF h16) Z) (qd Z (zu (j:=22) Z Z (fun h21 => ?_) (fun h21 => ?_) Z))))))
       ·exact u3 h21 H fun h22 H=>zd Z Z h21 (ze (.dat _) Z) (bE H fun r23 h24 H=>zd Z Z h21 (zj (z6j r5.1 32 r23 h24) ⟨.inl Z,.inl Z,U⟩) (zd Z Z h21 (yk Z) (za (zl Z (bFF h22) Z) ⟨!r23,H,⟨Z,Z,Z,Z,Z,Z,U⟩,⟨Z,Z,Z,U⟩⟩)))
       ·exact u4 h21 H fun h25 H=>zb Z Z h21 (zb Z Z h21 (zb Z Z h21 (za (zm Z (bTT h25) Z) ⟨true,H,⟨Z,Z,Z,Z,Z,Z,U⟩,⟨Z,Z,Z,U⟩⟩)))
      ·exact u4 h15 H fun h26 H=>zb Z Z h15 (zb Z Z h15 (zb Z Z h15 (zb Z Z h15 (za (zm Z (bTT h26) Z) (qd Z (zb Z Z Z (zb Z Z Z (zb Z Z Z (za (zm Z Z Z) ⟨true,H,⟨Z,Z,Z,Z,Z,Z,U⟩,⟨Z,Z,Z,U⟩⟩)))))))))
     ·exact u4 h11 H fun h27 H=>zb Z Z h11 (zb Z Z h11 (zb Z Z h11 (za (zm Z (bTT h27) Z) (qd Z (zb Z Z Z (zb Z Z Z (zb Z Z Z (zb Z Z Z (za (zm Z Z Z) (qd Z (zb Z Z Z (zb Z Z Z (zb Z Z Z (za (zm Z Z Z) ⟨true,H,⟨Z,Z,Z,Z,Z,Z,U⟩,⟨Z,Z,Z,U⟩⟩))))))))))))))
    ·exact u4 h9 H fun h28 H=>zb Z Z h9 (zb Z Z h9 (zb Z Z h9 (za (zm Z (bTT h28) Z) (qd Z (zb Z Z Z (zb Z Z Z (zb Z Z Z (za (zm Z Z Z) (qd Z (zb Z Z Z (zb Z Z Z (zb Z Z Z (zb Z Z Z (za (zm Z Z Z) (qd Z (zb Z Z Z (zb Z Z Z (zb Z Z Z (za (zm Z Z Z) ⟨true,H,⟨Z,Z,Z,Z,Z,Z,U⟩,⟨Z,Z,Z,U⟩⟩)))))))))))))))))))
   ·refine u4 h7 H fun h29 H=>zb Z Z h7 (zb Z Z h7 (za (zm Z (bTT h29) Z) (qd Z (zb Z Z Z (zb Z Z Z (zb Z Z Z (za (zm Z Z Z) (qd Z (zb Z Z Z (zb Z Z Z (zb Z Z Z (za (zm Z Z Z) (qd Z (zb Z Z Z (zb Z Z Z (zb Z Z Z (zb Z Z Z (za (zm Z Z Z) (qd Z (zb Z Z Z (zb Z Z Z (zb Z Z Z ?_))))))))))))))))))))))
    exact za (zm Z Z Z) ⟨true,H,⟨Z,Z,Z,Z,Z,Z,U⟩,⟨Z,Z,Z,U⟩⟩
  ·rintro v30 H
   replace H:vz v1 r3 r5 v30=some r:=H
   unfold vz at H
   refine zi _ Z (fun h31 => ?_) (fun h31 => ?_)
   ·refine tE h31 H fun H=>zc hN Z (zr (wn (u':=vagg (qi (yj.mk 0 [] []))) (wm (by exact ⟨zw,wd,zw,U⟩)) (qa yx Z Z Z)) Z ?_)
    refine zo (yq yx Z Z Z Z) Z (qe Z (qe Z (zg ?_)))
    cases H
    exact ⟨U,.inl ⟨_,_,_,qi (yj.mk 0 [] []),Z,Z,Z,Z,yx⟩,.inl Z,.inl Z,U⟩
   ·refine fE h31 H fun H=>zn (zh (yc (zc hN Z (za (zv kj Z) (zr (zx qw Z Z) Z (za (yw vg Z) (za (qb Z Z) (qe Z (zi _ Z (fun h32 => ?_) (fun h32 => ?_))))))))))
    ·refine tE h32 H fun H=>zc hN Z (zr (wn (u':=vagg (qi (yj.mk 0 [] []))) (wm (by exact ⟨zw,wd,zw,U⟩)) (qa yx Z Z Z)) Z ?_)
     refine zo (yq yx Z Z Z Z) Z (qe Z (qe Z (zg ?_)))
     cases H
     exact ⟨U,.inl ⟨_,_,_,qi (yj.mk 0 [] []),Z,Z,Z,Z,yx⟩,.inl Z,.inl Z,U⟩
    ·refine fE h32 H fun H=>zc hN Z (za (zv kj Z) (zr (zx qw Z Z) Z (za (yo (u':=vlst (List.map ye [[99,111,110,116,101,110,116,45,108,101,110,103,116,104],[116,114,97,110,115,102,101,114,45,101,110,99,111,100,105,110,103]])) (wc [[_],[_]] wt ⟨Z,.inl ⟨_,Z,Z,Z⟩,Z,Z,.inl ⟨_,Z,Z,Z⟩,Z,U⟩ Z Z) Z) (bE H fun r33 h34 H=>za (zj (y2q r3.1.headers_ ([[99,111,110,116,101,110,116,45,108,101,110,103,116,104],[116,114,97,110,115,102,101,114,45,101,110,99,111,100,105,110,103]]) r33 h34) ⟨.inl Z,.inl Z,U⟩) (qe Z (zi _ Z (fun h35 => ?_) (fun h35 => ?_)))))))
     ·refine tE h35 H fun H=>zc hN Z (zr (wn (u':=vagg (qi (yj.mk 0 [] []))) (wm (by exact ⟨zw,wd,zw,U⟩)) (qa yx Z Z Z)) Z ?_)
      refine zo (yq yx Z Z Z Z) Z (qe Z (qe Z (zg ?_)))
      cases H
      exact ⟨U,.inl ⟨_,_,_,qi (yj.mk 0 [] []),Z,Z,Z,Z,yx⟩,.inl Z,.inl Z,U⟩
     ·refine fE h35 H fun H=>zn (zc hN Z (zr (qa vv Z Z Z) Z (bE H fun r36 h37 H=>za (zj (y2v r3.1 r36 h37) ⟨.inl Z,U⟩) (qd Z (za (zt Z Z) (za (zt Z Z) (za (zt Z Z) (qe Z (qe Z (qe Z (zh (zc hN Z (qd Z (za (qk Z Z) (zi _ Z (fun h38 => ?_) (fun h38 => ?_))))))))))))))))
      ·refine tE h38 H fun H=>zc hN Z (zr (wn (u':=vagg (qi (yj.mk 0 [] []))) (wm (by exact ⟨zw,wd,zw,U⟩)) (qa yx Z Z Z)) Z ?_)
       refine qd Z (zo (yq yx Z Z Z Z) Z (qe Z (qe Z (zg ?_))))
       cases H
       exact ⟨U,.inl ⟨_,_,_,qi (yj.mk 0 [] []),Z,Z,Z,Z,yx⟩,.inl Z,.inl Z,U⟩
      ·refine fE h38 H fun H=>zn (zc hN Z (qd Z (bE H fun l39 h40 H=>za (qf tyU9 Z Z Z h40) (bE H fun r41 h42 H=>za (zj (z6f l39 r41 h42) ⟨.inl Z,U⟩) (qd Z (za (zt Z Z) (za (zt Z Z) (qe Z (qe Z (zc hN Z (qd Z (za (zv kj Z) (zr (zx qw Z Z) Z (bE H fun r43 h44 H=>za (zj (y2s r3.1.headers_ false r43 h44) ⟨.inl Z,.inl Z,U⟩) (qd Z (za (yo (u':=vagg (qi (yj.mk r41.1 r43 r36.1))) (va [(0,[vint r41.1]),(1,[vlst (List.map yb r43)]),(2,[vstr r36.1])] vo xg Z ⟨Z,.inl ⟨_,Z,Z,Z⟩,Z,Z,.inl ⟨_,Z,Z,Z⟩,Z,Z,.inl ⟨_,Z,Z,Z⟩,Z,U⟩) Z) (zo (qm 4 vo Z) Z (zo (yq yx Z Z Z Z) Z (zh ?_)))))))))))))))))))
       refine zc hN Z (zr (qa yx Z Z Z) Z (bE H fun r45 h46 H=>za (zj (y9q (yj.mk r41.1 r43 r36.1) r45 h46) ⟨.inl Z,U⟩) (qe Z (zc hN Z (qd Z (za (qk Z Z) (zi _ Z (fun h47 => ?_) (fun h47 => ?_))))))))
       ·refine tE h47 H fun H=>zc hN Z (zr (wn (u':=vagg (qi (yj.mk 0 [] []))) (wm (by exact ⟨zw,wd,zw,U⟩)) (qa yx Z Z Z)) Z ?_)
        refine qd Z (zo (yq yx Z Z Z Z) Z (qe Z (qe Z (zg ?_))))
        cases H
        exact ⟨U,.inl ⟨_,_,_,qi (yj.mk 0 [] []),Z,Z,Z,Z,yx⟩,.inl Z,.inl Z,U⟩
       ·refine fE h47 H fun H=>zn (zc hN Z (zr (qa yx Z Z Z) Z (qd Z (za (yi tyU9 Z) (qd Z (za (yi tyU9 Z) (za (yf _ Z Z (.inr (.inl ⟨Z,Z⟩))) (zo (yq yx Z Z Z Z) Z (qe Z (qe Z (zg ?_)))))))))))
        cases H
        exact ⟨U,.inl ⟨_,_,_,qi (yj.mk r41.1 r43 r36.1),Z,Z,Z,Z,yx⟩,.inl Z,.inl Z,U⟩
theorem y2g (s1:(List zk)) (s2:(List zk)) (r:(Bool)) (H:z2q s1 s2=some r):Fn Tryz.prog 46 [vlst (List.map yb s1),vlst (List.map yb s2)] (zp [zf r]):=by
 refine ⟨by kernel_rfl,zy (us:=[zf r]) Tryz.func46 Z Z Z Z fun X hN => ?_⟩
 unfold z2q at H
 refine zc hN Z (qe Z (zh (zc hN Z (qd Z (za (yw vg Z) (qd Z (za (yw vg Z) (za (qk Z Z) (zi _ Z (fun h3 => ?_) (fun h3 => ?_))))))))))
 ·refine tE h3 H fun H=>zc hN Z (qe Z (zg ?_))
  cases H
  exact ⟨U,.inl Z,U⟩
 ·refine fE h3 H fun H=>zn (zh (zc hN Z (qd Z (za (yw vg Z) (qd Z (yc (gE H fun h6 H=>ve (fun (k4:Nat) (s:Unit)=>[(0,.dat (vlst (List.map yb s1))),(1,.dat (vlst (List.map yb s2))),(12,.dat (vint (s1.length:Int))),(13,.dat (vint (k4:Int)))]) (fun (k4:Nat) (s:Unit)=>[]) () H ⟨Z,Z,Z,Z,U⟩ U (fun _ _=>Z) ?_ ?_)))))))
  ·rintro ⟨⟩ H
   replace H:z74=some r:=H
   unfold z74 at H
   refine zc hN Z (za (yg Z Z) (zh (zi _ Z (fun h=>(lt_t h).elim) (fun h => ?_))))
   refine qj (zc hN Z (qe Z (zg ?_)))
   cases H
   exact ⟨U,.inl Z,U⟩
  ·rintro k4 x7 ⟨⟩ q5 h8 h9 H hq5
   replace H:z73 s2 k4 x7=some q5:=H
   unfold z73 at H
   refine zc hN Z (za (yg Z Z) (zh (zi _ Z (fun h => ?_) (fun h=>(lt_f h8 h).elim))))
   refine zn (zh (yc (zc hN Z (qd Z (qe Z (zh (wz mixed hN Z Z (qd Z (qd Z (za (qx ka (fun _=>Z) Z Z h9) (za (xk wv Z (qq h9) Z) (qd Z (qd Z (bE H fun x10 h11 H=>za (qx ka (fun _=>Z) Z Z h11) (za (xk wv Z (qq h11) Z) (za (y52 [_,_] [_,_] y4l Z Z Z) ⟨Z,?_⟩))))))))))))))))
   refine zi _ Z (fun h12 => ?_) (fun h12 => ?_)
   ·refine tE h12 H fun H=>zc hN Z (qe Z (zg ?_))
    replace H:=retl H hq5
    cases H
    exact ⟨U,.inl Z,U⟩
   ·exact fE h12 H fun H=>zn (zq hN Z (za (wy Z Z (by omega)) (qd Z ⟨_,qr H,⟨Z,Z,Z,Z,U⟩,U⟩)))
theorem y9o (a1:yd) (b2:yd) (r:(Bool)) (H:z3j a1 b2=some r):Fn Tryz.prog 10 [vagg (qc a1),vagg (qc b2)] (zp [zf r]):=by
 refine ⟨by kernel_rfl,zy (us:=[zf r]) Tryz.func10 Z Z Z Z fun X hN => ?_⟩
 unfold z3j at H
 refine zc hN Z (zo (vp 1 Z) Z (zo (vp 2 Z) Z (qe Z (zz (ι:=Bool) (fun i=>[(4,.dat (zf i))]) (fun i=>[]) (fun i=>kg i=some r) (fun i=>Z) ?_ ?_))))
 ·skip
  refine zq hN Z (za (zv z4x Z) (zr (zx tyS3 Z Z) Z (za (zv z4x Z) (zr (zx tyS3 Z Z) Z (za (yp Z Z) (qd Z (zu (j:=5) Z Z (fun h3 => ?_) (fun h3 => ?_) Z)))))))
  ·refine u1 h3 H fun h4 H=>zd Z Z h3 (zv z1z Z) (wg Z Z h3 (zx tyS9 Z Z) Z (zd Z Z h3 (zv z1z Z) (wg Z Z h3 (zx tyS9 Z Z) Z (zd Z Z h3 (qy Z Z) (za (zm Z (bTT h4) Z) (qd Z (zu (j:=12) Z Z (fun h5 => ?_) (fun h5 => ?_) Z)))))))
   ·refine u1 h5 H fun h6 H=>zd Z Z h5 (zv z1y Z) (wg Z Z h5 (zx tyS9 Z Z) Z (zd Z Z h5 (zv z1y Z) (wg Z Z h5 (zx tyS9 Z Z) Z (zd Z Z h5 (qy Z Z) (za (zm Z (bTT h6) Z) (qd Z (zu (j:=19) Z Z (fun h7 => ?_) (fun h7 => ?_) Z)))))))
    ·refine u1 h7 H fun h8 H=>zd Z Z h7 (zv Wi Z) (wg Z Z h7 (zx tyS9 Z Z) Z (zd Z Z h7 (zv Wi Z) (wg Z Z h7 (zx tyS9 Z Z) Z (zd Z Z h7 (qy Z Z) (za (zm Z (bTT h8) Z) (qd Z (zu (j:=26) Z Z (fun h9 => ?_) (fun h9 => ?_) Z)))))))
     ·refine u1 h9 H fun h10 H=>zd Z Z h9 (zv Zv Z) (wg Z Z h9 (zx tyS9 Z Z) Z (zd Z Z h9 (zv Zv Z) (wg Z Z h9 (zx tyS9 Z Z) Z (zd Z Z h9 (qy Z Z) (za (zm Z (bTT h10) Z) (qd Z (zu (j:=33) Z Z (fun h11 => ?_) (fun h11 => ?_) Z)))))))
      ·refine u1 h11 H fun h12 H=>zd Z Z h11 (zv z4w Z) (wg Z Z h11 (zx tyS9 Z Z) Z (zd Z Z h11 (zv z4w Z) (wg Z Z h11 (zx tyS9 Z Z) Z (zd Z Z h11 (qy Z Z) (za (zm Z (bTT h12) Z) (qd Z (zu (j:=40) Z Z (fun h13 => ?_) (fun h13 => ?_) Z)))))))
       ·refine u1 h13 H fun h14 H=>zd Z Z h13 (zv Wh Z) (wg Z Z h13 (zx tyS9 Z Z) Z (zd Z Z h13 (zv Wh Z) (wg Z Z h13 (zx tyS9 Z Z) Z (zd Z Z h13 (qy Z Z) (za (zm Z (bTT h14) Z) (qd Z (zu (j:=47) Z Z (fun h15 => ?_) (fun h15 => ?_) Z)))))))
        ·exact u1 h15 H fun h16 H=>zd Z Z h15 (zv z1x Z) (wg Z Z h15 (zx qw Z Z) Z (zd Z Z h15 (zv z1x Z) (wg Z Z h15 (zx qw Z Z) Z (bE H fun r17 h18 H=>zd Z Z h15 (zj (y2g a1.Headers b2.Headers r17 h18) ⟨.inl Z,.inl Z,U⟩) (za (zm Z (bTT h16) Z) (qe Z ⟨r17,H,⟨Z,U⟩,U⟩))))))
        ·exact u2 h15 H fun h19 H=>zb Z Z h15 (zb Z Z h15 (zb Z Z h15 (zb Z Z h15 (zb Z Z h15 (za (zl Z (bFF h19) Z) (qe Z ⟨false,H,⟨Z,U⟩,U⟩))))))
       ·exact u2 h13 H fun h20 H=>zb Z Z h13 (zb Z Z h13 (zb Z Z h13 (zb Z Z h13 (zb Z Z h13 (za (zl Z (bFF h20) Z) (qd Z (zb Z Z Z (zb Z Z Z (zb Z Z Z (zb Z Z Z (zb Z Z Z (za (zl Z Z Z) (qe Z ⟨false,H,⟨Z,U⟩,U⟩)))))))))))))
      ·exact u2 h11 H fun h21 H=>zb Z Z h11 (zb Z Z h11 (zb Z Z h11 (zb Z Z h11 (zb Z Z h11 (za (zl Z (bFF h21) Z) (qd Z (zb Z Z Z (zb Z Z Z (zb Z Z Z (zb Z Z Z (zb Z Z Z (za (zl Z Z Z) (qd Z (zb Z Z Z (zb Z Z Z (zb Z Z Z (zb Z Z Z (zb Z Z Z (za (zl Z Z Z) (qe Z ⟨false,H,⟨Z,U⟩,U⟩))))))))))))))))))))
     ·refine u2 h9 H fun h22 H=>zb Z Z h9 (zb Z Z h9 (zb Z Z h9 (zb Z Z h9 (zb Z Z h9 (za (zl Z (bFF h22) Z) (qd Z (zb Z Z Z (zb Z Z Z (zb Z Z Z (zb Z Z Z (zb Z Z Z (za (zl Z Z Z) (qd Z (zb Z Z Z (zb Z Z Z (zb Z Z Z (zb Z Z Z (zb Z Z Z (za (zl Z Z Z) (qd Z (zb Z Z Z (zb Z Z Z ?_))))))))))))))))))))))
      exact zb Z Z Z (zb Z Z Z (zb Z Z Z (za (zl Z Z Z) (qe Z ⟨false,H,⟨Z,U⟩,U⟩))))
    ·refine u2 h7 H fun h23 H=>zb Z Z h7 (zb Z Z h7 (zb Z Z h7 (zb Z Z h7 (zb Z Z h7 (za (zl Z (bFF h23) Z) (qd Z (zb Z Z Z (zb Z Z Z (zb Z Z Z (zb Z Z Z (zb Z Z Z (za (zl Z Z Z) (qd Z (zb Z Z Z (zb Z Z Z (zb Z Z Z (zb Z Z Z (zb Z Z Z (za (zl Z Z Z) (qd Z (zb Z Z Z (zb Z Z Z ?_))))))))))))))))))))))
     exact zb Z Z Z (zb Z Z Z (zb Z Z Z (za (zl Z Z Z) (qd Z (zb Z Z Z (zb Z Z Z (zb Z Z Z (zb Z Z Z (zb Z Z Z (za (zl Z Z Z) (qe Z ⟨false,H,⟨Z,U⟩,U⟩)))))))))))
   ·refine u2 h5 H fun h24 H=>zb Z Z h5 (zb Z Z h5 (zb Z Z h5 (zb Z Z h5 (zb Z Z h5 (za (zl Z (bFF h24) Z) (qd Z (zb Z Z Z (zb Z Z Z (zb Z Z Z (zb Z Z Z (zb Z Z Z (za (zl Z Z Z) (qd Z (zb Z Z Z (zb Z Z Z (zb Z Z Z (zb Z Z Z (zb Z Z Z (za (zl Z Z Z) (qd Z (zb Z Z Z (zb Z Z Z ?_))))))))))))))))))))))
    exact zb Z Z Z (zb Z Z Z (zb Z Z Z (za (zl Z Z Z) (qd Z (zb Z Z Z (zb Z Z Z (zb Z Z Z (zb Z Z Z (zb Z Z Z (za (zl Z Z Z) (qd Z (zb Z Z Z (zb Z Z Z (zb Z Z Z (zb Z Z Z (zb Z Z Z (za (zl Z Z Z) (qe Z ⟨false,H,⟨Z,U⟩,U⟩))))))))))))))))))
  ·refine u2 h3 H fun h25 H=>zb Z Z h3 (zb Z Z h3 (zb Z Z h3 (zb Z Z h3 (zb Z Z h3 (za (zl Z (bFF h25) Z) (qd Z (zb Z Z Z (zb Z Z Z (zb Z Z Z (zb Z Z Z (zb Z Z Z (za (zl Z Z Z) (qd Z (zb Z Z Z (zb Z Z Z (zb Z Z Z (zb Z Z Z (zb Z Z Z (za (zl Z Z Z) (qd Z (zb Z Z Z (zb Z Z Z ?_))))))))))))))))))))))
   refine zb Z Z Z (zb Z Z Z (zb Z Z Z (za (zl Z Z Z) (qd Z (zb Z Z Z (zb Z Z Z (zb Z Z Z (zb Z Z Z (zb Z Z Z (za (zl Z Z Z) (qd Z (zb Z Z Z (zb Z Z Z (zb Z Z Z (zb Z Z Z (zb Z Z Z (za (zl Z Z Z) (qd Z (zb Z Z Z (zb Z Z Z (zb Z Z Z (zb Z Z Z (zb Z Z Z ?_)))))))))))))))))))))))
   exact za (zl Z Z Z) (qe Z ⟨false,H,⟨Z,U⟩,U⟩)
 ·rintro v26 H
  replace H:kg v26=some r:=H
  unfold kg at H
  refine zg ?_
  cases H
  exact ⟨U,.inl Z,U⟩
theorem y9n (a1:yj) (b2:yj) (r:(Bool)) (H:z3i a1 b2=some r):Fn Tryz.prog 11 [vagg (qi a1),vagg (qi b2)] (zp [zf r]):=by
 refine ⟨by kernel_rfl,zy (us:=[zf r]) Tryz.func11 Z Z Z Z fun X hN => ?_⟩
 unfold z3i at H
 refine zc hN Z (zo (vp 1 Z) Z (zo (vp 2 Z) Z (qe Z (zz (ι:=Bool) (fun i=>[(4,.dat (zf i))]) (fun i=>[]) (fun i=>Qr i=some r) (fun i=>Z) ?_ ?_))))
 ·skip
  refine zq hN Z (za (zv Wg Z) (zr (zx tyS3 Z Z) Z (za (zv Wg Z) (zr (zx tyS3 Z Z) Z (za (yp Z Z) (qd Z (zu (j:=5) Z Z (fun h3 => ?_) (fun h3 => ?_) Z)))))))
  ·refine u1 h3 H fun h4 H=>zd Z Z h3 (zv z1v Z) (wg Z Z h3 (zx tyS9 Z Z) Z (zd Z Z h3 (zv z1v Z) (wg Z Z h3 (zx tyS9 Z Z) Z (zd Z Z h3 (qy Z Z) (za (zm Z (bTT h4) Z) (qd Z (zu (j:=12) Z Z (fun h5 => ?_) (fun h5 => ?_) Z)))))))
   ·exact u1 h5 H fun h6 H=>zd Z Z h5 (zv z1w Z) (wg Z Z h5 (zx qw Z Z) Z (zd Z Z h5 (zv z1w Z) (wg Z Z h5 (zx qw Z Z) Z (bE H fun r7 h8 H=>zd Z Z h5 (zj (y2g a1.Headers b2.Headers r7 h8) ⟨.inl Z,.inl Z,U⟩) (za (zm Z (bTT h6) Z) (qe Z ⟨r7,H,⟨Z,U⟩,U⟩))))))
   ·exact u2 h5 H fun h9 H=>zb Z Z h5 (zb Z Z h5 (zb Z Z h5 (zb Z Z h5 (zb Z Z h5 (za (zl Z (bFF h9) Z) (qe Z ⟨false,H,⟨Z,U⟩,U⟩))))))
  ·exact u2 h3 H fun h10 H=>zb Z Z h3 (zb Z Z h3 (zb Z Z h3 (zb Z Z h3 (zb Z Z h3 (za (zl Z (bFF h10) Z) (qd Z (zb Z Z Z (zb Z Z Z (zb Z Z Z (zb Z Z Z (zb Z Z Z (za (zl Z Z Z) (qe Z ⟨false,H,⟨Z,U⟩,U⟩)))))))))))))
 ·rintro v11 H
  replace H:Qr v11=some r:=H
  unfold Qr at H
  refine zg ?_
  cases H
  exact ⟨U,.inl Z,U⟩
theorem y19 (l1:(List Int)) (c2:Int) (r:(Int×(List Int))) (H:z5w l1 c2=some r):FnG Tryz.prog 145 [.ptr 0 0,.dat (vval (.int .u8 c2))] [(0,.box (some 0) 101 [.nptr 0,.row 1 l1.length]),(1,.row 5 1 (List.map yv l1))] (.dat (zp [verr r.1])) [(0,.box (some 0) 101 [.nptr 0,.row 900 r.2.length]),(900,.row 5 1 (List.map yv r.2))]:=by
 refine z4e (by kernel_rfl) Tryz.func145 Z Z Z Z fun X A hN => ?_
 refine vt ?_
 unfold z5w at H
 refine zc hN Z (qe Z (zc hN Z (za (ze (.ptr _ _) Z) (zo (y0x y3p Z) Z (zc hN Z (za (ze (.ptr _ _) Z) (za (ze (.ptr _ _) Z) (za (jg Z) (za (zv z11 Z) (zr (zx z1s Z Z) Z (qd Z (za (yo (u':=vlst (List.map yv [c2])) (wc [[_]] z4v ⟨Z,.inl ⟨_,Z,Z,Z⟩,Z,U⟩ Z Z) Z) (gE H fun h3 H=>zo (xj z4v (fun _=>Z) Z Z Z ⟨by simp,by first | (simp; done) | simpa using h3⟩ Z) Z ?_)))))))))))))
 refine za (jg Z) (za (zv z11 Z) (z5b (z42 z1s Z Z (by rw [List.length_map]) Z) Z Z ?_))
 refine zc hN Z (qe Z (zg ?_))
 cases H
 show Cv _ _ _ _
 exact ja (rn [(1,900)]) [(4,.dat (verr 0))] [(0,.box (some (A.bl 0)) 101 [.nptr 0,.row 1 ((l1++[c2]).length)]),(1,.row 5 1 (List.map yv (l1++[c2])))] ⟨Z,U⟩ ⟨Z,Z,U⟩ Z Z ⟨U,[(4,.dat (verr 0))],⟨Z,U⟩,⟨Z,Z,U⟩,Z,.inl ⟨[verr 0],⟨Z,U⟩,Z⟩⟩
theorem y2j (c1:Int) (r:(Bool)) (H:z50 c1=some r):Fn Tryz.prog 175 [vval (.int .u8 c1)] (zp [zf r]):=by
 refine ⟨by kernel_rfl,zy (us:=[zf r]) Tryz.func175 Z Z Z Z fun X hN => ?_⟩
 unfold z50 at H
 refine zc hN Z (qe Z (zc hN Z (qd Z (bE H fun r2 h3 H=>za (zj (z6i c1 r2 h3) ⟨.inl Z,U⟩) (qd Z (yz Z Z (fun hc=>ze (.dat _) Z) (yz Z Z (fun hc=>wx (cnd (c:=(!r2)) hc) Z) (yz Z Z (fun hc=>ze (.dat _) (cnd (c:=(!r2)) hc)) (ji Z Z (fun hc=>ze (.dat _) Z) (ji Z Z (fun hc=>we (cnd (c:=((!r2) && (decide (97≤c1)))) hc) Z) (yz Z Z (fun hc=>wu (cnd (c:=(!r2)) hc) (fun hb=>(cnd (c:=((!r2) && (decide (97≤c1)))) (andI hc hb))) Z) (za (vk Z Z (fun hb=>(cnd (c:=(!r2)) (notI hb)))) (qd Z (yz Z Z (fun hc=>ze (.dat _) Z) (yz Z Z (fun hc=>wx (cnd (c:=(!(r2 || ((decide (97≤c1)) && (decide (c1≤102)))))) hc) Z) (yz Z Z (fun hc=>ze (.dat _) (cnd (c:=(!(r2 || ((decide (97≤c1)) && (decide (c1≤102)))))) hc)) (ji Z Z (fun hc=>ze (.dat _) Z) (ji Z Z (fun hc=>we (cnd (c:=((!(r2 || ((decide (97≤c1)) && (decide (c1≤102))))) && (decide (65≤c1)))) hc) Z) (yz Z Z (fun hc=>wu (cnd (c:=(!(r2 || ((decide (97≤c1)) && (decide (c1≤102)))))) hc) (fun hb=>(cnd (c:=((!(r2 || ((decide (97≤c1)) && (decide (c1≤102))))) && (decide (65≤c1)))) (andI hc hb))) Z) (za (vk Z Z (fun hb=>(cnd (c:=(!(r2 || ((decide (97≤c1)) && (decide (c1≤102)))))) (notI hb)))) (qe Z (zg ?_))))))))))))))))))))))
 cases H
 exact ⟨U,.inl Z,U⟩
theorem y8r (s1:Bs) (v2:Int) (r:(Bool)) (H:z8l s1 v2=some r):Fn Tryz.prog 146 [vstr s1,vint v2] (zp [zf r]):=by
 refine ⟨by kernel_rfl,zy (us:=[zf r]) Tryz.func146 Z Z Z Z fun X hN => ?_⟩
 unfold z8l at H
 refine zc hN Z (qe Z (zz (ι:=Bool) (fun i=>[(4,.dat (zf i))]) (fun i=>[]) (fun i=>Wt i=some r) (fun i=>Z) ?_ ?_))
 ·skip
  refine zq hN Z (qd Z (za (yf _ Z Z (.inl ⟨Z,Z⟩)) (qd Z (za (yi tyU9 Z) (za (yg Z Z) (qd Z (zu (j:=5) Z Z (fun h3 => ?_) (fun h3 => ?_) Z)))))))
  ·refine u1 h3 H fun h4 H=>zd Z Z h3 (ze (.dat _) Z) (zd Z Z h3 (ze (.dat _) Z) (zd Z Z h3 (yf _ Z Z (.inl ⟨Z,Z⟩)) (bE H fun x5 h6 H=>zd Z Z h3 (jf tyU9 Z Z h6) (bE H fun r7 h8 H=>zd Z Z h3 (zj (y2j (x5.toNat:Int) r7 h8) ⟨.inl Z,U⟩) (za (zm Z (bTT h4) Z) (qd Z (zu (j:=12) Z Z (fun h9 => ?_) (fun h9 => ?_) Z)))))))
   ·exact u1 h9 H fun h10 H=>zd Z Z h9 (ze (.dat _) Z) (zd Z Z h9 (ze (.dat _) Z) (zd Z Z h9 (yf _ Z Z (.inl ⟨Z,Z⟩)) (bE H fun x11 h12 H=>zd Z Z h9 (jf tyU9 Z Z h12) (bE H fun r13 h14 H=>zd Z Z h9 (zj (y2j (x11.toNat:Int) r13 h14) ⟨.inl Z,U⟩) (za (zm Z (bTT h10) Z) (qe Z ⟨r13,H,⟨Z,U⟩,U⟩))))))
   ·exact u2 h9 H fun h15 H=>zb Z Z h9 (zb Z Z h9 (zb Z Z h9 (zb Z Z h9 (zb Z Z h9 (za (zl Z (bFF h15) Z) (qe Z ⟨false,H,⟨Z,U⟩,U⟩))))))
  ·exact u2 h3 H fun h16 H=>zb Z Z h3 (zb Z Z h3 (zb Z Z h3 (zb Z Z h3 (zb Z Z h3 (za (zl Z (bFF h16) Z) (qd Z (zb Z Z Z (zb Z Z Z (zb Z Z Z (zb Z Z Z (zb Z Z Z (za (zl Z Z Z) (qe Z ⟨false,H,⟨Z,U⟩,U⟩)))))))))))))
 ·rintro v17 H
  replace H:Wt v17=some r:=H
  unfold Wt at H
  refine zg ?_
  cases H
  exact ⟨U,.inl Z,U⟩
theorem y8f (s1:Bs) (base2:Int) (bitSize3:Int) (r:(Int×Int)) (H:z8g s1 base2 bitSize3=some r):Fn Tryz.prog 176 [vstr s1,vint base2,vint bitSize3] (zp [vval (.int .u64 r.1),verr r.2]):=by
 refine ⟨by kernel_rfl,zy (us:=[vval (.int .u64 r.1),verr r.2]) Tryz.func176 Z Z Z Z fun X hN => ?_⟩
 unfold z8g at H
 refine zc hN Z (qe Z (qe Z (zc hN Z (qd Z (qd Z (qd Z (bE H fun r4 h5 H=>za (zj (y2o s1 base2 bitSize3 r4 h5) ⟨.inl Z,.inl Z,.inl Z,U⟩) (qd Z (za (zt Z Z) (za (zt Z Z) (qe Z (qe Z (zh (zc hN Z (qd Z (za (Wr (n:=r4.2) (show Tryz.prog.underlying 86=some (.interface (Tryz.prog.methodsAt 86)) from by kernel_rfl) Z) ?_))))))))))))))))
 refine zi _ Z (fun h6 => ?_) (fun h6 => ?_)
 ·refine tE h6 H fun H=>zc hN Z (qd Z (qd Z (qd Z (qd Z (qd Z (bE H fun r7 h8 H=>za (zj (z8u [80,97,114,115,101,85,105,110,116] s1 base2 bitSize3 r4.2 r7 h8) ⟨.inl Z,.inl Z,.inl Z,.inl Z,.inl Z,U⟩) (qe Z (qe Z (zg ?_)))))))))
  cases H
  exact ⟨U,.inl Z,.inl Z,U⟩
 ·refine fE h6 H fun H=>zn (zc hN Z (qd Z (qe Z (qe Z (zg ?_)))))
  cases H
  exact ⟨U,.inl Z,.inl Z,U⟩
theorem y8m (s1:Bs) (v2:Int) (r:(Int)) (H:z8j s1 v2=some r):Fn Tryz.prog 147 [vstr s1,vint v2] (zp [vval (.int .u8 r)]):=by
 refine ⟨by kernel_rfl,zy (us:=[vval (.int .u8 r)]) Tryz.func147 Z Z Z Z fun X hN => ?_⟩
 unfold z8j at H
 refine zc hN Z (qe Z (zc hN Z (qd Z (qd Z (za (yf _ Z Z (.inl ⟨Z,Z⟩)) (qd Z (za (yf _ Z Z (.inl ⟨Z,Z⟩)) (bE H fun l3 h4 H=>za (qf tyU9 Z Z Z h4) (bE H fun r5 h6 H=>za (zj (y8f l3 16 8 r5 h6) ⟨.inl Z,.inl Z,.inl Z,U⟩) (qd Z (za (zt Z Z) (za (zt Z Z) (qe Z (qe Z (zh (zc hN Z (qd Z (za (Wr (n:=r5.2) (show Tryz.prog.underlying 86=some (.interface (Tryz.prog.methodsAt 86)) from by kernel_rfl) Z) ?_))))))))))))))))))
 refine zi _ Z (fun h7 => ?_) (fun h7 => ?_)
 ·refine tE h7 H fun H=>zc hN Z (qe Z (zg ?_))
  cases H
  exact ⟨U,.inl Z,U⟩
 ·refine fE h7 H fun H=>zn (zc hN Z (qd Z (za (vh kz tyU5 Z) (qe Z (zg ?_)))))
  cases H
  exact ⟨U,.inl Z,U⟩
theorem y8w (c1:Int) (r:(Bool)) (H:z8m c1=some r):Fn Tryz.prog 148 [vval (.int .u8 c1)] (zp [zf r]):=by
 refine ⟨by kernel_rfl,zy (us:=[zf r]) Tryz.func148 Z Z Z Z fun X hN => ?_⟩
 unfold z8m at H
 refine zc hN Z (qe Z (zz (ι:=Bool) (fun i=>[(2,.dat (zf i))]) (fun i=>[]) (fun i=>Wx i=some r) (fun i=>Z) ?_ ?_))
 ·skip
  refine zq hN Z (qd Z (bE H fun r2 h3 H=>za (zj (z8w c1 r2 h3) ⟨.inl Z,U⟩) (qd Z (zu (j:=2) Z Z (fun h4 => ?_) (fun h4 => ?_) Z))))
  ·refine u3 h4 H fun h5 H=>zd Z Z h4 (ze (.dat _) Z) (bE H fun r6 h7 H=>zd Z Z h4 (zj (z6i c1 r6 h7) ⟨.inl Z,U⟩) (za (zl Z (bFF h5) Z) (qd Z (zu (j:=6) Z Z (fun h8 => ?_) (fun h8 => ?_) Z))))
   ·exact u3 h8 H fun h9 H=>zd Z Z h8 (ze (.dat _) Z) (bE H fun r10 h11 H=>zd Z Z h8 (zj (z8t [45,46,95,126] c1 r10 h11) ⟨.inl Z,.inl Z,U⟩) (zd Z Z h8 (wx Z Z) (za (zl Z (bFF h9) Z) (qe Z ⟨decide (0≤r10),H,⟨Z,U⟩,U⟩))))
   ·exact u4 h8 H fun h12 H=>zb Z Z h8 (zb Z Z h8 (zb Z Z h8 (za (zm Z (bTT h12) Z) (qe Z ⟨true,H,⟨Z,U⟩,U⟩))))
  ·exact u4 h4 H fun h13 H=>zb Z Z h4 (zb Z Z h4 (za (zm Z (bTT h13) Z) (qd Z (zb Z Z Z (zb Z Z Z (zb Z Z Z (za (zm Z Z Z) (qe Z ⟨true,H,⟨Z,U⟩,U⟩))))))))
 ·rintro v14 H
  replace H:Wx v14=some r:=H
  unfold Wx at H
  refine zg ?_
  cases H
  exact ⟨U,.inl Z,U⟩
theorem y8p (c1:Int) (r:(Bs)) (H:z8k c1=some r):Fn Tryz.prog 149 [vval (.int .u8 c1)] (zp [vstr r]):=by
 refine ⟨by kernel_rfl,zy (us:=[vstr r]) Tryz.func149 Z Z Z Z fun X hN => ?_⟩
 unfold z8k at H
 refine zc hN Z (qe Z (zh (wz mixed hN Z Z (qd Z (za (yo (y0p Z Z (by decide)) Z) (bE H fun x2 h3 H=>za (Wl tyU9 Z Z h3) (qd Z (za (yo (z7r Z Z) Z) (bE H fun x4 h5 H=>za (Wl tyU9 Z Z h5) (za (yo (u':=vlst (List.map yv [37,(x2.toNat:Int),(x4.toNat:Int)])) (wc [[_],[_],[_]] z4v ⟨Z,.inl ⟨_,Z,Z,Z⟩,Z,Z,.inl ⟨_,Z,Z,Z⟩,Z,Z,.inl ⟨_,Z,Z,Z⟩,Z,U⟩ Z Z) Z) (za (z7o (C:=yv) xf tyU5 tyU9 (fun _=>Z) Z) (qe Z ⟨Z,?_⟩))))))))))))
 refine zg ?_
 cases H
 exact ⟨U,.inl Z,U⟩
theorem y8q (s1:Bs) (r:(Bs×Bool)) (H:z2t s1=some r):Fn Tryz.prog 101 [vstr s1] (zp [vstr r.1,zf r.2]):=by
 refine ⟨by kernel_rfl,zy (us:=[vstr r.1,zf r.2]) Tryz.func101 Z Z Z Z fun X hN => ?_⟩
 unfold z2t at H
 refine zc hN Z (qe Z (qe Z (zc hN Z (zo (qm 1 y0c Z) Z (y3r 1 0 (.nptr 1) Z Z y1u (z66 1 1 2 5 1 Z Z Z Z (zz (ι:=(List Int)) (fun i=>[(4,.ptr 1 0)]) (fun i=>[(1,.box none 101 [.nptr 1,.row 2 i.length]),(2,.row 5 1 (List.map yv i))]) (fun i=>z5j i=some r) (fun i=>Z) ?_ ?_)))))))
 ·refine vt (zc hN Z (qe Z (yc (ki (fun (s:Int×(List Int))=>[(0,.dat (vstr s1)),(4,.ptr 1 0),(5,.dat (vint s.1))]) (fun (s:Int×(List Int))=>[(1,.box none 101 [.nptr 1,.row 2 s.2.length]),(2,.row 5 1 (List.map yv s.2))]) (0,([]:List Int)) H ⟨Z,Z,Z,U⟩ ⟨Z,Z,U⟩ (fun _=>Z) ?_))))
  rintro ⟨i2,l3⟩ q4 H hq4
  replace H:z8d s1 i2 l3=some q4:=H
  unfold z8d at H
  refine vt (zh (zc hN Z (qd Z (qd Z (za (yi tyU9 Z) (za (yg Z Z) (zi _ Z (fun h5 => ?_) (fun h5 => ?_))))))))
  ·refine tE h5 H fun H=>zn (zz (ι:=Int×(List Int)) (fun i=>[(0,.dat (vstr s1)),(4,.ptr 1 0),(5,.dat (vint i.1))]) (fun i=>[(1,.box none 101 [.nptr 1,.row 7 i.2.length]),(7,.row 5 1 (List.map yv i.2))]) (fun i=>z2f i.1 i.2=some q4) (fun i=>Z) ?_ ?_)
   ·refine vt (yc (zh (zc hN Z (qd Z (qd Z (bE H fun x6 h7 H=>za (jf tyU9 Z Z h7) (za (qk Z Z) (zi _ Z (fun h8 => ?_) (fun h8 => ?_)))))))))
    ·refine tE h8 H fun H=>zc hN Z (qd Z (qd Z (za (jf tyU9 Z Z h7) (bE H fun r9 h10 H=>jt (rn [(0,1),(1,2),(900,3)]) [(0,_,_,some _),(1,_,_,none)] [(900,_)] (y19 l3 (x6.toNat:Int) r9 h10) ⟨Z,Z,Z,U⟩ ⟨.inl (.inl Z),.inl (.inl Z),U⟩ ⟨⟨⟨Z,Z⟩,U⟩,⟨⟨Z,Z,Z⟩,U⟩,U⟩ Z (qj ?_)))))
     show Cv _ _ _ _
     exact ja (rn [(3,7)]) [(0,.dat (vstr s1)),(4,.ptr 1 0),(5,.dat (vint i2))] [(1,.box none 101 [.nptr 1,.row 3 r9.2.length]),(3,.row 5 1 (List.map yv r9.2))] ⟨Z,Z,Z,U⟩ ⟨Z,Z,U⟩ Z Z ⟨(i2,r9.2),H,⟨Z,Z,Z,U⟩,⟨Z,Z,U⟩⟩
    ·refine fE h8 H fun H=>zn (zh (zc hN Z (qd Z (qd Z (bE H fun r11 h12 H=>za (zj (y8r s1 i2 r11 h12) ⟨.inl Z,.inl Z,U⟩) (za (yk Z) (zi _ Z (fun h13 => ?_) (fun h13 => ?_))))))))
     ·refine tE h13 H fun H=>zc hN Z (qe Z (qe Z (zg ?_)))
      replace H:=retl H hq4
      cases H
      show Cv _ _ _ _
      refine qv ?_
      show Cv _ _ _ _
      refine qv ?_
      show Cv _ _ _ _
      exact qv ⟨U,.inl Z,.inl Z,U⟩
     ·refine fE h13 H fun H=>zn (zz (ι:=(List Int)) (fun i=>[(0,.dat (vstr s1)),(4,.ptr 1 0),(5,.dat (vint i2))]) (fun i=>[(1,.box none 101 [.nptr 1,.row 6 i.length]),(6,.row 5 1 (List.map yv i))]) (fun i=>z2e i2 i=some q4) (fun i=>Z) ?_ ?_)
      ·refine vt (zc hN Z (qd Z (qd Z (bE H fun r14 h15 H=>za (zj (y8m s1 i2 r14 h15) ⟨.inl Z,.inl Z,U⟩) (qe Z (zc hN Z (qd Z (bE H fun r16 h17 H=>za (zj (y8w r14 r16 h17) ⟨.inl Z,U⟩) (zi _ Z (fun h18 => ?_) (fun h18 => ?_))))))))))
       ·refine tE h18 H fun H=>zq hN Z (qd Z (bE H fun r19 h20 H=>jt (rn [(0,1),(1,2),(900,4)]) [(0,_,_,some _),(1,_,_,none)] [(900,_)] (y19 l3 r14 r19 h20) ⟨Z,Z,Z,U⟩ ⟨.inl (.inl Z),.inl (.inl Z),U⟩ ⟨⟨⟨Z,Z⟩,U⟩,⟨⟨Z,Z,Z⟩,U⟩,U⟩ Z (vi ?_)))
        show Cv _ _ _ _
        exact ja (rn [(4,6)]) [(0,.dat (vstr s1)),(4,.ptr 1 0),(5,.dat (vint i2))] [(1,.box none 101 [.nptr 1,.row 4 r19.2.length]),(4,.row 5 1 (List.map yv r19.2))] ⟨Z,Z,Z,U⟩ ⟨Z,Z,U⟩ Z Z ⟨r19.2,H,⟨Z,Z,Z,U⟩,⟨Z,Z,U⟩⟩
       ·refine fE h18 H fun H=>zq hN Z (qd Z (bE H fun r21 h22 H=>za (zj (y8p r14 r21 h22) ⟨.inl Z,U⟩) (bE H fun r23 h24 H=>jt (rn [(0,1),(1,2),(900,5)]) [(0,_,_,some _),(1,_,_,none)] [(900,_)] (y18 l3 r21 r23 h24) ⟨Z,Z,Z,U⟩ ⟨.inl (.inl Z),.inl (.inl Z),U⟩ ⟨⟨⟨Z,Z⟩,U⟩,⟨⟨Z,Z,Z⟩,U⟩,U⟩ Z (vi ?_))))
        show Cv _ _ _ _
        exact ja (rn [(5,6)]) [(0,.dat (vstr s1)),(4,.ptr 1 0),(5,.dat (vint i2))] [(1,.box none 101 [.nptr 1,.row 5 r23.2.2.length]),(5,.row 5 1 (List.map yv r23.2.2))] ⟨Z,Z,Z,U⟩ ⟨Z,Z,U⟩ Z Z ⟨r23.2.2,H,⟨Z,Z,Z,U⟩,⟨Z,Z,U⟩⟩
      ·rintro l25 H
       replace H:z2e i2 l25=some q4:=H
       unfold z2e at H
       refine zq hN Z (qd Z (za (yf _ Z Z (.inl ⟨Z,Z⟩)) (qe Z (vi ?_))))
       show Cv _ _ _ _
       exact ja (rn [(6,7)]) [(0,.dat (vstr s1)),(4,.ptr 1 0),(5,.dat (vint (wr (i2+2))))] [(1,.box none 101 [.nptr 1,.row 6 l25.length]),(6,.row 5 1 (List.map yv l25))] ⟨Z,Z,Z,U⟩ ⟨Z,Z,U⟩ Z Z ⟨(wr (i2+2),l25),H,⟨Z,Z,Z,U⟩,⟨Z,Z,U⟩⟩
   ·rintro ⟨i26,l27⟩ H
    replace H:z2f i26 l27=some q4:=H
    unfold z2f at H
    refine zq hN Z (qd Z (za (yf _ Z Z (.inl ⟨Z,Z⟩)) (qe Z (vi ?_))))
    show Cv _ _ _ _
    exact ja (rn [(7,2)]) [(0,.dat (vstr s1)),(4,.ptr 1 0),(5,.dat (vint (wr (i26+1))))] [(1,.box none 101 [.nptr 1,.row 7 l27.length]),(7,.row 5 1 (List.map yv l27))] ⟨Z,Z,Z,U⟩ ⟨Z,Z,U⟩ Z Z ⟨_,qr H,⟨Z,Z,Z,U⟩,⟨Z,Z,U⟩⟩
  ·refine fE h5 H fun H=>qj ?_
   replace H:=outl H hq4
   show Cv _ _ _ _
   refine qv ?_
   show Cv _ _ _ _
   exact qv ⟨l3,H,⟨Z,U⟩,⟨Z,Z,U⟩⟩
 ·rintro l28 H
  replace H:z5j l28=some r:=H
  unfold z5j at H
  refine zc hN Z (gE H fun h29 H=>jt (rn [(0,1),(1,2)]) [(0,_,_,none),(1,_,_,none)] [] (y17 h29 (C:=yv) (fun _=>Z)) ⟨Z,Z,U⟩ ⟨.inl (.inl Z),U⟩ ⟨⟨⟨Z,Z⟩,U⟩,⟨⟨Z,Z,Z⟩,U⟩,U⟩ Z (qe Z (qe Z (zg ?_))))
  cases H
  exact ⟨U,.inl Z,.inl Z,U⟩
theorem y8b (l:List Bs) (sep r:Bs) (H:z5u l sep=some r):Fn Tryz.prog 102 [vlst (List.map ye l),vstr sep] (zp [vstr r]):=by
 obtain ⟨h1,h2,rfl⟩:=y97 H
 refine jz (by kernel_rfl) fun M w vs hM h => ?_
 obtain ⟨hl,hv⟩:=h
 obtain ⟨a,ha,hap⟩:=hv 0 _ rfl
 obtain ⟨s,hs,hsp⟩:=hv 1 _ rfl
 have hsp:s = .string ⟨sep.toArray⟩:=hsp
 subst hsp
 have hvs:vs.toArray = #[a,.string ⟨sep.toArray⟩]:=by
  rcases vs with _ | ⟨x,_ | ⟨y,_ | ⟨z,t⟩⟩⟩
  ·cases ha
  ·cases hs
  ·cases ha; cases hs; rfl
  ·simp at hl
 rw [hvs]
 obtain ⟨A,c,q1,q2,q3⟩:=hap
 simp only [List.length_map] at q1 q2
 subst q1
 by_cases hne:l=[]
 ·subst hne
  refine (Tryz.strings_Join_none A c ⟨sep.toArray⟩ w).mono ?_
  rintro e w' ⟨rfl,rfl⟩
  exact ⟨_,Z,Z,Kp.refl _ _⟩
 ·obtain ⟨b,off,size,rfl,hMb,arr,t,fz,q5,q6,q7⟩:=q3 (by simpa using hne)
  have hsz:size=1:=by
   cases hq:l with
   | nil=>exact absurd hq hne
   | cons x l'=>have:=q6 (ye x) (by rw [hq]; simp); simpa using this.symm
  subst hsz
  have e1:((l.map fun x=>ByteArray.mk x.toArray).map (·.data.toList))=l:=by
   rw [List.map_map]
   exact (List.map_congr_left fun x _=>Z).trans (List.map_id l)
  have hj:=Tryz.strings_Join b off c (l.map fun x=>ByteArray.mk x.toArray) ⟨sep.toArray⟩ w (fun j x hx=>by
   rw [List.getElem?_map] at hx
   cases hq:l[j]? with
   | none=>rw [hq] at hx; cases hx
   | some y =>
    rw [hq] at hx
    cases hx
    obtain ⟨v,r1,r2,_⟩:=q7 j 0 (ye y) (vstr y) (by rw [List.getElem?_map,hq]; rfl) rfl
    have r2:v = .string ⟨y.toArray⟩:=r2
    rw [cell_of_row w b _ _ _ _ q5]
    simp only [Nat.mul_one,Nat.add_zero] at r1
    rw [r1,r2]) (z07 q5) (by simp; omega) (by simpa using q2) (by rw [e1]; simp only; omega)
  rw [List.length_map,e1] at hj
  refine hj.mono ?_
  rintro e w' ⟨rfl,hb⟩
  exact ⟨_,Z,Z,Kp.of_below hb⟩
theorem y84 (s1:Bs) (r:(Bs×Int)) (H:z29 s1=some r):Fn Tryz.prog 47 [vstr s1] (zp [vstr r.1,vint r.2]):=by
 refine ⟨by kernel_rfl,zy (us:=[vstr r.1,vint r.2]) Tryz.func47 Z Z Z Z fun X hN => ?_⟩
 unfold z29 at H
 refine zc hN Z (qe Z (qe Z (zh (zc hN Z (qd Z (bE H fun r2 h3 H=>za (zj (y2k s1 r2 h3) ⟨.inl Z,U⟩) (qe Z (zc hN Z (qd Z (za (qk Z Z) (zi _ Z (fun h4 => ?_) (fun h4 => ?_))))))))))))
 ·refine tE h4 H fun H=>zc hN Z (qd Z (qe Z (qe Z (zg ?_))))
  cases H
  exact ⟨U,.inl Z,.inl Z,U⟩
 ·refine fE h4 H fun H=>zn (zc hN Z (qd Z (bE H fun r5 h6 H=>za (zj (y8q s1 r5 h6) ⟨.inl Z,U⟩) (qd Z (za (zt Z Z) (za (zt Z Z) (qe Z (qe Z (zh (zc hN Z (qd Z (za (yk Z) (zi _ Z (fun h7 => ?_) (fun h7 => ?_))))))))))))))
  ·refine tE h7 H fun H=>zc hN Z (qe Z (qe Z (zg ?_)))
   cases H
   exact ⟨U,.inl Z,.inl Z,U⟩
  ·refine fE h7 H fun H=>zn (zc hN Z (qe Z (zc hN Z (qd Z (bE H fun l8 h9 H=>za (qf tyU9 Z Z Z h9) (bE H fun r10 h11 H=>za (zj (z30 l8 [47] r10 h11) ⟨.inl Z,.inl Z,U⟩) (qe Z (zh (zc hN Z (qd Z (za (yw wb Z) (qd Z (yc (z4h 6 1 9 1 Z Z Z (gE H fun h15 H=>ve (fun (k13:Nat) (s:(List Bs))=>[(6,.row 1 s.length),(7,.dat (vlst (List.map ye r10))),(25,.dat (vlst (List.map ye r10))),(26,.dat (vint (r10.length:Int))),(27,.dat (vint (k13:Int)))]) (fun (k13:Nat) (s:(List Bs))=>[(1,.row 9 1 (List.map ye s))]) [] H ⟨Z,Z,Z,Z,Z,U⟩ ⟨Z,U⟩ (fun _ _=>Z) ?_ ?_)))))))))))))))
   ·rintro l12 H
    replace H:z5p l12=some r:=H
    unfold z5p at H
    refine zc hN Z (za (yg Z Z) (zh (zi _ Z (fun h=>(lt_t h).elim) (fun h => ?_))))
    refine qj (zh (y4z 6 1 Z Z Z (zq hN Z (qd Z (bE H fun r17 h18 H=>za (zj (y8b l12 [47] r17 h18) ⟨.inl Z,.inl Z,U⟩) (gE H fun h19 H=>za (yy Z Z (Nat.le_trans h19 (by decide))) (qe Z (qe Z (zg ?_)))))))))
    cases H
    exact ⟨U,.inl Z,.inl Z,U⟩
   ·rintro k13 x16 l12 q14 h20 h21 H hq14
    replace H:z5o r10 k13 x16 l12=some q14:=H
    unfold z5o at H
    refine vt (zc hN Z (za (yg Z Z) (zh (zi _ Z (fun h => ?_) (fun h=>(lt_f h20 h).elim)))))
    refine zn (zz (ι:=(List Bs)) (fun i=>[(6,.row 4 i.length),(7,.dat (vlst (List.map ye r10))),(25,.dat (vlst (List.map ye r10))),(26,.dat (vint (r10.length:Int))),(27,.dat (vint (k13:Int)))]) (fun i=>[(4,.row 9 1 (List.map ye i))]) (fun i=>z0a i=some q14) (fun i=>Z) ?_ ?_)
    ·refine vt (yc (zc hN Z (qd Z (za (qx ww (fun _=>Z) Z Z h21) (za (wa tyS9 Z (qq h21) Z) (qe Z (qe Z (zz (ι:=(List Bs)) (fun i=>[(6,.row 3 i.length),(7,.dat (vlst (List.map ye r10))),(8,.dat (vint (k13:Int))),(25,.dat (vlst (List.map ye r10))),(26,.dat (vint (r10.length:Int))),(27,.dat (vint (k13:Int)))]) (fun i=>[(3,.row 9 1 (List.map ye i))]) (fun i=>z2j r10 k13 i=some q14) (fun i=>Z) ?_ ?_))))))))
     ·refine vt (zc hN Z (qd Z (yc (zc hN Z (za (qy Z Z) (qe Z (zi _ Z (fun h22 => ?_) (fun h22 => ?_))))))))
      ·refine tE h22 H fun H=>zn ?_
       show Cv _ _ _ _
       exact ja (rn [(1,3)]) [(6,.row 1 l12.length),(7,.dat (vlst (List.map ye r10))),(8,.dat (vint (k13:Int))),(25,.dat (vlst (List.map ye r10))),(26,.dat (vint (r10.length:Int))),(27,.dat (vint (k13:Int)))] [(1,.row 9 1 (List.map ye l12))] ⟨Z,Z,Z,Z,Z,Z,U⟩ ⟨Z,U⟩ Z Z ⟨l12,H,⟨Z,Z,Z,Z,Z,Z,U⟩,⟨Z,U⟩⟩
      ·refine fE h22 H fun H=>zc hN Z (za (qy Z Z) (qe Z (zi _ Z (fun h23 => ?_) (fun h23 => ?_))))
       ·refine tE h23 H fun H=>zq hN Z (za (ze (.row _ _) Z) (za (ze (.row _ _) Z) (zr (z7j wb Z Z) Z (za (yf _ Z Z (.inr (.inl ⟨Z,Z⟩))) (za (y5h Z Z) (gE H fun h24 H=>y04 (y0o (C:=ye) 2 ww Z Z Z h24) Z Z (za (vr (.row _ _) Z) (vi ?_))))))))
        show Cv _ _ _ _
        exact ja (rn [(2,3)]) [(6,.row 2 ((max (wr ((l12.length:Int) - 1)) 0).toNat)),(7,.dat (vlst (List.map ye r10))),(8,.dat (vint (k13:Int))),(25,.dat (vlst (List.map ye r10))),(26,.dat (vint (r10.length:Int))),(27,.dat (vint (k13:Int)))] [(2,.row 9 1 (List.map ye (l12.take (max (wr ((l12.length:Int) - 1)) 0).toNat)))] ⟨Z,Z,Z,Z,Z,Z,U⟩ ⟨Z,U⟩ Z Z ⟨(l12.take (max (wr ((l12.length:Int) - 1)) 0).toNat),H,⟨congrArg (Slot.row 3) ((z9p h24)).symm,Z,Z,Z,Z,Z,U⟩,⟨Z,U⟩⟩
       ·refine fE h23 H fun H=>zc hN Z (za (ze (.row _ _) Z) (qd Z (za (yo (u':=vlst (List.map ye [x16])) (wc [[_]] wt ⟨Z,.inl ⟨_,Z,Z,Z⟩,Z,U⟩ Z Z) Z) (gE H fun h25 H=>zo (xj wt (fun _=>Z) Z Z Z ⟨by simp,by first | (simp; done) | simpa using h25⟩ Z) Z ?_))))
        refine za (vr (.row _ _) Z) (qj ?_)
        show Cv _ _ _ _
        refine qv ?_
        show Cv _ _ _ _
        exact ja (rn [(1,4)]) [(6,.row 1 ((l12++[x16]).length)),(7,.dat (vlst (List.map ye r10))),(25,.dat (vlst (List.map ye r10))),(26,.dat (vint (r10.length:Int))),(27,.dat (vint (k13:Int)))] [(1,.row 9 1 (List.map ye (l12++[x16])))] ⟨Z,Z,Z,Z,Z,U⟩ ⟨Z,U⟩ Z Z ⟨(l12++[x16]),H,⟨Z,Z,Z,Z,Z,U⟩,⟨Z,U⟩⟩
     ·rintro out26 H
      replace H:z2j r10 k13 out26=some q14:=H
      unfold z2j at H
      refine zc hN Z (qd Z (qd Z (za (yw wb Z) (za (yf _ Z Z (.inr (.inl ⟨Z,Z⟩))) (za (yp Z Z) (zi _ Z (fun h27 => ?_) (fun h27 => ?_)))))))
      ·refine tE h27 H fun H=>zq hN Z (za (ze (.row _ _) Z) (za (yo (u':=vlst (List.map ye [[]])) (wc [[_]] wt ⟨Z,.inl ⟨_,Z,Z,Z⟩,Z,U⟩ Z Z) Z) (gE H fun h28 H=>zo (xj wt (fun _=>Z) Z Z Z ⟨by simp,by first | (simp; done) | simpa using h28⟩ Z) Z ?_)))
       refine za (vr (.row _ _) Z) (vi ?_)
       show Cv _ _ _ _
       exact ja (rn [(3,4)]) [(6,.row 3 ((out26++([[]])).length)),(7,.dat (vlst (List.map ye r10))),(25,.dat (vlst (List.map ye r10))),(26,.dat (vint (r10.length:Int))),(27,.dat (vint (k13:Int)))] [(3,.row 9 1 (List.map ye (out26++([[]]))))] ⟨Z,Z,Z,Z,Z,U⟩ ⟨Z,U⟩ Z Z ⟨(out26++([[]])),H,⟨Z,Z,Z,Z,Z,U⟩,⟨Z,U⟩⟩
      ·refine fE h27 H fun H=>zn ?_
       show Cv _ _ _ _
       exact ja (rn [(3,4)]) [(6,.row 3 out26.length),(7,.dat (vlst (List.map ye r10))),(25,.dat (vlst (List.map ye r10))),(26,.dat (vint (r10.length:Int))),(27,.dat (vint (k13:Int)))] [(3,.row 9 1 (List.map ye out26))] ⟨Z,Z,Z,Z,Z,U⟩ ⟨Z,U⟩ Z Z ⟨out26,H,⟨Z,Z,Z,Z,Z,U⟩,⟨Z,U⟩⟩
    ·rintro out29 H
     replace H:z0a out29=some q14:=H
     unfold z0a at H
     refine zq hN Z (za (wy Z Z (by omega)) (qd Z (vi ?_)))
     show Cv _ _ _ _
     exact ja (rn [(4,1)]) [(6,.row 4 out29.length),(7,.dat (vlst (List.map ye r10))),(25,.dat (vlst (List.map ye r10))),(26,.dat (vint (r10.length:Int))),(27,.dat (vint ((k13:Int)+1)))] [(4,.row 9 1 (List.map ye out29))] ⟨Z,Z,Z,Z,Z,U⟩ ⟨Z,U⟩ Z Z ⟨_,qr H,⟨Z,Z,Z,Z,Z,U⟩,⟨Z,U⟩⟩
theorem y94  (r:(Bool)) (H:z3u  = some r):Fn Tryz.prog 12 [] (zp [zf r]):=by
 refine ⟨by kernel_rfl,zy (us:=[zf r]) Tryz.func12 Z Z Z Z fun X hN => ?_⟩
 unfold z3u at H
 refine zc hN Z (qe Z (zc hN Z (bE H fun r1 h2 H=>za (zj (y84 [47,97,47,46,46,47,98] r1 h2) ⟨.inl Z,U⟩) (qd Z (za (zt Z Z) (za (zt Z Z) (qe Z (qe Z (zc hN Z (qd Z (za (yp Z Z) (qd Z (qg Z Z (fun hc=>ze (.dat _) Z) (qg Z Z (fun hc=>qy (cnd (c:=(decide (r1.2=0))) hc) Z) (za (wu Z (fun hb=>(cnd (c:=(decide (r1.2=0))) hb)) Z) (qe Z (zg ?_)))))))))))))))))
 cases H
 exact ⟨U,.inl Z,U⟩
theorem y95 (v1:(List Int)) (r:(Bool)) (H:z6c v1=some r):Fn Tryz.prog 3 [vlst (List.map jp v1)] (zp [zf r]):=by
 refine ⟨by kernel_rfl,zy (us:=[zf r]) Tryz.func3 Z Z Z Z fun X hN => ?_⟩
 unfold z6c at H
 refine zc hN Z (qe Z (zc hN Z (qd Z (za (yo (u':=vagg (qs (ya.mk v1 0))) (va [(0,[vlst (List.map jp v1)])] y4j y4m Z ⟨Z,.inl ⟨_,Z,Z,Z⟩,Z,U⟩) Z) (zo (vp 1 Z) Z (za (vr (.ptr _ _) Z) (zc hN Z (za (ze (.ptr _ _) Z) (bE H fun r2 h3 H=>zo (ql (y2y (ya.mk v1 0) true r2 h3) Z ⟨.inl Z,U⟩ Z) Z (za (ze (.ptr _ _) Z) (bE H fun r4 h5 H=>zo (ql (y2y r2.2 false r4 h5) Z ⟨.inl Z,U⟩ Z) Z (qe Z (qe Z (zz (ι:=Bs) (fun i=>[(4,.dat (vstr i)),(5,.dat (vstr r4.1))]) (fun i=>[]) (fun i=>Qz r4 i=some r) (fun i=>Z) ?_ ?_))))))))))))))
 ·skip
  refine zc hN Z (za (ze (.ptr _ _) Z) (bE H fun r6 h7 H=>zo (ql (z6l r4.2 60 r6 h7) Z ⟨.inl Z,U⟩ Z) Z (zi _ Z (fun h8 => ?_) (fun h8 => ?_))))
  ·exact tE h8 H fun H=>zq hN Z (gE H fun h9 H=>za (y4x (C:=yv) (0:Int) z4v tyZ5 Z Z Z Z h9 Z) (za (z7o (C:=yv) xf tyU5 tyU9 (fun _=>Z) Z) (qe Z ⟨(strN (List.replicate ((60001:Int).toNat) (0:Int))),H,⟨Z,Z,U⟩,U⟩)))
  ·exact fE h8 H fun H=>zn ⟨r2.1,H,⟨Z,Z,U⟩,U⟩
 ·rintro v10 H
  replace H:Qz r4 v10=some r:=H
  unfold Qz at H
  refine zc hN Z (qd Z (bE H fun r11 h12 H=>za (zj (y83 v10 r11 h12) ⟨.inl Z,U⟩) (qd Z (za (zt Z Z) (za (zt Z Z) (za (zt Z Z) (zo (qm 2 vf Z) Z (zo (yq yr Z Z Z Z) Z (qe Z (qe Z (zc hN Z (qd Z (bE H fun r13 h14 H=>za (zj (y9s v10 r13 h14) ⟨.inl Z,U⟩) (qd Z (za (zt Z Z) (za (zt Z Z) (za (zt Z Z) (zo (qm 3 vf Z) Z (zo (yq yr Z Z Z Z) Z (qe Z (qe Z ?_)))))))))))))))))))))
  refine zc hN Z (qd Z (bE H fun r15 h16 H=>za (zj (y82 r4.1 r15 h16) ⟨.inl Z,U⟩) (qd Z (za (zt Z Z) (za (zt Z Z) (za (zt Z Z) (zo (qm 4 vo Z) Z (zo (yq yx Z Z Z Z) Z (qe Z (qe Z (zc hN Z (qd Z (bE H fun r17 h18 H=>za (zj (y9p r4.1 r17 h18) ⟨.inl Z,U⟩) (qd Z (za (zt Z Z) (za (zt Z Z) (za (zt Z Z) (zo (qm 5 vo Z) Z (zo (yq yx Z Z Z Z) Z (qe Z (qe Z ?_)))))))))))))))))))))
  refine zz (ι:=Bool) (fun i=>[(2,.dat (zf i))]) (fun i=>[]) (fun i=>kx i=some r) (fun i=>Z) ?_ ?_
  ·skip
   refine zq hN Z (zr (qa yr Z Z Z) Z (zr (qa yr Z Z Z) Z (bE H fun r19 h20 H=>za (zj (y9o r11.1 r13.1 r19 h20) ⟨.inl Z,.inl Z,U⟩) (qd Z (zu (j:=3) Z Z (fun h21 => ?_) (fun h21 => ?_) Z)))))
   ·refine u1 h21 H fun h22 H=>zd Z Z h21 (ze (.dat _) Z) (zd Z Z h21 (ze (.dat _) Z) (zd Z Z h21 (yp Z Z) (za (zm Z (bTT h22) Z) (qd Z (zu (j:=8) Z Z (fun h23 => ?_) (fun h23 => ?_) Z)))))
    ·refine u1 h23 H fun h24 H=>zd Z Z h23 (ze (.dat _) Z) (zd Z Z h23 (ze (.dat _) Z) (zd Z Z h23 (yp Z Z) (za (zm Z (bTT h24) Z) (qd Z (zu (j:=13) Z Z (fun h25 => ?_) (fun h25 => ?_) Z)))))
     ·refine u1 h25 H fun h26 H=>wg Z Z h25 (qa yx Z Z Z) Z (wg Z Z h25 (qa yx Z Z Z) Z (bE H fun r27 h28 H=>zd Z Z h25 (zj (y9n r15.1 r17.1 r27 h28) ⟨.inl Z,.inl Z,U⟩) (za (zm Z (bTT h26) Z) (qd Z (zu (j:=18) Z Z (fun h29 => ?_) (fun h29 => ?_) Z)))))
      ·refine u1 h29 H fun h30 H=>zd Z Z h29 (ze (.dat _) Z) (zd Z Z h29 (ze (.dat _) Z) (zd Z Z h29 (yp Z Z) (za (zm Z (bTT h30) Z) (qd Z (zu (j:=23) Z Z (fun h31 => ?_) (fun h31 => ?_) Z)))))
       ·refine u1 h31 H fun h32 H=>zd Z Z h31 (ze (.dat _) Z) (zd Z Z h31 (ze (.dat _) Z) (zd Z Z h31 (yp Z Z) (za (zm Z (bTT h32) Z) (qd Z (zu (j:=28) Z Z (fun h33 => ?_) (fun h33 => ?_) Z)))))
        ·exact u1 h33 H fun h34 H=>bE H fun r35 h36 H=>zd Z Z h33 (zj (y94  r35 h36) U) (za (zm Z (bTT h34) Z) (qe Z ⟨r35,H,⟨Z,U⟩,U⟩))
        ·exact u2 h33 H fun h37 H=>zb Z Z h33 (za (zl Z (bFF h37) Z) (qe Z ⟨false,H,⟨Z,U⟩,U⟩))
       ·exact u2 h31 H fun h38 H=>zb Z Z h31 (zb Z Z h31 (zb Z Z h31 (za (zl Z (bFF h38) Z) (qd Z (zb Z Z Z (za (zl Z Z Z) (qe Z ⟨false,H,⟨Z,U⟩,U⟩)))))))
      ·exact u2 h29 H fun h39 H=>zb Z Z h29 (zb Z Z h29 (zb Z Z h29 (za (zl Z (bFF h39) Z) (qd Z (zb Z Z Z (zb Z Z Z (zb Z Z Z (za (zl Z Z Z) (qd Z (zb Z Z Z (za (zl Z Z Z) (qe Z ⟨false,H,⟨Z,U⟩,U⟩))))))))))))
     ·exact u2 h25 H fun h40 H=>zb Z Z h25 (zb Z Z h25 (zb Z Z h25 (za (zl Z (bFF h40) Z) (qd Z (zb Z Z Z (zb Z Z Z (zb Z Z Z (za (zl Z Z Z) (qd Z (zb Z Z Z (zb Z Z Z (zb Z Z Z (za (zl Z Z Z) (qd Z (zb Z Z Z (za (zl Z Z Z) (qe Z ⟨false,H,⟨Z,U⟩,U⟩)))))))))))))))))
    ·refine u2 h23 H fun h41 H=>zb Z Z h23 (zb Z Z h23 (zb Z Z h23 (za (zl Z (bFF h41) Z) (qd Z (zb Z Z Z (zb Z Z Z (zb Z Z Z (za (zl Z Z Z) (qd Z (zb Z Z Z (zb Z Z Z (zb Z Z Z (za (zl Z Z Z) (qd Z (zb Z Z Z (zb Z Z Z (zb Z Z Z (za (zl Z Z Z) (qd Z (zb Z Z Z (za (zl Z Z Z) (qe Z ?_))))))))))))))))))))))
     exact ⟨false,H,⟨Z,U⟩,U⟩
   ·refine u2 h21 H fun h42 H=>zb Z Z h21 (zb Z Z h21 (zb Z Z h21 (za (zl Z (bFF h42) Z) (qd Z (zb Z Z Z (zb Z Z Z (zb Z Z Z (za (zl Z Z Z) (qd Z (zb Z Z Z (zb Z Z Z (zb Z Z Z (za (zl Z Z Z) (qd Z (zb Z Z Z (zb Z Z Z (zb Z Z Z (za (zl Z Z Z) (qd Z (zb Z Z Z (zb Z Z Z (zb Z Z Z ?_))))))))))))))))))))))
    exact za (zl Z Z Z) (qd Z (zb Z Z Z (za (zl Z Z Z) (qe Z ⟨false,H,⟨Z,U⟩,U⟩))))
  ·rintro v43 H
   replace H:kx v43=some r:=H
   unfold kx at H
   refine zg ?_
   cases H
   exact ⟨U,.inl Z,U⟩
end Go.Proofs.YtbcmpepmafpibabGreatDoor
