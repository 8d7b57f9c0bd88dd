/- Walks along the models. Printed by a program. -/
import Derived.Test.YtahcnngcpjkpgabGreatDoorZww3
namespace Go.Proofs.YtahcnngcpjkpgabGreatDoor
open Go.RowKit
set_option linter.unusedVariables false
set_option maxRecDepth 100000
set_option maxHeartbeats 2000000
theorem w7o (s1:Bs) (most2:Int) (r:(Int×Bool)) (H:z2m s1 most2=some r):Fn Tryz.prog 201 [vstr s1,vint most2] (zr [vint r.1,zi r.2]):=by
 refine ⟨by kernel_rfl,yf (us:=[vint r.1,zi r.2]) Tryz.func201 Z Z Z Z fun X hN => ?_⟩
 unfold z2m at H
 refine zb hN Z (qe Z (qe Z (zb hN Z (qd Z (bE H fun r3 h4 H=>za (zo (w6k s1 [45] r3 h4) ⟨.inl Z,.inl Z,U⟩) (qe Z (zd (yg (ι:=Bool) (fun i=>[(0,.dat (vstr s1)),(6,.dat (vstr r3)),(28,.dat (zi i))]) (fun i=>[]) (fun i=>xd s1 r3 i=some r) (fun i=>Z) ?_ ?_))))))))
 ·skip
  refine zj hN Z (qd Z (za (vi Z Z) (qd Z (yn (j:=2) Z Z (fun h5 => ?_) (fun h5 => ?_) Z))))
  ·refine u3 h5 H fun h6 H=>zf Z Z h5 (ze (.dat _) Z) (zf Z Z h5 (qi tyU9 Z) (zf Z Z h5 (ze (.dat _) Z) (zf Z Z h5 (wb Z Z) (za (zv Z (bFF h6) Z) (qd Z (yn (j:=8) Z Z (fun h7 => ?_) (fun h7 => ?_) Z))))))
   ·refine u3 h7 H fun h8 H=>zf Z Z h7 (ze (.dat _) Z) (bE H fun x9 h10 H=>zf Z Z h7 (wv tyU9 Z Z h10) (zf Z Z h7 (yq Z Z) (zf Z Z h7 (ze (.dat _) Z) (yn (j:=12) Z Z (fun h11 => ?_) (fun h11 => ?_) Z))))
    ·exact u1 h11 H fun h12 H=>zf Z Z h11 (ze (.dat _) Z) (zf Z Z h11 (jo Z Z) (zf Z Z h7 (ya Z (bTT h12) Z) (za (zv Z (bFF h8) Z) ⟨decide (s1≠[48]),H,⟨Z,Z,Z,U⟩,U⟩)))
    ·exact u2 h11 H fun h13 H=>zc Z Z h11 (zc Z Z h11 (zf Z Z h7 (zv Z (bFF h13) Z) (za (zv Z (bFF h8) Z) ⟨false,H,⟨Z,Z,Z,U⟩,U⟩)))
   ·exact u4 h7 H fun h14 H=>zc Z Z h7 (zc Z Z h7 (zc Z Z h7 (zc Z Z h7 (yj Z Z (yj Z Z (zc Z Z h7 (za (ya Z (bTT h14) Z) ⟨true,H,⟨Z,Z,Z,U⟩,U⟩)))))))
  ·exact u4 h5 H fun h15 H=>zc Z Z h5 (zc Z Z h5 (zc Z Z h5 (zc Z Z h5 (za (ya Z (bTT h15) Z) (qd Z (zc Z Z Z (zc Z Z Z (zc Z Z Z (zc Z Z Z (yj Z Z (yj Z Z (zc Z Z Z (za (ya Z Z Z) ⟨true,H,⟨Z,Z,Z,U⟩,U⟩)))))))))))))
 ·rintro v16 H
  replace H:xd s1 r3 v16=some r:=H
  unfold xd at H
  refine zh _ Z (fun h17 => ?_) (fun h17 => ?_)
  ·refine tE h17 H fun H=>zb hN Z (qe Z (qe Z (zk ?_)))
   cases H
   exact ⟨U,.inl Z,.inl Z,U⟩
  ·refine fE h17 H fun H=>zn (zd (zb hN Z (qe Z (yc (gE H fun h20 H=>va (fun (i18:Nat) (s:Unit)=>[(0,.dat (vstr s1)),(6,.dat (vstr r3)),(7,.dat (vint (i18:Int)))]) (fun (i18:Nat) (s:Unit)=>[]) () H ⟨Z,Z,Z,U⟩ U (fun _ _=>Z) ?_ ?_)))))
   ·rintro ⟨⟩ H
    replace H:z58 s1=some r:=H
    unfold z58 at H
    refine zd (zb hN Z (qd Z (qd Z (za (qi tyU9 Z) (za (ye Z Z) (zh _ Z (fun h=>(lt_t h).elim) (fun h => ?_)))))))
    refine yz (zb hN Z (qd Z (bE H fun r22 h23 H=>za (zo (x5x s1 r22 h23) ⟨.inl Z,U⟩) (qd Z (za (zz Z Z) (za (zz Z Z) (qe Z (qe Z (zd (ww mixed hN Z Z (qd Z (qd Z (za (y6h (n:=r22.2) (show Tryz.prog.underlying 62=some (.interface (Tryz.prog.methodsAt 62)) from by kernel_rfl) Z) ?_)))))))))))))
    refine qe Z (qe Z ⟨Z,?_⟩)
    refine zk ?_
    cases H
    exact ⟨U,.inl Z,.inl Z,U⟩
   ·rintro i18 x21 ⟨⟩ q19 h24 h25 H hq19
    replace H:z9r i18 x21=some q19:=H
    unfold z9r at H
    refine zd (zb hN Z (qd Z (qd Z (za (qi tyU9 Z) (za (ye Z Z) (zh _ Z (fun h => ?_) (fun h=>(lt_f h24 h).elim)))))))
    refine zn (zd (yc (yg (ι:=Bool) (fun i=>[(0,.dat (vstr s1)),(6,.dat (vstr r3)),(7,.dat (vint (i18:Int))),(44,.dat (zi i))]) (fun i=>[]) (fun i=>z9s i=some q19) (fun i=>Z) ?_ ?_)))
    ·skip
     refine zj hN Z (qd Z (qd Z (za (wv tyU9 Z Z h25) (za (ye Z Z) (qd Z (yn (j:=4) Z Z (fun h26 => ?_) (fun h26 => ?_) Z))))))
     ·exact u3 h26 H fun h27 H=>zf Z Z h26 (ze (.dat _) Z) (zf Z Z h26 (ze (.dat _) Z) (zf Z Z h26 (wv tyU9 Z Z h25) (zf Z Z h26 (wb Z Z) (za (zv Z (bFF h27) Z) ⟨decide (57 < (x21.toNat:Int)),H,⟨Z,Z,Z,Z,U⟩,U⟩))))
     ·exact u4 h26 H fun h28 H=>zc Z Z h26 (zc Z Z h26 (zc Z Z h26 (zc Z Z h26 (za (ya Z (bTT h28) Z) ⟨true,H,⟨Z,Z,Z,Z,U⟩,U⟩))))
    ·rintro v29 H
     replace H:z9s v29=some q19:=H
     unfold z9s at H
     refine zh _ Z (fun h30 => ?_) (fun h30 => ?_)
     ·refine tE h30 H fun H=>zb hN Z (qe Z (qe Z (zk ?_)))
      replace H:=retl H hq19
      cases H
      exact ⟨U,.inl Z,.inl Z,U⟩
     ·exact fE h30 H fun H=>zn (zj hN Z (qd Z (za (qy Z Z (by omega)) (qe Z ⟨_,qm H,⟨Z,Z,Z,U⟩,U⟩))))
theorem y86 (s1:Bs) (r:(Int×Bool)) (H:z0r s1=some r):Fn Tryz.prog 148 [vstr s1] (zr [vint r.1,zi r.2]):=by
 refine ⟨by kernel_rfl,yf (us:=[vint r.1,zi r.2]) Tryz.func148 Z Z Z Z fun X hN => ?_⟩
 unfold z0r at H
 refine zb hN Z (qe Z (qe Z (zb hN Z (qd Z (bE H fun r2 h3 H=>za (zo (w7o s1 9 r2 h3) ⟨.inl Z,.inl Z,U⟩) (za (zz Z Z) (za (zz Z Z) (qe Z (qe Z (zk ?_))))))))))
 cases H
 exact ⟨U,.inl Z,.inl Z,U⟩
theorem w7a (l1:(List zg)) (s2:Bs) (r:(Bs×Int×Int)) (H:z0n l1 s2=some r):Fn Tryz.prog 79 [vlst (List.map zy l1),vstr s2] (zr [vstr r.1,vint r.2.1,vint r.2.2]):=by
 refine ⟨by kernel_rfl,yf (us:=[vstr r.1,vint r.2.1,vint r.2.2]) Tryz.func79 Z Z Z Z fun X hN => ?_⟩
 unfold z0n at H
 refine zb hN Z (qe Z (qe Z (qe Z (zd (zb hN Z (qd Z (bE H fun r3 h4 H=>za (zo (Zh l1 [116,114,97,110,115,102,101,114,45,101,110,99,111,100,105,110,103] r3 h4) ⟨.inl Z,.inl Z,U⟩) (za (qh wl Z) (za (yq Z Z) (zh _ Z (fun h5 => ?_) (fun h5 => ?_)))))))))))
 ·refine tE h5 H fun H=>zb hN Z (qd Z (bE H fun r6 h7 H=>za (zo (w7d s2 r6 h7) ⟨.inl Z,U⟩) (za (zz Z Z) (za (zz Z Z) (za (zz Z Z) (qe Z (qe Z (qe Z (zk ?_)))))))))
  cases H
  exact ⟨U,.inl Z,.inl Z,.inl Z,U⟩
 ·refine fE h5 H fun H=>zn (zb hN Z (qd Z (bE H fun r8 h9 H=>za (zo (Zh l1 [99,111,110,116,101,110,116,45,108,101,110,103,116,104] r8 h9) ⟨.inl Z,.inl Z,U⟩) (qe Z (zd (zb hN Z (qd Z (za (qh wl Z) (za (yq Z Z) (zh _ Z (fun h10 => ?_) (fun h10 => ?_)))))))))))
  ·refine tE h10 H fun H=>zb hN Z (qe Z (qe Z (qe Z (zk ?_))))
   cases H
   exact ⟨U,.inl Z,.inl Z,.inl Z,U⟩
  ·refine fE h10 H fun H=>zn (zb hN Z (qd Z (bE H fun x11 h12 H=>za (wj vp (fun _=>Z) Z Z h12) (za (wh tyS9 Z (qp h12) Z) (bE H fun r13 h14 H=>za (zo (y86 x11 r13 h14) ⟨.inl Z,U⟩) (qd Z (za (zz Z Z) (za (zz Z Z) (qe Z (qe Z (zd (zb hN Z (qd Z (za (yt Z) (qd Z (yp Z Z (fun hc=>ze (.dat _) Z) (yp Z Z (fun hc=>wb (cnd (c:=(!(!r13.2))) hc) Z) (za (wy Z Z (fun hb=>(cnd (c:=(!(!r13.2))) (notI hb)))) (zh _ Z (fun h15 => ?_) (fun h15 => ?_))))))))))))))))))))
   ·refine tE h15 H fun H=>zb hN Z (qe Z (qe Z (qe Z (zk ?_))))
    cases H
    exact ⟨U,.inl Z,.inl Z,.inl Z,U⟩
   ·refine fE h15 H fun H=>zn (zd (zb hN Z (qd Z (qd Z (za (qi tyU9 Z) (za (wb Z Z) (zh _ Z (fun h16 => ?_) (fun h16 => ?_))))))))
    ·refine tE h16 H fun H=>zb hN Z (qe Z (qe Z (qe Z (zk ?_))))
     cases H
     exact ⟨U,.inl Z,.inl Z,.inl Z,U⟩
    ·refine fE h16 H fun H=>zn (zb hN Z (qd Z (qd Z (bE H fun l17 h18 H=>za (vh tyU9 Z Z Z h18) (qd Z (qe Z (qe Z (qe Z (zk ?_)))))))))
     cases H
     exact ⟨U,.inl Z,.inl Z,.inl Z,U⟩
theorem y3n (l r:List zg) (H:jj l=some r):FnG Tryz.prog 81 [.dat (vlst (List.map zy l))] [] (.row 900 r.length) [(900,.row 54 2 (List.map zy r))]:=by
 obtain ⟨hl,rfl⟩:=x8n H
 refine vy (by kernel_rfl) Tryz.func81 Z Z Z Z fun X A hN => ?_
 refine x8z 0 Z (fun h0 => ?_) ?_
 ·obtain rfl:=List.map_eq_nil_iff.1 h0
  refine zb hN Z (qe Z (zd (zb hN Z (qd Z (za (x2n kz Z) (zh _ Z (fun h => ?_) (fun h=>by cases h)))))))
  exact zb hN Z (qe Z (ug 2 900 54 2 Z Z Z (zk ⟨U,[(2,.row 900 0)],⟨Z,U⟩,⟨Z,U⟩,Z,.inr (.inl ⟨2,Z,Z⟩)⟩)))
 ·refine zb hN Z (qe Z (zd (zb hN Z (qd Z (za (x2o kz Z) (zh _ Z (fun h=>by cases h) (fun h => ?_)))))))
  refine zn (zd (x8x 0 (u':=vlst (List.map zy l)) Z x04 (zj hN Z (zl (x2j 900 js) Z (qd Z (zl (y6c (C:=zy) (xs:=[]) js (fun _=>Z) Z Z Z (by simpa using hl) Z) Z ?_))))))
  exact za (qs (.row _ _) Z) (zk ⟨U,[(2,.row 900 l.length)],⟨Z,U⟩,⟨Z,U⟩,Z,.inr (.inl ⟨2,Z,Z⟩)⟩)
theorem x5z (l r:List zg) (H:jj l=some r):Fn Tryz.prog 81 [vlst (List.map zy l)] (zr [vlst (List.map zy r)]):=by
 have h:=y3n l r H
 rw [← List.length_map (f:=zy)] at h
 exact y93 h
theorem w6w (s1:(List zg)) (p1:zg→Option (Bool)) (fv1:Nat) (us1:List V) (hp1:∀ a0 r,p1 a0=some r→Fn Tryz.prog fv1 ([vagg (zy a0)]++us1) (zr [zi r])) (r:(Int)) (H:y71 s1 p1=some r):Fn Tryz.prog 149 [vlst (List.map zy s1),vfn fv1 us1] (zr [vint r]):=by
 refine ⟨by kernel_rfl,yf (us:=[vint r]) Tryz.func149 Z Z Z Z fun X hN => ?_⟩
 unfold y71 at H
 refine zb hN Z (qe Z (zd (zb hN Z (qd Z (za (qh kz Z) (qd Z (yc (gE H fun h4 H=>va (fun (k2:Nat) (s:Unit)=>[(0,.dat (vlst (List.map zy s1))),(1,.dat (vfn fv1 us1)),(7,.dat (vint (s1.length:Int))),(8,.dat (vint (k2:Int)))]) (fun (k2:Nat) (s:Unit)=>[]) () H ⟨Z,Z,Z,Z,U⟩ U (fun _ _=>Z) ?_ ?_))))))))
 ·rintro ⟨⟩ H
  replace H:y6y=some r:=H
  unfold y6y at H
  refine zb hN Z (za (ye Z Z) (zd (zh _ Z (fun h=>(lt_t h).elim) (fun h => ?_))))
  refine yz (zb hN Z (qe Z (zk ?_)))
  cases H
  exact ⟨U,.inl Z,U⟩
 ·rintro k2 x5 ⟨⟩ q3 h6 h7 H hq3
  replace H:y6x p1 k2 x5=some q3:=H
  unfold y6x at H
  refine zb hN Z (za (ye Z Z) (zd (zh _ Z (fun h => ?_) (fun h=>(lt_f h6 h).elim))))
  refine zn (zd (yc (zb hN Z (qd Z (qe Z (zb hN Z (qd Z (qd Z (qd Z (za (wj uy (fun _=>Z) Z Z h7) (za (xa vx Z (qp h7) Z) (bE H fun r8 h9 H=>za (z1q (hp1 x5 r8 h9) Z ⟨.inl Z,U⟩) (zh _ Z (fun h10 => ?_) (fun h10 => ?_))))))))))))))
  ·refine tE h10 H fun H=>zb hN Z (qd Z (qe Z (zk ?_)))
   replace H:=retl H hq3
   cases H
   exact ⟨U,.inl Z,U⟩
  ·exact fE h10 H fun H=>zn (zj hN Z (za (qy Z Z (by omega)) (qd Z ⟨_,qm H,⟨Z,Z,Z,Z,U⟩,U⟩)))
theorem x5m (s1:(List zg)) (p1:zg→Option (Bool)) (fv1:Nat) (us1:List V) (hp1:∀ a0 r,p1 a0=some r→Fn Tryz.prog fv1 ([vagg (zy a0)]++us1) (zr [zi r])) (r:((List zg))) (H:z5i s1 p1=some r):FnG Tryz.prog 80 [.row 0 s1.length,.dat (vfn fv1 us1)] [(0,.row 54 2 (List.map zy s1))] (.row 900 r.length) [(900,.row 54 2 (List.map zy r))]:=by
 refine vy (by kernel_rfl) Tryz.func80 Z Z Z Z fun X A hN => ?_
 unfold z5i at H
 refine zb hN Z (qe Z (zb hN Z (za (ze (.row _ _) Z) (qd Z (bE H fun r2 h3 H=>zm (x2t (id:=0) (es:=List.map zy s1) (w6w s1 p1 fv1 us1 hp1 r2 h3) ⟨.inr ⟨(congrArg (Slot.row 0) (by rw [List.length_map]):Slot.row 0 s1.length=_),Z⟩,.inl (.inl (.inl Z)),U⟩ (fun _ _ _ _ h=>h)) Z ?_)))))
 refine qe Z (zd (zb hN Z (qd Z (za (yq Z Z) (zh _ Z (fun h4 => ?_) (fun h4 => ?_))))))
 ·refine tE h4 H fun H=>zb hN Z (za (ze (.row _ _) Z) (za (qs (.row _ _) Z) (y0y 4 0 900 Z Z (by rw [List.length_map]) Z ?_)))
  refine zk ?_
  cases H
  exact ⟨U,[(4,.row 900 _)],⟨Z,U⟩,⟨Z,U⟩,Z,.inr (.inl ⟨4,Z,Z⟩)⟩
 ·refine fE h4 H fun H=>zn (yg (ι:=Int×(List zg)) (fun i=>[(0,.row 0 i.2.length),(5,.dat (vint i.1))]) (fun i=>[(0,.row 54 2 (List.map zy i.2))]) (fun i=>y15 i.1 i.2=some r) (fun i=>Z) ?_ ?_)
  ·skip
   refine zb hN Z (qd Z (za (ym _ Z Z (.inl ⟨Z,Z⟩)) (qe Z (yc (xo (fun (s:Int×Int×(List zg))=>[(0,.row 0 s.2.2.length),(1,.dat (vfn fv1 us1)),(5,.dat (vint s.1)),(6,.dat (vint s.2.1))]) (fun (s:Int×Int×(List zg))=>[(0,.row 54 2 (List.map zy s.2.2))]) (r2,wr (r2+1),s1) H ⟨Z,Z,Z,Z,U⟩ ⟨Z,U⟩ (fun _=>Z) ?_)))))
   rintro ⟨i5,j6,l7⟩ q8 H hq8
   replace H:y63 p1 i5 j6 l7=some q8:=H
   unfold y63 at H
   refine zd (zb hN Z (qd Z (za (ze (.row _ _) Z) (zm (Wp kz Z Z) Z (za (ye Z Z) (zh _ Z (fun h9 => ?_) (fun h9 => ?_)))))))
   ·refine tE h9 H fun H=>zn (yg (ι:=Int×(List zg)) (fun i=>[(0,.row 0 i.2.length),(1,.dat (vfn fv1 us1)),(5,.dat (vint i.1)),(6,.dat (vint j6))]) (fun i=>[(0,.row 54 2 (List.map zy i.2))]) (fun i=>z8h j6 i.1 i.2=some q8) (fun i=>Z) ?_ ?_)
    ·skip
     refine yc (zb hN Z (za (ze (.row _ _) Z) (qd Z (bE H fun x10 h11 H=>zm (z1k uy Z Z Z h11) Z (zm (y6a vx Z Z (vt h11).2 Z) Z (zl (qt 1 ky Z) Z (zl (yx vx Z Z Z Z) Z (zb hN Z (qd Z (zm (yr vx Z Z Z) Z (bE H fun r12 h13 H=>za (z1q (hp1 x10 r12 h13) Z ⟨.inl Z,U⟩) (za (yt Z) (zh _ Z (fun h14 => ?_) (fun h14 => ?_))))))))))))))
     ·exact tE h14 H fun H=>zb hN Z (za (ze (.row _ _) Z) (qd Z (zm (yr vx Z Z Z) Z (bE H fun x15 h16 H=>zm (z1k uy Z Z Z h16) Z (zl (x2a (C:=zy) vx Z Z Z (y45 (vt h16).2) Z Z) Z (zj hN Z (qd Z (za (ym _ Z Z (.inl ⟨Z,Z⟩)) (qe Z ⟨(wr (i5+1),(l7.set i5.toNat x10)),H,⟨congrArg (Slot.row 0) (by simp),Z,Z,Z,U⟩,⟨Z,U⟩⟩)))))))))
     ·exact fE h14 H fun H=>zn ⟨(i5,l7),H,⟨Z,Z,Z,Z,U⟩,⟨Z,U⟩⟩
    ·rintro ⟨i17,s18⟩ H
     replace H:z8h j6 i17 s18=some q8:=H
     unfold z8h at H
     exact zj hN Z (qd Z (za (ym _ Z Z (.inl ⟨Z,Z⟩)) (qe Z ⟨_,qm H,⟨Z,Z,Z,Z,U⟩,⟨Z,U⟩⟩)))
   ·refine fE h9 H fun H=>yz ?_
    replace H:=outl H hq8
    exact ⟨(i5,l7),H,⟨Z,Z,U⟩,⟨Z,U⟩⟩
  ·rintro ⟨i19,s20⟩ H
   replace H:y15 i19 s20=some r:=H
   unfold y15 at H
   refine zb hN Z (za (ze (.row _ _) Z) (qd Z (gE H fun h21 H=>zm (x2b (C:=zy) uy Z Z Z h21) Z (zl (x2c (C:=zy) (zg.mk [] []) kz ky Z Z Z Z Z h21) Z (zb hN Z (za (ze (.row _ _) Z) (qd Z (gE H fun h22 H=>y64 (y6b (C:=zy) 2 uy Z (x8m (zg.mk [] []) h21) Z h22) Z Z (za (qs (.row _ _) Z) (y0y 4 2 900 Z Z (by rw [List.length_map]; exact (y0u h22)) Z ?_))))))))))
   refine zk ?_
   cases H
   exact ⟨U,[(4,.row 900 _)],⟨Z,U⟩,⟨Z,U⟩,Z,.inr (.inl ⟨4,Z,congrArg (Slot.row 900) (by first | exact y0u (by assumption) | (simp <;> omega))⟩)⟩
theorem x6r (h1:jc) (s2:Bs) (hosts3:Int) (r:((List zg)×Bs×Int×Int)) (H:z2x h1 s2 hosts3=some r):Fn Tryz.prog 31 [vagg (z7h h1),vstr s2,vint hosts3] (zr [vlst (List.map zy r.1),vstr r.2.1,vint r.2.2.1,vint r.2.2.2]):=by
 refine ⟨by kernel_rfl,yf (us:=[vlst (List.map zy r.1),vstr r.2.1,vint r.2.2.1,vint r.2.2.2]) Tryz.func31 Z Z Z Z fun X hN => ?_⟩
 unfold z2x at H
 refine zb hN Z (zl (we 1 Z) Z (qe Z (qe Z (qe Z (qe Z (zd (zb hN Z (za (zq Wl Z) (zm (zt qu Z Z) Z (qd Z (bE H fun r4 h5 H=>za (zo (w67 h1.headers_ hosts3 r4 h5) ⟨.inl Z,.inl Z,U⟩) (qe Z (zb hN Z (qd Z (za (yy Z Z) (zh _ Z (fun h6 => ?_) (fun h6 => ?_)))))))))))))))))
 ·refine tE h6 H fun H=>zb hN Z (qd Z (qe Z (qe Z (qe Z (qe Z (zk ?_))))))
  cases H
  exact ⟨U,.inr ⟨Z,Z⟩,.inl Z,.inl Z,.inl Z,U⟩
 ·refine fE h6 H fun H=>zn (zd (ww mixed hN Z Z (za (zq Wl Z) (zm (zt qu Z Z) Z (qd Z (za (zq z7t Z) (zm (zt tyS3 Z Z) Z (bE H fun l7 h8 H=>za (vh tyU9 Z Z Z h8) (bE H fun r9 h10 H=>za (zo (w7a h1.headers_ l7 r9 h10) ⟨.inl Z,.inl Z,U⟩) (qd Z (za (zz Z Z) (za (zz Z Z) (za (zz Z Z) (qe Z (qe Z (qe Z ⟨Z,?_⟩))))))))))))))))
  refine zd (zb hN Z (qd Z (za (yy Z Z) (zh _ Z (fun h11 => ?_) (fun h11 => ?_)))))
  ·refine tE h11 H fun H=>zb hN Z (qd Z (qe Z (qe Z (qe Z (qe Z (zk ?_))))))
   cases H
   exact ⟨U,.inr ⟨Z,Z⟩,.inl Z,.inl Z,.inl Z,U⟩
  ·refine fE h11 H fun H=>zn (zd (ww mixed hN Z Z (za (zq Wl Z) (zm (zt qu Z Z) Z (bE H fun r12 h13 H=>qk (rn [(900,2)]) [] [(900,_)] (y3n h1.headers_ r12 h13) ⟨Z,U⟩ ⟨.inl (.inl Z),U⟩ U Z (bE H fun r14 h15 H=>qk (rn [(0,2),(900,3)]) [(0,_,_,none)] [(900,_)] (x5m r12 (fun (a0:zg)=>z0l a0) 65 [] (fun a0 r h=>x6a a0 r h) r14 h15) ⟨Z,Z,U⟩ ⟨.inl (.inl Z),.inr ⟨_,Z,Z⟩,U⟩ ⟨⟨⟨Z,Z,Z⟩,U⟩,U⟩ Z (qd Z (za (zq z7t Z) (zm (zt tyS3 Z Z) Z (qd Z (za (ym _ Z Z (.inl ⟨Z,Z⟩)) (za (qs (.row _ _) Z) (qe Z (qe Z (qe Z ⟨Z,?_⟩)))))))))))))))
   refine zk ?_
   cases H
   exact ⟨U,z4b Z Z,.inl Z,.inl Z,.inl Z,U⟩
theorem w7e (v1:Bs) (r:(yb×Int×Int)) (H:z2j v1=some r):Fn Tryz.prog 6 [vstr v1] (zr [vagg (qf r.1),vint r.2.1,vint r.2.2]):=by
 refine ⟨by kernel_rfl,yf (us:=[vagg (qf r.1),vint r.2.1,vint r.2.2]) Tryz.func6 Z Z Z Z fun X hN => ?_⟩
 unfold z2j at H
 refine zb hN Z (zl (qt 1 vu Z) Z (qe Z (qe Z (zd (zb hN Z (qd Z (za (qi tyU9 Z) (za (wb Z Z) (zh _ Z (fun h2 => ?_) (fun h2 => ?_))))))))))
 ·refine tE h2 H fun H=>zb hN Z (za (jh (u':=vagg (qf (yb.mk 0 [] []))) (je (by exact ⟨yl,ja,yl,U⟩)) (qw [] vu uc Z U)) ?_)
  refine zl (yx qg Z Z Z Z) Z (qe Z (qe Z (zk ?_)))
  cases H
  exact ⟨U,.inl ⟨_,_,_,qf (yb.mk 0 [] []),Z,Z,Z,Z,qg⟩,.inl Z,.inl Z,U⟩
 ·refine fE h2 H fun H=>zn (zb hN Z (qd Z (bE H fun r3 h4 H=>za (zo (x52 v1 r3 h4) ⟨.inl Z,U⟩) (qd Z (za (zz Z Z) (za (zz Z Z) (zl (qt 2 y09 Z) Z (zl (yx xf Z Z Z Z) Z (qe Z (zb hN Z (za (zq y5v Z) (zm (zt tyS9 Z Z) Z (bE H fun r5 h6 H=>za (zo (w61 r3.1.first_ r5 h6) ⟨.inl Z,U⟩) (qd Z (za (zz Z Z) (za (zz Z Z) (qe Z (qe Z (zd (zb hN Z ?_))))))))))))))))))))
  refine qd Z (za (yt Z) (qd Z (yp Z Z (fun hc=>ze (.dat _) Z) (yp Z Z (fun hc=>yt (cnd (c:=(!(!r3.2))) hc)) (za (wy Z Z (fun hb=>(cnd (c:=(!(!r3.2))) (notI hb)))) (zh _ Z (fun h7 => ?_) (fun h7 => ?_)))))))
  ·refine tE h7 H fun H=>zb hN Z (za (jh (u':=vagg (qf (yb.mk 0 [] []))) (je (by exact ⟨yl,ja,yl,U⟩)) (qw [] vu uc Z U)) ?_)
   refine zl (yx qg Z Z Z Z) Z (qe Z (qe Z (zk ?_)))
   cases H
   exact ⟨U,.inl ⟨_,_,_,qf (yb.mk 0 [] []),Z,Z,Z,Z,qg⟩,.inl Z,.inl Z,U⟩
  ·refine fE h7 H fun H=>zn (zd (zb hN Z (za (zq Wl Z) (zm (zt qu Z Z) Z (za (qh kz Z) (za (wb Z Z) (zh _ Z (fun h8 => ?_) (fun h8 => ?_))))))))
   ·refine tE h8 H fun H=>zb hN Z (za (jh (u':=vagg (qf (yb.mk 0 [] []))) (je (by exact ⟨yl,ja,yl,U⟩)) (qw [] vu uc Z U)) ?_)
    refine zl (yx qg Z Z Z Z) Z (qe Z (qe Z (zk ?_)))
    cases H
    exact ⟨U,.inl ⟨_,_,_,qf (yb.mk 0 [] []),Z,Z,Z,Z,qg⟩,.inl Z,.inl Z,U⟩
   ·refine fE h8 H fun H=>zn (zb hN Z (zm (yr xf Z Z Z) Z (qd Z (bE H fun r9 h10 H=>za (zo (x6r r3.1 v1 0 r9 h10) ⟨.inl Z,.inl Z,.inl Z,U⟩) (qd Z (za (zz Z Z) (za (zz Z Z) (za (zz Z Z) (za (zz Z Z) (qe Z (qe Z (qe Z (qe Z (zd (zb hN Z (qd Z (za (yy Z Z) (zh _ Z (fun h11 => ?_) (fun h11 => ?_)))))))))))))))))))
    ·refine tE h11 H fun H=>zb hN Z (za (jh (u':=vagg (qf (yb.mk 0 [] []))) (je (by exact ⟨yl,ja,yl,U⟩)) (qw [] vu uc Z U)) ?_)
     refine qd Z (zl (yx qg Z Z Z Z) Z (qe Z (qe Z (zk ?_))))
     cases H
     exact ⟨U,.inl ⟨_,_,_,qf (yb.mk 0 [] []),Z,Z,Z,Z,qg⟩,.inl Z,.inl Z,U⟩
    ·refine fE h11 H fun H=>zn (zb hN Z (qd Z (qd Z (qd Z (za (yd (u':=vagg (qf (yb.mk r5.1 r9.1 r9.2.1))) (qw [(0,[vint r5.1]),(1,[vlst (List.map zy r9.1)]),(2,[vstr r9.2.1])] vu uc Z ⟨Z,.inl ⟨_,Z,Z,Z⟩,Z,Z,.inl ⟨_,Z,Z,Z⟩,Z,Z,.inl ⟨_,Z,Z,Z⟩,Z,U⟩) Z) (zl (qt 3 vu Z) Z (zl (yx qg Z Z Z Z) Z (zd (zb hN Z (zm (yr qg Z Z Z) Z (bE H fun r12 h13 H=>za (zo (y3w (yb.mk r5.1 r9.1 r9.2.1) r12 h13) ⟨.inl Z,U⟩) (qe Z (zb hN Z (qd Z (za (yy Z Z) (zh _ Z (fun h14 => ?_) (fun h14 => ?_)))))))))))))))))
     ·refine tE h14 H fun H=>zb hN Z (za (jh (u':=vagg (qf (yb.mk 0 [] []))) (je (by exact ⟨yl,ja,yl,U⟩)) (qw [] vu uc Z U)) ?_)
      refine qd Z (zl (yx qg Z Z Z Z) Z (qe Z (qe Z (zk ?_))))
      cases H
      exact ⟨U,.inl ⟨_,_,_,qf (yb.mk 0 [] []),Z,Z,Z,Z,qg⟩,.inl Z,.inl Z,U⟩
     ·refine fE h14 H fun H=>zn (zb hN Z (zm (yr qg Z Z Z) Z (qd Z (zl (yx qg Z Z Z Z) Z (qe Z (qe Z (zk ?_)))))))
      cases H
      exact ⟨U,.inl ⟨_,_,_,qf (yb.mk r5.1 r9.1 r9.2.1),Z,Z,Z,Z,qg⟩,.inl Z,.inl Z,U⟩
theorem x6h (n1:Int) (r:(Bool)) (H:z5s n1=some r):Fn Tryz.prog 90 [vint n1] (zr [zi r]):=by
 refine ⟨by kernel_rfl,yf (us:=[zi r]) Tryz.func90 Z Z Z Z fun X hN => ?_⟩
 unfold z5s at H
 refine zb hN Z (qe Z (zb hN Z (qd Z (za (vk Z Z) (qd Z (ql Z Z (fun hc=>ze (.dat _) Z) (ql Z Z (fun hc=>ye (cnd (c:=(decide (0≤n1))) hc) Z) (za (wz Z (fun hb=>(cnd (c:=(decide (0≤n1))) hb)) Z) (qe Z (zk ?_))))))))))
 cases H
 exact ⟨U,.inl Z,U⟩
theorem w5q (s sep:Bs) (r:List Bs) (H:vz s sep=some r):FnG Tryz.prog 85 [.dat (vstr s),.dat (vstr sep)] [] (.row 900 r.length) [(900,.row 9 1 (List.map zx r))]:=by
 obtain ⟨h1,h2,rfl⟩:=w2v H
 have hlen:=Lib.splitB_all ⟨sep.toArray⟩ (by simpa [ByteArray.size] using h2) 0 _ ⟨s.toArray⟩ Z
 have hle:=Lib.countB_le ⟨sep.toArray⟩ (by simpa [ByteArray.size] using h2) _ ⟨s.toArray⟩ (Nat.le_refl _)
 refine w9w (args:=[vstr s,vstr sep]) (Yg s sep) (by kernel_rfl) (fun M w vs hM hvs => ?_) ?_
 ·have hv:=ui (us:=[.string ⟨s.toArray⟩,.string ⟨sep.toArray⟩]) hvs
  subst hv
  obtain ⟨m,hm⟩:=y7r hM
  refine (Tryz.strings_Split ⟨s.toArray⟩ ⟨sep.toArray⟩ m w (by simp [ByteArray.size]; omega) hm (by simpa [ByteArray.size] using h2)).mono ?_
  rintro e w' ⟨rfl,rfl⟩
  have e1:(Yg s sep).length=Lib.countB ⟨s.toArray⟩ ⟨sep.toArray⟩+1:=by unfold Yg; rw [List.length_map,hlen]
  have e2:((Yg s sep).map fun s=>Value.string ⟨s.toArray⟩)=(Lib.splitB ⟨sep.toArray⟩ 0 (Lib.countB ⟨s.toArray⟩ ⟨sep.toArray⟩) ⟨s.toArray⟩).map Value.string:=by
   unfold Yg
   rw [List.map_map]
   exact List.map_congr_left fun b _=>by simp
  rw [e1,e2]
  exact ⟨Z,Z⟩
 ·unfold Yg maxLen
  rw [List.length_map,hlen]
  have hsz:(ByteArray.mk s.toArray).size=s.length:=by simp [ByteArray.size]
  rw [hsz] at hle
  omega
theorem z6b (s sep:Bs) (r:List Bs) (H:vz s sep=some r):Fn Tryz.prog 85 [vstr s,vstr sep] (zr [vlst (List.map zx r)]):=by
 have h:=w5q s sep r H
 rw [← List.length_map (f:=zx)] at h
 exact y93 h
theorem w66 (s1:Bs) (r:(Bool)) (H:y72 s1=some r):Fn Tryz.prog 157 [vstr s1] (zr [zi r]):=by
 refine ⟨by kernel_rfl,yf (us:=[zi r]) Tryz.func157 Z Z Z Z fun X hN => ?_⟩
 unfold y72 at H
 refine zb hN Z (qe Z (zd (zb hN Z (qd Z (za (qi tyU9 Z) (qd Z (yc (gE H fun h4 H=>va (fun (k2:Nat) (s:Unit)=>[(0,.dat (vstr s1)),(5,.dat (vint (s1.length:Int))),(6,.dat (vint (k2:Int)))]) (fun (k2:Nat) (s:Unit)=>[]) () H ⟨Z,Z,Z,U⟩ U (fun _ _=>Z) ?_ ?_))))))))
 ·rintro ⟨⟩ H
  replace H:y7o s1=some r:=H
  unfold y7o at H
  refine zb hN Z (za (ye Z Z) (zd (zh _ Z (fun h=>(lt_t h).elim) (fun h => ?_))))
  refine yz (yg (ι:=Bool) (fun i=>[(2,.dat (zi i))]) (fun i=>[]) (fun i=>z10 i=some r) (fun i=>Z) ?_ ?_)
  ·skip
   refine zj hN Z (qd Z (za (jo Z Z) (qd Z (yn (j:=2) Z Z (fun h6 => ?_) (fun h6 => ?_) Z))))
   ·refine u1 h6 H fun h7 H=>zf Z Z h6 (ze (.dat _) Z) (zf Z Z h6 (qi tyU9 Z) (zf Z Z h6 (vm Z Z) (za (ya Z (bTT h7) Z) (qd Z (yn (j:=7) Z Z (fun h8 => ?_) (fun h8 => ?_) Z)))))
    ·refine u1 h8 H fun h9 H=>zf Z Z h8 (ze (.dat _) Z) (bE H fun x10 h11 H=>zf Z Z h8 (wv tyU9 Z Z h11) (zf Z Z h8 (yy Z Z) (za (ya Z (bTT h9) Z) (qd Z (yn (j:=12) Z Z (fun h12 => ?_) (fun h12 => ?_) Z)))))
     ·exact u1 h12 H fun h13 H=>zf Z Z h12 (ze (.dat _) Z) (zf Z Z h12 (ze (.dat _) Z) (zf Z Z h12 (qi tyU9 Z) (zf Z Z h12 (ym _ Z Z (.inr (.inl ⟨Z,Z⟩))) (bE H fun x14 h15 H=>zf Z Z h12 (kr tyU9 Z Z h15) (zf Z Z h12 (yy Z Z) (za (ya Z (bTT h13) Z) (qe Z ⟨decide ((x14.toNat:Int)≠45),H,⟨Z,U⟩,U⟩)))))))
     ·exact u2 h12 H fun h16 H=>zc Z Z h12 (zc Z Z h12 (zc Z Z h12 (zc Z Z h12 (zc Z Z h12 (zc Z Z h12 (za (zv Z (bFF h16) Z) (qe Z ⟨false,H,⟨Z,U⟩,U⟩)))))))
    ·exact u2 h8 H fun h17 H=>zc Z Z h8 (zc Z Z h8 (zc Z Z h8 (za (zv Z (bFF h17) Z) (qd Z (zc Z Z Z (zc Z Z Z (zc Z Z Z (zc Z Z Z (zc Z Z Z (zc Z Z Z (za (zv Z Z Z) (qe Z ⟨false,H,⟨Z,U⟩,U⟩))))))))))))
   ·exact u2 h6 H fun h18 H=>zc Z Z h6 (zc Z Z h6 (zc Z Z h6 (za (zv Z (bFF h18) Z) (qd Z (zc Z Z Z (zc Z Z Z (zc Z Z Z (za (zv Z Z Z) (qd Z (zc Z Z Z (zc Z Z Z (zc Z Z Z (zc Z Z Z (zc Z Z Z (zc Z Z Z (za (zv Z Z Z) (qe Z ⟨false,H,⟨Z,U⟩,U⟩)))))))))))))))))
  ·rintro v19 H
   replace H:z10 v19=some r:=H
   unfold z10 at H
   refine zk ?_
   cases H
   exact ⟨U,.inl Z,U⟩
 ·rintro k2 x5 ⟨⟩ q3 h20 h21 H hq3
  replace H:y7n k2 x5=some q3:=H
  unfold y7n at H
  refine zb hN Z (za (ye Z Z) (zd (zh _ Z (fun h => ?_) (fun h=>(lt_f h20 h).elim))))
  refine zn (zd (yc (zb hN Z (qd Z (qe Z (yg (ι:=Bool) (fun i=>[(0,.dat (vstr s1)),(5,.dat (vint (s1.length:Int))),(6,.dat (vint (k2:Int))),(26,.dat (zi i))]) (fun i=>[]) (fun i=>z4w i=some q3) (fun i=>Z) ?_ ?_))))))
  ·skip
   refine zj hN Z (qd Z (qd Z (za (wv tyU9 Z Z h21) (bE H fun r22 h23 H=>za (zo (y83 (x5.toNat:Int) r22 h23) ⟨.inl Z,U⟩) (za (yt Z) (qd Z (yn (j:=5) Z Z (fun h24 => ?_) (fun h24 => ?_) Z)))))))
   ·refine u1 h24 H fun h25 H=>zf Z Z h24 (ze (.dat _) Z) (zf Z Z h24 (ze (.dat _) Z) (zf Z Z h24 (wv tyU9 Z Z h21) (bE H fun r26 h27 H=>zf Z Z h24 (zo (y3v (x5.toNat:Int) r26 h27) ⟨.inl Z,U⟩) (zf Z Z h24 (yt Z) (za (ya Z (bTT h25) Z) (qd Z (yn (j:=12) Z Z (fun h28 => ?_) (fun h28 => ?_) Z)))))))
    ·exact u1 h28 H fun h29 H=>zf Z Z h28 (ze (.dat _) Z) (zf Z Z h28 (ze (.dat _) Z) (zf Z Z h28 (wv tyU9 Z Z h21) (zf Z Z h28 (yy Z Z) (za (ya Z (bTT h29) Z) ⟨decide ((x5.toNat:Int)≠45),H,⟨Z,Z,Z,Z,U⟩,U⟩))))
    ·exact u2 h28 H fun h30 H=>zc Z Z h28 (zc Z Z h28 (zc Z Z h28 (zc Z Z h28 (za (zv Z (bFF h30) Z) ⟨false,H,⟨Z,Z,Z,Z,U⟩,U⟩))))
   ·exact u2 h24 H fun h31 H=>zc Z Z h24 (zc Z Z h24 (zc Z Z h24 (zc Z Z h24 (zc Z Z h24 (za (zv Z (bFF h31) Z) (qd Z (zc Z Z Z (zc Z Z Z (zc Z Z Z (zc Z Z Z (za (zv Z Z Z) ⟨false,H,⟨Z,Z,Z,Z,U⟩,U⟩)))))))))))
  ·rintro v32 H
   replace H:z4w v32=some q3:=H
   unfold z4w at H
   refine zh _ Z (fun h33 => ?_) (fun h33 => ?_)
   ·refine tE h33 H fun H=>zb hN Z (qe Z (zk ?_))
    replace H:=retl H hq3
    cases H
    exact ⟨U,.inl Z,U⟩
   ·exact fE h33 H fun H=>zn (zj hN Z (za (qy Z Z (by omega)) (qd Z ⟨_,qm H,⟨Z,Z,Z,U⟩,U⟩)))
theorem x57 (s1:Bs) (r:(Bool)) (H:Zu s1=some r):Fn Tryz.prog 91 [vstr s1] (zr [zi r]):=by
 refine ⟨by kernel_rfl,yf (us:=[zi r]) Tryz.func91 Z Z Z Z fun X hN => ?_⟩
 unfold Zu at H
 refine zb hN Z (qe Z (zb hN Z (qd Z (bE H fun r2 h3 H=>za (zo (z0v s1 [58] r2 h3) ⟨.inl Z,.inl Z,U⟩) (qd Z (za (zz Z Z) (za (zz Z Z) (za (zz Z Z) (qe Z (qe Z (qe Z (zd (zb hN Z (qd Z (bE H fun r4 h5 H=>za (zo (z6b r2.1 [46] r4 h5) ⟨.inl Z,.inl Z,U⟩) (za (qh wl Z) (qd Z (yc (gE H fun h8 H=>va (fun (k6:Nat) (s:Unit)=>[(0,.dat (vstr s1)),(4,.dat (vstr r2.2.1)),(5,.dat (zi r2.2.2)),(17,.dat (vlst (List.map zx r4))),(18,.dat (vint (r4.length:Int))),(19,.dat (vint (k6:Int)))]) (fun (k6:Nat) (s:Unit)=>[]) () H ⟨Z,Z,Z,Z,Z,Z,U⟩ U (fun _ _=>Z) ?_ ?_)))))))))))))))))))
 ·rintro ⟨⟩ H
  replace H:y2t s1 r2=some r:=H
  unfold y2t at H
  refine zb hN Z (za (ye Z Z) (zd (zh _ Z (fun h=>(lt_t h).elim) (fun h => ?_))))
  refine yz (zb hN Z (qd Z (bE H fun r10 h11 H=>za (zo (y86 r2.2.1 r10 h11) ⟨.inl Z,U⟩) (qd Z (za (zz Z Z) (za (zz Z Z) (qe Z (qe Z (yg (ι:=Bool) (fun i=>[(2,.dat (zi i))]) (fun i=>[]) (fun i=>z11 i=some r) (fun i=>Z) ?_ ?_)))))))))
  ·skip
   refine zj hN Z (qd Z (za (qi tyU9 Z) (za (vm Z Z) (qd Z (yn (j:=3) Z Z (fun h12 => ?_) (fun h12 => ?_) Z)))))
   ·refine u1 h12 H fun h13 H=>zf Z Z h12 (ze (.dat _) Z) (zf Z Z h12 (yt Z) (zf Z Z h12 (ze (.dat _) Z) (yn (j:=6) Z Z (fun h14 => ?_) (fun h14 => ?_) Z)))
    ·refine u3 h14 H fun h15 H=>zf Z Z h14 (ze (.dat _) Z) (zf Z Z h14 (ze (.dat _) Z) (yn (j:=8) Z Z (fun h16 => ?_) (fun h16 => ?_) Z))
     ·exact u1 h16 H fun h17 H=>zf Z Z h16 (ze (.dat _) Z) (bE H fun r18 h19 H=>zf Z Z h16 (zo (z0w r10.1 1 65535 r18 h19) ⟨.inl Z,.inl Z,.inl Z,U⟩) (zf Z Z h16 (yt Z) (zf Z Z h14 (ya Z (bTT h17) Z) (zf Z Z h12 (zv Z (bFF h15) Z) (za (ya Z (bTT h13) Z) (qe Z ⟨!r18,H,⟨Z,U⟩,U⟩))))))
     ·exact u2 h16 H fun h20 H=>zc Z Z h16 (zc Z Z h16 (zc Z Z h16 (zf Z Z h14 (zv Z (bFF h20) Z) (zf Z Z h12 (zv Z (bFF h15) Z) (za (ya Z (bTT h13) Z) (qe Z ⟨false,H,⟨Z,U⟩,U⟩))))))
    ·exact u4 h14 H fun h21 H=>zc Z Z h14 (zc Z Z h14 (yj Z Z (yj Z Z (yj Z Z (zc Z Z h14 (zf Z Z h12 (ya Z (bTT h21) Z) (za (ya Z (bTT h13) Z) (qe Z ⟨true,H,⟨Z,U⟩,U⟩))))))))
   ·exact u2 h12 H fun h22 H=>zc Z Z h12 (zc Z Z h12 (zc Z Z h12 (yj Z Z (yj Z Z (yj Z Z (yj Z Z (yj Z Z (yj Z Z (zc Z Z h12 (za (zv Z (bFF h22) Z) (qe Z ⟨false,H,⟨Z,U⟩,U⟩)))))))))))
  ·rintro v23 H
   replace H:z11 v23=some r:=H
   unfold z11 at H
   refine zk ?_
   cases H
   exact ⟨U,.inl Z,U⟩
 ·rintro k6 x9 ⟨⟩ q7 h24 h25 H hq7
  replace H:y2s k6 x9=some q7:=H
  unfold y2s at H
  refine zb hN Z (za (ye Z Z) (zd (zh _ Z (fun h => ?_) (fun h=>(lt_f h24 h).elim))))
  refine zn (zd (yc (zb hN Z (za (wj vp (fun _=>Z) Z Z h25) (za (wh tyS9 Z (qp h25) Z) (qe Z (zb hN Z (qd Z (bE H fun r26 h27 H=>za (zo (w66 x9 r26 h27) ⟨.inl Z,U⟩) (za (yt Z) (zh _ Z (fun h28 => ?_) (fun h28 => ?_))))))))))))
  ·refine tE h28 H fun H=>zb hN Z (qe Z (zk ?_))
   replace H:=retl H hq7
   cases H
   exact ⟨U,.inl Z,U⟩
  ·exact fE h28 H fun H=>zn (zj hN Z (za (qy Z Z (by omega)) (qd Z ⟨_,qm H,⟨Z,Z,Z,Z,Z,Z,U⟩,U⟩)))
theorem w6m (s p:Bs) (r:Bool) (H:y7u s p=some r):Fn Tryz.prog 67 [vstr s,vstr p] (zr [zi r]):=by
 cases H
 refine y4r (by kernel_rfl) fun M w vs h => ?_
 have h1:=ui (us:=[.string ⟨s.toArray⟩,.string ⟨p.toArray⟩]) h
 subst h1
 refine (Tryz.strings_HasPrefix ⟨s.toArray⟩ ⟨p.toArray⟩ w).mono ?_
 rintro e w' ⟨rfl,rfl⟩
 exact ⟨_,Z,Z,Kp.refl _ _⟩
theorem w6p (s p:Bs) (r:Bool) (H:z5e s p=some r):Fn Tryz.prog 150 [vstr s,vstr p] (zr [zi r]):=by
 unfold z5e at H
 obtain ⟨⟨⟨h1,h2⟩,h3,h4⟩,h5⟩:=gif H
 cases h5
 refine Yb (by kernel_rfl) fun M w vs hM h => ?_
 have hv:=ui (us:=[.string ⟨s.toArray⟩,.string ⟨p.toArray⟩]) h
 subst hv
 refine (Tryz.strings_ContainsAny_laid ⟨s.toArray⟩ ⟨p.toArray⟩ w (by simp [ByteArray.size]; omega) (by simp [ByteArray.size]; omega) (fun j b hb=>z30 h3 j b (by simpa using hb)) (fun j b hb=>z30 h4 j b (by simpa using hb))).mono ?_
 rintro e w' ⟨rfl,hb⟩
 exact ⟨_,Z,Z,Kp.of_below hb⟩

theorem x6d (s1:Bs) (r:(Int)) (H:z2k s1=some r):Fn Tryz.prog 83 [vstr s1] (zr [vint r]):=by
 refine ⟨by kernel_rfl,yf (us:=[vint r]) Tryz.func83 Z Z Z Z fun X hN => ?_⟩
 unfold z2k at H
 refine zb hN Z (qe Z (zd (yg (ι:=Bool) (fun i=>[(19,.dat (zi i))]) (fun i=>[]) (fun i=>z0d i=some r) (fun i=>Z) ?_ ?_)))
 ·skip
  refine zj hN Z (qd Z (za (qi tyU9 Z) (za (wb Z Z) (qd Z (yn (j:=3) Z Z (fun h2 => ?_) (fun h2 => ?_) Z)))))
  ·refine u3 h2 H fun h3 H=>zf Z Z h2 (ze (.dat _) Z) (bE H fun r4 h5 H=>zf Z Z h2 (zo (w6m s1 [47] r4 h5) ⟨.inl Z,.inl Z,U⟩) (zf Z Z h2 (yt Z) (za (zv Z (bFF h3) Z) (qd Z (yn (j:=8) Z Z (fun h6 => ?_) (fun h6 => ?_) Z)))))
   ·refine u3 h6 H fun h7 H=>zf Z Z h6 (ze (.dat _) Z) (bE H fun r8 h9 H=>zf Z Z h6 (zo (y3t s1 33 126 r8 h9) ⟨.inl Z,.inl Z,.inl Z,U⟩) (zf Z Z h6 (yt Z) (za (zv Z (bFF h7) Z) (qd Z (yn (j:=13) Z Z (fun h10 => ?_) (fun h10 => ?_) Z)))))
    ·exact u3 h10 H fun h11 H=>zf Z Z h10 (ze (.dat _) Z) (bE H fun r12 h13 H=>zf Z Z h10 (zo (w6p s1 [63,35] r12 h13) ⟨.inl Z,.inl Z,U⟩) (za (zv Z (bFF h11) Z) ⟨r12,H,⟨Z,U⟩,U⟩))
    ·exact u4 h10 H fun h14 H=>zc Z Z h10 (zc Z Z h10 (za (ya Z (bTT h14) Z) ⟨true,H,⟨Z,U⟩,U⟩))
   ·exact u4 h6 H fun h15 H=>zc Z Z h6 (zc Z Z h6 (zc Z Z h6 (za (ya Z (bTT h15) Z) (qd Z (zc Z Z Z (zc Z Z Z (za (ya Z Z Z) ⟨true,H,⟨Z,U⟩,U⟩)))))))
  ·exact u4 h2 H fun h16 H=>zc Z Z h2 (zc Z Z h2 (zc Z Z h2 (za (ya Z (bTT h16) Z) (qd Z (zc Z Z Z (zc Z Z Z (zc Z Z Z (za (ya Z Z Z) (qd Z (zc Z Z Z (zc Z Z Z (za (ya Z Z Z) ⟨true,H,⟨Z,U⟩,U⟩))))))))))))
 ·rintro v17 H
  replace H:z0d v17=some r:=H
  unfold z0d at H
  refine zh _ Z (fun h18 => ?_) (fun h18 => ?_)
  ·refine tE h18 H fun H=>zb hN Z (qe Z (zk ?_))
   cases H
   exact ⟨U,.inl Z,U⟩
  ·refine fE h18 H fun H=>zn (zb hN Z (qe Z (zk ?_)))
   cases H
   exact ⟨U,.inl Z,U⟩
theorem w6q (s p:Bs) (r:Bool) (H:z0h s p=some r):Fn Tryz.prog 158 [vstr s,vstr p] (zr [zi r]):=by
 unfold z0h at H
 obtain ⟨h1,h2⟩:=gif H
 cases h2
 refine Yb (by kernel_rfl) fun M w vs hM h => ?_
 have hv:=ui (us:=[.string ⟨s.toArray⟩,.string ⟨p.toArray⟩]) h
 subst hv
 obtain ⟨m,hm⟩:=y7r hM
 refine (Tryz.strings_Contains ⟨s.toArray⟩ ⟨p.toArray⟩ m w (by simp [ByteArray.size]; omega) hm).mono ?_
 rintro e w' ⟨rfl,rfl⟩
 exact ⟨_,Z,Z,Kp.refl _ _⟩

theorem x54 (s1:Bs) (r:(Int)) (H:Zd s1=some r):Fn Tryz.prog 92 [vstr s1] (zr [vint r]):=by
 refine ⟨by kernel_rfl,yf (us:=[vint r]) Tryz.func92 Z Z Z Z fun X hN => ?_⟩
 unfold Zd at H
 refine zb hN Z (qe Z (zd (yg (ι:=Bool) (fun i=>[(14,.dat (zi i))]) (fun i=>[]) (fun i=>Zq i=some r) (fun i=>Z) ?_ ?_)))
 ·skip
  refine zj hN Z (qd Z (za (qi tyU9 Z) (za (wb Z Z) (qd Z (yn (j:=3) Z Z (fun h2 => ?_) (fun h2 => ?_) Z)))))
  ·refine u3 h2 H fun h3 H=>zf Z Z h2 (ze (.dat _) Z) (bE H fun r4 h5 H=>zf Z Z h2 (zo (y3t s1 33 126 r4 h5) ⟨.inl Z,.inl Z,.inl Z,U⟩) (zf Z Z h2 (yt Z) (za (zv Z (bFF h3) Z) (qd Z (yn (j:=8) Z Z (fun h6 => ?_) (fun h6 => ?_) Z)))))
   ·exact u3 h6 H fun h7 H=>zf Z Z h6 (ze (.dat _) Z) (bE H fun r8 h9 H=>zf Z Z h6 (zo (w6q s1 [35] r8 h9) ⟨.inl Z,.inl Z,U⟩) (za (zv Z (bFF h7) Z) ⟨r8,H,⟨Z,U⟩,U⟩))
   ·exact u4 h6 H fun h10 H=>zc Z Z h6 (zc Z Z h6 (za (ya Z (bTT h10) Z) ⟨true,H,⟨Z,U⟩,U⟩))
  ·exact u4 h2 H fun h11 H=>zc Z Z h2 (zc Z Z h2 (zc Z Z h2 (za (ya Z (bTT h11) Z) (qd Z (zc Z Z Z (zc Z Z Z (za (ya Z Z Z) ⟨true,H,⟨Z,U⟩,U⟩)))))))
 ·rintro v12 H
  replace H:Zq v12=some r:=H
  unfold Zq at H
  refine zh _ Z (fun h13 => ?_) (fun h13 => ?_)
  ·refine tE h13 H fun H=>zb hN Z (qe Z (zk ?_))
   cases H
   exact ⟨U,.inl Z,U⟩
  ·refine fE h13 H fun H=>zn (zb hN Z (qe Z (zk ?_)))
   cases H
   exact ⟨U,.inl Z,U⟩
theorem z9u (r1:zw) (r:(Int)) (H:jk r1=some r):Fn Tryz.prog 40 [vagg (qq r1)] (zr [vint r]):=by
 refine ⟨by kernel_rfl,yf (us:=[vint r]) Tryz.func40 Z Z Z Z fun X hN => ?_⟩
 unfold jk at H
 refine zb hN Z (zl (we 1 Z) Z (qe Z (zd (zb hN Z (za (zq z1h Z) (zm (zt tyS3 Z Z) Z (bE H fun r2 h3 H=>za (zo (x6h r1.At r2 h3) ⟨.inl Z,U⟩) (za (yt Z) (zh _ Z (fun h4 => ?_) (fun h4 => ?_))))))))))
 ·refine tE h4 H fun H=>zb hN Z (qe Z (zk ?_))
  cases H
  exact ⟨U,.inl Z,U⟩
 ·refine fE h4 H fun H=>zn (zd (zb hN Z (za (zq ul Z) (zm (zt tyS9 Z Z) Z (bE H fun r5 h6 H=>za (zo (z6c r1.Method r5 h6) ⟨.inl Z,U⟩) (za (yt Z) (zh _ Z (fun h7 => ?_) (fun h7 => ?_))))))))
  ·refine tE h7 H fun H=>zb hN Z (qe Z (zk ?_))
   cases H
   exact ⟨U,.inl Z,U⟩
  ·refine fE h7 H fun H=>zn (zd (yg (ι:=Bool) (fun i=>[(1,.ptr 1 0),(33,.dat (zi i))]) (fun i=>[(1,.box none 36 [.dat (vint r1.At),.dat (vstr r1.Method),.dat (vstr r1.Host),.dat (vstr r1.Path),.dat (vstr r1.Query),.dat (vstr r1.From),.dat (vlst (List.map zy r1.Headers)),.dat (vstr r1.Body)])]) (fun i=>xy r1 i=some r) (fun i=>Z) ?_ ?_))
   ·skip
    refine zj hN Z (za (zq z1g Z) (zm (zt tyS9 Z Z) Z (bE H fun r8 h9 H=>za (zo (x57 r1.Host r8 h9) ⟨.inl Z,U⟩) (za (yt Z) (qd Z (yn (j:=4) Z Z (fun h10 => ?_) (fun h10 => ?_) Z))))))
    ·refine u3 h10 H fun h11 H=>zf Z Z h10 (zq Yz Z) (vc Z Z h10 (zt tyS9 Z Z) Z (bE H fun r12 h13 H=>zf Z Z h10 (zo (x6d r1.Path r12 h13) ⟨.inl Z,U⟩) (zf Z Z h10 (yy Z Z) (za (zv Z (bFF h11) Z) (qd Z (yn (j:=10) Z Z (fun h14 => ?_) (fun h14 => ?_) Z))))))
     ·refine u3 h14 H fun h15 H=>zf Z Z h14 (zq Yd Z) (vc Z Z h14 (zt tyS9 Z Z) Z (bE H fun r16 h17 H=>zf Z Z h14 (zo (x54 r1.Query r16 h17) ⟨.inl Z,U⟩) (zf Z Z h14 (yy Z Z) (za (zv Z (bFF h15) Z) (qd Z (yn (j:=16) Z Z (fun h18 => ?_) (fun h18 => ?_) Z))))))
      ·exact u3 h18 H fun h19 H=>zf Z Z h18 (zq w0t Z) (vc Z Z h18 (zt tyS9 Z Z) Z (bE H fun r20 h21 H=>zf Z Z h18 (zo (y84 r1.From r20 h21) ⟨.inl Z,U⟩) (zf Z Z h18 (yt Z) (za (zv Z (bFF h19) Z) ⟨!r20,H,⟨Z,Z,U⟩,⟨Z,U⟩⟩))))
      ·exact u4 h18 H fun h22 H=>zc Z Z h18 (zc Z Z h18 (zc Z Z h18 (zc Z Z h18 (za (ya Z (bTT h22) Z) ⟨true,H,⟨Z,Z,U⟩,⟨Z,U⟩⟩))))
     ·exact u4 h14 H fun h23 H=>zc Z Z h14 (zc Z Z h14 (zc Z Z h14 (zc Z Z h14 (za (ya Z (bTT h23) Z) (qd Z (zc Z Z Z (zc Z Z Z (zc Z Z Z (zc Z Z Z (za (ya Z Z Z) ⟨true,H,⟨Z,Z,U⟩,⟨Z,U⟩⟩))))))))))
    ·exact u4 h10 H fun h24 H=>zc Z Z h10 (zc Z Z h10 (zc Z Z h10 (zc Z Z h10 (za (ya Z (bTT h24) Z) (qd Z (zc Z Z Z (zc Z Z Z (zc Z Z Z (zc Z Z Z (za (ya Z Z Z) (qd Z (zc Z Z Z (zc Z Z Z (zc Z Z Z (zc Z Z Z (za (ya Z Z Z) ⟨true,H,⟨Z,Z,U⟩,⟨Z,U⟩⟩))))))))))))))))
   ·rintro v25 H
    replace H:xy r1 v25=some r:=H
    unfold xy at H
    refine zh _ Z (fun h26 => ?_) (fun h26 => ?_)
    ·refine tE h26 H fun H=>zb hN Z (qe Z (zk ?_))
     cases H
     exact ⟨U,.inl Z,U⟩
    ·refine fE h26 H fun H=>zn (zd (zb hN Z (za (zq jt Z) (zm (zt qu Z Z) Z (bE H fun r27 h28 H=>za (zo (y85 r1.Headers r27 h28) ⟨.inl Z,U⟩) (qe Z (zb hN Z (qd Z (za (yy Z Z) (zh _ Z (fun h29 => ?_) (fun h29 => ?_)))))))))))
     ·refine tE h29 H fun H=>zb hN Z (qd Z (qe Z (zk ?_)))
      cases H
      exact ⟨U,.inl Z,U⟩
     ·refine fE h29 H fun H=>zn (zd (zb hN Z (za (zq y1h Z) (zm (zt tyS9 Z Z) Z (za (qi tyU9 Z) (za (wb Z Z) (zh _ Z (fun h30 => ?_) (fun h30 => ?_))))))))
      ·refine tE h30 H fun H=>zb hN Z (qe Z (zk ?_))
       cases H
       exact ⟨U,.inl Z,U⟩
      ·refine fE h30 H fun H=>zn (zb hN Z (qe Z (zk ?_)))
       cases H
       exact ⟨U,.inl Z,U⟩
theorem w60 (h1:zg) (c2:Bs) (r:(Bool)) (H:z2g h1 c2=some r):Fn Tryz.prog 119 [vagg (zy h1),kb [[vstr c2]] 0 0] (zr [zi r]):=by
 refine ⟨by kernel_rfl,yf (us:=[zi r]) Tryz.func119 Z Z Z Z fun X hN => ?_⟩
 unfold z2g at H
 refine zb hN Z (zl (we 1 Z) Z (qe Z (zb hN Z (zm (yr vx Z Z Z) Z (za (wh tyS9 Z Z Z) (bE H fun r3 h4 H=>za (zo (y3u h1 c2 r3 h4) ⟨.inl Z,.inl Z,U⟩) (qe Z (zk ?_))))))))
 cases H
 exact ⟨U,.inl Z,U⟩
theorem y82 (l1:(List zg)) (name2:Bs) (r:((List zg))) (H:z0j l1 name2=some r):Fn Tryz.prog 51 [vlst (List.map zy l1),vstr name2] (zr [vlst (List.map zy r)]):=by
 refine ⟨by kernel_rfl,yf (us:=[vlst (List.map zy r)]) Tryz.func51 Z Z Z Z fun X hN => ?_⟩
 unfold z0j at H
 refine zb hN Z (zl (w2l 1 Z Z) Z (qe Z (zd (y00 1 [vstr name2] Z Z (zj hN Z (qd Z (bE H fun r3 h4 H=>qk (rn [(900,2)]) [] [(900,_)] (y3n l1 r3 h4) ⟨Z,U⟩ ⟨.inl (.inl Z),U⟩ U Z (za (z8a (us:=[_]) ⟨Z,U⟩) (bE H fun r5 h6 H=>qk (rn [(0,2),(900,3)]) [(0,_,_,none)] [(900,_)] (x5m r3 (fun (a0:zg)=>z2g a0 name2) 119 [kb [[vstr name2]] 0 0] (fun a0 r h=>w60 a0 name2 r h) r5 h6) ⟨Z,Z,U⟩ ⟨.inl (.inl Z),.inl (.inl Z),U⟩ ⟨⟨⟨Z,Z,Z⟩,U⟩,U⟩ Z (za (qs (.row _ _) Z) (zk ?_)))))))))))
 cases H
 exact ⟨U,z4b Z Z,U⟩
theorem w7c (r1:zw) (r:(Bs×Int)) (H:z2i r1=some r):Fn Tryz.prog 11 [vagg (qq r1)] (zr [vstr r.1,vint r.2]):=by
 refine ⟨by kernel_rfl,yf (us:=[vstr r.1,vint r.2]) Tryz.func11 Z Z Z Z fun X hN => ?_⟩
 unfold z2i at H
 refine zb hN Z (zl (we 1 Z) Z (qe Z (qe Z (zd (zb hN Z (zm (yr qa Z Z Z) Z (bE H fun r2 h3 H=>za (zo (z9u r1 r2 h3) ⟨.inl Z,U⟩) (qe Z (zb hN Z (qd Z (za (yy Z Z) (zh _ Z (fun h4 => ?_) (fun h4 => ?_)))))))))))))
 ·refine tE h4 H fun H=>zb hN Z (qd Z (qe Z (qe Z (zk ?_))))
  cases H
  exact ⟨U,.inl Z,.inl Z,U⟩
 ·refine fE h4 H fun H=>zn (zb hN Z (zl (qt 2 z35 Z) Z (z7b 2 0 (.nptr 2) Z Z z4q (Yv 2 1 3 5 1 Z Z Z Z (zb hN Z (za (zq ul Z) (zm (zt tyS9 Z Z) Z (gE H fun h5 H=>za (vf Z Z (Nat.le_trans h5 (by decide))) (za (zq Yz Z) (zm (zt tyS9 Z Z) Z (gE H fun h6 H=>za (vf Z Z (Nat.le_trans h6 (by decide))) (bE H fun r7 h8 H=>qk (rn [(0,2),(1,3),(900,4)]) [(0,_,_,some _),(1,_,_,none)] [(900,_)] (Zx ([]:List Int) ((r1.Method++[32])++r1.Path) r7 h8) ⟨Z,Z,Z,U⟩ ⟨.inl (.inl Z),.inl (.inl Z),U⟩ ⟨⟨⟨Z,Z⟩,U⟩,⟨⟨Z,Z,Z⟩,U⟩,U⟩ Z (yg (ι:=(List Int)) (fun i=>[(1,.ptr 1 0),(5,.ptr 2 0)]) (fun i=>[(1,.box none 36 [.dat (vint r1.At),.dat (vstr r1.Method),.dat (vstr r1.Host),.dat (vstr r1.Path),.dat (vstr r1.Query),.dat (vstr r1.From),.dat (vlst (List.map zy r1.Headers)),.dat (vstr r1.Body)]),(2,.box none 60 [.nptr 2,.row 6 i.length]),(6,.row 5 1 (List.map yw i))]) (fun i=>Qh r1 i=some r) (fun i=>Z) ?_ ?_)))))))))))))
  ·refine wi (zb hN Z (za (zq Yd Z) (zm (zt tyS9 Z Z) Z (za (jo Z Z) (zh _ Z (fun h9 => ?_) (fun h9 => ?_))))))
   ·refine tE h9 H fun H=>zj hN Z (za (zq Yd Z) (zm (zt tyS9 Z Z) Z (gE H fun h10 H=>za (vf Z Z (Nat.le_trans h10 (by decide))) (bE H fun r11 h12 H=>qk (rn [(0,2),(1,4),(900,5)]) [(0,_,_,some _),(1,_,_,none)] [(900,_)] (Zx r7.2.2 ([63]++r1.Query) r11 h12) ⟨Z,Z,Z,U⟩ ⟨.inl (.inl Z),.inl (.inl Z),U⟩ ⟨⟨⟨Z,Z⟩,U⟩,⟨⟨Z,Z,Z⟩,U⟩,U⟩ Z (wm ?_)))))
    show Cv _ _ _ _
    exact wc (rn [(5,6)]) [(1,.ptr 1 0),(5,.ptr 2 0)] [(1,.box none 36 [.dat (vint r1.At),.dat (vstr r1.Method),.dat (vstr r1.Host),.dat (vstr r1.Path),.dat (vstr r1.Query),.dat (vstr r1.From),.dat (vlst (List.map zy r1.Headers)),.dat (vstr r1.Body)]),(2,.box none 60 [.nptr 2,.row 5 r11.2.2.length]),(5,.row 5 1 (List.map yw r11.2.2))] ⟨Z,Z,U⟩ ⟨Z,Z,Z,U⟩ Z Z ⟨r11.2.2,H,⟨Z,Z,U⟩,⟨Z,Z,Z,U⟩⟩
   ·refine fE h9 H fun H=>zn ?_
    show Cv _ _ _ _
    exact wc (rn [(4,6)]) [(1,.ptr 1 0),(5,.ptr 2 0)] [(1,.box none 36 [.dat (vint r1.At),.dat (vstr r1.Method),.dat (vstr r1.Host),.dat (vstr r1.Path),.dat (vstr r1.Query),.dat (vstr r1.From),.dat (vlst (List.map zy r1.Headers)),.dat (vstr r1.Body)]),(2,.box none 60 [.nptr 2,.row 4 r7.2.2.length]),(4,.row 5 1 (List.map yw r7.2.2))] ⟨Z,Z,U⟩ ⟨Z,Z,Z,U⟩ Z Z ⟨r7.2.2,H,⟨Z,Z,U⟩,⟨Z,Z,Z,U⟩⟩
  ·rintro l13 H
   replace H:Qh r1 l13=some r:=H
   unfold Qh at H
   refine zb hN Z (za (zq z1g Z) (zm (zt tyS9 Z Z) Z (gE H fun h14 H=>za (vf Z Z (Nat.le_trans h14 (by decide))) (gE H fun h15 H=>za (vf Z Z (Nat.le_trans h15 (by decide))) (bE H fun r16 h17 H=>qk (rn [(0,2),(1,6),(900,7)]) [(0,_,_,some _),(1,_,_,none)] [(900,_)] (Zx l13 (([32,72,84,84,80,47,49,46,49,13,10,104,111,115,116,58,32]++r1.Host)++[13,10]) r16 h17) ⟨Z,Z,Z,U⟩ ⟨.inl (.inl Z),.inl (.inl Z),U⟩ ⟨⟨⟨Z,Z⟩,U⟩,⟨⟨Z,Z,Z⟩,U⟩,U⟩ Z (zb hN Z (za (zq jt Z) (zm (zt qu Z Z) Z (bE H fun r18 h19 H=>za (zo (y82 r1.Headers [104,111,115,116] r18 h19) ⟨.inl Z,.inl Z,U⟩) (bE H fun r20 h21 H=>qk (rn [(0,2),(1,7),(900,8)]) [(0,_,_,some _),(1,_,_,none)] [(900,_)] (x5s r16.2.2 r18 r20 h21) ⟨Z,Z,Z,U⟩ ⟨.inl (.inl Z),.inl (.inl Z),U⟩ ⟨⟨⟨Z,Z⟩,U⟩,⟨⟨Z,Z,Z⟩,U⟩,U⟩ Z (yg (ι:=(List Int)) (fun i=>[(1,.ptr 1 0),(5,.ptr 2 0)]) (fun i=>[(1,.box none 36 [.dat (vint r1.At),.dat (vstr r1.Method),.dat (vstr r1.Host),.dat (vstr r1.Path),.dat (vstr r1.Query),.dat (vstr r1.From),.dat (vlst (List.map zy r1.Headers)),.dat (vstr r1.Body)]),(2,.box none 60 [.nptr 2,.row 10 i.length]),(10,.row 5 1 (List.map yw i))]) (fun i=>z42 r1 i=some r) (fun i=>Z) ?_ ?_)))))))))))
   ·refine wi (zb hN Z (za (zq y1h Z) (zm (zt tyS9 Z Z) Z (za (jo Z Z) (zh _ Z (fun h22 => ?_) (fun h22 => ?_))))))
    ·refine tE h22 H fun H=>zj hN Z (za (zq y1h Z) (zm (zt tyS9 Z Z) Z (za (qi tyU9 Z) (bE H fun r23 h24 H=>za (zo (y3s (r1.Body.length:Int) r23 h24) ⟨.inl Z,U⟩) (gE H fun h25 H=>za (vf Z Z (Nat.le_trans h25 (by decide))) (gE H fun h26 H=>za (vf Z Z (Nat.le_trans h26 (by decide))) (bE H fun r27 h28 H=>qk (rn [(0,2),(1,8),(900,9)]) [(0,_,_,some _),(1,_,_,none)] [(900,_)] (Zx r20 (([99,111,110,116,101,110,116,45,108,101,110,103,116,104,58,32]++r23)++[13,10]) r27 h28) ⟨Z,Z,Z,U⟩ ⟨.inl (.inl Z),.inl (.inl Z),U⟩ ⟨⟨⟨Z,Z⟩,U⟩,⟨⟨Z,Z,Z⟩,U⟩,U⟩ Z (wm ?_))))))))
     show Cv _ _ _ _
     exact wc (rn [(9,10)]) [(1,.ptr 1 0),(5,.ptr 2 0)] [(1,.box none 36 [.dat (vint r1.At),.dat (vstr r1.Method),.dat (vstr r1.Host),.dat (vstr r1.Path),.dat (vstr r1.Query),.dat (vstr r1.From),.dat (vlst (List.map zy r1.Headers)),.dat (vstr r1.Body)]),(2,.box none 60 [.nptr 2,.row 9 r27.2.2.length]),(9,.row 5 1 (List.map yw r27.2.2))] ⟨Z,Z,U⟩ ⟨Z,Z,Z,U⟩ Z Z ⟨r27.2.2,H,⟨Z,Z,U⟩,⟨Z,Z,Z,U⟩⟩
    ·refine fE h22 H fun H=>zn ?_
     show Cv _ _ _ _
     exact wc (rn [(8,10)]) [(1,.ptr 1 0),(5,.ptr 2 0)] [(1,.box none 36 [.dat (vint r1.At),.dat (vstr r1.Method),.dat (vstr r1.Host),.dat (vstr r1.Path),.dat (vstr r1.Query),.dat (vstr r1.From),.dat (vlst (List.map zy r1.Headers)),.dat (vstr r1.Body)]),(2,.box none 60 [.nptr 2,.row 8 r20.length]),(8,.row 5 1 (List.map yw r20))] ⟨Z,Z,U⟩ ⟨Z,Z,Z,U⟩ Z Z ⟨r20,H,⟨Z,Z,U⟩,⟨Z,Z,Z,U⟩⟩
   ·rintro l29 H
    replace H:z42 r1 l29=some r:=H
    unfold z42 at H
    refine zb hN Z (za (zq y1h Z) (zm (zt tyS9 Z Z) Z (gE H fun h30 H=>za (vf Z Z (Nat.le_trans h30 (by decide))) (bE H fun r31 h32 H=>qk (rn [(0,2),(1,10),(900,11)]) [(0,_,_,some _),(1,_,_,none)] [(900,_)] (Zx l29 ([13,10]++r1.Body) r31 h32) ⟨Z,Z,Z,U⟩ ⟨.inl (.inl Z),.inl (.inl Z),U⟩ ⟨⟨⟨Z,Z⟩,U⟩,⟨⟨Z,Z,Z⟩,U⟩,U⟩ Z (zb hN Z (gE H fun h33 H=>qk (rn [(0,2),(1,11)]) [(0,_,_,none),(1,_,_,none)] [] (z6a h33 (C:=yw) (fun _=>Z)) ⟨Z,Z,U⟩ ⟨.inl (.inl Z),U⟩ ⟨⟨⟨Z,Z⟩,U⟩,⟨⟨Z,Z,Z⟩,U⟩,U⟩ Z (qe Z (qe Z (zk ?_)))))))))
    cases H
    exact ⟨U,.inl Z,.inl Z,U⟩
theorem y80 (s1:(List Bs)) (v2:Bs) (r:(Int)) (H:Qp s1 v2=some r):Fn Tryz.prog 178 [vlst (List.map zx s1),vstr v2] (zr [vint r]):=by
 refine ⟨by kernel_rfl,yf (us:=[vint r]) Tryz.func178 Z Z Z Z fun X hN => ?_⟩
 unfold Qp at H
 refine zb hN Z (qe Z (zd (zb hN Z (qd Z (za (qh wl Z) (qd Z (yc (gE H fun h5 H=>va (fun (k3:Nat) (s:Unit)=>[(0,.dat (vlst (List.map zx s1))),(1,.dat (vstr v2)),(7,.dat (vint (s1.length:Int))),(8,.dat (vint (k3:Int)))]) (fun (k3:Nat) (s:Unit)=>[]) () H ⟨Z,Z,Z,Z,U⟩ U (fun _ _=>Z) ?_ ?_))))))))
 ·rintro ⟨⟩ H
  replace H:y6q=some r:=H
  unfold y6q at H
  refine zb hN Z (za (ye Z Z) (zd (zh _ Z (fun h=>(lt_t h).elim) (fun h => ?_))))
  refine yz (zb hN Z (qe Z (zk ?_)))
  cases H
  exact ⟨U,.inl Z,U⟩
 ·rintro k3 x6 ⟨⟩ q4 h7 h8 H hq4
  replace H:y6p v2 k3 x6=some q4:=H
  unfold y6p at H
  refine zb hN Z (za (ye Z Z) (zd (zh _ Z (fun h => ?_) (fun h=>(lt_f h7 h).elim))))
  refine zn (zd (yc (zb hN Z (qd Z (qe Z (zb hN Z (qd Z (qd Z (qd Z (za (wj vp (fun _=>Z) Z Z h8) (za (wh tyS9 Z (qp h8) Z) (za (vi Z Z) (zh _ Z (fun h9 => ?_) (fun h9 => ?_))))))))))))))
  ·refine tE h9 H fun H=>zb hN Z (qd Z (qe Z (zk ?_)))
   replace H:=retl H hq4
   cases H
   exact ⟨U,.inl Z,U⟩
  ·exact fE h9 H fun H=>zn (zj hN Z (za (qy Z Z (by omega)) (qd Z ⟨_,qm H,⟨Z,Z,Z,Z,U⟩,U⟩)))
theorem y81 (s1:(List Bs)) (v2:Bs) (r:(Bool)) (H:Qq s1 v2=some r):Fn Tryz.prog 114 [vlst (List.map zx s1),vstr v2] (zr [zi r]):=by
 refine ⟨by kernel_rfl,yf (us:=[zi r]) Tryz.func114 Z Z Z Z fun X hN => ?_⟩
 unfold Qq at H
 refine zb hN Z (qe Z (zb hN Z (qd Z (qd Z (bE H fun r3 h4 H=>za (zo (y80 s1 v2 r3 h4) ⟨.inl Z,.inl Z,U⟩) (za (vk Z Z) (qe Z (zk ?_))))))))
 cases H
 exact ⟨U,.inl Z,U⟩
theorem w7n (s1:Bs) (r:((List Bs)×Bool)) (H:z5r s1=some r):Fn Tryz.prog 52 [vstr s1] (zr [vlst (List.map zx r.1),zi r.2]):=by
 refine ⟨by kernel_rfl,yf (us:=[vlst (List.map zx r.1),zi r.2]) Tryz.func52 Z Z Z Z fun X hN => ?_⟩
 unfold z5r at H
 refine zb hN Z (qe Z (qe Z (zb hN Z (qd Z (bE H fun r2 h3 H=>za (zo (z6b s1 [32] r2 h3) ⟨.inl Z,.inl Z,U⟩) (qe Z (zb hN Z (qd Z (qd Z (bE H fun r4 h5 H=>za (zo (y81 r2 [] r4 h5) ⟨.inl Z,.inl Z,U⟩) (za (yt Z) (qe Z (qe Z (zk ?_))))))))))))))
 cases H
 exact ⟨U,.inl Z,.inl Z,U⟩
end Go.Proofs.YtahcnngcpjkpgabGreatDoor
