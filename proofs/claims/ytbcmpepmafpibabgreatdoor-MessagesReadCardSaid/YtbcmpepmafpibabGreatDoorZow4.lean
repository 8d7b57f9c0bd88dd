/- Walks along the models. Printed by a program. -/
import Derived.Test.YtbcmpepmafpibabGreatDoorZow3
namespace Go.Proofs.YtbcmpepmafpibabGreatDoor
open Go.RowKit
set_option linter.unusedVariables false
set_option maxRecDepth 100000
set_option maxHeartbeats 2000000
theorem z8p (s1:(List zk)) (p1:zk→Option (Bool)) (fv1:Nat) (us1:List V) (hp1:∀ a0 r,p1 a0=some r→Fn Tryz.prog fv1 ([vagg (yb a0)]++us1) (zp [zf r])) (r:((List zk))) (H:xz s1 p1=some r):FnG Tryz.prog 68 [.row 0 s1.length,.dat (vfn fv1 us1)] [(0,.row 91 2 (List.map yb s1))] (.row 900 r.length) [(900,.row 91 2 (List.map yb r))]:=by
 refine z4e (by kernel_rfl) Tryz.func68 Z Z Z Z fun X A hN => ?_
 unfold xz at H
 refine zc hN Z (qe Z (zc hN Z (za (ze (.row _ _) Z) (qd Z (bE H fun r2 h3 H=>zr (y5w (id:=0) (es:=List.map yb s1) (y8i s1 p1 fv1 us1 hp1 r2 h3) ⟨.inr ⟨(congrArg (Slot.row 0) (by rw [List.length_map]):Slot.row 0 s1.length=_),Z⟩,.inl (.inl (.inl Z)),U⟩ (fun _ _ _ _ h=>h)) Z ?_)))))
 refine qe Z (zh (zc hN Z (qd Z (za (yp Z Z) (zi _ Z (fun h4 => ?_) (fun h4 => ?_))))))
 ·refine tE h4 H fun H=>zc hN Z (za (ze (.row _ _) Z) (za (vr (.row _ _) Z) (y3t 4 0 900 Z Z (by rw [List.length_map]) Z ?_)))
  refine zg ?_
  cases H
  exact ⟨U,[(4,.row 900 _)],⟨Z,U⟩,⟨Z,U⟩,Z,.inr (.inl ⟨4,Z,Z⟩)⟩
 ·refine fE h4 H fun H=>zn (zz (ι:=Int×(List zk)) (fun i=>[(0,.row 0 i.2.length),(5,.dat (vint i.1))]) (fun i=>[(0,.row 91 2 (List.map yb i.2))]) (fun i=>z48 i.1 i.2=some r) (fun i=>Z) ?_ ?_)
  ·skip
   refine zc hN Z (qd Z (za (yf _ Z Z (.inl ⟨Z,Z⟩)) (qe Z (yc (ki (fun (s:Int×Int×(List zk))=>[(0,.row 0 s.2.2.length),(1,.dat (vfn fv1 us1)),(5,.dat (vint s.1)),(6,.dat (vint s.2.1))]) (fun (s:Int×Int×(List zk))=>[(0,.row 91 2 (List.map yb s.2.2))]) (r2,wr (r2+1),s1) H ⟨Z,Z,Z,Z,U⟩ ⟨Z,U⟩ (fun _=>Z) ?_)))))
   rintro ⟨i5,j6,l7⟩ q8 H hq8
   replace H:z77 p1 i5 j6 l7=some q8:=H
   unfold z77 at H
   refine zh (zc hN Z (qd Z (za (ze (.row _ _) Z) (zr (z7j vg Z Z) Z (za (yg Z Z) (zi _ Z (fun h9 => ?_) (fun h9 => ?_)))))))
   ·refine tE h9 H fun H=>zn (zz (ι:=Int×(List zk)) (fun i=>[(0,.row 0 i.2.length),(1,.dat (vfn fv1 us1)),(5,.dat (vint i.1)),(6,.dat (vint j6))]) (fun i=>[(0,.row 91 2 (List.map yb i.2))]) (fun i=>z2a j6 i.1 i.2=some q8) (fun i=>Z) ?_ ?_)
    ·skip
     refine yc (zc hN Z (za (ze (.row _ _) Z) (qd Z (bE H fun x10 h11 H=>zr (y0n ka Z Z Z h11) Z (zr (y4y wv Z Z (xc h11).2 Z) Z (zo (qm 1 ky Z) Z (zo (yq wv Z Z Z Z) Z (zc hN Z (qd Z (zr (qa wv Z Z Z) Z (bE H fun r12 h13 H=>za (z7p (hp1 x10 r12 h13) Z ⟨.inl Z,U⟩) (za (yk Z) (zi _ Z (fun h14 => ?_) (fun h14 => ?_))))))))))))))
     ·exact tE h14 H fun H=>zc hN Z (za (ze (.row _ _) Z) (qd Z (zr (qa wv Z Z Z) Z (bE H fun x15 h16 H=>zr (y0n ka Z Z Z h16) Z (zo (y4v (C:=yb) wv Z Z Z (x2a (xc h16).2) Z Z) Z (zq hN Z (qd Z (za (yf _ Z Z (.inl ⟨Z,Z⟩)) (qe Z ⟨(wr (i5+1),(l7.set i5.toNat x10)),H,⟨congrArg (Slot.row 0) (by simp),Z,Z,Z,U⟩,⟨Z,U⟩⟩)))))))))
     ·exact fE h14 H fun H=>zn ⟨(i5,l7),H,⟨Z,Z,Z,Z,U⟩,⟨Z,U⟩⟩
    ·rintro ⟨i17,s18⟩ H
     replace H:z2a j6 i17 s18=some q8:=H
     unfold z2a at H
     exact zq hN Z (qd Z (za (yf _ Z Z (.inl ⟨Z,Z⟩)) (qe Z ⟨_,qr H,⟨Z,Z,Z,Z,U⟩,⟨Z,U⟩⟩)))
   ·refine fE h9 H fun H=>qj ?_
    replace H:=outl H hq8
    exact ⟨(i5,l7),H,⟨Z,Z,U⟩,⟨Z,U⟩⟩
  ·rintro ⟨i19,s20⟩ H
   replace H:z48 i19 s20=some r:=H
   unfold z48 at H
   refine zc hN Z (za (ze (.row _ _) Z) (qd Z (gE H fun h21 H=>zr (y4w (C:=yb) ka Z Z Z h21) Z (zo (y40 (C:=yb) (zk.mk [] []) vg ky Z Z Z Z Z h21) Z (zc hN Z (za (ze (.row _ _) Z) (qd Z (gE H fun h22 H=>y04 (y0o (C:=yb) 2 ka Z (x1f (zk.mk [] []) h21) Z h22) Z Z (za (vr (.row _ _) Z) (y3t 4 2 900 Z Z (by rw [List.length_map]; exact (z9p h22)) Z ?_))))))))))
   refine zg ?_
   cases H
   exact ⟨U,[(4,.row 900 _)],⟨Z,U⟩,⟨Z,U⟩,Z,.inr (.inl ⟨4,Z,congrArg (Slot.row 900) (by first | exact z9p (by assumption) | (simp <;> omega))⟩)⟩
theorem y8x (h1:zk) (r:(Bool)) (H:Yn h1=some r):Fn Tryz.prog 70 [vagg (yb h1)] (zp [zf r]):=by
 refine ⟨by kernel_rfl,zy (us:=[zf r]) Tryz.func70 Z Z Z Z fun X hN => ?_⟩
 unfold Yn at H
 refine zc hN Z (zo (vp 1 Z) Z (qe Z (zz (ι:=Bool) (fun i=>[(2,.dat (zf i))]) (fun i=>[]) (fun i=>Wy i=some r) (fun i=>Z) ?_ ?_)))
 ·skip
  refine zq hN Z (zr (qa wv Z Z Z) Z (bE H fun r2 h3 H=>za (zj (z6h h1 [99,111,110,116,101,110,116,45,108,101,110,103,116,104] r2 h3) ⟨.inl Z,.inl Z,U⟩) (qd Z (zu (j:=2) Z Z (fun h4 => ?_) (fun h4 => ?_) Z))))
  ·exact u3 h4 H fun h5 H=>wg Z Z h4 (qa wv Z Z Z) Z (bE H fun r6 h7 H=>zd Z Z h4 (zj (z6h h1 [116,114,97,110,115,102,101,114,45,101,110,99,111,100,105,110,103] r6 h7) ⟨.inl Z,.inl Z,U⟩) (za (zl Z (bFF h5) Z) (qe Z ⟨r6,H,⟨Z,U⟩,U⟩)))
  ·exact u4 h4 H fun h8 H=>zb Z Z h4 (zb Z Z h4 (za (zm Z (bTT h8) Z) (qe Z ⟨true,H,⟨Z,U⟩,U⟩)))
 ·rintro v9 H
  replace H:Wy v9=some r:=H
  unfold Wy at H
  refine zg ?_
  cases H
  exact ⟨U,.inl Z,U⟩
theorem y20 (h1:wq) (s2:Bs) (hosts3:Int) (r:((List zk)×Bs×Int×Int)) (H:z0v h1 s2 hosts3=some r):Fn Tryz.prog 28 [vagg (z1o h1),vstr s2,vint hosts3] (zp [vlst (List.map yb r.1),vstr r.2.1,vint r.2.2.1,vint r.2.2.2]):=by
 refine ⟨by kernel_rfl,zy (us:=[vlst (List.map yb r.1),vstr r.2.1,vint r.2.2.1,vint r.2.2.2]) Tryz.func28 Z Z Z Z fun X hN => ?_⟩
 unfold z0v at H
 refine zc hN Z (zo (vp 1 Z) Z (qe Z (qe Z (qe Z (qe Z (zh (zc hN Z (za (zv xi Z) (zr (zx qw Z Z) Z (qd Z (bE H fun r4 h5 H=>za (zj (y8y h1.headers_ hosts3 r4 h5) ⟨.inl Z,.inl Z,U⟩) (qe Z (zc hN Z (qd Z (za (qk Z Z) (zi _ Z (fun h6 => ?_) (fun h6 => ?_)))))))))))))))))
 ·refine tE h6 H fun H=>zc hN Z (qd Z (qe Z (qe Z (qe Z (qe Z (zg ?_))))))
  cases H
  exact ⟨U,.inr ⟨Z,Z⟩,.inl Z,.inl Z,.inl Z,U⟩
 ·refine fE h6 H fun H=>zn (zh (wz mixed hN Z Z (za (zv xi Z) (zr (zx qw Z Z) Z (qd Z (za (zv z1u Z) (zr (zx tyS3 Z Z) Z (bE H fun l7 h8 H=>za (qf tyU9 Z Z Z h8) (bE H fun r9 h10 H=>za (zj (y80 h1.headers_ l7 r9 h10) ⟨.inl Z,.inl Z,U⟩) (qd Z (za (zt Z Z) (za (zt Z Z) (za (zt Z Z) (qe Z (qe Z (qe Z ⟨Z,?_⟩))))))))))))))))
  refine zh (zc hN Z (qd Z (za (qk Z Z) (zi _ Z (fun h11 => ?_) (fun h11 => ?_)))))
  ·refine tE h11 H fun H=>zc hN Z (qd Z (qe Z (qe Z (qe Z (qe Z (zg ?_))))))
   cases H
   exact ⟨U,.inr ⟨Z,Z⟩,.inl Z,.inl Z,.inl Z,U⟩
  ·refine fE h11 H fun H=>zn (zh (wz mixed hN Z Z (za (zv xi Z) (zr (zx qw Z Z) Z (bE H fun r12 h13 H=>jt (rn [(900,2)]) [] [(900,_)] (z8q h1.headers_ r12 h13) ⟨Z,U⟩ ⟨.inl (.inl Z),U⟩ U Z (bE H fun r14 h15 H=>jt (rn [(0,2),(900,3)]) [(0,_,_,none)] [(900,_)] (z8p r12 (fun (a0:zk)=>Yn a0) 70 [] (fun a0 r h=>y8x a0 r h) r14 h15) ⟨Z,Z,U⟩ ⟨.inl (.inl Z),.inr ⟨_,Z,Z⟩,U⟩ ⟨⟨⟨Z,Z,Z⟩,U⟩,U⟩ Z (qd Z (za (zv z1u Z) (zr (zx tyS3 Z Z) Z (qd Z (za (yf _ Z Z (.inl ⟨Z,Z⟩)) (za (vr (.row _ _) Z) (qe Z (qe Z (qe Z ⟨Z,?_⟩)))))))))))))))
   refine zg ?_
   cases H
   exact ⟨U,Wj Z Z,.inl Z,.inl Z,.inl Z,U⟩
theorem y8k (h1:zk) (c2:Bs) (r:(Bool)) (H:Ym h1 c2=some r):Fn Tryz.prog 71 [vagg (yb h1),jd [[vstr c2]] 0 0] (zp [zf r]):=by
 refine ⟨by kernel_rfl,zy (us:=[zf r]) Tryz.func71 Z Z Z Z fun X hN => ?_⟩
 unfold Ym at H
 refine zc hN Z (zo (vp 1 Z) Z (qe Z (zc hN Z (zr (qa wv Z Z Z) Z (za (wa tyS9 Z Z Z) (bE H fun r3 h4 H=>za (zj (z6h h1 c2 r3 h4) ⟨.inl Z,.inl Z,U⟩) (qe Z (zg ?_))))))))
 cases H
 exact ⟨U,.inl Z,U⟩
theorem y8l (l1:(List zk)) (name2:Bs) (r:((List zk))) (H:z0h l1 name2=some r):Fn Tryz.prog 29 [vlst (List.map yb l1),vstr name2] (zp [vlst (List.map yb r)]):=by
 refine ⟨by kernel_rfl,zy (us:=[vlst (List.map yb r)]) Tryz.func29 Z Z Z Z fun X hN => ?_⟩
 unfold z0h at H
 refine zc hN Z (zo (z7q 1 Z Z) Z (qe Z (zh (z67 1 [vstr name2] Z Z (zq hN Z (qd Z (bE H fun r3 h4 H=>jt (rn [(900,2)]) [] [(900,_)] (z8q l1 r3 h4) ⟨Z,U⟩ ⟨.inl (.inl Z),U⟩ U Z (za (z7m (us:=[_]) ⟨Z,U⟩) (bE H fun r5 h6 H=>jt (rn [(0,2),(900,3)]) [(0,_,_,none)] [(900,_)] (z8p r3 (fun (a0:zk)=>Ym a0 name2) 71 [jd [[vstr name2]] 0 0] (fun a0 r h=>y8k a0 name2 r h) r5 h6) ⟨Z,Z,U⟩ ⟨.inl (.inl Z),.inl (.inl Z),U⟩ ⟨⟨⟨Z,Z,Z⟩,U⟩,U⟩ Z (za (vr (.row _ _) Z) (zg ?_)))))))))))
 cases H
 exact ⟨U,Wj Z Z,U⟩
theorem y89 (n1:Int) (r:(Bool)) (H:z3e n1=some r):Fn Tryz.prog 72 [vint n1] (zp [zf r]):=by
 refine ⟨by kernel_rfl,zy (us:=[zf r]) Tryz.func72 Z Z Z Z fun X hN => ?_⟩
 unfold z3e at H
 refine zc hN Z (qe Z (zc hN Z (qd Z (za (wx Z Z) (qd Z (qg Z Z (fun hc=>ze (.dat _) Z) (qg Z Z (fun hc=>yg (cnd (c:=(decide (0≤n1))) hc) Z) (za (wu Z (fun hb=>(cnd (c:=(decide (0≤n1))) hb)) Z) (qe Z (zg ?_))))))))))
 cases H
 exact ⟨U,.inl Z,U⟩
theorem y2n (n1:Int) (low2:Int) (high3:Int) (r:(Bool)) (H:z3d n1 low2 high3=some r):Fn Tryz.prog 95 [vint n1,vint low2,vint high3] (zp [zf r]):=by
 refine ⟨by kernel_rfl,zy (us:=[zf r]) Tryz.func95 Z Z Z Z fun X hN => ?_⟩
 unfold z3d at H
 refine zc hN Z (qe Z (zc hN Z (qd Z (qd Z (za (yg Z Z) (qd Z (yz Z Z (fun hc=>ze (.dat _) Z) (yz Z Z (fun hc=>ze (.dat _) Z) (yz Z Z (fun hc=>qb (cnd (c:=(!(decide (n1 < low2)))) hc) (cnd (c:=(!(decide (n1 < low2)))) hc)) (za (vk Z Z (fun hb=>(cnd (c:=(!(decide (n1 < low2)))) (notI hb)))) (qe Z (zg ?_))))))))))))
 cases H
 exact ⟨U,.inl Z,U⟩
theorem y8u (s1:Bs) (r:(Bool)) (H:z2x s1=some r):Fn Tryz.prog 131 [vstr s1] (zp [zf r]):=by
 refine ⟨by kernel_rfl,zy (us:=[zf r]) Tryz.func131 Z Z Z Z fun X hN => ?_⟩
 unfold z2x at H
 refine zc hN Z (qe Z (zh (zc hN Z (qd Z (za (yi tyU9 Z) (qd Z (yc (gE H fun h4 H=>ve (fun (k2:Nat) (s:Unit)=>[(0,.dat (vstr s1)),(5,.dat (vint (s1.length:Int))),(6,.dat (vint (k2:Int)))]) (fun (k2:Nat) (s:Unit)=>[]) () H ⟨Z,Z,Z,U⟩ U (fun _ _=>Z) ?_ ?_))))))))
 ·rintro ⟨⟩ H
  replace H:z2h s1=some r:=H
  unfold z2h at H
  refine zc hN Z (za (yg Z Z) (zh (zi _ Z (fun h=>(lt_t h).elim) (fun h => ?_))))
  refine qj (zz (ι:=Bool) (fun i=>[(2,.dat (zf i))]) (fun i=>[]) (fun i=>xp i=some r) (fun i=>Z) ?_ ?_)
  ·skip
   refine zq hN Z (qd Z (za (vc Z Z) (qd Z (zu (j:=2) Z Z (fun h6 => ?_) (fun h6 => ?_) Z))))
   ·refine u1 h6 H fun h7 H=>zd Z Z h6 (ze (.dat _) Z) (zd Z Z h6 (yi tyU9 Z) (zd Z Z h6 (we Z Z) (za (zm Z (bTT h7) Z) (qd Z (zu (j:=7) Z Z (fun h8 => ?_) (fun h8 => ?_) Z)))))
    ·refine u1 h8 H fun h9 H=>zd Z Z h8 (ze (.dat _) Z) (bE H fun x10 h11 H=>zd Z Z h8 (qh tyU9 Z Z h11) (zd Z Z h8 (qk Z Z) (za (zm Z (bTT h9) Z) (qd Z (zu (j:=12) Z Z (fun h12 => ?_) (fun h12 => ?_) Z)))))
     ·exact u1 h12 H fun h13 H=>zd Z Z h12 (ze (.dat _) Z) (zd Z Z h12 (ze (.dat _) Z) (zd Z Z h12 (yi tyU9 Z) (zd Z Z h12 (yf _ Z Z (.inr (.inl ⟨Z,Z⟩))) (bE H fun x14 h15 H=>zd Z Z h12 (jf tyU9 Z Z h15) (zd Z Z h12 (qk Z Z) (za (zm Z (bTT h13) Z) (qe Z ⟨decide ((x14.toNat:Int)≠45),H,⟨Z,U⟩,U⟩)))))))
     ·exact u2 h12 H fun h16 H=>zb Z Z h12 (zb Z Z h12 (zb Z Z h12 (zb Z Z h12 (zb Z Z h12 (zb Z Z h12 (za (zl Z (bFF h16) Z) (qe Z ⟨false,H,⟨Z,U⟩,U⟩)))))))
    ·exact u2 h8 H fun h17 H=>zb Z Z h8 (zb Z Z h8 (zb Z Z h8 (za (zl Z (bFF h17) Z) (qd Z (zb Z Z Z (zb Z Z Z (zb Z Z Z (zb Z Z Z (zb Z Z Z (zb Z Z Z (za (zl Z Z Z) (qe Z ⟨false,H,⟨Z,U⟩,U⟩))))))))))))
   ·exact u2 h6 H fun h18 H=>zb Z Z h6 (zb Z Z h6 (zb Z Z h6 (za (zl Z (bFF h18) Z) (qd Z (zb Z Z Z (zb Z Z Z (zb Z Z Z (za (zl Z Z Z) (qd Z (zb Z Z Z (zb Z Z Z (zb Z Z Z (zb Z Z Z (zb Z Z Z (zb Z Z Z (za (zl Z Z Z) (qe Z ⟨false,H,⟨Z,U⟩,U⟩)))))))))))))))))
  ·rintro v19 H
   replace H:xp v19=some r:=H
   unfold xp at H
   refine zg ?_
   cases H
   exact ⟨U,.inl Z,U⟩
 ·rintro k2 x5 ⟨⟩ q3 h20 h21 H hq3
  replace H:z2g k2 x5=some q3:=H
  unfold z2g at H
  refine zc hN Z (za (yg Z Z) (zh (zi _ Z (fun h => ?_) (fun h=>(lt_f h20 h).elim))))
  refine zn (zh (yc (zc hN Z (qd Z (qe Z (zz (ι:=Bool) (fun i=>[(0,.dat (vstr s1)),(5,.dat (vint (s1.length:Int))),(6,.dat (vint (k2:Int))),(26,.dat (zf i))]) (fun i=>[]) (fun i=>Ww i=some q3) (fun i=>Z) ?_ ?_))))))
  ·skip
   refine zq hN Z (qd Z (qd Z (za (qh tyU9 Z Z h21) (bE H fun r22 h23 H=>za (zj (z8w (x5.toNat:Int) r22 h23) ⟨.inl Z,U⟩) (za (yk Z) (qd Z (zu (j:=5) Z Z (fun h24 => ?_) (fun h24 => ?_) Z)))))))
   ·refine u1 h24 H fun h25 H=>zd Z Z h24 (ze (.dat _) Z) (zd Z Z h24 (ze (.dat _) Z) (zd Z Z h24 (qh tyU9 Z Z h21) (bE H fun r26 h27 H=>zd Z Z h24 (zj (z6i (x5.toNat:Int) r26 h27) ⟨.inl Z,U⟩) (zd Z Z h24 (yk Z) (za (zm Z (bTT h25) Z) (qd Z (zu (j:=12) Z Z (fun h28 => ?_) (fun h28 => ?_) Z)))))))
    ·exact u1 h28 H fun h29 H=>zd Z Z h28 (ze (.dat _) Z) (zd Z Z h28 (ze (.dat _) Z) (zd Z Z h28 (qh tyU9 Z Z h21) (zd Z Z h28 (qk Z Z) (za (zm Z (bTT h29) Z) ⟨decide ((x5.toNat:Int)≠45),H,⟨Z,Z,Z,Z,U⟩,U⟩))))
    ·exact u2 h28 H fun h30 H=>zb Z Z h28 (zb Z Z h28 (zb Z Z h28 (zb Z Z h28 (za (zl Z (bFF h30) Z) ⟨false,H,⟨Z,Z,Z,Z,U⟩,U⟩))))
   ·exact u2 h24 H fun h31 H=>zb Z Z h24 (zb Z Z h24 (zb Z Z h24 (zb Z Z h24 (zb Z Z h24 (za (zl Z (bFF h31) Z) (qd Z (zb Z Z Z (zb Z Z Z (zb Z Z Z (zb Z Z Z (za (zl Z Z Z) ⟨false,H,⟨Z,Z,Z,Z,U⟩,U⟩)))))))))))
  ·rintro v32 H
   replace H:Ww v32=some q3:=H
   unfold Ww at H
   refine zi _ Z (fun h33 => ?_) (fun h33 => ?_)
   ·refine tE h33 H fun H=>zc hN Z (qe Z (zg ?_))
    replace H:=retl H hq3
    cases H
    exact ⟨U,.inl Z,U⟩
   ·exact fE h33 H fun H=>zn (zq hN Z (za (wy Z Z (by omega)) (qd Z ⟨_,qr H,⟨Z,Z,Z,U⟩,U⟩)))
theorem y8v (s1:Bs) (r:(Bool)) (H:z0i s1=some r):Fn Tryz.prog 73 [vstr s1] (zp [zf r]):=by
 refine ⟨by kernel_rfl,zy (us:=[zf r]) Tryz.func73 Z Z Z Z fun X hN => ?_⟩
 unfold z0i at H
 refine zc hN Z (qe Z (zc hN Z (qd Z (bE H fun r2 h3 H=>za (zj (kf s1 [58] r2 h3) ⟨.inl Z,.inl Z,U⟩) (qd Z (za (zt Z Z) (za (zt Z Z) (za (zt Z Z) (qe Z (qe Z (qe Z (zh (zc hN Z (qd Z (bE H fun r4 h5 H=>za (zj (z30 r2.1 [46] r4 h5) ⟨.inl Z,.inl Z,U⟩) (za (yw wb Z) (qd Z (yc (gE H fun h8 H=>ve (fun (k6:Nat) (s:Unit)=>[(0,.dat (vstr s1)),(4,.dat (vstr r2.2.1)),(5,.dat (zf r2.2.2)),(17,.dat (vlst (List.map ye r4))),(18,.dat (vint (r4.length:Int))),(19,.dat (vint (k6:Int)))]) (fun (k6:Nat) (s:Unit)=>[]) () H ⟨Z,Z,Z,Z,Z,Z,U⟩ U (fun _ _=>Z) ?_ ?_)))))))))))))))))))
 ·rintro ⟨⟩ H
  replace H:z2i s1 r2=some r:=H
  unfold z2i at H
  refine zc hN Z (za (yg Z Z) (zh (zi _ Z (fun h=>(lt_t h).elim) (fun h => ?_))))
  refine qj (zc hN Z (qd Z (bE H fun r10 h11 H=>za (zj (y2m r2.2.1 r10 h11) ⟨.inl Z,U⟩) (qd Z (za (zt Z Z) (za (zt Z Z) (qe Z (qe Z (zz (ι:=Bool) (fun i=>[(2,.dat (zf i))]) (fun i=>[]) (fun i=>xq i=some r) (fun i=>Z) ?_ ?_)))))))))
  ·skip
   refine zq hN Z (qd Z (za (yi tyU9 Z) (za (we Z Z) (qd Z (zu (j:=3) Z Z (fun h12 => ?_) (fun h12 => ?_) Z)))))
   ·refine u1 h12 H fun h13 H=>zd Z Z h12 (ze (.dat _) Z) (zd Z Z h12 (yk Z) (zd Z Z h12 (ze (.dat _) Z) (zu (j:=6) Z Z (fun h14 => ?_) (fun h14 => ?_) Z)))
    ·refine u3 h14 H fun h15 H=>zd Z Z h14 (ze (.dat _) Z) (zd Z Z h14 (ze (.dat _) Z) (zu (j:=8) Z Z (fun h16 => ?_) (fun h16 => ?_) Z))
     ·exact u1 h16 H fun h17 H=>zd Z Z h16 (ze (.dat _) Z) (bE H fun r18 h19 H=>zd Z Z h16 (zj (y2n r10.1 1 65535 r18 h19) ⟨.inl Z,.inl Z,.inl Z,U⟩) (zd Z Z h16 (yk Z) (zd Z Z h14 (zm Z (bTT h17) Z) (zd Z Z h12 (zl Z (bFF h15) Z) (za (zm Z (bTT h13) Z) (qe Z ⟨!r18,H,⟨Z,U⟩,U⟩))))))
     ·exact u2 h16 H fun h20 H=>zb Z Z h16 (zb Z Z h16 (zb Z Z h16 (zd Z Z h14 (zl Z (bFF h20) Z) (zd Z Z h12 (zl Z (bFF h15) Z) (za (zm Z (bTT h13) Z) (qe Z ⟨false,H,⟨Z,U⟩,U⟩))))))
    ·exact u4 h14 H fun h21 H=>zb Z Z h14 (zb Z Z h14 (yh Z Z (yh Z Z (yh Z Z (zb Z Z h14 (zd Z Z h12 (zm Z (bTT h21) Z) (za (zm Z (bTT h13) Z) (qe Z ⟨true,H,⟨Z,U⟩,U⟩))))))))
   ·exact u2 h12 H fun h22 H=>zb Z Z h12 (zb Z Z h12 (zb Z Z h12 (yh Z Z (yh Z Z (yh Z Z (yh Z Z (yh Z Z (yh Z Z (zb Z Z h12 (za (zl Z (bFF h22) Z) (qe Z ⟨false,H,⟨Z,U⟩,U⟩)))))))))))
  ·rintro v23 H
   replace H:xq v23=some r:=H
   unfold xq at H
   refine zg ?_
   cases H
   exact ⟨U,.inl Z,U⟩
 ·rintro k6 x9 ⟨⟩ q7 h24 h25 H hq7
  replace H:z5m k6 x9=some q7:=H
  unfold z5m at H
  refine zc hN Z (za (yg Z Z) (zh (zi _ Z (fun h => ?_) (fun h=>(lt_f h24 h).elim))))
  refine zn (zh (yc (zc hN Z (za (qx ww (fun _=>Z) Z Z h25) (za (wa tyS9 Z (qq h25) Z) (qe Z (zc hN Z (qd Z (bE H fun r26 h27 H=>za (zj (y8u x9 r26 h27) ⟨.inl Z,U⟩) (za (yk Z) (zi _ Z (fun h28 => ?_) (fun h28 => ?_))))))))))))
  ·refine tE h28 H fun H=>zc hN Z (qe Z (zg ?_))
   replace H:=retl H hq7
   cases H
   exact ⟨U,.inl Z,U⟩
  ·exact fE h28 H fun H=>zn (zq hN Z (za (wy Z Z (by omega)) (qd Z ⟨_,qr H,⟨Z,Z,Z,Z,Z,Z,U⟩,U⟩)))
theorem y8d (s p:Bs) (r:Bool) (H:z8f s p=some r):Fn Tryz.prog 105 [vstr s,vstr p] (zp [zf r]):=by
 cases H
 refine z9j (by kernel_rfl) fun M w vs h => ?_
 have h1:=vu (us:=[.string ⟨s.toArray⟩,.string ⟨p.toArray⟩]) h
 subst h1
 refine (Tryz.strings_HasPrefix ⟨s.toArray⟩ ⟨p.toArray⟩ w).mono ?_
 rintro e w' ⟨rfl,rfl⟩
 exact ⟨_,Z,Z,Kp.refl _ _⟩
theorem y2c (s p:Bs) (r:Bool) (H:z0e s p=some r):Fn Tryz.prog 132 [vstr s,vstr p] (zp [zf r]):=by
 unfold z0e at H
 obtain ⟨⟨⟨h1,h2⟩,h3,h4⟩,h5⟩:=gif H
 cases h5
 refine jz (by kernel_rfl) fun M w vs hM h => ?_
 have hv:=vu (us:=[.string ⟨s.toArray⟩,.string ⟨p.toArray⟩]) h
 subst hv
 refine (Tryz.strings_ContainsAny_laid ⟨s.toArray⟩ ⟨p.toArray⟩ w (by simp [ByteArray.size]; omega) (by simp [ByteArray.size]; omega) (fun j b hb=>z1l h3 j b (by simpa using hb)) (fun j b hb=>z1l h4 j b (by simpa using hb))).mono ?_
 rintro e w' ⟨rfl,hb⟩
 exact ⟨_,Z,Z,Kp.of_below hb⟩

theorem y2k (s1:Bs) (r:(Int)) (H:Yo s1=some r):Fn Tryz.prog 74 [vstr s1] (zp [vint r]):=by
 refine ⟨by kernel_rfl,zy (us:=[vint r]) Tryz.func74 Z Z Z Z fun X hN => ?_⟩
 unfold Yo at H
 refine zc hN Z (qe Z (zh (zz (ι:=Bool) (fun i=>[(19,.dat (zf i))]) (fun i=>[]) (fun i=>xt i=some r) (fun i=>Z) ?_ ?_)))
 ·skip
  refine zq hN Z (qd Z (za (yi tyU9 Z) (za (qb Z Z) (qd Z (zu (j:=3) Z Z (fun h2 => ?_) (fun h2 => ?_) Z)))))
  ·refine u3 h2 H fun h3 H=>zd Z Z h2 (ze (.dat _) Z) (bE H fun r4 h5 H=>zd Z Z h2 (zj (y8d s1 [47] r4 h5) ⟨.inl Z,.inl Z,U⟩) (zd Z Z h2 (yk Z) (za (zl Z (bFF h3) Z) (qd Z (zu (j:=8) Z Z (fun h6 => ?_) (fun h6 => ?_) Z)))))
   ·refine u3 h6 H fun h7 H=>zd Z Z h6 (ze (.dat _) Z) (bE H fun r8 h9 H=>zd Z Z h6 (zj (z6g s1 33 126 r8 h9) ⟨.inl Z,.inl Z,.inl Z,U⟩) (zd Z Z h6 (yk Z) (za (zl Z (bFF h7) Z) (qd Z (zu (j:=13) Z Z (fun h10 => ?_) (fun h10 => ?_) Z)))))
    ·exact u3 h10 H fun h11 H=>zd Z Z h10 (ze (.dat _) Z) (bE H fun r12 h13 H=>zd Z Z h10 (zj (y2c s1 [63,35] r12 h13) ⟨.inl Z,.inl Z,U⟩) (za (zl Z (bFF h11) Z) ⟨r12,H,⟨Z,U⟩,U⟩))
    ·exact u4 h10 H fun h14 H=>zb Z Z h10 (zb Z Z h10 (za (zm Z (bTT h14) Z) ⟨true,H,⟨Z,U⟩,U⟩))
   ·exact u4 h6 H fun h15 H=>zb Z Z h6 (zb Z Z h6 (zb Z Z h6 (za (zm Z (bTT h15) Z) (qd Z (zb Z Z Z (zb Z Z Z (za (zm Z Z Z) ⟨true,H,⟨Z,U⟩,U⟩)))))))
  ·exact u4 h2 H fun h16 H=>zb Z Z h2 (zb Z Z h2 (zb Z Z h2 (za (zm Z (bTT h16) Z) (qd Z (zb Z Z Z (zb Z Z Z (zb Z Z Z (za (zm Z Z Z) (qd Z (zb Z Z Z (zb Z Z Z (za (zm Z Z Z) ⟨true,H,⟨Z,U⟩,U⟩))))))))))))
 ·rintro v17 H
  replace H:xt v17=some r:=H
  unfold xt at H
  refine zi _ Z (fun h18 => ?_) (fun h18 => ?_)
  ·refine tE h18 H fun H=>zc hN Z (qe Z (zg ?_))
   cases H
   exact ⟨U,.inl Z,U⟩
  ·refine fE h18 H fun H=>zn (zc hN Z (qe Z (zg ?_)))
   cases H
   exact ⟨U,.inl Z,U⟩
theorem y2d (s p:Bs) (r:Bool) (H:z0f s p=some r):Fn Tryz.prog 133 [vstr s,vstr p] (zp [zf r]):=by
 unfold z0f at H
 obtain ⟨h1,h2⟩:=gif H
 cases h2
 refine jz (by kernel_rfl) fun M w vs hM h => ?_
 have hv:=vu (us:=[.string ⟨s.toArray⟩,.string ⟨p.toArray⟩]) h
 subst hv
 obtain ⟨m,hm⟩:=z2k hM
 refine (Tryz.strings_Contains ⟨s.toArray⟩ ⟨p.toArray⟩ m w (by simp [ByteArray.size]; omega) hm).mono ?_
 rintro e w' ⟨rfl,rfl⟩
 exact ⟨_,Z,Z,Kp.refl _ _⟩

theorem y8o (s1:Bs) (r:(Int)) (H:z2s s1=some r):Fn Tryz.prog 75 [vstr s1] (zp [vint r]):=by
 refine ⟨by kernel_rfl,zy (us:=[vint r]) Tryz.func75 Z Z Z Z fun X hN => ?_⟩
 unfold z2s at H
 refine zc hN Z (qe Z (zh (zz (ι:=Bool) (fun i=>[(14,.dat (zf i))]) (fun i=>[]) (fun i=>Yg i=some r) (fun i=>Z) ?_ ?_)))
 ·skip
  refine zq hN Z (qd Z (za (yi tyU9 Z) (za (qb Z Z) (qd Z (zu (j:=3) Z Z (fun h2 => ?_) (fun h2 => ?_) Z)))))
  ·refine u3 h2 H fun h3 H=>zd Z Z h2 (ze (.dat _) Z) (bE H fun r4 h5 H=>zd Z Z h2 (zj (z6g s1 33 126 r4 h5) ⟨.inl Z,.inl Z,.inl Z,U⟩) (zd Z Z h2 (yk Z) (za (zl Z (bFF h3) Z) (qd Z (zu (j:=8) Z Z (fun h6 => ?_) (fun h6 => ?_) Z)))))
   ·exact u3 h6 H fun h7 H=>zd Z Z h6 (ze (.dat _) Z) (bE H fun r8 h9 H=>zd Z Z h6 (zj (y2d s1 [35] r8 h9) ⟨.inl Z,.inl Z,U⟩) (za (zl Z (bFF h7) Z) ⟨r8,H,⟨Z,U⟩,U⟩))
   ·exact u4 h6 H fun h10 H=>zb Z Z h6 (zb Z Z h6 (za (zm Z (bTT h10) Z) ⟨true,H,⟨Z,U⟩,U⟩))
  ·exact u4 h2 H fun h11 H=>zb Z Z h2 (zb Z Z h2 (zb Z Z h2 (za (zm Z (bTT h11) Z) (qd Z (zb Z Z Z (zb Z Z Z (za (zm Z Z Z) ⟨true,H,⟨Z,U⟩,U⟩)))))))
 ·rintro v12 H
  replace H:Yg v12=some r:=H
  unfold Yg at H
  refine zi _ Z (fun h13 => ?_) (fun h13 => ?_)
  ·refine tE h13 H fun H=>zc hN Z (qe Z (zg ?_))
   cases H
   exact ⟨U,.inl Z,U⟩
  ·refine fE h13 H fun H=>zn (zc hN Z (qe Z (zg ?_)))
   cases H
   exact ⟨U,.inl Z,U⟩
theorem y2l (l1:(List zk)) (r:(Int)) (H:z0k l1=some r):Fn Tryz.prog 76 [vlst (List.map yb l1)] (zp [vint r]):=by
 refine ⟨by kernel_rfl,zy (us:=[vint r]) Tryz.func76 Z Z Z Z fun X hN => ?_⟩
 unfold z0k at H
 refine zc hN Z (qe Z (zh (zc hN Z (qd Z (za (yw vg Z) (za (qb Z Z) (zi _ Z (fun h2 => ?_) (fun h2 => ?_))))))))
 ·refine tE h2 H fun H=>zc hN Z (qe Z (zg ?_))
  cases H
  exact ⟨U,.inl Z,U⟩
 ·refine fE h2 H fun H=>zn (zh (zc hN Z (qd Z (za (yw vg Z) (qd Z (yc (gE H fun h5 H=>ve (fun (k3:Nat) (s:Unit)=>[(8,.dat (vlst (List.map yb l1))),(9,.dat (vint (l1.length:Int))),(10,.dat (vint (k3:Int)))]) (fun (k3:Nat) (s:Unit)=>[]) () H ⟨Z,Z,Z,U⟩ U (fun _ _=>Z) ?_ ?_)))))))
  ·rintro ⟨⟩ H
   replace H:z5s=some r:=H
   unfold z5s at H
   refine zc hN Z (za (yg Z Z) (zh (zi _ Z (fun h=>(lt_t h).elim) (fun h => ?_))))
   refine qj (zc hN Z (qe Z (zg ?_)))
   cases H
   exact ⟨U,.inl Z,U⟩
  ·rintro k3 x6 ⟨⟩ q4 h7 h8 H hq4
   replace H:z5r k3 x6=some q4:=H
   unfold z5r at H
   refine zc hN Z (za (yg Z Z) (zh (zi _ Z (fun h => ?_) (fun h=>(lt_f h7 h).elim))))
   refine zn (zh (yc (zc hN Z (za (qx ka (fun _=>Z) Z Z h8) (za (xk wv Z (qq h8) Z) (zo (qm 1 ky Z) Z (zo (yq wv Z Z Z Z) Z (zh (zc hN Z (za (zv Zt Z) (zr (zx tyS9 Z Z) Z (bE H fun r9 h10 H=>za (zj (z8x x6.Name r9 h10) ⟨.inl Z,U⟩) (za (yk Z) (zi _ Z (fun h11 => ?_) (fun h11 => ?_)))))))))))))))
   ·refine tE h11 H fun H=>zc hN Z (qe Z (zg ?_))
    replace H:=retl H hq4
    cases H
    exact ⟨U,.inl Z,U⟩
   ·refine fE h11 H fun H=>zn (zc hN Z (za (zv z1t Z) (zr (zx tyS9 Z Z) Z (bE H fun r12 h13 H=>za (zj (z8y x6.Value r12 h13) ⟨.inl Z,U⟩) (za (yk Z) (zi _ Z (fun h14 => ?_) (fun h14 => ?_)))))))
    ·refine tE h14 H fun H=>zc hN Z (qe Z (zg ?_))
     replace H:=retl H hq4
     cases H
     exact ⟨U,.inl Z,U⟩
    ·exact fE h14 H fun H=>zn (zq hN Z (za (wy Z Z (by omega)) (qd Z ⟨_,qr H,⟨Z,Z,Z,U⟩,U⟩)))
theorem y86 (r1:yd) (r:(Int)) (H:z3b r1=some r):Fn Tryz.prog 30 [vagg (qc r1)] (zp [vint r]):=by
 refine ⟨by kernel_rfl,zy (us:=[vint r]) Tryz.func30 Z Z Z Z fun X hN => ?_⟩
 unfold z3b at H
 refine zc hN Z (zo (vp 1 Z) Z (qe Z (zh (zc hN Z (za (zv z4x Z) (zr (zx tyS3 Z Z) Z (bE H fun r2 h3 H=>za (zj (y89 r1.At r2 h3) ⟨.inl Z,U⟩) (za (yk Z) (zi _ Z (fun h4 => ?_) (fun h4 => ?_))))))))))
 ·refine tE h4 H fun H=>zc hN Z (qe Z (zg ?_))
  cases H
  exact ⟨U,.inl Z,U⟩
 ·refine fE h4 H fun H=>zn (zh (zc hN Z (za (zv z1z Z) (zr (zx tyS9 Z Z) Z (bE H fun r5 h6 H=>za (zj (z8x r1.Method r5 h6) ⟨.inl Z,U⟩) (za (yk Z) (zi _ Z (fun h7 => ?_) (fun h7 => ?_))))))))
  ·refine tE h7 H fun H=>zc hN Z (qe Z (zg ?_))
   cases H
   exact ⟨U,.inl Z,U⟩
  ·refine fE h7 H fun H=>zn (zh (zz (ι:=Bool) (fun i=>[(1,.ptr 1 0),(33,.dat (zf i))]) (fun i=>[(1,.box none 31 [.dat (vint r1.At),.dat (vstr r1.Method),.dat (vstr r1.Host),.dat (vstr r1.Path),.dat (vstr r1.Query),.dat (vstr r1.From),.dat (vlst (List.map yb r1.Headers)),.dat (vstr r1.Body)])]) (fun i=>xu r1 i=some r) (fun i=>Z) ?_ ?_))
   ·skip
    refine zq hN Z (za (zv z1y Z) (zr (zx tyS9 Z Z) Z (bE H fun r8 h9 H=>za (zj (y8v r1.Host r8 h9) ⟨.inl Z,U⟩) (za (yk Z) (qd Z (zu (j:=4) Z Z (fun h10 => ?_) (fun h10 => ?_) Z))))))
    ·refine u3 h10 H fun h11 H=>zd Z Z h10 (zv Wi Z) (wg Z Z h10 (zx tyS9 Z Z) Z (bE H fun r12 h13 H=>zd Z Z h10 (zj (y2k r1.Path r12 h13) ⟨.inl Z,U⟩) (zd Z Z h10 (qk Z Z) (za (zl Z (bFF h11) Z) (qd Z (zu (j:=10) Z Z (fun h14 => ?_) (fun h14 => ?_) Z))))))
     ·refine u3 h14 H fun h15 H=>zd Z Z h14 (zv Zv Z) (wg Z Z h14 (zx tyS9 Z Z) Z (bE H fun r16 h17 H=>zd Z Z h14 (zj (y8o r1.Query r16 h17) ⟨.inl Z,U⟩) (zd Z Z h14 (qk Z Z) (za (zl Z (bFF h15) Z) (qd Z (zu (j:=16) Z Z (fun h18 => ?_) (fun h18 => ?_) Z))))))
      ·exact u3 h18 H fun h19 H=>zd Z Z h18 (zv z4w Z) (wg Z Z h18 (zx tyS9 Z Z) Z (bE H fun r20 h21 H=>zd Z Z h18 (zj (z8y r1.From r20 h21) ⟨.inl Z,U⟩) (zd Z Z h18 (yk Z) (za (zl Z (bFF h19) Z) ⟨!r20,H,⟨Z,Z,U⟩,⟨Z,U⟩⟩))))
      ·exact u4 h18 H fun h22 H=>zb Z Z h18 (zb Z Z h18 (zb Z Z h18 (zb Z Z h18 (za (zm Z (bTT h22) Z) ⟨true,H,⟨Z,Z,U⟩,⟨Z,U⟩⟩))))
     ·exact u4 h14 H fun h23 H=>zb Z Z h14 (zb Z Z h14 (zb Z Z h14 (zb Z Z h14 (za (zm Z (bTT h23) Z) (qd Z (zb Z Z Z (zb Z Z Z (zb Z Z Z (zb Z Z Z (za (zm Z Z Z) ⟨true,H,⟨Z,Z,U⟩,⟨Z,U⟩⟩))))))))))
    ·exact u4 h10 H fun h24 H=>zb Z Z h10 (zb Z Z h10 (zb Z Z h10 (zb Z Z h10 (za (zm Z (bTT h24) Z) (qd Z (zb Z Z Z (zb Z Z Z (zb Z Z Z (zb Z Z Z (za (zm Z Z Z) (qd Z (zb Z Z Z (zb Z Z Z (zb Z Z Z (zb Z Z Z (za (zm Z Z Z) ⟨true,H,⟨Z,Z,U⟩,⟨Z,U⟩⟩))))))))))))))))
   ·rintro v25 H
    replace H:xu r1 v25=some r:=H
    unfold xu at H
    refine zi _ Z (fun h26 => ?_) (fun h26 => ?_)
    ·refine tE h26 H fun H=>zc hN Z (qe Z (zg ?_))
     cases H
     exact ⟨U,.inl Z,U⟩
    ·refine fE h26 H fun H=>zn (zh (zc hN Z (za (zv z1x Z) (zr (zx qw Z Z) Z (bE H fun r27 h28 H=>za (zj (y2l r1.Headers r27 h28) ⟨.inl Z,U⟩) (qe Z (zc hN Z (qd Z (za (qk Z Z) (zi _ Z (fun h29 => ?_) (fun h29 => ?_)))))))))))
     ·refine tE h29 H fun H=>zc hN Z (qd Z (qe Z (zg ?_)))
      cases H
      exact ⟨U,.inl Z,U⟩
     ·refine fE h29 H fun H=>zn (zh (zc hN Z (za (zv Wh Z) (zr (zx tyS9 Z Z) Z (za (yi tyU9 Z) (za (qb Z Z) (zi _ Z (fun h30 => ?_) (fun h30 => ?_))))))))
      ·refine tE h30 H fun H=>zc hN Z (qe Z (zg ?_))
       cases H
       exact ⟨U,.inl Z,U⟩
      ·refine fE h30 H fun H=>zn (zc hN Z (qe Z (zg ?_)))
       cases H
       exact ⟨U,.inl Z,U⟩
theorem y83 (v1:Bs) (r:(yd×Int×Int)) (H:z28 v1=some r):Fn Tryz.prog 6 [vstr v1] (zp [vagg (qc r.1),vint r.2.1,vint r.2.2]):=by
 refine ⟨by kernel_rfl,zy (us:=[vagg (qc r.1),vint r.2.1,vint r.2.2]) Tryz.func6 Z Z Z Z fun X hN => ?_⟩
 unfold z28 at H
 refine zc hN Z (zo (qm 1 vf Z) Z (qe Z (qe Z (zh (zc hN Z (qd Z (za (yi tyU9 Z) (za (qb Z Z) (zi _ Z (fun h2 => ?_) (fun h2 => ?_))))))))))
 ·refine tE h2 H fun H=>zc hN Z (za (wn (u':=vagg (qc (yd.mk 0 [] [] [] [] [] [] []))) (wm (by exact ⟨zw,zw,zw,zw,zw,zw,wd,zw,U⟩)) (va [] vf uo Z U)) ?_)
  refine zo (yq yr Z Z Z Z) Z (qe Z (qe Z (zg ?_)))
  cases H
  exact ⟨U,.inl ⟨_,_,_,qc (yd.mk 0 [] [] [] [] [] [] []),Z,Z,Z,Z,yr⟩,.inl Z,.inl Z,U⟩
 ·refine fE h2 H fun H=>zn (zc hN Z (qd Z (bE H fun r3 h4 H=>za (zj (y2i v1 r3 h4) ⟨.inl Z,U⟩) (qd Z (za (zt Z Z) (za (zt Z Z) (zo (qm 2 z4r Z) Z (zo (yq js Z Z Z Z) Z (qe Z (zc hN Z (za (zv z7h Z) (zr (zx tyS9 Z Z) Z (bE H fun r5 h6 H=>za (zj (y87 r3.1.first_ r5 h6) ⟨.inl Z,U⟩) (qd Z (za (zt Z Z) (za (zt Z Z) (qe Z (qe Z (zh (zz (ι:=Bool) (fun i=>[(0,.dat (vstr v1)),(2,.ptr 1 0),(5,.ptr 2 0),(7,.dat (vlst (List.map ye r5.1))),(47,.dat (zf i))]) (fun i=>[(1,.box none 31 [.dat (vint 0),.dat (vstr []),.dat (vstr []),.dat (vstr []),.dat (vstr []),.dat (vstr []),.dat (vnil),.dat (vstr [])]),(2,.box none 57 [.dat (vstr r3.1.first_),.dat (vlst (List.map yb r3.1.headers_)),.dat (vint r3.1.at_)])]) (fun i=>kb v1 r3 r5 i=some r) (fun i=>Z) ?_ ?_))))))))))))))))))))
  ·skip
   refine zq hN Z (qd Z (za (yk Z) (qd Z (zu (j:=2) Z Z (fun h7 => ?_) (fun h7 => ?_) Z))))
   ·refine u3 h7 H fun h8 H=>zd Z Z h7 (ze (.dat _) Z) (zd Z Z h7 (yk Z) (za (zl Z (bFF h8) Z) (qd Z (zu (j:=6) Z Z (fun h9 => ?_) (fun h9 => ?_) Z))))
    ·refine u3 h9 H fun h10 H=>zd Z Z h9 (ze (.dat _) Z) (zd Z Z h9 (yw wb Z) (zd Z Z h9 (qk Z Z) (za (zl Z (bFF h10) Z) (qd Z (zu (j:=11) Z Z (fun h11 => ?_) (fun h11 => ?_) Z)))))
     ·exact u3 h11 H fun h12 H=>zd Z Z h11 (ze (.dat _) Z) (bE H fun x13 h14 H=>zd Z Z h11 (qx ww (fun _=>Z) Z Z h14) (zd Z Z h11 (wa tyS9 Z (qq h14) Z) (zd Z Z h11 (vc Z Z) (za (zl Z (bFF h12) Z) ⟨decide (x13≠[72,84,84,80,47,49,46,49]),H,⟨Z,Z,Z,Z,Z,U⟩,⟨Z,Z,U⟩⟩))))
     ·exact u4 h11 H fun h15 H=>zb Z Z h11 (zb Z Z h11 (zb Z Z h11 (zb Z Z h11 (za (zm Z (bTT h15) Z) ⟨true,H,⟨Z,Z,Z,Z,Z,U⟩,⟨Z,Z,U⟩⟩))))
    ·exact u4 h9 H fun h16 H=>zb Z Z h9 (zb Z Z h9 (zb Z Z h9 (za (zm Z (bTT h16) Z) (qd Z (zb Z Z Z (zb Z Z Z (zb Z Z Z (zb Z Z Z (za (zm Z Z Z) ⟨true,H,⟨Z,Z,Z,Z,Z,U⟩,⟨Z,Z,U⟩⟩)))))))))
   ·exact u4 h7 H fun h17 H=>zb Z Z h7 (zb Z Z h7 (za (zm Z (bTT h17) Z) (qd Z (zb Z Z Z (zb Z Z Z (zb Z Z Z (za (zm Z Z Z) (qd Z (zb Z Z Z (zb Z Z Z (zb Z Z Z (zb Z Z Z (za (zm Z Z Z) ⟨true,H,⟨Z,Z,Z,Z,Z,U⟩,⟨Z,Z,U⟩⟩)))))))))))))
  ·rintro v18 H
   replace H:kb v1 r3 r5 v18=some r:=H
   unfold kb at H
   refine zi _ Z (fun h19 => ?_) (fun h19 => ?_)
   ·refine tE h19 H fun H=>zc hN Z (za (wn (u':=vagg (qc (yd.mk 0 [] [] [] [] [] [] []))) (wm (by exact ⟨zw,zw,zw,zw,zw,zw,wd,zw,U⟩)) (va [] vf uo Z U)) ?_)
    refine zo (yq yr Z Z Z Z) Z (qe Z (qe Z (zg ?_)))
    cases H
    exact ⟨U,.inl ⟨_,_,_,qc (yd.mk 0 [] [] [] [] [] [] []),Z,Z,Z,Z,yr⟩,.inl Z,.inl Z,U⟩
   ·refine fE h19 H fun H=>zn (zh (zc hN Z (za (zv xi Z) (zr (zx qw Z Z) Z (za (yw vg Z) (za (qb Z Z) (zi _ Z (fun h20 => ?_) (fun h20 => ?_))))))))
    ·refine tE h20 H fun H=>zc hN Z (za (wn (u':=vagg (qc (yd.mk 0 [] [] [] [] [] [] []))) (wm (by exact ⟨zw,zw,zw,zw,zw,zw,wd,zw,U⟩)) (va [] vf uo Z U)) ?_)
     refine zo (yq yr Z Z Z Z) Z (qe Z (qe Z (zg ?_)))
     cases H
     exact ⟨U,.inl ⟨_,_,_,qc (yd.mk 0 [] [] [] [] [] [] []),Z,Z,Z,Z,yr⟩,.inl Z,.inl Z,U⟩
    ·refine fE h20 H fun H=>zn (zc hN Z (za (zv xi Z) (zr (zx qw Z Z) Z (bE H fun r21 h22 H=>za (zj (z32 r3.1.headers_ [104,111,115,116] r21 h22) ⟨.inl Z,.inl Z,U⟩) (qe Z (zh (zc hN Z (qd Z (za (yw wb Z) (za (yp Z Z) (zi _ Z (fun h23 => ?_) (fun h23 => ?_))))))))))))
     ·refine tE h23 H fun H=>zc hN Z (za (wn (u':=vagg (qc (yd.mk 0 [] [] [] [] [] [] []))) (wm (by exact ⟨zw,zw,zw,zw,zw,zw,wd,zw,U⟩)) (va [] vf uo Z U)) ?_)
      refine zo (yq yr Z Z Z Z) Z (qe Z (qe Z (zg ?_)))
      cases H
      exact ⟨U,.inl ⟨_,_,_,qc (yd.mk 0 [] [] [] [] [] [] []),Z,Z,Z,Z,yr⟩,.inl Z,.inl Z,U⟩
     ·refine fE h23 H fun H=>zn (zc hN Z (zr (qa js Z Z Z) Z (qd Z (qd Z (za (yw wb Z) (bE H fun r24 h25 H=>za (zj (y20 r3.1 v1 (r21.length:Int) r24 h25) ⟨.inl Z,.inl Z,.inl Z,U⟩) (qd Z (za (zt Z Z) (za (zt Z Z) (za (zt Z Z) (za (zt Z Z) (qe Z (qe Z (qe Z (qe Z (zh (zc hN Z (qd Z (za (qk Z Z) (zi _ Z (fun h26 => ?_) (fun h26 => ?_)))))))))))))))))))))
      ·refine tE h26 H fun H=>zc hN Z (za (wn (u':=vagg (qc (yd.mk 0 [] [] [] [] [] [] []))) (wm (by exact ⟨zw,zw,zw,zw,zw,zw,wd,zw,U⟩)) (va [] vf uo Z U)) ?_)
       refine qd Z (zo (yq yr Z Z Z Z) Z (qe Z (qe Z (zg ?_))))
       cases H
       exact ⟨U,.inl ⟨_,_,_,qc (yd.mk 0 [] [] [] [] [] [] []),Z,Z,Z,Z,yr⟩,.inl Z,.inl Z,U⟩
      ·refine fE h26 H fun H=>zn (zh (wz mixed hN Z Z (qd Z (bE H fun x27 h28 H=>za (qx ww (fun _=>Z) Z Z h28) (za (wa tyS9 Z (qq h28) Z) (qd Z (bE H fun x29 h30 H=>za (qx ww (fun _=>Z) Z Z h30) (za (wa tyS9 Z (qq h30) Z) (qd Z (bE H fun r31 h32 H=>za (zj (y8l r24.1 [104,111,115,116] r31 h32) ⟨.inl Z,.inl Z,U⟩) (qd Z (za (yo (u':=vagg (qc (yd.mk 0 x27 x29 [] [] [] r31 r24.2.1))) (va [(1,[vstr x27]),(2,[vstr x29]),(6,[vlst (List.map yb r31)]),(7,[vstr r24.2.1])] vf uo Z ⟨Z,.inl ⟨_,Z,Z,Z⟩,Z,Z,.inl ⟨_,Z,Z,Z⟩,Z,Z,.inl ⟨_,Z,Z,Z⟩,Z,Z,.inl ⟨_,Z,Z,Z⟩,Z,U⟩) Z) (zo (qm 3 vf Z) Z (zo (yq yr Z Z Z Z) Z ⟨Z,?_⟩))))))))))))))
       refine zc hN Z (qd Z (bE H fun x33 h34 H=>za (qx ww (fun _=>Z) Z Z h34) (za (wa tyS9 Z (qq h34) Z) (bE H fun r35 h36 H=>za (zj (kf x33 [63] r35 h36) ⟨.inl Z,.inl Z,U⟩) (qd Z (za (zt Z Z) (za (zt Z Z) (za (zt Z Z) (za (zv Wi Z) (zo (ur tyS9 Z Z Z Z) Z (za (zv Zv Z) (zo (ur tyS9 Z Z Z Z) Z (zh (zc hN Z (zr (qa yr Z Z Z) Z (bE H fun r37 h38 H=>za (zj (y86 (yd.mk 0 x27 x29 r35.1 r35.2.1 [] r31 r24.2.1) r37 h38) ⟨.inl Z,U⟩) (qe Z (zc hN Z (qd Z (za (qk Z Z) ?_))))))))))))))))))))
       refine zi _ Z (fun h39 => ?_) (fun h39 => ?_)
       ·refine tE h39 H fun H=>zc hN Z (za (wn (u':=vagg (qc (yd.mk 0 [] [] [] [] [] [] []))) (wm (by exact ⟨zw,zw,zw,zw,zw,zw,wd,zw,U⟩)) (va [] vf uo Z U)) ?_)
        refine qd Z (zo (yq yr Z Z Z Z) Z (qe Z (qe Z (zg ?_))))
        cases H
        exact ⟨U,.inl ⟨_,_,_,qc (yd.mk 0 [] [] [] [] [] [] []),Z,Z,Z,Z,yr⟩,.inl Z,.inl Z,U⟩
       ·refine fE h39 H fun H=>zn (zc hN Z (zr (qa yr Z Z Z) Z (qd Z (zo (yq yr Z Z Z Z) Z (qe Z (qe Z (zg ?_)))))))
        cases H
        exact ⟨U,.inl ⟨_,_,_,qc (yd.mk 0 x27 x29 r35.1 r35.2.1 [] r31 r24.2.1),Z,Z,Z,Z,yr⟩,.inl Z,.inl Z,U⟩
theorem Yz (n1:Int) (low2:Int) (high3:Int) (r:(Bool)) (H:kc n1 low2 high3=some r):Fn Tryz.prog 100 [vint n1,vint low2,vint high3] (zp [zf r]):=by
 refine ⟨by kernel_rfl,zy (us:=[zf r]) Tryz.func100 Z Z Z Z fun X hN => ?_⟩
 unfold kc at H
 refine zc hN Z (qe Z (zc hN Z (qd Z (qd Z (za (we Z Z) (qd Z (qg Z Z (fun hc=>ze (.dat _) Z) (qg Z Z (fun hc=>ze (.dat _) Z) (qg Z Z (fun hc=>we (cnd (c:=(decide (low2≤n1))) hc) (cnd (c:=(decide (low2≤n1))) hc)) (za (wu Z (fun hb=>(cnd (c:=(decide (low2≤n1))) hb)) Z) (qe Z (zg ?_))))))))))))
 cases H
 exact ⟨U,.inl Z,U⟩
theorem z0x (s1:Bs) (some2:Bs) (r:(Bool)) (H:vn s1 some2=some r):Fn Tryz.prog 42 [vstr s1,vstr some2] (zp [zf r]):=by
 refine ⟨by kernel_rfl,zy (us:=[zf r]) Tryz.func42 Z Z Z Z fun X hN => ?_⟩
 unfold vn at H
 refine zc hN Z (qe Z (zh (zc hN Z (qd Z (za (yi tyU9 Z) (qd Z (yc (gE H fun h5 H=>ve (fun (k3:Nat) (s:Unit)=>[(0,.dat (vstr s1)),(1,.dat (vstr some2)),(7,.dat (vint (s1.length:Int))),(8,.dat (vint (k3:Int)))]) (fun (k3:Nat) (s:Unit)=>[]) () H ⟨Z,Z,Z,Z,U⟩ U (fun _ _=>Z) ?_ ?_))))))))
 ·rintro ⟨⟩ H
  replace H:z9d=some r:=H
  unfold z9d at H
  refine zc hN Z (za (yg Z Z) (zh (zi _ Z (fun h=>(lt_t h).elim) (fun h => ?_))))
  refine qj (zc hN Z (qe Z (zg ?_)))
  cases H
  exact ⟨U,.inl Z,U⟩
 ·rintro k3 x6 ⟨⟩ q4 h7 h8 H hq4
  replace H:z6r some2 k3 x6=some q4:=H
  unfold z6r at H
  refine zc hN Z (za (yg Z Z) (zh (zi _ Z (fun h => ?_) (fun h=>(lt_f h7 h).elim))))
  refine zn (zh (yc (zc hN Z (qd Z (qe Z (zc hN Z (qd Z (qd Z (qd Z (za (qh tyU9 Z Z h8) (bE H fun r9 h10 H=>za (zj (z8t some2 (x6.toNat:Int) r9 h10) ⟨.inl Z,.inl Z,U⟩) (za (yg Z Z) (zi _ Z (fun h11 => ?_) (fun h11 => ?_))))))))))))))
  ·refine tE h11 H fun H=>zc hN Z (qe Z (zg ?_))
   replace H:=retl H hq4
   cases H
   exact ⟨U,.inl Z,U⟩
  ·exact fE h11 H fun H=>zn (zq hN Z (za (wy Z Z (by omega)) (qd Z ⟨_,qr H,⟨Z,Z,Z,Z,U⟩,U⟩)))
theorem z8z (s1:Bs) (r:(Bool)) (H:Yw s1=some r):Fn Tryz.prog 77 [vstr s1] (zp [zf r]):=by
 refine ⟨by kernel_rfl,zy (us:=[zf r]) Tryz.func77 Z Z Z Z fun X hN => ?_⟩
 unfold Yw at H
 refine zc hN Z (qe Z (zz (ι:=Bool) (fun i=>[(2,.dat (zf i))]) (fun i=>[]) (fun i=>z1a i=some r) (fun i=>Z) ?_ ?_))
 ·skip
  refine zq hN Z (qd Z (za (yi tyU9 Z) (bE H fun r2 h3 H=>za (zj (Yz (s1.length:Int) 1 100 r2 h3) ⟨.inl Z,.inl Z,.inl Z,U⟩) (qd Z (zu (j:=3) Z Z (fun h4 => ?_) (fun h4 => ?_) Z)))))
  ·exact u1 h4 H fun h5 H=>zd Z Z h4 (ze (.dat _) Z) (bE H fun r6 h7 H=>zd Z Z h4 (zj (z0x s1 [97,98,99,100,101,102,103,104,105,106,107,108,109,110,111,112,113,114,115,116,117,118,119,120,121,122,65,66,67,68,69,70,71,72,73,74,75,76,77,78,79,80,81,82,83,84,85,86,87,88,89,90,48,49,50,51,52,53,54,55,56,57,33,35,36,37,38,39,42,43,45,46,94,95,96,124,126] r6 h7) ⟨.inl Z,.inl Z,U⟩) (za (zm Z (bTT h5) Z) (qe Z ⟨r6,H,⟨Z,U⟩,U⟩)))
  ·exact u2 h4 H fun h8 H=>zb Z Z h4 (zb Z Z h4 (za (zl Z (bFF h8) Z) (qe Z ⟨false,H,⟨Z,U⟩,U⟩)))
 ·rintro v9 H
  replace H:z1a v9=some r:=H
  unfold z1a at H
  refine zg ?_
  cases H
  exact ⟨U,.inl Z,U⟩
theorem z6j (s1:Bs) (low2:Int) (r:(Bool)) (H:Zf s1 low2=some r):Fn Tryz.prog 43 [vstr s1,vval (.int .u8 low2)] (zp [zf r]):=by
 refine ⟨by kernel_rfl,zy (us:=[zf r]) Tryz.func43 Z Z Z Z fun X hN => ?_⟩
 unfold Zf at H
 refine zc hN Z (qe Z (zh (zc hN Z (qd Z (za (yi tyU9 Z) (qd Z (yc (gE H fun h5 H=>ve (fun (k3:Nat) (s:Unit)=>[(0,.dat (vstr s1)),(1,.dat (vval (.int .u8 low2))),(7,.dat (vint (s1.length:Int))),(8,.dat (vint (k3:Int)))]) (fun (k3:Nat) (s:Unit)=>[]) () H ⟨Z,Z,Z,Z,U⟩ U (fun _ _=>Z) ?_ ?_))))))))
 ·rintro ⟨⟩ H
  replace H:z9c=some r:=H
  unfold z9c at H
  refine zc hN Z (za (yg Z Z) (zh (zi _ Z (fun h=>(lt_t h).elim) (fun h => ?_))))
  refine qj (zc hN Z (qe Z (zg ?_)))
  cases H
  exact ⟨U,.inl Z,U⟩
 ·rintro k3 x6 ⟨⟩ q4 h7 h8 H hq4
  replace H:z9b low2 k3 x6=some q4:=H
  unfold z9b at H
  refine zc hN Z (za (yg Z Z) (zh (zi _ Z (fun h => ?_) (fun h=>(lt_f h7 h).elim))))
  refine zn (zh (yc (zc hN Z (qd Z (qe Z (zz (ι:=Bool) (fun i=>[(0,.dat (vstr s1)),(1,.dat (vval (.int .u8 low2))),(7,.dat (vint (s1.length:Int))),(8,.dat (vint (k3:Int))),(21,.dat (zf i))]) (fun i=>[]) (fun i=>z4b i=some q4) (fun i=>Z) ?_ ?_))))))
  ·skip
   refine zq hN Z (qd Z (qd Z (za (qh tyU9 Z Z h8) (qd Z (za (yg Z Z) (qd Z (zu (j:=5) Z Z (fun h9 => ?_) (fun h9 => ?_) Z)))))))
   ·exact u3 h9 H fun h10 H=>zd Z Z h9 (ze (.dat _) Z) (zd Z Z h9 (ze (.dat _) Z) (zd Z Z h9 (qh tyU9 Z Z h8) (zd Z Z h9 (qb Z Z) (za (zl Z (bFF h10) Z) ⟨decide (126 < (x6.toNat:Int)),H,⟨Z,Z,Z,Z,Z,U⟩,U⟩))))
   ·exact u4 h9 H fun h11 H=>zb Z Z h9 (zb Z Z h9 (zb Z Z h9 (zb Z Z h9 (za (zm Z (bTT h11) Z) ⟨true,H,⟨Z,Z,Z,Z,Z,U⟩,U⟩))))
  ·rintro v12 H
   replace H:z4b v12=some q4:=H
   unfold z4b at H
   refine zi _ Z (fun h13 => ?_) (fun h13 => ?_)
   ·refine tE h13 H fun H=>zc hN Z (qe Z (zg ?_))
    replace H:=retl H hq4
    cases H
    exact ⟨U,.inl Z,U⟩
   ·exact fE h13 H fun H=>zn (zq hN Z (za (wy Z Z (by omega)) (qd Z ⟨_,qr H,⟨Z,Z,Z,Z,U⟩,U⟩)))
theorem z81 (s1:Bs) (r:(Bool)) (H:z0r s1=some r):Fn Tryz.prog 78 [vstr s1] (zp [zf r]):=by
 refine ⟨by kernel_rfl,zy (us:=[zf r]) Tryz.func78 Z Z Z Z fun X hN => ?_⟩
 unfold z0r at H
 refine zc hN Z (qe Z (zz (ι:=Bool) (fun i=>[(2,.dat (zf i))]) (fun i=>[]) (fun i=>z1e i=some r) (fun i=>Z) ?_ ?_))
 ·skip
  refine zq hN Z (qd Z (za (yi tyU9 Z) (za (we Z Z) (qd Z (zu (j:=3) Z Z (fun h2 => ?_) (fun h2 => ?_) Z)))))
  ·refine u1 h2 H fun h3 H=>zd Z Z h2 (ze (.dat _) Z) (bE H fun r4 h5 H=>zd Z Z h2 (zj (z6j s1 32 r4 h5) ⟨.inl Z,.inl Z,U⟩) (za (zm Z (bTT h3) Z) (qd Z (zu (j:=7) Z Z (fun h6 => ?_) (fun h6 => ?_) Z))))
   ·exact u1 h6 H fun h7 H=>zd Z Z h6 (ze (.dat _) Z) (bE H fun r8 h9 H=>zd Z Z h6 (zj (z3z s1 [32] r8 h9) ⟨.inl Z,.inl Z,U⟩) (zd Z Z h6 (ze (.dat _) Z) (zd Z Z h6 (qy Z Z) (za (zm Z (bTT h7) Z) (qe Z ⟨decide (r8=s1),H,⟨Z,U⟩,U⟩)))))
   ·exact u2 h6 H fun h10 H=>zb Z Z h6 (zb Z Z h6 (zb Z Z h6 (zb Z Z h6 (za (zl Z (bFF h10) Z) (qe Z ⟨false,H,⟨Z,U⟩,U⟩)))))
  ·exact u2 h2 H fun h11 H=>zb Z Z h2 (zb Z Z h2 (za (zl Z (bFF h11) Z) (qd Z (zb Z Z Z (zb Z Z Z (zb Z Z Z (zb Z Z Z (za (zl Z Z Z) (qe Z ⟨false,H,⟨Z,U⟩,U⟩)))))))))
 ·rintro v12 H
  replace H:z1e v12=some r:=H
  unfold z1e at H
  refine zg ?_
  cases H
  exact ⟨U,.inl Z,U⟩
theorem y2u (v1:Bs) (r:(qp×Int)) (H:Zh v1=some r):Fn Tryz.prog 31 [vstr v1] (zp [vagg (Zs r.1),vint r.2]):=by
 refine ⟨by kernel_rfl,zy (us:=[vagg (Zs r.1),vint r.2]) Tryz.func31 Z Z Z Z fun X hN => ?_⟩
 unfold Zh at H
 refine zc hN Z (zo (qm 1 z4q Z) Z (qe Z (zc hN Z (zo (qm 2 z4q Z) Z (zc hN Z (qe Z (zh (zc hN Z (qd Z (bE H fun r2 h3 H=>za (zj (kf v1 [13,10] r2 h3) ⟨.inl Z,.inl Z,U⟩) (qd Z (za (zt Z Z) (za (zt Z Z) (za (zt Z Z) (za (zv z7g Z) (zo (ur tyS9 Z Z Z Z) Z (qe Z (qe Z (zc hN Z (qd Z (za (yk Z) (zi _ Z (fun h4 => ?_) (fun h4 => ?_)))))))))))))))))))))))
 ·refine tE h4 H fun H=>zc hN Z (zr (wn (u':=vagg (Zs (qp.mk r2.1 [] []))) (wm (by exact ⟨zw,wd,zw,U⟩)) (qa vv Z Z Z)) Z ?_)
  refine zo (yq vv Z Z Z Z) Z (qe Z (zg ?_))
  cases H
  exact ⟨U,.inl ⟨_,_,_,Zs (qp.mk r2.1 [] []),Z,Z,Z,Z,vv⟩,.inl Z,U⟩
 ·refine fE h4 H fun H=>zn (zz (ι:=(List zk)×Bs) (fun i=>[(2,.ptr 1 0),(4,.ptr 2 0)]) (fun i=>[(1,.box none 69 [.dat (vstr []),.dat (vnil),.dat (vstr [])]),(2,.box none 69 [.dat (vstr r2.1),.row 3 i.1.length,.dat (vstr i.2)]),(3,.row 91 2 (List.map yb i.1))]) (fun i=>z6s r2 i.1 i.2=some r) (fun i=>Z) ?_ ?_)
  ·skip
   refine yc (z66 2 1 3 91 2 Z Z Z Z (ki (fun (s:Bs×(List zk))=>[(0,.dat (vstr s.1)),(2,.ptr 1 0),(4,.ptr 2 0)]) (fun (s:Bs×(List zk))=>[(1,.box none 69 [.dat (vstr []),.dat (vnil),.dat (vstr [])]),(2,.box none 69 [.dat (vstr r2.1),.row 3 s.2.length,.dat (vstr [])]),(3,.row 91 2 (List.map yb s.2))]) (r2.2.1,([]:List zk)) H ⟨Z,Z,Z,U⟩ ⟨Z,(congrArg (fun n=>some (some (AObj.box none 69 [.dat (vstr r2.1),.row 3 n,.dat (vstr [])]))) (show 0=([]:List zk).length from (by simp))),Z,U⟩ (fun _=>Z) ?_))
   rintro ⟨v5,l6⟩ q7 H hq7
   replace H:ku r2 v5 l6=some q7:=H
   unfold ku at H
   refine vt (yc (zc hN Z (qd Z (bE H fun r8 h9 H=>za (zj (kf v5 [13,10] r8 h9) ⟨.inl Z,.inl Z,U⟩) (qd Z (za (zt Z Z) (za (zt Z Z) (za (zt Z Z) (qe Z (qe Z (qe Z (zh (zc hN Z (qd Z (za (yk Z) (zi _ Z (fun h10 => ?_) (fun h10 => ?_)))))))))))))))))
   ·refine tE h10 H fun H=>zh (z1k 2 1 3 Z Z Z (by rw [List.length_map]) ?_)
    refine zq hN Z (zr (qa vv Z Z Z) Z (zo (yq vv Z Z Z Z) Z (qe Z (zg ?_))))
    replace H:=retl H hq7
    cases H
    show Cv _ _ _ _
    exact qv ⟨U,.inl ⟨_,_,_,Zs (qp.mk r2.1 l6 []),Z,Z,Z,Z,vv⟩,.inl Z,U⟩
   ·refine fE h10 H fun H=>zn (zc hN Z (qd Z (qe Z (zh (zc hN Z (qd Z (za (qy Z Z) (zi _ Z (fun h11 => ?_) (fun h11 => ?_)))))))))
    ·refine tE h11 H fun H=>zc hN Z (qd Z (za (zv Zu Z) (zo (ur tyS9 Z Z Z Z) Z (qj ?_))))
     replace H:=outl H hq7
     show Cv _ _ _ _
     exact qv ⟨(l6,r8.2.1),H,⟨Z,Z,U⟩,⟨Z,Z,Z,U⟩⟩
    ·refine fE h11 H fun H=>zn (zc hN Z (qd Z (bE H fun r12 h13 H=>za (zj (kf r8.1 [58] r12 h13) ⟨.inl Z,.inl Z,U⟩) (qd Z (za (zt Z Z) (za (zt Z Z) (za (zt Z Z) (qe Z (qe Z (qe Z (zc hN Z (qd Z (bE H fun r14 h15 H=>za (zj (z3z r12.2.1 [32] r14 h15) ⟨.inl Z,.inl Z,U⟩) (qe Z (zh (zz (ι:=Bool) (fun i=>[(0,.dat (vstr r8.2.1)),(2,.ptr 1 0),(4,.ptr 2 0),(9,.dat (vstr r12.1)),(10,.dat (vstr r14)),(54,.dat (zf i))]) (fun i=>[(1,.box none 69 [.dat (vstr []),.dat (vnil),.dat (vstr [])]),(2,.box none 69 [.dat (vstr r2.1),.row 3 l6.length,.dat (vstr [])]),(3,.row 91 2 (List.map yb l6))]) (fun i=>Qq r2 l6 r8 r12 r14 i=some q7) (fun i=>Z) ?_ ?_))))))))))))))))
     ·refine vt (zq hN Z (qd Z (za (yk Z) (qd Z (zu (j:=2) Z Z (fun h16 => ?_) (fun h16 => ?_) Z)))))
      ·refine u3 h16 H fun h17 H=>zd Z Z h16 (ze (.dat _) Z) (bE H fun r18 h19 H=>zd Z Z h16 (zj (z8z r12.1 r18 h19) ⟨.inl Z,U⟩) (zd Z Z h16 (yk Z) (za (zl Z (bFF h17) Z) (qd Z (zu (j:=7) Z Z (fun h20 => ?_) (fun h20 => ?_) Z)))))
       ·refine u3 h20 H fun h21 H=>zd Z Z h20 (ze (.dat _) Z) (bE H fun r22 h23 H=>zd Z Z h20 (zj (z81 r14 r22 h23) ⟨.inl Z,U⟩) (zd Z Z h20 (yk Z) (za (zl Z (bFF h21) Z) (vi ?_))))
        show Cv _ _ _ _
        exact qv ⟨!r22,H,⟨Z,Z,Z,Z,Z,Z,U⟩,⟨Z,Z,Z,U⟩⟩
       ·refine u4 h20 H fun h24 H=>zb Z Z h20 (zb Z Z h20 (zb Z Z h20 (za (zm Z (bTT h24) Z) (vi ?_))))
        show Cv _ _ _ _
        exact qv ⟨true,H,⟨Z,Z,Z,Z,Z,Z,U⟩,⟨Z,Z,Z,U⟩⟩
      ·refine u4 h16 H fun h25 H=>zb Z Z h16 (zb Z Z h16 (zb Z Z h16 (za (zm Z (bTT h25) Z) (qd Z (zb Z Z Z (zb Z Z Z (zb Z Z Z (za (zm Z Z Z) (vi ?_)))))))))
       show Cv _ _ _ _
       exact qv ⟨true,H,⟨Z,Z,Z,Z,Z,Z,U⟩,⟨Z,Z,Z,U⟩⟩
     ·rintro v26 H
      replace H:Qq r2 l6 r8 r12 r14 v26=some q7:=H
      unfold Qq at H
      refine zi _ Z (fun h27 => ?_) (fun h27 => ?_)
      ·refine tE h27 H fun H=>zh (z1k 2 1 3 Z Z Z (by rw [List.length_map]) ?_)
       refine zq hN Z (zr (qa vv Z Z Z) Z (zo (yq vv Z Z Z Z) Z (qe Z (zg ?_))))
       replace H:=retl H hq7
       cases H
       show Cv _ _ _ _
       exact qv ⟨U,.inl ⟨_,_,_,Zs (qp.mk r2.1 l6 []),Z,Z,Z,Z,vv⟩,.inl Z,U⟩
      ·refine fE h27 H fun H=>zn (zq hN Z (za (zv kj Z) (zr (zx qw Z Z) Z (qd Z (qd Z (za (yo (u':=vagg (yb (zk.mk r12.1 r14))) (va [(0,[vstr r12.1]),(1,[vstr r14])] ky z7e Z ⟨Z,.inl ⟨_,Z,Z,Z⟩,Z,Z,.inl ⟨_,Z,Z,Z⟩,Z,U⟩) Z) (za (yo (u':=vlst (List.map yb [(zk.mk r12.1 r14)])) (wc [_] xh ⟨Z,.inr Z,Z,U⟩ Z Z) Z) (gE H fun h28 H=>zo (xj xh (fun _=>Z) Z Z Z ⟨by simp,by first | (simp; done) | simpa using h28⟩ Z) Z ?_))))))))
       refine za (zv kj Z) (z5b (z42 qw Z Z (by rw [List.length_map]) Z) Z Z ?_)
       refine vi ?_
       show Cv _ _ _ _
       exact qv ⟨_,qr H,⟨Z,Z,Z,U⟩,⟨Z,Z,Z,U⟩⟩
  ·rintro ⟨l29,c30⟩ H
   replace H:z6s r2 l29 c30=some r:=H
   unfold z6s at H
   refine zh (z1k 2 1 3 Z Z Z (by rw [List.length_map]) ?_)
   refine zq hN Z (zr (qa vv Z Z Z) Z (zo (yq vv Z Z Z Z) Z (qe Z (zg ?_))))
   cases H
   exact ⟨U,.inl ⟨_,_,_,Zs (qp.mk r2.1 l29 c30),Z,Z,Z,Z,vv⟩,.inl Z,U⟩
theorem z6k (l1:(List zk)) (name2:Bs) (r:((List Bs))) (H:vy l1 name2=some r):Fn Tryz.prog 34 [vlst (List.map yb l1),vstr name2] (zp [vlst (List.map ye r)]):=by
 refine ⟨by kernel_rfl,zy (us:=[vlst (List.map ye r)]) Tryz.func34 Z Z Z Z fun X hN => ?_⟩
 unfold vy at H
 refine zc hN Z (qe Z (zc hN Z (qe Z (zh (zc hN Z (qd Z (za (yw vg Z) (qd Z (yc (z4h 5 1 9 1 Z Z Z (gE H fun h6 H=>ve (fun (k4:Nat) (s:(List Bs))=>[(1,.dat (vstr name2)),(5,.row 1 s.length),(8,.dat (vlst (List.map yb l1))),(9,.dat (vint (l1.length:Int))),(10,.dat (vint (k4:Int)))]) (fun (k4:Nat) (s:(List Bs))=>[(1,.row 9 1 (List.map ye s))]) [] H ⟨Z,Z,Z,Z,Z,U⟩ ⟨Z,U⟩ (fun _ _=>Z) ?_ ?_)))))))))))
 ·rintro l3 H
  replace H:z6t l3=some r:=H
  unfold z6t at H
  refine zc hN Z (za (yg Z Z) (zh (zi _ Z (fun h=>(lt_t h).elim) (fun h => ?_))))
  refine qj (zc hN Z (za (ze (.row _ _) Z) (za (vr (.row _ _) Z) (zg ?_))))
  cases H
  exact ⟨U,Wj Z Z,U⟩
 ·rintro k4 x7 l3 q5 h8 h9 H hq5
  replace H:Zq name2 k4 x7 l3=some q5:=H
  unfold Zq at H
  refine zc hN Z (za (yg Z Z) (zh (zi _ Z (fun h => ?_) (fun h=>(lt_f h8 h).elim))))
  refine zn (zz (ι:=(List Bs)) (fun i=>[(1,.dat (vstr name2)),(5,.row 1 i.length),(8,.dat (vlst (List.map yb l1))),(9,.dat (vint (l1.length:Int))),(10,.dat (vint (k4:Int)))]) (fun i=>[(1,.row 9 1 (List.map ye i))]) (fun i=>z09 i=some q5) (fun i=>Z) ?_ ?_)
  ·skip
   refine yc (zc hN Z (za (qx ka (fun _=>Z) Z Z h9) (za (xk wv Z (qq h9) Z) (zo (qm 2 ky Z) Z (zo (yq wv Z Z Z Z) Z (zc hN Z (za (zv Zt Z) (zr (zx tyS9 Z Z) Z (qd Z (bE H fun r10 h11 H=>za (zj (z0y x7.Name name2 r10 h11) ⟨.inl Z,.inl Z,U⟩) (zi _ Z (fun h12 => ?_) (fun h12 => ?_))))))))))))
   ·refine tE h12 H fun H=>zq hN Z (za (ze (.row _ _) Z) (za (zv z1t Z) (zr (zx tyS9 Z Z) Z (za (yo (u':=vlst (List.map ye [x7.Value])) (wc [[_]] wt ⟨Z,.inl ⟨_,Z,Z,Z⟩,Z,U⟩ Z Z) Z) (gE H fun h13 H=>zo (xj wt (fun _=>Z) Z Z Z ⟨by simp,by first | (simp; done) | simpa using h13⟩ Z) Z ?_)))))
    exact za (vr (.row _ _) Z) ⟨(l3++[x7.Value]),H,⟨Z,Z,Z,Z,Z,U⟩,⟨Z,U⟩⟩
   ·exact fE h12 H fun H=>zn ⟨l3,H,⟨Z,Z,Z,Z,Z,U⟩,⟨Z,U⟩⟩
  ·rintro out14 H
   replace H:z09 out14=some q5:=H
   unfold z09 at H
   exact zq hN Z (za (wy Z Z (by omega)) (qd Z ⟨_,qr H,⟨Z,Z,Z,Z,Z,U⟩,⟨Z,U⟩⟩))
theorem y8h (s1:(List Bs)) (p1:Bs→Option (Bool)) (fv1:Nat) (us1:List V) (hp1:∀ a0 r,p1 a0=some r→Fn Tryz.prog fv1 ([vstr a0]++us1) (zp [zf r])) (r:(Int)) (H:z8h s1 p1=some r):Fn Tryz.prog 136 [vlst (List.map ye s1),vfn fv1 us1] (zp [vint r]):=by
 refine ⟨by kernel_rfl,zy (us:=[vint r]) Tryz.func136 Z Z Z Z fun X hN => ?_⟩
 unfold z8h at H
 refine zc hN Z (qe Z (zh (zc hN Z (qd Z (za (yw wb Z) (qd Z (yc (gE H fun h4 H=>ve (fun (k2:Nat) (s:Unit)=>[(0,.dat (vlst (List.map ye s1))),(1,.dat (vfn fv1 us1)),(7,.dat (vint (s1.length:Int))),(8,.dat (vint (k2:Int)))]) (fun (k2:Nat) (s:Unit)=>[]) () H ⟨Z,Z,Z,Z,U⟩ U (fun _ _=>Z) ?_ ?_))))))))
 ·rintro ⟨⟩ H
  replace H:z7y=some r:=H
  unfold z7y at H
  refine zc hN Z (za (yg Z Z) (zh (zi _ Z (fun h=>(lt_t h).elim) (fun h => ?_))))
  refine qj (zc hN Z (qe Z (zg ?_)))
  cases H
  exact ⟨U,.inl Z,U⟩
 ·rintro k2 x5 ⟨⟩ q3 h6 h7 H hq3
  replace H:z7x p1 k2 x5=some q3:=H
  unfold z7x at H
  refine zc hN Z (za (yg Z Z) (zh (zi _ Z (fun h => ?_) (fun h=>(lt_f h6 h).elim))))
  refine zn (zh (yc (zc hN Z (qd Z (qe Z (zc hN Z (qd Z (qd Z (qd Z (za (qx ww (fun _=>Z) Z Z h7) (za (wa tyS9 Z (qq h7) Z) (bE H fun r8 h9 H=>za (z7p (hp1 x5 r8 h9) Z ⟨.inl Z,U⟩) (zi _ Z (fun h10 => ?_) (fun h10 => ?_))))))))))))))
  ·refine tE h10 H fun H=>zc hN Z (qd Z (qe Z (zg ?_)))
   replace H:=retl H hq3
   cases H
   exact ⟨U,.inl Z,U⟩
  ·exact fE h10 H fun H=>zn (zq hN Z (za (wy Z Z (by omega)) (qd Z ⟨_,qr H,⟨Z,Z,Z,Z,U⟩,U⟩)))
theorem y8j (s1:(List Bs)) (p1:Bs→Option (Bool)) (fv1:Nat) (us1:List V) (hp1:∀ a0 r,p1 a0=some r→Fn Tryz.prog fv1 ([vstr a0]++us1) (zp [zf r])) (r:(Bool)) (H:z5z s1 p1=some r):Fn Tryz.prog 82 [vlst (List.map ye s1),vfn fv1 us1] (zp [zf r]):=by
 refine ⟨by kernel_rfl,zy (us:=[zf r]) Tryz.func82 Z Z Z Z fun X hN => ?_⟩
 unfold z5z at H
 refine zc hN Z (qe Z (zc hN Z (qd Z (qd Z (bE H fun r2 h3 H=>za (zj (y8h s1 p1 fv1 us1 hp1 r2 h3) ⟨.inl Z,.inl Z,U⟩) (za (wx Z Z) (qe Z (zg ?_))))))))
 cases H
 exact ⟨U,.inl Z,U⟩
theorem y9i (n1:Bs) (c2:(List zk)) (r:(Bool)) (H:Yt n1 c2=some r):Fn Tryz.prog 83 [vstr n1,jd [[vlst (List.map yb c2)]] 0 0] (zp [zf r]):=by
 refine ⟨by kernel_rfl,zy (us:=[zf r]) Tryz.func83 Z Z Z Z fun X hN => ?_⟩
 unfold Yt at H
 refine zc hN Z (qe Z (zc hN Z (za (wa qw Z Z Z) (qd Z (bE H fun r3 h4 H=>za (zj (z6k c2 n1 r3 h4) ⟨.inl Z,.inl Z,U⟩) (za (yw wb Z) (za (qb Z Z) (qe Z (zg ?_)))))))))
 cases H
 exact ⟨U,.inl Z,U⟩
theorem y2q (l1:(List zk)) (names2:(List Bs)) (r:(Bool)) (H:Zg l1 names2=some r):Fn Tryz.prog 35 [vlst (List.map yb l1),vlst (List.map ye names2)] (zp [zf r]):=by
 refine ⟨by kernel_rfl,zy (us:=[zf r]) Tryz.func35 Z Z Z Z fun X hN => ?_⟩
 unfold Zg at H
 refine zc hN Z (zo (z7q 1 Z Z) Z (qe Z (zh (z67 1 [vlst (List.map yb l1)] Z Z (zq hN Z (qd Z (za (z7m (us:=[_]) ⟨Z,U⟩) (bE H fun r3 h4 H=>za (zj (y8j names2 (fun (a0:Bs)=>Yt a0 l1) 83 [jd [[vlst (List.map yb l1)]] 0 0] (fun a0 r h=>y9i a0 l1 r h) r3 h4) ⟨.inl Z,.inl Z,U⟩) (qe Z (zg ?_))))))))))
 cases H
 exact ⟨U,.inl Z,U⟩
end Go.Proofs.YtbcmpepmafpibabGreatDoor
