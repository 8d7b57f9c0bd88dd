/- Walks along the models. Printed by a program. -/
import Derived.Test.YtkldmhhbbceaoabGreatDoorZrw3
namespace Go.Proofs.YtkldmhhbbceaoabGreatDoor
open Go.RowKit
set_option linter.unusedVariables false
set_option maxRecDepth 100000
set_option maxHeartbeats 2000000
theorem y48 (a1:zx) (r:((List Bs)×Bool×Int)) (H:Zq a1=some r):Fn Tryz.prog 74 [vagg (vt a1)] (zw [vlst (List.map zt r.1),zj r.2.1,vint r.2.2]):=by
 refine ⟨by kernel_rfl,yh (us:=[vlst (List.map zt r.1),zj r.2.1,vint r.2.2]) Tryz.func74 Z Z Z Z fun X hN => ?_⟩
 unfold Zq at H
 refine zb hN Z (zi (qr 1 Z) Z (qe Z (qe Z (qe Z (zb hN Z (za (zp wx Z) (zo (zz qg Z Z) Z (bE H fun r2 h3 H=>za (zm (z7n a1.Headers [118,97,114,121] r2 h3) ⟨.inl Z,.inl Z,U⟩) (bE H fun r4 h5 H=>vz (rn [(1,2)]) [] [(1,_)] (x1g r2 r4 h5) ⟨Z,U⟩ ⟨.inl (.inl Z),U⟩ U Z (za (qi (.row _ _) Z) (zg (zb hN Z (za (zf (.row _ _) Z) (zo (Ye we Z Z) Z (qd Z (yg (gE H fun h9 H=>y1b (fun (k7:Nat) (s:(List Bs))=>[(5,.row 2 s.length),(12,.row 2 s.length),(13,.dat (vint (r4.length:Int))),(14,.dat (vint (k7:Int)))]) (fun (k7:Nat) (s:(List Bs))=>[(2,.row 9 1 (List.map zt s))]) r4 H ⟨Z,Z,Z,Z,U⟩ ⟨Z,U⟩ (fun _ _=>Z) ?_ ?_)))))))))))))))))
 ·rintro l6 H
  replace H:Yb l6=some r:=H
  unfold Yb at H
  refine zb hN Z (za (ye Z Z) (zg (zh _ Z (fun h=>(lt_t h).elim) (fun h => ?_))))
  refine qc (zg (zg (z8x 5 2 Z Z Z (zu hN Z (qd Z (bE H fun r10 h11 H=>za (zm (x1x l6 [42] r10 h11) ⟨.inl Z,.inl Z,U⟩) (zh _ Z (fun h12 => ?_) (fun h12 => ?_))))))))
  ·refine tE h12 H fun H=>zb hN Z (qe Z (qe Z (qe Z (zk ?_))))
   cases H
   exact ⟨U,.inr ⟨Z,Z⟩,.inl Z,.inl Z,U⟩
  ·refine fE h12 H fun H=>zl (zb hN Z (qd Z (bE H fun r13 h14 H=>za (zm (y4x l6 r13 h14) ⟨.inl Z,U⟩) (qe Z (zg (zb hN Z (qd Z (za (yz we Z) (za (qv Z Z) (zh _ Z (fun h15 => ?_) (fun h15 => ?_)))))))))))
   ·refine tE h15 H fun H=>zb hN Z (qe Z (qe Z (qe Z (zk ?_))))
    cases H
    exact ⟨U,.inr ⟨Z,Z⟩,.inl Z,.inl Z,U⟩
   ·refine fE h15 H fun H=>zl (zb hN Z (qd Z (qe Z (qe Z (qe Z (zk ?_))))))
    cases H
    exact ⟨U,.inl Z,.inl Z,.inl Z,U⟩
 ·rintro k7 l6 q8 h16 H hq8
  replace H:z0b k7 l6=some q8:=H
  unfold z0b at H
  refine zb hN Z (za (ye Z Z) (zg (zh _ Z (fun h => ?_) (fun h=>(lt_f h16 h).elim))))
  refine zl (zg (yg (zb hN Z (qd Z (bE H fun x17 h18 H=>zo (z8w wy Z Z Z h18) Z (zo (y2i tyS9 Z Z h18 Z) Z (qe Z (qe Z (zg (zb hN Z (qd Z (bE H fun r19 h20 H=>za (zm (z4n x17 r19 h20) ⟨.inl Z,U⟩) (za (yp Z) (zh _ Z (fun h21 => ?_) (fun h21 => ?_)))))))))))))))
  ·refine tE h21 H fun H=>zb hN Z (qe Z (qe Z (qe Z (zk ?_))))
   replace H:=retl H hq8
   cases H
   exact ⟨U,.inr ⟨Z,Z⟩,.inl Z,.inl Z,U⟩
  ·exact fE h21 H fun H=>zl (zu hN Z (za (zf (.row _ _) Z) (qd Z (qd Z (bE H fun r22 h23 H=>za (zm (z1u x17 r22 h23) ⟨.inl Z,U⟩) (zo (z8w wy Z Z Z h18) Z (zi (y8a r22 tyS9 Z Z Z Z h18 Z Z) Z (zu hN Z (za (qs Z Z (by omega)) (qd Z ⟨_,qj H,⟨congrArg (Slot.row 2) (by simp),congrArg (Slot.row 2) (by simp),Z,Z,U⟩,⟨Z,U⟩⟩))))))))))
theorem y0k (e1:zy) (r:(Int)) (H:Zs e1=some r):Fn Tryz.prog 35 [vagg (yy e1)] (zw [vint r]):=by
 refine ⟨by kernel_rfl,yh (us:=[vint r]) Tryz.func35 Z Z Z Z fun X hN => ?_⟩
 unfold Zs at H
 refine zb hN Z (zi (qr 1 Z) Z (qe Z (zg (zb hN Z (za (zp Yd Z) (zo (yk qp Z Z Z) Z (bE H fun r2 h3 H=>za (zm (y4v e1.Request r2 h3) ⟨.inl Z,U⟩) (qe Z (zb hN Z (qd Z (za (qk Z Z) (zh _ Z (fun h4 => ?_) (fun h4 => ?_)))))))))))))
 ·refine tE h4 H fun H=>zb hN Z (qd Z (qe Z (zk ?_)))
  cases H
  exact ⟨U,.inl Z,U⟩
 ·refine fE h4 H fun H=>zl (zg (zb hN Z (za (zp vy Z) (zo (yk wi Z Z Z) Z (bE H fun r5 h6 H=>za (zm (y0c e1.Response r5 h6) ⟨.inl Z,U⟩) (qe Z (zb hN Z (qd Z (za (qk Z Z) (zh _ Z (fun h7 => ?_) (fun h7 => ?_)))))))))))
  ·refine tE h7 H fun H=>zb hN Z (qd Z (qe Z (zk ?_)))
   cases H
   exact ⟨U,.inl Z,U⟩
  ·refine fE h7 H fun H=>zl (zg (yf (ι:=Bool) (fun i=>[(1,.ptr 1 0),(30,.dat (zj i))]) (fun i=>[(1,.box none 33 [.dat (vint e1.Request.At),.dat (vstr e1.Request.Method),.dat (vstr e1.Request.Host),.dat (vstr e1.Request.Path),.dat (vstr e1.Request.Query),.dat (vstr e1.Request.From),.dat (vlst (List.map zq e1.Request.Headers)),.dat (vstr e1.Request.Body),.dat (vint e1.Response.Status),.dat (vlst (List.map zq e1.Response.Headers)),.dat (vstr e1.Response.Body),.dat (vint e1.At),.dat (vlst (List.map zt e1.Tags)),.dat (vint e1.Used)])]) (fun i=>z0h e1 i=some r) (fun i=>Z) ?_ ?_))
   ·skip
    refine zu hN Z (za (zp ub Z) (zo (zz tyS3 Z Z) Z (bE H fun r8 h9 H=>za (zm (z7o e1.At r8 h9) ⟨.inl Z,U⟩) (za (yp Z) (qd Z (yi (j:=4) Z Z (fun h10 => ?_) (fun h10 => ?_) Z))))))
    ·exact u3 h10 H fun h11 H=>ze Z Z h10 (zp xy Z) (ql Z Z h10 (zz tyS3 Z Z) Z (bE H fun r12 h13 H=>ze Z Z h10 (zm (z7o e1.Used r12 h13) ⟨.inl Z,U⟩) (ze Z Z h10 (yp Z) (za (zv Z (bFF h11) Z) ⟨!r12,H,⟨Z,Z,U⟩,⟨Z,U⟩⟩))))
    ·exact u4 h10 H fun h14 H=>zc Z Z h10 (zc Z Z h10 (zc Z Z h10 (zc Z Z h10 (za (yc Z (bTT h14) Z) ⟨true,H,⟨Z,Z,U⟩,⟨Z,U⟩⟩))))
   ·rintro v15 H
    replace H:z0h e1 v15=some r:=H
    unfold z0h at H
    refine zh _ Z (fun h16 => ?_) (fun h16 => ?_)
    ·refine tE h16 H fun H=>zb hN Z (qe Z (zk ?_))
     cases H
     exact ⟨U,.inl Z,U⟩
    ·refine fE h16 H fun H=>zl (zg (zb hN Z (za (zp kh Z) (zo (zz jn Z Z) Z (za (yz we Z) (za (qv Z Z) (zh _ Z (fun h17 => ?_) (fun h17 => ?_))))))))
     ·refine tE h17 H fun H=>zb hN Z (qe Z (zk ?_))
      cases H
      exact ⟨U,.inl Z,U⟩
     ·refine fE h17 H fun H=>zl (zg (zb hN Z (za (zp kh Z) (zo (zz jn Z Z) Z (bE H fun r18 h19 H=>za (zm (x2i e1.Tags r18 h19) ⟨.inl Z,U⟩) (qe Z (zb hN Z (qd Z (za (qk Z Z) (zh _ Z (fun h20 => ?_) (fun h20 => ?_)))))))))))
      ·refine tE h20 H fun H=>zb hN Z (qd Z (qe Z (zk ?_)))
       cases H
       exact ⟨U,.inl Z,U⟩
      ·refine fE h20 H fun H=>zl (zb hN Z (za (zp vy Z) (zo (yk wi Z Z Z) Z (bE H fun r21 h22 H=>za (zm (y48 e1.Response r21 h22) ⟨.inl Z,U⟩) (qd Z (za (ym Z Z) (za (ym Z Z) (za (ym Z Z) (qe Z (qe Z (qe Z (zb hN Z (qd Z (qe Z (zk ?_)))))))))))))))
       cases H
       exact ⟨U,.inl Z,U⟩
theorem x3o (e1:zy) (r2:ya) (r:(Int)) (H:z1m e1 r2=some r):Fn Tryz.prog 32 [vagg (yy e1),vagg (wl r2)] (zw [vint r]):=by
 refine ⟨by kernel_rfl,yh (us:=[vint r]) Tryz.func32 Z Z Z Z fun X hN => ?_⟩
 unfold z1m at H
 refine zb hN Z (zi (qr 1 Z) Z (zi (qr 2 Z) Z (qe Z (zg (zb hN Z (zo (yk yo Z Z Z) Z (bE H fun r3 h4 H=>za (zm (y0k e1 r3 h4) ⟨.inl Z,U⟩) (qe Z (zb hN Z (qd Z (za (qk Z Z) (zh _ Z (fun h5 => ?_) (fun h5 => ?_)))))))))))))
 ·refine tE h5 H fun H=>zb hN Z (qd Z (qe Z (zk ?_)))
  cases H
  exact ⟨U,.inl Z,U⟩
 ·refine fE h5 H fun H=>zl (zb hN Z (zo (yk qp Z Z Z) Z (bE H fun r6 h7 H=>za (zm (y4v r2 r6 h7) ⟨.inl Z,U⟩) (qe Z (zk ?_)))))
  cases H
  exact ⟨U,.inl Z,U⟩
theorem y4s (l1:(List zd)) (name2:Bs) (r:(Int)) (H:z06 l1 name2=some r):Fn Tryz.prog 69 [vlst (List.map zq l1),vstr name2] (zw [vint r]):=by
 refine ⟨by kernel_rfl,yh (us:=[vint r]) Tryz.func69 Z Z Z Z fun X hN => ?_⟩
 unfold z06 at H
 refine zb hN Z (qe Z (zg (zb hN Z (qd Z (bE H fun r3 h4 H=>za (zm (y0d l1 r3 h4) ⟨.inl Z,U⟩) (qe Z (zb hN Z (qd Z (za (qk Z Z) (zh _ Z (fun h5 => ?_) (fun h5 => ?_)))))))))))
 ·refine tE h5 H fun H=>zb hN Z (qd Z (qe Z (zk ?_)))
  cases H
  exact ⟨U,.inl Z,U⟩
 ·refine fE h5 H fun H=>zl (zg (zb hN Z (qd Z (bE H fun r6 h7 H=>za (zm (z4n name2 r6 h7) ⟨.inl Z,U⟩) (za (yp Z) (zh _ Z (fun h8 => ?_) (fun h8 => ?_)))))))
  ·refine tE h8 H fun H=>zb hN Z (qe Z (zk ?_))
   cases H
   exact ⟨U,.inl Z,U⟩
  ·refine fE h8 H fun H=>zl (zb hN Z (qe Z (zk ?_)))
   cases H
   exact ⟨U,.inl Z,U⟩
theorem z1o (l r:List zd) (H:wu l=some r):FnG Tryz.prog 51 [.dat (vlst (List.map zq l))] [] (.row 900 r.length) [(900,.row 57 2 (List.map zq r))]:=by
 obtain ⟨hl,rfl⟩:=y6j H
 refine Ya (by kernel_rfl) Tryz.func51 Z Z Z Z fun X A hN => ?_
 refine y6q 0 Z (fun h0 => ?_) ?_
 ·obtain rfl:=List.map_eq_nil_iff.1 h0
  refine zb hN Z (qe Z (zg (zb hN Z (qd Z (za (y2x vm Z) (zh _ Z (fun h => ?_) (fun h=>by cases h)))))))
  exact zb hN Z (qe Z (kl 2 900 57 2 Z Z Z (zk ⟨U,[(2,.row 900 0)],⟨Z,U⟩,⟨Z,U⟩,Z,.inr (.inl ⟨2,Z,Z⟩)⟩)))
 ·refine zb hN Z (qe Z (zg (zb hN Z (qd Z (za (y2y vm Z) (zh _ Z (fun h=>by cases h) (fun h => ?_)))))))
  refine zl (zg (y6o 0 (u':=vlst (List.map zq l)) Z y1r (zu hN Z (zi (y2q 900 wm) Z (qd Z (zi (z6d (C:=zq) (xs:=[]) wm (fun _=>Z) Z Z Z (by simpa using hl) Z) Z ?_))))))
  exact za (qi (.row _ _) Z) (zk ⟨U,[(2,.row 900 l.length)],⟨Z,U⟩,⟨Z,U⟩,Z,.inr (.inl ⟨2,Z,Z⟩)⟩)
theorem z98 (l r:List zd) (H:wu l=some r):Fn Tryz.prog 51 [vlst (List.map zq l)] (zw [vlst (List.map zq r)]):=by
 have h:=z1o l r H
 rw [← List.length_map (f:=zq)] at h
 exact z5h h
theorem y4q (s1:(List zd)) (p1:zd→Option (Bool)) (fv1:Nat) (us1:List V) (hp1:∀ a0 r,p1 a0=some r→Fn Tryz.prog fv1 ([vagg (zq a0)]++us1) (zw [zj r])) (r:(Int)) (H:z3l s1 p1=some r):Fn Tryz.prog 97 [vlst (List.map zq s1),vfn fv1 us1] (zw [vint r]):=by
 refine ⟨by kernel_rfl,yh (us:=[vint r]) Tryz.func97 Z Z Z Z fun X hN => ?_⟩
 unfold z3l at H
 refine zb hN Z (qe Z (zg (zb hN Z (qd Z (za (yz vm Z) (qd Z (yg (gE H fun h4 H=>qw (fun (k2:Nat) (s:Unit)=>[(0,.dat (vlst (List.map zq s1))),(1,.dat (vfn fv1 us1)),(7,.dat (vint (s1.length:Int))),(8,.dat (vint (k2:Int)))]) (fun (k2:Nat) (s:Unit)=>[]) () H ⟨Z,Z,Z,Z,U⟩ U (fun _ _=>Z) ?_ ?_))))))))
 ·rintro ⟨⟩ H
  replace H:z88=some r:=H
  unfold z88 at H
  refine zb hN Z (za (ye Z Z) (zg (zh _ Z (fun h=>(lt_t h).elim) (fun h => ?_))))
  refine qc (zb hN Z (qe Z (zk ?_)))
  cases H
  exact ⟨U,.inl Z,U⟩
 ·rintro k2 x5 ⟨⟩ q3 h6 h7 H hq3
  replace H:z87 p1 k2 x5=some q3:=H
  unfold z87 at H
  refine zb hN Z (za (ye Z Z) (zg (zh _ Z (fun h => ?_) (fun h=>(lt_f h6 h).elim))))
  refine zl (zg (yg (zb hN Z (qd Z (qe Z (zb hN Z (qd Z (qd Z (qd Z (za (wd je (fun _=>Z) Z Z h7) (za (uj wq Z (qa h7) Z) (bE H fun r8 h9 H=>za (y21 (hp1 x5 r8 h9) Z ⟨.inl Z,U⟩) (zh _ Z (fun h10 => ?_) (fun h10 => ?_))))))))))))))
  ·refine tE h10 H fun H=>zb hN Z (qd Z (qe Z (zk ?_)))
   replace H:=retl H hq3
   cases H
   exact ⟨U,.inl Z,U⟩
  ·exact fE h10 H fun H=>zl (zu hN Z (za (qs Z Z (by omega)) (qd Z ⟨_,qj H,⟨Z,Z,Z,Z,U⟩,U⟩)))
theorem z91 (s1:(List zd)) (p1:zd→Option (Bool)) (fv1:Nat) (us1:List V) (hp1:∀ a0 r,p1 a0=some r→Fn Tryz.prog fv1 ([vagg (zq a0)]++us1) (zw [zj r])) (r:((List zd))) (H:z04 s1 p1=some r):FnG Tryz.prog 95 [.row 0 s1.length,.dat (vfn fv1 us1)] [(0,.row 57 2 (List.map zq s1))] (.row 900 r.length) [(900,.row 57 2 (List.map zq r))]:=by
 refine Ya (by kernel_rfl) Tryz.func95 Z Z Z Z fun X A hN => ?_
 unfold z04 at H
 refine zb hN Z (qe Z (zb hN Z (za (zf (.row _ _) Z) (qd Z (bE H fun r2 h3 H=>zo (y84 (id:=0) (es:=List.map zq s1) (y4q s1 p1 fv1 us1 hp1 r2 h3) ⟨.inr ⟨(congrArg (Slot.row 0) (by rw [List.length_map]):Slot.row 0 s1.length=_),Z⟩,.inl (.inl (.inl Z)),U⟩ (fun _ _ _ _ h=>h)) Z ?_)))))
 refine qe Z (zg (zb hN Z (qd Z (za (yt Z Z) (zh _ Z (fun h4 => ?_) (fun h4 => ?_))))))
 ·refine tE h4 H fun H=>zb hN Z (za (zf (.row _ _) Z) (za (qi (.row _ _) Z) (y1c 4 0 900 Z Z (by rw [List.length_map]) Z ?_)))
  refine zk ?_
  cases H
  exact ⟨U,[(4,.row 900 _)],⟨Z,U⟩,⟨Z,U⟩,Z,.inr (.inl ⟨4,Z,Z⟩)⟩
 ·refine fE h4 H fun H=>zl (yf (ι:=Int×(List zd)) (fun i=>[(0,.row 0 i.2.length),(5,.dat (vint i.1))]) (fun i=>[(0,.row 57 2 (List.map zq i.2))]) (fun i=>z6m i.1 i.2=some r) (fun i=>Z) ?_ ?_)
  ·skip
   refine zb hN Z (qd Z (za (qn _ Z Z (.inl ⟨Z,Z⟩)) (qe Z (yg (z8i (fun (s:Int×Int×(List zd))=>[(0,.row 0 s.2.2.length),(1,.dat (vfn fv1 us1)),(5,.dat (vint s.1)),(6,.dat (vint s.2.1))]) (fun (s:Int×Int×(List zd))=>[(0,.row 57 2 (List.map zq s.2.2))]) (r2,wr (r2+1),s1) H ⟨Z,Z,Z,Z,U⟩ ⟨Z,U⟩ (fun _=>Z) ?_)))))
   rintro ⟨i5,j6,l7⟩ q8 H hq8
   replace H:z9c p1 i5 j6 l7=some q8:=H
   unfold z9c at H
   refine zg (zb hN Z (qd Z (za (zf (.row _ _) Z) (zo (Ye vm Z Z) Z (za (ye Z Z) (zh _ Z (fun h9 => ?_) (fun h9 => ?_)))))))
   ·refine tE h9 H fun H=>zl (yf (ι:=Int×(List zd)) (fun i=>[(0,.row 0 i.2.length),(1,.dat (vfn fv1 us1)),(5,.dat (vint i.1)),(6,.dat (vint j6))]) (fun i=>[(0,.row 57 2 (List.map zq i.2))]) (fun i=>z3g j6 i.1 i.2=some q8) (fun i=>Z) ?_ ?_)
    ·skip
     refine yg (zb hN Z (za (zf (.row _ _) Z) (qd Z (bE H fun x10 h11 H=>zo (y2j je Z Z Z h11) Z (zo (y8c wq Z Z (jj h11).2 Z) Z (zi (qz 1 vk Z) Z (zi (yu wq Z Z Z Z) Z (zb hN Z (qd Z (zo (yk wq Z Z Z) Z (bE H fun r12 h13 H=>za (y21 (hp1 x10 r12 h13) Z ⟨.inl Z,U⟩) (za (yp Z) (zh _ Z (fun h14 => ?_) (fun h14 => ?_))))))))))))))
     ·exact tE h14 H fun H=>zb hN Z (za (zf (.row _ _) Z) (qd Z (zo (yk wq Z Z Z) Z (bE H fun x15 h16 H=>zo (y2j je Z Z Z h16) Z (zi (y79 (C:=zq) wq Z Z Z (x5q (jj h16).2) Z Z) Z (zu hN Z (qd Z (za (qn _ Z Z (.inl ⟨Z,Z⟩)) (qe Z ⟨(wr (i5+1),(l7.set i5.toNat x10)),H,⟨congrArg (Slot.row 0) (by simp),Z,Z,Z,U⟩,⟨Z,U⟩⟩)))))))))
     ·exact fE h14 H fun H=>zl ⟨(i5,l7),H,⟨Z,Z,Z,Z,U⟩,⟨Z,U⟩⟩
    ·rintro ⟨i17,s18⟩ H
     replace H:z3g j6 i17 s18=some q8:=H
     unfold z3g at H
     exact zu hN Z (qd Z (za (qn _ Z Z (.inl ⟨Z,Z⟩)) (qe Z ⟨_,qj H,⟨Z,Z,Z,Z,U⟩,⟨Z,U⟩⟩)))
   ·refine fE h9 H fun H=>qc ?_
    replace H:=outl H hq8
    exact ⟨(i5,l7),H,⟨Z,Z,U⟩,⟨Z,U⟩⟩
  ·rintro ⟨i19,s20⟩ H
   replace H:z6m i19 s20=some r:=H
   unfold z6m at H
   refine zb hN Z (za (zf (.row _ _) Z) (qd Z (gE H fun h21 H=>zo (y8b (C:=zq) je Z Z Z h21) Z (zi (y8e (C:=zq) (zd.mk [] []) vm vk Z Z Z Z Z h21) Z (zb hN Z (za (zf (.row _ _) Z) (qd Z (gE H fun h22 H=>y9m (y8d (C:=zq) 2 je Z (x5h (zd.mk [] []) h21) Z h22) Z Z (za (qi (.row _ _) Z) (y1c 4 2 900 Z Z (by rw [List.length_map]; exact (y6b h22)) Z ?_))))))))))
   refine zk ?_
   cases H
   exact ⟨U,[(4,.row 900 _)],⟨Z,U⟩,⟨Z,U⟩,Z,.inr (.inl ⟨4,Z,congrArg (Slot.row 900) (by first | exact y6b (by assumption) | (simp <;> omega))⟩)⟩
theorem x1z (h1:zd) (c2:Bs) (r:(Bool)) (H:Yu h1 c2=some r):Fn Tryz.prog 113 [vagg (zq h1),vi [[vstr c2]] 0 0] (zw [zj r]):=by
 refine ⟨by kernel_rfl,yh (us:=[zj r]) Tryz.func113 Z Z Z Z fun X hN => ?_⟩
 unfold Yu at H
 refine zb hN Z (zi (qr 1 Z) Z (qe Z (zb hN Z (zo (yk wq Z Z Z) Z (za (qo tyS9 Z Z Z) (bE H fun r3 h4 H=>za (zm (y0a h1 c2 r3 h4) ⟨.inl Z,.inl Z,U⟩) (qe Z (zk ?_))))))))
 cases H
 exact ⟨U,.inl Z,U⟩
theorem x1e (l1:(List zd)) (name2:Bs) (r:((List zd))) (H:z05 l1 name2=some r):FnG Tryz.prog 70 [.dat (vlst (List.map zq l1)),.dat (vstr name2)] [] (.row 3 r.length) [(3,.row 57 2 (List.map zq r))]:=by
 refine Ya (by kernel_rfl) Tryz.func70 Z Z Z Z fun X A hN => ?_
 unfold z05 at H
 refine zb hN Z (zi (z6f 1 Z Z) Z (qe Z (zg (z8k 1 [vstr name2] Z Z (zu hN Z (qd Z (bE H fun r3 h4 H=>vz (rn [(900,2)]) [] [(900,_)] (z1o l1 r3 h4) ⟨Z,U⟩ ⟨.inl (.inl Z),U⟩ U Z (za (z3d (us:=[_]) ⟨Z,U⟩) (bE H fun r5 h6 H=>vz (rn [(0,2),(900,3)]) [(0,_,_,none)] [(900,_)] (z91 r3 (fun (a0:zd)=>Yu a0 name2) 113 [vi [[vstr name2]] 0 0] (fun a0 r h=>x1z a0 name2 r h) r5 h6) ⟨Z,Z,U⟩ ⟨.inl (.inl Z),.inl (.inl Z),U⟩ ⟨⟨⟨Z,Z,Z⟩,U⟩,U⟩ Z (za (qi (.row _ _) Z) (zk ?_)))))))))))
 cases H
 exact ⟨U,[(4,.row 3 _)],⟨Z,U⟩,⟨Z,U⟩,Z,.inr (.inl ⟨4,Z,Z⟩)⟩
theorem x1f (l1:(List zd)) (name2:Bs) (r:((List zd)×Int)) (H:z08 l1 name2=some r):FnG Tryz.prog 33 [.dat (vlst (List.map zq l1)),.dat (vstr name2)] [] (.comp true [.row 900 r.1.length,.dat (vint r.2)]) [(900,.row 57 2 (List.map zq r.1))]:=by
 refine Ya (by kernel_rfl) Tryz.func33 Z Z Z Z fun X A hN => ?_
 unfold z08 at H
 refine zb hN Z (qe Z (qe Z (zg (zb hN Z (qd Z (qd Z (bE H fun r3 h4 H=>za (zm (y4s l1 name2 r3 h4) ⟨.inl Z,.inl Z,U⟩) (qe Z (zb hN Z (qd Z (za (qk Z Z) (zh _ Z (fun h5 => ?_) (fun h5 => ?_)))))))))))))
 ·refine tE h5 H fun H=>zb hN Z (qd Z (qe Z (qe Z (kl 4 900 57 2 Z Z Z (zk ?_)))))
  cases H
  exact ⟨U,[(4,.row 900 _),(5,.dat (vint r3))],⟨Z,Z,U⟩,⟨Z,U⟩,Z,.inr (.inr ⟨.row 900 [].length,.dat (vint r3),[],⟨Z,Z,U⟩,Z⟩)⟩
 ·refine fE h5 H fun H=>zl (zb hN Z (qd Z (qd Z (bE H fun r6 h7 H=>vz (rn [(3,1)]) [] [(3,_)] (x1e l1 name2 r6 h7) ⟨Z,U⟩ ⟨.inl (.inl Z),.inl (.inl Z),U⟩ U Z (za (qi (.row _ _) Z) (qe Z (y1c 4 1 900 Z Z (by rw [List.length_map]) Z ?_)))))))
  refine zk ?_
  cases H
  exact ⟨U,[(4,.row 900 _),(5,.dat (vint 0))],⟨Z,Z,U⟩,⟨Z,U⟩,Z,.inr (.inr ⟨.row 900 r6.length,.dat (vint 0),[],⟨Z,Z,U⟩,Z⟩)⟩
theorem x3u (e1:zy) (r2:ya) (r:(ya×Int)) (H:Qj e1 r2=some r):Fn Tryz.prog 10 [vagg (yy e1),vagg (wl r2)] (zw [vagg (wl r.1),vint r.2]):=by
 refine ⟨by kernel_rfl,yh (us:=[vagg (wl r.1),vint r.2]) Tryz.func10 Z Z Z Z fun X hN => ?_⟩
 unfold Qj at H
 refine zb hN Z (zi (qr 1 Z) Z (zi (qr 2 Z) Z (zi (qz 3 js Z) Z (qe Z (zg (zb hN Z (zo (yk yo Z Z Z) Z (zo (yk qp Z Z Z) Z (bE H fun r3 h4 H=>za (zm (x3o e1 r2 r3 h4) ⟨.inl Z,.inl Z,U⟩) (qe Z (zb hN Z (qd Z (za (qk Z Z) (zh _ Z (fun h5 => ?_) (fun h5 => ?_)))))))))))))))
 ·refine tE h5 H fun H=>zb hN Z (za (ja (u':=vagg (wl (ya.mk 0 [] [] [] [] [] [] []))) (jd (by exact ⟨zr,zr,zr,zr,zr,zr,qf,zr,U⟩)) (qy [] js z23 Z U)) ?_)
  refine qd Z (zi (yu qp Z Z Z Z) Z (qe Z (zk ?_)))
  cases H
  exact ⟨U,.inl ⟨_,_,_,wl (ya.mk 0 [] [] [] [] [] [] []),Z,Z,Z,Z,qp⟩,.inl Z,U⟩
 ·refine fE h5 H fun H=>zl (zb hN Z (za (zp vn Z) (zo (zz qg Z Z) Z (bE H fun r6 h7 H=>vz (rn [(900,4)]) [] [(900,_)] (x1f r2.Headers [105,102,45,110,111,110,101,45,109,97,116,99,104] r6 h7) ⟨Z,U⟩ ⟨.inl (.inl Z),.inl (.inl Z),U⟩ U Z (za (zf (.comp _ _) Z) (za (y2u Z Z) (za (y2u Z Z) (za (qi (.row _ _) Z) (qe Z (zg (zb hN Z (qd Z (za (qk Z Z) (zh _ Z (fun h8 => ?_) (fun h8 => ?_)))))))))))))))
  ·refine tE h8 H fun H=>zb hN Z (za (ja (u':=vagg (wl (ya.mk 0 [] [] [] [] [] [] []))) (jd (by exact ⟨zr,zr,zr,zr,zr,zr,qf,zr,U⟩)) (qy [] js z23 Z U)) ?_)
   refine qd Z (zi (yu qp Z Z Z Z) Z (qe Z (zk ?_)))
   cases H
   exact ⟨U,.inl ⟨_,_,_,wl (ya.mk 0 [] [] [] [] [] [] []),Z,Z,Z,Z,qp⟩,.inl Z,U⟩
  ·refine fE h8 H fun H=>zl (yf (ι:=(List zd)) (fun i=>[(3,.ptr 2 0),(4,.ptr 3 0),(7,.row 4 i.length)]) (fun i=>[(2,.box none 28 [.dat (vint r2.At),.dat (vstr r2.Method),.dat (vstr r2.Host),.dat (vstr r2.Path),.dat (vstr r2.Query),.dat (vstr r2.From),.dat (vlst (List.map zq r2.Headers)),.dat (vstr r2.Body)]),(3,.box none 28 [.dat (vint 0),.dat (vstr []),.dat (vstr []),.dat (vstr []),.dat (vstr []),.dat (vstr []),.dat (vnil),.dat (vstr [])]),(4,.row 57 2 (List.map zq i))]) (fun i=>z0g r2 i=some r) (fun i=>Z) ?_ ?_)
   ·skip
    refine zb hN Z (za (zp vy Z) (za (zp wx Z) (zo (zz qg Z Z) Z (bE H fun r9 h10 H=>za (zm (z7n e1.Response.Headers [101,116,97,103] r9 h10) ⟨.inl Z,.inl Z,U⟩) (qe Z (zb hN Z (qd Z (za (yz we Z) (za (qv Z Z) (zh _ Z (fun h11 => ?_) (fun h11 => ?_)))))))))))
    ·refine tE h11 H fun H=>zu hN Z (za (zf (.row _ _) Z) (qd Z (bE H fun x12 h13 H=>za (wd wy (fun _=>Z) Z Z h13) (za (qo tyS9 Z (qa h13) Z) (za (yd (u':=vagg (zq (zd.mk [105,102,45,110,111,110,101,45,109,97,116,99,104] x12))) (qy [(0,[vstr [105,102,45,110,111,110,101,45,109,97,116,99,104]]),(1,[vstr x12])] vk ko Z ⟨Z,.inl ⟨_,Z,Z,Z⟩,Z,Z,.inl ⟨_,Z,Z,Z⟩,Z,U⟩) Z) (za (yd (u':=vlst (List.map zq [(zd.mk [105,102,45,110,111,110,101,45,109,97,116,99,104] x12)])) (yl [_] wm ⟨Z,.inr Z,Z,U⟩ Z Z) Z) (gE H fun h14 H=>zi (vu wm (fun _=>Z) Z Z Z ⟨by simp,by first | (simp; done) | simpa using h14⟩ Z) Z ?_)))))))
     exact za (qi (.row _ _) Z) ⟨(r6.1++([(zd.mk [105,102,45,110,111,110,101,45,109,97,116,99,104] x12)])),H,⟨Z,Z,Z,U⟩,⟨Z,Z,Z,U⟩⟩
    ·exact fE h11 H fun H=>zl ⟨r6.1,H,⟨Z,Z,Z,U⟩,⟨Z,Z,Z,U⟩⟩
   ·rintro l15 H
    replace H:z0g r2 l15=some r:=H
    unfold z0g at H
    refine zg (zb hN Z (za (zf (.row _ _) Z) (zo (Ye vm Z Z) Z (za (qv Z Z) (zh _ Z (fun h16 => ?_) (fun h16 => ?_))))))
    ·refine tE h16 H fun H=>zb hN Z (za (ja (u':=vagg (wl (ya.mk 0 [] [] [] [] [] [] []))) (jd (by exact ⟨zr,zr,zr,zr,zr,zr,qf,zr,U⟩)) (qy [] js z23 Z U)) ?_)
     refine zi (yu qp Z Z Z Z) Z (qe Z (zk ?_))
     cases H
     exact ⟨U,.inl ⟨_,_,_,wl (ya.mk 0 [] [] [] [] [] [] []),Z,Z,Z,Z,qp⟩,.inl Z,U⟩
    ·refine fE h16 H fun H=>zl (zb hN Z (za (zf (.row _ _) Z) (za (zp vn Z) (Zb (Za qg Z Z (by rw [List.length_map]) Z) Z Z ?_))))
     refine zg (z8j 2 6 4 rfl rfl rfl (by first | rw [List.length_map] | rfl) ?_)
     refine zu hN Z (zo (yk qp Z Z Z) Z (zi (yu qp Z Z Z Z) Z (qe Z (zk ?_))))
     cases H
     exact ⟨U,.inl ⟨_,_,_,wl (ya.mk r2.At r2.Method r2.Host r2.Path r2.Query r2.From l15 r2.Body),Z,Z,Z,Z,qp⟩,.inl Z,U⟩
theorem x3j (e1:zy) (v2:Int) (r:(Int)) (H:z7g e1 v2=some r):Fn Tryz.prog 37 [vagg (yy e1),vint v2] (zw [vint r]):=by
 refine ⟨by kernel_rfl,yh (us:=[vint r]) Tryz.func37 Z Z Z Z fun X hN => ?_⟩
 unfold z7g at H
 refine zb hN Z (zi (qr 1 Z) Z (qe Z (zg (zb hN Z (qd Z (bE H fun r3 h4 H=>za (zm (z7o v2 r3 h4) ⟨.inl Z,U⟩) (za (yp Z) (zh _ Z (fun h5 => ?_) (fun h5 => ?_)))))))))
 ·refine tE h5 H fun H=>zb hN Z (qe Z (zk ?_))
  cases H
  exact ⟨U,.inl Z,U⟩
 ·refine fE h5 H fun H=>zl (zg (zb hN Z (qd Z (za (zp ub Z) (zo (zz tyS3 Z Z) Z (za (ye Z Z) (zh _ Z (fun h6 => ?_) (fun h6 => ?_))))))))
  ·refine tE h6 H fun H=>zb hN Z (qe Z (zk ?_))
   cases H
   exact ⟨U,.inl Z,U⟩
  ·refine fE h6 H fun H=>zl (zb hN Z (qe Z (zk ?_)))
   cases H
   exact ⟨U,.inl Z,U⟩
theorem x3s (r1:ya) (r:(ya)) (H:z7i r1=some r):Fn Tryz.prog 118 [vagg (wl r1)] (zw [vagg (wl r)]):=by
 refine ⟨by kernel_rfl,yh (us:=[vagg (wl r)]) Tryz.func118 Z Z Z Z fun X hN => ?_⟩
 unfold z7i at H
 refine zb hN Z (zi (qr 1 Z) Z (zi (qz 2 js Z) Z (zb hN Z (za (zp vn Z) (zo (zz qg Z Z) Z (bE H fun r2 h3 H=>za (zm (z98 r1.Headers r2 h3) ⟨.inl Z,U⟩) (za (zp vn Z) (zi (wz qg Z Z Z Z) Z (zb hN Z (zo (yk qp Z Z Z) Z (zi (yu qp Z Z Z Z) Z (zk ?_))))))))))))
 cases H
 exact ⟨U,.inl ⟨_,_,_,wl (ya.mk r1.At r1.Method r1.Host r1.Path r1.Query r1.From r2 r1.Body),Z,Z,Z,Z,qp⟩,U⟩
theorem y5a (a1:zx) (r:(zx)) (H:Qi a1=some r):Fn Tryz.prog 79 [vagg (vt a1)] (zw [vagg (vt r)]):=by
 refine ⟨by kernel_rfl,yh (us:=[vagg (vt r)]) Tryz.func79 Z Z Z Z fun X hN => ?_⟩
 unfold Qi at H
 refine zb hN Z (zi (qr 1 Z) Z (zi (qz 2 z0l Z) Z (zb hN Z (za (zp wx Z) (zo (zz qg Z Z) Z (bE H fun r2 h3 H=>za (zm (z98 a1.Headers r2 h3) ⟨.inl Z,U⟩) (za (zp wx Z) (zi (wz qg Z Z Z Z) Z (zb hN Z (zo (yk wi Z Z Z) Z (zi (yu wi Z Z Z Z) Z (zk ?_))))))))))))
 cases H
 exact ⟨U,.inl ⟨_,_,_,vt (zx.mk a1.Status r2 a1.Body),Z,Z,Z,Z,wi⟩,U⟩
theorem x3t (e1:zy) (r:(zy)) (H:z4i e1=some r):Fn Tryz.prog 77 [vagg (yy e1)] (zw [vagg (yy r)]):=by
 refine ⟨by kernel_rfl,yh (us:=[vagg (yy r)]) Tryz.func77 Z Z Z Z fun X hN => ?_⟩
 unfold z4i at H
 refine zb hN Z (zi (qr 1 Z) Z (zi (qz 2 ww Z) Z (zg (vr mixed hN Z Z (za (zp Yd Z) (zo (yk qp Z Z Z) Z (bE H fun r2 h3 H=>za (zm (x3s e1.Request r2 h3) ⟨.inl Z,U⟩) (za (zp vy Z) (zo (yk wi Z Z Z) Z (bE H fun r4 h5 H=>za (zm (y5a e1.Response r4 h5) ⟨.inl Z,U⟩) (za (zp kh Z) (zo (zz jn Z Z) Z (bE H fun r6 h7 H=>za (zm (x1y e1.Tags r6 h7) ⟨.inl Z,U⟩) (za (zp Yd Z) (zi (z6e qp Z Z Z Z) Z (za (zp vy Z) (zi (z6e wi Z Z Z Z) Z (za (zp kh Z) (zi (wz jn Z Z Z Z) Z ⟨Z,?_⟩)))))))))))))))))))
 refine zb hN Z (zo (yk yo Z Z Z) Z (zi (yu yo Z Z Z Z) Z (zk ?_)))
 cases H
 exact ⟨U,.inl ⟨_,_,_,yy (zy.mk r2 r4 e1.At r6 e1.Used),Z,Z,Z,Z,yo⟩,U⟩
theorem x1s (s:Bs) (p:Int→Option Bool) (fv:Nat) (us:List V) (hp:∀ a r,p a=some r→Fn Tryz.prog fv ([vval (.int .i32 a)]++us) (zw [zj r])) (r:List Bs) (H:z00 s p=some r):Fn Tryz.prog 120 [vstr s,vfn fv us] (zw [vlst (List.map zt r)]):=by
 obtain ⟨h1,h2,h3,rfl⟩:=x4r H
 obtain ⟨b0,hb0⟩:=Option.isSome_iff_exists.1 (h3 0)
 have hok:=(hp 0 b0 hb0).1
 refine z5h (y5y (args:=[vstr s,vfn fv us]) (e:=9) (size:=1) (es:=List.map zt (ffGo (fun c=>(p (c.toNat:Int)).getD false) [] s)) (by kernel_rfl) (by decide) (fun el hel=>by obtain ⟨y,_,rfl⟩:=List.mem_map.1 hel; rfl) fun M w vs hM hvs => ?_)
 obtain ⟨v0,e0,p0⟩:=hvs.2 0 _ rfl
 obtain ⟨v1,e1,l,p1,p2⟩:=hvs.2 1 _ rfl
 have p0:v0 = .string ⟨s.toArray⟩:=p0
 obtain rfl:vs=[.string ⟨s.toArray⟩,.func (.func fv) #[] l.toArray]:=by
  match vs,hvs.1,e0,e1 with
  | [a,b],_,e0,e1=>simp at e0 e1; rw [e0,e1,p0,p1]
 have hpc:=x4s (fun n=>(p (n:Int)).getD false) (fun c=>(p (c.toNat:Int)).getD false) s (fun _ _=>Z) h1
 have hlen:(Lib.goFieldsP (fun n=>(p (n:Int)).getD false) ⟨s.toArray⟩).length=(ffGo (fun c=>(p (c.toNat:Int)).getD false) [] s).length:=by
  have:=congrArg List.length hpc
  simpa using this
 refine (Tryz.strings_FieldsFunc_grows fv l.toArray (x43 hok) (fun n=>(p (n:Int)).getD false) ⟨s.toArray⟩ w (by simp [ByteArray.size]; omega) (x4f hp h3 hM p2)).mono ?_
 rintro e w' ⟨A,rfl,hA,hown,hb⟩
 rw [hlen,hpc] at hown
 rw [hlen]
 refine ⟨_,_,Z,x1i hb,by rw [List.length_map]; exact hown,fun M' _ k c el u hk hc => ?_⟩
 rw [List.getElem?_map] at hk
 cases hq:(ffGo (fun c=>(p (c.toNat:Int)).getD false) [] s)[k]? with
 | none=>rw [hq] at hk; cases hk
 | some y =>
  rw [hq] at hk
  cases hk
  rcases c with _ | c
  ·cases hc
   exact ⟨Value.string ⟨y.toArray⟩,by rw [Nat.mul_one,Nat.add_zero,List.getElem?_map,hq]; rfl,rfl,rfl⟩
  ·simp at hc
theorem x3k (r1:Int) (r:(Bool)) (H:Zr r1=some r):Fn Tryz.prog 121 [vval (.int .i32 r1)] (zw [zj r]):=by
 refine ⟨by kernel_rfl,yh (us:=[zj r]) Tryz.func121 Z Z Z Z fun X hN => ?_⟩
 unfold Zr at H
 refine zb hN Z (qe Z (zb hN Z (qd Z (za (yt Z Z) (qd Z (wj Z Z (fun hc=>zf (.dat _) Z) (wj Z Z (fun hc=>yt (cnd (c:=(!(decide (r1=32)))) hc) Z) (za (ki Z Z (fun hb=>(cnd (c:=(!(decide (r1=32)))) (notI hb)))) (qe Z (zk ?_))))))))))
 cases H
 exact ⟨U,.inl Z,U⟩
theorem x3l (a1:zx) (r:((List Bs)×Int)) (H:z4d a1=some r):Fn Tryz.prog 78 [vagg (vt a1)] (zw [vlst (List.map zt r.1),vint r.2]):=by
 refine ⟨by kernel_rfl,yh (us:=[vlst (List.map zt r.1),vint r.2]) Tryz.func78 Z Z Z Z fun X hN => ?_⟩
 unfold z4d at H
 refine zb hN Z (zi (qr 1 Z) Z (qe Z (qe Z (zb hN Z (qe Z (zg (zb hN Z (za (zp wx Z) (zo (zz qg Z Z) Z (bE H fun r2 h3 H=>za (zm (z7n a1.Headers [99,97,99,104,101,45,116,97,103] r2 h3) ⟨.inl Z,.inl Z,U⟩) (za (yz we Z) (qd Z (yg (kl 4 2 9 1 Z Z Z (gE H fun h7 H=>qw (fun (k5:Nat) (s:(List Bs))=>[(4,.row 2 s.length),(11,.dat (vlst (List.map zt r2))),(12,.dat (vint (r2.length:Int))),(13,.dat (vint (k5:Int)))]) (fun (k5:Nat) (s:(List Bs))=>[(2,.row 9 1 (List.map zt s))]) [] H ⟨Z,Z,Z,Z,U⟩ ⟨Z,U⟩ (fun _ _=>Z) ?_ ?_)))))))))))))))
 ·rintro l4 H
  replace H:z2s l4=some r:=H
  unfold z2s at H
  refine zb hN Z (za (ye Z Z) (zg (zh _ Z (fun h=>(lt_t h).elim) (fun h => ?_))))
  refine qc (zg (zb hN Z (za (zf (.row _ _) Z) (zo (Ye we Z Z) Z (qd Z (yg (gE H fun h11 H=>y1b (fun (k9:Nat) (s:Unit)=>[(4,.row 2 l4.length),(22,.row 2 l4.length),(23,.dat (vint (l4.length:Int))),(24,.dat (vint (k9:Int)))]) (fun (k9:Nat) (s:Unit)=>[(2,.row 9 1 (List.map zt l4))]) () H ⟨Z,Z,Z,Z,U⟩ ⟨Z,U⟩ (fun _ _=>Z) ?_ ?_)))))))
  ·rintro ⟨⟩ H
   replace H:z5i l4=some r:=H
   unfold z5i at H
   refine zb hN Z (za (ye Z Z) (zg (zh _ Z (fun h=>(lt_t h).elim) (fun h => ?_))))
   refine qc (zg (z8x 4 2 Z Z Z (zu hN Z (qd Z (bE H fun r12 h13 H=>za (zm (y4x l4 r12 h13) ⟨.inl Z,U⟩) (qe Z (zg (zb hN Z (qd Z (za (yz we Z) (za (qv Z Z) (zh _ Z (fun h14 => ?_) (fun h14 => ?_)))))))))))))
   ·refine tE h14 H fun H=>zb hN Z (qe Z (qe Z (zk ?_)))
    cases H
    exact ⟨U,.inr ⟨Z,Z⟩,.inl Z,U⟩
   ·refine fE h14 H fun H=>zl (zb hN Z (qd Z (qe Z (qe Z (zk ?_)))))
    cases H
    exact ⟨U,.inl Z,.inl Z,U⟩
  ·rintro k9 ⟨⟩ q10 h15 H hq10
   replace H:z0c l4 k9=some q10:=H
   unfold z0c at H
   refine zb hN Z (za (ye Z Z) (zg (zh _ Z (fun h => ?_) (fun h=>(lt_f h15 h).elim))))
   refine zl (zg (yg (zb hN Z (bE H fun x16 h17 H=>zo (z8w wy Z Z Z h17) Z (zo (y2i tyS9 Z Z h17 Z) Z (qe Z (zb hN Z (qd Z (bE H fun r18 h19 H=>za (zm (y4y x16 r18 h19) ⟨.inl Z,U⟩) (za (yp Z) (zh _ Z (fun h20 => ?_) (fun h20 => ?_))))))))))))
   ·refine tE h20 H fun H=>zb hN Z (qe Z (qe Z (zk ?_)))
    replace H:=retl H hq10
    cases H
    exact ⟨U,.inr ⟨Z,Z⟩,.inl Z,U⟩
   ·exact fE h20 H fun H=>zl (zu hN Z (za (qs Z Z (by omega)) (qd Z ⟨_,qj H,⟨Z,Z,Z,Z,U⟩,⟨Z,U⟩⟩)))
 ·rintro k5 x8 l4 q6 h21 h22 H hq6
  replace H:z0d k5 x8 l4=some q6:=H
  unfold z0d at H
  refine zb hN Z (za (ye Z Z) (zg (zh _ Z (fun h => ?_) (fun h=>(lt_f h21 h).elim))))
  exact zl (zg (yg (zb hN Z (za (wd wy (fun _=>Z) Z Z h22) (za (qo tyS9 Z (qa h22) Z) (qe Z (zu hN Z (za (zf (.row _ _) Z) (qd Z (bE H fun r23 h24 H=>za (y83 (x1s x8 (fun (a0:Int)=>Zr a0) 121 [] (fun a0 r h=>x3k a0 r h) r23 h24) ⟨.inl (.inl Z),.inr ⟨_,Z,Z⟩,U⟩) (gE H fun h25 H=>zi (z6d yr (fun _=>Z) Z Z Z h25 Z) Z (za (qi (.row _ _) Z) (zu hN Z (za (qs Z Z (by omega)) (qd Z ⟨_,qj H,⟨Z,Z,Z,Z,U⟩,⟨Z,U⟩⟩)))))))))))))))
theorem x2a (l1:(List zd)) (name2:Bs) (value3:Bs) (r:((List zd))) (H:z3p l1 name2 value3=some r):Fn Tryz.prog 124 [vlst (List.map zq l1),vstr name2,vstr value3] (zw [vlst (List.map zq r)]):=by
 refine ⟨by kernel_rfl,yh (us:=[vlst (List.map zq r)]) Tryz.func124 Z Z Z Z fun X hN => ?_⟩
 unfold z3p at H
 refine zb hN Z (qe Z (zb hN Z (qe Z (zb hN Z (qe Z (zg (zb hN Z (qd Z (za (yz vm Z) (qd Z (yg (kl 7 1 57 2 Z Z Z (gE H fun h8 H=>qw (fun (k6:Nat) (s:Bool×(List zd))=>[(1,.dat (vstr name2)),(2,.dat (vstr value3)),(7,.row 1 s.2.length),(8,.dat (zj s.1)),(11,.dat (vlst (List.map zq l1))),(12,.dat (vint (l1.length:Int))),(13,.dat (vint (k6:Int)))]) (fun (k6:Nat) (s:Bool×(List zd))=>[(1,.row 57 2 (List.map zq s.2))]) (false,[]) H ⟨Z,Z,Z,Z,Z,Z,Z,U⟩ ⟨Z,U⟩ (fun _ _=>Z) ?_ ?_)))))))))))))
 ·rintro ⟨done4,l5⟩ H
  replace H:xa name2 value3 done4 l5=some r:=H
  unfold xa at H
  refine zb hN Z (za (ye Z Z) (zg (zh _ Z (fun h=>(lt_t h).elim) (fun h => ?_))))
  refine qc (yf (ι:=(List zd)) (fun i=>[(7,.row 1 i.length)]) (fun i=>[(1,.row 57 2 (List.map zq i))]) (fun i=>Yl i=some r) (fun i=>Z) ?_ ?_)
  ·skip
   refine zb hN Z (qd Z (za (yp Z) (zh _ Z (fun h10 => ?_) (fun h10 => ?_))))
   ·refine tE h10 H fun H=>zu hN Z (za (zf (.row _ _) Z) (qd Z (qd Z (za (yd (u':=vagg (zq (zd.mk name2 value3))) (qy [(0,[vstr name2]),(1,[vstr value3])] vk ko Z ⟨Z,.inl ⟨_,Z,Z,Z⟩,Z,Z,.inl ⟨_,Z,Z,Z⟩,Z,U⟩) Z) (za (yd (u':=vlst (List.map zq [(zd.mk name2 value3)])) (yl [_] wm ⟨Z,.inr Z,Z,U⟩ Z Z) Z) (gE H fun h11 H=>zi (vu wm (fun _=>Z) Z Z Z ⟨by simp,by first | (simp; done) | simpa using h11⟩ Z) Z ?_))))))
    exact za (qi (.row _ _) Z) ⟨(l5++[(zd.mk name2 value3)]),H,⟨Z,U⟩,⟨Z,U⟩⟩
   ·exact fE h10 H fun H=>zl ⟨l5,H,⟨Z,U⟩,⟨Z,U⟩⟩
  ·rintro out12 H
   replace H:Yl out12=some r:=H
   unfold Yl at H
   refine zb hN Z (za (zf (.row _ _) Z) (za (qi (.row _ _) Z) (zk ?_)))
   cases H
   exact ⟨U,ud Z Z,U⟩
 ·rintro k6 x9 ⟨done4,l5⟩ q7 h13 h14 H hq7
  replace H:jh name2 value3 k6 x9 done4 l5=some q7:=H
  unfold jh at H
  refine zb hN Z (za (ye Z Z) (zg (zh _ Z (fun h => ?_) (fun h=>(lt_f h13 h).elim))))
  refine zl (yf (ι:=Bool×(List zd)) (fun i=>[(1,.dat (vstr name2)),(2,.dat (vstr value3)),(7,.row 1 i.2.length),(8,.dat (zj i.1)),(11,.dat (vlst (List.map zq l1))),(12,.dat (vint (l1.length:Int))),(13,.dat (vint (k6:Int)))]) (fun i=>[(1,.row 57 2 (List.map zq i.2))]) (fun i=>um i.1 i.2=some q7) (fun i=>Z) ?_ ?_)
  ·skip
   refine yg (zb hN Z (za (wd je (fun _=>Z) Z Z h14) (za (uj wq Z (qa h14) Z) (zi (qz 2 vk Z) Z (zi (yu wq Z Z Z Z) Z (yg (zb hN Z (zo (yk wq Z Z Z) Z (qd Z (bE H fun r15 h16 H=>za (zm (y0a x9 name2 r15 h16) ⟨.inl Z,.inl Z,U⟩) (za (yp Z) (qe Z (zh _ Z (fun h17 => ?_) (fun h17 => ?_))))))))))))))
   ·refine tE h17 H fun H=>zu hN Z (za (zf (.row _ _) Z) (zo (yk wq Z Z Z) Z (za (yd (u':=vlst (List.map zq [x9])) (yl [_] wm ⟨Z,.inr Z,Z,U⟩ Z Z) Z) (gE H fun h18 H=>zi (vu wm (fun _=>Z) Z Z Z ⟨by simp,by first | (simp; done) | simpa using h18⟩ Z) Z ?_))))
    exact za (qi (.row _ _) Z) ⟨(done4,(l5++[x9])),H,⟨Z,Z,Z,Z,Z,Z,Z,U⟩,⟨Z,U⟩⟩
   ·refine fE h17 H fun H=>zb hN Z (qd Z (za (yp Z) (qe Z (zh _ Z (fun h19 => ?_) (fun h19 => ?_)))))
    ·refine tE h19 H fun H=>zb hN Z (za (zf (.row _ _) Z) (za (zp kq Z) (zo (zz tyS9 Z Z) Z (qd Z (za (yd (u':=vagg (zq (zd.mk x9.Name value3))) (qy [(0,[vstr x9.Name]),(1,[vstr value3])] vk ko Z ⟨Z,.inl ⟨_,Z,Z,Z⟩,Z,Z,.inl ⟨_,Z,Z,Z⟩,Z,U⟩) Z) (za (yd (u':=vlst (List.map zq [(zd.mk x9.Name value3)])) (yl [_] wm ⟨Z,.inr Z,Z,U⟩ Z Z) Z) (gE H fun h20 H=>zi (vu wm (fun _=>Z) Z Z Z ⟨by simp,by first | (simp; done) | simpa using h20⟩ Z) Z ?_)))))))
     exact za (qi (.row _ _) Z) (zu hN Z (qe Z ⟨(true,(l5++[(zd.mk x9.Name value3)])),H,⟨Z,Z,Z,Z,Z,Z,Z,U⟩,⟨Z,U⟩⟩))
    ·exact fE h19 H fun H=>zl ⟨(done4,l5),H,⟨Z,Z,Z,Z,Z,Z,Z,U⟩,⟨Z,U⟩⟩
  ·rintro ⟨done21,out22⟩ H
   replace H:um done21 out22=some q7:=H
   unfold um at H
   exact zu hN Z (za (qs Z Z (by omega)) (qd Z ⟨_,qj H,⟨Z,Z,Z,Z,Z,Z,Z,U⟩,⟨Z,U⟩⟩))
theorem x2f (l1:(List zd)) (name2:Bs) (value3:Bs) (r:((List zd)×Int)) (H:z3s l1 name2 value3=some r):Fn Tryz.prog 81 [vlst (List.map zq l1),vstr name2,vstr value3] (zw [vlst (List.map zq r.1),vint r.2]):=by
 refine ⟨by kernel_rfl,yh (us:=[vlst (List.map zq r.1),vint r.2]) Tryz.func81 Z Z Z Z fun X hN => ?_⟩
 unfold z3s at H
 refine zb hN Z (qe Z (qe Z (zg (zb hN Z (qd Z (qd Z (bE H fun r4 h5 H=>za (zm (y4s l1 name2 r4 h5) ⟨.inl Z,.inl Z,U⟩) (qe Z (zb hN Z (qd Z (za (qk Z Z) (zh _ Z (fun h6 => ?_) (fun h6 => ?_)))))))))))))
 ·refine tE h6 H fun H=>zb hN Z (qd Z (qe Z (qe Z (zk ?_))))
  cases H
  exact ⟨U,.inr ⟨Z,Z⟩,.inl Z,U⟩
 ·refine fE h6 H fun H=>zl (zg (zb hN Z (qd Z (bE H fun r7 h8 H=>za (zm (y0b value3 r7 h8) ⟨.inl Z,U⟩) (za (yp Z) (zh _ Z (fun h9 => ?_) (fun h9 => ?_)))))))
  ·refine tE h9 H fun H=>zb hN Z (qe Z (qe Z (zk ?_)))
   cases H
   exact ⟨U,.inr ⟨Z,Z⟩,.inl Z,U⟩
  ·refine fE h9 H fun H=>zl (zb hN Z (qd Z (qd Z (qd Z (bE H fun r10 h11 H=>za (zm (x2a l1 name2 value3 r10 h11) ⟨.inl Z,.inl Z,.inl Z,U⟩) (qe Z (zg (zb hN Z (qd Z (za (yz vm Z) (za (qv Z Z) (zh _ Z (fun h12 => ?_) (fun h12 => ?_)))))))))))))
   ·refine tE h12 H fun H=>zb hN Z (qe Z (qe Z (zk ?_)))
    cases H
    exact ⟨U,.inr ⟨Z,Z⟩,.inl Z,U⟩
   ·refine fE h12 H fun H=>zl (zb hN Z (qd Z (qe Z (qe Z (zk ?_)))))
    cases H
    exact ⟨U,.inl Z,.inl Z,U⟩
theorem x3r (v1:zy) (v2:zx) (v3:Int) (r:(zy×Int)) (H:z4h v1 v2 v3=some r):Fn Tryz.prog 38 [vagg (yy v1),vagg (vt v2),vint v3] (zw [vagg (yy r.1),vint r.2]):=by
 refine ⟨by kernel_rfl,yh (us:=[vagg (yy r.1),vint r.2]) Tryz.func38 Z Z Z Z fun X hN => ?_⟩
 unfold z4h at H
 refine zb hN Z (zi (qr 1 Z) Z (zi (qr 2 Z) Z (zi (qz 3 ww Z) Z (qe Z (zb hN Z (zo (yk yo Z Z Z) Z (bE H fun r4 h5 H=>za (zm (x3t v1 r4 h5) ⟨.inl Z,U⟩) (zi (qz 4 ww Z) Z (zi (yu yo Z Z Z Z) Z (zb hN Z (qd Z (qd Z (za (zp ub Z) (zi (wz tyS3 Z Z Z Z) Z (za (zp xy Z) (zi (wz tyS3 Z Z Z Z) Z (yf (ι:=Int×(List zd)×Bs×(List Bs)) (fun i=>[(6,.ptr 3 0),(8,.ptr 4 0)]) (fun i=>[(3,.box none 33 [.dat (vint 0),.dat (vstr []),.dat (vstr []),.dat (vstr []),.dat (vstr []),.dat (vstr []),.dat (vnil),.dat (vstr []),.dat (vint 0),.dat (vnil),.dat (vstr []),.dat (vint 0),.dat (vnil),.dat (vint 0)]),(4,.box none 33 [.dat (vint r4.Request.At),.dat (vstr r4.Request.Method),.dat (vstr r4.Request.Host),.dat (vstr r4.Request.Path),.dat (vstr r4.Request.Query),.dat (vstr r4.Request.From),.dat (vlst (List.map zq r4.Request.Headers)),.dat (vstr r4.Request.Body),.dat (vint i.1),.dat (vlst (List.map zq i.2.1)),.dat (vstr i.2.2.1),.dat (vint v3),.dat (vlst (List.map zt i.2.2.2)),.dat (vint v3)])]) (fun i=>z0f v3 r4 i.1 i.2.1 i.2.2.1 i.2.2.2=some r) (fun i=>Z) ?_ ?_)))))))))))))))))
 ·skip
  refine zb hN Z (za (zp xz Z) (zo (zz tyS3 Z Z) Z (za (qk Z Z) (zh _ Z (fun h6 => ?_) (fun h6 => ?_)))))
  ·refine tE h6 H fun H=>zb hN Z (zo (yk wi Z Z Z) Z (bE H fun r7 h8 H=>za (zm (x3l v2 r7 h8) ⟨.inl Z,U⟩) (qd Z (za (ym Z Z) (za (ym Z Z) (qe Z (qe Z (zg (zb hN Z (qd Z (za (qk Z Z) (zh _ Z (fun h9 => ?_) (fun h9 => ?_)))))))))))))
   ·refine tE h9 H fun H=>zb hN Z (za (ja (u':=vagg (yy (zy.mk (ya.mk 0 [] [] [] [] [] [] []) (zx.mk 0 [] []) 0 [] 0))) (jd (by exact ⟨zr,zr,zr,zr,zr,zr,qf,zr,zr,qf,zr,zr,qf,zr,U⟩)) (qy [] ww kg Z U)) ?_)
    refine qd Z (zi (yu yo Z Z Z Z) Z (qe Z (zk ?_)))
    cases H
    exact ⟨U,.inl ⟨_,_,_,yy (zy.mk (ya.mk 0 [] [] [] [] [] [] []) (zx.mk 0 [] []) 0 [] 0),Z,Z,Z,Z,yo⟩,.inl Z,U⟩
   ·exact fE h9 H fun H=>zl (zu hN Z (zo (yk wi Z Z Z) Z (bE H fun r10 h11 H=>za (zm (y5a v2 r10 h11) ⟨.inl Z,U⟩) (qd Z (za (zp vy Z) (zi (z6e wi Z Z Z Z) Z (za (zp kh Z) (zi (wz jn Z Z Z Z) Z ⟨(r10.Status,r10.Headers,r10.Body,r7.1),H,⟨Z,Z,U⟩,⟨Z,Z,U⟩⟩))))))))
  ·refine fE h6 H fun H=>zb hN Z (za (zp wx Z) (zo (zz qg Z Z) Z (za (yz vm Z) (qd Z (yg (gE H fun h15 H=>qw (fun (k13:Nat) (s:(List zd))=>[(6,.ptr 3 0),(8,.ptr 4 0),(40,.dat (vlst (List.map zq v2.Headers))),(41,.dat (vint (v2.Headers.length:Int))),(42,.dat (vint (k13:Int)))]) (fun (k13:Nat) (s:(List zd))=>[(3,.box none 33 [.dat (vint 0),.dat (vstr []),.dat (vstr []),.dat (vstr []),.dat (vstr []),.dat (vstr []),.dat (vnil),.dat (vstr []),.dat (vint 0),.dat (vnil),.dat (vstr []),.dat (vint 0),.dat (vnil),.dat (vint 0)]),(4,.box none 33 [.dat (vint r4.Request.At),.dat (vstr r4.Request.Method),.dat (vstr r4.Request.Host),.dat (vstr r4.Request.Path),.dat (vstr r4.Request.Query),.dat (vstr r4.Request.From),.dat (vlst (List.map zq r4.Request.Headers)),.dat (vstr r4.Request.Body),.dat (vint r4.Response.Status),.dat (vlst (List.map zq s)),.dat (vstr r4.Response.Body),.dat (vint v3),.dat (vlst (List.map zt r4.Tags)),.dat (vint v3)])]) r4.Response.Headers H ⟨Z,Z,Z,Z,Z,U⟩ ⟨Z,Z,U⟩ (fun _ _=>Z) ?_ ?_))))))
   ·rintro c12 H
    replace H:y08 v3 r4 c12=some r:=H
    unfold y08 at H
    refine zb hN Z (za (ye Z Z) (zg (zh _ Z (fun h=>(lt_t h).elim) (fun h => ?_))))
    exact qc ⟨(r4.Response.Status,c12,r4.Response.Body,r4.Tags),H,⟨Z,Z,U⟩,⟨Z,Z,U⟩⟩
   ·rintro k13 x16 c12 q14 h17 h18 H hq14
    replace H:z2u k13 x16 c12=some q14:=H
    unfold z2u at H
    refine zb hN Z (za (ye Z Z) (zg (zh _ Z (fun h => ?_) (fun h=>(lt_f h17 h).elim))))
    refine zl (yf (ι:=(List zd)) (fun i=>[(6,.ptr 3 0),(8,.ptr 4 0),(40,.dat (vlst (List.map zq v2.Headers))),(41,.dat (vint (v2.Headers.length:Int))),(42,.dat (vint (k13:Int)))]) (fun i=>[(3,.box none 33 [.dat (vint 0),.dat (vstr []),.dat (vstr []),.dat (vstr []),.dat (vstr []),.dat (vstr []),.dat (vnil),.dat (vstr []),.dat (vint 0),.dat (vnil),.dat (vstr []),.dat (vint 0),.dat (vnil),.dat (vint 0)]),(4,.box none 33 [.dat (vint r4.Request.At),.dat (vstr r4.Request.Method),.dat (vstr r4.Request.Host),.dat (vstr r4.Request.Path),.dat (vstr r4.Request.Query),.dat (vstr r4.Request.From),.dat (vlst (List.map zq r4.Request.Headers)),.dat (vstr r4.Request.Body),.dat (vint r4.Response.Status),.dat (vlst (List.map zq i)),.dat (vstr r4.Response.Body),.dat (vint v3),.dat (vlst (List.map zt r4.Tags)),.dat (vint v3)])]) (fun i=>z2v i=some q14) (fun i=>Z) ?_ ?_)
    ·skip
     refine yg (zb hN Z (za (wd je (fun _=>Z) Z Z h18) (za (uj wq Z (qa h18) Z) (zi (qz 5 vk Z) Z (zi (yu wq Z Z Z Z) Z (zg (zb hN Z (za (zp kq Z) (zo (zz tyS9 Z Z) Z (bE H fun r19 h20 H=>za (zm (y4m x16.Name [99,111,110,116,101,110,116,45,108,101,110,103,116,104] r19 h20) ⟨.inl Z,.inl Z,U⟩) (zh _ Z (fun h21 => ?_) (fun h21 => ?_))))))))))))
     ·exact tE h21 H fun H=>qc ⟨c12,H,⟨Z,Z,Z,Z,Z,U⟩,⟨Z,Z,U⟩⟩
     ·refine fE h21 H fun H=>zl (zb hN Z (za (zp vy Z) (za (zp wx Z) (zo (zz qg Z Z) Z (za (zp kq Z) (zo (zz tyS9 Z Z) Z (za (zp z0n Z) (zo (zz tyS9 Z Z) Z (bE H fun r22 h23 H=>za (zm (x2f c12 x16.Name x16.Value r22 h23) ⟨.inl Z,.inl Z,.inl Z,U⟩) (qd Z (za (ym Z Z) (za (ym Z Z) (qe Z (qe Z (zg (zb hN Z (qd Z (za (qk Z Z) (zh _ Z (fun h24 => ?_) (fun h24 => ?_))))))))))))))))))))
      ·refine tE h24 H fun H=>zb hN Z (za (ja (u':=vagg (yy (zy.mk (ya.mk 0 [] [] [] [] [] [] []) (zx.mk 0 [] []) 0 [] 0))) (jd (by exact ⟨zr,zr,zr,zr,zr,zr,qf,zr,zr,qf,zr,zr,qf,zr,U⟩)) (qy [] ww kg Z U)) ?_)
       refine qd Z (zi (yu yo Z Z Z Z) Z (qe Z (zk ?_)))
       replace H:=retl H hq14
       cases H
       exact ⟨U,.inl ⟨_,_,_,yy (zy.mk (ya.mk 0 [] [] [] [] [] [] []) (zx.mk 0 [] []) 0 [] 0),Z,Z,Z,Z,yo⟩,.inl Z,U⟩
      ·exact fE h24 H fun H=>zl (zu hN Z (qd Z (za (zp vy Z) (za (zp wx Z) (zi (wz qg Z Z Z Z) Z ⟨r22.1,H,⟨Z,Z,Z,Z,Z,U⟩,⟨Z,Z,U⟩⟩)))))
    ·rintro c25 H
     replace H:z2v c25=some q14:=H
     unfold z2v at H
     exact zu hN Z (za (qs Z Z (by omega)) (qd Z ⟨_,qj H,⟨Z,Z,Z,Z,Z,U⟩,⟨Z,Z,U⟩⟩))
 ·rintro ⟨c26,c27,c28,c29⟩ H
  replace H:z0f v3 r4 c26 c27 c28 c29=some r:=H
  unfold z0f at H
  refine zg (zb hN Z (zo (yk yo Z Z Z) Z (bE H fun r30 h31 H=>za (zm (y0k (zy.mk r4.Request (zx.mk c26 c27 c28) v3 c29 v3) r30 h31) ⟨.inl Z,U⟩) (qe Z (zb hN Z (qd Z (za (qk Z Z) (zh _ Z (fun h32 => ?_) (fun h32 => ?_)))))))))
  ·refine tE h32 H fun H=>zb hN Z (za (ja (u':=vagg (yy (zy.mk (ya.mk 0 [] [] [] [] [] [] []) (zx.mk 0 [] []) 0 [] 0))) (jd (by exact ⟨zr,zr,zr,zr,zr,zr,qf,zr,zr,qf,zr,zr,qf,zr,U⟩)) (qy [] ww kg Z U)) ?_)
   refine qd Z (zi (yu yo Z Z Z Z) Z (qe Z (zk ?_)))
   cases H
   exact ⟨U,.inl ⟨_,_,_,yy (zy.mk (ya.mk 0 [] [] [] [] [] [] []) (zx.mk 0 [] []) 0 [] 0),Z,Z,Z,Z,yo⟩,.inl Z,U⟩
  ·refine fE h32 H fun H=>zl (zb hN Z (zo (yk yo Z Z Z) Z (zi (yu yo Z Z Z Z) Z (qe Z (zk ?_)))))
   cases H
   exact ⟨U,.inl ⟨_,_,_,yy (zy.mk r4.Request (zx.mk c26 c27 c28) v3 c29 v3),Z,Z,Z,Z,yo⟩,.inl Z,U⟩
theorem x3w (e1:zy) (a2:zx) (v3:Int) (r:(zy×Int)) (H:ur e1 a2 v3=some r):Fn Tryz.prog 11 [vagg (yy e1),vagg (vt a2),vint v3] (zw [vagg (yy r.1),vint r.2]):=by
 refine ⟨by kernel_rfl,yh (us:=[vagg (yy r.1),vint r.2]) Tryz.func11 Z Z Z Z fun X hN => ?_⟩
 unfold ur at H
 refine zb hN Z (zi (qr 1 Z) Z (zi (qr 2 Z) Z (zi (qz 3 ww Z) Z (qe Z (zg (zb hN Z (zo (yk yo Z Z Z) Z (bE H fun r4 h5 H=>za (zm (y0k e1 r4 h5) ⟨.inl Z,U⟩) (qe Z (zb hN Z (qd Z (za (qk Z Z) (zh _ Z (fun h6 => ?_) (fun h6 => ?_))))))))))))))
 ·refine tE h6 H fun H=>zb hN Z (za (ja (u':=vagg (yy (zy.mk (ya.mk 0 [] [] [] [] [] [] []) (zx.mk 0 [] []) 0 [] 0))) (jd (by exact ⟨zr,zr,zr,zr,zr,zr,qf,zr,zr,qf,zr,zr,qf,zr,U⟩)) (qy [] ww kg Z U)) ?_)
  refine qd Z (zi (yu yo Z Z Z Z) Z (qe Z (zk ?_)))
  cases H
  exact ⟨U,.inl ⟨_,_,_,yy (zy.mk (ya.mk 0 [] [] [] [] [] [] []) (zx.mk 0 [] []) 0 [] 0),Z,Z,Z,Z,yo⟩,.inl Z,U⟩
 ·refine fE h6 H fun H=>zl (zg (zb hN Z (zo (yk wi Z Z Z) Z (bE H fun r7 h8 H=>za (zm (y0c a2 r7 h8) ⟨.inl Z,U⟩) (qe Z (zb hN Z (qd Z (za (qk Z Z) (zh _ Z (fun h9 => ?_) (fun h9 => ?_))))))))))
  ·refine tE h9 H fun H=>zb hN Z (za (ja (u':=vagg (yy (zy.mk (ya.mk 0 [] [] [] [] [] [] []) (zx.mk 0 [] []) 0 [] 0))) (jd (by exact ⟨zr,zr,zr,zr,zr,zr,qf,zr,zr,qf,zr,zr,qf,zr,U⟩)) (qy [] ww kg Z U)) ?_)
   refine qd Z (zi (yu yo Z Z Z Z) Z (qe Z (zk ?_)))
   cases H
   exact ⟨U,.inl ⟨_,_,_,yy (zy.mk (ya.mk 0 [] [] [] [] [] [] []) (zx.mk 0 [] []) 0 [] 0),Z,Z,Z,Z,yo⟩,.inl Z,U⟩
  ·refine fE h9 H fun H=>zl (zg (zb hN Z (zo (yk yo Z Z Z) Z (qd Z (bE H fun r10 h11 H=>za (zm (x3j e1 v3 r10 h11) ⟨.inl Z,.inl Z,U⟩) (qe Z (zb hN Z (qd Z (za (qk Z Z) (zh _ Z (fun h12 => ?_) (fun h12 => ?_)))))))))))
   ·refine tE h12 H fun H=>zb hN Z (za (ja (u':=vagg (yy (zy.mk (ya.mk 0 [] [] [] [] [] [] []) (zx.mk 0 [] []) 0 [] 0))) (jd (by exact ⟨zr,zr,zr,zr,zr,zr,qf,zr,zr,qf,zr,zr,qf,zr,U⟩)) (qy [] ww kg Z U)) ?_)
    refine qd Z (zi (yu yo Z Z Z Z) Z (qe Z (zk ?_)))
    cases H
    exact ⟨U,.inl ⟨_,_,_,yy (zy.mk (ya.mk 0 [] [] [] [] [] [] []) (zx.mk 0 [] []) 0 [] 0),Z,Z,Z,Z,yo⟩,.inl Z,U⟩
   ·refine fE h12 H fun H=>zl (zb hN Z (zo (yk yo Z Z Z) Z (zo (yk wi Z Z Z) Z (qd Z (bE H fun r13 h14 H=>za (zm (x3r e1 a2 v3 r13 h14) ⟨.inl Z,.inl Z,.inl Z,U⟩) (za (ym Z Z) (za (ym Z Z) (zi (yu yo Z Z Z Z) Z (qe Z (zk ?_))))))))))
    cases H
    exact ⟨U,.inl ⟨_,_,_,yy r13.1,Z,Z,Z,Z,yo⟩,.inl Z,U⟩
theorem Qk (n1:Int) (low2:Int) (high3:Int) (r:(Bool)) (H:jy n1 low2 high3=some r):Fn Tryz.prog 82 [vint n1,vint low2,vint high3] (zw [zj r]):=by
 refine ⟨by kernel_rfl,yh (us:=[zj r]) Tryz.func82 Z Z Z Z fun X hN => ?_⟩
 unfold jy at H
 refine zb hN Z (qe Z (zb hN Z (qd Z (qd Z (za (wt Z Z) (qd Z (qt Z Z (fun hc=>zf (.dat _) Z) (qt Z Z (fun hc=>zf (.dat _) Z) (qt Z Z (fun hc=>wt (cnd (c:=(decide (low2≤n1))) hc) (cnd (c:=(decide (low2≤n1))) hc)) (za (vc Z (fun hb=>(cnd (c:=(decide (low2≤n1))) hb)) Z) (qe Z (zk ?_))))))))))))
 cases H
 exact ⟨U,.inl Z,U⟩
theorem z7q (v1:Int) (r:(Bool)) (H:Qd v1=some r):Fn Tryz.prog 40 [vint v1] (zw [zj r]):=by
 refine ⟨by kernel_rfl,yh (us:=[zj r]) Tryz.func40 Z Z Z Z fun X hN => ?_⟩
 unfold Qd at H
 refine zb hN Z (qe Z (zb hN Z (qd Z (bE H fun r2 h3 H=>za (zm (Qk v1 0 345686399999 r2 h3) ⟨.inl Z,.inl Z,.inl Z,U⟩) (qe Z (zk ?_))))))
 cases H
 exact ⟨U,.inl Z,U⟩
theorem z4o (s1:Bs) (some2:Bs) (r:(Bool)) (H:uh s1 some2=some r):Fn Tryz.prog 83 [vstr s1,vstr some2] (zw [zj r]):=by
 refine ⟨by kernel_rfl,yh (us:=[zj r]) Tryz.func83 Z Z Z Z fun X hN => ?_⟩
 unfold uh at H
 refine zb hN Z (qe Z (zg (zb hN Z (qd Z (za (qh tyU9 Z) (qd Z (yg (gE H fun h5 H=>qw (fun (k3:Nat) (s:Unit)=>[(0,.dat (vstr s1)),(1,.dat (vstr some2)),(7,.dat (vint (s1.length:Int))),(8,.dat (vint (k3:Int)))]) (fun (k3:Nat) (s:Unit)=>[]) () H ⟨Z,Z,Z,Z,U⟩ U (fun _ _=>Z) ?_ ?_))))))))
 ·rintro ⟨⟩ H
  replace H:y0w=some r:=H
  unfold y0w at H
  refine zb hN Z (za (ye Z Z) (zg (zh _ Z (fun h=>(lt_t h).elim) (fun h => ?_))))
  refine qc (zb hN Z (qe Z (zk ?_)))
  cases H
  exact ⟨U,.inl Z,U⟩
 ·rintro k3 x6 ⟨⟩ q4 h7 h8 H hq4
  replace H:z73 some2 k3 x6=some q4:=H
  unfold z73 at H
  refine zb hN Z (za (ye Z Z) (zg (zh _ Z (fun h => ?_) (fun h=>(lt_f h7 h).elim))))
  refine zl (zg (yg (zb hN Z (qd Z (qe Z (zb hN Z (qd Z (qd Z (qd Z (za (qx tyU9 Z Z h8) (bE H fun r9 h10 H=>za (zm (y4l some2 (x6.toNat:Int) r9 h10) ⟨.inl Z,.inl Z,U⟩) (za (ye Z Z) (zh _ Z (fun h11 => ?_) (fun h11 => ?_))))))))))))))
  ·refine tE h11 H fun H=>zb hN Z (qe Z (zk ?_))
   replace H:=retl H hq4
   cases H
   exact ⟨U,.inl Z,U⟩
  ·exact fE h11 H fun H=>zl (zu hN Z (za (qs Z Z (by omega)) (qd Z ⟨_,qj H,⟨Z,Z,Z,Z,U⟩,U⟩)))
theorem y0h (s1:Bs) (r:(Bool)) (H:Yz s1=some r):Fn Tryz.prog 43 [vstr s1] (zw [zj r]):=by
 refine ⟨by kernel_rfl,yh (us:=[zj r]) Tryz.func43 Z Z Z Z fun X hN => ?_⟩
 unfold Yz at H
 refine zb hN Z (qe Z (yf (ι:=Bool) (fun i=>[(2,.dat (zj i))]) (fun i=>[]) (fun i=>z17 i=some r) (fun i=>Z) ?_ ?_))
 ·skip
  refine zu hN Z (qd Z (za (qh tyU9 Z) (bE H fun r2 h3 H=>za (zm (Qk (s1.length:Int) 1 100 r2 h3) ⟨.inl Z,.inl Z,.inl Z,U⟩) (qd Z (yi (j:=3) Z Z (fun h4 => ?_) (fun h4 => ?_) Z)))))
  ·exact u1 h4 H fun h5 H=>ze Z Z h4 (zf (.dat _) Z) (bE H fun r6 h7 H=>ze Z Z h4 (zm (z4o s1 [97,98,99,100,101,102,103,104,105,106,107,108,109,110,111,112,113,114,115,116,117,118,119,120,121,122,65,66,67,68,69,70,71,72,73,74,75,76,77,78,79,80,81,82,83,84,85,86,87,88,89,90,48,49,50,51,52,53,54,55,56,57,33,35,36,37,38,39,42,43,45,46,94,95,96,124,126] r6 h7) ⟨.inl Z,.inl Z,U⟩) (za (yc Z (bTT h5) Z) (qe Z ⟨r6,H,⟨Z,U⟩,U⟩)))
  ·exact u2 h4 H fun h8 H=>zc Z Z h4 (zc Z Z h4 (za (zv Z (bFF h8) Z) (qe Z ⟨false,H,⟨Z,U⟩,U⟩)))
 ·rintro v9 H
  replace H:z17 v9=some r:=H
  unfold z17 at H
  refine zk ?_
  cases H
  exact ⟨U,.inl Z,U⟩
theorem x1v (n:Int) (r:Bs) (H:y4e n=some r):Fn Tryz.prog 134 [vint n] (zw [vstr r]):=by
 obtain ⟨⟨h1,h2⟩,h3⟩:=gif H
 cases h3
 refine xv (by kernel_rfl) fun M w vs hM h => ?_
 have hv:=km (us:=[.int .i64 n]) h
 subst hv
 refine (Tryz.strconv_Itoa n h1 h2 w (x0k hM)).mono ?_
 rintro e w' ⟨rfl,k,os,rfl⟩
 exact ⟨_,Z,Z,Kp.of_below ⟨Z,Z,Z,by show w.heap.size≤(w.heap++os).size; rw [Array.size_append]; omega,fun j hj=>by show (w.heap++os)[j]?=w.heap[j]?; exact Array.getElem?_append_left hj⟩⟩
theorem x2z (s1:Bs) (most2:Int) (r:(Int×Bool)) (H:z7e s1 most2=some r):Fn Tryz.prog 89 [vstr s1,vint most2] (zw [vint r.1,zj r.2]):=by
 refine ⟨by kernel_rfl,yh (us:=[vint r.1,zj r.2]) Tryz.func89 Z Z Z Z fun X hN => ?_⟩
 unfold z7e at H
 refine zb hN Z (qe Z (qe Z (zb hN Z (qd Z (bE H fun r3 h4 H=>za (zm (y4k s1 [45] r3 h4) ⟨.inl Z,.inl Z,U⟩) (qe Z (zg (yf (ι:=Bool) (fun i=>[(0,.dat (vstr s1)),(23,.dat (zj i))]) (fun i=>[]) (fun i=>z18 s1 i=some r) (fun i=>Z) ?_ ?_))))))))
 ·skip
  refine zu hN Z (qd Z (za (vo Z Z) (qd Z (yi (j:=2) Z Z (fun h5 => ?_) (fun h5 => ?_) Z))))
  ·refine u3 h5 H fun h6 H=>ze Z Z h5 (zf (.dat _) Z) (ze Z Z h5 (qh tyU9 Z) (ze Z Z h5 (zf (.dat _) Z) (ze Z Z h5 (qv Z Z) (za (zv Z (bFF h6) Z) (qd Z (yi (j:=8) Z Z (fun h7 => ?_) (fun h7 => ?_) Z))))))
   ·exact u3 h7 H fun h8 H=>ze Z Z h7 (zf (.dat _) Z) (bE H fun r9 h10 H=>ze Z Z h7 (zm (z4o r3 [48,49,50,51,52,53,54,55,56,57] r9 h10) ⟨.inl Z,.inl Z,U⟩) (ze Z Z h7 (yp Z) (za (zv Z (bFF h8) Z) ⟨!r9,H,⟨Z,Z,U⟩,U⟩)))
   ·exact u4 h7 H fun h11 H=>zc Z Z h7 (zc Z Z h7 (zc Z Z h7 (za (yc Z (bTT h11) Z) ⟨true,H,⟨Z,Z,U⟩,U⟩)))
  ·exact u4 h5 H fun h12 H=>zc Z Z h5 (zc Z Z h5 (zc Z Z h5 (zc Z Z h5 (za (yc Z (bTT h12) Z) (qd Z (zc Z Z Z (zc Z Z Z (zc Z Z Z (za (yc Z Z Z) ⟨true,H,⟨Z,Z,U⟩,U⟩)))))))))
 ·rintro v13 H
  replace H:z18 s1 v13=some r:=H
  unfold z18 at H
  refine zh _ Z (fun h14 => ?_) (fun h14 => ?_)
  ·refine tE h14 H fun H=>zb hN Z (qe Z (qe Z (zk ?_)))
   cases H
   exact ⟨U,.inl Z,.inl Z,U⟩
  ·refine fE h14 H fun H=>zl (zb hN Z (qd Z (bE H fun r15 h16 H=>za (zm (y4p s1 r15 h16) ⟨.inl Z,U⟩) (qd Z (za (ym Z Z) (za (ym Z Z) (qe Z (qe Z (yf (ι:=Bool) (fun i=>[(4,.dat (vint r15.1)),(5,.dat (zj i))]) (fun i=>[]) (fun i=>z5e r15 i=some r) (fun i=>Z) ?_ ?_)))))))))
   ·skip
    refine zu hN Z (qd Z (qd Z (za (y2w (n:=r15.2) (show Tryz.prog.underlying 95=some (.interface (Tryz.prog.methodsAt 95)) from by kernel_rfl) Z) ?_)))
    refine qd Z (yi (j:=3) Z Z (fun h17 => ?_) (fun h17 => ?_) Z)
    ·exact u1 h17 H fun h18 H=>ze Z Z h17 (zf (.dat _) Z) (bE H fun r19 h20 H=>ze Z Z h17 (zm (x1v r15.1 r19 h20) ⟨.inl Z,U⟩) (ze Z Z h17 (zf (.dat _) Z) (ze Z Z h17 (vo Z Z) (za (yc Z (bTT h18) Z) (qe Z (qe Z ⟨decide (r19=s1),H,⟨Z,Z,U⟩,U⟩))))))
    ·exact u2 h17 H fun h21 H=>zc Z Z h17 (zc Z Z h17 (zc Z Z h17 (zc Z Z h17 (za (zv Z (bFF h21) Z) (qe Z (qe Z ⟨false,H,⟨Z,Z,U⟩,U⟩))))))
   ·rintro v22 H
    replace H:z5e r15 v22=some r:=H
    unfold z5e at H
    refine zk ?_
    cases H
    exact ⟨U,.inl Z,.inl Z,U⟩
end Go.Proofs.YtkldmhhbbceaoabGreatDoor
