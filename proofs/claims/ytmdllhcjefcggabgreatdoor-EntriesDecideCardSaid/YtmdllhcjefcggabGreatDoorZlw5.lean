/- Walks along the models. Printed by a program. -/
import Derived.Test.YtmdllhcjefcggabGreatDoorZlw4
namespace Go.Proofs.YtmdllhcjefcggabGreatDoor
open Go.RowKit
set_option linter.unusedVariables false
set_option maxRecDepth 100000
set_option maxHeartbeats 2000000
theorem x2f (s1:Bs) (plus2:Bool) (r:(Bs×Bool)) (H:Wj s1 plus2=some r):Fn Tryz.prog 162 [vstr s1,ze plus2] (zu [vstr r.1,ze r.2]):=by
 refine ⟨by kernel_rfl,yh (us:=[vstr r.1,ze r.2]) Tryz.func162 Z Z Z Z fun X hN => ?_⟩
 unfold Wj at H
 refine zb hN Z (qe Z (qe Z (zb hN Z (zj (qv 1 y4b Z) Z (y3x 1 0 (.nptr 1) Z Z y5p (z6w 1 1 2 5 1 Z Z Z Z (yd (ι:=(List Int)) (fun i=>[(6,.ptr 1 0)]) (fun i=>[(1,.box none 121 [.nptr 1,.row 2 i.length]),(2,.row 5 1 (List.map ql i))]) (fun i=>z7t i=some r) (fun i=>Z) ?_ ?_)))))))
 ·refine ve (zb hN Z (qe Z (zw (un (fun (s:Int×(List Int))=>[(0,.dat (vstr s1)),(1,.dat (ze plus2)),(6,.ptr 1 0),(7,.dat (vint s.1))]) (fun (s:Int×(List Int))=>[(1,.box none 121 [.nptr 1,.row 2 s.2.length]),(2,.row 5 1 (List.map ql s.2))]) (0,([]:List Int)) H ⟨Z,Z,Z,Z,U⟩ ⟨Z,Z,U⟩ (fun _=>Z) ?_))))
  rintro ⟨i3,l4⟩ q5 H hq5
  replace H:ke s1 plus2 i3 l4=some q5:=H
  unfold ke at H
  refine ve (zh (zb hN Z (qd Z (qd Z (za (qj tyU9 Z) (za (zx Z Z) (zg _ Z (fun h6 => ?_) (fun h6 => ?_))))))))
  ·refine tE h6 H fun H=>zl (yd (ι:=Int×(List Int)) (fun i=>[(0,.dat (vstr s1)),(1,.dat (ze plus2)),(6,.ptr 1 0),(7,.dat (vint i.1))]) (fun i=>[(1,.box none 121 [.nptr 1,.row 6 i.2.length]),(6,.row 5 1 (List.map ql i.2))]) (fun i=>Yq i.1 i.2=some q5) (fun i=>Z) ?_ ?_)
   ·refine ve (zw (zw (zb hN Z (qd Z (qd Z (bE H fun x7 h8 H=>za (kh tyU9 Z Z h8) (za (qf Z Z) (qd Z (yz Z Z (fun hc=>zd (.dat _) Z) (za (wm Z (fun hb=>(cnd (c:=(decide ((x7.toNat:Int)=43))) hb)) Z) (qe Z (zg _ Z (fun h9 => ?_) (fun h9 => ?_)))))))))))))
    ·refine tE h9 H fun H=>zp hN Z (bE H fun r10 h11 H=>ww (rn [(0,1),(1,2),(900,3)]) [(0,_,_,some _),(1,_,_,none)] [(900,_)] (z1p l4 32 r10 h11) ⟨Z,Z,Z,U⟩ ⟨.inl (.inl Z),.inl (.inl Z),U⟩ ⟨⟨⟨Z,Z⟩,U⟩,⟨⟨Z,Z,Z⟩,U⟩,U⟩ Z (vu ?_))
     show Cv _ _ _ _
     exact wu (rn [(3,6)]) [(0,.dat (vstr s1)),(1,.dat (ze plus2)),(6,.ptr 1 0),(7,.dat (vint i3))] [(1,.box none 121 [.nptr 1,.row 3 r10.2.length]),(3,.row 5 1 (List.map ql r10.2))] ⟨Z,Z,Z,Z,U⟩ ⟨Z,Z,U⟩ Z Z ⟨(i3,r10.2),H,⟨Z,Z,Z,Z,U⟩,⟨Z,Z,U⟩⟩
    ·refine fE h9 H fun H=>zb hN Z (qd Z (qd Z (za (kh tyU9 Z Z h8) (za (qp Z Z) (qe Z (zg _ Z (fun h12 => ?_) (fun h12 => ?_)))))))
     ·refine tE h12 H fun H=>zp hN Z (qd Z (qd Z (za (kh tyU9 Z Z h8) (bE H fun r13 h14 H=>ww (rn [(0,1),(1,2),(900,4)]) [(0,_,_,some _),(1,_,_,none)] [(900,_)] (z1p l4 (x7.toNat:Int) r13 h14) ⟨Z,Z,Z,U⟩ ⟨.inl (.inl Z),.inl (.inl Z),U⟩ ⟨⟨⟨Z,Z⟩,U⟩,⟨⟨Z,Z,Z⟩,U⟩,U⟩ Z (vu ?_)))))
      show Cv _ _ _ _
      exact wu (rn [(4,6)]) [(0,.dat (vstr s1)),(1,.dat (ze plus2)),(6,.ptr 1 0),(7,.dat (vint i3))] [(1,.box none 121 [.nptr 1,.row 4 r13.2.length]),(4,.row 5 1 (List.map ql r13.2))] ⟨Z,Z,Z,Z,U⟩ ⟨Z,Z,U⟩ Z Z ⟨(i3,r13.2),H,⟨Z,Z,Z,Z,U⟩,⟨Z,Z,U⟩⟩
     ·refine fE h12 H fun H=>zb hN Z (qd Z (qd Z (bE H fun r15 h16 H=>za (zk (x2b s1 i3 r15 h16) ⟨.inl Z,.inl Z,U⟩) (za (yq Z) (qe Z (zg _ Z (fun h17 => ?_) (fun h17 => ?_)))))))
      ·refine tE h17 H fun H=>zb hN Z (qe Z (qe Z (zi ?_)))
       replace H:=retl H hq5
       cases H
       show Cv _ _ _ _
       refine vq ?_
       show Cv _ _ _ _
       refine vq ?_
       show Cv _ _ _ _
       exact vq ⟨U,.inl Z,.inl Z,U⟩
      ·refine fE h17 H fun H=>zb hN Z (qd Z (qd Z (bE H fun r18 h19 H=>za (zk (x1x s1 i3 r18 h19) ⟨.inl Z,.inl Z,U⟩) (bE H fun r20 h21 H=>ww (rn [(0,1),(1,2),(900,5)]) [(0,_,_,some _),(1,_,_,none)] [(900,_)] (z1p l4 r18 r20 h21) ⟨Z,Z,Z,U⟩ ⟨.inl (.inl Z),.inl (.inl Z),U⟩ ⟨⟨⟨Z,Z⟩,U⟩,⟨⟨Z,Z,Z⟩,U⟩,U⟩ Z (zp hN Z (qd Z (za (yj _ Z Z (.inl ⟨Z,Z⟩)) (qe Z (vu ?_)))))))))
       show Cv _ _ _ _
       exact wu (rn [(5,6)]) [(0,.dat (vstr s1)),(1,.dat (ze plus2)),(6,.ptr 1 0),(7,.dat (vint (wr (i3+2))))] [(1,.box none 121 [.nptr 1,.row 5 r20.2.length]),(5,.row 5 1 (List.map ql r20.2))] ⟨Z,Z,Z,Z,U⟩ ⟨Z,Z,U⟩ Z Z ⟨(wr (i3+2),r20.2),H,⟨Z,Z,Z,Z,U⟩,⟨Z,Z,U⟩⟩
   ·rintro ⟨i22,l23⟩ H
    replace H:Yq i22 l23=some q5:=H
    unfold Yq at H
    refine zp hN Z (qd Z (za (yj _ Z Z (.inl ⟨Z,Z⟩)) (qe Z (vu ?_))))
    show Cv _ _ _ _
    exact wu (rn [(6,2)]) [(0,.dat (vstr s1)),(1,.dat (ze plus2)),(6,.ptr 1 0),(7,.dat (vint (wr (i22+1))))] [(1,.box none 121 [.nptr 1,.row 6 l23.length]),(6,.row 5 1 (List.map ql l23))] ⟨Z,Z,Z,Z,U⟩ ⟨Z,Z,U⟩ Z Z ⟨_,yx H,⟨Z,Z,Z,Z,U⟩,⟨Z,Z,U⟩⟩
  ·refine fE h6 H fun H=>yt ?_
   replace H:=outl H hq5
   show Cv _ _ _ _
   refine vq ?_
   show Cv _ _ _ _
   exact vq ⟨l4,H,⟨Z,U⟩,⟨Z,Z,U⟩⟩
 ·rintro l24 H
  replace H:z7t l24=some r:=H
  unfold z7t at H
  refine zb hN Z (gE H fun h25 H=>ww (rn [(0,1),(1,2)]) [(0,_,_,none),(1,_,_,none)] [] (y6e h25 (C:=ql) (fun _=>Z)) ⟨Z,Z,U⟩ ⟨.inl (.inl Z),U⟩ ⟨⟨⟨Z,Z⟩,U⟩,⟨⟨Z,Z,Z⟩,U⟩,U⟩ Z (qe Z (qe Z (zi ?_))))
  cases H
  exact ⟨U,.inl Z,.inl Z,U⟩
theorem w0s (s1:(List zo)) (p1:zo→Option (Bool)) (fv1:Nat) (us1:List V) (hp1:∀ a0 r,p1 a0=some r→Fn Tryz.prog fv1 ([vagg (yr a0)]++us1) (zu [ze r])) (r:(Int)) (H:y50 s1 p1=some r):Fn Tryz.prog 163 [vlst (List.map yr s1),vfn fv1 us1] (zu [vint r]):=by
 refine ⟨by kernel_rfl,yh (us:=[vint r]) Tryz.func163 Z Z Z Z fun X hN => ?_⟩
 unfold y50 at H
 refine zb hN Z (qe Z (zh (zb hN Z (qd Z (za (qi xt Z) (qd Z (zw (gE H fun h4 H=>qw (fun (k2:Nat) (s:Unit)=>[(0,.dat (vlst (List.map yr s1))),(1,.dat (vfn fv1 us1)),(7,.dat (vint (s1.length:Int))),(8,.dat (vint (k2:Int)))]) (fun (k2:Nat) (s:Unit)=>[]) () H ⟨Z,Z,Z,Z,U⟩ U (fun _ _=>Z) ?_ ?_))))))))
 ·rintro ⟨⟩ H
  replace H:y4y=some r:=H
  unfold y4y at H
  refine zb hN Z (za (zx Z Z) (zh (zg _ Z (fun h=>(lt_t h).elim) (fun h => ?_))))
  refine yt (zb hN Z (qe Z (zi ?_)))
  cases H
  exact ⟨U,.inl Z,U⟩
 ·rintro k2 x5 ⟨⟩ q3 h6 h7 H hq3
  replace H:y4x p1 k2 x5=some q3:=H
  unfold y4x at H
  refine zb hN Z (za (zx Z Z) (zh (zg _ Z (fun h => ?_) (fun h=>(lt_f h6 h).elim))))
  refine zl (zh (zw (zb hN Z (qd Z (qe Z (zb hN Z (qd Z (qd Z (qd Z (za (we ut (fun _=>Z) Z Z h7) (za (xy jx Z (qh h7) Z) (bE H fun r8 h9 H=>za (z0t (hp1 x5 r8 h9) Z ⟨.inl Z,U⟩) (zg _ Z (fun h10 => ?_) (fun h10 => ?_))))))))))))))
  ·refine tE h10 H fun H=>zb hN Z (qd Z (qe Z (zi ?_)))
   replace H:=retl H hq3
   cases H
   exact ⟨U,.inl Z,U⟩
  ·exact fE h10 H fun H=>zl (zp hN Z (za (qs Z Z (by omega)) (qd Z ⟨_,yx H,⟨Z,Z,Z,Z,U⟩,U⟩)))
theorem x1k (s1:(List zo)) (p1:zo→Option (Bool)) (fv1:Nat) (us1:List V) (hp1:∀ a0 r,p1 a0=some r→Fn Tryz.prog fv1 ([vagg (yr a0)]++us1) (zu [ze r])) (r:((List zo))) (H:z4a s1 p1=some r):FnG Tryz.prog 112 [.row 0 s1.length,.dat (vfn fv1 us1)] [(0,.row 137 2 (List.map yr s1))] (.row 900 r.length) [(900,.row 137 2 (List.map yr r))]:=by
 refine ub (by kernel_rfl) Tryz.func112 Z Z Z Z fun X A hN => ?_
 unfold z4a at H
 refine zb hN Z (qe Z (zb hN Z (za (zd (.row _ _) Z) (qd Z (bE H fun r2 h3 H=>zm (y9u (id:=0) (es:=List.map yr s1) (w0s s1 p1 fv1 us1 hp1 r2 h3) ⟨.inr ⟨(congrArg (Slot.row 0) (by rw [List.length_map]):Slot.row 0 s1.length=_),Z⟩,.inl (.inl (.inl Z)),U⟩ (fun _ _ _ _ h=>h)) Z ?_)))))
 refine qe Z (zh (zb hN Z (qd Z (za (qf Z Z) (zg _ Z (fun h4 => ?_) (fun h4 => ?_))))))
 ·refine tE h4 H fun H=>zb hN Z (za (zd (.row _ _) Z) (za (qm (.row _ _) Z) (z6v 4 0 900 Z Z (by rw [List.length_map]) Z ?_)))
  refine zi ?_
  cases H
  exact ⟨U,[(4,.row 900 _)],⟨Z,U⟩,⟨Z,U⟩,Z,.inr (.inl ⟨4,Z,Z⟩)⟩
 ·refine fE h4 H fun H=>zl (yd (ι:=Int×(List zo)) (fun i=>[(0,.row 0 i.2.length),(5,.dat (vint i.1))]) (fun i=>[(0,.row 137 2 (List.map yr i.2))]) (fun i=>y1g i.1 i.2=some r) (fun i=>Z) ?_ ?_)
  ·skip
   refine zb hN Z (qd Z (za (yj _ Z Z (.inl ⟨Z,Z⟩)) (qe Z (zw (un (fun (s:Int×Int×(List zo))=>[(0,.row 0 s.2.2.length),(1,.dat (vfn fv1 us1)),(5,.dat (vint s.1)),(6,.dat (vint s.2.1))]) (fun (s:Int×Int×(List zo))=>[(0,.row 137 2 (List.map yr s.2.2))]) (r2,wr (r2+1),s1) H ⟨Z,Z,Z,Z,U⟩ ⟨Z,U⟩ (fun _=>Z) ?_)))))
   rintro ⟨i5,j6,l7⟩ q8 H hq8
   replace H:y42 p1 i5 j6 l7=some q8:=H
   unfold y42 at H
   refine zh (zb hN Z (qd Z (za (zd (.row _ _) Z) (zm (Qx xt Z Z) Z (za (zx Z Z) (zg _ Z (fun h9 => ?_) (fun h9 => ?_)))))))
   ·refine tE h9 H fun H=>zl (yd (ι:=Int×(List zo)) (fun i=>[(0,.row 0 i.2.length),(1,.dat (vfn fv1 us1)),(5,.dat (vint i.1)),(6,.dat (vint j6))]) (fun i=>[(0,.row 137 2 (List.map yr i.2))]) (fun i=>z7j j6 i.1 i.2=some q8) (fun i=>Z) ?_ ?_)
    ·skip
     refine zw (zb hN Z (za (zd (.row _ _) Z) (qd Z (bE H fun x10 h11 H=>zm (y0z ut Z Z Z h11) Z (zm (y4f jx Z Z (vo h11).2 Z) Z (zj (qv 1 Qq Z) Z (zj (qk jx Z Z Z Z) Z (zb hN Z (qd Z (zm (qa jx Z Z Z) Z (bE H fun r12 h13 H=>za (z0t (hp1 x10 r12 h13) Z ⟨.inl Z,U⟩) (za (yq Z) (zg _ Z (fun h14 => ?_) (fun h14 => ?_))))))))))))))
     ·exact tE h14 H fun H=>zb hN Z (za (zd (.row _ _) Z) (qd Z (zm (qa jx Z Z Z) Z (bE H fun x15 h16 H=>zm (y0z ut Z Z Z h16) Z (zj (y89 (C:=yr) jx Z Z Z (y3y (vo h16).2) Z Z) Z (zp hN Z (qd Z (za (yj _ Z Z (.inl ⟨Z,Z⟩)) (qe Z ⟨(wr (i5+1),(l7.set i5.toNat x10)),H,⟨congrArg (Slot.row 0) (by simp),Z,Z,Z,U⟩,⟨Z,U⟩⟩)))))))))
     ·exact fE h14 H fun H=>zl ⟨(i5,l7),H,⟨Z,Z,Z,Z,U⟩,⟨Z,U⟩⟩
    ·rintro ⟨i17,s18⟩ H
     replace H:z7j j6 i17 s18=some q8:=H
     unfold z7j at H
     exact zp hN Z (qd Z (za (yj _ Z Z (.inl ⟨Z,Z⟩)) (qe Z ⟨_,yx H,⟨Z,Z,Z,Z,U⟩,⟨Z,U⟩⟩)))
   ·refine fE h9 H fun H=>yt ?_
    replace H:=outl H hq8
    exact ⟨(i5,l7),H,⟨Z,Z,U⟩,⟨Z,U⟩⟩
  ·rintro ⟨i19,s20⟩ H
   replace H:y1g i19 s20=some r:=H
   unfold y1g at H
   refine zb hN Z (za (zd (.row _ _) Z) (qd Z (gE H fun h21 H=>zm (y9b (C:=yr) ut Z Z Z h21) Z (zj (y9d (C:=yr) (zo.mk [] []) xt Qq Z Z Z Z Z h21) Z (zb hN Z (za (zd (.row _ _) Z) (qd Z (gE H fun h22 H=>y44 (y4g (C:=yr) 2 ut Z (x4p (zo.mk [] []) h21) Z h22) Z Z (za (qm (.row _ _) Z) (z6v 4 2 900 Z Z (by rw [List.length_map]; exact (z9x h22)) Z ?_))))))))))
   refine zi ?_
   cases H
   exact ⟨U,[(4,.row 900 _)],⟨Z,U⟩,⟨Z,U⟩,Z,.inr (.inl ⟨4,Z,congrArg (Slot.row 900) (by first | exact z9x (by assumption) | (simp <;> omega))⟩)⟩
theorem w0c (s1:Bs) (r:((List zo)×Int)) (H:Wn s1=some r):FnG Tryz.prog 111 [.dat (vstr s1)] [] (.comp true [.row 900 r.1.length,.dat (vint r.2)]) [(900,.row 137 2 (List.map yr r.1))]:=by
 refine ub (by kernel_rfl) Tryz.func111 Z Z Z Z fun X A hN => ?_
 unfold Wn at H
 refine zb hN Z (qe Z (qe Z (zh (zb hN Z (qd Z (bE H fun r2 h3 H=>za (zk (x1z s1 r2 h3) ⟨.inl Z,U⟩) (qe Z (zb hN Z (qd Z (za (qp Z Z) (zg _ Z (fun h4 => ?_) (fun h4 => ?_))))))))))))
 ·refine tE h4 H fun H=>zb hN Z (qd Z (qe Z (qe Z (jg 2 900 137 2 Z Z Z (zi ?_)))))
  cases H
  exact ⟨U,[(2,.row 900 _),(3,.dat (vint r2))],⟨Z,Z,U⟩,⟨Z,U⟩,Z,.inr (.inr ⟨.row 900 [].length,.dat (vint r2),[],⟨Z,Z,U⟩,Z⟩)⟩
 ·refine fE h4 H fun H=>zl (zb hN Z (qe Z (zh (zb hN Z (qd Z (bE H fun r5 h6 H=>za (zk (Qb s1 [38] r5 h6) ⟨.inl Z,.inl Z,U⟩) (za (qi wq Z) (qd Z (zw (jg 5 1 137 2 Z Z Z (gE H fun h10 H=>qw (fun (k8:Nat) (s:(List zo))=>[(5,.row 1 s.length),(21,.dat (vlst (List.map zr r5))),(22,.dat (vint (r5.length:Int))),(23,.dat (vint (k8:Int)))]) (fun (k8:Nat) (s:(List zo))=>[(1,.row 137 2 (List.map yr s))]) [] H ⟨Z,Z,Z,Z,U⟩ ⟨Z,U⟩ (fun _ _=>Z) ?_ ?_)))))))))))
  ·rintro l7 H
   replace H:Wd l7=some r:=H
   unfold Wd at H
   refine zb hN Z (za (zx Z Z) (zh (zg _ Z (fun h=>(lt_t h).elim) (fun h => ?_))))
   refine yt (zh (zb hN Z (za (zd (.row _ _) Z) (zm (Qx xt Z Z) Z (za (wg Z Z) (zg _ Z (fun h12 => ?_) (fun h12 => ?_)))))))
   ·refine tE h12 H fun H=>zb hN Z (qe Z (qe Z (jg 2 900 137 2 Z Z Z (zi ?_))))
    cases H
    exact ⟨U,[(2,.row 900 _),(3,.dat (vint 2))],⟨Z,Z,U⟩,⟨Z,U⟩,Z,.inr (.inr ⟨.row 900 [].length,.dat (vint 2),[],⟨Z,Z,U⟩,Z⟩)⟩
   ·refine fE h12 H fun H=>zl (zb hN Z (za (zd (.row _ _) Z) (za (qm (.row _ _) Z) (qe Z (z6v 2 1 900 Z Z (by rw [List.length_map]) Z ?_)))))
    refine zi ?_
    cases H
    exact ⟨U,[(2,.row 900 _),(3,.dat (vint 0))],⟨Z,Z,U⟩,⟨Z,U⟩,Z,.inr (.inr ⟨.row 900 l7.length,.dat (vint 0),[],⟨Z,Z,U⟩,Z⟩)⟩
  ·rintro k8 x11 l7 q9 h13 h14 H hq9
   replace H:z04 k8 x11 l7=some q9:=H
   unfold z04 at H
   refine zb hN Z (za (zx Z Z) (zh (zg _ Z (fun h => ?_) (fun h=>(lt_f h13 h).elim))))
   refine zl (yd (ι:=(List zo)) (fun i=>[(5,.row 1 i.length),(21,.dat (vlst (List.map zr r5))),(22,.dat (vint (r5.length:Int))),(23,.dat (vint (k8:Int)))]) (fun i=>[(1,.row 137 2 (List.map yr i))]) (fun i=>z3w i=some q9) (fun i=>Z) ?_ ?_)
   ·skip
    refine zw (zb hN Z (za (we vj (fun _=>Z) Z Z h14) (za (qu tyS9 Z (qh h14) Z) (qe Z (zh (zb hN Z (qd Z (za (va Z Z) (zg _ Z (fun h15 => ?_) (fun h15 => ?_))))))))))
    ·exact tE h15 H fun H=>yt ⟨l7,H,⟨Z,Z,Z,Z,U⟩,⟨Z,U⟩⟩
    ·refine fE h15 H fun H=>zl (zb hN Z (qd Z (bE H fun r16 h17 H=>za (zk (z1q x11 [61] r16 h17) ⟨.inl Z,.inl Z,U⟩) (qd Z (za (yc Z Z) (za (yc Z Z) (za (yc Z Z) (qe Z (qe Z (qe Z (zb hN Z (qd Z (bE H fun r18 h19 H=>za (zk (x2f r16.1 true r18 h19) ⟨.inl Z,.inl Z,U⟩) (qd Z (za (yc Z Z) (za (yc Z Z) (qe Z (qe Z (zb hN Z (qd Z ?_))))))))))))))))))))
     refine bE H fun r20 h21 H=>za (zk (x2f r16.2.1 true r20 h21) ⟨.inl Z,.inl Z,U⟩) (qd Z (za (yc Z Z) (za (yc Z Z) (qe Z (qe Z (zh (zb hN Z (qd Z (za (yq Z) (qd Z (yn Z Z (fun hc=>zd (.dat _) Z) (yn Z Z (fun hc=>yq (cnd (c:=(!(!r18.2))) hc)) (za (wv Z Z (fun hb=>(cnd (c:=(!(!r18.2))) (notI hb)))) (zg _ Z (fun h22 => ?_) (fun h22 => ?_)))))))))))))))
     ·refine tE h22 H fun H=>zb hN Z (qe Z (qe Z (jg 2 900 137 2 Z Z Z (zi ?_))))
      replace H:=retl H hq9
      cases H
      exact ⟨U,[(2,.row 900 _),(3,.dat (vint 9))],⟨Z,Z,U⟩,⟨Z,U⟩,Z,.inr (.inr ⟨.row 900 [].length,.dat (vint 9),[],⟨Z,Z,U⟩,Z⟩)⟩
     ·refine fE h22 H fun H=>zl (zp hN Z (za (zd (.row _ _) Z) (qd Z (qd Z (za (ya (u':=vagg (yr (zo.mk r18.1 r20.1))) (wx [(0,[vstr r18.1]),(1,[vstr r20.1])] Qq y0m Z ⟨Z,.inl ⟨_,Z,Z,Z⟩,Z,Z,.inl ⟨_,Z,Z,Z⟩,Z,U⟩) Z) (za (ya (u':=vlst (List.map yr [(zo.mk r18.1 r20.1)])) (yo [_] y0p ⟨Z,.inr Z,Z,U⟩ Z Z) Z) (gE H fun h23 H=>zj (vk y0p (fun _=>Z) Z Z Z ⟨by simp,by first | (simp; done) | simpa using h23⟩ Z) Z ?_)))))))
      exact za (qm (.row _ _) Z) ⟨(l7++[(zo.mk r18.1 r20.1)]),H,⟨Z,Z,Z,Z,U⟩,⟨Z,U⟩⟩
   ·rintro out24 H
    replace H:z3w out24=some q9:=H
    unfold z3w at H
    exact zp hN Z (za (qs Z Z (by omega)) (qd Z ⟨_,yx H,⟨Z,Z,Z,Z,U⟩,⟨Z,U⟩⟩))
theorem w03 (p1:zo) (r:(Bool)) (H:z8e p1=some r):Fn Tryz.prog 113 [vagg (yr p1)] (zu [ze r]):=by
 refine ⟨by kernel_rfl,yh (us:=[ze r]) Tryz.func113 Z Z Z Z fun X hN => ?_⟩
 unfold z8e at H
 refine zb hN Z (zj (wd 1 Z) Z (qe Z (zb hN Z (zm (qa jx Z Z Z) Z (za (ya (u':=vagg (yr (zo.mk [] []))) (wx [] Qq y0m Z U) Z) (za (y9z [_,_] [_,_] y8j Z Z Z) (qe Z (zi ?_))))))))
 cases H
 exact ⟨U,.inl Z,U⟩
theorem w07 (x1:Int) (r:(Int)) (H:y54 x1=some r):Fn Tryz.prog 184 [vval (.int .u32 x1)] (zu [vint r]):=by
 refine ⟨by kernel_rfl,yh (us:=[vint r]) Tryz.func184 Z Z Z Z fun X hN => ?_⟩
 unfold y54 at H
 refine zb hN Z (qe Z (yd (ι:=Int×Int) (fun i=>[(0,.dat (vval (.int .u32 i.1))),(2,.dat (vint i.2))]) (fun i=>[]) (fun i=>z71 i.1 i.2=some r) (fun i=>Z) ?_ ?_))
 ·skip
  refine zb hN Z (qd Z (za (wt Z Z) (zg _ Z (fun h2 => ?_) (fun h2 => ?_))))
  ·exact tE h2 H fun H=>zb hN Z (qd Z (za (ya (z0s Z Z (by decide)) Z) (qe Z (zp hN Z (qe Z ⟨((shr_ .u32 x1 16),16),H,⟨Z,Z,U⟩,U⟩)))))
  ·exact fE h2 H fun H=>zl ⟨(x1,0),H,⟨Z,Z,U⟩,U⟩
 ·rintro ⟨x3,n4⟩ H
  replace H:z71 x3 n4=some r:=H
  unfold z71 at H
  refine yd (ι:=Int×Int) (fun i=>[(0,.dat (vval (.int .u32 i.1))),(2,.dat (vint i.2))]) (fun i=>[]) (fun i=>z7z i.1 i.2=some r) (fun i=>Z) ?_ ?_
  ·skip
   refine zb hN Z (qd Z (za (wt Z Z) (zg _ Z (fun h5 => ?_) (fun h5 => ?_))))
   ·exact tE h5 H fun H=>zb hN Z (qd Z (za (ya (z0s Z Z (by decide)) Z) (qe Z (zp hN Z (qd Z (za (yj _ Z Z (.inl ⟨Z,Z⟩)) (qe Z ⟨((shr_ .u32 x3 8),wr (n4+8)),H,⟨Z,Z,U⟩,U⟩)))))))
   ·exact fE h5 H fun H=>zl ⟨(x3,n4),H,⟨Z,Z,U⟩,U⟩
  ·rintro ⟨x6,n7⟩ H
   replace H:z7z x6 n7=some r:=H
   unfold z7z at H
   refine zb hN Z (qd Z (qd Z (za (jn y8g tyU5 Z) (bE H fun x8 h9 H=>za (y01 tyU9 Z Z h9) (za (jn tyU5 tyU3 Z) (za (yj _ Z Z (.inl ⟨Z,Z⟩)) (qe Z (zi ?_))))))))
   cases H
   exact ⟨U,.inl Z,U⟩
theorem w06 (x1:Int) (r:(Int)) (H:y53 x1=some r):Fn Tryz.prog 185 [vval (.int .u64 x1)] (zu [vint r]):=by
 refine ⟨by kernel_rfl,yh (us:=[vint r]) Tryz.func185 Z Z Z Z fun X hN => ?_⟩
 unfold y53 at H
 refine zb hN Z (qe Z (yd (ι:=Int×Int) (fun i=>[(0,.dat (vval (.int .u64 i.1))),(2,.dat (vint i.2))]) (fun i=>[]) (fun i=>z7y i.1 i.2=some r) (fun i=>Z) ?_ ?_))
 ·skip
  refine zb hN Z (qd Z (za (wt Z Z) (zg _ Z (fun h2 => ?_) (fun h2 => ?_))))
  ·exact tE h2 H fun H=>zb hN Z (qd Z (za (ya (z0s Z Z (by decide)) Z) (qe Z (zp hN Z (qe Z ⟨((shr_ .u64 x1 32),32),H,⟨Z,Z,U⟩,U⟩)))))
  ·exact fE h2 H fun H=>zl ⟨(x1,0),H,⟨Z,Z,U⟩,U⟩
 ·rintro ⟨x3,n4⟩ H
  replace H:z7y x3 n4=some r:=H
  unfold z7y at H
  refine yd (ι:=Int×Int) (fun i=>[(0,.dat (vval (.int .u64 i.1))),(2,.dat (vint i.2))]) (fun i=>[]) (fun i=>z7x i.1 i.2=some r) (fun i=>Z) ?_ ?_
  ·skip
   refine zb hN Z (qd Z (za (wt Z Z) (zg _ Z (fun h5 => ?_) (fun h5 => ?_))))
   ·exact tE h5 H fun H=>zb hN Z (qd Z (za (ya (z0s Z Z (by decide)) Z) (qe Z (zp hN Z (qd Z (za (yj _ Z Z (.inl ⟨Z,Z⟩)) (qe Z ⟨((shr_ .u64 x3 16),wr (n4+16)),H,⟨Z,Z,U⟩,U⟩)))))))
   ·exact fE h5 H fun H=>zl ⟨(x3,n4),H,⟨Z,Z,U⟩,U⟩
  ·rintro ⟨x6,n7⟩ H
   replace H:z7x x6 n7=some r:=H
   unfold z7x at H
   refine yd (ι:=Int×Int) (fun i=>[(0,.dat (vval (.int .u64 i.1))),(2,.dat (vint i.2))]) (fun i=>[]) (fun i=>z7w i.1 i.2=some r) (fun i=>Z) ?_ ?_
   ·skip
    refine zb hN Z (qd Z (za (wt Z Z) (zg _ Z (fun h8 => ?_) (fun h8 => ?_))))
    ·exact tE h8 H fun H=>zb hN Z (qd Z (za (ya (z0s Z Z (by decide)) Z) (qe Z (zp hN Z (qd Z (za (yj _ Z Z (.inl ⟨Z,Z⟩)) (qe Z ⟨((shr_ .u64 x6 8),wr (n7+8)),H,⟨Z,Z,U⟩,U⟩)))))))
    ·exact fE h8 H fun H=>zl ⟨(x6,n7),H,⟨Z,Z,U⟩,U⟩
   ·rintro ⟨x9,n10⟩ H
    replace H:z7w x9 n10=some r:=H
    unfold z7w at H
    refine zb hN Z (qd Z (qd Z (za (jn Yj tyU5 Z) (bE H fun x11 h12 H=>za (y01 tyU9 Z Z h12) (za (jn tyU5 tyU3 Z) (za (yj _ Z Z (.inl ⟨Z,Z⟩)) (qe Z (zi ?_))))))))
    cases H
    exact ⟨U,.inl Z,U⟩
theorem w08 (x1:Int) (r:(Int)) (H:z8g x1=some r):Fn Tryz.prog 129 [vval (.int .u64 x1)] (zu [vint r]):=by
 refine ⟨by kernel_rfl,yh (us:=[vint r]) Tryz.func129 Z Z Z Z fun X hN => ?_⟩
 unfold z8g at H
 refine zb hN Z (qe Z (zh (zg _ Z (fun h2 => ?_) (fun h2 => ?_))))
 ·refine tE h2 H fun H=>zb hN Z (qd Z (za (jn y0i y8g Z) (bE H fun r3 h4 H=>za (zk (w07 (IntKind.wrap .u32 x1) r3 h4) ⟨.inl Z,U⟩) (qe Z (zi ?_)))))
  cases H
  exact ⟨U,.inl Z,U⟩
 ·refine fE h2 H fun H=>zl (zb hN Z (qd Z (bE H fun r5 h6 H=>za (zk (w06 x1 r5 h6) ⟨.inl Z,U⟩) (qe Z (zi ?_)))))
  cases H
  exact ⟨U,.inl Z,U⟩
theorem y6c (data1:(List zo)) (a2:Int) (b3:Int) (p3:zo→zo→Option (Int)) (fv3:Nat) (us3:List V) (hp3:∀ a0 a1 r,p3 a0 a1=some r→Fn Tryz.prog fv3 ([vagg (yr a0),vagg (yr a1)]++us3) (zu [vint r])) (r:((List zo))) (H:z73 data1 a2 b3 p3=some r):FnG Tryz.prog 216 [.row 0 data1.length,.dat (vint a2),.dat (vint b3),.dat (vfn fv3 us3)] [(0,.rowA undef 137 2 (List.map yr data1))] (.dat (zu [])) [(0,.rowA undef 137 2 (List.map yr r))]:=by
 refine ub (by kernel_rfl) Tryz.func216 Z Z Z Z fun X A hN => ?_
 unfold z73 at H
 refine zb hN Z (qd Z (za (yj _ Z Z (.inl ⟨Z,Z⟩)) (qe Z (zw (un (fun (s:Int×(List zo))=>[(0,.row 0 s.2.length),(1,.dat (vint a2)),(2,.dat (vint b3)),(3,.dat (vfn fv3 us3)),(8,.dat (vint s.1))]) (fun (s:Int×(List zo))=>[(0,.rowA (A.vl 0) 137 2 (List.map yr s.2))]) (wr (a2+1),data1) H ⟨Z,Z,Z,Z,Z,U⟩ ⟨Z,U⟩ (fun _=>Z) ?_)))))
 rintro ⟨i4,l5⟩ q6 H hq6
 replace H:y4s a2 b3 p3 i4 l5=some q6:=H
 unfold y4s at H
 refine zh (zb hN Z (qd Z (qd Z (za (zx Z Z) (zg _ Z (fun h7 => ?_) (fun h7 => ?_))))))
 ·refine tE h7 H fun H=>zl (yd (ι:=(List zo)) (fun i=>[(0,.row 0 i.length),(1,.dat (vint a2)),(2,.dat (vint b3)),(3,.dat (vfn fv3 us3)),(8,.dat (vint i4))]) (fun i=>[(0,.rowA (A.vl 0) 137 2 (List.map yr i))]) (fun i=>y1e i4 i=some q6) (fun i=>Z) ?_ ?_)
  ·skip
   refine zw (zb hN Z (qd Z (qe Z (zw (un (fun (s:Int×(List zo))=>[(0,.row 0 s.2.length),(1,.dat (vint a2)),(2,.dat (vint b3)),(3,.dat (vfn fv3 us3)),(8,.dat (vint i4)),(9,.dat (vint s.1))]) (fun (s:Int×(List zo))=>[(0,.rowA (A.vl 0) 137 2 (List.map yr s.2))]) (i4,l5) H ⟨Z,Z,Z,Z,Z,Z,U⟩ ⟨Z,U⟩ (fun _=>Z) ?_)))))
   rintro ⟨j8,l9⟩ q10 H hq10
   replace H:y4r a2 p3 i4 j8 l9=some q10:=H
   unfold y4r at H
   refine zh (yd (ι:=Bool) (fun i=>[(0,.row 0 l9.length),(1,.dat (vint a2)),(2,.dat (vint b3)),(3,.dat (vfn fv3 us3)),(8,.dat (vint i4)),(9,.dat (vint j8)),(34,.dat (ze i))]) (fun i=>[(0,.rowA (A.vl 0) 137 2 (List.map yr l9))]) (fun i=>z7i i4 j8 l9 i=some q10) (fun i=>Z) ?_ ?_)
   ·skip
    refine wz mixed hN Z Z (qd Z (qd Z (za (wg Z Z) (qd Z (yi (j:=3) Z Z (fun h11 => ?_) (fun h11 => ?_) Z)))))
    ·refine u1 h11 H fun h12 H=>zf Z Z h11 (zd (.dat _) Z) (zf Z Z h11 (zd (.row _ _) Z) (zf Z Z h11 (zd (.dat _) Z) (bE H fun x13 h14 H=>vt Z Z h11 (z3c ut Z Z Z h14) Z (vt Z Z h11 (y0y jx Z Z (vo h14).2 Z) Z (zf Z Z h11 (zd (.row _ _) Z) (zf Z Z h11 (zd (.dat _) Z) (zf Z Z h11 (yj _ Z Z (.inr (.inl ⟨Z,Z⟩))) (bE H fun x15 h16 H=>vt Z Z h11 (z3c ut Z Z Z h16) Z (vt Z Z h11 (y0y jx Z Z (vo h16).2 Z) Z (bE H fun r17 h18 H=>zf Z Z h11 (z0t (hp3 x13 x15 r17 h18) Z ⟨.inl Z,.inl Z,U⟩) (zf Z Z h11 (zx Z Z) (za (yf Z (bTT h12) Z) ⟨Z,?_⟩))))))))))))
     exact ⟨decide (r17 < 0),H,⟨Z,Z,Z,Z,Z,Z,Z,U⟩,⟨Z,U⟩⟩
    ·refine u2 h11 H fun h19 H=>zc Z Z h11 (zc Z Z h11 (zc Z Z h11 (zc Z Z h11 (zc Z Z h11 (zc Z Z h11 (zc Z Z h11 (zc Z Z h11 (zc Z Z h11 (zc Z Z h11 (zc Z Z h11 (zc Z Z h11 (za (ye Z (bFF h19) Z) ⟨Z,?_⟩))))))))))))
     exact ⟨false,H,⟨Z,Z,Z,Z,Z,Z,Z,U⟩,⟨Z,U⟩⟩
   ·rintro v20 H
    replace H:z7i i4 j8 l9 v20=some q10:=H
    unfold z7i at H
    refine zg _ Z (fun h21 => ?_) (fun h21 => ?_)
    ·refine tE h21 H fun H=>zl (zh (zw (wz mixed hN Z Z (za (zd (.row _ _) Z) (qd Z (za (zd (.row _ _) Z) (qd Z (za (yj _ Z Z (.inr (.inl ⟨Z,Z⟩))) (za (zd (.row _ _) Z) (qd Z (za (yj _ Z Z (.inr (.inl ⟨Z,Z⟩))) (bE H fun x22 h23 H=>zm (z3c ut Z Z Z h23) Z (zm (y0y jx Z Z (vo h23).2 Z) Z (za (zd (.row _ _) Z) (qd Z (bE H fun x24 h25 H=>zm (z3c ut Z Z Z h25) Z (zm (y0y jx Z Z (vo h25).2 Z) Z (zm (z3c ut Z Z Z h25) Z (zj (y88 (C:=yr) jx Z Z Z (y3y (vo h25).2) Z Z) Z (bE H fun x26 h27 H=>?_))))))))))))))))))))
     refine zm (z3c ut Z (by simp) Z h27) Z (zj (y88 (C:=yr) jx Z Z (by simp) (y3y (vo h27).2) Z Z) Z ⟨Z,?_⟩)
     exact zp hN Z (qd Z (za (yj _ Z Z (.inr (.inl ⟨Z,Z⟩))) (qe Z ⟨_,yx H,⟨congrArg (Slot.row 0) (by simp),Z,Z,Z,Z,Z,U⟩,⟨Z,U⟩⟩)))
    ·refine fE h21 H fun H=>yt ?_
     replace H:=outl H hq10
     exact ⟨l9,H,⟨Z,Z,Z,Z,Z,U⟩,⟨Z,U⟩⟩
  ·rintro data28 H
   replace H:y1e i4 data28=some q6:=H
   unfold y1e at H
   exact zp hN Z (qd Z (za (yj _ Z Z (.inl ⟨Z,Z⟩)) (qe Z ⟨_,yx H,⟨Z,Z,Z,Z,Z,U⟩,⟨Z,U⟩⟩)))
 ·refine fE h7 H fun H=>yt ?_
  replace H:=retl H hq6
  have eH:l5=r:=Option.some.inj H
  subst eH
  exact ⟨U,[],U,⟨Z,U⟩,Z,.inl ⟨[],U,Z⟩⟩
theorem x93 (v1:(List zo)) (v2:Int) (v3:Int) (v4:Int) (p4:zo→zo→Option (Int)) (fv4:Nat) (us4:List V) (hp4:∀ a0 a1 r,p4 a0 a1=some r→Fn Tryz.prog fv4 ([vagg (yr a0),vagg (yr a1)]++us4) (zu [vint r])) (r:((List zo))) (H:y2f v1 v2 v3 v4 p4=some r):FnG Tryz.prog 164 [.row 0 v1.length,.dat (vint v2),.dat (vint v3),.dat (vint v4),.dat (vfn fv4 us4)] [(0,.rowA undef 137 2 (List.map yr v1))] (.dat (zu [])) [(0,.rowA undef 137 2 (List.map yr r))]:=by
 refine ub (by kernel_rfl) Tryz.func164 Z Z Z Z fun X A hN => ?_
 unfold y2f at H
 refine zb hN Z (qe Z (zb hN Z (qe Z (zw (un (fun (s:Int×Int×Int×Bool×Bool)=>[(0,.row 0 v1.length),(1,.dat (vint s.1)),(2,.dat (vint s.2.1)),(3,.dat (vint s.2.2.1)),(4,.dat (vfn fv4 us4)),(10,.dat (ze s.2.2.2.1)),(11,.dat (ze s.2.2.2.2))]) (fun (s:Int×Int×Int×Bool×Bool)=>[(0,.rowA (A.vl 0) 137 2 (List.map yr v1))]) (v2,v3,v4,true,true) H ⟨Z,Z,Z,Z,Z,Z,Z,U⟩ ⟨Z,U⟩ (fun _=>Z) ?_)))))
 rintro ⟨v5,v6,v7,v8,v9⟩ q10 H hq10
 replace H:y4q v1 p4 v5 v6 v7 v8 v9=some q10:=H
 unfold y4q at H
 refine zw (zb hN Z (qd Z (qd Z (za (yj _ Z Z (.inr (.inl ⟨Z,Z⟩))) (qe Z (zh (zb hN Z (qd Z (za (wi Z Z) (zg _ Z (fun h11 => ?_) (fun h11 => ?_)))))))))))
 ·refine tE h11 H fun H=>zb hN Z (za (zd (.row _ _) Z) (qd Z (qd Z (qd Z (bE H fun r12 h13 H=>gE H fun h14 H=>ww (rn [(0,0)]) [(0,_,_,some _)] [] (y6c v1 v5 v6 p4 fv4 us4 hp4 r12 h13) ⟨Z,U⟩ ⟨.inl (.inl Z),.inl (.inl Z),.inl (.inl Z),.inl (.inl Z),U⟩ ⟨⟨⟨Z,Z,Z⟩,by simp [uh,h14]⟩,U⟩ Z ?_)))))
  refine zi ?_
  replace H:=retl H hq10
  have eH:r12=r:=Option.some.inj H
  subst eH
  exact ⟨U,[],U,⟨Z,U⟩,Z,.inl ⟨[],U,Z⟩⟩
 ·refine fE h11 H fun H=>zl (zh (zb hN Z (qd Z (za (qf Z Z) (zg _ Z (fun h15 => ?_) (fun h15 => ?_))))))
  ·refine tE h15 H fun H=>?_
   cases H
  ·refine fE h15 H fun H=>?_
   cases H
theorem x95 (x1:(List zo)) (p1:zo→zo→Option (Int)) (fv1:Nat) (us1:List V) (hp1:∀ a0 a1 r,p1 a0 a1=some r→Fn Tryz.prog fv1 ([vagg (yr a0),vagg (yr a1)]++us1) (zu [vint r])) (r:((List zo))) (H:z77 x1 p1=some r):FnG Tryz.prog 114 [.row 0 x1.length,.dat (vfn fv1 us1)] [(0,.rowA undef 137 2 (List.map yr x1))] (.dat (zu [])) [(0,.rowA undef 137 2 (List.map yr r))]:=by
 refine ub (by kernel_rfl) Tryz.func114 Z Z Z Z fun X A hN => ?_
 unfold z77 at H
 refine zb hN Z (za (zd (.row _ _) Z) (zm (y9c xt Z Z) Z (qe Z (zp hN Z (za (zd (.row _ _) Z) (qd Z (qd Z (za (jn tyU3 y0i Z) (bE H fun r2 h3 H=>za (zk (w08 (IntKind.wrap .u64 (x1.length:Int)) r2 h3) ⟨.inl Z,U⟩) (qd Z (bE H fun r4 h5 H=>gE H fun h6 H=>ww (rn [(0,0)]) [(0,_,_,some _)] [] (x93 x1 0 (x1.length:Int) r2 p1 fv1 us1 hp1 r4 h5) ⟨Z,U⟩ ⟨.inl (.inl Z),.inl (.inl Z),.inl (.inl Z),.inl (.inl Z),.inl (.inl Z),U⟩ ⟨⟨⟨Z,Z,Z⟩,by simp [uh,h6]⟩,U⟩ Z ?_)))))))))))
 have eH:r4=r:=Option.some.inj H
 subst eH
 exact ⟨U,[],U,⟨Z,U⟩,Z,.inl ⟨[],U,Z⟩⟩
theorem y2x (a b:Bs) (r:Int) (H:z35 a b=some r):Fn Tryz.prog 149 [vstr a,vstr b] (zu [vint r]):=by
 cases H
 refine y3r (by kernel_rfl) fun M w vs h => ?_
 have h1:=kr (us:=[.string ⟨a.toArray⟩,.string ⟨b.toArray⟩]) h
 subst h1
 refine (Tryz.strings_Compare ⟨a.toArray⟩ ⟨b.toArray⟩ w).mono ?_
 rintro e w' ⟨rfl,rfl⟩
 exact ⟨_,Z,Z,Kp.refl _ _⟩
theorem w00 (a1:zo) (b2:zo) (r:(Int)) (H:xk a1 b2=some r):Fn Tryz.prog 115 [vagg (yr a1),vagg (yr b2)] (zu [vint r]):=by
 refine ⟨by kernel_rfl,yh (us:=[vint r]) Tryz.func115 Z Z Z Z fun X hN => ?_⟩
 unfold xk at H
 refine zb hN Z (zj (wd 1 Z) Z (zj (wd 2 Z) Z (qe Z (zh (zb hN Z (za (zq xf Z) (zm (zv tyS9 Z Z) Z (za (zq xf Z) (zm (zv tyS9 Z Z) Z (za (ji Z Z) (zg _ Z (fun h3 => ?_) (fun h3 => ?_))))))))))))
 ·refine tE h3 H fun H=>zb hN Z (za (zq xf Z) (zm (zv tyS9 Z Z) Z (za (zq xf Z) (zm (zv tyS9 Z Z) Z (bE H fun r4 h5 H=>za (zk (y2x a1.Name b2.Name r4 h5) ⟨.inl Z,.inl Z,U⟩) (qe Z (zi ?_)))))))
  cases H
  exact ⟨U,.inl Z,U⟩
 ·refine fE h3 H fun H=>zl (zb hN Z (za (zq Qw Z) (zm (zv tyS9 Z Z) Z (za (zq Qw Z) (zm (zv tyS9 Z Z) Z (bE H fun r6 h7 H=>za (zk (y2x a1.Value b2.Value r6 h7) ⟨.inl Z,.inl Z,U⟩) (qe Z (zi ?_))))))))
  cases H
  exact ⟨U,.inl Z,U⟩
theorem x1y (s1:Bs) (r:(Bs)) (H:z4c s1=some r):Fn Tryz.prog 165 [vstr s1] (zu [vstr r]):=by
 refine ⟨by kernel_rfl,yh (us:=[vstr r]) Tryz.func165 Z Z Z Z fun X hN => ?_⟩
 unfold z4c at H
 refine zb hN Z (qe Z (zb hN Z (zj (qv 1 y4b Z) Z (y3x 1 0 (.nptr 1) Z Z y5p (z6w 1 1 2 5 1 Z Z Z Z (zh (zb hN Z (qd Z (za (qj tyU9 Z) (qd Z (zw (gE H fun h5 H=>qw (fun (k3:Nat) (s:(List Int))=>[(0,.dat (vstr s1)),(3,.ptr 1 0),(7,.dat (vint (s1.length:Int))),(8,.dat (vint (k3:Int)))]) (fun (k3:Nat) (s:(List Int))=>[(1,.box none 121 [.nptr 1,.row 2 s.length]),(2,.row 5 1 (List.map ql s))]) ([]:List Int) H ⟨Z,Z,Z,Z,U⟩ ⟨Z,Z,U⟩ (fun _ _=>Z) ?_ ?_))))))))))))
 ·rintro l2 H
  replace H:z3n l2=some r:=H
  unfold z3n at H
  refine zb hN Z (za (zx Z Z) (zh (zg _ Z (fun h=>(lt_t h).elim) (fun h => ?_))))
  refine yt (zb hN Z (gE H fun h7 H=>ww (rn [(0,1),(1,2)]) [(0,_,_,none),(1,_,_,none)] [] (y6e h7 (C:=ql) (fun _=>Z)) ⟨Z,Z,U⟩ ⟨.inl (.inl Z),U⟩ ⟨⟨⟨Z,Z⟩,U⟩,⟨⟨Z,Z,Z⟩,U⟩,U⟩ Z (qe Z (zi ?_))))
  cases H
  exact ⟨U,.inl Z,U⟩
 ·rintro k3 x6 l2 q4 h8 h9 H hq4
  replace H:z0x k3 x6 l2=some q4:=H
  unfold z0x at H
  refine ve (zb hN Z (za (zx Z Z) (zh (zg _ Z (fun h => ?_) (fun h=>(lt_f h8 h).elim)))))
  refine zl (yd (ι:=(List Int)) (fun i=>[(0,.dat (vstr s1)),(3,.ptr 1 0),(7,.dat (vint (s1.length:Int))),(8,.dat (vint (k3:Int)))]) (fun i=>[(1,.box none 121 [.nptr 1,.row 6 i.length]),(6,.row 5 1 (List.map ql i))]) (fun i=>z0y i=some q4) (fun i=>Z) ?_ ?_)
  ·refine ve (zw (zb hN Z (qd Z (qe Z (zb hN Z (qd Z (qd Z (za (qy tyU9 Z Z h9) (qe Z (zw (zb hN Z (qd Z (za (qf Z Z) (qe Z (zg _ Z (fun h10 => ?_) (fun h10 => ?_))))))))))))))))
   ·refine tE h10 H fun H=>zp hN Z (bE H fun r11 h12 H=>ww (rn [(0,1),(1,2),(900,3)]) [(0,_,_,some _),(1,_,_,none)] [(900,_)] (z1p l2 43 r11 h12) ⟨Z,Z,Z,U⟩ ⟨.inl (.inl Z),.inl (.inl Z),U⟩ ⟨⟨⟨Z,Z⟩,U⟩,⟨⟨Z,Z,Z⟩,U⟩,U⟩ Z (vu ?_))
    show Cv _ _ _ _
    exact wu (rn [(3,6)]) [(0,.dat (vstr s1)),(3,.ptr 1 0),(7,.dat (vint (s1.length:Int))),(8,.dat (vint (k3:Int)))] [(1,.box none 121 [.nptr 1,.row 3 r11.2.length]),(3,.row 5 1 (List.map ql r11.2))] ⟨Z,Z,Z,Z,U⟩ ⟨Z,Z,U⟩ Z Z ⟨r11.2,H,⟨Z,Z,Z,Z,U⟩,⟨Z,Z,U⟩⟩
   ·refine fE h10 H fun H=>zb hN Z (qd Z (bE H fun r13 h14 H=>za (zk (x2e (x6.toNat:Int) r13 h14) ⟨.inl Z,U⟩) (qe Z (zg _ Z (fun h15 => ?_) (fun h15 => ?_)))))
    ·refine tE h15 H fun H=>zp hN Z (qd Z (bE H fun r16 h17 H=>ww (rn [(0,1),(1,2),(900,4)]) [(0,_,_,some _),(1,_,_,none)] [(900,_)] (z1p l2 (x6.toNat:Int) r16 h17) ⟨Z,Z,Z,U⟩ ⟨.inl (.inl Z),.inl (.inl Z),U⟩ ⟨⟨⟨Z,Z⟩,U⟩,⟨⟨Z,Z,Z⟩,U⟩,U⟩ Z (vu ?_)))
     show Cv _ _ _ _
     exact wu (rn [(4,6)]) [(0,.dat (vstr s1)),(3,.ptr 1 0),(7,.dat (vint (s1.length:Int))),(8,.dat (vint (k3:Int)))] [(1,.box none 121 [.nptr 1,.row 4 r16.2.length]),(4,.row 5 1 (List.map ql r16.2))] ⟨Z,Z,Z,Z,U⟩ ⟨Z,Z,U⟩ Z Z ⟨r16.2,H,⟨Z,Z,Z,Z,U⟩,⟨Z,Z,U⟩⟩
    ·refine fE h15 H fun H=>zp hN Z (qd Z (bE H fun r18 h19 H=>za (zk (x2a (x6.toNat:Int) r18 h19) ⟨.inl Z,U⟩) (bE H fun r20 h21 H=>ww (rn [(0,1),(1,2),(900,5)]) [(0,_,_,some _),(1,_,_,none)] [(900,_)] (x1n l2 r18 r20 h21) ⟨Z,Z,Z,U⟩ ⟨.inl (.inl Z),.inl (.inl Z),U⟩ ⟨⟨⟨Z,Z⟩,U⟩,⟨⟨Z,Z,Z⟩,U⟩,U⟩ Z (vu ?_))))
     show Cv _ _ _ _
     exact wu (rn [(5,6)]) [(0,.dat (vstr s1)),(3,.ptr 1 0),(7,.dat (vint (s1.length:Int))),(8,.dat (vint (k3:Int)))] [(1,.box none 121 [.nptr 1,.row 5 r20.2.2.length]),(5,.row 5 1 (List.map ql r20.2.2))] ⟨Z,Z,Z,Z,U⟩ ⟨Z,Z,U⟩ Z Z ⟨r20.2.2,H,⟨Z,Z,Z,Z,U⟩,⟨Z,Z,U⟩⟩
  ·rintro l22 H
   replace H:z0y l22=some q4:=H
   unfold z0y at H
   refine zp hN Z (za (qs Z Z (by omega)) (qd Z (vu ?_)))
   show Cv _ _ _ _
   exact wu (rn [(6,2)]) [(0,.dat (vstr s1)),(3,.ptr 1 0),(7,.dat (vint (s1.length:Int))),(8,.dat (vint ((k3:Int)+1)))] [(1,.box none 121 [.nptr 1,.row 6 l22.length]),(6,.row 5 1 (List.map ql l22))] ⟨Z,Z,Z,Z,U⟩ ⟨Z,Z,U⟩ Z Z ⟨_,yx H,⟨Z,Z,Z,Z,U⟩,⟨Z,Z,U⟩⟩
theorem w01 (l1:(List zo)) (r:(Bs×Int)) (H:Wl l1=some r):Fn Tryz.prog 116 [vlst (List.map yr l1)] (zu [vstr r.1,vint r.2]):=by
 refine ⟨by kernel_rfl,yh (us:=[vstr r.1,vint r.2]) Tryz.func116 Z Z Z Z fun X hN => ?_⟩
 unfold Wl at H
 refine zb hN Z (qe Z (qe Z (zh (zb hN Z (qd Z (za (qi xt Z) (za (wg Z Z) (zg _ Z (fun h2 => ?_) (fun h2 => ?_)))))))))
 ·refine tE h2 H fun H=>zb hN Z (qe Z (qe Z (zi ?_)))
  cases H
  exact ⟨U,.inl Z,.inl Z,U⟩
 ·refine fE h2 H fun H=>zl (zb hN Z (qe Z (zh (zb hN Z (qd Z (za (qi xt Z) (qd Z (zw (jg 4 1 9 1 Z Z Z (gE H fun h6 H=>qw (fun (k4:Nat) (s:(List Bs))=>[(4,.row 1 s.length),(11,.dat (vlst (List.map yr l1))),(12,.dat (vint (l1.length:Int))),(13,.dat (vint (k4:Int)))]) (fun (k4:Nat) (s:(List Bs))=>[(1,.row 9 1 (List.map zr s))]) [] H ⟨Z,Z,Z,Z,U⟩ ⟨Z,U⟩ (fun _ _=>Z) ?_ ?_))))))))))
  ·rintro l3 H
   replace H:y14 l3=some r:=H
   unfold y14 at H
   refine zb hN Z (za (zx Z Z) (zh (zg _ Z (fun h=>(lt_t h).elim) (fun h => ?_))))
   refine yt (zh (Yn 4 1 Z Z Z (zp hN Z (qd Z (bE H fun r8 h9 H=>za (zk (z5e l3 [38] r8 h9) ⟨.inl Z,.inl Z,U⟩) (qe Z (zh (zb hN Z (qd Z (za (qj tyU9 Z) (za (wg Z Z) (zg _ Z (fun h10 => ?_) (fun h10 => ?_)))))))))))))
   ·refine tE h10 H fun H=>zb hN Z (qe Z (qe Z (zi ?_)))
    cases H
    exact ⟨U,.inl Z,.inl Z,U⟩
   ·refine fE h10 H fun H=>zl (zb hN Z (qd Z (qe Z (qe Z (zi ?_)))))
    cases H
    exact ⟨U,.inl Z,.inl Z,U⟩
  ·rintro k4 x7 l3 q5 h11 h12 H hq5
   replace H:z7u k4 x7 l3=some q5:=H
   unfold z7u at H
   refine zb hN Z (za (zx Z Z) (zh (zg _ Z (fun h => ?_) (fun h=>(lt_f h11 h).elim))))
   refine zl (zh (zw (zb hN Z (za (we ut (fun _=>Z) Z Z h12) (za (xy jx Z (qh h12) Z) (zj (qv 2 Qq Z) Z (zj (qk jx Z Z Z Z) Z (zh (zb hN Z (zm (qa jx Z Z Z) Z (za (ya (u':=vagg (yr (zo.mk [] []))) (wx [] Qq y0m Z U) Z) (za (y9z [_,_] [_,_] y8j Z Z Z) (zg _ Z (fun h13 => ?_) (fun h13 => ?_))))))))))))))
   ·refine tE h13 H fun H=>zb hN Z (qe Z (qe Z (zi ?_)))
    replace H:=retl H hq5
    cases H
    exact ⟨U,.inl Z,.inl Z,U⟩
   ·refine fE h13 H fun H=>zl (wz mixed hN Z Z (za (zd (.row _ _) Z) (za (zq xf Z) (zm (zv tyS9 Z Z) Z (bE H fun r14 h15 H=>za (zk (x1y x7.Name r14 h15) ⟨.inl Z,U⟩) (gE H fun h16 H=>za (jj Z Z (Nat.le_trans h16 (by decide))) (za (zq Qw Z) (zm (zv tyS9 Z Z) Z (bE H fun r17 h18 H=>za (zk (x1y x7.Value r17 h18) ⟨.inl Z,U⟩) (gE H fun h19 H=>za (jj Z Z (Nat.le_trans h19 (by decide))) (za (ya (u':=vlst (List.map zr [((r14++[61])++r17)])) (yo [[_]] yu ⟨Z,.inl ⟨_,Z,Z,Z⟩,Z,U⟩ Z Z) Z) (gE H fun h20 H=>zj (vk yu (fun _=>Z) Z Z Z ⟨by simp,by first | (simp; done) | simpa using h20⟩ Z) Z ?_))))))))))))
    refine za (qm (.row _ _) Z) ⟨Z,?_⟩
    exact zp hN Z (za (qs Z Z (by omega)) (qd Z ⟨_,yx H,⟨Z,Z,Z,Z,U⟩,⟨Z,U⟩⟩))
theorem x1p (s:Bs) (r:Bs) (H:z33 s=some r):Fn Tryz.prog 117 [vstr s] (zu [vstr r]):=by
 unfold z33 at H
 obtain ⟨⟨h1,h2⟩,h3⟩:=gif H
 cases h3
 refine Zh (by kernel_rfl) fun M w vs hM h => ?_
 have hv:=kr (us:=[.string ⟨s.toArray⟩]) h
 subst hv
 refine (Tryz.strings_ToUpper_ascii ⟨s.toArray⟩ w (by simp [ByteArray.size]; omega) (fun j b hb=>z6z h2 j b (by simpa using hb))).mono ?_
 rintro e w' ⟨rfl,hb⟩
 exact ⟨_,Z,Z,Kp.of_below hb⟩

theorem x2h (v1:zz) (r:(zz×Int)) (H:Wp v1=some r):Fn Tryz.prog 63 [vagg (qx v1)] (zu [vagg (qx r.1),vint r.2]):=by
 refine ⟨by kernel_rfl,yh (us:=[vagg (qx r.1),vint r.2]) Tryz.func63 Z Z Z Z fun X hN => ?_⟩
 unfold Wp at H
 refine zb hN Z (zj (wd 1 Z) Z (zj (qv 2 jh Z) Z (qe Z (zh (zb hN Z (zm (qa yy Z Z Z) Z (bE H fun r2 h3 H=>za (zk (y6i v1 r2 h3) ⟨.inl Z,U⟩) (qe Z (zb hN Z (qd Z (za (qp Z Z) (zg _ Z (fun h4 => ?_) (fun h4 => ?_)))))))))))))
 ·refine tE h4 H fun H=>zb hN Z (za (Zn (u':=vagg (qx (zz.mk 0 [] [] [] [] [] [] []))) (Yi (by exact ⟨yp,yp,yp,yp,yp,yp,xd,yp,U⟩)) (wx [] jh Yk Z U)) ?_)
  refine qd Z (zj (qk yy Z Z Z Z) Z (qe Z (zi ?_)))
  cases H
  exact ⟨U,.inl ⟨_,_,_,qx (zz.mk 0 [] [] [] [] [] [] []),Z,Z,Z,Z,yy⟩,.inl Z,U⟩
 ·refine fE h4 H fun H=>zl (zb hN Z (za (zq xx Z) (zm (zv tyS9 Z Z) Z (bE H fun r5 h6 H=>za (zk (w05 v1.Host r5 h6) ⟨.inl Z,U⟩) (qd Z (za (yc Z Z) (za (yc Z Z) (qe Z (qe Z (zb hN Z (za (zq xw Z) (zm (zv tyS9 Z Z) Z (bE H fun r7 h8 H=>za (zk (w04 v1.Path r7 h8) ⟨.inl Z,U⟩) (qd Z (za (yc Z Z) (za (yc Z Z) (qe Z (qe Z (zh (zb hN Z ?_))))))))))))))))))))
  refine qd Z (za (qp Z Z) (zg _ Z (fun h9 => ?_) (fun h9 => ?_)))
  ·refine tE h9 H fun H=>zb hN Z (za (Zn (u':=vagg (qx (zz.mk 0 [] [] [] [] [] [] []))) (Yi (by exact ⟨yp,yp,yp,yp,yp,yp,xd,yp,U⟩)) (wx [] jh Yk Z U)) ?_)
   refine qd Z (zj (qk yy Z Z Z Z) Z (qe Z (zi ?_)))
   cases H
   exact ⟨U,.inl ⟨_,_,_,qx (zz.mk 0 [] [] [] [] [] [] []),Z,Z,Z,Z,yy⟩,.inl Z,U⟩
  ·refine fE h9 H fun H=>zl (zb hN Z (za (zq xv Z) (zm (zv tyS9 Z Z) Z (bE H fun r10 h11 H=>ww (rn [(900,3)]) [] [(900,_)] (w0c v1.Query r10 h11) ⟨Z,U⟩ ⟨.inl (.inl Z),U⟩ U Z (za (zd (.comp _ _) Z) (za (y06 Z Z) (za (y06 Z Z) (za (qm (.row _ _) Z) (qe Z (zh (zb hN Z (qd Z (za (qp Z Z) (zg _ Z (fun h12 => ?_) (fun h12 => ?_)))))))))))))))
   ·refine tE h12 H fun H=>zb hN Z (za (Zn (u':=vagg (qx (zz.mk 0 [] [] [] [] [] [] []))) (Yi (by exact ⟨yp,yp,yp,yp,yp,yp,xd,yp,U⟩)) (wx [] jh Yk Z U)) ?_)
    refine qd Z (zj (qk yy Z Z Z Z) Z (qe Z (zi ?_)))
    cases H
    exact ⟨U,.inl ⟨_,_,_,qx (zz.mk 0 [] [] [] [] [] [] []),Z,Z,Z,Z,yy⟩,.inl Z,U⟩
   ·refine fE h12 H fun H=>zl (zb hN Z (za (zd (.row _ _) Z) (bE H fun r13 h14 H=>ww (rn [(0,3),(900,4)]) [(0,_,_,none)] [(900,_)] (x1k r10.1 (fun (a0:zo)=>z8e a0) 113 [] (fun a0 r h=>w03 a0 r h) r13 h14) ⟨Z,Z,U⟩ ⟨.inl (.inl Z),.inr ⟨_,Z,Z⟩,U⟩ ⟨⟨⟨Z,Z,Z⟩,U⟩,U⟩ Z (za (qm (.row _ _) Z) (zb hN Z (za (zd (.row _ _) Z) (bE H fun r15 h16 H=>gE H fun h17 H=>ww (rn [(0,4)]) [(0,_,_,some _)] [] (x95 r13 (fun (a0:zo) (a1:zo)=>xk a0 a1) 115 [] (fun a0 a1 r h=>w00 a0 a1 r h) r15 h16) ⟨Z,U⟩ ⟨.inl (.inl Z),.inr ⟨_,Z,Z⟩,U⟩ ⟨⟨⟨Z,Z,Z⟩,by simp [uh,h17]⟩,U⟩ Z ?_)))))))
    refine zh (Yn 9 4 Z Z (h17).symm (zp hN Z (qd Z (bE H fun r18 h19 H=>za (zk (w01 r15 r18 h19) ⟨.inl Z,U⟩) (qd Z (za (yc Z Z) (za (yc Z Z) (qe Z (qe Z (zh (zb hN Z (qd Z (za (qp Z Z) (zg _ Z (fun h20 => ?_) (fun h20 => ?_)))))))))))))))
    ·refine tE h20 H fun H=>zb hN Z (za (Zn (u':=vagg (qx (zz.mk 0 [] [] [] [] [] [] []))) (Yi (by exact ⟨yp,yp,yp,yp,yp,yp,xd,yp,U⟩)) (wx [] jh Yk Z U)) ?_)
     refine qd Z (zj (qk yy Z Z Z Z) Z (qe Z (zi ?_)))
     cases H
     exact ⟨U,.inl ⟨_,_,_,qx (zz.mk 0 [] [] [] [] [] [] []),Z,Z,Z,Z,yy⟩,.inl Z,U⟩
    ·refine fE h20 H fun H=>zl (zb hN Z (qd Z (qd Z (qd Z (za (zq uf Z) (zm (zv tyS9 Z Z) Z (bE H fun r21 h22 H=>za (zk (x1p v1.Method r21 h22) ⟨.inl Z,U⟩) (za (zq xx Z) (zj (vr tyS9 Z Z Z Z) Z (za (zq xw Z) (zj (vr tyS9 Z Z Z Z) Z (za (zq xv Z) (zj (vr tyS9 Z Z Z Z) Z (za (zq uf Z) (zj (vr tyS9 Z Z Z Z) Z (zb hN Z (za (zq vi Z) (zm (zv wb Z Z) Z (bE H fun r23 h24 H=>ww (rn [(900,5)]) [] [(900,_)] (x1m v1.Headers r23 h24) ⟨Z,U⟩ ⟨.inl (.inl Z),U⟩ U Z (za (zq vi Z) ?_))))))))))))))))))))
     refine uw (uv wb Z Z (by rw [List.length_map]) Z) Z Z ?_
     refine zh (zb hN Z (za (zq vi Z) (zm (zv wb Z Z) Z (zm (Qx uo Z Z) Z (qd Z (zw (gE H fun h28 H=>y7m (fun (k26:Nat) (s:(List zn))=>[(1,.ptr 1 0),(2,.ptr 2 0),(73,.row 5 s.length),(74,.dat (vint (r23.length:Int))),(75,.dat (vint (k26:Int)))]) (fun (k26:Nat) (s:(List zn))=>[(1,.box none 28 [.dat (vint v1.At),.dat (vstr r21),.dat (vstr r5.1),.dat (vstr r7.1),.dat (vstr r18.1),.dat (vstr v1.From),.row 5 s.length,.dat (vstr v1.Body)]),(2,.box none 28 [.dat (vint 0),.dat (vstr []),.dat (vstr []),.dat (vstr []),.dat (vstr []),.dat (vstr []),.dat (vnil),.dat (vstr [])]),(5,.row 40 2 (List.map yb s))]) r23 H ⟨Z,Z,Z,Z,Z,U⟩ ⟨Z,Z,Z,U⟩ (fun _ _=>Z) ?_ ?_)))))))
     ·rintro l25 H
      replace H:y15 v1 r5 r7 r18 r21 l25=some r:=H
      unfold y15 at H
      refine zb hN Z (za (zx Z Z) (zh (zg _ Z (fun h=>(lt_t h).elim) (fun h => ?_))))
      refine yt (zh (z6x 1 6 5 Z Z Z (by rw [List.length_map]) ?_))
      refine zp hN Z (zm (qa yy Z Z Z) Z (zj (qk yy Z Z Z Z) Z (qe Z (zi ?_))))
      cases H
      exact ⟨U,.inl ⟨_,_,_,qx (zz.mk v1.At r21 r5.1 r7.1 r18.1 v1.From l25 v1.Body),Z,Z,Z,Z,yy⟩,.inl Z,U⟩
     ·rintro k26 l25 q27 h29 H hq27
      replace H:z05 k26 l25=some q27:=H
      unfold z05 at H
      refine ve (zb hN Z (za (zx Z Z) (zh (zg _ Z (fun h => ?_) (fun h=>(lt_f h29 h).elim)))))
      refine zl (zh (zw (zb hN Z (qd Z (bE H fun x30 h31 H=>zm (y00 xg Z Z Z h31) Z (zm (y4f jv Z Z h31 Z) Z (zj (qv 6 kl Z) Z (qe Z (zj (qk jv Z Z Z Z) Z (wz mixed hN Z Z (za (zq vi Z) (zm (zv wb Z Z) Z (qd Z (za (zq Qv Z) (zm (zv tyS9 Z Z) Z (bE H fun r32 h33 H=>za (zk (Ya x30.Name r32 h33) ⟨.inl Z,U⟩) (zm (y00 xg Z Z Z h31) Z (za (x7b Qv Z) (zj (y9a (zn.mk r32 x30.Value) tyS9 Z Z Z Z h31 Z Z) Z ⟨Z,?_⟩)))))))))))))))))))
      refine zp hN Z (za (qs Z Z (by omega)) (qd Z (vu ?_)))
      show Cv _ _ _ _
      exact vq ⟨_,yx H,⟨Z,Z,congrArg (Slot.row 5) (by simp),Z,Z,U⟩,⟨(congrArg (fun n=>some (some (AObj.box none 28 [.dat (vint v1.At),.dat (vstr r21),.dat (vstr r5.1),.dat (vstr r7.1),.dat (vstr r18.1),.dat (vstr v1.From),.row 5 n,.dat (vstr v1.Body)]))) (show l25.length=(l25.set k26 (zn.mk r32 x30.Value)).length from (by simp))),Z,Z,U⟩⟩
theorem w2c (a1:zz) (b2:zz) (r:(zz×zz×Int)) (H:z8z a1 b2=some r):Fn Tryz.prog 31 [vagg (qx a1),vagg (qx b2)] (zu [vagg (qx r.1),vagg (qx r.2.1),vint r.2.2]):=by
 refine ⟨by kernel_rfl,yh (us:=[vagg (qx r.1),vagg (qx r.2.1),vint r.2.2]) Tryz.func31 Z Z Z Z fun X hN => ?_⟩
 unfold z8z at H
 refine zb hN Z (zj (wd 1 Z) Z (zj (wd 2 Z) Z (zj (qv 3 jh Z) Z (zj (qv 4 jh Z) Z (qe Z (zb hN Z (zm (qa yy Z Z Z) Z (bE H fun r3 h4 H=>za (zk (x2h a1 r3 h4) ⟨.inl Z,U⟩) (qd Z (za (yc Z Z) (za (yc Z Z) (zj (qk yy Z Z Z Z) Z (qe Z (y3x 4 6 (.dat (vlst [])) Z Z (fun g w M v h=>xd w M v h) (yd (ι:=Int×Int×Bs×Bs×Bs×Bs×Bs×(List zn)×Bs) (fun i=>[(4,.ptr 3 0),(5,.ptr 4 0),(6,.dat (vint i.1))]) (fun i=>[(3,.box none 28 [.dat (vint r3.1.At),.dat (vstr r3.1.Method),.dat (vstr r3.1.Host),.dat (vstr r3.1.Path),.dat (vstr r3.1.Query),.dat (vstr r3.1.From),.dat (vlst (List.map yb r3.1.Headers)),.dat (vstr r3.1.Body)]),(4,.box none 28 [.dat (vint i.2.1),.dat (vstr i.2.2.1),.dat (vstr i.2.2.2.1),.dat (vstr i.2.2.2.2.1),.dat (vstr i.2.2.2.2.2.1),.dat (vstr i.2.2.2.2.2.2.1),.dat (vlst (List.map yb i.2.2.2.2.2.2.2.1)),.dat (vstr i.2.2.2.2.2.2.2.2)])]) (fun i=>z6u r3 i.1 i.2.1 i.2.2.1 i.2.2.2.1 i.2.2.2.2.1 i.2.2.2.2.2.1 i.2.2.2.2.2.2.1 i.2.2.2.2.2.2.2.1 i.2.2.2.2.2.2.2.2=some r) (fun i=>Z) ?_ ?_)))))))))))))))
 ·skip
  refine zb hN Z (qd Z (za (qf Z Z) (zg _ Z (fun h5 => ?_) (fun h5 => ?_))))
  ·exact tE h5 H fun H=>zp hN Z (zm (qa yy Z Z Z) Z (bE H fun r6 h7 H=>za (zk (x2h b2 r6 h7) ⟨.inl Z,U⟩) (qd Z (za (yc Z Z) (za (yc Z Z) (zj (qk yy Z Z Z Z) Z (qe Z ⟨(r6.2,r6.1.At,r6.1.Method,r6.1.Host,r6.1.Path,r6.1.Query,r6.1.From,r6.1.Headers,r6.1.Body),H,⟨Z,Z,Z,U⟩,⟨Z,Z,U⟩⟩)))))))
  ·exact fE h5 H fun H=>zl ⟨(r3.2,0,[],[],[],[],[],([]:(List zn)),[]),H,⟨Z,Z,Z,U⟩,⟨Z,Z,U⟩⟩
 ·rintro ⟨e8,c9,c10,c11,c12,c13,c14,c15,c16⟩ H
  replace H:z6u r3 e8 c9 c10 c11 c12 c13 c14 c15 c16=some r:=H
  unfold z6u at H
  refine zh (wz mixed hN Z Z (zm (qa yy Z Z Z) Z (zm (qa yy Z Z Z) Z (qd Z (zj (qk yy Z Z Z Z) Z (zj (qk yy Z Z Z Z) Z (qe Z ⟨Z,?_⟩)))))))
  refine zi ?_
  cases H
  exact ⟨U,.inl ⟨_,_,_,qx r3.1,Z,Z,Z,Z,yy⟩,.inl ⟨_,_,_,qx (zz.mk c9 c10 c11 c12 c13 c14 c15 c16),Z,Z,Z,Z,yy⟩,.inl Z,U⟩
theorem w0r (s1:(List Bs)) (p1:Bs→Option (Bool)) (fv1:Nat) (us1:List V) (hp1:∀ a0 r,p1 a0=some r→Fn Tryz.prog fv1 ([vstr a0]++us1) (zu [ze r])) (r:(Int)) (H:y5z s1 p1=some r):Fn Tryz.prog 120 [vlst (List.map zr s1),vfn fv1 us1] (zu [vint r]):=by
 refine ⟨by kernel_rfl,yh (us:=[vint r]) Tryz.func120 Z Z Z Z fun X hN => ?_⟩
 unfold y5z at H
 refine zb hN Z (qe Z (zh (zb hN Z (qd Z (za (qi wq Z) (qd Z (zw (gE H fun h4 H=>qw (fun (k2:Nat) (s:Unit)=>[(0,.dat (vlst (List.map zr s1))),(1,.dat (vfn fv1 us1)),(7,.dat (vint (s1.length:Int))),(8,.dat (vint (k2:Int)))]) (fun (k2:Nat) (s:Unit)=>[]) () H ⟨Z,Z,Z,Z,U⟩ U (fun _ _=>Z) ?_ ?_))))))))
 ·rintro ⟨⟩ H
  replace H:y4w=some r:=H
  unfold y4w at H
  refine zb hN Z (za (zx Z Z) (zh (zg _ Z (fun h=>(lt_t h).elim) (fun h => ?_))))
  refine yt (zb hN Z (qe Z (zi ?_)))
  cases H
  exact ⟨U,.inl Z,U⟩
 ·rintro k2 x5 ⟨⟩ q3 h6 h7 H hq3
  replace H:y4v p1 k2 x5=some q3:=H
  unfold y4v at H
  refine zb hN Z (za (zx Z Z) (zh (zg _ Z (fun h => ?_) (fun h=>(lt_f h6 h).elim))))
  refine zl (zh (zw (zb hN Z (qd Z (qe Z (zb hN Z (qd Z (qd Z (qd Z (za (we vj (fun _=>Z) Z Z h7) (za (qu tyS9 Z (qh h7) Z) (bE H fun r8 h9 H=>za (z0t (hp1 x5 r8 h9) Z ⟨.inl Z,U⟩) (zg _ Z (fun h10 => ?_) (fun h10 => ?_))))))))))))))
  ·refine tE h10 H fun H=>zb hN Z (qd Z (qe Z (zi ?_)))
   replace H:=retl H hq3
   cases H
   exact ⟨U,.inl Z,U⟩
  ·exact fE h10 H fun H=>zl (zp hN Z (za (qs Z Z (by omega)) (qd Z ⟨_,yx H,⟨Z,Z,Z,Z,U⟩,U⟩)))
theorem x1w (s1:(List Bs)) (p1:Bs→Option (Bool)) (fv1:Nat) (us1:List V) (hp1:∀ a0 r,p1 a0=some r→Fn Tryz.prog fv1 ([vstr a0]++us1) (zu [ze r])) (r:(Bool)) (H:z1a s1 p1=some r):Fn Tryz.prog 65 [vlst (List.map zr s1),vfn fv1 us1] (zu [ze r]):=by
 refine ⟨by kernel_rfl,yh (us:=[ze r]) Tryz.func65 Z Z Z Z fun X hN => ?_⟩
 unfold z1a at H
 refine zb hN Z (qe Z (zb hN Z (qd Z (qd Z (bE H fun r2 h3 H=>za (zk (w0r s1 p1 fv1 us1 hp1 r2 h3) ⟨.inl Z,.inl Z,U⟩) (za (wt Z Z) (qe Z (zi ?_))))))))
 cases H
 exact ⟨U,.inl Z,U⟩
theorem x1v (s1:(List Bs)) (s2:(List Bs)) (r:(Bool)) (H:z39 s1 s2=some r):Fn Tryz.prog 67 [vlst (List.map zr s1),vlst (List.map zr s2)] (zu [ze r]):=by
 refine ⟨by kernel_rfl,yh (us:=[ze r]) Tryz.func67 Z Z Z Z fun X hN => ?_⟩
 unfold z39 at H
 refine zb hN Z (qe Z (zh (zb hN Z (qd Z (za (qi wq Z) (qd Z (za (qi wq Z) (za (qp Z Z) (zg _ Z (fun h3 => ?_) (fun h3 => ?_))))))))))
 ·refine tE h3 H fun H=>zb hN Z (qe Z (zi ?_))
  cases H
  exact ⟨U,.inl Z,U⟩
 ·refine fE h3 H fun H=>zl (zh (zb hN Z (qd Z (za (qi wq Z) (qd Z (zw (gE H fun h6 H=>qw (fun (k4:Nat) (s:Unit)=>[(0,.dat (vlst (List.map zr s1))),(1,.dat (vlst (List.map zr s2))),(12,.dat (vint (s1.length:Int))),(13,.dat (vint (k4:Int)))]) (fun (k4:Nat) (s:Unit)=>[]) () H ⟨Z,Z,Z,Z,U⟩ U (fun _ _=>Z) ?_ ?_)))))))
  ·rintro ⟨⟩ H
   replace H:y41=some r:=H
   unfold y41 at H
   refine zb hN Z (za (zx Z Z) (zh (zg _ Z (fun h=>(lt_t h).elim) (fun h => ?_))))
   refine yt (zb hN Z (qe Z (zi ?_)))
   cases H
   exact ⟨U,.inl Z,U⟩
  ·rintro k4 x7 ⟨⟩ q5 h8 h9 H hq5
   replace H:y1f s2 k4 x7=some q5:=H
   unfold y1f at H
   refine zb hN Z (za (zx Z Z) (zh (zg _ Z (fun h => ?_) (fun h=>(lt_f h8 h).elim))))
   refine zl (zh (zw (zb hN Z (qd Z (qe Z (zh (wz mixed hN Z Z (qd Z (qd Z (za (we vj (fun _=>Z) Z Z h9) (za (qu tyS9 Z (qh h9) Z) (qd Z (qd Z (bE H fun x10 h11 H=>za (we vj (fun _=>Z) Z Z h11) (za (qu tyS9 Z (qh h11) Z) (za (ji Z Z) ⟨Z,?_⟩))))))))))))))))
   refine zg _ Z (fun h12 => ?_) (fun h12 => ?_)
   ·refine tE h12 H fun H=>zb hN Z (qe Z (zi ?_))
    replace H:=retl H hq5
    cases H
    exact ⟨U,.inl Z,U⟩
   ·exact fE h12 H fun H=>zl (zp hN Z (za (qs Z Z (by omega)) (qd Z ⟨_,yx H,⟨Z,Z,Z,Z,U⟩,U⟩)))
theorem w19 (n1:Bs) (c2:zz) (c3:zz) (r:(Bool)) (H:z1n n1 c2 c3=some r):Fn Tryz.prog 66 [vstr n1,wo [[vint c2.At,vstr c2.Method,vstr c2.Host,vstr c2.Path,vstr c2.Query,vstr c2.From,vlst (List.map yb c2.Headers),vstr c2.Body]] 0 0,wo [[vint c3.At,vstr c3.Method,vstr c3.Host,vstr c3.Path,vstr c3.Query,vstr c3.From,vlst (List.map yb c3.Headers),vstr c3.Body]] 0 0] (zu [ze r]):=by
 refine ⟨by kernel_rfl,yh (us:=[ze r]) Tryz.func66 Z Z Z Z fun X hN => ?_⟩
 unfold z1n at H
 refine zb hN Z (qe Z (zh (wz mixed hN Z Z (za (y05 vi Z) (za (qu wb Z Z Z) (qd Z (bE H fun r4 h5 H=>za (zk (z86 c2.Headers n1 r4 h5) ⟨.inl Z,.inl Z,U⟩) (za (y05 vi Z) (za (qu wb Z Z Z) (qd Z (bE H fun r6 h7 H=>za (zk (z86 c3.Headers n1 r6 h7) ⟨.inl Z,.inl Z,U⟩) (bE H fun r8 h9 H=>za (zk (x1v r4 r6 r8 h9) ⟨.inl Z,.inl Z,U⟩) (za (yq Z) (qe Z ⟨Z,?_⟩))))))))))))))
 refine zi ?_
 cases H
 exact ⟨U,.inl Z,U⟩
theorem w2a (own1:zz) (a2:qc) (r3:zz) (r:(Bool)) (H:z42 own1 a2 r3=some r):Fn Tryz.prog 32 [vagg (qx own1),vagg (Zj a2),vagg (qx r3)] (zu [ze r]):=by
 refine ⟨by kernel_rfl,yh (us:=[ze r]) Tryz.func32 Z Z Z Z fun X hN => ?_⟩
 unfold z42 at H
 refine zb hN Z (zj (wd 1 Z) Z (zj (wd 2 Z) Z (zj (wd 3 Z) Z (qe Z (zh (zb hN Z (za (zq xx Z) (zm (zv tyS9 Z Z) Z (za (zq xx Z) (zm (zv tyS9 Z Z) Z (za (ji Z Z) (qd Z (yn Z Z (fun hc=>zq xw Z) (jw Z Z (fun hc=>zv tyS9 (cnd (c:=(!(decide (own1.Host≠r3.Host)))) hc) Z) Z vf (yn Z Z (fun hc=>zq xw Z) (jw Z Z (fun hc=>zv tyS9 (cnd (c:=(!(decide (own1.Host≠r3.Host)))) hc) Z) Z vf (yn Z Z (fun hc=>ji (cnd (c:=(!(decide (own1.Host≠r3.Host)))) hc) (cnd (c:=(!(decide (own1.Host≠r3.Host)))) hc)) (za (wv Z Z (fun hb=>(cnd (c:=(!(decide (own1.Host≠r3.Host)))) (notI hb)))) (qd Z (yn Z Z (fun hc=>zq xv Z) (jw Z Z (fun hc=>zv tyS9 (cnd (c:=(!((decide (own1.Host≠r3.Host)) || (decide (own1.Path≠r3.Path))))) hc) Z) Z vf (yn Z Z (fun hc=>zq xv Z) (jw Z Z (fun hc=>zv tyS9 (cnd (c:=(!((decide (own1.Host≠r3.Host)) || (decide (own1.Path≠r3.Path))))) hc) Z) Z vf ?_)))))))))))))))))))))))
 refine yn Z Z (fun hc=>ji (cnd (c:=(!((decide (own1.Host≠r3.Host)) || (decide (own1.Path≠r3.Path))))) hc) (cnd (c:=(!((decide (own1.Host≠r3.Host)) || (decide (own1.Path≠r3.Path))))) hc)) (za (wv Z Z (fun hb=>(cnd (c:=(!((decide (own1.Host≠r3.Host)) || (decide (own1.Path≠r3.Path))))) (notI hb)))) (qd Z (yn Z Z (fun hc=>zq uf Z) (jw Z Z (fun hc=>zv tyS9 (cnd (c:=(!(((decide (own1.Host≠r3.Host)) || (decide (own1.Path≠r3.Path))) || (decide (own1.Query≠r3.Query))))) hc) Z) Z vf (yn Z Z (fun hc=>zq uf Z) (jw Z Z (fun hc=>zv tyS9 (cnd (c:=(!(((decide (own1.Host≠r3.Host)) || (decide (own1.Path≠r3.Path))) || (decide (own1.Query≠r3.Query))))) hc) Z) Z vf (yn Z Z (fun hc=>ji (cnd (c:=(!(((decide (own1.Host≠r3.Host)) || (decide (own1.Path≠r3.Path))) || (decide (own1.Query≠r3.Query))))) hc) (cnd (c:=(!(((decide (own1.Host≠r3.Host)) || (decide (own1.Path≠r3.Path))) || (decide (own1.Query≠r3.Query))))) hc)) (yn Z Z (fun hc=>zd (.dat _) (cnd (c:=(!(((decide (own1.Host≠r3.Host)) || (decide (own1.Path≠r3.Path))) || (decide (own1.Query≠r3.Query))))) hc)) (wj Z Z (fun hc=>zq uf Z) (y45 Z Z (fun hc=>zv tyS9 (cnd (c:=((!(((decide (own1.Host≠r3.Host)) || (decide (own1.Path≠r3.Path))) || (decide (own1.Query≠r3.Query)))) && (decide (own1.Method≠r3.Method)))) hc) Z) Z vf (wj Z Z (fun hc=>va (cnd (c:=((!(((decide (own1.Host≠r3.Host)) || (decide (own1.Path≠r3.Path))) || (decide (own1.Query≠r3.Query)))) && (decide (own1.Method≠r3.Method)))) hc) Z) (wj Z Z (fun hc=>zd (.dat _) (cnd (c:=((!(((decide (own1.Host≠r3.Host)) || (decide (own1.Path≠r3.Path))) || (decide (own1.Query≠r3.Query)))) && (decide (own1.Method≠r3.Method)))) hc)) (wj Z Z (fun hc=>zq uf Z) (y45 Z Z (fun hc=>zv tyS9 (cnd (c:=(((!(((decide (own1.Host≠r3.Host)) || (decide (own1.Path≠r3.Path))) || (decide (own1.Query≠r3.Query)))) && (decide (own1.Method≠r3.Method))) && (decide (own1.Method=[71,69,84])))) hc) Z) Z vf (wj Z Z (fun hc=>va (cnd (c:=(((!(((decide (own1.Host≠r3.Host)) || (decide (own1.Path≠r3.Path))) || (decide (own1.Query≠r3.Query)))) && (decide (own1.Method≠r3.Method))) && (decide (own1.Method=[71,69,84])))) hc) Z) (wj Z Z (fun hc=>wm (cnd (c:=((!(((decide (own1.Host≠r3.Host)) || (decide (own1.Path≠r3.Path))) || (decide (own1.Query≠r3.Query)))) && (decide (own1.Method≠r3.Method)))) hc) (fun hb=>(cnd (c:=(((!(((decide (own1.Host≠r3.Host)) || (decide (own1.Path≠r3.Path))) || (decide (own1.Query≠r3.Query)))) && (decide (own1.Method≠r3.Method))) && (decide (own1.Method=[71,69,84])))) (andI hc hb))) Z) (wj Z Z (fun hc=>yq (cnd (c:=((!(((decide (own1.Host≠r3.Host)) || (decide (own1.Path≠r3.Path))) || (decide (own1.Query≠r3.Query)))) && (decide (own1.Method≠r3.Method)))) hc)) (yn Z Z (fun hc=>wm (cnd (c:=(!(((decide (own1.Host≠r3.Host)) || (decide (own1.Path≠r3.Path))) || (decide (own1.Query≠r3.Query))))) hc) (fun hb=>(cnd (c:=((!(((decide (own1.Host≠r3.Host)) || (decide (own1.Path≠r3.Path))) || (decide (own1.Query≠r3.Query)))) && (decide (own1.Method≠r3.Method)))) (andI hc hb))) Z) (za (wv Z Z (fun hb=>(cnd (c:=(!(((decide (own1.Host≠r3.Host)) || (decide (own1.Path≠r3.Path))) || (decide (own1.Query≠r3.Query))))) (notI hb)))) (zg _ Z (fun h4 => ?_) (fun h4 => ?_)))))))))))))))))))))
 ·refine tE h4 H fun H=>zb hN Z (qe Z (zi ?_))
  cases H
  exact ⟨U,.inl Z,U⟩
 ·refine fE h4 H fun H=>zl (zb hN Z (zm (qa ur Z Z Z) Z (bE H fun r5 h6 H=>za (zk (y6r a2 r5 h6) ⟨.inl Z,U⟩) (qd Z (za (yc Z Z) (za (yc Z Z) (za (yc Z Z) (qe Z (qe Z (qe Z (zh (zb hN Z (qd Z (qd Z (yn Z Z (fun hc=>zd (.dat _) Z) (yn Z Z (fun hc=>qp (cnd (c:=(!r5.2.1)) hc) Z) (za (wv Z Z (fun hb=>(cnd (c:=(!r5.2.1)) (notI hb)))) (zg _ Z (fun h7 => ?_) (fun h7 => ?_)))))))))))))))))))
  ·refine tE h7 H fun H=>zb hN Z (qe Z (zi ?_))
   cases H
   exact ⟨U,.inl Z,U⟩
  ·refine fE h7 H fun H=>zl (zh (z92 1 [vint own1.At,vstr own1.Method,vstr own1.Host,vstr own1.Path,vstr own1.Query,vstr own1.From,vlst (List.map yb own1.Headers),vstr own1.Body] Z Z (z92 3 [vint r3.At,vstr r3.Method,vstr r3.Host,vstr r3.Path,vstr r3.Query,vstr r3.From,vlst (List.map yb r3.Headers),vstr r3.Body] Z Z (zp hN Z (qd Z (za (y04 (us:=[_,_]) ⟨Z,Z,U⟩) (bE H fun r8 h9 H=>za (zk (x1w r5.1 (fun (a0:Bs)=>z1n a0 own1 r3) 66 [wo [[vint own1.At,vstr own1.Method,vstr own1.Host,vstr own1.Path,vstr own1.Query,vstr own1.From,vlst (List.map yb own1.Headers),vstr own1.Body]] 0 0,wo [[vint r3.At,vstr r3.Method,vstr r3.Host,vstr r3.Path,vstr r3.Query,vstr r3.From,vlst (List.map yb r3.Headers),vstr r3.Body]] 0 0] (fun a0 r h=>w19 a0 own1 r3 r h) r8 h9) ⟨.inl Z,.inl Z,U⟩) (za (yq Z) (qe Z (zi ?_))))))))))
   cases H
   exact ⟨U,.inl Z,U⟩
theorem w2g (e1:qr) (v2:Int) (r:(Int)) (H:z45 e1 v2=some r):Fn Tryz.prog 34 [vagg (xr e1),vint v2] (zu [vint r]):=by
 refine ⟨by kernel_rfl,yh (us:=[vint r]) Tryz.func34 Z Z Z Z fun X hN => ?_⟩
 unfold z45 at H
 refine zb hN Z (zj (wd 1 Z) Z (qe Z (zb hN Z (qe Z (yd (ι:=Int) (fun i=>[(1,.dat (vint v2)),(2,.ptr 1 0),(5,.dat (vint i))]) (fun i=>[(1,.box none 33 [.dat (vint e1.Request.At),.dat (vstr e1.Request.Method),.dat (vstr e1.Request.Host),.dat (vstr e1.Request.Path),.dat (vstr e1.Request.Query),.dat (vstr e1.Request.From),.dat (vlst (List.map yb e1.Request.Headers)),.dat (vstr e1.Request.Body),.dat (vint e1.Response.Status),.dat (vlst (List.map yb e1.Response.Headers)),.dat (vstr e1.Response.Body),.dat (vint e1.At),.dat (vlst (List.map zr e1.Tags)),.dat (vint e1.Used)])]) (fun i=>z0l e1 v2 i=some r) (fun i=>Z) ?_ ?_)))))
 ·skip
  refine zb hN Z (za (zq Zm Z) (za (zq xu Z) (zm (zv wb Z Z) Z (bE H fun r3 h4 H=>za (zk (z86 e1.Response.Headers [97,103,101] r3 h4) ⟨.inl Z,.inl Z,U⟩) (qe Z (zb hN Z (qd Z (za (qi wq Z) (za (wg Z Z) (zg _ Z (fun h5 => ?_) (fun h5 => ?_)))))))))))
  ·refine tE h5 H fun H=>zb hN Z (qd Z (bE H fun x6 h7 H=>za (we vj (fun _=>Z) Z Z h7) (za (qu tyS9 Z (qh h7) Z) (bE H fun r8 h9 H=>za (zk (x3a x6 r8 h9) ⟨.inl Z,U⟩) (qd Z (za (yc Z Z) (za (yc Z Z) (qe Z (qe Z (zb hN Z (qd Z (zg _ Z (fun h10 => ?_) (fun h10 => ?_)))))))))))))
   ·exact tE h10 H fun H=>zp hN Z (qd Z (qe Z ⟨r8.1,H,⟨Z,Z,Z,U⟩,⟨Z,U⟩⟩))
   ·exact fE h10 H fun H=>zl ⟨0,H,⟨Z,Z,Z,U⟩,⟨Z,U⟩⟩
  ·exact fE h5 H fun H=>zl ⟨0,H,⟨Z,Z,Z,U⟩,⟨Z,U⟩⟩
 ·rintro n11 H
  replace H:z0l e1 v2 n11=some r:=H
  unfold z0l at H
  refine zb hN Z (qd Z (za (zq Yl Z) (zm (zv tyS3 Z Z) Z (za (yj _ Z Z (.inr (.inl ⟨Z,Z⟩))) (qd Z (za (yj _ Z Z (.inr (.inr ⟨Z,Z⟩))) (za (yj _ Z Z (.inl ⟨Z,Z⟩)) (qe Z (zi ?_)))))))))
  cases H
  exact ⟨U,.inl Z,U⟩
theorem x3c (c1:zy) (r:(Int)) (H:Wz c1=some r):Fn Tryz.prog 68 [vagg (vg c1)] (zu [vint r]):=by
 refine ⟨by kernel_rfl,yh (us:=[vint r]) Tryz.func68 Z Z Z Z fun X hN => ?_⟩
 unfold Wz at H
 refine zb hN Z (zj (wd 1 Z) Z (qe Z (zh (zw (zb hN Z (za (zq Qu Z) (zm (zv tyS4 Z Z) Z (qe Z (zg _ Z (fun h2 => ?_) (fun h2 => ?_))))))))))
 ·refine tE h2 H fun H=>zb hN Z (qe Z (zi ?_))
  cases H
  exact ⟨U,.inl Z,U⟩
 ·refine fE h2 H fun H=>zb hN Z (za (zq z28 Z) (zm (zv tyS3 Z Z) Z (za (qp Z Z) (qe Z (zg _ Z (fun h3 => ?_) (fun h3 => ?_))))))
  ·refine tE h3 H fun H=>zb hN Z (za (zq z28 Z) (zm (zv tyS3 Z Z) Z (za (yj _ Z Z (.inr (.inr ⟨Z,Z⟩))) (qe Z (zi ?_)))))
   cases H
   exact ⟨U,.inl Z,U⟩
  ·refine fE h3 H fun H=>zb hN Z (za (zq Zl Z) (zm (zv tyS3 Z Z) Z (za (qp Z Z) (qe Z (zg _ Z (fun h4 => ?_) (fun h4 => ?_))))))
   ·refine tE h4 H fun H=>zb hN Z (za (zq Zl Z) (zm (zv tyS3 Z Z) Z (za (yj _ Z Z (.inr (.inr ⟨Z,Z⟩))) (qe Z (zi ?_)))))
    cases H
    exact ⟨U,.inl Z,U⟩
   ·refine fE h4 H fun H=>zl (zb hN Z (qe Z (zi ?_)))
    cases H
    exact ⟨U,.inl Z,U⟩
end Go.Proofs.YtmdllhcjefcggabGreatDoor
