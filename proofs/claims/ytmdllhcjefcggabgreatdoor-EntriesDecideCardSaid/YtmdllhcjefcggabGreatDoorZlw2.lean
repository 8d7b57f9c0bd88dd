/- Walks along the models. Printed by a program. -/
import Derived.Test.YtmdllhcjefcggabGreatDoorZlw1
namespace Go.Proofs.YtmdllhcjefcggabGreatDoor
open Go.RowKit
set_option linter.unusedVariables false
set_option maxRecDepth 100000
set_option maxHeartbeats 2000000
theorem w10 (s1:zt) (r:(qr×zt)) (H:z8r s1=some r):Imp Tryz.prog 4 25 (qo s1) [] (zu [vagg (xr r.1)]) (qo r.2):=by
 refine kf (us:=[vagg (xr r.1)]) (cs':=(qo r.2)) (by kernel_rfl) Tryz.func4 Z Z Z Z fun X bl hN => ?_
 unfold z8r at H
 refine zb hN Z (zj (qv 1 y0e Z) Z (zb hN Z (za (zd (.ptr _ _) Z) (bE H fun r2 h3 H=>zj (yl (x28 s1 0 r2 h3) Z ⟨.inl Z,U⟩ Z) Z (za (zd (.ptr _ _) Z) (bE H fun r4 h5 H=>zj (yl (w13 r2.2 r4 h5) Z U Z) Z (za (zd (.ptr _ _) Z) (za (ya (u':=vlst (List.map wa [0,1000,20000])) (yo [[_],[_],[_]] y0n ⟨Z,.inl ⟨_,Z,Z,Z⟩,Z,Z,.inl ⟨_,Z,Z,Z⟩,Z,Z,.inl ⟨_,Z,Z,Z⟩,Z,U⟩ Z Z) Z) (bE H fun r6 h7 H=>zj (yl (y21 r4.2 [0,1000,20000] r6 h7) Z ⟨.inl Z,U⟩ Z) Z (za (Zn (u':=vagg (xr (qr.mk r2.1 r4.1 r6.1 [] 0))) (Yi (by exact ⟨yp,yp,yp,yp,yp,yp,yp,yp,yp,yp,yp,yp,xd,yp,U⟩)) (wx [(0,qx r2.1),(8,Zj r4.1),(11,[vint r6.1])] y0e x54 Z ⟨Z,.inr Z,Z,Z,.inr Z,Z,Z,.inl ⟨_,Z,Z,Z⟩,Z,U⟩)) ?_))))))))))
 refine zj (qv 2 y0e Z) Z (zj (qk uq Z Z Z Z) Z (zb hN Z (za (zq Yl Z) (zm (zv tyS3 Z Z) Z (za (zq y0r Z) (zj (vr tyS3 Z Z Z Z) Z (zb hN Z (za (ya (u':=vlst (List.map zr [[114,101,100]])) (yo [[_]] yu ⟨Z,.inl ⟨_,Z,Z,Z⟩,Z,U⟩ Z Z) Z) (za (ya (u':=vlst (List.map zr [[98,108,117,101],[114,101,100]])) (yo [[_],[_]] yu ⟨Z,.inl ⟨_,Z,Z,Z⟩,Z,Z,.inl ⟨_,Z,Z,Z⟩,Z,U⟩ Z Z) Z) (za (Zn (u':=vlst (List.map x5e ([[],[[114,101,100]],[[98,108,117,101],[114,101,100]]]:(List (List Bs))))) (x5m (by exact ⟨⟨xd,U⟩,⟨yp,U⟩,⟨yp,U⟩,U⟩)) (yo [[vnil],[_],[_]] y8o ⟨Z,.inl ⟨_,Z,Z,Z⟩,Z,Z,.inl ⟨_,Z,Z,Z⟩,Z,Z,.inl ⟨_,Z,Z,Z⟩,Z,U⟩ Z Z)) ?_))))))))))
 refine za (zd (.ptr _ _) Z) (bE H fun r8 h9 H=>zj (yl (Yb r6.2 3 r8 h9) Z ⟨.inl Z,U⟩ Z) Z (bE H fun x10 h11 H=>za (uu y8z (fun _=>Z) Z Z h11) (za (qu jp Z (qh (vo h11).2) Z) (za (zq z0o Z) (zj (vr jp Z Z Z Z) Z (yd (ι:=(List Int)×Int×Bs×Int×(List Bs)×Int) (fun i=>[(2,.ptr 1 0),(3,.ptr 2 0)]) (fun i=>[(0,.box (some bl) 25 [.dat (vlst (List.map wa i.1)),.dat (vint i.2.1)]),(1,.box none 33 [.dat (vint 0),.dat (vstr []),.dat (vstr []),.dat (vstr []),.dat (vstr []),.dat (vstr []),.dat (vnil),.dat (vstr []),.dat (vint 0),.dat (vnil),.dat (vstr []),.dat (vint 0),.dat (vnil),.dat (vint 0)]),(2,.box none 33 [.dat (vint r2.1.At),.dat (vstr r2.1.Method),.dat (vstr i.2.2.1),.dat (vstr r2.1.Path),.dat (vstr r2.1.Query),.dat (vstr r2.1.From),.dat (vlst (List.map yb r2.1.Headers)),.dat (vstr r2.1.Body),.dat (vint r4.1.Status),.dat (vlst (List.map yb r4.1.Headers)),.dat (vstr r4.1.Body),.dat (vint i.2.2.2.1),.dat (vlst (List.map zr i.2.2.2.2.1)),.dat (vint i.2.2.2.2.2)])]) (fun i=>Ql r2 r4 i.1 i.2.1 i.2.2.1 i.2.2.2.1 i.2.2.2.2.1 i.2.2.2.2.2=some r) (fun i=>Z) ?_ ?_))))))
 ·skip
  refine zb hN Z (za (zd (.ptr _ _) Z) (bE H fun r12 h13 H=>zj (yl (je r8.2 20 r12 h13) Z ⟨.inl Z,U⟩ Z) Z (zg _ Z (fun h14 => ?_) (fun h14 => ?_))))
  ·refine tE h14 H fun H=>zb hN Z (za (zd (.ptr _ _) Z) (bE H fun r15 h16 H=>zj (yl (Yb r12.2 4 r15 h16) Z ⟨.inl Z,U⟩ Z) Z (zw (zb hN Z (za (qf Z Z) (qe Z (zg _ Z (fun h17 => ?_) (fun h17 => ?_))))))))
   ·exact tE h17 H fun H=>zp hN Z (za (zd (.ptr _ _) Z) (bE H fun r18 h19 H=>zj (yl (y22 r15.2 0 100 r18 h19) Z ⟨.inl Z,.inl Z,U⟩ Z) Z (za (zq Yl Z) (zj (vr tyS3 Z Z Z Z) Z ⟨(r18.2.L,r18.2.at_,r2.1.Host,r18.1,x10,r6.1),H,⟨Z,Z,U⟩,⟨Z,Z,Z,U⟩⟩))))
   ·refine fE h17 H fun H=>zb hN Z (za (qf Z Z) (qe Z (zg _ Z (fun h20 => ?_) (fun h20 => ?_))))
    ·exact tE h20 H fun H=>zp hN Z (za (zd (.ptr _ _) Z) (bE H fun r21 h22 H=>zj (yl (y22 r15.2 0 100 r21 h22) Z ⟨.inl Z,.inl Z,U⟩ Z) Z (za (zq y0r Z) (zj (vr tyS3 Z Z Z Z) Z ⟨(r21.2.L,r21.2.at_,r2.1.Host,r6.1,x10,r21.1),H,⟨Z,Z,U⟩,⟨Z,Z,Z,U⟩⟩))))
    ·refine fE h20 H fun H=>zb hN Z (za (qf Z Z) (qe Z (zg _ Z (fun h23 => ?_) (fun h23 => ?_))))
     ·exact tE h23 H fun H=>zp hN Z (za (ya (u':=vlst (List.map zr [[114,101,100],[98,108,117,101]])) (yo [[_],[_]] yu ⟨Z,.inl ⟨_,Z,Z,Z⟩,Z,Z,.inl ⟨_,Z,Z,Z⟩,Z,U⟩ Z Z) Z) (za (ya (u':=vlst (List.map zr [[]])) (yo [[_]] yu ⟨Z,.inl ⟨_,Z,Z,Z⟩,Z,U⟩ Z Z) Z) (za (ya (u':=vlst (List.map zr [[65]])) (yo [[_]] yu ⟨Z,.inl ⟨_,Z,Z,Z⟩,Z,U⟩ Z Z) Z) (za (ya (u':=vlst (List.map x5e [[[114,101,100],[98,108,117,101]],[[]],[[65]]])) (yo [[_],[_],[_]] y8o ⟨Z,.inl ⟨_,Z,Z,Z⟩,Z,Z,.inl ⟨_,Z,Z,Z⟩,Z,Z,.inl ⟨_,Z,Z,Z⟩,Z,U⟩ Z Z) Z) (za (zd (.ptr _ _) Z) (bE H fun r24 h25 H=>zj (yl (Yb r15.2 3 r24 h25) Z ⟨.inl Z,U⟩ Z) Z (bE H fun x26 h27 H=>za (uu y8z (fun _=>Z) Z Z h27) (za (qu jp Z (qh (vo h27).2) Z) (za (zq z0o Z) (zj (vr jp Z Z Z Z) Z ⟨(r24.2.L,r24.2.at_,r2.1.Host,r6.1,x26,r6.1),H,⟨Z,Z,U⟩,⟨Z,Z,Z,U⟩⟩))))))))))
     ·exact fE h23 H fun H=>zp hN Z (za (zd (.ptr _ _) Z) (bE H fun r28 h29 H=>zj (yl (w1z r15.2 r28 h29) Z U Z) Z (za (zq z29 Z) (za (zq xx Z) (zj (vr tyS9 Z Z Z Z) Z ⟨(r28.2.L,r28.2.at_,r28.1,r6.1,x10,r6.1),H,⟨Z,Z,U⟩,⟨Z,Z,Z,U⟩⟩)))))
  ·exact fE h14 H fun H=>zl ⟨(r12.2.L,r12.2.at_,r2.1.Host,r6.1,x10,r6.1),H,⟨Z,Z,U⟩,⟨Z,Z,Z,U⟩⟩
 ·rintro ⟨c30,c31,c32,c33,c34,c35⟩ H
  replace H:Ql r2 r4 c30 c31 c32 c33 c34 c35=some r:=H
  unfold Ql at H
  refine zb hN Z (zm (qa uq Z Z Z) Z (zj (qk uq Z Z Z Z) Z (zi ?_)))
  cases H
  exact ⟨U,⟨.inl ⟨_,_,_,xr (qr.mk (zz.mk r2.1.At r2.1.Method c32 r2.1.Path r2.1.Query r2.1.From r2.1.Headers r2.1.Body) r4.1 c33 c34 c35),Z,Z,Z,Z,uq⟩,U⟩,Z⟩
theorem w1y (s1:zt) (v2:Int) (r:(Int×zt)) (H:y2m s1 v2=some r):Imp Tryz.prog 6 25 (qo s1) [vint v2] (zu [vint r.1]) (qo r.2):=by
 refine kf (us:=[vint r.1]) (cs':=(qo r.2)) (by kernel_rfl) Tryz.func6 Z Z Z Z fun X bl hN => ?_
 unfold y2m at H
 refine zb hN Z (qe Z (zb hN Z (qd Z (za (zd (.ptr _ _) Z) (za (ya (u':=vlst (List.map wa [0,1,9999,10000,29999,30000,45000,59999,60000,60001,79999,80000,100000,159999,160000,1000000])) (yo [[_],[_],[_],[_],[_],[_],[_],[_],[_],[_],[_],[_],[_],[_],[_],[_]] y0n ⟨Z,.inl ⟨_,Z,Z,Z⟩,Z,Z,.inl ⟨_,Z,Z,Z⟩,Z,Z,.inl ⟨_,Z,Z,Z⟩,Z,Z,.inl ⟨_,Z,Z,Z⟩,Z,Z,.inl ⟨_,Z,Z,Z⟩,Z,Z,.inl ⟨_,Z,Z,Z⟩,Z,Z,.inl ⟨_,Z,Z,Z⟩,Z,Z,.inl ⟨_,Z,Z,Z⟩,Z,Z,.inl ⟨_,Z,Z,Z⟩,Z,Z,.inl ⟨_,Z,Z,Z⟩,Z,Z,.inl ⟨_,Z,Z,Z⟩,Z,Z,.inl ⟨_,Z,Z,Z⟩,Z,Z,.inl ⟨_,Z,Z,Z⟩,Z,Z,.inl ⟨_,Z,Z,Z⟩,Z,Z,.inl ⟨_,Z,Z,Z⟩,Z,Z,.inl ⟨_,Z,Z,Z⟩,Z,U⟩ Z Z) Z) (bE H fun r3 h4 H=>zj (yl (y21 s1 [0,1,9999,10000,29999,30000,45000,59999,60000,60001,79999,80000,100000,159999,160000,1000000] r3 h4) Z ⟨.inl Z,U⟩ Z) Z (za (yj _ Z Z (.inl ⟨Z,Z⟩)) (qe Z (zi ?_)))))))))
 cases H
 exact ⟨U,⟨.inl Z,U⟩,Z⟩
theorem x1m (l r:List zn) (H:uz l=some r):FnG Tryz.prog 9 [.dat (vlst (List.map yb l))] [] (.row 900 r.length) [(900,.row 40 2 (List.map yb r))]:=by
 obtain ⟨hl,rfl⟩:=x4q H
 refine ub (by kernel_rfl) Tryz.func9 Z Z Z Z fun X A hN => ?_
 refine x4z 0 Z (fun h0 => ?_) ?_
 ·obtain rfl:=List.map_eq_nil_iff.1 h0
  refine zb hN Z (qe Z (zh (zb hN Z (qd Z (za (y9q uo Z) (zg _ Z (fun h => ?_) (fun h=>by cases h)))))))
  exact zb hN Z (qe Z (jg 2 900 40 2 Z Z Z (zi ⟨U,[(2,.row 900 0)],⟨Z,U⟩,⟨Z,U⟩,Z,.inr (.inl ⟨2,Z,Z⟩)⟩)))
 ·refine zb hN Z (qe Z (zh (zb hN Z (qd Z (za (y9r uo Z) (zg _ Z (fun h=>by cases h) (fun h => ?_)))))))
  refine zl (zh (x4y 0 (u':=vlst (List.map yb l)) Z y70 (zp hN Z (zj (y9m 900 kg) Z (qd Z (zj (y9f (C:=yb) (xs:=[]) kg (fun _=>Z) Z Z Z (by simpa using hl) Z) Z ?_))))))
  exact za (qm (.row _ _) Z) (zi ⟨U,[(2,.row 900 l.length)],⟨Z,U⟩,⟨Z,U⟩,Z,.inr (.inl ⟨2,Z,Z⟩)⟩)
theorem w0t (s1:(List zn)) (p1:zn→Option (Bool)) (fv1:Nat) (us1:List V) (hp1:∀ a0 r,p1 a0=some r→Fn Tryz.prog fv1 ([vagg (yb a0)]++us1) (zu [ze r])) (r:(Int)) (H:y51 s1 p1=some r):Fn Tryz.prog 26 [vlst (List.map yb s1),vfn fv1 us1] (zu [vint r]):=by
 refine ⟨by kernel_rfl,yh (us:=[vint r]) Tryz.func26 Z Z Z Z fun X hN => ?_⟩
 unfold y51 at H
 refine zb hN Z (qe Z (zh (zb hN Z (qd Z (za (qi uo Z) (qd Z (zw (gE H fun h4 H=>qw (fun (k2:Nat) (s:Unit)=>[(0,.dat (vlst (List.map yb s1))),(1,.dat (vfn fv1 us1)),(7,.dat (vint (s1.length:Int))),(8,.dat (vint (k2:Int)))]) (fun (k2:Nat) (s:Unit)=>[]) () H ⟨Z,Z,Z,Z,U⟩ U (fun _ _=>Z) ?_ ?_))))))))
 ·rintro ⟨⟩ H
  replace H:y40=some r:=H
  unfold y40 at H
  refine zb hN Z (za (zx Z Z) (zh (zg _ Z (fun h=>(lt_t h).elim) (fun h => ?_))))
  refine yt (zb hN Z (qe Z (zi ?_)))
  cases H
  exact ⟨U,.inl Z,U⟩
 ·rintro k2 x5 ⟨⟩ q3 h6 h7 H hq3
  replace H:y4z p1 k2 x5=some q3:=H
  unfold y4z at H
  refine zb hN Z (za (zx Z Z) (zh (zg _ Z (fun h => ?_) (fun h=>(lt_f h6 h).elim))))
  refine zl (zh (zw (zb hN Z (qd Z (qe Z (zb hN Z (qd Z (qd Z (qd Z (za (we xg (fun _=>Z) Z Z h7) (za (xy jv Z (qh h7) Z) (bE H fun r8 h9 H=>za (z0t (hp1 x5 r8 h9) Z ⟨.inl Z,U⟩) (zg _ Z (fun h10 => ?_) (fun h10 => ?_))))))))))))))
  ·refine tE h10 H fun H=>zb hN Z (qd Z (qe Z (zi ?_)))
   replace H:=retl H hq3
   cases H
   exact ⟨U,.inl Z,U⟩
  ·exact fE h10 H fun H=>zl (zp hN Z (za (qs Z Z (by omega)) (qd Z ⟨_,yx H,⟨Z,Z,Z,Z,U⟩,U⟩)))
theorem x98 (s1:(List zn)) (p1:zn→Option (Bool)) (fv1:Nat) (us1:List V) (hp1:∀ a0 r,p1 a0=some r→Fn Tryz.prog fv1 ([vagg (yb a0)]++us1) (zu [ze r])) (r:((List zn))) (H:y2g s1 p1=some r):FnG Tryz.prog 8 [.row 0 s1.length,.dat (vfn fv1 us1)] [(0,.row 40 2 (List.map yb s1))] (.row 900 r.length) [(900,.row 40 2 (List.map yb r))]:=by
 refine ub (by kernel_rfl) Tryz.func8 Z Z Z Z fun X A hN => ?_
 unfold y2g at H
 refine zb hN Z (qe Z (zb hN Z (za (zd (.row _ _) Z) (qd Z (bE H fun r2 h3 H=>zm (y9u (id:=0) (es:=List.map yb s1) (w0t s1 p1 fv1 us1 hp1 r2 h3) ⟨.inr ⟨(congrArg (Slot.row 0) (by rw [List.length_map]):Slot.row 0 s1.length=_),Z⟩,.inl (.inl (.inl Z)),U⟩ (fun _ _ _ _ h=>h)) Z ?_)))))
 refine qe Z (zh (zb hN Z (qd Z (za (qf Z Z) (zg _ Z (fun h4 => ?_) (fun h4 => ?_))))))
 ·refine tE h4 H fun H=>zb hN Z (za (zd (.row _ _) Z) (za (qm (.row _ _) Z) (z6v 4 0 900 Z Z (by rw [List.length_map]) Z ?_)))
  refine zi ?_
  cases H
  exact ⟨U,[(4,.row 900 _)],⟨Z,U⟩,⟨Z,U⟩,Z,.inr (.inl ⟨4,Z,Z⟩)⟩
 ·refine fE h4 H fun H=>zl (yd (ι:=Int×(List zn)) (fun i=>[(0,.row 0 i.2.length),(5,.dat (vint i.1))]) (fun i=>[(0,.row 40 2 (List.map yb i.2))]) (fun i=>y1h i.1 i.2=some r) (fun i=>Z) ?_ ?_)
  ·skip
   refine zb hN Z (qd Z (za (yj _ Z Z (.inl ⟨Z,Z⟩)) (qe Z (zw (un (fun (s:Int×Int×(List zn))=>[(0,.row 0 s.2.2.length),(1,.dat (vfn fv1 us1)),(5,.dat (vint s.1)),(6,.dat (vint s.2.1))]) (fun (s:Int×Int×(List zn))=>[(0,.row 40 2 (List.map yb s.2.2))]) (r2,wr (r2+1),s1) H ⟨Z,Z,Z,Z,U⟩ ⟨Z,U⟩ (fun _=>Z) ?_)))))
   rintro ⟨i5,j6,l7⟩ q8 H hq8
   replace H:y43 p1 i5 j6 l7=some q8:=H
   unfold y43 at H
   refine zh (zb hN Z (qd Z (za (zd (.row _ _) Z) (zm (Qx uo Z Z) Z (za (zx Z Z) (zg _ Z (fun h9 => ?_) (fun h9 => ?_)))))))
   ·refine tE h9 H fun H=>zl (yd (ι:=Int×(List zn)) (fun i=>[(0,.row 0 i.2.length),(1,.dat (vfn fv1 us1)),(5,.dat (vint i.1)),(6,.dat (vint j6))]) (fun i=>[(0,.row 40 2 (List.map yb i.2))]) (fun i=>z7k j6 i.1 i.2=some q8) (fun i=>Z) ?_ ?_)
    ·skip
     refine zw (zb hN Z (za (zd (.row _ _) Z) (qd Z (bE H fun x10 h11 H=>zm (y0z xg Z Z Z h11) Z (zm (y4f jv Z Z (vo h11).2 Z) Z (zj (qv 1 kl Z) Z (zj (qk jv Z Z Z Z) Z (zb hN Z (qd Z (zm (qa jv Z Z Z) Z (bE H fun r12 h13 H=>za (z0t (hp1 x10 r12 h13) Z ⟨.inl Z,U⟩) (za (yq Z) (zg _ Z (fun h14 => ?_) (fun h14 => ?_))))))))))))))
     ·exact tE h14 H fun H=>zb hN Z (za (zd (.row _ _) Z) (qd Z (zm (qa jv Z Z Z) Z (bE H fun x15 h16 H=>zm (y0z xg Z Z Z h16) Z (zj (y89 (C:=yb) jv Z Z Z (y3y (vo h16).2) Z Z) Z (zp hN Z (qd Z (za (yj _ Z Z (.inl ⟨Z,Z⟩)) (qe Z ⟨(wr (i5+1),(l7.set i5.toNat x10)),H,⟨congrArg (Slot.row 0) (by simp),Z,Z,Z,U⟩,⟨Z,U⟩⟩)))))))))
     ·exact fE h14 H fun H=>zl ⟨(i5,l7),H,⟨Z,Z,Z,Z,U⟩,⟨Z,U⟩⟩
    ·rintro ⟨i17,s18⟩ H
     replace H:z7k j6 i17 s18=some q8:=H
     unfold z7k at H
     exact zp hN Z (qd Z (za (yj _ Z Z (.inl ⟨Z,Z⟩)) (qe Z ⟨_,yx H,⟨Z,Z,Z,Z,U⟩,⟨Z,U⟩⟩)))
   ·refine fE h9 H fun H=>yt ?_
    replace H:=outl H hq8
    exact ⟨(i5,l7),H,⟨Z,Z,U⟩,⟨Z,U⟩⟩
  ·rintro ⟨i19,s20⟩ H
   replace H:y1h i19 s20=some r:=H
   unfold y1h at H
   refine zb hN Z (za (zd (.row _ _) Z) (qd Z (gE H fun h21 H=>zm (y9b (C:=yb) xg Z Z Z h21) Z (zj (y9d (C:=yb) (zn.mk [] []) uo kl Z Z Z Z Z h21) Z (zb hN Z (za (zd (.row _ _) Z) (qd Z (gE H fun h22 H=>y44 (y4g (C:=yb) 2 xg Z (x4p (zn.mk [] []) h21) Z h22) Z Z (za (qm (.row _ _) Z) (z6v 4 2 900 Z Z (by rw [List.length_map]; exact (z9x h22)) Z ?_))))))))))
   refine zi ?_
   cases H
   exact ⟨U,[(4,.row 900 _)],⟨Z,U⟩,⟨Z,U⟩,Z,.inr (.inl ⟨4,Z,congrArg (Slot.row 900) (by first | exact z9x (by assumption) | (simp <;> omega))⟩)⟩
theorem w16 (h1:zn) (r:(Bool)) (H:z8x h1=some r):Fn Tryz.prog 10 [vagg (yb h1)] (zu [ze r]):=by
 refine ⟨by kernel_rfl,yh (us:=[ze r]) Tryz.func10 Z Z Z Z fun X hN => ?_⟩
 unfold z8x at H
 refine zb hN Z (zj (wd 1 Z) Z (qe Z (zb hN Z (za (zq Qv Z) (zm (zv tyS9 Z Z) Z (za (va Z Z) (qe Z (zi ?_))))))))
 cases H
 exact ⟨U,.inl Z,U⟩
theorem y6k (n1:Int) (r:(Bool)) (H:z1e n1=some r):Fn Tryz.prog 99 [vint n1] (zu [ze r]):=by
 refine ⟨by kernel_rfl,yh (us:=[ze r]) Tryz.func99 Z Z Z Z fun X hN => ?_⟩
 unfold z1e at H
 refine zb hN Z (qe Z (zb hN Z (qd Z (za (wt Z Z) (qd Z (yz Z Z (fun hc=>zd (.dat _) Z) (yz Z Z (fun hc=>zx (cnd (c:=(decide (0≤n1))) hc) Z) (za (wm Z (fun hb=>(cnd (c:=(decide (0≤n1))) hb)) Z) (qe Z (zi ?_))))))))))
 cases H
 exact ⟨U,.inl Z,U⟩
theorem y6h (c1:Int) (r:(Bool)) (H:z8d c1=some r):Fn Tryz.prog 209 [vval (.int .u8 c1)] (zu [ze r]):=by
 refine ⟨by kernel_rfl,yh (us:=[ze r]) Tryz.func209 Z Z Z Z fun X hN => ?_⟩
 unfold z8d at H
 refine zb hN Z (qe Z (zb hN Z (qd Z (za (wt Z Z) (qd Z (yz Z Z (fun hc=>zd (.dat _) Z) (yz Z Z (fun hc=>wi (cnd (c:=(decide (97≤c1))) hc) Z) (za (wm Z (fun hb=>(cnd (c:=(decide (97≤c1))) hb)) Z) (qd Z (yn Z Z (fun hc=>zd (.dat _) Z) (yn Z Z (fun hc=>wt (cnd (c:=(!((decide (97≤c1)) && (decide (c1≤122))))) hc) Z) (yn Z Z (fun hc=>zd (.dat _) (cnd (c:=(!((decide (97≤c1)) && (decide (c1≤122))))) hc)) (wj Z Z (fun hc=>zd (.dat _) Z) (wj Z Z (fun hc=>wi (cnd (c:=((!((decide (97≤c1)) && (decide (c1≤122)))) && (decide (65≤c1)))) hc) Z) (yn Z Z (fun hc=>wm (cnd (c:=(!((decide (97≤c1)) && (decide (c1≤122))))) hc) (fun hb=>(cnd (c:=((!((decide (97≤c1)) && (decide (c1≤122)))) && (decide (65≤c1)))) (andI hc hb))) Z) (za (wv Z Z (fun hb=>(cnd (c:=(!((decide (97≤c1)) && (decide (c1≤122))))) (notI hb)))) (qe Z (zi ?_))))))))))))))))))
 cases H
 exact ⟨U,.inl Z,U⟩
theorem y2y (c1:Int) (r:(Bool)) (H:z4e c1=some r):Fn Tryz.prog 210 [vval (.int .u8 c1)] (zu [ze r]):=by
 refine ⟨by kernel_rfl,yh (us:=[ze r]) Tryz.func210 Z Z Z Z fun X hN => ?_⟩
 unfold z4e at H
 refine zb hN Z (qe Z (zb hN Z (qd Z (za (wt Z Z) (qd Z (yz Z Z (fun hc=>zd (.dat _) Z) (yz Z Z (fun hc=>wi (cnd (c:=(decide (48≤c1))) hc) Z) (za (wm Z (fun hb=>(cnd (c:=(decide (48≤c1))) hb)) Z) (qe Z (zi ?_))))))))))
 cases H
 exact ⟨U,.inl Z,U⟩
theorem y2w (l:Bs) (c r:Int) (H:z09 l c=some r):Fn Tryz.prog 123 [vstr l,vval (.int .u8 c)] (zu [vint r]):=by
 cases H
 refine y3r (by kernel_rfl) fun M w vs h => ?_
 have h1:=kr (us:=[.string ⟨l.toArray⟩,.int .u8 c]) h
 subst h1
 refine (Tryz.strings_IndexByte ⟨l.toArray⟩ c w).mono ?_
 rintro e w' ⟨rfl,rfl⟩
 exact ⟨_,Z,Z,Kp.refl _ _⟩
theorem w0x (c1:Int) (r:(Bool)) (H:z8b c1=some r):Fn Tryz.prog 157 [vval (.int .u8 c1)] (zu [ze r]):=by
 refine ⟨by kernel_rfl,yh (us:=[ze r]) Tryz.func157 Z Z Z Z fun X hN => ?_⟩
 unfold z8b at H
 refine zb hN Z (qe Z (yd (ι:=Bool) (fun i=>[(2,.dat (ze i))]) (fun i=>[]) (fun i=>z3p i=some r) (fun i=>Z) ?_ ?_))
 ·skip
  refine zp hN Z (qd Z (bE H fun r2 h3 H=>za (zk (y6h c1 r2 h3) ⟨.inl Z,U⟩) (qd Z (yi (j:=2) Z Z (fun h4 => ?_) (fun h4 => ?_) Z))))
  ·refine u3 h4 H fun h5 H=>zf Z Z h4 (zd (.dat _) Z) (bE H fun r6 h7 H=>zf Z Z h4 (zk (y2y c1 r6 h7) ⟨.inl Z,U⟩) (za (ye Z (bFF h5) Z) (qd Z (yi (j:=6) Z Z (fun h8 => ?_) (fun h8 => ?_) Z))))
   ·exact u3 h8 H fun h9 H=>zf Z Z h8 (zd (.dat _) Z) (bE H fun r10 h11 H=>zf Z Z h8 (zk (y2w [33,35,36,37,38,39,42,43,45,46,94,95,96,124,126] c1 r10 h11) ⟨.inl Z,.inl Z,U⟩) (zf Z Z h8 (wt Z Z) (za (ye Z (bFF h9) Z) (qe Z ⟨decide (0≤r10),H,⟨Z,U⟩,U⟩))))
   ·exact u4 h8 H fun h12 H=>zc Z Z h8 (zc Z Z h8 (zc Z Z h8 (za (yf Z (bTT h12) Z) (qe Z ⟨true,H,⟨Z,U⟩,U⟩))))
  ·exact u4 h4 H fun h13 H=>zc Z Z h4 (zc Z Z h4 (za (yf Z (bTT h13) Z) (qd Z (zc Z Z Z (zc Z Z Z (zc Z Z Z (za (yf Z Z Z) (qe Z ⟨true,H,⟨Z,U⟩,U⟩))))))))
 ·rintro v14 H
  replace H:z3p v14=some r:=H
  unfold z3p at H
  refine zi ?_
  cases H
  exact ⟨U,.inl Z,U⟩
theorem y2z (s1:Bs) (r:(Bool)) (H:Wq s1=some r):Fn Tryz.prog 101 [vstr s1] (zu [ze r]):=by
 refine ⟨by kernel_rfl,yh (us:=[ze r]) Tryz.func101 Z Z Z Z fun X hN => ?_⟩
 unfold Wq at H
 refine zb hN Z (qe Z (zh (zb hN Z (qd Z (za (qj tyU9 Z) (qd Z (zw (gE H fun h4 H=>qw (fun (k2:Nat) (s:Unit)=>[(0,.dat (vstr s1)),(5,.dat (vint (s1.length:Int))),(6,.dat (vint (k2:Int)))]) (fun (k2:Nat) (s:Unit)=>[]) () H ⟨Z,Z,Z,U⟩ U (fun _ _=>Z) ?_ ?_))))))))
 ·rintro ⟨⟩ H
  replace H:y5w s1=some r:=H
  unfold y5w at H
  refine zb hN Z (za (zx Z Z) (zh (zg _ Z (fun h=>(lt_t h).elim) (fun h => ?_))))
  refine yt (zb hN Z (qd Z (za (ji Z Z) (qd Z (yz Z Z (fun hc=>zd (.dat _) Z) (yz Z Z (fun hc=>qj tyU9 (cnd (c:=(decide (s1≠[]))) hc)) (yz Z Z (fun hc=>wi (cnd (c:=(decide (s1≠[]))) hc) Z) (za (wm Z (fun hb=>(cnd (c:=(decide (s1≠[]))) hb)) Z) (qe Z (zi ?_))))))))))
  cases H
  exact ⟨U,.inl Z,U⟩
 ·rintro k2 x5 ⟨⟩ q3 h6 h7 H hq3
  replace H:y16 k2 x5=some q3:=H
  unfold y16 at H
  refine zb hN Z (za (zx Z Z) (zh (zg _ Z (fun h => ?_) (fun h=>(lt_f h6 h).elim))))
  refine zl (zh (zw (zb hN Z (qd Z (qe Z (zb hN Z (qd Z (qd Z (za (qy tyU9 Z Z h7) (bE H fun r8 h9 H=>za (zk (w0x (x5.toNat:Int) r8 h9) ⟨.inl Z,U⟩) (za (yq Z) (zg _ Z (fun h10 => ?_) (fun h10 => ?_)))))))))))))
  ·refine tE h10 H fun H=>zb hN Z (qe Z (zi ?_))
   replace H:=retl H hq3
   cases H
   exact ⟨U,.inl Z,U⟩
  ·exact fE h10 H fun H=>zl (zp hN Z (za (qs Z Z (by omega)) (qd Z ⟨_,yx H,⟨Z,Z,Z,U⟩,U⟩)))
theorem z1q (s p:Bs) (r:Bs×Bs×Bool) (H:km s p=some r):Fn Tryz.prog 78 [vstr s,vstr p] (zu [vstr r.1,vstr r.2.1,ze r.2.2]):=by
 unfold km at H
 obtain ⟨h1,h2⟩:=gif H
 cases h2
 refine Zh (by kernel_rfl) fun M w vs hM h => ?_
 have hv:=kr (us:=[.string ⟨s.toArray⟩,.string ⟨p.toArray⟩]) h
 subst hv
 obtain ⟨m,hm⟩:=y19 hM
 refine (Tryz.strings_Cut ⟨s.toArray⟩ ⟨p.toArray⟩ m w (by simp [ByteArray.size]; omega) hm).mono ?_
 rintro e w' ⟨rfl,n,rfl⟩
 refine ⟨_,Z,⟨[_,_,_],Z,Z,fun j u hj => ?_⟩,⟨Z,Z,Z,Nat.le_refl _,fun _ _ _=>Z⟩⟩
 rcases j with _ | _ | _ | j
 ·cases hj; exact ⟨_,Z,Z⟩
 ·cases hj; exact ⟨_,Z,Z⟩
 ·cases hj; exact ⟨_,Z,Z⟩
 ·simp at hj

theorem x99 (s sep:Bs) (r:List Bs) (H:jq s sep=some r):FnG Tryz.prog 80 [.dat (vstr s),.dat (vstr sep)] [] (.row 900 r.length) [(900,.row 9 1 (List.map zr r))]:=by
 obtain ⟨h1,h2,rfl⟩:=x7l H
 have hlen:=Lib.splitB_all ⟨sep.toArray⟩ (by simpa [ByteArray.size] using h2) 0 _ ⟨s.toArray⟩ Z
 have hle:=Lib.countB_le ⟨sep.toArray⟩ (by simpa [ByteArray.size] using h2) _ ⟨s.toArray⟩ (Nat.le_refl _)
 refine w3h (args:=[vstr s,vstr sep]) (Zp s sep) (by kernel_rfl) (fun M w vs hM hvs => ?_) ?_
 ·have hv:=kr (us:=[.string ⟨s.toArray⟩,.string ⟨sep.toArray⟩]) hvs
  subst hv
  obtain ⟨m,hm⟩:=y19 hM
  refine (Tryz.strings_Split ⟨s.toArray⟩ ⟨sep.toArray⟩ m w (by simp [ByteArray.size]; omega) hm (by simpa [ByteArray.size] using h2)).mono ?_
  rintro e w' ⟨rfl,rfl⟩
  have e1:(Zp s sep).length=Lib.countB ⟨s.toArray⟩ ⟨sep.toArray⟩+1:=by unfold Zp; rw [List.length_map,hlen]
  have e2:((Zp s sep).map fun s=>Value.string ⟨s.toArray⟩)=(Lib.splitB ⟨sep.toArray⟩ 0 (Lib.countB ⟨s.toArray⟩ ⟨sep.toArray⟩) ⟨s.toArray⟩).map Value.string:=by
   unfold Zp
   rw [List.map_map]
   exact List.map_congr_left fun b _=>by simp
  rw [e1,e2]
  exact ⟨Z,Z⟩
 ·unfold Zp maxLen
  rw [List.length_map,hlen]
  have hsz:(ByteArray.mk s.toArray).size=s.length:=by simp [ByteArray.size]
  rw [hsz] at hle
  omega
theorem Qb (s sep:Bs) (r:List Bs) (H:jq s sep=some r):Fn Tryz.prog 80 [vstr s,vstr sep] (zu [vlst (List.map zr r)]):=by
 have h:=x99 s sep r H
 rw [← List.length_map (f:=zr)] at h
 exact w3g h
theorem x1o (s p:Bs) (r:Bs) (H:z32 s p=some r):Fn Tryz.prog 131 [vstr s,vstr p] (zu [vstr r]):=by
 unfold z32 at H
 cases H
 refine Zh (by kernel_rfl) fun M w vs hM h => ?_
 have hv:=kr (us:=[.string ⟨s.toArray⟩,.string ⟨p.toArray⟩]) h
 subst hv
 refine (Tryz.strings_TrimPrefix ⟨s.toArray⟩ ⟨p.toArray⟩ w).mono ?_
 rintro e w' ⟨rfl,rfl⟩
 exact ⟨_,Z,Z,Kp.refl _ _⟩

theorem um (c1:Int) (r:(Int)) (H:kn c1=some r):Fn Tryz.prog 271 [vval (.int .u8 c1)] (zu [vval (.int .u8 r)]):=by
 refine ⟨by kernel_rfl,yh (us:=[vval (.int .u8 r)]) Tryz.func271 Z Z Z Z fun X hN => ?_⟩
 unfold kn at H
 refine zb hN Z (qe Z (zb hN Z (qd Z (za (ya (x6x Z Z) Z) (qe Z (zi ?_))))))
 cases H
 exact ⟨U,.inl Z,U⟩
theorem w1d (v1:Bs) (r:(Bool)) (H:y55 v1=some r):Fn Tryz.prog 272 [vstr v1] (zu [ze r]):=by
 refine ⟨by kernel_rfl,yh (us:=[ze r]) Tryz.func272 Z Z Z Z fun X hN => ?_⟩
 unfold y55 at H
 refine zb hN Z (qe Z (zb hN Z (qe Z (zb hN Z (qe Z (yd (ι:=Bs) (fun i=>[(0,.dat (vstr i)),(3,.dat (vval (.int .i32 94))),(4,.dat (vint 0))]) (fun i=>[]) (fun i=>z9c i=some r) (fun i=>Z) ?_ ?_))))))
 ·skip
  refine yd (ι:=Bool) (fun i=>[(0,.dat (vstr v1)),(3,.dat (vval (.int .i32 94))),(4,.dat (vint 0)),(18,.dat (ze i))]) (fun i=>[]) (fun i=>z5k v1 i=some r) (fun i=>Z) ?_ ?_
  ·skip
   refine zp hN Z (qd Z (za (qj tyU9 Z) (za (wt Z Z) (qd Z (yi (j:=3) Z Z (fun h2 => ?_) (fun h2 => ?_) Z)))))
   ·refine u1 h2 H fun h3 H=>zf Z Z h2 (zd (.dat _) Z) (bE H fun x4 h5 H=>zf Z Z h2 (qy tyU9 Z Z h5) (zf Z Z h2 (qf Z Z) (zf Z Z h2 (zd (.dat _) Z) (yi (j:=7) Z Z (fun h6 => ?_) (fun h6 => ?_) Z))))
    ·exact u3 h6 H fun h7 H=>zf Z Z h6 (zd (.dat _) Z) (zf Z Z h6 (qy tyU9 Z Z h5) (zf Z Z h6 (qf Z Z) (zf Z Z h2 (ye Z (bFF h7) Z) (za (yf Z (bTT h3) Z) ⟨decide ((x4.toNat:Int)=43),H,⟨Z,Z,Z,Z,U⟩,U⟩))))
    ·exact u4 h6 H fun h8 H=>zc Z Z h6 (zc Z Z h6 (zc Z Z h6 (zf Z Z h2 (yf Z (bTT h8) Z) (za (yf Z (bTT h3) Z) ⟨true,H,⟨Z,Z,Z,Z,U⟩,U⟩))))
   ·exact u2 h2 H fun h9 H=>zc Z Z h2 (zc Z Z h2 (zc Z Z h2 (zc Z Z h2 (yk Z Z (yk Z Z (yk Z Z (zc Z Z h2 (za (ye Z (bFF h9) Z) ⟨false,H,⟨Z,Z,Z,Z,U⟩,U⟩))))))))
  ·rintro v10 H
   replace H:z5k v1 v10=some r:=H
   unfold z5k at H
   refine zg _ Z (fun h11 => ?_) (fun h11 => ?_)
   ·exact tE h11 H fun H=>zp hN Z (qd Z (bE H fun l12 h13 H=>za (jc tyU9 Z Z Z h13) (qe Z ⟨l12,H,⟨Z,Z,Z,U⟩,U⟩)))
   ·exact fE h11 H fun H=>zl ⟨v1,H,⟨Z,Z,Z,U⟩,U⟩
 ·rintro v14 H
  replace H:z9c v14=some r:=H
  unfold z9c at H
  refine zb hN Z (qe Z (yd (ι:=Int×Int×Bool) (fun i=>[(0,.dat (vstr v14)),(3,.dat (vval (.int .i32 i.1))),(4,.dat (vint i.2.1)),(5,.dat (ze i.2.2))]) (fun i=>[]) (fun i=>z9b v14 i.1 i.2.1 i.2.2=some r) (fun i=>Z) ?_ ?_))
  ·skip
   refine yd (ι:=Bool) (fun i=>[(0,.dat (vstr v14)),(3,.dat (vval (.int .i32 94))),(4,.dat (vint 0)),(5,.dat (ze false)),(46,.dat (ze i))]) (fun i=>[]) (fun i=>z0b v14 i=some r) (fun i=>Z) ?_ ?_
   ·skip
    refine zp hN Z (qd Z (za (qj tyU9 Z) (za (wt Z Z) (qd Z (yi (j:=3) Z Z (fun h15 => ?_) (fun h15 => ?_) Z)))))
    ·refine u1 h15 H fun h16 H=>zf Z Z h15 (zd (.dat _) Z) (bE H fun x17 h18 H=>zf Z Z h15 (qy tyU9 Z Z h18) (zf Z Z h15 (qf Z Z) (za (yf Z (bTT h16) Z) (qd Z (yi (j:=8) Z Z (fun h19 => ?_) (fun h19 => ?_) Z)))))
     ·refine u1 h19 H fun h20 H=>zf Z Z h19 (zd (.dat _) Z) (bE H fun x21 h22 H=>zf Z Z h19 (qy tyU9 Z Z h22) (bE H fun r23 h24 H=>zf Z Z h19 (zk (um (x21.toNat:Int) r23 h24) ⟨.inl Z,U⟩) (zf Z Z h19 (qf Z Z) (zf Z Z h19 (zd (.dat _) Z) (yi (j:=13) Z Z (fun h25 => ?_) (fun h25 => ?_) Z)))))
      ·refine u3 h25 H fun h26 H=>zf Z Z h25 (zd (.dat _) Z) (zf Z Z h25 (qy tyU9 Z Z h22) (bE H fun r27 h28 H=>zf Z Z h25 (zk (um (x21.toNat:Int) r27 h28) ⟨.inl Z,U⟩) (zf Z Z h25 (qf Z Z) (zf Z Z h19 (ye Z (bFF h26) Z) (zf Z Z h19 (zd (.dat _) Z) (yi (j:=19) Z Z (fun h29 => ?_) (fun h29 => ?_) Z))))))
       ·exact u3 h29 H fun h30 H=>zf Z Z h29 (zd (.dat _) Z) (zf Z Z h29 (qy tyU9 Z Z h22) (bE H fun r31 h32 H=>zf Z Z h29 (zk (um (x21.toNat:Int) r31 h32) ⟨.inl Z,U⟩) (zf Z Z h29 (qf Z Z) (zf Z Z h19 (ye Z (bFF h30) Z) (za (yf Z (bTT h20) Z) ⟨decide (r31=120),H,⟨Z,Z,Z,Z,Z,U⟩,U⟩)))))
       ·exact u4 h29 H fun h33 H=>zc Z Z h29 (zc Z Z h29 (zc Z Z h29 (zc Z Z h29 (zf Z Z h19 (yf Z (bTT h33) Z) (za (yf Z (bTT h20) Z) ⟨true,H,⟨Z,Z,Z,Z,Z,U⟩,U⟩)))))
      ·exact u4 h25 H fun h34 H=>zc Z Z h25 (zc Z Z h25 (zc Z Z h25 (zc Z Z h25 (zf Z Z h19 (yf Z (bTT h34) Z) (zf Z Z h19 (zd (.dat _) Z) (zc Z Z Z (zc Z Z Z (zc Z Z Z (zc Z Z Z (zf Z Z h19 (yf Z Z Z) (za (yf Z (bTT h20) Z) ⟨true,H,⟨Z,Z,Z,Z,Z,U⟩,U⟩)))))))))))
     ·exact u2 h19 H fun h35 H=>zc Z Z h19 (zc Z Z h19 (zc Z Z h19 (zc Z Z h19 (zc Z Z h19 (yk Z Z (yk Z Z (yk Z Z (yk Z Z (zc Z Z h19 (zc Z Z h19 (yk Z Z (yk Z Z (yk Z Z (yk Z Z (zc Z Z h19 (za (ye Z (bFF h35) Z) ⟨false,H,⟨Z,Z,Z,Z,Z,U⟩,U⟩))))))))))))))))
    ·exact u2 h15 H fun h36 H=>zc Z Z h15 (zc Z Z h15 (zc Z Z h15 (za (ye Z (bFF h36) Z) (qd Z (zc Z Z Z (zc Z Z Z (zc Z Z Z (zc Z Z Z (zc Z Z Z (yk Z Z (yk Z Z (yk Z Z (yk Z Z (zc Z Z Z (zc Z Z Z (yk Z Z (yk Z Z (yk Z Z (yk Z Z (zc Z Z Z (za (ye Z Z Z) ⟨false,H,⟨Z,Z,Z,Z,Z,U⟩,U⟩)))))))))))))))))))))
   ·rintro v37 H
    replace H:z0b v14 v37=some r:=H
    unfold z0b at H
    refine zg _ Z (fun h38 => ?_) (fun h38 => ?_)
    ·exact tE h38 H fun H=>zb hN Z (qe Z (zb hN Z (qe Z (zp hN Z (qd Z (bE H fun x39 h40 H=>za (qy tyU9 Z Z h40) (bE H fun r41 h42 H=>za (zk (um (x39.toNat:Int) r41 h42) ⟨.inl Z,U⟩) (za (qf Z Z) (qe Z ⟨(48,2,decide (r41=120)),H,⟨Z,Z,Z,Z,U⟩,U⟩)))))))))
    ·exact fE h38 H fun H=>zl ⟨(94,0,false),H,⟨Z,Z,Z,Z,U⟩,U⟩
  ·rintro ⟨v43,v44,v45⟩ H
   replace H:z9b v14 v43 v44 v45=some r:=H
   unfold z9b at H
   refine yd (ι:=Int) (fun i=>[(3,.dat (vval (.int .i32 i)))]) (fun i=>[]) (fun i=>y25 i=some r) (fun i=>Z) ?_ ?_
   ·skip
    refine zw (un (fun (s:Int×Int)=>[(0,.dat (vstr v14)),(3,.dat (vval (.int .i32 s.1))),(4,.dat (vint s.2)),(5,.dat (ze v45))]) (fun (s:Int×Int)=>[]) (v43,v44) H ⟨Z,Z,Z,Z,U⟩ U (fun _=>Z) ?_)
    rintro ⟨v46,v47⟩ q48 H hq48
    replace H:y6x v14 v45 v46 v47=some q48:=H
    unfold y6x at H
    refine zh (zb hN Z (qd Z (qd Z (za (qj tyU9 Z) (za (zx Z Z) (zg _ Z (fun h49 => ?_) (fun h49 => ?_)))))))
    ·refine tE h49 H fun H=>zl (yd (ι:=Int) (fun i=>[(0,.dat (vstr v14)),(3,.dat (vval (.int .i32 i))),(4,.dat (vint v47)),(5,.dat (ze v45))]) (fun i=>[]) (fun i=>z5j v47 i=some q48) (fun i=>Z) ?_ ?_)
     ·skip
      refine zw (zh (yd (ι:=Bool) (fun i=>[(0,.dat (vstr v14)),(3,.dat (vval (.int .i32 v46))),(4,.dat (vint v47)),(5,.dat (ze v45)),(83,.dat (ze i))]) (fun i=>[]) (fun i=>Yd v14 v46 v47 i=some q48) (fun i=>Z) ?_ ?_))
      ·skip
       refine zp hN Z (qd Z (qd Z (bE H fun x50 h51 H=>za (kh tyU9 Z Z h51) (za (wi Z Z) (qd Z (yi (j:=4) Z Z (fun h52 => ?_) (fun h52 => ?_) Z))))))
       ·refine u1 h52 H fun h53 H=>zf Z Z h52 (zd (.dat _) Z) (zf Z Z h52 (zd (.dat _) Z) (zf Z Z h52 (kh tyU9 Z Z h51) (zf Z Z h52 (wi Z Z) (za (yf Z (bTT h53) Z) (qd Z (yi (j:=10) Z Z (fun h54 => ?_) (fun h54 => ?_) Z))))))
        ·refine u3 h54 H fun h55 H=>zf Z Z h54 (zd (.dat _) Z) (zf Z Z h54 (zd (.dat _) Z) (yi (j:=12) Z Z (fun h56 => ?_) (fun h56 => ?_) Z))
         ·refine u1 h56 H fun h57 H=>zf Z Z h56 (zd (.dat _) Z) (zf Z Z h56 (zd (.dat _) Z) (zf Z Z h56 (kh tyU9 Z Z h51) (bE H fun r58 h59 H=>zf Z Z h56 (zk (um (x50.toNat:Int) r58 h59) ⟨.inl Z,U⟩) (zf Z Z h56 (wi Z Z) (zf Z Z h54 (yf Z (bTT h57) Z) (zf Z Z h54 (zd (.dat _) Z) (yi (j:=19) Z Z (fun h60 => ?_) (fun h60 => ?_) Z)))))))
          ·exact u1 h60 H fun h61 H=>zf Z Z h60 (zd (.dat _) Z) (zf Z Z h60 (zd (.dat _) Z) (zf Z Z h60 (kh tyU9 Z Z h51) (bE H fun r62 h63 H=>zf Z Z h60 (zk (um (x50.toNat:Int) r62 h63) ⟨.inl Z,U⟩) (zf Z Z h60 (wi Z Z) (zf Z Z h54 (yf Z (bTT h61) Z) (za (ye Z (bFF h55) Z) ⟨decide (r62≤102),H,⟨Z,Z,Z,Z,Z,U⟩,U⟩))))))
          ·exact u2 h60 H fun h64 H=>zc Z Z h60 (zc Z Z h60 (zc Z Z h60 (zc Z Z h60 (zc Z Z h60 (zf Z Z h54 (ye Z (bFF h64) Z) (za (ye Z (bFF h55) Z) ⟨false,H,⟨Z,Z,Z,Z,Z,U⟩,U⟩))))))
         ·exact u2 h56 H fun h65 H=>zc Z Z h56 (zc Z Z h56 (zc Z Z h56 (zc Z Z h56 (zc Z Z h56 (zf Z Z h54 (ye Z (bFF h65) Z) (zf Z Z h54 (zd (.dat _) Z) (zc Z Z Z (zc Z Z Z (zc Z Z Z (zc Z Z Z (zc Z Z Z (zf Z Z h54 (ye Z Z Z) (za (ye Z (bFF h55) Z) ⟨false,H,⟨Z,Z,Z,Z,Z,U⟩,U⟩)))))))))))))
        ·exact u4 h54 H fun h66 H=>zc Z Z h54 (zc Z Z h54 (yk Z Z (yk Z Z (yk Z Z (yk Z Z (yk Z Z (zc Z Z h54 (zc Z Z h54 (yk Z Z (yk Z Z (yk Z Z (yk Z Z (yk Z Z (zc Z Z h54 (za (yf Z (bTT h66) Z) ⟨true,H,⟨Z,Z,Z,Z,Z,U⟩,U⟩)))))))))))))))
       ·refine u2 h52 H fun h67 H=>zc Z Z h52 (zc Z Z h52 (zc Z Z h52 (zc Z Z h52 (za (ye Z (bFF h67) Z) (qd Z (zf Z Z Z (zd (.dat _) Z) (zf Z Z Z (zd (.dat _) Z) (yi (j:=12) Z Z (fun h68 => ?_) (fun h68 => ?_) Z))))))))
        ·refine u1 h68 H fun h69 H=>zf Z Z h68 (zd (.dat _) Z) (zf Z Z h68 (zd (.dat _) Z) (zf Z Z h68 (kh tyU9 Z Z h51) (bE H fun r70 h71 H=>zf Z Z h68 (zk (um (x50.toNat:Int) r70 h71) ⟨.inl Z,U⟩) (zf Z Z h68 (wi Z Z) (zf Z Z Z (yf Z (bTT h69) Z) (zf Z Z Z (zd (.dat _) Z) (yi (j:=19) Z Z (fun h72 => ?_) (fun h72 => ?_) Z)))))))
         ·exact u1 h72 H fun h73 H=>zf Z Z h72 (zd (.dat _) Z) (zf Z Z h72 (zd (.dat _) Z) (zf Z Z h72 (kh tyU9 Z Z h51) (bE H fun r74 h75 H=>zf Z Z h72 (zk (um (x50.toNat:Int) r74 h75) ⟨.inl Z,U⟩) (zf Z Z h72 (wi Z Z) (zf Z Z Z (yf Z (bTT h73) Z) (za (ye Z Z Z) ⟨decide (r74≤102),H,⟨Z,Z,Z,Z,Z,U⟩,U⟩))))))
         ·exact u2 h72 H fun h76 H=>zc Z Z h72 (zc Z Z h72 (zc Z Z h72 (zc Z Z h72 (zc Z Z h72 (zf Z Z Z (ye Z (bFF h76) Z) (za (ye Z Z Z) ⟨false,H,⟨Z,Z,Z,Z,Z,U⟩,U⟩))))))
        ·exact u2 h68 H fun h77 H=>zc Z Z h68 (zc Z Z h68 (zc Z Z h68 (zc Z Z h68 (zc Z Z h68 (zf Z Z Z (ye Z (bFF h77) Z) (zf Z Z Z (zd (.dat _) Z) (zc Z Z Z (zc Z Z Z (zc Z Z Z (zc Z Z Z (zc Z Z Z (zf Z Z Z (ye Z Z Z) (za (ye Z Z Z) ⟨false,H,⟨Z,Z,Z,Z,Z,U⟩,U⟩)))))))))))))
      ·rintro v78 H
       replace H:Yd v14 v46 v47 v78=some q48:=H
       unfold Yd at H
       refine zg _ Z (fun h79 => ?_) (fun h79 => ?_)
       ·exact tE h79 H fun H=>zb hN Z (qe Z (yt ⟨48,H,⟨Z,Z,Z,Z,U⟩,U⟩))
       ·refine fE h79 H fun H=>zl (zh (zb hN Z (qd Z (qd Z (bE H fun x80 h81 H=>za (kh tyU9 Z Z h81) (za (qf Z Z) (zg _ Z (fun h82 => ?_) (fun h82 => ?_))))))))
        ·refine tE h82 H fun H=>zh (zb hN Z (qd Z (za (qp Z Z) (zg _ Z (fun h83 => ?_) (fun h83 => ?_)))))
         ·refine tE h83 H fun H=>zb hN Z (qe Z (zi ?_))
          replace H:=retl H hq48
          cases H
          exact ⟨U,.inl Z,U⟩
         ·exact fE h83 H fun H=>zl (zb hN Z (qe Z (yt ⟨95,H,⟨Z,Z,Z,Z,U⟩,U⟩)))
        ·refine fE h82 H fun H=>zl (zh (zb hN Z (qd Z (za (qf Z Z) (zg _ Z (fun h84 => ?_) (fun h84 => ?_))))))
         ·refine tE h84 H fun H=>zb hN Z (qe Z (zi ?_))
          replace H:=retl H hq48
          cases H
          exact ⟨U,.inl Z,U⟩
         ·exact fE h84 H fun H=>zl (zp hN Z (qe Z ⟨33,H,⟨Z,Z,Z,Z,U⟩,U⟩))
     ·rintro v85 H
      replace H:z5j v47 v85=some q48:=H
      unfold z5j at H
      exact zp hN Z (qd Z (za (yj _ Z Z (.inl ⟨Z,Z⟩)) (qe Z ⟨_,yx H,⟨Z,Z,Z,Z,U⟩,U⟩)))
    ·refine fE h49 H fun H=>yt ?_
     replace H:=outl H hq48
     exact ⟨v46,H,⟨Z,U⟩,U⟩
   ·rintro v86 H
    replace H:y25 v86=some r:=H
    unfold y25 at H
    refine zb hN Z (qd Z (za (qp Z Z) (qe Z (zi ?_))))
    cases H
    exact ⟨U,.inl Z,U⟩
theorem x2m (v1:Bs) (v2:Int) (v3:Int) (r:(Int×Int)) (H:z4l v1 v2 v3=some r):Fn Tryz.prog 262 [vstr v1,vint v2,vint v3] (zu [vval (.int .u64 r.1),verr r.2]):=by
 refine ⟨by kernel_rfl,yh (us:=[vval (.int .u64 r.1),verr r.2]) Tryz.func262 Z Z Z Z fun X hN => ?_⟩
 unfold z4l at H
 refine zb hN Z (qe Z (qe Z (zh (zb hN Z (qd Z (za (va Z Z) (zg _ Z (fun h4 => ?_) (fun h4 => ?_))))))))
 ·refine tE h4 H fun H=>zb hN Z (za (ya (u':=verr 2) (ug (show Tryz.prog.underlying 222=some (.int .i64) from by kernel_rfl) Z) Z) ?_)
  refine qe Z (qe Z (zi ?_))
  cases H
  exact ⟨U,.inl Z,.inl Z,U⟩
 ·refine fE h4 H fun H=>zl (zb hN Z (qd Z (za (qf Z Z) (qe Z (zb hN Z (qd Z (qe Z (yd (ι:=Bs×Int) (fun i=>[(0,.dat (vstr i.1)),(1,.dat (vint i.2)),(2,.dat (vint v3)),(8,.dat (ze (decide (v2=0)))),(9,.dat (vstr v1))]) (fun i=>[]) (fun i=>Qf v1 v2 v3 i.1 i.2=some r) (fun i=>Z) ?_ ?_))))))))
  ·skip
   refine zw (zb hN Z (qd Z (za (wi Z Z) (qd Z (yz Z Z (fun hc=>zd (.dat _) Z) (yz Z Z (fun hc=>wi (cnd (c:=(decide (2≤v2))) hc) Z) (za (wm Z (fun hb=>(cnd (c:=(decide (2≤v2))) hb)) Z) (qe Z (zg _ Z (fun h5 => ?_) (fun h5 => ?_))))))))))
   ·exact tE h5 H fun H=>zl ⟨(v1,v2),H,⟨Z,Z,Z,Z,Z,U⟩,U⟩
   ·refine fE h5 H fun H=>zb hN Z (qd Z (za (qf Z Z) (qe Z (zg _ Z (fun h6 => ?_) (fun h6 => ?_)))))
    ·refine tE h6 H fun H=>zb hN Z (qe Z (zb hN Z (qd Z (bE H fun x7 h8 H=>za (qy tyU9 Z Z h8) (za (qf Z Z) (zg _ Z (fun h9 => ?_) (fun h9 => ?_)))))))
     ·refine tE h9 H fun H=>zw (yd (ι:=Bool) (fun i=>[(0,.dat (vstr v1)),(2,.dat (vint v3)),(8,.dat (ze (decide (v2=0)))),(9,.dat (vstr v1)),(40,.dat (ze i))]) (fun i=>[]) (fun i=>z9h v1 v2 v3 i=some r) (fun i=>Z) ?_ ?_)
      ·skip
       refine zp hN Z (qd Z (za (qj tyU9 Z) (za (wt Z Z) (qd Z (yi (j:=3) Z Z (fun h10 => ?_) (fun h10 => ?_) Z)))))
       ·exact u1 h10 H fun h11 H=>zf Z Z h10 (zd (.dat _) Z) (bE H fun x12 h13 H=>zf Z Z h10 (qy tyU9 Z Z h13) (bE H fun r14 h15 H=>zf Z Z h10 (zk (um (x12.toNat:Int) r14 h15) ⟨.inl Z,U⟩) (zf Z Z h10 (qf Z Z) (za (yf Z (bTT h11) Z) (qe Z ⟨decide (r14=98),H,⟨Z,Z,Z,Z,Z,U⟩,U⟩)))))
       ·exact u2 h10 H fun h16 H=>zc Z Z h10 (zc Z Z h10 (zc Z Z h10 (zc Z Z h10 (za (ye Z (bFF h16) Z) (qe Z ⟨false,H,⟨Z,Z,Z,Z,Z,U⟩,U⟩)))))
      ·rintro v17 H
       replace H:z9h v1 v2 v3 v17=some r:=H
       unfold z9h at H
       refine zg _ Z (fun h18 => ?_) (fun h18 => ?_)
       ·exact tE h18 H fun H=>zb hN Z (qe Z (zp hN Z (qd Z (bE H fun l19 h20 H=>za (jc tyU9 Z Z Z h20) (qe Z ⟨(l19,2),H,⟨Z,Z,Z,Z,Z,U⟩,U⟩)))))
       ·refine fE h18 H fun H=>yd (ι:=Bool) (fun i=>[(0,.dat (vstr v1)),(2,.dat (vint v3)),(8,.dat (ze (decide (v2=0)))),(9,.dat (vstr v1)),(52,.dat (ze i))]) (fun i=>[]) (fun i=>z9g v1 v2 v3 i=some r) (fun i=>Z) ?_ ?_
        ·skip
         refine zp hN Z (qd Z (za (qj tyU9 Z) (za (wt Z Z) (qd Z (yi (j:=3) Z Z (fun h21 => ?_) (fun h21 => ?_) Z)))))
         ·exact u1 h21 H fun h22 H=>zf Z Z h21 (zd (.dat _) Z) (bE H fun x23 h24 H=>zf Z Z h21 (qy tyU9 Z Z h24) (bE H fun r25 h26 H=>zf Z Z h21 (zk (um (x23.toNat:Int) r25 h26) ⟨.inl Z,U⟩) (zf Z Z h21 (qf Z Z) (za (yf Z (bTT h22) Z) (qe Z ⟨decide (r25=111),H,⟨Z,Z,Z,Z,Z,U⟩,U⟩)))))
         ·exact u2 h21 H fun h27 H=>zc Z Z h21 (zc Z Z h21 (zc Z Z h21 (zc Z Z h21 (za (ye Z (bFF h27) Z) (qe Z ⟨false,H,⟨Z,Z,Z,Z,Z,U⟩,U⟩)))))
        ·rintro v28 H
         replace H:z9g v1 v2 v3 v28=some r:=H
         unfold z9g at H
         refine zg _ Z (fun h29 => ?_) (fun h29 => ?_)
         ·exact tE h29 H fun H=>zb hN Z (qe Z (zp hN Z (qd Z (bE H fun l30 h31 H=>za (jc tyU9 Z Z Z h31) (qe Z ⟨(l30,8),H,⟨Z,Z,Z,Z,Z,U⟩,U⟩)))))
         ·refine fE h29 H fun H=>yd (ι:=Bool) (fun i=>[(0,.dat (vstr v1)),(2,.dat (vint v3)),(8,.dat (ze (decide (v2=0)))),(9,.dat (vstr v1)),(64,.dat (ze i))]) (fun i=>[]) (fun i=>z9f v1 v2 v3 i=some r) (fun i=>Z) ?_ ?_
          ·skip
           refine zp hN Z (qd Z (za (qj tyU9 Z) (za (wt Z Z) (qd Z (yi (j:=3) Z Z (fun h32 => ?_) (fun h32 => ?_) Z)))))
           ·exact u1 h32 H fun h33 H=>zf Z Z h32 (zd (.dat _) Z) (bE H fun x34 h35 H=>zf Z Z h32 (qy tyU9 Z Z h35) (bE H fun r36 h37 H=>zf Z Z h32 (zk (um (x34.toNat:Int) r36 h37) ⟨.inl Z,U⟩) (zf Z Z h32 (qf Z Z) (za (yf Z (bTT h33) Z) (qe Z ⟨decide (r36=120),H,⟨Z,Z,Z,Z,Z,U⟩,U⟩)))))
           ·exact u2 h32 H fun h38 H=>zc Z Z h32 (zc Z Z h32 (zc Z Z h32 (zc Z Z h32 (za (ye Z (bFF h38) Z) (qe Z ⟨false,H,⟨Z,Z,Z,Z,Z,U⟩,U⟩)))))
          ·rintro v39 H
           replace H:z9f v1 v2 v3 v39=some r:=H
           unfold z9f at H
           refine zg _ Z (fun h40 => ?_) (fun h40 => ?_)
           ·exact tE h40 H fun H=>zb hN Z (qe Z (zp hN Z (qd Z (bE H fun l41 h42 H=>za (jc tyU9 Z Z Z h42) (qe Z ⟨(l41,16),H,⟨Z,Z,Z,Z,Z,U⟩,U⟩)))))
           ·exact fE h40 H fun H=>zb hN Z (qe Z (zp hN Z (qd Z (bE H fun l43 h44 H=>za (jc tyU9 Z Z Z h44) (qe Z ⟨(l43,8),H,⟨Z,Z,Z,Z,Z,U⟩,U⟩)))))
     ·exact fE h9 H fun H=>zl ⟨(v1,10),H,⟨Z,Z,Z,Z,Z,U⟩,U⟩
    ·refine fE h6 H fun H=>zb hN Z (za (ya (u':=verr 3) (ug (show Tryz.prog.underlying 222=some (.int .i64) from by kernel_rfl) Z) Z) ?_)
     refine qe Z (qe Z (zi ?_))
     cases H
     exact ⟨U,.inl Z,.inl Z,U⟩
  ·rintro ⟨v45,v46⟩ H
   replace H:Qf v1 v2 v3 v45 v46=some r:=H
   unfold Qf at H
   refine yd (ι:=Int) (fun i=>[(0,.dat (vstr v45)),(1,.dat (vint v46)),(2,.dat (vint i)),(8,.dat (ze (decide (v2=0)))),(9,.dat (vstr v1))]) (fun i=>[]) (fun i=>z9e v1 v2 v45 v46 i=some r) (fun i=>Z) ?_ ?_
   ·skip
    refine zb hN Z (qd Z (za (qf Z Z) (zg _ Z (fun h47 => ?_) (fun h47 => ?_))))
    ·exact tE h47 H fun H=>zp hN Z (qe Z ⟨64,H,⟨Z,Z,Z,Z,Z,U⟩,U⟩)
    ·refine fE h47 H fun H=>zb hN Z (qd Z (za (zx Z Z) (qd Z (yn Z Z (fun hc=>zd (.dat _) Z) (yn Z Z (fun hc=>wg (cnd (c:=(!(decide (v3 < 0)))) hc) Z) (za (wv Z Z (fun hb=>(cnd (c:=(!(decide (v3 < 0)))) (notI hb)))) (zg _ Z (fun h48 => ?_) (fun h48 => ?_))))))))
     ·refine tE h48 H fun H=>zb hN Z (za (ya (u':=verr 4) (ug (show Tryz.prog.underlying 222=some (.int .i64) from by kernel_rfl) Z) Z) ?_)
      refine qe Z (qe Z (zi ?_))
      cases H
      exact ⟨U,.inl Z,.inl Z,U⟩
     ·exact fE h48 H fun H=>zl ⟨v3,H,⟨Z,Z,Z,Z,Z,U⟩,U⟩
   ·rintro v49 H
    replace H:z9e v1 v2 v45 v46 v49=some r:=H
    unfold z9e at H
    refine zb hN Z (qe Z (yd (ι:=Int) (fun i=>[(0,.dat (vstr v45)),(1,.dat (vint v46)),(2,.dat (vint v49)),(8,.dat (ze (decide (v2=0)))),(9,.dat (vstr v1)),(10,.dat (vval (.int .u64 i)))]) (fun i=>[]) (fun i=>z5m v1 v2 v45 v46 v49 i=some r) (fun i=>Z) ?_ ?_))
    ·skip
     refine zb hN Z (qd Z (zw (zb hN Z (za (qf Z Z) (qe Z (zg _ Z (fun h50 => ?_) (fun h50 => ?_)))))))
     ·exact tE h50 H fun H=>zp hN Z (qe Z ⟨1844674407370955162,H,⟨Z,Z,Z,Z,Z,Z,U⟩,U⟩)
     ·refine fE h50 H fun H=>zb hN Z (za (qf Z Z) (qe Z (zg _ Z (fun h51 => ?_) (fun h51 => ?_))))
      ·exact tE h51 H fun H=>zp hN Z (qe Z ⟨1152921504606846976,H,⟨Z,Z,Z,Z,Z,Z,U⟩,U⟩)
      ·exact fE h51 H fun H=>zp hN Z (qd Z (za (jn tyU3 Yj Z) (gE H fun h52 H=>za (x6v Z Z h52) (za (yj _ Z Z (.inl ⟨Z,Z⟩)) (qe Z ⟨IntKind.wrap .u64 ((IntKind.wrap .u64 (Int.tdiv 18446744073709551615 (IntKind.wrap .u64 v46)))+1),H,⟨Z,Z,Z,Z,Z,Z,U⟩,U⟩)))))
    ·rintro v53 H
     replace H:z5m v1 v2 v45 v46 v49 v53=some r:=H
     unfold z5m at H
     refine zb hN Z (qd Z (za (jn tyU3 y0i Z) (gE H fun h54 H=>za (ya (y9i Z Z h54) Z) (za (yj _ Z Z (.inr (.inl ⟨Z,Z⟩))) (qe Z (zb hN Z (qe Z (zb hN Z (qe Z (zh (zb hN Z (qd Z (za (y9s (C:=ql) tyU9 Qr tyU5 (fun _=>Z) Z) (za (qi Qr Z) (qd Z (zw (gE H fun h59 H=>qw (fun (k57:Nat) (s:Bool×Int)=>[(1,.dat (vint v46)),(8,.dat (ze (decide (v2=0)))),(9,.dat (vstr v1)),(10,.dat (vval (.int .u64 v53))),(11,.dat (vval (.int .u64 (IntKind.wrap .u64 ((shl_ .u64 1 (IntKind.wrap .u64 v49)) - 1))))),(12,.dat (ze s.1)),(13,.dat (vval (.int .u64 s.2))),(99,.dat (vlst (List.map ql (ym v45)))),(100,.dat (vint ((ym v45).length:Int))),(101,.dat (vint (k57:Int)))]) (fun (k57:Nat) (s:Bool×Int)=>[]) (false,0) H ⟨Z,Z,Z,Z,Z,Z,Z,Z,Z,Z,U⟩ U (fun _ _=>Z) ?_ ?_)))))))))))))))))
     ·rintro ⟨v55,v56⟩ H
      replace H:z5n v1 v55 v56=some r:=H
      unfold z5n at H
      refine zb hN Z (za (zx Z Z) (zh (zg _ Z (fun h=>(lt_t h).elim) (fun h => ?_))))
      refine yt (zh (yd (ι:=Bool) (fun i=>[(13,.dat (vval (.int .u64 v56))),(169,.dat (ze i))]) (fun i=>[]) (fun i=>z5l v56 i=some r) (fun i=>Z) ?_ ?_))
      ·skip
       refine zp hN Z (qd Z (qd Z (yi (j:=1) Z Z (fun h61 => ?_) (fun h61 => ?_) Z)))
       ·exact u1 h61 H fun h62 H=>zf Z Z h61 (zd (.dat _) Z) (bE H fun r63 h64 H=>zf Z Z h61 (zk (w1d v1 r63 h64) ⟨.inl Z,U⟩) (zf Z Z h61 (yq Z) (za (yf Z (bTT h62) Z) ⟨!r63,H,⟨Z,Z,U⟩,U⟩)))
       ·exact u2 h61 H fun h65 H=>zc Z Z h61 (zc Z Z h61 (zc Z Z h61 (za (ye Z (bFF h65) Z) ⟨false,H,⟨Z,Z,U⟩,U⟩)))
      ·rintro v66 H
       replace H:z5l v56 v66=some r:=H
       unfold z5l at H
       refine zg _ Z (fun h67 => ?_) (fun h67 => ?_)
       ·refine tE h67 H fun H=>zb hN Z (za (ya (u':=verr 2) (ug (show Tryz.prog.underlying 222=some (.int .i64) from by kernel_rfl) Z) Z) ?_)
        refine qe Z (qe Z (zi ?_))
        cases H
        exact ⟨U,.inl Z,.inl Z,U⟩
       ·refine fE h67 H fun H=>zl (zb hN Z (qd Z (qe Z (qe Z (zi ?_)))))
        cases H
        exact ⟨U,.inl Z,.inl Z,U⟩
     ·rintro k57 x60 ⟨v55,v56⟩ q58 h68 h69 H hq58
      replace H:Qe v2 v46 v49 v53 k57 x60 v55 v56=some q58:=H
      unfold Qe at H
      refine zb hN Z (za (zx Z Z) (zh (zg _ Z (fun h => ?_) (fun h=>(lt_f h68 h).elim))))
      refine zl (yd (ι:=Bool×Int) (fun i=>[(1,.dat (vint v46)),(8,.dat (ze (decide (v2=0)))),(9,.dat (vstr v1)),(10,.dat (vval (.int .u64 v53))),(11,.dat (vval (.int .u64 (IntKind.wrap .u64 ((shl_ .u64 1 (IntKind.wrap .u64 v49)) - 1))))),(12,.dat (ze i.1)),(13,.dat (vval (.int .u64 i.2))),(99,.dat (vlst (List.map ql (ym v45)))),(100,.dat (vint ((ym v45).length:Int))),(101,.dat (vint (k57:Int)))]) (fun i=>[]) (fun i=>z9d i.1 i.2=some q58) (fun i=>Z) ?_ ?_)
      ·skip
       refine zw (zb hN Z (za (we y82 (fun _=>Z) Z Z h69) (za (qu tyS5 Z (qh h69) Z) (qe Z (zb hN Z (qe Z (yd (ι:=Int) (fun i=>[(1,.dat (vint v46)),(8,.dat (ze (decide (v2=0)))),(9,.dat (vstr v1)),(10,.dat (vval (.int .u64 v53))),(11,.dat (vval (.int .u64 (IntKind.wrap .u64 ((shl_ .u64 1 (IntKind.wrap .u64 v49)) - 1))))),(12,.dat (ze v55)),(13,.dat (vval (.int .u64 v56))),(16,.dat (vval (.int .u8 i))),(99,.dat (vlst (List.map ql (ym v45)))),(100,.dat (vint ((ym v45).length:Int))),(101,.dat (vint (k57:Int)))]) (fun i=>[]) (fun i=>z9j v46 v49 v53 v55 v56 i=some q58) (fun i=>Z) ?_ ?_)))))))
       ·skip
        refine zw (zb hN Z (qd Z (za (qf Z Z) (qd Z (yz Z Z (fun hc=>zd (.dat _) Z) (za (wm Z (fun hb=>(cnd (c:=(decide (x60=95))) hb)) Z) (qe Z (zg _ Z (fun h70 => ?_) (fun h70 => ?_)))))))))
        ·exact tE h70 H fun H=>zb hN Z (qe Z (yt ⟨(true,v56),H,⟨Z,Z,Z,Z,Z,Z,Z,Z,Z,Z,U⟩,U⟩))
        ·refine fE h70 H fun H=>zb hN Z (qd Z (za (wi Z Z) (qd Z (yz Z Z (fun hc=>zd (.dat _) Z) (yz Z Z (fun hc=>wi (cnd (c:=(decide (48≤x60))) hc) Z) (za (wm Z (fun hb=>(cnd (c:=(decide (48≤x60))) hb)) Z) (qe Z (zg _ Z (fun h71 => ?_) (fun h71 => ?_)))))))))
         ·exact tE h71 H fun H=>zp hN Z (qd Z (za (yj _ Z Z (.inr (.inl ⟨Z,Z⟩))) (qe Z ⟨IntKind.wrap .u8 (x60 - 48),H,⟨Z,Z,Z,Z,Z,Z,Z,Z,Z,Z,Z,U⟩,U⟩)))
         ·refine fE h71 H fun H=>yd (ι:=Bool) (fun i=>[(1,.dat (vint v46)),(8,.dat (ze (decide (v2=0)))),(9,.dat (vstr v1)),(10,.dat (vval (.int .u64 v53))),(11,.dat (vval (.int .u64 (IntKind.wrap .u64 ((shl_ .u64 1 (IntKind.wrap .u64 v49)) - 1))))),(12,.dat (ze v55)),(13,.dat (vval (.int .u64 v56))),(15,.dat (vval (.int .u8 x60))),(99,.dat (vlst (List.map ql (ym v45)))),(100,.dat (vint ((ym v45).length:Int))),(101,.dat (vint (k57:Int))),(121,.dat (ze i))]) (fun i=>[]) (fun i=>z9i v46 v49 v53 v55 v56 x60 i=some q58) (fun i=>Z) ?_ ?_
          ·skip
           refine zp hN Z (qd Z (bE H fun r72 h73 H=>za (zk (um x60 r72 h73) ⟨.inl Z,U⟩) (za (wi Z Z) (qd Z (yi (j:=3) Z Z (fun h74 => ?_) (fun h74 => ?_) Z)))))
           ·exact u1 h74 H fun h75 H=>zf Z Z h74 (zd (.dat _) Z) (bE H fun r76 h77 H=>zf Z Z h74 (zk (um x60 r76 h77) ⟨.inl Z,U⟩) (zf Z Z h74 (wi Z Z) (za (yf Z (bTT h75) Z) (qe Z ⟨decide (r76≤122),H,⟨Z,Z,Z,Z,Z,Z,Z,Z,Z,Z,Z,Z,U⟩,U⟩))))
           ·exact u2 h74 H fun h78 H=>zc Z Z h74 (zc Z Z h74 (zc Z Z h74 (za (ye Z (bFF h78) Z) (qe Z ⟨false,H,⟨Z,Z,Z,Z,Z,Z,Z,Z,Z,Z,Z,Z,U⟩,U⟩))))
          ·rintro v79 H
           replace H:z9i v46 v49 v53 v55 v56 x60 v79=some q58:=H
           unfold z9i at H
           refine zg _ Z (fun h80 => ?_) (fun h80 => ?_)
           ·exact tE h80 H fun H=>zp hN Z (qd Z (bE H fun r81 h82 H=>za (zk (um x60 r81 h82) ⟨.inl Z,U⟩) (za (yj _ Z Z (.inr (.inl ⟨Z,Z⟩))) (za (yj _ Z Z (.inl ⟨Z,Z⟩)) (qe Z ⟨IntKind.wrap .u8 ((IntKind.wrap .u8 (r81 - 97))+10),H,⟨Z,Z,Z,Z,Z,Z,Z,Z,Z,Z,Z,U⟩,U⟩)))))
           ·refine fE h80 H fun H=>zb hN Z (za (ya (u':=verr 2) (ug (show Tryz.prog.underlying 222=some (.int .i64) from by kernel_rfl) Z) Z) ?_)
            refine qe Z (qe Z (zi ?_))
            replace H:=retl H hq58
            cases H
            exact ⟨U,.inl Z,.inl Z,U⟩
       ·rintro v83 H
        replace H:z9j v46 v49 v53 v55 v56 v83=some q58:=H
        unfold z9j at H
        refine zh (zb hN Z (qd Z (qd Z (za (jn tyU3 tyU5 Z) (za (wt Z Z) (zg _ Z (fun h84 => ?_) (fun h84 => ?_)))))))
        ·refine tE h84 H fun H=>zb hN Z (za (ya (u':=verr 2) (ug (show Tryz.prog.underlying 222=some (.int .i64) from by kernel_rfl) Z) Z) ?_)
         refine qe Z (qe Z (zi ?_))
         replace H:=retl H hq58
         cases H
         exact ⟨U,.inl Z,.inl Z,U⟩
        ·refine fE h84 H fun H=>zl (zh (zb hN Z (qd Z (qd Z (za (wt Z Z) (zg _ Z (fun h85 => ?_) (fun h85 => ?_)))))))
         ·refine tE h85 H fun H=>zb hN Z (qd Z (za (ya (u':=verr 1) (ug (show Tryz.prog.underlying 222=some (.int .i64) from by kernel_rfl) Z) Z) ?_))
          refine qe Z (qe Z (zi ?_))
          replace H:=retl H hq58
          cases H
          exact ⟨U,.inl Z,.inl Z,U⟩
         ·refine fE h85 H fun H=>zl (zb hN Z (qd Z (qd Z (za (jn tyU3 Yj Z) (za (yj _ Z Z (.inr (.inr ⟨Z,Z⟩))) (qe Z (zb hN Z (qd Z (qd Z (za (jn tyU5 Yj Z) (za (yj _ Z Z (.inl ⟨Z,Z⟩)) (qe Z (zh (zb hN Z (qd Z (qd Z (za (zx Z Z) (qd Z (yn Z Z (fun hc=>zd (.dat _) Z) (yn Z Z (fun hc=>zd (.dat _) Z) (yn Z Z (fun hc=>wg (cnd (c:=(!(decide ((IntKind.wrap .u64 ((IntKind.wrap .u64 (v56 * (IntKind.wrap .u64 v46)))+(IntKind.wrap .u64 v83))) < (IntKind.wrap .u64 (v56 * (IntKind.wrap .u64 v46))))))) hc) (cnd (c:=(!(decide ((IntKind.wrap .u64 ((IntKind.wrap .u64 (v56 * (IntKind.wrap .u64 v46)))+(IntKind.wrap .u64 v83))) < (IntKind.wrap .u64 (v56 * (IntKind.wrap .u64 v46))))))) hc)) (za (wv Z Z (fun hb=>(cnd (c:=(!(decide ((IntKind.wrap .u64 ((IntKind.wrap .u64 (v56 * (IntKind.wrap .u64 v46)))+(IntKind.wrap .u64 v83))) < (IntKind.wrap .u64 (v56 * (IntKind.wrap .u64 v46))))))) (notI hb)))) ?_))))))))))))))))))))))
          refine zg _ Z (fun h86 => ?_) (fun h86 => ?_)
          ·refine tE h86 H fun H=>zb hN Z (qd Z (za (ya (u':=verr 1) (ug (show Tryz.prog.underlying 222=some (.int .i64) from by kernel_rfl) Z) Z) ?_))
           refine qe Z (qe Z (zi ?_))
           replace H:=retl H hq58
           cases H
           exact ⟨U,.inl Z,.inl Z,U⟩
          ·exact fE h86 H fun H=>zl (zp hN Z (qd Z (qe Z ⟨(v55,IntKind.wrap .u64 ((IntKind.wrap .u64 (v56 * (IntKind.wrap .u64 v46)))+(IntKind.wrap .u64 v83))),H,⟨Z,Z,Z,Z,Z,Z,Z,Z,Z,Z,U⟩,U⟩)))
      ·rintro ⟨v87,v88⟩ H
       replace H:z9d v87 v88=some q58:=H
       unfold z9d at H
       exact zp hN Z (za (qs Z Z (by omega)) (qd Z ⟨_,yx H,⟨Z,Z,Z,Z,Z,Z,Z,Z,Z,Z,U⟩,U⟩))
theorem w1e (v1:Bs) (v2:Int) (v3:Int) (r:(Int×Int)) (H:y56 v1 v2 v3=some r):Fn Tryz.prog 237 [vstr v1,vint v2,vint v3] (zu [vint r.1,verr r.2]):=by
 refine ⟨by kernel_rfl,yh (us:=[vint r.1,verr r.2]) Tryz.func237 Z Z Z Z fun X hN => ?_⟩
 unfold y56 at H
 refine zb hN Z (qe Z (qe Z (zh (zb hN Z (qd Z (za (va Z Z) (zg _ Z (fun h4 => ?_) (fun h4 => ?_))))))))
 ·refine tE h4 H fun H=>zb hN Z (za (ya (u':=verr 2) (ug (show Tryz.prog.underlying 222=some (.int .i64) from by kernel_rfl) Z) Z) ?_)
  refine qe Z (qe Z (zi ?_))
  cases H
  exact ⟨U,.inl Z,.inl Z,U⟩
 ·refine fE h4 H fun H=>zl (zb hN Z (qe Z (yd (ι:=Bs×Bool) (fun i=>[(0,.dat (vstr i.1)),(1,.dat (vint v2)),(2,.dat (vint v3)),(8,.dat (ze i.2))]) (fun i=>[]) (fun i=>z5o v2 v3 i.1 i.2=some r) (fun i=>Z) ?_ ?_)))
  ·skip
   refine zb hN Z (qd Z (bE H fun x5 h6 H=>za (qy tyU9 Z Z h6) (zw (zb hN Z (za (qf Z Z) (qe Z (zg _ Z (fun h7 => ?_) (fun h7 => ?_))))))))
   ·exact tE h7 H fun H=>zp hN Z (qd Z (bE H fun l8 h9 H=>za (jc tyU9 Z Z Z h9) (qe Z ⟨(l8,false),H,⟨Z,Z,Z,Z,U⟩,U⟩)))
   ·refine fE h7 H fun H=>zb hN Z (za (qf Z Z) (qe Z (zg _ Z (fun h10 => ?_) (fun h10 => ?_))))
    ·exact tE h10 H fun H=>zb hN Z (qd Z (bE H fun l11 h12 H=>za (jc tyU9 Z Z Z h12) (qe Z (zp hN Z (qe Z ⟨(l11,true),H,⟨Z,Z,Z,Z,U⟩,U⟩)))))
    ·exact fE h10 H fun H=>zl ⟨(v1,false),H,⟨Z,Z,Z,Z,U⟩,U⟩
  ·rintro ⟨v13,v14⟩ H
   replace H:z5o v2 v3 v13 v14=some r:=H
   unfold z5o at H
   refine zb hN Z (qe Z (zb hN Z (qd Z (qd Z (qd Z (bE H fun r15 h16 H=>za (zk (x2m v13 v2 v3 r15 h16) ⟨.inl Z,.inl Z,.inl Z,U⟩) (qd Z (za (yc Z Z) (za (yc Z Z) (qe Z (qe Z (zh (yd (ι:=Bool) (fun i=>[(2,.dat (vint v3)),(7,.dat (verr r15.2)),(8,.dat (ze v14)),(9,.dat (vval (.int .u64 r15.1))),(38,.dat (ze i))]) (fun i=>[]) (fun i=>z9m v3 v14 r15 i=some r) (fun i=>Z) ?_ ?_)))))))))))))
   ·skip
    refine zp hN Z (qd Z (za (z7f (n:=r15.2) (show Tryz.prog.underlying 124=some (.interface (Tryz.prog.methodsAt 124)) from by kernel_rfl) Z) ?_))
    refine qd Z (yi (j:=2) Z Z (fun h17 => ?_) (fun h17 => ?_) Z)
    ·refine u1 h17 H fun h18 H=>zf Z Z h17 (zd (.dat _) Z) (zf Z Z h17 (ya (u':=verr 1) (ug (show Tryz.prog.underlying 222=some (.int .i64) from by kernel_rfl) Z) Z) ?_)
     refine gE H fun h19 H=>zf Z Z h17 (x7c (n:=r15.2) (m:=1) (show Tryz.prog.underlying 124=some (.interface (Tryz.prog.methodsAt 124)) from by kernel_rfl) (by kernel_rfl) (by kernel_rfl) Z Z h19 (by decide)) ?_
     exact za (yf Z (bTT h18) Z) ⟨decide (r15.2≠1),H,⟨Z,Z,Z,Z,Z,U⟩,U⟩
    ·exact u2 h17 H fun h20 H=>zc Z Z h17 (zc Z Z h17 (zc Z Z h17 (za (ye Z (bFF h20) Z) ⟨false,H,⟨Z,Z,Z,Z,Z,U⟩,U⟩)))
   ·rintro v21 H
    replace H:z9m v3 v14 r15 v21=some r:=H
    unfold z9m at H
    refine zg _ Z (fun h22 => ?_) (fun h22 => ?_)
    ·refine tE h22 H fun H=>zb hN Z (qd Z (qe Z (qe Z (zi ?_))))
     cases H
     exact ⟨U,.inl Z,.inl Z,U⟩
    ·refine fE h22 H fun H=>zl (yd (ι:=Int) (fun i=>[(2,.dat (vint i)),(8,.dat (ze v14)),(9,.dat (vval (.int .u64 r15.1)))]) (fun i=>[]) (fun i=>z9l v14 r15 i=some r) (fun i=>Z) ?_ ?_)
     ·skip
      refine zb hN Z (qd Z (za (qf Z Z) (zg _ Z (fun h23 => ?_) (fun h23 => ?_))))
      ·exact tE h23 H fun H=>zp hN Z (qe Z ⟨64,H,⟨Z,Z,Z,U⟩,U⟩)
      ·exact fE h23 H fun H=>zl ⟨v3,H,⟨Z,Z,Z,U⟩,U⟩
     ·rintro v24 H
      replace H:z9l v14 r15 v24=some r:=H
      unfold z9l at H
      refine zb hN Z (qd Z (za (yj _ Z Z (.inr (.inl ⟨Z,Z⟩))) (za (jn tyU3 y0i Z) (gE H fun h25 H=>za (ya (y9i Z Z h25) Z) (qe Z (zh (zb hN Z (qd Z (za (yq Z) (qd Z (yz Z Z (fun hc=>zd (.dat _) Z) (yz Z Z (fun hc=>zd (.dat _) Z) (yz Z Z (fun hc=>wt (cnd (c:=(!v14)) hc) (cnd (c:=(!v14)) hc)) (za (wm Z (fun hb=>(cnd (c:=(!v14)) hb)) Z) (zg _ Z (fun h26 => ?_) (fun h26 => ?_))))))))))))))))
      ·refine tE h26 H fun H=>zb hN Z (qd Z (za (yj _ Z Z (.inr (.inl ⟨Z,Z⟩))) (za (jn Yj tyU2 Z) (za (ya (u':=verr 1) (ug (show Tryz.prog.underlying 222=some (.int .i64) from by kernel_rfl) Z) Z) ?_))))
       refine qe Z (qe Z (zi ?_))
       cases H
       exact ⟨U,.inl Z,.inl Z,U⟩
      ·refine fE h26 H fun H=>zl (zh (zb hN Z (qd Z (qd Z (yz Z Z (fun hc=>zd (.dat _) Z) (yz Z Z (fun hc=>zd (.dat _) Z) (yz Z Z (fun hc=>wg (cnd (c:=v14) hc) (cnd (c:=v14) hc)) (za (wm Z (fun hb=>(cnd (c:=v14) hb)) Z) (zg _ Z (fun h27 => ?_) (fun h27 => ?_))))))))))
       ·refine tE h27 H fun H=>zb hN Z (qd Z (za (jn Yj tyU2 Z) (gE H fun h28 H=>za (y03 Z h28) (za (ya (u':=verr 1) (ug (show Tryz.prog.underlying 222=some (.int .i64) from by kernel_rfl) Z) Z) ?_))))
        refine qe Z (qe Z (zi ?_))
        cases H
        exact ⟨U,.inl Z,.inl Z,U⟩
       ·refine fE h27 H fun H=>zl (zb hN Z (qd Z (za (jn Yj tyU2 Z) (qe Z (yd (ι:=Int) (fun i=>[(11,.dat (vint i))]) (fun i=>[]) (fun i=>z9k i=some r) (fun i=>Z) ?_ ?_)))))
        ·skip
         refine zb hN Z (qd Z (zg _ Z (fun h29 => ?_) (fun h29 => ?_)))
         ·exact tE h29 H fun H=>zp hN Z (qd Z (gE H fun h30 H=>za (y03 Z h30) (qe Z ⟨(-(IntKind.wrap .i64 r15.1)),H,⟨Z,U⟩,U⟩)))
         ·exact fE h29 H fun H=>zl ⟨IntKind.wrap .i64 r15.1,H,⟨Z,U⟩,U⟩
        ·rintro v31 H
         replace H:z9k v31=some r:=H
         unfold z9k at H
         refine zb hN Z (qd Z (qe Z (qe Z (zi ?_))))
         cases H
         exact ⟨U,.inl Z,.inl Z,U⟩
end Go.Proofs.YtmdllhcjefcggabGreatDoor
