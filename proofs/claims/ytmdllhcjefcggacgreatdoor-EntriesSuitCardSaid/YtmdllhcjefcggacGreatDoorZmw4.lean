/- Walks along the models. Printed by a program. -/
import Derived.Test.YtmdllhcjefcggacGreatDoorZmw3
namespace Go.Proofs.YtmdllhcjefcggacGreatDoor
open Go.RowKit
set_option linter.unusedVariables false
set_option maxRecDepth 100000
set_option maxHeartbeats 2000000
theorem y6m (a1:yu) (r:((List Bs)×Bool×Int)) (H:Zx a1=some r):Fn Tryz.prog 46 [vagg (Zg a1)] (zu [vlst (List.map zp r.1),zh r.2.1,vint r.2.2]):=by
 refine ⟨by kernel_rfl,yg (us:=[vlst (List.map zp r.1),zh r.2.1,vint r.2.2]) Tryz.func46 Z Z Z Z fun X hN => ?_⟩
 unfold Zx at H
 refine zb hN Z (zj (we 1 Z) Z (qe Z (qe Z (qe Z (zb hN Z (za (zq xt Z) (zm (zv wu Z Z) Z (bE H fun r2 h3 H=>za (zk (z84 a1.Headers [118,97,114,121] r2 h3) ⟨.inl Z,.inl Z,U⟩) (bE H fun r4 h5 H=>wx (rn [(1,2)]) [] [(1,_)] (w0p r2 r4 h5) ⟨Z,U⟩ ⟨.inl (.inl Z),U⟩ U Z (za (qr (.row _ _) Z) (ze (zb hN Z (za (zd (.row _ _) Z) (zm (Qp wt Z Z) Z (qd Z (zx (gE H fun h9 H=>z9w (fun (k7:Nat) (s:(List Bs))=>[(5,.row 2 s.length),(12,.row 2 s.length),(13,.dat (vint (r4.length:Int))),(14,.dat (vint (k7:Int)))]) (fun (k7:Nat) (s:(List Bs))=>[(2,.row 9 1 (List.map zp s))]) r4 H ⟨Z,Z,Z,Z,U⟩ ⟨Z,U⟩ (fun _ _=>Z) ?_ ?_)))))))))))))))))
 ·rintro l6 H
  replace H:z0c l6=some r:=H
  unfold z0c at H
  refine zb hN Z (za (zy Z Z) (ze (zf _ Z (fun h=>(lt_t h).elim) (fun h => ?_))))
  refine yr (ze (ze (Zj 5 2 Z Z Z (zn hN Z (qd Z (bE H fun r10 h11 H=>za (zk (w07 l6 [42] r10 h11) ⟨.inl Z,.inl Z,U⟩) (zf _ Z (fun h12 => ?_) (fun h12 => ?_))))))))
  ·refine tE h12 H fun H=>zb hN Z (qe Z (qe Z (qe Z (zi ?_))))
   cases H
   exact ⟨U,.inr ⟨Z,Z⟩,.inl Z,.inl Z,U⟩
  ·refine fE h12 H fun H=>zl (zb hN Z (qd Z (bE H fun r13 h14 H=>za (zk (w1n l6 r13 h14) ⟨.inl Z,U⟩) (qe Z (ze (zb hN Z (qd Z (za (qi wt Z) (za (wg Z Z) (zf _ Z (fun h15 => ?_) (fun h15 => ?_)))))))))))
   ·refine tE h15 H fun H=>zb hN Z (qe Z (qe Z (qe Z (zi ?_))))
    cases H
    exact ⟨U,.inr ⟨Z,Z⟩,.inl Z,.inl Z,U⟩
   ·refine fE h15 H fun H=>zl (zb hN Z (qd Z (qe Z (qe Z (qe Z (zi ?_))))))
    cases H
    exact ⟨U,.inl Z,.inl Z,.inl Z,U⟩
 ·rintro k7 l6 q8 h16 H hq8
  replace H:z2s k7 l6=some q8:=H
  unfold z2s at H
  refine zb hN Z (za (zy Z Z) (ze (zf _ Z (fun h => ?_) (fun h=>(lt_f h16 h).elim))))
  refine zl (ze (zx (zb hN Z (qd Z (bE H fun x17 h18 H=>zm (z29 vn Z Z Z h18) Z (zm (x6o tyS9 Z Z h18 Z) Z (qe Z (qe Z (ze (zb hN Z (qd Z (bE H fun r19 h20 H=>za (zk (y2i x17 r19 h20) ⟨.inl Z,U⟩) (za (yy Z) (zf _ Z (fun h21 => ?_) (fun h21 => ?_)))))))))))))))
  ·refine tE h21 H fun H=>zb hN Z (qe Z (qe Z (qe Z (zi ?_))))
   replace H:=retl H hq8
   cases H
   exact ⟨U,.inr ⟨Z,Z⟩,.inl Z,.inl Z,U⟩
  ·exact fE h21 H fun H=>zl (zn hN Z (za (zd (.row _ _) Z) (qd Z (qd Z (bE H fun r22 h23 H=>za (zk (Yw x17 r22 h23) ⟨.inl Z,U⟩) (zm (z29 vn Z Z Z h18) Z (zj (y88 r22 tyS9 Z Z Z Z h18 Z Z) Z (zn hN Z (za (qo Z Z (by omega)) (qd Z ⟨_,yx H,⟨congrArg (Slot.row 2) (by simp),congrArg (Slot.row 2) (by simp),Z,Z,U⟩,⟨Z,U⟩⟩))))))))))
theorem z86 (e1:yc) (r:(Int)) (H:Zy e1=some r):Fn Tryz.prog 11 [vagg (qy e1)] (zu [vint r]):=by
 refine ⟨by kernel_rfl,yg (us:=[vint r]) Tryz.func11 Z Z Z Z fun X hN => ?_⟩
 unfold Zy at H
 refine zb hN Z (zj (we 1 Z) Z (qe Z (ze (zb hN Z (za (zq un Z) (zm (yq yp Z Z Z) Z (bE H fun r2 h3 H=>za (zk (y2j e1.Request r2 h3) ⟨.inl Z,U⟩) (qe Z (zb hN Z (qd Z (za (qj Z Z) (zf _ Z (fun h4 => ?_) (fun h4 => ?_)))))))))))))
 ·refine tE h4 H fun H=>zb hN Z (qd Z (qe Z (zi ?_)))
  cases H
  exact ⟨U,.inl Z,U⟩
 ·refine fE h4 H fun H=>zl (ze (zb hN Z (za (zq um Z) (zm (yq ub Z Z Z) Z (bE H fun r5 h6 H=>za (zk (x1z e1.Response r5 h6) ⟨.inl Z,U⟩) (qe Z (zb hN Z (qd Z (za (qj Z Z) (zf _ Z (fun h7 => ?_) (fun h7 => ?_)))))))))))
  ·refine tE h7 H fun H=>zb hN Z (qd Z (qe Z (zi ?_)))
   cases H
   exact ⟨U,.inl Z,U⟩
  ·refine fE h7 H fun H=>zl (ze (yb (ι:=Bool) (fun i=>[(1,.ptr 1 0),(30,.dat (zh i))]) (fun i=>[(1,.box none 33 [.dat (vint e1.Request.At),.dat (vstr e1.Request.Method),.dat (vstr e1.Request.Host),.dat (vstr e1.Request.Path),.dat (vstr e1.Request.Query),.dat (vstr e1.Request.From),.dat (vlst (List.map yd e1.Request.Headers)),.dat (vstr e1.Request.Body),.dat (vint e1.Response.Status),.dat (vlst (List.map yd e1.Response.Headers)),.dat (vstr e1.Response.Body),.dat (vint e1.At),.dat (vlst (List.map zp e1.Tags)),.dat (vint e1.Used)])]) (fun i=>z2x e1 i=some r) (fun i=>Z) ?_ ?_))
   ·skip
    refine zn hN Z (za (zq xd Z) (zm (zv tyS3 Z Z) Z (bE H fun r8 h9 H=>za (zk (y2k e1.At r8 h9) ⟨.inl Z,U⟩) (za (yy Z) (qd Z (yi (j:=4) Z Z (fun h10 => ?_) (fun h10 => ?_) Z))))))
    ·exact u3 h10 H fun h11 H=>zg Z Z h10 (zq y0k Z) (jr Z Z h10 (zv tyS3 Z Z) Z (bE H fun r12 h13 H=>zg Z Z h10 (zk (y2k e1.Used r12 h13) ⟨.inl Z,U⟩) (zg Z Z h10 (yy Z) (za (ye Z (bFF h11) Z) ⟨!r12,H,⟨Z,Z,U⟩,⟨Z,U⟩⟩))))
    ·exact u4 h10 H fun h14 H=>zc Z Z h10 (zc Z Z h10 (zc Z Z h10 (zc Z Z h10 (za (yh Z (bTT h14) Z) ⟨true,H,⟨Z,Z,U⟩,⟨Z,U⟩⟩))))
   ·rintro v15 H
    replace H:z2x e1 v15=some r:=H
    unfold z2x at H
    refine zf _ Z (fun h16 => ?_) (fun h16 => ?_)
    ·refine tE h16 H fun H=>zb hN Z (qe Z (zi ?_))
     cases H
     exact ⟨U,.inl Z,U⟩
    ·refine fE h16 H fun H=>zl (ze (zb hN Z (za (zq z0j Z) (zm (zv jj Z Z) Z (za (qi wt Z) (za (wg Z Z) (zf _ Z (fun h17 => ?_) (fun h17 => ?_))))))))
     ·refine tE h17 H fun H=>zb hN Z (qe Z (zi ?_))
      cases H
      exact ⟨U,.inl Z,U⟩
     ·refine fE h17 H fun H=>zl (ze (zb hN Z (za (zq z0j Z) (zm (zv jj Z Z) Z (bE H fun r18 h19 H=>za (zk (w1m e1.Tags r18 h19) ⟨.inl Z,U⟩) (qe Z (zb hN Z (qd Z (za (qj Z Z) (zf _ Z (fun h20 => ?_) (fun h20 => ?_)))))))))))
      ·refine tE h20 H fun H=>zb hN Z (qd Z (qe Z (zi ?_)))
       cases H
       exact ⟨U,.inl Z,U⟩
      ·refine fE h20 H fun H=>zl (zb hN Z (za (zq um Z) (zm (yq ub Z Z Z) Z (bE H fun r21 h22 H=>za (zk (y6m e1.Response r21 h22) ⟨.inl Z,U⟩) (qd Z (za (zz Z Z) (za (zz Z Z) (za (zz Z Z) (qe Z (qe Z (qe Z (zb hN Z (qd Z (qe Z (zi ?_)))))))))))))))
       cases H
       exact ⟨U,.inl Z,U⟩
theorem w2g (e1:yc) (v2:Int) (r:(Int)) (H:y16 e1 v2=some r):Fn Tryz.prog 32 [vagg (qy e1),vint v2] (zu [vint r]):=by
 refine ⟨by kernel_rfl,yg (us:=[vint r]) Tryz.func32 Z Z Z Z fun X hN => ?_⟩
 unfold y16 at H
 refine zb hN Z (zj (we 1 Z) Z (qe Z (ze (zb hN Z (qd Z (bE H fun r3 h4 H=>za (zk (y2k v2 r3 h4) ⟨.inl Z,U⟩) (za (yy Z) (zf _ Z (fun h5 => ?_) (fun h5 => ?_)))))))))
 ·refine tE h5 H fun H=>zb hN Z (qe Z (zi ?_))
  cases H
  exact ⟨U,.inl Z,U⟩
 ·refine fE h5 H fun H=>zl (ze (zb hN Z (qd Z (za (zq xd Z) (zm (zv tyS3 Z Z) Z (za (zy Z Z) (zf _ Z (fun h6 => ?_) (fun h6 => ?_))))))))
  ·refine tE h6 H fun H=>zb hN Z (qe Z (zi ?_))
   cases H
   exact ⟨U,.inl Z,U⟩
  ·refine fE h6 H fun H=>zl (zb hN Z (qe Z (zi ?_)))
   cases H
   exact ⟨U,.inl Z,U⟩
theorem x2u (s1:Bs) (r:(Int×Bool)) (H:z4u s1=some r):Fn Tryz.prog 70 [vstr s1] (zu [vint r.1,zh r.2]):=by
 refine ⟨by kernel_rfl,yg (us:=[vint r.1,zh r.2]) Tryz.func70 Z Z Z Z fun X hN => ?_⟩
 unfold z4u at H
 refine zb hN Z (qe Z (qe Z (zb hN Z (qd Z (bE H fun r2 h3 H=>za (zk (x2b s1 r2 h3) ⟨.inl Z,U⟩) (qd Z (za (zz Z Z) (za (zz Z Z) (qe Z (qe Z (yb (ι:=Bool) (fun i=>[(2,.dat (vint r2.1)),(3,.dat (zh i))]) (fun i=>[]) (fun i=>z6m r2 i=some r) (fun i=>Z) ?_ ?_)))))))))))
 ·skip
  refine zn hN Z (qd Z (qd Z (qd Z (yi (j:=2) Z Z (fun h4 => ?_) (fun h4 => ?_) Z))))
  ·exact u1 h4 H fun h5 H=>zg Z Z h4 (zd (.dat _) Z) (bE H fun r6 h7 H=>zg Z Z h4 (zk (y6f r2.1 0 100000000 r6 h7) ⟨.inl Z,.inl Z,.inl Z,U⟩) (zg Z Z h4 (yy Z) (za (yh Z (bTT h5) Z) (qe Z (qe Z ⟨!r6,H,⟨Z,Z,U⟩,U⟩)))))
  ·exact u2 h4 H fun h8 H=>zc Z Z h4 (zc Z Z h4 (zc Z Z h4 (za (ye Z (bFF h8) Z) (qe Z (qe Z ⟨false,H,⟨Z,Z,U⟩,U⟩)))))
 ·rintro v9 H
  replace H:z6m r2 v9=some r:=H
  unfold z6m at H
  refine zi ?_
  cases H
  exact ⟨U,.inl Z,.inl Z,U⟩
theorem w2o (e1:yc) (v2:Int) (r:(Int)) (H:z8v e1 v2=some r):Fn Tryz.prog 33 [vagg (qy e1),vint v2] (zu [vint r]):=by
 refine ⟨by kernel_rfl,yg (us:=[vint r]) Tryz.func33 Z Z Z Z fun X hN => ?_⟩
 unfold z8v at H
 refine zb hN Z (zj (we 1 Z) Z (qe Z (zb hN Z (qe Z (yb (ι:=Int) (fun i=>[(1,.dat (vint v2)),(2,.ptr 1 0),(5,.dat (vint i))]) (fun i=>[(1,.box none 33 [.dat (vint e1.Request.At),.dat (vstr e1.Request.Method),.dat (vstr e1.Request.Host),.dat (vstr e1.Request.Path),.dat (vstr e1.Request.Query),.dat (vstr e1.Request.From),.dat (vlst (List.map yd e1.Request.Headers)),.dat (vstr e1.Request.Body),.dat (vint e1.Response.Status),.dat (vlst (List.map yd e1.Response.Headers)),.dat (vstr e1.Response.Body),.dat (vint e1.At),.dat (vlst (List.map zp e1.Tags)),.dat (vint e1.Used)])]) (fun i=>z0d e1 v2 i=some r) (fun i=>Z) ?_ ?_)))))
 ·skip
  refine zb hN Z (za (zq um Z) (za (zq xt Z) (zm (zv wu Z Z) Z (bE H fun r3 h4 H=>za (zk (z84 e1.Response.Headers [97,103,101] r3 h4) ⟨.inl Z,.inl Z,U⟩) (qe Z (zb hN Z (qd Z (za (qi wt Z) (za (wg Z Z) (zf _ Z (fun h5 => ?_) (fun h5 => ?_)))))))))))
  ·refine tE h5 H fun H=>zb hN Z (qd Z (bE H fun x6 h7 H=>za (wc vn (fun _=>Z) Z Z h7) (za (qz tyS9 Z (qk h7) Z) (bE H fun r8 h9 H=>za (zk (x2u x6 r8 h9) ⟨.inl Z,U⟩) (qd Z (za (zz Z Z) (za (zz Z Z) (qe Z (qe Z (zb hN Z (qd Z (zf _ Z (fun h10 => ?_) (fun h10 => ?_)))))))))))))
   ·exact tE h10 H fun H=>zn hN Z (qd Z (qe Z ⟨r8.1,H,⟨Z,Z,Z,U⟩,⟨Z,U⟩⟩))
   ·exact fE h10 H fun H=>zl ⟨0,H,⟨Z,Z,Z,U⟩,⟨Z,U⟩⟩
  ·exact fE h5 H fun H=>zl ⟨0,H,⟨Z,Z,Z,U⟩,⟨Z,U⟩⟩
 ·rintro n11 H
  replace H:z0d e1 v2 n11=some r:=H
  unfold z0d at H
  refine zb hN Z (qd Z (za (zq xd Z) (zm (zv tyS3 Z Z) Z (za (yj _ Z Z (.inr (.inl ⟨Z,Z⟩))) (qd Z (za (yj _ Z Z (.inr (.inr ⟨Z,Z⟩))) (za (yj _ Z Z (.inl ⟨Z,Z⟩)) (qe Z (zi ?_)))))))))
  cases H
  exact ⟨U,.inl Z,U⟩
theorem w2t (e1:yc) (v2:Int) (r:(Int×Int)) (H:z8z e1 v2=some r):Fn Tryz.prog 7 [vagg (qy e1),vint v2] (zu [vint r.1,vint r.2]):=by
 refine ⟨by kernel_rfl,yg (us:=[vint r.1,vint r.2]) Tryz.func7 Z Z Z Z fun X hN => ?_⟩
 unfold z8z at H
 refine zb hN Z (zj (we 1 Z) Z (qe Z (qe Z (ze (zb hN Z (zm (yq wo Z Z Z) Z (bE H fun r3 h4 H=>za (zk (z86 e1 r3 h4) ⟨.inl Z,U⟩) (qe Z (zb hN Z (qd Z (za (qj Z Z) (zf _ Z (fun h5 => ?_) (fun h5 => ?_)))))))))))))
 ·refine tE h5 H fun H=>zb hN Z (qd Z (qe Z (qe Z (zi ?_))))
  cases H
  exact ⟨U,.inl Z,.inl Z,U⟩
 ·refine fE h5 H fun H=>zl (ze (zb hN Z (zm (yq wo Z Z Z) Z (qd Z (bE H fun r6 h7 H=>za (zk (w2g e1 v2 r6 h7) ⟨.inl Z,.inl Z,U⟩) (qe Z (zb hN Z (qd Z (za (qj Z Z) (zf _ Z (fun h8 => ?_) (fun h8 => ?_)))))))))))
  ·refine tE h8 H fun H=>zb hN Z (qd Z (qe Z (qe Z (zi ?_))))
   cases H
   exact ⟨U,.inl Z,.inl Z,U⟩
  ·refine fE h8 H fun H=>zl (zb hN Z (zm (yq wo Z Z Z) Z (qd Z (bE H fun r9 h10 H=>za (zk (w2o e1 v2 r9 h10) ⟨.inl Z,.inl Z,U⟩) (qe Z (qe Z (zi ?_)))))))
   cases H
   exact ⟨U,.inl Z,.inl Z,U⟩
theorem w2k (e1:yc) (r2:zw) (r:(Int)) (H:y17 e1 r2=some r):Fn Tryz.prog 34 [vagg (qy e1),vagg (qs r2)] (zu [vint r]):=by
 refine ⟨by kernel_rfl,yg (us:=[vint r]) Tryz.func34 Z Z Z Z fun X hN => ?_⟩
 unfold y17 at H
 refine zb hN Z (zj (we 1 Z) Z (zj (we 2 Z) Z (qe Z (ze (zb hN Z (zm (yq wo Z Z Z) Z (bE H fun r3 h4 H=>za (zk (z86 e1 r3 h4) ⟨.inl Z,U⟩) (qe Z (zb hN Z (qd Z (za (qj Z Z) (zf _ Z (fun h5 => ?_) (fun h5 => ?_)))))))))))))
 ·refine tE h5 H fun H=>zb hN Z (qd Z (qe Z (zi ?_)))
  cases H
  exact ⟨U,.inl Z,U⟩
 ·refine fE h5 H fun H=>zl (zb hN Z (zm (yq yp Z Z Z) Z (bE H fun r6 h7 H=>za (zk (y2j r2 r6 h7) ⟨.inl Z,U⟩) (qe Z (zi ?_)))))
  cases H
  exact ⟨U,.inl Z,U⟩
theorem w1i (s1:Bs) (r:(Bs×Int)) (H:z4b s1=some r):Fn Tryz.prog 108 [vstr s1] (zu [vstr r.1,vint r.2]):=by
 refine ⟨by kernel_rfl,yg (us:=[vstr r.1,vint r.2]) Tryz.func108 Z Z Z Z fun X hN => ?_⟩
 unfold z4b at H
 refine zb hN Z (qe Z (qe Z (ze (zb hN Z (qd Z (bE H fun r2 h3 H=>za (zk (x1t s1 r2 h3) ⟨.inl Z,U⟩) (za (yy Z) (zf _ Z (fun h4 => ?_) (fun h4 => ?_)))))))))
 ·refine tE h4 H fun H=>zb hN Z (qe Z (qe Z (zi ?_)))
  cases H
  exact ⟨U,.inl Z,.inl Z,U⟩
 ·refine fE h4 H fun H=>zl (zb hN Z (qd Z (bE H fun r5 h6 H=>za (zk (Yw s1 r5 h6) ⟨.inl Z,U⟩) (bE H fun r7 h8 H=>za (zk (z42 r5 [58] r7 h8) ⟨.inl Z,.inl Z,U⟩) (qd Z (za (zz Z Z) (za (zz Z Z) (za (zz Z Z) (qe Z (qe Z (qe Z (ze (zb hN Z (qd Z (za (vg Z Z) (qd Z (yl Z Z (fun hc=>zd (.dat _) Z) (yl Z Z (fun hc=>vg (cnd (c:=(!(decide (r7.2.1=[])))) hc) Z) (za (ww Z Z (fun hb=>(cnd (c:=(!(decide (r7.2.1=[])))) (notI hb)))) (qd Z ?_))))))))))))))))))))
  refine yl Z Z (fun hc=>zd (.dat _) Z) (yl Z Z (fun hc=>vg (cnd (c:=(!((decide (r7.2.1=[])) || (decide (r7.2.1=[56,48]))))) hc) Z) (za (ww Z Z (fun hb=>(cnd (c:=(!((decide (r7.2.1=[])) || (decide (r7.2.1=[56,48]))))) (notI hb)))) (zf _ Z (fun h9 => ?_) (fun h9 => ?_))))
  ·refine tE h9 H fun H=>zb hN Z (qd Z (qe Z (qe Z (zi ?_))))
   cases H
   exact ⟨U,.inl Z,.inl Z,U⟩
  ·refine fE h9 H fun H=>zl (zb hN Z (qd Z (gE H fun h10 H=>za (jb Z Z (Nat.le_trans h10 (by decide))) (qd Z (gE H fun h11 H=>za (jb Z Z (Nat.le_trans h11 (by decide))) (qe Z (qe Z (zi ?_))))))))
   cases H
   exact ⟨U,.inl Z,.inl Z,U⟩
theorem z1m (l1:(List Int)) (c2:Int) (r:(Int×(List Int))) (H:Za l1 c2=some r):FnG Tryz.prog 128 [.ptr 0 0,.dat (vval (.int .u8 c2))] [(0,.box (some 0) 131 [.nptr 0,.row 1 l1.length]),(1,.row 5 1 (List.map qn l1))] (.dat (zu [verr r.1])) [(0,.box (some 0) 131 [.nptr 0,.row 900 r.2.length]),(900,.row 5 1 (List.map qn r.2))]:=by
 refine kv (by kernel_rfl) Tryz.func128 Z Z Z Z fun X A hN => ?_
 refine vi ?_
 unfold Za at H
 refine zb hN Z (qe Z (zb hN Z (za (zd (.ptr _ _) Z) (zj (y9n x4m Z) Z (zb hN Z (za (zd (.ptr _ _) Z) (za (zd (.ptr _ _) Z) (za (ju Z) (za (zq y0n Z) (zm (zv y0g Z Z) Z (qd Z (za (ya (u':=vlst (List.map qn [c2])) (yo [[_]] Zi ⟨Z,.inl ⟨_,Z,Z,Z⟩,Z,U⟩ Z Z) Z) (gE H fun h3 H=>zj (va Zi (fun _=>Z) Z Z Z ⟨by simp,by first | (simp; done) | simpa using h3⟩ Z) Z ?_)))))))))))))
 refine za (ju Z) (za (zq y0n Z) (xy (xw y0g Z Z (by rw [List.length_map]) Z) Z Z ?_))
 refine zb hN Z (qe Z (zi ?_))
 cases H
 show Cv _ _ _ _
 exact wq (rn [(1,900)]) [(4,.dat (verr 0))] [(0,.box (some (A.bl 0)) 131 [.nptr 0,.row 1 ((l1++[c2]).length)]),(1,.row 5 1 (List.map qn (l1++[c2])))] ⟨Z,U⟩ ⟨Z,Z,U⟩ Z Z ⟨U,[(4,.dat (verr 0))],⟨Z,U⟩,⟨Z,Z,U⟩,Z,.inl ⟨[verr 0],⟨Z,U⟩,Z⟩⟩
theorem x1u (c1:Int) (r:(Bool)) (H:z38 c1=some r):Fn Tryz.prog 257 [vval (.int .u8 c1)] (zu [zh r]):=by
 refine ⟨by kernel_rfl,yg (us:=[zh r]) Tryz.func257 Z Z Z Z fun X hN => ?_⟩
 unfold z38 at H
 refine zb hN Z (qe Z (zb hN Z (qd Z (bE H fun r2 h3 H=>za (zk (y2g c1 r2 h3) ⟨.inl Z,U⟩) (qd Z (yl Z Z (fun hc=>zd (.dat _) Z) (yl Z Z (fun hc=>wz (cnd (c:=(!r2)) hc) Z) (yl Z Z (fun hc=>zd (.dat _) (cnd (c:=(!r2)) hc)) (wl Z Z (fun hc=>zd (.dat _) Z) (wl Z Z (fun hc=>wy (cnd (c:=((!r2) && (decide (97≤c1)))) hc) Z) (yl Z Z (fun hc=>vd (cnd (c:=(!r2)) hc) (fun hb=>(cnd (c:=((!r2) && (decide (97≤c1)))) (andI hc hb))) Z) (za (ww Z Z (fun hb=>(cnd (c:=(!r2)) (notI hb)))) (qd Z (yl Z Z (fun hc=>zd (.dat _) Z) (yl Z Z (fun hc=>wz (cnd (c:=(!(r2 || ((decide (97≤c1)) && (decide (c1≤102)))))) hc) Z) (yl Z Z (fun hc=>zd (.dat _) (cnd (c:=(!(r2 || ((decide (97≤c1)) && (decide (c1≤102)))))) hc)) (wl Z Z (fun hc=>zd (.dat _) Z) (wl Z Z (fun hc=>wy (cnd (c:=((!(r2 || ((decide (97≤c1)) && (decide (c1≤102))))) && (decide (65≤c1)))) hc) Z) (yl Z Z (fun hc=>vd (cnd (c:=(!(r2 || ((decide (97≤c1)) && (decide (c1≤102)))))) hc) (fun hb=>(cnd (c:=((!(r2 || ((decide (97≤c1)) && (decide (c1≤102))))) && (decide (65≤c1)))) (andI hc hb))) Z) (za (ww Z Z (fun hb=>(cnd (c:=(!(r2 || ((decide (97≤c1)) && (decide (c1≤102)))))) (notI hb)))) (qe Z (zi ?_))))))))))))))))))))))
 cases H
 exact ⟨U,.inl Z,U⟩
theorem x1s (s1:Bs) (v2:Int) (r:(Bool)) (H:Qy s1 v2=some r):Fn Tryz.prog 217 [vstr s1,vint v2] (zu [zh r]):=by
 refine ⟨by kernel_rfl,yg (us:=[zh r]) Tryz.func217 Z Z Z Z fun X hN => ?_⟩
 unfold Qy at H
 refine zb hN Z (qe Z (yb (ι:=Bool) (fun i=>[(4,.dat (zh i))]) (fun i=>[]) (fun i=>z0x i=some r) (fun i=>Z) ?_ ?_))
 ·skip
  refine zn hN Z (qd Z (za (yj _ Z Z (.inl ⟨Z,Z⟩)) (qd Z (za (yz tyU9 Z) (za (zy Z Z) (qd Z (yi (j:=5) Z Z (fun h3 => ?_) (fun h3 => ?_) Z)))))))
  ·refine u1 h3 H fun h4 H=>zg Z Z h3 (zd (.dat _) Z) (zg Z Z h3 (zd (.dat _) Z) (zg Z Z h3 (yj _ Z Z (.inl ⟨Z,Z⟩)) (bE H fun x5 h6 H=>zg Z Z h3 (jy tyU9 Z Z h6) (bE H fun r7 h8 H=>zg Z Z h3 (zk (x1u (x5.toNat:Int) r7 h8) ⟨.inl Z,U⟩) (za (yh Z (bTT h4) Z) (qd Z (yi (j:=12) Z Z (fun h9 => ?_) (fun h9 => ?_) Z)))))))
   ·exact u1 h9 H fun h10 H=>zg Z Z h9 (zd (.dat _) Z) (zg Z Z h9 (zd (.dat _) Z) (zg Z Z h9 (yj _ Z Z (.inl ⟨Z,Z⟩)) (bE H fun x11 h12 H=>zg Z Z h9 (jy tyU9 Z Z h12) (bE H fun r13 h14 H=>zg Z Z h9 (zk (x1u (x11.toNat:Int) r13 h14) ⟨.inl Z,U⟩) (za (yh Z (bTT h10) Z) (qe Z ⟨r13,H,⟨Z,U⟩,U⟩))))))
   ·exact u2 h9 H fun h15 H=>zc Z Z h9 (zc Z Z h9 (zc Z Z h9 (zc Z Z h9 (zc Z Z h9 (za (ye Z (bFF h15) Z) (qe Z ⟨false,H,⟨Z,U⟩,U⟩))))))
  ·exact u2 h3 H fun h16 H=>zc Z Z h3 (zc Z Z h3 (zc Z Z h3 (zc Z Z h3 (zc Z Z h3 (za (ye Z (bFF h16) Z) (qd Z (zc Z Z Z (zc Z Z Z (zc Z Z Z (zc Z Z Z (zc Z Z Z (za (ye Z Z Z) (qe Z ⟨false,H,⟨Z,U⟩,U⟩)))))))))))))
 ·rintro v17 H
  replace H:z0x v17=some r:=H
  unfold z0x at H
  refine zi ?_
  cases H
  exact ⟨U,.inl Z,U⟩
theorem x1k (s1:Bs) (base2:Int) (bitSize3:Int) (r:(Int×Int)) (H:z32 s1 base2 bitSize3=some r):Fn Tryz.prog 210 [vstr s1,vint base2,vint bitSize3] (zu [vval (.int .u64 r.1),verr r.2]):=by
 refine ⟨by kernel_rfl,yg (us:=[vval (.int .u64 r.1),verr r.2]) Tryz.func210 Z Z Z Z fun X hN => ?_⟩
 unfold z32 at H
 refine zb hN Z (qe Z (qe Z (zb hN Z (qd Z (qd Z (qd Z (bE H fun r4 h5 H=>za (zk (x2c s1 base2 bitSize3 r4 h5) ⟨.inl Z,.inl Z,.inl Z,U⟩) (qd Z (za (zz Z Z) (za (zz Z Z) (qe Z (qe Z (ze (zb hN Z (qd Z (za (z69 (n:=r4.2) (show Tryz.prog.underlying 104=some (.interface (Tryz.prog.methodsAt 104)) from by kernel_rfl) Z) ?_))))))))))))))))
 refine zf _ Z (fun h6 => ?_) (fun h6 => ?_)
 ·refine tE h6 H fun H=>zb hN Z (qd Z (qd Z (qd Z (qd Z (qd Z (bE H fun r7 h8 H=>za (zk (x1j [80,97,114,115,101,85,105,110,116] s1 base2 bitSize3 r4.2 r7 h8) ⟨.inl Z,.inl Z,.inl Z,.inl Z,.inl Z,U⟩) (qe Z (qe Z (zi ?_)))))))))
  cases H
  exact ⟨U,.inl Z,.inl Z,U⟩
 ·refine fE h6 H fun H=>zl (zb hN Z (qd Z (qe Z (qe Z (zi ?_)))))
  cases H
  exact ⟨U,.inl Z,.inl Z,U⟩
theorem x1o (s1:Bs) (v2:Int) (r:(Int)) (H:z35 s1 v2=some r):Fn Tryz.prog 218 [vstr s1,vint v2] (zu [vval (.int .u8 r)]):=by
 refine ⟨by kernel_rfl,yg (us:=[vval (.int .u8 r)]) Tryz.func218 Z Z Z Z fun X hN => ?_⟩
 unfold z35 at H
 refine zb hN Z (qe Z (zb hN Z (qd Z (qd Z (za (yj _ Z Z (.inl ⟨Z,Z⟩)) (qd Z (za (yj _ Z Z (.inl ⟨Z,Z⟩)) (bE H fun l3 h4 H=>za (vy tyU9 Z Z Z h4) (bE H fun r5 h6 H=>za (zk (x1k l3 16 8 r5 h6) ⟨.inl Z,.inl Z,.inl Z,U⟩) (qd Z (za (zz Z Z) (za (zz Z Z) (qe Z (qe Z (ze (zb hN Z (qd Z (za (z69 (n:=r5.2) (show Tryz.prog.underlying 104=some (.interface (Tryz.prog.methodsAt 104)) from by kernel_rfl) Z) ?_))))))))))))))))))
 refine zf _ Z (fun h7 => ?_) (fun h7 => ?_)
 ·refine tE h7 H fun H=>zb hN Z (qe Z (zi ?_))
  cases H
  exact ⟨U,.inl Z,U⟩
 ·refine fE h7 H fun H=>zl (zb hN Z (qd Z (za (jg Yf tyU5 Z) (qe Z (zi ?_)))))
  cases H
  exact ⟨U,.inl Z,U⟩
theorem x1v (c1:Int) (r:(Bool)) (H:Zr c1=some r):Fn Tryz.prog 219 [vval (.int .u8 c1)] (zu [zh r]):=by
 refine ⟨by kernel_rfl,yg (us:=[zh r]) Tryz.func219 Z Z Z Z fun X hN => ?_⟩
 unfold Zr at H
 refine zb hN Z (qe Z (yb (ι:=Bool) (fun i=>[(2,.dat (zh i))]) (fun i=>[]) (fun i=>z3n i=some r) (fun i=>Z) ?_ ?_))
 ·skip
  refine zn hN Z (qd Z (bE H fun r2 h3 H=>za (zk (y6e c1 r2 h3) ⟨.inl Z,U⟩) (qd Z (yi (j:=2) Z Z (fun h4 => ?_) (fun h4 => ?_) Z))))
  ·refine u3 h4 H fun h5 H=>zg Z Z h4 (zd (.dat _) Z) (bE H fun r6 h7 H=>zg Z Z h4 (zk (y2g c1 r6 h7) ⟨.inl Z,U⟩) (za (ye Z (bFF h5) Z) (qd Z (yi (j:=6) Z Z (fun h8 => ?_) (fun h8 => ?_) Z))))
   ·exact u3 h8 H fun h9 H=>zg Z Z h8 (zd (.dat _) Z) (bE H fun r10 h11 H=>zg Z Z h8 (zk (y2e [45,46,95,126] c1 r10 h11) ⟨.inl Z,.inl Z,U⟩) (zg Z Z h8 (wz Z Z) (za (ye Z (bFF h9) Z) (qe Z ⟨decide (0≤r10),H,⟨Z,U⟩,U⟩))))
   ·exact u4 h8 H fun h12 H=>zc Z Z h8 (zc Z Z h8 (zc Z Z h8 (za (yh Z (bTT h12) Z) (qe Z ⟨true,H,⟨Z,U⟩,U⟩))))
  ·exact u4 h4 H fun h13 H=>zc Z Z h4 (zc Z Z h4 (za (yh Z (bTT h13) Z) (qd Z (zc Z Z Z (zc Z Z Z (zc Z Z Z (za (yh Z Z Z) (qe Z ⟨true,H,⟨Z,U⟩,U⟩))))))))
 ·rintro v14 H
  replace H:z3n v14=some r:=H
  unfold z3n at H
  refine zi ?_
  cases H
  exact ⟨U,.inl Z,U⟩
theorem x1r (c1:Int) (r:(Bs)) (H:Zq c1=some r):Fn Tryz.prog 220 [vval (.int .u8 c1)] (zu [vstr r]):=by
 refine ⟨by kernel_rfl,yg (us:=[vstr r]) Tryz.func220 Z Z Z Z fun X hN => ?_⟩
 unfold Zq at H
 refine zb hN Z (qe Z (ze (vf mixed hN Z Z (qd Z (za (ya (z0o Z Z (by decide)) Z) (bE H fun x2 h3 H=>za (y0u tyU9 Z Z h3) (qd Z (za (ya (y9r Z Z) Z) (bE H fun x4 h5 H=>za (y0u tyU9 Z Z h5) (za (ya (u':=vlst (List.map qn [37,(x2.toNat:Int),(x4.toNat:Int)])) (yo [[_],[_],[_]] Zi ⟨Z,.inl ⟨_,Z,Z,Z⟩,Z,Z,.inl ⟨_,Z,Z,Z⟩,Z,Z,.inl ⟨_,Z,Z,Z⟩,Z,U⟩ Z Z) Z) (za (y0y (C:=qn) Qm tyU5 tyU9 (fun _=>Z) Z) (qe Z ⟨Z,?_⟩))))))))))))
 refine zi ?_
 cases H
 exact ⟨U,.inl Z,U⟩
theorem x1e (l1:(List Int)) (s2:Bs) (r:(Int×Int×(List Int))) (H:z30 l1 s2=some r):FnG Tryz.prog 121 [.ptr 0 0,.dat (vstr s2)] [(0,.box (some 0) 131 [.nptr 0,.row 1 l1.length]),(1,.row 5 1 (List.map qn l1))] (.dat (zu [vint r.1,verr r.2.1])) [(0,.box (some 0) 131 [.nptr 0,.row 900 r.2.2.length]),(900,.row 5 1 (List.map qn r.2.2))]:=by
 refine kv (by kernel_rfl) Tryz.func121 Z Z Z Z fun X A hN => ?_
 refine vi ?_
 unfold z30 at H
 refine zb hN Z (qe Z (qe Z (zb hN Z (za (zd (.ptr _ _) Z) (zj (y9n x4m Z) Z (zb hN Z (za (zd (.ptr _ _) Z) (za (zd (.ptr _ _) Z) (za (ju Z) (za (zq y0n Z) (zm (zv y0g Z Z) Z (qd Z (gE H fun h3 H=>zj (y9c (C:=qn) (fun _=>Z) (show tyB8 Tryz.prog 129 9 5 from ⟨by kernel_rfl,by kernel_rfl,by kernel_rfl⟩) Z Z Z h3) Z ?_)))))))))))))
 refine za (ju Z) (za (zq y0n Z) (xy (xw y0g Z Z (by rw [List.length_map]) Z) Z Z ?_))
 refine zb hN Z (qd Z (za (yz tyU9 Z) (qe Z (qe Z (zi ?_)))))
 cases H
 show Cv _ _ _ _
 exact wq (rn [(1,900)]) [(4,.dat (vint (s2.length:Int))),(5,.dat (verr 0))] [(0,.box (some (A.bl 0)) 131 [.nptr 0,.row 1 ((l1++yn s2).length)]),(1,.row 5 1 (List.map qn (l1++yn s2)))] ⟨Z,Z,U⟩ ⟨Z,Z,U⟩ Z Z ⟨U,[(4,.dat (vint (s2.length:Int))),(5,.dat (verr 0))],⟨Z,Z,U⟩,⟨Z,Z,U⟩,Z,.inl ⟨[vint (s2.length:Int),verr 0],⟨Z,Z,U⟩,Z⟩⟩
theorem w09 (s1:Bs) (r:(Bs×Bool)) (H:z71 s1=some r):Fn Tryz.prog 164 [vstr s1] (zu [vstr r.1,zh r.2]):=by
 refine ⟨by kernel_rfl,yg (us:=[vstr r.1,zh r.2]) Tryz.func164 Z Z Z Z fun X hN => ?_⟩
 unfold z71 at H
 refine zb hN Z (qe Z (qe Z (zb hN Z (zj (qu 1 y37 Z) Z (y3r 1 0 (.nptr 1) Z Z y5o (z6r 1 1 2 5 1 Z Z Z Z (yb (ι:=(List Int)) (fun i=>[(4,.ptr 1 0)]) (fun i=>[(1,.box none 131 [.nptr 1,.row 2 i.length]),(2,.row 5 1 (List.map qn i))]) (fun i=>z7m i=some r) (fun i=>Z) ?_ ?_)))))))
 ·refine vi (zb hN Z (qe Z (zx (uz (fun (s:Int×(List Int))=>[(0,.dat (vstr s1)),(4,.ptr 1 0),(5,.dat (vint s.1))]) (fun (s:Int×(List Int))=>[(1,.box none 131 [.nptr 1,.row 2 s.2.length]),(2,.row 5 1 (List.map qn s.2))]) (0,([]:List Int)) H ⟨Z,Z,Z,U⟩ ⟨Z,Z,U⟩ (fun _=>Z) ?_))))
  rintro ⟨i2,l3⟩ q4 H hq4
  replace H:ko s1 i2 l3=some q4:=H
  unfold ko at H
  refine vi (ze (zb hN Z (qd Z (qd Z (za (yz tyU9 Z) (za (zy Z Z) (zf _ Z (fun h5 => ?_) (fun h5 => ?_))))))))
  ·refine tE h5 H fun H=>zl (yb (ι:=Int×(List Int)) (fun i=>[(0,.dat (vstr s1)),(4,.ptr 1 0),(5,.dat (vint i.1))]) (fun i=>[(1,.box none 131 [.nptr 1,.row 7 i.2.length]),(7,.row 5 1 (List.map qn i.2))]) (fun i=>z0w i.1 i.2=some q4) (fun i=>Z) ?_ ?_)
   ·refine vi (zx (ze (zb hN Z (qd Z (qd Z (bE H fun x6 h7 H=>za (jy tyU9 Z Z h7) (za (qj Z Z) (zf _ Z (fun h8 => ?_) (fun h8 => ?_)))))))))
    ·refine tE h8 H fun H=>zb hN Z (qd Z (qd Z (za (jy tyU9 Z Z h7) (bE H fun r9 h10 H=>wx (rn [(0,1),(1,2),(900,3)]) [(0,_,_,some _),(1,_,_,none)] [(900,_)] (z1m l3 (x6.toNat:Int) r9 h10) ⟨Z,Z,Z,U⟩ ⟨.inl (.inl Z),.inl (.inl Z),U⟩ ⟨⟨⟨Z,Z⟩,U⟩,⟨⟨Z,Z,Z⟩,U⟩,U⟩ Z (yr ?_)))))
     show Cv _ _ _ _
     exact wq (rn [(3,7)]) [(0,.dat (vstr s1)),(4,.ptr 1 0),(5,.dat (vint i2))] [(1,.box none 131 [.nptr 1,.row 3 r9.2.length]),(3,.row 5 1 (List.map qn r9.2))] ⟨Z,Z,Z,U⟩ ⟨Z,Z,U⟩ Z Z ⟨(i2,r9.2),H,⟨Z,Z,Z,U⟩,⟨Z,Z,U⟩⟩
    ·refine fE h8 H fun H=>zl (ze (zb hN Z (qd Z (qd Z (bE H fun r11 h12 H=>za (zk (x1s s1 i2 r11 h12) ⟨.inl Z,.inl Z,U⟩) (za (yy Z) (zf _ Z (fun h13 => ?_) (fun h13 => ?_))))))))
     ·refine tE h13 H fun H=>zb hN Z (qe Z (qe Z (zi ?_)))
      replace H:=retl H hq4
      cases H
      show Cv _ _ _ _
      refine vr ?_
      show Cv _ _ _ _
      refine vr ?_
      show Cv _ _ _ _
      exact vr ⟨U,.inl Z,.inl Z,U⟩
     ·refine fE h13 H fun H=>zl (yb (ι:=(List Int)) (fun i=>[(0,.dat (vstr s1)),(4,.ptr 1 0),(5,.dat (vint i2))]) (fun i=>[(1,.box none 131 [.nptr 1,.row 6 i.length]),(6,.row 5 1 (List.map qn i))]) (fun i=>z3j i2 i=some q4) (fun i=>Z) ?_ ?_)
      ·refine vi (zb hN Z (qd Z (qd Z (bE H fun r14 h15 H=>za (zk (x1o s1 i2 r14 h15) ⟨.inl Z,.inl Z,U⟩) (qe Z (zb hN Z (qd Z (bE H fun r16 h17 H=>za (zk (x1v r14 r16 h17) ⟨.inl Z,U⟩) (zf _ Z (fun h18 => ?_) (fun h18 => ?_))))))))))
       ·refine tE h18 H fun H=>zn hN Z (qd Z (bE H fun r19 h20 H=>wx (rn [(0,1),(1,2),(900,4)]) [(0,_,_,some _),(1,_,_,none)] [(900,_)] (z1m l3 r14 r19 h20) ⟨Z,Z,Z,U⟩ ⟨.inl (.inl Z),.inl (.inl Z),U⟩ ⟨⟨⟨Z,Z⟩,U⟩,⟨⟨Z,Z,Z⟩,U⟩,U⟩ Z (vo ?_)))
        show Cv _ _ _ _
        exact wq (rn [(4,6)]) [(0,.dat (vstr s1)),(4,.ptr 1 0),(5,.dat (vint i2))] [(1,.box none 131 [.nptr 1,.row 4 r19.2.length]),(4,.row 5 1 (List.map qn r19.2))] ⟨Z,Z,Z,U⟩ ⟨Z,Z,U⟩ Z Z ⟨r19.2,H,⟨Z,Z,Z,U⟩,⟨Z,Z,U⟩⟩
       ·refine fE h18 H fun H=>zn hN Z (qd Z (bE H fun r21 h22 H=>za (zk (x1r r14 r21 h22) ⟨.inl Z,U⟩) (bE H fun r23 h24 H=>wx (rn [(0,1),(1,2),(900,5)]) [(0,_,_,some _),(1,_,_,none)] [(900,_)] (x1e l3 r21 r23 h24) ⟨Z,Z,Z,U⟩ ⟨.inl (.inl Z),.inl (.inl Z),U⟩ ⟨⟨⟨Z,Z⟩,U⟩,⟨⟨Z,Z,Z⟩,U⟩,U⟩ Z (vo ?_))))
        show Cv _ _ _ _
        exact wq (rn [(5,6)]) [(0,.dat (vstr s1)),(4,.ptr 1 0),(5,.dat (vint i2))] [(1,.box none 131 [.nptr 1,.row 5 r23.2.2.length]),(5,.row 5 1 (List.map qn r23.2.2))] ⟨Z,Z,Z,U⟩ ⟨Z,Z,U⟩ Z Z ⟨r23.2.2,H,⟨Z,Z,Z,U⟩,⟨Z,Z,U⟩⟩
      ·rintro l25 H
       replace H:z3j i2 l25=some q4:=H
       unfold z3j at H
       refine zn hN Z (qd Z (za (yj _ Z Z (.inl ⟨Z,Z⟩)) (qe Z (vo ?_))))
       show Cv _ _ _ _
       exact wq (rn [(6,7)]) [(0,.dat (vstr s1)),(4,.ptr 1 0),(5,.dat (vint (wr (i2+2))))] [(1,.box none 131 [.nptr 1,.row 6 l25.length]),(6,.row 5 1 (List.map qn l25))] ⟨Z,Z,Z,U⟩ ⟨Z,Z,U⟩ Z Z ⟨(wr (i2+2),l25),H,⟨Z,Z,Z,U⟩,⟨Z,Z,U⟩⟩
   ·rintro ⟨i26,l27⟩ H
    replace H:z0w i26 l27=some q4:=H
    unfold z0w at H
    refine zn hN Z (qd Z (za (yj _ Z Z (.inl ⟨Z,Z⟩)) (qe Z (vo ?_))))
    show Cv _ _ _ _
    exact wq (rn [(7,2)]) [(0,.dat (vstr s1)),(4,.ptr 1 0),(5,.dat (vint (wr (i26+1))))] [(1,.box none 131 [.nptr 1,.row 7 l27.length]),(7,.row 5 1 (List.map qn l27))] ⟨Z,Z,Z,U⟩ ⟨Z,Z,U⟩ Z Z ⟨_,yx H,⟨Z,Z,Z,U⟩,⟨Z,Z,U⟩⟩
  ·refine fE h5 H fun H=>yr ?_
   replace H:=outl H hq4
   show Cv _ _ _ _
   refine vr ?_
   show Cv _ _ _ _
   exact vr ⟨l3,H,⟨Z,U⟩,⟨Z,Z,U⟩⟩
 ·rintro l28 H
  replace H:z7m l28=some r:=H
  unfold z7m at H
  refine zb hN Z (gE H fun h29 H=>wx (rn [(0,1),(1,2)]) [(0,_,_,none),(1,_,_,none)] [] (y6a h29 (C:=qn) (fun _=>Z)) ⟨Z,Z,U⟩ ⟨.inl (.inl Z),U⟩ ⟨⟨⟨Z,Z⟩,U⟩,⟨⟨Z,Z,Z⟩,U⟩,U⟩ Z (qe Z (qe Z (zi ?_))))
  cases H
  exact ⟨U,.inl Z,.inl Z,U⟩
theorem w1h (s1:Bs) (r:(Bs×Int)) (H:z79 s1=some r):Fn Tryz.prog 109 [vstr s1] (zu [vstr r.1,vint r.2]):=by
 refine ⟨by kernel_rfl,yg (us:=[vstr r.1,vint r.2]) Tryz.func109 Z Z Z Z fun X hN => ?_⟩
 unfold z79 at H
 refine zb hN Z (qe Z (qe Z (ze (zb hN Z (qd Z (bE H fun r2 h3 H=>za (zk (x1x s1 r2 h3) ⟨.inl Z,U⟩) (qe Z (zb hN Z (qd Z (za (qj Z Z) (zf _ Z (fun h4 => ?_) (fun h4 => ?_))))))))))))
 ·refine tE h4 H fun H=>zb hN Z (qd Z (qe Z (qe Z (zi ?_))))
  cases H
  exact ⟨U,.inl Z,.inl Z,U⟩
 ·refine fE h4 H fun H=>zl (zb hN Z (qd Z (bE H fun r5 h6 H=>za (zk (w09 s1 r5 h6) ⟨.inl Z,U⟩) (qd Z (za (zz Z Z) (za (zz Z Z) (qe Z (qe Z (ze (zb hN Z (qd Z (za (yy Z) (zf _ Z (fun h7 => ?_) (fun h7 => ?_))))))))))))))
  ·refine tE h7 H fun H=>zb hN Z (qe Z (qe Z (zi ?_)))
   cases H
   exact ⟨U,.inl Z,.inl Z,U⟩
  ·refine fE h7 H fun H=>zl (zb hN Z (qe Z (zb hN Z (qd Z (bE H fun l8 h9 H=>za (vy tyU9 Z Z Z h9) (bE H fun r10 h11 H=>za (zk (Yx l8 [47] r10 h11) ⟨.inl Z,.inl Z,U⟩) (qe Z (ze (zb hN Z (qd Z (za (qi wt Z) (qd Z (zx (vp 6 1 9 1 Z Z Z (gE H fun h15 H=>qv (fun (k13:Nat) (s:(List Bs))=>[(6,.row 1 s.length),(7,.dat (vlst (List.map zp r10))),(25,.dat (vlst (List.map zp r10))),(26,.dat (vint (r10.length:Int))),(27,.dat (vint (k13:Int)))]) (fun (k13:Nat) (s:(List Bs))=>[(1,.row 9 1 (List.map zp s))]) [] H ⟨Z,Z,Z,Z,Z,U⟩ ⟨Z,U⟩ (fun _ _=>Z) ?_ ?_)))))))))))))))
   ·rintro l12 H
    replace H:z7p l12=some r:=H
    unfold z7p at H
    refine zb hN Z (za (zy Z Z) (ze (zf _ Z (fun h=>(lt_t h).elim) (fun h => ?_))))
    refine yr (ze (Zj 6 1 Z Z Z (zn hN Z (qd Z (bE H fun r17 h18 H=>za (zk (z41 l12 [47] r17 h18) ⟨.inl Z,.inl Z,U⟩) (gE H fun h19 H=>za (jb Z Z (Nat.le_trans h19 (by decide))) (qe Z (qe Z (zi ?_)))))))))
    cases H
    exact ⟨U,.inl Z,.inl Z,U⟩
   ·rintro k13 x16 l12 q14 h20 h21 H hq14
    replace H:z3s r10 k13 x16 l12=some q14:=H
    unfold z3s at H
    refine vi (zb hN Z (za (zy Z Z) (ze (zf _ Z (fun h => ?_) (fun h=>(lt_f h20 h).elim)))))
    refine zl (yb (ι:=(List Bs)) (fun i=>[(6,.row 4 i.length),(7,.dat (vlst (List.map zp r10))),(25,.dat (vlst (List.map zp r10))),(26,.dat (vint (r10.length:Int))),(27,.dat (vint (k13:Int)))]) (fun i=>[(4,.row 9 1 (List.map zp i))]) (fun i=>z03 i=some q14) (fun i=>Z) ?_ ?_)
    ·refine vi (zx (zb hN Z (qd Z (za (wc vn (fun _=>Z) Z Z h21) (za (qz tyS9 Z (qk h21) Z) (qe Z (qe Z (yb (ι:=(List Bs)) (fun i=>[(6,.row 3 i.length),(7,.dat (vlst (List.map zp r10))),(8,.dat (vint (k13:Int))),(25,.dat (vlst (List.map zp r10))),(26,.dat (vint (r10.length:Int))),(27,.dat (vint (k13:Int)))]) (fun i=>[(3,.row 9 1 (List.map zp i))]) (fun i=>z3t r10 k13 i=some q14) (fun i=>Z) ?_ ?_))))))))
     ·refine vi (zb hN Z (qd Z (zx (zb hN Z (za (vg Z Z) (qe Z (zf _ Z (fun h22 => ?_) (fun h22 => ?_))))))))
      ·refine tE h22 H fun H=>zl ?_
       show Cv _ _ _ _
       exact wq (rn [(1,3)]) [(6,.row 1 l12.length),(7,.dat (vlst (List.map zp r10))),(8,.dat (vint (k13:Int))),(25,.dat (vlst (List.map zp r10))),(26,.dat (vint (r10.length:Int))),(27,.dat (vint (k13:Int)))] [(1,.row 9 1 (List.map zp l12))] ⟨Z,Z,Z,Z,Z,Z,U⟩ ⟨Z,U⟩ Z Z ⟨l12,H,⟨Z,Z,Z,Z,Z,Z,U⟩,⟨Z,U⟩⟩
      ·refine fE h22 H fun H=>zb hN Z (za (vg Z Z) (qe Z (zf _ Z (fun h23 => ?_) (fun h23 => ?_))))
       ·refine tE h23 H fun H=>zn hN Z (za (zd (.row _ _) Z) (za (zd (.row _ _) Z) (zm (Qp wt Z Z) Z (za (yj _ Z Z (.inr (.inl ⟨Z,Z⟩))) (za (x67 Z Z) (gE H fun h24 H=>y98 (y9b (C:=zp) 2 vn Z Z Z h24) Z Z (za (qr (.row _ _) Z) (vo ?_))))))))
        show Cv _ _ _ _
        exact wq (rn [(2,3)]) [(6,.row 2 ((max (wr ((l12.length:Int) - 1)) 0).toNat)),(7,.dat (vlst (List.map zp r10))),(8,.dat (vint (k13:Int))),(25,.dat (vlst (List.map zp r10))),(26,.dat (vint (r10.length:Int))),(27,.dat (vint (k13:Int)))] [(2,.row 9 1 (List.map zp (l12.take (max (wr ((l12.length:Int) - 1)) 0).toNat)))] ⟨Z,Z,Z,Z,Z,Z,U⟩ ⟨Z,U⟩ Z Z ⟨(l12.take (max (wr ((l12.length:Int) - 1)) 0).toNat),H,⟨congrArg (Slot.row 3) ((y7h h24)).symm,Z,Z,Z,Z,Z,U⟩,⟨Z,U⟩⟩
       ·refine fE h23 H fun H=>zb hN Z (za (zd (.row _ _) Z) (qd Z (za (ya (u':=vlst (List.map zp [x16])) (yo [[_]] qf ⟨Z,.inl ⟨_,Z,Z,Z⟩,Z,U⟩ Z Z) Z) (gE H fun h25 H=>zj (va qf (fun _=>Z) Z Z Z ⟨by simp,by first | (simp; done) | simpa using h25⟩ Z) Z ?_))))
        refine za (qr (.row _ _) Z) (yr ?_)
        show Cv _ _ _ _
        refine vr ?_
        show Cv _ _ _ _
        exact wq (rn [(1,4)]) [(6,.row 1 ((l12++[x16]).length)),(7,.dat (vlst (List.map zp r10))),(25,.dat (vlst (List.map zp r10))),(26,.dat (vint (r10.length:Int))),(27,.dat (vint (k13:Int)))] [(1,.row 9 1 (List.map zp (l12++[x16])))] ⟨Z,Z,Z,Z,Z,U⟩ ⟨Z,U⟩ Z Z ⟨(l12++[x16]),H,⟨Z,Z,Z,Z,Z,U⟩,⟨Z,U⟩⟩
     ·rintro out26 H
      replace H:z3t r10 k13 out26=some q14:=H
      unfold z3t at H
      refine zb hN Z (qd Z (qd Z (za (qi wt Z) (za (yj _ Z Z (.inr (.inl ⟨Z,Z⟩))) (za (ql Z Z) (zf _ Z (fun h27 => ?_) (fun h27 => ?_)))))))
      ·refine tE h27 H fun H=>zn hN Z (za (zd (.row _ _) Z) (za (ya (u':=vlst (List.map zp [[]])) (yo [[_]] qf ⟨Z,.inl ⟨_,Z,Z,Z⟩,Z,U⟩ Z Z) Z) (gE H fun h28 H=>zj (va qf (fun _=>Z) Z Z Z ⟨by simp,by first | (simp; done) | simpa using h28⟩ Z) Z ?_)))
       refine za (qr (.row _ _) Z) (vo ?_)
       show Cv _ _ _ _
       exact wq (rn [(3,4)]) [(6,.row 3 ((out26++([[]])).length)),(7,.dat (vlst (List.map zp r10))),(25,.dat (vlst (List.map zp r10))),(26,.dat (vint (r10.length:Int))),(27,.dat (vint (k13:Int)))] [(3,.row 9 1 (List.map zp (out26++([[]]))))] ⟨Z,Z,Z,Z,Z,U⟩ ⟨Z,U⟩ Z Z ⟨(out26++([[]])),H,⟨Z,Z,Z,Z,Z,U⟩,⟨Z,U⟩⟩
      ·refine fE h27 H fun H=>zl ?_
       show Cv _ _ _ _
       exact wq (rn [(3,4)]) [(6,.row 3 out26.length),(7,.dat (vlst (List.map zp r10))),(25,.dat (vlst (List.map zp r10))),(26,.dat (vint (r10.length:Int))),(27,.dat (vint (k13:Int)))] [(3,.row 9 1 (List.map zp out26))] ⟨Z,Z,Z,Z,Z,U⟩ ⟨Z,U⟩ Z Z ⟨out26,H,⟨Z,Z,Z,Z,Z,U⟩,⟨Z,U⟩⟩
    ·rintro out29 H
     replace H:z03 out29=some q14:=H
     unfold z03 at H
     refine zn hN Z (za (qo Z Z (by omega)) (qd Z (vo ?_)))
     show Cv _ _ _ _
     exact wq (rn [(4,1)]) [(6,.row 4 out29.length),(7,.dat (vlst (List.map zp r10))),(25,.dat (vlst (List.map zp r10))),(26,.dat (vint (r10.length:Int))),(27,.dat (vint ((k13:Int)+1)))] [(4,.row 9 1 (List.map zp out29))] ⟨Z,Z,Z,Z,Z,U⟩ ⟨Z,U⟩ Z Z ⟨_,yx H,⟨Z,Z,Z,Z,Z,U⟩,⟨Z,U⟩⟩
theorem x1w (s1:Bs) (plus2:Bool) (r:(Bs×Bool)) (H:Qz s1 plus2=some r):Fn Tryz.prog 165 [vstr s1,zh plus2] (zu [vstr r.1,zh r.2]):=by
 refine ⟨by kernel_rfl,yg (us:=[vstr r.1,zh r.2]) Tryz.func165 Z Z Z Z fun X hN => ?_⟩
 unfold Qz at H
 refine zb hN Z (qe Z (qe Z (zb hN Z (zj (qu 1 y37 Z) Z (y3r 1 0 (.nptr 1) Z Z y5o (z6r 1 1 2 5 1 Z Z Z Z (yb (ι:=(List Int)) (fun i=>[(6,.ptr 1 0)]) (fun i=>[(1,.box none 131 [.nptr 1,.row 2 i.length]),(2,.row 5 1 (List.map qn i))]) (fun i=>z7n i=some r) (fun i=>Z) ?_ ?_)))))))
 ·refine vi (zb hN Z (qe Z (zx (uz (fun (s:Int×(List Int))=>[(0,.dat (vstr s1)),(1,.dat (zh plus2)),(6,.ptr 1 0),(7,.dat (vint s.1))]) (fun (s:Int×(List Int))=>[(1,.box none 131 [.nptr 1,.row 2 s.2.length]),(2,.row 5 1 (List.map qn s.2))]) (0,([]:List Int)) H ⟨Z,Z,Z,Z,U⟩ ⟨Z,Z,U⟩ (fun _=>Z) ?_))))
  rintro ⟨i3,l4⟩ q5 H hq5
  replace H:jv s1 plus2 i3 l4=some q5:=H
  unfold jv at H
  refine vi (ze (zb hN Z (qd Z (qd Z (za (yz tyU9 Z) (za (zy Z Z) (zf _ Z (fun h6 => ?_) (fun h6 => ?_))))))))
  ·refine tE h6 H fun H=>zl (yb (ι:=Int×(List Int)) (fun i=>[(0,.dat (vstr s1)),(1,.dat (zh plus2)),(6,.ptr 1 0),(7,.dat (vint i.1))]) (fun i=>[(1,.box none 131 [.nptr 1,.row 6 i.2.length]),(6,.row 5 1 (List.map qn i.2))]) (fun i=>Yl i.1 i.2=some q5) (fun i=>Z) ?_ ?_)
   ·refine vi (zx (zx (zb hN Z (qd Z (qd Z (bE H fun x7 h8 H=>za (jy tyU9 Z Z h8) (za (ql Z Z) (qd Z (wd Z Z (fun hc=>zd (.dat _) Z) (za (vd Z (fun hb=>(cnd (c:=(decide ((x7.toNat:Int)=43))) hb)) Z) (qe Z (zf _ Z (fun h9 => ?_) (fun h9 => ?_)))))))))))))
    ·refine tE h9 H fun H=>zn hN Z (bE H fun r10 h11 H=>wx (rn [(0,1),(1,2),(900,3)]) [(0,_,_,some _),(1,_,_,none)] [(900,_)] (z1m l4 32 r10 h11) ⟨Z,Z,Z,U⟩ ⟨.inl (.inl Z),.inl (.inl Z),U⟩ ⟨⟨⟨Z,Z⟩,U⟩,⟨⟨Z,Z,Z⟩,U⟩,U⟩ Z (vo ?_))
     show Cv _ _ _ _
     exact wq (rn [(3,6)]) [(0,.dat (vstr s1)),(1,.dat (zh plus2)),(6,.ptr 1 0),(7,.dat (vint i3))] [(1,.box none 131 [.nptr 1,.row 3 r10.2.length]),(3,.row 5 1 (List.map qn r10.2))] ⟨Z,Z,Z,Z,U⟩ ⟨Z,Z,U⟩ Z Z ⟨(i3,r10.2),H,⟨Z,Z,Z,Z,U⟩,⟨Z,Z,U⟩⟩
    ·refine fE h9 H fun H=>zb hN Z (qd Z (qd Z (za (jy tyU9 Z Z h8) (za (qj Z Z) (qe Z (zf _ Z (fun h12 => ?_) (fun h12 => ?_)))))))
     ·refine tE h12 H fun H=>zn hN Z (qd Z (qd Z (za (jy tyU9 Z Z h8) (bE H fun r13 h14 H=>wx (rn [(0,1),(1,2),(900,4)]) [(0,_,_,some _),(1,_,_,none)] [(900,_)] (z1m l4 (x7.toNat:Int) r13 h14) ⟨Z,Z,Z,U⟩ ⟨.inl (.inl Z),.inl (.inl Z),U⟩ ⟨⟨⟨Z,Z⟩,U⟩,⟨⟨Z,Z,Z⟩,U⟩,U⟩ Z (vo ?_)))))
      show Cv _ _ _ _
      exact wq (rn [(4,6)]) [(0,.dat (vstr s1)),(1,.dat (zh plus2)),(6,.ptr 1 0),(7,.dat (vint i3))] [(1,.box none 131 [.nptr 1,.row 4 r13.2.length]),(4,.row 5 1 (List.map qn r13.2))] ⟨Z,Z,Z,Z,U⟩ ⟨Z,Z,U⟩ Z Z ⟨(i3,r13.2),H,⟨Z,Z,Z,Z,U⟩,⟨Z,Z,U⟩⟩
     ·refine fE h12 H fun H=>zb hN Z (qd Z (qd Z (bE H fun r15 h16 H=>za (zk (x1s s1 i3 r15 h16) ⟨.inl Z,.inl Z,U⟩) (za (yy Z) (qe Z (zf _ Z (fun h17 => ?_) (fun h17 => ?_)))))))
      ·refine tE h17 H fun H=>zb hN Z (qe Z (qe Z (zi ?_)))
       replace H:=retl H hq5
       cases H
       show Cv _ _ _ _
       refine vr ?_
       show Cv _ _ _ _
       refine vr ?_
       show Cv _ _ _ _
       exact vr ⟨U,.inl Z,.inl Z,U⟩
      ·refine fE h17 H fun H=>zb hN Z (qd Z (qd Z (bE H fun r18 h19 H=>za (zk (x1o s1 i3 r18 h19) ⟨.inl Z,.inl Z,U⟩) (bE H fun r20 h21 H=>wx (rn [(0,1),(1,2),(900,5)]) [(0,_,_,some _),(1,_,_,none)] [(900,_)] (z1m l4 r18 r20 h21) ⟨Z,Z,Z,U⟩ ⟨.inl (.inl Z),.inl (.inl Z),U⟩ ⟨⟨⟨Z,Z⟩,U⟩,⟨⟨Z,Z,Z⟩,U⟩,U⟩ Z (zn hN Z (qd Z (za (yj _ Z Z (.inl ⟨Z,Z⟩)) (qe Z (vo ?_)))))))))
       show Cv _ _ _ _
       exact wq (rn [(5,6)]) [(0,.dat (vstr s1)),(1,.dat (zh plus2)),(6,.ptr 1 0),(7,.dat (vint (wr (i3+2))))] [(1,.box none 131 [.nptr 1,.row 5 r20.2.length]),(5,.row 5 1 (List.map qn r20.2))] ⟨Z,Z,Z,Z,U⟩ ⟨Z,Z,U⟩ Z Z ⟨(wr (i3+2),r20.2),H,⟨Z,Z,Z,Z,U⟩,⟨Z,Z,U⟩⟩
   ·rintro ⟨i22,l23⟩ H
    replace H:Yl i22 l23=some q5:=H
    unfold Yl at H
    refine zn hN Z (qd Z (za (yj _ Z Z (.inl ⟨Z,Z⟩)) (qe Z (vo ?_))))
    show Cv _ _ _ _
    exact wq (rn [(6,2)]) [(0,.dat (vstr s1)),(1,.dat (zh plus2)),(6,.ptr 1 0),(7,.dat (vint (wr (i22+1))))] [(1,.box none 131 [.nptr 1,.row 6 l23.length]),(6,.row 5 1 (List.map qn l23))] ⟨Z,Z,Z,Z,U⟩ ⟨Z,Z,U⟩ Z Z ⟨_,yx H,⟨Z,Z,Z,Z,U⟩,⟨Z,Z,U⟩⟩
  ·refine fE h6 H fun H=>yr ?_
   replace H:=outl H hq5
   show Cv _ _ _ _
   refine vr ?_
   show Cv _ _ _ _
   exact vr ⟨l4,H,⟨Z,U⟩,⟨Z,Z,U⟩⟩
 ·rintro l24 H
  replace H:z7n l24=some r:=H
  unfold z7n at H
  refine zb hN Z (gE H fun h25 H=>wx (rn [(0,1),(1,2)]) [(0,_,_,none),(1,_,_,none)] [] (y6a h25 (C:=qn) (fun _=>Z)) ⟨Z,Z,U⟩ ⟨.inl (.inl Z),U⟩ ⟨⟨⟨Z,Z⟩,U⟩,⟨⟨Z,Z,Z⟩,U⟩,U⟩ Z (qe Z (qe Z (zi ?_))))
  cases H
  exact ⟨U,.inl Z,.inl Z,U⟩
theorem w06 (s1:(List zo)) (p1:zo→Option (Bool)) (fv1:Nat) (us1:List V) (hp1:∀ a0 r,p1 a0=some r→Fn Tryz.prog fv1 ([vagg (yw a0)]++us1) (zu [zh r])) (r:(Int)) (H:y5y s1 p1=some r):Fn Tryz.prog 159 [vlst (List.map yw s1),vfn fv1 us1] (zu [vint r]):=by
 refine ⟨by kernel_rfl,yg (us:=[vint r]) Tryz.func159 Z Z Z Z fun X hN => ?_⟩
 unfold y5y at H
 refine zb hN Z (qe Z (ze (zb hN Z (qd Z (za (qi xr Z) (qd Z (zx (gE H fun h4 H=>qv (fun (k2:Nat) (s:Unit)=>[(0,.dat (vlst (List.map yw s1))),(1,.dat (vfn fv1 us1)),(7,.dat (vint (s1.length:Int))),(8,.dat (vint (k2:Int)))]) (fun (k2:Nat) (s:Unit)=>[]) () H ⟨Z,Z,Z,Z,U⟩ U (fun _ _=>Z) ?_ ?_))))))))
 ·rintro ⟨⟩ H
  replace H:y42=some r:=H
  unfold y42 at H
  refine zb hN Z (za (zy Z Z) (ze (zf _ Z (fun h=>(lt_t h).elim) (fun h => ?_))))
  refine yr (zb hN Z (qe Z (zi ?_)))
  cases H
  exact ⟨U,.inl Z,U⟩
 ·rintro k2 x5 ⟨⟩ q3 h6 h7 H hq3
  replace H:y41 p1 k2 x5=some q3:=H
  unfold y41 at H
  refine zb hN Z (za (zy Z Z) (ze (zf _ Z (fun h => ?_) (fun h=>(lt_f h6 h).elim))))
  refine zl (ze (zx (zb hN Z (qd Z (qe Z (zb hN Z (qd Z (qd Z (qd Z (za (wc ut (fun _=>Z) Z Z h7) (za (kh jt Z (qk h7) Z) (bE H fun r8 h9 H=>za (y0z (hp1 x5 r8 h9) Z ⟨.inl Z,U⟩) (zf _ Z (fun h10 => ?_) (fun h10 => ?_))))))))))))))
  ·refine tE h10 H fun H=>zb hN Z (qd Z (qe Z (zi ?_)))
   replace H:=retl H hq3
   cases H
   exact ⟨U,.inl Z,U⟩
  ·exact fE h10 H fun H=>zl (zn hN Z (za (qo Z Z (by omega)) (qd Z ⟨_,yx H,⟨Z,Z,Z,Z,U⟩,U⟩)))
theorem x1c (s1:(List zo)) (p1:zo→Option (Bool)) (fv1:Nat) (us1:List V) (hp1:∀ a0 r,p1 a0=some r→Fn Tryz.prog fv1 ([vagg (yw a0)]++us1) (zu [zh r])) (r:((List zo))) (H:z34 s1 p1=some r):FnG Tryz.prog 100 [.row 0 s1.length,.dat (vfn fv1 us1)] [(0,.row 112 2 (List.map yw s1))] (.row 900 r.length) [(900,.row 112 2 (List.map yw r))]:=by
 refine kv (by kernel_rfl) Tryz.func100 Z Z Z Z fun X A hN => ?_
 unfold z34 at H
 refine zb hN Z (qe Z (zb hN Z (za (zd (.row _ _) Z) (qd Z (bE H fun r2 h3 H=>zm (x7n (id:=0) (es:=List.map yw s1) (w06 s1 p1 fv1 us1 hp1 r2 h3) ⟨.inr ⟨(congrArg (Slot.row 0) (by rw [List.length_map]):Slot.row 0 s1.length=_),Z⟩,.inl (.inl (.inl Z)),U⟩ (fun _ _ _ _ h=>h)) Z ?_)))))
 refine qe Z (ze (zb hN Z (qd Z (za (ql Z Z) (zf _ Z (fun h4 => ?_) (fun h4 => ?_))))))
 ·refine tE h4 H fun H=>zb hN Z (za (zd (.row _ _) Z) (za (qr (.row _ _) Z) (y3s 4 0 900 Z Z (by rw [List.length_map]) Z ?_)))
  refine zi ?_
  cases H
  exact ⟨U,[(4,.row 900 _)],⟨Z,U⟩,⟨Z,U⟩,Z,.inr (.inl ⟨4,Z,Z⟩)⟩
 ·refine fE h4 H fun H=>zl (yb (ι:=Int×(List zo)) (fun i=>[(0,.row 0 i.2.length),(5,.dat (vint i.1))]) (fun i=>[(0,.row 112 2 (List.map yw i.2))]) (fun i=>y08 i.1 i.2=some r) (fun i=>Z) ?_ ?_)
  ·skip
   refine zb hN Z (qd Z (za (yj _ Z Z (.inl ⟨Z,Z⟩)) (qe Z (zx (uz (fun (s:Int×Int×(List zo))=>[(0,.row 0 s.2.2.length),(1,.dat (vfn fv1 us1)),(5,.dat (vint s.1)),(6,.dat (vint s.2.1))]) (fun (s:Int×Int×(List zo))=>[(0,.row 112 2 (List.map yw s.2.2))]) (r2,wr (r2+1),s1) H ⟨Z,Z,Z,Z,U⟩ ⟨Z,U⟩ (fun _=>Z) ?_)))))
   rintro ⟨i5,j6,l7⟩ q8 H hq8
   replace H:y44 p1 i5 j6 l7=some q8:=H
   unfold y44 at H
   refine ze (zb hN Z (qd Z (za (zd (.row _ _) Z) (zm (Qp xr Z Z) Z (za (zy Z Z) (zf _ Z (fun h9 => ?_) (fun h9 => ?_)))))))
   ·refine tE h9 H fun H=>zl (yb (ι:=Int×(List zo)) (fun i=>[(0,.row 0 i.2.length),(1,.dat (vfn fv1 us1)),(5,.dat (vint i.1)),(6,.dat (vint j6))]) (fun i=>[(0,.row 112 2 (List.map yw i.2))]) (fun i=>z7d j6 i.1 i.2=some q8) (fun i=>Z) ?_ ?_)
    ·skip
     refine zx (zb hN Z (za (zd (.row _ _) Z) (qd Z (bE H fun x10 h11 H=>zm (y9a ut Z Z Z h11) Z (zm (y0t jt Z Z (vq h11).2 Z) Z (zj (qu 1 Qk Z) Z (zj (qm jt Z Z Z Z) Z (zb hN Z (qd Z (zm (yq jt Z Z Z) Z (bE H fun r12 h13 H=>za (y0z (hp1 x10 r12 h13) Z ⟨.inl Z,U⟩) (za (yy Z) (zf _ Z (fun h14 => ?_) (fun h14 => ?_))))))))))))))
     ·exact tE h14 H fun H=>zb hN Z (za (zd (.row _ _) Z) (qd Z (zm (yq jt Z Z Z) Z (bE H fun x15 h16 H=>zm (y9a ut Z Z Z h16) Z (zj (x6m (C:=yw) jt Z Z Z (y7s (vq h16).2) Z Z) Z (zn hN Z (qd Z (za (yj _ Z Z (.inl ⟨Z,Z⟩)) (qe Z ⟨(wr (i5+1),(l7.set i5.toNat x10)),H,⟨congrArg (Slot.row 0) (by simp),Z,Z,Z,U⟩,⟨Z,U⟩⟩)))))))))
     ·exact fE h14 H fun H=>zl ⟨(i5,l7),H,⟨Z,Z,Z,Z,U⟩,⟨Z,U⟩⟩
    ·rintro ⟨i17,s18⟩ H
     replace H:z7d j6 i17 s18=some q8:=H
     unfold z7d at H
     exact zn hN Z (qd Z (za (yj _ Z Z (.inl ⟨Z,Z⟩)) (qe Z ⟨_,yx H,⟨Z,Z,Z,Z,U⟩,⟨Z,U⟩⟩)))
   ·refine fE h9 H fun H=>yr ?_
    replace H:=outl H hq8
    exact ⟨(i5,l7),H,⟨Z,Z,U⟩,⟨Z,U⟩⟩
  ·rintro ⟨i19,s20⟩ H
   replace H:y08 i19 s20=some r:=H
   unfold y08 at H
   refine zb hN Z (za (zd (.row _ _) Z) (qd Z (gE H fun h21 H=>zm (x6n (C:=yw) ut Z Z Z h21) Z (zj (x6p (C:=yw) (zo.mk [] []) xr Qk Z Z Z Z Z h21) Z (zb hN Z (za (zd (.row _ _) Z) (qd Z (gE H fun h22 H=>y98 (y9b (C:=yw) 2 ut Z (w4p (zo.mk [] []) h21) Z h22) Z Z (za (qr (.row _ _) Z) (y3s 4 2 900 Z Z (by rw [List.length_map]; exact (y7h h22)) Z ?_))))))))))
   refine zi ?_
   cases H
   exact ⟨U,[(4,.row 900 _)],⟨Z,U⟩,⟨Z,U⟩,Z,.inr (.inl ⟨4,Z,congrArg (Slot.row 900) (by first | exact y7h (by assumption) | (simp <;> omega))⟩)⟩
theorem w0q (s1:Bs) (r:((List zo)×Int)) (H:Wd s1=some r):FnG Tryz.prog 110 [.dat (vstr s1)] [] (.comp true [.row 900 r.1.length,.dat (vint r.2)]) [(900,.row 112 2 (List.map yw r.1))]:=by
 refine kv (by kernel_rfl) Tryz.func110 Z Z Z Z fun X A hN => ?_
 unfold Wd at H
 refine zb hN Z (qe Z (qe Z (ze (zb hN Z (qd Z (bE H fun r2 h3 H=>za (zk (x1q s1 r2 h3) ⟨.inl Z,U⟩) (qe Z (zb hN Z (qd Z (za (qj Z Z) (zf _ Z (fun h4 => ?_) (fun h4 => ?_))))))))))))
 ·refine tE h4 H fun H=>zb hN Z (qd Z (qe Z (qe Z (vp 2 900 112 2 Z Z Z (zi ?_)))))
  cases H
  exact ⟨U,[(2,.row 900 _),(3,.dat (vint r2))],⟨Z,Z,U⟩,⟨Z,U⟩,Z,.inr (.inr ⟨.row 900 [].length,.dat (vint r2),[],⟨Z,Z,U⟩,Z⟩)⟩
 ·refine fE h4 H fun H=>zl (zb hN Z (qe Z (ze (zb hN Z (qd Z (bE H fun r5 h6 H=>za (zk (Yx s1 [38] r5 h6) ⟨.inl Z,.inl Z,U⟩) (za (qi wt Z) (qd Z (zx (vp 5 1 112 2 Z Z Z (gE H fun h10 H=>qv (fun (k8:Nat) (s:(List zo))=>[(5,.row 1 s.length),(21,.dat (vlst (List.map zp r5))),(22,.dat (vint (r5.length:Int))),(23,.dat (vint (k8:Int)))]) (fun (k8:Nat) (s:(List zo))=>[(1,.row 112 2 (List.map yw s))]) [] H ⟨Z,Z,Z,Z,U⟩ ⟨Z,U⟩ (fun _ _=>Z) ?_ ?_)))))))))))
  ·rintro l7 H
   replace H:Qu l7=some r:=H
   unfold Qu at H
   refine zb hN Z (za (zy Z Z) (ze (zf _ Z (fun h=>(lt_t h).elim) (fun h => ?_))))
   refine yr (ze (zb hN Z (za (zd (.row _ _) Z) (zm (Qp xr Z Z) Z (za (wg Z Z) (zf _ Z (fun h12 => ?_) (fun h12 => ?_)))))))
   ·refine tE h12 H fun H=>zb hN Z (qe Z (qe Z (vp 2 900 112 2 Z Z Z (zi ?_))))
    cases H
    exact ⟨U,[(2,.row 900 _),(3,.dat (vint 2))],⟨Z,Z,U⟩,⟨Z,U⟩,Z,.inr (.inr ⟨.row 900 [].length,.dat (vint 2),[],⟨Z,Z,U⟩,Z⟩)⟩
   ·refine fE h12 H fun H=>zl (zb hN Z (za (zd (.row _ _) Z) (za (qr (.row _ _) Z) (qe Z (y3s 2 1 900 Z Z (by rw [List.length_map]) Z ?_)))))
    refine zi ?_
    cases H
    exact ⟨U,[(2,.row 900 _),(3,.dat (vint 0))],⟨Z,Z,U⟩,⟨Z,U⟩,Z,.inr (.inr ⟨.row 900 l7.length,.dat (vint 0),[],⟨Z,Z,U⟩,Z⟩)⟩
  ·rintro k8 x11 l7 q9 h13 h14 H hq9
   replace H:z01 k8 x11 l7=some q9:=H
   unfold z01 at H
   refine zb hN Z (za (zy Z Z) (ze (zf _ Z (fun h => ?_) (fun h=>(lt_f h13 h).elim))))
   refine zl (yb (ι:=(List zo)) (fun i=>[(5,.row 1 i.length),(21,.dat (vlst (List.map zp r5))),(22,.dat (vint (r5.length:Int))),(23,.dat (vint (k8:Int)))]) (fun i=>[(1,.row 112 2 (List.map yw i))]) (fun i=>z3r i=some q9) (fun i=>Z) ?_ ?_)
   ·skip
    refine zx (zb hN Z (za (wc vn (fun _=>Z) Z Z h14) (za (qz tyS9 Z (qk h14) Z) (qe Z (ze (zb hN Z (qd Z (za (vg Z Z) (zf _ Z (fun h15 => ?_) (fun h15 => ?_))))))))))
    ·exact tE h15 H fun H=>yr ⟨l7,H,⟨Z,Z,Z,Z,U⟩,⟨Z,U⟩⟩
    ·refine fE h15 H fun H=>zl (zb hN Z (qd Z (bE H fun r16 h17 H=>za (zk (z42 x11 [61] r16 h17) ⟨.inl Z,.inl Z,U⟩) (qd Z (za (zz Z Z) (za (zz Z Z) (za (zz Z Z) (qe Z (qe Z (qe Z (zb hN Z (qd Z (bE H fun r18 h19 H=>za (zk (x1w r16.1 true r18 h19) ⟨.inl Z,.inl Z,U⟩) (qd Z (za (zz Z Z) (za (zz Z Z) (qe Z (qe Z (zb hN Z (qd Z ?_))))))))))))))))))))
     refine bE H fun r20 h21 H=>za (zk (x1w r16.2.1 true r20 h21) ⟨.inl Z,.inl Z,U⟩) (qd Z (za (zz Z Z) (za (zz Z Z) (qe Z (qe Z (ze (zb hN Z (qd Z (za (yy Z) (qd Z (yl Z Z (fun hc=>zd (.dat _) Z) (yl Z Z (fun hc=>yy (cnd (c:=(!(!r18.2))) hc)) (za (ww Z Z (fun hb=>(cnd (c:=(!(!r18.2))) (notI hb)))) (zf _ Z (fun h22 => ?_) (fun h22 => ?_)))))))))))))))
     ·refine tE h22 H fun H=>zb hN Z (qe Z (qe Z (vp 2 900 112 2 Z Z Z (zi ?_))))
      replace H:=retl H hq9
      cases H
      exact ⟨U,[(2,.row 900 _),(3,.dat (vint 9))],⟨Z,Z,U⟩,⟨Z,U⟩,Z,.inr (.inr ⟨.row 900 [].length,.dat (vint 9),[],⟨Z,Z,U⟩,Z⟩)⟩
     ·refine fE h22 H fun H=>zl (zn hN Z (za (zd (.row _ _) Z) (qd Z (qd Z (za (ya (u':=vagg (yw (zo.mk r18.1 r20.1))) (vh [(0,[vstr r18.1]),(1,[vstr r20.1])] Qk y0h Z ⟨Z,.inl ⟨_,Z,Z,Z⟩,Z,Z,.inl ⟨_,Z,Z,Z⟩,Z,U⟩) Z) (za (ya (u':=vlst (List.map yw [(zo.mk r18.1 r20.1)])) (yo [_] y0j ⟨Z,.inr Z,Z,U⟩ Z Z) Z) (gE H fun h23 H=>zj (va y0j (fun _=>Z) Z Z Z ⟨by simp,by first | (simp; done) | simpa using h23⟩ Z) Z ?_)))))))
      exact za (qr (.row _ _) Z) ⟨(l7++[(zo.mk r18.1 r20.1)]),H,⟨Z,Z,Z,Z,U⟩,⟨Z,U⟩⟩
   ·rintro out24 H
    replace H:z3r out24=some q9:=H
    unfold z3r at H
    exact zn hN Z (za (qo Z Z (by omega)) (qd Z ⟨_,yx H,⟨Z,Z,Z,Z,U⟩,⟨Z,U⟩⟩))
theorem w1g (p1:zo) (r:(Bool)) (H:z78 p1=some r):Fn Tryz.prog 111 [vagg (yw p1)] (zu [zh r]):=by
 refine ⟨by kernel_rfl,yg (us:=[zh r]) Tryz.func111 Z Z Z Z fun X hN => ?_⟩
 unfold z78 at H
 refine zb hN Z (zj (we 1 Z) Z (qe Z (zb hN Z (zm (yq jt Z Z Z) Z (za (ya (u':=vagg (yw (zo.mk [] []))) (vh [] Qk y0h Z U) Z) (za (y9s [_,_] [_,_] y8n Z Z Z) (qe Z (zi ?_))))))))
 cases H
 exact ⟨U,.inl Z,U⟩
theorem w1k (x1:Int) (r:(Int)) (H:y51 x1=some r):Fn Tryz.prog 192 [vval (.int .u32 x1)] (zu [vint r]):=by
 refine ⟨by kernel_rfl,yg (us:=[vint r]) Tryz.func192 Z Z Z Z fun X hN => ?_⟩
 unfold y51 at H
 refine zb hN Z (qe Z (yb (ι:=Int×Int) (fun i=>[(0,.dat (vval (.int .u32 i.1))),(2,.dat (vint i.2))]) (fun i=>[]) (fun i=>z7u i.1 i.2=some r) (fun i=>Z) ?_ ?_))
 ·skip
  refine zb hN Z (qd Z (za (wz Z Z) (zf _ Z (fun h2 => ?_) (fun h2 => ?_))))
  ·exact tE h2 H fun H=>zb hN Z (qd Z (za (ya (z0o Z Z (by decide)) Z) (qe Z (zn hN Z (qe Z ⟨((shr_ .u32 x1 16),16),H,⟨Z,Z,U⟩,U⟩)))))
  ·exact fE h2 H fun H=>zl ⟨(x1,0),H,⟨Z,Z,U⟩,U⟩
 ·rintro ⟨x3,n4⟩ H
  replace H:z7u x3 n4=some r:=H
  unfold z7u at H
  refine yb (ι:=Int×Int) (fun i=>[(0,.dat (vval (.int .u32 i.1))),(2,.dat (vint i.2))]) (fun i=>[]) (fun i=>z7t i.1 i.2=some r) (fun i=>Z) ?_ ?_
  ·skip
   refine zb hN Z (qd Z (za (wz Z Z) (zf _ Z (fun h5 => ?_) (fun h5 => ?_))))
   ·exact tE h5 H fun H=>zb hN Z (qd Z (za (ya (z0o Z Z (by decide)) Z) (qe Z (zn hN Z (qd Z (za (yj _ Z Z (.inl ⟨Z,Z⟩)) (qe Z ⟨((shr_ .u32 x3 8),wr (n4+8)),H,⟨Z,Z,U⟩,U⟩)))))))
   ·exact fE h5 H fun H=>zl ⟨(x3,n4),H,⟨Z,Z,U⟩,U⟩
  ·rintro ⟨x6,n7⟩ H
   replace H:z7t x6 n7=some r:=H
   unfold z7t at H
   refine zb hN Z (qd Z (qd Z (za (jg y8k tyU5 Z) (bE H fun x8 h9 H=>za (y0u tyU9 Z Z h9) (za (jg tyU5 tyU3 Z) (za (yj _ Z Z (.inl ⟨Z,Z⟩)) (qe Z (zi ?_))))))))
   cases H
   exact ⟨U,.inl Z,U⟩
theorem w1j (x1:Int) (r:(Int)) (H:y50 x1=some r):Fn Tryz.prog 193 [vval (.int .u64 x1)] (zu [vint r]):=by
 refine ⟨by kernel_rfl,yg (us:=[vint r]) Tryz.func193 Z Z Z Z fun X hN => ?_⟩
 unfold y50 at H
 refine zb hN Z (qe Z (yb (ι:=Int×Int) (fun i=>[(0,.dat (vval (.int .u64 i.1))),(2,.dat (vint i.2))]) (fun i=>[]) (fun i=>z7s i.1 i.2=some r) (fun i=>Z) ?_ ?_))
 ·skip
  refine zb hN Z (qd Z (za (wz Z Z) (zf _ Z (fun h2 => ?_) (fun h2 => ?_))))
  ·exact tE h2 H fun H=>zb hN Z (qd Z (za (ya (z0o Z Z (by decide)) Z) (qe Z (zn hN Z (qe Z ⟨((shr_ .u64 x1 32),32),H,⟨Z,Z,U⟩,U⟩)))))
  ·exact fE h2 H fun H=>zl ⟨(x1,0),H,⟨Z,Z,U⟩,U⟩
 ·rintro ⟨x3,n4⟩ H
  replace H:z7s x3 n4=some r:=H
  unfold z7s at H
  refine yb (ι:=Int×Int) (fun i=>[(0,.dat (vval (.int .u64 i.1))),(2,.dat (vint i.2))]) (fun i=>[]) (fun i=>z7r i.1 i.2=some r) (fun i=>Z) ?_ ?_
  ·skip
   refine zb hN Z (qd Z (za (wz Z Z) (zf _ Z (fun h5 => ?_) (fun h5 => ?_))))
   ·exact tE h5 H fun H=>zb hN Z (qd Z (za (ya (z0o Z Z (by decide)) Z) (qe Z (zn hN Z (qd Z (za (yj _ Z Z (.inl ⟨Z,Z⟩)) (qe Z ⟨((shr_ .u64 x3 16),wr (n4+16)),H,⟨Z,Z,U⟩,U⟩)))))))
   ·exact fE h5 H fun H=>zl ⟨(x3,n4),H,⟨Z,Z,U⟩,U⟩
  ·rintro ⟨x6,n7⟩ H
   replace H:z7r x6 n7=some r:=H
   unfold z7r at H
   refine yb (ι:=Int×Int) (fun i=>[(0,.dat (vval (.int .u64 i.1))),(2,.dat (vint i.2))]) (fun i=>[]) (fun i=>z7q i.1 i.2=some r) (fun i=>Z) ?_ ?_
   ·skip
    refine zb hN Z (qd Z (za (wz Z Z) (zf _ Z (fun h8 => ?_) (fun h8 => ?_))))
    ·exact tE h8 H fun H=>zb hN Z (qd Z (za (ya (z0o Z Z (by decide)) Z) (qe Z (zn hN Z (qd Z (za (yj _ Z Z (.inl ⟨Z,Z⟩)) (qe Z ⟨((shr_ .u64 x6 8),wr (n7+8)),H,⟨Z,Z,U⟩,U⟩)))))))
    ·exact fE h8 H fun H=>zl ⟨(x6,n7),H,⟨Z,Z,U⟩,U⟩
   ·rintro ⟨x9,n10⟩ H
    replace H:z7q x9 n10=some r:=H
    unfold z7q at H
    refine zb hN Z (qd Z (qd Z (za (jg Yf tyU5 Z) (bE H fun x11 h12 H=>za (y0u tyU9 Z Z h12) (za (jg tyU5 tyU3 Z) (za (yj _ Z Z (.inl ⟨Z,Z⟩)) (qe Z (zi ?_))))))))
    cases H
    exact ⟨U,.inl Z,U⟩
theorem w1l (x1:Int) (r:(Int)) (H:z8a x1=some r):Fn Tryz.prog 132 [vval (.int .u64 x1)] (zu [vint r]):=by
 refine ⟨by kernel_rfl,yg (us:=[vint r]) Tryz.func132 Z Z Z Z fun X hN => ?_⟩
 unfold z8a at H
 refine zb hN Z (qe Z (ze (zf _ Z (fun h2 => ?_) (fun h2 => ?_))))
 ·refine tE h2 H fun H=>zb hN Z (qd Z (za (jg y0c y8k Z) (bE H fun r3 h4 H=>za (zk (w1k (IntKind.wrap .u32 x1) r3 h4) ⟨.inl Z,U⟩) (qe Z (zi ?_)))))
  cases H
  exact ⟨U,.inl Z,U⟩
 ·refine fE h2 H fun H=>zl (zb hN Z (qd Z (bE H fun r5 h6 H=>za (zk (w1j x1 r5 h6) ⟨.inl Z,U⟩) (qe Z (zi ?_)))))
  cases H
  exact ⟨U,.inl Z,U⟩
end Go.Proofs.YtmdllhcjefcggacGreatDoor
