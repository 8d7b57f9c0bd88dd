/- Walks along the models. Printed by a program. -/
import Derived.Test.YtndabcepiekebaaGreatDoorZkw1
namespace Go.Proofs.YtndabcepiekebaaGreatDoor
open Go.RowKit
set_option linter.unusedVariables false
set_option maxRecDepth 100000
set_option maxHeartbeats 2000000
theorem w5o (s1:zt) (r:(wo×zt)) (H:y0d s1=some r):Imp Tryz.prog 6 25 (qr s1) [] (zw [vagg (xi r.1)]) (qr r.2):=by
 refine jo (us:=[vagg (xi r.1)]) (cs':=(qr r.2)) (by kernel_rfl) Tryz.func6 Z Z Z Z fun X bl hN => ?_
 unfold y0d at H
 refine zb hN Z (zi (we 1 y1w Z) Z (zb hN Z (za (zf (.ptr _ _) Z) (bE H fun r2 h3 H=>zi (yk (w5i s1 r2 h3) Z U Z) Z (za (zf (.ptr _ _) Z) (bE H fun r4 h5 H=>zi (yk (w5m r2.2 r4 h5) Z U Z) Z (za (zf (.ptr _ _) Z) (bE H fun r6 h7 H=>zi (yk (w5p r4.2 r6 h7) Z U Z) Z (za (zf (.ptr _ _) Z) (za (ye (u':=vlst (List.map qz [0,0,5,50])) (qa [[_],[_],[_],[_]] uj ⟨Z,.inl ⟨_,Z,Z,Z⟩,Z,Z,.inl ⟨_,Z,Z,Z⟩,Z,Z,.inl ⟨_,Z,Z,Z⟩,Z,Z,.inl ⟨_,Z,Z,Z⟩,Z,U⟩ Z Z) Z) (bE H fun r8 h9 H=>zi (yk (uu r6.2 [0,0,5,50] r8 h9) Z ⟨.inl Z,U⟩ Z) Z (za (ye (u':=vagg (xi (wo.mk [103,97,116,101] [115,104,111,112] r2.1 r4.1 r6.1 r8.1))) (qt [(0,[vstr [103,97,116,101]]),(1,[vstr [115,104,111,112]]),(2,[vlst (List.map wg r2.1)]),(3,[vlst (List.map jb r4.1)]),(4,[vlst (List.map vx r6.1)]),(5,[vint r8.1])] y1w x7w Z ⟨Z,.inl ⟨_,Z,Z,Z⟩,Z,Z,.inl ⟨_,Z,Z,Z⟩,Z,Z,.inl ⟨_,Z,Z,Z⟩,Z,Z,.inl ⟨_,Z,Z,Z⟩,Z,Z,.inl ⟨_,Z,Z,Z⟩,Z,Z,.inl ⟨_,Z,Z,Z⟩,Z,U⟩) Z) (zi (we 2 y1w Z) Z (zi (yp ui Z Z Z Z) Z (yf (ι:=(List Int)×Int×Bs×Bs×Int) (fun i=>[(2,.ptr 1 0),(3,.ptr 2 0)]) (fun i=>[(0,.box (some bl) 25 [.dat (vlst (List.map qz i.1)),.dat (vint i.2.1)]),(1,.box none 30 [.dat (vstr []),.dat (vstr []),.dat (vnil),.dat (vnil),.dat (vnil),.dat (vint 0)]),(2,.box none 30 [.dat (vstr i.2.2.1),.dat (vstr i.2.2.2.1),.dat (vlst (List.map wg r2.1)),.dat (vlst (List.map jb r4.1)),.dat (vlst (List.map vx r6.1)),.dat (vint i.2.2.2.2)])]) (fun i=>z61 r2 r4 r6 i.1 i.2.1 i.2.2.1 i.2.2.2.1 i.2.2.2.2=some r) (fun i=>Z) ?_ ?_)))))))))))))))
 ·skip
  refine zb hN Z (za (zf (.ptr _ _) Z) (bE H fun r10 h11 H=>zi (yk (kz r8.2 20 r10 h11) Z ⟨.inl Z,U⟩ Z) Z (zg _ Z (fun h12 => ?_) (fun h12 => ?_))))
  ·exact tE h12 H fun H=>zq hN Z (za (zf (.ptr _ _) Z) (za (ye (u':=vlst (List.map zo [[103,97,116,101],[]])) (qa [[_],[_]] qn ⟨Z,.inl ⟨_,Z,Z,Z⟩,Z,Z,.inl ⟨_,Z,Z,Z⟩,Z,U⟩ Z Z) Z) (bE H fun r13 h14 H=>zi (yk (ji r10.2 ([[103,97,116,101],[]]) r13 h14) Z ⟨.inl Z,U⟩ Z) Z (za (zf (.ptr _ _) Z) (za (ye (u':=vlst (List.map zo [[115,104,111,112],[65]])) (qa [[_],[_]] qn ⟨Z,.inl ⟨_,Z,Z,Z⟩,Z,Z,.inl ⟨_,Z,Z,Z⟩,Z,U⟩ Z Z) Z) (bE H fun r15 h16 H=>zi (yk (ji r13.2 ([[115,104,111,112],[65]]) r15 h16) Z ⟨.inl Z,U⟩ Z) Z (za (zf (.ptr _ _) Z) (bE H fun r17 h18 H=>zi (yk (z50 r15.2 0 600000 r17 h18) Z ⟨.inl Z,.inl Z,U⟩ Z) Z (za (zn z01 Z) (zi (wn tyS9 Z Z Z Z) Z (za (zn z7o Z) (zi (wn tyS9 Z Z Z Z) Z (za (zn z00 Z) (zi (wn tyS3 Z Z Z Z) Z ⟨(r17.2.L,r17.2.at_,r13.1,r15.1,r17.1),H,⟨Z,Z,U⟩,⟨Z,Z,Z,U⟩⟩))))))))))))))
  ·exact fE h12 H fun H=>zk ⟨(r10.2.L,r10.2.at_,[103,97,116,101],[115,104,111,112],r8.1),H,⟨Z,Z,U⟩,⟨Z,Z,Z,U⟩⟩
 ·rintro ⟨c19,c20,c21,c22,c23⟩ H
  replace H:z61 r2 r4 r6 c19 c20 c21 c22 c23=some r:=H
  unfold z61 at H
  refine zb hN Z (zu (vo ui Z Z Z) Z (zi (yp ui Z Z Z Z) Z (zh ?_)))
  cases H
  exact ⟨U,⟨.inl ⟨_,_,_,xi (wo.mk c21 c22 r2.1 r4.1 r6.1 c23),Z,Z,Z,Z,ui⟩,U⟩,Z⟩
theorem Yg (n1:Int) (low2:Int) (high3:Int) (r:(Bool)) (H:kn n1 low2 high3=some r):Fn Tryz.prog 43 [vint n1,vint low2,vint high3] (zw [zj r]):=by
 refine ⟨by kernel_rfl,yd (us:=[zj r]) Tryz.func43 Z Z Z Z fun X hN => ?_⟩
 unfold kn at H
 refine zb hN Z (qe Z (zb hN Z (qd Z (qd Z (za (vq Z Z) (qd Z (qj Z Z (fun hc=>zf (.dat _) Z) (qj Z Z (fun hc=>zf (.dat _) Z) (qj Z Z (fun hc=>vq (cnd (c:=(decide (low2≤n1))) hc) (cnd (c:=(decide (low2≤n1))) hc)) (za (vi Z (fun hb=>(cnd (c:=(decide (low2≤n1))) hb)) Z) (qe Z (zh ?_))))))))))))
 cases H
 exact ⟨U,.inl Z,U⟩
theorem y4s (l:Bs) (c r:Int) (H:Wu l c=some r):Fn Tryz.prog 107 [vstr l,vval (.int .u8 c)] (zw [vint r]):=by
 cases H
 refine y50 (by kernel_rfl) fun M w vs h => ?_
 have h1:=kr (us:=[.string ⟨l.toArray⟩,.int .u8 c]) h
 subst h1
 refine (Tryz.strings_IndexByte ⟨l.toArray⟩ c w).mono ?_
 rintro e w' ⟨rfl,rfl⟩
 exact ⟨_,Z,Z,Kp.refl _ _⟩
theorem z5z (s1:Bs) (some2:Bs) (r:(Bool)) (H:xc s1 some2=some r):Fn Tryz.prog 45 [vstr s1,vstr some2] (zw [zj r]):=by
 refine ⟨by kernel_rfl,yd (us:=[zj r]) Tryz.func45 Z Z Z Z fun X hN => ?_⟩
 unfold xc at H
 refine zb hN Z (qe Z (ze (zb hN Z (qd Z (za (qp tyU9 Z) (qd Z (zx (gE H fun h5 H=>wi (fun (k3:Nat) (s:Unit)=>[(0,.dat (vstr s1)),(1,.dat (vstr some2)),(7,.dat (vint (s1.length:Int))),(8,.dat (vint (k3:Int)))]) (fun (k3:Nat) (s:Unit)=>[]) () H ⟨Z,Z,Z,Z,U⟩ U (fun _ _=>Z) ?_ ?_))))))))
 ·rintro ⟨⟩ H
  replace H:y85=some r:=H
  unfold y85 at H
  refine zb hN Z (za (zy Z Z) (ze (zg _ Z (fun h=>(lt_t h).elim) (fun h => ?_))))
  refine qg (zb hN Z (qe Z (zh ?_)))
  cases H
  exact ⟨U,.inl Z,U⟩
 ·rintro k3 x6 ⟨⟩ q4 h7 h8 H hq4
  replace H:y47 some2 k3 x6=some q4:=H
  unfold y47 at H
  refine zb hN Z (za (zy Z Z) (ze (zg _ Z (fun h => ?_) (fun h=>(lt_f h7 h).elim))))
  refine zk (ze (zx (zb hN Z (qd Z (qe Z (zb hN Z (qd Z (qd Z (qd Z (za (wq tyU9 Z Z h8) (bE H fun r9 h10 H=>za (zl (y4s some2 (x6.toNat:Int) r9 h10) ⟨.inl Z,.inl Z,U⟩) (za (zy Z Z) (zg _ Z (fun h11 => ?_) (fun h11 => ?_))))))))))))))
  ·refine tE h11 H fun H=>zb hN Z (qe Z (zh ?_))
   replace H:=retl H hq4
   cases H
   exact ⟨U,.inl Z,U⟩
  ·exact fE h11 H fun H=>zk (zq hN Z (za (qw Z Z (by omega)) (qd Z ⟨_,qk H,⟨Z,Z,Z,Z,U⟩,U⟩)))
theorem xv (s1:Bs) (r:(Bool)) (H:ko s1=some r):Fn Tryz.prog 41 [vstr s1] (zw [zj r]):=by
 refine ⟨by kernel_rfl,yd (us:=[zj r]) Tryz.func41 Z Z Z Z fun X hN => ?_⟩
 unfold ko at H
 refine zb hN Z (qe Z (yf (ι:=Bool) (fun i=>[(2,.dat (zj i))]) (fun i=>[]) (fun i=>z2t i=some r) (fun i=>Z) ?_ ?_))
 ·skip
  refine zq hN Z (qd Z (za (qp tyU9 Z) (bE H fun r2 h3 H=>za (zl (Yg (s1.length:Int) 1 40 r2 h3) ⟨.inl Z,.inl Z,.inl Z,U⟩) (qd Z (yh (j:=3) Z Z (fun h4 => ?_) (fun h4 => ?_) Z)))))
  ·refine u1 h4 H fun h5 H=>zd Z Z h4 (zf (.dat _) Z) (bE H fun l6 h7 H=>zd Z Z h4 (jc tyU9 Z Z Z h7) (bE H fun r8 h9 H=>zd Z Z h4 (zl (z5z l6 [97,98,99,100,101,102,103,104,105,106,107,108,109,110,111,112,113,114,115,116,117,118,119,120,121,122] r8 h9) ⟨.inl Z,.inl Z,U⟩) (za (zz Z (bTT h5) Z) (qd Z (yh (j:=8) Z Z (fun h10 => ?_) (fun h10 => ?_) Z)))))
   ·exact u1 h10 H fun h11 H=>zd Z Z h10 (zf (.dat _) Z) (bE H fun r12 h13 H=>zd Z Z h10 (zl (z5z s1 [97,98,99,100,101,102,103,104,105,106,107,108,109,110,111,112,113,114,115,116,117,118,119,120,121,122,48,49,50,51,52,53,54,55,56,57,45,95] r12 h13) ⟨.inl Z,.inl Z,U⟩) (za (zz Z (bTT h11) Z) (qe Z ⟨r12,H,⟨Z,U⟩,U⟩)))
   ·exact u2 h10 H fun h14 H=>zc Z Z h10 (zc Z Z h10 (za (yb Z (bFF h14) Z) (qe Z ⟨false,H,⟨Z,U⟩,U⟩)))
  ·exact u2 h4 H fun h15 H=>zc Z Z h4 (zc Z Z h4 (zc Z Z h4 (za (yb Z (bFF h15) Z) (qd Z (zc Z Z Z (zc Z Z Z (za (yb Z Z Z) (qe Z ⟨false,H,⟨Z,U⟩,U⟩))))))))
 ·rintro v16 H
  replace H:z2t v16=some r:=H
  unfold z2t at H
  refine zh ?_
  cases H
  exact ⟨U,.inl Z,U⟩
theorem y8l (s1:(List ya)) (p1:ya→Option (Bool)) (fv1:Nat) (us1:List V) (hp1:∀ a0 r,p1 a0=some r→Fn Tryz.prog fv1 ([vagg (wg a0)]++us1) (zw [zj r])) (r:(Int)) (H:z12 s1 p1=some r):Fn Tryz.prog 128 [vlst (List.map wg s1),vfn fv1 us1] (zw [vint r]):=by
 refine ⟨by kernel_rfl,yd (us:=[vint r]) Tryz.func128 Z Z Z Z fun X hN => ?_⟩
 unfold z12 at H
 refine zb hN Z (qe Z (ze (zb hN Z (qd Z (za (yo Qv Z) (qd Z (zx (gE H fun h4 H=>wi (fun (k2:Nat) (s:Unit)=>[(0,.dat (vlst (List.map wg s1))),(1,.dat (vfn fv1 us1)),(7,.dat (vint (s1.length:Int))),(8,.dat (vint (k2:Int)))]) (fun (k2:Nat) (s:Unit)=>[]) () H ⟨Z,Z,Z,Z,U⟩ U (fun _ _=>Z) ?_ ?_))))))))
 ·rintro ⟨⟩ H
  replace H:y7b=some r:=H
  unfold y7b at H
  refine zb hN Z (za (zy Z Z) (ze (zg _ Z (fun h=>(lt_t h).elim) (fun h => ?_))))
  refine qg (zb hN Z (qe Z (zh ?_)))
  cases H
  exact ⟨U,.inl Z,U⟩
 ·rintro k2 x5 ⟨⟩ q3 h6 h7 H hq3
  replace H:y7a p1 k2 x5=some q3:=H
  unfold y7a at H
  refine zb hN Z (za (zy Z Z) (ze (zg _ Z (fun h => ?_) (fun h=>(lt_f h6 h).elim))))
  refine zk (ze (zx (zb hN Z (qd Z (qe Z (zb hN Z (qd Z (qd Z (qd Z (za (qu uc (fun _=>Z) Z Z h7) (za (kj ub Z (yy h7) Z) (bE H fun r8 h9 H=>za (y20 (hp1 x5 r8 h9) Z ⟨.inl Z,U⟩) (zg _ Z (fun h10 => ?_) (fun h10 => ?_))))))))))))))
  ·refine tE h10 H fun H=>zb hN Z (qd Z (qe Z (zh ?_)))
   replace H:=retl H hq3
   cases H
   exact ⟨U,.inl Z,U⟩
  ·exact fE h10 H fun H=>zk (zq hN Z (za (qw Z Z (by omega)) (qd Z ⟨_,qk H,⟨Z,Z,Z,Z,U⟩,U⟩)))
theorem x4i (s1:(List ya)) (p1:ya→Option (Bool)) (fv1:Nat) (us1:List V) (hp1:∀ a0 r,p1 a0=some r→Fn Tryz.prog fv1 ([vagg (wg a0)]++us1) (zw [zj r])) (r:(Bool)) (H:z88 s1 p1=some r):Fn Tryz.prog 102 [vlst (List.map wg s1),vfn fv1 us1] (zw [zj r]):=by
 refine ⟨by kernel_rfl,yd (us:=[zj r]) Tryz.func102 Z Z Z Z fun X hN => ?_⟩
 unfold z88 at H
 refine zb hN Z (qe Z (zb hN Z (qd Z (qd Z (bE H fun r2 h3 H=>za (zl (y8l s1 p1 fv1 us1 hp1 r2 h3) ⟨.inl Z,.inl Z,U⟩) (za (vy Z Z) (qe Z (zh ?_))))))))
 cases H
 exact ⟨U,.inl Z,U⟩
theorem w4w (o1:ya) (c2:ya) (r:(Bool)) (H:z9p o1 c2=some r):Fn Tryz.prog 103 [vagg (wg o1),wv [[vstr c2.Id,vstr c2.Secret,vint c2.From,vint c2.To,vint c2.Until]] 0 0] (zw [zj r]):=by
 refine ⟨by kernel_rfl,yd (us:=[zj r]) Tryz.func103 Z Z Z Z fun X hN => ?_⟩
 unfold z9p at H
 refine zb hN Z (zi (jf 1 Z) Z (qe Z (zb hN Z (za (zn Zx Z) (zu (zp tyS9 Z Z) Z (za (vr Zx Z) (za (yj tyS9 Z Z Z) (za (wy Z Z) (qe Z (zh ?_))))))))))
 cases H
 exact ⟨U,.inl Z,U⟩
theorem y4v (s1:Bs) (low2:Int) (r:(Bool)) (H:Qf s1 low2=some r):Fn Tryz.prog 154 [vstr s1,vval (.int .u8 low2)] (zw [zj r]):=by
 refine ⟨by kernel_rfl,yd (us:=[zj r]) Tryz.func154 Z Z Z Z fun X hN => ?_⟩
 unfold Qf at H
 refine zb hN Z (qe Z (ze (zb hN Z (qd Z (za (qp tyU9 Z) (qd Z (zx (gE H fun h5 H=>wi (fun (k3:Nat) (s:Unit)=>[(0,.dat (vstr s1)),(1,.dat (vval (.int .u8 low2))),(7,.dat (vint (s1.length:Int))),(8,.dat (vint (k3:Int)))]) (fun (k3:Nat) (s:Unit)=>[]) () H ⟨Z,Z,Z,Z,U⟩ U (fun _ _=>Z) ?_ ?_))))))))
 ·rintro ⟨⟩ H
  replace H:y83=some r:=H
  unfold y83 at H
  refine zb hN Z (za (zy Z Z) (ze (zg _ Z (fun h=>(lt_t h).elim) (fun h => ?_))))
  refine qg (zb hN Z (qe Z (zh ?_)))
  cases H
  exact ⟨U,.inl Z,U⟩
 ·rintro k3 x6 ⟨⟩ q4 h7 h8 H hq4
  replace H:y45 low2 k3 x6=some q4:=H
  unfold y45 at H
  refine zb hN Z (za (zy Z Z) (ze (zg _ Z (fun h => ?_) (fun h=>(lt_f h7 h).elim))))
  refine zk (ze (zx (zb hN Z (qd Z (qe Z (yf (ι:=Bool) (fun i=>[(0,.dat (vstr s1)),(1,.dat (vval (.int .u8 low2))),(7,.dat (vint (s1.length:Int))),(8,.dat (vint (k3:Int))),(21,.dat (zj i))]) (fun i=>[]) (fun i=>z6i i=some q4) (fun i=>Z) ?_ ?_))))))
  ·skip
   refine zq hN Z (qd Z (qd Z (za (wq tyU9 Z Z h8) (qd Z (za (zy Z Z) (qd Z (yh (j:=5) Z Z (fun h9 => ?_) (fun h9 => ?_) Z)))))))
   ·exact u3 h9 H fun h10 H=>zd Z Z h9 (zf (.dat _) Z) (zd Z Z h9 (zf (.dat _) Z) (zd Z Z h9 (wq tyU9 Z Z h8) (zd Z Z h9 (qh Z Z) (za (yb Z (bFF h10) Z) ⟨decide (126 < (x6.toNat:Int)),H,⟨Z,Z,Z,Z,Z,U⟩,U⟩))))
   ·exact u4 h9 H fun h11 H=>zc Z Z h9 (zc Z Z h9 (zc Z Z h9 (zc Z Z h9 (za (zz Z (bTT h11) Z) ⟨true,H,⟨Z,Z,Z,Z,Z,U⟩,U⟩))))
  ·rintro v12 H
   replace H:z6i v12=some q4:=H
   unfold z6i at H
   refine zg _ Z (fun h13 => ?_) (fun h13 => ?_)
   ·refine tE h13 H fun H=>zb hN Z (qe Z (zh ?_))
    replace H:=retl H hq4
    cases H
    exact ⟨U,.inl Z,U⟩
   ·exact fE h13 H fun H=>zk (zq hN Z (za (qw Z Z (by omega)) (qd Z ⟨_,qk H,⟨Z,Z,Z,Z,U⟩,U⟩)))
theorem w4y (s1:Bs) (r:(Int)) (H:z9q s1=some r):Fn Tryz.prog 104 [vstr s1] (zw [vint r]):=by
 refine ⟨by kernel_rfl,yd (us:=[vint r]) Tryz.func104 Z Z Z Z fun X hN => ?_⟩
 unfold z9q at H
 refine zb hN Z (qe Z (ze (yf (ι:=Bool) (fun i=>[(0,.dat (vstr s1)),(9,.dat (zj i))]) (fun i=>[]) (fun i=>z2p s1 i=some r) (fun i=>Z) ?_ ?_)))
 ·skip
  refine zq hN Z (qd Z (za (wy Z Z) (qd Z (yh (j:=2) Z Z (fun h2 => ?_) (fun h2 => ?_) Z))))
  ·exact u3 h2 H fun h3 H=>zd Z Z h2 (zf (.dat _) Z) (bE H fun r4 h5 H=>zd Z Z h2 (zl (y4v s1 33 r4 h5) ⟨.inl Z,.inl Z,U⟩) (zd Z Z h2 (yt Z) (za (yb Z (bFF h3) Z) ⟨!r4,H,⟨Z,Z,U⟩,U⟩)))
  ·exact u4 h2 H fun h6 H=>zc Z Z h2 (zc Z Z h2 (zc Z Z h2 (za (zz Z (bTT h6) Z) ⟨true,H,⟨Z,Z,U⟩,U⟩)))
 ·rintro v7 H
  replace H:z2p s1 v7=some r:=H
  unfold z2p at H
  refine zg _ Z (fun h8 => ?_) (fun h8 => ?_)
  ·refine tE h8 H fun H=>zb hN Z (qe Z (zh ?_))
   cases H
   exact ⟨U,.inl Z,U⟩
  ·refine fE h8 H fun H=>zk (ze (zb hN Z (qd Z (za (qp tyU9 Z) (za (qh Z Z) (zg _ Z (fun h9 => ?_) (fun h9 => ?_)))))))
   ·refine tE h9 H fun H=>zb hN Z (qe Z (zh ?_))
    cases H
    exact ⟨U,.inl Z,U⟩
   ·refine fE h9 H fun H=>zk (zb hN Z (qe Z (zh ?_)))
    cases H
    exact ⟨U,.inl Z,U⟩
theorem x4v (v1:(List ya)) (r:(Int)) (H:z5h v1=some r):Fn Tryz.prog 42 [vlst (List.map wg v1)] (zw [vint r]):=by
 refine ⟨by kernel_rfl,yd (us:=[vint r]) Tryz.func42 Z Z Z Z fun X hN => ?_⟩
 unfold z5h at H
 refine zb hN Z (qe Z (ze (zb hN Z (qd Z (za (yo Qv Z) (za (qh Z Z) (zg _ Z (fun h2 => ?_) (fun h2 => ?_))))))))
 ·refine tE h2 H fun H=>zb hN Z (qe Z (zh ?_))
  cases H
  exact ⟨U,.inl Z,U⟩
 ·refine fE h2 H fun H=>zk (ze (zb hN Z (qd Z (za (yo Qv Z) (qd Z (zx (gE H fun h5 H=>wi (fun (k3:Nat) (s:Unit)=>[(0,.dat (vlst (List.map wg v1))),(9,.dat (vlst (List.map wg v1))),(10,.dat (vint (v1.length:Int))),(11,.dat (vint (k3:Int)))]) (fun (k3:Nat) (s:Unit)=>[]) () H ⟨Z,Z,Z,Z,U⟩ U (fun _ _=>Z) ?_ ?_)))))))
  ·rintro ⟨⟩ H
   replace H:y86=some r:=H
   unfold y86 at H
   refine zb hN Z (za (zy Z Z) (ze (zg _ Z (fun h=>(lt_t h).elim) (fun h => ?_))))
   refine qg (zb hN Z (qe Z (zh ?_)))
   cases H
   exact ⟨U,.inl Z,U⟩
  ·rintro k3 x6 ⟨⟩ q4 h7 h8 H hq4
   replace H:y07 v1 k3 x6=some q4:=H
   unfold y07 at H
   refine zb hN Z (za (zy Z Z) (ze (zg _ Z (fun h => ?_) (fun h=>(lt_f h7 h).elim))))
   refine zk (ze (zx (zb hN Z (qd Z (za (qu uc (fun _=>Z) Z Z h8) (za (kj ub Z (yy h8) Z) (zi (we 1 Qu Z) Z (qe Z (zi (yp ub Z Z Z Z) Z (ze (zx (zb hN Z (za (zn Zx Z) (zu (zp tyS9 Z Z) Z (bE H fun r9 h10 H=>za (zl (xv x6.Id r9 h10) ⟨.inl Z,U⟩) (za (yt Z) (qe Z (zg _ Z (fun h11 => ?_) (fun h11 => ?_)))))))))))))))))))
   ·refine tE h11 H fun H=>zb hN Z (qe Z (zh ?_))
    replace H:=retl H hq4
    cases H
    exact ⟨U,.inl Z,U⟩
   ·refine fE h11 H fun H=>ze (xg 1 [vstr x6.Id,vstr x6.Secret,vint x6.From,vint x6.To,vint x6.Until] Z Z (zq hN Z (qd Z (qd Z (bE H fun l12 h13 H=>za (z1d uc (fun _=>Z) Z Z Z h13) (za (Zd (us:=[_]) ⟨Z,U⟩) (bE H fun r14 h15 H=>za (zl (x4i l12 (fun (a0:ya)=>z9p a0 x6) 103 [wv [[vstr x6.Id,vstr x6.Secret,vint x6.From,vint x6.To,vint x6.Until]] 0 0] (fun a0 r h=>w4w a0 x6 r h) r14 h15) ⟨.inl Z,.inl Z,U⟩) (qe Z (zg _ Z (fun h16 => ?_) (fun h16 => ?_))))))))))
    ·refine tE h16 H fun H=>zb hN Z (qe Z (zh ?_))
     replace H:=retl H hq4
     cases H
     exact ⟨U,.inl Z,U⟩
    ·refine fE h16 H fun H=>zk (ze (zb hN Z (za (vr z33 Z) (za (yj tyS9 Z Z Z) (bE H fun r17 h18 H=>za (zl (w4y x6.Secret r17 h18) ⟨.inl Z,U⟩) (qe Z (zb hN Z (qd Z (za (wa Z Z) (zg _ Z (fun h19 => ?_) (fun h19 => ?_)))))))))))
     ·refine tE h19 H fun H=>zb hN Z (qd Z (qe Z (zh ?_)))
      replace H:=retl H hq4
      cases H
      exact ⟨U,.inl Z,U⟩
     ·refine fE h19 H fun H=>zk (zx (zb hN Z (za (vr Zw Z) (za (yj tyS3 Z Z Z) (za (vr We Z) (za (yj tyS3 Z Z Z) (bE H fun r20 h21 H=>za (zl (Yg x6.From 0 x6.To r20 h21) ⟨.inl Z,.inl Z,.inl Z,U⟩) (za (yt Z) (qd Z (yi Z Z (fun hc=>vr We Z) (yi Z Z (fun hc=>yj tyS3 (cnd (c:=(!(!r20))) hc) Z Z) (yi Z Z (fun hc=>vr Wd Z) (yi Z Z (fun hc=>yj tyS3 (cnd (c:=(!(!r20))) hc) Z Z) (yi Z Z (fun hc=>qh (cnd (c:=(!(!r20))) hc) (cnd (c:=(!(!r20))) hc)) (za (wz Z Z (fun hb=>(cnd (c:=(!(!r20))) (notI hb)))) (qd Z (yi Z Z (fun hc=>vr Wd Z) (yi Z Z (fun hc=>yj tyS3 (cnd (c:=(!((!r20) || (decide (x6.Until < x6.To))))) hc) Z Z) (yi Z Z (fun hc=>qh (cnd (c:=(!((!r20) || (decide (x6.Until < x6.To))))) hc) Z) (za (wz Z Z (fun hb=>(cnd (c:=(!((!r20) || (decide (x6.Until < x6.To))))) (notI hb)))) (qe Z ?_)))))))))))))))))))))
      refine zg _ Z (fun h22 => ?_) (fun h22 => ?_)
      ·refine tE h22 H fun H=>zb hN Z (qe Z (zh ?_))
       replace H:=retl H hq4
       cases H
       exact ⟨U,.inl Z,U⟩
      ·refine fE h22 H fun H=>yf (ι:=Bool) (fun i=>[(0,.dat (vlst (List.map wg v1))),(9,.dat (vlst (List.map wg v1))),(10,.dat (vint (v1.length:Int))),(11,.dat (vint (k3:Int))),(52,.dat (zj i))]) (fun i=>[]) (fun i=>z0k i=some q4) (fun i=>Z) ?_ ?_
       ·skip
        refine wx mixed hN Z Z (qd Z (za (qh Z Z) (qd Z (yh (j:=2) Z Z (fun h23 => ?_) (fun h23 => ?_) Z))))
        ·refine u1 h23 H fun h24 H=>zd Z Z h23 (vr Zw Z) (zd Z Z h23 (yj tyS3 Z Z Z) (zd Z Z h23 (zf (.dat _) Z) (zd Z Z h23 (zf (.dat _) Z) (zd Z Z h23 (Wn Z Z (by omega)) (bE H fun x25 h26 H=>zd Z Z h23 (jm uc (fun _=>Z) Z Z h26) (zd Z Z h23 (vr Zw Z) (zd Z Z h23 (yj tyS3 Z (yy (vu h26).2) Z) (zd Z Z h23 (zy Z Z) (za (zz Z (bTT h24) Z) (qe Z ⟨Z,?_⟩))))))))))
         exact ⟨decide (x6.From < x25.From),H,⟨Z,Z,Z,Z,Z,U⟩,U⟩
        ·refine u2 h23 H fun h27 H=>zc Z Z h23 (zc Z Z h23 (zc Z Z h23 (zc Z Z h23 (zc Z Z h23 (zc Z Z h23 (zc Z Z h23 (zc Z Z h23 (zc Z Z h23 (za (yb Z (bFF h27) Z) (qe Z ⟨Z,?_⟩))))))))))
         exact ⟨false,H,⟨Z,Z,Z,Z,Z,U⟩,U⟩
       ·rintro v28 H
        replace H:z0k v28=some q4:=H
        unfold z0k at H
        refine zg _ Z (fun h29 => ?_) (fun h29 => ?_)
        ·refine tE h29 H fun H=>zb hN Z (qe Z (zh ?_))
         replace H:=retl H hq4
         cases H
         exact ⟨U,.inl Z,U⟩
        ·exact fE h29 H fun H=>zk (zq hN Z (za (qw Z Z (by omega)) (qd Z ⟨_,qk H,⟨Z,Z,Z,Z,U⟩,U⟩)))
theorem x3m (l r:List Bs) (H:z14 l=some r):FnG Tryz.prog 124 [.row 0 l.length] [(0,.row 9 1 (List.map zo l))] (.row 900 r.length) [(900,.row 9 1 (List.map zo r))]:=by
 obtain ⟨h1,rfl⟩:=w74 H
 exact w6w (fun s:Bs=>Value.string ⟨s.toArray⟩) [] (Lib.compact l) l (x6c l) (by kernel_rfl) (fun _=>Z) (fun blk cap w hH hc=>Tryz.slices_Compact_string blk 0 cap l w hH (by omega) hc) (fun h a cap w=>Tryz.slices_Compact_string_empty a cap w)
theorem x4h (s1:(List Bs)) (p1:Bs→Option (Bool)) (fv1:Nat) (us1:List V) (hp1:∀ a0 r,p1 a0=some r→Fn Tryz.prog fv1 ([vstr a0]++us1) (zw [zj r])) (r:(Int)) (H:y34 s1 p1=some r):Fn Tryz.prog 178 [vlst (List.map zo s1),vfn fv1 us1] (zw [vint r]):=by
 refine ⟨by kernel_rfl,yd (us:=[vint r]) Tryz.func178 Z Z Z Z fun X hN => ?_⟩
 unfold y34 at H
 refine zb hN Z (qe Z (ze (zb hN Z (qd Z (za (yo qm Z) (qd Z (zx (gE H fun h4 H=>wi (fun (k2:Nat) (s:Unit)=>[(0,.dat (vlst (List.map zo s1))),(1,.dat (vfn fv1 us1)),(7,.dat (vint (s1.length:Int))),(8,.dat (vint (k2:Int)))]) (fun (k2:Nat) (s:Unit)=>[]) () H ⟨Z,Z,Z,Z,U⟩ U (fun _ _=>Z) ?_ ?_))))))))
 ·rintro ⟨⟩ H
  replace H:y69=some r:=H
  unfold y69 at H
  refine zb hN Z (za (zy Z Z) (ze (zg _ Z (fun h=>(lt_t h).elim) (fun h => ?_))))
  refine qg (zb hN Z (qe Z (zh ?_)))
  cases H
  exact ⟨U,.inl Z,U⟩
 ·rintro k2 x5 ⟨⟩ q3 h6 h7 H hq3
  replace H:y68 p1 k2 x5=some q3:=H
  unfold y68 at H
  refine zb hN Z (za (zy Z Z) (ze (zg _ Z (fun h => ?_) (fun h=>(lt_f h6 h).elim))))
  refine zk (ze (zx (zb hN Z (qd Z (qe Z (zb hN Z (qd Z (qd Z (qd Z (za (qu qv (fun _=>Z) Z Z h7) (za (yj tyS9 Z (yy h7) Z) (bE H fun r8 h9 H=>za (y20 (hp1 x5 r8 h9) Z ⟨.inl Z,U⟩) (zg _ Z (fun h10 => ?_) (fun h10 => ?_))))))))))))))
  ·refine tE h10 H fun H=>zb hN Z (qd Z (qe Z (zh ?_)))
   replace H:=retl H hq3
   cases H
   exact ⟨U,.inl Z,U⟩
  ·exact fE h10 H fun H=>zk (zq hN Z (za (qw Z Z (by omega)) (qd Z ⟨_,qk H,⟨Z,Z,Z,Z,U⟩,U⟩)))
theorem y8n (s1:(List Bs)) (p1:Bs→Option (Bool)) (fv1:Nat) (us1:List V) (hp1:∀ a0 r,p1 a0=some r→Fn Tryz.prog fv1 ([vstr a0]++us1) (zw [zj r])) (r:(Bool)) (H:z13 s1 p1=some r):Fn Tryz.prog 121 [vlst (List.map zo s1),vfn fv1 us1] (zw [zj r]):=by
 refine ⟨by kernel_rfl,yd (us:=[zj r]) Tryz.func121 Z Z Z Z fun X hN => ?_⟩
 unfold z13 at H
 refine zb hN Z (qe Z (zb hN Z (qd Z (qd Z (bE H fun r2 h3 H=>za (zl (x4h s1 p1 fv1 us1 hp1 r2 h3) ⟨.inl Z,.inl Z,U⟩) (za (vy Z Z) (qe Z (zh ?_))))))))
 cases H
 exact ⟨U,.inl Z,U⟩
theorem x35 (s p:Bs) (r:Bs×Bool) (H:z10 s p=some r):Fn Tryz.prog 179 [vstr s,vstr p] (zw [vstr r.1,zj r.2]):=by
 obtain ⟨h1,rfl⟩:=w7x H
 refine y50 (by kernel_rfl) fun M w vs h => ?_
 have hv:=kr (us:=[.string ⟨s.toArray⟩,.string ⟨p.toArray⟩]) h
 subst hv
 refine (Tryz.strings_CutSuffix ⟨s.toArray⟩ ⟨p.toArray⟩ w (by simp [ByteArray.size]; omega)).mono ?_
 rintro e w' ⟨rfl,rfl⟩
 refine ⟨_,Z,⟨[_,_],Z,Z,fun j u hj => ?_⟩,Kp.refl _ _⟩
 rcases j with _ | _ | j
 ·cases hj; exact ⟨_,Z,Z⟩
 ·cases hj; exact ⟨_,Z,Z⟩
 ·simp at hj
theorem y8j (s p:Bs) (r:Bool) (H:z1z s p=some r):Fn Tryz.prog 180 [vstr s,vstr p] (zw [zj r]):=by
 cases H
 refine y50 (by kernel_rfl) fun M w vs h => ?_
 have h1:=kr (us:=[.string ⟨s.toArray⟩,.string ⟨p.toArray⟩]) h
 subst h1
 refine (Tryz.strings_HasPrefix ⟨s.toArray⟩ ⟨p.toArray⟩ w).mono ?_
 rintro e w' ⟨rfl,rfl⟩
 exact ⟨_,Z,Z,Kp.refl _ _⟩
theorem w4r (a1:Bs) (b2:Bs) (r:(Bool)) (H:z9n a1 b2=some r):Fn Tryz.prog 123 [vstr a1,vstr b2] (zw [zj r]):=by
 refine ⟨by kernel_rfl,yd (us:=[zj r]) Tryz.func123 Z Z Z Z fun X hN => ?_⟩
 unfold z9n at H
 refine zb hN Z (qe Z (ze (zb hN Z (qd Z (bE H fun r3 h4 H=>za (zl (x35 a1 [42] r3 h4) ⟨.inl Z,.inl Z,U⟩) (qd Z (za (ym Z Z) (za (ym Z Z) (qe Z (qe Z (zb hN Z (qd Z (zg _ Z (fun h5 => ?_) (fun h5 => ?_))))))))))))))
 ·refine tE h5 H fun H=>zb hN Z (qd Z (qd Z (bE H fun r6 h7 H=>za (zl (y8j b2 r3.1 r6 h7) ⟨.inl Z,.inl Z,U⟩) (qe Z (zh ?_)))))
  cases H
  exact ⟨U,.inl Z,U⟩
 ·refine fE h5 H fun H=>zk (zb hN Z (qd Z (qd Z (za (wy Z Z) (qe Z (zh ?_))))))
  cases H
  exact ⟨U,.inl Z,U⟩
theorem w44 (o1:Bs) (c2:Bs) (r:(Bool)) (H:z9u o1 c2=some r):Fn Tryz.prog 122 [vstr o1,wv [[vstr c2]] 0 0] (zw [zj r]):=by
 refine ⟨by kernel_rfl,yd (us:=[zj r]) Tryz.func122 Z Z Z Z fun X hN => ?_⟩
 unfold z9u at H
 refine zb hN Z (qe Z (yf (ι:=Bool) (fun i=>[(3,.dat (zj i))]) (fun i=>[]) (fun i=>z6p i=some r) (fun i=>Z) ?_ ?_))
 ·skip
  refine zq hN Z (qd Z (za (yj tyS9 Z Z Z) (za (jj Z Z) (qd Z (yh (j:=3) Z Z (fun h3 => ?_) (fun h3 => ?_) Z)))))
  ·exact u1 h3 H fun h4 H=>zd Z Z h3 (zf (.dat _) Z) (zd Z Z h3 (yj tyS9 Z Z Z) (bE H fun r5 h6 H=>zd Z Z h3 (zl (w4r o1 c2 r5 h6) ⟨.inl Z,.inl Z,U⟩) (za (zz Z (bTT h4) Z) (qe Z ⟨r5,H,⟨Z,U⟩,U⟩))))
  ·exact u2 h3 H fun h7 H=>zc Z Z h3 (zc Z Z h3 (zc Z Z h3 (za (yb Z (bFF h7) Z) (qe Z ⟨false,H,⟨Z,U⟩,U⟩))))
 ·rintro v8 H
  replace H:z6p v8=some r:=H
  unfold z6p at H
  refine zh ?_
  cases H
  exact ⟨U,.inl Z,U⟩
theorem y8s (l1:(List Bs)) (r:((List Bs))) (H:z19 l1=some r):Fn Tryz.prog 58 [vlst (List.map zo l1)] (zw [vlst (List.map zo r)]):=by
 refine ⟨by kernel_rfl,yd (us:=[vlst (List.map zo r)]) Tryz.func58 Z Z Z Z fun X hN => ?_⟩
 unfold z19 at H
 refine zb hN Z (qe Z (zb hN Z (qe Z (ze (zb hN Z (qd Z (za (yo qm Z) (qd Z (zx (uh 3 1 9 1 Z Z Z (gE H fun h5 H=>wi (fun (k3:Nat) (s:(List Bs))=>[(0,.dat (vlst (List.map zo l1))),(3,.row 1 s.length),(6,.dat (vlst (List.map zo l1))),(7,.dat (vint (l1.length:Int))),(8,.dat (vint (k3:Int)))]) (fun (k3:Nat) (s:(List Bs))=>[(1,.row 9 1 (List.map zo s))]) [] H ⟨Z,Z,Z,Z,Z,U⟩ ⟨Z,U⟩ (fun _ _=>Z) ?_ ?_)))))))))))
 ·rintro l2 H
  replace H:y5f l2=some r:=H
  unfold y5f at H
  refine zb hN Z (za (zy Z Z) (ze (zg _ Z (fun h=>(lt_t h).elim) (fun h => ?_))))
  refine qg (zb hN Z (za (zf (.row _ _) Z) (bE H fun r7 h8 H=>Zf (rn [(0,1)]) [(0,_,_,some _)] [] (y8c l2 r7 h8) ⟨Z,U⟩ ⟨.inl (.inl Z),U⟩ ⟨⟨⟨Z,Z,Z⟩,by simp [z1h,Yx h8]⟩,U⟩ Z ?_)))
  refine zb hN Z (za (zf (.row _ _) Z) (bE H fun r9 h10 H=>Zf (rn [(0,1),(900,2)]) [(0,_,_,none)] [(900,_)] (x3m r7 r9 h10) ⟨Z,Z,U⟩ ⟨.inl (.inl (congrArg (Slot.row 1) (Yx h8).symm)),U⟩ ⟨⟨⟨Z,Z,Z⟩,U⟩,U⟩ Z (za (wm (.row _ _) Z) (zh ?_))))
  cases H
  exact ⟨U,Yt Z Z,U⟩
 ·rintro k3 x6 l2 q4 h11 h12 H hq4
  replace H:y5e l1 k3 x6 l2=some q4:=H
  unfold y5e at H
  refine zb hN Z (za (zy Z Z) (ze (zg _ Z (fun h => ?_) (fun h=>(lt_f h11 h).elim))))
  refine zk (yf (ι:=(List Bs)) (fun i=>[(0,.dat (vlst (List.map zo l1))),(3,.row 1 i.length),(6,.dat (vlst (List.map zo l1))),(7,.dat (vint (l1.length:Int))),(8,.dat (vint (k3:Int)))]) (fun i=>[(1,.row 9 1 (List.map zo i))]) (fun i=>z6o i=some q4) (fun i=>Z) ?_ ?_)
  ·skip
   refine zx (zb hN Z (za (qu qv (fun _=>Z) Z Z h12) (za (yj tyS9 Z (yy h12) Z) (zi (we 3 tyZ9 Z) Z (zi (wn tyS9 Z Z Z Z) Z (ze (xg 3 [vstr x6] Z Z (zq hN Z (qd Z (za (Zd (us:=[_]) ⟨Z,U⟩) (bE H fun r13 h14 H=>za (zl (y8n l1 (fun (a0:Bs)=>z9u a0 x6) 122 [wv [[vstr x6]] 0 0] (fun a0 r h=>w44 a0 x6 r h) r13 h14) ⟨.inl Z,.inl Z,U⟩) (za (yt Z) (zg _ Z (fun h15 => ?_) (fun h15 => ?_))))))))))))))
   ·refine tE h15 H fun H=>zq hN Z (za (zf (.row _ _) Z) (za (yj tyS9 Z Z Z) (za (ye (u':=vlst (List.map zo [x6])) (qa [[_]] qn ⟨Z,.inl ⟨_,Z,Z,Z⟩,Z,U⟩ Z Z) Z) (gE H fun h16 H=>zi (jt qn (fun _=>Z) Z Z Z ⟨by simp,by first | (simp; done) | simpa using h16⟩ Z) Z ?_))))
    exact za (wm (.row _ _) Z) ⟨(l2++[x6]),H,⟨Z,Z,Z,Z,Z,U⟩,⟨Z,U⟩⟩
   ·exact fE h15 H fun H=>zk ⟨l2,H,⟨Z,Z,Z,Z,Z,U⟩,⟨Z,U⟩⟩
  ·rintro out17 H
   replace H:z6o out17=some q4:=H
   unfold z6o at H
   exact zq hN Z (za (qw Z Z (by omega)) (qd Z ⟨_,qk H,⟨Z,Z,Z,Z,Z,U⟩,⟨Z,U⟩⟩))
theorem x40 (s1:zt) (r:(zm×zt)) (H:z5q s1=some r):Imp Tryz.prog 13 25 (qr s1) [] (zw [vagg (yq r.1)]) (qr r.2):=by
 refine jo (us:=[vagg (yq r.1)]) (cs':=(qr r.2)) (by kernel_rfl) Tryz.func13 Z Z Z Z fun X bl hN => ?_
 unfold z5q at H
 refine zb hN Z (zi (we 1 wl Z) Z (ze (wx mixed hN Z Z (za (zf (.ptr _ _) Z) (za (ye (u':=vlst (List.map zo [[116,49],[116,49],[116,50],[116,51]])) (qa [[_],[_],[_],[_]] qn ⟨Z,.inl ⟨_,Z,Z,Z⟩,Z,Z,.inl ⟨_,Z,Z,Z⟩,Z,Z,.inl ⟨_,Z,Z,Z⟩,Z,Z,.inl ⟨_,Z,Z,Z⟩,Z,U⟩ Z Z) Z) (bE H fun r2 h3 H=>zi (yk (ji s1 ([[116,49],[116,49],[116,50],[116,51]]) r2 h3) Z ⟨.inl Z,U⟩ Z) Z (za (zf (.ptr _ _) Z) (za (ye (u':=vlst (List.map zo [[97,110,110],[98,111,98]])) (qa [[_],[_]] qn ⟨Z,.inl ⟨_,Z,Z,Z⟩,Z,Z,.inl ⟨_,Z,Z,Z⟩,Z,U⟩ Z Z) Z) (bE H fun r4 h5 H=>zi (yk (ji r2.2 ([[97,110,110],[98,111,98]]) r4 h5) Z ⟨.inl Z,U⟩ Z) Z (za (zf (.ptr _ _) Z) (za (ye (u':=vlst (List.map zo [[103,97,116,101],[103,97,116,101],[103,97,116,101],[111,116,104,101,114]])) (qa [[_],[_],[_],[_]] qn ⟨Z,.inl ⟨_,Z,Z,Z⟩,Z,Z,.inl ⟨_,Z,Z,Z⟩,Z,Z,.inl ⟨_,Z,Z,Z⟩,Z,Z,.inl ⟨_,Z,Z,Z⟩,Z,U⟩ Z Z) Z) (bE H fun r6 h7 H=>zi (yk (ji r4.2 ([[103,97,116,101],[103,97,116,101],[103,97,116,101],[111,116,104,101,114]]) r6 h7) Z ⟨.inl Z,U⟩ Z) Z (za (zf (.ptr _ _) Z) (za (ye (u':=vlst (List.map zo [[],[],[],[116,48],[116,50]])) (qa [[_],[_],[_],[_],[_]] qn ⟨Z,.inl ⟨_,Z,Z,Z⟩,Z,Z,.inl ⟨_,Z,Z,Z⟩,Z,Z,.inl ⟨_,Z,Z,Z⟩,Z,Z,.inl ⟨_,Z,Z,Z⟩,Z,Z,.inl ⟨_,Z,Z,Z⟩,Z,U⟩ Z Z) Z) (bE H fun r8 h9 H=>zi (yk (ji r6.2 ([[],[],[],[116,48],[116,50]]) r8 h9) Z ⟨.inl Z,U⟩ Z) Z (za (ye (u':=vlst (List.map zo [[115,104,111,112]])) (qa [[_]] qn ⟨Z,.inl ⟨_,Z,Z,Z⟩,Z,U⟩ Z Z) Z) (za (ye (u':=vlst (List.map zo [[109,97,112,115],[115,104,111,112]])) (qa [[_],[_]] qn ⟨Z,.inl ⟨_,Z,Z,Z⟩,Z,Z,.inl ⟨_,Z,Z,Z⟩,Z,U⟩ Z Z) Z) (za (ye (u':=vlst (List.map zo [[109,97,112,115]])) (qa [[_]] qn ⟨Z,.inl ⟨_,Z,Z,Z⟩,Z,U⟩ Z Z) Z) (za (wd (u':=vlst (List.map w9e ([[],[],[[115,104,111,112]],[[109,97,112,115],[115,104,111,112]],[[109,97,112,115]]]:(List (List Bs))))) (x7j (by exact ⟨⟨yu,U⟩,⟨yu,U⟩,⟨zr,U⟩,⟨zr,U⟩,⟨zr,U⟩,U⟩)) (qa [[vnil],[vnil],[_],[_],[_]] x7z ⟨Z,.inl ⟨_,Z,Z,Z⟩,Z,Z,.inl ⟨_,Z,Z,Z⟩,Z,Z,.inl ⟨_,Z,Z,Z⟩,Z,Z,.inl ⟨_,Z,Z,Z⟩,Z,Z,.inl ⟨_,Z,Z,Z⟩,Z,U⟩ Z Z)) ?_)))))))))))))))))))
 refine za (zf (.ptr _ _) Z) (bE H fun r10 h11 H=>zi (yk (Zk r8.2 5 r10 h11) Z ⟨.inl Z,U⟩ Z) Z (bE H fun x12 h13 H=>za (jm x71 (fun _=>Z) Z Z h13) (za (yj qq Z (yy (vu h13).2) Z) (za (zf (.ptr _ _) Z) (bE H fun r14 h15 H=>zi (yk (x4z r10.2 r14 h15) Z U Z) Z (bE H fun r16 h17 H=>za (zl (y8s r14.1 r16 h17) ⟨.inl Z,U⟩) (za (zf (.ptr _ _) Z) (za (ye (u':=vlst (List.map qz [0,50,100])) (qa [[_],[_],[_]] uj ⟨Z,.inl ⟨_,Z,Z,Z⟩,Z,Z,.inl ⟨_,Z,Z,Z⟩,Z,Z,.inl ⟨_,Z,Z,Z⟩,Z,U⟩ Z Z) Z) (bE H fun r18 h19 H=>zi (yk (uu r14.2 [0,50,100] r18 h19) Z ⟨.inl Z,U⟩ Z) Z (za (ye (u':=vagg (yq (zm.mk r2.1 r4.1 r6.1 r8.1 x12 r16 r18.1 0))) (qt [(0,[vstr r2.1]),(1,[vstr r4.1]),(2,[vstr r6.1]),(3,[vstr r8.1]),(4,[vlst (List.map zo x12)]),(5,[vlst (List.map zo r16)]),(6,[vint r18.1])] wl je Z ⟨Z,.inl ⟨_,Z,Z,Z⟩,Z,Z,.inl ⟨_,Z,Z,Z⟩,Z,Z,.inl ⟨_,Z,Z,Z⟩,Z,Z,.inl ⟨_,Z,Z,Z⟩,Z,Z,.inl ⟨_,Z,Z,Z⟩,Z,Z,.inl ⟨_,Z,Z,Z⟩,Z,Z,.inl ⟨_,Z,Z,Z⟩,Z,U⟩) Z) (zi (we 2 wl Z) Z (zi (yp yn Z Z Z Z) Z ⟨Z,?_⟩))))))))))))
 refine ze (wx mixed hN Z Z (za (zn Zu Z) (zu (zp tyS3 Z Z) Z (za (zf (.ptr _ _) Z) (za (ye (u':=vlst (List.map qz [1,50,100,200])) (qa [[_],[_],[_],[_]] uj ⟨Z,.inl ⟨_,Z,Z,Z⟩,Z,Z,.inl ⟨_,Z,Z,Z⟩,Z,Z,.inl ⟨_,Z,Z,Z⟩,Z,Z,.inl ⟨_,Z,Z,Z⟩,Z,U⟩ Z Z) Z) (bE H fun r20 h21 H=>zi (yk (uu r18.2 [1,50,100,200] r20 h21) Z ⟨.inl Z,U⟩ Z) Z (za (yw _ Z Z (.inl ⟨Z,Z⟩)) (za (zn Za Z) (zi (wn tyS3 Z Z Z Z) Z ⟨Z,?_⟩)))))))))
 refine zb hN Z (zu (vo yn Z Z Z) Z (zi (yp yn Z Z Z Z) Z (zh ?_)))
 cases H
 exact ⟨U,⟨.inl ⟨_,_,_,yq (zm.mk r2.1 r4.1 r6.1 r8.1 x12 r16 r18.1 (wr (r18.1+r20.1))),Z,Z,Z,Z,yn⟩,U⟩,Z⟩
theorem w2v (s sep:Bs) (r:List Bs) (H:ka s sep=some r):FnG Tryz.prog 127 [.dat (vstr s),.dat (vstr sep)] [] (.row 900 r.length) [(900,.row 9 1 (List.map zo r))]:=by
 obtain ⟨h1,h2,rfl⟩:=x9y H
 have hlen:=Lib.splitB_all ⟨sep.toArray⟩ (by simpa [ByteArray.size] using h2) 0 _ ⟨s.toArray⟩ Z
 have hle:=Lib.countB_le ⟨sep.toArray⟩ (by simpa [ByteArray.size] using h2) _ ⟨s.toArray⟩ (Nat.le_refl _)
 refine w6v (args:=[vstr s,vstr sep]) (Yb s sep) (by kernel_rfl) (fun M w vs hM hvs => ?_) ?_
 ·have hv:=kr (us:=[.string ⟨s.toArray⟩,.string ⟨sep.toArray⟩]) hvs
  subst hv
  obtain ⟨m,hm⟩:=y30 hM
  refine (Tryz.strings_Split ⟨s.toArray⟩ ⟨sep.toArray⟩ m w (by simp [ByteArray.size]; omega) hm (by simpa [ByteArray.size] using h2)).mono ?_
  rintro e w' ⟨rfl,rfl⟩
  have e1:(Yb s sep).length=Lib.countB ⟨s.toArray⟩ ⟨sep.toArray⟩+1:=by unfold Yb; rw [List.length_map,hlen]
  have e2:((Yb s sep).map fun s=>Value.string ⟨s.toArray⟩)=(Lib.splitB ⟨sep.toArray⟩ 0 (Lib.countB ⟨s.toArray⟩ ⟨sep.toArray⟩) ⟨s.toArray⟩).map Value.string:=by
   unfold Yb
   rw [List.map_map]
   exact List.map_congr_left fun b _=>by simp
  rw [e1,e2]
  exact ⟨Z,Z⟩
 ·unfold Yb maxLen
  rw [List.length_map,hlen]
  have hsz:(ByteArray.mk s.toArray).size=s.length:=by simp [ByteArray.size]
  rw [hsz] at hle
  omega
theorem Qi (s sep:Bs) (r:List Bs) (H:ka s sep=some r):Fn Tryz.prog 127 [vstr s,vstr sep] (zw [vlst (List.map zo r)]):=by
 have h:=w2v s sep r H
 rw [← List.length_map (f:=zo)] at h
 exact w6t h
theorem w4o (s1:Bs) (r:(Bool)) (H:z9k s1=some r):Fn Tryz.prog 109 [vstr s1] (zw [zj r]):=by
 refine ⟨by kernel_rfl,yd (us:=[zj r]) Tryz.func109 Z Z Z Z fun X hN => ?_⟩
 unfold z9k at H
 refine zb hN Z (qe Z (zb hN Z (qd Z (bE H fun r2 h3 H=>za (zl (Qi s1 [58] r2 h3) ⟨.inl Z,.inl Z,U⟩) (qe Z (ze (zb hN Z (qd Z (za (yo qm Z) (qd Z (zx (gE H fun h6 H=>wi (fun (k4:Nat) (s:Unit)=>[(3,.dat (vlst (List.map zo r2))),(8,.dat (vlst (List.map zo r2))),(9,.dat (vint (r2.length:Int))),(10,.dat (vint (k4:Int)))]) (fun (k4:Nat) (s:Unit)=>[]) () H ⟨Z,Z,Z,Z,U⟩ U (fun _ _=>Z) ?_ ?_))))))))))))
 ·rintro ⟨⟩ H
  replace H:y84 r2=some r:=H
  unfold y84 at H
  refine zb hN Z (za (zy Z Z) (ze (zg _ Z (fun h=>(lt_t h).elim) (fun h => ?_))))
  refine qg (zb hN Z (qd Z (za (yo qm Z) (za (vq Z Z) (qe Z (zh ?_))))))
  cases H
  exact ⟨U,.inl Z,U⟩
 ·rintro k4 x7 ⟨⟩ q5 h8 h9 H hq5
  replace H:y46 r2 k4 x7=some q5:=H
  unfold y46 at H
  refine zb hN Z (za (zy Z Z) (ze (zg _ Z (fun h => ?_) (fun h=>(lt_f h8 h).elim))))
  refine zk (ze (zx (zb hN Z (qd Z (za (qu qv (fun _=>Z) Z Z h9) (za (yj tyS9 Z (yy h9) Z) (qe Z (qe Z (zb hN Z (qd Z (bE H fun r10 h11 H=>za (zl (xv x7 r10 h11) ⟨.inl Z,U⟩) (za (yt Z) (qd Z (qj Z Z (fun hc=>zf (.dat _) Z) (qj Z Z (fun hc=>jj (cnd (c:=(!r10)) hc) Z) (qj Z Z (fun hc=>zf (.dat _) (cnd (c:=(!r10)) hc)) (xp Z Z (fun hc=>zf (.dat _) Z) (xp Z Z (fun hc=>zf (.dat _) Z) (xp Z Z (fun hc=>yo qm (cnd (c:=((!r10) && !(decide (x7≠[42])))) hc)) (xp Z Z (fun hc=>yw _ (cnd (c:=((!r10) && !(decide (x7≠[42])))) hc) Z (.inr (.inl ⟨Z,Z⟩))) (xp Z Z (fun hc=>zy (cnd (c:=((!r10) && !(decide (x7≠[42])))) hc) (cnd (c:=((!r10) && !(decide (x7≠[42])))) hc)) (qj Z Z (fun hc=>wz (cnd (c:=(!r10)) hc) Z (fun hb=>(cnd (c:=((!r10) && !(decide (x7≠[42])))) (andI hc (notI hb))))) ?_))))))))))))))))))))))
  refine za (vi Z (fun hb=>(cnd (c:=(!r10)) hb)) Z) (zg _ Z (fun h12 => ?_) (fun h12 => ?_))
  ·refine tE h12 H fun H=>zb hN Z (qe Z (zh ?_))
   replace H:=retl H hq5
   cases H
   exact ⟨U,.inl Z,U⟩
  ·exact fE h12 H fun H=>zk (zq hN Z (za (qw Z Z (by omega)) (qd Z ⟨_,qk H,⟨Z,Z,Z,Z,U⟩,U⟩)))
theorem x4w (l1:(List Bs)) (r:(Int)) (H:z5i l1=some r):Fn Tryz.prog 47 [vlst (List.map zo l1)] (zw [vint r]):=by
 refine ⟨by kernel_rfl,yd (us:=[vint r]) Tryz.func47 Z Z Z Z fun X hN => ?_⟩
 unfold z5i at H
 refine zb hN Z (qe Z (ze (zb hN Z (qd Z (za (yo qm Z) (za (qh Z Z) (zg _ Z (fun h2 => ?_) (fun h2 => ?_))))))))
 ·refine tE h2 H fun H=>zb hN Z (qe Z (zh ?_))
  cases H
  exact ⟨U,.inl Z,U⟩
 ·refine fE h2 H fun H=>zk (ze (zb hN Z (qd Z (za (yo qm Z) (qd Z (zx (gE H fun h5 H=>wi (fun (k3:Nat) (s:Unit)=>[(8,.dat (vlst (List.map zo l1))),(9,.dat (vint (l1.length:Int))),(10,.dat (vint (k3:Int)))]) (fun (k3:Nat) (s:Unit)=>[]) () H ⟨Z,Z,Z,U⟩ U (fun _ _=>Z) ?_ ?_)))))))
  ·rintro ⟨⟩ H
   replace H:y87=some r:=H
   unfold y87 at H
   refine zb hN Z (za (zy Z Z) (ze (zg _ Z (fun h=>(lt_t h).elim) (fun h => ?_))))
   refine qg (zb hN Z (qe Z (zh ?_)))
   cases H
   exact ⟨U,.inl Z,U⟩
  ·rintro k3 x6 ⟨⟩ q4 h7 h8 H hq4
   replace H:y5c k3 x6=some q4:=H
   unfold y5c at H
   refine zb hN Z (za (zy Z Z) (ze (zg _ Z (fun h => ?_) (fun h=>(lt_f h7 h).elim))))
   refine zk (ze (zx (zb hN Z (za (qu qv (fun _=>Z) Z Z h8) (za (yj tyS9 Z (yy h8) Z) (qe Z (zb hN Z (qd Z (bE H fun r9 h10 H=>za (zl (w4o x6 r9 h10) ⟨.inl Z,U⟩) (za (yt Z) (zg _ Z (fun h11 => ?_) (fun h11 => ?_))))))))))))
   ·refine tE h11 H fun H=>zb hN Z (qe Z (zh ?_))
    replace H:=retl H hq4
    cases H
    exact ⟨U,.inl Z,U⟩
   ·exact fE h11 H fun H=>zk (zq hN Z (za (qw Z Z (by omega)) (qd Z ⟨_,qk H,⟨Z,Z,Z,U⟩,U⟩)))
theorem y8m (s1:(List Bs)) (s2:(List Bs)) (r:(Bool)) (H:Wy s1 s2=some r):Fn Tryz.prog 65 [vlst (List.map zo s1),vlst (List.map zo s2)] (zw [zj r]):=by
 refine ⟨by kernel_rfl,yd (us:=[zj r]) Tryz.func65 Z Z Z Z fun X hN => ?_⟩
 unfold Wy at H
 refine zb hN Z (qe Z (ze (zb hN Z (qd Z (za (yo qm Z) (qd Z (za (yo qm Z) (za (wa Z Z) (zg _ Z (fun h3 => ?_) (fun h3 => ?_))))))))))
 ·refine tE h3 H fun H=>zb hN Z (qe Z (zh ?_))
  cases H
  exact ⟨U,.inl Z,U⟩
 ·refine fE h3 H fun H=>zk (ze (zb hN Z (qd Z (za (yo qm Z) (qd Z (zx (gE H fun h6 H=>wi (fun (k4:Nat) (s:Unit)=>[(0,.dat (vlst (List.map zo s1))),(1,.dat (vlst (List.map zo s2))),(12,.dat (vint (s1.length:Int))),(13,.dat (vint (k4:Int)))]) (fun (k4:Nat) (s:Unit)=>[]) () H ⟨Z,Z,Z,Z,U⟩ U (fun _ _=>Z) ?_ ?_)))))))
  ·rintro ⟨⟩ H
   replace H:y7e=some r:=H
   unfold y7e at H
   refine zb hN Z (za (zy Z Z) (ze (zg _ Z (fun h=>(lt_t h).elim) (fun h => ?_))))
   refine qg (zb hN Z (qe Z (zh ?_)))
   cases H
   exact ⟨U,.inl Z,U⟩
  ·rintro k4 x7 ⟨⟩ q5 h8 h9 H hq5
   replace H:y24 s2 k4 x7=some q5:=H
   unfold y24 at H
   refine zb hN Z (za (zy Z Z) (ze (zg _ Z (fun h => ?_) (fun h=>(lt_f h8 h).elim))))
   refine zk (ze (zx (zb hN Z (qd Z (qe Z (ze (wx mixed hN Z Z (qd Z (qd Z (za (qu qv (fun _=>Z) Z Z h9) (za (yj tyS9 Z (yy h9) Z) (qd Z (qd Z (bE H fun x10 h11 H=>za (qu qv (fun _=>Z) Z Z h11) (za (yj tyS9 Z (yy h11) Z) (za (jj Z Z) ⟨Z,?_⟩))))))))))))))))
   refine zg _ Z (fun h12 => ?_) (fun h12 => ?_)
   ·refine tE h12 H fun H=>zb hN Z (qe Z (zh ?_))
    replace H:=retl H hq5
    cases H
    exact ⟨U,.inl Z,U⟩
   ·exact fE h12 H fun H=>zk (zq hN Z (za (qw Z Z (by omega)) (qd Z ⟨_,qk H,⟨Z,Z,Z,Z,U⟩,U⟩)))
theorem x4y (v1:zm) (r:(Int)) (H:z2b v1=some r):Fn Tryz.prog 26 [vagg (yq v1)] (zw [vint r]):=by
 refine ⟨by kernel_rfl,yd (us:=[vint r]) Tryz.func26 Z Z Z Z fun X hN => ?_⟩
 unfold z2b at H
 refine zb hN Z (zi (jf 1 Z) Z (qe Z (ze (zx (yf (ι:=Bool) (fun i=>[(1,.ptr 1 0),(6,.dat (zj i))]) (fun i=>[(1,.box none 39 [.dat (vstr v1.Id),.dat (vstr v1.Subject),.dat (vstr v1.Issuer),.dat (vstr v1.Parent),.dat (vlst (List.map zo v1.Audience)),.dat (vlst (List.map zo v1.Scopes)),.dat (vint v1.From),.dat (vint v1.To)])]) (fun i=>Yl v1 i=some r) (fun i=>Z) ?_ ?_)))))
 ·skip
  refine zq hN Z (za (zn z0z Z) (zu (zp tyS9 Z Z) Z (bE H fun r2 h3 H=>za (zl (xv v1.Id r2 h3) ⟨.inl Z,U⟩) (za (yt Z) (qd Z (yh (j:=4) Z Z (fun h4 => ?_) (fun h4 => ?_) Z))))))
  ·refine u3 h4 H fun h5 H=>zd Z Z h4 (zn z0y Z) (vj Z Z h4 (zp tyS9 Z Z) Z (bE H fun r6 h7 H=>zd Z Z h4 (zl (xv v1.Subject r6 h7) ⟨.inl Z,U⟩) (zd Z Z h4 (yt Z) (za (yb Z (bFF h5) Z) (qd Z (yh (j:=10) Z Z (fun h8 => ?_) (fun h8 => ?_) Z))))))
   ·refine u3 h8 H fun h9 H=>zd Z Z h8 (zn z0x Z) (vj Z Z h8 (zp tyS9 Z Z) Z (bE H fun r10 h11 H=>zd Z Z h8 (zl (xv v1.Issuer r10 h11) ⟨.inl Z,U⟩) (zd Z Z h8 (yt Z) (za (yb Z (bFF h9) Z) (qd Z (yh (j:=16) Z Z (fun h12 => ?_) (fun h12 => ?_) Z))))))
    ·refine u3 h12 H fun h13 H=>zd Z Z h12 (zn Zv Z) (vj Z Z h12 (zp tyS9 Z Z) Z (zd Z Z h12 (jj Z Z) (zd Z Z h12 (zf (.dat _) Z) (yh (j:=20) Z Z (fun h14 => ?_) (fun h14 => ?_) Z))))
     ·exact u1 h14 H fun h15 H=>zd Z Z h14 (zn Zv Z) (vj Z Z h14 (zp tyS9 Z Z) Z (bE H fun r16 h17 H=>zd Z Z h14 (zl (xv v1.Parent r16 h17) ⟨.inl Z,U⟩) (zd Z Z h14 (yt Z) (zd Z Z h12 (zz Z (bTT h15) Z) (za (yb Z (bFF h13) Z) (qe Z ⟨!r16,H,⟨Z,Z,U⟩,⟨Z,U⟩⟩))))))
     ·exact u2 h14 H fun h18 H=>zc Z Z h14 (zc Z Z h14 (zc Z Z h14 (zc Z Z h14 (zd Z Z h12 (yb Z (bFF h18) Z) (za (yb Z (bFF h13) Z) (qe Z ⟨false,H,⟨Z,Z,U⟩,⟨Z,U⟩⟩))))))
    ·exact u4 h12 H fun h19 H=>zc Z Z h12 (zc Z Z h12 (zc Z Z h12 (zc Z Z h12 (yg Z Z (yg Z Z (yg Z Z (yg Z Z (zc Z Z h12 (za (zz Z (bTT h19) Z) (qe Z ⟨true,H,⟨Z,Z,U⟩,⟨Z,U⟩⟩))))))))))
   ·exact u4 h8 H fun h20 H=>zc Z Z h8 (zc Z Z h8 (zc Z Z h8 (zc Z Z h8 (za (zz Z (bTT h20) Z) (qd Z (zc Z Z Z (zc Z Z Z (zc Z Z Z (zc Z Z Z (yg Z Z (yg Z Z (yg Z Z (yg Z Z (zc Z Z Z (za (zz Z Z Z) (qe Z ⟨true,H,⟨Z,Z,U⟩,⟨Z,U⟩⟩))))))))))))))))
  ·refine u4 h4 H fun h21 H=>zc Z Z h4 (zc Z Z h4 (zc Z Z h4 (zc Z Z h4 (za (zz Z (bTT h21) Z) (qd Z (zc Z Z Z (zc Z Z Z (zc Z Z Z (zc Z Z Z (za (zz Z Z Z) (qd Z (zc Z Z Z (zc Z Z Z (zc Z Z Z (zc Z Z Z (yg Z Z (yg Z Z (yg Z Z (yg Z Z (zc Z Z Z (za (zz Z Z Z) (qe Z ?_))))))))))))))))))))))
   exact ⟨true,H,⟨Z,Z,U⟩,⟨Z,U⟩⟩
 ·rintro v22 H
  replace H:Yl v1 v22=some r:=H
  unfold Yl at H
  refine zg _ Z (fun h23 => ?_) (fun h23 => ?_)
  ·refine tE h23 H fun H=>zb hN Z (qe Z (zh ?_))
   cases H
   exact ⟨U,.inl Z,U⟩
  ·refine fE h23 H fun H=>zb hN Z (za (zn uz Z) (zu (zp qq Z Z) Z (za (yo qm Z) (za (qh Z Z) (qe Z (zg _ Z (fun h24 => ?_) (fun h24 => ?_)))))))
   ·refine tE h24 H fun H=>zb hN Z (qe Z (zh ?_))
    cases H
    exact ⟨U,.inl Z,U⟩
   ·refine fE h24 H fun H=>zk (ze (zb hN Z (za (zn uz Z) (zu (zp qq Z Z) Z (za (yo qm Z) (qd Z (zx (gE H fun h27 H=>wi (fun (k25:Nat) (s:Unit)=>[(1,.ptr 1 0),(40,.dat (vlst (List.map zo v1.Audience))),(41,.dat (vint (v1.Audience.length:Int))),(42,.dat (vint (k25:Int)))]) (fun (k25:Nat) (s:Unit)=>[(1,.box none 39 [.dat (vstr v1.Id),.dat (vstr v1.Subject),.dat (vstr v1.Issuer),.dat (vstr v1.Parent),.dat (vlst (List.map zo v1.Audience)),.dat (vlst (List.map zo v1.Scopes)),.dat (vint v1.From),.dat (vint v1.To)])]) () H ⟨Z,Z,Z,Z,U⟩ ⟨Z,U⟩ (fun _ _=>Z) ?_ ?_))))))))
    ·rintro ⟨⟩ H
     replace H:y1d v1=some r:=H
     unfold y1d at H
     refine zb hN Z (za (zy Z Z) (ze (zg _ Z (fun h=>(lt_t h).elim) (fun h => ?_))))
     refine qg (ze (zb hN Z (za (zn xo Z) (zu (zp qq Z Z) Z (bE H fun r29 h30 H=>za (zl (x4w v1.Scopes r29 h30) ⟨.inl Z,U⟩) (qe Z (zb hN Z (qd Z (za (wa Z Z) (zg _ Z (fun h31 => ?_) (fun h31 => ?_)))))))))))
     ·refine tE h31 H fun H=>zb hN Z (qd Z (qe Z (zh ?_)))
      cases H
      exact ⟨U,.inl Z,U⟩
     ·refine fE h31 H fun H=>zk (ze (ze (wx mixed hN Z Z (za (zn xo Z) (zu (zp qq Z Z) Z (bE H fun r32 h33 H=>za (zl (y8s v1.Scopes r32 h33) ⟨.inl Z,U⟩) (za (zn xo Z) (zu (zp qq Z Z) Z (bE H fun r34 h35 H=>za (zl (y8m r32 v1.Scopes r34 h35) ⟨.inl Z,.inl Z,U⟩) (za (yt Z) ⟨Z,?_⟩))))))))))
      refine zg _ Z (fun h36 => ?_) (fun h36 => ?_)
      ·refine tE h36 H fun H=>zb hN Z (qe Z (zh ?_))
       cases H
       exact ⟨U,.inl Z,U⟩
      ·refine fE h36 H fun H=>zk (ze (zb hN Z (za (zn Zu Z) (zu (zp tyS3 Z Z) Z (za (zy Z Z) (qd Z (yi Z Z (fun hc=>zn Zu Z) (jk Z Z (fun hc=>zp tyS3 (cnd (c:=(!(decide (v1.From < 0)))) hc) Z) Z vv (yi Z Z (fun hc=>zn Za Z) (jk Z Z (fun hc=>zp tyS3 (cnd (c:=(!(decide (v1.From < 0)))) hc) Z) Z vv (yi Z Z (fun hc=>vy (cnd (c:=(!(decide (v1.From < 0)))) hc) (cnd (c:=(!(decide (v1.From < 0)))) hc)) (za (wz Z Z (fun hb=>(cnd (c:=(!(decide (v1.From < 0)))) (notI hb)))) (qd Z (yi Z Z (fun hc=>zn Za Z) (jk Z Z (fun hc=>zp tyS3 (cnd (c:=(!((decide (v1.From < 0)) || (decide (v1.To≤v1.From))))) hc) Z) Z vv (yi Z Z (fun hc=>qh (cnd (c:=(!((decide (v1.From < 0)) || (decide (v1.To≤v1.From))))) hc) Z) (za (wz Z Z (fun hb=>(cnd (c:=(!((decide (v1.From < 0)) || (decide (v1.To≤v1.From))))) (notI hb)))) (zg _ Z (fun h37 => ?_) (fun h37 => ?_)))))))))))))))))))
       ·refine tE h37 H fun H=>zb hN Z (qe Z (zh ?_))
        cases H
        exact ⟨U,.inl Z,U⟩
       ·refine fE h37 H fun H=>zk (zb hN Z (qe Z (zh ?_)))
        cases H
        exact ⟨U,.inl Z,U⟩
    ·rintro k25 x28 ⟨⟩ q26 h38 h39 H hq26
     replace H:y5j v1 k25 x28=some q26:=H
     unfold y5j at H
     refine zb hN Z (za (zy Z Z) (ze (zg _ Z (fun h => ?_) (fun h=>(lt_f h38 h).elim))))
     refine zk (ze (zx (zb hN Z (qd Z (za (qu qv (fun _=>Z) Z Z h39) (za (yj tyS9 Z (yy h39) Z) (qe Z (qe Z (ze (zb hN Z (qd Z (bE H fun r40 h41 H=>za (zl (xv x28 r40 h41) ⟨.inl Z,U⟩) (za (yt Z) (zg _ Z (fun h42 => ?_) (fun h42 => ?_)))))))))))))))
     ·refine tE h42 H fun H=>zb hN Z (qe Z (zh ?_))
      replace H:=retl H hq26
      cases H
      exact ⟨U,.inl Z,U⟩
     ·refine fE h42 H fun H=>zk (yf (ι:=Bool) (fun i=>[(1,.ptr 1 0),(40,.dat (vlst (List.map zo v1.Audience))),(41,.dat (vint (v1.Audience.length:Int))),(42,.dat (vint (k25:Int))),(61,.dat (zj i))]) (fun i=>[(1,.box none 39 [.dat (vstr v1.Id),.dat (vstr v1.Subject),.dat (vstr v1.Issuer),.dat (vstr v1.Parent),.dat (vlst (List.map zo v1.Audience)),.dat (vlst (List.map zo v1.Scopes)),.dat (vint v1.From),.dat (vint v1.To)])]) (fun i=>z29 i=some q26) (fun i=>Z) ?_ ?_)
      ·skip
       refine zq hN Z (qd Z (za (qh Z Z) (qd Z (yh (j:=2) Z Z (fun h43 => ?_) (fun h43 => ?_) Z))))
       ·exact u1 h43 H fun h44 H=>zd Z Z h43 (zf (.dat _) Z) (zd Z Z h43 (zn uz Z) (vj Z Z h43 (zp qq Z Z) Z (zd Z Z h43 (zf (.dat _) Z) (zd Z Z h43 (Wn Z Z (by omega)) (bE H fun x45 h46 H=>zd Z Z h43 (jm qv (fun _=>Z) Z Z h46) (zd Z Z h43 (yj tyS9 Z (yy (vu h46).2) Z) (zd Z Z h43 (z79 Z Z) (za (zz Z (bTT h44) Z) ⟨(Op.bytesLess x28 x45 || x28 == x45),H,⟨Z,Z,Z,Z,Z,U⟩,⟨Z,U⟩⟩))))))))
       ·exact u2 h43 H fun h47 H=>zc Z Z h43 (zc Z Z h43 (zc Z Z h43 (zc Z Z h43 (zc Z Z h43 (zc Z Z h43 (zc Z Z h43 (zc Z Z h43 (za (yb Z (bFF h47) Z) ⟨false,H,⟨Z,Z,Z,Z,Z,U⟩,⟨Z,U⟩⟩))))))))
      ·rintro v48 H
       replace H:z29 v48=some q26:=H
       unfold z29 at H
       refine zg _ Z (fun h49 => ?_) (fun h49 => ?_)
       ·refine tE h49 H fun H=>zb hN Z (qe Z (zh ?_))
        replace H:=retl H hq26
        cases H
        exact ⟨U,.inl Z,U⟩
       ·exact fE h49 H fun H=>zk (zq hN Z (za (qw Z Z (by omega)) (qd Z ⟨_,qk H,⟨Z,Z,Z,Z,U⟩,⟨Z,U⟩⟩)))
theorem y8k (n:Int) (r:Bs) (H:Ww n=some r):Fn Tryz.prog 116 [vint n] (zw [vstr r]):=by
 obtain ⟨⟨h1,h2⟩,h3⟩:=gif H
 cases h3
 refine xx (by kernel_rfl) fun M w vs hM h => ?_
 have hv:=kr (us:=[.int .i64 n]) h
 subst hv
 refine (Tryz.strconv_Itoa n h1 h2 w (w1n hM)).mono ?_
 rintro e w' ⟨rfl,k,os,rfl⟩
 exact ⟨_,Z,Z,Kp.of_below ⟨Z,Z,Z,by show w.heap.size≤(w.heap++os).size; rw [Array.size_append]; omega,fun j hj=>by show (w.heap++os)[j]?=w.heap[j]?; exact Array.getElem?_append_left hj⟩⟩
theorem y8t (c1:zm) (r:(Bs)) (H:z2a c1=some r):Fn Tryz.prog 53 [vagg (yq c1)] (zw [vstr r]):=by
 refine ⟨by kernel_rfl,yd (us:=[vstr r]) Tryz.func53 Z Z Z Z fun X hN => ?_⟩
 unfold z2a at H
 refine zb hN Z (zi (jf 1 Z) Z (qe Z (zb hN Z (za (zn z0z Z) (zu (zp tyS9 Z Z) Z (gE H fun h2 H=>za (wt Z Z (Nat.le_trans h2 (by decide))) (za (zn z0y Z) (zu (zp tyS9 Z Z) Z (gE H fun h3 H=>za (wt Z Z (Nat.le_trans h3 (by decide))) (za (zn z0x Z) (zu (zp tyS9 Z Z) Z (gE H fun h4 H=>za (wt Z Z (Nat.le_trans h4 (by decide))) (zi (x8d (C:=zo) 2 ([([105,100,32]++c1.Id),([115,117,98,106,101,99,116,32]++c1.Subject),([105,115,115,117,101,114,32]++c1.Issuer)]:(List Bs)) qn ⟨Z,.inl ⟨_,Z,Z,Z⟩,Z,Z,.inl ⟨_,Z,Z,Z⟩,Z,Z,.inl ⟨_,Z,Z,Z⟩,Z,U⟩ Z Z Z) Z (za (wm (.row _ _) Z) (yf (ι:=(List Bs)) (fun i=>[(1,.ptr 1 0),(3,.row 2 i.length)]) (fun i=>[(1,.box none 39 [.dat (vstr c1.Id),.dat (vstr c1.Subject),.dat (vstr c1.Issuer),.dat (vstr c1.Parent),.dat (vlst (List.map zo c1.Audience)),.dat (vlst (List.map zo c1.Scopes)),.dat (vint c1.From),.dat (vint c1.To)]),(2,.row 9 1 (List.map zo i))]) (fun i=>z28 c1 i=some r) (fun i=>Z) ?_ ?_)))))))))))))))
 ·skip
  refine zb hN Z (za (zn Zv Z) (zu (zp tyS9 Z Z) Z (za (jj Z Z) (zg _ Z (fun h5 => ?_) (fun h5 => ?_)))))
  ·refine tE h5 H fun H=>zq hN Z (za (zf (.row _ _) Z) (za (zn Zv Z) (zu (zp tyS9 Z Z) Z (gE H fun h6 H=>za (wt Z Z (Nat.le_trans h6 (by decide))) (za (ye (u':=vlst (List.map zo [([112,97,114,101,110,116,32]++c1.Parent)])) (qa [[_]] qn ⟨Z,.inl ⟨_,Z,Z,Z⟩,Z,U⟩ Z Z) Z) (gE H fun h7 H=>zi (jt qn (fun _=>Z) Z Z Z ⟨by simp,by first | (simp; done) | simpa using h7⟩ Z) Z ?_))))))
   exact za (wm (.row _ _) Z) ⟨(([([105,100,32]++c1.Id),([115,117,98,106,101,99,116,32]++c1.Subject),([105,115,115,117,101,114,32]++c1.Issuer)]:(List Bs))++([([112,97,114,101,110,116,32]++c1.Parent)])),H,⟨Z,Z,U⟩,⟨Z,Z,U⟩⟩
  ·exact fE h5 H fun H=>zk ⟨([([105,100,32]++c1.Id),([115,117,98,106,101,99,116,32]++c1.Subject),([105,115,115,117,101,114,32]++c1.Issuer)]:(List Bs)),H,⟨Z,Z,U⟩,⟨Z,Z,U⟩⟩
 ·rintro l8 H
  replace H:z28 c1 l8=some r:=H
  unfold z28 at H
  refine yf (ι:=(List Bs)) (fun i=>[(1,.ptr 1 0),(3,.row 2 i.length)]) (fun i=>[(1,.box none 39 [.dat (vstr c1.Id),.dat (vstr c1.Subject),.dat (vstr c1.Issuer),.dat (vstr c1.Parent),.dat (vlst (List.map zo c1.Audience)),.dat (vlst (List.map zo c1.Scopes)),.dat (vint c1.From),.dat (vint c1.To)]),(2,.row 9 1 (List.map zo i))]) (fun i=>z26 c1 i=some r) (fun i=>Z) ?_ ?_
  ·skip
   refine zb hN Z (za (zn uz Z) (zu (zp qq Z Z) Z (za (yo qm Z) (za (qh Z Z) (zg _ Z (fun h9 => ?_) (fun h9 => ?_))))))
   ·refine tE h9 H fun H=>zq hN Z (za (zf (.row _ _) Z) (za (zn uz Z) (zu (zp qq Z Z) Z (bE H fun r10 h11 H=>za (zl (y4r c1.Audience [32] r10 h11) ⟨.inl Z,.inl Z,U⟩) (gE H fun h12 H=>za (wt Z Z (Nat.le_trans h12 (by decide))) (za (ye (u':=vlst (List.map zo [([102,111,114,32]++r10)])) (qa [[_]] qn ⟨Z,.inl ⟨_,Z,Z,Z⟩,Z,U⟩ Z Z) Z) (gE H fun h13 H=>zi (jt qn (fun _=>Z) Z Z Z ⟨by simp,by first | (simp; done) | simpa using h13⟩ Z) Z ?_)))))))
    exact za (wm (.row _ _) Z) ⟨(l8++([([102,111,114,32]++r10)])),H,⟨Z,Z,U⟩,⟨Z,Z,U⟩⟩
   ·exact fE h9 H fun H=>zk ⟨l8,H,⟨Z,Z,U⟩,⟨Z,Z,U⟩⟩
  ·rintro l14 H
   replace H:z26 c1 l14=some r:=H
   unfold z26 at H
   refine yf (ι:=(List Bs)) (fun i=>[(1,.ptr 1 0),(3,.row 2 i.length)]) (fun i=>[(1,.box none 39 [.dat (vstr c1.Id),.dat (vstr c1.Subject),.dat (vstr c1.Issuer),.dat (vstr c1.Parent),.dat (vlst (List.map zo c1.Audience)),.dat (vlst (List.map zo c1.Scopes)),.dat (vint c1.From),.dat (vint c1.To)]),(2,.row 9 1 (List.map zo i))]) (fun i=>z23 c1 i=some r) (fun i=>Z) ?_ ?_
   ·skip
    refine zb hN Z (za (zn xo Z) (zu (zp qq Z Z) Z (za (yo qm Z) (za (qh Z Z) (zg _ Z (fun h15 => ?_) (fun h15 => ?_))))))
    ·refine tE h15 H fun H=>zq hN Z (za (zf (.row _ _) Z) (za (zn xo Z) (zu (zp qq Z Z) Z (bE H fun r16 h17 H=>za (zl (y4r c1.Scopes [32] r16 h17) ⟨.inl Z,.inl Z,U⟩) (gE H fun h18 H=>za (wt Z Z (Nat.le_trans h18 (by decide))) (za (ye (u':=vlst (List.map zo [([109,97,121,32]++r16)])) (qa [[_]] qn ⟨Z,.inl ⟨_,Z,Z,Z⟩,Z,U⟩ Z Z) Z) (gE H fun h19 H=>zi (jt qn (fun _=>Z) Z Z Z ⟨by simp,by first | (simp; done) | simpa using h19⟩ Z) Z ?_)))))))
     exact za (wm (.row _ _) Z) ⟨(l14++([([109,97,121,32]++r16)])),H,⟨Z,Z,U⟩,⟨Z,Z,U⟩⟩
    ·exact fE h15 H fun H=>zk ⟨l14,H,⟨Z,Z,U⟩,⟨Z,Z,U⟩⟩
   ·rintro l20 H
    replace H:z23 c1 l20=some r:=H
    unfold z23 at H
    refine ze (wx mixed hN Z Z (za (zf (.row _ _) Z) (za (zn Zu Z) (zu (zp tyS3 Z Z) Z (bE H fun r21 h22 H=>za (zl (y8k c1.From r21 h22) ⟨.inl Z,U⟩) (gE H fun h23 H=>za (wt Z Z (Nat.le_trans h23 (by decide))) (gE H fun h24 H=>za (wt Z Z (Nat.le_trans h24 (by decide))) (za (zn Za Z) (zu (zp tyS3 Z Z) Z (bE H fun r25 h26 H=>za (zl (y8k c1.To r25 h26) ⟨.inl Z,U⟩) (gE H fun h27 H=>za (wt Z Z (Nat.le_trans h27 (by decide))) (za (ye (u':=vlst (List.map zo [((([116,105,109,101,32]++r21)++[32])++r25)])) (qa [[_]] qn ⟨Z,.inl ⟨_,Z,Z,Z⟩,Z,U⟩ Z Z) Z) (gE H fun h28 H=>zi (jt qn (fun _=>Z) Z Z Z ⟨by simp,by first | (simp; done) | simpa using h28⟩ Z) Z ?_)))))))))))))
    refine za (wm (.row _ _) Z) ⟨Z,?_⟩
    refine ze (z7z 3 2 Z Z Z (zq hN Z (qd Z (bE H fun r29 h30 H=>za (zl (y4r (l20++([((([116,105,109,101,32]++r21)++[32])++r25)])) [10] r29 h30) ⟨.inl Z,.inl Z,U⟩) (gE H fun h31 H=>za (wt Z Z (Nat.le_trans h31 (by decide))) (qe Z (zh ?_)))))))
    cases H
    exact ⟨U,.inl Z,U⟩
theorem w5b (c1:zm) (r:(Bs×Int)) (H:z5n c1=some r):Fn Tryz.prog 111 [vagg (yq c1)] (zw [vstr r.1,vint r.2]):=by
 refine ⟨by kernel_rfl,yd (us:=[vstr r.1,vint r.2]) Tryz.func111 Z Z Z Z fun X hN => ?_⟩
 unfold z5n at H
 refine zb hN Z (zi (jf 1 Z) Z (qe Z (qe Z (ze (zb hN Z (zu (vo yn Z Z Z) Z (bE H fun r2 h3 H=>za (zl (x4y c1 r2 h3) ⟨.inl Z,U⟩) (qe Z (zb hN Z (qd Z (za (wa Z Z) (zg _ Z (fun h4 => ?_) (fun h4 => ?_)))))))))))))
 ·refine tE h4 H fun H=>zb hN Z (qd Z (qe Z (qe Z (zh ?_))))
  cases H
  exact ⟨U,.inl Z,.inl Z,U⟩
 ·refine fE h4 H fun H=>zk (zb hN Z (zu (vo yn Z Z Z) Z (bE H fun r5 h6 H=>za (zl (y8t c1 r5 h6) ⟨.inl Z,U⟩) (qe Z (ze (zb hN Z (qd Z (za (qp tyU9 Z) (za (qh Z Z) (zg _ Z (fun h7 => ?_) (fun h7 => ?_)))))))))))
  ·refine tE h7 H fun H=>zb hN Z (qe Z (qe Z (zh ?_)))
   cases H
   exact ⟨U,.inl Z,.inl Z,U⟩
  ·refine fE h7 H fun H=>zk (zb hN Z (qd Z (qe Z (qe Z (zh ?_)))))
   cases H
   exact ⟨U,.inl Z,.inl Z,U⟩
theorem y8r (v1:Int) (r:(Bool)) (H:z5l v1=some r):Fn Tryz.prog 78 [vint v1] (zw [zj r]):=by
 refine ⟨by kernel_rfl,yd (us:=[zj r]) Tryz.func78 Z Z Z Z fun X hN => ?_⟩
 unfold z5l at H
 refine zb hN Z (qe Z (zb hN Z (qd Z (bE H fun r2 h3 H=>za (zl (Yg v1 0 345686399999 r2 h3) ⟨.inl Z,.inl Z,.inl Z,U⟩) (qe Z (zh ?_))))))
 cases H
 exact ⟨U,.inl Z,U⟩
end Go.Proofs.YtndabcepiekebaaGreatDoor
