/- Walks along the models. Printed by a program. -/
import Derived.Test.YtbndlmnjeofkdaaGreatDoorZsw2
namespace Go.Proofs.YtbndlmnjeofkdaaGreatDoor
open Go.RowKit
set_option linter.unusedVariables false
set_option maxRecDepth 100000
set_option maxHeartbeats 2000000
theorem z3q (s1:Bs) (cutset2:Bs) (r:(Bs)) (H:Zq s1 cutset2=some r):Fn Tryz.prog 100 [vstr s1,vstr cutset2] (zt [vstr r]):=by
 refine ⟨by kernel_rfl,yf (us:=[vstr r]) Tryz.func100 Z Z Z Z fun X hN => ?_⟩
 unfold Zq at H
 refine zb hN Z (qe Z (zf (zb hN Z (qd Z (za (va Z Z) (qd Z (yv Z Z (fun hc=>zd (.dat _) Z) (yv Z Z (fun hc=>va (cnd (c:=(!(decide (s1=[])))) hc) Z) (za (vr Z Z (fun hb=>(cnd (c:=(!(decide (s1=[])))) (notI hb)))) (zg _ Z (fun h3 => ?_) (fun h3 => ?_)))))))))))
 ·refine tE h3 H fun H=>zb hN Z (qd Z (qe Z (zi ?_)))
  cases H
  exact ⟨U,.inl Z,U⟩
 ·refine fE h3 H fun H=>zl (zf (yc (ι:=Bool) (fun i=>[(0,.dat (vstr s1)),(1,.dat (vstr cutset2)),(21,.dat (zh i))]) (fun i=>[]) (fun i=>z2a s1 cutset2 i=some r) (fun i=>Z) ?_ ?_))
  ·skip
   refine zp hN Z (qd Z (za (yw tyU9 Z) (za (yu Z Z) (qd Z (yg (j:=3) Z Z (fun h4 => ?_) (fun h4 => ?_) Z)))))
   ·exact u1 h4 H fun h5 H=>ze Z Z h4 (zd (.dat _) Z) (bE H fun x6 h7 H=>ze Z Z h4 (qv tyU9 Z Z h7) (ze Z Z h4 (zy Z Z) (za (zz Z (bTT h5) Z) ⟨decide ((x6.toNat:Int) < 128),H,⟨Z,Z,Z,U⟩,U⟩)))
   ·exact u2 h4 H fun h8 H=>zc Z Z h4 (zc Z Z h4 (zc Z Z h4 (za (zv Z (bFF h8) Z) ⟨false,H,⟨Z,Z,Z,U⟩,U⟩)))
  ·rintro v9 H
   replace H:z2a s1 cutset2 v9=some r:=H
   unfold z2a at H
   refine zg _ Z (fun h10 => ?_) (fun h10 => ?_)
   ·refine tE h10 H fun H=>zf (vi mixed hN Z Z (qd Z (qd Z (bE H fun x11 h12 H=>za (qv tyU9 Z Z h12) (bE H fun r13 h14 H=>za (zm (w0a s1 (x11.toNat:Int) r13 h14) ⟨.inl Z,.inl Z,U⟩) (qd Z (za (qv tyU9 Z Z h12) (bE H fun r15 h16 H=>za (zm (w0b r13 (x11.toNat:Int) r15 h16) ⟨.inl Z,.inl Z,U⟩) (qe Z ⟨Z,?_⟩)))))))))
    refine zi ?_
    cases H
    exact ⟨U,.inl Z,U⟩
   ·refine fE h10 H fun H=>?_
    cases H
theorem x0j (s1:Bs) (r:(Bool)) (H:z0b s1=some r):Fn Tryz.prog 49 [vstr s1] (zt [zh r]):=by
 refine ⟨by kernel_rfl,yf (us:=[zh r]) Tryz.func49 Z Z Z Z fun X hN => ?_⟩
 unfold z0b at H
 refine zb hN Z (qe Z (yc (ι:=Bool) (fun i=>[(2,.dat (zh i))]) (fun i=>[]) (fun i=>Wt i=some r) (fun i=>Z) ?_ ?_))
 ·skip
  refine zp hN Z (qd Z (za (yw tyU9 Z) (za (wn Z Z) (qd Z (yg (j:=3) Z Z (fun h2 => ?_) (fun h2 => ?_) Z)))))
  ·refine u1 h2 H fun h3 H=>ze Z Z h2 (zd (.dat _) Z) (bE H fun r4 h5 H=>ze Z Z h2 (zm (y4i s1 32 126 r4 h5) ⟨.inl Z,.inl Z,.inl Z,U⟩) (za (zz Z (bTT h3) Z) (qd Z (yg (j:=7) Z Z (fun h6 => ?_) (fun h6 => ?_) Z))))
   ·exact u1 h6 H fun h7 H=>ze Z Z h6 (zd (.dat _) Z) (bE H fun r8 h9 H=>ze Z Z h6 (zm (z3q s1 [32] r8 h9) ⟨.inl Z,.inl Z,U⟩) (ze Z Z h6 (zd (.dat _) Z) (ze Z Z h6 (va Z Z) (za (zz Z (bTT h7) Z) (qe Z ⟨decide (r8=s1),H,⟨Z,U⟩,U⟩)))))
   ·exact u2 h6 H fun h10 H=>zc Z Z h6 (zc Z Z h6 (zc Z Z h6 (zc Z Z h6 (za (zv Z (bFF h10) Z) (qe Z ⟨false,H,⟨Z,U⟩,U⟩)))))
  ·exact u2 h2 H fun h11 H=>zc Z Z h2 (zc Z Z h2 (za (zv Z (bFF h11) Z) (qd Z (zc Z Z Z (zc Z Z Z (zc Z Z Z (zc Z Z Z (za (zv Z Z Z) (qe Z ⟨false,H,⟨Z,U⟩,U⟩)))))))))
 ·rintro v12 H
  replace H:Wt v12=some r:=H
  unfold Wt at H
  refine zi ?_
  cases H
  exact ⟨U,.inl Z,U⟩
theorem x0k (l1:(List zo)) (r:(Int)) (H:z26 l1=some r):Fn Tryz.prog 50 [vlst (List.map yh l1)] (zt [vint r]):=by
 refine ⟨by kernel_rfl,yf (us:=[vint r]) Tryz.func50 Z Z Z Z fun X hN => ?_⟩
 unfold z26 at H
 refine zb hN Z (qe Z (zf (zb hN Z (qd Z (za (qf Zb Z) (za (wa Z Z) (zg _ Z (fun h2 => ?_) (fun h2 => ?_))))))))
 ·refine tE h2 H fun H=>zb hN Z (qe Z (zi ?_))
  cases H
  exact ⟨U,.inl Z,U⟩
 ·refine fE h2 H fun H=>zl (zf (zb hN Z (qd Z (za (qf Zb Z) (qd Z (zx (gE H fun h5 H=>qy (fun (k3:Nat) (s:Unit)=>[(8,.dat (vlst (List.map yh l1))),(9,.dat (vint (l1.length:Int))),(10,.dat (vint (k3:Int)))]) (fun (k3:Nat) (s:Unit)=>[]) () H ⟨Z,Z,Z,U⟩ U (fun _ _=>Z) ?_ ?_)))))))
  ·rintro ⟨⟩ H
   replace H:z90=some r:=H
   unfold z90 at H
   refine zb hN Z (za (zy Z Z) (zf (zg _ Z (fun h=>(lt_t h).elim) (fun h => ?_))))
   refine yt (zb hN Z (qe Z (zi ?_)))
   cases H
   exact ⟨U,.inl Z,U⟩
  ·rintro k3 x6 ⟨⟩ q4 h7 h8 H hq4
   replace H:z9z k3 x6=some q4:=H
   unfold z9z at H
   refine zb hN Z (za (zy Z Z) (zf (zg _ Z (fun h => ?_) (fun h=>(lt_f h7 h).elim))))
   refine zl (zf (zx (zb hN Z (za (wi z15 (fun _=>Z) Z Z h8) (za (Zf uu Z (qg h8) Z) (zk (wd 1 ut Z) Z (zk (qw uu Z Z Z Z) Z (zf (zb hN Z (za (zw z12 Z) (zr (ye tyS9 Z Z) Z (bE H fun r9 h10 H=>za (zm (y0k x6.Name r9 h10) ⟨.inl Z,U⟩) (za (yr Z) (zg _ Z (fun h11 => ?_) (fun h11 => ?_)))))))))))))))
   ·refine tE h11 H fun H=>zb hN Z (qe Z (zi ?_))
    replace H:=retl H hq4
    cases H
    exact ⟨U,.inl Z,U⟩
   ·refine fE h11 H fun H=>zl (zb hN Z (za (zw z8r Z) (zr (ye tyS9 Z Z) Z (bE H fun r12 h13 H=>za (zm (x0j x6.Value r12 h13) ⟨.inl Z,U⟩) (za (yr Z) (zg _ Z (fun h14 => ?_) (fun h14 => ?_)))))))
    ·refine tE h14 H fun H=>zb hN Z (qe Z (zi ?_))
     replace H:=retl H hq4
     cases H
     exact ⟨U,.inl Z,U⟩
    ·exact fE h14 H fun H=>zl (zp hN Z (za (qj Z Z (by omega)) (qd Z ⟨_,yx H,⟨Z,Z,Z,U⟩,U⟩)))
theorem y4m (r1:zu) (r:(Int)) (H:vo r1=some r):Fn Tryz.prog 16 [vagg (we r1)] (zt [vint r]):=by
 refine ⟨by kernel_rfl,yf (us:=[vint r]) Tryz.func16 Z Z Z Z fun X hN => ?_⟩
 unfold vo at H
 refine zb hN Z (zk (wy 1 Z) Z (qe Z (zf (zb hN Z (za (zw y2a Z) (zr (ye tyS3 Z Z) Z (bE H fun r2 h3 H=>za (zm (y4n r1.At r2 h3) ⟨.inl Z,U⟩) (za (yr Z) (zg _ Z (fun h4 => ?_) (fun h4 => ?_))))))))))
 ·refine tE h4 H fun H=>zb hN Z (qe Z (zi ?_))
  cases H
  exact ⟨U,.inl Z,U⟩
 ·refine fE h4 H fun H=>zl (zf (zb hN Z (za (zw Yi Z) (zr (ye tyS9 Z Z) Z (bE H fun r5 h6 H=>za (zm (y0k r1.Method r5 h6) ⟨.inl Z,U⟩) (za (yr Z) (zg _ Z (fun h7 => ?_) (fun h7 => ?_))))))))
  ·refine tE h7 H fun H=>zb hN Z (qe Z (zi ?_))
   cases H
   exact ⟨U,.inl Z,U⟩
  ·refine fE h7 H fun H=>zl (zf (yc (ι:=Bool) (fun i=>[(1,.ptr 1 0),(33,.dat (zh i))]) (fun i=>[(1,.box none 28 [.dat (vint r1.At),.dat (vstr r1.Method),.dat (vstr r1.Host),.dat (vstr r1.Path),.dat (vstr r1.Query),.dat (vstr r1.From),.dat (vlst (List.map yh r1.Headers)),.dat (vstr r1.Body)])]) (fun i=>uj r1 i=some r) (fun i=>Z) ?_ ?_))
   ·skip
    refine zp hN Z (za (zw Qu Z) (zr (ye tyS9 Z Z) Z (bE H fun r8 h9 H=>za (zm (x0d r1.Host r8 h9) ⟨.inl Z,U⟩) (za (yr Z) (qd Z (yg (j:=4) Z Z (fun h10 => ?_) (fun h10 => ?_) Z))))))
    ·refine u3 h10 H fun h11 H=>ze Z Z h10 (zw Qt Z) (ju Z Z h10 (ye tyS9 Z Z) Z (bE H fun r12 h13 H=>ze Z Z h10 (zm (x0h r1.Path r12 h13) ⟨.inl Z,U⟩) (ze Z Z h10 (qp Z Z) (za (zv Z (bFF h11) Z) (qd Z (yg (j:=10) Z Z (fun h14 => ?_) (fun h14 => ?_) Z))))))
     ·refine u3 h14 H fun h15 H=>ze Z Z h14 (zw Qs Z) (ju Z Z h14 (ye tyS9 Z Z) Z (bE H fun r16 h17 H=>ze Z Z h14 (zm (x0a r1.Query r16 h17) ⟨.inl Z,U⟩) (ze Z Z h14 (qp Z Z) (za (zv Z (bFF h15) Z) (qd Z (yg (j:=16) Z Z (fun h18 => ?_) (fun h18 => ?_) Z))))))
      ·exact u3 h18 H fun h19 H=>ze Z Z h18 (zw y60 Z) (ju Z Z h18 (ye tyS9 Z Z) Z (bE H fun r20 h21 H=>ze Z Z h18 (zm (x0j r1.From r20 h21) ⟨.inl Z,U⟩) (ze Z Z h18 (yr Z) (za (zv Z (bFF h19) Z) ⟨!r20,H,⟨Z,Z,U⟩,⟨Z,U⟩⟩))))
      ·exact u4 h18 H fun h22 H=>zc Z Z h18 (zc Z Z h18 (zc Z Z h18 (zc Z Z h18 (za (zz Z (bTT h22) Z) ⟨true,H,⟨Z,Z,U⟩,⟨Z,U⟩⟩))))
     ·exact u4 h14 H fun h23 H=>zc Z Z h14 (zc Z Z h14 (zc Z Z h14 (zc Z Z h14 (za (zz Z (bTT h23) Z) (qd Z (zc Z Z Z (zc Z Z Z (zc Z Z Z (zc Z Z Z (za (zz Z Z Z) ⟨true,H,⟨Z,Z,U⟩,⟨Z,U⟩⟩))))))))))
    ·exact u4 h10 H fun h24 H=>zc Z Z h10 (zc Z Z h10 (zc Z Z h10 (zc Z Z h10 (za (zz Z (bTT h24) Z) (qd Z (zc Z Z Z (zc Z Z Z (zc Z Z Z (zc Z Z Z (za (zz Z Z Z) (qd Z (zc Z Z Z (zc Z Z Z (zc Z Z Z (zc Z Z Z (za (zz Z Z Z) ⟨true,H,⟨Z,Z,U⟩,⟨Z,U⟩⟩))))))))))))))))
   ·rintro v25 H
    replace H:uj r1 v25=some r:=H
    unfold uj at H
    refine zg _ Z (fun h26 => ?_) (fun h26 => ?_)
    ·refine tE h26 H fun H=>zb hN Z (qe Z (zi ?_))
     cases H
     exact ⟨U,.inl Z,U⟩
    ·refine fE h26 H fun H=>zl (zf (zb hN Z (za (zw js Z) (zr (ye vk Z Z) Z (bE H fun r27 h28 H=>za (zm (x0k r1.Headers r27 h28) ⟨.inl Z,U⟩) (qe Z (zb hN Z (qd Z (za (qp Z Z) (zg _ Z (fun h29 => ?_) (fun h29 => ?_)))))))))))
     ·refine tE h29 H fun H=>zb hN Z (qd Z (qe Z (zi ?_)))
      cases H
      exact ⟨U,.inl Z,U⟩
     ·refine fE h29 H fun H=>zl (zf (zb hN Z (za (zw y6z Z) (zr (ye tyS9 Z Z) Z (za (yw tyU9 Z) (za (wa Z Z) (zg _ Z (fun h30 => ?_) (fun h30 => ?_))))))))
      ·refine tE h30 H fun H=>zb hN Z (qe Z (zi ?_))
       cases H
       exact ⟨U,.inl Z,U⟩
      ·refine fE h30 H fun H=>zl (zb hN Z (qe Z (zi ?_)))
       cases H
       exact ⟨U,.inl Z,U⟩
theorem Qb (s:Bs) (r:Bs) (H:jk s=some r):Fn Tryz.prog 27 [vstr s] (zt [vstr r]):=by
 unfold jk at H
 obtain ⟨⟨h1,h2⟩,h3⟩:=gif H
 cases h3
 refine xw (by kernel_rfl) fun M w vs hM h => ?_
 have hv:=kg (us:=[.string ⟨s.toArray⟩]) h
 subst hv
 refine (Tryz.strings_ToLower_ascii ⟨s.toArray⟩ w (by simp [ByteArray.size]; omega) (fun j b hb=>z4z h2 j b (by simpa using hb))).mono ?_
 rintro e w' ⟨rfl,hb⟩
 exact ⟨_,Z,Z,Kp.of_below hb⟩

theorem w0u (s1:Bs) (r:(Bs×Int)) (H:ua s1=some r):Fn Tryz.prog 17 [vstr s1] (zt [vstr r.1,vint r.2]):=by
 refine ⟨by kernel_rfl,yf (us:=[vstr r.1,vint r.2]) Tryz.func17 Z Z Z Z fun X hN => ?_⟩
 unfold ua at H
 refine zb hN Z (qe Z (qe Z (zf (zb hN Z (qd Z (bE H fun r2 h3 H=>za (zm (x0d s1 r2 h3) ⟨.inl Z,U⟩) (za (yr Z) (zg _ Z (fun h4 => ?_) (fun h4 => ?_)))))))))
 ·refine tE h4 H fun H=>zb hN Z (qe Z (qe Z (zi ?_)))
  cases H
  exact ⟨U,.inl Z,.inl Z,U⟩
 ·refine fE h4 H fun H=>zl (zb hN Z (qd Z (bE H fun r5 h6 H=>za (zm (Qb s1 r5 h6) ⟨.inl Z,U⟩) (bE H fun r7 h8 H=>za (zm (z7c r5 [58] r7 h8) ⟨.inl Z,.inl Z,U⟩) (qd Z (za (yd Z Z) (za (yd Z Z) (za (yd Z Z) (qe Z (qe Z (qe Z (zf (zb hN Z (qd Z (za (va Z Z) (qd Z (yv Z Z (fun hc=>zd (.dat _) Z) (yv Z Z (fun hc=>va (cnd (c:=(!(decide (r7.2.1=[])))) hc) Z) (za (vr Z Z (fun hb=>(cnd (c:=(!(decide (r7.2.1=[])))) (notI hb)))) (qd Z ?_))))))))))))))))))))
  refine yv Z Z (fun hc=>zd (.dat _) Z) (yv Z Z (fun hc=>va (cnd (c:=(!((decide (r7.2.1=[])) || (decide (r7.2.1=[56,48]))))) hc) Z) (za (vr Z Z (fun hb=>(cnd (c:=(!((decide (r7.2.1=[])) || (decide (r7.2.1=[56,48]))))) (notI hb)))) (zg _ Z (fun h9 => ?_) (fun h9 => ?_))))
  ·refine tE h9 H fun H=>zb hN Z (qd Z (qe Z (qe Z (zi ?_))))
   cases H
   exact ⟨U,.inl Z,.inl Z,U⟩
  ·refine fE h9 H fun H=>zl (zb hN Z (qd Z (gE H fun h10 H=>za (kk Z Z (Nat.le_trans h10 (by decide))) (qd Z (gE H fun h11 H=>za (kk Z Z (Nat.le_trans h11 (by decide))) (qe Z (qe Z (zi ?_))))))))
   cases H
   exact ⟨U,.inl Z,.inl Z,U⟩
theorem z0o (l1:(List Int)) (c2:Int) (r:(Int×(List Int))) (H:uy l1 c2=some r):FnG Tryz.prog 63 [.ptr 0 0,.dat (vval (.int .u8 c2))] [(0,.box (some 0) 101 [.nptr 0,.row 1 l1.length]),(1,.row 5 1 (List.map qc l1))] (.dat (zt [verr r.1])) [(0,.box (some 0) 101 [.nptr 0,.row 900 r.2.length]),(900,.row 5 1 (List.map qc r.2))]:=by
 refine xg (by kernel_rfl) Tryz.func63 Z Z Z Z fun X A hN => ?_
 refine wu ?_
 unfold uy at H
 refine zb hN Z (qe Z (zb hN Z (za (zd (.ptr _ _) Z) (zk (y7y x2l Z) Z (zb hN Z (za (zd (.ptr _ _) Z) (za (zd (.ptr _ _) Z) (za (ji Z) (za (zw z8v Z) (zr (ye z8m Z Z) Z (qd Z (za (yb (u':=vlst (List.map qc [c2])) (yo [[_]] z5c ⟨Z,.inl ⟨_,Z,Z,Z⟩,Z,U⟩ Z Z) Z) (gE H fun h3 H=>zk (je z5c (fun _=>Z) Z Z Z ⟨by simp,by first | (simp; done) | simpa using h3⟩ Z) Z ?_)))))))))))))
 refine za (ji Z) (za (zw z8v Z) (Ym (Yk z8m Z Z (by rw [List.length_map]) Z) Z Z ?_))
 refine zb hN Z (qe Z (zi ?_))
 cases H
 show Cv _ _ _ _
 exact wb (rn [(1,900)]) [(4,.dat (verr 0))] [(0,.box (some (A.bl 0)) 101 [.nptr 0,.row 1 ((l1++[c2]).length)]),(1,.row 5 1 (List.map qc (l1++[c2])))] ⟨Z,U⟩ ⟨Z,Z,U⟩ Z Z ⟨U,[(4,.dat (verr 0))],⟨Z,U⟩,⟨Z,Z,U⟩,Z,.inl ⟨[verr 0],⟨Z,U⟩,Z⟩⟩
theorem x0e (c1:Int) (r:(Bool)) (H:z24 c1=some r):Fn Tryz.prog 162 [vval (.int .u8 c1)] (zt [zh r]):=by
 refine ⟨by kernel_rfl,yf (us:=[zh r]) Tryz.func162 Z Z Z Z fun X hN => ?_⟩
 unfold z24 at H
 refine zb hN Z (qe Z (zb hN Z (qd Z (bE H fun r2 h3 H=>za (zm (y0i c1 r2 h3) ⟨.inl Z,U⟩) (qd Z (yv Z Z (fun hc=>zd (.dat _) Z) (yv Z Z (fun hc=>wx (cnd (c:=(!r2)) hc) Z) (yv Z Z (fun hc=>zd (.dat _) (cnd (c:=(!r2)) hc)) (wc Z Z (fun hc=>zd (.dat _) Z) (wc Z Z (fun hc=>wn (cnd (c:=((!r2) && (decide (97≤c1)))) hc) Z) (yv Z Z (fun hc=>ww (cnd (c:=(!r2)) hc) (fun hb=>(cnd (c:=((!r2) && (decide (97≤c1)))) (andI hc hb))) Z) (za (vr Z Z (fun hb=>(cnd (c:=(!r2)) (notI hb)))) (qd Z (yv Z Z (fun hc=>zd (.dat _) Z) (yv Z Z (fun hc=>wx (cnd (c:=(!(r2 || ((decide (97≤c1)) && (decide (c1≤102)))))) hc) Z) (yv Z Z (fun hc=>zd (.dat _) (cnd (c:=(!(r2 || ((decide (97≤c1)) && (decide (c1≤102)))))) hc)) (wc Z Z (fun hc=>zd (.dat _) Z) (wc Z Z (fun hc=>wn (cnd (c:=((!(r2 || ((decide (97≤c1)) && (decide (c1≤102))))) && (decide (65≤c1)))) hc) Z) (yv Z Z (fun hc=>ww (cnd (c:=(!(r2 || ((decide (97≤c1)) && (decide (c1≤102)))))) hc) (fun hb=>(cnd (c:=((!(r2 || ((decide (97≤c1)) && (decide (c1≤102))))) && (decide (65≤c1)))) (andI hc hb))) Z) (za (vr Z Z (fun hb=>(cnd (c:=(!(r2 || ((decide (97≤c1)) && (decide (c1≤102)))))) (notI hb)))) (qe Z (zi ?_))))))))))))))))))))))
 cases H
 exact ⟨U,.inl Z,U⟩
theorem x0c (s1:Bs) (v2:Int) (r:(Bool)) (H:Yu s1 v2=some r):Fn Tryz.prog 102 [vstr s1,vint v2] (zt [zh r]):=by
 refine ⟨by kernel_rfl,yf (us:=[zh r]) Tryz.func102 Z Z Z Z fun X hN => ?_⟩
 unfold Yu at H
 refine zb hN Z (qe Z (yc (ι:=Bool) (fun i=>[(4,.dat (zh i))]) (fun i=>[]) (fun i=>Wi i=some r) (fun i=>Z) ?_ ?_))
 ·skip
  refine zp hN Z (qd Z (za (yk _ Z Z (.inl ⟨Z,Z⟩)) (qd Z (za (yw tyU9 Z) (za (zy Z Z) (qd Z (yg (j:=5) Z Z (fun h3 => ?_) (fun h3 => ?_) Z)))))))
  ·refine u1 h3 H fun h4 H=>ze Z Z h3 (zd (.dat _) Z) (ze Z Z h3 (zd (.dat _) Z) (ze Z Z h3 (yk _ Z Z (.inl ⟨Z,Z⟩)) (bE H fun x5 h6 H=>ze Z Z h3 (jh tyU9 Z Z h6) (bE H fun r7 h8 H=>ze Z Z h3 (zm (x0e (x5.toNat:Int) r7 h8) ⟨.inl Z,U⟩) (za (zz Z (bTT h4) Z) (qd Z (yg (j:=12) Z Z (fun h9 => ?_) (fun h9 => ?_) Z)))))))
   ·exact u1 h9 H fun h10 H=>ze Z Z h9 (zd (.dat _) Z) (ze Z Z h9 (zd (.dat _) Z) (ze Z Z h9 (yk _ Z Z (.inl ⟨Z,Z⟩)) (bE H fun x11 h12 H=>ze Z Z h9 (jh tyU9 Z Z h12) (bE H fun r13 h14 H=>ze Z Z h9 (zm (x0e (x11.toNat:Int) r13 h14) ⟨.inl Z,U⟩) (za (zz Z (bTT h10) Z) (qe Z ⟨r13,H,⟨Z,U⟩,U⟩))))))
   ·exact u2 h9 H fun h15 H=>zc Z Z h9 (zc Z Z h9 (zc Z Z h9 (zc Z Z h9 (zc Z Z h9 (za (zv Z (bFF h15) Z) (qe Z ⟨false,H,⟨Z,U⟩,U⟩))))))
  ·exact u2 h3 H fun h16 H=>zc Z Z h3 (zc Z Z h3 (zc Z Z h3 (zc Z Z h3 (zc Z Z h3 (za (zv Z (bFF h16) Z) (qd Z (zc Z Z Z (zc Z Z Z (zc Z Z Z (zc Z Z Z (zc Z Z Z (za (zv Z Z Z) (qe Z ⟨false,H,⟨Z,U⟩,U⟩)))))))))))))
 ·rintro v17 H
  replace H:Wi v17=some r:=H
  unfold Wi at H
  refine zi ?_
  cases H
  exact ⟨U,.inl Z,U⟩
theorem w0f (s1:Bs) (base2:Int) (bitSize3:Int) (r:(Int×Int)) (H:z2w s1 base2 bitSize3=some r):Fn Tryz.prog 163 [vstr s1,vint base2,vint bitSize3] (zt [vval (.int .u64 r.1),verr r.2]):=by
 refine ⟨by kernel_rfl,yf (us:=[vval (.int .u64 r.1),verr r.2]) Tryz.func163 Z Z Z Z fun X hN => ?_⟩
 unfold z2w at H
 refine zb hN Z (qe Z (qe Z (zb hN Z (qd Z (qd Z (qd Z (bE H fun r4 h5 H=>za (zm (x0n s1 base2 bitSize3 r4 h5) ⟨.inl Z,.inl Z,.inl Z,U⟩) (qd Z (za (yd Z Z) (za (yd Z Z) (qe Z (qe Z (zf (zb hN Z (qd Z (za (z86 (n:=r4.2) (show Tryz.prog.underlying 104=some (.interface (Tryz.prog.methodsAt 104)) from by kernel_rfl) Z) ?_))))))))))))))))
 refine zg _ Z (fun h6 => ?_) (fun h6 => ?_)
 ·refine tE h6 H fun H=>zb hN Z (qd Z (qd Z (qd Z (qd Z (qd Z (bE H fun r7 h8 H=>za (zm (y96 [80,97,114,115,101,85,105,110,116] s1 base2 bitSize3 r4.2 r7 h8) ⟨.inl Z,.inl Z,.inl Z,.inl Z,.inl Z,U⟩) (qe Z (qe Z (zi ?_)))))))))
  cases H
  exact ⟨U,.inl Z,.inl Z,U⟩
 ·refine fE h6 H fun H=>zl (zb hN Z (qd Z (qe Z (qe Z (zi ?_)))))
  cases H
  exact ⟨U,.inl Z,.inl Z,U⟩
theorem y98 (s1:Bs) (v2:Int) (r:(Int)) (H:z22 s1 v2=some r):Fn Tryz.prog 103 [vstr s1,vint v2] (zt [vval (.int .u8 r)]):=by
 refine ⟨by kernel_rfl,yf (us:=[vval (.int .u8 r)]) Tryz.func103 Z Z Z Z fun X hN => ?_⟩
 unfold z22 at H
 refine zb hN Z (qe Z (zb hN Z (qd Z (qd Z (za (yk _ Z Z (.inl ⟨Z,Z⟩)) (qd Z (za (yk _ Z Z (.inl ⟨Z,Z⟩)) (bE H fun l3 h4 H=>za (vz tyU9 Z Z Z h4) (bE H fun r5 h6 H=>za (zm (w0f l3 16 8 r5 h6) ⟨.inl Z,.inl Z,.inl Z,U⟩) (qd Z (za (yd Z Z) (za (yd Z Z) (qe Z (qe Z (zf (zb hN Z (qd Z (za (z86 (n:=r5.2) (show Tryz.prog.underlying 104=some (.interface (Tryz.prog.methodsAt 104)) from by kernel_rfl) Z) ?_))))))))))))))))))
 refine zg _ Z (fun h7 => ?_) (fun h7 => ?_)
 ·refine tE h7 H fun H=>zb hN Z (qe Z (zi ?_))
  cases H
  exact ⟨U,.inl Z,U⟩
 ·refine fE h7 H fun H=>zl (zb hN Z (qd Z (za (ja Yg tyU5 Z) (qe Z (zi ?_)))))
  cases H
  exact ⟨U,.inl Z,U⟩
theorem x0f (c1:Int) (r:(Bool)) (H:xo c1=some r):Fn Tryz.prog 104 [vval (.int .u8 c1)] (zt [zh r]):=by
 refine ⟨by kernel_rfl,yf (us:=[zh r]) Tryz.func104 Z Z Z Z fun X hN => ?_⟩
 unfold xo at H
 refine zb hN Z (qe Z (yc (ι:=Bool) (fun i=>[(2,.dat (zh i))]) (fun i=>[]) (fun i=>z2m i=some r) (fun i=>Z) ?_ ?_))
 ·skip
  refine zp hN Z (qd Z (bE H fun r2 h3 H=>za (zm (y4j c1 r2 h3) ⟨.inl Z,U⟩) (qd Z (yg (j:=2) Z Z (fun h4 => ?_) (fun h4 => ?_) Z))))
  ·refine u3 h4 H fun h5 H=>ze Z Z h4 (zd (.dat _) Z) (bE H fun r6 h7 H=>ze Z Z h4 (zm (y0i c1 r6 h7) ⟨.inl Z,U⟩) (za (zv Z (bFF h5) Z) (qd Z (yg (j:=6) Z Z (fun h8 => ?_) (fun h8 => ?_) Z))))
   ·exact u3 h8 H fun h9 H=>ze Z Z h8 (zd (.dat _) Z) (bE H fun r10 h11 H=>ze Z Z h8 (zm (y4g [45,46,95,126] c1 r10 h11) ⟨.inl Z,.inl Z,U⟩) (ze Z Z h8 (wx Z Z) (za (zv Z (bFF h9) Z) (qe Z ⟨decide (0≤r10),H,⟨Z,U⟩,U⟩))))
   ·exact u4 h8 H fun h12 H=>zc Z Z h8 (zc Z Z h8 (zc Z Z h8 (za (zz Z (bTT h12) Z) (qe Z ⟨true,H,⟨Z,U⟩,U⟩))))
  ·exact u4 h4 H fun h13 H=>zc Z Z h4 (zc Z Z h4 (za (zz Z (bTT h13) Z) (qd Z (zc Z Z Z (zc Z Z Z (zc Z Z Z (za (zz Z Z Z) (qe Z ⟨true,H,⟨Z,U⟩,U⟩))))))))
 ·rintro v14 H
  replace H:z2m v14=some r:=H
  unfold z2m at H
  refine zi ?_
  cases H
  exact ⟨U,.inl Z,U⟩
theorem x0b (c1:Int) (r:(Bs)) (H:xn c1=some r):Fn Tryz.prog 105 [vval (.int .u8 c1)] (zt [vstr r]):=by
 refine ⟨by kernel_rfl,yf (us:=[vstr r]) Tryz.func105 Z Z Z Z fun X hN => ?_⟩
 unfold xn at H
 refine zb hN Z (qe Z (zf (vi mixed hN Z Z (qd Z (za (yb (Wa Z Z (by decide)) Z) (bE H fun x2 h3 H=>za (z84 tyU9 Z Z h3) (qd Z (za (yb (y72 Z Z) Z) (bE H fun x4 h5 H=>za (z84 tyU9 Z Z h5) (za (yb (u':=vlst (List.map qc [37,(x2.toNat:Int),(x4.toNat:Int)])) (yo [[_],[_],[_]] z5c ⟨Z,.inl ⟨_,Z,Z,Z⟩,Z,Z,.inl ⟨_,Z,Z,Z⟩,Z,Z,.inl ⟨_,Z,Z,Z⟩,Z,U⟩ Z Z) Z) (za (y7x (C:=qc) z1x tyU5 tyU9 (fun _=>Z) Z) (qe Z ⟨Z,?_⟩))))))))))))
 refine zi ?_
 cases H
 exact ⟨U,.inl Z,U⟩
theorem y91 (l1:(List Int)) (s2:Bs) (r:(Int×Int×(List Int))) (H:z2v l1 s2=some r):FnG Tryz.prog 62 [.ptr 0 0,.dat (vstr s2)] [(0,.box (some 0) 101 [.nptr 0,.row 1 l1.length]),(1,.row 5 1 (List.map qc l1))] (.dat (zt [vint r.1,verr r.2.1])) [(0,.box (some 0) 101 [.nptr 0,.row 900 r.2.2.length]),(900,.row 5 1 (List.map qc r.2.2))]:=by
 refine xg (by kernel_rfl) Tryz.func62 Z Z Z Z fun X A hN => ?_
 refine wu ?_
 unfold z2v at H
 refine zb hN Z (qe Z (qe Z (zb hN Z (za (zd (.ptr _ _) Z) (zk (y7y x2l Z) Z (zb hN Z (za (zd (.ptr _ _) Z) (za (zd (.ptr _ _) Z) (za (ji Z) (za (zw z8v Z) (zr (ye z8m Z Z) Z (qd Z (gE H fun h3 H=>zk (x5m (C:=qc) (fun _=>Z) (show tyB8 Tryz.prog 99 9 5 from ⟨by kernel_rfl,by kernel_rfl,by kernel_rfl⟩) Z Z Z h3) Z ?_)))))))))))))
 refine za (ji Z) (za (zw z8v Z) (Ym (Yk z8m Z Z (by rw [List.length_map]) Z) Z Z ?_))
 refine zb hN Z (qd Z (za (yw tyU9 Z) (qe Z (qe Z (zi ?_)))))
 cases H
 show Cv _ _ _ _
 exact wb (rn [(1,900)]) [(4,.dat (vint (s2.length:Int))),(5,.dat (verr 0))] [(0,.box (some (A.bl 0)) 101 [.nptr 0,.row 1 ((l1++yj s2).length)]),(1,.row 5 1 (List.map qc (l1++yj s2)))] ⟨Z,Z,U⟩ ⟨Z,Z,U⟩ Z Z ⟨U,[(4,.dat (vint (s2.length:Int))),(5,.dat (verr 0))],⟨Z,Z,U⟩,⟨Z,Z,U⟩,Z,.inl ⟨[vint (s2.length:Int),verr 0],⟨Z,Z,U⟩,Z⟩⟩
theorem w0m (s1:Bs) (r:(Bs×Bool)) (H:Wz s1=some r):Fn Tryz.prog 52 [vstr s1] (zt [vstr r.1,zh r.2]):=by
 refine ⟨by kernel_rfl,yf (us:=[vstr r.1,zh r.2]) Tryz.func52 Z Z Z Z fun X hN => ?_⟩
 unfold Wz at H
 refine zb hN Z (qe Z (qe Z (zb hN Z (zk (wd 1 y14 Z) Z (y1n 1 0 (.nptr 1) Z Z y3m (z79 1 1 2 5 1 Z Z Z Z (yc (ι:=(List Int)) (fun i=>[(4,.ptr 1 0)]) (fun i=>[(1,.box none 101 [.nptr 1,.row 2 i.length]),(2,.row 5 1 (List.map qc i))]) (fun i=>z50 i=some r) (fun i=>Z) ?_ ?_)))))))
 ·refine wu (zb hN Z (qe Z (zx (xy (fun (s:Int×(List Int))=>[(0,.dat (vstr s1)),(4,.ptr 1 0),(5,.dat (vint s.1))]) (fun (s:Int×(List Int))=>[(1,.box none 101 [.nptr 1,.row 2 s.2.length]),(2,.row 5 1 (List.map qc s.2))]) (0,([]:List Int)) H ⟨Z,Z,Z,U⟩ ⟨Z,Z,U⟩ (fun _=>Z) ?_))))
  rintro ⟨i2,l3⟩ q4 H hq4
  replace H:ka s1 i2 l3=some q4:=H
  unfold ka at H
  refine wu (zf (zb hN Z (qd Z (qd Z (za (yw tyU9 Z) (za (zy Z Z) (zg _ Z (fun h5 => ?_) (fun h5 => ?_))))))))
  ·refine tE h5 H fun H=>zl (yc (ι:=Int×(List Int)) (fun i=>[(0,.dat (vstr s1)),(4,.ptr 1 0),(5,.dat (vint i.1))]) (fun i=>[(1,.box none 101 [.nptr 1,.row 7 i.2.length]),(7,.row 5 1 (List.map qc i.2))]) (fun i=>Wh i.1 i.2=some q4) (fun i=>Z) ?_ ?_)
   ·refine wu (zx (zf (zb hN Z (qd Z (qd Z (bE H fun x6 h7 H=>za (jh tyU9 Z Z h7) (za (qp Z Z) (zg _ Z (fun h8 => ?_) (fun h8 => ?_)))))))))
    ·refine tE h8 H fun H=>zb hN Z (qd Z (qd Z (za (jh tyU9 Z Z h7) (bE H fun r9 h10 H=>vd (rn [(0,1),(1,2),(900,3)]) [(0,_,_,some _),(1,_,_,none)] [(900,_)] (z0o l3 (x6.toNat:Int) r9 h10) ⟨Z,Z,Z,U⟩ ⟨.inl (.inl Z),.inl (.inl Z),U⟩ ⟨⟨⟨Z,Z⟩,U⟩,⟨⟨Z,Z,Z⟩,U⟩,U⟩ Z (yt ?_)))))
     show Cv _ _ _ _
     exact wb (rn [(3,7)]) [(0,.dat (vstr s1)),(4,.ptr 1 0),(5,.dat (vint i2))] [(1,.box none 101 [.nptr 1,.row 3 r9.2.length]),(3,.row 5 1 (List.map qc r9.2))] ⟨Z,Z,Z,U⟩ ⟨Z,Z,U⟩ Z Z ⟨(i2,r9.2),H,⟨Z,Z,Z,U⟩,⟨Z,Z,U⟩⟩
    ·refine fE h8 H fun H=>zl (zf (zb hN Z (qd Z (qd Z (bE H fun r11 h12 H=>za (zm (x0c s1 i2 r11 h12) ⟨.inl Z,.inl Z,U⟩) (za (yr Z) (zg _ Z (fun h13 => ?_) (fun h13 => ?_))))))))
     ·refine tE h13 H fun H=>zb hN Z (qe Z (qe Z (zi ?_)))
      replace H:=retl H hq4
      cases H
      show Cv _ _ _ _
      refine vh ?_
      show Cv _ _ _ _
      refine vh ?_
      show Cv _ _ _ _
      exact vh ⟨U,.inl Z,.inl Z,U⟩
     ·refine fE h13 H fun H=>zl (yc (ι:=(List Int)) (fun i=>[(0,.dat (vstr s1)),(4,.ptr 1 0),(5,.dat (vint i2))]) (fun i=>[(1,.box none 101 [.nptr 1,.row 6 i.length]),(6,.row 5 1 (List.map qc i))]) (fun i=>z2i i2 i=some q4) (fun i=>Z) ?_ ?_)
      ·refine wu (zb hN Z (qd Z (qd Z (bE H fun r14 h15 H=>za (zm (y98 s1 i2 r14 h15) ⟨.inl Z,.inl Z,U⟩) (qe Z (zb hN Z (qd Z (bE H fun r16 h17 H=>za (zm (x0f r14 r16 h17) ⟨.inl Z,U⟩) (zg _ Z (fun h18 => ?_) (fun h18 => ?_))))))))))
       ·refine tE h18 H fun H=>zp hN Z (qd Z (bE H fun r19 h20 H=>vd (rn [(0,1),(1,2),(900,4)]) [(0,_,_,some _),(1,_,_,none)] [(900,_)] (z0o l3 r14 r19 h20) ⟨Z,Z,Z,U⟩ ⟨.inl (.inl Z),.inl (.inl Z),U⟩ ⟨⟨⟨Z,Z⟩,U⟩,⟨⟨Z,Z,Z⟩,U⟩,U⟩ Z (wz ?_)))
        show Cv _ _ _ _
        exact wb (rn [(4,6)]) [(0,.dat (vstr s1)),(4,.ptr 1 0),(5,.dat (vint i2))] [(1,.box none 101 [.nptr 1,.row 4 r19.2.length]),(4,.row 5 1 (List.map qc r19.2))] ⟨Z,Z,Z,U⟩ ⟨Z,Z,U⟩ Z Z ⟨r19.2,H,⟨Z,Z,Z,U⟩,⟨Z,Z,U⟩⟩
       ·refine fE h18 H fun H=>zp hN Z (qd Z (bE H fun r21 h22 H=>za (zm (x0b r14 r21 h22) ⟨.inl Z,U⟩) (bE H fun r23 h24 H=>vd (rn [(0,1),(1,2),(900,5)]) [(0,_,_,some _),(1,_,_,none)] [(900,_)] (y91 l3 r21 r23 h24) ⟨Z,Z,Z,U⟩ ⟨.inl (.inl Z),.inl (.inl Z),U⟩ ⟨⟨⟨Z,Z⟩,U⟩,⟨⟨Z,Z,Z⟩,U⟩,U⟩ Z (wz ?_))))
        show Cv _ _ _ _
        exact wb (rn [(5,6)]) [(0,.dat (vstr s1)),(4,.ptr 1 0),(5,.dat (vint i2))] [(1,.box none 101 [.nptr 1,.row 5 r23.2.2.length]),(5,.row 5 1 (List.map qc r23.2.2))] ⟨Z,Z,Z,U⟩ ⟨Z,Z,U⟩ Z Z ⟨r23.2.2,H,⟨Z,Z,Z,U⟩,⟨Z,Z,U⟩⟩
      ·rintro l25 H
       replace H:z2i i2 l25=some q4:=H
       unfold z2i at H
       refine zp hN Z (qd Z (za (yk _ Z Z (.inl ⟨Z,Z⟩)) (qe Z (wz ?_))))
       show Cv _ _ _ _
       exact wb (rn [(6,7)]) [(0,.dat (vstr s1)),(4,.ptr 1 0),(5,.dat (vint (wr (i2+2))))] [(1,.box none 101 [.nptr 1,.row 6 l25.length]),(6,.row 5 1 (List.map qc l25))] ⟨Z,Z,Z,U⟩ ⟨Z,Z,U⟩ Z Z ⟨(wr (i2+2),l25),H,⟨Z,Z,Z,U⟩,⟨Z,Z,U⟩⟩
   ·rintro ⟨i26,l27⟩ H
    replace H:Wh i26 l27=some q4:=H
    unfold Wh at H
    refine zp hN Z (qd Z (za (yk _ Z Z (.inl ⟨Z,Z⟩)) (qe Z (wz ?_))))
    show Cv _ _ _ _
    exact wb (rn [(7,2)]) [(0,.dat (vstr s1)),(4,.ptr 1 0),(5,.dat (vint (wr (i26+1))))] [(1,.box none 101 [.nptr 1,.row 7 l27.length]),(7,.row 5 1 (List.map qc l27))] ⟨Z,Z,Z,U⟩ ⟨Z,Z,U⟩ Z Z ⟨_,yx H,⟨Z,Z,Z,U⟩,⟨Z,Z,U⟩⟩
  ·refine fE h5 H fun H=>yt ?_
   replace H:=outl H hq4
   show Cv _ _ _ _
   refine vh ?_
   show Cv _ _ _ _
   exact vh ⟨l3,H,⟨Z,U⟩,⟨Z,Z,U⟩⟩
 ·rintro l28 H
  replace H:z50 l28=some r:=H
  unfold z50 at H
  refine zb hN Z (gE H fun h29 H=>vd (rn [(0,1),(1,2)]) [(0,_,_,none),(1,_,_,none)] [] (y4e h29 (C:=qc) (fun _=>Z)) ⟨Z,Z,U⟩ ⟨.inl (.inl Z),U⟩ ⟨⟨⟨Z,Z⟩,U⟩,⟨⟨Z,Z,Z⟩,U⟩,U⟩ Z (qe Z (qe Z (zi ?_))))
  cases H
  exact ⟨U,.inl Z,.inl Z,U⟩
theorem x0i (s1:Bs) (r:(Bs×Int)) (H:Zt s1=some r):Fn Tryz.prog 18 [vstr s1] (zt [vstr r.1,vint r.2]):=by
 refine ⟨by kernel_rfl,yf (us:=[vstr r.1,vint r.2]) Tryz.func18 Z Z Z Z fun X hN => ?_⟩
 unfold Zt at H
 refine zb hN Z (qe Z (qe Z (zf (zb hN Z (qd Z (bE H fun r2 h3 H=>za (zm (x0h s1 r2 h3) ⟨.inl Z,U⟩) (qe Z (zb hN Z (qd Z (za (qp Z Z) (zg _ Z (fun h4 => ?_) (fun h4 => ?_))))))))))))
 ·refine tE h4 H fun H=>zb hN Z (qd Z (qe Z (qe Z (zi ?_))))
  cases H
  exact ⟨U,.inl Z,.inl Z,U⟩
 ·refine fE h4 H fun H=>zl (zb hN Z (qd Z (bE H fun r5 h6 H=>za (zm (w0m s1 r5 h6) ⟨.inl Z,U⟩) (qd Z (za (yd Z Z) (za (yd Z Z) (qe Z (qe Z (zf (zb hN Z (qd Z (za (yr Z) (zg _ Z (fun h7 => ?_) (fun h7 => ?_))))))))))))))
  ·refine tE h7 H fun H=>zb hN Z (qe Z (qe Z (zi ?_)))
   cases H
   exact ⟨U,.inl Z,.inl Z,U⟩
  ·refine fE h7 H fun H=>zl (zb hN Z (qe Z (zb hN Z (qd Z (bE H fun l8 h9 H=>za (vz tyU9 Z Z Z h9) (bE H fun r10 h11 H=>za (zm (z0p l8 [47] r10 h11) ⟨.inl Z,.inl Z,U⟩) (qe Z (zf (zb hN Z (qd Z (za (qf wm Z) (qd Z (zx (jo 6 1 9 1 Z Z Z (gE H fun h15 H=>qy (fun (k13:Nat) (s:(List Bs))=>[(6,.row 1 s.length),(7,.dat (vlst (List.map zq r10))),(25,.dat (vlst (List.map zq r10))),(26,.dat (vint (r10.length:Int))),(27,.dat (vint (k13:Int)))]) (fun (k13:Nat) (s:(List Bs))=>[(1,.row 9 1 (List.map zq s))]) [] H ⟨Z,Z,Z,Z,Z,U⟩ ⟨Z,U⟩ (fun _ _=>Z) ?_ ?_)))))))))))))))
   ·rintro l12 H
    replace H:z2s l12=some r:=H
    unfold z2s at H
    refine zb hN Z (za (zy Z Z) (zf (zg _ Z (fun h=>(lt_t h).elim) (fun h => ?_))))
    refine yt (zf (z18 6 1 Z Z Z (zp hN Z (qd Z (bE H fun r17 h18 H=>za (zm (y0h l12 [47] r17 h18) ⟨.inl Z,.inl Z,U⟩) (gE H fun h19 H=>za (kk Z Z (Nat.le_trans h19 (by decide))) (qe Z (qe Z (zi ?_)))))))))
    cases H
    exact ⟨U,.inl Z,.inl Z,U⟩
   ·rintro k13 x16 l12 q14 h20 h21 H hq14
    replace H:Wr r10 k13 x16 l12=some q14:=H
    unfold Wr at H
    refine wu (zb hN Z (za (zy Z Z) (zf (zg _ Z (fun h => ?_) (fun h=>(lt_f h20 h).elim)))))
    refine zl (yc (ι:=(List Bs)) (fun i=>[(6,.row 4 i.length),(7,.dat (vlst (List.map zq r10))),(25,.dat (vlst (List.map zq r10))),(26,.dat (vint (r10.length:Int))),(27,.dat (vint (k13:Int)))]) (fun i=>[(4,.row 9 1 (List.map zq i))]) (fun i=>Ws i=some q14) (fun i=>Z) ?_ ?_)
    ·refine wu (zx (zb hN Z (qd Z (za (wi vm (fun _=>Z) Z Z h21) (za (qz tyS9 Z (qg h21) Z) (qe Z (qe Z (yc (ι:=(List Bs)) (fun i=>[(6,.row 3 i.length),(7,.dat (vlst (List.map zq r10))),(8,.dat (vint (k13:Int))),(25,.dat (vlst (List.map zq r10))),(26,.dat (vint (r10.length:Int))),(27,.dat (vint (k13:Int)))]) (fun i=>[(3,.row 9 1 (List.map zq i))]) (fun i=>z2r r10 k13 i=some q14) (fun i=>Z) ?_ ?_))))))))
     ·refine wu (zb hN Z (qd Z (zx (zb hN Z (za (va Z Z) (qe Z (zg _ Z (fun h22 => ?_) (fun h22 => ?_))))))))
      ·refine tE h22 H fun H=>zl ?_
       show Cv _ _ _ _
       exact wb (rn [(1,3)]) [(6,.row 1 l12.length),(7,.dat (vlst (List.map zq r10))),(8,.dat (vint (k13:Int))),(25,.dat (vlst (List.map zq r10))),(26,.dat (vint (r10.length:Int))),(27,.dat (vint (k13:Int)))] [(1,.row 9 1 (List.map zq l12))] ⟨Z,Z,Z,Z,Z,Z,U⟩ ⟨Z,U⟩ Z Z ⟨l12,H,⟨Z,Z,Z,Z,Z,Z,U⟩,⟨Z,U⟩⟩
      ·refine fE h22 H fun H=>zb hN Z (za (va Z Z) (qe Z (zg _ Z (fun h23 => ?_) (fun h23 => ?_))))
       ·refine tE h23 H fun H=>zp hN Z (za (zd (.row _ _) Z) (za (zd (.row _ _) Z) (zr (z16 wm Z Z) Z (za (yk _ Z Z (.inr (.inl ⟨Z,Z⟩))) (za (x58 Z Z) (gE H fun h24 H=>y8l (y7e (C:=zq) 2 vm Z Z Z h24) Z Z (za (qr (.row _ _) Z) (wz ?_))))))))
        show Cv _ _ _ _
        exact wb (rn [(2,3)]) [(6,.row 2 ((max (wr ((l12.length:Int) - 1)) 0).toNat)),(7,.dat (vlst (List.map zq r10))),(8,.dat (vint (k13:Int))),(25,.dat (vlst (List.map zq r10))),(26,.dat (vint (r10.length:Int))),(27,.dat (vint (k13:Int)))] [(2,.row 9 1 (List.map zq (l12.take (max (wr ((l12.length:Int) - 1)) 0).toNat)))] ⟨Z,Z,Z,Z,Z,Z,U⟩ ⟨Z,U⟩ Z Z ⟨(l12.take (max (wr ((l12.length:Int) - 1)) 0).toNat),H,⟨congrArg (Slot.row 3) ((y5l h24)).symm,Z,Z,Z,Z,Z,U⟩,⟨Z,U⟩⟩
       ·refine fE h23 H fun H=>zb hN Z (za (zd (.row _ _) Z) (qd Z (za (yb (u':=vlst (List.map zq [x16])) (yo [[_]] yq ⟨Z,.inl ⟨_,Z,Z,Z⟩,Z,U⟩ Z Z) Z) (gE H fun h25 H=>zk (je yq (fun _=>Z) Z Z Z ⟨by simp,by first | (simp; done) | simpa using h25⟩ Z) Z ?_))))
        refine za (qr (.row _ _) Z) (yt ?_)
        show Cv _ _ _ _
        refine vh ?_
        show Cv _ _ _ _
        exact wb (rn [(1,4)]) [(6,.row 1 ((l12++[x16]).length)),(7,.dat (vlst (List.map zq r10))),(25,.dat (vlst (List.map zq r10))),(26,.dat (vint (r10.length:Int))),(27,.dat (vint (k13:Int)))] [(1,.row 9 1 (List.map zq (l12++[x16])))] ⟨Z,Z,Z,Z,Z,U⟩ ⟨Z,U⟩ Z Z ⟨(l12++[x16]),H,⟨Z,Z,Z,Z,Z,U⟩,⟨Z,U⟩⟩
     ·rintro out26 H
      replace H:z2r r10 k13 out26=some q14:=H
      unfold z2r at H
      refine zb hN Z (qd Z (qd Z (za (qf wm Z) (za (yk _ Z Z (.inr (.inl ⟨Z,Z⟩))) (za (yu Z Z) (zg _ Z (fun h27 => ?_) (fun h27 => ?_)))))))
      ·refine tE h27 H fun H=>zp hN Z (za (zd (.row _ _) Z) (za (yb (u':=vlst (List.map zq [[]])) (yo [[_]] yq ⟨Z,.inl ⟨_,Z,Z,Z⟩,Z,U⟩ Z Z) Z) (gE H fun h28 H=>zk (je yq (fun _=>Z) Z Z Z ⟨by simp,by first | (simp; done) | simpa using h28⟩ Z) Z ?_)))
       refine za (qr (.row _ _) Z) (wz ?_)
       show Cv _ _ _ _
       exact wb (rn [(3,4)]) [(6,.row 3 ((out26++([[]])).length)),(7,.dat (vlst (List.map zq r10))),(25,.dat (vlst (List.map zq r10))),(26,.dat (vint (r10.length:Int))),(27,.dat (vint (k13:Int)))] [(3,.row 9 1 (List.map zq (out26++([[]]))))] ⟨Z,Z,Z,Z,Z,U⟩ ⟨Z,U⟩ Z Z ⟨(out26++([[]])),H,⟨Z,Z,Z,Z,Z,U⟩,⟨Z,U⟩⟩
      ·refine fE h27 H fun H=>zl ?_
       show Cv _ _ _ _
       exact wb (rn [(3,4)]) [(6,.row 3 out26.length),(7,.dat (vlst (List.map zq r10))),(25,.dat (vlst (List.map zq r10))),(26,.dat (vint (r10.length:Int))),(27,.dat (vint (k13:Int)))] [(3,.row 9 1 (List.map zq out26))] ⟨Z,Z,Z,Z,Z,U⟩ ⟨Z,U⟩ Z Z ⟨out26,H,⟨Z,Z,Z,Z,Z,U⟩,⟨Z,U⟩⟩
    ·rintro out29 H
     replace H:Ws out29=some q14:=H
     unfold Ws at H
     refine zp hN Z (za (qj Z Z (by omega)) (qd Z (wz ?_)))
     show Cv _ _ _ _
     exact wb (rn [(4,1)]) [(6,.row 4 out29.length),(7,.dat (vlst (List.map zq r10))),(25,.dat (vlst (List.map zq r10))),(26,.dat (vint (r10.length:Int))),(27,.dat (vint ((k13:Int)+1)))] [(4,.row 9 1 (List.map zq out29))] ⟨Z,Z,Z,Z,Z,U⟩ ⟨Z,U⟩ Z Z ⟨_,yx H,⟨Z,Z,Z,Z,Z,U⟩,⟨Z,U⟩⟩
theorem x0g (s1:Bs) (plus2:Bool) (r:(Bs×Bool)) (H:Yv s1 plus2=some r):Fn Tryz.prog 55 [vstr s1,zh plus2] (zt [vstr r.1,zh r.2]):=by
 refine ⟨by kernel_rfl,yf (us:=[vstr r.1,zh r.2]) Tryz.func55 Z Z Z Z fun X hN => ?_⟩
 unfold Yv at H
 refine zb hN Z (qe Z (qe Z (zb hN Z (zk (wd 1 y14 Z) Z (y1n 1 0 (.nptr 1) Z Z y3m (z79 1 1 2 5 1 Z Z Z Z (yc (ι:=(List Int)) (fun i=>[(6,.ptr 1 0)]) (fun i=>[(1,.box none 101 [.nptr 1,.row 2 i.length]),(2,.row 5 1 (List.map qc i))]) (fun i=>z52 i=some r) (fun i=>Z) ?_ ?_)))))))
 ·refine wu (zb hN Z (qe Z (zx (xy (fun (s:Int×(List Int))=>[(0,.dat (vstr s1)),(1,.dat (zh plus2)),(6,.ptr 1 0),(7,.dat (vint s.1))]) (fun (s:Int×(List Int))=>[(1,.box none 101 [.nptr 1,.row 2 s.2.length]),(2,.row 5 1 (List.map qc s.2))]) (0,([]:List Int)) H ⟨Z,Z,Z,Z,U⟩ ⟨Z,Z,U⟩ (fun _=>Z) ?_))))
  rintro ⟨i3,l4⟩ q5 H hq5
  replace H:jj s1 plus2 i3 l4=some q5:=H
  unfold jj at H
  refine wu (zf (zb hN Z (qd Z (qd Z (za (yw tyU9 Z) (za (zy Z Z) (zg _ Z (fun h6 => ?_) (fun h6 => ?_))))))))
  ·refine tE h6 H fun H=>zl (yc (ι:=Int×(List Int)) (fun i=>[(0,.dat (vstr s1)),(1,.dat (zh plus2)),(6,.ptr 1 0),(7,.dat (vint i.1))]) (fun i=>[(1,.box none 101 [.nptr 1,.row 6 i.2.length]),(6,.row 5 1 (List.map qc i.2))]) (fun i=>Zk i.1 i.2=some q5) (fun i=>Z) ?_ ?_)
   ·refine wu (zx (zx (zb hN Z (qd Z (qd Z (bE H fun x7 h8 H=>za (jh tyU9 Z Z h8) (za (yu Z Z) (qd Z (qx Z Z (fun hc=>zd (.dat _) Z) (za (ww Z (fun hb=>(cnd (c:=(decide ((x7.toNat:Int)=43))) hb)) Z) (qe Z (zg _ Z (fun h9 => ?_) (fun h9 => ?_)))))))))))))
    ·refine tE h9 H fun H=>zp hN Z (bE H fun r10 h11 H=>vd (rn [(0,1),(1,2),(900,3)]) [(0,_,_,some _),(1,_,_,none)] [(900,_)] (z0o l4 32 r10 h11) ⟨Z,Z,Z,U⟩ ⟨.inl (.inl Z),.inl (.inl Z),U⟩ ⟨⟨⟨Z,Z⟩,U⟩,⟨⟨Z,Z,Z⟩,U⟩,U⟩ Z (wz ?_))
     show Cv _ _ _ _
     exact wb (rn [(3,6)]) [(0,.dat (vstr s1)),(1,.dat (zh plus2)),(6,.ptr 1 0),(7,.dat (vint i3))] [(1,.box none 101 [.nptr 1,.row 3 r10.2.length]),(3,.row 5 1 (List.map qc r10.2))] ⟨Z,Z,Z,Z,U⟩ ⟨Z,Z,U⟩ Z Z ⟨(i3,r10.2),H,⟨Z,Z,Z,Z,U⟩,⟨Z,Z,U⟩⟩
    ·refine fE h9 H fun H=>zb hN Z (qd Z (qd Z (za (jh tyU9 Z Z h8) (za (qp Z Z) (qe Z (zg _ Z (fun h12 => ?_) (fun h12 => ?_)))))))
     ·refine tE h12 H fun H=>zp hN Z (qd Z (qd Z (za (jh tyU9 Z Z h8) (bE H fun r13 h14 H=>vd (rn [(0,1),(1,2),(900,4)]) [(0,_,_,some _),(1,_,_,none)] [(900,_)] (z0o l4 (x7.toNat:Int) r13 h14) ⟨Z,Z,Z,U⟩ ⟨.inl (.inl Z),.inl (.inl Z),U⟩ ⟨⟨⟨Z,Z⟩,U⟩,⟨⟨Z,Z,Z⟩,U⟩,U⟩ Z (wz ?_)))))
      show Cv _ _ _ _
      exact wb (rn [(4,6)]) [(0,.dat (vstr s1)),(1,.dat (zh plus2)),(6,.ptr 1 0),(7,.dat (vint i3))] [(1,.box none 101 [.nptr 1,.row 4 r13.2.length]),(4,.row 5 1 (List.map qc r13.2))] ⟨Z,Z,Z,Z,U⟩ ⟨Z,Z,U⟩ Z Z ⟨(i3,r13.2),H,⟨Z,Z,Z,Z,U⟩,⟨Z,Z,U⟩⟩
     ·refine fE h12 H fun H=>zb hN Z (qd Z (qd Z (bE H fun r15 h16 H=>za (zm (x0c s1 i3 r15 h16) ⟨.inl Z,.inl Z,U⟩) (za (yr Z) (qe Z (zg _ Z (fun h17 => ?_) (fun h17 => ?_)))))))
      ·refine tE h17 H fun H=>zb hN Z (qe Z (qe Z (zi ?_)))
       replace H:=retl H hq5
       cases H
       show Cv _ _ _ _
       refine vh ?_
       show Cv _ _ _ _
       refine vh ?_
       show Cv _ _ _ _
       exact vh ⟨U,.inl Z,.inl Z,U⟩
      ·refine fE h17 H fun H=>zb hN Z (qd Z (qd Z (bE H fun r18 h19 H=>za (zm (y98 s1 i3 r18 h19) ⟨.inl Z,.inl Z,U⟩) (bE H fun r20 h21 H=>vd (rn [(0,1),(1,2),(900,5)]) [(0,_,_,some _),(1,_,_,none)] [(900,_)] (z0o l4 r18 r20 h21) ⟨Z,Z,Z,U⟩ ⟨.inl (.inl Z),.inl (.inl Z),U⟩ ⟨⟨⟨Z,Z⟩,U⟩,⟨⟨Z,Z,Z⟩,U⟩,U⟩ Z (zp hN Z (qd Z (za (yk _ Z Z (.inl ⟨Z,Z⟩)) (qe Z (wz ?_)))))))))
       show Cv _ _ _ _
       exact wb (rn [(5,6)]) [(0,.dat (vstr s1)),(1,.dat (zh plus2)),(6,.ptr 1 0),(7,.dat (vint (wr (i3+2))))] [(1,.box none 101 [.nptr 1,.row 5 r20.2.length]),(5,.row 5 1 (List.map qc r20.2))] ⟨Z,Z,Z,Z,U⟩ ⟨Z,Z,U⟩ Z Z ⟨(wr (i3+2),r20.2),H,⟨Z,Z,Z,Z,U⟩,⟨Z,Z,U⟩⟩
   ·rintro ⟨i22,l23⟩ H
    replace H:Zk i22 l23=some q5:=H
    unfold Zk at H
    refine zp hN Z (qd Z (za (yk _ Z Z (.inl ⟨Z,Z⟩)) (qe Z (wz ?_))))
    show Cv _ _ _ _
    exact wb (rn [(6,2)]) [(0,.dat (vstr s1)),(1,.dat (zh plus2)),(6,.ptr 1 0),(7,.dat (vint (wr (i22+1))))] [(1,.box none 101 [.nptr 1,.row 6 l23.length]),(6,.row 5 1 (List.map qc l23))] ⟨Z,Z,Z,Z,U⟩ ⟨Z,Z,U⟩ Z Z ⟨_,yx H,⟨Z,Z,Z,Z,U⟩,⟨Z,Z,U⟩⟩
  ·refine fE h6 H fun H=>yt ?_
   replace H:=outl H hq5
   show Cv _ _ _ _
   refine vh ?_
   show Cv _ _ _ _
   exact vh ⟨l4,H,⟨Z,U⟩,⟨Z,Z,U⟩⟩
 ·rintro l24 H
  replace H:z52 l24=some r:=H
  unfold z52 at H
  refine zb hN Z (gE H fun h25 H=>vd (rn [(0,1),(1,2)]) [(0,_,_,none),(1,_,_,none)] [] (y4e h25 (C:=qc) (fun _=>Z)) ⟨Z,Z,U⟩ ⟨.inl (.inl Z),U⟩ ⟨⟨⟨Z,Z⟩,U⟩,⟨⟨Z,Z,Z⟩,U⟩,U⟩ Z (qe Z (qe Z (zi ?_))))
  cases H
  exact ⟨U,.inl Z,.inl Z,U⟩
theorem w0i (s1:(List zj)) (p1:zj→Option (Bool)) (fv1:Nat) (us1:List V) (hp1:∀ a0 r,p1 a0=some r→Fn Tryz.prog fv1 ([vagg (qi a0)]++us1) (zt [zh r])) (r:(Int)) (H:y3y s1 p1=some r):Fn Tryz.prog 56 [vlst (List.map qi s1),vfn fv1 us1] (zt [vint r]):=by
 refine ⟨by kernel_rfl,yf (us:=[vint r]) Tryz.func56 Z Z Z Z fun X hN => ?_⟩
 unfold y3y at H
 refine zb hN Z (qe Z (zf (zb hN Z (qd Z (za (qf Qp Z) (qd Z (zx (gE H fun h4 H=>qy (fun (k2:Nat) (s:Unit)=>[(0,.dat (vlst (List.map qi s1))),(1,.dat (vfn fv1 us1)),(7,.dat (vint (s1.length:Int))),(8,.dat (vint (k2:Int)))]) (fun (k2:Nat) (s:Unit)=>[]) () H ⟨Z,Z,Z,Z,U⟩ U (fun _ _=>Z) ?_ ?_))))))))
 ·rintro ⟨⟩ H
  replace H:y21=some r:=H
  unfold y21 at H
  refine zb hN Z (za (zy Z Z) (zf (zg _ Z (fun h=>(lt_t h).elim) (fun h => ?_))))
  refine yt (zb hN Z (qe Z (zi ?_)))
  cases H
  exact ⟨U,.inl Z,U⟩
 ·rintro k2 x5 ⟨⟩ q3 h6 h7 H hq3
  replace H:y20 p1 k2 x5=some q3:=H
  unfold y20 at H
  refine zb hN Z (za (zy Z Z) (zf (zg _ Z (fun h => ?_) (fun h=>(lt_f h6 h).elim))))
  refine zl (zf (zx (zb hN Z (qd Z (qe Z (zb hN Z (qd Z (qd Z (qd Z (za (wi ue (fun _=>Z) Z Z h7) (za (Zf jr Z (qg h7) Z) (bE H fun r8 h9 H=>za (z87 (hp1 x5 r8 h9) Z ⟨.inl Z,U⟩) (zg _ Z (fun h10 => ?_) (fun h10 => ?_))))))))))))))
  ·refine tE h10 H fun H=>zb hN Z (qd Z (qe Z (zi ?_)))
   replace H:=retl H hq3
   cases H
   exact ⟨U,.inl Z,U⟩
  ·exact fE h10 H fun H=>zl (zp hN Z (za (qj Z Z (by omega)) (qd Z ⟨_,yx H,⟨Z,Z,Z,Z,U⟩,U⟩)))
theorem x9t (s1:(List zj)) (p1:zj→Option (Bool)) (fv1:Nat) (us1:List V) (hp1:∀ a0 r,p1 a0=some r→Fn Tryz.prog fv1 ([vagg (qi a0)]++us1) (zt [zh r])) (r:((List zj))) (H:z2y s1 p1=some r):FnG Tryz.prog 20 [.row 0 s1.length,.dat (vfn fv1 us1)] [(0,.row 58 2 (List.map qi s1))] (.row 900 r.length) [(900,.row 58 2 (List.map qi r))]:=by
 refine xg (by kernel_rfl) Tryz.func20 Z Z Z Z fun X A hN => ?_
 unfold z2y at H
 refine zb hN Z (qe Z (zb hN Z (za (zd (.row _ _) Z) (qd Z (bE H fun r2 h3 H=>zr (x6p (id:=0) (es:=List.map qi s1) (w0i s1 p1 fv1 us1 hp1 r2 h3) ⟨.inr ⟨(congrArg (Slot.row 0) (by rw [List.length_map]):Slot.row 0 s1.length=_),Z⟩,.inl (.inl (.inl Z)),U⟩ (fun _ _ _ _ h=>h)) Z ?_)))))
 refine qe Z (zf (zb hN Z (qd Z (za (yu Z Z) (zg _ Z (fun h4 => ?_) (fun h4 => ?_))))))
 ·refine tE h4 H fun H=>zb hN Z (za (zd (.row _ _) Z) (za (qr (.row _ _) Z) (y5w 4 0 900 Z Z (by rw [List.length_map]) Z ?_)))
  refine zi ?_
  cases H
  exact ⟨U,[(4,.row 900 _)],⟨Z,U⟩,⟨Z,U⟩,Z,.inr (.inl ⟨4,Z,Z⟩)⟩
 ·refine fE h4 H fun H=>zl (yc (ι:=Int×(List zj)) (fun i=>[(0,.row 0 i.2.length),(5,.dat (vint i.1))]) (fun i=>[(0,.row 58 2 (List.map qi i.2))]) (fun i=>z9h i.1 i.2=some r) (fun i=>Z) ?_ ?_)
  ·skip
   refine zb hN Z (qd Z (za (yk _ Z Z (.inl ⟨Z,Z⟩)) (qe Z (zx (xy (fun (s:Int×Int×(List zj))=>[(0,.row 0 s.2.2.length),(1,.dat (vfn fv1 us1)),(5,.dat (vint s.1)),(6,.dat (vint s.2.1))]) (fun (s:Int×Int×(List zj))=>[(0,.row 58 2 (List.map qi s.2.2))]) (r2,wr (r2+1),s1) H ⟨Z,Z,Z,Z,U⟩ ⟨Z,U⟩ (fun _=>Z) ?_)))))
   rintro ⟨i5,j6,l7⟩ q8 H hq8
   replace H:y23 p1 i5 j6 l7=some q8:=H
   unfold y23 at H
   refine zf (zb hN Z (qd Z (za (zd (.row _ _) Z) (zr (z16 Qp Z Z) Z (za (zy Z Z) (zg _ Z (fun h9 => ?_) (fun h9 => ?_)))))))
   ·refine tE h9 H fun H=>zl (yc (ι:=Int×(List zj)) (fun i=>[(0,.row 0 i.2.length),(1,.dat (vfn fv1 us1)),(5,.dat (vint i.1)),(6,.dat (vint j6))]) (fun i=>[(0,.row 58 2 (List.map qi i.2))]) (fun i=>z5s j6 i.1 i.2=some q8) (fun i=>Z) ?_ ?_)
    ·skip
     refine zx (zb hN Z (za (zd (.row _ _) Z) (qd Z (bE H fun x10 h11 H=>zr (z5j ue Z Z Z h11) Z (zr (y7d jr Z Z (wo h11).2 Z) Z (zk (wd 1 z1w Z) Z (zk (qw jr Z Z Z Z) Z (zb hN Z (qd Z (zr (qh jr Z Z Z) Z (bE H fun r12 h13 H=>za (z87 (hp1 x10 r12 h13) Z ⟨.inl Z,U⟩) (za (yr Z) (zg _ Z (fun h14 => ?_) (fun h14 => ?_))))))))))))))
     ·exact tE h14 H fun H=>zb hN Z (za (zd (.row _ _) Z) (qd Z (zr (qh jr Z Z Z) Z (bE H fun x15 h16 H=>zr (z5j ue Z Z Z h16) Z (zk (x5h (C:=qi) jr Z Z Z (y5z (wo h16).2) Z Z) Z (zp hN Z (qd Z (za (yk _ Z Z (.inl ⟨Z,Z⟩)) (qe Z ⟨(wr (i5+1),(l7.set i5.toNat x10)),H,⟨congrArg (Slot.row 0) (by simp),Z,Z,Z,U⟩,⟨Z,U⟩⟩)))))))))
     ·exact fE h14 H fun H=>zl ⟨(i5,l7),H,⟨Z,Z,Z,Z,U⟩,⟨Z,U⟩⟩
    ·rintro ⟨i17,s18⟩ H
     replace H:z5s j6 i17 s18=some q8:=H
     unfold z5s at H
     exact zp hN Z (qd Z (za (yk _ Z Z (.inl ⟨Z,Z⟩)) (qe Z ⟨_,yx H,⟨Z,Z,Z,Z,U⟩,⟨Z,U⟩⟩)))
   ·refine fE h9 H fun H=>yt ?_
    replace H:=outl H hq8
    exact ⟨(i5,l7),H,⟨Z,Z,U⟩,⟨Z,U⟩⟩
  ·rintro ⟨i19,s20⟩ H
   replace H:z9h i19 s20=some r:=H
   unfold z9h at H
   refine zb hN Z (za (zd (.row _ _) Z) (qd Z (gE H fun h21 H=>zr (x5i (C:=qi) ue Z Z Z h21) Z (zk (x5l (C:=qi) (zj.mk [] []) Qp z1w Z Z Z Z Z h21) Z (zb hN Z (za (zd (.row _ _) Z) (qd Z (gE H fun h22 H=>y8l (y7e (C:=qi) 2 ue Z (w34 (zj.mk [] []) h21) Z h22) Z Z (za (qr (.row _ _) Z) (y5w 4 2 900 Z Z (by rw [List.length_map]; exact (y5l h22)) Z ?_))))))))))
   refine zi ?_
   cases H
   exact ⟨U,[(4,.row 900 _)],⟨Z,U⟩,⟨Z,U⟩,Z,.inr (.inl ⟨4,Z,congrArg (Slot.row 900) (by first | exact y5l (by assumption) | (simp <;> omega))⟩)⟩
theorem x9y (s1:Bs) (r:((List zj)×Int)) (H:kz s1=some r):FnG Tryz.prog 19 [.dat (vstr s1)] [] (.comp true [.row 900 r.1.length,.dat (vint r.2)]) [(900,.row 58 2 (List.map qi r.1))]:=by
 refine xg (by kernel_rfl) Tryz.func19 Z Z Z Z fun X A hN => ?_
 unfold kz at H
 refine zb hN Z (qe Z (qe Z (zf (zb hN Z (qd Z (bE H fun r2 h3 H=>za (zm (x0a s1 r2 h3) ⟨.inl Z,U⟩) (qe Z (zb hN Z (qd Z (za (qp Z Z) (zg _ Z (fun h4 => ?_) (fun h4 => ?_))))))))))))
 ·refine tE h4 H fun H=>zb hN Z (qd Z (qe Z (qe Z (jo 2 900 58 2 Z Z Z (zi ?_)))))
  cases H
  exact ⟨U,[(2,.row 900 _),(3,.dat (vint r2))],⟨Z,Z,U⟩,⟨Z,U⟩,Z,.inr (.inr ⟨.row 900 [].length,.dat (vint r2),[],⟨Z,Z,U⟩,Z⟩)⟩
 ·refine fE h4 H fun H=>zl (zb hN Z (qe Z (zf (zb hN Z (qd Z (bE H fun r5 h6 H=>za (zm (z0p s1 [38] r5 h6) ⟨.inl Z,.inl Z,U⟩) (za (qf wm Z) (qd Z (zx (jo 5 1 58 2 Z Z Z (gE H fun h10 H=>qy (fun (k8:Nat) (s:(List zj))=>[(5,.row 1 s.length),(21,.dat (vlst (List.map zq r5))),(22,.dat (vint (r5.length:Int))),(23,.dat (vint (k8:Int)))]) (fun (k8:Nat) (s:(List zj))=>[(1,.row 58 2 (List.map qi s))]) [] H ⟨Z,Z,Z,Z,U⟩ ⟨Z,U⟩ (fun _ _=>Z) ?_ ?_)))))))))))
  ·rintro l7 H
   replace H:xl l7=some r:=H
   unfold xl at H
   refine zb hN Z (za (zy Z Z) (zf (zg _ Z (fun h=>(lt_t h).elim) (fun h => ?_))))
   refine yt (zf (zb hN Z (za (zd (.row _ _) Z) (zr (z16 Qp Z Z) Z (za (wa Z Z) (zg _ Z (fun h12 => ?_) (fun h12 => ?_)))))))
   ·refine tE h12 H fun H=>zb hN Z (qe Z (qe Z (jo 2 900 58 2 Z Z Z (zi ?_))))
    cases H
    exact ⟨U,[(2,.row 900 _),(3,.dat (vint 2))],⟨Z,Z,U⟩,⟨Z,U⟩,Z,.inr (.inr ⟨.row 900 [].length,.dat (vint 2),[],⟨Z,Z,U⟩,Z⟩)⟩
   ·refine fE h12 H fun H=>zl (zb hN Z (za (zd (.row _ _) Z) (za (qr (.row _ _) Z) (qe Z (y5w 2 1 900 Z Z (by rw [List.length_map]) Z ?_)))))
    refine zi ?_
    cases H
    exact ⟨U,[(2,.row 900 _),(3,.dat (vint 0))],⟨Z,Z,U⟩,⟨Z,U⟩,Z,.inr (.inr ⟨.row 900 l7.length,.dat (vint 0),[],⟨Z,Z,U⟩,Z⟩)⟩
  ·rintro k8 x11 l7 q9 h13 h14 H hq9
   replace H:Wp k8 x11 l7=some q9:=H
   unfold Wp at H
   refine zb hN Z (za (zy Z Z) (zf (zg _ Z (fun h => ?_) (fun h=>(lt_f h13 h).elim))))
   refine zl (yc (ι:=(List zj)) (fun i=>[(5,.row 1 i.length),(21,.dat (vlst (List.map zq r5))),(22,.dat (vint (r5.length:Int))),(23,.dat (vint (k8:Int)))]) (fun i=>[(1,.row 58 2 (List.map qi i))]) (fun i=>z2q i=some q9) (fun i=>Z) ?_ ?_)
   ·skip
    refine zx (zb hN Z (za (wi vm (fun _=>Z) Z Z h14) (za (qz tyS9 Z (qg h14) Z) (qe Z (zf (zb hN Z (qd Z (za (va Z Z) (zg _ Z (fun h15 => ?_) (fun h15 => ?_))))))))))
    ·exact tE h15 H fun H=>yt ⟨l7,H,⟨Z,Z,Z,Z,U⟩,⟨Z,U⟩⟩
    ·refine fE h15 H fun H=>zl (zb hN Z (qd Z (bE H fun r16 h17 H=>za (zm (z7c x11 [61] r16 h17) ⟨.inl Z,.inl Z,U⟩) (qd Z (za (yd Z Z) (za (yd Z Z) (za (yd Z Z) (qe Z (qe Z (qe Z (zb hN Z (qd Z (bE H fun r18 h19 H=>za (zm (x0g r16.1 true r18 h19) ⟨.inl Z,.inl Z,U⟩) (qd Z (za (yd Z Z) (za (yd Z Z) (qe Z (qe Z (zb hN Z (qd Z ?_))))))))))))))))))))
     refine bE H fun r20 h21 H=>za (zm (x0g r16.2.1 true r20 h21) ⟨.inl Z,.inl Z,U⟩) (qd Z (za (yd Z Z) (za (yd Z Z) (qe Z (qe Z (zf (zb hN Z (qd Z (za (yr Z) (qd Z (yv Z Z (fun hc=>zd (.dat _) Z) (yv Z Z (fun hc=>yr (cnd (c:=(!(!r18.2))) hc)) (za (vr Z Z (fun hb=>(cnd (c:=(!(!r18.2))) (notI hb)))) (zg _ Z (fun h22 => ?_) (fun h22 => ?_)))))))))))))))
     ·refine tE h22 H fun H=>zb hN Z (qe Z (qe Z (jo 2 900 58 2 Z Z Z (zi ?_))))
      replace H:=retl H hq9
      cases H
      exact ⟨U,[(2,.row 900 _),(3,.dat (vint 9))],⟨Z,Z,U⟩,⟨Z,U⟩,Z,.inr (.inr ⟨.row 900 [].length,.dat (vint 9),[],⟨Z,Z,U⟩,Z⟩)⟩
     ·refine fE h22 H fun H=>zl (zp hN Z (za (zd (.row _ _) Z) (qd Z (qd Z (za (yb (u':=vagg (qi (zj.mk r18.1 r20.1))) (vc [(0,[vstr r18.1]),(1,[vstr r20.1])] z1w y15 Z ⟨Z,.inl ⟨_,Z,Z,Z⟩,Z,Z,.inl ⟨_,Z,Z,Z⟩,Z,U⟩) Z) (za (yb (u':=vlst (List.map qi [(zj.mk r18.1 r20.1)])) (yo [_] y6w ⟨Z,.inr Z,Z,U⟩ Z Z) Z) (gE H fun h23 H=>zk (je y6w (fun _=>Z) Z Z Z ⟨by simp,by first | (simp; done) | simpa using h23⟩ Z) Z ?_)))))))
      exact za (qr (.row _ _) Z) ⟨(l7++[(zj.mk r18.1 r20.1)]),H,⟨Z,Z,Z,Z,U⟩,⟨Z,U⟩⟩
   ·rintro out24 H
    replace H:z2q out24=some q9:=H
    unfold z2q at H
    exact zp hN Z (za (qj Z Z (by omega)) (qd Z ⟨_,yx H,⟨Z,Z,Z,Z,U⟩,⟨Z,U⟩⟩))
theorem w0t (p1:zj) (r:(Bool)) (H:z6j p1=some r):Fn Tryz.prog 21 [vagg (qi p1)] (zt [zh r]):=by
 refine ⟨by kernel_rfl,yf (us:=[zh r]) Tryz.func21 Z Z Z Z fun X hN => ?_⟩
 unfold z6j at H
 refine zb hN Z (zk (wy 1 Z) Z (qe Z (zb hN Z (zr (qh jr Z Z Z) Z (za (yb (u':=vagg (qi (zj.mk [] []))) (vc [] z1w y15 Z U) Z) (za (y73 [_,_] [_,_] y6t Z Z Z) (qe Z (zi ?_))))))))
 cases H
 exact ⟨U,.inl Z,U⟩
theorem w0w (x1:Int) (r:(Int)) (H:y31 x1=some r):Fn Tryz.prog 115 [vval (.int .u32 x1)] (zt [vint r]):=by
 refine ⟨by kernel_rfl,yf (us:=[vint r]) Tryz.func115 Z Z Z Z fun X hN => ?_⟩
 unfold y31 at H
 refine zb hN Z (qe Z (yc (ι:=Int×Int) (fun i=>[(0,.dat (vval (.int .u32 i.1))),(2,.dat (vint i.2))]) (fun i=>[]) (fun i=>z6a i.1 i.2=some r) (fun i=>Z) ?_ ?_))
 ·skip
  refine zb hN Z (qd Z (za (wx Z Z) (zg _ Z (fun h2 => ?_) (fun h2 => ?_))))
  ·exact tE h2 H fun H=>zb hN Z (qd Z (za (yb (Wa Z Z (by decide)) Z) (qe Z (zp hN Z (qe Z ⟨((shr_ .u32 x1 16),16),H,⟨Z,Z,U⟩,U⟩)))))
  ·exact fE h2 H fun H=>zl ⟨(x1,0),H,⟨Z,Z,U⟩,U⟩
 ·rintro ⟨x3,n4⟩ H
  replace H:z6a x3 n4=some r:=H
  unfold z6a at H
  refine yc (ι:=Int×Int) (fun i=>[(0,.dat (vval (.int .u32 i.1))),(2,.dat (vint i.2))]) (fun i=>[]) (fun i=>z58 i.1 i.2=some r) (fun i=>Z) ?_ ?_
  ·skip
   refine zb hN Z (qd Z (za (wx Z Z) (zg _ Z (fun h5 => ?_) (fun h5 => ?_))))
   ·exact tE h5 H fun H=>zb hN Z (qd Z (za (yb (Wa Z Z (by decide)) Z) (qe Z (zp hN Z (qd Z (za (yk _ Z Z (.inl ⟨Z,Z⟩)) (qe Z ⟨((shr_ .u32 x3 8),wr (n4+8)),H,⟨Z,Z,U⟩,U⟩)))))))
   ·exact fE h5 H fun H=>zl ⟨(x3,n4),H,⟨Z,Z,U⟩,U⟩
  ·rintro ⟨x6,n7⟩ H
   replace H:z58 x6 n7=some r:=H
   unfold z58 at H
   refine zb hN Z (qd Z (qd Z (za (ja y6s tyU5 Z) (bE H fun x8 h9 H=>za (z84 tyU9 Z Z h9) (za (ja tyU5 tyU3 Z) (za (yk _ Z Z (.inl ⟨Z,Z⟩)) (qe Z (zi ?_))))))))
   cases H
   exact ⟨U,.inl Z,U⟩
theorem w0v (x1:Int) (r:(Int)) (H:y30 x1=some r):Fn Tryz.prog 116 [vval (.int .u64 x1)] (zt [vint r]):=by
 refine ⟨by kernel_rfl,yf (us:=[vint r]) Tryz.func116 Z Z Z Z fun X hN => ?_⟩
 unfold y30 at H
 refine zb hN Z (qe Z (yc (ι:=Int×Int) (fun i=>[(0,.dat (vval (.int .u64 i.1))),(2,.dat (vint i.2))]) (fun i=>[]) (fun i=>z57 i.1 i.2=some r) (fun i=>Z) ?_ ?_))
 ·skip
  refine zb hN Z (qd Z (za (wx Z Z) (zg _ Z (fun h2 => ?_) (fun h2 => ?_))))
  ·exact tE h2 H fun H=>zb hN Z (qd Z (za (yb (Wa Z Z (by decide)) Z) (qe Z (zp hN Z (qe Z ⟨((shr_ .u64 x1 32),32),H,⟨Z,Z,U⟩,U⟩)))))
  ·exact fE h2 H fun H=>zl ⟨(x1,0),H,⟨Z,Z,U⟩,U⟩
 ·rintro ⟨x3,n4⟩ H
  replace H:z57 x3 n4=some r:=H
  unfold z57 at H
  refine yc (ι:=Int×Int) (fun i=>[(0,.dat (vval (.int .u64 i.1))),(2,.dat (vint i.2))]) (fun i=>[]) (fun i=>z56 i.1 i.2=some r) (fun i=>Z) ?_ ?_
  ·skip
   refine zb hN Z (qd Z (za (wx Z Z) (zg _ Z (fun h5 => ?_) (fun h5 => ?_))))
   ·exact tE h5 H fun H=>zb hN Z (qd Z (za (yb (Wa Z Z (by decide)) Z) (qe Z (zp hN Z (qd Z (za (yk _ Z Z (.inl ⟨Z,Z⟩)) (qe Z ⟨((shr_ .u64 x3 16),wr (n4+16)),H,⟨Z,Z,U⟩,U⟩)))))))
   ·exact fE h5 H fun H=>zl ⟨(x3,n4),H,⟨Z,Z,U⟩,U⟩
  ·rintro ⟨x6,n7⟩ H
   replace H:z56 x6 n7=some r:=H
   unfold z56 at H
   refine yc (ι:=Int×Int) (fun i=>[(0,.dat (vval (.int .u64 i.1))),(2,.dat (vint i.2))]) (fun i=>[]) (fun i=>z55 i.1 i.2=some r) (fun i=>Z) ?_ ?_
   ·skip
    refine zb hN Z (qd Z (za (wx Z Z) (zg _ Z (fun h8 => ?_) (fun h8 => ?_))))
    ·exact tE h8 H fun H=>zb hN Z (qd Z (za (yb (Wa Z Z (by decide)) Z) (qe Z (zp hN Z (qd Z (za (yk _ Z Z (.inl ⟨Z,Z⟩)) (qe Z ⟨((shr_ .u64 x6 8),wr (n7+8)),H,⟨Z,Z,U⟩,U⟩)))))))
    ·exact fE h8 H fun H=>zl ⟨(x6,n7),H,⟨Z,Z,U⟩,U⟩
   ·rintro ⟨x9,n10⟩ H
    replace H:z55 x9 n10=some r:=H
    unfold z55 at H
    refine zb hN Z (qd Z (qd Z (za (ja Yg tyU5 Z) (bE H fun x11 h12 H=>za (z84 tyU9 Z Z h12) (za (ja tyU5 tyU3 Z) (za (yk _ Z Z (.inl ⟨Z,Z⟩)) (qe Z (zi ?_))))))))
    cases H
    exact ⟨U,.inl Z,U⟩
theorem w0x (x1:Int) (r:(Int)) (H:z6k x1=some r):Fn Tryz.prog 58 [vval (.int .u64 x1)] (zt [vint r]):=by
 refine ⟨by kernel_rfl,yf (us:=[vint r]) Tryz.func58 Z Z Z Z fun X hN => ?_⟩
 unfold z6k at H
 refine zb hN Z (qe Z (zf (zg _ Z (fun h2 => ?_) (fun h2 => ?_))))
 ·refine tE h2 H fun H=>zb hN Z (qd Z (za (ja z8j y6s Z) (bE H fun r3 h4 H=>za (zm (w0w (IntKind.wrap .u32 x1) r3 h4) ⟨.inl Z,U⟩) (qe Z (zi ?_)))))
  cases H
  exact ⟨U,.inl Z,U⟩
 ·refine fE h2 H fun H=>zl (zb hN Z (qd Z (bE H fun r5 h6 H=>za (zm (w0v x1 r5 h6) ⟨.inl Z,U⟩) (qe Z (zi ?_)))))
  cases H
  exact ⟨U,.inl Z,U⟩
theorem x9r (data1:(List zj)) (a2:Int) (b3:Int) (p3:zj→zj→Option (Int)) (fv3:Nat) (us3:List V) (hp3:∀ a0 a1 r,p3 a0 a1=some r→Fn Tryz.prog fv3 ([vagg (qi a0),vagg (qi a1)]++us3) (zt [vint r])) (r:((List zj))) (H:z6e data1 a2 b3 p3=some r):FnG Tryz.prog 107 [.row 0 data1.length,.dat (vint a2),.dat (vint b3),.dat (vfn fv3 us3)] [(0,.rowA undef 58 2 (List.map qi data1))] (.dat (zt [])) [(0,.rowA undef 58 2 (List.map qi r))]:=by
 refine xg (by kernel_rfl) Tryz.func107 Z Z Z Z fun X A hN => ?_
 unfold z6e at H
 refine zb hN Z (qd Z (za (yk _ Z Z (.inl ⟨Z,Z⟩)) (qe Z (zx (xy (fun (s:Int×(List zj))=>[(0,.row 0 s.2.length),(1,.dat (vint a2)),(2,.dat (vint b3)),(3,.dat (vfn fv3 us3)),(8,.dat (vint s.1))]) (fun (s:Int×(List zj))=>[(0,.rowA (A.vl 0) 58 2 (List.map qi s.2))]) (wr (a2+1),data1) H ⟨Z,Z,Z,Z,Z,U⟩ ⟨Z,U⟩ (fun _=>Z) ?_)))))
 rintro ⟨i4,l5⟩ q6 H hq6
 replace H:y2v a2 b3 p3 i4 l5=some q6:=H
 unfold y2v at H
 refine zf (zb hN Z (qd Z (qd Z (za (zy Z Z) (zg _ Z (fun h7 => ?_) (fun h7 => ?_))))))
 ·refine tE h7 H fun H=>zl (yc (ι:=(List zj)) (fun i=>[(0,.row 0 i.length),(1,.dat (vint a2)),(2,.dat (vint b3)),(3,.dat (vfn fv3 us3)),(8,.dat (vint i4))]) (fun i=>[(0,.rowA (A.vl 0) 58 2 (List.map qi i))]) (fun i=>z9f i4 i=some q6) (fun i=>Z) ?_ ?_)
  ·skip
   refine zx (zb hN Z (qd Z (qe Z (zx (xy (fun (s:Int×(List zj))=>[(0,.row 0 s.2.length),(1,.dat (vint a2)),(2,.dat (vint b3)),(3,.dat (vfn fv3 us3)),(8,.dat (vint i4)),(9,.dat (vint s.1))]) (fun (s:Int×(List zj))=>[(0,.rowA (A.vl 0) 58 2 (List.map qi s.2))]) (i4,l5) H ⟨Z,Z,Z,Z,Z,Z,U⟩ ⟨Z,U⟩ (fun _=>Z) ?_)))))
   rintro ⟨j8,l9⟩ q10 H hq10
   replace H:y2u a2 p3 i4 j8 l9=some q10:=H
   unfold y2u at H
   refine zf (yc (ι:=Bool) (fun i=>[(0,.row 0 l9.length),(1,.dat (vint a2)),(2,.dat (vint b3)),(3,.dat (vfn fv3 us3)),(8,.dat (vint i4)),(9,.dat (vint j8)),(34,.dat (zh i))]) (fun i=>[(0,.rowA (A.vl 0) 58 2 (List.map qi l9))]) (fun i=>z5r i4 j8 l9 i=some q10) (fun i=>Z) ?_ ?_)
   ·skip
    refine vi mixed hN Z Z (qd Z (qd Z (za (wa Z Z) (qd Z (yg (j:=3) Z Z (fun h11 => ?_) (fun h11 => ?_) Z)))))
    ·refine u1 h11 H fun h12 H=>ze Z Z h11 (zd (.dat _) Z) (ze Z Z h11 (zd (.row _ _) Z) (ze Z Z h11 (zd (.dat _) Z) (bE H fun x13 h14 H=>ju Z Z h11 (z17 ue Z Z Z h14) Z (ju Z Z h11 (z83 jr Z Z (wo h14).2 Z) Z (ze Z Z h11 (zd (.row _ _) Z) (ze Z Z h11 (zd (.dat _) Z) (ze Z Z h11 (yk _ Z Z (.inr (.inl ⟨Z,Z⟩))) (bE H fun x15 h16 H=>ju Z Z h11 (z17 ue Z Z Z h16) Z (ju Z Z h11 (z83 jr Z Z (wo h16).2 Z) Z (bE H fun r17 h18 H=>ze Z Z h11 (z87 (hp3 x13 x15 r17 h18) Z ⟨.inl Z,.inl Z,U⟩) (ze Z Z h11 (zy Z Z) (za (zz Z (bTT h12) Z) ⟨Z,?_⟩))))))))))))
     exact ⟨decide (r17 < 0),H,⟨Z,Z,Z,Z,Z,Z,Z,U⟩,⟨Z,U⟩⟩
    ·refine u2 h11 H fun h19 H=>zc Z Z h11 (zc Z Z h11 (zc Z Z h11 (zc Z Z h11 (zc Z Z h11 (zc Z Z h11 (zc Z Z h11 (zc Z Z h11 (zc Z Z h11 (zc Z Z h11 (zc Z Z h11 (zc Z Z h11 (za (zv Z (bFF h19) Z) ⟨Z,?_⟩))))))))))))
     exact ⟨false,H,⟨Z,Z,Z,Z,Z,Z,Z,U⟩,⟨Z,U⟩⟩
   ·rintro v20 H
    replace H:z5r i4 j8 l9 v20=some q10:=H
    unfold z5r at H
    refine zg _ Z (fun h21 => ?_) (fun h21 => ?_)
    ·refine tE h21 H fun H=>zl (zf (zx (vi mixed hN Z Z (za (zd (.row _ _) Z) (qd Z (za (zd (.row _ _) Z) (qd Z (za (yk _ Z Z (.inr (.inl ⟨Z,Z⟩))) (za (zd (.row _ _) Z) (qd Z (za (yk _ Z Z (.inr (.inl ⟨Z,Z⟩))) (bE H fun x22 h23 H=>zr (z17 ue Z Z Z h23) Z (zr (z83 jr Z Z (wo h23).2 Z) Z (za (zd (.row _ _) Z) (qd Z (bE H fun x24 h25 H=>zr (z17 ue Z Z Z h25) Z (zr (z83 jr Z Z (wo h25).2 Z) Z (zr (z17 ue Z Z Z h25) Z (zk (y7c (C:=qi) jr Z Z Z (y5z (wo h25).2) Z Z) Z (bE H fun x26 h27 H=>?_))))))))))))))))))))
     refine zr (z17 ue Z (by simp) Z h27) Z (zk (y7c (C:=qi) jr Z Z (by simp) (y5z (wo h27).2) Z Z) Z ⟨Z,?_⟩)
     exact zp hN Z (qd Z (za (yk _ Z Z (.inr (.inl ⟨Z,Z⟩))) (qe Z ⟨_,yx H,⟨congrArg (Slot.row 0) (by simp),Z,Z,Z,Z,Z,U⟩,⟨Z,U⟩⟩)))
    ·refine fE h21 H fun H=>yt ?_
     replace H:=outl H hq10
     exact ⟨l9,H,⟨Z,Z,Z,Z,Z,U⟩,⟨Z,U⟩⟩
  ·rintro data28 H
   replace H:z9f i4 data28=some q6:=H
   unfold z9f at H
   exact zp hN Z (qd Z (za (yk _ Z Z (.inl ⟨Z,Z⟩)) (qe Z ⟨_,yx H,⟨Z,Z,Z,Z,Z,U⟩,⟨Z,U⟩⟩)))
 ·refine fE h7 H fun H=>yt ?_
  replace H:=retl H hq6
  have eH:l5=r:=Option.some.inj H
  subst eH
  exact ⟨U,[],U,⟨Z,U⟩,Z,.inl ⟨[],U,Z⟩⟩
end Go.Proofs.YtbndlmnjeofkdaaGreatDoor
