/- Walks along the models. Printed by a program. -/
import Derived.Test.YtbndlmnjeofkdadGreatDoorZuw1
namespace Go.Proofs.YtbndlmnjeofkdadGreatDoor
open Go.RowKit
set_option linter.unusedVariables false
set_option maxRecDepth 100000
set_option maxHeartbeats 2000000
theorem y37 (s1:Bs) (low2:Int) (high3:Int) (r:(Bool)) (H:Wv s1 low2 high3=some r):Fn Tryz.prog 87 [vstr s1,vval (.int .u8 low2),vval (.int .u8 high3)] (zu [zf r]):=by
 refine ⟨by kernel_rfl,zy (us:=[zf r]) Tryz.func87 Z Z Z Z fun X hN => ?_⟩
 unfold Wv at H
 refine zb hN Z (qe Z (ze (zb hN Z (qd Z (za (qj tyU9 Z) (qd Z (zx (gE H fun h6 H=>wd (fun (k4:Nat) (s:Unit)=>[(0,.dat (vstr s1)),(1,.dat (vval (.int .u8 low2))),(2,.dat (vval (.int .u8 high3))),(9,.dat (vint (s1.length:Int))),(10,.dat (vint (k4:Int)))]) (fun (k4:Nat) (s:Unit)=>[]) () H ⟨Z,Z,Z,Z,Z,U⟩ U (fun _ _=>Z) ?_ ?_))))))))
 ·rintro ⟨⟩ H
  replace H:z8x=some r:=H
  unfold z8x at H
  refine zb hN Z (za (zw Z Z) (ze (zg _ Z (fun h=>(lt_t h).elim) (fun h => ?_))))
  refine yu (zb hN Z (qe Z (zh ?_)))
  cases H
  exact ⟨U,.inl Z,U⟩
 ·rintro k4 x7 ⟨⟩ q5 h8 h9 H hq5
  replace H:z8w low2 high3 k4 x7=some q5:=H
  unfold z8w at H
  refine zb hN Z (za (zw Z Z) (ze (zg _ Z (fun h => ?_) (fun h=>(lt_f h8 h).elim))))
  refine zj (ze (zx (zb hN Z (qd Z (qe Z (yb (ι:=Bool) (fun i=>[(0,.dat (vstr s1)),(1,.dat (vval (.int .u8 low2))),(2,.dat (vval (.int .u8 high3))),(9,.dat (vint (s1.length:Int))),(10,.dat (vint (k4:Int))),(24,.dat (zf i))]) (fun i=>[]) (fun i=>z1g i=some q5) (fun i=>Z) ?_ ?_))))))
  ·skip
   refine zt hN Z (qd Z (qd Z (za (wg tyU9 Z Z h9) (qd Z (za (zw Z Z) (qd Z (yc (j:=5) Z Z (fun h10 => ?_) (fun h10 => ?_) Z)))))))
   ·exact u3 h10 H fun h11 H=>zd Z Z h10 (zi (.dat _) Z) (zd Z Z h10 (zi (.dat _) Z) (zd Z Z h10 (wg tyU9 Z Z h9) (zd Z Z h10 (zi (.dat _) Z) (zd Z Z h10 (qc Z Z) (za (zv Z (bFF h11) Z) ⟨decide (high3 < (x7.toNat:Int)),H,⟨Z,Z,Z,Z,Z,Z,U⟩,U⟩)))))
   ·exact u4 h10 H fun h12 H=>zc Z Z h10 (zc Z Z h10 (zc Z Z h10 (zc Z Z h10 (zc Z Z h10 (za (zz Z (bTT h12) Z) ⟨true,H,⟨Z,Z,Z,Z,Z,Z,U⟩,U⟩)))))
  ·rintro v13 H
   replace H:z1g v13=some q5:=H
   unfold z1g at H
   refine zg _ Z (fun h14 => ?_) (fun h14 => ?_)
   ·refine tE h14 H fun H=>zb hN Z (qe Z (zh ?_))
    replace H:=retl H hq5
    cases H
    exact ⟨U,.inl Z,U⟩
   ·exact fE h14 H fun H=>zj (zt hN Z (za (qo Z Z (by omega)) (qd Z ⟨_,yx H,⟨Z,Z,Z,Z,Z,U⟩,U⟩)))
theorem x9j (s p:Bs) (r:Bool) (H:z5f s p=some r):Fn Tryz.prog 88 [vstr s,vstr p] (zu [zf r]):=by
 unfold z5f at H
 obtain ⟨⟨⟨h1,h2⟩,h3,h4⟩,h5⟩:=gif H
 cases h5
 refine uq (by kernel_rfl) fun M w vs hM h => ?_
 have hv:=jw (us:=[.string ⟨s.toArray⟩,.string ⟨p.toArray⟩]) h
 subst hv
 refine (Tryz.strings_ContainsAny_laid ⟨s.toArray⟩ ⟨p.toArray⟩ w (by simp [ByteArray.size]; omega) (by simp [ByteArray.size]; omega) (fun j b hb=>z26 h3 j b (by simpa using hb)) (fun j b hb=>z26 h4 j b (by simpa using hb))).mono ?_
 rintro e w' ⟨rfl,hb⟩
 exact ⟨_,Z,Z,Kp.of_below hb⟩

theorem y9b (s1:Bs) (r:(Int)) (H:Ww s1=some r):Fn Tryz.prog 54 [vstr s1] (zu [vint r]):=by
 refine ⟨by kernel_rfl,zy (us:=[vint r]) Tryz.func54 Z Z Z Z fun X hN => ?_⟩
 unfold Ww at H
 refine zb hN Z (qe Z (ze (yb (ι:=Bool) (fun i=>[(19,.dat (zf i))]) (fun i=>[]) (fun i=>Ye i=some r) (fun i=>Z) ?_ ?_)))
 ·skip
  refine zt hN Z (qd Z (za (qj tyU9 Z) (za (qc Z Z) (qd Z (yc (j:=3) Z Z (fun h2 => ?_) (fun h2 => ?_) Z)))))
  ·refine u3 h2 H fun h3 H=>zd Z Z h2 (zi (.dat _) Z) (bE H fun r4 h5 H=>zd Z Z h2 (zl (y33 s1 [47] r4 h5) ⟨.inl Z,.inl Z,U⟩) (zd Z Z h2 (yt Z) (za (zv Z (bFF h3) Z) (qd Z (yc (j:=8) Z Z (fun h6 => ?_) (fun h6 => ?_) Z)))))
   ·refine u3 h6 H fun h7 H=>zd Z Z h6 (zi (.dat _) Z) (bE H fun r8 h9 H=>zd Z Z h6 (zl (y37 s1 33 126 r8 h9) ⟨.inl Z,.inl Z,.inl Z,U⟩) (zd Z Z h6 (yt Z) (za (zv Z (bFF h7) Z) (qd Z (yc (j:=13) Z Z (fun h10 => ?_) (fun h10 => ?_) Z)))))
    ·exact u3 h10 H fun h11 H=>zd Z Z h10 (zi (.dat _) Z) (bE H fun r12 h13 H=>zd Z Z h10 (zl (x9j s1 [63,35] r12 h13) ⟨.inl Z,.inl Z,U⟩) (za (zv Z (bFF h11) Z) ⟨r12,H,⟨Z,U⟩,U⟩))
    ·exact u4 h10 H fun h14 H=>zc Z Z h10 (zc Z Z h10 (za (zz Z (bTT h14) Z) ⟨true,H,⟨Z,U⟩,U⟩))
   ·exact u4 h6 H fun h15 H=>zc Z Z h6 (zc Z Z h6 (zc Z Z h6 (za (zz Z (bTT h15) Z) (qd Z (zc Z Z Z (zc Z Z Z (za (zz Z Z Z) ⟨true,H,⟨Z,U⟩,U⟩)))))))
  ·exact u4 h2 H fun h16 H=>zc Z Z h2 (zc Z Z h2 (zc Z Z h2 (za (zz Z (bTT h16) Z) (qd Z (zc Z Z Z (zc Z Z Z (zc Z Z Z (za (zz Z Z Z) (qd Z (zc Z Z Z (zc Z Z Z (za (zz Z Z Z) ⟨true,H,⟨Z,U⟩,U⟩))))))))))))
 ·rintro v17 H
  replace H:Ye v17=some r:=H
  unfold Ye at H
  refine zg _ Z (fun h18 => ?_) (fun h18 => ?_)
  ·refine tE h18 H fun H=>zb hN Z (qe Z (zh ?_))
   cases H
   exact ⟨U,.inl Z,U⟩
  ·refine fE h18 H fun H=>zj (zb hN Z (qe Z (zh ?_)))
   cases H
   exact ⟨U,.inl Z,U⟩
theorem y8z (l1:(List Int)) (c2:Int) (r:(Int×(List Int))) (H:z9d l1 c2=some r):FnG Tryz.prog 89 [.ptr 0 0,.dat (vval (.int .u8 c2))] [(0,.box (some 0) 138 [.nptr 0,.row 1 l1.length]),(1,.row 5 1 (List.map yy l1))] (.dat (zu [verr r.1])) [(0,.box (some 0) 138 [.nptr 0,.row 900 r.2.length]),(900,.row 5 1 (List.map yy r.2))]:=by
 refine z6u (by kernel_rfl) Tryz.func89 Z Z Z Z fun X A hN => ?_
 refine ut ?_
 unfold z9d at H
 refine zb hN Z (qe Z (zb hN Z (za (zi (.ptr _ _) Z) (zk (y63 x02 Z) Z (zb hN Z (za (zi (.ptr _ _) Z) (za (zi (.ptr _ _) Z) (za (qp Z) (za (zo z7p Z) (zp (zr z7k Z Z) Z (qd Z (za (yf (u':=vlst (List.map yy [c2])) (wo [[_]] Qb ⟨Z,.inl ⟨_,Z,Z,Z⟩,Z,U⟩ Z Z) Z) (gE H fun h3 H=>zk (ul Qb (fun _=>Z) Z Z Z ⟨by simp,by first | (simp; done) | simpa using h3⟩ Z) Z ?_)))))))))))))
 refine za (qp Z) (za (zo z7p Z) (y2m (y13 z7k Z Z (by rw [List.length_map]) Z) Z Z ?_))
 refine zb hN Z (qe Z (zh ?_))
 cases H
 show Cv _ _ _ _
 exact kq (rn [(1,900)]) [(4,.dat (verr 0))] [(0,.box (some (A.bl 0)) 138 [.nptr 0,.row 1 ((l1++[c2]).length)]),(1,.row 5 1 (List.map yy (l1++[c2])))] ⟨Z,U⟩ ⟨Z,Z,U⟩ Z Z ⟨U,[(4,.dat (verr 0))],⟨Z,U⟩,⟨Z,Z,U⟩,Z,.inl ⟨[verr 0],⟨Z,U⟩,Z⟩⟩
theorem z90 (c1:Int) (r:(Bool)) (H:z1y c1=some r):Fn Tryz.prog 141 [vval (.int .u8 c1)] (zu [zf r]):=by
 refine ⟨by kernel_rfl,zy (us:=[zf r]) Tryz.func141 Z Z Z Z fun X hN => ?_⟩
 unfold z1y at H
 refine zb hN Z (qe Z (zb hN Z (qd Z (za (wy Z Z) (qd Z (qa Z Z (fun hc=>zi (.dat _) Z) (qa Z Z (fun hc=>vf (cnd (c:=(decide (48≤c1))) hc) Z) (za (wx Z (fun hb=>(cnd (c:=(decide (48≤c1))) hb)) Z) (qe Z (zh ?_))))))))))
 cases H
 exact ⟨U,.inl Z,U⟩
theorem y9a (c1:Int) (r:(Bool)) (H:z9h c1=some r):Fn Tryz.prog 138 [vval (.int .u8 c1)] (zu [zf r]):=by
 refine ⟨by kernel_rfl,zy (us:=[zf r]) Tryz.func138 Z Z Z Z fun X hN => ?_⟩
 unfold z9h at H
 refine zb hN Z (qe Z (zb hN Z (qd Z (bE H fun r2 h3 H=>za (zl (z90 c1 r2 h3) ⟨.inl Z,U⟩) (qd Z (yg Z Z (fun hc=>zi (.dat _) Z) (yg Z Z (fun hc=>wy (cnd (c:=(!r2)) hc) Z) (yg Z Z (fun hc=>zi (.dat _) (cnd (c:=(!r2)) hc)) (qu Z Z (fun hc=>zi (.dat _) Z) (qu Z Z (fun hc=>vf (cnd (c:=((!r2) && (decide (97≤c1)))) hc) Z) (yg Z Z (fun hc=>wx (cnd (c:=(!r2)) hc) (fun hb=>(cnd (c:=((!r2) && (decide (97≤c1)))) (andI hc hb))) Z) (za (ve Z Z (fun hb=>(cnd (c:=(!r2)) (notI hb)))) (qd Z (yg Z Z (fun hc=>zi (.dat _) Z) (yg Z Z (fun hc=>wy (cnd (c:=(!(r2 || ((decide (97≤c1)) && (decide (c1≤102)))))) hc) Z) (yg Z Z (fun hc=>zi (.dat _) (cnd (c:=(!(r2 || ((decide (97≤c1)) && (decide (c1≤102)))))) hc)) (qu Z Z (fun hc=>zi (.dat _) Z) (qu Z Z (fun hc=>vf (cnd (c:=((!(r2 || ((decide (97≤c1)) && (decide (c1≤102))))) && (decide (65≤c1)))) hc) Z) (yg Z Z (fun hc=>wx (cnd (c:=(!(r2 || ((decide (97≤c1)) && (decide (c1≤102)))))) hc) (fun hb=>(cnd (c:=((!(r2 || ((decide (97≤c1)) && (decide (c1≤102))))) && (decide (65≤c1)))) (andI hc hb))) Z) (za (ve Z Z (fun hb=>(cnd (c:=(!(r2 || ((decide (97≤c1)) && (decide (c1≤102)))))) (notI hb)))) (qe Z (zh ?_))))))))))))))))))))))
 cases H
 exact ⟨U,.inl Z,U⟩
theorem x9x (s1:Bs) (v2:Int) (r:(Bool)) (H:y3c s1 v2=some r):Fn Tryz.prog 90 [vstr s1,vint v2] (zu [zf r]):=by
 refine ⟨by kernel_rfl,zy (us:=[zf r]) Tryz.func90 Z Z Z Z fun X hN => ?_⟩
 unfold y3c at H
 refine zb hN Z (qe Z (yb (ι:=Bool) (fun i=>[(4,.dat (zf i))]) (fun i=>[]) (fun i=>z1e i=some r) (fun i=>Z) ?_ ?_))
 ·skip
  refine zt hN Z (qd Z (za (ye _ Z Z (.inl ⟨Z,Z⟩)) (qd Z (za (qj tyU9 Z) (za (zw Z Z) (qd Z (yc (j:=5) Z Z (fun h3 => ?_) (fun h3 => ?_) Z)))))))
  ·refine u1 h3 H fun h4 H=>zd Z Z h3 (zi (.dat _) Z) (zd Z Z h3 (zi (.dat _) Z) (zd Z Z h3 (ye _ Z Z (.inl ⟨Z,Z⟩)) (bE H fun x5 h6 H=>zd Z Z h3 (ka tyU9 Z Z h6) (bE H fun r7 h8 H=>zd Z Z h3 (zl (y9a (x5.toNat:Int) r7 h8) ⟨.inl Z,U⟩) (za (zz Z (bTT h4) Z) (qd Z (yc (j:=12) Z Z (fun h9 => ?_) (fun h9 => ?_) Z)))))))
   ·exact u1 h9 H fun h10 H=>zd Z Z h9 (zi (.dat _) Z) (zd Z Z h9 (zi (.dat _) Z) (zd Z Z h9 (ye _ Z Z (.inl ⟨Z,Z⟩)) (bE H fun x11 h12 H=>zd Z Z h9 (ka tyU9 Z Z h12) (bE H fun r13 h14 H=>zd Z Z h9 (zl (y9a (x11.toNat:Int) r13 h14) ⟨.inl Z,U⟩) (za (zz Z (bTT h10) Z) (qe Z ⟨r13,H,⟨Z,U⟩,U⟩))))))
   ·exact u2 h9 H fun h15 H=>zc Z Z h9 (zc Z Z h9 (zc Z Z h9 (zc Z Z h9 (zc Z Z h9 (za (zv Z (bFF h15) Z) (qe Z ⟨false,H,⟨Z,U⟩,U⟩))))))
  ·exact u2 h3 H fun h16 H=>zc Z Z h3 (zc Z Z h3 (zc Z Z h3 (zc Z Z h3 (zc Z Z h3 (za (zv Z (bFF h16) Z) (qd Z (zc Z Z Z (zc Z Z Z (zc Z Z Z (zc Z Z Z (zc Z Z Z (za (zv Z Z Z) (qe Z ⟨false,H,⟨Z,U⟩,U⟩)))))))))))))
 ·rintro v17 H
  replace H:z1e v17=some r:=H
  unfold z1e at H
  refine zh ?_
  cases H
  exact ⟨U,.inl Z,U⟩
theorem kj (c1:Int) (r:(Int)) (H:ju c1=some r):Fn Tryz.prog 217 [vval (.int .u8 c1)] (zu [vval (.int .u8 r)]):=by
 refine ⟨by kernel_rfl,zy (us:=[vval (.int .u8 r)]) Tryz.func217 Z Z Z Z fun X hN => ?_⟩
 unfold ju at H
 refine zb hN Z (qe Z (zb hN Z (qd Z (za (yf (y15 Z Z) Z) (qe Z (zh ?_))))))
 cases H
 exact ⟨U,.inl Z,U⟩
theorem w0c (v1:Bs) (r:(Bool)) (H:y3f v1=some r):Fn Tryz.prog 218 [vstr v1] (zu [zf r]):=by
 refine ⟨by kernel_rfl,zy (us:=[zf r]) Tryz.func218 Z Z Z Z fun X hN => ?_⟩
 unfold y3f at H
 refine zb hN Z (qe Z (zb hN Z (qe Z (zb hN Z (qe Z (yb (ι:=Bs) (fun i=>[(0,.dat (vstr i)),(3,.dat (vval (.int .i32 94))),(4,.dat (vint 0))]) (fun i=>[]) (fun i=>z6g i=some r) (fun i=>Z) ?_ ?_))))))
 ·skip
  refine yb (ι:=Bool) (fun i=>[(0,.dat (vstr v1)),(3,.dat (vval (.int .i32 94))),(4,.dat (vint 0)),(18,.dat (zf i))]) (fun i=>[]) (fun i=>z2j v1 i=some r) (fun i=>Z) ?_ ?_
  ·skip
   refine zt hN Z (qd Z (za (qj tyU9 Z) (za (wy Z Z) (qd Z (yc (j:=3) Z Z (fun h2 => ?_) (fun h2 => ?_) Z)))))
   ·refine u1 h2 H fun h3 H=>zd Z Z h2 (zi (.dat _) Z) (bE H fun x4 h5 H=>zd Z Z h2 (wg tyU9 Z Z h5) (zd Z Z h2 (yw Z Z) (zd Z Z h2 (zi (.dat _) Z) (yc (j:=7) Z Z (fun h6 => ?_) (fun h6 => ?_) Z))))
    ·exact u3 h6 H fun h7 H=>zd Z Z h6 (zi (.dat _) Z) (zd Z Z h6 (wg tyU9 Z Z h5) (zd Z Z h6 (yw Z Z) (zd Z Z h2 (zv Z (bFF h7) Z) (za (zz Z (bTT h3) Z) ⟨decide ((x4.toNat:Int)=43),H,⟨Z,Z,Z,Z,U⟩,U⟩))))
    ·exact u4 h6 H fun h8 H=>zc Z Z h6 (zc Z Z h6 (zc Z Z h6 (zd Z Z h2 (zz Z (bTT h8) Z) (za (zz Z (bTT h3) Z) ⟨true,H,⟨Z,Z,Z,Z,U⟩,U⟩))))
   ·exact u2 h2 H fun h9 H=>zc Z Z h2 (zc Z Z h2 (zc Z Z h2 (zc Z Z h2 (yd Z Z (yd Z Z (yd Z Z (zc Z Z h2 (za (zv Z (bFF h9) Z) ⟨false,H,⟨Z,Z,Z,Z,U⟩,U⟩))))))))
  ·rintro v10 H
   replace H:z2j v1 v10=some r:=H
   unfold z2j at H
   refine zg _ Z (fun h11 => ?_) (fun h11 => ?_)
   ·exact tE h11 H fun H=>zt hN Z (qd Z (bE H fun l12 h13 H=>za (ji tyU9 Z Z Z h13) (qe Z ⟨l12,H,⟨Z,Z,Z,U⟩,U⟩)))
   ·exact fE h11 H fun H=>zj ⟨v1,H,⟨Z,Z,Z,U⟩,U⟩
 ·rintro v14 H
  replace H:z6g v14=some r:=H
  unfold z6g at H
  refine zb hN Z (qe Z (yb (ι:=Int×Int×Bool) (fun i=>[(0,.dat (vstr v14)),(3,.dat (vval (.int .i32 i.1))),(4,.dat (vint i.2.1)),(5,.dat (zf i.2.2))]) (fun i=>[]) (fun i=>z6f v14 i.1 i.2.1 i.2.2=some r) (fun i=>Z) ?_ ?_))
  ·skip
   refine yb (ι:=Bool) (fun i=>[(0,.dat (vstr v14)),(3,.dat (vval (.int .i32 94))),(4,.dat (vint 0)),(5,.dat (zf false)),(46,.dat (zf i))]) (fun i=>[]) (fun i=>Yt v14 i=some r) (fun i=>Z) ?_ ?_
   ·skip
    refine zt hN Z (qd Z (za (qj tyU9 Z) (za (wy Z Z) (qd Z (yc (j:=3) Z Z (fun h15 => ?_) (fun h15 => ?_) Z)))))
    ·refine u1 h15 H fun h16 H=>zd Z Z h15 (zi (.dat _) Z) (bE H fun x17 h18 H=>zd Z Z h15 (wg tyU9 Z Z h18) (zd Z Z h15 (yw Z Z) (za (zz Z (bTT h16) Z) (qd Z (yc (j:=8) Z Z (fun h19 => ?_) (fun h19 => ?_) Z)))))
     ·refine u1 h19 H fun h20 H=>zd Z Z h19 (zi (.dat _) Z) (bE H fun x21 h22 H=>zd Z Z h19 (wg tyU9 Z Z h22) (bE H fun r23 h24 H=>zd Z Z h19 (zl (kj (x21.toNat:Int) r23 h24) ⟨.inl Z,U⟩) (zd Z Z h19 (yw Z Z) (zd Z Z h19 (zi (.dat _) Z) (yc (j:=13) Z Z (fun h25 => ?_) (fun h25 => ?_) Z)))))
      ·refine u3 h25 H fun h26 H=>zd Z Z h25 (zi (.dat _) Z) (zd Z Z h25 (wg tyU9 Z Z h22) (bE H fun r27 h28 H=>zd Z Z h25 (zl (kj (x21.toNat:Int) r27 h28) ⟨.inl Z,U⟩) (zd Z Z h25 (yw Z Z) (zd Z Z h19 (zv Z (bFF h26) Z) (zd Z Z h19 (zi (.dat _) Z) (yc (j:=19) Z Z (fun h29 => ?_) (fun h29 => ?_) Z))))))
       ·exact u3 h29 H fun h30 H=>zd Z Z h29 (zi (.dat _) Z) (zd Z Z h29 (wg tyU9 Z Z h22) (bE H fun r31 h32 H=>zd Z Z h29 (zl (kj (x21.toNat:Int) r31 h32) ⟨.inl Z,U⟩) (zd Z Z h29 (yw Z Z) (zd Z Z h19 (zv Z (bFF h30) Z) (za (zz Z (bTT h20) Z) ⟨decide (r31=120),H,⟨Z,Z,Z,Z,Z,U⟩,U⟩)))))
       ·exact u4 h29 H fun h33 H=>zc Z Z h29 (zc Z Z h29 (zc Z Z h29 (zc Z Z h29 (zd Z Z h19 (zz Z (bTT h33) Z) (za (zz Z (bTT h20) Z) ⟨true,H,⟨Z,Z,Z,Z,Z,U⟩,U⟩)))))
      ·exact u4 h25 H fun h34 H=>zc Z Z h25 (zc Z Z h25 (zc Z Z h25 (zc Z Z h25 (zd Z Z h19 (zz Z (bTT h34) Z) (zd Z Z h19 (zi (.dat _) Z) (zc Z Z Z (zc Z Z Z (zc Z Z Z (zc Z Z Z (zd Z Z h19 (zz Z Z Z) (za (zz Z (bTT h20) Z) ⟨true,H,⟨Z,Z,Z,Z,Z,U⟩,U⟩)))))))))))
     ·exact u2 h19 H fun h35 H=>zc Z Z h19 (zc Z Z h19 (zc Z Z h19 (zc Z Z h19 (zc Z Z h19 (yd Z Z (yd Z Z (yd Z Z (yd Z Z (zc Z Z h19 (zc Z Z h19 (yd Z Z (yd Z Z (yd Z Z (yd Z Z (zc Z Z h19 (za (zv Z (bFF h35) Z) ⟨false,H,⟨Z,Z,Z,Z,Z,U⟩,U⟩))))))))))))))))
    ·exact u2 h15 H fun h36 H=>zc Z Z h15 (zc Z Z h15 (zc Z Z h15 (za (zv Z (bFF h36) Z) (qd Z (zc Z Z Z (zc Z Z Z (zc Z Z Z (zc Z Z Z (zc Z Z Z (yd Z Z (yd Z Z (yd Z Z (yd Z Z (zc Z Z Z (zc Z Z Z (yd Z Z (yd Z Z (yd Z Z (yd Z Z (zc Z Z Z (za (zv Z Z Z) ⟨false,H,⟨Z,Z,Z,Z,Z,U⟩,U⟩)))))))))))))))))))))
   ·rintro v37 H
    replace H:Yt v14 v37=some r:=H
    unfold Yt at H
    refine zg _ Z (fun h38 => ?_) (fun h38 => ?_)
    ·exact tE h38 H fun H=>zb hN Z (qe Z (zb hN Z (qe Z (zt hN Z (qd Z (bE H fun x39 h40 H=>za (wg tyU9 Z Z h40) (bE H fun r41 h42 H=>za (zl (kj (x39.toNat:Int) r41 h42) ⟨.inl Z,U⟩) (za (yw Z Z) (qe Z ⟨(48,2,decide (r41=120)),H,⟨Z,Z,Z,Z,U⟩,U⟩)))))))))
    ·exact fE h38 H fun H=>zj ⟨(94,0,false),H,⟨Z,Z,Z,Z,U⟩,U⟩
  ·rintro ⟨v43,v44,v45⟩ H
   replace H:z6f v14 v43 v44 v45=some r:=H
   unfold z6f at H
   refine yb (ι:=Int) (fun i=>[(3,.dat (vval (.int .i32 i)))]) (fun i=>[]) (fun i=>z95 i=some r) (fun i=>Z) ?_ ?_
   ·skip
    refine zx (Zr (fun (s:Int×Int)=>[(0,.dat (vstr v14)),(3,.dat (vval (.int .i32 s.1))),(4,.dat (vint s.2)),(5,.dat (zf v45))]) (fun (s:Int×Int)=>[]) (v43,v44) H ⟨Z,Z,Z,Z,U⟩ U (fun _=>Z) ?_)
    rintro ⟨v46,v47⟩ q48 H hq48
    replace H:y4h v14 v45 v46 v47=some q48:=H
    unfold y4h at H
    refine ze (zb hN Z (qd Z (qd Z (za (qj tyU9 Z) (za (zw Z Z) (zg _ Z (fun h49 => ?_) (fun h49 => ?_)))))))
    ·refine tE h49 H fun H=>zj (yb (ι:=Int) (fun i=>[(0,.dat (vstr v14)),(3,.dat (vval (.int .i32 i))),(4,.dat (vint v47)),(5,.dat (zf v45))]) (fun i=>[]) (fun i=>z2i v47 i=some q48) (fun i=>Z) ?_ ?_)
     ·skip
      refine zx (ze (yb (ι:=Bool) (fun i=>[(0,.dat (vstr v14)),(3,.dat (vval (.int .i32 v46))),(4,.dat (vint v47)),(5,.dat (zf v45)),(83,.dat (zf i))]) (fun i=>[]) (fun i=>xg v14 v46 v47 i=some q48) (fun i=>Z) ?_ ?_))
      ·skip
       refine zt hN Z (qd Z (qd Z (bE H fun x50 h51 H=>za (ka tyU9 Z Z h51) (za (vf Z Z) (qd Z (yc (j:=4) Z Z (fun h52 => ?_) (fun h52 => ?_) Z))))))
       ·refine u1 h52 H fun h53 H=>zd Z Z h52 (zi (.dat _) Z) (zd Z Z h52 (zi (.dat _) Z) (zd Z Z h52 (ka tyU9 Z Z h51) (zd Z Z h52 (vf Z Z) (za (zz Z (bTT h53) Z) (qd Z (yc (j:=10) Z Z (fun h54 => ?_) (fun h54 => ?_) Z))))))
        ·refine u3 h54 H fun h55 H=>zd Z Z h54 (zi (.dat _) Z) (zd Z Z h54 (zi (.dat _) Z) (yc (j:=12) Z Z (fun h56 => ?_) (fun h56 => ?_) Z))
         ·refine u1 h56 H fun h57 H=>zd Z Z h56 (zi (.dat _) Z) (zd Z Z h56 (zi (.dat _) Z) (zd Z Z h56 (ka tyU9 Z Z h51) (bE H fun r58 h59 H=>zd Z Z h56 (zl (kj (x50.toNat:Int) r58 h59) ⟨.inl Z,U⟩) (zd Z Z h56 (vf Z Z) (zd Z Z h54 (zz Z (bTT h57) Z) (zd Z Z h54 (zi (.dat _) Z) (yc (j:=19) Z Z (fun h60 => ?_) (fun h60 => ?_) Z)))))))
          ·exact u1 h60 H fun h61 H=>zd Z Z h60 (zi (.dat _) Z) (zd Z Z h60 (zi (.dat _) Z) (zd Z Z h60 (ka tyU9 Z Z h51) (bE H fun r62 h63 H=>zd Z Z h60 (zl (kj (x50.toNat:Int) r62 h63) ⟨.inl Z,U⟩) (zd Z Z h60 (vf Z Z) (zd Z Z h54 (zz Z (bTT h61) Z) (za (zv Z (bFF h55) Z) ⟨decide (r62≤102),H,⟨Z,Z,Z,Z,Z,U⟩,U⟩))))))
          ·exact u2 h60 H fun h64 H=>zc Z Z h60 (zc Z Z h60 (zc Z Z h60 (zc Z Z h60 (zc Z Z h60 (zd Z Z h54 (zv Z (bFF h64) Z) (za (zv Z (bFF h55) Z) ⟨false,H,⟨Z,Z,Z,Z,Z,U⟩,U⟩))))))
         ·exact u2 h56 H fun h65 H=>zc Z Z h56 (zc Z Z h56 (zc Z Z h56 (zc Z Z h56 (zc Z Z h56 (zd Z Z h54 (zv Z (bFF h65) Z) (zd Z Z h54 (zi (.dat _) Z) (zc Z Z Z (zc Z Z Z (zc Z Z Z (zc Z Z Z (zc Z Z Z (zd Z Z h54 (zv Z Z Z) (za (zv Z (bFF h55) Z) ⟨false,H,⟨Z,Z,Z,Z,Z,U⟩,U⟩)))))))))))))
        ·exact u4 h54 H fun h66 H=>zc Z Z h54 (zc Z Z h54 (yd Z Z (yd Z Z (yd Z Z (yd Z Z (yd Z Z (zc Z Z h54 (zc Z Z h54 (yd Z Z (yd Z Z (yd Z Z (yd Z Z (yd Z Z (zc Z Z h54 (za (zz Z (bTT h66) Z) ⟨true,H,⟨Z,Z,Z,Z,Z,U⟩,U⟩)))))))))))))))
       ·refine u2 h52 H fun h67 H=>zc Z Z h52 (zc Z Z h52 (zc Z Z h52 (zc Z Z h52 (za (zv Z (bFF h67) Z) (qd Z (zd Z Z Z (zi (.dat _) Z) (zd Z Z Z (zi (.dat _) Z) (yc (j:=12) Z Z (fun h68 => ?_) (fun h68 => ?_) Z))))))))
        ·refine u1 h68 H fun h69 H=>zd Z Z h68 (zi (.dat _) Z) (zd Z Z h68 (zi (.dat _) Z) (zd Z Z h68 (ka tyU9 Z Z h51) (bE H fun r70 h71 H=>zd Z Z h68 (zl (kj (x50.toNat:Int) r70 h71) ⟨.inl Z,U⟩) (zd Z Z h68 (vf Z Z) (zd Z Z Z (zz Z (bTT h69) Z) (zd Z Z Z (zi (.dat _) Z) (yc (j:=19) Z Z (fun h72 => ?_) (fun h72 => ?_) Z)))))))
         ·exact u1 h72 H fun h73 H=>zd Z Z h72 (zi (.dat _) Z) (zd Z Z h72 (zi (.dat _) Z) (zd Z Z h72 (ka tyU9 Z Z h51) (bE H fun r74 h75 H=>zd Z Z h72 (zl (kj (x50.toNat:Int) r74 h75) ⟨.inl Z,U⟩) (zd Z Z h72 (vf Z Z) (zd Z Z Z (zz Z (bTT h73) Z) (za (zv Z Z Z) ⟨decide (r74≤102),H,⟨Z,Z,Z,Z,Z,U⟩,U⟩))))))
         ·exact u2 h72 H fun h76 H=>zc Z Z h72 (zc Z Z h72 (zc Z Z h72 (zc Z Z h72 (zc Z Z h72 (zd Z Z Z (zv Z (bFF h76) Z) (za (zv Z Z Z) ⟨false,H,⟨Z,Z,Z,Z,Z,U⟩,U⟩))))))
        ·exact u2 h68 H fun h77 H=>zc Z Z h68 (zc Z Z h68 (zc Z Z h68 (zc Z Z h68 (zc Z Z h68 (zd Z Z Z (zv Z (bFF h77) Z) (zd Z Z Z (zi (.dat _) Z) (zc Z Z Z (zc Z Z Z (zc Z Z Z (zc Z Z Z (zc Z Z Z (zd Z Z Z (zv Z Z Z) (za (zv Z Z Z) ⟨false,H,⟨Z,Z,Z,Z,Z,U⟩,U⟩)))))))))))))
      ·rintro v78 H
       replace H:xg v14 v46 v47 v78=some q48:=H
       unfold xg at H
       refine zg _ Z (fun h79 => ?_) (fun h79 => ?_)
       ·exact tE h79 H fun H=>zb hN Z (qe Z (yu ⟨48,H,⟨Z,Z,Z,Z,U⟩,U⟩))
       ·refine fE h79 H fun H=>zj (ze (zb hN Z (qd Z (qd Z (bE H fun x80 h81 H=>za (ka tyU9 Z Z h81) (za (yw Z Z) (zg _ Z (fun h82 => ?_) (fun h82 => ?_))))))))
        ·refine tE h82 H fun H=>ze (zb hN Z (qd Z (za (ql Z Z) (zg _ Z (fun h83 => ?_) (fun h83 => ?_)))))
         ·refine tE h83 H fun H=>zb hN Z (qe Z (zh ?_))
          replace H:=retl H hq48
          cases H
          exact ⟨U,.inl Z,U⟩
         ·exact fE h83 H fun H=>zj (zb hN Z (qe Z (yu ⟨95,H,⟨Z,Z,Z,Z,U⟩,U⟩)))
        ·refine fE h82 H fun H=>zj (ze (zb hN Z (qd Z (za (yw Z Z) (zg _ Z (fun h84 => ?_) (fun h84 => ?_))))))
         ·refine tE h84 H fun H=>zb hN Z (qe Z (zh ?_))
          replace H:=retl H hq48
          cases H
          exact ⟨U,.inl Z,U⟩
         ·exact fE h84 H fun H=>zj (zt hN Z (qe Z ⟨33,H,⟨Z,Z,Z,Z,U⟩,U⟩))
     ·rintro v85 H
      replace H:z2i v47 v85=some q48:=H
      unfold z2i at H
      exact zt hN Z (qd Z (za (ye _ Z Z (.inl ⟨Z,Z⟩)) (qe Z ⟨_,yx H,⟨Z,Z,Z,Z,U⟩,U⟩)))
    ·refine fE h49 H fun H=>yu ?_
     replace H:=outl H hq48
     exact ⟨v46,H,⟨Z,U⟩,U⟩
   ·rintro v86 H
    replace H:z95 v86=some r:=H
    unfold z95 at H
    refine zb hN Z (qd Z (za (ql Z Z) (qe Z (zh ?_))))
    cases H
    exact ⟨U,.inl Z,U⟩
theorem y9h (v1:Bs) (v2:Int) (v3:Int) (r:(Int×Int)) (H:z9k v1 v2 v3=some r):Fn Tryz.prog 187 [vstr v1,vint v2,vint v3] (zu [vval (.int .u64 r.1),verr r.2]):=by
 refine ⟨by kernel_rfl,zy (us:=[vval (.int .u64 r.1),verr r.2]) Tryz.func187 Z Z Z Z fun X hN => ?_⟩
 unfold z9k at H
 refine zb hN Z (qe Z (qe Z (ze (zb hN Z (qd Z (za (vd Z Z) (zg _ Z (fun h4 => ?_) (fun h4 => ?_))))))))
 ·refine tE h4 H fun H=>zb hN Z (za (yf (u':=verr 2) (kb (show Tryz.prog.underlying 258=some (.int .i64) from by kernel_rfl) Z) Z) ?_)
  refine qe Z (qe Z (zh ?_))
  cases H
  exact ⟨U,.inl Z,.inl Z,U⟩
 ·refine fE h4 H fun H=>zj (zb hN Z (qd Z (za (yw Z Z) (qe Z (zb hN Z (qd Z (qe Z (yb (ι:=Bs×Int) (fun i=>[(0,.dat (vstr i.1)),(1,.dat (vint i.2)),(2,.dat (vint v3)),(8,.dat (zf (decide (v2=0)))),(9,.dat (vstr v1))]) (fun i=>[]) (fun i=>Zm v1 v2 v3 i.1 i.2=some r) (fun i=>Z) ?_ ?_))))))))
  ·skip
   refine zx (zb hN Z (qd Z (za (vf Z Z) (qd Z (qa Z Z (fun hc=>zi (.dat _) Z) (qa Z Z (fun hc=>vf (cnd (c:=(decide (2≤v2))) hc) Z) (za (wx Z (fun hb=>(cnd (c:=(decide (2≤v2))) hb)) Z) (qe Z (zg _ Z (fun h5 => ?_) (fun h5 => ?_))))))))))
   ·exact tE h5 H fun H=>zj ⟨(v1,v2),H,⟨Z,Z,Z,Z,Z,U⟩,U⟩
   ·refine fE h5 H fun H=>zb hN Z (qd Z (za (yw Z Z) (qe Z (zg _ Z (fun h6 => ?_) (fun h6 => ?_)))))
    ·refine tE h6 H fun H=>zb hN Z (qe Z (zb hN Z (qd Z (bE H fun x7 h8 H=>za (wg tyU9 Z Z h8) (za (yw Z Z) (zg _ Z (fun h9 => ?_) (fun h9 => ?_)))))))
     ·refine tE h9 H fun H=>zx (yb (ι:=Bool) (fun i=>[(0,.dat (vstr v1)),(2,.dat (vint v3)),(8,.dat (zf (decide (v2=0)))),(9,.dat (vstr v1)),(40,.dat (zf i))]) (fun i=>[]) (fun i=>z6n v1 v2 v3 i=some r) (fun i=>Z) ?_ ?_)
      ·skip
       refine zt hN Z (qd Z (za (qj tyU9 Z) (za (wy Z Z) (qd Z (yc (j:=3) Z Z (fun h10 => ?_) (fun h10 => ?_) Z)))))
       ·exact u1 h10 H fun h11 H=>zd Z Z h10 (zi (.dat _) Z) (bE H fun x12 h13 H=>zd Z Z h10 (wg tyU9 Z Z h13) (bE H fun r14 h15 H=>zd Z Z h10 (zl (kj (x12.toNat:Int) r14 h15) ⟨.inl Z,U⟩) (zd Z Z h10 (yw Z Z) (za (zz Z (bTT h11) Z) (qe Z ⟨decide (r14=98),H,⟨Z,Z,Z,Z,Z,U⟩,U⟩)))))
       ·exact u2 h10 H fun h16 H=>zc Z Z h10 (zc Z Z h10 (zc Z Z h10 (zc Z Z h10 (za (zv Z (bFF h16) Z) (qe Z ⟨false,H,⟨Z,Z,Z,Z,Z,U⟩,U⟩)))))
      ·rintro v17 H
       replace H:z6n v1 v2 v3 v17=some r:=H
       unfold z6n at H
       refine zg _ Z (fun h18 => ?_) (fun h18 => ?_)
       ·exact tE h18 H fun H=>zb hN Z (qe Z (zt hN Z (qd Z (bE H fun l19 h20 H=>za (ji tyU9 Z Z Z h20) (qe Z ⟨(l19,2),H,⟨Z,Z,Z,Z,Z,U⟩,U⟩)))))
       ·refine fE h18 H fun H=>yb (ι:=Bool) (fun i=>[(0,.dat (vstr v1)),(2,.dat (vint v3)),(8,.dat (zf (decide (v2=0)))),(9,.dat (vstr v1)),(52,.dat (zf i))]) (fun i=>[]) (fun i=>z6m v1 v2 v3 i=some r) (fun i=>Z) ?_ ?_
        ·skip
         refine zt hN Z (qd Z (za (qj tyU9 Z) (za (wy Z Z) (qd Z (yc (j:=3) Z Z (fun h21 => ?_) (fun h21 => ?_) Z)))))
         ·exact u1 h21 H fun h22 H=>zd Z Z h21 (zi (.dat _) Z) (bE H fun x23 h24 H=>zd Z Z h21 (wg tyU9 Z Z h24) (bE H fun r25 h26 H=>zd Z Z h21 (zl (kj (x23.toNat:Int) r25 h26) ⟨.inl Z,U⟩) (zd Z Z h21 (yw Z Z) (za (zz Z (bTT h22) Z) (qe Z ⟨decide (r25=111),H,⟨Z,Z,Z,Z,Z,U⟩,U⟩)))))
         ·exact u2 h21 H fun h27 H=>zc Z Z h21 (zc Z Z h21 (zc Z Z h21 (zc Z Z h21 (za (zv Z (bFF h27) Z) (qe Z ⟨false,H,⟨Z,Z,Z,Z,Z,U⟩,U⟩)))))
        ·rintro v28 H
         replace H:z6m v1 v2 v3 v28=some r:=H
         unfold z6m at H
         refine zg _ Z (fun h29 => ?_) (fun h29 => ?_)
         ·exact tE h29 H fun H=>zb hN Z (qe Z (zt hN Z (qd Z (bE H fun l30 h31 H=>za (ji tyU9 Z Z Z h31) (qe Z ⟨(l30,8),H,⟨Z,Z,Z,Z,Z,U⟩,U⟩)))))
         ·refine fE h29 H fun H=>yb (ι:=Bool) (fun i=>[(0,.dat (vstr v1)),(2,.dat (vint v3)),(8,.dat (zf (decide (v2=0)))),(9,.dat (vstr v1)),(64,.dat (zf i))]) (fun i=>[]) (fun i=>z6l v1 v2 v3 i=some r) (fun i=>Z) ?_ ?_
          ·skip
           refine zt hN Z (qd Z (za (qj tyU9 Z) (za (wy Z Z) (qd Z (yc (j:=3) Z Z (fun h32 => ?_) (fun h32 => ?_) Z)))))
           ·exact u1 h32 H fun h33 H=>zd Z Z h32 (zi (.dat _) Z) (bE H fun x34 h35 H=>zd Z Z h32 (wg tyU9 Z Z h35) (bE H fun r36 h37 H=>zd Z Z h32 (zl (kj (x34.toNat:Int) r36 h37) ⟨.inl Z,U⟩) (zd Z Z h32 (yw Z Z) (za (zz Z (bTT h33) Z) (qe Z ⟨decide (r36=120),H,⟨Z,Z,Z,Z,Z,U⟩,U⟩)))))
           ·exact u2 h32 H fun h38 H=>zc Z Z h32 (zc Z Z h32 (zc Z Z h32 (zc Z Z h32 (za (zv Z (bFF h38) Z) (qe Z ⟨false,H,⟨Z,Z,Z,Z,Z,U⟩,U⟩)))))
          ·rintro v39 H
           replace H:z6l v1 v2 v3 v39=some r:=H
           unfold z6l at H
           refine zg _ Z (fun h40 => ?_) (fun h40 => ?_)
           ·exact tE h40 H fun H=>zb hN Z (qe Z (zt hN Z (qd Z (bE H fun l41 h42 H=>za (ji tyU9 Z Z Z h42) (qe Z ⟨(l41,16),H,⟨Z,Z,Z,Z,Z,U⟩,U⟩)))))
           ·exact fE h40 H fun H=>zb hN Z (qe Z (zt hN Z (qd Z (bE H fun l43 h44 H=>za (ji tyU9 Z Z Z h44) (qe Z ⟨(l43,8),H,⟨Z,Z,Z,Z,Z,U⟩,U⟩)))))
     ·exact fE h9 H fun H=>zj ⟨(v1,10),H,⟨Z,Z,Z,Z,Z,U⟩,U⟩
    ·refine fE h6 H fun H=>zb hN Z (za (yf (u':=verr 3) (kb (show Tryz.prog.underlying 258=some (.int .i64) from by kernel_rfl) Z) Z) ?_)
     refine qe Z (qe Z (zh ?_))
     cases H
     exact ⟨U,.inl Z,.inl Z,U⟩
  ·rintro ⟨v45,v46⟩ H
   replace H:Zm v1 v2 v3 v45 v46=some r:=H
   unfold Zm at H
   refine yb (ι:=Int) (fun i=>[(0,.dat (vstr v45)),(1,.dat (vint v46)),(2,.dat (vint i)),(8,.dat (zf (decide (v2=0)))),(9,.dat (vstr v1))]) (fun i=>[]) (fun i=>z6k v1 v2 v45 v46 i=some r) (fun i=>Z) ?_ ?_
   ·skip
    refine zb hN Z (qd Z (za (yw Z Z) (zg _ Z (fun h47 => ?_) (fun h47 => ?_))))
    ·exact tE h47 H fun H=>zt hN Z (qe Z ⟨64,H,⟨Z,Z,Z,Z,Z,U⟩,U⟩)
    ·refine fE h47 H fun H=>zb hN Z (qd Z (za (zw Z Z) (qd Z (yg Z Z (fun hc=>zi (.dat _) Z) (yg Z Z (fun hc=>qc (cnd (c:=(!(decide (v3 < 0)))) hc) Z) (za (ve Z Z (fun hb=>(cnd (c:=(!(decide (v3 < 0)))) (notI hb)))) (zg _ Z (fun h48 => ?_) (fun h48 => ?_))))))))
     ·refine tE h48 H fun H=>zb hN Z (za (yf (u':=verr 4) (kb (show Tryz.prog.underlying 258=some (.int .i64) from by kernel_rfl) Z) Z) ?_)
      refine qe Z (qe Z (zh ?_))
      cases H
      exact ⟨U,.inl Z,.inl Z,U⟩
     ·exact fE h48 H fun H=>zj ⟨v3,H,⟨Z,Z,Z,Z,Z,U⟩,U⟩
   ·rintro v49 H
    replace H:z6k v1 v2 v45 v46 v49=some r:=H
    unfold z6k at H
    refine zb hN Z (qe Z (yb (ι:=Int) (fun i=>[(0,.dat (vstr v45)),(1,.dat (vint v46)),(2,.dat (vint v49)),(8,.dat (zf (decide (v2=0)))),(9,.dat (vstr v1)),(10,.dat (vval (.int .u64 i)))]) (fun i=>[]) (fun i=>z2l v1 v2 v45 v46 v49 i=some r) (fun i=>Z) ?_ ?_))
    ·skip
     refine zb hN Z (qd Z (zx (zb hN Z (za (yw Z Z) (qe Z (zg _ Z (fun h50 => ?_) (fun h50 => ?_)))))))
     ·exact tE h50 H fun H=>zt hN Z (qe Z ⟨1844674407370955162,H,⟨Z,Z,Z,Z,Z,Z,U⟩,U⟩)
     ·refine fE h50 H fun H=>zb hN Z (za (yw Z Z) (qe Z (zg _ Z (fun h51 => ?_) (fun h51 => ?_))))
      ·exact tE h51 H fun H=>zt hN Z (qe Z ⟨1152921504606846976,H,⟨Z,Z,Z,Z,Z,Z,U⟩,U⟩)
      ·exact fE h51 H fun H=>zt hN Z (qd Z (za (vz tyU3 uh Z) (gE H fun h52 H=>za (y6w Z Z h52) (za (ye _ Z Z (.inl ⟨Z,Z⟩)) (qe Z ⟨IntKind.wrap .u64 ((IntKind.wrap .u64 (Int.tdiv 18446744073709551615 (IntKind.wrap .u64 v46)))+1),H,⟨Z,Z,Z,Z,Z,Z,U⟩,U⟩)))))
    ·rintro v53 H
     replace H:z2l v1 v2 v45 v46 v49 v53=some r:=H
     unfold z2l at H
     refine zb hN Z (qd Z (za (vz tyU3 z3e Z) (gE H fun h54 H=>za (yf (z8b Z Z h54) Z) (za (ye _ Z Z (.inr (.inl ⟨Z,Z⟩))) (qe Z (zb hN Z (qe Z (zb hN Z (qe Z (ze (zb hN Z (qd Z (za (y62 (C:=yy) tyU9 xq tyU5 (fun _=>Z) Z) (za (yo xq Z) (qd Z (zx (gE H fun h59 H=>wd (fun (k57:Nat) (s:Bool×Int)=>[(1,.dat (vint v46)),(8,.dat (zf (decide (v2=0)))),(9,.dat (vstr v1)),(10,.dat (vval (.int .u64 v53))),(11,.dat (vval (.int .u64 (IntKind.wrap .u64 ((shl_ .u64 1 (IntKind.wrap .u64 v49)) - 1))))),(12,.dat (zf s.1)),(13,.dat (vval (.int .u64 s.2))),(99,.dat (vlst (List.map yy (qn v45)))),(100,.dat (vint ((qn v45).length:Int))),(101,.dat (vint (k57:Int)))]) (fun (k57:Nat) (s:Bool×Int)=>[]) (false,0) H ⟨Z,Z,Z,Z,Z,Z,Z,Z,Z,Z,U⟩ U (fun _ _=>Z) ?_ ?_)))))))))))))))))
     ·rintro ⟨v55,v56⟩ H
      replace H:y4k v1 v55 v56=some r:=H
      unfold y4k at H
      refine zb hN Z (za (zw Z Z) (ze (zg _ Z (fun h=>(lt_t h).elim) (fun h => ?_))))
      refine yu (ze (yb (ι:=Bool) (fun i=>[(13,.dat (vval (.int .u64 v56))),(169,.dat (zf i))]) (fun i=>[]) (fun i=>z6j v56 i=some r) (fun i=>Z) ?_ ?_))
      ·skip
       refine zt hN Z (qd Z (qd Z (yc (j:=1) Z Z (fun h61 => ?_) (fun h61 => ?_) Z)))
       ·exact u1 h61 H fun h62 H=>zd Z Z h61 (zi (.dat _) Z) (bE H fun r63 h64 H=>zd Z Z h61 (zl (w0c v1 r63 h64) ⟨.inl Z,U⟩) (zd Z Z h61 (yt Z) (za (zz Z (bTT h62) Z) ⟨!r63,H,⟨Z,Z,U⟩,U⟩)))
       ·exact u2 h61 H fun h65 H=>zc Z Z h61 (zc Z Z h61 (zc Z Z h61 (za (zv Z (bFF h65) Z) ⟨false,H,⟨Z,Z,U⟩,U⟩)))
      ·rintro v66 H
       replace H:z6j v56 v66=some r:=H
       unfold z6j at H
       refine zg _ Z (fun h67 => ?_) (fun h67 => ?_)
       ·refine tE h67 H fun H=>zb hN Z (za (yf (u':=verr 2) (kb (show Tryz.prog.underlying 258=some (.int .i64) from by kernel_rfl) Z) Z) ?_)
        refine qe Z (qe Z (zh ?_))
        cases H
        exact ⟨U,.inl Z,.inl Z,U⟩
       ·refine fE h67 H fun H=>zj (zb hN Z (qd Z (qe Z (qe Z (zh ?_)))))
        cases H
        exact ⟨U,.inl Z,.inl Z,U⟩
     ·rintro k57 x60 ⟨v55,v56⟩ q58 h68 h69 H hq58
      replace H:y4j v2 v46 v49 v53 k57 x60 v55 v56=some q58:=H
      unfold y4j at H
      refine zb hN Z (za (zw Z Z) (ze (zg _ Z (fun h => ?_) (fun h=>(lt_f h68 h).elim))))
      refine zj (yb (ι:=Bool×Int) (fun i=>[(1,.dat (vint v46)),(8,.dat (zf (decide (v2=0)))),(9,.dat (vstr v1)),(10,.dat (vval (.int .u64 v53))),(11,.dat (vval (.int .u64 (IntKind.wrap .u64 ((shl_ .u64 1 (IntKind.wrap .u64 v49)) - 1))))),(12,.dat (zf i.1)),(13,.dat (vval (.int .u64 i.2))),(99,.dat (vlst (List.map yy (qn v45)))),(100,.dat (vint ((qn v45).length:Int))),(101,.dat (vint (k57:Int)))]) (fun i=>[]) (fun i=>z6i i.1 i.2=some q58) (fun i=>Z) ?_ ?_)
      ·skip
       refine zx (zb hN Z (za (qt y6i (fun _=>Z) Z Z h69) (za (yi tyS5 Z (yp h69) Z) (qe Z (zb hN Z (qe Z (yb (ι:=Int) (fun i=>[(1,.dat (vint v46)),(8,.dat (zf (decide (v2=0)))),(9,.dat (vstr v1)),(10,.dat (vval (.int .u64 v53))),(11,.dat (vval (.int .u64 (IntKind.wrap .u64 ((shl_ .u64 1 (IntKind.wrap .u64 v49)) - 1))))),(12,.dat (zf v55)),(13,.dat (vval (.int .u64 v56))),(16,.dat (vval (.int .u8 i))),(99,.dat (vlst (List.map yy (qn v45)))),(100,.dat (vint ((qn v45).length:Int))),(101,.dat (vint (k57:Int)))]) (fun i=>[]) (fun i=>z6p v46 v49 v53 v55 v56 i=some q58) (fun i=>Z) ?_ ?_)))))))
       ·skip
        refine zx (zb hN Z (qd Z (za (yw Z Z) (qd Z (qa Z Z (fun hc=>zi (.dat _) Z) (za (wx Z (fun hb=>(cnd (c:=(decide (x60=95))) hb)) Z) (qe Z (zg _ Z (fun h70 => ?_) (fun h70 => ?_)))))))))
        ·exact tE h70 H fun H=>zb hN Z (qe Z (yu ⟨(true,v56),H,⟨Z,Z,Z,Z,Z,Z,Z,Z,Z,Z,U⟩,U⟩))
        ·refine fE h70 H fun H=>zb hN Z (qd Z (za (vf Z Z) (qd Z (qa Z Z (fun hc=>zi (.dat _) Z) (qa Z Z (fun hc=>vf (cnd (c:=(decide (48≤x60))) hc) Z) (za (wx Z (fun hb=>(cnd (c:=(decide (48≤x60))) hb)) Z) (qe Z (zg _ Z (fun h71 => ?_) (fun h71 => ?_)))))))))
         ·exact tE h71 H fun H=>zt hN Z (qd Z (za (ye _ Z Z (.inr (.inl ⟨Z,Z⟩))) (qe Z ⟨IntKind.wrap .u8 (x60 - 48),H,⟨Z,Z,Z,Z,Z,Z,Z,Z,Z,Z,Z,U⟩,U⟩)))
         ·refine fE h71 H fun H=>yb (ι:=Bool) (fun i=>[(1,.dat (vint v46)),(8,.dat (zf (decide (v2=0)))),(9,.dat (vstr v1)),(10,.dat (vval (.int .u64 v53))),(11,.dat (vval (.int .u64 (IntKind.wrap .u64 ((shl_ .u64 1 (IntKind.wrap .u64 v49)) - 1))))),(12,.dat (zf v55)),(13,.dat (vval (.int .u64 v56))),(15,.dat (vval (.int .u8 x60))),(99,.dat (vlst (List.map yy (qn v45)))),(100,.dat (vint ((qn v45).length:Int))),(101,.dat (vint (k57:Int))),(121,.dat (zf i))]) (fun i=>[]) (fun i=>z6o v46 v49 v53 v55 v56 x60 i=some q58) (fun i=>Z) ?_ ?_
          ·skip
           refine zt hN Z (qd Z (bE H fun r72 h73 H=>za (zl (kj x60 r72 h73) ⟨.inl Z,U⟩) (za (vf Z Z) (qd Z (yc (j:=3) Z Z (fun h74 => ?_) (fun h74 => ?_) Z)))))
           ·exact u1 h74 H fun h75 H=>zd Z Z h74 (zi (.dat _) Z) (bE H fun r76 h77 H=>zd Z Z h74 (zl (kj x60 r76 h77) ⟨.inl Z,U⟩) (zd Z Z h74 (vf Z Z) (za (zz Z (bTT h75) Z) (qe Z ⟨decide (r76≤122),H,⟨Z,Z,Z,Z,Z,Z,Z,Z,Z,Z,Z,Z,U⟩,U⟩))))
           ·exact u2 h74 H fun h78 H=>zc Z Z h74 (zc Z Z h74 (zc Z Z h74 (za (zv Z (bFF h78) Z) (qe Z ⟨false,H,⟨Z,Z,Z,Z,Z,Z,Z,Z,Z,Z,Z,Z,U⟩,U⟩))))
          ·rintro v79 H
           replace H:z6o v46 v49 v53 v55 v56 x60 v79=some q58:=H
           unfold z6o at H
           refine zg _ Z (fun h80 => ?_) (fun h80 => ?_)
           ·exact tE h80 H fun H=>zt hN Z (qd Z (bE H fun r81 h82 H=>za (zl (kj x60 r81 h82) ⟨.inl Z,U⟩) (za (ye _ Z Z (.inr (.inl ⟨Z,Z⟩))) (za (ye _ Z Z (.inl ⟨Z,Z⟩)) (qe Z ⟨IntKind.wrap .u8 ((IntKind.wrap .u8 (r81 - 97))+10),H,⟨Z,Z,Z,Z,Z,Z,Z,Z,Z,Z,Z,U⟩,U⟩)))))
           ·refine fE h80 H fun H=>zb hN Z (za (yf (u':=verr 2) (kb (show Tryz.prog.underlying 258=some (.int .i64) from by kernel_rfl) Z) Z) ?_)
            refine qe Z (qe Z (zh ?_))
            replace H:=retl H hq58
            cases H
            exact ⟨U,.inl Z,.inl Z,U⟩
       ·rintro v83 H
        replace H:z6p v46 v49 v53 v55 v56 v83=some q58:=H
        unfold z6p at H
        refine ze (zb hN Z (qd Z (qd Z (za (vz tyU3 tyU5 Z) (za (wy Z Z) (zg _ Z (fun h84 => ?_) (fun h84 => ?_)))))))
        ·refine tE h84 H fun H=>zb hN Z (za (yf (u':=verr 2) (kb (show Tryz.prog.underlying 258=some (.int .i64) from by kernel_rfl) Z) Z) ?_)
         refine qe Z (qe Z (zh ?_))
         replace H:=retl H hq58
         cases H
         exact ⟨U,.inl Z,.inl Z,U⟩
        ·refine fE h84 H fun H=>zj (ze (zb hN Z (qd Z (qd Z (za (wy Z Z) (zg _ Z (fun h85 => ?_) (fun h85 => ?_)))))))
         ·refine tE h85 H fun H=>zb hN Z (qd Z (za (yf (u':=verr 1) (kb (show Tryz.prog.underlying 258=some (.int .i64) from by kernel_rfl) Z) Z) ?_))
          refine qe Z (qe Z (zh ?_))
          replace H:=retl H hq58
          cases H
          exact ⟨U,.inl Z,.inl Z,U⟩
         ·refine fE h85 H fun H=>zj (zb hN Z (qd Z (qd Z (za (vz tyU3 uh Z) (za (ye _ Z Z (.inr (.inr ⟨Z,Z⟩))) (qe Z (zb hN Z (qd Z (qd Z (za (vz tyU5 uh Z) (za (ye _ Z Z (.inl ⟨Z,Z⟩)) (qe Z (ze (zb hN Z (qd Z (qd Z (za (zw Z Z) (qd Z (yg Z Z (fun hc=>zi (.dat _) Z) (yg Z Z (fun hc=>zi (.dat _) Z) (yg Z Z (fun hc=>qc (cnd (c:=(!(decide ((IntKind.wrap .u64 ((IntKind.wrap .u64 (v56 * (IntKind.wrap .u64 v46)))+(IntKind.wrap .u64 v83))) < (IntKind.wrap .u64 (v56 * (IntKind.wrap .u64 v46))))))) hc) (cnd (c:=(!(decide ((IntKind.wrap .u64 ((IntKind.wrap .u64 (v56 * (IntKind.wrap .u64 v46)))+(IntKind.wrap .u64 v83))) < (IntKind.wrap .u64 (v56 * (IntKind.wrap .u64 v46))))))) hc)) (za (ve Z Z (fun hb=>(cnd (c:=(!(decide ((IntKind.wrap .u64 ((IntKind.wrap .u64 (v56 * (IntKind.wrap .u64 v46)))+(IntKind.wrap .u64 v83))) < (IntKind.wrap .u64 (v56 * (IntKind.wrap .u64 v46))))))) (notI hb)))) ?_))))))))))))))))))))))
          refine zg _ Z (fun h86 => ?_) (fun h86 => ?_)
          ·refine tE h86 H fun H=>zb hN Z (qd Z (za (yf (u':=verr 1) (kb (show Tryz.prog.underlying 258=some (.int .i64) from by kernel_rfl) Z) Z) ?_))
           refine qe Z (qe Z (zh ?_))
           replace H:=retl H hq58
           cases H
           exact ⟨U,.inl Z,.inl Z,U⟩
          ·exact fE h86 H fun H=>zj (zt hN Z (qd Z (qe Z ⟨(v55,IntKind.wrap .u64 ((IntKind.wrap .u64 (v56 * (IntKind.wrap .u64 v46)))+(IntKind.wrap .u64 v83))),H,⟨Z,Z,Z,Z,Z,Z,Z,Z,Z,Z,U⟩,U⟩)))
      ·rintro ⟨v87,v88⟩ H
       replace H:z6i v87 v88=some q58:=H
       unfold z6i at H
       exact zt hN Z (za (qo Z Z (by omega)) (qd Z ⟨_,yx H,⟨Z,Z,Z,Z,Z,Z,Z,Z,Z,Z,U⟩,U⟩))
theorem y85 (fn s:Bs) (base bits e r:Int) (H:y26 fn s base bits e=some r):Fn Tryz.prog 188 [vstr fn,vstr s,vint base,vint bits,verr e] (zu [verr r]):=by
 obtain ⟨⟨h1,h2,h3⟩,h4⟩:=gif H
 cases h4
 refine uq (by kernel_rfl) fun M w vs hM h => ?_
 rcases h3 with rfl | rfl
 ·have hv:=jw (us:=[.string ⟨fn.toArray⟩,.string ⟨s.toArray⟩,.int .i64 base,.int .i64 bits,.iface 258 (.int .i64 2)]) h
  subst hv
  obtain ⟨tp,p,hc⟩:=w30 hM
  refine (Tryz.strconv_toError_syntax ⟨fn.toArray⟩ ⟨s.toArray⟩ base bits (.iface tp p) w (by simp [ByteArray.size]; omega) hc (.inr ⟨tp,p,Z⟩)).mono ?_
  rintro e w' ⟨N,rfl,_,_,hb⟩
  exact ⟨_,Z,⟨_,_,Z⟩,Kp.of_below hb⟩
 ·have hv:=jw (us:=[.string ⟨fn.toArray⟩,.string ⟨s.toArray⟩,.int .i64 base,.int .i64 bits,.iface 258 (.int .i64 1)]) h
  subst hv
  obtain ⟨tp,p,hc⟩:=w31 hM
  refine (Tryz.strconv_toError_range ⟨fn.toArray⟩ ⟨s.toArray⟩ base bits (.iface tp p) w (by simp [ByteArray.size]; omega) hc (.inr ⟨tp,p,Z⟩)).mono ?_
  rintro e w' ⟨N,rfl,_,_,hb⟩
  exact ⟨_,Z,⟨_,_,Z⟩,Kp.of_below hb⟩
theorem x9l (s1:Bs) (base2:Int) (bitSize3:Int) (r:(Int×Int)) (H:y27 s1 base2 bitSize3=some r):Fn Tryz.prog 139 [vstr s1,vint base2,vint bitSize3] (zu [vval (.int .u64 r.1),verr r.2]):=by
 refine ⟨by kernel_rfl,zy (us:=[vval (.int .u64 r.1),verr r.2]) Tryz.func139 Z Z Z Z fun X hN => ?_⟩
 unfold y27 at H
 refine zb hN Z (qe Z (qe Z (zb hN Z (qd Z (qd Z (qd Z (bE H fun r4 h5 H=>za (zl (y9h s1 base2 bitSize3 r4 h5) ⟨.inl Z,.inl Z,.inl Z,U⟩) (qd Z (za (ya Z Z) (za (ya Z Z) (qe Z (qe Z (ze (zb hN Z (qd Z (za (z8c (n:=r4.2) (show Tryz.prog.underlying 140=some (.interface (Tryz.prog.methodsAt 140)) from by kernel_rfl) Z) ?_))))))))))))))))
 refine zg _ Z (fun h6 => ?_) (fun h6 => ?_)
 ·refine tE h6 H fun H=>zb hN Z (qd Z (qd Z (qd Z (qd Z (qd Z (bE H fun r7 h8 H=>za (zl (y85 [80,97,114,115,101,85,105,110,116] s1 base2 bitSize3 r4.2 r7 h8) ⟨.inl Z,.inl Z,.inl Z,.inl Z,.inl Z,U⟩) (qe Z (qe Z (zh ?_)))))))))
  cases H
  exact ⟨U,.inl Z,.inl Z,U⟩
 ·refine fE h6 H fun H=>zj (zb hN Z (qd Z (qe Z (qe Z (zh ?_)))))
  cases H
  exact ⟨U,.inl Z,.inl Z,U⟩
theorem x9t (s1:Bs) (v2:Int) (r:(Int)) (H:y3a s1 v2=some r):Fn Tryz.prog 91 [vstr s1,vint v2] (zu [vval (.int .u8 r)]):=by
 refine ⟨by kernel_rfl,zy (us:=[vval (.int .u8 r)]) Tryz.func91 Z Z Z Z fun X hN => ?_⟩
 unfold y3a at H
 refine zb hN Z (qe Z (zb hN Z (qd Z (qd Z (za (ye _ Z Z (.inl ⟨Z,Z⟩)) (qd Z (za (ye _ Z Z (.inl ⟨Z,Z⟩)) (bE H fun l3 h4 H=>za (ji tyU9 Z Z Z h4) (bE H fun r5 h6 H=>za (zl (x9l l3 16 8 r5 h6) ⟨.inl Z,.inl Z,.inl Z,U⟩) (qd Z (za (ya Z Z) (za (ya Z Z) (qe Z (qe Z (ze (zb hN Z (qd Z (za (z8c (n:=r5.2) (show Tryz.prog.underlying 140=some (.interface (Tryz.prog.methodsAt 140)) from by kernel_rfl) Z) ?_))))))))))))))))))
 refine zg _ Z (fun h7 => ?_) (fun h7 => ?_)
 ·refine tE h7 H fun H=>zb hN Z (qe Z (zh ?_))
  cases H
  exact ⟨U,.inl Z,U⟩
 ·refine fE h7 H fun H=>zj (zb hN Z (qd Z (za (vz uh tyU5 Z) (qe Z (zh ?_)))))
  cases H
  exact ⟨U,.inl Z,U⟩
theorem y38 (c1:Int) (r:(Bool)) (H:z5l c1=some r):Fn Tryz.prog 140 [vval (.int .u8 c1)] (zu [zf r]):=by
 refine ⟨by kernel_rfl,zy (us:=[zf r]) Tryz.func140 Z Z Z Z fun X hN => ?_⟩
 unfold z5l at H
 refine zb hN Z (qe Z (zb hN Z (qd Z (za (wy Z Z) (qd Z (qa Z Z (fun hc=>zi (.dat _) Z) (qa Z Z (fun hc=>vf (cnd (c:=(decide (97≤c1))) hc) Z) (za (wx Z (fun hb=>(cnd (c:=(decide (97≤c1))) hb)) Z) (qd Z (yg Z Z (fun hc=>zi (.dat _) Z) (yg Z Z (fun hc=>wy (cnd (c:=(!((decide (97≤c1)) && (decide (c1≤122))))) hc) Z) (yg Z Z (fun hc=>zi (.dat _) (cnd (c:=(!((decide (97≤c1)) && (decide (c1≤122))))) hc)) (qu Z Z (fun hc=>zi (.dat _) Z) (qu Z Z (fun hc=>vf (cnd (c:=((!((decide (97≤c1)) && (decide (c1≤122)))) && (decide (65≤c1)))) hc) Z) (yg Z Z (fun hc=>wx (cnd (c:=(!((decide (97≤c1)) && (decide (c1≤122))))) hc) (fun hb=>(cnd (c:=((!((decide (97≤c1)) && (decide (c1≤122)))) && (decide (65≤c1)))) (andI hc hb))) Z) (za (ve Z Z (fun hb=>(cnd (c:=(!((decide (97≤c1)) && (decide (c1≤122))))) (notI hb)))) (qe Z (zh ?_))))))))))))))))))
 cases H
 exact ⟨U,.inl Z,U⟩
theorem y32 (l:Bs) (c r:Int) (H:Yk l c=some r):Fn Tryz.prog 142 [vstr l,vval (.int .u8 c)] (zu [vint r]):=by
 cases H
 refine y0f (by kernel_rfl) fun M w vs h => ?_
 have h1:=jw (us:=[.string ⟨l.toArray⟩,.int .u8 c]) h
 subst h1
 refine (Tryz.strings_IndexByte ⟨l.toArray⟩ c w).mono ?_
 rintro e w' ⟨rfl,rfl⟩
 exact ⟨_,Z,Z,Kp.refl _ _⟩
theorem x92 (c1:Int) (r:(Bool)) (H:y3e c1=some r):Fn Tryz.prog 92 [vval (.int .u8 c1)] (zu [zf r]):=by
 refine ⟨by kernel_rfl,zy (us:=[zf r]) Tryz.func92 Z Z Z Z fun X hN => ?_⟩
 unfold y3e at H
 refine zb hN Z (qe Z (yb (ι:=Bool) (fun i=>[(2,.dat (zf i))]) (fun i=>[]) (fun i=>z1i i=some r) (fun i=>Z) ?_ ?_))
 ·skip
  refine zt hN Z (qd Z (bE H fun r2 h3 H=>za (zl (y38 c1 r2 h3) ⟨.inl Z,U⟩) (qd Z (yc (j:=2) Z Z (fun h4 => ?_) (fun h4 => ?_) Z))))
  ·refine u3 h4 H fun h5 H=>zd Z Z h4 (zi (.dat _) Z) (bE H fun r6 h7 H=>zd Z Z h4 (zl (z90 c1 r6 h7) ⟨.inl Z,U⟩) (za (zv Z (bFF h5) Z) (qd Z (yc (j:=6) Z Z (fun h8 => ?_) (fun h8 => ?_) Z))))
   ·exact u3 h8 H fun h9 H=>zd Z Z h8 (zi (.dat _) Z) (bE H fun r10 h11 H=>zd Z Z h8 (zl (y32 [45,46,95,126] c1 r10 h11) ⟨.inl Z,.inl Z,U⟩) (zd Z Z h8 (wy Z Z) (za (zv Z (bFF h9) Z) (qe Z ⟨decide (0≤r10),H,⟨Z,U⟩,U⟩))))
   ·exact u4 h8 H fun h12 H=>zc Z Z h8 (zc Z Z h8 (zc Z Z h8 (za (zz Z (bTT h12) Z) (qe Z ⟨true,H,⟨Z,U⟩,U⟩))))
  ·exact u4 h4 H fun h13 H=>zc Z Z h4 (zc Z Z h4 (za (zz Z (bTT h13) Z) (qd Z (zc Z Z Z (zc Z Z Z (zc Z Z Z (za (zz Z Z Z) (qe Z ⟨true,H,⟨Z,U⟩,U⟩))))))))
 ·rintro v14 H
  replace H:z1i v14=some r:=H
  unfold z1i at H
  refine zh ?_
  cases H
  exact ⟨U,.inl Z,U⟩
theorem x9v (c1:Int) (r:(Bs)) (H:y3b c1=some r):Fn Tryz.prog 94 [vval (.int .u8 c1)] (zu [vstr r]):=by
 refine ⟨by kernel_rfl,zy (us:=[vstr r]) Tryz.func94 Z Z Z Z fun X hN => ?_⟩
 unfold y3b at H
 refine zb hN Z (qe Z (ze (wq mixed hN Z Z (qd Z (za (yf (z35 Z Z (by decide)) Z) (bE H fun x2 h3 H=>za (z05 tyU9 Z Z h3) (qd Z (za (yf (z8d Z Z) Z) (bE H fun x4 h5 H=>za (z05 tyU9 Z Z h5) (za (yf (u':=vlst (List.map yy [37,(x2.toNat:Int),(x4.toNat:Int)])) (wo [[_],[_],[_]] Qb ⟨Z,.inl ⟨_,Z,Z,Z⟩,Z,Z,.inl ⟨_,Z,Z,Z⟩,Z,Z,.inl ⟨_,Z,Z,Z⟩,Z,U⟩ Z Z) Z) (za (z36 (C:=yy) xq tyU5 tyU9 (fun _=>Z) Z) (qe Z ⟨Z,?_⟩))))))))))))
 refine zh ?_
 cases H
 exact ⟨U,.inl Z,U⟩
theorem x8d (l1:(List Int)) (s2:Bs) (r:(Int×Int×(List Int))) (H:y25 l1 s2=some r):FnG Tryz.prog 93 [.ptr 0 0,.dat (vstr s2)] [(0,.box (some 0) 138 [.nptr 0,.row 1 l1.length]),(1,.row 5 1 (List.map yy l1))] (.dat (zu [vint r.1,verr r.2.1])) [(0,.box (some 0) 138 [.nptr 0,.row 900 r.2.2.length]),(900,.row 5 1 (List.map yy r.2.2))]:=by
 refine z6u (by kernel_rfl) Tryz.func93 Z Z Z Z fun X A hN => ?_
 refine ut ?_
 unfold y25 at H
 refine zb hN Z (qe Z (qe Z (zb hN Z (za (zi (.ptr _ _) Z) (zk (y63 x02 Z) Z (zb hN Z (za (zi (.ptr _ _) Z) (za (zi (.ptr _ _) Z) (za (qp Z) (za (zo z7p Z) (zp (zr z7k Z Z) Z (qd Z (gE H fun h3 H=>zk (x38 (C:=yy) (fun _=>Z) (show tyB8 Tryz.prog 113 9 5 from ⟨by kernel_rfl,by kernel_rfl,by kernel_rfl⟩) Z Z Z h3) Z ?_)))))))))))))
 refine za (qp Z) (za (zo z7p Z) (y2m (y13 z7k Z Z (by rw [List.length_map]) Z) Z Z ?_))
 refine zb hN Z (qd Z (za (qj tyU9 Z) (qe Z (qe Z (zh ?_)))))
 cases H
 show Cv _ _ _ _
 exact kq (rn [(1,900)]) [(4,.dat (vint (s2.length:Int))),(5,.dat (verr 0))] [(0,.box (some (A.bl 0)) 138 [.nptr 0,.row 1 ((l1++qn s2).length)]),(1,.row 5 1 (List.map yy (l1++qn s2)))] ⟨Z,Z,U⟩ ⟨Z,Z,U⟩ Z Z ⟨U,[(4,.dat (vint (s2.length:Int))),(5,.dat (verr 0))],⟨Z,Z,U⟩,⟨Z,Z,U⟩,Z,.inl ⟨[vint (s2.length:Int),verr 0],⟨Z,Z,U⟩,Z⟩⟩
theorem x9w (s1:Bs) (r:(Bs×Bool)) (H:z5i s1=some r):Fn Tryz.prog 55 [vstr s1] (zu [vstr r.1,zf r.2]):=by
 refine ⟨by kernel_rfl,zy (us:=[vstr r.1,zf r.2]) Tryz.func55 Z Z Z Z fun X hN => ?_⟩
 unfold z5i at H
 refine zb hN Z (qe Z (qe Z (zb hN Z (zk (qr 1 x2g Z) Z (w3c 1 0 (.nptr 1) Z Z x7h (x1a 1 1 2 5 1 Z Z Z Z (yb (ι:=(List Int)) (fun i=>[(4,.ptr 1 0)]) (fun i=>[(1,.box none 138 [.nptr 1,.row 2 i.length]),(2,.row 5 1 (List.map yy i))]) (fun i=>z8v i=some r) (fun i=>Z) ?_ ?_)))))))
 ·refine ut (zb hN Z (qe Z (zx (Zr (fun (s:Int×(List Int))=>[(0,.dat (vstr s1)),(4,.ptr 1 0),(5,.dat (vint s.1))]) (fun (s:Int×(List Int))=>[(1,.box none 138 [.nptr 1,.row 2 s.2.length]),(2,.row 5 1 (List.map yy s.2))]) (0,([]:List Int)) H ⟨Z,Z,Z,U⟩ ⟨Z,Z,U⟩ (fun _=>Z) ?_))))
  rintro ⟨i2,l3⟩ q4 H hq4
  replace H:y2x s1 i2 l3=some q4:=H
  unfold y2x at H
  refine ut (ze (zb hN Z (qd Z (qd Z (za (qj tyU9 Z) (za (zw Z Z) (zg _ Z (fun h5 => ?_) (fun h5 => ?_))))))))
  ·refine tE h5 H fun H=>zj (yb (ι:=Int×(List Int)) (fun i=>[(0,.dat (vstr s1)),(4,.ptr 1 0),(5,.dat (vint i.1))]) (fun i=>[(1,.box none 138 [.nptr 1,.row 7 i.2.length]),(7,.row 5 1 (List.map yy i.2))]) (fun i=>z4m i.1 i.2=some q4) (fun i=>Z) ?_ ?_)
   ·refine ut (zx (ze (zb hN Z (qd Z (qd Z (bE H fun x6 h7 H=>za (ka tyU9 Z Z h7) (za (ql Z Z) (zg _ Z (fun h8 => ?_) (fun h8 => ?_)))))))))
    ·refine tE h8 H fun H=>zb hN Z (qd Z (qd Z (za (ka tyU9 Z Z h7) (bE H fun r9 h10 H=>ky (rn [(0,1),(1,2),(900,3)]) [(0,_,_,some _),(1,_,_,none)] [(900,_)] (y8z l3 (x6.toNat:Int) r9 h10) ⟨Z,Z,Z,U⟩ ⟨.inl (.inl Z),.inl (.inl Z),U⟩ ⟨⟨⟨Z,Z⟩,U⟩,⟨⟨Z,Z,Z⟩,U⟩,U⟩ Z (yu ?_)))))
     show Cv _ _ _ _
     exact kq (rn [(3,7)]) [(0,.dat (vstr s1)),(4,.ptr 1 0),(5,.dat (vint i2))] [(1,.box none 138 [.nptr 1,.row 3 r9.2.length]),(3,.row 5 1 (List.map yy r9.2))] ⟨Z,Z,Z,U⟩ ⟨Z,Z,U⟩ Z Z ⟨(i2,r9.2),H,⟨Z,Z,Z,U⟩,⟨Z,Z,U⟩⟩
    ·refine fE h8 H fun H=>zj (ze (zb hN Z (qd Z (qd Z (bE H fun r11 h12 H=>za (zl (x9x s1 i2 r11 h12) ⟨.inl Z,.inl Z,U⟩) (za (yt Z) (zg _ Z (fun h13 => ?_) (fun h13 => ?_))))))))
     ·refine tE h13 H fun H=>zb hN Z (qe Z (qe Z (zh ?_)))
      replace H:=retl H hq4
      cases H
      show Cv _ _ _ _
      refine xm ?_
      show Cv _ _ _ _
      refine xm ?_
      show Cv _ _ _ _
      exact xm ⟨U,.inl Z,.inl Z,U⟩
     ·refine fE h13 H fun H=>zj (yb (ι:=(List Int)) (fun i=>[(0,.dat (vstr s1)),(4,.ptr 1 0),(5,.dat (vint i2))]) (fun i=>[(1,.box none 138 [.nptr 1,.row 6 i.length]),(6,.row 5 1 (List.map yy i))]) (fun i=>z4l i2 i=some q4) (fun i=>Z) ?_ ?_)
      ·refine ut (zb hN Z (qd Z (qd Z (bE H fun r14 h15 H=>za (zl (x9t s1 i2 r14 h15) ⟨.inl Z,.inl Z,U⟩) (qe Z (zb hN Z (qd Z (bE H fun r16 h17 H=>za (zl (x92 r14 r16 h17) ⟨.inl Z,U⟩) (zg _ Z (fun h18 => ?_) (fun h18 => ?_))))))))))
       ·refine tE h18 H fun H=>zt hN Z (qd Z (bE H fun r19 h20 H=>ky (rn [(0,1),(1,2),(900,4)]) [(0,_,_,some _),(1,_,_,none)] [(900,_)] (y8z l3 r14 r19 h20) ⟨Z,Z,Z,U⟩ ⟨.inl (.inl Z),.inl (.inl Z),U⟩ ⟨⟨⟨Z,Z⟩,U⟩,⟨⟨Z,Z,Z⟩,U⟩,U⟩ Z (xx ?_)))
        show Cv _ _ _ _
        exact kq (rn [(4,6)]) [(0,.dat (vstr s1)),(4,.ptr 1 0),(5,.dat (vint i2))] [(1,.box none 138 [.nptr 1,.row 4 r19.2.length]),(4,.row 5 1 (List.map yy r19.2))] ⟨Z,Z,Z,U⟩ ⟨Z,Z,U⟩ Z Z ⟨r19.2,H,⟨Z,Z,Z,U⟩,⟨Z,Z,U⟩⟩
       ·refine fE h18 H fun H=>zt hN Z (qd Z (bE H fun r21 h22 H=>za (zl (x9v r14 r21 h22) ⟨.inl Z,U⟩) (bE H fun r23 h24 H=>ky (rn [(0,1),(1,2),(900,5)]) [(0,_,_,some _),(1,_,_,none)] [(900,_)] (x8d l3 r21 r23 h24) ⟨Z,Z,Z,U⟩ ⟨.inl (.inl Z),.inl (.inl Z),U⟩ ⟨⟨⟨Z,Z⟩,U⟩,⟨⟨Z,Z,Z⟩,U⟩,U⟩ Z (xx ?_))))
        show Cv _ _ _ _
        exact kq (rn [(5,6)]) [(0,.dat (vstr s1)),(4,.ptr 1 0),(5,.dat (vint i2))] [(1,.box none 138 [.nptr 1,.row 5 r23.2.2.length]),(5,.row 5 1 (List.map yy r23.2.2))] ⟨Z,Z,Z,U⟩ ⟨Z,Z,U⟩ Z Z ⟨r23.2.2,H,⟨Z,Z,Z,U⟩,⟨Z,Z,U⟩⟩
      ·rintro l25 H
       replace H:z4l i2 l25=some q4:=H
       unfold z4l at H
       refine zt hN Z (qd Z (za (ye _ Z Z (.inl ⟨Z,Z⟩)) (qe Z (xx ?_))))
       show Cv _ _ _ _
       exact kq (rn [(6,7)]) [(0,.dat (vstr s1)),(4,.ptr 1 0),(5,.dat (vint (wr (i2+2))))] [(1,.box none 138 [.nptr 1,.row 6 l25.length]),(6,.row 5 1 (List.map yy l25))] ⟨Z,Z,Z,U⟩ ⟨Z,Z,U⟩ Z Z ⟨(wr (i2+2),l25),H,⟨Z,Z,Z,U⟩,⟨Z,Z,U⟩⟩
   ·rintro ⟨i26,l27⟩ H
    replace H:z4m i26 l27=some q4:=H
    unfold z4m at H
    refine zt hN Z (qd Z (za (ye _ Z Z (.inl ⟨Z,Z⟩)) (qe Z (xx ?_))))
    show Cv _ _ _ _
    exact kq (rn [(7,2)]) [(0,.dat (vstr s1)),(4,.ptr 1 0),(5,.dat (vint (wr (i26+1))))] [(1,.box none 138 [.nptr 1,.row 7 l27.length]),(7,.row 5 1 (List.map yy l27))] ⟨Z,Z,Z,U⟩ ⟨Z,Z,U⟩ Z Z ⟨_,yx H,⟨Z,Z,Z,U⟩,⟨Z,Z,U⟩⟩
  ·refine fE h5 H fun H=>yu ?_
   replace H:=outl H hq4
   show Cv _ _ _ _
   refine xm ?_
   show Cv _ _ _ _
   exact xm ⟨l3,H,⟨Z,U⟩,⟨Z,Z,U⟩⟩
 ·rintro l28 H
  replace H:z8v l28=some r:=H
  unfold z8v at H
  refine zb hN Z (gE H fun h29 H=>ky (rn [(0,1),(1,2)]) [(0,_,_,none),(1,_,_,none)] [] (x8c h29 (C:=yy) (fun _=>Z)) ⟨Z,Z,U⟩ ⟨.inl (.inl Z),U⟩ ⟨⟨⟨Z,Z⟩,U⟩,⟨⟨Z,Z,Z⟩,U⟩,U⟩ Z (qe Z (qe Z (zh ?_))))
  cases H
  exact ⟨U,.inl Z,.inl Z,U⟩
theorem y31 (l:List Bs) (sep r:Bs) (H:ua l sep=some r):Fn Tryz.prog 57 [vlst (List.map zn l),vstr sep] (zu [vstr r]):=by
 obtain ⟨h1,h2,rfl⟩:=w0w H
 refine uq (by kernel_rfl) fun M w vs hM h => ?_
 obtain ⟨hl,hv⟩:=h
 obtain ⟨a,ha,hap⟩:=hv 0 _ rfl
 obtain ⟨s,hs,hsp⟩:=hv 1 _ rfl
 have hsp:s = .string ⟨sep.toArray⟩:=hsp
 subst hsp
 have hvs:vs.toArray = #[a,.string ⟨sep.toArray⟩]:=by
  rcases vs with _ | ⟨x,_ | ⟨y,_ | ⟨z,t⟩⟩⟩
  ·cases ha
  ·cases hs
  ·cases ha; cases hs; rfl
  ·simp at hl
 rw [hvs]
 obtain ⟨A,c,q1,q2,q3⟩:=hap
 simp only [List.length_map] at q1 q2
 subst q1
 by_cases hne:l=[]
 ·subst hne
  refine (Tryz.strings_Join_none A c ⟨sep.toArray⟩ w).mono ?_
  rintro e w' ⟨rfl,rfl⟩
  exact ⟨_,Z,Z,Kp.refl _ _⟩
 ·obtain ⟨b,off,size,rfl,hMb,arr,t,fz,q5,q6,q7⟩:=q3 (by simpa using hne)
  have hsz:size=1:=by
   cases hq:l with
   | nil=>exact absurd hq hne
   | cons x l'=>have:=q6 (zn x) (by rw [hq]; simp); simpa using this.symm
  subst hsz
  have e1:((l.map fun x=>ByteArray.mk x.toArray).map (·.data.toList))=l:=by
   rw [List.map_map]
   exact (List.map_congr_left fun x _=>Z).trans (List.map_id l)
  have hj:=Tryz.strings_Join b off c (l.map fun x=>ByteArray.mk x.toArray) ⟨sep.toArray⟩ w (fun j x hx=>by
   rw [List.getElem?_map] at hx
   cases hq:l[j]? with
   | none=>rw [hq] at hx; cases hx
   | some y =>
    rw [hq] at hx
    cases hx
    obtain ⟨v,r1,r2,_⟩:=q7 j 0 (zn y) (vstr y) (by rw [List.getElem?_map,hq]; rfl) rfl
    have r2:v = .string ⟨y.toArray⟩:=r2
    rw [cell_of_row w b _ _ _ _ q5]
    simp only [Nat.mul_one,Nat.add_zero] at r1
    rw [r1,r2]) (jc q5) (by simp; omega) (by simpa using q2) (by rw [e1]; simp only; omega)
  rw [List.length_map,e1] at hj
  refine hj.mono ?_
  rintro e w' ⟨rfl,hb⟩
  exact ⟨_,Z,Z,Kp.of_below hb⟩
end Go.Proofs.YtbndlmnjeofkdadGreatDoor
