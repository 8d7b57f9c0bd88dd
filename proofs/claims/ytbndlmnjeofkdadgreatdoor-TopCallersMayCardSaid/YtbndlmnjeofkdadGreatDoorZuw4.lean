/- Walks along the models. Printed by a program. -/
import Derived.Test.YtbndlmnjeofkdadGreatDoorZuw3
namespace Go.Proofs.YtbndlmnjeofkdadGreatDoor
open Go.RowKit
set_option linter.unusedVariables false
set_option maxRecDepth 100000
set_option maxHeartbeats 2000000
theorem y39 (s1:Bs) (most2:Int) (r:(Int×Bool)) (H:xf s1 most2=some r):Fn Tryz.prog 162 [vstr s1,vint most2] (zu [vint r.1,zf r.2]):=by
 refine ⟨by kernel_rfl,zy (us:=[vint r.1,zf r.2]) Tryz.func162 Z Z Z Z fun X hN => ?_⟩
 unfold xf at H
 refine zb hN Z (qe Z (qe Z (zb hN Z (qd Z (bE H fun r3 h4 H=>za (zl (x9f s1 [45] r3 h4) ⟨.inl Z,.inl Z,U⟩) (qe Z (ze (yb (ι:=Bool) (fun i=>[(0,.dat (vstr s1)),(6,.dat (vstr r3)),(28,.dat (zf i))]) (fun i=>[]) (fun i=>ki s1 r3 i=some r) (fun i=>Z) ?_ ?_))))))))
 ·skip
  refine zt hN Z (qd Z (za (vd Z Z) (qd Z (yc (j:=2) Z Z (fun h5 => ?_) (fun h5 => ?_) Z))))
  ·refine u3 h5 H fun h6 H=>zd Z Z h5 (zi (.dat _) Z) (zd Z Z h5 (qj tyU9 Z) (zd Z Z h5 (zi (.dat _) Z) (zd Z Z h5 (qc Z Z) (za (zv Z (bFF h6) Z) (qd Z (yc (j:=8) Z Z (fun h7 => ?_) (fun h7 => ?_) Z))))))
   ·refine u3 h7 H fun h8 H=>zd Z Z h7 (zi (.dat _) Z) (bE H fun x9 h10 H=>zd Z Z h7 (wg tyU9 Z Z h10) (zd Z Z h7 (yw Z Z) (zd Z Z h7 (zi (.dat _) Z) (yc (j:=12) Z Z (fun h11 => ?_) (fun h11 => ?_) Z))))
    ·exact u1 h11 H fun h12 H=>zd Z Z h11 (zi (.dat _) Z) (zd Z Z h11 (js Z Z) (zd Z Z h7 (zz Z (bTT h12) Z) (za (zv Z (bFF h8) Z) ⟨decide (s1≠[48]),H,⟨Z,Z,Z,U⟩,U⟩)))
    ·exact u2 h11 H fun h13 H=>zc Z Z h11 (zc Z Z h11 (zd Z Z h7 (zv Z (bFF h13) Z) (za (zv Z (bFF h8) Z) ⟨false,H,⟨Z,Z,Z,U⟩,U⟩)))
   ·exact u4 h7 H fun h14 H=>zc Z Z h7 (zc Z Z h7 (zc Z Z h7 (zc Z Z h7 (yd Z Z (yd Z Z (zc Z Z h7 (za (zz Z (bTT h14) Z) ⟨true,H,⟨Z,Z,Z,U⟩,U⟩)))))))
  ·exact u4 h5 H fun h15 H=>zc Z Z h5 (zc Z Z h5 (zc Z Z h5 (zc Z Z h5 (za (zz Z (bTT h15) Z) (qd Z (zc Z Z Z (zc Z Z Z (zc Z Z Z (zc Z Z Z (yd Z Z (yd Z Z (zc Z Z Z (za (zz Z Z Z) ⟨true,H,⟨Z,Z,Z,U⟩,U⟩)))))))))))))
 ·rintro v16 H
  replace H:ki s1 r3 v16=some r:=H
  unfold ki at H
  refine zg _ Z (fun h17 => ?_) (fun h17 => ?_)
  ·refine tE h17 H fun H=>zb hN Z (qe Z (qe Z (zh ?_)))
   cases H
   exact ⟨U,.inl Z,.inl Z,U⟩
  ·refine fE h17 H fun H=>zj (ze (zb hN Z (qe Z (zx (gE H fun h20 H=>wd (fun (i18:Nat) (s:Unit)=>[(0,.dat (vstr s1)),(6,.dat (vstr r3)),(7,.dat (vint (i18:Int)))]) (fun (i18:Nat) (s:Unit)=>[]) () H ⟨Z,Z,Z,U⟩ U (fun _ _=>Z) ?_ ?_)))))
   ·rintro ⟨⟩ H
    replace H:z2e s1=some r:=H
    unfold z2e at H
    refine ze (zb hN Z (qd Z (qd Z (za (qj tyU9 Z) (za (zw Z Z) (zg _ Z (fun h=>(lt_t h).elim) (fun h => ?_)))))))
    refine yu (zb hN Z (qd Z (bE H fun r22 h23 H=>za (zl (x9n s1 r22 h23) ⟨.inl Z,U⟩) (qd Z (za (ya Z Z) (za (ya Z Z) (qe Z (qe Z (ze (wq mixed hN Z Z (qd Z (qd Z (za (x44 (n:=r22.2) (show Tryz.prog.underlying 140=some (.interface (Tryz.prog.methodsAt 140)) from by kernel_rfl) Z) ?_)))))))))))))
    refine qe Z (qe Z ⟨Z,?_⟩)
    refine zh ?_
    cases H
    exact ⟨U,.inl Z,.inl Z,U⟩
   ·rintro i18 x21 ⟨⟩ q19 h24 h25 H hq19
    replace H:z6a i18 x21=some q19:=H
    unfold z6a at H
    refine ze (zb hN Z (qd Z (qd Z (za (qj tyU9 Z) (za (zw Z Z) (zg _ Z (fun h => ?_) (fun h=>(lt_f h24 h).elim)))))))
    refine zj (ze (zx (yb (ι:=Bool) (fun i=>[(0,.dat (vstr s1)),(6,.dat (vstr r3)),(7,.dat (vint (i18:Int))),(44,.dat (zf i))]) (fun i=>[]) (fun i=>z6b i=some q19) (fun i=>Z) ?_ ?_)))
    ·skip
     refine zt hN Z (qd Z (qd Z (za (wg tyU9 Z Z h25) (za (zw Z Z) (qd Z (yc (j:=4) Z Z (fun h26 => ?_) (fun h26 => ?_) Z))))))
     ·exact u3 h26 H fun h27 H=>zd Z Z h26 (zi (.dat _) Z) (zd Z Z h26 (zi (.dat _) Z) (zd Z Z h26 (wg tyU9 Z Z h25) (zd Z Z h26 (qc Z Z) (za (zv Z (bFF h27) Z) ⟨decide (57 < (x21.toNat:Int)),H,⟨Z,Z,Z,Z,U⟩,U⟩))))
     ·exact u4 h26 H fun h28 H=>zc Z Z h26 (zc Z Z h26 (zc Z Z h26 (zc Z Z h26 (za (zz Z (bTT h28) Z) ⟨true,H,⟨Z,Z,Z,Z,U⟩,U⟩))))
    ·rintro v29 H
     replace H:z6b v29=some q19:=H
     unfold z6b at H
     refine zg _ Z (fun h30 => ?_) (fun h30 => ?_)
     ·refine tE h30 H fun H=>zb hN Z (qe Z (qe Z (zh ?_)))
      replace H:=retl H hq19
      cases H
      exact ⟨U,.inl Z,.inl Z,U⟩
     ·exact fE h30 H fun H=>zj (zt hN Z (qd Z (za (qo Z Z (by omega)) (qe Z ⟨_,yx H,⟨Z,Z,Z,U⟩,U⟩))))
theorem y9e (s1:Bs) (r:(Int×Bool)) (H:z5p s1=some r):Fn Tryz.prog 115 [vstr s1] (zu [vint r.1,zf r.2]):=by
 refine ⟨by kernel_rfl,zy (us:=[vint r.1,zf r.2]) Tryz.func115 Z Z Z Z fun X hN => ?_⟩
 unfold z5p at H
 refine zb hN Z (qe Z (qe Z (zb hN Z (qd Z (bE H fun r2 h3 H=>za (zl (y39 s1 9 r2 h3) ⟨.inl Z,.inl Z,U⟩) (za (ya Z Z) (za (ya Z Z) (qe Z (qe Z (zh ?_))))))))))
 cases H
 exact ⟨U,.inl Z,.inl Z,U⟩
theorem w0q (s1:Bs) (r:(Int×Bool)) (H:z50 s1=some r):Fn Tryz.prog 147 [vstr s1] (zu [vint r.1,zf r.2]):=by
 refine ⟨by kernel_rfl,zy (us:=[vint r.1,zf r.2]) Tryz.func147 Z Z Z Z fun X hN => ?_⟩
 unfold z50 at H
 refine zb hN Z (qe Z (qe Z (zb hN Z (qd Z (bE H fun r2 h3 H=>za (zl (y9e s1 r2 h3) ⟨.inl Z,U⟩) (qd Z (za (ya Z Z) (za (ya Z Z) (qe Z (qe Z (yb (ι:=Bool) (fun i=>[(2,.dat (vint r2.1)),(3,.dat (zf i))]) (fun i=>[]) (fun i=>z23 r2 i=some r) (fun i=>Z) ?_ ?_)))))))))))
 ·skip
  refine zt hN Z (qd Z (qd Z (qd Z (yc (j:=2) Z Z (fun h4 => ?_) (fun h4 => ?_) Z))))
  ·exact u1 h4 H fun h5 H=>zd Z Z h4 (zi (.dat _) Z) (bE H fun r6 h7 H=>zd Z Z h4 (zl (Zk r2.1 0 100000000 r6 h7) ⟨.inl Z,.inl Z,.inl Z,U⟩) (zd Z Z h4 (yt Z) (za (zz Z (bTT h5) Z) (qe Z (qe Z ⟨!r6,H,⟨Z,Z,U⟩,U⟩)))))
  ·exact u2 h4 H fun h8 H=>zc Z Z h4 (zc Z Z h4 (zc Z Z h4 (za (zv Z (bFF h8) Z) (qe Z (qe Z ⟨false,H,⟨Z,Z,U⟩,U⟩)))))
 ·rintro v9 H
  replace H:z23 r2 v9=some r:=H
  unfold z23 at H
  refine zh ?_
  cases H
  exact ⟨U,.inl Z,.inl Z,U⟩
theorem y83 (s:Bs) (r:Bs) (H:Zg s=some r):Fn Tryz.prog 101 [vstr s] (zu [vstr r]):=by
 unfold Zg at H
 obtain ⟨⟨h1,h2⟩,h3⟩:=gif H
 cases h3
 refine uq (by kernel_rfl) fun M w vs hM h => ?_
 have hv:=jw (us:=[.string ⟨s.toArray⟩]) h
 subst hv
 refine (Tryz.strings_ToLower_ascii ⟨s.toArray⟩ w (by simp [ByteArray.size]; omega) (fun j b hb=>z26 h2 j b (by simpa using hb))).mono ?_
 rintro e w' ⟨rfl,hb⟩
 exact ⟨_,Z,Z,Kp.of_below hb⟩

theorem w0t (qb:Nat) (r:((List Bs)×(List Int))) (H:z9n  = some r):Fn Tryz.prog 148 [vval (.pointer (some ⟨qb,0,none⟩))] (zu [vlst (List.map zn r.1),vlst (List.map (CP qb) r.2)]):=by
 refine ⟨by kernel_rfl,zy (us:=[vlst (List.map zn r.1),vlst (List.map (CP qb) r.2)]) Tryz.func148 Z Z Z Z fun X hN => ?_⟩
 unfold z9n at H
 refine zb hN Z (qe Z (qe Z (ze (wq mixed hN Z Z (za (yf (u':=vlst (List.map zn [[110,111,45,115,116,111,114,101],[110,111,45,99,97,99,104,101],[112,114,105,118,97,116,101],[112,117,98,108,105,99],[109,117,115,116,45,114,101,118,97,108,105,100,97,116,101],[111,110,108,121,45,105,102,45,99,97,99,104,101,100]])) (wo [[_],[_],[_],[_],[_],[_]] wz ⟨Z,.inl ⟨_,Z,Z,Z⟩,Z,Z,.inl ⟨_,Z,Z,Z⟩,Z,Z,.inl ⟨_,Z,Z,Z⟩,Z,Z,.inl ⟨_,Z,Z,Z⟩,Z,Z,.inl ⟨_,Z,Z,Z⟩,Z,Z,.inl ⟨_,Z,Z,Z⟩,Z,U⟩ Z Z) Z) (qd Z (za (kw Z) (za (kx x3k Z) (qd Z (za (kw Z) (za (kx y6f Z) (qd Z (za (kw Z) (za (kx x3h Z) (qd Z (za (kw Z) (za (kx x3g Z) (qd Z (za (kw Z) (za (kx x3f Z) (qd Z (za (kw Z) (za (kx x3e Z) ?_)))))))))))))))))))))))
 refine za (yf (u':=vlst (List.map (CP qb) ([0,1,2,3,4,5]:List Int))) (wo [[_],[_],[_],[_],[_],[_]] x2u ⟨Z,.inl ⟨_,Z,Z,Z⟩,Z,Z,.inl ⟨_,Z,Z,Z⟩,Z,Z,.inl ⟨_,Z,Z,Z⟩,Z,Z,.inl ⟨_,Z,Z,Z⟩,Z,Z,.inl ⟨_,Z,Z,Z⟩,Z,Z,.inl ⟨_,Z,Z,Z⟩,Z,U⟩ Z Z) Z) (qe Z (qe Z ⟨Z,?_⟩))
 refine zh ?_
 cases H
 exact ⟨U,.inl Z,.inl Z,U⟩
theorem y35 (s1:(List Bs)) (v2:Bs) (r:(Int)) (H:Wr s1 v2=some r):Fn Tryz.prog 149 [vlst (List.map zn s1),vstr v2] (zu [vint r]):=by
 refine ⟨by kernel_rfl,zy (us:=[vint r]) Tryz.func149 Z Z Z Z fun X hN => ?_⟩
 unfold Wr at H
 refine zb hN Z (qe Z (ze (zb hN Z (qd Z (za (yo qi Z) (qd Z (zx (gE H fun h5 H=>wd (fun (k3:Nat) (s:Unit)=>[(0,.dat (vlst (List.map zn s1))),(1,.dat (vstr v2)),(7,.dat (vint (s1.length:Int))),(8,.dat (vint (k3:Int)))]) (fun (k3:Nat) (s:Unit)=>[]) () H ⟨Z,Z,Z,Z,U⟩ U (fun _ _=>Z) ?_ ?_))))))))
 ·rintro ⟨⟩ H
  replace H:y2c=some r:=H
  unfold y2c at H
  refine zb hN Z (za (zw Z Z) (ze (zg _ Z (fun h=>(lt_t h).elim) (fun h => ?_))))
  refine yu (zb hN Z (qe Z (zh ?_)))
  cases H
  exact ⟨U,.inl Z,U⟩
 ·rintro k3 x6 ⟨⟩ q4 h7 h8 H hq4
  replace H:y2b v2 k3 x6=some q4:=H
  unfold y2b at H
  refine zb hN Z (za (zw Z Z) (ze (zg _ Z (fun h => ?_) (fun h=>(lt_f h7 h).elim))))
  refine zj (ze (zx (zb hN Z (qd Z (qe Z (zb hN Z (qd Z (qd Z (qd Z (za (qt qv (fun _=>Z) Z Z h8) (za (yi tyS9 Z (yp h8) Z) (za (vd Z Z) (zg _ Z (fun h9 => ?_) (fun h9 => ?_))))))))))))))
  ·refine tE h9 H fun H=>zb hN Z (qd Z (qe Z (zh ?_)))
   replace H:=retl H hq4
   cases H
   exact ⟨U,.inl Z,U⟩
  ·exact fE h9 H fun H=>zj (zt hN Z (za (qo Z Z (by omega)) (qd Z ⟨_,yx H,⟨Z,Z,Z,Z,U⟩,U⟩)))
theorem w0p (s1:yr) (v2:Bs) (r:(Bool×yr)) (H:z2b s1 v2=some r):Imp Tryz.prog 100 107 (jr s1) [vstr v2] (zu [zf r.1]) (jr r.2):=by
 refine xh (us:=[zf r.1]) (cs':=(jr r.2)) (by kernel_rfl) Tryz.func100 Z Z Z Z fun X bl hN => ?_
 unfold z2b at H
 refine zb hN Z (qe Z (zb hN Z (qd Z (bE H fun r3 h4 H=>za (zl (y34 v2 [61] r3 h4) ⟨.inl Z,.inl Z,U⟩) (qd Z (za (ya Z Z) (za (ya Z Z) (za (ya Z Z) (qe Z (qe Z (qe Z (zb hN Z (qd Z (bE H fun r5 h6 H=>za (zl (w0q r3.2.1 r5 h6) ⟨.inl Z,U⟩) (qd Z (za (ya Z Z) (za (ya Z Z) (qe Z (qe Z (ze (zb hN Z ?_)))))))))))))))))))))
 refine qd Z (bE H fun r7 h8 H=>za (zl (z92 r3.1 r7 h8) ⟨.inl Z,U⟩) (za (yt Z) (qd Z (yg Z Z (fun hc=>zi (.dat _) Z) (yg Z Z (fun hc=>zi (.dat _) (cnd (c:=(!(!r7))) hc)) (qu Z Z (fun hc=>zi (.dat _) Z) (qu Z Z (fun hc=>yt (cnd (c:=((!(!r7)) && r3.2.2)) hc)) (yg Z Z (fun hc=>wx (cnd (c:=(!(!r7))) hc) (fun hb=>(cnd (c:=((!(!r7)) && r3.2.2)) (andI hc hb))) Z) (za (ve Z Z (fun hb=>(cnd (c:=(!(!r7))) (notI hb)))) (zg _ Z (fun h9 => ?_) (fun h9 => ?_)))))))))))
 ·refine tE h9 H fun H=>zb hN Z (qe Z (zh ?_))
  cases H
  exact ⟨U,⟨.inl Z,U⟩,Z⟩
 ·refine fE h9 H fun H=>zj (zb hN Z (qd Z (bE H fun r10 h11 H=>za (zl (y83 r3.1 r10 h11) ⟨.inl Z,U⟩) (qe Z (zb hN Z (za (zi (.ptr _ _) Z) (bE H fun r12 h13 H=>zp (vy (s := .dr 0 (fun qb=>vtup [vlst (List.map zn r12.1),vlst (List.map (CP qb) r12.2)])) 0 (fun qb=>zl (w0t qb r12 h13) ⟨.inl Z,U⟩) Z Z) Z (za (zi (.dr _ _) Z) (zp (vy (s := .dat (vlst (List.map zn r12.1))) 0 (fun qb=>ya Z Z) Z Z) Z (zp (vy (s := .dr 0 (fun qb=>vlst (List.map (CP qb) r12.2))) 0 (fun qb=>ya Z Z) Z Z) Z (qe Z (za (wu (.dr _ _) Z) (ze (zb hN Z (qd Z (qd Z (bE H fun r14 h15 H=>za (zl (y35 r12.1 r10 r14 h15) ⟨.inl Z,.inl Z,U⟩) (qe Z (zb hN Z ?_)))))))))))))))))))
  refine qd Z (za (wy Z Z) (zg _ Z (fun h16 => ?_) (fun h16 => ?_)))
  ·refine tE h16 H fun H=>zb hN Z (za (zi (.dr _ _) Z) (qd Z (bE H fun x17 h18 H=>zp (vy (s := .dr 0 (fun qb=>qh (List.map (CP qb) r12.2) r14.toNat 0)) 0 (fun qb=>vq x3l (fun _=>Z) Z Z h18) Z Z) Z (gE H fun h19 H=>zp (vy (s := .ptr 0 x17.toNat) 0 (fun qb=>yi x2k Z (yp (ww h18).2) Z) Z Z) Z (za (qp Z) (bE H fun c20 h21 H=>zk (y14 tyS4 Z Z Z (x5g (c:=s1) h19 h21)) Z (zb hN Z (qd Z (za (yt Z) (qe Z (zh ?_)))))))))))
   cases H
   exact ⟨U,⟨.inl Z,U⟩,Z⟩
  ·refine fE h16 H fun H=>zj (zb hN Z (za (zi (.ptr _ _) Z) (bE H fun r22 h23 H=>zp (vy (s := .dr 0 (fun qb=>vtup [vlst (List.map zn r22.1),vlst (List.map (CP qb) r22.2)])) 0 (fun qb=>zl (y9n qb r22 h23) ⟨.inl Z,U⟩) Z Z) Z (za (zi (.dr _ _) Z) (zp (vy (s := .dat (vlst (List.map zn r22.1))) 0 (fun qb=>ya Z Z) Z Z) Z (zp (vy (s := .dr 0 (fun qb=>vlst (List.map (CP qb) r22.2))) 0 (fun qb=>ya Z Z) Z Z) Z (qe Z (za (wu (.dr _ _) Z) (zb hN Z (qd Z (qd Z (bE H fun r24 h25 H=>za (zl (y35 r22.1 r10 r24 h25) ⟨.inl Z,.inl Z,U⟩) (qe Z (ze (zb hN Z (qd Z (za (zw Z Z) (zg _ Z (fun h26 => ?_) (fun h26 => ?_)))))))))))))))))))
   ·refine tE h26 H fun H=>zb hN Z (qe Z (zh ?_))
    cases H
    exact ⟨U,⟨.inl Z,U⟩,Z⟩
   ·refine fE h26 H fun H=>zj (yb (ι:=Bool×Bool×Bool×Bool×Bool×Bool×Int×Int×Int×Int×Int×Int) (fun i=>[(7,.dat (zf r3.2.2))]) (fun i=>[(0,.box (some bl) 107 [.dat (zf i.1),.dat (zf i.2.1),.dat (zf i.2.2.1),.dat (zf i.2.2.2.1),.dat (zf i.2.2.2.2.1),.dat (zf i.2.2.2.2.2.1),.dat (vint i.2.2.2.2.2.2.1),.dat (vint i.2.2.2.2.2.2.2.1),.dat (vint i.2.2.2.2.2.2.2.2.1),.dat (vint i.2.2.2.2.2.2.2.2.2.1),.dat (vint i.2.2.2.2.2.2.2.2.2.2.1),.dat (vint i.2.2.2.2.2.2.2.2.2.2.2)])]) (fun i=>z2z r3 i.1 i.2.1 i.2.2.1 i.2.2.2.1 i.2.2.2.2.1 i.2.2.2.2.2.1 i.2.2.2.2.2.2.1 i.2.2.2.2.2.2.2.1 i.2.2.2.2.2.2.2.2.1 i.2.2.2.2.2.2.2.2.2.1 i.2.2.2.2.2.2.2.2.2.2.1 i.2.2.2.2.2.2.2.2.2.2.2=some r) (fun i=>Z) ?_ ?_)
    ·skip
     refine yb (ι:=Bool) (fun i=>[(7,.dat (zf r3.2.2)),(8,.dat (vint r5.1)),(13,.dr 0 (fun qb=>vlst (List.map (CP qb) r22.2))),(14,.dat (vint r24)),(81,.dat (zf i))]) (fun i=>[(0,.box (some bl) 107 [.dat (zf s1.NoStore),.dat (zf s1.NoCache),.dat (zf s1.Private),.dat (zf s1.Public),.dat (zf s1.Must),.dat (zf s1.Only),.dat (vint s1.MaxAge),.dat (vint s1.Shared),.dat (vint s1.Stale),.dat (vint s1.OnError),.dat (vint s1.MaxStale),.dat (vint s1.MinFresh)])]) (fun i=>z2y s1 r3 r5 r22 r24 i=some r) (fun i=>Z) ?_ ?_
     ·skip
      refine zt hN Z (za (zi (.dr _ _) Z) (qd Z (bE H fun x27 h28 H=>zp (vy (s := .dr 0 (fun qb=>qh (List.map (CP qb) r22.2) r24.toNat 0)) 0 (fun qb=>vq z7r (fun _=>Z) Z Z h28) Z Z) Z (gE H fun h29 H=>zp (vy (s := .ptr 0 x27.toNat) 0 (fun qb=>yi z7i Z (yp (ww h28).2) Z) Z Z) Z (za (qp Z) (zp (zr tyS3 Z (y91 (c:=s1) h29)) Z (za (yw Z Z) (qd Z (yc (j:=7) Z Z (fun h30 => ?_) (fun h30 => ?_) Z)))))))))
      ·exact u3 h30 H fun h31 H=>zd Z Z h30 (zi (.dat _) Z) (zd Z Z h30 (zi (.dr _ _) Z) (zd Z Z h30 (zi (.dat _) Z) (vn Z Z h30 (vy (s := .dr 0 (fun qb=>qh (List.map (CP qb) r22.2) r24.toNat 0)) 0 (fun qb=>vq z7r (fun _=>Z) Z Z h28) Z Z) Z (gE H fun h32 H=>vn Z Z h30 (vy (s := .ptr 0 x27.toNat) 0 (fun qb=>yi z7i Z (yp (ww h28).2) Z) Z Z) Z (zd Z Z h30 (qp Z) (vn Z Z h30 (zr tyS3 Z (y91 (c:=s1) h32)) Z (zd Z Z h30 (zw Z Z) (za (zv Z (bFF h31) Z) ⟨decide (r5.1 < (Yx s1 x27)),H,⟨Z,Z,Z,Z,Z,U⟩,⟨Z,U⟩⟩))))))))
      ·exact u4 h30 H fun h33 H=>zc Z Z h30 (zc Z Z h30 (zc Z Z h30 (zc Z Z h30 (zc Z Z h30 (zc Z Z h30 (zc Z Z h30 (zc Z Z h30 (za (zz Z (bTT h33) Z) ⟨true,H,⟨Z,Z,Z,Z,Z,U⟩,⟨Z,U⟩⟩))))))))
     ·rintro v34 H
      replace H:z2y s1 r3 r5 r22 r24 v34=some r:=H
      unfold z2y at H
      refine zg _ Z (fun h35 => ?_) (fun h35 => ?_)
      ·exact tE h35 H fun H=>zt hN Z (za (zi (.dr _ _) Z) (qd Z (bE H fun x36 h37 H=>zp (vy (s := .dr 0 (fun qb=>qh (List.map (CP qb) r22.2) r24.toNat 0)) 0 (fun qb=>vq z7r (fun _=>Z) Z Z h37) Z Z) Z (gE H fun h38 H=>zp (vy (s := .ptr 0 x36.toNat) 0 (fun qb=>yi z7i Z (yp (ww h37).2) Z) Z Z) Z (qd Z (za (qp Z) (bE H fun c39 h40 H=>zk (y14 tyS3 Z Z Z (y66 (c:=s1) h38 h40)) Z ⟨(c39.NoStore,c39.NoCache,c39.Private,c39.Public,c39.Must,c39.Only,c39.MaxAge,c39.Shared,c39.Stale,c39.OnError,c39.MaxStale,c39.MinFresh),H,⟨Z,U⟩,⟨Z,U⟩⟩)))))))
      ·exact fE h35 H fun H=>zj ⟨(s1.NoStore,s1.NoCache,s1.Private,s1.Public,s1.Must,s1.Only,s1.MaxAge,s1.Shared,s1.Stale,s1.OnError,s1.MaxStale,s1.MinFresh),H,⟨Z,U⟩,⟨Z,U⟩⟩
    ·rintro ⟨c41,c42,c43,c44,c45,c46,c47,c48,c49,c50,c51,c52⟩ H
     replace H:z2z r3 c41 c42 c43 c44 c45 c46 c47 c48 c49 c50 c51 c52=some r:=H
     unfold z2z at H
     refine zb hN Z (qd Z (qe Z (zh ?_)))
     cases H
     exact ⟨U,⟨.inl Z,U⟩,Z⟩
theorem w0r (l1:(List yj)) (r:(yr×Int)) (H:z2c l1=some r):Fn Tryz.prog 62 [vlst (List.map jq l1)] (zu [vagg (jr r.1),vint r.2]):=by
 refine ⟨by kernel_rfl,zy (us:=[vagg (jr r.1),vint r.2]) Tryz.func62 Z Z Z Z fun X hN => ?_⟩
 unfold z2c at H
 refine zb hN Z (zk (qr 1 z3d Z) Z (qe Z (zb hN Z (za (yf (u':=vagg (jr (yr.mk false false false false false false 0 0 0 0 0 0))) (qf [] z3d y50 Z U) Z) (zk (qr 2 z3d Z) Z (zk (ym Zt Z Z Z Z) Z (zb hN Z (bE H fun r2 h3 H=>zp (vy (s := .dr 2 (fun qb=>vtup [vlst (List.map zn r2.1),vlst (List.map (CP qb) r2.2)])) 2 (fun qb=>zl (y9n qb r2 h3) ⟨.inl Z,U⟩) Z Z) Z (za (zi (.dr _ _) Z) (zp (vy (s := .dat (vlst (List.map zn r2.1))) 2 (fun qb=>ya Z Z) Z Z) Z (zp (vy (s := .dr 2 (fun qb=>vlst (List.map (CP qb) r2.2))) 2 (fun qb=>ya Z Z) Z Z) Z (qe Z (za (wu (.dr _ _) Z) (ze (zb hN Z (za (zi (.dr _ _) Z) (zp (vy (s := .dat (vint (r2.2.length:Int))) 2 (fun qb=>yo x2i Z) Z Z) Z (qd Z (zx (gE H fun h18 H=>wd (fun (k16:Nat) (s:Bool×Bool×Int×Int×Bool×Bool×Bool×Bool×Int×Int×Int×Int)=>[(0,.dat (vlst (List.map jq l1))),(2,.ptr 1 0),(4,.ptr 2 0),(16,.dr 2 (fun qb=>vlst (List.map (CP qb) r2.2))),(17,.dat (vint (r2.2.length:Int))),(18,.dat (vint (k16:Int)))]) (fun (k16:Nat) (s:Bool×Bool×Int×Int×Bool×Bool×Bool×Bool×Int×Int×Int×Int)=>[(1,.box none 107 [.dat (zf false),.dat (zf false),.dat (zf false),.dat (zf false),.dat (zf false),.dat (zf false),.dat (vint 0),.dat (vint 0),.dat (vint 0),.dat (vint 0),.dat (vint 0),.dat (vint 0)]),(2,.box none 107 [.dat (zf s.1),.dat (zf s.2.1),.dat (zf s.2.2.2.2.1),.dat (zf s.2.2.2.2.2.1),.dat (zf s.2.2.2.2.2.2.1),.dat (zf s.2.2.2.2.2.2.2.1),.dat (vint s.2.2.2.2.2.2.2.2.1),.dat (vint s.2.2.2.2.2.2.2.2.2.1),.dat (vint s.2.2.2.2.2.2.2.2.2.2.1),.dat (vint s.2.2.2.2.2.2.2.2.2.2.2),.dat (vint s.2.2.1),.dat (vint s.2.2.2.1)])]) (false,false,0,0,false,false,false,false,0,0,0,0) H ⟨Z,Z,Z,Z,Z,Z,U⟩ ⟨Z,Z,U⟩ (fun _ _=>Z) ?_ ?_))))))))))))))))))))
 ·rintro ⟨c4,c5,c6,c7,c8,c9,c10,c11,c12,c13,c14,c15⟩ H
  replace H:z60 l1 c4 c5 c6 c7 c8 c9 c10 c11 c12 c13 c14 c15=some r:=H
  unfold z60 at H
  refine zb hN Z (za (zw Z Z) (ze (zg _ Z (fun h=>(lt_t h).elim) (fun h => ?_))))
  refine yu (ze (zb hN Z (qd Z (bE H fun r20 h21 H=>za (zl (z91 l1 [99,97,99,104,101,45,99,111,110,116,114,111,108] r20 h21) ⟨.inl Z,.inl Z,U⟩) (bE H fun r22 h23 H=>za (zl (x93 r20 r22 h23) ⟨.inl Z,U⟩) (za (yo qi Z) (qd Z (zx (gE H fun h38 H=>wd (fun (k36:Nat) (s:Bool×Bool×Int×Int×Bool×Bool×Bool×Bool×Int×Int×Int×Int)=>[(2,.ptr 1 0),(4,.ptr 2 0),(27,.dat (vlst (List.map zn r22))),(28,.dat (vint (r22.length:Int))),(29,.dat (vint (k36:Int)))]) (fun (k36:Nat) (s:Bool×Bool×Int×Int×Bool×Bool×Bool×Bool×Int×Int×Int×Int)=>[(1,.box none 107 [.dat (zf false),.dat (zf false),.dat (zf false),.dat (zf false),.dat (zf false),.dat (zf false),.dat (vint 0),.dat (vint 0),.dat (vint 0),.dat (vint 0),.dat (vint 0),.dat (vint 0)]),(2,.box none 107 [.dat (zf s.1),.dat (zf s.2.1),.dat (zf s.2.2.2.2.1),.dat (zf s.2.2.2.2.2.1),.dat (zf s.2.2.2.2.2.2.1),.dat (zf s.2.2.2.2.2.2.2.1),.dat (vint s.2.2.2.2.2.2.2.2.1),.dat (vint s.2.2.2.2.2.2.2.2.2.1),.dat (vint s.2.2.2.2.2.2.2.2.2.2.1),.dat (vint s.2.2.2.2.2.2.2.2.2.2.2),.dat (vint s.2.2.1),.dat (vint s.2.2.2.1)])]) (c4,c5,c6,c7,c8,c9,c10,c11,c12,c13,c14,c15) H ⟨Z,Z,Z,Z,Z,U⟩ ⟨Z,Z,U⟩ (fun _ _=>Z) ?_ ?_)))))))))
  ·rintro ⟨c24,c25,c26,c27,c28,c29,c30,c31,c32,c33,c34,c35⟩ H
   replace H:y46 c24 c25 c26 c27 c28 c29 c30 c31 c32 c33 c34 c35=some r:=H
   unfold y46 at H
   refine zb hN Z (za (zw Z Z) (ze (zg _ Z (fun h=>(lt_t h).elim) (fun h => ?_))))
   refine yu (zb hN Z (zp (vh Zt Z Z Z) Z (zk (ym Zt Z Z Z Z) Z (qe Z (zh ?_)))))
   cases H
   exact ⟨U,.inl ⟨_,_,_,jr (yr.mk c24 c25 c28 c29 c30 c31 c32 c33 c34 c35 c26 c27),Z,Z,Z,Z,Zt⟩,.inl Z,U⟩
  ·rintro k36 x39 ⟨c24,c25,c26,c27,c28,c29,c30,c31,c32,c33,c34,c35⟩ q37 h40 h41 H hq37
   replace H:z0m k36 x39 c24 c25 c26 c27 c28 c29 c30 c31 c32 c33 c34 c35=some q37:=H
   unfold z0m at H
   refine zb hN Z (za (zw Z Z) (ze (zg _ Z (fun h => ?_) (fun h=>(lt_f h40 h).elim))))
   refine zj (ze (zx (zb hN Z (za (qt qv (fun _=>Z) Z Z h41) (za (yi tyS9 Z (yp h41) Z) (qe Z (zb hN Z (qd Z (bE H fun r42 h43 H=>zk (vi (w0p (yr.mk c24 c25 c28 c29 c30 c31 c32 c33 c34 c35 c26 c27) x39 r42 h43) Z ⟨.inl Z,U⟩ Z) Z (za (yt Z) (zg _ Z (fun h44 => ?_) (fun h44 => ?_))))))))))))
   ·refine tE h44 H fun H=>zb hN Z (za (yf (u':=vagg (jr (yr.mk false false false false false false 0 0 0 0 0 0))) (qf [] z3d y50 Z U) Z) (zk (ym Zt Z Z Z Z) Z (qe Z (zh ?_))))
    replace H:=retl H hq37
    cases H
    exact ⟨U,.inl ⟨_,_,_,jr (yr.mk false false false false false false 0 0 0 0 0 0),Z,Z,Z,Z,Zt⟩,.inl Z,U⟩
   ·exact fE h44 H fun H=>zj (zt hN Z (za (qo Z Z (by omega)) (qd Z ⟨_,yx H,⟨Z,Z,Z,Z,Z,U⟩,⟨Z,Z,U⟩⟩)))
 ·rintro k16 x19 ⟨c4,c5,c6,c7,c8,c9,c10,c11,c12,c13,c14,c15⟩ q17 h45 h46 H hq17
  replace H:y45 k16 x19 c4 c5 c6 c7 c8 c9 c10 c11 c12 c13 c14 c15=some q17:=H
  unfold y45 at H
  refine zb hN Z (za (zw Z Z) (ze (zg _ Z (fun h => ?_) (fun h=>(lt_f h45 h).elim))))
  exact zj (ze (zx (zb hN Z (zp (vy (s := .dr 2 (fun qb=>qh (List.map (CP qb) r2.2) k16 0)) 2 (fun qb=>qt z7r (fun _=>Z) Z Z h46) Z Z) Z (gE H fun h47 H=>zp (vy (s := .ptr 2 x19.toNat) 2 (fun qb=>yi z7i Z (yp h46) Z) Z Z) Z (za (wu (.ptr _ _) Z) (zt hN Z (za (zi (.ptr _ _) Z) (za (qp Z) (bE H fun c48 h49 H=>zk (y14 tyS3 Z Z Z (y66 (c:=(yr.mk c4 c5 c8 c9 c10 c11 c12 c13 c14 c15 c6 c7)) h47 h49)) Z (zt hN Z (za (qo Z Z (by omega)) (qd Z ⟨_,yx H,⟨Z,Z,Z,Z,Z,Z,U⟩,⟨Z,Z,U⟩⟩)))))))))))))
theorem y36 (s1:(List Bs)) (v2:Bs) (r:(Bool)) (H:Ws s1 v2=some r):Fn Tryz.prog 102 [vlst (List.map zn s1),vstr v2] (zu [zf r]):=by
 refine ⟨by kernel_rfl,zy (us:=[zf r]) Tryz.func102 Z Z Z Z fun X hN => ?_⟩
 unfold Ws at H
 refine zb hN Z (qe Z (zb hN Z (qd Z (qd Z (bE H fun r3 h4 H=>za (zl (y35 s1 v2 r3 h4) ⟨.inl Z,.inl Z,U⟩) (za (wy Z Z) (qe Z (zh ?_))))))))
 cases H
 exact ⟨U,.inl Z,U⟩
theorem x74 (values1:(List Bs)) (r:((List Bs))) (H:Yn values1=some r):FnG Tryz.prog 99 [.dat (vlst (List.map zn values1))] [] (.row 1 r.length) [(1,.row 9 1 (List.map zn r))]:=by
 refine z6u (by kernel_rfl) Tryz.func99 Z Z Z Z fun X A hN => ?_
 unfold Yn at H
 refine zb hN Z (qe Z (zb hN Z (qe Z (ze (zb hN Z (qd Z (za (yo qi Z) (qd Z (zx (xn 3 1 9 1 Z Z Z (gE H fun h5 H=>wd (fun (k3:Nat) (s:(List Bs))=>[(3,.row 1 s.length),(8,.dat (vlst (List.map zn values1))),(9,.dat (vint (values1.length:Int))),(10,.dat (vint (k3:Int)))]) (fun (k3:Nat) (s:(List Bs))=>[(1,.row 9 1 (List.map zn s))]) [] H ⟨Z,Z,Z,Z,U⟩ ⟨Z,U⟩ (fun _ _=>Z) ?_ ?_)))))))))))
 ·rintro l2 H
  replace H:z1l l2=some r:=H
  unfold z1l at H
  refine zb hN Z (za (zw Z Z) (ze (zg _ Z (fun h=>(lt_t h).elim) (fun h => ?_))))
  refine yu (zb hN Z (za (zi (.row _ _) Z) (za (wu (.row _ _) Z) (zh ?_))))
  cases H
  exact ⟨U,[(2,.row 1 _)],⟨Z,U⟩,⟨Z,U⟩,Z,.inr (.inl ⟨2,Z,Z⟩)⟩
 ·rintro k3 x6 l2 q4 h7 h8 H hq4
  replace H:Za k3 x6 l2=some q4:=H
  unfold Za at H
  refine zb hN Z (za (zw Z Z) (ze (zg _ Z (fun h => ?_) (fun h=>(lt_f h7 h).elim))))
  refine zj (ze (zx (zb hN Z (za (qt qv (fun _=>Z) Z Z h8) (za (yi tyS9 Z (yp h8) Z) (qe Z (zb hN Z (qd Z (bE H fun r9 h10 H=>za (zl (Yq x6 [44] r9 h10) ⟨.inl Z,.inl Z,U⟩) (za (yo qi Z) (qd Z (zx (gE H fun h14 H=>wd (fun (k12:Nat) (s:(List Bs))=>[(3,.row 1 s.length),(8,.dat (vlst (List.map zn values1))),(9,.dat (vint (values1.length:Int))),(10,.dat (vint (k3:Int))),(15,.dat (vlst (List.map zn r9))),(16,.dat (vint (r9.length:Int))),(17,.dat (vint (k12:Int)))]) (fun (k12:Nat) (s:(List Bs))=>[(1,.row 9 1 (List.map zn s))]) l2 H ⟨Z,Z,Z,Z,Z,Z,Z,U⟩ ⟨Z,U⟩ (fun _ _=>Z) ?_ ?_)))))))))))))
  ·rintro l11 H
   replace H:z1k l11=some q4:=H
   unfold z1k at H
   refine zb hN Z (za (zw Z Z) (ze (zg _ Z (fun h=>(lt_t h).elim) (fun h => ?_))))
   exact yu (zt hN Z (za (qo Z Z (by omega)) (qd Z ⟨_,yx H,⟨Z,Z,Z,Z,U⟩,⟨Z,U⟩⟩)))
  ·rintro k12 x15 l11 q13 h16 h17 H hq13
   replace H:xz k12 x15 l11=some q13:=H
   unfold xz at H
   refine zb hN Z (za (zw Z Z) (ze (zg _ Z (fun h => ?_) (fun h=>(lt_f h16 h).elim))))
   refine zj (yb (ι:=(List Bs)) (fun i=>[(3,.row 1 i.length),(8,.dat (vlst (List.map zn values1))),(9,.dat (vint (values1.length:Int))),(10,.dat (vint (k3:Int))),(15,.dat (vlst (List.map zn r9))),(16,.dat (vint (r9.length:Int))),(17,.dat (vint (k12:Int)))]) (fun i=>[(1,.row 9 1 (List.map zn i))]) (fun i=>Zb i=some q13) (fun i=>Z) ?_ ?_)
   ·skip
    refine zx (zb hN Z (za (qt qv (fun _=>Z) Z Z h17) (za (yi tyS9 Z (yp h17) Z) (qe Z (zb hN Z (qd Z (bE H fun r18 h19 H=>za (zl (y30 x15 [32] r18 h19) ⟨.inl Z,.inl Z,U⟩) (qe Z (zb hN Z (qd Z (za (js Z Z) (zg _ Z (fun h20 => ?_) (fun h20 => ?_)))))))))))))
    ·refine tE h20 H fun H=>zt hN Z (za (zi (.row _ _) Z) (qd Z (za (yf (u':=vlst (List.map zn [r18])) (wo [[_]] wz ⟨Z,.inl ⟨_,Z,Z,Z⟩,Z,U⟩ Z Z) Z) (gE H fun h21 H=>zk (ul wz (fun _=>Z) Z Z Z ⟨by simp,by first | (simp; done) | simpa using h21⟩ Z) Z ?_))))
     exact za (wu (.row _ _) Z) ⟨(l11++[r18]),H,⟨Z,Z,Z,Z,Z,Z,Z,U⟩,⟨Z,U⟩⟩
    ·exact fE h20 H fun H=>zj ⟨l11,H,⟨Z,Z,Z,Z,Z,Z,Z,U⟩,⟨Z,U⟩⟩
   ·rintro out22 H
    replace H:Zb out22=some q13:=H
    unfold Zb at H
    exact zt hN Z (za (qo Z Z (by omega)) (qd Z ⟨_,yx H,⟨Z,Z,Z,Z,Z,Z,Z,U⟩,⟨Z,U⟩⟩))
theorem w0o (a1:kl) (r:((List Bs)×Bool×Int)) (H:z5z a1=some r):Fn Tryz.prog 63 [vagg (y0s a1)] (zu [vlst (List.map zn r.1),zf r.2.1,vint r.2.2]):=by
 refine ⟨by kernel_rfl,zy (us:=[vlst (List.map zn r.1),zf r.2.1,vint r.2.2]) Tryz.func63 Z Z Z Z fun X hN => ?_⟩
 unfold z5z at H
 refine zb hN Z (zk (vr 1 Z) Z (qe Z (qe Z (qe Z (zb hN Z (za (zo y1b Z) (zp (zr z0r Z Z) Z (bE H fun r2 h3 H=>za (zl (z91 a1.Headers [118,97,114,121] r2 h3) ⟨.inl Z,.inl Z,U⟩) (bE H fun r4 h5 H=>ky (rn [(1,2)]) [] [(1,_)] (x74 r2 r4 h5) ⟨Z,U⟩ ⟨.inl (.inl Z),U⟩ U Z (za (wu (.row _ _) Z) (ze (zb hN Z (za (zi (.row _ _) Z) (zp (y11 qi Z Z) Z (qd Z (zx (gE H fun h9 H=>Yy (fun (k7:Nat) (s:(List Bs))=>[(5,.row 2 s.length),(12,.row 2 s.length),(13,.dat (vint (r4.length:Int))),(14,.dat (vint (k7:Int)))]) (fun (k7:Nat) (s:(List Bs))=>[(2,.row 9 1 (List.map zn s))]) r4 H ⟨Z,Z,Z,Z,U⟩ ⟨Z,U⟩ (fun _ _=>Z) ?_ ?_)))))))))))))))))
 ·rintro l6 H
  replace H:z6z l6=some r:=H
  unfold z6z at H
  refine zb hN Z (za (zw Z Z) (ze (zg _ Z (fun h=>(lt_t h).elim) (fun h => ?_))))
  refine yu (ze (ze (z79 5 2 Z Z Z (zt hN Z (qd Z (bE H fun r10 h11 H=>za (zl (y36 l6 [42] r10 h11) ⟨.inl Z,.inl Z,U⟩) (zg _ Z (fun h12 => ?_) (fun h12 => ?_))))))))
  ·refine tE h12 H fun H=>zb hN Z (qe Z (qe Z (qe Z (zh ?_))))
   cases H
   exact ⟨U,.inr ⟨Z,Z⟩,.inl Z,.inl Z,U⟩
  ·refine fE h12 H fun H=>zj (zb hN Z (qd Z (bE H fun r13 h14 H=>za (zl (y9f l6 r13 h14) ⟨.inl Z,U⟩) (qe Z (ze (zb hN Z (qd Z (za (yo qi Z) (za (qc Z Z) (zg _ Z (fun h15 => ?_) (fun h15 => ?_)))))))))))
   ·refine tE h15 H fun H=>zb hN Z (qe Z (qe Z (qe Z (zh ?_))))
    cases H
    exact ⟨U,.inr ⟨Z,Z⟩,.inl Z,.inl Z,U⟩
   ·refine fE h15 H fun H=>zj (zb hN Z (qd Z (qe Z (qe Z (qe Z (zh ?_))))))
    cases H
    exact ⟨U,.inl Z,.inl Z,.inl Z,U⟩
 ·rintro k7 l6 q8 h16 H hq8
  replace H:y44 k7 l6=some q8:=H
  unfold y44 at H
  refine zb hN Z (za (zw Z Z) (ze (zg _ Z (fun h => ?_) (fun h=>(lt_f h16 h).elim))))
  refine zj (ze (zx (zb hN Z (qd Z (bE H fun x17 h18 H=>zp (z3x qv Z Z Z h18) Z (zp (z04 tyS9 Z Z h18 Z) Z (qe Z (qe Z (ze (zb hN Z (qd Z (bE H fun r19 h20 H=>za (zl (z92 x17 r19 h20) ⟨.inl Z,U⟩) (za (yt Z) (zg _ Z (fun h21 => ?_) (fun h21 => ?_)))))))))))))))
  ·refine tE h21 H fun H=>zb hN Z (qe Z (qe Z (qe Z (zh ?_))))
   replace H:=retl H hq8
   cases H
   exact ⟨U,.inr ⟨Z,Z⟩,.inl Z,.inl Z,U⟩
  ·exact fE h21 H fun H=>zj (zt hN Z (za (zi (.row _ _) Z) (qd Z (qd Z (bE H fun r22 h23 H=>za (zl (y83 x17 r22 h23) ⟨.inl Z,U⟩) (zp (z3x qv Z Z Z h18) Z (zk (z78 r22 tyS9 Z Z Z Z h18 Z Z) Z (zt hN Z (za (qo Z Z (by omega)) (qd Z ⟨_,yx H,⟨congrArg (Slot.row 2) (by simp),congrArg (Slot.row 2) (by simp),Z,Z,U⟩,⟨Z,U⟩⟩))))))))))
theorem w0s (c1:yr) (r:(Int)) (H:z55 c1=some r):Fn Tryz.prog 64 [vagg (jr c1)] (zu [vint r]):=by
 refine ⟨by kernel_rfl,zy (us:=[vint r]) Tryz.func64 Z Z Z Z fun X hN => ?_⟩
 unfold z55 at H
 refine zb hN Z (zk (vr 1 Z) Z (qe Z (ze (zx (zb hN Z (za (zo y6f Z) (zp (zr tyS4 Z Z) Z (qe Z (zg _ Z (fun h2 => ?_) (fun h2 => ?_))))))))))
 ·refine tE h2 H fun H=>zb hN Z (qe Z (zh ?_))
  cases H
  exact ⟨U,.inl Z,U⟩
 ·refine fE h2 H fun H=>zb hN Z (za (zo y1m Z) (zp (zr tyS3 Z Z) Z (za (ql Z Z) (qe Z (zg _ Z (fun h3 => ?_) (fun h3 => ?_))))))
  ·refine tE h3 H fun H=>zb hN Z (za (zo y1m Z) (zp (zr tyS3 Z Z) Z (za (ye _ Z Z (.inr (.inr ⟨Z,Z⟩))) (qe Z (zh ?_)))))
   cases H
   exact ⟨U,.inl Z,U⟩
  ·refine fE h3 H fun H=>zb hN Z (za (zo y1n Z) (zp (zr tyS3 Z Z) Z (za (ql Z Z) (qe Z (zg _ Z (fun h4 => ?_) (fun h4 => ?_))))))
   ·refine tE h4 H fun H=>zb hN Z (za (zo y1n Z) (zp (zr tyS3 Z Z) Z (za (ye _ Z Z (.inr (.inr ⟨Z,Z⟩))) (qe Z (zh ?_)))))
    cases H
    exact ⟨U,.inl Z,U⟩
   ·refine fE h4 H fun H=>zj (zb hN Z (qe Z (zh ?_)))
    cases H
    exact ⟨U,.inl Z,U⟩
theorem w0u (a1:kl) (r:(Int×Int)) (H:z56 a1=some r):Fn Tryz.prog 26 [vagg (y0s a1)] (zu [vint r.1,vint r.2]):=by
 refine ⟨by kernel_rfl,zy (us:=[vint r.1,vint r.2]) Tryz.func26 Z Z Z Z fun X hN => ?_⟩
 unfold z56 at H
 refine zb hN Z (zk (vr 1 Z) Z (qe Z (qe Z (ze (zb hN Z (zp (vh y5v Z Z Z) Z (bE H fun r2 h3 H=>za (zl (x95 a1 r2 h3) ⟨.inl Z,U⟩) (qe Z (zb hN Z (qd Z (za (ql Z Z) (zg _ Z (fun h4 => ?_) (fun h4 => ?_)))))))))))))
 ·refine tE h4 H fun H=>zb hN Z (qd Z (qe Z (qe Z (zh ?_))))
  cases H
  exact ⟨U,.inl Z,.inl Z,U⟩
 ·refine fE h4 H fun H=>zj (zb hN Z (za (zo y1b Z) (zp (zr z0r Z Z) Z (bE H fun r5 h6 H=>za (zl (w0r a1.Headers r5 h6) ⟨.inl Z,U⟩) (qd Z (za (ya Z Z) (za (ya Z Z) (zk (qr 2 z3d Z) Z (zk (ym Zt Z Z Z Z) Z (qe Z (ze (zb hN Z (qd Z (za (ql Z Z) (zg _ Z (fun h7 => ?_) (fun h7 => ?_))))))))))))))))
  ·refine tE h7 H fun H=>zb hN Z (qd Z (qe Z (qe Z (zh ?_))))
   cases H
   exact ⟨U,.inl Z,.inl Z,U⟩
  ·refine fE h7 H fun H=>zj (ze (zb hN Z (zp (vh y5v Z Z Z) Z (bE H fun r8 h9 H=>za (zl (w0o a1 r8 h9) ⟨.inl Z,U⟩) (qd Z (za (ya Z Z) (za (ya Z Z) (za (ya Z Z) (qe Z (qe Z (qe Z (zb hN Z (qd Z (za (ql Z Z) (zg _ Z (fun h10 => ?_) (fun h10 => ?_))))))))))))))))
   ·refine tE h10 H fun H=>zb hN Z (qd Z (qe Z (qe Z (zh ?_))))
    cases H
    exact ⟨U,.inl Z,.inl Z,U⟩
   ·refine fE h10 H fun H=>zj (zb hN Z (zp (vh Zt Z Z Z) Z (bE H fun r11 h12 H=>za (zl (w0s r5.1 r11 h12) ⟨.inl Z,U⟩) (qe Z (qe Z (zh ?_))))))
    cases H
    exact ⟨U,.inl Z,.inl Z,U⟩
theorem y3y (s1:Bs) (r:(Bs)) (H:Ze s1=some r):Fn Tryz.prog 27 [vstr s1] (zu [vstr r]):=by
 refine ⟨by kernel_rfl,zy (us:=[vstr r]) Tryz.func27 Z Z Z Z fun X hN => ?_⟩
 unfold Ze at H
 refine zb hN Z (qe Z (zb hN Z (qe Z (yb (ι:=(List Int)) (fun i=>[(3,.row 1 i.length)]) (fun i=>[(1,.row 5 1 (List.map yy i))]) (fun i=>z3q i=some r) (fun i=>Z) ?_ ?_))))
 ·skip
  refine zx (xn 3 1 5 1 Z Z Z (Zr (fun (s:Bs×(List Int))=>[(0,.dat (vstr s.1)),(3,.row 1 s.2.length)]) (fun (s:Bs×(List Int))=>[(1,.row 5 1 (List.map yy s.2))]) (s1,[]) H ⟨Z,Z,U⟩ ⟨Z,U⟩ (fun _=>Z) ?_))
  rintro ⟨s2,l3⟩ q4 H hq4
  replace H:jh s2 l3=some q4:=H
  unfold jh at H
  refine ze (zb hN Z (qd Z (za (qj tyU9 Z) (za (qc Z Z) (zg _ Z (fun h5 => ?_) (fun h5 => ?_))))))
  ·refine tE h5 H fun H=>zj (zx (zb hN Z (qd Z (za (qj tyU9 Z) (za (y6y Z Z) (qe Z (zb hN Z (qe Z (ze (zb hN Z (qd Z (zx (gE H fun h9 H=>Yy (fun (k7:Nat) (s:Int)=>[(0,.dat (vstr s2)),(3,.row 1 l3.length),(4,.dat (vint (min 3 (s2.length:Int)))),(5,.dat (vint s)),(14,.dat (vint (k7:Int)))]) (fun (k7:Nat) (s:Int)=>[(1,.row 5 1 (List.map yy l3))]) 0 H ⟨Z,Z,Z,Z,Z,U⟩ ⟨Z,U⟩ (fun _ _=>Z) ?_ ?_)))))))))))))
   ·rintro x6 H
    replace H:z3r s2 l3 x6=some q4:=H
    unfold z3r at H
    refine zb hN Z (za (zw Z Z) (ze (zg _ Z (fun h=>(lt_t h).elim) (fun h => ?_))))
    refine yu (ze (zb hN Z (qd Z (za (ye _ Z Z (.inl ⟨Z,Z⟩)) (qd Z (zx (gE H fun h13 H=>Yy (fun (k11:Nat) (s:(List Int))=>[(0,.dat (vstr s2)),(3,.row 1 s.length),(4,.dat (vint (min 3 (s2.length:Int)))),(5,.dat (vint x6)),(30,.dat (vint (wr ((min 3 (s2.length:Int))+1)))),(31,.dat (vint (k11:Int)))]) (fun (k11:Nat) (s:(List Int))=>[(1,.row 5 1 (List.map yy s))]) l3 H ⟨Z,Z,Z,Z,Z,Z,U⟩ ⟨Z,U⟩ (fun _ _=>Z) ?_ ?_)))))))
    ·rintro l10 H
     replace H:Qj s2 l10=some q4:=H
     unfold Qj at H
     refine zb hN Z (za (zw Z Z) (ze (zg _ Z (fun h=>(z9o h).elim) (fun h => ?_))))
     exact yu (zt hN Z (qd Z (qd Z (bE H fun l14 h15 H=>za (ji tyU9 Z Z Z h15) (qe Z ⟨_,yx H,⟨Z,Z,U⟩,⟨Z,U⟩⟩)))))
    ·rintro k11 l10 q12 h16 H hq12
     replace H:Qh x6 k11 l10=some q12:=H
     unfold Qh at H
     refine zb hN Z (za (zw Z Z) (ze (zg _ Z (fun h => ?_) (fun h=>(z9p h16 h).elim))))
     refine zj (ze (zx (zb hN Z (qd Z (qe Z (zt hN Z (za (zi (.row _ _) Z) (qd Z (qd Z (za (ye _ Z Z (.inr (.inr ⟨Z,Z⟩))) (za (ye _ Z Z (.inr (.inl ⟨Z,Z⟩))) (gE H fun h17 H=>za (yf (z35 Z Z h17) Z) (za (yf (z8d Z Z) Z) (bE H fun x18 h19 H=>za (ka tyU9 Z Z h19) (za (yf (u':=vlst (List.map yy [(x18.toNat:Int)])) (wo [[_]] Qb ⟨Z,.inl ⟨_,Z,Z,Z⟩,Z,U⟩ Z Z) Z) (gE H fun h20 H=>zk (ul Qb (fun _=>Z) Z Z Z ⟨by simp,by first | (simp; done) | simpa using h20⟩ Z) Z ?_))))))))))))))))
     exact za (wu (.row _ _) Z) (zt hN Z (za (qo Z Z (by omega)) (qd Z ⟨_,yx H,⟨Z,Z,Z,Z,Z,Z,U⟩,⟨Z,U⟩⟩)))
   ·rintro k7 x6 q8 h21 H hq8
    replace H:uy s2 k7 x6=some q8:=H
    unfold uy at H
    refine zb hN Z (za (zw Z Z) (ze (zg _ Z (fun h => ?_) (fun h=>(lt_f h21 h).elim))))
    refine zj (yb (ι:=Int) (fun i=>[(0,.dat (vstr s2)),(3,.row 1 l3.length),(4,.dat (vint (min 3 (s2.length:Int)))),(5,.dat (vint i)),(14,.dat (vint (k7:Int)))]) (fun i=>[(1,.row 5 1 (List.map yy l3))]) (fun i=>Qi i=some q8) (fun i=>Z) ?_ ?_)
    ·skip
     refine zx (zb hN Z (qd Z (qe Z (zb hN Z (qd Z (za (yf (z8b Z Z (by decide)) Z) (qe Z (zb hN Z (qd Z (qd Z (za (zw Z Z) (zg _ Z (fun h22 => ?_) (fun h22 => ?_)))))))))))))
     ·exact tE h22 H fun H=>zt hN Z (qd Z (qd Z (qd Z (bE H fun x23 h24 H=>za (wg tyU9 Z Z h24) (za (vz tyU5 tyU3 Z) (za (yf (y15 Z Z) Z) (qe Z ⟨(or_ .i64 (shl_ .i64 x6 8) (IntKind.wrap .i64 (x23.toNat:Int))),H,⟨Z,Z,Z,Z,Z,U⟩,⟨Z,U⟩⟩)))))))
     ·exact fE h22 H fun H=>zj ⟨(shl_ .i64 x6 8),H,⟨Z,Z,Z,Z,Z,U⟩,⟨Z,U⟩⟩
    ·rintro x25 H
     replace H:Qi x25=some q8:=H
     unfold Qi at H
     exact zt hN Z (za (qo Z Z (by omega)) (qd Z ⟨_,yx H,⟨Z,Z,Z,Z,Z,U⟩,⟨Z,U⟩⟩))
  ·refine fE h5 H fun H=>yu ?_
   replace H:=outl H hq4
   exact ⟨l3,H,⟨Z,U⟩,⟨Z,U⟩⟩
 ·rintro out26 H
  replace H:z3q out26=some r:=H
  unfold z3q at H
  refine ze (z79 3 1 Z Z Z (zt hN Z (qd Z (za (z36 (C:=yy) xq tyU5 tyU9 (fun _=>Z) Z) (qe Z (zh ?_))))))
  cases H
  exact ⟨U,.inl Z,U⟩
theorem y9i  (r:(Bool)) (H:z12  = some r):Fn Tryz.prog 7 [] (zu [zf r]):=by
 refine ⟨by kernel_rfl,zy (us:=[zf r]) Tryz.func7 Z Z Z Z fun X hN => ?_⟩
 unfold z12 at H
 refine zb hN Z (qe Z (zb hN Z (bE H fun r1 h2 H=>za (zl (x94 [47,97,47,46,46,47,98] r1 h2) ⟨.inl Z,U⟩) (qd Z (za (ya Z Z) (za (ya Z Z) (qe Z (qe Z (zb hN Z (za (yf (u':=vagg (jy (vo.mk [97] 1))) (qf [(0,[vstr [97]]),(1,[vint 1])] z7d x2m Z ⟨Z,.inl ⟨_,Z,Z,Z⟩,Z,Z,.inl ⟨_,Z,Z,Z⟩,Z,U⟩) Z) (za (yf (u':=vlst (List.map jy [(vo.mk [97] 1)])) (wo [_] x2s ⟨Z,.inr Z,Z,U⟩ Z Z) Z) (bE H fun r3 h4 H=>za (zl (x8f ([(vo.mk [97] 1)]) 2 r3 h4) ⟨.inl Z,.inl Z,U⟩) (qd Z (za (ya Z Z) (za (ya Z Z) (qe Z (qe Z (zb hN Z (za (yf (u':=vagg (jq (yj.mk [99,97,99,104,101,45,99,111,110,116,114,111,108] [109,97,120,45,97,103,101,61,50]))) (qf [(0,[vstr [99,97,99,104,101,45,99,111,110,116,114,111,108]]),(1,[vstr [109,97,120,45,97,103,101,61,50]])] z7e y5y Z ⟨Z,.inl ⟨_,Z,Z,Z⟩,Z,Z,.inl ⟨_,Z,Z,Z⟩,Z,U⟩) Z) (za (yf (u':=vlst (List.map jq [(yj.mk [99,97,99,104,101,45,99,111,110,116,114,111,108] [109,97,120,45,97,103,101,61,50])])) (wo [_] y52 ⟨Z,.inr Z,Z,U⟩ Z Z) Z) (za (yf (u':=vagg (y0s (kl.mk 200 ([(yj.mk [99,97,99,104,101,45,99,111,110,116,114,111,108] [109,97,120,45,97,103,101,61,50])]) []))) (qf [(0,[vint 200]),(1,[vlst (List.map jq ([(yj.mk [99,97,99,104,101,45,99,111,110,116,114,111,108] [109,97,120,45,97,103,101,61,50])]))])] x1z x2l Z ⟨Z,.inl ⟨_,Z,Z,Z⟩,Z,Z,.inl ⟨_,Z,Z,Z⟩,Z,U⟩) Z) ?_)))))))))))))))))))))
 refine bE H fun r5 h6 H=>za (zl (w0u (kl.mk 200 ([(yj.mk [99,97,99,104,101,45,99,111,110,116,114,111,108] [109,97,120,45,97,103,101,61,50])]) []) r5 h6) ⟨.inl Z,U⟩) (qd Z (za (ya Z Z) (za (ya Z Z) (qe Z (qe Z (yb (ι:=Bool) (fun i=>[(0,.dat (zf i))]) (fun i=>[]) (fun i=>un i=some r) (fun i=>Z) ?_ ?_))))))
 ·skip
  refine zt hN Z (qd Z (za (yw Z Z) (qd Z (yc (j:=2) Z Z (fun h7 => ?_) (fun h7 => ?_) Z))))
  ·refine u1 h7 H fun h8 H=>zd Z Z h7 (zi (.dat _) Z) (zd Z Z h7 (vd Z Z) (za (zz Z (bTT h8) Z) (qd Z (yc (j:=6) Z Z (fun h9 => ?_) (fun h9 => ?_) Z))))
   ·refine u1 h9 H fun h10 H=>zd Z Z h9 (zi (.dat _) Z) (zd Z Z h9 (yw Z Z) (za (zz Z (bTT h10) Z) (qd Z (yc (j:=10) Z Z (fun h11 => ?_) (fun h11 => ?_) Z))))
    ·refine u1 h11 H fun h12 H=>zd Z Z h11 (zi (.dat _) Z) (zd Z Z h11 (yo qi Z) (zd Z Z h11 (yw Z Z) (za (zz Z (bTT h12) Z) (qd Z (yc (j:=15) Z Z (fun h13 => ?_) (fun h13 => ?_) Z)))))
     ·refine u1 h13 H fun h14 H=>zd Z Z h13 (zi (.dat _) Z) (zd Z Z h13 (yw Z Z) (za (zz Z (bTT h14) Z) (qd Z (yc (j:=19) Z Z (fun h15 => ?_) (fun h15 => ?_) Z))))
      ·refine u1 h15 H fun h16 H=>zd Z Z h15 (zi (.dat _) Z) (zd Z Z h15 (yw Z Z) (za (zz Z (bTT h16) Z) (qd Z (yc (j:=23) Z Z (fun h17 => ?_) (fun h17 => ?_) Z))))
       ·exact u1 h17 H fun h18 H=>bE H fun r19 h20 H=>zd Z Z h17 (zl (y3y [97,98] r19 h20) ⟨.inl Z,U⟩) (zd Z Z h17 (vd Z Z) (za (zz Z (bTT h18) Z) (qe Z ⟨decide (r19=[89,87,73]),H,⟨Z,U⟩,U⟩)))
       ·exact u2 h17 H fun h21 H=>zc Z Z h17 (zc Z Z h17 (za (zv Z (bFF h21) Z) (qe Z ⟨false,H,⟨Z,U⟩,U⟩)))
      ·exact u2 h15 H fun h22 H=>zc Z Z h15 (zc Z Z h15 (za (zv Z (bFF h22) Z) (qd Z (zc Z Z Z (zc Z Z Z (za (zv Z Z Z) (qe Z ⟨false,H,⟨Z,U⟩,U⟩)))))))
     ·exact u2 h13 H fun h23 H=>zc Z Z h13 (zc Z Z h13 (za (zv Z (bFF h23) Z) (qd Z (zc Z Z Z (zc Z Z Z (za (zv Z Z Z) (qd Z (zc Z Z Z (zc Z Z Z (za (zv Z Z Z) (qe Z ⟨false,H,⟨Z,U⟩,U⟩)))))))))))
    ·exact u2 h11 H fun h24 H=>zc Z Z h11 (zc Z Z h11 (zc Z Z h11 (za (zv Z (bFF h24) Z) (qd Z (zc Z Z Z (zc Z Z Z (za (zv Z Z Z) (qd Z (zc Z Z Z (zc Z Z Z (za (zv Z Z Z) (qd Z (zc Z Z Z (zc Z Z Z (za (zv Z Z Z) (qe Z ⟨false,H,⟨Z,U⟩,U⟩))))))))))))))))
   ·exact u2 h9 H fun h25 H=>zc Z Z h9 (zc Z Z h9 (za (zv Z (bFF h25) Z) (qd Z (zc Z Z Z (zc Z Z Z (zc Z Z Z (za (zv Z Z Z) (qd Z (zc Z Z Z (zc Z Z Z (za (zv Z Z Z) (qd Z (zc Z Z Z (zc Z Z Z (za (zv Z Z Z) (qd Z (zc Z Z Z (zc Z Z Z (za (zv Z Z Z) (qe Z ⟨false,H,⟨Z,U⟩,U⟩))))))))))))))))))))
  ·refine u2 h7 H fun h26 H=>zc Z Z h7 (zc Z Z h7 (za (zv Z (bFF h26) Z) (qd Z (zc Z Z Z (zc Z Z Z (za (zv Z Z Z) (qd Z (zc Z Z Z (zc Z Z Z (zc Z Z Z (za (zv Z Z Z) (qd Z (zc Z Z Z (zc Z Z Z (za (zv Z Z Z) (qd Z (zc Z Z Z (zc Z Z Z (za (zv Z Z Z) (qd Z (zc Z Z Z (zc Z Z Z ?_))))))))))))))))))))))
   exact za (zv Z Z Z) (qe Z ⟨false,H,⟨Z,U⟩,U⟩)
 ·rintro v27 H
  replace H:un v27=some r:=H
  unfold un at H
  refine zh ?_
  cases H
  exact ⟨U,.inl Z,U⟩
theorem y88 (s1:(List yh)) (p1:yh→Option (Bool)) (fv1:Nat) (us1:List V) (hp1:∀ a0 r,p1 a0=some r→Fn Tryz.prog fv1 ([vagg (wm a0)]++us1) (zu [zf r])) (r:(Int)) (H:z1v s1 p1=some r):Fn Tryz.prog 152 [vlst (List.map wm s1),vfn fv1 us1] (zu [vint r]):=by
 refine ⟨by kernel_rfl,zy (us:=[vint r]) Tryz.func152 Z Z Z Z fun X hN => ?_⟩
 unfold z1v at H
 refine zb hN Z (qe Z (ze (zb hN Z (qd Z (za (yo z7f Z) (qd Z (zx (gE H fun h4 H=>wd (fun (k2:Nat) (s:Unit)=>[(0,.dat (vlst (List.map wm s1))),(1,.dat (vfn fv1 us1)),(7,.dat (vint (s1.length:Int))),(8,.dat (vint (k2:Int)))]) (fun (k2:Nat) (s:Unit)=>[]) () H ⟨Z,Z,Z,Z,U⟩ U (fun _ _=>Z) ?_ ?_))))))))
 ·rintro ⟨⟩ H
  replace H:y2g=some r:=H
  unfold y2g at H
  refine zb hN Z (za (zw Z Z) (ze (zg _ Z (fun h=>(lt_t h).elim) (fun h => ?_))))
  refine yu (zb hN Z (qe Z (zh ?_)))
  cases H
  exact ⟨U,.inl Z,U⟩
 ·rintro k2 x5 ⟨⟩ q3 h6 h7 H hq3
  replace H:y2f p1 k2 x5=some q3:=H
  unfold y2f at H
  refine zb hN Z (za (zw Z Z) (ze (zg _ Z (fun h => ?_) (fun h=>(lt_f h6 h).elim))))
  refine zj (ze (zx (zb hN Z (qd Z (qe Z (zb hN Z (qd Z (qd Z (qd Z (za (qt Zw (fun _=>Z) Z Z h7) (za (ke ui Z (yp h7) Z) (bE H fun r8 h9 H=>za (z08 (hp1 x5 r8 h9) Z ⟨.inl Z,U⟩) (zg _ Z (fun h10 => ?_) (fun h10 => ?_))))))))))))))
  ·refine tE h10 H fun H=>zb hN Z (qd Z (qe Z (zh ?_)))
   replace H:=retl H hq3
   cases H
   exact ⟨U,.inl Z,U⟩
  ·exact fE h10 H fun H=>zj (zt hN Z (za (qo Z Z (by omega)) (qd Z ⟨_,yx H,⟨Z,Z,Z,Z,U⟩,U⟩)))
theorem x9p (s1:(List yh)) (p1:yh→Option (Bool)) (fv1:Nat) (us1:List V) (hp1:∀ a0 r,p1 a0=some r→Fn Tryz.prog fv1 ([vagg (wm a0)]++us1) (zu [zf r])) (r:(Bool)) (H:z9g s1 p1=some r):Fn Tryz.prog 103 [vlst (List.map wm s1),vfn fv1 us1] (zu [zf r]):=by
 refine ⟨by kernel_rfl,zy (us:=[zf r]) Tryz.func103 Z Z Z Z fun X hN => ?_⟩
 unfold z9g at H
 refine zb hN Z (qe Z (zb hN Z (qd Z (qd Z (bE H fun r2 h3 H=>za (zl (y88 s1 p1 fv1 us1 hp1 r2 h3) ⟨.inl Z,.inl Z,U⟩) (za (wy Z Z) (qe Z (zh ?_))))))))
 cases H
 exact ⟨U,.inl Z,U⟩
theorem x8h (o1:yh) (c2:yh) (r:(Bool)) (H:z4p o1 c2=some r):Fn Tryz.prog 104 [vagg (wm o1),qh [[vstr c2.Id,vstr c2.Secret,vint c2.From,vint c2.To,vint c2.Until]] 0 0] (zu [zf r]):=by
 refine ⟨by kernel_rfl,zy (us:=[zf r]) Tryz.func104 Z Z Z Z fun X hN => ?_⟩
 unfold z4p at H
 refine zb hN Z (zk (vr 1 Z) Z (qe Z (zb hN Z (za (zo z3i Z) (zp (zr tyS9 Z Z) Z (za (vu z3i Z) (za (yi tyS9 Z Z Z) (za (vd Z Z) (qe Z (zh ?_))))))))))
 cases H
 exact ⟨U,.inl Z,U⟩
theorem x8k (s1:Bs) (r:(Int)) (H:z4s s1=some r):Fn Tryz.prog 105 [vstr s1] (zu [vint r]):=by
 refine ⟨by kernel_rfl,zy (us:=[vint r]) Tryz.func105 Z Z Z Z fun X hN => ?_⟩
 unfold z4s at H
 refine zb hN Z (qe Z (ze (zb hN Z (qd Z (za (qj tyU9 Z) (qd Z (zx (gE H fun h4 H=>wd (fun (k2:Nat) (s:Unit)=>[(0,.dat (vstr s1)),(5,.dat (vint (s1.length:Int))),(6,.dat (vint (k2:Int)))]) (fun (k2:Nat) (s:Unit)=>[]) () H ⟨Z,Z,Z,U⟩ U (fun _ _=>Z) ?_ ?_))))))))
 ·rintro ⟨⟩ H
  replace H:z7w s1=some r:=H
  unfold z7w at H
  refine zb hN Z (za (zw Z Z) (ze (zg _ Z (fun h=>(lt_t h).elim) (fun h => ?_))))
  refine yu (ze (zb hN Z (qd Z (za (vd Z Z) (zg _ Z (fun h6 => ?_) (fun h6 => ?_))))))
  ·refine tE h6 H fun H=>zb hN Z (qe Z (zh ?_))
   cases H
   exact ⟨U,.inl Z,U⟩
  ·refine fE h6 H fun H=>zj (ze (zb hN Z (qd Z (za (qj tyU9 Z) (za (qc Z Z) (zg _ Z (fun h7 => ?_) (fun h7 => ?_)))))))
   ·refine tE h7 H fun H=>zb hN Z (qe Z (zh ?_))
    cases H
    exact ⟨U,.inl Z,U⟩
   ·refine fE h7 H fun H=>zj (zb hN Z (qe Z (zh ?_)))
    cases H
    exact ⟨U,.inl Z,U⟩
 ·rintro k2 x5 ⟨⟩ q3 h8 h9 H hq3
  replace H:z7v k2 x5=some q3:=H
  unfold z7v at H
  refine zb hN Z (za (zw Z Z) (ze (zg _ Z (fun h => ?_) (fun h=>(lt_f h8 h).elim))))
  refine zj (ze (zx (zb hN Z (qd Z (qe Z (yb (ι:=Bool) (fun i=>[(0,.dat (vstr s1)),(5,.dat (vint (s1.length:Int))),(6,.dat (vint (k2:Int))),(18,.dat (zf i))]) (fun i=>[]) (fun i=>z0v i=some q3) (fun i=>Z) ?_ ?_))))))
  ·skip
   refine zt hN Z (qd Z (qd Z (za (wg tyU9 Z Z h9) (za (zw Z Z) (qd Z (yc (j:=4) Z Z (fun h10 => ?_) (fun h10 => ?_) Z))))))
   ·exact u3 h10 H fun h11 H=>zd Z Z h10 (zi (.dat _) Z) (zd Z Z h10 (zi (.dat _) Z) (zd Z Z h10 (wg tyU9 Z Z h9) (zd Z Z h10 (qc Z Z) (za (zv Z (bFF h11) Z) ⟨decide (126 < (x5.toNat:Int)),H,⟨Z,Z,Z,Z,U⟩,U⟩))))
   ·exact u4 h10 H fun h12 H=>zc Z Z h10 (zc Z Z h10 (zc Z Z h10 (zc Z Z h10 (za (zz Z (bTT h12) Z) ⟨true,H,⟨Z,Z,Z,Z,U⟩,U⟩))))
  ·rintro v13 H
   replace H:z0v v13=some q3:=H
   unfold z0v at H
   refine zg _ Z (fun h14 => ?_) (fun h14 => ?_)
   ·refine tE h14 H fun H=>zb hN Z (qe Z (zh ?_))
    replace H:=retl H hq3
    cases H
    exact ⟨U,.inl Z,U⟩
   ·exact fE h14 H fun H=>zj (zt hN Z (za (qo Z Z (by omega)) (qd Z ⟨_,yx H,⟨Z,Z,Z,U⟩,U⟩)))
theorem x8i (l1:(List yh)) (i2:Int) (r:(Int)) (H:z4q l1 i2=some r):Fn Tryz.prog 65 [vlst (List.map wm l1),vint i2] (zu [vint r]):=by
 refine ⟨by kernel_rfl,zy (us:=[vint r]) Tryz.func65 Z Z Z Z fun X hN => ?_⟩
 unfold z4q at H
 refine zb hN Z (qe Z (zb hN Z (qd Z (qd Z (bE H fun x3 h4 H=>za (vq Zw (fun _=>Z) Z Z h4) (za (ke ui Z (yp (ww h4).2) Z) (zk (qr 1 z0o Z) Z (zk (ym ui Z Z Z Z) Z (ze (zb hN Z (za (zo z3i Z) (zp (zr tyS9 Z Z) Z (bE H fun r5 h6 H=>za (zl (jx x3.Id r5 h6) ⟨.inl Z,U⟩) (za (yt Z) (zg _ Z (fun h7 => ?_) (fun h7 => ?_))))))))))))))))
 ·refine tE h7 H fun H=>zb hN Z (qe Z (zh ?_))
  cases H
  exact ⟨U,.inl Z,U⟩
 ·refine fE h7 H fun H=>zj (ze (ze (kr 1 [vstr x3.Id,vstr x3.Secret,vint x3.From,vint x3.To,vint x3.Until] Z Z (zt hN Z (qd Z (qd Z (bE H fun l8 h9 H=>za (y6q Zw (fun _=>Z) Z Z Z h9) (za (xb (us:=[_]) ⟨Z,U⟩) (bE H fun r10 h11 H=>za (zl (x9p l8 (fun (a0:yh)=>z4p a0 x3) 104 [qh [[vstr x3.Id,vstr x3.Secret,vint x3.From,vint x3.To,vint x3.Until]] 0 0] (fun a0 r h=>x8h a0 x3 r h) r10 h11) ⟨.inl Z,.inl Z,U⟩) (zg _ Z (fun h12 => ?_) (fun h12 => ?_)))))))))))
  ·refine tE h12 H fun H=>zb hN Z (qe Z (zh ?_))
   cases H
   exact ⟨U,.inl Z,U⟩
  ·refine fE h12 H fun H=>zj (ze (zb hN Z (za (vu y1k Z) (za (yi tyS9 Z Z Z) (bE H fun r13 h14 H=>za (zl (x8k x3.Secret r13 h14) ⟨.inl Z,U⟩) (qe Z (zb hN Z (qd Z (za (ql Z Z) (zg _ Z (fun h15 => ?_) (fun h15 => ?_)))))))))))
   ·refine tE h15 H fun H=>zb hN Z (qd Z (qe Z (zh ?_)))
    cases H
    exact ⟨U,.inl Z,U⟩
   ·refine fE h15 H fun H=>zj (ze (zb hN Z (za (vu z3h Z) (za (yi tyS3 Z Z Z) (za (vu y1j Z) (za (yi tyS3 Z Z Z) (bE H fun r16 h17 H=>za (zl (Zk x3.From 0 x3.To r16 h17) ⟨.inl Z,.inl Z,.inl Z,U⟩) (qd Z (yg Z Z (fun hc=>vu y1j Z) (yg Z Z (fun hc=>yi tyS3 (cnd (c:=(!r16)) hc) Z Z) (yg Z Z (fun hc=>vu z7n Z) (yg Z Z (fun hc=>yi tyS3 (cnd (c:=(!r16)) hc) Z Z) (yg Z Z (fun hc=>qc (cnd (c:=(!r16)) hc) (cnd (c:=(!r16)) hc)) (za (ve Z Z (fun hb=>(cnd (c:=(!r16)) (notI hb)))) (qd Z (yg Z Z (fun hc=>vu z7n Z) (yg Z Z (fun hc=>yi tyS3 (cnd (c:=(!(r16 || (decide (x3.Until < x3.To))))) hc) Z Z) (yg Z Z (fun hc=>qc (cnd (c:=(!(r16 || (decide (x3.Until < x3.To))))) hc) Z) (za (ve Z Z (fun hb=>(cnd (c:=(!(r16 || (decide (x3.Until < x3.To))))) (notI hb)))) (zg _ Z (fun h18 => ?_) (fun h18 => ?_)))))))))))))))))))))
    ·refine tE h18 H fun H=>zb hN Z (qe Z (zh ?_))
     cases H
     exact ⟨U,.inl Z,U⟩
    ·refine fE h18 H fun H=>zj (ze (yb (ι:=Bool) (fun i=>[(55,.dat (zf i))]) (fun i=>[]) (fun i=>Zz i=some r) (fun i=>Z) ?_ ?_))
     ·skip
      refine wq mixed hN Z Z (qd Z (za (qc Z Z) (qd Z (yc (j:=2) Z Z (fun h19 => ?_) (fun h19 => ?_) Z))))
      ·refine u1 h19 H fun h20 H=>zd Z Z h19 (vu z3h Z) (zd Z Z h19 (yi tyS3 Z Z Z) (zd Z Z h19 (zi (.dat _) Z) (zd Z Z h19 (zi (.dat _) Z) (zd Z Z h19 (ye _ Z Z (.inr (.inl ⟨Z,Z⟩))) (bE H fun x21 h22 H=>zd Z Z h19 (vq Zw (fun _=>Z) Z Z h22) (zd Z Z h19 (vu z3h Z) (zd Z Z h19 (yi tyS3 Z (yp (ww h22).2) Z) (zd Z Z h19 (zw Z Z) (za (zz Z (bTT h20) Z) ⟨Z,?_⟩)))))))))
       exact ⟨decide (x3.From < x21.From),H,⟨Z,U⟩,U⟩
      ·refine u2 h19 H fun h23 H=>zc Z Z h19 (zc Z Z h19 (zc Z Z h19 (zc Z Z h19 (zc Z Z h19 (zc Z Z h19 (zc Z Z h19 (zc Z Z h19 (zc Z Z h19 (za (zv Z (bFF h23) Z) ⟨Z,?_⟩)))))))))
       exact ⟨false,H,⟨Z,U⟩,U⟩
     ·rintro v24 H
      replace H:Zz v24=some r:=H
      unfold Zz at H
      refine zg _ Z (fun h25 => ?_) (fun h25 => ?_)
      ·refine tE h25 H fun H=>zb hN Z (qe Z (zh ?_))
       cases H
       exact ⟨U,.inl Z,U⟩
      ·refine fE h25 H fun H=>zj (zb hN Z (qe Z (zh ?_)))
       cases H
       exact ⟨U,.inl Z,U⟩
theorem y3z (l1:(List yh)) (r:(Int)) (H:Yh l1=some r):Fn Tryz.prog 28 [vlst (List.map wm l1)] (zu [vint r]):=by
 refine ⟨by kernel_rfl,zy (us:=[vint r]) Tryz.func28 Z Z Z Z fun X hN => ?_⟩
 unfold Yh at H
 refine zb hN Z (qe Z (ze (zb hN Z (qd Z (za (yo z7f Z) (za (qc Z Z) (zg _ Z (fun h2 => ?_) (fun h2 => ?_))))))))
 ·refine tE h2 H fun H=>zb hN Z (qe Z (zh ?_))
  cases H
  exact ⟨U,.inl Z,U⟩
 ·refine fE h2 H fun H=>zj (ze (zb hN Z (qd Z (za (yo z7f Z) (qd Z (zx (gE H fun h5 H=>wd (fun (k3:Nat) (s:Unit)=>[(0,.dat (vlst (List.map wm l1))),(9,.dat (vint (l1.length:Int))),(10,.dat (vint (k3:Int)))]) (fun (k3:Nat) (s:Unit)=>[]) () H ⟨Z,Z,Z,U⟩ U (fun _ _=>Z) ?_ ?_)))))))
  ·rintro ⟨⟩ H
   replace H:y1w=some r:=H
   unfold y1w at H
   refine zb hN Z (za (zw Z Z) (ze (zg _ Z (fun h=>(lt_t h).elim) (fun h => ?_))))
   refine yu (zb hN Z (qe Z (zh ?_)))
   cases H
   exact ⟨U,.inl Z,U⟩
  ·rintro k3 x6 ⟨⟩ q4 h7 h8 H hq4
   replace H:z71 l1 k3 x6=some q4:=H
   unfold z71 at H
   refine zb hN Z (za (zw Z Z) (ze (zg _ Z (fun h => ?_) (fun h=>(lt_f h7 h).elim))))
   refine zj (ze (zx (zb hN Z (qd Z (qe Z (zb hN Z (qd Z (qd Z (bE H fun r9 h10 H=>za (zl (x8i l1 (k3:Int) r9 h10) ⟨.inl Z,.inl Z,U⟩) (qe Z (zb hN Z (qd Z (za (ql Z Z) (zg _ Z (fun h11 => ?_) (fun h11 => ?_)))))))))))))))
   ·refine tE h11 H fun H=>zb hN Z (qd Z (qe Z (zh ?_)))
    replace H:=retl H hq4
    cases H
    exact ⟨U,.inl Z,U⟩
   ·exact fE h11 H fun H=>zj (zt hN Z (za (qo Z Z (by omega)) (qd Z ⟨_,yx H,⟨Z,Z,Z,U⟩,U⟩)))
theorem y86 (n:Int) (r:Bs) (H:z5g n=some r):Fn Tryz.prog 66 [vint n] (zu [vstr r]):=by
 obtain ⟨⟨h1,h2⟩,h3⟩:=gif H
 cases h3
 refine uq (by kernel_rfl) fun M w vs hM h => ?_
 have hv:=jw (us:=[.int .i64 n]) h
 subst hv
 refine (Tryz.strconv_Itoa n h1 h2 w (x6t hM)).mono ?_
 rintro e w' ⟨rfl,k,os,rfl⟩
 exact ⟨_,Z,Z,Kp.of_below ⟨Z,Z,Z,by show w.heap.size≤(w.heap++os).size; rw [Array.size_append]; omega,fun j hj=>by show (w.heap++os)[j]?=w.heap[j]?; exact Array.getElem?_append_left hj⟩⟩
theorem x87 (v1:zm) (r:(Bs×Int)) (H:Yg v1=some r):Fn Tryz.prog 29 [vagg (yn v1)] (zu [vstr r.1,vint r.2]):=by
 refine ⟨by kernel_rfl,zy (us:=[vstr r.1,vint r.2]) Tryz.func29 Z Z Z Z fun X hN => ?_⟩
 unfold Yg at H
 refine zb hN Z (zk (vr 1 Z) Z (qe Z (qe Z (ze (zb hN Z (zp (vh yk Z Z Z) Z (bE H fun r2 h3 H=>za (zl (z9y v1 r2 h3) ⟨.inl Z,U⟩) (qe Z (zb hN Z (qd Z (za (ql Z Z) (zg _ Z (fun h4 => ?_) (fun h4 => ?_)))))))))))))
 ·refine tE h4 H fun H=>zb hN Z (qd Z (qe Z (qe Z (zh ?_))))
  cases H
  exact ⟨U,.inl Z,.inl Z,U⟩
 ·refine fE h4 H fun H=>zj (zb hN Z (za (zo z0u Z) (zp (zr tyS9 Z Z) Z (gE H fun h5 H=>za (va Z Z (Nat.le_trans h5 (by decide))) (gE H fun h6 H=>za (va Z Z (Nat.le_trans h6 (by decide))) (za (zo z3j Z) (zp (zr tyS9 Z Z) Z (gE H fun h7 H=>za (va Z Z (Nat.le_trans h7 (by decide))) (gE H fun h8 H=>za (va Z Z (Nat.le_trans h8 (by decide))) (za (zo z0t Z) (zp (zr tyS9 Z Z) Z (gE H fun h9 H=>za (va Z Z (Nat.le_trans h9 (by decide))) (gE H fun h10 H=>za (va Z Z (Nat.le_trans h10 (by decide))) (qe Z (yb (ι:=Bs) (fun i=>[(1,.ptr 1 0),(5,.dat (vstr i))]) (fun i=>[(1,.box none 28 [.dat (vstr v1.Id),.dat (vstr v1.Subject),.dat (vstr v1.Issuer),.dat (vstr v1.Parent),.dat (vlst (List.map zn v1.Audience)),.dat (vlst (List.map zn v1.Scopes)),.dat (vint v1.From),.dat (vint v1.To)])]) (fun i=>Yb v1 i=some r) (fun i=>Z) ?_ ?_)))))))))))))))
  ·skip
   refine zb hN Z (za (zo Qc Z) (zp (zr tyS9 Z Z) Z (za (js Z Z) (zg _ Z (fun h11 => ?_) (fun h11 => ?_)))))
   ·exact tE h11 H fun H=>zt hN Z (qd Z (za (zo Qc Z) (zp (zr tyS9 Z Z) Z (gE H fun h12 H=>za (va Z Z (Nat.le_trans h12 (by decide))) (gE H fun h13 H=>za (va Z Z (Nat.le_trans h13 (by decide))) (gE H fun h14 H=>za (va Z Z (Nat.le_trans h14 (by decide))) (qe Z ⟨((((((([105,100,32]++v1.Id)++[10,115,117,98,106,101,99,116,32])++v1.Subject)++[10,105,115,115,117,101,114,32])++v1.Issuer)++[10])++(([112,97,114,101,110,116,32]++v1.Parent)++[10])),H,⟨Z,Z,U⟩,⟨Z,U⟩⟩)))))))
   ·exact fE h11 H fun H=>zj ⟨(((((([105,100,32]++v1.Id)++[10,115,117,98,106,101,99,116,32])++v1.Subject)++[10,105,115,115,117,101,114,32])++v1.Issuer)++[10]),H,⟨Z,Z,U⟩,⟨Z,U⟩⟩
  ·rintro v15 H
   replace H:Yb v1 v15=some r:=H
   unfold Yb at H
   refine yb (ι:=Bs) (fun i=>[(1,.ptr 1 0),(5,.dat (vstr i))]) (fun i=>[(1,.box none 28 [.dat (vstr v1.Id),.dat (vstr v1.Subject),.dat (vstr v1.Issuer),.dat (vstr v1.Parent),.dat (vlst (List.map zn v1.Audience)),.dat (vlst (List.map zn v1.Scopes)),.dat (vint v1.From),.dat (vint v1.To)])]) (fun i=>Qo v1 i=some r) (fun i=>Z) ?_ ?_
   ·skip
    refine zb hN Z (za (zo xt Z) (zp (zr qk Z Z) Z (za (yo qi Z) (za (qc Z Z) (zg _ Z (fun h16 => ?_) (fun h16 => ?_))))))
    ·exact tE h16 H fun H=>zt hN Z (qd Z (za (zo xt Z) (zp (zr qk Z Z) Z (bE H fun r17 h18 H=>za (zl (y31 v1.Audience [32] r17 h18) ⟨.inl Z,.inl Z,U⟩) (gE H fun h19 H=>za (va Z Z (Nat.le_trans h19 (by decide))) (gE H fun h20 H=>za (va Z Z (Nat.le_trans h20 (by decide))) (gE H fun h21 H=>za (va Z Z (Nat.le_trans h21 (by decide))) (qe Z ⟨(v15++(([102,111,114,32]++r17)++[10])),H,⟨Z,Z,U⟩,⟨Z,U⟩⟩))))))))
    ·exact fE h16 H fun H=>zj ⟨v15,H,⟨Z,Z,U⟩,⟨Z,U⟩⟩
   ·rintro v22 H
    replace H:Qo v1 v22=some r:=H
    unfold Qo at H
    refine yb (ι:=Bs) (fun i=>[(1,.ptr 1 0),(5,.dat (vstr i))]) (fun i=>[(1,.box none 28 [.dat (vstr v1.Id),.dat (vstr v1.Subject),.dat (vstr v1.Issuer),.dat (vstr v1.Parent),.dat (vlst (List.map zn v1.Audience)),.dat (vlst (List.map zn v1.Scopes)),.dat (vint v1.From),.dat (vint v1.To)])]) (fun i=>xv v1 i=some r) (fun i=>Z) ?_ ?_
    ·skip
     refine zb hN Z (za (zo xr Z) (zp (zr qk Z Z) Z (za (yo qi Z) (za (qc Z Z) (zg _ Z (fun h23 => ?_) (fun h23 => ?_))))))
     ·exact tE h23 H fun H=>zt hN Z (qd Z (za (zo xr Z) (zp (zr qk Z Z) Z (bE H fun r24 h25 H=>za (zl (y31 v1.Scopes [32] r24 h25) ⟨.inl Z,.inl Z,U⟩) (gE H fun h26 H=>za (va Z Z (Nat.le_trans h26 (by decide))) (gE H fun h27 H=>za (va Z Z (Nat.le_trans h27 (by decide))) (gE H fun h28 H=>za (va Z Z (Nat.le_trans h28 (by decide))) (qe Z ⟨(v22++(([109,97,121,32]++r24)++[10])),H,⟨Z,Z,U⟩,⟨Z,U⟩⟩))))))))
     ·exact fE h23 H fun H=>zj ⟨v22,H,⟨Z,Z,U⟩,⟨Z,U⟩⟩
    ·rintro v29 H
     replace H:xv v1 v29=some r:=H
     unfold xv at H
     refine ze (wq mixed hN Z Z (qd Z (za (zo ux Z) (zp (zr tyS3 Z Z) Z (bE H fun r30 h31 H=>za (zl (y86 v1.From r30 h31) ⟨.inl Z,U⟩) (gE H fun h32 H=>za (va Z Z (Nat.le_trans h32 (by decide))) (gE H fun h33 H=>za (va Z Z (Nat.le_trans h33 (by decide))) (za (zo uw Z) (zp (zr tyS3 Z Z) Z (bE H fun r34 h35 H=>za (zl (y86 v1.To r34 h35) ⟨.inl Z,U⟩) (gE H fun h36 H=>za (va Z Z (Nat.le_trans h36 (by decide))) (gE H fun h37 H=>za (va Z Z (Nat.le_trans h37 (by decide))) (gE H fun h38 H=>za (va Z Z (Nat.le_trans h38 (by decide))) (qe Z ⟨Z,?_⟩))))))))))))))
     refine ze (zb hN Z (qd Z (za (qj tyU9 Z) (za (qc Z Z) (zg _ Z (fun h39 => ?_) (fun h39 => ?_))))))
     ·refine tE h39 H fun H=>zb hN Z (qe Z (qe Z (zh ?_)))
      cases H
      exact ⟨U,.inl Z,.inl Z,U⟩
     ·refine fE h39 H fun H=>zj (zb hN Z (qd Z (qe Z (qe Z (zh ?_)))))
      cases H
      exact ⟨U,.inl Z,.inl Z,U⟩
end Go.Proofs.YtbndlmnjeofkdadGreatDoor
