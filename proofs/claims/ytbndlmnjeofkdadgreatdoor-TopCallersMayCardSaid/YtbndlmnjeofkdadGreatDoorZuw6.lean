/- Walks along the models. Printed by a program. -/
import Derived.Test.YtbndlmnjeofkdadGreatDoorZuw5
namespace Go.Proofs.YtbndlmnjeofkdadGreatDoor
open Go.RowKit
set_option linter.unusedVariables false
set_option maxRecDepth 100000
set_option maxHeartbeats 2000000
theorem x96 (r1:ud) (r:(Int)) (H:z5n r1=some r):Fn Tryz.prog 34 [vagg (y5i r1)] (zu [vint r]):=by
 refine ⟨by kernel_rfl,zy (us:=[vint r]) Tryz.func34 Z Z Z Z fun X hN => ?_⟩
 unfold z5n at H
 refine zb hN Z (zk (vr 1 Z) Z (qe Z (ze (zb hN Z (za (zo y1e Z) (zp (zr tyS3 Z Z) Z (bE H fun r2 h3 H=>za (zl (y9g r1.At r2 h3) ⟨.inl Z,U⟩) (za (yt Z) (zg _ Z (fun h4 => ?_) (fun h4 => ?_))))))))))
 ·refine tE h4 H fun H=>zb hN Z (qe Z (zh ?_))
  cases H
  exact ⟨U,.inl Z,U⟩
 ·refine fE h4 H fun H=>zj (ze (zb hN Z (za (zo x3b Z) (zp (zr tyS9 Z Z) Z (bE H fun r5 h6 H=>za (zl (z92 r1.Method r5 h6) ⟨.inl Z,U⟩) (za (yt Z) (zg _ Z (fun h7 => ?_) (fun h7 => ?_))))))))
  ·refine tE h7 H fun H=>zb hN Z (qe Z (zh ?_))
   cases H
   exact ⟨U,.inl Z,U⟩
  ·refine fE h7 H fun H=>zj (ze (yb (ι:=Bool) (fun i=>[(1,.ptr 1 0),(33,.dat (zf i))]) (fun i=>[(1,.box none 55 [.dat (vint r1.At),.dat (vstr r1.Method),.dat (vstr r1.Host),.dat (vstr r1.Path),.dat (vstr r1.Query),.dat (vstr r1.From),.dat (vlst (List.map jq r1.Headers)),.dat (vstr r1.Body)])]) (fun i=>Yf r1 i=some r) (fun i=>Z) ?_ ?_))
   ·skip
    refine zt hN Z (za (zo x3a Z) (zp (zr tyS9 Z Z) Z (bE H fun r8 h9 H=>za (zl (x91 r1.Host r8 h9) ⟨.inl Z,U⟩) (za (yt Z) (qd Z (yc (j:=4) Z Z (fun h10 => ?_) (fun h10 => ?_) Z))))))
    ·refine u3 h10 H fun h11 H=>zd Z Z h10 (zo x28 Z) (vn Z Z h10 (zr tyS9 Z Z) Z (bE H fun r12 h13 H=>zd Z Z h10 (zl (y9b r1.Path r12 h13) ⟨.inl Z,U⟩) (zd Z Z h10 (ql Z Z) (za (zv Z (bFF h11) Z) (qd Z (yc (j:=10) Z Z (fun h14 => ?_) (fun h14 => ?_) Z))))))
     ·refine u3 h14 H fun h15 H=>zd Z Z h14 (zo x22 Z) (vn Z Z h14 (zr tyS9 Z Z) Z (bE H fun r16 h17 H=>zd Z Z h14 (zl (x9u r1.Query r16 h17) ⟨.inl Z,U⟩) (zd Z Z h14 (ql Z Z) (za (zv Z (bFF h15) Z) (qd Z (yc (j:=16) Z Z (fun h18 => ?_) (fun h18 => ?_) Z))))))
      ·exact u3 h18 H fun h19 H=>zd Z Z h18 (zo x20 Z) (vn Z Z h18 (zr tyS9 Z Z) Z (bE H fun r20 h21 H=>zd Z Z h18 (zl (y9c r1.From r20 h21) ⟨.inl Z,U⟩) (zd Z Z h18 (yt Z) (za (zv Z (bFF h19) Z) ⟨!r20,H,⟨Z,Z,U⟩,⟨Z,U⟩⟩))))
      ·exact u4 h18 H fun h22 H=>zc Z Z h18 (zc Z Z h18 (zc Z Z h18 (zc Z Z h18 (za (zz Z (bTT h22) Z) ⟨true,H,⟨Z,Z,U⟩,⟨Z,U⟩⟩))))
     ·exact u4 h14 H fun h23 H=>zc Z Z h14 (zc Z Z h14 (zc Z Z h14 (zc Z Z h14 (za (zz Z (bTT h23) Z) (qd Z (zc Z Z Z (zc Z Z Z (zc Z Z Z (zc Z Z Z (za (zz Z Z Z) ⟨true,H,⟨Z,Z,U⟩,⟨Z,U⟩⟩))))))))))
    ·exact u4 h10 H fun h24 H=>zc Z Z h10 (zc Z Z h10 (zc Z Z h10 (zc Z Z h10 (za (zz Z (bTT h24) Z) (qd Z (zc Z Z Z (zc Z Z Z (zc Z Z Z (zc Z Z Z (za (zz Z Z Z) (qd Z (zc Z Z Z (zc Z Z Z (zc Z Z Z (zc Z Z Z (za (zz Z Z Z) ⟨true,H,⟨Z,Z,U⟩,⟨Z,U⟩⟩))))))))))))))))
   ·rintro v25 H
    replace H:Yf r1 v25=some r:=H
    unfold Yf at H
    refine zg _ Z (fun h26 => ?_) (fun h26 => ?_)
    ·refine tE h26 H fun H=>zb hN Z (qe Z (zh ?_))
     cases H
     exact ⟨U,.inl Z,U⟩
    ·refine fE h26 H fun H=>zj (ze (zb hN Z (za (zo y1d Z) (zp (zr z0r Z Z) Z (bE H fun r27 h28 H=>za (zl (y9d r1.Headers r27 h28) ⟨.inl Z,U⟩) (qe Z (zb hN Z (qd Z (za (ql Z Z) (zg _ Z (fun h29 => ?_) (fun h29 => ?_)))))))))))
     ·refine tE h29 H fun H=>zb hN Z (qd Z (qe Z (zh ?_)))
      cases H
      exact ⟨U,.inl Z,U⟩
     ·refine fE h29 H fun H=>zj (ze (zb hN Z (za (zo x2z Z) (zp (zr tyS9 Z Z) Z (za (qj tyU9 Z) (za (qc Z Z) (zg _ Z (fun h30 => ?_) (fun h30 => ?_))))))))
      ·refine tE h30 H fun H=>zb hN Z (qe Z (zh ?_))
       cases H
       exact ⟨U,.inl Z,U⟩
      ·refine fE h30 H fun H=>zj (zb hN Z (qe Z (zh ?_)))
       cases H
       exact ⟨U,.inl Z,U⟩
theorem w0a (s1:Bs) (v2:Bs) (r:(Bool)) (H:z9i s1 v2=some r):Fn Tryz.prog 124 [vstr s1,vstr v2] (zu [zf r]):=by
 refine ⟨by kernel_rfl,zy (us:=[zf r]) Tryz.func124 Z Z Z Z fun X hN => ?_⟩
 unfold z9i at H
 refine zb hN Z (qe Z (yb (ι:=Bool) (fun i=>[(4,.dat (zf i))]) (fun i=>[]) (fun i=>z2h i=some r) (fun i=>Z) ?_ ?_))
 ·skip
  refine zt hN Z (qd Z (za (qj tyU9 Z) (qd Z (za (qj tyU9 Z) (za (wy Z Z) (qd Z (yc (j:=5) Z Z (fun h3 => ?_) (fun h3 => ?_) Z)))))))
  ·exact u1 h3 H fun h4 H=>zd Z Z h3 (zi (.dat _) Z) (zd Z Z h3 (zi (.dat _) Z) (zd Z Z h3 (qj tyU9 Z) (bE H fun l5 h6 H=>zd Z Z h3 (ji tyU9 Z Z Z h6) (zd Z Z h3 (zi (.dat _) Z) (zd Z Z h3 (vd Z Z) (za (zz Z (bTT h4) Z) (qe Z ⟨decide (l5=v2),H,⟨Z,U⟩,U⟩)))))))
  ·exact u2 h3 H fun h7 H=>zc Z Z h3 (zc Z Z h3 (zc Z Z h3 (zc Z Z h3 (zc Z Z h3 (zc Z Z h3 (za (zv Z (bFF h7) Z) (qe Z ⟨false,H,⟨Z,U⟩,U⟩)))))))
 ·rintro v8 H
  replace H:z2h v8=some r:=H
  unfold z2h at H
  refine zh ?_
  cases H
  exact ⟨U,.inl Z,U⟩
theorem w0b (s1:Bs) (v2:Bs) (r:(Bs×Bool)) (H:z9j s1 v2=some r):Fn Tryz.prog 119 [vstr s1,vstr v2] (zu [vstr r.1,zf r.2]):=by
 refine ⟨by kernel_rfl,zy (us:=[vstr r.1,zf r.2]) Tryz.func119 Z Z Z Z fun X hN => ?_⟩
 unfold z9j at H
 refine zb hN Z (qe Z (qe Z (ze (zb hN Z (qd Z (qd Z (bE H fun r3 h4 H=>za (zl (w0a s1 v2 r3 h4) ⟨.inl Z,.inl Z,U⟩) (za (yt Z) (zg _ Z (fun h5 => ?_) (fun h5 => ?_))))))))))
 ·refine tE h5 H fun H=>zb hN Z (qd Z (qe Z (qe Z (zh ?_))))
  cases H
  exact ⟨U,.inl Z,.inl Z,U⟩
 ·refine fE h5 H fun H=>zj (zb hN Z (qd Z (qd Z (za (qj tyU9 Z) (bE H fun l6 h7 H=>za (ji tyU9 Z Z Z h7) (qe Z (qe Z (zh ?_))))))))
  cases H
  exact ⟨U,.inl Z,.inl Z,U⟩
theorem x9i (s1:Bs) (v2:Bs) (r:(Bs×Bool)) (H:z5e s1 v2=some r):Fn Tryz.prog 79 [vstr s1,vstr v2] (zu [vstr r.1,zf r.2]):=by
 refine ⟨by kernel_rfl,zy (us:=[vstr r.1,zf r.2]) Tryz.func79 Z Z Z Z fun X hN => ?_⟩
 unfold z5e at H
 refine zb hN Z (qe Z (qe Z (zb hN Z (qd Z (qd Z (bE H fun r3 h4 H=>za (zl (w0b s1 v2 r3 h4) ⟨.inl Z,.inl Z,U⟩) (za (ya Z Z) (za (ya Z Z) (qe Z (qe Z (zh ?_)))))))))))
 cases H
 exact ⟨U,.inl Z,.inl Z,U⟩
theorem x81 (x1:yh) (c2:(List Bs)) (r:(Bool)) (H:z44 x1 c2=some r):Fn Tryz.prog 172 [vagg (wm x1),qh [[vlst (List.map zn c2)]] 0 0] (zu [zf r]):=by
 refine ⟨by kernel_rfl,zy (us:=[zf r]) Tryz.func172 Z Z Z Z fun X hN => ?_⟩
 unfold z44 at H
 refine zb hN Z (zk (vr 1 Z) Z (qe Z (ze (wq mixed hN Z Z (za (zo z3i Z) (zp (zr tyS9 Z Z) Z (za (yi qk Z Z Z) (bE H fun x3 h4 H=>za (qt qv (fun _=>Z) Z Z h4) (za (yi tyS9 Z (yp h4) Z) (za (vd Z Z) (qe Z ⟨Z,?_⟩)))))))))))
 refine zh ?_
 cases H
 exact ⟨U,.inl Z,U⟩
theorem x85 (s1:Bs) (r:(Bs×Int)) (H:z5a s1=some r):Fn Tryz.prog 173 [vstr s1] (zu [vstr r.1,vint r.2]):=by
 refine ⟨by kernel_rfl,zy (us:=[vstr r.1,vint r.2]) Tryz.func173 Z Z Z Z fun X hN => ?_⟩
 unfold z5a at H
 refine zb hN Z (qe Z (qe Z (zb hN Z (qe Z (yb (ι:=(List Int)) (fun i=>[(0,.dat (vstr s1)),(4,.row 1 i.length)]) (fun i=>[(1,.row 5 1 (List.map yy i))]) (fun i=>Qm s1 i=some r) (fun i=>Z) ?_ ?_)))))
 ·skip
  refine zb hN Z (qd Z (qe Z (zx (xn 4 1 5 1 Z Z Z (Zr (fun (s:Bs×(List Int))=>[(0,.dat (vstr s1)),(4,.row 1 s.2.length),(5,.dat (vstr s.1))]) (fun (s:Bs×(List Int))=>[(1,.row 5 1 (List.map yy s.2))]) (s1,[]) H ⟨Z,Z,Z,U⟩ ⟨Z,U⟩ (fun _=>Z) ?_)))))
  rintro ⟨rest2,l3⟩ q4 H hq4
  replace H:uz s1 rest2 l3=some q4:=H
  unfold uz at H
  refine ze (zb hN Z (qd Z (za (qj tyU9 Z) (za (qc Z Z) (zg _ Z (fun h5 => ?_) (fun h5 => ?_))))))
  ·refine tE h5 H fun H=>zj (zx (zb hN Z (qd Z (za (qj tyU9 Z) (za (y6y Z Z) (qe Z (zb hN Z (qe Z (ze (zb hN Z (qd Z (zx (gE H fun h9 H=>Yy (fun (k7:Nat) (s:Int)=>[(0,.dat (vstr s1)),(4,.row 1 l3.length),(5,.dat (vstr rest2)),(6,.dat (vint (min 4 (rest2.length:Int)))),(7,.dat (vint s)),(18,.dat (vint (k7:Int)))]) (fun (k7:Nat) (s:Int)=>[(1,.row 5 1 (List.map yy l3))]) 0 H ⟨Z,Z,Z,Z,Z,Z,U⟩ ⟨Z,U⟩ (fun _ _=>Z) ?_ ?_)))))))))))))
   ·rintro x6 H
    replace H:z3s rest2 l3 x6=some q4:=H
    unfold z3s at H
    refine zb hN Z (za (zw Z Z) (ze (zg _ Z (fun h=>(lt_t h).elim) (fun h => ?_))))
    refine yu (ze (zb hN Z (qd Z (za (ye _ Z Z (.inr (.inl ⟨Z,Z⟩))) (qd Z (zx (gE H fun h13 H=>Yy (fun (k11:Nat) (s:(List Int))=>[(0,.dat (vstr s1)),(4,.row 1 s.length),(5,.dat (vstr rest2)),(6,.dat (vint (min 4 (rest2.length:Int)))),(7,.dat (vint x6)),(37,.dat (vint (wr ((min 4 (rest2.length:Int)) - 1)))),(38,.dat (vint (k11:Int)))]) (fun (k11:Nat) (s:(List Int))=>[(1,.row 5 1 (List.map yy s))]) l3 H ⟨Z,Z,Z,Z,Z,Z,Z,U⟩ ⟨Z,U⟩ (fun _ _=>Z) ?_ ?_)))))))
    ·rintro l10 H
     replace H:Qn rest2 l10=some q4:=H
     unfold Qn at H
     refine zb hN Z (za (zw Z Z) (ze (zg _ Z (fun h=>(z9o h).elim) (fun h => ?_))))
     exact yu (zt hN Z (qd Z (qd Z (bE H fun l14 h15 H=>za (ji tyU9 Z Z Z h15) (qe Z ⟨_,yx H,⟨Z,Z,Z,U⟩,⟨Z,U⟩⟩)))))
    ·rintro k11 l10 q12 h16 H hq12
     replace H:Ql x6 k11 l10=some q12:=H
     unfold Ql at H
     refine zb hN Z (za (zw Z Z) (ze (zg _ Z (fun h => ?_) (fun h=>(z9p h16 h).elim))))
     refine zj (ze (zx (zb hN Z (qd Z (qe Z (zt hN Z (za (zi (.row _ _) Z) (qd Z (qd Z (za (ye _ Z Z (.inr (.inr ⟨Z,Z⟩))) (za (ye _ Z Z (.inr (.inl ⟨Z,Z⟩))) (gE H fun h17 H=>za (yf (z35 Z Z h17) Z) (za (vz tyU3 tyU5 Z) (za (yf (u':=vlst (List.map yy [IntKind.wrap .u8 (shr_ .i64 x6 (wr (16 - (wr (8 * (k11:Int))))))])) (wo [[_]] Qb ⟨Z,.inl ⟨_,Z,Z,Z⟩,Z,U⟩ Z Z) Z) (gE H fun h18 H=>zk (ul Qb (fun _=>Z) Z Z Z ⟨by simp,by first | (simp; done) | simpa using h18⟩ Z) Z ?_)))))))))))))))
     exact za (wu (.row _ _) Z) (zt hN Z (za (qo Z Z (by omega)) (qd Z ⟨_,yx H,⟨Z,Z,Z,Z,Z,Z,Z,U⟩,⟨Z,U⟩⟩)))
   ·rintro k7 x6 q8 h19 H hq8
    replace H:jz rest2 k7 x6=some q8:=H
    unfold jz at H
    refine zb hN Z (za (zw Z Z) (ze (zg _ Z (fun h => ?_) (fun h=>(lt_f h19 h).elim))))
    refine zj (yb (ι:=Int) (fun i=>[(0,.dat (vstr s1)),(4,.row 1 l3.length),(5,.dat (vstr rest2)),(6,.dat (vint (min 4 (rest2.length:Int)))),(7,.dat (vint i)),(18,.dat (vint (k7:Int)))]) (fun i=>[(1,.row 5 1 (List.map yy l3))]) (fun i=>Ya i=some q8) (fun i=>Z) ?_ ?_)
    ·skip
     refine zx (zb hN Z (qd Z (qe Z (zb hN Z (qd Z (za (yf (z8b Z Z (by decide)) Z) (qe Z (zb hN Z (qd Z (qd Z (za (zw Z Z) (zg _ Z (fun h20 => ?_) (fun h20 => ?_)))))))))))))
     ·refine tE h20 H fun H=>zb hN Z (qd Z (qd Z (bE H fun x21 h22 H=>za (wg tyU9 Z Z h22) (bE H fun r23 h24 H=>za (zl (y32 [65,66,67,68,69,70,71,72,73,74,75,76,77,78,79,80,81,82,83,84,85,86,87,88,89,90,97,98,99,100,101,102,103,104,105,106,107,108,109,110,111,112,113,114,115,116,117,118,119,120,121,122,48,49,50,51,52,53,54,55,56,57,45,95] (x21.toNat:Int) r23 h24) ⟨.inl Z,.inl Z,U⟩) (qe Z (ze (zb hN Z (qd Z (za (zw Z Z) (zg _ Z (fun h25 => ?_) (fun h25 => ?_)))))))))))
      ·refine tE h25 H fun H=>zb hN Z (qe Z (qe Z (zh ?_)))
       replace H:=retl H hq8
       replace H:=retl H hq4
       cases H
       exact ⟨U,.inl Z,.inl Z,U⟩
      ·exact fE h25 H fun H=>zj (zt hN Z (qd Z (qd Z (za (yf (y15 Z Z) Z) (qe Z ⟨(or_ .i64 (shl_ .i64 x6 6) r23),H,⟨Z,Z,Z,Z,Z,Z,U⟩,⟨Z,U⟩⟩)))))
     ·exact fE h20 H fun H=>zj ⟨(shl_ .i64 x6 6),H,⟨Z,Z,Z,Z,Z,Z,U⟩,⟨Z,U⟩⟩
    ·rintro x26 H
     replace H:Ya x26=some q8:=H
     unfold Ya at H
     exact zt hN Z (za (qo Z Z (by omega)) (qd Z ⟨_,yx H,⟨Z,Z,Z,Z,Z,Z,U⟩,⟨Z,U⟩⟩))
  ·refine fE h5 H fun H=>yu ?_
   replace H:=outl H hq4
   exact ⟨l3,H,⟨Z,Z,U⟩,⟨Z,U⟩⟩
 ·rintro out27 H
  replace H:Qm s1 out27=some r:=H
  unfold Qm at H
  refine ze (ze (z79 4 1 Z Z Z (zt hN Z (qd Z (za (z36 (C:=yy) xq tyU5 tyU9 (fun _=>Z) Z) (bE H fun r28 h29 H=>za (zl (y3y (strN out27) r28 h29) ⟨.inl Z,U⟩) (qd Z (za (js Z Z) (zg _ Z (fun h30 => ?_) (fun h30 => ?_))))))))))
  ·refine tE h30 H fun H=>zb hN Z (qe Z (qe Z (zh ?_)))
   cases H
   exact ⟨U,.inl Z,.inl Z,U⟩
  ·refine fE h30 H fun H=>zj (zb hN Z (qd Z (za (z36 (C:=yy) xq tyU5 tyU9 (fun _=>Z) Z) (qe Z (qe Z (zh ?_))))))
   cases H
   exact ⟨U,.inl Z,.inl Z,U⟩
theorem x99 (s1:Bs) (r:((List Bs)×Bool)) (H:z5r s1=some r):Fn Tryz.prog 209 [vstr s1] (zu [vlst (List.map zn r.1),zf r.2]):=by
 refine ⟨by kernel_rfl,zy (us:=[vlst (List.map zn r.1),zf r.2]) Tryz.func209 Z Z Z Z fun X hN => ?_⟩
 unfold z5r at H
 refine zb hN Z (qe Z (qe Z (zb hN Z (qd Z (bE H fun r2 h3 H=>za (zl (Yq s1 [10] r2 h3) ⟨.inl Z,.inl Z,U⟩) (qe Z (zb hN Z (qd Z (za (yo qi Z) (za (ye _ Z Z (.inr (.inl ⟨Z,Z⟩))) (qe Z (ze (zb hN Z (qd Z (qd Z (bE H fun x4 h5 H=>za (vq qv (fun _=>Z) Z Z h5) (za (yi tyS9 Z (yp (ww h5).2) Z) (za (vd Z Z) (zg _ Z (fun h6 => ?_) (fun h6 => ?_))))))))))))))))))))
 ·refine tE h6 H fun H=>zb hN Z (qd Z (qd Z (bE H fun l7 h8 H=>za (y6q qv (fun _=>Z) Z Z Z h8) (qe Z (qe Z (zh ?_))))))
  cases H
  exact ⟨U,.inl Z,.inl Z,U⟩
 ·refine fE h6 H fun H=>zj (zb hN Z (qd Z (qe Z (qe Z (zh ?_)))))
  cases H
  exact ⟨U,.inl Z,.inl Z,U⟩
theorem x97 (s1:Bs) (r:((List Bs)×Bool)) (H:z5o s1=some r):Fn Tryz.prog 232 [vstr s1] (zu [vlst (List.map zn r.1),zf r.2]):=by
 refine ⟨by kernel_rfl,zy (us:=[vlst (List.map zn r.1),zf r.2]) Tryz.func232 Z Z Z Z fun X hN => ?_⟩
 unfold z5o at H
 refine zb hN Z (qe Z (qe Z (zb hN Z (qd Z (bE H fun r2 h3 H=>za (zl (Yq s1 [32] r2 h3) ⟨.inl Z,.inl Z,U⟩) (qe Z (zb hN Z (qd Z (qd Z (bE H fun r4 h5 H=>za (zl (y36 r2 [] r4 h5) ⟨.inl Z,.inl Z,U⟩) (za (yt Z) (qe Z (qe Z (zh ?_))))))))))))))
 cases H
 exact ⟨U,.inl Z,.inl Z,U⟩
theorem z9w (s1:yl) (v2:Bs) (v3:Bool) (r:((List Bs)×yl)) (H:jt s1 v2 v3=some r):Imp Tryz.prog 211 248 (xp s1) [vstr v2,zf v3] (zu [vlst (List.map zn r.1)]) (xp r.2):=by
 refine xh (us:=[vlst (List.map zn r.1)]) (cs':=(xp r.2)) (by kernel_rfl) Tryz.func211 Z Z Z Z fun X bl hN => ?_
 unfold jt at H
 refine zb hN Z (qe Z (ze (zb hN Z (za (zi (.ptr _ _) Z) (za (qp Z) (za (zo Zv Z) (zp (zr tyS4 Z Z) Z (zg _ Z (fun h4 => ?_) (fun h4 => ?_)))))))))
 ·refine tE h4 H fun H=>zb hN Z (qe Z (zh ?_))
  cases H
  exact ⟨U,⟨.inr ⟨Z,Z⟩,U⟩,Z⟩
 ·refine fE h4 H fun H=>zj (ze (ze (wq mixed hN Z Z (za (zi (.ptr _ _) Z) (za (qp Z) (za (zo uj Z) (zp (zr tyS3 Z Z) Z (za (zi (.ptr _ _) Z) (za (qp Z) (za (zo z3l Z) (zp (zr qk Z Z) Z (za (yo qi Z) (za (yw Z Z) ⟨Z,?_⟩)))))))))))))
  refine zg _ Z (fun h5 => ?_) (fun h5 => ?_)
  ·refine tE h5 H fun H=>zb hN Z (za (zi (.ptr _ _) Z) (qd Z (za (qp Z) (za (zo Zv Z) (zk (wl tyS4 Z Z Z Z) Z (zb hN Z (qe Z (zh ?_))))))))
   cases H
   exact ⟨U,⟨.inr ⟨Z,Z⟩,U⟩,Z⟩
  ·refine fE h5 H fun H=>zj (ze (wq mixed hN Z Z (za (zi (.ptr _ _) Z) (za (qp Z) (za (zo z3l Z) (zp (zr qk Z Z) Z (za (zi (.ptr _ _) Z) (za (qp Z) (za (zo uj Z) (zp (zr tyS3 Z Z) Z (bE H fun x6 h7 H=>za (vq qv (fun _=>Z) Z Z h7) (za (yi tyS9 Z (yp (ww h7).2) Z) (bE H fun r8 h9 H=>za (zl (y34 x6 [32] r8 h9) ⟨.inl Z,.inl Z,U⟩) (qd Z (za (ya Z Z) (za (ya Z Z) (za (ya Z Z) (qe Z (qe Z (qe Z ?_))))))))))))))))))))
   refine ⟨Z,?_⟩
   refine ze (zb hN Z (qd Z (qd Z (za (js Z Z) (zg _ Z (fun h10 => ?_) (fun h10 => ?_))))))
   ·refine tE h10 H fun H=>zb hN Z (za (zi (.ptr _ _) Z) (qd Z (za (qp Z) (za (zo Zv Z) (zk (wl tyS4 Z Z Z Z) Z (zb hN Z (qe Z (zh ?_))))))))
    cases H
    exact ⟨U,⟨.inr ⟨Z,Z⟩,U⟩,Z⟩
   ·refine fE h10 H fun H=>zj (zb hN Z (qd Z (bE H fun r11 h12 H=>za (zl (x97 r8.2.1 r11 h12) ⟨.inl Z,U⟩) (qd Z (za (ya Z Z) (za (ya Z Z) (qe Z (qe Z (ze (ze (wq mixed hN Z Z (qd Z (za (yt Z) (qd Z (yg Z Z (fun hc=>zi (.ptr _ _) Z) (yg Z Z (fun hc=>qp (cnd (c:=(!(!r11.2))) hc)) (yg Z Z (fun hc=>zo y6a (cnd (c:=(!(!r11.2))) hc)) (kf Z Z (fun hc=>zr tyS4 (cnd (c:=(!(!r11.2))) hc) Z) Z z64 (yg Z Z (fun hc=>yt (cnd (c:=(!(!r11.2))) hc)) (yg Z Z (fun hc=>zi (.dat _) (cnd (c:=(!(!r11.2))) hc)) (qu Z Z (fun hc=>zi (.ptr _ _) Z) ?_)))))))))))))))))))))
    refine qu Z Z (fun hc=>qp (cnd (c:=((!(!r11.2)) && (!s1.ended_))) hc)) (qu Z Z (fun hc=>zo uj (cnd (c:=((!(!r11.2)) && (!s1.ended_))) hc)) (y7n Z Z (fun hc=>zr tyS3 (cnd (c:=((!(!r11.2)) && (!s1.ended_))) hc) Z) Z z64 (qu Z Z (fun hc=>zi (.ptr _ _) Z) (qu Z Z (fun hc=>qp (cnd (c:=((!(!r11.2)) && (!s1.ended_))) hc)) (qu Z Z (fun hc=>zo z3l (cnd (c:=((!(!r11.2)) && (!s1.ended_))) hc)) (y7n Z Z (fun hc=>zr qk (cnd (c:=((!(!r11.2)) && (!s1.ended_))) hc) Z) Z z64 (qu Z Z (fun hc=>yo qi (cnd (c:=((!(!r11.2)) && (!s1.ended_))) hc)) (qu Z Z (fun hc=>ye _ (cnd (c:=((!(!r11.2)) && (!s1.ended_))) hc) Z (.inr (.inl ⟨Z,Z⟩))) (qu Z Z (fun hc=>yw (cnd (c:=((!(!r11.2)) && (!s1.ended_))) hc) (cnd (c:=((!(!r11.2)) && (!s1.ended_))) hc)) (yg Z Z (fun hc=>wx (cnd (c:=(!(!r11.2))) hc) (fun hb=>(cnd (c:=((!(!r11.2)) && (!s1.ended_))) (andI hc hb))) Z) (za (ve Z Z (fun hb=>(cnd (c:=(!(!r11.2))) (notI hb)))) ⟨Z,?_⟩)))))))))))
    refine zg _ Z (fun h13 => ?_) (fun h13 => ?_)
    ·refine tE h13 H fun H=>zb hN Z (za (zi (.ptr _ _) Z) (za (qp Z) (za (zo Zv Z) (zk (wl tyS4 Z Z Z Z) Z (zb hN Z (qe Z (zh ?_)))))))
     cases H
     exact ⟨U,⟨.inr ⟨Z,Z⟩,U⟩,Z⟩
    ·refine fE h13 H fun H=>zj (zb hN Z (za (zi (.ptr _ _) Z) (za (qp Z) (za (zo uj Z) (zp (zr tyS3 Z Z) Z (za (ye _ Z Z (.inl ⟨Z,Z⟩)) (za (qp Z) (za (zo uj Z) (zk (wl tyS3 Z Z Z Z) Z (zb hN Z (qd Z (qe Z (zh ?_)))))))))))))
     cases H
     exact ⟨U,⟨.inl Z,U⟩,Z⟩
theorem z9v (s1:yl) (word2:Bs) (must3:Bool) (r:(Bs×yl)) (H:jo s1 word2 must3=some r):Imp Tryz.prog 210 248 (xp s1) [vstr word2,zf must3] (zu [vstr r.1]) (xp r.2):=by
 refine xh (us:=[vstr r.1]) (cs':=(xp r.2)) (by kernel_rfl) Tryz.func210 Z Z Z Z fun X bl hN => ?_
 unfold jo at H
 refine zb hN Z (qe Z (zb hN Z (za (zi (.ptr _ _) Z) (qd Z (qd Z (bE H fun r4 h5 H=>zk (vi (z9w s1 word2 must3 r4 h5) Z ⟨.inl Z,.inl Z,U⟩ Z) Z (qe Z (yb (ι:=Int×Bool) (fun i=>[(7,.dat (vlst (List.map zn r4.1)))]) (fun i=>[(0,.box (some bl) 248 [.dat (vlst (List.map zn r4.2.lines_)),.dat (zf r4.2.ended_),.dat (vint i.1),.dat (zf i.2)])]) (fun i=>z0z r4 i.1 i.2=some r) (fun i=>Z) ?_ ?_))))))))
 ·skip
  refine zb hN Z (qd Z (za (yo qi Z) (za (qc Z Z) (zg _ Z (fun h6 => ?_) (fun h6 => ?_)))))
  ·exact tE h6 H fun H=>zb hN Z (za (zi (.ptr _ _) Z) (za (qp Z) (za (zo Zv Z) (zk (wl tyS4 Z Z Z Z) Z (zt hN Z (za (zi (.ptr _ _) Z) (za (qp Z) (za (zo uj Z) (zp (zr tyS3 Z Z) Z (za (ye _ Z Z (.inr (.inl ⟨Z,Z⟩))) (za (qp Z) (za (zo uj Z) (zk (wl tyS3 Z Z Z Z) Z ⟨(wr (r4.2.at_ - 1),true),H,⟨Z,U⟩,⟨Z,U⟩⟩)))))))))))))
  ·exact fE h6 H fun H=>zj ⟨(r4.2.at_,r4.2.bad_),H,⟨Z,U⟩,⟨Z,U⟩⟩
 ·rintro ⟨c7,c8⟩ H
  replace H:z0z r4 c7 c8=some r:=H
  unfold z0z at H
  refine ze (zb hN Z (qd Z (za (yo qi Z) (za (ql Z Z) (zg _ Z (fun h9 => ?_) (fun h9 => ?_))))))
  ·refine tE h9 H fun H=>zb hN Z (qe Z (zh ?_))
   cases H
   exact ⟨U,⟨.inl Z,U⟩,Z⟩
  ·refine fE h9 H fun H=>zj (zb hN Z (qd Z (bE H fun x10 h11 H=>za (qt qv (fun _=>Z) Z Z h11) (za (yi tyS9 Z (yp h11) Z) (qe Z (zh ?_))))))
   cases H
   exact ⟨U,⟨.inl Z,U⟩,Z⟩
theorem x8t (s1:yl) (r:(Int×Int×yl)) (H:Zd s1=some r):Imp Tryz.prog 212 248 (xp s1) [] (zu [vint r.1,vint r.2.1]) (xp r.2.2):=by
 refine xh (us:=[vint r.1,vint r.2.1]) (cs':=(xp r.2.2)) (by kernel_rfl) Tryz.func212 Z Z Z Z fun X bl hN => ?_
 unfold Zd at H
 refine zb hN Z (qe Z (qe Z (zb hN Z (za (zi (.ptr _ _) Z) (bE H fun r2 h3 H=>zk (vi (z9w s1 [116,105,109,101] true r2 h3) Z ⟨.inl Z,.inl Z,U⟩ Z) Z (qe Z (ze (zb hN Z (za (zi (.ptr _ _) Z) (za (qp Z) (za (zo Zv Z) (zp (zr tyS4 Z Z) Z (zg _ Z (fun h4 => ?_) (fun h4 => ?_))))))))))))))
 ·refine tE h4 H fun H=>zb hN Z (qe Z (qe Z (zh ?_)))
  cases H
  exact ⟨U,⟨.inl Z,.inl Z,U⟩,Z⟩
 ·refine fE h4 H fun H=>zj (yb (ι:=Unit) (fun i=>[(0,.ptr 0 0)]) (fun i=>[(0,.box (some bl) 248 [.dat (vlst (List.map zn r2.2.lines_)),.dat (zf r2.2.ended_),.dat (vint r2.2.at_),.dat (zf r2.2.bad_)])]) (fun i=>Qf r2=some r) (fun i=>Z) ?_ ?_)
  ·skip
   refine zb hN Z (qd Z (za (yo qi Z) (za (yw Z Z) (zg _ Z (fun h5 => ?_) (fun h5 => ?_)))))
   ·refine tE h5 H fun H=>zb hN Z (qd Z (bE H fun x6 h7 H=>za (qt qv (fun _=>Z) Z Z h7) (za (yi tyS9 Z (yp h7) Z) (bE H fun r8 h9 H=>za (zl (y39 x6 15 r8 h9) ⟨.inl Z,.inl Z,U⟩) (qd Z (za (ya Z Z) (za (ya Z Z) (qe Z (qe Z (zb hN Z (qd Z (bE H fun x10 h11 H=>za (qt qv (fun _=>Z) Z Z h11) (za (yi tyS9 Z (yp h11) Z) (bE H fun r12 h13 H=>za (zl (y39 x10 15 r12 h13) ⟨.inl Z,.inl Z,U⟩) (qd Z (za (ya Z Z) (za (ya Z Z) (qe Z ?_))))))))))))))))))
    refine qe Z (zb hN Z (qd Z (qd Z (qa Z Z (fun hc=>zi (.dat _) Z) (za (wx Z (fun hb=>(cnd (c:=r8.2) hb)) Z) (zg _ Z (fun h14 => ?_) (fun h14 => ?_)))))))
    ·refine tE h14 H fun H=>zb hN Z (qd Z (qd Z (qe Z (qe Z (zh ?_)))))
     cases H
     exact ⟨U,⟨.inl Z,.inl Z,U⟩,Z⟩
    ·exact fE h14 H fun H=>zj ⟨(),H,⟨Z,U⟩,⟨Z,U⟩⟩
   ·exact fE h5 H fun H=>zj ⟨(),H,⟨Z,U⟩,⟨Z,U⟩⟩
  ·rintro ⟨⟩ H
   replace H:Qf r2=some r:=H
   unfold Qf at H
   refine zb hN Z (za (zi (.ptr _ _) Z) (za (qp Z) (za (zo Zv Z) (zk (wl tyS4 Z Z Z Z) Z (zb hN Z (za (zi (.ptr _ _) Z) (za (qp Z) (za (zo uj Z) (zp (zr tyS3 Z Z) Z (za (ye _ Z Z (.inr (.inl ⟨Z,Z⟩))) (za (qp Z) (za (zo uj Z) (zk (wl tyS3 Z Z Z Z) Z (zb hN Z (qe Z (qe Z (zh ?_)))))))))))))))))
   cases H
   exact ⟨U,⟨.inl Z,.inl Z,U⟩,Z⟩
theorem x8z (v1:Bs) (r:(zm×Int×Int)) (H:z43 v1=some r):Fn Tryz.prog 174 [vstr v1] (zu [vagg (yn r.1),vint r.2.1,vint r.2.2]):=by
 refine ⟨by kernel_rfl,zy (us:=[vagg (yn r.1),vint r.2.1,vint r.2.2]) Tryz.func174 Z Z Z Z fun X hN => ?_⟩
 unfold z43 at H
 refine zb hN Z (zk (qr 1 qx Z) Z (qe Z (qe Z (ze (zb hN Z (qd Z (za (qj tyU9 Z) (za (qc Z Z) (zg _ Z (fun h2 => ?_) (fun h2 => ?_))))))))))
 ·refine tE h2 H fun H=>zb hN Z (za (qy (u':=vagg (yn (zm.mk [] [] [] [] [] [] 0 0))) (wc (by exact ⟨zq,zq,zq,zq,yq,yq,zq,zq,U⟩)) (qf [] qx vm Z U)) ?_)
  refine zk (ym yk Z Z Z Z) Z (qe Z (qe Z (zh ?_)))
  cases H
  exact ⟨U,.inl ⟨_,_,_,yn (zm.mk [] [] [] [] [] [] 0 0),Z,Z,Z,Z,yk⟩,.inl Z,.inl Z,U⟩
 ·refine fE h2 H fun H=>zj (zb hN Z (za (qy (u':=vagg (xp (yl.mk [] false 0 false))) (wc (by exact ⟨yq,zq,zq,zq,U⟩)) (qf [] x2e x2r Z U)) ?_))
  refine zk (vr 2 Z) Z (za (wu (.ptr _ _) Z) (zb hN Z (za (zi (.ptr _ _) Z) (za (zi (.ptr _ _) Z) (qd Z (bE H fun r3 h4 H=>za (zl (x99 v1 r3 h4) ⟨.inl Z,U⟩) (qd Z (za (ya Z Z) (za (ya Z Z) (za (qp Z) (za (zo z3l Z) (zk (wl qk Z Z Z Z) Z (za (qp Z) (za (zo y6a Z) (zk (wl tyS4 Z Z Z Z) Z (zb hN Z (za (qy (u':=vagg (yn (zm.mk [] [] [] [] [] [] 0 0))) (wc (by exact ⟨zq,zq,zq,zq,yq,yq,zq,zq,U⟩)) (qf [] qx vm Z U)) ?_)))))))))))))))))
  refine zk (qr 3 qx Z) Z (zk (ym yk Z Z Z Z) Z (zb hN Z (za (zi (.ptr _ _) Z) (bE H fun r5 h6 H=>zk (vi (z9v (yl.mk r3.1 r3.2 0 false) [105,100] true r5 h6) Z ⟨.inl Z,.inl Z,U⟩ Z) Z (za (zo z0u Z) (zk (wl tyS9 Z Z Z Z) Z (zb hN Z (za (zi (.ptr _ _) Z) (bE H fun r7 h8 H=>zk (vi (z9v r5.2 [115,117,98,106,101,99,116] true r7 h8) Z ⟨.inl Z,.inl Z,U⟩ Z) Z (za (zo z3j Z) (zk (wl tyS9 Z Z Z Z) Z (zb hN Z (za (zi (.ptr _ _) Z) (bE H fun r9 h10 H=>zk (vi (z9v r7.2 [105,115,115,117,101,114] true r9 h10) Z ⟨.inl Z,.inl Z,U⟩ Z) Z (za (zo z0t Z) (zk (wl tyS9 Z Z Z Z) Z (zb hN Z (za (zi (.ptr _ _) Z) (bE H fun r11 h12 H=>zk (vi (z9v r9.2 [112,97,114,101,110,116] false r11 h12) Z ⟨.inl Z,.inl Z,U⟩ Z) Z ?_)))))))))))))))))))
  refine za (zo Qc Z) (zk (wl tyS9 Z Z Z Z) Z (zb hN Z (za (zi (.ptr _ _) Z) (bE H fun r13 h14 H=>zk (vi (z9w r11.2 [102,111,114] false r13 h14) Z ⟨.inl Z,.inl Z,U⟩ Z) Z (za (zo xt Z) (zk (wl qk Z Z Z Z) Z (zb hN Z (za (zi (.ptr _ _) Z) (bE H fun r15 h16 H=>zk (vi (z9w r13.2 [109,97,121] false r15 h16) Z ⟨.inl Z,.inl Z,U⟩ Z) Z (za (zo xr Z) (zk (wl qk Z Z Z Z) Z (zb hN Z (za (zi (.ptr _ _) Z) (bE H fun r17 h18 H=>zk (vi (x8t r15.2 r17 h18) Z U Z) Z (qd Z (za (ya Z Z) (za (ya Z Z) (za (zo ux Z) (zk (wl tyS3 Z Z Z Z) Z (za (zo uw Z) ?_))))))))))))))))))))
  refine zk (wl tyS3 Z Z Z Z) Z (ze (ze (wq mixed hN Z Z (za (zi (.ptr _ _) Z) (za (qp Z) (za (zo Zv Z) (zp (zr tyS4 Z Z) Z (qd Z (yg Z Z (fun hc=>zi (.ptr _ _) Z) (yg Z Z (fun hc=>qp (cnd (c:=(!r17.2.2.bad_)) hc)) (yg Z Z (fun hc=>zo uj (cnd (c:=(!r17.2.2.bad_)) hc)) (kf Z Z (fun hc=>zr tyS3 (cnd (c:=(!r17.2.2.bad_)) hc) Z) Z z64 (yg Z Z (fun hc=>zi (.ptr _ _) Z) (yg Z Z (fun hc=>qp (cnd (c:=(!r17.2.2.bad_)) hc)) (yg Z Z (fun hc=>zo z3l (cnd (c:=(!r17.2.2.bad_)) hc)) (kf Z Z (fun hc=>zr qk (cnd (c:=(!r17.2.2.bad_)) hc) Z) Z z64 (yg Z Z (fun hc=>yo qi (cnd (c:=(!r17.2.2.bad_)) hc)) (yg Z Z (fun hc=>zw (cnd (c:=(!r17.2.2.bad_)) hc) (cnd (c:=(!r17.2.2.bad_)) hc)) (za (ve Z Z (fun hb=>(cnd (c:=(!r17.2.2.bad_)) (notI hb)))) ⟨Z,?_⟩)))))))))))))))))))
  refine zg _ Z (fun h19 => ?_) (fun h19 => ?_)
  ·refine tE h19 H fun H=>ze (wq mixed hN Z Z (za (qy (u':=vagg (yn (zm.mk [] [] [] [] [] [] 0 0))) (wc (by exact ⟨zq,zq,zq,zq,yq,yq,zq,zq,U⟩)) (qf [] qx vm Z U)) ?_))
   refine za (zi (.ptr _ _) Z) (za (qp Z) (za (zo uj Z) (zp (zr tyS3 Z Z) Z (zk (ym yk Z Z Z Z) Z (qe Z (qe Z ⟨Z,?_⟩))))))
   refine zh ?_
   cases H
   exact ⟨U,.inl ⟨_,_,_,yn (zm.mk [] [] [] [] [] [] 0 0),Z,Z,Z,Z,yk⟩,.inl Z,.inl Z,U⟩
  ·refine fE h19 H fun H=>zj (ze (zb hN Z (zp (vh yk Z Z Z) Z (bE H fun r20 h21 H=>za (zl (z9y (zm.mk r5.1 r7.1 r9.1 r11.1 r13.1 r15.1 r17.1 r17.2.1) r20 h21) ⟨.inl Z,U⟩) (qe Z (zb hN Z (qd Z (za (ql Z Z) (zg _ Z (fun h22 => ?_) (fun h22 => ?_))))))))))
   ·refine tE h22 H fun H=>zb hN Z (za (qy (u':=vagg (yn (zm.mk [] [] [] [] [] [] 0 0))) (wc (by exact ⟨zq,zq,zq,zq,yq,yq,zq,zq,U⟩)) (qf [] qx vm Z U)) ?_)
    refine qd Z (zk (ym yk Z Z Z Z) Z (qe Z (qe Z (zh ?_))))
    cases H
    exact ⟨U,.inl ⟨_,_,_,yn (zm.mk [] [] [] [] [] [] 0 0),Z,Z,Z,Z,yk⟩,.inl Z,.inl Z,U⟩
   ·refine fE h22 H fun H=>zj (zb hN Z (zp (vh yk Z Z Z) Z (zk (ym yk Z Z Z Z) Z (qe Z (qe Z (zh ?_))))))
    cases H
    exact ⟨U,.inl ⟨_,_,_,yn (zm.mk r5.1 r7.1 r9.1 r11.1 r13.1 r15.1 r17.1 r17.2.1),Z,Z,Z,Z,yk⟩,.inl Z,.inl Z,U⟩
theorem x82 (v1:(List yh)) (v2:Bs) (v3:Int) (r:(zm×Int)) (H:z45 v1 v2 v3=some r):Fn Tryz.prog 120 [vlst (List.map wm v1),vstr v2,vint v3] (zu [vagg (yn r.1),vint r.2]):=by
 refine ⟨by kernel_rfl,zy (us:=[vagg (yn r.1),vint r.2]) Tryz.func120 Z Z Z Z fun X hN => ?_⟩
 unfold z45 at H
 refine zb hN Z (zk (qr 1 qx Z) Z (qe Z (ze (zb hN Z (qd Z (bE H fun r4 h5 H=>za (zl (y3z v1 r4 h5) ⟨.inl Z,U⟩) (qe Z (zb hN Z (qd Z (za (ql Z Z) (zg _ Z (fun h6 => ?_) (fun h6 => ?_))))))))))))
 ·refine tE h6 H fun H=>zb hN Z (za (qy (u':=vagg (yn (zm.mk [] [] [] [] [] [] 0 0))) (wc (by exact ⟨zq,zq,zq,zq,yq,yq,zq,zq,U⟩)) (qf [] qx vm Z U)) ?_)
  refine qd Z (zk (ym yk Z Z Z Z) Z (qe Z (zh ?_)))
  cases H
  exact ⟨U,.inl ⟨_,_,_,yn (zm.mk [] [] [] [] [] [] 0 0),Z,Z,Z,Z,yk⟩,.inl Z,U⟩
 ·refine fE h6 H fun H=>zj (ze (zb hN Z (qd Z (bE H fun r7 h8 H=>za (zl (y80 v3 r7 h8) ⟨.inl Z,U⟩) (qe Z (zb hN Z (qd Z (za (ql Z Z) (zg _ Z (fun h9 => ?_) (fun h9 => ?_))))))))))
  ·refine tE h9 H fun H=>zb hN Z (za (qy (u':=vagg (yn (zm.mk [] [] [] [] [] [] 0 0))) (wc (by exact ⟨zq,zq,zq,zq,yq,yq,zq,zq,U⟩)) (qf [] qx vm Z U)) ?_)
   refine qd Z (zk (ym yk Z Z Z Z) Z (qe Z (zh ?_)))
   cases H
   exact ⟨U,.inl ⟨_,_,_,yn (zm.mk [] [] [] [] [] [] 0 0),Z,Z,Z,Z,yk⟩,.inl Z,U⟩
  ·refine fE h9 H fun H=>zj (zb hN Z (qd Z (bE H fun r10 h11 H=>za (zl (Yq v2 [46] r10 h11) ⟨.inl Z,.inl Z,U⟩) (zk (qr 2 x2c Z) Z (zk (wl qk Z Z Z Z) Z (ze (yb (ι:=Bool) (fun i=>[(0,.dat (vlst (List.map wm v1))),(2,.dat (vint v3)),(6,.ptr 1 0),(10,.ptr 2 0),(39,.dat (zf i))]) (fun i=>[(1,.box none 28 [.dat (vstr []),.dat (vstr []),.dat (vstr []),.dat (vstr []),.dat (vnil),.dat (vnil),.dat (vint 0),.dat (vint 0)]),(2,.box none 26 [.dat (vlst (List.map zn r10))])]) (fun i=>z02 v1 v3 r10 i=some r) (fun i=>Z) ?_ ?_)))))))
   ·skip
    refine zt hN Z (zp (zr qk Z Z) Z (za (yo qi Z) (za (ql Z Z) (qd Z (yc (j:=3) Z Z (fun h12 => ?_) (fun h12 => ?_) Z)))))
    ·exact u3 h12 H fun h13 H=>vn Z Z h12 (zr qk Z Z) Z (bE H fun x14 h15 H=>zd Z Z h12 (qt qv (fun _=>Z) Z Z h15) (zd Z Z h12 (yi tyS9 Z (yp h15) Z) (bE H fun r16 h17 H=>zd Z Z h12 (zl (jx x14 r16 h17) ⟨.inl Z,U⟩) (zd Z Z h12 (yt Z) (za (zv Z (bFF h13) Z) ⟨!r16,H,⟨Z,Z,Z,Z,Z,U⟩,⟨Z,Z,U⟩⟩)))))
    ·exact u4 h12 H fun h18 H=>zc Z Z h12 (zc Z Z h12 (zc Z Z h12 (zc Z Z h12 (zc Z Z h12 (za (zz Z (bTT h18) Z) ⟨true,H,⟨Z,Z,Z,Z,Z,U⟩,⟨Z,Z,U⟩⟩)))))
   ·rintro v19 H
    replace H:z02 v1 v3 r10 v19=some r:=H
    unfold z02 at H
    refine zg _ Z (fun h20 => ?_) (fun h20 => ?_)
    ·refine tE h20 H fun H=>zb hN Z (za (qy (u':=vagg (yn (zm.mk [] [] [] [] [] [] 0 0))) (wc (by exact ⟨zq,zq,zq,zq,yq,yq,zq,zq,U⟩)) (qf [] qx vm Z U)) ?_)
     refine zk (ym yk Z Z Z Z) Z (qe Z (zh ?_))
     cases H
     exact ⟨U,.inl ⟨_,_,_,yn (zm.mk [] [] [] [] [] [] 0 0),Z,Z,Z,Z,yk⟩,.inl Z,U⟩
    ·refine fE h20 H fun H=>zj (ze (kr 2 [vlst (List.map zn r10)] Z Z (zt hN Z (qd Z (za (xb (us:=[_]) ⟨Z,U⟩) (bE H fun r21 h22 H=>za (zl (y88 v1 (fun (a0:yh)=>z44 a0 r10) 172 [qh [[vlst (List.map zn r10)]] 0 0] (fun a0 r h=>x81 a0 r10 r h) r21 h22) ⟨.inl Z,.inl Z,U⟩) (qe Z (ze (zb hN Z (qd Z (za (zw Z Z) (zg _ Z (fun h23 => ?_) (fun h23 => ?_)))))))))))))
     ·refine tE h23 H fun H=>zb hN Z (za (qy (u':=vagg (yn (zm.mk [] [] [] [] [] [] 0 0))) (wc (by exact ⟨zq,zq,zq,zq,yq,yq,zq,zq,U⟩)) (qf [] qx vm Z U)) ?_)
      refine zk (ym yk Z Z Z Z) Z (qe Z (zh ?_))
      cases H
      exact ⟨U,.inl ⟨_,_,_,yn (zm.mk [] [] [] [] [] [] 0 0),Z,Z,Z,Z,yk⟩,.inl Z,U⟩
     ·refine fE h23 H fun H=>zj (ze (ze (wq mixed hN Z Z (qd Z (qd Z (bE H fun x24 h25 H=>za (vq Zw (fun _=>Z) Z Z h25) (za (vu y1k Z) (za (yi tyS9 Z (yp (ww h25).2) Z) (za (yi qk Z Z Z) (bE H fun x26 h27 H=>za (qt qv (fun _=>Z) Z Z h27) (za (yi tyS9 Z (yp h27) Z) (gE H fun h28 H=>za (va Z Z (Nat.le_trans h28 (by decide))) (za (yi qk Z Z Z) (bE H fun x29 h30 H=>za (qt qv (fun _=>Z) Z Z h30) (za (yi tyS9 Z (yp h30) Z) (gE H fun h31 H=>za (va Z Z (Nat.le_trans h31 (by decide))) (bE H fun r32 h33 H=>?_)))))))))))))))))
      refine za (zl (y3w x24.Secret ((x26++[46])++x29) r32 h33) ⟨.inl Z,.inl Z,U⟩) (za (yi qk Z Z Z) (bE H fun x34 h35 H=>za (qt qv (fun _=>Z) Z Z h35) (za (yi tyS9 Z (yp h35) Z) (za (js Z Z) ⟨Z,?_⟩))))
      refine zg _ Z (fun h36 => ?_) (fun h36 => ?_)
      ·refine tE h36 H fun H=>zb hN Z (za (qy (u':=vagg (yn (zm.mk [] [] [] [] [] [] 0 0))) (wc (by exact ⟨zq,zq,zq,zq,yq,yq,zq,zq,U⟩)) (qf [] qx vm Z U)) ?_)
       refine zk (ym yk Z Z Z Z) Z (qe Z (zh ?_))
       cases H
       exact ⟨U,.inl ⟨_,_,_,yn (zm.mk [] [] [] [] [] [] 0 0),Z,Z,Z,Z,yk⟩,.inl Z,U⟩
      ·refine fE h36 H fun H=>zj (zb hN Z (za (yi qk Z Z Z) (za (qt qv (fun _=>Z) Z Z h30) (za (yi tyS9 Z (yp h30) Z) (bE H fun r37 h38 H=>za (zl (x85 x29 r37 h38) ⟨.inl Z,U⟩) (qd Z (za (ya Z Z) (za (ya Z Z) (qe Z (qe Z (ze (zb hN Z (qd Z (za (ql Z Z) (zg _ Z (fun h39 => ?_) (fun h39 => ?_))))))))))))))))
       ·refine tE h39 H fun H=>zb hN Z (za (qy (u':=vagg (yn (zm.mk [] [] [] [] [] [] 0 0))) (wc (by exact ⟨zq,zq,zq,zq,yq,yq,zq,zq,U⟩)) (qf [] qx vm Z U)) ?_)
        refine qd Z (zk (ym yk Z Z Z Z) Z (qe Z (zh ?_)))
        cases H
        exact ⟨U,.inl ⟨_,_,_,yn (zm.mk [] [] [] [] [] [] 0 0),Z,Z,Z,Z,yk⟩,.inl Z,U⟩
       ·refine fE h39 H fun H=>zj (zb hN Z (qd Z (bE H fun r40 h41 H=>za (zl (x8z r37.1 r40 h41) ⟨.inl Z,U⟩) (qd Z (za (ya Z Z) (za (ya Z Z) (za (ya Z Z) (zk (qr 3 qx Z) Z (zk (ym yk Z Z Z Z) Z (qe Z (qe Z (ze (zb hN Z (qd Z (za (ql Z Z) (zg _ Z (fun h42 => ?_) (fun h42 => ?_)))))))))))))))))
        ·refine tE h42 H fun H=>zb hN Z (za (qy (u':=vagg (yn (zm.mk [] [] [] [] [] [] 0 0))) (wc (by exact ⟨zq,zq,zq,zq,yq,yq,zq,zq,U⟩)) (qf [] qx vm Z U)) ?_)
         refine qd Z (zk (ym yk Z Z Z Z) Z (qe Z (zh ?_)))
         cases H
         exact ⟨U,.inl ⟨_,_,_,yn (zm.mk [] [] [] [] [] [] 0 0),Z,Z,Z,Z,yk⟩,.inl Z,U⟩
        ·refine fE h42 H fun H=>zj (ze (yb (ι:=Bool) (fun i=>[(6,.ptr 1 0),(14,.ptr 3 0),(102,.dat (zf i))]) (fun i=>[(1,.box none 28 [.dat (vstr []),.dat (vstr []),.dat (vstr []),.dat (vstr []),.dat (vnil),.dat (vnil),.dat (vint 0),.dat (vint 0)]),(3,.box none 28 [.dat (vstr r40.1.Id),.dat (vstr r40.1.Subject),.dat (vstr r40.1.Issuer),.dat (vstr r40.1.Parent),.dat (vlst (List.map zn r40.1.Audience)),.dat (vlst (List.map zn r40.1.Scopes)),.dat (vint r40.1.From),.dat (vint r40.1.To)])]) (fun i=>z01 r40 i=some r) (fun i=>Z) ?_ ?_))
         ·skip
          refine zt hN Z (qd Z (qd Z (qd Z (za (vq Zw (fun _=>Z) Z Z h25) (za (vu z3h Z) (za (yi tyS3 Z (yp (ww h25).2) Z) (za (zw Z Z) (qd Z (yc (j:=7) Z Z (fun h43 => ?_) (fun h43 => ?_) Z)))))))))
          ·exact u3 h43 H fun h44 H=>zd Z Z h43 (zi (.dat _) Z) (zd Z Z h43 (zi (.dat _) Z) (zd Z Z h43 (zi (.dat _) Z) (zd Z Z h43 (vq Zw (fun _=>Z) Z Z h25) (zd Z Z h43 (vu z7n Z) (zd Z Z h43 (yi tyS3 Z (yp (ww h25).2) Z) (zd Z Z h43 (wy Z Z) (za (zv Z (bFF h44) Z) ⟨decide (x24.Until≤v3),H,⟨Z,Z,Z,U⟩,⟨Z,Z,U⟩⟩)))))))
          ·exact u4 h43 H fun h45 H=>zc Z Z h43 (zc Z Z h43 (zc Z Z h43 (zc Z Z h43 (zc Z Z h43 (zc Z Z h43 (zc Z Z h43 (za (zz Z (bTT h45) Z) ⟨true,H,⟨Z,Z,Z,U⟩,⟨Z,Z,U⟩⟩)))))))
         ·rintro v46 H
          replace H:z01 r40 v46=some r:=H
          unfold z01 at H
          refine zg _ Z (fun h47 => ?_) (fun h47 => ?_)
          ·refine tE h47 H fun H=>zb hN Z (za (qy (u':=vagg (yn (zm.mk [] [] [] [] [] [] 0 0))) (wc (by exact ⟨zq,zq,zq,zq,yq,yq,zq,zq,U⟩)) (qf [] qx vm Z U)) ?_)
           refine zk (ym yk Z Z Z Z) Z (qe Z (zh ?_))
           cases H
           exact ⟨U,.inl ⟨_,_,_,yn (zm.mk [] [] [] [] [] [] 0 0),Z,Z,Z,Z,yk⟩,.inl Z,U⟩
          ·refine fE h47 H fun H=>zj (zb hN Z (zp (vh yk Z Z Z) Z (zk (ym yk Z Z Z Z) Z (qe Z (zh ?_)))))
           cases H
           exact ⟨U,.inl ⟨_,_,_,yn r40.1,Z,Z,Z,Z,yk⟩,.inl Z,U⟩
theorem x9o (s1:(List qs)) (p1:qs→Option (Bool)) (fv1:Nat) (us1:List V) (hp1:∀ a0 r,p1 a0=some r→Fn Tryz.prog fv1 ([vagg (jn a0)]++us1) (zu [zf r])) (r:(Int)) (H:y28 s1 p1=some r):Fn Tryz.prog 175 [vlst (List.map jn s1),vfn fv1 us1] (zu [vint r]):=by
 refine ⟨by kernel_rfl,zy (us:=[vint r]) Tryz.func175 Z Z Z Z fun X hN => ?_⟩
 unfold y28 at H
 refine zb hN Z (qe Z (ze (zb hN Z (qd Z (za (yo y08 Z) (qd Z (zx (gE H fun h4 H=>wd (fun (k2:Nat) (s:Unit)=>[(0,.dat (vlst (List.map jn s1))),(1,.dat (vfn fv1 us1)),(7,.dat (vint (s1.length:Int))),(8,.dat (vint (k2:Int)))]) (fun (k2:Nat) (s:Unit)=>[]) () H ⟨Z,Z,Z,Z,U⟩ U (fun _ _=>Z) ?_ ?_))))))))
 ·rintro ⟨⟩ H
  replace H:y2i=some r:=H
  unfold y2i at H
  refine zb hN Z (za (zw Z Z) (ze (zg _ Z (fun h=>(lt_t h).elim) (fun h => ?_))))
  refine yu (zb hN Z (qe Z (zh ?_)))
  cases H
  exact ⟨U,.inl Z,U⟩
 ·rintro k2 x5 ⟨⟩ q3 h6 h7 H hq3
  replace H:y2h p1 k2 x5=some q3:=H
  unfold y2h at H
  refine zb hN Z (za (zw Z Z) (ze (zg _ Z (fun h => ?_) (fun h=>(lt_f h6 h).elim))))
  refine zj (ze (zx (zb hN Z (qd Z (qe Z (zb hN Z (qd Z (qd Z (qd Z (za (qt y1o (fun _=>Z) Z Z h7) (za (ke y09 Z (yp h7) Z) (bE H fun r8 h9 H=>za (z08 (hp1 x5 r8 h9) Z ⟨.inl Z,U⟩) (zg _ Z (fun h10 => ?_) (fun h10 => ?_))))))))))))))
  ·refine tE h10 H fun H=>zb hN Z (qd Z (qe Z (zh ?_)))
   replace H:=retl H hq3
   cases H
   exact ⟨U,.inl Z,U⟩
  ·exact fE h10 H fun H=>zj (zt hN Z (za (qo Z Z (by omega)) (qd Z ⟨_,yx H,⟨Z,Z,Z,Z,U⟩,U⟩)))
theorem x9q (s1:(List qs)) (p1:qs→Option (Bool)) (fv1:Nat) (us1:List V) (hp1:∀ a0 r,p1 a0=some r→Fn Tryz.prog fv1 ([vagg (jn a0)]++us1) (zu [zf r])) (r:(Bool)) (H:y29 s1 p1=some r):Fn Tryz.prog 121 [vlst (List.map jn s1),vfn fv1 us1] (zu [zf r]):=by
 refine ⟨by kernel_rfl,zy (us:=[zf r]) Tryz.func121 Z Z Z Z fun X hN => ?_⟩
 unfold y29 at H
 refine zb hN Z (qe Z (zb hN Z (qd Z (qd Z (bE H fun r2 h3 H=>za (zl (x9o s1 p1 fv1 us1 hp1 r2 h3) ⟨.inl Z,.inl Z,U⟩) (za (wy Z Z) (qe Z (zh ?_))))))))
 cases H
 exact ⟨U,.inl Z,U⟩
theorem x8x (r1:qs) (c2:zm) (c3:Int) (r:(Bool)) (H:z88 r1 c2 c3=some r):Fn Tryz.prog 122 [vagg (jn r1),qh [[vstr c2.Id,vstr c2.Subject,vstr c2.Issuer,vstr c2.Parent,vlst (List.map zn c2.Audience),vlst (List.map zn c2.Scopes),vint c2.From,vint c2.To]] 0 0,qh [[vint c3]] 0 0] (zu [zf r]):=by
 refine ⟨by kernel_rfl,zy (us:=[zf r]) Tryz.func122 Z Z Z Z fun X hN => ?_⟩
 unfold z88 at H
 refine zb hN Z (zk (vr 1 Z) Z (qe Z (zb hN Z (za (zo z3m Z) (zp (zr tyS9 Z Z) Z (za (vu z0u Z) (za (yi tyS9 Z Z Z) (za (vd Z Z) (qd Z (yg Z Z (fun hc=>zo z3m Z) (kf Z Z (fun hc=>zr tyS9 (cnd (c:=(!(decide (r1.Id=c2.Id)))) hc) Z) Z jl (yg Z Z (fun hc=>vu Qc Z) (yg Z Z (fun hc=>yi tyS9 (cnd (c:=(!(decide (r1.Id=c2.Id)))) hc) Z Z) (yg Z Z (fun hc=>vd (cnd (c:=(!(decide (r1.Id=c2.Id)))) hc) (cnd (c:=(!(decide (r1.Id=c2.Id)))) hc)) (za (ve Z Z (fun hb=>(cnd (c:=(!(decide (r1.Id=c2.Id)))) (notI hb)))) (qd Z (qa Z Z (fun hc=>zo y6c Z) (z4e Z Z (fun hc=>zr tyS3 (cnd (c:=((decide (r1.Id=c2.Id)) || (decide (r1.Id=c2.Parent)))) hc) Z) Z jl (qa Z Z (fun hc=>yi tyS3 Z Z Z) (qa Z Z (fun hc=>vf (cnd (c:=((decide (r1.Id=c2.Id)) || (decide (r1.Id=c2.Parent)))) hc) (cnd (c:=((decide (r1.Id=c2.Id)) || (decide (r1.Id=c2.Parent)))) hc)) (za (wx Z (fun hb=>(cnd (c:=((decide (r1.Id=c2.Id)) || (decide (r1.Id=c2.Parent)))) hb)) Z) (qe Z (zh ?_)))))))))))))))))))))))
 cases H
 exact ⟨U,.inl Z,U⟩
theorem x8y (v1:vg) (v2:Bs) (v3:Int) (r:(zm×Int)) (H:z42 v1 v2 v3=some r):Fn Tryz.prog 80 [vagg (z3a v1),vstr v2,vint v3] (zu [vagg (yn r.1),vint r.2]):=by
 refine ⟨by kernel_rfl,zy (us:=[vagg (yn r.1),vint r.2]) Tryz.func80 Z Z Z Z fun X hN => ?_⟩
 unfold z42 at H
 refine zb hN Z (zk (vr 1 Z) Z (zk (Qu 2 Z Z) Z (zk (qr 3 qx Z) Z (qe Z (zb hN Z (za (zo y1h Z) (zp (zr z3g Z Z) Z (qd Z (zp (zr tyS3 Z Z) Z (bE H fun r4 h5 H=>za (zl (x82 v1.Signers v2 v3 r4 h5) ⟨.inl Z,.inl Z,.inl Z,U⟩) (qd Z (za (ya Z Z) (za (ya Z Z) (zk (qr 4 qx Z) Z (zk (ym yk Z Z Z Z) Z (qe Z (ze (zx (zb hN Z (qd Z (za (ql Z Z) (qe Z ?_))))))))))))))))))))))
 refine zg _ Z (fun h6 => ?_) (fun h6 => ?_)
 ·refine tE h6 H fun H=>zb hN Z (za (qy (u':=vagg (yn (zm.mk [] [] [] [] [] [] 0 0))) (wc (by exact ⟨zq,zq,zq,zq,yq,yq,zq,zq,U⟩)) (qf [] qx vm Z U)) ?_)
  refine qd Z (zk (ym yk Z Z Z Z) Z (qe Z (zh ?_)))
  cases H
  exact ⟨U,.inl ⟨_,_,_,yn (zm.mk [] [] [] [] [] [] 0 0),Z,Z,Z,Z,yk⟩,.inl Z,U⟩
 ·refine fE h6 H fun H=>yb (ι:=Bool) (fun i=>[(3,.ptr 1 0),(5,.ptr 2 0),(6,.ptr 3 0),(8,.ptr 4 0),(23,.dat (zf i))]) (fun i=>[(1,.box none 36 [.dat (vstr v1.Issuer),.dat (vstr v1.Audience),.dat (vlst (List.map wm v1.Signers)),.dat (vlst (List.map jn v1.Revoked)),.dat (vlst (List.map uf v1.Holders)),.dat (vint v1.Skew)]),(2,.box none 3 [.dat (vint v3)]),(3,.box none 28 [.dat (vstr []),.dat (vstr []),.dat (vstr []),.dat (vstr []),.dat (vnil),.dat (vnil),.dat (vint 0),.dat (vint 0)]),(4,.box none 28 [.dat (vstr r4.1.Id),.dat (vstr r4.1.Subject),.dat (vstr r4.1.Issuer),.dat (vstr r4.1.Parent),.dat (vlst (List.map zn r4.1.Audience)),.dat (vlst (List.map zn r4.1.Scopes)),.dat (vint r4.1.From),.dat (vint r4.1.To)])]) (fun i=>Qg v1 v3 r4 i=some r) (fun i=>Z) ?_ ?_
  ·skip
   refine zt hN Z (za (zo z0t Z) (zp (zr tyS9 Z Z) Z (za (zo y1i Z) (zp (zr tyS9 Z Z) Z (za (js Z Z) (qd Z (yc (j:=5) Z Z (fun h7 => ?_) (fun h7 => ?_) Z)))))))
   ·refine u3 h7 H fun h8 H=>zd Z Z h7 (zo xt Z) (vn Z Z h7 (zr qk Z Z) Z (zd Z Z h7 (yo qi Z) (zd Z Z h7 (qc Z Z) (zd Z Z h7 (zi (.dat _) Z) (yc (j:=10) Z Z (fun h9 => ?_) (fun h9 => ?_) Z)))))
    ·exact u1 h9 H fun h10 H=>zd Z Z h9 (zo xt Z) (vn Z Z h9 (zr qk Z Z) Z (zd Z Z h9 (zo y59 Z) (vn Z Z h9 (zr tyS9 Z Z) Z (bE H fun r11 h12 H=>zd Z Z h9 (zl (y36 r4.1.Audience v1.Audience r11 h12) ⟨.inl Z,.inl Z,U⟩) (zd Z Z h9 (yt Z) (zd Z Z h7 (zz Z (bTT h10) Z) (za (zv Z (bFF h8) Z) (qe Z ⟨!r11,H,⟨Z,Z,Z,Z,Z,U⟩,⟨Z,Z,Z,Z,U⟩⟩))))))))
    ·exact u2 h9 H fun h13 H=>zc Z Z h9 (zc Z Z h9 (zc Z Z h9 (zc Z Z h9 (zc Z Z h9 (zc Z Z h9 (zd Z Z h7 (zv Z (bFF h13) Z) (za (zv Z (bFF h8) Z) (qe Z ⟨false,H,⟨Z,Z,Z,Z,Z,U⟩,⟨Z,Z,Z,Z,U⟩⟩))))))))
   ·exact u4 h7 H fun h14 H=>zc Z Z h7 (zc Z Z h7 (zc Z Z h7 (zc Z Z h7 (zc Z Z h7 (yd Z Z (yd Z Z (yd Z Z (yd Z Z (yd Z Z (yd Z Z (zc Z Z h7 (za (zz Z (bTT h14) Z) (qe Z ⟨true,H,⟨Z,Z,Z,Z,Z,U⟩,⟨Z,Z,Z,Z,U⟩⟩)))))))))))))
  ·rintro v15 H
   replace H:Qg v1 v3 r4 v15=some r:=H
   unfold Qg at H
   refine zg _ Z (fun h16 => ?_) (fun h16 => ?_)
   ·refine tE h16 H fun H=>zb hN Z (za (qy (u':=vagg (yn (zm.mk [] [] [] [] [] [] 0 0))) (wc (by exact ⟨zq,zq,zq,zq,yq,yq,zq,zq,U⟩)) (qf [] qx vm Z U)) ?_)
    refine zk (ym yk Z Z Z Z) Z (qe Z (zh ?_))
    cases H
    exact ⟨U,.inl ⟨_,_,_,yn (zm.mk [] [] [] [] [] [] 0 0),Z,Z,Z,Z,yk⟩,.inl Z,U⟩
   ·refine fE h16 H fun H=>zb hN Z (zp (zr tyS3 Z Z) Z (za (zo ux Z) (zp (zr tyS3 Z Z) Z (za (zo y1g Z) (zp (zr tyS3 Z Z) Z (za (ye _ Z Z (.inr (.inl ⟨Z,Z⟩))) (za (zw Z Z) (qd Z (kf Z Z (fun hc=>zr tyS3 Z Z) Z jl (yg Z Z (fun hc=>zo uw Z) (kf Z Z (fun hc=>zr tyS3 (cnd (c:=(!(decide (v3 < (wr (r4.1.From - v1.Skew)))))) hc) Z) Z jl (yg Z Z (fun hc=>zo y1g Z) (kf Z Z (fun hc=>zr tyS3 (cnd (c:=(!(decide (v3 < (wr (r4.1.From - v1.Skew)))))) hc) Z) Z jl (yg Z Z (fun hc=>ye _ (cnd (c:=(!(decide (v3 < (wr (r4.1.From - v1.Skew)))))) hc) (cnd (c:=(!(decide (v3 < (wr (r4.1.From - v1.Skew)))))) hc) (.inl ⟨Z,Z⟩)) (yg Z Z (fun hc=>wy (cnd (c:=(!(decide (v3 < (wr (r4.1.From - v1.Skew)))))) hc) (cnd (c:=(!(decide (v3 < (wr (r4.1.From - v1.Skew)))))) hc)) (za (ve Z Z (fun hb=>(cnd (c:=(!(decide (v3 < (wr (r4.1.From - v1.Skew)))))) (notI hb)))) (qe Z (zg _ Z (fun h17 => ?_) (fun h17 => ?_)))))))))))))))))))
    ·refine tE h17 H fun H=>zb hN Z (za (qy (u':=vagg (yn (zm.mk [] [] [] [] [] [] 0 0))) (wc (by exact ⟨zq,zq,zq,zq,yq,yq,zq,zq,U⟩)) (qf [] qx vm Z U)) ?_)
     refine zk (ym yk Z Z Z Z) Z (qe Z (zh ?_))
     cases H
     exact ⟨U,.inl ⟨_,_,_,yn (zm.mk [] [] [] [] [] [] 0 0),Z,Z,Z,Z,yk⟩,.inl Z,U⟩
    ·refine fE h17 H fun H=>zj (ze (ze (kr 4 [vstr r4.1.Id,vstr r4.1.Subject,vstr r4.1.Issuer,vstr r4.1.Parent,vlst (List.map zn r4.1.Audience),vlst (List.map zn r4.1.Scopes),vint r4.1.From,vint r4.1.To] Z Z (kr 2 [vint v3] Z Z (zt hN Z (za (zo y58 Z) (zp (zr y5x Z Z) Z (za (xb (us:=[_,_]) ⟨Z,Z,U⟩) (bE H fun r18 h19 H=>za (zl (x9q v1.Revoked (fun (a0:qs)=>z88 a0 r4.1 v3) 122 [qh [[vstr r4.1.Id,vstr r4.1.Subject,vstr r4.1.Issuer,vstr r4.1.Parent,vlst (List.map zn r4.1.Audience),vlst (List.map zn r4.1.Scopes),vint r4.1.From,vint r4.1.To]] 0 0,qh [[vint v3]] 0 0] (fun a0 r h=>x8x a0 r4.1 v3 r h) r18 h19) ⟨.inl Z,.inl Z,U⟩) (zg _ Z (fun h20 => ?_) (fun h20 => ?_)))))))))))
     ·refine tE h20 H fun H=>zb hN Z (za (qy (u':=vagg (yn (zm.mk [] [] [] [] [] [] 0 0))) (wc (by exact ⟨zq,zq,zq,zq,yq,yq,zq,zq,U⟩)) (qf [] qx vm Z U)) ?_)
      refine zk (ym yk Z Z Z Z) Z (qe Z (zh ?_))
      cases H
      exact ⟨U,.inl ⟨_,_,_,yn (zm.mk [] [] [] [] [] [] 0 0),Z,Z,Z,Z,yk⟩,.inl Z,U⟩
     ·refine fE h20 H fun H=>zj (zb hN Z (za (ke yk Z Z Z) (zk (ym yk Z Z Z Z) Z (qe Z (zh ?_)))))
      cases H
      exact ⟨U,.inl ⟨_,_,_,yn r4.1,Z,Z,Z,Z,yk⟩,.inl Z,U⟩
theorem x8v (k1:vg) (value2:Bs) (v3:Int) (r:(qg×Int)) (H:z1s k1 value2 v3=some r):Fn Tryz.prog 36 [vagg (z3a k1),vstr value2,vint v3] (zu [vagg (wn r.1),vint r.2]):=by
 refine ⟨by kernel_rfl,zy (us:=[vagg (wn r.1),vint r.2]) Tryz.func36 Z Z Z Z fun X hN => ?_⟩
 unfold z1s at H
 refine zb hN Z (zk (vr 1 Z) Z (zk (qr 2 vx Z) Z (qe Z (zb hN Z (qd Z (bE H fun r4 h5 H=>za (zl (x9i value2 [66,101,97,114,101,114,32] r4 h5) ⟨.inl Z,.inl Z,U⟩) (qd Z (za (ya Z Z) (za (ya Z Z) (qe Z (qe Z (ze (zb hN Z (qd Z (za (yt Z) (qd Z (yg Z Z (fun hc=>zi (.dat _) Z) (yg Z Z (fun hc=>vd (cnd (c:=(!(!r4.2))) hc) Z) (za (ve Z Z (fun hb=>(cnd (c:=(!(!r4.2))) (notI hb)))) (zg _ Z (fun h6 => ?_) (fun h6 => ?_)))))))))))))))))))))
 ·refine tE h6 H fun H=>zb hN Z (za (qy (u':=vagg (wn (qg.mk 0 [] []))) (wc (by exact ⟨zq,zq,yq,U⟩)) (qf [] vx kv Z U)) ?_)
  refine zk (ym we Z Z Z Z) Z (qe Z (zh ?_))
  cases H
  exact ⟨U,.inl ⟨_,_,_,wn (qg.mk 0 [] []),Z,Z,Z,Z,we⟩,.inl Z,U⟩
 ·refine fE h6 H fun H=>zj (zb hN Z (zp (vh z0s Z Z Z) Z (qd Z (qd Z (bE H fun r7 h8 H=>za (zl (x8y k1 r4.1 v3 r7 h8) ⟨.inl Z,.inl Z,.inl Z,U⟩) (qd Z (za (ya Z Z) (za (ya Z Z) (zk (qr 3 qx Z) Z (zk (ym yk Z Z Z Z) Z (qe Z (ze (zb hN Z (qd Z (za (ql Z Z) (zg _ Z (fun h9 => ?_) (fun h9 => ?_)))))))))))))))))
  ·refine tE h9 H fun H=>zb hN Z (za (qy (u':=vagg (wn (qg.mk 0 [] []))) (wc (by exact ⟨zq,zq,yq,U⟩)) (qf [] vx kv Z U)) ?_)
   refine qd Z (zk (ym we Z Z Z Z) Z (qe Z (zh ?_)))
   cases H
   exact ⟨U,.inl ⟨_,_,_,wn (qg.mk 0 [] []),Z,Z,Z,Z,we⟩,.inl Z,U⟩
  ·refine fE h9 H fun H=>zj (zb hN Z (za (zo z3j Z) (zp (zr tyS9 Z Z) Z (za (zo xr Z) (zp (zr qk Z Z) Z (za (yf (u':=vagg (wn (qg.mk 1 r7.1.Subject r7.1.Scopes))) (qf [(0,[vint 1]),(1,[vstr r7.1.Subject]),(2,[vlst (List.map zn r7.1.Scopes)])] vx kv Z ⟨Z,.inl ⟨_,Z,Z,Z⟩,Z,Z,.inl ⟨_,Z,Z,Z⟩,Z,Z,.inl ⟨_,Z,Z,Z⟩,Z,U⟩) Z) (zk (ym we Z Z Z Z) Z (qe Z (zh ?_)))))))))
   cases H
   exact ⟨U,.inl ⟨_,_,_,wn (qg.mk 1 r7.1.Subject r7.1.Scopes),Z,Z,Z,Z,we⟩,.inl Z,U⟩
theorem x8w (v1:vg) (v2:Bs) (v3:Int) (r:(qg×Int)) (H:y24 v1 v2 v3=some r):Fn Tryz.prog 37 [vagg (z3a v1),vstr v2,vint v3] (zu [vagg (wn r.1),vint r.2]):=by
 refine ⟨by kernel_rfl,zy (us:=[vagg (wn r.1),vint r.2]) Tryz.func37 Z Z Z Z fun X hN => ?_⟩
 unfold y24 at H
 refine zb hN Z (zk (vr 1 Z) Z (zk (qr 2 vx Z) Z (qe Z (zb hN Z (za (zo y1i Z) (zp (zr tyS9 Z Z) Z (qd Z (bE H fun r4 h5 H=>za (zl (y3w v1.Issuer v2 r4 h5) ⟨.inl Z,.inl Z,U⟩) (qe Z (zb hN Z (qe Z (zb hN Z (za (yf (u':=vagg [vint 0,vstr [],vnil]) (qf [] vx kv Z U) Z) (zk (qr 3 vx Z) Z (zk (ym we Z Z Z Z) Z (x1a 3 2 4 9 1 Z Z Z Z (ze (zb hN Z (za (zo y57 Z) (zp (zr y5w Z Z) Z (za (yo y07 Z) (qd Z ?_))))))))))))))))))))))
 refine zx (gE H fun h12 H=>wd (fun (k10:Nat) (s:Bool×(List Bs)×Int×Bs)=>[(2,.dat (vint v3)),(6,.ptr 2 0),(8,.dat (vstr r4)),(9,.dat (zf s.1)),(10,.ptr 3 0),(19,.dat (vlst (List.map uf v1.Holders))),(20,.dat (vint (v1.Holders.length:Int))),(21,.dat (vint (k10:Int)))]) (fun (k10:Nat) (s:Bool×(List Bs)×Int×Bs)=>[(2,.box none 46 [.dat (vint 0),.dat (vstr []),.dat (vnil)]),(3,.box none 46 [.dat (vint s.2.2.1),.dat (vstr s.2.2.2),.row 4 s.2.1.length]),(4,.row 9 1 (List.map zn s.2.1))]) (false,([]:List Bs),0,[]) H ⟨Z,Z,Z,Z,Z,Z,Z,Z,U⟩ ⟨Z,(congrArg (fun n=>some (some (AObj.box none 46 [.dat (vint 0),.dat (vstr []),.row 4 n]))) (show 0=([]:List Bs).length from (by simp))),Z,U⟩ (fun _ _=>Z) ?_ ?_)
 ·rintro ⟨v6,l7,c8,c9⟩ H
  replace H:y1v v6 l7 c8 c9=some r:=H
  unfold y1v at H
  refine zb hN Z (za (zw Z Z) (ze (zg _ Z (fun h=>(lt_t h).elim) (fun h => ?_))))
  refine yu (ze (zx (zb hN Z (qd Z (za (yt Z) (qe Z (zg _ Z (fun h14 => ?_) (fun h14 => ?_))))))))
  ·refine tE h14 H fun H=>zb hN Z (za (qy (u':=vagg (wn (qg.mk 0 [] []))) (wc (by exact ⟨zq,zq,yq,U⟩)) (qf [] vx kv Z U)) ?_)
   refine zk (ym we Z Z Z Z) Z (qe Z (zh ?_))
   cases H
   exact ⟨U,.inl ⟨_,_,_,wn (qg.mk 0 [] []),Z,Z,Z,Z,we⟩,.inl Z,U⟩
  ·refine fE h14 H fun H=>zb hN Z (za (zo y1f Z) (zp (zr tyS3 Z Z) Z (za (yw Z Z) (qe Z (zg _ Z (fun h15 => ?_) (fun h15 => ?_))))))
   ·refine tE h15 H fun H=>zb hN Z (za (qy (u':=vagg (wn (qg.mk 0 [] []))) (wc (by exact ⟨zq,zq,yq,U⟩)) (qf [] vx kv Z U)) ?_)
    refine zk (ym we Z Z Z Z) Z (qe Z (zh ?_))
    cases H
    exact ⟨U,.inl ⟨_,_,_,wn (qg.mk 0 [] []),Z,Z,Z,Z,we⟩,.inl Z,U⟩
   ·refine fE h15 H fun H=>zj (ze (w3f 3 2 4 rfl rfl rfl (by first | rw [List.length_map] | rfl) ?_))
    refine zt hN Z (za (zo Zu Z) (zp (zr qk Z Z) Z (bE H fun r16 h17 H=>za (zl (y3x l7 r16 h17) ⟨.inl Z,U⟩) (za (zo Zu Z) (zk (wl qk Z Z Z Z) Z (ze (zb hN Z (za (zo Zu Z) (zp (zr qk Z Z) Z (za (yo qi Z) (za (qc Z Z) (zg _ Z (fun h18 => ?_) (fun h18 => ?_)))))))))))))
    ·refine tE h18 H fun H=>zb hN Z (za (qy (u':=vagg (wn (qg.mk 0 [] []))) (wc (by exact ⟨zq,zq,yq,U⟩)) (qf [] vx kv Z U)) ?_)
     refine zk (ym we Z Z Z Z) Z (qe Z (zh ?_))
     cases H
     exact ⟨U,.inl ⟨_,_,_,wn (qg.mk 0 [] []),Z,Z,Z,Z,we⟩,.inl Z,U⟩
    ·refine fE h18 H fun H=>zj (zb hN Z (zp (vh we Z Z Z) Z (zk (ym we Z Z Z Z) Z (qe Z (zh ?_)))))
     cases H
     exact ⟨U,.inl ⟨_,_,_,wn (qg.mk c8 c9 r16),Z,Z,Z,Z,we⟩,.inl Z,U⟩
 ·rintro k10 x13 ⟨v6,l7,c8,c9⟩ q11 h19 h20 H hq11
  replace H:y1u v3 r4 k10 x13 v6 l7 c8 c9=some q11:=H
  unfold y1u at H
  refine ut (zb hN Z (za (zw Z Z) (ze (zg _ Z (fun h => ?_) (fun h=>(lt_f h19 h).elim)))))
  refine zj (yb (ι:=Bool×(List Bs)×Int×Bs) (fun i=>[(2,.dat (vint v3)),(6,.ptr 2 0),(8,.dat (vstr r4)),(9,.dat (zf i.1)),(10,.ptr 3 0),(19,.dat (vlst (List.map uf v1.Holders))),(20,.dat (vint (v1.Holders.length:Int))),(21,.dat (vint (k10:Int)))]) (fun i=>[(2,.box none 46 [.dat (vint 0),.dat (vstr []),.dat (vnil)]),(3,.box none 46 [.dat (vint i.2.2.1),.dat (vstr i.2.2.2),.row 4 i.2.1.length]),(4,.row 9 1 (List.map zn i.2.1))]) (fun i=>z00 i.1 i.2.1 i.2.2.1 i.2.2.2=some q11) (fun i=>Z) ?_ ?_)
  ·refine ut (zx (zb hN Z (za (qt z3p (fun _=>Z) Z Z h20) (za (ke z7j Z (yp h20) Z) (zk (qr 5 y5u Z) Z (zk (ym z7j Z Z Z Z) Z (ze (zb hN Z (za (zo z7q Z) (zp (zr tyS9 Z Z) Z (qd Z (za (js Z Z) (zg _ Z (fun h21 => ?_) (fun h21 => ?_))))))))))))))
   ·refine tE h21 H fun H=>yu ?_
    show Cv _ _ _ _
    exact xm ⟨(v6,l7,c8,c9),H,⟨Z,Z,Z,Z,Z,Z,Z,Z,U⟩,⟨Z,Z,Z,U⟩⟩
   ·refine fE h21 H fun H=>zj (zb hN Z (qe Z (zb hN Z (za (zo y6d Z) (zp (zr tyS3 Z Z) Z (qd Z (za (vf Z Z) (qd Z (qa Z Z (fun hc=>zi (.dat _) Z) (qa Z Z (fun hc=>zo y1l Z) (z4e Z Z (fun hc=>zr tyS3 (cnd (c:=(decide (x13.From≤v3))) hc) Z) Z jl (qa Z Z (fun hc=>zw (cnd (c:=(decide (x13.From≤v3))) hc) (cnd (c:=(decide (x13.From≤v3))) hc)) (za (wx Z (fun hb=>(cnd (c:=(decide (x13.From≤v3))) hb)) Z) (qd Z (qa Z Z (fun hc=>zo y1f Z) (z4e Z Z (fun hc=>zr tyS3 (cnd (c:=((decide (x13.From≤v3)) && (decide (v3 < x13.To)))) hc) Z) Z jl (qa Z Z (fun hc=>yw (cnd (c:=((decide (x13.From≤v3)) && (decide (v3 < x13.To)))) hc) Z) (qa Z Z (fun hc=>zi (.dat _) (cnd (c:=((decide (x13.From≤v3)) && (decide (v3 < x13.To)))) hc)) (Qw Z Z (fun hc=>zo z7m Z) (y7o Z Z (fun hc=>zr tyS9 (cnd (c:=(((decide (x13.From≤v3)) && (decide (v3 < x13.To))) && !(decide (c8=0)))) hc) Z) Z jl (Qw Z Z (fun hc=>zo Qd Z) (y7o Z Z (fun hc=>zr tyS9 (cnd (c:=(((decide (x13.From≤v3)) && (decide (v3 < x13.To))) && !(decide (c8=0)))) hc) Z) Z jl ?_))))))))))))))))))))))
    refine Qw Z Z (fun hc=>vd (cnd (c:=(((decide (x13.From≤v3)) && (decide (v3 < x13.To))) && !(decide (c8=0)))) hc) (cnd (c:=(((decide (x13.From≤v3)) && (decide (v3 < x13.To))) && !(decide (c8=0)))) hc)) (qa Z Z (fun hc=>ve (cnd (c:=((decide (x13.From≤v3)) && (decide (v3 < x13.To)))) hc) Z (fun hb=>(cnd (c:=(((decide (x13.From≤v3)) && (decide (v3 < x13.To))) && !(decide (c8=0)))) (andI hc (notI hb))))) (za (wx Z (fun hb=>(cnd (c:=((decide (x13.From≤v3)) && (decide (v3 < x13.To)))) hb)) Z) (zg _ Z (fun h22 => ?_) (fun h22 => ?_))))
    ·refine tE h22 H fun H=>ze (wq mixed hN Z Z (za (zo Qd Z) (zp (zr tyS9 Z Z) Z (za (zo y1f Z) (zk (wl tyS3 Z Z Z Z) Z (za (zo z7m Z) (zk (wl tyS9 Z Z Z Z) Z ⟨Z,?_⟩)))))))
     refine zt hN Z (za (zo Zu Z) (zp (zr qk Z Z) Z (za (zo y6e Z) (zp (zr qk Z Z) Z (gE H fun h23 H=>zk (y6s wz (fun _=>Z) Z Z Z h23 Z) Z (za (zo Zu Z) (y2m (y13 qk Z Z (by rw [List.length_map]) Z) Z Z ?_)))))))
     refine xx ?_
     show Cv _ _ _ _
     exact xm ⟨(true,(l7++x13.Scopes),2,x13.App),H,⟨Z,Z,Z,Z,Z,Z,Z,Z,U⟩,⟨Z,Z,Z,U⟩⟩
    ·refine fE h22 H fun H=>zj ?_
     show Cv _ _ _ _
     exact xm ⟨(true,l7,c8,c9),H,⟨Z,Z,Z,Z,Z,Z,Z,Z,U⟩,⟨Z,Z,Z,U⟩⟩
  ·rintro ⟨v24,l25,c26,c27⟩ H
   replace H:z00 v24 l25 c26 c27=some q11:=H
   unfold z00 at H
   refine zt hN Z (za (qo Z Z (by omega)) (qd Z (xx ?_)))
   show Cv _ _ _ _
   exact xm ⟨_,yx H,⟨Z,Z,Z,Z,Z,Z,Z,Z,U⟩,⟨Z,Z,Z,U⟩⟩
end Go.Proofs.YtbndlmnjeofkdadGreatDoor
