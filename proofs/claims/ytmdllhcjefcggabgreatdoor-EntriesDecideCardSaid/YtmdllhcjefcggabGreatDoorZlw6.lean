/- Walks along the models. Printed by a program. -/
import Derived.Test.YtmdllhcjefcggabGreatDoorZlw5
namespace Go.Proofs.YtmdllhcjefcggabGreatDoor
open Go.RowKit
set_option linter.unusedVariables false
set_option maxRecDepth 100000
set_option maxHeartbeats 2000000
theorem w2e (n1:Int) (most2:Int) (r:(Bool)) (H:y2q n1 most2=some r):Fn Tryz.prog 69 [vint n1,vint most2] (zu [ze r]):=by
 refine ⟨by kernel_rfl,yh (us:=[ze r]) Tryz.func69 Z Z Z Z fun X hN => ?_⟩
 unfold y2q at H
 refine zb hN Z (qe Z (zb hN Z (qd Z (za (qf Z Z) (qd Z (yn Z Z (fun hc=>zd (.dat _) Z) (yn Z Z (fun hc=>zd (.dat _) Z) (yn Z Z (fun hc=>yj _ (cnd (c:=(!(decide (most2=(-1))))) hc) Z (.inr (.inr ⟨Z,Z⟩))) (yn Z Z (fun hc=>wi (cnd (c:=(!(decide (most2=(-1))))) hc) (cnd (c:=(!(decide (most2=(-1))))) hc)) (za (wv Z Z (fun hb=>(cnd (c:=(!(decide (most2=(-1))))) (notI hb)))) (qe Z (zi ?_))))))))))))
 cases H
 exact ⟨U,.inl Z,U⟩
theorem w2f (v1:zy) (v2:zy) (v3:Int) (r:(Int)) (H:z44 v1 v2 v3=some r):Fn Tryz.prog 33 [vagg (vg v1),vagg (vg v2),vint v3] (zu [vint r]):=by
 refine ⟨by kernel_rfl,yh (us:=[vint r]) Tryz.func33 Z Z Z Z fun X hN => ?_⟩
 unfold z44 at H
 refine zb hN Z (zj (wd 1 Z) Z (zj (wd 2 Z) Z (qe Z (zb hN Z (qd Z (zm (qa vy Z Z Z) Z (bE H fun r4 h5 H=>za (zk (x3c v2 r4 h5) ⟨.inl Z,U⟩) (za (yj _ Z Z (.inr (.inl ⟨Z,Z⟩))) (qe Z (zb hN Z (za (x7a) (zh (zw (zb hN Z (za (zq Qu Z) (zm (zv tyS4 Z Z) Z (qd Z (yn Z Z (fun hc=>zq Qu Z) (jw Z Z (fun hc=>zv tyS4 (cnd (c:=(!v1.NoCache)) hc) Z) Z vf (za (wv Z Z (fun hb=>(cnd (c:=(!v1.NoCache)) (notI hb)))) (qe Z (zg _ Z (fun h6 => ?_) (fun h6 => ?_)))))))))))))))))))))))
 ·refine tE h6 H fun H=>zb hN Z (qe Z (zi ?_))
  cases H
  exact ⟨U,.inl Z,U⟩
 ·refine fE h6 H fun H=>yd (ι:=Bool) (fun i=>[(3,.ptr 1 0),(4,.ptr 2 0),(7,.dat (vint (wr (v3 - r4)))),(20,.dat (ze i))]) (fun i=>[(1,.box none 61 [.dat (ze v1.NoStore),.dat (ze v1.NoCache),.dat (ze v1.Private),.dat (ze v1.Public),.dat (ze v1.Must),.dat (ze v1.Only),.dat (vint v1.MaxAge),.dat (vint v1.Shared),.dat (vint v1.Stale),.dat (vint v1.OnError),.dat (vint v1.MaxStale),.dat (vint v1.MinFresh)]),(2,.box none 61 [.dat (ze v2.NoStore),.dat (ze v2.NoCache),.dat (ze v2.Private),.dat (ze v2.Public),.dat (ze v2.Must),.dat (ze v2.Only),.dat (vint v2.MaxAge),.dat (vint v2.Shared),.dat (vint v2.Stale),.dat (vint v2.OnError),.dat (vint v2.MaxStale),.dat (vint v2.MinFresh)])]) (fun i=>Qn v1 v2 v3 r4 i=some r) (fun i=>Z) ?_ ?_
  ·skip
   refine zp hN Z (qd Z (za (zx Z Z) (qd Z (yi (j:=2) Z Z (fun h7 => ?_) (fun h7 => ?_) Z))))
   ·refine u1 h7 H fun h8 H=>zf Z Z h7 (zd (.dat _) Z) (zf Z Z h7 (zd (.dat _) Z) (zf Z Z h7 (zq Zl Z) (vt Z Z h7 (zv tyS3 Z Z) Z (bE H fun r9 h10 H=>zf Z Z h7 (z0t (us:=[vint v3,vint v1.MaxAge]) (cs:=[]) (w2e v3 v1.MaxAge r9 h10) Z ⟨.inl Z,.inl Z,U⟩) (za (yf Z (bTT h8) Z) (qd Z (yi (j:=9) Z Z (fun h11 => ?_) (fun h11 => ?_) Z)))))))
    ·refine u1 h11 H fun h12 H=>zf Z Z h11 (zq Qt Z) (vt Z Z h11 (zv tyS3 Z Z) Z (zf Z Z h11 (qf Z Z) (zf Z Z h11 (zd (.dat _) Z) (yi (j:=13) Z Z (fun h13 => ?_) (fun h13 => ?_) Z))))
     ·exact u3 h13 H fun h14 H=>zf Z Z h13 (zd (.dat _) Z) (zf Z Z h13 (zq Qt Z) (vt Z Z h13 (zv tyS3 Z Z) Z (gE H fun h15 H=>zf Z Z h13 (y03 Z h15) (zf Z Z h13 (yj _ Z Z (.inr (.inr ⟨Z,Z⟩))) (zf Z Z h13 (wi Z Z) (zf Z Z h11 (ye Z (bFF h14) Z) (za (yf Z (bTT h12) Z) (qe Z ⟨decide ((wr (v3 - r4))≤(wr ((-v1.MinFresh) * 1000))),H,⟨Z,Z,Z,Z,U⟩,⟨Z,Z,U⟩⟩))))))))
     ·exact u4 h13 H fun h16 H=>zc Z Z h13 (zc Z Z h13 (zc Z Z h13 (zc Z Z h13 (zc Z Z h13 (zc Z Z h13 (zf Z Z h11 (yf Z (bTT h16) Z) (za (yf Z (bTT h12) Z) (qe Z ⟨true,H,⟨Z,Z,Z,Z,U⟩,⟨Z,Z,U⟩⟩))))))))
    ·exact u2 h11 H fun h17 H=>zc Z Z h11 (zc Z Z h11 (zc Z Z h11 (zc Z Z h11 (yk Z Z (yk Z Z (yk Z Z (yk Z Z (yk Z Z (yk Z Z (zc Z Z h11 (za (ye Z (bFF h17) Z) (qe Z ⟨false,H,⟨Z,Z,Z,Z,U⟩,⟨Z,Z,U⟩⟩))))))))))))
   ·exact u2 h7 H fun h18 H=>zc Z Z h7 (zc Z Z h7 (zc Z Z h7 (zc Z Z h7 (zc Z Z h7 (za (ye Z (bFF h18) Z) (qd Z (zc Z Z Z (zc Z Z Z (zc Z Z Z (zc Z Z Z (yk Z Z (yk Z Z (yk Z Z (yk Z Z (yk Z Z (yk Z Z (zc Z Z Z (za (ye Z Z Z) (qe Z ⟨false,H,⟨Z,Z,Z,Z,U⟩,⟨Z,Z,U⟩⟩)))))))))))))))))))
  ·rintro v19 H
   replace H:Qn v1 v2 v3 r4 v19=some r:=H
   unfold Qn at H
   refine zg _ Z (fun h20 => ?_) (fun h20 => ?_)
   ·refine tE h20 H fun H=>zb hN Z (qe Z (zi ?_))
    cases H
    exact ⟨U,.inl Z,U⟩
   ·refine fE h20 H fun H=>zb hN Z (qd Z (za (zx Z Z) (qd Z (yn Z Z (fun hc=>zq y0q Z) (jw Z Z (fun hc=>zv tyS4 (cnd (c:=(!(decide ((wr (v3 - r4)) < 0)))) hc) Z) Z vf (za (wv Z Z (fun hb=>(cnd (c:=(!(decide ((wr (v3 - r4)) < 0)))) (notI hb)))) (qe Z (zg _ Z (fun h21 => ?_) (fun h21 => ?_)))))))))
    ·refine tE h21 H fun H=>zb hN Z (qe Z (zi ?_))
     cases H
     exact ⟨U,.inl Z,U⟩
    ·refine fE h21 H fun H=>zb hN Z (za (zq z66 Z) (zm (zv tyS3 Z Z) Z (za (qp Z Z) (qd Z (yz Z Z (fun hc=>zd (.dat _) Z) (yz Z Z (fun hc=>zq z66 Z) (z3l Z Z (fun hc=>zv tyS3 (cnd (c:=(decide (v1.MaxStale≠(-1)))) hc) Z) Z vf (yz Z Z (fun hc=>yj _ (cnd (c:=(decide (v1.MaxStale≠(-1)))) hc) Z (.inr (.inr ⟨Z,Z⟩))) (yz Z Z (fun hc=>wi (cnd (c:=(decide (v1.MaxStale≠(-1)))) hc) (cnd (c:=(decide (v1.MaxStale≠(-1)))) hc)) (za (wm Z (fun hb=>(cnd (c:=(decide (v1.MaxStale≠(-1)))) hb)) Z) (qe Z (zg _ Z (fun h22 => ?_) (fun h22 => ?_)))))))))))))
     ·refine tE h22 H fun H=>zb hN Z (qe Z (zi ?_))
      cases H
      exact ⟨U,.inl Z,U⟩
     ·refine fE h22 H fun H=>zb hN Z (za (zq z27 Z) (zm (zv tyS3 Z Z) Z (za (qp Z Z) (qd Z (yz Z Z (fun hc=>zd (.dat _) Z) (yz Z Z (fun hc=>zq z27 Z) (z3l Z Z (fun hc=>zv tyS3 (cnd (c:=(decide (v2.Stale≠(-1)))) hc) Z) Z vf (yz Z Z (fun hc=>yj _ (cnd (c:=(decide (v2.Stale≠(-1)))) hc) Z (.inr (.inr ⟨Z,Z⟩))) (yz Z Z (fun hc=>zx (cnd (c:=(decide (v2.Stale≠(-1)))) hc) (cnd (c:=(decide (v2.Stale≠(-1)))) hc)) (za (wm Z (fun hb=>(cnd (c:=(decide (v2.Stale≠(-1)))) hb)) Z) (qd Z (yz Z Z (fun hc=>zq Zl Z) (z3l Z Z (fun hc=>zv tyS3 (cnd (c:=((decide (v2.Stale≠(-1))) && (decide ((wr (v3 - r4)) < (wr (v2.Stale * 1000)))))) hc) Z) Z vf (yz Z Z (fun hc=>qf (cnd (c:=((decide (v2.Stale≠(-1))) && (decide ((wr (v3 - r4)) < (wr (v2.Stale * 1000)))))) hc) Z) (za (wm Z (fun hb=>(cnd (c:=((decide (v2.Stale≠(-1))) && (decide ((wr (v3 - r4)) < (wr (v2.Stale * 1000)))))) hb)) Z) (qe Z (zg _ Z (fun h23 => ?_) (fun h23 => ?_))))))))))))))))))
      ·refine tE h23 H fun H=>zb hN Z (qe Z (zi ?_))
       cases H
       exact ⟨U,.inl Z,U⟩
      ·refine fE h23 H fun H=>zl (zb hN Z (qe Z (zi ?_)))
       cases H
       exact ⟨U,.inl Z,U⟩
theorem w2i (v1:qr) (v2:zz) (r:(Int×Int)) (H:z47 v1 v2=some r):Fn Tryz.prog 13 [vagg (xr v1),vagg (qx v2)] (zu [vint r.1,vint r.2]):=by
 refine ⟨by kernel_rfl,yh (us:=[vint r.1,vint r.2]) Tryz.func13 Z Z Z Z fun X hN => ?_⟩
 unfold z47 at H
 refine zb hN Z (zj (wd 1 Z) Z (zj (wd 2 Z) Z (qe Z (qe Z (zh (zb hN Z (zm (qa uq Z Z Z) Z (zm (qa yy Z Z Z) Z (bE H fun r3 h4 H=>za (zk (w2b v1 v2 r3 h4) ⟨.inl Z,.inl Z,U⟩) (qe Z (zb hN Z (qd Z (za (qp Z Z) (zg _ Z (fun h5 => ?_) (fun h5 => ?_)))))))))))))))
 ·refine tE h5 H fun H=>zb hN Z (qd Z (qe Z (qe Z (zi ?_))))
  cases H
  exact ⟨U,.inl Z,.inl Z,U⟩
 ·refine fE h5 H fun H=>zl (zb hN Z (za (zq vi Z) (zm (zv wb Z Z) Z (bE H fun r6 h7 H=>za (zk (y6s v2.Headers r6 h7) ⟨.inl Z,U⟩) (qd Z (za (yc Z Z) (za (yc Z Z) (zj (qv 3 ue Z) Z (zj (qk vy Z Z Z Z) Z (qe Z (zh (zb hN Z (qd Z (za (qp Z Z) (zg _ Z (fun h8 => ?_) (fun h8 => ?_))))))))))))))))
  ·refine tE h8 H fun H=>zb hN Z (qd Z (qe Z (qe Z (zi ?_))))
   cases H
   exact ⟨U,.inl Z,.inl Z,U⟩
  ·refine fE h8 H fun H=>zl (zb hN Z (za (zq Zm Z) (za (zq xu Z) (zm (zv wb Z Z) Z (bE H fun r9 h10 H=>za (zk (y6s v1.Response.Headers r9 h10) ⟨.inl Z,U⟩) (qd Z (za (yc Z Z) (za (yc Z Z) (zj (qv 4 ue Z) Z (zj (qk vy Z Z Z Z) Z (qe Z (zh (zb hN Z (qd Z (za (qp Z Z) (zg _ Z (fun h11 => ?_) (fun h11 => ?_)))))))))))))))))
   ·refine tE h11 H fun H=>zb hN Z (qd Z (qe Z (qe Z (zi ?_))))
    cases H
    exact ⟨U,.inl Z,.inl Z,U⟩
   ·refine fE h11 H fun H=>zl (zh (zb hN Z (za (zq Ym Z) (zm (zv tyS3 Z Z) Z (za (zq Yl Z) (zm (zv tyS3 Z Z) Z (za (zx Z Z) (zg _ Z (fun h12 => ?_) (fun h12 => ?_)))))))))
    ·refine tE h12 H fun H=>zb hN Z (qe Z (qe Z (zi ?_)))
     cases H
     exact ⟨U,.inl Z,.inl Z,U⟩
    ·refine fE h12 H fun H=>zl (zb hN Z (za (zq z29 Z) (zm (qa yy Z Z Z) Z (zm (qa yy Z Z Z) Z (bE H fun r13 h14 H=>za (zk (w2c v1.Request v2 r13 h14) ⟨.inl Z,.inl Z,U⟩) (qd Z (za (yc Z Z) (za (yc Z Z) (za (yc Z Z) (zj (qv 5 jh Z) Z (zj (qv 6 jh Z) Z (zj (qk yy Z Z Z Z) Z (zj (qk yy Z Z Z Z) Z (qe Z (zh (zb hN Z (qd Z (za (qp Z Z) (zg _ Z (fun h15 => ?_) (fun h15 => ?_))))))))))))))))))))
     ·refine tE h15 H fun H=>zb hN Z (qd Z (qe Z (qe Z (zi ?_))))
      cases H
      exact ⟨U,.inl Z,.inl Z,U⟩
     ·refine fE h15 H fun H=>zl (zh (zb hN Z (zm (qa yy Z Z Z) Z (za (zq Zm Z) (zm (qa ur Z Z Z) Z (zm (qa yy Z Z Z) Z (bE H fun r16 h17 H=>za (zk (w2a r13.1 v1.Response r13.2.1 r16 h17) ⟨.inl Z,.inl Z,.inl Z,U⟩) (za (yq Z) (zg _ Z (fun h18 => ?_) (fun h18 => ?_))))))))))
      ·refine tE h18 H fun H=>zb hN Z (qe Z (qe Z (zi ?_)))
       cases H
       exact ⟨U,.inl Z,.inl Z,U⟩
      ·refine fE h18 H fun H=>zl (zh (wz mixed hN Z Z (zm (qa vy Z Z Z) Z (zm (qa vy Z Z Z) Z (zm (qa uq Z Z Z) Z (za (zq Ym Z) (zm (zv tyS3 Z Z) Z (bE H fun r19 h20 H=>za (zk (w2g (qr.mk v1.Request v1.Response v1.At v1.Tags v1.Used) v2.At r19 h20) ⟨.inl Z,.inl Z,U⟩) (bE H fun r21 h22 H=>za (zk (w2f (zy.mk r6.1.NoStore r6.1.NoCache r6.1.Private r6.1.Public r6.1.Must r6.1.Only r6.1.MaxAge r6.1.Shared r6.1.Stale r6.1.OnError r6.1.MaxStale r6.1.MinFresh) r9.1 r19 r21 h22) ⟨.inl Z,.inl Z,.inl Z,U⟩) (qe Z (qe Z ⟨Z,?_⟩)))))))))))
       refine zi ?_
       cases H
       exact ⟨U,.inl Z,.inl Z,U⟩
theorem Qc (n1:Int) (low2:Int) (high3:Int) (r:(Bool)) (H:ko n1 low2 high3=some r):Fn Tryz.prog 71 [vint n1,vint low2,vint high3] (zu [ze r]):=by
 refine ⟨by kernel_rfl,yh (us:=[ze r]) Tryz.func71 Z Z Z Z fun X hN => ?_⟩
 unfold ko at H
 refine zb hN Z (qe Z (zb hN Z (qd Z (qd Z (za (wi Z Z) (qd Z (yz Z Z (fun hc=>zd (.dat _) Z) (yz Z Z (fun hc=>zd (.dat _) Z) (yz Z Z (fun hc=>wi (cnd (c:=(decide (low2≤n1))) hc) (cnd (c:=(decide (low2≤n1))) hc)) (za (wm Z (fun hb=>(cnd (c:=(decide (low2≤n1))) hb)) Z) (qe Z (zi ?_))))))))))))
 cases H
 exact ⟨U,.inl Z,U⟩
theorem y6p (v1:Int) (r:(Bool)) (H:z4u v1=some r):Fn Tryz.prog 36 [vint v1] (zu [ze r]):=by
 refine ⟨by kernel_rfl,yh (us:=[ze r]) Tryz.func36 Z Z Z Z fun X hN => ?_⟩
 unfold z4u at H
 refine zb hN Z (qe Z (zb hN Z (qd Z (bE H fun r2 h3 H=>za (zk (Qc v1 0 345686399999 r2 h3) ⟨.inl Z,.inl Z,.inl Z,U⟩) (qe Z (zi ?_))))))
 cases H
 exact ⟨U,.inl Z,U⟩
theorem z5f (s1:Bs) (some2:Bs) (r:(Bool)) (H:xa s1 some2=some r):Fn Tryz.prog 72 [vstr s1,vstr some2] (zu [ze r]):=by
 refine ⟨by kernel_rfl,yh (us:=[ze r]) Tryz.func72 Z Z Z Z fun X hN => ?_⟩
 unfold xa at H
 refine zb hN Z (qe Z (zh (zb hN Z (qd Z (za (qj tyU9 Z) (qd Z (zw (gE H fun h5 H=>qw (fun (k3:Nat) (s:Unit)=>[(0,.dat (vstr s1)),(1,.dat (vstr some2)),(7,.dat (vint (s1.length:Int))),(8,.dat (vint (k3:Int)))]) (fun (k3:Nat) (s:Unit)=>[]) () H ⟨Z,Z,Z,Z,U⟩ U (fun _ _=>Z) ?_ ?_))))))))
 ·rintro ⟨⟩ H
  replace H:y65=some r:=H
  unfold y65 at H
  refine zb hN Z (za (zx Z Z) (zh (zg _ Z (fun h=>(lt_t h).elim) (fun h => ?_))))
  refine yt (zb hN Z (qe Z (zi ?_)))
  cases H
  exact ⟨U,.inl Z,U⟩
 ·rintro k3 x6 ⟨⟩ q4 h7 h8 H hq4
  replace H:y3i some2 k3 x6=some q4:=H
  unfold y3i at H
  refine zb hN Z (za (zx Z Z) (zh (zg _ Z (fun h => ?_) (fun h=>(lt_f h7 h).elim))))
  refine zl (zh (zw (zb hN Z (qd Z (qe Z (zb hN Z (qd Z (qd Z (qd Z (za (qy tyU9 Z Z h8) (bE H fun r9 h10 H=>za (zk (y2w some2 (x6.toNat:Int) r9 h10) ⟨.inl Z,.inl Z,U⟩) (za (zx Z Z) (zg _ Z (fun h11 => ?_) (fun h11 => ?_))))))))))))))
  ·refine tE h11 H fun H=>zb hN Z (qe Z (zi ?_))
   replace H:=retl H hq4
   cases H
   exact ⟨U,.inl Z,U⟩
  ·exact fE h11 H fun H=>zl (zp hN Z (za (qs Z Z (by omega)) (qd Z ⟨_,yx H,⟨Z,Z,Z,Z,U⟩,U⟩)))
theorem y20 (s1:Bs) (r:(Bool)) (H:Wt s1=some r):Fn Tryz.prog 39 [vstr s1] (zu [ze r]):=by
 refine ⟨by kernel_rfl,yh (us:=[ze r]) Tryz.func39 Z Z Z Z fun X hN => ?_⟩
 unfold Wt at H
 refine zb hN Z (qe Z (yd (ι:=Bool) (fun i=>[(2,.dat (ze i))]) (fun i=>[]) (fun i=>z5z i=some r) (fun i=>Z) ?_ ?_))
 ·skip
  refine zp hN Z (qd Z (za (qj tyU9 Z) (bE H fun r2 h3 H=>za (zk (Qc (s1.length:Int) 1 100 r2 h3) ⟨.inl Z,.inl Z,.inl Z,U⟩) (qd Z (yi (j:=3) Z Z (fun h4 => ?_) (fun h4 => ?_) Z)))))
  ·exact u1 h4 H fun h5 H=>zf Z Z h4 (zd (.dat _) Z) (bE H fun r6 h7 H=>zf Z Z h4 (zk (z5f s1 [97,98,99,100,101,102,103,104,105,106,107,108,109,110,111,112,113,114,115,116,117,118,119,120,121,122,65,66,67,68,69,70,71,72,73,74,75,76,77,78,79,80,81,82,83,84,85,86,87,88,89,90,48,49,50,51,52,53,54,55,56,57,33,35,36,37,38,39,42,43,45,46,94,95,96,124,126] r6 h7) ⟨.inl Z,.inl Z,U⟩) (za (yf Z (bTT h5) Z) (qe Z ⟨r6,H,⟨Z,U⟩,U⟩)))
  ·exact u2 h4 H fun h8 H=>zc Z Z h4 (zc Z Z h4 (za (ye Z (bFF h8) Z) (qe Z ⟨false,H,⟨Z,U⟩,U⟩)))
 ·rintro v9 H
  replace H:z5z v9=some r:=H
  unfold z5z at H
  refine zi ?_
  cases H
  exact ⟨U,.inl Z,U⟩
theorem w0q (n:Int) (r:Bs) (H:y2d n=some r):Fn Tryz.prog 133 [vint n] (zu [vstr r]):=by
 obtain ⟨⟨h1,h2⟩,h3⟩:=gif H
 cases h3
 refine Zh (by kernel_rfl) fun M w vs hM h => ?_
 have hv:=kr (us:=[.int .i64 n]) h
 subst hv
 refine (Tryz.strconv_Itoa n h1 h2 w (x85 hM)).mono ?_
 rintro e w' ⟨rfl,k,os,rfl⟩
 exact ⟨_,Z,Z,Kp.of_below ⟨Z,Z,Z,by show w.heap.size≤(w.heap++os).size; rw [Array.size_append]; omega,fun j hj=>by show (w.heap++os)[j]?=w.heap[j]?; exact Array.getElem?_append_left hj⟩⟩
theorem y6o (s1:Bs) (most2:Int) (r:(Int×Bool)) (H:Zx s1 most2=some r):Fn Tryz.prog 79 [vstr s1,vint most2] (zu [vint r.1,ze r.2]):=by
 refine ⟨by kernel_rfl,yh (us:=[vint r.1,ze r.2]) Tryz.func79 Z Z Z Z fun X hN => ?_⟩
 unfold Zx at H
 refine zb hN Z (qe Z (qe Z (zb hN Z (qd Z (bE H fun r3 h4 H=>za (zk (x1o s1 [45] r3 h4) ⟨.inl Z,.inl Z,U⟩) (qe Z (zh (yd (ι:=Bool) (fun i=>[(0,.dat (vstr s1)),(23,.dat (ze i))]) (fun i=>[]) (fun i=>Zg s1 i=some r) (fun i=>Z) ?_ ?_))))))))
 ·skip
  refine zp hN Z (qd Z (za (va Z Z) (qd Z (yi (j:=2) Z Z (fun h5 => ?_) (fun h5 => ?_) Z))))
  ·refine u3 h5 H fun h6 H=>zf Z Z h5 (zd (.dat _) Z) (zf Z Z h5 (qj tyU9 Z) (zf Z Z h5 (zd (.dat _) Z) (zf Z Z h5 (wg Z Z) (za (ye Z (bFF h6) Z) (qd Z (yi (j:=8) Z Z (fun h7 => ?_) (fun h7 => ?_) Z))))))
   ·exact u3 h7 H fun h8 H=>zf Z Z h7 (zd (.dat _) Z) (bE H fun r9 h10 H=>zf Z Z h7 (zk (z5f r3 [48,49,50,51,52,53,54,55,56,57] r9 h10) ⟨.inl Z,.inl Z,U⟩) (zf Z Z h7 (yq Z) (za (ye Z (bFF h8) Z) ⟨!r9,H,⟨Z,Z,U⟩,U⟩)))
   ·exact u4 h7 H fun h11 H=>zc Z Z h7 (zc Z Z h7 (zc Z Z h7 (za (yf Z (bTT h11) Z) ⟨true,H,⟨Z,Z,U⟩,U⟩)))
  ·exact u4 h5 H fun h12 H=>zc Z Z h5 (zc Z Z h5 (zc Z Z h5 (zc Z Z h5 (za (yf Z (bTT h12) Z) (qd Z (zc Z Z Z (zc Z Z Z (zc Z Z Z (za (yf Z Z Z) ⟨true,H,⟨Z,Z,U⟩,U⟩)))))))))
 ·rintro v13 H
  replace H:Zg s1 v13=some r:=H
  unfold Zg at H
  refine zg _ Z (fun h14 => ?_) (fun h14 => ?_)
  ·refine tE h14 H fun H=>zb hN Z (qe Z (qe Z (zi ?_)))
   cases H
   exact ⟨U,.inl Z,.inl Z,U⟩
  ·refine fE h14 H fun H=>zl (zb hN Z (qd Z (bE H fun r15 h16 H=>za (zk (x1u s1 r15 h16) ⟨.inl Z,U⟩) (qd Z (za (yc Z Z) (za (yc Z Z) (qe Z (qe Z (yd (ι:=Bool) (fun i=>[(4,.dat (vint r15.1)),(5,.dat (ze i))]) (fun i=>[]) (fun i=>z55 r15 i=some r) (fun i=>Z) ?_ ?_)))))))))
   ·skip
    refine zp hN Z (qd Z (qd Z (za (y9p (n:=r15.2) (show Tryz.prog.underlying 124=some (.interface (Tryz.prog.methodsAt 124)) from by kernel_rfl) Z) ?_)))
    refine qd Z (yi (j:=3) Z Z (fun h17 => ?_) (fun h17 => ?_) Z)
    ·exact u1 h17 H fun h18 H=>zf Z Z h17 (zd (.dat _) Z) (bE H fun r19 h20 H=>zf Z Z h17 (zk (w0q r15.1 r19 h20) ⟨.inl Z,U⟩) (zf Z Z h17 (zd (.dat _) Z) (zf Z Z h17 (va Z Z) (za (yf Z (bTT h18) Z) (qe Z (qe Z ⟨decide (r19=s1),H,⟨Z,Z,U⟩,U⟩))))))
    ·exact u2 h17 H fun h21 H=>zc Z Z h17 (zc Z Z h17 (zc Z Z h17 (zc Z Z h17 (za (ye Z (bFF h21) Z) (qe Z (qe Z ⟨false,H,⟨Z,Z,U⟩,U⟩))))))
   ·rintro v22 H
    replace H:z55 r15 v22=some r:=H
    unfold z55 at H
    refine zi ?_
    cases H
    exact ⟨U,.inl Z,.inl Z,U⟩
theorem x2y (v1:Bs) (r:(Bs×Int)) (H:Ww v1=some r):Fn Tryz.prog 40 [vstr v1] (zu [vstr r.1,vint r.2]):=by
 refine ⟨by kernel_rfl,yh (us:=[vstr r.1,vint r.2]) Tryz.func40 Z Z Z Z fun X hN => ?_⟩
 unfold Ww at H
 refine zb hN Z (qe Z (qe Z (zb hN Z (qd Z (bE H fun r2 h3 H=>za (zk (z1q v1 [58] r2 h3) ⟨.inl Z,.inl Z,U⟩) (qd Z (za (yc Z Z) (za (yc Z Z) (za (yc Z Z) (qe Z (qe Z (qe Z (zb hN Z (qd Z (bE H fun r4 h5 H=>za (zk (y6o r2.2.1 5 r4 h5) ⟨.inl Z,.inl Z,U⟩) (qd Z (za (yc Z Z) (za (yc Z Z) (qe Z (qe Z (zh ?_)))))))))))))))))))))
 refine yd (ι:=Bool) (fun i=>[(4,.dat (vstr r2.1)),(5,.dat (vstr r2.2.1)),(6,.dat (ze r2.2.2)),(7,.dat (vint r4.1)),(37,.dat (ze i))]) (fun i=>[]) (fun i=>Qk r2 r4 i=some r) (fun i=>Z) ?_ ?_
 ·skip
  refine zp hN Z (qd Z (za (qj tyU9 Z) (za (wg Z Z) (qd Z (yi (j:=3) Z Z (fun h6 => ?_) (fun h6 => ?_) Z)))))
  ·refine u3 h6 H fun h7 H=>zf Z Z h6 (zd (.dat _) Z) (zf Z Z h6 (zd (.dat _) Z) (yi (j:=5) Z Z (fun h8 => ?_) (fun h8 => ?_) Z))
   ·refine u1 h8 H fun h9 H=>zf Z Z h8 (zd (.dat _) Z) (zf Z Z h8 (yq Z) (zf Z Z h8 (zd (.dat _) Z) (yi (j:=8) Z Z (fun h10 => ?_) (fun h10 => ?_) Z)))
    ·exact u3 h10 H fun h11 H=>zf Z Z h10 (zd (.dat _) Z) (bE H fun r12 h13 H=>zf Z Z h10 (zk (Qc r4.1 1 65535 r12 h13) ⟨.inl Z,.inl Z,.inl Z,U⟩) (zf Z Z h10 (yq Z) (zf Z Z h8 (ye Z (bFF h11) Z) (zf Z Z h6 (yf Z (bTT h9) Z) (za (ye Z (bFF h7) Z) ⟨!r12,H,⟨Z,Z,Z,Z,Z,U⟩,U⟩)))))
    ·exact u4 h10 H fun h14 H=>zc Z Z h10 (zc Z Z h10 (zc Z Z h10 (zf Z Z h8 (yf Z (bTT h14) Z) (zf Z Z h6 (yf Z (bTT h9) Z) (za (ye Z (bFF h7) Z) ⟨true,H,⟨Z,Z,Z,Z,Z,U⟩,U⟩)))))
   ·exact u2 h8 H fun h15 H=>zc Z Z h8 (zc Z Z h8 (zc Z Z h8 (yk Z Z (yk Z Z (yk Z Z (zc Z Z h8 (zf Z Z h6 (ye Z (bFF h15) Z) (za (ye Z (bFF h7) Z) ⟨false,H,⟨Z,Z,Z,Z,Z,U⟩,U⟩))))))))
  ·exact u4 h6 H fun h16 H=>zc Z Z h6 (zc Z Z h6 (yk Z Z (yk Z Z (yk Z Z (yk Z Z (yk Z Z (yk Z Z (yk Z Z (zc Z Z h6 (za (yf Z (bTT h16) Z) ⟨true,H,⟨Z,Z,Z,Z,Z,U⟩,U⟩))))))))))
 ·rintro v17 H
  replace H:Qk r2 r4 v17=some r:=H
  unfold Qk at H
  refine zg _ Z (fun h18 => ?_) (fun h18 => ?_)
  ·refine tE h18 H fun H=>zb hN Z (qe Z (qe Z (zi ?_)))
   cases H
   exact ⟨U,.inl Z,.inl Z,U⟩
  ·refine fE h18 H fun H=>zl (zh (zb hN Z (qd Z (bE H fun r19 h20 H=>za (zk (Qb r2.1 [46] r19 h20) ⟨.inl Z,.inl Z,U⟩) (za (qi wq Z) (qd Z (zw (gE H fun h23 H=>qw (fun (k21:Nat) (s:Unit)=>[(4,.dat (vstr r2.1)),(5,.dat (vstr r2.2.1)),(6,.dat (ze r2.2.2)),(7,.dat (vint r4.1)),(39,.dat (vlst (List.map zr r19))),(40,.dat (vint (r19.length:Int))),(41,.dat (vint (k21:Int)))]) (fun (k21:Nat) (s:Unit)=>[]) () H ⟨Z,Z,Z,Z,Z,Z,Z,U⟩ U (fun _ _=>Z) ?_ ?_))))))))
   ·rintro ⟨⟩ H
    replace H:z57 r2 r4=some r:=H
    unfold z57 at H
    refine zb hN Z (za (zx Z Z) (zh (zg _ Z (fun h=>(lt_t h).elim) (fun h => ?_))))
    refine yt (zb hN Z (qd Z (bE H fun r25 h26 H=>za (zk (Ya r2.1 r25 h26) ⟨.inl Z,U⟩) (qe Z (yd (ι:=Bs) (fun i=>[(11,.dat (vstr i))]) (fun i=>[]) (fun i=>z9s i=some r) (fun i=>Z) ?_ ?_)))))
    ·skip
     refine zb hN Z (qd Z (qd Z (yz Z Z (fun hc=>zd (.dat _) Z) (yz Z Z (fun hc=>qp (cnd (c:=r2.2.2) hc) Z) (za (wm Z (fun hb=>(cnd (c:=r2.2.2) hb)) Z) (qd Z (yz Z Z (fun hc=>zd (.dat _) Z) (yz Z Z (fun hc=>qp (cnd (c:=(r2.2.2 && (decide (r4.1≠80)))) hc) Z) (za (wm Z (fun hb=>(cnd (c:=(r2.2.2 && (decide (r4.1≠80)))) hb)) Z) (zg _ Z (fun h27 => ?_) (fun h27 => ?_)))))))))))
     ·exact tE h27 H fun H=>zp hN Z (qd Z (qd Z (gE H fun h28 H=>za (jj Z Z (Nat.le_trans h28 (by decide))) (gE H fun h29 H=>za (jj Z Z (Nat.le_trans h29 (by decide))) (qe Z ⟨(r25++([58]++r2.2.1)),H,⟨Z,U⟩,U⟩)))))
     ·exact fE h27 H fun H=>zl ⟨r25,H,⟨Z,U⟩,U⟩
    ·rintro v30 H
     replace H:z9s v30=some r:=H
     unfold z9s at H
     refine zb hN Z (qd Z (qe Z (qe Z (zi ?_))))
     cases H
     exact ⟨U,.inl Z,.inl Z,U⟩
   ·rintro k21 x24 ⟨⟩ q22 h31 h32 H hq22
    replace H:z56 k21 x24=some q22:=H
    unfold z56 at H
    refine zb hN Z (za (zx Z Z) (zh (zg _ Z (fun h => ?_) (fun h=>(lt_f h31 h).elim))))
    refine zl (zh (zw (zb hN Z (za (we vj (fun _=>Z) Z Z h32) (za (qu tyS9 Z (qh h32) Z) (qe Z (yd (ι:=Bool) (fun i=>[(4,.dat (vstr r2.1)),(5,.dat (vstr r2.2.1)),(6,.dat (ze r2.2.2)),(7,.dat (vint r4.1)),(39,.dat (vlst (List.map zr r19))),(40,.dat (vint (r19.length:Int))),(41,.dat (vint (k21:Int))),(59,.dat (ze i))]) (fun i=>[]) (fun i=>Qj i=some q22) (fun i=>Z) ?_ ?_)))))))
    ·skip
     refine zp hN Z (qd Z (za (qj tyU9 Z) (bE H fun r33 h34 H=>za (zk (Qc (x24.length:Int) 1 63 r33 h34) ⟨.inl Z,.inl Z,.inl Z,U⟩) (za (yq Z) (qd Z (yi (j:=4) Z Z (fun h35 => ?_) (fun h35 => ?_) Z))))))
     ·refine u3 h35 H fun h36 H=>zf Z Z h35 (zd (.dat _) Z) (bE H fun r37 h38 H=>zf Z Z h35 (zk (z5f x24 [97,98,99,100,101,102,103,104,105,106,107,108,109,110,111,112,113,114,115,116,117,118,119,120,121,122,65,66,67,68,69,70,71,72,73,74,75,76,77,78,79,80,81,82,83,84,85,86,87,88,89,90,48,49,50,51,52,53,54,55,56,57,45] r37 h38) ⟨.inl Z,.inl Z,U⟩) (zf Z Z h35 (yq Z) (za (ye Z (bFF h36) Z) (qd Z (yi (j:=9) Z Z (fun h39 => ?_) (fun h39 => ?_) Z)))))
      ·exact u3 h39 H fun h40 H=>zf Z Z h39 (zd (.dat _) Z) (bE H fun r41 h42 H=>zf Z Z h39 (zk (z5d x24 [45] r41 h42) ⟨.inl Z,.inl Z,U⟩) (zf Z Z h39 (zd (.dat _) Z) (zf Z Z h39 (ji Z Z) (za (ye Z (bFF h40) Z) ⟨decide (r41≠x24),H,⟨Z,Z,Z,Z,Z,Z,Z,Z,U⟩,U⟩))))
      ·exact u4 h39 H fun h43 H=>zc Z Z h39 (zc Z Z h39 (zc Z Z h39 (zc Z Z h39 (za (yf Z (bTT h43) Z) ⟨true,H,⟨Z,Z,Z,Z,Z,Z,Z,Z,U⟩,U⟩))))
     ·exact u4 h35 H fun h44 H=>zc Z Z h35 (zc Z Z h35 (zc Z Z h35 (za (yf Z (bTT h44) Z) (qd Z (zc Z Z Z (zc Z Z Z (zc Z Z Z (zc Z Z Z (za (yf Z Z Z) ⟨true,H,⟨Z,Z,Z,Z,Z,Z,Z,Z,U⟩,U⟩)))))))))
    ·rintro v45 H
     replace H:Qj v45=some q22:=H
     unfold Qj at H
     refine zg _ Z (fun h46 => ?_) (fun h46 => ?_)
     ·refine tE h46 H fun H=>zb hN Z (qe Z (qe Z (zi ?_)))
      replace H:=retl H hq22
      cases H
      exact ⟨U,.inl Z,.inl Z,U⟩
     ·exact fE h46 H fun H=>zl (zp hN Z (za (qs Z Z (by omega)) (qd Z ⟨_,yx H,⟨Z,Z,Z,Z,Z,Z,Z,U⟩,U⟩)))
theorem y6l (s1:Bs) (low2:Int) (r:(Bool)) (H:Yz s1 low2=some r):Fn Tryz.prog 82 [vstr s1,vval (.int .u8 low2)] (zu [ze r]):=by
 refine ⟨by kernel_rfl,yh (us:=[ze r]) Tryz.func82 Z Z Z Z fun X hN => ?_⟩
 unfold Yz at H
 refine zb hN Z (qe Z (zh (zb hN Z (qd Z (za (qj tyU9 Z) (qd Z (zw (gE H fun h5 H=>qw (fun (k3:Nat) (s:Unit)=>[(0,.dat (vstr s1)),(1,.dat (vval (.int .u8 low2))),(7,.dat (vint (s1.length:Int))),(8,.dat (vint (k3:Int)))]) (fun (k3:Nat) (s:Unit)=>[]) () H ⟨Z,Z,Z,Z,U⟩ U (fun _ _=>Z) ?_ ?_))))))))
 ·rintro ⟨⟩ H
  replace H:y64=some r:=H
  unfold y64 at H
  refine zb hN Z (za (zx Z Z) (zh (zg _ Z (fun h=>(lt_t h).elim) (fun h => ?_))))
  refine yt (zb hN Z (qe Z (zi ?_)))
  cases H
  exact ⟨U,.inl Z,U⟩
 ·rintro k3 x6 ⟨⟩ q4 h7 h8 H hq4
  replace H:y3f low2 k3 x6=some q4:=H
  unfold y3f at H
  refine zb hN Z (za (zx Z Z) (zh (zg _ Z (fun h => ?_) (fun h=>(lt_f h7 h).elim))))
  refine zl (zh (zw (zb hN Z (qd Z (qe Z (yd (ι:=Bool) (fun i=>[(0,.dat (vstr s1)),(1,.dat (vval (.int .u8 low2))),(7,.dat (vint (s1.length:Int))),(8,.dat (vint (k3:Int))),(21,.dat (ze i))]) (fun i=>[]) (fun i=>z5t i=some q4) (fun i=>Z) ?_ ?_))))))
  ·skip
   refine zp hN Z (qd Z (qd Z (za (qy tyU9 Z Z h8) (qd Z (za (zx Z Z) (qd Z (yi (j:=5) Z Z (fun h9 => ?_) (fun h9 => ?_) Z)))))))
   ·exact u3 h9 H fun h10 H=>zf Z Z h9 (zd (.dat _) Z) (zf Z Z h9 (zd (.dat _) Z) (zf Z Z h9 (qy tyU9 Z Z h8) (zf Z Z h9 (wg Z Z) (za (ye Z (bFF h10) Z) ⟨decide (126 < (x6.toNat:Int)),H,⟨Z,Z,Z,Z,Z,U⟩,U⟩))))
   ·exact u4 h9 H fun h11 H=>zc Z Z h9 (zc Z Z h9 (zc Z Z h9 (zc Z Z h9 (za (yf Z (bTT h11) Z) ⟨true,H,⟨Z,Z,Z,Z,Z,U⟩,U⟩))))
  ·rintro v12 H
   replace H:z5t v12=some q4:=H
   unfold z5t at H
   refine zg _ Z (fun h13 => ?_) (fun h13 => ?_)
   ·refine tE h13 H fun H=>zb hN Z (qe Z (zi ?_))
    replace H:=retl H hq4
    cases H
    exact ⟨U,.inl Z,U⟩
   ·exact fE h13 H fun H=>zl (zp hN Z (za (qs Z Z (by omega)) (qd Z ⟨_,yx H,⟨Z,Z,Z,Z,U⟩,U⟩)))
theorem x2q (s1:Bs) (r:(Bool)) (H:z4n s1=some r):Fn Tryz.prog 41 [vstr s1] (zu [ze r]):=by
 refine ⟨by kernel_rfl,yh (us:=[ze r]) Tryz.func41 Z Z Z Z fun X hN => ?_⟩
 unfold z4n at H
 refine zb hN Z (qe Z (yd (ι:=Bool) (fun i=>[(2,.dat (ze i))]) (fun i=>[]) (fun i=>z0d i=some r) (fun i=>Z) ?_ ?_))
 ·skip
  refine zp hN Z (qd Z (za (qj tyU9 Z) (bE H fun r2 h3 H=>za (zk (Qc (s1.length:Int) 1 1000 r2 h3) ⟨.inl Z,.inl Z,.inl Z,U⟩) (qd Z (yi (j:=3) Z Z (fun h4 => ?_) (fun h4 => ?_) Z)))))
  ·refine u1 h4 H fun h5 H=>zf Z Z h4 (zd (.dat _) Z) (bE H fun x6 h7 H=>zf Z Z h4 (qy tyU9 Z Z h7) (zf Z Z h4 (qf Z Z) (za (yf Z (bTT h5) Z) (qd Z (yi (j:=8) Z Z (fun h8 => ?_) (fun h8 => ?_) Z)))))
   ·refine u1 h8 H fun h9 H=>zf Z Z h8 (zd (.dat _) Z) (bE H fun r10 h11 H=>zf Z Z h8 (zk (y6l s1 33 r10 h11) ⟨.inl Z,.inl Z,U⟩) (za (yf Z (bTT h9) Z) (qd Z (yi (j:=12) Z Z (fun h12 => ?_) (fun h12 => ?_) Z))))
    ·exact u1 h12 H fun h13 H=>zf Z Z h12 (zd (.dat _) Z) (bE H fun r14 h15 H=>zf Z Z h12 (zk (x1q s1 [63,35] r14 h15) ⟨.inl Z,.inl Z,U⟩) (zf Z Z h12 (yq Z) (za (yf Z (bTT h13) Z) (qe Z ⟨!r14,H,⟨Z,U⟩,U⟩))))
    ·exact u2 h12 H fun h16 H=>zc Z Z h12 (zc Z Z h12 (zc Z Z h12 (za (ye Z (bFF h16) Z) (qe Z ⟨false,H,⟨Z,U⟩,U⟩))))
   ·exact u2 h8 H fun h17 H=>zc Z Z h8 (zc Z Z h8 (za (ye Z (bFF h17) Z) (qd Z (zc Z Z Z (zc Z Z Z (zc Z Z Z (za (ye Z Z Z) (qe Z ⟨false,H,⟨Z,U⟩,U⟩))))))))
  ·exact u2 h4 H fun h18 H=>zc Z Z h4 (zc Z Z h4 (zc Z Z h4 (za (ye Z (bFF h18) Z) (qd Z (zc Z Z Z (zc Z Z Z (za (ye Z Z Z) (qd Z (zc Z Z Z (zc Z Z Z (zc Z Z Z (za (ye Z Z Z) (qe Z ⟨false,H,⟨Z,U⟩,U⟩)))))))))))))
 ·rintro v19 H
  replace H:z0d v19=some r:=H
  unfold z0d at H
  refine zi ?_
  cases H
  exact ⟨U,.inl Z,U⟩
theorem x2p (s1:Bs) (r:(Bool)) (H:xl s1=some r):Fn Tryz.prog 42 [vstr s1] (zu [ze r]):=by
 refine ⟨by kernel_rfl,yh (us:=[ze r]) Tryz.func42 Z Z Z Z fun X hN => ?_⟩
 unfold xl at H
 refine zb hN Z (qe Z (yd (ι:=Bool) (fun i=>[(2,.dat (ze i))]) (fun i=>[]) (fun i=>Zf i=some r) (fun i=>Z) ?_ ?_))
 ·skip
  refine zp hN Z (qd Z (za (qj tyU9 Z) (za (wi Z Z) (qd Z (yi (j:=3) Z Z (fun h2 => ?_) (fun h2 => ?_) Z)))))
  ·refine u1 h2 H fun h3 H=>zf Z Z h2 (zd (.dat _) Z) (bE H fun r4 h5 H=>zf Z Z h2 (zk (y6l s1 33 r4 h5) ⟨.inl Z,.inl Z,U⟩) (za (yf Z (bTT h3) Z) (qd Z (yi (j:=7) Z Z (fun h6 => ?_) (fun h6 => ?_) Z))))
   ·exact u1 h6 H fun h7 H=>zf Z Z h6 (zd (.dat _) Z) (bE H fun r8 h9 H=>zf Z Z h6 (zk (x1r s1 [35] r8 h9) ⟨.inl Z,.inl Z,U⟩) (zf Z Z h6 (yq Z) (za (yf Z (bTT h7) Z) (qe Z ⟨!r8,H,⟨Z,U⟩,U⟩))))
   ·exact u2 h6 H fun h10 H=>zc Z Z h6 (zc Z Z h6 (zc Z Z h6 (za (ye Z (bFF h10) Z) (qe Z ⟨false,H,⟨Z,U⟩,U⟩))))
  ·exact u2 h2 H fun h11 H=>zc Z Z h2 (zc Z Z h2 (za (ye Z (bFF h11) Z) (qd Z (zc Z Z Z (zc Z Z Z (zc Z Z Z (za (ye Z Z Z) (qe Z ⟨false,H,⟨Z,U⟩,U⟩))))))))
 ·rintro v12 H
  replace H:Zf v12=some r:=H
  unfold Zf at H
  refine zi ?_
  cases H
  exact ⟨U,.inl Z,U⟩
theorem x20 (s1:Bs) (r:(Bool)) (H:z8o s1=some r):Fn Tryz.prog 43 [vstr s1] (zu [ze r]):=by
 refine ⟨by kernel_rfl,yh (us:=[ze r]) Tryz.func43 Z Z Z Z fun X hN => ?_⟩
 unfold z8o at H
 refine zb hN Z (qe Z (yd (ι:=Bool) (fun i=>[(2,.dat (ze i))]) (fun i=>[]) (fun i=>z58 i=some r) (fun i=>Z) ?_ ?_))
 ·skip
  refine zp hN Z (qd Z (za (qj tyU9 Z) (za (wi Z Z) (qd Z (yi (j:=3) Z Z (fun h2 => ?_) (fun h2 => ?_) Z)))))
  ·refine u1 h2 H fun h3 H=>zf Z Z h2 (zd (.dat _) Z) (bE H fun r4 h5 H=>zf Z Z h2 (zk (y6l s1 32 r4 h5) ⟨.inl Z,.inl Z,U⟩) (za (yf Z (bTT h3) Z) (qd Z (yi (j:=7) Z Z (fun h6 => ?_) (fun h6 => ?_) Z))))
   ·exact u1 h6 H fun h7 H=>zf Z Z h6 (zd (.dat _) Z) (bE H fun r8 h9 H=>zf Z Z h6 (zk (z5d s1 [32] r8 h9) ⟨.inl Z,.inl Z,U⟩) (zf Z Z h6 (zd (.dat _) Z) (zf Z Z h6 (va Z Z) (za (yf Z (bTT h7) Z) (qe Z ⟨decide (r8=s1),H,⟨Z,U⟩,U⟩)))))
   ·exact u2 h6 H fun h10 H=>zc Z Z h6 (zc Z Z h6 (zc Z Z h6 (zc Z Z h6 (za (ye Z (bFF h10) Z) (qe Z ⟨false,H,⟨Z,U⟩,U⟩)))))
  ·exact u2 h2 H fun h11 H=>zc Z Z h2 (zc Z Z h2 (za (ye Z (bFF h11) Z) (qd Z (zc Z Z Z (zc Z Z Z (zc Z Z Z (zc Z Z Z (za (ye Z Z Z) (qe Z ⟨false,H,⟨Z,U⟩,U⟩)))))))))
 ·rintro v12 H
  replace H:z58 v12=some r:=H
  unfold z58 at H
  refine zi ?_
  cases H
  exact ⟨U,.inl Z,U⟩
theorem x2z (l1:(List zn)) (r:(Int)) (H:z4v l1=some r):Fn Tryz.prog 44 [vlst (List.map yb l1)] (zu [vint r]):=by
 refine ⟨by kernel_rfl,yh (us:=[vint r]) Tryz.func44 Z Z Z Z fun X hN => ?_⟩
 unfold z4v at H
 refine zb hN Z (qe Z (zh (zb hN Z (qd Z (za (qi uo Z) (za (wg Z Z) (zg _ Z (fun h2 => ?_) (fun h2 => ?_))))))))
 ·refine tE h2 H fun H=>zb hN Z (qe Z (zi ?_))
  cases H
  exact ⟨U,.inl Z,U⟩
 ·refine fE h2 H fun H=>zl (zh (zb hN Z (qd Z (za (qi uo Z) (qd Z (zw (gE H fun h5 H=>qw (fun (k3:Nat) (s:Unit)=>[(8,.dat (vlst (List.map yb l1))),(9,.dat (vint (l1.length:Int))),(10,.dat (vint (k3:Int)))]) (fun (k3:Nat) (s:Unit)=>[]) () H ⟨Z,Z,Z,U⟩ U (fun _ _=>Z) ?_ ?_)))))))
  ·rintro ⟨⟩ H
   replace H:y3n=some r:=H
   unfold y3n at H
   refine zb hN Z (za (zx Z Z) (zh (zg _ Z (fun h=>(lt_t h).elim) (fun h => ?_))))
   refine yt (zb hN Z (qe Z (zi ?_)))
   cases H
   exact ⟨U,.inl Z,U⟩
  ·rintro k3 x6 ⟨⟩ q4 h7 h8 H hq4
   replace H:y3m k3 x6=some q4:=H
   unfold y3m at H
   refine zb hN Z (za (zx Z Z) (zh (zg _ Z (fun h => ?_) (fun h=>(lt_f h7 h).elim))))
   refine zl (zh (zw (zb hN Z (za (we xg (fun _=>Z) Z Z h8) (za (xy jv Z (qh h8) Z) (zj (qv 1 kl Z) Z (zj (qk jv Z Z Z Z) Z (zh (zb hN Z (za (zq Qv Z) (zm (zv tyS9 Z Z) Z (bE H fun r9 h10 H=>za (zk (y20 x6.Name r9 h10) ⟨.inl Z,U⟩) (za (yq Z) (zg _ Z (fun h11 => ?_) (fun h11 => ?_)))))))))))))))
   ·refine tE h11 H fun H=>zb hN Z (qe Z (zi ?_))
    replace H:=retl H hq4
    cases H
    exact ⟨U,.inl Z,U⟩
   ·refine fE h11 H fun H=>zl (zb hN Z (za (zq z67 Z) (zm (zv tyS9 Z Z) Z (bE H fun r12 h13 H=>za (zk (x20 x6.Value r12 h13) ⟨.inl Z,U⟩) (za (yq Z) (zg _ Z (fun h14 => ?_) (fun h14 => ?_)))))))
    ·refine tE h14 H fun H=>zb hN Z (qe Z (zi ?_))
     replace H:=retl H hq4
     cases H
     exact ⟨U,.inl Z,U⟩
    ·exact fE h14 H fun H=>zl (zp hN Z (za (qs Z Z (by omega)) (qd Z ⟨_,yx H,⟨Z,Z,Z,U⟩,U⟩)))
theorem y6n (r1:zz) (r:(Int)) (H:Zw r1=some r):Fn Tryz.prog 16 [vagg (qx r1)] (zu [vint r]):=by
 refine ⟨by kernel_rfl,yh (us:=[vint r]) Tryz.func16 Z Z Z Z fun X hN => ?_⟩
 unfold Zw at H
 refine zb hN Z (zj (wd 1 Z) Z (qe Z (zh (zw (zb hN Z (za (zq Ym Z) (zm (zv tyS3 Z Z) Z (bE H fun r2 h3 H=>za (zk (y6p r1.At r2 h3) ⟨.inl Z,U⟩) (za (yq Z) (qe Z (zg _ Z (fun h4 => ?_) (fun h4 => ?_))))))))))))
 ·refine tE h4 H fun H=>zb hN Z (qe Z (zi ?_))
  cases H
  exact ⟨U,.inl Z,U⟩
 ·refine fE h4 H fun H=>zb hN Z (za (zq uf Z) (zm (zv tyS9 Z Z) Z (bE H fun r5 h6 H=>za (zk (y20 r1.Method r5 h6) ⟨.inl Z,U⟩) (za (yq Z) (qe Z (zg _ Z (fun h7 => ?_) (fun h7 => ?_)))))))
  ·refine tE h7 H fun H=>zb hN Z (qe Z (zi ?_))
   cases H
   exact ⟨U,.inl Z,U⟩
  ·refine fE h7 H fun H=>zl (zh (zb hN Z (za (zq xx Z) (zm (zv tyS9 Z Z) Z (bE H fun r8 h9 H=>za (zk (x2y r1.Host r8 h9) ⟨.inl Z,U⟩) (qd Z (za (yc Z Z) (za (yc Z Z) (qe Z (qe Z (zb hN Z (qd Z (za (qp Z Z) (zg _ Z (fun h10 => ?_) (fun h10 => ?_)))))))))))))))
   ·refine tE h10 H fun H=>zb hN Z (qd Z (qe Z (zi ?_)))
    cases H
    exact ⟨U,.inl Z,U⟩
   ·refine fE h10 H fun H=>zl (zh (yd (ι:=Bool) (fun i=>[(1,.ptr 1 0),(40,.dat (ze i))]) (fun i=>[(1,.box none 28 [.dat (vint r1.At),.dat (vstr r1.Method),.dat (vstr r1.Host),.dat (vstr r1.Path),.dat (vstr r1.Query),.dat (vstr r1.From),.dat (vlst (List.map yb r1.Headers)),.dat (vstr r1.Body)])]) (fun i=>z12 r1 i=some r) (fun i=>Z) ?_ ?_))
    ·skip
     refine zp hN Z (za (zq xw Z) (zm (zv tyS9 Z Z) Z (bE H fun r11 h12 H=>za (zk (x2q r1.Path r11 h12) ⟨.inl Z,U⟩) (za (yq Z) (qd Z (yi (j:=4) Z Z (fun h13 => ?_) (fun h13 => ?_) Z))))))
     ·refine u3 h13 H fun h14 H=>zf Z Z h13 (zq xv Z) (vt Z Z h13 (zv tyS9 Z Z) Z (bE H fun r15 h16 H=>zf Z Z h13 (zk (x2p r1.Query r15 h16) ⟨.inl Z,U⟩) (zf Z Z h13 (yq Z) (za (ye Z (bFF h14) Z) (qd Z (yi (j:=10) Z Z (fun h17 => ?_) (fun h17 => ?_) Z))))))
      ·exact u3 h17 H fun h18 H=>zf Z Z h17 (zq y8x Z) (vt Z Z h17 (zv tyS9 Z Z) Z (bE H fun r19 h20 H=>zf Z Z h17 (zk (x20 r1.From r19 h20) ⟨.inl Z,U⟩) (zf Z Z h17 (yq Z) (za (ye Z (bFF h18) Z) ⟨!r19,H,⟨Z,Z,U⟩,⟨Z,U⟩⟩))))
      ·exact u4 h17 H fun h21 H=>zc Z Z h17 (zc Z Z h17 (zc Z Z h17 (zc Z Z h17 (za (yf Z (bTT h21) Z) ⟨true,H,⟨Z,Z,U⟩,⟨Z,U⟩⟩))))
     ·exact u4 h13 H fun h22 H=>zc Z Z h13 (zc Z Z h13 (zc Z Z h13 (zc Z Z h13 (za (yf Z (bTT h22) Z) (qd Z (zc Z Z Z (zc Z Z Z (zc Z Z Z (zc Z Z Z (za (yf Z Z Z) ⟨true,H,⟨Z,Z,U⟩,⟨Z,U⟩⟩))))))))))
    ·rintro v23 H
     replace H:z12 r1 v23=some r:=H
     unfold z12 at H
     refine zg _ Z (fun h24 => ?_) (fun h24 => ?_)
     ·refine tE h24 H fun H=>zb hN Z (qe Z (zi ?_))
      cases H
      exact ⟨U,.inl Z,U⟩
     ·refine fE h24 H fun H=>zl (zh (zb hN Z (za (zq vi Z) (zm (zv wb Z Z) Z (bE H fun r25 h26 H=>za (zk (x2z r1.Headers r25 h26) ⟨.inl Z,U⟩) (qe Z (zb hN Z (qd Z (za (qp Z Z) (zg _ Z (fun h27 => ?_) (fun h27 => ?_)))))))))))
      ·refine tE h27 H fun H=>zb hN Z (qd Z (qe Z (zi ?_)))
       cases H
       exact ⟨U,.inl Z,U⟩
      ·refine fE h27 H fun H=>zl (zh (zb hN Z (za (zq y8w Z) (zm (zv tyS9 Z Z) Z (za (qj tyU9 Z) (za (wg Z Z) (zg _ Z (fun h28 => ?_) (fun h28 => ?_))))))))
       ·refine tE h28 H fun H=>zb hN Z (qe Z (zi ?_))
        cases H
        exact ⟨U,.inl Z,U⟩
       ·refine fE h28 H fun H=>zl (zb hN Z (qe Z (zi ?_)))
        cases H
        exact ⟨U,.inl Z,U⟩
theorem w1n (a1:qc) (r:(Int)) (H:z4r a1=some r):Fn Tryz.prog 35 [vagg (Zj a1)] (zu [vint r]):=by
 refine ⟨by kernel_rfl,yh (us:=[vint r]) Tryz.func35 Z Z Z Z fun X hN => ?_⟩
 unfold z4r at H
 refine zb hN Z (zj (wd 1 Z) Z (qe Z (zh (zb hN Z (za (zq y4c Z) (zm (zv tyS3 Z Z) Z (bE H fun r2 h3 H=>za (zk (Qc a1.Status 100 599 r2 h3) ⟨.inl Z,.inl Z,.inl Z,U⟩) (za (yq Z) (zg _ Z (fun h4 => ?_) (fun h4 => ?_))))))))))
 ·refine tE h4 H fun H=>zb hN Z (qe Z (zi ?_))
  cases H
  exact ⟨U,.inl Z,U⟩
 ·refine fE h4 H fun H=>zl (zh (zb hN Z (za (zq xu Z) (zm (zv wb Z Z) Z (bE H fun r5 h6 H=>za (zk (x2z a1.Headers r5 h6) ⟨.inl Z,U⟩) (qe Z (zb hN Z (qd Z (za (qp Z Z) (zg _ Z (fun h7 => ?_) (fun h7 => ?_)))))))))))
  ·refine tE h7 H fun H=>zb hN Z (qd Z (qe Z (zi ?_)))
   cases H
   exact ⟨U,.inl Z,U⟩
  ·refine fE h7 H fun H=>zl (zh (zb hN Z (za (zq y8v Z) (zm (zv tyS9 Z Z) Z (za (qj tyU9 Z) (za (wg Z Z) (zg _ Z (fun h8 => ?_) (fun h8 => ?_))))))))
   ·refine tE h8 H fun H=>zb hN Z (qe Z (zi ?_))
    cases H
    exact ⟨U,.inl Z,U⟩
   ·refine fE h8 H fun H=>zl (zb hN Z (qe Z (zi ?_)))
    cases H
    exact ⟨U,.inl Z,U⟩
theorem w1k (a1:Bs) (b2:Bs) (r:(Bool)) (H:z8k a1 b2=some r):Fn Tryz.prog 124 [vstr a1,vstr b2] (zu [ze r]):=by
 refine ⟨by kernel_rfl,yh (us:=[ze r]) Tryz.func124 Z Z Z Z fun X hN => ?_⟩
 unfold z8k at H
 refine zb hN Z (qe Z (zb hN Z (qd Z (bE H fun r3 h4 H=>za (zk (Ya a1 r3 h4) ⟨.inl Z,U⟩) (qd Z (bE H fun r5 h6 H=>za (zk (Ya b2 r5 h6) ⟨.inl Z,U⟩) (za (va Z Z) (qe Z (zi ?_)))))))))
 cases H
 exact ⟨U,.inl Z,U⟩
theorem z87 (l1:(List zn)) (name2:Bs) (r:((List Bs))) (H:xm l1 name2=some r):Fn Tryz.prog 74 [vlst (List.map yb l1),vstr name2] (zu [vlst (List.map zr r)]):=by
 refine ⟨by kernel_rfl,yh (us:=[vlst (List.map zr r)]) Tryz.func74 Z Z Z Z fun X hN => ?_⟩
 unfold xm at H
 refine zb hN Z (qe Z (zb hN Z (qe Z (zh (zb hN Z (qd Z (za (qi uo Z) (qd Z (zw (jg 5 1 9 1 Z Z Z (gE H fun h6 H=>qw (fun (k4:Nat) (s:(List Bs))=>[(1,.dat (vstr name2)),(5,.row 1 s.length),(8,.dat (vlst (List.map yb l1))),(9,.dat (vint (l1.length:Int))),(10,.dat (vint (k4:Int)))]) (fun (k4:Nat) (s:(List Bs))=>[(1,.row 9 1 (List.map zr s))]) [] H ⟨Z,Z,Z,Z,Z,U⟩ ⟨Z,U⟩ (fun _ _=>Z) ?_ ?_)))))))))))
 ·rintro l3 H
  replace H:y3j l3=some r:=H
  unfold y3j at H
  refine zb hN Z (za (zx Z Z) (zh (zg _ Z (fun h=>(lt_t h).elim) (fun h => ?_))))
  refine yt (zb hN Z (za (zd (.row _ _) Z) (za (qm (.row _ _) Z) (zi ?_))))
  cases H
  exact ⟨U,z0p Z Z,U⟩
 ·rintro k4 x7 l3 q5 h8 h9 H hq5
  replace H:z11 name2 k4 x7 l3=some q5:=H
  unfold z11 at H
  refine zb hN Z (za (zx Z Z) (zh (zg _ Z (fun h => ?_) (fun h=>(lt_f h8 h).elim))))
  refine zl (yd (ι:=(List Bs)) (fun i=>[(1,.dat (vstr name2)),(5,.row 1 i.length),(8,.dat (vlst (List.map yb l1))),(9,.dat (vint (l1.length:Int))),(10,.dat (vint (k4:Int)))]) (fun i=>[(1,.row 9 1 (List.map zr i))]) (fun i=>z5y i=some q5) (fun i=>Z) ?_ ?_)
  ·skip
   refine zw (zb hN Z (za (we xg (fun _=>Z) Z Z h9) (za (xy jv Z (qh h9) Z) (zj (qv 2 kl Z) Z (zj (qk jv Z Z Z Z) Z (zb hN Z (za (zq Qv Z) (zm (zv tyS9 Z Z) Z (qd Z (bE H fun r10 h11 H=>za (zk (w1k x7.Name name2 r10 h11) ⟨.inl Z,.inl Z,U⟩) (zg _ Z (fun h12 => ?_) (fun h12 => ?_))))))))))))
   ·refine tE h12 H fun H=>zp hN Z (za (zd (.row _ _) Z) (za (zq z67 Z) (zm (zv tyS9 Z Z) Z (za (ya (u':=vlst (List.map zr [x7.Value])) (yo [[_]] yu ⟨Z,.inl ⟨_,Z,Z,Z⟩,Z,U⟩ Z Z) Z) (gE H fun h13 H=>zj (vk yu (fun _=>Z) Z Z Z ⟨by simp,by first | (simp; done) | simpa using h13⟩ Z) Z ?_)))))
    exact za (qm (.row _ _) Z) ⟨(l3++[x7.Value]),H,⟨Z,Z,Z,Z,Z,U⟩,⟨Z,U⟩⟩
   ·exact fE h12 H fun H=>zl ⟨l3,H,⟨Z,Z,Z,Z,Z,U⟩,⟨Z,U⟩⟩
  ·rintro out14 H
   replace H:z5y out14=some q5:=H
   unfold z5y at H
   exact zp hN Z (za (qs Z Z (by omega)) (qd Z ⟨_,yx H,⟨Z,Z,Z,Z,Z,U⟩,⟨Z,U⟩⟩))
theorem x2r (values1:(List Bs)) (r:((List Bs))) (H:z4o values1=some r):Fn Tryz.prog 73 [vlst (List.map zr values1)] (zu [vlst (List.map zr r)]):=by
 refine ⟨by kernel_rfl,yh (us:=[vlst (List.map zr r)]) Tryz.func73 Z Z Z Z fun X hN => ?_⟩
 unfold z4o at H
 refine zb hN Z (qe Z (zb hN Z (qe Z (zh (zb hN Z (qd Z (bE H fun r2 h3 H=>za (zk (z5e values1 [44] r2 h3) ⟨.inl Z,.inl Z,U⟩) (bE H fun r4 h5 H=>za (zk (Qb r2 [44] r4 h5) ⟨.inl Z,.inl Z,U⟩) (za (qi wq Z) (qd Z (zw (jg 3 1 9 1 Z Z Z (gE H fun h9 H=>qw (fun (k7:Nat) (s:(List Bs))=>[(3,.row 1 s.length),(8,.dat (vlst (List.map zr r4))),(9,.dat (vint (r4.length:Int))),(10,.dat (vint (k7:Int)))]) (fun (k7:Nat) (s:(List Bs))=>[(1,.row 9 1 (List.map zr s))]) [] H ⟨Z,Z,Z,Z,U⟩ ⟨Z,U⟩ (fun _ _=>Z) ?_ ?_)))))))))))))
 ·rintro l6 H
  replace H:y3h l6=some r:=H
  unfold y3h at H
  refine zb hN Z (za (zx Z Z) (zh (zg _ Z (fun h=>(lt_t h).elim) (fun h => ?_))))
  refine yt (zb hN Z (za (zd (.row _ _) Z) (za (qm (.row _ _) Z) (zi ?_))))
  cases H
  exact ⟨U,z0p Z Z,U⟩
 ·rintro k7 x10 l6 q8 h11 h12 H hq8
  replace H:z1y k7 x10 l6=some q8:=H
  unfold z1y at H
  refine zb hN Z (za (zx Z Z) (zh (zg _ Z (fun h => ?_) (fun h=>(lt_f h11 h).elim))))
  refine zl (yd (ι:=(List Bs)) (fun i=>[(3,.row 1 i.length),(8,.dat (vlst (List.map zr r4))),(9,.dat (vint (r4.length:Int))),(10,.dat (vint (k7:Int)))]) (fun i=>[(1,.row 9 1 (List.map zr i))]) (fun i=>z5v i=some q8) (fun i=>Z) ?_ ?_)
  ·skip
   refine zw (zb hN Z (za (we vj (fun _=>Z) Z Z h12) (za (qu tyS9 Z (qh h12) Z) (qe Z (zb hN Z (qd Z (bE H fun r13 h14 H=>za (zk (z5d x10 [32] r13 h14) ⟨.inl Z,.inl Z,U⟩) (qe Z (zb hN Z (qd Z (za (ji Z Z) (zg _ Z (fun h15 => ?_) (fun h15 => ?_)))))))))))))
   ·refine tE h15 H fun H=>zp hN Z (za (zd (.row _ _) Z) (qd Z (za (ya (u':=vlst (List.map zr [r13])) (yo [[_]] yu ⟨Z,.inl ⟨_,Z,Z,Z⟩,Z,U⟩ Z Z) Z) (gE H fun h16 H=>zj (vk yu (fun _=>Z) Z Z Z ⟨by simp,by first | (simp; done) | simpa using h16⟩ Z) Z ?_))))
    exact za (qm (.row _ _) Z) ⟨(l6++[r13]),H,⟨Z,Z,Z,Z,U⟩,⟨Z,U⟩⟩
   ·exact fE h15 H fun H=>zl ⟨l6,H,⟨Z,Z,Z,Z,U⟩,⟨Z,U⟩⟩
  ·rintro out17 H
   replace H:z5v out17=some q8:=H
   unfold z5v at H
   exact zp hN Z (za (qs Z Z (by omega)) (qd Z ⟨_,yx H,⟨Z,Z,Z,Z,U⟩,⟨Z,U⟩⟩))
theorem x2w (a1:qc) (r:((List Bs)×Bool×Int)) (H:z4q a1=some r):Fn Tryz.prog 38 [vagg (Zj a1)] (zu [vlst (List.map zr r.1),ze r.2.1,vint r.2.2]):=by
 refine ⟨by kernel_rfl,yh (us:=[vlst (List.map zr r.1),ze r.2.1,vint r.2.2]) Tryz.func38 Z Z Z Z fun X hN => ?_⟩
 unfold z4q at H
 refine zb hN Z (zj (wd 1 Z) Z (qe Z (qe Z (qe Z (zb hN Z (qe Z (zb hN Z (qe Z (zh (zb hN Z (za (zq xu Z) (zm (zv wb Z Z) Z (bE H fun r2 h3 H=>za (zk (z87 a1.Headers [118,97,114,121] r2 h3) ⟨.inl Z,.inl Z,U⟩) (bE H fun r4 h5 H=>za (zk (x2r r2 r4 h5) ⟨.inl Z,U⟩) (za (qi wq Z) (qd Z (zw (jg 5 2 9 1 Z Z Z (gE H fun h10 H=>qw (fun (k8:Nat) (s:Bool×(List Bs))=>[(5,.row 2 s.2.length),(6,.dat (ze s.1)),(12,.dat (vlst (List.map zr r4))),(13,.dat (vint (r4.length:Int))),(14,.dat (vint (k8:Int)))]) (fun (k8:Nat) (s:Bool×(List Bs))=>[(2,.row 9 1 (List.map zr s.2))]) (false,[]) H ⟨Z,Z,Z,Z,Z,U⟩ ⟨Z,U⟩ (fun _ _=>Z) ?_ ?_)))))))))))))))))))
 ·rintro ⟨all6,l7⟩ H
  replace H:z5x all6 l7=some r:=H
  unfold z5x at H
  refine zb hN Z (za (zx Z Z) (zh (zg _ Z (fun h=>(lt_t h).elim) (fun h => ?_))))
  refine yt (zh (zb hN Z (qd Z (zg _ Z (fun h12 => ?_) (fun h12 => ?_)))))
  ·refine tE h12 H fun H=>zb hN Z (qe Z (qe Z (qe Z (zi ?_))))
   cases H
   exact ⟨U,.inr ⟨Z,Z⟩,.inl Z,.inl Z,U⟩
  ·refine fE h12 H fun H=>zl (zb hN Z (za (zd (.row _ _) Z) (bE H fun r13 h14 H=>ww (rn [(0,2)]) [(0,_,_,some _)] [] (x1j l7 r13 h14) ⟨Z,U⟩ ⟨.inl (.inl Z),U⟩ ⟨⟨⟨Z,Z,Z⟩,by simp [uh,z7g h14]⟩,U⟩ Z ?_)))
   refine zb hN Z (za (zd (.row _ _) Z) (bE H fun r15 h16 H=>ww (rn [(0,2),(900,3)]) [(0,_,_,none)] [(900,_)] (x1l r13 r15 h16) ⟨Z,Z,U⟩ ⟨.inl (.inl (congrArg (Slot.row 2) (z7g h14).symm)),U⟩ ⟨⟨⟨Z,Z,Z⟩,U⟩,U⟩ Z (za (qm (.row _ _) Z) (zh (zb hN Z (za (zd (.row _ _) Z) (zm (Qx wq Z Z) Z (za (wg Z Z) (zg _ Z (fun h17 => ?_) (fun h17 => ?_))))))))))
   ·refine tE h17 H fun H=>zb hN Z (qe Z (qe Z (qe Z (zi ?_))))
    cases H
    exact ⟨U,.inr ⟨Z,Z⟩,.inl Z,.inl Z,U⟩
   ·refine fE h17 H fun H=>zl (zb hN Z (za (zd (.row _ _) Z) (za (qm (.row _ _) Z) (qe Z (qe Z (zi ?_))))))
    cases H
    exact ⟨U,z0p Z Z,.inl Z,.inl Z,U⟩
 ·rintro k8 x11 ⟨all6,l7⟩ q9 h18 h19 H hq9
  replace H:z10 k8 x11 all6 l7=some q9:=H
  unfold z10 at H
  refine zb hN Z (za (zx Z Z) (zh (zg _ Z (fun h => ?_) (fun h=>(lt_f h18 h).elim))))
  refine zl (zh (zw (zb hN Z (za (we vj (fun _=>Z) Z Z h19) (za (qu tyS9 Z (qh h19) Z) (qe Z (zh (zb hN Z (qd Z (bE H fun r20 h21 H=>za (zk (y20 x11 r20 h21) ⟨.inl Z,U⟩) (za (yq Z) (zg _ Z (fun h22 => ?_) (fun h22 => ?_)))))))))))))
  ·refine tE h22 H fun H=>zb hN Z (qe Z (qe Z (qe Z (zi ?_))))
   replace H:=retl H hq9
   cases H
   exact ⟨U,.inr ⟨Z,Z⟩,.inl Z,.inl Z,U⟩
  ·refine fE h22 H fun H=>zl (zb hN Z (qd Z (qd Z (yn Z Z (fun hc=>zd (.dat _) Z) (yn Z Z (fun hc=>va (cnd (c:=(!all6)) hc) Z) (za (wv Z Z (fun hb=>(cnd (c:=(!all6)) (notI hb)))) (qe Z (zp hN Z (za (zd (.row _ _) Z) (qd Z (bE H fun r23 h24 H=>za (zk (Ya x11 r23 h24) ⟨.inl Z,U⟩) (za (ya (u':=vlst (List.map zr [r23])) (yo [[_]] yu ⟨Z,.inl ⟨_,Z,Z,Z⟩,Z,U⟩ Z Z) Z) (gE H fun h25 H=>zj (vk yu (fun _=>Z) Z Z Z ⟨by simp,by first | (simp; done) | simpa using h25⟩ Z) Z ?_)))))))))))))
   exact za (qm (.row _ _) Z) (zp hN Z (za (qs Z Z (by omega)) (qd Z ⟨_,yx H,⟨Z,Z,Z,Z,Z,U⟩,⟨Z,U⟩⟩)))
theorem w1s (s1:Bs) (r:(Bool)) (H:z8n s1=some r):Fn Tryz.prog 37 [vstr s1] (zu [ze r]):=by
 refine ⟨by kernel_rfl,yh (us:=[ze r]) Tryz.func37 Z Z Z Z fun X hN => ?_⟩
 unfold z8n at H
 refine zb hN Z (qe Z (yd (ι:=Bool) (fun i=>[(2,.dat (ze i))]) (fun i=>[]) (fun i=>z19 i=some r) (fun i=>Z) ?_ ?_))
 ·skip
  refine zp hN Z (qd Z (za (qj tyU9 Z) (bE H fun r2 h3 H=>za (zk (Qc (s1.length:Int) 1 40 r2 h3) ⟨.inl Z,.inl Z,.inl Z,U⟩) (qd Z (yi (j:=3) Z Z (fun h4 => ?_) (fun h4 => ?_) Z)))))
  ·refine u1 h4 H fun h5 H=>zf Z Z h4 (zd (.dat _) Z) (bE H fun l6 h7 H=>zf Z Z h4 (jc tyU9 Z Z Z h7) (bE H fun r8 h9 H=>zf Z Z h4 (zk (z5f l6 [97,98,99,100,101,102,103,104,105,106,107,108,109,110,111,112,113,114,115,116,117,118,119,120,121,122] r8 h9) ⟨.inl Z,.inl Z,U⟩) (za (yf Z (bTT h5) Z) (qd Z (yi (j:=8) Z Z (fun h10 => ?_) (fun h10 => ?_) Z)))))
   ·exact u1 h10 H fun h11 H=>zf Z Z h10 (zd (.dat _) Z) (bE H fun r12 h13 H=>zf Z Z h10 (zk (z5f s1 [97,98,99,100,101,102,103,104,105,106,107,108,109,110,111,112,113,114,115,116,117,118,119,120,121,122,48,49,50,51,52,53,54,55,56,57,45,95] r12 h13) ⟨.inl Z,.inl Z,U⟩) (za (yf Z (bTT h11) Z) (qe Z ⟨r12,H,⟨Z,U⟩,U⟩)))
   ·exact u2 h10 H fun h14 H=>zc Z Z h10 (zc Z Z h10 (za (ye Z (bFF h14) Z) (qe Z ⟨false,H,⟨Z,U⟩,U⟩)))
  ·exact u2 h4 H fun h15 H=>zc Z Z h4 (zc Z Z h4 (zc Z Z h4 (za (ye Z (bFF h15) Z) (qd Z (zc Z Z Z (zc Z Z Z (za (ye Z Z Z) (qe Z ⟨false,H,⟨Z,U⟩,U⟩))))))))
 ·rintro v16 H
  replace H:z19 v16=some r:=H
  unfold z19 at H
  refine zi ?_
  cases H
  exact ⟨U,.inl Z,U⟩
theorem w1t (v1:qr) (r:(Int)) (H:z4w v1=some r):Fn Tryz.prog 15 [vagg (xr v1)] (zu [vint r]):=by
 refine ⟨by kernel_rfl,yh (us:=[vint r]) Tryz.func15 Z Z Z Z fun X hN => ?_⟩
 unfold z4w at H
 refine zb hN Z (zj (wd 1 Z) Z (qe Z (zh (zh (wz mixed hN Z Z (za (zq z29 Z) (zm (qa yy Z Z Z) Z (bE H fun r2 h3 H=>za (zk (y6n v1.Request r2 h3) ⟨.inl Z,U⟩) (za (zq Zm Z) (zm (qa ur Z Z Z) Z (bE H fun r4 h5 H=>za (zk (w1n v1.Response r4 h5) ⟨.inl Z,U⟩) (za (ya (u':=vlst (List.map z94 [r2,r4])) (yo [[_],[_]] y8n ⟨Z,.inl ⟨_,Z,Z,Z⟩,Z,Z,.inl ⟨_,Z,Z,Z⟩,Z,U⟩ Z Z) Z) (za (qi y8e Z) (qd Z ⟨Z,?_⟩))))))))))))))
 refine zw (gE H fun h8 H=>qw (fun (k6:Nat) (s:Unit)=>[(1,.ptr 1 0),(16,.dat (vlst (List.map z94 [r2,r4]))),(17,.dat (vint ([r2,r4].length:Int))),(18,.dat (vint (k6:Int)))]) (fun (k6:Nat) (s:Unit)=>[(1,.box none 33 [.dat (vint v1.Request.At),.dat (vstr v1.Request.Method),.dat (vstr v1.Request.Host),.dat (vstr v1.Request.Path),.dat (vstr v1.Request.Query),.dat (vstr v1.Request.From),.dat (vlst (List.map yb v1.Request.Headers)),.dat (vstr v1.Request.Body),.dat (vint v1.Response.Status),.dat (vlst (List.map yb v1.Response.Headers)),.dat (vstr v1.Response.Body),.dat (vint v1.At),.dat (vlst (List.map zr v1.Tags)),.dat (vint v1.Used)])]) () H ⟨Z,Z,Z,Z,U⟩ ⟨Z,U⟩ (fun _ _=>Z) ?_ ?_)
 ·rintro ⟨⟩ H
  replace H:z6d v1=some r:=H
  unfold z6d at H
  refine zb hN Z (za (zx Z Z) (zh (zg _ Z (fun h=>(lt_t h).elim) (fun h => ?_))))
  refine yt (zh (zw (yd (ι:=Bool) (fun i=>[(1,.ptr 1 0),(26,.dat (ze i))]) (fun i=>[(1,.box none 33 [.dat (vint v1.Request.At),.dat (vstr v1.Request.Method),.dat (vstr v1.Request.Host),.dat (vstr v1.Request.Path),.dat (vstr v1.Request.Query),.dat (vstr v1.Request.From),.dat (vlst (List.map yb v1.Request.Headers)),.dat (vstr v1.Request.Body),.dat (vint v1.Response.Status),.dat (vlst (List.map yb v1.Response.Headers)),.dat (vstr v1.Response.Body),.dat (vint v1.At),.dat (vlst (List.map zr v1.Tags)),.dat (vint v1.Used)])]) (fun i=>z0f v1 i=some r) (fun i=>Z) ?_ ?_)))
  ·skip
   refine zp hN Z (za (zq Yl Z) (zm (zv tyS3 Z Z) Z (bE H fun r10 h11 H=>za (zk (y6p v1.At r10 h11) ⟨.inl Z,U⟩) (za (yq Z) (qd Z (yi (j:=4) Z Z (fun h12 => ?_) (fun h12 => ?_) Z))))))
   ·exact u3 h12 H fun h13 H=>zf Z Z h12 (zq y0r Z) (vt Z Z h12 (zv tyS3 Z Z) Z (bE H fun r14 h15 H=>zf Z Z h12 (zk (y6p v1.Used r14 h15) ⟨.inl Z,U⟩) (zf Z Z h12 (yq Z) (za (ye Z (bFF h13) Z) (qe Z ⟨!r14,H,⟨Z,Z,U⟩,⟨Z,U⟩⟩)))))
   ·exact u4 h12 H fun h16 H=>zc Z Z h12 (zc Z Z h12 (zc Z Z h12 (zc Z Z h12 (za (yf Z (bTT h16) Z) (qe Z ⟨true,H,⟨Z,Z,U⟩,⟨Z,U⟩⟩)))))
  ·rintro v17 H
   replace H:z0f v1 v17=some r:=H
   unfold z0f at H
   refine zg _ Z (fun h18 => ?_) (fun h18 => ?_)
   ·refine tE h18 H fun H=>zb hN Z (qe Z (zi ?_))
    cases H
    exact ⟨U,.inl Z,U⟩
   ·refine fE h18 H fun H=>zb hN Z (za (zq z0o Z) (zm (zv jp Z Z) Z (za (qi wq Z) (za (wg Z Z) (qe Z (zg _ Z (fun h19 => ?_) (fun h19 => ?_)))))))
    ·refine tE h19 H fun H=>zb hN Z (qe Z (zi ?_))
     cases H
     exact ⟨U,.inl Z,U⟩
    ·refine fE h19 H fun H=>zl (zh (zb hN Z (za (zq z0o Z) (zm (zv jp Z Z) Z (za (qi wq Z) (qd Z (zw (gE H fun h22 H=>qw (fun (k20:Nat) (s:Unit)=>[(1,.ptr 1 0),(43,.dat (vlst (List.map zr v1.Tags))),(44,.dat (vint (v1.Tags.length:Int))),(45,.dat (vint (k20:Int)))]) (fun (k20:Nat) (s:Unit)=>[(1,.box none 33 [.dat (vint v1.Request.At),.dat (vstr v1.Request.Method),.dat (vstr v1.Request.Host),.dat (vstr v1.Request.Path),.dat (vstr v1.Request.Query),.dat (vstr v1.Request.From),.dat (vlst (List.map yb v1.Request.Headers)),.dat (vstr v1.Request.Body),.dat (vint v1.Response.Status),.dat (vlst (List.map yb v1.Response.Headers)),.dat (vstr v1.Response.Body),.dat (vint v1.At),.dat (vlst (List.map zr v1.Tags)),.dat (vint v1.Used)])]) () H ⟨Z,Z,Z,Z,U⟩ ⟨Z,U⟩ (fun _ _=>Z) ?_ ?_))))))))
     ·rintro ⟨⟩ H
      replace H:z6c v1=some r:=H
      unfold z6c at H
      refine zb hN Z (za (zx Z Z) (zh (zg _ Z (fun h=>(lt_t h).elim) (fun h => ?_))))
      refine yt (zb hN Z (za (zq Zm Z) (zm (qa ur Z Z Z) Z (bE H fun r24 h25 H=>za (zk (x2w v1.Response r24 h25) ⟨.inl Z,U⟩) (qd Z (za (yc Z Z) (za (yc Z Z) (za (yc Z Z) (qe Z (qe Z (qe Z (zb hN Z (qd Z (qe Z (zi ?_)))))))))))))))
      cases H
      exact ⟨U,.inl Z,U⟩
     ·rintro k20 x23 ⟨⟩ q21 h26 h27 H hq21
      replace H:z6a v1 k20 x23=some q21:=H
      unfold z6a at H
      refine zb hN Z (za (zx Z Z) (zh (zg _ Z (fun h => ?_) (fun h=>(lt_f h26 h).elim))))
      refine zl (zh (zw (zb hN Z (qd Z (za (we vj (fun _=>Z) Z Z h27) (za (qu tyS9 Z (qh h27) Z) (qe Z (qe Z (zh (zb hN Z (qd Z (bE H fun r28 h29 H=>za (zk (w1s x23 r28 h29) ⟨.inl Z,U⟩) (za (yq Z) (zg _ Z (fun h30 => ?_) (fun h30 => ?_)))))))))))))))
      ·refine tE h30 H fun H=>zb hN Z (qe Z (zi ?_))
       replace H:=retl H hq21
       cases H
       exact ⟨U,.inl Z,U⟩
      ·refine fE h30 H fun H=>zl (yd (ι:=Bool) (fun i=>[(1,.ptr 1 0),(43,.dat (vlst (List.map zr v1.Tags))),(44,.dat (vint (v1.Tags.length:Int))),(45,.dat (vint (k20:Int))),(64,.dat (ze i))]) (fun i=>[(1,.box none 33 [.dat (vint v1.Request.At),.dat (vstr v1.Request.Method),.dat (vstr v1.Request.Host),.dat (vstr v1.Request.Path),.dat (vstr v1.Request.Query),.dat (vstr v1.Request.From),.dat (vlst (List.map yb v1.Request.Headers)),.dat (vstr v1.Request.Body),.dat (vint v1.Response.Status),.dat (vlst (List.map yb v1.Response.Headers)),.dat (vstr v1.Response.Body),.dat (vint v1.At),.dat (vlst (List.map zr v1.Tags)),.dat (vint v1.Used)])]) (fun i=>z6b i=some q21) (fun i=>Z) ?_ ?_)
       ·skip
        refine zp hN Z (qd Z (za (wg Z Z) (qd Z (yi (j:=2) Z Z (fun h31 => ?_) (fun h31 => ?_) Z))))
        ·exact u1 h31 H fun h32 H=>zf Z Z h31 (zd (.dat _) Z) (zf Z Z h31 (zq z0o Z) (vt Z Z h31 (zv jp Z Z) Z (zf Z Z h31 (zd (.dat _) Z) (zf Z Z h31 (y02 Z Z (by omega)) (bE H fun x33 h34 H=>zf Z Z h31 (uu vj (fun _=>Z) Z Z h34) (zf Z Z h31 (qu tyS9 Z (qh (vo h34).2) Z) (zf Z Z h31 (y9h Z Z) (za (yf Z (bTT h32) Z) ⟨(Op.bytesLess x23 x33 || x23 == x33),H,⟨Z,Z,Z,Z,Z,U⟩,⟨Z,U⟩⟩))))))))
        ·exact u2 h31 H fun h35 H=>zc Z Z h31 (zc Z Z h31 (zc Z Z h31 (zc Z Z h31 (zc Z Z h31 (zc Z Z h31 (zc Z Z h31 (zc Z Z h31 (za (ye Z (bFF h35) Z) ⟨false,H,⟨Z,Z,Z,Z,Z,U⟩,⟨Z,U⟩⟩))))))))
       ·rintro v36 H
        replace H:z6b v36=some q21:=H
        unfold z6b at H
        refine zg _ Z (fun h37 => ?_) (fun h37 => ?_)
        ·refine tE h37 H fun H=>zb hN Z (qe Z (zi ?_))
         replace H:=retl H hq21
         cases H
         exact ⟨U,.inl Z,U⟩
        ·exact fE h37 H fun H=>zl (zp hN Z (za (qs Z Z (by omega)) (qd Z ⟨_,yx H,⟨Z,Z,Z,Z,U⟩,⟨Z,U⟩⟩)))
 ·rintro k6 x9 ⟨⟩ q7 h38 h39 H hq7
  replace H:z9t k6 x9=some q7:=H
  unfold z9t at H
  refine zb hN Z (za (zx Z Z) (zh (zg _ Z (fun h => ?_) (fun h=>(lt_f h38 h).elim))))
  refine zl (zh (zw (zb hN Z (za (we y8y (fun _=>Z) Z Z h39) (za (qu y8h Z (qh h39) Z) (qe Z (zb hN Z (qd Z (za (qp Z Z) (zg _ Z (fun h40 => ?_) (fun h40 => ?_)))))))))))
  ·refine tE h40 H fun H=>zb hN Z (qd Z (qe Z (zi ?_)))
   replace H:=retl H hq7
   cases H
   exact ⟨U,.inl Z,U⟩
  ·exact fE h40 H fun H=>zl (zp hN Z (za (qs Z Z (by omega)) (qd Z ⟨_,yx H,⟨Z,Z,Z,Z,U⟩,⟨Z,U⟩⟩)))
end Go.Proofs.YtmdllhcjefcggabGreatDoor
