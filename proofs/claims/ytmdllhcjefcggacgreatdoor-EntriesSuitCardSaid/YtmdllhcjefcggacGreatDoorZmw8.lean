/- Walks along the models. Printed by a program. -/
import Derived.Test.YtmdllhcjefcggacGreatDoorZmw7
namespace Go.Proofs.YtmdllhcjefcggacGreatDoor
open Go.RowKit
set_option linter.unusedVariables false
set_option maxRecDepth 100000
set_option maxHeartbeats 2000000
theorem w2f (s1:qh) (v2:Bs) (r:(Bool×qh)) (H:z4t s1 v2=some r):Imp Tryz.prog 169 121 (kg s1) [vstr v2] (zu [zh r.1]) (kg r.2):=by
 refine jz (us:=[zh r.1]) (cs':=(kg r.2)) (by kernel_rfl) Tryz.func169 Z Z Z Z fun X bl hN => ?_
 unfold z4t at H
 refine zb hN Z (qe Z (zb hN Z (qd Z (bE H fun r3 h4 H=>za (zk (z42 v2 [61] r3 h4) ⟨.inl Z,.inl Z,U⟩) (qd Z (za (zz Z Z) (za (zz Z Z) (za (zz Z Z) (qe Z (qe Z (qe Z (zb hN Z (qd Z (bE H fun r5 h6 H=>za (zk (x2u r3.2.1 r5 h6) ⟨.inl Z,U⟩) (qd Z (za (zz Z Z) (za (zz Z Z) (qe Z (qe Z (ze (zb hN Z ?_)))))))))))))))))))))
 refine qd Z (bE H fun r7 h8 H=>za (zk (y2i r3.1 r7 h8) ⟨.inl Z,U⟩) (za (yy Z) (qd Z (yl Z Z (fun hc=>zd (.dat _) Z) (yl Z Z (fun hc=>zd (.dat _) (cnd (c:=(!(!r7))) hc)) (wl Z Z (fun hc=>zd (.dat _) Z) (wl Z Z (fun hc=>yy (cnd (c:=((!(!r7)) && r3.2.2)) hc)) (yl Z Z (fun hc=>vd (cnd (c:=(!(!r7))) hc) (fun hb=>(cnd (c:=((!(!r7)) && r3.2.2)) (andI hc hb))) Z) (za (ww Z Z (fun hb=>(cnd (c:=(!(!r7))) (notI hb)))) (zf _ Z (fun h9 => ?_) (fun h9 => ?_)))))))))))
 ·refine tE h9 H fun H=>zb hN Z (qe Z (zi ?_))
  cases H
  exact ⟨U,⟨.inl Z,U⟩,Z⟩
 ·refine fE h9 H fun H=>zl (zb hN Z (qd Z (bE H fun r10 h11 H=>za (zk (Yw r3.1 r10 h11) ⟨.inl Z,U⟩) (qe Z (zb hN Z (za (zd (.ptr _ _) Z) (bE H fun r12 h13 H=>zm (jf (s := .dr 0 (fun qb=>vtup [vlst (List.map zp r12.1),vlst (List.map (CP qb) r12.2)])) 0 (fun qb=>zk (w2n qb r12 h13) ⟨.inl Z,U⟩) Z Z) Z (za (zd (.dr _ _) Z) (zm (jf (s := .dat (vlst (List.map zp r12.1))) 0 (fun qb=>zz Z Z) Z Z) Z (zm (jf (s := .dr 0 (fun qb=>vlst (List.map (CP qb) r12.2))) 0 (fun qb=>zz Z Z) Z Z) Z (qe Z (za (qr (.dr _ _) Z) (ze (zb hN Z (qd Z (qd Z (bE H fun r14 h15 H=>za (zk (y6c r12.1 r10 r14 h15) ⟨.inl Z,.inl Z,U⟩) (qe Z (zb hN Z ?_)))))))))))))))))))
  refine qd Z (za (wz Z Z) (zf _ Z (fun h16 => ?_) (fun h16 => ?_)))
  ·refine tE h16 H fun H=>zb hN Z (za (zd (.dr _ _) Z) (qd Z (bE H fun x17 h18 H=>zm (jf (s := .dr 0 (fun qb=>wv (List.map (CP qb) r12.2) r14.toNat 0)) 0 (fun qb=>uu x6c (fun _=>Z) Z Z h18) Z Z) Z (gE H fun h19 H=>zm (jf (s := .ptr 0 x17.toNat) 0 (fun qb=>qz x5u Z (qk (vq h18).2) Z) Z Z) Z (za (ju Z) (bE H fun c20 h21 H=>zj (y4f tyS4 Z Z Z (x7v (c:=s1) h19 h21)) Z (zb hN Z (qd Z (za (yy Z) (qe Z (zi ?_)))))))))))
   cases H
   exact ⟨U,⟨.inl Z,U⟩,Z⟩
  ·refine fE h16 H fun H=>zl (zb hN Z (za (zd (.ptr _ _) Z) (bE H fun r22 h23 H=>zm (jf (s := .dr 0 (fun qb=>vtup [vlst (List.map zp r22.1),vlst (List.map (CP qb) r22.2)])) 0 (fun qb=>zk (x2v qb r22 h23) ⟨.inl Z,U⟩) Z Z) Z (za (zd (.dr _ _) Z) (zm (jf (s := .dat (vlst (List.map zp r22.1))) 0 (fun qb=>zz Z Z) Z Z) Z (zm (jf (s := .dr 0 (fun qb=>vlst (List.map (CP qb) r22.2))) 0 (fun qb=>zz Z Z) Z Z) Z (qe Z (za (qr (.dr _ _) Z) (zb hN Z (qd Z (qd Z (bE H fun r24 h25 H=>za (zk (y6c r22.1 r10 r24 h25) ⟨.inl Z,.inl Z,U⟩) (qe Z (ze (zb hN Z (qd Z (za (zy Z Z) (zf _ Z (fun h26 => ?_) (fun h26 => ?_)))))))))))))))))))
   ·refine tE h26 H fun H=>zb hN Z (qe Z (zi ?_))
    cases H
    exact ⟨U,⟨.inl Z,U⟩,Z⟩
   ·refine fE h26 H fun H=>zl (yb (ι:=Bool×Bool×Bool×Bool×Bool×Bool×Int×Int×Int×Int×Int×Int) (fun i=>[(7,.dat (zh r3.2.2))]) (fun i=>[(0,.box (some bl) 121 [.dat (zh i.1),.dat (zh i.2.1),.dat (zh i.2.2.1),.dat (zh i.2.2.2.1),.dat (zh i.2.2.2.2.1),.dat (zh i.2.2.2.2.2.1),.dat (vint i.2.2.2.2.2.2.1),.dat (vint i.2.2.2.2.2.2.2.1),.dat (vint i.2.2.2.2.2.2.2.2.1),.dat (vint i.2.2.2.2.2.2.2.2.2.1),.dat (vint i.2.2.2.2.2.2.2.2.2.2.1),.dat (vint i.2.2.2.2.2.2.2.2.2.2.2)])]) (fun i=>z6l r3 i.1 i.2.1 i.2.2.1 i.2.2.2.1 i.2.2.2.2.1 i.2.2.2.2.2.1 i.2.2.2.2.2.2.1 i.2.2.2.2.2.2.2.1 i.2.2.2.2.2.2.2.2.1 i.2.2.2.2.2.2.2.2.2.1 i.2.2.2.2.2.2.2.2.2.2.1 i.2.2.2.2.2.2.2.2.2.2.2=some r) (fun i=>Z) ?_ ?_)
    ·skip
     refine yb (ι:=Bool) (fun i=>[(7,.dat (zh r3.2.2)),(8,.dat (vint r5.1)),(13,.dr 0 (fun qb=>vlst (List.map (CP qb) r22.2))),(14,.dat (vint r24)),(81,.dat (zh i))]) (fun i=>[(0,.box (some bl) 121 [.dat (zh s1.NoStore),.dat (zh s1.NoCache),.dat (zh s1.Private),.dat (zh s1.Public),.dat (zh s1.Must),.dat (zh s1.Only),.dat (vint s1.MaxAge),.dat (vint s1.Shared),.dat (vint s1.Stale),.dat (vint s1.OnError),.dat (vint s1.MaxStale),.dat (vint s1.MinFresh)])]) (fun i=>z6k s1 r3 r5 r22 r24 i=some r) (fun i=>Z) ?_ ?_
     ·skip
      refine zn hN Z (za (zd (.dr _ _) Z) (qd Z (bE H fun x27 h28 H=>zm (jf (s := .dr 0 (fun qb=>wv (List.map (CP qb) r22.2) r24.toNat 0)) 0 (fun qb=>uu y0o (fun _=>Z) Z Z h28) Z Z) Z (gE H fun h29 H=>zm (jf (s := .ptr 0 x27.toNat) 0 (fun qb=>qz y0e Z (qk (vq h28).2) Z) Z Z) Z (za (ju Z) (zm (zv tyS3 Z (x3b (c:=s1) h29)) Z (za (ql Z Z) (qd Z (yi (j:=7) Z Z (fun h30 => ?_) (fun h30 => ?_) Z)))))))))
      ·exact u3 h30 H fun h31 H=>zg Z Z h30 (zd (.dat _) Z) (zg Z Z h30 (zd (.dr _ _) Z) (zg Z Z h30 (zd (.dat _) Z) (jr Z Z h30 (jf (s := .dr 0 (fun qb=>wv (List.map (CP qb) r22.2) r24.toNat 0)) 0 (fun qb=>uu y0o (fun _=>Z) Z Z h28) Z Z) Z (gE H fun h32 H=>jr Z Z h30 (jf (s := .ptr 0 x27.toNat) 0 (fun qb=>qz y0e Z (qk (vq h28).2) Z) Z Z) Z (zg Z Z h30 (ju Z) (jr Z Z h30 (zv tyS3 Z (x3b (c:=s1) h32)) Z (zg Z Z h30 (zy Z Z) (za (ye Z (bFF h31) Z) ⟨decide (r5.1 < (Wx s1 x27)),H,⟨Z,Z,Z,Z,Z,U⟩,⟨Z,U⟩⟩))))))))
      ·exact u4 h30 H fun h33 H=>zc Z Z h30 (zc Z Z h30 (zc Z Z h30 (zc Z Z h30 (zc Z Z h30 (zc Z Z h30 (zc Z Z h30 (zc Z Z h30 (za (yh Z (bTT h33) Z) ⟨true,H,⟨Z,Z,Z,Z,Z,U⟩,⟨Z,U⟩⟩))))))))
     ·rintro v34 H
      replace H:z6k s1 r3 r5 r22 r24 v34=some r:=H
      unfold z6k at H
      refine zf _ Z (fun h35 => ?_) (fun h35 => ?_)
      ·exact tE h35 H fun H=>zn hN Z (za (zd (.dr _ _) Z) (qd Z (bE H fun x36 h37 H=>zm (jf (s := .dr 0 (fun qb=>wv (List.map (CP qb) r22.2) r24.toNat 0)) 0 (fun qb=>uu y0o (fun _=>Z) Z Z h37) Z Z) Z (gE H fun h38 H=>zm (jf (s := .ptr 0 x36.toNat) 0 (fun qb=>qz y0e Z (qk (vq h37).2) Z) Z Z) Z (qd Z (za (ju Z) (bE H fun c39 h40 H=>zj (y4f tyS3 Z Z Z (y9t (c:=s1) h38 h40)) Z ⟨(c39.NoStore,c39.NoCache,c39.Private,c39.Public,c39.Must,c39.Only,c39.MaxAge,c39.Shared,c39.Stale,c39.OnError,c39.MaxStale,c39.MinFresh),H,⟨Z,U⟩,⟨Z,U⟩⟩)))))))
      ·exact fE h35 H fun H=>zl ⟨(s1.NoStore,s1.NoCache,s1.Private,s1.Public,s1.Must,s1.Only,s1.MaxAge,s1.Shared,s1.Stale,s1.OnError,s1.MaxStale,s1.MinFresh),H,⟨Z,U⟩,⟨Z,U⟩⟩
    ·rintro ⟨c41,c42,c43,c44,c45,c46,c47,c48,c49,c50,c51,c52⟩ H
     replace H:z6l r3 c41 c42 c43 c44 c45 c46 c47 c48 c49 c50 c51 c52=some r:=H
     unfold z6l at H
     refine zb hN Z (qd Z (qe Z (zi ?_)))
     cases H
     exact ⟨U,⟨.inl Z,U⟩,Z⟩
theorem w2j (l1:(List zt)) (r:(qh×Int)) (H:z4v l1=some r):Fn Tryz.prog 116 [vlst (List.map yd l1)] (zu [vagg (kg r.1),vint r.2]):=by
 refine ⟨by kernel_rfl,yg (us:=[vagg (kg r.1),vint r.2]) Tryz.func116 Z Z Z Z fun X hN => ?_⟩
 unfold z4v at H
 refine zb hN Z (zj (qu 1 z6y Z) Z (qe Z (zb hN Z (za (ya (u':=vagg (kg (qh.mk false false false false false false 0 0 0 0 0 0))) (vh [] z6y y8r Z U) Z) (zj (qu 2 z6y Z) Z (zj (qm Qn Z Z Z Z) Z (zb hN Z (bE H fun r2 h3 H=>zm (jf (s := .dr 2 (fun qb=>vtup [vlst (List.map zp r2.1),vlst (List.map (CP qb) r2.2)])) 2 (fun qb=>zk (x2v qb r2 h3) ⟨.inl Z,U⟩) Z Z) Z (za (zd (.dr _ _) Z) (zm (jf (s := .dat (vlst (List.map zp r2.1))) 2 (fun qb=>zz Z Z) Z Z) Z (zm (jf (s := .dr 2 (fun qb=>vlst (List.map (CP qb) r2.2))) 2 (fun qb=>zz Z Z) Z Z) Z (qe Z (za (qr (.dr _ _) Z) (ze (zb hN Z (za (zd (.dr _ _) Z) (zm (jf (s := .dat (vint (r2.2.length:Int))) 2 (fun qb=>qi x5t Z) Z Z) Z (qd Z (zx (gE H fun h18 H=>qv (fun (k16:Nat) (s:Bool×Bool×Int×Int×Bool×Bool×Bool×Bool×Int×Int×Int×Int)=>[(0,.dat (vlst (List.map yd l1))),(2,.ptr 1 0),(4,.ptr 2 0),(16,.dr 2 (fun qb=>vlst (List.map (CP qb) r2.2))),(17,.dat (vint (r2.2.length:Int))),(18,.dat (vint (k16:Int)))]) (fun (k16:Nat) (s:Bool×Bool×Int×Int×Bool×Bool×Bool×Bool×Int×Int×Int×Int)=>[(1,.box none 121 [.dat (zh false),.dat (zh false),.dat (zh false),.dat (zh false),.dat (zh false),.dat (zh false),.dat (vint 0),.dat (vint 0),.dat (vint 0),.dat (vint 0),.dat (vint 0),.dat (vint 0)]),(2,.box none 121 [.dat (zh s.1),.dat (zh s.2.1),.dat (zh s.2.2.2.2.1),.dat (zh s.2.2.2.2.2.1),.dat (zh s.2.2.2.2.2.2.1),.dat (zh s.2.2.2.2.2.2.2.1),.dat (vint s.2.2.2.2.2.2.2.2.1),.dat (vint s.2.2.2.2.2.2.2.2.2.1),.dat (vint s.2.2.2.2.2.2.2.2.2.2.1),.dat (vint s.2.2.2.2.2.2.2.2.2.2.2),.dat (vint s.2.2.1),.dat (vint s.2.2.2.1)])]) (false,false,0,0,false,false,false,false,0,0,0,0) H ⟨Z,Z,Z,Z,Z,Z,U⟩ ⟨Z,Z,U⟩ (fun _ _=>Z) ?_ ?_))))))))))))))))))))
 ·rintro ⟨c4,c5,c6,c7,c8,c9,c10,c11,c12,c13,c14,c15⟩ H
  replace H:z9t l1 c4 c5 c6 c7 c8 c9 c10 c11 c12 c13 c14 c15=some r:=H
  unfold z9t at H
  refine zb hN Z (za (zy Z Z) (ze (zf _ Z (fun h=>(lt_t h).elim) (fun h => ?_))))
  refine yr (ze (zb hN Z (qd Z (bE H fun r20 h21 H=>za (zk (z84 l1 [99,97,99,104,101,45,99,111,110,116,114,111,108] r20 h21) ⟨.inl Z,.inl Z,U⟩) (bE H fun r22 h23 H=>za (zk (w1f r20 r22 h23) ⟨.inl Z,U⟩) (za (qi wt Z) (qd Z (zx (gE H fun h38 H=>qv (fun (k36:Nat) (s:Bool×Bool×Int×Int×Bool×Bool×Bool×Bool×Int×Int×Int×Int)=>[(2,.ptr 1 0),(4,.ptr 2 0),(27,.dat (vlst (List.map zp r22))),(28,.dat (vint (r22.length:Int))),(29,.dat (vint (k36:Int)))]) (fun (k36:Nat) (s:Bool×Bool×Int×Int×Bool×Bool×Bool×Bool×Int×Int×Int×Int)=>[(1,.box none 121 [.dat (zh false),.dat (zh false),.dat (zh false),.dat (zh false),.dat (zh false),.dat (zh false),.dat (vint 0),.dat (vint 0),.dat (vint 0),.dat (vint 0),.dat (vint 0),.dat (vint 0)]),(2,.box none 121 [.dat (zh s.1),.dat (zh s.2.1),.dat (zh s.2.2.2.2.1),.dat (zh s.2.2.2.2.2.1),.dat (zh s.2.2.2.2.2.2.1),.dat (zh s.2.2.2.2.2.2.2.1),.dat (vint s.2.2.2.2.2.2.2.2.1),.dat (vint s.2.2.2.2.2.2.2.2.2.1),.dat (vint s.2.2.2.2.2.2.2.2.2.2.1),.dat (vint s.2.2.2.2.2.2.2.2.2.2.2),.dat (vint s.2.2.1),.dat (vint s.2.2.2.1)])]) (c4,c5,c6,c7,c8,c9,c10,c11,c12,c13,c14,c15) H ⟨Z,Z,Z,Z,Z,U⟩ ⟨Z,Z,U⟩ (fun _ _=>Z) ?_ ?_)))))))))
  ·rintro ⟨c24,c25,c26,c27,c28,c29,c30,c31,c32,c33,c34,c35⟩ H
   replace H:y7l c24 c25 c26 c27 c28 c29 c30 c31 c32 c33 c34 c35=some r:=H
   unfold y7l at H
   refine zb hN Z (za (zy Z Z) (ze (zf _ Z (fun h=>(lt_t h).elim) (fun h => ?_))))
   refine yr (zb hN Z (zm (yq Qn Z Z Z) Z (zj (qm Qn Z Z Z Z) Z (qe Z (zi ?_)))))
   cases H
   exact ⟨U,.inl ⟨_,_,_,kg (qh.mk c24 c25 c28 c29 c30 c31 c32 c33 c34 c35 c26 c27),Z,Z,Z,Z,Qn⟩,.inl Z,U⟩
  ·rintro k36 x39 ⟨c24,c25,c26,c27,c28,c29,c30,c31,c32,c33,c34,c35⟩ q37 h40 h41 H hq37
   replace H:z2t k36 x39 c24 c25 c26 c27 c28 c29 c30 c31 c32 c33 c34 c35=some q37:=H
   unfold z2t at H
   refine zb hN Z (za (zy Z Z) (ze (zf _ Z (fun h => ?_) (fun h=>(lt_f h40 h).elim))))
   refine zl (ze (zx (zb hN Z (za (wc vn (fun _=>Z) Z Z h41) (za (qz tyS9 Z (qk h41) Z) (qe Z (zb hN Z (qd Z (bE H fun r42 h43 H=>zj (yk (w2f (qh.mk c24 c25 c28 c29 c30 c31 c32 c33 c34 c35 c26 c27) x39 r42 h43) Z ⟨.inl Z,U⟩ Z) Z (za (yy Z) (zf _ Z (fun h44 => ?_) (fun h44 => ?_))))))))))))
   ·refine tE h44 H fun H=>zb hN Z (za (ya (u':=vagg (kg (qh.mk false false false false false false 0 0 0 0 0 0))) (vh [] z6y y8r Z U) Z) (zj (qm Qn Z Z Z Z) Z (qe Z (zi ?_))))
    replace H:=retl H hq37
    cases H
    exact ⟨U,.inl ⟨_,_,_,kg (qh.mk false false false false false false 0 0 0 0 0 0),Z,Z,Z,Z,Qn⟩,.inl Z,U⟩
   ·exact fE h44 H fun H=>zl (zn hN Z (za (qo Z Z (by omega)) (qd Z ⟨_,yx H,⟨Z,Z,Z,Z,Z,U⟩,⟨Z,Z,U⟩⟩)))
 ·rintro k16 x19 ⟨c4,c5,c6,c7,c8,c9,c10,c11,c12,c13,c14,c15⟩ q17 h45 h46 H hq17
  replace H:y7k k16 x19 c4 c5 c6 c7 c8 c9 c10 c11 c12 c13 c14 c15=some q17:=H
  unfold y7k at H
  refine zb hN Z (za (zy Z Z) (ze (zf _ Z (fun h => ?_) (fun h=>(lt_f h45 h).elim))))
  exact zl (ze (zx (zb hN Z (zm (jf (s := .dr 2 (fun qb=>wv (List.map (CP qb) r2.2) k16 0)) 2 (fun qb=>wc y0o (fun _=>Z) Z Z h46) Z Z) Z (gE H fun h47 H=>zm (jf (s := .ptr 2 x19.toNat) 2 (fun qb=>qz y0e Z (qk h46) Z) Z Z) Z (za (qr (.ptr _ _) Z) (zn hN Z (za (zd (.ptr _ _) Z) (za (ju Z) (bE H fun c48 h49 H=>zj (y4f tyS3 Z Z Z (y9t (c:=(qh.mk c4 c5 c8 c9 c10 c11 c12 c13 c14 c15 c6 c7)) h47 h49)) Z (zn hN Z (za (qo Z Z (by omega)) (qd Z ⟨_,yx H,⟨Z,Z,Z,Z,Z,Z,U⟩,⟨Z,Z,U⟩⟩)))))))))))))
theorem w2m (c1:qh) (r:(Int)) (H:z8u c1=some r):Fn Tryz.prog 117 [vagg (kg c1)] (zu [vint r]):=by
 refine ⟨by kernel_rfl,yg (us:=[vint r]) Tryz.func117 Z Z Z Z fun X hN => ?_⟩
 unfold z8u at H
 refine zb hN Z (zj (we 1 Z) Z (qe Z (ze (zx (zb hN Z (za (zq y8x Z) (zm (zv tyS4 Z Z) Z (qe Z (zf _ Z (fun h2 => ?_) (fun h2 => ?_))))))))))
 ·refine tE h2 H fun H=>zb hN Z (qe Z (zi ?_))
  cases H
  exact ⟨U,.inl Z,U⟩
 ·refine fE h2 H fun H=>zb hN Z (za (zq y39 Z) (zm (zv tyS3 Z Z) Z (za (qj Z Z) (qe Z (zf _ Z (fun h3 => ?_) (fun h3 => ?_))))))
  ·refine tE h3 H fun H=>zb hN Z (za (zq y39 Z) (zm (zv tyS3 Z Z) Z (za (yj _ Z Z (.inr (.inr ⟨Z,Z⟩))) (qe Z (zi ?_)))))
   cases H
   exact ⟨U,.inl Z,U⟩
  ·refine fE h3 H fun H=>zb hN Z (za (zq y4a Z) (zm (zv tyS3 Z Z) Z (za (qj Z Z) (qe Z (zf _ Z (fun h4 => ?_) (fun h4 => ?_))))))
   ·refine tE h4 H fun H=>zb hN Z (za (zq y4a Z) (zm (zv tyS3 Z Z) Z (za (yj _ Z Z (.inr (.inr ⟨Z,Z⟩))) (qe Z (zi ?_)))))
    cases H
    exact ⟨U,.inl Z,U⟩
   ·refine fE h4 H fun H=>zl (zb hN Z (qe Z (zi ?_)))
    cases H
    exact ⟨U,.inl Z,U⟩
theorem w2r (a1:yu) (r:(Int×Int)) (H:y19 a1=some r):Fn Tryz.prog 62 [vagg (Zg a1)] (zu [vint r.1,vint r.2]):=by
 refine ⟨by kernel_rfl,yg (us:=[vint r.1,vint r.2]) Tryz.func62 Z Z Z Z fun X hN => ?_⟩
 unfold y19 at H
 refine zb hN Z (zj (we 1 Z) Z (qe Z (qe Z (ze (zb hN Z (zm (yq ub Z Z Z) Z (bE H fun r2 h3 H=>za (zk (x1z a1 r2 h3) ⟨.inl Z,U⟩) (qe Z (zb hN Z (qd Z (za (qj Z Z) (zf _ Z (fun h4 => ?_) (fun h4 => ?_)))))))))))))
 ·refine tE h4 H fun H=>zb hN Z (qd Z (qe Z (qe Z (zi ?_))))
  cases H
  exact ⟨U,.inl Z,.inl Z,U⟩
 ·refine fE h4 H fun H=>zl (zb hN Z (za (zq xt Z) (zm (zv wu Z Z) Z (bE H fun r5 h6 H=>za (zk (w2j a1.Headers r5 h6) ⟨.inl Z,U⟩) (qd Z (za (zz Z Z) (za (zz Z Z) (zj (qu 2 z6y Z) Z (zj (qm Qn Z Z Z Z) Z (qe Z (ze (zb hN Z (qd Z (za (qj Z Z) (zf _ Z (fun h7 => ?_) (fun h7 => ?_))))))))))))))))
  ·refine tE h7 H fun H=>zb hN Z (qd Z (qe Z (qe Z (zi ?_))))
   cases H
   exact ⟨U,.inl Z,.inl Z,U⟩
  ·refine fE h7 H fun H=>zl (ze (zb hN Z (zm (yq ub Z Z Z) Z (bE H fun r8 h9 H=>za (zk (y6m a1 r8 h9) ⟨.inl Z,U⟩) (qd Z (za (zz Z Z) (za (zz Z Z) (za (zz Z Z) (qe Z (qe Z (qe Z (zb hN Z (qd Z (za (qj Z Z) (zf _ Z (fun h10 => ?_) (fun h10 => ?_))))))))))))))))
   ·refine tE h10 H fun H=>zb hN Z (qd Z (qe Z (qe Z (zi ?_))))
    cases H
    exact ⟨U,.inl Z,.inl Z,U⟩
   ·refine fE h10 H fun H=>zl (zb hN Z (zm (yq Qn Z Z Z) Z (bE H fun r11 h12 H=>za (zk (w2m r5.1 r11 h12) ⟨.inl Z,U⟩) (qe Z (qe Z (zi ?_))))))
    cases H
    exact ⟨U,.inl Z,.inl Z,U⟩
theorem w2d  (r:(Bool)) (H:z8q  = some r):Fn Tryz.prog 22 [] (zu [zh r]):=by
 refine ⟨by kernel_rfl,yg (us:=[zh r]) Tryz.func22 Z Z Z Z fun X hN => ?_⟩
 unfold z8q at H
 refine zb hN Z (qe Z (zb hN Z (za (ya (u':=vagg (yd (zt.mk [99,97,99,104,101,45,99,111,110,116,114,111,108] [109,97,120,45,97,103,101,61,50]))) (vh [(0,[vstr [99,97,99,104,101,45,99,111,110,116,114,111,108]]),(1,[vstr [109,97,120,45,97,103,101,61,50]])] kl z0h Z ⟨Z,.inl ⟨_,Z,Z,Z⟩,Z,Z,.inl ⟨_,Z,Z,Z⟩,Z,U⟩) Z) (za (ya (u':=vlst (List.map yd [(zt.mk [99,97,99,104,101,45,99,111,110,116,114,111,108] [109,97,120,45,97,103,101,61,50])])) (yo [_] kn ⟨Z,.inr Z,Z,U⟩ Z Z) Z) (za (ya (u':=vagg (Zg (yu.mk 200 ([(zt.mk [99,97,99,104,101,45,99,111,110,116,114,111,108] [109,97,120,45,97,103,101,61,50])]) []))) (vh [(0,[vint 200]),(1,[vlst (List.map yd ([(zt.mk [99,97,99,104,101,45,99,111,110,116,114,111,108] [109,97,120,45,97,103,101,61,50])]))])] z99 y8p Z ⟨Z,.inl ⟨_,Z,Z,Z⟩,Z,Z,.inl ⟨_,Z,Z,Z⟩,Z,U⟩) Z) (bE H fun r1 h2 H=>za (zk (w2r (yu.mk 200 ([(zt.mk [99,97,99,104,101,45,99,111,110,116,114,111,108] [109,97,120,45,97,103,101,61,50])]) []) r1 h2) ⟨.inl Z,U⟩) (qd Z (za (zz Z Z) (za (zz Z Z) (qe Z (qe Z (zb hN Z (qd Z (za (ql Z Z) (qd Z (wd Z Z (fun hc=>zd (.dat _) Z) (wd Z Z (fun hc=>ql (cnd (c:=(decide (r1.2=0))) hc) Z) (za (vd Z (fun hb=>(cnd (c:=(decide (r1.2=0))) hb)) Z) (qe Z (zi ?_))))))))))))))))))))
 cases H
 exact ⟨U,.inl Z,U⟩
theorem w2e (v1:(List Int)) (r:(Bool)) (H:y15 v1=some r):Fn Tryz.prog 3 [vlst (List.map qw v1)] (zu [zh r]):=by
 refine ⟨by kernel_rfl,yg (us:=[zh r]) Tryz.func3 Z Z Z Z fun X hN => ?_⟩
 unfold y15 at H
 refine zb hN Z (qe Z (zb hN Z (qd Z (za (ya (u':=vagg (qt (zr.mk v1 0))) (vh [(0,[vlst (List.map qw v1)])] x5s x5w Z ⟨Z,.inl ⟨_,Z,Z,Z⟩,Z,U⟩) Z) (zj (we 1 Z) Z (za (qr (.ptr _ _) Z) (zb hN Z (za (zd (.ptr _ _) Z) (bE H fun r2 h3 H=>zj (yk (x2q (zr.mk v1 0) r2 h3) Z U Z) Z (za (zd (.ptr _ _) Z) (za (zd (.ptr _ _) Z) (za (ya (u':=vlst (List.map qw [0,1000,20000])) (yo [[_],[_],[_]] z60 ⟨Z,.inl ⟨_,Z,Z,Z⟩,Z,Z,.inl ⟨_,Z,Z,Z⟩,Z,Z,.inl ⟨_,Z,Z,Z⟩,Z,U⟩ Z Z) Z) (bE H fun r4 h5 H=>zj (yk (z85 r2.2 [0,1000,20000] r4 h5) Z ⟨.inl Z,U⟩ Z) Z (bE H fun r6 h7 H=>zj (yk (x2r r4.2 r4.1 r6 h7) Z ⟨.inl Z,U⟩ Z) Z (za (zd (.ptr _ _) Z) (za (ya (u':=vlst (List.map qw [0,1000,20000,50000,(-1)])) (yo [[_],[_],[_],[_],[_]] z60 ⟨Z,.inl ⟨_,Z,Z,Z⟩,Z,Z,.inl ⟨_,Z,Z,Z⟩,Z,Z,.inl ⟨_,Z,Z,Z⟩,Z,Z,.inl ⟨_,Z,Z,Z⟩,Z,Z,.inl ⟨_,Z,Z,Z⟩,Z,U⟩ Z Z) Z) (bE H fun r8 h9 H=>zj (yk (z85 r6.2 [0,1000,20000,50000,(-1)] r8 h9) Z ⟨.inl Z,U⟩ Z) Z (zj (qu 2 xq Z) Z (zj (qu 3 vt Z) Z ?_)))))))))))))))))))
 refine zj (qm wo Z Z Z Z) Z (zj (qm yp Z Z Z Z) Z (qe Z (zb hN Z (zm (yq wo Z Z Z) Z (qd Z (bE H fun r10 h11 H=>za (zk (w2t r2.1 r8.1 r10 h11) ⟨.inl Z,.inl Z,U⟩) (qd Z (za (zz Z Z) (za (zz Z Z) (qe Z (qe Z (zb hN Z (zm (yq wo Z Z Z) Z (zm (yq yp Z Z Z) Z (bE H fun r12 h13 H=>za (zk (w2p r2.1 r6.1 r12 h13) ⟨.inl Z,.inl Z,U⟩) (qd Z (za (zz Z Z) (za (zz Z Z) (qe Z (qe Z (zb hN Z ?_)))))))))))))))))))))
 refine zm (yq wo Z Z Z) Z (bE H fun r14 h15 H=>za (zk (w2q r2.1 r14 h15) ⟨.inl Z,U⟩) (qd Z (za (zz Z Z) (za (zz Z Z) (qe Z (qe Z (zb hN Z (zm (yq wo Z Z Z) Z (bE H fun r16 h17 H=>za (zk (x2p r2.1 r16 h17) ⟨.inl Z,U⟩) (qe Z (ze (zb hN Z (zm (yq wo Z Z Z) Z (bE H fun r18 h19 H=>za (zk (z86 r2.1 r18 h19) ⟨.inl Z,U⟩) (qd Z (za (qj Z Z) (zf _ Z (fun h20 => ?_) (fun h20 => ?_))))))))))))))))))
 ·refine tE h20 H fun H=>zb hN Z (qe Z (zi ?_))
  cases H
  exact ⟨U,.inl Z,U⟩
 ·refine fE h20 H fun H=>zl (ze (vf mixed hN Z Z (qd Z (qd Z (bE H fun r21 h22 H=>za (zk (w2c r8.1 r21 h22) ⟨.inl Z,U⟩) (qd Z (za (zq xd Z) (zm (zv tyS3 Z Z) Z (za (zy Z Z) (bE H fun r23 h24 H=>za (zk (x2s (decide (r8.1 < r2.1.At)) 7 r23 h24) ⟨.inl Z,.inl Z,U⟩) (za (ya (u':=vlst (List.map z0f [r16,r21,r23])) (yo [[_],[_],[_]] z6z ⟨Z,.inl ⟨_,Z,Z,Z⟩,Z,Z,.inl ⟨_,Z,Z,Z⟩,Z,Z,.inl ⟨_,Z,Z,Z⟩,Z,U⟩ Z Z) Z) (bE H fun r25 h26 H=>za (zk (y2o [r16,r21,r23] r25 h26) ⟨.inl Z,U⟩) (qe Z ⟨Z,?_⟩)))))))))))))
  refine zb hN Z (qd Z (zm (yq yp Z Z Z) Z (bE H fun r27 h28 H=>za (zk (y2m r6.1 r27 h28) ⟨.inl Z,U⟩) (za (ya (u':=vlst (List.map z0f [r16,r27])) (yo [[_],[_]] z6z ⟨Z,.inl ⟨_,Z,Z,Z⟩,Z,Z,.inl ⟨_,Z,Z,Z⟩,Z,U⟩ Z Z) Z) (bE H fun r29 h30 H=>za (zk (y2o [r16,r27] r29 h30) ⟨.inl Z,U⟩) (qe Z (zb hN Z (qe Z (qe Z (qe Z (yb (ι:=Int) (fun i=>[(3,.ptr 1 0),(4,.ptr 2 0),(5,.ptr 3 0),(7,.dat (vint r10.1)),(8,.dat (vint r10.2)),(9,.dat (zh r12.1)),(10,.dat (vint r12.2)),(11,.dat (vint r14.1)),(12,.dat (vint r14.2)),(13,.dat (vint r16)),(14,.dat (vint r25)),(15,.dat (vint r29)),(16,.dat (vint i)),(17,.dat (zh false)),(18,.dat (vint 0))]) (fun i=>[(1,.box none 25 [.dat (vlst (List.map qw r8.2.L)),.dat (vint r8.2.at_)]),(2,.box none 33 [.dat (vint r2.1.Request.At),.dat (vstr r2.1.Request.Method),.dat (vstr r2.1.Request.Host),.dat (vstr r2.1.Request.Path),.dat (vstr r2.1.Request.Query),.dat (vstr r2.1.Request.From),.dat (vlst (List.map yd r2.1.Request.Headers)),.dat (vstr r2.1.Request.Body),.dat (vint r2.1.Response.Status),.dat (vlst (List.map yd r2.1.Response.Headers)),.dat (vstr r2.1.Response.Body),.dat (vint r2.1.At),.dat (vlst (List.map zp r2.1.Tags)),.dat (vint r2.1.Used)]),(3,.box none 28 [.dat (vint r6.1.At),.dat (vstr r6.1.Method),.dat (vstr r6.1.Host),.dat (vstr r6.1.Path),.dat (vstr r6.1.Query),.dat (vstr r6.1.From),.dat (vlst (List.map yd r6.1.Headers)),.dat (vstr r6.1.Body)])]) (fun i=>z2q r2 r6 r8 r10 r12 r14 r16 r25 r29 i=some r) (fun i=>Z) ?_ ?_)))))))))))
  ·skip
   refine zb hN Z (qd Z (za (ql Z Z) (zf _ Z (fun h31 => ?_) (fun h31 => ?_))))
   ·exact tE h31 H fun H=>zn hN Z (zm (yq wo Z Z Z) Z (qd Z (bE H fun r32 h33 H=>za (zk (w14 r2.1 r8.1 r32 h33) ⟨.inl Z,.inl Z,U⟩) (qe Z ⟨r32,H,⟨Z,Z,Z,Z,Z,Z,Z,Z,Z,Z,Z,Z,Z,Z,Z,U⟩,⟨Z,Z,Z,U⟩⟩))))
   ·exact fE h31 H fun H=>zl ⟨0,H,⟨Z,Z,Z,Z,Z,Z,Z,Z,Z,Z,Z,Z,Z,Z,Z,U⟩,⟨Z,Z,Z,U⟩⟩
  ·rintro v34 H
   replace H:z2q r2 r6 r8 r10 r12 r14 r16 r25 r29 v34=some r:=H
   unfold z2q at H
   refine yb (ι:=Int×Bool) (fun i=>[(3,.ptr 1 0),(4,.ptr 2 0),(5,.ptr 3 0),(7,.dat (vint r10.1)),(8,.dat (vint r10.2)),(9,.dat (zh r12.1)),(10,.dat (vint r12.2)),(11,.dat (vint r14.1)),(12,.dat (vint r14.2)),(13,.dat (vint r16)),(14,.dat (vint r25)),(15,.dat (vint i.1)),(16,.dat (vint v34)),(17,.dat (zh i.2)),(18,.dat (vint 0))]) (fun i=>[(1,.box none 25 [.dat (vlst (List.map qw r8.2.L)),.dat (vint r8.2.at_)]),(2,.box none 33 [.dat (vint r2.1.Request.At),.dat (vstr r2.1.Request.Method),.dat (vstr r2.1.Request.Host),.dat (vstr r2.1.Request.Path),.dat (vstr r2.1.Request.Query),.dat (vstr r2.1.Request.From),.dat (vlst (List.map yd r2.1.Request.Headers)),.dat (vstr r2.1.Request.Body),.dat (vint r2.1.Response.Status),.dat (vlst (List.map yd r2.1.Response.Headers)),.dat (vstr r2.1.Response.Body),.dat (vint r2.1.At),.dat (vlst (List.map zp r2.1.Tags)),.dat (vint r2.1.Used)]),(3,.box none 28 [.dat (vint r6.1.At),.dat (vstr r6.1.Method),.dat (vstr r6.1.Host),.dat (vstr r6.1.Path),.dat (vstr r6.1.Query),.dat (vstr r6.1.From),.dat (vlst (List.map yd r6.1.Headers)),.dat (vstr r6.1.Body)])]) (fun i=>z2p r2 r6 r8 r10 r12 r14 r16 r25 v34 i.1 i.2=some r) (fun i=>Z) ?_ ?_
   ·skip
    refine zb hN Z (qd Z (za (ql Z Z) (zf _ Z (fun h35 => ?_) (fun h35 => ?_))))
    ·exact tE h35 H fun H=>zn hN Z (zm (yq wo Z Z Z) Z (zm (yq yp Z Z Z) Z (bE H fun r36 h37 H=>za (zk (x2k r2.1 r6.1 r36 h37) ⟨.inl Z,.inl Z,U⟩) (qd Z (za (zz Z Z) (za (zz Z Z) (qe Z (qe Z ⟨(r36.2,r36.1),H,⟨Z,Z,Z,Z,Z,Z,Z,Z,Z,Z,Z,Z,Z,Z,Z,U⟩,⟨Z,Z,Z,U⟩⟩))))))))
    ·exact fE h35 H fun H=>zl ⟨(r29,false),H,⟨Z,Z,Z,Z,Z,Z,Z,Z,Z,Z,Z,Z,Z,Z,Z,U⟩,⟨Z,Z,Z,U⟩⟩
   ·rintro ⟨v38,v39⟩ H
    replace H:z2p r2 r6 r8 r10 r12 r14 r16 r25 v34 v38 v39=some r:=H
    unfold z2p at H
    refine yb (ι:=Int) (fun i=>[(3,.ptr 1 0),(5,.ptr 3 0),(7,.dat (vint r10.1)),(8,.dat (vint r10.2)),(9,.dat (zh r12.1)),(10,.dat (vint r12.2)),(11,.dat (vint r14.1)),(12,.dat (vint r14.2)),(13,.dat (vint r16)),(14,.dat (vint r25)),(15,.dat (vint v38)),(16,.dat (vint v34)),(17,.dat (zh v39)),(18,.dat (vint i))]) (fun i=>[(1,.box none 25 [.dat (vlst (List.map qw r8.2.L)),.dat (vint r8.2.at_)]),(3,.box none 28 [.dat (vint r6.1.At),.dat (vstr r6.1.Method),.dat (vstr r6.1.Host),.dat (vstr r6.1.Path),.dat (vstr r6.1.Query),.dat (vstr r6.1.From),.dat (vlst (List.map yd r6.1.Headers)),.dat (vstr r6.1.Body)])]) (fun i=>z2o r6 r8 r10 r12 r14 r16 r25 v34 v38 v39 i=some r) (fun i=>Z) ?_ ?_
    ·skip
     refine zb hN Z (qd Z (za (ql Z Z) (zf _ Z (fun h40 => ?_) (fun h40 => ?_))))
     ·exact tE h40 H fun H=>zn hN Z (zm (yq wo Z Z Z) Z (bE H fun r41 h42 H=>za (zk (w1w r2.1 r41 h42) ⟨.inl Z,U⟩) (qe Z ⟨r41,H,⟨Z,Z,Z,Z,Z,Z,Z,Z,Z,Z,Z,Z,Z,Z,U⟩,⟨Z,Z,U⟩⟩)))
     ·exact fE h40 H fun H=>zl ⟨0,H,⟨Z,Z,Z,Z,Z,Z,Z,Z,Z,Z,Z,Z,Z,Z,U⟩,⟨Z,Z,U⟩⟩
    ·rintro v43 H
     replace H:z2o r6 r8 r10 r12 r14 r16 r25 v34 v38 v39 v43=some r:=H
     unfold z2o at H
     refine ze (zb hN Z (qd Z (qd Z (za (qj Z Z) (qd Z (yl Z Z (fun hc=>zd (.dat _) Z) (yl Z Z (fun hc=>zd (.dat _) Z) (yl Z Z (fun hc=>qj (cnd (c:=(!(decide (r10.2≠r25)))) hc) (cnd (c:=(!(decide (r10.2≠r25)))) hc)) (za (ww Z Z (fun hb=>(cnd (c:=(!(decide (r10.2≠r25)))) (notI hb)))) (qd Z (yl Z Z (fun hc=>zd (.dat _) Z) (yl Z Z (fun hc=>zd (.dat _) Z) (yl Z Z (fun hc=>qj (cnd (c:=(!((decide (r10.2≠r25)) || (decide (r10.1≠v34))))) hc) (cnd (c:=(!((decide (r10.2≠r25)) || (decide (r10.1≠v34))))) hc)) (za (ww Z Z (fun hb=>(cnd (c:=(!((decide (r10.2≠r25)) || (decide (r10.1≠v34))))) (notI hb)))) (qd Z (yl Z Z (fun hc=>zd (.dat _) Z) (yl Z Z (fun hc=>zd (.dat _) Z) (yl Z Z (fun hc=>x7s tyU4 (cnd (c:=(!(((decide (r10.2≠r25)) || (decide (r10.1≠v34))) || (decide (r12.2≠v38))))) hc) (cnd (c:=(!(((decide (r10.2≠r25)) || (decide (r10.1≠v34))) || (decide (r12.2≠v38))))) hc)) (za (ww Z Z (fun hb=>(cnd (c:=(!(((decide (r10.2≠r25)) || (decide (r10.1≠v34))) || (decide (r12.2≠v38))))) (notI hb)))) (qd Z (yl Z Z (fun hc=>zd (.dat _) Z) (yl Z Z (fun hc=>zd (.dat _) Z) (yl Z Z (fun hc=>qj (cnd (c:=(!((((decide (r10.2≠r25)) || (decide (r10.1≠v34))) || (decide (r12.2≠v38))) || (r12.1 != v39)))) hc) (cnd (c:=(!((((decide (r10.2≠r25)) || (decide (r10.1≠v34))) || (decide (r12.2≠v38))) || (r12.1 != v39)))) hc)) ?_)))))))))))))))))))))))
     refine za (ww Z Z (fun hb=>(cnd (c:=(!((((decide (r10.2≠r25)) || (decide (r10.1≠v34))) || (decide (r12.2≠v38))) || (r12.1 != v39)))) (notI hb)))) (qd Z (yl Z Z (fun hc=>zd (.dat _) Z) (yl Z Z (fun hc=>zd (.dat _) Z) (yl Z Z (fun hc=>qj (cnd (c:=(!(((((decide (r10.2≠r25)) || (decide (r10.1≠v34))) || (decide (r12.2≠v38))) || (r12.1 != v39)) || (decide (r14.2≠r16))))) hc) (cnd (c:=(!(((((decide (r10.2≠r25)) || (decide (r10.1≠v34))) || (decide (r12.2≠v38))) || (r12.1 != v39)) || (decide (r14.2≠r16))))) hc)) (za (ww Z Z (fun hb=>(cnd (c:=(!(((((decide (r10.2≠r25)) || (decide (r10.1≠v34))) || (decide (r12.2≠v38))) || (r12.1 != v39)) || (decide (r14.2≠r16))))) (notI hb)))) (zf _ Z (fun h44 => ?_) (fun h44 => ?_)))))))
     ·refine tE h44 H fun H=>zb hN Z (qe Z (zi ?_))
      cases H
      exact ⟨U,.inl Z,U⟩
     ·refine fE h44 H fun H=>zl (zb hN Z (qe Z (zb hN Z (qe Z (ze (zb hN Z (za (zd (.ptr _ _) Z) (bE H fun r45 h46 H=>zj (yk (z44 r8.2 0 4 r45 h46) Z ⟨.inl Z,.inl Z,U⟩ Z) Z (qd Z (zx (vp 19 4 33 14 Z Z Z (gE H fun h53 H=>z9w (fun (k51:Nat) (s:Int×(List Int)×Int×(List yc))=>[(3,.ptr 1 0),(5,.ptr 3 0),(19,.row 4 s.2.2.2.length),(20,.dat (vint s.1)),(122,.dat (vint r45.1)),(123,.dat (vint (k51:Int)))]) (fun (k51:Nat) (s:Int×(List Int)×Int×(List yc))=>[(1,.box none 25 [.dat (vlst (List.map qw s.2.1)),.dat (vint s.2.2.1)]),(3,.box none 28 [.dat (vint r6.1.At),.dat (vstr r6.1.Method),.dat (vstr r6.1.Host),.dat (vstr r6.1.Path),.dat (vstr r6.1.Query),.dat (vstr r6.1.From),.dat (vlst (List.map yd r6.1.Headers)),.dat (vstr r6.1.Body)]),(4,.row 33 14 (List.map qy s.2.2.2))]) (0,r45.2.L,r45.2.at_,[]) H ⟨Z,Z,Z,Z,Z,Z,U⟩ ⟨Z,Z,Z,U⟩ (fun _ _=>Z) ?_ ?_))))))))))))
      ·rintro ⟨v47,c48,c49,l50⟩ H
       replace H:y3d r6 v47 c48 c49 l50=some r:=H
       unfold y3d at H
       refine zb hN Z (za (zy Z Z) (ze (zf _ Z (fun h=>(x08 h).elim) (fun h => ?_))))
       refine yr (ze (Zj 19 4 Z Z Z (zn hN Z (qd Z (zm (yq yp Z Z Z) Z (bE H fun r54 h55 H=>za (zk (w2s l50 r6.1 r54 h55) ⟨.inl Z,.inl Z,U⟩) (qd Z (za (zz Z Z) (za (zz Z Z) (qe Z (qe Z (zb hN Z (qe Z (yb (ι:=Int×Int) (fun i=>[(20,.dat (vint i.1)),(22,.dat (vint r54.1)),(23,.dat (vint r54.2)),(24,.dat (vint i.2))]) (fun i=>[]) (fun i=>z2n r54 i.1 i.2=some r) (fun i=>Z) ?_ ?_))))))))))))))
       ·skip
        refine zb hN Z (qd Z (zm (yq yp Z Z Z) Z (bE H fun r56 h57 H=>za (zk (y2m r6.1 r56 h57) ⟨.inl Z,U⟩) (za (ya (u':=vlst (List.map z0f [v47,r56])) (yo [[_],[_]] z6z ⟨Z,.inl ⟨_,Z,Z,Z⟩,Z,Z,.inl ⟨_,Z,Z,Z⟩,Z,U⟩ Z Z) Z) (bE H fun r58 h59 H=>za (zk (y2o [v47,r56] r58 h59) ⟨.inl Z,U⟩) (qe Z (zb hN Z (qd Z (za (ql Z Z) (zf _ Z (fun h60 => ?_) (fun h60 => ?_)))))))))))
        ·exact tE h60 H fun H=>zn hN Z (qd Z (zm (yq yp Z Z Z) Z (bE H fun r61 h62 H=>za (zk (w13 l50 r6.1 r61 h62) ⟨.inl Z,.inl Z,U⟩) (qd Z (za (zz Z Z) (za (zz Z Z) (qe Z (qe Z ⟨(r61.2,r61.1),H,⟨Z,Z,Z,Z,U⟩,U⟩))))))))
        ·exact fE h60 H fun H=>zl ⟨(r58,0),H,⟨Z,Z,Z,Z,U⟩,U⟩
       ·rintro ⟨v63,v64⟩ H
        replace H:z2n r54 v63 v64=some r:=H
        unfold z2n at H
        refine yb (ι:=Bool) (fun i=>[(2,.dat (zh i))]) (fun i=>[]) (fun i=>z2m i=some r) (fun i=>Z) ?_ ?_
        ·skip
         refine zn hN Z (qd Z (qd Z (za (ql Z Z) (qd Z (yi (j:=3) Z Z (fun h65 => ?_) (fun h65 => ?_) Z)))))
         ·refine u1 h65 H fun h66 H=>zg Z Z h65 (zd (.dat _) Z) (zg Z Z h65 (zd (.dat _) Z) (zg Z Z h65 (ql Z Z) (za (yh Z (bTT h66) Z) (qd Z (yi (j:=8) Z Z (fun h67 => ?_) (fun h67 => ?_) Z)))))
          ·exact u1 h67 H fun h68 H=>bE H fun r69 h70 H=>zg Z Z h67 (zk (w2d  r69 h70) U) (za (yh Z (bTT h68) Z) (qe Z ⟨r69,H,⟨Z,U⟩,U⟩))
          ·exact u2 h67 H fun h71 H=>zc Z Z h67 (za (ye Z (bFF h71) Z) (qe Z ⟨false,H,⟨Z,U⟩,U⟩))
         ·exact u2 h65 H fun h72 H=>zc Z Z h65 (zc Z Z h65 (zc Z Z h65 (za (ye Z (bFF h72) Z) (qd Z (zc Z Z Z (za (ye Z Z Z) (qe Z ⟨false,H,⟨Z,U⟩,U⟩)))))))
        ·rintro v73 H
         replace H:z2m v73=some r:=H
         unfold z2m at H
         refine zi ?_
         cases H
         exact ⟨U,.inl Z,U⟩
      ·rintro k51 ⟨v47,c48,c49,l50⟩ q52 h74 H hq52
       replace H:y3c k51 v47 c48 c49 l50=some q52:=H
       unfold y3c at H
       refine zb hN Z (za (zy Z Z) (ze (zf _ Z (fun h => ?_) (fun h=>(x09 h74 h).elim))))
       refine zl (ze (zx (zb hN Z (za (zd (.ptr _ _) Z) (bE H fun r75 h76 H=>zj (yk (x2q (zr.mk c48 c49) r75 h76) Z U Z) Z (zj (qu 5 xq Z) Z (zj (qm wo Z Z Z Z) Z (zb hN Z (za (zd (.row _ _) Z) (zm (yq wo Z Z Z) Z (za (ya (u':=vlst (List.map qy [r75.1])) (yo [_] z27 ⟨Z,.inr Z,Z,U⟩ Z Z) Z) (gE H fun h77 H=>zj (va z27 (fun _=>Z) Z Z Z ⟨by simp,by first | (simp; done) | simpa using h77⟩ Z) Z ?_))))))))))))
       exact za (qr (.row _ _) Z) (zn hN Z (qd Z (zm (yq wo Z Z Z) Z (bE H fun r78 h79 H=>za (zk (x2p r75.1 r78 h79) ⟨.inl Z,U⟩) (za (ya (u':=vlst (List.map z0f [v47,r78])) (yo [[_],[_]] z6z ⟨Z,.inl ⟨_,Z,Z,Z⟩,Z,Z,.inl ⟨_,Z,Z,Z⟩,Z,U⟩ Z Z) Z) (bE H fun r80 h81 H=>za (zk (y2o [v47,r78] r80 h81) ⟨.inl Z,U⟩) (qe Z (zn hN Z (za (qo Z Z (by omega)) (qd Z ⟨_,yx H,⟨Z,Z,Z,Z,Z,Z,U⟩,⟨Z,Z,Z,U⟩⟩))))))))))
end Go.Proofs.YtmdllhcjefcggacGreatDoor
