/- Walks along the models. Printed by a program. -/
import Derived.Test.YtbndlmnjeofkdaaGreatDoorZsw4
namespace Go.Proofs.YtbndlmnjeofkdaaGreatDoor
open Go.RowKit
set_option linter.unusedVariables false
set_option maxRecDepth 100000
set_option maxHeartbeats 2000000
theorem w1u (l1:(List zo)) (r:(yp×Int)) (H:z3k l1=some r):Fn Tryz.prog 71 [vlst (List.map yh l1)] (zt [vagg (jp r.1),vint r.2]):=by
 refine ⟨by kernel_rfl,yf (us:=[vagg (jp r.1),vint r.2]) Tryz.func71 Z Z Z Z fun X hN => ?_⟩
 unfold z3k at H
 refine zb hN Z (zk (wd 1 z5b Z) Z (qe Z (zb hN Z (za (yb (u':=vagg (jp (yp.mk false false false false false false 0 0 0 0 0 0))) (vc [] z5b y6v Z U) Z) (zk (wd 2 z5b Z) Z (zk (qw Yh Z Z Z Z) Z (zb hN Z (bE H fun r2 h3 H=>zr (vt (s := .dr 2 (fun qb=>vtup [vlst (List.map zq r2.1),vlst (List.map (CP qb) r2.2)])) 2 (fun qb=>zm (x0r qb r2 h3) ⟨.inl Z,U⟩) Z Z) Z (za (zd (.dr _ _) Z) (zr (vt (s := .dat (vlst (List.map zq r2.1))) 2 (fun qb=>yd Z Z) Z Z) Z (zr (vt (s := .dr 2 (fun qb=>vlst (List.map (CP qb) r2.2))) 2 (fun qb=>yd Z Z) Z Z) Z (qe Z (za (qr (.dr _ _) Z) (zf (zb hN Z (za (zd (.dr _ _) Z) (zr (vt (s := .dat (vint (r2.2.length:Int))) 2 (fun qb=>qf x4i Z) Z Z) Z (qd Z (zx (gE H fun h18 H=>qy (fun (k16:Nat) (s:Bool×Bool×Int×Int×Bool×Bool×Bool×Bool×Int×Int×Int×Int)=>[(0,.dat (vlst (List.map yh l1))),(2,.ptr 1 0),(4,.ptr 2 0),(16,.dr 2 (fun qb=>vlst (List.map (CP qb) r2.2))),(17,.dat (vint (r2.2.length:Int))),(18,.dat (vint (k16:Int)))]) (fun (k16:Nat) (s:Bool×Bool×Int×Int×Bool×Bool×Bool×Bool×Int×Int×Int×Int)=>[(1,.box none 114 [.dat (zh false),.dat (zh false),.dat (zh false),.dat (zh false),.dat (zh false),.dat (zh false),.dat (vint 0),.dat (vint 0),.dat (vint 0),.dat (vint 0),.dat (vint 0),.dat (vint 0)]),(2,.box none 114 [.dat (zh s.1),.dat (zh s.2.1),.dat (zh s.2.2.2.2.1),.dat (zh s.2.2.2.2.2.1),.dat (zh s.2.2.2.2.2.2.1),.dat (zh s.2.2.2.2.2.2.2.1),.dat (vint s.2.2.2.2.2.2.2.2.1),.dat (vint s.2.2.2.2.2.2.2.2.2.1),.dat (vint s.2.2.2.2.2.2.2.2.2.2.1),.dat (vint s.2.2.2.2.2.2.2.2.2.2.2),.dat (vint s.2.2.1),.dat (vint s.2.2.2.1)])]) (false,false,0,0,false,false,false,false,0,0,0,0) H ⟨Z,Z,Z,Z,Z,Z,U⟩ ⟨Z,Z,U⟩ (fun _ _=>Z) ?_ ?_))))))))))))))))))))
 ·rintro ⟨c4,c5,c6,c7,c8,c9,c10,c11,c12,c13,c14,c15⟩ H
  replace H:z78 l1 c4 c5 c6 c7 c8 c9 c10 c11 c12 c13 c14 c15=some r:=H
  unfold z78 at H
  refine zb hN Z (za (zy Z Z) (zf (zg _ Z (fun h=>(lt_t h).elim) (fun h => ?_))))
  refine yt (zf (zb hN Z (qd Z (bE H fun r20 h21 H=>za (zm (y0j l1 [99,97,99,104,101,45,99,111,110,116,114,111,108] r20 h21) ⟨.inl Z,.inl Z,U⟩) (bE H fun r22 h23 H=>za (zm (w0s r20 r22 h23) ⟨.inl Z,U⟩) (za (qf wm Z) (qd Z (zx (gE H fun h38 H=>qy (fun (k36:Nat) (s:Bool×Bool×Int×Int×Bool×Bool×Bool×Bool×Int×Int×Int×Int)=>[(2,.ptr 1 0),(4,.ptr 2 0),(27,.dat (vlst (List.map zq r22))),(28,.dat (vint (r22.length:Int))),(29,.dat (vint (k36:Int)))]) (fun (k36:Nat) (s:Bool×Bool×Int×Int×Bool×Bool×Bool×Bool×Int×Int×Int×Int)=>[(1,.box none 114 [.dat (zh false),.dat (zh false),.dat (zh false),.dat (zh false),.dat (zh false),.dat (zh false),.dat (vint 0),.dat (vint 0),.dat (vint 0),.dat (vint 0),.dat (vint 0),.dat (vint 0)]),(2,.box none 114 [.dat (zh s.1),.dat (zh s.2.1),.dat (zh s.2.2.2.2.1),.dat (zh s.2.2.2.2.2.1),.dat (zh s.2.2.2.2.2.2.1),.dat (zh s.2.2.2.2.2.2.2.1),.dat (vint s.2.2.2.2.2.2.2.2.1),.dat (vint s.2.2.2.2.2.2.2.2.2.1),.dat (vint s.2.2.2.2.2.2.2.2.2.2.1),.dat (vint s.2.2.2.2.2.2.2.2.2.2.2),.dat (vint s.2.2.1),.dat (vint s.2.2.2.1)])]) (c4,c5,c6,c7,c8,c9,c10,c11,c12,c13,c14,c15) H ⟨Z,Z,Z,Z,Z,U⟩ ⟨Z,Z,U⟩ (fun _ _=>Z) ?_ ?_)))))))))
  ·rintro ⟨c24,c25,c26,c27,c28,c29,c30,c31,c32,c33,c34,c35⟩ H
   replace H:y5s c24 c25 c26 c27 c28 c29 c30 c31 c32 c33 c34 c35=some r:=H
   unfold y5s at H
   refine zb hN Z (za (zy Z Z) (zf (zg _ Z (fun h=>(lt_t h).elim) (fun h => ?_))))
   refine yt (zb hN Z (zr (qh Yh Z Z Z) Z (zk (qw Yh Z Z Z Z) Z (qe Z (zi ?_)))))
   cases H
   exact ⟨U,.inl ⟨_,_,_,jp (yp.mk c24 c25 c28 c29 c30 c31 c32 c33 c34 c35 c26 c27),Z,Z,Z,Z,Yh⟩,.inl Z,U⟩
  ·rintro k36 x39 ⟨c24,c25,c26,c27,c28,c29,c30,c31,c32,c33,c34,c35⟩ q37 h40 h41 H hq37
   replace H:z1p k36 x39 c24 c25 c26 c27 c28 c29 c30 c31 c32 c33 c34 c35=some q37:=H
   unfold z1p at H
   refine zb hN Z (za (zy Z Z) (zf (zg _ Z (fun h => ?_) (fun h=>(lt_f h40 h).elim))))
   refine zl (zf (zx (zb hN Z (za (wi vm (fun _=>Z) Z Z h41) (za (qz tyS9 Z (qg h41) Z) (qe Z (zb hN Z (qd Z (bE H fun r42 h43 H=>zk (yi (w1q (yp.mk c24 c25 c28 c29 c30 c31 c32 c33 c34 c35 c26 c27) x39 r42 h43) Z ⟨.inl Z,U⟩ Z) Z (za (yr Z) (zg _ Z (fun h44 => ?_) (fun h44 => ?_))))))))))))
   ·refine tE h44 H fun H=>zb hN Z (za (yb (u':=vagg (jp (yp.mk false false false false false false 0 0 0 0 0 0))) (vc [] z5b y6v Z U) Z) (zk (qw Yh Z Z Z Z) Z (qe Z (zi ?_))))
    replace H:=retl H hq37
    cases H
    exact ⟨U,.inl ⟨_,_,_,jp (yp.mk false false false false false false 0 0 0 0 0 0),Z,Z,Z,Z,Yh⟩,.inl Z,U⟩
   ·exact fE h44 H fun H=>zl (zp hN Z (za (qj Z Z (by omega)) (qd Z ⟨_,yx H,⟨Z,Z,Z,Z,Z,U⟩,⟨Z,Z,U⟩⟩)))
 ·rintro k16 x19 ⟨c4,c5,c6,c7,c8,c9,c10,c11,c12,c13,c14,c15⟩ q17 h45 h46 H hq17
  replace H:y5r k16 x19 c4 c5 c6 c7 c8 c9 c10 c11 c12 c13 c14 c15=some q17:=H
  unfold y5r at H
  refine zb hN Z (za (zy Z Z) (zf (zg _ Z (fun h => ?_) (fun h=>(lt_f h45 h).elim))))
  exact zl (zf (zx (zb hN Z (zr (vt (s := .dr 2 (fun qb=>jg (List.map (CP qb) r2.2) k16 0)) 2 (fun qb=>wi z8w (fun _=>Z) Z Z h46) Z Z) Z (gE H fun h47 H=>zr (vt (s := .ptr 2 x19.toNat) 2 (fun qb=>qz z8o Z (qg h46) Z) Z Z) Z (za (qr (.ptr _ _) Z) (zp hN Z (za (zd (.ptr _ _) Z) (za (ji Z) (bE H fun c48 h49 H=>zk (y2l tyS3 Z Z Z (y75 (c:=(yp.mk c4 c5 c8 c9 c10 c11 c12 c13 c14 c15 c6 c7)) h47 h49)) Z (zp hN Z (za (qj Z Z (by omega)) (qd Z ⟨_,yx H,⟨Z,Z,Z,Z,Z,Z,U⟩,⟨Z,Z,U⟩⟩)))))))))))))
theorem w0k (s1:(List Bs)) (v2:Bs) (r:(Bool)) (H:z6f s1 v2=some r):Fn Tryz.prog 85 [vlst (List.map zq s1),vstr v2] (zt [zh r]):=by
 refine ⟨by kernel_rfl,yf (us:=[zh r]) Tryz.func85 Z Z Z Z fun X hN => ?_⟩
 unfold z6f at H
 refine zb hN Z (qe Z (zb hN Z (qd Z (qd Z (bE H fun r3 h4 H=>za (zm (y4h s1 v2 r3 h4) ⟨.inl Z,.inl Z,U⟩) (za (wx Z Z) (qe Z (zi ?_))))))))
 cases H
 exact ⟨U,.inl Z,U⟩
theorem x9v (l r:List Bs) (H:ul l=some r):FnG Tryz.prog 143 [.dat (vlst (List.map zq l))] [] (.row 900 r.length) [(900,.row 9 1 (List.map zq r))]:=by
 obtain ⟨hl,rfl⟩:=x2g H
 refine xg (by kernel_rfl) Tryz.func143 Z Z Z Z fun X A hN => ?_
 refine x2q 0 Z (fun h0 => ?_) ?_
 ·obtain rfl:=List.map_eq_nil_iff.1 h0
  refine zb hN Z (qe Z (zf (zb hN Z (qd Z (za (y7t wm Z) (zg _ Z (fun h => ?_) (fun h=>by cases h)))))))
  exact zb hN Z (qe Z (jo 2 900 9 1 Z Z Z (zi ⟨U,[(2,.row 900 0)],⟨Z,U⟩,⟨Z,U⟩,Z,.inr (.inl ⟨2,Z,Z⟩)⟩)))
 ·refine zb hN Z (qe Z (zf (zb hN Z (qd Z (za (y7u wm Z) (zg _ Z (fun h=>by cases h) (fun h => ?_)))))))
  refine zl (zf (x2p 0 (u':=vlst (List.map zq l)) Z y6e (zp hN Z (zk (y7n 900 yq) Z (qd Z (zk (y7f (C:=zq) (xs:=[]) yq (fun _=>Z) Z Z Z (by simpa using hl) Z) Z ?_))))))
  exact za (qr (.row _ _) Z) (zi ⟨U,[(2,.row 900 l.length)],⟨Z,U⟩,⟨Z,U⟩,Z,.inr (.inl ⟨2,Z,Z⟩)⟩)
theorem y9z (l r:List Bs) (H:xm l=some r):FnG Tryz.prog 139 [.row 0 l.length] [(0,.rowA undef 9 1 (List.map zq l))] (.dat (zt [])) [(0,.rowA undef 9 1 (List.map zq r))]:=by
 obtain ⟨hl,hr⟩:=y8b H
 refine w26 (fun s:Bs=>Value.string ⟨s.toArray⟩) r l (z5p H) (by kernel_rfl) (fun _=>Z) (fun blk cap w hH hb => ?_) (fun h w => ?_)
 ·rw [hr]; exact Tryz.slices_Sort_string blk 0 cap l w hH hb (by omega)
 ·exact Tryz.slices_Sort_string_none none 0 w
theorem y90 (l r:List Bs) (H:Wy l=some r):FnG Tryz.prog 140 [.row 0 l.length] [(0,.row 9 1 (List.map zq l))] (.row 900 r.length) [(900,.row 9 1 (List.map zq r))]:=by
 obtain ⟨h1,rfl⟩:=w3x H
 exact w28 (fun s:Bs=>Value.string ⟨s.toArray⟩) [] (Lib.compact l) l (w3w l) (by kernel_rfl) (fun _=>Z) (fun blk cap w hH hc=>Tryz.slices_Compact_string blk 0 cap l w hH (by omega) hc) (fun h a cap w=>Tryz.slices_Compact_string_empty a cap w)
theorem w0z (l1:(List Bs)) (r:((List Bs))) (H:z27 l1=some r):Fn Tryz.prog 86 [vlst (List.map zq l1)] (zt [vlst (List.map zq r)]):=by
 refine ⟨by kernel_rfl,yf (us:=[vlst (List.map zq r)]) Tryz.func86 Z Z Z Z fun X hN => ?_⟩
 unfold z27 at H
 refine zb hN Z (qe Z (zb hN Z (qd Z (bE H fun r2 h3 H=>vd (rn [(900,1)]) [] [(900,_)] (x9v l1 r2 h3) ⟨Z,U⟩ ⟨.inl (.inl Z),U⟩ U Z (za (qr (.row _ _) Z) (zb hN Z (za (zd (.row _ _) Z) (bE H fun r4 h5 H=>vd (rn [(0,1)]) [(0,_,_,some _)] [] (y9z r2 r4 h5) ⟨Z,U⟩ ⟨.inl (.inl Z),U⟩ ⟨⟨⟨Z,Z,Z⟩,by simp [Zg,z5p h5]⟩,U⟩ Z ?_))))))))
 refine zb hN Z (za (zd (.row _ _) Z) (bE H fun r6 h7 H=>vd (rn [(0,1),(900,2)]) [(0,_,_,none)] [(900,_)] (y90 r4 r6 h7) ⟨Z,Z,U⟩ ⟨.inl (.inl (congrArg (Slot.row 1) (z5p h5).symm)),U⟩ ⟨⟨⟨Z,Z,Z⟩,U⟩,U⟩ Z (za (qr (.row _ _) Z) (zi ?_))))
 cases H
 exact ⟨U,Qw Z Z,U⟩
theorem x9x (values1:(List Bs)) (r:((List Bs))) (H:Yw values1=some r):FnG Tryz.prog 83 [.dat (vlst (List.map zq values1))] [] (.row 1 r.length) [(1,.row 9 1 (List.map zq r))]:=by
 refine xg (by kernel_rfl) Tryz.func83 Z Z Z Z fun X A hN => ?_
 unfold Yw at H
 refine zb hN Z (qe Z (zb hN Z (qe Z (zf (zb hN Z (qd Z (za (qf wm Z) (qd Z (zx (jo 3 1 9 1 Z Z Z (gE H fun h5 H=>qy (fun (k3:Nat) (s:(List Bs))=>[(3,.row 1 s.length),(8,.dat (vlst (List.map zq values1))),(9,.dat (vint (values1.length:Int))),(10,.dat (vint (k3:Int)))]) (fun (k3:Nat) (s:(List Bs))=>[(1,.row 9 1 (List.map zq s))]) [] H ⟨Z,Z,Z,Z,U⟩ ⟨Z,U⟩ (fun _ _=>Z) ?_ ?_)))))))))))
 ·rintro l2 H
  replace H:z2p l2=some r:=H
  unfold z2p at H
  refine zb hN Z (za (zy Z Z) (zf (zg _ Z (fun h=>(lt_t h).elim) (fun h => ?_))))
  refine yt (zb hN Z (za (zd (.row _ _) Z) (za (qr (.row _ _) Z) (zi ?_))))
  cases H
  exact ⟨U,[(2,.row 1 _)],⟨Z,U⟩,⟨Z,U⟩,Z,.inr (.inl ⟨2,Z,Z⟩)⟩
 ·rintro k3 x6 l2 q4 h7 h8 H hq4
  replace H:Zn k3 x6 l2=some q4:=H
  unfold Zn at H
  refine zb hN Z (za (zy Z Z) (zf (zg _ Z (fun h => ?_) (fun h=>(lt_f h7 h).elim))))
  refine zl (zf (zx (zb hN Z (za (wi vm (fun _=>Z) Z Z h8) (za (qz tyS9 Z (qg h8) Z) (qe Z (zb hN Z (qd Z (bE H fun r9 h10 H=>za (zm (z0p x6 [44] r9 h10) ⟨.inl Z,.inl Z,U⟩) (za (qf wm Z) (qd Z (zx (gE H fun h14 H=>qy (fun (k12:Nat) (s:(List Bs))=>[(3,.row 1 s.length),(8,.dat (vlst (List.map zq values1))),(9,.dat (vint (values1.length:Int))),(10,.dat (vint (k3:Int))),(15,.dat (vlst (List.map zq r9))),(16,.dat (vint (r9.length:Int))),(17,.dat (vint (k12:Int)))]) (fun (k12:Nat) (s:(List Bs))=>[(1,.row 9 1 (List.map zq s))]) l2 H ⟨Z,Z,Z,Z,Z,Z,Z,U⟩ ⟨Z,U⟩ (fun _ _=>Z) ?_ ?_)))))))))))))
  ·rintro l11 H
   replace H:z2o l11=some q4:=H
   unfold z2o at H
   refine zb hN Z (za (zy Z Z) (zf (zg _ Z (fun h=>(lt_t h).elim) (fun h => ?_))))
   exact yt (zp hN Z (za (qj Z Z (by omega)) (qd Z ⟨_,yx H,⟨Z,Z,Z,Z,U⟩,⟨Z,U⟩⟩)))
  ·rintro k12 x15 l11 q13 h16 h17 H hq13
   replace H:Zm k12 x15 l11=some q13:=H
   unfold Zm at H
   refine zb hN Z (za (zy Z Z) (zf (zg _ Z (fun h => ?_) (fun h=>(lt_f h16 h).elim))))
   refine zl (yc (ι:=(List Bs)) (fun i=>[(3,.row 1 i.length),(8,.dat (vlst (List.map zq values1))),(9,.dat (vint (values1.length:Int))),(10,.dat (vint (k3:Int))),(15,.dat (vlst (List.map zq r9))),(16,.dat (vint (r9.length:Int))),(17,.dat (vint (k12:Int)))]) (fun i=>[(1,.row 9 1 (List.map zq i))]) (fun i=>Zo i=some q13) (fun i=>Z) ?_ ?_)
   ·skip
    refine zx (zb hN Z (za (wi vm (fun _=>Z) Z Z h17) (za (qz tyS9 Z (qg h17) Z) (qe Z (zb hN Z (qd Z (bE H fun r18 h19 H=>za (zm (z3q x15 [32] r18 h19) ⟨.inl Z,.inl Z,U⟩) (qe Z (zb hN Z (qd Z (za (kj Z Z) (zg _ Z (fun h20 => ?_) (fun h20 => ?_)))))))))))))
    ·refine tE h20 H fun H=>zp hN Z (za (zd (.row _ _) Z) (qd Z (za (yb (u':=vlst (List.map zq [r18])) (yo [[_]] yq ⟨Z,.inl ⟨_,Z,Z,Z⟩,Z,U⟩ Z Z) Z) (gE H fun h21 H=>zk (je yq (fun _=>Z) Z Z Z ⟨by simp,by first | (simp; done) | simpa using h21⟩ Z) Z ?_))))
     exact za (qr (.row _ _) Z) ⟨(l11++[r18]),H,⟨Z,Z,Z,Z,Z,Z,Z,U⟩,⟨Z,U⟩⟩
    ·exact fE h20 H fun H=>zl ⟨l11,H,⟨Z,Z,Z,Z,Z,Z,Z,U⟩,⟨Z,U⟩⟩
   ·rintro out22 H
    replace H:Zo out22=some q13:=H
    unfold Zo at H
    exact zp hN Z (za (qj Z Z (by omega)) (qd Z ⟨_,yx H,⟨Z,Z,Z,Z,Z,Z,Z,U⟩,⟨Z,U⟩⟩))
theorem y0l (a1:ym) (r:((List Bs)×Bool×Int)) (H:xc a1=some r):Fn Tryz.prog 36 [vagg (ku a1)] (zt [vlst (List.map zq r.1),zh r.2.1,vint r.2.2]):=by
 refine ⟨by kernel_rfl,yf (us:=[vlst (List.map zq r.1),zh r.2.1,vint r.2.2]) Tryz.func36 Z Z Z Z fun X hN => ?_⟩
 unfold xc at H
 refine zb hN Z (zk (wy 1 Z) Z (qe Z (qe Z (qe Z (zb hN Z (za (zw Qr Z) (zr (ye vk Z Z) Z (bE H fun r2 h3 H=>za (zm (y0j a1.Headers [118,97,114,121] r2 h3) ⟨.inl Z,.inl Z,U⟩) (bE H fun r4 h5 H=>vd (rn [(1,2)]) [] [(1,_)] (x9x r2 r4 h5) ⟨Z,U⟩ ⟨.inl (.inl Z),U⟩ U Z (za (qr (.row _ _) Z) (zf (zb hN Z (za (zd (.row _ _) Z) (zr (z16 wm Z Z) Z (qd Z (zx (gE H fun h9 H=>z1r (fun (k7:Nat) (s:(List Bs))=>[(5,.row 2 s.length),(12,.row 2 s.length),(13,.dat (vint (r4.length:Int))),(14,.dat (vint (k7:Int)))]) (fun (k7:Nat) (s:(List Bs))=>[(2,.row 9 1 (List.map zq s))]) r4 H ⟨Z,Z,Z,Z,U⟩ ⟨Z,U⟩ (fun _ _=>Z) ?_ ?_)))))))))))))))))
 ·rintro l6 H
  replace H:Qj l6=some r:=H
  unfold Qj at H
  refine zb hN Z (za (zy Z Z) (zf (zg _ Z (fun h=>(lt_t h).elim) (fun h => ?_))))
  refine yt (zf (zf (z18 5 2 Z Z Z (zp hN Z (qd Z (bE H fun r10 h11 H=>za (zm (w0k l6 [42] r10 h11) ⟨.inl Z,.inl Z,U⟩) (zg _ Z (fun h12 => ?_) (fun h12 => ?_))))))))
  ·refine tE h12 H fun H=>zb hN Z (qe Z (qe Z (qe Z (zi ?_))))
   cases H
   exact ⟨U,.inr ⟨Z,Z⟩,.inl Z,.inl Z,U⟩
  ·refine fE h12 H fun H=>zl (zb hN Z (qd Z (bE H fun r13 h14 H=>za (zm (w0z l6 r13 h14) ⟨.inl Z,U⟩) (qe Z (zf (zb hN Z (qd Z (za (qf wm Z) (za (wa Z Z) (zg _ Z (fun h15 => ?_) (fun h15 => ?_)))))))))))
   ·refine tE h15 H fun H=>zb hN Z (qe Z (qe Z (qe Z (zi ?_))))
    cases H
    exact ⟨U,.inr ⟨Z,Z⟩,.inl Z,.inl Z,U⟩
   ·refine fE h15 H fun H=>zl (zb hN Z (qd Z (qe Z (qe Z (qe Z (zi ?_))))))
    cases H
    exact ⟨U,.inl Z,.inl Z,.inl Z,U⟩
 ·rintro k7 l6 q8 h16 H hq8
  replace H:z1o k7 l6=some q8:=H
  unfold z1o at H
  refine zb hN Z (za (zy Z Z) (zf (zg _ Z (fun h => ?_) (fun h=>(lt_f h16 h).elim))))
  refine zl (zf (zx (zb hN Z (qd Z (bE H fun x17 h18 H=>zr (Qx vm Z Z Z h18) Z (zr (z5i tyS9 Z Z h18 Z) Z (qe Z (qe Z (zf (zb hN Z (qd Z (bE H fun r19 h20 H=>za (zm (y0k x17 r19 h20) ⟨.inl Z,U⟩) (za (yr Z) (zg _ Z (fun h21 => ?_) (fun h21 => ?_)))))))))))))))
  ·refine tE h21 H fun H=>zb hN Z (qe Z (qe Z (qe Z (zi ?_))))
   replace H:=retl H hq8
   cases H
   exact ⟨U,.inr ⟨Z,Z⟩,.inl Z,.inl Z,U⟩
  ·exact fE h21 H fun H=>zl (zp hN Z (za (zd (.row _ _) Z) (qd Z (qd Z (bE H fun r22 h23 H=>za (zm (Qb x17 r22 h23) ⟨.inl Z,U⟩) (zr (Qx vm Z Z Z h18) Z (zk (z82 r22 tyS9 Z Z Z Z h18 Z Z) Z (zp hN Z (za (qj Z Z (by omega)) (qd Z ⟨_,yx H,⟨congrArg (Slot.row 2) (by simp),congrArg (Slot.row 2) (by simp),Z,Z,U⟩,⟨Z,U⟩⟩))))))))))
theorem w1x (c1:yp) (r:(Int)) (H:z66 c1=some r):Fn Tryz.prog 72 [vagg (jp c1)] (zt [vint r]):=by
 refine ⟨by kernel_rfl,yf (us:=[vint r]) Tryz.func72 Z Z Z Z fun X hN => ?_⟩
 unfold z66 at H
 refine zb hN Z (zk (wy 1 Z) Z (qe Z (zf (zx (zb hN Z (za (zw y61 Z) (zr (ye tyS4 Z Z) Z (qe Z (zg _ Z (fun h2 => ?_) (fun h2 => ?_))))))))))
 ·refine tE h2 H fun H=>zb hN Z (qe Z (zi ?_))
  cases H
  exact ⟨U,.inl Z,U⟩
 ·refine fE h2 H fun H=>zb hN Z (za (zw y2b Z) (zr (ye tyS3 Z Z) Z (za (qp Z Z) (qe Z (zg _ Z (fun h3 => ?_) (fun h3 => ?_))))))
  ·refine tE h3 H fun H=>zb hN Z (za (zw y2b Z) (zr (ye tyS3 Z Z) Z (za (yk _ Z Z (.inr (.inr ⟨Z,Z⟩))) (qe Z (zi ?_)))))
   cases H
   exact ⟨U,.inl Z,U⟩
  ·refine fE h3 H fun H=>zb hN Z (za (zw y2c Z) (zr (ye tyS3 Z Z) Z (za (qp Z Z) (qe Z (zg _ Z (fun h4 => ?_) (fun h4 => ?_))))))
   ·refine tE h4 H fun H=>zb hN Z (za (zw y2c Z) (zr (ye tyS3 Z Z) Z (za (yk _ Z Z (.inr (.inr ⟨Z,Z⟩))) (qe Z (zi ?_)))))
    cases H
    exact ⟨U,.inl Z,U⟩
   ·refine fE h4 H fun H=>zl (zb hN Z (qe Z (zi ?_)))
    cases H
    exact ⟨U,.inl Z,U⟩
theorem w10 (a1:ym) (r:(Int×Int)) (H:z68 a1=some r):Fn Tryz.prog 29 [vagg (ku a1)] (zt [vint r.1,vint r.2]):=by
 refine ⟨by kernel_rfl,yf (us:=[vint r.1,vint r.2]) Tryz.func29 Z Z Z Z fun X hN => ?_⟩
 unfold z68 at H
 refine zb hN Z (zk (wy 1 Z) Z (qe Z (qe Z (zf (zb hN Z (zr (qh jz Z Z Z) Z (bE H fun r2 h3 H=>za (zm (y4l a1 r2 h3) ⟨.inl Z,U⟩) (qe Z (zb hN Z (qd Z (za (qp Z Z) (zg _ Z (fun h4 => ?_) (fun h4 => ?_)))))))))))))
 ·refine tE h4 H fun H=>zb hN Z (qd Z (qe Z (qe Z (zi ?_))))
  cases H
  exact ⟨U,.inl Z,.inl Z,U⟩
 ·refine fE h4 H fun H=>zl (zb hN Z (za (zw Qr Z) (zr (ye vk Z Z) Z (bE H fun r5 h6 H=>za (zm (w1u a1.Headers r5 h6) ⟨.inl Z,U⟩) (qd Z (za (yd Z Z) (za (yd Z Z) (zk (wd 2 z5b Z) Z (zk (qw Yh Z Z Z Z) Z (qe Z (zf (zb hN Z (qd Z (za (qp Z Z) (zg _ Z (fun h7 => ?_) (fun h7 => ?_))))))))))))))))
  ·refine tE h7 H fun H=>zb hN Z (qd Z (qe Z (qe Z (zi ?_))))
   cases H
   exact ⟨U,.inl Z,.inl Z,U⟩
  ·refine fE h7 H fun H=>zl (zf (zb hN Z (zr (qh jz Z Z Z) Z (bE H fun r8 h9 H=>za (zm (y0l a1 r8 h9) ⟨.inl Z,U⟩) (qd Z (za (yd Z Z) (za (yd Z Z) (za (yd Z Z) (qe Z (qe Z (qe Z (zb hN Z (qd Z (za (qp Z Z) (zg _ Z (fun h10 => ?_) (fun h10 => ?_))))))))))))))))
   ·refine tE h10 H fun H=>zb hN Z (qd Z (qe Z (qe Z (zi ?_))))
    cases H
    exact ⟨U,.inl Z,.inl Z,U⟩
   ·refine fE h10 H fun H=>zl (zb hN Z (zr (qh Yh Z Z Z) Z (bE H fun r11 h12 H=>za (zm (w1x r5.1 r11 h12) ⟨.inl Z,U⟩) (qe Z (qe Z (zi ?_))))))
    cases H
    exact ⟨U,.inl Z,.inl Z,U⟩
theorem x99 (s1:Bs) (r:(Bs)) (H:z6b s1=some r):Fn Tryz.prog 30 [vstr s1] (zt [vstr r]):=by
 refine ⟨by kernel_rfl,yf (us:=[vstr r]) Tryz.func30 Z Z Z Z fun X hN => ?_⟩
 unfold z6b at H
 refine zb hN Z (qe Z (zb hN Z (qe Z (yc (ι:=(List Int)) (fun i=>[(3,.row 1 i.length)]) (fun i=>[(1,.row 5 1 (List.map qc i))]) (fun i=>z8y i=some r) (fun i=>Z) ?_ ?_))))
 ·skip
  refine zx (jo 3 1 5 1 Z Z Z (xy (fun (s:Bs×(List Int))=>[(0,.dat (vstr s.1)),(3,.row 1 s.2.length)]) (fun (s:Bs×(List Int))=>[(1,.row 5 1 (List.map qc s.2))]) (s1,[]) H ⟨Z,Z,U⟩ ⟨Z,U⟩ (fun _=>Z) ?_))
  rintro ⟨s2,l3⟩ q4 H hq4
  replace H:y2g s2 l3=some q4:=H
  unfold y2g at H
  refine zf (zb hN Z (qd Z (za (yw tyU9 Z) (za (wa Z Z) (zg _ Z (fun h5 => ?_) (fun h5 => ?_))))))
  ·refine tE h5 H fun H=>zl (zx (zb hN Z (qd Z (za (yw tyU9 Z) (za (x57 Z Z) (qe Z (zb hN Z (qe Z (zf (zb hN Z (qd Z (zx (gE H fun h9 H=>z1r (fun (k7:Nat) (s:Int)=>[(0,.dat (vstr s2)),(3,.row 1 l3.length),(4,.dat (vint (min 3 (s2.length:Int)))),(5,.dat (vint s)),(14,.dat (vint (k7:Int)))]) (fun (k7:Nat) (s:Int)=>[(1,.row 5 1 (List.map qc l3))]) 0 H ⟨Z,Z,Z,Z,Z,U⟩ ⟨Z,U⟩ (fun _ _=>Z) ?_ ?_)))))))))))))
   ·rintro x6 H
    replace H:y2i s2 l3 x6=some q4:=H
    unfold y2i at H
    refine zb hN Z (za (zy Z Z) (zf (zg _ Z (fun h=>(lt_t h).elim) (fun h => ?_))))
    refine yt (zf (zb hN Z (qd Z (za (yk _ Z Z (.inl ⟨Z,Z⟩)) (qd Z (zx (gE H fun h13 H=>z1r (fun (k11:Nat) (s:(List Int))=>[(0,.dat (vstr s2)),(3,.row 1 s.length),(4,.dat (vint (min 3 (s2.length:Int)))),(5,.dat (vint x6)),(30,.dat (vint (wr ((min 3 (s2.length:Int))+1)))),(31,.dat (vint (k11:Int)))]) (fun (k11:Nat) (s:(List Int))=>[(1,.row 5 1 (List.map qc s))]) l3 H ⟨Z,Z,Z,Z,Z,Z,U⟩ ⟨Z,U⟩ (fun _ _=>Z) ?_ ?_)))))))
    ·rintro l10 H
     replace H:y2h s2 l10=some q4:=H
     unfold y2h at H
     refine zb hN Z (za (zy Z Z) (zf (zg _ Z (fun h=>(y38 h).elim) (fun h => ?_))))
     exact yt (zp hN Z (qd Z (qd Z (bE H fun l14 h15 H=>za (vz tyU9 Z Z Z h15) (qe Z ⟨_,yx H,⟨Z,Z,U⟩,⟨Z,U⟩⟩)))))
    ·rintro k11 l10 q12 h16 H hq12
     replace H:y2e x6 k11 l10=some q12:=H
     unfold y2e at H
     refine zb hN Z (za (zy Z Z) (zf (zg _ Z (fun h => ?_) (fun h=>(y39 h16 h).elim))))
     refine zl (zf (zx (zb hN Z (qd Z (qe Z (zp hN Z (za (zd (.row _ _) Z) (qd Z (qd Z (za (yk _ Z Z (.inr (.inr ⟨Z,Z⟩))) (za (yk _ Z Z (.inr (.inl ⟨Z,Z⟩))) (gE H fun h17 H=>za (yb (Wa Z Z h17) Z) (za (yb (y72 Z Z) Z) (bE H fun x18 h19 H=>za (jh tyU9 Z Z h19) (za (yb (u':=vlst (List.map qc [(x18.toNat:Int)])) (yo [[_]] z5c ⟨Z,.inl ⟨_,Z,Z,Z⟩,Z,U⟩ Z Z) Z) (gE H fun h20 H=>zk (je z5c (fun _=>Z) Z Z Z ⟨by simp,by first | (simp; done) | simpa using h20⟩ Z) Z ?_))))))))))))))))
     exact za (qr (.row _ _) Z) (zp hN Z (za (qj Z Z (by omega)) (qd Z ⟨_,yx H,⟨Z,Z,Z,Z,Z,Z,U⟩,⟨Z,U⟩⟩)))
   ·rintro k7 x6 q8 h21 H hq8
    replace H:y2f s2 k7 x6=some q8:=H
    unfold y2f at H
    refine zb hN Z (za (zy Z Z) (zf (zg _ Z (fun h => ?_) (fun h=>(lt_f h21 h).elim))))
    refine zl (yc (ι:=Int) (fun i=>[(0,.dat (vstr s2)),(3,.row 1 l3.length),(4,.dat (vint (min 3 (s2.length:Int)))),(5,.dat (vint i)),(14,.dat (vint (k7:Int)))]) (fun i=>[(1,.row 5 1 (List.map qc l3))]) (fun i=>z5h i=some q8) (fun i=>Z) ?_ ?_)
    ·skip
     refine zx (zb hN Z (qd Z (qe Z (zb hN Z (qd Z (za (yb (y2n Z Z (by decide)) Z) (qe Z (zb hN Z (qd Z (qd Z (za (zy Z Z) (zg _ Z (fun h22 => ?_) (fun h22 => ?_)))))))))))))
     ·exact tE h22 H fun H=>zp hN Z (qd Z (qd Z (qd Z (bE H fun x23 h24 H=>za (qv tyU9 Z Z h24) (za (ja tyU5 tyU3 Z) (za (yb (y7j Z Z) Z) (qe Z ⟨(or_ .i64 (shl_ .i64 x6 8) (IntKind.wrap .i64 (x23.toNat:Int))),H,⟨Z,Z,Z,Z,Z,U⟩,⟨Z,U⟩⟩)))))))
     ·exact fE h22 H fun H=>zl ⟨(shl_ .i64 x6 8),H,⟨Z,Z,Z,Z,Z,U⟩,⟨Z,U⟩⟩
    ·rintro x25 H
     replace H:z5h x25=some q8:=H
     unfold z5h at H
     exact zp hN Z (za (qj Z Z (by omega)) (qd Z ⟨_,yx H,⟨Z,Z,Z,Z,Z,U⟩,⟨Z,U⟩⟩))
  ·refine fE h5 H fun H=>yt ?_
   replace H:=outl H hq4
   exact ⟨l3,H,⟨Z,U⟩,⟨Z,U⟩⟩
 ·rintro out26 H
  replace H:z8y out26=some r:=H
  unfold z8y at H
  refine zf (z18 3 1 Z Z Z (zp hN Z (qd Z (za (y7x (C:=qc) z1x tyU5 tyU9 (fun _=>Z) Z) (qe Z (zi ?_))))))
  cases H
  exact ⟨U,.inl Z,U⟩
theorem y4o  (r:(Bool)) (H:z0e  = some r):Fn Tryz.prog 6 [] (zt [zh r]):=by
 refine ⟨by kernel_rfl,yf (us:=[zh r]) Tryz.func6 Z Z Z Z fun X hN => ?_⟩
 unfold z0e at H
 refine zb hN Z (qe Z (zb hN Z (bE H fun r1 h2 H=>za (zm (x0i [47,97,47,46,46,47,98] r1 h2) ⟨.inl Z,U⟩) (qd Z (za (yd Z Z) (za (yd Z Z) (qe Z (qe Z (zb hN Z (za (yb (u':=vagg (ki (vj.mk [97] 1))) (vc [(0,[vstr [97]]),(1,[vint 1])] z8i x4n Z ⟨Z,.inl ⟨_,Z,Z,Z⟩,Z,Z,.inl ⟨_,Z,Z,Z⟩,Z,U⟩) Z) (za (yb (u':=vlst (List.map ki [(vj.mk [97] 1)])) (yo [_] x4p ⟨Z,.inr Z,Z,U⟩ Z Z) Z) (bE H fun r3 h4 H=>za (zm (x97 ([(vj.mk [97] 1)]) 2 r3 h4) ⟨.inl Z,.inl Z,U⟩) (qd Z (za (yd Z Z) (za (yd Z Z) (qe Z (qe Z (zb hN Z (za (yb (u':=vagg (yh (zo.mk [99,97,99,104,101,45,99,111,110,116,114,111,108] [109,97,120,45,97,103,101,61,50]))) (vc [(0,[vstr [99,97,99,104,101,45,99,111,110,116,114,111,108]]),(1,[vstr [109,97,120,45,97,103,101,61,50]])] ut z10 Z ⟨Z,.inl ⟨_,Z,Z,Z⟩,Z,Z,.inl ⟨_,Z,Z,Z⟩,Z,U⟩) Z) (za (yb (u':=vlst (List.map yh [(zo.mk [99,97,99,104,101,45,99,111,110,116,114,111,108] [109,97,120,45,97,103,101,61,50])])) (yo [_] kv ⟨Z,.inr Z,Z,U⟩ Z Z) Z) (za (yb (u':=vagg (ku (ym.mk 200 ([(zo.mk [99,97,99,104,101,45,99,111,110,116,114,111,108] [109,97,120,45,97,103,101,61,50])]) []))) (vc [(0,[vint 200]),(1,[vlst (List.map yh ([(zo.mk [99,97,99,104,101,45,99,111,110,116,114,111,108] [109,97,120,45,97,103,101,61,50])]))])] z5a y16 Z ⟨Z,.inl ⟨_,Z,Z,Z⟩,Z,Z,.inl ⟨_,Z,Z,Z⟩,Z,U⟩) Z) ?_)))))))))))))))))))))
 refine bE H fun r5 h6 H=>za (zm (w10 (ym.mk 200 ([(zo.mk [99,97,99,104,101,45,99,111,110,116,114,111,108] [109,97,120,45,97,103,101,61,50])]) []) r5 h6) ⟨.inl Z,U⟩) (qd Z (za (yd Z Z) (za (yd Z Z) (qe Z (qe Z (yc (ι:=Bool) (fun i=>[(0,.dat (zh i))]) (fun i=>[]) (fun i=>xe i=some r) (fun i=>Z) ?_ ?_))))))
 ·skip
  refine zp hN Z (qd Z (za (yu Z Z) (qd Z (yg (j:=2) Z Z (fun h7 => ?_) (fun h7 => ?_) Z))))
  ·refine u1 h7 H fun h8 H=>ze Z Z h7 (zd (.dat _) Z) (ze Z Z h7 (va Z Z) (za (zz Z (bTT h8) Z) (qd Z (yg (j:=6) Z Z (fun h9 => ?_) (fun h9 => ?_) Z))))
   ·refine u1 h9 H fun h10 H=>ze Z Z h9 (zd (.dat _) Z) (ze Z Z h9 (yu Z Z) (za (zz Z (bTT h10) Z) (qd Z (yg (j:=10) Z Z (fun h11 => ?_) (fun h11 => ?_) Z))))
    ·refine u1 h11 H fun h12 H=>ze Z Z h11 (zd (.dat _) Z) (ze Z Z h11 (qf wm Z) (ze Z Z h11 (yu Z Z) (za (zz Z (bTT h12) Z) (qd Z (yg (j:=15) Z Z (fun h13 => ?_) (fun h13 => ?_) Z)))))
     ·refine u1 h13 H fun h14 H=>ze Z Z h13 (zd (.dat _) Z) (ze Z Z h13 (yu Z Z) (za (zz Z (bTT h14) Z) (qd Z (yg (j:=19) Z Z (fun h15 => ?_) (fun h15 => ?_) Z))))
      ·refine u1 h15 H fun h16 H=>ze Z Z h15 (zd (.dat _) Z) (ze Z Z h15 (yu Z Z) (za (zz Z (bTT h16) Z) (qd Z (yg (j:=23) Z Z (fun h17 => ?_) (fun h17 => ?_) Z))))
       ·exact u1 h17 H fun h18 H=>bE H fun r19 h20 H=>ze Z Z h17 (zm (x99 [97,98] r19 h20) ⟨.inl Z,U⟩) (ze Z Z h17 (va Z Z) (za (zz Z (bTT h18) Z) (qe Z ⟨decide (r19=[89,87,73]),H,⟨Z,U⟩,U⟩)))
       ·exact u2 h17 H fun h21 H=>zc Z Z h17 (zc Z Z h17 (za (zv Z (bFF h21) Z) (qe Z ⟨false,H,⟨Z,U⟩,U⟩)))
      ·exact u2 h15 H fun h22 H=>zc Z Z h15 (zc Z Z h15 (za (zv Z (bFF h22) Z) (qd Z (zc Z Z Z (zc Z Z Z (za (zv Z Z Z) (qe Z ⟨false,H,⟨Z,U⟩,U⟩)))))))
     ·exact u2 h13 H fun h23 H=>zc Z Z h13 (zc Z Z h13 (za (zv Z (bFF h23) Z) (qd Z (zc Z Z Z (zc Z Z Z (za (zv Z Z Z) (qd Z (zc Z Z Z (zc Z Z Z (za (zv Z Z Z) (qe Z ⟨false,H,⟨Z,U⟩,U⟩)))))))))))
    ·exact u2 h11 H fun h24 H=>zc Z Z h11 (zc Z Z h11 (zc Z Z h11 (za (zv Z (bFF h24) Z) (qd Z (zc Z Z Z (zc Z Z Z (za (zv Z Z Z) (qd Z (zc Z Z Z (zc Z Z Z (za (zv Z Z Z) (qd Z (zc Z Z Z (zc Z Z Z (za (zv Z Z Z) (qe Z ⟨false,H,⟨Z,U⟩,U⟩))))))))))))))))
   ·exact u2 h9 H fun h25 H=>zc Z Z h9 (zc Z Z h9 (za (zv Z (bFF h25) Z) (qd Z (zc Z Z Z (zc Z Z Z (zc Z Z Z (za (zv Z Z Z) (qd Z (zc Z Z Z (zc Z Z Z (za (zv Z Z Z) (qd Z (zc Z Z Z (zc Z Z Z (za (zv Z Z Z) (qd Z (zc Z Z Z (zc Z Z Z (za (zv Z Z Z) (qe Z ⟨false,H,⟨Z,U⟩,U⟩))))))))))))))))))))
  ·refine u2 h7 H fun h26 H=>zc Z Z h7 (zc Z Z h7 (za (zv Z (bFF h26) Z) (qd Z (zc Z Z Z (zc Z Z Z (za (zv Z Z Z) (qd Z (zc Z Z Z (zc Z Z Z (zc Z Z Z (za (zv Z Z Z) (qd Z (zc Z Z Z (zc Z Z Z (za (zv Z Z Z) (qd Z (zc Z Z Z (zc Z Z Z (za (zv Z Z Z) (qd Z (zc Z Z Z (zc Z Z Z ?_))))))))))))))))))))))
   exact za (zv Z Z Z) (qe Z ⟨false,H,⟨Z,U⟩,U⟩)
 ·rintro v27 H
  replace H:xe v27=some r:=H
  unfold xe at H
  refine zi ?_
  cases H
  exact ⟨U,.inl Z,U⟩
theorem y4s (s1:zn) (l2:(List Int)) (r:(Int×zn)) (H:z0i s1 l2=some r):Imp Tryz.prog 74 25 (qa s1) [vlst (List.map qk l2)] (zt [vint r.1]) (qa r.2):=by
 refine jm (us:=[vint r.1]) (cs':=(qa r.2)) (by kernel_rfl) Tryz.func74 Z Z Z Z fun X bl hN => ?_
 unfold z0i at H
 refine zb hN Z (qe Z (zb hN Z (qd Z (za (zd (.ptr _ _) Z) (qd Z (za (qf z8k Z) (bE H fun r3 h4 H=>zk (yi (xq s1 (l2.length:Int) r3 h4) Z ⟨.inl Z,U⟩ Z) Z (bE H fun x5 h6 H=>za (kw Yj (fun _=>Z) Z Z h6) (za (qz tyS3 Z (qg (wo h6).2) Z) (qe Z (zi ?_)))))))))))
 cases H
 exact ⟨U,⟨.inl Z,U⟩,Z⟩
theorem w1m (s1:zn) (r:(Bs×zn)) (H:z6y s1=some r):Imp Tryz.prog 128 25 (qa s1) [] (zt [vstr r.1]) (qa r.2):=by
 refine jm (us:=[vstr r.1]) (cs':=(qa r.2)) (by kernel_rfl) Tryz.func128 Z Z Z Z fun X bl hN => ?_
 unfold z6y at H
 refine zb hN Z (qe Z (zb hN Z (za (zd (.ptr _ _) Z) (za (zd (.ptr _ _) Z) (bE H fun r2 h3 H=>zk (yi (z7f s1 0 3 r2 h3) Z ⟨.inl Z,.inl Z,U⟩ Z) Z (za (yb (u':=vlst (List.map zq [[109,97,120,45,97,103,101,61,54,48],[109,97,120,45,97,103,101,61,54,48],[109,97,120,45,97,103,101,61,48],[109,97,120,45,97,103,101,61,49,48],[115,45,109,97,120,97,103,101,61,51,48],[110,111,45,99,97,99,104,101],[112,117,98,108,105,99],[109,117,115,116,45,114,101,118,97,108,105,100,97,116,101],[115,116,97,108,101,45,119,104,105,108,101,45,114,101,118,97,108,105,100,97,116,101,61,50,48],[115,116,97,108,101,45,105,102,45,101,114,114,111,114,61,49,48,48],[120,61,49],[121],[77,97,120,45,65,103,101,61,57,48]])) (yo [[_],[_],[_],[_],[_],[_],[_],[_],[_],[_],[_],[_],[_]] yq ⟨Z,.inl ⟨_,Z,Z,Z⟩,Z,Z,.inl ⟨_,Z,Z,Z⟩,Z,Z,.inl ⟨_,Z,Z,Z⟩,Z,Z,.inl ⟨_,Z,Z,Z⟩,Z,Z,.inl ⟨_,Z,Z,Z⟩,Z,Z,.inl ⟨_,Z,Z,Z⟩,Z,Z,.inl ⟨_,Z,Z,Z⟩,Z,Z,.inl ⟨_,Z,Z,Z⟩,Z,Z,.inl ⟨_,Z,Z,Z⟩,Z,Z,.inl ⟨_,Z,Z,Z⟩,Z,Z,.inl ⟨_,Z,Z,Z⟩,Z,Z,.inl ⟨_,Z,Z,Z⟩,Z,Z,.inl ⟨_,Z,Z,Z⟩,Z,U⟩ Z Z) Z) (bE H fun r4 h5 H=>zk (yi (z0r r2.2 r2.1 [44,32] ([[109,97,120,45,97,103,101,61,54,48],[109,97,120,45,97,103,101,61,54,48],[109,97,120,45,97,103,101,61,48],[109,97,120,45,97,103,101,61,49,48],[115,45,109,97,120,97,103,101,61,51,48],[110,111,45,99,97,99,104,101],[112,117,98,108,105,99],[109,117,115,116,45,114,101,118,97,108,105,100,97,116,101],[115,116,97,108,101,45,119,104,105,108,101,45,114,101,118,97,108,105,100,97,116,101,61,50,48],[115,116,97,108,101,45,105,102,45,101,114,114,111,114,61,49,48,48],[120,61,49],[121],[77,97,120,45,65,103,101,61,57,48]]) r4 h5) Z ⟨.inl Z,.inl Z,.inl Z,U⟩ Z) Z (qe Z (yc (ι:=Bs×(List Int)×Int) (fun i=>[(0,.ptr 0 0),(3,.dat (vstr i.1))]) (fun i=>[(0,.box (some bl) 25 [.dat (vlst (List.map qk i.2.1)),.dat (vint i.2.2)])]) (fun i=>z08 i.1 i.2.1 i.2.2=some r) (fun i=>Z) ?_ ?_)))))))))
 ·skip
  refine zb hN Z (za (zd (.ptr _ _) Z) (bE H fun r6 h7 H=>zk (yi (jc r4.2 10 r6 h7) Z ⟨.inl Z,U⟩ Z) Z (zg _ Z (fun h8 => ?_) (fun h8 => ?_))))
  ·exact tE h8 H fun H=>zp hN Z (za (zd (.ptr _ _) Z) (za (yb (u':=vlst (List.map zq [[110,111,45,115,116,111,114,101],[112,114,105,118,97,116,101],[109,97,120,45,97,103,101,61,54,48],[111,110,108,121,45,105,102,45,99,97,99,104,101,100],[105,109,109,117,116,97,98,108,101]])) (yo [[_],[_],[_],[_],[_]] yq ⟨Z,.inl ⟨_,Z,Z,Z⟩,Z,Z,.inl ⟨_,Z,Z,Z⟩,Z,Z,.inl ⟨_,Z,Z,Z⟩,Z,Z,.inl ⟨_,Z,Z,Z⟩,Z,Z,.inl ⟨_,Z,Z,Z⟩,Z,U⟩ Z Z) Z) (bE H fun r9 h10 H=>zk (yi (z0r r6.2 2 [44] ([[110,111,45,115,116,111,114,101],[112,114,105,118,97,116,101],[109,97,120,45,97,103,101,61,54,48],[111,110,108,121,45,105,102,45,99,97,99,104,101,100],[105,109,109,117,116,97,98,108,101]]) r9 h10) Z ⟨.inl Z,.inl Z,.inl Z,U⟩ Z) Z (qe Z ⟨(r9.1,r9.2.L,r9.2.at_),H,⟨Z,Z,U⟩,⟨Z,U⟩⟩))))
  ·exact fE h8 H fun H=>zl ⟨(r4.1,r6.2.L,r6.2.at_),H,⟨Z,Z,U⟩,⟨Z,U⟩⟩
 ·rintro ⟨t11,c12,c13⟩ H
  replace H:z08 t11 c12 c13=some r:=H
  unfold z08 at H
  refine yc (ι:=Bs×(List Int)×Int) (fun i=>[(3,.dat (vstr i.1))]) (fun i=>[(0,.box (some bl) 25 [.dat (vlst (List.map qk i.2.1)),.dat (vint i.2.2)])]) (fun i=>z4n i.1 i.2.1 i.2.2=some r) (fun i=>Z) ?_ ?_
  ·skip
   refine zb hN Z (za (zd (.ptr _ _) Z) (bE H fun r14 h15 H=>zk (yi (jc (zn.mk c12 c13) 20 r14 h15) Z ⟨.inl Z,U⟩ Z) Z (zg _ Z (fun h16 => ?_) (fun h16 => ?_))))
   ·exact tE h16 H fun H=>zp hN Z (za (zd (.ptr _ _) Z) (za (yb (u':=vlst (List.map zq [[109,97,120,45,97,103,101],[110,111,45,99,97,99,104,101,61,49],[109,97,120,45,97,103,101,61,45,49],[109,97,120,45,97,103,101,61,48,49],[109,97,120,45,97,103,101,61,49,48,48,48,48,48,48,48,49],[61,49],[97,32,98],[109,97,120,45,97,103,101,61,54,48,32,44,32,44,32,110,111,45,99,97,99,104,101]])) (yo [[_],[_],[_],[_],[_],[_],[_],[_]] yq ⟨Z,.inl ⟨_,Z,Z,Z⟩,Z,Z,.inl ⟨_,Z,Z,Z⟩,Z,Z,.inl ⟨_,Z,Z,Z⟩,Z,Z,.inl ⟨_,Z,Z,Z⟩,Z,Z,.inl ⟨_,Z,Z,Z⟩,Z,Z,.inl ⟨_,Z,Z,Z⟩,Z,Z,.inl ⟨_,Z,Z,Z⟩,Z,Z,.inl ⟨_,Z,Z,Z⟩,Z,U⟩ Z Z) Z) (bE H fun r17 h18 H=>zk (yi (vp r14.2 ([[109,97,120,45,97,103,101],[110,111,45,99,97,99,104,101,61,49],[109,97,120,45,97,103,101,61,45,49],[109,97,120,45,97,103,101,61,48,49],[109,97,120,45,97,103,101,61,49,48,48,48,48,48,48,48,49],[61,49],[97,32,98],[109,97,120,45,97,103,101,61,54,48,32,44,32,44,32,110,111,45,99,97,99,104,101]]) r17 h18) Z ⟨.inl Z,U⟩ Z) Z (qe Z ⟨(r17.1,r17.2.L,r17.2.at_),H,⟨Z,U⟩,⟨Z,U⟩⟩))))
   ·exact fE h16 H fun H=>zl ⟨(t11,r14.2.L,r14.2.at_),H,⟨Z,U⟩,⟨Z,U⟩⟩
  ·rintro ⟨t19,c20,c21⟩ H
   replace H:z4n t19 c20 c21=some r:=H
   unfold z4n at H
   refine zb hN Z (qd Z (qe Z (zi ?_)))
   cases H
   exact ⟨U,⟨.inl Z,U⟩,Z⟩
theorem z3m (name1:Bs) (value2:Bs) (c3:ym) (r:(ym)) (H:xp name1 value2 c3=some r):FnG Tryz.prog 127 [.dat (vstr name1),.dat (vstr value2),.ptr 0 0] [(0,.box (some 0) 35 [.dat (vint c3.Status),.row 1 c3.Headers.length,.dat (vstr c3.Body)]),(1,.row 49 2 (List.map yh c3.Headers))] (.dat (zt [])) [(0,.box (some 0) 35 [.dat (vint r.Status),.row 900 r.Headers.length,.dat (vstr r.Body)]),(900,.row 49 2 (List.map yh r.Headers))]:=by
 refine xg (by kernel_rfl) Tryz.func127 Z Z Z Z fun X A hN => ?_
 refine wu ?_
 unfold xp at H
 refine zp hN Z (za (zw Qr Z) (zr (ye vk Z Z) Z (qd Z (qd Z (za (yb (u':=vagg (yh (zo.mk name1 value2))) (vc [(0,[vstr name1]),(1,[vstr value2])] ut z10 Z ⟨Z,.inl ⟨_,Z,Z,Z⟩,Z,Z,.inl ⟨_,Z,Z,Z⟩,Z,U⟩) Z) (za (yb (u':=vlst (List.map yh [(zo.mk name1 value2)])) (yo [_] kv ⟨Z,.inr Z,Z,U⟩ Z Z) Z) (gE H fun h4 H=>zk (je kv (fun _=>Z) Z Z Z ⟨by simp,by first | (simp; done) | simpa using h4⟩ Z) Z ?_)))))))
 refine za (zw Qr Z) (Ym (Yk vk Z Z (by rw [List.length_map]) Z) Z Z ?_)
 cases H
 show Cv _ _ _ _
 exact wb (rn [(1,900)]) [] [(0,.box (some (A.bl 0)) 35 [.dat (vint c3.Status),.row 1 ((c3.Headers++[(zo.mk name1 value2)]).length),.dat (vstr c3.Body)]),(1,.row 49 2 (List.map yh (c3.Headers++[(zo.mk name1 value2)])))] U ⟨Z,Z,U⟩ Z Z ⟨U,[],U,⟨Z,Z,U⟩,Z,.inl ⟨[],U,Z⟩⟩
theorem y4t (s1:zn) (low2:Int) (high3:Int) (r:(Int×zn)) (H:z0j s1 low2 high3=some r):Imp Tryz.prog 75 25 (qa s1) [vint low2,vint high3] (zt [vint r.1]) (qa r.2):=by
 refine jm (us:=[vint r.1]) (cs':=(qa r.2)) (by kernel_rfl) Tryz.func75 Z Z Z Z fun X bl hN => ?_
 unfold z0j at H
 refine zb hN Z (qe Z (zf (zb hN Z (za (zd (.ptr _ _) Z) (bE H fun r4 h5 H=>zk (yi (jc s1 12 r4 h5) Z ⟨.inl Z,U⟩ Z) Z (zg _ Z (fun h6 => ?_) (fun h6 => ?_)))))))
 ·refine tE h6 H fun H=>zb hN Z (za (zd (.ptr _ _) Z) (qd Z (za (yk _ Z Z (.inr (.inl ⟨Z,Z⟩))) (qd Z (za (yk _ Z Z (.inl ⟨Z,Z⟩)) (qd Z (qd Z (za (yb (u':=vlst (List.map qk [wr (low2 - 1),wr (high3+1),low2,high3,(-1099511627776),1099511627776])) (yo [[_],[_],[_],[_],[_],[_]] z8p ⟨Z,.inl ⟨_,Z,Z,Z⟩,Z,Z,.inl ⟨_,Z,Z,Z⟩,Z,Z,.inl ⟨_,Z,Z,Z⟩,Z,Z,.inl ⟨_,Z,Z,Z⟩,Z,Z,.inl ⟨_,Z,Z,Z⟩,Z,Z,.inl ⟨_,Z,Z,Z⟩,Z,U⟩ Z Z) Z) (bE H fun r7 h8 H=>zk (yi (y4s r4.2 [wr (low2 - 1),wr (high3+1),low2,high3,(-1099511627776),1099511627776] r7 h8) Z ⟨.inl Z,U⟩ Z) Z (qe Z (zi ?_)))))))))))
  cases H
  exact ⟨U,⟨.inl Z,U⟩,Z⟩
 ·refine fE h6 H fun H=>zl (zb hN Z (za (zd (.ptr _ _) Z) (qd Z (qd Z (bE H fun r9 h10 H=>zk (yi (z7f r4.2 low2 high3 r9 h10) Z ⟨.inl Z,.inl Z,U⟩ Z) Z (qe Z (zi ?_)))))))
  cases H
  exact ⟨U,⟨.inl Z,U⟩,Z⟩
theorem w1o (s1:zn) (r:(ym×zn)) (H:z60 s1=some r):Imp Tryz.prog 73 25 (qa s1) [] (zt [vagg (ku r.1)]) (qa r.2):=by
 refine jm (us:=[vagg (ku r.1)]) (cs':=(qa r.2)) (by kernel_rfl) Tryz.func73 Z Z Z Z fun X bl hN => ?_
 unfold z60 at H
 refine zb hN Z (zk (wd 1 z5a Z) Z (zb hN Z (za (zd (.ptr _ _) Z) (za (yb (u':=vlst (List.map qk [200,200,200,200,404,304,500,204,201])) (yo [[_],[_],[_],[_],[_],[_],[_],[_],[_]] z8p ⟨Z,.inl ⟨_,Z,Z,Z⟩,Z,Z,.inl ⟨_,Z,Z,Z⟩,Z,Z,.inl ⟨_,Z,Z,Z⟩,Z,Z,.inl ⟨_,Z,Z,Z⟩,Z,Z,.inl ⟨_,Z,Z,Z⟩,Z,Z,.inl ⟨_,Z,Z,Z⟩,Z,Z,.inl ⟨_,Z,Z,Z⟩,Z,Z,.inl ⟨_,Z,Z,Z⟩,Z,Z,.inl ⟨_,Z,Z,Z⟩,Z,U⟩ Z Z) Z) (bE H fun r2 h3 H=>zk (yi (y4s s1 [200,200,200,200,404,304,500,204,201] r2 h3) Z ⟨.inl Z,U⟩ Z) Z (za (zd (.ptr _ _) Z) (bE H fun r4 h5 H=>za (zm (y4f [122] 50 r4 h5) ⟨.inl Z,.inl Z,U⟩) (za (yb (u':=vlst (List.map zq [[104,101,108,108,111],[120],[],r4])) (yo [[_],[_],[_],[_]] yq ⟨Z,.inl ⟨_,Z,Z,Z⟩,Z,Z,.inl ⟨_,Z,Z,Z⟩,Z,Z,.inl ⟨_,Z,Z,Z⟩,Z,Z,.inl ⟨_,Z,Z,Z⟩,Z,U⟩ Z Z) Z) (bE H fun r6 h7 H=>zk (yi (vp r2.2 ([[104,101,108,108,111],[120],[],r4]) r6 h7) Z ⟨.inl Z,U⟩ Z) Z (za (yb (u':=vagg [vint r2.1,vnil,vstr r6.1]) (vc [(0,[vint r2.1]),(2,[vstr r6.1])] z5a y16 Z ⟨Z,.inl ⟨_,Z,Z,Z⟩,Z,Z,.inl ⟨_,Z,Z,Z⟩,Z,U⟩) Z) (zk (wd 2 z5a Z) Z (zk (qw jz Z Z Z Z) Z (z79 2 1 3 49 2 Z Z Z Z (zb hN Z (zr (vt (s := .dr 2 (fun qb=>vfn 127 [vval (.pointer (some ⟨qb,0,none⟩))])) 2 (fun qb=>y7m (us:=[_]) ⟨Z,U⟩) Z Z) Z (za (qr (.dr _ _) Z) (yc (ι:=(List Int)×Int×(List zo)×Int×Bs) (fun i=>[(0,.ptr 0 0),(2,.ptr 1 0),(3,.ptr 2 0),(4,.dr 2 (fun qb=>vfn 127 [vval (.pointer (some ⟨qb,0,none⟩))]))]) (fun i=>[(0,.box (some bl) 25 [.dat (vlst (List.map qk i.1)),.dat (vint i.2.1)]),(1,.box none 35 [.dat (vint 0),.dat (vnil),.dat (vstr [])]),(2,.box none 35 [.dat (vint i.2.2.2.1),.row 5 i.2.2.1.length,.dat (vstr i.2.2.2.2)]),(5,.row 49 2 (List.map yh i.2.2.1))]) (fun i=>z1f i.1 i.2.1 i.2.2.1 i.2.2.2.1 i.2.2.2.2=some r) (fun i=>Z) ?_ ?_)))))))))))))))))
 ·refine wu (zb hN Z (za (zd (.ptr _ _) Z) (bE H fun r8 h9 H=>zk (yi (jc r6.2 6 r8 h9) Z ⟨.inl Z,U⟩ Z) Z (za (yr Z) (zg _ Z (fun h10 => ?_) (fun h10 => ?_))))))
  ·refine tE h10 H fun H=>zp hN Z (za (zd (.dr _ _) Z) (za (zd (.ptr _ _) Z) (za (yb (u':=vlst (List.map zq [[99,97,99,104,101,45,99,111,110,116,114,111,108],[67,97,99,104,101,45,67,111,110,116,114,111,108]])) (yo [[_],[_]] yq ⟨Z,.inl ⟨_,Z,Z,Z⟩,Z,Z,.inl ⟨_,Z,Z,Z⟩,Z,U⟩ Z Z) Z) (bE H fun r11 h12 H=>zk (yi (vp r8.2 ([[99,97,99,104,101,45,99,111,110,116,114,111,108],[67,97,99,104,101,45,67,111,110,116,114,111,108]]) r11 h12) Z ⟨.inl Z,U⟩ Z) Z (za (zd (.ptr _ _) Z) (bE H fun r13 h14 H=>zk (yi (w1m r11.2 r13 h14) Z U Z) Z (bE H fun r15 h16 H=>z2c (args:=[.dat (vstr r11.1),.dat (vstr r13.1)]) (i0:=0) (rn [(0,2),(1,3),(900,4)]) [(0,_,_,some _),(1,_,_,none)] [(900,_)] (z3m r11.1 r13.1 (ym.mk r2.1 ([]:List zo) r6.1) r15 h16) ⟨Z,Z,Z,U⟩ Z Z ⟨.inl (.inl Z),.inl (.inl Z),U⟩ ⟨⟨⟨Z,Z⟩,U⟩,⟨⟨Z,Z,Z⟩,U⟩,U⟩ Z (wz ?_))))))))
   show Cv _ _ _ _
   exact wb (rn [(4,5)]) [(0,.ptr 0 0),(2,.ptr 1 0),(3,.ptr 2 0),(4,.dr 2 (fun qb=>vfn 127 [vval (.pointer (some ⟨qb,0,none⟩))]))] [(0,.box (some bl) 25 [.dat (vlst (List.map qk r13.2.L)),.dat (vint r13.2.at_)]),(1,.box none 35 [.dat (vint 0),.dat (vnil),.dat (vstr [])]),(2,.box none 35 [.dat (vint r15.Status),.row 4 r15.Headers.length,.dat (vstr r15.Body)]),(4,.row 49 2 (List.map yh r15.Headers))] ⟨Z,Z,Z,Z,U⟩ ⟨Z,Z,Z,Z,U⟩ Z Z ⟨(r13.2.L,r13.2.at_,r15.Headers,r15.Status,r15.Body),H,⟨Z,Z,Z,Z,U⟩,⟨Z,Z,Z,Z,U⟩⟩
  ·refine fE h10 H fun H=>zl ?_
   show Cv _ _ _ _
   exact wb (rn [(3,5)]) [(0,.ptr 0 0),(2,.ptr 1 0),(3,.ptr 2 0),(4,.dr 2 (fun qb=>vfn 127 [vval (.pointer (some ⟨qb,0,none⟩))]))] [(0,.box (some bl) 25 [.dat (vlst (List.map qk r8.2.L)),.dat (vint r8.2.at_)]),(1,.box none 35 [.dat (vint 0),.dat (vnil),.dat (vstr [])]),(2,.box none 35 [.dat (vint r2.1),.row 3 0,.dat (vstr r6.1)]),(3,.row 49 2 (List.map yh ([]:List zo)))] ⟨Z,Z,Z,Z,U⟩ ⟨Z,Z,Z,Z,U⟩ Z Z ⟨(r8.2.L,r8.2.at_,([]:List zo),r2.1,r6.1),H,⟨Z,Z,Z,Z,U⟩,⟨Z,Z,Z,Z,U⟩⟩
 ·rintro ⟨c17,c18,l19,c20,c21⟩ H
  replace H:z1f c17 c18 l19 c20 c21=some r:=H
  unfold z1f at H
  refine yc (ι:=(List Int)×Int×(List zo)×Int×Bs) (fun i=>[(0,.ptr 0 0),(2,.ptr 1 0),(3,.ptr 2 0),(4,.dr 2 (fun qb=>vfn 127 [vval (.pointer (some ⟨qb,0,none⟩))]))]) (fun i=>[(0,.box (some bl) 25 [.dat (vlst (List.map qk i.1)),.dat (vint i.2.1)]),(1,.box none 35 [.dat (vint 0),.dat (vnil),.dat (vstr [])]),(2,.box none 35 [.dat (vint i.2.2.2.1),.row 7 i.2.2.1.length,.dat (vstr i.2.2.2.2)]),(7,.row 49 2 (List.map yh i.2.2.1))]) (fun i=>z1e i.1 i.2.1 i.2.2.1 i.2.2.2.1 i.2.2.2.2=some r) (fun i=>Z) ?_ ?_
  ·refine wu (zb hN Z (za (zd (.ptr _ _) Z) (bE H fun r22 h23 H=>zk (yi (jc (zn.mk c17 c18) 3 r22 h23) Z ⟨.inl Z,U⟩ Z) Z (zg _ Z (fun h24 => ?_) (fun h24 => ?_)))))
   ·refine tE h24 H fun H=>zp hN Z (za (zd (.dr _ _) Z) (za (zd (.ptr _ _) Z) (za (yb (u':=vlst (List.map zq [[97,99,99,101,112,116,45,108,97,110,103,117,97,103,101],[65,99,99,101,112,116,45,76,97,110,103,117,97,103,101,44,32,120,45,111,110,101],[42],[],[120,45,111,110,101,44,88,45,79,110,101]])) (yo [[_],[_],[_],[_],[_]] yq ⟨Z,.inl ⟨_,Z,Z,Z⟩,Z,Z,.inl ⟨_,Z,Z,Z⟩,Z,Z,.inl ⟨_,Z,Z,Z⟩,Z,Z,.inl ⟨_,Z,Z,Z⟩,Z,Z,.inl ⟨_,Z,Z,Z⟩,Z,U⟩ Z Z) Z) (bE H fun r25 h26 H=>zk (yi (vp r22.2 ([[97,99,99,101,112,116,45,108,97,110,103,117,97,103,101],[65,99,99,101,112,116,45,76,97,110,103,117,97,103,101,44,32,120,45,111,110,101],[42],[],[120,45,111,110,101,44,88,45,79,110,101]]) r25 h26) Z ⟨.inl Z,U⟩ Z) Z (bE H fun r27 h28 H=>z2c (args:=[.dat (vstr [118,97,114,121]),.dat (vstr r25.1)]) (i0:=0) (rn [(0,2),(1,5),(900,6)]) [(0,_,_,some _),(1,_,_,none)] [(900,_)] (z3m [118,97,114,121] r25.1 (ym.mk c20 l19 c21) r27 h28) ⟨Z,Z,Z,U⟩ Z Z ⟨.inl (.inl Z),.inl (.inl Z),U⟩ ⟨⟨⟨Z,Z⟩,U⟩,⟨⟨Z,Z,Z⟩,U⟩,U⟩ Z (wz ?_))))))
    show Cv _ _ _ _
    exact wb (rn [(6,7)]) [(0,.ptr 0 0),(2,.ptr 1 0),(3,.ptr 2 0),(4,.dr 2 (fun qb=>vfn 127 [vval (.pointer (some ⟨qb,0,none⟩))]))] [(0,.box (some bl) 25 [.dat (vlst (List.map qk r25.2.L)),.dat (vint r25.2.at_)]),(1,.box none 35 [.dat (vint 0),.dat (vnil),.dat (vstr [])]),(2,.box none 35 [.dat (vint r27.Status),.row 6 r27.Headers.length,.dat (vstr r27.Body)]),(6,.row 49 2 (List.map yh r27.Headers))] ⟨Z,Z,Z,Z,U⟩ ⟨Z,Z,Z,Z,U⟩ Z Z ⟨(r25.2.L,r25.2.at_,r27.Headers,r27.Status,r27.Body),H,⟨Z,Z,Z,Z,U⟩,⟨Z,Z,Z,Z,U⟩⟩
   ·refine fE h24 H fun H=>zl ?_
    show Cv _ _ _ _
    exact wb (rn [(5,7)]) [(0,.ptr 0 0),(2,.ptr 1 0),(3,.ptr 2 0),(4,.dr 2 (fun qb=>vfn 127 [vval (.pointer (some ⟨qb,0,none⟩))]))] [(0,.box (some bl) 25 [.dat (vlst (List.map qk r22.2.L)),.dat (vint r22.2.at_)]),(1,.box none 35 [.dat (vint 0),.dat (vnil),.dat (vstr [])]),(2,.box none 35 [.dat (vint c20),.row 5 l19.length,.dat (vstr c21)]),(5,.row 49 2 (List.map yh l19))] ⟨Z,Z,Z,Z,U⟩ ⟨Z,Z,Z,Z,U⟩ Z Z ⟨(r22.2.L,r22.2.at_,l19,c20,c21),H,⟨Z,Z,Z,Z,U⟩,⟨Z,Z,Z,Z,U⟩⟩
  ·rintro ⟨c29,c30,l31,c32,c33⟩ H
   replace H:z1e c29 c30 l31 c32 c33=some r:=H
   unfold z1e at H
   refine yc (ι:=(List Int)×Int×(List zo)×Int×Bs) (fun i=>[(0,.ptr 0 0),(2,.ptr 1 0),(3,.ptr 2 0),(4,.dr 2 (fun qb=>vfn 127 [vval (.pointer (some ⟨qb,0,none⟩))]))]) (fun i=>[(0,.box (some bl) 25 [.dat (vlst (List.map qk i.1)),.dat (vint i.2.1)]),(1,.box none 35 [.dat (vint 0),.dat (vnil),.dat (vstr [])]),(2,.box none 35 [.dat (vint i.2.2.2.1),.row 9 i.2.2.1.length,.dat (vstr i.2.2.2.2)]),(9,.row 49 2 (List.map yh i.2.2.1))]) (fun i=>z1d i.1 i.2.1 i.2.2.1 i.2.2.2.1 i.2.2.2.2=some r) (fun i=>Z) ?_ ?_
   ·refine wu (zb hN Z (za (zd (.ptr _ _) Z) (bE H fun r34 h35 H=>zk (yi (jc (zn.mk c29 c30) 2 r34 h35) Z ⟨.inl Z,U⟩ Z) Z (zg _ Z (fun h36 => ?_) (fun h36 => ?_)))))
    ·refine tE h36 H fun H=>zp hN Z (za (zd (.dr _ _) Z) (za (zd (.ptr _ _) Z) (za (yb (u':=vlst (List.map zq [[101,116,97,103],[69,84,97,103]])) (yo [[_],[_]] yq ⟨Z,.inl ⟨_,Z,Z,Z⟩,Z,Z,.inl ⟨_,Z,Z,Z⟩,Z,U⟩ Z Z) Z) (bE H fun r37 h38 H=>zk (yi (vp r34.2 ([[101,116,97,103],[69,84,97,103]]) r37 h38) Z ⟨.inl Z,U⟩ Z) Z (za (zd (.ptr _ _) Z) (za (yb (u':=vlst (List.map zq [[34,118,49,34],[87,47,34,118,50,34],[118,51]])) (yo [[_],[_],[_]] yq ⟨Z,.inl ⟨_,Z,Z,Z⟩,Z,Z,.inl ⟨_,Z,Z,Z⟩,Z,Z,.inl ⟨_,Z,Z,Z⟩,Z,U⟩ Z Z) Z) (bE H fun r39 h40 H=>zk (yi (vp r37.2 ([[34,118,49,34],[87,47,34,118,50,34],[118,51]]) r39 h40) Z ⟨.inl Z,U⟩ Z) Z (bE H fun r41 h42 H=>z2c (args:=[.dat (vstr r37.1),.dat (vstr r39.1)]) (i0:=0) (rn [(0,2),(1,7),(900,8)]) [(0,_,_,some _),(1,_,_,none)] [(900,_)] (z3m r37.1 r39.1 (ym.mk c32 l31 c33) r41 h42) ⟨Z,Z,Z,U⟩ Z Z ⟨.inl (.inl Z),.inl (.inl Z),U⟩ ⟨⟨⟨Z,Z⟩,U⟩,⟨⟨Z,Z,Z⟩,U⟩,U⟩ Z (wz ?_)))))))))
     show Cv _ _ _ _
     exact wb (rn [(8,9)]) [(0,.ptr 0 0),(2,.ptr 1 0),(3,.ptr 2 0),(4,.dr 2 (fun qb=>vfn 127 [vval (.pointer (some ⟨qb,0,none⟩))]))] [(0,.box (some bl) 25 [.dat (vlst (List.map qk r39.2.L)),.dat (vint r39.2.at_)]),(1,.box none 35 [.dat (vint 0),.dat (vnil),.dat (vstr [])]),(2,.box none 35 [.dat (vint r41.Status),.row 8 r41.Headers.length,.dat (vstr r41.Body)]),(8,.row 49 2 (List.map yh r41.Headers))] ⟨Z,Z,Z,Z,U⟩ ⟨Z,Z,Z,Z,U⟩ Z Z ⟨(r39.2.L,r39.2.at_,r41.Headers,r41.Status,r41.Body),H,⟨Z,Z,Z,Z,U⟩,⟨Z,Z,Z,Z,U⟩⟩
    ·refine fE h36 H fun H=>zl ?_
     show Cv _ _ _ _
     exact wb (rn [(7,9)]) [(0,.ptr 0 0),(2,.ptr 1 0),(3,.ptr 2 0),(4,.dr 2 (fun qb=>vfn 127 [vval (.pointer (some ⟨qb,0,none⟩))]))] [(0,.box (some bl) 25 [.dat (vlst (List.map qk r34.2.L)),.dat (vint r34.2.at_)]),(1,.box none 35 [.dat (vint 0),.dat (vnil),.dat (vstr [])]),(2,.box none 35 [.dat (vint c32),.row 7 l31.length,.dat (vstr c33)]),(7,.row 49 2 (List.map yh l31))] ⟨Z,Z,Z,Z,U⟩ ⟨Z,Z,Z,Z,U⟩ Z Z ⟨(r34.2.L,r34.2.at_,l31,c32,c33),H,⟨Z,Z,Z,Z,U⟩,⟨Z,Z,Z,Z,U⟩⟩
   ·rintro ⟨c43,c44,l45,c46,c47⟩ H
    replace H:z1d c43 c44 l45 c46 c47=some r:=H
    unfold z1d at H
    refine yc (ι:=(List Int)×Int×(List zo)×Int×Bs) (fun i=>[(0,.ptr 0 0),(2,.ptr 1 0),(3,.ptr 2 0),(4,.dr 2 (fun qb=>vfn 127 [vval (.pointer (some ⟨qb,0,none⟩))]))]) (fun i=>[(0,.box (some bl) 25 [.dat (vlst (List.map qk i.1)),.dat (vint i.2.1)]),(1,.box none 35 [.dat (vint 0),.dat (vnil),.dat (vstr [])]),(2,.box none 35 [.dat (vint i.2.2.2.1),.row 11 i.2.2.1.length,.dat (vstr i.2.2.2.2)]),(11,.row 49 2 (List.map yh i.2.2.1))]) (fun i=>z1c i.1 i.2.1 i.2.2.1 i.2.2.2.1 i.2.2.2.2=some r) (fun i=>Z) ?_ ?_
    ·refine wu (zb hN Z (za (zd (.ptr _ _) Z) (bE H fun r48 h49 H=>zk (yi (jc (zn.mk c43 c44) 4 r48 h49) Z ⟨.inl Z,U⟩ Z) Z (zg _ Z (fun h50 => ?_) (fun h50 => ?_)))))
     ·refine tE h50 H fun H=>zp hN Z (za (zd (.dr _ _) Z) (za (zd (.ptr _ _) Z) (za (yb (u':=vlst (List.map zq [[114,101,100],[114,101,100,44,32,98,108,117,101],[98,108,117,101,32,103,114,101,101,110],[114,101,100,32,114,101,100]])) (yo [[_],[_],[_],[_]] yq ⟨Z,.inl ⟨_,Z,Z,Z⟩,Z,Z,.inl ⟨_,Z,Z,Z⟩,Z,Z,.inl ⟨_,Z,Z,Z⟩,Z,Z,.inl ⟨_,Z,Z,Z⟩,Z,U⟩ Z Z) Z) (bE H fun r51 h52 H=>zk (yi (vp r48.2 ([[114,101,100],[114,101,100,44,32,98,108,117,101],[98,108,117,101,32,103,114,101,101,110],[114,101,100,32,114,101,100]]) r51 h52) Z ⟨.inl Z,U⟩ Z) Z (bE H fun r53 h54 H=>z2c (args:=[.dat (vstr [99,97,99,104,101,45,116,97,103]),.dat (vstr r51.1)]) (i0:=0) (rn [(0,2),(1,9),(900,10)]) [(0,_,_,some _),(1,_,_,none)] [(900,_)] (z3m [99,97,99,104,101,45,116,97,103] r51.1 (ym.mk c46 l45 c47) r53 h54) ⟨Z,Z,Z,U⟩ Z Z ⟨.inl (.inl Z),.inl (.inl Z),U⟩ ⟨⟨⟨Z,Z⟩,U⟩,⟨⟨Z,Z,Z⟩,U⟩,U⟩ Z (wz ?_))))))
      show Cv _ _ _ _
      exact wb (rn [(10,11)]) [(0,.ptr 0 0),(2,.ptr 1 0),(3,.ptr 2 0),(4,.dr 2 (fun qb=>vfn 127 [vval (.pointer (some ⟨qb,0,none⟩))]))] [(0,.box (some bl) 25 [.dat (vlst (List.map qk r51.2.L)),.dat (vint r51.2.at_)]),(1,.box none 35 [.dat (vint 0),.dat (vnil),.dat (vstr [])]),(2,.box none 35 [.dat (vint r53.Status),.row 10 r53.Headers.length,.dat (vstr r53.Body)]),(10,.row 49 2 (List.map yh r53.Headers))] ⟨Z,Z,Z,Z,U⟩ ⟨Z,Z,Z,Z,U⟩ Z Z ⟨(r51.2.L,r51.2.at_,r53.Headers,r53.Status,r53.Body),H,⟨Z,Z,Z,Z,U⟩,⟨Z,Z,Z,Z,U⟩⟩
     ·refine fE h50 H fun H=>zl ?_
      show Cv _ _ _ _
      exact wb (rn [(9,11)]) [(0,.ptr 0 0),(2,.ptr 1 0),(3,.ptr 2 0),(4,.dr 2 (fun qb=>vfn 127 [vval (.pointer (some ⟨qb,0,none⟩))]))] [(0,.box (some bl) 25 [.dat (vlst (List.map qk r48.2.L)),.dat (vint r48.2.at_)]),(1,.box none 35 [.dat (vint 0),.dat (vnil),.dat (vstr [])]),(2,.box none 35 [.dat (vint c46),.row 9 l45.length,.dat (vstr c47)]),(9,.row 49 2 (List.map yh l45))] ⟨Z,Z,Z,Z,U⟩ ⟨Z,Z,Z,Z,U⟩ Z Z ⟨(r48.2.L,r48.2.at_,l45,c46,c47),H,⟨Z,Z,Z,Z,U⟩,⟨Z,Z,Z,Z,U⟩⟩
    ·rintro ⟨c55,c56,l57,c58,c59⟩ H
     replace H:z1c c55 c56 l57 c58 c59=some r:=H
     unfold z1c at H
     refine yc (ι:=(List Int)×Int×(List zo)×Int×Bs) (fun i=>[(0,.ptr 0 0),(2,.ptr 1 0),(3,.ptr 2 0),(4,.dr 2 (fun qb=>vfn 127 [vval (.pointer (some ⟨qb,0,none⟩))]))]) (fun i=>[(0,.box (some bl) 25 [.dat (vlst (List.map qk i.1)),.dat (vint i.2.1)]),(1,.box none 35 [.dat (vint 0),.dat (vnil),.dat (vstr [])]),(2,.box none 35 [.dat (vint i.2.2.2.1),.row 13 i.2.2.1.length,.dat (vstr i.2.2.2.2)]),(13,.row 49 2 (List.map yh i.2.2.1))]) (fun i=>z1b i.1 i.2.1 i.2.2.1 i.2.2.2.1 i.2.2.2.2=some r) (fun i=>Z) ?_ ?_
     ·refine wu (zb hN Z (za (zd (.ptr _ _) Z) (bE H fun r60 h61 H=>zk (yi (jc (zn.mk c55 c56) 6 r60 h61) Z ⟨.inl Z,U⟩ Z) Z (zg _ Z (fun h62 => ?_) (fun h62 => ?_)))))
      ·refine tE h62 H fun H=>zp hN Z (za (zd (.dr _ _) Z) (za (zd (.ptr _ _) Z) (za (yb (u':=vlst (List.map zq [[53],[53,48],[120],[45,49],[49,48,48,48,48,48,48,48,49]])) (yo [[_],[_],[_],[_],[_]] yq ⟨Z,.inl ⟨_,Z,Z,Z⟩,Z,Z,.inl ⟨_,Z,Z,Z⟩,Z,Z,.inl ⟨_,Z,Z,Z⟩,Z,Z,.inl ⟨_,Z,Z,Z⟩,Z,Z,.inl ⟨_,Z,Z,Z⟩,Z,U⟩ Z Z) Z) (bE H fun r63 h64 H=>zk (yi (vp r60.2 ([[53],[53,48],[120],[45,49],[49,48,48,48,48,48,48,48,49]]) r63 h64) Z ⟨.inl Z,U⟩ Z) Z (bE H fun r65 h66 H=>z2c (args:=[.dat (vstr [97,103,101]),.dat (vstr r63.1)]) (i0:=0) (rn [(0,2),(1,11),(900,12)]) [(0,_,_,some _),(1,_,_,none)] [(900,_)] (z3m [97,103,101] r63.1 (ym.mk c58 l57 c59) r65 h66) ⟨Z,Z,Z,U⟩ Z Z ⟨.inl (.inl Z),.inl (.inl Z),U⟩ ⟨⟨⟨Z,Z⟩,U⟩,⟨⟨Z,Z,Z⟩,U⟩,U⟩ Z (wz ?_))))))
       show Cv _ _ _ _
       exact wb (rn [(12,13)]) [(0,.ptr 0 0),(2,.ptr 1 0),(3,.ptr 2 0),(4,.dr 2 (fun qb=>vfn 127 [vval (.pointer (some ⟨qb,0,none⟩))]))] [(0,.box (some bl) 25 [.dat (vlst (List.map qk r63.2.L)),.dat (vint r63.2.at_)]),(1,.box none 35 [.dat (vint 0),.dat (vnil),.dat (vstr [])]),(2,.box none 35 [.dat (vint r65.Status),.row 12 r65.Headers.length,.dat (vstr r65.Body)]),(12,.row 49 2 (List.map yh r65.Headers))] ⟨Z,Z,Z,Z,U⟩ ⟨Z,Z,Z,Z,U⟩ Z Z ⟨(r63.2.L,r63.2.at_,r65.Headers,r65.Status,r65.Body),H,⟨Z,Z,Z,Z,U⟩,⟨Z,Z,Z,Z,U⟩⟩
      ·refine fE h62 H fun H=>zl ?_
       show Cv _ _ _ _
       exact wb (rn [(11,13)]) [(0,.ptr 0 0),(2,.ptr 1 0),(3,.ptr 2 0),(4,.dr 2 (fun qb=>vfn 127 [vval (.pointer (some ⟨qb,0,none⟩))]))] [(0,.box (some bl) 25 [.dat (vlst (List.map qk r60.2.L)),.dat (vint r60.2.at_)]),(1,.box none 35 [.dat (vint 0),.dat (vnil),.dat (vstr [])]),(2,.box none 35 [.dat (vint c58),.row 11 l57.length,.dat (vstr c59)]),(11,.row 49 2 (List.map yh l57))] ⟨Z,Z,Z,Z,U⟩ ⟨Z,Z,Z,Z,U⟩ Z Z ⟨(r60.2.L,r60.2.at_,l57,c58,c59),H,⟨Z,Z,Z,Z,U⟩,⟨Z,Z,Z,Z,U⟩⟩
     ·rintro ⟨c67,c68,l69,c70,c71⟩ H
      replace H:z1b c67 c68 l69 c70 c71=some r:=H
      unfold z1b at H
      refine yc (ι:=(List Int)×Int×(List zo)×Int×Bs) (fun i=>[(0,.ptr 0 0),(2,.ptr 1 0),(3,.ptr 2 0)]) (fun i=>[(0,.box (some bl) 25 [.dat (vlst (List.map qk i.1)),.dat (vint i.2.1)]),(1,.box none 35 [.dat (vint 0),.dat (vnil),.dat (vstr [])]),(2,.box none 35 [.dat (vint i.2.2.2.1),.row 15 i.2.2.1.length,.dat (vstr i.2.2.2.2)]),(15,.row 49 2 (List.map yh i.2.2.1))]) (fun i=>z1a i.1 i.2.1 i.2.2.1 i.2.2.2.1 i.2.2.2.2=some r) (fun i=>Z) ?_ ?_
      ·refine wu (zb hN Z (za (zd (.ptr _ _) Z) (bE H fun r72 h73 H=>zk (yi (jc (zn.mk c67 c68) 30 r72 h73) Z ⟨.inl Z,U⟩ Z) Z (zg _ Z (fun h74 => ?_) (fun h74 => ?_)))))
       ·refine tE h74 H fun H=>zp hN Z (za (zd (.dr _ _) Z) (za (zd (.ptr _ _) Z) (za (yb (u':=vlst (List.map zq [[118,97,114,121],[99,97,99,104,101,45,116,97,103]])) (yo [[_],[_]] yq ⟨Z,.inl ⟨_,Z,Z,Z⟩,Z,Z,.inl ⟨_,Z,Z,Z⟩,Z,U⟩ Z Z) Z) (bE H fun r75 h76 H=>zk (yi (vp r72.2 ([[118,97,114,121],[99,97,99,104,101,45,116,97,103]]) r75 h76) Z ⟨.inl Z,U⟩ Z) Z (za (zd (.ptr _ _) Z) (za (zd (.ptr _ _) Z) (za (yb (u':=vlst (List.map zq [[104,49],[104,50],[104,51],[104,52],[104,53],[104,54],[104,55],[104,56],[104,57],[104,97],[104,98],[104,99]])) (yo [[_],[_],[_],[_],[_],[_],[_],[_],[_],[_],[_],[_]] yq ⟨Z,.inl ⟨_,Z,Z,Z⟩,Z,Z,.inl ⟨_,Z,Z,Z⟩,Z,Z,.inl ⟨_,Z,Z,Z⟩,Z,Z,.inl ⟨_,Z,Z,Z⟩,Z,Z,.inl ⟨_,Z,Z,Z⟩,Z,Z,.inl ⟨_,Z,Z,Z⟩,Z,Z,.inl ⟨_,Z,Z,Z⟩,Z,Z,.inl ⟨_,Z,Z,Z⟩,Z,Z,.inl ⟨_,Z,Z,Z⟩,Z,Z,.inl ⟨_,Z,Z,Z⟩,Z,Z,.inl ⟨_,Z,Z,Z⟩,Z,Z,.inl ⟨_,Z,Z,Z⟩,Z,U⟩ Z Z) Z) (bE H fun r77 h78 H=>zk (yi (z0r r75.2 12 [44] ([[104,49],[104,50],[104,51],[104,52],[104,53],[104,54],[104,55],[104,56],[104,57],[104,97],[104,98],[104,99]]) r77 h78) Z ⟨.inl Z,.inl Z,.inl Z,U⟩ Z) Z (za (yb (u':=vlst (List.map zq [[97,32,98],[65],[],r77.1])) (yo [[_],[_],[_],[_]] yq ⟨Z,.inl ⟨_,Z,Z,Z⟩,Z,Z,.inl ⟨_,Z,Z,Z⟩,Z,Z,.inl ⟨_,Z,Z,Z⟩,Z,Z,.inl ⟨_,Z,Z,Z⟩,Z,U⟩ Z Z) Z) (bE H fun r79 h80 H=>zk (yi (vp r77.2 ([[97,32,98],[65],[],r77.1]) r79 h80) Z ⟨.inl Z,U⟩ Z) Z (bE H fun r81 h82 H=>z2c (args:=[.dat (vstr r75.1),.dat (vstr r79.1)]) (i0:=0) (rn [(0,2),(1,13),(900,14)]) [(0,_,_,some _),(1,_,_,none)] [(900,_)] (z3m r75.1 r79.1 (ym.mk c70 l69 c71) r81 h82) ⟨Z,Z,Z,U⟩ Z Z ⟨.inl (.inl Z),.inl (.inl Z),U⟩ ⟨⟨⟨Z,Z⟩,U⟩,⟨⟨Z,Z,Z⟩,U⟩,U⟩ Z (wz ?_))))))))))))
        show Cv _ _ _ _
        exact wb (rn [(14,15)]) [(0,.ptr 0 0),(2,.ptr 1 0),(3,.ptr 2 0)] [(0,.box (some bl) 25 [.dat (vlst (List.map qk r79.2.L)),.dat (vint r79.2.at_)]),(1,.box none 35 [.dat (vint 0),.dat (vnil),.dat (vstr [])]),(2,.box none 35 [.dat (vint r81.Status),.row 14 r81.Headers.length,.dat (vstr r81.Body)]),(14,.row 49 2 (List.map yh r81.Headers))] ⟨Z,Z,Z,U⟩ ⟨Z,Z,Z,Z,U⟩ Z Z ⟨(r79.2.L,r79.2.at_,r81.Headers,r81.Status,r81.Body),H,⟨Z,Z,Z,U⟩,⟨Z,Z,Z,Z,U⟩⟩
       ·refine fE h74 H fun H=>zl ?_
        show Cv _ _ _ _
        exact wb (rn [(13,15)]) [(0,.ptr 0 0),(2,.ptr 1 0),(3,.ptr 2 0)] [(0,.box (some bl) 25 [.dat (vlst (List.map qk r72.2.L)),.dat (vint r72.2.at_)]),(1,.box none 35 [.dat (vint 0),.dat (vnil),.dat (vstr [])]),(2,.box none 35 [.dat (vint c70),.row 13 l69.length,.dat (vstr c71)]),(13,.row 49 2 (List.map yh l69))] ⟨Z,Z,Z,U⟩ ⟨Z,Z,Z,Z,U⟩ Z Z ⟨(r72.2.L,r72.2.at_,l69,c70,c71),H,⟨Z,Z,Z,U⟩,⟨Z,Z,Z,Z,U⟩⟩
      ·rintro ⟨c83,c84,l85,c86,c87⟩ H
       replace H:z1a c83 c84 l85 c86 c87=some r:=H
       unfold z1a at H
       refine yc (ι:=(List Int)×Int×Int) (fun i=>[(2,.ptr 1 0),(3,.ptr 2 0)]) (fun i=>[(0,.box (some bl) 25 [.dat (vlst (List.map qk i.1)),.dat (vint i.2.1)]),(1,.box none 35 [.dat (vint 0),.dat (vnil),.dat (vstr [])]),(2,.box none 35 [.dat (vint i.2.2),.row 15 l85.length,.dat (vstr c87)]),(15,.row 49 2 (List.map yh l85))]) (fun i=>z09 l85 c87 i.1 i.2.1 i.2.2=some r) (fun i=>Z) ?_ ?_
       ·refine wu (zb hN Z (za (zd (.ptr _ _) Z) (bE H fun r88 h89 H=>zk (yi (jc (zn.mk c83 c84) 40 r88 h89) Z ⟨.inl Z,U⟩ Z) Z (zg _ Z (fun h90 => ?_) (fun h90 => ?_)))))
        ·refine tE h90 H fun H=>zp hN Z (za (zd (.ptr _ _) Z) (bE H fun r91 h92 H=>zk (yi (y4t r88.2 100 599 r91 h92) Z ⟨.inl Z,.inl Z,U⟩ Z) Z (za (zw y19 Z) (zk (jt tyS3 Z Z Z Z) Z (wz ?_)))))
         show Cv _ _ _ _
         exact vh ⟨(r91.2.L,r91.2.at_,r91.1),H,⟨Z,Z,U⟩,⟨Z,Z,Z,Z,U⟩⟩
        ·refine fE h90 H fun H=>zl ?_
         show Cv _ _ _ _
         exact vh ⟨(r88.2.L,r88.2.at_,c86),H,⟨Z,Z,U⟩,⟨Z,Z,Z,Z,U⟩⟩
       ·rintro ⟨c93,c94,c95⟩ H
        replace H:z09 l85 c87 c93 c94 c95=some r:=H
        unfold z09 at H
        refine zf (y5y 2 1 15 rfl rfl rfl (by first | rw [List.length_map] | rfl) ?_)
        refine zp hN Z (zr (qh jz Z Z Z) Z (zk (qw jz Z Z Z Z) Z (zi ?_)))
        cases H
        exact ⟨U,⟨.inl ⟨_,_,_,ku (ym.mk c95 l85 c87),Z,Z,Z,Z,jz⟩,U⟩,Z⟩
theorem w1k (s1:zn) (r:(Bs×zn)) (H:z6w s1=some r):Imp Tryz.prog 76 25 (qa s1) [] (zt [vstr r.1]) (qa r.2):=by
 refine jm (us:=[vstr r.1]) (cs':=(qa r.2)) (by kernel_rfl) Tryz.func76 Z Z Z Z fun X bl hN => ?_
 unfold z6w at H
 refine zb hN Z (qe Z (zb hN Z (za (zd (.ptr _ _) Z) (bE H fun r2 h3 H=>za (zm (y4f [97] 64 r2 h3) ⟨.inl Z,.inl Z,U⟩) (za (yb (u':=vlst (List.map zq [[97,46,98],[97,46,98],[65,46,66],[115,104,111,112,46,101,120,97,109,112,108,101],[97,46,98,58,56,48],[97,46,98,58,52,52,51],[97,46,98,58,56,48,56,48],[120,45,49,46,121],[49,46,50,46,51,46,52],[],[97,46,46,98],[45,97,46,98],[97,46,98,58,48],[97,46,98,58,48,56],[97,46,98,58,54,53,53,51,54],[97,95,98],[97,46,98,58],[97,32,98],r2])) (yo [[_],[_],[_],[_],[_],[_],[_],[_],[_],[_],[_],[_],[_],[_],[_],[_],[_],[_],[_]] yq ⟨Z,.inl ⟨_,Z,Z,Z⟩,Z,Z,.inl ⟨_,Z,Z,Z⟩,Z,Z,.inl ⟨_,Z,Z,Z⟩,Z,Z,.inl ⟨_,Z,Z,Z⟩,Z,Z,.inl ⟨_,Z,Z,Z⟩,Z,Z,.inl ⟨_,Z,Z,Z⟩,Z,Z,.inl ⟨_,Z,Z,Z⟩,Z,Z,.inl ⟨_,Z,Z,Z⟩,Z,Z,.inl ⟨_,Z,Z,Z⟩,Z,Z,.inl ⟨_,Z,Z,Z⟩,Z,Z,.inl ⟨_,Z,Z,Z⟩,Z,Z,.inl ⟨_,Z,Z,Z⟩,Z,Z,.inl ⟨_,Z,Z,Z⟩,Z,Z,.inl ⟨_,Z,Z,Z⟩,Z,Z,.inl ⟨_,Z,Z,Z⟩,Z,Z,.inl ⟨_,Z,Z,Z⟩,Z,Z,.inl ⟨_,Z,Z,Z⟩,Z,Z,.inl ⟨_,Z,Z,Z⟩,Z,Z,.inl ⟨_,Z,Z,Z⟩,Z,U⟩ Z Z) Z) (bE H fun r4 h5 H=>zk (yi (vp s1 ([[97,46,98],[97,46,98],[65,46,66],[115,104,111,112,46,101,120,97,109,112,108,101],[97,46,98,58,56,48],[97,46,98,58,52,52,51],[97,46,98,58,56,48,56,48],[120,45,49,46,121],[49,46,50,46,51,46,52],[],[97,46,46,98],[45,97,46,98],[97,46,98,58,48],[97,46,98,58,48,56],[97,46,98,58,54,53,53,51,54],[97,95,98],[97,46,98,58],[97,32,98],r2]) r4 h5) Z ⟨.inl Z,U⟩ Z) Z (qe Z (zi ?_))))))))
 cases H
 exact ⟨U,⟨.inl Z,U⟩,Z⟩
theorem w1l (s1:zn) (r:(qo×zn)) (H:z6x s1=some r):Imp Tryz.prog 31 25 (qa s1) [] (zt [vagg (uc r.1)]) (qa r.2):=by
 refine jm (us:=[vagg (uc r.1)]) (cs':=(qa r.2)) (by kernel_rfl) Tryz.func31 Z Z Z Z fun X bl hN => ?_
 unfold z6x at H
 refine zb hN Z (zk (wd 1 Qo Z) Z (zb hN Z (za (zd (.ptr _ _) Z) (bE H fun r2 h3 H=>zk (yi (x0q s1 0 r2 h3) Z ⟨.inl Z,U⟩ Z) Z (za (zd (.ptr _ _) Z) (bE H fun r4 h5 H=>zk (yi (w1o r2.2 r4 h5) Z U Z) Z (za (zd (.ptr _ _) Z) (za (yb (u':=vlst (List.map qk [0,1000,20000])) (yo [[_],[_],[_]] z8p ⟨Z,.inl ⟨_,Z,Z,Z⟩,Z,Z,.inl ⟨_,Z,Z,Z⟩,Z,Z,.inl ⟨_,Z,Z,Z⟩,Z,U⟩ Z Z) Z) (bE H fun r6 h7 H=>zk (yi (y4s r4.2 [0,1000,20000] r6 h7) Z ⟨.inl Z,U⟩ Z) Z (za (Zd (u':=vagg (uc (qo.mk r2.1 r4.1 r6.1 [] 0))) (Ye (by exact ⟨yn,yn,yn,yn,yn,yn,yn,yn,yn,yn,yn,yn,ur,yn,U⟩)) (vc [(0,we r2.1),(8,ku r4.1),(11,[vint r6.1])] Qo y6u Z ⟨Z,.inr Z,Z,Z,.inr Z,Z,Z,.inl ⟨_,Z,Z,Z⟩,Z,U⟩)) ?_))))))))))
 refine zk (wd 2 Qo Z) Z (zk (qw jn Z Z Z Z) Z (zb hN Z (za (zw z8t Z) (zr (ye tyS3 Z Z) Z (za (zw z8s Z) (zk (jt tyS3 Z Z Z Z) Z (zb hN Z (za (yb (u':=vlst (List.map zq [[114,101,100]])) (yo [[_]] yq ⟨Z,.inl ⟨_,Z,Z,Z⟩,Z,U⟩ Z Z) Z) (za (yb (u':=vlst (List.map zq [[98,108,117,101],[114,101,100]])) (yo [[_],[_]] yq ⟨Z,.inl ⟨_,Z,Z,Z⟩,Z,Z,.inl ⟨_,Z,Z,Z⟩,Z,U⟩ Z Z) Z) (za (Zd (u':=vlst (List.map x3h ([[],[[114,101,100]],[[98,108,117,101],[114,101,100]]]:(List (List Bs))))) (x3s (by exact ⟨⟨ur,U⟩,⟨yn,U⟩,⟨yn,U⟩,U⟩)) (yo [[vnil],[_],[_]] y6x ⟨Z,.inl ⟨_,Z,Z,Z⟩,Z,Z,.inl ⟨_,Z,Z,Z⟩,Z,Z,.inl ⟨_,Z,Z,Z⟩,Z,U⟩ Z Z)) ?_))))))))))
 refine za (zd (.ptr _ _) Z) (bE H fun r8 h9 H=>zk (yi (xq r6.2 3 r8 h9) Z ⟨.inl Z,U⟩ Z) Z (bE H fun x10 h11 H=>za (kw y63 (fun _=>Z) Z Z h11) (za (qz Zc Z (qg (wo h11).2) Z) (za (zw Qq Z) (zk (jt Zc Z Z Z Z) Z (yc (ι:=(List Int)×Int×Bs×Int×(List Bs)×Int) (fun i=>[(2,.ptr 1 0),(3,.ptr 2 0)]) (fun i=>[(0,.box (some bl) 25 [.dat (vlst (List.map qk i.1)),.dat (vint i.2.1)]),(1,.box none 38 [.dat (vint 0),.dat (vstr []),.dat (vstr []),.dat (vstr []),.dat (vstr []),.dat (vstr []),.dat (vnil),.dat (vstr []),.dat (vint 0),.dat (vnil),.dat (vstr []),.dat (vint 0),.dat (vnil),.dat (vint 0)]),(2,.box none 38 [.dat (vint r2.1.At),.dat (vstr r2.1.Method),.dat (vstr i.2.2.1),.dat (vstr r2.1.Path),.dat (vstr r2.1.Query),.dat (vstr r2.1.From),.dat (vlst (List.map yh r2.1.Headers)),.dat (vstr r2.1.Body),.dat (vint r4.1.Status),.dat (vlst (List.map yh r4.1.Headers)),.dat (vstr r4.1.Body),.dat (vint i.2.2.2.1),.dat (vlst (List.map zq i.2.2.2.2.1)),.dat (vint i.2.2.2.2.2)])]) (fun i=>Yc r2 r4 i.1 i.2.1 i.2.2.1 i.2.2.2.1 i.2.2.2.2.1 i.2.2.2.2.2=some r) (fun i=>Z) ?_ ?_))))))
 ·skip
  refine zb hN Z (za (zd (.ptr _ _) Z) (bE H fun r12 h13 H=>zk (yi (jc r8.2 20 r12 h13) Z ⟨.inl Z,U⟩ Z) Z (zg _ Z (fun h14 => ?_) (fun h14 => ?_))))
  ·refine tE h14 H fun H=>zb hN Z (za (zd (.ptr _ _) Z) (bE H fun r15 h16 H=>zk (yi (xq r12.2 4 r15 h16) Z ⟨.inl Z,U⟩ Z) Z (zx (zb hN Z (za (yu Z Z) (qe Z (zg _ Z (fun h17 => ?_) (fun h17 => ?_))))))))
   ·exact tE h17 H fun H=>zp hN Z (za (zd (.ptr _ _) Z) (bE H fun r18 h19 H=>zk (yi (y4t r15.2 0 100 r18 h19) Z ⟨.inl Z,.inl Z,U⟩ Z) Z (za (zw z8t Z) (zk (jt tyS3 Z Z Z Z) Z ⟨(r18.2.L,r18.2.at_,r2.1.Host,r18.1,x10,r6.1),H,⟨Z,Z,U⟩,⟨Z,Z,Z,U⟩⟩))))
   ·refine fE h17 H fun H=>zb hN Z (za (yu Z Z) (qe Z (zg _ Z (fun h20 => ?_) (fun h20 => ?_))))
    ·exact tE h20 H fun H=>zp hN Z (za (zd (.ptr _ _) Z) (bE H fun r21 h22 H=>zk (yi (y4t r15.2 0 100 r21 h22) Z ⟨.inl Z,.inl Z,U⟩ Z) Z (za (zw z8s Z) (zk (jt tyS3 Z Z Z Z) Z ⟨(r21.2.L,r21.2.at_,r2.1.Host,r6.1,x10,r21.1),H,⟨Z,Z,U⟩,⟨Z,Z,Z,U⟩⟩))))
    ·refine fE h20 H fun H=>zb hN Z (za (yu Z Z) (qe Z (zg _ Z (fun h23 => ?_) (fun h23 => ?_))))
     ·exact tE h23 H fun H=>zp hN Z (za (yb (u':=vlst (List.map zq [[114,101,100],[98,108,117,101]])) (yo [[_],[_]] yq ⟨Z,.inl ⟨_,Z,Z,Z⟩,Z,Z,.inl ⟨_,Z,Z,Z⟩,Z,U⟩ Z Z) Z) (za (yb (u':=vlst (List.map zq [[]])) (yo [[_]] yq ⟨Z,.inl ⟨_,Z,Z,Z⟩,Z,U⟩ Z Z) Z) (za (yb (u':=vlst (List.map zq [[65]])) (yo [[_]] yq ⟨Z,.inl ⟨_,Z,Z,Z⟩,Z,U⟩ Z Z) Z) (za (yb (u':=vlst (List.map x3h [[[114,101,100],[98,108,117,101]],[[]],[[65]]])) (yo [[_],[_],[_]] y6x ⟨Z,.inl ⟨_,Z,Z,Z⟩,Z,Z,.inl ⟨_,Z,Z,Z⟩,Z,Z,.inl ⟨_,Z,Z,Z⟩,Z,U⟩ Z Z) Z) (za (zd (.ptr _ _) Z) (bE H fun r24 h25 H=>zk (yi (xq r15.2 3 r24 h25) Z ⟨.inl Z,U⟩ Z) Z (bE H fun x26 h27 H=>za (kw y63 (fun _=>Z) Z Z h27) (za (qz Zc Z (qg (wo h27).2) Z) (za (zw Qq Z) (zk (jt Zc Z Z Z Z) Z ⟨(r24.2.L,r24.2.at_,r2.1.Host,r6.1,x26,r6.1),H,⟨Z,Z,U⟩,⟨Z,Z,Z,U⟩⟩))))))))))
     ·exact fE h23 H fun H=>zp hN Z (za (zd (.ptr _ _) Z) (bE H fun r28 h29 H=>zk (yi (w1k r15.2 r28 h29) Z U Z) Z (za (zw z14 Z) (za (zw Qu Z) (zk (jt tyS9 Z Z Z Z) Z ⟨(r28.2.L,r28.2.at_,r28.1,r6.1,x10,r6.1),H,⟨Z,Z,U⟩,⟨Z,Z,Z,U⟩⟩)))))
  ·exact fE h14 H fun H=>zl ⟨(r12.2.L,r12.2.at_,r2.1.Host,r6.1,x10,r6.1),H,⟨Z,Z,U⟩,⟨Z,Z,Z,U⟩⟩
 ·rintro ⟨c30,c31,c32,c33,c34,c35⟩ H
  replace H:Yc r2 r4 c30 c31 c32 c33 c34 c35=some r:=H
  unfold Yc at H
  refine zb hN Z (zr (qh jn Z Z Z) Z (zk (qw jn Z Z Z Z) Z (zi ?_)))
  cases H
  exact ⟨U,⟨.inl ⟨_,_,_,uc (qo.mk (zu.mk r2.1.At r2.1.Method c32 r2.1.Path r2.1.Query r2.1.From r2.1.Headers r2.1.Body) r4.1 c33 c34 c35),Z,Z,Z,Z,jn⟩,U⟩,Z⟩
end Go.Proofs.YtbndlmnjeofkdaaGreatDoor
