/- Walks along the models. Printed by a program. -/
import Derived.Test.YtkldmhhbbceaoaaGreatDoorZqw5
namespace Go.Proofs.YtkldmhhbbceaoaaGreatDoor
open Go.RowKit
set_option linter.unusedVariables false
set_option maxRecDepth 100000
set_option maxHeartbeats 2000000
theorem z3q (l1:(List zm)) (name2:Bs) (r:((List Bs))) (H:jo l1 name2=some r):Fn Tryz.prog 56 [vlst (List.map yg l1),vstr name2] (zu [vlst (List.map zo r)]):=by
 refine ⟨by kernel_rfl,yj (us:=[vlst (List.map zo r)]) Tryz.func56 Z Z Z Z fun X hN => ?_⟩
 unfold jo at H
 refine zb hN Z (qe Z (zb hN Z (qe Z (zi (zb hN Z (qd Z (za (qg Wd Z) (qd Z (ye (km 5 1 9 1 Z Z Z (gE H fun h6 H=>qu (fun (k4:Nat) (s:(List Bs))=>[(1,.dat (vstr name2)),(5,.row 1 s.length),(8,.dat (vlst (List.map yg l1))),(9,.dat (vint (l1.length:Int))),(10,.dat (vint (k4:Int)))]) (fun (k4:Nat) (s:(List Bs))=>[(1,.row 9 1 (List.map zo s))]) [] H ⟨Z,Z,Z,Z,Z,U⟩ ⟨Z,U⟩ (fun _ _=>Z) ?_ ?_)))))))))))
 ·rintro l3 H
  replace H:z68 l3=some r:=H
  unfold z68 at H
  refine zb hN Z (za (yb Z Z) (zi (zg _ Z (fun h=>(lt_t h).elim) (fun h => ?_))))
  refine yx (zb hN Z (za (zd (.row _ _) Z) (za (qc (.row _ _) Z) (zk ?_))))
  cases H
  exact ⟨U,uk Z Z,U⟩
 ·rintro k4 x7 l3 q5 h8 h9 H hq5
  replace H:Yv name2 k4 x7 l3=some q5:=H
  unfold Yv at H
  refine zb hN Z (za (yb Z Z) (zi (zg _ Z (fun h => ?_) (fun h=>(lt_f h8 h).elim))))
  refine zn (yd (ι:=(List Bs)) (fun i=>[(1,.dat (vstr name2)),(5,.row 1 i.length),(8,.dat (vlst (List.map yg l1))),(9,.dat (vint (l1.length:Int))),(10,.dat (vint (k4:Int)))]) (fun i=>[(1,.row 9 1 (List.map zo i))]) (fun i=>z1f i=some q5) (fun i=>Z) ?_ ?_)
  ·skip
   refine ye (zb hN Z (za (wi z42 (fun _=>Z) Z Z h9) (za (z5c uj Z (ql h9) Z) (zj (wc 2 jm Z) Z (zj (qq uj Z Z Z Z) Z (zb hN Z (za (zz z4w Z) (zt (yh tyS9 Z Z) Z (qd Z (bE H fun r10 h11 H=>za (zl (y90 x7.Name name2 r10 h11) ⟨.inl Z,.inl Z,U⟩) (zg _ Z (fun h12 => ?_) (fun h12 => ?_))))))))))))
   ·refine tE h12 H fun H=>zp hN Z (za (zd (.row _ _) Z) (za (zz z4v Z) (zt (yh tyS9 Z Z) Z (za (zw (u':=vlst (List.map zo [x7.Value])) (yk [[_]] yn ⟨Z,.inl ⟨_,Z,Z,Z⟩,Z,U⟩ Z Z) Z) (gE H fun h13 H=>zj (vq yn (fun _=>Z) Z Z Z ⟨by simp,by first | (simp; done) | simpa using h13⟩ Z) Z ?_)))))
    exact za (qc (.row _ _) Z) ⟨(l3++[x7.Value]),H,⟨Z,Z,Z,Z,Z,U⟩,⟨Z,U⟩⟩
   ·exact fE h12 H fun H=>zn ⟨l3,H,⟨Z,Z,Z,Z,Z,U⟩,⟨Z,U⟩⟩
  ·rintro out14 H
   replace H:z1f out14=some q5:=H
   unfold z1f at H
   exact zp hN Z (za (qj Z Z (by omega)) (qd Z ⟨_,qa H,⟨Z,Z,Z,Z,Z,U⟩,⟨Z,U⟩⟩))
theorem y3d (values1:(List Bs)) (r:((List Bs))) (H:z0l values1=some r):Fn Tryz.prog 58 [vlst (List.map zo values1)] (zu [vlst (List.map zo r)]):=by
 refine ⟨by kernel_rfl,yj (us:=[vlst (List.map zo r)]) Tryz.func58 Z Z Z Z fun X hN => ?_⟩
 unfold z0l at H
 refine zb hN Z (qe Z (zb hN Z (qe Z (zi (zb hN Z (qd Z (bE H fun r2 h3 H=>za (zl (z86 values1 [44] r2 h3) ⟨.inl Z,.inl Z,U⟩) (bE H fun r4 h5 H=>za (zl (z3n r2 [44] r4 h5) ⟨.inl Z,.inl Z,U⟩) (za (qg wa Z) (qd Z (ye (km 3 1 9 1 Z Z Z (gE H fun h9 H=>qu (fun (k7:Nat) (s:(List Bs))=>[(3,.row 1 s.length),(8,.dat (vlst (List.map zo r4))),(9,.dat (vint (r4.length:Int))),(10,.dat (vint (k7:Int)))]) (fun (k7:Nat) (s:(List Bs))=>[(1,.row 9 1 (List.map zo s))]) [] H ⟨Z,Z,Z,Z,U⟩ ⟨Z,U⟩ (fun _ _=>Z) ?_ ?_)))))))))))))
 ·rintro l6 H
  replace H:z66 l6=some r:=H
  unfold z66 at H
  refine zb hN Z (za (yb Z Z) (zi (zg _ Z (fun h=>(lt_t h).elim) (fun h => ?_))))
  refine yx (zb hN Z (za (zd (.row _ _) Z) (za (qc (.row _ _) Z) (zk ?_))))
  cases H
  exact ⟨U,uk Z Z,U⟩
 ·rintro k7 x10 l6 q8 h11 h12 H hq8
  replace H:Yt k7 x10 l6=some q8:=H
  unfold Yt at H
  refine zb hN Z (za (yb Z Z) (zi (zg _ Z (fun h => ?_) (fun h=>(lt_f h11 h).elim))))
  refine zn (yd (ι:=(List Bs)) (fun i=>[(3,.row 1 i.length),(8,.dat (vlst (List.map zo r4))),(9,.dat (vint (r4.length:Int))),(10,.dat (vint (k7:Int)))]) (fun i=>[(1,.row 9 1 (List.map zo i))]) (fun i=>z1d i=some q8) (fun i=>Z) ?_ ?_)
  ·skip
   refine ye (zb hN Z (za (wi vi (fun _=>Z) Z Z h12) (za (qx tyS9 Z (ql h12) Z) (qe Z (zb hN Z (qd Z (bE H fun r13 h14 H=>za (zl (z02 x10 [32] r13 h14) ⟨.inl Z,.inl Z,U⟩) (qe Z (zb hN Z (qd Z (za (kn Z Z) (zg _ Z (fun h15 => ?_) (fun h15 => ?_)))))))))))))
   ·refine tE h15 H fun H=>zp hN Z (za (zd (.row _ _) Z) (qd Z (za (zw (u':=vlst (List.map zo [r13])) (yk [[_]] yn ⟨Z,.inl ⟨_,Z,Z,Z⟩,Z,U⟩ Z Z) Z) (gE H fun h16 H=>zj (vq yn (fun _=>Z) Z Z Z ⟨by simp,by first | (simp; done) | simpa using h16⟩ Z) Z ?_))))
    exact za (qc (.row _ _) Z) ⟨(l6++[r13]),H,⟨Z,Z,Z,Z,U⟩,⟨Z,U⟩⟩
   ·exact fE h15 H fun H=>zn ⟨l6,H,⟨Z,Z,Z,Z,U⟩,⟨Z,U⟩⟩
  ·rintro out17 H
   replace H:z1d out17=some q8:=H
   unfold z1d at H
   exact zp hN Z (za (qj Z Z (by omega)) (qd Z ⟨_,qa H,⟨Z,Z,Z,Z,U⟩,⟨Z,U⟩⟩))
theorem y9y  (r:((List Bs))) (H:z6e  = some r):Fn Tryz.prog 107 [] (zu [vlst (List.map zo r)]):=by
 refine ⟨by kernel_rfl,yj (us:=[vlst (List.map zo r)]) Tryz.func107 Z Z Z Z fun X hN => ?_⟩
 unfold z6e at H
 refine zb hN Z (qe Z (zb hN Z (za (zw (u':=vlst (List.map zo [[110,111,45,115,116,111,114,101],[110,111,45,99,97,99,104,101],[112,114,105,118,97,116,101],[112,117,98,108,105,99],[109,117,115,116,45,114,101,118,97,108,105,100,97,116,101],[111,110,108,121,45,105,102,45,99,97,99,104,101,100]])) (yk [[_],[_],[_],[_],[_],[_]] yn ⟨Z,.inl ⟨_,Z,Z,Z⟩,Z,Z,.inl ⟨_,Z,Z,Z⟩,Z,Z,.inl ⟨_,Z,Z,Z⟩,Z,Z,.inl ⟨_,Z,Z,Z⟩,Z,Z,.inl ⟨_,Z,Z,Z⟩,Z,Z,.inl ⟨_,Z,Z,Z⟩,Z,U⟩ Z Z) Z) (qe Z (zk ?_)))))
 cases H
 exact ⟨U,.inl Z,U⟩
theorem y9x (qb:Nat) (r:((List Int))) (H:z6d  = some r):Fn Tryz.prog 108 [vval (.pointer (some ⟨qb,0,none⟩))] (zu [vlst (List.map (CP qb) r)]):=by
 refine ⟨by kernel_rfl,yj (us:=[vlst (List.map (CP qb) r)]) Tryz.func108 Z Z Z Z fun X hN => ?_⟩
 unfold z6d at H
 refine zb hN Z (qe Z (zi (ji mixed hN Z Z (qd Z (za (wo Z) (za (wq Wh Z) (qd Z (za (wo Z) (za (wq z4u Z) (qd Z (za (wo Z) (za (wq z4t Z) (qd Z (za (wo Z) (za (wq z4s Z) (qd Z (za (wo Z) (za (wq z4r Z) (qd Z (za (wo Z) (za (wq y0z Z) (za (zw (u':=vlst (List.map (CP qb) ([0,1,2,3,4,5]:List Int))) (yk [[_],[_],[_],[_],[_],[_]] y0w ⟨Z,.inl ⟨_,Z,Z,Z⟩,Z,Z,.inl ⟨_,Z,Z,Z⟩,Z,Z,.inl ⟨_,Z,Z,Z⟩,Z,Z,.inl ⟨_,Z,Z,Z⟩,Z,Z,.inl ⟨_,Z,Z,Z⟩,Z,Z,.inl ⟨_,Z,Z,Z⟩,Z,U⟩ Z Z) Z) (qe Z ?_)))))))))))))))))))))))
 refine ⟨Z,?_⟩
 refine zk ?_
 cases H
 exact ⟨U,.inl Z,U⟩
theorem y9z  (r:((List Bs))) (H:z6f  = some r):Fn Tryz.prog 109 [] (zu [vlst (List.map zo r)]):=by
 refine ⟨by kernel_rfl,yj (us:=[vlst (List.map zo r)]) Tryz.func109 Z Z Z Z fun X hN => ?_⟩
 unfold z6f at H
 refine zb hN Z (qe Z (zb hN Z (za (zw (u':=vlst (List.map zo [[109,97,120,45,97,103,101],[115,45,109,97,120,97,103,101],[115,116,97,108,101,45,119,104,105,108,101,45,114,101,118,97,108,105,100,97,116,101],[115,116,97,108,101,45,105,102,45,101,114,114,111,114],[109,97,120,45,115,116,97,108,101],[109,105,110,45,102,114,101,115,104]])) (yk [[_],[_],[_],[_],[_],[_]] yn ⟨Z,.inl ⟨_,Z,Z,Z⟩,Z,Z,.inl ⟨_,Z,Z,Z⟩,Z,Z,.inl ⟨_,Z,Z,Z⟩,Z,Z,.inl ⟨_,Z,Z,Z⟩,Z,Z,.inl ⟨_,Z,Z,Z⟩,Z,Z,.inl ⟨_,Z,Z,Z⟩,Z,U⟩ Z Z) Z) (qe Z (zk ?_)))))
 cases H
 exact ⟨U,.inl Z,U⟩
theorem z9b (v1:(List zm)) (r:(zv×Int)) (H:Za v1=some r):Fn Tryz.prog 54 [vlst (List.map yg v1)] (zu [vagg (wd r.1),vint r.2]):=by
 refine ⟨by kernel_rfl,yj (us:=[vagg (wd r.1),vint r.2]) Tryz.func54 Z Z Z Z fun X hN => ?_⟩
 unfold Za at H
 refine zb hN Z (zj (wc 1 ja Z) Z (qe Z (zb hN Z (zj (wc 2 ja Z) Z (zi (zb hN Z (bE H fun r2 h3 H=>zt (qt (s := .dr 2 (fun qb=>vlst (List.map (CP qb) r2))) 2 (fun qb=>zl (y3f qb r2 h3) ⟨.inl Z,U⟩) Z Z) Z (zt (qt (s := .dat (vint (r2.length:Int))) 2 (fun qb=>qg y0r Z) Z Z) Z (qd Z (ye (gE H fun h18 H=>qu (fun (k16:Nat) (s:Bool×Bool×Int×Int×Bool×Bool×Bool×Bool×Int×Int×Int×Int)=>[(0,.dat (vlst (List.map yg v1))),(2,.ptr 1 0),(4,.ptr 2 0),(17,.dr 2 (fun qb=>vlst (List.map (CP qb) r2))),(18,.dat (vint (r2.length:Int))),(19,.dat (vint (k16:Int)))]) (fun (k16:Nat) (s:Bool×Bool×Int×Int×Bool×Bool×Bool×Bool×Int×Int×Int×Int)=>[(1,.box none 63 [.dat (ze false),.dat (ze false),.dat (ze false),.dat (ze false),.dat (ze false),.dat (ze false),.dat (vint 0),.dat (vint 0),.dat (vint 0),.dat (vint 0),.dat (vint 0),.dat (vint 0)]),(2,.box none 63 [.dat (ze s.1),.dat (ze s.2.1),.dat (ze s.2.2.2.2.1),.dat (ze s.2.2.2.2.2.1),.dat (ze s.2.2.2.2.2.2.1),.dat (ze s.2.2.2.2.2.2.2.1),.dat (vint s.2.2.2.2.2.2.2.2.1),.dat (vint s.2.2.2.2.2.2.2.2.2.1),.dat (vint s.2.2.2.2.2.2.2.2.2.2.1),.dat (vint s.2.2.2.2.2.2.2.2.2.2.2),.dat (vint s.2.2.1),.dat (vint s.2.2.2.1)])]) (false,false,0,0,false,false,false,false,0,0,0,0) H ⟨Z,Z,Z,Z,Z,Z,U⟩ ⟨Z,Z,U⟩ (fun _ _=>Z) ?_ ?_)))))))))))
 ·rintro ⟨c4,c5,c6,c7,c8,c9,c10,c11,c12,c13,c14,c15⟩ H
  replace H:z4c v1 c4 c5 c6 c7 c8 c9 c10 c11 c12 c13 c14 c15=some r:=H
  unfold z4c at H
  refine zb hN Z (za (yb Z Z) (zi (zg _ Z (fun h=>(lt_t h).elim) (fun h => ?_))))
  refine yx (zi (zb hN Z (qd Z (bE H fun r20 h21 H=>za (zl (z3q v1 [99,97,99,104,101,45,99,111,110,116,114,111,108] r20 h21) ⟨.inl Z,.inl Z,U⟩) (bE H fun r22 h23 H=>za (zl (y3d r20 r22 h23) ⟨.inl Z,U⟩) (za (qg wa Z) (qd Z (ye (gE H fun h38 H=>qu (fun (k36:Nat) (s:Bool×Bool×Int×Int×Bool×Bool×Bool×Bool×Int×Int×Int×Int)=>[(2,.ptr 1 0),(4,.ptr 2 0),(28,.dat (vlst (List.map zo r22))),(29,.dat (vint (r22.length:Int))),(30,.dat (vint (k36:Int)))]) (fun (k36:Nat) (s:Bool×Bool×Int×Int×Bool×Bool×Bool×Bool×Int×Int×Int×Int)=>[(1,.box none 63 [.dat (ze false),.dat (ze false),.dat (ze false),.dat (ze false),.dat (ze false),.dat (ze false),.dat (vint 0),.dat (vint 0),.dat (vint 0),.dat (vint 0),.dat (vint 0),.dat (vint 0)]),(2,.box none 63 [.dat (ze s.1),.dat (ze s.2.1),.dat (ze s.2.2.2.2.1),.dat (ze s.2.2.2.2.2.1),.dat (ze s.2.2.2.2.2.2.1),.dat (ze s.2.2.2.2.2.2.2.1),.dat (vint s.2.2.2.2.2.2.2.2.1),.dat (vint s.2.2.2.2.2.2.2.2.2.1),.dat (vint s.2.2.2.2.2.2.2.2.2.2.1),.dat (vint s.2.2.2.2.2.2.2.2.2.2.2),.dat (vint s.2.2.1),.dat (vint s.2.2.2.1)])]) (c4,c5,c6,c7,c8,c9,c10,c11,c12,c13,c14,c15) H ⟨Z,Z,Z,Z,Z,U⟩ ⟨Z,Z,U⟩ (fun _ _=>Z) ?_ ?_)))))))))
  ·rintro ⟨c24,c25,c26,c27,c28,c29,c30,c31,c32,c33,c34,c35⟩ H
   replace H:z7b c24 c25 c26 c27 c28 c29 c30 c31 c32 c33 c34 c35=some r:=H
   unfold z7b at H
   refine zb hN Z (za (yb Z Z) (zi (zg _ Z (fun h=>(lt_t h).elim) (fun h => ?_))))
   refine yx (zb hN Z (zt (qi wh Z Z Z) Z (zj (qq wh Z Z Z Z) Z (qe Z (zk ?_)))))
   cases H
   exact ⟨U,.inl ⟨_,_,_,wd (zv.mk c24 c25 c28 c29 c30 c31 c32 c33 c34 c35 c26 c27),Z,Z,Z,Z,wh⟩,.inl Z,U⟩
  ·rintro k36 x39 ⟨c24,c25,c26,c27,c28,c29,c30,c31,c32,c33,c34,c35⟩ q37 h40 h41 H hq37
   replace H:z1m k36 x39 c24 c25 c26 c27 c28 c29 c30 c31 c32 c33 c34 c35=some q37:=H
   unfold z1m at H
   refine zb hN Z (za (yb Z Z) (zi (zg _ Z (fun h => ?_) (fun h=>(lt_f h40 h).elim))))
   refine zn (yd (ι:=Bool×Bool×Bool×Bool×Bool×Bool×Int×Int×Int×Int×Int×Int) (fun i=>[(2,.ptr 1 0),(4,.ptr 2 0),(28,.dat (vlst (List.map zo r22))),(29,.dat (vint (r22.length:Int))),(30,.dat (vint (k36:Int)))]) (fun i=>[(1,.box none 63 [.dat (ze false),.dat (ze false),.dat (ze false),.dat (ze false),.dat (ze false),.dat (ze false),.dat (vint 0),.dat (vint 0),.dat (vint 0),.dat (vint 0),.dat (vint 0),.dat (vint 0)]),(2,.box none 63 [.dat (ze i.1),.dat (ze i.2.1),.dat (ze i.2.2.1),.dat (ze i.2.2.2.1),.dat (ze i.2.2.2.2.1),.dat (ze i.2.2.2.2.2.1),.dat (vint i.2.2.2.2.2.2.1),.dat (vint i.2.2.2.2.2.2.2.1),.dat (vint i.2.2.2.2.2.2.2.2.1),.dat (vint i.2.2.2.2.2.2.2.2.2.1),.dat (vint i.2.2.2.2.2.2.2.2.2.2.1),.dat (vint i.2.2.2.2.2.2.2.2.2.2.2)])]) (fun i=>Zh i.1 i.2.1 i.2.2.1 i.2.2.2.1 i.2.2.2.2.1 i.2.2.2.2.2.1 i.2.2.2.2.2.2.1 i.2.2.2.2.2.2.2.1 i.2.2.2.2.2.2.2.2.1 i.2.2.2.2.2.2.2.2.2.1 i.2.2.2.2.2.2.2.2.2.2.1 i.2.2.2.2.2.2.2.2.2.2.2=some q37) (fun i=>Z) ?_ ?_)
   ·skip
    refine ye (zb hN Z (za (wi vi (fun _=>Z) Z Z h41) (za (qx tyS9 Z (ql h41) Z) (qe Z (zb hN Z (qd Z (bE H fun r42 h43 H=>za (zl (z6o x39 [61] r42 h43) ⟨.inl Z,.inl Z,U⟩) (qd Z (za (yc Z Z) (za (yc Z Z) (za (yc Z Z) (qe Z (qe Z (qe Z (zb hN Z (qd Z (bE H fun r44 h45 H=>za (zl (y3g r42.2.1 9 r44 h45) ⟨.inl Z,.inl Z,U⟩) (qd Z (za (yc Z Z) (za (yc Z Z) (qe Z ?_)))))))))))))))))))))
    refine qe Z (zi (yd (ι:=Bool) (fun i=>[(2,.ptr 1 0),(4,.ptr 2 0),(9,.dat (vstr r42.1)),(11,.dat (ze r42.2.2)),(12,.dat (vint r44.1)),(28,.dat (vlst (List.map zo r22))),(29,.dat (vint (r22.length:Int))),(30,.dat (vint (k36:Int))),(59,.dat (ze i))]) (fun i=>[(1,.box none 63 [.dat (ze false),.dat (ze false),.dat (ze false),.dat (ze false),.dat (ze false),.dat (ze false),.dat (vint 0),.dat (vint 0),.dat (vint 0),.dat (vint 0),.dat (vint 0),.dat (vint 0)]),(2,.box none 63 [.dat (ze c24),.dat (ze c25),.dat (ze c28),.dat (ze c29),.dat (ze c30),.dat (ze c31),.dat (vint c32),.dat (vint c33),.dat (vint c34),.dat (vint c35),.dat (vint c26),.dat (vint c27)])]) (fun i=>ue c24 c25 c26 c27 c28 c29 c30 c31 c32 c33 c34 c35 r42 r44 i=some q37) (fun i=>Z) ?_ ?_))
    ·skip
     refine zp hN Z (qd Z (bE H fun r46 h47 H=>za (zl (z6s r42.1 r46 h47) ⟨.inl Z,U⟩) (za (yp Z) (qd Z (yf (j:=3) Z Z (fun h48 => ?_) (fun h48 => ?_) Z)))))
     ·refine u3 h48 H fun h49 H=>zf Z Z h48 (zd (.dat _) Z) (zf Z Z h48 (zd (.dat _) Z) (yf (j:=5) Z Z (fun h50 => ?_) (fun h50 => ?_) Z))
      ·refine u1 h50 H fun h51 H=>zf Z Z h50 (zd (.dat _) Z) (zf Z Z h50 (yp Z) (zf Z Z h50 (zd (.dat _) Z) (yf (j:=8) Z Z (fun h52 => ?_) (fun h52 => ?_) Z)))
       ·exact u3 h52 H fun h53 H=>zf Z Z h52 (zd (.dat _) Z) (bE H fun r54 h55 H=>zf Z Z h52 (zl (Zd r44.1 0 100000000 r54 h55) ⟨.inl Z,.inl Z,.inl Z,U⟩) (zf Z Z h52 (yp Z) (zf Z Z h50 (zq Z (bFF h53) Z) (zf Z Z h48 (zy Z (bTT h51) Z) (za (zq Z (bFF h49) Z) ⟨!r54,H,⟨Z,Z,Z,Z,Z,Z,Z,Z,Z,U⟩,⟨Z,Z,U⟩⟩)))))
       ·exact u4 h52 H fun h56 H=>zc Z Z h52 (zc Z Z h52 (zc Z Z h52 (zf Z Z h50 (zy Z (bTT h56) Z) (zf Z Z h48 (zy Z (bTT h51) Z) (za (zq Z (bFF h49) Z) ⟨true,H,⟨Z,Z,Z,Z,Z,Z,Z,Z,Z,U⟩,⟨Z,Z,U⟩⟩)))))
      ·exact u2 h50 H fun h57 H=>zc Z Z h50 (zc Z Z h50 (zc Z Z h50 (yi Z Z (yi Z Z (yi Z Z (zc Z Z h50 (zf Z Z h48 (zq Z (bFF h57) Z) (za (zq Z (bFF h49) Z) ⟨false,H,⟨Z,Z,Z,Z,Z,Z,Z,Z,Z,U⟩,⟨Z,Z,U⟩⟩))))))))
     ·exact u4 h48 H fun h58 H=>zc Z Z h48 (zc Z Z h48 (yi Z Z (yi Z Z (yi Z Z (yi Z Z (yi Z Z (yi Z Z (yi Z Z (zc Z Z h48 (za (zy Z (bTT h58) Z) ⟨true,H,⟨Z,Z,Z,Z,Z,Z,Z,Z,Z,U⟩,⟨Z,Z,U⟩⟩))))))))))
    ·rintro v59 H
     replace H:ue c24 c25 c26 c27 c28 c29 c30 c31 c32 c33 c34 c35 r42 r44 v59=some q37:=H
     unfold ue at H
     refine zg _ Z (fun h60 => ?_) (fun h60 => ?_)
     ·refine tE h60 H fun H=>zb hN Z (za (zw (u':=vagg (wd (zv.mk false false false false false false 0 0 0 0 0 0))) (wz [] ja z16 Z U) Z) (zj (qq wh Z Z Z Z) Z (qe Z (zk ?_))))
      replace H:=retl H hq37
      cases H
      exact ⟨U,.inl ⟨_,_,_,wd (zv.mk false false false false false false 0 0 0 0 0 0),Z,Z,Z,Z,wh⟩,.inl Z,U⟩
     ·refine fE h60 H fun H=>zn (zb hN Z (qd Z (bE H fun r61 h62 H=>za (zl (Yk r42.1 r61 h62) ⟨.inl Z,U⟩) (qe Z (yd (ι:=Bool×Bool×Bool×Bool×Bool×Bool×Int×Int×Int×Int×Int×Int) (fun i=>[(2,.ptr 1 0),(4,.ptr 2 0),(9,.dat (vstr r61)),(11,.dat (ze r42.2.2)),(12,.dat (vint r44.1)),(28,.dat (vlst (List.map zo r22))),(29,.dat (vint (r22.length:Int))),(30,.dat (vint (k36:Int)))]) (fun i=>[(1,.box none 63 [.dat (ze false),.dat (ze false),.dat (ze false),.dat (ze false),.dat (ze false),.dat (ze false),.dat (vint 0),.dat (vint 0),.dat (vint 0),.dat (vint 0),.dat (vint 0),.dat (vint 0)]),(2,.box none 63 [.dat (ze i.1),.dat (ze i.2.1),.dat (ze i.2.2.1),.dat (ze i.2.2.2.1),.dat (ze i.2.2.2.2.1),.dat (ze i.2.2.2.2.2.1),.dat (vint i.2.2.2.2.2.2.1),.dat (vint i.2.2.2.2.2.2.2.1),.dat (vint i.2.2.2.2.2.2.2.2.1),.dat (vint i.2.2.2.2.2.2.2.2.2.1),.dat (vint i.2.2.2.2.2.2.2.2.2.2.1),.dat (vint i.2.2.2.2.2.2.2.2.2.2.2)])]) (fun i=>Zg r42 r44 r61 i.1 i.2.1 i.2.2.1 i.2.2.2.1 i.2.2.2.2.1 i.2.2.2.2.2.1 i.2.2.2.2.2.2.1 i.2.2.2.2.2.2.2.1 i.2.2.2.2.2.2.2.2.1 i.2.2.2.2.2.2.2.2.2.1 i.2.2.2.2.2.2.2.2.2.2.1 i.2.2.2.2.2.2.2.2.2.2.2=some q37) (fun i=>Z) ?_ ?_)))))
      ·skip
       refine zb hN Z (bE H fun r63 h64 H=>za (zl (y9y  r63 h64) U) (qd Z (bE H fun r65 h66 H=>za (zl (z3o r63 r61 r65 h66) ⟨.inl Z,.inl Z,U⟩) (qe Z (zb hN Z (qd Z (za (wy Z Z) (zg _ Z (fun h67 => ?_) (fun h67 => ?_)))))))))
       ·refine tE h67 H fun H=>zb hN Z (bE H fun r68 h69 H=>zt (qt (s := .dr 2 (fun qb=>vlst (List.map (CP qb) r68))) 2 (fun qb=>zl (y9x qb r68 h69) ⟨.inl Z,U⟩) Z Z) Z (qd Z (bE H fun x70 h71 H=>zt (qt (s := .dr 2 (fun qb=>jl (List.map (CP qb) r68) r65.toNat 0)) 2 (fun qb=>ul y04 (fun _=>Z) Z Z h71) Z Z) Z (gE H fun h72 H=>zt (qt (s := .ptr 2 x70.toNat) 2 (fun qb=>qx y0t Z (ql (kt h71).2) Z) Z Z) Z (za (vk Z) (bE H fun c73 h74 H=>zj (Wp tyS4 Z Z Z (y1t (c:=(zv.mk c24 c25 c28 c29 c30 c31 c32 c33 c34 c35 c26 c27)) h72 h74)) Z (zb hN Z (qd Z (zg _ Z (fun h75 => ?_) (fun h75 => ?_))))))))))
        ·refine tE h75 H fun H=>zb hN Z (za (zw (u':=vagg (wd (zv.mk false false false false false false 0 0 0 0 0 0))) (wz [] ja z16 Z U) Z) (zj (qq wh Z Z Z Z) Z (qe Z (zk ?_))))
         replace H:=retl H hq37
         cases H
         exact ⟨U,.inl ⟨_,_,_,wd (zv.mk false false false false false false 0 0 0 0 0 0),Z,Z,Z,Z,wh⟩,.inl Z,U⟩
        ·exact fE h75 H fun H=>zn ⟨(c73.NoStore,c73.NoCache,c73.Private,c73.Public,c73.Must,c73.Only,c73.MaxAge,c73.Shared,c73.Stale,c73.OnError,c73.MaxStale,c73.MinFresh),H,⟨Z,Z,Z,Z,Z,Z,Z,Z,U⟩,⟨Z,Z,U⟩⟩
       ·exact fE h67 H fun H=>zn ⟨(c24,c25,c28,c29,c30,c31,c32,c33,c34,c35,c26,c27),H,⟨Z,Z,Z,Z,Z,Z,Z,Z,U⟩,⟨Z,Z,U⟩⟩
      ·rintro ⟨c76,c77,c78,c79,c80,c81,c82,c83,c84,c85,c86,c87⟩ H
       replace H:Zg r42 r44 r61 c76 c77 c78 c79 c80 c81 c82 c83 c84 c85 c86 c87=some q37:=H
       unfold Zg at H
       refine zb hN Z (bE H fun r88 h89 H=>za (zl (y9z  r88 h89) U) (qd Z (bE H fun r90 h91 H=>za (zl (z3o r88 r61 r90 h91) ⟨.inl Z,.inl Z,U⟩) (qe Z (zb hN Z (qd Z (za (wy Z Z) (zg _ Z (fun h92 => ?_) (fun h92 => ?_)))))))))
       ·refine tE h92 H fun H=>zi (zb hN Z (qd Z (za (yp Z) (zg _ Z (fun h93 => ?_) (fun h93 => ?_)))))
        ·refine tE h93 H fun H=>zb hN Z (za (zw (u':=vagg (wd (zv.mk false false false false false false 0 0 0 0 0 0))) (wz [] ja z16 Z U) Z) (zj (qq wh Z Z Z Z) Z (qe Z (zk ?_))))
         replace H:=retl H hq37
         cases H
         exact ⟨U,.inl ⟨_,_,_,wd (zv.mk false false false false false false 0 0 0 0 0 0),Z,Z,Z,Z,wh⟩,.inl Z,U⟩
        ·refine fE h93 H fun H=>zn (zb hN Z (bE H fun r94 h95 H=>zt (qt (s := .dr 2 (fun qb=>vlst (List.map (CP qb) r94))) 2 (fun qb=>zl (y3f qb r94 h95) ⟨.inl Z,U⟩) Z Z) Z (qd Z (bE H fun x96 h97 H=>zt (qt (s := .dr 2 (fun qb=>jl (List.map (CP qb) r94) r90.toNat 0)) 2 (fun qb=>ul Wl (fun _=>Z) Z Z h97) Z Z) Z (gE H fun h98 H=>zt (qt (s := .ptr 2 x96.toNat) 2 (fun qb=>qx Wg Z (ql (kt h97).2) Z) Z Z) Z (za (qc (.ptr _ _) Z) (zb hN Z (za (zd (.ptr _ _) Z) (za (vk Z) (zt (yh tyS3 Z (z65 (c:=(zv.mk c76 c77 c78 c79 c80 c81 c82 c83 c84 c85 c86 c87)) h98)) Z (za (yb Z Z) (qd Z (yy Z Z (fun hc=>zd (.dat _) Z) (yy Z Z (fun hc=>zd (.ptr _ _) Z) (yy Z Z (fun hc=>vk (cnd (c:=(!(decide ((wg (zv.mk c76 c77 c78 c79 c80 c81 c82 c83 c84 c85 c86 c87) x96) < 0)))) hc)) (z8d Z Z (fun hc=>yh tyS3 (cnd (c:=(!(decide ((wg (zv.mk c76 c77 c78 c79 c80 c81 c82 c83 c84 c85 c86 c87) x96) < 0)))) hc) (z65 (c:=(zv.mk c76 c77 c78 c79 c80 c81 c82 c83 c84 c85 c86 c87)) h98)) Z uf (yy Z Z (fun hc=>yb (cnd (c:=(!(decide ((wg (zv.mk c76 c77 c78 c79 c80 c81 c82 c83 c84 c85 c86 c87) x96) < 0)))) hc) (cnd (c:=(!(decide ((wg (zv.mk c76 c77 c78 c79 c80 c81 c82 c83 c84 c85 c86 c87) x96) < 0)))) hc)) (za (vj Z Z (fun hb=>(cnd (c:=(!(decide ((wg (zv.mk c76 c77 c78 c79 c80 c81 c82 c83 c84 c85 c86 c87) x96) < 0)))) (notI hb)))) (zg _ Z (fun h99 => ?_) (fun h99 => ?_))))))))))))))))))))
         ·exact tE h99 H fun H=>zp hN Z (za (zd (.ptr _ _) Z) (qd Z (za (vk Z) (bE H fun c100 h101 H=>zj (Wp tyS3 Z Z Z (z5d (c:=(zv.mk c76 c77 c78 c79 c80 c81 c82 c83 c84 c85 c86 c87)) h98 h101)) Z ⟨(c100.NoStore,c100.NoCache,c100.Private,c100.Public,c100.Must,c100.Only,c100.MaxAge,c100.Shared,c100.Stale,c100.OnError,c100.MaxStale,c100.MinFresh),H,⟨Z,Z,Z,Z,Z,U⟩,⟨Z,Z,U⟩⟩))))
         ·exact fE h99 H fun H=>zn ⟨(c76,c77,c78,c79,c80,c81,c82,c83,c84,c85,c86,c87),H,⟨Z,Z,Z,Z,Z,U⟩,⟨Z,Z,U⟩⟩
       ·exact fE h92 H fun H=>zn ⟨(c76,c77,c78,c79,c80,c81,c82,c83,c84,c85,c86,c87),H,⟨Z,Z,Z,Z,Z,U⟩,⟨Z,Z,U⟩⟩
   ·rintro ⟨c102,c103,c104,c105,c106,c107,c108,c109,c110,c111,c112,c113⟩ H
    replace H:Zh c102 c103 c104 c105 c106 c107 c108 c109 c110 c111 c112 c113=some q37:=H
    unfold Zh at H
    exact zp hN Z (za (qj Z Z (by omega)) (qd Z ⟨_,qa H,⟨Z,Z,Z,Z,Z,U⟩,⟨Z,Z,U⟩⟩))
 ·rintro k16 x19 ⟨c4,c5,c6,c7,c8,c9,c10,c11,c12,c13,c14,c15⟩ q17 h114 h115 H hq17
  replace H:z9s k16 x19 c4 c5 c6 c7 c8 c9 c10 c11 c12 c13 c14 c15=some q17:=H
  unfold z9s at H
  refine zb hN Z (za (yb Z Z) (zi (zg _ Z (fun h => ?_) (fun h=>(lt_f h114 h).elim))))
  exact zn (zi (ye (zb hN Z (zt (qt (s := .dr 2 (fun qb=>jl (List.map (CP qb) r2) k16 0)) 2 (fun qb=>wi Wl (fun _=>Z) Z Z h115) Z Z) Z (gE H fun h116 H=>zt (qt (s := .ptr 2 x19.toNat) 2 (fun qb=>qx Wg Z (ql h115) Z) Z Z) Z (za (qc (.ptr _ _) Z) (zp hN Z (za (zd (.ptr _ _) Z) (za (vk Z) (bE H fun c117 h118 H=>zj (Wp tyS3 Z Z Z (z5d (c:=(zv.mk c4 c5 c8 c9 c10 c11 c12 c13 c14 c15 c6 c7)) h116 h118)) Z (zp hN Z (za (qj Z Z (by omega)) (qd Z ⟨_,qa H,⟨Z,Z,Z,Z,Z,Z,U⟩,⟨Z,Z,U⟩⟩)))))))))))))
theorem z9a (a1:ya) (r:((List Bs)×Bool×Int)) (H:Yf a1=some r):Fn Tryz.prog 18 [vagg (wt a1)] (zu [vlst (List.map zo r.1),ze r.2.1,vint r.2.2]):=by
 refine ⟨by kernel_rfl,yj (us:=[vlst (List.map zo r.1),ze r.2.1,vint r.2.2]) Tryz.func18 Z Z Z Z fun X hN => ?_⟩
 unfold Yf at H
 refine zb hN Z (zj (wu 1 Z) Z (qe Z (qe Z (qe Z (zb hN Z (qe Z (zb hN Z (qe Z (zi (zb hN Z (za (zz jb Z) (zt (yh qv Z Z) Z (bE H fun r2 h3 H=>za (zl (z3q a1.Headers [118,97,114,121] r2 h3) ⟨.inl Z,.inl Z,U⟩) (bE H fun r4 h5 H=>za (zl (y3d r2 r4 h5) ⟨.inl Z,U⟩) (za (qg wa Z) (qd Z (ye (km 5 2 9 1 Z Z Z (gE H fun h10 H=>qu (fun (k8:Nat) (s:Bool×(List Bs))=>[(5,.row 2 s.2.length),(6,.dat (ze s.1)),(12,.dat (vlst (List.map zo r4))),(13,.dat (vint (r4.length:Int))),(14,.dat (vint (k8:Int)))]) (fun (k8:Nat) (s:Bool×(List Bs))=>[(2,.row 9 1 (List.map zo s.2))]) (false,[]) H ⟨Z,Z,Z,Z,Z,U⟩ ⟨Z,U⟩ (fun _ _=>Z) ?_ ?_)))))))))))))))))))
 ·rintro ⟨all6,l7⟩ H
  replace H:z1e all6 l7=some r:=H
  unfold z1e at H
  refine zb hN Z (za (yb Z Z) (zi (zg _ Z (fun h=>(lt_t h).elim) (fun h => ?_))))
  refine yx (zi (zb hN Z (qd Z (zg _ Z (fun h12 => ?_) (fun h12 => ?_)))))
  ·refine tE h12 H fun H=>zb hN Z (qe Z (qe Z (qe Z (zk ?_))))
   cases H
   exact ⟨U,.inr ⟨Z,Z⟩,.inl Z,.inl Z,U⟩
  ·refine fE h12 H fun H=>zn (zb hN Z (za (zd (.row _ _) Z) (bE H fun r13 h14 H=>uo (rn [(0,2)]) [(0,_,_,some _)] [] (z83 l7 r13 h14) ⟨Z,U⟩ ⟨.inl (.inl Z),U⟩ ⟨⟨⟨Z,Z,Z⟩,by simp [Zp,Zq h14]⟩,U⟩ Z ?_)))
   refine zb hN Z (za (zd (.row _ _) Z) (bE H fun r15 h16 H=>uo (rn [(0,2),(900,3)]) [(0,_,_,none)] [(900,_)] (z84 r13 r15 h16) ⟨Z,Z,U⟩ ⟨.inl (.inl (congrArg (Slot.row 2) (Zq h14).symm)),U⟩ ⟨⟨⟨Z,Z,Z⟩,U⟩,U⟩ Z (za (qc (.row _ _) Z) (zi (zb hN Z (za (zd (.row _ _) Z) (zt (z5a wa Z Z) Z (za (qs Z Z) (zg _ Z (fun h17 => ?_) (fun h17 => ?_))))))))))
   ·refine tE h17 H fun H=>zb hN Z (qe Z (qe Z (qe Z (zk ?_))))
    cases H
    exact ⟨U,.inr ⟨Z,Z⟩,.inl Z,.inl Z,U⟩
   ·refine fE h17 H fun H=>zn (zb hN Z (za (zd (.row _ _) Z) (za (qc (.row _ _) Z) (qe Z (qe Z (zk ?_))))))
    cases H
    exact ⟨U,uk Z Z,.inl Z,.inl Z,U⟩
 ·rintro k8 x11 ⟨all6,l7⟩ q9 h18 h19 H hq9
  replace H:Yu k8 x11 all6 l7=some q9:=H
  unfold Yu at H
  refine zb hN Z (za (yb Z Z) (zi (zg _ Z (fun h => ?_) (fun h=>(lt_f h18 h).elim))))
  refine zn (zi (ye (zb hN Z (za (wi vi (fun _=>Z) Z Z h19) (za (qx tyS9 Z (ql h19) Z) (qe Z (zi (zb hN Z (qd Z (bE H fun r20 h21 H=>za (zl (z6s x11 r20 h21) ⟨.inl Z,U⟩) (za (yp Z) (zg _ Z (fun h22 => ?_) (fun h22 => ?_)))))))))))))
  ·refine tE h22 H fun H=>zb hN Z (qe Z (qe Z (qe Z (zk ?_))))
   replace H:=retl H hq9
   cases H
   exact ⟨U,.inr ⟨Z,Z⟩,.inl Z,.inl Z,U⟩
  ·refine fE h22 H fun H=>zn (zb hN Z (qd Z (qd Z (yy Z Z (fun hc=>zd (.dat _) Z) (yy Z Z (fun hc=>vx (cnd (c:=(!all6)) hc) Z) (za (vj Z Z (fun hb=>(cnd (c:=(!all6)) (notI hb)))) (qe Z (zp hN Z (za (zd (.row _ _) Z) (qd Z (bE H fun r23 h24 H=>za (zl (Yk x11 r23 h24) ⟨.inl Z,U⟩) (za (zw (u':=vlst (List.map zo [r23])) (yk [[_]] yn ⟨Z,.inl ⟨_,Z,Z,Z⟩,Z,U⟩ Z Z) Z) (gE H fun h25 H=>zj (vq yn (fun _=>Z) Z Z Z ⟨by simp,by first | (simp; done) | simpa using h25⟩ Z) Z ?_)))))))))))))
   exact za (qc (.row _ _) Z) (zp hN Z (za (qj Z Z (by omega)) (qd Z ⟨_,qa H,⟨Z,Z,Z,Z,Z,U⟩,⟨Z,U⟩⟩)))
theorem y3e (c1:zv) (r:(Int)) (H:z0m c1=some r):Fn Tryz.prog 57 [vagg (wd c1)] (zu [vint r]):=by
 refine ⟨by kernel_rfl,yj (us:=[vint r]) Tryz.func57 Z Z Z Z fun X hN => ?_⟩
 unfold z0m at H
 refine zb hN Z (zj (wu 1 Z) Z (qe Z (zi (ye (zb hN Z (za (zz z4u Z) (zt (yh tyS4 Z Z) Z (qe Z (zg _ Z (fun h2 => ?_) (fun h2 => ?_))))))))))
 ·refine tE h2 H fun H=>zb hN Z (qe Z (zk ?_))
  cases H
  exact ⟨U,.inl Z,U⟩
 ·refine fE h2 H fun H=>zb hN Z (za (zz xo Z) (zt (yh tyS3 Z Z) Z (za (wy Z Z) (qe Z (zg _ Z (fun h3 => ?_) (fun h3 => ?_))))))
  ·refine tE h3 H fun H=>zb hN Z (za (zz xo Z) (zt (yh tyS3 Z Z) Z (za (qk _ Z Z (.inr (.inr ⟨Z,Z⟩))) (qe Z (zk ?_)))))
   cases H
   exact ⟨U,.inl Z,U⟩
  ·refine fE h3 H fun H=>zn (zb hN Z (za (zz z17 Z) (zt (yh tyS3 Z Z) Z (za (qk _ Z Z (.inr (.inr ⟨Z,Z⟩))) (za (y6a Z Z) (qe Z (zk ?_)))))))
   cases H
   exact ⟨U,.inl Z,U⟩
theorem y92 (v1:yv) (v2:ya) (r:(Bool×Int)) (H:z2z v1 v2=some r):Fn Tryz.prog 16 [vagg (jk v1),vagg (wt v2)] (zu [ze r.1,vint r.2]):=by
 refine ⟨by kernel_rfl,yj (us:=[ze r.1,vint r.2]) Tryz.func16 Z Z Z Z fun X hN => ?_⟩
 unfold z2z at H
 refine zb hN Z (zj (wu 1 Z) Z (zj (wu 2 Z) Z (qe Z (qe Z (zb hN Z (za (zz jc Z) (zt (yh qv Z Z) Z (bE H fun r3 h4 H=>za (zl (z9b v1.Headers r3 h4) ⟨.inl Z,U⟩) (qd Z (za (yc Z Z) (za (yc Z Z) (zj (wc 3 ja Z) Z (zj (qq wh Z Z Z Z) Z (qe Z (zi (zb hN Z (qd Z (za (qo Z Z) (zg _ Z (fun h5 => ?_) (fun h5 => ?_))))))))))))))))))))
 ·refine tE h5 H fun H=>zb hN Z (qd Z (qe Z (qe Z (zk ?_))))
  cases H
  exact ⟨U,.inl Z,.inl Z,U⟩
 ·refine fE h5 H fun H=>zn (zb hN Z (za (zz jb Z) (zt (yh qv Z Z) Z (bE H fun r6 h7 H=>za (zl (z9b v2.Headers r6 h7) ⟨.inl Z,U⟩) (qd Z (za (yc Z Z) (za (yc Z Z) (zj (wc 4 ja Z) Z (zj (qq wh Z Z Z Z) Z (qe Z (zi (zb hN Z (qd Z (za (qo Z Z) (zg _ Z (fun h8 => ?_) (fun h8 => ?_))))))))))))))))
  ·refine tE h8 H fun H=>zb hN Z (qd Z (qe Z (qe Z (zk ?_))))
   cases H
   exact ⟨U,.inl Z,.inl Z,U⟩
  ·refine fE h8 H fun H=>zn (zb hN Z (zt (qi qp Z Z Z) Z (bE H fun r9 h10 H=>za (zl (z9a v2 r9 h10) ⟨.inl Z,U⟩) (qd Z (za (yc Z Z) (za (yc Z Z) (za (yc Z Z) (qe Z (qe Z (qe Z (zi (zb hN Z (qd Z (za (qo Z Z) (zg _ Z (fun h11 => ?_) (fun h11 => ?_))))))))))))))))
   ·refine tE h11 H fun H=>zb hN Z (qd Z (qe Z (qe Z (zk ?_))))
    cases H
    exact ⟨U,.inl Z,.inl Z,U⟩
   ·refine fE h11 H fun H=>zn (zi (ye (yd (ι:=Bool) (fun i=>[(2,.ptr 1 0),(3,.ptr 2 0),(6,.ptr 3 0),(8,.ptr 4 0),(10,.dat (ze r9.2.1)),(38,.dat (ze i))]) (fun i=>[(1,.box none 28 [.dat (vint v1.At),.dat (vstr v1.Method),.dat (vstr v1.Host),.dat (vstr v1.Path),.dat (vstr v1.Query),.dat (vstr v1.From),.dat (vlst (List.map yg v1.Headers)),.dat (vstr v1.Body)]),(2,.box none 31 [.dat (vint v2.Status),.dat (vlst (List.map yg v2.Headers)),.dat (vstr v2.Body)]),(3,.box none 63 [.dat (ze r3.1.NoStore),.dat (ze r3.1.NoCache),.dat (ze r3.1.Private),.dat (ze r3.1.Public),.dat (ze r3.1.Must),.dat (ze r3.1.Only),.dat (vint r3.1.MaxAge),.dat (vint r3.1.Shared),.dat (vint r3.1.Stale),.dat (vint r3.1.OnError),.dat (vint r3.1.MaxStale),.dat (vint r3.1.MinFresh)]),(4,.box none 63 [.dat (ze r6.1.NoStore),.dat (ze r6.1.NoCache),.dat (ze r6.1.Private),.dat (ze r6.1.Public),.dat (ze r6.1.Must),.dat (ze r6.1.Only),.dat (vint r6.1.MaxAge),.dat (vint r6.1.Shared),.dat (vint r6.1.Stale),.dat (vint r6.1.OnError),.dat (vint r6.1.MaxStale),.dat (vint r6.1.MinFresh)])]) (fun i=>Yy v1 v2 r3 r6 r9 i=some r) (fun i=>Z) ?_ ?_)))
    ·skip
     refine zb hN Z (za (zz Wj Z) (zt (yh tyS9 Z Z) Z (za (kn Z Z) (qd Z (yt Z Z (fun hc=>zz Wj Z) (Zr Z Z (fun hc=>yh tyS9 (cnd (c:=(decide (v1.Method≠[71,69,84]))) hc) Z) Z uf (yt Z Z (fun hc=>kn (cnd (c:=(decide (v1.Method≠[71,69,84]))) hc) Z) (za (qw Z (fun hb=>(cnd (c:=(decide (v1.Method≠[71,69,84]))) hb)) Z) (qe Z (zg _ Z (fun h12 => ?_) (fun h12 => ?_)))))))))))
     ·exact tE h12 H fun H=>zn ⟨((decide (v1.Method≠[71,69,84])) && (decide (v1.Method≠[72,69,65,68]))),H,⟨Z,Z,Z,Z,Z,Z,U⟩,⟨Z,Z,Z,Z,U⟩⟩
     ·exact fE h12 H fun H=>zp hN Z (za (zw (u':=vlst (List.map yq [200,203,204,300,301,404,410])) (yk [[_],[_],[_],[_],[_],[_],[_]] xn ⟨Z,.inl ⟨_,Z,Z,Z⟩,Z,Z,.inl ⟨_,Z,Z,Z⟩,Z,Z,.inl ⟨_,Z,Z,Z⟩,Z,Z,.inl ⟨_,Z,Z,Z⟩,Z,Z,.inl ⟨_,Z,Z,Z⟩,Z,Z,.inl ⟨_,Z,Z,Z⟩,Z,Z,.inl ⟨_,Z,Z,Z⟩,Z,U⟩ Z Z) Z) (za (zz Wi Z) (zt (yh tyS3 Z Z) Z (bE H fun r13 h14 H=>za (zl (y26 [200,203,204,300,301,404,410] v2.Status r13 h14) ⟨.inl Z,.inl Z,U⟩) (za (yp Z) (qe Z ⟨!r13,H,⟨Z,Z,Z,Z,Z,Z,U⟩,⟨Z,Z,Z,Z,U⟩⟩))))))
    ·rintro v15 H
     replace H:Yy v1 v2 r3 r6 r9 v15=some r:=H
     unfold Yy at H
     refine zg _ Z (fun h16 => ?_) (fun h16 => ?_)
     ·refine tE h16 H fun H=>zb hN Z (qe Z (qe Z (zk ?_)))
      cases H
      exact ⟨U,.inl Z,.inl Z,U⟩
     ·refine fE h16 H fun H=>zb hN Z (za (zz Wh Z) (zt (yh tyS4 Z Z) Z (qd Z (yy Z Z (fun hc=>zz Wh Z) (z8d Z Z (fun hc=>yh tyS4 (cnd (c:=(!r3.1.NoStore)) hc) Z) Z uf (za (vj Z Z (fun hb=>(cnd (c:=(!r3.1.NoStore)) (notI hb)))) (qd Z (yy Z Z (fun hc=>zz z4t Z) (z8d Z Z (fun hc=>yh tyS4 (cnd (c:=(!(r3.1.NoStore || r6.1.NoStore))) hc) Z) Z uf (za (vj Z Z (fun hb=>(cnd (c:=(!(r3.1.NoStore || r6.1.NoStore))) (notI hb)))) (qd Z (yy Z Z (fun hc=>zd (.dat _) Z) (za (vj Z Z (fun hb=>(cnd (c:=(!((r3.1.NoStore || r6.1.NoStore) || r6.1.Private))) (notI hb)))) (qe Z (zg _ Z (fun h17 => ?_) (fun h17 => ?_))))))))))))))))
      ·refine tE h17 H fun H=>zb hN Z (qe Z (qe Z (zk ?_)))
       cases H
       exact ⟨U,.inl Z,.inl Z,U⟩
      ·refine fE h17 H fun H=>zb hN Z (za (zz jc Z) (zt (yh qv Z Z) Z (bE H fun r18 h19 H=>za (zl (z3q v1.Headers [97,117,116,104,111,114,105,122,97,116,105,111,110] r18 h19) ⟨.inl Z,.inl Z,U⟩) (za (qg wa Z) (za (qs Z Z) (qd Z (yt Z Z (fun hc=>zz z4s Z) (Zr Z Z (fun hc=>yh tyS4 (cnd (c:=(decide (0 < (r18.length:Int)))) hc) Z) Z uf (yt Z Z (fun hc=>yp (cnd (c:=(decide (0 < (r18.length:Int)))) hc)) (za (qw Z (fun hb=>(cnd (c:=(decide (0 < (r18.length:Int)))) hb)) Z) (qd Z (yt Z Z (fun hc=>zz z4r Z) (Zr Z Z (fun hc=>yh tyS4 (cnd (c:=((decide (0 < (r18.length:Int))) && (!r6.1.Public))) hc) Z) Z uf (yt Z Z (fun hc=>yp (cnd (c:=((decide (0 < (r18.length:Int))) && (!r6.1.Public))) hc)) (za (qw Z (fun hb=>(cnd (c:=((decide (0 < (r18.length:Int))) && (!r6.1.Public))) hb)) Z) (qd Z (yt Z Z (fun hc=>zz xo Z) (Zr Z Z (fun hc=>yh tyS3 (cnd (c:=(((decide (0 < (r18.length:Int))) && (!r6.1.Public)) && (!r6.1.Must))) hc) Z) Z uf (yt Z Z (fun hc=>yb (cnd (c:=(((decide (0 < (r18.length:Int))) && (!r6.1.Public)) && (!r6.1.Must))) hc) Z) (za (qw Z (fun hb=>(cnd (c:=(((decide (0 < (r18.length:Int))) && (!r6.1.Public)) && (!r6.1.Must))) hb)) Z) (qe Z ?_)))))))))))))))))))))
       refine zg _ Z (fun h20 => ?_) (fun h20 => ?_)
       ·refine tE h20 H fun H=>zb hN Z (qe Z (qe Z (zk ?_)))
        cases H
        exact ⟨U,.inl Z,.inl Z,U⟩
       ·refine fE h20 H fun H=>zn (yd (ι:=Bool) (fun i=>[(4,.dat (ze i)),(5,.dat (vint 0))]) (fun i=>[]) (fun i=>z1h i=some r) (fun i=>Z) ?_ ?_)
        ·skip
         refine zp hN Z (zt (qi wh Z Z Z) Z (bE H fun r21 h22 H=>za (zl (y3e r6.1 r21 h22) ⟨.inl Z,U⟩) (za (qs Z Z) (qd Z (yf (j:=3) Z Z (fun h23 => ?_) (fun h23 => ?_) Z)))))
         ·exact u3 h23 H fun h24 H=>zf Z Z h23 (zz jb Z) (je Z Z h23 (yh qv Z Z) Z (bE H fun r25 h26 H=>zf Z Z h23 (zl (z3q v2.Headers [101,116,97,103] r25 h26) ⟨.inl Z,.inl Z,U⟩) (zf Z Z h23 (qg wa Z) (zf Z Z h23 (qs Z Z) (za (zq Z (bFF h24) Z) (qe Z (qe Z ⟨decide (0 < (r25.length:Int)),H,⟨Z,Z,U⟩,U⟩)))))))
         ·exact u4 h23 H fun h27 H=>zc Z Z h23 (zc Z Z h23 (zc Z Z h23 (zc Z Z h23 (zc Z Z h23 (za (zy Z (bTT h27) Z) (qe Z (qe Z ⟨true,H,⟨Z,Z,U⟩,U⟩)))))))
        ·rintro v28 H
         replace H:z1h v28=some r:=H
         unfold z1h at H
         refine zk ?_
         cases H
         exact ⟨U,.inl Z,.inl Z,U⟩
theorem y96 (a1:ya) (r:(Int×Int)) (H:z22 a1=some r):Fn Tryz.prog 17 [vagg (wt a1)] (zu [vint r.1,vint r.2]):=by
 refine ⟨by kernel_rfl,yj (us:=[vint r.1,vint r.2]) Tryz.func17 Z Z Z Z fun X hN => ?_⟩
 unfold z22 at H
 refine zb hN Z (zj (wu 1 Z) Z (qe Z (qe Z (zb hN Z (za (zz jb Z) (zt (yh qv Z Z) Z (bE H fun r2 h3 H=>za (zl (z9b a1.Headers r2 h3) ⟨.inl Z,U⟩) (qd Z (za (yc Z Z) (za (yc Z Z) (zj (wc 2 ja Z) Z (zj (qq wh Z Z Z Z) Z (qe Z (zi (zb hN Z (qd Z (za (qo Z Z) (zg _ Z (fun h4 => ?_) (fun h4 => ?_)))))))))))))))))))
 ·refine tE h4 H fun H=>zb hN Z (qd Z (qe Z (qe Z (zk ?_))))
  cases H
  exact ⟨U,.inl Z,.inl Z,U⟩
 ·refine fE h4 H fun H=>zn (zi (zb hN Z (zt (qi qp Z Z Z) Z (bE H fun r5 h6 H=>za (zl (z9a a1 r5 h6) ⟨.inl Z,U⟩) (qd Z (za (yc Z Z) (za (yc Z Z) (za (yc Z Z) (qe Z (qe Z (qe Z (zb hN Z (qd Z (za (qo Z Z) (zg _ Z (fun h7 => ?_) (fun h7 => ?_))))))))))))))))
  ·refine tE h7 H fun H=>zb hN Z (qd Z (qe Z (qe Z (zk ?_))))
   cases H
   exact ⟨U,.inl Z,.inl Z,U⟩
  ·refine fE h7 H fun H=>zn (zb hN Z (zt (qi wh Z Z Z) Z (bE H fun r8 h9 H=>za (zl (y3e r2.1 r8 h9) ⟨.inl Z,U⟩) (qe Z (qe Z (zk ?_))))))
   cases H
   exact ⟨U,.inl Z,.inl Z,U⟩
theorem y87 (s p q:Bs) (r:Bs) (H:z56 s p q=some r):Fn Tryz.prog 63 [vstr s,vstr p,vstr q] (zu [vstr r]):=by
 unfold z56 at H
 obtain ⟨⟨h1,h2,h3⟩,h4⟩:=gif H
 cases h4
 refine xl (by kernel_rfl) fun M w vs hM h => ?_
 have hv:=ka (us:=[.string ⟨s.toArray⟩,.string ⟨p.toArray⟩,.string ⟨q.toArray⟩]) h
 subst hv
 obtain ⟨m,hm⟩:=z54 hM
 have hle:=Lib.countB_le ⟨p.toArray⟩ (by simpa [ByteArray.size] using h2) _ ⟨s.toArray⟩ (Nat.le_refl _)
 have e1:(ByteArray.mk s.toArray).size=s.length:=by simp [ByteArray.size]
 have e2:(ByteArray.mk q.toArray).size=q.length:=by simp [ByteArray.size]
 have hmul:Lib.countB ⟨s.toArray⟩ ⟨p.toArray⟩ * q.length≤1000001 * 1000000:=Nat.mul_le_mul (by omega) h3
 refine (Tryz.strings_ReplaceAll ⟨s.toArray⟩ ⟨p.toArray⟩ ⟨q.toArray⟩ m w (by rw [e1]; omega) hm (by simpa [ByteArray.size] using h2) (by rw [e1,e2]; omega)).mono ?_
 rintro e w' ⟨rfl,hb⟩
 exact ⟨_,Z,Z,Kp.of_below hb⟩

theorem y8u (s:Bs) (r:List Bs) (H:z0c s=some r):FnG Tryz.prog 62 [.dat (vstr s)] [] (.row 900 r.length) [(900,.row 9 1 (List.map zo r))]:=by
 obtain ⟨h1,h2,rfl⟩:=x1o H
 have hle:=x1p s
 refine y4d (args:=[vstr s]) (Lib.fields s) (by kernel_rfl) (fun M w vs hM hvs => ?_) (by unfold maxLen; omega)
 have hv:=ka (us:=[.string ⟨s.toArray⟩]) hvs
 subst hv
 refine (Tryz.strings_Fields ⟨s.toArray⟩ w (by simp [ByteArray.size]; omega) (fun j b hj => ?_) (x26 hM)).mono ?_
 ·have:=List.all_eq_true.1 h1 b (List.mem_of_getElem? (by simpa using hj))
  simpa using this
 ·rintro e w' ⟨rfl,rfl⟩
  exact ⟨Z,Z⟩
theorem y9a (s:Bs) (r:List Bs) (H:z0c s=some r):Fn Tryz.prog 62 [vstr s] (zu [vlst (List.map zo r)]):=by
 have h:=y8u s r H
 rw [← List.length_map (f:=zo)] at h
 exact z9u h
theorem y97 (s1:Bs) (r:(Bool)) (H:z0p s1=some r):Fn Tryz.prog 65 [vstr s1] (zu [ze r]):=by
 refine ⟨by kernel_rfl,yj (us:=[ze r]) Tryz.func65 Z Z Z Z fun X hN => ?_⟩
 unfold z0p at H
 refine zb hN Z (qe Z (yd (ι:=Bool) (fun i=>[(2,.dat (ze i))]) (fun i=>[]) (fun i=>Qa i=some r) (fun i=>Z) ?_ ?_))
 ·skip
  refine zp hN Z (qd Z (za (yw tyU9 Z) (bE H fun r2 h3 H=>za (zl (Zd (s1.length:Int) 1 40 r2 h3) ⟨.inl Z,.inl Z,.inl Z,U⟩) (qd Z (yf (j:=3) Z Z (fun h4 => ?_) (fun h4 => ?_) Z)))))
  ·refine u1 h4 H fun h5 H=>zf Z Z h4 (zd (.dat _) Z) (bE H fun l6 h7 H=>zf Z Z h4 (vp tyU9 Z Z Z h7) (bE H fun r8 h9 H=>zf Z Z h4 (zl (z3p l6 [97,98,99,100,101,102,103,104,105,106,107,108,109,110,111,112,113,114,115,116,117,118,119,120,121,122] r8 h9) ⟨.inl Z,.inl Z,U⟩) (za (zy Z (bTT h5) Z) (qd Z (yf (j:=8) Z Z (fun h10 => ?_) (fun h10 => ?_) Z)))))
   ·exact u1 h10 H fun h11 H=>zf Z Z h10 (zd (.dat _) Z) (bE H fun r12 h13 H=>zf Z Z h10 (zl (z3p s1 [97,98,99,100,101,102,103,104,105,106,107,108,109,110,111,112,113,114,115,116,117,118,119,120,121,122,48,49,50,51,52,53,54,55,56,57,45,95] r12 h13) ⟨.inl Z,.inl Z,U⟩) (za (zy Z (bTT h11) Z) (qe Z ⟨r12,H,⟨Z,U⟩,U⟩)))
   ·exact u2 h10 H fun h14 H=>zc Z Z h10 (zc Z Z h10 (za (zq Z (bFF h14) Z) (qe Z ⟨false,H,⟨Z,U⟩,U⟩)))
  ·exact u2 h4 H fun h15 H=>zc Z Z h4 (zc Z Z h4 (zc Z Z h4 (za (zq Z (bFF h15) Z) (qd Z (zc Z Z Z (zc Z Z Z (za (zq Z Z Z) (qe Z ⟨false,H,⟨Z,U⟩,U⟩))))))))
 ·rintro v16 H
  replace H:Qa v16=some r:=H
  unfold Qa at H
  refine zk ?_
  cases H
  exact ⟨U,.inl Z,U⟩
theorem y91 (a1:ya) (r:((List Bs)×Int)) (H:z2y a1=some r):Fn Tryz.prog 19 [vagg (wt a1)] (zu [vlst (List.map zo r.1),vint r.2]):=by
 refine ⟨by kernel_rfl,yj (us:=[vlst (List.map zo r.1),vint r.2]) Tryz.func19 Z Z Z Z fun X hN => ?_⟩
 unfold z2y at H
 refine zb hN Z (zj (wu 1 Z) Z (qe Z (qe Z (zb hN Z (qe Z (zi (zb hN Z (za (zz jb Z) (zt (yh qv Z Z) Z (bE H fun r2 h3 H=>za (zl (z3q a1.Headers [99,97,99,104,101,45,116,97,103] r2 h3) ⟨.inl Z,.inl Z,U⟩) (bE H fun r4 h5 H=>za (zl (z86 r2 [32] r4 h5) ⟨.inl Z,.inl Z,U⟩) (bE H fun r6 h7 H=>za (zl (y87 r4 [44] [32] r6 h7) ⟨.inl Z,.inl Z,.inl Z,U⟩) (bE H fun r8 h9 H=>za (zl (y9a r6 r8 h9) ⟨.inl Z,U⟩) (za (qg wa Z) (qd Z (ye (km 4 2 9 1 Z Z Z (gE H fun h13 H=>qu (fun (k11:Nat) (s:(List Bs))=>[(4,.row 2 s.length),(12,.dat (vlst (List.map zo r8))),(13,.dat (vint (r8.length:Int))),(14,.dat (vint (k11:Int)))]) (fun (k11:Nat) (s:(List Bs))=>[(2,.row 9 1 (List.map zo s))]) [] H ⟨Z,Z,Z,Z,U⟩ ⟨Z,U⟩ (fun _ _=>Z) ?_ ?_))))))))))))))))))
 ·rintro l10 H
  replace H:Yx l10=some r:=H
  unfold Yx at H
  refine zb hN Z (za (yb Z Z) (zi (zg _ Z (fun h=>(lt_t h).elim) (fun h => ?_))))
  refine yx (zb hN Z (za (zd (.row _ _) Z) (bE H fun r15 h16 H=>uo (rn [(0,2)]) [(0,_,_,some _)] [] (z83 l10 r15 h16) ⟨Z,U⟩ ⟨.inl (.inl Z),U⟩ ⟨⟨⟨Z,Z,Z⟩,by simp [Zp,Zq h16]⟩,U⟩ Z ?_)))
  refine zb hN Z (za (zd (.row _ _) Z) (bE H fun r17 h18 H=>uo (rn [(0,2),(900,3)]) [(0,_,_,none)] [(900,_)] (z84 r15 r17 h18) ⟨Z,Z,U⟩ ⟨.inl (.inl (congrArg (Slot.row 2) (Zq h16).symm)),U⟩ ⟨⟨⟨Z,Z,Z⟩,U⟩,U⟩ Z (za (qc (.row _ _) Z) (zi (zb hN Z (za (zd (.row _ _) Z) (zt (z5a wa Z Z) Z (za (qs Z Z) (zg _ Z (fun h19 => ?_) (fun h19 => ?_))))))))))
  ·refine tE h19 H fun H=>zb hN Z (qe Z (qe Z (zk ?_)))
   cases H
   exact ⟨U,.inr ⟨Z,Z⟩,.inl Z,U⟩
  ·refine fE h19 H fun H=>zn (zb hN Z (za (zd (.row _ _) Z) (za (qc (.row _ _) Z) (qe Z (zk ?_)))))
   cases H
   exact ⟨U,uk Z Z,.inl Z,U⟩
 ·rintro k11 x14 l10 q12 h20 h21 H hq12
  replace H:Yw k11 x14 l10=some q12:=H
  unfold Yw at H
  refine zb hN Z (za (yb Z Z) (zi (zg _ Z (fun h => ?_) (fun h=>(lt_f h20 h).elim))))
  refine zn (zi (ye (zb hN Z (za (wi vi (fun _=>Z) Z Z h21) (za (qx tyS9 Z (ql h21) Z) (qe Z (zi (zb hN Z (qd Z (bE H fun r22 h23 H=>za (zl (y97 x14 r22 h23) ⟨.inl Z,U⟩) (za (yp Z) (zg _ Z (fun h24 => ?_) (fun h24 => ?_)))))))))))))
  ·refine tE h24 H fun H=>zb hN Z (qe Z (qe Z (zk ?_)))
   replace H:=retl H hq12
   cases H
   exact ⟨U,.inr ⟨Z,Z⟩,.inl Z,U⟩
  ·refine fE h24 H fun H=>zn (zp hN Z (za (zd (.row _ _) Z) (qd Z (za (zw (u':=vlst (List.map zo [x14])) (yk [[_]] yn ⟨Z,.inl ⟨_,Z,Z,Z⟩,Z,U⟩ Z Z) Z) (gE H fun h25 H=>zj (vq yn (fun _=>Z) Z Z Z ⟨by simp,by first | (simp; done) | simpa using h25⟩ Z) Z ?_)))))
   exact za (qc (.row _ _) Z) (zp hN Z (za (qj Z Z (by omega)) (qd Z ⟨_,qa H,⟨Z,Z,Z,Z,U⟩,⟨Z,U⟩⟩)))
theorem y25 (s1:(List Bs)) (s2:(List Bs)) (r:(Bool)) (H:Ya s1 s2=some r):Fn Tryz.prog 20 [vlst (List.map zo s1),vlst (List.map zo s2)] (zu [ze r]):=by
 refine ⟨by kernel_rfl,yj (us:=[ze r]) Tryz.func20 Z Z Z Z fun X hN => ?_⟩
 unfold Ya at H
 refine zb hN Z (qe Z (zi (zb hN Z (qd Z (za (qg wa Z) (qd Z (za (qg wa Z) (za (qo Z Z) (zg _ Z (fun h3 => ?_) (fun h3 => ?_))))))))))
 ·refine tE h3 H fun H=>zb hN Z (qe Z (zk ?_))
  cases H
  exact ⟨U,.inl Z,U⟩
 ·refine fE h3 H fun H=>zn (zi (zb hN Z (qd Z (za (qg wa Z) (qd Z (ye (gE H fun h6 H=>qu (fun (k4:Nat) (s:Unit)=>[(0,.dat (vlst (List.map zo s1))),(1,.dat (vlst (List.map zo s2))),(12,.dat (vint (s1.length:Int))),(13,.dat (vint (k4:Int)))]) (fun (k4:Nat) (s:Unit)=>[]) () H ⟨Z,Z,Z,Z,U⟩ U (fun _ _=>Z) ?_ ?_)))))))
  ·rintro ⟨⟩ H
   replace H:z8c=some r:=H
   unfold z8c at H
   refine zb hN Z (za (yb Z Z) (zi (zg _ Z (fun h=>(lt_t h).elim) (fun h => ?_))))
   refine yx (zb hN Z (qe Z (zk ?_)))
   cases H
   exact ⟨U,.inl Z,U⟩
  ·rintro k4 x7 ⟨⟩ q5 h8 h9 H hq5
   replace H:z5i s2 k4 x7=some q5:=H
   unfold z5i at H
   refine zb hN Z (za (yb Z Z) (zi (zg _ Z (fun h => ?_) (fun h=>(lt_f h8 h).elim))))
   refine zn (zi (ye (zb hN Z (qd Z (qe Z (zi (ji mixed hN Z Z (qd Z (qd Z (za (wi vi (fun _=>Z) Z Z h9) (za (qx tyS9 Z (ql h9) Z) (qd Z (qd Z (bE H fun x10 h11 H=>za (wi vi (fun _=>Z) Z Z h11) (za (qx tyS9 Z (ql h11) Z) (za (kn Z Z) ⟨Z,?_⟩))))))))))))))))
   refine zg _ Z (fun h12 => ?_) (fun h12 => ?_)
   ·refine tE h12 H fun H=>zb hN Z (qe Z (zk ?_))
    replace H:=retl H hq5
    cases H
    exact ⟨U,.inl Z,U⟩
   ·exact fE h12 H fun H=>zn (zp hN Z (za (qj Z Z (by omega)) (qd Z ⟨_,qa H,⟨Z,Z,Z,Z,U⟩,U⟩)))
theorem x0k  (r:(Bool)) (H:z0x  = some r):Fn Tryz.prog 21 [] (zu [ze r]):=by
 refine ⟨by kernel_rfl,yj (us:=[ze r]) Tryz.func21 Z Z Z Z fun X hN => ?_⟩
 unfold z0x at H
 refine zb hN Z (qe Z (zb hN Z (za (zw (u':=vagg (yg (zm.mk [99,97,99,104,101,45,99,111,110,116,114,111,108] [109,97,120,45,97,103,101,61,50]))) (wz [(0,[vstr [99,97,99,104,101,45,99,111,110,116,114,111,108]]),(1,[vstr [109,97,120,45,97,103,101,61,50]])] jm kv Z ⟨Z,.inl ⟨_,Z,Z,Z⟩,Z,Z,.inl ⟨_,Z,Z,Z⟩,Z,U⟩) Z) (za (zw (u':=vlst (List.map yg [(zm.mk [99,97,99,104,101,45,99,111,110,116,114,111,108] [109,97,120,45,97,103,101,61,50])])) (yk [_] vh ⟨Z,.inr Z,Z,U⟩ Z Z) Z) (za (zw (u':=vagg (wt (ya.mk 200 ([(zm.mk [99,97,99,104,101,45,99,111,110,116,114,111,108] [109,97,120,45,97,103,101,61,50])]) []))) (wz [(0,[vint 200]),(1,[vlst (List.map yg ([(zm.mk [99,97,99,104,101,45,99,111,110,116,114,111,108] [109,97,120,45,97,103,101,61,50])]))])] uh z7t Z ⟨Z,.inl ⟨_,Z,Z,Z⟩,Z,Z,.inl ⟨_,Z,Z,Z⟩,Z,U⟩) Z) (bE H fun r1 h2 H=>za (zl (y3s (ya.mk 200 ([(zm.mk [99,97,99,104,101,45,99,111,110,116,114,111,108] [109,97,120,45,97,103,101,61,50])]) []) r1 h2) ⟨.inl Z,U⟩) (qd Z (za (yc Z Z) (za (yc Z Z) (qe Z (qe Z (zb hN Z (qd Z (za (yo Z Z) (qd Z (yt Z Z (fun hc=>zd (.dat _) Z) (yt Z Z (fun hc=>yo (cnd (c:=(decide (r1.2=0))) hc) Z) (za (qw Z (fun hb=>(cnd (c:=(decide (r1.2=0))) hb)) Z) (qe Z (zk ?_))))))))))))))))))))
 cases H
 exact ⟨U,.inl Z,U⟩
theorem x0m (v1:(List Int)) (r:(Bool)) (H:z6h v1=some r):Fn Tryz.prog 3 [vlst (List.map yq v1)] (zu [ze r]):=by
 refine ⟨by kernel_rfl,yj (us:=[ze r]) Tryz.func3 Z Z Z Z fun X hN => ?_⟩
 unfold z6h at H
 refine zb hN Z (qe Z (zb hN Z (qd Z (za (zw (u':=vagg (yl (zh.mk v1 0))) (wz [(0,[vlst (List.map yq v1)])] y5f y5i Z ⟨Z,.inl ⟨_,Z,Z,Z⟩,Z,U⟩) Z) (zj (wu 1 Z) Z (za (qc (.ptr _ _) Z) (zb hN Z (za (zd (.ptr _ _) Z) (bE H fun r2 h3 H=>zj (zx (x0i (zh.mk v1 0) 0 r2 h3) Z ⟨.inl Z,U⟩ Z) Z (za (zd (.ptr _ _) Z) (bE H fun r4 h5 H=>zj (zx (x0h r2.2 r4 h5) Z U Z) Z (zj (wc 2 ui Z) Z (zj (wc 3 uh Z) Z (zj (qq vg Z Z Z Z) Z (zj (qq qp Z Z Z Z) Z (yd (ι:=Int×(List zm)×Bs×Int×Bs×Bs×Bs×Bs×Bs×(List zm)×Bs) (fun i=>[(4,.ptr 2 0),(5,.ptr 3 0)]) (fun i=>[(2,.box none 28 [.dat (vint i.2.2.2.1),.dat (vstr i.2.2.2.2.1),.dat (vstr i.2.2.2.2.2.1),.dat (vstr i.2.2.2.2.2.2.1),.dat (vstr i.2.2.2.2.2.2.2.1),.dat (vstr i.2.2.2.2.2.2.2.2.1),.dat (vlst (List.map yg i.2.2.2.2.2.2.2.2.2.1)),.dat (vstr i.2.2.2.2.2.2.2.2.2.2)]),(3,.box none 31 [.dat (vint i.1),.dat (vlst (List.map yg i.2.1)),.dat (vstr i.2.2.1)])]) (fun i=>Qt i.1 i.2.1 i.2.2.1 i.2.2.2.1 i.2.2.2.2.1 i.2.2.2.2.2.1 i.2.2.2.2.2.2.1 i.2.2.2.2.2.2.2.1 i.2.2.2.2.2.2.2.2.1 i.2.2.2.2.2.2.2.2.2.1 i.2.2.2.2.2.2.2.2.2.2=some r) (fun i=>Z) ?_ ?_))))))))))))))))
 ·skip
  refine zb hN Z (za (zd (.ptr _ _) Z) (bE H fun r6 h7 H=>zj (zx (wj r4.2 10 r6 h7) Z ⟨.inl Z,U⟩ Z) Z (zg _ Z (fun h8 => ?_) (fun h8 => ?_))))
  ·exact tE h8 H fun H=>zp hN Z (za (zd (.ptr _ _) Z) (bE H fun r9 h10 H=>zj (zx (x0d r6.2 r9 h10) Z U Z) Z (za (zd (.ptr _ _) Z) (bE H fun r11 h12 H=>zj (zx (x0c r9.2 r11 h12) Z U Z) Z (zj (qq vg Z Z Z Z) Z (zj (qq qp Z Z Z Z) Z ⟨(r11.1.Status,r11.1.Headers,r11.1.Body,r9.1.At,r9.1.Method,r9.1.Host,r9.1.Path,r9.1.Query,r9.1.From,r9.1.Headers,r9.1.Body),H,⟨Z,Z,U⟩,⟨Z,Z,U⟩⟩))))))
  ·exact fE h8 H fun H=>zn ⟨(r4.1.Status,r4.1.Headers,r4.1.Body,r2.1.At,r2.1.Method,r2.1.Host,r2.1.Path,r2.1.Query,r2.1.From,r2.1.Headers,r2.1.Body),H,⟨Z,Z,U⟩,⟨Z,Z,U⟩⟩
 ·rintro ⟨c13,c14,c15,c16,c17,c18,c19,c20,c21,c22,c23⟩ H
  replace H:Qt c13 c14 c15 c16 c17 c18 c19 c20 c21 c22 c23=some r:=H
  unfold Qt at H
  refine zb hN Z (zt (qi vg Z Z Z) Z (zt (qi qp Z Z Z) Z (bE H fun r24 h25 H=>za (zl (x0x (yv.mk c16 c17 c18 c19 c20 c21 c22 c23) (ya.mk c13 c14 c15) r24 h25) ⟨.inl Z,.inl Z,U⟩) (qd Z (za (yc Z Z) (za (yc Z Z) (qe Z (qe Z (zb hN Z (zt (qi qp Z Z Z) Z (bE H fun r26 h27 H=>za (zl (y3s (ya.mk c13 c14 c15) r26 h27) ⟨.inl Z,U⟩) (qd Z (za (yc Z Z) (za (yc Z Z) (qe Z (qe Z (zb hN Z (zt (qi qp Z Z Z) Z (bE H fun r28 h29 H=>za (zl (x0v (ya.mk c13 c14 c15) r28 h29) ⟨.inl Z,U⟩) (qd Z ?_))))))))))))))))))))
  refine za (yc Z Z) (za (yc Z Z) (za (yc Z Z) (qe Z (qe Z (qe Z (zb hN Z (zt (qi qp Z Z Z) Z (bE H fun r30 h31 H=>za (zl (x0w (ya.mk c13 c14 c15) r30 h31) ⟨.inl Z,U⟩) (qd Z (za (yc Z Z) (za (yc Z Z) (qe Z (qe Z (zb hN Z (zt (qi qp Z Z Z) Z (bE H fun r32 h33 H=>za (zl (y93 (ya.mk c13 c14 c15) r32 h33) ⟨.inl Z,U⟩) (qe Z (zb hN Z (zt (qi vg Z Z Z) Z (bE H fun r34 h35 H=>za (zl (y94 (yv.mk c16 c17 c18 c19 c20 c21 c22 c23) r34 h35) ⟨.inl Z,U⟩) ?_))))))))))))))))))))
  refine qd Z (za (zw (u':=vlst (List.map y0g [r34,r32])) (yk [[_],[_]] y5j ⟨Z,.inl ⟨_,Z,Z,Z⟩,Z,Z,.inl ⟨_,Z,Z,Z⟩,Z,U⟩ Z Z) Z) (bE H fun r36 h37 H=>za (zl (x0l [r34,r32] r36 h37) ⟨.inl Z,U⟩) (qe Z (zb hN Z (qe Z (yd (ι:=Int×Bool) (fun i=>[(5,.ptr 3 0),(6,.dat (ze r24.1)),(7,.dat (vint r24.2)),(8,.dat (vint r26.1)),(9,.dat (vint r26.2)),(10,.dat (vlst (List.map zo r28.1))),(11,.dat (ze r28.2.1)),(12,.dat (vint r28.2.2)),(13,.dat (vlst (List.map zo r30.1))),(14,.dat (vint r30.2)),(15,.dat (vint r32)),(16,.dat (vint i.1)),(17,.dat (ze i.2))]) (fun i=>[(3,.box none 31 [.dat (vint c13),.dat (vlst (List.map yg c14)),.dat (vstr c15)])]) (fun i=>Zj c13 c14 c15 r24 r26 r28 r30 r32 i.1 i.2=some r) (fun i=>Z) ?_ ?_))))))
  ·skip
   refine zb hN Z (qd Z (za (yo Z Z) (zg _ Z (fun h38 => ?_) (fun h38 => ?_))))
   ·exact tE h38 H fun H=>zp hN Z (zt (qi vg Z Z Z) Z (zt (qi qp Z Z Z) Z (bE H fun r39 h40 H=>za (zl (y92 (yv.mk c16 c17 c18 c19 c20 c21 c22 c23) (ya.mk c13 c14 c15) r39 h40) ⟨.inl Z,.inl Z,U⟩) (qd Z (za (yc Z Z) (za (yc Z Z) (qe Z (qe Z ⟨(r39.2,r39.1),H,⟨Z,Z,Z,Z,Z,Z,Z,Z,Z,Z,Z,Z,Z,U⟩,⟨Z,U⟩⟩))))))))
   ·exact fE h38 H fun H=>zn ⟨(r36,false),H,⟨Z,Z,Z,Z,Z,Z,Z,Z,Z,Z,Z,Z,Z,U⟩,⟨Z,U⟩⟩
  ·rintro ⟨v41,v42⟩ H
   replace H:Zj c13 c14 c15 r24 r26 r28 r30 r32 v41 v42=some r:=H
   unfold Zj at H
   refine zi (zb hN Z (qd Z (qd Z (za (qo Z Z) (qd Z (yy Z Z (fun hc=>zd (.dat _) Z) (yy Z Z (fun hc=>zd (.dat _) Z) (yy Z Z (fun hc=>y6p tyU4 (cnd (c:=(!(decide (r24.2≠v41)))) hc) (cnd (c:=(!(decide (r24.2≠v41)))) hc)) (za (vj Z Z (fun hb=>(cnd (c:=(!(decide (r24.2≠v41)))) (notI hb)))) (zg _ Z (fun h43 => ?_) (fun h43 => ?_)))))))))))
   ·refine tE h43 H fun H=>zb hN Z (qe Z (zk ?_))
    cases H
    exact ⟨U,.inl Z,U⟩
   ·refine fE h43 H fun H=>zn (zb hN Z (qe Z (qe Z (zb hN Z (qe Z (qe Z (zb hN Z (qd Z (qd Z (qd Z (qe Z (qe Z (qe Z (x2y (ι:=Int×Bool×(List Bs)×(List Bs)×Int×Int×Int) (fun i=>[(8,.dat (vint r26.1)),(9,.dat (vint r26.2)),(10,.dat (vlst (List.map zo r28.1))),(11,.dat (ze r28.2.1)),(12,.dat (vint r28.2.2)),(13,.dat (vlst (List.map zo r30.1))),(14,.dat (vint r30.2)),(18,.dat (vint i.1)),(19,.dat (ze i.2.1)),(20,.dat (vlst (List.map zo i.2.2.1))),(21,.dat (vlst (List.map zo i.2.2.2.1))),(22,.dat (vint i.2.2.2.2.1)),(23,.dat (vint i.2.2.2.2.2.1)),(24,.dat (vint i.2.2.2.2.2.2))]) (fun i=>[]) (fun i=>Qs r26 r28 r30 i.1 i.2.1 i.2.2.1 i.2.2.2.1 i.2.2.2.2.1 i.2.2.2.2.2.1 i.2.2.2.2.2.2=some r) (fun i=>Z) (fun i=>Z) ?_ ?_))))))))))))))
    ·skip
     refine zb hN Z (qd Z (za (yo Z Z) (zg _ Z (fun h44 => ?_) (fun h44 => ?_))))
     ·refine tE h44 H fun H=>zb hN Z (zt (qi qp Z Z Z) Z (bE H fun r45 h46 H=>za (zl (y96 (ya.mk c13 c14 c15) r45 h46) ⟨.inl Z,U⟩) (qd Z (za (yc Z Z) (za (yc Z Z) (qe Z (qe Z (zb hN Z (zt (qi qp Z Z Z) Z (bE H fun r47 h48 H=>za (zl (z9a (ya.mk c13 c14 c15) r47 h48) ⟨.inl Z,U⟩) (qd Z (za (yc Z Z) (za (yc Z Z) (za (yc Z Z) (qe Z (qe Z (qe Z (zp hN Z (zt (qi qp Z Z Z) Z (bE H fun r49 h50 H=>?_))))))))))))))))))))
      exact za (zl (y91 (ya.mk c13 c14 c15) r49 h50) ⟨.inl Z,U⟩) (qd Z (za (yc Z Z) (za (yc Z Z) (qe Z (qe Z ⟨(r45.1,r47.2.1,r47.1,r49.1,r45.2,r47.2.2,r49.2),H,⟨.inl Z,.inl Z,.inl Z,.inl Z,.inl Z,.inl Z,.inl Z,.inl Z,.inl Z,.inl Z,.inl Z,.inl Z,.inl Z,.inl Z,U⟩,U⟩)))))
     ·exact fE h44 H fun H=>zn ⟨(0,false,[],[],r32,r32,r32),H,⟨.inl Z,.inl Z,.inl Z,.inl Z,.inl Z,.inl Z,.inl Z,.inl Z,.inl Z,.inr ⟨Z,Z⟩,.inr ⟨Z,Z⟩,.inl Z,.inl Z,.inl Z,U⟩,U⟩
    ·rintro ⟨v51,v52,v53,v54,v55,v56,v57⟩ H
     replace H:Qs r26 r28 r30 v51 v52 v53 v54 v55 v56 v57=some r:=H
     unfold Qs at H
     refine yd (ι:=Bool) (fun i=>[(2,.dat (ze i))]) (fun i=>[]) (fun i=>kk i=some r) (fun i=>Z) ?_ ?_
     ·skip
      refine zp hN Z (qd Z (qd Z (za (yo Z Z) (qd Z (yf (j:=3) Z Z (fun h58 => ?_) (fun h58 => ?_) Z)))))
      ·refine u1 h58 H fun h59 H=>zf Z Z h58 (zd (.dat _) Z) (zf Z Z h58 (zd (.dat _) Z) (zf Z Z h58 (yo Z Z) (za (zy Z (bTT h59) Z) (qd Z (yf (j:=8) Z Z (fun h60 => ?_) (fun h60 => ?_) Z)))))
       ·refine u1 h60 H fun h61 H=>zf Z Z h60 (zd (.dat _) Z) (zf Z Z h60 (zd (.dat _) Z) (zf Z Z h60 (yo Z Z) (za (zy Z (bTT h61) Z) (qd Z (yf (j:=13) Z Z (fun h62 => ?_) (fun h62 => ?_) Z)))))
        ·refine u1 h62 H fun h63 H=>zf Z Z h62 (zd (.dat _) Z) (zf Z Z h62 (zd (.dat _) Z) (zf Z Z h62 (y6q tyU4 Z Z) (za (zy Z (bTT h63) Z) (qd Z (yf (j:=18) Z Z (fun h64 => ?_) (fun h64 => ?_) Z)))))
         ·refine u1 h64 H fun h65 H=>zf Z Z h64 (zd (.dat _) Z) (zf Z Z h64 (zd (.dat _) Z) (bE H fun r66 h67 H=>zf Z Z h64 (zl (y25 r28.1 v53 r66 h67) ⟨.inl Z,.inl Z,U⟩) (za (zy Z (bTT h65) Z) (qd Z (yf (j:=23) Z Z (fun h68 => ?_) (fun h68 => ?_) Z)))))
          ·refine u1 h68 H fun h69 H=>zf Z Z h68 (zd (.dat _) Z) (zf Z Z h68 (zd (.dat _) Z) (zf Z Z h68 (yo Z Z) (za (zy Z (bTT h69) Z) (qd Z (yf (j:=28) Z Z (fun h70 => ?_) (fun h70 => ?_) Z)))))
           ·refine u1 h70 H fun h71 H=>zf Z Z h70 (zd (.dat _) Z) (zf Z Z h70 (zd (.dat _) Z) (bE H fun r72 h73 H=>zf Z Z h70 (zl (y25 r30.1 v54 r72 h73) ⟨.inl Z,.inl Z,U⟩) (za (zy Z (bTT h71) Z) (qd Z (yf (j:=33) Z Z (fun h74 => ?_) (fun h74 => ?_) Z)))))
            ·exact u1 h74 H fun h75 H=>bE H fun r76 h77 H=>zf Z Z h74 (zl (x0k  r76 h77) U) (za (zy Z (bTT h75) Z) (qe Z ⟨r76,H,⟨Z,U⟩,U⟩))
            ·exact u2 h74 H fun h78 H=>zc Z Z h74 (za (zq Z (bFF h78) Z) (qe Z ⟨false,H,⟨Z,U⟩,U⟩))
           ·exact u2 h70 H fun h79 H=>zc Z Z h70 (zc Z Z h70 (zc Z Z h70 (za (zq Z (bFF h79) Z) (qd Z (zc Z Z Z (za (zq Z Z Z) (qe Z ⟨false,H,⟨Z,U⟩,U⟩)))))))
          ·exact u2 h68 H fun h80 H=>zc Z Z h68 (zc Z Z h68 (zc Z Z h68 (za (zq Z (bFF h80) Z) (qd Z (zc Z Z Z (zc Z Z Z (zc Z Z Z (za (zq Z Z Z) (qd Z (zc Z Z Z (za (zq Z Z Z) (qe Z ⟨false,H,⟨Z,U⟩,U⟩))))))))))))
         ·exact u2 h64 H fun h81 H=>zc Z Z h64 (zc Z Z h64 (zc Z Z h64 (za (zq Z (bFF h81) Z) (qd Z (zc Z Z Z (zc Z Z Z (zc Z Z Z (za (zq Z Z Z) (qd Z (zc Z Z Z (zc Z Z Z (zc Z Z Z (za (zq Z Z Z) (qd Z (zc Z Z Z (za (zq Z Z Z) (qe Z ⟨false,H,⟨Z,U⟩,U⟩)))))))))))))))))
        ·refine u2 h62 H fun h82 H=>zc Z Z h62 (zc Z Z h62 (zc Z Z h62 (za (zq Z (bFF h82) Z) (qd Z (zc Z Z Z (zc Z Z Z (zc Z Z Z (za (zq Z Z Z) (qd Z (zc Z Z Z (zc Z Z Z (zc Z Z Z (za (zq Z Z Z) (qd Z (zc Z Z Z (zc Z Z Z (zc Z Z Z (za (zq Z Z Z) (qd Z (zc Z Z Z (za (zq Z Z Z) (qe Z ?_))))))))))))))))))))))
         exact ⟨false,H,⟨Z,U⟩,U⟩
       ·refine u2 h60 H fun h83 H=>zc Z Z h60 (zc Z Z h60 (zc Z Z h60 (za (zq Z (bFF h83) Z) (qd Z (zc Z Z Z (zc Z Z Z (zc Z Z Z (za (zq Z Z Z) (qd Z (zc Z Z Z (zc Z Z Z (zc Z Z Z (za (zq Z Z Z) (qd Z (zc Z Z Z (zc Z Z Z (zc Z Z Z (za (zq Z Z Z) (qd Z (zc Z Z Z (zc Z Z Z (zc Z Z Z ?_))))))))))))))))))))))
        exact za (zq Z Z Z) (qd Z (zc Z Z Z (za (zq Z Z Z) (qe Z ⟨false,H,⟨Z,U⟩,U⟩))))
      ·refine u2 h58 H fun h84 H=>zc Z Z h58 (zc Z Z h58 (zc Z Z h58 (za (zq Z (bFF h84) Z) (qd Z (zc Z Z Z (zc Z Z Z (zc Z Z Z (za (zq Z Z Z) (qd Z (zc Z Z Z (zc Z Z Z (zc Z Z Z (za (zq Z Z Z) (qd Z (zc Z Z Z (zc Z Z Z (zc Z Z Z (za (zq Z Z Z) (qd Z (zc Z Z Z (zc Z Z Z (zc Z Z Z ?_))))))))))))))))))))))
       exact za (zq Z Z Z) (qd Z (zc Z Z Z (zc Z Z Z (zc Z Z Z (za (zq Z Z Z) (qd Z (zc Z Z Z (za (zq Z Z Z) (qe Z ⟨false,H,⟨Z,U⟩,U⟩)))))))))
     ·rintro v85 H
      replace H:kk v85=some r:=H
      unfold kk at H
      refine zk ?_
      cases H
      exact ⟨U,.inl Z,U⟩
end Go.Proofs.YtkldmhhbbceaoaaGreatDoor
