/- Walks along the models. Printed by a program. -/
import Derived.Test.YtmdllhcjefcggabGreatDoorZlw6
namespace Go.Proofs.YtmdllhcjefcggabGreatDoor
open Go.RowKit
set_option linter.unusedVariables false
set_option maxRecDepth 100000
set_option maxHeartbeats 2000000
theorem w15 (l1:(List Int)) (r:(Int)) (H:z8w l1=some r):Fn Tryz.prog 14 [vlst (List.map z94 l1)] (zu [vint r]):=by
 refine ⟨by kernel_rfl,yh (us:=[vint r]) Tryz.func14 Z Z Z Z fun X hN => ?_⟩
 unfold z8w at H
 refine zb hN Z (qe Z (zh (zb hN Z (qd Z (za (qi y8e Z) (qd Z (zw (gE H fun h4 H=>qw (fun (k2:Nat) (s:Unit)=>[(5,.dat (vlst (List.map z94 l1))),(6,.dat (vint (l1.length:Int))),(7,.dat (vint (k2:Int)))]) (fun (k2:Nat) (s:Unit)=>[]) () H ⟨Z,Z,Z,U⟩ U (fun _ _=>Z) ?_ ?_))))))))
 ·rintro ⟨⟩ H
  replace H:y3p=some r:=H
  unfold y3p at H
  refine zb hN Z (za (zx Z Z) (zh (zg _ Z (fun h=>(lt_t h).elim) (fun h => ?_))))
  refine yt (zb hN Z (qe Z (zi ?_)))
  cases H
  exact ⟨U,.inl Z,U⟩
 ·rintro k2 x5 ⟨⟩ q3 h6 h7 H hq3
  replace H:z2p k2 x5=some q3:=H
  unfold z2p at H
  refine zb hN Z (za (zx Z Z) (zh (zg _ Z (fun h => ?_) (fun h=>(lt_f h6 h).elim))))
  refine zl (zh (zw (zb hN Z (za (we y8y (fun _=>Z) Z Z h7) (za (qu y8h Z (qh h7) Z) (qe Z (zb hN Z (qd Z (za (qp Z Z) (zg _ Z (fun h8 => ?_) (fun h8 => ?_)))))))))))
  ·refine tE h8 H fun H=>zb hN Z (qd Z (qe Z (zi ?_)))
   replace H:=retl H hq3
   cases H
   exact ⟨U,.inl Z,U⟩
  ·exact fE h8 H fun H=>zl (zp hN Z (za (qs Z Z (by omega)) (qd Z ⟨_,yx H,⟨Z,Z,Z,U⟩,U⟩)))
theorem x2t (qb:Nat) (r:((List Int))) (H:z8j  = some r):Fn Tryz.prog 85 [vval (.pointer (some ⟨qb,0,none⟩))] (zu [vlst (List.map (CP qb) r)]):=by
 refine ⟨by kernel_rfl,yh (us:=[vlst (List.map (CP qb) r)]) Tryz.func85 Z Z Z Z fun X hN => ?_⟩
 unfold z8j at H
 refine zb hN Z (qe Z (zh (wz mixed hN Z Z (qd Z (za (vz Z) (za (ja Zl Z) (qd Z (za (vz Z) (za (ja z28 Z) (qd Z (za (vz Z) (za (ja z27 Z) (qd Z (za (vz Z) (za (ja y8q Z) (qd Z (za (vz Z) (za (ja z66 Z) (qd Z (za (vz Z) (za (ja Qt Z) (za (ya (u':=vlst (List.map (CP qb) ([6,7,8,9,10,11]:List Int))) (yo [[_],[_],[_],[_],[_],[_]] y8m ⟨Z,.inl ⟨_,Z,Z,Z⟩,Z,Z,.inl ⟨_,Z,Z,Z⟩,Z,Z,.inl ⟨_,Z,Z,Z⟩,Z,Z,.inl ⟨_,Z,Z,Z⟩,Z,Z,.inl ⟨_,Z,Z,Z⟩,Z,Z,.inl ⟨_,Z,Z,Z⟩,Z,U⟩ Z Z) Z) (qe Z ?_)))))))))))))))))))))))
 refine ⟨Z,?_⟩
 refine zi ?_
 cases H
 exact ⟨U,.inl Z,U⟩
theorem w1i  (r:((List Bs))) (H:y2j  = some r):Fn Tryz.prog 87 [] (zu [vlst (List.map zr r)]):=by
 refine ⟨by kernel_rfl,yh (us:=[vlst (List.map zr r)]) Tryz.func87 Z Z Z Z fun X hN => ?_⟩
 unfold y2j at H
 refine zb hN Z (qe Z (zb hN Z (za (ya (u':=vlst (List.map zr [[110,111,45,115,116,111,114,101],[110,111,45,99,97,99,104,101],[112,114,105,118,97,116,101],[112,117,98,108,105,99],[109,117,115,116,45,114,101,118,97,108,105,100,97,116,101],[111,110,108,121,45,105,102,45,99,97,99,104,101,100]])) (yo [[_],[_],[_],[_],[_],[_]] yu ⟨Z,.inl ⟨_,Z,Z,Z⟩,Z,Z,.inl ⟨_,Z,Z,Z⟩,Z,Z,.inl ⟨_,Z,Z,Z⟩,Z,Z,.inl ⟨_,Z,Z,Z⟩,Z,Z,.inl ⟨_,Z,Z,Z⟩,Z,Z,.inl ⟨_,Z,Z,Z⟩,Z,U⟩ Z Z) Z) (qe Z (zi ?_)))))
 cases H
 exact ⟨U,.inl Z,U⟩
theorem w1h (qb:Nat) (r:((List Int))) (H:y2i  = some r):Fn Tryz.prog 88 [vval (.pointer (some ⟨qb,0,none⟩))] (zu [vlst (List.map (CP qb) r)]):=by
 refine ⟨by kernel_rfl,yh (us:=[vlst (List.map (CP qb) r)]) Tryz.func88 Z Z Z Z fun X hN => ?_⟩
 unfold y2i at H
 refine zb hN Z (qe Z (zh (wz mixed hN Z Z (qd Z (za (vz Z) (za (ja y8u Z) (qd Z (za (vz Z) (za (ja Qu Z) (qd Z (za (vz Z) (za (ja y8t Z) (qd Z (za (vz Z) (za (ja y8s Z) (qd Z (za (vz Z) (za (ja y0q Z) (qd Z (za (vz Z) (za (ja y8r Z) (za (ya (u':=vlst (List.map (CP qb) ([0,1,2,3,4,5]:List Int))) (yo [[_],[_],[_],[_],[_],[_]] y8p ⟨Z,.inl ⟨_,Z,Z,Z⟩,Z,Z,.inl ⟨_,Z,Z,Z⟩,Z,Z,.inl ⟨_,Z,Z,Z⟩,Z,Z,.inl ⟨_,Z,Z,Z⟩,Z,Z,.inl ⟨_,Z,Z,Z⟩,Z,Z,.inl ⟨_,Z,Z,Z⟩,Z,U⟩ Z Z) Z) (qe Z ?_)))))))))))))))))))))))
 refine ⟨Z,?_⟩
 refine zi ?_
 cases H
 exact ⟨U,.inl Z,U⟩
theorem w1j  (r:((List Bs))) (H:y2l  = some r):Fn Tryz.prog 89 [] (zu [vlst (List.map zr r)]):=by
 refine ⟨by kernel_rfl,yh (us:=[vlst (List.map zr r)]) Tryz.func89 Z Z Z Z fun X hN => ?_⟩
 unfold y2l at H
 refine zb hN Z (qe Z (zb hN Z (za (ya (u':=vlst (List.map zr [[109,97,120,45,97,103,101],[115,45,109,97,120,97,103,101],[115,116,97,108,101,45,119,104,105,108,101,45,114,101,118,97,108,105,100,97,116,101],[115,116,97,108,101,45,105,102,45,101,114,114,111,114],[109,97,120,45,115,116,97,108,101],[109,105,110,45,102,114,101,115,104]])) (yo [[_],[_],[_],[_],[_],[_]] yu ⟨Z,.inl ⟨_,Z,Z,Z⟩,Z,Z,.inl ⟨_,Z,Z,Z⟩,Z,Z,.inl ⟨_,Z,Z,Z⟩,Z,Z,.inl ⟨_,Z,Z,Z⟩,Z,Z,.inl ⟨_,Z,Z,Z⟩,Z,Z,.inl ⟨_,Z,Z,Z⟩,Z,U⟩ Z Z) Z) (qe Z (zi ?_)))))
 cases H
 exact ⟨U,.inl Z,U⟩
theorem x25 (v1:(List zn)) (r:(zy×Int)) (H:z1k v1=some r):Fn Tryz.prog 45 [vlst (List.map yb v1)] (zu [vagg (vg r.1),vint r.2]):=by
 refine ⟨by kernel_rfl,yh (us:=[vagg (vg r.1),vint r.2]) Tryz.func45 Z Z Z Z fun X hN => ?_⟩
 unfold z1k at H
 refine zb hN Z (zj (qv 1 ue Z) Z (qe Z (zb hN Z (zj (qv 2 ue Z) Z (zh (zb hN Z (bE H fun r2 h3 H=>zm (wy (s := .dr 2 (fun qb=>vlst (List.map (CP qb) r2))) 2 (fun qb=>zk (x2t qb r2 h3) ⟨.inl Z,U⟩) Z Z) Z (zm (wy (s := .dat (vint (r2.length:Int))) 2 (fun qb=>qi y8d Z) Z Z) Z (qd Z (zw (gE H fun h18 H=>qw (fun (k16:Nat) (s:Bool×Bool×Int×Int×Bool×Bool×Bool×Bool×Int×Int×Int×Int)=>[(0,.dat (vlst (List.map yb v1))),(2,.ptr 1 0),(4,.ptr 2 0),(17,.dr 2 (fun qb=>vlst (List.map (CP qb) r2))),(18,.dat (vint (r2.length:Int))),(19,.dat (vint (k16:Int)))]) (fun (k16:Nat) (s:Bool×Bool×Int×Int×Bool×Bool×Bool×Bool×Int×Int×Int×Int)=>[(1,.box none 61 [.dat (ze false),.dat (ze false),.dat (ze false),.dat (ze false),.dat (ze false),.dat (ze false),.dat (vint 0),.dat (vint 0),.dat (vint 0),.dat (vint 0),.dat (vint 0),.dat (vint 0)]),(2,.box none 61 [.dat (ze s.1),.dat (ze s.2.1),.dat (ze s.2.2.2.2.1),.dat (ze s.2.2.2.2.2.1),.dat (ze s.2.2.2.2.2.2.1),.dat (ze s.2.2.2.2.2.2.2.1),.dat (vint s.2.2.2.2.2.2.2.2.1),.dat (vint s.2.2.2.2.2.2.2.2.2.1),.dat (vint s.2.2.2.2.2.2.2.2.2.2.1),.dat (vint s.2.2.2.2.2.2.2.2.2.2.2),.dat (vint s.2.2.1),.dat (vint s.2.2.2.1)])]) (false,false,0,0,false,false,false,false,0,0,0,0) H ⟨Z,Z,Z,Z,Z,Z,U⟩ ⟨Z,Z,U⟩ (fun _ _=>Z) ?_ ?_)))))))))))
 ·rintro ⟨c4,c5,c6,c7,c8,c9,c10,c11,c12,c13,c14,c15⟩ H
  replace H:z9u v1 c4 c5 c6 c7 c8 c9 c10 c11 c12 c13 c14 c15=some r:=H
  unfold z9u at H
  refine zb hN Z (za (zx Z Z) (zh (zg _ Z (fun h=>(lt_t h).elim) (fun h => ?_))))
  refine yt (zh (zb hN Z (qd Z (bE H fun r20 h21 H=>za (zk (z87 v1 [99,97,99,104,101,45,99,111,110,116,114,111,108] r20 h21) ⟨.inl Z,.inl Z,U⟩) (bE H fun r22 h23 H=>za (zk (x2r r20 r22 h23) ⟨.inl Z,U⟩) (za (qi wq Z) (qd Z (zw (gE H fun h38 H=>qw (fun (k36:Nat) (s:Bool×Bool×Int×Int×Bool×Bool×Bool×Bool×Int×Int×Int×Int)=>[(2,.ptr 1 0),(4,.ptr 2 0),(28,.dat (vlst (List.map zr r22))),(29,.dat (vint (r22.length:Int))),(30,.dat (vint (k36:Int)))]) (fun (k36:Nat) (s:Bool×Bool×Int×Int×Bool×Bool×Bool×Bool×Int×Int×Int×Int)=>[(1,.box none 61 [.dat (ze false),.dat (ze false),.dat (ze false),.dat (ze false),.dat (ze false),.dat (ze false),.dat (vint 0),.dat (vint 0),.dat (vint 0),.dat (vint 0),.dat (vint 0),.dat (vint 0)]),(2,.box none 61 [.dat (ze s.1),.dat (ze s.2.1),.dat (ze s.2.2.2.2.1),.dat (ze s.2.2.2.2.2.1),.dat (ze s.2.2.2.2.2.2.1),.dat (ze s.2.2.2.2.2.2.2.1),.dat (vint s.2.2.2.2.2.2.2.2.1),.dat (vint s.2.2.2.2.2.2.2.2.2.1),.dat (vint s.2.2.2.2.2.2.2.2.2.2.1),.dat (vint s.2.2.2.2.2.2.2.2.2.2.2),.dat (vint s.2.2.1),.dat (vint s.2.2.2.1)])]) (c4,c5,c6,c7,c8,c9,c10,c11,c12,c13,c14,c15) H ⟨Z,Z,Z,Z,Z,U⟩ ⟨Z,Z,U⟩ (fun _ _=>Z) ?_ ?_)))))))))
  ·rintro ⟨c24,c25,c26,c27,c28,c29,c30,c31,c32,c33,c34,c35⟩ H
   replace H:y3o c24 c25 c26 c27 c28 c29 c30 c31 c32 c33 c34 c35=some r:=H
   unfold y3o at H
   refine zb hN Z (za (zx Z Z) (zh (zg _ Z (fun h=>(lt_t h).elim) (fun h => ?_))))
   refine yt (zb hN Z (zm (qa vy Z Z Z) Z (zj (qk vy Z Z Z Z) Z (qe Z (zi ?_)))))
   cases H
   exact ⟨U,.inl ⟨_,_,_,vg (zy.mk c24 c25 c28 c29 c30 c31 c32 c33 c34 c35 c26 c27),Z,Z,Z,Z,vy⟩,.inl Z,U⟩
  ·rintro k36 x39 ⟨c24,c25,c26,c27,c28,c29,c30,c31,c32,c33,c34,c35⟩ q37 h40 h41 H hq37
   replace H:z6e k36 x39 c24 c25 c26 c27 c28 c29 c30 c31 c32 c33 c34 c35=some q37:=H
   unfold z6e at H
   refine zb hN Z (za (zx Z Z) (zh (zg _ Z (fun h => ?_) (fun h=>(lt_f h40 h).elim))))
   refine zl (yd (ι:=Bool×Bool×Bool×Bool×Bool×Bool×Int×Int×Int×Int×Int×Int) (fun i=>[(2,.ptr 1 0),(4,.ptr 2 0),(28,.dat (vlst (List.map zr r22))),(29,.dat (vint (r22.length:Int))),(30,.dat (vint (k36:Int)))]) (fun i=>[(1,.box none 61 [.dat (ze false),.dat (ze false),.dat (ze false),.dat (ze false),.dat (ze false),.dat (ze false),.dat (vint 0),.dat (vint 0),.dat (vint 0),.dat (vint 0),.dat (vint 0),.dat (vint 0)]),(2,.box none 61 [.dat (ze i.1),.dat (ze i.2.1),.dat (ze i.2.2.1),.dat (ze i.2.2.2.1),.dat (ze i.2.2.2.2.1),.dat (ze i.2.2.2.2.2.1),.dat (vint i.2.2.2.2.2.2.1),.dat (vint i.2.2.2.2.2.2.2.1),.dat (vint i.2.2.2.2.2.2.2.2.1),.dat (vint i.2.2.2.2.2.2.2.2.2.1),.dat (vint i.2.2.2.2.2.2.2.2.2.2.1),.dat (vint i.2.2.2.2.2.2.2.2.2.2.2)])]) (fun i=>z0h i.1 i.2.1 i.2.2.1 i.2.2.2.1 i.2.2.2.2.1 i.2.2.2.2.2.1 i.2.2.2.2.2.2.1 i.2.2.2.2.2.2.2.1 i.2.2.2.2.2.2.2.2.1 i.2.2.2.2.2.2.2.2.2.1 i.2.2.2.2.2.2.2.2.2.2.1 i.2.2.2.2.2.2.2.2.2.2.2=some q37) (fun i=>Z) ?_ ?_)
   ·skip
    refine zw (zb hN Z (za (we vj (fun _=>Z) Z Z h41) (za (qu tyS9 Z (qh h41) Z) (qe Z (zb hN Z (qd Z (bE H fun r42 h43 H=>za (zk (z1q x39 [61] r42 h43) ⟨.inl Z,.inl Z,U⟩) (qd Z (za (yc Z Z) (za (yc Z Z) (za (yc Z Z) (qe Z (qe Z (qe Z (zb hN Z (qd Z (bE H fun r44 h45 H=>za (zk (y6o r42.2.1 9 r44 h45) ⟨.inl Z,.inl Z,U⟩) (qd Z (za (yc Z Z) (za (yc Z Z) (qe Z ?_)))))))))))))))))))))
    refine qe Z (zh (yd (ι:=Bool) (fun i=>[(2,.ptr 1 0),(4,.ptr 2 0),(9,.dat (vstr r42.1)),(11,.dat (ze r42.2.2)),(12,.dat (vint r44.1)),(28,.dat (vlst (List.map zr r22))),(29,.dat (vint (r22.length:Int))),(30,.dat (vint (k36:Int))),(59,.dat (ze i))]) (fun i=>[(1,.box none 61 [.dat (ze false),.dat (ze false),.dat (ze false),.dat (ze false),.dat (ze false),.dat (ze false),.dat (vint 0),.dat (vint 0),.dat (vint 0),.dat (vint 0),.dat (vint 0),.dat (vint 0)]),(2,.box none 61 [.dat (ze c24),.dat (ze c25),.dat (ze c28),.dat (ze c29),.dat (ze c30),.dat (ze c31),.dat (vint c32),.dat (vint c33),.dat (vint c34),.dat (vint c35),.dat (vint c26),.dat (vint c27)])]) (fun i=>Yf c24 c25 c26 c27 c28 c29 c30 c31 c32 c33 c34 c35 r42 r44 i=some q37) (fun i=>Z) ?_ ?_))
    ·skip
     refine zp hN Z (qd Z (bE H fun r46 h47 H=>za (zk (y20 r42.1 r46 h47) ⟨.inl Z,U⟩) (za (yq Z) (qd Z (yi (j:=3) Z Z (fun h48 => ?_) (fun h48 => ?_) Z)))))
     ·refine u3 h48 H fun h49 H=>zf Z Z h48 (zd (.dat _) Z) (zf Z Z h48 (zd (.dat _) Z) (yi (j:=5) Z Z (fun h50 => ?_) (fun h50 => ?_) Z))
      ·refine u1 h50 H fun h51 H=>zf Z Z h50 (zd (.dat _) Z) (zf Z Z h50 (yq Z) (zf Z Z h50 (zd (.dat _) Z) (yi (j:=8) Z Z (fun h52 => ?_) (fun h52 => ?_) Z)))
       ·exact u3 h52 H fun h53 H=>zf Z Z h52 (zd (.dat _) Z) (bE H fun r54 h55 H=>zf Z Z h52 (zk (Qc r44.1 0 100000000 r54 h55) ⟨.inl Z,.inl Z,.inl Z,U⟩) (zf Z Z h52 (yq Z) (zf Z Z h50 (ye Z (bFF h53) Z) (zf Z Z h48 (yf Z (bTT h51) Z) (za (ye Z (bFF h49) Z) ⟨!r54,H,⟨Z,Z,Z,Z,Z,Z,Z,Z,Z,U⟩,⟨Z,Z,U⟩⟩)))))
       ·exact u4 h52 H fun h56 H=>zc Z Z h52 (zc Z Z h52 (zc Z Z h52 (zf Z Z h50 (yf Z (bTT h56) Z) (zf Z Z h48 (yf Z (bTT h51) Z) (za (ye Z (bFF h49) Z) ⟨true,H,⟨Z,Z,Z,Z,Z,Z,Z,Z,Z,U⟩,⟨Z,Z,U⟩⟩)))))
      ·exact u2 h50 H fun h57 H=>zc Z Z h50 (zc Z Z h50 (zc Z Z h50 (yk Z Z (yk Z Z (yk Z Z (zc Z Z h50 (zf Z Z h48 (ye Z (bFF h57) Z) (za (ye Z (bFF h49) Z) ⟨false,H,⟨Z,Z,Z,Z,Z,Z,Z,Z,Z,U⟩,⟨Z,Z,U⟩⟩))))))))
     ·exact u4 h48 H fun h58 H=>zc Z Z h48 (zc Z Z h48 (yk Z Z (yk Z Z (yk Z Z (yk Z Z (yk Z Z (yk Z Z (yk Z Z (zc Z Z h48 (za (yf Z (bTT h58) Z) ⟨true,H,⟨Z,Z,Z,Z,Z,Z,Z,Z,Z,U⟩,⟨Z,Z,U⟩⟩))))))))))
    ·rintro v59 H
     replace H:Yf c24 c25 c26 c27 c28 c29 c30 c31 c32 c33 c34 c35 r42 r44 v59=some q37:=H
     unfold Yf at H
     refine zg _ Z (fun h60 => ?_) (fun h60 => ?_)
     ·refine tE h60 H fun H=>zb hN Z (za (ya (u':=vagg (vg (zy.mk false false false false false false 0 0 0 0 0 0))) (wx [] ue z65 Z U) Z) (zj (qk vy Z Z Z Z) Z (qe Z (zi ?_))))
      replace H:=retl H hq37
      cases H
      exact ⟨U,.inl ⟨_,_,_,vg (zy.mk false false false false false false 0 0 0 0 0 0),Z,Z,Z,Z,vy⟩,.inl Z,U⟩
     ·refine fE h60 H fun H=>zl (zb hN Z (qd Z (bE H fun r61 h62 H=>za (zk (Ya r42.1 r61 h62) ⟨.inl Z,U⟩) (qe Z (yd (ι:=Bool×Bool×Bool×Bool×Bool×Bool×Int×Int×Int×Int×Int×Int) (fun i=>[(2,.ptr 1 0),(4,.ptr 2 0),(9,.dat (vstr r61)),(11,.dat (ze r42.2.2)),(12,.dat (vint r44.1)),(28,.dat (vlst (List.map zr r22))),(29,.dat (vint (r22.length:Int))),(30,.dat (vint (k36:Int)))]) (fun i=>[(1,.box none 61 [.dat (ze false),.dat (ze false),.dat (ze false),.dat (ze false),.dat (ze false),.dat (ze false),.dat (vint 0),.dat (vint 0),.dat (vint 0),.dat (vint 0),.dat (vint 0),.dat (vint 0)]),(2,.box none 61 [.dat (ze i.1),.dat (ze i.2.1),.dat (ze i.2.2.1),.dat (ze i.2.2.2.1),.dat (ze i.2.2.2.2.1),.dat (ze i.2.2.2.2.2.1),.dat (vint i.2.2.2.2.2.2.1),.dat (vint i.2.2.2.2.2.2.2.1),.dat (vint i.2.2.2.2.2.2.2.2.1),.dat (vint i.2.2.2.2.2.2.2.2.2.1),.dat (vint i.2.2.2.2.2.2.2.2.2.2.1),.dat (vint i.2.2.2.2.2.2.2.2.2.2.2)])]) (fun i=>z0g r42 r44 r61 i.1 i.2.1 i.2.2.1 i.2.2.2.1 i.2.2.2.2.1 i.2.2.2.2.2.1 i.2.2.2.2.2.2.1 i.2.2.2.2.2.2.2.1 i.2.2.2.2.2.2.2.2.1 i.2.2.2.2.2.2.2.2.2.1 i.2.2.2.2.2.2.2.2.2.2.1 i.2.2.2.2.2.2.2.2.2.2.2=some q37) (fun i=>Z) ?_ ?_)))))
      ·skip
       refine zb hN Z (bE H fun r63 h64 H=>za (zk (w1i  r63 h64) U) (qd Z (bE H fun r65 h66 H=>za (zk (z85 r63 r61 r65 h66) ⟨.inl Z,.inl Z,U⟩) (qe Z (zb hN Z (qd Z (za (wt Z Z) (zg _ Z (fun h67 => ?_) (fun h67 => ?_)))))))))
       ·refine tE h67 H fun H=>zb hN Z (bE H fun r68 h69 H=>zm (wy (s := .dr 2 (fun qb=>vlst (List.map (CP qb) r68))) 2 (fun qb=>zk (w1h qb r68 h69) ⟨.inl Z,U⟩) Z Z) Z (qd Z (bE H fun x70 h71 H=>zm (wy (s := .dr 2 (fun qb=>wo (List.map (CP qb) r68) r65.toNat 0)) 2 (fun qb=>uu y83 (fun _=>Z) Z Z h71) Z Z) Z (gE H fun h72 H=>zm (wy (s := .ptr 2 x70.toNat) 2 (fun qb=>qu y8i Z (qh (vo h71).2) Z) Z Z) Z (za (jd Z) (bE H fun c73 h74 H=>zj (z3g tyS4 Z Z Z (y90 (c:=(zy.mk c24 c25 c28 c29 c30 c31 c32 c33 c34 c35 c26 c27)) h72 h74)) Z (zb hN Z (qd Z (zg _ Z (fun h75 => ?_) (fun h75 => ?_))))))))))
        ·refine tE h75 H fun H=>zb hN Z (za (ya (u':=vagg (vg (zy.mk false false false false false false 0 0 0 0 0 0))) (wx [] ue z65 Z U) Z) (zj (qk vy Z Z Z Z) Z (qe Z (zi ?_))))
         replace H:=retl H hq37
         cases H
         exact ⟨U,.inl ⟨_,_,_,vg (zy.mk false false false false false false 0 0 0 0 0 0),Z,Z,Z,Z,vy⟩,.inl Z,U⟩
        ·exact fE h75 H fun H=>zl ⟨(c73.NoStore,c73.NoCache,c73.Private,c73.Public,c73.Must,c73.Only,c73.MaxAge,c73.Shared,c73.Stale,c73.OnError,c73.MaxStale,c73.MinFresh),H,⟨Z,Z,Z,Z,Z,Z,Z,Z,U⟩,⟨Z,Z,U⟩⟩
       ·exact fE h67 H fun H=>zl ⟨(c24,c25,c28,c29,c30,c31,c32,c33,c34,c35,c26,c27),H,⟨Z,Z,Z,Z,Z,Z,Z,Z,U⟩,⟨Z,Z,U⟩⟩
      ·rintro ⟨c76,c77,c78,c79,c80,c81,c82,c83,c84,c85,c86,c87⟩ H
       replace H:z0g r42 r44 r61 c76 c77 c78 c79 c80 c81 c82 c83 c84 c85 c86 c87=some q37:=H
       unfold z0g at H
       refine zb hN Z (bE H fun r88 h89 H=>za (zk (w1j  r88 h89) U) (qd Z (bE H fun r90 h91 H=>za (zk (z85 r88 r61 r90 h91) ⟨.inl Z,.inl Z,U⟩) (qe Z (zb hN Z (qd Z (za (wt Z Z) (zg _ Z (fun h92 => ?_) (fun h92 => ?_)))))))))
       ·refine tE h92 H fun H=>zh (zb hN Z (qd Z (za (yq Z) (zg _ Z (fun h93 => ?_) (fun h93 => ?_)))))
        ·refine tE h93 H fun H=>zb hN Z (za (ya (u':=vagg (vg (zy.mk false false false false false false 0 0 0 0 0 0))) (wx [] ue z65 Z U) Z) (zj (qk vy Z Z Z Z) Z (qe Z (zi ?_))))
         replace H:=retl H hq37
         cases H
         exact ⟨U,.inl ⟨_,_,_,vg (zy.mk false false false false false false 0 0 0 0 0 0),Z,Z,Z,Z,vy⟩,.inl Z,U⟩
        ·refine fE h93 H fun H=>zl (zb hN Z (bE H fun r94 h95 H=>zm (wy (s := .dr 2 (fun qb=>vlst (List.map (CP qb) r94))) 2 (fun qb=>zk (x2t qb r94 h95) ⟨.inl Z,U⟩) Z Z) Z (qd Z (bE H fun x96 h97 H=>zm (wy (s := .dr 2 (fun qb=>wo (List.map (CP qb) r94) r90.toNat 0)) 2 (fun qb=>uu z3a (fun _=>Z) Z Z h97) Z Z) Z (gE H fun h98 H=>zm (wy (s := .ptr 2 x96.toNat) 2 (fun qb=>qu z26 Z (qh (vo h97).2) Z) Z Z) Z (za (qm (.ptr _ _) Z) (zb hN Z (za (zd (.ptr _ _) Z) (za (jd Z) (zm (zv tyS3 Z (y3d (c:=(zy.mk c76 c77 c78 c79 c80 c81 c82 c83 c84 c85 c86 c87)) h98)) Z (za (zx Z Z) (qd Z (yn Z Z (fun hc=>zd (.dat _) Z) (yn Z Z (fun hc=>zd (.ptr _ _) Z) (yn Z Z (fun hc=>jd (cnd (c:=(!(decide ((vx (zy.mk c76 c77 c78 c79 c80 c81 c82 c83 c84 c85 c86 c87) x96) < 0)))) hc)) (jw Z Z (fun hc=>zv tyS3 (cnd (c:=(!(decide ((vx (zy.mk c76 c77 c78 c79 c80 c81 c82 c83 c84 c85 c86 c87) x96) < 0)))) hc) (y3d (c:=(zy.mk c76 c77 c78 c79 c80 c81 c82 c83 c84 c85 c86 c87)) h98)) Z vf (yn Z Z (fun hc=>zx (cnd (c:=(!(decide ((vx (zy.mk c76 c77 c78 c79 c80 c81 c82 c83 c84 c85 c86 c87) x96) < 0)))) hc) (cnd (c:=(!(decide ((vx (zy.mk c76 c77 c78 c79 c80 c81 c82 c83 c84 c85 c86 c87) x96) < 0)))) hc)) (za (wv Z Z (fun hb=>(cnd (c:=(!(decide ((vx (zy.mk c76 c77 c78 c79 c80 c81 c82 c83 c84 c85 c86 c87) x96) < 0)))) (notI hb)))) (zg _ Z (fun h99 => ?_) (fun h99 => ?_))))))))))))))))))))
         ·exact tE h99 H fun H=>zp hN Z (za (zd (.ptr _ _) Z) (qd Z (za (jd Z) (bE H fun c100 h101 H=>zj (z3g tyS3 Z Z Z (y08 (c:=(zy.mk c76 c77 c78 c79 c80 c81 c82 c83 c84 c85 c86 c87)) h98 h101)) Z ⟨(c100.NoStore,c100.NoCache,c100.Private,c100.Public,c100.Must,c100.Only,c100.MaxAge,c100.Shared,c100.Stale,c100.OnError,c100.MaxStale,c100.MinFresh),H,⟨Z,Z,Z,Z,Z,U⟩,⟨Z,Z,U⟩⟩))))
         ·exact fE h99 H fun H=>zl ⟨(c76,c77,c78,c79,c80,c81,c82,c83,c84,c85,c86,c87),H,⟨Z,Z,Z,Z,Z,U⟩,⟨Z,Z,U⟩⟩
       ·exact fE h92 H fun H=>zl ⟨(c76,c77,c78,c79,c80,c81,c82,c83,c84,c85,c86,c87),H,⟨Z,Z,Z,Z,Z,U⟩,⟨Z,Z,U⟩⟩
   ·rintro ⟨c102,c103,c104,c105,c106,c107,c108,c109,c110,c111,c112,c113⟩ H
    replace H:z0h c102 c103 c104 c105 c106 c107 c108 c109 c110 c111 c112 c113=some q37:=H
    unfold z0h at H
    exact zp hN Z (za (qs Z Z (by omega)) (qd Z ⟨_,yx H,⟨Z,Z,Z,Z,Z,U⟩,⟨Z,Z,U⟩⟩))
 ·rintro k16 x19 ⟨c4,c5,c6,c7,c8,c9,c10,c11,c12,c13,c14,c15⟩ q17 h114 h115 H hq17
  replace H:y67 k16 x19 c4 c5 c6 c7 c8 c9 c10 c11 c12 c13 c14 c15=some q17:=H
  unfold y67 at H
  refine zb hN Z (za (zx Z Z) (zh (zg _ Z (fun h => ?_) (fun h=>(lt_f h114 h).elim))))
  exact zl (zh (zw (zb hN Z (zm (wy (s := .dr 2 (fun qb=>wo (List.map (CP qb) r2) k16 0)) 2 (fun qb=>we z3a (fun _=>Z) Z Z h115) Z Z) Z (gE H fun h116 H=>zm (wy (s := .ptr 2 x19.toNat) 2 (fun qb=>qu z26 Z (qh h115) Z) Z Z) Z (za (qm (.ptr _ _) Z) (zp hN Z (za (zd (.ptr _ _) Z) (za (jd Z) (bE H fun c117 h118 H=>zj (z3g tyS3 Z Z Z (y08 (c:=(zy.mk c4 c5 c8 c9 c10 c11 c12 c13 c14 c15 c6 c7)) h116 h118)) Z (zp hN Z (za (qs Z Z (by omega)) (qd Z ⟨_,yx H,⟨Z,Z,Z,Z,Z,Z,U⟩,⟨Z,Z,U⟩⟩)))))))))))))
theorem y6m (s1:Bs) (r:((List wl)×Bool)) (H:Wr s1=some r):Fn Tryz.prog 198 [vstr s1] (zu [vlst (List.map xq r.1),ze r.2]):=by
 refine ⟨by kernel_rfl,yh (us:=[vlst (List.map xq r.1),ze r.2]) Tryz.func198 Z Z Z Z fun X hN => ?_⟩
 unfold Wr at H
 refine zb hN Z (qe Z (qe Z (zb hN Z (qe Z (yd (ι:=(List wl)) (fun i=>[(4,.row 1 i.length)]) (fun i=>[(1,.row 196 2 (List.map xq i))]) (fun i=>y3g i=some r) (fun i=>Z) ?_ ?_)))))
 ·skip
  refine zw (jg 4 1 196 2 Z Z Z (un (fun (s:Bs×(List wl))=>[(0,.dat (vstr s.1)),(4,.row 1 s.2.length)]) (fun (s:Bs×(List wl))=>[(1,.row 196 2 (List.map xq s.2))]) (s1,[]) H ⟨Z,Z,U⟩ ⟨Z,U⟩ (fun _=>Z) ?_))
  rintro ⟨s2,l3⟩ q4 H hq4
  replace H:ua s2 l3=some q4:=H
  unfold ua at H
  refine zh (zb hN Z (qd Z (za (ji Z Z) (zg _ Z (fun h5 => ?_) (fun h5 => ?_)))))
  ·refine tE h5 H fun H=>zl (zw (zh (zb hN Z (qd Z (bE H fun x6 h7 H=>za (qy tyU9 Z Z h7) (za (qp Z Z) (zg _ Z (fun h8 => ?_) (fun h8 => ?_))))))))
   ·refine tE h8 H fun H=>zh (wz mixed hN Z Z (za (zd (.row _ _) Z) (qd Z (za (qy tyU9 Z Z h7) (za (ya (u':=vagg (xq (wl.mk (x6.toNat:Int) true))) (wx [(0,[vval (.int .u8 (x6.toNat:Int))]),(1,[ze true])] y0g y8l Z ⟨Z,.inl ⟨_,Z,Z,Z⟩,Z,Z,.inl ⟨_,Z,Z,Z⟩,Z,U⟩) Z) (za (ya (u':=vlst (List.map xq [(wl.mk (x6.toNat:Int) true)])) (yo [_] y0o ⟨Z,.inr Z,Z,U⟩ Z Z) Z) (gE H fun h9 H=>zj (vk y0o (fun _=>Z) Z Z Z ⟨by simp,by first | (simp; done) | simpa using h9⟩ Z) Z ?_)))))))
    refine qd Z (bE H fun l10 h11 H=>za (jc tyU9 Z Z Z h11) (za (qm (.row _ _) Z) (qe Z ⟨Z,?_⟩)))
    exact yt ⟨_,yx H,⟨Z,Z,U⟩,⟨Z,U⟩⟩
   ·refine fE h8 H fun H=>zl (zh (zb hN Z (qd Z (za (qj tyU9 Z) (za (zx Z Z) (zg _ Z (fun h12 => ?_) (fun h12 => ?_)))))))
    ·refine tE h12 H fun H=>zb hN Z (qe Z (qe Z (zi ?_)))
     replace H:=retl H hq4
     cases H
     exact ⟨U,.inr ⟨Z,Z⟩,.inl Z,U⟩
    ·refine fE h12 H fun H=>zl (zb hN Z (qd Z (bE H fun l13 h14 H=>za (jc tyU9 Z Z Z h14) (bE H fun r15 h16 H=>za (zk (x1t l13 16 8 r15 h16) ⟨.inl Z,.inl Z,.inl Z,U⟩) (qd Z (za (yc Z Z) (za (yc Z Z) (qe Z (qe Z (zh (zb hN Z (qd Z (za (z7f (n:=r15.2) (show Tryz.prog.underlying 124=some (.interface (Tryz.prog.methodsAt 124)) from by kernel_rfl) Z) ?_)))))))))))))
     refine zg _ Z (fun h17 => ?_) (fun h17 => ?_)
     ·refine tE h17 H fun H=>zb hN Z (qe Z (qe Z (zi ?_)))
      replace H:=retl H hq4
      cases H
      exact ⟨U,.inr ⟨Z,Z⟩,.inl Z,U⟩
     ·refine fE h17 H fun H=>zl (wz mixed hN Z Z (za (zd (.row _ _) Z) (qd Z (za (jn Yj tyU5 Z) (za (ya (u':=vagg (xq (wl.mk (IntKind.wrap .u8 r15.1) false))) (wx [(0,[vval (.int .u8 (IntKind.wrap .u8 r15.1))]),(1,[ze false])] y0g y8l Z ⟨Z,.inl ⟨_,Z,Z,Z⟩,Z,Z,.inl ⟨_,Z,Z,Z⟩,Z,U⟩) Z) (za (ya (u':=vlst (List.map xq [(wl.mk (IntKind.wrap .u8 r15.1) false)])) (yo [_] y0o ⟨Z,.inr Z,Z,U⟩ Z Z) Z) (gE H fun h18 H=>zj (vk y0o (fun _=>Z) Z Z Z ⟨by simp,by first | (simp; done) | simpa using h18⟩ Z) Z ?_)))))))
      refine qd Z (bE H fun l19 h20 H=>za (jc tyU9 Z Z Z h20) (za (qm (.row _ _) Z) (qe Z ⟨Z,?_⟩)))
      exact ⟨_,yx H,⟨Z,Z,U⟩,⟨Z,U⟩⟩
  ·refine fE h5 H fun H=>yt ?_
   replace H:=outl H hq4
   exact ⟨l3,H,⟨Z,U⟩,⟨Z,U⟩⟩
 ·rintro out21 H
  replace H:y3g out21=some r:=H
  unfold y3g at H
  refine zb hN Z (za (zd (.row _ _) Z) (za (qm (.row _ _) Z) (qe Z (zi ?_))))
  cases H
  exact ⟨U,z0p Z Z,.inl Z,U⟩
theorem w0v (l:List Bs):Fn Tryz.prog 200 [vlst (List.map zr l)] (zu [vfn 249 [wo [[vlst (List.map zr l)]] 0 0]]):=by
 refine ⟨by kernel_rfl,yh (us:=[vfn 249 [wo [[vlst (List.map zr l)]] 0 0]]) Tryz.func200 Z Z Z Z fun X hN => ?_⟩
 exact zb hN Z (zj (x7i 1 Z Z) Z (qe Z (zh (z92 1 [vlst (List.map zr l)] Z Z (zp hN Z (za (y04 (us:=[_]) ⟨Z,U⟩) (qe Z (zi ⟨U,.inl Z,U⟩))))))))
theorem w2m:x5f Tryz.prog 249 1 true:=by
 intro vals M l cap J Jx W hn hvn hk hc hY h0
 have hnt:Tryz.f249.ntmps=19:=Z
 refine callsIn_of_wp Tryz.func249 Z U ?_ Z
 rw [hnt]
 obtain ⟨vc,hvc⟩:∃ vc:V,vc=vand (wo [[vlst (vals.map fun c=>c.map vval)]] 0 0) cap:=⟨_,rfl⟩
 have hwk:Wk vc (wo [[vlst (vals.map fun c=>c.map vval)]] 0 0):=by rw [hvc]; exact x5n _ _
 have hvm:∀ W',(wo [[vlst (vals.map fun c=>c.map vval)]] 0 0).p W' M cap→vc.p W' M cap:=fun W' h=>by rw [hvc]; exact ⟨Z,h⟩
 have hvo:∀ W' M' v,vc.p W' M' v→v=cap:=fun W' M' v h=>by rw [hvc] at h; exact h.1
 obtain ⟨hM,hcp⟩:=hc _ _ h0
 refine wpIn_seq (wpIn_mono (y1k (N:=19) hM ?hN ?hD [(0,vval (yv l)),(1,vc)] ?hr (Q:=fun e f=>e = .normal∧f 0 = .dat (vval (yv l))∧f 1 = .dat vc∧f 3 = .dat (vint ((vals.length:Int) - 1))) fun X hN => ?_) ?_)
 case hN=>simp
 case hD=>rfl
 case hr=>exact ⟨by simp [yv,vval],by simpa using hvm _ hcp,trivial⟩
 ·exact zp hN Z (za (y9l jp Z hwk Z Z) (za (qi (C:=fun c:List Value=>c.map vval) wq Z) (za (y02 Z Z (by omega)) (qe Z ⟨Z,Z,Z,Z⟩))))
 rintro e a W1 ⟨hk1,hN,hD,f,own,g,M',hfr,rfl,e0,e1,e3⟩
 have t0:a.tmps.getD 0 undef=yv l:=by have:=hfr 0; rw [e0] at this; exact this
 have t1:a.tmps.getD 1 undef=cap:=by have:=hfr 1; rw [e1] at this; exact hvo _ _ _ this
 have t3:a.tmps.getD 3 undef = .int .i64 ((vals.length:Int) - 1):=by have:=hfr 3; rw [e3] at this; exact this
 refine wpIn_block (wpIn_loop_rounds (vals.length+1) ?_)
 have hJ1:=hk _ _ _ h0 hk1
 clear hk1 hfr e0 e1 e3 hcp hM h0
 suffices key:∀ m,m≤vals.length→∀ a W,a.tmps.size=19→a.defers=[]→a.tmps.getD 0 undef=yv l→a.tmps.getD 1 undef=cap→a.tmps.getD 3 undef = .int .i64 ((m:Int) - 1)→J m W→Code.roundsIn Fence.wide 0 Tryz.prog _ _ (m+1) a W from key _ (Nat.le_refl _) a W1 hN hD t0 t1 t3 hJ1
 clear t0 t1 t3 hN hD hJ1
 intro m
 induction m with
 | zero =>
  intro _ a W hN hD t0 t1 t3 hJ
  obtain ⟨hM,hcp⟩:=hc _ _ hJ
  rw [roundsIn_succ]
  refine wpIn_seq (wpIn_seq (wpIn_mono (y1k (N:=19) hM hN hD [(3,vint (-1))] ⟨by rw [t3]; rfl,trivial⟩ (Q:=fun e f=>e = .normal∧f 8 = .dat (ze (decide ((0:Int)≤-1)))) fun X hN => ?_) ?_))
  ·exact zp hN Z (qd Z (za (wt Z Z) ⟨Z,Z⟩))
  rintro e a' W' ⟨hk1,hN',hD',f,own,g,M',hfr,rfl,e8⟩
  have t8:a'.tmps.getD 8 undef = .bool false:=by have:=hfr 8; rw [e8] at this; exact this
  exact wpIn_cond_false t8 (wpIn_exit ⟨hD',_,results_none Z _ _ _,⟨_,Z⟩,.inl (hk _ _ _ hJ hk1)⟩)
 | succ m ih =>
  intro hm a W hN hD t0 t1 t3 hJ
  obtain ⟨hM,hcp⟩:=hc _ _ hJ
  have hm3:(((m+1:Nat):Int) - 1)=(m:Int):=by omega
  rw [hm3] at t3
  rw [roundsIn_succ]
  refine wpIn_seq (wpIn_seq (wpIn_mono (y1k (N:=19) hM hN hD [(0,vval (yv l)),(1,vc),(3,vint (m:Int))] ⟨t0,by rw [t1]; exact hvm _ hcp,by rw [t3]; rfl,trivial⟩ (Q:=fun e f=>e = .normal∧f 0 = .dat (vval (yv l))∧f 1 = .dat vc∧f 3 = .dat (vint (m:Int))∧f 8 = .dat (ze (decide ((0:Int)≤(m:Int))))) fun X hN => ?_) ?_))
  ·exact zp hN Z (qd Z (za (wt Z Z) ⟨Z,Z,Z,Z,Z⟩))
  rintro e a1 W1 ⟨hk1,hN1,hD1,f,own,g,M',hfr,rfl,e0,e1,e3,e8⟩
  have u0:a1.tmps.getD 0 undef=yv l:=by have:=hfr 0; rw [e0] at this; exact this
  have u1:a1.tmps.getD 1 undef=cap:=by have:=hfr 1; rw [e1] at this; exact hvo _ _ _ this
  have u3:a1.tmps.getD 3 undef = .int .i64 (m:Int):=by have:=hfr 3; rw [e3] at this; exact this
  have u8:a1.tmps.getD 8 undef = .bool true:=by
   have:=hfr 8; rw [e8,decide_eq_true (by omega)] at this; exact this
  refine wpIn_cond_true u8 (wpIn_skip ?_)
  have hJ1:=hk _ _ _ hJ hk1
  clear hfr e0 e1 e3 e8 hk1 hJ hM hcp t0 t1 t3 hN hD
  obtain ⟨hM1,hcp1⟩:=hc _ _ hJ1
  refine wpIn_seq (wpIn_block (wpIn_seq ?_))
  refine wpIn_region ?_
  obtain ⟨X,hX⟩:∃ X:Ctx,X=⟨fun b=>M b,W1,[],19,none,[]⟩:=⟨_,rfl⟩
  have hrel:Rel X (frs (datL [(0,vval (yv l)),(1,vc),(3,vint (m:Int))])) (fun _=>none) ⟨fun _=>none,fun _ _=>none⟩ a1 W1:=by
   subst hX
   have he:Ext M (Mof ⟨fun b=>M b,W1,[],19,none,[]⟩ ⟨fun _=>none,fun _ _=>none⟩ (fun _=>none)) W1 W1:=⟨Nat.le_refl _,fun _ _ _ _=>Z,fun b _ hb=>by
    rcases hb with hb | ⟨id,o,ho,_⟩
    ·exact hb
    ·cases ho⟩
   refine ⟨Kp.refl _ _,⟨fun b hb=>⟨hM1.1 b hb,by simp⟩,hM1.2.1,fun b hb=>⟨hM1.2.2 b hb,by simp⟩⟩,hN1,hD1,fun t=>y1o [(0,vval (yv l)),(1,vc),(3,vint (m:Int))] ⟨u0,by rw [u1]; exact vc.keep he (hvm _ hcp1),by rw [u3]; rfl,trivial⟩ t,fun id o ho=>(by cases ho),fun id _ o _ b ho=>(by cases ho),fun id o b ho=>(by cases ho),fun id _=>⟨rfl,fun _=>rfl⟩,fun id e size es h=>(by cases h)⟩
  have hNX:X.N=19:=by rw [hX]
  have hRX:X.R=none:=by rw [hX]
  have hDX:X.D=[]:=by rw [hX]
  have hKX:∀ W',Kp X.S0 X.w0 W'→Kp [] W1 W':=fun W' h=>by rw [hX] at h; exact h
  obtain ⟨el,hel⟩:∃ el,vals[m]?=some el:=⟨_,List.getElem?_eq_getElem (by omega)⟩
  have hell:(el.map vval).length=1:=by rw [List.length_map]; exact hvn el (List.mem_of_getElem? hel)
  obtain ⟨x,rfl⟩:∃ x,el=[x]:=List.length_eq_one_iff.1 (by simpa using hell)
  have helm:(vals.map fun c=>c.map vval)[m]?=some ([x].map vval):=by rw [List.getElem?_map,hel]; rfl
  have helD:vals.getD m []=[x]:=by rw [List.getD_eq_getElem?_getD,hel]; rfl
  clear hX
  refine opsR hRX (n:=6+2) rfl (x0f (P:=Tryz.prog) (X:=X) (by rw [hNX]; rfl) [_,_,_,_,_,_] [_,_] 0 _ _ [] _ a1 W1 rfl hrel ?_)
  refine qd Z (qd Z (za (y9l jp Z hwk Z Z) (qd Z ?_)))
  refine za (y4i (k:=m) vj Z Z (by rw [List.length_map]; omega) (fun c hc=>by
   obtain ⟨c',hc',rfl⟩:=List.mem_map.1 hc
   rw [List.length_map]; exact hvn c' hc')) ?_
  refine za (qu tyS9 Z helm Z) ?_
  intro g2 a2 W2 k2
  have v0:a2.tmps.getD 0 undef=yv l:=k2.fr 0
  have v1:a2.tmps.getD 1 undef=cap:=hvo _ _ _ (k2.fr 1)
  have v3:a2.tmps.getD 3 undef = .int .i64 (m:Int):=k2.fr 3
  have v11:a2.tmps.getD 11 undef=yv l:=k2.fr 11
  have v12:a2.tmps.getD 12 undef = .int .i64 (m:Int):=k2.fr 12
  have v16:a2.tmps.getD 16 undef=x:=k2.fr 16
  have hN2:a2.tmps.size=19:=k2.n.trans hNX
  have hD2:a2.defers=[]:=k2.df.trans hDX
  have hJ2:=hk _ _ _ hJ1 (hKX _ k2.kp)
  clear k2 hrel
  obtain ⟨fn,tm,asg,bdy,hrun,hR⟩:=hY m W2 (by omega) hJ2
  rw [helD] at hrun
  change (Instr.yield l #[.int .i64 (m:Int),x]).run Tryz.prog W2=_ at hrun
  rw [hRX]
  show wpOpsIn Fence.wide 0 Tryz.prog _ _ [6,7] a2 W2
  refine x5j Z Z Z v11 (by simp [Act.eval,v12,v16]) hrun (hR.mono ?_)
  rintro e W3 (⟨rfl,hJ3⟩ | ⟨rfl,hJ3⟩)
  ·obtain ⟨hM3,hcp3⟩:=hc _ _ hJ3
   refine ⟨_,Z,?_⟩
   obtain ⟨a3,ha3⟩:∃ a3:Act,a3=a2.put (some 17) (.bool true):=⟨_,rfl⟩
   have hN3:a3.tmps.size=19:=by rw [ha3]; simpa [Act.put] using hN2
   have hD3:a3.defers=[]:=by rw [ha3]; exact hD2
   have g3:∀ t,a3.tmps.getD t undef=if t=17 then .bool true else a2.tmps.getD t undef:=fun t=>by rw [ha3]; exact z93 hN2 (by decide) t
   show wpOpsIn Fence.wide 0 Tryz.prog _ _ (List.range' 7 1) (a2.put (some 17) (.bool true)) W3
   rw [← ha3]
   refine opsT (N:=19) (i:=7) (os:=[_]) hM3 hN3 hD3 [(0,vval (yv l)),(1,vc),(3,vint (m:Int)),(17,ze true)] ⟨?_,?_,?_,?_,U⟩ (Q':=fun f=>f 0 = .dat (vval (yv l))∧f 1 = .dat vc∧f 3 = .dat (vint (m:Int))∧f 18 = .dat (ze (!true))) Z Z (fun _ _ => ?_) ?_
   ·show _=_
    rw [g3,if_neg (by decide)]; exact v0
   ·rw [g3,if_neg (by decide),v1]; exact hvm _ hcp3
   ·show _=_
    rw [g3,if_neg (by decide)]; exact v3
   ·show _=_
    rw [g3,if_pos Z]
   ·exact za (yq Z) ⟨Z,Z,Z,Z⟩
   intro a4 W4 hk4 hN4 hD4 f g M' hfr ⟨e0,e1,e3,e18⟩
   have z0:a4.tmps.getD 0 undef=yv l:=by have:=hfr 0; rw [e0] at this; exact this
   have z1:a4.tmps.getD 1 undef=cap:=by have:=hfr 1; rw [e1] at this; exact hvo _ _ _ this
   have z3:a4.tmps.getD 3 undef = .int .i64 (m:Int):=by have:=hfr 3; rw [e3] at this; exact this
   have z18:a4.tmps.getD 18 undef = .bool false:=by have:=hfr 18; rw [e18] at this; exact this
   refine wpIn_cond_false z18 (wpIn_skip ?_)
   have hJ4:=hk _ _ _ hJ3 hk4
   obtain ⟨hM4,hcp4⟩:=hc _ _ hJ4
   refine wpIn_mono (y1k (N:=19) hM4 hN4 hD4 [(0,vval (yv l)),(1,vc),(3,vint (m:Int))] ⟨z0,by rw [z1]; exact hvm _ hcp4,by rw [z3]; rfl,trivial⟩ (Q:=fun e f=>e = .normal∧f 0 = .dat (vval (yv l))∧f 1 = .dat vc∧f 3 = .dat (vint ((m:Int) - 1))) fun X hN => ?_) ?_
   ·exact zp hN Z (qd Z (za (y02 Z Z (by omega)) (qe Z ⟨Z,Z,Z,Z⟩)))
   rintro e a5 W5 ⟨hk5,hN5,hD5,f5,own5,g5,M5,hfr5,rfl,e0,e1,e3⟩
   exact ih (by omega) a5 W5 hN5 hD5 (by have:=hfr5 0; rw [e0] at this; exact this) (by have:=hfr5 1; rw [e1] at this; exact hvo _ _ _ this) (by have:=hfr5 3; rw [e3] at this; exact this) (hk _ _ _ hJ4 hk5)
  ·refine ⟨_,Z,?_⟩
   obtain ⟨a3,ha3⟩:∃ a3:Act,a3=a2.put (some 17) (.bool false):=⟨_,rfl⟩
   show wpOpsIn Fence.wide 0 Tryz.prog _ _ [7] (a2.put (some 17) (.bool false)) W3
   rw [← ha3]
   have g3:∀ t,a3.tmps.getD t undef=if t=17 then .bool false else a2.tmps.getD t undef:=fun t=>by rw [ha3]; exact z93 hN2 (by decide) t
   have hN3:a3.tmps.size=19:=by rw [ha3]; simpa [Act.put] using hN2
   have hD3:a3.defers=[]:=by rw [ha3]; exact hD2
   have v17:a3.tmps.getD 17 undef = .bool false:=by rw [g3,if_pos Z]
   rw [wpOpsIn_cons]
   unfold wpOpIn
   refine ⟨fun _ _=>U,?_⟩
   have hrun:∀ o:Oper,o.op = .unOp .not 4 (.tmp 17)→(o.semAt Fence.wide.round a3.eval).run Tryz.prog W3 = .ok (.value (.bool true)) W3:=fun o ho=>by
    rw [Oper.semAt_eq Fence.wide.round a3.eval o (fun c hc=>by rw [ho] at hc; cases hc)]
    have h1:a3.eval (.tmp 17) = .bool false:=v17
    simp only [execOp,ho,h1,Op.unary]
    rfl
   rw [hrun _ Z,Oper.uponIn_value]
   have t18:(a3.put (some 18) (.bool true)).tmps.getD 18 undef = .bool true:=by rw [show (a3.put (some 18) (.bool true)).tmps=a3.tmps.setIfInBounds 18 (.bool true) from Z,z93 hN3 (by decide),if_pos Z]
   exact wpIn_cond_true t18 (wpIn_ret ⟨hD3,_,results_none Z _ _ _,⟨_,Z⟩,.inr hJ3⟩)

theorem x97 (l r:List Bs) (H:z78 l=some r):FnG Tryz.prog 201 [.row 0 l.length] [(0,.rowA undef 9 1 (List.map zr l))] (.dat (zu [])) [(0,.rowA undef 9 1 (List.map zr r))]:=by
 obtain ⟨hl,hr⟩:=gif H
 cases hr
 refine x3y (fun s:Bs=>Value.string ⟨s.toArray⟩) l.reverse l List.length_reverse (by kernel_rfl) (fun _=>Z) (fun blk cap w hH hb => ?_) (fun h w => ?_)
 ·refine (Tryz.slices_Reverse_string blk 0 cap l w hH (by omega)).mono ?_
  rintro r w' ⟨rfl,n,rfl⟩
  exact ⟨rfl,n,#[],by simp [Sort.grow]; rfl⟩
 ·exact Tryz.slices_Reverse_string_empty none 0 w
theorem x2s (n1:Int) (r:(Bs)) (H:y2k n1=some r):Fn Tryz.prog 248 [vval (.int .u8 n1)] (zu [vstr r]):=by
 refine ⟨by kernel_rfl,yh (us:=[vstr r]) Tryz.func248 Z Z Z Z fun X hN => ?_⟩
 unfold y2k at H
 refine zb hN Z (qe Z (zb hN Z (qd Z (qd Z (za (yj _ Z Z (.inl ⟨Z,Z⟩)) (bE H fun l2 h3 H=>za (x6h tyU9 Z Z Z h3) (qe Z (zi ?_))))))))
 cases H
 exact ⟨U,.inl Z,U⟩
theorem x2u (c1:Int) (r:(Bs)) (H:Ws c1=some r):Fn Tryz.prog 199 [vval (.int .u8 c1)] (zu [vstr r]):=by
 refine ⟨by kernel_rfl,yh (us:=[vstr r]) Tryz.func199 Z Z Z Z fun X hN => ?_⟩
 unfold Ws at H
 refine zb hN Z (qe Z (zb hN Z (qd Z (za (ya (z0s Z Z (by decide)) Z) (bE H fun r2 h3 H=>za (zk (x2s (shr_ .u8 c1 4) r2 h3) ⟨.inl Z,U⟩) (gE H fun h4 H=>za (jj Z Z (Nat.le_trans h4 (by decide))) (qd Z (za (ya (y9y Z Z) Z) (bE H fun r5 h6 H=>za (zk (x2s (and_ .u8 c1 15) r5 h6) ⟨.inl Z,U⟩) (gE H fun h7 H=>za (jj Z Z (Nat.le_trans h7 (by decide))) (qe Z (zi ?_))))))))))))
 cases H
 exact ⟨U,.inl Z,U⟩
theorem w1p (v1:Bs) (r:(Bs×Int)) (H:z8m v1=some r):Fn Tryz.prog 144 [vstr v1] (zu [vstr r.1,vint r.2]):=by
 refine ⟨by kernel_rfl,x8z (us:=[vstr r.1,vint r.2]) Tryz.func144 Z Z Z Z fun X hN hR => ?_⟩
 unfold z8m at H
 refine Qo hR (zp hN Z (qe Z (qe Z (Qo hR (zb hN Z (qd Z (bE H fun r2 h3 H=>za (zk (x2q v1 r2 h3) ⟨.inl Z,U⟩) (za (yq Z) (zg _ Z (fun h4 => ?_) (fun h4 => ?_))))))))))
 ·refine tE h4 H fun H=>zb hN Z (qe Z (qe Z (zi ?_)))
  cases H
  exact ⟨[(2,.dat (vstr [])),(3,.dat (vint 3))],[],⟨Z,Z,U⟩,U,Z,Z,⟨.inl Z,.inl Z,U⟩⟩
 ·refine fE h4 H fun H=>zl (Qo hR (zp hN Z (qd Z (bE H fun r5 h6 H=>za (zk (y6m v1 r5 h6) ⟨.inl Z,U⟩) (qd Z (za (yc Z Z) (za (yc Z Z) (qe Z (qe Z (Qo hR (zb hN Z (qd Z (za (yq Z) (zg _ Z (fun h7 => ?_) (fun h7 => ?_)))))))))))))))
  ·refine tE h7 H fun H=>zb hN Z (qe Z (qe Z (zi ?_)))
   cases H
   exact ⟨[(2,.dat (vstr [])),(3,.dat (vint 9))],[],⟨Z,Z,U⟩,U,Z,Z,⟨.inl Z,.inl Z,U⟩⟩
  ·refine fE h7 H fun H=>zl (Qo hR (zp hN Z (qe Z (Qo hR (zb hN Z (qd Z (za (qi y8f Z) (qd Z (zw (gE H fun h11 H=>qw (fun (k9:Nat) (s:Bs)=>[(2,.dat (vstr [])),(3,.dat (vint 0)),(6,.dat (vstr s)),(24,.dat (vlst (List.map xq r5.1))),(25,.dat (vint (r5.1.length:Int))),(26,.dat (vint (k9:Int)))]) (fun (k9:Nat) (s:Bs)=>[]) [] H ⟨Z,Z,Z,Z,Z,Z,U⟩ U (fun _ _=>Z) ?_ ?_))))))))))
   ·rintro v8 H
    replace H:z9r v8=some r:=H
    unfold z9r at H
    refine zb hN Z (za (zx Z Z) (zh (zg _ Z (fun h=>(lt_t h).elim) (fun h => ?_))))
    refine yt (Qo hR (zp hN Z (qd Z (bE H fun l13 h14 H=>za (jc tyU9 Z Z Z h14) (bE H fun r15 h16 H=>za (zk (Qb l13 [47] r15 h16) ⟨.inl Z,.inl Z,U⟩) (zj (qv 1 y8c Z) Z (zj (vr jp Z Z Z Z) Z (Qo hR (zp hN Z (zj (qv 2 y8c Z) Z (Qo hR (zp hN Z (zj (qv 3 tyZ3 Z) Z (zj (vr tyS3 Z Z Z Z) Z (w4z hR (zp hN Z (zm (zv jp Z Z) Z (za (zk (w0v r15) ⟨.inl Z,U⟩) ⟨Z,?_⟩))))))))))))))))))
    refine x8u 2 0 4 9 1 Z Z Z Z (gE H fun h20 H=>x8v (s0:=(0,([]:List Bs))) hR hN [(2,.dat (vstr [])),(3,.dat (vint 0)),(9,.ptr 1 0),(10,.ptr 2 0),(11,.ptr 3 0),(60,.dat (vfn 249 [wo [[vlst (List.map zr r15)]] 0 0]))] [(1,.box none 31 [.dat (vlst (List.map zr r15))]),(2,.box none 31 [.row 4 0]),(3,.box none 3 [.dat (vint 0)]),(4,.row 9 1 (List.map zr ([]:List Bs)))] (fun (s:Int×(List Bs))=>[(1,.box none 31 [.dat (vlst (List.map zr r15))]),(2,.box none 31 [.row 4 s.2.length]),(3,.box none 3 [.dat (vint s.1)]),(4,.row 9 1 (List.map zr s.2))]) w2m (fun _=>Z) (enters_of Tryz.func249 (by kernel_rfl) Z) Z h20 H ⟨Z,Z,Z,Z,Z,Z,U⟩ ⟨Z,Z,Z,Z,U⟩ Z Z (fun _=>Z) (fun _=>Z) (fun _ _=>Z) (fun _ _=>Z) (fun _=>Z) (fun _=>Z) (by decide) (by decide) ?_ ?_)
    ·rintro A X k21 x22 ⟨c17,l18⟩ q19 hN h23 h24 H hq19
     replace H:z0e r15 k21 x22 c17 l18=some q19:=H
     unfold z0e at H
     refine zb hN Z (qe Z (zp hN Z (qe Z ⟨Z,[(9,.ptr 1 0),(10,.ptr 2 0),(11,.ptr 3 0),(12,.dat (vint (k21:Int))),(13,.dat (vstr x22))],[(1,.box (some (A 1)) 31 [.dat (vlst (List.map zr r15))]),(2,.box (some (A 2)) 31 [.row 4 l18.length]),(3,.box (some (A 3)) 3 [.dat (vint c17)]),(4,.row 9 1 (List.map zr l18))],⟨Z,Z,Z,Z,Z,U⟩,⟨Z,Z,Z,Z,U⟩,Z,Z,Z,fun X hN => ?_⟩)))
     refine zw (zw (zb hN Z (qd Z (za (va Z Z) (qd Z (yn Z Z (fun hc=>zd (.dat _) Z) (yn Z Z (fun hc=>va (cnd (c:=(!(decide (x22=[46])))) hc) Z) (za (wv Z Z (fun hb=>(cnd (c:=(!(decide (x22=[46])))) (notI hb)))) (qe Z (zg _ Z (fun h25 => ?_) (fun h25 => ?_)))))))))))
     ·refine tE h25 H fun H=>yd (ι:=(List Bs)) (fun i=>[(9,.ptr 1 0),(10,.ptr 2 0),(11,.ptr 3 0),(13,.dat (vstr x22))]) (fun i=>[(1,.box (some (A 1)) 31 [.dat (vlst (List.map zr r15))]),(2,.box (some (A 2)) 31 [.row 4 i.length]),(3,.box (some (A 3)) 3 [.dat (vint c17)]),(4,.row 9 1 (List.map zr i))]) (fun i=>z16 c17 x22 i=some q19) (fun i=>Z) ?_ ?_
      ·skip
       refine zb hN Z (qd Z (zm (zv jp Z Z) Z (za (qi wq Z) (za (yj _ Z Z (.inr (.inl ⟨Z,Z⟩))) (za (qf Z Z) (zg _ Z (fun h26 => ?_) (fun h26 => ?_)))))))
       ·refine tE h26 H fun H=>zp hN Z (zm (zv jp Z Z) Z (za (ya (u':=vlst (List.map zr [[]])) (yo [[_]] yu ⟨Z,.inl ⟨_,Z,Z,Z⟩,Z,U⟩ Z Z) Z) (gE H fun h27 H=>zj (vk yu (fun _=>Z) Z Z Z ⟨by simp,by first | (simp; done) | simpa using h27⟩ Z) Z ?_)))
        refine uw (uv jp Z Z (by rw [List.length_map]) Z) Z Z ?_
        exact ⟨(l18++([[]])),H,⟨Z,Z,Z,Z,U⟩,⟨Z,Z,Z,Z,U⟩⟩
       ·exact fE h26 H fun H=>zl ⟨l18,H,⟨Z,Z,Z,Z,U⟩,⟨Z,Z,Z,Z,U⟩⟩
      ·rintro l28 H
       replace H:z16 c17 x22 l28=some q19:=H
       unfold z16 at H
       refine zb hN Z (qd Z (za (va Z Z) (zg _ Z (fun h29 => ?_) (fun h29 => ?_))))
       ·exact tE h29 H fun H=>zp hN Z (zm (zv tyS3 Z Z) Z (za (yj _ Z Z (.inl ⟨Z,Z⟩)) (zj (vr tyS3 Z Z Z Z) Z ⟨_,yx H,⟨Z,Z,Z,Z,U⟩⟩)))
       ·exact fE h29 H fun H=>zl ⟨_,yx H,⟨Z,Z,Z,Z,U⟩⟩
     ·refine fE h25 H fun H=>zb hN Z (zm (zv tyS3 Z Z) Z (za (wg Z Z) (qe Z (zg _ Z (fun h30 => ?_) (fun h30 => ?_)))))
      ·exact tE h30 H fun H=>zp hN Z (zm (zv tyS3 Z Z) Z (za (yj _ Z Z (.inr (.inl ⟨Z,Z⟩))) (zj (vr tyS3 Z Z Z Z) Z ⟨_,yx H,⟨Z,Z,Z,Z,U⟩⟩)))
      ·refine fE h30 H fun H=>zp hN Z (zm (zv jp Z Z) Z (qd Z (za (ya (u':=vlst (List.map zr [x22])) (yo [[_]] yu ⟨Z,.inl ⟨_,Z,Z,Z⟩,Z,U⟩ Z Z) Z) (gE H fun h31 H=>zj (vk yu (fun _=>Z) Z Z Z ⟨by simp,by first | (simp; done) | simpa using h31⟩ Z) Z ?_))))
       refine uw (uv jp Z Z (by rw [List.length_map]) Z) Z Z ?_
       exact ⟨_,yx H,⟨Z,Z,Z,Z,U⟩⟩
    ·rintro A X ⟨c17,l18⟩ hN hR H
     replace H:z54 c17 l18=some r:=H
     unfold z54 at H
     refine zb hN Z (zm (zv jp Z Z) Z (bE H fun r32 h33 H=>ww (rn [(0,4)]) [(0,_,_,some _)] [] (x97 l18 r32 h33) ⟨Z,U⟩ ⟨.inl (.inl Z),U⟩ ⟨⟨⟨Z,Z,Z⟩,by simp [uh,x0n h33]⟩,U⟩ Z ?_))
     refine zh (z6x 2 0 4 Z Z Z (by rw [List.length_map]; exact (x0n h33).symm) ?_)
     refine zp hN Z (zm (zv jp Z Z) Z (bE H fun r34 h35 H=>za (zk (z5e r32 [47] r34 h35) ⟨.inl Z,.inl Z,U⟩) (gE H fun h36 H=>za (jj Z Z (Nat.le_trans h36 (by decide))) (qe Z (qe Z (zi ?_))))))
     cases H
     exact ⟨.inr Z,[(2,.dat (vstr ([47]++r34))),(3,.dat (vint 0))],[],⟨Z,Z,U⟩,U,Z,Z,⟨.inl Z,.inl Z,U⟩⟩
   ·rintro k9 x12 v8 q10 h37 h38 H hq10
    replace H:z14 k9 x12 v8=some q10:=H
    unfold z14 at H
    refine zb hN Z (za (zx Z Z) (zh (zg _ Z (fun h => ?_) (fun h=>(lt_f h37 h).elim))))
    refine zl (yd (ι:=Bs) (fun i=>[(2,.dat (vstr [])),(3,.dat (vint 0)),(6,.dat (vstr i)),(24,.dat (vlst (List.map xq r5.1))),(25,.dat (vint (r5.1.length:Int))),(26,.dat (vint (k9:Int)))]) (fun i=>[]) (fun i=>z15 i=some q10) (fun i=>Z) ?_ ?_)
    ·skip
     refine zw (zb hN Z (za (we y81 (fun _=>Z) Z Z h38) (za (xy y0k Z (qh h38) Z) (zj (qv 5 y0g Z) Z (zj (qk y0k Z Z Z Z) Z (yd (ι:=Bool) (fun i=>[(2,.dat (vstr [])),(3,.dat (vint 0)),(6,.dat (vstr v8)),(8,.ptr 5 0),(24,.dat (vlst (List.map xq r5.1))),(25,.dat (vint (r5.1.length:Int))),(26,.dat (vint (k9:Int))),(43,.dat (ze i))]) (fun i=>[(5,.box none 196 [.dat (vval (.int .u8 x12.c_)),.dat (ze x12.plain_)])]) (fun i=>Qi v8 x12 i=some q10) (fun i=>Z) ?_ ?_))))))
     ·skip
      refine zp hN Z (za (zq x57 Z) (zm (zv tyS4 Z Z) Z (qd Z (yi (j:=2) Z Z (fun h39 => ?_) (fun h39 => ?_) Z))))
      ·refine u3 h39 H fun h40 H=>zf Z Z h39 (zq z69 Z) (vt Z Z h39 (zv tyS5 Z Z) Z (zf Z Z h39 (jn tyU5 z25 Z) (zf Z Z h39 (y4j z25 Z tyU9 Z) (bE H fun r41 h42 H=>zf Z Z h39 (zk (z5f (encL (IntKind.wrap .i32 x12.c_)) [97,98,99,100,101,102,103,104,105,106,107,108,109,110,111,112,113,114,115,116,117,118,119,120,121,122,65,66,67,68,69,70,71,72,73,74,75,76,77,78,79,80,81,82,83,84,85,86,87,88,89,90,48,49,50,51,52,53,54,55,56,57,45,46,95,126] r41 h42) ⟨.inl Z,.inl Z,U⟩) (zf Z Z h39 (zd (.dat _) Z) (yi (j:=8) Z Z (fun h43 => ?_) (fun h43 => ?_) Z))))))
       ·exact u1 h43 H fun h44 H=>zf Z Z h43 (zq z69 Z) (vt Z Z h43 (zv tyS5 Z Z) Z (zf Z Z h43 (zx Z Z) (zf Z Z h39 (yf Z (bTT h44) Z) (za (ye Z (bFF h40) Z) ⟨decide (x12.c_ < 128),H,⟨Z,Z,Z,Z,Z,Z,Z,Z,U⟩,⟨Z,U⟩⟩))))
       ·exact u2 h43 H fun h45 H=>zc Z Z h43 (zc Z Z h43 (zc Z Z h43 (zf Z Z h39 (ye Z (bFF h45) Z) (za (ye Z (bFF h40) Z) ⟨false,H,⟨Z,Z,Z,Z,Z,Z,Z,Z,U⟩,⟨Z,U⟩⟩))))
      ·exact u4 h39 H fun h46 H=>zc Z Z h39 (zc Z Z h39 (zc Z Z h39 (zc Z Z h39 (zc Z Z h39 (zc Z Z h39 (yk Z Z (yk Z Z (yk Z Z (zc Z Z h39 (za (yf Z (bTT h46) Z) ⟨true,H,⟨Z,Z,Z,Z,Z,Z,Z,Z,U⟩,⟨Z,U⟩⟩))))))))))
     ·rintro v47 H
      replace H:Qi v8 x12 v47=some q10:=H
      unfold Qi at H
      refine zg _ Z (fun h48 => ?_) (fun h48 => ?_)
      ·exact tE h48 H fun H=>zp hN Z (qd Z (za (zq z69 Z) (zm (zv tyS5 Z Z) Z (za (ya (u':=vlst (List.map ql [x12.c_])) (yo [[_]] Zk ⟨Z,.inl ⟨_,Z,Z,Z⟩,Z,U⟩ Z Z) Z) (za (y07 (C:=ql) Qr tyU5 tyU9 (fun _=>Z) Z) (gE H fun h49 H=>za (jj Z Z (Nat.le_trans h49 (by decide))) (qe Z ⟨(v8++(strN [x12.c_])),H,⟨Z,Z,Z,Z,Z,Z,U⟩,U⟩)))))))
      ·exact fE h48 H fun H=>zp hN Z (qd Z (za (zq z69 Z) (zm (zv tyS5 Z Z) Z (bE H fun r50 h51 H=>za (zk (x2u x12.c_ r50 h51) ⟨.inl Z,U⟩) (gE H fun h52 H=>za (jj Z Z (Nat.le_trans h52 (by decide))) (qe Z ⟨(v8++r50),H,⟨Z,Z,Z,Z,Z,Z,U⟩,U⟩))))))
    ·rintro v53 H
     replace H:z15 v53=some q10:=H
     unfold z15 at H
     exact zp hN Z (za (qs Z Z (by omega)) (qd Z ⟨_,yx H,⟨Z,Z,Z,Z,Z,Z,U⟩,U⟩))
theorem w0n (s p q:Bs) (r:Bs) (H:y2b s p q=some r):Fn Tryz.prog 202 [vstr s,vstr p,vstr q] (zu [vstr r]):=by
 unfold y2b at H
 obtain ⟨⟨h1,h2,h3⟩,h4⟩:=gif H
 cases h4
 refine Zh (by kernel_rfl) fun M w vs hM h => ?_
 have hv:=kr (us:=[.string ⟨s.toArray⟩,.string ⟨p.toArray⟩,.string ⟨q.toArray⟩]) h
 subst hv
 obtain ⟨m,hm⟩:=y19 hM
 have hle:=Lib.countB_le ⟨p.toArray⟩ (by simpa [ByteArray.size] using h2) _ ⟨s.toArray⟩ (Nat.le_refl _)
 have e1:(ByteArray.mk s.toArray).size=s.length:=by simp [ByteArray.size]
 have e2:(ByteArray.mk q.toArray).size=q.length:=by simp [ByteArray.size]
 have hmul:Lib.countB ⟨s.toArray⟩ ⟨p.toArray⟩ * q.length≤1000001 * 1000000:=Nat.mul_le_mul (by omega) h3
 refine (Tryz.strings_ReplaceAll ⟨s.toArray⟩ ⟨p.toArray⟩ ⟨q.toArray⟩ m w (by rw [e1]; omega) hm (by simpa [ByteArray.size] using h2) (by rw [e1,e2]; omega)).mono ?_
 rintro e w' ⟨rfl,hb⟩
 exact ⟨_,Z,Z,Kp.of_below hb⟩

theorem x2v (s1:Bs) (r:(Bs)) (H:z1h s1=some r):Fn Tryz.prog 203 [vstr s1] (zu [vstr r]):=by
 refine ⟨by kernel_rfl,yh (us:=[vstr r]) Tryz.func203 Z Z Z Z fun X hN => ?_⟩
 unfold z1h at H
 refine zb hN Z (qe Z (zb hN Z (qd Z (bE H fun r2 h3 H=>za (zk (y6m s1 r2 h3) ⟨.inl Z,U⟩) (qd Z (za (yc Z Z) (za (yc Z Z) (qe Z (qe Z (zb hN Z (qe Z (zh (zb hN Z (qd Z (za (qi y8f Z) (qd Z (zw (jg 5 1 5 1 Z Z Z (gE H fun h7 H=>qw (fun (k5:Nat) (s:(List Int))=>[(5,.row 1 s.length),(13,.dat (vlst (List.map xq r2.1))),(14,.dat (vint (r2.1.length:Int))),(15,.dat (vint (k5:Int)))]) (fun (k5:Nat) (s:(List Int))=>[(1,.row 5 1 (List.map ql s))]) [] H ⟨Z,Z,Z,Z,U⟩ ⟨Z,U⟩ (fun _ _=>Z) ?_ ?_)))))))))))))))))))
 ·rintro l4 H
  replace H:z5w l4=some r:=H
  unfold z5w at H
  refine zb hN Z (za (zx Z Z) (zh (zg _ Z (fun h=>(lt_t h).elim) (fun h => ?_))))
  refine yt (zh (Yn 5 1 Z Z Z (zp hN Z (qd Z (za (y07 (C:=ql) Qr tyU5 tyU9 (fun _=>Z) Z) (qe Z (zi ?_)))))))
  cases H
  exact ⟨U,.inl Z,U⟩
 ·rintro k5 x8 l4 q6 h9 h10 H hq6
  replace H:z1z k5 x8 l4=some q6:=H
  unfold z1z at H
  refine zb hN Z (za (zx Z Z) (zh (zg _ Z (fun h => ?_) (fun h=>(lt_f h9 h).elim))))
  refine zl (zh (zw (zb hN Z (za (we y81 (fun _=>Z) Z Z h10) (za (xy y0k Z (qh h10) Z) (zj (qv 2 y0g Z) Z (zj (qk y0k Z Z Z Z) Z (zp hN Z (za (zd (.row _ _) Z) (za (zq z69 Z) (zm (zv tyS5 Z Z) Z (za (ya (u':=vlst (List.map ql [x8.c_])) (yo [[_]] Zk ⟨Z,.inl ⟨_,Z,Z,Z⟩,Z,U⟩ Z Z) Z) (gE H fun h11 H=>zj (vk Zk (fun _=>Z) Z Z Z ⟨by simp,by first | (simp; done) | simpa using h11⟩ Z) Z ?_)))))))))))))
  exact za (qm (.row _ _) Z) (zp hN Z (za (qs Z Z (by omega)) (qd Z ⟨_,yx H,⟨Z,Z,Z,Z,U⟩,⟨Z,U⟩⟩)))
theorem w0d (s1:Bs) (r:((List zo)×Int)) (H:z1i s1=some r):FnG Tryz.prog 145 [.dat (vstr s1)] [] (.comp true [.row 900 r.1.length,.dat (vint r.2)]) [(900,.row 137 2 (List.map yr r.1))]:=by
 refine ub (by kernel_rfl) Tryz.func145 Z Z Z Z fun X A hN => ?_
 unfold z1i at H
 refine zb hN Z (qe Z (qe Z (zh (zb hN Z (qd Z (bE H fun r2 h3 H=>za (zk (x2p s1 r2 h3) ⟨.inl Z,U⟩) (za (yq Z) (zg _ Z (fun h4 => ?_) (fun h4 => ?_)))))))))
 ·refine tE h4 H fun H=>zb hN Z (qe Z (qe Z (jg 2 900 137 2 Z Z Z (zi ?_))))
  cases H
  exact ⟨U,[(2,.row 900 _),(3,.dat (vint 3))],⟨Z,Z,U⟩,⟨Z,U⟩,Z,.inr (.inr ⟨.row 900 [].length,.dat (vint 3),[],⟨Z,Z,U⟩,Z⟩)⟩
 ·refine fE h4 H fun H=>zl (zh (zb hN Z (qd Z (bE H fun r5 h6 H=>za (zk (y6m s1 r5 h6) ⟨.inl Z,U⟩) (qd Z (za (yc Z Z) (za (yc Z Z) (qe Z (qe Z (zb hN Z (qd Z (za (yq Z) (zg _ Z (fun h7 => ?_) (fun h7 => ?_))))))))))))))
  ·refine tE h7 H fun H=>zb hN Z (qe Z (qe Z (jg 2 900 137 2 Z Z Z (zi ?_))))
   cases H
   exact ⟨U,[(2,.row 900 _),(3,.dat (vint 9))],⟨Z,Z,U⟩,⟨Z,U⟩,Z,.inr (.inr ⟨.row 900 [].length,.dat (vint 9),[],⟨Z,Z,U⟩,Z⟩)⟩
  ·refine fE h7 H fun H=>zl (zb hN Z (qe Z (zh (zb hN Z (qd Z (bE H fun r8 h9 H=>za (zk (Qb s1 [38] r8 h9) ⟨.inl Z,.inl Z,U⟩) (za (qi wq Z) (qd Z (zw (jg 6 1 137 2 Z Z Z (gE H fun h13 H=>qw (fun (k11:Nat) (s:(List zo))=>[(6,.row 1 s.length),(23,.dat (vlst (List.map zr r8))),(24,.dat (vint (r8.length:Int))),(25,.dat (vint (k11:Int)))]) (fun (k11:Nat) (s:(List zo))=>[(1,.row 137 2 (List.map yr s))]) [] H ⟨Z,Z,Z,Z,U⟩ ⟨Z,U⟩ (fun _ _=>Z) ?_ ?_)))))))))))
   ·rintro l10 H
    replace H:z52 l10=some r:=H
    unfold z52 at H
    refine zb hN Z (za (zx Z Z) (zh (zg _ Z (fun h=>(lt_t h).elim) (fun h => ?_))))
    refine yt (zh (zb hN Z (za (zd (.row _ _) Z) (zm (Qx xt Z Z) Z (za (wg Z Z) (zg _ Z (fun h15 => ?_) (fun h15 => ?_)))))))
    ·refine tE h15 H fun H=>zb hN Z (qe Z (qe Z (jg 2 900 137 2 Z Z Z (zi ?_))))
     cases H
     exact ⟨U,[(2,.row 900 _),(3,.dat (vint 2))],⟨Z,Z,U⟩,⟨Z,U⟩,Z,.inr (.inr ⟨.row 900 [].length,.dat (vint 2),[],⟨Z,Z,U⟩,Z⟩)⟩
    ·refine fE h15 H fun H=>zl (zb hN Z (za (zd (.row _ _) Z) (za (qm (.row _ _) Z) (qe Z (z6v 2 1 900 Z Z (by rw [List.length_map]) Z ?_)))))
     refine zi ?_
     cases H
     exact ⟨U,[(2,.row 900 _),(3,.dat (vint 0))],⟨Z,Z,U⟩,⟨Z,U⟩,Z,.inr (.inr ⟨.row 900 l10.length,.dat (vint 0),[],⟨Z,Z,U⟩,Z⟩)⟩
   ·rintro k11 x14 l10 q12 h16 h17 H hq12
    replace H:z13 k11 x14 l10=some q12:=H
    unfold z13 at H
    refine zb hN Z (za (zx Z Z) (zh (zg _ Z (fun h => ?_) (fun h=>(lt_f h16 h).elim))))
    refine zl (yd (ι:=(List zo)) (fun i=>[(6,.row 1 i.length),(23,.dat (vlst (List.map zr r8))),(24,.dat (vint (r8.length:Int))),(25,.dat (vint (k11:Int)))]) (fun i=>[(1,.row 137 2 (List.map yr i))]) (fun i=>z50 i=some q12) (fun i=>Z) ?_ ?_)
    ·skip
     refine zw (zb hN Z (za (we vj (fun _=>Z) Z Z h17) (za (qu tyS9 Z (qh h17) Z) (qe Z (zh (zb hN Z (qd Z (za (va Z Z) (zg _ Z (fun h18 => ?_) (fun h18 => ?_))))))))))
     ·exact tE h18 H fun H=>yt ⟨l10,H,⟨Z,Z,Z,Z,U⟩,⟨Z,U⟩⟩
     ·refine fE h18 H fun H=>zl (zb hN Z (qd Z (bE H fun r19 h20 H=>za (zk (w0n x14 [43] [37,50,48] r19 h20) ⟨.inl Z,.inl Z,.inl Z,U⟩) (bE H fun r21 h22 H=>za (zk (z1q r19 [61] r21 h22) ⟨.inl Z,.inl Z,U⟩) (qd Z (za (yc Z Z) (za (yc Z Z) (za (yc Z Z) (qe Z (qe Z (qe Z (zp hN Z (za (zd (.row _ _) Z) (qd Z (bE H fun r23 h24 H=>za (zk (x2v r21.1 r23 h24) ⟨.inl Z,U⟩) (qd Z (bE H fun r25 h26 H=>za (zk (x2v r21.2.1 r25 h26) ⟨.inl Z,U⟩) (za (ya (u':=vagg (yr (zo.mk r23 r25))) (wx [(0,[vstr r23]),(1,[vstr r25])] Qq y0m Z ⟨Z,.inl ⟨_,Z,Z,Z⟩,Z,Z,.inl ⟨_,Z,Z,Z⟩,Z,U⟩) Z) ?_))))))))))))))))))
      refine za (ya (u':=vlst (List.map yr [(zo.mk r23 r25)])) (yo [_] y0p ⟨Z,.inr Z,Z,U⟩ Z Z) Z) (gE H fun h27 H=>zj (vk y0p (fun _=>Z) Z Z Z ⟨by simp,by first | (simp; done) | simpa using h27⟩ Z) Z ?_)
      exact za (qm (.row _ _) Z) ⟨(l10++[(zo.mk r23 r25)]),H,⟨Z,Z,Z,Z,U⟩,⟨Z,U⟩⟩
    ·rintro out28 H
     replace H:z50 out28=some q12:=H
     unfold z50 at H
     exact zp hN Z (za (qs Z Z (by omega)) (qd Z ⟨_,yx H,⟨Z,Z,Z,Z,U⟩,⟨Z,U⟩⟩))
theorem w1r (p1:zo) (r:(Bool)) (H:z1j p1=some r):Fn Tryz.prog 146 [vagg (yr p1)] (zu [ze r]):=by
 refine ⟨by kernel_rfl,yh (us:=[ze r]) Tryz.func146 Z Z Z Z fun X hN => ?_⟩
 unfold z1j at H
 refine zb hN Z (zj (wd 1 Z) Z (qe Z (zb hN Z (za (zq xf Z) (zm (zv tyS9 Z Z) Z (za (zq Qw Z) (zm (zv tyS9 Z Z) Z (gE H fun h2 H=>za (jj Z Z (Nat.le_trans h2 (by decide))) (za (va Z Z) (qe Z (zi ?_)))))))))))
 cases H
 exact ⟨U,.inl Z,U⟩
theorem x92 (data1:(List zo)) (n2:Int) (p2:zo→zo→Option (Int)) (fv2:Nat) (us2:List V) (hp2:∀ a0 a1 r,p2 a0 a1=some r→Fn Tryz.prog fv2 ([vagg (yr a0),vagg (yr a1)]++us2) (zu [vint r])) (r:((List zo))) (H:y2e data1 n2 p2=some r):FnG Tryz.prog 204 [.row 0 data1.length,.dat (vint n2),.dat (vfn fv2 us2)] [(0,.rowA undef 137 2 (List.map yr data1))] (.dat (zu [])) [(0,.rowA undef 137 2 (List.map yr r))]:=by
 refine ub (by kernel_rfl) Tryz.func204 Z Z Z Z fun X A hN => ?_
 unfold y2e at H
 refine zb hN Z (qe Z (zb hN Z (qd Z (qe Z (qe Z (yd (ι:=Int×(List zo)) (fun i=>[(0,.row 0 i.2.length),(1,.dat (vint n2)),(2,.dat (vfn fv2 us2)),(6,.dat (vint 20)),(7,.dat (vint i.1))]) (fun i=>[(0,.rowA (A.vl 0) 137 2 (List.map yr i.2))]) (fun i=>y1d n2 p2 i.1 i.2=some r) (fun i=>Z) ?_ ?_))))))
 ·skip
  refine zw (un (fun (s:Int×Int×(List zo))=>[(0,.row 0 s.2.2.length),(1,.dat (vint n2)),(2,.dat (vfn fv2 us2)),(6,.dat (vint 20)),(7,.dat (vint s.1)),(8,.dat (vint s.2.1))]) (fun (s:Int×Int×(List zo))=>[(0,.rowA (A.vl 0) 137 2 (List.map yr s.2.2))]) (0,20,data1) H ⟨Z,Z,Z,Z,Z,Z,U⟩ ⟨Z,U⟩ (fun _=>Z) ?_)
  rintro ⟨a3,b4,l5⟩ q6 H hq6
  replace H:y4p n2 p2 a3 b4 l5=some q6:=H
  unfold y4p at H
  refine zh (zb hN Z (qd Z (qd Z (za (wi Z Z) (zg _ Z (fun h7 => ?_) (fun h7 => ?_))))))
  ·refine tE h7 H fun H=>zl (zw (zb hN Z (za (zd (.row _ _) Z) (qd Z (qd Z (qd Z (bE H fun r8 h9 H=>gE H fun h10 H=>ww (rn [(0,0)]) [(0,_,_,some _)] [] (y6c l5 a3 b4 p2 fv2 us2 hp2 r8 h9) ⟨Z,U⟩ ⟨.inl (.inl Z),.inl (.inl Z),.inl (.inl Z),.inl (.inl Z),U⟩ ⟨⟨⟨Z,Z,Z⟩,by simp [uh,h10]⟩,U⟩ Z ?_)))))))
   exact zb hN Z (qd Z (qe Z (zp hN Z (qd Z (qd Z (za (yj _ Z Z (.inl ⟨Z,Z⟩)) (qe Z ⟨_,yx H,⟨congrArg (Slot.row 0) ((h10).symm).symm,Z,Z,Z,Z,Z,U⟩,⟨Z,U⟩⟩)))))))
  ·refine fE h7 H fun H=>yt ?_
   replace H:=outl H hq6
   exact ⟨(a3,l5),H,⟨Z,Z,Z,Z,Z,U⟩,⟨Z,U⟩⟩
 ·rintro ⟨a11,data12⟩ H
  replace H:y1d n2 p2 a11 data12=some r:=H
  unfold y1d at H
  refine zb hN Z (za (zd (.row _ _) Z) (qd Z (qd Z (qd Z (bE H fun r13 h14 H=>gE H fun h15 H=>ww (rn [(0,0)]) [(0,_,_,some _)] [] (y6c data12 a11 n2 p2 fv2 us2 hp2 r13 h14) ⟨Z,U⟩ ⟨.inl (.inl Z),.inl (.inl Z),.inl (.inl Z),.inl (.inl Z),U⟩ ⟨⟨⟨Z,Z,Z⟩,by simp [uh,h15]⟩,U⟩ Z ?_)))))
  refine zw (un (fun (s:Int)=>[(0,.row 0 data12.length),(1,.dat (vint n2)),(2,.dat (vfn fv2 us2)),(6,.dat (vint s))]) (fun (s:Int)=>[(0,.rowA (A.vl 0) 137 2 (List.map yr r13))]) 20 H ⟨Z,Z,Z,Z,U⟩ ⟨Z,U⟩ (fun _=>Z) ?_)
  rintro blockSize16 q17 H hq17
  replace H:y4o n2 r13 blockSize16=some q17:=H
  unfold y4o at H
  refine zh (zb hN Z (qd Z (qd Z (za (zx Z Z) (zg _ Z (fun h18 => ?_) (fun h18 => ?_))))))
  ·refine tE h18 H fun H=>zl (zw (zb hN Z (qd Z (za (yj _ Z Z (.inr (.inr ⟨Z,Z⟩))) (qe Z (qe Z (yd (ι:=Int) (fun i=>[(0,.row 0 data12.length),(1,.dat (vint n2)),(2,.dat (vfn fv2 us2)),(6,.dat (vint blockSize16)),(7,.dat (vint i))]) (fun i=>[(0,.rowA (A.vl 0) 137 2 (List.map yr r13))]) (fun i=>y1c n2 blockSize16 i=some q17) (fun i=>Z) ?_ ?_)))))))
   ·skip
    refine zw (un (fun (s:Int×Int)=>[(0,.row 0 data12.length),(1,.dat (vint n2)),(2,.dat (vfn fv2 us2)),(6,.dat (vint blockSize16)),(7,.dat (vint s.1)),(8,.dat (vint s.2))]) (fun (s:Int×Int)=>[(0,.rowA (A.vl 0) 137 2 (List.map yr r13))]) (0,wr (2 * blockSize16)) H ⟨Z,Z,Z,Z,Z,Z,U⟩ ⟨Z,U⟩ (fun _=>Z) ?_)
    rintro ⟨a19,b20⟩ q21 H hq21
    replace H:y4n n2 blockSize16 a19 b20=some q21:=H
    unfold y4n at H
    refine zh (zb hN Z (qd Z (qd Z (za (wi Z Z) (zg _ Z (fun h22 => ?_) (fun h22 => ?_))))))
    ·refine tE h22 H fun H=>?_
     cases H
    ·refine fE h22 H fun H=>yt ?_
     replace H:=outl H hq21
     exact ⟨a19,H,⟨Z,Z,Z,Z,Z,U⟩,⟨Z,U⟩⟩
   ·rintro a23 H
    replace H:y1c n2 blockSize16 a23=some q17:=H
    unfold y1c at H
    refine yd (ι:=Unit) (fun i=>[(0,.row 0 data12.length),(1,.dat (vint n2)),(2,.dat (vfn fv2 us2)),(6,.dat (vint blockSize16))]) (fun i=>[(0,.rowA (A.vl 0) 137 2 (List.map yr r13))]) (fun i=>y1b blockSize16=some q17) (fun i=>Z) ?_ ?_
    ·skip
     refine zb hN Z (qd Z (qd Z (za (yj _ Z Z (.inl ⟨Z,Z⟩)) (qe Z (zb hN Z (qd Z (qd Z (za (zx Z Z) (zg _ Z (fun h24 => ?_) (fun h24 => ?_))))))))))
     ·refine tE h24 H fun H=>?_
      cases H
     ·exact fE h24 H fun H=>zl ⟨(),H,⟨Z,Z,Z,Z,U⟩,⟨Z,U⟩⟩
    ·rintro ⟨⟩ H
     replace H:y1b blockSize16=some q17:=H
     unfold y1b at H
     exact zp hN Z (qd Z (za (yj _ Z Z (.inr (.inr ⟨Z,Z⟩))) (qe Z ⟨_,yx H,⟨Z,Z,Z,Z,U⟩,⟨Z,U⟩⟩)))
  ·refine fE h18 H fun H=>yt ?_
   replace H:=retl H hq17
   have eH:r13=r:=Option.some.inj H
   subst eH
   exact ⟨U,[],U,⟨Z,U⟩,Z,.inl ⟨[],U,Z⟩⟩
theorem x94 (x1:(List zo)) (p1:zo→zo→Option (Int)) (fv1:Nat) (us1:List V) (hp1:∀ a0 a1 r,p1 a0 a1=some r→Fn Tryz.prog fv1 ([vagg (yr a0),vagg (yr a1)]++us1) (zu [vint r])) (r:((List zo))) (H:z74 x1 p1=some r):FnG Tryz.prog 147 [.row 0 x1.length,.dat (vfn fv1 us1)] [(0,.rowA undef 137 2 (List.map yr x1))] (.dat (zu [])) [(0,.rowA undef 137 2 (List.map yr r))]:=by
 refine ub (by kernel_rfl) Tryz.func147 Z Z Z Z fun X A hN => ?_
 unfold z74 at H
 refine zp hN Z (za (zd (.row _ _) Z) (za (zd (.row _ _) Z) (zm (y9c xt Z Z) Z (qd Z (bE H fun r2 h3 H=>gE H fun h4 H=>ww (rn [(0,0)]) [(0,_,_,some _)] [] (x92 x1 (x1.length:Int) p1 fv1 us1 hp1 r2 h3) ⟨Z,U⟩ ⟨.inl (.inl Z),.inl (.inl Z),.inl (.inl Z),U⟩ ⟨⟨⟨Z,Z,Z⟩,by simp [uh,h4]⟩,U⟩ Z ?_)))))
 have eH:r2=r:=Option.some.inj H
 subst eH
 exact ⟨U,[],U,⟨Z,U⟩,Z,.inl ⟨[],U,Z⟩⟩
theorem w1q (a1:zo) (b2:zo) (r:(Int)) (H:z4t a1 b2=some r):Fn Tryz.prog 148 [vagg (yr a1),vagg (yr b2)] (zu [vint r]):=by
 refine ⟨by kernel_rfl,yh (us:=[vint r]) Tryz.func148 Z Z Z Z fun X hN => ?_⟩
 unfold z4t at H
 refine zb hN Z (zj (wd 1 Z) Z (zj (wd 2 Z) Z (qe Z (zh (zb hN Z (za (zq xf Z) (zm (zv tyS9 Z Z) Z (za (zq xf Z) (zm (zv tyS9 Z Z) Z (za (ji Z Z) (zg _ Z (fun h3 => ?_) (fun h3 => ?_))))))))))))
 ·refine tE h3 H fun H=>zb hN Z (za (zq xf Z) (zm (zv tyS9 Z Z) Z (za (zq xf Z) (zm (zv tyS9 Z Z) Z (bE H fun r4 h5 H=>za (zk (y2x a1.Name b2.Name r4 h5) ⟨.inl Z,.inl Z,U⟩) (qe Z (zi ?_)))))))
  cases H
  exact ⟨U,.inl Z,U⟩
 ·refine fE h3 H fun H=>zl (zb hN Z (za (zq Qw Z) (zm (zv tyS9 Z Z) Z (za (zq Qw Z) (zm (zv tyS9 Z Z) Z (bE H fun r6 h7 H=>za (zk (y2x a1.Value b2.Value r6 h7) ⟨.inl Z,.inl Z,U⟩) (qe Z (zi ?_))))))))
  cases H
  exact ⟨U,.inl Z,U⟩
theorem x2o (s1:Bs) (r:(Bs)) (H:z4m s1=some r):Fn Tryz.prog 206 [vstr s1] (zu [vstr r]):=by
 refine ⟨by kernel_rfl,yh (us:=[vstr r]) Tryz.func206 Z Z Z Z fun X hN => ?_⟩
 unfold z4m at H
 refine zb hN Z (qe Z (zb hN Z (qe Z (zh (zb hN Z (qd Z (za (qj tyU9 Z) (qd Z (zw (jg 3 1 5 1 Z Z Z (gE H fun h5 H=>qw (fun (k3:Nat) (s:(List Int))=>[(0,.dat (vstr s1)),(3,.row 1 s.length),(6,.dat (vint (s1.length:Int))),(7,.dat (vint (k3:Int)))]) (fun (k3:Nat) (s:(List Int))=>[(1,.row 5 1 (List.map ql s))]) [] H ⟨Z,Z,Z,Z,U⟩ ⟨Z,U⟩ (fun _ _=>Z) ?_ ?_)))))))))))
 ·rintro l2 H
  replace H:z5u l2=some r:=H
  unfold z5u at H
  refine zb hN Z (za (zx Z Z) (zh (zg _ Z (fun h=>(lt_t h).elim) (fun h => ?_))))
  refine yt (zh (Yn 3 1 Z Z Z (zp hN Z (qd Z (za (y07 (C:=ql) Qr tyU5 tyU9 (fun _=>Z) Z) (qe Z (zi ?_)))))))
  cases H
  exact ⟨U,.inl Z,U⟩
 ·rintro k3 x6 l2 q4 h7 h8 H hq4
  replace H:z1w k3 x6 l2=some q4:=H
  unfold z1w at H
  refine zb hN Z (za (zx Z Z) (zh (zg _ Z (fun h => ?_) (fun h=>(lt_f h7 h).elim))))
  refine zl (yd (ι:=(List Int)) (fun i=>[(0,.dat (vstr s1)),(3,.row 1 i.length),(6,.dat (vint (s1.length:Int))),(7,.dat (vint (k3:Int)))]) (fun i=>[(1,.row 5 1 (List.map ql i))]) (fun i=>z1x i=some q4) (fun i=>Z) ?_ ?_)
  ·skip
   refine zw (zb hN Z (qd Z (qe Z (zw (zb hN Z (qd Z (qd Z (za (qy tyU9 Z Z h8) (za (qf Z Z) (qe Z (zg _ Z (fun h9 => ?_) (fun h9 => ?_))))))))))))
   ·refine tE h9 H fun H=>zp hN Z (za (zd (.row _ _) Z) (za (ya (u':=vlst (List.map ql [43])) (yo [[_]] Zk ⟨Z,.inl ⟨_,Z,Z,Z⟩,Z,U⟩ Z Z) Z) (gE H fun h10 H=>zj (vk Zk (fun _=>Z) Z Z Z ⟨by simp,by first | (simp; done) | simpa using h10⟩ Z) Z ?_)))
    exact za (qm (.row _ _) Z) ⟨(l2++[43]),H,⟨Z,Z,Z,Z,U⟩,⟨Z,U⟩⟩
   ·refine fE h9 H fun H=>zb hN Z (qd Z (qd Z (za (qy tyU9 Z Z h8) (bE H fun r11 h12 H=>za (zk (y2w [97,98,99,100,101,102,103,104,105,106,107,108,109,110,111,112,113,114,115,116,117,118,119,120,121,122,65,66,67,68,69,70,71,72,73,74,75,76,77,78,79,80,81,82,83,84,85,86,87,88,89,90,48,49,50,51,52,53,54,55,56,57,45,46,95,126] (x6.toNat:Int) r11 h12) ⟨.inl Z,.inl Z,U⟩) (za (wt Z Z) (qe Z (zg _ Z (fun h13 => ?_) (fun h13 => ?_))))))))
    ·refine tE h13 H fun H=>zp hN Z (za (zd (.row _ _) Z) (qd Z (qd Z (za (qy tyU9 Z Z h8) (za (ya (u':=vlst (List.map ql [(x6.toNat:Int)])) (yo [[_]] Zk ⟨Z,.inl ⟨_,Z,Z,Z⟩,Z,U⟩ Z Z) Z) (gE H fun h14 H=>zj (vk Zk (fun _=>Z) Z Z Z ⟨by simp,by first | (simp; done) | simpa using h14⟩ Z) Z ?_))))))
     exact za (qm (.row _ _) Z) ⟨(l2++[(x6.toNat:Int)]),H,⟨Z,Z,Z,Z,U⟩,⟨Z,U⟩⟩
    ·refine fE h13 H fun H=>zp hN Z (za (zd (.row _ _) Z) (qd Z (qd Z (za (qy tyU9 Z Z h8) (bE H fun r15 h16 H=>za (zk (x2u (x6.toNat:Int) r15 h16) ⟨.inl Z,U⟩) (gE H fun h17 H=>zj (y9e (C:=ql) (fun _=>Z) (show tyB8 Tryz.prog 119 9 5 from ⟨by kernel_rfl,by kernel_rfl,by kernel_rfl⟩) Z Z Z h17) Z ?_))))))
     exact za (qm (.row _ _) Z) ⟨(l2++ym r15),H,⟨Z,Z,Z,Z,U⟩,⟨Z,U⟩⟩
  ·rintro out18 H
   replace H:z1x out18=some q4:=H
   unfold z1x at H
   exact zp hN Z (za (qs Z Z (by omega)) (qd Z ⟨_,yx H,⟨Z,Z,Z,Z,U⟩,⟨Z,U⟩⟩))
end Go.Proofs.YtmdllhcjefcggabGreatDoor
