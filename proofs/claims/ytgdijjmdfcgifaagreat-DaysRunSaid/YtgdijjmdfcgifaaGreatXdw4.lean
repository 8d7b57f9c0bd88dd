/- Walks along the models. Printed by a program. -/
import Derived.Test.YtgdijjmdfcgifaaGreatXdw3
namespace Go.Proofs.YtgdijjmdfcgifaaGreat
open Go.RowKit
set_option linter.unusedVariables false
set_option maxRecDepth 100000
set_option maxHeartbeats 2000000
theorem x9i (v1:(List zl)) (v2:(List zz)) (r:(Int)) (H:z6q v1 v2=some r):Fn Tryz.prog 10 [vlst (List.map ya v1),vlst (List.map qq v2)] (zu [vint r]):=by
 refine ⟨by kernel_rfl,yr (us:=[vint r]) Tryz.func10 Z Z Z Z fun X hN => ?_⟩
 unfold z6q at H
 refine zb hN Z (qe Z (zd (zb hN Z (qd Z (za (yx Wt Z) (za (vn Z Z) (zk _ Z (fun h3 => ?_) (fun h3 => ?_))))))))
 ·refine tE h3 H fun H=>zb hN Z (qe Z (zo ?_))
  cases H
  exact ⟨U,.inl Z,U⟩
 ·refine fE h3 H fun H=>zp (zd (zb hN Z (qd Z (za (yx Wt Z) (qd Z (zw (gE H fun h6 H=>wg (fun (k4:Nat) (s:Unit)=>[(0,.dat (vlst (List.map ya v1))),(1,.dat (vlst (List.map qq v2))),(10,.dat (vlst (List.map qq v2))),(11,.dat (vint (v2.length:Int))),(12,.dat (vint (k4:Int)))]) (fun (k4:Nat) (s:Unit)=>[]) () H ⟨Z,Z,Z,Z,Z,U⟩ U (fun _ _=>Z) ?_ ?_)))))))
  ·rintro ⟨⟩ H
   replace H:y35=some r:=H
   unfold y35 at H
   refine zb hN Z (za (zq Z Z) (zd (zk _ Z (fun h=>(lt_t h).elim) (fun h => ?_))))
   refine qa (zb hN Z (qe Z (zo ?_)))
   cases H
   exact ⟨U,.inl Z,U⟩
  ·rintro k4 x7 ⟨⟩ q5 h8 h9 H hq5
   replace H:y0p v1 v2 k4 x7=some q5:=H
   unfold y0p at H
   refine zb hN Z (za (zq Z Z) (zd (zk _ Z (fun h => ?_) (fun h=>(lt_f h8 h).elim))))
   refine zp (zd (zw (zb hN Z (qd Z (za (wb Qp (fun _=>Z) Z Z h9) (za (wv kv Z (yz h9) Z) (zi (qh 1 Qg Z) Z (qe Z (zi (qf kv Z Z Z Z) Z (zw (zb hN Z (qd Z (za (ze xg Z) (zh (zj tyS9 Z Z) Z (bE H fun r10 h11 H=>za (ye (x9p v1 x7.Instance r10 h11) ⟨.inl Z,.inl Z,U⟩) (za (zq Z Z) (qe Z (zk _ Z (fun h12 => ?_) (fun h12 => ?_)))))))))))))))))))
   ·refine tE h12 H fun H=>zb hN Z (qe Z (zo ?_))
    replace H:=retl H hq5
    cases H
    exact ⟨U,.inl Z,U⟩
   ·refine fE h12 H fun H=>qi (ι:=Bool) (fun i=>[(0,.dat (vlst (List.map ya v1))),(1,.dat (vlst (List.map qq v2))),(5,.dat (vint (k4:Int))),(6,.ptr 1 0),(10,.dat (vlst (List.map qq v2))),(11,.dat (vint (v2.length:Int))),(12,.dat (vint (k4:Int))),(23,.dat (zn i))]) (fun i=>[(1,.box none 70 [.dat (vstr x7.Instance),.dat (vint x7.Time.From),.dat (vint x7.Time.To),.dat (vint x7.Status),.dat (vint x7.Took)])]) (fun i=>Wi v2 k4 x7 i=some q5) (fun i=>Z) ?_ ?_
    ·skip
     refine zm hN Z (za (ze kj Z) (za (ze Qm Z) (zh (zj tyS3 Z Z) Z (za (zq Z Z) (qd Z (qo (j:=4) Z Z (fun h13 => ?_) (fun h13 => ?_) Z))))))
     ·refine u3 h13 H fun h14 H=>zf Z Z h13 (ze kj Z) (zf Z Z h13 (ze Qm Z) (yd Z Z h13 (zj tyS3 Z Z) Z (zf Z Z h13 (ze kj Z) (zf Z Z h13 (ze Ww Z) (yd Z Z h13 (zj tyS3 Z Z) Z (zf Z Z h13 (ke Z Z) (za (yn Z (bFF h14) Z) (qd Z (qo (j:=13) Z Z (fun h15 => ?_) (fun h15 => ?_) Z)))))))))
      ·refine u3 h15 H fun h16 H=>zf Z Z h15 (ze kj Z) (zf Z Z h15 (ze Ww Z) (yd Z Z h15 (zj tyS3 Z Z) Z (zf Z Z h15 (vn Z Z) (za (yn Z (bFF h16) Z) (qd Z (qo (j:=19) Z Z (fun h17 => ?_) (fun h17 => ?_) Z))))))
       ·refine u3 h17 H fun h18 H=>zf Z Z h17 (ze z5f Z) (yd Z Z h17 (zj tyS3 Z Z) Z (bE H fun r19 h20 H=>zf Z Z h17 (ye (uh x7.Status 100 599 r19 h20) ⟨.inl Z,.inl Z,.inl Z,U⟩) (zf Z Z h17 (qs Z) (za (yn Z (bFF h18) Z) (qd Z (qo (j:=25) Z Z (fun h21 => ?_) (fun h21 => ?_) Z))))))
        ·exact u3 h21 H fun h22 H=>zf Z Z h21 (ze z1e Z) (yd Z Z h21 (zj tyS3 Z Z) Z (bE H fun r23 h24 H=>zf Z Z h21 (ye (uh x7.Took 0 3600000 r23 h24) ⟨.inl Z,.inl Z,.inl Z,U⟩) (zf Z Z h21 (qs Z) (za (yn Z (bFF h22) Z) (qe Z ⟨!r23,H,⟨Z,Z,Z,Z,Z,Z,Z,Z,U⟩,⟨Z,U⟩⟩)))))
        ·exact u4 h21 H fun h25 H=>zc Z Z h21 (zc Z Z h21 (zc Z Z h21 (zc Z Z h21 (za (yh Z (bTT h25) Z) (qe Z ⟨true,H,⟨Z,Z,Z,Z,Z,Z,Z,Z,U⟩,⟨Z,U⟩⟩)))))
       ·exact u4 h17 H fun h26 H=>zc Z Z h17 (zc Z Z h17 (zc Z Z h17 (zc Z Z h17 (za (yh Z (bTT h26) Z) (qd Z (zc Z Z Z (zc Z Z Z (zc Z Z Z (zc Z Z Z (za (yh Z Z Z) (qe Z ⟨true,H,⟨Z,Z,Z,Z,Z,Z,Z,Z,U⟩,⟨Z,U⟩⟩)))))))))))
      ·exact u4 h15 H fun h27 H=>zc Z Z h15 (zc Z Z h15 (zc Z Z h15 (zc Z Z h15 (za (yh Z (bTT h27) Z) (qd Z (zc Z Z Z (zc Z Z Z (zc Z Z Z (zc Z Z Z (za (yh Z Z Z) (qd Z (zc Z Z Z (zc Z Z Z (zc Z Z Z (zc Z Z Z (za (yh Z Z Z) (qe Z ⟨true,H,⟨Z,Z,Z,Z,Z,Z,Z,Z,U⟩,⟨Z,U⟩⟩)))))))))))))))))
     ·refine u4 h13 H fun h28 H=>zc Z Z h13 (zc Z Z h13 (zc Z Z h13 (zc Z Z h13 (zc Z Z h13 (zc Z Z h13 (zc Z Z h13 (za (yh Z (bTT h28) Z) (qd Z (zc Z Z Z (zc Z Z Z (zc Z Z Z (zc Z Z Z (za (yh Z Z Z) (qd Z (zc Z Z Z (zc Z Z Z (zc Z Z Z (zc Z Z Z (za (yh Z Z Z) (qd Z (zc Z Z Z (zc Z Z Z ?_))))))))))))))))))))))
      exact zc Z Z Z (zc Z Z Z (za (yh Z Z Z) (qe Z ⟨true,H,⟨Z,Z,Z,Z,Z,Z,Z,Z,U⟩,⟨Z,U⟩⟩)))
    ·rintro v29 H
     replace H:Wi v2 k4 x7 v29=some q5:=H
     unfold Wi at H
     refine zk _ Z (fun h30 => ?_) (fun h30 => ?_)
     ·refine tE h30 H fun H=>zb hN Z (qe Z (zo ?_))
      replace H:=retl H hq5
      cases H
      exact ⟨U,.inl Z,U⟩
     ·refine fE h30 H fun H=>qi (ι:=Bool) (fun i=>[(0,.dat (vlst (List.map ya v1))),(1,.dat (vlst (List.map qq v2))),(10,.dat (vlst (List.map qq v2))),(11,.dat (vint (v2.length:Int))),(12,.dat (vint (k4:Int))),(55,.dat (zn i))]) (fun i=>[]) (fun i=>z0r i=some q5) (fun i=>Z) ?_ ?_
      ·skip
       refine yo mixed hN Z Z (qd Z (za (vn Z Z) (qd Z (qo (j:=2) Z Z (fun h31 => ?_) (fun h31 => ?_) Z))))
       ·refine u1 h31 H fun h32 H=>zf Z Z h31 (ze xg Z) (yd Z Z h31 (zj tyS9 Z Z) Z (zf Z Z h31 (zg (.dat _) Z) (zf Z Z h31 (zg (.dat _) Z) (zf Z Z h31 (z1i Z Z (by omega)) (bE H fun x33 h34 H=>zf Z Z h31 (js Qp (fun _=>Z) Z Z h34) (zf Z Z h31 (wd xg Z) (zf Z Z h31 (yt tyS9 Z (yz (yp h34).2) Z) (zf Z Z h31 (y6m Z Z) (zf Z Z h31 (zg (.dat _) Z) (qo (j:=12) Z Z (fun h35 => ?_) (fun h35 => ?_) Z))))))))))
        ·refine u3 h35 H fun h36 H=>zf Z Z h35 (ze xg Z) (yd Z Z h35 (zj tyS9 Z Z) Z (zf Z Z h35 (zg (.dat _) Z) (zf Z Z h35 (zg (.dat _) Z) (zf Z Z h35 (z1i Z Z (by omega)) (zf Z Z h35 (js Qp (fun _=>Z) Z Z h34) (zf Z Z h35 (wd xg Z) (zf Z Z h35 (yt tyS9 Z (yz (yp h34).2) Z) (zf Z Z h35 (xu Z Z) (zf Z Z h35 (zg (.dat _) Z) (qo (j:=22) Z Z (fun h37 => ?_) (fun h37 => ?_) Z))))))))))
         ·refine u1 h37 H fun h38 H=>zf Z Z h37 (ze kj Z) (zf Z Z h37 (ze Qm Z) (yd Z Z h37 (zj tyS3 Z Z) Z (zf Z Z h37 (zg (.dat _) Z) (zf Z Z h37 (zg (.dat _) Z) (zf Z Z h37 (z1i Z Z (by omega)) (zf Z Z h37 (js Qp (fun _=>Z) Z Z h34) (zf Z Z h37 (wd kj Z) (zf Z Z h37 (wd Ww Z) (zf Z Z h37 (yt tyS3 Z (yz (yp h34).2) Z) (zf Z Z h37 (zq Z Z) (zf Z Z h35 (yh Z (bTT h38) Z) (zf Z Z h31 (yn Z (bFF h36) Z) (za (yh Z (bTT h32) Z) (qe Z ⟨Z,?_⟩))))))))))))))
          exact ⟨decide (x7.Time.From < x33.Time.To),H,⟨Z,Z,Z,Z,Z,Z,U⟩,U⟩
         ·refine u2 h37 H fun h39 H=>zc Z Z h37 (zc Z Z h37 (zc Z Z h37 (zc Z Z h37 (zc Z Z h37 (zc Z Z h37 (zc Z Z h37 (zc Z Z h37 (zc Z Z h37 (zc Z Z h37 (zc Z Z h37 (zf Z Z h35 (yn Z (bFF h39) Z) (zf Z Z h31 (yn Z (bFF h36) Z) (za (yh Z (bTT h32) Z) (qe Z ⟨Z,?_⟩))))))))))))))
          exact ⟨false,H,⟨Z,Z,Z,Z,Z,Z,U⟩,U⟩
        ·refine u4 h35 H fun h40 H=>zc Z Z h35 (zc Z Z h35 (zc Z Z h35 (zc Z Z h35 (zc Z Z h35 (zc Z Z h35 (zc Z Z h35 (zc Z Z h35 (zc Z Z h35 (zc Z Z h35 (yg Z Z (yg Z Z (yg Z Z (yg Z Z (yg Z Z (yg Z Z (yg Z Z (yg Z Z (yg Z Z (yg Z Z (yg Z Z (zc Z Z h35 (zf Z Z h31 (yh Z (bTT h40) Z) ?_))))))))))))))))))))))
         refine za (yh Z (bTT h32) Z) (qe Z ⟨Z,?_⟩)
         exact ⟨true,H,⟨Z,Z,Z,Z,Z,Z,U⟩,U⟩
       ·refine u2 h31 H fun h41 H=>zc Z Z h31 (zc Z Z h31 (zc Z Z h31 (zc Z Z h31 (zc Z Z h31 (zc Z Z h31 (zc Z Z h31 (zc Z Z h31 (zc Z Z h31 (zc Z Z h31 (yg Z Z (yg Z Z (yg Z Z (yg Z Z (yg Z Z (yg Z Z (yg Z Z (yg Z Z (yg Z Z (yg Z Z (yg Z Z (yg Z Z (yg Z Z ?_))))))))))))))))))))))
        refine yg Z Z (yg Z Z (yg Z Z (yg Z Z (yg Z Z (yg Z Z (yg Z Z (yg Z Z (yg Z Z (zc Z Z h31 (za (yn Z (bFF h41) Z) (qe Z ⟨Z,?_⟩)))))))))))
        exact ⟨false,H,⟨Z,Z,Z,Z,Z,Z,U⟩,U⟩
      ·rintro v42 H
       replace H:z0r v42=some q5:=H
       unfold z0r at H
       refine zk _ Z (fun h43 => ?_) (fun h43 => ?_)
       ·refine tE h43 H fun H=>zb hN Z (qe Z (zo ?_))
        replace H:=retl H hq5
        cases H
        exact ⟨U,.inl Z,U⟩
       ·exact fE h43 H fun H=>zp (zm hN Z (za (yy Z Z (by omega)) (qd Z ⟨_,qx H,⟨Z,Z,Z,Z,Z,U⟩,U⟩)))
theorem x81 (s1:(List yi)) (p1:yi→Option (Bool)) (fv1:Nat) (us1:List V) (hp1:∀ a0 r,p1 a0=some r→Fn Tryz.prog fv1 ([vagg (wz a0)]++us1) (zu [zn r])) (r:(Int)) (H:z93 s1 p1=some r):Fn Tryz.prog 78 [vlst (List.map wz s1),vfn fv1 us1] (zu [vint r]):=by
 refine ⟨by kernel_rfl,yr (us:=[vint r]) Tryz.func78 Z Z Z Z fun X hN => ?_⟩
 unfold z93 at H
 refine zb hN Z (qe Z (zd (zb hN Z (qd Z (za (yx Qh Z) (qd Z (zw (gE H fun h4 H=>wg (fun (k2:Nat) (s:Unit)=>[(0,.dat (vlst (List.map wz s1))),(1,.dat (vfn fv1 us1)),(7,.dat (vint (s1.length:Int))),(8,.dat (vint (k2:Int)))]) (fun (k2:Nat) (s:Unit)=>[]) () H ⟨Z,Z,Z,Z,U⟩ U (fun _ _=>Z) ?_ ?_))))))))
 ·rintro ⟨⟩ H
  replace H:z88=some r:=H
  unfold z88 at H
  refine zb hN Z (za (zq Z Z) (zd (zk _ Z (fun h=>(lt_t h).elim) (fun h => ?_))))
  refine qa (zb hN Z (qe Z (zo ?_)))
  cases H
  exact ⟨U,.inl Z,U⟩
 ·rintro k2 x5 ⟨⟩ q3 h6 h7 H hq3
  replace H:Qu p1 k2 x5=some q3:=H
  unfold Qu at H
  refine zb hN Z (za (zq Z Z) (zd (zk _ Z (fun h => ?_) (fun h=>(lt_f h6 h).elim))))
  refine zp (zd (zw (zb hN Z (qd Z (qe Z (zb hN Z (qd Z (qd Z (qd Z (za (wb Qq (fun _=>Z) Z Z h7) (za (wv Qi Z (yz h7) Z) (bE H fun r8 h9 H=>za (uw (hp1 x5 r8 h9) Z ⟨.inl Z,U⟩) (zk _ Z (fun h10 => ?_) (fun h10 => ?_))))))))))))))
  ·refine tE h10 H fun H=>zb hN Z (qd Z (qe Z (zo ?_)))
   replace H:=retl H hq3
   cases H
   exact ⟨U,.inl Z,U⟩
  ·exact fE h10 H fun H=>zp (zm hN Z (za (yy Z Z (by omega)) (qd Z ⟨_,qx H,⟨Z,Z,Z,Z,U⟩,U⟩)))
theorem x87 (s1:(List yi)) (p1:yi→Option (Bool)) (fv1:Nat) (us1:List V) (hp1:∀ a0 r,p1 a0=some r→Fn Tryz.prog fv1 ([vagg (wz a0)]++us1) (zu [zn r])) (r:(Bool)) (H:z6h s1 p1=some r):Fn Tryz.prog 40 [vlst (List.map wz s1),vfn fv1 us1] (zu [zn r]):=by
 refine ⟨by kernel_rfl,yr (us:=[zn r]) Tryz.func40 Z Z Z Z fun X hN => ?_⟩
 unfold z6h at H
 refine zb hN Z (qe Z (zb hN Z (qd Z (qd Z (bE H fun r2 h3 H=>za (ye (x81 s1 p1 fv1 us1 hp1 r2 h3) ⟨.inl Z,.inl Z,U⟩) (za (ke Z Z) (qe Z (zo ?_))))))))
 cases H
 exact ⟨U,.inl Z,U⟩
theorem x9q (o1:yi) (c2:yi) (r:(Bool)) (H:Wc o1 c2=some r):Fn Tryz.prog 41 [vagg (wz o1),zx [[vstr c2.Id,vint c2.At]] 0 0] (zu [zn r]):=by
 refine ⟨by kernel_rfl,yr (us:=[zn r]) Tryz.func41 Z Z Z Z fun X hN => ?_⟩
 unfold Wc at H
 refine zb hN Z (zi (vt 1 Z) Z (qe Z (zb hN Z (za (ze Yg Z) (zh (zj tyS9 Z Z) Z (za (wd Yg Z) (za (yt tyS9 Z Z Z) (za (xu Z Z) (qe Z (zo ?_))))))))))
 cases H
 exact ⟨U,.inl Z,U⟩
theorem x9k (v1:Int) (r:(Bool)) (H:y0b v1=some r):Fn Tryz.prog 42 [vint v1] (zu [zn r]):=by
 refine ⟨by kernel_rfl,yr (us:=[zn r]) Tryz.func42 Z Z Z Z fun X hN => ?_⟩
 unfold y0b at H
 refine zb hN Z (qe Z (zb hN Z (qd Z (bE H fun r2 h3 H=>za (ye (uh v1 0 345686399999 r2 h3) ⟨.inl Z,.inl Z,.inl Z,U⟩) (qe Z (zo ?_))))))
 cases H
 exact ⟨U,.inl Z,U⟩
theorem x9r (l1:(List yi)) (r:(Int)) (H:z6x l1=some r):Fn Tryz.prog 11 [vlst (List.map wz l1)] (zu [vint r]):=by
 refine ⟨by kernel_rfl,yr (us:=[vint r]) Tryz.func11 Z Z Z Z fun X hN => ?_⟩
 unfold z6x at H
 refine zb hN Z (qe Z (zd (zb hN Z (qd Z (za (yx Qh Z) (za (vn Z Z) (zk _ Z (fun h2 => ?_) (fun h2 => ?_))))))))
 ·refine tE h2 H fun H=>zb hN Z (qe Z (zo ?_))
  cases H
  exact ⟨U,.inl Z,U⟩
 ·refine fE h2 H fun H=>zp (zd (zb hN Z (qd Z (za (yx Qh Z) (qd Z (zw (gE H fun h5 H=>wg (fun (k3:Nat) (s:Unit)=>[(0,.dat (vlst (List.map wz l1))),(8,.dat (vlst (List.map wz l1))),(9,.dat (vint (l1.length:Int))),(10,.dat (vint (k3:Int)))]) (fun (k3:Nat) (s:Unit)=>[]) () H ⟨Z,Z,Z,Z,U⟩ U (fun _ _=>Z) ?_ ?_)))))))
  ·rintro ⟨⟩ H
   replace H:y36=some r:=H
   unfold y36 at H
   refine zb hN Z (za (zq Z Z) (zd (zk _ Z (fun h=>(lt_t h).elim) (fun h => ?_))))
   refine qa (zb hN Z (qe Z (zo ?_)))
   cases H
   exact ⟨U,.inl Z,U⟩
  ·rintro k3 x6 ⟨⟩ q4 h7 h8 H hq4
   replace H:y0v l1 k3 x6=some q4:=H
   unfold y0v at H
   refine zb hN Z (za (zq Z Z) (zd (zk _ Z (fun h => ?_) (fun h=>(lt_f h7 h).elim))))
   refine zp (zd (zw (zb hN Z (qd Z (za (wb Qq (fun _=>Z) Z Z h8) (za (wv Qi Z (yz h8) Z) (zi (qh 1 z46 Z) Z (qe Z (zi (qf Qi Z Z Z Z) Z (zw (zb hN Z (za (ze Yg Z) (zh (zj tyS9 Z Z) Z (bE H fun r9 h10 H=>za (ye (y9o x6.Id r9 h10) ⟨.inl Z,U⟩) (za (qs Z) (qe Z (zk _ Z (fun h11 => ?_) (fun h11 => ?_))))))))))))))))))
   ·refine tE h11 H fun H=>zb hN Z (qe Z (zo ?_))
    replace H:=retl H hq4
    cases H
    exact ⟨U,.inl Z,U⟩
   ·refine fE h11 H fun H=>zd (xm 1 [vstr x6.Id,vint x6.At] Z Z (zm hN Z (qd Z (qd Z (bE H fun l12 h13 H=>za (x3l Qq (fun _=>Z) Z Z Z h13) (za (Yn (us:=[_]) ⟨Z,U⟩) (bE H fun r14 h15 H=>za (ye (x87 l12 (fun (a0:yi)=>Wc a0 x6) 41 [zx [[vstr x6.Id,vint x6.At]] 0 0] (fun a0 r h=>x9q a0 x6 r h) r14 h15) ⟨.inl Z,.inl Z,U⟩) (qe Z (zk _ Z (fun h16 => ?_) (fun h16 => ?_))))))))))
    ·refine tE h16 H fun H=>zb hN Z (qe Z (zo ?_))
     replace H:=retl H hq4
     cases H
     exact ⟨U,.inl Z,U⟩
    ·refine fE h16 H fun H=>zb hN Z (za (wd Zk Z) (za (yt tyS3 Z Z Z) (bE H fun r17 h18 H=>za (ye (x9k x6.At r17 h18) ⟨.inl Z,U⟩) (za (qs Z) (qe Z (zk _ Z (fun h19 => ?_) (fun h19 => ?_)))))))
     ·refine tE h19 H fun H=>zb hN Z (qe Z (zo ?_))
      replace H:=retl H hq4
      cases H
      exact ⟨U,.inl Z,U⟩
     ·refine fE h19 H fun H=>qi (ι:=Bool) (fun i=>[(0,.dat (vlst (List.map wz l1))),(8,.dat (vlst (List.map wz l1))),(9,.dat (vint (l1.length:Int))),(10,.dat (vint (k3:Int))),(31,.dat (zn i))]) (fun i=>[]) (fun i=>z4j i=some q4) (fun i=>Z) ?_ ?_
      ·skip
       refine yo mixed hN Z Z (qd Z (za (vn Z Z) (qd Z (qo (j:=2) Z Z (fun h20 => ?_) (fun h20 => ?_) Z))))
       ·refine u1 h20 H fun h21 H=>zf Z Z h20 (wd Zk Z) (zf Z Z h20 (yt tyS3 Z Z Z) (zf Z Z h20 (zg (.dat _) Z) (zf Z Z h20 (zg (.dat _) Z) (zf Z Z h20 (z1i Z Z (by omega)) (bE H fun x22 h23 H=>zf Z Z h20 (js Qq (fun _=>Z) Z Z h23) (zf Z Z h20 (wd Zk Z) (zf Z Z h20 (yt tyS3 Z (yz (yp h23).2) Z) (zf Z Z h20 (zq Z Z) (za (yh Z (bTT h21) Z) (qe Z ⟨Z,?_⟩))))))))))
        exact ⟨decide (x6.At < x22.At),H,⟨Z,Z,Z,Z,Z,U⟩,U⟩
       ·refine u2 h20 H fun h24 H=>zc Z Z h20 (zc Z Z h20 (zc Z Z h20 (zc Z Z h20 (zc Z Z h20 (zc Z Z h20 (zc Z Z h20 (zc Z Z h20 (zc Z Z h20 (za (yn Z (bFF h24) Z) (qe Z ⟨Z,?_⟩))))))))))
        exact ⟨false,H,⟨Z,Z,Z,Z,Z,U⟩,U⟩
      ·rintro v25 H
       replace H:z4j v25=some q4:=H
       unfold z4j at H
       refine zk _ Z (fun h26 => ?_) (fun h26 => ?_)
       ·refine tE h26 H fun H=>zb hN Z (qe Z (zo ?_))
        replace H:=retl H hq4
        cases H
        exact ⟨U,.inl Z,U⟩
       ·exact fE h26 H fun H=>zp (zm hN Z (za (yy Z Z (by omega)) (qd Z ⟨_,qx H,⟨Z,Z,Z,Z,U⟩,U⟩)))
theorem x92 (is1:Bool) (e2:Int) (r:(Int)) (H:z35 is1 e2=some r):Fn Tryz.prog 12 [zn is1,vint e2] (zu [vint r]):=by
 refine ⟨by kernel_rfl,yr (us:=[vint r]) Tryz.func12 Z Z Z Z fun X hN => ?_⟩
 unfold z35 at H
 refine zb hN Z (qe Z (zd (zb hN Z (qd Z (zk _ Z (fun h3 => ?_) (fun h3 => ?_))))))
 ·refine tE h3 H fun H=>zb hN Z (qd Z (qe Z (zo ?_)))
  cases H
  exact ⟨U,.inl Z,U⟩
 ·refine fE h3 H fun H=>zp (zb hN Z (qe Z (zo ?_)))
  cases H
  exact ⟨U,.inl Z,U⟩
theorem x93 (l1:(List Int)) (r:(Int)) (H:z68 l1=some r):Fn Tryz.prog 9 [vlst (List.map y5a l1)] (zu [vint r]):=by
 refine ⟨by kernel_rfl,yr (us:=[vint r]) Tryz.func9 Z Z Z Z fun X hN => ?_⟩
 unfold z68 at H
 refine zb hN Z (qe Z (zd (zb hN Z (qd Z (za (yx x2h Z) (qd Z (zw (gE H fun h4 H=>wg (fun (k2:Nat) (s:Unit)=>[(5,.dat (vlst (List.map y5a l1))),(6,.dat (vint (l1.length:Int))),(7,.dat (vint (k2:Int)))]) (fun (k2:Nat) (s:Unit)=>[]) () H ⟨Z,Z,Z,U⟩ U (fun _ _=>Z) ?_ ?_))))))))
 ·rintro ⟨⟩ H
  replace H:y04=some r:=H
  unfold y04 at H
  refine zb hN Z (za (zq Z Z) (zd (zk _ Z (fun h=>(lt_t h).elim) (fun h => ?_))))
  refine qa (zb hN Z (qe Z (zo ?_)))
  cases H
  exact ⟨U,.inl Z,U⟩
 ·rintro k2 x5 ⟨⟩ q3 h6 h7 H hq3
  replace H:z4q k2 x5=some q3:=H
  unfold z4q at H
  refine zb hN Z (za (zq Z Z) (zd (zk _ Z (fun h => ?_) (fun h=>(lt_f h6 h).elim))))
  refine zp (zd (zw (zb hN Z (za (wb x3f (fun _=>Z) Z Z h7) (za (yt x2j Z (yz h7) Z) (qe Z (zb hN Z (qd Z (za (km Z Z) (zk _ Z (fun h8 => ?_) (fun h8 => ?_)))))))))))
  ·refine tE h8 H fun H=>zb hN Z (qd Z (qe Z (zo ?_)))
   replace H:=retl H hq3
   cases H
   exact ⟨U,.inl Z,U⟩
  ·exact fE h8 H fun H=>zp (zm hN Z (za (yy Z Z (by omega)) (qd Z ⟨_,qx H,⟨Z,Z,Z,U⟩,U⟩)))
theorem x84 (s1:(List yf)) (s2:(List yf)) (p2:yf→yf→Option (Bool)) (fv2:Nat) (us2:List V) (hp2:∀ a0 a1 r,p2 a0 a1=some r→Fn Tryz.prog fv2 ([vagg (wx a0),vagg (wx a1)]++us2) (zu [zn r])) (r:(Bool)) (H:z94 s1 s2 p2=some r):Fn Tryz.prog 45 [vlst (List.map wx s1),vlst (List.map wx s2),vfn fv2 us2] (zu [zn r]):=by
 refine ⟨by kernel_rfl,yr (us:=[zn r]) Tryz.func45 Z Z Z Z fun X hN => ?_⟩
 unfold z94 at H
 refine zb hN Z (qe Z (zd (zb hN Z (qd Z (za (yx Yd Z) (qd Z (za (yx Yd Z) (za (km Z Z) (zk _ Z (fun h3 => ?_) (fun h3 => ?_))))))))))
 ·refine tE h3 H fun H=>zb hN Z (qe Z (zo ?_))
  cases H
  exact ⟨U,.inl Z,U⟩
 ·refine fE h3 H fun H=>zp (zd (zb hN Z (qd Z (za (yx Yd Z) (qd Z (zw (gE H fun h6 H=>wg (fun (k4:Nat) (s:Unit)=>[(1,.dat (vlst (List.map wx s2))),(2,.dat (vfn fv2 us2)),(15,.dat (vlst (List.map wx s1))),(16,.dat (vint (s1.length:Int))),(17,.dat (vint (k4:Int)))]) (fun (k4:Nat) (s:Unit)=>[]) () H ⟨Z,Z,Z,Z,Z,U⟩ U (fun _ _=>Z) ?_ ?_)))))))
  ·rintro ⟨⟩ H
   replace H:y21=some r:=H
   unfold y21 at H
   refine zb hN Z (za (zq Z Z) (zd (zk _ Z (fun h=>(lt_t h).elim) (fun h => ?_))))
   refine qa (zb hN Z (qe Z (zo ?_)))
   cases H
   exact ⟨U,.inl Z,U⟩
  ·rintro k4 x7 ⟨⟩ q5 h8 h9 H hq5
   replace H:z9a s2 p2 k4 x7=some q5:=H
   unfold z9a at H
   refine zb hN Z (za (zq Z Z) (zd (zk _ Z (fun h => ?_) (fun h=>(lt_f h8 h).elim))))
   refine zp (zd (zw (zb hN Z (qd Z (za (wb z1h (fun _=>Z) Z Z h9) (za (wv Zj Z (yz h9) Z) (zi (qh 1 z2u Z) Z (qe Z (zi (qf Zj Z Z Z Z) Z (zb hN Z (qd Z (qd Z (bE H fun x10 h11 H=>za (wb z1h (fun _=>Z) Z Z h11) (za (wv Zj Z (yz h11) Z) (zi (qh 2 z2u Z) Z (zi (qf Zj Z Z Z Z) Z (zb hN Z (qd Z (zh (wm Zj Z Z Z) Z (zh (wm Zj Z Z Z) Z (bE H fun r12 h13 H=>za (uw (hp2 x7 x10 r12 h13) Z ⟨.inl Z,.inl Z,U⟩) ?_)))))))))))))))))))))
   refine za (qs Z) (zk _ Z (fun h14 => ?_) (fun h14 => ?_))
   ·refine tE h14 H fun H=>zb hN Z (qe Z (zo ?_))
    replace H:=retl H hq5
    cases H
    exact ⟨U,.inl Z,U⟩
   ·exact fE h14 H fun H=>zp (zm hN Z (za (yy Z Z (by omega)) (qd Z ⟨_,qx H,⟨Z,Z,Z,Z,Z,U⟩,U⟩)))
theorem x83 (s1:(List qc)) (s2:(List qc)) (r:(Bool)) (H:z6g s1 s2=some r):Fn Tryz.prog 47 [vlst (List.map jm s1),vlst (List.map jm s2)] (zu [zn r]):=by
 refine ⟨by kernel_rfl,yr (us:=[zn r]) Tryz.func47 Z Z Z Z fun X hN => ?_⟩
 unfold z6g at H
 refine zb hN Z (qe Z (zd (zb hN Z (qd Z (za (yx Zi Z) (qd Z (za (yx Zi Z) (za (km Z Z) (zk _ Z (fun h3 => ?_) (fun h3 => ?_))))))))))
 ·refine tE h3 H fun H=>zb hN Z (qe Z (zo ?_))
  cases H
  exact ⟨U,.inl Z,U⟩
 ·refine fE h3 H fun H=>zp (zd (zb hN Z (qd Z (za (yx Zi Z) (qd Z (zw (gE H fun h6 H=>wg (fun (k4:Nat) (s:Unit)=>[(0,.dat (vlst (List.map jm s1))),(1,.dat (vlst (List.map jm s2))),(12,.dat (vint (s1.length:Int))),(13,.dat (vint (k4:Int)))]) (fun (k4:Nat) (s:Unit)=>[]) () H ⟨Z,Z,Z,Z,U⟩ U (fun _ _=>Z) ?_ ?_)))))))
  ·rintro ⟨⟩ H
   replace H:y20=some r:=H
   unfold y20 at H
   refine zb hN Z (za (zq Z Z) (zd (zk _ Z (fun h=>(lt_t h).elim) (fun h => ?_))))
   refine qa (zb hN Z (qe Z (zo ?_)))
   cases H
   exact ⟨U,.inl Z,U⟩
  ·rintro k4 x7 ⟨⟩ q5 h8 h9 H hq5
   replace H:z89 s2 k4 x7=some q5:=H
   unfold z89 at H
   refine zb hN Z (za (zq Z Z) (zd (zk _ Z (fun h => ?_) (fun h=>(lt_f h8 h).elim))))
   refine zp (zd (zw (zb hN Z (qd Z (qe Z (zd (yo mixed hN Z Z (qd Z (qd Z (za (wb z5l (fun _=>Z) Z Z h9) (za (wv z2y Z (yz h9) Z) (qd Z (qd Z (bE H fun x10 h11 H=>za (wb z5l (fun _=>Z) Z Z h11) (za (wv z2y Z (yz h11) Z) (za (x45 [_,_,_,_] [_,_,_,_] x2k Z Z Z) ⟨Z,?_⟩))))))))))))))))
   refine zk _ Z (fun h12 => ?_) (fun h12 => ?_)
   ·refine tE h12 H fun H=>zb hN Z (qe Z (zo ?_))
    replace H:=retl H hq5
    cases H
    exact ⟨U,.inl Z,U⟩
   ·exact fE h12 H fun H=>zp (zm hN Z (za (yy Z Z (by omega)) (qd Z ⟨_,qx H,⟨Z,Z,Z,Z,U⟩,U⟩)))
theorem x9f (x1:yf) (y2:yf) (r:(Bool)) (H:z6o x1 y2=some r):Fn Tryz.prog 46 [vagg (wx x1),vagg (wx y2)] (zu [zn r]):=by
 refine ⟨by kernel_rfl,yr (us:=[zn r]) Tryz.func46 Z Z Z Z fun X hN => ?_⟩
 unfold z6o at H
 refine zb hN Z (zi (vt 1 Z) Z (zi (vt 2 Z) Z (qe Z (qi (ι:=Bool) (fun i=>[(4,.dat (zn i))]) (fun i=>[]) (fun i=>z0q i=some r) (fun i=>Z) ?_ ?_))))
 ·skip
  refine zm hN Z (za (ze y55 Z) (zh (zj tyS9 Z Z) Z (za (ze y55 Z) (zh (zj tyS9 Z Z) Z (za (xu Z Z) (qd Z (qo (j:=5) Z Z (fun h3 => ?_) (fun h3 => ?_) Z)))))))
  ·refine u1 h3 H fun h4 H=>zf Z Z h3 (ze z1c Z) (yd Z Z h3 (zj tyS3 Z Z) Z (zf Z Z h3 (ze z1c Z) (yd Z Z h3 (zj tyS3 Z Z) Z (zf Z Z h3 (qz Z Z) (za (yh Z (bTT h4) Z) (qd Z (qo (j:=12) Z Z (fun h5 => ?_) (fun h5 => ?_) Z)))))))
   ·refine u1 h5 H fun h6 H=>zf Z Z h5 (ze Ql Z) (yd Z Z h5 (zj tyS3 Z Z) Z (zf Z Z h5 (ze Ql Z) (yd Z Z h5 (zj tyS3 Z Z) Z (zf Z Z h5 (qz Z Z) (za (yh Z (bTT h6) Z) (qd Z (qo (j:=19) Z Z (fun h7 => ?_) (fun h7 => ?_) Z)))))))
    ·exact u1 h7 H fun h8 H=>zf Z Z h7 (ze kw Z) (yd Z Z h7 (zj ku Z Z) Z (zf Z Z h7 (ze kw Z) (yd Z Z h7 (zj ku Z Z) Z (bE H fun r9 h10 H=>zf Z Z h7 (ye (x83 x1.Tries y2.Tries r9 h10) ⟨.inl Z,.inl Z,U⟩) (za (yh Z (bTT h8) Z) (qe Z ⟨r9,H,⟨Z,U⟩,U⟩))))))
    ·exact u2 h7 H fun h11 H=>zc Z Z h7 (zc Z Z h7 (zc Z Z h7 (zc Z Z h7 (zc Z Z h7 (za (yn Z (bFF h11) Z) (qe Z ⟨false,H,⟨Z,U⟩,U⟩))))))
   ·exact u2 h5 H fun h12 H=>zc Z Z h5 (zc Z Z h5 (zc Z Z h5 (zc Z Z h5 (zc Z Z h5 (za (yn Z (bFF h12) Z) (qd Z (zc Z Z Z (zc Z Z Z (zc Z Z Z (zc Z Z Z (zc Z Z Z (za (yn Z Z Z) (qe Z ⟨false,H,⟨Z,U⟩,U⟩)))))))))))))
  ·exact u2 h3 H fun h13 H=>zc Z Z h3 (zc Z Z h3 (zc Z Z h3 (zc Z Z h3 (zc Z Z h3 (za (yn Z (bFF h13) Z) (qd Z (zc Z Z Z (zc Z Z Z (zc Z Z Z (zc Z Z Z (zc Z Z Z (za (yn Z Z Z) (qd Z (zc Z Z Z (zc Z Z Z (zc Z Z Z (zc Z Z Z (zc Z Z Z (za (yn Z Z Z) (qe Z ⟨false,H,⟨Z,U⟩,U⟩))))))))))))))))))))
 ·rintro v14 H
  replace H:z0q v14=some r:=H
  unfold z0q at H
  refine zo ?_
  cases H
  exact ⟨U,.inl Z,U⟩
theorem x9g (a1:(List yf)) (b2:(List yf)) (r:(Bool)) (H:z3z a1 b2=some r):Fn Tryz.prog 14 [vlst (List.map wx a1),vlst (List.map wx b2)] (zu [zn r]):=by
 refine ⟨by kernel_rfl,yr (us:=[zn r]) Tryz.func14 Z Z Z Z fun X hN => ?_⟩
 unfold z3z at H
 refine zb hN Z (qe Z (zb hN Z (qd Z (qd Z (bE H fun r3 h4 H=>za (y6r (x84 a1 b2 (fun (a0:yf) (a1:yf)=>z6o a0 a1) 46 [] (fun a0 a1 r h=>x9f a0 a1 r h) r3 h4) ⟨.inl (.inl Z),.inl (.inl Z),.inr ⟨_,Z,Z⟩,U⟩) (qe Z (zo ?_)))))))
 cases H
 exact ⟨U,.inl Z,U⟩
theorem x9b (a1:Int) (b2:Int) (r:(Int)) (H:z99 a1 b2=some r):Fn Tryz.prog 82 [vint a1,vint b2] (zu [vint r]):=by
 refine ⟨by kernel_rfl,yr (us:=[vint r]) Tryz.func82 Z Z Z Z fun X hN => ?_⟩
 unfold z99 at H
 refine zb hN Z (qe Z (qi (ι:=Int) (fun i=>[(0,.dat (vint i))]) (fun i=>[]) (fun i=>z7f i=some r) (fun i=>Z) ?_ ?_))
 ·skip
  refine zw (z0x (fun (s:Int×Int)=>[(0,.dat (vint s.1)),(1,.dat (vint s.2))]) (fun (s:Int×Int)=>[]) (a1,b2) H ⟨Z,Z,U⟩ U (fun _=>Z) ?_)
  rintro ⟨a3,b4⟩ q5 H hq5
  replace H:z12 a3 b4=some q5:=H
  unfold z12 at H
  refine zd (zb hN Z (qd Z (za (km Z Z) (zk _ Z (fun h6 => ?_) (fun h6 => ?_)))))
  ·refine tE h6 H fun H=>zp (zw (yo mixed hN Z Z (qd Z (qd Z (qd Z (gE H fun h7 H=>za (z8w Z Z h7) (qe Z (qe Z ⟨Z,?_⟩))))))))
   exact ⟨_,qx H,⟨Z,Z,U⟩,U⟩
  ·refine fE h6 H fun H=>qa ?_
   replace H:=outl H hq5
   exact ⟨a3,H,⟨Z,U⟩,U⟩
 ·rintro a8 H
  replace H:z7f a8=some r:=H
  unfold z7f at H
  refine zb hN Z (qd Z (qd Z (gE H fun h9 H=>za (z8y Z h9) (za (x4j Z Z) (qe Z (zo ?_))))))
  cases H
  exact ⟨U,.inl Z,U⟩
theorem x89 (num1:Int) (den2:Int) (r:(va)) (H:z6j num1 den2=some r):Fn Tryz.prog 49 [vint num1,vint den2] (zu [vagg (kb r)]):=by
 refine ⟨by kernel_rfl,yr (us:=[vagg (kb r)]) Tryz.func49 Z Z Z Z fun X hN => ?_⟩
 unfold z6j at H
 refine zb hN Z (zi (qh 1 Yc Z) Z (qi (ι:=Int×Int) (fun i=>[(0,.dat (vint i.1)),(1,.dat (vint i.2)),(4,.ptr 1 0)]) (fun i=>[(1,.box none 50 [.dat (vint 0),.dat (vint 0)])]) (fun i=>z39 i.1 i.2=some r) (fun i=>Z) ?_ ?_))
 ·skip
  refine zb hN Z (qd Z (za (zq Z Z) (zk _ Z (fun h3 => ?_) (fun h3 => ?_))))
  ·exact tE h3 H fun H=>zm hN Z (qd Z (gE H fun h4 H=>za (z8y Z h4) (qd Z (gE H fun h5 H=>za (z8y Z h5) (qe Z (qe Z ⟨((-num1),(-den2)),H,⟨Z,Z,Z,U⟩,⟨Z,U⟩⟩))))))
  ·exact fE h3 H fun H=>zp ⟨(num1,den2),H,⟨Z,Z,Z,U⟩,⟨Z,U⟩⟩
 ·rintro ⟨num6,den7⟩ H
  replace H:z39 num6 den7=some r:=H
  unfold z39 at H
  refine zb hN Z (qd Z (qd Z (bE H fun r8 h9 H=>za (ye (x9b num6 den7 r8 h9) ⟨.inl Z,.inl Z,U⟩) (qe Z (zd (yo mixed hN Z Z (qd Z (qd Z (gE H fun h10 H=>za (z1j Z Z h10.1 h10.2) (qd Z (qd Z (gE H fun h11 H=>za (z1j Z Z h11.1 h11.2) (za (yb (u':=vagg (kb (va.mk (num6 / r8) (den7 / r8)))) (vq [(0,[vint (num6 / r8)]),(1,[vint (den7 / r8)])] Yc z5c Z ⟨Z,.inl ⟨_,Z,Z,Z⟩,Z,Z,.inl ⟨_,Z,Z,Z⟩,Z,U⟩) Z) (zi (qf uo Z Z Z Z) Z ⟨Z,?_⟩))))))))))))))
  refine zo ?_
  cases H
  exact ⟨U,.inl ⟨_,_,_,kb (va.mk (num6 / r8) (den7 / r8)),Z,Z,Z,Z,uo⟩,U⟩
theorem x8o (l1:(List yf)) (r:(va×Int)) (H:z1r l1=some r):Fn Tryz.prog 15 [vlst (List.map wx l1)] (zu [vagg (kb r.1),vint r.2]):=by
 refine ⟨by kernel_rfl,yr (us:=[vagg (kb r.1),vint r.2]) Tryz.func15 Z Z Z Z fun X hN => ?_⟩
 unfold z1r at H
 refine zb hN Z (zi (qh 1 Yc Z) Z (qe Z (zd (zb hN Z (qd Z (za (yx Yd Z) (za (qz Z Z) (zk _ Z (fun h2 => ?_) (fun h2 => ?_)))))))))
 ·refine tE h2 H fun H=>zb hN Z (za (yb (u':=vagg (kb (va.mk 0 0))) (vq [] Yc z5c Z U) Z) (zi (qf uo Z Z Z Z) Z (qe Z (zo ?_))))
  cases H
  exact ⟨U,.inl ⟨_,_,_,kb (va.mk 0 0),Z,Z,Z,Z,uo⟩,.inl Z,U⟩
 ·refine fE h2 H fun H=>zp (zd (zb hN Z (qd Z (za (yx Yd Z) (za (vn Z Z) (zk _ Z (fun h3 => ?_) (fun h3 => ?_)))))))
  ·refine tE h3 H fun H=>zb hN Z (za (yb (u':=vagg (kb (va.mk 0 0))) (vq [] Yc z5c Z U) Z) (zi (qf uo Z Z Z Z) Z (qe Z (zo ?_))))
   cases H
   exact ⟨U,.inl ⟨_,_,_,kb (va.mk 0 0),Z,Z,Z,Z,uo⟩,.inl Z,U⟩
  ·refine fE h3 H fun H=>zp (zb hN Z (qe Z (zd (zb hN Z (qd Z (za (yx Yd Z) (qd Z (zw (gE H fun h7 H=>wg (fun (k5:Nat) (s:Int)=>[(0,.dat (vlst (List.map wx l1))),(2,.ptr 1 0),(4,.dat (vint s)),(15,.dat (vlst (List.map wx l1))),(16,.dat (vint (l1.length:Int))),(17,.dat (vint (k5:Int)))]) (fun (k5:Nat) (s:Int)=>[(1,.box none 50 [.dat (vint 0),.dat (vint 0)])]) 0 H ⟨Z,Z,Z,Z,Z,Z,U⟩ ⟨Z,U⟩ (fun _ _=>Z) ?_ ?_)))))))))
   ·rintro n4 H
    replace H:z43 l1 n4=some r:=H
    unfold z43 at H
    refine zb hN Z (za (zq Z Z) (zd (zk _ Z (fun h=>(lt_t h).elim) (fun h => ?_))))
    refine qa (zb hN Z (qd Z (qd Z (za (yx Yd Z) (bE H fun r9 h10 H=>za (ye (x89 n4 (l1.length:Int) r9 h10) ⟨.inl Z,.inl Z,U⟩) (zi (qf uo Z Z Z Z) Z (qe Z (zo ?_))))))))
    cases H
    exact ⟨U,.inl ⟨_,_,_,kb r9,Z,Z,Z,Z,uo⟩,.inl Z,U⟩
   ·rintro k5 x8 n4 q6 h11 h12 H hq6
    replace H:z42 k5 x8 n4=some q6:=H
    unfold z42 at H
    refine zb hN Z (za (zq Z Z) (zd (zk _ Z (fun h => ?_) (fun h=>(lt_f h11 h).elim))))
    refine zp (qi (ι:=Int) (fun i=>[(0,.dat (vlst (List.map wx l1))),(2,.ptr 1 0),(4,.dat (vint i)),(15,.dat (vlst (List.map wx l1))),(16,.dat (vint (l1.length:Int))),(17,.dat (vint (k5:Int)))]) (fun i=>[(1,.box none 50 [.dat (vint 0),.dat (vint 0)])]) (fun i=>z2o i=some q6) (fun i=>Z) ?_ ?_)
    ·skip
     refine zw (zb hN Z (za (wb z1h (fun _=>Z) Z Z h12) (za (wv Zj Z (yz h12) Z) (zi (qh 2 z2u Z) Z (zi (qf Zj Z Z Z Z) Z (zb hN Z (za (ze Ql Z) (zh (zj tyS3 Z Z) Z (bE H fun r13 h14 H=>za (ye (xk x8.Status 100 499 r13 h14) ⟨.inl Z,.inl Z,.inl Z,U⟩) (za (qs Z) (zk _ Z (fun h15 => ?_) (fun h15 => ?_))))))))))))
     ·exact tE h15 H fun H=>zm hN Z (qd Z (za (ym _ Z Z (.inl ⟨Z,Z⟩)) (qe Z ⟨wr (n4+1),H,⟨Z,Z,Z,Z,Z,Z,U⟩,⟨Z,U⟩⟩)))
     ·exact fE h15 H fun H=>zp ⟨n4,H,⟨Z,Z,Z,Z,Z,Z,U⟩,⟨Z,U⟩⟩
    ·rintro n16 H
     replace H:z2o n16=some q6:=H
     unfold z2o at H
     exact zm hN Z (za (yy Z Z (by omega)) (qd Z ⟨_,qx H,⟨Z,Z,Z,Z,Z,Z,U⟩,⟨Z,U⟩⟩))
theorem x8h (l1:(List zl)) (r:(Int)) (H:y3m l1=some r):Fn Tryz.prog 83 [vlst (List.map ya l1)] (zu [vint r]):=by
 refine ⟨by kernel_rfl,yr (us:=[vint r]) Tryz.func83 Z Z Z Z fun X hN => ?_⟩
 unfold y3m at H
 refine zb hN Z (qe Z (zb hN Z (qe Z (zd (zb hN Z (qd Z (za (yx vw Z) (qd Z (zw (gE H fun h5 H=>wg (fun (k3:Nat) (s:Int)=>[(3,.dat (vint s)),(6,.dat (vlst (List.map ya l1))),(7,.dat (vint (l1.length:Int))),(8,.dat (vint (k3:Int)))]) (fun (k3:Nat) (s:Int)=>[]) 0 H ⟨Z,Z,Z,Z,U⟩ U (fun _ _=>Z) ?_ ?_))))))))))
 ·rintro sum2 H
  replace H:y1r sum2=some r:=H
  unfold y1r at H
  refine zb hN Z (za (zq Z Z) (zd (zk _ Z (fun h=>(lt_t h).elim) (fun h => ?_))))
  refine qa (zb hN Z (qd Z (qe Z (zo ?_))))
  cases H
  exact ⟨U,.inl Z,U⟩
 ·rintro k3 x6 sum2 q4 h7 h8 H hq4
  replace H:y1q k3 x6 sum2=some q4:=H
  unfold y1q at H
  refine zb hN Z (za (zq Z Z) (zd (zk _ Z (fun h => ?_) (fun h=>(lt_f h7 h).elim))))
  exact zp (zd (zw (zb hN Z (za (wb jq (fun _=>Z) Z Z h8) (za (wv vm Z (yz h8) Z) (zi (qh 1 um Z) Z (zi (qf vm Z Z Z Z) Z (zm hN Z (qd Z (za (ze Qo Z) (zh (zj tyS3 Z Z) Z (za (ym _ Z Z (.inl ⟨Z,Z⟩)) (qe Z (zm hN Z (za (yy Z Z (by omega)) (qd Z ⟨_,qx H,⟨Z,Z,Z,Z,U⟩,U⟩))))))))))))))))
theorem x8q (v1:(List zl)) (v2:Int) (r:((List Bs)×Int)) (H:y3n v1 v2=some r):Fn Tryz.prog 50 [vlst (List.map ya v1),vint v2] (zu [vlst (List.map vd r.1),vint r.2]):=by
 refine ⟨by kernel_rfl,yr (us:=[vlst (List.map vd r.1),vint r.2]) Tryz.func50 Z Z Z Z fun X hN => ?_⟩
 unfold y3n at H
 refine zb hN Z (qe Z (qe Z (zd (zb hN Z (qd Z (bE H fun r3 h4 H=>za (ye (y3z v1 r3 h4) ⟨.inl Z,U⟩) (qe Z (zb hN Z (qd Z (za (km Z Z) (zk _ Z (fun h5 => ?_) (fun h5 => ?_))))))))))))
 ·refine tE h5 H fun H=>zb hN Z (qd Z (qe Z (qe Z (zo ?_))))
  cases H
  exact ⟨U,.inr ⟨Z,Z⟩,.inl Z,U⟩
 ·refine fE h5 H fun H=>zp (zd (zb hN Z (qd Z (bE H fun r6 h7 H=>za (ye (xk v2 0 2000 r6 h7) ⟨.inl Z,.inl Z,.inl Z,U⟩) (zk _ Z (fun h8 => ?_) (fun h8 => ?_))))))
  ·refine tE h8 H fun H=>zb hN Z (qe Z (qe Z (zo ?_)))
   cases H
   exact ⟨U,.inr ⟨Z,Z⟩,.inl Z,U⟩
  ·refine fE h8 H fun H=>zp (zd (zb hN Z (qd Z (za (yx vw Z) (za (qz Z Z) (zk _ Z (fun h9 => ?_) (fun h9 => ?_)))))))
   ·refine tE h9 H fun H=>zb hN Z (qe Z (qe Z (zo ?_)))
    cases H
    exact ⟨U,.inr ⟨Z,Z⟩,.inl Z,U⟩
   ·refine fE h9 H fun H=>zp (zb hN Z (qd Z (za (yx vw Z) (gE H fun h10 H=>zi (y2c (C:=yl) 1 0 vg tyZ3 Z Z Z Z h10 Z) Z (za (wo (.row _ _) Z) (zb hN Z (qd Z (bE H fun r11 h12 H=>za (ye (x8h v1 r11 h12) ⟨.inl Z,U⟩) (qe Z (zb hN Z (qe Z (zd (zb hN Z (qd Z (qd Z (zw (Qb 9 2 9 1 Z Z Z (gE H fun h17 H=>z2i (fun (k15:Nat) (s:(List Int)×(List Bs))=>[(0,.dat (vlst (List.map ya v1))),(7,.row 1 s.1.length),(8,.dat (vint r11)),(9,.row 2 s.2.length),(28,.dat (vint v2)),(29,.dat (vint (k15:Int)))]) (fun (k15:Nat) (s:(List Int)×(List Bs))=>[(1,.row 3 1 (List.map yl s.1)),(2,.row 9 1 (List.map vd s.2))]) ((List.replicate v1.length 0),[]) H ⟨Z,congrArg (Slot.row 1) (by simp),Z,Z,Z,Z,U⟩ ⟨Z,Z,U⟩ (fun _ _=>Z) ?_ ?_))))))))))))))))))
    ·rintro ⟨l13,l14⟩ H
     replace H:y1v l13 l14=some r:=H
     unfold y1v at H
     refine zb hN Z (za (zq Z Z) (zd (zk _ Z (fun h=>(z37 h).elim) (fun h => ?_))))
     refine qa (zb hN Z (za (zg (.row _ _) Z) (za (wo (.row _ _) Z) (qe Z (zo ?_)))))
     cases H
     exact ⟨U,z5n Z Z,.inl Z,U⟩
    ·rintro k15 ⟨l13,l14⟩ q16 h18 H hq16
     replace H:y1t v1 r11 k15 l13 l14=some q16:=H
     unfold y1t at H
     refine zb hN Z (za (zq Z Z) (zd (zk _ Z (fun h => ?_) (fun h=>(z38 h18 h).elim))))
     refine zp (zd (zw (zb hN Z (qe Z (zd (zb hN Z (qd Z (za (yx vw Z) (qd Z (zw (gE H fun h23 H=>wg (fun (k21:Nat) (s:Int×(List Int))=>[(0,.dat (vlst (List.map ya v1))),(7,.row 1 s.2.length),(8,.dat (vint r11)),(9,.row 2 l14.length),(10,.dat (vint s.1)),(28,.dat (vint v2)),(29,.dat (vint (k15:Int))),(31,.dat (vlst (List.map ya v1))),(32,.dat (vint (v1.length:Int))),(33,.dat (vint (k21:Int)))]) (fun (k21:Nat) (s:Int×(List Int))=>[(1,.row 3 1 (List.map yl s.2)),(2,.row 9 1 (List.map vd l14))]) (0,l13) H ⟨Z,Z,Z,Z,Z,Z,Z,Z,Z,Z,U⟩ ⟨Z,Z,U⟩ (fun _ _=>Z) ?_ ?_)))))))))))
     ·rintro ⟨v19,l20⟩ H
      replace H:y1u v1 r11 l14 v19 l20=some q16:=H
      unfold y1u at H
      refine zb hN Z (za (zq Z Z) (zd (zk _ Z (fun h=>(lt_t h).elim) (fun h => ?_))))
      refine qa (zb hN Z (za (zg (.row _ _) Z) (qd Z (bE H fun x25 h26 H=>zh (Yl jr Z Z Z h26) Z (zh (xr tyS3 Z Z (yp h26).2 Z) Z (qd Z (za (ym _ Z Z (.inr (.inl ⟨Z,Z⟩))) (zh (Yl jr Z Z Z h26) Z (zi (kz (wr (x25 - r11)) tyS3 Z Z Z Z (yp h26).2 Z Z) Z (zm hN Z (za (zg (.row _ _) Z) (qd Z (qd Z (bE H fun x27 h28 H=>za (js jq (fun _=>Z) Z Z h28) (za (wd jg Z) (za (yt tyS9 Z (yz (yp h28).2) Z) (za (yb (u':=vlst (List.map vd [x27.Key])) (qr [[_]] Yf ⟨Z,.inl ⟨_,Z,Z,Z⟩,Z,U⟩ Z Z) Z) (gE H fun h29 H=>zi (jo Yf (fun _=>Z) Z Z Z ⟨by simp,by first | (simp; done) | simpa using h29⟩ Z) Z ?_))))))))))))))))))
      exact za (wo (.row _ _) Z) (zm hN Z (za (yy Z Z (by omega)) (qd Z ⟨_,qx H,⟨Z,congrArg (Slot.row 1) (by simp),Z,Z,Z,Z,U⟩,⟨Z,Z,U⟩⟩)))
     ·rintro k21 x24 ⟨v19,l20⟩ q22 h30 h31 H hq22
      replace H:y1s k21 x24 v19 l20=some q22:=H
      unfold y1s at H
      refine zb hN Z (za (zq Z Z) (zd (zk _ Z (fun h => ?_) (fun h=>(lt_f h30 h).elim))))
      refine zp (qi (ι:=Int×(List Int)) (fun i=>[(0,.dat (vlst (List.map ya v1))),(7,.row 1 i.2.length),(8,.dat (vint r11)),(9,.row 2 l14.length),(10,.dat (vint i.1)),(28,.dat (vint v2)),(29,.dat (vint (k15:Int))),(31,.dat (vlst (List.map ya v1))),(32,.dat (vint (v1.length:Int))),(33,.dat (vint (k21:Int)))]) (fun i=>[(1,.row 3 1 (List.map yl i.2)),(2,.row 9 1 (List.map vd l14))]) (fun i=>z44 i.1 i.2=some q22) (fun i=>Z) ?_ ?_)
      ·skip
       refine zw (zb hN Z (qd Z (za (wb jq (fun _=>Z) Z Z h31) (za (wv vm Z (yz h31) Z) (zi (qh 3 um Z) Z (qe Z (zi (qf vm Z Z Z Z) Z (zd (yo mixed hN Z Z (za (zg (.row _ _) Z) (qd Z (bE H fun x32 h33 H=>zh (z5o jr Z Z Z h33) Z (zh (xr tyS3 Z Z h33 Z) Z (za (ze Qo Z) (zh (zj tyS3 Z Z) Z (za (ym _ Z Z (.inl ⟨Z,Z⟩)) (zh (z5o jr Z Z Z h33) Z (zi (kz (wr (x32+x24.Weight)) tyS3 Z Z Z Z h33 Z Z) Z ⟨Z,?_⟩))))))))))))))))))
       refine zd (yo mixed hN Z Z (za (zg (.row _ _) Z) (qd Z (bE H fun x34 h35 H=>zh (z5o jr Z (by simp) Z h35) Z (zh (xr tyS3 Z (by simp) h35 Z) Z (za (zg (.row _ _) Z) (qd Z (bE H fun x36 h37 H=>zh (Yl jr Z (by simp) Z h37) Z (zh (xr tyS3 Z (by simp) (yp h37).2 Z) Z (za (vn Z Z) ⟨Z,?_⟩))))))))))
       refine zk _ Z (fun h38 => ?_) (fun h38 => ?_)
       ·exact tE h38 H fun H=>zm hN Z (qd Z (qe Z ⟨((k21:Int),(l20.set k21 (wr (x32+x24.Weight)))),H,⟨Z,congrArg (Slot.row 1) (by simp),Z,Z,Z,Z,Z,Z,Z,Z,U⟩,⟨Z,Z,U⟩⟩))
       ·exact fE h38 H fun H=>zp ⟨(v19,(l20.set k21 (wr (x32+x24.Weight)))),H,⟨Z,congrArg (Slot.row 1) (by simp),Z,Z,Z,Z,Z,Z,Z,Z,U⟩,⟨Z,Z,U⟩⟩
      ·rintro ⟨v39,v40⟩ H
       replace H:z44 v39 v40=some q22:=H
       unfold z44 at H
       exact zm hN Z (za (yy Z Z (by omega)) (qd Z ⟨_,qx H,⟨Z,Z,Z,Z,Z,Z,Z,Z,Z,Z,U⟩,⟨Z,Z,U⟩⟩))
theorem x82 (s1:(List Bs)) (s2:(List Bs)) (r:(Bool)) (H:y3r s1 s2=some r):Fn Tryz.prog 51 [vlst (List.map vd s1),vlst (List.map vd s2)] (zu [zn r]):=by
 refine ⟨by kernel_rfl,yr (us:=[zn r]) Tryz.func51 Z Z Z Z fun X hN => ?_⟩
 unfold y3r at H
 refine zb hN Z (qe Z (zd (zb hN Z (qd Z (za (yx Wu Z) (qd Z (za (yx Wu Z) (za (km Z Z) (zk _ Z (fun h3 => ?_) (fun h3 => ?_))))))))))
 ·refine tE h3 H fun H=>zb hN Z (qe Z (zo ?_))
  cases H
  exact ⟨U,.inl Z,U⟩
 ·refine fE h3 H fun H=>zp (zd (zb hN Z (qd Z (za (yx Wu Z) (qd Z (zw (gE H fun h6 H=>wg (fun (k4:Nat) (s:Unit)=>[(0,.dat (vlst (List.map vd s1))),(1,.dat (vlst (List.map vd s2))),(12,.dat (vint (s1.length:Int))),(13,.dat (vint (k4:Int)))]) (fun (k4:Nat) (s:Unit)=>[]) () H ⟨Z,Z,Z,Z,U⟩ U (fun _ _=>Z) ?_ ?_)))))))
  ·rintro ⟨⟩ H
   replace H:y2z=some r:=H
   unfold y2z at H
   refine zb hN Z (za (zq Z Z) (zd (zk _ Z (fun h=>(lt_t h).elim) (fun h => ?_))))
   refine qa (zb hN Z (qe Z (zo ?_)))
   cases H
   exact ⟨U,.inl Z,U⟩
  ·rintro k4 x7 ⟨⟩ q5 h8 h9 H hq5
   replace H:y2y s2 k4 x7=some q5:=H
   unfold y2y at H
   refine zb hN Z (za (zq Z Z) (zd (zk _ Z (fun h => ?_) (fun h=>(lt_f h8 h).elim))))
   refine zp (zd (zw (zb hN Z (qd Z (qe Z (zd (yo mixed hN Z Z (qd Z (qd Z (za (wb z24 (fun _=>Z) Z Z h9) (za (yt tyS9 Z (yz h9) Z) (qd Z (qd Z (bE H fun x10 h11 H=>za (wb z24 (fun _=>Z) Z Z h11) (za (yt tyS9 Z (yz h11) Z) (za (y6l Z Z) ⟨Z,?_⟩))))))))))))))))
   refine zk _ Z (fun h12 => ?_) (fun h12 => ?_)
   ·refine tE h12 H fun H=>zb hN Z (qe Z (zo ?_))
    replace H:=retl H hq5
    cases H
    exact ⟨U,.inl Z,U⟩
   ·exact fE h12 H fun H=>zp (zm hN Z (za (yy Z Z (by omega)) (qd Z ⟨_,qx H,⟨Z,Z,Z,Z,U⟩,U⟩)))
theorem y9r  (r:(Bool)) (H:z69  = some r):Fn Tryz.prog 16 [] (zu [zn r]):=by
 refine ⟨by kernel_rfl,yr (us:=[zn r]) Tryz.func16 Z Z Z Z fun X hN => ?_⟩
 unfold z69 at H
 refine zb hN Z (qe Z (zb hN Z (za (yb (u':=vagg (ya (zl.mk [97] 1))) (vq [(0,[vstr [97]]),(1,[vint 1])] um z8c Z ⟨Z,.inl ⟨_,Z,Z,Z⟩,Z,Z,.inl ⟨_,Z,Z,Z⟩,Z,U⟩) Z) (za (yb (u':=vagg (ya (zl.mk [98] 2))) (vq [(0,[vstr [98]]),(1,[vint 2])] um z8c Z ⟨Z,.inl ⟨_,Z,Z,Z⟩,Z,Z,.inl ⟨_,Z,Z,Z⟩,Z,U⟩) Z) (za (yb (u':=vlst (List.map ya [(zl.mk [97] 1),(zl.mk [98] 2)])) (qr [_,_] Qk ⟨Z,.inr Z,Z,Z,.inr Z,Z,U⟩ Z Z) Z) (bE H fun r1 h2 H=>za (ye (x8q ([(zl.mk [97] 1),(zl.mk [98] 2)]) 3 r1 h2) ⟨.inl Z,.inl Z,U⟩) (qd Z (za (uc Z Z) (za (uc Z Z) (qe Z (qe Z (qi (ι:=Bool) (fun i=>[(0,.dat (zn i))]) (fun i=>[]) (fun i=>z7p i=some r) (fun i=>Z) ?_ ?_))))))))))))
 ·skip
  refine zm hN Z (qd Z (za (qz Z Z) (qd Z (qo (j:=2) Z Z (fun h3 => ?_) (fun h3 => ?_) Z))))
  ·exact u1 h3 H fun h4 H=>zf Z Z h3 (zg (.dat _) Z) (zf Z Z h3 (yb (u':=vlst (List.map vd [[98],[97],[98]])) (qr [[_],[_],[_]] Yf ⟨Z,.inl ⟨_,Z,Z,Z⟩,Z,Z,.inl ⟨_,Z,Z,Z⟩,Z,Z,.inl ⟨_,Z,Z,Z⟩,Z,U⟩ Z Z) Z) (bE H fun r5 h6 H=>zf Z Z h3 (ye (x82 r1.1 ([[98],[97],[98]]) r5 h6) ⟨.inl Z,.inl Z,U⟩) (za (yh Z (bTT h4) Z) (qe Z ⟨r5,H,⟨Z,U⟩,U⟩))))
  ·exact u2 h3 H fun h7 H=>zc Z Z h3 (zc Z Z h3 (zc Z Z h3 (za (yn Z (bFF h7) Z) (qe Z ⟨false,H,⟨Z,U⟩,U⟩))))
 ·rintro v8 H
  replace H:z7p v8=some r:=H
  unfold z7p at H
  refine zo ?_
  cases H
  exact ⟨U,.inl Z,U⟩
theorem x9l (num1:Int) (den2:Int) (r:(va)) (H:z6t num1 den2=some r):Fn Tryz.prog 52 [vint num1,vint den2] (zu [vagg (kb r)]):=by
 refine ⟨by kernel_rfl,yr (us:=[vagg (kb r)]) Tryz.func52 Z Z Z Z fun X hN => ?_⟩
 unfold z6t at H
 refine zb hN Z (zi (qh 1 Yc Z) Z (zb hN Z (qd Z (qd Z (qe Z (qe Z (qi (ι:=Int) (fun i=>[(0,.dat (vint num1)),(1,.dat (vint den2)),(4,.ptr 1 0),(5,.dat (vint i))]) (fun i=>[(1,.box none 50 [.dat (vint 0),.dat (vint 0)])]) (fun i=>z17 num1 den2 i=some r) (fun i=>Z) ?_ ?_)))))))
 ·skip
  refine zw (z0x (fun (s:Int×Int)=>[(0,.dat (vint num1)),(1,.dat (vint den2)),(4,.ptr 1 0),(5,.dat (vint s.1)),(6,.dat (vint s.2))]) (fun (s:Int×Int)=>[(1,.box none 50 [.dat (vint 0),.dat (vint 0)])]) (num1,den2) H ⟨Z,Z,Z,Z,Z,U⟩ ⟨Z,U⟩ (fun _=>Z) ?_)
  rintro ⟨a3,b4⟩ q5 H hq5
  replace H:z16 num1 den2 a3 b4=some q5:=H
  unfold z16 at H
  refine zd (zb hN Z (qd Z (za (km Z Z) (zk _ Z (fun h6 => ?_) (fun h6 => ?_)))))
  ·refine tE h6 H fun H=>zp (zw (yo mixed hN Z Z (qd Z (qd Z (qd Z (gE H fun h7 H=>za (z8w Z Z h7) (qe Z (qe Z ⟨Z,?_⟩))))))))
   exact ⟨_,qx H,⟨Z,Z,Z,Z,Z,U⟩,⟨Z,U⟩⟩
  ·refine fE h6 H fun H=>qa ?_
   replace H:=outl H hq5
   exact ⟨a3,H,⟨Z,Z,Z,Z,U⟩,⟨Z,U⟩⟩
 ·rintro a8 H
  replace H:z17 num1 den2 a8=some r:=H
  unfold z17 at H
  refine qi (ι:=Int) (fun i=>[(0,.dat (vint num1)),(1,.dat (vint den2)),(4,.ptr 1 0),(5,.dat (vint i))]) (fun i=>[(1,.box none 50 [.dat (vint 0),.dat (vint 0)])]) (fun i=>z4h num1 den2 i=some r) (fun i=>Z) ?_ ?_
  ·skip
   refine zb hN Z (qd Z (za (zq Z Z) (zk _ Z (fun h9 => ?_) (fun h9 => ?_))))
   ·exact tE h9 H fun H=>zm hN Z (qd Z (gE H fun h10 H=>za (z8y Z h10) (qe Z ⟨(-a8),H,⟨Z,Z,Z,Z,U⟩,⟨Z,U⟩⟩)))
   ·exact fE h9 H fun H=>zp ⟨a8,H,⟨Z,Z,Z,Z,U⟩,⟨Z,U⟩⟩
  ·rintro a11 H
   replace H:z4h num1 den2 a11=some r:=H
   unfold z4h at H
   refine zd (yo mixed hN Z Z (qd Z (qd Z (gE H fun h12 H=>za (z1j Z Z h12.1 h12.2) (qd Z (qd Z (gE H fun h13 H=>za (z1j Z Z h13.1 h13.2) (za (yb (u':=vagg (kb (va.mk (num1 / a11) (den2 / a11)))) (vq [(0,[vint (num1 / a11)]),(1,[vint (den2 / a11)])] Yc z5c Z ⟨Z,.inl ⟨_,Z,Z,Z⟩,Z,Z,.inl ⟨_,Z,Z,Z⟩,Z,U⟩) Z) (zi (qf uo Z Z Z Z) Z ⟨Z,?_⟩)))))))))
   refine zo ?_
   cases H
   exact ⟨U,.inl ⟨_,_,_,kb (va.mk (num1 / a11) (den2 / a11)),Z,Z,Z,Z,uo⟩,U⟩
theorem x9e (l1:(List yf)) (r:(va)) (H:z6n l1=some r):Fn Tryz.prog 17 [vlst (List.map wx l1)] (zu [vagg (kb r)]):=by
 refine ⟨by kernel_rfl,yr (us:=[vagg (kb r)]) Tryz.func17 Z Z Z Z fun X hN => ?_⟩
 unfold z6n at H
 refine zb hN Z (zi (qh 1 Yc Z) Z (zb hN Z (qe Z (zd (zb hN Z (qd Z (za (yx Yd Z) (qd Z (zw (gE H fun h5 H=>wg (fun (k3:Nat) (s:Int)=>[(0,.dat (vlst (List.map wx l1))),(2,.ptr 1 0),(3,.dat (vint s)),(6,.dat (vlst (List.map wx l1))),(7,.dat (vint (l1.length:Int))),(8,.dat (vint (k3:Int)))]) (fun (k3:Nat) (s:Int)=>[(1,.box none 50 [.dat (vint 0),.dat (vint 0)])]) 0 H ⟨Z,Z,Z,Z,Z,Z,U⟩ ⟨Z,U⟩ (fun _ _=>Z) ?_ ?_))))))))))
 ·rintro n2 H
  replace H:z7m l1 n2=some r:=H
  unfold z7m at H
  refine zb hN Z (za (zq Z Z) (zd (zk _ Z (fun h=>(lt_t h).elim) (fun h => ?_))))
  refine qa (zb hN Z (qd Z (qd Z (za (yx Yd Z) (bE H fun r7 h8 H=>za (ye (x9l n2 (l1.length:Int) r7 h8) ⟨.inl Z,.inl Z,U⟩) (zi (qf uo Z Z Z Z) Z (zo ?_)))))))
  have eH:r7=r:=Option.some.inj H
  subst eH
  exact ⟨U,.inl ⟨_,_,_,kb r7,Z,Z,Z,Z,uo⟩,U⟩
 ·rintro k3 x6 n2 q4 h9 h10 H hq4
  replace H:z7l k3 x6 n2=some q4:=H
  unfold z7l at H
  refine zb hN Z (za (zq Z Z) (zd (zk _ Z (fun h => ?_) (fun h=>(lt_f h9 h).elim))))
  refine zp (qi (ι:=Int) (fun i=>[(0,.dat (vlst (List.map wx l1))),(2,.ptr 1 0),(3,.dat (vint i)),(6,.dat (vlst (List.map wx l1))),(7,.dat (vint (l1.length:Int))),(8,.dat (vint (k3:Int)))]) (fun i=>[(1,.box none 50 [.dat (vint 0),.dat (vint 0)])]) (fun i=>z4f i=some q4) (fun i=>Z) ?_ ?_)
  ·skip
   refine zw (zb hN Z (za (wb z1h (fun _=>Z) Z Z h10) (za (wv Zj Z (yz h10) Z) (zi (qh 2 z2u Z) Z (zi (qf Zj Z Z Z Z) Z (zb hN Z (za (ze Ql Z) (zh (zj tyS3 Z Z) Z (bE H fun r11 h12 H=>za (ye (uh x6.Status 100 499 r11 h12) ⟨.inl Z,.inl Z,.inl Z,U⟩) (zk _ Z (fun h13 => ?_) (fun h13 => ?_)))))))))))
   ·exact tE h13 H fun H=>zm hN Z (qd Z (za (ym _ Z Z (.inl ⟨Z,Z⟩)) (qe Z ⟨wr (n2+1),H,⟨Z,Z,Z,Z,Z,Z,U⟩,⟨Z,U⟩⟩)))
   ·exact fE h13 H fun H=>zp ⟨n2,H,⟨Z,Z,Z,Z,Z,Z,U⟩,⟨Z,U⟩⟩
  ·rintro n14 H
   replace H:z4f n14=some q4:=H
   unfold z4f at H
   exact zm hN Z (za (yy Z Z (by omega)) (qd Z ⟨_,qx H,⟨Z,Z,Z,Z,Z,Z,U⟩,⟨Z,U⟩⟩))
end Go.Proofs.YtgdijjmdfcgifaaGreat
