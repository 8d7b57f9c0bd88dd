/- Walks along the models. Printed by a program. -/
import Derived.Test.YtfindajhhadihaaGreatDoorZpw2
namespace Go.Proofs.YtfindajhhadihaaGreatDoor
open Go.RowKit
set_option linter.unusedVariables false
set_option maxRecDepth 100000
set_option maxHeartbeats 2000000
theorem y4a (s1:zk) (r:(zj×zk)) (H:Qc s1=some r):Imp Tryz.prog 51 81 (wy s1) [] (zr [vagg (yk r.1)]) (wy r.2):=by
 refine wm (us:=[vagg (yk r.1)]) (cs':=(wy r.2)) (by kernel_rfl) Tryz.func51 Z Z Z Z fun X bl hN => ?_
 unfold Qc at H
 refine zb hN Z (zq (kk 1 ki Z) Z (zb hN Z (za (ze (.ptr _ _) Z) (bE H fun r2 h3 H=>zq (yn (z29 s1 r2 h3) Z U Z) Z (za (ym (u':=vagg [vstr r2.1,vnil,vint 1000]) (xa [(0,[vstr r2.1]),(2,[vint 1000])] ki z6z Z ⟨Z,.inl ⟨_,Z,Z,Z⟩,Z,Z,.inl ⟨_,Z,Z,Z⟩,Z,U⟩) Z) (zq (kk 2 ki Z) Z (zq (kj qz Z Z Z Z) Z (z58 2 1 3 102 2 Z Z Z Z (zw (ι:=Bs×Int×Bool×Bs) (fun i=>[(0,.ptr 0 0),(2,.ptr 1 0),(3,.ptr 2 0)]) (fun i=>[(0,.box (some bl) 81 [.dat (vstr i.1),.dat (vint i.2.1),.dat (zf i.2.2.1)]),(1,.box none 57 [.dat (vstr []),.dat (vnil),.dat (vint 0)]),(2,.box none 57 [.dat (vstr i.2.2.2),.row 3 (([]:List yg).length),.dat (vint 1000)]),(3,.row 102 2 (List.map qy ([]:List yg)))]) (fun i=>xj i.1 i.2.1 i.2.2.1 i.2.2.2=some r) (fun i=>Z) ?_ ?_)))))))))
 ·refine we (zb hN Z (za (ze (.ptr _ _) Z) (bE H fun r4 h5 H=>zq (yn (Qm r2.2 47 r4 h5) Z ⟨.inl Z,U⟩ Z) Z (zg _ Z (fun h6 => ?_) (fun h6 => ?_)))))
  ·refine tE h6 H fun H=>wh mixed hN Z Z (za (zp Wr Z) (yc (zy tyS9 Z Z) Z (za (ze (.ptr _ _) Z) (bE H fun r7 h8 H=>zq (yn (z29 r4.2 r7 h8) Z U Z) Z (gE H fun h9 H=>za (vp Z Z (Nat.le_trans h9 (by decide))) (gE H fun h10 H=>za (vp Z Z (Nat.le_trans h10 (by decide))) (za (zp Wr Z) (zq (qg tyS9 Z Z Z Z) Z ⟨Z,?_⟩))))))))
   show Cv _ _ _ _
   exact qq ⟨(r7.2.s_,r7.2.i_,r7.2.bad_,(r2.1++([47]++r7.1))),H,⟨Z,Z,Z,U⟩,⟨Z,Z,(congrArg (fun n=>some (some (AObj.box none 57 [.dat (vstr (r2.1++([47]++r7.1))),.row 3 n,.dat (vint 1000)]))) (show 0=([]:List yg).length from (by simp))),Z,U⟩⟩
  ·refine fE h6 H fun H=>zl ?_
   show Cv _ _ _ _
   exact qq ⟨(r4.2.s_,r4.2.i_,r4.2.bad_,r2.1),H,⟨Z,Z,Z,U⟩,⟨Z,Z,(congrArg (fun n=>some (some (AObj.box none 57 [.dat (vstr r2.1),.row 3 n,.dat (vint 1000)]))) (show 0=([]:List yg).length from (by simp))),Z,U⟩⟩
 ·rintro ⟨c11,c12,c13,c14⟩ H
  replace H:xj c11 c12 c13 c14=some r:=H
  unfold xj at H
  refine zb hN Z (qe Z (zw (ι:=Bs×Int×Bool×(List yg)×Int) (fun i=>[(2,.ptr 1 0),(3,.ptr 2 0)]) (fun i=>[(0,.box (some bl) 81 [.dat (vstr i.1),.dat (vint i.2.1),.dat (zf i.2.2.1)]),(1,.box none 57 [.dat (vstr []),.dat (vnil),.dat (vint 0)]),(2,.box none 57 [.dat (vstr c14),.row 3 i.2.2.2.1.length,.dat (vint i.2.2.2.2)]),(3,.row 102 2 (List.map qy i.2.2.2.1))]) (fun i=>z2c c14 i.1 i.2.1 i.2.2.1 i.2.2.2.1 i.2.2.2.2=some r) (fun i=>Z) ?_ ?_))
  ·refine we (zb hN Z (za (ze (.ptr _ _) Z) (bE H fun r15 h16 H=>zq (yn (z05 (zk.mk c11 c12 c13) r15 h16) Z U Z) Z (ye (jk (fun (s:Bool×(List yg)×Bs×Int×Bool×Int)=>[(0,.ptr 0 0),(2,.ptr 1 0),(3,.ptr 2 0),(4,.dat (zf s.1))]) (fun (s:Bool×(List yg)×Bs×Int×Bool×Int)=>[(0,.box (some bl) 81 [.dat (vstr s.2.2.1),.dat (vint s.2.2.2.1),.dat (zf s.2.2.2.2.1)]),(1,.box none 57 [.dat (vstr []),.dat (vnil),.dat (vint 0)]),(2,.box none 57 [.dat (vstr c14),.row 3 s.2.1.length,.dat (vint s.2.2.2.2.2)]),(3,.row 102 2 (List.map qy s.2.1))]) (false,([]:List yg),r15.s_,r15.i_,r15.bad_,1000) H ⟨Z,Z,Z,Z,U⟩ ⟨Z,Z,Z,Z,U⟩ (fun _=>Z) ?_)))))
   rintro ⟨v17,l18,c19,c20,c21,c22⟩ q23 H hq23
   replace H:ky c14 v17 l18 c19 c20 c21 c22=some q23:=H
   unfold ky at H
   refine we (zh (zw (ι:=Bool×Bs×Int×Bool) (fun i=>[(0,.ptr 0 0),(2,.ptr 1 0),(3,.ptr 2 0),(4,.dat (zf v17)),(32,.dat (zf i.1))]) (fun i=>[(0,.box (some bl) 81 [.dat (vstr i.2.1),.dat (vint i.2.2.1),.dat (zf i.2.2.2)]),(1,.box none 57 [.dat (vstr []),.dat (vnil),.dat (vint 0)]),(2,.box none 57 [.dat (vstr c14),.row 3 l18.length,.dat (vint c22)]),(3,.row 102 2 (List.map qy l18))]) (fun i=>ka c14 v17 l18 c22 i.1 i.2.1 i.2.2.1 i.2.2.2=some q23) (fun i=>Z) ?_ ?_))
   ·refine we (zm hN Z (za (ze (.ptr _ _) Z) (za (zv Z) (za (zp wq Z) (yc (zy tyS4 Z Z) Z (za (yy Z) (qd Z (zz (j:=5) Z Z (fun h24 => ?_) (fun h24 => ?_) Z))))))))
    ·refine u1 h24 H fun h25 H=>zd Z Z h24 (ze (.ptr _ _) Z) (bE H fun r26 h27 H=>z4p Z Z h24 (yn (Qm (zk.mk c19 c20 c21) 59 r26 h27) Z ⟨.inl Z,U⟩ Z) Z (za (zu Z (bTT h25) Z) (wg ?_)))
     show Cv _ _ _ _
     exact qq ⟨(r26.1,r26.2.s_,r26.2.i_,r26.2.bad_),H,⟨Z,Z,Z,Z,Z,U⟩,⟨Z,Z,Z,Z,U⟩⟩
    ·refine u2 h24 H fun h28 H=>zc Z Z h24 (zc Z Z h24 (za (zo Z (bFF h28) Z) (wg ?_)))
     show Cv _ _ _ _
     exact qq ⟨(false,c19,c20,c21),H,⟨Z,Z,Z,Z,Z,U⟩,⟨Z,Z,Z,Z,U⟩⟩
   ·rintro ⟨v29,c30,c31,c32⟩ H
    replace H:ka c14 v17 l18 c22 v29 c30 c31 c32=some q23:=H
    unfold ka at H
    refine zg _ Z (fun h33 => ?_) (fun h33 => ?_)
    ·refine tE h33 H fun H=>zl (zw (ι:=Bool×Bs×Int×Bool×(List yg)×Int) (fun i=>[(0,.ptr 0 0),(2,.ptr 1 0),(3,.ptr 2 0),(4,.dat (zf i.1))]) (fun i=>[(0,.box (some bl) 81 [.dat (vstr i.2.1),.dat (vint i.2.2.1),.dat (zf i.2.2.2.1)]),(1,.box none 57 [.dat (vstr []),.dat (vnil),.dat (vint 0)]),(2,.box none 57 [.dat (vstr c14),.row 3 i.2.2.2.2.1.length,.dat (vint i.2.2.2.2.2)]),(3,.row 102 2 (List.map qy i.2.2.2.2.1))]) (fun i=>Ym i.1 i.2.1 i.2.2.1 i.2.2.2.1 i.2.2.2.2.1 i.2.2.2.2.2=some q23) (fun i=>Z) ?_ ?_)
     ·refine we (ye (zb hN Z (za (ze (.ptr _ _) Z) (bE H fun r34 h35 H=>zq (yn (z05 (zk.mk c30 c31 c32) r34 h35) Z U Z) Z (zb hN Z (za (ze (.ptr _ _) Z) (bE H fun r36 h37 H=>zq (yn (z29 r34 r36 h37) Z U Z) Z (qe Z (zw (ι:=Bs×Int×Bool) (fun i=>[(0,.ptr 0 0),(2,.ptr 1 0),(3,.ptr 2 0),(4,.dat (zf v17)),(5,.dat (vstr r36.1))]) (fun i=>[(0,.box (some bl) 81 [.dat (vstr i.1),.dat (vint i.2.1),.dat (zf i.2.2)]),(1,.box none 57 [.dat (vstr []),.dat (vnil),.dat (vint 0)]),(2,.box none 57 [.dat (vstr c14),.row 3 l18.length,.dat (vint c22)]),(3,.row 102 2 (List.map qy l18))]) (fun i=>jz v17 l18 c22 r36 i.1 i.2.1 i.2.2=some q23) (fun i=>Z) ?_ ?_)))))))))
      ·refine we (zm hN Z (za (ze (.ptr _ _) Z) (za (ze (.ptr _ _) Z) (za (zv Z) (za (zp wq Z) (yc (zy tyS4 Z Z) Z (qd Z (zz (j:=5) Z Z (fun h38 => ?_) (fun h38 => ?_) Z))))))))
       ·refine u3 h38 H fun h39 H=>zd Z Z h38 (ze (.ptr _ _) Z) (bE H fun r40 h41 H=>z4p Z Z h38 (yn (Qm r36.2 61 r40 h41) Z ⟨.inl Z,U⟩ Z) Z (zd Z Z h38 (yy Z) (za (zo Z (bFF h39) Z) (za (zv Z) (za (zp wq Z) (zq (qg tyS4 Z Z Z Z) Z (wg ?_)))))))
        show Cv _ _ _ _
        exact qq ⟨(r40.2.s_,r40.2.i_,!r40.1),H,⟨Z,Z,Z,Z,Z,U⟩,⟨Z,Z,Z,Z,U⟩⟩
       ·refine u4 h38 H fun h42 H=>zc Z Z h38 (zc Z Z h38 (zc Z Z h38 (za (zu Z (bTT h42) Z) (za (zv Z) (za (zp wq Z) (zq (qg tyS4 Z Z Z Z) Z (wg ?_)))))))
        show Cv _ _ _ _
        exact qq ⟨(r36.2.s_,r36.2.i_,true),H,⟨Z,Z,Z,Z,Z,U⟩,⟨Z,Z,Z,Z,U⟩⟩
      ·rintro ⟨c43,c44,c45⟩ H
       replace H:jz v17 l18 c22 r36 c43 c44 c45=some q23:=H
       unfold jz at H
       refine zb hN Z (za (ze (.ptr _ _) Z) (bE H fun r46 h47 H=>zq (yn (Qm (zk.mk c43 c44 c45) 34 r46 h47) Z ⟨.inl Z,U⟩ Z) Z (qe Z (zb hN Z (qe Z (zw (ι:=Bs×Bs×Int×Bool) (fun i=>[(0,.ptr 0 0),(2,.ptr 1 0),(3,.ptr 2 0),(4,.dat (zf v17)),(5,.dat (vstr r36.1)),(6,.dat (zf r46.1)),(7,.dat (vstr i.1))]) (fun i=>[(0,.box (some bl) 81 [.dat (vstr i.2.1),.dat (vint i.2.2.1),.dat (zf i.2.2.2)]),(1,.box none 57 [.dat (vstr []),.dat (vnil),.dat (vint 0)]),(2,.box none 57 [.dat (vstr c14),.row 3 l18.length,.dat (vint c22)]),(3,.row 102 2 (List.map qy l18))]) (fun i=>kz v17 l18 c22 r36 r46 i.1 i.2.1 i.2.2.1 i.2.2.2=some q23) (fun i=>Z) ?_ ?_))))))
       ·refine we (zb hN Z (qd Z (zg _ Z (fun h48 => ?_) (fun h48 => ?_))))
        ·refine tE h48 H fun H=>zm hN Z (za (ze (.ptr _ _) Z) (bE H fun r49 h50 H=>zq (yn (y39 r46.2 r49 h50) Z U Z) Z (qe Z (wg ?_))))
         show Cv _ _ _ _
         exact qq ⟨(r49.1,r49.2.s_,r49.2.i_,r49.2.bad_),H,⟨Z,Z,Z,Z,Z,Z,Z,U⟩,⟨Z,Z,Z,Z,U⟩⟩
        ·refine fE h48 H fun H=>zm hN Z (za (ze (.ptr _ _) Z) (bE H fun r51 h52 H=>zq (yn (z29 r46.2 r51 h52) Z U Z) Z (qe Z (wg ?_))))
         show Cv _ _ _ _
         exact qq ⟨(r51.1,r51.2.s_,r51.2.i_,r51.2.bad_),H,⟨Z,Z,Z,Z,Z,Z,Z,U⟩,⟨Z,Z,Z,Z,U⟩⟩
       ·rintro ⟨v53,c54,c55,c56⟩ H
        replace H:kz v17 l18 c22 r36 r46 v53 c54 c55 c56=some q23:=H
        unfold kz at H
        refine zh (zb hN Z (qd Z (bE H fun r57 h58 H=>za (zn (y4d r36.1 r57 h58) ⟨.inl Z,U⟩) (za (yy Z) (zg _ Z (fun h59 => ?_) (fun h59 => ?_))))))
        ·refine tE h59 H fun H=>zb hN Z (za (zp Yc Z) (yc (zy Yb Z Z) Z (qd Z (qd Z (za (ym (u':=vagg (qy (yg.mk r36.1 v53))) (xa [(0,[vstr r36.1]),(1,[vstr v53])] z6w z60 Z ⟨Z,.inl ⟨_,Z,Z,Z⟩,Z,Z,.inl ⟨_,Z,Z,Z⟩,Z,U⟩) Z) (za (ym (u':=vlst (List.map qy [(yg.mk r36.1 v53)])) (wa [_] z1s ⟨Z,.inr Z,Z,U⟩ Z Z) Z) (gE H fun h60 H=>zq (vo z1s (fun _=>Z) Z Z Z ⟨by simp,by first | (simp; done) | simpa using h60⟩ Z) Z ?_)))))))
         refine za (zp Yc Z) (z14 (z11 Yb Z Z (by rw [List.length_map]) Z) Z Z ?_)
         refine yu ?_
         show Cv _ _ _ _
         exact qq ⟨(v17,c54,c55,c56,(l18++[(yg.mk r36.1 v53)]),c22),H,⟨Z,Z,Z,Z,U⟩,⟨Z,Z,Z,Z,U⟩⟩
        ·refine fE h59 H fun H=>zl (zb hN Z (qd Z (bE H fun r61 h62 H=>za (zn (y35 v53 r61 h62) ⟨.inl Z,U⟩) (qd Z (za (yd Z Z) (za (yd Z Z) (qe Z (qe Z (zb hN Z (za (ze (.ptr _ _) Z) (za (ze (.ptr _ _) Z) (za (zv Z) (za (zp wq Z) (yc (zy tyS4 Z Z) Z (qd Z (yr Z Z (fun hc=>ze (.dat _) Z) (za (vc Z Z (fun hb=>(cnd (c:=(!c56)) (notI hb)))) (qd Z (yr Z Z (fun hc=>ze (.dat _) Z) (za (vc Z Z (fun hb=>(cnd (c:=(!(c56 || v17))) (notI hb)))) (qd Z ?_)))))))))))))))))))))
         refine yr Z Z (fun hc=>ze (.dat _) Z) (yr Z Z (fun hc=>yy (cnd (c:=(!((c56 || v17) || r46.1))) hc)) (za (vc Z Z (fun hb=>(cnd (c:=(!((c56 || v17) || r46.1))) (notI hb)))) (za (zv Z) (za (zp wq Z) (zq (qg tyS4 Z Z Z Z) Z (zm hN Z (qd Z (za (zp z1v Z) (zq (qg tyS3 Z Z Z Z) Z (qe Z (wg ?_)))))))))))
         show Cv _ _ _ _
         exact qq ⟨(true,c54,c55,(((c56 || v17) || r46.1) || (!r61.2)),l18,r61.1),H,⟨Z,Z,Z,Z,U⟩,⟨Z,Z,Z,Z,U⟩⟩
     ·rintro ⟨v63,c64,c65,c66,l67,c68⟩ H
      replace H:Ym v63 c64 c65 c66 l67 c68=some q23:=H
      unfold Ym at H
      refine zm hN Z (za (ze (.ptr _ _) Z) (bE H fun r69 h70 H=>zq (yn (z05 (zk.mk c64 c65 c66) r69 h70) Z U Z) Z (wg ?_)))
      show Cv _ _ _ _
      exact qq ⟨_,qb H,⟨Z,Z,Z,Z,U⟩,⟨Z,Z,Z,Z,U⟩⟩
    ·refine fE h33 H fun H=>yu ?_
     replace H:=outl H hq23
     show Cv _ _ _ _
     refine qq ?_
     show Cv _ _ _ _
     exact qq ⟨(c30,c31,c32,l18,c22),H,⟨Z,Z,U⟩,⟨Z,Z,Z,Z,U⟩⟩
  ·rintro ⟨c71,c72,c73,l74,c75⟩ H
   replace H:z2c c14 c71 c72 c73 l74 c75=some r:=H
   unfold z2c at H
   refine zh (z3u 2 1 3 rfl rfl rfl (by first | rw [List.length_map] | rfl) ?_)
   refine zm hN Z (yc (z0b qz Z Z Z) Z (zq (kj qz Z Z Z Z) Z (zi ?_)))
   cases H
   exact ⟨U,⟨.inl ⟨_,_,_,yk (zj.mk c14 l74 c75),Z,Z,Z,Z,qz⟩,U⟩,Z⟩
theorem y32 (s1:(List zj)) (p1:zj→Option (Bool)) (fv1:Nat) (us1:List V) (hp1:∀ a0 r,p1 a0=some r→Fn Tryz.prog fv1 ([vagg (yk a0)]++us1) (zr [zf r])) (r:(Int)) (H:z45 s1 p1=some r):Fn Tryz.prog 63 [vlst (List.map yk s1),vfn fv1 us1] (zr [vint r]):=by
 refine ⟨by kernel_rfl,yh (us:=[vint r]) Tryz.func63 Z Z Z Z fun X hN => ?_⟩
 unfold z45 at H
 refine zb hN Z (qe Z (zh (zb hN Z (qd Z (za (qo ut Z) (qd Z (ye (gE H fun h4 H=>ve (fun (k2:Nat) (s:Unit)=>[(0,.dat (vlst (List.map yk s1))),(1,.dat (vfn fv1 us1)),(7,.dat (vint (s1.length:Int))),(8,.dat (vint (k2:Int)))]) (fun (k2:Nat) (s:Unit)=>[]) () H ⟨Z,Z,Z,Z,U⟩ U (fun _ _=>Z) ?_ ?_))))))))
 ·rintro ⟨⟩ H
  replace H:z4o=some r:=H
  unfold z4o at H
  refine zb hN Z (za (yf Z Z) (zh (zg _ Z (fun h=>(lt_t h).elim) (fun h => ?_))))
  refine yu (zb hN Z (qe Z (zi ?_)))
  cases H
  exact ⟨U,.inl Z,U⟩
 ·rintro k2 x5 ⟨⟩ q3 h6 h7 H hq3
  replace H:z4n p1 k2 x5=some q3:=H
  unfold z4n at H
  refine zb hN Z (za (yf Z Z) (zh (zg _ Z (fun h => ?_) (fun h=>(lt_f h6 h).elim))))
  refine zl (zh (ye (zb hN Z (qd Z (qe Z (zb hN Z (qd Z (qd Z (qd Z (za (jv z33 (fun _=>Z) Z Z h7) (za (z4f qz Z (vx h7) Z) (bE H fun r8 h9 H=>za (z4h (hp1 x5 r8 h9) Z ⟨.inl Z,U⟩) (zg _ Z (fun h10 => ?_) (fun h10 => ?_))))))))))))))
  ·refine tE h10 H fun H=>zb hN Z (qd Z (qe Z (zi ?_)))
   replace H:=retl H hq3
   cases H
   exact ⟨U,.inl Z,U⟩
  ·exact fE h10 H fun H=>zl (zm hN Z (za (wk Z Z (by omega)) (qd Z ⟨_,qb H,⟨Z,Z,Z,Z,U⟩,U⟩)))
theorem z8s (s1:(List zj)) (p1:zj→Option (Bool)) (fv1:Nat) (us1:List V) (hp1:∀ a0 r,p1 a0=some r→Fn Tryz.prog fv1 ([vagg (yk a0)]++us1) (zr [zf r])) (r:(Bool)) (H:Qa s1 p1=some r):Fn Tryz.prog 35 [vlst (List.map yk s1),vfn fv1 us1] (zr [zf r]):=by
 refine ⟨by kernel_rfl,yh (us:=[zf r]) Tryz.func35 Z Z Z Z fun X hN => ?_⟩
 unfold Qa at H
 refine zb hN Z (qe Z (zb hN Z (qd Z (qd Z (bE H fun r2 h3 H=>za (zn (y32 s1 p1 fv1 us1 hp1 r2 h3) ⟨.inl Z,.inl Z,U⟩) (za (wt Z Z) (qe Z (zi ?_))))))))
 cases H
 exact ⟨U,.inl Z,U⟩
theorem y4h (it1:zj) (r:(Bool)) (H:z0q it1=some r):Fn Tryz.prog 52 [vagg (yk it1)] (zr [zf r]):=by
 refine ⟨by kernel_rfl,yh (us:=[zf r]) Tryz.func52 Z Z Z Z fun X hN => ?_⟩
 unfold z0q at H
 refine zb hN Z (zq (z0d 1 Z) Z (qe Z (zb hN Z (za (zp Yc Z) (yc (zy Yb Z Z) Z (za (qo z6x Z) (za (qs Z Z) (qe Z (zi ?_)))))))))
 cases H
 exact ⟨U,.inl Z,U⟩
theorem y4i (v1:Bs) (r:((List zj)×Int)) (H:z0r v1=some r):Fn Tryz.prog 29 [vstr v1] (zr [vlst (List.map yk r.1),vint r.2]):=by
 refine ⟨by kernel_rfl,yh (us:=[vlst (List.map yk r.1),vint r.2]) Tryz.func29 Z Z Z Z fun X hN => ?_⟩
 unfold z0r at H
 refine zb hN Z (qe Z (qe Z (zh (zb hN Z (qd Z (bE H fun r2 h3 H=>za (zn (y4l v1 r2 h3) ⟨.inl Z,U⟩) (za (yy Z) (zg _ Z (fun h4 => ?_) (fun h4 => ?_)))))))))
 ·refine tE h4 H fun H=>zb hN Z (qe Z (qe Z (zi ?_)))
  cases H
  exact ⟨U,.inr ⟨Z,Z⟩,.inl Z,U⟩
 ·refine fE h4 H fun H=>zl (zb hN Z (qd Z (za (ym (u':=vagg (wy (zk.mk v1 0 false))) (xa [(0,[vstr v1])] y0j y0n Z ⟨Z,.inl ⟨_,Z,Z,Z⟩,Z,U⟩) Z) (zq (z0d 1 Z) Z (za (wu (.ptr _ _) Z) (zb hN Z (qe Z (zw (ι:=(List zj)×Bs×Int×Bool) (fun i=>[(4,.ptr 1 0),(5,.row 2 i.1.length)]) (fun i=>[(1,.box none 81 [.dat (vstr i.2.1),.dat (vint i.2.2.1),.dat (zf i.2.2.2)]),(2,.row 57 3 (List.map yk i.1))]) (fun i=>xo i.1 i.2.1 i.2.2.1 i.2.2.2=some r) (fun i=>Z) ?_ ?_))))))))
  ·skip
   refine zb hN Z (za (ze (.ptr _ _) Z) (bE H fun r5 h6 H=>zq (yn (z05 (zk.mk v1 0 false) r5 h6) Z U Z) Z (ye (Zy 5 2 57 3 Z Z Z (jk (fun (s:Bs×Int×Bool×(List zj))=>[(0,.dat (vstr v1)),(4,.ptr 1 0),(5,.row 2 s.2.2.2.length)]) (fun (s:Bs×Int×Bool×(List zj))=>[(1,.box none 81 [.dat (vstr s.1),.dat (vint s.2.1),.dat (zf s.2.2.1)]),(2,.row 57 3 (List.map yk s.2.2.2))]) (r5.s_,r5.i_,r5.bad_,[]) H ⟨Z,Z,Z,U⟩ ⟨Z,Z,U⟩ (fun _=>Z) ?_)))))
   rintro ⟨c7,c8,c9,l10⟩ q11 H hq11
   replace H:jd v1 c7 c8 c9 l10=some q11:=H
   unfold jd at H
   refine zh (zb hN Z (za (ze (.ptr _ _) Z) (za (zv Z) (za (zp qk Z) (yc (zy tyS3 Z Z) Z (qd Z (za (yq tyU9 Z) (za (yf Z Z) (qd Z (yp Z Z (fun hc=>ze (.ptr _ _) Z) (yp Z Z (fun hc=>zv (cnd (c:=(decide (c8 < (v1.length:Int)))) hc)) (yp Z Z (fun hc=>zp wq (cnd (c:=(decide (c8 < (v1.length:Int)))) hc)) (y12 Z Z (fun hc=>zy tyS4 (cnd (c:=(decide (c8 < (v1.length:Int)))) hc) Z) Z y6o (yp Z Z (fun hc=>yy (cnd (c:=(decide (c8 < (v1.length:Int)))) hc)) (za (qp Z (fun hb=>(cnd (c:=(decide (c8 < (v1.length:Int)))) hb)) Z) (zg _ Z (fun h12 => ?_) (fun h12 => ?_)))))))))))))))))
   ·refine tE h12 H fun H=>zl (zw (ι:=(List zj)×Bs×Int×Bool) (fun i=>[(0,.dat (vstr v1)),(4,.ptr 1 0),(5,.row 2 i.1.length)]) (fun i=>[(1,.box none 81 [.dat (vstr i.2.1),.dat (vint i.2.2.1),.dat (zf i.2.2.2)]),(2,.row 57 3 (List.map yk i.1))]) (fun i=>vw i.1 i.2.1 i.2.2.1 i.2.2.2=some q11) (fun i=>Z) ?_ ?_)
    ·skip
     refine ye (zh (zb hN Z (za (ze (.ptr _ _) Z) (bE H fun r13 h14 H=>zq (yn (Qm (zk.mk c7 c8 c9) 44 r13 h14) Z ⟨.inl Z,U⟩ Z) Z (zg _ Z (fun h15 => ?_) (fun h15 => ?_))))))
     ·exact tE h15 H fun H=>yu ⟨(l10,r13.2.s_,r13.2.i_,r13.2.bad_),H,⟨Z,Z,Z,U⟩,⟨Z,Z,U⟩⟩
     ·refine fE h15 H fun H=>zl (zb hN Z (za (ze (.row _ _) Z) (za (ze (.ptr _ _) Z) (bE H fun r16 h17 H=>zq (yn (y4a r13.2 r16 h17) Z U Z) Z (za (ym (u':=vlst (List.map yk [r16.1])) (wa [_] z1t ⟨Z,.inr Z,Z,U⟩ Z Z) Z) (gE H fun h18 H=>zq (vo z1t (fun _=>Z) Z Z Z ⟨by simp,by first | (simp; done) | simpa using h18⟩ Z) Z ?_))))))
      refine za (wu (.row _ _) Z) (zm hN Z (za (ze (.ptr _ _) Z) (za (ze (.ptr _ _) Z) (za (zv Z) (za (zp wq Z) (yc (zy tyS4 Z Z) Z (qd Z (zz (j:=5) Z Z (fun h19 => ?_) (fun h19 => ?_) Z))))))))
      ·refine u3 h19 H fun h20 H=>zd Z Z h19 (ze (.ptr _ _) Z) (zd Z Z h19 (zv Z) (zd Z Z h19 (zp qk Z) (wo Z Z h19 (zy tyS3 Z Z) Z (zd Z Z h19 (ze (.dat _) Z) (zd Z Z h19 (yq tyU9 Z) (zd Z Z h19 (yf Z Z) (zd Z Z h19 (ze (.dat _) Z) (zz (j:=13) Z Z (fun h21 => ?_) (fun h21 => ?_) Z))))))))
       ·exact u1 h21 H fun h22 H=>zd Z Z h21 (ze (.ptr _ _) Z) (bE H fun r23 h24 H=>z4p Z Z h21 (yn (Qm r16.2 44 r23 h24) Z ⟨.inl Z,U⟩ Z) Z (zd Z Z h21 (yy Z) (zd Z Z h19 (zu Z (bTT h22) Z) (za (zo Z (bFF h20) Z) (za (zv Z) (za (zp wq Z) (zq (qg tyS4 Z Z Z Z) Z ⟨((l10++[r16.1]),r23.2.s_,r23.2.i_,!r23.1),H,⟨Z,Z,Z,U⟩,⟨Z,Z,U⟩⟩)))))))
       ·exact u2 h21 H fun h25 H=>zc Z Z h21 (zc Z Z h21 (zc Z Z h21 (zd Z Z h19 (zo Z (bFF h25) Z) (za (zo Z (bFF h20) Z) (za (zv Z) (za (zp wq Z) (zq (qg tyS4 Z Z Z Z) Z ⟨((l10++[r16.1]),r16.2.s_,r16.2.i_,false),H,⟨Z,Z,Z,U⟩,⟨Z,Z,U⟩⟩)))))))
      ·exact u4 h19 H fun h26 H=>zc Z Z h19 (zc Z Z h19 (zc Z Z h19 (zc Z Z h19 (zc Z Z h19 (zc Z Z h19 (zc Z Z h19 (zc Z Z h19 (zt Z Z (zt Z Z (zt Z Z (zc Z Z h19 (za (zu Z (bTT h26) Z) (za (zv Z) (za (zp wq Z) (zq (qg tyS4 Z Z Z Z) Z ⟨((l10++[r16.1]),r16.2.s_,r16.2.i_,true),H,⟨Z,Z,Z,U⟩,⟨Z,Z,U⟩⟩)))))))))))))))
    ·rintro ⟨v27,c28,c29,c30⟩ H
     replace H:vw v27 c28 c29 c30=some q11:=H
     unfold vw at H
     exact zm hN Z (za (ze (.ptr _ _) Z) (bE H fun r31 h32 H=>zq (yn (z05 (zk.mk c28 c29 c30) r31 h32) Z U Z) Z ⟨_,qb H,⟨Z,Z,Z,U⟩,⟨Z,Z,U⟩⟩))
   ·refine fE h12 H fun H=>yu ?_
    replace H:=outl H hq11
    exact ⟨(l10,c7,c8,c9),H,⟨Z,Z,U⟩,⟨Z,Z,U⟩⟩
  ·rintro ⟨v33,c34,c35,c36⟩ H
   replace H:xo v33 c34 c35 c36=some r:=H
   unfold xo at H
   refine zh (zb hN Z (za (ze (.ptr _ _) Z) (za (zv Z) (za (zp wq Z) (yc (zy tyS4 Z Z) Z (zg _ Z (fun h37 => ?_) (fun h37 => ?_)))))))
   ·refine tE h37 H fun H=>zb hN Z (qe Z (qe Z (zi ?_)))
    cases H
    exact ⟨U,.inr ⟨Z,Z⟩,.inl Z,U⟩
   ·refine fE h37 H fun H=>zl (zh (zw (ι:=Bool) (fun i=>[(5,.dat (vlst (List.map yk v33))),(68,.dat (zf i))]) (fun i=>[]) (fun i=>Yv v33 i=some r) (fun i=>Z) ?_ ?_))
    ·skip
     refine Ye 5 2 Z Z Z (zm hN Z (qd Z (za (qo ut Z) (za (qs Z Z) (qd Z (zz (j:=3) Z Z (fun h38 => ?_) (fun h38 => ?_) Z))))))
     ·exact u3 h38 H fun h39 H=>zd Z Z h38 (ze (.dat _) Z) (bE H fun r40 h41 H=>zd Z Z h38 (z12 (z8s v33 (fun (a0:zj)=>z0q a0) 52 [] (fun a0 r h=>y4h a0 r h) r40 h41) ⟨.inl (.inl Z),.inr ⟨_,Z,Z⟩,U⟩) (za (zo Z (bFF h39) Z) ⟨r40,H,⟨Z,Z,U⟩,U⟩))
     ·exact u4 h38 H fun h42 H=>zc Z Z h38 (zc Z Z h38 (za (zu Z (bTT h42) Z) ⟨true,H,⟨Z,Z,U⟩,U⟩))
    ·rintro v43 H
     replace H:Yv v33 v43=some r:=H
     unfold Yv at H
     refine zg _ Z (fun h44 => ?_) (fun h44 => ?_)
     ·refine tE h44 H fun H=>zb hN Z (qe Z (qe Z (zi ?_)))
      cases H
      exact ⟨U,.inr ⟨Z,Z⟩,.inl Z,U⟩
     ·refine fE h44 H fun H=>zl (zb hN Z (qd Z (qe Z (qe Z (zi ?_)))))
      cases H
      exact ⟨U,.inl Z,.inl Z,U⟩
theorem y4b (s1:Bs) (r:(Bool)) (H:z0o s1=some r):Fn Tryz.prog 30 [vstr s1] (zr [zf r]):=by
 refine ⟨by kernel_rfl,yh (us:=[zf r]) Tryz.func30 Z Z Z Z fun X hN => ?_⟩
 unfold z0o at H
 refine zb hN Z (qe Z (zb hN Z (qd Z (bE H fun r2 h3 H=>za (zn (Ql s1 [47] r2 h3) ⟨.inl Z,.inl Z,U⟩) (qd Z (za (yd Z Z) (za (yd Z Z) (za (yd Z Z) (qe Z (qe Z (qe Z (zw (ι:=Bool) (fun i=>[(2,.dat (zf i))]) (fun i=>[]) (fun i=>xk i=some r) (fun i=>Z) ?_ ?_))))))))))))
 ·skip
  refine zm hN Z (qd Z (bE H fun r4 h5 H=>za (zn (z5l r2.1 r4 h5) ⟨.inl Z,U⟩) (qd Z (zz (j:=2) Z Z (fun h6 => ?_) (fun h6 => ?_) Z))))
  ·refine u1 h6 H fun h7 H=>zd Z Z h6 (ze (.dat _) Z) (zd Z Z h6 (yy Z) (zd Z Z h6 (ze (.dat _) Z) (zz (j:=5) Z Z (fun h8 => ?_) (fun h8 => ?_) Z)))
   ·exact u3 h8 H fun h9 H=>zd Z Z h8 (ze (.dat _) Z) (bE H fun r10 h11 H=>zd Z Z h8 (zn (z5l r2.2.1 r10 h11) ⟨.inl Z,U⟩) (zd Z Z h6 (zo Z (bFF h9) Z) (za (zu Z (bTT h7) Z) (qe Z ⟨r10,H,⟨Z,U⟩,U⟩))))
   ·exact u4 h8 H fun h12 H=>zc Z Z h8 (zc Z Z h8 (zd Z Z h6 (zu Z (bTT h12) Z) (za (zu Z (bTT h7) Z) (qe Z ⟨true,H,⟨Z,U⟩,U⟩))))
  ·exact u2 h6 H fun h13 H=>zc Z Z h6 (zc Z Z h6 (zc Z Z h6 (zt Z Z (zt Z Z (zc Z Z h6 (za (zo Z (bFF h13) Z) (qe Z ⟨false,H,⟨Z,U⟩,U⟩)))))))
 ·rintro v14 H
  replace H:xk v14=some r:=H
  unfold xk at H
  refine zi ?_
  cases H
  exact ⟨U,.inl Z,U⟩
theorem z28 (s p:Bs) (r:Bool) (H:ud s p=some r):Fn Tryz.prog 21 [vstr s,vstr p] (zr [zf r]):=by
 unfold ud at H
 obtain ⟨h1,h2⟩:=gif H
 cases h2
 refine kf (by kernel_rfl) fun M w vs hM h => ?_
 have hv:=vz (us:=[.string ⟨s.toArray⟩,.string ⟨p.toArray⟩]) h
 subst hv
 obtain ⟨m,hm⟩:=z4z hM
 refine (Tryz.strings_Contains ⟨s.toArray⟩ ⟨p.toArray⟩ m w (by simp [ByteArray.size]; omega) hm).mono ?_
 rintro e w' ⟨rfl,rfl⟩
 exact ⟨_,Z,Z,Kp.refl _ _⟩

theorem z8t (accept1:Bs) (offers2:(List Bs)) (slash3:Bool) (r:((List zj)×Int)) (H:Qb accept1 offers2 slash3=some r):Fn Tryz.prog 16 [vstr accept1,vlst (List.map yb offers2),zf slash3] (zr [vlst (List.map yk r.1),vint r.2]):=by
 refine ⟨by kernel_rfl,yh (us:=[vlst (List.map yk r.1),vint r.2]) Tryz.func16 Z Z Z Z fun X hN => ?_⟩
 unfold Qb at H
 refine zb hN Z (qe Z (qe Z (zb hN Z (qd Z (bE H fun r4 h5 H=>za (zn (y4i accept1 r4 h5) ⟨.inl Z,U⟩) (qd Z (za (yd Z Z) (za (yd Z Z) (qe Z (qe Z (zh (zb hN Z (qd Z (za (vq Z Z) (zg _ Z (fun h6 => ?_) (fun h6 => ?_))))))))))))))))
 ·refine tE h6 H fun H=>zb hN Z (qd Z (qe Z (qe Z (zi ?_))))
  cases H
  exact ⟨U,.inr ⟨Z,Z⟩,.inl Z,U⟩
 ·refine fE h6 H fun H=>zl (zh (zb hN Z (qd Z (za (qo jl Z) (za (qs Z Z) (zg _ Z (fun h7 => ?_) (fun h7 => ?_)))))))
  ·refine tE h7 H fun H=>zb hN Z (qe Z (qe Z (zi ?_)))
   cases H
   exact ⟨U,.inr ⟨Z,Z⟩,.inl Z,U⟩
  ·refine fE h7 H fun H=>zl (zh (zb hN Z (qd Z (za (qo jl Z) (qd Z (ye (gE H fun h10 H=>ve (fun (k8:Nat) (s:Unit)=>[(2,.dat (zf slash3)),(8,.dat (vlst (List.map yk r4.1))),(23,.dat (vlst (List.map yb offers2))),(24,.dat (vint (offers2.length:Int))),(25,.dat (vint (k8:Int)))]) (fun (k8:Nat) (s:Unit)=>[]) () H ⟨Z,Z,Z,Z,Z,U⟩ U (fun _ _=>Z) ?_ ?_)))))))
   ·rintro ⟨⟩ H
    replace H:z2a r4=some r:=H
    unfold z2a at H
    refine zb hN Z (za (yf Z Z) (zh (zg _ Z (fun h=>(lt_t h).elim) (fun h => ?_))))
    refine yu (zb hN Z (qd Z (qe Z (qe Z (zi ?_)))))
    cases H
    exact ⟨U,.inl Z,.inl Z,U⟩
   ·rintro k8 x11 ⟨⟩ q9 h12 h13 H hq9
    replace H:Yk slash3 k8 x11=some q9:=H
    unfold Yk at H
    refine zb hN Z (za (yf Z Z) (zh (zg _ Z (fun h => ?_) (fun h=>(lt_f h12 h).elim))))
    refine zl (zh (ye (zb hN Z (za (jv uw (fun _=>Z) Z Z h13) (za (vr tyS9 Z (vx h13) Z) (qe Z (zw (ι:=Bool) (fun i=>[(2,.dat (zf slash3)),(8,.dat (vlst (List.map yk r4.1))),(23,.dat (vlst (List.map yb offers2))),(24,.dat (vint (offers2.length:Int))),(25,.dat (vint (k8:Int))),(41,.dat (zf i))]) (fun i=>[]) (fun i=>xf i=some q9) (fun i=>Z) ?_ ?_)))))))
    ·skip
     refine zm hN Z (qd Z (bE H fun r14 h15 H=>za (zn (y4b x11 r14 h15) ⟨.inl Z,U⟩) (za (yy Z) (qd Z (zz (j:=3) Z Z (fun h16 => ?_) (fun h16 => ?_) Z)))))
     ·refine u3 h16 H fun h17 H=>zd Z Z h16 (ze (.dat _) Z) (bE H fun r18 h19 H=>zd Z Z h16 (zn (z28 x11 [47] r18 h19) ⟨.inl Z,.inl Z,U⟩) (zd Z Z h16 (ze (.dat _) Z) (zd Z Z h16 (z7i tyU4 Z Z) (za (zo Z (bFF h17) Z) (qd Z (zz (j:=9) Z Z (fun h20 => ?_) (fun h20 => ?_) Z))))))
      ·exact u3 h20 H fun h21 H=>zd Z Z h20 (ze (.dat _) Z) (bE H fun r22 h23 H=>zd Z Z h20 (zn (z28 x11 [42] r22 h23) ⟨.inl Z,.inl Z,U⟩) (za (zo Z (bFF h21) Z) ⟨r22,H,⟨Z,Z,Z,Z,Z,Z,U⟩,U⟩))
      ·exact u4 h20 H fun h24 H=>zc Z Z h20 (zc Z Z h20 (za (zu Z (bTT h24) Z) ⟨true,H,⟨Z,Z,Z,Z,Z,Z,U⟩,U⟩))
     ·exact u4 h16 H fun h25 H=>zc Z Z h16 (zc Z Z h16 (zc Z Z h16 (zc Z Z h16 (za (zu Z (bTT h25) Z) (qd Z (zc Z Z Z (zc Z Z Z (za (zu Z Z Z) ⟨true,H,⟨Z,Z,Z,Z,Z,Z,U⟩,U⟩))))))))
    ·rintro v26 H
     replace H:xf v26=some q9:=H
     unfold xf at H
     refine zg _ Z (fun h27 => ?_) (fun h27 => ?_)
     ·refine tE h27 H fun H=>zb hN Z (qe Z (qe Z (zi ?_)))
      replace H:=retl H hq9
      cases H
      exact ⟨U,.inr ⟨Z,Z⟩,.inl Z,U⟩
     ·exact fE h27 H fun H=>zl (zm hN Z (za (wk Z Z (by omega)) (qd Z ⟨_,qb H,⟨Z,Z,Z,Z,Z,U⟩,U⟩)))
theorem z8y (l1:(List zj)) (offers2:(List Bs)) (p2:Bs→Bs→Option (Int)) (fv2:Nat) (us2:List V) (hp2:∀ a0 a1 r,p2 a0 a1=some r→Fn Tryz.prog fv2 ([vstr a0,vstr a1]++us2) (zr [vint r])) (r:(Int×Int)) (H:xy l1 offers2 p2=some r):Fn Tryz.prog 17 [vlst (List.map yk l1),vlst (List.map yb offers2),vfn fv2 us2] (zr [vint r.1,vint r.2]):=by
 refine ⟨by kernel_rfl,yh (us:=[vint r.1,vint r.2]) Tryz.func17 Z Z Z Z fun X hN => ?_⟩
 unfold xy at H
 refine zb hN Z (qe Z (qe Z (zh (zb hN Z (qd Z (za (qo jl Z) (za (qs Z Z) (qd Z (yp Z Z (fun hc=>ze (.dat _) Z) (yp Z Z (fun hc=>qo ut (cnd (c:=(decide (0 < (offers2.length:Int)))) hc)) (yp Z Z (fun hc=>yl (cnd (c:=(decide (0 < (offers2.length:Int)))) hc) Z) (za (qp Z (fun hb=>(cnd (c:=(decide (0 < (offers2.length:Int)))) hb)) Z) (zg _ Z (fun h3 => ?_) (fun h3 => ?_))))))))))))))
 ·refine tE h3 H fun H=>zb hN Z (qe Z (qe Z (zi ?_)))
  cases H
  exact ⟨U,.inl Z,.inl Z,U⟩
 ·refine fE h3 H fun H=>zl (zb hN Z (qe Z (qe Z (zh (zb hN Z (qd Z (za (qo jl Z) (qd Z (ye (gE H fun h8 H=>ve (fun (k6:Nat) (s:Int×Int)=>[(0,.dat (vlst (List.map yk l1))),(2,.dat (vfn fv2 us2)),(8,.dat (vint s.1)),(9,.dat (vint s.2)),(25,.dat (vlst (List.map yb offers2))),(26,.dat (vint (offers2.length:Int))),(27,.dat (vint (k6:Int)))]) (fun (k6:Nat) (s:Int×Int)=>[]) ((-1),0) H ⟨Z,Z,Z,Z,Z,Z,Z,U⟩ U (fun _ _=>Z) ?_ ?_))))))))))
  ·rintro ⟨best4,most5⟩ H
   replace H:Yu best4 most5=some r:=H
   unfold Yu at H
   refine zb hN Z (za (yf Z Z) (zh (zg _ Z (fun h=>(lt_t h).elim) (fun h => ?_))))
   refine yu (zh (zb hN Z (qd Z (za (yf Z Z) (zg _ Z (fun h10 => ?_) (fun h10 => ?_))))))
   ·refine tE h10 H fun H=>zb hN Z (qe Z (qe Z (zi ?_)))
    cases H
    exact ⟨U,.inl Z,.inl Z,U⟩
   ·refine fE h10 H fun H=>zl (zb hN Z (qd Z (qe Z (qe Z (zi ?_)))))
    cases H
    exact ⟨U,.inl Z,.inl Z,U⟩
  ·rintro k6 x9 ⟨best4,most5⟩ q7 h11 h12 H hq7
   replace H:xm l1 p2 k6 x9 best4 most5=some q7:=H
   unfold xm at H
   refine zb hN Z (za (yf Z Z) (zh (zg _ Z (fun h => ?_) (fun h=>(lt_f h11 h).elim))))
   refine zl (zw (ι:=Int×Int) (fun i=>[(0,.dat (vlst (List.map yk l1))),(2,.dat (vfn fv2 us2)),(8,.dat (vint i.1)),(9,.dat (vint i.2)),(25,.dat (vlst (List.map yb offers2))),(26,.dat (vint (offers2.length:Int))),(27,.dat (vint (k6:Int)))]) (fun i=>[]) (fun i=>Yt i.1 i.2=some q7) (fun i=>Z) ?_ ?_)
   ·skip
    refine ye (zb hN Z (qd Z (za (jv uw (fun _=>Z) Z Z h12) (za (vr tyS9 Z (vx h12) Z) (qe Z (qe Z (zb hN Z (qe Z (qe Z (zh (zb hN Z (qd Z (za (qo ut Z) (qd Z (ye (gE H fun h17 H=>ve (fun (k15:Nat) (s:Int×Int)=>[(0,.dat (vlst (List.map yk l1))),(2,.dat (vfn fv2 us2)),(8,.dat (vint best4)),(9,.dat (vint most5)),(10,.dat (vint (k6:Int))),(11,.dat (vstr x9)),(12,.dat (vint s.1)),(13,.dat (vint s.2)),(25,.dat (vlst (List.map yb offers2))),(26,.dat (vint (offers2.length:Int))),(27,.dat (vint (k6:Int))),(32,.dat (vlst (List.map yk l1))),(33,.dat (vint (l1.length:Int))),(34,.dat (vint (k15:Int)))]) (fun (k15:Nat) (s:Int×Int)=>[]) (0,0) H ⟨Z,Z,Z,Z,Z,Z,Z,Z,Z,Z,Z,Z,Z,Z,U⟩ U (fun _ _=>Z) ?_ ?_))))))))))))))))
    ·rintro ⟨special13,q14⟩ H
     replace H:z2f best4 most5 k6 special13 q14=some q7:=H
     unfold z2f at H
     refine zb hN Z (za (yf Z Z) (zh (zg _ Z (fun h=>(lt_t h).elim) (fun h => ?_))))
     refine yu (zb hN Z (qd Z (qd Z (za (qs Z Z) (zg _ Z (fun h19 => ?_) (fun h19 => ?_))))))
     ·exact tE h19 H fun H=>zm hN Z (qd Z (qd Z (qe Z (qe Z ⟨((k6:Int),q14),H,⟨Z,Z,Z,Z,Z,Z,Z,U⟩,U⟩))))
     ·exact fE h19 H fun H=>zl ⟨(best4,most5),H,⟨Z,Z,Z,Z,Z,Z,Z,U⟩,U⟩
    ·rintro k15 x18 ⟨special13,q14⟩ q16 h20 h21 H hq16
     replace H:xl p2 x9 k15 x18 special13 q14=some q16:=H
     unfold xl at H
     refine zb hN Z (za (yf Z Z) (zh (zg _ Z (fun h => ?_) (fun h=>(lt_f h20 h).elim))))
     refine zl (zw (ι:=Int×Int) (fun i=>[(0,.dat (vlst (List.map yk l1))),(2,.dat (vfn fv2 us2)),(8,.dat (vint best4)),(9,.dat (vint most5)),(10,.dat (vint (k6:Int))),(11,.dat (vstr x9)),(12,.dat (vint i.1)),(13,.dat (vint i.2)),(25,.dat (vlst (List.map yb offers2))),(26,.dat (vint (offers2.length:Int))),(27,.dat (vint (k6:Int))),(32,.dat (vlst (List.map yk l1))),(33,.dat (vint (l1.length:Int))),(34,.dat (vint (k15:Int)))]) (fun i=>[]) (fun i=>Ys i.1 i.2=some q16) (fun i=>Z) ?_ ?_)
     ·skip
      refine ye (zb hN Z (za (jv z33 (fun _=>Z) Z Z h21) (za (z4f qz Z (vx h21) Z) (zq (kk 1 ki Z) Z (zq (kj qz Z Z Z Z) Z (zb hN Z (qd Z (za (zp Wr Z) (yc (zy tyS9 Z Z) Z (qd Z (bE H fun r22 h23 H=>za (z4h (hp2 x18.Words x9 r22 h23) Z ⟨.inl Z,.inl Z,U⟩) (qe Z (zb hN Z (qd Z (qd Z (za (qs Z Z) (zg _ Z (fun h24 => ?_) (fun h24 => ?_))))))))))))))))))
      ·refine tE h24 H fun H=>wh mixed hN Z Z (qd Z (za (zp z1v Z) (yc (zy tyS3 Z Z) Z (qe Z (qe Z ⟨Z,?_⟩)))))
       exact ⟨(r22,x18.Quality),H,⟨Z,Z,Z,Z,Z,Z,Z,Z,Z,Z,Z,Z,Z,Z,U⟩,U⟩
      ·exact fE h24 H fun H=>zl ⟨(special13,q14),H,⟨Z,Z,Z,Z,Z,Z,Z,Z,Z,Z,Z,Z,Z,Z,U⟩,U⟩
     ·rintro ⟨special25,q26⟩ H
      replace H:Ys special25 q26=some q16:=H
      unfold Ys at H
      exact zm hN Z (za (wk Z Z (by omega)) (qd Z ⟨_,qb H,⟨Z,Z,Z,Z,Z,Z,Z,Z,Z,Z,Z,Z,Z,Z,U⟩,U⟩))
   ·rintro ⟨best27,most28⟩ H
    replace H:Yt best27 most28=some q7:=H
    unfold Yt at H
    exact zm hN Z (za (wk Z Z (by omega)) (qd Z ⟨_,qb H,⟨Z,Z,Z,Z,Z,Z,Z,U⟩,U⟩))
theorem z26 (s:Bs) (r:Bs) (H:uc s=some r):Fn Tryz.prog 31 [vstr s] (zr [vstr r]):=by
 unfold uc at H
 obtain ⟨⟨h1,h2⟩,h3⟩:=gif H
 cases h3
 refine kf (by kernel_rfl) fun M w vs hM h => ?_
 have hv:=vz (us:=[.string ⟨s.toArray⟩]) h
 subst hv
 refine (Tryz.strings_ToLower_ascii ⟨s.toArray⟩ w (by simp [ByteArray.size]; omega) (fun j b hb=>uo h2 j b (by simpa using hb))).mono ?_
 rintro e w' ⟨rfl,hb⟩
 exact ⟨_,Z,Z,Kp.of_below hb⟩

theorem y38 (words1:Bs) (offer2:Bs) (r:(Int)) (H:xw words1 offer2=some r):Fn Tryz.prog 18 [vstr words1,vstr offer2] (zr [vint r]):=by
 refine ⟨by kernel_rfl,yh (us:=[vint r]) Tryz.func18 Z Z Z Z fun X hN => ?_⟩
 unfold xw at H
 refine zb hN Z (qe Z (zb hN Z (qd Z (bE H fun r3 h4 H=>za (zn (z26 words1 r3 h4) ⟨.inl Z,U⟩) (qd Z (bE H fun r5 h6 H=>za (zn (z26 offer2 r5 h6) ⟨.inl Z,U⟩) (qe Z (qe Z (zb hN Z (qd Z (bE H fun r7 h8 H=>za (zn (Ql r5 [47] r7 h8) ⟨.inl Z,.inl Z,U⟩) (qd Z (za (yd Z Z) (za (yd Z Z) (za (yd Z Z) (qe Z (qe Z (qe Z (zh (zb hN Z ?_))))))))))))))))))))
 refine qd Z (ye (zb hN Z (qd Z (za (ql Z Z) (qe Z (zg _ Z (fun h9 => ?_) (fun h9 => ?_)))))))
 ·refine tE h9 H fun H=>zb hN Z (qe Z (zi ?_))
  cases H
  exact ⟨U,.inl Z,U⟩
 ·refine fE h9 H fun H=>zb hN Z (qd Z (gE H fun h10 H=>za (vp Z Z (Nat.le_trans h10 (by decide))) (za (ql Z Z) (qe Z (zg _ Z (fun h11 => ?_) (fun h11 => ?_))))))
  ·refine tE h11 H fun H=>zb hN Z (qe Z (zi ?_))
   cases H
   exact ⟨U,.inl Z,U⟩
  ·refine fE h11 H fun H=>zb hN Z (za (ql Z Z) (qe Z (zg _ Z (fun h12 => ?_) (fun h12 => ?_))))
   ·refine tE h12 H fun H=>zb hN Z (qe Z (zi ?_))
    cases H
    exact ⟨U,.inl Z,U⟩
   ·refine fE h12 H fun H=>zl (zb hN Z (qe Z (zi ?_)))
    cases H
    exact ⟨U,.inl Z,U⟩
theorem y4k (accept1:Bs) (offers2:(List Bs)) (r:(Int×Int)) (H:z2t accept1 offers2=some r):Fn Tryz.prog 6 [vstr accept1,vlst (List.map yb offers2)] (zr [vint r.1,vint r.2]):=by
 refine ⟨by kernel_rfl,yh (us:=[vint r.1,vint r.2]) Tryz.func6 Z Z Z Z fun X hN => ?_⟩
 unfold z2t at H
 refine zb hN Z (qe Z (qe Z (zb hN Z (qd Z (qd Z (bE H fun r3 h4 H=>za (zn (z8t accept1 offers2 true r3 h4) ⟨.inl Z,.inl Z,.inl Z,U⟩) (qd Z (za (yd Z Z) (za (yd Z Z) (qe Z (qe Z (zh (zb hN Z (qd Z (za (vq Z Z) (zg _ Z (fun h5 => ?_) (fun h5 => ?_)))))))))))))))))
 ·refine tE h5 H fun H=>zb hN Z (qd Z (qe Z (qe Z (zi ?_))))
  cases H
  exact ⟨U,.inl Z,.inl Z,U⟩
 ·refine fE h5 H fun H=>zl (zb hN Z (qd Z (qd Z (bE H fun r6 h7 H=>za (z12 (z8y r3.1 offers2 (fun (a0:Bs) (a1:Bs)=>xw a0 a1) 18 [] (fun a0 a1 r h=>y38 a0 a1 r h) r6 h7) ⟨.inl (.inl Z),.inl (.inl Z),.inr ⟨_,Z,Z⟩,U⟩) (za (yd Z Z) (za (yd Z Z) (qe Z (qe Z (zi ?_)))))))))
  cases H
  exact ⟨U,.inl Z,.inl Z,U⟩
theorem y4s (s1:Bs) (low2:Int) (r:(Bool)) (H:z5e s1 low2=some r):Fn Tryz.prog 57 [vstr s1,vval (.int .u8 low2)] (zr [zf r]):=by
 refine ⟨by kernel_rfl,yh (us:=[zf r]) Tryz.func57 Z Z Z Z fun X hN => ?_⟩
 unfold z5e at H
 refine zb hN Z (qe Z (zh (zb hN Z (qd Z (za (yq tyU9 Z) (qd Z (ye (gE H fun h5 H=>ve (fun (k3:Nat) (s:Unit)=>[(0,.dat (vstr s1)),(1,.dat (vval (.int .u8 low2))),(7,.dat (vint (s1.length:Int))),(8,.dat (vint (k3:Int)))]) (fun (k3:Nat) (s:Unit)=>[]) () H ⟨Z,Z,Z,Z,U⟩ U (fun _ _=>Z) ?_ ?_))))))))
 ·rintro ⟨⟩ H
  replace H:z5x=some r:=H
  unfold z5x at H
  refine zb hN Z (za (yf Z Z) (zh (zg _ Z (fun h=>(lt_t h).elim) (fun h => ?_))))
  refine yu (zb hN Z (qe Z (zi ?_)))
  cases H
  exact ⟨U,.inl Z,U⟩
 ·rintro k3 x6 ⟨⟩ q4 h7 h8 H hq4
  replace H:z5w low2 k3 x6=some q4:=H
  unfold z5w at H
  refine zb hN Z (za (yf Z Z) (zh (zg _ Z (fun h => ?_) (fun h=>(lt_f h7 h).elim))))
  refine zl (zh (ye (zb hN Z (qd Z (qe Z (zw (ι:=Bool) (fun i=>[(0,.dat (vstr s1)),(1,.dat (vval (.int .u8 low2))),(7,.dat (vint (s1.length:Int))),(8,.dat (vint (k3:Int))),(21,.dat (zf i))]) (fun i=>[]) (fun i=>z1j i=some q4) (fun i=>Z) ?_ ?_))))))
  ·skip
   refine zm hN Z (qd Z (qd Z (za (yv tyU9 Z Z h8) (qd Z (za (yf Z Z) (qd Z (zz (j:=5) Z Z (fun h9 => ?_) (fun h9 => ?_) Z)))))))
   ·exact u3 h9 H fun h10 H=>zd Z Z h9 (ze (.dat _) Z) (zd Z Z h9 (ze (.dat _) Z) (zd Z Z h9 (yv tyU9 Z Z h8) (zd Z Z h9 (qs Z Z) (za (zo Z (bFF h10) Z) ⟨decide (126 < (x6.toNat:Int)),H,⟨Z,Z,Z,Z,Z,U⟩,U⟩))))
   ·exact u4 h9 H fun h11 H=>zc Z Z h9 (zc Z Z h9 (zc Z Z h9 (zc Z Z h9 (za (zu Z (bTT h11) Z) ⟨true,H,⟨Z,Z,Z,Z,Z,U⟩,U⟩))))
  ·rintro v12 H
   replace H:z1j v12=some q4:=H
   unfold z1j at H
   refine zg _ Z (fun h13 => ?_) (fun h13 => ?_)
   ·refine tE h13 H fun H=>zb hN Z (qe Z (zi ?_))
    replace H:=retl H hq4
    cases H
    exact ⟨U,.inl Z,U⟩
   ·exact fE h13 H fun H=>zl (zm hN Z (za (wk Z Z (by omega)) (qd Z ⟨_,qb H,⟨Z,Z,Z,Z,U⟩,U⟩)))
theorem y40 (s1:Bs) (r:(Bool)) (H:z2y s1=some r):Fn Tryz.prog 32 [vstr s1] (zr [zf r]):=by
 refine ⟨by kernel_rfl,yh (us:=[zf r]) Tryz.func32 Z Z Z Z fun X hN => ?_⟩
 unfold z2y at H
 refine zb hN Z (qe Z (zw (ι:=Bool) (fun i=>[(2,.dat (zf i))]) (fun i=>[]) (fun i=>Wg i=some r) (fun i=>Z) ?_ ?_))
 ·skip
  refine zm hN Z (qd Z (za (yq tyU9 Z) (za (qr Z Z) (qd Z (zz (j:=3) Z Z (fun h2 => ?_) (fun h2 => ?_) Z)))))
  ·refine u1 h2 H fun h3 H=>zd Z Z h2 (ze (.dat _) Z) (bE H fun r4 h5 H=>zd Z Z h2 (zn (y4s s1 32 r4 h5) ⟨.inl Z,.inl Z,U⟩) (za (zu Z (bTT h3) Z) (qd Z (zz (j:=7) Z Z (fun h6 => ?_) (fun h6 => ?_) Z))))
   ·exact u1 h6 H fun h7 H=>zd Z Z h6 (ze (.dat _) Z) (bE H fun r8 h9 H=>zd Z Z h6 (zn (z8p s1 [32] r8 h9) ⟨.inl Z,.inl Z,U⟩) (zd Z Z h6 (ze (.dat _) Z) (zd Z Z h6 (ql Z Z) (za (zu Z (bTT h7) Z) (qe Z ⟨decide (r8=s1),H,⟨Z,U⟩,U⟩)))))
   ·exact u2 h6 H fun h10 H=>zc Z Z h6 (zc Z Z h6 (zc Z Z h6 (zc Z Z h6 (za (zo Z (bFF h10) Z) (qe Z ⟨false,H,⟨Z,U⟩,U⟩)))))
  ·exact u2 h2 H fun h11 H=>zc Z Z h2 (zc Z Z h2 (za (zo Z (bFF h11) Z) (qd Z (zc Z Z Z (zc Z Z Z (zc Z Z Z (zc Z Z Z (za (zo Z Z Z) (qe Z ⟨false,H,⟨Z,U⟩,U⟩)))))))))
 ·rintro v12 H
  replace H:Wg v12=some r:=H
  unfold Wg at H
  refine zi ?_
  cases H
  exact ⟨U,.inl Z,U⟩
theorem y3w (s1:Bs) (cutset2:Bs) (r:(Bs)) (H:z2k s1 cutset2=some r):Fn Tryz.prog 59 [vstr s1,vstr cutset2] (zr [vstr r]):=by
 refine ⟨by kernel_rfl,yh (us:=[vstr r]) Tryz.func59 Z Z Z Z fun X hN => ?_⟩
 unfold z2k at H
 refine zb hN Z (qe Z (zh (zb hN Z (qd Z (za (ql Z Z) (qd Z (yr Z Z (fun hc=>ze (.dat _) Z) (yr Z Z (fun hc=>ql (cnd (c:=(!(decide (s1=[])))) hc) Z) (za (vc Z Z (fun hb=>(cnd (c:=(!(decide (s1=[])))) (notI hb)))) (zg _ Z (fun h3 => ?_) (fun h3 => ?_)))))))))))
 ·refine tE h3 H fun H=>zb hN Z (qd Z (qe Z (zi ?_)))
  cases H
  exact ⟨U,.inl Z,U⟩
 ·refine fE h3 H fun H=>zl (zh (zw (ι:=Bool) (fun i=>[(0,.dat (vstr s1)),(1,.dat (vstr cutset2)),(21,.dat (zf i))]) (fun i=>[]) (fun i=>Yh s1 cutset2 i=some r) (fun i=>Z) ?_ ?_))
  ·skip
   refine zm hN Z (qd Z (za (yq tyU9 Z) (za (yl Z Z) (qd Z (zz (j:=3) Z Z (fun h4 => ?_) (fun h4 => ?_) Z)))))
   ·exact u1 h4 H fun h5 H=>zd Z Z h4 (ze (.dat _) Z) (bE H fun x6 h7 H=>zd Z Z h4 (yv tyU9 Z Z h7) (zd Z Z h4 (yf Z Z) (za (zu Z (bTT h5) Z) ⟨decide ((x6.toNat:Int) < 128),H,⟨Z,Z,Z,U⟩,U⟩)))
   ·exact u2 h4 H fun h8 H=>zc Z Z h4 (zc Z Z h4 (zc Z Z h4 (za (zo Z (bFF h8) Z) ⟨false,H,⟨Z,Z,Z,U⟩,U⟩)))
  ·rintro v9 H
   replace H:Yh s1 cutset2 v9=some r:=H
   unfold Yh at H
   refine zg _ Z (fun h10 => ?_) (fun h10 => ?_)
   ·refine tE h10 H fun H=>zb hN Z (qd Z (qd Z (bE H fun x11 h12 H=>za (yv tyU9 Z Z h12) (bE H fun r13 h14 H=>za (zn (z8o s1 (x11.toNat:Int) r13 h14) ⟨.inl Z,.inl Z,U⟩) (qe Z (zi ?_))))))
    cases H
    exact ⟨U,.inl Z,U⟩
   ·refine fE h10 H fun H=>?_
    cases H
theorem z3a (s1:zx) (r:(zx)) (H:ug s1=some r):Imp Tryz.prog 33 61 (ja s1) [] (zr []) (ja r):=by
 refine wm (us:=[]) (cs':=(ja r)) (by kernel_rfl) Tryz.func33 Z Z Z Z fun X bl hN => ?_
 unfold ug at H
 refine zm hN Z (za (ze (.ptr _ _) Z) (za (ze (.ptr _ _) Z) (za (zv Z) (za (zp yz Z) (yc (zy tyS9 Z Z) Z (bE H fun r2 h3 H=>za (zn (y3w s1.s_ [32] r2 h3) ⟨.inl Z,.inl Z,U⟩) (za (zv Z) (za (zp yz Z) (zq (qg tyS9 Z Z Z Z) Z ?_)))))))))
 cases H
 exact ⟨U,U,Z⟩
theorem y3y (s p:Bs) (r:Int) (H:z2l s p=some r):Fn Tryz.prog 94 [vstr s,vstr p] (zr [vint r]):=by
 unfold z2l at H
 obtain ⟨⟨⟨h1,h2⟩,h3,h4⟩,h5⟩:=gif H
 cases h5
 refine kf (by kernel_rfl) fun M w vs hM h => ?_
 have hv:=vz (us:=[.string ⟨s.toArray⟩,.string ⟨p.toArray⟩]) h
 subst hv
 refine (Tryz.strings_IndexAny_laid ⟨s.toArray⟩ ⟨p.toArray⟩ w (by simp [ByteArray.size]; omega) (by simp [ByteArray.size]; omega) (fun j b hb=>uo h3 j b (by simpa using hb)) (fun j b hb=>uo h4 j b (by simpa using hb))).mono ?_
 rintro e w' ⟨rfl,hb⟩
 exact ⟨_,Z,Z,Kp.of_below hb⟩

theorem z5n (s1:zx) (some2:Bs) (r:(Bs×zx)) (H:jf s1 some2=some r):Imp Tryz.prog 60 61 (ja s1) [vstr some2] (zr [vstr r.1]) (ja r.2):=by
 refine wm (us:=[vstr r.1]) (cs':=(ja r.2)) (by kernel_rfl) Tryz.func60 Z Z Z Z fun X bl hN => ?_
 unfold jf at H
 refine zb hN Z (qe Z (zb hN Z (za (ze (.ptr _ _) Z) (za (zv Z) (za (zp yz Z) (yc (zy tyS9 Z Z) Z (qd Z (bE H fun r3 h4 H=>za (zn (y3y s1.s_ some2 r3 h4) ⟨.inl Z,.inl Z,U⟩) (qe Z (zw (ι:=Int) (fun i=>[(0,.ptr 0 0),(5,.dat (vint i))]) (fun i=>[(0,.box (some bl) 61 [.dat (vstr s1.s_)])]) (fun i=>Qv s1 i=some r) (fun i=>Z) ?_ ?_))))))))))
 ·skip
  refine zb hN Z (qd Z (za (yf Z Z) (zg _ Z (fun h5 => ?_) (fun h5 => ?_))))
  ·exact tE h5 H fun H=>zm hN Z (za (ze (.ptr _ _) Z) (za (zv Z) (za (zp yz Z) (yc (zy tyS9 Z Z) Z (za (yq tyU9 Z) (qe Z ⟨(s1.s_.length:Int),H,⟨Z,Z,U⟩,⟨Z,U⟩⟩))))))
  ·exact fE h5 H fun H=>zl ⟨r3,H,⟨Z,Z,U⟩,⟨Z,U⟩⟩
 ·rintro i6 H
  replace H:Qv s1 i6=some r:=H
  unfold Qv at H
  refine zb hN Z (za (ze (.ptr _ _) Z) (za (zv Z) (za (zp yz Z) (yc (zy tyS9 Z Z) Z (qd Z (bE H fun l7 h8 H=>za (qc tyU9 Z Z Z h8) (qe Z (zb hN Z (za (ze (.ptr _ _) Z) (za (ze (.ptr _ _) Z) (za (zv Z) (za (zp yz Z) (yc (zy tyS9 Z Z) Z (qd Z (bE H fun l9 h10 H=>za (qc tyU9 Z Z Z h10) (za (zv Z) (za (zp yz Z) (zq (qg tyS9 Z Z Z Z) Z (zb hN Z (qd Z (qe Z ?_)))))))))))))))))))))
  refine zi ?_
  cases H
  exact ⟨U,⟨.inl Z,U⟩,Z⟩
theorem z5o (n1:Int) (low2:Int) (high3:Int) (r:(Bool)) (H:Zc n1 low2 high3=some r):Fn Tryz.prog 64 [vint n1,vint low2,vint high3] (zr [zf r]):=by
 refine ⟨by kernel_rfl,yh (us:=[zf r]) Tryz.func64 Z Z Z Z fun X hN => ?_⟩
 unfold Zc at H
 refine zb hN Z (qe Z (zb hN Z (qd Z (qd Z (za (qr Z Z) (qd Z (yp Z Z (fun hc=>ze (.dat _) Z) (yp Z Z (fun hc=>ze (.dat _) Z) (yp Z Z (fun hc=>qr (cnd (c:=(decide (low2≤n1))) hc) (cnd (c:=(decide (low2≤n1))) hc)) (za (qp Z (fun hb=>(cnd (c:=(decide (low2≤n1))) hb)) Z) (qe Z (zi ?_))))))))))))
 cases H
 exact ⟨U,.inl Z,U⟩
theorem z5m (s1:Bs) (some2:Bs) (r:(Bool)) (H:kn s1 some2=some r):Fn Tryz.prog 65 [vstr s1,vstr some2] (zr [zf r]):=by
 refine ⟨by kernel_rfl,yh (us:=[zf r]) Tryz.func65 Z Z Z Z fun X hN => ?_⟩
 unfold kn at H
 refine zb hN Z (qe Z (zh (zb hN Z (qd Z (za (yq tyU9 Z) (qd Z (ye (gE H fun h5 H=>ve (fun (k3:Nat) (s:Unit)=>[(0,.dat (vstr s1)),(1,.dat (vstr some2)),(7,.dat (vint (s1.length:Int))),(8,.dat (vint (k3:Int)))]) (fun (k3:Nat) (s:Unit)=>[]) () H ⟨Z,Z,Z,Z,U⟩ U (fun _ _=>Z) ?_ ?_))))))))
 ·rintro ⟨⟩ H
  replace H:z5y=some r:=H
  unfold z5y at H
  refine zb hN Z (za (yf Z Z) (zh (zg _ Z (fun h=>(lt_t h).elim) (fun h => ?_))))
  refine yu (zb hN Z (qe Z (zi ?_)))
  cases H
  exact ⟨U,.inl Z,U⟩
 ·rintro k3 x6 ⟨⟩ q4 h7 h8 H hq4
  replace H:z3g some2 k3 x6=some q4:=H
  unfold z3g at H
  refine zb hN Z (za (yf Z Z) (zh (zg _ Z (fun h => ?_) (fun h=>(lt_f h7 h).elim))))
  refine zl (zh (ye (zb hN Z (qd Z (qe Z (zb hN Z (qd Z (qd Z (qd Z (za (yv tyU9 Z Z h8) (bE H fun r9 h10 H=>za (zn (z5i some2 (x6.toNat:Int) r9 h10) ⟨.inl Z,.inl Z,U⟩) (za (yf Z Z) (zg _ Z (fun h11 => ?_) (fun h11 => ?_))))))))))))))
  ·refine tE h11 H fun H=>zb hN Z (qe Z (zi ?_))
   replace H:=retl H hq4
   cases H
   exact ⟨U,.inl Z,U⟩
  ·exact fE h11 H fun H=>zl (zm hN Z (za (wk Z Z (by omega)) (qd Z ⟨_,qb H,⟨Z,Z,Z,Z,U⟩,U⟩)))
theorem z3b (s1:Bs) (r:(Bool)) (H:uh s1=some r):Fn Tryz.prog 37 [vstr s1] (zr [zf r]):=by
 refine ⟨by kernel_rfl,yh (us:=[zf r]) Tryz.func37 Z Z Z Z fun X hN => ?_⟩
 unfold uh at H
 refine zb hN Z (qe Z (zw (ι:=Bool) (fun i=>[(2,.dat (zf i))]) (fun i=>[]) (fun i=>Wa i=some r) (fun i=>Z) ?_ ?_))
 ·skip
  refine zm hN Z (qd Z (za (yq tyU9 Z) (bE H fun r2 h3 H=>za (zn (z5o (s1.length:Int) 1 100 r2 h3) ⟨.inl Z,.inl Z,.inl Z,U⟩) (qd Z (zz (j:=3) Z Z (fun h4 => ?_) (fun h4 => ?_) Z)))))
  ·exact u1 h4 H fun h5 H=>zd Z Z h4 (ze (.dat _) Z) (bE H fun r6 h7 H=>zd Z Z h4 (zn (z5m s1 [97,98,99,100,101,102,103,104,105,106,107,108,109,110,111,112,113,114,115,116,117,118,119,120,121,122,65,66,67,68,69,70,71,72,73,74,75,76,77,78,79,80,81,82,83,84,85,86,87,88,89,90,48,49,50,51,52,53,54,55,56,57,33,35,36,37,38,39,42,43,45,46,94,95,96,124,126] r6 h7) ⟨.inl Z,.inl Z,U⟩) (za (zu Z (bTT h5) Z) (qe Z ⟨r6,H,⟨Z,U⟩,U⟩)))
  ·exact u2 h4 H fun h8 H=>zc Z Z h4 (zc Z Z h4 (za (zo Z (bFF h8) Z) (qe Z ⟨false,H,⟨Z,U⟩,U⟩)))
 ·rintro v9 H
  replace H:Wa v9=some r:=H
  unfold Wa at H
  refine zi ?_
  cases H
  exact ⟨U,.inl Z,U⟩
theorem z81 (s1:Bs) (r:(Bool)) (H:Qg s1=some r):Fn Tryz.prog 20 [vstr s1] (zr [zf r]):=by
 refine ⟨by kernel_rfl,yh (us:=[zf r]) Tryz.func20 Z Z Z Z fun X hN => ?_⟩
 unfold Qg at H
 refine zb hN Z (qe Z (zb hN Z (qd Z (bE H fun r2 h3 H=>za (zn (Ql s1 [47] r2 h3) ⟨.inl Z,.inl Z,U⟩) (qd Z (za (yd Z Z) (za (yd Z Z) (za (yd Z Z) (qe Z (qe Z (qe Z (zw (ι:=Bool) (fun i=>[(2,.dat (zf i))]) (fun i=>[]) (fun i=>Zl i=some r) (fun i=>Z) ?_ ?_))))))))))))
 ·skip
  refine zm hN Z (qd Z (bE H fun r4 h5 H=>za (zn (z3b r2.1 r4 h5) ⟨.inl Z,U⟩) (qd Z (zz (j:=2) Z Z (fun h6 => ?_) (fun h6 => ?_) Z))))
  ·refine u1 h6 H fun h7 H=>zd Z Z h6 (ze (.dat _) Z) (zd Z Z h6 (yy Z) (zd Z Z h6 (ze (.dat _) Z) (zz (j:=5) Z Z (fun h8 => ?_) (fun h8 => ?_) Z)))
   ·exact u3 h8 H fun h9 H=>zd Z Z h8 (ze (.dat _) Z) (bE H fun r10 h11 H=>zd Z Z h8 (zn (z3b r2.2.1 r10 h11) ⟨.inl Z,U⟩) (zd Z Z h6 (zo Z (bFF h9) Z) (za (zu Z (bTT h7) Z) (qe Z ⟨r10,H,⟨Z,U⟩,U⟩))))
   ·exact u4 h8 H fun h12 H=>zc Z Z h8 (zc Z Z h8 (zd Z Z h6 (zu Z (bTT h12) Z) (za (zu Z (bTT h7) Z) (qe Z ⟨true,H,⟨Z,U⟩,U⟩))))
  ·exact u2 h6 H fun h13 H=>zc Z Z h6 (zc Z Z h6 (zc Z Z h6 (zt Z Z (zt Z Z (zc Z Z h6 (za (zo Z (bFF h13) Z) (qe Z ⟨false,H,⟨Z,U⟩,U⟩)))))))
 ·rintro v14 H
  replace H:Zl v14=some r:=H
  unfold Zl at H
  refine zi ?_
  cases H
  exact ⟨U,.inl Z,U⟩
theorem z27 (s p:Bs) (r:Bool) (H:xt s p=some r):Fn Tryz.prog 61 [vstr s,vstr p] (zr [zf r]):=by
 cases H
 refine z9j (by kernel_rfl) fun M w vs h => ?_
 have h1:=vz (us:=[.string ⟨s.toArray⟩,.string ⟨p.toArray⟩]) h
 subst h1
 refine (Tryz.strings_HasPrefix ⟨s.toArray⟩ ⟨p.toArray⟩ w).mono ?_
 rintro e w' ⟨rfl,rfl⟩
 exact ⟨_,Z,Z,Kp.refl _ _⟩
theorem y4u (s1:zx) (r:(Bs×Bool×zx)) (H:z2x s1=some r):Imp Tryz.prog 96 61 (ja s1) [] (zr [vstr r.1,zf r.2.1]) (ja r.2.2):=by
 refine wm (us:=[vstr r.1,zf r.2.1]) (cs':=(ja r.2.2)) (by kernel_rfl) Tryz.func96 Z Z Z Z fun X bl hN => ?_
 unfold z2x at H
 refine zb hN Z (qe Z (qe Z (zb hN Z (qe Z (zw (ι:=Bs) (fun i=>[]) (fun i=>[(0,.box (some bl) 61 [.dat (vstr i)])]) (fun i=>z3h i=some r) (fun i=>Z) ?_ ?_)))))
 ·skip
  refine ye (Zy 4 1 5 1 Z Z Z (jk (fun (s:Bs×(List Int))=>[(0,.ptr 0 0),(4,.row 1 s.2.length)]) (fun (s:Bs×(List Int))=>[(0,.box (some bl) 61 [.dat (vstr s.1)]),(1,.row 5 1 (List.map yw s.2))]) (s1.s_,[]) H ⟨Z,Z,U⟩ ⟨Z,Z,U⟩ (fun _=>Z) ?_))
  rintro ⟨c2,l3⟩ q4 H hq4
  replace H:wx c2 l3=some q4:=H
  unfold wx at H
  refine zh (zb hN Z (za (ze (.ptr _ _) Z) (za (zv Z) (za (zp yz Z) (yc (zy tyS9 Z Z) Z (za (jw Z Z) (zg _ Z (fun h5 => ?_) (fun h5 => ?_))))))))
  ·refine tE h5 H fun H=>zl (ye (zb hN Z (za (ze (.ptr _ _) Z) (za (zv Z) (za (zp yz Z) (yc (zy tyS9 Z Z) Z (bE H fun x6 h7 H=>za (yv tyU9 Z Z h7) (qe Z (zb hN Z (za (ze (.ptr _ _) Z) (za (ze (.ptr _ _) Z) (za (zv Z) (za (zp yz Z) (yc (zy tyS9 Z Z) Z (bE H fun l8 h9 H=>za (qc tyU9 Z Z Z h9) (za (zv Z) (za (zp yz Z) (zq (qg tyS9 Z Z Z Z) Z (zw (ι:=Int×Bs) (fun i=>[(0,.ptr 0 0),(4,.row 1 l3.length),(5,.dat (vval (.int .u8 i.1)))]) (fun i=>[(0,.box (some bl) 61 [.dat (vstr i.2)]),(1,.row 5 1 (List.map yw l3))]) (fun i=>Zm l3 i.1 i.2=some q4) (fun i=>Z) ?_ ?_)))))))))))))))))))
   ·skip
    refine ye (zb hN Z (qd Z (za (yl Z Z) (qe Z (zg _ Z (fun h10 => ?_) (fun h10 => ?_))))))
    ·refine tE h10 H fun H=>zh (Ye 4 1 Z Z Z (zm hN Z (qd Z (za (z4g (C:=yw) ur tyU5 tyU9 (fun _=>Z) Z) (qe Z (qe Z (zi ?_)))))))
     replace H:=retl H hq4
     cases H
     exact ⟨U,⟨.inl Z,.inl Z,U⟩,Z⟩
    ·refine fE h10 H fun H=>zb hN Z (qd Z (za (yl Z Z) (qe Z (zg _ Z (fun h11 => ?_) (fun h11 => ?_)))))
     ·refine tE h11 H fun H=>zh (zw (ι:=Bool) (fun i=>[(0,.ptr 0 0),(4,.row 1 l3.length),(52,.dat (zf i))]) (fun i=>[(0,.box (some bl) 61 [.dat (vstr l8)]),(1,.row 5 1 (List.map yw l3))]) (fun i=>ul l3 l8 i=some q4) (fun i=>Z) ?_ ?_)
      ·skip
       refine zm hN Z (za (ze (.ptr _ _) Z) (za (zv Z) (za (zp yz Z) (yc (zy tyS9 Z Z) Z (za (ql Z Z) (qd Z (zz (j:=5) Z Z (fun h12 => ?_) (fun h12 => ?_) Z)))))))
       ·refine u3 h12 H fun h13 H=>zd Z Z h12 (ze (.ptr _ _) Z) (zd Z Z h12 (zv Z) (zd Z Z h12 (zp yz Z) (wo Z Z h12 (zy tyS9 Z Z) Z (bE H fun x14 h15 H=>zd Z Z h12 (yv tyU9 Z Z h15) (zd Z Z h12 (vq Z Z) (zd Z Z h12 (ze (.dat _) Z) (zz (j:=12) Z Z (fun h16 => ?_) (fun h16 => ?_) Z)))))))
        ·exact u1 h16 H fun h17 H=>zd Z Z h16 (ze (.ptr _ _) Z) (zd Z Z h16 (zv Z) (zd Z Z h16 (zp yz Z) (wo Z Z h16 (zy tyS9 Z Z) Z (zd Z Z h16 (yv tyU9 Z Z h15) (zd Z Z h16 (vq Z Z) (zd Z Z h12 (zu Z (bTT h17) Z) (za (zo Z (bFF h13) Z) ⟨decide ((x14.toNat:Int)≠92),H,⟨Z,Z,Z,U⟩,⟨Z,Z,U⟩⟩)))))))
        ·exact u2 h16 H fun h18 H=>zc Z Z h16 (zc Z Z h16 (zc Z Z h16 (zc Z Z h16 (zc Z Z h16 (zc Z Z h16 (zd Z Z h12 (zo Z (bFF h18) Z) (za (zo Z (bFF h13) Z) ⟨false,H,⟨Z,Z,Z,U⟩,⟨Z,Z,U⟩⟩)))))))
       ·exact u4 h12 H fun h19 H=>zc Z Z h12 (zc Z Z h12 (zc Z Z h12 (zc Z Z h12 (zc Z Z h12 (zc Z Z h12 (zc Z Z h12 (zt Z Z (zt Z Z (zt Z Z (zt Z Z (zt Z Z (zt Z Z (zc Z Z h12 (za (zu Z (bTT h19) Z) ⟨true,H,⟨Z,Z,Z,U⟩,⟨Z,Z,U⟩⟩))))))))))))))
      ·rintro v20 H
       replace H:ul l3 l8 v20=some q4:=H
       unfold ul at H
       refine zg _ Z (fun h21 => ?_) (fun h21 => ?_)
       ·refine tE h21 H fun H=>zb hN Z (qe Z (qe Z (zi ?_)))
        replace H:=retl H hq4
        cases H
        exact ⟨U,⟨.inl Z,.inl Z,U⟩,Z⟩
       ·exact fE h21 H fun H=>zl (zb hN Z (za (ze (.ptr _ _) Z) (za (zv Z) (za (zp yz Z) (yc (zy tyS9 Z Z) Z (bE H fun x22 h23 H=>za (yv tyU9 Z Z h23) (qe Z (zm hN Z (za (ze (.ptr _ _) Z) (za (ze (.ptr _ _) Z) (za (zv Z) (za (zp yz Z) (yc (zy tyS9 Z Z) Z (bE H fun l24 h25 H=>za (qc tyU9 Z Z Z h25) (za (zv Z) (za (zp yz Z) (zq (qg tyS9 Z Z Z Z) Z ⟨((x22.toNat:Int),l24),H,⟨Z,Z,Z,U⟩,⟨Z,Z,U⟩⟩)))))))))))))))))
     ·exact fE h11 H fun H=>zl ⟨((x6.toNat:Int),l8),H,⟨Z,Z,Z,U⟩,⟨Z,Z,U⟩⟩
   ·rintro ⟨v26,c27⟩ H
    replace H:Zm l3 v26 c27=some q4:=H
    unfold Zm at H
    refine zm hN Z (za (ze (.row _ _) Z) (qd Z (za (ym (u':=vlst (List.map yw [v26])) (wa [[_]] uv ⟨Z,.inl ⟨_,Z,Z,Z⟩,Z,U⟩ Z Z) Z) (gE H fun h28 H=>zq (vo uv (fun _=>Z) Z Z Z ⟨by simp,by first | (simp; done) | simpa using h28⟩ Z) Z ?_))))
    exact za (wu (.row _ _) Z) ⟨_,qb H,⟨Z,Z,U⟩,⟨Z,Z,U⟩⟩
  ·refine fE h5 H fun H=>yu ?_
   replace H:=outl H hq4
   exact ⟨c2,H,U,⟨Z,U⟩⟩
 ·rintro c29 H
  replace H:z3h c29=some r:=H
  unfold z3h at H
  refine zb hN Z (qe Z (qe Z (zi ?_)))
  cases H
  exact ⟨U,⟨.inl Z,.inl Z,U⟩,Z⟩
theorem y4t (s1:Bs) (r:(Int×Bool)) (H:Zb s1=some r):Fn Tryz.prog 97 [vstr s1] (zr [vint r.1,zf r.2]):=by
 refine ⟨by kernel_rfl,yh (us:=[vint r.1,zf r.2]) Tryz.func97 Z Z Z Z fun X hN => ?_⟩
 unfold Zb at H
 refine zb hN Z (qe Z (qe Z (zb hN Z (qd Z (bE H fun r2 h3 H=>za (zn (Ql s1 [46] r2 h3) ⟨.inl Z,.inl Z,U⟩) (qd Z (za (yd Z Z) (za (yd Z Z) (za (yd Z Z) (qe Z (qe Z (qe Z (zh (zw (ι:=Bool) (fun i=>[(4,.dat (vstr r2.1)),(5,.dat (vstr r2.2.1)),(34,.dat (zf i))]) (fun i=>[]) (fun i=>vk r2 i=some r) (fun i=>Z) ?_ ?_))))))))))))))
 ·skip
  refine zm hN Z (qd Z (za (jw Z Z) (qd Z (zz (j:=2) Z Z (fun h4 => ?_) (fun h4 => ?_) Z))))
  ·refine u1 h4 H fun h5 H=>zd Z Z h4 (ze (.dat _) Z) (zd Z Z h4 (jw Z Z) (za (zu Z (bTT h5) Z) (qd Z (zz (j:=6) Z Z (fun h6 => ?_) (fun h6 => ?_) Z))))
   ·refine u3 h6 H fun h7 H=>zd Z Z h6 (ze (.dat _) Z) (zd Z Z h6 (ze (.dat _) Z) (zz (j:=8) Z Z (fun h8 => ?_) (fun h8 => ?_) Z))
    ·refine u1 h8 H fun h9 H=>zd Z Z h8 (ze (.dat _) Z) (zd Z Z h8 (yq tyU9 Z) (bE H fun r10 h11 H=>zd Z Z h8 (zn (z5o (r2.2.1.length:Int) 1 3 r10 h11) ⟨.inl Z,.inl Z,.inl Z,U⟩) (zd Z Z h8 (yy Z) (zd Z Z h8 (ze (.dat _) Z) (zz (j:=13) Z Z (fun h12 => ?_) (fun h12 => ?_) Z)))))
     ·exact u3 h12 H fun h13 H=>zd Z Z h12 (ze (.dat _) Z) (bE H fun r14 h15 H=>zd Z Z h12 (zn (z5m r2.2.1 [48,49,50,51,52,53,54,55,56,57] r14 h15) ⟨.inl Z,.inl Z,U⟩) (zd Z Z h12 (yy Z) (zd Z Z h8 (zo Z (bFF h13) Z) (zd Z Z h6 (zu Z (bTT h9) Z) (za (zo Z (bFF h7) Z) ⟨!r14,H,⟨Z,Z,Z,U⟩,U⟩)))))
     ·exact u4 h12 H fun h16 H=>zc Z Z h12 (zc Z Z h12 (zc Z Z h12 (zd Z Z h8 (zu Z (bTT h16) Z) (zd Z Z h6 (zu Z (bTT h9) Z) (za (zo Z (bFF h7) Z) ⟨true,H,⟨Z,Z,Z,U⟩,U⟩)))))
    ·exact u2 h8 H fun h17 H=>zc Z Z h8 (zc Z Z h8 (zc Z Z h8 (zc Z Z h8 (zc Z Z h8 (zt Z Z (zt Z Z (zt Z Z (zc Z Z h8 (zd Z Z h6 (zo Z (bFF h17) Z) (za (zo Z (bFF h7) Z) ⟨false,H,⟨Z,Z,Z,U⟩,U⟩))))))))))
   ·exact u4 h6 H fun h18 H=>zc Z Z h6 (zc Z Z h6 (zt Z Z (zt Z Z (zt Z Z (zt Z Z (zt Z Z (zt Z Z (zt Z Z (zt Z Z (zt Z Z (zc Z Z h6 (za (zu Z (bTT h18) Z) ⟨true,H,⟨Z,Z,Z,U⟩,U⟩))))))))))))
  ·refine u2 h4 H fun h19 H=>zc Z Z h4 (zc Z Z h4 (za (zo Z (bFF h19) Z) (qd Z (zd Z Z Z (ze (.dat _) Z) (zd Z Z Z (ze (.dat _) Z) (zz (j:=8) Z Z (fun h20 => ?_) (fun h20 => ?_) Z))))))
   ·refine u1 h20 H fun h21 H=>zd Z Z h20 (ze (.dat _) Z) (zd Z Z h20 (yq tyU9 Z) (bE H fun r22 h23 H=>zd Z Z h20 (zn (z5o (r2.2.1.length:Int) 1 3 r22 h23) ⟨.inl Z,.inl Z,.inl Z,U⟩) (zd Z Z h20 (yy Z) (zd Z Z h20 (ze (.dat _) Z) (zz (j:=13) Z Z (fun h24 => ?_) (fun h24 => ?_) Z)))))
    ·exact u3 h24 H fun h25 H=>zd Z Z h24 (ze (.dat _) Z) (bE H fun r26 h27 H=>zd Z Z h24 (zn (z5m r2.2.1 [48,49,50,51,52,53,54,55,56,57] r26 h27) ⟨.inl Z,.inl Z,U⟩) (zd Z Z h24 (yy Z) (zd Z Z h20 (zo Z (bFF h25) Z) (zd Z Z Z (zu Z (bTT h21) Z) (za (zo Z Z Z) ⟨!r26,H,⟨Z,Z,Z,U⟩,U⟩)))))
    ·exact u4 h24 H fun h28 H=>zc Z Z h24 (zc Z Z h24 (zc Z Z h24 (zd Z Z h20 (zu Z (bTT h28) Z) (zd Z Z Z (zu Z (bTT h21) Z) (za (zo Z Z Z) ⟨true,H,⟨Z,Z,Z,U⟩,U⟩)))))
   ·exact u2 h20 H fun h29 H=>zc Z Z h20 (zc Z Z h20 (zc Z Z h20 (zc Z Z h20 (zc Z Z h20 (zt Z Z (zt Z Z (zt Z Z (zc Z Z h20 (zd Z Z Z (zo Z (bFF h29) Z) (za (zo Z Z Z) ⟨false,H,⟨Z,Z,Z,U⟩,U⟩))))))))))
 ·rintro v30 H
  replace H:vk r2 v30=some r:=H
  unfold vk at H
  refine zg _ Z (fun h31 => ?_) (fun h31 => ?_)
  ·refine tE h31 H fun H=>zb hN Z (qe Z (qe Z (zi ?_)))
   cases H
   exact ⟨U,.inl Z,.inl Z,U⟩
  ·refine fE h31 H fun H=>zl (zb hN Z (qd Z (qd Z (gE H fun h32 H=>za (vp Z Z (Nat.le_trans h32 (by decide))) (bE H fun l33 h34 H=>za (qc tyU9 Z Z Z h34) (gE H fun h35 H=>za (vp Z Z (Nat.le_trans h35 (by decide))) (bE H fun r36 h37 H=>za (zn (z5j (r2.1++l33) r36 h37) ⟨.inl Z,U⟩) (qd Z (za (yd Z Z) (za (yd Z Z) (qe Z (qe Z (zb hN Z (qd Z (qd Z (za (z7d (n:=r36.2) (show Tryz.prog.underlying 76=some (.interface (Tryz.prog.methodsAt 76)) from by kernel_rfl) Z) ?_))))))))))))))))
   refine qd Z (yp Z Z (fun hc=>ze (.dat _) Z) (yp Z Z (fun hc=>qr (cnd (c:=(decide (r36.2=0))) hc) Z) (za (qp Z (fun hb=>(cnd (c:=(decide (r36.2=0))) hb)) Z) (qe Z (qe Z (zi ?_))))))
   cases H
   exact ⟨U,.inl Z,.inl Z,U⟩
end Go.Proofs.YtfindajhhadihaaGreatDoor
