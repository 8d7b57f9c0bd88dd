/- Walks along the models. Printed by a program. -/
import Derived.Test.YtbndlmnjeofkdacGreatDoorZtw6
namespace Go.Proofs.YtbndlmnjeofkdacGreatDoor
open Go.RowKit
set_option linter.unusedVariables false
set_option maxRecDepth 100000
set_option maxHeartbeats 2000000
theorem v0p (v1:Bs) (v2:Int) (v3:Int) (r:(Int×Int)) (H:x0e v1 v2 v3=some r):Fn Tryz.prog 298 [vstr v1,vint v2,vint v3] (zr [vint r.1,verr r.2]):=by
 refine ⟨by kernel_rfl,zx (us:=[vint r.1,verr r.2]) Tryz.func298 Z Z Z Z fun X hN => ?_⟩
 unfold x0e at H
 refine zb hN Z (qe Z (qe Z (zd (zb hN Z (qd Z (za (vz Z Z) (zf _ Z (fun h4 => ?_) (fun h4 => ?_))))))))
 ·refine tE h4 H fun H=>zb hN Z (za (yg (u':=verr 2) (ur (show Tryz.prog.underlying 325=some (.int .i64) from by kernel_rfl) Z) Z) ?_)
  refine qe Z (qe Z (zg ?_))
  cases H
  exact ⟨U,.inl Z,.inl Z,U⟩
 ·refine fE h4 H fun H=>zl (zb hN Z (qe Z (yc (ι:=Bs×Bool) (fun i=>[(0,.dat (vstr i.1)),(1,.dat (vint v2)),(2,.dat (vint v3)),(8,.dat (zi i.2))]) (fun i=>[]) (fun i=>z5m v2 v3 i.1 i.2=some r) (fun i=>Z) ?_ ?_)))
  ·skip
   refine zb hN Z (qd Z (bE H fun x5 h6 H=>za (vh tyU9 Z Z h6) (zu (zb hN Z (za (yn Z Z) (qe Z (zf _ Z (fun h7 => ?_) (fun h7 => ?_))))))))
   ·exact tE h7 H fun H=>zk hN Z (qd Z (bE H fun l8 h9 H=>za (kh tyU9 Z Z Z h9) (qe Z ⟨(l8,false),H,⟨Z,Z,Z,Z,U⟩,U⟩)))
   ·refine fE h7 H fun H=>zb hN Z (za (yn Z Z) (qe Z (zf _ Z (fun h10 => ?_) (fun h10 => ?_))))
    ·exact tE h10 H fun H=>zb hN Z (qd Z (bE H fun l11 h12 H=>za (kh tyU9 Z Z Z h12) (qe Z (zk hN Z (qe Z ⟨(l11,true),H,⟨Z,Z,Z,Z,U⟩,U⟩)))))
    ·exact fE h10 H fun H=>zl ⟨(v1,false),H,⟨Z,Z,Z,Z,U⟩,U⟩
  ·rintro ⟨v13,v14⟩ H
   replace H:z5m v2 v3 v13 v14=some r:=H
   unfold z5m at H
   refine zb hN Z (qe Z (zb hN Z (qd Z (qd Z (qd Z (bE H fun r15 h16 H=>za (zo (x8k v13 v2 v3 r15 h16) ⟨.inl Z,.inl Z,.inl Z,U⟩) (qd Z (za (ye Z Z) (za (ye Z Z) (qe Z (qe Z (zd (yc (ι:=Bool) (fun i=>[(2,.dat (vint v3)),(7,.dat (verr r15.2)),(8,.dat (zi v14)),(9,.dat (vval (.int .u64 r15.1))),(38,.dat (zi i))]) (fun i=>[]) (fun i=>y0l v3 v14 r15 i=some r) (fun i=>Z) ?_ ?_)))))))))))))
   ·skip
    refine zk hN Z (qd Z (za (y2j (n:=r15.2) (show Tryz.prog.underlying 197=some (.interface (Tryz.prog.methodsAt 197)) from by kernel_rfl) Z) ?_))
    refine qd Z (yi (j:=2) Z Z (fun h17 => ?_) (fun h17 => ?_) Z)
    ·refine u1 h17 H fun h18 H=>ze Z Z h17 (zh (.dat _) Z) (ze Z Z h17 (yg (u':=verr 1) (ur (show Tryz.prog.underlying 325=some (.int .i64) from by kernel_rfl) Z) Z) ?_)
     refine gE H fun h19 H=>ze Z Z h17 (w4e (n:=r15.2) (m:=1) (show Tryz.prog.underlying 197=some (.interface (Tryz.prog.methodsAt 197)) from by kernel_rfl) (by kernel_rfl) (by kernel_rfl) Z Z h19 (by decide)) ?_
     exact za (yb Z (bTT h18) Z) ⟨decide (r15.2≠1),H,⟨Z,Z,Z,Z,Z,U⟩,U⟩
    ·exact u2 h17 H fun h20 H=>zc Z Z h17 (zc Z Z h17 (zc Z Z h17 (za (ya Z (bFF h20) Z) ⟨false,H,⟨Z,Z,Z,Z,Z,U⟩,U⟩)))
   ·rintro v21 H
    replace H:y0l v3 v14 r15 v21=some r:=H
    unfold y0l at H
    refine zf _ Z (fun h22 => ?_) (fun h22 => ?_)
    ·refine tE h22 H fun H=>zb hN Z (qd Z (qe Z (qe Z (zg ?_))))
     cases H
     exact ⟨U,.inl Z,.inl Z,U⟩
    ·refine fE h22 H fun H=>zl (yc (ι:=Int) (fun i=>[(2,.dat (vint i)),(8,.dat (zi v14)),(9,.dat (vval (.int .u64 r15.1)))]) (fun i=>[]) (fun i=>y0k v14 r15 i=some r) (fun i=>Z) ?_ ?_)
     ·skip
      refine zb hN Z (qd Z (za (yn Z Z) (zf _ Z (fun h23 => ?_) (fun h23 => ?_))))
      ·exact tE h23 H fun H=>zk hN Z (qe Z ⟨64,H,⟨Z,Z,Z,U⟩,U⟩)
      ·exact fE h23 H fun H=>zl ⟨v3,H,⟨Z,Z,Z,U⟩,U⟩
     ·rintro v24 H
      replace H:y0k v14 r15 v24=some r:=H
      unfold y0k at H
      refine zb hN Z (qd Z (za (yl _ Z Z (.inr (.inl ⟨Z,Z⟩))) (za (jh tyU3 Zf Z) (gE H fun h25 H=>za (yg (y2g Z Z h25) Z) (qe Z (zd (zb hN Z (qd Z (za (yv Z) (qd Z (yz Z Z (fun hc=>zh (.dat _) Z) (yz Z Z (fun hc=>zh (.dat _) Z) (yz Z Z (fun hc=>vt (cnd (c:=(!v14)) hc) (cnd (c:=(!v14)) hc)) (za (wy Z (fun hb=>(cnd (c:=(!v14)) hb)) Z) (zf _ Z (fun h26 => ?_) (fun h26 => ?_))))))))))))))))
      ·refine tE h26 H fun H=>zb hN Z (qd Z (za (yl _ Z Z (.inr (.inl ⟨Z,Z⟩))) (za (jh Zg tyU2 Z) (za (yg (u':=verr 1) (ur (show Tryz.prog.underlying 325=some (.int .i64) from by kernel_rfl) Z) Z) ?_))))
       refine qe Z (qe Z (zg ?_))
       cases H
       exact ⟨U,.inl Z,.inl Z,U⟩
      ·refine fE h26 H fun H=>zl (zd (zb hN Z (qd Z (qd Z (yz Z Z (fun hc=>zh (.dat _) Z) (yz Z Z (fun hc=>zh (.dat _) Z) (yz Z Z (fun hc=>qh (cnd (c:=v14) hc) (cnd (c:=v14) hc)) (za (wy Z (fun hb=>(cnd (c:=v14) hb)) Z) (zf _ Z (fun h27 => ?_) (fun h27 => ?_))))))))))
       ·refine tE h27 H fun H=>zb hN Z (qd Z (za (jh Zg tyU2 Z) (za (x5p Z) (za (yg (u':=verr 1) (ur (show Tryz.prog.underlying 325=some (.int .i64) from by kernel_rfl) Z) Z) ?_))))
        refine qe Z (qe Z (zg ?_))
        cases H
        exact ⟨U,.inl Z,.inl Z,U⟩
       ·refine fE h27 H fun H=>zl (zb hN Z (qd Z (za (jh Zg tyU2 Z) (qe Z (yc (ι:=Int) (fun i=>[(11,.dat (vint i))]) (fun i=>[]) (fun i=>y0j i=some r) (fun i=>Z) ?_ ?_)))))
        ·skip
         refine zb hN Z (qd Z (zf _ Z (fun h28 => ?_) (fun h28 => ?_)))
         ·exact tE h28 H fun H=>zk hN Z (qd Z (za (x5p Z) (qe Z ⟨(wr (-(IntKind.wrap .i64 r15.1))),H,⟨Z,U⟩,U⟩)))
         ·exact fE h28 H fun H=>zl ⟨IntKind.wrap .i64 r15.1,H,⟨Z,U⟩,U⟩
        ·rintro v29 H
         replace H:y0j v29=some r:=H
         unfold y0j at H
         refine zb hN Z (qd Z (qe Z (qe Z (zg ?_))))
         cases H
         exact ⟨U,.inl Z,.inl Z,U⟩
theorem v0r (v1:Bs) (r:(Int×Int)) (H:z11 v1=some r):Fn Tryz.prog 279 [vstr v1] (zr [vint r.1,verr r.2]):=by
 refine ⟨by kernel_rfl,zx (us:=[vint r.1,verr r.2]) Tryz.func279 Z Z Z Z fun X hN => ?_⟩
 unfold z11 at H
 refine zb hN Z (qe Z (qe Z (zb hN Z (qd Z (za (wl tyU9 Z) (qe Z (zd (zb hN Z (qd Z (yz (s := .dat (vint (v1.length:Int))) Z Z (fun hc=>zh (.dat _) Z) (yz (s := .dat (zi (decide (0 < (v1.length:Int))))) Z Z (fun hc=>zw Z (cnd (c:=false) (s := .dat (vint (v1.length:Int))) hc)) (yz (s := .dat (zi (decide (0 < (v1.length:Int))))) Z Z (fun hc=>zh (.dat _) (cnd (c:=false) (s := .dat (zi (decide (0 < (v1.length:Int))))) hc)) (wz (s := .dat (vint (v1.length:Int))) (c:=false) (b:=decide (0 < (v1.length:Int))) Z Z (fun hc=>zh (.dat _) Z) (wz (s := .dat (zi (decide ((v1.length:Int) < 10)))) (c:=false) (b:=decide (0 < (v1.length:Int))) Z Z (fun hc=>zw (cnd (c:=(false && (decide (0 < (v1.length:Int))))) (s := .dat (vint (v1.length:Int))) hc) Z) (yz (s := .dat (zi ((decide (0 < (v1.length:Int))) && (decide ((v1.length:Int) < 10))))) Z Z (fun hc=>wy (cnd (c:=false) (s := .dat (zi (decide (0 < (v1.length:Int))))) hc) (fun hb=>(cnd (c:=(false && (decide (0 < (v1.length:Int))))) (s := .dat (zi (decide ((v1.length:Int) < 10)))) (andI hc hb))) Z) (za (wy Z (fun hb=>(cnd (c:=false) (s := .dat (zi ((decide (0 < (v1.length:Int))) && (decide ((v1.length:Int) < 10))))) hb)) Z) (qd Z (yu (s := .dat (zi true)) Z Z (fun hc=>zh (.dat _) Z) (wz (s := .dat (vint (v1.length:Int))) (c:=(!(false && ((decide (0 < (v1.length:Int))) && (decide ((v1.length:Int) < 10)))))) (b:=true) Z Z (fun hc=>zh (.dat _) Z) (wz (s := .dat (zi (decide (0 < (v1.length:Int))))) (c:=(!(false && ((decide (0 < (v1.length:Int))) && (decide ((v1.length:Int) < 10)))))) (b:=true) Z Z (fun hc=>zw Z (cnd (c:=((!(false && ((decide (0 < (v1.length:Int))) && (decide ((v1.length:Int) < 10))))) && true)) (s := .dat (vint (v1.length:Int))) hc)) (wz (s := .dat (zi (decide (0 < (v1.length:Int))))) (c:=(!(false && ((decide (0 < (v1.length:Int))) && (decide ((v1.length:Int) < 10)))))) (b:=true) Z Z (fun hc=>zh (.dat _) (cnd (c:=((!(false && ((decide (0 < (v1.length:Int))) && (decide ((v1.length:Int) < 10))))) && true)) (s := .dat (zi (decide (0 < (v1.length:Int))))) hc)) (wz (s := .dat (vint (v1.length:Int))) (c:=((!(false && ((decide (0 < (v1.length:Int))) && (decide ((v1.length:Int) < 10))))) && true)) (b:=decide (0 < (v1.length:Int))) Z Z (fun hc=>zh (.dat _) Z) (wz (s := .dat (zi (decide ((v1.length:Int) < 19)))) (c:=((!(false && ((decide (0 < (v1.length:Int))) && (decide ((v1.length:Int) < 10))))) && true)) (b:=decide (0 < (v1.length:Int))) Z Z (fun hc=>zw (cnd (c:=(((!(false && ((decide (0 < (v1.length:Int))) && (decide ((v1.length:Int) < 10))))) && true) && (decide (0 < (v1.length:Int))))) (s := .dat (vint (v1.length:Int))) hc) Z) ?_)))))))))))))))))))))))
 refine wz (s := .dat (zi ((decide (0 < (v1.length:Int))) && (decide ((v1.length:Int) < 19))))) (c:=(!(false && ((decide (0 < (v1.length:Int))) && (decide ((v1.length:Int) < 10)))))) (b:=true) Z Z (fun hc=>wy (cnd (c:=((!(false && ((decide (0 < (v1.length:Int))) && (decide ((v1.length:Int) < 10))))) && true)) (s := .dat (zi (decide (0 < (v1.length:Int))))) hc) (fun hb=>(cnd (c:=(((!(false && ((decide (0 < (v1.length:Int))) && (decide ((v1.length:Int) < 10))))) && true) && (decide (0 < (v1.length:Int))))) (s := .dat (zi (decide ((v1.length:Int) < 19)))) (andI hc hb))) Z) (yu (s := .dat (zi (true && ((decide (0 < (v1.length:Int))) && (decide ((v1.length:Int) < 19)))))) Z Z (fun hc=>wy (cnd (c:=(!(false && ((decide (0 < (v1.length:Int))) && (decide ((v1.length:Int) < 10)))))) (s := .dat (zi true)) hc) (fun hb=>(cnd (c:=((!(false && ((decide (0 < (v1.length:Int))) && (decide ((v1.length:Int) < 10))))) && true)) (s := .dat (zi ((decide (0 < (v1.length:Int))) && (decide ((v1.length:Int) < 19))))) (andI hc hb))) Z) (za (vk Z Z (fun hb=>(cnd (c:=(!(false && ((decide (0 < (v1.length:Int))) && (decide ((v1.length:Int) < 10)))))) (s := .dat (zi (true && ((decide (0 < (v1.length:Int))) && (decide ((v1.length:Int) < 19)))))) (notI hb)))) (zf _ Z (fun h2 => ?_) (fun h2 => ?_))))
 ·refine tE h2 H fun H=>zb hN Z (qd Z (qe Z (yc (ι:=Bs) (fun i=>[(0,.dat (vstr i)),(5,.dat (vstr v1))]) (fun i=>[]) (fun i=>z2b v1 i=some r) (fun i=>Z) ?_ ?_)))
  ·skip
   refine yc (ι:=Bool) (fun i=>[(0,.dat (vstr v1)),(5,.dat (vstr v1)),(39,.dat (zi i))]) (fun i=>[]) (fun i=>z2a v1 i=some r) (fun i=>Z) ?_ ?_
   ·skip
    refine zk hN Z (qd Z (bE H fun x3 h4 H=>za (vh tyU9 Z Z h4) (za (yn Z Z) (qd Z (yi (j:=3) Z Z (fun h5 => ?_) (fun h5 => ?_) Z)))))
    ·exact u3 h5 H fun h6 H=>ze Z Z h5 (zh (.dat _) Z) (ze Z Z h5 (vh tyU9 Z Z h4) (ze Z Z h5 (yn Z Z) (za (ya Z (bFF h6) Z) ⟨decide ((x3.toNat:Int)=43),H,⟨Z,Z,Z,U⟩,U⟩)))
    ·exact u4 h5 H fun h7 H=>zc Z Z h5 (zc Z Z h5 (zc Z Z h5 (za (yb Z (bTT h7) Z) ⟨true,H,⟨Z,Z,Z,U⟩,U⟩)))
   ·rintro v8 H
    replace H:z2a v1 v8=some r:=H
    unfold z2a at H
    refine zf _ Z (fun h9 => ?_) (fun h9 => ?_)
    ·refine tE h9 H fun H=>zb hN Z (qd Z (bE H fun l10 h11 H=>za (kh tyU9 Z Z Z h11) (qe Z (zb hN Z (qd Z (za (wl tyU9 Z) (za (zw Z Z) (zf _ Z (fun h12 => ?_) (fun h12 => ?_)))))))))
     ·refine tE h12 H fun H=>zb hN Z (za (yg (u':=verr 2) (ur (show Tryz.prog.underlying 325=some (.int .i64) from by kernel_rfl) Z) Z) ?_)
      refine qe Z (qe Z (zg ?_))
      cases H
      exact ⟨U,.inl Z,.inl Z,U⟩
     ·exact fE h12 H fun H=>zl ⟨l10,H,⟨Z,Z,U⟩,U⟩
    ·exact fE h9 H fun H=>zl ⟨v1,H,⟨Z,Z,U⟩,U⟩
  ·rintro v13 H
   replace H:z2b v1 v13=some r:=H
   unfold z2b at H
   refine zb hN Z (qe Z (zd (zb hN Z (qd Z (za (x5w (C:=wc) tyU9 Yt tyU5 (fun _=>Z) Z) (za (yk Yt Z) (qd Z (zu (gE H fun h17 H=>qq (fun (k15:Nat) (s:Int)=>[(5,.dat (vstr v1)),(6,.dat (vint s)),(47,.dat (vlst (List.map wc (jd v13)))),(48,.dat (vint ((jd v13).length:Int))),(49,.dat (vint (k15:Int)))]) (fun (k15:Nat) (s:Int)=>[]) 0 H ⟨Z,Z,Z,Z,Z,U⟩ U (fun _ _=>Z) ?_ ?_)))))))))
   ·rintro v14 H
    replace H:z2c v1 v14=some r:=H
    unfold z2c at H
    refine zb hN Z (za (zw Z Z) (zd (zf _ Z (fun h=>(lt_t h).elim) (fun h => ?_))))
    refine yp (yc (ι:=Int) (fun i=>[(6,.dat (vint i))]) (fun i=>[]) (fun i=>z19 i=some r) (fun i=>Z) ?_ ?_)
    ·skip
     refine zb hN Z (qd Z (bE H fun x19 h20 H=>za (vh tyU9 Z Z h20) (za (yn Z Z) (zf _ Z (fun h21 => ?_) (fun h21 => ?_)))))
     ·exact tE h21 H fun H=>zk hN Z (qd Z (gE H fun h22 H=>za (w3u Z h22) (qe Z ⟨(-v14),H,⟨Z,U⟩,U⟩)))
     ·exact fE h21 H fun H=>zl ⟨v14,H,⟨Z,U⟩,U⟩
    ·rintro v23 H
     replace H:z19 v23=some r:=H
     unfold z19 at H
     refine zb hN Z (qd Z (qe Z (qe Z (zg ?_))))
     cases H
     exact ⟨U,.inl Z,.inl Z,U⟩
   ·rintro k15 x18 v14 q16 h24 h25 H hq16
    replace H:z5n k15 x18 v14=some q16:=H
    unfold z5n at H
    refine zb hN Z (za (zw Z Z) (zd (zf _ Z (fun h => ?_) (fun h=>(lt_f h24 h).elim))))
    refine zl (zd (zu (zb hN Z (za (qp x4y (fun _=>Z) Z Z h25) (za (yr tyS5 Z (ym h25) Z) (qe Z (zb hN Z (qd Z (za (yl _ Z Z (.inr (.inl ⟨Z,Z⟩))) (qe Z (zd (zb hN Z (qd Z (za (qh Z Z) (zf _ Z (fun h26 => ?_) (fun h26 => ?_))))))))))))))))
    ·refine tE h26 H fun H=>zb hN Z (za (yg (u':=verr 2) (ur (show Tryz.prog.underlying 325=some (.int .i64) from by kernel_rfl) Z) Z) ?_)
     refine qe Z (qe Z (zg ?_))
     replace H:=retl H hq16
     cases H
     exact ⟨U,.inl Z,.inl Z,U⟩
    ·exact fE h26 H fun H=>zl (zk hN Z (qd Z (za (yl _ Z Z (.inr (.inr ⟨Z,Z⟩))) (qd Z (za (jh tyU5 tyU3 Z) (za (yl _ Z Z (.inl ⟨Z,Z⟩)) (qe Z (zk hN Z (za (qi Z Z (by omega)) (qd Z ⟨_,yw H,⟨Z,Z,Z,Z,Z,U⟩,U⟩))))))))))
 ·refine fE h2 H fun H=>zl (zb hN Z (qd Z (bE H fun r27 h28 H=>za (zo (v0p v1 10 0 r27 h28) ⟨.inl Z,.inl Z,.inl Z,U⟩) (qd Z (za (ye Z Z) (za (ye Z Z) (qe Z (qe Z (zb hN Z (qd Z (qd Z (qe Z (qe Z (zg ?_))))))))))))))
  cases H
  exact ⟨U,.inl Z,.inl Z,U⟩
theorem x73 (fn s:Bs) (base bits e r:Int) (H:y9x fn s base bits e=some r):Fn Tryz.prog 253 [vstr fn,vstr s,vint base,vint bits,verr e] (zr [verr r]):=by
 obtain ⟨⟨h1,h2,h3⟩,h4⟩:=gif H
 cases h4
 refine Yp (by kernel_rfl) fun M w vs hM h => ?_
 rcases h3 with rfl | rfl
 ·have hv:=ug (us:=[.string ⟨fn.toArray⟩,.string ⟨s.toArray⟩,.int .i64 base,.int .i64 bits,.iface 325 (.int .i64 2)]) h
  subst hv
  obtain ⟨tp,p,hc⟩:=v6a hM
  refine (Tryz.strconv_toError_syntax ⟨fn.toArray⟩ ⟨s.toArray⟩ base bits (.iface tp p) w (by simp [ByteArray.size]; omega) hc (.inr ⟨tp,p,Z⟩)).mono ?_
  rintro e w' ⟨N,rfl,_,_,hb⟩
  exact ⟨_,Z,⟨_,_,Z⟩,Kp.of_below hb⟩
 ·have hv:=ug (us:=[.string ⟨fn.toArray⟩,.string ⟨s.toArray⟩,.int .i64 base,.int .i64 bits,.iface 325 (.int .i64 1)]) h
  subst hv
  obtain ⟨tp,p,hc⟩:=v6b hM
  refine (Tryz.strconv_toError_range ⟨fn.toArray⟩ ⟨s.toArray⟩ base bits (.iface tp p) w (by simp [ByteArray.size]; omega) hc (.inr ⟨tp,p,Z⟩)).mono ?_
  rintro e w' ⟨N,rfl,_,_,hb⟩
  exact ⟨_,Z,⟨_,_,Z⟩,Kp.of_below hb⟩
theorem w9b (s1:Bs) (r:(Int×Int)) (H:Wq s1=some r):Fn Tryz.prog 238 [vstr s1] (zr [vint r.1,verr r.2]):=by
 refine ⟨by kernel_rfl,zx (us:=[vint r.1,verr r.2]) Tryz.func238 Z Z Z Z fun X hN => ?_⟩
 unfold Wq at H
 refine zb hN Z (qe Z (qe Z (zb hN Z (qd Z (bE H fun r2 h3 H=>za (zo (v0r s1 r2 h3) ⟨.inl Z,U⟩) (qd Z (za (ye Z Z) (za (ye Z Z) (qe Z (qe Z (zd (zb hN Z (qd Z (za (y2j (n:=r2.2) (show Tryz.prog.underlying 197=some (.interface (Tryz.prog.methodsAt 197)) from by kernel_rfl) Z) ?_))))))))))))))
 refine zf _ Z (fun h4 => ?_) (fun h4 => ?_)
 ·refine tE h4 H fun H=>zb hN Z (qd Z (qd Z (qd Z (bE H fun r5 h6 H=>za (zo (x73 [65,116,111,105] s1 0 0 r2.2 r5 h6) ⟨.inl Z,.inl Z,.inl Z,.inl Z,.inl Z,U⟩) (qe Z (qe Z (zg ?_)))))))
  cases H
  exact ⟨U,.inl Z,.inl Z,U⟩
 ·refine fE h4 H fun H=>zl (zb hN Z (qd Z (qe Z (qe Z (zg ?_)))))
  cases H
  exact ⟨U,.inl Z,.inl Z,U⟩
theorem x02 (s1:Bs) (most2:Int) (r:(Int×Bool)) (H:Wu s1 most2=some r):Fn Tryz.prog 195 [vstr s1,vint most2] (zr [vint r.1,zi r.2]):=by
 refine ⟨by kernel_rfl,zx (us:=[vint r.1,zi r.2]) Tryz.func195 Z Z Z Z fun X hN => ?_⟩
 unfold Wu at H
 refine zb hN Z (qe Z (qe Z (zb hN Z (qd Z (bE H fun r3 h4 H=>za (zo (w81 s1 [45] r3 h4) ⟨.inl Z,.inl Z,U⟩) (qe Z (zd (yc (ι:=Bool) (fun i=>[(0,.dat (vstr s1)),(6,.dat (vstr r3)),(28,.dat (zi i))]) (fun i=>[]) (fun i=>uv s1 r3 i=some r) (fun i=>Z) ?_ ?_))))))))
 ·skip
  refine zk hN Z (qd Z (za (vz Z Z) (qd Z (yi (j:=2) Z Z (fun h5 => ?_) (fun h5 => ?_) Z))))
  ·refine u3 h5 H fun h6 H=>ze Z Z h5 (zh (.dat _) Z) (ze Z Z h5 (wl tyU9 Z) (ze Z Z h5 (zh (.dat _) Z) (ze Z Z h5 (qh Z Z) (za (ya Z (bFF h6) Z) (qd Z (yi (j:=8) Z Z (fun h7 => ?_) (fun h7 => ?_) Z))))))
   ·refine u3 h7 H fun h8 H=>ze Z Z h7 (zh (.dat _) Z) (bE H fun x9 h10 H=>ze Z Z h7 (vh tyU9 Z Z h10) (ze Z Z h7 (yn Z Z) (ze Z Z h7 (zh (.dat _) Z) (yi (j:=12) Z Z (fun h11 => ?_) (fun h11 => ?_) Z))))
    ·exact u1 h11 H fun h12 H=>ze Z Z h11 (zh (.dat _) Z) (ze Z Z h11 (js Z Z) (ze Z Z h7 (yb Z (bTT h12) Z) (za (ya Z (bFF h8) Z) ⟨decide (s1≠[48]),H,⟨Z,Z,Z,U⟩,U⟩)))
    ·exact u2 h11 H fun h13 H=>zc Z Z h11 (zc Z Z h11 (ze Z Z h7 (ya Z (bFF h13) Z) (za (ya Z (bFF h8) Z) ⟨false,H,⟨Z,Z,Z,U⟩,U⟩)))
   ·exact u4 h7 H fun h14 H=>zc Z Z h7 (zc Z Z h7 (zc Z Z h7 (zc Z Z h7 (yx Z Z (yx Z Z (zc Z Z h7 (za (yb Z (bTT h14) Z) ⟨true,H,⟨Z,Z,Z,U⟩,U⟩)))))))
  ·exact u4 h5 H fun h15 H=>zc Z Z h5 (zc Z Z h5 (zc Z Z h5 (zc Z Z h5 (za (yb Z (bTT h15) Z) (qd Z (zc Z Z Z (zc Z Z Z (zc Z Z Z (zc Z Z Z (yx Z Z (yx Z Z (zc Z Z Z (za (yb Z Z Z) ⟨true,H,⟨Z,Z,Z,U⟩,U⟩)))))))))))))
 ·rintro v16 H
  replace H:uv s1 r3 v16=some r:=H
  unfold uv at H
  refine zf _ Z (fun h17 => ?_) (fun h17 => ?_)
  ·refine tE h17 H fun H=>zb hN Z (qe Z (qe Z (zg ?_)))
   cases H
   exact ⟨U,.inl Z,.inl Z,U⟩
  ·refine fE h17 H fun H=>zl (zd (zb hN Z (qe Z (zu (gE H fun h20 H=>qq (fun (i18:Nat) (s:Unit)=>[(0,.dat (vstr s1)),(6,.dat (vstr r3)),(7,.dat (vint (i18:Int)))]) (fun (i18:Nat) (s:Unit)=>[]) () H ⟨Z,Z,Z,U⟩ U (fun _ _=>Z) ?_ ?_)))))
   ·rintro ⟨⟩ H
    replace H:z5g s1=some r:=H
    unfold z5g at H
    refine zd (zb hN Z (qd Z (qd Z (za (wl tyU9 Z) (za (zw Z Z) (zf _ Z (fun h=>(lt_t h).elim) (fun h => ?_)))))))
    refine yp (zb hN Z (qd Z (bE H fun r22 h23 H=>za (zo (w9b s1 r22 h23) ⟨.inl Z,U⟩) (qd Z (za (ye Z Z) (za (ye Z Z) (qe Z (qe Z (zd (wg mixed hN Z Z (qd Z (qd Z (za (w4f (n:=r22.2) (show Tryz.prog.underlying 197=some (.interface (Tryz.prog.methodsAt 197)) from by kernel_rfl) Z) ?_)))))))))))))
    refine qe Z (qe Z ⟨Z,?_⟩)
    refine zg ?_
    cases H
    exact ⟨U,.inl Z,.inl Z,U⟩
   ·rintro i18 x21 ⟨⟩ q19 h24 h25 H hq19
    replace H:z90 i18 x21=some q19:=H
    unfold z90 at H
    refine zd (zb hN Z (qd Z (qd Z (za (wl tyU9 Z) (za (zw Z Z) (zf _ Z (fun h => ?_) (fun h=>(lt_f h24 h).elim)))))))
    refine zl (zd (zu (yc (ι:=Bool) (fun i=>[(0,.dat (vstr s1)),(6,.dat (vstr r3)),(7,.dat (vint (i18:Int))),(44,.dat (zi i))]) (fun i=>[]) (fun i=>z91 i=some q19) (fun i=>Z) ?_ ?_)))
    ·skip
     refine zk hN Z (qd Z (qd Z (za (vh tyU9 Z Z h25) (za (zw Z Z) (qd Z (yi (j:=4) Z Z (fun h26 => ?_) (fun h26 => ?_) Z))))))
     ·exact u3 h26 H fun h27 H=>ze Z Z h26 (zh (.dat _) Z) (ze Z Z h26 (zh (.dat _) Z) (ze Z Z h26 (vh tyU9 Z Z h25) (ze Z Z h26 (qh Z Z) (za (ya Z (bFF h27) Z) ⟨decide (57 < (x21.toNat:Int)),H,⟨Z,Z,Z,Z,U⟩,U⟩))))
     ·exact u4 h26 H fun h28 H=>zc Z Z h26 (zc Z Z h26 (zc Z Z h26 (zc Z Z h26 (za (yb Z (bTT h28) Z) ⟨true,H,⟨Z,Z,Z,Z,U⟩,U⟩))))
    ·rintro v29 H
     replace H:z91 v29=some q19:=H
     unfold z91 at H
     refine zf _ Z (fun h30 => ?_) (fun h30 => ?_)
     ·refine tE h30 H fun H=>zb hN Z (qe Z (qe Z (zg ?_)))
      replace H:=retl H hq19
      cases H
      exact ⟨U,.inl Z,.inl Z,U⟩
     ·exact fE h30 H fun H=>zl (zk hN Z (qd Z (za (qi Z Z (by omega)) (qe Z ⟨_,yw H,⟨Z,Z,Z,U⟩,U⟩))))
theorem x8i (s1:Bs) (r:(Int×Bool)) (H:z87 s1=some r):Fn Tryz.prog 139 [vstr s1] (zr [vint r.1,zi r.2]):=by
 refine ⟨by kernel_rfl,zx (us:=[vint r.1,zi r.2]) Tryz.func139 Z Z Z Z fun X hN => ?_⟩
 unfold z87 at H
 refine zb hN Z (qe Z (qe Z (zb hN Z (qd Z (bE H fun r2 h3 H=>za (zo (x02 s1 9 r2 h3) ⟨.inl Z,.inl Z,U⟩) (za (ye Z Z) (za (ye Z Z) (qe Z (qe Z (zg ?_))))))))))
 cases H
 exact ⟨U,.inl Z,.inl Z,U⟩
theorem w99 (s1:Bs) (r:(Bool)) (H:y95 s1=some r):Fn Tryz.prog 138 [vstr s1] (zr [zi r]):=by
 refine ⟨by kernel_rfl,zx (us:=[zi r]) Tryz.func138 Z Z Z Z fun X hN => ?_⟩
 unfold y95 at H
 refine zb hN Z (qe Z (zd (zb hN Z (qd Z (za (wl tyU9 Z) (qd Z (zu (gE H fun h4 H=>qq (fun (k2:Nat) (s:Unit)=>[(0,.dat (vstr s1)),(5,.dat (vint (s1.length:Int))),(6,.dat (vint (k2:Int)))]) (fun (k2:Nat) (s:Unit)=>[]) () H ⟨Z,Z,Z,U⟩ U (fun _ _=>Z) ?_ ?_))))))))
 ·rintro ⟨⟩ H
  replace H:y9i s1=some r:=H
  unfold y9i at H
  refine zb hN Z (za (zw Z Z) (zd (zf _ Z (fun h=>(lt_t h).elim) (fun h => ?_))))
  refine yp (yc (ι:=Bool) (fun i=>[(2,.dat (zi i))]) (fun i=>[]) (fun i=>z1f i=some r) (fun i=>Z) ?_ ?_)
  ·skip
   refine zk hN Z (qd Z (za (js Z Z) (qd Z (yi (j:=2) Z Z (fun h6 => ?_) (fun h6 => ?_) Z))))
   ·refine u1 h6 H fun h7 H=>ze Z Z h6 (zh (.dat _) Z) (ze Z Z h6 (wl tyU9 Z) (ze Z Z h6 (vq Z Z) (za (yb Z (bTT h7) Z) (qd Z (yi (j:=7) Z Z (fun h8 => ?_) (fun h8 => ?_) Z)))))
    ·refine u1 h8 H fun h9 H=>ze Z Z h8 (zh (.dat _) Z) (bE H fun x10 h11 H=>ze Z Z h8 (vh tyU9 Z Z h11) (ze Z Z h8 (qj Z Z) (za (yb Z (bTT h9) Z) (qd Z (yi (j:=12) Z Z (fun h12 => ?_) (fun h12 => ?_) Z)))))
     ·exact u1 h12 H fun h13 H=>ze Z Z h12 (zh (.dat _) Z) (ze Z Z h12 (zh (.dat _) Z) (ze Z Z h12 (wl tyU9 Z) (ze Z Z h12 (yl _ Z Z (.inr (.inl ⟨Z,Z⟩))) (bE H fun x14 h15 H=>ze Z Z h12 (uq tyU9 Z Z h15) (ze Z Z h12 (qj Z Z) (za (yb Z (bTT h13) Z) (qe Z ⟨decide ((x14.toNat:Int)≠45),H,⟨Z,U⟩,U⟩)))))))
     ·exact u2 h12 H fun h16 H=>zc Z Z h12 (zc Z Z h12 (zc Z Z h12 (zc Z Z h12 (zc Z Z h12 (zc Z Z h12 (za (ya Z (bFF h16) Z) (qe Z ⟨false,H,⟨Z,U⟩,U⟩)))))))
    ·exact u2 h8 H fun h17 H=>zc Z Z h8 (zc Z Z h8 (zc Z Z h8 (za (ya Z (bFF h17) Z) (qd Z (zc Z Z Z (zc Z Z Z (zc Z Z Z (zc Z Z Z (zc Z Z Z (zc Z Z Z (za (ya Z Z Z) (qe Z ⟨false,H,⟨Z,U⟩,U⟩))))))))))))
   ·exact u2 h6 H fun h18 H=>zc Z Z h6 (zc Z Z h6 (zc Z Z h6 (za (ya Z (bFF h18) Z) (qd Z (zc Z Z Z (zc Z Z Z (zc Z Z Z (za (ya Z Z Z) (qd Z (zc Z Z Z (zc Z Z Z (zc Z Z Z (zc Z Z Z (zc Z Z Z (zc Z Z Z (za (ya Z Z Z) (qe Z ⟨false,H,⟨Z,U⟩,U⟩)))))))))))))))))
  ·rintro v19 H
   replace H:z1f v19=some r:=H
   unfold z1f at H
   refine zg ?_
   cases H
   exact ⟨U,.inl Z,U⟩
 ·rintro k2 x5 ⟨⟩ q3 h20 h21 H hq3
  replace H:y9h k2 x5=some q3:=H
  unfold y9h at H
  refine zb hN Z (za (zw Z Z) (zd (zf _ Z (fun h => ?_) (fun h=>(lt_f h20 h).elim))))
  refine zl (zd (zu (zb hN Z (qd Z (qe Z (yc (ι:=Bool) (fun i=>[(0,.dat (vstr s1)),(5,.dat (vint (s1.length:Int))),(6,.dat (vint (k2:Int))),(26,.dat (zi i))]) (fun i=>[]) (fun i=>z3z i=some q3) (fun i=>Z) ?_ ?_))))))
  ·skip
   refine zk hN Z (qd Z (qd Z (za (vh tyU9 Z Z h21) (bE H fun r22 h23 H=>za (zo (x01 (x5.toNat:Int) r22 h23) ⟨.inl Z,U⟩) (za (yv Z) (qd Z (yi (j:=5) Z Z (fun h24 => ?_) (fun h24 => ?_) Z)))))))
   ·refine u1 h24 H fun h25 H=>ze Z Z h24 (zh (.dat _) Z) (ze Z Z h24 (zh (.dat _) Z) (ze Z Z h24 (vh tyU9 Z Z h21) (bE H fun r26 h27 H=>ze Z Z h24 (zo (y4u (x5.toNat:Int) r26 h27) ⟨.inl Z,U⟩) (ze Z Z h24 (yv Z) (za (yb Z (bTT h25) Z) (qd Z (yi (j:=12) Z Z (fun h28 => ?_) (fun h28 => ?_) Z)))))))
    ·exact u1 h28 H fun h29 H=>ze Z Z h28 (zh (.dat _) Z) (ze Z Z h28 (zh (.dat _) Z) (ze Z Z h28 (vh tyU9 Z Z h21) (ze Z Z h28 (qj Z Z) (za (yb Z (bTT h29) Z) ⟨decide ((x5.toNat:Int)≠45),H,⟨Z,Z,Z,Z,U⟩,U⟩))))
    ·exact u2 h28 H fun h30 H=>zc Z Z h28 (zc Z Z h28 (zc Z Z h28 (zc Z Z h28 (za (ya Z (bFF h30) Z) ⟨false,H,⟨Z,Z,Z,Z,U⟩,U⟩))))
   ·exact u2 h24 H fun h31 H=>zc Z Z h24 (zc Z Z h24 (zc Z Z h24 (zc Z Z h24 (zc Z Z h24 (za (ya Z (bFF h31) Z) (qd Z (zc Z Z Z (zc Z Z Z (zc Z Z Z (zc Z Z Z (za (ya Z Z Z) ⟨false,H,⟨Z,Z,Z,Z,U⟩,U⟩)))))))))))
  ·rintro v32 H
   replace H:z3z v32=some q3:=H
   unfold z3z at H
   refine zf _ Z (fun h33 => ?_) (fun h33 => ?_)
   ·refine tE h33 H fun H=>zb hN Z (qe Z (zg ?_))
    replace H:=retl H hq3
    cases H
    exact ⟨U,.inl Z,U⟩
   ·exact fE h33 H fun H=>zl (zk hN Z (za (qi Z Z (by omega)) (qd Z ⟨_,yw H,⟨Z,Z,Z,U⟩,U⟩)))
theorem v0a (s1:Bs) (r:(Bool)) (H:z4t s1=some r):Fn Tryz.prog 77 [vstr s1] (zr [zi r]):=by
 refine ⟨by kernel_rfl,zx (us:=[zi r]) Tryz.func77 Z Z Z Z fun X hN => ?_⟩
 unfold z4t at H
 refine zb hN Z (qe Z (zb hN Z (qd Z (bE H fun r2 h3 H=>za (zo (x0u s1 [58] r2 h3) ⟨.inl Z,.inl Z,U⟩) (qd Z (za (ye Z Z) (za (ye Z Z) (za (ye Z Z) (qe Z (qe Z (qe Z (zd (zb hN Z (qd Z (bE H fun r4 h5 H=>za (zo (Qm r2.1 [46] r4 h5) ⟨.inl Z,.inl Z,U⟩) (za (yk qr Z) (qd Z (zu (gE H fun h8 H=>qq (fun (k6:Nat) (s:Unit)=>[(0,.dat (vstr s1)),(4,.dat (vstr r2.2.1)),(5,.dat (zi r2.2.2)),(17,.dat (vlst (List.map zt r4))),(18,.dat (vint (r4.length:Int))),(19,.dat (vint (k6:Int)))]) (fun (k6:Nat) (s:Unit)=>[]) () H ⟨Z,Z,Z,Z,Z,Z,U⟩ U (fun _ _=>Z) ?_ ?_)))))))))))))))))))
 ·rintro ⟨⟩ H
  replace H:y3j s1 r2=some r:=H
  unfold y3j at H
  refine zb hN Z (za (zw Z Z) (zd (zf _ Z (fun h=>(lt_t h).elim) (fun h => ?_))))
  refine yp (zb hN Z (qd Z (bE H fun r10 h11 H=>za (zo (x8i r2.2.1 r10 h11) ⟨.inl Z,U⟩) (qd Z (za (ye Z Z) (za (ye Z Z) (qe Z (qe Z (yc (ι:=Bool) (fun i=>[(2,.dat (zi i))]) (fun i=>[]) (fun i=>z1g i=some r) (fun i=>Z) ?_ ?_)))))))))
  ·skip
   refine zk hN Z (qd Z (za (wl tyU9 Z) (za (vq Z Z) (qd Z (yi (j:=3) Z Z (fun h12 => ?_) (fun h12 => ?_) Z)))))
   ·refine u1 h12 H fun h13 H=>ze Z Z h12 (zh (.dat _) Z) (ze Z Z h12 (yv Z) (ze Z Z h12 (zh (.dat _) Z) (yi (j:=6) Z Z (fun h14 => ?_) (fun h14 => ?_) Z)))
    ·refine u3 h14 H fun h15 H=>ze Z Z h14 (zh (.dat _) Z) (ze Z Z h14 (zh (.dat _) Z) (yi (j:=8) Z Z (fun h16 => ?_) (fun h16 => ?_) Z))
     ·exact u1 h16 H fun h17 H=>ze Z Z h16 (zh (.dat _) Z) (bE H fun r18 h19 H=>ze Z Z h16 (zo (ue r10.1 1 65535 r18 h19) ⟨.inl Z,.inl Z,.inl Z,U⟩) (ze Z Z h16 (yv Z) (ze Z Z h14 (yb Z (bTT h17) Z) (ze Z Z h12 (ya Z (bFF h15) Z) (za (yb Z (bTT h13) Z) (qe Z ⟨!r18,H,⟨Z,U⟩,U⟩))))))
     ·exact u2 h16 H fun h20 H=>zc Z Z h16 (zc Z Z h16 (zc Z Z h16 (ze Z Z h14 (ya Z (bFF h20) Z) (ze Z Z h12 (ya Z (bFF h15) Z) (za (yb Z (bTT h13) Z) (qe Z ⟨false,H,⟨Z,U⟩,U⟩))))))
    ·exact u4 h14 H fun h21 H=>zc Z Z h14 (zc Z Z h14 (yx Z Z (yx Z Z (yx Z Z (zc Z Z h14 (ze Z Z h12 (yb Z (bTT h21) Z) (za (yb Z (bTT h13) Z) (qe Z ⟨true,H,⟨Z,U⟩,U⟩))))))))
   ·exact u2 h12 H fun h22 H=>zc Z Z h12 (zc Z Z h12 (zc Z Z h12 (yx Z Z (yx Z Z (yx Z Z (yx Z Z (yx Z Z (yx Z Z (zc Z Z h12 (za (ya Z (bFF h22) Z) (qe Z ⟨false,H,⟨Z,U⟩,U⟩)))))))))))
  ·rintro v23 H
   replace H:z1g v23=some r:=H
   unfold z1g at H
   refine zg ?_
   cases H
   exact ⟨U,.inl Z,U⟩
 ·rintro k6 x9 ⟨⟩ q7 h24 h25 H hq7
  replace H:y3i k6 x9=some q7:=H
  unfold y3i at H
  refine zb hN Z (za (zw Z Z) (zd (zf _ Z (fun h => ?_) (fun h=>(lt_f h24 h).elim))))
  refine zl (zd (zu (zb hN Z (za (qp wv (fun _=>Z) Z Z h25) (za (yr tyS9 Z (ym h25) Z) (qe Z (zb hN Z (qd Z (bE H fun r26 h27 H=>za (zo (w99 x9 r26 h27) ⟨.inl Z,U⟩) (za (yv Z) (zf _ Z (fun h28 => ?_) (fun h28 => ?_))))))))))))
  ·refine tE h28 H fun H=>zb hN Z (qe Z (zg ?_))
   replace H:=retl H hq7
   cases H
   exact ⟨U,.inl Z,U⟩
  ·exact fE h28 H fun H=>zl (zk hN Z (za (qi Z Z (by omega)) (qd Z ⟨_,yw H,⟨Z,Z,Z,Z,Z,Z,U⟩,U⟩)))
theorem x00 (s1:Bs) (low2:Int) (high3:Int) (r:(Bool)) (H:z1x s1 low2 high3=some r):Fn Tryz.prog 140 [vstr s1,vval (.int .u8 low2),vval (.int .u8 high3)] (zr [zi r]):=by
 refine ⟨by kernel_rfl,zx (us:=[zi r]) Tryz.func140 Z Z Z Z fun X hN => ?_⟩
 unfold z1x at H
 refine zb hN Z (qe Z (zd (zb hN Z (qd Z (za (wl tyU9 Z) (qd Z (zu (gE H fun h6 H=>qq (fun (k4:Nat) (s:Unit)=>[(0,.dat (vstr s1)),(1,.dat (vval (.int .u8 low2))),(2,.dat (vval (.int .u8 high3))),(9,.dat (vint (s1.length:Int))),(10,.dat (vint (k4:Int)))]) (fun (k4:Nat) (s:Unit)=>[]) () H ⟨Z,Z,Z,Z,Z,U⟩ U (fun _ _=>Z) ?_ ?_))))))))
 ·rintro ⟨⟩ H
  replace H:y3h=some r:=H
  unfold y3h at H
  refine zb hN Z (za (zw Z Z) (zd (zf _ Z (fun h=>(lt_t h).elim) (fun h => ?_))))
  refine yp (zb hN Z (qe Z (zg ?_)))
  cases H
  exact ⟨U,.inl Z,U⟩
 ·rintro k4 x7 ⟨⟩ q5 h8 h9 H hq5
  replace H:y3g low2 high3 k4 x7=some q5:=H
  unfold y3g at H
  refine zb hN Z (za (zw Z Z) (zd (zf _ Z (fun h => ?_) (fun h=>(lt_f h8 h).elim))))
  refine zl (zd (zu (zb hN Z (qd Z (qe Z (yc (ι:=Bool) (fun i=>[(0,.dat (vstr s1)),(1,.dat (vval (.int .u8 low2))),(2,.dat (vval (.int .u8 high3))),(9,.dat (vint (s1.length:Int))),(10,.dat (vint (k4:Int))),(24,.dat (zi i))]) (fun i=>[]) (fun i=>z3y i=some q5) (fun i=>Z) ?_ ?_))))))
  ·skip
   refine zk hN Z (qd Z (qd Z (za (vh tyU9 Z Z h9) (qd Z (za (zw Z Z) (qd Z (yi (j:=5) Z Z (fun h10 => ?_) (fun h10 => ?_) Z)))))))
   ·exact u3 h10 H fun h11 H=>ze Z Z h10 (zh (.dat _) Z) (ze Z Z h10 (zh (.dat _) Z) (ze Z Z h10 (vh tyU9 Z Z h9) (ze Z Z h10 (zh (.dat _) Z) (ze Z Z h10 (qh Z Z) (za (ya Z (bFF h11) Z) ⟨decide (high3 < (x7.toNat:Int)),H,⟨Z,Z,Z,Z,Z,Z,U⟩,U⟩)))))
   ·exact u4 h10 H fun h12 H=>zc Z Z h10 (zc Z Z h10 (zc Z Z h10 (zc Z Z h10 (zc Z Z h10 (za (yb Z (bTT h12) Z) ⟨true,H,⟨Z,Z,Z,Z,Z,Z,U⟩,U⟩)))))
  ·rintro v13 H
   replace H:z3y v13=some q5:=H
   unfold z3y at H
   refine zf _ Z (fun h14 => ?_) (fun h14 => ?_)
   ·refine tE h14 H fun H=>zb hN Z (qe Z (zg ?_))
    replace H:=retl H hq5
    cases H
    exact ⟨U,.inl Z,U⟩
   ·exact fE h14 H fun H=>zl (zk hN Z (za (qi Z Z (by omega)) (qd Z ⟨_,yw H,⟨Z,Z,Z,Z,Z,U⟩,U⟩)))
theorem w87 (s p:Bs) (r:Bool) (H:z8m s p=some r):Fn Tryz.prog 141 [vstr s,vstr p] (zr [zi r]):=by
 unfold z8m at H
 obtain ⟨⟨⟨h1,h2⟩,h3,h4⟩,h5⟩:=gif H
 cases h5
 refine Yp (by kernel_rfl) fun M w vs hM h => ?_
 have hv:=ug (us:=[.string ⟨s.toArray⟩,.string ⟨p.toArray⟩]) h
 subst hv
 refine (Tryz.strings_ContainsAny_laid ⟨s.toArray⟩ ⟨p.toArray⟩ w (by simp [ByteArray.size]; omega) (by simp [ByteArray.size]; omega) (fun j b hb=>z6c h3 j b (by simpa using hb)) (fun j b hb=>z6c h4 j b (by simpa using hb))).mono ?_
 rintro e w' ⟨rfl,hb⟩
 exact ⟨_,Z,Z,Kp.of_below hb⟩

theorem x8f (s1:Bs) (r:(Int)) (H:z1y s1=some r):Fn Tryz.prog 78 [vstr s1] (zr [vint r]):=by
 refine ⟨by kernel_rfl,zx (us:=[vint r]) Tryz.func78 Z Z Z Z fun X hN => ?_⟩
 unfold z1y at H
 refine zb hN Z (qe Z (zd (yc (ι:=Bool) (fun i=>[(19,.dat (zi i))]) (fun i=>[]) (fun i=>Wl i=some r) (fun i=>Z) ?_ ?_)))
 ·skip
  refine zk hN Z (qd Z (za (wl tyU9 Z) (za (qh Z Z) (qd Z (yi (j:=3) Z Z (fun h2 => ?_) (fun h2 => ?_) Z)))))
  ·refine u3 h2 H fun h3 H=>ze Z Z h2 (zh (.dat _) Z) (bE H fun r4 h5 H=>ze Z Z h2 (zo (x72 s1 [47] r4 h5) ⟨.inl Z,.inl Z,U⟩) (ze Z Z h2 (yv Z) (za (ya Z (bFF h3) Z) (qd Z (yi (j:=8) Z Z (fun h6 => ?_) (fun h6 => ?_) Z)))))
   ·refine u3 h6 H fun h7 H=>ze Z Z h6 (zh (.dat _) Z) (bE H fun r8 h9 H=>ze Z Z h6 (zo (x00 s1 33 126 r8 h9) ⟨.inl Z,.inl Z,.inl Z,U⟩) (ze Z Z h6 (yv Z) (za (ya Z (bFF h7) Z) (qd Z (yi (j:=13) Z Z (fun h10 => ?_) (fun h10 => ?_) Z)))))
    ·exact u3 h10 H fun h11 H=>ze Z Z h10 (zh (.dat _) Z) (bE H fun r12 h13 H=>ze Z Z h10 (zo (w87 s1 [63,35] r12 h13) ⟨.inl Z,.inl Z,U⟩) (za (ya Z (bFF h11) Z) ⟨r12,H,⟨Z,U⟩,U⟩))
    ·exact u4 h10 H fun h14 H=>zc Z Z h10 (zc Z Z h10 (za (yb Z (bTT h14) Z) ⟨true,H,⟨Z,U⟩,U⟩))
   ·exact u4 h6 H fun h15 H=>zc Z Z h6 (zc Z Z h6 (zc Z Z h6 (za (yb Z (bTT h15) Z) (qd Z (zc Z Z Z (zc Z Z Z (za (yb Z Z Z) ⟨true,H,⟨Z,U⟩,U⟩)))))))
  ·exact u4 h2 H fun h16 H=>zc Z Z h2 (zc Z Z h2 (zc Z Z h2 (za (yb Z (bTT h16) Z) (qd Z (zc Z Z Z (zc Z Z Z (zc Z Z Z (za (yb Z Z Z) (qd Z (zc Z Z Z (zc Z Z Z (za (yb Z Z Z) ⟨true,H,⟨Z,U⟩,U⟩))))))))))))
 ·rintro v17 H
  replace H:Wl v17=some r:=H
  unfold Wl at H
  refine zf _ Z (fun h18 => ?_) (fun h18 => ?_)
  ·refine tE h18 H fun H=>zb hN Z (qe Z (zg ?_))
   cases H
   exact ⟨U,.inl Z,U⟩
  ·refine fE h18 H fun H=>zl (zb hN Z (qe Z (zg ?_)))
   cases H
   exact ⟨U,.inl Z,U⟩
theorem w88 (s p:Bs) (r:Bool) (H:y3w s p=some r):Fn Tryz.prog 142 [vstr s,vstr p] (zr [zi r]):=by
 unfold y3w at H
 obtain ⟨h1,h2⟩:=gif H
 cases h2
 refine Yp (by kernel_rfl) fun M w vs hM h => ?_
 have hv:=ug (us:=[.string ⟨s.toArray⟩,.string ⟨p.toArray⟩]) h
 subst hv
 obtain ⟨m,hm⟩:=y9k hM
 refine (Tryz.strings_Contains ⟨s.toArray⟩ ⟨p.toArray⟩ m w (by simp [ByteArray.size]; omega) hm).mono ?_
 rintro e w' ⟨rfl,rfl⟩
 exact ⟨_,Z,Z,Kp.refl _ _⟩

theorem w93 (s1:Bs) (r:(Int)) (H:z8z s1=some r):Fn Tryz.prog 79 [vstr s1] (zr [vint r]):=by
 refine ⟨by kernel_rfl,zx (us:=[vint r]) Tryz.func79 Z Z Z Z fun X hN => ?_⟩
 unfold z8z at H
 refine zb hN Z (qe Z (zd (yc (ι:=Bool) (fun i=>[(14,.dat (zi i))]) (fun i=>[]) (fun i=>z1e i=some r) (fun i=>Z) ?_ ?_)))
 ·skip
  refine zk hN Z (qd Z (za (wl tyU9 Z) (za (qh Z Z) (qd Z (yi (j:=3) Z Z (fun h2 => ?_) (fun h2 => ?_) Z)))))
  ·refine u3 h2 H fun h3 H=>ze Z Z h2 (zh (.dat _) Z) (bE H fun r4 h5 H=>ze Z Z h2 (zo (x00 s1 33 126 r4 h5) ⟨.inl Z,.inl Z,.inl Z,U⟩) (ze Z Z h2 (yv Z) (za (ya Z (bFF h3) Z) (qd Z (yi (j:=8) Z Z (fun h6 => ?_) (fun h6 => ?_) Z)))))
   ·exact u3 h6 H fun h7 H=>ze Z Z h6 (zh (.dat _) Z) (bE H fun r8 h9 H=>ze Z Z h6 (zo (w88 s1 [35] r8 h9) ⟨.inl Z,.inl Z,U⟩) (za (ya Z (bFF h7) Z) ⟨r8,H,⟨Z,U⟩,U⟩))
   ·exact u4 h6 H fun h10 H=>zc Z Z h6 (zc Z Z h6 (za (yb Z (bTT h10) Z) ⟨true,H,⟨Z,U⟩,U⟩))
  ·exact u4 h2 H fun h11 H=>zc Z Z h2 (zc Z Z h2 (zc Z Z h2 (za (yb Z (bTT h11) Z) (qd Z (zc Z Z Z (zc Z Z Z (za (yb Z Z Z) ⟨true,H,⟨Z,U⟩,U⟩)))))))
 ·rintro v12 H
  replace H:z1e v12=some r:=H
  unfold z1e at H
  refine zf _ Z (fun h13 => ?_) (fun h13 => ?_)
  ·refine tE h13 H fun H=>zb hN Z (qe Z (zg ?_))
   cases H
   exact ⟨U,.inl Z,U⟩
  ·refine fE h13 H fun H=>zl (zb hN Z (qe Z (zg ?_)))
   cases H
   exact ⟨U,.inl Z,U⟩
theorem w8y (s1:Bs) (c2:Int) (r:(Bs)) (H:Wn s1 c2=some r):Fn Tryz.prog 199 [vstr s1,vval (.int .u8 c2)] (zr [vstr r]):=by
 refine ⟨by kernel_rfl,zx (us:=[vstr r]) Tryz.func199 Z Z Z Z fun X hN => ?_⟩
 unfold Wn at H
 refine zb hN Z (qe Z (yc (ι:=Bs) (fun i=>[(0,.dat (vstr i))]) (fun i=>[]) (fun i=>z7a i=some r) (fun i=>Z) ?_ ?_))
 ·skip
  refine zu (kj (fun (s:Bs)=>[(0,.dat (vstr s)),(1,.dat (vval (.int .u8 c2)))]) (fun (s:Bs)=>[]) s1 H ⟨Z,Z,U⟩ U (fun _=>Z) ?_)
  rintro s3 q4 H hq4
  replace H:z69 c2 s3=some q4:=H
  unfold z69 at H
  refine zd (yc (ι:=Bool) (fun i=>[(0,.dat (vstr s3)),(1,.dat (vval (.int .u8 c2))),(16,.dat (zi i))]) (fun i=>[]) (fun i=>z0z s3 i=some q4) (fun i=>Z) ?_ ?_)
  ·skip
   refine zk hN Z (qd Z (za (wl tyU9 Z) (za (qh Z Z) (qd Z (yi (j:=3) Z Z (fun h5 => ?_) (fun h5 => ?_) Z)))))
   ·exact u1 h5 H fun h6 H=>ze Z Z h5 (zh (.dat _) Z) (ze Z Z h5 (zh (.dat _) Z) (ze Z Z h5 (wl tyU9 Z) (ze Z Z h5 (yl _ Z Z (.inr (.inl ⟨Z,Z⟩))) (bE H fun x7 h8 H=>ze Z Z h5 (uq tyU9 Z Z h8) (ze Z Z h5 (zh (.dat _) Z) (ze Z Z h5 (yn Z Z) (za (yb Z (bTT h6) Z) ⟨decide ((x7.toNat:Int)=c2),H,⟨Z,Z,Z,U⟩,U⟩)))))))
   ·exact u2 h5 H fun h9 H=>zc Z Z h5 (zc Z Z h5 (zc Z Z h5 (zc Z Z h5 (zc Z Z h5 (zc Z Z h5 (zc Z Z h5 (za (ya Z (bFF h9) Z) ⟨false,H,⟨Z,Z,Z,U⟩,U⟩)))))))
  ·rintro v10 H
   replace H:z0z s3 v10=some q4:=H
   unfold z0z at H
   refine zf _ Z (fun h11 => ?_) (fun h11 => ?_)
   ·exact tE h11 H fun H=>zl (zu (zk hN Z (qd Z (qd Z (za (wl tyU9 Z) (za (yl _ Z Z (.inr (.inl ⟨Z,Z⟩))) (bE H fun l12 h13 H=>za (kh tyU9 Z Z Z h13) (qe Z ⟨_,yw H,⟨Z,Z,U⟩,U⟩))))))))
   ·refine fE h11 H fun H=>yp ?_
    replace H:=outl H hq4
    exact ⟨s3,H,⟨Z,U⟩,U⟩
 ·rintro s14 H
  replace H:z7a s14=some r:=H
  unfold z7a at H
  refine zb hN Z (qd Z (qe Z (zg ?_)))
  cases H
  exact ⟨U,.inl Z,U⟩
theorem w8z (s1:Bs) (c2:Int) (r:(Bs)) (H:z1k s1 c2=some r):Fn Tryz.prog 198 [vstr s1,vval (.int .u8 c2)] (zr [vstr r]):=by
 refine ⟨by kernel_rfl,zx (us:=[vstr r]) Tryz.func198 Z Z Z Z fun X hN => ?_⟩
 unfold z1k at H
 refine zb hN Z (qe Z (yc (ι:=Bs) (fun i=>[(0,.dat (vstr i))]) (fun i=>[]) (fun i=>z7c i=some r) (fun i=>Z) ?_ ?_))
 ·skip
  refine zu (kj (fun (s:Bs)=>[(0,.dat (vstr s)),(1,.dat (vval (.int .u8 c2)))]) (fun (s:Bs)=>[]) s1 H ⟨Z,Z,U⟩ U (fun _=>Z) ?_)
  rintro s3 q4 H hq4
  replace H:z7b c2 s3=some q4:=H
  unfold z7b at H
  refine zd (yc (ι:=Bool) (fun i=>[(0,.dat (vstr s3)),(1,.dat (vval (.int .u8 c2))),(13,.dat (zi i))]) (fun i=>[]) (fun i=>z00 s3 i=some q4) (fun i=>Z) ?_ ?_)
  ·skip
   refine zk hN Z (qd Z (za (wl tyU9 Z) (za (qh Z Z) (qd Z (yi (j:=3) Z Z (fun h5 => ?_) (fun h5 => ?_) Z)))))
   ·exact u1 h5 H fun h6 H=>ze Z Z h5 (zh (.dat _) Z) (bE H fun x7 h8 H=>ze Z Z h5 (vh tyU9 Z Z h8) (ze Z Z h5 (zh (.dat _) Z) (ze Z Z h5 (yn Z Z) (za (yb Z (bTT h6) Z) ⟨decide ((x7.toNat:Int)=c2),H,⟨Z,Z,Z,U⟩,U⟩))))
   ·exact u2 h5 H fun h9 H=>zc Z Z h5 (zc Z Z h5 (zc Z Z h5 (zc Z Z h5 (za (ya Z (bFF h9) Z) ⟨false,H,⟨Z,Z,Z,U⟩,U⟩))))
  ·rintro v10 H
   replace H:z00 s3 v10=some q4:=H
   unfold z00 at H
   refine zf _ Z (fun h11 => ?_) (fun h11 => ?_)
   ·exact tE h11 H fun H=>zl (zu (zk hN Z (qd Z (bE H fun l12 h13 H=>za (kh tyU9 Z Z Z h13) (qe Z ⟨_,yw H,⟨Z,Z,U⟩,U⟩)))))
   ·refine fE h11 H fun H=>yp ?_
    replace H:=outl H hq4
    exact ⟨s3,H,⟨Z,U⟩,U⟩
 ·rintro s14 H
  replace H:z7c s14=some r:=H
  unfold z7c at H
  refine zb hN Z (qd Z (qe Z (zg ?_)))
  cases H
  exact ⟨U,.inl Z,U⟩
theorem x0t (s1:Bs) (cutset2:Bs) (r:(Bs)) (H:z1l s1 cutset2=some r):Fn Tryz.prog 143 [vstr s1,vstr cutset2] (zr [vstr r]):=by
 refine ⟨by kernel_rfl,zx (us:=[vstr r]) Tryz.func143 Z Z Z Z fun X hN => ?_⟩
 unfold z1l at H
 refine zb hN Z (qe Z (zd (zb hN Z (qd Z (za (vz Z Z) (qd Z (yu Z Z (fun hc=>zh (.dat _) Z) (yu Z Z (fun hc=>vz (cnd (c:=(!(decide (s1=[])))) hc) Z) (za (vk Z Z (fun hb=>(cnd (c:=(!(decide (s1=[])))) (notI hb)))) (zf _ Z (fun h3 => ?_) (fun h3 => ?_)))))))))))
 ·refine tE h3 H fun H=>zb hN Z (qd Z (qe Z (zg ?_)))
  cases H
  exact ⟨U,.inl Z,U⟩
 ·refine fE h3 H fun H=>zl (zd (yc (ι:=Bool) (fun i=>[(0,.dat (vstr s1)),(1,.dat (vstr cutset2)),(21,.dat (zi i))]) (fun i=>[]) (fun i=>z3g s1 cutset2 i=some r) (fun i=>Z) ?_ ?_))
  ·skip
   refine zk hN Z (qd Z (za (wl tyU9 Z) (za (yn Z Z) (qd Z (yi (j:=3) Z Z (fun h4 => ?_) (fun h4 => ?_) Z)))))
   ·exact u1 h4 H fun h5 H=>ze Z Z h4 (zh (.dat _) Z) (bE H fun x6 h7 H=>ze Z Z h4 (vh tyU9 Z Z h7) (ze Z Z h4 (zw Z Z) (za (yb Z (bTT h5) Z) ⟨decide ((x6.toNat:Int) < 128),H,⟨Z,Z,Z,U⟩,U⟩)))
   ·exact u2 h4 H fun h8 H=>zc Z Z h4 (zc Z Z h4 (zc Z Z h4 (za (ya Z (bFF h8) Z) ⟨false,H,⟨Z,Z,Z,U⟩,U⟩)))
  ·rintro v9 H
   replace H:z3g s1 cutset2 v9=some r:=H
   unfold z3g at H
   refine zf _ Z (fun h10 => ?_) (fun h10 => ?_)
   ·refine tE h10 H fun H=>zd (wg mixed hN Z Z (qd Z (qd Z (bE H fun x11 h12 H=>za (vh tyU9 Z Z h12) (bE H fun r13 h14 H=>za (zo (w8y s1 (x11.toNat:Int) r13 h14) ⟨.inl Z,.inl Z,U⟩) (qd Z (za (vh tyU9 Z Z h12) (bE H fun r15 h16 H=>za (zo (w8z r13 (x11.toNat:Int) r15 h16) ⟨.inl Z,.inl Z,U⟩) (qe Z ⟨Z,?_⟩)))))))))
    refine zg ?_
    cases H
    exact ⟨U,.inl Z,U⟩
   ·refine fE h10 H fun H=>?_
    cases H
theorem x8g (s1:Bs) (r:(Bool)) (H:z1z s1=some r):Fn Tryz.prog 80 [vstr s1] (zr [zi r]):=by
 refine ⟨by kernel_rfl,zx (us:=[zi r]) Tryz.func80 Z Z Z Z fun X hN => ?_⟩
 unfold z1z at H
 refine zb hN Z (qe Z (yc (ι:=Bool) (fun i=>[(2,.dat (zi i))]) (fun i=>[]) (fun i=>z1i i=some r) (fun i=>Z) ?_ ?_))
 ·skip
  refine zk hN Z (qd Z (za (wl tyU9 Z) (za (vq Z Z) (qd Z (yi (j:=3) Z Z (fun h2 => ?_) (fun h2 => ?_) Z)))))
  ·refine u1 h2 H fun h3 H=>ze Z Z h2 (zh (.dat _) Z) (bE H fun r4 h5 H=>ze Z Z h2 (zo (x00 s1 32 126 r4 h5) ⟨.inl Z,.inl Z,.inl Z,U⟩) (za (yb Z (bTT h3) Z) (qd Z (yi (j:=7) Z Z (fun h6 => ?_) (fun h6 => ?_) Z))))
   ·exact u1 h6 H fun h7 H=>ze Z Z h6 (zh (.dat _) Z) (bE H fun r8 h9 H=>ze Z Z h6 (zo (x0t s1 [32] r8 h9) ⟨.inl Z,.inl Z,U⟩) (ze Z Z h6 (zh (.dat _) Z) (ze Z Z h6 (vz Z Z) (za (yb Z (bTT h7) Z) (qe Z ⟨decide (r8=s1),H,⟨Z,U⟩,U⟩)))))
   ·exact u2 h6 H fun h10 H=>zc Z Z h6 (zc Z Z h6 (zc Z Z h6 (zc Z Z h6 (za (ya Z (bFF h10) Z) (qe Z ⟨false,H,⟨Z,U⟩,U⟩)))))
  ·exact u2 h2 H fun h11 H=>zc Z Z h2 (zc Z Z h2 (za (ya Z (bFF h11) Z) (qd Z (zc Z Z Z (zc Z Z Z (zc Z Z Z (zc Z Z Z (za (ya Z Z Z) (qe Z ⟨false,H,⟨Z,U⟩,U⟩)))))))))
 ·rintro v12 H
  replace H:z1i v12=some r:=H
  unfold z1i at H
  refine zg ?_
  cases H
  exact ⟨U,.inl Z,U⟩
theorem x8h (l1:(List ql)) (r:(Int)) (H:z4w l1=some r):Fn Tryz.prog 81 [vlst (List.map kw l1)] (zr [vint r]):=by
 refine ⟨by kernel_rfl,zx (us:=[vint r]) Tryz.func81 Z Z Z Z fun X hN => ?_⟩
 unfold z4w at H
 refine zb hN Z (qe Z (zd (zb hN Z (qd Z (za (yk y6o Z) (za (qh Z Z) (zf _ Z (fun h2 => ?_) (fun h2 => ?_))))))))
 ·refine tE h2 H fun H=>zb hN Z (qe Z (zg ?_))
  cases H
  exact ⟨U,.inl Z,U⟩
 ·refine fE h2 H fun H=>zl (zd (zb hN Z (qd Z (za (yk y6o Z) (qd Z (zu (gE H fun h5 H=>qq (fun (k3:Nat) (s:Unit)=>[(8,.dat (vlst (List.map kw l1))),(9,.dat (vint (l1.length:Int))),(10,.dat (vint (k3:Int)))]) (fun (k3:Nat) (s:Unit)=>[]) () H ⟨Z,Z,Z,U⟩ U (fun _ _=>Z) ?_ ?_)))))))
  ·rintro ⟨⟩ H
   replace H:y3p=some r:=H
   unfold y3p at H
   refine zb hN Z (za (zw Z Z) (zd (zf _ Z (fun h=>(lt_t h).elim) (fun h => ?_))))
   refine yp (zb hN Z (qe Z (zg ?_)))
   cases H
   exact ⟨U,.inl Z,U⟩
  ·rintro k3 x6 ⟨⟩ q4 h7 h8 H hq4
   replace H:y3o k3 x6=some q4:=H
   unfold y3o at H
   refine zb hN Z (za (zw Z Z) (zd (zf _ Z (fun h => ?_) (fun h=>(lt_f h7 h).elim))))
   refine zl (zd (zu (zb hN Z (za (qp x4x (fun _=>Z) Z Z h8) (za (vg z6n Z (ym h8) Z) (zj (qm 1 y1d Z) Z (zj (yo z6n Z Z Z Z) Z (zd (zb hN Z (za (zn x4k Z) (zm (zp tyS9 Z Z) Z (bE H fun r9 h10 H=>za (zo (y4w x6.Name r9 h10) ⟨.inl Z,U⟩) (za (yv Z) (zf _ Z (fun h11 => ?_) (fun h11 => ?_)))))))))))))))
   ·refine tE h11 H fun H=>zb hN Z (qe Z (zg ?_))
    replace H:=retl H hq4
    cases H
    exact ⟨U,.inl Z,U⟩
   ·refine fE h11 H fun H=>zl (zb hN Z (za (zn x4j Z) (zm (zp tyS9 Z Z) Z (bE H fun r12 h13 H=>za (zo (x8g x6.Value r12 h13) ⟨.inl Z,U⟩) (za (yv Z) (zf _ Z (fun h14 => ?_) (fun h14 => ?_)))))))
    ·refine tE h14 H fun H=>zb hN Z (qe Z (zg ?_))
     replace H:=retl H hq4
     cases H
     exact ⟨U,.inl Z,U⟩
    ·exact fE h14 H fun H=>zl (zk hN Z (za (qi Z Z (by omega)) (qd Z ⟨_,yw H,⟨Z,Z,Z,U⟩,U⟩)))
theorem v0f (r1:xl) (r:(Int)) (H:z86 r1=some r):Fn Tryz.prog 31 [vagg (x3f r1)] (zr [vint r]):=by
 refine ⟨by kernel_rfl,zx (us:=[vint r]) Tryz.func31 Z Z Z Z fun X hN => ?_⟩
 unfold z86 at H
 refine zb hN Z (zj (qu 1 Z) Z (qe Z (zd (zb hN Z (za (zn y61 Z) (zm (zp tyS3 Z Z) Z (bE H fun r2 h3 H=>za (zo (y4x r1.At r2 h3) ⟨.inl Z,U⟩) (za (yv Z) (zf _ Z (fun h4 => ?_) (fun h4 => ?_))))))))))
 ·refine tE h4 H fun H=>zb hN Z (qe Z (zg ?_))
  cases H
  exact ⟨U,.inl Z,U⟩
 ·refine fE h4 H fun H=>zl (zd (zb hN Z (za (zn w12 Z) (zm (zp tyS9 Z Z) Z (bE H fun r5 h6 H=>za (zo (y4w r1.Method r5 h6) ⟨.inl Z,U⟩) (za (yv Z) (zf _ Z (fun h7 => ?_) (fun h7 => ?_))))))))
  ·refine tE h7 H fun H=>zb hN Z (qe Z (zg ?_))
   cases H
   exact ⟨U,.inl Z,U⟩
  ·refine fE h7 H fun H=>zl (zd (yc (ι:=Bool) (fun i=>[(1,.ptr 1 0),(33,.dat (zi i))]) (fun i=>[(1,.box none 57 [.dat (vint r1.At),.dat (vstr r1.Method),.dat (vstr r1.Host),.dat (vstr r1.Path),.dat (vstr r1.Query),.dat (vstr r1.From),.dat (vlst (List.map kw r1.Headers)),.dat (vstr r1.Body)])]) (fun i=>Wm r1 i=some r) (fun i=>Z) ?_ ?_))
   ·skip
    refine zk hN Z (za (zn w11 Z) (zm (zp tyS9 Z Z) Z (bE H fun r8 h9 H=>za (zo (v0a r1.Host r8 h9) ⟨.inl Z,U⟩) (za (yv Z) (qd Z (yi (j:=4) Z Z (fun h10 => ?_) (fun h10 => ?_) Z))))))
    ·refine u3 h10 H fun h11 H=>ze Z Z h10 (zn w10 Z) (qz Z Z h10 (zp tyS9 Z Z) Z (bE H fun r12 h13 H=>ze Z Z h10 (zo (x8f r1.Path r12 h13) ⟨.inl Z,U⟩) (ze Z Z h10 (qj Z Z) (za (ya Z (bFF h11) Z) (qd Z (yi (j:=10) Z Z (fun h14 => ?_) (fun h14 => ?_) Z))))))
     ·refine u3 h14 H fun h15 H=>ze Z Z h14 (zn w1z Z) (qz Z Z h14 (zp tyS9 Z Z) Z (bE H fun r16 h17 H=>ze Z Z h14 (zo (w93 r1.Query r16 h17) ⟨.inl Z,U⟩) (ze Z Z h14 (qj Z Z) (za (ya Z (bFF h15) Z) (qd Z (yi (j:=16) Z Z (fun h18 => ?_) (fun h18 => ?_) Z))))))
      ·exact u3 h18 H fun h19 H=>ze Z Z h18 (zn w1y Z) (qz Z Z h18 (zp tyS9 Z Z) Z (bE H fun r20 h21 H=>ze Z Z h18 (zo (x8g r1.From r20 h21) ⟨.inl Z,U⟩) (ze Z Z h18 (yv Z) (za (ya Z (bFF h19) Z) ⟨!r20,H,⟨Z,Z,U⟩,⟨Z,U⟩⟩))))
      ·exact u4 h18 H fun h22 H=>zc Z Z h18 (zc Z Z h18 (zc Z Z h18 (zc Z Z h18 (za (yb Z (bTT h22) Z) ⟨true,H,⟨Z,Z,U⟩,⟨Z,U⟩⟩))))
     ·exact u4 h14 H fun h23 H=>zc Z Z h14 (zc Z Z h14 (zc Z Z h14 (zc Z Z h14 (za (yb Z (bTT h23) Z) (qd Z (zc Z Z Z (zc Z Z Z (zc Z Z Z (zc Z Z Z (za (yb Z Z Z) ⟨true,H,⟨Z,Z,U⟩,⟨Z,U⟩⟩))))))))))
    ·exact u4 h10 H fun h24 H=>zc Z Z h10 (zc Z Z h10 (zc Z Z h10 (zc Z Z h10 (za (yb Z (bTT h24) Z) (qd Z (zc Z Z Z (zc Z Z Z (zc Z Z Z (zc Z Z Z (za (yb Z Z Z) (qd Z (zc Z Z Z (zc Z Z Z (zc Z Z Z (zc Z Z Z (za (yb Z Z Z) ⟨true,H,⟨Z,Z,U⟩,⟨Z,U⟩⟩))))))))))))))))
   ·rintro v25 H
    replace H:Wm r1 v25=some r:=H
    unfold Wm at H
    refine zf _ Z (fun h26 => ?_) (fun h26 => ?_)
    ·refine tE h26 H fun H=>zb hN Z (qe Z (zg ?_))
     cases H
     exact ⟨U,.inl Z,U⟩
    ·refine fE h26 H fun H=>zl (zd (zb hN Z (za (zn y60 Z) (zm (zp z2u Z Z) Z (bE H fun r27 h28 H=>za (zo (x8h r1.Headers r27 h28) ⟨.inl Z,U⟩) (qe Z (zb hN Z (qd Z (za (qj Z Z) (zf _ Z (fun h29 => ?_) (fun h29 => ?_)))))))))))
     ·refine tE h29 H fun H=>zb hN Z (qd Z (qe Z (zg ?_)))
      cases H
      exact ⟨U,.inl Z,U⟩
     ·refine fE h29 H fun H=>zl (zd (zb hN Z (za (zn w1x Z) (zm (zp tyS9 Z Z) Z (za (wl tyU9 Z) (za (qh Z Z) (zf _ Z (fun h30 => ?_) (fun h30 => ?_))))))))
      ·refine tE h30 H fun H=>zb hN Z (qe Z (zg ?_))
       cases H
       exact ⟨U,.inl Z,U⟩
      ·refine fE h30 H fun H=>zl (zb hN Z (qe Z (zg ?_)))
       cases H
       exact ⟨U,.inl Z,U⟩
theorem w84 (s t:Bs) (r:Bool) (H:y3v s t=some r):Fn Tryz.prog 144 [vstr s,vstr t] (zr [zi r]):=by
 unfold y3v at H
 obtain ⟨⟨h1,h2,h3⟩,h4⟩:=gif H
 cases h4
 refine Yp (by kernel_rfl) fun M w vs hM h => ?_
 have hv:=ug (us:=[.string ⟨s.toArray⟩,.string ⟨t.toArray⟩]) h
 subst hv
 refine (Tryz.strings_EqualFold ⟨s.toArray⟩ ⟨t.toArray⟩ w (by simp [ByteArray.size]; omega) (fun j b hb=>z6c h2 j b (by simpa using hb)) (fun j b hb=>z6c h3 j b (by simpa using hb))).mono ?_
 rintro e w' ⟨rfl,rfl⟩
 exact ⟨_,Z,Z,Kp.refl _ _⟩

theorem w98 (h1:ql) (name2:Bs) (r:(Bool)) (H:z83 h1 name2=some r):Fn Tryz.prog 82 [vagg (kw h1),vstr name2] (zr [zi r]):=by
 refine ⟨by kernel_rfl,zx (us:=[zi r]) Tryz.func82 Z Z Z Z fun X hN => ?_⟩
 unfold z83 at H
 refine zb hN Z (zj (qu 1 Z) Z (qe Z (zb hN Z (za (zn x4k Z) (zm (zp tyS9 Z Z) Z (qd Z (bE H fun r3 h4 H=>za (zo (w84 h1.Name name2 r3 h4) ⟨.inl Z,.inl Z,U⟩) (qe Z (zg ?_)))))))))
 cases H
 exact ⟨U,.inl Z,U⟩
theorem y4v (l1:(List ql)) (name2:Bs) (r:((List Bs))) (H:uu l1 name2=some r):Fn Tryz.prog 32 [vlst (List.map kw l1),vstr name2] (zr [vlst (List.map zt r)]):=by
 refine ⟨by kernel_rfl,zx (us:=[vlst (List.map zt r)]) Tryz.func32 Z Z Z Z fun X hN => ?_⟩
 unfold uu at H
 refine zb hN Z (qe Z (zb hN Z (qe Z (zd (zb hN Z (qd Z (za (yk y6o Z) (qd Z (zu (uy 5 1 9 1 Z Z Z (gE H fun h6 H=>qq (fun (k4:Nat) (s:(List Bs))=>[(1,.dat (vstr name2)),(5,.row 1 s.length),(8,.dat (vlst (List.map kw l1))),(9,.dat (vint (l1.length:Int))),(10,.dat (vint (k4:Int)))]) (fun (k4:Nat) (s:(List Bs))=>[(1,.row 9 1 (List.map zt s))]) [] H ⟨Z,Z,Z,Z,Z,U⟩ ⟨Z,U⟩ (fun _ _=>Z) ?_ ?_)))))))))))
 ·rintro l3 H
  replace H:y3k l3=some r:=H
  unfold y3k at H
  refine zb hN Z (za (zw Z Z) (zd (zf _ Z (fun h=>(lt_t h).elim) (fun h => ?_))))
  refine yp (zb hN Z (za (zh (.row _ _) Z) (za (wm (.row _ _) Z) (zg ?_))))
  cases H
  exact ⟨U,Yx Z Z,U⟩
 ·rintro k4 x7 l3 q5 h8 h9 H hq5
  replace H:z1h name2 k4 x7 l3=some q5:=H
  unfold z1h at H
  refine zb hN Z (za (zw Z Z) (zd (zf _ Z (fun h => ?_) (fun h=>(lt_f h8 h).elim))))
  refine zl (yc (ι:=(List Bs)) (fun i=>[(1,.dat (vstr name2)),(5,.row 1 i.length),(8,.dat (vlst (List.map kw l1))),(9,.dat (vint (l1.length:Int))),(10,.dat (vint (k4:Int)))]) (fun i=>[(1,.row 9 1 (List.map zt i))]) (fun i=>z32 i=some q5) (fun i=>Z) ?_ ?_)
  ·skip
   refine zu (zb hN Z (za (qp x4x (fun _=>Z) Z Z h9) (za (vg z6n Z (ym h9) Z) (zj (qm 2 y1d Z) Z (zj (yo z6n Z Z Z Z) Z (zb hN Z (zm (qc z6n Z Z Z) Z (qd Z (bE H fun r10 h11 H=>za (zo (w98 x7 name2 r10 h11) ⟨.inl Z,.inl Z,U⟩) (zf _ Z (fun h12 => ?_) (fun h12 => ?_)))))))))))
   ·refine tE h12 H fun H=>zk hN Z (za (zh (.row _ _) Z) (za (zn x4j Z) (zm (zp tyS9 Z Z) Z (za (yg (u':=vlst (List.map zt [x7.Value])) (qy [[_]] vn ⟨Z,.inl ⟨_,Z,Z,Z⟩,Z,U⟩ Z Z) Z) (gE H fun h13 H=>zj (ko vn (fun _=>Z) Z Z Z ⟨by simp,by first | (simp; done) | simpa using h13⟩ Z) Z ?_)))))
    exact za (wm (.row _ _) Z) ⟨(l3++[x7.Value]),H,⟨Z,Z,Z,Z,Z,U⟩,⟨Z,U⟩⟩
   ·exact fE h12 H fun H=>zl ⟨l3,H,⟨Z,Z,Z,Z,Z,U⟩,⟨Z,U⟩⟩
  ·rintro out14 H
   replace H:z32 out14=some q5:=H
   unfold z32 at H
   exact zk hN Z (za (qi Z Z (by omega)) (qd Z ⟨_,yw H,⟨Z,Z,Z,Z,Z,U⟩,⟨Z,U⟩⟩))
theorem v0j (s1:Bs) (v2:Bs) (r:(Bool)) (H:x0a s1 v2=some r):Fn Tryz.prog 185 [vstr s1,vstr v2] (zr [zi r]):=by
 refine ⟨by kernel_rfl,zx (us:=[zi r]) Tryz.func185 Z Z Z Z fun X hN => ?_⟩
 unfold x0a at H
 refine zb hN Z (qe Z (yc (ι:=Bool) (fun i=>[(4,.dat (zi i))]) (fun i=>[]) (fun i=>z97 i=some r) (fun i=>Z) ?_ ?_))
 ·skip
  refine zk hN Z (qd Z (za (wl tyU9 Z) (qd Z (za (wl tyU9 Z) (za (vt Z Z) (qd Z (yi (j:=5) Z Z (fun h3 => ?_) (fun h3 => ?_) Z)))))))
  ·exact u1 h3 H fun h4 H=>ze Z Z h3 (zh (.dat _) Z) (ze Z Z h3 (zh (.dat _) Z) (ze Z Z h3 (wl tyU9 Z) (bE H fun l5 h6 H=>ze Z Z h3 (kh tyU9 Z Z Z h6) (ze Z Z h3 (zh (.dat _) Z) (ze Z Z h3 (vz Z Z) (za (yb Z (bTT h4) Z) (qe Z ⟨decide (l5=v2),H,⟨Z,U⟩,U⟩)))))))
  ·exact u2 h3 H fun h7 H=>zc Z Z h3 (zc Z Z h3 (zc Z Z h3 (zc Z Z h3 (zc Z Z h3 (zc Z Z h3 (za (ya Z (bFF h7) Z) (qe Z ⟨false,H,⟨Z,U⟩,U⟩)))))))
 ·rintro v8 H
  replace H:z97 v8=some r:=H
  unfold z97 at H
  refine zg ?_
  cases H
  exact ⟨U,.inl Z,U⟩
theorem v0k (s1:Bs) (v2:Bs) (r:(Bs×Bool)) (H:x0b s1 v2=some r):Fn Tryz.prog 145 [vstr s1,vstr v2] (zr [vstr r.1,zi r.2]):=by
 refine ⟨by kernel_rfl,zx (us:=[vstr r.1,zi r.2]) Tryz.func145 Z Z Z Z fun X hN => ?_⟩
 unfold x0b at H
 refine zb hN Z (qe Z (qe Z (zd (zb hN Z (qd Z (qd Z (bE H fun r3 h4 H=>za (zo (v0j s1 v2 r3 h4) ⟨.inl Z,.inl Z,U⟩) (za (yv Z) (zf _ Z (fun h5 => ?_) (fun h5 => ?_))))))))))
 ·refine tE h5 H fun H=>zb hN Z (qd Z (qe Z (qe Z (zg ?_))))
  cases H
  exact ⟨U,.inl Z,.inl Z,U⟩
 ·refine fE h5 H fun H=>zl (zb hN Z (qd Z (qd Z (za (wl tyU9 Z) (bE H fun l6 h7 H=>za (kh tyU9 Z Z Z h7) (qe Z (qe Z (zg ?_))))))))
  cases H
  exact ⟨U,.inl Z,.inl Z,U⟩
theorem w86 (s1:Bs) (v2:Bs) (r:(Bs×Bool)) (H:y9v s1 v2=some r):Fn Tryz.prog 83 [vstr s1,vstr v2] (zr [vstr r.1,zi r.2]):=by
 refine ⟨by kernel_rfl,zx (us:=[vstr r.1,zi r.2]) Tryz.func83 Z Z Z Z fun X hN => ?_⟩
 unfold y9v at H
 refine zb hN Z (qe Z (qe Z (zb hN Z (qd Z (qd Z (bE H fun r3 h4 H=>za (zo (v0k s1 v2 r3 h4) ⟨.inl Z,.inl Z,U⟩) (za (ye Z Z) (za (ye Z Z) (qe Z (qe Z (zg ?_)))))))))))
 cases H
 exact ⟨U,.inl Z,.inl Z,U⟩
theorem w76 (v1:Int) (r:(Int)) (H:y9n v1=some r):Fn Tryz.prog 207 [vint v1] (zr [vint r]):=by
 refine ⟨by kernel_rfl,zx (us:=[vint r]) Tryz.func207 Z Z Z Z fun X hN => ?_⟩
 unfold y9n at H
 refine zb hN Z (qe Z (zd (zb hN Z (qd Z (bE H fun r2 h3 H=>za (zo (y4x v1 r2 h3) ⟨.inl Z,U⟩) (za (yv Z) (zf _ Z (fun h4 => ?_) (fun h4 => ?_))))))))
 ·refine tE h4 H fun H=>zb hN Z (qe Z (zg ?_))
  cases H
  exact ⟨U,.inl Z,U⟩
 ·refine fE h4 H fun H=>zl (zb hN Z (qe Z (zg ?_)))
  cases H
  exact ⟨U,.inl Z,U⟩
theorem w8o (x1:wh) (c2:(List Bs)) (r:(Bool)) (H:y3s x1 c2=some r):Fn Tryz.prog 209 [vagg (um x1),wt [[vlst (List.map zt c2)]] 0 0] (zr [zi r]):=by
 refine ⟨by kernel_rfl,zx (us:=[zi r]) Tryz.func209 Z Z Z Z fun X hN => ?_⟩
 unfold y3s at H
 refine zb hN Z (zj (qu 1 Z) Z (qe Z (zd (wg mixed hN Z Z (za (zn y1t Z) (zm (zp tyS9 Z Z) Z (za (yr vc Z Z Z) (bE H fun x3 h4 H=>za (qp wv (fun _=>Z) Z Z h4) (za (yr tyS9 Z (ym h4) Z) (za (vz Z Z) (qe Z ⟨Z,?_⟩)))))))))))
 refine zg ?_
 cases H
 exact ⟨U,.inl Z,U⟩
end Go.Proofs.YtbndlmnjeofkdacGreatDoor
