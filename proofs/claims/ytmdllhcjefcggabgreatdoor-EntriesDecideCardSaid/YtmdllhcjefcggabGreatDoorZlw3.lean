/- Walks along the models. Printed by a program. -/
import Derived.Test.YtmdllhcjefcggabGreatDoorZlw2
namespace Go.Proofs.YtmdllhcjefcggabGreatDoor
open Go.RowKit
set_option linter.unusedVariables false
set_option maxRecDepth 100000
set_option maxHeartbeats 2000000
theorem w1f (v1:Bs) (r:(Int×Int)) (H:z1f v1=some r):Fn Tryz.prog 188 [vstr v1] (zu [vint r.1,verr r.2]):=by
 refine ⟨by kernel_rfl,yh (us:=[vint r.1,verr r.2]) Tryz.func188 Z Z Z Z fun X hN => ?_⟩
 unfold z1f at H
 refine zb hN Z (qe Z (qe Z (zb hN Z (qd Z (za (qj tyU9 Z) (qe Z (zh (zb hN Z (qd Z (yz (s := .dat (vint (v1.length:Int))) Z Z (fun hc=>zd (.dat _) Z) (yz (s := .dat (ze (decide (0 < (v1.length:Int))))) Z Z (fun hc=>zx Z (cnd (c:=false) (s := .dat (vint (v1.length:Int))) hc)) (yz (s := .dat (ze (decide (0 < (v1.length:Int))))) Z Z (fun hc=>zd (.dat _) (cnd (c:=false) (s := .dat (ze (decide (0 < (v1.length:Int))))) hc)) (wj (s := .dat (vint (v1.length:Int))) (c:=false) (b:=decide (0 < (v1.length:Int))) Z Z (fun hc=>zd (.dat _) Z) (wj (s := .dat (ze (decide ((v1.length:Int) < 10)))) (c:=false) (b:=decide (0 < (v1.length:Int))) Z Z (fun hc=>zx (cnd (c:=(false && (decide (0 < (v1.length:Int))))) (s := .dat (vint (v1.length:Int))) hc) Z) (yz (s := .dat (ze ((decide (0 < (v1.length:Int))) && (decide ((v1.length:Int) < 10))))) Z Z (fun hc=>wm (cnd (c:=false) (s := .dat (ze (decide (0 < (v1.length:Int))))) hc) (fun hb=>(cnd (c:=(false && (decide (0 < (v1.length:Int))))) (s := .dat (ze (decide ((v1.length:Int) < 10)))) (andI hc hb))) Z) (za (wm Z (fun hb=>(cnd (c:=false) (s := .dat (ze ((decide (0 < (v1.length:Int))) && (decide ((v1.length:Int) < 10))))) hb)) Z) (qd Z (yn (s := .dat (ze true)) Z Z (fun hc=>zd (.dat _) Z) (wj (s := .dat (vint (v1.length:Int))) (c:=(!(false && ((decide (0 < (v1.length:Int))) && (decide ((v1.length:Int) < 10)))))) (b:=true) Z Z (fun hc=>zd (.dat _) Z) (wj (s := .dat (ze (decide (0 < (v1.length:Int))))) (c:=(!(false && ((decide (0 < (v1.length:Int))) && (decide ((v1.length:Int) < 10)))))) (b:=true) Z Z (fun hc=>zx Z (cnd (c:=((!(false && ((decide (0 < (v1.length:Int))) && (decide ((v1.length:Int) < 10))))) && true)) (s := .dat (vint (v1.length:Int))) hc)) (wj (s := .dat (ze (decide (0 < (v1.length:Int))))) (c:=(!(false && ((decide (0 < (v1.length:Int))) && (decide ((v1.length:Int) < 10)))))) (b:=true) Z Z (fun hc=>zd (.dat _) (cnd (c:=((!(false && ((decide (0 < (v1.length:Int))) && (decide ((v1.length:Int) < 10))))) && true)) (s := .dat (ze (decide (0 < (v1.length:Int))))) hc)) (wj (s := .dat (vint (v1.length:Int))) (c:=((!(false && ((decide (0 < (v1.length:Int))) && (decide ((v1.length:Int) < 10))))) && true)) (b:=decide (0 < (v1.length:Int))) Z Z (fun hc=>zd (.dat _) Z) (wj (s := .dat (ze (decide ((v1.length:Int) < 19)))) (c:=((!(false && ((decide (0 < (v1.length:Int))) && (decide ((v1.length:Int) < 10))))) && true)) (b:=decide (0 < (v1.length:Int))) Z Z (fun hc=>zx (cnd (c:=(((!(false && ((decide (0 < (v1.length:Int))) && (decide ((v1.length:Int) < 10))))) && true) && (decide (0 < (v1.length:Int))))) (s := .dat (vint (v1.length:Int))) hc) Z) ?_)))))))))))))))))))))))
 refine wj (s := .dat (ze ((decide (0 < (v1.length:Int))) && (decide ((v1.length:Int) < 19))))) (c:=(!(false && ((decide (0 < (v1.length:Int))) && (decide ((v1.length:Int) < 10)))))) (b:=true) Z Z (fun hc=>wm (cnd (c:=((!(false && ((decide (0 < (v1.length:Int))) && (decide ((v1.length:Int) < 10))))) && true)) (s := .dat (ze (decide (0 < (v1.length:Int))))) hc) (fun hb=>(cnd (c:=(((!(false && ((decide (0 < (v1.length:Int))) && (decide ((v1.length:Int) < 10))))) && true) && (decide (0 < (v1.length:Int))))) (s := .dat (ze (decide ((v1.length:Int) < 19)))) (andI hc hb))) Z) (yn (s := .dat (ze (true && ((decide (0 < (v1.length:Int))) && (decide ((v1.length:Int) < 19)))))) Z Z (fun hc=>wm (cnd (c:=(!(false && ((decide (0 < (v1.length:Int))) && (decide ((v1.length:Int) < 10)))))) (s := .dat (ze true)) hc) (fun hb=>(cnd (c:=((!(false && ((decide (0 < (v1.length:Int))) && (decide ((v1.length:Int) < 10))))) && true)) (s := .dat (ze ((decide (0 < (v1.length:Int))) && (decide ((v1.length:Int) < 19))))) (andI hc hb))) Z) (za (wv Z Z (fun hb=>(cnd (c:=(!(false && ((decide (0 < (v1.length:Int))) && (decide ((v1.length:Int) < 10)))))) (s := .dat (ze (true && ((decide (0 < (v1.length:Int))) && (decide ((v1.length:Int) < 19)))))) (notI hb)))) (zg _ Z (fun h2 => ?_) (fun h2 => ?_))))
 ·refine tE h2 H fun H=>zb hN Z (qd Z (qe Z (yd (ι:=Bs) (fun i=>[(0,.dat (vstr i)),(5,.dat (vstr v1))]) (fun i=>[]) (fun i=>z1u v1 i=some r) (fun i=>Z) ?_ ?_)))
  ·skip
   refine yd (ι:=Bool) (fun i=>[(0,.dat (vstr v1)),(5,.dat (vstr v1)),(39,.dat (ze i))]) (fun i=>[]) (fun i=>z1t v1 i=some r) (fun i=>Z) ?_ ?_
   ·skip
    refine zp hN Z (qd Z (bE H fun x3 h4 H=>za (qy tyU9 Z Z h4) (za (qf Z Z) (qd Z (yi (j:=3) Z Z (fun h5 => ?_) (fun h5 => ?_) Z)))))
    ·exact u3 h5 H fun h6 H=>zf Z Z h5 (zd (.dat _) Z) (zf Z Z h5 (qy tyU9 Z Z h4) (zf Z Z h5 (qf Z Z) (za (ye Z (bFF h6) Z) ⟨decide ((x3.toNat:Int)=43),H,⟨Z,Z,Z,U⟩,U⟩)))
    ·exact u4 h5 H fun h7 H=>zc Z Z h5 (zc Z Z h5 (zc Z Z h5 (za (yf Z (bTT h7) Z) ⟨true,H,⟨Z,Z,Z,U⟩,U⟩)))
   ·rintro v8 H
    replace H:z1t v1 v8=some r:=H
    unfold z1t at H
    refine zg _ Z (fun h9 => ?_) (fun h9 => ?_)
    ·refine tE h9 H fun H=>zb hN Z (qd Z (bE H fun l10 h11 H=>za (jc tyU9 Z Z Z h11) (qe Z (zb hN Z (qd Z (za (qj tyU9 Z) (za (zx Z Z) (zg _ Z (fun h12 => ?_) (fun h12 => ?_)))))))))
     ·refine tE h12 H fun H=>zb hN Z (za (ya (u':=verr 2) (ug (show Tryz.prog.underlying 222=some (.int .i64) from by kernel_rfl) Z) Z) ?_)
      refine qe Z (qe Z (zi ?_))
      cases H
      exact ⟨U,.inl Z,.inl Z,U⟩
     ·exact fE h12 H fun H=>zl ⟨l10,H,⟨Z,Z,U⟩,U⟩
    ·exact fE h9 H fun H=>zl ⟨v1,H,⟨Z,Z,U⟩,U⟩
  ·rintro v13 H
   replace H:z1u v1 v13=some r:=H
   unfold z1u at H
   refine zb hN Z (qe Z (zh (zb hN Z (qd Z (za (y9s (C:=ql) tyU9 Qr tyU5 (fun _=>Z) Z) (za (qi Qr Z) (qd Z (zw (gE H fun h17 H=>qw (fun (k15:Nat) (s:Int)=>[(5,.dat (vstr v1)),(6,.dat (vint s)),(47,.dat (vlst (List.map ql (ym v13)))),(48,.dat (vint ((ym v13).length:Int))),(49,.dat (vint (k15:Int)))]) (fun (k15:Nat) (s:Int)=>[]) 0 H ⟨Z,Z,Z,Z,Z,U⟩ U (fun _ _=>Z) ?_ ?_)))))))))
   ·rintro v14 H
    replace H:z1v v1 v14=some r:=H
    unfold z1v at H
    refine zb hN Z (za (zx Z Z) (zh (zg _ Z (fun h=>(lt_t h).elim) (fun h => ?_))))
    refine yt (yd (ι:=Int) (fun i=>[(6,.dat (vint i))]) (fun i=>[]) (fun i=>z1s i=some r) (fun i=>Z) ?_ ?_)
    ·skip
     refine zb hN Z (qd Z (bE H fun x19 h20 H=>za (qy tyU9 Z Z h20) (za (qf Z Z) (zg _ Z (fun h21 => ?_) (fun h21 => ?_)))))
     ·exact tE h21 H fun H=>zp hN Z (qd Z (gE H fun h22 H=>za (y03 Z h22) (qe Z ⟨(-v14),H,⟨Z,U⟩,U⟩)))
     ·exact fE h21 H fun H=>zl ⟨v14,H,⟨Z,U⟩,U⟩
    ·rintro v23 H
     replace H:z1s v23=some r:=H
     unfold z1s at H
     refine zb hN Z (qd Z (qe Z (qe Z (zi ?_))))
     cases H
     exact ⟨U,.inl Z,.inl Z,U⟩
   ·rintro k15 x18 v14 q16 h24 h25 H hq16
    replace H:z5p k15 x18 v14=some q16:=H
    unfold z5p at H
    refine zb hN Z (za (zx Z Z) (zh (zg _ Z (fun h => ?_) (fun h=>(lt_f h24 h).elim))))
    refine zl (zh (zw (zb hN Z (za (we y82 (fun _=>Z) Z Z h25) (za (qu tyS5 Z (qh h25) Z) (qe Z (zb hN Z (qd Z (za (yj _ Z Z (.inr (.inl ⟨Z,Z⟩))) (qe Z (zh (zb hN Z (qd Z (za (wg Z Z) (zg _ Z (fun h26 => ?_) (fun h26 => ?_))))))))))))))))
    ·refine tE h26 H fun H=>zb hN Z (za (ya (u':=verr 2) (ug (show Tryz.prog.underlying 222=some (.int .i64) from by kernel_rfl) Z) Z) ?_)
     refine qe Z (qe Z (zi ?_))
     replace H:=retl H hq16
     cases H
     exact ⟨U,.inl Z,.inl Z,U⟩
    ·exact fE h26 H fun H=>zl (zp hN Z (qd Z (za (yj _ Z Z (.inr (.inr ⟨Z,Z⟩))) (qd Z (za (jn tyU5 tyU3 Z) (za (yj _ Z Z (.inl ⟨Z,Z⟩)) (qe Z (zp hN Z (za (qs Z Z (by omega)) (qd Z ⟨_,yx H,⟨Z,Z,Z,Z,Z,U⟩,U⟩))))))))))
 ·refine fE h2 H fun H=>zl (zb hN Z (qd Z (bE H fun r27 h28 H=>za (zk (w1e v1 10 0 r27 h28) ⟨.inl Z,.inl Z,.inl Z,U⟩) (qd Z (za (yc Z Z) (za (yc Z Z) (qe Z (qe Z (zb hN Z (qd Z (qd Z (qe Z (qe Z (zi ?_))))))))))))))
  cases H
  exact ⟨U,.inl Z,.inl Z,U⟩
theorem x1s (fn s:Bs) (base bits e r:Int) (H:y5y fn s base bits e=some r):Fn Tryz.prog 189 [vstr fn,vstr s,vint base,vint bits,verr e] (zu [verr r]):=by
 obtain ⟨⟨h1,h2,h3⟩,h4⟩:=gif H
 cases h4
 refine Zh (by kernel_rfl) fun M w vs hM h => ?_
 rcases h3 with rfl | rfl
 ·have hv:=kr (us:=[.string ⟨fn.toArray⟩,.string ⟨s.toArray⟩,.int .i64 base,.int .i64 bits,.iface 222 (.int .i64 2)]) h
  subst hv
  obtain ⟨tp,p,hc⟩:=w5b hM
  refine (Tryz.strconv_toError_syntax ⟨fn.toArray⟩ ⟨s.toArray⟩ base bits (.iface tp p) w (by simp [ByteArray.size]; omega) hc (.inr ⟨tp,p,Z⟩)).mono ?_
  rintro e w' ⟨N,rfl,_,_,hb⟩
  exact ⟨_,Z,⟨_,_,Z⟩,Kp.of_below hb⟩
 ·have hv:=kr (us:=[.string ⟨fn.toArray⟩,.string ⟨s.toArray⟩,.int .i64 base,.int .i64 bits,.iface 222 (.int .i64 1)]) h
  subst hv
  obtain ⟨tp,p,hc⟩:=w5c hM
  refine (Tryz.strconv_toError_range ⟨fn.toArray⟩ ⟨s.toArray⟩ base bits (.iface tp p) w (by simp [ByteArray.size]; omega) hc (.inr ⟨tp,p,Z⟩)).mono ?_
  rintro e w' ⟨N,rfl,_,_,hb⟩
  exact ⟨_,Z,⟨_,_,Z⟩,Kp.of_below hb⟩
theorem x1u (s1:Bs) (r:(Int×Int)) (H:Yw s1=some r):Fn Tryz.prog 132 [vstr s1] (zu [vint r.1,verr r.2]):=by
 refine ⟨by kernel_rfl,yh (us:=[vint r.1,verr r.2]) Tryz.func132 Z Z Z Z fun X hN => ?_⟩
 unfold Yw at H
 refine zb hN Z (qe Z (qe Z (zb hN Z (qd Z (bE H fun r2 h3 H=>za (zk (w1f s1 r2 h3) ⟨.inl Z,U⟩) (qd Z (za (yc Z Z) (za (yc Z Z) (qe Z (qe Z (zh (zb hN Z (qd Z (za (z7f (n:=r2.2) (show Tryz.prog.underlying 124=some (.interface (Tryz.prog.methodsAt 124)) from by kernel_rfl) Z) ?_))))))))))))))
 refine zg _ Z (fun h4 => ?_) (fun h4 => ?_)
 ·refine tE h4 H fun H=>zb hN Z (qd Z (qd Z (qd Z (bE H fun r5 h6 H=>za (zk (x1s [65,116,111,105] s1 0 0 r2.2 r5 h6) ⟨.inl Z,.inl Z,.inl Z,.inl Z,.inl Z,U⟩) (qe Z (qe Z (zi ?_)))))))
  cases H
  exact ⟨U,.inl Z,.inl Z,U⟩
 ·refine fE h4 H fun H=>zl (zb hN Z (qd Z (qe Z (qe Z (zi ?_)))))
  cases H
  exact ⟨U,.inl Z,.inl Z,U⟩
theorem w1b (s1:Bs) (most2:Int) (r:(Int×Bool)) (H:z4k s1 most2=some r):Fn Tryz.prog 168 [vstr s1,vint most2] (zu [vint r.1,ze r.2]):=by
 refine ⟨by kernel_rfl,yh (us:=[vint r.1,ze r.2]) Tryz.func168 Z Z Z Z fun X hN => ?_⟩
 unfold z4k at H
 refine zb hN Z (qe Z (qe Z (zb hN Z (qd Z (bE H fun r3 h4 H=>za (zk (x1o s1 [45] r3 h4) ⟨.inl Z,.inl Z,U⟩) (qe Z (zh (yd (ι:=Bool) (fun i=>[(0,.dat (vstr s1)),(6,.dat (vstr r3)),(28,.dat (ze i))]) (fun i=>[]) (fun i=>ul s1 r3 i=some r) (fun i=>Z) ?_ ?_))))))))
 ·skip
  refine zp hN Z (qd Z (za (va Z Z) (qd Z (yi (j:=2) Z Z (fun h5 => ?_) (fun h5 => ?_) Z))))
  ·refine u3 h5 H fun h6 H=>zf Z Z h5 (zd (.dat _) Z) (zf Z Z h5 (qj tyU9 Z) (zf Z Z h5 (zd (.dat _) Z) (zf Z Z h5 (wg Z Z) (za (ye Z (bFF h6) Z) (qd Z (yi (j:=8) Z Z (fun h7 => ?_) (fun h7 => ?_) Z))))))
   ·refine u3 h7 H fun h8 H=>zf Z Z h7 (zd (.dat _) Z) (bE H fun x9 h10 H=>zf Z Z h7 (qy tyU9 Z Z h10) (zf Z Z h7 (qf Z Z) (zf Z Z h7 (zd (.dat _) Z) (yi (j:=12) Z Z (fun h11 => ?_) (fun h11 => ?_) Z))))
    ·exact u1 h11 H fun h12 H=>zf Z Z h11 (zd (.dat _) Z) (zf Z Z h11 (ji Z Z) (zf Z Z h7 (yf Z (bTT h12) Z) (za (ye Z (bFF h8) Z) ⟨decide (s1≠[48]),H,⟨Z,Z,Z,U⟩,U⟩)))
    ·exact u2 h11 H fun h13 H=>zc Z Z h11 (zc Z Z h11 (zf Z Z h7 (ye Z (bFF h13) Z) (za (ye Z (bFF h8) Z) ⟨false,H,⟨Z,Z,Z,U⟩,U⟩)))
   ·exact u4 h7 H fun h14 H=>zc Z Z h7 (zc Z Z h7 (zc Z Z h7 (zc Z Z h7 (yk Z Z (yk Z Z (zc Z Z h7 (za (yf Z (bTT h14) Z) ⟨true,H,⟨Z,Z,Z,U⟩,U⟩)))))))
  ·exact u4 h5 H fun h15 H=>zc Z Z h5 (zc Z Z h5 (zc Z Z h5 (zc Z Z h5 (za (yf Z (bTT h15) Z) (qd Z (zc Z Z Z (zc Z Z Z (zc Z Z Z (zc Z Z Z (yk Z Z (yk Z Z (zc Z Z Z (za (yf Z Z Z) ⟨true,H,⟨Z,Z,Z,U⟩,U⟩)))))))))))))
 ·rintro v16 H
  replace H:ul s1 r3 v16=some r:=H
  unfold ul at H
  refine zg _ Z (fun h17 => ?_) (fun h17 => ?_)
  ·refine tE h17 H fun H=>zb hN Z (qe Z (qe Z (zi ?_)))
   cases H
   exact ⟨U,.inl Z,.inl Z,U⟩
  ·refine fE h17 H fun H=>zl (zh (zb hN Z (qe Z (zw (gE H fun h20 H=>qw (fun (i18:Nat) (s:Unit)=>[(0,.dat (vstr s1)),(6,.dat (vstr r3)),(7,.dat (vint (i18:Int)))]) (fun (i18:Nat) (s:Unit)=>[]) () H ⟨Z,Z,Z,U⟩ U (fun _ _=>Z) ?_ ?_)))))
   ·rintro ⟨⟩ H
    replace H:z5c s1=some r:=H
    unfold z5c at H
    refine zh (zb hN Z (qd Z (qd Z (za (qj tyU9 Z) (za (zx Z Z) (zg _ Z (fun h=>(lt_t h).elim) (fun h => ?_)))))))
    refine yt (zb hN Z (qd Z (bE H fun r22 h23 H=>za (zk (x1u s1 r22 h23) ⟨.inl Z,U⟩) (qd Z (za (yc Z Z) (za (yc Z Z) (qe Z (qe Z (zh (wz mixed hN Z Z (qd Z (qd Z (za (y9p (n:=r22.2) (show Tryz.prog.underlying 124=some (.interface (Tryz.prog.methodsAt 124)) from by kernel_rfl) Z) ?_)))))))))))))
    refine qe Z (qe Z ⟨Z,?_⟩)
    refine zi ?_
    cases H
    exact ⟨U,.inl Z,.inl Z,U⟩
   ·rintro i18 x21 ⟨⟩ q19 h24 h25 H hq19
    replace H:z82 i18 x21=some q19:=H
    unfold z82 at H
    refine zh (zb hN Z (qd Z (qd Z (za (qj tyU9 Z) (za (zx Z Z) (zg _ Z (fun h => ?_) (fun h=>(lt_f h24 h).elim)))))))
    refine zl (zh (zw (yd (ι:=Bool) (fun i=>[(0,.dat (vstr s1)),(6,.dat (vstr r3)),(7,.dat (vint (i18:Int))),(44,.dat (ze i))]) (fun i=>[]) (fun i=>z83 i=some q19) (fun i=>Z) ?_ ?_)))
    ·skip
     refine zp hN Z (qd Z (qd Z (za (qy tyU9 Z Z h25) (za (zx Z Z) (qd Z (yi (j:=4) Z Z (fun h26 => ?_) (fun h26 => ?_) Z))))))
     ·exact u3 h26 H fun h27 H=>zf Z Z h26 (zd (.dat _) Z) (zf Z Z h26 (zd (.dat _) Z) (zf Z Z h26 (qy tyU9 Z Z h25) (zf Z Z h26 (wg Z Z) (za (ye Z (bFF h27) Z) ⟨decide (57 < (x21.toNat:Int)),H,⟨Z,Z,Z,Z,U⟩,U⟩))))
     ·exact u4 h26 H fun h28 H=>zc Z Z h26 (zc Z Z h26 (zc Z Z h26 (zc Z Z h26 (za (yf Z (bTT h28) Z) ⟨true,H,⟨Z,Z,Z,Z,U⟩,U⟩))))
    ·rintro v29 H
     replace H:z83 v29=some q19:=H
     unfold z83 at H
     refine zg _ Z (fun h30 => ?_) (fun h30 => ?_)
     ·refine tE h30 H fun H=>zb hN Z (qe Z (qe Z (zi ?_)))
      replace H:=retl H hq19
      cases H
      exact ⟨U,.inl Z,.inl Z,U⟩
     ·exact fE h30 H fun H=>zl (zp hN Z (qd Z (za (qs Z Z (by omega)) (qe Z ⟨_,yx H,⟨Z,Z,Z,U⟩,U⟩))))
theorem x2l (s1:Bs) (r:(Int×Bool)) (H:z8h s1=some r):Fn Tryz.prog 121 [vstr s1] (zu [vint r.1,ze r.2]):=by
 refine ⟨by kernel_rfl,yh (us:=[vint r.1,ze r.2]) Tryz.func121 Z Z Z Z fun X hN => ?_⟩
 unfold z8h at H
 refine zb hN Z (qe Z (qe Z (zb hN Z (qd Z (bE H fun r2 h3 H=>za (zk (w1b s1 9 r2 h3) ⟨.inl Z,.inl Z,U⟩) (za (yc Z Z) (za (yc Z Z) (qe Z (qe Z (zi ?_))))))))))
 cases H
 exact ⟨U,.inl Z,.inl Z,U⟩
theorem y6j (n1:Int) (low2:Int) (high3:Int) (r:(Bool)) (H:z4j n1 low2 high3=some r):Fn Tryz.prog 122 [vint n1,vint low2,vint high3] (zu [ze r]):=by
 refine ⟨by kernel_rfl,yh (us:=[ze r]) Tryz.func122 Z Z Z Z fun X hN => ?_⟩
 unfold z4j at H
 refine zb hN Z (qe Z (zb hN Z (qd Z (qd Z (za (zx Z Z) (qd Z (yn Z Z (fun hc=>zd (.dat _) Z) (yn Z Z (fun hc=>zd (.dat _) Z) (yn Z Z (fun hc=>wg (cnd (c:=(!(decide (n1 < low2)))) hc) (cnd (c:=(!(decide (n1 < low2)))) hc)) (za (wv Z Z (fun hb=>(cnd (c:=(!(decide (n1 < low2)))) (notI hb)))) (qe Z (zi ?_))))))))))))
 cases H
 exact ⟨U,.inl Z,U⟩
theorem w0z (s1:Bs) (r:(Bool)) (H:y52 s1=some r):Fn Tryz.prog 158 [vstr s1] (zu [ze r]):=by
 refine ⟨by kernel_rfl,yh (us:=[ze r]) Tryz.func158 Z Z Z Z fun X hN => ?_⟩
 unfold y52 at H
 refine zb hN Z (qe Z (zh (zb hN Z (qd Z (za (qj tyU9 Z) (qd Z (zw (gE H fun h4 H=>qw (fun (k2:Nat) (s:Unit)=>[(0,.dat (vstr s1)),(5,.dat (vint (s1.length:Int))),(6,.dat (vint (k2:Int)))]) (fun (k2:Nat) (s:Unit)=>[]) () H ⟨Z,Z,Z,U⟩ U (fun _ _=>Z) ?_ ?_))))))))
 ·rintro ⟨⟩ H
  replace H:y5v s1=some r:=H
  unfold y5v at H
  refine zb hN Z (za (zx Z Z) (zh (zg _ Z (fun h=>(lt_t h).elim) (fun h => ?_))))
  refine yt (yd (ι:=Bool) (fun i=>[(2,.dat (ze i))]) (fun i=>[]) (fun i=>z01 i=some r) (fun i=>Z) ?_ ?_)
  ·skip
   refine zp hN Z (qd Z (za (ji Z Z) (qd Z (yi (j:=2) Z Z (fun h6 => ?_) (fun h6 => ?_) Z))))
   ·refine u1 h6 H fun h7 H=>zf Z Z h6 (zd (.dat _) Z) (zf Z Z h6 (qj tyU9 Z) (zf Z Z h6 (wi Z Z) (za (yf Z (bTT h7) Z) (qd Z (yi (j:=7) Z Z (fun h8 => ?_) (fun h8 => ?_) Z)))))
    ·refine u1 h8 H fun h9 H=>zf Z Z h8 (zd (.dat _) Z) (bE H fun x10 h11 H=>zf Z Z h8 (qy tyU9 Z Z h11) (zf Z Z h8 (qp Z Z) (za (yf Z (bTT h9) Z) (qd Z (yi (j:=12) Z Z (fun h12 => ?_) (fun h12 => ?_) Z)))))
     ·exact u1 h12 H fun h13 H=>zf Z Z h12 (zd (.dat _) Z) (zf Z Z h12 (zd (.dat _) Z) (zf Z Z h12 (qj tyU9 Z) (zf Z Z h12 (yj _ Z Z (.inr (.inl ⟨Z,Z⟩))) (bE H fun x14 h15 H=>zf Z Z h12 (kh tyU9 Z Z h15) (zf Z Z h12 (qp Z Z) (za (yf Z (bTT h13) Z) (qe Z ⟨decide ((x14.toNat:Int)≠45),H,⟨Z,U⟩,U⟩)))))))
     ·exact u2 h12 H fun h16 H=>zc Z Z h12 (zc Z Z h12 (zc Z Z h12 (zc Z Z h12 (zc Z Z h12 (zc Z Z h12 (za (ye Z (bFF h16) Z) (qe Z ⟨false,H,⟨Z,U⟩,U⟩)))))))
    ·exact u2 h8 H fun h17 H=>zc Z Z h8 (zc Z Z h8 (zc Z Z h8 (za (ye Z (bFF h17) Z) (qd Z (zc Z Z Z (zc Z Z Z (zc Z Z Z (zc Z Z Z (zc Z Z Z (zc Z Z Z (za (ye Z Z Z) (qe Z ⟨false,H,⟨Z,U⟩,U⟩))))))))))))
   ·exact u2 h6 H fun h18 H=>zc Z Z h6 (zc Z Z h6 (zc Z Z h6 (za (ye Z (bFF h18) Z) (qd Z (zc Z Z Z (zc Z Z Z (zc Z Z Z (za (ye Z Z Z) (qd Z (zc Z Z Z (zc Z Z Z (zc Z Z Z (zc Z Z Z (zc Z Z Z (zc Z Z Z (za (ye Z Z Z) (qe Z ⟨false,H,⟨Z,U⟩,U⟩)))))))))))))))))
  ·rintro v19 H
   replace H:z01 v19=some r:=H
   unfold z01 at H
   refine zi ?_
   cases H
   exact ⟨U,.inl Z,U⟩
 ·rintro k2 x5 ⟨⟩ q3 h20 h21 H hq3
  replace H:y5u k2 x5=some q3:=H
  unfold y5u at H
  refine zb hN Z (za (zx Z Z) (zh (zg _ Z (fun h => ?_) (fun h=>(lt_f h20 h).elim))))
  refine zl (zh (zw (zb hN Z (qd Z (qe Z (yd (ι:=Bool) (fun i=>[(0,.dat (vstr s1)),(5,.dat (vint (s1.length:Int))),(6,.dat (vint (k2:Int))),(26,.dat (ze i))]) (fun i=>[]) (fun i=>z3r i=some q3) (fun i=>Z) ?_ ?_))))))
  ·skip
   refine zp hN Z (qd Z (qd Z (za (qy tyU9 Z Z h21) (bE H fun r22 h23 H=>za (zk (y6h (x5.toNat:Int) r22 h23) ⟨.inl Z,U⟩) (za (yq Z) (qd Z (yi (j:=5) Z Z (fun h24 => ?_) (fun h24 => ?_) Z)))))))
   ·refine u1 h24 H fun h25 H=>zf Z Z h24 (zd (.dat _) Z) (zf Z Z h24 (zd (.dat _) Z) (zf Z Z h24 (qy tyU9 Z Z h21) (bE H fun r26 h27 H=>zf Z Z h24 (zk (y2y (x5.toNat:Int) r26 h27) ⟨.inl Z,U⟩) (zf Z Z h24 (yq Z) (za (yf Z (bTT h25) Z) (qd Z (yi (j:=12) Z Z (fun h28 => ?_) (fun h28 => ?_) Z)))))))
    ·exact u1 h28 H fun h29 H=>zf Z Z h28 (zd (.dat _) Z) (zf Z Z h28 (zd (.dat _) Z) (zf Z Z h28 (qy tyU9 Z Z h21) (zf Z Z h28 (qp Z Z) (za (yf Z (bTT h29) Z) ⟨decide ((x5.toNat:Int)≠45),H,⟨Z,Z,Z,Z,U⟩,U⟩))))
    ·exact u2 h28 H fun h30 H=>zc Z Z h28 (zc Z Z h28 (zc Z Z h28 (zc Z Z h28 (za (ye Z (bFF h30) Z) ⟨false,H,⟨Z,Z,Z,Z,U⟩,U⟩))))
   ·exact u2 h24 H fun h31 H=>zc Z Z h24 (zc Z Z h24 (zc Z Z h24 (zc Z Z h24 (zc Z Z h24 (za (ye Z (bFF h31) Z) (qd Z (zc Z Z Z (zc Z Z Z (zc Z Z Z (zc Z Z Z (za (ye Z Z Z) ⟨false,H,⟨Z,Z,Z,Z,U⟩,U⟩)))))))))))
  ·rintro v32 H
   replace H:z3r v32=some q3:=H
   unfold z3r at H
   refine zg _ Z (fun h33 => ?_) (fun h33 => ?_)
   ·refine tE h33 H fun H=>zb hN Z (qe Z (zi ?_))
    replace H:=retl H hq3
    cases H
    exact ⟨U,.inl Z,U⟩
   ·exact fE h33 H fun H=>zl (zp hN Z (za (qs Z Z (by omega)) (qd Z ⟨_,yx H,⟨Z,Z,Z,U⟩,U⟩)))
theorem x2c (s1:Bs) (r:(Bool)) (H:z1c s1=some r):Fn Tryz.prog 102 [vstr s1] (zu [ze r]):=by
 refine ⟨by kernel_rfl,yh (us:=[ze r]) Tryz.func102 Z Z Z Z fun X hN => ?_⟩
 unfold z1c at H
 refine zb hN Z (qe Z (zb hN Z (qd Z (bE H fun r2 h3 H=>za (zk (z1q s1 [58] r2 h3) ⟨.inl Z,.inl Z,U⟩) (qd Z (za (yc Z Z) (za (yc Z Z) (za (yc Z Z) (qe Z (qe Z (qe Z (zh (zb hN Z (qd Z (bE H fun r4 h5 H=>za (zk (Qb r2.1 [46] r4 h5) ⟨.inl Z,.inl Z,U⟩) (za (qi wq Z) (qd Z (zw (gE H fun h8 H=>qw (fun (k6:Nat) (s:Unit)=>[(0,.dat (vstr s1)),(4,.dat (vstr r2.2.1)),(5,.dat (ze r2.2.2)),(17,.dat (vlst (List.map zr r4))),(18,.dat (vint (r4.length:Int))),(19,.dat (vint (k6:Int)))]) (fun (k6:Nat) (s:Unit)=>[]) () H ⟨Z,Z,Z,Z,Z,Z,U⟩ U (fun _ _=>Z) ?_ ?_)))))))))))))))))))
 ·rintro ⟨⟩ H
  replace H:y12 s1 r2=some r:=H
  unfold y12 at H
  refine zb hN Z (za (zx Z Z) (zh (zg _ Z (fun h=>(lt_t h).elim) (fun h => ?_))))
  refine yt (zb hN Z (qd Z (bE H fun r10 h11 H=>za (zk (x2l r2.2.1 r10 h11) ⟨.inl Z,U⟩) (qd Z (za (yc Z Z) (za (yc Z Z) (qe Z (qe Z (yd (ι:=Bool) (fun i=>[(2,.dat (ze i))]) (fun i=>[]) (fun i=>z02 i=some r) (fun i=>Z) ?_ ?_)))))))))
  ·skip
   refine zp hN Z (qd Z (za (qj tyU9 Z) (za (wi Z Z) (qd Z (yi (j:=3) Z Z (fun h12 => ?_) (fun h12 => ?_) Z)))))
   ·refine u1 h12 H fun h13 H=>zf Z Z h12 (zd (.dat _) Z) (zf Z Z h12 (yq Z) (zf Z Z h12 (zd (.dat _) Z) (yi (j:=6) Z Z (fun h14 => ?_) (fun h14 => ?_) Z)))
    ·refine u3 h14 H fun h15 H=>zf Z Z h14 (zd (.dat _) Z) (zf Z Z h14 (zd (.dat _) Z) (yi (j:=8) Z Z (fun h16 => ?_) (fun h16 => ?_) Z))
     ·exact u1 h16 H fun h17 H=>zf Z Z h16 (zd (.dat _) Z) (bE H fun r18 h19 H=>zf Z Z h16 (zk (y6j r10.1 1 65535 r18 h19) ⟨.inl Z,.inl Z,.inl Z,U⟩) (zf Z Z h16 (yq Z) (zf Z Z h14 (yf Z (bTT h17) Z) (zf Z Z h12 (ye Z (bFF h15) Z) (za (yf Z (bTT h13) Z) (qe Z ⟨!r18,H,⟨Z,U⟩,U⟩))))))
     ·exact u2 h16 H fun h20 H=>zc Z Z h16 (zc Z Z h16 (zc Z Z h16 (zf Z Z h14 (ye Z (bFF h20) Z) (zf Z Z h12 (ye Z (bFF h15) Z) (za (yf Z (bTT h13) Z) (qe Z ⟨false,H,⟨Z,U⟩,U⟩))))))
    ·exact u4 h14 H fun h21 H=>zc Z Z h14 (zc Z Z h14 (yk Z Z (yk Z Z (yk Z Z (zc Z Z h14 (zf Z Z h12 (yf Z (bTT h21) Z) (za (yf Z (bTT h13) Z) (qe Z ⟨true,H,⟨Z,U⟩,U⟩))))))))
   ·exact u2 h12 H fun h22 H=>zc Z Z h12 (zc Z Z h12 (zc Z Z h12 (yk Z Z (yk Z Z (yk Z Z (yk Z Z (yk Z Z (yk Z Z (zc Z Z h12 (za (ye Z (bFF h22) Z) (qe Z ⟨false,H,⟨Z,U⟩,U⟩)))))))))))
  ·rintro v23 H
   replace H:z02 v23=some r:=H
   unfold z02 at H
   refine zi ?_
   cases H
   exact ⟨U,.inl Z,U⟩
 ·rintro k6 x9 ⟨⟩ q7 h24 h25 H hq7
  replace H:y11 k6 x9=some q7:=H
  unfold y11 at H
  refine zb hN Z (za (zx Z Z) (zh (zg _ Z (fun h => ?_) (fun h=>(lt_f h24 h).elim))))
  refine zl (zh (zw (zb hN Z (za (we vj (fun _=>Z) Z Z h25) (za (qu tyS9 Z (qh h25) Z) (qe Z (zb hN Z (qd Z (bE H fun r26 h27 H=>za (zk (w0z x9 r26 h27) ⟨.inl Z,U⟩) (za (yq Z) (zg _ Z (fun h28 => ?_) (fun h28 => ?_))))))))))))
  ·refine tE h28 H fun H=>zb hN Z (qe Z (zi ?_))
   replace H:=retl H hq7
   cases H
   exact ⟨U,.inl Z,U⟩
  ·exact fE h28 H fun H=>zl (zp hN Z (za (qs Z Z (by omega)) (qd Z ⟨_,yx H,⟨Z,Z,Z,Z,Z,Z,U⟩,U⟩)))
theorem w0o (s p:Bs) (r:Bool) (H:y5x s p=some r):Fn Tryz.prog 94 [vstr s,vstr p] (zu [ze r]):=by
 cases H
 refine y3r (by kernel_rfl) fun M w vs h => ?_
 have h1:=kr (us:=[.string ⟨s.toArray⟩,.string ⟨p.toArray⟩]) h
 subst h1
 refine (Tryz.strings_HasPrefix ⟨s.toArray⟩ ⟨p.toArray⟩ w).mono ?_
 rintro e w' ⟨rfl,rfl⟩
 exact ⟨_,Z,Z,Kp.refl _ _⟩
theorem y6g (s1:Bs) (low2:Int) (high3:Int) (r:(Bool)) (H:Yy s1 low2 high3=some r):Fn Tryz.prog 159 [vstr s1,vval (.int .u8 low2),vval (.int .u8 high3)] (zu [ze r]):=by
 refine ⟨by kernel_rfl,yh (us:=[ze r]) Tryz.func159 Z Z Z Z fun X hN => ?_⟩
 unfold Yy at H
 refine zb hN Z (qe Z (zh (zb hN Z (qd Z (za (qj tyU9 Z) (qd Z (zw (gE H fun h6 H=>qw (fun (k4:Nat) (s:Unit)=>[(0,.dat (vstr s1)),(1,.dat (vval (.int .u8 low2))),(2,.dat (vval (.int .u8 high3))),(9,.dat (vint (s1.length:Int))),(10,.dat (vint (k4:Int)))]) (fun (k4:Nat) (s:Unit)=>[]) () H ⟨Z,Z,Z,Z,Z,U⟩ U (fun _ _=>Z) ?_ ?_))))))))
 ·rintro ⟨⟩ H
  replace H:y10=some r:=H
  unfold y10 at H
  refine zb hN Z (za (zx Z Z) (zh (zg _ Z (fun h=>(lt_t h).elim) (fun h => ?_))))
  refine yt (zb hN Z (qe Z (zi ?_)))
  cases H
  exact ⟨U,.inl Z,U⟩
 ·rintro k4 x7 ⟨⟩ q5 h8 h9 H hq5
  replace H:y1z low2 high3 k4 x7=some q5:=H
  unfold y1z at H
  refine zb hN Z (za (zx Z Z) (zh (zg _ Z (fun h => ?_) (fun h=>(lt_f h8 h).elim))))
  refine zl (zh (zw (zb hN Z (qd Z (qe Z (yd (ι:=Bool) (fun i=>[(0,.dat (vstr s1)),(1,.dat (vval (.int .u8 low2))),(2,.dat (vval (.int .u8 high3))),(9,.dat (vint (s1.length:Int))),(10,.dat (vint (k4:Int))),(24,.dat (ze i))]) (fun i=>[]) (fun i=>z3q i=some q5) (fun i=>Z) ?_ ?_))))))
  ·skip
   refine zp hN Z (qd Z (qd Z (za (qy tyU9 Z Z h9) (qd Z (za (zx Z Z) (qd Z (yi (j:=5) Z Z (fun h10 => ?_) (fun h10 => ?_) Z)))))))
   ·exact u3 h10 H fun h11 H=>zf Z Z h10 (zd (.dat _) Z) (zf Z Z h10 (zd (.dat _) Z) (zf Z Z h10 (qy tyU9 Z Z h9) (zf Z Z h10 (zd (.dat _) Z) (zf Z Z h10 (wg Z Z) (za (ye Z (bFF h11) Z) ⟨decide (high3 < (x7.toNat:Int)),H,⟨Z,Z,Z,Z,Z,Z,U⟩,U⟩)))))
   ·exact u4 h10 H fun h12 H=>zc Z Z h10 (zc Z Z h10 (zc Z Z h10 (zc Z Z h10 (zc Z Z h10 (za (yf Z (bTT h12) Z) ⟨true,H,⟨Z,Z,Z,Z,Z,Z,U⟩,U⟩)))))
  ·rintro v13 H
   replace H:z3q v13=some q5:=H
   unfold z3q at H
   refine zg _ Z (fun h14 => ?_) (fun h14 => ?_)
   ·refine tE h14 H fun H=>zb hN Z (qe Z (zi ?_))
    replace H:=retl H hq5
    cases H
    exact ⟨U,.inl Z,U⟩
   ·exact fE h14 H fun H=>zl (zp hN Z (za (qs Z Z (by omega)) (qd Z ⟨_,yx H,⟨Z,Z,Z,Z,Z,U⟩,U⟩)))
theorem x1q (s p:Bs) (r:Bool) (H:z34 s p=some r):Fn Tryz.prog 83 [vstr s,vstr p] (zu [ze r]):=by
 unfold z34 at H
 obtain ⟨⟨⟨h1,h2⟩,h3,h4⟩,h5⟩:=gif H
 cases h5
 refine Zh (by kernel_rfl) fun M w vs hM h => ?_
 have hv:=kr (us:=[.string ⟨s.toArray⟩,.string ⟨p.toArray⟩]) h
 subst hv
 refine (Tryz.strings_ContainsAny_laid ⟨s.toArray⟩ ⟨p.toArray⟩ w (by simp [ByteArray.size]; omega) (by simp [ByteArray.size]; omega) (fun j b hb=>z6z h3 j b (by simpa using hb)) (fun j b hb=>z6z h4 j b (by simpa using hb))).mono ?_
 rintro e w' ⟨rfl,hb⟩
 exact ⟨_,Z,Z,Kp.of_below hb⟩

theorem x2g (s1:Bs) (r:(Int)) (H:z4f s1=some r):Fn Tryz.prog 103 [vstr s1] (zu [vint r]):=by
 refine ⟨by kernel_rfl,yh (us:=[vint r]) Tryz.func103 Z Z Z Z fun X hN => ?_⟩
 unfold z4f at H
 refine zb hN Z (qe Z (zh (yd (ι:=Bool) (fun i=>[(19,.dat (ze i))]) (fun i=>[]) (fun i=>Wc i=some r) (fun i=>Z) ?_ ?_)))
 ·skip
  refine zp hN Z (qd Z (za (qj tyU9 Z) (za (wg Z Z) (qd Z (yi (j:=3) Z Z (fun h2 => ?_) (fun h2 => ?_) Z)))))
  ·refine u3 h2 H fun h3 H=>zf Z Z h2 (zd (.dat _) Z) (bE H fun r4 h5 H=>zf Z Z h2 (zk (w0o s1 [47] r4 h5) ⟨.inl Z,.inl Z,U⟩) (zf Z Z h2 (yq Z) (za (ye Z (bFF h3) Z) (qd Z (yi (j:=8) Z Z (fun h6 => ?_) (fun h6 => ?_) Z)))))
   ·refine u3 h6 H fun h7 H=>zf Z Z h6 (zd (.dat _) Z) (bE H fun r8 h9 H=>zf Z Z h6 (zk (y6g s1 33 126 r8 h9) ⟨.inl Z,.inl Z,.inl Z,U⟩) (zf Z Z h6 (yq Z) (za (ye Z (bFF h7) Z) (qd Z (yi (j:=13) Z Z (fun h10 => ?_) (fun h10 => ?_) Z)))))
    ·exact u3 h10 H fun h11 H=>zf Z Z h10 (zd (.dat _) Z) (bE H fun r12 h13 H=>zf Z Z h10 (zk (x1q s1 [63,35] r12 h13) ⟨.inl Z,.inl Z,U⟩) (za (ye Z (bFF h11) Z) ⟨r12,H,⟨Z,U⟩,U⟩))
    ·exact u4 h10 H fun h14 H=>zc Z Z h10 (zc Z Z h10 (za (yf Z (bTT h14) Z) ⟨true,H,⟨Z,U⟩,U⟩))
   ·exact u4 h6 H fun h15 H=>zc Z Z h6 (zc Z Z h6 (zc Z Z h6 (za (yf Z (bTT h15) Z) (qd Z (zc Z Z Z (zc Z Z Z (za (yf Z Z Z) ⟨true,H,⟨Z,U⟩,U⟩)))))))
  ·exact u4 h2 H fun h16 H=>zc Z Z h2 (zc Z Z h2 (zc Z Z h2 (za (yf Z (bTT h16) Z) (qd Z (zc Z Z Z (zc Z Z Z (zc Z Z Z (za (yf Z Z Z) (qd Z (zc Z Z Z (zc Z Z Z (za (yf Z Z Z) ⟨true,H,⟨Z,U⟩,U⟩))))))))))))
 ·rintro v17 H
  replace H:Wc v17=some r:=H
  unfold Wc at H
  refine zg _ Z (fun h18 => ?_) (fun h18 => ?_)
  ·refine tE h18 H fun H=>zb hN Z (qe Z (zi ?_))
   cases H
   exact ⟨U,.inl Z,U⟩
  ·refine fE h18 H fun H=>zl (zb hN Z (qe Z (zi ?_)))
   cases H
   exact ⟨U,.inl Z,U⟩
theorem x1r (s p:Bs) (r:Bool) (H:Wh s p=some r):Fn Tryz.prog 84 [vstr s,vstr p] (zu [ze r]):=by
 unfold Wh at H
 obtain ⟨h1,h2⟩:=gif H
 cases h2
 refine Zh (by kernel_rfl) fun M w vs hM h => ?_
 have hv:=kr (us:=[.string ⟨s.toArray⟩,.string ⟨p.toArray⟩]) h
 subst hv
 obtain ⟨m,hm⟩:=y19 hM
 refine (Tryz.strings_Contains ⟨s.toArray⟩ ⟨p.toArray⟩ m w (by simp [ByteArray.size]; omega) hm).mono ?_
 rintro e w' ⟨rfl,rfl⟩
 exact ⟨_,Z,Z,Kp.refl _ _⟩

theorem x1z (s1:Bs) (r:(Int)) (H:xj s1=some r):Fn Tryz.prog 104 [vstr s1] (zu [vint r]):=by
 refine ⟨by kernel_rfl,yh (us:=[vint r]) Tryz.func104 Z Z Z Z fun X hN => ?_⟩
 unfold xj at H
 refine zb hN Z (qe Z (zh (yd (ι:=Bool) (fun i=>[(14,.dat (ze i))]) (fun i=>[]) (fun i=>Za i=some r) (fun i=>Z) ?_ ?_)))
 ·skip
  refine zp hN Z (qd Z (za (qj tyU9 Z) (za (wg Z Z) (qd Z (yi (j:=3) Z Z (fun h2 => ?_) (fun h2 => ?_) Z)))))
  ·refine u3 h2 H fun h3 H=>zf Z Z h2 (zd (.dat _) Z) (bE H fun r4 h5 H=>zf Z Z h2 (zk (y6g s1 33 126 r4 h5) ⟨.inl Z,.inl Z,.inl Z,U⟩) (zf Z Z h2 (yq Z) (za (ye Z (bFF h3) Z) (qd Z (yi (j:=8) Z Z (fun h6 => ?_) (fun h6 => ?_) Z)))))
   ·exact u3 h6 H fun h7 H=>zf Z Z h6 (zd (.dat _) Z) (bE H fun r8 h9 H=>zf Z Z h6 (zk (x1r s1 [35] r8 h9) ⟨.inl Z,.inl Z,U⟩) (za (ye Z (bFF h7) Z) ⟨r8,H,⟨Z,U⟩,U⟩))
   ·exact u4 h6 H fun h10 H=>zc Z Z h6 (zc Z Z h6 (za (yf Z (bTT h10) Z) ⟨true,H,⟨Z,U⟩,U⟩))
  ·exact u4 h2 H fun h11 H=>zc Z Z h2 (zc Z Z h2 (zc Z Z h2 (za (yf Z (bTT h11) Z) (qd Z (zc Z Z Z (zc Z Z Z (za (yf Z Z Z) ⟨true,H,⟨Z,U⟩,U⟩)))))))
 ·rintro v12 H
  replace H:Za v12=some r:=H
  unfold Za at H
  refine zg _ Z (fun h13 => ?_) (fun h13 => ?_)
  ·refine tE h13 H fun H=>zb hN Z (qe Z (zi ?_))
   cases H
   exact ⟨U,.inl Z,U⟩
  ·refine fE h13 H fun H=>zl (zb hN Z (qe Z (zi ?_)))
   cases H
   exact ⟨U,.inl Z,U⟩
theorem w0l (s1:Bs) (c2:Int) (r:(Bs)) (H:We s1 c2=some r):Fn Tryz.prog 136 [vstr s1,vval (.int .u8 c2)] (zu [vstr r]):=by
 refine ⟨by kernel_rfl,yh (us:=[vstr r]) Tryz.func136 Z Z Z Z fun X hN => ?_⟩
 unfold We at H
 refine zb hN Z (qe Z (yd (ι:=Bs) (fun i=>[(0,.dat (vstr i))]) (fun i=>[]) (fun i=>z7c i=some r) (fun i=>Z) ?_ ?_))
 ·skip
  refine zw (un (fun (s:Bs)=>[(0,.dat (vstr s)),(1,.dat (vval (.int .u8 c2)))]) (fun (s:Bs)=>[]) s1 H ⟨Z,Z,U⟩ U (fun _=>Z) ?_)
  rintro s3 q4 H hq4
  replace H:z7b c2 s3=some q4:=H
  unfold z7b at H
  refine zh (yd (ι:=Bool) (fun i=>[(0,.dat (vstr s3)),(1,.dat (vval (.int .u8 c2))),(16,.dat (ze i))]) (fun i=>[]) (fun i=>z0q s3 i=some q4) (fun i=>Z) ?_ ?_)
  ·skip
   refine zp hN Z (qd Z (za (qj tyU9 Z) (za (wg Z Z) (qd Z (yi (j:=3) Z Z (fun h5 => ?_) (fun h5 => ?_) Z)))))
   ·exact u1 h5 H fun h6 H=>zf Z Z h5 (zd (.dat _) Z) (zf Z Z h5 (zd (.dat _) Z) (zf Z Z h5 (qj tyU9 Z) (zf Z Z h5 (yj _ Z Z (.inr (.inl ⟨Z,Z⟩))) (bE H fun x7 h8 H=>zf Z Z h5 (kh tyU9 Z Z h8) (zf Z Z h5 (zd (.dat _) Z) (zf Z Z h5 (qf Z Z) (za (yf Z (bTT h6) Z) ⟨decide ((x7.toNat:Int)=c2),H,⟨Z,Z,Z,U⟩,U⟩)))))))
   ·exact u2 h5 H fun h9 H=>zc Z Z h5 (zc Z Z h5 (zc Z Z h5 (zc Z Z h5 (zc Z Z h5 (zc Z Z h5 (zc Z Z h5 (za (ye Z (bFF h9) Z) ⟨false,H,⟨Z,Z,Z,U⟩,U⟩)))))))
  ·rintro v10 H
   replace H:z0q s3 v10=some q4:=H
   unfold z0q at H
   refine zg _ Z (fun h11 => ?_) (fun h11 => ?_)
   ·exact tE h11 H fun H=>zl (zw (zp hN Z (qd Z (qd Z (za (qj tyU9 Z) (za (yj _ Z Z (.inr (.inl ⟨Z,Z⟩))) (bE H fun l12 h13 H=>za (jc tyU9 Z Z Z h13) (qe Z ⟨_,yx H,⟨Z,Z,U⟩,U⟩))))))))
   ·refine fE h11 H fun H=>yt ?_
    replace H:=outl H hq4
    exact ⟨s3,H,⟨Z,U⟩,U⟩
 ·rintro s14 H
  replace H:z7c s14=some r:=H
  unfold z7c at H
  refine zb hN Z (qd Z (qe Z (zi ?_)))
  cases H
  exact ⟨U,.inl Z,U⟩
theorem w0m (s1:Bs) (c2:Int) (r:(Bs)) (H:z08 s1 c2=some r):Fn Tryz.prog 135 [vstr s1,vval (.int .u8 c2)] (zu [vstr r]):=by
 refine ⟨by kernel_rfl,yh (us:=[vstr r]) Tryz.func135 Z Z Z Z fun X hN => ?_⟩
 unfold z08 at H
 refine zb hN Z (qe Z (yd (ι:=Bs) (fun i=>[(0,.dat (vstr i))]) (fun i=>[]) (fun i=>z7e i=some r) (fun i=>Z) ?_ ?_))
 ·skip
  refine zw (un (fun (s:Bs)=>[(0,.dat (vstr s)),(1,.dat (vval (.int .u8 c2)))]) (fun (s:Bs)=>[]) s1 H ⟨Z,Z,U⟩ U (fun _=>Z) ?_)
  rintro s3 q4 H hq4
  replace H:z7d c2 s3=some q4:=H
  unfold z7d at H
  refine zh (yd (ι:=Bool) (fun i=>[(0,.dat (vstr s3)),(1,.dat (vval (.int .u8 c2))),(13,.dat (ze i))]) (fun i=>[]) (fun i=>z0r s3 i=some q4) (fun i=>Z) ?_ ?_)
  ·skip
   refine zp hN Z (qd Z (za (qj tyU9 Z) (za (wg Z Z) (qd Z (yi (j:=3) Z Z (fun h5 => ?_) (fun h5 => ?_) Z)))))
   ·exact u1 h5 H fun h6 H=>zf Z Z h5 (zd (.dat _) Z) (bE H fun x7 h8 H=>zf Z Z h5 (qy tyU9 Z Z h8) (zf Z Z h5 (zd (.dat _) Z) (zf Z Z h5 (qf Z Z) (za (yf Z (bTT h6) Z) ⟨decide ((x7.toNat:Int)=c2),H,⟨Z,Z,Z,U⟩,U⟩))))
   ·exact u2 h5 H fun h9 H=>zc Z Z h5 (zc Z Z h5 (zc Z Z h5 (zc Z Z h5 (za (ye Z (bFF h9) Z) ⟨false,H,⟨Z,Z,Z,U⟩,U⟩))))
  ·rintro v10 H
   replace H:z0r s3 v10=some q4:=H
   unfold z0r at H
   refine zg _ Z (fun h11 => ?_) (fun h11 => ?_)
   ·exact tE h11 H fun H=>zl (zw (zp hN Z (qd Z (bE H fun l12 h13 H=>za (jc tyU9 Z Z Z h13) (qe Z ⟨_,yx H,⟨Z,Z,U⟩,U⟩)))))
   ·refine fE h11 H fun H=>yt ?_
    replace H:=outl H hq4
    exact ⟨s3,H,⟨Z,U⟩,U⟩
 ·rintro s14 H
  replace H:z7e s14=some r:=H
  unfold z7e at H
  refine zb hN Z (qd Z (qe Z (zi ?_)))
  cases H
  exact ⟨U,.inl Z,U⟩
theorem z5d (s1:Bs) (cutset2:Bs) (r:(Bs)) (H:Yv s1 cutset2=some r):Fn Tryz.prog 81 [vstr s1,vstr cutset2] (zu [vstr r]):=by
 refine ⟨by kernel_rfl,yh (us:=[vstr r]) Tryz.func81 Z Z Z Z fun X hN => ?_⟩
 unfold Yv at H
 refine zb hN Z (qe Z (zh (zb hN Z (qd Z (za (va Z Z) (qd Z (yn Z Z (fun hc=>zd (.dat _) Z) (yn Z Z (fun hc=>va (cnd (c:=(!(decide (s1=[])))) hc) Z) (za (wv Z Z (fun hb=>(cnd (c:=(!(decide (s1=[])))) (notI hb)))) (zg _ Z (fun h3 => ?_) (fun h3 => ?_)))))))))))
 ·refine tE h3 H fun H=>zb hN Z (qd Z (qe Z (zi ?_)))
  cases H
  exact ⟨U,.inl Z,U⟩
 ·refine fE h3 H fun H=>zl (zh (yd (ι:=Bool) (fun i=>[(0,.dat (vstr s1)),(1,.dat (vstr cutset2)),(21,.dat (ze i))]) (fun i=>[]) (fun i=>z3e s1 cutset2 i=some r) (fun i=>Z) ?_ ?_))
  ·skip
   refine zp hN Z (qd Z (za (qj tyU9 Z) (za (qf Z Z) (qd Z (yi (j:=3) Z Z (fun h4 => ?_) (fun h4 => ?_) Z)))))
   ·exact u1 h4 H fun h5 H=>zf Z Z h4 (zd (.dat _) Z) (bE H fun x6 h7 H=>zf Z Z h4 (qy tyU9 Z Z h7) (zf Z Z h4 (zx Z Z) (za (yf Z (bTT h5) Z) ⟨decide ((x6.toNat:Int) < 128),H,⟨Z,Z,Z,U⟩,U⟩)))
   ·exact u2 h4 H fun h8 H=>zc Z Z h4 (zc Z Z h4 (zc Z Z h4 (za (ye Z (bFF h8) Z) ⟨false,H,⟨Z,Z,Z,U⟩,U⟩)))
  ·rintro v9 H
   replace H:z3e s1 cutset2 v9=some r:=H
   unfold z3e at H
   refine zg _ Z (fun h10 => ?_) (fun h10 => ?_)
   ·refine tE h10 H fun H=>zh (wz mixed hN Z Z (qd Z (qd Z (bE H fun x11 h12 H=>za (qy tyU9 Z Z h12) (bE H fun r13 h14 H=>za (zk (w0l s1 (x11.toNat:Int) r13 h14) ⟨.inl Z,.inl Z,U⟩) (qd Z (za (qy tyU9 Z Z h12) (bE H fun r15 h16 H=>za (zk (w0m r13 (x11.toNat:Int) r15 h16) ⟨.inl Z,.inl Z,U⟩) (qe Z ⟨Z,?_⟩)))))))))
    refine zi ?_
    cases H
    exact ⟨U,.inl Z,U⟩
   ·refine fE h10 H fun H=>?_
    cases H
theorem x2i (s1:Bs) (r:(Bool)) (H:z1d s1=some r):Fn Tryz.prog 105 [vstr s1] (zu [ze r]):=by
 refine ⟨by kernel_rfl,yh (us:=[ze r]) Tryz.func105 Z Z Z Z fun X hN => ?_⟩
 unfold z1d at H
 refine zb hN Z (qe Z (yd (ι:=Bool) (fun i=>[(2,.dat (ze i))]) (fun i=>[]) (fun i=>z07 i=some r) (fun i=>Z) ?_ ?_))
 ·skip
  refine zp hN Z (qd Z (za (qj tyU9 Z) (za (wi Z Z) (qd Z (yi (j:=3) Z Z (fun h2 => ?_) (fun h2 => ?_) Z)))))
  ·refine u1 h2 H fun h3 H=>zf Z Z h2 (zd (.dat _) Z) (bE H fun r4 h5 H=>zf Z Z h2 (zk (y6g s1 32 126 r4 h5) ⟨.inl Z,.inl Z,.inl Z,U⟩) (za (yf Z (bTT h3) Z) (qd Z (yi (j:=7) Z Z (fun h6 => ?_) (fun h6 => ?_) Z))))
   ·exact u1 h6 H fun h7 H=>zf Z Z h6 (zd (.dat _) Z) (bE H fun r8 h9 H=>zf Z Z h6 (zk (z5d s1 [32] r8 h9) ⟨.inl Z,.inl Z,U⟩) (zf Z Z h6 (zd (.dat _) Z) (zf Z Z h6 (va Z Z) (za (yf Z (bTT h7) Z) (qe Z ⟨decide (r8=s1),H,⟨Z,U⟩,U⟩)))))
   ·exact u2 h6 H fun h10 H=>zc Z Z h6 (zc Z Z h6 (zc Z Z h6 (zc Z Z h6 (za (ye Z (bFF h10) Z) (qe Z ⟨false,H,⟨Z,U⟩,U⟩)))))
  ·exact u2 h2 H fun h11 H=>zc Z Z h2 (zc Z Z h2 (za (ye Z (bFF h11) Z) (qd Z (zc Z Z Z (zc Z Z Z (zc Z Z Z (zc Z Z Z (za (ye Z Z Z) (qe Z ⟨false,H,⟨Z,U⟩,U⟩)))))))))
 ·rintro v12 H
  replace H:z07 v12=some r:=H
  unfold z07 at H
  refine zi ?_
  cases H
  exact ⟨U,.inl Z,U⟩
theorem x2k (l1:(List zn)) (r:(Int)) (H:z4h l1=some r):Fn Tryz.prog 106 [vlst (List.map yb l1)] (zu [vint r]):=by
 refine ⟨by kernel_rfl,yh (us:=[vint r]) Tryz.func106 Z Z Z Z fun X hN => ?_⟩
 unfold z4h at H
 refine zb hN Z (qe Z (zh (zb hN Z (qd Z (za (qi uo Z) (za (wg Z Z) (zg _ Z (fun h2 => ?_) (fun h2 => ?_))))))))
 ·refine tE h2 H fun H=>zb hN Z (qe Z (zi ?_))
  cases H
  exact ⟨U,.inl Z,U⟩
 ·refine fE h2 H fun H=>zl (zh (zb hN Z (qd Z (za (qi uo Z) (qd Z (zw (gE H fun h5 H=>qw (fun (k3:Nat) (s:Unit)=>[(8,.dat (vlst (List.map yb l1))),(9,.dat (vint (l1.length:Int))),(10,.dat (vint (k3:Int)))]) (fun (k3:Nat) (s:Unit)=>[]) () H ⟨Z,Z,Z,U⟩ U (fun _ _=>Z) ?_ ?_)))))))
  ·rintro ⟨⟩ H
   replace H:y18=some r:=H
   unfold y18 at H
   refine zb hN Z (za (zx Z Z) (zh (zg _ Z (fun h=>(lt_t h).elim) (fun h => ?_))))
   refine yt (zb hN Z (qe Z (zi ?_)))
   cases H
   exact ⟨U,.inl Z,U⟩
  ·rintro k3 x6 ⟨⟩ q4 h7 h8 H hq4
   replace H:y17 k3 x6=some q4:=H
   unfold y17 at H
   refine zb hN Z (za (zx Z Z) (zh (zg _ Z (fun h => ?_) (fun h=>(lt_f h7 h).elim))))
   refine zl (zh (zw (zb hN Z (za (we xg (fun _=>Z) Z Z h8) (za (xy jv Z (qh h8) Z) (zj (qv 1 kl Z) Z (zj (qk jv Z Z Z Z) Z (zh (zb hN Z (za (zq Qv Z) (zm (zv tyS9 Z Z) Z (bE H fun r9 h10 H=>za (zk (y2z x6.Name r9 h10) ⟨.inl Z,U⟩) (za (yq Z) (zg _ Z (fun h11 => ?_) (fun h11 => ?_)))))))))))))))
   ·refine tE h11 H fun H=>zb hN Z (qe Z (zi ?_))
    replace H:=retl H hq4
    cases H
    exact ⟨U,.inl Z,U⟩
   ·refine fE h11 H fun H=>zl (zb hN Z (za (zq z67 Z) (zm (zv tyS9 Z Z) Z (bE H fun r12 h13 H=>za (zk (x2i x6.Value r12 h13) ⟨.inl Z,U⟩) (za (yq Z) (zg _ Z (fun h14 => ?_) (fun h14 => ?_)))))))
    ·refine tE h14 H fun H=>zb hN Z (qe Z (zi ?_))
     replace H:=retl H hq4
     cases H
     exact ⟨U,.inl Z,U⟩
    ·exact fE h14 H fun H=>zl (zp hN Z (za (qs Z Z (by omega)) (qd Z ⟨_,yx H,⟨Z,Z,Z,U⟩,U⟩)))
theorem y6i (r1:zz) (r:(Int)) (H:uj r1=some r):Fn Tryz.prog 58 [vagg (qx r1)] (zu [vint r]):=by
 refine ⟨by kernel_rfl,yh (us:=[vint r]) Tryz.func58 Z Z Z Z fun X hN => ?_⟩
 unfold uj at H
 refine zb hN Z (zj (wd 1 Z) Z (qe Z (zh (zb hN Z (za (zq Ym Z) (zm (zv tyS3 Z Z) Z (bE H fun r2 h3 H=>za (zk (y6k r1.At r2 h3) ⟨.inl Z,U⟩) (za (yq Z) (zg _ Z (fun h4 => ?_) (fun h4 => ?_))))))))))
 ·refine tE h4 H fun H=>zb hN Z (qe Z (zi ?_))
  cases H
  exact ⟨U,.inl Z,U⟩
 ·refine fE h4 H fun H=>zl (zh (zb hN Z (za (zq uf Z) (zm (zv tyS9 Z Z) Z (bE H fun r5 h6 H=>za (zk (y2z r1.Method r5 h6) ⟨.inl Z,U⟩) (za (yq Z) (zg _ Z (fun h7 => ?_) (fun h7 => ?_))))))))
  ·refine tE h7 H fun H=>zb hN Z (qe Z (zi ?_))
   cases H
   exact ⟨U,.inl Z,U⟩
  ·refine fE h7 H fun H=>zl (zh (yd (ι:=Bool) (fun i=>[(1,.ptr 1 0),(33,.dat (ze i))]) (fun i=>[(1,.box none 28 [.dat (vint r1.At),.dat (vstr r1.Method),.dat (vstr r1.Host),.dat (vstr r1.Path),.dat (vstr r1.Query),.dat (vstr r1.From),.dat (vlst (List.map yb r1.Headers)),.dat (vstr r1.Body)])]) (fun i=>Zb r1 i=some r) (fun i=>Z) ?_ ?_))
   ·skip
    refine zp hN Z (za (zq xx Z) (zm (zv tyS9 Z Z) Z (bE H fun r8 h9 H=>za (zk (x2c r1.Host r8 h9) ⟨.inl Z,U⟩) (za (yq Z) (qd Z (yi (j:=4) Z Z (fun h10 => ?_) (fun h10 => ?_) Z))))))
    ·refine u3 h10 H fun h11 H=>zf Z Z h10 (zq xw Z) (vt Z Z h10 (zv tyS9 Z Z) Z (bE H fun r12 h13 H=>zf Z Z h10 (zk (x2g r1.Path r12 h13) ⟨.inl Z,U⟩) (zf Z Z h10 (qp Z Z) (za (ye Z (bFF h11) Z) (qd Z (yi (j:=10) Z Z (fun h14 => ?_) (fun h14 => ?_) Z))))))
     ·refine u3 h14 H fun h15 H=>zf Z Z h14 (zq xv Z) (vt Z Z h14 (zv tyS9 Z Z) Z (bE H fun r16 h17 H=>zf Z Z h14 (zk (x1z r1.Query r16 h17) ⟨.inl Z,U⟩) (zf Z Z h14 (qp Z Z) (za (ye Z (bFF h15) Z) (qd Z (yi (j:=16) Z Z (fun h18 => ?_) (fun h18 => ?_) Z))))))
      ·exact u3 h18 H fun h19 H=>zf Z Z h18 (zq y8x Z) (vt Z Z h18 (zv tyS9 Z Z) Z (bE H fun r20 h21 H=>zf Z Z h18 (zk (x2i r1.From r20 h21) ⟨.inl Z,U⟩) (zf Z Z h18 (yq Z) (za (ye Z (bFF h19) Z) ⟨!r20,H,⟨Z,Z,U⟩,⟨Z,U⟩⟩))))
      ·exact u4 h18 H fun h22 H=>zc Z Z h18 (zc Z Z h18 (zc Z Z h18 (zc Z Z h18 (za (yf Z (bTT h22) Z) ⟨true,H,⟨Z,Z,U⟩,⟨Z,U⟩⟩))))
     ·exact u4 h14 H fun h23 H=>zc Z Z h14 (zc Z Z h14 (zc Z Z h14 (zc Z Z h14 (za (yf Z (bTT h23) Z) (qd Z (zc Z Z Z (zc Z Z Z (zc Z Z Z (zc Z Z Z (za (yf Z Z Z) ⟨true,H,⟨Z,Z,U⟩,⟨Z,U⟩⟩))))))))))
    ·exact u4 h10 H fun h24 H=>zc Z Z h10 (zc Z Z h10 (zc Z Z h10 (zc Z Z h10 (za (yf Z (bTT h24) Z) (qd Z (zc Z Z Z (zc Z Z Z (zc Z Z Z (zc Z Z Z (za (yf Z Z Z) (qd Z (zc Z Z Z (zc Z Z Z (zc Z Z Z (zc Z Z Z (za (yf Z Z Z) ⟨true,H,⟨Z,Z,U⟩,⟨Z,U⟩⟩))))))))))))))))
   ·rintro v25 H
    replace H:Zb r1 v25=some r:=H
    unfold Zb at H
    refine zg _ Z (fun h26 => ?_) (fun h26 => ?_)
    ·refine tE h26 H fun H=>zb hN Z (qe Z (zi ?_))
     cases H
     exact ⟨U,.inl Z,U⟩
    ·refine fE h26 H fun H=>zl (zh (zb hN Z (za (zq vi Z) (zm (zv wb Z Z) Z (bE H fun r27 h28 H=>za (zk (x2k r1.Headers r27 h28) ⟨.inl Z,U⟩) (qe Z (zb hN Z (qd Z (za (qp Z Z) (zg _ Z (fun h29 => ?_) (fun h29 => ?_)))))))))))
     ·refine tE h29 H fun H=>zb hN Z (qd Z (qe Z (zi ?_)))
      cases H
      exact ⟨U,.inl Z,U⟩
     ·refine fE h29 H fun H=>zl (zh (zb hN Z (za (zq y8w Z) (zm (zv tyS9 Z Z) Z (za (qj tyU9 Z) (za (wg Z Z) (zg _ Z (fun h30 => ?_) (fun h30 => ?_))))))))
      ·refine tE h30 H fun H=>zb hN Z (qe Z (zi ?_))
       cases H
       exact ⟨U,.inl Z,U⟩
      ·refine fE h30 H fun H=>zl (zb hN Z (qe Z (zi ?_)))
       cases H
       exact ⟨U,.inl Z,U⟩
theorem x2j (a1:qc) (r:(Int)) (H:Zv a1=some r):Fn Tryz.prog 92 [vagg (Zj a1)] (zu [vint r]):=by
 refine ⟨by kernel_rfl,yh (us:=[vint r]) Tryz.func92 Z Z Z Z fun X hN => ?_⟩
 unfold Zv at H
 refine zb hN Z (zj (wd 1 Z) Z (qe Z (zh (zb hN Z (za (zq y4c Z) (zm (zv tyS3 Z Z) Z (bE H fun r2 h3 H=>za (zk (y6j a1.Status 100 599 r2 h3) ⟨.inl Z,.inl Z,.inl Z,U⟩) (zg _ Z (fun h4 => ?_) (fun h4 => ?_)))))))))
 ·refine tE h4 H fun H=>zb hN Z (qe Z (zi ?_))
  cases H
  exact ⟨U,.inl Z,U⟩
 ·refine fE h4 H fun H=>zl (zh (zb hN Z (za (zq xu Z) (zm (zv wb Z Z) Z (bE H fun r5 h6 H=>za (zk (x2k a1.Headers r5 h6) ⟨.inl Z,U⟩) (qe Z (zb hN Z (qd Z (za (qp Z Z) (zg _ Z (fun h7 => ?_) (fun h7 => ?_)))))))))))
  ·refine tE h7 H fun H=>zb hN Z (qd Z (qe Z (zi ?_)))
   cases H
   exact ⟨U,.inl Z,U⟩
  ·refine fE h7 H fun H=>zl (zh (zb hN Z (za (zq y8v Z) (zm (zv tyS9 Z Z) Z (za (qj tyU9 Z) (za (wg Z Z) (zg _ Z (fun h8 => ?_) (fun h8 => ?_))))))))
   ·refine tE h8 H fun H=>zb hN Z (qe Z (zi ?_))
    cases H
    exact ⟨U,.inl Z,U⟩
   ·refine fE h8 H fun H=>zl (zb hN Z (qe Z (zi ?_)))
    cases H
    exact ⟨U,.inl Z,U⟩
theorem w1c (s1:Bs) (r:(Bool)) (H:z8i s1=some r):Fn Tryz.prog 156 [vstr s1] (zu [ze r]):=by
 refine ⟨by kernel_rfl,yh (us:=[ze r]) Tryz.func156 Z Z Z Z fun X hN => ?_⟩
 unfold z8i at H
 refine zb hN Z (qe Z (zh (zb hN Z (qe Z (zw (gE H fun h4 H=>qw (fun (i2:Nat) (s:Unit)=>[(0,.dat (vstr s1)),(3,.dat (vint (i2:Int)))]) (fun (i2:Nat) (s:Unit)=>[]) () H ⟨Z,Z,U⟩ U (fun _ _=>Z) ?_ ?_))))))
 ·rintro ⟨⟩ H
  replace H:y6d s1=some r:=H
  unfold y6d at H
  refine zh (zb hN Z (qd Z (qd Z (za (qj tyU9 Z) (za (zx Z Z) (zg _ Z (fun h=>(lt_t h).elim) (fun h => ?_)))))))
  refine yt (zb hN Z (qd Z (za (ji Z Z) (qd Z (yz Z Z (fun hc=>zd (.dat _) Z) (yz Z Z (fun hc=>qj tyU9 (cnd (c:=(decide (s1≠[]))) hc)) (yz Z Z (fun hc=>wi (cnd (c:=(decide (s1≠[]))) hc) Z) (za (wm Z (fun hb=>(cnd (c:=(decide (s1≠[]))) hb)) Z) (qe Z (zi ?_))))))))))
  cases H
  exact ⟨U,.inl Z,U⟩
 ·rintro i2 x5 ⟨⟩ q3 h6 h7 H hq3
  replace H:y2v i2 x5=some q3:=H
  unfold y2v at H
  refine zh (zb hN Z (qd Z (qd Z (za (qj tyU9 Z) (za (zx Z Z) (zg _ Z (fun h => ?_) (fun h=>(lt_f h6 h).elim)))))))
  refine zl (zh (zw (zb hN Z (qd Z (qd Z (za (qy tyU9 Z Z h7) (qe Z (zb hN Z (qd Z (za (wt Z Z) (qd Z (yz Z Z (fun hc=>zd (.dat _) Z) (yz Z Z (fun hc=>wi (cnd (c:=(decide (97≤(x5.toNat:Int)))) hc) Z) (za (wm Z (fun hb=>(cnd (c:=(decide (97≤(x5.toNat:Int)))) hb)) Z) (qd Z (yn Z Z (fun hc=>zd (.dat _) Z) (yn Z Z (fun hc=>wg (cnd (c:=(!((decide (97≤(x5.toNat:Int))) && (decide ((x5.toNat:Int)≤122))))) hc) Z) (yn Z Z (fun hc=>zd (.dat _) (cnd (c:=(!((decide (97≤(x5.toNat:Int))) && (decide ((x5.toNat:Int)≤122))))) hc)) (wj Z Z (fun hc=>zd (.dat _) Z) (wj Z Z (fun hc=>wt (cnd (c:=((!((decide (97≤(x5.toNat:Int))) && (decide ((x5.toNat:Int)≤122)))) && (decide (0 < (i2:Int))))) hc) Z) (wj Z Z (fun hc=>zd (.dat _) (cnd (c:=((!((decide (97≤(x5.toNat:Int))) && (decide ((x5.toNat:Int)≤122)))) && (decide (0 < (i2:Int))))) hc)) (wj Z Z (fun hc=>zd (.dat _) Z) (wj Z Z (fun hc=>wi (cnd (c:=(((!((decide (97≤(x5.toNat:Int))) && (decide ((x5.toNat:Int)≤122)))) && (decide (0 < (i2:Int)))) && (decide (48≤(x5.toNat:Int))))) hc) Z) ?_)))))))))))))))))))))))
  refine wj Z Z (fun hc=>wm (cnd (c:=((!((decide (97≤(x5.toNat:Int))) && (decide ((x5.toNat:Int)≤122)))) && (decide (0 < (i2:Int))))) hc) (fun hb=>(cnd (c:=(((!((decide (97≤(x5.toNat:Int))) && (decide ((x5.toNat:Int)≤122)))) && (decide (0 < (i2:Int)))) && (decide (48≤(x5.toNat:Int))))) (andI hc hb))) Z) (wj Z Z (fun hc=>zd (.dat _) (cnd (c:=((!((decide (97≤(x5.toNat:Int))) && (decide ((x5.toNat:Int)≤122)))) && (decide (0 < (i2:Int))))) hc)) (z3k Z Z (fun hc=>zd (.dat _) Z) (z3k Z Z (fun hc=>qf (cnd (c:=(((!((decide (97≤(x5.toNat:Int))) && (decide ((x5.toNat:Int)≤122)))) && (decide (0 < (i2:Int)))) && !((decide (48≤(x5.toNat:Int))) && (decide ((x5.toNat:Int)≤57))))) hc) Z) (wj Z Z (fun hc=>wv (cnd (c:=((!((decide (97≤(x5.toNat:Int))) && (decide ((x5.toNat:Int)≤122)))) && (decide (0 < (i2:Int))))) hc) Z (fun hb=>(cnd (c:=(((!((decide (97≤(x5.toNat:Int))) && (decide ((x5.toNat:Int)≤122)))) && (decide (0 < (i2:Int)))) && !((decide (48≤(x5.toNat:Int))) && (decide ((x5.toNat:Int)≤57))))) (andI hc (notI hb))))) (wj Z Z (fun hc=>zd (.dat _) (cnd (c:=((!((decide (97≤(x5.toNat:Int))) && (decide ((x5.toNat:Int)≤122)))) && (decide (0 < (i2:Int))))) hc)) (z3k Z Z (fun hc=>zd (.dat _) Z) (z3k Z Z (fun hc=>qf (cnd (c:=(((!((decide (97≤(x5.toNat:Int))) && (decide ((x5.toNat:Int)≤122)))) && (decide (0 < (i2:Int)))) && !(((decide (48≤(x5.toNat:Int))) && (decide ((x5.toNat:Int)≤57))) || (decide ((x5.toNat:Int)=45))))) hc) Z) (wj Z Z (fun hc=>wv (cnd (c:=((!((decide (97≤(x5.toNat:Int))) && (decide ((x5.toNat:Int)≤122)))) && (decide (0 < (i2:Int))))) hc) Z (fun hb=>(cnd (c:=(((!((decide (97≤(x5.toNat:Int))) && (decide ((x5.toNat:Int)≤122)))) && (decide (0 < (i2:Int)))) && !(((decide (48≤(x5.toNat:Int))) && (decide ((x5.toNat:Int)≤57))) || (decide ((x5.toNat:Int)=45))))) (andI hc (notI hb))))) (yn Z Z (fun hc=>wm (cnd (c:=(!((decide (97≤(x5.toNat:Int))) && (decide ((x5.toNat:Int)≤122))))) hc) (fun hb=>(cnd (c:=((!((decide (97≤(x5.toNat:Int))) && (decide ((x5.toNat:Int)≤122)))) && (decide (0 < (i2:Int))))) (andI hc hb))) Z) (za (wv Z Z (fun hb=>(cnd (c:=(!((decide (97≤(x5.toNat:Int))) && (decide ((x5.toNat:Int)≤122))))) (notI hb)))) (za (yq Z) (zg _ Z (fun h8 => ?_) (fun h8 => ?_)))))))))))))
  ·refine tE h8 H fun H=>zb hN Z (qe Z (zi ?_))
   replace H:=retl H hq3
   cases H
   exact ⟨U,.inl Z,U⟩
  ·exact fE h8 H fun H=>zl (zp hN Z (qd Z (za (qs Z Z (by omega)) (qe Z ⟨_,yx H,⟨Z,Z,U⟩,U⟩))))
theorem w09 (l1:(List Bs)) (r:(Int)) (H:y2h l1=some r):Fn Tryz.prog 100 [vlst (List.map zr l1)] (zu [vint r]):=by
 refine ⟨by kernel_rfl,yh (us:=[vint r]) Tryz.func100 Z Z Z Z fun X hN => ?_⟩
 unfold y2h at H
 refine zb hN Z (qe Z (zh (zb hN Z (qd Z (za (qi wq Z) (qd Z (zw (gE H fun h4 H=>qw (fun (k2:Nat) (s:Unit)=>[(0,.dat (vlst (List.map zr l1))),(5,.dat (vlst (List.map zr l1))),(6,.dat (vint (l1.length:Int))),(7,.dat (vint (k2:Int)))]) (fun (k2:Nat) (s:Unit)=>[]) () H ⟨Z,Z,Z,Z,U⟩ U (fun _ _=>Z) ?_ ?_))))))))
 ·rintro ⟨⟩ H
  replace H:y2u=some r:=H
  unfold y2u at H
  refine zb hN Z (za (zx Z Z) (zh (zg _ Z (fun h=>(lt_t h).elim) (fun h => ?_))))
  refine yt (zb hN Z (qe Z (zi ?_)))
  cases H
  exact ⟨U,.inl Z,U⟩
 ·rintro k2 x5 ⟨⟩ q3 h6 h7 H hq3
  replace H:z5a l1 k2 x5=some q3:=H
  unfold z5a at H
  refine zb hN Z (za (zx Z Z) (zh (zg _ Z (fun h => ?_) (fun h=>(lt_f h6 h).elim))))
  refine zl (zh (zw (zb hN Z (qd Z (za (we vj (fun _=>Z) Z Z h7) (za (qu tyS9 Z (qh h7) Z) (qe Z (qe Z (zh (zb hN Z (qd Z (bE H fun r8 h9 H=>za (zk (w1c x5 r8 h9) ⟨.inl Z,U⟩) (za (yq Z) (zg _ Z (fun h10 => ?_) (fun h10 => ?_)))))))))))))))
  ·refine tE h10 H fun H=>zb hN Z (qe Z (zi ?_))
   replace H:=retl H hq3
   cases H
   exact ⟨U,.inl Z,U⟩
  ·refine fE h10 H fun H=>zl (yd (ι:=Bool) (fun i=>[(0,.dat (vlst (List.map zr l1))),(5,.dat (vlst (List.map zr l1))),(6,.dat (vint (l1.length:Int))),(7,.dat (vint (k2:Int))),(25,.dat (ze i))]) (fun i=>[]) (fun i=>z5b i=some q3) (fun i=>Z) ?_ ?_)
   ·skip
    refine zp hN Z (qd Z (za (wg Z Z) (qd Z (yi (j:=2) Z Z (fun h11 => ?_) (fun h11 => ?_) Z))))
    ·exact u1 h11 H fun h12 H=>zf Z Z h11 (zd (.dat _) Z) (zf Z Z h11 (zd (.dat _) Z) (zf Z Z h11 (zd (.dat _) Z) (zf Z Z h11 (y02 Z Z (by omega)) (bE H fun x13 h14 H=>zf Z Z h11 (uu vj (fun _=>Z) Z Z h14) (zf Z Z h11 (qu tyS9 Z (qh (vo h14).2) Z) (zf Z Z h11 (y9h Z Z) (za (yf Z (bTT h12) Z) ⟨(Op.bytesLess x5 x13 || x5 == x13),H,⟨Z,Z,Z,Z,Z,U⟩,U⟩)))))))
    ·exact u2 h11 H fun h15 H=>zc Z Z h11 (zc Z Z h11 (zc Z Z h11 (zc Z Z h11 (zc Z Z h11 (zc Z Z h11 (zc Z Z h11 (za (ye Z (bFF h15) Z) ⟨false,H,⟨Z,Z,Z,Z,Z,U⟩,U⟩)))))))
   ·rintro v16 H
    replace H:z5b v16=some q3:=H
    unfold z5b at H
    refine zg _ Z (fun h17 => ?_) (fun h17 => ?_)
    ·refine tE h17 H fun H=>zb hN Z (qe Z (zi ?_))
     replace H:=retl H hq3
     cases H
     exact ⟨U,.inl Z,U⟩
    ·exact fE h17 H fun H=>zl (zp hN Z (za (qs Z Z (by omega)) (qd Z ⟨_,yx H,⟨Z,Z,Z,Z,U⟩,U⟩)))
theorem w0p (s t:Bs) (r:Bool) (H:y2c s t=some r):Fn Tryz.prog 160 [vstr s,vstr t] (zu [ze r]):=by
 unfold y2c at H
 obtain ⟨⟨h1,h2,h3⟩,h4⟩:=gif H
 cases h4
 refine Zh (by kernel_rfl) fun M w vs hM h => ?_
 have hv:=kr (us:=[.string ⟨s.toArray⟩,.string ⟨t.toArray⟩]) h
 subst hv
 refine (Tryz.strings_EqualFold ⟨s.toArray⟩ ⟨t.toArray⟩ w (by simp [ByteArray.size]; omega) (fun j b hb=>z6z h2 j b (by simpa using hb)) (fun j b hb=>z6z h3 j b (by simpa using hb))).mono ?_
 rintro e w' ⟨rfl,rfl⟩
 exact ⟨_,Z,Z,Kp.refl _ _⟩

theorem w0y (h1:zn) (name2:Bs) (r:(Bool)) (H:z8c h1 name2=some r):Fn Tryz.prog 107 [vagg (yb h1),vstr name2] (zu [ze r]):=by
 refine ⟨by kernel_rfl,yh (us:=[ze r]) Tryz.func107 Z Z Z Z fun X hN => ?_⟩
 unfold z8c at H
 refine zb hN Z (zj (wd 1 Z) Z (qe Z (zb hN Z (za (zq Qv Z) (zm (zv tyS9 Z Z) Z (qd Z (bE H fun r3 h4 H=>za (zk (w0p h1.Name name2 r3 h4) ⟨.inl Z,.inl Z,U⟩) (qe Z (zi ?_)))))))))
 cases H
 exact ⟨U,.inl Z,U⟩
theorem z86 (l1:(List zn)) (name2:Bs) (r:((List Bs))) (H:kw l1 name2=some r):Fn Tryz.prog 61 [vlst (List.map yb l1),vstr name2] (zu [vlst (List.map zr r)]):=by
 refine ⟨by kernel_rfl,yh (us:=[vlst (List.map zr r)]) Tryz.func61 Z Z Z Z fun X hN => ?_⟩
 unfold kw at H
 refine zb hN Z (qe Z (zb hN Z (qe Z (zh (zb hN Z (qd Z (za (qi uo Z) (qd Z (zw (jg 5 1 9 1 Z Z Z (gE H fun h6 H=>qw (fun (k4:Nat) (s:(List Bs))=>[(1,.dat (vstr name2)),(5,.row 1 s.length),(8,.dat (vlst (List.map yb l1))),(9,.dat (vint (l1.length:Int))),(10,.dat (vint (k4:Int)))]) (fun (k4:Nat) (s:(List Bs))=>[(1,.row 9 1 (List.map zr s))]) [] H ⟨Z,Z,Z,Z,Z,U⟩ ⟨Z,U⟩ (fun _ _=>Z) ?_ ?_)))))))))))
 ·rintro l3 H
  replace H:y13 l3=some r:=H
  unfold y13 at H
  refine zb hN Z (za (zx Z Z) (zh (zg _ Z (fun h=>(lt_t h).elim) (fun h => ?_))))
  refine yt (zb hN Z (za (zd (.row _ _) Z) (za (qm (.row _ _) Z) (zi ?_))))
  cases H
  exact ⟨U,z0p Z Z,U⟩
 ·rintro k4 x7 l3 q5 h8 h9 H hq5
  replace H:z03 name2 k4 x7 l3=some q5:=H
  unfold z03 at H
  refine zb hN Z (za (zx Z Z) (zh (zg _ Z (fun h => ?_) (fun h=>(lt_f h8 h).elim))))
  refine zl (yd (ι:=(List Bs)) (fun i=>[(1,.dat (vstr name2)),(5,.row 1 i.length),(8,.dat (vlst (List.map yb l1))),(9,.dat (vint (l1.length:Int))),(10,.dat (vint (k4:Int)))]) (fun i=>[(1,.row 9 1 (List.map zr i))]) (fun i=>z3t i=some q5) (fun i=>Z) ?_ ?_)
  ·skip
   refine zw (zb hN Z (za (we xg (fun _=>Z) Z Z h9) (za (xy jv Z (qh h9) Z) (zj (qv 2 kl Z) Z (zj (qk jv Z Z Z Z) Z (zb hN Z (zm (qa jv Z Z Z) Z (qd Z (bE H fun r10 h11 H=>za (zk (w0y x7 name2 r10 h11) ⟨.inl Z,.inl Z,U⟩) (zg _ Z (fun h12 => ?_) (fun h12 => ?_)))))))))))
   ·refine tE h12 H fun H=>zp hN Z (za (zd (.row _ _) Z) (za (zq z67 Z) (zm (zv tyS9 Z Z) Z (za (ya (u':=vlst (List.map zr [x7.Value])) (yo [[_]] yu ⟨Z,.inl ⟨_,Z,Z,Z⟩,Z,U⟩ Z Z) Z) (gE H fun h13 H=>zj (vk yu (fun _=>Z) Z Z Z ⟨by simp,by first | (simp; done) | simpa using h13⟩ Z) Z ?_)))))
    exact za (qm (.row _ _) Z) ⟨(l3++[x7.Value]),H,⟨Z,Z,Z,Z,Z,U⟩,⟨Z,U⟩⟩
   ·exact fE h12 H fun H=>zl ⟨l3,H,⟨Z,Z,Z,Z,Z,U⟩,⟨Z,U⟩⟩
  ·rintro out14 H
   replace H:z3t out14=some q5:=H
   unfold z3t at H
   exact zp hN Z (za (qs Z Z (by omega)) (qd Z ⟨_,yx H,⟨Z,Z,Z,Z,Z,U⟩,⟨Z,U⟩⟩))
theorem w02 (values1:(List Bs)) (r:((List Bs))) (H:Wm values1=some r):Fn Tryz.prog 60 [vlst (List.map zr values1)] (zu [vlst (List.map zr r)]):=by
 refine ⟨by kernel_rfl,yh (us:=[vlst (List.map zr r)]) Tryz.func60 Z Z Z Z fun X hN => ?_⟩
 unfold Wm at H
 refine zb hN Z (qe Z (zb hN Z (qe Z (zh (zb hN Z (qd Z (za (qi wq Z) (qd Z (zw (jg 3 1 9 1 Z Z Z (gE H fun h5 H=>qw (fun (k3:Nat) (s:(List Bs))=>[(3,.row 1 s.length),(8,.dat (vlst (List.map zr values1))),(9,.dat (vint (values1.length:Int))),(10,.dat (vint (k3:Int)))]) (fun (k3:Nat) (s:(List Bs))=>[(1,.row 9 1 (List.map zr s))]) [] H ⟨Z,Z,Z,Z,U⟩ ⟨Z,U⟩ (fun _ _=>Z) ?_ ?_)))))))))))
 ·rintro l2 H
  replace H:z3v l2=some r:=H
  unfold z3v at H
  refine zb hN Z (za (zx Z Z) (zh (zg _ Z (fun h=>(lt_t h).elim) (fun h => ?_))))
  refine yt (zb hN Z (za (zd (.row _ _) Z) (za (qm (.row _ _) Z) (zi ?_))))
  cases H
  exact ⟨U,z0p Z Z,U⟩
 ·rintro k3 x6 l2 q4 h7 h8 H hq4
  replace H:Ys k3 x6 l2=some q4:=H
  unfold Ys at H
  refine zb hN Z (za (zx Z Z) (zh (zg _ Z (fun h => ?_) (fun h=>(lt_f h7 h).elim))))
  refine zl (zh (zw (zb hN Z (za (we vj (fun _=>Z) Z Z h8) (za (qu tyS9 Z (qh h8) Z) (qe Z (zb hN Z (qd Z (bE H fun r9 h10 H=>za (zk (Qb x6 [44] r9 h10) ⟨.inl Z,.inl Z,U⟩) (za (qi wq Z) (qd Z (zw (gE H fun h14 H=>qw (fun (k12:Nat) (s:(List Bs))=>[(3,.row 1 s.length),(8,.dat (vlst (List.map zr values1))),(9,.dat (vint (values1.length:Int))),(10,.dat (vint (k3:Int))),(15,.dat (vlst (List.map zr r9))),(16,.dat (vint (r9.length:Int))),(17,.dat (vint (k12:Int)))]) (fun (k12:Nat) (s:(List Bs))=>[(1,.row 9 1 (List.map zr s))]) l2 H ⟨Z,Z,Z,Z,Z,Z,Z,U⟩ ⟨Z,U⟩ (fun _ _=>Z) ?_ ?_)))))))))))))
  ·rintro l11 H
   replace H:z3u l11=some q4:=H
   unfold z3u at H
   refine zb hN Z (za (zx Z Z) (zh (zg _ Z (fun h=>(lt_t h).elim) (fun h => ?_))))
   exact yt (zp hN Z (za (qs Z Z (by omega)) (qd Z ⟨_,yx H,⟨Z,Z,Z,Z,U⟩,⟨Z,U⟩⟩)))
  ·rintro k12 x15 l11 q13 h16 h17 H hq13
   replace H:Yr k12 x15 l11=some q13:=H
   unfold Yr at H
   refine zb hN Z (za (zx Z Z) (zh (zg _ Z (fun h => ?_) (fun h=>(lt_f h16 h).elim))))
   refine zl (yd (ι:=(List Bs)) (fun i=>[(3,.row 1 i.length),(8,.dat (vlst (List.map zr values1))),(9,.dat (vint (values1.length:Int))),(10,.dat (vint (k3:Int))),(15,.dat (vlst (List.map zr r9))),(16,.dat (vint (r9.length:Int))),(17,.dat (vint (k12:Int)))]) (fun i=>[(1,.row 9 1 (List.map zr i))]) (fun i=>Yt i=some q13) (fun i=>Z) ?_ ?_)
   ·skip
    refine zw (zb hN Z (za (we vj (fun _=>Z) Z Z h17) (za (qu tyS9 Z (qh h17) Z) (qe Z (zb hN Z (qd Z (bE H fun r18 h19 H=>za (zk (z5d x15 [32] r18 h19) ⟨.inl Z,.inl Z,U⟩) (qe Z (zb hN Z (qd Z (za (ji Z Z) (zg _ Z (fun h20 => ?_) (fun h20 => ?_)))))))))))))
    ·refine tE h20 H fun H=>zp hN Z (za (zd (.row _ _) Z) (qd Z (za (ya (u':=vlst (List.map zr [r18])) (yo [[_]] yu ⟨Z,.inl ⟨_,Z,Z,Z⟩,Z,U⟩ Z Z) Z) (gE H fun h21 H=>zj (vk yu (fun _=>Z) Z Z Z ⟨by simp,by first | (simp; done) | simpa using h21⟩ Z) Z ?_))))
     exact za (qm (.row _ _) Z) ⟨(l11++[r18]),H,⟨Z,Z,Z,Z,Z,Z,Z,U⟩,⟨Z,U⟩⟩
    ·exact fE h20 H fun H=>zl ⟨l11,H,⟨Z,Z,Z,Z,Z,Z,Z,U⟩,⟨Z,U⟩⟩
   ·rintro out22 H
    replace H:Yt out22=some q13:=H
    unfold Yt at H
    exact zp hN Z (za (qs Z Z (by omega)) (qd Z ⟨_,yx H,⟨Z,Z,Z,Z,Z,Z,Z,U⟩,⟨Z,U⟩⟩))
end Go.Proofs.YtmdllhcjefcggabGreatDoor
