/- Walks along the models. Printed by a program. -/
import Derived.Test.YtbndlmnjeofkdaaGreatDoorZsw6
namespace Go.Proofs.YtbndlmnjeofkdaaGreatDoor
open Go.RowKit
set_option linter.unusedVariables false
set_option maxRecDepth 100000
set_option maxHeartbeats 2000000
theorem w0h (s1:(List Bs)) (p1:Bs→Option (Bool)) (fv1:Nat) (us1:List V) (hp1:∀ a0 r,p1 a0=some r→Fn Tryz.prog fv1 ([vstr a0]++us1) (zt [zh r])) (r:(Int)) (H:y3x s1 p1=some r):Fn Tryz.prog 144 [vlst (List.map zq s1),vfn fv1 us1] (zt [vint r]):=by
 refine ⟨by kernel_rfl,yf (us:=[vint r]) Tryz.func144 Z Z Z Z fun X hN => ?_⟩
 unfold y3x at H
 refine zb hN Z (qe Z (zf (zb hN Z (qd Z (za (qf wm Z) (qd Z (zx (gE H fun h4 H=>qy (fun (k2:Nat) (s:Unit)=>[(0,.dat (vlst (List.map zq s1))),(1,.dat (vfn fv1 us1)),(7,.dat (vint (s1.length:Int))),(8,.dat (vint (k2:Int)))]) (fun (k2:Nat) (s:Unit)=>[]) () H ⟨Z,Z,Z,Z,U⟩ U (fun _ _=>Z) ?_ ?_))))))))
 ·rintro ⟨⟩ H
  replace H:y2z=some r:=H
  unfold y2z at H
  refine zb hN Z (za (zy Z Z) (zf (zg _ Z (fun h=>(lt_t h).elim) (fun h => ?_))))
  refine yt (zb hN Z (qe Z (zi ?_)))
  cases H
  exact ⟨U,.inl Z,U⟩
 ·rintro k2 x5 ⟨⟩ q3 h6 h7 H hq3
  replace H:y2y p1 k2 x5=some q3:=H
  unfold y2y at H
  refine zb hN Z (za (zy Z Z) (zf (zg _ Z (fun h => ?_) (fun h=>(lt_f h6 h).elim))))
  refine zl (zf (zx (zb hN Z (qd Z (qe Z (zb hN Z (qd Z (qd Z (qd Z (za (wi vm (fun _=>Z) Z Z h7) (za (qz tyS9 Z (qg h7) Z) (bE H fun r8 h9 H=>za (z87 (hp1 x5 r8 h9) Z ⟨.inl Z,U⟩) (zg _ Z (fun h10 => ?_) (fun h10 => ?_))))))))))))))
  ·refine tE h10 H fun H=>zb hN Z (qd Z (qe Z (zi ?_)))
   replace H:=retl H hq3
   cases H
   exact ⟨U,.inl Z,U⟩
  ·exact fE h10 H fun H=>zl (zp hN Z (za (qj Z Z (by omega)) (qd Z ⟨_,yx H,⟨Z,Z,Z,Z,U⟩,U⟩)))
theorem w0l (s1:(List Bs)) (p1:Bs→Option (Bool)) (fv1:Nat) (us1:List V) (hp1:∀ a0 r,p1 a0=some r→Fn Tryz.prog fv1 ([vstr a0]++us1) (zt [zh r])) (r:(Bool)) (H:z2z s1 p1=some r):Fn Tryz.prog 87 [vlst (List.map zq s1),vfn fv1 us1] (zt [zh r]):=by
 refine ⟨by kernel_rfl,yf (us:=[zh r]) Tryz.func87 Z Z Z Z fun X hN => ?_⟩
 unfold z2z at H
 refine zb hN Z (qe Z (zb hN Z (qd Z (qd Z (bE H fun r2 h3 H=>za (zm (w0h s1 p1 fv1 us1 hp1 r2 h3) ⟨.inl Z,.inl Z,U⟩) (za (wx Z Z) (qe Z (zi ?_))))))))
 cases H
 exact ⟨U,.inl Z,U⟩
theorem w0j (s1:(List Bs)) (s2:(List Bs)) (r:(Bool)) (H:z2x s1 s2=some r):Fn Tryz.prog 89 [vlst (List.map zq s1),vlst (List.map zq s2)] (zt [zh r]):=by
 refine ⟨by kernel_rfl,yf (us:=[zh r]) Tryz.func89 Z Z Z Z fun X hN => ?_⟩
 unfold z2x at H
 refine zb hN Z (qe Z (zf (zb hN Z (qd Z (za (qf wm Z) (qd Z (za (qf wm Z) (za (qp Z Z) (zg _ Z (fun h3 => ?_) (fun h3 => ?_))))))))))
 ·refine tE h3 H fun H=>zb hN Z (qe Z (zi ?_))
  cases H
  exact ⟨U,.inl Z,U⟩
 ·refine fE h3 H fun H=>zl (zf (zb hN Z (qd Z (za (qf wm Z) (qd Z (zx (gE H fun h6 H=>qy (fun (k4:Nat) (s:Unit)=>[(0,.dat (vlst (List.map zq s1))),(1,.dat (vlst (List.map zq s2))),(12,.dat (vint (s1.length:Int))),(13,.dat (vint (k4:Int)))]) (fun (k4:Nat) (s:Unit)=>[]) () H ⟨Z,Z,Z,Z,U⟩ U (fun _ _=>Z) ?_ ?_)))))))
  ·rintro ⟨⟩ H
   replace H:y22=some r:=H
   unfold y22 at H
   refine zb hN Z (za (zy Z Z) (zf (zg _ Z (fun h=>(lt_t h).elim) (fun h => ?_))))
   refine yt (zb hN Z (qe Z (zi ?_)))
   cases H
   exact ⟨U,.inl Z,U⟩
  ·rintro k4 x7 ⟨⟩ q5 h8 h9 H hq5
   replace H:z9g s2 k4 x7=some q5:=H
   unfold z9g at H
   refine zb hN Z (za (zy Z Z) (zf (zg _ Z (fun h => ?_) (fun h=>(lt_f h8 h).elim))))
   refine zl (zf (zx (zb hN Z (qd Z (qe Z (zf (vi mixed hN Z Z (qd Z (qd Z (za (wi vm (fun _=>Z) Z Z h9) (za (qz tyS9 Z (qg h9) Z) (qd Z (qd Z (bE H fun x10 h11 H=>za (wi vm (fun _=>Z) Z Z h11) (za (qz tyS9 Z (qg h11) Z) (za (kj Z Z) ⟨Z,?_⟩))))))))))))))))
   refine zg _ Z (fun h12 => ?_) (fun h12 => ?_)
   ·refine tE h12 H fun H=>zb hN Z (qe Z (zi ?_))
    replace H:=retl H hq5
    cases H
    exact ⟨U,.inl Z,U⟩
   ·exact fE h12 H fun H=>zl (zp hN Z (za (qj Z Z (by omega)) (qd Z ⟨_,yx H,⟨Z,Z,Z,Z,U⟩,U⟩)))
theorem w1r (n1:Bs) (c2:zu) (c3:zu) (r:(Bool)) (H:z0l n1 c2 c3=some r):Fn Tryz.prog 88 [vstr n1,jg [[vint c2.At,vstr c2.Method,vstr c2.Host,vstr c2.Path,vstr c2.Query,vstr c2.From,vlst (List.map yh c2.Headers),vstr c2.Body]] 0 0,jg [[vint c3.At,vstr c3.Method,vstr c3.Host,vstr c3.Path,vstr c3.Query,vstr c3.From,vlst (List.map yh c3.Headers),vstr c3.Body]] 0 0] (zt [zh r]):=by
 refine ⟨by kernel_rfl,yf (us:=[zh r]) Tryz.func88 Z Z Z Z fun X hN => ?_⟩
 unfold z0l at H
 refine zb hN Z (qe Z (zf (vi mixed hN Z Z (za (z85 js Z) (za (qz vk Z Z Z) (qd Z (bE H fun r4 h5 H=>za (zm (y0j c2.Headers n1 r4 h5) ⟨.inl Z,.inl Z,U⟩) (za (z85 js Z) (za (qz vk Z Z Z) (qd Z (bE H fun r6 h7 H=>za (zm (y0j c3.Headers n1 r6 h7) ⟨.inl Z,.inl Z,U⟩) (bE H fun r8 h9 H=>za (zm (w0j r4 r6 r8 h9) ⟨.inl Z,.inl Z,U⟩) (za (yr Z) (qe Z ⟨Z,?_⟩))))))))))))))
 refine zi ?_
 cases H
 exact ⟨U,.inl Z,U⟩
theorem w1s (own1:zu) (a2:ym) (r3:zu) (r:(Bool)) (H:z3j own1 a2 r3=some r):Fn Tryz.prog 39 [vagg (we own1),vagg (ku a2),vagg (we r3)] (zt [zh r]):=by
 refine ⟨by kernel_rfl,yf (us:=[zh r]) Tryz.func39 Z Z Z Z fun X hN => ?_⟩
 unfold z3j at H
 refine zb hN Z (zk (wy 1 Z) Z (zk (wy 2 Z) Z (zk (wy 3 Z) Z (qe Z (zf (zb hN Z (za (zw Qu Z) (zr (ye tyS9 Z Z) Z (za (zw Qu Z) (zr (ye tyS9 Z Z) Z (za (kj Z Z) (qd Z (yv Z Z (fun hc=>zw Qt Z) (z2d Z Z (fun hc=>ye tyS9 (cnd (c:=(!(decide (own1.Host≠r3.Host)))) hc) Z) Z Ql (yv Z Z (fun hc=>zw Qt Z) (z2d Z Z (fun hc=>ye tyS9 (cnd (c:=(!(decide (own1.Host≠r3.Host)))) hc) Z) Z Ql (yv Z Z (fun hc=>kj (cnd (c:=(!(decide (own1.Host≠r3.Host)))) hc) (cnd (c:=(!(decide (own1.Host≠r3.Host)))) hc)) (za (vr Z Z (fun hb=>(cnd (c:=(!(decide (own1.Host≠r3.Host)))) (notI hb)))) (qd Z (yv Z Z (fun hc=>zw Qs Z) (z2d Z Z (fun hc=>ye tyS9 (cnd (c:=(!((decide (own1.Host≠r3.Host)) || (decide (own1.Path≠r3.Path))))) hc) Z) Z Ql (yv Z Z (fun hc=>zw Qs Z) (z2d Z Z (fun hc=>ye tyS9 (cnd (c:=(!((decide (own1.Host≠r3.Host)) || (decide (own1.Path≠r3.Path))))) hc) Z) Z Ql ?_)))))))))))))))))))))))
 refine yv Z Z (fun hc=>kj (cnd (c:=(!((decide (own1.Host≠r3.Host)) || (decide (own1.Path≠r3.Path))))) hc) (cnd (c:=(!((decide (own1.Host≠r3.Host)) || (decide (own1.Path≠r3.Path))))) hc)) (za (vr Z Z (fun hb=>(cnd (c:=(!((decide (own1.Host≠r3.Host)) || (decide (own1.Path≠r3.Path))))) (notI hb)))) (qd Z (yv Z Z (fun hc=>zw Yi Z) (z2d Z Z (fun hc=>ye tyS9 (cnd (c:=(!(((decide (own1.Host≠r3.Host)) || (decide (own1.Path≠r3.Path))) || (decide (own1.Query≠r3.Query))))) hc) Z) Z Ql (yv Z Z (fun hc=>zw Yi Z) (z2d Z Z (fun hc=>ye tyS9 (cnd (c:=(!(((decide (own1.Host≠r3.Host)) || (decide (own1.Path≠r3.Path))) || (decide (own1.Query≠r3.Query))))) hc) Z) Z Ql (yv Z Z (fun hc=>kj (cnd (c:=(!(((decide (own1.Host≠r3.Host)) || (decide (own1.Path≠r3.Path))) || (decide (own1.Query≠r3.Query))))) hc) (cnd (c:=(!(((decide (own1.Host≠r3.Host)) || (decide (own1.Path≠r3.Path))) || (decide (own1.Query≠r3.Query))))) hc)) (yv Z Z (fun hc=>zd (.dat _) (cnd (c:=(!(((decide (own1.Host≠r3.Host)) || (decide (own1.Path≠r3.Path))) || (decide (own1.Query≠r3.Query))))) hc)) (wc Z Z (fun hc=>zw Yi Z) (y8n Z Z (fun hc=>ye tyS9 (cnd (c:=((!(((decide (own1.Host≠r3.Host)) || (decide (own1.Path≠r3.Path))) || (decide (own1.Query≠r3.Query)))) && (decide (own1.Method≠r3.Method)))) hc) Z) Z Ql (wc Z Z (fun hc=>va (cnd (c:=((!(((decide (own1.Host≠r3.Host)) || (decide (own1.Path≠r3.Path))) || (decide (own1.Query≠r3.Query)))) && (decide (own1.Method≠r3.Method)))) hc) Z) (wc Z Z (fun hc=>zd (.dat _) (cnd (c:=((!(((decide (own1.Host≠r3.Host)) || (decide (own1.Path≠r3.Path))) || (decide (own1.Query≠r3.Query)))) && (decide (own1.Method≠r3.Method)))) hc)) (wc Z Z (fun hc=>zw Yi Z) (y8n Z Z (fun hc=>ye tyS9 (cnd (c:=(((!(((decide (own1.Host≠r3.Host)) || (decide (own1.Path≠r3.Path))) || (decide (own1.Query≠r3.Query)))) && (decide (own1.Method≠r3.Method))) && (decide (own1.Method=[71,69,84])))) hc) Z) Z Ql (wc Z Z (fun hc=>va (cnd (c:=(((!(((decide (own1.Host≠r3.Host)) || (decide (own1.Path≠r3.Path))) || (decide (own1.Query≠r3.Query)))) && (decide (own1.Method≠r3.Method))) && (decide (own1.Method=[71,69,84])))) hc) Z) (wc Z Z (fun hc=>ww (cnd (c:=((!(((decide (own1.Host≠r3.Host)) || (decide (own1.Path≠r3.Path))) || (decide (own1.Query≠r3.Query)))) && (decide (own1.Method≠r3.Method)))) hc) (fun hb=>(cnd (c:=(((!(((decide (own1.Host≠r3.Host)) || (decide (own1.Path≠r3.Path))) || (decide (own1.Query≠r3.Query)))) && (decide (own1.Method≠r3.Method))) && (decide (own1.Method=[71,69,84])))) (andI hc hb))) Z) (wc Z Z (fun hc=>yr (cnd (c:=((!(((decide (own1.Host≠r3.Host)) || (decide (own1.Path≠r3.Path))) || (decide (own1.Query≠r3.Query)))) && (decide (own1.Method≠r3.Method)))) hc)) (yv Z Z (fun hc=>ww (cnd (c:=(!(((decide (own1.Host≠r3.Host)) || (decide (own1.Path≠r3.Path))) || (decide (own1.Query≠r3.Query))))) hc) (fun hb=>(cnd (c:=((!(((decide (own1.Host≠r3.Host)) || (decide (own1.Path≠r3.Path))) || (decide (own1.Query≠r3.Query)))) && (decide (own1.Method≠r3.Method)))) (andI hc hb))) Z) (za (vr Z Z (fun hb=>(cnd (c:=(!(((decide (own1.Host≠r3.Host)) || (decide (own1.Path≠r3.Path))) || (decide (own1.Query≠r3.Query))))) (notI hb)))) (zg _ Z (fun h4 => ?_) (fun h4 => ?_)))))))))))))))))))))
 ·refine tE h4 H fun H=>zb hN Z (qe Z (zi ?_))
  cases H
  exact ⟨U,.inl Z,U⟩
 ·refine fE h4 H fun H=>zl (zb hN Z (zr (qh jz Z Z Z) Z (bE H fun r5 h6 H=>za (zm (y0l a2 r5 h6) ⟨.inl Z,U⟩) (qd Z (za (yd Z Z) (za (yd Z Z) (za (yd Z Z) (qe Z (qe Z (qe Z (zf (zb hN Z (qd Z (qd Z (yv Z Z (fun hc=>zd (.dat _) Z) (yv Z Z (fun hc=>qp (cnd (c:=(!r5.2.1)) hc) Z) (za (vr Z Z (fun hb=>(cnd (c:=(!r5.2.1)) (notI hb)))) (zg _ Z (fun h7 => ?_) (fun h7 => ?_)))))))))))))))))))
  ·refine tE h7 H fun H=>zb hN Z (qe Z (zi ?_))
   cases H
   exact ⟨U,.inl Z,U⟩
  ·refine fE h7 H fun H=>zl (zf (x2r 1 [vint own1.At,vstr own1.Method,vstr own1.Host,vstr own1.Path,vstr own1.Query,vstr own1.From,vlst (List.map yh own1.Headers),vstr own1.Body] Z Z (x2r 3 [vint r3.At,vstr r3.Method,vstr r3.Host,vstr r3.Path,vstr r3.Query,vstr r3.From,vlst (List.map yh r3.Headers),vstr r3.Body] Z Z (zp hN Z (qd Z (za (y7m (us:=[_,_]) ⟨Z,Z,U⟩) (bE H fun r8 h9 H=>za (zm (w0l r5.1 (fun (a0:Bs)=>z0l a0 own1 r3) 88 [jg [[vint own1.At,vstr own1.Method,vstr own1.Host,vstr own1.Path,vstr own1.Query,vstr own1.From,vlst (List.map yh own1.Headers),vstr own1.Body]] 0 0,jg [[vint r3.At,vstr r3.Method,vstr r3.Host,vstr r3.Path,vstr r3.Query,vstr r3.From,vlst (List.map yh r3.Headers),vstr r3.Body]] 0 0] (fun a0 r h=>w1r a0 own1 r3 r h) r8 h9) ⟨.inl Z,.inl Z,U⟩) (za (yr Z) (qe Z (zi ?_))))))))))
   cases H
   exact ⟨U,.inl Z,U⟩
theorem x0s (e1:qo) (r2:zu) (r:(Bool×Int)) (H:z3l e1 r2=some r):Fn Tryz.prog 9 [vagg (uc e1),vagg (we r2)] (zt [zh r.1,vint r.2]):=by
 refine ⟨by kernel_rfl,yf (us:=[zh r.1,vint r.2]) Tryz.func9 Z Z Z Z fun X hN => ?_⟩
 unfold z3l at H
 refine zb hN Z (zk (wy 1 Z) Z (zk (wy 2 Z) Z (qe Z (qe Z (zf (zb hN Z (zr (qh jn Z Z Z) Z (zr (qh ql Z Z Z) Z (bE H fun r3 h4 H=>za (zm (w1v e1 r2 r3 h4) ⟨.inl Z,.inl Z,U⟩) (qe Z (zb hN Z (qd Z (za (qp Z Z) (zg _ Z (fun h5 => ?_) (fun h5 => ?_)))))))))))))))
 ·refine tE h5 H fun H=>zb hN Z (qd Z (qe Z (qe Z (zi ?_))))
  cases H
  exact ⟨U,.inl Z,.inl Z,U⟩
 ·refine fE h5 H fun H=>zl (zb hN Z (za (zw z14 Z) (zr (qh ql Z Z Z) Z (zr (qh ql Z Z Z) Z (bE H fun r6 h7 H=>za (zm (w1w e1.Request r2 r6 h7) ⟨.inl Z,.inl Z,U⟩) (qd Z (za (yd Z Z) (za (yd Z Z) (za (yd Z Z) (zk (wd 3 jy Z) Z (zk (wd 4 jy Z) Z (zk (qw ql Z Z Z Z) Z (zk (qw ql Z Z Z Z) Z (qe Z (zf (zb hN Z (qd Z (za (qp Z Z) (zg _ Z (fun h8 => ?_) (fun h8 => ?_))))))))))))))))))))
  ·refine tE h8 H fun H=>zb hN Z (qd Z (qe Z (qe Z (zi ?_))))
   cases H
   exact ⟨U,.inl Z,.inl Z,U⟩
  ·refine fE h8 H fun H=>zl (zb hN Z (zr (qh ql Z Z Z) Z (za (zw z13 Z) (zr (qh jz Z Z Z) Z (zr (qh ql Z Z Z) Z (bE H fun r9 h10 H=>za (zm (w1s r6.1 e1.Response r6.2.1 r9 h10) ⟨.inl Z,.inl Z,.inl Z,U⟩) (qe Z (qe Z (zi ?_)))))))))
   cases H
   exact ⟨U,.inl Z,.inl Z,U⟩
theorem w1z (a1:ym) (r:((List Bs)×Bool×Int)) (H:z67 a1=some r):Fn Tryz.prog 10 [vagg (ku a1)] (zt [vlst (List.map zq r.1),zh r.2.1,vint r.2.2]):=by
 refine ⟨by kernel_rfl,yf (us:=[vlst (List.map zq r.1),zh r.2.1,vint r.2.2]) Tryz.func10 Z Z Z Z fun X hN => ?_⟩
 unfold z67 at H
 refine zb hN Z (zk (wy 1 Z) Z (qe Z (qe Z (qe Z (zf (zb hN Z (zr (qh jz Z Z Z) Z (bE H fun r2 h3 H=>za (zm (y4l a1 r2 h3) ⟨.inl Z,U⟩) (qe Z (zb hN Z (qd Z (za (qp Z Z) (zg _ Z (fun h4 => ?_) (fun h4 => ?_))))))))))))))
 ·refine tE h4 H fun H=>zb hN Z (qd Z (qe Z (qe Z (qe Z (zi ?_)))))
  cases H
  exact ⟨U,.inr ⟨Z,Z⟩,.inl Z,.inl Z,U⟩
 ·refine fE h4 H fun H=>zl (zb hN Z (zr (qh jz Z Z Z) Z (bE H fun r5 h6 H=>za (zm (y0l a1 r5 h6) ⟨.inl Z,U⟩) (za (yd Z Z) (za (yd Z Z) (za (yd Z Z) (qe Z (qe Z (qe Z (zi ?_))))))))))
  cases H
  exact ⟨U,.inl Z,.inl Z,.inl Z,U⟩
theorem w04 (v1:(List Int)) (r:(Bool)) (H:z95 v1=some r):Fn Tryz.prog 3 [vlst (List.map qk v1)] (zt [zh r]):=by
 refine ⟨by kernel_rfl,yf (us:=[zh r]) Tryz.func3 Z Z Z Z fun X hN => ?_⟩
 unfold z95 at H
 refine zb hN Z (qe Z (zb hN Z (qd Z (za (yb (u':=vagg (qa (zn.mk v1 0))) (vc [(0,[vlst (List.map qk v1)])] x4h x4o Z ⟨Z,.inl ⟨_,Z,Z,Z⟩,Z,U⟩) Z) (zk (wy 1 Z) Z (za (qr (.ptr _ _) Z) (zb hN Z (za (zd (.ptr _ _) Z) (bE H fun r2 h3 H=>zk (yi (x0q (zn.mk v1 0) 0 r2 h3) Z ⟨.inl Z,U⟩ Z) Z (zk (wd 2 jy Z) Z (zk (qw ql Z Z Z Z) Z (zb hN Z (zr (qh ql Z Z Z) Z (bE H fun r4 h5 H=>za (zm (y4k r2.1 r4 h5) ⟨.inl Z,U⟩) (qd Z (za (yd Z Z) (za (yd Z Z) (zk (wd 3 jy Z) Z (zk (qw ql Z Z Z Z) Z (qe Z (zf ?_)))))))))))))))))))))
 refine zb hN Z (qd Z (za (qp Z Z) (zg _ Z (fun h6 => ?_) (fun h6 => ?_))))
 ·refine tE h6 H fun H=>zb hN Z (bE H fun r7 h8 H=>za (zm (y4o  r7 h8) U) (qe Z (zi ?_)))
  cases H
  exact ⟨U,.inl Z,U⟩
 ·refine fE h6 H fun H=>zl (zb hN Z (za (zd (.ptr _ _) Z) (bE H fun r9 h10 H=>zk (yi (w1h r2.2 r9 h10) Z U Z) Z (zk (wd 4 Qo Z) Z (zk (qw jn Z Z Z Z) Z (zb hN Z (zr (qh ql Z Z Z) Z (za (zw z14 Z) (zk (x52 ql Z Z Z Z) Z (zb hN Z (za (zw z14 Z) (za (zw y2a Z) (zk (jt tyS3 Z Z Z Z) Z (zf (zb hN Z (zr (qh jn Z Z Z) Z (bE H fun r11 h12 H=>za (zm (x0t (qo.mk (zu.mk 0 r2.1.Method r2.1.Host r2.1.Path r2.1.Query r2.1.From r2.1.Headers r2.1.Body) r9.1.Response r9.1.At r9.1.Tags r9.1.Used) r11 h12) ⟨.inl Z,U⟩) (za (qp Z Z) (zg _ Z (fun h13 => ?_) (fun h13 => ?_))))))))))))))))))))
  ·refine tE h13 H fun H=>zb hN Z (bE H fun r14 h15 H=>za (zm (y4o  r14 h15) U) (qe Z (zi ?_)))
   cases H
   exact ⟨U,.inl Z,U⟩
  ·refine fE h13 H fun H=>zl (zb hN Z (zr (qh jn Z Z Z) Z (zr (qh ql Z Z Z) Z (bE H fun r16 h17 H=>za (zm (x0s (qo.mk (zu.mk 0 r2.1.Method r2.1.Host r2.1.Path r2.1.Query r2.1.From r2.1.Headers r2.1.Body) r9.1.Response r9.1.At r9.1.Tags r9.1.Used) r2.1 r16 h17) ⟨.inl Z,.inl Z,U⟩) (qd Z (za (yd Z Z) (za (yd Z Z) (qe Z (qe Z (zb hN Z (zr (qh jn Z Z Z) Z (zr (qh ql Z Z Z) Z (bE H fun r18 h19 H=>za (zm (x0s (qo.mk (zu.mk 0 r2.1.Method r2.1.Host r2.1.Path r2.1.Query r2.1.From r2.1.Headers r2.1.Body) r9.1.Response r9.1.At r9.1.Tags r9.1.Used) (zu.mk r4.1.At r4.1.Method r4.1.Host r4.1.Path r4.1.Query r4.1.From r4.1.Headers r4.1.Body) r18 h19) ⟨.inl Z,.inl Z,U⟩) (qd Z (za (yd Z Z) (za (yd Z Z) (qe Z (qe Z (zb hN Z (za (zw z13 Z) ?_))))))))))))))))))))
   refine zr (qh jz Z Z Z) Z (bE H fun r20 h21 H=>za (zm (w1z r9.1.Response r20 h21) ⟨.inl Z,U⟩) (qd Z (za (yd Z Z) (za (yd Z Z) (za (yd Z Z) (qe Z (qe Z (qe Z (yc (ι:=Bool) (fun i=>[(2,.dat (zh i))]) (fun i=>[]) (fun i=>Zz i=some r) (fun i=>Z) ?_ ?_)))))))))
   ·skip
    refine zp hN Z (qd Z (za (yu Z Z) (qd Z (yg (j:=2) Z Z (fun h22 => ?_) (fun h22 => ?_) Z))))
    ·refine u1 h22 H fun h23 H=>ze Z Z h22 (zd (.dat _) Z) (ze Z Z h22 (yu Z Z) (za (zz Z (bTT h23) Z) (qd Z (yg (j:=6) Z Z (fun h24 => ?_) (fun h24 => ?_) Z))))
     ·refine u1 h24 H fun h25 H=>ze Z Z h24 (zd (.dat _) Z) (ze Z Z h24 (yu Z Z) (za (zz Z (bTT h25) Z) (qd Z (yg (j:=10) Z Z (fun h26 => ?_) (fun h26 => ?_) Z))))
      ·refine u1 h26 H fun h27 H=>ze Z Z h26 (zd (.dat _) Z) (ze Z Z h26 (zd (.dat _) Z) (ze Z Z h26 (yr Z) (ze Z Z h26 (y70 tyU4 Z Z) (za (zz Z (bTT h27) Z) (qd Z (yg (j:=16) Z Z (fun h28 => ?_) (fun h28 => ?_) Z))))))
       ·refine u1 h28 H fun h29 H=>ze Z Z h28 (zd (.dat _) Z) (ze Z Z h28 (zd (.dat _) Z) (ze Z Z h28 (y70 tyU4 Z Z) (za (zz Z (bTT h29) Z) (qd Z (yg (j:=21) Z Z (fun h30 => ?_) (fun h30 => ?_) Z)))))
        ·exact u1 h30 H fun h31 H=>bE H fun r32 h33 H=>ze Z Z h30 (zm (y4o  r32 h33) U) (za (zz Z (bTT h31) Z) (qe Z ⟨r32,H,⟨Z,U⟩,U⟩))
        ·exact u2 h30 H fun h34 H=>zc Z Z h30 (za (zv Z (bFF h34) Z) (qe Z ⟨false,H,⟨Z,U⟩,U⟩))
       ·exact u2 h28 H fun h35 H=>zc Z Z h28 (zc Z Z h28 (zc Z Z h28 (za (zv Z (bFF h35) Z) (qd Z (zc Z Z Z (za (zv Z Z Z) (qe Z ⟨false,H,⟨Z,U⟩,U⟩)))))))
      ·exact u2 h26 H fun h36 H=>zc Z Z h26 (zc Z Z h26 (zc Z Z h26 (zc Z Z h26 (za (zv Z (bFF h36) Z) (qd Z (zc Z Z Z (zc Z Z Z (zc Z Z Z (za (zv Z Z Z) (qd Z (zc Z Z Z (za (zv Z Z Z) (qe Z ⟨false,H,⟨Z,U⟩,U⟩)))))))))))))
     ·exact u2 h24 H fun h37 H=>zc Z Z h24 (zc Z Z h24 (za (zv Z (bFF h37) Z) (qd Z (zc Z Z Z (zc Z Z Z (zc Z Z Z (zc Z Z Z (za (zv Z Z Z) (qd Z (zc Z Z Z (zc Z Z Z (zc Z Z Z (za (zv Z Z Z) (qd Z (zc Z Z Z (za (zv Z Z Z) (qe Z ⟨false,H,⟨Z,U⟩,U⟩)))))))))))))))))
    ·exact u2 h22 H fun h38 H=>zc Z Z h22 (zc Z Z h22 (za (zv Z (bFF h38) Z) (qd Z (zc Z Z Z (zc Z Z Z (za (zv Z Z Z) (qd Z (zc Z Z Z (zc Z Z Z (zc Z Z Z (zc Z Z Z (za (zv Z Z Z) (qd Z (zc Z Z Z (zc Z Z Z (zc Z Z Z (za (zv Z Z Z) (qd Z (zc Z Z Z (za (zv Z Z Z) (qe Z ⟨false,H,⟨Z,U⟩,U⟩)))))))))))))))))))))
   ·rintro v39 H
    replace H:Zz v39=some r:=H
    unfold Zz at H
    refine zi ?_
    cases H
    exact ⟨U,.inl Z,U⟩
end Go.Proofs.YtbndlmnjeofkdaaGreatDoor
