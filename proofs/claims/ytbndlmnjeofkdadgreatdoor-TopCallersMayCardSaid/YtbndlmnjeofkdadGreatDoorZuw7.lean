/- Walks along the models. Printed by a program. -/
import Derived.Test.YtbndlmnjeofkdadGreatDoorZuw6
namespace Go.Proofs.YtbndlmnjeofkdadGreatDoor
open Go.RowKit
set_option linter.unusedVariables false
set_option maxRecDepth 100000
set_option maxHeartbeats 2000000
theorem x9b (v1:vg) (v2:ud) (r:(qg×Int)) (H:z1u v1 v2=some r):Fn Tryz.prog 11 [vagg (z3a v1),vagg (y5i v2)] (zu [vagg (wn r.1),vint r.2]):=by
 refine ⟨by kernel_rfl,zy (us:=[vagg (wn r.1),vint r.2]) Tryz.func11 Z Z Z Z fun X hN => ?_⟩
 unfold z1u at H
 refine zb hN Z (zk (vr 1 Z) Z (zk (vr 2 Z) Z (zk (qr 3 vx Z) Z (qe Z (ze (zb hN Z (zp (vh z0s Z Z Z) Z (bE H fun r3 h4 H=>za (zl (x89 v1 r3 h4) ⟨.inl Z,U⟩) (qe Z (zb hN Z (qd Z (za (ql Z Z) (zg _ Z (fun h5 => ?_) (fun h5 => ?_))))))))))))))
 ·refine tE h5 H fun H=>zb hN Z (za (qy (u':=vagg (wn (qg.mk 0 [] []))) (wc (by exact ⟨zq,zq,yq,U⟩)) (qf [] vx kv Z U)) ?_)
  refine qd Z (zk (ym we Z Z Z Z) Z (qe Z (zh ?_)))
  cases H
  exact ⟨U,.inl ⟨_,_,_,wn (qg.mk 0 [] []),Z,Z,Z,Z,we⟩,.inl Z,U⟩
 ·refine fE h5 H fun H=>zj (ze (zb hN Z (zp (vh x2j Z Z Z) Z (bE H fun r6 h7 H=>za (zl (x96 v2 r6 h7) ⟨.inl Z,U⟩) (qe Z (zb hN Z (qd Z (za (ql Z Z) (zg _ Z (fun h8 => ?_) (fun h8 => ?_))))))))))
  ·refine tE h8 H fun H=>zb hN Z (za (qy (u':=vagg (wn (qg.mk 0 [] []))) (wc (by exact ⟨zq,zq,yq,U⟩)) (qf [] vx kv Z U)) ?_)
   refine qd Z (zk (ym we Z Z Z Z) Z (qe Z (zh ?_)))
   cases H
   exact ⟨U,.inl ⟨_,_,_,wn (qg.mk 0 [] []),Z,Z,Z,Z,we⟩,.inl Z,U⟩
  ·refine fE h8 H fun H=>zj (ze (wq mixed hN Z Z (za (zo y1d Z) (zp (zr z0r Z Z) Z (bE H fun r9 h10 H=>za (zl (z91 v2.Headers [97,117,116,104,111,114,105,122,97,116,105,111,110] r9 h10) ⟨.inl Z,.inl Z,U⟩) (za (zo y1d Z) (zp (zr z0r Z Z) Z (bE H fun r11 h12 H=>za (zl (z91 v2.Headers [120,45,97,112,105,45,107,101,121] r11 h12) ⟨.inl Z,.inl Z,U⟩) (qe Z (qe Z ⟨Z,?_⟩))))))))))
   refine ze (zx (zb hN Z (qd Z (za (yo qi Z) (za (qc Z Z) (qd Z (yg Z Z (fun hc=>zi (.dat _) Z) (yg Z Z (fun hc=>yo qi (cnd (c:=(!(decide (1 < (r9.length:Int))))) hc)) (yg Z Z (fun hc=>qc (cnd (c:=(!(decide (1 < (r9.length:Int))))) hc) Z) (za (ve Z Z (fun hb=>(cnd (c:=(!(decide (1 < (r9.length:Int))))) (notI hb)))) (qe Z (zg _ Z (fun h13 => ?_) (fun h13 => ?_)))))))))))))
   ·refine tE h13 H fun H=>zb hN Z (za (qy (u':=vagg (wn (qg.mk 0 [] []))) (wc (by exact ⟨zq,zq,yq,U⟩)) (qf [] vx kv Z U)) ?_)
    refine zk (ym we Z Z Z Z) Z (qe Z (zh ?_))
    cases H
    exact ⟨U,.inl ⟨_,_,_,wn (qg.mk 0 [] []),Z,Z,Z,Z,we⟩,.inl Z,U⟩
   ·refine fE h13 H fun H=>zb hN Z (qd Z (za (yo qi Z) (za (yw Z Z) (qd Z (qa Z Z (fun hc=>zi (.dat _) Z) (qa Z Z (fun hc=>yo qi (cnd (c:=(decide ((r9.length:Int)=1))) hc)) (qa Z Z (fun hc=>yw (cnd (c:=(decide ((r9.length:Int)=1))) hc) Z) (za (wx Z (fun hb=>(cnd (c:=(decide ((r9.length:Int)=1))) hb)) Z) (qe Z (zg _ Z (fun h14 => ?_) (fun h14 => ?_)))))))))))
    ·refine tE h14 H fun H=>zb hN Z (za (qy (u':=vagg (wn (qg.mk 0 [] []))) (wc (by exact ⟨zq,zq,yq,U⟩)) (qf [] vx kv Z U)) ?_)
     refine zk (ym we Z Z Z Z) Z (qe Z (zh ?_))
     cases H
     exact ⟨U,.inl ⟨_,_,_,wn (qg.mk 0 [] []),Z,Z,Z,Z,we⟩,.inl Z,U⟩
    ·refine fE h14 H fun H=>zb hN Z (qd Z (za (yo qi Z) (za (yw Z Z) (qe Z (zg _ Z (fun h15 => ?_) (fun h15 => ?_))))))
     ·refine tE h15 H fun H=>ze (wq mixed hN Z Z (zp (vh z0s Z Z Z) Z (qd Z (bE H fun x16 h17 H=>za (qt qv (fun _=>Z) Z Z h17) (za (yi tyS9 Z (yp h17) Z) (za (zo y1e Z) (zp (zr tyS3 Z Z) Z (bE H fun r18 h19 H=>za (zl (x8v v1 x16 v2.At r18 h19) ⟨.inl Z,.inl Z,.inl Z,U⟩) (za (ya Z Z) (za (ya Z Z) (zk (ym we Z Z Z Z) Z (qe Z ⟨Z,?_⟩))))))))))))
      refine zh ?_
      cases H
      exact ⟨U,.inl ⟨_,_,_,wn r18.1,Z,Z,Z,Z,we⟩,.inl Z,U⟩
     ·refine fE h15 H fun H=>zb hN Z (qd Z (za (yo qi Z) (za (yw Z Z) (qe Z (zg _ Z (fun h20 => ?_) (fun h20 => ?_))))))
      ·refine tE h20 H fun H=>ze (wq mixed hN Z Z (zp (vh z0s Z Z Z) Z (qd Z (bE H fun x21 h22 H=>za (qt qv (fun _=>Z) Z Z h22) (za (yi tyS9 Z (yp h22) Z) (za (zo y1e Z) (zp (zr tyS3 Z Z) Z (bE H fun r23 h24 H=>za (zl (x8w v1 x21 v2.At r23 h24) ⟨.inl Z,.inl Z,.inl Z,U⟩) (za (ya Z Z) (za (ya Z Z) (zk (ym we Z Z Z Z) Z (qe Z ⟨Z,?_⟩))))))))))))
       refine zh ?_
       cases H
       exact ⟨U,.inl ⟨_,_,_,wn r23.1,Z,Z,Z,Z,we⟩,.inl Z,U⟩
      ·refine fE h20 H fun H=>zj (zb hN Z (za (qy (u':=vagg (wn (qg.mk 0 [] []))) (wc (by exact ⟨zq,zq,yq,U⟩)) (qf [] vx kv Z U)) ?_))
       refine zk (ym we Z Z Z Z) Z (qe Z (zh ?_))
       cases H
       exact ⟨U,.inl ⟨_,_,_,wn (qg.mk 0 [] []),Z,Z,Z,Z,we⟩,.inl Z,U⟩
theorem y9j (x1:zm) (c2:vg) (c3:Int) (r:(qg×Bool)) (H:z13 x1 c2 c3=some r):Fn Tryz.prog 9 [vagg (yn x1),qh [[vstr c2.Issuer,vstr c2.Audience,vlst (List.map wm c2.Signers),vlst (List.map jn c2.Revoked),vlst (List.map uf c2.Holders),vint c2.Skew]] 0 0,qh [[vint c3]] 0 0] (zu [vagg (wn r.1),zf r.2]):=by
 refine ⟨by kernel_rfl,zy (us:=[vagg (wn r.1),zf r.2]) Tryz.func9 Z Z Z Z fun X hN => ?_⟩
 unfold z13 at H
 refine zb hN Z (zk (vr 1 Z) Z (zk (qr 2 vx Z) Z (qe Z (zb hN Z (za (vu y1h Z) (za (yi z3g Z Z Z) (zp (vh yk Z Z Z) Z (bE H fun r4 h5 H=>za (zl (x83 c2.Signers x1 5 r4 h5) ⟨.inl Z,.inl Z,.inl Z,U⟩) (qd Z (za (ya Z Z) (za (ya Z Z) (qe Z (qe Z (zb hN Z (za (ke z0s Z Z Z) (za (yi tyS3 Z Z Z) (qd Z (gE H fun h6 H=>za (va Z Z (Nat.le_trans h6 (by decide))) (za (yf (u':=vagg (jq (yj.mk [97,117,116,104,111,114,105,122,97,116,105,111,110] ([66,101,97,114,101,114,32]++r4.1)))) (qf [(0,[vstr [97,117,116,104,111,114,105,122,97,116,105,111,110]]),(1,[vstr ([66,101,97,114,101,114,32]++r4.1)])] z7e y5y Z ⟨Z,.inl ⟨_,Z,Z,Z⟩,Z,Z,.inl ⟨_,Z,Z,Z⟩,Z,U⟩) Z) (za (yf (u':=vlst (List.map jq [(yj.mk [97,117,116,104,111,114,105,122,97,116,105,111,110] ([66,101,97,114,101,114,32]++r4.1))])) (wo [_] y52 ⟨Z,.inr Z,Z,U⟩ Z Z) Z) (za (yf (u':=vagg (y5i (ud.mk c3 [71,69,84] [97,46,98] [47] [] [] ([(yj.mk [97,117,116,104,111,114,105,122,97,116,105,111,110] ([66,101,97,114,101,114,32]++r4.1))]) []))) (qf [(0,[vint c3]),(1,[vstr [71,69,84]]),(2,[vstr [97,46,98]]),(3,[vstr [47]]),(6,[vlst (List.map jq ([(yj.mk [97,117,116,104,111,114,105,122,97,116,105,111,110] ([66,101,97,114,101,114,32]++r4.1))]))])] x2a x2n Z ⟨Z,.inl ⟨_,Z,Z,Z⟩,Z,Z,.inl ⟨_,Z,Z,Z⟩,Z,Z,.inl ⟨_,Z,Z,Z⟩,Z,Z,.inl ⟨_,Z,Z,Z⟩,Z,Z,.inl ⟨_,Z,Z,Z⟩,Z,U⟩) Z) ?_)))))))))))))))))))))
 refine bE H fun r7 h8 H=>za (zl (x9b (vg.mk c2.Issuer c2.Audience c2.Signers c2.Revoked c2.Holders c2.Skew) (ud.mk c3 [71,69,84] [97,46,98] [47] [] [] ([(yj.mk [97,117,116,104,111,114,105,122,97,116,105,111,110] ([66,101,97,114,101,114,32]++r4.1))]) []) r7 h8) ⟨.inl Z,.inl Z,U⟩) (qd Z (za (ya Z Z) (za (ya Z Z) (zk (qr 3 vx Z) Z (zk (ym we Z Z Z Z) Z (qe Z (zb hN Z (zp (vh we Z Z Z) Z (qd Z (za (yw Z Z) (qd Z (qa Z Z (fun hc=>zi (.dat _) Z) (qa Z Z (fun hc=>yw (cnd (c:=(decide (r4.2=0))) hc) Z) (za (wx Z (fun hb=>(cnd (c:=(decide (r4.2=0))) hb)) Z) (zk (ym we Z Z Z Z) Z (qe Z (zh ?_)))))))))))))))))
 cases H
 exact ⟨U,.inl ⟨_,_,_,wn r7.1,Z,Z,Z,Z,we⟩,.inl Z,U⟩
theorem x8u (l1:(List (List Bs))) (r:(Int)) (H:z41 l1=some r):Fn Tryz.prog 38 [vlst (List.map y0t l1)] (zu [vint r]):=by
 refine ⟨by kernel_rfl,zy (us:=[vint r]) Tryz.func38 Z Z Z Z fun X hN => ?_⟩
 unfold z41 at H
 refine zb hN Z (qe Z (ze (zb hN Z (qd Z (za (yo x2h Z) (qd Z (zx (gE H fun h4 H=>wd (fun (k2:Nat) (s:Unit)=>[(6,.dat (vlst (List.map y0t l1))),(7,.dat (vint (l1.length:Int))),(8,.dat (vint (k2:Int)))]) (fun (k2:Nat) (s:Unit)=>[]) () H ⟨Z,Z,Z,U⟩ U (fun _ _=>Z) ?_ ?_))))))))
 ·rintro ⟨⟩ H
  replace H:z7z=some r:=H
  unfold z7z at H
  refine zb hN Z (za (zw Z Z) (ze (zg _ Z (fun h=>(lt_t h).elim) (fun h => ?_))))
  refine yu (zb hN Z (qe Z (zh ?_)))
  cases H
  exact ⟨U,.inl Z,U⟩
 ·rintro k2 x5 ⟨⟩ q3 h6 h7 H hq3
  replace H:z7y k2 x5=some q3:=H
  unfold z7y at H
  refine zb hN Z (za (zw Z Z) (ze (zg _ Z (fun h => ?_) (fun h=>(lt_f h6 h).elim))))
  refine zj (ze (zx (zb hN Z (za (qt y6g (fun _=>Z) Z Z h7) (za (yi qk Z (yp h7) Z) (qe Z (zb hN Z (qd Z (bE H fun r8 h9 H=>za (zl (z9x x5 r8 h9) ⟨.inl Z,U⟩) (qe Z (zb hN Z (qd Z (za (ql Z Z) (zg _ Z (fun h10 => ?_) (fun h10 => ?_)))))))))))))))
  ·refine tE h10 H fun H=>zb hN Z (qd Z (qe Z (zh ?_)))
   replace H:=retl H hq3
   cases H
   exact ⟨U,.inl Z,U⟩
  ·exact fE h10 H fun H=>zj (zt hN Z (za (qo Z Z (by omega)) (qd Z ⟨_,yx H,⟨Z,Z,Z,U⟩,U⟩)))
theorem x86 (v1:(List Bs)) (want2:(List Bs)) (r:(Bool×Int)) (H:z5b v1 want2=some r):Fn Tryz.prog 12 [vlst (List.map zn v1),vlst (List.map zn want2)] (zu [zf r.1,vint r.2]):=by
 refine ⟨by kernel_rfl,zy (us:=[zf r.1,vint r.2]) Tryz.func12 Z Z Z Z fun X hN => ?_⟩
 unfold z5b at H
 refine zb hN Z (qe Z (qe Z (ze (zb hN Z (qd Z (qd Z (za (yf (u':=vlst (List.map y0t [v1,want2])) (wo [[_],[_]] y51 ⟨Z,.inl ⟨_,Z,Z,Z⟩,Z,Z,.inl ⟨_,Z,Z,Z⟩,Z,U⟩ Z Z) Z) (bE H fun r3 h4 H=>za (zl (x8u [v1,want2] r3 h4) ⟨.inl Z,U⟩) (qe Z (zb hN Z (qd Z (za (ql Z Z) (zg _ Z (fun h5 => ?_) (fun h5 => ?_))))))))))))))
 ·refine tE h5 H fun H=>zb hN Z (qd Z (qe Z (qe Z (zh ?_))))
  cases H
  exact ⟨U,.inl Z,.inl Z,U⟩
 ·refine fE h5 H fun H=>zj (zb hN Z (qd Z (qd Z (bE H fun r6 h7 H=>za (zl (y82 v1 want2 r6 h7) ⟨.inl Z,.inl Z,U⟩) (qe Z (qe Z (zh ?_)))))))
  cases H
  exact ⟨U,.inl Z,.inl Z,U⟩
theorem w0j (v1:(List Int)) (r:(Bool)) (H:z9l v1=some r):Fn Tryz.prog 3 [vlst (List.map uu v1)] (zu [zf r]):=by
 refine ⟨by kernel_rfl,zy (us:=[zf r]) Tryz.func3 Z Z Z Z fun X hN => ?_⟩
 unfold z9l at H
 refine zb hN Z (qe Z (zb hN Z (qd Z (za (yf (u':=vagg (jg (qq.mk v1 0))) (qf [(0,[vlst (List.map uu v1)])] x2d x2q Z ⟨Z,.inl ⟨_,Z,Z,Z⟩,Z,U⟩) Z) (zk (vr 1 Z) Z (za (wu (.ptr _ _) Z) (zb hN Z (za (zi (.ptr _ _) Z) (bE H fun r2 h3 H=>zk (vi (w0n (qq.mk v1 0) r2 h3) Z U Z) Z (zk (qr 2 qx Z) Z (zk (ym yk Z Z Z Z) Z (zb hN Z (za (zo z0t Z) (zk (wl tyS9 Z Z Z Z) Z (za (zo xt Z) (zk (wl qk Z Z Z Z) Z (za (zo Qc Z) (zk (wl tyS9 Z Z Z Z) Z (zb hN Z (za (yf (u':=vagg (wm (yh.mk [115,49] [111,110,101] 0 1000 2000))) (qf [(0,[vstr [115,49]]),(1,[vstr [111,110,101]]),(3,[vint 1000]),(4,[vint 2000])] z0o y5z Z ⟨Z,.inl ⟨_,Z,Z,Z⟩,Z,Z,.inl ⟨_,Z,Z,Z⟩,Z,Z,.inl ⟨_,Z,Z,Z⟩,Z,Z,.inl ⟨_,Z,Z,Z⟩,Z,U⟩) Z) (za (yf (u':=vlst (List.map wm [(yh.mk [115,49] [111,110,101] 0 1000 2000)])) (wo [_] x2t ⟨Z,.inr Z,Z,U⟩ Z Z) Z) (za (qy (u':=vagg (z3a (vg.mk [103,97,116,101] [115,104,111,112] ([(yh.mk [115,49] [111,110,101] 0 1000 2000)]) [] [] 0))) (wc (by exact ⟨zq,zq,zq,yq,yq,zq,U⟩)) (qf [(0,[vstr [103,97,116,101]]),(1,[vstr [115,104,111,112]]),(2,[vlst (List.map wm ([(yh.mk [115,49] [111,110,101] 0 1000 2000)]))])] y5t x2p Z ⟨Z,.inl ⟨_,Z,Z,Z⟩,Z,Z,.inl ⟨_,Z,Z,Z⟩,Z,Z,.inl ⟨_,Z,Z,Z⟩,Z,U⟩)) ?_))))))))))))))))))))))
 refine zk (qr 3 y5t Z) Z (zk (ym z0s Z Z Z Z) Z (ze (wq mixed hN Z Z (zp (qy (u':=vagg (yn (zm.mk r2.1.Id r2.1.Subject [103,97,116,101] [] [] r2.1.Scopes r2.1.From r2.1.To))) (wc (by exact ⟨zq,zq,zq,zq,yq,zq,zq,zq,U⟩)) (vh yk Z Z Z)) Z ?_))))
 refine za (zi (.ptr _ _) Z) (bE H fun r4 h5 H=>zk (vi (y9k r2.2 r4 h5) Z U Z) Z (za (zo ux Z) (zp (zr tyS3 Z Z) Z (za (zo uw Z) (zp (zr tyS3 Z Z) Z (za (yf (u':=vagg (x1k (jm.mk r2.1.From r2.1.To))) (qf [(0,[vint r2.1.From]),(1,[vint r2.1.To])] x2b x2o Z ⟨Z,.inl ⟨_,Z,Z,Z⟩,Z,Z,.inl ⟨_,Z,Z,Z⟩,Z,U⟩) Z) (bE H fun r6 h7 H=>za (zl (x84 (zm.mk r2.1.Id r2.1.Subject [103,97,116,101] [] [] r2.1.Scopes r2.1.From r2.1.To) [116,57] [98,111,116] r4.1 (jm.mk r2.1.From r2.1.To) r6 h7) ⟨.inl Z,.inl Z,.inl Z,.inl Z,.inl Z,U⟩) (qd Z (za (ya Z Z) (za (ya Z Z) (zk (qr 4 qx Z) Z (zk (ym yk Z Z Z Z) Z (qe Z ⟨Z,?_⟩)))))))))))))
 refine ze (zb hN Z (qd Z (za (ql Z Z) (zg _ Z (fun h8 => ?_) (fun h8 => ?_)))))
 ·refine tE h8 H fun H=>zb hN Z (bE H fun r9 h10 H=>za (zl (y9i  r9 h10) U) (qe Z (zh ?_)))
  cases H
  exact ⟨U,.inl Z,U⟩
 ·refine fE h8 H fun H=>zj (ze (wq mixed hN Z Z (za (zo ux Z) (zp (zr tyS3 Z Z) Z (za (zi (.ptr _ _) Z) (za (zo uw Z) (zp (zr tyS3 Z Z) Z (za (zo ux Z) (zp (zr tyS3 Z Z) Z (za (ye _ Z Z (.inr (.inl ⟨Z,Z⟩))) (za (ye _ Z Z (.inr (.inl ⟨Z,Z⟩))) (bE H fun r11 h12 H=>zk (vi (y9l r4.2 0 (wr ((wr (r2.1.To - r2.1.From)) - 1)) r11 h12) Z ⟨.inl Z,.inl Z,U⟩ Z) Z (za (ye _ Z Z (.inl ⟨Z,Z⟩)) (zk (qr 5 tyZ3 Z) Z (zk (wl tyS3 Z Z Z Z) Z ⟨Z,?_⟩)))))))))))))))
  refine ze (kr 3 [vstr [103,97,116,101],vstr [115,104,111,112],vlst (List.map wm ([(yh.mk [115,49] [111,110,101] 0 1000 2000)])),vlst (List.map jn []),vlst (List.map uf []),vint 0] Z Z (kr 5 [vint (wr (r2.1.From+r11.1))] Z Z (zt hN Z (za (xb (us:=[_,_]) ⟨Z,Z,U⟩) (qe Z (zb hN Z (qd Z (zp (qy (u':=vagg (yn (zm.mk r2.1.Id r2.1.Subject [103,97,116,101] [] [] r2.1.Scopes r2.1.From r2.1.To))) (wc (by exact ⟨zq,zq,zq,zq,yq,zq,zq,zq,U⟩)) (vh yk Z Z Z)) Z ?_))))))))
  refine bE H fun r13 h14 H=>za (z08 (us:=[vagg (yn (zm.mk r2.1.Id r2.1.Subject [103,97,116,101] [] [] r2.1.Scopes r2.1.From r2.1.To))]) (cs:=[qh [[vstr [103,97,116,101],vstr [115,104,111,112],vlst (List.map wm ([(yh.mk [115,49] [111,110,101] 0 1000 2000)])),vlst (List.map jn []),vlst (List.map uf []),vint 0]] 0 0,qh [[vint (wr (r2.1.From+r11.1))]] 0 0]) (y9j (zm.mk r2.1.Id r2.1.Subject [103,97,116,101] [] [] r2.1.Scopes r2.1.From r2.1.To) (vg.mk [103,97,116,101] [115,104,111,112] ([(yh.mk [115,49] [111,110,101] 0 1000 2000)]) [] [] 0) (wr (r2.1.From+r11.1)) r13 h14) Z ⟨.inl Z,U⟩) (qd Z (za (ya Z Z) (za (ya Z Z) (zk (qr 6 vx Z) Z (zk (ym we Z Z Z Z) Z (qe Z (zb hN Z (qd Z (zp (vh yk Z Z Z) Z (bE H fun r15 h16 H=>za (z08 (us:=[vagg (yn r6.1)]) (cs:=[qh [[vstr [103,97,116,101],vstr [115,104,111,112],vlst (List.map wm ([(yh.mk [115,49] [111,110,101] 0 1000 2000)])),vlst (List.map jn []),vlst (List.map uf []),vint 0]] 0 0,qh [[vint (wr (r2.1.From+r11.1))]] 0 0]) (y9j r6.1 (vg.mk [103,97,116,101] [115,104,111,112] ([(yh.mk [115,49] [111,110,101] 0 1000 2000)]) [] [] 0) (wr (r2.1.From+r11.1)) r15 h16) Z ⟨.inl Z,U⟩) (qd Z (za (ya Z Z) (za (ya Z Z) (zk (qr 7 vx Z) Z (zk (ym we Z Z Z Z) Z (qe Z (zb hN Z (za (zo Zu Z) (zp (zr qk Z Z) Z (za (zo Zu Z) (zp (zr qk Z Z) Z ?_)))))))))))))))))))))
  refine bE H fun r17 h18 H=>za (zl (x86 r13.1.Scopes r15.1.Scopes r17 h18) ⟨.inl Z,.inl Z,U⟩) (qd Z (za (ya Z Z) (za (ya Z Z) (qe Z (qe Z (yb (ι:=Bool) (fun i=>[(2,.dat (zf i))]) (fun i=>[]) (fun i=>uo i=some r) (fun i=>Z) ?_ ?_))))))
  ·skip
   refine zt hN Z (qd Z (qd Z (yc (j:=1) Z Z (fun h19 => ?_) (fun h19 => ?_) Z)))
   ·refine u1 h19 H fun h20 H=>zd Z Z h19 (zi (.dat _) Z) (za (zz Z (bTT h20) Z) (qd Z (yc (j:=4) Z Z (fun h21 => ?_) (fun h21 => ?_) Z)))
    ·refine u1 h21 H fun h22 H=>zd Z Z h21 (zi (.dat _) Z) (zd Z Z h21 (yw Z Z) (za (zz Z (bTT h22) Z) (qd Z (yc (j:=8) Z Z (fun h23 => ?_) (fun h23 => ?_) Z))))
     ·refine u1 h23 H fun h24 H=>zd Z Z h23 (zi (.dat _) Z) (za (zz Z (bTT h24) Z) (qd Z (yc (j:=11) Z Z (fun h25 => ?_) (fun h25 => ?_) Z)))
      ·refine u1 h25 H fun h26 H=>zd Z Z h25 (zo z7m Z) (vn Z Z h25 (zr tyS9 Z Z) Z (zd Z Z h25 (zo z3j Z) (vn Z Z h25 (zr tyS9 Z Z) Z (zd Z Z h25 (vd Z Z) (za (zz Z (bTT h26) Z) (qd Z (yc (j:=18) Z Z (fun h27 => ?_) (fun h27 => ?_) Z)))))))
       ·refine u1 h27 H fun h28 H=>zd Z Z h27 (zo z7m Z) (vn Z Z h27 (zr tyS9 Z Z) Z (zd Z Z h27 (vd Z Z) (za (zz Z (bTT h28) Z) (qd Z (yc (j:=23) Z Z (fun h29 => ?_) (fun h29 => ?_) Z)))))
        ·refine u1 h29 H fun h30 H=>zd Z Z h29 (zo Zu Z) (vn Z Z h29 (zr qk Z Z) Z (zd Z Z h29 (zo xr Z) (vn Z Z h29 (zr qk Z Z) Z (bE H fun r31 h32 H=>zd Z Z h29 (zl (y89 r15.1.Scopes r6.1.Scopes r31 h32) ⟨.inl Z,.inl Z,U⟩) (za (zz Z (bTT h30) Z) (qd Z (yc (j:=30) Z Z (fun h33 => ?_) (fun h33 => ?_) Z)))))))
         ·exact u1 h33 H fun h34 H=>bE H fun r35 h36 H=>zd Z Z h33 (zl (y9i  r35 h36) U) (za (zz Z (bTT h34) Z) (qe Z ⟨r35,H,⟨Z,U⟩,U⟩))
         ·exact u2 h33 H fun h37 H=>zc Z Z h33 (za (zv Z (bFF h37) Z) (qe Z ⟨false,H,⟨Z,U⟩,U⟩))
        ·exact u2 h29 H fun h38 H=>zc Z Z h29 (zc Z Z h29 (zc Z Z h29 (zc Z Z h29 (zc Z Z h29 (za (zv Z (bFF h38) Z) (qd Z (zc Z Z Z (za (zv Z Z Z) (qe Z ⟨false,H,⟨Z,U⟩,U⟩)))))))))
       ·exact u2 h27 H fun h39 H=>zc Z Z h27 (zc Z Z h27 (zc Z Z h27 (za (zv Z (bFF h39) Z) (qd Z (zc Z Z Z (zc Z Z Z (zc Z Z Z (zc Z Z Z (zc Z Z Z (za (zv Z Z Z) (qd Z (zc Z Z Z (za (zv Z Z Z) (qe Z ⟨false,H,⟨Z,U⟩,U⟩))))))))))))))
      ·exact u2 h25 H fun h40 H=>zc Z Z h25 (zc Z Z h25 (zc Z Z h25 (zc Z Z h25 (zc Z Z h25 (za (zv Z (bFF h40) Z) (qd Z (zc Z Z Z (zc Z Z Z (zc Z Z Z (za (zv Z Z Z) (qd Z (zc Z Z Z (zc Z Z Z (zc Z Z Z (zc Z Z Z (zc Z Z Z (za (zv Z Z Z) (qd Z (zc Z Z Z (za (zv Z Z Z) (qe Z ⟨false,H,⟨Z,U⟩,U⟩)))))))))))))))))))))
     ·refine u2 h23 H fun h41 H=>zc Z Z h23 (za (zv Z (bFF h41) Z) (qd Z (zc Z Z Z (zc Z Z Z (zc Z Z Z (zc Z Z Z (zc Z Z Z (za (zv Z Z Z) (qd Z (zc Z Z Z (zc Z Z Z (zc Z Z Z (za (zv Z Z Z) (qd Z (zc Z Z Z (zc Z Z Z (zc Z Z Z (zc Z Z Z (zc Z Z Z (za (zv Z Z Z) (qd Z (zc Z Z Z ?_))))))))))))))))))))))
      exact za (zv Z Z Z) (qe Z ⟨false,H,⟨Z,U⟩,U⟩)
    ·refine u2 h21 H fun h42 H=>zc Z Z h21 (zc Z Z h21 (za (zv Z (bFF h42) Z) (qd Z (zc Z Z Z (za (zv Z Z Z) (qd Z (zc Z Z Z (zc Z Z Z (zc Z Z Z (zc Z Z Z (zc Z Z Z (za (zv Z Z Z) (qd Z (zc Z Z Z (zc Z Z Z (zc Z Z Z (za (zv Z Z Z) (qd Z (zc Z Z Z (zc Z Z Z (zc Z Z Z (zc Z Z Z ?_))))))))))))))))))))))
     exact zc Z Z Z (za (zv Z Z Z) (qd Z (zc Z Z Z (za (zv Z Z Z) (qe Z ⟨false,H,⟨Z,U⟩,U⟩)))))
   ·refine u2 h19 H fun h43 H=>zc Z Z h19 (za (zv Z (bFF h43) Z) (qd Z (zc Z Z Z (zc Z Z Z (za (zv Z Z Z) (qd Z (zc Z Z Z (za (zv Z Z Z) (qd Z (zc Z Z Z (zc Z Z Z (zc Z Z Z (zc Z Z Z (zc Z Z Z (za (zv Z Z Z) (qd Z (zc Z Z Z (zc Z Z Z (zc Z Z Z (za (zv Z Z Z) (qd Z (zc Z Z Z ?_))))))))))))))))))))))
    exact zc Z Z Z (zc Z Z Z (zc Z Z Z (zc Z Z Z (za (zv Z Z Z) (qd Z (zc Z Z Z (za (zv Z Z Z) (qe Z ⟨false,H,⟨Z,U⟩,U⟩))))))))
  ·rintro v44 H
   replace H:uo v44=some r:=H
   unfold uo at H
   refine zh ?_
   cases H
   exact ⟨U,.inl Z,U⟩
end Go.Proofs.YtbndlmnjeofkdadGreatDoor
