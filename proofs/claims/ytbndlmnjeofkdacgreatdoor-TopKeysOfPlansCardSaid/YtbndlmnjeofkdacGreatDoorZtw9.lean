/- Walks along the models. Printed by a program. -/
import Derived.Test.YtbndlmnjeofkdacGreatDoorZtw8
namespace Go.Proofs.YtbndlmnjeofkdacGreatDoor
open Go.RowKit
set_option linter.unusedVariables false
set_option maxRecDepth 100000
set_option maxHeartbeats 2000000
theorem w8l (v1:jm) (v2:Bs) (v3:Int) (r:(qg×Int)) (H:y9q v1 v2 v3=some r):Fn Tryz.prog 84 [vagg (z6h v1),vstr v2,vint v3] (zr [vagg (vd r.1),vint r.2]):=by
 refine ⟨by kernel_rfl,zx (us:=[vagg (vd r.1),vint r.2]) Tryz.func84 Z Z Z Z fun X hN => ?_⟩
 unfold y9q at H
 refine zb hN Z (zj (qu 1 Z) Z (zj (Wg 2 Z Z) Z (zj (qm 3 jq Z) Z (qe Z (zb hN Z (za (zn x4n Z) (zm (zp x3v Z Z) Z (qd Z (zm (zp tyS3 Z Z) Z (bE H fun r4 h5 H=>za (zo (w8p v1.Signers v2 v3 r4 h5) ⟨.inl Z,.inl Z,.inl Z,U⟩) (qd Z (za (ye Z Z) (za (ye Z Z) (zj (qm 4 jq Z) Z (zj (yo wu Z Z Z Z) Z (qe Z (zd (zu (zb hN Z (qd Z (za (qj Z Z) (qe Z ?_))))))))))))))))))))))
 refine zf _ Z (fun h6 => ?_) (fun h6 => ?_)
 ·refine tE h6 H fun H=>zb hN Z (za (jc (u':=vagg (vd (qg.mk [] [] [] [] [] [] 0 0))) (jb (by exact ⟨yf,yf,yf,yf,wo,wo,yf,yf,U⟩)) (qv [] jq ky Z U)) ?_)
  refine qd Z (zj (yo wu Z Z Z Z) Z (qe Z (zg ?_)))
  cases H
  exact ⟨U,.inl ⟨_,_,_,vd (qg.mk [] [] [] [] [] [] 0 0),Z,Z,Z,Z,wu⟩,.inl Z,U⟩
 ·refine fE h6 H fun H=>yc (ι:=Bool) (fun i=>[(3,.ptr 1 0),(5,.ptr 2 0),(6,.ptr 3 0),(8,.ptr 4 0),(23,.dat (zi i))]) (fun i=>[(1,.box none 48 [.dat (vstr v1.Issuer),.dat (vstr v1.Audience),.dat (vlst (List.map um v1.Signers)),.dat (vlst (List.map xb v1.Revoked)),.dat (vlst (List.map Zv v1.Holders)),.dat (vint v1.Skew)]),(2,.box none 3 [.dat (vint v3)]),(3,.box none 152 [.dat (vstr []),.dat (vstr []),.dat (vstr []),.dat (vstr []),.dat (vnil),.dat (vnil),.dat (vint 0),.dat (vint 0)]),(4,.box none 152 [.dat (vstr r4.1.Id),.dat (vstr r4.1.Subject),.dat (vstr r4.1.Issuer),.dat (vstr r4.1.Parent),.dat (vlst (List.map zt r4.1.Audience)),.dat (vlst (List.map zt r4.1.Scopes)),.dat (vint r4.1.From),.dat (vint r4.1.To)])]) (fun i=>z3b v1 v3 r4 i=some r) (fun i=>Z) ?_ ?_
  ·skip
   refine zk hN Z (za (zn y69 Z) (zm (zp tyS9 Z Z) Z (za (zn y64 Z) (zm (zp tyS9 Z Z) Z (za (js Z Z) (qd Z (yi (j:=5) Z Z (fun h7 => ?_) (fun h7 => ?_) Z)))))))
   ·refine u3 h7 H fun h8 H=>ze Z Z h7 (zn z6v Z) (qz Z Z h7 (zp vc Z Z) Z (ze Z Z h7 (yk qr Z) (ze Z Z h7 (qh Z Z) (ze Z Z h7 (zh (.dat _) Z) (yi (j:=10) Z Z (fun h9 => ?_) (fun h9 => ?_) Z)))))
    ·exact u1 h9 H fun h10 H=>ze Z Z h9 (zn z6v Z) (qz Z Z h9 (zp vc Z Z) Z (ze Z Z h9 (zn x4o Z) (qz Z Z h9 (zp tyS9 Z Z) Z (bE H fun r11 h12 H=>ze Z Z h9 (zo (x0w r4.1.Audience v1.Audience r11 h12) ⟨.inl Z,.inl Z,U⟩) (ze Z Z h9 (yv Z) (ze Z Z h7 (yb Z (bTT h10) Z) (za (ya Z (bFF h8) Z) (qe Z ⟨!r11,H,⟨Z,Z,Z,Z,Z,U⟩,⟨Z,Z,Z,Z,U⟩⟩))))))))
    ·exact u2 h9 H fun h13 H=>zc Z Z h9 (zc Z Z h9 (zc Z Z h9 (zc Z Z h9 (zc Z Z h9 (zc Z Z h9 (ze Z Z h7 (ya Z (bFF h13) Z) (za (ya Z (bFF h8) Z) (qe Z ⟨false,H,⟨Z,Z,Z,Z,Z,U⟩,⟨Z,Z,Z,Z,U⟩⟩))))))))
   ·exact u4 h7 H fun h14 H=>zc Z Z h7 (zc Z Z h7 (zc Z Z h7 (zc Z Z h7 (zc Z Z h7 (yx Z Z (yx Z Z (yx Z Z (yx Z Z (yx Z Z (yx Z Z (zc Z Z h7 (za (yb Z (bTT h14) Z) (qe Z ⟨true,H,⟨Z,Z,Z,Z,Z,U⟩,⟨Z,Z,Z,Z,U⟩⟩)))))))))))))
  ·rintro v15 H
   replace H:z3b v1 v3 r4 v15=some r:=H
   unfold z3b at H
   refine zf _ Z (fun h16 => ?_) (fun h16 => ?_)
   ·refine tE h16 H fun H=>zb hN Z (za (jc (u':=vagg (vd (qg.mk [] [] [] [] [] [] 0 0))) (jb (by exact ⟨yf,yf,yf,yf,wo,wo,yf,yf,U⟩)) (qv [] jq ky Z U)) ?_)
    refine zj (yo wu Z Z Z Z) Z (qe Z (zg ?_))
    cases H
    exact ⟨U,.inl ⟨_,_,_,vd (qg.mk [] [] [] [] [] [] 0 0),Z,Z,Z,Z,wu⟩,.inl Z,U⟩
   ·refine fE h16 H fun H=>zb hN Z (zm (zp tyS3 Z Z) Z (za (zn y1w Z) (zm (zp tyS3 Z Z) Z (za (zn y63 Z) (zm (zp tyS3 Z Z) Z (za (yl _ Z Z (.inr (.inl ⟨Z,Z⟩))) (za (zw Z Z) (qd Z (uk Z Z (fun hc=>zp tyS3 Z Z) Z jf (yu Z Z (fun hc=>zn y1v Z) (uk Z Z (fun hc=>zp tyS3 (cnd (c:=(!(decide (v3 < (wr (r4.1.From - v1.Skew)))))) hc) Z) Z jf (yu Z Z (fun hc=>zn y63 Z) (uk Z Z (fun hc=>zp tyS3 (cnd (c:=(!(decide (v3 < (wr (r4.1.From - v1.Skew)))))) hc) Z) Z jf (yu Z Z (fun hc=>yl _ (cnd (c:=(!(decide (v3 < (wr (r4.1.From - v1.Skew)))))) hc) (cnd (c:=(!(decide (v3 < (wr (r4.1.From - v1.Skew)))))) hc) (.inl ⟨Z,Z⟩)) (yu Z Z (fun hc=>vt (cnd (c:=(!(decide (v3 < (wr (r4.1.From - v1.Skew)))))) hc) (cnd (c:=(!(decide (v3 < (wr (r4.1.From - v1.Skew)))))) hc)) (za (vk Z Z (fun hb=>(cnd (c:=(!(decide (v3 < (wr (r4.1.From - v1.Skew)))))) (notI hb)))) (qe Z (zf _ Z (fun h17 => ?_) (fun h17 => ?_)))))))))))))))))))
    ·refine tE h17 H fun H=>zb hN Z (za (jc (u':=vagg (vd (qg.mk [] [] [] [] [] [] 0 0))) (jb (by exact ⟨yf,yf,yf,yf,wo,wo,yf,yf,U⟩)) (qv [] jq ky Z U)) ?_)
     refine zj (yo wu Z Z Z Z) Z (qe Z (zg ?_))
     cases H
     exact ⟨U,.inl ⟨_,_,_,vd (qg.mk [] [] [] [] [] [] 0 0),Z,Z,Z,Z,wu⟩,.inl Z,U⟩
    ·refine fE h17 H fun H=>zl (zd (zd (xk 4 [vstr r4.1.Id,vstr r4.1.Subject,vstr r4.1.Issuer,vstr r4.1.Parent,vlst (List.map zt r4.1.Audience),vlst (List.map zt r4.1.Scopes),vint r4.1.From,vint r4.1.To] Z Z (xk 2 [vint v3] Z Z (zk hN Z (za (zn x4m Z) (zm (zp x3u Z Z) Z (za (Ya (us:=[_,_]) ⟨Z,Z,U⟩) (bE H fun r18 h19 H=>za (zo (w9h v1.Revoked (fun (a0:va)=>y3r a0 r4.1 v3) 149 [wt [[vstr r4.1.Id,vstr r4.1.Subject,vstr r4.1.Issuer,vstr r4.1.Parent,vlst (List.map zt r4.1.Audience),vlst (List.map zt r4.1.Scopes),vint r4.1.From,vint r4.1.To]] 0 0,wt [[vint v3]] 0 0] (fun a0 r h=>w8k a0 r4.1 v3 r h) r18 h19) ⟨.inl Z,.inl Z,U⟩) (zf _ Z (fun h20 => ?_) (fun h20 => ?_)))))))))))
     ·refine tE h20 H fun H=>zb hN Z (za (jc (u':=vagg (vd (qg.mk [] [] [] [] [] [] 0 0))) (jb (by exact ⟨yf,yf,yf,yf,wo,wo,yf,yf,U⟩)) (qv [] jq ky Z U)) ?_)
      refine zj (yo wu Z Z Z Z) Z (qe Z (zg ?_))
      cases H
      exact ⟨U,.inl ⟨_,_,_,vd (qg.mk [] [] [] [] [] [] 0 0),Z,Z,Z,Z,wu⟩,.inl Z,U⟩
     ·refine fE h20 H fun H=>zl (zb hN Z (za (vg wu Z Z Z) (zj (yo wu Z Z Z Z) Z (qe Z (zg ?_)))))
      cases H
      exact ⟨U,.inl ⟨_,_,_,vd r4.1,Z,Z,Z,Z,wu⟩,.inl Z,U⟩
theorem w8i (k1:jm) (value2:Bs) (v3:Int) (r:(wn×Int)) (H:y9p k1 value2 v3=some r):Fn Tryz.prog 33 [vagg (z6h k1),vstr value2,vint v3] (zr [vagg (vy r.1),vint r.2]):=by
 refine ⟨by kernel_rfl,zx (us:=[vagg (vy r.1),vint r.2]) Tryz.func33 Z Z Z Z fun X hN => ?_⟩
 unfold y9p at H
 refine zb hN Z (zj (qu 1 Z) Z (zj (qm 2 kn Z) Z (qe Z (zb hN Z (qd Z (bE H fun r4 h5 H=>za (zo (w86 value2 [66,101,97,114,101,114,32] r4 h5) ⟨.inl Z,.inl Z,U⟩) (qd Z (za (ye Z Z) (za (ye Z Z) (qe Z (qe Z (zd (zb hN Z (qd Z (za (yv Z) (qd Z (yu Z Z (fun hc=>zh (.dat _) Z) (yu Z Z (fun hc=>vz (cnd (c:=(!(!r4.2))) hc) Z) (za (vk Z Z (fun hb=>(cnd (c:=(!(!r4.2))) (notI hb)))) (zf _ Z (fun h6 => ?_) (fun h6 => ?_)))))))))))))))))))))
 ·refine tE h6 H fun H=>zb hN Z (za (jc (u':=vagg (vy (wn.mk 0 [] []))) (jb (by exact ⟨yf,yf,wo,U⟩)) (qv [] kn xo Z U)) ?_)
  refine zj (yo vu Z Z Z Z) Z (qe Z (zg ?_))
  cases H
  exact ⟨U,.inl ⟨_,_,_,vy (wn.mk 0 [] []),Z,Z,Z,Z,vu⟩,.inl Z,U⟩
 ·refine fE h6 H fun H=>zl (zb hN Z (zm (qc z2v Z Z Z) Z (qd Z (qd Z (bE H fun r7 h8 H=>za (zo (w8l k1 r4.1 v3 r7 h8) ⟨.inl Z,.inl Z,.inl Z,U⟩) (qd Z (za (ye Z Z) (za (ye Z Z) (zj (qm 3 jq Z) Z (zj (yo wu Z Z Z Z) Z (qe Z (zd (zb hN Z (qd Z (za (qj Z Z) (zf _ Z (fun h9 => ?_) (fun h9 => ?_)))))))))))))))))
  ·refine tE h9 H fun H=>zb hN Z (za (jc (u':=vagg (vy (wn.mk 0 [] []))) (jb (by exact ⟨yf,yf,wo,U⟩)) (qv [] kn xo Z U)) ?_)
   refine qd Z (zj (yo vu Z Z Z Z) Z (qe Z (zg ?_)))
   cases H
   exact ⟨U,.inl ⟨_,_,_,vy (wn.mk 0 [] []),Z,Z,Z,Z,vu⟩,.inl Z,U⟩
  ·refine fE h9 H fun H=>zl (zb hN Z (za (zn y7a Z) (zm (zp tyS9 Z Z) Z (za (zn z6u Z) (zm (zp vc Z Z) Z (za (yg (u':=vagg (vy (wn.mk 1 r7.1.Subject r7.1.Scopes))) (qv [(0,[vint 1]),(1,[vstr r7.1.Subject]),(2,[vlst (List.map zt r7.1.Scopes)])] kn xo Z ⟨Z,.inl ⟨_,Z,Z,Z⟩,Z,Z,.inl ⟨_,Z,Z,Z⟩,Z,Z,.inl ⟨_,Z,Z,Z⟩,Z,U⟩) Z) (zj (yo vu Z Z Z Z) Z (qe Z (zg ?_)))))))))
   cases H
   exact ⟨U,.inl ⟨_,_,_,vy (wn.mk 1 r7.1.Subject r7.1.Scopes),Z,Z,Z,Z,vu⟩,.inl Z,U⟩
theorem w8j (v1:jm) (v2:Bs) (v3:Int) (r:(wn×Int)) (H:z4c v1 v2 v3=some r):Fn Tryz.prog 34 [vagg (z6h v1),vstr v2,vint v3] (zr [vagg (vy r.1),vint r.2]):=by
 refine ⟨by kernel_rfl,zx (us:=[vagg (vy r.1),vint r.2]) Tryz.func34 Z Z Z Z fun X hN => ?_⟩
 unfold z4c at H
 refine zb hN Z (zj (qu 1 Z) Z (zj (qm 2 kn Z) Z (qe Z (zb hN Z (za (zn y64 Z) (zm (zp tyS9 Z Z) Z (qd Z (bE H fun r4 h5 H=>za (zo (x0r v1.Issuer v2 r4 h5) ⟨.inl Z,.inl Z,U⟩) (qe Z (zb hN Z (qe Z (zb hN Z (za (yg (u':=vagg [vint 0,vstr [],vnil]) (qv [] kn xo Z U) Z) (zj (qm 3 kn Z) Z (zj (yo vu Z Z Z Z) Z (y56 3 2 4 9 1 Z Z Z Z (zd (zb hN Z (za (zn x4l Z) (zm (zp x3w Z Z) Z (za (yk y6r Z) (qd Z ?_))))))))))))))))))))))
 refine zu (gE H fun h12 H=>qq (fun (k10:Nat) (s:Bool×(List Bs)×Int×Bs)=>[(2,.dat (vint v3)),(6,.ptr 2 0),(8,.dat (vstr r4)),(9,.dat (zi s.1)),(10,.ptr 3 0),(19,.dat (vlst (List.map Zv v1.Holders))),(20,.dat (vint (v1.Holders.length:Int))),(21,.dat (vint (k10:Int)))]) (fun (k10:Nat) (s:Bool×(List Bs)×Int×Bs)=>[(2,.box none 50 [.dat (vint 0),.dat (vstr []),.dat (vnil)]),(3,.box none 50 [.dat (vint s.2.2.1),.dat (vstr s.2.2.2),.row 4 s.2.1.length]),(4,.row 9 1 (List.map zt s.2.1))]) (false,([]:List Bs),0,[]) H ⟨Z,Z,Z,Z,Z,Z,Z,Z,U⟩ ⟨Z,(congrArg (fun n=>some (some (AObj.box none 50 [.dat (vint 0),.dat (vstr []),.row 4 n]))) (show 0=([]:List Bs).length from (by simp))),Z,U⟩ (fun _ _=>Z) ?_ ?_)
 ·rintro ⟨v6,l7,c8,c9⟩ H
  replace H:z3a v6 l7 c8 c9=some r:=H
  unfold z3a at H
  refine zb hN Z (za (zw Z Z) (zd (zf _ Z (fun h=>(lt_t h).elim) (fun h => ?_))))
  refine yp (zd (zu (zb hN Z (qd Z (za (yv Z) (qe Z (zf _ Z (fun h14 => ?_) (fun h14 => ?_))))))))
  ·refine tE h14 H fun H=>zb hN Z (za (jc (u':=vagg (vy (wn.mk 0 [] []))) (jb (by exact ⟨yf,yf,wo,U⟩)) (qv [] kn xo Z U)) ?_)
   refine zj (yo vu Z Z Z Z) Z (qe Z (zg ?_))
   cases H
   exact ⟨U,.inl ⟨_,_,_,vy (wn.mk 0 [] []),Z,Z,Z,Z,vu⟩,.inl Z,U⟩
  ·refine fE h14 H fun H=>zb hN Z (za (zn y1p Z) (zm (zp tyS3 Z Z) Z (za (yn Z Z) (qe Z (zf _ Z (fun h15 => ?_) (fun h15 => ?_))))))
   ·refine tE h15 H fun H=>zb hN Z (za (jc (u':=vagg (vy (wn.mk 0 [] []))) (jb (by exact ⟨yf,yf,wo,U⟩)) (qv [] kn xo Z U)) ?_)
    refine zj (yo vu Z Z Z Z) Z (qe Z (zg ?_))
    cases H
    exact ⟨U,.inl ⟨_,_,_,vy (wn.mk 0 [] []),Z,Z,Z,Z,vu⟩,.inl Z,U⟩
   ·refine fE h15 H fun H=>zl (zd (x2r 3 2 4 rfl rfl rfl (by first | rw [List.length_map] | rfl) ?_))
    refine zk hN Z (za (zn z2y Z) (zm (zp vc Z Z) Z (bE H fun r16 h17 H=>za (zo (x0s l7 r16 h17) ⟨.inl Z,U⟩) (za (zn z2y Z) (zj (wa vc Z Z Z Z) Z (zd (zb hN Z (za (zn z2y Z) (zm (zp vc Z Z) Z (za (yk qr Z) (za (qh Z Z) (zf _ Z (fun h18 => ?_) (fun h18 => ?_)))))))))))))
    ·refine tE h18 H fun H=>zb hN Z (za (jc (u':=vagg (vy (wn.mk 0 [] []))) (jb (by exact ⟨yf,yf,wo,U⟩)) (qv [] kn xo Z U)) ?_)
     refine zj (yo vu Z Z Z Z) Z (qe Z (zg ?_))
     cases H
     exact ⟨U,.inl ⟨_,_,_,vy (wn.mk 0 [] []),Z,Z,Z,Z,vu⟩,.inl Z,U⟩
    ·refine fE h18 H fun H=>zl (zb hN Z (zm (qc vu Z Z Z) Z (zj (yo vu Z Z Z Z) Z (qe Z (zg ?_)))))
     cases H
     exact ⟨U,.inl ⟨_,_,_,vy (wn.mk c8 c9 r16),Z,Z,Z,Z,vu⟩,.inl Z,U⟩
 ·rintro k10 x13 ⟨v6,l7,c8,c9⟩ q11 h19 h20 H hq11
  replace H:z0u v3 r4 k10 x13 v6 l7 c8 c9=some q11:=H
  unfold z0u at H
  refine uz (zb hN Z (za (zw Z Z) (zd (zf _ Z (fun h => ?_) (fun h=>(lt_f h19 h).elim)))))
  refine zl (yc (ι:=Bool×(List Bs)×Int×Bs) (fun i=>[(2,.dat (vint v3)),(6,.ptr 2 0),(8,.dat (vstr r4)),(9,.dat (zi i.1)),(10,.ptr 3 0),(19,.dat (vlst (List.map Zv v1.Holders))),(20,.dat (vint (v1.Holders.length:Int))),(21,.dat (vint (k10:Int)))]) (fun i=>[(2,.box none 50 [.dat (vint 0),.dat (vstr []),.dat (vnil)]),(3,.box none 50 [.dat (vint i.2.2.1),.dat (vstr i.2.2.2),.row 4 i.2.1.length]),(4,.row 9 1 (List.map zt i.2.1))]) (fun i=>z0v i.1 i.2.1 i.2.2.1 i.2.2.2=some q11) (fun i=>Z) ?_ ?_)
  ·refine uz (zu (zb hN Z (za (qp z6w (fun _=>Z) Z Z h20) (za (vg y1i Z (ym h20) Z) (zj (qm 5 y6n Z) Z (zj (yo y1i Z Z Z Z) Z (zd (zb hN Z (za (zn y1q Z) (zm (zp tyS9 Z Z) Z (qd Z (za (js Z Z) (zf _ Z (fun h21 => ?_) (fun h21 => ?_))))))))))))))
   ·refine tE h21 H fun H=>yp ?_
    show Cv _ _ _ _
    exact ux ⟨(v6,l7,c8,c9),H,⟨Z,Z,Z,Z,Z,Z,Z,Z,U⟩,⟨Z,Z,Z,U⟩⟩
   ·refine fE h21 H fun H=>zl (zb hN Z (qe Z (zb hN Z (za (zn x4p Z) (zm (zp tyS3 Z Z) Z (qd Z (za (vq Z Z) (qd Z (yz Z Z (fun hc=>zh (.dat _) Z) (yz Z Z (fun hc=>zn y65 Z) (xv Z Z (fun hc=>zp tyS3 (cnd (c:=(decide (x13.From≤v3))) hc) Z) Z jf (yz Z Z (fun hc=>zw (cnd (c:=(decide (x13.From≤v3))) hc) (cnd (c:=(decide (x13.From≤v3))) hc)) (za (wy Z (fun hb=>(cnd (c:=(decide (x13.From≤v3))) hb)) Z) (qd Z (yz Z Z (fun hc=>zn y1p Z) (xv Z Z (fun hc=>zp tyS3 (cnd (c:=((decide (x13.From≤v3)) && (decide (v3 < x13.To)))) hc) Z) Z jf (yz Z Z (fun hc=>yn (cnd (c:=((decide (x13.From≤v3)) && (decide (v3 < x13.To)))) hc) Z) (yz Z Z (fun hc=>zh (.dat _) (cnd (c:=((decide (x13.From≤v3)) && (decide (v3 < x13.To)))) hc)) (ua Z Z (fun hc=>zn y62 Z) (y24 Z Z (fun hc=>zp tyS9 (cnd (c:=(((decide (x13.From≤v3)) && (decide (v3 < x13.To))) && !(decide (c8=0)))) hc) Z) Z jf (ua Z Z (fun hc=>zn z0p Z) (y24 Z Z (fun hc=>zp tyS9 (cnd (c:=(((decide (x13.From≤v3)) && (decide (v3 < x13.To))) && !(decide (c8=0)))) hc) Z) Z jf ?_))))))))))))))))))))))
    refine ua Z Z (fun hc=>vz (cnd (c:=(((decide (x13.From≤v3)) && (decide (v3 < x13.To))) && !(decide (c8=0)))) hc) (cnd (c:=(((decide (x13.From≤v3)) && (decide (v3 < x13.To))) && !(decide (c8=0)))) hc)) (yz Z Z (fun hc=>vk (cnd (c:=((decide (x13.From≤v3)) && (decide (v3 < x13.To)))) hc) Z (fun hb=>(cnd (c:=(((decide (x13.From≤v3)) && (decide (v3 < x13.To))) && !(decide (c8=0)))) (andI hc (notI hb))))) (za (wy Z (fun hb=>(cnd (c:=((decide (x13.From≤v3)) && (decide (v3 < x13.To)))) hb)) Z) (zf _ Z (fun h22 => ?_) (fun h22 => ?_))))
    ·refine tE h22 H fun H=>zd (wg mixed hN Z Z (za (zn z0p Z) (zm (zp tyS9 Z Z) Z (za (zn y1p Z) (zj (wa tyS3 Z Z Z Z) Z (za (zn y62 Z) (zj (wa tyS9 Z Z Z Z) Z ⟨Z,?_⟩)))))))
     refine zk hN Z (za (zn z2y Z) (zm (zp vc Z Z) Z (za (zn x4q Z) (zm (zp vc Z Z) Z (gE H fun h23 H=>zj (y7z vn (fun _=>Z) Z Z Z h23 Z) Z (za (zn z2y Z) (z7p (z7d vc Z Z (by rw [List.length_map]) Z) Z Z ?_)))))))
     refine xu ?_
     show Cv _ _ _ _
     exact ux ⟨(true,(l7++x13.Scopes),2,x13.App),H,⟨Z,Z,Z,Z,Z,Z,Z,Z,U⟩,⟨Z,Z,Z,U⟩⟩
    ·refine fE h22 H fun H=>zl ?_
     show Cv _ _ _ _
     exact ux ⟨(true,l7,c8,c9),H,⟨Z,Z,Z,Z,Z,Z,Z,Z,U⟩,⟨Z,Z,Z,U⟩⟩
  ·rintro ⟨v24,l25,c26,c27⟩ H
   replace H:z0v v24 l25 c26 c27=some q11:=H
   unfold z0v at H
   refine zk hN Z (za (qi Z Z (by omega)) (qd Z (xu ?_)))
   show Cv _ _ _ _
   exact ux ⟨_,yw H,⟨Z,Z,Z,Z,Z,Z,Z,Z,U⟩,⟨Z,Z,Z,U⟩⟩
theorem w8x (v1:jm) (v2:xl) (r:(wn×Int)) (H:z4g v1 v2=some r):Fn Tryz.prog 10 [vagg (z6h v1),vagg (x3f v2)] (zr [vagg (vy r.1),vint r.2]):=by
 refine ⟨by kernel_rfl,zx (us:=[vagg (vy r.1),vint r.2]) Tryz.func10 Z Z Z Z fun X hN => ?_⟩
 unfold z4g at H
 refine zb hN Z (zj (qu 1 Z) Z (zj (qu 2 Z) Z (zj (qm 3 kn Z) Z (qe Z (zd (zb hN Z (zm (qc z2v Z Z Z) Z (bE H fun r3 h4 H=>za (zo (w8u v1 r3 h4) ⟨.inl Z,U⟩) (qe Z (zb hN Z (qd Z (za (qj Z Z) (zf _ Z (fun h5 => ?_) (fun h5 => ?_))))))))))))))
 ·refine tE h5 H fun H=>zb hN Z (za (jc (u':=vagg (vy (wn.mk 0 [] []))) (jb (by exact ⟨yf,yf,wo,U⟩)) (qv [] kn xo Z U)) ?_)
  refine qd Z (zj (yo vu Z Z Z Z) Z (qe Z (zg ?_)))
  cases H
  exact ⟨U,.inl ⟨_,_,_,vy (wn.mk 0 [] []),Z,Z,Z,Z,vu⟩,.inl Z,U⟩
 ·refine fE h5 H fun H=>zl (zd (zb hN Z (zm (qc w1c Z Z Z) Z (bE H fun r6 h7 H=>za (zo (v0f v2 r6 h7) ⟨.inl Z,U⟩) (qe Z (zb hN Z (qd Z (za (qj Z Z) (zf _ Z (fun h8 => ?_) (fun h8 => ?_))))))))))
  ·refine tE h8 H fun H=>zb hN Z (za (jc (u':=vagg (vy (wn.mk 0 [] []))) (jb (by exact ⟨yf,yf,wo,U⟩)) (qv [] kn xo Z U)) ?_)
   refine qd Z (zj (yo vu Z Z Z Z) Z (qe Z (zg ?_)))
   cases H
   exact ⟨U,.inl ⟨_,_,_,vy (wn.mk 0 [] []),Z,Z,Z,Z,vu⟩,.inl Z,U⟩
  ·refine fE h8 H fun H=>zl (zd (wg mixed hN Z Z (za (zn y60 Z) (zm (zp z2u Z Z) Z (bE H fun r9 h10 H=>za (zo (y4v v2.Headers [97,117,116,104,111,114,105,122,97,116,105,111,110] r9 h10) ⟨.inl Z,.inl Z,U⟩) (za (zn y60 Z) (zm (zp z2u Z Z) Z (bE H fun r11 h12 H=>za (zo (y4v v2.Headers [120,45,97,112,105,45,107,101,121] r11 h12) ⟨.inl Z,.inl Z,U⟩) (qe Z (qe Z ⟨Z,?_⟩))))))))))
   refine zd (zu (zb hN Z (qd Z (za (yk qr Z) (za (qh Z Z) (qd Z (yu Z Z (fun hc=>zh (.dat _) Z) (yu Z Z (fun hc=>yk qr (cnd (c:=(!(decide (1 < (r9.length:Int))))) hc)) (yu Z Z (fun hc=>qh (cnd (c:=(!(decide (1 < (r9.length:Int))))) hc) Z) (za (vk Z Z (fun hb=>(cnd (c:=(!(decide (1 < (r9.length:Int))))) (notI hb)))) (qe Z (zf _ Z (fun h13 => ?_) (fun h13 => ?_)))))))))))))
   ·refine tE h13 H fun H=>zb hN Z (za (jc (u':=vagg (vy (wn.mk 0 [] []))) (jb (by exact ⟨yf,yf,wo,U⟩)) (qv [] kn xo Z U)) ?_)
    refine zj (yo vu Z Z Z Z) Z (qe Z (zg ?_))
    cases H
    exact ⟨U,.inl ⟨_,_,_,vy (wn.mk 0 [] []),Z,Z,Z,Z,vu⟩,.inl Z,U⟩
   ·refine fE h13 H fun H=>zb hN Z (qd Z (za (yk qr Z) (za (yn Z Z) (qd Z (yz Z Z (fun hc=>zh (.dat _) Z) (yz Z Z (fun hc=>yk qr (cnd (c:=(decide ((r9.length:Int)=1))) hc)) (yz Z Z (fun hc=>yn (cnd (c:=(decide ((r9.length:Int)=1))) hc) Z) (za (wy Z (fun hb=>(cnd (c:=(decide ((r9.length:Int)=1))) hb)) Z) (qe Z (zf _ Z (fun h14 => ?_) (fun h14 => ?_)))))))))))
    ·refine tE h14 H fun H=>zb hN Z (za (jc (u':=vagg (vy (wn.mk 0 [] []))) (jb (by exact ⟨yf,yf,wo,U⟩)) (qv [] kn xo Z U)) ?_)
     refine zj (yo vu Z Z Z Z) Z (qe Z (zg ?_))
     cases H
     exact ⟨U,.inl ⟨_,_,_,vy (wn.mk 0 [] []),Z,Z,Z,Z,vu⟩,.inl Z,U⟩
    ·refine fE h14 H fun H=>zb hN Z (qd Z (za (yk qr Z) (za (yn Z Z) (qe Z (zf _ Z (fun h15 => ?_) (fun h15 => ?_))))))
     ·refine tE h15 H fun H=>zd (wg mixed hN Z Z (zm (qc z2v Z Z Z) Z (qd Z (bE H fun x16 h17 H=>za (qp wv (fun _=>Z) Z Z h17) (za (yr tyS9 Z (ym h17) Z) (za (zn y61 Z) (zm (zp tyS3 Z Z) Z (bE H fun r18 h19 H=>za (zo (w8i v1 x16 v2.At r18 h19) ⟨.inl Z,.inl Z,.inl Z,U⟩) (za (ye Z Z) (za (ye Z Z) (zj (yo vu Z Z Z Z) Z (qe Z ⟨Z,?_⟩))))))))))))
      refine zg ?_
      cases H
      exact ⟨U,.inl ⟨_,_,_,vy r18.1,Z,Z,Z,Z,vu⟩,.inl Z,U⟩
     ·refine fE h15 H fun H=>zb hN Z (qd Z (za (yk qr Z) (za (yn Z Z) (qe Z (zf _ Z (fun h20 => ?_) (fun h20 => ?_))))))
      ·refine tE h20 H fun H=>zd (wg mixed hN Z Z (zm (qc z2v Z Z Z) Z (qd Z (bE H fun x21 h22 H=>za (qp wv (fun _=>Z) Z Z h22) (za (yr tyS9 Z (ym h22) Z) (za (zn y61 Z) (zm (zp tyS3 Z Z) Z (bE H fun r23 h24 H=>za (zo (w8j (jm.mk v1.Issuer v1.Audience v1.Signers v1.Revoked v1.Holders v1.Skew) x21 v2.At r23 h24) ⟨.inl Z,.inl Z,.inl Z,U⟩) (za (ye Z Z) (za (ye Z Z) (zj (yo vu Z Z Z Z) Z (qe Z ⟨Z,?_⟩))))))))))))
       refine zg ?_
       cases H
       exact ⟨U,.inl ⟨_,_,_,vy r23.1,Z,Z,Z,Z,vu⟩,.inl Z,U⟩
      ·refine fE h20 H fun H=>zl (zb hN Z (za (jc (u':=vagg (vy (wn.mk 0 [] []))) (jb (by exact ⟨yf,yf,wo,U⟩)) (qv [] kn xo Z U)) ?_))
       refine zj (yo vu Z Z Z Z) Z (qe Z (zg ?_))
       cases H
       exact ⟨U,.inl ⟨_,_,_,vy (wn.mk 0 [] []),Z,Z,Z,Z,vu⟩,.inl Z,U⟩
theorem x7w (l1:(List Int)) (c2:Int) (r:(Int×(List Int))) (H:y3x l1 c2=some r):FnG Tryz.prog 154 [.ptr 0 0,.dat (vval (.int .u8 c2))] [(0,.box (some 0) 194 [.nptr 0,.row 1 l1.length]),(1,.row 5 1 (List.map wc l1))] (.dat (zr [verr r.1])) [(0,.box (some 0) 194 [.nptr 0,.row 900 r.2.length]),(900,.row 5 1 (List.map wc r.2))]:=by
 refine Zs (by kernel_rfl) Tryz.func154 Z Z Z Z fun X A hN => ?_
 refine uz ?_
 unfold y3x at H
 refine zb hN Z (qe Z (zb hN Z (za (zh (.ptr _ _) Z) (zj (x5x x98 Z) Z (zb hN Z (za (zh (.ptr _ _) Z) (za (zh (.ptr _ _) Z) (za (wq Z) (za (zn y1u Z) (zm (zp y1l Z Z) Z (qd Z (za (yg (u':=vlst (List.map wc [c2])) (qy [[_]] z0o ⟨Z,.inl ⟨_,Z,Z,Z⟩,Z,U⟩ Z Z) Z) (gE H fun h3 H=>zj (ko z0o (fun _=>Z) Z Z Z ⟨by simp,by first | (simp; done) | simpa using h3⟩ Z) Z ?_)))))))))))))
 refine za (wq Z) (za (zn y1u Z) (z7p (z7d y1l Z Z (by rw [List.length_map]) Z) Z Z ?_))
 refine zb hN Z (qe Z (zg ?_))
 cases H
 show Cv _ _ _ _
 exact xj (rn [(1,900)]) [(4,.dat (verr 0))] [(0,.box (some (A.bl 0)) 194 [.nptr 0,.row 1 ((l1++[c2]).length)]),(1,.row 5 1 (List.map wc (l1++[c2])))] ⟨Z,U⟩ ⟨Z,Z,U⟩ Z Z ⟨U,[(4,.dat (verr 0))],⟨Z,U⟩,⟨Z,Z,U⟩,Z,.inl ⟨[verr 0],⟨Z,U⟩,Z⟩⟩
theorem x8e (c1:Int) (r:(Bool)) (H:y4d c1=some r):Fn Tryz.prog 214 [vval (.int .u8 c1)] (zr [zi r]):=by
 refine ⟨by kernel_rfl,zx (us:=[zi r]) Tryz.func214 Z Z Z Z fun X hN => ?_⟩
 unfold y4d at H
 refine zb hN Z (qe Z (zb hN Z (qd Z (bE H fun r2 h3 H=>za (zo (y4u c1 r2 h3) ⟨.inl Z,U⟩) (qd Z (yu Z Z (fun hc=>zh (.dat _) Z) (yu Z Z (fun hc=>vt (cnd (c:=(!r2)) hc) Z) (yu Z Z (fun hc=>zh (.dat _) (cnd (c:=(!r2)) hc)) (wz Z Z (fun hc=>zh (.dat _) Z) (wz Z Z (fun hc=>vq (cnd (c:=((!r2) && (decide (97≤c1)))) hc) Z) (yu Z Z (fun hc=>wy (cnd (c:=(!r2)) hc) (fun hb=>(cnd (c:=((!r2) && (decide (97≤c1)))) (andI hc hb))) Z) (za (vk Z Z (fun hb=>(cnd (c:=(!r2)) (notI hb)))) (qd Z (yu Z Z (fun hc=>zh (.dat _) Z) (yu Z Z (fun hc=>vt (cnd (c:=(!(r2 || ((decide (97≤c1)) && (decide (c1≤102)))))) hc) Z) (yu Z Z (fun hc=>zh (.dat _) (cnd (c:=(!(r2 || ((decide (97≤c1)) && (decide (c1≤102)))))) hc)) (wz Z Z (fun hc=>zh (.dat _) Z) (wz Z Z (fun hc=>vq (cnd (c:=((!(r2 || ((decide (97≤c1)) && (decide (c1≤102))))) && (decide (65≤c1)))) hc) Z) (yu Z Z (fun hc=>wy (cnd (c:=(!(r2 || ((decide (97≤c1)) && (decide (c1≤102)))))) hc) (fun hb=>(cnd (c:=((!(r2 || ((decide (97≤c1)) && (decide (c1≤102))))) && (decide (65≤c1)))) (andI hc hb))) Z) (za (vk Z Z (fun hb=>(cnd (c:=(!(r2 || ((decide (97≤c1)) && (decide (c1≤102)))))) (notI hb)))) (qe Z (zg ?_))))))))))))))))))))))
 cases H
 exact ⟨U,.inl Z,U⟩
theorem w96 (s1:Bs) (v2:Int) (r:(Bool)) (H:y94 s1 v2=some r):Fn Tryz.prog 155 [vstr s1,vint v2] (zr [zi r]):=by
 refine ⟨by kernel_rfl,zx (us:=[zi r]) Tryz.func155 Z Z Z Z fun X hN => ?_⟩
 unfold y94 at H
 refine zb hN Z (qe Z (yc (ι:=Bool) (fun i=>[(4,.dat (zi i))]) (fun i=>[]) (fun i=>z3w i=some r) (fun i=>Z) ?_ ?_))
 ·skip
  refine zk hN Z (qd Z (za (yl _ Z Z (.inl ⟨Z,Z⟩)) (qd Z (za (wl tyU9 Z) (za (zw Z Z) (qd Z (yi (j:=5) Z Z (fun h3 => ?_) (fun h3 => ?_) Z)))))))
  ·refine u1 h3 H fun h4 H=>ze Z Z h3 (zh (.dat _) Z) (ze Z Z h3 (zh (.dat _) Z) (ze Z Z h3 (yl _ Z Z (.inl ⟨Z,Z⟩)) (bE H fun x5 h6 H=>ze Z Z h3 (uq tyU9 Z Z h6) (bE H fun r7 h8 H=>ze Z Z h3 (zo (x8e (x5.toNat:Int) r7 h8) ⟨.inl Z,U⟩) (za (yb Z (bTT h4) Z) (qd Z (yi (j:=12) Z Z (fun h9 => ?_) (fun h9 => ?_) Z)))))))
   ·exact u1 h9 H fun h10 H=>ze Z Z h9 (zh (.dat _) Z) (ze Z Z h9 (zh (.dat _) Z) (ze Z Z h9 (yl _ Z Z (.inl ⟨Z,Z⟩)) (bE H fun x11 h12 H=>ze Z Z h9 (uq tyU9 Z Z h12) (bE H fun r13 h14 H=>ze Z Z h9 (zo (x8e (x11.toNat:Int) r13 h14) ⟨.inl Z,U⟩) (za (yb Z (bTT h10) Z) (qe Z ⟨r13,H,⟨Z,U⟩,U⟩))))))
   ·exact u2 h9 H fun h15 H=>zc Z Z h9 (zc Z Z h9 (zc Z Z h9 (zc Z Z h9 (zc Z Z h9 (za (ya Z (bFF h15) Z) (qe Z ⟨false,H,⟨Z,U⟩,U⟩))))))
  ·exact u2 h3 H fun h16 H=>zc Z Z h3 (zc Z Z h3 (zc Z Z h3 (zc Z Z h3 (zc Z Z h3 (za (ya Z (bFF h16) Z) (qd Z (zc Z Z Z (zc Z Z Z (zc Z Z Z (zc Z Z Z (zc Z Z Z (za (ya Z Z Z) (qe Z ⟨false,H,⟨Z,U⟩,U⟩)))))))))))))
 ·rintro v17 H
  replace H:z3w v17=some r:=H
  unfold z3w at H
  refine zg ?_
  cases H
  exact ⟨U,.inl Z,U⟩
theorem w89 (s1:Bs) (base2:Int) (bitSize3:Int) (r:(Int×Int)) (H:y9y s1 base2 bitSize3=some r):Fn Tryz.prog 215 [vstr s1,vint base2,vint bitSize3] (zr [vval (.int .u64 r.1),verr r.2]):=by
 refine ⟨by kernel_rfl,zx (us:=[vval (.int .u64 r.1),verr r.2]) Tryz.func215 Z Z Z Z fun X hN => ?_⟩
 unfold y9y at H
 refine zb hN Z (qe Z (qe Z (zb hN Z (qd Z (qd Z (qd Z (bE H fun r4 h5 H=>za (zo (x8k s1 base2 bitSize3 r4 h5) ⟨.inl Z,.inl Z,.inl Z,U⟩) (qd Z (za (ye Z Z) (za (ye Z Z) (qe Z (qe Z (zd (zb hN Z (qd Z (za (y2j (n:=r4.2) (show Tryz.prog.underlying 197=some (.interface (Tryz.prog.methodsAt 197)) from by kernel_rfl) Z) ?_))))))))))))))))
 refine zf _ Z (fun h6 => ?_) (fun h6 => ?_)
 ·refine tE h6 H fun H=>zb hN Z (qd Z (qd Z (qd Z (qd Z (qd Z (bE H fun r7 h8 H=>za (zo (x73 [80,97,114,115,101,85,105,110,116] s1 base2 bitSize3 r4.2 r7 h8) ⟨.inl Z,.inl Z,.inl Z,.inl Z,.inl Z,U⟩) (qe Z (qe Z (zg ?_)))))))))
  cases H
  exact ⟨U,.inl Z,.inl Z,U⟩
 ·refine fE h6 H fun H=>zl (zb hN Z (qd Z (qe Z (qe Z (zg ?_)))))
  cases H
  exact ⟨U,.inl Z,.inl Z,U⟩
theorem w92 (s1:Bs) (v2:Int) (r:(Int)) (H:y92 s1 v2=some r):Fn Tryz.prog 156 [vstr s1,vint v2] (zr [vval (.int .u8 r)]):=by
 refine ⟨by kernel_rfl,zx (us:=[vval (.int .u8 r)]) Tryz.func156 Z Z Z Z fun X hN => ?_⟩
 unfold y92 at H
 refine zb hN Z (qe Z (zb hN Z (qd Z (qd Z (za (yl _ Z Z (.inl ⟨Z,Z⟩)) (qd Z (za (yl _ Z Z (.inl ⟨Z,Z⟩)) (bE H fun l3 h4 H=>za (kh tyU9 Z Z Z h4) (bE H fun r5 h6 H=>za (zo (w89 l3 16 8 r5 h6) ⟨.inl Z,.inl Z,.inl Z,U⟩) (qd Z (za (ye Z Z) (za (ye Z Z) (qe Z (qe Z (zd (zb hN Z (qd Z (za (y2j (n:=r5.2) (show Tryz.prog.underlying 197=some (.interface (Tryz.prog.methodsAt 197)) from by kernel_rfl) Z) ?_))))))))))))))))))
 refine zf _ Z (fun h7 => ?_) (fun h7 => ?_)
 ·refine tE h7 H fun H=>zb hN Z (qe Z (zg ?_))
  cases H
  exact ⟨U,.inl Z,U⟩
 ·refine fE h7 H fun H=>zl (zb hN Z (qd Z (za (jh Zg tyU5 Z) (qe Z (zg ?_)))))
  cases H
  exact ⟨U,.inl Z,U⟩
theorem v0b (c1:Int) (r:(Bool)) (H:y96 c1=some r):Fn Tryz.prog 157 [vval (.int .u8 c1)] (zr [zi r]):=by
 refine ⟨by kernel_rfl,zx (us:=[zi r]) Tryz.func157 Z Z Z Z fun X hN => ?_⟩
 unfold y96 at H
 refine zb hN Z (qe Z (yc (ι:=Bool) (fun i=>[(2,.dat (zi i))]) (fun i=>[]) (fun i=>z30 i=some r) (fun i=>Z) ?_ ?_))
 ·skip
  refine zk hN Z (qd Z (bE H fun r2 h3 H=>za (zo (x01 c1 r2 h3) ⟨.inl Z,U⟩) (qd Z (yi (j:=2) Z Z (fun h4 => ?_) (fun h4 => ?_) Z))))
  ·refine u3 h4 H fun h5 H=>ze Z Z h4 (zh (.dat _) Z) (bE H fun r6 h7 H=>ze Z Z h4 (zo (y4u c1 r6 h7) ⟨.inl Z,U⟩) (za (ya Z (bFF h5) Z) (qd Z (yi (j:=6) Z Z (fun h8 => ?_) (fun h8 => ?_) Z))))
   ·exact u3 h8 H fun h9 H=>ze Z Z h8 (zh (.dat _) Z) (bE H fun r10 h11 H=>ze Z Z h8 (zo (y4t [45,46,95,126] c1 r10 h11) ⟨.inl Z,.inl Z,U⟩) (ze Z Z h8 (vt Z Z) (za (ya Z (bFF h9) Z) (qe Z ⟨decide (0≤r10),H,⟨Z,U⟩,U⟩))))
   ·exact u4 h8 H fun h12 H=>zc Z Z h8 (zc Z Z h8 (zc Z Z h8 (za (yb Z (bTT h12) Z) (qe Z ⟨true,H,⟨Z,U⟩,U⟩))))
  ·exact u4 h4 H fun h13 H=>zc Z Z h4 (zc Z Z h4 (za (yb Z (bTT h13) Z) (qd Z (zc Z Z Z (zc Z Z Z (zc Z Z Z (za (yb Z Z Z) (qe Z ⟨true,H,⟨Z,U⟩,U⟩))))))))
 ·rintro v14 H
  replace H:z30 v14=some r:=H
  unfold z30 at H
  refine zg ?_
  cases H
  exact ⟨U,.inl Z,U⟩
theorem w94 (c1:Int) (r:(Bs)) (H:y93 c1=some r):Fn Tryz.prog 158 [vval (.int .u8 c1)] (zr [vstr r]):=by
 refine ⟨by kernel_rfl,zx (us:=[vstr r]) Tryz.func158 Z Z Z Z fun X hN => ?_⟩
 unfold y93 at H
 refine zb hN Z (qe Z (zd (wg mixed hN Z Z (qd Z (za (yg (We Z Z (by decide)) Z) (bE H fun x2 h3 H=>za (z3f tyU9 Z Z h3) (qd Z (za (yg (y2k Z Z) Z) (bE H fun x4 h5 H=>za (z3f tyU9 Z Z h5) (za (yg (u':=vlst (List.map wc [37,(x2.toNat:Int),(x4.toNat:Int)])) (qy [[_],[_],[_]] z0o ⟨Z,.inl ⟨_,Z,Z,Z⟩,Z,Z,.inl ⟨_,Z,Z,Z⟩,Z,Z,.inl ⟨_,Z,Z,Z⟩,Z,U⟩ Z Z) Z) (za (z7e (C:=wc) Yt tyU5 tyU9 (fun _=>Z) Z) (qe Z ⟨Z,?_⟩))))))))))))
 refine zg ?_
 cases H
 exact ⟨U,.inl Z,U⟩
theorem w70 (l1:(List Int)) (s2:Bs) (r:(Int×Int×(List Int))) (H:y9w l1 s2=some r):FnG Tryz.prog 131 [.ptr 0 0,.dat (vstr s2)] [(0,.box (some 0) 194 [.nptr 0,.row 1 l1.length]),(1,.row 5 1 (List.map wc l1))] (.dat (zr [vint r.1,verr r.2.1])) [(0,.box (some 0) 194 [.nptr 0,.row 900 r.2.2.length]),(900,.row 5 1 (List.map wc r.2.2))]:=by
 refine Zs (by kernel_rfl) Tryz.func131 Z Z Z Z fun X A hN => ?_
 refine uz ?_
 unfold y9w at H
 refine zb hN Z (qe Z (qe Z (zb hN Z (za (zh (.ptr _ _) Z) (zj (x5x x98 Z) Z (zb hN Z (za (zh (.ptr _ _) Z) (za (zh (.ptr _ _) Z) (za (wq Z) (za (zn y1u Z) (zm (zp y1l Z Z) Z (qd Z (gE H fun h3 H=>zj (w21 (C:=wc) (fun _=>Z) (show tyB8 Tryz.prog 172 9 5 from ⟨by kernel_rfl,by kernel_rfl,by kernel_rfl⟩) Z Z Z h3) Z ?_)))))))))))))
 refine za (wq Z) (za (zn y1u Z) (z7p (z7d y1l Z Z (by rw [List.length_map]) Z) Z Z ?_))
 refine zb hN Z (qd Z (za (wl tyU9 Z) (qe Z (qe Z (zg ?_)))))
 cases H
 show Cv _ _ _ _
 exact xj (rn [(1,900)]) [(4,.dat (vint (s2.length:Int))),(5,.dat (verr 0))] [(0,.box (some (A.bl 0)) 194 [.nptr 0,.row 1 ((l1++jd s2).length)]),(1,.row 5 1 (List.map wc (l1++jd s2)))] ⟨Z,Z,U⟩ ⟨Z,Z,U⟩ Z Z ⟨U,[(4,.dat (vint (s2.length:Int))),(5,.dat (verr 0))],⟨Z,Z,U⟩,⟨Z,Z,U⟩,Z,.inl ⟨[vint (s2.length:Int),verr 0],⟨Z,Z,U⟩,Z⟩⟩
theorem w95 (s1:Bs) (r:(Bs×Bool)) (H:z81 s1=some r):Fn Tryz.prog 89 [vstr s1] (zr [vstr r.1,zi r.2]):=by
 refine ⟨by kernel_rfl,zx (us:=[vstr r.1,zi r.2]) Tryz.func89 Z Z Z Z fun X hN => ?_⟩
 unfold z81 at H
 refine zb hN Z (qe Z (qe Z (zb hN Z (zj (qm 1 w07 Z) Z (v5j 1 0 (.nptr 1) Z Z w6t (y56 1 1 2 5 1 Z Z Z Z (yc (ι:=(List Int)) (fun i=>[(4,.ptr 1 0)]) (fun i=>[(1,.box none 194 [.nptr 1,.row 2 i.length]),(2,.row 5 1 (List.map wc i))]) (fun i=>y3f i=some r) (fun i=>Z) ?_ ?_)))))))
 ·refine uz (zb hN Z (qe Z (zu (kj (fun (s:Int×(List Int))=>[(0,.dat (vstr s1)),(4,.ptr 1 0),(5,.dat (vint s.1))]) (fun (s:Int×(List Int))=>[(1,.box none 194 [.nptr 1,.row 2 s.2.length]),(2,.row 5 1 (List.map wc s.2))]) (0,([]:List Int)) H ⟨Z,Z,Z,U⟩ ⟨Z,Z,U⟩ (fun _=>Z) ?_))))
  rintro ⟨i2,l3⟩ q4 H hq4
  replace H:y9g s1 i2 l3=some q4:=H
  unfold y9g at H
  refine uz (zd (zb hN Z (qd Z (qd Z (za (wl tyU9 Z) (za (zw Z Z) (zf _ Z (fun h5 => ?_) (fun h5 => ?_))))))))
  ·refine tE h5 H fun H=>zl (yc (ι:=Int×(List Int)) (fun i=>[(0,.dat (vstr s1)),(4,.ptr 1 0),(5,.dat (vint i.1))]) (fun i=>[(1,.box none 194 [.nptr 1,.row 7 i.2.length]),(7,.row 5 1 (List.map wc i.2))]) (fun i=>z7y i.1 i.2=some q4) (fun i=>Z) ?_ ?_)
   ·refine uz (zu (zd (zb hN Z (qd Z (qd Z (bE H fun x6 h7 H=>za (uq tyU9 Z Z h7) (za (qj Z Z) (zf _ Z (fun h8 => ?_) (fun h8 => ?_)))))))))
    ·refine tE h8 H fun H=>zb hN Z (qd Z (qd Z (za (uq tyU9 Z Z h7) (bE H fun r9 h10 H=>kq (rn [(0,1),(1,2),(900,3)]) [(0,_,_,some _),(1,_,_,none)] [(900,_)] (x7w l3 (x6.toNat:Int) r9 h10) ⟨Z,Z,Z,U⟩ ⟨.inl (.inl Z),.inl (.inl Z),U⟩ ⟨⟨⟨Z,Z⟩,U⟩,⟨⟨Z,Z,Z⟩,U⟩,U⟩ Z (yp ?_)))))
     show Cv _ _ _ _
     exact xj (rn [(3,7)]) [(0,.dat (vstr s1)),(4,.ptr 1 0),(5,.dat (vint i2))] [(1,.box none 194 [.nptr 1,.row 3 r9.2.length]),(3,.row 5 1 (List.map wc r9.2))] ⟨Z,Z,Z,U⟩ ⟨Z,Z,U⟩ Z Z ⟨(i2,r9.2),H,⟨Z,Z,Z,U⟩,⟨Z,Z,U⟩⟩
    ·refine fE h8 H fun H=>zl (zd (zb hN Z (qd Z (qd Z (bE H fun r11 h12 H=>za (zo (w96 s1 i2 r11 h12) ⟨.inl Z,.inl Z,U⟩) (za (yv Z) (zf _ Z (fun h13 => ?_) (fun h13 => ?_))))))))
     ·refine tE h13 H fun H=>zb hN Z (qe Z (qe Z (zg ?_)))
      replace H:=retl H hq4
      cases H
      show Cv _ _ _ _
      refine ux ?_
      show Cv _ _ _ _
      refine ux ?_
      show Cv _ _ _ _
      exact ux ⟨U,.inl Z,.inl Z,U⟩
     ·refine fE h13 H fun H=>zl (yc (ι:=(List Int)) (fun i=>[(0,.dat (vstr s1)),(4,.ptr 1 0),(5,.dat (vint i2))]) (fun i=>[(1,.box none 194 [.nptr 1,.row 6 i.length]),(6,.row 5 1 (List.map wc i))]) (fun i=>z7x i2 i=some q4) (fun i=>Z) ?_ ?_)
      ·refine uz (zb hN Z (qd Z (qd Z (bE H fun r14 h15 H=>za (zo (w92 s1 i2 r14 h15) ⟨.inl Z,.inl Z,U⟩) (qe Z (zb hN Z (qd Z (bE H fun r16 h17 H=>za (zo (v0b r14 r16 h17) ⟨.inl Z,U⟩) (zf _ Z (fun h18 => ?_) (fun h18 => ?_))))))))))
       ·refine tE h18 H fun H=>zk hN Z (qd Z (bE H fun r19 h20 H=>kq (rn [(0,1),(1,2),(900,4)]) [(0,_,_,some _),(1,_,_,none)] [(900,_)] (x7w l3 r14 r19 h20) ⟨Z,Z,Z,U⟩ ⟨.inl (.inl Z),.inl (.inl Z),U⟩ ⟨⟨⟨Z,Z⟩,U⟩,⟨⟨Z,Z,Z⟩,U⟩,U⟩ Z (xu ?_)))
        show Cv _ _ _ _
        exact xj (rn [(4,6)]) [(0,.dat (vstr s1)),(4,.ptr 1 0),(5,.dat (vint i2))] [(1,.box none 194 [.nptr 1,.row 4 r19.2.length]),(4,.row 5 1 (List.map wc r19.2))] ⟨Z,Z,Z,U⟩ ⟨Z,Z,U⟩ Z Z ⟨r19.2,H,⟨Z,Z,Z,U⟩,⟨Z,Z,U⟩⟩
       ·refine fE h18 H fun H=>zk hN Z (qd Z (bE H fun r21 h22 H=>za (zo (w94 r14 r21 h22) ⟨.inl Z,U⟩) (bE H fun r23 h24 H=>kq (rn [(0,1),(1,2),(900,5)]) [(0,_,_,some _),(1,_,_,none)] [(900,_)] (w70 l3 r21 r23 h24) ⟨Z,Z,Z,U⟩ ⟨.inl (.inl Z),.inl (.inl Z),U⟩ ⟨⟨⟨Z,Z⟩,U⟩,⟨⟨Z,Z,Z⟩,U⟩,U⟩ Z (xu ?_))))
        show Cv _ _ _ _
        exact xj (rn [(5,6)]) [(0,.dat (vstr s1)),(4,.ptr 1 0),(5,.dat (vint i2))] [(1,.box none 194 [.nptr 1,.row 5 r23.2.2.length]),(5,.row 5 1 (List.map wc r23.2.2))] ⟨Z,Z,Z,U⟩ ⟨Z,Z,U⟩ Z Z ⟨r23.2.2,H,⟨Z,Z,Z,U⟩,⟨Z,Z,U⟩⟩
      ·rintro l25 H
       replace H:z7x i2 l25=some q4:=H
       unfold z7x at H
       refine zk hN Z (qd Z (za (yl _ Z Z (.inl ⟨Z,Z⟩)) (qe Z (xu ?_))))
       show Cv _ _ _ _
       exact xj (rn [(6,7)]) [(0,.dat (vstr s1)),(4,.ptr 1 0),(5,.dat (vint (wr (i2+2))))] [(1,.box none 194 [.nptr 1,.row 6 l25.length]),(6,.row 5 1 (List.map wc l25))] ⟨Z,Z,Z,U⟩ ⟨Z,Z,U⟩ Z Z ⟨(wr (i2+2),l25),H,⟨Z,Z,Z,U⟩,⟨Z,Z,U⟩⟩
   ·rintro ⟨i26,l27⟩ H
    replace H:z7y i26 l27=some q4:=H
    unfold z7y at H
    refine zk hN Z (qd Z (za (yl _ Z Z (.inl ⟨Z,Z⟩)) (qe Z (xu ?_))))
    show Cv _ _ _ _
    exact xj (rn [(7,2)]) [(0,.dat (vstr s1)),(4,.ptr 1 0),(5,.dat (vint (wr (i26+1))))] [(1,.box none 194 [.nptr 1,.row 7 l27.length]),(7,.row 5 1 (List.map wc l27))] ⟨Z,Z,Z,U⟩ ⟨Z,Z,U⟩ Z Z ⟨_,yw H,⟨Z,Z,Z,U⟩,⟨Z,Z,U⟩⟩
  ·refine fE h5 H fun H=>yp ?_
   replace H:=outl H hq4
   show Cv _ _ _ _
   refine ux ?_
   show Cv _ _ _ _
   exact ux ⟨l3,H,⟨Z,U⟩,⟨Z,Z,U⟩⟩
 ·rintro l28 H
  replace H:y3f l28=some r:=H
  unfold y3f at H
  refine zb hN Z (gE H fun h29 H=>kq (rn [(0,1),(1,2)]) [(0,_,_,none),(1,_,_,none)] [] (w7z h29 (C:=wc) (fun _=>Z)) ⟨Z,Z,U⟩ ⟨.inl (.inl Z),U⟩ ⟨⟨⟨Z,Z⟩,U⟩,⟨⟨Z,Z,Z⟩,U⟩,U⟩ Z (qe Z (qe Z (zg ?_))))
  cases H
  exact ⟨U,.inl Z,.inl Z,U⟩
theorem w83 (l:List Bs) (sep r:Bs) (H:z4h l sep=some r):Fn Tryz.prog 91 [vlst (List.map zt l),vstr sep] (zr [vstr r]):=by
 obtain ⟨h1,h2,rfl⟩:=v1r H
 refine Yp (by kernel_rfl) fun M w vs hM h => ?_
 obtain ⟨hl,hv⟩:=h
 obtain ⟨a,ha,hap⟩:=hv 0 _ rfl
 obtain ⟨s,hs,hsp⟩:=hv 1 _ rfl
 have hsp:s = .string ⟨sep.toArray⟩:=hsp
 subst hsp
 have hvs:vs.toArray = #[a,.string ⟨sep.toArray⟩]:=by
  rcases vs with _ | ⟨x,_ | ⟨y,_ | ⟨z,t⟩⟩⟩
  ·cases ha
  ·cases hs
  ·cases ha; cases hs; rfl
  ·simp at hl
 rw [hvs]
 obtain ⟨A,c,q1,q2,q3⟩:=hap
 simp only [List.length_map] at q1 q2
 subst q1
 by_cases hne:l=[]
 ·subst hne
  refine (Tryz.strings_Join_none A c ⟨sep.toArray⟩ w).mono ?_
  rintro e w' ⟨rfl,rfl⟩
  exact ⟨_,Z,Z,Kp.refl _ _⟩
 ·obtain ⟨b,off,size,rfl,hMb,arr,t,fz,q5,q6,q7⟩:=q3 (by simpa using hne)
  have hsz:size=1:=by
   cases hq:l with
   | nil=>exact absurd hq hne
   | cons x l'=>have:=q6 (zt x) (by rw [hq]; simp); simpa using this.symm
  subst hsz
  have e1:((l.map fun x=>ByteArray.mk x.toArray).map (·.data.toList))=l:=by
   rw [List.map_map]
   exact (List.map_congr_left fun x _=>Z).trans (List.map_id l)
  have hj:=Tryz.strings_Join b off c (l.map fun x=>ByteArray.mk x.toArray) ⟨sep.toArray⟩ w (fun j x hx=>by
   rw [List.getElem?_map] at hx
   cases hq:l[j]? with
   | none=>rw [hq] at hx; cases hx
   | some y =>
    rw [hq] at hx
    cases hx
    obtain ⟨v,r1,r2,_⟩:=q7 j 0 (zt y) (vstr y) (by rw [List.getElem?_map,hq]; rfl) rfl
    have r2:v = .string ⟨y.toArray⟩:=r2
    rw [cell_of_row w b _ _ _ _ q5]
    simp only [Nat.mul_one,Nat.add_zero] at r1
    rw [r1,r2]) (Yn q5) (by simp; omega) (by simpa using q2) (by rw [e1]; simp only; omega)
  rw [List.length_map,e1] at hj
  refine hj.mono ?_
  rintro e w' ⟨rfl,hb⟩
  exact ⟨_,Z,Z,Kp.of_below hb⟩
theorem v0d (s1:Bs) (r:(Bs×Int)) (H:z4v s1=some r):Fn Tryz.prog 38 [vstr s1] (zr [vstr r.1,vint r.2]):=by
 refine ⟨by kernel_rfl,zx (us:=[vstr r.1,vint r.2]) Tryz.func38 Z Z Z Z fun X hN => ?_⟩
 unfold z4v at H
 refine zb hN Z (qe Z (qe Z (zd (zb hN Z (qd Z (bE H fun r2 h3 H=>za (zo (x8f s1 r2 h3) ⟨.inl Z,U⟩) (qe Z (zb hN Z (qd Z (za (qj Z Z) (zf _ Z (fun h4 => ?_) (fun h4 => ?_))))))))))))
 ·refine tE h4 H fun H=>zb hN Z (qd Z (qe Z (qe Z (zg ?_))))
  cases H
  exact ⟨U,.inl Z,.inl Z,U⟩
 ·refine fE h4 H fun H=>zl (zb hN Z (qd Z (bE H fun r5 h6 H=>za (zo (w95 s1 r5 h6) ⟨.inl Z,U⟩) (qd Z (za (ye Z Z) (za (ye Z Z) (qe Z (qe Z (zd (zb hN Z (qd Z (za (yv Z) (zf _ Z (fun h7 => ?_) (fun h7 => ?_))))))))))))))
  ·refine tE h7 H fun H=>zb hN Z (qe Z (qe Z (zg ?_)))
   cases H
   exact ⟨U,.inl Z,.inl Z,U⟩
  ·refine fE h7 H fun H=>zl (zb hN Z (qe Z (zb hN Z (qd Z (bE H fun l8 h9 H=>za (kh tyU9 Z Z Z h9) (bE H fun r10 h11 H=>za (zo (Qm l8 [47] r10 h11) ⟨.inl Z,.inl Z,U⟩) (qe Z (zd (zb hN Z (qd Z (za (yk qr Z) (qd Z (zu (uy 6 1 9 1 Z Z Z (gE H fun h15 H=>qq (fun (k13:Nat) (s:(List Bs))=>[(6,.row 1 s.length),(7,.dat (vlst (List.map zt r10))),(25,.dat (vlst (List.map zt r10))),(26,.dat (vint (r10.length:Int))),(27,.dat (vint (k13:Int)))]) (fun (k13:Nat) (s:(List Bs))=>[(1,.row 9 1 (List.map zt s))]) [] H ⟨Z,Z,Z,Z,Z,U⟩ ⟨Z,U⟩ (fun _ _=>Z) ?_ ?_)))))))))))))))
   ·rintro l12 H
    replace H:y3m l12=some r:=H
    unfold y3m at H
    refine zb hN Z (za (zw Z Z) (zd (zf _ Z (fun h=>(lt_t h).elim) (fun h => ?_))))
    refine yp (zd (z0y 6 1 Z Z Z (zk hN Z (qd Z (bE H fun r17 h18 H=>za (zo (w83 l12 [47] r17 h18) ⟨.inl Z,.inl Z,U⟩) (gE H fun h19 H=>za (y2h Z Z (Nat.le_trans h19 (by decide))) (qe Z (qe Z (zg ?_)))))))))
    cases H
    exact ⟨U,.inl Z,.inl Z,U⟩
   ·rintro k13 x16 l12 q14 h20 h21 H hq14
    replace H:y3l r10 k13 x16 l12=some q14:=H
    unfold y3l at H
    refine uz (zb hN Z (za (zw Z Z) (zd (zf _ Z (fun h => ?_) (fun h=>(lt_f h20 h).elim)))))
    refine zl (yc (ι:=(List Bs)) (fun i=>[(6,.row 4 i.length),(7,.dat (vlst (List.map zt r10))),(25,.dat (vlst (List.map zt r10))),(26,.dat (vint (r10.length:Int))),(27,.dat (vint (k13:Int)))]) (fun i=>[(4,.row 9 1 (List.map zt i))]) (fun i=>z35 i=some q14) (fun i=>Z) ?_ ?_)
    ·refine uz (zu (zb hN Z (qd Z (za (qp wv (fun _=>Z) Z Z h21) (za (yr tyS9 Z (ym h21) Z) (qe Z (qe Z (yc (ι:=(List Bs)) (fun i=>[(6,.row 3 i.length),(7,.dat (vlst (List.map zt r10))),(8,.dat (vint (k13:Int))),(25,.dat (vlst (List.map zt r10))),(26,.dat (vint (r10.length:Int))),(27,.dat (vint (k13:Int)))]) (fun i=>[(3,.row 9 1 (List.map zt i))]) (fun i=>z7z r10 k13 i=some q14) (fun i=>Z) ?_ ?_))))))))
     ·refine uz (zb hN Z (qd Z (zu (zb hN Z (za (vz Z Z) (qe Z (zf _ Z (fun h22 => ?_) (fun h22 => ?_))))))))
      ·refine tE h22 H fun H=>zl ?_
       show Cv _ _ _ _
       exact xj (rn [(1,3)]) [(6,.row 1 l12.length),(7,.dat (vlst (List.map zt r10))),(8,.dat (vint (k13:Int))),(25,.dat (vlst (List.map zt r10))),(26,.dat (vint (r10.length:Int))),(27,.dat (vint (k13:Int)))] [(1,.row 9 1 (List.map zt l12))] ⟨Z,Z,Z,Z,Z,Z,U⟩ ⟨Z,U⟩ Z Z ⟨l12,H,⟨Z,Z,Z,Z,Z,Z,U⟩,⟨Z,U⟩⟩
      ·refine fE h22 H fun H=>zb hN Z (za (vz Z Z) (qe Z (zf _ Z (fun h23 => ?_) (fun h23 => ?_))))
       ·refine tE h23 H fun H=>zk hN Z (za (zh (.row _ _) Z) (za (zh (.row _ _) Z) (zm (Yy qr Z Z) Z (za (yl _ Z Z (.inr (.inl ⟨Z,Z⟩))) (za (w3v Z Z) (gE H fun h24 H=>y8x (y7y (C:=zt) 2 wv Z Z Z h24) Z Z (za (wm (.row _ _) Z) (xu ?_))))))))
        show Cv _ _ _ _
        exact xj (rn [(2,3)]) [(6,.row 2 ((max (wr ((l12.length:Int) - 1)) 0).toNat)),(7,.dat (vlst (List.map zt r10))),(8,.dat (vint (k13:Int))),(25,.dat (vlst (List.map zt r10))),(26,.dat (vint (r10.length:Int))),(27,.dat (vint (k13:Int)))] [(2,.row 9 1 (List.map zt (l12.take (max (wr ((l12.length:Int) - 1)) 0).toNat)))] ⟨Z,Z,Z,Z,Z,Z,U⟩ ⟨Z,U⟩ Z Z ⟨(l12.take (max (wr ((l12.length:Int) - 1)) 0).toNat),H,⟨congrArg (Slot.row 3) ((y0u h24)).symm,Z,Z,Z,Z,Z,U⟩,⟨Z,U⟩⟩
       ·refine fE h23 H fun H=>zb hN Z (za (zh (.row _ _) Z) (qd Z (za (yg (u':=vlst (List.map zt [x16])) (qy [[_]] vn ⟨Z,.inl ⟨_,Z,Z,Z⟩,Z,U⟩ Z Z) Z) (gE H fun h25 H=>zj (ko vn (fun _=>Z) Z Z Z ⟨by simp,by first | (simp; done) | simpa using h25⟩ Z) Z ?_))))
        refine za (wm (.row _ _) Z) (yp ?_)
        show Cv _ _ _ _
        refine ux ?_
        show Cv _ _ _ _
        exact xj (rn [(1,4)]) [(6,.row 1 ((l12++[x16]).length)),(7,.dat (vlst (List.map zt r10))),(25,.dat (vlst (List.map zt r10))),(26,.dat (vint (r10.length:Int))),(27,.dat (vint (k13:Int)))] [(1,.row 9 1 (List.map zt (l12++[x16])))] ⟨Z,Z,Z,Z,Z,U⟩ ⟨Z,U⟩ Z Z ⟨(l12++[x16]),H,⟨Z,Z,Z,Z,Z,U⟩,⟨Z,U⟩⟩
     ·rintro out26 H
      replace H:z7z r10 k13 out26=some q14:=H
      unfold z7z at H
      refine zb hN Z (qd Z (qd Z (za (yk qr Z) (za (yl _ Z Z (.inr (.inl ⟨Z,Z⟩))) (za (yn Z Z) (zf _ Z (fun h27 => ?_) (fun h27 => ?_)))))))
      ·refine tE h27 H fun H=>zk hN Z (za (zh (.row _ _) Z) (za (yg (u':=vlst (List.map zt [[]])) (qy [[_]] vn ⟨Z,.inl ⟨_,Z,Z,Z⟩,Z,U⟩ Z Z) Z) (gE H fun h28 H=>zj (ko vn (fun _=>Z) Z Z Z ⟨by simp,by first | (simp; done) | simpa using h28⟩ Z) Z ?_)))
       refine za (wm (.row _ _) Z) (xu ?_)
       show Cv _ _ _ _
       exact xj (rn [(3,4)]) [(6,.row 3 ((out26++([[]])).length)),(7,.dat (vlst (List.map zt r10))),(25,.dat (vlst (List.map zt r10))),(26,.dat (vint (r10.length:Int))),(27,.dat (vint (k13:Int)))] [(3,.row 9 1 (List.map zt (out26++([[]]))))] ⟨Z,Z,Z,Z,Z,U⟩ ⟨Z,U⟩ Z Z ⟨(out26++([[]])),H,⟨Z,Z,Z,Z,Z,U⟩,⟨Z,U⟩⟩
      ·refine fE h27 H fun H=>zl ?_
       show Cv _ _ _ _
       exact xj (rn [(3,4)]) [(6,.row 3 out26.length),(7,.dat (vlst (List.map zt r10))),(25,.dat (vlst (List.map zt r10))),(26,.dat (vint (r10.length:Int))),(27,.dat (vint (k13:Int)))] [(3,.row 9 1 (List.map zt out26))] ⟨Z,Z,Z,Z,Z,U⟩ ⟨Z,U⟩ Z Z ⟨out26,H,⟨Z,Z,Z,Z,Z,U⟩,⟨Z,U⟩⟩
    ·rintro out29 H
     replace H:z35 out29=some q14:=H
     unfold z35 at H
     refine zk hN Z (za (qi Z Z (by omega)) (qd Z (xu ?_)))
     show Cv _ _ _ _
     exact xj (rn [(4,1)]) [(6,.row 4 out29.length),(7,.dat (vlst (List.map zt r10))),(25,.dat (vlst (List.map zt r10))),(26,.dat (vint (r10.length:Int))),(27,.dat (vint ((k13:Int)+1)))] [(4,.row 9 1 (List.map zt out29))] ⟨Z,Z,Z,Z,Z,U⟩ ⟨Z,U⟩ Z Z ⟨_,yw H,⟨Z,Z,Z,Z,Z,U⟩,⟨Z,U⟩⟩
theorem w73 (l1:(List jn)) (r:(Int)) (H:y9m l1=some r):Fn Tryz.prog 92 [vlst (List.map un l1)] (zr [vint r]):=by
 refine ⟨by kernel_rfl,zx (us:=[vint r]) Tryz.func92 Z Z Z Z fun X hN => ?_⟩
 unfold y9m at H
 refine zb hN Z (qe Z (zd (zb hN Z (qd Z (za (yk z2t Z) (za (qh Z Z) (zf _ Z (fun h2 => ?_) (fun h2 => ?_))))))))
 ·refine tE h2 H fun H=>zb hN Z (qe Z (zg ?_))
  cases H
  exact ⟨U,.inl Z,U⟩
 ·refine fE h2 H fun H=>zl (zd (zb hN Z (qd Z (za (yk z2t Z) (qd Z (zu (gE H fun h5 H=>qq (fun (k3:Nat) (s:Unit)=>[(0,.dat (vlst (List.map un l1))),(8,.dat (vlst (List.map un l1))),(9,.dat (vint (l1.length:Int))),(10,.dat (vint (k3:Int)))]) (fun (k3:Nat) (s:Unit)=>[]) () H ⟨Z,Z,Z,Z,U⟩ U (fun _ _=>Z) ?_ ?_)))))))
  ·rintro ⟨⟩ H
   replace H:y6j=some r:=H
   unfold y6j at H
   refine zb hN Z (za (zw Z Z) (zd (zf _ Z (fun h=>(lt_t h).elim) (fun h => ?_))))
   refine yp (zb hN Z (qe Z (zg ?_)))
   cases H
   exact ⟨U,.inl Z,U⟩
  ·rintro k3 x6 ⟨⟩ q4 h7 h8 H hq4
   replace H:y6i l1 k3 x6=some q4:=H
   unfold y6i at H
   refine zb hN Z (za (zw Z Z) (zd (zf _ Z (fun h => ?_) (fun h=>(lt_f h7 h).elim))))
   refine zl (zd (zu (zb hN Z (qd Z (za (qp z6x (fun _=>Z) Z Z h8) (za (vg z2w Z (ym h8) Z) (zj (qm 1 y1g Z) Z (qe Z (zj (yo z2w Z Z Z Z) Z (zu (zb hN Z (za (zn y1y Z) (zm (zp tyS9 Z Z) Z (bE H fun r9 h10 H=>za (zo (ku x6.Key r9 h10) ⟨.inl Z,U⟩) (za (yv Z) (qe Z (zf _ Z (fun h11 => ?_) (fun h11 => ?_))))))))))))))))))
   ·refine tE h11 H fun H=>zb hN Z (qe Z (zg ?_))
    replace H:=retl H hq4
    cases H
    exact ⟨U,.inl Z,U⟩
   ·refine fE h11 H fun H=>yc (ι:=Bool) (fun i=>[(0,.dat (vlst (List.map un l1))),(4,.ptr 1 0),(8,.dat (vlst (List.map un l1))),(9,.dat (vint (l1.length:Int))),(10,.dat (vint (k3:Int))),(20,.dat (zi i))]) (fun i=>[(1,.box none 101 [.dat (vstr x6.Key),.dat (vint x6.Weight)])]) (fun i=>z6j x6 i=some q4) (fun i=>Z) ?_ ?_
    ·skip
     refine wg mixed hN Z Z (qd Z (za (qh Z Z) (qd Z (yi (j:=2) Z Z (fun h12 => ?_) (fun h12 => ?_) Z))))
     ·refine u1 h12 H fun h13 H=>ze Z Z h12 (zn y1y Z) (qz Z Z h12 (zp tyS9 Z Z) Z (ze Z Z h12 (zh (.dat _) Z) (ze Z Z h12 (zh (.dat _) Z) (ze Z Z h12 (Wd Z Z (by omega)) (bE H fun x14 h15 H=>ze Z Z h12 (wx z6x (fun _=>Z) Z Z h15) (ze Z Z h12 (vr y1y Z) (ze Z Z h12 (yr tyS9 Z (ym (qk h15).2) Z) (ze Z Z h12 (Zz Z Z) (za (yb Z (bTT h13) Z) (qe Z ⟨Z,?_⟩))))))))))
      exact ⟨(Op.bytesLess x6.Key x14.Key || x6.Key == x14.Key),H,⟨Z,Z,Z,Z,Z,Z,U⟩,⟨Z,U⟩⟩
     ·refine u2 h12 H fun h16 H=>zc Z Z h12 (zc Z Z h12 (zc Z Z h12 (zc Z Z h12 (zc Z Z h12 (zc Z Z h12 (zc Z Z h12 (zc Z Z h12 (zc Z Z h12 (za (ya Z (bFF h16) Z) (qe Z ⟨Z,?_⟩))))))))))
      exact ⟨false,H,⟨Z,Z,Z,Z,Z,Z,U⟩,⟨Z,U⟩⟩
    ·rintro v17 H
     replace H:z6j x6 v17=some q4:=H
     unfold z6j at H
     refine zf _ Z (fun h18 => ?_) (fun h18 => ?_)
     ·refine tE h18 H fun H=>zb hN Z (qe Z (zg ?_))
      replace H:=retl H hq4
      cases H
      exact ⟨U,.inl Z,U⟩
     ·refine fE h18 H fun H=>zb hN Z (za (zn y7e Z) (zm (zp tyS3 Z Z) Z (bE H fun r19 h20 H=>za (zo (ue x6.Weight 1 100 r19 h20) ⟨.inl Z,.inl Z,.inl Z,U⟩) (qe Z (zf _ Z (fun h21 => ?_) (fun h21 => ?_))))))
      ·refine tE h21 H fun H=>zb hN Z (qe Z (zg ?_))
       replace H:=retl H hq4
       cases H
       exact ⟨U,.inl Z,U⟩
      ·exact fE h21 H fun H=>zl (zk hN Z (za (qi Z Z (by omega)) (qd Z ⟨_,yw H,⟨Z,Z,Z,Z,U⟩,U⟩)))
theorem w71 (l1:(List jn)) (r:(Int)) (H:y9l l1=some r):Fn Tryz.prog 93 [vlst (List.map un l1)] (zr [vint r]):=by
 refine ⟨by kernel_rfl,zx (us:=[vint r]) Tryz.func93 Z Z Z Z fun X hN => ?_⟩
 unfold y9l at H
 refine zb hN Z (qe Z (zb hN Z (qe Z (zd (zb hN Z (qd Z (za (yk z2t Z) (qd Z (zu (gE H fun h5 H=>qq (fun (k3:Nat) (s:Int)=>[(3,.dat (vint s)),(6,.dat (vlst (List.map un l1))),(7,.dat (vint (l1.length:Int))),(8,.dat (vint (k3:Int)))]) (fun (k3:Nat) (s:Int)=>[]) 0 H ⟨Z,Z,Z,Z,U⟩ U (fun _ _=>Z) ?_ ?_))))))))))
 ·rintro sum2 H
  replace H:y6d sum2=some r:=H
  unfold y6d at H
  refine zb hN Z (za (zw Z Z) (zd (zf _ Z (fun h=>(lt_t h).elim) (fun h => ?_))))
  refine yp (zb hN Z (qd Z (qe Z (zg ?_))))
  cases H
  exact ⟨U,.inl Z,U⟩
 ·rintro k3 x6 sum2 q4 h7 h8 H hq4
  replace H:y6c k3 x6 sum2=some q4:=H
  unfold y6c at H
  refine zb hN Z (za (zw Z Z) (zd (zf _ Z (fun h => ?_) (fun h=>(lt_f h7 h).elim))))
  exact zl (zd (zu (zb hN Z (za (qp z6x (fun _=>Z) Z Z h8) (za (vg z2w Z (ym h8) Z) (zj (qm 1 y1g Z) Z (zj (yo z2w Z Z Z Z) Z (zk hN Z (qd Z (za (zn y7e Z) (zm (zp tyS3 Z Z) Z (za (yl _ Z Z (.inl ⟨Z,Z⟩)) (qe Z (zk hN Z (za (qi Z Z (by omega)) (qd Z ⟨_,yw H,⟨Z,Z,Z,Z,U⟩,U⟩))))))))))))))))
theorem w72 (v1:(List jn)) (v2:Int) (r:((List Bs)×Int)) (H:y3q v1 v2=some r):Fn Tryz.prog 39 [vlst (List.map un v1),vint v2] (zr [vlst (List.map zt r.1),vint r.2]):=by
 refine ⟨by kernel_rfl,zx (us:=[vlst (List.map zt r.1),vint r.2]) Tryz.func39 Z Z Z Z fun X hN => ?_⟩
 unfold y3q at H
 refine zb hN Z (qe Z (qe Z (zd (zb hN Z (qd Z (bE H fun r3 h4 H=>za (zo (w73 v1 r3 h4) ⟨.inl Z,U⟩) (qe Z (zb hN Z (qd Z (za (qj Z Z) (zf _ Z (fun h5 => ?_) (fun h5 => ?_))))))))))))
 ·refine tE h5 H fun H=>zb hN Z (qd Z (qe Z (qe Z (zg ?_))))
  cases H
  exact ⟨U,.inr ⟨Z,Z⟩,.inl Z,U⟩
 ·refine fE h5 H fun H=>zl (zd (zb hN Z (qd Z (bE H fun r6 h7 H=>za (zo (ue v2 0 2000 r6 h7) ⟨.inl Z,.inl Z,.inl Z,U⟩) (zf _ Z (fun h8 => ?_) (fun h8 => ?_))))))
  ·refine tE h8 H fun H=>zb hN Z (qe Z (qe Z (zg ?_)))
   cases H
   exact ⟨U,.inr ⟨Z,Z⟩,.inl Z,U⟩
  ·refine fE h8 H fun H=>zl (zd (zb hN Z (qd Z (za (yk z2t Z) (za (yn Z Z) (zf _ Z (fun h9 => ?_) (fun h9 => ?_)))))))
   ·refine tE h9 H fun H=>zb hN Z (qe Z (qe Z (zg ?_)))
    cases H
    exact ⟨U,.inr ⟨Z,Z⟩,.inl Z,U⟩
   ·refine fE h9 H fun H=>zl (zb hN Z (qd Z (za (yk z2t Z) (gE H fun h10 H=>zj (w2w (C:=wi) 1 0 kf tyZ3 Z Z Z Z h10 Z) Z (za (wm (.row _ _) Z) (zb hN Z (qd Z (bE H fun r11 h12 H=>za (zo (w71 v1 r11 h12) ⟨.inl Z,U⟩) (qe Z (zb hN Z (qe Z (zd (zb hN Z (qd Z (qd Z (zu (uy 9 2 9 1 Z Z Z (gE H fun h17 H=>Zt (fun (k15:Nat) (s:(List Int)×(List Bs))=>[(0,.dat (vlst (List.map un v1))),(7,.row 1 s.1.length),(8,.dat (vint r11)),(9,.row 2 s.2.length),(28,.dat (vint v2)),(29,.dat (vint (k15:Int)))]) (fun (k15:Nat) (s:(List Int)×(List Bs))=>[(1,.row 3 1 (List.map wi s.1)),(2,.row 9 1 (List.map zt s.2))]) ((List.replicate v1.length 0),[]) H ⟨Z,congrArg (Slot.row 1) (by simp),Z,Z,Z,Z,U⟩ ⟨Z,Z,U⟩ (fun _ _=>Z) ?_ ?_))))))))))))))))))
    ·rintro ⟨l13,l14⟩ H
     replace H:y6h l13 l14=some r:=H
     unfold y6h at H
     refine zb hN Z (za (zw Z Z) (zd (zf _ Z (fun h=>(z5c h).elim) (fun h => ?_))))
     refine yp (zb hN Z (za (zh (.row _ _) Z) (za (wm (.row _ _) Z) (qe Z (zg ?_)))))
     cases H
     exact ⟨U,Yx Z Z,.inl Z,U⟩
    ·rintro k15 ⟨l13,l14⟩ q16 h18 H hq16
     replace H:y6f v1 r11 k15 l13 l14=some q16:=H
     unfold y6f at H
     refine zb hN Z (za (zw Z Z) (zd (zf _ Z (fun h => ?_) (fun h=>(z5d h18 h).elim))))
     refine zl (zd (zu (zb hN Z (qe Z (zd (zb hN Z (qd Z (za (yk z2t Z) (qd Z (zu (gE H fun h23 H=>qq (fun (k21:Nat) (s:Int×(List Int))=>[(0,.dat (vlst (List.map un v1))),(7,.row 1 s.2.length),(8,.dat (vint r11)),(9,.row 2 l14.length),(10,.dat (vint s.1)),(28,.dat (vint v2)),(29,.dat (vint (k15:Int))),(31,.dat (vlst (List.map un v1))),(32,.dat (vint (v1.length:Int))),(33,.dat (vint (k21:Int)))]) (fun (k21:Nat) (s:Int×(List Int))=>[(1,.row 3 1 (List.map wi s.2)),(2,.row 9 1 (List.map zt l14))]) (0,l13) H ⟨Z,Z,Z,Z,Z,Z,Z,Z,Z,Z,U⟩ ⟨Z,Z,U⟩ (fun _ _=>Z) ?_ ?_)))))))))))
     ·rintro ⟨v19,l20⟩ H
      replace H:y6g v1 r11 l14 v19 l20=some q16:=H
      unfold y6g at H
      refine zb hN Z (za (zw Z Z) (zd (zf _ Z (fun h=>(lt_t h).elim) (fun h => ?_))))
      refine yp (zb hN Z (za (zh (.row _ _) Z) (qd Z (bE H fun x25 h26 H=>zm (Zy Yv Z Z Z h26) Z (zm (z0x tyS3 Z Z (qk h26).2 Z) Z (qd Z (za (yl _ Z Z (.inr (.inl ⟨Z,Z⟩))) (zm (Zy Yv Z Z Z h26) Z (zj (y2e (wr (x25 - r11)) tyS3 Z Z Z Z (qk h26).2 Z Z) Z (zk hN Z (za (zh (.row _ _) Z) (qd Z (qd Z (bE H fun x27 h28 H=>za (wx z6x (fun _=>Z) Z Z h28) (za (vr y1y Z) (za (yr tyS9 Z (ym (qk h28).2) Z) (za (yg (u':=vlst (List.map zt [x27.Key])) (qy [[_]] vn ⟨Z,.inl ⟨_,Z,Z,Z⟩,Z,U⟩ Z Z) Z) (gE H fun h29 H=>zj (ko vn (fun _=>Z) Z Z Z ⟨by simp,by first | (simp; done) | simpa using h29⟩ Z) Z ?_))))))))))))))))))
      exact za (wm (.row _ _) Z) (zk hN Z (za (qi Z Z (by omega)) (qd Z ⟨_,yw H,⟨Z,congrArg (Slot.row 1) (by simp),Z,Z,Z,Z,U⟩,⟨Z,Z,U⟩⟩)))
     ·rintro k21 x24 ⟨v19,l20⟩ q22 h30 h31 H hq22
      replace H:y6e k21 x24 v19 l20=some q22:=H
      unfold y6e at H
      refine zb hN Z (za (zw Z Z) (zd (zf _ Z (fun h => ?_) (fun h=>(lt_f h30 h).elim))))
      refine zl (yc (ι:=Int×(List Int)) (fun i=>[(0,.dat (vlst (List.map un v1))),(7,.row 1 i.2.length),(8,.dat (vint r11)),(9,.row 2 l14.length),(10,.dat (vint i.1)),(28,.dat (vint v2)),(29,.dat (vint (k15:Int))),(31,.dat (vlst (List.map un v1))),(32,.dat (vint (v1.length:Int))),(33,.dat (vint (k21:Int)))]) (fun i=>[(1,.row 3 1 (List.map wi i.2)),(2,.row 9 1 (List.map zt l14))]) (fun i=>z6i i.1 i.2=some q22) (fun i=>Z) ?_ ?_)
      ·skip
       refine zu (zb hN Z (qd Z (za (qp z6x (fun _=>Z) Z Z h31) (za (vg z2w Z (ym h31) Z) (zj (qm 3 y1g Z) Z (qe Z (zj (yo z2w Z Z Z Z) Z (zd (wg mixed hN Z Z (za (zh (.row _ _) Z) (qd Z (bE H fun x32 h33 H=>zm (z67 Yv Z Z Z h33) Z (zm (z0x tyS3 Z Z h33 Z) Z (za (zn y7e Z) (zm (zp tyS3 Z Z) Z (za (yl _ Z Z (.inl ⟨Z,Z⟩)) (zm (z67 Yv Z Z Z h33) Z (zj (y2e (wr (x32+x24.Weight)) tyS3 Z Z Z Z h33 Z Z) Z ⟨Z,?_⟩))))))))))))))))))
       refine zd (wg mixed hN Z Z (za (zh (.row _ _) Z) (qd Z (bE H fun x34 h35 H=>zm (z67 Yv Z (by simp) Z h35) Z (zm (z0x tyS3 Z (by simp) h35 Z) Z (za (zh (.row _ _) Z) (qd Z (bE H fun x36 h37 H=>zm (Zy Yv Z (by simp) Z h37) Z (zm (z0x tyS3 Z (by simp) (qk h37).2 Z) Z (za (qh Z Z) ⟨Z,?_⟩))))))))))
       refine zf _ Z (fun h38 => ?_) (fun h38 => ?_)
       ·exact tE h38 H fun H=>zk hN Z (qd Z (qe Z ⟨((k21:Int),(l20.set k21 (wr (x32+x24.Weight)))),H,⟨Z,congrArg (Slot.row 1) (by simp),Z,Z,Z,Z,Z,Z,Z,Z,U⟩,⟨Z,Z,U⟩⟩))
       ·exact fE h38 H fun H=>zl ⟨(v19,(l20.set k21 (wr (x32+x24.Weight)))),H,⟨Z,congrArg (Slot.row 1) (by simp),Z,Z,Z,Z,Z,Z,Z,Z,U⟩,⟨Z,Z,U⟩⟩
      ·rintro ⟨v39,v40⟩ H
       replace H:z6i v39 v40=some q22:=H
       unfold z6i at H
       exact zk hN Z (za (qi Z Z (by omega)) (qd Z ⟨_,yw H,⟨Z,Z,Z,Z,Z,Z,Z,Z,Z,Z,U⟩,⟨Z,Z,U⟩⟩))
theorem v0e (a1:xa) (r:(Int)) (H:z85 a1=some r):Fn Tryz.prog 94 [vagg (y6a a1)] (zr [vint r]):=by
 refine ⟨by kernel_rfl,zx (us:=[vint r]) Tryz.func94 Z Z Z Z fun X hN => ?_⟩
 unfold z85 at H
 refine zb hN Z (zj (qu 1 Z) Z (qe Z (zd (zb hN Z (za (zn w2e Z) (zm (zp tyS3 Z Z) Z (bE H fun r2 h3 H=>za (zo (ue a1.Status 100 599 r2 h3) ⟨.inl Z,.inl Z,.inl Z,U⟩) (zf _ Z (fun h4 => ?_) (fun h4 => ?_)))))))))
 ·refine tE h4 H fun H=>zb hN Z (qe Z (zg ?_))
  cases H
  exact ⟨U,.inl Z,U⟩
 ·refine fE h4 H fun H=>zl (zd (zb hN Z (za (zn y7d Z) (zm (zp z2u Z Z) Z (bE H fun r5 h6 H=>za (zo (x8h a1.Headers r5 h6) ⟨.inl Z,U⟩) (qe Z (zb hN Z (qd Z (za (qj Z Z) (zf _ Z (fun h7 => ?_) (fun h7 => ?_)))))))))))
  ·refine tE h7 H fun H=>zb hN Z (qd Z (qe Z (zg ?_)))
   cases H
   exact ⟨U,.inl Z,U⟩
  ·refine fE h7 H fun H=>zl (zd (zb hN Z (za (zn w2d Z) (zm (zp tyS9 Z Z) Z (za (wl tyU9 Z) (za (qh Z Z) (zf _ Z (fun h8 => ?_) (fun h8 => ?_))))))))
   ·refine tE h8 H fun H=>zb hN Z (qe Z (zg ?_))
    cases H
    exact ⟨U,.inl Z,U⟩
   ·refine fE h8 H fun H=>zl (zb hN Z (qe Z (zg ?_)))
    cases H
    exact ⟨U,.inl Z,U⟩
theorem x8r (qb:Nat) (r:((List Bs)×(List Int))) (H:z9u  = some r):Fn Tryz.prog 160 [vval (.pointer (some ⟨qb,0,none⟩))] (zr [vlst (List.map zt r.1),vlst (List.map (CP qb) r.2)]):=by
 refine ⟨by kernel_rfl,zx (us:=[vlst (List.map zt r.1),vlst (List.map (CP qb) r.2)]) Tryz.func160 Z Z Z Z fun X hN => ?_⟩
 unfold z9u at H
 refine zb hN Z (qe Z (qe Z (zd (wg mixed hN Z Z (za (yg (u':=vlst (List.map zt [[109,97,120,45,97,103,101],[115,45,109,97,120,97,103,101],[115,116,97,108,101,45,119,104,105,108,101,45,114,101,118,97,108,105,100,97,116,101],[115,116,97,108,101,45,105,102,45,101,114,114,111,114],[109,97,120,45,115,116,97,108,101],[109,105,110,45,102,114,101,115,104]])) (qy [[_],[_],[_],[_],[_],[_]] vn ⟨Z,.inl ⟨_,Z,Z,Z⟩,Z,Z,.inl ⟨_,Z,Z,Z⟩,Z,Z,.inl ⟨_,Z,Z,Z⟩,Z,Z,.inl ⟨_,Z,Z,Z⟩,Z,Z,.inl ⟨_,Z,Z,Z⟩,Z,Z,.inl ⟨_,Z,Z,Z⟩,Z,U⟩ Z Z) Z) (qd Z (za (xr Z) (za (xt y68 Z) (qd Z (za (xr Z) (za (xt y67 Z) (qd Z (za (xr Z) (za (xt w14 Z) (qd Z (za (xr Z) (za (xt w13 Z) (qd Z (za (xr Z) (za (xt w2a Z) (qd Z (za (xr Z) (za (xt w19 Z) ?_)))))))))))))))))))))))
 refine za (yg (u':=vlst (List.map (CP qb) ([6,7,8,9,10,11]:List Int))) (qy [[_],[_],[_],[_],[_],[_]] w1u ⟨Z,.inl ⟨_,Z,Z,Z⟩,Z,Z,.inl ⟨_,Z,Z,Z⟩,Z,Z,.inl ⟨_,Z,Z,Z⟩,Z,Z,.inl ⟨_,Z,Z,Z⟩,Z,Z,.inl ⟨_,Z,Z,Z⟩,Z,Z,.inl ⟨_,Z,Z,Z⟩,Z,U⟩ Z Z) Z) (qe Z (qe Z ⟨Z,?_⟩))
 refine zg ?_
 cases H
 exact ⟨U,.inl Z,.inl Z,U⟩
end Go.Proofs.YtbndlmnjeofkdacGreatDoor
