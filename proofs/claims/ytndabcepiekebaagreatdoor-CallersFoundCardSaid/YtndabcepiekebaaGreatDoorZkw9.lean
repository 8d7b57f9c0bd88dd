/- Walks along the models. Printed by a program. -/
import Derived.Test.YtndabcepiekebaaGreatDoorZkw8
namespace Go.Proofs.YtndabcepiekebaaGreatDoor
open Go.RowKit
set_option linter.unusedVariables false
set_option maxRecDepth 100000
set_option maxHeartbeats 2000000
theorem w5g (v1:wo) (v2:Bs) (v3:Int) (r:(zm×Int)) (H:z5p v1 v2 v3=some r):Fn Tryz.prog 16 [vagg (xi v1),vstr v2,vint v3] (zw [vagg (yq r.1),vint r.2]):=by
 refine ⟨by kernel_rfl,yd (us:=[vagg (yq r.1),vint r.2]) Tryz.func16 Z Z Z Z fun X hN => ?_⟩
 unfold z5p at H
 refine zb hN Z (zi (jf 1 Z) Z (zi (z4g 2 Z Z) Z (zi (we 3 wl Z) Z (qe Z (zb hN Z (za (zn z32 Z) (zu (zp Qy Z Z) Z (qd Z (zu (zp tyS3 Z Z) Z (bE H fun r4 h5 H=>za (zl (w43 v1.Signers v2 v3 r4 h5) ⟨.inl Z,.inl Z,.inl Z,U⟩) (qd Z (za (ym Z Z) (za (ym Z Z) (zi (we 4 wl Z) Z (zi (yp yn Z Z Z Z) Z (qe Z (ze (zb hN Z (qd Z (za (wa Z Z) (zg _ Z (fun h6 => ?_) (fun h6 => ?_))))))))))))))))))))))
 ·refine tE h6 H fun H=>zb hN Z (za (wd (u':=vagg (yq (zm.mk [] [] [] [] [] [] 0 0))) (wh (by exact ⟨zr,zr,zr,zr,yu,yu,zr,zr,U⟩)) (qt [] wl je Z U)) ?_)
  refine qd Z (zi (yp yn Z Z Z Z) Z (qe Z (zh ?_)))
  cases H
  exact ⟨U,.inl ⟨_,_,_,yq (zm.mk [] [] [] [] [] [] 0 0),Z,Z,Z,Z,yn⟩,.inl Z,U⟩
 ·refine fE h6 H fun H=>zk (ze (zx (yf (ι:=Bool) (fun i=>[(3,.ptr 1 0),(5,.ptr 2 0),(6,.ptr 3 0),(8,.ptr 4 0),(22,.dat (zj i))]) (fun i=>[(1,.box none 30 [.dat (vstr v1.Issuer),.dat (vstr v1.Audience),.dat (vlst (List.map wg v1.Signers)),.dat (vlst (List.map jb v1.Revoked)),.dat (vlst (List.map vx v1.Holders)),.dat (vint v1.Skew)]),(2,.box none 3 [.dat (vint v3)]),(3,.box none 39 [.dat (vstr []),.dat (vstr []),.dat (vstr []),.dat (vstr []),.dat (vnil),.dat (vnil),.dat (vint 0),.dat (vint 0)]),(4,.box none 39 [.dat (vstr r4.1.Id),.dat (vstr r4.1.Subject),.dat (vstr r4.1.Issuer),.dat (vstr r4.1.Parent),.dat (vlst (List.map zo r4.1.Audience)),.dat (vlst (List.map zo r4.1.Scopes)),.dat (vint r4.1.From),.dat (vint r4.1.To)])]) (fun i=>z0p v1 v3 r4 i=some r) (fun i=>Z) ?_ ?_)))
  ·skip
   refine zq hN Z (za (zn z0x Z) (zu (zp tyS9 Z Z) Z (za (zn z01 Z) (zu (zp tyS9 Z Z) Z (za (jj Z Z) (qd Z (yh (j:=5) Z Z (fun h7 => ?_) (fun h7 => ?_) Z)))))))
   ·refine u3 h7 H fun h8 H=>zd Z Z h7 (zn uz Z) (vj Z Z h7 (zp qq Z Z) Z (zd Z Z h7 (yo qm Z) (zd Z Z h7 (qh Z Z) (zd Z Z h7 (zf (.dat _) Z) (yh (j:=10) Z Z (fun h9 => ?_) (fun h9 => ?_) Z)))))
    ·exact u1 h9 H fun h10 H=>zd Z Z h9 (zn uz Z) (vj Z Z h9 (zp qq Z Z) Z (zd Z Z h9 (zn z7o Z) (vj Z Z h9 (zp tyS9 Z Z) Z (bE H fun r11 h12 H=>zd Z Z h9 (zl (y4u r4.1.Audience v1.Audience r11 h12) ⟨.inl Z,.inl Z,U⟩) (zd Z Z h9 (yt Z) (zd Z Z h7 (zz Z (bTT h10) Z) (za (yb Z (bFF h8) Z) (qe Z ⟨!r11,H,⟨Z,Z,Z,Z,Z,U⟩,⟨Z,Z,Z,Z,U⟩⟩))))))))
    ·exact u2 h9 H fun h13 H=>zc Z Z h9 (zc Z Z h9 (zc Z Z h9 (zc Z Z h9 (zc Z Z h9 (zc Z Z h9 (zd Z Z h7 (yb Z (bFF h13) Z) (za (yb Z (bFF h8) Z) (qe Z ⟨false,H,⟨Z,Z,Z,Z,Z,U⟩,⟨Z,Z,Z,Z,U⟩⟩))))))))
   ·exact u4 h7 H fun h14 H=>zc Z Z h7 (zc Z Z h7 (zc Z Z h7 (zc Z Z h7 (zc Z Z h7 (yg Z Z (yg Z Z (yg Z Z (yg Z Z (yg Z Z (yg Z Z (zc Z Z h7 (za (zz Z (bTT h14) Z) (qe Z ⟨true,H,⟨Z,Z,Z,Z,Z,U⟩,⟨Z,Z,Z,Z,U⟩⟩)))))))))))))
  ·rintro v15 H
   replace H:z0p v1 v3 r4 v15=some r:=H
   unfold z0p at H
   refine zg _ Z (fun h16 => ?_) (fun h16 => ?_)
   ·refine tE h16 H fun H=>zb hN Z (za (wd (u':=vagg (yq (zm.mk [] [] [] [] [] [] 0 0))) (wh (by exact ⟨zr,zr,zr,zr,yu,yu,zr,zr,U⟩)) (qt [] wl je Z U)) ?_)
    refine zi (yp yn Z Z Z Z) Z (qe Z (zh ?_))
    cases H
    exact ⟨U,.inl ⟨_,_,_,yq (zm.mk [] [] [] [] [] [] 0 0),Z,Z,Z,Z,yn⟩,.inl Z,U⟩
   ·refine fE h16 H fun H=>zb hN Z (zu (zp tyS3 Z Z) Z (za (zn Zu Z) (zu (zp tyS3 Z Z) Z (za (zn z00 Z) (zu (zp tyS3 Z Z) Z (za (yw _ Z Z (.inr (.inl ⟨Z,Z⟩))) (za (zy Z Z) (qd Z (jk Z Z (fun hc=>zp tyS3 Z Z) Z vv (yi Z Z (fun hc=>zn Za Z) (jk Z Z (fun hc=>zp tyS3 (cnd (c:=(!(decide (v3 < (wr (r4.1.From - v1.Skew)))))) hc) Z) Z vv (yi Z Z (fun hc=>zn z00 Z) (jk Z Z (fun hc=>zp tyS3 (cnd (c:=(!(decide (v3 < (wr (r4.1.From - v1.Skew)))))) hc) Z) Z vv (yi Z Z (fun hc=>yw _ (cnd (c:=(!(decide (v3 < (wr (r4.1.From - v1.Skew)))))) hc) (cnd (c:=(!(decide (v3 < (wr (r4.1.From - v1.Skew)))))) hc) (.inl ⟨Z,Z⟩)) (yi Z Z (fun hc=>vy (cnd (c:=(!(decide (v3 < (wr (r4.1.From - v1.Skew)))))) hc) (cnd (c:=(!(decide (v3 < (wr (r4.1.From - v1.Skew)))))) hc)) (za (wz Z Z (fun hb=>(cnd (c:=(!(decide (v3 < (wr (r4.1.From - v1.Skew)))))) (notI hb)))) (qe Z (zg _ Z (fun h17 => ?_) (fun h17 => ?_)))))))))))))))))))
    ·refine tE h17 H fun H=>zb hN Z (za (wd (u':=vagg (yq (zm.mk [] [] [] [] [] [] 0 0))) (wh (by exact ⟨zr,zr,zr,zr,yu,yu,zr,zr,U⟩)) (qt [] wl je Z U)) ?_)
     refine zi (yp yn Z Z Z Z) Z (qe Z (zh ?_))
     cases H
     exact ⟨U,.inl ⟨_,_,_,yq (zm.mk [] [] [] [] [] [] 0 0),Z,Z,Z,Z,yn⟩,.inl Z,U⟩
    ·refine fE h17 H fun H=>ze (xg 4 [vstr r4.1.Id,vstr r4.1.Subject,vstr r4.1.Issuer,vstr r4.1.Parent,vlst (List.map zo r4.1.Audience),vlst (List.map zo r4.1.Scopes),vint r4.1.From,vint r4.1.To] Z Z (xg 2 [vint v3] Z Z (zq hN Z (za (zn y2a Z) (zu (zp y10 Z Z) Z (za (Zd (us:=[_,_]) ⟨Z,Z,U⟩) (bE H fun r18 h19 H=>za (zl (x4j v1.Revoked (fun (a0:qf)=>z93 a0 r4.1 v3) 64 [wv [[vstr r4.1.Id,vstr r4.1.Subject,vstr r4.1.Issuer,vstr r4.1.Parent,vlst (List.map zo r4.1.Audience),vlst (List.map zo r4.1.Scopes),vint r4.1.From,vint r4.1.To]] 0 0,wv [[vint v3]] 0 0] (fun a0 r h=>w5f a0 r4.1 v3 r h) r18 h19) ⟨.inl Z,.inl Z,U⟩) (qe Z (zg _ Z (fun h20 => ?_) (fun h20 => ?_))))))))))
     ·refine tE h20 H fun H=>zb hN Z (za (wd (u':=vagg (yq (zm.mk [] [] [] [] [] [] 0 0))) (wh (by exact ⟨zr,zr,zr,zr,yu,yu,zr,zr,U⟩)) (qt [] wl je Z U)) ?_)
      refine zi (yp yn Z Z Z Z) Z (qe Z (zh ?_))
      cases H
      exact ⟨U,.inl ⟨_,_,_,yq (zm.mk [] [] [] [] [] [] 0 0),Z,Z,Z,Z,yn⟩,.inl Z,U⟩
     ·refine fE h20 H fun H=>zk (zb hN Z (za (kj yn Z Z Z) (zi (yp yn Z Z Z Z) Z (qe Z (zh ?_)))))
      cases H
      exact ⟨U,.inl ⟨_,_,_,yq r4.1,Z,Z,Z,Z,yn⟩,.inl Z,U⟩
theorem w5e (v1:wo) (v2:wj) (r:(yl×Int)) (H:z92 v1 v2=some r):Fn Tryz.prog 34 [vagg (xi v1),vagg (z3p v2)] (zw [vagg (qy r.1),vint r.2]):=by
 refine ⟨by kernel_rfl,yd (us:=[vagg (qy r.1),vint r.2]) Tryz.func34 Z Z Z Z fun X hN => ?_⟩
 unfold z92 at H
 refine zb hN Z (zi (jf 1 Z) Z (zi (jf 2 Z) Z (zi (we 3 jd Z) Z (qe Z (ze (wx mixed hN Z Z (za (zn Wb Z) (zu (zp Qx Z Z) Z (bE H fun r3 h4 H=>za (zl (x4t v2.Headers [97,117,116,104,111,114,105,122,97,116,105,111,110] r3 h4) ⟨.inl Z,.inl Z,U⟩) (za (zn Wb Z) (zu (zp Qx Z Z) Z (bE H fun r5 h6 H=>za (zl (x4t v2.Headers [120,45,97,112,105,45,107,101,121] r5 h6) ⟨.inl Z,.inl Z,U⟩) (qe Z (qe Z ⟨Z,?_⟩))))))))))))))
 refine ze (zx (zb hN Z (qd Z (za (yo qm Z) (za (qh Z Z) (qd Z (yi Z Z (fun hc=>zf (.dat _) Z) (yi Z Z (fun hc=>yo qm (cnd (c:=(!(decide (1 < (r3.length:Int))))) hc)) (yi Z Z (fun hc=>qh (cnd (c:=(!(decide (1 < (r3.length:Int))))) hc) Z) (za (wz Z Z (fun hb=>(cnd (c:=(!(decide (1 < (r3.length:Int))))) (notI hb)))) (qe Z (zg _ Z (fun h7 => ?_) (fun h7 => ?_)))))))))))))
 ·refine tE h7 H fun H=>zb hN Z (za (wd (u':=vagg (qy (yl.mk 0 [] []))) (wh (by exact ⟨zr,zr,yu,U⟩)) (qt [] jd jr Z U)) ?_)
  refine zi (yp qx Z Z Z Z) Z (qe Z (zh ?_))
  cases H
  exact ⟨U,.inl ⟨_,_,_,qy (yl.mk 0 [] []),Z,Z,Z,Z,qx⟩,.inl Z,U⟩
 ·refine fE h7 H fun H=>zb hN Z (qd Z (za (yo qm Z) (qd Z (za (yo qm Z) (za (yw _ Z Z (.inl ⟨Z,Z⟩)) (za (qh Z Z) (qe Z (zg _ Z (fun h8 => ?_) (fun h8 => ?_)))))))))
  ·refine tE h8 H fun H=>zb hN Z (za (wd (u':=vagg (qy (yl.mk 0 [] []))) (wh (by exact ⟨zr,zr,yu,U⟩)) (qt [] jd jr Z U)) ?_)
   refine zi (yp qx Z Z Z Z) Z (qe Z (zh ?_))
   cases H
   exact ⟨U,.inl ⟨_,_,_,qy (yl.mk 0 [] []),Z,Z,Z,Z,qx⟩,.inl Z,U⟩
  ·refine fE h8 H fun H=>zb hN Z (qd Z (za (yo qm Z) (za (ql Z Z) (qe Z (zg _ Z (fun h9 => ?_) (fun h9 => ?_))))))
   ·refine tE h9 H fun H=>zb hN Z (qd Z (bE H fun x10 h11 H=>za (qu qv (fun _=>Z) Z Z h11) (za (yj tyS9 Z (yy h11) Z) (bE H fun r12 h13 H=>za (zl (x37 x10 [66,101,97,114,101,114,32] r12 h13) ⟨.inl Z,.inl Z,U⟩) (qd Z (za (ym Z Z) (za (ym Z Z) (qe Z (qe Z (ze (zb hN Z (qd Z (za (yt Z) (qd Z (yi Z Z (fun hc=>zf (.dat _) Z) (yi Z Z (fun hc=>wy (cnd (c:=(!(!r12.2))) hc) Z) (za (wz Z Z (fun hb=>(cnd (c:=(!(!r12.2))) (notI hb)))) (zg _ Z (fun h14 => ?_) (fun h14 => ?_)))))))))))))))))))
    ·refine tE h14 H fun H=>zb hN Z (za (wd (u':=vagg (qy (yl.mk 0 [] []))) (wh (by exact ⟨zr,zr,yu,U⟩)) (qt [] jd jr Z U)) ?_)
     refine zi (yp qx Z Z Z Z) Z (qe Z (zh ?_))
     cases H
     exact ⟨U,.inl ⟨_,_,_,qy (yl.mk 0 [] []),Z,Z,Z,Z,qx⟩,.inl Z,U⟩
    ·refine fE h14 H fun H=>zk (zb hN Z (zu (vo ui Z Z Z) Z (qd Z (za (zn z0w Z) (zu (zp tyS3 Z Z) Z (bE H fun r15 h16 H=>za (zl (w5g v1 r12.1 v2.At r15 h16) ⟨.inl Z,.inl Z,.inl Z,U⟩) (qd Z (za (ym Z Z) (za (ym Z Z) (zi (we 4 wl Z) Z (zi (yp yn Z Z Z Z) Z (qe Z (ze (zb hN Z (qd Z (za (wa Z Z) (zg _ Z (fun h17 => ?_) (fun h17 => ?_))))))))))))))))))
     ·refine tE h17 H fun H=>zb hN Z (za (wd (u':=vagg (qy (yl.mk 0 [] []))) (wh (by exact ⟨zr,zr,yu,U⟩)) (qt [] jd jr Z U)) ?_)
      refine qd Z (zi (yp qx Z Z Z Z) Z (qe Z (zh ?_)))
      cases H
      exact ⟨U,.inl ⟨_,_,_,qy (yl.mk 0 [] []),Z,Z,Z,Z,qx⟩,.inl Z,U⟩
     ·refine fE h17 H fun H=>zk (zb hN Z (za (zn z0y Z) (zu (zp tyS9 Z Z) Z (za (zn xo Z) (zu (zp qq Z Z) Z (za (ye (u':=vagg (qy (yl.mk 1 r15.1.Subject r15.1.Scopes))) (qt [(0,[vint 1]),(1,[vstr r15.1.Subject]),(2,[vlst (List.map zo r15.1.Scopes)])] jd jr Z ⟨Z,.inl ⟨_,Z,Z,Z⟩,Z,Z,.inl ⟨_,Z,Z,Z⟩,Z,Z,.inl ⟨_,Z,Z,Z⟩,Z,U⟩) Z) (zi (yp qx Z Z Z Z) Z (qe Z (zh ?_)))))))))
      cases H
      exact ⟨U,.inl ⟨_,_,_,qy (yl.mk 1 r15.1.Subject r15.1.Scopes),Z,Z,Z,Z,qx⟩,.inl Z,U⟩
   ·refine fE h9 H fun H=>zb hN Z (qd Z (za (yo qm Z) (za (ql Z Z) (qe Z (zg _ Z (fun h18 => ?_) (fun h18 => ?_))))))
    ·refine tE h18 H fun H=>zb hN Z (za (wd (u':=vagg (qy (yl.mk 0 [] []))) (wh (by exact ⟨zr,zr,yu,U⟩)) (qt [] jd jr Z U)) ?_)
     refine zi (yp qx Z Z Z Z) Z (qe Z (zh ?_))
     cases H
     exact ⟨U,.inl ⟨_,_,_,qy (yl.mk 0 [] []),Z,Z,Z,Z,qx⟩,.inl Z,U⟩
    ·refine fE h18 H fun H=>zk (ze (wx mixed hN Z Z (za (zn z01 Z) (zu (zp tyS9 Z Z) Z (qd Z (bE H fun x19 h20 H=>za (qu qv (fun _=>Z) Z Z h20) (za (yj tyS9 Z (yy h20) Z) (bE H fun r21 h22 H=>za (zl (z2f v1.Issuer x19 r21 h22) ⟨.inl Z,.inl Z,U⟩) (qe Z ⟨Z,?_⟩)))))))))
     refine zb hN Z (za (wd (u':=vagg (qy (yl.mk 0 [] []))) (wh (by exact ⟨zr,zr,yu,U⟩)) (qt [] jd jr Z U)) ?_)
     refine zi (we 5 jd Z) Z (qe Z (zi (yp qx Z Z Z Z) Z (zb hN Z (qe Z (ze (zb hN Z (za (zn y19 Z) (zu (zp y1z Z Z) Z (za (yo z3w Z) (qd Z (zx (uh 15 6 9 1 Z Z Z (gE H fun h29 H=>wi (fun (k27:Nat) (s:Bool×Int×Bs×(List Bs))=>[(3,.ptr 2 0),(4,.ptr 3 0),(12,.dat (vstr r21)),(13,.dat (zj s.1)),(14,.ptr 5 0),(15,.row 6 s.2.2.2.length),(90,.dat (vlst (List.map vx v1.Holders))),(91,.dat (vint (v1.Holders.length:Int))),(92,.dat (vint (k27:Int)))]) (fun (k27:Nat) (s:Bool×Int×Bs×(List Bs))=>[(2,.box none 61 [.dat (vint v2.At),.dat (vstr v2.Method),.dat (vstr v2.Host),.dat (vstr v2.Path),.dat (vstr v2.Query),.dat (vstr v2.From),.dat (vlst (List.map vg v2.Headers)),.dat (vstr v2.Body)]),(3,.box none 64 [.dat (vint 0),.dat (vstr []),.dat (vnil)]),(5,.box none 64 [.dat (vint s.2.1),.dat (vstr s.2.2.1),.dat (vlst (List.map zo []))]),(6,.row 9 1 (List.map zo s.2.2.2))]) (false,0,[],[]) H ⟨Z,Z,Z,Z,Z,Z,Z,Z,Z,U⟩ ⟨Z,Z,Z,Z,U⟩ (fun _ _=>Z) ?_ ?_)))))))))))))
     ·rintro ⟨v23,c24,c25,l26⟩ H
      replace H:z0o v23 c24 c25 l26=some r:=H
      unfold z0o at H
      refine zb hN Z (za (zy Z Z) (ze (zg _ Z (fun h=>(lt_t h).elim) (fun h => ?_))))
      refine qg (ze (z7z 15 6 Z Z Z (zq hN Z (qd Z (bE H fun r31 h32 H=>za (zl (y8s l26 r31 h32) ⟨.inl Z,U⟩) (za (zn Yq Z) (zi (wn qq Z Z Z Z) Z (ze (zx (zb hN Z (qd Z (za (yt Z) (qe Z (zg _ Z (fun h33 => ?_) (fun h33 => ?_)))))))))))))))
      ·refine tE h33 H fun H=>zb hN Z (za (wd (u':=vagg (qy (yl.mk 0 [] []))) (wh (by exact ⟨zr,zr,yu,U⟩)) (qt [] jd jr Z U)) ?_)
       refine zi (yp qx Z Z Z Z) Z (qe Z (zh ?_))
       cases H
       exact ⟨U,.inl ⟨_,_,_,qy (yl.mk 0 [] []),Z,Z,Z,Z,qx⟩,.inl Z,U⟩
      ·refine fE h33 H fun H=>zb hN Z (za (zn Qz Z) (zu (zp tyS3 Z Z) Z (za (ql Z Z) (qe Z (zg _ Z (fun h34 => ?_) (fun h34 => ?_))))))
       ·refine tE h34 H fun H=>zb hN Z (za (wd (u':=vagg (qy (yl.mk 0 [] []))) (wh (by exact ⟨zr,zr,yu,U⟩)) (qt [] jd jr Z U)) ?_)
        refine zi (yp qx Z Z Z Z) Z (qe Z (zh ?_))
        cases H
        exact ⟨U,.inl ⟨_,_,_,qy (yl.mk 0 [] []),Z,Z,Z,Z,qx⟩,.inl Z,U⟩
       ·refine fE h34 H fun H=>zb hN Z (za (zn Yq Z) (zu (zp qq Z Z) Z (za (yo qm Z) (za (qh Z Z) (qe Z (zg _ Z (fun h35 => ?_) (fun h35 => ?_)))))))
        ·refine tE h35 H fun H=>zb hN Z (za (wd (u':=vagg (qy (yl.mk 0 [] []))) (wh (by exact ⟨zr,zr,yu,U⟩)) (qt [] jd jr Z U)) ?_)
         refine zi (yp qx Z Z Z Z) Z (qe Z (zh ?_))
         cases H
         exact ⟨U,.inl ⟨_,_,_,qy (yl.mk 0 [] []),Z,Z,Z,Z,qx⟩,.inl Z,U⟩
        ·refine fE h35 H fun H=>zk (zb hN Z (zu (vo qx Z Z Z) Z (zi (yp qx Z Z Z Z) Z (qe Z (zh ?_)))))
         cases H
         exact ⟨U,.inl ⟨_,_,_,qy (yl.mk c24 c25 r31),Z,Z,Z,Z,qx⟩,.inl Z,U⟩
     ·rintro k27 x30 ⟨v23,c24,c25,l26⟩ q28 h36 h37 H hq28
      replace H:Qp v2 r21 k27 x30 v23 c24 c25 l26=some q28:=H
      unfold Qp at H
      refine zb hN Z (za (zy Z Z) (ze (zg _ Z (fun h => ?_) (fun h=>(lt_f h36 h).elim))))
      refine zk (yf (ι:=(List Bs)×Int×Bs) (fun i=>[(3,.ptr 2 0),(4,.ptr 3 0),(12,.dat (vstr r21)),(13,.dat (zj (v23 || (decide (x30.Sum=r21))))),(14,.ptr 5 0),(15,.row 6 i.1.length),(90,.dat (vlst (List.map vx v1.Holders))),(91,.dat (vint (v1.Holders.length:Int))),(92,.dat (vint (k27:Int)))]) (fun i=>[(2,.box none 61 [.dat (vint v2.At),.dat (vstr v2.Method),.dat (vstr v2.Host),.dat (vstr v2.Path),.dat (vstr v2.Query),.dat (vstr v2.From),.dat (vlst (List.map vg v2.Headers)),.dat (vstr v2.Body)]),(3,.box none 64 [.dat (vint 0),.dat (vstr []),.dat (vnil)]),(5,.box none 64 [.dat (vint i.2.1),.dat (vstr i.2.2),.dat (vlst (List.map zo []))]),(6,.row 9 1 (List.map zo i.1))]) (fun i=>z6u r21 v23 x30 i.1 i.2.1 i.2.2=some q28) (fun i=>Z) ?_ ?_)
      ·skip
       refine zx (zb hN Z (za (qu Yr (fun _=>Z) Z Z h37) (za (kj Qw Z (yy h37) Z) (zi (we 7 z3t Z) Z (zi (yp Qw Z Z Z Z) Z (zb hN Z (qd Z (qd Z (yi Z Z (fun hc=>zn Zs Z) (jk Z Z (fun hc=>zp tyS9 (cnd (c:=(!v23)) hc) Z) Z vv (yi Z Z (fun hc=>zf (.dat _) Z) (yi Z Z (fun hc=>wy (cnd (c:=(!v23)) hc) (cnd (c:=(!v23)) hc)) (za (wz Z Z (fun hb=>(cnd (c:=(!v23)) (notI hb)))) (qe Z (ze (zb hN Z (za (zn Zs Z) (zu (zp tyS9 Z Z) Z (qd Z (za (jj Z Z) (qd Z (yi Z Z (fun hc=>zn y15 Z) (jk Z Z (fun hc=>zp tyS3 (cnd (c:=(!(decide (x30.Sum≠r21)))) hc) Z) Z vv ?_)))))))))))))))))))))))
       refine yi Z Z (fun hc=>zn z0w Z) (jk Z Z (fun hc=>zp tyS3 (cnd (c:=(!(decide (x30.Sum≠r21)))) hc) Z) Z vv (yi Z Z (fun hc=>qh (cnd (c:=(!(decide (x30.Sum≠r21)))) hc) (cnd (c:=(!(decide (x30.Sum≠r21)))) hc)) (za (wz Z Z (fun hb=>(cnd (c:=(!(decide (x30.Sum≠r21)))) (notI hb)))) (qd Z (yi Z Z (fun hc=>zn z0w Z) (jk Z Z (fun hc=>zp tyS3 (cnd (c:=(!((decide (x30.Sum≠r21)) || (decide (v2.At < x30.From))))) hc) Z) Z vv (yi Z Z (fun hc=>zn z3z Z) (jk Z Z (fun hc=>zp tyS3 (cnd (c:=(!((decide (x30.Sum≠r21)) || (decide (v2.At < x30.From))))) hc) Z) Z vv (yi Z Z (fun hc=>vy (cnd (c:=(!((decide (x30.Sum≠r21)) || (decide (v2.At < x30.From))))) hc) (cnd (c:=(!((decide (x30.Sum≠r21)) || (decide (v2.At < x30.From))))) hc)) (za (wz Z Z (fun hb=>(cnd (c:=(!((decide (x30.Sum≠r21)) || (decide (v2.At < x30.From))))) (notI hb)))) (qd Z (yi Z Z (fun hc=>zn Qz Z) (jk Z Z (fun hc=>zp tyS3 (cnd (c:=(!(((decide (x30.Sum≠r21)) || (decide (v2.At < x30.From))) || (decide (x30.To≤v2.At))))) hc) Z) Z vv (yi Z Z (fun hc=>wa (cnd (c:=(!(((decide (x30.Sum≠r21)) || (decide (v2.At < x30.From))) || (decide (x30.To≤v2.At))))) hc) Z) (yi Z Z (fun hc=>zf (.dat _) (cnd (c:=(!(((decide (x30.Sum≠r21)) || (decide (v2.At < x30.From))) || (decide (x30.To≤v2.At))))) hc)) (vk Z Z (fun hc=>zn z30 Z) (y3e Z Z (fun hc=>zp tyS9 (cnd (c:=((!(((decide (x30.Sum≠r21)) || (decide (v2.At < x30.From))) || (decide (x30.To≤v2.At)))) && (decide (c24≠0)))) hc) Z) Z vv (vk Z Z (fun hc=>zn xn Z) (y3e Z Z (fun hc=>zp tyS9 (cnd (c:=((!(((decide (x30.Sum≠r21)) || (decide (v2.At < x30.From))) || (decide (x30.To≤v2.At)))) && (decide (c24≠0)))) hc) Z) Z vv (vk Z Z (fun hc=>jj (cnd (c:=((!(((decide (x30.Sum≠r21)) || (decide (v2.At < x30.From))) || (decide (x30.To≤v2.At)))) && (decide (c24≠0)))) hc) (cnd (c:=((!(((decide (x30.Sum≠r21)) || (decide (v2.At < x30.From))) || (decide (x30.To≤v2.At)))) && (decide (c24≠0)))) hc)) (yi Z Z (fun hc=>vi (cnd (c:=(!(((decide (x30.Sum≠r21)) || (decide (v2.At < x30.From))) || (decide (x30.To≤v2.At))))) hc) (fun hb=>(cnd (c:=((!(((decide (x30.Sum≠r21)) || (decide (v2.At < x30.From))) || (decide (x30.To≤v2.At)))) && (decide (c24≠0)))) (andI hc hb))) Z) (za (wz Z Z (fun hb=>(cnd (c:=(!(((decide (x30.Sum≠r21)) || (decide (v2.At < x30.From))) || (decide (x30.To≤v2.At))))) (notI hb)))) (zg _ Z (fun h38 => ?_) (fun h38 => ?_))))))))))))))))))))))))
       ·exact tE h38 H fun H=>qg ⟨(l26,c24,c25),H,⟨Z,Z,Z,Z,Z,Z,Z,Z,Z,U⟩,⟨Z,Z,Z,Z,U⟩⟩
       ·refine fE h38 H fun H=>zk (ze (wx mixed hN Z Z (za (zn xn Z) (zu (zp tyS9 Z Z) Z (za (zn Qz Z) (zi (wn tyS3 Z Z Z Z) Z (za (zn z30 Z) (zi (wn tyS9 Z Z Z Z) Z ⟨Z,?_⟩))))))))
        exact zq hN Z (za (zf (.row _ _) Z) (za (zn y16 Z) (zu (zp qq Z Z) Z (gE H fun h39 H=>zi (y6s qn (fun _=>Z) Z Z Z h39 Z) Z (za (wm (.row _ _) Z) ⟨((l26++x30.Scopes),2,x30.App),H,⟨Z,Z,Z,Z,Z,Z,Z,Z,Z,U⟩,⟨Z,Z,Z,Z,U⟩⟩)))))
      ·rintro ⟨v40,c41,c42⟩ H
       replace H:z6u r21 v23 x30 v40 c41 c42=some q28:=H
       unfold z6u at H
       exact zq hN Z (za (qw Z Z (by omega)) (qd Z ⟨_,qk H,⟨Z,Z,Z,Z,Z,Z,Z,Z,Z,U⟩,⟨Z,Z,Z,Z,U⟩⟩))
theorem w4z (a1:yl) (b2:yl) (r:(Bool)) (H:z5j a1 b2=some r):Fn Tryz.prog 35 [vagg (qy a1),vagg (qy b2)] (zw [zj r]):=by
 refine ⟨by kernel_rfl,yd (us:=[zj r]) Tryz.func35 Z Z Z Z fun X hN => ?_⟩
 unfold z5j at H
 refine zb hN Z (zi (jf 1 Z) Z (zi (jf 2 Z) Z (qe Z (yf (ι:=Bool) (fun i=>[(4,.dat (zj i))]) (fun i=>[]) (fun i=>z2q i=some r) (fun i=>Z) ?_ ?_))))
 ·skip
  refine zq hN Z (za (zn Qz Z) (zu (zp tyS3 Z Z) Z (za (zn Qz Z) (zu (zp tyS3 Z Z) Z (za (ql Z Z) (qd Z (yh (j:=5) Z Z (fun h3 => ?_) (fun h3 => ?_) Z)))))))
  ·refine u1 h3 H fun h4 H=>zd Z Z h3 (zn z30 Z) (vj Z Z h3 (zp tyS9 Z Z) Z (zd Z Z h3 (zn z30 Z) (vj Z Z h3 (zp tyS9 Z Z) Z (zd Z Z h3 (wy Z Z) (za (zz Z (bTT h4) Z) (qd Z (yh (j:=12) Z Z (fun h5 => ?_) (fun h5 => ?_) Z)))))))
   ·exact u1 h5 H fun h6 H=>zd Z Z h5 (zn Yq Z) (vj Z Z h5 (zp qq Z Z) Z (zd Z Z h5 (zn Yq Z) (vj Z Z h5 (zp qq Z Z) Z (bE H fun r7 h8 H=>zd Z Z h5 (zl (y8m a1.Scopes b2.Scopes r7 h8) ⟨.inl Z,.inl Z,U⟩) (za (zz Z (bTT h6) Z) (qe Z ⟨r7,H,⟨Z,U⟩,U⟩))))))
   ·exact u2 h5 H fun h9 H=>zc Z Z h5 (zc Z Z h5 (zc Z Z h5 (zc Z Z h5 (zc Z Z h5 (za (yb Z (bFF h9) Z) (qe Z ⟨false,H,⟨Z,U⟩,U⟩))))))
  ·exact u2 h3 H fun h10 H=>zc Z Z h3 (zc Z Z h3 (zc Z Z h3 (zc Z Z h3 (zc Z Z h3 (za (yb Z (bFF h10) Z) (qd Z (zc Z Z Z (zc Z Z Z (zc Z Z Z (zc Z Z Z (zc Z Z Z (za (yb Z Z Z) (qe Z ⟨false,H,⟨Z,U⟩,U⟩)))))))))))))
 ·rintro v11 H
  replace H:z2q v11=some r:=H
  unfold z2q at H
  refine zh ?_
  cases H
  exact ⟨U,.inl Z,U⟩
theorem w5r  (r:(Bool)) (H:y0g  = some r):Fn Tryz.prog 18 [] (zw [zj r]):=by
 refine ⟨by kernel_rfl,yd (us:=[zj r]) Tryz.func18 Z Z Z Z fun X hN => ?_⟩
 unfold y0g at H
 refine zb hN Z (qe Z (zb hN Z (bE H fun r1 h2 H=>za (zl (x3x [97,98] r1 h2) ⟨.inl Z,U⟩) (za (wy Z Z) (qe Z (zh ?_))))))
 cases H
 exact ⟨U,.inl Z,U⟩
theorem w5t (l1:(List Int)) (r:(Bool)) (H:y4f l1=some r):Fn Tryz.prog 5 [vlst (List.map qz l1)] (zw [zj r]):=by
 refine ⟨by kernel_rfl,yd (us:=[zj r]) Tryz.func5 Z Z Z Z fun X hN => ?_⟩
 unfold y4f at H
 refine zb hN Z (qe Z (zb hN Z (qd Z (za (ye (u':=vagg (qr (zt.mk l1 0))) (qt [(0,[vlst (List.map qz l1)])] x7t x7x Z ⟨Z,.inl ⟨_,Z,Z,Z⟩,Z,U⟩) Z) (zi (jf 1 Z) Z (za (wm (.ptr _ _) Z) (zb hN Z (za (zf (.ptr _ _) Z) (bE H fun r2 h3 H=>zi (yk (w5o (zt.mk l1 0) r2 h3) Z U Z) Z (zi (we 2 y1w Z) Z (zi (yp ui Z Z Z Z) Z (zb hN Z (za (zf (.ptr _ _) Z) (zu (vo ui Z Z Z) Z (bE H fun r4 h5 H=>zi (yk (w5n r2.2 r2.1 r4 h5) Z ⟨.inl Z,U⟩ Z) Z (zi (we 3 y1u Z) Z (zi (yp Yo Z Z Z Z) Z (zb hN Z (zu (vo ui Z Z Z) Z (zu (vo Yo Z Z Z) Z (bE H fun r6 h7 H=>?_)))))))))))))))))))))
 refine za (zl (w3u r2.1 r4.1 r6 h7) ⟨.inl Z,.inl Z,U⟩) (qd Z (za (ym Z Z) (za (ym Z Z) (zi (we 4 jd Z) Z (zi (yp qx Z Z Z Z) Z (qe Z (ze (wx mixed hN Z Z (zu (vo ui Z Z Z) Z (bE H fun r8 h9 H=>za (zl (w45 r2.1 r8 h9) ⟨.inl Z,U⟩) (zu (vo Yo Z Z Z) Z (bE H fun r10 h11 H=>za (zl (w41 r4.1 r10 h11) ⟨.inl Z,U⟩) (za (ye (u':=vlst (List.map y1n [r8,r10])) (qa [[_],[_]] x0k ⟨Z,.inl ⟨_,Z,Z,Z⟩,Z,Z,.inl ⟨_,Z,Z,Z⟩,Z,U⟩ Z Z) Z) (bE H fun r12 h13 H=>za (zl (w5s [r8,r10] r12 h13) ⟨.inl Z,U⟩) (qe Z ⟨Z,?_⟩)))))))))))))))
 refine zb hN Z (zi (we 5 jd Z) Z (y9s 5 2 (.dat (vlst [])) Z Z (fun g w M v h=>yu w M v h) (yf (ι:=Int×Int×Bs×(List Bs)) (fun i=>[(6,.ptr 4 0),(7,.dat (vint r6.2)),(8,.dat (vint i.1)),(9,.ptr 5 0)]) (fun i=>[(4,.box none 64 [.dat (vint r6.1.By),.dat (vstr r6.1.Name),.dat (vlst (List.map zo r6.1.Scopes))]),(5,.box none 64 [.dat (vint i.2.1),.dat (vstr i.2.2.1),.dat (vlst (List.map zo i.2.2.2))])]) (fun i=>z3j r6 i.1 i.2.1 i.2.2.1 i.2.2.2=some r) (fun i=>Z) ?_ ?_)))
 ·skip
  refine zb hN Z (qd Z (za (ql Z Z) (zg _ Z (fun h14 => ?_) (fun h14 => ?_))))
  ·exact tE h14 H fun H=>zq hN Z (zu (vo ui Z Z Z) Z (zu (vo Yo Z Z Z) Z (bE H fun r15 h16 H=>za (zl (w5e r2.1 r4.1 r15 h16) ⟨.inl Z,.inl Z,U⟩) (qd Z (za (ym Z Z) (za (ym Z Z) (zi (yp qx Z Z Z Z) Z (qe Z ⟨(r15.2,r15.1.By,r15.1.Name,r15.1.Scopes),H,⟨Z,Z,Z,Z,U⟩,⟨Z,Z,U⟩⟩))))))))
  ·exact fE h14 H fun H=>zk ⟨(r12,0,[],([]:(List Bs))),H,⟨Z,Z,Z,Z,U⟩,⟨Z,Z,U⟩⟩
 ·rintro ⟨fault17,c18,c19,c20⟩ H
  replace H:z3j r6 fault17 c18 c19 c20=some r:=H
  unfold z3j at H
  refine yf (ι:=Bool) (fun i=>[(2,.dat (zj i))]) (fun i=>[]) (fun i=>z3i i=some r) (fun i=>Z) ?_ ?_
  ·skip
   refine zq hN Z (qd Z (qd Z (za (ql Z Z) (qd Z (yh (j:=3) Z Z (fun h21 => ?_) (fun h21 => ?_) Z)))))
   ·refine u1 h21 H fun h22 H=>vj Z Z h21 (vo qx Z Z Z) Z (vj Z Z h21 (vo qx Z Z Z) Z (bE H fun r23 h24 H=>zd Z Z h21 (zl (w4z r6.1 (yl.mk c18 c19 c20) r23 h24) ⟨.inl Z,.inl Z,U⟩) (za (zz Z (bTT h22) Z) (qd Z (yh (j:=8) Z Z (fun h25 => ?_) (fun h25 => ?_) Z)))))
    ·exact u1 h25 H fun h26 H=>bE H fun r27 h28 H=>zd Z Z h25 (zl (w5r  r27 h28) U) (za (zz Z (bTT h26) Z) (qe Z ⟨r27,H,⟨Z,U⟩,U⟩))
    ·exact u2 h25 H fun h29 H=>zc Z Z h25 (za (yb Z (bFF h29) Z) (qe Z ⟨false,H,⟨Z,U⟩,U⟩))
   ·exact u2 h21 H fun h30 H=>zc Z Z h21 (zc Z Z h21 (zc Z Z h21 (za (yb Z (bFF h30) Z) (qd Z (zc Z Z Z (za (yb Z Z Z) (qe Z ⟨false,H,⟨Z,U⟩,U⟩)))))))
  ·rintro v31 H
   replace H:z3i v31=some r:=H
   unfold z3i at H
   refine zh ?_
   cases H
   exact ⟨U,.inl Z,U⟩
end Go.Proofs.YtndabcepiekebaaGreatDoor
