/- Walks along the models. Printed by a program. -/
import Derived.Test.YtndabcepiekebaaGreatDoorZkw6
namespace Go.Proofs.YtndabcepiekebaaGreatDoor
open Go.RowKit
set_option linter.unusedVariables false
set_option maxRecDepth 100000
set_option maxHeartbeats 2000000
theorem w3o (v1:(List ya)) (v2:Bs) (v3:Int) (r:(zm×Int)) (H:z82 v1 v2 v3=some r):Fn Tryz.prog 125 [vlst (List.map wg v1),vstr v2,vint v3] (zw [vagg (yq r.1),vint r.2]):=by
 refine ⟨by kernel_rfl,yd (us:=[vagg (yq r.1),vint r.2]) Tryz.func125 Z Z Z Z fun X hN => ?_⟩
 unfold z82 at H
 refine zb hN Z (zi (we 1 wl Z) Z (qe Z (ze (zb hN Z (qd Z (bE H fun r4 h5 H=>za (zl (x3y v1 r4 h5) ⟨.inl Z,U⟩) (qe Z (zb hN Z (qd Z (za (wa Z Z) (zg _ Z (fun h6 => ?_) (fun h6 => ?_))))))))))))
 ·refine tE h6 H fun H=>zb hN Z (za (wd (u':=vagg (yq (zm.mk [] [] [] [] [] [] 0 0))) (wh (by exact ⟨zr,zr,zr,zr,yu,yu,zr,zr,U⟩)) (qt [] wl je Z U)) ?_)
  refine qd Z (zi (yp yn Z Z Z Z) Z (qe Z (zh ?_)))
  cases H
  exact ⟨U,.inl ⟨_,_,_,yq (zm.mk [] [] [] [] [] [] 0 0),Z,Z,Z,Z,yn⟩,.inl Z,U⟩
 ·refine fE h6 H fun H=>zk (ze (zb hN Z (qd Z (bE H fun r7 h8 H=>za (zl (w3a v3 r7 h8) ⟨.inl Z,U⟩) (qe Z (zb hN Z (qd Z (za (wa Z Z) (zg _ Z (fun h9 => ?_) (fun h9 => ?_))))))))))
  ·refine tE h9 H fun H=>zb hN Z (za (wd (u':=vagg (yq (zm.mk [] [] [] [] [] [] 0 0))) (wh (by exact ⟨zr,zr,zr,zr,yu,yu,zr,zr,U⟩)) (qt [] wl je Z U)) ?_)
   refine qd Z (zi (yp yn Z Z Z Z) Z (qe Z (zh ?_)))
   cases H
   exact ⟨U,.inl ⟨_,_,_,yq (zm.mk [] [] [] [] [] [] 0 0),Z,Z,Z,Z,yn⟩,.inl Z,U⟩
  ·refine fE h9 H fun H=>zk (zb hN Z (qd Z (bE H fun r10 h11 H=>za (zl (Qi v2 [46] r10 h11) ⟨.inl Z,.inl Z,U⟩) (zi (we 2 x0d Z) Z (zi (wn qq Z Z Z Z) Z (ze (yf (ι:=Bool) (fun i=>[(0,.dat (vlst (List.map wg v1))),(2,.dat (vint v3)),(6,.ptr 1 0),(10,.ptr 2 0),(39,.dat (zj i))]) (fun i=>[(1,.box none 39 [.dat (vstr []),.dat (vstr []),.dat (vstr []),.dat (vstr []),.dat (vnil),.dat (vnil),.dat (vint 0),.dat (vint 0)]),(2,.box none 37 [.dat (vlst (List.map zo r10))])]) (fun i=>Wj v1 v3 r10 i=some r) (fun i=>Z) ?_ ?_)))))))
   ·skip
    refine zq hN Z (zu (zp qq Z Z) Z (za (yo qm Z) (za (wa Z Z) (qd Z (yh (j:=3) Z Z (fun h12 => ?_) (fun h12 => ?_) Z)))))
    ·exact u3 h12 H fun h13 H=>vj Z Z h12 (zp qq Z Z) Z (bE H fun x14 h15 H=>zd Z Z h12 (qu qv (fun _=>Z) Z Z h15) (zd Z Z h12 (yj tyS9 Z (yy h15) Z) (bE H fun r16 h17 H=>zd Z Z h12 (zl (xu x14 r16 h17) ⟨.inl Z,U⟩) (zd Z Z h12 (yt Z) (za (yb Z (bFF h13) Z) ⟨!r16,H,⟨Z,Z,Z,Z,Z,U⟩,⟨Z,Z,U⟩⟩)))))
    ·exact u4 h12 H fun h18 H=>zc Z Z h12 (zc Z Z h12 (zc Z Z h12 (zc Z Z h12 (zc Z Z h12 (za (zz Z (bTT h18) Z) ⟨true,H,⟨Z,Z,Z,Z,Z,U⟩,⟨Z,Z,U⟩⟩)))))
   ·rintro v19 H
    replace H:Wj v1 v3 r10 v19=some r:=H
    unfold Wj at H
    refine zg _ Z (fun h20 => ?_) (fun h20 => ?_)
    ·refine tE h20 H fun H=>zb hN Z (za (wd (u':=vagg (yq (zm.mk [] [] [] [] [] [] 0 0))) (wh (by exact ⟨zr,zr,zr,zr,yu,yu,zr,zr,U⟩)) (qt [] wl je Z U)) ?_)
     refine zi (yp yn Z Z Z Z) Z (qe Z (zh ?_))
     cases H
     exact ⟨U,.inl ⟨_,_,_,yq (zm.mk [] [] [] [] [] [] 0 0),Z,Z,Z,Z,yn⟩,.inl Z,U⟩
    ·refine fE h20 H fun H=>zk (ze (xg 2 [vlst (List.map zo r10)] Z Z (zq hN Z (qd Z (za (Zd (us:=[_]) ⟨Z,U⟩) (bE H fun r21 h22 H=>za (zl (y8l v1 (fun (a0:ya)=>z4v a0 r10) 181 [wv [[vlst (List.map zo r10)]] 0 0] (fun a0 r h=>w3n a0 r10 r h) r21 h22) ⟨.inl Z,.inl Z,U⟩) (qe Z (ze (zb hN Z (qd Z (za (zy Z Z) (zg _ Z (fun h23 => ?_) (fun h23 => ?_)))))))))))))
     ·refine tE h23 H fun H=>zb hN Z (za (wd (u':=vagg (yq (zm.mk [] [] [] [] [] [] 0 0))) (wh (by exact ⟨zr,zr,zr,zr,yu,yu,zr,zr,U⟩)) (qt [] wl je Z U)) ?_)
      refine zi (yp yn Z Z Z Z) Z (qe Z (zh ?_))
      cases H
      exact ⟨U,.inl ⟨_,_,_,yq (zm.mk [] [] [] [] [] [] 0 0),Z,Z,Z,Z,yn⟩,.inl Z,U⟩
     ·refine fE h23 H fun H=>zk (ze (ze (wx mixed hN Z Z (qd Z (qd Z (bE H fun x24 h25 H=>za (jm uc (fun _=>Z) Z Z h25) (za (vr z33 Z) (za (yj tyS9 Z (yy (vu h25).2) Z) (za (yj qq Z Z Z) (bE H fun x26 h27 H=>za (qu qv (fun _=>Z) Z Z h27) (za (yj tyS9 Z (yy h27) Z) (gE H fun h28 H=>za (wt Z Z (Nat.le_trans h28 (by decide))) (za (yj qq Z Z Z) (bE H fun x29 h30 H=>za (qu qv (fun _=>Z) Z Z h30) (za (yj tyS9 Z (yy h30) Z) (gE H fun h31 H=>za (wt Z Z (Nat.le_trans h31 (by decide))) (bE H fun r32 h33 H=>?_)))))))))))))))))
      refine za (zl (x3v x24.Secret ((x26++[46])++x29) r32 h33) ⟨.inl Z,.inl Z,U⟩) (za (yj qq Z Z Z) (bE H fun x34 h35 H=>za (qu qv (fun _=>Z) Z Z h35) (za (yj tyS9 Z (yy h35) Z) (za (jj Z Z) ⟨Z,?_⟩))))
      refine zg _ Z (fun h36 => ?_) (fun h36 => ?_)
      ·refine tE h36 H fun H=>zb hN Z (za (wd (u':=vagg (yq (zm.mk [] [] [] [] [] [] 0 0))) (wh (by exact ⟨zr,zr,zr,zr,yu,yu,zr,zr,U⟩)) (qt [] wl je Z U)) ?_)
       refine zi (yp yn Z Z Z Z) Z (qe Z (zh ?_))
       cases H
       exact ⟨U,.inl ⟨_,_,_,yq (zm.mk [] [] [] [] [] [] 0 0),Z,Z,Z,Z,yn⟩,.inl Z,U⟩
      ·refine fE h36 H fun H=>zk (zb hN Z (za (yj qq Z Z Z) (za (qu qv (fun _=>Z) Z Z h30) (za (yj tyS9 Z (yy h30) Z) (bE H fun r37 h38 H=>za (zl (w3p x29 r37 h38) ⟨.inl Z,U⟩) (qd Z (za (ym Z Z) (za (ym Z Z) (qe Z (qe Z (ze (zb hN Z (qd Z (za (wa Z Z) (zg _ Z (fun h39 => ?_) (fun h39 => ?_))))))))))))))))
       ·refine tE h39 H fun H=>zb hN Z (za (wd (u':=vagg (yq (zm.mk [] [] [] [] [] [] 0 0))) (wh (by exact ⟨zr,zr,zr,zr,yu,yu,zr,zr,U⟩)) (qt [] wl je Z U)) ?_)
        refine qd Z (zi (yp yn Z Z Z Z) Z (qe Z (zh ?_)))
        cases H
        exact ⟨U,.inl ⟨_,_,_,yq (zm.mk [] [] [] [] [] [] 0 0),Z,Z,Z,Z,yn⟩,.inl Z,U⟩
       ·refine fE h39 H fun H=>zk (zb hN Z (qd Z (bE H fun r40 h41 H=>za (zl (w3m r37.1 r40 h41) ⟨.inl Z,U⟩) (qd Z (za (ym Z Z) (za (ym Z Z) (za (ym Z Z) (zi (we 3 wl Z) Z (zi (yp yn Z Z Z Z) Z (qe Z (qe Z (ze (zb hN Z (qd Z (za (wa Z Z) (zg _ Z (fun h42 => ?_) (fun h42 => ?_)))))))))))))))))
        ·refine tE h42 H fun H=>zb hN Z (za (wd (u':=vagg (yq (zm.mk [] [] [] [] [] [] 0 0))) (wh (by exact ⟨zr,zr,zr,zr,yu,yu,zr,zr,U⟩)) (qt [] wl je Z U)) ?_)
         refine qd Z (zi (yp yn Z Z Z Z) Z (qe Z (zh ?_)))
         cases H
         exact ⟨U,.inl ⟨_,_,_,yq (zm.mk [] [] [] [] [] [] 0 0),Z,Z,Z,Z,yn⟩,.inl Z,U⟩
        ·refine fE h42 H fun H=>zk (ze (yf (ι:=Bool) (fun i=>[(6,.ptr 1 0),(14,.ptr 3 0),(102,.dat (zj i))]) (fun i=>[(1,.box none 39 [.dat (vstr []),.dat (vstr []),.dat (vstr []),.dat (vstr []),.dat (vnil),.dat (vnil),.dat (vint 0),.dat (vint 0)]),(3,.box none 39 [.dat (vstr r40.1.Id),.dat (vstr r40.1.Subject),.dat (vstr r40.1.Issuer),.dat (vstr r40.1.Parent),.dat (vlst (List.map zo r40.1.Audience)),.dat (vlst (List.map zo r40.1.Scopes)),.dat (vint r40.1.From),.dat (vint r40.1.To)])]) (fun i=>z4b r40 i=some r) (fun i=>Z) ?_ ?_))
         ·skip
          refine zq hN Z (qd Z (qd Z (qd Z (za (jm uc (fun _=>Z) Z Z h25) (za (vr Zw Z) (za (yj tyS3 Z (yy (vu h25).2) Z) (za (zy Z Z) (qd Z (yh (j:=7) Z Z (fun h43 => ?_) (fun h43 => ?_) Z)))))))))
          ·exact u3 h43 H fun h44 H=>zd Z Z h43 (zf (.dat _) Z) (zd Z Z h43 (zf (.dat _) Z) (zd Z Z h43 (zf (.dat _) Z) (zd Z Z h43 (jm uc (fun _=>Z) Z Z h25) (zd Z Z h43 (vr Wd Z) (zd Z Z h43 (yj tyS3 Z (yy (vu h25).2) Z) (zd Z Z h43 (vy Z Z) (za (yb Z (bFF h44) Z) ⟨decide (x24.Until≤v3),H,⟨Z,Z,Z,U⟩,⟨Z,Z,U⟩⟩)))))))
          ·exact u4 h43 H fun h45 H=>zc Z Z h43 (zc Z Z h43 (zc Z Z h43 (zc Z Z h43 (zc Z Z h43 (zc Z Z h43 (zc Z Z h43 (za (zz Z (bTT h45) Z) ⟨true,H,⟨Z,Z,Z,U⟩,⟨Z,Z,U⟩⟩)))))))
         ·rintro v46 H
          replace H:z4b r40 v46=some r:=H
          unfold z4b at H
          refine zg _ Z (fun h47 => ?_) (fun h47 => ?_)
          ·refine tE h47 H fun H=>zb hN Z (za (wd (u':=vagg (yq (zm.mk [] [] [] [] [] [] 0 0))) (wh (by exact ⟨zr,zr,zr,zr,yu,yu,zr,zr,U⟩)) (qt [] wl je Z U)) ?_)
           refine zi (yp yn Z Z Z Z) Z (qe Z (zh ?_))
           cases H
           exact ⟨U,.inl ⟨_,_,_,yq (zm.mk [] [] [] [] [] [] 0 0),Z,Z,Z,Z,yn⟩,.inl Z,U⟩
          ·refine fE h47 H fun H=>zk (zb hN Z (zu (vo yn Z Z Z) Z (zi (yp yn Z Z Z Z) Z (qe Z (zh ?_)))))
           cases H
           exact ⟨U,.inl ⟨_,_,_,yq r40.1,Z,Z,Z,Z,yn⟩,.inl Z,U⟩
theorem w30 (s1:(List qf)) (p1:qf→Option (Bool)) (fv1:Nat) (us1:List V) (hp1:∀ a0 r,p1 a0=some r→Fn Tryz.prog fv1 ([vagg (jb a0)]++us1) (zw [zj r])) (r:(Int)) (H:y71 s1 p1=some r):Fn Tryz.prog 79 [vlst (List.map jb s1),vfn fv1 us1] (zw [vint r]):=by
 refine ⟨by kernel_rfl,yd (us:=[vint r]) Tryz.func79 Z Z Z Z fun X hN => ?_⟩
 unfold y71 at H
 refine zb hN Z (qe Z (ze (zb hN Z (qd Z (za (yo z7l Z) (qd Z (zx (gE H fun h4 H=>wi (fun (k2:Nat) (s:Unit)=>[(0,.dat (vlst (List.map jb s1))),(1,.dat (vfn fv1 us1)),(7,.dat (vint (s1.length:Int))),(8,.dat (vint (k2:Int)))]) (fun (k2:Nat) (s:Unit)=>[]) () H ⟨Z,Z,Z,Z,U⟩ U (fun _ _=>Z) ?_ ?_))))))))
 ·rintro ⟨⟩ H
  replace H:y7d=some r:=H
  unfold y7d at H
  refine zb hN Z (za (zy Z Z) (ze (zg _ Z (fun h=>(lt_t h).elim) (fun h => ?_))))
  refine qg (zb hN Z (qe Z (zh ?_)))
  cases H
  exact ⟨U,.inl Z,U⟩
 ·rintro k2 x5 ⟨⟩ q3 h6 h7 H hq3
  replace H:y7c p1 k2 x5=some q3:=H
  unfold y7c at H
  refine zb hN Z (za (zy Z Z) (ze (zg _ Z (fun h => ?_) (fun h=>(lt_f h6 h).elim))))
  refine zk (ze (zx (zb hN Z (qd Z (qe Z (zb hN Z (qd Z (qd Z (qd Z (za (qu y2f (fun _=>Z) Z Z h7) (za (kj z7n Z (yy h7) Z) (bE H fun r8 h9 H=>za (y20 (hp1 x5 r8 h9) Z ⟨.inl Z,U⟩) (zg _ Z (fun h10 => ?_) (fun h10 => ?_))))))))))))))
  ·refine tE h10 H fun H=>zb hN Z (qd Z (qe Z (zh ?_)))
   replace H:=retl H hq3
   cases H
   exact ⟨U,.inl Z,U⟩
  ·exact fE h10 H fun H=>zk (zq hN Z (za (qw Z Z (by omega)) (qd Z ⟨_,qk H,⟨Z,Z,Z,Z,U⟩,U⟩)))
theorem x4j (s1:(List qf)) (p1:qf→Option (Bool)) (fv1:Nat) (us1:List V) (hp1:∀ a0 r,p1 a0=some r→Fn Tryz.prog fv1 ([vagg (jb a0)]++us1) (zw [zj r])) (r:(Bool)) (H:z45 s1 p1=some r):Fn Tryz.prog 63 [vlst (List.map jb s1),vfn fv1 us1] (zw [zj r]):=by
 refine ⟨by kernel_rfl,yd (us:=[zj r]) Tryz.func63 Z Z Z Z fun X hN => ?_⟩
 unfold z45 at H
 refine zb hN Z (qe Z (zb hN Z (qd Z (qd Z (bE H fun r2 h3 H=>za (zl (w30 s1 p1 fv1 us1 hp1 r2 h3) ⟨.inl Z,.inl Z,U⟩) (za (vy Z Z) (qe Z (zh ?_))))))))
 cases H
 exact ⟨U,.inl Z,U⟩
theorem w3k (r1:qf) (c2:zm) (c3:Int) (r:(Bool)) (H:z8y r1 c2 c3=some r):Fn Tryz.prog 126 [vagg (jb r1),wv [[vstr c2.Id,vstr c2.Subject,vstr c2.Issuer,vstr c2.Parent,vlst (List.map zo c2.Audience),vlst (List.map zo c2.Scopes),vint c2.From,vint c2.To]] 0 0,wv [[vint c3]] 0 0] (zw [zj r]):=by
 refine ⟨by kernel_rfl,yd (us:=[zj r]) Tryz.func126 Z Z Z Z fun X hN => ?_⟩
 unfold z8y at H
 refine zb hN Z (zi (jf 1 Z) Z (qe Z (zb hN Z (za (zn Zt Z) (zu (zp tyS9 Z Z) Z (za (vr z0z Z) (za (yj tyS9 Z Z Z) (za (wy Z Z) (qd Z (yi Z Z (fun hc=>zn Zt Z) (jk Z Z (fun hc=>zp tyS9 (cnd (c:=(!(decide (r1.Id=c2.Id)))) hc) Z) Z vv (yi Z Z (fun hc=>vr Zv Z) (yi Z Z (fun hc=>yj tyS9 (cnd (c:=(!(decide (r1.Id=c2.Id)))) hc) Z Z) (yi Z Z (fun hc=>wy (cnd (c:=(!(decide (r1.Id=c2.Id)))) hc) (cnd (c:=(!(decide (r1.Id=c2.Id)))) hc)) (za (wz Z Z (fun hb=>(cnd (c:=(!(decide (r1.Id=c2.Id)))) (notI hb)))) (qd Z (qj Z Z (fun hc=>zn y18 Z) (z4i Z Z (fun hc=>zp tyS3 (cnd (c:=((decide (r1.Id=c2.Id)) || (decide (r1.Id=c2.Parent)))) hc) Z) Z vv (qj Z Z (fun hc=>yj tyS3 Z Z Z) (qj Z Z (fun hc=>vq (cnd (c:=((decide (r1.Id=c2.Id)) || (decide (r1.Id=c2.Parent)))) hc) (cnd (c:=((decide (r1.Id=c2.Id)) || (decide (r1.Id=c2.Parent)))) hc)) (za (vi Z (fun hb=>(cnd (c:=((decide (r1.Id=c2.Id)) || (decide (r1.Id=c2.Parent)))) hb)) Z) (qe Z (zh ?_)))))))))))))))))))))))
 cases H
 exact ⟨U,.inl Z,U⟩
theorem w3l (v1:wo) (v2:Bs) (v3:Int) (r:(zm×Int)) (H:z8z v1 v2 v3=some r):Fn Tryz.prog 60 [vagg (xi v1),vstr v2,vint v3] (zw [vagg (yq r.1),vint r.2]):=by
 refine ⟨by kernel_rfl,yd (us:=[vagg (yq r.1),vint r.2]) Tryz.func60 Z Z Z Z fun X hN => ?_⟩
 unfold z8z at H
 refine zb hN Z (zi (jf 1 Z) Z (zi (z4g 2 Z Z) Z (zi (we 3 wl Z) Z (qe Z (zb hN Z (za (zn z32 Z) (zu (zp Qy Z Z) Z (qd Z (zu (zp tyS3 Z Z) Z (bE H fun r4 h5 H=>za (zl (w3o v1.Signers v2 v3 r4 h5) ⟨.inl Z,.inl Z,.inl Z,U⟩) (qd Z (za (ym Z Z) (za (ym Z Z) (zi (we 4 wl Z) Z (zi (yp yn Z Z Z Z) Z (qe Z (ze (zx (zb hN Z (qd Z (za (wa Z Z) (qe Z ?_))))))))))))))))))))))
 refine zg _ Z (fun h6 => ?_) (fun h6 => ?_)
 ·refine tE h6 H fun H=>zb hN Z (za (wd (u':=vagg (yq (zm.mk [] [] [] [] [] [] 0 0))) (wh (by exact ⟨zr,zr,zr,zr,yu,yu,zr,zr,U⟩)) (qt [] wl je Z U)) ?_)
  refine qd Z (zi (yp yn Z Z Z Z) Z (qe Z (zh ?_)))
  cases H
  exact ⟨U,.inl ⟨_,_,_,yq (zm.mk [] [] [] [] [] [] 0 0),Z,Z,Z,Z,yn⟩,.inl Z,U⟩
 ·refine fE h6 H fun H=>yf (ι:=Bool) (fun i=>[(3,.ptr 1 0),(5,.ptr 2 0),(6,.ptr 3 0),(8,.ptr 4 0),(23,.dat (zj i))]) (fun i=>[(1,.box none 30 [.dat (vstr v1.Issuer),.dat (vstr v1.Audience),.dat (vlst (List.map wg v1.Signers)),.dat (vlst (List.map jb v1.Revoked)),.dat (vlst (List.map vx v1.Holders)),.dat (vint v1.Skew)]),(2,.box none 3 [.dat (vint v3)]),(3,.box none 39 [.dat (vstr []),.dat (vstr []),.dat (vstr []),.dat (vstr []),.dat (vnil),.dat (vnil),.dat (vint 0),.dat (vint 0)]),(4,.box none 39 [.dat (vstr r4.1.Id),.dat (vstr r4.1.Subject),.dat (vstr r4.1.Issuer),.dat (vstr r4.1.Parent),.dat (vlst (List.map zo r4.1.Audience)),.dat (vlst (List.map zo r4.1.Scopes)),.dat (vint r4.1.From),.dat (vint r4.1.To)])]) (fun i=>Wi v1 v3 r4 i=some r) (fun i=>Z) ?_ ?_
  ·skip
   refine zq hN Z (za (zn z0x Z) (zu (zp tyS9 Z Z) Z (za (zn z01 Z) (zu (zp tyS9 Z Z) Z (za (jj Z Z) (qd Z (yh (j:=5) Z Z (fun h7 => ?_) (fun h7 => ?_) Z)))))))
   ·refine u3 h7 H fun h8 H=>zd Z Z h7 (zn uz Z) (vj Z Z h7 (zp qq Z Z) Z (zd Z Z h7 (yo qm Z) (zd Z Z h7 (qh Z Z) (zd Z Z h7 (zf (.dat _) Z) (yh (j:=10) Z Z (fun h9 => ?_) (fun h9 => ?_) Z)))))
    ·exact u1 h9 H fun h10 H=>zd Z Z h9 (zn uz Z) (vj Z Z h9 (zp qq Z Z) Z (zd Z Z h9 (zn z7o Z) (vj Z Z h9 (zp tyS9 Z Z) Z (bE H fun r11 h12 H=>zd Z Z h9 (zl (y4u r4.1.Audience v1.Audience r11 h12) ⟨.inl Z,.inl Z,U⟩) (zd Z Z h9 (yt Z) (zd Z Z h7 (zz Z (bTT h10) Z) (za (yb Z (bFF h8) Z) (qe Z ⟨!r11,H,⟨Z,Z,Z,Z,Z,U⟩,⟨Z,Z,Z,Z,U⟩⟩))))))))
    ·exact u2 h9 H fun h13 H=>zc Z Z h9 (zc Z Z h9 (zc Z Z h9 (zc Z Z h9 (zc Z Z h9 (zc Z Z h9 (zd Z Z h7 (yb Z (bFF h13) Z) (za (yb Z (bFF h8) Z) (qe Z ⟨false,H,⟨Z,Z,Z,Z,Z,U⟩,⟨Z,Z,Z,Z,U⟩⟩))))))))
   ·exact u4 h7 H fun h14 H=>zc Z Z h7 (zc Z Z h7 (zc Z Z h7 (zc Z Z h7 (zc Z Z h7 (yg Z Z (yg Z Z (yg Z Z (yg Z Z (yg Z Z (yg Z Z (zc Z Z h7 (za (zz Z (bTT h14) Z) (qe Z ⟨true,H,⟨Z,Z,Z,Z,Z,U⟩,⟨Z,Z,Z,Z,U⟩⟩)))))))))))))
  ·rintro v15 H
   replace H:Wi v1 v3 r4 v15=some r:=H
   unfold Wi at H
   refine zg _ Z (fun h16 => ?_) (fun h16 => ?_)
   ·refine tE h16 H fun H=>zb hN Z (za (wd (u':=vagg (yq (zm.mk [] [] [] [] [] [] 0 0))) (wh (by exact ⟨zr,zr,zr,zr,yu,yu,zr,zr,U⟩)) (qt [] wl je Z U)) ?_)
    refine zi (yp yn Z Z Z Z) Z (qe Z (zh ?_))
    cases H
    exact ⟨U,.inl ⟨_,_,_,yq (zm.mk [] [] [] [] [] [] 0 0),Z,Z,Z,Z,yn⟩,.inl Z,U⟩
   ·refine fE h16 H fun H=>zb hN Z (zu (zp tyS3 Z Z) Z (za (zn Zu Z) (zu (zp tyS3 Z Z) Z (za (zn z00 Z) (zu (zp tyS3 Z Z) Z (za (yw _ Z Z (.inr (.inl ⟨Z,Z⟩))) (za (zy Z Z) (qd Z (jk Z Z (fun hc=>zp tyS3 Z Z) Z vv (yi Z Z (fun hc=>zn Za Z) (jk Z Z (fun hc=>zp tyS3 (cnd (c:=(!(decide (v3 < (wr (r4.1.From - v1.Skew)))))) hc) Z) Z vv (yi Z Z (fun hc=>zn z00 Z) (jk Z Z (fun hc=>zp tyS3 (cnd (c:=(!(decide (v3 < (wr (r4.1.From - v1.Skew)))))) hc) Z) Z vv (yi Z Z (fun hc=>yw _ (cnd (c:=(!(decide (v3 < (wr (r4.1.From - v1.Skew)))))) hc) (cnd (c:=(!(decide (v3 < (wr (r4.1.From - v1.Skew)))))) hc) (.inl ⟨Z,Z⟩)) (yi Z Z (fun hc=>vy (cnd (c:=(!(decide (v3 < (wr (r4.1.From - v1.Skew)))))) hc) (cnd (c:=(!(decide (v3 < (wr (r4.1.From - v1.Skew)))))) hc)) (za (wz Z Z (fun hb=>(cnd (c:=(!(decide (v3 < (wr (r4.1.From - v1.Skew)))))) (notI hb)))) (qe Z (zg _ Z (fun h17 => ?_) (fun h17 => ?_)))))))))))))))))))
    ·refine tE h17 H fun H=>zb hN Z (za (wd (u':=vagg (yq (zm.mk [] [] [] [] [] [] 0 0))) (wh (by exact ⟨zr,zr,zr,zr,yu,yu,zr,zr,U⟩)) (qt [] wl je Z U)) ?_)
     refine zi (yp yn Z Z Z Z) Z (qe Z (zh ?_))
     cases H
     exact ⟨U,.inl ⟨_,_,_,yq (zm.mk [] [] [] [] [] [] 0 0),Z,Z,Z,Z,yn⟩,.inl Z,U⟩
    ·refine fE h17 H fun H=>zk (ze (ze (xg 4 [vstr r4.1.Id,vstr r4.1.Subject,vstr r4.1.Issuer,vstr r4.1.Parent,vlst (List.map zo r4.1.Audience),vlst (List.map zo r4.1.Scopes),vint r4.1.From,vint r4.1.To] Z Z (xg 2 [vint v3] Z Z (zq hN Z (za (zn y2a Z) (zu (zp y10 Z Z) Z (za (Zd (us:=[_,_]) ⟨Z,Z,U⟩) (bE H fun r18 h19 H=>za (zl (x4j v1.Revoked (fun (a0:qf)=>z8y a0 r4.1 v3) 126 [wv [[vstr r4.1.Id,vstr r4.1.Subject,vstr r4.1.Issuer,vstr r4.1.Parent,vlst (List.map zo r4.1.Audience),vlst (List.map zo r4.1.Scopes),vint r4.1.From,vint r4.1.To]] 0 0,wv [[vint v3]] 0 0] (fun a0 r h=>w3k a0 r4.1 v3 r h) r18 h19) ⟨.inl Z,.inl Z,U⟩) (zg _ Z (fun h20 => ?_) (fun h20 => ?_)))))))))))
     ·refine tE h20 H fun H=>zb hN Z (za (wd (u':=vagg (yq (zm.mk [] [] [] [] [] [] 0 0))) (wh (by exact ⟨zr,zr,zr,zr,yu,yu,zr,zr,U⟩)) (qt [] wl je Z U)) ?_)
      refine zi (yp yn Z Z Z Z) Z (qe Z (zh ?_))
      cases H
      exact ⟨U,.inl ⟨_,_,_,yq (zm.mk [] [] [] [] [] [] 0 0),Z,Z,Z,Z,yn⟩,.inl Z,U⟩
     ·refine fE h20 H fun H=>zk (zb hN Z (za (kj yn Z Z Z) (zi (yp yn Z Z Z Z) Z (qe Z (zh ?_)))))
      cases H
      exact ⟨U,.inl ⟨_,_,_,yq r4.1,Z,Z,Z,Z,yn⟩,.inl Z,U⟩
theorem w3i (k1:wo) (value2:Bs) (v3:Int) (r:(yl×Int)) (H:z4t k1 value2 v3=some r):Fn Tryz.prog 88 [vagg (xi k1),vstr value2,vint v3] (zw [vagg (qy r.1),vint r.2]):=by
 refine ⟨by kernel_rfl,yd (us:=[vagg (qy r.1),vint r.2]) Tryz.func88 Z Z Z Z fun X hN => ?_⟩
 unfold z4t at H
 refine zb hN Z (zi (jf 1 Z) Z (zi (we 2 jd Z) Z (qe Z (zb hN Z (qd Z (bE H fun r4 h5 H=>za (zl (x37 value2 [66,101,97,114,101,114,32] r4 h5) ⟨.inl Z,.inl Z,U⟩) (qd Z (za (ym Z Z) (za (ym Z Z) (qe Z (qe Z (ze (zb hN Z (qd Z (za (yt Z) (qd Z (yi Z Z (fun hc=>zf (.dat _) Z) (yi Z Z (fun hc=>wy (cnd (c:=(!(!r4.2))) hc) Z) (za (wz Z Z (fun hb=>(cnd (c:=(!(!r4.2))) (notI hb)))) (zg _ Z (fun h6 => ?_) (fun h6 => ?_)))))))))))))))))))))
 ·refine tE h6 H fun H=>zb hN Z (za (wd (u':=vagg (qy (yl.mk 0 [] []))) (wh (by exact ⟨zr,zr,yu,U⟩)) (qt [] jd jr Z U)) ?_)
  refine zi (yp qx Z Z Z Z) Z (qe Z (zh ?_))
  cases H
  exact ⟨U,.inl ⟨_,_,_,qy (yl.mk 0 [] []),Z,Z,Z,Z,qx⟩,.inl Z,U⟩
 ·refine fE h6 H fun H=>zk (zb hN Z (zu (vo ui Z Z Z) Z (qd Z (qd Z (bE H fun r7 h8 H=>za (zl (w3l k1 r4.1 v3 r7 h8) ⟨.inl Z,.inl Z,.inl Z,U⟩) (qd Z (za (ym Z Z) (za (ym Z Z) (zi (we 3 wl Z) Z (zi (yp yn Z Z Z Z) Z (qe Z (ze (zb hN Z (qd Z (za (wa Z Z) (zg _ Z (fun h9 => ?_) (fun h9 => ?_)))))))))))))))))
  ·refine tE h9 H fun H=>zb hN Z (za (wd (u':=vagg (qy (yl.mk 0 [] []))) (wh (by exact ⟨zr,zr,yu,U⟩)) (qt [] jd jr Z U)) ?_)
   refine qd Z (zi (yp qx Z Z Z Z) Z (qe Z (zh ?_)))
   cases H
   exact ⟨U,.inl ⟨_,_,_,qy (yl.mk 0 [] []),Z,Z,Z,Z,qx⟩,.inl Z,U⟩
  ·refine fE h9 H fun H=>zk (zb hN Z (za (zn z0y Z) (zu (zp tyS9 Z Z) Z (za (zn xo Z) (zu (zp qq Z Z) Z (za (ye (u':=vagg (qy (yl.mk 1 r7.1.Subject r7.1.Scopes))) (qt [(0,[vint 1]),(1,[vstr r7.1.Subject]),(2,[vlst (List.map zo r7.1.Scopes)])] jd jr Z ⟨Z,.inl ⟨_,Z,Z,Z⟩,Z,Z,.inl ⟨_,Z,Z,Z⟩,Z,Z,.inl ⟨_,Z,Z,Z⟩,Z,U⟩) Z) (zi (yp qx Z Z Z Z) Z (qe Z (zh ?_)))))))))
   cases H
   exact ⟨U,.inl ⟨_,_,_,qy (yl.mk 1 r7.1.Subject r7.1.Scopes),Z,Z,Z,Z,qx⟩,.inl Z,U⟩
theorem w3j (v1:wo) (v2:Bs) (v3:Int) (r:(yl×Int)) (H:z4u v1 v2 v3=some r):Fn Tryz.prog 89 [vagg (xi v1),vstr v2,vint v3] (zw [vagg (qy r.1),vint r.2]):=by
 refine ⟨by kernel_rfl,yd (us:=[vagg (qy r.1),vint r.2]) Tryz.func89 Z Z Z Z fun X hN => ?_⟩
 unfold z4u at H
 refine zb hN Z (zi (jf 1 Z) Z (zi (we 2 jd Z) Z (qe Z (zb hN Z (za (zn z01 Z) (zu (zp tyS9 Z Z) Z (qd Z (bE H fun r4 h5 H=>za (zl (x3v v1.Issuer v2 r4 h5) ⟨.inl Z,.inl Z,U⟩) (qe Z (zb hN Z (qe Z (zb hN Z (za (ye (u':=vagg [vint 0,vstr [],vnil]) (qt [] jd jr Z U) Z) (zi (we 3 jd Z) Z (zi (yp qx Z Z Z Z) Z (w8r 3 2 4 9 1 Z Z Z Z (ze (zb hN Z (za (zn y19 Z) (zu (zp y1z Z Z) Z (za (yo z3w Z) (qd Z ?_))))))))))))))))))))))
 refine zx (gE H fun h12 H=>wi (fun (k10:Nat) (s:Bool×(List Bs)×Int×Bs)=>[(2,.dat (vint v3)),(6,.ptr 2 0),(8,.dat (vstr r4)),(9,.dat (zj s.1)),(10,.ptr 3 0),(19,.dat (vlst (List.map vx v1.Holders))),(20,.dat (vint (v1.Holders.length:Int))),(21,.dat (vint (k10:Int)))]) (fun (k10:Nat) (s:Bool×(List Bs)×Int×Bs)=>[(2,.box none 64 [.dat (vint 0),.dat (vstr []),.dat (vnil)]),(3,.box none 64 [.dat (vint s.2.2.1),.dat (vstr s.2.2.2),.row 4 s.2.1.length]),(4,.row 9 1 (List.map zo s.2.1))]) (false,([]:List Bs),0,[]) H ⟨Z,Z,Z,Z,Z,Z,Z,Z,U⟩ ⟨Z,(congrArg (fun n=>some (some (AObj.box none 64 [.dat (vint 0),.dat (vstr []),.row 4 n]))) (show 0=([]:List Bs).length from (by simp))),Z,U⟩ (fun _ _=>Z) ?_ ?_)
 ·rintro ⟨v6,l7,c8,c9⟩ H
  replace H:z4a v6 l7 c8 c9=some r:=H
  unfold z4a at H
  refine zb hN Z (za (zy Z Z) (ze (zg _ Z (fun h=>(lt_t h).elim) (fun h => ?_))))
  refine qg (ze (zx (zb hN Z (qd Z (za (yt Z) (qe Z (zg _ Z (fun h14 => ?_) (fun h14 => ?_))))))))
  ·refine tE h14 H fun H=>zb hN Z (za (wd (u':=vagg (qy (yl.mk 0 [] []))) (wh (by exact ⟨zr,zr,yu,U⟩)) (qt [] jd jr Z U)) ?_)
   refine zi (yp qx Z Z Z Z) Z (qe Z (zh ?_))
   cases H
   exact ⟨U,.inl ⟨_,_,_,qy (yl.mk 0 [] []),Z,Z,Z,Z,qx⟩,.inl Z,U⟩
  ·refine fE h14 H fun H=>zb hN Z (za (zn Qz Z) (zu (zp tyS3 Z Z) Z (za (ql Z Z) (qe Z (zg _ Z (fun h15 => ?_) (fun h15 => ?_))))))
   ·refine tE h15 H fun H=>zb hN Z (za (wd (u':=vagg (qy (yl.mk 0 [] []))) (wh (by exact ⟨zr,zr,yu,U⟩)) (qt [] jd jr Z U)) ?_)
    refine zi (yp qx Z Z Z Z) Z (qe Z (zh ?_))
    cases H
    exact ⟨U,.inl ⟨_,_,_,qy (yl.mk 0 [] []),Z,Z,Z,Z,qx⟩,.inl Z,U⟩
   ·refine fE h15 H fun H=>zk (ze (x6x 3 2 4 Z Z Z (by rw [List.length_map]) ?_))
    refine zq hN Z (za (zn Yq Z) (zu (zp qq Z Z) Z (bE H fun r16 h17 H=>za (zl (x3w l7 r16 h17) ⟨.inl Z,U⟩) (za (zn Yq Z) (zi (wn qq Z Z Z Z) Z (ze (zb hN Z (za (zn Yq Z) (zu (zp qq Z Z) Z (za (yo qm Z) (za (qh Z Z) (zg _ Z (fun h18 => ?_) (fun h18 => ?_)))))))))))))
    ·refine tE h18 H fun H=>zb hN Z (za (wd (u':=vagg (qy (yl.mk 0 [] []))) (wh (by exact ⟨zr,zr,yu,U⟩)) (qt [] jd jr Z U)) ?_)
     refine zi (yp qx Z Z Z Z) Z (qe Z (zh ?_))
     cases H
     exact ⟨U,.inl ⟨_,_,_,qy (yl.mk 0 [] []),Z,Z,Z,Z,qx⟩,.inl Z,U⟩
    ·refine fE h18 H fun H=>zk (zb hN Z (zu (vo qx Z Z Z) Z (zi (yp qx Z Z Z Z) Z (qe Z (zh ?_)))))
     cases H
     exact ⟨U,.inl ⟨_,_,_,qy (yl.mk c8 c9 r16),Z,Z,Z,Z,qx⟩,.inl Z,U⟩
 ·rintro k10 x13 ⟨v6,l7,c8,c9⟩ q11 h19 h20 H hq11
  replace H:z04 v3 r4 k10 x13 v6 l7 c8 c9=some q11:=H
  unfold z04 at H
  refine Qs (zb hN Z (za (zy Z Z) (ze (zg _ Z (fun h => ?_) (fun h=>(lt_f h19 h).elim)))))
  refine zk (yf (ι:=Bool×(List Bs)×Int×Bs) (fun i=>[(2,.dat (vint v3)),(6,.ptr 2 0),(8,.dat (vstr r4)),(9,.dat (zj i.1)),(10,.ptr 3 0),(19,.dat (vlst (List.map vx v1.Holders))),(20,.dat (vint (v1.Holders.length:Int))),(21,.dat (vint (k10:Int)))]) (fun i=>[(2,.box none 64 [.dat (vint 0),.dat (vstr []),.dat (vnil)]),(3,.box none 64 [.dat (vint i.2.2.1),.dat (vstr i.2.2.2),.row 4 i.2.1.length]),(4,.row 9 1 (List.map zo i.2.1))]) (fun i=>z05 i.1 i.2.1 i.2.2.1 i.2.2.2=some q11) (fun i=>Z) ?_ ?_)
  ·refine Qs (zx (zb hN Z (za (qu Yr (fun _=>Z) Z Z h20) (za (kj Qw Z (yy h20) Z) (zi (we 5 z3t Z) Z (zi (yp Qw Z Z Z Z) Z (ze (zb hN Z (za (zn Zs Z) (zu (zp tyS9 Z Z) Z (qd Z (za (jj Z Z) (zg _ Z (fun h21 => ?_) (fun h21 => ?_))))))))))))))
   ·refine tE h21 H fun H=>qg ?_
    show Cv _ _ _ _
    exact ux ⟨(v6,l7,c8,c9),H,⟨Z,Z,Z,Z,Z,Z,Z,Z,U⟩,⟨Z,Z,Z,U⟩⟩
   ·refine fE h21 H fun H=>zk (zb hN Z (qe Z (zb hN Z (za (zn y15 Z) (zu (zp tyS3 Z Z) Z (qd Z (za (vq Z Z) (qd Z (qj Z Z (fun hc=>zf (.dat _) Z) (qj Z Z (fun hc=>zn z3z Z) (z4i Z Z (fun hc=>zp tyS3 (cnd (c:=(decide (x13.From≤v3))) hc) Z) Z vv (qj Z Z (fun hc=>zy (cnd (c:=(decide (x13.From≤v3))) hc) (cnd (c:=(decide (x13.From≤v3))) hc)) (za (vi Z (fun hb=>(cnd (c:=(decide (x13.From≤v3))) hb)) Z) (qd Z (qj Z Z (fun hc=>zn Qz Z) (z4i Z Z (fun hc=>zp tyS3 (cnd (c:=((decide (x13.From≤v3)) && (decide (v3 < x13.To)))) hc) Z) Z vv (qj Z Z (fun hc=>ql (cnd (c:=((decide (x13.From≤v3)) && (decide (v3 < x13.To)))) hc) Z) (qj Z Z (fun hc=>zf (.dat _) (cnd (c:=((decide (x13.From≤v3)) && (decide (v3 < x13.To)))) hc)) (xp Z Z (fun hc=>zn z30 Z) (x1w Z Z (fun hc=>zp tyS9 (cnd (c:=(((decide (x13.From≤v3)) && (decide (v3 < x13.To))) && !(decide (c8=0)))) hc) Z) Z vv (xp Z Z (fun hc=>zn xn Z) (x1w Z Z (fun hc=>zp tyS9 (cnd (c:=(((decide (x13.From≤v3)) && (decide (v3 < x13.To))) && !(decide (c8=0)))) hc) Z) Z vv ?_))))))))))))))))))))))
    refine xp Z Z (fun hc=>wy (cnd (c:=(((decide (x13.From≤v3)) && (decide (v3 < x13.To))) && !(decide (c8=0)))) hc) (cnd (c:=(((decide (x13.From≤v3)) && (decide (v3 < x13.To))) && !(decide (c8=0)))) hc)) (qj Z Z (fun hc=>wz (cnd (c:=((decide (x13.From≤v3)) && (decide (v3 < x13.To)))) hc) Z (fun hb=>(cnd (c:=(((decide (x13.From≤v3)) && (decide (v3 < x13.To))) && !(decide (c8=0)))) (andI hc (notI hb))))) (za (vi Z (fun hb=>(cnd (c:=((decide (x13.From≤v3)) && (decide (v3 < x13.To)))) hb)) Z) (zg _ Z (fun h22 => ?_) (fun h22 => ?_))))
    ·refine tE h22 H fun H=>ze (wx mixed hN Z Z (za (zn xn Z) (zu (zp tyS9 Z Z) Z (za (zn Qz Z) (zi (wn tyS3 Z Z Z Z) Z (za (zn z30 Z) (zi (wn tyS9 Z Z Z Z) Z ⟨Z,?_⟩)))))))
     refine zq hN Z (za (zn Yq Z) (zu (zp qq Z Z) Z (za (zn y16 Z) (zu (zp qq Z Z) Z (gE H fun h23 H=>zi (y6s qn (fun _=>Z) Z Z Z h23 Z) Z (za (zn Yq Z) (x1u (x04 qq Z Z (by rw [List.length_map]) Z) Z Z ?_)))))))
     refine Yz ?_
     show Cv _ _ _ _
     exact ux ⟨(true,(l7++x13.Scopes),2,x13.App),H,⟨Z,Z,Z,Z,Z,Z,Z,Z,U⟩,⟨Z,Z,Z,U⟩⟩
    ·refine fE h22 H fun H=>zk ?_
     show Cv _ _ _ _
     exact ux ⟨(true,l7,c8,c9),H,⟨Z,Z,Z,Z,Z,Z,Z,Z,U⟩,⟨Z,Z,Z,U⟩⟩
  ·rintro ⟨v24,l25,c26,c27⟩ H
   replace H:z05 v24 l25 c26 c27=some q11:=H
   unfold z05 at H
   refine zq hN Z (za (qw Z Z (by omega)) (qd Z (Yz ?_)))
   show Cv _ _ _ _
   exact ux ⟨_,qk H,⟨Z,Z,Z,Z,Z,Z,Z,Z,U⟩,⟨Z,Z,Z,U⟩⟩
theorem w3u (v1:wo) (v2:wj) (r:(yl×Int)) (H:z87 v1 v2=some r):Fn Tryz.prog 32 [vagg (xi v1),vagg (z3p v2)] (zw [vagg (qy r.1),vint r.2]):=by
 refine ⟨by kernel_rfl,yd (us:=[vagg (qy r.1),vint r.2]) Tryz.func32 Z Z Z Z fun X hN => ?_⟩
 unfold z87 at H
 refine zb hN Z (zi (jf 1 Z) Z (zi (jf 2 Z) Z (zi (we 3 jd Z) Z (qe Z (ze (zb hN Z (zu (vo ui Z Z Z) Z (bE H fun r3 h4 H=>za (zl (w3r v1 r3 h4) ⟨.inl Z,U⟩) (qe Z (zb hN Z (qd Z (za (wa Z Z) (zg _ Z (fun h5 => ?_) (fun h5 => ?_))))))))))))))
 ·refine tE h5 H fun H=>zb hN Z (za (wd (u':=vagg (qy (yl.mk 0 [] []))) (wh (by exact ⟨zr,zr,yu,U⟩)) (qt [] jd jr Z U)) ?_)
  refine qd Z (zi (yp qx Z Z Z Z) Z (qe Z (zh ?_)))
  cases H
  exact ⟨U,.inl ⟨_,_,_,qy (yl.mk 0 [] []),Z,Z,Z,Z,qx⟩,.inl Z,U⟩
 ·refine fE h5 H fun H=>zk (ze (zb hN Z (zu (vo Yo Z Z Z) Z (bE H fun r6 h7 H=>za (zl (w39 v2 r6 h7) ⟨.inl Z,U⟩) (qe Z (zb hN Z (qd Z (za (wa Z Z) (zg _ Z (fun h8 => ?_) (fun h8 => ?_))))))))))
  ·refine tE h8 H fun H=>zb hN Z (za (wd (u':=vagg (qy (yl.mk 0 [] []))) (wh (by exact ⟨zr,zr,yu,U⟩)) (qt [] jd jr Z U)) ?_)
   refine qd Z (zi (yp qx Z Z Z Z) Z (qe Z (zh ?_)))
   cases H
   exact ⟨U,.inl ⟨_,_,_,qy (yl.mk 0 [] []),Z,Z,Z,Z,qx⟩,.inl Z,U⟩
  ·refine fE h8 H fun H=>zk (ze (wx mixed hN Z Z (za (zn Wb Z) (zu (zp Qx Z Z) Z (bE H fun r9 h10 H=>za (zl (x4m v2.Headers [97,117,116,104,111,114,105,122,97,116,105,111,110] r9 h10) ⟨.inl Z,.inl Z,U⟩) (za (zn Wb Z) (zu (zp Qx Z Z) Z (bE H fun r11 h12 H=>za (zl (x4m v2.Headers [120,45,97,112,105,45,107,101,121] r11 h12) ⟨.inl Z,.inl Z,U⟩) (qe Z (qe Z ⟨Z,?_⟩))))))))))
   refine ze (zx (zb hN Z (qd Z (za (yo qm Z) (za (qh Z Z) (qd Z (yi Z Z (fun hc=>zf (.dat _) Z) (yi Z Z (fun hc=>yo qm (cnd (c:=(!(decide (1 < (r9.length:Int))))) hc)) (yi Z Z (fun hc=>qh (cnd (c:=(!(decide (1 < (r9.length:Int))))) hc) Z) (za (wz Z Z (fun hb=>(cnd (c:=(!(decide (1 < (r9.length:Int))))) (notI hb)))) (qe Z (zg _ Z (fun h13 => ?_) (fun h13 => ?_)))))))))))))
   ·refine tE h13 H fun H=>zb hN Z (za (wd (u':=vagg (qy (yl.mk 0 [] []))) (wh (by exact ⟨zr,zr,yu,U⟩)) (qt [] jd jr Z U)) ?_)
    refine zi (yp qx Z Z Z Z) Z (qe Z (zh ?_))
    cases H
    exact ⟨U,.inl ⟨_,_,_,qy (yl.mk 0 [] []),Z,Z,Z,Z,qx⟩,.inl Z,U⟩
   ·refine fE h13 H fun H=>zb hN Z (qd Z (za (yo qm Z) (za (ql Z Z) (qd Z (qj Z Z (fun hc=>zf (.dat _) Z) (qj Z Z (fun hc=>yo qm (cnd (c:=(decide ((r9.length:Int)=1))) hc)) (qj Z Z (fun hc=>ql (cnd (c:=(decide ((r9.length:Int)=1))) hc) Z) (za (vi Z (fun hb=>(cnd (c:=(decide ((r9.length:Int)=1))) hb)) Z) (qe Z (zg _ Z (fun h14 => ?_) (fun h14 => ?_)))))))))))
    ·refine tE h14 H fun H=>zb hN Z (za (wd (u':=vagg (qy (yl.mk 0 [] []))) (wh (by exact ⟨zr,zr,yu,U⟩)) (qt [] jd jr Z U)) ?_)
     refine zi (yp qx Z Z Z Z) Z (qe Z (zh ?_))
     cases H
     exact ⟨U,.inl ⟨_,_,_,qy (yl.mk 0 [] []),Z,Z,Z,Z,qx⟩,.inl Z,U⟩
    ·refine fE h14 H fun H=>zb hN Z (qd Z (za (yo qm Z) (za (ql Z Z) (qe Z (zg _ Z (fun h15 => ?_) (fun h15 => ?_))))))
     ·refine tE h15 H fun H=>ze (wx mixed hN Z Z (zu (vo ui Z Z Z) Z (qd Z (bE H fun x16 h17 H=>za (qu qv (fun _=>Z) Z Z h17) (za (yj tyS9 Z (yy h17) Z) (za (zn z0w Z) (zu (zp tyS3 Z Z) Z (bE H fun r18 h19 H=>za (zl (w3i v1 x16 v2.At r18 h19) ⟨.inl Z,.inl Z,.inl Z,U⟩) (za (ym Z Z) (za (ym Z Z) (zi (yp qx Z Z Z Z) Z (qe Z ⟨Z,?_⟩))))))))))))
      refine zh ?_
      cases H
      exact ⟨U,.inl ⟨_,_,_,qy r18.1,Z,Z,Z,Z,qx⟩,.inl Z,U⟩
     ·refine fE h15 H fun H=>zb hN Z (qd Z (za (yo qm Z) (za (ql Z Z) (qe Z (zg _ Z (fun h20 => ?_) (fun h20 => ?_))))))
      ·refine tE h20 H fun H=>ze (wx mixed hN Z Z (zu (vo ui Z Z Z) Z (qd Z (bE H fun x21 h22 H=>za (qu qv (fun _=>Z) Z Z h22) (za (yj tyS9 Z (yy h22) Z) (za (zn z0w Z) (zu (zp tyS3 Z Z) Z (bE H fun r23 h24 H=>za (zl (w3j (wo.mk v1.Issuer v1.Audience v1.Signers v1.Revoked v1.Holders v1.Skew) x21 v2.At r23 h24) ⟨.inl Z,.inl Z,.inl Z,U⟩) (za (ym Z Z) (za (ym Z Z) (zi (yp qx Z Z Z Z) Z (qe Z ⟨Z,?_⟩))))))))))))
       refine zh ?_
       cases H
       exact ⟨U,.inl ⟨_,_,_,qy r23.1,Z,Z,Z,Z,qx⟩,.inl Z,U⟩
      ·refine fE h20 H fun H=>zk (zb hN Z (za (wd (u':=vagg (qy (yl.mk 0 [] []))) (wh (by exact ⟨zr,zr,yu,U⟩)) (qt [] jd jr Z U)) ?_))
       refine zi (yp qx Z Z Z Z) Z (qe Z (zh ?_))
       cases H
       exact ⟨U,.inl ⟨_,_,_,qy (yl.mk 0 [] []),Z,Z,Z,Z,qx⟩,.inl Z,U⟩
theorem w40 (l1:(List qf)) (r:(Int)) (H:z9r l1=some r):Fn Tryz.prog 23 [vlst (List.map jb l1)] (zw [vint r]):=by
 refine ⟨by kernel_rfl,yd (us:=[vint r]) Tryz.func23 Z Z Z Z fun X hN => ?_⟩
 unfold z9r at H
 refine zb hN Z (qe Z (ze (zb hN Z (qd Z (za (yo z7l Z) (za (qh Z Z) (zg _ Z (fun h2 => ?_) (fun h2 => ?_))))))))
 ·refine tE h2 H fun H=>zb hN Z (qe Z (zh ?_))
  cases H
  exact ⟨U,.inl Z,U⟩
 ·refine fE h2 H fun H=>zk (zb hN Z (qe Z (ze (zb hN Z (qd Z (za (yo z7l Z) (qd Z (zx (gE H fun h6 H=>wi (fun (k4:Nat) (s:Bs)=>[(3,.dat (vstr s)),(9,.dat (vlst (List.map jb l1))),(10,.dat (vint (l1.length:Int))),(11,.dat (vint (k4:Int)))]) (fun (k4:Nat) (s:Bs)=>[]) [] H ⟨Z,Z,Z,Z,U⟩ U (fun _ _=>Z) ?_ ?_)))))))))
  ·rintro last3 H
   replace H:y5d last3=some r:=H
   unfold y5d at H
   refine zb hN Z (za (zy Z Z) (ze (zg _ Z (fun h=>(lt_t h).elim) (fun h => ?_))))
   refine qg (zb hN Z (qe Z (zh ?_)))
   cases H
   exact ⟨U,.inl Z,U⟩
  ·rintro k4 x7 last3 q5 h8 h9 H hq5
   replace H:y09 k4 x7 last3=some q5:=H
   unfold y09 at H
   refine zb hN Z (za (zy Z Z) (ze (zg _ Z (fun h => ?_) (fun h=>(lt_f h8 h).elim))))
   refine zk (ze (zx (zb hN Z (za (qu y2f (fun _=>Z) Z Z h9) (za (kj z7n Z (yy h9) Z) (zi (we 1 y1v Z) Z (zi (yp z7n Z Z Z Z) Z (ze (zx (zb hN Z (za (zn Zt Z) (zu (zp tyS9 Z Z) Z (bE H fun r10 h11 H=>za (zl (xv x7.Id r10 h11) ⟨.inl Z,U⟩) (za (yt Z) (qe Z (zg _ Z (fun h12 => ?_) (fun h12 => ?_)))))))))))))))))
   ·refine tE h12 H fun H=>zb hN Z (qe Z (zh ?_))
    replace H:=retl H hq5
    cases H
    exact ⟨U,.inl Z,U⟩
   ·refine fE h12 H fun H=>zb hN Z (za (zn Zt Z) (zu (zp tyS9 Z Z) Z (qd Z (za (z79 Z Z) (qe Z (zg _ Z (fun h13 => ?_) (fun h13 => ?_)))))))
    ·refine tE h13 H fun H=>zb hN Z (qe Z (zh ?_))
     replace H:=retl H hq5
     cases H
     exact ⟨U,.inl Z,U⟩
    ·refine fE h13 H fun H=>zb hN Z (za (zn y18 Z) (zu (zp tyS3 Z Z) Z (za (zn y17 Z) (zu (zp tyS3 Z Z) Z (bE H fun r14 h15 H=>za (zl (Yg x7.At 0 x7.Until r14 h15) ⟨.inl Z,.inl Z,.inl Z,U⟩) (za (yt Z) (qd Z (yi Z Z (fun hc=>zn y17 Z) (jk Z Z (fun hc=>zp tyS3 (cnd (c:=(!(!r14))) hc) Z) Z vv (yi Z Z (fun hc=>qh (cnd (c:=(!(!r14))) hc) Z) (za (wz Z Z (fun hb=>(cnd (c:=(!(!r14))) (notI hb)))) (qe Z (zg _ Z (fun h16 => ?_) (fun h16 => ?_))))))))))))))
     ·refine tE h16 H fun H=>zb hN Z (qe Z (zh ?_))
      replace H:=retl H hq5
      cases H
      exact ⟨U,.inl Z,U⟩
     ·exact fE h16 H fun H=>zk (zq hN Z (za (zn Zt Z) (zu (zp tyS9 Z Z) Z (qe Z (zq hN Z (za (qw Z Z (by omega)) (qd Z ⟨_,qk H,⟨Z,Z,Z,Z,U⟩,U⟩)))))))
theorem x44 (x1:Bs) (r:(Bool)) (H:y0i x1=some r):Fn Tryz.prog 163 [vstr x1] (zw [zj r]):=by
 refine ⟨by kernel_rfl,yd (us:=[zj r]) Tryz.func163 Z Z Z Z fun X hN => ?_⟩
 unfold y0i at H
 refine zb hN Z (qe Z (zb hN Z (qd Z (qd Z (za (jj Z Z) (qe Z (zh ?_)))))))
 cases H
 exact ⟨U,.inl Z,U⟩
theorem w5u (x1:Bs) (y2:Bs) (r:(Int)) (H:y0j x1 y2=some r):Fn Tryz.prog 108 [vstr x1,vstr y2] (zw [vint r]):=by
 refine ⟨by kernel_rfl,yd (us:=[vint r]) Tryz.func108 Z Z Z Z fun X hN => ?_⟩
 unfold y0j at H
 refine zb hN Z (qe Z (zb hN Z (qd Z (bE H fun r3 h4 H=>za (zl (x44 x1 r3 h4) ⟨.inl Z,U⟩) (qe Z (zb hN Z (qd Z (bE H fun r5 h6 H=>za (zl (x44 y2 r5 h6) ⟨.inl Z,U⟩) (qe Z (ze (zb hN Z (qd Z (zg _ Z (fun h7 => ?_) (fun h7 => ?_))))))))))))))
 ·refine tE h7 H fun H=>ze (zb hN Z (qd Z (zg _ Z (fun h8 => ?_) (fun h8 => ?_))))
  ·refine tE h8 H fun H=>zb hN Z (qe Z (zh ?_))
   cases H
   exact ⟨U,.inl Z,U⟩
  ·refine fE h8 H fun H=>zk (zb hN Z (qe Z (zh ?_)))
   cases H
   exact ⟨U,.inl Z,U⟩
 ·refine fE h7 H fun H=>zk (ze (zb hN Z (qd Z (zg _ Z (fun h9 => ?_) (fun h9 => ?_)))))
  ·refine tE h9 H fun H=>zb hN Z (qe Z (zh ?_))
   cases H
   exact ⟨U,.inl Z,U⟩
  ·refine fE h9 H fun H=>zk (ze (zb hN Z (qd Z (qd Z (za (x05 Z Z) (zg _ Z (fun h10 => ?_) (fun h10 => ?_)))))))
   ·refine tE h10 H fun H=>zb hN Z (qe Z (zh ?_))
    cases H
    exact ⟨U,.inl Z,U⟩
   ·refine fE h10 H fun H=>zk (ze (zb hN Z (qd Z (qd Z (za (x8z Z Z) (zg _ Z (fun h11 => ?_) (fun h11 => ?_)))))))
    ·refine tE h11 H fun H=>zb hN Z (qe Z (zh ?_))
     cases H
     exact ⟨U,.inl Z,U⟩
    ·refine fE h11 H fun H=>zk (zb hN Z (qe Z (zh ?_)))
     cases H
     exact ⟨U,.inl Z,U⟩
theorem w31 (s1:(List Bs)) (s2:(List Bs)) (r:(Int)) (H:z89 s1 s2=some r):Fn Tryz.prog 46 [vlst (List.map zo s1),vlst (List.map zo s2)] (zw [vint r]):=by
 refine ⟨by kernel_rfl,yd (us:=[vint r]) Tryz.func46 Z Z Z Z fun X hN => ?_⟩
 unfold z89 at H
 refine zb hN Z (qe Z (ze (zb hN Z (qd Z (za (yo qm Z) (qd Z (zx (gE H fun h5 H=>wi (fun (k3:Nat) (s:Unit)=>[(0,.dat (vlst (List.map zo s1))),(1,.dat (vlst (List.map zo s2))),(9,.dat (vlst (List.map zo s1))),(10,.dat (vint (s1.length:Int))),(11,.dat (vint (k3:Int)))]) (fun (k3:Nat) (s:Unit)=>[]) () H ⟨Z,Z,Z,Z,Z,U⟩ U (fun _ _=>Z) ?_ ?_))))))))
 ·rintro ⟨⟩ H
  replace H:y26 s1 s2=some r:=H
  unfold y26 at H
  refine zb hN Z (za (zy Z Z) (ze (zg _ Z (fun h=>(lt_t h).elim) (fun h => ?_))))
  refine qg (ze (zb hN Z (qd Z (za (yo qm Z) (qd Z (za (yo qm Z) (za (zy Z Z) (zg _ Z (fun h7 => ?_) (fun h7 => ?_)))))))))
  ·refine tE h7 H fun H=>zb hN Z (qe Z (zh ?_))
   cases H
   exact ⟨U,.inl Z,U⟩
  ·refine fE h7 H fun H=>zk (zb hN Z (qe Z (zh ?_)))
   cases H
   exact ⟨U,.inl Z,U⟩
 ·rintro k3 x6 ⟨⟩ q4 h8 h9 H hq4
  replace H:z1j s2 k3 x6=some q4:=H
  unfold z1j at H
  refine zb hN Z (za (zy Z Z) (ze (zg _ Z (fun h => ?_) (fun h=>(lt_f h8 h).elim))))
  refine zk (ze (zx (zb hN Z (qd Z (za (qu qv (fun _=>Z) Z Z h9) (za (yj tyS9 Z (yy h9) Z) (qe Z (qe Z (ze (zb hN Z (qd Z (qd Z (za (yo qm Z) (za (vy Z Z) (zg _ Z (fun h10 => ?_) (fun h10 => ?_))))))))))))))))
  ·refine tE h10 H fun H=>zb hN Z (qe Z (zh ?_))
   replace H:=retl H hq4
   cases H
   exact ⟨U,.inl Z,U⟩
  ·refine fE h10 H fun H=>zk (zb hN Z (qd Z (qd Z (bE H fun x11 h12 H=>za (qu qv (fun _=>Z) Z Z h12) (za (yj tyS9 Z (yy h12) Z) (qe Z (zb hN Z (qd Z (qd Z (bE H fun r13 h14 H=>za (zl (w5u x6 x11 r13 h14) ⟨.inl Z,.inl Z,U⟩) (qe Z (zb hN Z (qd Z (za (wa Z Z) (zg _ Z (fun h15 => ?_) (fun h15 => ?_))))))))))))))))
   ·refine tE h15 H fun H=>zb hN Z (qd Z (qe Z (zh ?_)))
    replace H:=retl H hq4
    cases H
    exact ⟨U,.inl Z,U⟩
   ·exact fE h15 H fun H=>zk (zq hN Z (za (qw Z Z (by omega)) (qd Z ⟨_,qk H,⟨Z,Z,Z,Z,Z,U⟩,U⟩)))
theorem w48 (v1:(List yr)) (r:(Int)) (H:z9x v1=some r):Fn Tryz.prog 10 [vlst (List.map vx v1)] (zw [vint r]):=by
 refine ⟨by kernel_rfl,yd (us:=[vint r]) Tryz.func10 Z Z Z Z fun X hN => ?_⟩
 unfold z9x at H
 refine zb hN Z (qe Z (ze (zb hN Z (qd Z (za (yo z3w Z) (za (qh Z Z) (zg _ Z (fun h2 => ?_) (fun h2 => ?_))))))))
 ·refine tE h2 H fun H=>zb hN Z (qe Z (zh ?_))
  cases H
  exact ⟨U,.inl Z,U⟩
 ·refine fE h2 H fun H=>zk (ze (zb hN Z (qd Z (za (yo z3w Z) (qd Z (zx (gE H fun h5 H=>wi (fun (k3:Nat) (s:Unit)=>[(0,.dat (vlst (List.map vx v1))),(9,.dat (vlst (List.map vx v1))),(10,.dat (vint (v1.length:Int))),(11,.dat (vint (k3:Int)))]) (fun (k3:Nat) (s:Unit)=>[]) () H ⟨Z,Z,Z,Z,U⟩ U (fun _ _=>Z) ?_ ?_)))))))
  ·rintro ⟨⟩ H
   replace H:y88=some r:=H
   unfold y88 at H
   refine zb hN Z (za (zy Z Z) (ze (zg _ Z (fun h=>(lt_t h).elim) (fun h => ?_))))
   refine qg (zb hN Z (qe Z (zh ?_)))
   cases H
   exact ⟨U,.inl Z,U⟩
  ·rintro k3 x6 ⟨⟩ q4 h7 h8 H hq4
   replace H:z6s v1 k3 x6=some q4:=H
   unfold z6s at H
   refine zb hN Z (za (zy Z Z) (ze (zg _ Z (fun h => ?_) (fun h=>(lt_f h7 h).elim))))
   refine zk (ze (zx (zb hN Z (qd Z (za (qu Yr (fun _=>Z) Z Z h8) (za (kj Qw Z (yy h8) Z) (zi (we 1 z3t Z) Z (qe Z (zi (yp Qw Z Z Z Z) Z (ze (zx (zb hN Z (za (zn xn Z) (zu (zp tyS9 Z Z) Z (bE H fun r9 h10 H=>za (zl (xv x6.App r9 h10) ⟨.inl Z,U⟩) (za (yt Z) (qe Z (zg _ Z (fun h11 => ?_) (fun h11 => ?_)))))))))))))))))))
   ·refine tE h11 H fun H=>zb hN Z (qe Z (zh ?_))
    replace H:=retl H hq4
    cases H
    exact ⟨U,.inl Z,U⟩
   ·refine fE h11 H fun H=>yf (ι:=Bool) (fun i=>[(0,.dat (vlst (List.map vx v1))),(3,.dat (vint (k3:Int))),(4,.ptr 1 0),(9,.dat (vlst (List.map vx v1))),(10,.dat (vint (v1.length:Int))),(11,.dat (vint (k3:Int))),(21,.dat (zj i))]) (fun i=>[(1,.box none 80 [.dat (vstr x6.App),.dat (vstr x6.Sum),.dat (vlst (List.map zo x6.Scopes)),.dat (vint x6.From),.dat (vint x6.To)])]) (fun i=>z0n v1 k3 x6 i=some q4) (fun i=>Z) ?_ ?_
    ·skip
     refine zq hN Z (za (zn Zs Z) (zu (zp tyS9 Z Z) Z (za (qp tyU9 Z) (za (wa Z Z) (qd Z (yh (j:=4) Z Z (fun h12 => ?_) (fun h12 => ?_) Z))))))
     ·exact u3 h12 H fun h13 H=>zd Z Z h12 (zn Zs Z) (vj Z Z h12 (zp tyS9 Z Z) Z (bE H fun r14 h15 H=>zd Z Z h12 (zl (z5z x6.Sum [48,49,50,51,52,53,54,55,56,57,97,98,99,100,101,102] r14 h15) ⟨.inl Z,.inl Z,U⟩) (zd Z Z h12 (yt Z) (za (yb Z (bFF h13) Z) (qe Z ⟨!r14,H,⟨Z,Z,Z,Z,Z,Z,Z,U⟩,⟨Z,U⟩⟩)))))
     ·exact u4 h12 H fun h16 H=>zc Z Z h12 (zc Z Z h12 (zc Z Z h12 (zc Z Z h12 (za (zz Z (bTT h16) Z) (qe Z ⟨true,H,⟨Z,Z,Z,Z,Z,Z,Z,U⟩,⟨Z,U⟩⟩)))))
    ·rintro v17 H
     replace H:z0n v1 k3 x6 v17=some q4:=H
     unfold z0n at H
     refine zg _ Z (fun h18 => ?_) (fun h18 => ?_)
     ·refine tE h18 H fun H=>zb hN Z (qe Z (zh ?_))
      replace H:=retl H hq4
      cases H
      exact ⟨U,.inl Z,U⟩
     ·refine fE h18 H fun H=>yf (ι:=Bool) (fun i=>[(0,.dat (vlst (List.map vx v1))),(4,.ptr 1 0),(9,.dat (vlst (List.map vx v1))),(10,.dat (vint (v1.length:Int))),(11,.dat (vint (k3:Int))),(32,.dat (zj i))]) (fun i=>[(1,.box none 80 [.dat (vstr x6.App),.dat (vstr x6.Sum),.dat (vlst (List.map zo x6.Scopes)),.dat (vint x6.From),.dat (vint x6.To)])]) (fun i=>z0m x6 i=some q4) (fun i=>Z) ?_ ?_
      ·skip
       refine wx mixed hN Z Z (qd Z (za (qh Z Z) (qd Z (yh (j:=2) Z Z (fun h19 => ?_) (fun h19 => ?_) Z))))
       ·refine u1 h19 H fun h20 H=>zd Z Z h19 (zf (.dat _) Z) (zd Z Z h19 (zf (.dat _) Z) (zd Z Z h19 (Wn Z Z (by omega)) (bE H fun x21 h22 H=>zd Z Z h19 (jm Yr (fun _=>Z) Z Z h22) (zd Z Z h19 (vr xn Z) (zd Z Z h19 (yj tyS9 Z (yy (vu h22).2) Z) (zd Z Z h19 (zf (.dat _) Z) (zd Z Z h19 (zf (.dat _) Z) (zd Z Z h19 (Wn Z Z (by omega)) (zd Z Z h19 (jm Yr (fun _=>Z) Z Z h22) (zd Z Z h19 (vr Zs Z) (zd Z Z h19 (yj tyS9 Z (yy (vu h22).2) Z) (zd Z Z h19 (ye (u':=vlst (List.map zo [x21.App,x21.Sum])) (qa [[_],[_]] qn ⟨Z,.inl ⟨_,Z,Z,Z⟩,Z,Z,.inl ⟨_,Z,Z,Z⟩,Z,U⟩ Z Z) Z) (zd Z Z h19 (zn xn Z) (vj Z Z h19 (zp tyS9 Z Z) Z (zd Z Z h19 (zn Zs Z) (vj Z Z h19 (zp tyS9 Z Z) Z (zd Z Z h19 (ye (u':=vlst (List.map zo [x6.App,x6.Sum])) (qa [[_],[_]] qn ⟨Z,.inl ⟨_,Z,Z,Z⟩,Z,Z,.inl ⟨_,Z,Z,Z⟩,Z,U⟩ Z Z) Z) (bE H fun r23 h24 H=>zd Z Z h19 (zl (w31 [x21.App,x21.Sum] [x6.App,x6.Sum] r23 h24) ⟨.inl Z,.inl Z,U⟩) (zd Z Z h19 (vy Z Z) (za (zz Z (bTT h20) Z) ?_))))))))))))))))))))
        refine qe Z ⟨Z,?_⟩
        exact ⟨decide (0≤r23),H,⟨Z,Z,Z,Z,Z,Z,U⟩,⟨Z,U⟩⟩
       ·refine u2 h19 H fun h25 H=>zc Z Z h19 (zc Z Z h19 (zc Z Z h19 (zc Z Z h19 (zc Z Z h19 (zc Z Z h19 (zc Z Z h19 (zc Z Z h19 (zc Z Z h19 (zc Z Z h19 (zc Z Z h19 (zc Z Z h19 (zc Z Z h19 (zc Z Z h19 (zc Z Z h19 (zc Z Z h19 (zc Z Z h19 (zc Z Z h19 (zc Z Z h19 (zc Z Z h19 (za (yb Z (bFF h25) Z) (qe Z ⟨Z,?_⟩)))))))))))))))))))))
        exact ⟨false,H,⟨Z,Z,Z,Z,Z,Z,U⟩,⟨Z,U⟩⟩
      ·rintro v26 H
       replace H:z0m x6 v26=some q4:=H
       unfold z0m at H
       refine zg _ Z (fun h27 => ?_) (fun h27 => ?_)
       ·refine tE h27 H fun H=>zb hN Z (qe Z (zh ?_))
        replace H:=retl H hq4
        cases H
        exact ⟨U,.inl Z,U⟩
       ·refine fE h27 H fun H=>zk (ze (zb hN Z (za (zn y16 Z) (zu (zp qq Z Z) Z (bE H fun r28 h29 H=>za (zl (x4w x6.Scopes r28 h29) ⟨.inl Z,U⟩) (qe Z (zb hN Z (qd Z (za (wa Z Z) (zg _ Z (fun h30 => ?_) (fun h30 => ?_)))))))))))
        ·refine tE h30 H fun H=>zb hN Z (qd Z (qe Z (zh ?_)))
         replace H:=retl H hq4
         cases H
         exact ⟨U,.inl Z,U⟩
        ·refine fE h30 H fun H=>zk (zb hN Z (za (zn y15 Z) (zu (zp tyS3 Z Z) Z (za (zn z3z Z) (zu (zp tyS3 Z Z) Z (bE H fun r31 h32 H=>za (zl (Yg x6.From 0 x6.To r31 h32) ⟨.inl Z,.inl Z,.inl Z,U⟩) (za (yt Z) (qd Z (yi Z Z (fun hc=>zn z3z Z) (jk Z Z (fun hc=>zp tyS3 (cnd (c:=(!(!r31))) hc) Z) Z vv (yi Z Z (fun hc=>qh (cnd (c:=(!(!r31))) hc) Z) (za (wz Z Z (fun hb=>(cnd (c:=(!(!r31))) (notI hb)))) (zg _ Z (fun h33 => ?_) (fun h33 => ?_))))))))))))))
         ·refine tE h33 H fun H=>zb hN Z (qe Z (zh ?_))
          replace H:=retl H hq4
          cases H
          exact ⟨U,.inl Z,U⟩
         ·exact fE h33 H fun H=>zk (zq hN Z (za (qw Z Z (by omega)) (qd Z ⟨_,qk H,⟨Z,Z,Z,Z,U⟩,U⟩)))
theorem w45 (k1:wo) (r:(Int)) (H:z9v k1=some r):Fn Tryz.prog 8 [vagg (xi k1)] (zw [vint r]):=by
 refine ⟨by kernel_rfl,yd (us:=[vint r]) Tryz.func8 Z Z Z Z fun X hN => ?_⟩
 unfold z9v at H
 refine zb hN Z (zi (jf 1 Z) Z (qe Z (ze (yf (ι:=Bool) (fun i=>[(1,.ptr 1 0),(14,.dat (zj i))]) (fun i=>[(1,.box none 30 [.dat (vstr k1.Issuer),.dat (vstr k1.Audience),.dat (vlst (List.map wg k1.Signers)),.dat (vlst (List.map jb k1.Revoked)),.dat (vlst (List.map vx k1.Holders)),.dat (vint k1.Skew)])]) (fun i=>z2u k1 i=some r) (fun i=>Z) ?_ ?_))))
 ·skip
  refine zq hN Z (za (zn z01 Z) (zu (zp tyS9 Z Z) Z (bE H fun r2 h3 H=>za (zl (xv k1.Issuer r2 h3) ⟨.inl Z,U⟩) (za (yt Z) (qd Z (yh (j:=4) Z Z (fun h4 => ?_) (fun h4 => ?_) Z))))))
  ·exact u3 h4 H fun h5 H=>zd Z Z h4 (zn z7o Z) (vj Z Z h4 (zp tyS9 Z Z) Z (bE H fun r6 h7 H=>zd Z Z h4 (zl (xv k1.Audience r6 h7) ⟨.inl Z,U⟩) (zd Z Z h4 (yt Z) (za (yb Z (bFF h5) Z) ⟨!r6,H,⟨Z,Z,U⟩,⟨Z,U⟩⟩))))
  ·exact u4 h4 H fun h8 H=>zc Z Z h4 (zc Z Z h4 (zc Z Z h4 (zc Z Z h4 (za (zz Z (bTT h8) Z) ⟨true,H,⟨Z,Z,U⟩,⟨Z,U⟩⟩))))
 ·rintro v9 H
  replace H:z2u k1 v9=some r:=H
  unfold z2u at H
  refine zg _ Z (fun h10 => ?_) (fun h10 => ?_)
  ·refine tE h10 H fun H=>zb hN Z (qe Z (zh ?_))
   cases H
   exact ⟨U,.inl Z,U⟩
  ·refine fE h10 H fun H=>zk (ze (ze (wx mixed hN Z Z (za (zn z32 Z) (zu (zp Qy Z Z) Z (bE H fun r11 h12 H=>za (zl (x4v k1.Signers r11 h12) ⟨.inl Z,U⟩) (za (zn y2a Z) (zu (zp y10 Z Z) Z (bE H fun r13 h14 H=>za (zl (w40 k1.Revoked r13 h14) ⟨.inl Z,U⟩) (za (zn y19 Z) (zu (zp y1z Z Z) Z (bE H fun r15 h16 H=>za (zl (w48 k1.Holders r15 h16) ⟨.inl Z,U⟩) (za (ye (u':=vlst (List.map y1n [r11,r13,r15])) (qa [[_],[_],[_]] x0k ⟨Z,.inl ⟨_,Z,Z,Z⟩,Z,Z,.inl ⟨_,Z,Z,Z⟩,Z,Z,.inl ⟨_,Z,Z,Z⟩,Z,U⟩ Z Z) Z) (za (yo x0e Z) (qd Z ⟨Z,?_⟩)))))))))))))))
   refine zx (gE H fun h19 H=>wi (fun (k17:Nat) (s:Unit)=>[(1,.ptr 1 0),(24,.dat (vlst (List.map y1n [r11,r13,r15]))),(25,.dat (vint ([r11,r13,r15].length:Int))),(26,.dat (vint (k17:Int)))]) (fun (k17:Nat) (s:Unit)=>[(1,.box none 30 [.dat (vstr k1.Issuer),.dat (vstr k1.Audience),.dat (vlst (List.map wg k1.Signers)),.dat (vlst (List.map jb k1.Revoked)),.dat (vlst (List.map vx k1.Holders)),.dat (vint k1.Skew)])]) () H ⟨Z,Z,Z,Z,U⟩ ⟨Z,U⟩ (fun _ _=>Z) ?_ ?_)
   ·rintro ⟨⟩ H
    replace H:y5g k1=some r:=H
    unfold y5g at H
    refine zb hN Z (za (zy Z Z) (ze (zg _ Z (fun h=>(lt_t h).elim) (fun h => ?_))))
    refine qg (ze (zb hN Z (za (zn z00 Z) (zu (zp tyS3 Z Z) Z (bE H fun r21 h22 H=>za (zl (Yg k1.Skew 0 600000 r21 h22) ⟨.inl Z,.inl Z,.inl Z,U⟩) (za (yt Z) (zg _ Z (fun h23 => ?_) (fun h23 => ?_))))))))
    ·refine tE h23 H fun H=>zb hN Z (qe Z (zh ?_))
     cases H
     exact ⟨U,.inl Z,U⟩
    ·refine fE h23 H fun H=>zk (zb hN Z (qe Z (zh ?_)))
     cases H
     exact ⟨U,.inl Z,U⟩
   ·rintro k17 x20 ⟨⟩ q18 h24 h25 H hq18
    replace H:y1a k17 x20=some q18:=H
    unfold y1a at H
    refine zb hN Z (za (zy Z Z) (ze (zg _ Z (fun h => ?_) (fun h=>(lt_f h24 h).elim))))
    refine zk (ze (zx (zb hN Z (za (qu x0s (fun _=>Z) Z Z h25) (za (yj x0f Z (yy h25) Z) (qe Z (zb hN Z (qd Z (za (wa Z Z) (zg _ Z (fun h26 => ?_) (fun h26 => ?_)))))))))))
    ·refine tE h26 H fun H=>zb hN Z (qd Z (qe Z (zh ?_)))
     replace H:=retl H hq18
     cases H
     exact ⟨U,.inl Z,U⟩
    ·exact fE h26 H fun H=>zk (zq hN Z (za (qw Z Z (by omega)) (qd Z ⟨_,qk H,⟨Z,Z,Z,Z,U⟩,⟨Z,U⟩⟩)))
theorem x4u (s1:Bs) (r:(Bool)) (H:z5g s1=some r):Fn Tryz.prog 90 [vstr s1] (zw [zj r]):=by
 refine ⟨by kernel_rfl,yd (us:=[zj r]) Tryz.func90 Z Z Z Z fun X hN => ?_⟩
 unfold z5g at H
 refine zb hN Z (qe Z (yf (ι:=Bool) (fun i=>[(2,.dat (zj i))]) (fun i=>[]) (fun i=>z6k i=some r) (fun i=>Z) ?_ ?_))
 ·skip
  refine zq hN Z (qd Z (za (qp tyU9 Z) (bE H fun r2 h3 H=>za (zl (Yg (s1.length:Int) 1 100 r2 h3) ⟨.inl Z,.inl Z,.inl Z,U⟩) (qd Z (yh (j:=3) Z Z (fun h4 => ?_) (fun h4 => ?_) Z)))))
  ·exact u1 h4 H fun h5 H=>zd Z Z h4 (zf (.dat _) Z) (bE H fun r6 h7 H=>zd Z Z h4 (zl (z5z s1 [97,98,99,100,101,102,103,104,105,106,107,108,109,110,111,112,113,114,115,116,117,118,119,120,121,122,65,66,67,68,69,70,71,72,73,74,75,76,77,78,79,80,81,82,83,84,85,86,87,88,89,90,48,49,50,51,52,53,54,55,56,57,33,35,36,37,38,39,42,43,45,46,94,95,96,124,126] r6 h7) ⟨.inl Z,.inl Z,U⟩) (za (zz Z (bTT h5) Z) (qe Z ⟨r6,H,⟨Z,U⟩,U⟩)))
  ·exact u2 h4 H fun h8 H=>zc Z Z h4 (zc Z Z h4 (za (yb Z (bFF h8) Z) (qe Z ⟨false,H,⟨Z,U⟩,U⟩)))
 ·rintro v9 H
  replace H:z6k v9=some r:=H
  unfold z6k at H
  refine zh ?_
  cases H
  exact ⟨U,.inl Z,U⟩
theorem y8q (s1:Bs) (most2:Int) (r:(Int×Bool)) (H:Ye s1 most2=some r):Fn Tryz.prog 151 [vstr s1,vint most2] (zw [vint r.1,zj r.2]):=by
 refine ⟨by kernel_rfl,yd (us:=[vint r.1,zj r.2]) Tryz.func151 Z Z Z Z fun X hN => ?_⟩
 unfold Ye at H
 refine zb hN Z (qe Z (qe Z (zb hN Z (qd Z (bE H fun r3 h4 H=>za (zl (x33 s1 [45] r3 h4) ⟨.inl Z,.inl Z,U⟩) (qe Z (ze (yf (ι:=Bool) (fun i=>[(0,.dat (vstr s1)),(23,.dat (zj i))]) (fun i=>[]) (fun i=>Zl s1 i=some r) (fun i=>Z) ?_ ?_))))))))
 ·skip
  refine zq hN Z (qd Z (za (wy Z Z) (qd Z (yh (j:=2) Z Z (fun h5 => ?_) (fun h5 => ?_) Z))))
  ·refine u3 h5 H fun h6 H=>zd Z Z h5 (zf (.dat _) Z) (zd Z Z h5 (qp tyU9 Z) (zd Z Z h5 (zf (.dat _) Z) (zd Z Z h5 (qh Z Z) (za (yb Z (bFF h6) Z) (qd Z (yh (j:=8) Z Z (fun h7 => ?_) (fun h7 => ?_) Z))))))
   ·exact u3 h7 H fun h8 H=>zd Z Z h7 (zf (.dat _) Z) (bE H fun r9 h10 H=>zd Z Z h7 (zl (z5z r3 [48,49,50,51,52,53,54,55,56,57] r9 h10) ⟨.inl Z,.inl Z,U⟩) (zd Z Z h7 (yt Z) (za (yb Z (bFF h8) Z) ⟨!r9,H,⟨Z,Z,U⟩,U⟩)))
   ·exact u4 h7 H fun h11 H=>zc Z Z h7 (zc Z Z h7 (zc Z Z h7 (za (zz Z (bTT h11) Z) ⟨true,H,⟨Z,Z,U⟩,U⟩)))
  ·exact u4 h5 H fun h12 H=>zc Z Z h5 (zc Z Z h5 (zc Z Z h5 (zc Z Z h5 (za (zz Z (bTT h12) Z) (qd Z (zc Z Z Z (zc Z Z Z (zc Z Z Z (za (zz Z Z Z) ⟨true,H,⟨Z,Z,U⟩,U⟩)))))))))
 ·rintro v13 H
  replace H:Zl s1 v13=some r:=H
  unfold Zl at H
  refine zg _ Z (fun h14 => ?_) (fun h14 => ?_)
  ·refine tE h14 H fun H=>zb hN Z (qe Z (qe Z (zh ?_)))
   cases H
   exact ⟨U,.inl Z,.inl Z,U⟩
  ·refine fE h14 H fun H=>zk (zb hN Z (qd Z (bE H fun r15 h16 H=>za (zl (x4f s1 r15 h16) ⟨.inl Z,U⟩) (qd Z (za (ym Z Z) (za (ym Z Z) (qe Z (qe Z (yf (ι:=Bool) (fun i=>[(4,.dat (vint r15.1)),(5,.dat (zj i))]) (fun i=>[]) (fun i=>z6n r15 i=some r) (fun i=>Z) ?_ ?_)))))))))
   ·skip
    refine zq hN Z (qd Z (qd Z (za (x1b (n:=r15.2) (show Tryz.prog.underlying 135=some (.interface (Tryz.prog.methodsAt 135)) from by kernel_rfl) Z) ?_)))
    refine qd Z (yh (j:=3) Z Z (fun h17 => ?_) (fun h17 => ?_) Z)
    ·exact u1 h17 H fun h18 H=>zd Z Z h17 (zf (.dat _) Z) (bE H fun r19 h20 H=>zd Z Z h17 (zl (y8k r15.1 r19 h20) ⟨.inl Z,U⟩) (zd Z Z h17 (zf (.dat _) Z) (zd Z Z h17 (wy Z Z) (za (zz Z (bTT h18) Z) (qe Z (qe Z ⟨decide (r19=s1),H,⟨Z,Z,U⟩,U⟩))))))
    ·exact u2 h17 H fun h21 H=>zc Z Z h17 (zc Z Z h17 (zc Z Z h17 (zc Z Z h17 (za (yb Z (bFF h21) Z) (qe Z (qe Z ⟨false,H,⟨Z,Z,U⟩,U⟩))))))
   ·rintro v22 H
    replace H:z6n r15 v22=some r:=H
    unfold z6n at H
    refine zh ?_
    cases H
    exact ⟨U,.inl Z,.inl Z,U⟩
theorem y8i (s:Bs) (r:Bs) (H:z40 s=some r):Fn Tryz.prog 153 [vstr s] (zw [vstr r]):=by
 unfold z40 at H
 obtain ⟨⟨h1,h2⟩,h3⟩:=gif H
 cases h3
 refine xx (by kernel_rfl) fun M w vs hM h => ?_
 have hv:=kr (us:=[.string ⟨s.toArray⟩]) h
 subst hv
 refine (Tryz.strings_ToLower_ascii ⟨s.toArray⟩ w (by simp [ByteArray.size]; omega) (fun j b hb=>z7i h2 j b (by simpa using hb))).mono ?_
 rintro e w' ⟨rfl,hb⟩
 exact ⟨_,Z,Z,Kp.of_below hb⟩

end Go.Proofs.YtndabcepiekebaaGreatDoor
