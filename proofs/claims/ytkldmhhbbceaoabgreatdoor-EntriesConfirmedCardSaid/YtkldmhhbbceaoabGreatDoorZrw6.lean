/- Walks along the models. Printed by a program. -/
import Derived.Test.YtkldmhhbbceaoabGreatDoorZrw5
namespace Go.Proofs.YtkldmhhbbceaoabGreatDoor
open Go.RowKit
set_option linter.unusedVariables false
set_option maxRecDepth 100000
set_option maxHeartbeats 2000000
theorem x22 (v1:zy) (v2:zx) (v3:Int) (r:(zy×Int)) (H:z33 v1 v2 v3=some r):Fn Tryz.prog 16 [vagg (yy v1),vagg (vt v2),vint v3] (zw [vagg (yy r.1),vint r.2]):=by
 refine ⟨by kernel_rfl,yh (us:=[vagg (yy r.1),vint r.2]) Tryz.func16 Z Z Z Z fun X hN => ?_⟩
 unfold z33 at H
 refine zb hN Z (zi (qr 1 Z) Z (zi (qr 2 Z) Z (zi (qz 3 ww Z) Z (qe Z (zg (zb hN Z (zo (yk wi Z Z Z) Z (bE H fun r4 h5 H=>za (zm (y41 v2 r4 h5) ⟨.inl Z,U⟩) (qe Z (zb hN Z (qd Z (za (qk Z Z) (zh _ Z (fun h6 => ?_) (fun h6 => ?_))))))))))))))
 ·refine tE h6 H fun H=>zb hN Z (za (ja (u':=vagg (yy (zy.mk (ya.mk 0 [] [] [] [] [] [] []) (zx.mk 0 [] []) 0 [] 0))) (jd (by exact ⟨zr,zr,zr,zr,zr,zr,qf,zr,zr,qf,zr,zr,qf,zr,U⟩)) (qy [] ww kg Z U)) ?_)
  refine qd Z (zi (yu yo Z Z Z Z) Z (qe Z (zk ?_)))
  cases H
  exact ⟨U,.inl ⟨_,_,_,yy (zy.mk (ya.mk 0 [] [] [] [] [] [] []) (zx.mk 0 [] []) 0 [] 0),Z,Z,Z,Z,yo⟩,.inl Z,U⟩
 ·refine fE h6 H fun H=>zl (zg (yg (zb hN Z (qd Z (bE H fun r7 h8 H=>za (zm (z7q v3 r7 h8) ⟨.inl Z,U⟩) (za (yp Z) (qe Z (zh _ Z (fun h9 => ?_) (fun h9 => ?_)))))))))
  ·refine tE h9 H fun H=>zb hN Z (za (ja (u':=vagg (yy (zy.mk (ya.mk 0 [] [] [] [] [] [] []) (zx.mk 0 [] []) 0 [] 0))) (jd (by exact ⟨zr,zr,zr,zr,zr,zr,qf,zr,zr,qf,zr,zr,qf,zr,U⟩)) (qy [] ww kg Z U)) ?_)
   refine zi (yu yo Z Z Z Z) Z (qe Z (zk ?_))
   cases H
   exact ⟨U,.inl ⟨_,_,_,yy (zy.mk (ya.mk 0 [] [] [] [] [] [] []) (zx.mk 0 [] []) 0 [] 0),Z,Z,Z,Z,yo⟩,.inl Z,U⟩
  ·refine fE h9 H fun H=>zb hN Z (qd Z (za (zp ub Z) (zo (zz tyS3 Z Z) Z (za (ye Z Z) (qe Z (zh _ Z (fun h10 => ?_) (fun h10 => ?_)))))))
   ·refine tE h10 H fun H=>zb hN Z (za (ja (u':=vagg (yy (zy.mk (ya.mk 0 [] [] [] [] [] [] []) (zx.mk 0 [] []) 0 [] 0))) (jd (by exact ⟨zr,zr,zr,zr,zr,zr,qf,zr,zr,qf,zr,zr,qf,zr,U⟩)) (qy [] ww kg Z U)) ?_)
    refine zi (yu yo Z Z Z Z) Z (qe Z (zk ?_))
    cases H
    exact ⟨U,.inl ⟨_,_,_,yy (zy.mk (ya.mk 0 [] [] [] [] [] [] []) (zx.mk 0 [] []) 0 [] 0),Z,Z,Z,Z,yo⟩,.inl Z,U⟩
   ·refine fE h10 H fun H=>zl (zb hN Z (zo (yk yo Z Z Z) Z (zi (qz 4 ww Z) Z (zi (yu yo Z Z Z Z) Z (zb hN Z (qd Z (qd Z (za (zp ub Z) (zi (wz tyS3 Z Z Z Z) Z (za (zp xy Z) (zi (wz tyS3 Z Z Z Z) Z (yf (ι:=Int×(List zd)×Bs×(List Bs)) (fun i=>[(6,.ptr 3 0),(9,.ptr 4 0)]) (fun i=>[(3,.box none 33 [.dat (vint 0),.dat (vstr []),.dat (vstr []),.dat (vstr []),.dat (vstr []),.dat (vstr []),.dat (vnil),.dat (vstr []),.dat (vint 0),.dat (vnil),.dat (vstr []),.dat (vint 0),.dat (vnil),.dat (vint 0)]),(4,.box none 33 [.dat (vint v1.Request.At),.dat (vstr v1.Request.Method),.dat (vstr v1.Request.Host),.dat (vstr v1.Request.Path),.dat (vstr v1.Request.Query),.dat (vstr v1.Request.From),.dat (vlst (List.map zq v1.Request.Headers)),.dat (vstr v1.Request.Body),.dat (vint i.1),.dat (vlst (List.map zq i.2.1)),.dat (vstr i.2.2.1),.dat (vint v3),.dat (vlst (List.map zt i.2.2.2)),.dat (vint v3)])]) (fun i=>Zy v1 v3 i.1 i.2.1 i.2.2.1 i.2.2.2=some r) (fun i=>Z) ?_ ?_))))))))))))
    ·skip
     refine zb hN Z (za (zp xz Z) (zo (zz tyS3 Z Z) Z (za (yt Z Z) (zh _ Z (fun h11 => ?_) (fun h11 => ?_)))))
     ·refine tE h11 H fun H=>zb hN Z (za (zp vy Z) (za (zp wx Z) (zo (zz qg Z Z) Z (bE H fun r12 h13 H=>za (zm (z98 v1.Response.Headers r12 h13) ⟨.inl Z,U⟩) (za (zp vy Z) (za (zp wx Z) (zi (wz qg Z Z Z Z) Z (zb hN Z (za (zp wx Z) (zo (zz qg Z Z) Z (za (yz vm Z) (qd Z (yg (gE H fun h17 H=>qw (fun (k15:Nat) (s:(List zd))=>[(6,.ptr 3 0),(9,.ptr 4 0),(47,.dat (vlst (List.map zq v2.Headers))),(48,.dat (vint (v2.Headers.length:Int))),(49,.dat (vint (k15:Int)))]) (fun (k15:Nat) (s:(List zd))=>[(3,.box none 33 [.dat (vint 0),.dat (vstr []),.dat (vstr []),.dat (vstr []),.dat (vstr []),.dat (vstr []),.dat (vnil),.dat (vstr []),.dat (vint 0),.dat (vnil),.dat (vstr []),.dat (vint 0),.dat (vnil),.dat (vint 0)]),(4,.box none 33 [.dat (vint v1.Request.At),.dat (vstr v1.Request.Method),.dat (vstr v1.Request.Host),.dat (vstr v1.Request.Path),.dat (vstr v1.Request.Query),.dat (vstr v1.Request.From),.dat (vlst (List.map zq v1.Request.Headers)),.dat (vstr v1.Request.Body),.dat (vint v1.Response.Status),.dat (vlst (List.map zq s)),.dat (vstr v1.Response.Body),.dat (vint v3),.dat (vlst (List.map zt v1.Tags)),.dat (vint v3)])]) r12 H ⟨Z,Z,Z,Z,Z,U⟩ ⟨Z,Z,U⟩ (fun _ _=>Z) ?_ ?_))))))))))))))
      ·rintro c14 H
       replace H:z79 v1 v3 c14=some r:=H
       unfold z79 at H
       refine zb hN Z (za (ye Z Z) (zg (zh _ Z (fun h=>(lt_t h).elim) (fun h => ?_))))
       exact qc ⟨(v1.Response.Status,c14,v1.Response.Body,v1.Tags),H,⟨Z,Z,U⟩,⟨Z,Z,U⟩⟩
      ·rintro k15 x18 c14 q16 h19 h20 H hq16
       replace H:Wc k15 x18 c14=some q16:=H
       unfold Wc at H
       refine zb hN Z (za (ye Z Z) (zg (zh _ Z (fun h => ?_) (fun h=>(lt_f h19 h).elim))))
       refine zl (yf (ι:=(List zd)) (fun i=>[(6,.ptr 3 0),(9,.ptr 4 0),(47,.dat (vlst (List.map zq v2.Headers))),(48,.dat (vint (v2.Headers.length:Int))),(49,.dat (vint (k15:Int)))]) (fun i=>[(3,.box none 33 [.dat (vint 0),.dat (vstr []),.dat (vstr []),.dat (vstr []),.dat (vstr []),.dat (vstr []),.dat (vnil),.dat (vstr []),.dat (vint 0),.dat (vnil),.dat (vstr []),.dat (vint 0),.dat (vnil),.dat (vint 0)]),(4,.box none 33 [.dat (vint v1.Request.At),.dat (vstr v1.Request.Method),.dat (vstr v1.Request.Host),.dat (vstr v1.Request.Path),.dat (vstr v1.Request.Query),.dat (vstr v1.Request.From),.dat (vlst (List.map zq v1.Request.Headers)),.dat (vstr v1.Request.Body),.dat (vint v1.Response.Status),.dat (vlst (List.map zq i)),.dat (vstr v1.Response.Body),.dat (vint v3),.dat (vlst (List.map zt v1.Tags)),.dat (vint v3)])]) (fun i=>z2g i=some q16) (fun i=>Z) ?_ ?_)
       ·skip
        refine yg (zb hN Z (za (wd je (fun _=>Z) Z Z h20) (za (uj wq Z (qa h20) Z) (zi (qz 5 vk Z) Z (zi (yu wq Z Z Z Z) Z (zg (zb hN Z (za (zp kq Z) (zo (zz tyS9 Z Z) Z (bE H fun r21 h22 H=>za (zm (z7p x18.Name [99,111,110,116,101,110,116,45,108,101,110,103,116,104] r21 h22) ⟨.inl Z,.inl Z,U⟩) (zh _ Z (fun h23 => ?_) (fun h23 => ?_))))))))))))
        ·exact tE h23 H fun H=>qc ⟨c14,H,⟨Z,Z,Z,Z,Z,U⟩,⟨Z,Z,U⟩⟩
        ·refine fE h23 H fun H=>zl (zb hN Z (za (zp vy Z) (za (zp wx Z) (zo (zz qg Z Z) Z (za (zp kq Z) (zo (zz tyS9 Z Z) Z (za (zp z0n Z) (zo (zz tyS9 Z Z) Z (bE H fun r24 h25 H=>za (zm (x2v c14 x18.Name x18.Value r24 h25) ⟨.inl Z,.inl Z,.inl Z,U⟩) (za (zp vy Z) (za (zp wx Z) (zi (wz qg Z Z Z Z) Z (zb hN Z (za (zp vy Z) (za (zp wx Z) (zo (zz qg Z Z) Z (za (yz vm Z) (za (qv Z Z) (zh _ Z (fun h26 => ?_) (fun h26 => ?_))))))))))))))))))))
         ·refine tE h26 H fun H=>zb hN Z (za (ja (u':=vagg (yy (zy.mk (ya.mk 0 [] [] [] [] [] [] []) (zx.mk 0 [] []) 0 [] 0))) (jd (by exact ⟨zr,zr,zr,zr,zr,zr,qf,zr,zr,qf,zr,zr,qf,zr,U⟩)) (qy [] ww kg Z U)) ?_)
          refine zi (yu yo Z Z Z Z) Z (qe Z (zk ?_))
          replace H:=retl H hq16
          cases H
          exact ⟨U,.inl ⟨_,_,_,yy (zy.mk (ya.mk 0 [] [] [] [] [] [] []) (zx.mk 0 [] []) 0 [] 0),Z,Z,Z,Z,yo⟩,.inl Z,U⟩
         ·exact fE h26 H fun H=>zl ⟨r24,H,⟨Z,Z,Z,Z,Z,U⟩,⟨Z,Z,U⟩⟩
       ·rintro c27 H
        replace H:z2g c27=some q16:=H
        unfold z2g at H
        exact zu hN Z (za (qs Z Z (by omega)) (qd Z ⟨_,qj H,⟨Z,Z,Z,Z,Z,U⟩,⟨Z,Z,U⟩⟩))
     ·refine fE h11 H fun H=>zb hN Z (zo (yk wi Z Z Z) Z (bE H fun r28 h29 H=>za (zm (x2t v2 r28 h29) ⟨.inl Z,U⟩) (qd Z (za (ym Z Z) (za (ym Z Z) (qe Z (qe Z (zg (zb hN Z (qd Z (za (qk Z Z) (zh _ Z (fun h30 => ?_) (fun h30 => ?_)))))))))))))
      ·refine tE h30 H fun H=>zb hN Z (za (ja (u':=vagg (yy (zy.mk (ya.mk 0 [] [] [] [] [] [] []) (zx.mk 0 [] []) 0 [] 0))) (jd (by exact ⟨zr,zr,zr,zr,zr,zr,qf,zr,zr,qf,zr,zr,qf,zr,U⟩)) (qy [] ww kg Z U)) ?_)
       refine qd Z (zi (yu yo Z Z Z Z) Z (qe Z (zk ?_)))
       cases H
       exact ⟨U,.inl ⟨_,_,_,yy (zy.mk (ya.mk 0 [] [] [] [] [] [] []) (zx.mk 0 [] []) 0 [] 0),Z,Z,Z,Z,yo⟩,.inl Z,U⟩
      ·exact fE h30 H fun H=>zl (zu hN Z (zo (yk wi Z Z Z) Z (qd Z (za (zp vy Z) (zi (z6e wi Z Z Z Z) Z (za (zp kh Z) (zi (wz jn Z Z Z Z) Z ⟨(v2.Status,v2.Headers,v2.Body,r28.1),H,⟨Z,Z,U⟩,⟨Z,Z,U⟩⟩)))))))
    ·rintro ⟨c31,c32,c33,c34⟩ H
     replace H:Zy v1 v3 c31 c32 c33 c34=some r:=H
     unfold Zy at H
     refine zg (zb hN Z (zo (yk yo Z Z Z) Z (bE H fun r35 h36 H=>za (zm (y0i (zy.mk v1.Request (zx.mk c31 c32 c33) v3 c34 v3) r35 h36) ⟨.inl Z,U⟩) (qe Z (zb hN Z (qd Z (za (qk Z Z) (zh _ Z (fun h37 => ?_) (fun h37 => ?_)))))))))
     ·refine tE h37 H fun H=>zb hN Z (za (ja (u':=vagg (yy (zy.mk (ya.mk 0 [] [] [] [] [] [] []) (zx.mk 0 [] []) 0 [] 0))) (jd (by exact ⟨zr,zr,zr,zr,zr,zr,qf,zr,zr,qf,zr,zr,qf,zr,U⟩)) (qy [] ww kg Z U)) ?_)
      refine qd Z (zi (yu yo Z Z Z Z) Z (qe Z (zk ?_)))
      cases H
      exact ⟨U,.inl ⟨_,_,_,yy (zy.mk (ya.mk 0 [] [] [] [] [] [] []) (zx.mk 0 [] []) 0 [] 0),Z,Z,Z,Z,yo⟩,.inl Z,U⟩
     ·refine fE h37 H fun H=>zl (zb hN Z (zo (yk yo Z Z Z) Z (zi (yu yo Z Z Z Z) Z (qe Z (zk ?_)))))
      cases H
      exact ⟨U,.inl ⟨_,_,_,yy (zy.mk v1.Request (zx.mk c31 c32 c33) v3 c34 v3),Z,Z,Z,Z,yo⟩,.inl Z,U⟩
theorem y4r (s1:(List zd)) (s2:(List zd)) (r:(Bool)) (H:z3n s1 s2=some r):Fn Tryz.prog 55 [vlst (List.map zq s1),vlst (List.map zq s2)] (zw [zj r]):=by
 refine ⟨by kernel_rfl,yh (us:=[zj r]) Tryz.func55 Z Z Z Z fun X hN => ?_⟩
 unfold z3n at H
 refine zb hN Z (qe Z (zg (zb hN Z (qd Z (za (yz vm Z) (qd Z (za (yz vm Z) (za (qk Z Z) (zh _ Z (fun h3 => ?_) (fun h3 => ?_))))))))))
 ·refine tE h3 H fun H=>zb hN Z (qe Z (zk ?_))
  cases H
  exact ⟨U,.inl Z,U⟩
 ·refine fE h3 H fun H=>zl (zg (zb hN Z (qd Z (za (yz vm Z) (qd Z (yg (gE H fun h6 H=>qw (fun (k4:Nat) (s:Unit)=>[(0,.dat (vlst (List.map zq s1))),(1,.dat (vlst (List.map zq s2))),(12,.dat (vint (s1.length:Int))),(13,.dat (vint (k4:Int)))]) (fun (k4:Nat) (s:Unit)=>[]) () H ⟨Z,Z,Z,Z,U⟩ U (fun _ _=>Z) ?_ ?_)))))))
  ·rintro ⟨⟩ H
   replace H:z9b=some r:=H
   unfold z9b at H
   refine zb hN Z (za (ye Z Z) (zg (zh _ Z (fun h=>(lt_t h).elim) (fun h => ?_))))
   refine qc (zb hN Z (qe Z (zk ?_)))
   cases H
   exact ⟨U,.inl Z,U⟩
  ·rintro k4 x7 ⟨⟩ q5 h8 h9 H hq5
   replace H:z9a s2 k4 x7=some q5:=H
   unfold z9a at H
   refine zb hN Z (za (ye Z Z) (zg (zh _ Z (fun h => ?_) (fun h=>(lt_f h8 h).elim))))
   refine zl (zg (yg (zb hN Z (qd Z (qe Z (zg (vr mixed hN Z Z (qd Z (qd Z (za (wd je (fun _=>Z) Z Z h9) (za (uj wq Z (qa h9) Z) (qd Z (qd Z (bE H fun x10 h11 H=>za (wd je (fun _=>Z) Z Z h11) (za (uj wq Z (qa h11) Z) (za (y89 [_,_] [_,_] y7h Z Z Z) ⟨Z,?_⟩))))))))))))))))
   refine zh _ Z (fun h12 => ?_) (fun h12 => ?_)
   ·refine tE h12 H fun H=>zb hN Z (qe Z (zk ?_))
    replace H:=retl H hq5
    cases H
    exact ⟨U,.inl Z,U⟩
   ·exact fE h12 H fun H=>zl (zu hN Z (za (qs Z Z (by omega)) (qd Z ⟨_,qj H,⟨Z,Z,Z,Z,U⟩,U⟩)))
theorem y40 (a1:ya) (b2:ya) (r:(Bool)) (H:z1e a1 b2=some r):Fn Tryz.prog 17 [vagg (wl a1),vagg (wl b2)] (zw [zj r]):=by
 refine ⟨by kernel_rfl,yh (us:=[zj r]) Tryz.func17 Z Z Z Z fun X hN => ?_⟩
 unfold z1e at H
 refine zb hN Z (zi (qr 1 Z) Z (zi (qr 2 Z) Z (qe Z (yf (ι:=Bool) (fun i=>[(4,.dat (zj i))]) (fun i=>[]) (fun i=>ua i=some r) (fun i=>Z) ?_ ?_))))
 ·skip
  refine zu hN Z (za (zp z55 Z) (zo (zz tyS3 Z Z) Z (za (zp z55 Z) (zo (zz tyS3 Z Z) Z (za (yt Z Z) (qd Z (yi (j:=5) Z Z (fun h3 => ?_) (fun h3 => ?_) Z)))))))
  ·refine u1 h3 H fun h4 H=>ze Z Z h3 (zp z54 Z) (ql Z Z h3 (zz tyS9 Z Z) Z (ze Z Z h3 (zp z54 Z) (ql Z Z h3 (zz tyS9 Z Z) Z (ze Z Z h3 (vo Z Z) (za (yc Z (bTT h4) Z) (qd Z (yi (j:=12) Z Z (fun h5 => ?_) (fun h5 => ?_) Z)))))))
   ·refine u1 h5 H fun h6 H=>ze Z Z h5 (zp z26 Z) (ql Z Z h5 (zz tyS9 Z Z) Z (ze Z Z h5 (zp z26 Z) (ql Z Z h5 (zz tyS9 Z Z) Z (ze Z Z h5 (vo Z Z) (za (yc Z (bTT h6) Z) (qd Z (yi (j:=19) Z Z (fun h7 => ?_) (fun h7 => ?_) Z)))))))
    ·refine u1 h7 H fun h8 H=>ze Z Z h7 (zp z25 Z) (ql Z Z h7 (zz tyS9 Z Z) Z (ze Z Z h7 (zp z25 Z) (ql Z Z h7 (zz tyS9 Z Z) Z (ze Z Z h7 (vo Z Z) (za (yc Z (bTT h8) Z) (qd Z (yi (j:=26) Z Z (fun h9 => ?_) (fun h9 => ?_) Z)))))))
     ·refine u1 h9 H fun h10 H=>ze Z Z h9 (zp z24 Z) (ql Z Z h9 (zz tyS9 Z Z) Z (ze Z Z h9 (zp z24 Z) (ql Z Z h9 (zz tyS9 Z Z) Z (ze Z Z h9 (vo Z Z) (za (yc Z (bTT h10) Z) (qd Z (yi (j:=33) Z Z (fun h11 => ?_) (fun h11 => ?_) Z)))))))
      ·refine u1 h11 H fun h12 H=>ze Z Z h11 (zp z52 Z) (ql Z Z h11 (zz tyS9 Z Z) Z (ze Z Z h11 (zp z52 Z) (ql Z Z h11 (zz tyS9 Z Z) Z (ze Z Z h11 (vo Z Z) (za (yc Z (bTT h12) Z) (qd Z (yi (j:=40) Z Z (fun h13 => ?_) (fun h13 => ?_) Z)))))))
       ·refine u1 h13 H fun h14 H=>ze Z Z h13 (zp z50 Z) (ql Z Z h13 (zz tyS9 Z Z) Z (ze Z Z h13 (zp z50 Z) (ql Z Z h13 (zz tyS9 Z Z) Z (ze Z Z h13 (vo Z Z) (za (yc Z (bTT h14) Z) (qd Z (yi (j:=47) Z Z (fun h15 => ?_) (fun h15 => ?_) Z)))))))
        ·exact u1 h15 H fun h16 H=>ze Z Z h15 (zp vn Z) (ql Z Z h15 (zz qg Z Z) Z (ze Z Z h15 (zp vn Z) (ql Z Z h15 (zz qg Z Z) Z (bE H fun r17 h18 H=>ze Z Z h15 (zm (y4r a1.Headers b2.Headers r17 h18) ⟨.inl Z,.inl Z,U⟩) (za (yc Z (bTT h16) Z) (qe Z ⟨r17,H,⟨Z,U⟩,U⟩))))))
        ·exact u2 h15 H fun h19 H=>zc Z Z h15 (zc Z Z h15 (zc Z Z h15 (zc Z Z h15 (zc Z Z h15 (za (zv Z (bFF h19) Z) (qe Z ⟨false,H,⟨Z,U⟩,U⟩))))))
       ·exact u2 h13 H fun h20 H=>zc Z Z h13 (zc Z Z h13 (zc Z Z h13 (zc Z Z h13 (zc Z Z h13 (za (zv Z (bFF h20) Z) (qd Z (zc Z Z Z (zc Z Z Z (zc Z Z Z (zc Z Z Z (zc Z Z Z (za (zv Z Z Z) (qe Z ⟨false,H,⟨Z,U⟩,U⟩)))))))))))))
      ·exact u2 h11 H fun h21 H=>zc Z Z h11 (zc Z Z h11 (zc Z Z h11 (zc Z Z h11 (zc Z Z h11 (za (zv Z (bFF h21) Z) (qd Z (zc Z Z Z (zc Z Z Z (zc Z Z Z (zc Z Z Z (zc Z Z Z (za (zv Z Z Z) (qd Z (zc Z Z Z (zc Z Z Z (zc Z Z Z (zc Z Z Z (zc Z Z Z (za (zv Z Z Z) (qe Z ⟨false,H,⟨Z,U⟩,U⟩))))))))))))))))))))
     ·refine u2 h9 H fun h22 H=>zc Z Z h9 (zc Z Z h9 (zc Z Z h9 (zc Z Z h9 (zc Z Z h9 (za (zv Z (bFF h22) Z) (qd Z (zc Z Z Z (zc Z Z Z (zc Z Z Z (zc Z Z Z (zc Z Z Z (za (zv Z Z Z) (qd Z (zc Z Z Z (zc Z Z Z (zc Z Z Z (zc Z Z Z (zc Z Z Z (za (zv Z Z Z) (qd Z (zc Z Z Z (zc Z Z Z ?_))))))))))))))))))))))
      exact zc Z Z Z (zc Z Z Z (zc Z Z Z (za (zv Z Z Z) (qe Z ⟨false,H,⟨Z,U⟩,U⟩))))
    ·refine u2 h7 H fun h23 H=>zc Z Z h7 (zc Z Z h7 (zc Z Z h7 (zc Z Z h7 (zc Z Z h7 (za (zv Z (bFF h23) Z) (qd Z (zc Z Z Z (zc Z Z Z (zc Z Z Z (zc Z Z Z (zc Z Z Z (za (zv Z Z Z) (qd Z (zc Z Z Z (zc Z Z Z (zc Z Z Z (zc Z Z Z (zc Z Z Z (za (zv Z Z Z) (qd Z (zc Z Z Z (zc Z Z Z ?_))))))))))))))))))))))
     exact zc Z Z Z (zc Z Z Z (zc Z Z Z (za (zv Z Z Z) (qd Z (zc Z Z Z (zc Z Z Z (zc Z Z Z (zc Z Z Z (zc Z Z Z (za (zv Z Z Z) (qe Z ⟨false,H,⟨Z,U⟩,U⟩)))))))))))
   ·refine u2 h5 H fun h24 H=>zc Z Z h5 (zc Z Z h5 (zc Z Z h5 (zc Z Z h5 (zc Z Z h5 (za (zv Z (bFF h24) Z) (qd Z (zc Z Z Z (zc Z Z Z (zc Z Z Z (zc Z Z Z (zc Z Z Z (za (zv Z Z Z) (qd Z (zc Z Z Z (zc Z Z Z (zc Z Z Z (zc Z Z Z (zc Z Z Z (za (zv Z Z Z) (qd Z (zc Z Z Z (zc Z Z Z ?_))))))))))))))))))))))
    exact zc Z Z Z (zc Z Z Z (zc Z Z Z (za (zv Z Z Z) (qd Z (zc Z Z Z (zc Z Z Z (zc Z Z Z (zc Z Z Z (zc Z Z Z (za (zv Z Z Z) (qd Z (zc Z Z Z (zc Z Z Z (zc Z Z Z (zc Z Z Z (zc Z Z Z (za (zv Z Z Z) (qe Z ⟨false,H,⟨Z,U⟩,U⟩))))))))))))))))))
  ·refine u2 h3 H fun h25 H=>zc Z Z h3 (zc Z Z h3 (zc Z Z h3 (zc Z Z h3 (zc Z Z h3 (za (zv Z (bFF h25) Z) (qd Z (zc Z Z Z (zc Z Z Z (zc Z Z Z (zc Z Z Z (zc Z Z Z (za (zv Z Z Z) (qd Z (zc Z Z Z (zc Z Z Z (zc Z Z Z (zc Z Z Z (zc Z Z Z (za (zv Z Z Z) (qd Z (zc Z Z Z (zc Z Z Z ?_))))))))))))))))))))))
   refine zc Z Z Z (zc Z Z Z (zc Z Z Z (za (zv Z Z Z) (qd Z (zc Z Z Z (zc Z Z Z (zc Z Z Z (zc Z Z Z (zc Z Z Z (za (zv Z Z Z) (qd Z (zc Z Z Z (zc Z Z Z (zc Z Z Z (zc Z Z Z (zc Z Z Z (za (zv Z Z Z) (qd Z (zc Z Z Z (zc Z Z Z (zc Z Z Z (zc Z Z Z (zc Z Z Z ?_)))))))))))))))))))))))
   exact za (zv Z Z Z) (qe Z ⟨false,H,⟨Z,U⟩,U⟩)
 ·rintro v26 H
  replace H:ua v26=some r:=H
  unfold ua at H
  refine zk ?_
  cases H
  exact ⟨U,.inl Z,U⟩
theorem x2w (a1:zx) (b2:zx) (r:(Bool)) (H:z7d a1 b2=some r):Fn Tryz.prog 56 [vagg (vt a1),vagg (vt b2)] (zw [zj r]):=by
 refine ⟨by kernel_rfl,yh (us:=[zj r]) Tryz.func56 Z Z Z Z fun X hN => ?_⟩
 unfold z7d at H
 refine zb hN Z (zi (qr 1 Z) Z (zi (qr 2 Z) Z (qe Z (yf (ι:=Bool) (fun i=>[(4,.dat (zj i))]) (fun i=>[]) (fun i=>Qy i=some r) (fun i=>Z) ?_ ?_))))
 ·skip
  refine zu hN Z (za (zp xz Z) (zo (zz tyS3 Z Z) Z (za (zp xz Z) (zo (zz tyS3 Z Z) Z (za (yt Z Z) (qd Z (yi (j:=5) Z Z (fun h3 => ?_) (fun h3 => ?_) Z)))))))
  ·refine u1 h3 H fun h4 H=>ze Z Z h3 (zp z5z Z) (ql Z Z h3 (zz tyS9 Z Z) Z (ze Z Z h3 (zp z5z Z) (ql Z Z h3 (zz tyS9 Z Z) Z (ze Z Z h3 (vo Z Z) (za (yc Z (bTT h4) Z) (qd Z (yi (j:=12) Z Z (fun h5 => ?_) (fun h5 => ?_) Z)))))))
   ·exact u1 h5 H fun h6 H=>ze Z Z h5 (zp wx Z) (ql Z Z h5 (zz qg Z Z) Z (ze Z Z h5 (zp wx Z) (ql Z Z h5 (zz qg Z Z) Z (bE H fun r7 h8 H=>ze Z Z h5 (zm (y4r a1.Headers b2.Headers r7 h8) ⟨.inl Z,.inl Z,U⟩) (za (yc Z (bTT h6) Z) (qe Z ⟨r7,H,⟨Z,U⟩,U⟩))))))
   ·exact u2 h5 H fun h9 H=>zc Z Z h5 (zc Z Z h5 (zc Z Z h5 (zc Z Z h5 (zc Z Z h5 (za (zv Z (bFF h9) Z) (qe Z ⟨false,H,⟨Z,U⟩,U⟩))))))
  ·exact u2 h3 H fun h10 H=>zc Z Z h3 (zc Z Z h3 (zc Z Z h3 (zc Z Z h3 (zc Z Z h3 (za (zv Z (bFF h10) Z) (qd Z (zc Z Z Z (zc Z Z Z (zc Z Z Z (zc Z Z Z (zc Z Z Z (za (zv Z Z Z) (qe Z ⟨false,H,⟨Z,U⟩,U⟩)))))))))))))
 ·rintro v11 H
  replace H:Qy v11=some r:=H
  unfold Qy at H
  refine zk ?_
  cases H
  exact ⟨U,.inl Z,U⟩
theorem x1w (s1:(List Bs)) (s2:(List Bs)) (r:(Bool)) (H:z3m s1 s2=some r):Fn Tryz.prog 57 [vlst (List.map zt s1),vlst (List.map zt s2)] (zw [zj r]):=by
 refine ⟨by kernel_rfl,yh (us:=[zj r]) Tryz.func57 Z Z Z Z fun X hN => ?_⟩
 unfold z3m at H
 refine zb hN Z (qe Z (zg (zb hN Z (qd Z (za (yz we Z) (qd Z (za (yz we Z) (za (qk Z Z) (zh _ Z (fun h3 => ?_) (fun h3 => ?_))))))))))
 ·refine tE h3 H fun H=>zb hN Z (qe Z (zk ?_))
  cases H
  exact ⟨U,.inl Z,U⟩
 ·refine fE h3 H fun H=>zl (zg (zb hN Z (qd Z (za (yz we Z) (qd Z (yg (gE H fun h6 H=>qw (fun (k4:Nat) (s:Unit)=>[(0,.dat (vlst (List.map zt s1))),(1,.dat (vlst (List.map zt s2))),(12,.dat (vint (s1.length:Int))),(13,.dat (vint (k4:Int)))]) (fun (k4:Nat) (s:Unit)=>[]) () H ⟨Z,Z,Z,Z,U⟩ U (fun _ _=>Z) ?_ ?_)))))))
  ·rintro ⟨⟩ H
   replace H:z89=some r:=H
   unfold z89 at H
   refine zb hN Z (za (ye Z Z) (zg (zh _ Z (fun h=>(lt_t h).elim) (fun h => ?_))))
   refine qc (zb hN Z (qe Z (zk ?_)))
   cases H
   exact ⟨U,.inl Z,U⟩
  ·rintro k4 x7 ⟨⟩ q5 h8 h9 H hq5
   replace H:z6l s2 k4 x7=some q5:=H
   unfold z6l at H
   refine zb hN Z (za (ye Z Z) (zg (zh _ Z (fun h => ?_) (fun h=>(lt_f h8 h).elim))))
   refine zl (zg (yg (zb hN Z (qd Z (qe Z (zg (vr mixed hN Z Z (qd Z (qd Z (za (wd wy (fun _=>Z) Z Z h9) (za (qo tyS9 Z (qa h9) Z) (qd Z (qd Z (bE H fun x10 h11 H=>za (wd wy (fun _=>Z) Z Z h11) (za (qo tyS9 Z (qa h11) Z) (za (ux Z Z) ⟨Z,?_⟩))))))))))))))))
   refine zh _ Z (fun h12 => ?_) (fun h12 => ?_)
   ·refine tE h12 H fun H=>zb hN Z (qe Z (zk ?_))
    replace H:=retl H hq5
    cases H
    exact ⟨U,.inl Z,U⟩
   ·exact fE h12 H fun H=>zl (zu hN Z (za (qs Z Z (by omega)) (qd Z ⟨_,qj H,⟨Z,Z,Z,Z,U⟩,U⟩)))
theorem x2x (a1:zy) (b2:zy) (r:(Bool)) (H:z3z a1 b2=some r):Fn Tryz.prog 18 [vagg (yy a1),vagg (yy b2)] (zw [zj r]):=by
 refine ⟨by kernel_rfl,yh (us:=[zj r]) Tryz.func18 Z Z Z Z fun X hN => ?_⟩
 unfold z3z at H
 refine zb hN Z (zi (qr 1 Z) Z (zi (qr 2 Z) Z (qe Z (yf (ι:=Bool) (fun i=>[(4,.dat (zj i))]) (fun i=>[]) (fun i=>xp i=some r) (fun i=>Z) ?_ ?_))))
 ·skip
  refine zu hN Z (za (zp Yd Z) (zo (yk qp Z Z Z) Z (za (zp Yd Z) (zo (yk qp Z Z Z) Z (bE H fun r3 h4 H=>za (zm (y40 a1.Request b2.Request r3 h4) ⟨.inl Z,.inl Z,U⟩) (qd Z (yi (j:=5) Z Z (fun h5 => ?_) (fun h5 => ?_) Z)))))))
  ·refine u1 h5 H fun h6 H=>ze Z Z h5 (zp vy Z) (ql Z Z h5 (yk wi Z Z Z) Z (ze Z Z h5 (zp vy Z) (ql Z Z h5 (yk wi Z Z Z) Z (bE H fun r7 h8 H=>ze Z Z h5 (zm (x2w a1.Response b2.Response r7 h8) ⟨.inl Z,.inl Z,U⟩) (za (yc Z (bTT h6) Z) (qd Z (yi (j:=12) Z Z (fun h9 => ?_) (fun h9 => ?_) Z)))))))
   ·refine u1 h9 H fun h10 H=>ze Z Z h9 (zp ub Z) (ql Z Z h9 (zz tyS3 Z Z) Z (ze Z Z h9 (zp ub Z) (ql Z Z h9 (zz tyS3 Z Z) Z (ze Z Z h9 (yt Z Z) (za (yc Z (bTT h10) Z) (qd Z (yi (j:=19) Z Z (fun h11 => ?_) (fun h11 => ?_) Z)))))))
    ·refine u1 h11 H fun h12 H=>ze Z Z h11 (zp xy Z) (ql Z Z h11 (zz tyS3 Z Z) Z (ze Z Z h11 (zp xy Z) (ql Z Z h11 (zz tyS3 Z Z) Z (ze Z Z h11 (yt Z Z) (za (yc Z (bTT h12) Z) (qd Z (yi (j:=26) Z Z (fun h13 => ?_) (fun h13 => ?_) Z)))))))
     ·exact u1 h13 H fun h14 H=>ze Z Z h13 (zp kh Z) (ql Z Z h13 (zz jn Z Z) Z (ze Z Z h13 (zp kh Z) (ql Z Z h13 (zz jn Z Z) Z (bE H fun r15 h16 H=>ze Z Z h13 (zm (x1w a1.Tags b2.Tags r15 h16) ⟨.inl Z,.inl Z,U⟩) (za (yc Z (bTT h14) Z) (qe Z ⟨r15,H,⟨Z,U⟩,U⟩))))))
     ·exact u2 h13 H fun h17 H=>zc Z Z h13 (zc Z Z h13 (zc Z Z h13 (zc Z Z h13 (zc Z Z h13 (za (zv Z (bFF h17) Z) (qe Z ⟨false,H,⟨Z,U⟩,U⟩))))))
    ·exact u2 h11 H fun h18 H=>zc Z Z h11 (zc Z Z h11 (zc Z Z h11 (zc Z Z h11 (zc Z Z h11 (za (zv Z (bFF h18) Z) (qd Z (zc Z Z Z (zc Z Z Z (zc Z Z Z (zc Z Z Z (zc Z Z Z (za (zv Z Z Z) (qe Z ⟨false,H,⟨Z,U⟩,U⟩)))))))))))))
   ·exact u2 h9 H fun h19 H=>zc Z Z h9 (zc Z Z h9 (zc Z Z h9 (zc Z Z h9 (zc Z Z h9 (za (zv Z (bFF h19) Z) (qd Z (zc Z Z Z (zc Z Z Z (zc Z Z Z (zc Z Z Z (zc Z Z Z (za (zv Z Z Z) (qd Z (zc Z Z Z (zc Z Z Z (zc Z Z Z (zc Z Z Z (zc Z Z Z (za (zv Z Z Z) (qe Z ⟨false,H,⟨Z,U⟩,U⟩))))))))))))))))))))
  ·refine u2 h5 H fun h20 H=>zc Z Z h5 (zc Z Z h5 (zc Z Z h5 (zc Z Z h5 (zc Z Z h5 (za (zv Z (bFF h20) Z) (qd Z (zc Z Z Z (zc Z Z Z (zc Z Z Z (zc Z Z Z (zc Z Z Z (za (zv Z Z Z) (qd Z (zc Z Z Z (zc Z Z Z (zc Z Z Z (zc Z Z Z (zc Z Z Z (za (zv Z Z Z) (qd Z (zc Z Z Z (zc Z Z Z ?_))))))))))))))))))))))
   exact zc Z Z Z (zc Z Z Z (zc Z Z Z (za (zv Z Z Z) (qe Z ⟨false,H,⟨Z,U⟩,U⟩))))
 ·rintro v21 H
  replace H:xp v21=some r:=H
  unfold xp at H
  refine zk ?_
  cases H
  exact ⟨U,.inl Z,U⟩
theorem y49 (qb:Nat) (r:((List Bs)×(List Int))) (H:z4f  = some r):Fn Tryz.prog 147 [vval (.pointer (some ⟨qb,0,none⟩))] (zw [vlst (List.map zt r.1),vlst (List.map (CP qb) r.2)]):=by
 refine ⟨by kernel_rfl,yh (us:=[vlst (List.map zt r.1),vlst (List.map (CP qb) r.2)]) Tryz.func147 Z Z Z Z fun X hN => ?_⟩
 unfold z4f at H
 refine zb hN Z (qe Z (qe Z (zg (vr mixed hN Z Z (za (yd (u':=vlst (List.map zt [[109,97,120,45,97,103,101],[115,45,109,97,120,97,103,101],[115,116,97,108,101,45,119,104,105,108,101,45,114,101,118,97,108,105,100,97,116,101],[115,116,97,108,101,45,105,102,45,101,114,114,111,114],[109,97,120,45,115,116,97,108,101],[109,105,110,45,102,114,101,115,104]])) (yl [[_],[_],[_],[_],[_],[_]] yr ⟨Z,.inl ⟨_,Z,Z,Z⟩,Z,Z,.inl ⟨_,Z,Z,Z⟩,Z,Z,.inl ⟨_,Z,Z,Z⟩,Z,Z,.inl ⟨_,Z,Z,Z⟩,Z,Z,.inl ⟨_,Z,Z,Z⟩,Z,Z,.inl ⟨_,Z,Z,Z⟩,Z,U⟩ Z Z) Z) (qd Z (za (kt Z) (za (ku z8t Z) (qd Z (za (kt Z) (za (ku z8s Z) (qd Z (za (kt Z) (za (ku y7n Z) (qd Z (za (kt Z) (za (ku y7m Z) (qd Z (za (kt Z) (za (ku y7t Z) (qd Z (za (kt Z) (za (ku y7s Z) ?_)))))))))))))))))))))))
 refine za (yd (u':=vlst (List.map (CP qb) ([6,7,8,9,10,11]:List Int))) (yl [[_],[_],[_],[_],[_],[_]] y7k ⟨Z,.inl ⟨_,Z,Z,Z⟩,Z,Z,.inl ⟨_,Z,Z,Z⟩,Z,Z,.inl ⟨_,Z,Z,Z⟩,Z,Z,.inl ⟨_,Z,Z,Z⟩,Z,Z,.inl ⟨_,Z,Z,Z⟩,Z,Z,.inl ⟨_,Z,Z,Z⟩,Z,U⟩ Z Z) Z) (qe Z (qe Z ⟨Z,?_⟩))
 refine zk ?_
 cases H
 exact ⟨U,.inl Z,.inl Z,U⟩
theorem x3m (s1:Bs) (r:(Int×Bool)) (H:z4e s1=some r):Fn Tryz.prog 188 [vstr s1] (zw [vint r.1,zj r.2]):=by
 refine ⟨by kernel_rfl,yh (us:=[vint r.1,zj r.2]) Tryz.func188 Z Z Z Z fun X hN => ?_⟩
 unfold z4e at H
 refine zb hN Z (qe Z (qe Z (zb hN Z (qd Z (bE H fun r2 h3 H=>za (zm (y4w s1 r2 h3) ⟨.inl Z,U⟩) (qd Z (za (ym Z Z) (za (ym Z Z) (qe Z (qe Z (yf (ι:=Bool) (fun i=>[(2,.dat (vint r2.1)),(3,.dat (zj i))]) (fun i=>[]) (fun i=>z2t r2 i=some r) (fun i=>Z) ?_ ?_)))))))))))
 ·skip
  refine zu hN Z (qd Z (qd Z (qd Z (yi (j:=2) Z Z (fun h4 => ?_) (fun h4 => ?_) Z))))
  ·exact u1 h4 H fun h5 H=>ze Z Z h4 (zf (.dat _) Z) (bE H fun r6 h7 H=>ze Z Z h4 (zm (y0e r2.1 0 100000000 r6 h7) ⟨.inl Z,.inl Z,.inl Z,U⟩) (ze Z Z h4 (yp Z) (za (yc Z (bTT h5) Z) (qe Z (qe Z ⟨!r6,H,⟨Z,Z,U⟩,U⟩)))))
  ·exact u2 h4 H fun h8 H=>zc Z Z h4 (zc Z Z h4 (zc Z Z h4 (za (zv Z (bFF h8) Z) (qe Z (qe Z ⟨false,H,⟨Z,Z,U⟩,U⟩)))))
 ·rintro v9 H
  replace H:z2t r2 v9=some r:=H
  unfold z2t at H
  refine zk ?_
  cases H
  exact ⟨U,.inl Z,.inl Z,U⟩
theorem x3q (qb:Nat) (r:((List Bs)×(List Int))) (H:z7h  = some r):Fn Tryz.prog 189 [vval (.pointer (some ⟨qb,0,none⟩))] (zw [vlst (List.map zt r.1),vlst (List.map (CP qb) r.2)]):=by
 refine ⟨by kernel_rfl,yh (us:=[vlst (List.map zt r.1),vlst (List.map (CP qb) r.2)]) Tryz.func189 Z Z Z Z fun X hN => ?_⟩
 unfold z7h at H
 refine zb hN Z (qe Z (qe Z (zg (vr mixed hN Z Z (za (yd (u':=vlst (List.map zt [[110,111,45,115,116,111,114,101],[110,111,45,99,97,99,104,101],[112,114,105,118,97,116,101],[112,117,98,108,105,99],[109,117,115,116,45,114,101,118,97,108,105,100,97,116,101],[111,110,108,121,45,105,102,45,99,97,99,104,101,100]])) (yl [[_],[_],[_],[_],[_],[_]] yr ⟨Z,.inl ⟨_,Z,Z,Z⟩,Z,Z,.inl ⟨_,Z,Z,Z⟩,Z,Z,.inl ⟨_,Z,Z,Z⟩,Z,Z,.inl ⟨_,Z,Z,Z⟩,Z,Z,.inl ⟨_,Z,Z,Z⟩,Z,Z,.inl ⟨_,Z,Z,Z⟩,Z,U⟩ Z Z) Z) (qd Z (za (kt Z) (za (ku y7u Z) (qd Z (za (kt Z) (za (ku y17 Z) (qd Z (za (kt Z) (za (ku y7r Z) (qd Z (za (kt Z) (za (ku y7q Z) (qd Z (za (kt Z) (za (ku y7p Z) (qd Z (za (kt Z) (za (ku y7o Z) ?_)))))))))))))))))))))))
 refine za (yd (u':=vlst (List.map (CP qb) ([0,1,2,3,4,5]:List Int))) (yl [[_],[_],[_],[_],[_],[_]] y7j ⟨Z,.inl ⟨_,Z,Z,Z⟩,Z,Z,.inl ⟨_,Z,Z,Z⟩,Z,Z,.inl ⟨_,Z,Z,Z⟩,Z,Z,.inl ⟨_,Z,Z,Z⟩,Z,Z,.inl ⟨_,Z,Z,Z⟩,Z,Z,.inl ⟨_,Z,Z,Z⟩,Z,U⟩ Z Z) Z) (qe Z (qe Z ⟨Z,?_⟩))
 refine zk ?_
 cases H
 exact ⟨U,.inl Z,.inl Z,U⟩
theorem x3i (s1:yn) (v2:Bs) (r:(Bool×yn)) (H:z1k s1 v2=some r):Imp Tryz.prog 148 122 (jk s1) [vstr v2] (zw [zj r.1]) (jk r.2):=by
 refine jb (us:=[zj r.1]) (cs':=(jk r.2)) (by kernel_rfl) Tryz.func148 Z Z Z Z fun X bl hN => ?_
 unfold z1k at H
 refine zb hN Z (qe Z (zb hN Z (qd Z (bE H fun r3 h4 H=>za (zm (z96 v2 [61] r3 h4) ⟨.inl Z,.inl Z,U⟩) (qd Z (za (ym Z Z) (za (ym Z Z) (za (ym Z Z) (qe Z (qe Z (qe Z (zb hN Z (qd Z (bE H fun r5 h6 H=>za (zm (x3m r3.2.1 r5 h6) ⟨.inl Z,U⟩) (qd Z (za (ym Z Z) (za (ym Z Z) (qe Z (qe Z (zg (zb hN Z ?_)))))))))))))))))))))
 refine qd Z (bE H fun r7 h8 H=>za (zm (z4n r3.1 r7 h8) ⟨.inl Z,U⟩) (za (yp Z) (qd Z (wj Z Z (fun hc=>zf (.dat _) Z) (wj Z Z (fun hc=>zf (.dat _) (cnd (c:=(!(!r7))) hc)) (ve Z Z (fun hc=>zf (.dat _) Z) (ve Z Z (fun hc=>yp (cnd (c:=((!(!r7)) && r3.2.2)) hc)) (wj Z Z (fun hc=>vc (cnd (c:=(!(!r7))) hc) (fun hb=>(cnd (c:=((!(!r7)) && r3.2.2)) (andI hc hb))) Z) (za (ki Z Z (fun hb=>(cnd (c:=(!(!r7))) (notI hb)))) (zh _ Z (fun h9 => ?_) (fun h9 => ?_)))))))))))
 ·refine tE h9 H fun H=>zb hN Z (qe Z (zk ?_))
  cases H
  exact ⟨U,⟨.inl Z,U⟩,Z⟩
 ·refine fE h9 H fun H=>zl (zb hN Z (qd Z (bE H fun r10 h11 H=>za (zm (z1u r3.1 r10 h11) ⟨.inl Z,U⟩) (qe Z (zb hN Z (za (zf (.ptr _ _) Z) (bE H fun r12 h13 H=>zo (vp (s := .dr 0 (fun qb=>vtup [vlst (List.map zt r12.1),vlst (List.map (CP qb) r12.2)])) 0 (fun qb=>zm (x3q qb r12 h13) ⟨.inl Z,U⟩) Z Z) Z (za (zf (.dr _ _) Z) (zo (vp (s := .dat (vlst (List.map zt r12.1))) 0 (fun qb=>ym Z Z) Z Z) Z (zo (vp (s := .dr 0 (fun qb=>vlst (List.map (CP qb) r12.2))) 0 (fun qb=>ym Z Z) Z Z) Z (qe Z (za (qi (.dr _ _) Z) (zg (zb hN Z (qd Z (qd Z (bE H fun r14 h15 H=>za (zm (z97 r12.1 r10 r14 h15) ⟨.inl Z,.inl Z,U⟩) (qe Z (zb hN Z ?_)))))))))))))))))))
  refine qd Z (za (jg Z Z) (zh _ Z (fun h16 => ?_) (fun h16 => ?_)))
  ·refine tE h16 H fun H=>zb hN Z (za (zf (.dr _ _) Z) (qd Z (bE H fun x17 h18 H=>zo (vp (s := .dr 0 (fun qb=>vi (List.map (CP qb) r12.2) r14.toNat 0)) 0 (fun qb=>kr y7v (fun _=>Z) Z Z h18) Z Z) Z (gE H fun h19 H=>zo (vp (s := .ptr 0 x17.toNat) 0 (fun qb=>qo y7f Z (qa (jj h18).2) Z) Z Z) Z (za (ju Z) (bE H fun c20 h21 H=>zi (z8y tyS4 Z Z Z (y9b (c:=s1) h19 h21)) Z (zb hN Z (qd Z (za (yp Z) (qe Z (zk ?_)))))))))))
   cases H
   exact ⟨U,⟨.inl Z,U⟩,Z⟩
  ·refine fE h16 H fun H=>zl (zb hN Z (za (zf (.ptr _ _) Z) (bE H fun r22 h23 H=>zo (vp (s := .dr 0 (fun qb=>vtup [vlst (List.map zt r22.1),vlst (List.map (CP qb) r22.2)])) 0 (fun qb=>zm (y49 qb r22 h23) ⟨.inl Z,U⟩) Z Z) Z (za (zf (.dr _ _) Z) (zo (vp (s := .dat (vlst (List.map zt r22.1))) 0 (fun qb=>ym Z Z) Z Z) Z (zo (vp (s := .dr 0 (fun qb=>vlst (List.map (CP qb) r22.2))) 0 (fun qb=>ym Z Z) Z Z) Z (qe Z (za (qi (.dr _ _) Z) (zb hN Z (qd Z (qd Z (bE H fun r24 h25 H=>za (zm (z97 r22.1 r10 r24 h25) ⟨.inl Z,.inl Z,U⟩) (qe Z (zg (zb hN Z (qd Z (za (ye Z Z) (zh _ Z (fun h26 => ?_) (fun h26 => ?_)))))))))))))))))))
   ·refine tE h26 H fun H=>zb hN Z (qe Z (zk ?_))
    cases H
    exact ⟨U,⟨.inl Z,U⟩,Z⟩
   ·refine fE h26 H fun H=>zl (yf (ι:=Bool×Bool×Bool×Bool×Bool×Bool×Int×Int×Int×Int×Int×Int) (fun i=>[(7,.dat (zj r3.2.2))]) (fun i=>[(0,.box (some bl) 122 [.dat (zj i.1),.dat (zj i.2.1),.dat (zj i.2.2.1),.dat (zj i.2.2.2.1),.dat (zj i.2.2.2.2.1),.dat (zj i.2.2.2.2.2.1),.dat (vint i.2.2.2.2.2.2.1),.dat (vint i.2.2.2.2.2.2.2.1),.dat (vint i.2.2.2.2.2.2.2.2.1),.dat (vint i.2.2.2.2.2.2.2.2.2.1),.dat (vint i.2.2.2.2.2.2.2.2.2.2.1),.dat (vint i.2.2.2.2.2.2.2.2.2.2.2)])]) (fun i=>z2r r3 i.1 i.2.1 i.2.2.1 i.2.2.2.1 i.2.2.2.2.1 i.2.2.2.2.2.1 i.2.2.2.2.2.2.1 i.2.2.2.2.2.2.2.1 i.2.2.2.2.2.2.2.2.1 i.2.2.2.2.2.2.2.2.2.1 i.2.2.2.2.2.2.2.2.2.2.1 i.2.2.2.2.2.2.2.2.2.2.2=some r) (fun i=>Z) ?_ ?_)
    ·skip
     refine yf (ι:=Bool) (fun i=>[(7,.dat (zj r3.2.2)),(8,.dat (vint r5.1)),(13,.dr 0 (fun qb=>vlst (List.map (CP qb) r22.2))),(14,.dat (vint r24)),(81,.dat (zj i))]) (fun i=>[(0,.box (some bl) 122 [.dat (zj s1.NoStore),.dat (zj s1.NoCache),.dat (zj s1.Private),.dat (zj s1.Public),.dat (zj s1.Must),.dat (zj s1.Only),.dat (vint s1.MaxAge),.dat (vint s1.Shared),.dat (vint s1.Stale),.dat (vint s1.OnError),.dat (vint s1.MaxStale),.dat (vint s1.MinFresh)])]) (fun i=>z2q s1 r3 r5 r22 r24 i=some r) (fun i=>Z) ?_ ?_
     ·skip
      refine zu hN Z (za (zf (.dr _ _) Z) (qd Z (bE H fun x27 h28 H=>zo (vp (s := .dr 0 (fun qb=>vi (List.map (CP qb) r22.2) r24.toNat 0)) 0 (fun qb=>kr z57 (fun _=>Z) Z Z h28) Z Z) Z (gE H fun h29 H=>zo (vp (s := .ptr 0 x27.toNat) 0 (fun qb=>qo z5x Z (qa (jj h28).2) Z) Z Z) Z (za (ju Z) (zo (zz tyS3 Z (y5o (c:=s1) h29)) Z (za (yt Z Z) (qd Z (yi (j:=7) Z Z (fun h30 => ?_) (fun h30 => ?_) Z)))))))))
      ·exact u3 h30 H fun h31 H=>ze Z Z h30 (zf (.dat _) Z) (ze Z Z h30 (zf (.dr _ _) Z) (ze Z Z h30 (zf (.dat _) Z) (ql Z Z h30 (vp (s := .dr 0 (fun qb=>vi (List.map (CP qb) r22.2) r24.toNat 0)) 0 (fun qb=>kr z57 (fun _=>Z) Z Z h28) Z Z) Z (gE H fun h32 H=>ql Z Z h30 (vp (s := .ptr 0 x27.toNat) 0 (fun qb=>qo z5x Z (qa (jj h28).2) Z) Z Z) Z (ze Z Z h30 (ju Z) (ql Z Z h30 (zz tyS3 Z (y5o (c:=s1) h32)) Z (ze Z Z h30 (ye Z Z) (za (zv Z (bFF h31) Z) ⟨decide (r5.1 < (Zu s1 x27)),H,⟨Z,Z,Z,Z,Z,U⟩,⟨Z,U⟩⟩))))))))
      ·exact u4 h30 H fun h33 H=>zc Z Z h30 (zc Z Z h30 (zc Z Z h30 (zc Z Z h30 (zc Z Z h30 (zc Z Z h30 (zc Z Z h30 (zc Z Z h30 (za (yc Z (bTT h33) Z) ⟨true,H,⟨Z,Z,Z,Z,Z,U⟩,⟨Z,U⟩⟩))))))))
     ·rintro v34 H
      replace H:z2q s1 r3 r5 r22 r24 v34=some r:=H
      unfold z2q at H
      refine zh _ Z (fun h35 => ?_) (fun h35 => ?_)
      ·exact tE h35 H fun H=>zu hN Z (za (zf (.dr _ _) Z) (qd Z (bE H fun x36 h37 H=>zo (vp (s := .dr 0 (fun qb=>vi (List.map (CP qb) r22.2) r24.toNat 0)) 0 (fun qb=>kr z57 (fun _=>Z) Z Z h37) Z Z) Z (gE H fun h38 H=>zo (vp (s := .ptr 0 x36.toNat) 0 (fun qb=>qo z5x Z (qa (jj h37).2) Z) Z Z) Z (qd Z (za (ju Z) (bE H fun c39 h40 H=>zi (z8y tyS3 Z Z Z (y24 (c:=s1) h38 h40)) Z ⟨(c39.NoStore,c39.NoCache,c39.Private,c39.Public,c39.Must,c39.Only,c39.MaxAge,c39.Shared,c39.Stale,c39.OnError,c39.MaxStale,c39.MinFresh),H,⟨Z,U⟩,⟨Z,U⟩⟩)))))))
      ·exact fE h35 H fun H=>zl ⟨(s1.NoStore,s1.NoCache,s1.Private,s1.Public,s1.Must,s1.Only,s1.MaxAge,s1.Shared,s1.Stale,s1.OnError,s1.MaxStale,s1.MinFresh),H,⟨Z,U⟩,⟨Z,U⟩⟩
    ·rintro ⟨c41,c42,c43,c44,c45,c46,c47,c48,c49,c50,c51,c52⟩ H
     replace H:z2r r3 c41 c42 c43 c44 c45 c46 c47 c48 c49 c50 c51 c52=some r:=H
     unfold z2r at H
     refine zb hN Z (qd Z (qe Z (zk ?_)))
     cases H
     exact ⟨U,⟨.inl Z,U⟩,Z⟩
theorem x3n (l1:(List zd)) (r:(yn×Int)) (H:z1l l1=some r):Fn Tryz.prog 101 [vlst (List.map zq l1)] (zw [vagg (jk r.1),vint r.2]):=by
 refine ⟨by kernel_rfl,yh (us:=[vagg (jk r.1),vint r.2]) Tryz.func101 Z Z Z Z fun X hN => ?_⟩
 unfold z1l at H
 refine zb hN Z (zi (qz 1 z22 Z) Z (qe Z (zb hN Z (za (yd (u':=vagg (jk (yn.mk false false false false false false 0 0 0 0 0 0))) (qy [] z22 y14 Z U) Z) (zi (qz 2 z22 Z) Z (zi (yu xx Z Z Z Z) Z (zb hN Z (bE H fun r2 h3 H=>zo (vp (s := .dr 2 (fun qb=>vtup [vlst (List.map zt r2.1),vlst (List.map (CP qb) r2.2)])) 2 (fun qb=>zm (y49 qb r2 h3) ⟨.inl Z,U⟩) Z Z) Z (za (zf (.dr _ _) Z) (zo (vp (s := .dat (vlst (List.map zt r2.1))) 2 (fun qb=>ym Z Z) Z Z) Z (zo (vp (s := .dr 2 (fun qb=>vlst (List.map (CP qb) r2.2))) 2 (fun qb=>ym Z Z) Z Z) Z (qe Z (za (qi (.dr _ _) Z) (zg (zb hN Z (za (zf (.dr _ _) Z) (zo (vp (s := .dat (vint (r2.2.length:Int))) 2 (fun qb=>yz y7e Z) Z Z) Z (qd Z (yg (gE H fun h18 H=>qw (fun (k16:Nat) (s:Bool×Bool×Int×Int×Bool×Bool×Bool×Bool×Int×Int×Int×Int)=>[(0,.dat (vlst (List.map zq l1))),(2,.ptr 1 0),(4,.ptr 2 0),(16,.dr 2 (fun qb=>vlst (List.map (CP qb) r2.2))),(17,.dat (vint (r2.2.length:Int))),(18,.dat (vint (k16:Int)))]) (fun (k16:Nat) (s:Bool×Bool×Int×Int×Bool×Bool×Bool×Bool×Int×Int×Int×Int)=>[(1,.box none 122 [.dat (zj false),.dat (zj false),.dat (zj false),.dat (zj false),.dat (zj false),.dat (zj false),.dat (vint 0),.dat (vint 0),.dat (vint 0),.dat (vint 0),.dat (vint 0),.dat (vint 0)]),(2,.box none 122 [.dat (zj s.1),.dat (zj s.2.1),.dat (zj s.2.2.2.2.1),.dat (zj s.2.2.2.2.2.1),.dat (zj s.2.2.2.2.2.2.1),.dat (zj s.2.2.2.2.2.2.2.1),.dat (vint s.2.2.2.2.2.2.2.2.1),.dat (vint s.2.2.2.2.2.2.2.2.2.1),.dat (vint s.2.2.2.2.2.2.2.2.2.2.1),.dat (vint s.2.2.2.2.2.2.2.2.2.2.2),.dat (vint s.2.2.1),.dat (vint s.2.2.2.1)])]) (false,false,0,0,false,false,false,false,0,0,0,0) H ⟨Z,Z,Z,Z,Z,Z,U⟩ ⟨Z,Z,U⟩ (fun _ _=>Z) ?_ ?_))))))))))))))))))))
 ·rintro ⟨c4,c5,c6,c7,c8,c9,c10,c11,c12,c13,c14,c15⟩ H
  replace H:z5j l1 c4 c5 c6 c7 c8 c9 c10 c11 c12 c13 c14 c15=some r:=H
  unfold z5j at H
  refine zb hN Z (za (ye Z Z) (zg (zh _ Z (fun h=>(lt_t h).elim) (fun h => ?_))))
  refine qc (zg (zb hN Z (qd Z (bE H fun r20 h21 H=>za (zm (z7n l1 [99,97,99,104,101,45,99,111,110,116,114,111,108] r20 h21) ⟨.inl Z,.inl Z,U⟩) (bE H fun r22 h23 H=>za (zm (x2h r20 r22 h23) ⟨.inl Z,U⟩) (za (yz we Z) (qd Z (yg (gE H fun h38 H=>qw (fun (k36:Nat) (s:Bool×Bool×Int×Int×Bool×Bool×Bool×Bool×Int×Int×Int×Int)=>[(2,.ptr 1 0),(4,.ptr 2 0),(27,.dat (vlst (List.map zt r22))),(28,.dat (vint (r22.length:Int))),(29,.dat (vint (k36:Int)))]) (fun (k36:Nat) (s:Bool×Bool×Int×Int×Bool×Bool×Bool×Bool×Int×Int×Int×Int)=>[(1,.box none 122 [.dat (zj false),.dat (zj false),.dat (zj false),.dat (zj false),.dat (zj false),.dat (zj false),.dat (vint 0),.dat (vint 0),.dat (vint 0),.dat (vint 0),.dat (vint 0),.dat (vint 0)]),(2,.box none 122 [.dat (zj s.1),.dat (zj s.2.1),.dat (zj s.2.2.2.2.1),.dat (zj s.2.2.2.2.2.1),.dat (zj s.2.2.2.2.2.2.1),.dat (zj s.2.2.2.2.2.2.2.1),.dat (vint s.2.2.2.2.2.2.2.2.1),.dat (vint s.2.2.2.2.2.2.2.2.2.1),.dat (vint s.2.2.2.2.2.2.2.2.2.2.1),.dat (vint s.2.2.2.2.2.2.2.2.2.2.2),.dat (vint s.2.2.1),.dat (vint s.2.2.2.1)])]) (c4,c5,c6,c7,c8,c9,c10,c11,c12,c13,c14,c15) H ⟨Z,Z,Z,Z,Z,U⟩ ⟨Z,Z,U⟩ (fun _ _=>Z) ?_ ?_)))))))))
  ·rintro ⟨c24,c25,c26,c27,c28,c29,c30,c31,c32,c33,c34,c35⟩ H
   replace H:y07 c24 c25 c26 c27 c28 c29 c30 c31 c32 c33 c34 c35=some r:=H
   unfold y07 at H
   refine zb hN Z (za (ye Z Z) (zg (zh _ Z (fun h=>(lt_t h).elim) (fun h => ?_))))
   refine qc (zb hN Z (zo (yk xx Z Z Z) Z (zi (yu xx Z Z Z Z) Z (qe Z (zk ?_)))))
   cases H
   exact ⟨U,.inl ⟨_,_,_,jk (yn.mk c24 c25 c28 c29 c30 c31 c32 c33 c34 c35 c26 c27),Z,Z,Z,Z,xx⟩,.inl Z,U⟩
  ·rintro k36 x39 ⟨c24,c25,c26,c27,c28,c29,c30,c31,c32,c33,c34,c35⟩ q37 h40 h41 H hq37
   replace H:z0e k36 x39 c24 c25 c26 c27 c28 c29 c30 c31 c32 c33 c34 c35=some q37:=H
   unfold z0e at H
   refine zb hN Z (za (ye Z Z) (zg (zh _ Z (fun h => ?_) (fun h=>(lt_f h40 h).elim))))
   refine zl (zg (yg (zb hN Z (za (wd wy (fun _=>Z) Z Z h41) (za (qo tyS9 Z (qa h41) Z) (qe Z (zb hN Z (qd Z (bE H fun r42 h43 H=>zi (yj (x3i (yn.mk c24 c25 c28 c29 c30 c31 c32 c33 c34 c35 c26 c27) x39 r42 h43) Z ⟨.inl Z,U⟩ Z) Z (za (yp Z) (zh _ Z (fun h44 => ?_) (fun h44 => ?_))))))))))))
   ·refine tE h44 H fun H=>zb hN Z (za (yd (u':=vagg (jk (yn.mk false false false false false false 0 0 0 0 0 0))) (qy [] z22 y14 Z U) Z) (zi (yu xx Z Z Z Z) Z (qe Z (zk ?_))))
    replace H:=retl H hq37
    cases H
    exact ⟨U,.inl ⟨_,_,_,jk (yn.mk false false false false false false 0 0 0 0 0 0),Z,Z,Z,Z,xx⟩,.inl Z,U⟩
   ·exact fE h44 H fun H=>zl (zu hN Z (za (qs Z Z (by omega)) (qd Z ⟨_,qj H,⟨Z,Z,Z,Z,Z,U⟩,⟨Z,Z,U⟩⟩)))
 ·rintro k16 x19 ⟨c4,c5,c6,c7,c8,c9,c10,c11,c12,c13,c14,c15⟩ q17 h45 h46 H hq17
  replace H:y06 k16 x19 c4 c5 c6 c7 c8 c9 c10 c11 c12 c13 c14 c15=some q17:=H
  unfold y06 at H
  refine zb hN Z (za (ye Z Z) (zg (zh _ Z (fun h => ?_) (fun h=>(lt_f h45 h).elim))))
  exact zl (zg (yg (zb hN Z (zo (vp (s := .dr 2 (fun qb=>vi (List.map (CP qb) r2.2) k16 0)) 2 (fun qb=>wd z57 (fun _=>Z) Z Z h46) Z Z) Z (gE H fun h47 H=>zo (vp (s := .ptr 2 x19.toNat) 2 (fun qb=>qo z5x Z (qa h46) Z) Z Z) Z (za (qi (.ptr _ _) Z) (zu hN Z (za (zf (.ptr _ _) Z) (za (ju Z) (bE H fun c48 h49 H=>zi (z8y tyS3 Z Z Z (y24 (c:=(yn.mk c4 c5 c8 c9 c10 c11 c12 c13 c14 c15 c6 c7)) h47 h49)) Z (zu hN Z (za (qs Z Z (by omega)) (qd Z ⟨_,qj H,⟨Z,Z,Z,Z,Z,Z,U⟩,⟨Z,Z,U⟩⟩)))))))))))))
theorem x3p (c1:yn) (r:(Int)) (H:z4g c1=some r):Fn Tryz.prog 102 [vagg (jk c1)] (zw [vint r]):=by
 refine ⟨by kernel_rfl,yh (us:=[vint r]) Tryz.func102 Z Z Z Z fun X hN => ?_⟩
 unfold z4g at H
 refine zb hN Z (zi (qr 1 Z) Z (qe Z (zg (yg (zb hN Z (za (zp y17 Z) (zo (zz tyS4 Z Z) Z (qe Z (zh _ Z (fun h2 => ?_) (fun h2 => ?_))))))))))
 ·refine tE h2 H fun H=>zb hN Z (qe Z (zk ?_))
  cases H
  exact ⟨U,.inl Z,U⟩
 ·refine fE h2 H fun H=>zb hN Z (za (zp z8s Z) (zo (zz tyS3 Z Z) Z (za (qk Z Z) (qe Z (zh _ Z (fun h3 => ?_) (fun h3 => ?_))))))
  ·refine tE h3 H fun H=>zb hN Z (za (zp z8s Z) (zo (zz tyS3 Z Z) Z (za (qn _ Z Z (.inr (.inr ⟨Z,Z⟩))) (qe Z (zk ?_)))))
   cases H
   exact ⟨U,.inl Z,U⟩
  ·refine fE h3 H fun H=>zb hN Z (za (zp z8t Z) (zo (zz tyS3 Z Z) Z (za (qk Z Z) (qe Z (zh _ Z (fun h4 => ?_) (fun h4 => ?_))))))
   ·refine tE h4 H fun H=>zb hN Z (za (zp z8t Z) (zo (zz tyS3 Z Z) Z (za (qn _ Z Z (.inr (.inr ⟨Z,Z⟩))) (qe Z (zk ?_)))))
    cases H
    exact ⟨U,.inl Z,U⟩
   ·refine fE h4 H fun H=>zl (zb hN Z (qe Z (zk ?_)))
    cases H
    exact ⟨U,.inl Z,U⟩
theorem x3v (a1:zx) (r:(Int×Int)) (H:z7j a1=some r):Fn Tryz.prog 58 [vagg (vt a1)] (zw [vint r.1,vint r.2]):=by
 refine ⟨by kernel_rfl,yh (us:=[vint r.1,vint r.2]) Tryz.func58 Z Z Z Z fun X hN => ?_⟩
 unfold z7j at H
 refine zb hN Z (zi (qr 1 Z) Z (qe Z (qe Z (zg (zb hN Z (zo (yk wi Z Z Z) Z (bE H fun r2 h3 H=>za (zm (y0c a1 r2 h3) ⟨.inl Z,U⟩) (qe Z (zb hN Z (qd Z (za (qk Z Z) (zh _ Z (fun h4 => ?_) (fun h4 => ?_)))))))))))))
 ·refine tE h4 H fun H=>zb hN Z (qd Z (qe Z (qe Z (zk ?_))))
  cases H
  exact ⟨U,.inl Z,.inl Z,U⟩
 ·refine fE h4 H fun H=>zl (zb hN Z (za (zp wx Z) (zo (zz qg Z Z) Z (bE H fun r5 h6 H=>za (zm (x3n a1.Headers r5 h6) ⟨.inl Z,U⟩) (qd Z (za (ym Z Z) (za (ym Z Z) (zi (qz 2 z22 Z) Z (zi (yu xx Z Z Z Z) Z (qe Z (zg (zb hN Z (qd Z (za (qk Z Z) (zh _ Z (fun h7 => ?_) (fun h7 => ?_))))))))))))))))
  ·refine tE h7 H fun H=>zb hN Z (qd Z (qe Z (qe Z (zk ?_))))
   cases H
   exact ⟨U,.inl Z,.inl Z,U⟩
  ·refine fE h7 H fun H=>zl (zg (zb hN Z (zo (yk wi Z Z Z) Z (bE H fun r8 h9 H=>za (zm (y48 a1 r8 h9) ⟨.inl Z,U⟩) (qd Z (za (ym Z Z) (za (ym Z Z) (za (ym Z Z) (qe Z (qe Z (qe Z (zb hN Z (qd Z (za (qk Z Z) (zh _ Z (fun h10 => ?_) (fun h10 => ?_))))))))))))))))
   ·refine tE h10 H fun H=>zb hN Z (qd Z (qe Z (qe Z (zk ?_))))
    cases H
    exact ⟨U,.inl Z,.inl Z,U⟩
   ·refine fE h10 H fun H=>zl (zb hN Z (zo (yk xx Z Z Z) Z (bE H fun r11 h12 H=>za (zm (x3p r5.1 r11 h12) ⟨.inl Z,U⟩) (qe Z (qe Z (zk ?_))))))
    cases H
    exact ⟨U,.inl Z,.inl Z,U⟩
theorem x3f  (r:(Bool)) (H:z1j  = some r):Fn Tryz.prog 19 [] (zw [zj r]):=by
 refine ⟨by kernel_rfl,yh (us:=[zj r]) Tryz.func19 Z Z Z Z fun X hN => ?_⟩
 unfold z1j at H
 refine zb hN Z (qe Z (zb hN Z (za (yd (u':=vagg (zq (zd.mk [99,97,99,104,101,45,99,111,110,116,114,111,108] [109,97,120,45,97,103,101,61,50]))) (qy [(0,[vstr [99,97,99,104,101,45,99,111,110,116,114,111,108]]),(1,[vstr [109,97,120,45,97,103,101,61,50]])] vk ko Z ⟨Z,.inl ⟨_,Z,Z,Z⟩,Z,Z,.inl ⟨_,Z,Z,Z⟩,Z,U⟩) Z) (za (yd (u':=vlst (List.map zq [(zd.mk [99,97,99,104,101,45,99,111,110,116,114,111,108] [109,97,120,45,97,103,101,61,50])])) (yl [_] wm ⟨Z,.inr Z,Z,U⟩ Z Z) Z) (za (yd (u':=vagg (vt (zx.mk 200 ([(zd.mk [99,97,99,104,101,45,99,111,110,116,114,111,108] [109,97,120,45,97,103,101,61,50])]) []))) (qy [(0,[vint 200]),(1,[vlst (List.map zq ([(zd.mk [99,97,99,104,101,45,99,111,110,116,114,111,108] [109,97,120,45,97,103,101,61,50])]))])] z0l y13 Z ⟨Z,.inl ⟨_,Z,Z,Z⟩,Z,Z,.inl ⟨_,Z,Z,Z⟩,Z,U⟩) Z) (bE H fun r1 h2 H=>za (zm (x3v (zx.mk 200 ([(zd.mk [99,97,99,104,101,45,99,111,110,116,114,111,108] [109,97,120,45,97,103,101,61,50])]) []) r1 h2) ⟨.inl Z,U⟩) (qd Z (za (ym Z Z) (za (ym Z Z) (qe Z (qe Z (zb hN Z (qd Z (za (yt Z Z) (qd Z (qt Z Z (fun hc=>zf (.dat _) Z) (qt Z Z (fun hc=>yt (cnd (c:=(decide (r1.2=0))) hc) Z) (za (vc Z (fun hb=>(cnd (c:=(decide (r1.2=0))) hb)) Z) (qe Z (zk ?_))))))))))))))))))))
 cases H
 exact ⟨U,.inl Z,U⟩
end Go.Proofs.YtkldmhhbbceaoabGreatDoor
