/- Models and walks along them that rest on walks of other texts. Printed by a program. -/
import Derived.Test.YtnnfdgngnoamoaaGreatDoorXbh4
namespace Go.Proofs.YtnnfdgngnoamoaaGreatDoor
open Go.RowKit
set_option linter.unusedVariables false
set_option maxRecDepth 100000
set_option maxHeartbeats 2000000
noncomputable def z8e (c1:zx) (apps2:(List zy)) (l3:(List zk)) (uses4:(List zz)) (month5:Int):Option ((List zm)×Int):=
 (z7y c1 apps2 l3 uses4).bind fun (r6:(Int))=>if decide (r6≠0) then (some ([],r6)) else ((ur month5 0 132).bind fun (r9:(Bool))=>if r9 then (some ([],1)) else ((Yg uses4).bind fun (r12:((List (zz×Int))))=>(z78 c1 apps2 l3 r12 month5).bind fun (r14:((List zm)))=>some (r14,0)))
noncomputable def Wl (v35:Bool):Option (Bool):=
 some v35
noncomputable def ky (v96:Bool):Option (Bool):=
 some v96
noncomputable def z5x (r12:(Int×Int)) (v36:Int) (r41:(Bool)) (v50:Bool):Option (Bool):=
 if v50 then some false else (if r41 then (if decide (r12.2=1) then (if decide (r12.1=0) then ((Wd ).bind fun (r70:(Bool))=>ky r70) else (if !r41 then (if decide (r12.2=0) then (if decide (r12.1=v36) then ((Wd ).bind fun (r64:(Bool))=>ky r64) else (ky false)) else (ky false)) else (ky false))) else (if !r41 then (if decide (r12.2=0) then (if decide (r12.1=v36) then ((Wd ).bind fun (r79:(Bool))=>ky r79) else (ky false)) else (ky false)) else (ky false))) else (if !r41 then (if decide (r12.2=0) then (if decide (r12.1=v36) then ((Wd ).bind fun (r91:(Bool))=>ky r91) else (ky false)) else (ky false)) else (ky false)))
noncomputable def y3v (k37:Nat) (x40:zm) (v36:Int):Option (Int ⊕ (Bool)):=
 some (.inl (wr (v36+x40.Cents)))
noncomputable def z5y (r4:(zx×(List zy)×(List zk)×Int×zt)) (r6:((List zz)×zt)) (r8:(Int×zt)) (r10:((List zm)×Int)) (r12:(Int×Int)) (v36:Int):Option (Bool):=
 (y2o r10.1 (fun (a0:zm)=>z2l a0)).bind fun (r41:(Bool))=>if decide (r10.2≠0) then (z5x r12 v36 r41 true) else ((z4x r4.1 r4.2.1 r4.2.2.1 r6.1 r8.1).bind fun (r45:((List zm)))=>(z8m r10.1 r45).bind fun (r47:(Bool))=>z5x r12 v36 r41 (!r47))
noncomputable def y21 (v1:(List Int)):Option (Bool):=
 (z0y (zt.mk v1 0) 0 12).bind fun (r2:(Int×zt))=>(z80 r2.2 r2.1).bind fun (r4:(zx×(List zy)×(List zk)×Int×zt))=>(z8q r4.2.2.2.2 r4.2.1).bind fun (r6:((List zz)×zt))=>(kb r6.2 [0,0,1,1,2,3,132,(-1),133]).bind fun (r8:(Int×zt))=>(z8e r4.1 r4.2.1 r4.2.2.1 r6.1 r8.1).bind fun (r10:((List zm)×Int))=>(z8a r10.1).bind fun (r12:(Int×Int))=>(z8i r4.1 r4.2.1 r6.1).bind fun (r14:(Int))=>(z8z ((decide (r8.1 < 0)) || (decide (132 < r8.1))) 1).bind fun (r16:(Int))=>(z81 [r4.2.2.2.1,r14,r16]).bind fun (r18:(Int))=>if decide (r18≠0) then (if decide (r10.2=r18) then (if decide ((r10.1.length:Int)=0) then (if decide (r12.2=0) then (if decide (r12.1=0) then ((Wd ).bind fun (r29:(Bool))=>Wl r29) else (Wl false)) else (Wl false)) else (Wl false)) else (Wl false)) else (if r10.1.length≤1000000000 then forL (fun (k:Nat) (x:zm) (s:Int)=>y3v k x s) (fun (s:Int)=>z5y r4 r6 r8 r10 r12 s) 0 r10.1 0 else none)
theorem w22 (c1:zx) (apps2:(List zy)) (l3:(List zk)) (uses4:(List zz)) (month5:Int) (r:((List zm)×Int)) (H:z8e c1 apps2 l3 uses4 month5=some r):Fn Tryz.prog 8 [vagg (yy c1),vlst (List.map yk apps2),vlst (List.map yi l3),vlst (List.map wn uses4),vint month5] (yc [vlst (List.map wg r.1),vint r.2]):=by
 refine ⟨by kernel_rfl,yl (us:=[vlst (List.map wg r.1),vint r.2]) Tryz.func8 Z Z Z Z fun X hN => ?_⟩
 unfold z8e at H
 refine zc hN Z (zd (qr 1 Z) Z (qe Z (qe Z (zf (zc hN Z (ze (yg ql Z Z Z) Z (qd Z (qd Z (qd Z (bE H fun r6 h7 H=>za (yb (w2h c1 apps2 l3 uses4 r6 h7) ⟨.inl Z,.inl Z,.inl Z,.inl Z,U⟩) (qe Z (zc hN Z (qd Z (za (vn Z Z) (zi _ Z (fun h8 => ?_) (fun h8 => ?_))))))))))))))))
 ·refine tE h8 H fun H=>zc hN Z (qd Z (qe Z (qe Z (zn ?_))))
  cases H
  exact ⟨U,.inr ⟨Z,Z⟩,.inl Z,U⟩
 ·refine fE h8 H fun H=>zp (zf (zc hN Z (qd Z (bE H fun r9 h10 H=>za (yb (Zo month5 0 132 r9 h10) ⟨.inl Z,.inl Z,.inl Z,U⟩) (zi _ Z (fun h11 => ?_) (fun h11 => ?_))))))
  ·refine tE h11 H fun H=>zc hN Z (qe Z (qe Z (zn ?_)))
   cases H
   exact ⟨U,.inr ⟨Z,Z⟩,.inl Z,U⟩
  ·refine fE h11 H fun H=>zp (zf (wl mixed hN Z Z (ze (yg ql Z Z Z) Z (qd Z (qd Z (qd Z (bE H fun r12 h13 H=>za (yb (w2g uses4 r12 h13) ⟨.inl Z,U⟩) (qd Z (bE H fun r14 h15 H=>za (yb (w2t c1 apps2 l3 r12 month5 r14 h15) ⟨.inl Z,.inl Z,.inl Z,.inl Z,.inl Z,U⟩) (qe Z (qe Z ⟨Z,?_⟩)))))))))))
   refine zn ?_
   cases H
   exact ⟨U,.inl Z,.inl Z,U⟩
theorem w37 (v1:(List Int)) (r:(Bool)) (H:y21 v1=some r):Fn Tryz.prog 3 [vlst (List.map qn v1)] (yc [zr r]):=by
 refine ⟨by kernel_rfl,yl (us:=[zr r]) Tryz.func3 Z Z Z Z fun X hN => ?_⟩
 unfold y21 at H
 refine zc hN Z (qe Z (zc hN Z (qd Z (za (yf (u':=vagg (qz (zt.mk v1 0))) (vj [(0,[vlst (List.map qn v1)])] x6m x6x Z ⟨Z,.inl ⟨_,Z,Z,Z⟩,Z,U⟩) Z) (zd (qr 1 Z) Z (za (qy (.ptr _ _) Z) (zc hN Z (za (zg (.ptr _ _) Z) (za (zg (.ptr _ _) Z) (bE H fun r2 h3 H=>zd (yo (z9e (zt.mk v1 0) 0 12 r2 h3) Z ⟨.inl Z,.inl Z,U⟩ Z) Z (bE H fun r4 h5 H=>zd (yo (w34 r2.2 r2.1 r4 h5) Z ⟨.inl Z,U⟩ Z) Z (qd Z (za (qm Z Z) (za (qm Z Z) (za (qm Z Z) (za (qm Z Z) (zd (qf 2 kn Z) Z (zd (yz ql Z Z Z Z) Z (qe Z (qe Z (qe Z ?_)))))))))))))))))))))
 refine zc hN Z (za (zg (.ptr _ _) Z) (qd Z (bE H fun r6 h7 H=>zd (yo (w3u r4.2.2.2.2 r4.2.1 r6 h7) Z ⟨.inl Z,U⟩ Z) Z (za (zg (.ptr _ _) Z) (za (yf (u':=vlst (List.map qn [0,0,1,1,2,3,132,(-1),133])) (qa [[_],[_],[_],[_],[_],[_],[_],[_],[_]] vx ⟨Z,.inl ⟨_,Z,Z,Z⟩,Z,Z,.inl ⟨_,Z,Z,Z⟩,Z,Z,.inl ⟨_,Z,Z,Z⟩,Z,Z,.inl ⟨_,Z,Z,Z⟩,Z,Z,.inl ⟨_,Z,Z,Z⟩,Z,Z,.inl ⟨_,Z,Z,Z⟩,Z,Z,.inl ⟨_,Z,Z,Z⟩,Z,Z,.inl ⟨_,Z,Z,Z⟩,Z,Z,.inl ⟨_,Z,Z,Z⟩,Z,U⟩ Z Z) Z) (bE H fun r8 h9 H=>zd (yo (jo r6.2 [0,0,1,1,2,3,132,(-1),133] r8 h9) Z ⟨.inl Z,U⟩ Z) Z (qe Z (qe Z (zc hN Z (ze (yg ql Z Z Z) Z (qd Z (qd Z (qd Z (qd Z (bE H fun r10 h11 H=>za (yb (w22 r4.1 r4.2.1 r4.2.2.1 r6.1 r8.1 r10 h11) ⟨.inl Z,.inl Z,.inl Z,.inl Z,.inl Z,U⟩) (qd Z (za (qm Z Z) (za (qm Z Z) (qe Z (qe Z ?_))))))))))))))))))))
 refine zc hN Z (qd Z (bE H fun r12 h13 H=>za (yb (w2y r10.1 r12 h13) ⟨.inl Z,U⟩) (qd Z (za (qm Z Z) (za (qm Z Z) (qe Z (qe Z (zf (zc hN Z (qd Z (ze (yg ql Z Z Z) Z (qd Z (qd Z (bE H fun r14 h15 H=>za (yb (w3f r4.1 r4.2.1 r6.1 r14 h15) ⟨.inl Z,.inl Z,.inl Z,U⟩) (qd Z (za (ye Z Z) (qd Z (ji Z Z (fun hc=>zg (.dat _) Z) (ji Z Z (fun hc=>wz (cnd (c:=(!(decide (r8.1 < 0)))) hc) Z) (za (ul Z Z (fun hb=>(cnd (c:=(!(decide (r8.1 < 0)))) (notI hb)))) (bE H fun r16 h17 H=>?_)))))))))))))))))))))
 refine za (yb (w33 ((decide (r8.1 < 0)) || (decide (132 < r8.1))) 1 r16 h17) ⟨.inl Z,.inl Z,U⟩) (za (yf (u':=vlst (List.map y9x [r4.2.2.2.1,r14,r16])) (qa [[_],[_],[_]] x61 ⟨Z,.inl ⟨_,Z,Z,Z⟩,Z,Z,.inl ⟨_,Z,Z,Z⟩,Z,Z,.inl ⟨_,Z,Z,Z⟩,Z,U⟩ Z Z) Z) (bE H fun r18 h19 H=>za (yb (w35 [r4.2.2.2.1,r14,r16] r18 h19) ⟨.inl Z,U⟩) (qe Z (zc hN Z (qd Z (za (vn Z Z) (zi _ Z (fun h20 => ?_) (fun h20 => ?_))))))))
 ·refine tE h20 H fun H=>yw (ι:=Bool) (fun i=>[(2,.dat (zr i))]) (fun i=>[]) (fun i=>Wl i=some r) (fun i=>Z) ?_ ?_
  ·skip
   refine zq hN Z (qd Z (qd Z (za (qc Z Z) (qd Z (qv (j:=3) Z Z (fun h21 => ?_) (fun h21 => ?_) Z)))))
   ·refine u1 h21 H fun h22 H=>zo Z Z h21 (zg (.dat _) Z) (zo Z Z h21 (yu Qk Z) (zo Z Z h21 (qc Z Z) (za (qt Z (bTT h22) Z) (qd Z (qv (j:=8) Z Z (fun h23 => ?_) (fun h23 => ?_) Z)))))
    ·refine u1 h23 H fun h24 H=>zo Z Z h23 (zg (.dat _) Z) (zo Z Z h23 (qc Z Z) (za (qt Z (bTT h24) Z) (qd Z (qv (j:=12) Z Z (fun h25 => ?_) (fun h25 => ?_) Z))))
     ·refine u1 h25 H fun h26 H=>zo Z Z h25 (zg (.dat _) Z) (zo Z Z h25 (qc Z Z) (za (qt Z (bTT h26) Z) (qd Z (qv (j:=16) Z Z (fun h27 => ?_) (fun h27 => ?_) Z))))
      ·exact u1 h27 H fun h28 H=>bE H fun r29 h30 H=>zo Z Z h27 (yb (z9f  r29 h30) U) (za (qt Z (bTT h28) Z) (qe Z ⟨r29,H,⟨Z,U⟩,U⟩))
      ·exact u2 h27 H fun h31 H=>zh Z Z h27 (za (yq Z (bFF h31) Z) (qe Z ⟨false,H,⟨Z,U⟩,U⟩))
     ·exact u2 h25 H fun h32 H=>zh Z Z h25 (zh Z Z h25 (za (yq Z (bFF h32) Z) (qd Z (zh Z Z Z (za (yq Z Z Z) (qe Z ⟨false,H,⟨Z,U⟩,U⟩))))))
    ·exact u2 h23 H fun h33 H=>zh Z Z h23 (zh Z Z h23 (za (yq Z (bFF h33) Z) (qd Z (zh Z Z Z (zh Z Z Z (za (yq Z Z Z) (qd Z (zh Z Z Z (za (yq Z Z Z) (qe Z ⟨false,H,⟨Z,U⟩,U⟩))))))))))
   ·exact u2 h21 H fun h34 H=>zh Z Z h21 (zh Z Z h21 (zh Z Z h21 (za (yq Z (bFF h34) Z) (qd Z (zh Z Z Z (zh Z Z Z (za (yq Z Z Z) (qd Z (zh Z Z Z (zh Z Z Z (za (yq Z Z Z) (qd Z (zh Z Z Z (za (yq Z Z Z) (qe Z ⟨false,H,⟨Z,U⟩,U⟩)))))))))))))))
  ·rintro v35 H
   replace H:Wl v35=some r:=H
   unfold Wl at H
   refine zn ?_
   cases H
   exact ⟨U,.inl Z,U⟩
 ·refine fE h20 H fun H=>zp (zc hN Z (qe Z (zf (zc hN Z (qd Z (za (yu Qk Z) (qd Z (yd (gE H fun h39 H=>ve (fun (k37:Nat) (s:Int)=>[(4,.ptr 2 0),(5,.dat (vlst (List.map yk r4.2.1))),(6,.dat (vlst (List.map yi r4.2.2.1))),(8,.dat (vlst (List.map wn r6.1))),(9,.dat (vint r8.1)),(10,.dat (vlst (List.map wg r10.1))),(11,.dat (vint r10.2)),(12,.dat (vint r12.1)),(13,.dat (vint r12.2)),(14,.dat (vint s)),(85,.dat (vlst (List.map wg r10.1))),(86,.dat (vint (r10.1.length:Int))),(87,.dat (vint (k37:Int)))]) (fun (k37:Nat) (s:Int)=>[(2,.box none 29 [.dat (vlst (List.map yt r4.1.Products)),.dat (vlst (List.map ym r4.1.Plans))])]) 0 H ⟨Z,Z,Z,Z,Z,Z,Z,Z,Z,Z,Z,Z,Z,U⟩ ⟨Z,U⟩ (fun _ _=>Z) ?_ ?_)))))))))
  ·rintro v36 H
   replace H:z5y r4 r6 r8 r10 r12 v36=some r:=H
   unfold z5y at H
   refine zc hN Z (za (ye Z Z) (zf (zi _ Z (fun h=>(lt_t h).elim) (fun h => ?_))))
   refine qk (zc hN Z (qd Z (bE H fun r41 h42 H=>za (z3x (w2b r10.1 (fun (a0:zm)=>z2l a0) 15 [] (fun a0 r h=>w36 a0 r h) r41 h42) ⟨.inl (.inl Z),.inr ⟨_,Z,Z⟩,U⟩) (qe Z (zf (yw (ι:=Bool) (fun i=>[(12,.dat (vint r12.1)),(13,.dat (vint r12.2)),(14,.dat (vint v36)),(17,.dat (zr r41)),(110,.dat (zr i))]) (fun i=>[]) (fun i=>z5x r12 v36 r41 i=some r) (fun i=>Z) ?_ ?_))))))
   ·skip
    refine zq hN Z (qd Z (za (vn Z Z) (qd Z (qv (j:=2) Z Z (fun h43 => ?_) (fun h43 => ?_) Z))))
    ·exact u3 h43 H fun h44 H=>zo Z Z h43 (zg (.dat _) Z) (wc Z Z h43 (yg ql Z Z Z) Z (zo Z Z h43 (zg (.dat _) Z) (zo Z Z h43 (zg (.dat _) Z) (zo Z Z h43 (zg (.dat _) Z) (zo Z Z h43 (zg (.dat _) Z) (bE H fun r45 h46 H=>zo Z Z h43 (yb (w3r r4.1 r4.2.1 r4.2.2.1 r6.1 r8.1 r45 h46) ⟨.inl Z,.inl Z,.inl Z,.inl Z,.inl Z,U⟩) (bE H fun r47 h48 H=>zo Z Z h43 (yb (w3k r10.1 r45 r47 h48) ⟨.inl Z,.inl Z,U⟩) (zo Z Z h43 (ww Z) (za (yq Z (bFF h44) Z) ⟨!r47,H,⟨Z,Z,Z,Z,Z,U⟩,U⟩)))))))))
    ·exact u4 h43 H fun h49 H=>zh Z Z h43 (zh Z Z h43 (zh Z Z h43 (zh Z Z h43 (zh Z Z h43 (zh Z Z h43 (zh Z Z h43 (zh Z Z h43 (zh Z Z h43 (za (qt Z (bTT h49) Z) ⟨true,H,⟨Z,Z,Z,Z,Z,U⟩,U⟩)))))))))
   ·rintro v50 H
    replace H:z5x r12 v36 r41 v50=some r:=H
    unfold z5x at H
    refine zi _ Z (fun h51 => ?_) (fun h51 => ?_)
    ·refine tE h51 H fun H=>zc hN Z (qe Z (zn ?_))
     cases H
     exact ⟨U,.inl Z,U⟩
    ·refine fE h51 H fun H=>zp (yw (ι:=Bool) (fun i=>[(2,.dat (zr i))]) (fun i=>[]) (fun i=>ky i=some r) (fun i=>Z) ?_ ?_)
     ·skip
      refine zq hN Z (qd Z (qd Z (qv (j:=1) Z Z (fun h52 => ?_) (fun h52 => ?_) Z)))
      ·refine u1 h52 H fun h53 H=>zo Z Z h52 (zg (.dat _) Z) (zo Z Z h52 (qc Z Z) (za (qt Z (bTT h53) Z) (qd Z (qv (j:=5) Z Z (fun h54 => ?_) (fun h54 => ?_) Z))))
       ·refine u1 h54 H fun h55 H=>zo Z Z h54 (zg (.dat _) Z) (zo Z Z h54 (qc Z Z) (za (qt Z (bTT h55) Z) (qd Z (qv (j:=9) Z Z (fun h56 => ?_) (fun h56 => ?_) Z))))
        ·refine u3 h56 H fun h57 H=>zo Z Z h56 (zg (.dat _) Z) (zo Z Z h56 (ww Z) (zo Z Z h56 (zg (.dat _) Z) (qv (j:=12) Z Z (fun h58 => ?_) (fun h58 => ?_) Z)))
         ·refine u1 h58 H fun h59 H=>zo Z Z h58 (zg (.dat _) Z) (zo Z Z h58 (qc Z Z) (zo Z Z h56 (qt Z (bTT h59) Z) (zo Z Z h56 (zg (.dat _) Z) (qv (j:=16) Z Z (fun h60 => ?_) (fun h60 => ?_) Z))))
          ·refine u1 h60 H fun h61 H=>zo Z Z h60 (zg (.dat _) Z) (zo Z Z h60 (zg (.dat _) Z) (zo Z Z h60 (qc Z Z) (zo Z Z h56 (qt Z (bTT h61) Z) (za (yq Z (bFF h57) Z) (qd Z (qv (j:=22) Z Z (fun h62 => ?_) (fun h62 => ?_) Z))))))
           ·exact u1 h62 H fun h63 H=>bE H fun r64 h65 H=>zo Z Z h62 (yb (z9f  r64 h65) U) (za (qt Z (bTT h63) Z) (qe Z ⟨r64,H,⟨Z,U⟩,U⟩))
           ·exact u2 h62 H fun h66 H=>zh Z Z h62 (za (yq Z (bFF h66) Z) (qe Z ⟨false,H,⟨Z,U⟩,U⟩))
          ·exact u2 h60 H fun h67 H=>zh Z Z h60 (zh Z Z h60 (zh Z Z h60 (zo Z Z h56 (yq Z (bFF h67) Z) (za (yq Z (bFF h57) Z) (qd Z (zh Z Z Z (za (yq Z Z Z) (qe Z ⟨false,H,⟨Z,U⟩,U⟩))))))))
         ·exact u2 h58 H fun h68 H=>zh Z Z h58 (zh Z Z h58 (zo Z Z h56 (yq Z (bFF h68) Z) (zo Z Z h56 (zg (.dat _) Z) (zh Z Z Z (zh Z Z Z (zh Z Z Z (zo Z Z h56 (yq Z Z Z) (za (yq Z (bFF h57) Z) (qd Z (zh Z Z Z (za (yq Z Z Z) (qe Z ⟨false,H,⟨Z,U⟩,U⟩))))))))))))
        ·exact u4 h56 H fun h69 H=>zh Z Z h56 (zh Z Z h56 (zh Z Z h56 (z7d Z Z (z7d Z Z (zh Z Z h56 (zh Z Z h56 (z7d Z Z (z7d Z Z (z7d Z Z (zh Z Z h56 (za (qt Z (bTT h69) Z) (qd Z (bE H fun r70 h71 H=>zo Z Z Z (yb (z9f  r70 h71) U) (za (qt Z Z Z) (qe Z ⟨r70,H,⟨Z,U⟩,U⟩)))))))))))))))
       ·refine u2 h54 H fun h72 H=>zh Z Z h54 (zh Z Z h54 (za (yq Z (bFF h72) Z) (qd Z (zo Z Z Z (zg (.dat _) Z) (zo Z Z Z (ww Z) (zo Z Z Z (zg (.dat _) Z) (qv (j:=12) Z Z (fun h73 => ?_) (fun h73 => ?_) Z)))))))
        ·refine u1 h73 H fun h74 H=>zo Z Z h73 (zg (.dat _) Z) (zo Z Z h73 (qc Z Z) (zo Z Z Z (qt Z (bTT h74) Z) (zo Z Z Z (zg (.dat _) Z) (qv (j:=16) Z Z (fun h75 => ?_) (fun h75 => ?_) Z))))
         ·refine u1 h75 H fun h76 H=>zo Z Z h75 (zg (.dat _) Z) (zo Z Z h75 (zg (.dat _) Z) (zo Z Z h75 (qc Z Z) (zo Z Z Z (qt Z (bTT h76) Z) (za (yq Z Z Z) (qd Z (qv (j:=22) Z Z (fun h77 => ?_) (fun h77 => ?_) Z))))))
          ·exact u1 h77 H fun h78 H=>bE H fun r79 h80 H=>zo Z Z h77 (yb (z9f  r79 h80) U) (za (qt Z (bTT h78) Z) (qe Z ⟨r79,H,⟨Z,U⟩,U⟩))
          ·exact u2 h77 H fun h81 H=>zh Z Z h77 (za (yq Z (bFF h81) Z) (qe Z ⟨false,H,⟨Z,U⟩,U⟩))
         ·exact u2 h75 H fun h82 H=>zh Z Z h75 (zh Z Z h75 (zh Z Z h75 (zo Z Z Z (yq Z (bFF h82) Z) (za (yq Z Z Z) (qd Z (zh Z Z Z (za (yq Z Z Z) (qe Z ⟨false,H,⟨Z,U⟩,U⟩))))))))
        ·exact u2 h73 H fun h83 H=>zh Z Z h73 (zh Z Z h73 (zo Z Z Z (yq Z (bFF h83) Z) (zo Z Z Z (zg (.dat _) Z) (zh Z Z Z (zh Z Z Z (zh Z Z Z (zo Z Z Z (yq Z Z Z) (za (yq Z Z Z) (qd Z (zh Z Z Z (za (yq Z Z Z) (qe Z ⟨false,H,⟨Z,U⟩,U⟩))))))))))))
      ·refine u2 h52 H fun h84 H=>zh Z Z h52 (zh Z Z h52 (za (yq Z (bFF h84) Z) (qd Z (zh Z Z Z (zh Z Z Z (za (yq Z Z Z) (qd Z (zo Z Z Z (zg (.dat _) Z) (zo Z Z Z (ww Z) (zo Z Z Z (zg (.dat _) Z) (qv (j:=12) Z Z (fun h85 => ?_) (fun h85 => ?_) Z)))))))))))
       ·refine u1 h85 H fun h86 H=>zo Z Z h85 (zg (.dat _) Z) (zo Z Z h85 (qc Z Z) (zo Z Z Z (qt Z (bTT h86) Z) (zo Z Z Z (zg (.dat _) Z) (qv (j:=16) Z Z (fun h87 => ?_) (fun h87 => ?_) Z))))
        ·refine u1 h87 H fun h88 H=>zo Z Z h87 (zg (.dat _) Z) (zo Z Z h87 (zg (.dat _) Z) (zo Z Z h87 (qc Z Z) (zo Z Z Z (qt Z (bTT h88) Z) (za (yq Z Z Z) (qd Z (qv (j:=22) Z Z (fun h89 => ?_) (fun h89 => ?_) Z))))))
         ·exact u1 h89 H fun h90 H=>bE H fun r91 h92 H=>zo Z Z h89 (yb (z9f  r91 h92) U) (za (qt Z (bTT h90) Z) (qe Z ⟨r91,H,⟨Z,U⟩,U⟩))
         ·exact u2 h89 H fun h93 H=>zh Z Z h89 (za (yq Z (bFF h93) Z) (qe Z ⟨false,H,⟨Z,U⟩,U⟩))
        ·exact u2 h87 H fun h94 H=>zh Z Z h87 (zh Z Z h87 (zh Z Z h87 (zo Z Z Z (yq Z (bFF h94) Z) (za (yq Z Z Z) (qd Z (zh Z Z Z (za (yq Z Z Z) (qe Z ⟨false,H,⟨Z,U⟩,U⟩))))))))
       ·exact u2 h85 H fun h95 H=>zh Z Z h85 (zh Z Z h85 (zo Z Z Z (yq Z (bFF h95) Z) (zo Z Z Z (zg (.dat _) Z) (zh Z Z Z (zh Z Z Z (zh Z Z Z (zo Z Z Z (yq Z Z Z) (za (yq Z Z Z) (qd Z (zh Z Z Z (za (yq Z Z Z) (qe Z ⟨false,H,⟨Z,U⟩,U⟩))))))))))))
     ·rintro v96 H
      replace H:ky v96=some r:=H
      unfold ky at H
      refine zn ?_
      cases H
      exact ⟨U,.inl Z,U⟩
  ·rintro k37 x40 v36 q38 h97 h98 H hq38
   replace H:y3v k37 x40 v36=some q38:=H
   unfold y3v at H
   refine zc hN Z (za (ye Z Z) (zf (zi _ Z (fun h => ?_) (fun h=>(lt_f h97 h).elim))))
   exact zp (zf (yd (zc hN Z (za (wq Zx (fun _=>Z) Z Z h98) (za (wo jh Z (qg h98) Z) (zd (qf 3 Ww Z) Z (zd (yz jh Z Z Z Z) Z (zq hN Z (qd Z (za (zj xk Z) (ze (zl tyS3 Z Z) Z (za (yj _ Z Z (.inl ⟨Z,Z⟩)) (qe Z (zq hN Z (za (wa Z Z (by omega)) (qd Z ⟨_,qj H,⟨Z,Z,Z,Z,Z,Z,Z,Z,Z,Z,Z,Z,Z,U⟩,⟨Z,U⟩⟩))))))))))))))))
end Go.Proofs.YtnnfdgngnoamoaaGreatDoor
