/- Models and walks along them that rest on walks of other texts. Printed by a program. -/
import Derived.Test.YtgdijjmdfcgifaaGreatXdh9
namespace Go.Proofs.YtgdijjmdfcgifaaGreat
open Go.RowKit
set_option linter.unusedVariables false
set_option maxRecDepth 100000
set_option maxHeartbeats 2000000
noncomputable def z0t (v44:Bool):Option (Bool):=
 some v44
noncomputable def z2d (v55:Bool):Option (Bool):=
 some v55
noncomputable def z2e (r8:((List yf)×Int)) (v31:Bool):Option (Bool):=
 if v31 then some false else ((z1r r8.1).bind fun (r33:(va×Int))=>if decide ((r8.1.length:Int)=0) then (if decide (r33.2=8) then (if ((r33.1.Num == 0) && ((r33.1.Den == 0) && true)) then ((z69 ).bind fun (r40:(Bool))=>z0t r40) else (z0t false)) else (z0t false)) else (if decide (r33.2=0) then ((z6n r8.1).bind fun (r47:(va))=>if ((r33.1.Num == r47.Num) && ((r33.1.Den == r47.Den) && true)) then ((z69 ).bind fun (r51:(Bool))=>z2d r51) else (z2d false)) else (z2d false)))
noncomputable def z2f (r8:((List yf)×Int)) (v21:Int) (v25:(List yf)):Option (Bool):=
 if decide (r8.2≠v21) then (z2e r8 true) else ((z3z r8.1 v25).bind fun (r28:(Bool))=>z2e r8 (!r28))
noncomputable def z0u (r2:(qb×zr)) (r4:((List yi)×zr)) (r6:((List zz)×zr)) (r8:((List yf)×Int)) (v21:Int):Option (Bool):=
 if decide (v21=0) then ((z6p r2.1 r6.1 r4.1).bind fun (r23:((List yf)))=>z2f r8 v21 r23) else (z2f r8 v21 [])
noncomputable def y0c (v1:(List Int)):Option (Bool):=
 (z6z (zr.mk v1 0)).bind fun (r2:(qb×zr))=>(z66 r2.2 7).bind fun (r4:((List yi)×zr))=>(z63 r4.2 r2.1.Instances).bind fun (r6:((List zz)×zr))=>(Wa r2.1 r6.1 r4.1).bind fun (r8:((List yf)×Int))=>(z6m r2.1).bind fun (r10:(Int))=>if decide (r10=0) then ((z6q r2.1.Instances r6.1).bind fun (r13:(Int))=>(z6x r4.1).bind fun (r15:(Int))=>(z35 (decide ((r2.1.Instances.length:Int)=0)) 8).bind fun (r17:(Int))=>(z68 [r13,r15,r17]).bind fun (r19:(Int))=>z0u r2 r4 r6 r8 r19) else (z0u r2 r4 r6 r8 r10)
theorem x94 (v1:(List Int)) (r:(Bool)) (H:y0c v1=some r):Fn Tryz.prog 3 [vlst (List.map yl v1)] (zu [zn r]):=by
 refine ⟨by kernel_rfl,yr (us:=[zn r]) Tryz.func3 Z Z Z Z fun X hN => ?_⟩
 unfold y0c at H
 refine zb hN Z (qe Z (zb hN Z (qd Z (za (yb (u':=vagg (qk (zr.mk v1 0))) (vq [(0,[vlst (List.map yl v1)])] x2c x2s Z ⟨Z,.inl ⟨_,Z,Z,Z⟩,Z,U⟩) Z) (zi (vt 1 Z) Z (za (wo (.ptr _ _) Z) (zb hN Z (za (zg (.ptr _ _) Z) (bE H fun r2 h3 H=>zi (yu (x9u (zr.mk v1 0) r2 h3) Z U Z) Z (za (zg (.ptr _ _) Z) (bE H fun r4 h5 H=>zi (yu (x90 r2.2 7 r4 h5) Z ⟨.inl Z,U⟩ Z) Z (zi (qh 2 z2v Z) Z (zi (qf uq Z Z Z Z) Z (qe Z (zb hN Z (za (zg (.ptr _ _) Z) (za (ze kx Z) (zh (zj kd Z Z) Z (bE H fun r6 h7 H=>zi (yu (x9x r4.2 r2.1.Instances r6 h7) Z ⟨.inl Z,U⟩ Z) Z (qe Z ?_))))))))))))))))))))
 refine zb hN Z (zh (wm uq Z Z Z) Z (qd Z (qd Z (bE H fun r8 h9 H=>za (ye (x8p r2.1 r6.1 r4.1 r8 h9) ⟨.inl Z,.inl Z,.inl Z,U⟩) (qd Z (za (uc Z Z) (za (uc Z Z) (qe Z (qe Z (zb hN Z (zh (wm uq Z Z Z) Z (bE H fun r10 h11 H=>za (ye (x9d r2.1 r10 h11) ⟨.inl Z,U⟩) (qe Z (qi (ι:=Int) (fun i=>[(4,.ptr 2 0),(5,.dat (vlst (List.map wz r4.1))),(6,.dat (vlst (List.map qq r6.1))),(7,.dat (vlst (List.map wx r8.1))),(8,.dat (vint r8.2)),(9,.dat (vint i))]) (fun i=>[(2,.box none 32 [.dat (vlst (List.map ya r2.1.Instances)),.dat (vint r2.1.Tries),.dat (vint r2.1.Timeout),.dat (vint r2.1.Wait),.dat (vint r2.1.MostWait),.dat (vint r2.1.Budget.Window),.dat (vint r2.1.Budget.Least),.dat (vint r2.1.Budget.Part),.dat (vint r2.1.Outliers.Fails),.dat (vint r2.1.Outliers.Base),.dat (vint r2.1.Outliers.Most),.dat (vint r2.1.Outliers.Share)])]) (fun i=>z0u r2 r4 r6 r8 i=some r) (fun i=>Z) ?_ ?_))))))))))))))
 ·skip
  refine zb hN Z (qd Z (za (qz Z Z) (zk _ Z (fun h12 => ?_) (fun h12 => ?_))))
  ·refine tE h12 H fun H=>yo mixed hN Z Z (za (ze kx Z) (zh (zj kd Z Z) Z (qd Z (bE H fun r13 h14 H=>za (ye (x9i r2.1.Instances r6.1 r13 h14) ⟨.inl Z,.inl Z,U⟩) (qd Z (bE H fun r15 h16 H=>za (ye (x9r r4.1 r15 h16) ⟨.inl Z,U⟩) (za (ze kx Z) (zh (zj kd Z Z) Z (za (yx vw Z) (za (qz Z Z) (bE H fun r17 h18 H=>za (ye (x92 (decide ((r2.1.Instances.length:Int)=0)) 8 r17 h18) ⟨.inl Z,.inl Z,U⟩) (za (yb (u':=vlst (List.map y5a [r13,r15,r17])) (qr [[_],[_],[_]] x2z ⟨Z,.inl ⟨_,Z,Z,Z⟩,Z,Z,.inl ⟨_,Z,Z,Z⟩,Z,Z,.inl ⟨_,Z,Z,Z⟩,Z,U⟩ Z Z) Z) (bE H fun r19 h20 H=>za (ye (x93 [r13,r15,r17] r19 h20) ⟨.inl Z,U⟩) (qe Z ⟨Z,?_⟩))))))))))))))
   exact ⟨r19,H,⟨Z,Z,Z,Z,Z,Z,U⟩,⟨Z,U⟩⟩
  ·exact fE h12 H fun H=>zp ⟨r10,H,⟨Z,Z,Z,Z,Z,Z,U⟩,⟨Z,U⟩⟩
 ·rintro v21 H
  replace H:z0u r2 r4 r6 r8 v21=some r:=H
  unfold z0u at H
  refine zb hN Z (qe Z (w11 (ι:=(List yf)) (fun i=>[(7,.dat (vlst (List.map wx r8.1))),(8,.dat (vint r8.2)),(9,.dat (vint v21)),(10,.dat (vlst (List.map wx i)))]) (fun i=>[]) (fun i=>z2f r8 v21 i=some r) (fun i=>Z) (fun i=>Z) ?_ ?_))
  ·skip
   refine zb hN Z (qd Z (za (qz Z Z) (zk _ Z (fun h22 => ?_) (fun h22 => ?_))))
   ·exact tE h22 H fun H=>zm hN Z (zh (wm uq Z Z Z) Z (qd Z (qd Z (bE H fun r23 h24 H=>za (ye (x9h r2.1 r6.1 r4.1 r23 h24) ⟨.inl Z,.inl Z,.inl Z,U⟩) (qe Z ⟨r23,H,⟨.inl Z,.inl Z,.inl Z,.inl Z,U⟩,U⟩)))))
   ·exact fE h22 H fun H=>zp ⟨[],H,⟨.inl Z,.inl Z,.inl Z,.inr ⟨Z,Z⟩,U⟩,U⟩
  ·rintro v25 H
   replace H:z2f r8 v21 v25=some r:=H
   unfold z2f at H
   refine zd (qi (ι:=Bool) (fun i=>[(7,.dat (vlst (List.map wx r8.1))),(62,.dat (zn i))]) (fun i=>[]) (fun i=>z2e r8 i=some r) (fun i=>Z) ?_ ?_)
   ·skip
    refine zm hN Z (qd Z (qd Z (za (km Z Z) (qd Z (qo (j:=3) Z Z (fun h26 => ?_) (fun h26 => ?_) Z)))))
    ·exact u3 h26 H fun h27 H=>zf Z Z h26 (zg (.dat _) Z) (zf Z Z h26 (zg (.dat _) Z) (bE H fun r28 h29 H=>zf Z Z h26 (ye (x9g r8.1 v25 r28 h29) ⟨.inl Z,.inl Z,U⟩) (zf Z Z h26 (qs Z) (za (yn Z (bFF h27) Z) ⟨!r28,H,⟨Z,Z,U⟩,U⟩))))
    ·exact u4 h26 H fun h30 H=>zc Z Z h26 (zc Z Z h26 (zc Z Z h26 (zc Z Z h26 (za (yh Z (bTT h30) Z) ⟨true,H,⟨Z,Z,U⟩,U⟩))))
   ·rintro v31 H
    replace H:z2e r8 v31=some r:=H
    unfold z2e at H
    refine zk _ Z (fun h32 => ?_) (fun h32 => ?_)
    ·refine tE h32 H fun H=>zb hN Z (qe Z (zo ?_))
     cases H
     exact ⟨U,.inl Z,U⟩
    ·refine fE h32 H fun H=>zp (zb hN Z (qd Z (bE H fun r33 h34 H=>za (ye (x8o r8.1 r33 h34) ⟨.inl Z,U⟩) (qd Z (za (uc Z Z) (za (uc Z Z) (zi (qh 3 Yc Z) Z (zi (qf uo Z Z Z Z) Z (qe Z (zd (zb hN Z (qd Z (za (yx Yd Z) (za (qz Z Z) (zk _ Z (fun h35 => ?_) (fun h35 => ?_))))))))))))))))
     ·refine tE h35 H fun H=>qi (ι:=Bool) (fun i=>[(2,.dat (zn i))]) (fun i=>[]) (fun i=>z0t i=some r) (fun i=>Z) ?_ ?_
      ·skip
       refine zm hN Z (qd Z (za (qz Z Z) (qd Z (qo (j:=2) Z Z (fun h36 => ?_) (fun h36 => ?_) Z))))
       ·refine u1 h36 H fun h37 H=>yd Z Z h36 (wm uo Z Z Z) Z (zf Z Z h36 (yb (u':=vagg (kb (va.mk 0 0))) (vq [] Yc z5c Z U) Z) (zf Z Z h36 (y6t [_,_] [_,_] y5v Z Z Z) (za (yh Z (bTT h37) Z) (qd Z (qo (j:=7) Z Z (fun h38 => ?_) (fun h38 => ?_) Z)))))
        ·exact u1 h38 H fun h39 H=>bE H fun r40 h41 H=>zf Z Z h38 (ye (y9r  r40 h41) U) (za (yh Z (bTT h39) Z) (qe Z ⟨r40,H,⟨Z,U⟩,U⟩))
        ·exact u2 h38 H fun h42 H=>zc Z Z h38 (za (yn Z (bFF h42) Z) (qe Z ⟨false,H,⟨Z,U⟩,U⟩))
       ·exact u2 h36 H fun h43 H=>zc Z Z h36 (zc Z Z h36 (zc Z Z h36 (za (yn Z (bFF h43) Z) (qd Z (zc Z Z Z (za (yn Z Z Z) (qe Z ⟨false,H,⟨Z,U⟩,U⟩)))))))
      ·rintro v44 H
       replace H:z0t v44=some r:=H
       unfold z0t at H
       refine zo ?_
       cases H
       exact ⟨U,.inl Z,U⟩
     ·refine fE h35 H fun H=>zp (qi (ι:=Bool) (fun i=>[(2,.dat (zn i))]) (fun i=>[]) (fun i=>z2d i=some r) (fun i=>Z) ?_ ?_)
      ·skip
       refine yo mixed hN Z Z (qd Z (za (qz Z Z) (qd Z (qo (j:=2) Z Z (fun h45 => ?_) (fun h45 => ?_) Z))))
       ·refine u1 h45 H fun h46 H=>yd Z Z h45 (wm uo Z Z Z) Z (zf Z Z h45 (zg (.dat _) Z) (bE H fun r47 h48 H=>zf Z Z h45 (ye (x9e r8.1 r47 h48) ⟨.inl Z,U⟩) (zf Z Z h45 (y6t [_,_] [_,_] y5v Z Z Z) (za (yh Z (bTT h46) Z) (qd Z (qo (j:=8) Z Z (fun h49 => ?_) (fun h49 => ?_) Z))))))
        ·refine u1 h49 H fun h50 H=>bE H fun r51 h52 H=>zf Z Z h49 (ye (y9r  r51 h52) U) (za (yh Z (bTT h50) Z) (qe Z ⟨Z,?_⟩))
         exact ⟨r51,H,⟨Z,U⟩,U⟩
        ·refine u2 h49 H fun h53 H=>zc Z Z h49 (za (yn Z (bFF h53) Z) (qe Z ⟨Z,?_⟩))
         exact ⟨false,H,⟨Z,U⟩,U⟩
       ·refine u2 h45 H fun h54 H=>zc Z Z h45 (zc Z Z h45 (zc Z Z h45 (zc Z Z h45 (za (yn Z (bFF h54) Z) (qd Z (zc Z Z Z (za (yn Z Z Z) (qe Z ⟨Z,?_⟩))))))))
        exact ⟨false,H,⟨Z,U⟩,U⟩
      ·rintro v55 H
       replace H:z2d v55=some r:=H
       unfold z2d at H
       refine zo ?_
       cases H
       exact ⟨U,.inl Z,U⟩
end Go.Proofs.YtgdijjmdfcgifaaGreat
