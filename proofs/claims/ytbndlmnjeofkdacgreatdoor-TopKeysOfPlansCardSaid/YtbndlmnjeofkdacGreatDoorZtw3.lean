/- Walks along the models. Printed by a program. -/
import Derived.Test.YtbndlmnjeofkdacGreatDoorZtw2
namespace Go.Proofs.YtbndlmnjeofkdacGreatDoor
open Go.RowKit
set_option linter.unusedVariables false
set_option maxRecDepth 100000
set_option maxHeartbeats 2000000
theorem v1e (s1:zy) (v2:yh) (v3:(List yd)) (v4:Int) (r:((List zq)×zy)) (H:z44 s1 v2 v3 v4=some r):Imp Tryz.prog 19 25 (vf s1) [vagg (jo v2),vlst (List.map wd v3),vint v4] (zr [vlst (List.map yy r.1)]) (vf r.2):=by
 refine kv (us:=[vlst (List.map yy r.1)]) (cs':=(vf r.2)) (by kernel_rfl) Tryz.func19 Z Z Z Z fun X bl hN => ?_
 unfold z44 at H
 refine zb hN Z (zj (qu 1 Z) Z (qe Z (zb hN Z (qe Z (zb hN Z (qe Z (zd (zb hN Z (qd Z (qd Z (zu (uy 9 2 109 5 Z Z Z (gE H fun h11 H=>Zt (fun (k9:Nat) (s:Int×(List Int)×Int×(List zq))=>[(0,.ptr 0 0),(2,.dat (vlst (List.map wd v3))),(5,.ptr 1 0),(9,.row 2 s.2.2.2.length),(10,.dat (vint s.1)),(17,.dat (vint v4)),(18,.dat (vint (k9:Int)))]) (fun (k9:Nat) (s:Int×(List Int)×Int×(List zq))=>[(0,.box (some bl) 25 [.dat (vlst (List.map wi s.2.1)),.dat (vint s.2.2.1)]),(1,.box none 29 [.dat (vlst (List.map wb v2.Products)),.dat (vlst (List.map wj v2.Plans))]),(2,.row 109 5 (List.map yy s.2.2.2))]) (0,s1.L,s1.at_,[]) H ⟨Z,Z,Z,Z,Z,Z,Z,U⟩ ⟨Z,Z,Z,U⟩ (fun _ _=>Z) ?_ ?_)))))))))))))
 ·rintro ⟨v5,c6,c7,l8⟩ H
  replace H:y5t v5 c6 c7 l8=some r:=H
  unfold y5t at H
  refine zb hN Z (za (zw Z Z) (zd (zf _ Z (fun h=>(z5c h).elim) (fun h => ?_))))
  refine yp (zb hN Z (za (zh (.row _ _) Z) (bE H fun r12 h13 H=>gE H fun h14 H=>kq (rn [(0,2)]) [(0,_,_,some _)] [] (w7k l8 (fun (a0:zq) (a1:zq)=>Yg a0 a1) 48 [] (fun a0 a1 r h=>x03 a0 a1 r h) r12 h13) ⟨Z,U⟩ ⟨.inl (.inl Z),.inr ⟨_,Z,Z⟩,U⟩ ⟨⟨⟨Z,Z,Z⟩,by simp [Yb,h14]⟩,U⟩ Z ?_)))
  refine zd (zb hN Z (za (zh (.ptr _ _) Z) (bE H fun r15 h16 H=>zj (qt (z16 (zy.mk c6 c7) 60 r15 h16) Z ⟨.inl Z,U⟩ Z) Z (zf _ Z (fun h17 => ?_) (fun h17 => ?_)))))
  ·refine tE h17 H fun H=>zb hN Z (za (zh (.row _ _) Z) (za (wm (.row _ _) Z) (zg ?_)))
   cases H
   exact ⟨U,⟨Yx Z (h14).symm,U⟩,Z⟩
  ·refine fE h17 H fun H=>zl (zb hN Z (za (zh (.row _ _) Z) (bE H fun r18 h19 H=>kq (rn [(0,2),(900,3)]) [(0,_,_,none)] [(900,_)] (w7n r12 (fun (a0:zq) (a1:zq)=>z9o a0 a1) 50 [] (fun a0 a1 r h=>v1d a0 a1 r h) r18 h19) ⟨Z,Z,U⟩ ⟨.inl (.inl (congrArg (Slot.row 2) (h14).symm)),.inr ⟨_,Z,Z⟩,U⟩ ⟨⟨⟨Z,Z,Z⟩,U⟩,U⟩ Z (za (wm (.row _ _) Z) (zg ?_)))))
   cases H
   exact ⟨U,⟨Yx Z Z,U⟩,Z⟩
 ·rintro k9 ⟨v5,c6,c7,l8⟩ q10 h20 H hq10
  replace H:y5r v2 v3 k9 v5 c6 c7 l8=some q10:=H
  unfold y5r at H
  refine zb hN Z (za (zw Z Z) (zd (zf _ Z (fun h => ?_) (fun h=>(z5d h20 h).elim))))
  refine zl (yc (ι:=Int×(List zq)×(List Int)×Int) (fun i=>[(0,.ptr 0 0),(2,.dat (vlst (List.map wd v3))),(5,.ptr 1 0),(9,.row 2 i.2.1.length),(10,.dat (vint i.1)),(17,.dat (vint v4)),(18,.dat (vint (k9:Int)))]) (fun i=>[(0,.box (some bl) 25 [.dat (vlst (List.map wi i.2.2.1)),.dat (vint i.2.2.2)]),(1,.box none 29 [.dat (vlst (List.map wb v2.Products)),.dat (vlst (List.map wj v2.Plans))]),(2,.row 109 5 (List.map yy i.2.1))]) (fun i=>z0f i.1 i.2.1 i.2.2.1 i.2.2.2=some q10) (fun i=>Z) ?_ ?_)
  ·skip
   refine zu (zb hN Z (qd Z (za (zh (.ptr _ _) Z) (qd Z (za (y71 Z Z (by decide)) (za (yl _ Z Z (.inr (.inl ⟨Z,Z⟩))) (za (yg (u':=vlst (List.map wi [1,5,86400000,864000000,2592000000,wr (2592000000 - (Int.tmod v5 2592000000))])) (qy [[_],[_],[_],[_],[_],[_]] kf ⟨Z,.inl ⟨_,Z,Z,Z⟩,Z,Z,.inl ⟨_,Z,Z,Z⟩,Z,Z,.inl ⟨_,Z,Z,Z⟩,Z,Z,.inl ⟨_,Z,Z,Z⟩,Z,Z,.inl ⟨_,Z,Z,Z⟩,Z,Z,.inl ⟨_,Z,Z,Z⟩,Z,U⟩ Z Z) Z) (bE H fun r21 h22 H=>zj (qt (xi (zy.mk c6 c7) [1,5,86400000,864000000,2592000000,wr (2592000000 - (Int.tmod v5 2592000000))] r21 h22) Z ⟨.inl Z,U⟩ Z) Z (za (yl _ Z Z (.inl ⟨Z,Z⟩)) (qe Z (zb hN Z (qd Z (za (zh (.ptr _ _) Z) (za (yg (u':=vlst (List.map zt [[97,112,112,49],[97,112,112,49],[97,112,112,50]])) (qy [[_],[_],[_]] vn ⟨Z,.inl ⟨_,Z,Z,Z⟩,Z,Z,.inl ⟨_,Z,Z,Z⟩,Z,Z,.inl ⟨_,Z,Z,Z⟩,Z,U⟩ Z Z) Z) (bE H fun r23 h24 H=>zj (qt (Wx r21.2 ([[97,112,112,49],[97,112,112,49],[97,112,112,50]]) r23 h24) Z ⟨.inl Z,U⟩ Z) Z (za (zh (.ptr _ _) Z) (za (yg (u':=vlst (List.map zt [[115,104,111,112],[115,104,111,112],[109,97,112,115]])) (qy [[_],[_],[_]] vn ⟨Z,.inl ⟨_,Z,Z,Z⟩,Z,Z,.inl ⟨_,Z,Z,Z⟩,Z,Z,.inl ⟨_,Z,Z,Z⟩,Z,U⟩ Z Z) Z) (bE H fun r25 h26 H=>zj (qt (Wx r23.2 ([[115,104,111,112],[115,104,111,112],[109,97,112,115]]) r25 h26) Z ⟨.inl Z,U⟩ Z) Z (za (zh (.ptr _ _) Z) (bE H fun r27 h28 H=>?_))))))))))))))))))))
   refine zj (qt (z96 r25.2 1 6 r27 h28) Z ⟨.inl Z,.inl Z,U⟩ Z) Z (za (yg (u':=vagg (yy (zq.mk (wr (v5+r21.1)) r23.1 r25.1 r27.1 []))) (qv [(0,[vint (wr (v5+r21.1))]),(1,[vstr r23.1]),(2,[vstr r25.1]),(3,[vint r27.1])] z0k w1n Z ⟨Z,.inl ⟨_,Z,Z,Z⟩,Z,Z,.inl ⟨_,Z,Z,Z⟩,Z,Z,.inl ⟨_,Z,Z,Z⟩,Z,Z,.inl ⟨_,Z,Z,Z⟩,Z,U⟩) Z) (zj (qm 4 z0k Z) Z (zj (yo vx Z Z Z Z) Z (yc (ι:=(List Int)×Int×Bs) (fun i=>[(0,.ptr 0 0),(2,.dat (vlst (List.map wd v3))),(5,.ptr 1 0),(9,.row 2 l8.length),(10,.dat (vint (wr (v5+r21.1)))),(11,.ptr 4 0),(17,.dat (vint v4)),(18,.dat (vint (k9:Int)))]) (fun i=>[(0,.box (some bl) 25 [.dat (vlst (List.map wi i.1)),.dat (vint i.2.1)]),(1,.box none 29 [.dat (vlst (List.map wb v2.Products)),.dat (vlst (List.map wj v2.Plans))]),(2,.row 109 5 (List.map yy l8)),(4,.box none 109 [.dat (vint (wr (v5+r21.1))),.dat (vstr i.2.2),.dat (vstr r25.1),.dat (vint r27.1),.dat (vstr [])])]) (fun i=>z0e v2 v5 l8 r21 r25 r27 i.1 i.2.1 i.2.2=some q10) (fun i=>Z) ?_ ?_))))
   ·skip
    refine yc (ι:=Bool×(List Int)×Int) (fun i=>[(0,.ptr 0 0),(2,.dat (vlst (List.map wd v3))),(5,.ptr 1 0),(9,.row 2 l8.length),(10,.dat (vint (wr (v5+r21.1)))),(11,.ptr 4 0),(17,.dat (vint v4)),(18,.dat (vint (k9:Int))),(44,.dat (zi i.1))]) (fun i=>[(0,.box (some bl) 25 [.dat (vlst (List.map wi i.2.1)),.dat (vint i.2.2)]),(1,.box none 29 [.dat (vlst (List.map wb v2.Products)),.dat (vlst (List.map wj v2.Plans))]),(2,.row 109 5 (List.map yy l8)),(4,.box none 109 [.dat (vint (wr (v5+r21.1))),.dat (vstr r23.1),.dat (vstr r25.1),.dat (vint r27.1),.dat (vstr [])])]) (fun i=>z5x v2 v3 v5 l8 r21 r23 r25 r27 i.1 i.2.1 i.2.2=some q10) (fun i=>Z) ?_ ?_
    ·skip
     refine zk hN Z (qd Z (za (yk Qr Z) (za (qh Z Z) (qd Z (yi (j:=3) Z Z (fun h29 => ?_) (fun h29 => ?_) Z)))))
     ·exact u1 h29 H fun h30 H=>ze Z Z h29 (zh (.ptr _ _) Z) (bE H fun r31 h32 H=>w44 Z Z h29 (qt (z16 r27.2 3 r31 h32) Z ⟨.inl Z,U⟩ Z) Z (za (yb Z (bTT h30) Z) ⟨(r31.1,r31.2.L,r31.2.at_),H,⟨Z,Z,Z,Z,Z,Z,Z,Z,Z,U⟩,⟨Z,Z,Z,Z,U⟩⟩))
     ·exact u2 h29 H fun h33 H=>zc Z Z h29 (zc Z Z h29 (za (ya Z (bFF h33) Z) ⟨(false,r27.2.L,r27.2.at_),H,⟨Z,Z,Z,Z,Z,Z,Z,Z,Z,U⟩,⟨Z,Z,Z,Z,U⟩⟩))
    ·rintro ⟨v34,c35,c36⟩ H
     replace H:z5x v2 v3 v5 l8 r21 r23 r25 r27 v34 c35 c36=some q10:=H
     unfold z5x at H
     refine zf _ Z (fun h37 => ?_) (fun h37 => ?_)
     ·exact tE h37 H fun H=>zk hN Z (qd Z (za (zh (.ptr _ _) Z) (qd Z (za (yk Qr Z) (bE H fun r38 h39 H=>zj (qt (z15 (zy.mk c35 c36) (v3.length:Int) r38 h39) Z ⟨.inl Z,U⟩ Z) Z (bE H fun x40 h41 H=>za (wx Qy (fun _=>Z) Z Z h41) (za (vr Yu Z) (za (yr tyS9 Z (ym (qk h41).2) Z) (za (zn xp Z) (zj (wa tyS9 Z Z Z Z) Z ⟨(r38.2.L,r38.2.at_,x40.Key),H,⟨Z,Z,Z,Z,Z,Z,Z,Z,U⟩,⟨Z,Z,Z,Z,U⟩⟩))))))))))
     ·exact fE h37 H fun H=>zl ⟨(c35,c36,r23.1),H,⟨Z,Z,Z,Z,Z,Z,Z,Z,U⟩,⟨Z,Z,Z,Z,U⟩⟩
   ·rintro ⟨c42,c43,c44⟩ H
    replace H:z0e v2 v5 l8 r21 r25 r27 c42 c43 c44=some q10:=H
    unfold z0e at H
    refine zb hN Z (qe Z (zd (zb hN Z (za (zn uj Z) (zm (zp ui Z Z) Z (za (yk z0l Z) (qd Z (zu (uy 12 5 9 1 Z Z Z (gE H fun h48 H=>qq (fun (k46:Nat) (s:(List Bs))=>[(0,.ptr 0 0),(2,.dat (vlst (List.map wd v3))),(5,.ptr 1 0),(9,.row 2 l8.length),(10,.dat (vint (wr (v5+r21.1)))),(11,.ptr 4 0),(12,.row 5 s.length),(17,.dat (vint v4)),(18,.dat (vint (k9:Int))),(55,.dat (vlst (List.map wj v2.Plans))),(56,.dat (vint (v2.Plans.length:Int))),(57,.dat (vint (k46:Int)))]) (fun (k46:Nat) (s:(List Bs))=>[(0,.box (some bl) 25 [.dat (vlst (List.map wi c42)),.dat (vint c43)]),(1,.box none 29 [.dat (vlst (List.map wb v2.Products)),.dat (vlst (List.map wj v2.Plans))]),(2,.row 109 5 (List.map yy l8)),(4,.box none 109 [.dat (vint (wr (v5+r21.1))),.dat (vstr c44),.dat (vstr r25.1),.dat (vint r27.1),.dat (vstr [])]),(5,.row 9 1 (List.map zt s))]) [] H ⟨Z,Z,Z,Z,Z,Z,Z,Z,Z,Z,Z,Z,U⟩ ⟨Z,Z,Z,Z,Z,U⟩ (fun _ _=>Z) ?_ ?_))))))))))
    ·rintro l45 H
     replace H:y5s v2 v5 l8 r21 r25 r27 c42 c43 c44 l45=some q10:=H
     unfold y5s at H
     refine zb hN Z (za (zw Z Z) (zd (zf _ Z (fun h=>(lt_t h).elim) (fun h => ?_))))
     refine yp (yc (ι:=(List Int)×Int×Int) (fun i=>[(0,.ptr 0 0),(2,.dat (vlst (List.map wd v3))),(5,.ptr 1 0),(9,.row 2 l8.length),(10,.dat (vint (wr (v5+r21.1)))),(11,.ptr 4 0),(12,.row 5 l45.length),(17,.dat (vint v4)),(18,.dat (vint (k9:Int)))]) (fun i=>[(0,.box (some bl) 25 [.dat (vlst (List.map wi i.1)),.dat (vint i.2.1)]),(1,.box none 29 [.dat (vlst (List.map wb v2.Products)),.dat (vlst (List.map wj v2.Plans))]),(2,.row 109 5 (List.map yy l8)),(4,.box none 109 [.dat (vint (wr (v5+r21.1))),.dat (vstr c44),.dat (vstr r25.1),.dat (vint i.2.2),.dat (vstr [])]),(5,.row 9 1 (List.map zt l45))]) (fun i=>Zr v5 l8 r21 r25 c44 l45 i.1 i.2.1 i.2.2=some q10) (fun i=>Z) ?_ ?_)
     ·skip
      refine yc (ι:=Bool×(List Int)×Int) (fun i=>[(0,.ptr 0 0),(2,.dat (vlst (List.map wd v3))),(5,.ptr 1 0),(9,.row 2 l8.length),(10,.dat (vint (wr (v5+r21.1)))),(11,.ptr 4 0),(12,.row 5 l45.length),(17,.dat (vint v4)),(18,.dat (vint (k9:Int))),(79,.dat (zi i.1))]) (fun i=>[(0,.box (some bl) 25 [.dat (vlst (List.map wi i.2.1)),.dat (vint i.2.2)]),(1,.box none 29 [.dat (vlst (List.map wb v2.Products)),.dat (vlst (List.map wj v2.Plans))]),(2,.row 109 5 (List.map yy l8)),(4,.box none 109 [.dat (vint (wr (v5+r21.1))),.dat (vstr c44),.dat (vstr r25.1),.dat (vint r27.1),.dat (vstr [])]),(5,.row 9 1 (List.map zt l45))]) (fun i=>z0d v2 v5 l8 r21 r25 r27 c44 l45 i.1 i.2.1 i.2.2=some q10) (fun i=>Z) ?_ ?_
      ·skip
       refine zk hN Z (za (zh (.ptr _ _) Z) (bE H fun r50 h51 H=>zj (qt (z16 (zy.mk c42 c43) 4 r50 h51) Z ⟨.inl Z,U⟩ Z) Z (za (yv Z) (qd Z (yi (j:=3) Z Z (fun h52 => ?_) (fun h52 => ?_) Z)))))
       ·exact u1 h52 H fun h53 H=>qz Z Z h52 (qc vj Z Z Z) Z (bE H fun r54 h55 H=>ze Z Z h52 (zo (x8n v2 r54 h55) ⟨.inl Z,U⟩) (ze Z Z h52 (yn Z Z) (za (yb Z (bTT h53) Z) ⟨(decide (r54=0),r50.2.L,r50.2.at_),H,⟨Z,Z,Z,Z,Z,Z,Z,Z,Z,Z,U⟩,⟨Z,Z,Z,Z,Z,U⟩⟩)))
       ·exact u2 h52 H fun h56 H=>zc Z Z h52 (zc Z Z h52 (zc Z Z h52 (za (ya Z (bFF h56) Z) ⟨(false,r50.2.L,r50.2.at_),H,⟨Z,Z,Z,Z,Z,Z,Z,Z,Z,Z,U⟩,⟨Z,Z,Z,Z,Z,U⟩⟩)))
      ·rintro ⟨v57,c58,c59⟩ H
       replace H:z0d v2 v5 l8 r21 r25 r27 c44 l45 v57 c58 c59=some q10:=H
       unfold z0d at H
       refine zf _ Z (fun h60 => ?_) (fun h60 => ?_)
       ·refine tE h60 H fun H=>zb hN Z (zm (qc vj Z Z Z) Z (za (zh (.row _ _) Z) (za (zn xp Z) (zm (zp tyS9 Z Z) Z (za (zn uo Z) (zm (zp tyS9 Z Z) Z (bE H fun r61 h62 H=>kq (rn [(0,2)]) [(0,_,_,some _)] [] (w7g v2 l8 c44 r25.1 r61 h62) ⟨Z,U⟩ ⟨.inl (.inl Z),.inl (.inl Z),.inl (.inl Z),.inl (.inl Z),U⟩ ⟨⟨⟨Z,Z,Z⟩,by simp [Yb]⟩,U⟩ Z ?_)))))))
        refine qd Z (za (ye Z Z) (za (ye Z Z) (qe Z (qe Z (zb hN Z (qd Z (qd Z (za (yk x3t Z) (za (yl _ Z Z (.inr (.inl ⟨Z,Z⟩))) (bE H fun x63 h64 H=>za (wx x4z (fun _=>Z) Z Z h64) (za (vr jr Z) (za (yr tyS3 Z (ym (qk h64).2) Z) (zu (zb hN Z (za (yn Z Z) (qe Z (zf _ Z (fun h65 => ?_) (fun h65 => ?_))))))))))))))))))
        ·exact tE h65 H fun H=>zk hN Z (za (zh (.ptr _ _) Z) (za (yg (u':=vlst (List.map wi [2,2,3])) (qy [[_],[_],[_]] kf ⟨Z,.inl ⟨_,Z,Z,Z⟩,Z,Z,.inl ⟨_,Z,Z,Z⟩,Z,Z,.inl ⟨_,Z,Z,Z⟩,Z,U⟩ Z Z) Z) (bE H fun r66 h67 H=>zj (qt (xi (zy.mk c58 c59) [2,2,3] r66 h67) Z ⟨.inl Z,U⟩ Z) Z (za (zn jt Z) (zj (wa tyS3 Z Z Z Z) Z ⟨(r66.2.L,r66.2.at_,r66.1),H,⟨Z,Z,Z,Z,Z,Z,Z,Z,Z,U⟩,⟨Z,Z,Z,Z,Z,U⟩⟩)))))
        ·refine fE h65 H fun H=>zb hN Z (za (yn Z Z) (qe Z (zf _ Z (fun h68 => ?_) (fun h68 => ?_))))
         ·exact tE h68 H fun H=>zk hN Z (za (zh (.ptr _ _) Z) (za (yg (u':=vlst (List.map wi [4,6,1])) (qy [[_],[_],[_]] kf ⟨Z,.inl ⟨_,Z,Z,Z⟩,Z,Z,.inl ⟨_,Z,Z,Z⟩,Z,Z,.inl ⟨_,Z,Z,Z⟩,Z,U⟩ Z Z) Z) (bE H fun r69 h70 H=>zj (qt (xi (zy.mk c58 c59) [4,6,1] r69 h70) Z ⟨.inl Z,U⟩ Z) Z (za (zn jt Z) (zj (wa tyS3 Z Z Z Z) Z ⟨(r69.2.L,r69.2.at_,r69.1),H,⟨Z,Z,Z,Z,Z,Z,Z,Z,Z,U⟩,⟨Z,Z,Z,Z,Z,U⟩⟩)))))
         ·refine fE h68 H fun H=>zb hN Z (za (yn Z Z) (qe Z (zf _ Z (fun h71 => ?_) (fun h71 => ?_))))
          ·exact tE h71 H fun H=>zk hN Z (za (zh (.ptr _ _) Z) (za (yg (u':=vlst (List.map wi [5,6])) (qy [[_],[_]] kf ⟨Z,.inl ⟨_,Z,Z,Z⟩,Z,Z,.inl ⟨_,Z,Z,Z⟩,Z,U⟩ Z Z) Z) (bE H fun r72 h73 H=>zj (qt (xi (zy.mk c58 c59) [5,6] r72 h73) Z ⟨.inl Z,U⟩ Z) Z (za (zn jt Z) (zj (wa tyS3 Z Z Z Z) Z ⟨(r72.2.L,r72.2.at_,r72.1),H,⟨Z,Z,Z,Z,Z,Z,Z,Z,Z,U⟩,⟨Z,Z,Z,Z,Z,U⟩⟩)))))
          ·exact fE h71 H fun H=>zk hN Z (za (zn jt Z) (zj (wa tyS3 Z Z Z Z) Z ⟨(c58,c59,1),H,⟨Z,Z,Z,Z,Z,Z,Z,Z,Z,U⟩,⟨Z,Z,Z,Z,Z,U⟩⟩))
       ·exact fE h60 H fun H=>zl ⟨(c58,c59,r27.1),H,⟨Z,Z,Z,Z,Z,Z,Z,Z,Z,U⟩,⟨Z,Z,Z,Z,Z,U⟩⟩
     ·rintro ⟨c74,c75,c76⟩ H
      replace H:Zr v5 l8 r21 r25 c44 l45 c74 c75 c76=some q10:=H
      unfold Zr at H
      refine yc (ι:=(List Int)×Int×Bs) (fun i=>[(0,.ptr 0 0),(2,.dat (vlst (List.map wd v3))),(5,.ptr 1 0),(9,.row 2 l8.length),(10,.dat (vint (wr (v5+r21.1)))),(11,.ptr 4 0),(17,.dat (vint v4)),(18,.dat (vint (k9:Int)))]) (fun i=>[(0,.box (some bl) 25 [.dat (vlst (List.map wi i.1)),.dat (vint i.2.1)]),(1,.box none 29 [.dat (vlst (List.map wb v2.Products)),.dat (vlst (List.map wj v2.Plans))]),(2,.row 109 5 (List.map yy l8)),(4,.box none 109 [.dat (vint (wr (v5+r21.1))),.dat (vstr c44),.dat (vstr r25.1),.dat (vint c76),.dat (vstr i.2.2)])]) (fun i=>z2j v5 l8 r21 r25 c44 c76 i.1 i.2.1 i.2.2=some q10) (fun i=>Z) ?_ ?_
      ·skip
       refine zb hN Z (za (zn jt Z) (zm (zp tyS3 Z Z) Z (za (yn Z Z) (zf _ Z (fun h77 => ?_) (fun h77 => ?_)))))
       ·refine tE h77 H fun H=>zd (zb hN Z (za (zh (.row _ _) Z) (zm (Yy qr Z Z) Z (za (yn Z Z) (zf _ Z (fun h78 => ?_) (fun h78 => ?_))))))
        ·exact tE h78 H fun H=>yp ⟨(wr (v5+r21.1),l8,c74,c75),H,⟨Z,Z,Z,Z,Z,Z,Z,U⟩,⟨Z,Z,Z,U⟩⟩
        ·exact fE h78 H fun H=>zl (zk hN Z (za (zh (.row _ _) Z) (za (zh (.ptr _ _) Z) (za (zh (.row _ _) Z) (zm (Yy qr Z Z) Z (bE H fun r79 h80 H=>zj (qt (z15 (zy.mk c74 c75) (l45.length:Int) r79 h80) Z ⟨.inl Z,U⟩ Z) Z (bE H fun x81 h82 H=>zm (Zy wv Z Z Z h82) Z (zm (z0x tyS9 Z Z (qk h82).2 Z) Z (za (zn xd Z) (zj (wa tyS9 Z Z Z Z) Z ⟨(r79.2.L,r79.2.at_,x81),H,⟨Z,Z,Z,Z,Z,Z,Z,Z,U⟩,⟨Z,Z,Z,Z,U⟩⟩))))))))))
       ·exact fE h77 H fun H=>zl ⟨(c74,c75,[]),H,⟨Z,Z,Z,Z,Z,Z,Z,Z,U⟩,⟨Z,Z,Z,Z,U⟩⟩
      ·rintro ⟨c83,c84,c85⟩ H
       replace H:z2j v5 l8 r21 r25 c44 c76 c83 c84 c85=some q10:=H
       unfold z2j at H
       refine yc (ι:=(List Int)×Int×Int×Bs×Bs×Int×Bs) (fun i=>[(0,.ptr 0 0),(2,.dat (vlst (List.map wd v3))),(5,.ptr 1 0),(9,.row 2 l8.length),(10,.dat (vint (wr (v5+r21.1)))),(11,.ptr 4 0),(17,.dat (vint v4)),(18,.dat (vint (k9:Int)))]) (fun i=>[(0,.box (some bl) 25 [.dat (vlst (List.map wi i.1)),.dat (vint i.2.1)]),(1,.box none 29 [.dat (vlst (List.map wb v2.Products)),.dat (vlst (List.map wj v2.Plans))]),(2,.row 109 5 (List.map yy l8)),(4,.box none 109 [.dat (vint i.2.2.1),.dat (vstr i.2.2.2.1),.dat (vstr i.2.2.2.2.1),.dat (vint i.2.2.2.2.2.1),.dat (vstr i.2.2.2.2.2.2)])]) (fun i=>Zq v5 l8 r21 i.1 i.2.1 i.2.2.1 i.2.2.2.1 i.2.2.2.2.1 i.2.2.2.2.2.1 i.2.2.2.2.2.2=some q10) (fun i=>Z) ?_ ?_
       ·skip
        refine zb hN Z (za (zh (.ptr _ _) Z) (bE H fun r86 h87 H=>zj (qt (z16 (zy.mk c83 c84) 60 r86 h87) Z ⟨.inl Z,U⟩ Z) Z (zf _ Z (fun h88 => ?_) (fun h88 => ?_))))
        ·refine tE h88 H fun H=>zb hN Z (za (zh (.ptr _ _) Z) (bE H fun r89 h90 H=>zj (qt (z15 r86.2 5 r89 h90) Z ⟨.inl Z,U⟩ Z) Z (zu (zb hN Z (za (yn Z Z) (qe Z (zf _ Z (fun h91 => ?_) (fun h91 => ?_))))))))
         ·exact tE h91 H fun H=>zk hN Z (za (zh (.ptr _ _) Z) (bE H fun r92 h93 H=>zj (qt (v1f r89.2 r92 h93) Z U Z) Z (za (zn xp Z) (zj (wa tyS9 Z Z Z Z) Z ⟨(r92.2.L,r92.2.at_,(wr (v5+r21.1)),r92.1,r25.1,c76,c85),H,⟨Z,Z,Z,Z,Z,Z,Z,Z,U⟩,⟨Z,Z,Z,Z,U⟩⟩))))
         ·refine fE h91 H fun H=>zb hN Z (za (yn Z Z) (qe Z (zf _ Z (fun h94 => ?_) (fun h94 => ?_))))
          ·exact tE h94 H fun H=>zk hN Z (za (zh (.ptr _ _) Z) (bE H fun r95 h96 H=>zj (qt (v1c r89.2 r95 h96) Z U Z) Z (za (zn uo Z) (zj (wa tyS9 Z Z Z Z) Z ⟨(r95.2.L,r95.2.at_,(wr (v5+r21.1)),c44,r95.1,c76,c85),H,⟨Z,Z,Z,Z,Z,Z,Z,Z,U⟩,⟨Z,Z,Z,Z,U⟩⟩))))
          ·refine fE h94 H fun H=>zb hN Z (za (yn Z Z) (qe Z (zf _ Z (fun h97 => ?_) (fun h97 => ?_))))
           ·exact tE h97 H fun H=>zk hN Z (za (zh (.ptr _ _) Z) (bE H fun r98 h99 H=>zj (qt (x8o r89.2 1 6 r98 h99) Z ⟨.inl Z,.inl Z,U⟩ Z) Z (za (zn jt Z) (zj (wa tyS3 Z Z Z Z) Z ⟨(r98.2.L,r98.2.at_,(wr (v5+r21.1)),c44,r25.1,r98.1,c85),H,⟨Z,Z,Z,Z,Z,Z,Z,Z,U⟩,⟨Z,Z,Z,Z,U⟩⟩))))
           ·refine fE h97 H fun H=>zb hN Z (za (yn Z Z) (qe Z (zf _ Z (fun h100 => ?_) (fun h100 => ?_))))
            ·exact tE h100 H fun H=>zk hN Z (za (zh (.ptr _ _) Z) (za (yg (u':=vlst (List.map zt [[98,105,103],[110,111,110,101],[]])) (qy [[_],[_],[_]] vn ⟨Z,.inl ⟨_,Z,Z,Z⟩,Z,Z,.inl ⟨_,Z,Z,Z⟩,Z,Z,.inl ⟨_,Z,Z,Z⟩,Z,U⟩ Z Z) Z) (bE H fun r101 h102 H=>zj (qt (Wx r89.2 ([[98,105,103],[110,111,110,101],[]]) r101 h102) Z ⟨.inl Z,U⟩ Z) Z (za (zn xd Z) (zj (wa tyS9 Z Z Z Z) Z ⟨(r101.2.L,r101.2.at_,(wr (v5+r21.1)),c44,r25.1,c76,r101.1),H,⟨Z,Z,Z,Z,Z,Z,Z,Z,U⟩,⟨Z,Z,Z,Z,U⟩⟩)))))
            ·exact fE h100 H fun H=>zk hN Z (za (zh (.ptr _ _) Z) (bE H fun r103 h104 H=>zj (qt (x8o r89.2 0 1000 r103 h104) Z ⟨.inl Z,.inl Z,U⟩ Z) Z (za (zn kg Z) (zj (wa tyS3 Z Z Z Z) Z ⟨(r103.2.L,r103.2.at_,r103.1,c44,r25.1,c76,c85),H,⟨Z,Z,Z,Z,Z,Z,Z,Z,U⟩,⟨Z,Z,Z,Z,U⟩⟩))))
        ·exact fE h88 H fun H=>zl ⟨(r86.2.L,r86.2.at_,(wr (v5+r21.1)),c44,r25.1,c76,c85),H,⟨Z,Z,Z,Z,Z,Z,Z,Z,U⟩,⟨Z,Z,Z,Z,U⟩⟩
       ·rintro ⟨c105,c106,c107,c108,c109,c110,c111⟩ H
        replace H:Zq v5 l8 r21 c105 c106 c107 c108 c109 c110 c111=some q10:=H
        unfold Zq at H
        refine zk hN Z (za (zh (.row _ _) Z) (zm (qc vx Z Z Z) Z (za (yg (u':=vlst (List.map yy [(zq.mk c107 c108 c109 c110 c111)])) (qy [_] x38 ⟨Z,.inr Z,Z,U⟩ Z Z) Z) (gE H fun h112 H=>zj (ko x38 (fun _=>Z) Z Z Z ⟨by simp,by first | (simp; done) | simpa using h112⟩ Z) Z ?_))))
        exact za (wm (.row _ _) Z) ⟨(wr (v5+r21.1),(l8++[(zq.mk c107 c108 c109 c110 c111)]),c105,c106),H,⟨Z,Z,Z,Z,Z,Z,Z,U⟩,⟨Z,Z,Z,U⟩⟩
    ·rintro k46 x49 l45 q47 h113 h114 H hq47
     replace H:y5q r25 k46 x49 l45=some q47:=H
     unfold y5q at H
     refine zb hN Z (za (zw Z Z) (zd (zf _ Z (fun h => ?_) (fun h=>(lt_f h113 h).elim))))
     refine zl (yc (ι:=(List Bs)) (fun i=>[(0,.ptr 0 0),(2,.dat (vlst (List.map wd v3))),(5,.ptr 1 0),(9,.row 2 l8.length),(10,.dat (vint (wr (v5+r21.1)))),(11,.ptr 4 0),(12,.row 5 i.length),(17,.dat (vint v4)),(18,.dat (vint (k9:Int))),(55,.dat (vlst (List.map wj v2.Plans))),(56,.dat (vint (v2.Plans.length:Int))),(57,.dat (vint (k46:Int)))]) (fun i=>[(0,.box (some bl) 25 [.dat (vlst (List.map wi c42)),.dat (vint c43)]),(1,.box none 29 [.dat (vlst (List.map wb v2.Products)),.dat (vlst (List.map wj v2.Plans))]),(2,.row 109 5 (List.map yy l8)),(4,.box none 109 [.dat (vint (wr (v5+r21.1))),.dat (vstr c44),.dat (vstr r25.1),.dat (vint r27.1),.dat (vstr [])]),(5,.row 9 1 (List.map zt i))]) (fun i=>z5y i=some q47) (fun i=>Z) ?_ ?_)
     ·skip
      refine zu (zb hN Z (za (qp Zj (fun _=>Z) Z Z h114) (za (vg ka Z (ym h114) Z) (zj (qm 6 Ys Z) Z (zj (yo ka Z Z Z Z) Z (zb hN Z (za (zn z6o Z) (zm (zp tyS9 Z Z) Z (za (zn uo Z) (zm (zp tyS9 Z Z) Z (za (vz Z Z) (zf _ Z (fun h115 => ?_) (fun h115 => ?_)))))))))))))
      ·refine tE h115 H fun H=>zk hN Z (za (zh (.row _ _) Z) (za (zn xc Z) (zm (zp tyS9 Z Z) Z (za (yg (u':=vlst (List.map zt [x49.Key])) (qy [[_]] vn ⟨Z,.inl ⟨_,Z,Z,Z⟩,Z,U⟩ Z Z) Z) (gE H fun h116 H=>zj (ko vn (fun _=>Z) Z Z Z ⟨by simp,by first | (simp; done) | simpa using h116⟩ Z) Z ?_)))))
       exact za (wm (.row _ _) Z) ⟨(l45++[x49.Key]),H,⟨Z,Z,Z,Z,Z,Z,Z,Z,Z,Z,Z,Z,U⟩,⟨Z,Z,Z,Z,Z,U⟩⟩
      ·exact fE h115 H fun H=>zl ⟨l45,H,⟨Z,Z,Z,Z,Z,Z,Z,Z,Z,Z,Z,Z,U⟩,⟨Z,Z,Z,Z,Z,U⟩⟩
     ·rintro v117 H
      replace H:z5y v117=some q47:=H
      unfold z5y at H
      exact zk hN Z (za (qi Z Z (by omega)) (qd Z ⟨_,yw H,⟨Z,Z,Z,Z,Z,Z,Z,Z,Z,Z,Z,Z,U⟩,⟨Z,Z,Z,Z,Z,U⟩⟩))
  ·rintro ⟨v118,v119,c120,c121⟩ H
   replace H:z0f v118 v119 c120 c121=some q10:=H
   unfold z0f at H
   exact zk hN Z (za (qi Z Z (by omega)) (qd Z ⟨_,yw H,⟨Z,Z,Z,Z,Z,Z,Z,U⟩,⟨Z,Z,Z,U⟩⟩))
theorem v05 (l1:(List yd)) (r:(Int)) (H:z9j l1=some r):Fn Tryz.prog 106 [vlst (List.map wd l1)] (zr [vint r]):=by
 refine ⟨by kernel_rfl,zx (us:=[vint r]) Tryz.func106 Z Z Z Z fun X hN => ?_⟩
 unfold z9j at H
 refine zb hN Z (qe Z (zd (zb hN Z (qd Z (za (yk Qr Z) (za (qh Z Z) (zf _ Z (fun h2 => ?_) (fun h2 => ?_))))))))
 ·refine tE h2 H fun H=>zb hN Z (qe Z (zg ?_))
  cases H
  exact ⟨U,.inl Z,U⟩
 ·refine fE h2 H fun H=>zl (zb hN Z (qe Z (zd (zb hN Z (qd Z (za (yk Qr Z) (qd Z (zu (gE H fun h6 H=>qq (fun (k4:Nat) (s:Bs)=>[(3,.dat (vstr s)),(9,.dat (vlst (List.map wd l1))),(10,.dat (vint (l1.length:Int))),(11,.dat (vint (k4:Int)))]) (fun (k4:Nat) (s:Bs)=>[]) [] H ⟨Z,Z,Z,Z,U⟩ U (fun _ _=>Z) ?_ ?_)))))))))
  ·rintro last3 H
   replace H:y5h last3=some r:=H
   unfold y5h at H
   refine zb hN Z (za (zw Z Z) (zd (zf _ Z (fun h=>(lt_t h).elim) (fun h => ?_))))
   refine yp (zb hN Z (qe Z (zg ?_)))
   cases H
   exact ⟨U,.inl Z,U⟩
  ·rintro k4 x7 last3 q5 h8 h9 H hq5
   replace H:y5g k4 x7 last3=some q5:=H
   unfold y5g at H
   refine zb hN Z (za (zw Z Z) (zd (zf _ Z (fun h => ?_) (fun h=>(lt_f h8 h).elim))))
   refine zl (zd (zu (zb hN Z (za (qp Qy (fun _=>Z) Z Z h9) (za (vg z0m Z (ym h9) Z) (zj (qm 1 z6k Z) Z (zj (yo z0m Z Z Z Z) Z (zd (zu (yc (ι:=Bool) (fun i=>[(3,.dat (vstr last3)),(5,.ptr 1 0),(9,.dat (vlst (List.map wd l1))),(10,.dat (vint (l1.length:Int))),(11,.dat (vint (k4:Int))),(15,.dat (zi i))]) (fun i=>[(1,.box none 79 [.dat (vstr x7.Key),.dat (vstr x7.Owner)])]) (fun i=>z5w last3 x7 i=some q5) (fun i=>Z) ?_ ?_))))))))))
   ·skip
    refine zk hN Z (za (zn Yu Z) (zm (zp tyS9 Z Z) Z (bE H fun r10 h11 H=>za (zo (z95 x7.Key r10 h11) ⟨.inl Z,U⟩) (za (yv Z) (qd Z (yi (j:=4) Z Z (fun h12 => ?_) (fun h12 => ?_) Z))))))
    ·exact u3 h12 H fun h13 H=>ze Z Z h12 (zn x4d Z) (qz Z Z h12 (zp tyS9 Z Z) Z (bE H fun r14 h15 H=>ze Z Z h12 (zo (z95 x7.Owner r14 h15) ⟨.inl Z,U⟩) (ze Z Z h12 (yv Z) (za (ya Z (bFF h13) Z) (qe Z ⟨!r14,H,⟨Z,Z,Z,Z,Z,Z,U⟩,⟨Z,U⟩⟩)))))
    ·exact u4 h12 H fun h16 H=>zc Z Z h12 (zc Z Z h12 (zc Z Z h12 (zc Z Z h12 (za (yb Z (bTT h16) Z) (qe Z ⟨true,H,⟨Z,Z,Z,Z,Z,Z,U⟩,⟨Z,U⟩⟩)))))
   ·rintro v17 H
    replace H:z5w last3 x7 v17=some q5:=H
    unfold z5w at H
    refine zf _ Z (fun h18 => ?_) (fun h18 => ?_)
    ·refine tE h18 H fun H=>zb hN Z (qe Z (zg ?_))
     replace H:=retl H hq5
     cases H
     exact ⟨U,.inl Z,U⟩
    ·refine fE h18 H fun H=>zb hN Z (za (zn Yu Z) (zm (zp tyS9 Z Z) Z (qd Z (za (Zz Z Z) (qe Z (zf _ Z (fun h19 => ?_) (fun h19 => ?_)))))))
     ·refine tE h19 H fun H=>zb hN Z (qe Z (zg ?_))
      replace H:=retl H hq5
      cases H
      exact ⟨U,.inl Z,U⟩
     ·exact fE h19 H fun H=>zl (zk hN Z (za (zn Yu Z) (zm (zp tyS9 Z Z) Z (qe Z (zk hN Z (za (qi Z Z (by omega)) (qd Z ⟨_,yw H,⟨Z,Z,Z,Z,U⟩,U⟩)))))))
theorem v0y (c1:yh) (apps2:(List yd)) (r:(Int)) (H:y4h c1 apps2=some r):Fn Tryz.prog 51 [vagg (jo c1),vlst (List.map wd apps2)] (zr [vint r]):=by
 refine ⟨by kernel_rfl,zx (us:=[vint r]) Tryz.func51 Z Z Z Z fun X hN => ?_⟩
 unfold y4h at H
 refine zb hN Z (zj (qu 1 Z) Z (qe Z (zd (zb hN Z (zm (qc vj Z Z Z) Z (bE H fun r3 h4 H=>za (zo (x8n c1 r3 h4) ⟨.inl Z,U⟩) (qe Z (zb hN Z (qd Z (za (qj Z Z) (zf _ Z (fun h5 => ?_) (fun h5 => ?_))))))))))))
 ·refine tE h5 H fun H=>zb hN Z (qd Z (qe Z (zg ?_)))
  cases H
  exact ⟨U,.inl Z,U⟩
 ·refine fE h5 H fun H=>zl (zb hN Z (qd Z (bE H fun r6 h7 H=>za (zo (v05 apps2 r6 h7) ⟨.inl Z,U⟩) (qe Z (zg ?_)))))
  cases H
  exact ⟨U,.inl Z,U⟩
theorem v03 (v1:Int) (r:(Bool)) (H:y4j v1=some r):Fn Tryz.prog 53 [vint v1] (zr [zi r]):=by
 refine ⟨by kernel_rfl,zx (us:=[zi r]) Tryz.func53 Z Z Z Z fun X hN => ?_⟩
 unfold y4j at H
 refine zb hN Z (qe Z (zb hN Z (qd Z (bE H fun r2 h3 H=>za (zo (Yh v1 0 345686399999 r2 h3) ⟨.inl Z,.inl Z,.inl Z,U⟩) (qe Z (zg ?_))))))
 cases H
 exact ⟨U,.inl Z,U⟩
theorem w9f (s1:(List yd)) (p1:yd→Option (Bool)) (fv1:Nat) (us1:List V) (hp1:∀ a0 r,p1 a0=some r→Fn Tryz.prog fv1 ([vagg (wd a0)]++us1) (zr [zi r])) (r:(Int)) (H:y34 s1 p1=some r):Fn Tryz.prog 109 [vlst (List.map wd s1),vfn fv1 us1] (zr [vint r]):=by
 refine ⟨by kernel_rfl,zx (us:=[vint r]) Tryz.func109 Z Z Z Z fun X hN => ?_⟩
 unfold y34 at H
 refine zb hN Z (qe Z (zd (zb hN Z (qd Z (za (yk Qr Z) (qd Z (zu (gE H fun h4 H=>qq (fun (k2:Nat) (s:Unit)=>[(0,.dat (vlst (List.map wd s1))),(1,.dat (vfn fv1 us1)),(7,.dat (vint (s1.length:Int))),(8,.dat (vint (k2:Int)))]) (fun (k2:Nat) (s:Unit)=>[]) () H ⟨Z,Z,Z,Z,U⟩ U (fun _ _=>Z) ?_ ?_))))))))
 ·rintro ⟨⟩ H
  replace H:y8o=some r:=H
  unfold y8o at H
  refine zb hN Z (za (zw Z Z) (zd (zf _ Z (fun h=>(lt_t h).elim) (fun h => ?_))))
  refine yp (zb hN Z (qe Z (zg ?_)))
  cases H
  exact ⟨U,.inl Z,U⟩
 ·rintro k2 x5 ⟨⟩ q3 h6 h7 H hq3
  replace H:y8n p1 k2 x5=some q3:=H
  unfold y8n at H
  refine zb hN Z (za (zw Z Z) (zd (zf _ Z (fun h => ?_) (fun h=>(lt_f h6 h).elim))))
  refine zl (zd (zu (zb hN Z (qd Z (qe Z (zb hN Z (qd Z (qd Z (qd Z (za (qp Qy (fun _=>Z) Z Z h7) (za (vg z0m Z (ym h7) Z) (bE H fun r8 h9 H=>za (kz (hp1 x5 r8 h9) Z ⟨.inl Z,U⟩) (zf _ Z (fun h10 => ?_) (fun h10 => ?_))))))))))))))
  ·refine tE h10 H fun H=>zb hN Z (qd Z (qe Z (zg ?_)))
   replace H:=retl H hq3
   cases H
   exact ⟨U,.inl Z,U⟩
  ·exact fE h10 H fun H=>zl (zk hN Z (za (qi Z Z (by omega)) (qd Z ⟨_,yw H,⟨Z,Z,Z,Z,U⟩,U⟩)))
theorem v06 (a1:yd) (c2:Bs) (r:(Bool)) (H:z42 a1 c2=some r):Fn Tryz.prog 110 [vagg (wd a1),wt [[vstr c2]] 0 0] (zr [zi r]):=by
 refine ⟨by kernel_rfl,zx (us:=[zi r]) Tryz.func110 Z Z Z Z fun X hN => ?_⟩
 unfold z42 at H
 refine zb hN Z (zj (qu 1 Z) Z (qe Z (zb hN Z (za (zn Yu Z) (zm (zp tyS9 Z Z) Z (za (yr tyS9 Z Z Z) (za (vz Z Z) (qe Z (zg ?_)))))))))
 cases H
 exact ⟨U,.inl Z,U⟩
theorem v07 (l1:(List yd)) (key2:Bs) (r:(Int)) (H:z9k l1 key2=some r):Fn Tryz.prog 54 [vlst (List.map wd l1),vstr key2] (zr [vint r]):=by
 refine ⟨by kernel_rfl,zx (us:=[vint r]) Tryz.func54 Z Z Z Z fun X hN => ?_⟩
 unfold z9k at H
 refine zb hN Z (zj (Wg 1 Z Z) Z (qe Z (zd (xk 1 [vstr key2] Z Z (zk hN Z (qd Z (za (Ya (us:=[_]) ⟨Z,U⟩) (bE H fun r3 h4 H=>za (zo (w9f l1 (fun (a0:yd)=>z42 a0 key2) 110 [wt [[vstr key2]] 0 0] (fun a0 r h=>v06 a0 key2 r h) r3 h4) ⟨.inl Z,.inl Z,U⟩) (qe Z (zg ?_))))))))))
 cases H
 exact ⟨U,.inl Z,U⟩
theorem v04 (v1:yh) (v2:(List yd)) (v3:(List zq)) (r:(Int)) (H:z9i v1 v2 v3=some r):Fn Tryz.prog 20 [vagg (jo v1),vlst (List.map wd v2),vlst (List.map yy v3)] (zr [vint r]):=by
 refine ⟨by kernel_rfl,zx (us:=[vint r]) Tryz.func20 Z Z Z Z fun X hN => ?_⟩
 unfold z9i at H
 refine zb hN Z (zj (qu 1 Z) Z (qe Z (zd (zb hN Z (zm (qc vj Z Z Z) Z (qd Z (bE H fun r4 h5 H=>za (zo (v0y v1 v2 r4 h5) ⟨.inl Z,.inl Z,U⟩) (qe Z (zb hN Z (qd Z (za (qj Z Z) (zf _ Z (fun h6 => ?_) (fun h6 => ?_)))))))))))))
 ·refine tE h6 H fun H=>zb hN Z (qd Z (qe Z (zg ?_)))
  cases H
  exact ⟨U,.inl Z,U⟩
 ·refine fE h6 H fun H=>zl (zd (zb hN Z (qd Z (za (yk Ze Z) (za (qh Z Z) (zf _ Z (fun h7 => ?_) (fun h7 => ?_)))))))
  ·refine tE h7 H fun H=>zb hN Z (qe Z (zg ?_))
   cases H
   exact ⟨U,.inl Z,U⟩
  ·refine fE h7 H fun H=>zl (zd (zb hN Z (qd Z (za (yk Ze Z) (qd Z (zu (gE H fun h10 H=>qq (fun (k8:Nat) (s:Unit)=>[(1,.dat (vlst (List.map wd v2))),(2,.dat (vlst (List.map yy v3))),(3,.ptr 1 0),(21,.dat (vlst (List.map yy v3))),(22,.dat (vint (v3.length:Int))),(23,.dat (vint (k8:Int)))]) (fun (k8:Nat) (s:Unit)=>[(1,.box none 29 [.dat (vlst (List.map wb v1.Products)),.dat (vlst (List.map wj v1.Plans))])]) () H ⟨Z,Z,Z,Z,Z,Z,U⟩ ⟨Z,U⟩ (fun _ _=>Z) ?_ ?_)))))))
   ·rintro ⟨⟩ H
    replace H:x1q=some r:=H
    unfold x1q at H
    refine zb hN Z (za (zw Z Z) (zd (zf _ Z (fun h=>(lt_t h).elim) (fun h => ?_))))
    refine yp (zb hN Z (qe Z (zg ?_)))
    cases H
    exact ⟨U,.inl Z,U⟩
   ·rintro k8 x11 ⟨⟩ q9 h12 h13 H hq9
    replace H:y0q v1 v2 v3 k8 x11=some q9:=H
    unfold y0q at H
    refine zb hN Z (za (zw Z Z) (zd (zf _ Z (fun h => ?_) (fun h=>(lt_f h12 h).elim))))
    refine zl (zd (zu (zb hN Z (qd Z (za (qp ju (fun _=>Z) Z Z h13) (za (vg vx Z (ym h13) Z) (zj (qm 2 z0k Z) Z (qe Z (zj (yo vx Z Z Z Z) Z (zb hN Z (zm (qc vj Z Z Z) Z (za (zn xd Z) (zm (zp tyS9 Z Z) Z (bE H fun r14 h15 H=>za (zo (y4y v1 x11.Plan r14 h15) ⟨.inl Z,.inl Z,U⟩) (qe Z (zb hN Z (za (zn jt Z) (zm (zp tyS3 Z Z) Z (za (yn Z Z) (qe Z (zu (zb hN Z ?_))))))))))))))))))))))
    refine za (zn kg Z) (zm (zp tyS3 Z Z) Z (bE H fun r16 h17 H=>za (zo (v03 x11.At r16 h17) ⟨.inl Z,U⟩) (za (yv Z) (qe Z (zf _ Z (fun h18 => ?_) (fun h18 => ?_))))))
    ·refine tE h18 H fun H=>zb hN Z (qe Z (zg ?_))
     replace H:=retl H hq9
     cases H
     exact ⟨U,.inl Z,U⟩
    ·refine fE h18 H fun H=>yc (ι:=Bool) (fun i=>[(1,.dat (vlst (List.map wd v2))),(2,.dat (vlst (List.map yy v3))),(3,.ptr 1 0),(8,.dat (vint (k8:Int))),(9,.ptr 2 0),(10,.dat (vint r14)),(11,.dat (zi (decide (x11.Kind=1)))),(21,.dat (vlst (List.map yy v3))),(22,.dat (vint (v3.length:Int))),(23,.dat (vint (k8:Int))),(40,.dat (zi i))]) (fun i=>[(1,.box none 29 [.dat (vlst (List.map wb v1.Products)),.dat (vlst (List.map wj v1.Plans))]),(2,.box none 109 [.dat (vint x11.At),.dat (vstr x11.App),.dat (vstr x11.Product),.dat (vint x11.Kind),.dat (vstr x11.Plan)])]) (fun i=>z5u v1 v3 k8 x11 r14 i=some q9) (fun i=>Z) ?_ ?_
     ·skip
      refine zk hN Z (qd Z (za (zn xp Z) (zm (zp tyS9 Z Z) Z (bE H fun r19 h20 H=>za (zo (v07 v2 x11.App r19 h20) ⟨.inl Z,.inl Z,U⟩) (za (zw Z Z) (qd Z (yi (j:=5) Z Z (fun h21 => ?_) (fun h21 => ?_) Z)))))))
      ·exact u3 h21 H fun h22 H=>qz Z Z h21 (qc vj Z Z Z) Z (ze Z Z h21 (zn uo Z) (qz Z Z h21 (zp tyS9 Z Z) Z (bE H fun r23 h24 H=>ze Z Z h21 (zo (x8m v1 x11.Product r23 h24) ⟨.inl Z,.inl Z,U⟩) (ze Z Z h21 (zw Z Z) (za (ya Z (bFF h22) Z) (qe Z ⟨decide (r23 < 0),H,⟨Z,Z,Z,Z,Z,Z,Z,Z,Z,Z,Z,U⟩,⟨Z,Z,U⟩⟩))))))
      ·exact u4 h21 H fun h25 H=>zc Z Z h21 (zc Z Z h21 (zc Z Z h21 (zc Z Z h21 (zc Z Z h21 (za (yb Z (bTT h25) Z) (qe Z ⟨true,H,⟨Z,Z,Z,Z,Z,Z,Z,Z,Z,Z,Z,U⟩,⟨Z,Z,U⟩⟩))))))
     ·rintro v26 H
      replace H:z5u v1 v3 k8 x11 r14 v26=some q9:=H
      unfold z5u at H
      refine zf _ Z (fun h27 => ?_) (fun h27 => ?_)
      ·refine tE h27 H fun H=>zb hN Z (qe Z (zg ?_))
       replace H:=retl H hq9
       cases H
       exact ⟨U,.inl Z,U⟩
      ·refine fE h27 H fun H=>zb hN Z (za (zn jt Z) (zm (zp tyS3 Z Z) Z (bE H fun r28 h29 H=>za (zo (Yh x11.Kind 1 6 r28 h29) ⟨.inl Z,.inl Z,.inl Z,U⟩) (za (yv Z) (qe Z (zf _ Z (fun h30 => ?_) (fun h30 => ?_)))))))
       ·refine tE h30 H fun H=>zb hN Z (qe Z (zg ?_))
        replace H:=retl H hq9
        cases H
        exact ⟨U,.inl Z,U⟩
       ·refine fE h30 H fun H=>zb hN Z (qd Z (za (yv Z) (qd Z (yz Z Z (fun hc=>zn xd Z) (xv Z Z (fun hc=>zp tyS9 (cnd (c:=(!(decide (x11.Kind=1)))) hc) Z) Z jf (yz Z Z (fun hc=>js (cnd (c:=(!(decide (x11.Kind=1)))) hc) Z) (za (wy Z (fun hb=>(cnd (c:=(!(decide (x11.Kind=1)))) hb)) Z) (qe Z (zf _ Z (fun h31 => ?_) (fun h31 => ?_))))))))))
        ·refine tE h31 H fun H=>zb hN Z (qe Z (zg ?_))
         replace H:=retl H hq9
         cases H
         exact ⟨U,.inl Z,U⟩
        ·refine fE h31 H fun H=>zb hN Z (qd Z (qd Z (yz Z Z (fun hc=>zh (.dat _) Z) (yz Z Z (fun hc=>zw (cnd (c:=(decide (x11.Kind=1))) hc) Z) (za (wy Z (fun hb=>(cnd (c:=(decide (x11.Kind=1))) hb)) Z) (qe Z (zf _ Z (fun h32 => ?_) (fun h32 => ?_))))))))
         ·refine tE h32 H fun H=>zb hN Z (qe Z (zg ?_))
          replace H:=retl H hq9
          cases H
          exact ⟨U,.inl Z,U⟩
         ·refine fE h32 H fun H=>yc (ι:=Bool) (fun i=>[(1,.dat (vlst (List.map wd v2))),(2,.dat (vlst (List.map yy v3))),(3,.ptr 1 0),(8,.dat (vint (k8:Int))),(9,.ptr 2 0),(21,.dat (vlst (List.map yy v3))),(22,.dat (vint (v3.length:Int))),(23,.dat (vint (k8:Int))),(72,.dat (zi i))]) (fun i=>[(1,.box none 29 [.dat (vlst (List.map wb v1.Products)),.dat (vlst (List.map wj v1.Plans))]),(2,.box none 109 [.dat (vint x11.At),.dat (vstr x11.App),.dat (vstr x11.Product),.dat (vint x11.Kind),.dat (vstr x11.Plan)])]) (fun i=>z2h v3 k8 x11 i=some q9) (fun i=>Z) ?_ ?_
          ·skip
           refine wg mixed hN Z Z (qd Z (qd Z (yi (j:=1) Z Z (fun h33 => ?_) (fun h33 => ?_) Z)))
           ·refine u1 h33 H fun h34 H=>ze Z Z h33 (zn uj Z) (qz Z Z h33 (zp ui Z Z) Z (ze Z Z h33 (zh (.dat _) Z) (bE H fun x35 h36 H=>ze Z Z h33 (wx Zj (fun _=>Z) Z Z h36) (ze Z Z h33 (vr z6o Z) (ze Z Z h33 (yr tyS9 Z (ym (qk h36).2) Z) (ze Z Z h33 (zn uo Z) (qz Z Z h33 (zp tyS9 Z Z) Z (ze Z Z h33 (js Z Z) (za (yb Z (bTT h34) Z) (qe Z ⟨Z,?_⟩))))))))))
            exact ⟨decide (x35.Product≠x11.Product),H,⟨Z,Z,Z,Z,Z,Z,Z,Z,Z,U⟩,⟨Z,Z,U⟩⟩
           ·refine u2 h33 H fun h37 H=>zc Z Z h33 (zc Z Z h33 (zc Z Z h33 (zc Z Z h33 (zc Z Z h33 (zc Z Z h33 (zc Z Z h33 (zc Z Z h33 (zc Z Z h33 (za (ya Z (bFF h37) Z) (qe Z ⟨Z,?_⟩))))))))))
            exact ⟨false,H,⟨Z,Z,Z,Z,Z,Z,Z,Z,Z,U⟩,⟨Z,Z,U⟩⟩
          ·rintro v38 H
           replace H:z2h v3 k8 x11 v38=some q9:=H
           unfold z2h at H
           refine zf _ Z (fun h39 => ?_) (fun h39 => ?_)
           ·refine tE h39 H fun H=>zb hN Z (qe Z (zg ?_))
            replace H:=retl H hq9
            cases H
            exact ⟨U,.inl Z,U⟩
           ·refine fE h39 H fun H=>yc (ι:=Bool) (fun i=>[(1,.dat (vlst (List.map wd v2))),(2,.dat (vlst (List.map yy v3))),(3,.ptr 1 0),(21,.dat (vlst (List.map yy v3))),(22,.dat (vint (v3.length:Int))),(23,.dat (vint (k8:Int))),(85,.dat (zi i))]) (fun i=>[(1,.box none 29 [.dat (vlst (List.map wb v1.Products)),.dat (vlst (List.map wj v1.Plans))])]) (fun i=>z5t i=some q9) (fun i=>Z) ?_ ?_
            ·skip
             refine wg mixed hN Z Z (qd Z (za (qh Z Z) (qd Z (yi (j:=2) Z Z (fun h40 => ?_) (fun h40 => ?_) Z))))
             ·refine u1 h40 H fun h41 H=>ze Z Z h40 (zh (.dat _) Z) (ze Z Z h40 (zh (.dat _) Z) (ze Z Z h40 (Wd Z Z (by omega)) (bE H fun x42 h43 H=>ze Z Z h40 (wx ju (fun _=>Z) Z Z h43) (ze Z Z h40 (vg vx Z (ym (qk h43).2) Z) (qz Z Z h40 (qc vx Z Z Z) Z (bE H fun r44 h45 H=>ze Z Z h40 (zo (x03 x42 x11 r44 h45) ⟨.inl Z,.inl Z,U⟩) (ze Z Z h40 (vt Z Z) (za (yb Z (bTT h41) Z) (qe Z ⟨Z,?_⟩)))))))))
              exact ⟨decide (0≤r44),H,⟨Z,Z,Z,Z,Z,Z,Z,U⟩,⟨Z,U⟩⟩
             ·refine u2 h40 H fun h46 H=>zc Z Z h40 (zc Z Z h40 (zc Z Z h40 (zc Z Z h40 (zc Z Z h40 (zc Z Z h40 (zc Z Z h40 (zc Z Z h40 (za (ya Z (bFF h46) Z) (qe Z ⟨Z,?_⟩)))))))))
              exact ⟨false,H,⟨Z,Z,Z,Z,Z,Z,Z,U⟩,⟨Z,U⟩⟩
            ·rintro v47 H
             replace H:z5t v47=some q9:=H
             unfold z5t at H
             refine zf _ Z (fun h48 => ?_) (fun h48 => ?_)
             ·refine tE h48 H fun H=>zb hN Z (qe Z (zg ?_))
              replace H:=retl H hq9
              cases H
              exact ⟨U,.inl Z,U⟩
             ·exact fE h48 H fun H=>zl (zk hN Z (za (qi Z Z (by omega)) (qd Z ⟨_,yw H,⟨Z,Z,Z,Z,Z,Z,U⟩,⟨Z,U⟩⟩)))
theorem v09 (s1:zy) (c2:yh) (apps3:(List yd)) (many4:Int) (r:((List zq)×zy)) (H:z9m s1 c2 apps3 many4=some r):Imp Tryz.prog 6 25 (vf s1) [vagg (jo c2),vlst (List.map wd apps3),vint many4] (zr [vlst (List.map yy r.1)]) (vf r.2):=by
 refine kv (us:=[vlst (List.map yy r.1)]) (cs':=(vf r.2)) (by kernel_rfl) Tryz.func6 Z Z Z Z fun X bl hN => ?_
 unfold z9m at H
 refine zb hN Z (zj (qu 1 Z) Z (qe Z (zd (zb hN Z (qd Z (zu (gE H fun h9 H=>Zt (fun (k7:Nat) (s:(List Int)×Int)=>[(0,.ptr 0 0),(2,.dat (vlst (List.map wd apps3))),(3,.dat (vint many4)),(5,.ptr 1 0),(10,.dat (vint (k7:Int)))]) (fun (k7:Nat) (s:(List Int)×Int)=>[(0,.box (some bl) 25 [.dat (vlst (List.map wi s.1)),.dat (vint s.2)]),(1,.box none 29 [.dat (vlst (List.map wb c2.Products)),.dat (vlst (List.map wj c2.Plans))])]) (s1.L,s1.at_) H ⟨Z,Z,Z,Z,Z,U⟩ ⟨Z,Z,U⟩ (fun _ _=>Z) ?_ ?_)))))))
 ·rintro ⟨c5,c6⟩ H
  replace H:y5l c5 c6=some r:=H
  unfold y5l at H
  refine zb hN Z (za (zw Z Z) (zd (zf _ Z (fun h=>(lt_t h).elim) (fun h => ?_))))
  refine yp (zb hN Z (qe Z (zg ?_)))
  cases H
  exact ⟨U,⟨.inr ⟨Z,Z⟩,U⟩,Z⟩
 ·rintro k7 ⟨c5,c6⟩ q8 h10 H hq8
  replace H:y5k c2 apps3 many4 k7 c5 c6=some q8:=H
  unfold y5k at H
  refine zb hN Z (za (zw Z Z) (zd (zf _ Z (fun h => ?_) (fun h=>(lt_f h10 h).elim))))
  refine zl (zd (zu (zb hN Z (za (zh (.ptr _ _) Z) (zm (qc vj Z Z Z) Z (qd Z (qd Z (bE H fun r11 h12 H=>zj (qt (v1e (zy.mk c5 c6) c2 apps3 many4 r11 h12) Z ⟨.inl Z,.inl Z,.inl Z,U⟩ Z) Z (qe Z (zb hN Z (zm (qc vj Z Z Z) Z (qd Z (qd Z (bE H fun r13 h14 H=>za (zo (v04 c2 apps3 r11.1 r13 h14) ⟨.inl Z,.inl Z,.inl Z,U⟩) (za (yn Z Z) (zf _ Z (fun h15 => ?_) (fun h15 => ?_)))))))))))))))))
  ·refine tE h15 H fun H=>zb hN Z (qd Z (qe Z (zg ?_)))
   replace H:=retl H hq8
   cases H
   exact ⟨U,⟨.inl Z,U⟩,Z⟩
  ·exact fE h15 H fun H=>zl (zk hN Z (za (qi Z Z (by omega)) (qd Z ⟨_,yw H,⟨Z,Z,Z,Z,Z,U⟩,⟨Z,Z,U⟩⟩)))
theorem ku (s1:Bs) (r:(Bool)) (H:jw s1=some r):Fn Tryz.prog 71 [vstr s1] (zr [zi r]):=by
 refine ⟨by kernel_rfl,zx (us:=[zi r]) Tryz.func71 Z Z Z Z fun X hN => ?_⟩
 unfold jw at H
 refine zb hN Z (qe Z (zd (zb hN Z (qe Z (zu (gE H fun h4 H=>qq (fun (i2:Nat) (s:Unit)=>[(0,.dat (vstr s1)),(3,.dat (vint (i2:Int)))]) (fun (i2:Nat) (s:Unit)=>[]) () H ⟨Z,Z,U⟩ U (fun _ _=>Z) ?_ ?_))))))
 ·rintro ⟨⟩ H
  replace H:x0q s1=some r:=H
  unfold x0q at H
  refine zd (zb hN Z (qd Z (qd Z (za (wl tyU9 Z) (za (zw Z Z) (zf _ Z (fun h=>(lt_t h).elim) (fun h => ?_)))))))
  refine yp (zb hN Z (qd Z (za (js Z Z) (qd Z (yz Z Z (fun hc=>zh (.dat _) Z) (yz Z Z (fun hc=>wl tyU9 (cnd (c:=(decide (s1≠[]))) hc)) (yz Z Z (fun hc=>vq (cnd (c:=(decide (s1≠[]))) hc) Z) (za (wy Z (fun hb=>(cnd (c:=(decide (s1≠[]))) hb)) Z) (qe Z (zg ?_))))))))))
  cases H
  exact ⟨U,.inl Z,U⟩
 ·rintro i2 x5 ⟨⟩ q3 h6 h7 H hq3
  replace H:y4q i2 x5=some q3:=H
  unfold y4q at H
  refine zd (zb hN Z (qd Z (qd Z (za (wl tyU9 Z) (za (zw Z Z) (zf _ Z (fun h => ?_) (fun h=>(lt_f h6 h).elim)))))))
  refine zl (zd (zu (zb hN Z (qd Z (qd Z (za (vh tyU9 Z Z h7) (qe Z (zb hN Z (qd Z (za (vt Z Z) (qd Z (yz Z Z (fun hc=>zh (.dat _) Z) (yz Z Z (fun hc=>vq (cnd (c:=(decide (97≤(x5.toNat:Int)))) hc) Z) (za (wy Z (fun hb=>(cnd (c:=(decide (97≤(x5.toNat:Int)))) hb)) Z) (qd Z (yu Z Z (fun hc=>zh (.dat _) Z) (yu Z Z (fun hc=>qh (cnd (c:=(!((decide (97≤(x5.toNat:Int))) && (decide ((x5.toNat:Int)≤122))))) hc) Z) (yu Z Z (fun hc=>zh (.dat _) (cnd (c:=(!((decide (97≤(x5.toNat:Int))) && (decide ((x5.toNat:Int)≤122))))) hc)) (wz Z Z (fun hc=>zh (.dat _) Z) (wz Z Z (fun hc=>vt (cnd (c:=((!((decide (97≤(x5.toNat:Int))) && (decide ((x5.toNat:Int)≤122)))) && (decide (0 < (i2:Int))))) hc) Z) (wz Z Z (fun hc=>zh (.dat _) (cnd (c:=((!((decide (97≤(x5.toNat:Int))) && (decide ((x5.toNat:Int)≤122)))) && (decide (0 < (i2:Int))))) hc)) (wz Z Z (fun hc=>zh (.dat _) Z) (wz Z Z (fun hc=>vq (cnd (c:=(((!((decide (97≤(x5.toNat:Int))) && (decide ((x5.toNat:Int)≤122)))) && (decide (0 < (i2:Int)))) && (decide (48≤(x5.toNat:Int))))) hc) Z) ?_)))))))))))))))))))))))
  refine wz Z Z (fun hc=>wy (cnd (c:=((!((decide (97≤(x5.toNat:Int))) && (decide ((x5.toNat:Int)≤122)))) && (decide (0 < (i2:Int))))) hc) (fun hb=>(cnd (c:=(((!((decide (97≤(x5.toNat:Int))) && (decide ((x5.toNat:Int)≤122)))) && (decide (0 < (i2:Int)))) && (decide (48≤(x5.toNat:Int))))) (andI hc hb))) Z) (wz Z Z (fun hc=>zh (.dat _) (cnd (c:=((!((decide (97≤(x5.toNat:Int))) && (decide ((x5.toNat:Int)≤122)))) && (decide (0 < (i2:Int))))) hc)) (ua Z Z (fun hc=>zh (.dat _) Z) (ua Z Z (fun hc=>yn (cnd (c:=(((!((decide (97≤(x5.toNat:Int))) && (decide ((x5.toNat:Int)≤122)))) && (decide (0 < (i2:Int)))) && !((decide (48≤(x5.toNat:Int))) && (decide ((x5.toNat:Int)≤57))))) hc) Z) (wz Z Z (fun hc=>vk (cnd (c:=((!((decide (97≤(x5.toNat:Int))) && (decide ((x5.toNat:Int)≤122)))) && (decide (0 < (i2:Int))))) hc) Z (fun hb=>(cnd (c:=(((!((decide (97≤(x5.toNat:Int))) && (decide ((x5.toNat:Int)≤122)))) && (decide (0 < (i2:Int)))) && !((decide (48≤(x5.toNat:Int))) && (decide ((x5.toNat:Int)≤57))))) (andI hc (notI hb))))) (wz Z Z (fun hc=>zh (.dat _) (cnd (c:=((!((decide (97≤(x5.toNat:Int))) && (decide ((x5.toNat:Int)≤122)))) && (decide (0 < (i2:Int))))) hc)) (ua Z Z (fun hc=>zh (.dat _) Z) (ua Z Z (fun hc=>yn (cnd (c:=(((!((decide (97≤(x5.toNat:Int))) && (decide ((x5.toNat:Int)≤122)))) && (decide (0 < (i2:Int)))) && !(((decide (48≤(x5.toNat:Int))) && (decide ((x5.toNat:Int)≤57))) || (decide ((x5.toNat:Int)=45))))) hc) Z) (wz Z Z (fun hc=>vk (cnd (c:=((!((decide (97≤(x5.toNat:Int))) && (decide ((x5.toNat:Int)≤122)))) && (decide (0 < (i2:Int))))) hc) Z (fun hb=>(cnd (c:=(((!((decide (97≤(x5.toNat:Int))) && (decide ((x5.toNat:Int)≤122)))) && (decide (0 < (i2:Int)))) && !(((decide (48≤(x5.toNat:Int))) && (decide ((x5.toNat:Int)≤57))) || (decide ((x5.toNat:Int)=45))))) (andI hc (notI hb))))) (yu Z Z (fun hc=>wy (cnd (c:=(!((decide (97≤(x5.toNat:Int))) && (decide ((x5.toNat:Int)≤122))))) hc) (fun hb=>(cnd (c:=((!((decide (97≤(x5.toNat:Int))) && (decide ((x5.toNat:Int)≤122)))) && (decide (0 < (i2:Int))))) (andI hc hb))) Z) (za (vk Z Z (fun hb=>(cnd (c:=(!((decide (97≤(x5.toNat:Int))) && (decide ((x5.toNat:Int)≤122))))) (notI hb)))) (za (yv Z) (zf _ Z (fun h8 => ?_) (fun h8 => ?_)))))))))))))
  ·refine tE h8 H fun H=>zb hN Z (qe Z (zg ?_))
   replace H:=retl H hq3
   cases H
   exact ⟨U,.inl Z,U⟩
  ·exact fE h8 H fun H=>zl (zk hN Z (qd Z (za (qi Z Z (by omega)) (qe Z ⟨_,yw H,⟨Z,Z,U⟩,U⟩))))
theorem w8a (s1:Bs) (r:(Bool)) (H:z8a s1=some r):Fn Tryz.prog 120 [vstr s1] (zr [zi r]):=by
 refine ⟨by kernel_rfl,zx (us:=[zi r]) Tryz.func120 Z Z Z Z fun X hN => ?_⟩
 unfold z8a at H
 refine zb hN Z (qe Z (zb hN Z (qd Z (bE H fun r2 h3 H=>za (zo (Qm s1 [58] r2 h3) ⟨.inl Z,.inl Z,U⟩) (qe Z (zd (zb hN Z (qd Z (za (yk qr Z) (qd Z (zu (gE H fun h6 H=>qq (fun (k4:Nat) (s:Unit)=>[(3,.dat (vlst (List.map zt r2))),(8,.dat (vlst (List.map zt r2))),(9,.dat (vint (r2.length:Int))),(10,.dat (vint (k4:Int)))]) (fun (k4:Nat) (s:Unit)=>[]) () H ⟨Z,Z,Z,Z,U⟩ U (fun _ _=>Z) ?_ ?_))))))))))))
 ·rintro ⟨⟩ H
  replace H:y7h r2=some r:=H
  unfold y7h at H
  refine zb hN Z (za (zw Z Z) (zd (zf _ Z (fun h=>(lt_t h).elim) (fun h => ?_))))
  refine yp (zb hN Z (qd Z (za (yk qr Z) (za (vq Z Z) (qe Z (zg ?_))))))
  cases H
  exact ⟨U,.inl Z,U⟩
 ·rintro k4 x7 ⟨⟩ q5 h8 h9 H hq5
  replace H:y15 r2 k4 x7=some q5:=H
  unfold y15 at H
  refine zb hN Z (za (zw Z Z) (zd (zf _ Z (fun h => ?_) (fun h=>(lt_f h8 h).elim))))
  refine zl (zd (zu (zb hN Z (qd Z (za (qp wv (fun _=>Z) Z Z h9) (za (yr tyS9 Z (ym h9) Z) (qe Z (qe Z (zb hN Z (qd Z (bE H fun r10 h11 H=>za (zo (ku x7 r10 h11) ⟨.inl Z,U⟩) (za (yv Z) (qd Z (yz Z Z (fun hc=>zh (.dat _) Z) (yz Z Z (fun hc=>vz (cnd (c:=(!r10)) hc) Z) (yz Z Z (fun hc=>zh (.dat _) (cnd (c:=(!r10)) hc)) (wz Z Z (fun hc=>zh (.dat _) Z) (wz Z Z (fun hc=>zh (.dat _) Z) (wz Z Z (fun hc=>yk qr (cnd (c:=((!r10) && (decide (x7=[42])))) hc)) (wz Z Z (fun hc=>yl _ (cnd (c:=((!r10) && (decide (x7=[42])))) hc) Z (.inr (.inl ⟨Z,Z⟩))) (wz Z Z (fun hc=>yn (cnd (c:=((!r10) && (decide (x7=[42])))) hc) (cnd (c:=((!r10) && (decide (x7=[42])))) hc)) (yz Z Z (fun hc=>wy (cnd (c:=(!r10)) hc) (fun hb=>(cnd (c:=((!r10) && (decide (x7=[42])))) (andI hc hb))) Z) ?_))))))))))))))))))))))
  refine yz Z Z (fun hc=>yv (cnd (c:=(!r10)) hc)) (za (wy Z (fun hb=>(cnd (c:=(!r10)) hb)) Z) (zf _ Z (fun h12 => ?_) (fun h12 => ?_)))
  ·refine tE h12 H fun H=>zb hN Z (qe Z (zg ?_))
   replace H:=retl H hq5
   cases H
   exact ⟨U,.inl Z,U⟩
  ·exact fE h12 H fun H=>zl (zk hN Z (za (qi Z Z (by omega)) (qd Z ⟨_,yw H,⟨Z,Z,Z,Z,U⟩,U⟩)))
theorem z93 (l1:(List Bs)) (r:(Int)) (H:Qh l1=some r):Fn Tryz.prog 67 [vlst (List.map zt l1)] (zr [vint r]):=by
 refine ⟨by kernel_rfl,zx (us:=[vint r]) Tryz.func67 Z Z Z Z fun X hN => ?_⟩
 unfold Qh at H
 refine zb hN Z (qe Z (zd (zb hN Z (qd Z (za (yk qr Z) (za (qh Z Z) (zf _ Z (fun h2 => ?_) (fun h2 => ?_))))))))
 ·refine tE h2 H fun H=>zb hN Z (qe Z (zg ?_))
  cases H
  exact ⟨U,.inl Z,U⟩
 ·refine fE h2 H fun H=>zl (zd (zb hN Z (qd Z (za (yk qr Z) (qd Z (zu (gE H fun h5 H=>qq (fun (k3:Nat) (s:Unit)=>[(8,.dat (vlst (List.map zt l1))),(9,.dat (vint (l1.length:Int))),(10,.dat (vint (k3:Int)))]) (fun (k3:Nat) (s:Unit)=>[]) () H ⟨Z,Z,Z,U⟩ U (fun _ _=>Z) ?_ ?_)))))))
  ·rintro ⟨⟩ H
   replace H:y7t=some r:=H
   unfold y7t at H
   refine zb hN Z (za (zw Z Z) (zd (zf _ Z (fun h=>(lt_t h).elim) (fun h => ?_))))
   refine yp (zb hN Z (qe Z (zg ?_)))
   cases H
   exact ⟨U,.inl Z,U⟩
  ·rintro k3 x6 ⟨⟩ q4 h7 h8 H hq4
   replace H:y2b k3 x6=some q4:=H
   unfold y2b at H
   refine zb hN Z (za (zw Z Z) (zd (zf _ Z (fun h => ?_) (fun h=>(lt_f h7 h).elim))))
   refine zl (zd (zu (zb hN Z (za (qp wv (fun _=>Z) Z Z h8) (za (yr tyS9 Z (ym h8) Z) (qe Z (zb hN Z (qd Z (bE H fun r9 h10 H=>za (zo (w8a x6 r9 h10) ⟨.inl Z,U⟩) (za (yv Z) (zf _ Z (fun h11 => ?_) (fun h11 => ?_))))))))))))
   ·refine tE h11 H fun H=>zb hN Z (qe Z (zg ?_))
    replace H:=retl H hq4
    cases H
    exact ⟨U,.inl Z,U⟩
   ·exact fE h11 H fun H=>zl (zk hN Z (za (qi Z Z (by omega)) (qd Z ⟨_,yw H,⟨Z,Z,Z,U⟩,U⟩)))
theorem w9o (l1:(List yq)) (r:(Int)) (H:z8q l1=some r):Fn Tryz.prog 113 [vlst (List.map wb l1)] (zr [vint r]):=by
 refine ⟨by kernel_rfl,zx (us:=[vint r]) Tryz.func113 Z Z Z Z fun X hN => ?_⟩
 unfold z8q at H
 refine zb hN Z (qe Z (zd (zb hN Z (qd Z (za (yk Qs Z) (za (qh Z Z) (zf _ Z (fun h2 => ?_) (fun h2 => ?_))))))))
 ·refine tE h2 H fun H=>zb hN Z (qe Z (zg ?_))
  cases H
  exact ⟨U,.inl Z,U⟩
 ·refine fE h2 H fun H=>zl (zd (zb hN Z (qd Z (za (yk Qs Z) (qd Z (zu (gE H fun h5 H=>qq (fun (k3:Nat) (s:Unit)=>[(0,.dat (vlst (List.map wb l1))),(9,.dat (vlst (List.map wb l1))),(10,.dat (vint (l1.length:Int))),(11,.dat (vint (k3:Int)))]) (fun (k3:Nat) (s:Unit)=>[]) () H ⟨Z,Z,Z,Z,U⟩ U (fun _ _=>Z) ?_ ?_)))))))
  ·rintro ⟨⟩ H
   replace H:y85=some r:=H
   unfold y85 at H
   refine zb hN Z (za (zw Z Z) (zd (zf _ Z (fun h=>(lt_t h).elim) (fun h => ?_))))
   refine yp (zb hN Z (qe Z (zg ?_)))
   cases H
   exact ⟨U,.inl Z,U⟩
  ·rintro k3 x6 ⟨⟩ q4 h7 h8 H hq4
   replace H:y28 l1 k3 x6=some q4:=H
   unfold y28 at H
   refine zb hN Z (za (zw Z Z) (zd (zf _ Z (fun h => ?_) (fun h=>(lt_f h7 h).elim))))
   refine zl (zd (zu (zb hN Z (qd Z (za (qp Qz (fun _=>Z) Z Z h8) (za (vg Zh Z (ym h8) Z) (zj (qm 1 z2r Z) Z (qe Z (zj (yo Zh Z Z Z Z) Z (zd (zb hN Z (za (zn Zx Z) (zm (zp tyS9 Z Z) Z (bE H fun r9 h10 H=>za (zo (ku x6.Key r9 h10) ⟨.inl Z,U⟩) (za (yv Z) (zf _ Z (fun h11 => ?_) (fun h11 => ?_)))))))))))))))))
   ·refine tE h11 H fun H=>zb hN Z (qe Z (zg ?_))
    replace H:=retl H hq4
    cases H
    exact ⟨U,.inl Z,U⟩
   ·refine fE h11 H fun H=>zl (zd (yc (ι:=Bool) (fun i=>[(0,.dat (vlst (List.map wb l1))),(4,.ptr 1 0),(9,.dat (vlst (List.map wb l1))),(10,.dat (vint (l1.length:Int))),(11,.dat (vint (k3:Int))),(32,.dat (zi i))]) (fun i=>[(1,.box none 60 [.dat (vstr x6.Key),.dat (vlst (List.map zt x6.Scopes))])]) (fun i=>z02 x6 i=some q4) (fun i=>Z) ?_ ?_))
    ·skip
     refine wg mixed hN Z Z (qd Z (za (qh Z Z) (qd Z (yi (j:=2) Z Z (fun h12 => ?_) (fun h12 => ?_) Z))))
     ·refine u1 h12 H fun h13 H=>ze Z Z h12 (zn Zx Z) (qz Z Z h12 (zp tyS9 Z Z) Z (ze Z Z h12 (zh (.dat _) Z) (ze Z Z h12 (zh (.dat _) Z) (ze Z Z h12 (Wd Z Z (by omega)) (bE H fun x14 h15 H=>ze Z Z h12 (wx Qz (fun _=>Z) Z Z h15) (ze Z Z h12 (vr Zx Z) (ze Z Z h12 (yr tyS9 Z (ym (qk h15).2) Z) (ze Z Z h12 (Zz Z Z) (za (yb Z (bTT h13) Z) ⟨Z,?_⟩)))))))))
      exact ⟨(Op.bytesLess x6.Key x14.Key || x6.Key == x14.Key),H,⟨Z,Z,Z,Z,Z,Z,U⟩,⟨Z,U⟩⟩
     ·refine u2 h12 H fun h16 H=>zc Z Z h12 (zc Z Z h12 (zc Z Z h12 (zc Z Z h12 (zc Z Z h12 (zc Z Z h12 (zc Z Z h12 (zc Z Z h12 (zc Z Z h12 (za (ya Z (bFF h16) Z) ⟨Z,?_⟩)))))))))
      exact ⟨false,H,⟨Z,Z,Z,Z,Z,Z,U⟩,⟨Z,U⟩⟩
    ·rintro v17 H
     replace H:z02 x6 v17=some q4:=H
     unfold z02 at H
     refine zf _ Z (fun h18 => ?_) (fun h18 => ?_)
     ·refine tE h18 H fun H=>zb hN Z (qe Z (zg ?_))
      replace H:=retl H hq4
      cases H
      exact ⟨U,.inl Z,U⟩
     ·refine fE h18 H fun H=>zl (zb hN Z (za (zn y1o Z) (zm (zp vc Z Z) Z (bE H fun r19 h20 H=>za (zo (z93 x6.Scopes r19 h20) ⟨.inl Z,U⟩) (qe Z (zb hN Z (qd Z (za (qj Z Z) (zf _ Z (fun h21 => ?_) (fun h21 => ?_))))))))))
      ·refine tE h21 H fun H=>zb hN Z (qd Z (qe Z (zg ?_)))
       replace H:=retl H hq4
       cases H
       exact ⟨U,.inl Z,U⟩
      ·exact fE h21 H fun H=>zl (zk hN Z (za (qi Z Z (by omega)) (qd Z ⟨_,yw H,⟨Z,Z,Z,Z,U⟩,U⟩)))
theorem w9j (x1:(List yq)) (target2:Bs) (p2:yq→Bs→Option (Int)) (fv2:Nat) (us2:List V) (hp2:∀ a0 a1 r,p2 a0 a1=some r→Fn Tryz.prog fv2 ([vagg (wb a0),vstr a1]++us2) (zr [vint r])) (r:(Int×Bool)) (H:y37 x1 target2 p2=some r):Fn Tryz.prog 150 [vlst (List.map wb x1),vstr target2,vfn fv2 us2] (zr [vint r.1,zi r.2]):=by
 refine ⟨by kernel_rfl,zx (us:=[vint r.1,zi r.2]) Tryz.func150 Z Z Z Z fun X hN => ?_⟩
 unfold y37 at H
 refine zb hN Z (qe Z (qe Z (zb hN Z (qd Z (za (yk Qs Z) (qe Z (zb hN Z (qd Z (qe Z (qe Z (yc (ι:=Int) (fun i=>[(0,.dat (vlst (List.map wb x1))),(1,.dat (vstr target2)),(2,.dat (vfn fv2 us2)),(8,.dat (vint (x1.length:Int))),(9,.dat (vint i))]) (fun i=>[]) (fun i=>y2x x1 target2 p2 i=some r) (fun i=>Z) ?_ ?_)))))))))))
 ·skip
  refine zu (kj (fun (s:Int×Int)=>[(0,.dat (vlst (List.map wb x1))),(1,.dat (vstr target2)),(2,.dat (vfn fv2 us2)),(8,.dat (vint (x1.length:Int))),(9,.dat (vint s.1)),(10,.dat (vint s.2))]) (fun (s:Int×Int)=>[]) (0,(x1.length:Int)) H ⟨Z,Z,Z,Z,Z,Z,U⟩ U (fun _=>Z) ?_)
  rintro ⟨i3,j4⟩ q5 H hq5
  replace H:y8u x1 target2 p2 i3 j4=some q5:=H
  unfold y8u at H
  refine zd (zb hN Z (qd Z (qd Z (za (zw Z Z) (zf _ Z (fun h6 => ?_) (fun h6 => ?_))))))
  ·refine tE h6 H fun H=>zl (zu (zb hN Z (qd Z (qd Z (za (yl _ Z Z (.inl ⟨Z,Z⟩)) (za (jh tyU3 Zf Z) (za (yg (We Z Z (by decide)) Z) (za (jh Zf tyU3 Z) (qe Z (zb hN Z (qd Z (qd Z (qd Z (bE H fun x7 h8 H=>za (wx Qz (fun _=>Z) Z Z h8) (za (vg Zh Z (ym (qk h8).2) Z) (qd Z (bE H fun r9 h10 H=>za (kz (hp2 x7 target2 r9 h10) Z ⟨.inl Z,.inl Z,U⟩) (za (zw Z Z) (zf _ Z (fun h11 => ?_) (fun h11 => ?_))))))))))))))))))))
   ·exact tE h11 H fun H=>zk hN Z (qd Z (za (yl _ Z Z (.inl ⟨Z,Z⟩)) (qe Z ⟨_,yw H,⟨Z,Z,Z,Z,Z,Z,U⟩,U⟩)))
   ·exact fE h11 H fun H=>zk hN Z (qd Z (qe Z ⟨_,yw H,⟨Z,Z,Z,Z,Z,Z,U⟩,U⟩))
  ·refine fE h6 H fun H=>yp ?_
   replace H:=outl H hq5
   exact ⟨i3,H,⟨Z,Z,Z,Z,Z,U⟩,U⟩
 ·rintro i12 H
  replace H:y2x x1 target2 p2 i12=some r:=H
  unfold y2x at H
  refine yc (ι:=Bool) (fun i=>[(6,.dat (vint i12)),(7,.dat (zi i))]) (fun i=>[]) (fun i=>z7m i12 i=some r) (fun i=>Z) ?_ ?_
  ·skip
   refine zk hN Z (qd Z (qd Z (qd Z (za (zw Z Z) (qd Z (yi (j:=4) Z Z (fun h13 => ?_) (fun h13 => ?_) Z))))))
   ·exact u1 h13 H fun h14 H=>ze Z Z h13 (zh (.dat _) Z) (ze Z Z h13 (zh (.dat _) Z) (ze Z Z h13 (zh (.dat _) Z) (bE H fun x15 h16 H=>ze Z Z h13 (wx Qz (fun _=>Z) Z Z h16) (ze Z Z h13 (vg Zh Z (ym (qk h16).2) Z) (ze Z Z h13 (zh (.dat _) Z) (bE H fun r17 h18 H=>ze Z Z h13 (kz (hp2 x15 target2 r17 h18) Z ⟨.inl Z,.inl Z,U⟩) (ze Z Z h13 (yn Z Z) (za (yb Z (bTT h14) Z) (qe Z (qe Z ⟨decide (r17=0),H,⟨Z,Z,U⟩,U⟩))))))))))
   ·exact u2 h13 H fun h19 H=>zc Z Z h13 (zc Z Z h13 (zc Z Z h13 (zc Z Z h13 (zc Z Z h13 (zc Z Z h13 (zc Z Z h13 (zc Z Z h13 (za (ya Z (bFF h19) Z) (qe Z (qe Z ⟨false,H,⟨Z,Z,U⟩,U⟩))))))))))
  ·rintro v20 H
   replace H:z7m i12 v20=some r:=H
   unfold z7m at H
   refine zg ?_
   cases H
   exact ⟨U,.inl Z,.inl Z,U⟩
theorem z94 (a b:Bs) (r:Int) (H:Qk a b=some r):Fn Tryz.prog 63 [vstr a,vstr b] (zr [vint r]):=by
 cases H
 refine y0r (by kernel_rfl) fun M w vs h => ?_
 have h1:=ug (us:=[.string ⟨a.toArray⟩,.string ⟨b.toArray⟩]) h
 subst h1
 refine (Tryz.strings_Compare ⟨a.toArray⟩ ⟨b.toArray⟩ w).mono ?_
 rintro e w' ⟨rfl,rfl⟩
 exact ⟨_,Z,Z,Kp.refl _ _⟩
theorem w9p (p1:yq) (k2:Bs) (r:(Int)) (H:z4m p1 k2=some r):Fn Tryz.prog 151 [vagg (wb p1),vstr k2] (zr [vint r]):=by
 refine ⟨by kernel_rfl,zx (us:=[vint r]) Tryz.func151 Z Z Z Z fun X hN => ?_⟩
 unfold z4m at H
 refine zb hN Z (zj (qu 1 Z) Z (qe Z (zb hN Z (za (zn Zx Z) (zm (zp tyS9 Z Z) Z (qd Z (bE H fun r3 h4 H=>za (zo (z94 p1.Key k2 r3 h4) ⟨.inl Z,.inl Z,U⟩) (qe Z (zg ?_)))))))))
 cases H
 exact ⟨U,.inl Z,U⟩
theorem x0y (c1:yh) (key2:Bs) (r:(Int×Bool)) (H:z1s c1 key2=some r):Fn Tryz.prog 85 [vagg (jo c1),vstr key2] (zr [vint r.1,zi r.2]):=by
 refine ⟨by kernel_rfl,zx (us:=[vint r.1,zi r.2]) Tryz.func85 Z Z Z Z fun X hN => ?_⟩
 unfold z1s at H
 refine zb hN Z (zj (qu 1 Z) Z (qe Z (qe Z (zb hN Z (za (zn z0q Z) (zm (zp z0n Z Z) Z (qd Z (bE H fun r3 h4 H=>za (y73 (w9j c1.Products key2 (fun (a0:yq) (a1:Bs)=>z4m a0 a1) 151 [] (fun a0 a1 r h=>w9p a0 a1 r h) r3 h4) ⟨.inl (.inl Z),.inl (.inl Z),.inr ⟨_,Z,Z⟩,U⟩) (za (ye Z Z) (za (ye Z Z) (qe Z (qe Z (zg ?_)))))))))))))
 cases H
 exact ⟨U,.inl Z,.inl Z,U⟩
theorem ue (n1:Int) (low2:Int) (high3:Int) (r:(Bool)) (H:ki n1 low2 high3=some r):Fn Tryz.prog 75 [vint n1,vint low2,vint high3] (zr [zi r]):=by
 refine ⟨by kernel_rfl,zx (us:=[zi r]) Tryz.func75 Z Z Z Z fun X hN => ?_⟩
 unfold ki at H
 refine zb hN Z (qe Z (zb hN Z (qd Z (qd Z (za (zw Z Z) (qd Z (yu Z Z (fun hc=>zh (.dat _) Z) (yu Z Z (fun hc=>zh (.dat _) Z) (yu Z Z (fun hc=>qh (cnd (c:=(!(decide (n1 < low2)))) hc) (cnd (c:=(!(decide (n1 < low2)))) hc)) (za (vk Z Z (fun hb=>(cnd (c:=(!(decide (n1 < low2)))) (notI hb)))) (qe Z (zg ?_))))))))))))
 cases H
 exact ⟨U,.inl Z,U⟩
end Go.Proofs.YtbndlmnjeofkdacGreatDoor
