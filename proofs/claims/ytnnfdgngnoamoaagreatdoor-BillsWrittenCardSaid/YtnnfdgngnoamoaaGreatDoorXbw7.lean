/- Walks along the models. Printed by a program. -/
import Derived.Test.YtnnfdgngnoamoaaGreatDoorXbw6
namespace Go.Proofs.YtnnfdgngnoamoaaGreatDoor
open Go.RowKit
set_option linter.unusedVariables false
set_option maxRecDepth 100000
set_option maxHeartbeats 2000000
theorem z9f  (r:(Bool)) (H:Wd  = some r):Fn Tryz.prog 13 [] (yc [zr r]):=by
 refine ⟨by kernel_rfl,yl (us:=[zr r]) Tryz.func13 Z Z Z Z fun X hN => ?_⟩
 unfold Wd at H
 refine zc hN Z (qe Z (zc hN Z (za (x00 (u':=vagg (yt (yh.mk [112] []))) (y93 (by exact ⟨Wt,z6h,U⟩)) (vj [(0,[vstr [112]])] Qi z3o Z ⟨Z,.inl ⟨_,Z,Z,Z⟩,Z,U⟩)) ?_)))
 refine za (yf (u':=vlst (List.map yt [(yh.mk [112] [])])) (qa [_] z6o ⟨Z,.inr Z,Z,U⟩ Z Z) Z) (za (yf (u':=vagg (wd (yp.mk 1 2000))) (vj [(0,[vint 1]),(1,[vint 2000])] Wv y0l Z ⟨Z,.inl ⟨_,Z,Z,Z⟩,Z,Z,.inl ⟨_,Z,Z,Z⟩,Z,U⟩) Z) (za (yf (u':=vlst (List.map wd [(yp.mk 1 2000)])) (qa [_] z1l ⟨Z,.inr Z,Z,U⟩ Z Z) Z) (za (yf (u':=vagg (ym (ya.mk [113] [112] 0 0 [(yp.mk 1 2000)] 0 0 false))) (vj [(0,[vstr [113]]),(1,[vstr [112]]),(4,[vlst (List.map wd [(yp.mk 1 2000)])])] uj y0k Z ⟨Z,.inl ⟨_,Z,Z,Z⟩,Z,Z,.inl ⟨_,Z,Z,Z⟩,Z,Z,.inl ⟨_,Z,Z,Z⟩,Z,U⟩) Z) (za (yf (u':=vlst (List.map ym [(ya.mk [113] [112] 0 0 [(yp.mk 1 2000)] 0 0 false)])) (qa [_] z6n ⟨Z,.inr Z,Z,U⟩ Z Z) Z) (za (yf (u':=vagg (yy (zx.mk ([(yh.mk [112] [])]) ([(ya.mk [113] [112] 0 0 [(yp.mk 1 2000)] 0 0 false)])))) (vj [(0,[vlst (List.map yt ([(yh.mk [112] [])]))]),(1,[vlst (List.map ym ([(ya.mk [113] [112] 0 0 [(yp.mk 1 2000)] 0 0 false)]))])] kn y4v Z ⟨Z,.inl ⟨_,Z,Z,Z⟩,Z,Z,.inl ⟨_,Z,Z,Z⟩,Z,U⟩) Z) (zd (qf 1 kn Z) Z (zd (yz ql Z Z Z Z) Z (zc hN Z (ze (yg ql Z Z Z) Z (bE H fun r1 h2 H=>za (yb (w2z (zx.mk ([(yh.mk [112] [])]) ([(ya.mk [113] [112] 0 0 [(yp.mk 1 2000)] 0 0 false)])) [113] 3 r1 h2) ⟨.inl Z,.inl Z,.inl Z,U⟩) (qd Z (za (qm Z Z) (za (qm Z Z) (qe Z (qe Z (zc hN Z (qd Z (za (qc Z Z) (qd Z (wb Z Z (fun hc=>zg (.dat _) Z) (wb Z Z (fun hc=>qc (cnd (c:=(decide (r1.2=0))) hc) Z) (za (jf Z (fun hb=>(cnd (c:=(decide (r1.2=0))) hb)) Z) ?_))))))))))))))))))))))
 refine qe Z (zn ?_)
 cases H
 exact ⟨U,.inl Z,U⟩
theorem w1t (s1:zt) (apps2:(List zy)) (r:((List zz)×zt)) (H:z8t s1 apps2=some r):FnG Tryz.prog 23 [.ptr 0 0,.dat (vlst (List.map yk apps2))] [(0,.box (some 0) 25 (List.map .dat (qz s1)))] (.row 1 r.1.length) [(0,.box (some 0) 25 (List.map .dat (qz r.2))),(1,.row 64 4 (List.map wn r.1))]:=by
 refine uv (by kernel_rfl) Tryz.func23 Z Z Z Z fun X A hN => ?_
 unfold z8t at H
 refine zc hN Z (qe Z (zc hN Z (qe Z (zf (zc hN Z (qd Z (yd (Qg 5 1 64 4 Z Z Z (gE H fun h8 H=>z58 (fun (k6:Nat) (s:(List Int)×Int×(List zz))=>[(0,.ptr 0 0),(1,.dat (vlst (List.map yk apps2))),(5,.row 1 s.2.2.length),(11,.dat (vint (k6:Int)))]) (fun (k6:Nat) (s:(List Int)×Int×(List zz))=>[(0,.box (some (A.bl 0)) 25 [.dat (vlst (List.map qn s.1)),.dat (vint s.2.1)]),(1,.row 64 4 (List.map wn s.2.2))]) (s1.L,s1.at_,[]) H ⟨Z,Z,Z,Z,U⟩ ⟨Z,Z,U⟩ (fun _ _=>Z) ?_ ?_)))))))))
 ·rintro ⟨c3,c4,l5⟩ H
  replace H:y75 c3 c4 l5=some r:=H
  unfold y75 at H
  refine zc hN Z (za (ye Z Z) (zf (zi _ Z (fun h=>(lt_t h).elim) (fun h => ?_))))
  refine qk (zc hN Z (za (zg (.row _ _) Z) (za (qy (.row _ _) Z) (zn ?_))))
  cases H
  exact ⟨U,[(4,.row 1 _)],⟨Z,U⟩,⟨Z,Z,U⟩,Z,.inr (.inl ⟨4,Z,Z⟩)⟩
 ·rintro k6 ⟨c3,c4,l5⟩ q7 h9 H hq7
  replace H:y3n apps2 k6 c3 c4 l5=some q7:=H
  unfold y3n at H
  refine zc hN Z (za (ye Z Z) (zf (zi _ Z (fun h => ?_) (fun h=>(lt_f h9 h).elim))))
  refine zp (zf (yd (zc hN Z (qd Z (qe Z (zc hN Z (qd Z (za (yu Yq Z) (qd Z (yd (gE H fun h15 H=>ve (fun (k13:Nat) (s:(List Int)×Int×(List zz))=>[(0,.ptr 0 0),(1,.dat (vlst (List.map yk apps2))),(5,.row 1 s.2.2.length),(6,.dat (vint (k6:Int))),(11,.dat (vint (k6:Int))),(14,.dat (vlst (List.map yk apps2))),(15,.dat (vint (apps2.length:Int))),(16,.dat (vint (k13:Int)))]) (fun (k13:Nat) (s:(List Int)×Int×(List zz))=>[(0,.box (some (A.bl 0)) 25 [.dat (vlst (List.map qn s.1)),.dat (vint s.2.1)]),(1,.row 64 4 (List.map wn s.2.2))]) (c3,c4,l5) H ⟨Z,Z,Z,Z,Z,Z,Z,Z,U⟩ ⟨Z,Z,U⟩ (fun _ _=>Z) ?_ ?_)))))))))))
  ·rintro ⟨c10,c11,l12⟩ H
   replace H:y74 c10 c11 l12=some q7:=H
   unfold y74 at H
   refine zc hN Z (za (ye Z Z) (zf (zi _ Z (fun h=>(lt_t h).elim) (fun h => ?_))))
   exact qk (zq hN Z (za (wa Z Z (by omega)) (qd Z ⟨_,qj H,⟨Z,Z,Z,Z,U⟩,⟨Z,Z,U⟩⟩)))
  ·rintro k13 x16 ⟨c10,c11,l12⟩ q14 h17 h18 H hq14
   replace H:y3m k6 k13 x16 c10 c11 l12=some q14:=H
   unfold y3m at H
   refine zc hN Z (za (ye Z Z) (zf (zi _ Z (fun h => ?_) (fun h=>(lt_f h17 h).elim))))
   refine zp (zf (yd (zc hN Z (za (wq Zy (fun _=>Z) Z Z h18) (za (wo Zt Z (qg h18) Z) (zd (qf 2 Wu Z) Z (zd (yz Zt Z Z Z Z) Z (zc hN Z (za (yf (u':=vlst (List.map yr [[109,97,112,115],[115,104,111,112]])) (qa [[_],[_]] vh ⟨Z,.inl ⟨_,Z,Z,Z⟩,Z,Z,.inl ⟨_,Z,Z,Z⟩,Z,U⟩ Z Z) Z) (za (yu js Z) (qd Z (yd (gE H fun h24 H=>ve (fun (k22:Nat) (s:(List Int)×Int×(List zz))=>[(0,.ptr 0 0),(1,.dat (vlst (List.map yk apps2))),(5,.row 1 s.2.2.length),(6,.dat (vint (k6:Int))),(8,.ptr 2 0),(11,.dat (vint (k6:Int))),(14,.dat (vlst (List.map yk apps2))),(15,.dat (vint (apps2.length:Int))),(16,.dat (vint (k13:Int))),(20,.dat (vlst (List.map yr ([[109,97,112,115],[115,104,111,112]])))),(21,.dat (vint (([[109,97,112,115],[115,104,111,112]]).length:Int))),(22,.dat (vint (k22:Int)))]) (fun (k22:Nat) (s:(List Int)×Int×(List zz))=>[(0,.box (some (A.bl 0)) 25 [.dat (vlst (List.map qn s.1)),.dat (vint s.2.1)]),(1,.row 64 4 (List.map wn s.2.2)),(2,.box none 94 [.dat (vstr x16.Key),.dat (vstr x16.Owner)])]) (c10,c11,l12) H ⟨Z,Z,Z,Z,Z,Z,Z,Z,Z,Z,Z,Z,U⟩ ⟨Z,Z,Z,U⟩ (fun _ _=>Z) ?_ ?_)))))))))))))
   ·rintro ⟨c19,c20,l21⟩ H
    replace H:y73 c19 c20 l21=some q14:=H
    unfold y73 at H
    refine zc hN Z (za (ye Z Z) (zf (zi _ Z (fun h=>(lt_t h).elim) (fun h => ?_))))
    exact qk (zq hN Z (za (wa Z Z (by omega)) (qd Z ⟨_,qj H,⟨Z,Z,Z,Z,Z,Z,Z,Z,U⟩,⟨Z,Z,U⟩⟩)))
   ·rintro k22 x25 ⟨c19,c20,l21⟩ q23 h26 h27 H hq23
    replace H:y3l k6 x16 k22 x25 c19 c20 l21=some q23:=H
    unfold y3l at H
    refine zc hN Z (za (ye Z Z) (zf (zi _ Z (fun h => ?_) (fun h=>(lt_f h26 h).elim))))
    refine zp (yw (ι:=(List zz)×(List Int)×Int) (fun i=>[(0,.ptr 0 0),(1,.dat (vlst (List.map yk apps2))),(5,.row 1 i.1.length),(6,.dat (vint (k6:Int))),(8,.ptr 2 0),(11,.dat (vint (k6:Int))),(14,.dat (vlst (List.map yk apps2))),(15,.dat (vint (apps2.length:Int))),(16,.dat (vint (k13:Int))),(20,.dat (vlst (List.map yr ([[109,97,112,115],[115,104,111,112]])))),(21,.dat (vint (([[109,97,112,115],[115,104,111,112]]).length:Int))),(22,.dat (vint (k22:Int)))]) (fun i=>[(0,.box (some (A.bl 0)) 25 [.dat (vlst (List.map qn i.2.1)),.dat (vint i.2.2)]),(1,.row 64 4 (List.map wn i.1)),(2,.box none 94 [.dat (vstr x16.Key),.dat (vstr x16.Owner)])]) (fun i=>z5n i.1 i.2.1 i.2.2=some q23) (fun i=>Z) ?_ ?_)
    ·skip
     refine yd (zc hN Z (za (wq Zg (fun _=>Z) Z Z h27) (za (wy tyS9 Z (qg h27) Z) (qe Z (zc hN Z (za (zg (.ptr _ _) Z) (bE H fun r28 h29 H=>zd (yo (kw (zt.mk c19 c20) 2 r28 h29) Z ⟨.inl Z,U⟩ Z) Z (zi _ Z (fun h30 => ?_) (fun h30 => ?_)))))))))
     ·refine tE h30 H fun H=>wl mixed hN Z Z (za (zg (.row _ _) Z) (za (zj Zv Z) (ze (zl tyS9 Z Z) Z (qd Z (qd Z (za (zg (.ptr _ _) Z) (za (yf (u':=vlst (List.map qn [0,5,10,11,100,150,1000])) (qa [[_],[_],[_],[_],[_],[_],[_]] vx ⟨Z,.inl ⟨_,Z,Z,Z⟩,Z,Z,.inl ⟨_,Z,Z,Z⟩,Z,Z,.inl ⟨_,Z,Z,Z⟩,Z,Z,.inl ⟨_,Z,Z,Z⟩,Z,Z,.inl ⟨_,Z,Z,Z⟩,Z,Z,.inl ⟨_,Z,Z,Z⟩,Z,Z,.inl ⟨_,Z,Z,Z⟩,Z,U⟩ Z Z) Z) (bE H fun r31 h32 H=>zd (yo (jo r28.2 [0,5,10,11,100,150,1000] r31 h32) Z ⟨.inl Z,U⟩ Z) Z (za (yf (u':=vagg (wn (zz.mk x16.Key x25 (k6:Int) r31.1))) (vj [(0,[vstr x16.Key]),(1,[vstr x25]),(2,[vint (k6:Int)]),(3,[vint r31.1])] z1i y4u Z ⟨Z,.inl ⟨_,Z,Z,Z⟩,Z,Z,.inl ⟨_,Z,Z,Z⟩,Z,Z,.inl ⟨_,Z,Z,Z⟩,Z,Z,.inl ⟨_,Z,Z,Z⟩,Z,U⟩) Z) (za (yf (u':=vlst (List.map wn [(zz.mk x16.Key x25 (k6:Int) r31.1)])) (qa [_] x0d ⟨Z,.inr Z,Z,U⟩ Z Z) Z) (gE H fun h33 H=>zd (je x0d (fun _=>Z) Z Z Z ⟨by simp,by first | (simp; done) | simpa using h33⟩ Z) Z ?_)))))))))))
      refine za (qy (.row _ _) Z) ⟨Z,?_⟩
      exact ⟨((l21++[(zz.mk x16.Key x25 (k6:Int) r31.1)]),r31.2.L,r31.2.at_),H,⟨Z,Z,Z,Z,Z,Z,Z,Z,Z,Z,Z,Z,U⟩,⟨Z,Z,Z,U⟩⟩
     ·exact fE h30 H fun H=>zp ⟨(l21,r28.2.L,r28.2.at_),H,⟨Z,Z,Z,Z,Z,Z,Z,Z,Z,Z,Z,Z,U⟩,⟨Z,Z,Z,U⟩⟩
    ·rintro ⟨out34,c35,c36⟩ H
     replace H:z5n out34 c35 c36=some q23:=H
     unfold z5n at H
     exact zq hN Z (za (wa Z Z (by omega)) (qd Z ⟨_,qj H,⟨Z,Z,Z,Z,Z,Z,Z,Z,Z,Z,Z,Z,U⟩,⟨Z,Z,Z,U⟩⟩))
theorem w3u (s1:zt) (apps2:(List zy)) (r:((List zz)×zt)) (H:z8q s1 apps2=some r):Imp Tryz.prog 6 25 (qz s1) [vlst (List.map yk apps2)] (yc [vlst (List.map wn r.1)]) (qz r.2):=by
 refine kx (us:=[vlst (List.map wn r.1)]) (cs':=(qz r.2)) (by kernel_rfl) Tryz.func6 Z Z Z Z fun X bl hN => ?_
 unfold z8q at H
 refine zc hN Z (qe Z (zc hN Z (za (zg (.ptr _ _) Z) (qd Z (bE H fun r3 h4 H=>ue (rn [(0,0),(1,1)]) [(0,_,_,some _)] [(1,_)] (w1t s1 apps2 r3 h4) ⟨Z,Z,U⟩ ⟨.inl (.inl Z),.inl (.inl Z),U⟩ ⟨⟨⟨Z,Z⟩,U⟩,U⟩ Z (za (qy (.row _ _) Z) (yw (ι:=(List zz)×(List Int)×Int) (fun i=>[(5,.row 1 i.1.length)]) (fun i=>[(0,.box (some bl) 25 [.dat (vlst (List.map qn i.2.1)),.dat (vint i.2.2)]),(1,.row 64 4 (List.map wn i.1))]) (fun i=>z5l i.1 i.2.1 i.2.2=some r) (fun i=>Z) ?_ ?_)))))))
 ·skip
  refine yw (ι:=Bool×(List Int)×Int) (fun i=>[(0,.ptr 0 0),(5,.row 1 r3.1.length),(16,.dat (zr i.1))]) (fun i=>[(0,.box (some bl) 25 [.dat (vlst (List.map qn i.2.1)),.dat (vint i.2.2)]),(1,.row 64 4 (List.map wn r3.1))]) (fun i=>z25 r3 i.1 i.2.1 i.2.2=some r) (fun i=>Z) ?_ ?_
  ·skip
   refine zq hN Z (za (zg (.row _ _) Z) (ze (z0g Wy Z Z) Z (za (wz Z Z) (qd Z (qv (j:=3) Z Z (fun h5 => ?_) (fun h5 => ?_) Z)))))
   ·exact u1 h5 H fun h6 H=>zo Z Z h5 (zg (.ptr _ _) Z) (bE H fun r7 h8 H=>y1k Z Z h5 (yo (kw r3.2 15 r7 h8) Z ⟨.inl Z,U⟩ Z) Z (za (qt Z (bTT h6) Z) ⟨(r7.1,r7.2.L,r7.2.at_),H,⟨Z,Z,Z,U⟩,⟨Z,Z,U⟩⟩))
   ·exact u2 h5 H fun h9 H=>zh Z Z h5 (zh Z Z h5 (za (yq Z (bFF h9) Z) ⟨(false,r3.2.L,r3.2.at_),H,⟨Z,Z,Z,U⟩,⟨Z,Z,U⟩⟩))
  ·rintro ⟨v10,c11,c12⟩ H
   replace H:z25 r3 v10 c11 c12=some r:=H
   unfold z25 at H
   refine zi _ Z (fun h13 => ?_) (fun h13 => ?_)
   ·refine tE h13 H fun H=>zc hN Z (za (zg (.row _ _) Z) (za (zg (.ptr _ _) Z) (za (zg (.row _ _) Z) (ze (z0g Wy Z Z) Z (bE H fun r14 h15 H=>zd (yo (Qb (zt.mk c11 c12) (r3.1.length:Int) r14 h15) Z ⟨.inl Z,U⟩ Z) Z (bE H fun x16 h17 H=>ze (z1t z1p Z Z Z h17) Z (za (qy (.rptr _ _ _ _ _) Z) (zq hN Z (za (zg (.rptr _ _ _ _ _) Z) (za (zg (.rptr _ _ _ _ _) Z) (za (zg (.rptr _ _ _ _ _) Z) (za (zg (.ptr _ _) Z) (za (zg (.rptr _ _ _ _ _) Z) (za (Zh Z) (za (Zi Yr Z) (ze (x0q tyS9 Z Z (qi h17).2 Z) Z (za (yf (u':=vlst (List.map yr [x16.App,[110,111,110,101]])) (qa [[_],[_]] vh ⟨Z,.inl ⟨_,Z,Z,Z⟩,Z,Z,.inl ⟨_,Z,Z,Z⟩,Z,U⟩ Z Z) Z) (bE H fun r18 h19 H=>zd (yo (kj r14.2 ([x16.App,[110,111,110,101]]) r18 h19) Z ⟨.inl Z,U⟩ Z) Z (za (zg (.ptr _ _) Z) ?_)))))))))))))))))))
    exact bE H fun r20 h21 H=>zd (yo (Qa r18.2 0 132 r20 h21) Z ⟨.inl Z,.inl Z,U⟩ Z) Z (za (zg (.ptr _ _) Z) (bE H fun r22 h23 H=>zd (yo (Qa r20.2 0 1000 r22 h23) Z ⟨.inl Z,.inl Z,U⟩ Z) Z (za (Zh Z) (za (Zi Yr Z) (zd (Qr (zz.mk r18.1 x16.Product x16.Month x16.Calls) tyS9 Z Z Z Z (qi h17).2 Z Z) Z (za (Zh Z) (za (Zi Zw Z) (zd (Qr (zz.mk r18.1 x16.Product r20.1 x16.Calls) tyS3 Z Z Z (by simp) (z7c (qi h17).2) Z Z) Z (za (Zh Z) (za (Zi z6r Z) (zd (Qr (zz.mk r18.1 x16.Product r20.1 r22.1) tyS3 Z Z Z (by simp) (z7c (z7c (qi h17).2)) Z Z) Z ⟨((((r3.1.set r14.1.toNat (zz.mk r18.1 x16.Product x16.Month x16.Calls)).set r14.1.toNat (zz.mk r18.1 x16.Product r20.1 x16.Calls)).set r14.1.toNat (zz.mk r18.1 x16.Product r20.1 r22.1)),r22.2.L,r22.2.at_),H,⟨congrArg (Slot.row 1) (by simp),U⟩,⟨Z,Z,U⟩⟩)))))))))))
   ·exact fE h13 H fun H=>zp ⟨(r3.1,c11,c12),H,⟨Z,U⟩,⟨Z,Z,U⟩⟩
 ·rintro ⟨out24,c25,c26⟩ H
  replace H:z5l out24 c25 c26=some r:=H
  unfold z5l at H
  refine zc hN Z (za (zg (.row _ _) Z) (za (qy (.row _ _) Z) (zn ?_)))
  cases H
  exact ⟨U,⟨xn Z Z,U⟩,Z⟩
theorem w33 (is1:Bool) (e2:Int) (r:(Int)) (H:z8z is1 e2=some r):Fn Tryz.prog 12 [zr is1,vint e2] (yc [vint r]):=by
 refine ⟨by kernel_rfl,yl (us:=[vint r]) Tryz.func12 Z Z Z Z fun X hN => ?_⟩
 unfold z8z at H
 refine zc hN Z (qe Z (zf (zc hN Z (qd Z (zi _ Z (fun h3 => ?_) (fun h3 => ?_))))))
 ·refine tE h3 H fun H=>zc hN Z (qd Z (qe Z (zn ?_)))
  cases H
  exact ⟨U,.inl Z,U⟩
 ·refine fE h3 H fun H=>zp (zc hN Z (qe Z (zn ?_)))
  cases H
  exact ⟨U,.inl Z,U⟩
theorem w35 (l1:(List Int)) (r:(Int)) (H:z81 l1=some r):Fn Tryz.prog 10 [vlst (List.map y9x l1)] (yc [vint r]):=by
 refine ⟨by kernel_rfl,yl (us:=[vint r]) Tryz.func10 Z Z Z Z fun X hN => ?_⟩
 unfold z81 at H
 refine zc hN Z (qe Z (zf (zc hN Z (qd Z (za (yu x6p Z) (qd Z (yd (gE H fun h4 H=>ve (fun (k2:Nat) (s:Unit)=>[(5,.dat (vlst (List.map y9x l1))),(6,.dat (vint (l1.length:Int))),(7,.dat (vint (k2:Int)))]) (fun (k2:Nat) (s:Unit)=>[]) () H ⟨Z,Z,Z,U⟩ U (fun _ _=>Z) ?_ ?_))))))))
 ·rintro ⟨⟩ H
  replace H:y3u=some r:=H
  unfold y3u at H
  refine zc hN Z (za (ye Z Z) (zf (zi _ Z (fun h=>(lt_t h).elim) (fun h => ?_))))
  refine qk (zc hN Z (qe Z (zn ?_)))
  cases H
  exact ⟨U,.inl Z,U⟩
 ·rintro k2 x5 ⟨⟩ q3 h6 h7 H hq3
  replace H:y3t k2 x5=some q3:=H
  unfold y3t at H
  refine zc hN Z (za (ye Z Z) (zf (zi _ Z (fun h => ?_) (fun h=>(lt_f h6 h).elim))))
  refine zp (zf (yd (zc hN Z (za (wq x64 (fun _=>Z) Z Z h7) (za (wy x6r Z (qg h7) Z) (qe Z (zc hN Z (qd Z (za (vn Z Z) (zi _ Z (fun h8 => ?_) (fun h8 => ?_)))))))))))
  ·refine tE h8 H fun H=>zc hN Z (qd Z (qe Z (zn ?_)))
   replace H:=retl H hq3
   cases H
   exact ⟨U,.inl Z,U⟩
  ·exact fE h8 H fun H=>zp (zq hN Z (za (wa Z Z (by omega)) (qd Z ⟨_,qj H,⟨Z,Z,Z,U⟩,U⟩)))
theorem w17 (s1:(List zm)) (p1:zm→Option (Bool)) (fv1:Nat) (us1:List V) (hp1:∀ a0 r,p1 a0=some r→Fn Tryz.prog fv1 ([vagg (wg a0)]++us1) (yc [zr r])) (r:(Int)) (H:y7b s1 p1=some r):Fn Tryz.prog 37 [vlst (List.map wg s1),vfn fv1 us1] (yc [vint r]):=by
 refine ⟨by kernel_rfl,yl (us:=[vint r]) Tryz.func37 Z Z Z Z fun X hN => ?_⟩
 unfold y7b at H
 refine zc hN Z (qe Z (zf (zc hN Z (qd Z (za (yu Qk Z) (qd Z (yd (gE H fun h4 H=>ve (fun (k2:Nat) (s:Unit)=>[(0,.dat (vlst (List.map wg s1))),(1,.dat (vfn fv1 us1)),(7,.dat (vint (s1.length:Int))),(8,.dat (vint (k2:Int)))]) (fun (k2:Nat) (s:Unit)=>[]) () H ⟨Z,Z,Z,Z,U⟩ U (fun _ _=>Z) ?_ ?_))))))))
 ·rintro ⟨⟩ H
  replace H:y5z=some r:=H
  unfold y5z at H
  refine zc hN Z (za (ye Z Z) (zf (zi _ Z (fun h=>(lt_t h).elim) (fun h => ?_))))
  refine qk (zc hN Z (qe Z (zn ?_)))
  cases H
  exact ⟨U,.inl Z,U⟩
 ·rintro k2 x5 ⟨⟩ q3 h6 h7 H hq3
  replace H:y5y p1 k2 x5=some q3:=H
  unfold y5y at H
  refine zc hN Z (za (ye Z Z) (zf (zi _ Z (fun h => ?_) (fun h=>(lt_f h6 h).elim))))
  refine zp (zf (yd (zc hN Z (qd Z (qe Z (zc hN Z (qd Z (qd Z (qd Z (za (wq Zx (fun _=>Z) Z Z h7) (za (wo jh Z (qg h7) Z) (bE H fun r8 h9 H=>za (ua (hp1 x5 r8 h9) Z ⟨.inl Z,U⟩) (zi _ Z (fun h10 => ?_) (fun h10 => ?_))))))))))))))
  ·refine tE h10 H fun H=>zc hN Z (qd Z (qe Z (zn ?_)))
   replace H:=retl H hq3
   cases H
   exact ⟨U,.inl Z,U⟩
  ·exact fE h10 H fun H=>zp (zq hN Z (za (wa Z Z (by omega)) (qd Z ⟨_,qj H,⟨Z,Z,Z,Z,U⟩,U⟩)))
theorem w2b (s1:(List zm)) (p1:zm→Option (Bool)) (fv1:Nat) (us1:List V) (hp1:∀ a0 r,p1 a0=some r→Fn Tryz.prog fv1 ([vagg (wg a0)]++us1) (yc [zr r])) (r:(Bool)) (H:y2o s1 p1=some r):Fn Tryz.prog 14 [vlst (List.map wg s1),vfn fv1 us1] (yc [zr r]):=by
 refine ⟨by kernel_rfl,yl (us:=[zr r]) Tryz.func14 Z Z Z Z fun X hN => ?_⟩
 unfold y2o at H
 refine zc hN Z (qe Z (zc hN Z (qd Z (qd Z (bE H fun r2 h3 H=>za (yb (w17 s1 p1 fv1 us1 hp1 r2 h3) ⟨.inl Z,.inl Z,U⟩) (za (jn Z Z) (qe Z (zn ?_))))))))
 cases H
 exact ⟨U,.inl Z,U⟩
theorem w36 (y1:zm) (r:(Bool)) (H:z2l y1=some r):Fn Tryz.prog 15 [vagg (wg y1)] (yc [zr r]):=by
 refine ⟨by kernel_rfl,yl (us:=[zr r]) Tryz.func15 Z Z Z Z fun X hN => ?_⟩
 unfold z2l at H
 refine zc hN Z (zd (qr 1 Z) Z (qe Z (zc hN Z (za (zj xk Z) (ze (zl tyS3 Z Z) Z (za (wz Z Z) (qd Z (ji Z Z (fun hc=>zj xk Z) (z7e Z Z (fun hc=>zl tyS3 (cnd (c:=(!(decide (1000000000000 < y1.Cents)))) hc) Z) Z jq (ji Z Z (fun hc=>ye (cnd (c:=(!(decide (1000000000000 < y1.Cents)))) hc) Z) (za (ul Z Z (fun hb=>(cnd (c:=(!(decide (1000000000000 < y1.Cents)))) (notI hb)))) (qe Z (zn ?_)))))))))))))
 cases H
 exact ⟨U,.inl Z,U⟩
end Go.Proofs.YtnnfdgngnoamoaaGreatDoor
