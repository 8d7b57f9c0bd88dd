/- Walks along the models. Printed by a program. -/
import Derived.Test.YtbndlmnjeofkdacGreatDoorZtc
namespace Go.Proofs.YtbndlmnjeofkdacGreatDoor
open Go.RowKit
set_option linter.unusedVariables false
set_option maxRecDepth 100000
set_option maxHeartbeats 2000000
theorem x04 (x1:Int) (n2:Int) (r:(Int)) (H:z13 x1 n2=some r):Fn Tryz.prog 57 [vint x1,vint n2] (zr [vint r]):=by
 refine ⟨by kernel_rfl,zx (us:=[vint r]) Tryz.func57 Z Z Z Z fun X hN => ?_⟩
 unfold z13 at H
 refine zb hN Z (qe Z (zd (zb hN Z (qd Z (za (zw Z Z) (zf _ Z (fun h3 => ?_) (fun h3 => ?_)))))))
 ·refine tE h3 H fun H=>zb hN Z (qe Z (zg ?_))
  cases H
  exact ⟨U,.inl Z,U⟩
 ·refine fE h3 H fun H=>zl (zb hN Z (qd Z (qd Z (gE H fun h4 H=>za (y71 Z Z h4) (qe Z (yc (ι:=Int) (fun i=>[(0,.dat (vint i))]) (fun i=>[]) (fun i=>z5z i=some r) (fun i=>Z) ?_ ?_))))))
  ·skip
   refine zb hN Z (qd Z (za (zw Z Z) (zf _ Z (fun h5 => ?_) (fun h5 => ?_))))
   ·exact tE h5 H fun H=>zk hN Z (qd Z (qd Z (za (yl _ Z Z (.inl ⟨Z,Z⟩)) (qe Z ⟨wr ((Int.tmod x1 n2)+n2),H,⟨Z,U⟩,U⟩))))
   ·exact fE h5 H fun H=>zl ⟨(Int.tmod x1 n2),H,⟨Z,U⟩,U⟩
  ·rintro x6 H
   replace H:z5z x6=some r:=H
   unfold z5z at H
   refine zb hN Z (qd Z (qe Z (zg ?_)))
   cases H
   exact ⟨U,.inl Z,U⟩
theorem z15 (s1:zy) (n2:Int) (r:(Int×zy)) (H:Zm s1 n2=some r):Imp Tryz.prog 21 25 (vf s1) [vint n2] (zr [vint r.1]) (vf r.2):=by
 refine kv (us:=[vint r.1]) (cs':=(vf r.2)) (by kernel_rfl) Tryz.func21 Z Z Z Z fun X bl hN => ?_
 unfold Zm at H
 refine zb hN Z (qe Z (zb hN Z (za (zh (.ptr _ _) Z) (za (wq Z) (za (zn z6s Z) (zm (zp tyS3 Z Z) Z (za (yl _ Z Z (.inl ⟨Z,Z⟩)) (za (wq Z) (za (zn z6s Z) (zj (wa tyS3 Z Z Z Z) Z (zd (zb hN Z (za (zh (.ptr _ _) Z) (za (wq Z) (za (zn y1r Z) (zm (zp y1k Z Z) Z (za (yk z6m Z) (za (yn Z Z) (zf _ Z (fun h3 => ?_) (fun h3 => ?_))))))))))))))))))))
 ·refine tE h3 H fun H=>zb hN Z (za (zh (.ptr _ _) Z) (za (wq Z) (za (zn z6s Z) (zm (zp tyS3 Z Z) Z (za (yl _ Z Z (.inr (.inr ⟨Z,Z⟩))) (qd Z (bE H fun r4 h5 H=>za (zo (x04 (wr ((wr (s1.at_+1)) * 7919)) n2 r4 h5) ⟨.inl Z,.inl Z,U⟩) (qe Z (zg ?_)))))))))
  cases H
  exact ⟨U,⟨.inl Z,U⟩,Z⟩
 ·refine fE h3 H fun H=>zl (zd (wg mixed hN Z Z (za (zh (.ptr _ _) Z) (za (wq Z) (za (zn z6s Z) (zm (zp tyS3 Z Z) Z (za (yl _ Z Z (.inr (.inl ⟨Z,Z⟩))) (za (zh (.ptr _ _) Z) (za (wq Z) (za (zn y1r Z) (zm (zp y1k Z Z) Z (za (yk z6m Z) (gE H fun h6 H=>za (y71 Z Z h6) (qe Z ⟨Z,?_⟩))))))))))))))
  refine zd (wg mixed hN Z Z (za (zh (.ptr _ _) Z) (za (wq Z) (za (zn z6s Z) (zm (zp tyS3 Z Z) Z (za (yl _ Z Z (.inr (.inl ⟨Z,Z⟩))) (za (zh (.ptr _ _) Z) (za (wq Z) (za (zn y1r Z) (zm (zp y1k Z Z) Z (za (yk z6m Z) (gE H fun h7 H=>za (w3q Z Z h7.1 h7.2) (qe Z ⟨Z,?_⟩)))))))))))))
  refine zb hN Z (za (zh (.ptr _ _) Z) (za (wq Z) (za (zn y1r Z) (zm (zp y1k Z Z) Z (qd Z (bE H fun x8 h9 H=>za (wx Yv (fun _=>Z) Z Z h9) (za (yr tyS3 Z (ym (qk h9).2) Z) (bE H fun r10 h11 H=>za (zo (x04 x8 1073741824 r10 h11) ⟨.inl Z,.inl Z,U⟩) (qd Z (qd Z (za (yl _ Z Z (.inl ⟨Z,Z⟩)) (za (yl _ Z Z (.inr (.inr ⟨Z,Z⟩))) (za (yl _ Z Z (.inl ⟨Z,Z⟩)) (qd Z (bE H fun r12 h13 H=>za (zo (x04 (wr (r10+(wr (((wr ((wr (s1.at_+1)) - 1)) / (s1.L.length:Int)) * (wr (7919+(Int.tmod (wr ((wr (s1.at_+1)) - 1)) (s1.L.length:Int)))))))) n2 r12 h13) ⟨.inl Z,.inl Z,U⟩) (qe Z (zg ?_)))))))))))))))))
  cases H
  exact ⟨U,⟨.inl Z,U⟩,Z⟩
theorem z96 (s1:zy) (low2:Int) (high3:Int) (r:(Int×zy)) (H:Ql s1 low2 high3=some r):Imp Tryz.prog 7 25 (vf s1) [vint low2,vint high3] (zr [vint r.1]) (vf r.2):=by
 refine kv (us:=[vint r.1]) (cs':=(vf r.2)) (by kernel_rfl) Tryz.func7 Z Z Z Z fun X bl hN => ?_
 unfold Ql at H
 refine zb hN Z (qe Z (zd (zb hN Z (qd Z (qd Z (za (zw Z Z) (zf _ Z (fun h4 => ?_) (fun h4 => ?_))))))))
 ·refine tE h4 H fun H=>zb hN Z (qd Z (qe Z (zg ?_)))
  cases H
  exact ⟨U,⟨.inl Z,U⟩,Z⟩
 ·refine fE h4 H fun H=>zl (zb hN Z (qd Z (za (zh (.ptr _ _) Z) (qd Z (qd Z (za (yl _ Z Z (.inr (.inl ⟨Z,Z⟩))) (za (yl _ Z Z (.inl ⟨Z,Z⟩)) (bE H fun r5 h6 H=>zj (qt (z15 s1 (wr ((wr (high3 - low2))+1)) r5 h6) Z ⟨.inl Z,U⟩ Z) Z (za (yl _ Z Z (.inl ⟨Z,Z⟩)) (qe Z (zg ?_)))))))))))
  cases H
  exact ⟨U,⟨.inl Z,U⟩,Z⟩
theorem Wx (s1:zy) (l2:(List Bs)) (r:(Bs×zy)) (H:xy s1 l2=some r):Imp Tryz.prog 17 25 (vf s1) [vlst (List.map zt l2)] (zr [vstr r.1]) (vf r.2):=by
 refine kv (us:=[vstr r.1]) (cs':=(vf r.2)) (by kernel_rfl) Tryz.func17 Z Z Z Z fun X bl hN => ?_
 unfold xy at H
 refine zb hN Z (qe Z (zb hN Z (qd Z (za (zh (.ptr _ _) Z) (qd Z (za (yk qr Z) (bE H fun r3 h4 H=>zj (qt (z15 s1 (l2.length:Int) r3 h4) Z ⟨.inl Z,U⟩ Z) Z (bE H fun x5 h6 H=>za (wx wv (fun _=>Z) Z Z h6) (za (yr tyS9 Z (ym (qk h6).2) Z) (qe Z (zg ?_)))))))))))
 cases H
 exact ⟨U,⟨.inl Z,U⟩,Z⟩
theorem v08 (s1:zy) (r:((List Bs)×zy)) (H:z9l s1=some r):Imp Tryz.prog 15 25 (vf s1) [] (zr [vlst (List.map zt r.1)]) (vf r.2):=by
 refine kv (us:=[vlst (List.map zt r.1)]) (cs':=(vf r.2)) (by kernel_rfl) Tryz.func15 Z Z Z Z fun X bl hN => ?_
 unfold z9l at H
 refine zb hN Z (qe Z (zb hN Z (qe Z (zd (zb hN Z (za (zh (.ptr _ _) Z) (bE H fun r2 h3 H=>zj (qt (z96 s1 0 4 r2 h3) Z ⟨.inl Z,.inl Z,U⟩ Z) Z (qd Z (zu (uy 3 1 9 1 Z Z Z (gE H fun h9 H=>Zt (fun (k7:Nat) (s:(List Int)×Int×(List Bs))=>[(0,.ptr 0 0),(3,.row 1 s.2.2.length),(5,.dat (vint r2.1)),(6,.dat (vint (k7:Int)))]) (fun (k7:Nat) (s:(List Int)×Int×(List Bs))=>[(0,.box (some bl) 25 [.dat (vlst (List.map wi s.1)),.dat (vint s.2.1)]),(1,.row 9 1 (List.map zt s.2.2))]) (r2.2.L,r2.2.at_,[]) H ⟨Z,Z,Z,Z,U⟩ ⟨Z,Z,U⟩ (fun _ _=>Z) ?_ ?_)))))))))))
 ·rintro ⟨c4,c5,l6⟩ H
  replace H:y5j c4 c5 l6=some r:=H
  unfold y5j at H
  refine zb hN Z (za (zw Z Z) (zd (zf _ Z (fun h=>(z5c h).elim) (fun h => ?_))))
  refine yp (zb hN Z (za (zh (.row _ _) Z) (za (wm (.row _ _) Z) (zg ?_))))
  cases H
  exact ⟨U,⟨Yx Z Z,U⟩,Z⟩
 ·rintro k7 ⟨c4,c5,l6⟩ q8 h10 H hq8
  replace H:y5i k7 c4 c5 l6=some q8:=H
  unfold y5i at H
  refine zb hN Z (za (zw Z Z) (zd (zf _ Z (fun h => ?_) (fun h=>(z5d h10 h).elim))))
  refine zl (zd (zu (zk hN Z (za (zh (.row _ _) Z) (za (zh (.ptr _ _) Z) (za (yg (u':=vlst (List.map zt [[97],[97,58,42],[97,58,98],[97,58,98,58,42],[97,58,98,58,99],[98],[98,58,42],[98,58,99],[42]])) (qy [[_],[_],[_],[_],[_],[_],[_],[_],[_]] vn ⟨Z,.inl ⟨_,Z,Z,Z⟩,Z,Z,.inl ⟨_,Z,Z,Z⟩,Z,Z,.inl ⟨_,Z,Z,Z⟩,Z,Z,.inl ⟨_,Z,Z,Z⟩,Z,Z,.inl ⟨_,Z,Z,Z⟩,Z,Z,.inl ⟨_,Z,Z,Z⟩,Z,Z,.inl ⟨_,Z,Z,Z⟩,Z,Z,.inl ⟨_,Z,Z,Z⟩,Z,Z,.inl ⟨_,Z,Z,Z⟩,Z,U⟩ Z Z) Z) (bE H fun r11 h12 H=>zj (qt (Wx (zy.mk c4 c5) ([[97],[97,58,42],[97,58,98],[97,58,98,58,42],[97,58,98,58,99],[98],[98,58,42],[98,58,99],[42]]) r11 h12) Z ⟨.inl Z,U⟩ Z) Z (za (yg (u':=vlst (List.map zt [r11.1])) (qy [[_]] vn ⟨Z,.inl ⟨_,Z,Z,Z⟩,Z,U⟩ Z Z) Z) (gE H fun h13 H=>zj (ko vn (fun _=>Z) Z Z Z ⟨by simp,by first | (simp; done) | simpa using h13⟩ Z) Z ?_)))))))))
  exact za (wm (.row _ _) Z) (zk hN Z (za (qi Z Z (by omega)) (qd Z ⟨_,yw H,⟨Z,Z,Z,Z,U⟩,⟨Z,Z,U⟩⟩)))
theorem z16 (s1:zy) (n2:Int) (r:(Bool×zy)) (H:Zn s1 n2=some r):Imp Tryz.prog 16 25 (vf s1) [vint n2] (zr [zi r.1]) (vf r.2):=by
 refine kv (us:=[zi r.1]) (cs':=(vf r.2)) (by kernel_rfl) Tryz.func16 Z Z Z Z fun X bl hN => ?_
 unfold Zn at H
 refine zb hN Z (qe Z (zb hN Z (za (zh (.ptr _ _) Z) (qd Z (bE H fun r3 h4 H=>zj (qt (z15 s1 n2 r3 h4) Z ⟨.inl Z,U⟩ Z) Z (za (yn Z Z) (qe Z (zg ?_))))))))
 cases H
 exact ⟨U,⟨.inl Z,U⟩,Z⟩
theorem xi (s1:zy) (l2:(List Int)) (r:(Int×zy)) (H:ks s1 l2=some r):Imp Tryz.prog 18 25 (vf s1) [vlst (List.map wi l2)] (zr [vint r.1]) (vf r.2):=by
 refine kv (us:=[vint r.1]) (cs':=(vf r.2)) (by kernel_rfl) Tryz.func18 Z Z Z Z fun X bl hN => ?_
 unfold ks at H
 refine zb hN Z (qe Z (zb hN Z (qd Z (za (zh (.ptr _ _) Z) (qd Z (za (yk z6m Z) (bE H fun r3 h4 H=>zj (qt (z15 s1 (l2.length:Int) r3 h4) Z ⟨.inl Z,U⟩ Z) Z (bE H fun x5 h6 H=>za (wx Yv (fun _=>Z) Z Z h6) (za (yr tyS3 Z (ym (qk h6).2) Z) (qe Z (zg ?_)))))))))))
 cases H
 exact ⟨U,⟨.inl Z,U⟩,Z⟩
theorem v1a (s1:zy) (r:(yh×zy)) (H:z9n s1=some r):Imp Tryz.prog 4 25 (vf s1) [] (zr [vagg (jo r.1)]) (vf r.2):=by
 refine kv (us:=[vagg (jo r.1)]) (cs':=(vf r.2)) (by kernel_rfl) Tryz.func4 Z Z Z Z fun X bl hN => ?_
 unfold z9n at H
 refine zb hN Z (zj (qm 1 y1e Z) Z (zb hN Z (za (zh (.ptr _ _) Z) (bE H fun r2 h3 H=>zj (qt (v08 s1 r2 h3) Z U Z) Z (za (yg (u':=vagg (wb (yq.mk [109,97,112,115] r2.1))) (qv [(0,[vstr [109,97,112,115]]),(1,[vlst (List.map zt r2.1)])] z2r x3z Z ⟨Z,.inl ⟨_,Z,Z,Z⟩,Z,Z,.inl ⟨_,Z,Z,Z⟩,Z,U⟩) Z) (za (yg (u':=vlst (List.map zt [[111,114,100,101,114,115]])) (qy [[_]] vn ⟨Z,.inl ⟨_,Z,Z,Z⟩,Z,U⟩ Z Z) Z) (za (yg (u':=vagg (wb (yq.mk [115,104,111,112] ([[111,114,100,101,114,115]])))) (qv [(0,[vstr [115,104,111,112]]),(1,[vlst (List.map zt ([[111,114,100,101,114,115]]))])] z2r x3z Z ⟨Z,.inl ⟨_,Z,Z,Z⟩,Z,Z,.inl ⟨_,Z,Z,Z⟩,Z,U⟩) Z) (za (yg (u':=vlst (List.map wb [(yq.mk [109,97,112,115] r2.1),(yq.mk [115,104,111,112] ([[111,114,100,101,114,115]]))])) (qy [_,_] w1t ⟨Z,.inr Z,Z,Z,.inr Z,Z,U⟩ Z Z) Z) (za (yg (u':=vagg [vlst (List.map wb ([(yq.mk [109,97,112,115] r2.1),(yq.mk [115,104,111,112] ([[111,114,100,101,114,115]]))])),vnil]) (qv [(0,[vlst (List.map wb ([(yq.mk [109,97,112,115] r2.1),(yq.mk [115,104,111,112] ([[111,114,100,101,114,115]]))]))])] y1e w1k Z ⟨Z,.inl ⟨_,Z,Z,Z⟩,Z,U⟩) Z) (zj (qm 2 y1e Z) Z (zj (yo vj Z Z Z Z) Z (y56 2 1 3 75 8 Z Z Z Z (zd (zb hN Z (za (yg (u':=vlst (List.map zt [[98,105,103],[102,114,101,101],[109,105,100],[115,109,97,108,108]])) (qy [[_],[_],[_],[_]] vn ⟨Z,.inl ⟨_,Z,Z,Z⟩,Z,Z,.inl ⟨_,Z,Z,Z⟩,Z,Z,.inl ⟨_,Z,Z,Z⟩,Z,Z,.inl ⟨_,Z,Z,Z⟩,Z,U⟩ Z Z) Z) (za (yk qr Z) (qd Z (zu (gE H fun h9 H=>qq (fun (k7:Nat) (s:(List yj)×(List Int)×Int)=>[(0,.ptr 0 0),(2,.ptr 1 0),(3,.ptr 2 0),(15,.dat (vlst (List.map zt ([[98,105,103],[102,114,101,101],[109,105,100],[115,109,97,108,108]])))),(16,.dat (vint (([[98,105,103],[102,114,101,101],[109,105,100],[115,109,97,108,108]]).length:Int))),(17,.dat (vint (k7:Int)))]) (fun (k7:Nat) (s:(List yj)×(List Int)×Int)=>[(0,.box (some bl) 25 [.dat (vlst (List.map wi s.2.1)),.dat (vint s.2.2)]),(1,.box none 29 [.dat (vnil),.dat (vnil)]),(2,.box none 29 [.dat (vlst (List.map wb ([(yq.mk [109,97,112,115] r2.1),(yq.mk [115,104,111,112] ([[111,114,100,101,114,115]]))]))),.row 3 s.1.length]),(3,.row 75 8 (List.map wj s.1))]) (([]:List yj),r2.2.L,r2.2.at_) H ⟨Z,Z,Z,Z,Z,Z,U⟩ ⟨Z,Z,(congrArg (fun n=>some (some (AObj.box none 29 [.dat (vlst (List.map wb ([(yq.mk [109,97,112,115] r2.1),(yq.mk [115,104,111,112] ([[111,114,100,101,114,115]]))]))),.row 3 n]))) (show 0=([]:List yj).length from (by simp))),Z,U⟩ (fun _ _=>Z) ?_ ?_)))))))))))))))))))
 ·rintro ⟨l4,c5,c6⟩ H
  replace H:y5p r2 l4 c5 c6=some r:=H
  unfold y5p at H
  refine zb hN Z (za (zw Z Z) (zd (zf _ Z (fun h=>(lt_t h).elim) (fun h => ?_))))
  refine yp (zd (x2r 2 1 3 rfl rfl rfl (by first | rw [List.length_map] | rfl) ?_))
  refine zk hN Z (zm (qc vj Z Z Z) Z (zj (yo vj Z Z Z Z) Z (zg ?_)))
  cases H
  exact ⟨U,⟨.inl ⟨_,_,_,jo (yh.mk ([(yq.mk [109,97,112,115] r2.1),(yq.mk [115,104,111,112] ([[111,114,100,101,114,115]]))]) l4),Z,Z,Z,Z,vj⟩,U⟩,Z⟩
 ·rintro k7 x10 ⟨l4,c5,c6⟩ q8 h11 h12 H hq8
  replace H:y5n k7 x10 l4 c5 c6=some q8:=H
  unfold y5n at H
  refine uz (zb hN Z (za (zw Z Z) (zd (zf _ Z (fun h => ?_) (fun h=>(lt_f h11 h).elim)))))
  refine zl (yc (ι:=(List Int)×Int×(List yj)) (fun i=>[(0,.ptr 0 0),(2,.ptr 1 0),(3,.ptr 2 0),(15,.dat (vlst (List.map zt ([[98,105,103],[102,114,101,101],[109,105,100],[115,109,97,108,108]])))),(16,.dat (vint (([[98,105,103],[102,114,101,101],[109,105,100],[115,109,97,108,108]]).length:Int))),(17,.dat (vint (k7:Int)))]) (fun i=>[(0,.box (some bl) 25 [.dat (vlst (List.map wi i.1)),.dat (vint i.2.1)]),(1,.box none 29 [.dat (vnil),.dat (vnil)]),(2,.box none 29 [.dat (vlst (List.map wb ([(yq.mk [109,97,112,115] r2.1),(yq.mk [115,104,111,112] ([[111,114,100,101,114,115]]))]))),.row 3 i.2.2.length]),(3,.row 75 8 (List.map wj i.2.2))]) (fun i=>z2i i.1 i.2.1 i.2.2=some q8) (fun i=>Z) ?_ ?_)
  ·refine uz (zu (zb hN Z (za (qp wv (fun _=>Z) Z Z h12) (za (yr tyS9 Z (ym h12) Z) (qe Z (zd (zb hN Z (za (zh (.ptr _ _) Z) (bE H fun r13 h14 H=>zj (qt (z16 (zy.mk c5 c6) 5 r13 h14) Z ⟨.inl Z,U⟩ Z) Z (zf _ Z (fun h15 => ?_) (fun h15 => ?_)))))))))))
   ·refine tE h15 H fun H=>yp ?_
    show Cv _ _ _ _
    exact ux ⟨(r13.2.L,r13.2.at_,l4),H,⟨Z,Z,Z,Z,Z,Z,U⟩,⟨Z,Z,Z,Z,U⟩⟩
   ·refine fE h15 H fun H=>zl (zb hN Z (qd Z (za (zh (.ptr _ _) Z) (za (yg (u':=vlst (List.map zt [[115,104,111,112],[115,104,111,112],[109,97,112,115]])) (qy [[_],[_],[_]] vn ⟨Z,.inl ⟨_,Z,Z,Z⟩,Z,Z,.inl ⟨_,Z,Z,Z⟩,Z,Z,.inl ⟨_,Z,Z,Z⟩,Z,U⟩ Z Z) Z) (bE H fun r16 h17 H=>zj (qt (Wx r13.2 ([[115,104,111,112],[115,104,111,112],[109,97,112,115]]) r16 h17) Z ⟨.inl Z,U⟩ Z) Z (za (zh (.ptr _ _) Z) (za (yg (u':=vlst (List.map wi [0,0,1000,3000,31])) (qy [[_],[_],[_],[_],[_]] kf ⟨Z,.inl ⟨_,Z,Z,Z⟩,Z,Z,.inl ⟨_,Z,Z,Z⟩,Z,Z,.inl ⟨_,Z,Z,Z⟩,Z,Z,.inl ⟨_,Z,Z,Z⟩,Z,Z,.inl ⟨_,Z,Z,Z⟩,Z,U⟩ Z Z) Z) (bE H fun r18 h19 H=>zj (qt (xi r16.2 [0,0,1000,3000,31] r18 h19) Z ⟨.inl Z,U⟩ Z) Z (za (zh (.ptr _ _) Z) (za (yg (u':=vlst (List.map wi [0,10,100])) (qy [[_],[_],[_]] kf ⟨Z,.inl ⟨_,Z,Z,Z⟩,Z,Z,.inl ⟨_,Z,Z,Z⟩,Z,Z,.inl ⟨_,Z,Z,Z⟩,Z,U⟩ Z Z) Z) (bE H fun r20 h21 H=>zj (qt (xi r18.2 [0,10,100] r20 h21) Z ⟨.inl Z,U⟩ Z) Z (za (zh (.ptr _ _) Z) (za (yg (u':=vlst (List.map wi [(-1),(-1),0,1000])) (qy [[_],[_],[_],[_]] kf ⟨Z,.inl ⟨_,Z,Z,Z⟩,Z,Z,.inl ⟨_,Z,Z,Z⟩,Z,Z,.inl ⟨_,Z,Z,Z⟩,Z,Z,.inl ⟨_,Z,Z,Z⟩,Z,U⟩ Z Z) Z) (bE H fun r22 h23 H=>zj (qt (xi r20.2 [(-1),(-1),0,1000] r22 h23) Z ⟨.inl Z,U⟩ Z) Z (za (zh (.ptr _ _) Z) (za (yg (u':=vlst (List.map wi [0,0,1,2])) (qy [[_],[_],[_],[_]] kf ⟨Z,.inl ⟨_,Z,Z,Z⟩,Z,Z,.inl ⟨_,Z,Z,Z⟩,Z,Z,.inl ⟨_,Z,Z,Z⟩,Z,Z,.inl ⟨_,Z,Z,Z⟩,Z,U⟩ Z Z) Z) (bE H fun r24 h25 H=>zj (qt (xi r22.2 [0,0,1,2] r24 h25) Z ⟨.inl Z,U⟩ Z) Z ?_)))))))))))))))))
    refine za (zh (.ptr _ _) Z) (bE H fun r26 h27 H=>zj (qt (z16 r24.2 2 r26 h27) Z ⟨.inl Z,U⟩ Z) Z (za (yg (u':=vagg [vstr x10,vstr r16.1,vint r18.1,vint r20.1,vnil,vint r22.1,vint r24.1,zi r26.1]) (qv [(0,[vstr x10]),(1,[vstr r16.1]),(2,[vint r18.1]),(3,[vint r20.1]),(5,[vint r22.1]),(6,[vint r24.1]),(7,[zi r26.1])] Ys x3y Z ⟨Z,.inl ⟨_,Z,Z,Z⟩,Z,Z,.inl ⟨_,Z,Z,Z⟩,Z,Z,.inl ⟨_,Z,Z,Z⟩,Z,Z,.inl ⟨_,Z,Z,Z⟩,Z,Z,.inl ⟨_,Z,Z,Z⟩,Z,Z,.inl ⟨_,Z,Z,Z⟩,Z,Z,.inl ⟨_,Z,Z,Z⟩,Z,U⟩) Z) (zj (qm 4 Ys Z) Z (zj (yo ka Z Z Z Z) Z (y56 4 4 5 77 2 Z Z Z Z (zb hN Z (qe Z (zd (zb hN Z (za (zh (.ptr _ _) Z) (za (yg (u':=vlst (List.map wi [0,1,2,3])) (qy [[_],[_],[_],[_]] kf ⟨Z,.inl ⟨_,Z,Z,Z⟩,Z,Z,.inl ⟨_,Z,Z,Z⟩,Z,Z,.inl ⟨_,Z,Z,Z⟩,Z,Z,.inl ⟨_,Z,Z,Z⟩,Z,U⟩ Z Z) Z) (bE H fun r28 h29 H=>zj (qt (xi r26.2 [0,1,2,3] r28 h29) Z ⟨.inl Z,U⟩ Z) Z (qd Z (zu (gE H fun h36 H=>Zt (fun (k34:Nat) (s:Int×(List qw)×(List Int)×Int)=>[(0,.ptr 0 0),(2,.ptr 1 0),(3,.ptr 2 0),(6,.ptr 4 0),(7,.dat (vint s.1)),(15,.dat (vlst (List.map zt ([[98,105,103],[102,114,101,101],[109,105,100],[115,109,97,108,108]])))),(16,.dat (vint (([[98,105,103],[102,114,101,101],[109,105,100],[115,109,97,108,108]]).length:Int))),(17,.dat (vint (k7:Int))),(44,.dat (vint r28.1)),(45,.dat (vint (k34:Int)))]) (fun (k34:Nat) (s:Int×(List qw)×(List Int)×Int)=>[(0,.box (some bl) 25 [.dat (vlst (List.map wi s.2.2.1)),.dat (vint s.2.2.2)]),(1,.box none 29 [.dat (vnil),.dat (vnil)]),(2,.box none 29 [.dat (vlst (List.map wb ([(yq.mk [109,97,112,115] r2.1),(yq.mk [115,104,111,112] ([[111,114,100,101,114,115]]))]))),.row 3 l4.length]),(3,.row 75 8 (List.map wj l4)),(4,.box none 75 [.dat (vstr x10),.dat (vstr r16.1),.dat (vint r18.1),.dat (vint r20.1),.row 5 s.2.1.length,.dat (vint r22.1),.dat (vint r24.1),.dat (zi r26.1)]),(5,.row 77 2 (List.map jy s.2.1))]) (1,([]:List qw),r28.2.L,r28.2.at_) H ⟨Z,Z,Z,Z,Z,Z,Z,Z,Z,Z,U⟩ ⟨Z,Z,Z,Z,(congrArg (fun n=>some (some (AObj.box none 75 [.dat (vstr x10),.dat (vstr r16.1),.dat (vint r18.1),.dat (vint r20.1),.row 5 n,.dat (vint r22.1),.dat (vint r24.1),.dat (zi r26.1)]))) (show 0=([]:List qw).length from (by simp))),Z,U⟩ (fun _ _=>Z) ?_ ?_)))))))))))))))
    ·rintro ⟨v30,l31,c32,c33⟩ H
     replace H:y5o l4 x10 r16 r18 r20 r22 r24 r26 v30 l31 c32 c33=some q8:=H
     unfold y5o at H
     refine zb hN Z (za (zw Z Z) (zd (zf _ Z (fun h=>(z5c h).elim) (fun h => ?_))))
     refine yp (x2r 4 4 5 rfl rfl rfl (by first | rw [List.length_map] | rfl) ?_)
     refine zk hN Z (za (zn uj Z) (zm (zp ui Z Z) Z (zm (qc ka Z Z Z) Z (za (yg (u':=vlst (List.map wj [(yj.mk x10 r16.1 r18.1 r20.1 l31 r22.1 r24.1 r26.1)])) (qy [_] x4a ⟨Z,.inr Z,Z,U⟩ Z Z) Z) (gE H fun h37 H=>zj (ko x4a (fun _=>Z) Z Z Z ⟨by simp,by first | (simp; done) | simpa using h37⟩ Z) Z ?_)))))
     refine za (zn uj Z) (z7p (z7d ui Z Z (by rw [List.length_map]) Z) Z Z ?_)
     refine xu ?_
     show Cv _ _ _ _
     exact ux ⟨(c32,c33,(l4++[(yj.mk x10 r16.1 r18.1 r20.1 l31 r22.1 r24.1 r26.1)])),H,⟨Z,Z,Z,Z,Z,Z,U⟩,⟨Z,Z,Z,Z,U⟩⟩
    ·rintro k34 ⟨v30,l31,c32,c33⟩ q35 h38 H hq35
     replace H:y5m k34 v30 l31 c32 c33=some q35:=H
     unfold y5m at H
     refine uz (zb hN Z (za (zw Z Z) (zd (zf _ Z (fun h => ?_) (fun h=>(z5d h38 h).elim)))))
     refine zl (zd (zu (zd (wg mixed hN Z Z (za (zn Qw Z) (zm (zp Qt Z Z) Z (qd Z (za (zh (.ptr _ _) Z) (za (yg (u':=vlst (List.map wi [0,100,500,1500])) (qy [[_],[_],[_],[_]] kf ⟨Z,.inl ⟨_,Z,Z,Z⟩,Z,Z,.inl ⟨_,Z,Z,Z⟩,Z,Z,.inl ⟨_,Z,Z,Z⟩,Z,Z,.inl ⟨_,Z,Z,Z⟩,Z,U⟩ Z Z) Z) (bE H fun r39 h40 H=>zj (qt (xi (zy.mk c32 c33) [0,100,500,1500] r39 h40) Z ⟨.inl Z,U⟩ Z) Z (za (yg (u':=vagg (jy (qw.mk v30 r39.1))) (qv [(0,[vint v30]),(1,[vint r39.1])] y6m w1f Z ⟨Z,.inl ⟨_,Z,Z,Z⟩,Z,Z,.inl ⟨_,Z,Z,Z⟩,Z,U⟩) Z) (za (yg (u':=vlst (List.map jy [(qw.mk v30 r39.1)])) (qy [_] x33 ⟨Z,.inr Z,Z,U⟩ Z Z) Z) (gE H fun h41 H=>zj (ko x33 (fun _=>Z) Z Z Z ⟨by simp,by first | (simp; done) | simpa using h41⟩ Z) Z ?_)))))))))))))
     refine za (zn Qw Z) (z7p (z7d Qt Z Z (by rw [List.length_map]) Z) Z Z ?_)
     refine ⟨Z,?_⟩
     refine zk hN Z (qd Z (za (zh (.ptr _ _) Z) (za (yg (u':=vlst (List.map wi [1,9,100])) (qy [[_],[_],[_]] kf ⟨Z,.inl ⟨_,Z,Z,Z⟩,Z,Z,.inl ⟨_,Z,Z,Z⟩,Z,Z,.inl ⟨_,Z,Z,Z⟩,Z,U⟩ Z Z) Z) (bE H fun r42 h43 H=>zj (qt (xi r39.2 [1,9,100] r42 h43) Z ⟨.inl Z,U⟩ Z) Z (za (yl _ Z Z (.inl ⟨Z,Z⟩)) (qe Z (zk hN Z (za (qi Z Z (by omega)) (qd Z (xu ?_))))))))))
     show Cv _ _ _ _
     exact ux ⟨_,yw H,⟨Z,Z,Z,Z,Z,Z,Z,Z,Z,Z,U⟩,⟨Z,Z,Z,Z,Z,Z,U⟩⟩
  ·rintro ⟨c44,c45,l46⟩ H
   replace H:z2i c44 c45 l46=some q8:=H
   unfold z2i at H
   refine zk hN Z (za (qi Z Z (by omega)) (qd Z (xu ?_)))
   show Cv _ _ _ _
   exact ux ⟨_,yw H,⟨Z,Z,Z,Z,Z,Z,U⟩,⟨Z,Z,Z,Z,U⟩⟩
theorem v1b (s1:zy) (r:((List yd)×zy)) (H:z12 s1=some r):Imp Tryz.prog 5 25 (vf s1) [] (zr [vlst (List.map wd r.1)]) (vf r.2):=by
 refine kv (us:=[vlst (List.map wd r.1)]) (cs':=(vf r.2)) (by kernel_rfl) Tryz.func5 Z Z Z Z fun X bl hN => ?_
 unfold z12 at H
 refine zb hN Z (qe Z (zb hN Z (za (yg (u':=vagg (wd (yd.mk [97,112,112,49] [97,110,110]))) (qv [(0,[vstr [97,112,112,49]]),(1,[vstr [97,110,110]])] z6k y6w Z ⟨Z,.inl ⟨_,Z,Z,Z⟩,Z,Z,.inl ⟨_,Z,Z,Z⟩,Z,U⟩) Z) (za (zh (.ptr _ _) Z) (za (yg (u':=vlst (List.map zt [[97,110,110],[98,111,98]])) (qy [[_],[_]] vn ⟨Z,.inl ⟨_,Z,Z,Z⟩,Z,Z,.inl ⟨_,Z,Z,Z⟩,Z,U⟩ Z Z) Z) (bE H fun r2 h3 H=>zj (qt (Wx s1 ([[97,110,110],[98,111,98]]) r2 h3) Z ⟨.inl Z,U⟩ Z) Z (za (yg (u':=vagg (wd (yd.mk [97,112,112,50] r2.1))) (qv [(0,[vstr [97,112,112,50]]),(1,[vstr r2.1])] z6k y6w Z ⟨Z,.inl ⟨_,Z,Z,Z⟩,Z,Z,.inl ⟨_,Z,Z,Z⟩,Z,U⟩) Z) (za (yg (u':=vagg (wd (yd.mk [97,112,112,51] [98,111,98]))) (qv [(0,[vstr [97,112,112,51]]),(1,[vstr [98,111,98]])] z6k y6w Z ⟨Z,.inl ⟨_,Z,Z,Z⟩,Z,Z,.inl ⟨_,Z,Z,Z⟩,Z,U⟩) Z) (za (yg (u':=vlst (List.map wd [(yd.mk [97,112,112,49] [97,110,110]),(yd.mk [97,112,112,50] r2.1),(yd.mk [97,112,112,51] [98,111,98])])) (qy [_,_,_] w1r ⟨Z,.inr Z,Z,Z,.inr Z,Z,Z,.inr Z,Z,U⟩ Z Z) Z) (qe Z (zb hN Z (qd Z (za (zh (.ptr _ _) Z) (za (yg (u':=vlst (List.map wi [1,2,3,3])) (qy [[_],[_],[_],[_]] kf ⟨Z,.inl ⟨_,Z,Z,Z⟩,Z,Z,.inl ⟨_,Z,Z,Z⟩,Z,Z,.inl ⟨_,Z,Z,Z⟩,Z,Z,.inl ⟨_,Z,Z,Z⟩,Z,U⟩ Z Z) Z) (bE H fun r4 h5 H=>zj (qt (xi r2.2 [1,2,3,3] r4 h5) Z ⟨.inl Z,U⟩ Z) Z (bE H fun l6 h7 H=>za (y7v Qy (fun _=>Z) Z Z Z h7) (qe Z (zg ?_))))))))))))))))))
 cases H
 exact ⟨U,⟨.inl Z,U⟩,Z⟩
theorem x7r (data1:(List zq)) (a2:Int) (b3:Int) (p3:zq→zq→Option (Int)) (fv3:Nat) (us3:List V) (hp3:∀ a0 a1 r,p3 a0 a1=some r→Fn Tryz.prog fv3 ([vagg (yy a0),vagg (yy a1)]++us3) (zr [vint r])) (r:((List zq))) (H:y3z data1 a2 b3 p3=some r):FnG Tryz.prog 166 [.row 0 data1.length,.dat (vint a2),.dat (vint b3),.dat (vfn fv3 us3)] [(0,.rowA undef 109 5 (List.map yy data1))] (.dat (zr [])) [(0,.rowA undef 109 5 (List.map yy r))]:=by
 refine Zs (by kernel_rfl) Tryz.func166 Z Z Z Z fun X A hN => ?_
 unfold y3z at H
 refine zb hN Z (qd Z (za (yl _ Z Z (.inl ⟨Z,Z⟩)) (qe Z (zu (kj (fun (s:Int×(List zq))=>[(0,.row 0 s.2.length),(1,.dat (vint a2)),(2,.dat (vint b3)),(3,.dat (vfn fv3 us3)),(8,.dat (vint s.1))]) (fun (s:Int×(List zq))=>[(0,.rowA (A.vl 0) 109 5 (List.map yy s.2))]) (wr (a2+1),data1) H ⟨Z,Z,Z,Z,Z,U⟩ ⟨Z,U⟩ (fun _=>Z) ?_)))))
 rintro ⟨i4,l5⟩ q6 H hq6
 replace H:y8a a2 b3 p3 i4 l5=some q6:=H
 unfold y8a at H
 refine zd (zb hN Z (qd Z (qd Z (za (zw Z Z) (zf _ Z (fun h7 => ?_) (fun h7 => ?_))))))
 ·refine tE h7 H fun H=>zl (yc (ι:=(List zq)) (fun i=>[(0,.row 0 i.length),(1,.dat (vint a2)),(2,.dat (vint b3)),(3,.dat (vfn fv3 us3)),(8,.dat (vint i4))]) (fun i=>[(0,.rowA (A.vl 0) 109 5 (List.map yy i))]) (fun i=>y2r i4 i=some q6) (fun i=>Z) ?_ ?_)
  ·skip
   refine zu (zb hN Z (qd Z (qe Z (zu (kj (fun (s:Int×(List zq))=>[(0,.row 0 s.2.length),(1,.dat (vint a2)),(2,.dat (vint b3)),(3,.dat (vfn fv3 us3)),(8,.dat (vint i4)),(9,.dat (vint s.1))]) (fun (s:Int×(List zq))=>[(0,.rowA (A.vl 0) 109 5 (List.map yy s.2))]) (i4,l5) H ⟨Z,Z,Z,Z,Z,Z,U⟩ ⟨Z,U⟩ (fun _=>Z) ?_)))))
   rintro ⟨j8,l9⟩ q10 H hq10
   replace H:y79 a2 p3 i4 j8 l9=some q10:=H
   unfold y79 at H
   refine zd (yc (ι:=Bool) (fun i=>[(0,.row 0 l9.length),(1,.dat (vint a2)),(2,.dat (vint b3)),(3,.dat (vfn fv3 us3)),(8,.dat (vint i4)),(9,.dat (vint j8)),(34,.dat (zi i))]) (fun i=>[(0,.rowA (A.vl 0) 109 5 (List.map yy l9))]) (fun i=>z7j i4 j8 l9 i=some q10) (fun i=>Z) ?_ ?_)
   ·skip
    refine wg mixed hN Z Z (qd Z (qd Z (za (qh Z Z) (qd Z (yi (j:=3) Z Z (fun h11 => ?_) (fun h11 => ?_) Z)))))
    ·refine u1 h11 H fun h12 H=>ze Z Z h11 (zh (.dat _) Z) (ze Z Z h11 (zh (.row _ _) Z) (ze Z Z h11 (zh (.dat _) Z) (bE H fun x13 h14 H=>qz Z Z h11 (z3e ju Z Z Z h14) Z (qz Z Z h11 (z66 vx Z Z (qk h14).2 Z) Z (ze Z Z h11 (zh (.row _ _) Z) (ze Z Z h11 (zh (.dat _) Z) (ze Z Z h11 (yl _ Z Z (.inr (.inl ⟨Z,Z⟩))) (bE H fun x15 h16 H=>qz Z Z h11 (z3e ju Z Z Z h16) Z (qz Z Z h11 (z66 vx Z Z (qk h16).2 Z) Z (bE H fun r17 h18 H=>ze Z Z h11 (kz (hp3 x13 x15 r17 h18) Z ⟨.inl Z,.inl Z,U⟩) (ze Z Z h11 (zw Z Z) (za (yb Z (bTT h12) Z) ⟨Z,?_⟩))))))))))))
     exact ⟨decide (r17 < 0),H,⟨Z,Z,Z,Z,Z,Z,Z,U⟩,⟨Z,U⟩⟩
    ·refine u2 h11 H fun h19 H=>zc Z Z h11 (zc Z Z h11 (zc Z Z h11 (zc Z Z h11 (zc Z Z h11 (zc Z Z h11 (zc Z Z h11 (zc Z Z h11 (zc Z Z h11 (zc Z Z h11 (zc Z Z h11 (zc Z Z h11 (za (ya Z (bFF h19) Z) ⟨Z,?_⟩))))))))))))
     exact ⟨false,H,⟨Z,Z,Z,Z,Z,Z,Z,U⟩,⟨Z,U⟩⟩
   ·rintro v20 H
    replace H:z7j i4 j8 l9 v20=some q10:=H
    unfold z7j at H
    refine zf _ Z (fun h21 => ?_) (fun h21 => ?_)
    ·refine tE h21 H fun H=>zl (zd (zu (wg mixed hN Z Z (za (zh (.row _ _) Z) (qd Z (za (zh (.row _ _) Z) (qd Z (za (yl _ Z Z (.inr (.inl ⟨Z,Z⟩))) (za (zh (.row _ _) Z) (qd Z (za (yl _ Z Z (.inr (.inl ⟨Z,Z⟩))) (bE H fun x22 h23 H=>zm (z3e ju Z Z Z h23) Z (zm (z66 vx Z Z (qk h23).2 Z) Z (za (zh (.row _ _) Z) (qd Z (bE H fun x24 h25 H=>zm (z3e ju Z Z Z h25) Z (zm (z66 vx Z Z (qk h25).2 Z) Z (zm (z3e ju Z Z Z h25) Z (zj (x5e (C:=yy) vx Z Z Z (x2s (qk h25).2) Z Z) Z (bE H fun x26 h27 H=>?_))))))))))))))))))))
     refine zm (z3e ju Z (by simp) Z h27) Z (zj (x5e (C:=yy) vx Z Z (by simp) (x2s (qk h27).2) Z Z) Z ⟨Z,?_⟩)
     exact zk hN Z (qd Z (za (yl _ Z Z (.inr (.inl ⟨Z,Z⟩))) (qe Z ⟨_,yw H,⟨congrArg (Slot.row 0) (by simp),Z,Z,Z,Z,Z,U⟩,⟨Z,U⟩⟩)))
    ·refine fE h21 H fun H=>yp ?_
     replace H:=outl H hq10
     exact ⟨l9,H,⟨Z,Z,Z,Z,Z,U⟩,⟨Z,U⟩⟩
  ·rintro data28 H
   replace H:y2r i4 data28=some q6:=H
   unfold y2r at H
   exact zk hN Z (qd Z (za (yl _ Z Z (.inl ⟨Z,Z⟩)) (qe Z ⟨_,yw H,⟨Z,Z,Z,Z,Z,U⟩,⟨Z,U⟩⟩)))
 ·refine fE h7 H fun H=>yp ?_
  replace H:=retl H hq6
  have eH:l5=r:=Option.some.inj H
  subst eH
  exact ⟨U,[],U,⟨Z,U⟩,Z,.inl ⟨[],U,Z⟩⟩
theorem w7i (data1:(List zq)) (n2:Int) (p2:zq→zq→Option (Int)) (fv2:Nat) (us2:List V) (hp2:∀ a0 a1 r,p2 a0 a1=some r→Fn Tryz.prog fv2 ([vagg (yy a0),vagg (yy a1)]++us2) (zr [vint r])) (r:((List zq))) (H:y3y data1 n2 p2=some r):FnG Tryz.prog 103 [.row 0 data1.length,.dat (vint n2),.dat (vfn fv2 us2)] [(0,.rowA undef 109 5 (List.map yy data1))] (.dat (zr [])) [(0,.rowA undef 109 5 (List.map yy r))]:=by
 refine Zs (by kernel_rfl) Tryz.func103 Z Z Z Z fun X A hN => ?_
 unfold y3y at H
 refine zb hN Z (qe Z (zb hN Z (qd Z (qe Z (qe Z (yc (ι:=Int×(List zq)) (fun i=>[(0,.row 0 i.2.length),(1,.dat (vint n2)),(2,.dat (vfn fv2 us2)),(6,.dat (vint 20)),(7,.dat (vint i.1))]) (fun i=>[(0,.rowA (A.vl 0) 109 5 (List.map yy i.2))]) (fun i=>y2q n2 p2 i.1 i.2=some r) (fun i=>Z) ?_ ?_))))))
 ·skip
  refine zu (kj (fun (s:Int×Int×(List zq))=>[(0,.row 0 s.2.2.length),(1,.dat (vint n2)),(2,.dat (vfn fv2 us2)),(6,.dat (vint 20)),(7,.dat (vint s.1)),(8,.dat (vint s.2.1))]) (fun (s:Int×Int×(List zq))=>[(0,.rowA (A.vl 0) 109 5 (List.map yy s.2.2))]) (0,20,data1) H ⟨Z,Z,Z,Z,Z,Z,U⟩ ⟨Z,U⟩ (fun _=>Z) ?_)
  rintro ⟨a3,b4,l5⟩ q6 H hq6
  replace H:y78 n2 p2 a3 b4 l5=some q6:=H
  unfold y78 at H
  refine zd (zb hN Z (qd Z (qd Z (za (vq Z Z) (zf _ Z (fun h7 => ?_) (fun h7 => ?_))))))
  ·refine tE h7 H fun H=>zl (zu (zb hN Z (za (zh (.row _ _) Z) (qd Z (qd Z (qd Z (bE H fun r8 h9 H=>gE H fun h10 H=>kq (rn [(0,0)]) [(0,_,_,some _)] [] (x7r l5 a3 b4 p2 fv2 us2 hp2 r8 h9) ⟨Z,U⟩ ⟨.inl (.inl Z),.inl (.inl Z),.inl (.inl Z),.inl (.inl Z),U⟩ ⟨⟨⟨Z,Z,Z⟩,by simp [Yb,h10]⟩,U⟩ Z ?_)))))))
   exact zb hN Z (qd Z (qe Z (zk hN Z (qd Z (qd Z (za (yl _ Z Z (.inl ⟨Z,Z⟩)) (qe Z ⟨_,yw H,⟨congrArg (Slot.row 0) ((h10).symm).symm,Z,Z,Z,Z,Z,U⟩,⟨Z,U⟩⟩)))))))
  ·refine fE h7 H fun H=>yp ?_
   replace H:=outl H hq6
   exact ⟨(a3,l5),H,⟨Z,Z,Z,Z,Z,U⟩,⟨Z,U⟩⟩
 ·rintro ⟨a11,data12⟩ H
  replace H:y2q n2 p2 a11 data12=some r:=H
  unfold y2q at H
  refine zb hN Z (za (zh (.row _ _) Z) (qd Z (qd Z (qd Z (bE H fun r13 h14 H=>gE H fun h15 H=>kq (rn [(0,0)]) [(0,_,_,some _)] [] (x7r data12 a11 n2 p2 fv2 us2 hp2 r13 h14) ⟨Z,U⟩ ⟨.inl (.inl Z),.inl (.inl Z),.inl (.inl Z),.inl (.inl Z),U⟩ ⟨⟨⟨Z,Z,Z⟩,by simp [Yb,h15]⟩,U⟩ Z ?_)))))
  refine zu (kj (fun (s:Int)=>[(0,.row 0 data12.length),(1,.dat (vint n2)),(2,.dat (vfn fv2 us2)),(6,.dat (vint s))]) (fun (s:Int)=>[(0,.rowA (A.vl 0) 109 5 (List.map yy r13))]) 20 H ⟨Z,Z,Z,Z,U⟩ ⟨Z,U⟩ (fun _=>Z) ?_)
  rintro blockSize16 q17 H hq17
  replace H:y77 n2 r13 blockSize16=some q17:=H
  unfold y77 at H
  refine zd (zb hN Z (qd Z (qd Z (za (zw Z Z) (zf _ Z (fun h18 => ?_) (fun h18 => ?_))))))
  ·refine tE h18 H fun H=>zl (zu (zb hN Z (qd Z (za (yl _ Z Z (.inr (.inr ⟨Z,Z⟩))) (qe Z (qe Z (yc (ι:=Int) (fun i=>[(0,.row 0 data12.length),(1,.dat (vint n2)),(2,.dat (vfn fv2 us2)),(6,.dat (vint blockSize16)),(7,.dat (vint i))]) (fun i=>[(0,.rowA (A.vl 0) 109 5 (List.map yy r13))]) (fun i=>y2p n2 blockSize16 i=some q17) (fun i=>Z) ?_ ?_)))))))
   ·skip
    refine zu (kj (fun (s:Int×Int)=>[(0,.row 0 data12.length),(1,.dat (vint n2)),(2,.dat (vfn fv2 us2)),(6,.dat (vint blockSize16)),(7,.dat (vint s.1)),(8,.dat (vint s.2))]) (fun (s:Int×Int)=>[(0,.rowA (A.vl 0) 109 5 (List.map yy r13))]) (0,wr (2 * blockSize16)) H ⟨Z,Z,Z,Z,Z,Z,U⟩ ⟨Z,U⟩ (fun _=>Z) ?_)
    rintro ⟨a19,b20⟩ q21 H hq21
    replace H:y76 n2 blockSize16 a19 b20=some q21:=H
    unfold y76 at H
    refine zd (zb hN Z (qd Z (qd Z (za (vq Z Z) (zf _ Z (fun h22 => ?_) (fun h22 => ?_))))))
    ·refine tE h22 H fun H=>?_
     cases H
    ·refine fE h22 H fun H=>yp ?_
     replace H:=outl H hq21
     exact ⟨a19,H,⟨Z,Z,Z,Z,Z,U⟩,⟨Z,U⟩⟩
   ·rintro a23 H
    replace H:y2p n2 blockSize16 a23=some q17:=H
    unfold y2p at H
    refine yc (ι:=Unit) (fun i=>[(0,.row 0 data12.length),(1,.dat (vint n2)),(2,.dat (vfn fv2 us2)),(6,.dat (vint blockSize16))]) (fun i=>[(0,.rowA (A.vl 0) 109 5 (List.map yy r13))]) (fun i=>y2o blockSize16=some q17) (fun i=>Z) ?_ ?_
    ·skip
     refine zb hN Z (qd Z (qd Z (za (yl _ Z Z (.inl ⟨Z,Z⟩)) (qe Z (zb hN Z (qd Z (qd Z (za (zw Z Z) (zf _ Z (fun h24 => ?_) (fun h24 => ?_))))))))))
     ·refine tE h24 H fun H=>?_
      cases H
     ·exact fE h24 H fun H=>zl ⟨(),H,⟨Z,Z,Z,Z,U⟩,⟨Z,U⟩⟩
    ·rintro ⟨⟩ H
     replace H:y2o blockSize16=some q17:=H
     unfold y2o at H
     exact zk hN Z (qd Z (za (yl _ Z Z (.inr (.inr ⟨Z,Z⟩))) (qe Z ⟨_,yw H,⟨Z,Z,Z,Z,U⟩,⟨Z,U⟩⟩)))
  ·refine fE h18 H fun H=>yp ?_
   replace H:=retl H hq17
   have eH:r13=r:=Option.some.inj H
   subst eH
   exact ⟨U,[],U,⟨Z,U⟩,Z,.inl ⟨[],U,Z⟩⟩
theorem w7k (x1:(List zq)) (p1:zq→zq→Option (Int)) (fv1:Nat) (us1:List V) (hp1:∀ a0 a1 r,p1 a0 a1=some r→Fn Tryz.prog fv1 ([vagg (yy a0),vagg (yy a1)]++us1) (zr [vint r])) (r:((List zq))) (H:z4j x1 p1=some r):FnG Tryz.prog 47 [.row 0 x1.length,.dat (vfn fv1 us1)] [(0,.rowA undef 109 5 (List.map yy x1))] (.dat (zr [])) [(0,.rowA undef 109 5 (List.map yy r))]:=by
 refine Zs (by kernel_rfl) Tryz.func47 Z Z Z Z fun X A hN => ?_
 unfold z4j at H
 refine zk hN Z (za (zh (.row _ _) Z) (za (zh (.row _ _) Z) (zm (x5f Ze Z Z) Z (qd Z (bE H fun r2 h3 H=>gE H fun h4 H=>kq (rn [(0,0)]) [(0,_,_,some _)] [] (w7i x1 (x1.length:Int) p1 fv1 us1 hp1 r2 h3) ⟨Z,U⟩ ⟨.inl (.inl Z),.inl (.inl Z),.inl (.inl Z),U⟩ ⟨⟨⟨Z,Z,Z⟩,by simp [Yb,h4]⟩,U⟩ Z ?_)))))
 have eH:r2=r:=Option.some.inj H
 subst eH
 exact ⟨U,[],U,⟨Z,U⟩,Z,.inl ⟨[],U,Z⟩⟩
theorem v0u (n1:Int) (r:(Int)) (H:z9c n1=some r):Fn Tryz.prog 104 [vint n1] (zr [vint r]):=by
 refine ⟨by kernel_rfl,zx (us:=[vint r]) Tryz.func104 Z Z Z Z fun X hN => ?_⟩
 unfold z9c at H
 refine zb hN Z (qe Z (zd (zu (zb hN Z (qd Z (za (zw Z Z) (qe Z (zf _ Z (fun h2 => ?_) (fun h2 => ?_)))))))))
 ·refine tE h2 H fun H=>zb hN Z (qe Z (zg ?_))
  cases H
  exact ⟨U,.inl Z,U⟩
 ·refine fE h2 H fun H=>zb hN Z (qd Z (za (qh Z Z) (qe Z (zf _ Z (fun h3 => ?_) (fun h3 => ?_)))))
  ·refine tE h3 H fun H=>zb hN Z (qe Z (zg ?_))
   cases H
   exact ⟨U,.inl Z,U⟩
  ·refine fE h3 H fun H=>zl (zb hN Z (qe Z (zg ?_)))
   cases H
   exact ⟨U,.inl Z,U⟩
theorem x8p (x1:Bs) (r:(Bool)) (H:z9p x1=some r):Fn Tryz.prog 223 [vstr x1] (zr [zi r]):=by
 refine ⟨by kernel_rfl,zx (us:=[zi r]) Tryz.func223 Z Z Z Z fun X hN => ?_⟩
 unfold z9p at H
 refine zb hN Z (qe Z (zb hN Z (qd Z (qd Z (za (js Z Z) (qe Z (zg ?_)))))))
 cases H
 exact ⟨U,.inl Z,U⟩
theorem v1h (x1:Bs) (y2:Bs) (r:(Int)) (H:z9r x1 y2=some r):Fn Tryz.prog 168 [vstr x1,vstr y2] (zr [vint r]):=by
 refine ⟨by kernel_rfl,zx (us:=[vint r]) Tryz.func168 Z Z Z Z fun X hN => ?_⟩
 unfold z9r at H
 refine zb hN Z (qe Z (zb hN Z (qd Z (bE H fun r3 h4 H=>za (zo (x8p x1 r3 h4) ⟨.inl Z,U⟩) (qe Z (zb hN Z (qd Z (bE H fun r5 h6 H=>za (zo (x8p y2 r5 h6) ⟨.inl Z,U⟩) (qe Z (zd (zb hN Z (qd Z (zf _ Z (fun h7 => ?_) (fun h7 => ?_))))))))))))))
 ·refine tE h7 H fun H=>zd (zb hN Z (qd Z (zf _ Z (fun h8 => ?_) (fun h8 => ?_))))
  ·refine tE h8 H fun H=>zb hN Z (qe Z (zg ?_))
   cases H
   exact ⟨U,.inl Z,U⟩
  ·refine fE h8 H fun H=>zl (zb hN Z (qe Z (zg ?_)))
   cases H
   exact ⟨U,.inl Z,U⟩
 ·refine fE h7 H fun H=>zl (zd (zb hN Z (qd Z (zf _ Z (fun h9 => ?_) (fun h9 => ?_)))))
  ·refine tE h9 H fun H=>zb hN Z (qe Z (zg ?_))
   cases H
   exact ⟨U,.inl Z,U⟩
  ·refine fE h9 H fun H=>zl (zd (zb hN Z (qd Z (qd Z (za (x5m Z Z) (zf _ Z (fun h10 => ?_) (fun h10 => ?_)))))))
   ·refine tE h10 H fun H=>zb hN Z (qe Z (zg ?_))
    cases H
    exact ⟨U,.inl Z,U⟩
   ·refine fE h10 H fun H=>zl (zd (zb hN Z (qd Z (qd Z (za (w3n Z Z) (zf _ Z (fun h11 => ?_) (fun h11 => ?_)))))))
    ·refine tE h11 H fun H=>zb hN Z (qe Z (zg ?_))
     cases H
     exact ⟨U,.inl Z,U⟩
    ·refine fE h11 H fun H=>zl (zb hN Z (qe Z (zg ?_)))
     cases H
     exact ⟨U,.inl Z,U⟩
theorem w9i (s1:(List Bs)) (s2:(List Bs)) (r:(Int)) (H:z4l s1 s2=some r):Fn Tryz.prog 105 [vlst (List.map zt s1),vlst (List.map zt s2)] (zr [vint r]):=by
 refine ⟨by kernel_rfl,zx (us:=[vint r]) Tryz.func105 Z Z Z Z fun X hN => ?_⟩
 unfold z4l at H
 refine zb hN Z (qe Z (zd (zb hN Z (qd Z (za (yk qr Z) (qd Z (zu (gE H fun h5 H=>qq (fun (k3:Nat) (s:Unit)=>[(0,.dat (vlst (List.map zt s1))),(1,.dat (vlst (List.map zt s2))),(9,.dat (vlst (List.map zt s1))),(10,.dat (vint (s1.length:Int))),(11,.dat (vint (k3:Int)))]) (fun (k3:Nat) (s:Unit)=>[]) () H ⟨Z,Z,Z,Z,Z,U⟩ U (fun _ _=>Z) ?_ ?_))))))))
 ·rintro ⟨⟩ H
  replace H:y2u s1 s2=some r:=H
  unfold y2u at H
  refine zb hN Z (za (zw Z Z) (zd (zf _ Z (fun h=>(lt_t h).elim) (fun h => ?_))))
  refine yp (zd (zb hN Z (qd Z (za (yk qr Z) (qd Z (za (yk qr Z) (za (zw Z Z) (zf _ Z (fun h7 => ?_) (fun h7 => ?_)))))))))
  ·refine tE h7 H fun H=>zb hN Z (qe Z (zg ?_))
   cases H
   exact ⟨U,.inl Z,U⟩
  ·refine fE h7 H fun H=>zl (zb hN Z (qe Z (zg ?_)))
   cases H
   exact ⟨U,.inl Z,U⟩
 ·rintro k3 x6 ⟨⟩ q4 h8 h9 H hq4
  replace H:y2t s2 k3 x6=some q4:=H
  unfold y2t at H
  refine zb hN Z (za (zw Z Z) (zd (zf _ Z (fun h => ?_) (fun h=>(lt_f h8 h).elim))))
  refine zl (zd (zu (zb hN Z (qd Z (za (qp wv (fun _=>Z) Z Z h9) (za (yr tyS9 Z (ym h9) Z) (qe Z (qe Z (zd (zb hN Z (qd Z (qd Z (za (yk qr Z) (za (vt Z Z) (zf _ Z (fun h10 => ?_) (fun h10 => ?_))))))))))))))))
  ·refine tE h10 H fun H=>zb hN Z (qe Z (zg ?_))
   replace H:=retl H hq4
   cases H
   exact ⟨U,.inl Z,U⟩
  ·refine fE h10 H fun H=>zl (zb hN Z (qd Z (qd Z (bE H fun x11 h12 H=>za (qp wv (fun _=>Z) Z Z h12) (za (yr tyS9 Z (ym h12) Z) (qe Z (zb hN Z (qd Z (qd Z (bE H fun r13 h14 H=>za (zo (v1h x6 x11 r13 h14) ⟨.inl Z,.inl Z,U⟩) (qe Z (zb hN Z (qd Z (za (qj Z Z) (zf _ Z (fun h15 => ?_) (fun h15 => ?_))))))))))))))))
   ·refine tE h15 H fun H=>zb hN Z (qd Z (qe Z (zg ?_)))
    replace H:=retl H hq4
    cases H
    exact ⟨U,.inl Z,U⟩
   ·exact fE h15 H fun H=>zl (zk hN Z (za (qi Z Z (by omega)) (qd Z ⟨_,yw H,⟨Z,Z,Z,Z,Z,U⟩,U⟩)))
theorem x03 (a1:zq) (b2:zq) (r:(Int)) (H:Yg a1 b2=some r):Fn Tryz.prog 48 [vagg (yy a1),vagg (yy b2)] (zr [vint r]):=by
 refine ⟨by kernel_rfl,zx (us:=[vint r]) Tryz.func48 Z Z Z Z fun X hN => ?_⟩
 unfold Yg at H
 refine zb hN Z (zj (qu 1 Z) Z (zj (qu 2 Z) Z (qe Z (zd (zb hN Z (za (zn kg Z) (zm (zp tyS3 Z Z) Z (za (zn kg Z) (zm (zp tyS3 Z Z) Z (za (qj Z Z) (zf _ Z (fun h3 => ?_) (fun h3 => ?_))))))))))))
 ·refine tE h3 H fun H=>zb hN Z (za (zn kg Z) (zm (zp tyS3 Z Z) Z (za (zn kg Z) (zm (zp tyS3 Z Z) Z (za (yl _ Z Z (.inr (.inl ⟨Z,Z⟩))) (bE H fun r4 h5 H=>za (zo (v0u (wr (a1.At - b2.At)) r4 h5) ⟨.inl Z,U⟩) (qe Z (zg ?_))))))))
  cases H
  exact ⟨U,.inl Z,U⟩
 ·refine fE h3 H fun H=>zl (zb hN Z (za (zn xp Z) (zm (zp tyS9 Z Z) Z (za (zn uo Z) (zm (zp tyS9 Z Z) Z (za (yg (u':=vlst (List.map zt [a1.App,a1.Product])) (qy [[_],[_]] vn ⟨Z,.inl ⟨_,Z,Z,Z⟩,Z,Z,.inl ⟨_,Z,Z,Z⟩,Z,U⟩ Z Z) Z) (za (zn xp Z) (zm (zp tyS9 Z Z) Z (za (zn uo Z) (zm (zp tyS9 Z Z) Z (za (yg (u':=vlst (List.map zt [b2.App,b2.Product])) (qy [[_],[_]] vn ⟨Z,.inl ⟨_,Z,Z,Z⟩,Z,Z,.inl ⟨_,Z,Z,Z⟩,Z,U⟩ Z Z) Z) (bE H fun r6 h7 H=>za (zo (w9i [a1.App,a1.Product] [b2.App,b2.Product] r6 h7) ⟨.inl Z,.inl Z,U⟩) (qe Z (zg ?_))))))))))))))
  cases H
  exact ⟨U,.inl Z,U⟩
theorem w7n (v1:(List zq)) (p1:zq→zq→Option (Bool)) (fv1:Nat) (us1:List V) (hp1:∀ a0 a1 r,p1 a0 a1=some r→Fn Tryz.prog fv1 ([vagg (yy a0),vagg (yy a1)]++us1) (zr [zi r])) (r:((List zq))) (H:y91 v1 p1=some r):FnG Tryz.prog 49 [.row 0 v1.length,.dat (vfn fv1 us1)] [(0,.row 109 5 (List.map yy v1))] (.row 900 r.length) [(900,.row 109 5 (List.map yy r))]:=by
 refine Zs (by kernel_rfl) Tryz.func49 Z Z Z Z fun X A hN => ?_
 unfold y91 at H
 refine zb hN Z (qe Z (zd (zb hN Z (za (zh (.row _ _) Z) (zm (Yy Ze Z Z) Z (za (zw Z Z) (zf _ Z (fun h2 => ?_) (fun h2 => ?_))))))))
 ·refine tE h2 H fun H=>zb hN Z (za (zh (.row _ _) Z) (za (wm (.row _ _) Z) (y01 4 0 900 Z Z (by rw [List.length_map]) Z ?_)))
  refine zg ?_
  cases H
  exact ⟨U,[(4,.row 900 _)],⟨Z,U⟩,⟨Z,U⟩,Z,.inr (.inl ⟨4,Z,Z⟩)⟩
 ·refine fE h2 H fun H=>zl (yc (ι:=Unit) (fun i=>[(0,.row 0 v1.length)]) (fun i=>[(0,.row 109 5 (List.map yy v1))]) (fun i=>y2w v1=some r) (fun i=>Z) ?_ ?_)
  ·skip
   refine zb hN Z (qe Z (zu (kj (fun (s:Int)=>[(0,.row 0 v1.length),(1,.dat (vfn fv1 us1)),(5,.dat (vint s))]) (fun (s:Int)=>[(0,.row 109 5 (List.map yy v1))]) 1 H ⟨Z,Z,Z,U⟩ ⟨Z,U⟩ (fun _=>Z) ?_)))
   rintro v3 q4 H hq4
   replace H:y8t v1 p1 v3=some q4:=H
   unfold y8t at H
   refine zd (zb hN Z (qd Z (za (zh (.row _ _) Z) (zm (Yy Ze Z Z) Z (za (zw Z Z) (zf _ Z (fun h5 => ?_) (fun h5 => ?_)))))))
   ·refine tE h5 H fun H=>zl (zd (zu (zd (wg mixed hN Z Z (qd Z (za (zh (.row _ _) Z) (qd Z (bE H fun x6 h7 H=>zm (Zy ju Z Z Z h7) Z (zm (z3d vx Z Z (qk h7).2 Z) Z (za (zh (.row _ _) Z) (qd Z (za (yl _ Z Z (.inr (.inl ⟨Z,Z⟩))) (bE H fun x8 h9 H=>zm (Zy ju Z Z Z h9) Z (zm (z3d vx Z Z (qk h9).2 Z) Z (bE H fun r10 h11 H=>za (kz (hp1 x6 x8 r10 h11) Z ⟨.inl Z,.inl Z,U⟩) ⟨Z,?_⟩)))))))))))))))
    refine zf _ Z (fun h12 => ?_) (fun h12 => ?_)
    ·refine tE h12 H fun H=>zb hN Z (za (zh (.row _ _) Z) (qd Z (gE H fun h13 H=>zm (y7w (C:=yy) ju Z Z Z h13) Z (za (wm (.rsub _ _ _ _) Z) (yc (ι:=Int×(List zq)) (fun i=>[(0,.row 0 i.2.length),(5,.dat (vint i.1))]) (fun i=>[(0,.row 109 5 (List.map yy i.2))]) (fun i=>y2v i.1 i.2=some q4) (fun i=>Z) ?_ ?_)))))
     ·skip
      refine zb hN Z (qe Z (zu (kj (fun (s:Int×Int×(List zq))=>[(0,.row 0 s.2.2.length),(1,.dat (vfn fv1 us1)),(5,.dat (vint s.1)),(6,.rsub 0 s.2.2.length 5 v3.toNat),(7,.dat (vint s.2.1))]) (fun (s:Int×Int×(List zq))=>[(0,.row 109 5 (List.map yy s.2.2))]) (v3,1,v1) H ⟨Z,Z,Z,Z,Z,U⟩ ⟨Z,U⟩ (fun _=>Z) ?_)))
      rintro ⟨v14,v15,l16⟩ q17 H hq17
      replace H:y8s p1 v3 v14 v15 l16=some q17:=H
      unfold y8s at H
      refine zd (zb hN Z (qd Z (za (zh (.rsub _ _ _ _) Z) (zm (w2y Ze Z Z) Z (za (zw Z Z) (zf _ Z (fun h18 => ?_) (fun h18 => ?_)))))))
      ·refine tE h18 H fun H=>zl (yc (ι:=Int×(List zq)) (fun i=>[(0,.row 0 i.2.length),(1,.dat (vfn fv1 us1)),(5,.dat (vint i.1)),(6,.rsub 0 i.2.length 5 v3.toNat),(7,.dat (vint v15))]) (fun i=>[(0,.row 109 5 (List.map yy i.2))]) (fun i=>z7l v15 i.1 i.2=some q17) (fun i=>Z) ?_ ?_)
       ·skip
        refine zu (zd (wg mixed hN Z Z (qd Z (za (zh (.rsub _ _ _ _) Z) (qd Z (bE H fun x19 h20 H=>zm (y7x ju Z Z Z h20) Z (zm (z3d vx Z Z (y5x (qk h20).2) Z) Z (za (zh (.rsub _ _ _ _) Z) (qd Z (za (yl _ Z Z (.inr (.inl ⟨Z,Z⟩))) (bE H fun x21 h22 H=>zm (y7x ju Z Z Z h22) Z (zm (z3d vx Z Z (y5x (qk h22).2) Z) Z (bE H fun r23 h24 H=>za (kz (hp1 x19 x21 r23 h24) Z ⟨.inl Z,.inl Z,U⟩) (za (yv Z) ⟨Z,?_⟩))))))))))))))
        refine zf _ Z (fun h25 => ?_) (fun h25 => ?_)
        ·exact tE h25 H fun H=>zb hN Z (za (zh (.row _ _) Z) (qd Z (za (zh (.rsub _ _ _ _) Z) (qd Z (zm (y7x ju Z Z Z h20) Z (zm (z3d vx Z Z (y5x (qk h20).2) Z) Z (bE H fun x26 h27 H=>zm (Zy ju Z Z Z h27) Z (zj (w2v (C:=yy) vx Z Z Z (x2s (qk h27).2) Z Z) Z (zk hN Z (qd Z (za (yl _ Z Z (.inl ⟨Z,Z⟩)) (qe Z ⟨(wr (v14+1),(l16.set v14.toNat x19)),H,⟨congrArg (Slot.row 0) (by simp),Z,Z,congrArg (fun n=>Slot.rsub 0 n 5 v3.toNat) (by simp),Z,U⟩,⟨Z,U⟩⟩))))))))))))
        ·exact fE h25 H fun H=>zl ⟨(v14,l16),H,⟨Z,Z,Z,Z,Z,U⟩,⟨Z,U⟩⟩
       ·rintro ⟨v28,v29⟩ H
        replace H:z7l v15 v28 v29=some q17:=H
        unfold z7l at H
        exact zk hN Z (qd Z (za (yl _ Z Z (.inl ⟨Z,Z⟩)) (qe Z ⟨_,yw H,⟨Z,Z,Z,Z,Z,U⟩,⟨Z,U⟩⟩)))
      ·refine fE h18 H fun H=>yp ?_
       replace H:=outl H hq17
       exact ⟨(v14,l16),H,⟨Z,Z,U⟩,⟨Z,U⟩⟩
     ·rintro ⟨v30,v31⟩ H
      replace H:y2v v30 v31=some q4:=H
      unfold y2v at H
      refine zb hN Z (za (zh (.row _ _) Z) (qd Z (gE H fun h32 H=>zm (y7w (C:=yy) ju Z Z Z h32) Z (zj (x5g (C:=yy) (zq.mk 0 [] [] 0 []) Ze z0k Z Z Z Z Z h32) Z (zb hN Z (za (zh (.row _ _) Z) (qd Z (gE H fun h33 H=>y8x (y7y (C:=yy) 1 ju Z (x96 (zq.mk 0 [] [] 0 []) h32) Z h33) Z Z (za (wm (.row _ _) Z) (y01 4 1 900 Z Z (by rw [List.length_map]; exact (y0u h33)) Z ?_))))))))))
      refine zg ?_
      replace H:=retl H hq4
      cases H
      exact ⟨U,[(4,.row 900 _)],⟨Z,U⟩,⟨Z,U⟩,Z,.inr (.inl ⟨4,Z,congrArg (Slot.row 900) (by first | exact y0u (by assumption) | (simp <;> omega))⟩)⟩
    ·exact fE h12 H fun H=>zl (zk hN Z (qd Z (za (yl _ Z Z (.inl ⟨Z,Z⟩)) (qe Z ⟨_,yw H,⟨Z,Z,Z,U⟩,⟨Z,U⟩⟩))))
   ·refine fE h5 H fun H=>yp ?_
    replace H:=outl H hq4
    exact ⟨(),H,⟨Z,U⟩,⟨Z,U⟩⟩
  ·rintro ⟨⟩ H
   replace H:y2w v1=some r:=H
   unfold y2w at H
   refine zb hN Z (za (zh (.row _ _) Z) (za (wm (.row _ _) Z) (y01 4 0 900 Z Z (by rw [List.length_map]) Z ?_)))
   refine zg ?_
   cases H
   exact ⟨U,[(4,.row 900 _)],⟨Z,U⟩,⟨Z,U⟩,Z,.inr (.inl ⟨4,Z,Z⟩)⟩
theorem v1d (a1:zq) (b2:zq) (r:(Bool)) (H:z9o a1 b2=some r):Fn Tryz.prog 50 [vagg (yy a1),vagg (yy b2)] (zr [zi r]):=by
 refine ⟨by kernel_rfl,zx (us:=[zi r]) Tryz.func50 Z Z Z Z fun X hN => ?_⟩
 unfold z9o at H
 refine zb hN Z (zj (qu 1 Z) Z (zj (qu 2 Z) Z (qe Z (zb hN Z (zm (qc vx Z Z Z) Z (zm (qc vx Z Z Z) Z (bE H fun r3 h4 H=>za (zo (x03 a1 b2 r3 h4) ⟨.inl Z,.inl Z,U⟩) (za (yn Z Z) (qe Z (zg ?_))))))))))
 cases H
 exact ⟨U,.inl Z,U⟩
theorem Yh (n1:Int) (low2:Int) (high3:Int) (r:(Bool)) (H:kr n1 low2 high3=some r):Fn Tryz.prog 56 [vint n1,vint low2,vint high3] (zr [zi r]):=by
 refine ⟨by kernel_rfl,zx (us:=[zi r]) Tryz.func56 Z Z Z Z fun X hN => ?_⟩
 unfold kr at H
 refine zb hN Z (qe Z (zb hN Z (qd Z (qd Z (za (vq Z Z) (qd Z (yz Z Z (fun hc=>zh (.dat _) Z) (yz Z Z (fun hc=>zh (.dat _) Z) (yz Z Z (fun hc=>vq (cnd (c:=(decide (low2≤n1))) hc) (cnd (c:=(decide (low2≤n1))) hc)) (za (wy Z (fun hb=>(cnd (c:=(decide (low2≤n1))) hb)) Z) (qe Z (zg ?_))))))))))))
 cases H
 exact ⟨U,.inl Z,U⟩
theorem y4t (l:Bs) (c r:Int) (H:z4i l c=some r):Fn Tryz.prog 193 [vstr l,vval (.int .u8 c)] (zr [vint r]):=by
 cases H
 refine y0r (by kernel_rfl) fun M w vs h => ?_
 have h1:=ug (us:=[.string ⟨l.toArray⟩,.int .u8 c]) h
 subst h1
 refine (Tryz.strings_IndexByte ⟨l.toArray⟩ c w).mono ?_
 rintro e w' ⟨rfl,rfl⟩
 exact ⟨_,Z,Z,Kp.refl _ _⟩
theorem x8l (s1:Bs) (some2:Bs) (r:(Bool)) (H:Ww s1 some2=some r):Fn Tryz.prog 164 [vstr s1,vstr some2] (zr [zi r]):=by
 refine ⟨by kernel_rfl,zx (us:=[zi r]) Tryz.func164 Z Z Z Z fun X hN => ?_⟩
 unfold Ww at H
 refine zb hN Z (qe Z (zd (zb hN Z (qd Z (za (wl tyU9 Z) (qd Z (zu (gE H fun h5 H=>qq (fun (k3:Nat) (s:Unit)=>[(0,.dat (vstr s1)),(1,.dat (vstr some2)),(7,.dat (vint (s1.length:Int))),(8,.dat (vint (k3:Int)))]) (fun (k3:Nat) (s:Unit)=>[]) () H ⟨Z,Z,Z,Z,U⟩ U (fun _ _=>Z) ?_ ?_))))))))
 ·rintro ⟨⟩ H
  replace H:x1h=some r:=H
  unfold x1h at H
  refine zb hN Z (za (zw Z Z) (zd (zf _ Z (fun h=>(lt_t h).elim) (fun h => ?_))))
  refine yp (zb hN Z (qe Z (zg ?_)))
  cases H
  exact ⟨U,.inl Z,U⟩
 ·rintro k3 x6 ⟨⟩ q4 h7 h8 H hq4
  replace H:y48 some2 k3 x6=some q4:=H
  unfold y48 at H
  refine zb hN Z (za (zw Z Z) (zd (zf _ Z (fun h => ?_) (fun h=>(lt_f h7 h).elim))))
  refine zl (zd (zu (zb hN Z (qd Z (qe Z (zb hN Z (qd Z (qd Z (qd Z (za (vh tyU9 Z Z h8) (bE H fun r9 h10 H=>za (zo (y4t some2 (x6.toNat:Int) r9 h10) ⟨.inl Z,.inl Z,U⟩) (za (zw Z Z) (zf _ Z (fun h11 => ?_) (fun h11 => ?_))))))))))))))
  ·refine tE h11 H fun H=>zb hN Z (qe Z (zg ?_))
   replace H:=retl H hq4
   cases H
   exact ⟨U,.inl Z,U⟩
  ·exact fE h11 H fun H=>zl (zk hN Z (za (qi Z Z (by omega)) (qd Z ⟨_,yw H,⟨Z,Z,Z,Z,U⟩,U⟩)))
theorem z95 (s1:Bs) (r:(Bool)) (H:Yf s1=some r):Fn Tryz.prog 98 [vstr s1] (zr [zi r]):=by
 refine ⟨by kernel_rfl,zx (us:=[zi r]) Tryz.func98 Z Z Z Z fun X hN => ?_⟩
 unfold Yf at H
 refine zb hN Z (qe Z (yc (ι:=Bool) (fun i=>[(2,.dat (zi i))]) (fun i=>[]) (fun i=>z2g i=some r) (fun i=>Z) ?_ ?_))
 ·skip
  refine zk hN Z (qd Z (za (wl tyU9 Z) (bE H fun r2 h3 H=>za (zo (Yh (s1.length:Int) 1 40 r2 h3) ⟨.inl Z,.inl Z,.inl Z,U⟩) (qd Z (yi (j:=3) Z Z (fun h4 => ?_) (fun h4 => ?_) Z)))))
  ·refine u1 h4 H fun h5 H=>ze Z Z h4 (zh (.dat _) Z) (bE H fun l6 h7 H=>ze Z Z h4 (kh tyU9 Z Z Z h7) (bE H fun r8 h9 H=>ze Z Z h4 (zo (x8l l6 [97,98,99,100,101,102,103,104,105,106,107,108,109,110,111,112,113,114,115,116,117,118,119,120,121,122] r8 h9) ⟨.inl Z,.inl Z,U⟩) (za (yb Z (bTT h5) Z) (qd Z (yi (j:=8) Z Z (fun h10 => ?_) (fun h10 => ?_) Z)))))
   ·exact u1 h10 H fun h11 H=>ze Z Z h10 (zh (.dat _) Z) (bE H fun r12 h13 H=>ze Z Z h10 (zo (x8l s1 [97,98,99,100,101,102,103,104,105,106,107,108,109,110,111,112,113,114,115,116,117,118,119,120,121,122,48,49,50,51,52,53,54,55,56,57,45,95] r12 h13) ⟨.inl Z,.inl Z,U⟩) (za (yb Z (bTT h11) Z) (qe Z ⟨r12,H,⟨Z,U⟩,U⟩)))
   ·exact u2 h10 H fun h14 H=>zc Z Z h10 (zc Z Z h10 (za (ya Z (bFF h14) Z) (qe Z ⟨false,H,⟨Z,U⟩,U⟩)))
  ·exact u2 h4 H fun h15 H=>zc Z Z h4 (zc Z Z h4 (zc Z Z h4 (za (ya Z (bFF h15) Z) (qd Z (zc Z Z Z (zc Z Z Z (za (ya Z Z Z) (qe Z ⟨false,H,⟨Z,U⟩,U⟩))))))))
 ·rintro v16 H
  replace H:z2g v16=some r:=H
  unfold z2g at H
  refine zg ?_
  cases H
  exact ⟨U,.inl Z,U⟩
theorem w9d (s1:(List yq)) (p1:yq→Option (Bool)) (fv1:Nat) (us1:List V) (hp1:∀ a0 r,p1 a0=some r→Fn Tryz.prog fv1 ([vagg (wb a0)]++us1) (zr [zi r])) (r:(Int)) (H:y32 s1 p1=some r):Fn Tryz.prog 111 [vlst (List.map wb s1),vfn fv1 us1] (zr [vint r]):=by
 refine ⟨by kernel_rfl,zx (us:=[vint r]) Tryz.func111 Z Z Z Z fun X hN => ?_⟩
 unfold y32 at H
 refine zb hN Z (qe Z (zd (zb hN Z (qd Z (za (yk Qs Z) (qd Z (zu (gE H fun h4 H=>qq (fun (k2:Nat) (s:Unit)=>[(0,.dat (vlst (List.map wb s1))),(1,.dat (vfn fv1 us1)),(7,.dat (vint (s1.length:Int))),(8,.dat (vint (k2:Int)))]) (fun (k2:Nat) (s:Unit)=>[]) () H ⟨Z,Z,Z,Z,U⟩ U (fun _ _=>Z) ?_ ?_))))))))
 ·rintro ⟨⟩ H
  replace H:y8k=some r:=H
  unfold y8k at H
  refine zb hN Z (za (zw Z Z) (zd (zf _ Z (fun h=>(lt_t h).elim) (fun h => ?_))))
  refine yp (zb hN Z (qe Z (zg ?_)))
  cases H
  exact ⟨U,.inl Z,U⟩
 ·rintro k2 x5 ⟨⟩ q3 h6 h7 H hq3
  replace H:y8j p1 k2 x5=some q3:=H
  unfold y8j at H
  refine zb hN Z (za (zw Z Z) (zd (zf _ Z (fun h => ?_) (fun h=>(lt_f h6 h).elim))))
  refine zl (zd (zu (zb hN Z (qd Z (qe Z (zb hN Z (qd Z (qd Z (qd Z (za (qp Qz (fun _=>Z) Z Z h7) (za (vg Zh Z (ym h7) Z) (bE H fun r8 h9 H=>za (kz (hp1 x5 r8 h9) Z ⟨.inl Z,U⟩) (zf _ Z (fun h10 => ?_) (fun h10 => ?_))))))))))))))
  ·refine tE h10 H fun H=>zb hN Z (qd Z (qe Z (zg ?_)))
   replace H:=retl H hq3
   cases H
   exact ⟨U,.inl Z,U⟩
  ·exact fE h10 H fun H=>zl (zk hN Z (za (qi Z Z (by omega)) (qd Z ⟨_,yw H,⟨Z,Z,Z,Z,U⟩,U⟩)))
theorem v01 (p1:yq) (c2:Bs) (r:(Bool)) (H:z4y p1 c2=some r):Fn Tryz.prog 112 [vagg (wb p1),wt [[vstr c2]] 0 0] (zr [zi r]):=by
 refine ⟨by kernel_rfl,zx (us:=[zi r]) Tryz.func112 Z Z Z Z fun X hN => ?_⟩
 unfold z4y at H
 refine zb hN Z (zj (qu 1 Z) Z (qe Z (zb hN Z (za (zn Zx Z) (zm (zp tyS9 Z Z) Z (za (yr tyS9 Z Z Z) (za (vz Z Z) (qe Z (zg ?_)))))))))
 cases H
 exact ⟨U,.inl Z,U⟩
theorem x8m (c1:yh) (key2:Bs) (r:(Int)) (H:z4z c1 key2=some r):Fn Tryz.prog 55 [vagg (jo c1),vstr key2] (zr [vint r]):=by
 refine ⟨by kernel_rfl,zx (us:=[vint r]) Tryz.func55 Z Z Z Z fun X hN => ?_⟩
 unfold z4z at H
 refine zb hN Z (zj (qu 1 Z) Z (zj (Wg 2 Z Z) Z (qe Z (zd (xk 2 [vstr key2] Z Z (zk hN Z (za (zn z0q Z) (zm (zp z0n Z Z) Z (za (Ya (us:=[_]) ⟨Z,U⟩) (bE H fun r3 h4 H=>za (zo (w9d c1.Products (fun (a0:yq)=>z4y a0 key2) 112 [wt [[vstr key2]] 0 0] (fun a0 r h=>v01 a0 key2 r h) r3 h4) ⟨.inl Z,.inl Z,U⟩) (qe Z (zg ?_))))))))))))
 cases H
 exact ⟨U,.inl Z,U⟩
end Go.Proofs.YtbndlmnjeofkdacGreatDoor
