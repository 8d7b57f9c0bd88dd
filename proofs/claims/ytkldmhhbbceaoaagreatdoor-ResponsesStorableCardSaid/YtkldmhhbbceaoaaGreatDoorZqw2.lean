/- Walks along the models. Printed by a program. -/
import Derived.Test.YtkldmhhbbceaoaaGreatDoorZqw1
namespace Go.Proofs.YtkldmhhbbceaoaaGreatDoor
open Go.RowKit
set_option linter.unusedVariables false
set_option maxRecDepth 100000
set_option maxHeartbeats 2000000
theorem x0a (s1:zh) (r:(yv×zh)) (H:z25 s1=some r):Imp Tryz.prog 33 25 (yl s1) [] (zu [vagg (jk r.1)]) (yl r.2):=by
 refine wl (us:=[vagg (jk r.1)]) (cs':=(yl r.2)) (by kernel_rfl) Tryz.func33 Z Z Z Z fun X bl hN => ?_
 unfold z25 at H
 refine zb hN Z (zj (wc 1 ui Z) Z (zb hN Z (za (zd (.ptr _ _) Z) (za (zw (u':=vlst (List.map yq [0,5,1000,60000])) (yk [[_],[_],[_],[_]] xn ⟨Z,.inl ⟨_,Z,Z,Z⟩,Z,Z,.inl ⟨_,Z,Z,Z⟩,Z,Z,.inl ⟨_,Z,Z,Z⟩,Z,Z,.inl ⟨_,Z,Z,Z⟩,Z,U⟩ Z Z) Z) (bE H fun r2 h3 H=>zj (zx (z03 s1 [0,5,1000,60000] r2 h3) Z ⟨.inl Z,U⟩ Z) Z (za (zd (.ptr _ _) Z) (za (zw (u':=vlst (List.map zo [[71,69,84],[71,69,84],[71,69,84],[72,69,65,68],[80,79,83,84],[103,101,116]])) (yk [[_],[_],[_],[_],[_],[_]] yn ⟨Z,.inl ⟨_,Z,Z,Z⟩,Z,Z,.inl ⟨_,Z,Z,Z⟩,Z,Z,.inl ⟨_,Z,Z,Z⟩,Z,Z,.inl ⟨_,Z,Z,Z⟩,Z,Z,.inl ⟨_,Z,Z,Z⟩,Z,Z,.inl ⟨_,Z,Z,Z⟩,Z,U⟩ Z Z) Z) (bE H fun r4 h5 H=>zj (zx (qn r2.2 ([[71,69,84],[71,69,84],[71,69,84],[72,69,65,68],[80,79,83,84],[103,101,116]]) r4 h5) Z ⟨.inl Z,U⟩ Z) Z (za (zd (.ptr _ _) Z) (bE H fun r6 h7 H=>zj (zx (x0b r4.2 r6 h7) Z U Z) Z (za (zd (.ptr _ _) Z) (za (zw (u':=vlst (List.map zo [[47],[47,97],[47,97],[47,97,47,98],[47,97,47,46,46,47,98],[47,37,52,49]])) (yk [[_],[_],[_],[_],[_],[_]] yn ⟨Z,.inl ⟨_,Z,Z,Z⟩,Z,Z,.inl ⟨_,Z,Z,Z⟩,Z,Z,.inl ⟨_,Z,Z,Z⟩,Z,Z,.inl ⟨_,Z,Z,Z⟩,Z,Z,.inl ⟨_,Z,Z,Z⟩,Z,Z,.inl ⟨_,Z,Z,Z⟩,Z,U⟩ Z Z) Z) (bE H fun r8 h9 H=>zj (zx (qn r6.2 ([[47],[47,97],[47,97],[47,97,47,98],[47,97,47,46,46,47,98],[47,37,52,49]]) r8 h9) Z ⟨.inl Z,U⟩ Z) Z (za (zd (.ptr _ _) Z) (za (zw (u':=vlst (List.map zo [[],[],[120,61,49],[98,61,50,38,97,61,49]])) (yk [[_],[_],[_],[_]] yn ⟨Z,.inl ⟨_,Z,Z,Z⟩,Z,Z,.inl ⟨_,Z,Z,Z⟩,Z,Z,.inl ⟨_,Z,Z,Z⟩,Z,Z,.inl ⟨_,Z,Z,Z⟩,Z,U⟩ Z Z) Z) (bE H fun r10 h11 H=>zj (zx (qn r8.2 ([[],[],[120,61,49],[98,61,50,38,97,61,49]]) r10 h11) Z ⟨.inl Z,U⟩ Z) Z (za (zd (.ptr _ _) Z) (za (zw (u':=vlst (List.map zo [[49,48,46,48,46,48,46,49],[49,48,46,48,46,48,46,49],[57,46,57,46,57,46,57],[]])) (yk [[_],[_],[_],[_]] yn ⟨Z,.inl ⟨_,Z,Z,Z⟩,Z,Z,.inl ⟨_,Z,Z,Z⟩,Z,Z,.inl ⟨_,Z,Z,Z⟩,Z,Z,.inl ⟨_,Z,Z,Z⟩,Z,U⟩ Z Z) Z) ?_))))))))))))))))))
 refine bE H fun r12 h13 H=>zj (zx (qn r10.2 ([[49,48,46,48,46,48,46,49],[49,48,46,48,46,48,46,49],[57,46,57,46,57,46,57],[]]) r12 h13) Z ⟨.inl Z,U⟩ Z) Z (za (zd (.ptr _ _) Z) (bE H fun r14 h15 H=>zj (zx (y3k r12.2 4 r14 h15) Z ⟨.inl Z,U⟩ Z) Z (za (zw (u':=vagg (jk (yv.mk r2.1 r4.1 r6.1 r8.1 r10.1 r12.1 r14.1 []))) (wz [(0,[vint r2.1]),(1,[vstr r4.1]),(2,[vstr r6.1]),(3,[vstr r8.1]),(4,[vstr r10.1]),(5,[vstr r12.1]),(6,[vlst (List.map yg r14.1)])] ui y0u Z ⟨Z,.inl ⟨_,Z,Z,Z⟩,Z,Z,.inl ⟨_,Z,Z,Z⟩,Z,Z,.inl ⟨_,Z,Z,Z⟩,Z,Z,.inl ⟨_,Z,Z,Z⟩,Z,Z,.inl ⟨_,Z,Z,Z⟩,Z,Z,.inl ⟨_,Z,Z,Z⟩,Z,Z,.inl ⟨_,Z,Z,Z⟩,Z,U⟩) Z) (zj (wc 2 ui Z) Z (zj (qq vg Z Z Z Z) Z (yd (ι:=(List Int)×Int×Bs) (fun i=>[(2,.ptr 1 0),(3,.ptr 2 0)]) (fun i=>[(0,.box (some bl) 25 [.dat (vlst (List.map yq i.1)),.dat (vint i.2.1)]),(1,.box none 28 [.dat (vint 0),.dat (vstr []),.dat (vstr []),.dat (vstr []),.dat (vstr []),.dat (vstr []),.dat (vnil),.dat (vstr [])]),(2,.box none 28 [.dat (vint r2.1),.dat (vstr r4.1),.dat (vstr r6.1),.dat (vstr r8.1),.dat (vstr r10.1),.dat (vstr r12.1),.dat (vlst (List.map yg r14.1)),.dat (vstr i.2.2)])]) (fun i=>z1n r2 r4 r6 r8 r10 r12 r14 i.1 i.2.1 i.2.2=some r) (fun i=>Z) ?_ ?_))))))
 ·skip
  refine zb hN Z (za (zd (.ptr _ _) Z) (bE H fun r16 h17 H=>zj (zx (wj r14.2 4 r16 h17) Z ⟨.inl Z,U⟩ Z) Z (zg _ Z (fun h18 => ?_) (fun h18 => ?_))))
  ·exact tE h18 H fun H=>zp hN Z (za (zd (.ptr _ _) Z) (bE H fun r19 h20 H=>za (zl (Zc [97,98] 40 r19 h20) ⟨.inl Z,.inl Z,U⟩) (za (zw (u':=vlst (List.map zo [[104,101,108,108,111],[120],r19])) (yk [[_],[_],[_]] yn ⟨Z,.inl ⟨_,Z,Z,Z⟩,Z,Z,.inl ⟨_,Z,Z,Z⟩,Z,Z,.inl ⟨_,Z,Z,Z⟩,Z,U⟩ Z Z) Z) (bE H fun r21 h22 H=>zj (zx (qn r16.2 ([[104,101,108,108,111],[120],r19]) r21 h22) Z ⟨.inl Z,U⟩ Z) Z (za (zz z4x Z) (zj (vr tyS9 Z Z Z Z) Z ⟨(r21.2.L,r21.2.at_,r21.1),H,⟨Z,Z,U⟩,⟨Z,Z,Z,U⟩⟩))))))
  ·exact fE h18 H fun H=>zn ⟨(r16.2.L,r16.2.at_,[]),H,⟨Z,Z,U⟩,⟨Z,Z,Z,U⟩⟩
 ·rintro ⟨c23,c24,c25⟩ H
  replace H:z1n r2 r4 r6 r8 r10 r12 r14 c23 c24 c25=some r:=H
  unfold z1n at H
  refine zb hN Z (zt (qi vg Z Z Z) Z (zj (qq vg Z Z Z Z) Z (zk ?_)))
  cases H
  exact ⟨U,⟨.inl ⟨_,_,_,jk (yv.mk r2.1 r4.1 r6.1 r8.1 r10.1 r12.1 r14.1 c25),Z,Z,Z,Z,vg⟩,U⟩,Z⟩
theorem y3j (s1:zh) (r:(Bs×zh)) (H:z0s s1=some r):Imp Tryz.prog 34 25 (yl s1) [] (zu [vstr r.1]) (yl r.2):=by
 refine wl (us:=[vstr r.1]) (cs':=(yl r.2)) (by kernel_rfl) Tryz.func34 Z Z Z Z fun X bl hN => ?_
 unfold z0s at H
 refine zb hN Z (qe Z (zb hN Z (za (zd (.ptr _ _) Z) (bE H fun r2 h3 H=>za (zl (Zc [110] 101 r2 h3) ⟨.inl Z,.inl Z,U⟩) (za (zw (u':=vlst (List.map zo [[97,99,99,101,112,116],[88,45,79,110,101],[120,45,111,110,101],[118,105,97],[97],[65],[116,101],[99,111,110,110,101,99,116,105,111,110],[],[97,32,98],[97,58],[127],r2])) (yk [[_],[_],[_],[_],[_],[_],[_],[_],[_],[_],[_],[_],[_]] yn ⟨Z,.inl ⟨_,Z,Z,Z⟩,Z,Z,.inl ⟨_,Z,Z,Z⟩,Z,Z,.inl ⟨_,Z,Z,Z⟩,Z,Z,.inl ⟨_,Z,Z,Z⟩,Z,Z,.inl ⟨_,Z,Z,Z⟩,Z,Z,.inl ⟨_,Z,Z,Z⟩,Z,Z,.inl ⟨_,Z,Z,Z⟩,Z,Z,.inl ⟨_,Z,Z,Z⟩,Z,Z,.inl ⟨_,Z,Z,Z⟩,Z,Z,.inl ⟨_,Z,Z,Z⟩,Z,Z,.inl ⟨_,Z,Z,Z⟩,Z,Z,.inl ⟨_,Z,Z,Z⟩,Z,Z,.inl ⟨_,Z,Z,Z⟩,Z,U⟩ Z Z) Z) (bE H fun r4 h5 H=>zj (zx (qn s1 ([[97,99,99,101,112,116],[88,45,79,110,101],[120,45,111,110,101],[118,105,97],[97],[65],[116,101],[99,111,110,110,101,99,116,105,111,110],[],[97,32,98],[97,58],[127],r2]) r4 h5) Z ⟨.inl Z,U⟩ Z) Z (qe Z (zk ?_))))))))
 cases H
 exact ⟨U,⟨.inl Z,U⟩,Z⟩
theorem x0e (s1:zh) (r:(Bs×zh)) (H:z29 s1=some r):Imp Tryz.prog 35 25 (yl s1) [] (zu [vstr r.1]) (yl r.2):=by
 refine wl (us:=[vstr r.1]) (cs':=(yl r.2)) (by kernel_rfl) Tryz.func35 Z Z Z Z fun X bl hN => ?_
 unfold z29 at H
 refine zb hN Z (qe Z (zb hN Z (za (zd (.ptr _ _) Z) (bE H fun r2 h3 H=>za (zl (Zc [97] 64 r2 h3) ⟨.inl Z,.inl Z,U⟩) (za (zw (u':=vlst (List.map zo [[97,46,98],[97,46,98],[65,46,66],[115,104,111,112,46,101,120,97,109,112,108,101],[97,46,98,58,56,48],[97,46,98,58,52,52,51],[97,46,98,58,56,48,56,48],[120,45,49,46,121],[49,46,50,46,51,46,52],[],[97,46,46,98],[45,97,46,98],[97,46,98,58,48],[97,46,98,58,48,56],[97,46,98,58,54,53,53,51,54],[97,95,98],[97,46,98,58],[97,32,98],r2])) (yk [[_],[_],[_],[_],[_],[_],[_],[_],[_],[_],[_],[_],[_],[_],[_],[_],[_],[_],[_]] yn ⟨Z,.inl ⟨_,Z,Z,Z⟩,Z,Z,.inl ⟨_,Z,Z,Z⟩,Z,Z,.inl ⟨_,Z,Z,Z⟩,Z,Z,.inl ⟨_,Z,Z,Z⟩,Z,Z,.inl ⟨_,Z,Z,Z⟩,Z,Z,.inl ⟨_,Z,Z,Z⟩,Z,Z,.inl ⟨_,Z,Z,Z⟩,Z,Z,.inl ⟨_,Z,Z,Z⟩,Z,Z,.inl ⟨_,Z,Z,Z⟩,Z,Z,.inl ⟨_,Z,Z,Z⟩,Z,Z,.inl ⟨_,Z,Z,Z⟩,Z,Z,.inl ⟨_,Z,Z,Z⟩,Z,Z,.inl ⟨_,Z,Z,Z⟩,Z,Z,.inl ⟨_,Z,Z,Z⟩,Z,Z,.inl ⟨_,Z,Z,Z⟩,Z,Z,.inl ⟨_,Z,Z,Z⟩,Z,Z,.inl ⟨_,Z,Z,Z⟩,Z,Z,.inl ⟨_,Z,Z,Z⟩,Z,Z,.inl ⟨_,Z,Z,Z⟩,Z,U⟩ Z Z) Z) (bE H fun r4 h5 H=>zj (zx (qn s1 ([[97,46,98],[97,46,98],[65,46,66],[115,104,111,112,46,101,120,97,109,112,108,101],[97,46,98,58,56,48],[97,46,98,58,52,52,51],[97,46,98,58,56,48,56,48],[120,45,49,46,121],[49,46,50,46,51,46,52],[],[97,46,46,98],[45,97,46,98],[97,46,98,58,48],[97,46,98,58,48,56],[97,46,98,58,54,53,53,51,54],[97,95,98],[97,46,98,58],[97,32,98],r2]) r4 h5) Z ⟨.inl Z,U⟩ Z) Z (qe Z (zk ?_))))))))
 cases H
 exact ⟨U,⟨.inl Z,U⟩,Z⟩
theorem y3o (s1:zh) (r:(Bs×zh)) (H:z0w s1=some r):Imp Tryz.prog 36 25 (yl s1) [] (zu [vstr r.1]) (yl r.2):=by
 refine wl (us:=[vstr r.1]) (cs':=(yl r.2)) (by kernel_rfl) Tryz.func36 Z Z Z Z fun X bl hN => ?_
 unfold z0w at H
 refine zb hN Z (qe Z (zb hN Z (za (zd (.ptr _ _) Z) (bE H fun r2 h3 H=>za (zl (Zc [118] 2001 r2 h3) ⟨.inl Z,.inl Z,U⟩) (za (zw (u':=vlst (List.map zo [[49],[120],[97,44,32,98],[],[116,101,120,116,47,104,116,109,108],[99,108,111,115,101],[120,45,111,110,101],[103,119,44,32,98],[49,46,50,46,51,46,52,44,32,53,46,54,46,55,46,56],[32,120],[120,32],[97,9,98],[128],r2])) (yk [[_],[_],[_],[_],[_],[_],[_],[_],[_],[_],[_],[_],[_],[_]] yn ⟨Z,.inl ⟨_,Z,Z,Z⟩,Z,Z,.inl ⟨_,Z,Z,Z⟩,Z,Z,.inl ⟨_,Z,Z,Z⟩,Z,Z,.inl ⟨_,Z,Z,Z⟩,Z,Z,.inl ⟨_,Z,Z,Z⟩,Z,Z,.inl ⟨_,Z,Z,Z⟩,Z,Z,.inl ⟨_,Z,Z,Z⟩,Z,Z,.inl ⟨_,Z,Z,Z⟩,Z,Z,.inl ⟨_,Z,Z,Z⟩,Z,Z,.inl ⟨_,Z,Z,Z⟩,Z,Z,.inl ⟨_,Z,Z,Z⟩,Z,Z,.inl ⟨_,Z,Z,Z⟩,Z,Z,.inl ⟨_,Z,Z,Z⟩,Z,Z,.inl ⟨_,Z,Z,Z⟩,Z,U⟩ Z Z) Z) (bE H fun r4 h5 H=>zj (zx (qn s1 ([[49],[120],[97,44,32,98],[],[116,101,120,116,47,104,116,109,108],[99,108,111,115,101],[120,45,111,110,101],[103,119,44,32,98],[49,46,50,46,51,46,52,44,32,53,46,54,46,55,46,56],[32,120],[120,32],[97,9,98],[128],r2]) r4 h5) Z ⟨.inl Z,U⟩ Z) Z (qe Z (zk ?_))))))))
 cases H
 exact ⟨U,⟨.inl Z,U⟩,Z⟩
theorem y8x (s1:zh) (most2:Int) (r:((List zm)×zh)) (H:xb s1 most2=some r):FnG Tryz.prog 76 [.ptr 0 0,.dat (vint most2)] [(0,.box (some 0) 25 (List.map .dat (yl s1)))] (.row 1 r.1.length) [(0,.box (some 0) 25 (List.map .dat (yl r.2))),(1,.row 53 2 (List.map yg r.1))]:=by
 refine z7f (by kernel_rfl) Tryz.func76 Z Z Z Z fun X A hN => ?_
 unfold xb at H
 refine zb hN Z (qe Z (zb hN Z (qe Z (zi (zb hN Z (za (zd (.ptr _ _) Z) (qd Z (bE H fun r3 h4 H=>zj (zx (Ym s1 0 most2 r3 h4) Z ⟨.inl Z,.inl Z,U⟩ Z) Z (qd Z (ye (km 5 1 53 2 Z Z Z (gE H fun h10 H=>z11 (fun (k8:Nat) (s:(List Int)×Int×(List zm))=>[(0,.ptr 0 0),(5,.row 1 s.2.2.length),(8,.dat (vint r3.1)),(9,.dat (vint (k8:Int)))]) (fun (k8:Nat) (s:(List Int)×Int×(List zm))=>[(0,.box (some (A.bl 0)) 25 [.dat (vlst (List.map yq s.1)),.dat (vint s.2.1)]),(1,.row 53 2 (List.map yg s.2.2))]) (r3.2.L,r3.2.at_,[]) H ⟨Z,Z,Z,Z,U⟩ ⟨Z,Z,U⟩ (fun _ _=>Z) ?_ ?_))))))))))))
 ·rintro ⟨c5,c6,l7⟩ H
  replace H:z1p c5 c6 l7=some r:=H
  unfold z1p at H
  refine zb hN Z (za (yb Z Z) (zi (zg _ Z (fun h=>(z81 h).elim) (fun h => ?_))))
  refine yx (zb hN Z (za (zd (.row _ _) Z) (za (qc (.row _ _) Z) (zk ?_))))
  cases H
  exact ⟨U,[(4,.row 1 _)],⟨Z,U⟩,⟨Z,Z,U⟩,Z,.inr (.inl ⟨4,Z,Z⟩)⟩
 ·rintro k8 ⟨c5,c6,l7⟩ q9 h11 H hq9
  replace H:z1o k8 c5 c6 l7=some q9:=H
  unfold z1o at H
  refine zb hN Z (za (yb Z Z) (zi (zg _ Z (fun h => ?_) (fun h=>(z82 h11 h).elim))))
  refine zn (zi (ye (zp hN Z (za (zd (.row _ _) Z) (za (zd (.ptr _ _) Z) (za (zw (u':=vlst (List.map zo [[97,99,99,101,112,116],[65,99,99,101,112,116],[120,45,111,110,101],[88,45,84,119,111],[99,111,111,107,105,101],[118,97,114,121],[99,111,110,110,101,99,116,105,111,110],[120,45,102,111,114,119,97,114,100,101,100,45,102,111,114],[118,105,97],[120,45,102,111,114,119,97,114,100,101,100,45,104,111,115,116],[116,101]])) (yk [[_],[_],[_],[_],[_],[_],[_],[_],[_],[_],[_]] yn ⟨Z,.inl ⟨_,Z,Z,Z⟩,Z,Z,.inl ⟨_,Z,Z,Z⟩,Z,Z,.inl ⟨_,Z,Z,Z⟩,Z,Z,.inl ⟨_,Z,Z,Z⟩,Z,Z,.inl ⟨_,Z,Z,Z⟩,Z,Z,.inl ⟨_,Z,Z,Z⟩,Z,Z,.inl ⟨_,Z,Z,Z⟩,Z,Z,.inl ⟨_,Z,Z,Z⟩,Z,Z,.inl ⟨_,Z,Z,Z⟩,Z,Z,.inl ⟨_,Z,Z,Z⟩,Z,Z,.inl ⟨_,Z,Z,Z⟩,Z,U⟩ Z Z) Z) (bE H fun r12 h13 H=>zj (zx (qn (zh.mk c5 c6) ([[97,99,99,101,112,116],[65,99,99,101,112,116],[120,45,111,110,101],[88,45,84,119,111],[99,111,111,107,105,101],[118,97,114,121],[99,111,110,110,101,99,116,105,111,110],[120,45,102,111,114,119,97,114,100,101,100,45,102,111,114],[118,105,97],[120,45,102,111,114,119,97,114,100,101,100,45,104,111,115,116],[116,101]]) r12 h13) Z ⟨.inl Z,U⟩ Z) Z (za (zd (.ptr _ _) Z) (za (zw (u':=vlst (List.map zo [[49],[120],[97,44,32,98],[],[120,45,111,110,101,44,32,99,108,111,115,101],[103,119],[49,46,50,46,51,46,52],[53,46,54,46,55,46,56,44,32,57,46,57,46,57,46,57]])) (yk [[_],[_],[_],[_],[_],[_],[_],[_]] yn ⟨Z,.inl ⟨_,Z,Z,Z⟩,Z,Z,.inl ⟨_,Z,Z,Z⟩,Z,Z,.inl ⟨_,Z,Z,Z⟩,Z,Z,.inl ⟨_,Z,Z,Z⟩,Z,Z,.inl ⟨_,Z,Z,Z⟩,Z,Z,.inl ⟨_,Z,Z,Z⟩,Z,Z,.inl ⟨_,Z,Z,Z⟩,Z,Z,.inl ⟨_,Z,Z,Z⟩,Z,U⟩ Z Z) Z) (bE H fun r14 h15 H=>zj (zx (qn r12.2 ([[49],[120],[97,44,32,98],[],[120,45,111,110,101,44,32,99,108,111,115,101],[103,119],[49,46,50,46,51,46,52],[53,46,54,46,55,46,56,44,32,57,46,57,46,57,46,57]]) r14 h15) Z ⟨.inl Z,U⟩ Z) Z (za (zw (u':=vagg (yg (zm.mk r12.1 r14.1))) (wz [(0,[vstr r12.1]),(1,[vstr r14.1])] jm kv Z ⟨Z,.inl ⟨_,Z,Z,Z⟩,Z,Z,.inl ⟨_,Z,Z,Z⟩,Z,U⟩) Z) (za (zw (u':=vlst (List.map yg [(zm.mk r12.1 r14.1)])) (yk [_] vh ⟨Z,.inr Z,Z,U⟩ Z Z) Z) (gE H fun h16 H=>zj (vq vh (fun _=>Z) Z Z Z ⟨by simp,by first | (simp; done) | simpa using h16⟩ Z) Z ?_)))))))))))))
  exact za (qc (.row _ _) Z) (zp hN Z (za (qj Z Z (by omega)) (qd Z ⟨_,qa H,⟨Z,Z,Z,Z,U⟩,⟨Z,Z,U⟩⟩)))
theorem y3n (s1:zh) (most2:Int) (r:((List zm)×zh)) (H:z0v s1 most2=some r):Imp Tryz.prog 37 25 (yl s1) [vint most2] (zu [vlst (List.map yg r.1)]) (yl r.2):=by
 refine wl (us:=[vlst (List.map yg r.1)]) (cs':=(yl r.2)) (by kernel_rfl) Tryz.func37 Z Z Z Z fun X bl hN => ?_
 unfold z0v at H
 refine zb hN Z (qe Z (zb hN Z (za (zd (.ptr _ _) Z) (qd Z (bE H fun r3 h4 H=>uo (rn [(0,0),(1,1)]) [(0,_,_,some _)] [(1,_)] (y8x s1 most2 r3 h4) ⟨Z,Z,U⟩ ⟨.inl (.inl Z),.inl (.inl Z),U⟩ ⟨⟨⟨Z,Z⟩,U⟩,U⟩ Z (za (qc (.row _ _) Z) (yd (ι:=(List zm)×(List Int)×Int) (fun i=>[(0,.ptr 0 0),(5,.row 1 i.1.length)]) (fun i=>[(0,.box (some bl) 25 [.dat (vlst (List.map yq i.2.1)),.dat (vint i.2.2)]),(1,.row 53 2 (List.map yg i.1))]) (fun i=>Qd i.1 i.2.1 i.2.2=some r) (fun i=>Z) ?_ ?_)))))))
 ·skip
  refine zb hN Z (za (zd (.ptr _ _) Z) (bE H fun r5 h6 H=>zj (zx (wj r3.2 10 r5 h6) Z ⟨.inl Z,U⟩ Z) Z (zg _ Z (fun h7 => ?_) (fun h7 => ?_))))
  ·refine tE h7 H fun H=>zp hN Z (za (zd (.row _ _) Z) (za (zd (.ptr _ _) Z) (bE H fun r8 h9 H=>zj (zx (y3j r5.2 r8 h9) Z U Z) Z (za (zd (.ptr _ _) Z) (bE H fun r10 h11 H=>zj (zx (y3o r8.2 r10 h11) Z U Z) Z (za (zw (u':=vagg (yg (zm.mk r8.1 r10.1))) (wz [(0,[vstr r8.1]),(1,[vstr r10.1])] jm kv Z ⟨Z,.inl ⟨_,Z,Z,Z⟩,Z,Z,.inl ⟨_,Z,Z,Z⟩,Z,U⟩) Z) (za (zw (u':=vlst (List.map yg [(zm.mk r8.1 r10.1)])) (yk [_] vh ⟨Z,.inr Z,Z,U⟩ Z Z) Z) (gE H fun h12 H=>zj (vq vh (fun _=>Z) Z Z Z ⟨by simp,by first | (simp; done) | simpa using h12⟩ Z) Z ?_))))))))
   exact za (qc (.row _ _) Z) ⟨((r3.1++[(zm.mk r8.1 r10.1)]),r10.2.L,r10.2.at_),H,⟨Z,Z,U⟩,⟨Z,Z,U⟩⟩
  ·exact fE h7 H fun H=>zn ⟨(r3.1,r5.2.L,r5.2.at_),H,⟨Z,Z,U⟩,⟨Z,Z,U⟩⟩
 ·rintro ⟨out13,c14,c15⟩ H
  replace H:Qd out13 c14 c15=some r:=H
  unfold Qd at H
  refine yd (ι:=(List zm)×(List Int)×Int) (fun i=>[(5,.row 1 i.1.length)]) (fun i=>[(0,.box (some bl) 25 [.dat (vlst (List.map yq i.2.1)),.dat (vint i.2.2)]),(1,.row 53 2 (List.map yg i.1))]) (fun i=>Qc i.1 i.2.1 i.2.2=some r) (fun i=>Z) ?_ ?_
  ·skip
   refine zb hN Z (za (zd (.ptr _ _) Z) (bE H fun r16 h17 H=>zj (zx (wj (zh.mk c14 c15) 60 r16 h17) Z ⟨.inl Z,U⟩ Z) Z (zg _ Z (fun h18 => ?_) (fun h18 => ?_))))
   ·refine tE h18 H fun H=>zb hN Z (qd Z (ye (gE H fun h22 H=>z11 (fun (k20:Nat) (s:(List zm))=>[(5,.row 1 s.length),(21,.dat (vint (k20:Int)))]) (fun (k20:Nat) (s:(List zm))=>[(0,.box (some bl) 25 [.dat (vlst (List.map yq r16.2.L)),.dat (vint r16.2.at_)]),(1,.row 53 2 (List.map yg s))]) out13 H ⟨Z,Z,U⟩ ⟨Z,Z,U⟩ (fun _ _=>Z) ?_ ?_)))
    ·rintro l19 H
     replace H:z7d r16 l19=some r:=H
     unfold z7d at H
     refine zb hN Z (za (yb Z Z) (zi (zg _ Z (fun h=>(lt_t h).elim) (fun h => ?_))))
     exact yx ⟨(l19,r16.2.L,r16.2.at_),H,⟨Z,U⟩,⟨Z,Z,U⟩⟩
    ·rintro k20 l19 q21 h23 H hq21
     replace H:z7c k20 l19=some q21:=H
     unfold z7c at H
     refine zb hN Z (za (yb Z Z) (zi (zg _ Z (fun h => ?_) (fun h=>(lt_f h23 h).elim))))
     refine zn (zi (ye (zp hN Z (za (zd (.row _ _) Z) (za (zw (u':=vagg (yg (zm.mk [110] [118]))) (wz [(0,[vstr [110]]),(1,[vstr [118]])] jm kv Z ⟨Z,.inl ⟨_,Z,Z,Z⟩,Z,Z,.inl ⟨_,Z,Z,Z⟩,Z,U⟩) Z) (za (zw (u':=vlst (List.map yg [(zm.mk [110] [118])])) (yk [_] vh ⟨Z,.inr Z,Z,U⟩ Z Z) Z) (gE H fun h24 H=>zj (vq vh (fun _=>Z) Z Z Z ⟨by simp,by first | (simp; done) | simpa using h24⟩ Z) Z ?_)))))))
     exact za (qc (.row _ _) Z) (zp hN Z (za (qj Z Z (by omega)) (qd Z ⟨_,qa H,⟨Z,Z,U⟩,⟨Z,Z,U⟩⟩)))
   ·exact fE h18 H fun H=>zn ⟨(out13,r16.2.L,r16.2.at_),H,⟨Z,U⟩,⟨Z,Z,U⟩⟩
  ·rintro ⟨out25,c26,c27⟩ H
   replace H:Qc out25 c26 c27=some r:=H
   unfold Qc at H
   refine zb hN Z (za (zd (.row _ _) Z) (za (qc (.row _ _) Z) (zk ?_)))
   cases H
   exact ⟨U,⟨uk Z Z,U⟩,Z⟩
theorem x0d (s1:zh) (r:(yv×zh)) (H:z28 s1=some r):Imp Tryz.prog 7 25 (yl s1) [] (zu [vagg (jk r.1)]) (yl r.2):=by
 refine wl (us:=[vagg (jk r.1)]) (cs':=(yl r.2)) (by kernel_rfl) Tryz.func7 Z Z Z Z fun X bl hN => ?_
 unfold z28 at H
 refine zb hN Z (zj (wc 1 ui Z) Z (zb hN Z (za (zd (.ptr _ _) Z) (bE H fun r2 h3 H=>zj (zx (x0a s1 r2 h3) Z U Z) Z (zj (wc 2 ui Z) Z (zj (qq vg Z Z Z Z) Z (yd (ι:=(List Int)×Int×Int×Bs×Bs×Bs×Bs×Bs×(List zm)×Bs) (fun i=>[(2,.ptr 1 0),(3,.ptr 2 0)]) (fun i=>[(0,.box (some bl) 25 [.dat (vlst (List.map yq i.1)),.dat (vint i.2.1)]),(1,.box none 28 [.dat (vint 0),.dat (vstr []),.dat (vstr []),.dat (vstr []),.dat (vstr []),.dat (vstr []),.dat (vnil),.dat (vstr [])]),(2,.box none 28 [.dat (vint i.2.2.1),.dat (vstr i.2.2.2.1),.dat (vstr i.2.2.2.2.1),.dat (vstr i.2.2.2.2.2.1),.dat (vstr i.2.2.2.2.2.2.1),.dat (vstr i.2.2.2.2.2.2.2.1),.dat (vlst (List.map yg i.2.2.2.2.2.2.2.2.1)),.dat (vstr i.2.2.2.2.2.2.2.2.2)])]) (fun i=>jw i.1 i.2.1 i.2.2.1 i.2.2.2.1 i.2.2.2.2.1 i.2.2.2.2.2.1 i.2.2.2.2.2.2.1 i.2.2.2.2.2.2.2.1 i.2.2.2.2.2.2.2.2.1 i.2.2.2.2.2.2.2.2.2=some r) (fun i=>Z) ?_ ?_)))))))
 ·skip
  refine zb hN Z (za (zd (.ptr _ _) Z) (bE H fun r4 h5 H=>zj (zx (wj r2.2 6 r4 h5) Z ⟨.inl Z,U⟩ Z) Z (zg _ Z (fun h6 => ?_) (fun h6 => ?_))))
  ·refine tE h6 H fun H=>zb hN Z (za (zd (.ptr _ _) Z) (bE H fun r7 h8 H=>zj (zx (xg r4.2 8 r7 h8) Z ⟨.inl Z,U⟩ Z) Z (ye (zb hN Z (za (yo Z Z) (qe Z (zg _ Z (fun h9 => ?_) (fun h9 => ?_))))))))
   ·exact tE h9 H fun H=>zp hN Z (za (zd (.ptr _ _) Z) (bE H fun r10 h11 H=>zj (zx (z9c r7.2 0 1000 r10 h11) Z ⟨.inl Z,.inl Z,U⟩ Z) Z (za (zz z7x Z) (zj (vr tyS3 Z Z Z Z) Z ⟨(r10.2.L,r10.2.at_,r10.1,r2.1.Method,r2.1.Host,r2.1.Path,r2.1.Query,r2.1.From,r2.1.Headers,r2.1.Body),H,⟨Z,Z,U⟩,⟨Z,Z,Z,U⟩⟩))))
   ·refine fE h9 H fun H=>zb hN Z (za (yo Z Z) (qe Z (zg _ Z (fun h12 => ?_) (fun h12 => ?_))))
    ·exact tE h12 H fun H=>zp hN Z (za (zd (.ptr _ _) Z) (bE H fun r13 h14 H=>zj (zx (y3j r7.2 r13 h14) Z U Z) Z (za (zz Wj Z) (zj (vr tyS9 Z Z Z Z) Z ⟨(r13.2.L,r13.2.at_,r2.1.At,r13.1,r2.1.Host,r2.1.Path,r2.1.Query,r2.1.From,r2.1.Headers,r2.1.Body),H,⟨Z,Z,U⟩,⟨Z,Z,Z,U⟩⟩))))
    ·refine fE h12 H fun H=>zb hN Z (za (yo Z Z) (qe Z (zg _ Z (fun h15 => ?_) (fun h15 => ?_))))
     ·exact tE h15 H fun H=>zp hN Z (za (zd (.ptr _ _) Z) (bE H fun r16 h17 H=>zj (zx (x0e r7.2 r16 h17) Z U Z) Z (za (zz z7w Z) (zj (vr tyS9 Z Z Z Z) Z ⟨(r16.2.L,r16.2.at_,r2.1.At,r2.1.Method,r16.1,r2.1.Path,r2.1.Query,r2.1.From,r2.1.Headers,r2.1.Body),H,⟨Z,Z,U⟩,⟨Z,Z,Z,U⟩⟩))))
     ·refine fE h15 H fun H=>zb hN Z (za (yo Z Z) (qe Z (zg _ Z (fun h18 => ?_) (fun h18 => ?_))))
      ·exact tE h18 H fun H=>zp hN Z (za (zd (.ptr _ _) Z) (bE H fun r19 h20 H=>zj (zx (y3m r7.2 r19 h20) Z U Z) Z (za (zz z4z Z) (zj (vr tyS9 Z Z Z Z) Z ⟨(r19.2.L,r19.2.at_,r2.1.At,r2.1.Method,r2.1.Host,r19.1,r2.1.Query,r2.1.From,r2.1.Headers,r2.1.Body),H,⟨Z,Z,U⟩,⟨Z,Z,Z,U⟩⟩))))
      ·refine fE h18 H fun H=>zb hN Z (za (yo Z Z) (qe Z (zg _ Z (fun h21 => ?_) (fun h21 => ?_))))
       ·exact tE h21 H fun H=>zp hN Z (za (zd (.ptr _ _) Z) (bE H fun r22 h23 H=>zj (zx (y3l r7.2 r22 h23) Z U Z) Z (za (zz z4y Z) (zj (vr tyS9 Z Z Z Z) Z ⟨(r22.2.L,r22.2.at_,r2.1.At,r2.1.Method,r2.1.Host,r2.1.Path,r22.1,r2.1.From,r2.1.Headers,r2.1.Body),H,⟨Z,Z,U⟩,⟨Z,Z,Z,U⟩⟩))))
       ·refine fE h21 H fun H=>zb hN Z (za (yo Z Z) (qe Z (zg _ Z (fun h24 => ?_) (fun h24 => ?_))))
        ·exact tE h24 H fun H=>zp hN Z (za (zd (.ptr _ _) Z) (bE H fun r25 h26 H=>zj (zx (y3o r7.2 r25 h26) Z U Z) Z (za (zz z7v Z) (zj (vr tyS9 Z Z Z Z) Z ⟨(r25.2.L,r25.2.at_,r2.1.At,r2.1.Method,r2.1.Host,r2.1.Path,r2.1.Query,r25.1,r2.1.Headers,r2.1.Body),H,⟨Z,Z,U⟩,⟨Z,Z,Z,U⟩⟩))))
        ·refine fE h24 H fun H=>zb hN Z (za (yo Z Z) (qe Z (zg _ Z (fun h27 => ?_) (fun h27 => ?_))))
         ·exact tE h27 H fun H=>zp hN Z (za (zd (.ptr _ _) Z) (bE H fun r28 h29 H=>zj (zx (y3n r7.2 4 r28 h29) Z ⟨.inl Z,U⟩ Z) Z (za (zz jc Z) (zj (vr qv Z Z Z Z) Z ⟨(r28.2.L,r28.2.at_,r2.1.At,r2.1.Method,r2.1.Host,r2.1.Path,r2.1.Query,r2.1.From,r28.1,r2.1.Body),H,⟨Z,Z,U⟩,⟨Z,Z,Z,U⟩⟩))))
         ·exact fE h27 H fun H=>zp hN Z (za (zd (.ptr _ _) Z) (za (zw (u':=vlst (List.map yq [20000,20001])) (yk [[_],[_]] xn ⟨Z,.inl ⟨_,Z,Z,Z⟩,Z,Z,.inl ⟨_,Z,Z,Z⟩,Z,U⟩ Z Z) Z) (bE H fun r30 h31 H=>zj (zx (z03 r7.2 [20000,20001] r30 h31) Z ⟨.inl Z,U⟩ Z) Z (bE H fun r32 h33 H=>za (zl (Zc [98] r30.1 r32 h33) ⟨.inl Z,.inl Z,U⟩) (za (zz z4x Z) (zj (vr tyS9 Z Z Z Z) Z ⟨(r30.2.L,r30.2.at_,r2.1.At,r2.1.Method,r2.1.Host,r2.1.Path,r2.1.Query,r2.1.From,r2.1.Headers,r32),H,⟨Z,Z,U⟩,⟨Z,Z,Z,U⟩⟩))))))
  ·exact fE h6 H fun H=>zn ⟨(r4.2.L,r4.2.at_,r2.1.At,r2.1.Method,r2.1.Host,r2.1.Path,r2.1.Query,r2.1.From,r2.1.Headers,r2.1.Body),H,⟨Z,Z,U⟩,⟨Z,Z,Z,U⟩⟩
 ·rintro ⟨c34,c35,c36,c37,c38,c39,c40,c41,c42,c43⟩ H
  replace H:jw c34 c35 c36 c37 c38 c39 c40 c41 c42 c43=some r:=H
  unfold jw at H
  refine zb hN Z (zt (qi vg Z Z Z) Z (zj (qq vg Z Z Z Z) Z (zk ?_)))
  cases H
  exact ⟨U,⟨.inl ⟨_,_,_,jk (yv.mk c36 c37 c38 c39 c40 c41 c42 c43),Z,Z,Z,Z,vg⟩,U⟩,Z⟩
theorem y99 (s1:zh) (r:(ya×zh)) (H:z24 s1=some r):Imp Tryz.prog 38 25 (yl s1) [] (zu [vagg (wt r.1)]) (yl r.2):=by
 refine wl (us:=[vagg (wt r.1)]) (cs':=(yl r.2)) (by kernel_rfl) Tryz.func38 Z Z Z Z fun X bl hN => ?_
 unfold z24 at H
 refine zb hN Z (zj (wc 1 uh Z) Z (zb hN Z (za (zd (.ptr _ _) Z) (za (zw (u':=vlst (List.map yq [200,200,200,204,304,404,500,503])) (yk [[_],[_],[_],[_],[_],[_],[_],[_]] xn ⟨Z,.inl ⟨_,Z,Z,Z⟩,Z,Z,.inl ⟨_,Z,Z,Z⟩,Z,Z,.inl ⟨_,Z,Z,Z⟩,Z,Z,.inl ⟨_,Z,Z,Z⟩,Z,Z,.inl ⟨_,Z,Z,Z⟩,Z,Z,.inl ⟨_,Z,Z,Z⟩,Z,Z,.inl ⟨_,Z,Z,Z⟩,Z,Z,.inl ⟨_,Z,Z,Z⟩,Z,U⟩ Z Z) Z) (bE H fun r2 h3 H=>zj (zx (z03 s1 [200,200,200,204,304,404,500,503] r2 h3) Z ⟨.inl Z,U⟩ Z) Z (za (zd (.ptr _ _) Z) (bE H fun r4 h5 H=>zj (zx (y3k r2.2 3 r4 h5) Z ⟨.inl Z,U⟩ Z) Z (za (zd (.ptr _ _) Z) (za (zw (u':=vlst (List.map zo [[],[104,101,108,108,111],[120]])) (yk [[_],[_],[_]] yn ⟨Z,.inl ⟨_,Z,Z,Z⟩,Z,Z,.inl ⟨_,Z,Z,Z⟩,Z,Z,.inl ⟨_,Z,Z,Z⟩,Z,U⟩ Z Z) Z) (bE H fun r6 h7 H=>zj (zx (qn r4.2 ([[],[104,101,108,108,111],[120]]) r6 h7) Z ⟨.inl Z,U⟩ Z) Z (za (zw (u':=vagg (wt (ya.mk r2.1 r4.1 r6.1))) (wz [(0,[vint r2.1]),(1,[vlst (List.map yg r4.1)]),(2,[vstr r6.1])] uh z7t Z ⟨Z,.inl ⟨_,Z,Z,Z⟩,Z,Z,.inl ⟨_,Z,Z,Z⟩,Z,Z,.inl ⟨_,Z,Z,Z⟩,Z,U⟩) Z) (zj (qq qp Z Z Z Z) Z (zk ?_)))))))))))))
 cases H
 exact ⟨U,⟨.inl ⟨_,_,_,wt (ya.mk r2.1 r4.1 r6.1),Z,Z,Z,Z,qp⟩,U⟩,Z⟩
theorem x0c (s1:zh) (r:(ya×zh)) (H:z27 s1=some r):Imp Tryz.prog 8 25 (yl s1) [] (zu [vagg (wt r.1)]) (yl r.2):=by
 refine wl (us:=[vagg (wt r.1)]) (cs':=(yl r.2)) (by kernel_rfl) Tryz.func8 Z Z Z Z fun X bl hN => ?_
 unfold z27 at H
 refine zb hN Z (zj (wc 1 uh Z) Z (zb hN Z (za (zd (.ptr _ _) Z) (bE H fun r2 h3 H=>zj (zx (y99 s1 r2 h3) Z U Z) Z (zj (wc 2 uh Z) Z (zj (qq qp Z Z Z Z) Z (yd (ι:=(List Int)×Int×Int×(List zm)×Bs) (fun i=>[(2,.ptr 1 0),(3,.ptr 2 0)]) (fun i=>[(0,.box (some bl) 25 [.dat (vlst (List.map yq i.1)),.dat (vint i.2.1)]),(1,.box none 31 [.dat (vint 0),.dat (vnil),.dat (vstr [])]),(2,.box none 31 [.dat (vint i.2.2.1),.dat (vlst (List.map yg i.2.2.2.1)),.dat (vstr i.2.2.2.2)])]) (fun i=>Zi i.1 i.2.1 i.2.2.1 i.2.2.2.1 i.2.2.2.2=some r) (fun i=>Z) ?_ ?_)))))))
 ·skip
  refine zb hN Z (za (zd (.ptr _ _) Z) (bE H fun r4 h5 H=>zj (zx (wj r2.2 8 r4 h5) Z ⟨.inl Z,U⟩ Z) Z (zg _ Z (fun h6 => ?_) (fun h6 => ?_))))
  ·refine tE h6 H fun H=>zb hN Z (za (zd (.ptr _ _) Z) (bE H fun r7 h8 H=>zj (zx (xg r4.2 3 r7 h8) Z ⟨.inl Z,U⟩ Z) Z (ye (zb hN Z (za (yo Z Z) (qe Z (zg _ Z (fun h9 => ?_) (fun h9 => ?_))))))))
   ·exact tE h9 H fun H=>zp hN Z (za (zd (.ptr _ _) Z) (bE H fun r10 h11 H=>zj (zx (z9c r7.2 100 599 r10 h11) Z ⟨.inl Z,.inl Z,U⟩ Z) Z (za (zz Wi Z) (zj (vr tyS3 Z Z Z Z) Z ⟨(r10.2.L,r10.2.at_,r10.1,r2.1.Headers,r2.1.Body),H,⟨Z,Z,U⟩,⟨Z,Z,Z,U⟩⟩))))
   ·refine fE h9 H fun H=>zb hN Z (za (yo Z Z) (qe Z (zg _ Z (fun h12 => ?_) (fun h12 => ?_))))
    ·exact tE h12 H fun H=>zp hN Z (za (zd (.ptr _ _) Z) (bE H fun r13 h14 H=>zj (zx (y3n r7.2 3 r13 h14) Z ⟨.inl Z,U⟩ Z) Z (za (zz jb Z) (zj (vr qv Z Z Z Z) Z ⟨(r13.2.L,r13.2.at_,r2.1.Status,r13.1,r2.1.Body),H,⟨Z,Z,U⟩,⟨Z,Z,Z,U⟩⟩))))
    ·exact fE h12 H fun H=>zp hN Z (za (zd (.ptr _ _) Z) (za (zw (u':=vlst (List.map yq [20000,20001])) (yk [[_],[_]] xn ⟨Z,.inl ⟨_,Z,Z,Z⟩,Z,Z,.inl ⟨_,Z,Z,Z⟩,Z,U⟩ Z Z) Z) (bE H fun r15 h16 H=>zj (zx (z03 r7.2 [20000,20001] r15 h16) Z ⟨.inl Z,U⟩ Z) Z (bE H fun r17 h18 H=>za (zl (Zc [98] r15.1 r17 h18) ⟨.inl Z,.inl Z,U⟩) (za (zz z7u Z) (zj (vr tyS9 Z Z Z Z) Z ⟨(r15.2.L,r15.2.at_,r2.1.Status,r2.1.Headers,r17),H,⟨Z,Z,U⟩,⟨Z,Z,Z,U⟩⟩))))))
  ·exact fE h6 H fun H=>zn ⟨(r4.2.L,r4.2.at_,r2.1.Status,r2.1.Headers,r2.1.Body),H,⟨Z,Z,U⟩,⟨Z,Z,Z,U⟩⟩
 ·rintro ⟨c19,c20,c21,c22,c23⟩ H
  replace H:Zi c19 c20 c21 c22 c23=some r:=H
  unfold Zi at H
  refine zb hN Z (zt (qi qp Z Z Z) Z (zj (qq qp Z Z Z Z) Z (zk ?_)))
  cases H
  exact ⟨U,⟨.inl ⟨_,_,_,wt (ya.mk c21 c22 c23),Z,Z,Z,Z,qp⟩,U⟩,Z⟩
theorem y9p (n1:Int) (r:(Bool)) (H:z2t n1=some r):Fn Tryz.prog 77 [vint n1] (zu [ze r]):=by
 refine ⟨by kernel_rfl,yj (us:=[ze r]) Tryz.func77 Z Z Z Z fun X hN => ?_⟩
 unfold z2t at H
 refine zb hN Z (qe Z (zb hN Z (qd Z (za (wy Z Z) (qd Z (yt Z Z (fun hc=>zd (.dat _) Z) (yt Z Z (fun hc=>yb (cnd (c:=(decide (0≤n1))) hc) Z) (za (qw Z (fun hb=>(cnd (c:=(decide (0≤n1))) hb)) Z) (qe Z (zk ?_))))))))))
 cases H
 exact ⟨U,.inl Z,U⟩
theorem y27 (c1:Int) (r:(Bool)) (H:z6b c1=some r):Fn Tryz.prog 167 [vval (.int .u8 c1)] (zu [ze r]):=by
 refine ⟨by kernel_rfl,yj (us:=[ze r]) Tryz.func167 Z Z Z Z fun X hN => ?_⟩
 unfold z6b at H
 refine zb hN Z (qe Z (zb hN Z (qd Z (za (wy Z Z) (qd Z (yt Z Z (fun hc=>zd (.dat _) Z) (yt Z Z (fun hc=>we (cnd (c:=(decide (97≤c1))) hc) Z) (za (qw Z (fun hb=>(cnd (c:=(decide (97≤c1))) hb)) Z) (qd Z (yy Z Z (fun hc=>zd (.dat _) Z) (yy Z Z (fun hc=>wy (cnd (c:=(!((decide (97≤c1)) && (decide (c1≤122))))) hc) Z) (yy Z Z (fun hc=>zd (.dat _) (cnd (c:=(!((decide (97≤c1)) && (decide (c1≤122))))) hc)) (wv Z Z (fun hc=>zd (.dat _) Z) (wv Z Z (fun hc=>we (cnd (c:=((!((decide (97≤c1)) && (decide (c1≤122)))) && (decide (65≤c1)))) hc) Z) (yy Z Z (fun hc=>qw (cnd (c:=(!((decide (97≤c1)) && (decide (c1≤122))))) hc) (fun hb=>(cnd (c:=((!((decide (97≤c1)) && (decide (c1≤122)))) && (decide (65≤c1)))) (andI hc hb))) Z) (za (vj Z Z (fun hb=>(cnd (c:=(!((decide (97≤c1)) && (decide (c1≤122))))) (notI hb)))) (qe Z (zk ?_))))))))))))))))))
 cases H
 exact ⟨U,.inl Z,U⟩
theorem y28 (c1:Int) (r:(Bool)) (H:z6c c1=some r):Fn Tryz.prog 168 [vval (.int .u8 c1)] (zu [ze r]):=by
 refine ⟨by kernel_rfl,yj (us:=[ze r]) Tryz.func168 Z Z Z Z fun X hN => ?_⟩
 unfold z6c at H
 refine zb hN Z (qe Z (zb hN Z (qd Z (za (wy Z Z) (qd Z (yt Z Z (fun hc=>zd (.dat _) Z) (yt Z Z (fun hc=>we (cnd (c:=(decide (48≤c1))) hc) Z) (za (qw Z (fun hb=>(cnd (c:=(decide (48≤c1))) hb)) Z) (qe Z (zk ?_))))))))))
 cases H
 exact ⟨U,.inl Z,U⟩
theorem y21 (l:Bs) (c r:Int) (H:z57 l c=some r):Fn Tryz.prog 132 [vstr l,vval (.int .u8 c)] (zu [vint r]):=by
 cases H
 refine z9v (by kernel_rfl) fun M w vs h => ?_
 have h1:=ka (us:=[.string ⟨l.toArray⟩,.int .u8 c]) h
 subst h1
 refine (Tryz.strings_IndexByte ⟨l.toArray⟩ c w).mono ?_
 rintro e w' ⟨rfl,rfl⟩
 exact ⟨_,Z,Z,Kp.refl _ _⟩
theorem y9h (c1:Int) (r:(Bool)) (H:z2p c1=some r):Fn Tryz.prog 124 [vval (.int .u8 c1)] (zu [ze r]):=by
 refine ⟨by kernel_rfl,yj (us:=[ze r]) Tryz.func124 Z Z Z Z fun X hN => ?_⟩
 unfold z2p at H
 refine zb hN Z (qe Z (yd (ι:=Bool) (fun i=>[(2,.dat (ze i))]) (fun i=>[]) (fun i=>Wt i=some r) (fun i=>Z) ?_ ?_))
 ·skip
  refine zp hN Z (qd Z (bE H fun r2 h3 H=>za (zl (y27 c1 r2 h3) ⟨.inl Z,U⟩) (qd Z (yf (j:=2) Z Z (fun h4 => ?_) (fun h4 => ?_) Z))))
  ·refine u3 h4 H fun h5 H=>zf Z Z h4 (zd (.dat _) Z) (bE H fun r6 h7 H=>zf Z Z h4 (zl (y28 c1 r6 h7) ⟨.inl Z,U⟩) (za (zq Z (bFF h5) Z) (qd Z (yf (j:=6) Z Z (fun h8 => ?_) (fun h8 => ?_) Z))))
   ·exact u3 h8 H fun h9 H=>zf Z Z h8 (zd (.dat _) Z) (bE H fun r10 h11 H=>zf Z Z h8 (zl (y21 [33,35,36,37,38,39,42,43,45,46,94,95,96,124,126] c1 r10 h11) ⟨.inl Z,.inl Z,U⟩) (zf Z Z h8 (wy Z Z) (za (zq Z (bFF h9) Z) (qe Z ⟨decide (0≤r10),H,⟨Z,U⟩,U⟩))))
   ·exact u4 h8 H fun h12 H=>zc Z Z h8 (zc Z Z h8 (zc Z Z h8 (za (zy Z (bTT h12) Z) (qe Z ⟨true,H,⟨Z,U⟩,U⟩))))
  ·exact u4 h4 H fun h13 H=>zc Z Z h4 (zc Z Z h4 (za (zy Z (bTT h13) Z) (qd Z (zc Z Z Z (zc Z Z Z (zc Z Z Z (za (zy Z Z Z) (qe Z ⟨true,H,⟨Z,U⟩,U⟩))))))))
 ·rintro v14 H
  replace H:Wt v14=some r:=H
  unfold Wt at H
  refine zk ?_
  cases H
  exact ⟨U,.inl Z,U⟩
theorem z6q (s1:Bs) (r:(Bool)) (H:xx s1=some r):Fn Tryz.prog 78 [vstr s1] (zu [ze r]):=by
 refine ⟨by kernel_rfl,yj (us:=[ze r]) Tryz.func78 Z Z Z Z fun X hN => ?_⟩
 unfold xx at H
 refine zb hN Z (qe Z (zi (zb hN Z (qd Z (za (yw tyU9 Z) (qd Z (ye (gE H fun h4 H=>qu (fun (k2:Nat) (s:Unit)=>[(0,.dat (vstr s1)),(5,.dat (vint (s1.length:Int))),(6,.dat (vint (k2:Int)))]) (fun (k2:Nat) (s:Unit)=>[]) () H ⟨Z,Z,Z,U⟩ U (fun _ _=>Z) ?_ ?_))))))))
 ·rintro ⟨⟩ H
  replace H:z8u s1=some r:=H
  unfold z8u at H
  refine zb hN Z (za (yb Z Z) (zi (zg _ Z (fun h=>(lt_t h).elim) (fun h => ?_))))
  refine yx (zb hN Z (qd Z (za (kn Z Z) (qd Z (yt Z Z (fun hc=>zd (.dat _) Z) (yt Z Z (fun hc=>yw tyU9 (cnd (c:=(decide (s1≠[]))) hc)) (yt Z Z (fun hc=>we (cnd (c:=(decide (s1≠[]))) hc) Z) (za (qw Z (fun hb=>(cnd (c:=(decide (s1≠[]))) hb)) Z) (qe Z (zk ?_))))))))))
  cases H
  exact ⟨U,.inl Z,U⟩
 ·rintro k2 x5 ⟨⟩ q3 h6 h7 H hq3
  replace H:z5z k2 x5=some q3:=H
  unfold z5z at H
  refine zb hN Z (za (yb Z Z) (zi (zg _ Z (fun h => ?_) (fun h=>(lt_f h6 h).elim))))
  refine zn (zi (ye (zb hN Z (qd Z (qe Z (zb hN Z (qd Z (qd Z (za (qm tyU9 Z Z h7) (bE H fun r8 h9 H=>za (zl (y9h (x5.toNat:Int) r8 h9) ⟨.inl Z,U⟩) (za (yp Z) (zg _ Z (fun h10 => ?_) (fun h10 => ?_)))))))))))))
  ·refine tE h10 H fun H=>zb hN Z (qe Z (zk ?_))
   replace H:=retl H hq3
   cases H
   exact ⟨U,.inl Z,U⟩
  ·exact fE h10 H fun H=>zn (zp hN Z (za (qj Z Z (by omega)) (qd Z ⟨_,qa H,⟨Z,Z,Z,U⟩,U⟩)))
theorem z6o (s p:Bs) (r:Bs×Bs×Bool) (H:ky s p=some r):Fn Tryz.prog 98 [vstr s,vstr p] (zu [vstr r.1,vstr r.2.1,ze r.2.2]):=by
 unfold ky at H
 obtain ⟨h1,h2⟩:=gif H
 cases h2
 refine xl (by kernel_rfl) fun M w vs hM h => ?_
 have hv:=ka (us:=[.string ⟨s.toArray⟩,.string ⟨p.toArray⟩]) h
 subst hv
 obtain ⟨m,hm⟩:=z54 hM
 refine (Tryz.strings_Cut ⟨s.toArray⟩ ⟨p.toArray⟩ m w (by simp [ByteArray.size]; omega) hm).mono ?_
 rintro e w' ⟨rfl,n,rfl⟩
 refine ⟨_,Z,⟨[_,_,_],Z,Z,fun j u hj => ?_⟩,⟨Z,Z,Z,Nat.le_refl _,fun _ _ _=>Z⟩⟩
 rcases j with _ | _ | _ | j
 ·cases hj; exact ⟨_,Z,Z⟩
 ·cases hj; exact ⟨_,Z,Z⟩
 ·cases hj; exact ⟨_,Z,Z⟩
 ·simp at hj

theorem y8t (s sep:Bs) (r:List Bs) (H:kg s sep=some r):FnG Tryz.prog 100 [.dat (vstr s),.dat (vstr sep)] [] (.row 900 r.length) [(900,.row 9 1 (List.map zo r))]:=by
 obtain ⟨h1,h2,rfl⟩:=y6u H
 have hlen:=Lib.splitB_all ⟨sep.toArray⟩ (by simpa [ByteArray.size] using h2) 0 _ ⟨s.toArray⟩ Z
 have hle:=Lib.countB_le ⟨sep.toArray⟩ (by simpa [ByteArray.size] using h2) _ ⟨s.toArray⟩ (Nat.le_refl _)
 refine y4d (args:=[vstr s,vstr sep]) (kx s sep) (by kernel_rfl) (fun M w vs hM hvs => ?_) ?_
 ·have hv:=ka (us:=[.string ⟨s.toArray⟩,.string ⟨sep.toArray⟩]) hvs
  subst hv
  obtain ⟨m,hm⟩:=z54 hM
  refine (Tryz.strings_Split ⟨s.toArray⟩ ⟨sep.toArray⟩ m w (by simp [ByteArray.size]; omega) hm (by simpa [ByteArray.size] using h2)).mono ?_
  rintro e w' ⟨rfl,rfl⟩
  have e1:(kx s sep).length=Lib.countB ⟨s.toArray⟩ ⟨sep.toArray⟩+1:=by unfold kx; rw [List.length_map,hlen]
  have e2:((kx s sep).map fun s=>Value.string ⟨s.toArray⟩)=(Lib.splitB ⟨sep.toArray⟩ 0 (Lib.countB ⟨s.toArray⟩ ⟨sep.toArray⟩) ⟨s.toArray⟩).map Value.string:=by
   unfold kx
   rw [List.map_map]
   exact List.map_congr_left fun b _=>by simp
  rw [e1,e2]
  exact ⟨Z,Z⟩
 ·unfold kx maxLen
  rw [List.length_map,hlen]
  have hsz:(ByteArray.mk s.toArray).size=s.length:=by simp [ByteArray.size]
  rw [hsz] at hle
  omega
theorem z3n (s sep:Bs) (r:List Bs) (H:kg s sep=some r):Fn Tryz.prog 100 [vstr s,vstr sep] (zu [vlst (List.map zo r)]):=by
 have h:=y8t s sep r H
 rw [← List.length_map (f:=zo)] at h
 exact z9u h
theorem y20 (s p:Bs) (r:Bs) (H:z0a s p=some r):Fn Tryz.prog 134 [vstr s,vstr p] (zu [vstr r]):=by
 unfold z0a at H
 cases H
 refine xl (by kernel_rfl) fun M w vs hM h => ?_
 have hv:=ka (us:=[.string ⟨s.toArray⟩,.string ⟨p.toArray⟩]) h
 subst hv
 refine (Tryz.strings_TrimPrefix ⟨s.toArray⟩ ⟨p.toArray⟩ w).mono ?_
 rintro e w' ⟨rfl,rfl⟩
 exact ⟨_,Z,Z,Kp.refl _ _⟩

theorem jq (c1:Int) (r:(Int)) (H:vz c1=some r):Fn Tryz.prog 221 [vval (.int .u8 c1)] (zu [vval (.int .u8 r)]):=by
 refine ⟨by kernel_rfl,yj (us:=[vval (.int .u8 r)]) Tryz.func221 Z Z Z Z fun X hN => ?_⟩
 unfold vz at H
 refine zb hN Z (qe Z (zb hN Z (qd Z (za (zw (y57 Z Z) Z) (qe Z (zk ?_))))))
 cases H
 exact ⟨U,.inl Z,U⟩
theorem y9r (v1:Bs) (r:(Bool)) (H:z8y v1=some r):Fn Tryz.prog 222 [vstr v1] (zu [ze r]):=by
 refine ⟨by kernel_rfl,yj (us:=[ze r]) Tryz.func222 Z Z Z Z fun X hN => ?_⟩
 unfold z8y at H
 refine zb hN Z (qe Z (zb hN Z (qe Z (zb hN Z (qe Z (yd (ι:=Bs) (fun i=>[(0,.dat (vstr i)),(3,.dat (vval (.int .i32 94))),(4,.dat (vint 0))]) (fun i=>[]) (fun i=>z3u i=some r) (fun i=>Z) ?_ ?_))))))
 ·skip
  refine yd (ι:=Bool) (fun i=>[(0,.dat (vstr v1)),(3,.dat (vval (.int .i32 94))),(4,.dat (vint 0)),(18,.dat (ze i))]) (fun i=>[]) (fun i=>z06 v1 i=some r) (fun i=>Z) ?_ ?_
  ·skip
   refine zp hN Z (qd Z (za (yw tyU9 Z) (za (wy Z Z) (qd Z (yf (j:=3) Z Z (fun h2 => ?_) (fun h2 => ?_) Z)))))
   ·refine u1 h2 H fun h3 H=>zf Z Z h2 (zd (.dat _) Z) (bE H fun x4 h5 H=>zf Z Z h2 (qm tyU9 Z Z h5) (zf Z Z h2 (yo Z Z) (zf Z Z h2 (zd (.dat _) Z) (yf (j:=7) Z Z (fun h6 => ?_) (fun h6 => ?_) Z))))
    ·exact u3 h6 H fun h7 H=>zf Z Z h6 (zd (.dat _) Z) (zf Z Z h6 (qm tyU9 Z Z h5) (zf Z Z h6 (yo Z Z) (zf Z Z h2 (zq Z (bFF h7) Z) (za (zy Z (bTT h3) Z) ⟨decide ((x4.toNat:Int)=43),H,⟨Z,Z,Z,Z,U⟩,U⟩))))
    ·exact u4 h6 H fun h8 H=>zc Z Z h6 (zc Z Z h6 (zc Z Z h6 (zf Z Z h2 (zy Z (bTT h8) Z) (za (zy Z (bTT h3) Z) ⟨true,H,⟨Z,Z,Z,Z,U⟩,U⟩))))
   ·exact u2 h2 H fun h9 H=>zc Z Z h2 (zc Z Z h2 (zc Z Z h2 (zc Z Z h2 (yi Z Z (yi Z Z (yi Z Z (zc Z Z h2 (za (zq Z (bFF h9) Z) ⟨false,H,⟨Z,Z,Z,Z,U⟩,U⟩))))))))
  ·rintro v10 H
   replace H:z06 v1 v10=some r:=H
   unfold z06 at H
   refine zg _ Z (fun h11 => ?_) (fun h11 => ?_)
   ·exact tE h11 H fun H=>zp hN Z (qd Z (bE H fun l12 h13 H=>za (vp tyU9 Z Z Z h13) (qe Z ⟨l12,H,⟨Z,Z,Z,U⟩,U⟩)))
   ·exact fE h11 H fun H=>zn ⟨v1,H,⟨Z,Z,Z,U⟩,U⟩
 ·rintro v14 H
  replace H:z3u v14=some r:=H
  unfold z3u at H
  refine zb hN Z (qe Z (yd (ι:=Int×Int×Bool) (fun i=>[(0,.dat (vstr v14)),(3,.dat (vval (.int .i32 i.1))),(4,.dat (vint i.2.1)),(5,.dat (ze i.2.2))]) (fun i=>[]) (fun i=>z3t v14 i.1 i.2.1 i.2.2=some r) (fun i=>Z) ?_ ?_))
  ·skip
   refine yd (ι:=Bool) (fun i=>[(0,.dat (vstr v14)),(3,.dat (vval (.int .i32 94))),(4,.dat (vint 0)),(5,.dat (ze false)),(46,.dat (ze i))]) (fun i=>[]) (fun i=>Ze v14 i=some r) (fun i=>Z) ?_ ?_
   ·skip
    refine zp hN Z (qd Z (za (yw tyU9 Z) (za (wy Z Z) (qd Z (yf (j:=3) Z Z (fun h15 => ?_) (fun h15 => ?_) Z)))))
    ·refine u1 h15 H fun h16 H=>zf Z Z h15 (zd (.dat _) Z) (bE H fun x17 h18 H=>zf Z Z h15 (qm tyU9 Z Z h18) (zf Z Z h15 (yo Z Z) (za (zy Z (bTT h16) Z) (qd Z (yf (j:=8) Z Z (fun h19 => ?_) (fun h19 => ?_) Z)))))
     ·refine u1 h19 H fun h20 H=>zf Z Z h19 (zd (.dat _) Z) (bE H fun x21 h22 H=>zf Z Z h19 (qm tyU9 Z Z h22) (bE H fun r23 h24 H=>zf Z Z h19 (zl (jq (x21.toNat:Int) r23 h24) ⟨.inl Z,U⟩) (zf Z Z h19 (yo Z Z) (zf Z Z h19 (zd (.dat _) Z) (yf (j:=13) Z Z (fun h25 => ?_) (fun h25 => ?_) Z)))))
      ·refine u3 h25 H fun h26 H=>zf Z Z h25 (zd (.dat _) Z) (zf Z Z h25 (qm tyU9 Z Z h22) (bE H fun r27 h28 H=>zf Z Z h25 (zl (jq (x21.toNat:Int) r27 h28) ⟨.inl Z,U⟩) (zf Z Z h25 (yo Z Z) (zf Z Z h19 (zq Z (bFF h26) Z) (zf Z Z h19 (zd (.dat _) Z) (yf (j:=19) Z Z (fun h29 => ?_) (fun h29 => ?_) Z))))))
       ·exact u3 h29 H fun h30 H=>zf Z Z h29 (zd (.dat _) Z) (zf Z Z h29 (qm tyU9 Z Z h22) (bE H fun r31 h32 H=>zf Z Z h29 (zl (jq (x21.toNat:Int) r31 h32) ⟨.inl Z,U⟩) (zf Z Z h29 (yo Z Z) (zf Z Z h19 (zq Z (bFF h30) Z) (za (zy Z (bTT h20) Z) ⟨decide (r31=120),H,⟨Z,Z,Z,Z,Z,U⟩,U⟩)))))
       ·exact u4 h29 H fun h33 H=>zc Z Z h29 (zc Z Z h29 (zc Z Z h29 (zc Z Z h29 (zf Z Z h19 (zy Z (bTT h33) Z) (za (zy Z (bTT h20) Z) ⟨true,H,⟨Z,Z,Z,Z,Z,U⟩,U⟩)))))
      ·exact u4 h25 H fun h34 H=>zc Z Z h25 (zc Z Z h25 (zc Z Z h25 (zc Z Z h25 (zf Z Z h19 (zy Z (bTT h34) Z) (zf Z Z h19 (zd (.dat _) Z) (zc Z Z Z (zc Z Z Z (zc Z Z Z (zc Z Z Z (zf Z Z h19 (zy Z Z Z) (za (zy Z (bTT h20) Z) ⟨true,H,⟨Z,Z,Z,Z,Z,U⟩,U⟩)))))))))))
     ·exact u2 h19 H fun h35 H=>zc Z Z h19 (zc Z Z h19 (zc Z Z h19 (zc Z Z h19 (zc Z Z h19 (yi Z Z (yi Z Z (yi Z Z (yi Z Z (zc Z Z h19 (zc Z Z h19 (yi Z Z (yi Z Z (yi Z Z (yi Z Z (zc Z Z h19 (za (zq Z (bFF h35) Z) ⟨false,H,⟨Z,Z,Z,Z,Z,U⟩,U⟩))))))))))))))))
    ·exact u2 h15 H fun h36 H=>zc Z Z h15 (zc Z Z h15 (zc Z Z h15 (za (zq Z (bFF h36) Z) (qd Z (zc Z Z Z (zc Z Z Z (zc Z Z Z (zc Z Z Z (zc Z Z Z (yi Z Z (yi Z Z (yi Z Z (yi Z Z (zc Z Z Z (zc Z Z Z (yi Z Z (yi Z Z (yi Z Z (yi Z Z (zc Z Z Z (za (zq Z Z Z) ⟨false,H,⟨Z,Z,Z,Z,Z,U⟩,U⟩)))))))))))))))))))))
   ·rintro v37 H
    replace H:Ze v14 v37=some r:=H
    unfold Ze at H
    refine zg _ Z (fun h38 => ?_) (fun h38 => ?_)
    ·exact tE h38 H fun H=>zb hN Z (qe Z (zb hN Z (qe Z (zp hN Z (qd Z (bE H fun x39 h40 H=>za (qm tyU9 Z Z h40) (bE H fun r41 h42 H=>za (zl (jq (x39.toNat:Int) r41 h42) ⟨.inl Z,U⟩) (za (yo Z Z) (qe Z ⟨(48,2,decide (r41=120)),H,⟨Z,Z,Z,Z,U⟩,U⟩)))))))))
    ·exact fE h38 H fun H=>zn ⟨(94,0,false),H,⟨Z,Z,Z,Z,U⟩,U⟩
  ·rintro ⟨v43,v44,v45⟩ H
   replace H:z3t v14 v43 v44 v45=some r:=H
   unfold z3t at H
   refine yd (ι:=Int) (fun i=>[(3,.dat (vval (.int .i32 i)))]) (fun i=>[]) (fun i=>z6x i=some r) (fun i=>Z) ?_ ?_
   ·skip
    refine ye (z97 (fun (s:Int×Int)=>[(0,.dat (vstr v14)),(3,.dat (vval (.int .i32 s.1))),(4,.dat (vint s.2)),(5,.dat (ze v45))]) (fun (s:Int×Int)=>[]) (v43,v44) H ⟨Z,Z,Z,Z,U⟩ U (fun _=>Z) ?_)
    rintro ⟨v46,v47⟩ q48 H hq48
    replace H:z9h v14 v45 v46 v47=some q48:=H
    unfold z9h at H
    refine zi (zb hN Z (qd Z (qd Z (za (yw tyU9 Z) (za (yb Z Z) (zg _ Z (fun h49 => ?_) (fun h49 => ?_)))))))
    ·refine tE h49 H fun H=>zn (yd (ι:=Int) (fun i=>[(0,.dat (vstr v14)),(3,.dat (vval (.int .i32 i))),(4,.dat (vint v47)),(5,.dat (ze v45))]) (fun i=>[]) (fun i=>z05 v47 i=some q48) (fun i=>Z) ?_ ?_)
     ·skip
      refine ye (zi (yd (ι:=Bool) (fun i=>[(0,.dat (vstr v14)),(3,.dat (vval (.int .i32 v46))),(4,.dat (vint v47)),(5,.dat (ze v45)),(83,.dat (ze i))]) (fun i=>[]) (fun i=>uc v14 v46 v47 i=some q48) (fun i=>Z) ?_ ?_))
      ·skip
       refine zp hN Z (qd Z (qd Z (bE H fun x50 h51 H=>za (kw tyU9 Z Z h51) (za (we Z Z) (qd Z (yf (j:=4) Z Z (fun h52 => ?_) (fun h52 => ?_) Z))))))
       ·refine u1 h52 H fun h53 H=>zf Z Z h52 (zd (.dat _) Z) (zf Z Z h52 (zd (.dat _) Z) (zf Z Z h52 (kw tyU9 Z Z h51) (zf Z Z h52 (we Z Z) (za (zy Z (bTT h53) Z) (qd Z (yf (j:=10) Z Z (fun h54 => ?_) (fun h54 => ?_) Z))))))
        ·refine u3 h54 H fun h55 H=>zf Z Z h54 (zd (.dat _) Z) (zf Z Z h54 (zd (.dat _) Z) (yf (j:=12) Z Z (fun h56 => ?_) (fun h56 => ?_) Z))
         ·refine u1 h56 H fun h57 H=>zf Z Z h56 (zd (.dat _) Z) (zf Z Z h56 (zd (.dat _) Z) (zf Z Z h56 (kw tyU9 Z Z h51) (bE H fun r58 h59 H=>zf Z Z h56 (zl (jq (x50.toNat:Int) r58 h59) ⟨.inl Z,U⟩) (zf Z Z h56 (we Z Z) (zf Z Z h54 (zy Z (bTT h57) Z) (zf Z Z h54 (zd (.dat _) Z) (yf (j:=19) Z Z (fun h60 => ?_) (fun h60 => ?_) Z)))))))
          ·exact u1 h60 H fun h61 H=>zf Z Z h60 (zd (.dat _) Z) (zf Z Z h60 (zd (.dat _) Z) (zf Z Z h60 (kw tyU9 Z Z h51) (bE H fun r62 h63 H=>zf Z Z h60 (zl (jq (x50.toNat:Int) r62 h63) ⟨.inl Z,U⟩) (zf Z Z h60 (we Z Z) (zf Z Z h54 (zy Z (bTT h61) Z) (za (zq Z (bFF h55) Z) ⟨decide (r62≤102),H,⟨Z,Z,Z,Z,Z,U⟩,U⟩))))))
          ·exact u2 h60 H fun h64 H=>zc Z Z h60 (zc Z Z h60 (zc Z Z h60 (zc Z Z h60 (zc Z Z h60 (zf Z Z h54 (zq Z (bFF h64) Z) (za (zq Z (bFF h55) Z) ⟨false,H,⟨Z,Z,Z,Z,Z,U⟩,U⟩))))))
         ·exact u2 h56 H fun h65 H=>zc Z Z h56 (zc Z Z h56 (zc Z Z h56 (zc Z Z h56 (zc Z Z h56 (zf Z Z h54 (zq Z (bFF h65) Z) (zf Z Z h54 (zd (.dat _) Z) (zc Z Z Z (zc Z Z Z (zc Z Z Z (zc Z Z Z (zc Z Z Z (zf Z Z h54 (zq Z Z Z) (za (zq Z (bFF h55) Z) ⟨false,H,⟨Z,Z,Z,Z,Z,U⟩,U⟩)))))))))))))
        ·exact u4 h54 H fun h66 H=>zc Z Z h54 (zc Z Z h54 (yi Z Z (yi Z Z (yi Z Z (yi Z Z (yi Z Z (zc Z Z h54 (zc Z Z h54 (yi Z Z (yi Z Z (yi Z Z (yi Z Z (yi Z Z (zc Z Z h54 (za (zy Z (bTT h66) Z) ⟨true,H,⟨Z,Z,Z,Z,Z,U⟩,U⟩)))))))))))))))
       ·refine u2 h52 H fun h67 H=>zc Z Z h52 (zc Z Z h52 (zc Z Z h52 (zc Z Z h52 (za (zq Z (bFF h67) Z) (qd Z (zf Z Z Z (zd (.dat _) Z) (zf Z Z Z (zd (.dat _) Z) (yf (j:=12) Z Z (fun h68 => ?_) (fun h68 => ?_) Z))))))))
        ·refine u1 h68 H fun h69 H=>zf Z Z h68 (zd (.dat _) Z) (zf Z Z h68 (zd (.dat _) Z) (zf Z Z h68 (kw tyU9 Z Z h51) (bE H fun r70 h71 H=>zf Z Z h68 (zl (jq (x50.toNat:Int) r70 h71) ⟨.inl Z,U⟩) (zf Z Z h68 (we Z Z) (zf Z Z Z (zy Z (bTT h69) Z) (zf Z Z Z (zd (.dat _) Z) (yf (j:=19) Z Z (fun h72 => ?_) (fun h72 => ?_) Z)))))))
         ·exact u1 h72 H fun h73 H=>zf Z Z h72 (zd (.dat _) Z) (zf Z Z h72 (zd (.dat _) Z) (zf Z Z h72 (kw tyU9 Z Z h51) (bE H fun r74 h75 H=>zf Z Z h72 (zl (jq (x50.toNat:Int) r74 h75) ⟨.inl Z,U⟩) (zf Z Z h72 (we Z Z) (zf Z Z Z (zy Z (bTT h73) Z) (za (zq Z Z Z) ⟨decide (r74≤102),H,⟨Z,Z,Z,Z,Z,U⟩,U⟩))))))
         ·exact u2 h72 H fun h76 H=>zc Z Z h72 (zc Z Z h72 (zc Z Z h72 (zc Z Z h72 (zc Z Z h72 (zf Z Z Z (zq Z (bFF h76) Z) (za (zq Z Z Z) ⟨false,H,⟨Z,Z,Z,Z,Z,U⟩,U⟩))))))
        ·exact u2 h68 H fun h77 H=>zc Z Z h68 (zc Z Z h68 (zc Z Z h68 (zc Z Z h68 (zc Z Z h68 (zf Z Z Z (zq Z (bFF h77) Z) (zf Z Z Z (zd (.dat _) Z) (zc Z Z Z (zc Z Z Z (zc Z Z Z (zc Z Z Z (zc Z Z Z (zf Z Z Z (zq Z Z Z) (za (zq Z Z Z) ⟨false,H,⟨Z,Z,Z,Z,Z,U⟩,U⟩)))))))))))))
      ·rintro v78 H
       replace H:uc v14 v46 v47 v78=some q48:=H
       unfold uc at H
       refine zg _ Z (fun h79 => ?_) (fun h79 => ?_)
       ·exact tE h79 H fun H=>zb hN Z (qe Z (yx ⟨48,H,⟨Z,Z,Z,Z,U⟩,U⟩))
       ·refine fE h79 H fun H=>zn (zi (zb hN Z (qd Z (qd Z (bE H fun x80 h81 H=>za (kw tyU9 Z Z h81) (za (yo Z Z) (zg _ Z (fun h82 => ?_) (fun h82 => ?_))))))))
        ·refine tE h82 H fun H=>zi (zb hN Z (qd Z (za (qo Z Z) (zg _ Z (fun h83 => ?_) (fun h83 => ?_)))))
         ·refine tE h83 H fun H=>zb hN Z (qe Z (zk ?_))
          replace H:=retl H hq48
          cases H
          exact ⟨U,.inl Z,U⟩
         ·exact fE h83 H fun H=>zn (zb hN Z (qe Z (yx ⟨95,H,⟨Z,Z,Z,Z,U⟩,U⟩)))
        ·refine fE h82 H fun H=>zn (zi (zb hN Z (qd Z (za (yo Z Z) (zg _ Z (fun h84 => ?_) (fun h84 => ?_))))))
         ·refine tE h84 H fun H=>zb hN Z (qe Z (zk ?_))
          replace H:=retl H hq48
          cases H
          exact ⟨U,.inl Z,U⟩
         ·exact fE h84 H fun H=>zn (zp hN Z (qe Z ⟨33,H,⟨Z,Z,Z,Z,U⟩,U⟩))
     ·rintro v85 H
      replace H:z05 v47 v85=some q48:=H
      unfold z05 at H
      exact zp hN Z (qd Z (za (qk _ Z Z (.inl ⟨Z,Z⟩)) (qe Z ⟨_,qa H,⟨Z,Z,Z,Z,U⟩,U⟩)))
    ·refine fE h49 H fun H=>yx ?_
     replace H:=outl H hq48
     exact ⟨v46,H,⟨Z,U⟩,U⟩
   ·rintro v86 H
    replace H:z6x v86=some r:=H
    unfold z6x at H
    refine zb hN Z (qd Z (za (qo Z Z) (qe Z (zk ?_))))
    cases H
    exact ⟨U,.inl Z,U⟩
end Go.Proofs.YtkldmhhbbceaoaaGreatDoor
