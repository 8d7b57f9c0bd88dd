/- Walks along the models. Printed by a program. -/
import Derived.Test.YtmdllhcjefcggabGreatDoorZlw7
namespace Go.Proofs.YtmdllhcjefcggabGreatDoor
open Go.RowKit
set_option linter.unusedVariables false
set_option maxRecDepth 100000
set_option maxHeartbeats 2000000
theorem w1o (l1:(List zo)) (r:(Bs×Int)) (H:z4s l1=some r):Fn Tryz.prog 150 [vlst (List.map yr l1)] (zu [vstr r.1,vint r.2]):=by
 refine ⟨by kernel_rfl,yh (us:=[vstr r.1,vint r.2]) Tryz.func150 Z Z Z Z fun X hN => ?_⟩
 unfold z4s at H
 refine zb hN Z (qe Z (qe Z (zh (zb hN Z (qd Z (za (qi xt Z) (za (wg Z Z) (zg _ Z (fun h2 => ?_) (fun h2 => ?_)))))))))
 ·refine tE h2 H fun H=>zb hN Z (qe Z (qe Z (zi ?_)))
  cases H
  exact ⟨U,.inl Z,.inl Z,U⟩
 ·refine fE h2 H fun H=>zl (zb hN Z (qe Z (zh (zb hN Z (qd Z (za (qi xt Z) (qd Z (zw (jg 4 1 9 1 Z Z Z (gE H fun h6 H=>qw (fun (k4:Nat) (s:(List Bs))=>[(4,.row 1 s.length),(11,.dat (vlst (List.map yr l1))),(12,.dat (vint (l1.length:Int))),(13,.dat (vint (k4:Int)))]) (fun (k4:Nat) (s:(List Bs))=>[(1,.row 9 1 (List.map zr s))]) [] H ⟨Z,Z,Z,Z,U⟩ ⟨Z,U⟩ (fun _ _=>Z) ?_ ?_))))))))))
  ·rintro l3 H
   replace H:y66 l3=some r:=H
   unfold y66 at H
   refine zb hN Z (za (zx Z Z) (zh (zg _ Z (fun h=>(lt_t h).elim) (fun h => ?_))))
   refine yt (zh (Yn 4 1 Z Z Z (zp hN Z (qd Z (bE H fun r8 h9 H=>za (zk (z5e l3 [38] r8 h9) ⟨.inl Z,.inl Z,U⟩) (qe Z (zh (zb hN Z (qd Z (za (qj tyU9 Z) (za (wg Z Z) (zg _ Z (fun h10 => ?_) (fun h10 => ?_)))))))))))))
   ·refine tE h10 H fun H=>zb hN Z (qe Z (qe Z (zi ?_)))
    cases H
    exact ⟨U,.inl Z,.inl Z,U⟩
   ·refine fE h10 H fun H=>zl (zb hN Z (qd Z (qe Z (qe Z (zi ?_)))))
    cases H
    exact ⟨U,.inl Z,.inl Z,U⟩
  ·rintro k4 x7 l3 q5 h11 h12 H hq5
   replace H:y3k k4 x7 l3=some q5:=H
   unfold y3k at H
   refine zb hN Z (za (zx Z Z) (zh (zg _ Z (fun h => ?_) (fun h=>(lt_f h11 h).elim))))
   refine zl (zh (zw (zb hN Z (za (we ut (fun _=>Z) Z Z h12) (za (xy jx Z (qh h12) Z) (zj (qv 2 Qq Z) Z (zj (qk jx Z Z Z Z) Z (zh (zb hN Z (za (zq xf Z) (zm (zv tyS9 Z Z) Z (za (va Z Z) (qd Z (yz Z Z (fun hc=>zq Qw Z) (z3l Z Z (fun hc=>zv tyS9 (cnd (c:=(decide (x7.Name=[]))) hc) Z) Z vf (yz Z Z (fun hc=>va (cnd (c:=(decide (x7.Name=[]))) hc) Z) (za (wm Z (fun hb=>(cnd (c:=(decide (x7.Name=[]))) hb)) Z) (zg _ Z (fun h13 => ?_) (fun h13 => ?_)))))))))))))))))))
   ·refine tE h13 H fun H=>zb hN Z (qe Z (qe Z (zi ?_)))
    replace H:=retl H hq5
    cases H
    exact ⟨U,.inl Z,.inl Z,U⟩
   ·refine fE h13 H fun H=>zl (wz mixed hN Z Z (za (zd (.row _ _) Z) (za (zq xf Z) (zm (zv tyS9 Z Z) Z (bE H fun r14 h15 H=>za (zk (x2o x7.Name r14 h15) ⟨.inl Z,U⟩) (gE H fun h16 H=>za (jj Z Z (Nat.le_trans h16 (by decide))) (za (zq Qw Z) (zm (zv tyS9 Z Z) Z (bE H fun r17 h18 H=>za (zk (x2o x7.Value r17 h18) ⟨.inl Z,U⟩) (gE H fun h19 H=>za (jj Z Z (Nat.le_trans h19 (by decide))) (za (ya (u':=vlst (List.map zr [((r14++[61])++r17)])) (yo [[_]] yu ⟨Z,.inl ⟨_,Z,Z,Z⟩,Z,U⟩ Z Z) Z) (gE H fun h20 H=>zj (vk yu (fun _=>Z) Z Z Z ⟨by simp,by first | (simp; done) | simpa using h20⟩ Z) Z ?_))))))))))))
    refine za (qm (.row _ _) Z) ⟨Z,?_⟩
    exact zp hN Z (za (qs Z Z (by omega)) (qd Z ⟨_,yx H,⟨Z,Z,Z,Z,U⟩,⟨Z,U⟩⟩))
theorem x2x (v1:zz) (r:(zz×Int)) (H:Wv v1=some r):Fn Tryz.prog 90 [vagg (qx v1)] (zu [vagg (qx r.1),vint r.2]):=by
 refine ⟨by kernel_rfl,yh (us:=[vagg (qx r.1),vint r.2]) Tryz.func90 Z Z Z Z fun X hN => ?_⟩
 unfold Wv at H
 refine zb hN Z (zj (wd 1 Z) Z (zj (qv 2 jh Z) Z (qe Z (zh (zb hN Z (zm (qa yy Z Z Z) Z (bE H fun r2 h3 H=>za (zk (y6n v1 r2 h3) ⟨.inl Z,U⟩) (qe Z (zb hN Z (qd Z (za (qp Z Z) (zg _ Z (fun h4 => ?_) (fun h4 => ?_)))))))))))))
 ·refine tE h4 H fun H=>zb hN Z (za (Zn (u':=vagg (qx (zz.mk 0 [] [] [] [] [] [] []))) (Yi (by exact ⟨yp,yp,yp,yp,yp,yp,xd,yp,U⟩)) (wx [] jh Yk Z U)) ?_)
  refine qd Z (zj (qk yy Z Z Z Z) Z (qe Z (zi ?_)))
  cases H
  exact ⟨U,.inl ⟨_,_,_,qx (zz.mk 0 [] [] [] [] [] [] []),Z,Z,Z,Z,yy⟩,.inl Z,U⟩
 ·refine fE h4 H fun H=>zl (zb hN Z (zm (qa yy Z Z Z) Z (zj (qv 3 jh Z) Z (zj (qk yy Z Z Z Z) Z (zb hN Z (qe Z (zb hN Z (za (zq xx Z) (zm (zv tyS9 Z Z) Z (bE H fun r5 h6 H=>za (zk (x2y v1.Host r5 h6) ⟨.inl Z,U⟩) (qd Z (za (yc Z Z) (za (yc Z Z) (za (zq xx Z) (zj (vr tyS9 Z Z Z Z) Z (zh (zb hN Z (za (zq xw Z) (zm (zv tyS9 Z Z) Z (bE H fun r7 h8 H=>za (zk (w1p v1.Path r7 h8) ⟨.inl Z,U⟩) ?_))))))))))))))))))))
  refine qd Z (za (yc Z Z) (za (yc Z Z) (za (zq xw Z) (zj (vr tyS9 Z Z Z Z) Z (qe Z (zb hN Z (qd Z (za (qp Z Z) (zg _ Z (fun h9 => ?_) (fun h9 => ?_))))))))))
  ·refine tE h9 H fun H=>zb hN Z (za (Zn (u':=vagg (qx (zz.mk 0 [] [] [] [] [] [] []))) (Yi (by exact ⟨yp,yp,yp,yp,yp,yp,xd,yp,U⟩)) (wx [] jh Yk Z U)) ?_)
   refine qd Z (zj (qk yy Z Z Z Z) Z (qe Z (zi ?_)))
   cases H
   exact ⟨U,.inl ⟨_,_,_,qx (zz.mk 0 [] [] [] [] [] [] []),Z,Z,Z,Z,yy⟩,.inl Z,U⟩
  ·refine fE h9 H fun H=>zl (zb hN Z (za (zq xv Z) (zm (zv tyS9 Z Z) Z (bE H fun r10 h11 H=>ww (rn [(900,4)]) [] [(900,_)] (w0d v1.Query r10 h11) ⟨Z,U⟩ ⟨.inl (.inl Z),U⟩ U Z (za (zd (.comp _ _) Z) (za (y06 Z Z) (za (y06 Z Z) (za (qm (.row _ _) Z) (qe Z (zh (zb hN Z (qd Z (za (qp Z Z) (zg _ Z (fun h12 => ?_) (fun h12 => ?_)))))))))))))))
   ·refine tE h12 H fun H=>zb hN Z (za (Zn (u':=vagg (qx (zz.mk 0 [] [] [] [] [] [] []))) (Yi (by exact ⟨yp,yp,yp,yp,yp,yp,xd,yp,U⟩)) (wx [] jh Yk Z U)) ?_)
    refine qd Z (zj (qk yy Z Z Z Z) Z (qe Z (zi ?_)))
    cases H
    exact ⟨U,.inl ⟨_,_,_,qx (zz.mk 0 [] [] [] [] [] [] []),Z,Z,Z,Z,yy⟩,.inl Z,U⟩
   ·refine fE h12 H fun H=>zl (zb hN Z (za (zd (.row _ _) Z) (bE H fun r13 h14 H=>ww (rn [(0,4),(900,5)]) [(0,_,_,none)] [(900,_)] (x1k r10.1 (fun (a0:zo)=>z1j a0) 146 [] (fun a0 r h=>w1r a0 r h) r13 h14) ⟨Z,Z,U⟩ ⟨.inl (.inl Z),.inr ⟨_,Z,Z⟩,U⟩ ⟨⟨⟨Z,Z,Z⟩,U⟩,U⟩ Z (za (qm (.row _ _) Z) (zb hN Z (za (zd (.row _ _) Z) (bE H fun r15 h16 H=>gE H fun h17 H=>ww (rn [(0,5)]) [(0,_,_,some _)] [] (x94 r13 (fun (a0:zo) (a1:zo)=>z4t a0 a1) 148 [] (fun a0 a1 r h=>w1q a0 a1 r h) r15 h16) ⟨Z,U⟩ ⟨.inl (.inl Z),.inr ⟨_,Z,Z⟩,U⟩ ⟨⟨⟨Z,Z,Z⟩,by simp [uh,h17]⟩,U⟩ Z ?_)))))))
    refine zh (zh (Yn 7 5 Z Z (h17).symm (zp hN Z (qd Z (bE H fun r18 h19 H=>za (zk (w1o r15 r18 h19) ⟨.inl Z,U⟩) (qd Z (za (yc Z Z) (za (yc Z Z) (za (zq xv Z) (zj (vr tyS9 Z Z Z Z) Z (qe Z (zb hN Z (qd Z (za (qp Z Z) (zg _ Z (fun h20 => ?_) (fun h20 => ?_))))))))))))))))
    ·refine tE h20 H fun H=>zb hN Z (za (Zn (u':=vagg (qx (zz.mk 0 [] [] [] [] [] [] []))) (Yi (by exact ⟨yp,yp,yp,yp,yp,yp,xd,yp,U⟩)) (wx [] jh Yk Z U)) ?_)
     refine qd Z (zj (qk yy Z Z Z Z) Z (qe Z (zi ?_)))
     cases H
     exact ⟨U,.inl ⟨_,_,_,qx (zz.mk 0 [] [] [] [] [] [] []),Z,Z,Z,Z,yy⟩,.inl Z,U⟩
    ·refine fE h20 H fun H=>zl (zb hN Z (za (zq uf Z) (zm (zv tyS9 Z Z) Z (bE H fun r21 h22 H=>za (zk (x1p v1.Method r21 h22) ⟨.inl Z,U⟩) (za (zq uf Z) (zj (vr tyS9 Z Z Z Z) Z (zb hN Z (za (zq vi Z) (zj (vr wb Z Z Z Z) Z (zh (zb hN Z (za (zq vi Z) (zm (zv wb Z Z) Z (za (qi uo Z) (qd Z (zw (z6w 3 6 6 40 2 Z Z Z Z (gE H fun h26 H=>qw (fun (k24:Nat) (s:(List zn))=>[(2,.ptr 2 0),(5,.ptr 3 0),(65,.dat (vlst (List.map yb v1.Headers))),(66,.dat (vint (v1.Headers.length:Int))),(67,.dat (vint (k24:Int)))]) (fun (k24:Nat) (s:(List zn))=>[(2,.box none 28 [.dat (vint 0),.dat (vstr []),.dat (vstr []),.dat (vstr []),.dat (vstr []),.dat (vstr []),.dat (vnil),.dat (vstr [])]),(3,.box none 28 [.dat (vint v1.At),.dat (vstr r21),.dat (vstr r5.1),.dat (vstr r7.1),.dat (vstr r18.1),.dat (vstr v1.From),.row 6 s.length,.dat (vstr v1.Body)]),(6,.row 40 2 (List.map yb s))]) ([]:List zn) H ⟨Z,Z,Z,Z,Z,U⟩ ⟨Z,(congrArg (fun n=>some (some (AObj.box none 28 [.dat (vint v1.At),.dat (vstr r21),.dat (vstr r5.1),.dat (vstr r7.1),.dat (vstr r18.1),.dat (vstr v1.From),.row 6 n,.dat (vstr v1.Body)]))) (show 0=([]:List zn).length from (by simp))),Z,U⟩ (fun _ _=>Z) ?_ ?_))))))))))))))))))
     ·rintro l23 H
      replace H:y3l v1 r5 r7 r18 r21 l23=some r:=H
      unfold y3l at H
      refine zb hN Z (za (zx Z Z) (zh (zg _ Z (fun h=>(lt_t h).elim) (fun h => ?_))))
      refine yt (zh (z6x 3 6 6 Z Z Z (by rw [List.length_map]) ?_))
      refine zp hN Z (zm (qa yy Z Z Z) Z (zj (qk yy Z Z Z Z) Z (qe Z (zi ?_))))
      cases H
      exact ⟨U,.inl ⟨_,_,_,qx (zz.mk v1.At r21 r5.1 r7.1 r18.1 v1.From l23 v1.Body),Z,Z,Z,Z,yy⟩,.inl Z,U⟩
     ·rintro k24 x27 l23 q25 h28 h29 H hq25
      replace H:z17 k24 x27 l23=some q25:=H
      unfold z17 at H
      refine ve (zb hN Z (za (zx Z Z) (zh (zg _ Z (fun h => ?_) (fun h=>(lt_f h28 h).elim)))))
      refine zl (zh (zw (zb hN Z (za (we xg (fun _=>Z) Z Z h29) (za (xy jv Z (qh h29) Z) (zj (qv 7 kl Z) Z (zj (qk jv Z Z Z Z) Z (wz mixed hN Z Z (za (zq vi Z) (zm (zv wb Z Z) Z (za (zq Qv Z) (zm (zv tyS9 Z Z) Z (bE H fun r30 h31 H=>za (zk (Ya x27.Name r30 h31) ⟨.inl Z,U⟩) (za (zq z67 Z) (zm (zv tyS9 Z Z) Z (za (ya (u':=vagg (yb (zn.mk r30 x27.Value))) (wx [(0,[vstr r30]),(1,[vstr x27.Value])] kl Qs Z ⟨Z,.inl ⟨_,Z,Z,Z⟩,Z,Z,.inl ⟨_,Z,Z,Z⟩,Z,U⟩) Z) (za (ya (u':=vlst (List.map yb [(zn.mk r30 x27.Value)])) (yo [_] kg ⟨Z,.inr Z,Z,U⟩ Z Z) Z) (gE H fun h32 H=>zj (vk kg (fun _=>Z) Z Z Z ⟨by simp,by first | (simp; done) | simpa using h32⟩ Z) Z ?_))))))))))))))))))
      refine za (zq vi Z) (uw (uv wb Z Z (by rw [List.length_map]) Z) Z Z ?_)
      refine ⟨Z,?_⟩
      refine zp hN Z (za (qs Z Z (by omega)) (qd Z (vu ?_)))
      show Cv _ _ _ _
      exact vq ⟨_,yx H,⟨Z,Z,Z,Z,Z,U⟩,⟨Z,Z,Z,U⟩⟩
theorem w1l (n1:Bs) (c2:zz) (c3:zz) (r:(Bool)) (H:Wu n1 c2 c3=some r):Fn Tryz.prog 91 [vstr n1,wo [[vint c2.At,vstr c2.Method,vstr c2.Host,vstr c2.Path,vstr c2.Query,vstr c2.From,vlst (List.map yb c2.Headers),vstr c2.Body]] 0 0,wo [[vint c3.At,vstr c3.Method,vstr c3.Host,vstr c3.Path,vstr c3.Query,vstr c3.From,vlst (List.map yb c3.Headers),vstr c3.Body]] 0 0] (zu [ze r]):=by
 refine ⟨by kernel_rfl,yh (us:=[ze r]) Tryz.func91 Z Z Z Z fun X hN => ?_⟩
 unfold Wu at H
 refine zb hN Z (qe Z (zh (wz mixed hN Z Z (za (y05 vi Z) (za (qu wb Z Z Z) (qd Z (bE H fun r4 h5 H=>za (zk (z87 c2.Headers n1 r4 h5) ⟨.inl Z,.inl Z,U⟩) (za (y05 vi Z) (za (qu wb Z Z Z) (qd Z (bE H fun r6 h7 H=>za (zk (z87 c3.Headers n1 r6 h7) ⟨.inl Z,.inl Z,U⟩) (bE H fun r8 h9 H=>za (zk (x1v r4 r6 r8 h9) ⟨.inl Z,.inl Z,U⟩) (za (yq Z) (qe Z ⟨Z,?_⟩))))))))))))))
 refine zi ?_
 cases H
 exact ⟨U,.inl Z,U⟩
theorem w1m (v1:qr) (v2:zz) (r:(Bool×Int)) (H:z8l v1 v2=some r):Fn Tryz.prog 46 [vagg (xr v1),vagg (qx v2)] (zu [ze r.1,vint r.2]):=by
 refine ⟨by kernel_rfl,yh (us:=[ze r.1,vint r.2]) Tryz.func46 Z Z Z Z fun X hN => ?_⟩
 unfold z8l at H
 refine zb hN Z (zj (wd 1 Z) Z (zj (wd 2 Z) Z (qe Z (qe Z (zb hN Z (za (zq z29 Z) (zm (qa yy Z Z Z) Z (bE H fun r3 h4 H=>za (zk (x2x v1.Request r3 h4) ⟨.inl Z,U⟩) (qd Z (za (yc Z Z) (za (yc Z Z) (zj (qv 3 jh Z) Z (zj (qk yy Z Z Z Z) Z (qe Z (zh (zb hN Z (qd Z (za (qp Z Z) (zg _ Z (fun h5 => ?_) (fun h5 => ?_))))))))))))))))))))
 ·refine tE h5 H fun H=>zb hN Z (qd Z (qe Z (qe Z (zi ?_))))
  cases H
  exact ⟨U,.inl Z,.inl Z,U⟩
 ·refine fE h5 H fun H=>zl (zb hN Z (zm (qa yy Z Z Z) Z (bE H fun r6 h7 H=>za (zk (x2x v2 r6 h7) ⟨.inl Z,U⟩) (qd Z (za (yc Z Z) (za (yc Z Z) (zj (qv 4 jh Z) Z (zj (qk yy Z Z Z Z) Z (qe Z (zh (zb hN Z (qd Z (za (qp Z Z) (zg _ Z (fun h8 => ?_) (fun h8 => ?_)))))))))))))))
  ·refine tE h8 H fun H=>zb hN Z (qd Z (qe Z (qe Z (zi ?_))))
   cases H
   exact ⟨U,.inl Z,.inl Z,U⟩
  ·refine fE h8 H fun H=>zl (zb hN Z (za (zq Zm Z) (zm (qa ur Z Z Z) Z (bE H fun r9 h10 H=>za (zk (x2w v1.Response r9 h10) ⟨.inl Z,U⟩) (qd Z (za (yc Z Z) (za (yc Z Z) (za (yc Z Z) (qe Z (qe Z (qe Z (zh (zb hN Z (qd Z (qd Z (yn Z Z (fun hc=>zq xx Z) (jw Z Z (fun hc=>zv tyS9 (cnd (c:=(!r9.2.1)) hc) Z) Z vf (yn Z Z (fun hc=>zq xx Z) (jw Z Z (fun hc=>zv tyS9 (cnd (c:=(!r9.2.1)) hc) Z) Z vf (yn Z Z (fun hc=>ji (cnd (c:=(!r9.2.1)) hc) (cnd (c:=(!r9.2.1)) hc)) (za (wv Z Z (fun hb=>(cnd (c:=(!r9.2.1)) (notI hb)))) ?_)))))))))))))))))))))
   refine qd Z (yn Z Z (fun hc=>zq xw Z) (jw Z Z (fun hc=>zv tyS9 (cnd (c:=(!(r9.2.1 || (decide (r3.1.Host≠r6.1.Host))))) hc) Z) Z vf (yn Z Z (fun hc=>zq xw Z) (jw Z Z (fun hc=>zv tyS9 (cnd (c:=(!(r9.2.1 || (decide (r3.1.Host≠r6.1.Host))))) hc) Z) Z vf (yn Z Z (fun hc=>ji (cnd (c:=(!(r9.2.1 || (decide (r3.1.Host≠r6.1.Host))))) hc) (cnd (c:=(!(r9.2.1 || (decide (r3.1.Host≠r6.1.Host))))) hc)) (za (wv Z Z (fun hb=>(cnd (c:=(!(r9.2.1 || (decide (r3.1.Host≠r6.1.Host))))) (notI hb)))) (qd Z (yn Z Z (fun hc=>zq xv Z) (jw Z Z (fun hc=>zv tyS9 (cnd (c:=(!((r9.2.1 || (decide (r3.1.Host≠r6.1.Host))) || (decide (r3.1.Path≠r6.1.Path))))) hc) Z) Z vf (yn Z Z (fun hc=>zq xv Z) (jw Z Z (fun hc=>zv tyS9 (cnd (c:=(!((r9.2.1 || (decide (r3.1.Host≠r6.1.Host))) || (decide (r3.1.Path≠r6.1.Path))))) hc) Z) Z vf (yn Z Z (fun hc=>ji (cnd (c:=(!((r9.2.1 || (decide (r3.1.Host≠r6.1.Host))) || (decide (r3.1.Path≠r6.1.Path))))) hc) (cnd (c:=(!((r9.2.1 || (decide (r3.1.Host≠r6.1.Host))) || (decide (r3.1.Path≠r6.1.Path))))) hc)) (za (wv Z Z (fun hb=>(cnd (c:=(!((r9.2.1 || (decide (r3.1.Host≠r6.1.Host))) || (decide (r3.1.Path≠r6.1.Path))))) (notI hb)))) (qd Z (yn Z Z (fun hc=>zq uf Z) (jw Z Z (fun hc=>zv tyS9 (cnd (c:=(!(((r9.2.1 || (decide (r3.1.Host≠r6.1.Host))) || (decide (r3.1.Path≠r6.1.Path))) || (decide (r3.1.Query≠r6.1.Query))))) hc) Z) Z vf (yn Z Z (fun hc=>zq uf Z) (jw Z Z (fun hc=>zv tyS9 (cnd (c:=(!(((r9.2.1 || (decide (r3.1.Host≠r6.1.Host))) || (decide (r3.1.Path≠r6.1.Path))) || (decide (r3.1.Query≠r6.1.Query))))) hc) Z) Z vf (yn Z Z (fun hc=>ji (cnd (c:=(!(((r9.2.1 || (decide (r3.1.Host≠r6.1.Host))) || (decide (r3.1.Path≠r6.1.Path))) || (decide (r3.1.Query≠r6.1.Query))))) hc) (cnd (c:=(!(((r9.2.1 || (decide (r3.1.Host≠r6.1.Host))) || (decide (r3.1.Path≠r6.1.Path))) || (decide (r3.1.Query≠r6.1.Query))))) hc)) (yn Z Z (fun hc=>zd (.dat _) (cnd (c:=(!(((r9.2.1 || (decide (r3.1.Host≠r6.1.Host))) || (decide (r3.1.Path≠r6.1.Path))) || (decide (r3.1.Query≠r6.1.Query))))) hc)) (wj Z Z (fun hc=>zq uf Z) (y45 Z Z (fun hc=>zv tyS9 (cnd (c:=((!(((r9.2.1 || (decide (r3.1.Host≠r6.1.Host))) || (decide (r3.1.Path≠r6.1.Path))) || (decide (r3.1.Query≠r6.1.Query)))) && (decide (r3.1.Method≠r6.1.Method)))) hc) Z) Z vf (wj Z Z (fun hc=>ji (cnd (c:=((!(((r9.2.1 || (decide (r3.1.Host≠r6.1.Host))) || (decide (r3.1.Path≠r6.1.Path))) || (decide (r3.1.Query≠r6.1.Query)))) && (decide (r3.1.Method≠r6.1.Method)))) hc) Z) ?_)))))))))))))))))))))))
   refine wj Z Z (fun hc=>zd (.dat _) (cnd (c:=((!(((r9.2.1 || (decide (r3.1.Host≠r6.1.Host))) || (decide (r3.1.Path≠r6.1.Path))) || (decide (r3.1.Query≠r6.1.Query)))) && (decide (r3.1.Method≠r6.1.Method)))) hc)) (z3k Z Z (fun hc=>zq uf Z) (x7u Z Z (fun hc=>zv tyS9 (cnd (c:=(((!(((r9.2.1 || (decide (r3.1.Host≠r6.1.Host))) || (decide (r3.1.Path≠r6.1.Path))) || (decide (r3.1.Query≠r6.1.Query)))) && (decide (r3.1.Method≠r6.1.Method))) && !(decide (r3.1.Method≠[71,69,84])))) hc) Z) Z vf (z3k Z Z (fun hc=>ji (cnd (c:=(((!(((r9.2.1 || (decide (r3.1.Host≠r6.1.Host))) || (decide (r3.1.Path≠r6.1.Path))) || (decide (r3.1.Query≠r6.1.Query)))) && (decide (r3.1.Method≠r6.1.Method))) && !(decide (r3.1.Method≠[71,69,84])))) hc) Z) (wj Z Z (fun hc=>wv (cnd (c:=((!(((r9.2.1 || (decide (r3.1.Host≠r6.1.Host))) || (decide (r3.1.Path≠r6.1.Path))) || (decide (r3.1.Query≠r6.1.Query)))) && (decide (r3.1.Method≠r6.1.Method)))) hc) Z (fun hb=>(cnd (c:=(((!(((r9.2.1 || (decide (r3.1.Host≠r6.1.Host))) || (decide (r3.1.Path≠r6.1.Path))) || (decide (r3.1.Query≠r6.1.Query)))) && (decide (r3.1.Method≠r6.1.Method))) && !(decide (r3.1.Method≠[71,69,84])))) (andI hc (notI hb))))) (yn Z Z (fun hc=>wm (cnd (c:=(!(((r9.2.1 || (decide (r3.1.Host≠r6.1.Host))) || (decide (r3.1.Path≠r6.1.Path))) || (decide (r3.1.Query≠r6.1.Query))))) hc) (fun hb=>(cnd (c:=((!(((r9.2.1 || (decide (r3.1.Host≠r6.1.Host))) || (decide (r3.1.Path≠r6.1.Path))) || (decide (r3.1.Query≠r6.1.Query)))) && (decide (r3.1.Method≠r6.1.Method)))) (andI hc hb))) Z) (za (wv Z Z (fun hb=>(cnd (c:=(!(((r9.2.1 || (decide (r3.1.Host≠r6.1.Host))) || (decide (r3.1.Path≠r6.1.Path))) || (decide (r3.1.Query≠r6.1.Query))))) (notI hb)))) (zg _ Z (fun h11 => ?_) (fun h11 => ?_))))))))
   ·refine tE h11 H fun H=>zb hN Z (qe Z (qe Z (zi ?_)))
    cases H
    exact ⟨U,.inl Z,.inl Z,U⟩
   ·refine fE h11 H fun H=>zl (zh (z92 3 [vint r3.1.At,vstr r3.1.Method,vstr r3.1.Host,vstr r3.1.Path,vstr r3.1.Query,vstr r3.1.From,vlst (List.map yb r3.1.Headers),vstr r3.1.Body] Z Z (z92 4 [vint r6.1.At,vstr r6.1.Method,vstr r6.1.Host,vstr r6.1.Path,vstr r6.1.Query,vstr r6.1.From,vlst (List.map yb r6.1.Headers),vstr r6.1.Body] Z Z (zp hN Z (qd Z (za (y04 (us:=[_,_]) ⟨Z,Z,U⟩) (bE H fun r12 h13 H=>za (zk (x1w r9.1 (fun (a0:Bs)=>Wu a0 r3.1 r6.1) 91 [wo [[vint r3.1.At,vstr r3.1.Method,vstr r3.1.Host,vstr r3.1.Path,vstr r3.1.Query,vstr r3.1.From,vlst (List.map yb r3.1.Headers),vstr r3.1.Body]] 0 0,wo [[vint r6.1.At,vstr r6.1.Method,vstr r6.1.Host,vstr r6.1.Path,vstr r6.1.Query,vstr r6.1.From,vlst (List.map yb r6.1.Headers),vstr r6.1.Body]] 0 0] (fun a0 r h=>w1l a0 r3.1 r6.1 r h) r12 h13) ⟨.inl Z,.inl Z,U⟩) (za (yq Z) (qe Z (qe Z (zi ?_)))))))))))
    cases H
    exact ⟨U,.inl Z,.inl Z,U⟩
theorem w1v (e1:qr) (v2:Int) (r:(Int)) (H:z4y e1 v2=some r):Fn Tryz.prog 47 [vagg (xr e1),vint v2] (zu [vint r]):=by
 refine ⟨by kernel_rfl,yh (us:=[vint r]) Tryz.func47 Z Z Z Z fun X hN => ?_⟩
 unfold z4y at H
 refine zb hN Z (zj (wd 1 Z) Z (qe Z (zb hN Z (qe Z (yd (ι:=Int) (fun i=>[(1,.dat (vint v2)),(2,.ptr 1 0),(5,.dat (vint i))]) (fun i=>[(1,.box none 33 [.dat (vint e1.Request.At),.dat (vstr e1.Request.Method),.dat (vstr e1.Request.Host),.dat (vstr e1.Request.Path),.dat (vstr e1.Request.Query),.dat (vstr e1.Request.From),.dat (vlst (List.map yb e1.Request.Headers)),.dat (vstr e1.Request.Body),.dat (vint e1.Response.Status),.dat (vlst (List.map yb e1.Response.Headers)),.dat (vstr e1.Response.Body),.dat (vint e1.At),.dat (vlst (List.map zr e1.Tags)),.dat (vint e1.Used)])]) (fun i=>z0i e1 v2 i=some r) (fun i=>Z) ?_ ?_)))))
 ·skip
  refine zb hN Z (za (zq Zm Z) (za (zq xu Z) (zm (zv wb Z Z) Z (bE H fun r3 h4 H=>za (zk (z87 e1.Response.Headers [97,103,101] r3 h4) ⟨.inl Z,.inl Z,U⟩) (qe Z (zb hN Z (qd Z (za (qi wq Z) (za (wg Z Z) (zg _ Z (fun h5 => ?_) (fun h5 => ?_)))))))))))
  ·refine tE h5 H fun H=>zb hN Z (qd Z (bE H fun x6 h7 H=>za (we vj (fun _=>Z) Z Z h7) (za (qu tyS9 Z (qh h7) Z) (bE H fun r8 h9 H=>za (zk (y6o x6 9 r8 h9) ⟨.inl Z,.inl Z,U⟩) (qd Z (za (yc Z Z) (za (yc Z Z) (qe Z (qe Z (yd (ι:=Bool) (fun i=>[(1,.dat (vint v2)),(2,.ptr 1 0),(5,.dat (vint 0)),(7,.dat (vint r8.1)),(27,.dat (ze i))]) (fun i=>[(1,.box none 33 [.dat (vint e1.Request.At),.dat (vstr e1.Request.Method),.dat (vstr e1.Request.Host),.dat (vstr e1.Request.Path),.dat (vstr e1.Request.Query),.dat (vstr e1.Request.From),.dat (vlst (List.map yb e1.Request.Headers)),.dat (vstr e1.Request.Body),.dat (vint e1.Response.Status),.dat (vlst (List.map yb e1.Response.Headers)),.dat (vstr e1.Response.Body),.dat (vint e1.At),.dat (vlst (List.map zr e1.Tags)),.dat (vint e1.Used)])]) (fun i=>z6f e1 v2 r8 i=some r) (fun i=>Z) ?_ ?_))))))))))
   ·skip
    refine zp hN Z (qd Z (qd Z (yi (j:=1) Z Z (fun h10 => ?_) (fun h10 => ?_) Z)))
    ·exact u1 h10 H fun h11 H=>zf Z Z h10 (zd (.dat _) Z) (bE H fun r12 h13 H=>zf Z Z h10 (zk (Qc r8.1 0 100000000 r12 h13) ⟨.inl Z,.inl Z,.inl Z,U⟩) (za (yf Z (bTT h11) Z) ⟨r12,H,⟨Z,Z,Z,Z,Z,U⟩,⟨Z,U⟩⟩))
    ·exact u2 h10 H fun h14 H=>zc Z Z h10 (zc Z Z h10 (za (ye Z (bFF h14) Z) ⟨false,H,⟨Z,Z,Z,Z,Z,U⟩,⟨Z,U⟩⟩))
   ·rintro v15 H
    replace H:z6f e1 v2 r8 v15=some r:=H
    unfold z6f at H
    refine zg _ Z (fun h16 => ?_) (fun h16 => ?_)
    ·exact tE h16 H fun H=>zp hN Z (qd Z (qe Z ⟨r8.1,H,⟨Z,Z,Z,U⟩,⟨Z,U⟩⟩))
    ·exact fE h16 H fun H=>zl ⟨0,H,⟨Z,Z,Z,U⟩,⟨Z,U⟩⟩
  ·exact fE h5 H fun H=>zl ⟨0,H,⟨Z,Z,Z,U⟩,⟨Z,U⟩⟩
 ·rintro n17 H
  replace H:z0i e1 v2 n17=some r:=H
  unfold z0i at H
  refine zb hN Z (qd Z (za (zq Yl Z) (zm (zv tyS3 Z Z) Z (za (yj _ Z Z (.inr (.inl ⟨Z,Z⟩))) (qd Z (za (yj _ Z Z (.inr (.inr ⟨Z,Z⟩))) (za (yj _ Z Z (.inl ⟨Z,Z⟩)) (qe Z (zi ?_)))))))))
  cases H
  exact ⟨U,.inl Z,U⟩
theorem w1g (c1:zy) (r:(Int)) (H:z4p c1=some r):Fn Tryz.prog 48 [vagg (vg c1)] (zu [vint r]):=by
 refine ⟨by kernel_rfl,yh (us:=[vint r]) Tryz.func48 Z Z Z Z fun X hN => ?_⟩
 unfold z4p at H
 refine zb hN Z (zj (wd 1 Z) Z (qe Z (zh (zw (zb hN Z (za (zq Qu Z) (zm (zv tyS4 Z Z) Z (qe Z (zg _ Z (fun h2 => ?_) (fun h2 => ?_))))))))))
 ·refine tE h2 H fun H=>zb hN Z (qe Z (zi ?_))
  cases H
  exact ⟨U,.inl Z,U⟩
 ·refine fE h2 H fun H=>zb hN Z (za (zq z28 Z) (zm (zv tyS3 Z Z) Z (za (wt Z Z) (qe Z (zg _ Z (fun h3 => ?_) (fun h3 => ?_))))))
  ·refine tE h3 H fun H=>zb hN Z (za (zq z28 Z) (zm (zv tyS3 Z Z) Z (za (yj _ Z Z (.inr (.inr ⟨Z,Z⟩))) (qe Z (zi ?_)))))
   cases H
   exact ⟨U,.inl Z,U⟩
  ·refine fE h3 H fun H=>zl (zb hN Z (za (zq Zl Z) (zm (zv tyS3 Z Z) Z (za (yj _ Z Z (.inr (.inr ⟨Z,Z⟩))) (za (y9k Z Z) (qe Z (zi ?_)))))))
   cases H
   exact ⟨U,.inl Z,U⟩
theorem x2n (n1:Int) (ms2:Int) (r:(Bool)) (H:z1g n1 ms2=some r):Fn Tryz.prog 49 [vint n1,vint ms2] (zu [ze r]):=by
 refine ⟨by kernel_rfl,yh (us:=[ze r]) Tryz.func49 Z Z Z Z fun X hN => ?_⟩
 unfold z1g at H
 refine zb hN Z (qe Z (zb hN Z (qd Z (za (wt Z Z) (qd Z (yz Z Z (fun hc=>zd (.dat _) Z) (yz Z Z (fun hc=>zd (.dat _) Z) (yz Z Z (fun hc=>yj _ Z (cnd (c:=(decide (0≤n1))) hc) (.inr (.inr ⟨Z,Z⟩))) (yz Z Z (fun hc=>wi (cnd (c:=(decide (0≤n1))) hc) (cnd (c:=(decide (0≤n1))) hc)) (za (wm Z (fun hb=>(cnd (c:=(decide (0≤n1))) hb)) Z) (qe Z (zi ?_))))))))))))
 cases H
 exact ⟨U,.inl Z,U⟩
theorem w1u (v1:qr) (v2:zz) (r:(Int×Int)) (H:z4x v1 v2=some r):Fn Tryz.prog 17 [vagg (xr v1),vagg (qx v2)] (zu [vint r.1,vint r.2]):=by
 refine ⟨by kernel_rfl,yh (us:=[vint r.1,vint r.2]) Tryz.func17 Z Z Z Z fun X hN => ?_⟩
 unfold z4x at H
 refine zb hN Z (zj (wd 1 Z) Z (zj (wd 2 Z) Z (qe Z (qe Z (zb hN Z (za (zq vi Z) (zm (zv wb Z Z) Z (bE H fun r3 h4 H=>za (zk (x25 v2.Headers r3 h4) ⟨.inl Z,U⟩) (qd Z (za (yc Z Z) (za (yc Z Z) (zj (qv 3 ue Z) Z (zj (qk vy Z Z Z Z) Z (qe Z (zh (zb hN Z (qd Z (za (qp Z Z) (zg _ Z (fun h5 => ?_) (fun h5 => ?_))))))))))))))))))))
 ·refine tE h5 H fun H=>zb hN Z (qd Z (qe Z (qe Z (zi ?_))))
  cases H
  exact ⟨U,.inl Z,.inl Z,U⟩
 ·refine fE h5 H fun H=>zl (zb hN Z (za (zq Zm Z) (za (zq xu Z) (zm (zv wb Z Z) Z (bE H fun r6 h7 H=>za (zk (x25 v1.Response.Headers r6 h7) ⟨.inl Z,U⟩) (qd Z (za (yc Z Z) (za (yc Z Z) (zj (qv 4 ue Z) Z (zj (qk vy Z Z Z Z) Z (qe Z (zh (zb hN Z (qd Z (za (qp Z Z) (zg _ Z (fun h8 => ?_) (fun h8 => ?_)))))))))))))))))
  ·refine tE h8 H fun H=>zb hN Z (qd Z (qe Z (qe Z (zi ?_))))
   cases H
   exact ⟨U,.inl Z,.inl Z,U⟩
  ·refine fE h8 H fun H=>zl (zh (zb hN Z (za (zq Ym Z) (zm (zv tyS3 Z Z) Z (za (zq Yl Z) (zm (zv tyS3 Z Z) Z (za (zx Z Z) (zg _ Z (fun h9 => ?_) (fun h9 => ?_)))))))))
   ·refine tE h9 H fun H=>zb hN Z (qe Z (qe Z (zi ?_)))
    cases H
    exact ⟨U,.inl Z,.inl Z,U⟩
   ·refine fE h9 H fun H=>zl (zb hN Z (zm (qa uq Z Z Z) Z (zm (qa yy Z Z Z) Z (bE H fun r10 h11 H=>za (zk (w1m v1 v2 r10 h11) ⟨.inl Z,.inl Z,U⟩) (qd Z (za (yc Z Z) (za (yc Z Z) (qe Z (qe Z (zh (zw (zb hN Z (qd Z (za (qp Z Z) (qe Z (zg _ Z (fun h12 => ?_) (fun h12 => ?_)))))))))))))))))
    ·refine tE h12 H fun H=>zb hN Z (qd Z (qe Z (qe Z (zi ?_))))
     cases H
     exact ⟨U,.inl Z,.inl Z,U⟩
    ·refine fE h12 H fun H=>zb hN Z (qd Z (za (yq Z) (qe Z (zg _ Z (fun h13 => ?_) (fun h13 => ?_)))))
     ·refine tE h13 H fun H=>zb hN Z (qe Z (qe Z (zi ?_)))
      cases H
      exact ⟨U,.inl Z,.inl Z,U⟩
     ·refine fE h13 H fun H=>zl (zb hN Z (zm (qa uq Z Z Z) Z (za (zq Ym Z) (zm (zv tyS3 Z Z) Z (bE H fun r14 h15 H=>za (zk (w1v (qr.mk v1.Request v1.Response v1.At v1.Tags v1.Used) v2.At r14 h15) ⟨.inl Z,.inl Z,U⟩) (qe Z (zb hN Z (qd Z (zm (qa vy Z Z Z) Z (bE H fun r16 h17 H=>za (zk (w1g (zy.mk r6.1.NoStore r6.1.NoCache r6.1.Private r6.1.Public r6.1.Must r6.1.Only r6.1.MaxAge r6.1.Shared r6.1.Stale r6.1.OnError r6.1.MaxStale r6.1.MinFresh) r16 h17) ⟨.inl Z,U⟩) (za (yj _ Z Z (.inr (.inl ⟨Z,Z⟩))) (qe Z (zh (zw (zb hN Z (za (zq Qu Z) (zm (zv tyS4 Z Z) Z (qd Z (yn Z Z (fun hc=>zq Qu Z) (jw Z Z (fun hc=>zv tyS4 (cnd (c:=(!r6.1.NoCache)) hc) Z) Z vf ?_))))))))))))))))))))
      refine za (wv Z Z (fun hb=>(cnd (c:=(!r6.1.NoCache)) (notI hb)))) (qe Z (zg _ Z (fun h18 => ?_) (fun h18 => ?_)))
      ·refine tE h18 H fun H=>zb hN Z (qe Z (qe Z (zi ?_)))
       cases H
       exact ⟨U,.inl Z,.inl Z,U⟩
      ·refine fE h18 H fun H=>yd (ι:=Bool) (fun i=>[(6,.ptr 3 0),(8,.ptr 4 0),(11,.dat (vint (wr (r14 - r16)))),(64,.dat (ze i))]) (fun i=>[(3,.box none 61 [.dat (ze r3.1.NoStore),.dat (ze r3.1.NoCache),.dat (ze r3.1.Private),.dat (ze r3.1.Public),.dat (ze r3.1.Must),.dat (ze r3.1.Only),.dat (vint r3.1.MaxAge),.dat (vint r3.1.Shared),.dat (vint r3.1.Stale),.dat (vint r3.1.OnError),.dat (vint r3.1.MaxStale),.dat (vint r3.1.MinFresh)]),(4,.box none 61 [.dat (ze r6.1.NoStore),.dat (ze r6.1.NoCache),.dat (ze r6.1.Private),.dat (ze r6.1.Public),.dat (ze r6.1.Must),.dat (ze r6.1.Only),.dat (vint r6.1.MaxAge),.dat (vint r6.1.Shared),.dat (vint r6.1.Stale),.dat (vint r6.1.OnError),.dat (vint r6.1.MaxStale),.dat (vint r6.1.MinFresh)])]) (fun i=>kj r3 r6 r14 r16 i=some r) (fun i=>Z) ?_ ?_
       ·skip
        refine zp hN Z (qd Z (za (zx Z Z) (qd Z (yi (j:=2) Z Z (fun h19 => ?_) (fun h19 => ?_) Z))))
        ·refine u1 h19 H fun h20 H=>zf Z Z h19 (zq Zl Z) (vt Z Z h19 (zv tyS3 Z Z) Z (zf Z Z h19 (zx Z Z) (zf Z Z h19 (zd (.dat _) Z) (yi (j:=6) Z Z (fun h21 => ?_) (fun h21 => ?_) Z))))
         ·refine u3 h21 H fun h22 H=>zf Z Z h21 (zq Zl Z) (vt Z Z h21 (zv tyS3 Z Z) Z (zf Z Z h21 (zd (.dat _) Z) (bE H fun r23 h24 H=>zf Z Z h21 (zk (x2n r3.1.MaxAge r14 r23 h24) ⟨.inl Z,.inl Z,U⟩) (zf Z Z h19 (ye Z (bFF h22) Z) (za (yf Z (bTT h20) Z) (qd Z (yi (j:=13) Z Z (fun h25 => ?_) (fun h25 => ?_) Z)))))))
          ·refine u1 h25 H fun h26 H=>zf Z Z h25 (zq Qt Z) (vt Z Z h25 (zv tyS3 Z Z) Z (zf Z Z h25 (zx Z Z) (zf Z Z h25 (zd (.dat _) Z) (yi (j:=17) Z Z (fun h27 => ?_) (fun h27 => ?_) Z))))
           ·exact u3 h27 H fun h28 H=>zf Z Z h27 (zd (.dat _) Z) (zf Z Z h27 (zq Qt Z) (vt Z Z h27 (zv tyS3 Z Z) Z (zf Z Z h27 (yj _ Z Z (.inr (.inr ⟨Z,Z⟩))) (zf Z Z h27 (wi Z Z) (zf Z Z h25 (ye Z (bFF h28) Z) (za (yf Z (bTT h26) Z) (qe Z ⟨decide ((wr (r14 - r16))≤(wr ((-1000) * r3.1.MinFresh))),H,⟨Z,Z,Z,Z,U⟩,⟨Z,Z,U⟩⟩)))))))
           ·exact u4 h27 H fun h29 H=>zc Z Z h27 (zc Z Z h27 (zc Z Z h27 (zc Z Z h27 (zc Z Z h27 (zf Z Z h25 (yf Z (bTT h29) Z) (za (yf Z (bTT h26) Z) (qe Z ⟨true,H,⟨Z,Z,Z,Z,U⟩,⟨Z,Z,U⟩⟩)))))))
          ·exact u2 h25 H fun h30 H=>zc Z Z h25 (zc Z Z h25 (zc Z Z h25 (zc Z Z h25 (yk Z Z (yk Z Z (yk Z Z (yk Z Z (yk Z Z (zc Z Z h25 (za (ye Z (bFF h30) Z) (qe Z ⟨false,H,⟨Z,Z,Z,Z,U⟩,⟨Z,Z,U⟩⟩)))))))))))
         ·refine u4 h21 H fun h31 H=>zc Z Z h21 (zc Z Z h21 (zc Z Z h21 (zc Z Z h21 (zf Z Z h19 (yf Z (bTT h31) Z) (za (yf Z (bTT h20) Z) (qd Z (zf Z Z Z (zq Qt Z) (vt Z Z Z (zv tyS3 Z Z) Z (zf Z Z Z (zx Z Z) (zf Z Z Z (zd (.dat _) Z) (yi (j:=17) Z Z (fun h32 => ?_) (fun h32 => ?_) Z)))))))))))
          ·exact u3 h32 H fun h33 H=>zf Z Z h32 (zd (.dat _) Z) (zf Z Z h32 (zq Qt Z) (vt Z Z h32 (zv tyS3 Z Z) Z (zf Z Z h32 (yj _ Z Z (.inr (.inr ⟨Z,Z⟩))) (zf Z Z h32 (wi Z Z) (zf Z Z Z (ye Z (bFF h33) Z) (za (yf Z Z Z) (qe Z ⟨decide ((wr (r14 - r16))≤(wr ((-1000) * r3.1.MinFresh))),H,⟨Z,Z,Z,Z,U⟩,⟨Z,Z,U⟩⟩)))))))
          ·exact u4 h32 H fun h34 H=>zc Z Z h32 (zc Z Z h32 (zc Z Z h32 (zc Z Z h32 (zc Z Z h32 (zf Z Z Z (yf Z (bTT h34) Z) (za (yf Z Z Z) (qe Z ⟨true,H,⟨Z,Z,Z,Z,U⟩,⟨Z,Z,U⟩⟩)))))))
        ·refine u2 h19 H fun h35 H=>zc Z Z h19 (zc Z Z h19 (zc Z Z h19 (zc Z Z h19 (yk Z Z (yk Z Z (yk Z Z (yk Z Z (zc Z Z h19 (za (ye Z (bFF h35) Z) (qd Z (zc Z Z Z (zc Z Z Z (zc Z Z Z (zc Z Z Z (yk Z Z (yk Z Z (yk Z Z (yk Z Z (yk Z Z (zc Z Z Z (za (ye Z Z Z) (qe Z ?_))))))))))))))))))))))
         exact ⟨false,H,⟨Z,Z,Z,Z,U⟩,⟨Z,Z,U⟩⟩
       ·rintro v36 H
        replace H:kj r3 r6 r14 r16 v36=some r:=H
        unfold kj at H
        refine zg _ Z (fun h37 => ?_) (fun h37 => ?_)
        ·refine tE h37 H fun H=>zb hN Z (qe Z (qe Z (zi ?_)))
         cases H
         exact ⟨U,.inl Z,.inl Z,U⟩
        ·refine fE h37 H fun H=>zb hN Z (qd Z (za (zx Z Z) (qd Z (yn Z Z (fun hc=>zq y0q Z) (jw Z Z (fun hc=>zv tyS4 (cnd (c:=(!(decide ((wr (r14 - r16)) < 0)))) hc) Z) Z vf (za (wv Z Z (fun hb=>(cnd (c:=(!(decide ((wr (r14 - r16)) < 0)))) (notI hb)))) (qe Z (zg _ Z (fun h38 => ?_) (fun h38 => ?_)))))))))
         ·refine tE h38 H fun H=>zb hN Z (qe Z (qe Z (zi ?_)))
          cases H
          exact ⟨U,.inl Z,.inl Z,U⟩
         ·refine fE h38 H fun H=>zb hN Z (za (zq z66 Z) (zm (zv tyS3 Z Z) Z (qd Z (bE H fun r39 h40 H=>za (zk (x2n r3.1.MaxStale (wr (r14 - r16)) r39 h40) ⟨.inl Z,.inl Z,U⟩) (qe Z (zg _ Z (fun h41 => ?_) (fun h41 => ?_)))))))
          ·refine tE h41 H fun H=>zb hN Z (qe Z (qe Z (zi ?_)))
           cases H
           exact ⟨U,.inl Z,.inl Z,U⟩
          ·refine fE h41 H fun H=>zb hN Z (za (zq z27 Z) (zm (zv tyS3 Z Z) Z (za (wt Z Z) (qd Z (yz Z Z (fun hc=>zd (.dat _) Z) (yz Z Z (fun hc=>zq z27 Z) (z3l Z Z (fun hc=>zv tyS3 (cnd (c:=(decide (0≤r6.1.Stale))) hc) Z) Z vf (yz Z Z (fun hc=>yj _ Z (cnd (c:=(decide (0≤r6.1.Stale))) hc) (.inr (.inr ⟨Z,Z⟩))) (yz Z Z (fun hc=>zx (cnd (c:=(decide (0≤r6.1.Stale))) hc) (cnd (c:=(decide (0≤r6.1.Stale))) hc)) (za (wm Z (fun hb=>(cnd (c:=(decide (0≤r6.1.Stale))) hb)) Z) (qd Z (yz Z Z (fun hc=>zq Zl Z) (z3l Z Z (fun hc=>zv tyS3 (cnd (c:=((decide (0≤r6.1.Stale)) && (decide ((wr (r14 - r16)) < (wr (1000 * r6.1.Stale)))))) hc) Z) Z vf (yz Z Z (fun hc=>zx (cnd (c:=((decide (0≤r6.1.Stale)) && (decide ((wr (r14 - r16)) < (wr (1000 * r6.1.Stale)))))) hc) Z) (za (wm Z (fun hb=>(cnd (c:=((decide (0≤r6.1.Stale)) && (decide ((wr (r14 - r16)) < (wr (1000 * r6.1.Stale)))))) hb)) Z) (qe Z (zg _ Z (fun h42 => ?_) (fun h42 => ?_))))))))))))))))))
           ·refine tE h42 H fun H=>zb hN Z (qe Z (qe Z (zi ?_)))
            cases H
            exact ⟨U,.inl Z,.inl Z,U⟩
           ·refine fE h42 H fun H=>zl (zb hN Z (qe Z (qe Z (zi ?_))))
            cases H
            exact ⟨U,.inl Z,.inl Z,U⟩
theorem w2h (a1:qc) (r:(Int×Int)) (H:y2r a1=some r):Fn Tryz.prog 50 [vagg (Zj a1)] (zu [vint r.1,vint r.2]):=by
 refine ⟨by kernel_rfl,yh (us:=[vint r.1,vint r.2]) Tryz.func50 Z Z Z Z fun X hN => ?_⟩
 unfold y2r at H
 refine zb hN Z (zj (wd 1 Z) Z (qe Z (qe Z (zh (zb hN Z (zm (qa ur Z Z Z) Z (bE H fun r2 h3 H=>za (zk (x2j a1 r2 h3) ⟨.inl Z,U⟩) (qe Z (zb hN Z (qd Z (za (qp Z Z) (zg _ Z (fun h4 => ?_) (fun h4 => ?_)))))))))))))
 ·refine tE h4 H fun H=>zb hN Z (qd Z (qe Z (qe Z (zi ?_))))
  cases H
  exact ⟨U,.inl Z,.inl Z,U⟩
 ·refine fE h4 H fun H=>zl (zb hN Z (za (zq xu Z) (zm (zv wb Z Z) Z (bE H fun r5 h6 H=>za (zk (y6s a1.Headers r5 h6) ⟨.inl Z,U⟩) (qd Z (za (yc Z Z) (za (yc Z Z) (zj (qv 2 ue Z) Z (zj (qk vy Z Z Z Z) Z (qe Z (zh (zb hN Z (qd Z (za (qp Z Z) (zg _ Z (fun h7 => ?_) (fun h7 => ?_))))))))))))))))
  ·refine tE h7 H fun H=>zb hN Z (qd Z (qe Z (qe Z (zi ?_))))
   cases H
   exact ⟨U,.inl Z,.inl Z,U⟩
  ·refine fE h7 H fun H=>zl (zh (zb hN Z (zm (qa ur Z Z Z) Z (bE H fun r8 h9 H=>za (zk (y6r a1 r8 h9) ⟨.inl Z,U⟩) (qd Z (za (yc Z Z) (za (yc Z Z) (za (yc Z Z) (qe Z (qe Z (qe Z (zb hN Z (qd Z (za (qp Z Z) (zg _ Z (fun h10 => ?_) (fun h10 => ?_))))))))))))))))
   ·refine tE h10 H fun H=>zb hN Z (qd Z (qe Z (qe Z (zi ?_))))
    cases H
    exact ⟨U,.inl Z,.inl Z,U⟩
   ·refine fE h10 H fun H=>zl (zb hN Z (zm (qa vy Z Z Z) Z (bE H fun r11 h12 H=>za (zk (x3c r5.1 r11 h12) ⟨.inl Z,U⟩) (qe Z (qe Z (zi ?_))))))
    cases H
    exact ⟨U,.inl Z,.inl Z,U⟩
theorem w14  (r:(Bool)) (H:z8v  = some r):Fn Tryz.prog 18 [] (zu [ze r]):=by
 refine ⟨by kernel_rfl,yh (us:=[ze r]) Tryz.func18 Z Z Z Z fun X hN => ?_⟩
 unfold z8v at H
 refine zb hN Z (qe Z (zb hN Z (za (ya (u':=vagg (yb (zn.mk [99,97,99,104,101,45,99,111,110,116,114,111,108] [109,97,120,45,97,103,101,61,50]))) (wx [(0,[vstr [99,97,99,104,101,45,99,111,110,116,114,111,108]]),(1,[vstr [109,97,120,45,97,103,101,61,50]])] kl Qs Z ⟨Z,.inl ⟨_,Z,Z,Z⟩,Z,Z,.inl ⟨_,Z,Z,Z⟩,Z,U⟩) Z) (za (ya (u':=vlst (List.map yb [(zn.mk [99,97,99,104,101,45,99,111,110,116,114,111,108] [109,97,120,45,97,103,101,61,50])])) (yo [_] kg ⟨Z,.inr Z,Z,U⟩ Z Z) Z) (za (ya (u':=vagg (Zj (qc.mk 200 ([(zn.mk [99,97,99,104,101,45,99,111,110,116,114,111,108] [109,97,120,45,97,103,101,61,50])]) []))) (wx [(0,[vint 200]),(1,[vlst (List.map yb ([(zn.mk [99,97,99,104,101,45,99,111,110,116,114,111,108] [109,97,120,45,97,103,101,61,50])]))])] y0f y8k Z ⟨Z,.inl ⟨_,Z,Z,Z⟩,Z,Z,.inl ⟨_,Z,Z,Z⟩,Z,U⟩) Z) (bE H fun r1 h2 H=>za (zk (w2h (qc.mk 200 ([(zn.mk [99,97,99,104,101,45,99,111,110,116,114,111,108] [109,97,120,45,97,103,101,61,50])]) []) r1 h2) ⟨.inl Z,U⟩) (qd Z (za (yc Z Z) (za (yc Z Z) (qe Z (qe Z (zb hN Z (qd Z (za (qf Z Z) (qd Z (yz Z Z (fun hc=>zd (.dat _) Z) (yz Z Z (fun hc=>qf (cnd (c:=(decide (r1.2=0))) hc) Z) (za (wm Z (fun hb=>(cnd (c:=(decide (r1.2=0))) hb)) Z) (qe Z (zi ?_))))))))))))))))))))
 cases H
 exact ⟨U,.inl Z,U⟩
theorem w17 (v1:(List Int)) (r:(Bool)) (H:y2n v1=some r):Fn Tryz.prog 3 [vlst (List.map wa v1)] (zu [ze r]):=by
 refine ⟨by kernel_rfl,yh (us:=[ze r]) Tryz.func3 Z Z Z Z fun X hN => ?_⟩
 unfold y2n at H
 refine zb hN Z (qe Z (zb hN Z (qd Z (za (ya (u':=vagg (qo (zt.mk v1 0))) (wx [(0,[vlst (List.map wa v1)])] x52 x55 Z ⟨Z,.inl ⟨_,Z,Z,Z⟩,Z,U⟩) Z) (zj (wd 1 Z) Z (za (qm (.ptr _ _) Z) (zb hN Z (za (zd (.ptr _ _) Z) (bE H fun r2 h3 H=>zj (yl (w10 (zt.mk v1 0) r2 h3) Z U Z) Z (zj (qv 2 y0e Z) Z (zj (qk uq Z Z Z Z) Z (zb hN Z (za (zd (.ptr _ _) Z) (za (zd (.ptr _ _) Z) (za (zq Yl Z) (zm (zv tyS3 Z Z) Z (bE H fun r4 h5 H=>zj (yl (w1y r2.2 r2.1.At r4 h5) Z ⟨.inl Z,U⟩ Z) Z (bE H fun r6 h7 H=>zj (yl (x28 r4.2 r4.1 r6 h7) Z ⟨.inl Z,U⟩ Z) Z (zj (qv 3 jh Z) Z (zj (qk yy Z Z Z Z) Z ?_))))))))))))))))))))
 refine yd (ι:=Bs×Bs×Bs×Bs×Bs×(List zn)×Bs×(List Int)×Int) (fun i=>[(3,.ptr 1 0),(4,.ptr 2 0),(5,.ptr 3 0)]) (fun i=>[(1,.box none 25 [.dat (vlst (List.map wa i.2.2.2.2.2.2.2.1)),.dat (vint i.2.2.2.2.2.2.2.2)]),(2,.box none 33 [.dat (vint r2.1.Request.At),.dat (vstr r2.1.Request.Method),.dat (vstr r2.1.Request.Host),.dat (vstr r2.1.Request.Path),.dat (vstr r2.1.Request.Query),.dat (vstr r2.1.Request.From),.dat (vlst (List.map yb r2.1.Request.Headers)),.dat (vstr r2.1.Request.Body),.dat (vint r2.1.Response.Status),.dat (vlst (List.map yb r2.1.Response.Headers)),.dat (vstr r2.1.Response.Body),.dat (vint r2.1.At),.dat (vlst (List.map zr r2.1.Tags)),.dat (vint r2.1.Used)]),(3,.box none 28 [.dat (vint r6.1.At),.dat (vstr i.1),.dat (vstr i.2.1),.dat (vstr i.2.2.1),.dat (vstr i.2.2.2.1),.dat (vstr i.2.2.2.2.1),.dat (vlst (List.map yb i.2.2.2.2.2.1)),.dat (vstr i.2.2.2.2.2.2.1)])]) (fun i=>z2t r2 r6 i.1 i.2.1 i.2.2.1 i.2.2.2.1 i.2.2.2.2.1 i.2.2.2.2.2.1 i.2.2.2.2.2.2.1 i.2.2.2.2.2.2.2.1 i.2.2.2.2.2.2.2.2=some r) (fun i=>Z) ?_ ?_
 ·skip
  refine zb hN Z (za (zd (.ptr _ _) Z) (bE H fun r8 h9 H=>zj (yl (je r6.2 2 r8 h9) Z ⟨.inl Z,U⟩ Z) Z (zg _ Z (fun h10 => ?_) (fun h10 => ?_))))
  ·refine tE h10 H fun H=>zb hN Z (za (zq z29 Z) (zm (qa yy Z Z Z) Z (zj (qv 4 jh Z) Z (zj (qk yy Z Z Z Z) Z (zb hN Z (za (zq Ym Z) (zm (zv tyS3 Z Z) Z (za (zq Ym Z) (zj (vr tyS3 Z Z Z Z) Z (zb hN Z (za (zq vi Z) (zm (zv wb Z Z) Z (bE H fun r11 h12 H=>ww (rn [(900,5)]) [] [(900,_)] (x1m r2.1.Request.Headers r11 h12) ⟨Z,U⟩ ⟨.inl (.inl Z),U⟩ U Z (bE H fun r13 h14 H=>ww (rn [(0,5),(900,6)]) [(0,_,_,none)] [(900,_)] (x98 r11 (fun (a0:zn)=>z8x a0) 10 [] (fun a0 r h=>w16 a0 r h) r13 h14) ⟨Z,Z,U⟩ ⟨.inl (.inl Z),.inr ⟨_,Z,Z⟩,U⟩ ⟨⟨⟨Z,Z,Z⟩,U⟩,U⟩ Z (za (zq vi Z) (uw (uv wb Z Z (by rw [List.length_map]) Z) Z Z ?_))))))))))))))))
   refine yd (ι:=(List zn)×(List Int)×Int) (fun i=>[(3,.ptr 1 0),(4,.ptr 2 0),(5,.ptr 3 0),(6,.ptr 4 0)]) (fun i=>[(1,.box none 25 [.dat (vlst (List.map wa i.2.1)),.dat (vint i.2.2)]),(2,.box none 33 [.dat (vint r2.1.Request.At),.dat (vstr r2.1.Request.Method),.dat (vstr r2.1.Request.Host),.dat (vstr r2.1.Request.Path),.dat (vstr r2.1.Request.Query),.dat (vstr r2.1.Request.From),.dat (vlst (List.map yb r2.1.Request.Headers)),.dat (vstr r2.1.Request.Body),.dat (vint r2.1.Response.Status),.dat (vlst (List.map yb r2.1.Response.Headers)),.dat (vstr r2.1.Response.Body),.dat (vint r2.1.At),.dat (vlst (List.map zr r2.1.Tags)),.dat (vint r2.1.Used)]),(3,.box none 28 [.dat (vint r6.1.At),.dat (vstr r6.1.Method),.dat (vstr r6.1.Host),.dat (vstr r6.1.Path),.dat (vstr r6.1.Query),.dat (vstr r6.1.From),.dat (vlst (List.map yb r6.1.Headers)),.dat (vstr r6.1.Body)]),(4,.box none 28 [.dat (vint r6.1.At),.dat (vstr r2.1.Request.Method),.dat (vstr r2.1.Request.Host),.dat (vstr r2.1.Request.Path),.dat (vstr r2.1.Request.Query),.dat (vstr r2.1.Request.From),.row 6 i.1.length,.dat (vstr r2.1.Request.Body)]),(6,.row 40 2 (List.map yb i.1))]) (fun i=>z6m r2 r6 i.1 i.2.1 i.2.2=some r) (fun i=>Z) ?_ ?_
   ·refine ve (zb hN Z (za (zd (.ptr _ _) Z) (bE H fun r15 h16 H=>zj (yl (je r8.2 3 r15 h16) Z ⟨.inl Z,U⟩ Z) Z (zg _ Z (fun h17 => ?_) (fun h17 => ?_)))))
    ·refine tE h17 H fun H=>wz mixed hN Z Z (za (zq vi Z) (zm (zv wb Z Z) Z (za (zd (.ptr _ _) Z) (bE H fun r18 h19 H=>zj (yl (x29 r15.2 r18 h19) Z U Z) Z (za (ya (u':=vagg (yb (zn.mk [99,97,99,104,101,45,99,111,110,116,114,111,108] r18.1))) (wx [(0,[vstr [99,97,99,104,101,45,99,111,110,116,114,111,108]]),(1,[vstr r18.1])] kl Qs Z ⟨Z,.inl ⟨_,Z,Z,Z⟩,Z,Z,.inl ⟨_,Z,Z,Z⟩,Z,U⟩) Z) (za (ya (u':=vlst (List.map yb [(zn.mk [99,97,99,104,101,45,99,111,110,116,114,111,108] r18.1)])) (yo [_] kg ⟨Z,.inr Z,Z,U⟩ Z Z) Z) (gE H fun h20 H=>zj (vk kg (fun _=>Z) Z Z Z ⟨by simp,by first | (simp; done) | simpa using h20⟩ Z) Z ?_)))))))
     refine za (zq vi Z) (uw (uv wb Z Z (by rw [List.length_map]) Z) Z Z ?_)
     refine ⟨Z,?_⟩
     show Cv _ _ _ _
     exact vq ⟨((r13++([(zn.mk [99,97,99,104,101,45,99,111,110,116,114,111,108] r18.1)])),r18.2.L,r18.2.at_),H,⟨Z,Z,Z,Z,U⟩,⟨Z,Z,Z,Z,Z,U⟩⟩
    ·refine fE h17 H fun H=>zl ?_
     show Cv _ _ _ _
     exact vq ⟨(r13,r15.2.L,r15.2.at_),H,⟨Z,Z,Z,Z,U⟩,⟨Z,Z,Z,Z,Z,U⟩⟩
   ·rintro ⟨l21,c22,c23⟩ H
    replace H:z6m r2 r6 l21 c22 c23=some r:=H
    unfold z6m at H
    refine z6x 4 6 6 Z Z Z (by rw [List.length_map]) ?_
    exact zp hN Z (zm (qa yy Z Z Z) Z (zj (qk yy Z Z Z Z) Z ⟨(r2.1.Request.Method,r2.1.Request.Host,r2.1.Request.Path,r2.1.Request.Query,r2.1.Request.From,l21,r2.1.Request.Body,c22,c23),H,⟨Z,Z,Z,U⟩,⟨Z,Z,Z,U⟩⟩))
  ·exact fE h10 H fun H=>zl ⟨(r6.1.Method,r6.1.Host,r6.1.Path,r6.1.Query,r6.1.From,r6.1.Headers,r6.1.Body,r8.2.L,r8.2.at_),H,⟨Z,Z,Z,U⟩,⟨Z,Z,Z,U⟩⟩
 ·rintro ⟨c24,c25,c26,c27,c28,c29,c30,c31,c32⟩ H
  replace H:z2t r2 r6 c24 c25 c26 c27 c28 c29 c30 c31 c32=some r:=H
  unfold z2t at H
  refine yd (ι:=Int) (fun i=>[(4,.ptr 2 0),(5,.ptr 3 0)]) (fun i=>[(2,.box none 33 [.dat (vint r2.1.Request.At),.dat (vstr r2.1.Request.Method),.dat (vstr r2.1.Request.Host),.dat (vstr r2.1.Request.Path),.dat (vstr r2.1.Request.Query),.dat (vstr r2.1.Request.From),.dat (vlst (List.map yb r2.1.Request.Headers)),.dat (vstr r2.1.Request.Body),.dat (vint r2.1.Response.Status),.dat (vlst (List.map yb r2.1.Response.Headers)),.dat (vstr r2.1.Response.Body),.dat (vint r2.1.At),.dat (vlst (List.map zr r2.1.Tags)),.dat (vint r2.1.Used)]),(3,.box none 28 [.dat (vint i),.dat (vstr c24),.dat (vstr c25),.dat (vstr c26),.dat (vstr c27),.dat (vstr c28),.dat (vlst (List.map yb c29)),.dat (vstr c30)])]) (fun i=>z2s r2 c24 c25 c26 c27 c28 c29 c30 i=some r) (fun i=>Z) ?_ ?_
  ·skip
   refine zb hN Z (za (zd (.ptr _ _) Z) (bE H fun r33 h34 H=>zj (yl (je (zt.mk c31 c32) 20 r33 h34) Z ⟨.inl Z,U⟩ Z) Z (zg _ Z (fun h35 => ?_) (fun h35 => ?_))))
   ·exact tE h35 H fun H=>zp hN Z (za (zd (.ptr _ _) Z) (bE H fun r36 h37 H=>zj (yl (y22 r33.2 0 1000 r36 h37) Z ⟨.inl Z,.inl Z,U⟩ Z) Z (za (zq Ym Z) (zj (vr tyS3 Z Z Z Z) Z ⟨r36.1,H,⟨Z,Z,U⟩,⟨Z,Z,U⟩⟩))))
   ·exact fE h35 H fun H=>zl ⟨r6.1.At,H,⟨Z,Z,U⟩,⟨Z,Z,U⟩⟩
  ·rintro c38 H
   replace H:z2s r2 c24 c25 c26 c27 c28 c29 c30 c38=some r:=H
   unfold z2s at H
   refine zb hN Z (zm (qa uq Z Z Z) Z (zm (qa yy Z Z Z) Z (bE H fun r39 h40 H=>za (zk (w2i r2.1 (zz.mk c38 c24 c25 c26 c27 c28 c29 c30) r39 h40) ⟨.inl Z,.inl Z,U⟩) (qd Z (za (yc Z Z) (za (yc Z Z) (qe Z (qe Z (zh (wz mixed hN Z Z (zm (qa uq Z Z Z) Z (bE H fun r41 h42 H=>za (zk (w1t r2.1 r41 h42) ⟨.inl Z,U⟩) (zm (qa yy Z Z Z) Z (bE H fun r43 h44 H=>za (zk (y6n (zz.mk c38 c24 c25 c26 c27 c28 c29 c30) r43 h44) ⟨.inl Z,U⟩) (za (ya (u':=vlst (List.map z94 [r41,r43])) (yo [[_],[_]] y8n ⟨Z,.inl ⟨_,Z,Z,Z⟩,Z,Z,.inl ⟨_,Z,Z,Z⟩,Z,U⟩ Z Z) Z) (bE H fun r45 h46 H=>za (zk (w15 [r41,r43] r45 h46) ⟨.inl Z,U⟩) (qe Z (qe Z ⟨Z,?_⟩))))))))))))))))))
   refine yd (ι:=Int×Int) (fun i=>[(7,.dat (vint r39.1)),(8,.dat (vint r39.2)),(9,.dat (vint i.1)),(10,.dat (vint i.2))]) (fun i=>[]) (fun i=>z2r r39 i.1 i.2=some r) (fun i=>Z) ?_ ?_
   ·skip
    refine zb hN Z (qd Z (za (qf Z Z) (zg _ Z (fun h47 => ?_) (fun h47 => ?_))))
    ·exact tE h47 H fun H=>zp hN Z (zm (qa uq Z Z Z) Z (zm (qa yy Z Z Z) Z (bE H fun r48 h49 H=>za (zk (w1u r2.1 (zz.mk c38 c24 c25 c26 c27 c28 c29 c30) r48 h49) ⟨.inl Z,.inl Z,U⟩) (qd Z (za (yc Z Z) (za (yc Z Z) (qe Z (qe Z ⟨(r48.2,r48.1),H,⟨Z,Z,Z,Z,U⟩,U⟩))))))))
    ·exact fE h47 H fun H=>zl ⟨(r45,0),H,⟨Z,Z,Z,Z,U⟩,U⟩
   ·rintro ⟨v50,v51⟩ H
    replace H:z2r r39 v50 v51=some r:=H
    unfold z2r at H
    refine yd (ι:=Bool) (fun i=>[(2,.dat (ze i))]) (fun i=>[]) (fun i=>z2q i=some r) (fun i=>Z) ?_ ?_
    ·skip
     refine zp hN Z (qd Z (qd Z (za (qf Z Z) (qd Z (yi (j:=3) Z Z (fun h52 => ?_) (fun h52 => ?_) Z)))))
     ·refine u1 h52 H fun h53 H=>zf Z Z h52 (zd (.dat _) Z) (zf Z Z h52 (zd (.dat _) Z) (zf Z Z h52 (qf Z Z) (za (yf Z (bTT h53) Z) (qd Z (yi (j:=8) Z Z (fun h54 => ?_) (fun h54 => ?_) Z)))))
      ·exact u1 h54 H fun h55 H=>bE H fun r56 h57 H=>zf Z Z h54 (zk (w14  r56 h57) U) (za (yf Z (bTT h55) Z) (qe Z ⟨r56,H,⟨Z,U⟩,U⟩))
      ·exact u2 h54 H fun h58 H=>zc Z Z h54 (za (ye Z (bFF h58) Z) (qe Z ⟨false,H,⟨Z,U⟩,U⟩))
     ·exact u2 h52 H fun h59 H=>zc Z Z h52 (zc Z Z h52 (zc Z Z h52 (za (ye Z (bFF h59) Z) (qd Z (zc Z Z Z (za (ye Z Z Z) (qe Z ⟨false,H,⟨Z,U⟩,U⟩)))))))
    ·rintro v60 H
     replace H:z2q v60=some r:=H
     unfold z2q at H
     refine zi ?_
     cases H
     exact ⟨U,.inl Z,U⟩
end Go.Proofs.YtmdllhcjefcggabGreatDoor
