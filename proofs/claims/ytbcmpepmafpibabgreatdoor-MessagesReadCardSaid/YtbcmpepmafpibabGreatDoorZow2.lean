/- Walks along the models. Printed by a program. -/
import Derived.Test.YtbcmpepmafpibabGreatDoorZow1
namespace Go.Proofs.YtbcmpepmafpibabGreatDoor
open Go.RowKit
set_option linter.unusedVariables false
set_option maxRecDepth 100000
set_option maxHeartbeats 2000000
theorem z3z (s1:Bs) (cutset2:Bs) (r:(Bs)) (H:uw s1 cutset2=some r):Fn Tryz.prog 62 [vstr s1,vstr cutset2] (zp [vstr r]):=by
 refine ⟨by kernel_rfl,zy (us:=[vstr r]) Tryz.func62 Z Z Z Z fun X hN => ?_⟩
 unfold uw at H
 refine zc hN Z (qe Z (zh (zc hN Z (qd Z (za (qy Z Z) (qd Z (yz Z Z (fun hc=>ze (.dat _) Z) (yz Z Z (fun hc=>qy (cnd (c:=(!(decide (s1=[])))) hc) Z) (za (vk Z Z (fun hb=>(cnd (c:=(!(decide (s1=[])))) (notI hb)))) (zi _ Z (fun h3 => ?_) (fun h3 => ?_)))))))))))
 ·refine tE h3 H fun H=>zc hN Z (qd Z (qe Z (zg ?_)))
  cases H
  exact ⟨U,.inl Z,U⟩
 ·refine fE h3 H fun H=>zn (zh (zz (ι:=Bool) (fun i=>[(0,.dat (vstr s1)),(1,.dat (vstr cutset2)),(21,.dat (zf i))]) (fun i=>[]) (fun i=>Wn s1 cutset2 i=some r) (fun i=>Z) ?_ ?_))
  ·skip
   refine zq hN Z (qd Z (za (yi tyU9 Z) (za (yp Z Z) (qd Z (zu (j:=3) Z Z (fun h4 => ?_) (fun h4 => ?_) Z)))))
   ·exact u1 h4 H fun h5 H=>zd Z Z h4 (ze (.dat _) Z) (bE H fun x6 h7 H=>zd Z Z h4 (qh tyU9 Z Z h7) (zd Z Z h4 (yg Z Z) (za (zm Z (bTT h5) Z) ⟨decide ((x6.toNat:Int) < 128),H,⟨Z,Z,Z,U⟩,U⟩)))
   ·exact u2 h4 H fun h8 H=>zb Z Z h4 (zb Z Z h4 (zb Z Z h4 (za (zl Z (bFF h8) Z) ⟨false,H,⟨Z,Z,Z,U⟩,U⟩)))
  ·rintro v9 H
   replace H:Wn s1 cutset2 v9=some r:=H
   unfold Wn at H
   refine zi _ Z (fun h10 => ?_) (fun h10 => ?_)
   ·refine tE h10 H fun H=>zh (wz mixed hN Z Z (qd Z (qd Z (bE H fun x11 h12 H=>za (qh tyU9 Z Z h12) (bE H fun r13 h14 H=>za (zj (y77 s1 (x11.toNat:Int) r13 h14) ⟨.inl Z,.inl Z,U⟩) (qd Z (za (qh tyU9 Z Z h12) (bE H fun r15 h16 H=>za (zj (y78 r13 (x11.toNat:Int) r15 h16) ⟨.inl Z,.inl Z,U⟩) (qe Z ⟨Z,?_⟩)))))))))
    refine zg ?_
    cases H
    exact ⟨U,.inl Z,U⟩
   ·refine fE h10 H fun H=>?_
    cases H
theorem z8w (c1:Int) (r:(Bool)) (H:z2v c1=some r):Fn Tryz.prog 163 [vval (.int .u8 c1)] (zp [zf r]):=by
 refine ⟨by kernel_rfl,zy (us:=[zf r]) Tryz.func163 Z Z Z Z fun X hN => ?_⟩
 unfold z2v at H
 refine zc hN Z (qe Z (zc hN Z (qd Z (za (wx Z Z) (qd Z (qg Z Z (fun hc=>ze (.dat _) Z) (qg Z Z (fun hc=>we (cnd (c:=(decide (97≤c1))) hc) Z) (za (wu Z (fun hb=>(cnd (c:=(decide (97≤c1))) hb)) Z) (qd Z (yz Z Z (fun hc=>ze (.dat _) Z) (yz Z Z (fun hc=>wx (cnd (c:=(!((decide (97≤c1)) && (decide (c1≤122))))) hc) Z) (yz Z Z (fun hc=>ze (.dat _) (cnd (c:=(!((decide (97≤c1)) && (decide (c1≤122))))) hc)) (ji Z Z (fun hc=>ze (.dat _) Z) (ji Z Z (fun hc=>we (cnd (c:=((!((decide (97≤c1)) && (decide (c1≤122)))) && (decide (65≤c1)))) hc) Z) (yz Z Z (fun hc=>wu (cnd (c:=(!((decide (97≤c1)) && (decide (c1≤122))))) hc) (fun hb=>(cnd (c:=((!((decide (97≤c1)) && (decide (c1≤122)))) && (decide (65≤c1)))) (andI hc hb))) Z) (za (vk Z Z (fun hb=>(cnd (c:=(!((decide (97≤c1)) && (decide (c1≤122))))) (notI hb)))) (qe Z (zg ?_))))))))))))))))))
 cases H
 exact ⟨U,.inl Z,U⟩
theorem z6i (c1:Int) (r:(Bool)) (H:z0j c1=some r):Fn Tryz.prog 164 [vval (.int .u8 c1)] (zp [zf r]):=by
 refine ⟨by kernel_rfl,zy (us:=[zf r]) Tryz.func164 Z Z Z Z fun X hN => ?_⟩
 unfold z0j at H
 refine zc hN Z (qe Z (zc hN Z (qd Z (za (wx Z Z) (qd Z (qg Z Z (fun hc=>ze (.dat _) Z) (qg Z Z (fun hc=>we (cnd (c:=(decide (48≤c1))) hc) Z) (za (wu Z (fun hb=>(cnd (c:=(decide (48≤c1))) hb)) Z) (qe Z (zg ?_))))))))))
 cases H
 exact ⟨U,.inl Z,U⟩
theorem z8t (l:Bs) (c r:Int) (H:z2m l c=some r):Fn Tryz.prog 97 [vstr l,vval (.int .u8 c)] (zp [vint r]):=by
 cases H
 refine z9j (by kernel_rfl) fun M w vs h => ?_
 have h1:=vu (us:=[.string ⟨l.toArray⟩,.int .u8 c]) h
 subst h1
 refine (Tryz.strings_IndexByte ⟨l.toArray⟩ c w).mono ?_
 rintro e w' ⟨rfl,rfl⟩
 exact ⟨_,Z,Z,Kp.refl _ _⟩
theorem y8s (c1:Int) (r:(Bool)) (H:z2u c1=some r):Fn Tryz.prog 125 [vval (.int .u8 c1)] (zp [zf r]):=by
 refine ⟨by kernel_rfl,zy (us:=[zf r]) Tryz.func125 Z Z Z Z fun X hN => ?_⟩
 unfold z2u at H
 refine zc hN Z (qe Z (zz (ι:=Bool) (fun i=>[(2,.dat (zf i))]) (fun i=>[]) (fun i=>Wu i=some r) (fun i=>Z) ?_ ?_))
 ·skip
  refine zq hN Z (qd Z (bE H fun r2 h3 H=>za (zj (z8w c1 r2 h3) ⟨.inl Z,U⟩) (qd Z (zu (j:=2) Z Z (fun h4 => ?_) (fun h4 => ?_) Z))))
  ·refine u3 h4 H fun h5 H=>zd Z Z h4 (ze (.dat _) Z) (bE H fun r6 h7 H=>zd Z Z h4 (zj (z6i c1 r6 h7) ⟨.inl Z,U⟩) (za (zl Z (bFF h5) Z) (qd Z (zu (j:=6) Z Z (fun h8 => ?_) (fun h8 => ?_) Z))))
   ·exact u3 h8 H fun h9 H=>zd Z Z h8 (ze (.dat _) Z) (bE H fun r10 h11 H=>zd Z Z h8 (zj (z8t [33,35,36,37,38,39,42,43,45,46,94,95,96,124,126] c1 r10 h11) ⟨.inl Z,.inl Z,U⟩) (zd Z Z h8 (wx Z Z) (za (zl Z (bFF h9) Z) (qe Z ⟨decide (0≤r10),H,⟨Z,U⟩,U⟩))))
   ·exact u4 h8 H fun h12 H=>zb Z Z h8 (zb Z Z h8 (zb Z Z h8 (za (zm Z (bTT h12) Z) (qe Z ⟨true,H,⟨Z,U⟩,U⟩))))
  ·exact u4 h4 H fun h13 H=>zb Z Z h4 (zb Z Z h4 (za (zm Z (bTT h13) Z) (qd Z (zb Z Z Z (zb Z Z Z (zb Z Z Z (za (zm Z Z Z) (qe Z ⟨true,H,⟨Z,U⟩,U⟩))))))))
 ·rintro v14 H
  replace H:Wu v14=some r:=H
  unfold Wu at H
  refine zg ?_
  cases H
  exact ⟨U,.inl Z,U⟩
theorem z8x (s1:Bs) (r:(Bool)) (H:Yp s1=some r):Fn Tryz.prog 63 [vstr s1] (zp [zf r]):=by
 refine ⟨by kernel_rfl,zy (us:=[zf r]) Tryz.func63 Z Z Z Z fun X hN => ?_⟩
 unfold Yp at H
 refine zc hN Z (qe Z (zh (zc hN Z (qd Z (za (yi tyU9 Z) (qd Z (yc (gE H fun h4 H=>ve (fun (k2:Nat) (s:Unit)=>[(0,.dat (vstr s1)),(5,.dat (vint (s1.length:Int))),(6,.dat (vint (k2:Int)))]) (fun (k2:Nat) (s:Unit)=>[]) () H ⟨Z,Z,Z,U⟩ U (fun _ _=>Z) ?_ ?_))))))))
 ·rintro ⟨⟩ H
  replace H:z8e s1=some r:=H
  unfold z8e at H
  refine zc hN Z (za (yg Z Z) (zh (zi _ Z (fun h=>(lt_t h).elim) (fun h => ?_))))
  refine qj (zc hN Z (qd Z (za (vc Z Z) (qd Z (qg Z Z (fun hc=>ze (.dat _) Z) (qg Z Z (fun hc=>yi tyU9 (cnd (c:=(decide (s1≠[]))) hc)) (qg Z Z (fun hc=>we (cnd (c:=(decide (s1≠[]))) hc) Z) (za (wu Z (fun hb=>(cnd (c:=(decide (s1≠[]))) hb)) Z) (qe Z (zg ?_))))))))))
  cases H
  exact ⟨U,.inl Z,U⟩
 ·rintro k2 x5 ⟨⟩ q3 h6 h7 H hq3
  replace H:z5q k2 x5=some q3:=H
  unfold z5q at H
  refine zc hN Z (za (yg Z Z) (zh (zi _ Z (fun h => ?_) (fun h=>(lt_f h6 h).elim))))
  refine zn (zh (yc (zc hN Z (qd Z (qe Z (zc hN Z (qd Z (qd Z (za (qh tyU9 Z Z h7) (bE H fun r8 h9 H=>za (zj (y8s (x5.toNat:Int) r8 h9) ⟨.inl Z,U⟩) (za (yk Z) (zi _ Z (fun h10 => ?_) (fun h10 => ?_)))))))))))))
  ·refine tE h10 H fun H=>zc hN Z (qe Z (zg ?_))
   replace H:=retl H hq3
   cases H
   exact ⟨U,.inl Z,U⟩
  ·exact fE h10 H fun H=>zn (zq hN Z (za (wy Z Z (by omega)) (qd Z ⟨_,qr H,⟨Z,Z,Z,U⟩,U⟩)))
theorem z6g (s1:Bs) (low2:Int) (high3:Int) (r:(Bool)) (H:ux s1 low2 high3=some r):Fn Tryz.prog 94 [vstr s1,vval (.int .u8 low2),vval (.int .u8 high3)] (zp [zf r]):=by
 refine ⟨by kernel_rfl,zy (us:=[zf r]) Tryz.func94 Z Z Z Z fun X hN => ?_⟩
 unfold ux at H
 refine zc hN Z (qe Z (zh (zc hN Z (qd Z (za (yi tyU9 Z) (qd Z (yc (gE H fun h6 H=>ve (fun (k4:Nat) (s:Unit)=>[(0,.dat (vstr s1)),(1,.dat (vval (.int .u8 low2))),(2,.dat (vval (.int .u8 high3))),(9,.dat (vint (s1.length:Int))),(10,.dat (vint (k4:Int)))]) (fun (k4:Nat) (s:Unit)=>[]) () H ⟨Z,Z,Z,Z,Z,U⟩ U (fun _ _=>Z) ?_ ?_))))))))
 ·rintro ⟨⟩ H
  replace H:z5l=some r:=H
  unfold z5l at H
  refine zc hN Z (za (yg Z Z) (zh (zi _ Z (fun h=>(lt_t h).elim) (fun h => ?_))))
  refine qj (zc hN Z (qe Z (zg ?_)))
  cases H
  exact ⟨U,.inl Z,U⟩
 ·rintro k4 x7 ⟨⟩ q5 h8 h9 H hq5
  replace H:z5k low2 high3 k4 x7=some q5:=H
  unfold z5k at H
  refine zc hN Z (za (yg Z Z) (zh (zi _ Z (fun h => ?_) (fun h=>(lt_f h8 h).elim))))
  refine zn (zh (yc (zc hN Z (qd Z (qe Z (zz (ι:=Bool) (fun i=>[(0,.dat (vstr s1)),(1,.dat (vval (.int .u8 low2))),(2,.dat (vval (.int .u8 high3))),(9,.dat (vint (s1.length:Int))),(10,.dat (vint (k4:Int))),(24,.dat (zf i))]) (fun i=>[]) (fun i=>Wv i=some q5) (fun i=>Z) ?_ ?_))))))
  ·skip
   refine zq hN Z (qd Z (qd Z (za (qh tyU9 Z Z h9) (qd Z (za (yg Z Z) (qd Z (zu (j:=5) Z Z (fun h10 => ?_) (fun h10 => ?_) Z)))))))
   ·exact u3 h10 H fun h11 H=>zd Z Z h10 (ze (.dat _) Z) (zd Z Z h10 (ze (.dat _) Z) (zd Z Z h10 (qh tyU9 Z Z h9) (zd Z Z h10 (ze (.dat _) Z) (zd Z Z h10 (qb Z Z) (za (zl Z (bFF h11) Z) ⟨decide (high3 < (x7.toNat:Int)),H,⟨Z,Z,Z,Z,Z,Z,U⟩,U⟩)))))
   ·exact u4 h10 H fun h12 H=>zb Z Z h10 (zb Z Z h10 (zb Z Z h10 (zb Z Z h10 (zb Z Z h10 (za (zm Z (bTT h12) Z) ⟨true,H,⟨Z,Z,Z,Z,Z,Z,U⟩,U⟩)))))
  ·rintro v13 H
   replace H:Wv v13=some q5:=H
   unfold Wv at H
   refine zi _ Z (fun h14 => ?_) (fun h14 => ?_)
   ·refine tE h14 H fun H=>zc hN Z (qe Z (zg ?_))
    replace H:=retl H hq5
    cases H
    exact ⟨U,.inl Z,U⟩
   ·exact fE h14 H fun H=>zn (zq hN Z (za (wy Z Z (by omega)) (qd Z ⟨_,qr H,⟨Z,Z,Z,Z,Z,U⟩,U⟩)))
theorem z8y (s1:Bs) (r:(Bool)) (H:Zc s1=some r):Fn Tryz.prog 64 [vstr s1] (zp [zf r]):=by
 refine ⟨by kernel_rfl,zy (us:=[zf r]) Tryz.func64 Z Z Z Z fun X hN => ?_⟩
 unfold Zc at H
 refine zc hN Z (qe Z (zz (ι:=Bool) (fun i=>[(2,.dat (zf i))]) (fun i=>[]) (fun i=>Yi i=some r) (fun i=>Z) ?_ ?_))
 ·skip
  refine zq hN Z (qd Z (za (yi tyU9 Z) (za (we Z Z) (qd Z (zu (j:=3) Z Z (fun h2 => ?_) (fun h2 => ?_) Z)))))
  ·refine u1 h2 H fun h3 H=>zd Z Z h2 (ze (.dat _) Z) (bE H fun r4 h5 H=>zd Z Z h2 (zj (z6g s1 32 126 r4 h5) ⟨.inl Z,.inl Z,.inl Z,U⟩) (za (zm Z (bTT h3) Z) (qd Z (zu (j:=7) Z Z (fun h6 => ?_) (fun h6 => ?_) Z))))
   ·exact u1 h6 H fun h7 H=>zd Z Z h6 (ze (.dat _) Z) (bE H fun r8 h9 H=>zd Z Z h6 (zj (z3z s1 [32] r8 h9) ⟨.inl Z,.inl Z,U⟩) (zd Z Z h6 (ze (.dat _) Z) (zd Z Z h6 (qy Z Z) (za (zm Z (bTT h7) Z) (qe Z ⟨decide (r8=s1),H,⟨Z,U⟩,U⟩)))))
   ·exact u2 h6 H fun h10 H=>zb Z Z h6 (zb Z Z h6 (zb Z Z h6 (zb Z Z h6 (za (zl Z (bFF h10) Z) (qe Z ⟨false,H,⟨Z,U⟩,U⟩)))))
  ·exact u2 h2 H fun h11 H=>zb Z Z h2 (zb Z Z h2 (za (zl Z (bFF h11) Z) (qd Z (zb Z Z Z (zb Z Z Z (zb Z Z Z (zb Z Z Z (za (zl Z Z Z) (qe Z ⟨false,H,⟨Z,U⟩,U⟩)))))))))
 ·rintro v12 H
  replace H:Yi v12=some r:=H
  unfold Yi at H
  refine zg ?_
  cases H
  exact ⟨U,.inl Z,U⟩
theorem y2i (v1:Bs) (r:(wq×Bool)) (H:Za v1=some r):Fn Tryz.prog 25 [vstr v1] (zp [vagg (z1o r.1),zf r.2]):=by
 refine ⟨by kernel_rfl,zy (us:=[vagg (z1o r.1),zf r.2]) Tryz.func25 Z Z Z Z fun X hN => ?_⟩
 unfold Za at H
 refine zc hN Z (zo (qm 1 z4r Z) Z (qe Z (zc hN Z (zo (qm 2 z4r Z) Z (zc hN Z (qe Z (yc (z66 2 1 3 91 2 Z Z Z Z (ki (fun (s:Int×(List zk)×Bs×Int)=>[(0,.dat (vstr v1)),(2,.ptr 1 0),(4,.ptr 2 0),(5,.dat (vint s.1))]) (fun (s:Int×(List zk)×Bs×Int)=>[(1,.box none 57 [.dat (vstr []),.dat (vnil),.dat (vint 0)]),(2,.box none 57 [.dat (vstr s.2.2.1),.row 3 s.2.1.length,.dat (vint s.2.2.2)]),(3,.row 91 2 (List.map yb s.2.1))]) (0,([]:List zk),[],0) H ⟨Z,Z,Z,Z,U⟩ ⟨Z,(congrArg (fun n=>some (some (AObj.box none 57 [.dat (vstr []),.row 3 n,.dat (vint 0)]))) (show 0=([]:List zk).length from (by simp))),Z,U⟩ (fun _=>Z) ?_)))))))))
 rintro ⟨v2,l3,c4,c5⟩ q6 H hq6
 replace H:jj v1 v2 l3 c4 c5=some q6:=H
 unfold jj at H
 refine vt (zz (ι:=(List zk)×Bs×Int) (fun i=>[(0,.dat (vstr v1)),(2,.ptr 1 0),(4,.ptr 2 0),(5,.dat (vint v2))]) (fun i=>[(1,.box none 57 [.dat (vstr []),.dat (vnil),.dat (vint 0)]),(2,.box none 57 [.dat (vstr i.2.1),.row 3 i.1.length,.dat (vint i.2.2)]),(3,.row 91 2 (List.map yb i.1))]) (fun i=>Ws v2 i.1 i.2.1 i.2.2=some q6) (fun i=>Z) ?_ ?_)
 ·refine vt (yc (zc hN Z (qd Z (za (zv z1u Z) (zr (zx tyS3 Z Z) Z (bE H fun l7 h8 H=>za (qf tyU9 Z Z Z h8) (bE H fun r9 h10 H=>za (zj (kf l7 [13,10] r9 h10) ⟨.inl Z,.inl Z,U⟩) (qd Z (za (zt Z Z) (za (zt Z Z) (za (zt Z Z) (qe Z (qe Z (qe Z (zh (zc hN Z (qd Z (za (yk Z) (zi _ Z (fun h11 => ?_) (fun h11 => ?_))))))))))))))))))))
  ·refine tE h11 H fun H=>zh (z1k 2 1 3 Z Z Z (by rw [List.length_map]) ?_)
   refine zq hN Z (zr (qa js Z Z Z) Z (zo (yq js Z Z Z Z) Z (qe Z (zg ?_))))
   replace H:=retl H hq6
   cases H
   show Cv _ _ _ _
   refine qv ?_
   show Cv _ _ _ _
   exact qv ⟨U,.inl ⟨_,_,_,z1o (wq.mk c4 l3 c5),Z,Z,Z,Z,js⟩,.inl Z,U⟩
  ·refine fE h11 H fun H=>zn (zc hN Z (za (zv z1u Z) (zr (zx tyS3 Z Z) Z (qd Z (za (yi tyU9 Z) (za (yf _ Z Z (.inl ⟨Z,Z⟩)) (za (yf _ Z Z (.inl ⟨Z,Z⟩)) (za (zv z1u Z) (zo (ur tyS3 Z Z Z Z) Z (zh (yc (zc hN Z (qd Z (za (yp Z Z) (qe Z (zi _ Z (fun h12 => ?_) (fun h12 => ?_)))))))))))))))))
   ·refine tE h12 H fun H=>zc hN Z (qd Z (za (zv z7h Z) (zo (ur tyS9 Z Z Z Z) Z (qj ?_))))
    show Cv _ _ _ _
    exact qv ⟨(l3,r9.1,wr (c5+(wr ((r9.1.length:Int)+2)))),H,⟨Z,Z,Z,Z,U⟩,⟨Z,Z,Z,U⟩⟩
   ·refine fE h12 H fun H=>zc hN Z (qd Z (za (qy Z Z) (qe Z (zi _ Z (fun h13 => ?_) (fun h13 => ?_)))))
    ·refine tE h13 H fun H=>zh (z1k 2 1 3 Z Z Z (by rw [List.length_map]) ?_)
     refine zq hN Z (zr (qa js Z Z Z) Z (zo (yq js Z Z Z Z) Z (qe Z (zg ?_))))
     replace H:=retl H hq6
     cases H
     show Cv _ _ _ _
     refine qv ?_
     show Cv _ _ _ _
     exact qv ⟨U,.inl ⟨_,_,_,z1o (wq.mk c4 l3 (wr (c5+(wr ((r9.1.length:Int)+2))))),Z,Z,Z,Z,js⟩,.inl Z,U⟩
    ·refine fE h13 H fun H=>zn (zc hN Z (qd Z (bE H fun r14 h15 H=>za (zj (kf r9.1 [58] r14 h15) ⟨.inl Z,.inl Z,U⟩) (qd Z (za (zt Z Z) (za (zt Z Z) (za (zt Z Z) (qe Z (qe Z (qe Z (zc hN Z (qd Z (bE H fun r16 h17 H=>za (zj (z3z r14.2.1 [32] r16 h17) ⟨.inl Z,.inl Z,U⟩) (qe Z (zh (zz (ι:=Bool) (fun i=>[(0,.dat (vstr v1)),(2,.ptr 1 0),(4,.ptr 2 0),(5,.dat (vint v2)),(9,.dat (vstr r14.1)),(10,.dat (vstr r16)),(60,.dat (zf i))]) (fun i=>[(1,.box none 57 [.dat (vstr []),.dat (vnil),.dat (vint 0)]),(2,.box none 57 [.dat (vstr c4),.row 3 l3.length,.dat (vint (wr (c5+(wr ((r9.1.length:Int)+2)))))]),(3,.row 91 2 (List.map yb l3))]) (fun i=>Yf v2 l3 c4 c5 r9 r14 r16 i=some q6) (fun i=>Z) ?_ ?_))))))))))))))))
     ·refine vt (zq hN Z (qd Z (za (yk Z) (qd Z (zu (j:=2) Z Z (fun h18 => ?_) (fun h18 => ?_) Z)))))
      ·refine u3 h18 H fun h19 H=>zd Z Z h18 (ze (.dat _) Z) (bE H fun r20 h21 H=>zd Z Z h18 (zj (z8x r14.1 r20 h21) ⟨.inl Z,U⟩) (zd Z Z h18 (yk Z) (za (zl Z (bFF h19) Z) (qd Z (zu (j:=7) Z Z (fun h22 => ?_) (fun h22 => ?_) Z)))))
       ·refine u3 h22 H fun h23 H=>zd Z Z h22 (ze (.dat _) Z) (bE H fun r24 h25 H=>zd Z Z h22 (zj (z8y r16 r24 h25) ⟨.inl Z,U⟩) (zd Z Z h22 (yk Z) (za (zl Z (bFF h23) Z) (vi ?_))))
        show Cv _ _ _ _
        exact qv ⟨!r24,H,⟨Z,Z,Z,Z,Z,Z,Z,U⟩,⟨Z,Z,Z,U⟩⟩
       ·refine u4 h22 H fun h26 H=>zb Z Z h22 (zb Z Z h22 (zb Z Z h22 (za (zm Z (bTT h26) Z) (vi ?_))))
        show Cv _ _ _ _
        exact qv ⟨true,H,⟨Z,Z,Z,Z,Z,Z,Z,U⟩,⟨Z,Z,Z,U⟩⟩
      ·refine u4 h18 H fun h27 H=>zb Z Z h18 (zb Z Z h18 (zb Z Z h18 (za (zm Z (bTT h27) Z) (qd Z (zb Z Z Z (zb Z Z Z (zb Z Z Z (za (zm Z Z Z) (vi ?_)))))))))
       show Cv _ _ _ _
       exact qv ⟨true,H,⟨Z,Z,Z,Z,Z,Z,Z,U⟩,⟨Z,Z,Z,U⟩⟩
     ·rintro v28 H
      replace H:Yf v2 l3 c4 c5 r9 r14 r16 v28=some q6:=H
      unfold Yf at H
      refine zi _ Z (fun h29 => ?_) (fun h29 => ?_)
      ·refine tE h29 H fun H=>zh (z1k 2 1 3 Z Z Z (by rw [List.length_map]) ?_)
       refine zq hN Z (zr (qa js Z Z Z) Z (zo (yq js Z Z Z Z) Z (qe Z (zg ?_))))
       replace H:=retl H hq6
       cases H
       show Cv _ _ _ _
       refine qv ?_
       show Cv _ _ _ _
       exact qv ⟨U,.inl ⟨_,_,_,z1o (wq.mk c4 l3 (wr (c5+(wr ((r9.1.length:Int)+2))))),Z,Z,Z,Z,js⟩,.inl Z,U⟩
      ·refine fE h29 H fun H=>zn (zq hN Z (za (zv xi Z) (zr (zx qw Z Z) Z (qd Z (qd Z (za (yo (u':=vagg (yb (zk.mk r14.1 r16))) (va [(0,[vstr r14.1]),(1,[vstr r16])] ky z7e Z ⟨Z,.inl ⟨_,Z,Z,Z⟩,Z,Z,.inl ⟨_,Z,Z,Z⟩,Z,U⟩) Z) (za (yo (u':=vlst (List.map yb [(zk.mk r14.1 r16)])) (wc [_] xh ⟨Z,.inr Z,Z,U⟩ Z Z) Z) (gE H fun h30 H=>zo (xj xh (fun _=>Z) Z Z Z ⟨by simp,by first | (simp; done) | simpa using h30⟩ Z) Z ?_))))))))
       refine za (zv xi Z) (z5b (z42 qw Z Z (by rw [List.length_map]) Z) Z Z ?_)
       refine vi ?_
       show Cv _ _ _ _
       exact qv ⟨((l3++[(zk.mk r14.1 r16)]),c4,wr (c5+(wr ((r9.1.length:Int)+2)))),H,⟨Z,Z,Z,Z,U⟩,⟨Z,Z,Z,U⟩⟩
 ·rintro ⟨l31,c32,c33⟩ H
  replace H:Ws v2 l31 c32 c33=some q6:=H
  unfold Ws at H
  refine zq hN Z (qd Z (za (yf _ Z Z (.inl ⟨Z,Z⟩)) (qe Z (vi ?_))))
  show Cv _ _ _ _
  exact qv ⟨_,qr H,⟨Z,Z,Z,Z,U⟩,⟨Z,Z,Z,U⟩⟩
theorem y74 (s sep:Bs) (r:List Bs) (H:vw s sep=some r):FnG Tryz.prog 32 [.dat (vstr s),.dat (vstr sep)] [] (.row 900 r.length) [(900,.row 9 1 (List.map ye r))]:=by
 obtain ⟨h1,h2,rfl⟩:=y55 H
 have hlen:=Lib.splitB_all ⟨sep.toArray⟩ (by simpa [ByteArray.size] using h2) 0 _ ⟨s.toArray⟩ Z
 have hle:=Lib.countB_le ⟨sep.toArray⟩ (by simpa [ByteArray.size] using h2) _ ⟨s.toArray⟩ (Nat.le_refl _)
 refine x0u (args:=[vstr s,vstr sep]) (ua s sep) (by kernel_rfl) (fun M w vs hM hvs => ?_) ?_
 ·have hv:=vu (us:=[.string ⟨s.toArray⟩,.string ⟨sep.toArray⟩]) hvs
  subst hv
  obtain ⟨m,hm⟩:=z2k hM
  refine (Tryz.strings_Split ⟨s.toArray⟩ ⟨sep.toArray⟩ m w (by simp [ByteArray.size]; omega) hm (by simpa [ByteArray.size] using h2)).mono ?_
  rintro e w' ⟨rfl,rfl⟩
  have e1:(ua s sep).length=Lib.countB ⟨s.toArray⟩ ⟨sep.toArray⟩+1:=by unfold ua; rw [List.length_map,hlen]
  have e2:((ua s sep).map fun s=>Value.string ⟨s.toArray⟩)=(Lib.splitB ⟨sep.toArray⟩ 0 (Lib.countB ⟨s.toArray⟩ ⟨sep.toArray⟩) ⟨s.toArray⟩).map Value.string:=by
   unfold ua
   rw [List.map_map]
   exact List.map_congr_left fun b _=>by simp
  rw [e1,e2]
  exact ⟨Z,Z⟩
 ·unfold ua maxLen
  rw [List.length_map,hlen]
  have hsz:(ByteArray.mk s.toArray).size=s.length:=by simp [ByteArray.size]
  rw [hsz] at hle
  omega
theorem z30 (s sep:Bs) (r:List Bs) (H:vw s sep=some r):Fn Tryz.prog 32 [vstr s,vstr sep] (zp [vlst (List.map ye r)]):=by
 have h:=y74 s sep r H
 rw [← List.length_map (f:=ye)] at h
 exact x0t h
theorem y8g (s1:(List Bs)) (v2:Bs) (r:(Int)) (H:z5y s1 v2=some r):Fn Tryz.prog 80 [vlst (List.map ye s1),vstr v2] (zp [vint r]):=by
 refine ⟨by kernel_rfl,zy (us:=[vint r]) Tryz.func80 Z Z Z Z fun X hN => ?_⟩
 unfold z5y at H
 refine zc hN Z (qe Z (zh (zc hN Z (qd Z (za (yw wb Z) (qd Z (yc (gE H fun h5 H=>ve (fun (k3:Nat) (s:Unit)=>[(0,.dat (vlst (List.map ye s1))),(1,.dat (vstr v2)),(7,.dat (vint (s1.length:Int))),(8,.dat (vint (k3:Int)))]) (fun (k3:Nat) (s:Unit)=>[]) () H ⟨Z,Z,Z,Z,U⟩ U (fun _ _=>Z) ?_ ?_))))))))
 ·rintro ⟨⟩ H
  replace H:z7w=some r:=H
  unfold z7w at H
  refine zc hN Z (za (yg Z Z) (zh (zi _ Z (fun h=>(lt_t h).elim) (fun h => ?_))))
  refine qj (zc hN Z (qe Z (zg ?_)))
  cases H
  exact ⟨U,.inl Z,U⟩
 ·rintro k3 x6 ⟨⟩ q4 h7 h8 H hq4
  replace H:z7v v2 k3 x6=some q4:=H
  unfold z7v at H
  refine zc hN Z (za (yg Z Z) (zh (zi _ Z (fun h => ?_) (fun h=>(lt_f h7 h).elim))))
  refine zn (zh (yc (zc hN Z (qd Z (qe Z (zc hN Z (qd Z (qd Z (qd Z (za (qx ww (fun _=>Z) Z Z h8) (za (wa tyS9 Z (qq h8) Z) (za (qy Z Z) (zi _ Z (fun h9 => ?_) (fun h9 => ?_))))))))))))))
  ·refine tE h9 H fun H=>zc hN Z (qd Z (qe Z (zg ?_)))
   replace H:=retl H hq4
   cases H
   exact ⟨U,.inl Z,U⟩
  ·exact fE h9 H fun H=>zn (zq hN Z (za (wy Z Z (by omega)) (qd Z ⟨_,qr H,⟨Z,Z,Z,Z,U⟩,U⟩)))
theorem y2h (s1:(List Bs)) (v2:Bs) (r:(Bool)) (H:Yl s1 v2=some r):Fn Tryz.prog 33 [vlst (List.map ye s1),vstr v2] (zp [zf r]):=by
 refine ⟨by kernel_rfl,zy (us:=[zf r]) Tryz.func33 Z Z Z Z fun X hN => ?_⟩
 unfold Yl at H
 refine zc hN Z (qe Z (zc hN Z (qd Z (qd Z (bE H fun r3 h4 H=>za (zj (y8g s1 v2 r3 h4) ⟨.inl Z,.inl Z,U⟩) (za (wx Z Z) (qe Z (zg ?_))))))))
 cases H
 exact ⟨U,.inl Z,U⟩
theorem y87 (s1:Bs) (r:((List Bs)×Bool)) (H:z3c s1=some r):Fn Tryz.prog 26 [vstr s1] (zp [vlst (List.map ye r.1),zf r.2]):=by
 refine ⟨by kernel_rfl,zy (us:=[vlst (List.map ye r.1),zf r.2]) Tryz.func26 Z Z Z Z fun X hN => ?_⟩
 unfold z3c at H
 refine zc hN Z (qe Z (qe Z (zc hN Z (qd Z (bE H fun r2 h3 H=>za (zj (z30 s1 [32] r2 h3) ⟨.inl Z,.inl Z,U⟩) (qe Z (zc hN Z (qd Z (qd Z (bE H fun r4 h5 H=>za (zj (y2h r2 [] r4 h5) ⟨.inl Z,.inl Z,U⟩) (za (yk Z) (qe Z (qe Z (zg ?_))))))))))))))
 cases H
 exact ⟨U,.inl Z,.inl Z,U⟩
theorem y8e (s t:Bs) (r:Bool) (H:z5v s t=some r):Fn Tryz.prog 126 [vstr s,vstr t] (zp [zf r]):=by
 unfold z5v at H
 obtain ⟨⟨h1,h2,h3⟩,h4⟩:=gif H
 cases h4
 refine jz (by kernel_rfl) fun M w vs hM h => ?_
 have hv:=vu (us:=[.string ⟨s.toArray⟩,.string ⟨t.toArray⟩]) h
 subst hv
 refine (Tryz.strings_EqualFold ⟨s.toArray⟩ ⟨t.toArray⟩ w (by simp [ByteArray.size]; omega) (fun j b hb=>z1l h2 j b (by simpa using hb)) (fun j b hb=>z1l h3 j b (by simpa using hb))).mono ?_
 rintro e w' ⟨rfl,rfl⟩
 exact ⟨_,Z,Z,Kp.refl _ _⟩

theorem z6h (h1:zk) (name2:Bs) (r:(Bool)) (H:Zb h1 name2=some r):Fn Tryz.prog 65 [vagg (yb h1),vstr name2] (zp [zf r]):=by
 refine ⟨by kernel_rfl,zy (us:=[zf r]) Tryz.func65 Z Z Z Z fun X hN => ?_⟩
 unfold Zb at H
 refine zc hN Z (zo (vp 1 Z) Z (qe Z (zc hN Z (za (zv Zt Z) (zr (zx tyS9 Z Z) Z (qd Z (bE H fun r3 h4 H=>za (zj (y8e h1.Name name2 r3 h4) ⟨.inl Z,.inl Z,U⟩) (qe Z (zg ?_)))))))))
 cases H
 exact ⟨U,.inl Z,U⟩
theorem z32 (l1:(List zk)) (name2:Bs) (r:((List Bs))) (H:jk l1 name2=some r):Fn Tryz.prog 27 [vlst (List.map yb l1),vstr name2] (zp [vlst (List.map ye r)]):=by
 refine ⟨by kernel_rfl,zy (us:=[vlst (List.map ye r)]) Tryz.func27 Z Z Z Z fun X hN => ?_⟩
 unfold jk at H
 refine zc hN Z (qe Z (zc hN Z (qe Z (zh (zc hN Z (qd Z (za (yw vg Z) (qd Z (yc (z4h 5 1 9 1 Z Z Z (gE H fun h6 H=>ve (fun (k4:Nat) (s:(List Bs))=>[(1,.dat (vstr name2)),(5,.row 1 s.length),(8,.dat (vlst (List.map yb l1))),(9,.dat (vint (l1.length:Int))),(10,.dat (vint (k4:Int)))]) (fun (k4:Nat) (s:(List Bs))=>[(1,.row 9 1 (List.map ye s))]) [] H ⟨Z,Z,Z,Z,Z,U⟩ ⟨Z,U⟩ (fun _ _=>Z) ?_ ?_)))))))))))
 ·rintro l3 H
  replace H:z5n l3=some r:=H
  unfold z5n at H
  refine zc hN Z (za (yg Z Z) (zh (zi _ Z (fun h=>(lt_t h).elim) (fun h => ?_))))
  refine qj (zc hN Z (za (ze (.row _ _) Z) (za (vr (.row _ _) Z) (zg ?_))))
  cases H
  exact ⟨U,Wj Z Z,U⟩
 ·rintro k4 x7 l3 q5 h8 h9 H hq5
  replace H:Yh name2 k4 x7 l3=some q5:=H
  unfold Yh at H
  refine zc hN Z (za (yg Z Z) (zh (zi _ Z (fun h => ?_) (fun h=>(lt_f h8 h).elim))))
  refine zn (zz (ι:=(List Bs)) (fun i=>[(1,.dat (vstr name2)),(5,.row 1 i.length),(8,.dat (vlst (List.map yb l1))),(9,.dat (vint (l1.length:Int))),(10,.dat (vint (k4:Int)))]) (fun i=>[(1,.row 9 1 (List.map ye i))]) (fun i=>Wz i=some q5) (fun i=>Z) ?_ ?_)
  ·skip
   refine yc (zc hN Z (za (qx ka (fun _=>Z) Z Z h9) (za (xk wv Z (qq h9) Z) (zo (qm 2 ky Z) Z (zo (yq wv Z Z Z Z) Z (zc hN Z (zr (qa wv Z Z Z) Z (qd Z (bE H fun r10 h11 H=>za (zj (z6h x7 name2 r10 h11) ⟨.inl Z,.inl Z,U⟩) (zi _ Z (fun h12 => ?_) (fun h12 => ?_)))))))))))
   ·refine tE h12 H fun H=>zq hN Z (za (ze (.row _ _) Z) (za (zv z1t Z) (zr (zx tyS9 Z Z) Z (za (yo (u':=vlst (List.map ye [x7.Value])) (wc [[_]] wt ⟨Z,.inl ⟨_,Z,Z,Z⟩,Z,U⟩ Z Z) Z) (gE H fun h13 H=>zo (xj wt (fun _=>Z) Z Z Z ⟨by simp,by first | (simp; done) | simpa using h13⟩ Z) Z ?_)))))
    exact za (vr (.row _ _) Z) ⟨(l3++[x7.Value]),H,⟨Z,Z,Z,Z,Z,U⟩,⟨Z,U⟩⟩
   ·exact fE h12 H fun H=>zn ⟨l3,H,⟨Z,Z,Z,Z,Z,U⟩,⟨Z,U⟩⟩
  ·rintro out14 H
   replace H:Wz out14=some q5:=H
   unfold Wz at H
   exact zq hN Z (za (wy Z Z (by omega)) (qd Z ⟨_,qr H,⟨Z,Z,Z,Z,Z,U⟩,⟨Z,U⟩⟩))
theorem z8r (s p:Bs) (r:Bs) (H:uc s p=some r):Fn Tryz.prog 62 [vstr s,vstr p] (zp [vstr r]):=by
 unfold uc at H
 obtain ⟨⟨⟨h1,h2⟩,h3⟩,h4⟩:=gif H
 cases h4
 refine jz (by kernel_rfl) fun M w vs hM h => ?_
 have hv:=vu (us:=[.string ⟨s.toArray⟩,.string ⟨p.toArray⟩]) h
 subst hv
 refine (Any.strings_Trim_laid Tryz.lays160 (by kernel_rfl) ⟨s.toArray⟩ ⟨p.toArray⟩ w (by simp [ByteArray.size]; omega) (by simp [ByteArray.size]; omega) (fun j b hb=>z1l h3 j b (by simpa using hb))).mono ?_
 rintro e w' ⟨rfl,hb⟩
 exact ⟨_,Z,Z,Kp.of_below hb⟩

theorem y8t (s1:Bs) (r:(Bool)) (H:z2w s1=some r):Fn Tryz.prog 127 [vstr s1] (zp [zf r]):=by
 refine ⟨by kernel_rfl,zy (us:=[zf r]) Tryz.func127 Z Z Z Z fun X hN => ?_⟩
 unfold z2w at H
 refine zc hN Z (qe Z (zz (ι:=Bool) (fun i=>[(2,.dat (zf i))]) (fun i=>[]) (fun i=>xo i=some r) (fun i=>Z) ?_ ?_))
 ·skip
  refine zq hN Z (qd Z (za (vc Z Z) (qd Z (zu (j:=2) Z Z (fun h2 => ?_) (fun h2 => ?_) Z))))
  ·refine u1 h2 H fun h3 H=>zd Z Z h2 (ze (.dat _) Z) (bE H fun r4 h5 H=>zd Z Z h2 (zj (z8r s1 [48,49,50,51,52,53,54,55,56,57] r4 h5) ⟨.inl Z,.inl Z,U⟩) (zd Z Z h2 (qy Z Z) (za (zm Z (bTT h3) Z) (qd Z (zu (j:=7) Z Z (fun h6 => ?_) (fun h6 => ?_) Z)))))
   ·refine u1 h6 H fun h7 H=>zd Z Z h6 (ze (.dat _) Z) (bE H fun x8 h9 H=>zd Z Z h6 (qh tyU9 Z Z h9) (zd Z Z h6 (qk Z Z) (zd Z Z h6 (ze (.dat _) Z) (zu (j:=11) Z Z (fun h10 => ?_) (fun h10 => ?_) Z))))
    ·exact u3 h10 H fun h11 H=>zd Z Z h10 (ze (.dat _) Z) (zd Z Z h10 (qy Z Z) (zd Z Z h6 (zl Z (bFF h11) Z) (za (zm Z (bTT h7) Z) (qe Z ⟨decide (s1=[48]),H,⟨Z,U⟩,U⟩))))
    ·exact u4 h10 H fun h12 H=>zb Z Z h10 (zb Z Z h10 (zd Z Z h6 (zm Z (bTT h12) Z) (za (zm Z (bTT h7) Z) (qe Z ⟨true,H,⟨Z,U⟩,U⟩))))
   ·exact u2 h6 H fun h13 H=>zb Z Z h6 (zb Z Z h6 (zb Z Z h6 (zb Z Z h6 (yh Z Z (yh Z Z (zb Z Z h6 (za (zl Z (bFF h13) Z) (qe Z ⟨false,H,⟨Z,U⟩,U⟩))))))))
  ·exact u2 h2 H fun h14 H=>zb Z Z h2 (zb Z Z h2 (zb Z Z h2 (za (zl Z (bFF h14) Z) (qd Z (zb Z Z Z (zb Z Z Z (zb Z Z Z (zb Z Z Z (yh Z Z (yh Z Z (zb Z Z Z (za (zl Z Z Z) (qe Z ⟨false,H,⟨Z,U⟩,U⟩)))))))))))))
 ·rintro v15 H
  replace H:xo v15=some r:=H
  unfold xo at H
  refine zg ?_
  cases H
  exact ⟨U,.inl Z,U⟩
theorem y8y (l1:(List zk)) (hosts2:Int) (r:(Int)) (H:z2y l1 hosts2=some r):Fn Tryz.prog 66 [vlst (List.map yb l1),vint hosts2] (zp [vint r]):=by
 refine ⟨by kernel_rfl,zy (us:=[vint r]) Tryz.func66 Z Z Z Z fun X hN => ?_⟩
 unfold z2y at H
 refine zc hN Z (qe Z (zc hN Z (qd Z (bE H fun r3 h4 H=>za (zj (z32 l1 [99,111,110,116,101,110,116,45,108,101,110,103,116,104] r3 h4) ⟨.inl Z,.inl Z,U⟩) (qd Z (bE H fun r5 h6 H=>za (zj (z32 l1 [116,114,97,110,115,102,101,114,45,101,110,99,111,100,105,110,103] r5 h6) ⟨.inl Z,.inl Z,U⟩) (qe Z (qe Z (zh (yc (zc hN Z (qd Z (za (qb Z Z) (qd Z (yz Z Z (fun hc=>ze (.dat _) Z) (yz Z Z (fun hc=>yw wb (cnd (c:=(!(decide (1 < hosts2)))) hc)) (yz Z Z (fun hc=>qb (cnd (c:=(!(decide (1 < hosts2)))) hc) Z) (za (vk Z Z (fun hb=>(cnd (c:=(!(decide (1 < hosts2)))) (notI hb)))) (qd Z (yz Z Z (fun hc=>ze (.dat _) Z) (yz Z Z (fun hc=>yw wb (cnd (c:=(!((decide (1 < hosts2)) || (decide (1 < (r3.length:Int)))))) hc)) ?_)))))))))))))))))))))
 refine yz Z Z (fun hc=>qb (cnd (c:=(!((decide (1 < hosts2)) || (decide (1 < (r3.length:Int)))))) hc) Z) (za (vk Z Z (fun hb=>(cnd (c:=(!((decide (1 < hosts2)) || (decide (1 < (r3.length:Int)))))) (notI hb)))) (qe Z (zi _ Z (fun h7 => ?_) (fun h7 => ?_))))
 ·refine tE h7 H fun H=>zc hN Z (qe Z (zg ?_))
  cases H
  exact ⟨U,.inl Z,U⟩
 ·refine fE h7 H fun H=>zc hN Z (qd Z (za (yw wb Z) (za (yp Z Z) (qd Z (qg Z Z (fun hc=>ze (.dat _) Z) (qg Z Z (fun hc=>yw wb (cnd (c:=(decide ((r3.length:Int)=1))) hc)) (qg Z Z (fun hc=>yp (cnd (c:=(decide ((r3.length:Int)=1))) hc) Z) (za (wu Z (fun hb=>(cnd (c:=(decide ((r3.length:Int)=1))) hb)) Z) (qe Z (zi _ Z (fun h8 => ?_) (fun h8 => ?_)))))))))))
  ·refine tE h8 H fun H=>zc hN Z (qe Z (zg ?_))
   cases H
   exact ⟨U,.inl Z,U⟩
  ·refine fE h8 H fun H=>zz (ι:=Bool) (fun i=>[(33,.dat (zf i))]) (fun i=>[]) (fun i=>ub i=some r) (fun i=>Z) ?_ ?_
   ·skip
    refine zq hN Z (qd Z (za (yw wb Z) (za (yp Z Z) (qd Z (zu (j:=3) Z Z (fun h9 => ?_) (fun h9 => ?_) Z)))))
    ·refine u1 h9 H fun h10 H=>zd Z Z h9 (ze (.dat _) Z) (bE H fun x11 h12 H=>zd Z Z h9 (qx ww (fun _=>Z) Z Z h12) (zd Z Z h9 (wa tyS9 Z (qq h12) Z) (bE H fun r13 h14 H=>zd Z Z h9 (zj (y8t x11 r13 h14) ⟨.inl Z,U⟩) (zd Z Z h9 (yk Z) (za (zm Z (bTT h10) Z) (qd Z (zu (j:=10) Z Z (fun h15 => ?_) (fun h15 => ?_) Z)))))))
     ·refine u3 h15 H fun h16 H=>zd Z Z h15 (ze (.dat _) Z) (zd Z Z h15 (yw wb Z) (zd Z Z h15 (yp Z Z) (zd Z Z h15 (ze (.dat _) Z) (zu (j:=14) Z Z (fun h17 => ?_) (fun h17 => ?_) Z))))
      ·exact u1 h17 H fun h18 H=>zd Z Z h17 (ze (.dat _) Z) (bE H fun x19 h20 H=>zd Z Z h17 (qx ww (fun _=>Z) Z Z h20) (zd Z Z h17 (wa tyS9 Z (qq h20) Z) (zd Z Z h17 (vc Z Z) (zd Z Z h15 (zm Z (bTT h18) Z) (za (zl Z (bFF h16) Z) (qe Z ⟨decide (x19≠[99,104,117,110,107,101,100]),H,⟨Z,U⟩,U⟩))))))
      ·exact u2 h17 H fun h21 H=>zb Z Z h17 (zb Z Z h17 (zb Z Z h17 (zb Z Z h17 (zd Z Z h15 (zl Z (bFF h21) Z) (za (zl Z (bFF h16) Z) (qe Z ⟨false,H,⟨Z,U⟩,U⟩))))))
     ·exact u4 h15 H fun h22 H=>zb Z Z h15 (zb Z Z h15 (zb Z Z h15 (zb Z Z h15 (yh Z Z (yh Z Z (yh Z Z (yh Z Z (zb Z Z h15 (za (zm Z (bTT h22) Z) (qe Z ⟨true,H,⟨Z,U⟩,U⟩))))))))))
    ·refine u2 h9 H fun h23 H=>zb Z Z h9 (zb Z Z h9 (zb Z Z h9 (zb Z Z h9 (zb Z Z h9 (za (zl Z (bFF h23) Z) (qd Z (zd Z Z Z (ze (.dat _) Z) (zd Z Z Z (yw wb Z) (zd Z Z Z (yp Z Z) (zd Z Z Z (ze (.dat _) Z) (zu (j:=14) Z Z (fun h24 => ?_) (fun h24 => ?_) Z)))))))))))
     ·exact u1 h24 H fun h25 H=>zd Z Z h24 (ze (.dat _) Z) (bE H fun x26 h27 H=>zd Z Z h24 (qx ww (fun _=>Z) Z Z h27) (zd Z Z h24 (wa tyS9 Z (qq h27) Z) (zd Z Z h24 (vc Z Z) (zd Z Z Z (zm Z (bTT h25) Z) (za (zl Z Z Z) (qe Z ⟨decide (x26≠[99,104,117,110,107,101,100]),H,⟨Z,U⟩,U⟩))))))
     ·exact u2 h24 H fun h28 H=>zb Z Z h24 (zb Z Z h24 (zb Z Z h24 (zb Z Z h24 (zd Z Z Z (zl Z (bFF h28) Z) (za (zl Z Z Z) (qe Z ⟨false,H,⟨Z,U⟩,U⟩))))))
   ·rintro v29 H
    replace H:ub v29=some r:=H
    unfold ub at H
    refine zi _ Z (fun h30 => ?_) (fun h30 => ?_)
    ·refine tE h30 H fun H=>zc hN Z (qe Z (zg ?_))
     cases H
     exact ⟨U,.inl Z,U⟩
    ·refine fE h30 H fun H=>zn (zc hN Z (qe Z (zg ?_)))
     cases H
     exact ⟨U,.inl Z,U⟩
theorem jm (c1:Int) (r:(Int)) (H:vm c1=some r):Fn Tryz.prog 191 [vval (.int .u8 c1)] (zp [vval (.int .u8 r)]):=by
 refine ⟨by kernel_rfl,zy (us:=[vval (.int .u8 r)]) Tryz.func191 Z Z Z Z fun X hN => ?_⟩
 unfold vm at H
 refine zc hN Z (qe Z (zc hN Z (qd Z (za (yo (y5e Z Z) Z) (qe Z (zg ?_))))))
 cases H
 exact ⟨U,.inl Z,U⟩
theorem y9c (v1:Bs) (r:(Bool)) (H:z8n v1=some r):Fn Tryz.prog 192 [vstr v1] (zp [zf r]):=by
 refine ⟨by kernel_rfl,zy (us:=[zf r]) Tryz.func192 Z Z Z Z fun X hN => ?_⟩
 unfold z8n at H
 refine zc hN Z (qe Z (zc hN Z (qe Z (zc hN Z (qe Z (zz (ι:=Bs) (fun i=>[(0,.dat (vstr i)),(3,.dat (vval (.int .i32 94))),(4,.dat (vint 0))]) (fun i=>[]) (fun i=>z35 i=some r) (fun i=>Z) ?_ ?_))))))
 ·skip
  refine zz (ι:=Bool) (fun i=>[(0,.dat (vstr v1)),(3,.dat (vval (.int .i32 94))),(4,.dat (vint 0)),(18,.dat (zf i))]) (fun i=>[]) (fun i=>z01 v1 i=some r) (fun i=>Z) ?_ ?_
  ·skip
   refine zq hN Z (qd Z (za (yi tyU9 Z) (za (wx Z Z) (qd Z (zu (j:=3) Z Z (fun h2 => ?_) (fun h2 => ?_) Z)))))
   ·refine u1 h2 H fun h3 H=>zd Z Z h2 (ze (.dat _) Z) (bE H fun x4 h5 H=>zd Z Z h2 (qh tyU9 Z Z h5) (zd Z Z h2 (yp Z Z) (zd Z Z h2 (ze (.dat _) Z) (zu (j:=7) Z Z (fun h6 => ?_) (fun h6 => ?_) Z))))
    ·exact u3 h6 H fun h7 H=>zd Z Z h6 (ze (.dat _) Z) (zd Z Z h6 (qh tyU9 Z Z h5) (zd Z Z h6 (yp Z Z) (zd Z Z h2 (zl Z (bFF h7) Z) (za (zm Z (bTT h3) Z) ⟨decide ((x4.toNat:Int)=43),H,⟨Z,Z,Z,Z,U⟩,U⟩))))
    ·exact u4 h6 H fun h8 H=>zb Z Z h6 (zb Z Z h6 (zb Z Z h6 (zd Z Z h2 (zm Z (bTT h8) Z) (za (zm Z (bTT h3) Z) ⟨true,H,⟨Z,Z,Z,Z,U⟩,U⟩))))
   ·exact u2 h2 H fun h9 H=>zb Z Z h2 (zb Z Z h2 (zb Z Z h2 (zb Z Z h2 (yh Z Z (yh Z Z (yh Z Z (zb Z Z h2 (za (zl Z (bFF h9) Z) ⟨false,H,⟨Z,Z,Z,Z,U⟩,U⟩))))))))
  ·rintro v10 H
   replace H:z01 v1 v10=some r:=H
   unfold z01 at H
   refine zi _ Z (fun h11 => ?_) (fun h11 => ?_)
   ·exact tE h11 H fun H=>zq hN Z (qd Z (bE H fun l12 h13 H=>za (qf tyU9 Z Z Z h13) (qe Z ⟨l12,H,⟨Z,Z,Z,U⟩,U⟩)))
   ·exact fE h11 H fun H=>zn ⟨v1,H,⟨Z,Z,Z,U⟩,U⟩
 ·rintro v14 H
  replace H:z35 v14=some r:=H
  unfold z35 at H
  refine zc hN Z (qe Z (zz (ι:=Int×Int×Bool) (fun i=>[(0,.dat (vstr v14)),(3,.dat (vval (.int .i32 i.1))),(4,.dat (vint i.2.1)),(5,.dat (zf i.2.2))]) (fun i=>[]) (fun i=>z34 v14 i.1 i.2.1 i.2.2=some r) (fun i=>Z) ?_ ?_))
  ·skip
   refine zz (ι:=Bool) (fun i=>[(0,.dat (vstr v14)),(3,.dat (vval (.int .i32 94))),(4,.dat (vint 0)),(5,.dat (zf false)),(46,.dat (zf i))]) (fun i=>[]) (fun i=>Zl v14 i=some r) (fun i=>Z) ?_ ?_
   ·skip
    refine zq hN Z (qd Z (za (yi tyU9 Z) (za (wx Z Z) (qd Z (zu (j:=3) Z Z (fun h15 => ?_) (fun h15 => ?_) Z)))))
    ·refine u1 h15 H fun h16 H=>zd Z Z h15 (ze (.dat _) Z) (bE H fun x17 h18 H=>zd Z Z h15 (qh tyU9 Z Z h18) (zd Z Z h15 (yp Z Z) (za (zm Z (bTT h16) Z) (qd Z (zu (j:=8) Z Z (fun h19 => ?_) (fun h19 => ?_) Z)))))
     ·refine u1 h19 H fun h20 H=>zd Z Z h19 (ze (.dat _) Z) (bE H fun x21 h22 H=>zd Z Z h19 (qh tyU9 Z Z h22) (bE H fun r23 h24 H=>zd Z Z h19 (zj (jm (x21.toNat:Int) r23 h24) ⟨.inl Z,U⟩) (zd Z Z h19 (yp Z Z) (zd Z Z h19 (ze (.dat _) Z) (zu (j:=13) Z Z (fun h25 => ?_) (fun h25 => ?_) Z)))))
      ·refine u3 h25 H fun h26 H=>zd Z Z h25 (ze (.dat _) Z) (zd Z Z h25 (qh tyU9 Z Z h22) (bE H fun r27 h28 H=>zd Z Z h25 (zj (jm (x21.toNat:Int) r27 h28) ⟨.inl Z,U⟩) (zd Z Z h25 (yp Z Z) (zd Z Z h19 (zl Z (bFF h26) Z) (zd Z Z h19 (ze (.dat _) Z) (zu (j:=19) Z Z (fun h29 => ?_) (fun h29 => ?_) Z))))))
       ·exact u3 h29 H fun h30 H=>zd Z Z h29 (ze (.dat _) Z) (zd Z Z h29 (qh tyU9 Z Z h22) (bE H fun r31 h32 H=>zd Z Z h29 (zj (jm (x21.toNat:Int) r31 h32) ⟨.inl Z,U⟩) (zd Z Z h29 (yp Z Z) (zd Z Z h19 (zl Z (bFF h30) Z) (za (zm Z (bTT h20) Z) ⟨decide (r31=120),H,⟨Z,Z,Z,Z,Z,U⟩,U⟩)))))
       ·exact u4 h29 H fun h33 H=>zb Z Z h29 (zb Z Z h29 (zb Z Z h29 (zb Z Z h29 (zd Z Z h19 (zm Z (bTT h33) Z) (za (zm Z (bTT h20) Z) ⟨true,H,⟨Z,Z,Z,Z,Z,U⟩,U⟩)))))
      ·exact u4 h25 H fun h34 H=>zb Z Z h25 (zb Z Z h25 (zb Z Z h25 (zb Z Z h25 (zd Z Z h19 (zm Z (bTT h34) Z) (zd Z Z h19 (ze (.dat _) Z) (zb Z Z Z (zb Z Z Z (zb Z Z Z (zb Z Z Z (zd Z Z h19 (zm Z Z Z) (za (zm Z (bTT h20) Z) ⟨true,H,⟨Z,Z,Z,Z,Z,U⟩,U⟩)))))))))))
     ·exact u2 h19 H fun h35 H=>zb Z Z h19 (zb Z Z h19 (zb Z Z h19 (zb Z Z h19 (zb Z Z h19 (yh Z Z (yh Z Z (yh Z Z (yh Z Z (zb Z Z h19 (zb Z Z h19 (yh Z Z (yh Z Z (yh Z Z (yh Z Z (zb Z Z h19 (za (zl Z (bFF h35) Z) ⟨false,H,⟨Z,Z,Z,Z,Z,U⟩,U⟩))))))))))))))))
    ·exact u2 h15 H fun h36 H=>zb Z Z h15 (zb Z Z h15 (zb Z Z h15 (za (zl Z (bFF h36) Z) (qd Z (zb Z Z Z (zb Z Z Z (zb Z Z Z (zb Z Z Z (zb Z Z Z (yh Z Z (yh Z Z (yh Z Z (yh Z Z (zb Z Z Z (zb Z Z Z (yh Z Z (yh Z Z (yh Z Z (yh Z Z (zb Z Z Z (za (zl Z Z Z) ⟨false,H,⟨Z,Z,Z,Z,Z,U⟩,U⟩)))))))))))))))))))))
   ·rintro v37 H
    replace H:Zl v14 v37=some r:=H
    unfold Zl at H
    refine zi _ Z (fun h38 => ?_) (fun h38 => ?_)
    ·exact tE h38 H fun H=>zc hN Z (qe Z (zc hN Z (qe Z (zq hN Z (qd Z (bE H fun x39 h40 H=>za (qh tyU9 Z Z h40) (bE H fun r41 h42 H=>za (zj (jm (x39.toNat:Int) r41 h42) ⟨.inl Z,U⟩) (za (yp Z Z) (qe Z ⟨(48,2,decide (r41=120)),H,⟨Z,Z,Z,Z,U⟩,U⟩)))))))))
    ·exact fE h38 H fun H=>zn ⟨(94,0,false),H,⟨Z,Z,Z,Z,U⟩,U⟩
  ·rintro ⟨v43,v44,v45⟩ H
   replace H:z34 v14 v43 v44 v45=some r:=H
   unfold z34 at H
   refine zz (ι:=Int) (fun i=>[(3,.dat (vval (.int .i32 i)))]) (fun i=>[]) (fun i=>z6m i=some r) (fun i=>Z) ?_ ?_
   ·skip
    refine yc (ki (fun (s:Int×Int)=>[(0,.dat (vstr v14)),(3,.dat (vval (.int .i32 s.1))),(4,.dat (vint s.2)),(5,.dat (zf v45))]) (fun (s:Int×Int)=>[]) (v43,v44) H ⟨Z,Z,Z,Z,U⟩ U (fun _=>Z) ?_)
    rintro ⟨v46,v47⟩ q48 H hq48
    replace H:z87 v14 v45 v46 v47=some q48:=H
    unfold z87 at H
    refine zh (zc hN Z (qd Z (qd Z (za (yi tyU9 Z) (za (yg Z Z) (zi _ Z (fun h49 => ?_) (fun h49 => ?_)))))))
    ·refine tE h49 H fun H=>zn (zz (ι:=Int) (fun i=>[(0,.dat (vstr v14)),(3,.dat (vval (.int .i32 i))),(4,.dat (vint v47)),(5,.dat (zf v45))]) (fun i=>[]) (fun i=>z00 v47 i=some q48) (fun i=>Z) ?_ ?_)
     ·skip
      refine yc (zh (zz (ι:=Bool) (fun i=>[(0,.dat (vstr v14)),(3,.dat (vval (.int .i32 v46))),(4,.dat (vint v47)),(5,.dat (zf v45)),(83,.dat (zf i))]) (fun i=>[]) (fun i=>ue v14 v46 v47 i=some q48) (fun i=>Z) ?_ ?_))
      ·skip
       refine zq hN Z (qd Z (qd Z (bE H fun x50 h51 H=>za (jf tyU9 Z Z h51) (za (we Z Z) (qd Z (zu (j:=4) Z Z (fun h52 => ?_) (fun h52 => ?_) Z))))))
       ·refine u1 h52 H fun h53 H=>zd Z Z h52 (ze (.dat _) Z) (zd Z Z h52 (ze (.dat _) Z) (zd Z Z h52 (jf tyU9 Z Z h51) (zd Z Z h52 (we Z Z) (za (zm Z (bTT h53) Z) (qd Z (zu (j:=10) Z Z (fun h54 => ?_) (fun h54 => ?_) Z))))))
        ·refine u3 h54 H fun h55 H=>zd Z Z h54 (ze (.dat _) Z) (zd Z Z h54 (ze (.dat _) Z) (zu (j:=12) Z Z (fun h56 => ?_) (fun h56 => ?_) Z))
         ·refine u1 h56 H fun h57 H=>zd Z Z h56 (ze (.dat _) Z) (zd Z Z h56 (ze (.dat _) Z) (zd Z Z h56 (jf tyU9 Z Z h51) (bE H fun r58 h59 H=>zd Z Z h56 (zj (jm (x50.toNat:Int) r58 h59) ⟨.inl Z,U⟩) (zd Z Z h56 (we Z Z) (zd Z Z h54 (zm Z (bTT h57) Z) (zd Z Z h54 (ze (.dat _) Z) (zu (j:=19) Z Z (fun h60 => ?_) (fun h60 => ?_) Z)))))))
          ·exact u1 h60 H fun h61 H=>zd Z Z h60 (ze (.dat _) Z) (zd Z Z h60 (ze (.dat _) Z) (zd Z Z h60 (jf tyU9 Z Z h51) (bE H fun r62 h63 H=>zd Z Z h60 (zj (jm (x50.toNat:Int) r62 h63) ⟨.inl Z,U⟩) (zd Z Z h60 (we Z Z) (zd Z Z h54 (zm Z (bTT h61) Z) (za (zl Z (bFF h55) Z) ⟨decide (r62≤102),H,⟨Z,Z,Z,Z,Z,U⟩,U⟩))))))
          ·exact u2 h60 H fun h64 H=>zb Z Z h60 (zb Z Z h60 (zb Z Z h60 (zb Z Z h60 (zb Z Z h60 (zd Z Z h54 (zl Z (bFF h64) Z) (za (zl Z (bFF h55) Z) ⟨false,H,⟨Z,Z,Z,Z,Z,U⟩,U⟩))))))
         ·exact u2 h56 H fun h65 H=>zb Z Z h56 (zb Z Z h56 (zb Z Z h56 (zb Z Z h56 (zb Z Z h56 (zd Z Z h54 (zl Z (bFF h65) Z) (zd Z Z h54 (ze (.dat _) Z) (zb Z Z Z (zb Z Z Z (zb Z Z Z (zb Z Z Z (zb Z Z Z (zd Z Z h54 (zl Z Z Z) (za (zl Z (bFF h55) Z) ⟨false,H,⟨Z,Z,Z,Z,Z,U⟩,U⟩)))))))))))))
        ·exact u4 h54 H fun h66 H=>zb Z Z h54 (zb Z Z h54 (yh Z Z (yh Z Z (yh Z Z (yh Z Z (yh Z Z (zb Z Z h54 (zb Z Z h54 (yh Z Z (yh Z Z (yh Z Z (yh Z Z (yh Z Z (zb Z Z h54 (za (zm Z (bTT h66) Z) ⟨true,H,⟨Z,Z,Z,Z,Z,U⟩,U⟩)))))))))))))))
       ·refine u2 h52 H fun h67 H=>zb Z Z h52 (zb Z Z h52 (zb Z Z h52 (zb Z Z h52 (za (zl Z (bFF h67) Z) (qd Z (zd Z Z Z (ze (.dat _) Z) (zd Z Z Z (ze (.dat _) Z) (zu (j:=12) Z Z (fun h68 => ?_) (fun h68 => ?_) Z))))))))
        ·refine u1 h68 H fun h69 H=>zd Z Z h68 (ze (.dat _) Z) (zd Z Z h68 (ze (.dat _) Z) (zd Z Z h68 (jf tyU9 Z Z h51) (bE H fun r70 h71 H=>zd Z Z h68 (zj (jm (x50.toNat:Int) r70 h71) ⟨.inl Z,U⟩) (zd Z Z h68 (we Z Z) (zd Z Z Z (zm Z (bTT h69) Z) (zd Z Z Z (ze (.dat _) Z) (zu (j:=19) Z Z (fun h72 => ?_) (fun h72 => ?_) Z)))))))
         ·exact u1 h72 H fun h73 H=>zd Z Z h72 (ze (.dat _) Z) (zd Z Z h72 (ze (.dat _) Z) (zd Z Z h72 (jf tyU9 Z Z h51) (bE H fun r74 h75 H=>zd Z Z h72 (zj (jm (x50.toNat:Int) r74 h75) ⟨.inl Z,U⟩) (zd Z Z h72 (we Z Z) (zd Z Z Z (zm Z (bTT h73) Z) (za (zl Z Z Z) ⟨decide (r74≤102),H,⟨Z,Z,Z,Z,Z,U⟩,U⟩))))))
         ·exact u2 h72 H fun h76 H=>zb Z Z h72 (zb Z Z h72 (zb Z Z h72 (zb Z Z h72 (zb Z Z h72 (zd Z Z Z (zl Z (bFF h76) Z) (za (zl Z Z Z) ⟨false,H,⟨Z,Z,Z,Z,Z,U⟩,U⟩))))))
        ·exact u2 h68 H fun h77 H=>zb Z Z h68 (zb Z Z h68 (zb Z Z h68 (zb Z Z h68 (zb Z Z h68 (zd Z Z Z (zl Z (bFF h77) Z) (zd Z Z Z (ze (.dat _) Z) (zb Z Z Z (zb Z Z Z (zb Z Z Z (zb Z Z Z (zb Z Z Z (zd Z Z Z (zl Z Z Z) (za (zl Z Z Z) ⟨false,H,⟨Z,Z,Z,Z,Z,U⟩,U⟩)))))))))))))
      ·rintro v78 H
       replace H:ue v14 v46 v47 v78=some q48:=H
       unfold ue at H
       refine zi _ Z (fun h79 => ?_) (fun h79 => ?_)
       ·exact tE h79 H fun H=>zc hN Z (qe Z (qj ⟨48,H,⟨Z,Z,Z,Z,U⟩,U⟩))
       ·refine fE h79 H fun H=>zn (zh (zc hN Z (qd Z (qd Z (bE H fun x80 h81 H=>za (jf tyU9 Z Z h81) (za (yp Z Z) (zi _ Z (fun h82 => ?_) (fun h82 => ?_))))))))
        ·refine tE h82 H fun H=>zh (zc hN Z (qd Z (za (qk Z Z) (zi _ Z (fun h83 => ?_) (fun h83 => ?_)))))
         ·refine tE h83 H fun H=>zc hN Z (qe Z (zg ?_))
          replace H:=retl H hq48
          cases H
          exact ⟨U,.inl Z,U⟩
         ·exact fE h83 H fun H=>zn (zc hN Z (qe Z (qj ⟨95,H,⟨Z,Z,Z,Z,U⟩,U⟩)))
        ·refine fE h82 H fun H=>zn (zh (zc hN Z (qd Z (za (yp Z Z) (zi _ Z (fun h84 => ?_) (fun h84 => ?_))))))
         ·refine tE h84 H fun H=>zc hN Z (qe Z (zg ?_))
          replace H:=retl H hq48
          cases H
          exact ⟨U,.inl Z,U⟩
         ·exact fE h84 H fun H=>zn (zq hN Z (qe Z ⟨33,H,⟨Z,Z,Z,Z,U⟩,U⟩))
     ·rintro v85 H
      replace H:z00 v47 v85=some q48:=H
      unfold z00 at H
      exact zq hN Z (qd Z (za (yf _ Z Z (.inl ⟨Z,Z⟩)) (qe Z ⟨_,qr H,⟨Z,Z,Z,Z,U⟩,U⟩)))
    ·refine fE h49 H fun H=>qj ?_
     replace H:=outl H hq48
     exact ⟨v46,H,⟨Z,U⟩,U⟩
   ·rintro v86 H
    replace H:z6m v86=some r:=H
    unfold z6m at H
    refine zc hN Z (qd Z (za (qk Z Z) (qe Z (zg ?_))))
    cases H
    exact ⟨U,.inl Z,U⟩
end Go.Proofs.YtbcmpepmafpibabGreatDoor
