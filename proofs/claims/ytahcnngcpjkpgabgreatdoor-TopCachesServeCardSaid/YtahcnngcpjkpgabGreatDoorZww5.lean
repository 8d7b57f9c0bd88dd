/- Walks along the models. Printed by a program. -/
import Derived.Test.YtahcnngcpjkpgabGreatDoorZww4
namespace Go.Proofs.YtahcnngcpjkpgabGreatDoor
open Go.RowKit
set_option linter.unusedVariables false
set_option maxRecDepth 100000
set_option maxHeartbeats 2000000
theorem w7f (v1:Bs) (r:(zw×Int×Int)) (H:z85 v1=some r):Fn Tryz.prog 12 [vstr v1] (zr [vagg (qq r.1),vint r.2.1,vint r.2.2]):=by
 refine ⟨by kernel_rfl,yf (us:=[vagg (qq r.1),vint r.2.1,vint r.2.2]) Tryz.func12 Z Z Z Z fun X hN => ?_⟩
 unfold z85 at H
 refine zb hN Z (zl (qt 1 jm Z) Z (qe Z (qe Z (zd (zb hN Z (qd Z (za (qi tyU9 Z) (za (wb Z Z) (zh _ Z (fun h2 => ?_) (fun h2 => ?_))))))))))
 ·refine tE h2 H fun H=>zb hN Z (za (jh (u':=vagg (qq (zw.mk 0 [] [] [] [] [] [] []))) (je (by exact ⟨yl,yl,yl,yl,yl,yl,ja,yl,U⟩)) (qw [] jm xq Z U)) ?_)
  refine zl (yx qa Z Z Z Z) Z (qe Z (qe Z (zk ?_)))
  cases H
  exact ⟨U,.inl ⟨_,_,_,qq (zw.mk 0 [] [] [] [] [] [] []),Z,Z,Z,Z,qa⟩,.inl Z,.inl Z,U⟩
 ·refine fE h2 H fun H=>zn (zb hN Z (qd Z (bE H fun r3 h4 H=>za (zo (x52 v1 r3 h4) ⟨.inl Z,U⟩) (qd Z (za (zz Z Z) (za (zz Z Z) (zl (qt 2 y09 Z) Z (zl (yx xf Z Z Z Z) Z (qe Z (zb hN Z (za (zq y5v Z) (zm (zt tyS9 Z Z) Z (bE H fun r5 h6 H=>za (zo (w7n r3.1.first_ r5 h6) ⟨.inl Z,U⟩) (qd Z (za (zz Z Z) (za (zz Z Z) (qe Z (qe Z (zd (yg (ι:=Bool) (fun i=>[(0,.dat (vstr v1)),(2,.ptr 1 0),(5,.ptr 2 0),(7,.dat (vlst (List.map zx r5.1))),(47,.dat (zi i))]) (fun i=>[(1,.box none 36 [.dat (vint 0),.dat (vstr []),.dat (vstr []),.dat (vstr []),.dat (vstr []),.dat (vstr []),.dat (vnil),.dat (vstr [])]),(2,.box none 75 [.dat (vstr r3.1.first_),.dat (vlst (List.map zy r3.1.headers_)),.dat (vint r3.1.at_)])]) (fun i=>z0c v1 r3 r5 i=some r) (fun i=>Z) ?_ ?_))))))))))))))))))))
  ·skip
   refine zj hN Z (qd Z (za (yt Z) (qd Z (yn (j:=2) Z Z (fun h7 => ?_) (fun h7 => ?_) Z))))
   ·refine u3 h7 H fun h8 H=>zf Z Z h7 (ze (.dat _) Z) (zf Z Z h7 (yt Z) (za (zv Z (bFF h8) Z) (qd Z (yn (j:=6) Z Z (fun h9 => ?_) (fun h9 => ?_) Z))))
    ·refine u3 h9 H fun h10 H=>zf Z Z h9 (ze (.dat _) Z) (zf Z Z h9 (qh wl Z) (zf Z Z h9 (yy Z Z) (za (zv Z (bFF h10) Z) (qd Z (yn (j:=11) Z Z (fun h11 => ?_) (fun h11 => ?_) Z)))))
     ·exact u3 h11 H fun h12 H=>zf Z Z h11 (ze (.dat _) Z) (bE H fun x13 h14 H=>zf Z Z h11 (wj vp (fun _=>Z) Z Z h14) (zf Z Z h11 (wh tyS9 Z (qp h14) Z) (zf Z Z h11 (jo Z Z) (za (zv Z (bFF h12) Z) ⟨decide (x13≠[72,84,84,80,47,49,46,49]),H,⟨Z,Z,Z,Z,Z,U⟩,⟨Z,Z,U⟩⟩))))
     ·exact u4 h11 H fun h15 H=>zc Z Z h11 (zc Z Z h11 (zc Z Z h11 (zc Z Z h11 (za (ya Z (bTT h15) Z) ⟨true,H,⟨Z,Z,Z,Z,Z,U⟩,⟨Z,Z,U⟩⟩))))
    ·exact u4 h9 H fun h16 H=>zc Z Z h9 (zc Z Z h9 (zc Z Z h9 (za (ya Z (bTT h16) Z) (qd Z (zc Z Z Z (zc Z Z Z (zc Z Z Z (zc Z Z Z (za (ya Z Z Z) ⟨true,H,⟨Z,Z,Z,Z,Z,U⟩,⟨Z,Z,U⟩⟩)))))))))
   ·exact u4 h7 H fun h17 H=>zc Z Z h7 (zc Z Z h7 (za (ya Z (bTT h17) Z) (qd Z (zc Z Z Z (zc Z Z Z (zc Z Z Z (za (ya Z Z Z) (qd Z (zc Z Z Z (zc Z Z Z (zc Z Z Z (zc Z Z Z (za (ya Z Z Z) ⟨true,H,⟨Z,Z,Z,Z,Z,U⟩,⟨Z,Z,U⟩⟩)))))))))))))
  ·rintro v18 H
   replace H:z0c v1 r3 r5 v18=some r:=H
   unfold z0c at H
   refine zh _ Z (fun h19 => ?_) (fun h19 => ?_)
   ·refine tE h19 H fun H=>zb hN Z (za (jh (u':=vagg (qq (zw.mk 0 [] [] [] [] [] [] []))) (je (by exact ⟨yl,yl,yl,yl,yl,yl,ja,yl,U⟩)) (qw [] jm xq Z U)) ?_)
    refine zl (yx qa Z Z Z Z) Z (qe Z (qe Z (zk ?_)))
    cases H
    exact ⟨U,.inl ⟨_,_,_,qq (zw.mk 0 [] [] [] [] [] [] []),Z,Z,Z,Z,qa⟩,.inl Z,.inl Z,U⟩
   ·refine fE h19 H fun H=>zn (zd (zb hN Z (za (zq Wl Z) (zm (zt qu Z Z) Z (za (qh kz Z) (za (wb Z Z) (zh _ Z (fun h20 => ?_) (fun h20 => ?_))))))))
    ·refine tE h20 H fun H=>zb hN Z (za (jh (u':=vagg (qq (zw.mk 0 [] [] [] [] [] [] []))) (je (by exact ⟨yl,yl,yl,yl,yl,yl,ja,yl,U⟩)) (qw [] jm xq Z U)) ?_)
     refine zl (yx qa Z Z Z Z) Z (qe Z (qe Z (zk ?_)))
     cases H
     exact ⟨U,.inl ⟨_,_,_,qq (zw.mk 0 [] [] [] [] [] [] []),Z,Z,Z,Z,qa⟩,.inl Z,.inl Z,U⟩
    ·refine fE h20 H fun H=>zn (zb hN Z (za (zq Wl Z) (zm (zt qu Z Z) Z (bE H fun r21 h22 H=>za (zo (Zh r3.1.headers_ [104,111,115,116] r21 h22) ⟨.inl Z,.inl Z,U⟩) (qe Z (zd (zb hN Z (qd Z (za (qh wl Z) (za (yq Z Z) (zh _ Z (fun h23 => ?_) (fun h23 => ?_))))))))))))
     ·refine tE h23 H fun H=>zb hN Z (za (jh (u':=vagg (qq (zw.mk 0 [] [] [] [] [] [] []))) (je (by exact ⟨yl,yl,yl,yl,yl,yl,ja,yl,U⟩)) (qw [] jm xq Z U)) ?_)
      refine zl (yx qa Z Z Z Z) Z (qe Z (qe Z (zk ?_)))
      cases H
      exact ⟨U,.inl ⟨_,_,_,qq (zw.mk 0 [] [] [] [] [] [] []),Z,Z,Z,Z,qa⟩,.inl Z,.inl Z,U⟩
     ·refine fE h23 H fun H=>zn (zb hN Z (zm (yr xf Z Z Z) Z (qd Z (qd Z (za (qh wl Z) (bE H fun r24 h25 H=>za (zo (x6r r3.1 v1 (r21.length:Int) r24 h25) ⟨.inl Z,.inl Z,.inl Z,U⟩) (qd Z (za (zz Z Z) (za (zz Z Z) (za (zz Z Z) (za (zz Z Z) (qe Z (qe Z (qe Z (qe Z (zd (zb hN Z (qd Z (za (yy Z Z) (zh _ Z (fun h26 => ?_) (fun h26 => ?_)))))))))))))))))))))
      ·refine tE h26 H fun H=>zb hN Z (za (jh (u':=vagg (qq (zw.mk 0 [] [] [] [] [] [] []))) (je (by exact ⟨yl,yl,yl,yl,yl,yl,ja,yl,U⟩)) (qw [] jm xq Z U)) ?_)
       refine qd Z (zl (yx qa Z Z Z Z) Z (qe Z (qe Z (zk ?_))))
       cases H
       exact ⟨U,.inl ⟨_,_,_,qq (zw.mk 0 [] [] [] [] [] [] []),Z,Z,Z,Z,qa⟩,.inl Z,.inl Z,U⟩
      ·refine fE h26 H fun H=>zn (zd (ww mixed hN Z Z (qd Z (bE H fun x27 h28 H=>za (wj vp (fun _=>Z) Z Z h28) (za (wh tyS9 Z (qp h28) Z) (qd Z (bE H fun x29 h30 H=>za (wj vp (fun _=>Z) Z Z h30) (za (wh tyS9 Z (qp h30) Z) (qd Z (bE H fun r31 h32 H=>za (zo (y82 r24.1 [104,111,115,116] r31 h32) ⟨.inl Z,.inl Z,U⟩) (qd Z (za (yd (u':=vagg (qq (zw.mk 0 x27 x29 [] [] [] r31 r24.2.1))) (qw [(1,[vstr x27]),(2,[vstr x29]),(6,[vlst (List.map zy r31)]),(7,[vstr r24.2.1])] jm xq Z ⟨Z,.inl ⟨_,Z,Z,Z⟩,Z,Z,.inl ⟨_,Z,Z,Z⟩,Z,Z,.inl ⟨_,Z,Z,Z⟩,Z,Z,.inl ⟨_,Z,Z,Z⟩,Z,U⟩) Z) (zl (qt 3 jm Z) Z (zl (yx qa Z Z Z Z) Z ⟨Z,?_⟩))))))))))))))
       refine zb hN Z (qd Z (bE H fun x33 h34 H=>za (wj vp (fun _=>Z) Z Z h34) (za (wh tyS9 Z (qp h34) Z) (bE H fun r35 h36 H=>za (zo (z0v x33 [63] r35 h36) ⟨.inl Z,.inl Z,U⟩) (qd Z (za (zz Z Z) (za (zz Z Z) (za (zz Z Z) (za (zq Yz Z) (zl (jn tyS9 Z Z Z Z) Z (za (zq Yd Z) (zl (jn tyS9 Z Z Z Z) Z (zd (zb hN Z (zm (yr qa Z Z Z) Z (bE H fun r37 h38 H=>za (zo (z9u (zw.mk 0 x27 x29 r35.1 r35.2.1 [] r31 r24.2.1) r37 h38) ⟨.inl Z,U⟩) (qe Z (zb hN Z (qd Z (za (yy Z Z) ?_))))))))))))))))))))
       refine zh _ Z (fun h39 => ?_) (fun h39 => ?_)
       ·refine tE h39 H fun H=>zb hN Z (za (jh (u':=vagg (qq (zw.mk 0 [] [] [] [] [] [] []))) (je (by exact ⟨yl,yl,yl,yl,yl,yl,ja,yl,U⟩)) (qw [] jm xq Z U)) ?_)
        refine qd Z (zl (yx qa Z Z Z Z) Z (qe Z (qe Z (zk ?_))))
        cases H
        exact ⟨U,.inl ⟨_,_,_,qq (zw.mk 0 [] [] [] [] [] [] []),Z,Z,Z,Z,qa⟩,.inl Z,.inl Z,U⟩
       ·refine fE h39 H fun H=>zn (zb hN Z (zm (yr qa Z Z Z) Z (qd Z (zl (yx qa Z Z Z Z) Z (qe Z (qe Z (zk ?_)))))))
        cases H
        exact ⟨U,.inl ⟨_,_,_,qq (zw.mk 0 x27 x29 r35.1 r35.2.1 [] r31 r24.2.1),Z,Z,Z,Z,qa⟩,.inl Z,.inl Z,U⟩
theorem w63 (l1:(List zg)) (name2:Bs) (r:(Int)) (H:y24 l1 name2=some r):Fn Tryz.prog 61 [vlst (List.map zy l1),vstr name2] (zr [vint r]):=by
 refine ⟨by kernel_rfl,yf (us:=[vint r]) Tryz.func61 Z Z Z Z fun X hN => ?_⟩
 unfold y24 at H
 refine zb hN Z (qe Z (zd (zb hN Z (qd Z (bE H fun r3 h4 H=>za (zo (y85 l1 r3 h4) ⟨.inl Z,U⟩) (qe Z (zb hN Z (qd Z (za (yy Z Z) (zh _ Z (fun h5 => ?_) (fun h5 => ?_)))))))))))
 ·refine tE h5 H fun H=>zb hN Z (qd Z (qe Z (zk ?_)))
  cases H
  exact ⟨U,.inl Z,U⟩
 ·refine fE h5 H fun H=>zn (zd (zb hN Z (qd Z (bE H fun r6 h7 H=>za (zo (z6c name2 r6 h7) ⟨.inl Z,U⟩) (za (yt Z) (zh _ Z (fun h8 => ?_) (fun h8 => ?_)))))))
  ·refine tE h8 H fun H=>zb hN Z (qe Z (zk ?_))
   cases H
   exact ⟨U,.inl Z,U⟩
  ·refine fE h8 H fun H=>zn (zb hN Z (qe Z (zk ?_)))
   cases H
   exact ⟨U,.inl Z,U⟩
theorem x6c (l1:(List zg)) (name2:Bs) (r:((List zg)×Int)) (H:z5q l1 name2=some r):Fn Tryz.prog 15 [vlst (List.map zy l1),vstr name2] (zr [vlst (List.map zy r.1),vint r.2]):=by
 refine ⟨by kernel_rfl,yf (us:=[vlst (List.map zy r.1),vint r.2]) Tryz.func15 Z Z Z Z fun X hN => ?_⟩
 unfold z5q at H
 refine zb hN Z (qe Z (qe Z (zd (zb hN Z (qd Z (qd Z (bE H fun r3 h4 H=>za (zo (w63 l1 name2 r3 h4) ⟨.inl Z,.inl Z,U⟩) (qe Z (zb hN Z (qd Z (za (yy Z Z) (zh _ Z (fun h5 => ?_) (fun h5 => ?_)))))))))))))
 ·refine tE h5 H fun H=>zb hN Z (qd Z (qe Z (qe Z (zk ?_))))
  cases H
  exact ⟨U,.inr ⟨Z,Z⟩,.inl Z,U⟩
 ·refine fE h5 H fun H=>zn (zb hN Z (qd Z (qd Z (bE H fun r6 h7 H=>za (zo (y82 l1 name2 r6 h7) ⟨.inl Z,.inl Z,U⟩) (qe Z (qe Z (zk ?_)))))))
  cases H
  exact ⟨U,.inl Z,.inl Z,U⟩
theorem y3r (s:Bs) (r:Bs) (H:jv s=some r):Fn Tryz.prog 108 [vstr s] (zr [vstr r]):=by
 unfold jv at H
 obtain ⟨⟨h1,h2⟩,h3⟩:=gif H
 cases h3
 refine Yb (by kernel_rfl) fun M w vs hM h => ?_
 have hv:=ui (us:=[.string ⟨s.toArray⟩]) h
 subst hv
 refine (Tryz.strings_ToLower_ascii ⟨s.toArray⟩ w (by simp [ByteArray.size]; omega) (fun j b hb=>z30 h2 j b (by simpa using hb))).mono ?_
 rintro e w' ⟨rfl,hb⟩
 exact ⟨_,Z,Z,Kp.of_below hb⟩

theorem w7j (s1:Bs) (r:(Bs×Int)) (H:xi s1=some r):Fn Tryz.prog 100 [vstr s1] (zr [vstr r.1,vint r.2]):=by
 refine ⟨by kernel_rfl,yf (us:=[vstr r.1,vint r.2]) Tryz.func100 Z Z Z Z fun X hN => ?_⟩
 unfold xi at H
 refine zb hN Z (qe Z (qe Z (zd (zb hN Z (qd Z (bE H fun r2 h3 H=>za (zo (x57 s1 r2 h3) ⟨.inl Z,U⟩) (za (yt Z) (zh _ Z (fun h4 => ?_) (fun h4 => ?_)))))))))
 ·refine tE h4 H fun H=>zb hN Z (qe Z (qe Z (zk ?_)))
  cases H
  exact ⟨U,.inl Z,.inl Z,U⟩
 ·refine fE h4 H fun H=>zn (zb hN Z (qd Z (bE H fun r5 h6 H=>za (zo (y3r s1 r5 h6) ⟨.inl Z,U⟩) (bE H fun r7 h8 H=>za (zo (z0v r5 [58] r7 h8) ⟨.inl Z,.inl Z,U⟩) (qd Z (za (zz Z Z) (za (zz Z Z) (za (zz Z Z) (qe Z (qe Z (qe Z (zd (zb hN Z (qd Z (za (vi Z Z) (qd Z (yp Z Z (fun hc=>ze (.dat _) Z) (yp Z Z (fun hc=>vi (cnd (c:=(!(decide (r7.2.1=[])))) hc) Z) (za (wy Z Z (fun hb=>(cnd (c:=(!(decide (r7.2.1=[])))) (notI hb)))) (qd Z ?_))))))))))))))))))))
  refine yp Z Z (fun hc=>ze (.dat _) Z) (yp Z Z (fun hc=>vi (cnd (c:=(!((decide (r7.2.1=[])) || (decide (r7.2.1=[56,48]))))) hc) Z) (za (wy Z Z (fun hb=>(cnd (c:=(!((decide (r7.2.1=[])) || (decide (r7.2.1=[56,48]))))) (notI hb)))) (zh _ Z (fun h9 => ?_) (fun h9 => ?_))))
  ·refine tE h9 H fun H=>zb hN Z (qd Z (qe Z (qe Z (zk ?_))))
   cases H
   exact ⟨U,.inl Z,.inl Z,U⟩
  ·refine fE h9 H fun H=>zn (zb hN Z (qd Z (gE H fun h10 H=>za (vf Z Z (Nat.le_trans h10 (by decide))) (qd Z (gE H fun h11 H=>za (vf Z Z (Nat.le_trans h11 (by decide))) (qe Z (qe Z (zk ?_))))))))
   cases H
   exact ⟨U,.inl Z,.inl Z,U⟩
theorem z2y (l1:(List Int)) (c2:Int) (r:(Int×(List Int))) (H:Zs l1 c2=some r):FnG Tryz.prog 151 [.ptr 0 0,.dat (vval (.int .u8 c2))] [(0,.box (some 0) 60 [.nptr 0,.row 1 l1.length]),(1,.row 5 1 (List.map yw l1))] (.dat (zr [verr r.1])) [(0,.box (some 0) 60 [.nptr 0,.row 900 r.2.length]),(900,.row 5 1 (List.map yw r.2))]:=by
 refine vy (by kernel_rfl) Tryz.func151 Z Z Z Z fun X A hN => ?_
 refine wi ?_
 unfold Zs at H
 refine zb hN Z (qe Z (zb hN Z (za (ze (.ptr _ _) Z) (zl (x2s x8t Z) Z (zb hN Z (za (ze (.ptr _ _) Z) (za (ze (.ptr _ _) Z) (za (qn Z) (za (zq z7u Z) (zm (zt z7p Z Z) Z (qd Z (za (yd (u':=vlst (List.map yw [c2])) (qj [[_]] z7q ⟨Z,.inl ⟨_,Z,Z,Z⟩,Z,U⟩ Z Z) Z) (gE H fun h3 H=>zl (ke z7q (fun _=>Z) Z Z Z ⟨by simp,by first | (simp; done) | simpa using h3⟩ Z) Z ?_)))))))))))))
 refine za (qn Z) (za (zq z7u Z) (Zn (Zm z7p Z Z (by rw [List.length_map]) Z) Z Z ?_))
 refine zb hN Z (qe Z (zk ?_))
 cases H
 show Cv _ _ _ _
 exact wc (rn [(1,900)]) [(4,.dat (verr 0))] [(0,.box (some (A.bl 0)) 60 [.nptr 0,.row 1 ((l1++[c2]).length)]),(1,.row 5 1 (List.map yw (l1++[c2])))] ⟨Z,U⟩ ⟨Z,Z,U⟩ Z Z ⟨U,[(4,.dat (verr 0))],⟨Z,U⟩,⟨Z,Z,U⟩,Z,.inl ⟨[verr 0],⟨Z,U⟩,Z⟩⟩
theorem x58 (c1:Int) (r:(Bool)) (H:z5n c1=some r):Fn Tryz.prog 203 [vval (.int .u8 c1)] (zr [zi r]):=by
 refine ⟨by kernel_rfl,yf (us:=[zi r]) Tryz.func203 Z Z Z Z fun X hN => ?_⟩
 unfold z5n at H
 refine zb hN Z (qe Z (zb hN Z (qd Z (bE H fun r2 h3 H=>za (zo (y3v c1 r2 h3) ⟨.inl Z,U⟩) (qd Z (yp Z Z (fun hc=>ze (.dat _) Z) (yp Z Z (fun hc=>vk (cnd (c:=(!r2)) hc) Z) (yp Z Z (fun hc=>ze (.dat _) (cnd (c:=(!r2)) hc)) (vd Z Z (fun hc=>ze (.dat _) Z) (vd Z Z (fun hc=>vm (cnd (c:=((!r2) && (decide (97≤c1)))) hc) Z) (yp Z Z (fun hc=>wz (cnd (c:=(!r2)) hc) (fun hb=>(cnd (c:=((!r2) && (decide (97≤c1)))) (andI hc hb))) Z) (za (wy Z Z (fun hb=>(cnd (c:=(!r2)) (notI hb)))) (qd Z (yp Z Z (fun hc=>ze (.dat _) Z) (yp Z Z (fun hc=>vk (cnd (c:=(!(r2 || ((decide (97≤c1)) && (decide (c1≤102)))))) hc) Z) (yp Z Z (fun hc=>ze (.dat _) (cnd (c:=(!(r2 || ((decide (97≤c1)) && (decide (c1≤102)))))) hc)) (vd Z Z (fun hc=>ze (.dat _) Z) (vd Z Z (fun hc=>vm (cnd (c:=((!(r2 || ((decide (97≤c1)) && (decide (c1≤102))))) && (decide (65≤c1)))) hc) Z) (yp Z Z (fun hc=>wz (cnd (c:=(!(r2 || ((decide (97≤c1)) && (decide (c1≤102)))))) hc) (fun hb=>(cnd (c:=((!(r2 || ((decide (97≤c1)) && (decide (c1≤102))))) && (decide (65≤c1)))) (andI hc hb))) Z) (za (wy Z Z (fun hb=>(cnd (c:=(!(r2 || ((decide (97≤c1)) && (decide (c1≤102)))))) (notI hb)))) (qe Z (zk ?_))))))))))))))))))))))
 cases H
 exact ⟨U,.inl Z,U⟩
theorem x56 (s1:Bs) (v2:Int) (r:(Bool)) (H:z0k s1 v2=some r):Fn Tryz.prog 152 [vstr s1,vint v2] (zr [zi r]):=by
 refine ⟨by kernel_rfl,yf (us:=[zi r]) Tryz.func152 Z Z Z Z fun X hN => ?_⟩
 unfold z0k at H
 refine zb hN Z (qe Z (yg (ι:=Bool) (fun i=>[(4,.dat (zi i))]) (fun i=>[]) (fun i=>z1z i=some r) (fun i=>Z) ?_ ?_))
 ·skip
  refine zj hN Z (qd Z (za (ym _ Z Z (.inl ⟨Z,Z⟩)) (qd Z (za (qi tyU9 Z) (za (ye Z Z) (qd Z (yn (j:=5) Z Z (fun h3 => ?_) (fun h3 => ?_) Z)))))))
  ·refine u1 h3 H fun h4 H=>zf Z Z h3 (ze (.dat _) Z) (zf Z Z h3 (ze (.dat _) Z) (zf Z Z h3 (ym _ Z Z (.inl ⟨Z,Z⟩)) (bE H fun x5 h6 H=>zf Z Z h3 (kr tyU9 Z Z h6) (bE H fun r7 h8 H=>zf Z Z h3 (zo (x58 (x5.toNat:Int) r7 h8) ⟨.inl Z,U⟩) (za (ya Z (bTT h4) Z) (qd Z (yn (j:=12) Z Z (fun h9 => ?_) (fun h9 => ?_) Z)))))))
   ·exact u1 h9 H fun h10 H=>zf Z Z h9 (ze (.dat _) Z) (zf Z Z h9 (ze (.dat _) Z) (zf Z Z h9 (ym _ Z Z (.inl ⟨Z,Z⟩)) (bE H fun x11 h12 H=>zf Z Z h9 (kr tyU9 Z Z h12) (bE H fun r13 h14 H=>zf Z Z h9 (zo (x58 (x11.toNat:Int) r13 h14) ⟨.inl Z,U⟩) (za (ya Z (bTT h10) Z) (qe Z ⟨r13,H,⟨Z,U⟩,U⟩))))))
   ·exact u2 h9 H fun h15 H=>zc Z Z h9 (zc Z Z h9 (zc Z Z h9 (zc Z Z h9 (zc Z Z h9 (za (zv Z (bFF h15) Z) (qe Z ⟨false,H,⟨Z,U⟩,U⟩))))))
  ·exact u2 h3 H fun h16 H=>zc Z Z h3 (zc Z Z h3 (zc Z Z h3 (zc Z Z h3 (zc Z Z h3 (za (zv Z (bFF h16) Z) (qd Z (zc Z Z Z (zc Z Z Z (zc Z Z Z (zc Z Z Z (zc Z Z Z (za (zv Z Z Z) (qe Z ⟨false,H,⟨Z,U⟩,U⟩)))))))))))))
 ·rintro v17 H
  replace H:z1z v17=some r:=H
  unfold z1z at H
  refine zk ?_
  cases H
  exact ⟨U,.inl Z,U⟩
theorem w6r (s1:Bs) (base2:Int) (bitSize3:Int) (r:(Int×Int)) (H:z5f s1 base2 bitSize3=some r):Fn Tryz.prog 204 [vstr s1,vint base2,vint bitSize3] (zr [vval (.int .u64 r.1),verr r.2]):=by
 refine ⟨by kernel_rfl,yf (us:=[vval (.int .u64 r.1),verr r.2]) Tryz.func204 Z Z Z Z fun X hN => ?_⟩
 unfold z5f at H
 refine zb hN Z (qe Z (qe Z (zb hN Z (qd Z (qd Z (qd Z (bE H fun r4 h5 H=>za (zo (x6j s1 base2 bitSize3 r4 h5) ⟨.inl Z,.inl Z,.inl Z,U⟩) (qd Z (za (zz Z Z) (za (zz Z Z) (qe Z (qe Z (zd (zb hN Z (qd Z (za (z8d (n:=r4.2) (show Tryz.prog.underlying 62=some (.interface (Tryz.prog.methodsAt 62)) from by kernel_rfl) Z) ?_))))))))))))))))
 refine zh _ Z (fun h6 => ?_) (fun h6 => ?_)
 ·refine tE h6 H fun H=>zb hN Z (qd Z (qd Z (qd Z (qd Z (qd Z (bE H fun r7 h8 H=>za (zo (y8z [80,97,114,115,101,85,105,110,116] s1 base2 bitSize3 r4.2 r7 h8) ⟨.inl Z,.inl Z,.inl Z,.inl Z,.inl Z,U⟩) (qe Z (qe Z (zk ?_)))))))))
  cases H
  exact ⟨U,.inl Z,.inl Z,U⟩
 ·refine fE h6 H fun H=>zn (zb hN Z (qd Z (qe Z (qe Z (zk ?_)))))
  cases H
  exact ⟨U,.inl Z,.inl Z,U⟩
theorem x51 (s1:Bs) (v2:Int) (r:(Int)) (H:z5k s1 v2=some r):Fn Tryz.prog 153 [vstr s1,vint v2] (zr [vval (.int .u8 r)]):=by
 refine ⟨by kernel_rfl,yf (us:=[vval (.int .u8 r)]) Tryz.func153 Z Z Z Z fun X hN => ?_⟩
 unfold z5k at H
 refine zb hN Z (qe Z (zb hN Z (qd Z (qd Z (za (ym _ Z Z (.inl ⟨Z,Z⟩)) (qd Z (za (ym _ Z Z (.inl ⟨Z,Z⟩)) (bE H fun l3 h4 H=>za (vh tyU9 Z Z Z h4) (bE H fun r5 h6 H=>za (zo (w6r l3 16 8 r5 h6) ⟨.inl Z,.inl Z,.inl Z,U⟩) (qd Z (za (zz Z Z) (za (zz Z Z) (qe Z (qe Z (zd (zb hN Z (qd Z (za (z8d (n:=r5.2) (show Tryz.prog.underlying 62=some (.interface (Tryz.prog.methodsAt 62)) from by kernel_rfl) Z) ?_))))))))))))))))))
 refine zh _ Z (fun h7 => ?_) (fun h7 => ?_)
 ·refine tE h7 H fun H=>zb hN Z (qe Z (zk ?_))
  cases H
  exact ⟨U,.inl Z,U⟩
 ·refine fE h7 H fun H=>zn (zb hN Z (qd Z (za (kf Wj tyU5 Z) (qe Z (zk ?_)))))
  cases H
  exact ⟨U,.inl Z,U⟩
theorem x59 (c1:Int) (r:(Bool)) (H:Yk c1=some r):Fn Tryz.prog 154 [vval (.int .u8 c1)] (zr [zi r]):=by
 refine ⟨by kernel_rfl,yf (us:=[zi r]) Tryz.func154 Z Z Z Z fun X hN => ?_⟩
 unfold Yk at H
 refine zb hN Z (qe Z (yg (ι:=Bool) (fun i=>[(2,.dat (zi i))]) (fun i=>[]) (fun i=>z4x i=some r) (fun i=>Z) ?_ ?_))
 ·skip
  refine zj hN Z (qd Z (bE H fun r2 h3 H=>za (zo (y83 c1 r2 h3) ⟨.inl Z,U⟩) (qd Z (yn (j:=2) Z Z (fun h4 => ?_) (fun h4 => ?_) Z))))
  ·refine u3 h4 H fun h5 H=>zf Z Z h4 (ze (.dat _) Z) (bE H fun r6 h7 H=>zf Z Z h4 (zo (y3v c1 r6 h7) ⟨.inl Z,U⟩) (za (zv Z (bFF h5) Z) (qd Z (yn (j:=6) Z Z (fun h8 => ?_) (fun h8 => ?_) Z))))
   ·exact u3 h8 H fun h9 H=>zf Z Z h8 (ze (.dat _) Z) (bE H fun r10 h11 H=>zf Z Z h8 (zo (x5u [45,46,95,126] c1 r10 h11) ⟨.inl Z,.inl Z,U⟩) (zf Z Z h8 (vk Z Z) (za (zv Z (bFF h9) Z) (qe Z ⟨decide (0≤r10),H,⟨Z,U⟩,U⟩))))
   ·exact u4 h8 H fun h12 H=>zc Z Z h8 (zc Z Z h8 (zc Z Z h8 (za (ya Z (bTT h12) Z) (qe Z ⟨true,H,⟨Z,U⟩,U⟩))))
  ·exact u4 h4 H fun h13 H=>zc Z Z h4 (zc Z Z h4 (za (ya Z (bTT h13) Z) (qd Z (zc Z Z Z (zc Z Z Z (zc Z Z Z (za (ya Z Z Z) (qe Z ⟨true,H,⟨Z,U⟩,U⟩))))))))
 ·rintro v14 H
  replace H:z4x v14=some r:=H
  unfold z4x at H
  refine zk ?_
  cases H
  exact ⟨U,.inl Z,U⟩
theorem x55 (c1:Int) (r:(Bs)) (H:Yi c1=some r):Fn Tryz.prog 155 [vval (.int .u8 c1)] (zr [vstr r]):=by
 refine ⟨by kernel_rfl,yf (us:=[vstr r]) Tryz.func155 Z Z Z Z fun X hN => ?_⟩
 unfold Yi at H
 refine zb hN Z (qe Z (zd (ww mixed hN Z Z (qd Z (za (yd (z1o Z Z (by decide)) Z) (bE H fun x2 h3 H=>za (y1u tyU9 Z Z h3) (qd Z (za (yd (x2w Z Z) Z) (bE H fun x4 h5 H=>za (y1u tyU9 Z Z h5) (za (yd (u':=vlst (List.map yw [37,(x2.toNat:Int),(x4.toNat:Int)])) (qj [[_],[_],[_]] z7q ⟨Z,.inl ⟨_,Z,Z,Z⟩,Z,Z,.inl ⟨_,Z,Z,Z⟩,Z,Z,.inl ⟨_,Z,Z,Z⟩,Z,U⟩ Z Z) Z) (za (x2r (C:=yw) z1e tyU5 tyU9 (fun _=>Z) Z) (qe Z ⟨Z,?_⟩))))))))))))
 refine zk ?_
 cases H
 exact ⟨U,.inl Z,U⟩
theorem w62 (s1:Bs) (r:(Bs×Bool)) (H:z2h s1=some r):Fn Tryz.prog 84 [vstr s1] (zr [vstr r.1,zi r.2]):=by
 refine ⟨by kernel_rfl,yf (us:=[vstr r.1,zi r.2]) Tryz.func84 Z Z Z Z fun X hN => ?_⟩
 unfold z2h at H
 refine zb hN Z (qe Z (qe Z (zb hN Z (zl (qt 1 z35 Z) Z (z7b 1 0 (.nptr 1) Z Z z4q (Yv 1 1 2 5 1 Z Z Z Z (yg (ι:=(List Int)) (fun i=>[(4,.ptr 1 0)]) (fun i=>[(1,.box none 60 [.nptr 1,.row 2 i.length]),(2,.row 5 1 (List.map yw i))]) (fun i=>z8o i=some r) (fun i=>Z) ?_ ?_)))))))
 ·refine wi (zb hN Z (qe Z (yc (xo (fun (s:Int×(List Int))=>[(0,.dat (vstr s1)),(4,.ptr 1 0),(5,.dat (vint s.1))]) (fun (s:Int×(List Int))=>[(1,.box none 60 [.nptr 1,.row 2 s.2.length]),(2,.row 5 1 (List.map yw s.2))]) (0,([]:List Int)) H ⟨Z,Z,Z,U⟩ ⟨Z,Z,U⟩ (fun _=>Z) ?_))))
  rintro ⟨i2,l3⟩ q4 H hq4
  replace H:un s1 i2 l3=some q4:=H
  unfold un at H
  refine wi (zd (zb hN Z (qd Z (qd Z (za (qi tyU9 Z) (za (ye Z Z) (zh _ Z (fun h5 => ?_) (fun h5 => ?_))))))))
  ·refine tE h5 H fun H=>zn (yg (ι:=Int×(List Int)) (fun i=>[(0,.dat (vstr s1)),(4,.ptr 1 0),(5,.dat (vint i.1))]) (fun i=>[(1,.box none 60 [.nptr 1,.row 7 i.2.length]),(7,.row 5 1 (List.map yw i.2))]) (fun i=>z1y i.1 i.2=some q4) (fun i=>Z) ?_ ?_)
   ·refine wi (yc (zd (zb hN Z (qd Z (qd Z (bE H fun x6 h7 H=>za (kr tyU9 Z Z h7) (za (yy Z Z) (zh _ Z (fun h8 => ?_) (fun h8 => ?_)))))))))
    ·refine tE h8 H fun H=>zb hN Z (qd Z (qd Z (za (kr tyU9 Z Z h7) (bE H fun r9 h10 H=>qk (rn [(0,1),(1,2),(900,3)]) [(0,_,_,some _),(1,_,_,none)] [(900,_)] (z2y l3 (x6.toNat:Int) r9 h10) ⟨Z,Z,Z,U⟩ ⟨.inl (.inl Z),.inl (.inl Z),U⟩ ⟨⟨⟨Z,Z⟩,U⟩,⟨⟨Z,Z,Z⟩,U⟩,U⟩ Z (yz ?_)))))
     show Cv _ _ _ _
     exact wc (rn [(3,7)]) [(0,.dat (vstr s1)),(4,.ptr 1 0),(5,.dat (vint i2))] [(1,.box none 60 [.nptr 1,.row 3 r9.2.length]),(3,.row 5 1 (List.map yw r9.2))] ⟨Z,Z,Z,U⟩ ⟨Z,Z,U⟩ Z Z ⟨(i2,r9.2),H,⟨Z,Z,Z,U⟩,⟨Z,Z,U⟩⟩
    ·refine fE h8 H fun H=>zn (zd (zb hN Z (qd Z (qd Z (bE H fun r11 h12 H=>za (zo (x56 s1 i2 r11 h12) ⟨.inl Z,.inl Z,U⟩) (za (yt Z) (zh _ Z (fun h13 => ?_) (fun h13 => ?_))))))))
     ·refine tE h13 H fun H=>zb hN Z (qe Z (qe Z (zk ?_)))
      replace H:=retl H hq4
      cases H
      show Cv _ _ _ _
      refine wd ?_
      show Cv _ _ _ _
      refine wd ?_
      show Cv _ _ _ _
      exact wd ⟨U,.inl Z,.inl Z,U⟩
     ·refine fE h13 H fun H=>zn (yg (ι:=(List Int)) (fun i=>[(0,.dat (vstr s1)),(4,.ptr 1 0),(5,.dat (vint i2))]) (fun i=>[(1,.box none 60 [.nptr 1,.row 6 i.length]),(6,.row 5 1 (List.map yw i))]) (fun i=>z4t i2 i=some q4) (fun i=>Z) ?_ ?_)
      ·refine wi (zb hN Z (qd Z (qd Z (bE H fun r14 h15 H=>za (zo (x51 s1 i2 r14 h15) ⟨.inl Z,.inl Z,U⟩) (qe Z (zb hN Z (qd Z (bE H fun r16 h17 H=>za (zo (x59 r14 r16 h17) ⟨.inl Z,U⟩) (zh _ Z (fun h18 => ?_) (fun h18 => ?_))))))))))
       ·refine tE h18 H fun H=>zj hN Z (qd Z (bE H fun r19 h20 H=>qk (rn [(0,1),(1,2),(900,4)]) [(0,_,_,some _),(1,_,_,none)] [(900,_)] (z2y l3 r14 r19 h20) ⟨Z,Z,Z,U⟩ ⟨.inl (.inl Z),.inl (.inl Z),U⟩ ⟨⟨⟨Z,Z⟩,U⟩,⟨⟨Z,Z,Z⟩,U⟩,U⟩ Z (wm ?_)))
        show Cv _ _ _ _
        exact wc (rn [(4,6)]) [(0,.dat (vstr s1)),(4,.ptr 1 0),(5,.dat (vint i2))] [(1,.box none 60 [.nptr 1,.row 4 r19.2.length]),(4,.row 5 1 (List.map yw r19.2))] ⟨Z,Z,Z,U⟩ ⟨Z,Z,U⟩ Z Z ⟨r19.2,H,⟨Z,Z,Z,U⟩,⟨Z,Z,U⟩⟩
       ·refine fE h18 H fun H=>zj hN Z (qd Z (bE H fun r21 h22 H=>za (zo (x55 r14 r21 h22) ⟨.inl Z,U⟩) (bE H fun r23 h24 H=>qk (rn [(0,1),(1,2),(900,5)]) [(0,_,_,some _),(1,_,_,none)] [(900,_)] (Zx l3 r21 r23 h24) ⟨Z,Z,Z,U⟩ ⟨.inl (.inl Z),.inl (.inl Z),U⟩ ⟨⟨⟨Z,Z⟩,U⟩,⟨⟨Z,Z,Z⟩,U⟩,U⟩ Z (wm ?_))))
        show Cv _ _ _ _
        exact wc (rn [(5,6)]) [(0,.dat (vstr s1)),(4,.ptr 1 0),(5,.dat (vint i2))] [(1,.box none 60 [.nptr 1,.row 5 r23.2.2.length]),(5,.row 5 1 (List.map yw r23.2.2))] ⟨Z,Z,Z,U⟩ ⟨Z,Z,U⟩ Z Z ⟨r23.2.2,H,⟨Z,Z,Z,U⟩,⟨Z,Z,U⟩⟩
      ·rintro l25 H
       replace H:z4t i2 l25=some q4:=H
       unfold z4t at H
       refine zj hN Z (qd Z (za (ym _ Z Z (.inl ⟨Z,Z⟩)) (qe Z (wm ?_))))
       show Cv _ _ _ _
       exact wc (rn [(6,7)]) [(0,.dat (vstr s1)),(4,.ptr 1 0),(5,.dat (vint (wr (i2+2))))] [(1,.box none 60 [.nptr 1,.row 6 l25.length]),(6,.row 5 1 (List.map yw l25))] ⟨Z,Z,Z,U⟩ ⟨Z,Z,U⟩ Z Z ⟨(wr (i2+2),l25),H,⟨Z,Z,Z,U⟩,⟨Z,Z,U⟩⟩
   ·rintro ⟨i26,l27⟩ H
    replace H:z1y i26 l27=some q4:=H
    unfold z1y at H
    refine zj hN Z (qd Z (za (ym _ Z Z (.inl ⟨Z,Z⟩)) (qe Z (wm ?_))))
    show Cv _ _ _ _
    exact wc (rn [(7,2)]) [(0,.dat (vstr s1)),(4,.ptr 1 0),(5,.dat (vint (wr (i26+1))))] [(1,.box none 60 [.nptr 1,.row 7 l27.length]),(7,.row 5 1 (List.map yw l27))] ⟨Z,Z,Z,U⟩ ⟨Z,Z,U⟩ Z Z ⟨_,qm H,⟨Z,Z,Z,U⟩,⟨Z,Z,U⟩⟩
  ·refine fE h5 H fun H=>yz ?_
   replace H:=outl H hq4
   show Cv _ _ _ _
   refine wd ?_
   show Cv _ _ _ _
   exact wd ⟨l3,H,⟨Z,U⟩,⟨Z,Z,U⟩⟩
 ·rintro l28 H
  replace H:z8o l28=some r:=H
  unfold z8o at H
  refine zb hN Z (gE H fun h29 H=>qk (rn [(0,1),(1,2)]) [(0,_,_,none),(1,_,_,none)] [] (z6a h29 (C:=yw) (fun _=>Z)) ⟨Z,Z,U⟩ ⟨.inl (.inl Z),U⟩ ⟨⟨⟨Z,Z⟩,U⟩,⟨⟨Z,Z,Z⟩,U⟩,U⟩ Z (qe Z (qe Z (zk ?_))))
  cases H
  exact ⟨U,.inl Z,.inl Z,U⟩
theorem x6e (s1:Bs) (r:(Bs×Int)) (H:Qs s1=some r):Fn Tryz.prog 36 [vstr s1] (zr [vstr r.1,vint r.2]):=by
 refine ⟨by kernel_rfl,yf (us:=[vstr r.1,vint r.2]) Tryz.func36 Z Z Z Z fun X hN => ?_⟩
 unfold Qs at H
 refine zb hN Z (qe Z (qe Z (zd (zb hN Z (qd Z (bE H fun r2 h3 H=>za (zo (x6d s1 r2 h3) ⟨.inl Z,U⟩) (qe Z (zb hN Z (qd Z (za (yy Z Z) (zh _ Z (fun h4 => ?_) (fun h4 => ?_))))))))))))
 ·refine tE h4 H fun H=>zb hN Z (qd Z (qe Z (qe Z (zk ?_))))
  cases H
  exact ⟨U,.inl Z,.inl Z,U⟩
 ·refine fE h4 H fun H=>zn (zb hN Z (qd Z (bE H fun r5 h6 H=>za (zo (w62 s1 r5 h6) ⟨.inl Z,U⟩) (qd Z (za (zz Z Z) (za (zz Z Z) (qe Z (qe Z (zd (zb hN Z (qd Z (za (yt Z) (zh _ Z (fun h7 => ?_) (fun h7 => ?_))))))))))))))
  ·refine tE h7 H fun H=>zb hN Z (qe Z (qe Z (zk ?_)))
   cases H
   exact ⟨U,.inl Z,.inl Z,U⟩
  ·refine fE h7 H fun H=>zn (zb hN Z (qe Z (zb hN Z (qd Z (bE H fun l8 h9 H=>za (vh tyU9 Z Z Z h9) (bE H fun r10 h11 H=>za (zo (z6b l8 [47] r10 h11) ⟨.inl Z,.inl Z,U⟩) (qe Z (zd (zb hN Z (qd Z (za (qh wl Z) (qd Z (yc (ug 6 1 9 1 Z Z Z (gE H fun h15 H=>va (fun (k13:Nat) (s:(List Bs))=>[(6,.row 1 s.length),(7,.dat (vlst (List.map zx r10))),(25,.dat (vlst (List.map zx r10))),(26,.dat (vint (r10.length:Int))),(27,.dat (vint (k13:Int)))]) (fun (k13:Nat) (s:(List Bs))=>[(1,.row 9 1 (List.map zx s))]) [] H ⟨Z,Z,Z,Z,Z,U⟩ ⟨Z,U⟩ (fun _ _=>Z) ?_ ?_)))))))))))))))
   ·rintro l12 H
    replace H:z5a l12=some r:=H
    unfold z5a at H
    refine zb hN Z (za (ye Z Z) (zd (zh _ Z (fun h=>(lt_t h).elim) (fun h => ?_))))
    refine yz (zd (z1l 6 1 Z Z Z (zj hN Z (qd Z (bE H fun r17 h18 H=>za (zo (y8y l12 [47] r17 h18) ⟨.inl Z,.inl Z,U⟩) (gE H fun h19 H=>za (vf Z Z (Nat.le_trans h19 (by decide))) (qe Z (qe Z (zk ?_)))))))))
    cases H
    exact ⟨U,.inl Z,.inl Z,U⟩
   ·rintro k13 x16 l12 q14 h20 h21 H hq14
    replace H:z18 r10 k13 x16 l12=some q14:=H
    unfold z18 at H
    refine wi (zb hN Z (za (ye Z Z) (zd (zh _ Z (fun h => ?_) (fun h=>(lt_f h20 h).elim)))))
    refine zn (yg (ι:=(List Bs)) (fun i=>[(6,.row 4 i.length),(7,.dat (vlst (List.map zx r10))),(25,.dat (vlst (List.map zx r10))),(26,.dat (vint (r10.length:Int))),(27,.dat (vint (k13:Int)))]) (fun i=>[(4,.row 9 1 (List.map zx i))]) (fun i=>z19 i=some q14) (fun i=>Z) ?_ ?_)
    ·refine wi (yc (zb hN Z (qd Z (za (wj vp (fun _=>Z) Z Z h21) (za (wh tyS9 Z (qp h21) Z) (qe Z (qe Z (yg (ι:=(List Bs)) (fun i=>[(6,.row 3 i.length),(7,.dat (vlst (List.map zx r10))),(8,.dat (vint (k13:Int))),(25,.dat (vlst (List.map zx r10))),(26,.dat (vint (r10.length:Int))),(27,.dat (vint (k13:Int)))]) (fun i=>[(3,.row 9 1 (List.map zx i))]) (fun i=>z48 r10 k13 i=some q14) (fun i=>Z) ?_ ?_))))))))
     ·refine wi (zb hN Z (qd Z (yc (zb hN Z (za (vi Z Z) (qe Z (zh _ Z (fun h22 => ?_) (fun h22 => ?_))))))))
      ·refine tE h22 H fun H=>zn ?_
       show Cv _ _ _ _
       exact wc (rn [(1,3)]) [(6,.row 1 l12.length),(7,.dat (vlst (List.map zx r10))),(8,.dat (vint (k13:Int))),(25,.dat (vlst (List.map zx r10))),(26,.dat (vint (r10.length:Int))),(27,.dat (vint (k13:Int)))] [(1,.row 9 1 (List.map zx l12))] ⟨Z,Z,Z,Z,Z,Z,U⟩ ⟨Z,U⟩ Z Z ⟨l12,H,⟨Z,Z,Z,Z,Z,Z,U⟩,⟨Z,U⟩⟩
      ·refine fE h22 H fun H=>zb hN Z (za (vi Z Z) (qe Z (zh _ Z (fun h23 => ?_) (fun h23 => ?_))))
       ·refine tE h23 H fun H=>zj hN Z (za (ze (.row _ _) Z) (za (ze (.row _ _) Z) (zm (Wp wl Z Z) Z (za (ym _ Z Z (.inr (.inl ⟨Z,Z⟩))) (za (w11 Z Z) (gE H fun h24 H=>y64 (y6b (C:=zx) 2 vp Z Z Z h24) Z Z (za (qs (.row _ _) Z) (wm ?_))))))))
        show Cv _ _ _ _
        exact wc (rn [(2,3)]) [(6,.row 2 ((max (wr ((l12.length:Int) - 1)) 0).toNat)),(7,.dat (vlst (List.map zx r10))),(8,.dat (vint (k13:Int))),(25,.dat (vlst (List.map zx r10))),(26,.dat (vint (r10.length:Int))),(27,.dat (vint (k13:Int)))] [(2,.row 9 1 (List.map zx (l12.take (max (wr ((l12.length:Int) - 1)) 0).toNat)))] ⟨Z,Z,Z,Z,Z,Z,U⟩ ⟨Z,U⟩ Z Z ⟨(l12.take (max (wr ((l12.length:Int) - 1)) 0).toNat),H,⟨congrArg (Slot.row 3) ((y0u h24)).symm,Z,Z,Z,Z,Z,U⟩,⟨Z,U⟩⟩
       ·refine fE h23 H fun H=>zb hN Z (za (ze (.row _ _) Z) (qd Z (za (yd (u':=vlst (List.map zx [x16])) (qj [[_]] qr ⟨Z,.inl ⟨_,Z,Z,Z⟩,Z,U⟩ Z Z) Z) (gE H fun h25 H=>zl (ke qr (fun _=>Z) Z Z Z ⟨by simp,by first | (simp; done) | simpa using h25⟩ Z) Z ?_))))
        refine za (qs (.row _ _) Z) (yz ?_)
        show Cv _ _ _ _
        refine wd ?_
        show Cv _ _ _ _
        exact wc (rn [(1,4)]) [(6,.row 1 ((l12++[x16]).length)),(7,.dat (vlst (List.map zx r10))),(25,.dat (vlst (List.map zx r10))),(26,.dat (vint (r10.length:Int))),(27,.dat (vint (k13:Int)))] [(1,.row 9 1 (List.map zx (l12++[x16])))] ⟨Z,Z,Z,Z,Z,U⟩ ⟨Z,U⟩ Z Z ⟨(l12++[x16]),H,⟨Z,Z,Z,Z,Z,U⟩,⟨Z,U⟩⟩
     ·rintro out26 H
      replace H:z48 r10 k13 out26=some q14:=H
      unfold z48 at H
      refine zb hN Z (qd Z (qd Z (za (qh wl Z) (za (ym _ Z Z (.inr (.inl ⟨Z,Z⟩))) (za (yq Z Z) (zh _ Z (fun h27 => ?_) (fun h27 => ?_)))))))
      ·refine tE h27 H fun H=>zj hN Z (za (ze (.row _ _) Z) (za (yd (u':=vlst (List.map zx [[]])) (qj [[_]] qr ⟨Z,.inl ⟨_,Z,Z,Z⟩,Z,U⟩ Z Z) Z) (gE H fun h28 H=>zl (ke qr (fun _=>Z) Z Z Z ⟨by simp,by first | (simp; done) | simpa using h28⟩ Z) Z ?_)))
       refine za (qs (.row _ _) Z) (wm ?_)
       show Cv _ _ _ _
       exact wc (rn [(3,4)]) [(6,.row 3 ((out26++([[]])).length)),(7,.dat (vlst (List.map zx r10))),(25,.dat (vlst (List.map zx r10))),(26,.dat (vint (r10.length:Int))),(27,.dat (vint (k13:Int)))] [(3,.row 9 1 (List.map zx (out26++([[]]))))] ⟨Z,Z,Z,Z,Z,U⟩ ⟨Z,U⟩ Z Z ⟨(out26++([[]])),H,⟨Z,Z,Z,Z,Z,U⟩,⟨Z,U⟩⟩
      ·refine fE h27 H fun H=>zn ?_
       show Cv _ _ _ _
       exact wc (rn [(3,4)]) [(6,.row 3 out26.length),(7,.dat (vlst (List.map zx r10))),(25,.dat (vlst (List.map zx r10))),(26,.dat (vint (r10.length:Int))),(27,.dat (vint (k13:Int)))] [(3,.row 9 1 (List.map zx out26))] ⟨Z,Z,Z,Z,Z,U⟩ ⟨Z,U⟩ Z Z ⟨out26,H,⟨Z,Z,Z,Z,Z,U⟩,⟨Z,U⟩⟩
    ·rintro out29 H
     replace H:z19 out29=some q14:=H
     unfold z19 at H
     refine zj hN Z (za (qy Z Z (by omega)) (qd Z (wm ?_)))
     show Cv _ _ _ _
     exact wc (rn [(4,1)]) [(6,.row 4 out29.length),(7,.dat (vlst (List.map zx r10))),(25,.dat (vlst (List.map zx r10))),(26,.dat (vint (r10.length:Int))),(27,.dat (vint ((k13:Int)+1)))] [(4,.row 9 1 (List.map zx out29))] ⟨Z,Z,Z,Z,Z,U⟩ ⟨Z,U⟩ Z Z ⟨_,qm H,⟨Z,Z,Z,Z,Z,U⟩,⟨Z,U⟩⟩
theorem x6b (s1:Bs) (plus2:Bool) (r:(Bs×Bool)) (H:z0m s1 plus2=some r):Fn Tryz.prog 163 [vstr s1,zi plus2] (zr [vstr r.1,zi r.2]):=by
 refine ⟨by kernel_rfl,yf (us:=[vstr r.1,zi r.2]) Tryz.func163 Z Z Z Z fun X hN => ?_⟩
 unfold z0m at H
 refine zb hN Z (qe Z (qe Z (zb hN Z (zl (qt 1 z35 Z) Z (z7b 1 0 (.nptr 1) Z Z z4q (Yv 1 1 2 5 1 Z Z Z Z (yg (ι:=(List Int)) (fun i=>[(6,.ptr 1 0)]) (fun i=>[(1,.box none 60 [.nptr 1,.row 2 i.length]),(2,.row 5 1 (List.map yw i))]) (fun i=>z8p i=some r) (fun i=>Z) ?_ ?_)))))))
 ·refine wi (zb hN Z (qe Z (yc (xo (fun (s:Int×(List Int))=>[(0,.dat (vstr s1)),(1,.dat (zi plus2)),(6,.ptr 1 0),(7,.dat (vint s.1))]) (fun (s:Int×(List Int))=>[(1,.box none 60 [.nptr 1,.row 2 s.2.length]),(2,.row 5 1 (List.map yw s.2))]) (0,([]:List Int)) H ⟨Z,Z,Z,Z,U⟩ ⟨Z,Z,U⟩ (fun _=>Z) ?_))))
  rintro ⟨i3,l4⟩ q5 H hq5
  replace H:ku s1 plus2 i3 l4=some q5:=H
  unfold ku at H
  refine wi (zd (zb hN Z (qd Z (qd Z (za (qi tyU9 Z) (za (ye Z Z) (zh _ Z (fun h6 => ?_) (fun h6 => ?_))))))))
  ·refine tE h6 H fun H=>zn (yg (ι:=Int×(List Int)) (fun i=>[(0,.dat (vstr s1)),(1,.dat (zi plus2)),(6,.ptr 1 0),(7,.dat (vint i.1))]) (fun i=>[(1,.box none 60 [.nptr 1,.row 6 i.2.length]),(6,.row 5 1 (List.map yw i.2))]) (fun i=>Qg i.1 i.2=some q5) (fun i=>Z) ?_ ?_)
   ·refine wi (yc (yc (zb hN Z (qd Z (qd Z (bE H fun x7 h8 H=>za (kr tyU9 Z Z h8) (za (yq Z Z) (qd Z (ql Z Z (fun hc=>ze (.dat _) Z) (za (wz Z (fun hb=>(cnd (c:=(decide ((x7.toNat:Int)=43))) hb)) Z) (qe Z (zh _ Z (fun h9 => ?_) (fun h9 => ?_)))))))))))))
    ·refine tE h9 H fun H=>zj hN Z (bE H fun r10 h11 H=>qk (rn [(0,1),(1,2),(900,3)]) [(0,_,_,some _),(1,_,_,none)] [(900,_)] (z2y l4 32 r10 h11) ⟨Z,Z,Z,U⟩ ⟨.inl (.inl Z),.inl (.inl Z),U⟩ ⟨⟨⟨Z,Z⟩,U⟩,⟨⟨Z,Z,Z⟩,U⟩,U⟩ Z (wm ?_))
     show Cv _ _ _ _
     exact wc (rn [(3,6)]) [(0,.dat (vstr s1)),(1,.dat (zi plus2)),(6,.ptr 1 0),(7,.dat (vint i3))] [(1,.box none 60 [.nptr 1,.row 3 r10.2.length]),(3,.row 5 1 (List.map yw r10.2))] ⟨Z,Z,Z,Z,U⟩ ⟨Z,Z,U⟩ Z Z ⟨(i3,r10.2),H,⟨Z,Z,Z,Z,U⟩,⟨Z,Z,U⟩⟩
    ·refine fE h9 H fun H=>zb hN Z (qd Z (qd Z (za (kr tyU9 Z Z h8) (za (yy Z Z) (qe Z (zh _ Z (fun h12 => ?_) (fun h12 => ?_)))))))
     ·refine tE h12 H fun H=>zj hN Z (qd Z (qd Z (za (kr tyU9 Z Z h8) (bE H fun r13 h14 H=>qk (rn [(0,1),(1,2),(900,4)]) [(0,_,_,some _),(1,_,_,none)] [(900,_)] (z2y l4 (x7.toNat:Int) r13 h14) ⟨Z,Z,Z,U⟩ ⟨.inl (.inl Z),.inl (.inl Z),U⟩ ⟨⟨⟨Z,Z⟩,U⟩,⟨⟨Z,Z,Z⟩,U⟩,U⟩ Z (wm ?_)))))
      show Cv _ _ _ _
      exact wc (rn [(4,6)]) [(0,.dat (vstr s1)),(1,.dat (zi plus2)),(6,.ptr 1 0),(7,.dat (vint i3))] [(1,.box none 60 [.nptr 1,.row 4 r13.2.length]),(4,.row 5 1 (List.map yw r13.2))] ⟨Z,Z,Z,Z,U⟩ ⟨Z,Z,U⟩ Z Z ⟨(i3,r13.2),H,⟨Z,Z,Z,Z,U⟩,⟨Z,Z,U⟩⟩
     ·refine fE h12 H fun H=>zb hN Z (qd Z (qd Z (bE H fun r15 h16 H=>za (zo (x56 s1 i3 r15 h16) ⟨.inl Z,.inl Z,U⟩) (za (yt Z) (qe Z (zh _ Z (fun h17 => ?_) (fun h17 => ?_)))))))
      ·refine tE h17 H fun H=>zb hN Z (qe Z (qe Z (zk ?_)))
       replace H:=retl H hq5
       cases H
       show Cv _ _ _ _
       refine wd ?_
       show Cv _ _ _ _
       refine wd ?_
       show Cv _ _ _ _
       exact wd ⟨U,.inl Z,.inl Z,U⟩
      ·refine fE h17 H fun H=>zb hN Z (qd Z (qd Z (bE H fun r18 h19 H=>za (zo (x51 s1 i3 r18 h19) ⟨.inl Z,.inl Z,U⟩) (bE H fun r20 h21 H=>qk (rn [(0,1),(1,2),(900,5)]) [(0,_,_,some _),(1,_,_,none)] [(900,_)] (z2y l4 r18 r20 h21) ⟨Z,Z,Z,U⟩ ⟨.inl (.inl Z),.inl (.inl Z),U⟩ ⟨⟨⟨Z,Z⟩,U⟩,⟨⟨Z,Z,Z⟩,U⟩,U⟩ Z (zj hN Z (qd Z (za (ym _ Z Z (.inl ⟨Z,Z⟩)) (qe Z (wm ?_)))))))))
       show Cv _ _ _ _
       exact wc (rn [(5,6)]) [(0,.dat (vstr s1)),(1,.dat (zi plus2)),(6,.ptr 1 0),(7,.dat (vint (wr (i3+2))))] [(1,.box none 60 [.nptr 1,.row 5 r20.2.length]),(5,.row 5 1 (List.map yw r20.2))] ⟨Z,Z,Z,Z,U⟩ ⟨Z,Z,U⟩ Z Z ⟨(wr (i3+2),r20.2),H,⟨Z,Z,Z,Z,U⟩,⟨Z,Z,U⟩⟩
   ·rintro ⟨i22,l23⟩ H
    replace H:Qg i22 l23=some q5:=H
    unfold Qg at H
    refine zj hN Z (qd Z (za (ym _ Z Z (.inl ⟨Z,Z⟩)) (qe Z (wm ?_))))
    show Cv _ _ _ _
    exact wc (rn [(6,2)]) [(0,.dat (vstr s1)),(1,.dat (zi plus2)),(6,.ptr 1 0),(7,.dat (vint (wr (i22+1))))] [(1,.box none 60 [.nptr 1,.row 6 l23.length]),(6,.row 5 1 (List.map yw l23))] ⟨Z,Z,Z,Z,U⟩ ⟨Z,Z,U⟩ Z Z ⟨_,qm H,⟨Z,Z,Z,Z,U⟩,⟨Z,Z,U⟩⟩
  ·refine fE h6 H fun H=>yz ?_
   replace H:=outl H hq5
   show Cv _ _ _ _
   refine wd ?_
   show Cv _ _ _ _
   exact wd ⟨l4,H,⟨Z,U⟩,⟨Z,Z,U⟩⟩
 ·rintro l24 H
  replace H:z8p l24=some r:=H
  unfold z8p at H
  refine zb hN Z (gE H fun h25 H=>qk (rn [(0,1),(1,2)]) [(0,_,_,none),(1,_,_,none)] [] (z6a h25 (C:=yw) (fun _=>Z)) ⟨Z,Z,U⟩ ⟨.inl (.inl Z),U⟩ ⟨⟨⟨Z,Z⟩,U⟩,⟨⟨Z,Z,Z⟩,U⟩,U⟩ Z (qe Z (qe Z (zk ?_))))
  cases H
  exact ⟨U,.inl Z,.inl Z,U⟩
theorem w6v (s1:(List zp)) (p1:zp→Option (Bool)) (fv1:Nat) (us1:List V) (hp1:∀ a0 r,p1 a0=some r→Fn Tryz.prog fv1 ([vagg (qz a0)]++us1) (zr [zi r])) (r:(Int)) (H:y70 s1 p1=some r):Fn Tryz.prog 164 [vlst (List.map qz s1),vfn fv1 us1] (zr [vint r]):=by
 refine ⟨by kernel_rfl,yf (us:=[vint r]) Tryz.func164 Z Z Z Z fun X hN => ?_⟩
 unfold y70 at H
 refine zb hN Z (qe Z (zd (zb hN Z (qd Z (za (qh z1f Z) (qd Z (yc (gE H fun h4 H=>va (fun (k2:Nat) (s:Unit)=>[(0,.dat (vlst (List.map qz s1))),(1,.dat (vfn fv1 us1)),(7,.dat (vint (s1.length:Int))),(8,.dat (vint (k2:Int)))]) (fun (k2:Nat) (s:Unit)=>[]) () H ⟨Z,Z,Z,Z,U⟩ U (fun _ _=>Z) ?_ ?_))))))))
 ·rintro ⟨⟩ H
  replace H:y6w=some r:=H
  unfold y6w at H
  refine zb hN Z (za (ye Z Z) (zd (zh _ Z (fun h=>(lt_t h).elim) (fun h => ?_))))
  refine yz (zb hN Z (qe Z (zk ?_)))
  cases H
  exact ⟨U,.inl Z,U⟩
 ·rintro k2 x5 ⟨⟩ q3 h6 h7 H hq3
  replace H:y6v p1 k2 x5=some q3:=H
  unfold y6v at H
  refine zb hN Z (za (ye Z Z) (zd (zh _ Z (fun h => ?_) (fun h=>(lt_f h6 h).elim))))
  refine zn (zd (yc (zb hN Z (qd Z (qe Z (zb hN Z (qd Z (qd Z (qd Z (za (wj xt (fun _=>Z) Z Z h7) (za (xa ua Z (qp h7) Z) (bE H fun r8 h9 H=>za (z1q (hp1 x5 r8 h9) Z ⟨.inl Z,U⟩) (zh _ Z (fun h10 => ?_) (fun h10 => ?_))))))))))))))
  ·refine tE h10 H fun H=>zb hN Z (qd Z (qe Z (zk ?_)))
   replace H:=retl H hq3
   cases H
   exact ⟨U,.inl Z,U⟩
  ·exact fE h10 H fun H=>zn (zj hN Z (za (qy Z Z (by omega)) (qd Z ⟨_,qm H,⟨Z,Z,Z,Z,U⟩,U⟩)))
theorem w5o (s1:(List zp)) (p1:zp→Option (Bool)) (fv1:Nat) (us1:List V) (hp1:∀ a0 r,p1 a0=some r→Fn Tryz.prog fv1 ([vagg (qz a0)]++us1) (zr [zi r])) (r:((List zp))) (H:z5h s1 p1=some r):FnG Tryz.prog 102 [.row 0 s1.length,.dat (vfn fv1 us1)] [(0,.row 164 2 (List.map qz s1))] (.row 900 r.length) [(900,.row 164 2 (List.map qz r))]:=by
 refine vy (by kernel_rfl) Tryz.func102 Z Z Z Z fun X A hN => ?_
 unfold z5h at H
 refine zb hN Z (qe Z (zb hN Z (za (ze (.row _ _) Z) (qd Z (bE H fun r2 h3 H=>zm (x2t (id:=0) (es:=List.map qz s1) (w6v s1 p1 fv1 us1 hp1 r2 h3) ⟨.inr ⟨(congrArg (Slot.row 0) (by rw [List.length_map]):Slot.row 0 s1.length=_),Z⟩,.inl (.inl (.inl Z)),U⟩ (fun _ _ _ _ h=>h)) Z ?_)))))
 refine qe Z (zd (zb hN Z (qd Z (za (yq Z Z) (zh _ Z (fun h4 => ?_) (fun h4 => ?_))))))
 ·refine tE h4 H fun H=>zb hN Z (za (ze (.row _ _) Z) (za (qs (.row _ _) Z) (y0y 4 0 900 Z Z (by rw [List.length_map]) Z ?_)))
  refine zk ?_
  cases H
  exact ⟨U,[(4,.row 900 _)],⟨Z,U⟩,⟨Z,U⟩,Z,.inr (.inl ⟨4,Z,Z⟩)⟩
 ·refine fE h4 H fun H=>zn (yg (ι:=Int×(List zp)) (fun i=>[(0,.row 0 i.2.length),(5,.dat (vint i.1))]) (fun i=>[(0,.row 164 2 (List.map qz i.2))]) (fun i=>y14 i.1 i.2=some r) (fun i=>Z) ?_ ?_)
  ·skip
   refine zb hN Z (qd Z (za (ym _ Z Z (.inl ⟨Z,Z⟩)) (qe Z (yc (xo (fun (s:Int×Int×(List zp))=>[(0,.row 0 s.2.2.length),(1,.dat (vfn fv1 us1)),(5,.dat (vint s.1)),(6,.dat (vint s.2.1))]) (fun (s:Int×Int×(List zp))=>[(0,.row 164 2 (List.map qz s.2.2))]) (r2,wr (r2+1),s1) H ⟨Z,Z,Z,Z,U⟩ ⟨Z,U⟩ (fun _=>Z) ?_)))))
   rintro ⟨i5,j6,l7⟩ q8 H hq8
   replace H:y62 p1 i5 j6 l7=some q8:=H
   unfold y62 at H
   refine zd (zb hN Z (qd Z (za (ze (.row _ _) Z) (zm (Wp z1f Z Z) Z (za (ye Z Z) (zh _ Z (fun h9 => ?_) (fun h9 => ?_)))))))
   ·refine tE h9 H fun H=>zn (yg (ι:=Int×(List zp)) (fun i=>[(0,.row 0 i.2.length),(1,.dat (vfn fv1 us1)),(5,.dat (vint i.1)),(6,.dat (vint j6))]) (fun i=>[(0,.row 164 2 (List.map qz i.2))]) (fun i=>z8g j6 i.1 i.2=some q8) (fun i=>Z) ?_ ?_)
    ·skip
     refine yc (zb hN Z (za (ze (.row _ _) Z) (qd Z (bE H fun x10 h11 H=>zm (z1k xt Z Z Z h11) Z (zm (y6a ua Z Z (vt h11).2 Z) Z (zl (qt 1 z36 Z) Z (zl (yx ua Z Z Z Z) Z (zb hN Z (qd Z (zm (yr ua Z Z Z) Z (bE H fun r12 h13 H=>za (z1q (hp1 x10 r12 h13) Z ⟨.inl Z,U⟩) (za (yt Z) (zh _ Z (fun h14 => ?_) (fun h14 => ?_))))))))))))))
     ·exact tE h14 H fun H=>zb hN Z (za (ze (.row _ _) Z) (qd Z (zm (yr ua Z Z Z) Z (bE H fun x15 h16 H=>zm (z1k xt Z Z Z h16) Z (zl (x2a (C:=qz) ua Z Z Z (y45 (vt h16).2) Z Z) Z (zj hN Z (qd Z (za (ym _ Z Z (.inl ⟨Z,Z⟩)) (qe Z ⟨(wr (i5+1),(l7.set i5.toNat x10)),H,⟨congrArg (Slot.row 0) (by simp),Z,Z,Z,U⟩,⟨Z,U⟩⟩)))))))))
     ·exact fE h14 H fun H=>zn ⟨(i5,l7),H,⟨Z,Z,Z,Z,U⟩,⟨Z,U⟩⟩
    ·rintro ⟨i17,s18⟩ H
     replace H:z8g j6 i17 s18=some q8:=H
     unfold z8g at H
     exact zj hN Z (qd Z (za (ym _ Z Z (.inl ⟨Z,Z⟩)) (qe Z ⟨_,qm H,⟨Z,Z,Z,Z,U⟩,⟨Z,U⟩⟩)))
   ·refine fE h9 H fun H=>yz ?_
    replace H:=outl H hq8
    exact ⟨(i5,l7),H,⟨Z,Z,U⟩,⟨Z,U⟩⟩
  ·rintro ⟨i19,s20⟩ H
   replace H:y14 i19 s20=some r:=H
   unfold y14 at H
   refine zb hN Z (za (ze (.row _ _) Z) (qd Z (gE H fun h21 H=>zm (x2b (C:=qz) xt Z Z Z h21) Z (zl (x2c (C:=qz) (zp.mk [] []) z1f z36 Z Z Z Z Z h21) Z (zb hN Z (za (ze (.row _ _) Z) (qd Z (gE H fun h22 H=>y64 (y6b (C:=qz) 2 xt Z (x8m (zp.mk [] []) h21) Z h22) Z Z (za (qs (.row _ _) Z) (y0y 4 2 900 Z Z (by rw [List.length_map]; exact (y0u h22)) Z ?_))))))))))
   refine zk ?_
   cases H
   exact ⟨U,[(4,.row 900 _)],⟨Z,U⟩,⟨Z,U⟩,Z,.inr (.inl ⟨4,Z,congrArg (Slot.row 900) (by first | exact y0u (by assumption) | (simp <;> omega))⟩)⟩
theorem w5t (s1:Bs) (r:((List zp)×Int)) (H:Zv s1=some r):FnG Tryz.prog 101 [.dat (vstr s1)] [] (.comp true [.row 900 r.1.length,.dat (vint r.2)]) [(900,.row 164 2 (List.map qz r.1))]:=by
 refine vy (by kernel_rfl) Tryz.func101 Z Z Z Z fun X A hN => ?_
 unfold Zv at H
 refine zb hN Z (qe Z (qe Z (zd (zb hN Z (qd Z (bE H fun r2 h3 H=>za (zo (x54 s1 r2 h3) ⟨.inl Z,U⟩) (qe Z (zb hN Z (qd Z (za (yy Z Z) (zh _ Z (fun h4 => ?_) (fun h4 => ?_))))))))))))
 ·refine tE h4 H fun H=>zb hN Z (qd Z (qe Z (qe Z (ug 2 900 164 2 Z Z Z (zk ?_)))))
  cases H
  exact ⟨U,[(2,.row 900 _),(3,.dat (vint r2))],⟨Z,Z,U⟩,⟨Z,U⟩,Z,.inr (.inr ⟨.row 900 [].length,.dat (vint r2),[],⟨Z,Z,U⟩,Z⟩)⟩
 ·refine fE h4 H fun H=>zn (zb hN Z (qe Z (zd (zb hN Z (qd Z (bE H fun r5 h6 H=>za (zo (z6b s1 [38] r5 h6) ⟨.inl Z,.inl Z,U⟩) (za (qh wl Z) (qd Z (yc (ug 5 1 164 2 Z Z Z (gE H fun h10 H=>va (fun (k8:Nat) (s:(List zp))=>[(5,.row 1 s.length),(21,.dat (vlst (List.map zx r5))),(22,.dat (vint (r5.length:Int))),(23,.dat (vint (k8:Int)))]) (fun (k8:Nat) (s:(List zp))=>[(1,.row 164 2 (List.map qz s))]) [] H ⟨Z,Z,Z,Z,U⟩ ⟨Z,U⟩ (fun _ _=>Z) ?_ ?_)))))))))))
  ·rintro l7 H
   replace H:z0e l7=some r:=H
   unfold z0e at H
   refine zb hN Z (za (ye Z Z) (zd (zh _ Z (fun h=>(lt_t h).elim) (fun h => ?_))))
   refine yz (zd (zb hN Z (za (ze (.row _ _) Z) (zm (Wp z1f Z Z) Z (za (wb Z Z) (zh _ Z (fun h12 => ?_) (fun h12 => ?_)))))))
   ·refine tE h12 H fun H=>zb hN Z (qe Z (qe Z (ug 2 900 164 2 Z Z Z (zk ?_))))
    cases H
    exact ⟨U,[(2,.row 900 _),(3,.dat (vint 2))],⟨Z,Z,U⟩,⟨Z,U⟩,Z,.inr (.inr ⟨.row 900 [].length,.dat (vint 2),[],⟨Z,Z,U⟩,Z⟩)⟩
   ·refine fE h12 H fun H=>zn (zb hN Z (za (ze (.row _ _) Z) (za (qs (.row _ _) Z) (qe Z (y0y 2 1 900 Z Z (by rw [List.length_map]) Z ?_)))))
    refine zk ?_
    cases H
    exact ⟨U,[(2,.row 900 _),(3,.dat (vint 0))],⟨Z,Z,U⟩,⟨Z,U⟩,Z,.inr (.inr ⟨.row 900 l7.length,.dat (vint 0),[],⟨Z,Z,U⟩,Z⟩)⟩
  ·rintro k8 x11 l7 q9 h13 h14 H hq9
   replace H:z16 k8 x11 l7=some q9:=H
   unfold z16 at H
   refine zb hN Z (za (ye Z Z) (zd (zh _ Z (fun h => ?_) (fun h=>(lt_f h13 h).elim))))
   refine zn (yg (ι:=(List zp)) (fun i=>[(5,.row 1 i.length),(21,.dat (vlst (List.map zx r5))),(22,.dat (vint (r5.length:Int))),(23,.dat (vint (k8:Int)))]) (fun i=>[(1,.row 164 2 (List.map qz i))]) (fun i=>z47 i=some q9) (fun i=>Z) ?_ ?_)
   ·skip
    refine yc (zb hN Z (za (wj vp (fun _=>Z) Z Z h14) (za (wh tyS9 Z (qp h14) Z) (qe Z (zd (zb hN Z (qd Z (za (vi Z Z) (zh _ Z (fun h15 => ?_) (fun h15 => ?_))))))))))
    ·exact tE h15 H fun H=>yz ⟨l7,H,⟨Z,Z,Z,Z,U⟩,⟨Z,U⟩⟩
    ·refine fE h15 H fun H=>zn (zb hN Z (qd Z (bE H fun r16 h17 H=>za (zo (z0v x11 [61] r16 h17) ⟨.inl Z,.inl Z,U⟩) (qd Z (za (zz Z Z) (za (zz Z Z) (za (zz Z Z) (qe Z (qe Z (qe Z (zb hN Z (qd Z (bE H fun r18 h19 H=>za (zo (x6b r16.1 true r18 h19) ⟨.inl Z,.inl Z,U⟩) (qd Z (za (zz Z Z) (za (zz Z Z) (qe Z (qe Z (zb hN Z (qd Z ?_))))))))))))))))))))
     refine bE H fun r20 h21 H=>za (zo (x6b r16.2.1 true r20 h21) ⟨.inl Z,.inl Z,U⟩) (qd Z (za (zz Z Z) (za (zz Z Z) (qe Z (qe Z (zd (zb hN Z (qd Z (za (yt Z) (qd Z (yp Z Z (fun hc=>ze (.dat _) Z) (yp Z Z (fun hc=>yt (cnd (c:=(!(!r18.2))) hc)) (za (wy Z Z (fun hb=>(cnd (c:=(!(!r18.2))) (notI hb)))) (zh _ Z (fun h22 => ?_) (fun h22 => ?_)))))))))))))))
     ·refine tE h22 H fun H=>zb hN Z (qe Z (qe Z (ug 2 900 164 2 Z Z Z (zk ?_))))
      replace H:=retl H hq9
      cases H
      exact ⟨U,[(2,.row 900 _),(3,.dat (vint 9))],⟨Z,Z,U⟩,⟨Z,U⟩,Z,.inr (.inr ⟨.row 900 [].length,.dat (vint 9),[],⟨Z,Z,U⟩,Z⟩)⟩
     ·refine fE h22 H fun H=>zn (zj hN Z (za (ze (.row _ _) Z) (qd Z (qd Z (za (yd (u':=vagg (qz (zp.mk r18.1 r20.1))) (qw [(0,[vstr r18.1]),(1,[vstr r20.1])] z36 y5t Z ⟨Z,.inl ⟨_,Z,Z,Z⟩,Z,Z,.inl ⟨_,Z,Z,Z⟩,Z,U⟩) Z) (za (yd (u':=vlst (List.map qz [(zp.mk r18.1 r20.1)])) (qj [_] x1m ⟨Z,.inr Z,Z,U⟩ Z Z) Z) (gE H fun h23 H=>zl (ke x1m (fun _=>Z) Z Z Z ⟨by simp,by first | (simp; done) | simpa using h23⟩ Z) Z ?_)))))))
      exact za (qs (.row _ _) Z) ⟨(l7++[(zp.mk r18.1 r20.1)]),H,⟨Z,Z,Z,Z,U⟩,⟨Z,U⟩⟩
   ·rintro out24 H
    replace H:z47 out24=some q9:=H
    unfold z47 at H
    exact zj hN Z (za (qy Z Z (by omega)) (qd Z ⟨_,qm H,⟨Z,Z,Z,Z,U⟩,⟨Z,U⟩⟩))
theorem w7i (p1:zp) (r:(Bool)) (H:z86 p1=some r):Fn Tryz.prog 103 [vagg (qz p1)] (zr [zi r]):=by
 refine ⟨by kernel_rfl,yf (us:=[zi r]) Tryz.func103 Z Z Z Z fun X hN => ?_⟩
 unfold z86 at H
 refine zb hN Z (zl (we 1 Z) Z (qe Z (zb hN Z (zm (yr ua Z Z Z) Z (za (yd (u':=vagg (qz (zp.mk [] []))) (qw [] z36 y5t Z U) Z) (za (x2x [_,_] [_,_] x1j Z Z Z) (qe Z (zk ?_))))))))
 cases H
 exact ⟨U,.inl Z,U⟩
theorem w7l (x1:Int) (r:(Int)) (H:y76 x1=some r):Fn Tryz.prog 218 [vval (.int .u32 x1)] (zr [vint r]):=by
 refine ⟨by kernel_rfl,yf (us:=[vint r]) Tryz.func218 Z Z Z Z fun X hN => ?_⟩
 unfold y76 at H
 refine zb hN Z (qe Z (yg (ι:=Int×Int) (fun i=>[(0,.dat (vval (.int .u32 i.1))),(2,.dat (vint i.2))]) (fun i=>[]) (fun i=>z8w i.1 i.2=some r) (fun i=>Z) ?_ ?_))
 ·skip
  refine zb hN Z (qd Z (za (vk Z Z) (zh _ Z (fun h2 => ?_) (fun h2 => ?_))))
  ·exact tE h2 H fun H=>zb hN Z (qd Z (za (yd (z1o Z Z (by decide)) Z) (qe Z (zj hN Z (qe Z ⟨((shr_ .u32 x1 16),16),H,⟨Z,Z,U⟩,U⟩)))))
  ·exact fE h2 H fun H=>zn ⟨(x1,0),H,⟨Z,Z,U⟩,U⟩
 ·rintro ⟨x3,n4⟩ H
  replace H:z8w x3 n4=some r:=H
  unfold z8w at H
  refine yg (ι:=Int×Int) (fun i=>[(0,.dat (vval (.int .u32 i.1))),(2,.dat (vint i.2))]) (fun i=>[]) (fun i=>z8v i.1 i.2=some r) (fun i=>Z) ?_ ?_
  ·skip
   refine zb hN Z (qd Z (za (vk Z Z) (zh _ Z (fun h5 => ?_) (fun h5 => ?_))))
   ·exact tE h5 H fun H=>zb hN Z (qd Z (za (yd (z1o Z Z (by decide)) Z) (qe Z (zj hN Z (qd Z (za (ym _ Z Z (.inl ⟨Z,Z⟩)) (qe Z ⟨((shr_ .u32 x3 8),wr (n4+8)),H,⟨Z,Z,U⟩,U⟩)))))))
   ·exact fE h5 H fun H=>zn ⟨(x3,n4),H,⟨Z,Z,U⟩,U⟩
  ·rintro ⟨x6,n7⟩ H
   replace H:z8v x6 n7=some r:=H
   unfold z8v at H
   refine zb hN Z (qd Z (qd Z (za (kf x1h tyU5 Z) (bE H fun x8 h9 H=>za (y1u tyU9 Z Z h9) (za (kf tyU5 tyU3 Z) (za (ym _ Z Z (.inl ⟨Z,Z⟩)) (qe Z (zk ?_))))))))
   cases H
   exact ⟨U,.inl Z,U⟩
theorem w7k (x1:Int) (r:(Int)) (H:y75 x1=some r):Fn Tryz.prog 219 [vval (.int .u64 x1)] (zr [vint r]):=by
 refine ⟨by kernel_rfl,yf (us:=[vint r]) Tryz.func219 Z Z Z Z fun X hN => ?_⟩
 unfold y75 at H
 refine zb hN Z (qe Z (yg (ι:=Int×Int) (fun i=>[(0,.dat (vval (.int .u64 i.1))),(2,.dat (vint i.2))]) (fun i=>[]) (fun i=>z8u i.1 i.2=some r) (fun i=>Z) ?_ ?_))
 ·skip
  refine zb hN Z (qd Z (za (vk Z Z) (zh _ Z (fun h2 => ?_) (fun h2 => ?_))))
  ·exact tE h2 H fun H=>zb hN Z (qd Z (za (yd (z1o Z Z (by decide)) Z) (qe Z (zj hN Z (qe Z ⟨((shr_ .u64 x1 32),32),H,⟨Z,Z,U⟩,U⟩)))))
  ·exact fE h2 H fun H=>zn ⟨(x1,0),H,⟨Z,Z,U⟩,U⟩
 ·rintro ⟨x3,n4⟩ H
  replace H:z8u x3 n4=some r:=H
  unfold z8u at H
  refine yg (ι:=Int×Int) (fun i=>[(0,.dat (vval (.int .u64 i.1))),(2,.dat (vint i.2))]) (fun i=>[]) (fun i=>z8t i.1 i.2=some r) (fun i=>Z) ?_ ?_
  ·skip
   refine zb hN Z (qd Z (za (vk Z Z) (zh _ Z (fun h5 => ?_) (fun h5 => ?_))))
   ·exact tE h5 H fun H=>zb hN Z (qd Z (za (yd (z1o Z Z (by decide)) Z) (qe Z (zj hN Z (qd Z (za (ym _ Z Z (.inl ⟨Z,Z⟩)) (qe Z ⟨((shr_ .u64 x3 16),wr (n4+16)),H,⟨Z,Z,U⟩,U⟩)))))))
   ·exact fE h5 H fun H=>zn ⟨(x3,n4),H,⟨Z,Z,U⟩,U⟩
  ·rintro ⟨x6,n7⟩ H
   replace H:z8t x6 n7=some r:=H
   unfold z8t at H
   refine yg (ι:=Int×Int) (fun i=>[(0,.dat (vval (.int .u64 i.1))),(2,.dat (vint i.2))]) (fun i=>[]) (fun i=>z8s i.1 i.2=some r) (fun i=>Z) ?_ ?_
   ·skip
    refine zb hN Z (qd Z (za (vk Z Z) (zh _ Z (fun h8 => ?_) (fun h8 => ?_))))
    ·exact tE h8 H fun H=>zb hN Z (qd Z (za (yd (z1o Z Z (by decide)) Z) (qe Z (zj hN Z (qd Z (za (ym _ Z Z (.inl ⟨Z,Z⟩)) (qe Z ⟨((shr_ .u64 x6 8),wr (n7+8)),H,⟨Z,Z,U⟩,U⟩)))))))
    ·exact fE h8 H fun H=>zn ⟨(x6,n7),H,⟨Z,Z,U⟩,U⟩
   ·rintro ⟨x9,n10⟩ H
    replace H:z8s x9 n10=some r:=H
    unfold z8s at H
    refine zb hN Z (qd Z (qd Z (za (kf Wj tyU5 Z) (bE H fun x11 h12 H=>za (y1u tyU9 Z Z h12) (za (kf tyU5 tyU3 Z) (za (ym _ Z Z (.inl ⟨Z,Z⟩)) (qe Z (zk ?_))))))))
    cases H
    exact ⟨U,.inl Z,U⟩
theorem w7m (x1:Int) (r:(Int)) (H:z87 x1=some r):Fn Tryz.prog 166 [vval (.int .u64 x1)] (zr [vint r]):=by
 refine ⟨by kernel_rfl,yf (us:=[vint r]) Tryz.func166 Z Z Z Z fun X hN => ?_⟩
 unfold z87 at H
 refine zb hN Z (qe Z (zd (zh _ Z (fun h2 => ?_) (fun h2 => ?_))))
 ·refine tE h2 H fun H=>zb hN Z (qd Z (za (kf y1b x1h Z) (bE H fun r3 h4 H=>za (zo (w7l (IntKind.wrap .u32 x1) r3 h4) ⟨.inl Z,U⟩) (qe Z (zk ?_)))))
  cases H
  exact ⟨U,.inl Z,U⟩
 ·refine fE h2 H fun H=>zn (zb hN Z (qd Z (bE H fun r5 h6 H=>za (zo (w7k x1 r5 h6) ⟨.inl Z,U⟩) (qe Z (zk ?_)))))
  cases H
  exact ⟨U,.inl Z,U⟩
theorem w5l (data1:(List zp)) (a2:Int) (b3:Int) (p3:zp→zp→Option (Int)) (fv3:Nat) (us3:List V) (hp3:∀ a0 a1 r,p3 a0 a1=some r→Fn Tryz.prog fv3 ([vagg (qz a0),vagg (qz a1)]++us3) (zr [vint r])) (r:((List zp))) (H:z8z data1 a2 b3 p3=some r):FnG Tryz.prog 210 [.row 0 data1.length,.dat (vint a2),.dat (vint b3),.dat (vfn fv3 us3)] [(0,.rowA undef 164 2 (List.map qz data1))] (.dat (zr [])) [(0,.rowA undef 164 2 (List.map qz r))]:=by
 refine vy (by kernel_rfl) Tryz.func210 Z Z Z Z fun X A hN => ?_
 unfold z8z at H
 refine zb hN Z (qd Z (za (ym _ Z Z (.inl ⟨Z,Z⟩)) (qe Z (yc (xo (fun (s:Int×(List zp))=>[(0,.row 0 s.2.length),(1,.dat (vint a2)),(2,.dat (vint b3)),(3,.dat (vfn fv3 us3)),(8,.dat (vint s.1))]) (fun (s:Int×(List zp))=>[(0,.rowA (A.vl 0) 164 2 (List.map qz s.2))]) (wr (a2+1),data1) H ⟨Z,Z,Z,Z,Z,U⟩ ⟨Z,U⟩ (fun _=>Z) ?_)))))
 rintro ⟨i4,l5⟩ q6 H hq6
 replace H:y6o a2 b3 p3 i4 l5=some q6:=H
 unfold y6o at H
 refine zd (zb hN Z (qd Z (qd Z (za (ye Z Z) (zh _ Z (fun h7 => ?_) (fun h7 => ?_))))))
 ·refine tE h7 H fun H=>zn (yg (ι:=(List zp)) (fun i=>[(0,.row 0 i.length),(1,.dat (vint a2)),(2,.dat (vint b3)),(3,.dat (vfn fv3 us3)),(8,.dat (vint i4))]) (fun i=>[(0,.rowA (A.vl 0) 164 2 (List.map qz i))]) (fun i=>y12 i4 i=some q6) (fun i=>Z) ?_ ?_)
  ·skip
   refine yc (zb hN Z (qd Z (qe Z (yc (xo (fun (s:Int×(List zp))=>[(0,.row 0 s.2.length),(1,.dat (vint a2)),(2,.dat (vint b3)),(3,.dat (vfn fv3 us3)),(8,.dat (vint i4)),(9,.dat (vint s.1))]) (fun (s:Int×(List zp))=>[(0,.rowA (A.vl 0) 164 2 (List.map qz s.2))]) (i4,l5) H ⟨Z,Z,Z,Z,Z,Z,U⟩ ⟨Z,U⟩ (fun _=>Z) ?_)))))
   rintro ⟨j8,l9⟩ q10 H hq10
   replace H:y6n a2 p3 i4 j8 l9=some q10:=H
   unfold y6n at H
   refine zd (yg (ι:=Bool) (fun i=>[(0,.row 0 l9.length),(1,.dat (vint a2)),(2,.dat (vint b3)),(3,.dat (vfn fv3 us3)),(8,.dat (vint i4)),(9,.dat (vint j8)),(34,.dat (zi i))]) (fun i=>[(0,.rowA (A.vl 0) 164 2 (List.map qz l9))]) (fun i=>z8f i4 j8 l9 i=some q10) (fun i=>Z) ?_ ?_)
   ·skip
    refine ww mixed hN Z Z (qd Z (qd Z (za (wb Z Z) (qd Z (yn (j:=3) Z Z (fun h11 => ?_) (fun h11 => ?_) Z)))))
    ·refine u1 h11 H fun h12 H=>zf Z Z h11 (ze (.dat _) Z) (zf Z Z h11 (ze (.row _ _) Z) (zf Z Z h11 (ze (.dat _) Z) (bE H fun x13 h14 H=>vc Z Z h11 (z4d xt Z Z Z h14) Z (vc Z Z h11 (y1t ua Z Z (vt h14).2 Z) Z (zf Z Z h11 (ze (.row _ _) Z) (zf Z Z h11 (ze (.dat _) Z) (zf Z Z h11 (ym _ Z Z (.inr (.inl ⟨Z,Z⟩))) (bE H fun x15 h16 H=>vc Z Z h11 (z4d xt Z Z Z h16) Z (vc Z Z h11 (y1t ua Z Z (vt h16).2 Z) Z (bE H fun r17 h18 H=>zf Z Z h11 (z1q (hp3 x13 x15 r17 h18) Z ⟨.inl Z,.inl Z,U⟩) (zf Z Z h11 (ye Z Z) (za (ya Z (bTT h12) Z) ⟨Z,?_⟩))))))))))))
     exact ⟨decide (r17 < 0),H,⟨Z,Z,Z,Z,Z,Z,Z,U⟩,⟨Z,U⟩⟩
    ·refine u2 h11 H fun h19 H=>zc Z Z h11 (zc Z Z h11 (zc Z Z h11 (zc Z Z h11 (zc Z Z h11 (zc Z Z h11 (zc Z Z h11 (zc Z Z h11 (zc Z Z h11 (zc Z Z h11 (zc Z Z h11 (zc Z Z h11 (za (zv Z (bFF h19) Z) ⟨Z,?_⟩))))))))))))
     exact ⟨false,H,⟨Z,Z,Z,Z,Z,Z,Z,U⟩,⟨Z,U⟩⟩
   ·rintro v20 H
    replace H:z8f i4 j8 l9 v20=some q10:=H
    unfold z8f at H
    refine zh _ Z (fun h21 => ?_) (fun h21 => ?_)
    ·refine tE h21 H fun H=>zn (zd (yc (ww mixed hN Z Z (za (ze (.row _ _) Z) (qd Z (za (ze (.row _ _) Z) (qd Z (za (ym _ Z Z (.inr (.inl ⟨Z,Z⟩))) (za (ze (.row _ _) Z) (qd Z (za (ym _ Z Z (.inr (.inl ⟨Z,Z⟩))) (bE H fun x22 h23 H=>zm (z4d xt Z Z Z h23) Z (zm (y1t ua Z Z (vt h23).2 Z) Z (za (ze (.row _ _) Z) (qd Z (bE H fun x24 h25 H=>zm (z4d xt Z Z Z h25) Z (zm (y1t ua Z Z (vt h25).2 Z) Z (zm (z4d xt Z Z Z h25) Z (zl (x1z (C:=qz) ua Z Z Z (y45 (vt h25).2) Z Z) Z (bE H fun x26 h27 H=>?_))))))))))))))))))))
     refine zm (z4d xt Z (by simp) Z h27) Z (zl (x1z (C:=qz) ua Z Z (by simp) (y45 (vt h27).2) Z Z) Z ⟨Z,?_⟩)
     exact zj hN Z (qd Z (za (ym _ Z Z (.inr (.inl ⟨Z,Z⟩))) (qe Z ⟨_,qm H,⟨congrArg (Slot.row 0) (by simp),Z,Z,Z,Z,Z,U⟩,⟨Z,U⟩⟩)))
    ·refine fE h21 H fun H=>yz ?_
     replace H:=outl H hq10
     exact ⟨l9,H,⟨Z,Z,Z,Z,Z,U⟩,⟨Z,U⟩⟩
  ·rintro data28 H
   replace H:y12 i4 data28=some q6:=H
   unfold y12 at H
   exact zj hN Z (qd Z (za (ym _ Z Z (.inl ⟨Z,Z⟩)) (qe Z ⟨_,qm H,⟨Z,Z,Z,Z,Z,U⟩,⟨Z,U⟩⟩)))
 ·refine fE h7 H fun H=>yz ?_
  replace H:=retl H hq6
  have eH:l5=r:=Option.some.inj H
  subst eH
  exact ⟨U,[],U,⟨Z,U⟩,Z,.inl ⟨[],U,Z⟩⟩
end Go.Proofs.YtahcnngcpjkpgabGreatDoor
