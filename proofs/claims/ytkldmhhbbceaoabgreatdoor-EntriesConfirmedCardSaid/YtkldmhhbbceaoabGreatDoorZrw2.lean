/- Walks along the models. Printed by a program. -/
import Derived.Test.YtkldmhhbbceaoabGreatDoorZrw1
namespace Go.Proofs.YtkldmhhbbceaoabGreatDoor
open Go.RowKit
set_option linter.unusedVariables false
set_option maxRecDepth 100000
set_option maxHeartbeats 2000000
theorem x3b (s1:zn) (r:(zy×zn)) (H:z38 s1=some r):Imp Tryz.prog 4 25 (yx s1) [] (zw [vagg (yy r.1)]) (yx r.2):=by
 refine jb (us:=[vagg (yy r.1)]) (cs':=(yx r.2)) (by kernel_rfl) Tryz.func4 Z Z Z Z fun X bl hN => ?_
 unfold z38 at H
 refine zb hN Z (zi (qz 1 ww Z) Z (zb hN Z (za (zf (.ptr _ _) Z) (bE H fun r2 h3 H=>zi (yj (y47 s1 0 r2 h3) Z ⟨.inl Z,U⟩ Z) Z (za (zf (.ptr _ _) Z) (bE H fun r4 h5 H=>zi (yj (y46 r2.2 r4 h5) Z U Z) Z (za (zf (.ptr _ _) Z) (za (yd (u':=vlst (List.map qm [0,1000,20000])) (yl [[_],[_],[_]] z5y ⟨Z,.inl ⟨_,Z,Z,Z⟩,Z,Z,.inl ⟨_,Z,Z,Z⟩,Z,Z,.inl ⟨_,Z,Z,Z⟩,Z,U⟩ Z Z) Z) (bE H fun r6 h7 H=>zi (yj (z7r r4.2 [0,1000,20000] r6 h7) Z ⟨.inl Z,U⟩ Z) Z (za (ja (u':=vagg (yy (zy.mk r2.1 r4.1 r6.1 [] 0))) (jd (by exact ⟨zr,zr,zr,zr,zr,zr,zr,zr,zr,zr,zr,zr,qf,zr,U⟩)) (qy [(0,wl r2.1),(8,vt r4.1),(11,[vint r6.1])] ww kg Z ⟨Z,.inr Z,Z,Z,.inr Z,Z,Z,.inl ⟨_,Z,Z,Z⟩,Z,U⟩)) ?_))))))))))
 refine zi (qz 2 ww Z) Z (zi (yu yo Z Z Z Z) Z (zb hN Z (za (zp ub Z) (zo (zz tyS3 Z Z) Z (za (zp xy Z) (zi (wz tyS3 Z Z Z Z) Z (zb hN Z (za (yd (u':=vlst (List.map zt [[114,101,100]])) (yl [[_]] yr ⟨Z,.inl ⟨_,Z,Z,Z⟩,Z,U⟩ Z Z) Z) (za (yd (u':=vlst (List.map zt [[98,108,117,101],[114,101,100]])) (yl [[_],[_]] yr ⟨Z,.inl ⟨_,Z,Z,Z⟩,Z,Z,.inl ⟨_,Z,Z,Z⟩,Z,U⟩ Z Z) Z) (za (ja (u':=vlst (List.map y61 ([[],[[114,101,100]],[[98,108,117,101],[114,101,100]]]:(List (List Bs))))) (y64 (by exact ⟨⟨qf,U⟩,⟨zr,U⟩,⟨zr,U⟩,U⟩)) (yl [[vnil],[_],[_]] y16 ⟨Z,.inl ⟨_,Z,Z,Z⟩,Z,Z,.inl ⟨_,Z,Z,Z⟩,Z,Z,.inl ⟨_,Z,Z,Z⟩,Z,U⟩ Z Z)) ?_))))))))))
 refine za (zf (.ptr _ _) Z) (bE H fun r8 h9 H=>zi (yj (ut r6.2 3 r8 h9) Z ⟨.inl Z,U⟩ Z) Z (bE H fun x10 h11 H=>za (kr y2a (fun _=>Z) Z Z h11) (za (qo jn Z (qa (jj h11).2) Z) (za (zp kh Z) (zi (wz jn Z Z Z Z) Z (yf (ι:=(List Int)×Int×Bs×Int×(List Bs)×Int) (fun i=>[(2,.ptr 1 0),(3,.ptr 2 0)]) (fun i=>[(0,.box (some bl) 25 [.dat (vlst (List.map qm i.1)),.dat (vint i.2.1)]),(1,.box none 33 [.dat (vint 0),.dat (vstr []),.dat (vstr []),.dat (vstr []),.dat (vstr []),.dat (vstr []),.dat (vnil),.dat (vstr []),.dat (vint 0),.dat (vnil),.dat (vstr []),.dat (vint 0),.dat (vnil),.dat (vint 0)]),(2,.box none 33 [.dat (vint r2.1.At),.dat (vstr r2.1.Method),.dat (vstr i.2.2.1),.dat (vstr r2.1.Path),.dat (vstr r2.1.Query),.dat (vstr r2.1.From),.dat (vlst (List.map zq r2.1.Headers)),.dat (vstr r2.1.Body),.dat (vint r4.1.Status),.dat (vlst (List.map zq r4.1.Headers)),.dat (vstr r4.1.Body),.dat (vint i.2.2.2.1),.dat (vlst (List.map zt i.2.2.2.2.1)),.dat (vint i.2.2.2.2.2)])]) (fun i=>xt r2 r4 i.1 i.2.1 i.2.2.1 i.2.2.2.1 i.2.2.2.2.1 i.2.2.2.2.2=some r) (fun i=>Z) ?_ ?_))))))
 ·skip
  refine zb hN Z (za (zf (.ptr _ _) Z) (bE H fun r12 h13 H=>zi (yj (vh r8.2 20 r12 h13) Z ⟨.inl Z,U⟩ Z) Z (zh _ Z (fun h14 => ?_) (fun h14 => ?_))))
  ·refine tE h14 H fun H=>zb hN Z (za (zf (.ptr _ _) Z) (bE H fun r15 h16 H=>zi (yj (ut r12.2 4 r15 h16) Z ⟨.inl Z,U⟩ Z) Z (yg (zb hN Z (za (yt Z Z) (qe Z (zh _ Z (fun h17 => ?_) (fun h17 => ?_))))))))
   ·exact tE h17 H fun H=>zu hN Z (za (zf (.ptr _ _) Z) (bE H fun r18 h19 H=>zi (yj (z7s r15.2 0 100 r18 h19) Z ⟨.inl Z,.inl Z,U⟩ Z) Z (za (zp ub Z) (zi (wz tyS3 Z Z Z Z) Z ⟨(r18.2.L,r18.2.at_,r2.1.Host,r18.1,x10,r6.1),H,⟨Z,Z,U⟩,⟨Z,Z,Z,U⟩⟩))))
   ·refine fE h17 H fun H=>zb hN Z (za (yt Z Z) (qe Z (zh _ Z (fun h20 => ?_) (fun h20 => ?_))))
    ·exact tE h20 H fun H=>zu hN Z (za (zf (.ptr _ _) Z) (bE H fun r21 h22 H=>zi (yj (z7s r15.2 0 100 r21 h22) Z ⟨.inl Z,.inl Z,U⟩ Z) Z (za (zp xy Z) (zi (wz tyS3 Z Z Z Z) Z ⟨(r21.2.L,r21.2.at_,r2.1.Host,r6.1,x10,r21.1),H,⟨Z,Z,U⟩,⟨Z,Z,Z,U⟩⟩))))
    ·refine fE h20 H fun H=>zb hN Z (za (yt Z Z) (qe Z (zh _ Z (fun h23 => ?_) (fun h23 => ?_))))
     ·exact tE h23 H fun H=>zu hN Z (za (yd (u':=vlst (List.map zt [[114,101,100],[98,108,117,101]])) (yl [[_],[_]] yr ⟨Z,.inl ⟨_,Z,Z,Z⟩,Z,Z,.inl ⟨_,Z,Z,Z⟩,Z,U⟩ Z Z) Z) (za (yd (u':=vlst (List.map zt [[]])) (yl [[_]] yr ⟨Z,.inl ⟨_,Z,Z,Z⟩,Z,U⟩ Z Z) Z) (za (yd (u':=vlst (List.map zt [[65]])) (yl [[_]] yr ⟨Z,.inl ⟨_,Z,Z,Z⟩,Z,U⟩ Z Z) Z) (za (yd (u':=vlst (List.map y61 [[[114,101,100],[98,108,117,101]],[[]],[[65]]])) (yl [[_],[_],[_]] y16 ⟨Z,.inl ⟨_,Z,Z,Z⟩,Z,Z,.inl ⟨_,Z,Z,Z⟩,Z,Z,.inl ⟨_,Z,Z,Z⟩,Z,U⟩ Z Z) Z) (za (zf (.ptr _ _) Z) (bE H fun r24 h25 H=>zi (yj (ut r15.2 3 r24 h25) Z ⟨.inl Z,U⟩ Z) Z (bE H fun x26 h27 H=>za (kr y2a (fun _=>Z) Z Z h27) (za (qo jn Z (qa (jj h27).2) Z) (za (zp kh Z) (zi (wz jn Z Z Z Z) Z ⟨(r24.2.L,r24.2.at_,r2.1.Host,r6.1,x26,r6.1),H,⟨Z,Z,U⟩,⟨Z,Z,Z,U⟩⟩))))))))))
     ·exact fE h23 H fun H=>zu hN Z (za (zf (.ptr _ _) Z) (bE H fun r28 h29 H=>zi (yj (x3a r15.2 r28 h29) Z U Z) Z (za (zp Yd Z) (za (zp z26 Z) (zi (wz tyS9 Z Z Z Z) Z ⟨(r28.2.L,r28.2.at_,r28.1,r6.1,x10,r6.1),H,⟨Z,Z,U⟩,⟨Z,Z,Z,U⟩⟩)))))
  ·exact fE h14 H fun H=>zl ⟨(r12.2.L,r12.2.at_,r2.1.Host,r6.1,x10,r6.1),H,⟨Z,Z,U⟩,⟨Z,Z,Z,U⟩⟩
 ·rintro ⟨c30,c31,c32,c33,c34,c35⟩ H
  replace H:xt r2 r4 c30 c31 c32 c33 c34 c35=some r:=H
  unfold xt at H
  refine zb hN Z (zo (yk yo Z Z Z) Z (zi (yu yo Z Z Z Z) Z (zk ?_)))
  cases H
  exact ⟨U,⟨.inl ⟨_,_,_,yy (zy.mk (ya.mk r2.1.At r2.1.Method c32 r2.1.Path r2.1.Query r2.1.From r2.1.Headers r2.1.Body) r4.1 c33 c34 c35),Z,Z,Z,Z,yo⟩,U⟩,Z⟩
theorem x29 (s1:zn) (v2:Int) (r:(Int×zn)) (H:z35 s1 v2=some r):Imp Tryz.prog 7 25 (yx s1) [vint v2] (zw [vint r.1]) (yx r.2):=by
 refine jb (us:=[vint r.1]) (cs':=(yx r.2)) (by kernel_rfl) Tryz.func7 Z Z Z Z fun X bl hN => ?_
 unfold z35 at H
 refine zb hN Z (qe Z (zb hN Z (qd Z (za (zf (.ptr _ _) Z) (za (yd (u':=vlst (List.map qm [0,1,9999,10000,29999,30000,45000,59999,60000,60001,79999,80000,100000,159999,160000,1000000])) (yl [[_],[_],[_],[_],[_],[_],[_],[_],[_],[_],[_],[_],[_],[_],[_],[_]] z5y ⟨Z,.inl ⟨_,Z,Z,Z⟩,Z,Z,.inl ⟨_,Z,Z,Z⟩,Z,Z,.inl ⟨_,Z,Z,Z⟩,Z,Z,.inl ⟨_,Z,Z,Z⟩,Z,Z,.inl ⟨_,Z,Z,Z⟩,Z,Z,.inl ⟨_,Z,Z,Z⟩,Z,Z,.inl ⟨_,Z,Z,Z⟩,Z,Z,.inl ⟨_,Z,Z,Z⟩,Z,Z,.inl ⟨_,Z,Z,Z⟩,Z,Z,.inl ⟨_,Z,Z,Z⟩,Z,Z,.inl ⟨_,Z,Z,Z⟩,Z,Z,.inl ⟨_,Z,Z,Z⟩,Z,Z,.inl ⟨_,Z,Z,Z⟩,Z,Z,.inl ⟨_,Z,Z,Z⟩,Z,Z,.inl ⟨_,Z,Z,Z⟩,Z,Z,.inl ⟨_,Z,Z,Z⟩,Z,U⟩ Z Z) Z) (bE H fun r3 h4 H=>zi (yj (z7r s1 [0,1,9999,10000,29999,30000,45000,59999,60000,60001,79999,80000,100000,159999,160000,1000000] r3 h4) Z ⟨.inl Z,U⟩ Z) Z (za (qn _ Z Z (.inl ⟨Z,Z⟩)) (qe Z (zk ?_)))))))))
 cases H
 exact ⟨U,⟨.inl Z,U⟩,Z⟩
theorem z7o (n1:Int) (r:(Bool)) (H:Zm n1=some r):Fn Tryz.prog 72 [vint n1] (zw [zj r]):=by
 refine ⟨by kernel_rfl,yh (us:=[zj r]) Tryz.func72 Z Z Z Z fun X hN => ?_⟩
 unfold Zm at H
 refine zb hN Z (qe Z (zb hN Z (qd Z (za (jg Z Z) (qd Z (qt Z Z (fun hc=>zf (.dat _) Z) (qt Z Z (fun hc=>ye (cnd (c:=(decide (0≤n1))) hc) Z) (za (vc Z (fun hb=>(cnd (c:=(decide (0≤n1))) hb)) Z) (qe Z (zk ?_))))))))))
 cases H
 exact ⟨U,.inl Z,U⟩
theorem y4t (c1:Int) (r:(Bool)) (H:z7a c1=some r):Fn Tryz.prog 190 [vval (.int .u8 c1)] (zw [zj r]):=by
 refine ⟨by kernel_rfl,yh (us:=[zj r]) Tryz.func190 Z Z Z Z fun X hN => ?_⟩
 unfold z7a at H
 refine zb hN Z (qe Z (zb hN Z (qd Z (za (jg Z Z) (qd Z (qt Z Z (fun hc=>zf (.dat _) Z) (qt Z Z (fun hc=>wt (cnd (c:=(decide (97≤c1))) hc) Z) (za (vc Z (fun hb=>(cnd (c:=(decide (97≤c1))) hb)) Z) (qd Z (wj Z Z (fun hc=>zf (.dat _) Z) (wj Z Z (fun hc=>jg (cnd (c:=(!((decide (97≤c1)) && (decide (c1≤122))))) hc) Z) (wj Z Z (fun hc=>zf (.dat _) (cnd (c:=(!((decide (97≤c1)) && (decide (c1≤122))))) hc)) (ve Z Z (fun hc=>zf (.dat _) Z) (ve Z Z (fun hc=>wt (cnd (c:=((!((decide (97≤c1)) && (decide (c1≤122)))) && (decide (65≤c1)))) hc) Z) (wj Z Z (fun hc=>vc (cnd (c:=(!((decide (97≤c1)) && (decide (c1≤122))))) hc) (fun hb=>(cnd (c:=((!((decide (97≤c1)) && (decide (c1≤122)))) && (decide (65≤c1)))) (andI hc hb))) Z) (za (ki Z Z (fun hb=>(cnd (c:=(!((decide (97≤c1)) && (decide (c1≤122))))) (notI hb)))) (qe Z (zk ?_))))))))))))))))))
 cases H
 exact ⟨U,.inl Z,U⟩
theorem y4u (c1:Int) (r:(Bool)) (H:z7b c1=some r):Fn Tryz.prog 191 [vval (.int .u8 c1)] (zw [zj r]):=by
 refine ⟨by kernel_rfl,yh (us:=[zj r]) Tryz.func191 Z Z Z Z fun X hN => ?_⟩
 unfold z7b at H
 refine zb hN Z (qe Z (zb hN Z (qd Z (za (jg Z Z) (qd Z (qt Z Z (fun hc=>zf (.dat _) Z) (qt Z Z (fun hc=>wt (cnd (c:=(decide (48≤c1))) hc) Z) (za (vc Z (fun hb=>(cnd (c:=(decide (48≤c1))) hb)) Z) (qe Z (zk ?_))))))))))
 cases H
 exact ⟨U,.inl Z,U⟩
theorem y4l (l:Bs) (c r:Int) (H:z69 l c=some r):Fn Tryz.prog 125 [vstr l,vval (.int .u8 c)] (zw [vint r]):=by
 cases H
 refine y0z (by kernel_rfl) fun M w vs h => ?_
 have h1:=km (us:=[.string ⟨l.toArray⟩,.int .u8 c]) h
 subst h1
 refine (Tryz.strings_IndexByte ⟨l.toArray⟩ c w).mono ?_
 rintro e w' ⟨rfl,rfl⟩
 exact ⟨_,Z,Z,Kp.refl _ _⟩
theorem x2c (c1:Int) (r:(Bool)) (H:z3r c1=some r):Fn Tryz.prog 151 [vval (.int .u8 c1)] (zw [zj r]):=by
 refine ⟨by kernel_rfl,yh (us:=[zj r]) Tryz.func151 Z Z Z Z fun X hN => ?_⟩
 unfold z3r at H
 refine zb hN Z (qe Z (yf (ι:=Bool) (fun i=>[(2,.dat (zj i))]) (fun i=>[]) (fun i=>z0t i=some r) (fun i=>Z) ?_ ?_))
 ·skip
  refine zu hN Z (qd Z (bE H fun r2 h3 H=>za (zm (y4t c1 r2 h3) ⟨.inl Z,U⟩) (qd Z (yi (j:=2) Z Z (fun h4 => ?_) (fun h4 => ?_) Z))))
  ·refine u3 h4 H fun h5 H=>ze Z Z h4 (zf (.dat _) Z) (bE H fun r6 h7 H=>ze Z Z h4 (zm (y4u c1 r6 h7) ⟨.inl Z,U⟩) (za (zv Z (bFF h5) Z) (qd Z (yi (j:=6) Z Z (fun h8 => ?_) (fun h8 => ?_) Z))))
   ·exact u3 h8 H fun h9 H=>ze Z Z h8 (zf (.dat _) Z) (bE H fun r10 h11 H=>ze Z Z h8 (zm (y4l [33,35,36,37,38,39,42,43,45,46,94,95,96,124,126] c1 r10 h11) ⟨.inl Z,.inl Z,U⟩) (ze Z Z h8 (jg Z Z) (za (zv Z (bFF h9) Z) (qe Z ⟨decide (0≤r10),H,⟨Z,U⟩,U⟩))))
   ·exact u4 h8 H fun h12 H=>zc Z Z h8 (zc Z Z h8 (zc Z Z h8 (za (yc Z (bTT h12) Z) (qe Z ⟨true,H,⟨Z,U⟩,U⟩))))
  ·exact u4 h4 H fun h13 H=>zc Z Z h4 (zc Z Z h4 (za (yc Z (bTT h13) Z) (qd Z (zc Z Z Z (zc Z Z Z (zc Z Z Z (za (yc Z Z Z) (qe Z ⟨true,H,⟨Z,U⟩,U⟩))))))))
 ·rintro v14 H
  replace H:z0t v14=some r:=H
  unfold z0t at H
  refine zk ?_
  cases H
  exact ⟨U,.inl Z,U⟩
theorem z4n (s1:Bs) (r:(Bool)) (H:xi s1=some r):Fn Tryz.prog 108 [vstr s1] (zw [zj r]):=by
 refine ⟨by kernel_rfl,yh (us:=[zj r]) Tryz.func108 Z Z Z Z fun X hN => ?_⟩
 unfold xi at H
 refine zb hN Z (qe Z (zg (zb hN Z (qd Z (za (qh tyU9 Z) (qd Z (yg (gE H fun h4 H=>qw (fun (k2:Nat) (s:Unit)=>[(0,.dat (vstr s1)),(5,.dat (vint (s1.length:Int))),(6,.dat (vint (k2:Int)))]) (fun (k2:Nat) (s:Unit)=>[]) () H ⟨Z,Z,Z,U⟩ U (fun _ _=>Z) ?_ ?_))))))))
 ·rintro ⟨⟩ H
  replace H:z9u s1=some r:=H
  unfold z9u at H
  refine zb hN Z (za (ye Z Z) (zg (zh _ Z (fun h=>(lt_t h).elim) (fun h => ?_))))
  refine qc (zb hN Z (qd Z (za (ux Z Z) (qd Z (qt Z Z (fun hc=>zf (.dat _) Z) (qt Z Z (fun hc=>qh tyU9 (cnd (c:=(decide (s1≠[]))) hc)) (qt Z Z (fun hc=>wt (cnd (c:=(decide (s1≠[]))) hc) Z) (za (vc Z (fun hb=>(cnd (c:=(decide (s1≠[]))) hb)) Z) (qe Z (zk ?_))))))))))
  cases H
  exact ⟨U,.inl Z,U⟩
 ·rintro k2 x5 ⟨⟩ q3 h6 h7 H hq3
  replace H:z64 k2 x5=some q3:=H
  unfold z64 at H
  refine zb hN Z (za (ye Z Z) (zg (zh _ Z (fun h => ?_) (fun h=>(lt_f h6 h).elim))))
  refine zl (zg (yg (zb hN Z (qd Z (qe Z (zb hN Z (qd Z (qd Z (za (qx tyU9 Z Z h7) (bE H fun r8 h9 H=>za (zm (x2c (x5.toNat:Int) r8 h9) ⟨.inl Z,U⟩) (za (yp Z) (zh _ Z (fun h10 => ?_) (fun h10 => ?_)))))))))))))
  ·refine tE h10 H fun H=>zb hN Z (qe Z (zk ?_))
   replace H:=retl H hq3
   cases H
   exact ⟨U,.inl Z,U⟩
  ·exact fE h10 H fun H=>zl (zu hN Z (za (qs Z Z (by omega)) (qd Z ⟨_,qj H,⟨Z,Z,Z,U⟩,U⟩)))
theorem z96 (s p:Bs) (r:Bs×Bs×Bool) (H:Zh s p=some r):Fn Tryz.prog 88 [vstr s,vstr p] (zw [vstr r.1,vstr r.2.1,zj r.2.2]):=by
 unfold Zh at H
 obtain ⟨h1,h2⟩:=gif H
 cases h2
 refine xv (by kernel_rfl) fun M w vs hM h => ?_
 have hv:=km (us:=[.string ⟨s.toArray⟩,.string ⟨p.toArray⟩]) h
 subst hv
 obtain ⟨m,hm⟩:=z67 hM
 refine (Tryz.strings_Cut ⟨s.toArray⟩ ⟨p.toArray⟩ m w (by simp [ByteArray.size]; omega) hm).mono ?_
 rintro e w' ⟨rfl,n,rfl⟩
 refine ⟨_,Z,⟨[_,_,_],Z,Z,fun j u hj => ?_⟩,⟨Z,Z,Z,Nat.le_refl _,fun _ _ _=>Z⟩⟩
 rcases j with _ | _ | _ | j
 ·cases hj; exact ⟨_,Z,Z⟩
 ·cases hj; exact ⟨_,Z,Z⟩
 ·cases hj; exact ⟨_,Z,Z⟩
 ·simp at hj

theorem x1c (s sep:Bs) (r:List Bs) (H:ky s sep=some r):FnG Tryz.prog 90 [.dat (vstr s),.dat (vstr sep)] [] (.row 900 r.length) [(900,.row 9 1 (List.map zt r))]:=by
 obtain ⟨h1,h2,rfl⟩:=y9d H
 have hlen:=Lib.splitB_all ⟨sep.toArray⟩ (by simpa [ByteArray.size] using h2) 0 _ ⟨s.toArray⟩ Z
 have hle:=Lib.countB_le ⟨sep.toArray⟩ (by simpa [ByteArray.size] using h2) _ ⟨s.toArray⟩ (Nat.le_refl _)
 refine y5x (args:=[vstr s,vstr sep]) (uk s sep) (by kernel_rfl) (fun M w vs hM hvs => ?_) ?_
 ·have hv:=km (us:=[.string ⟨s.toArray⟩,.string ⟨sep.toArray⟩]) hvs
  subst hv
  obtain ⟨m,hm⟩:=z67 hM
  refine (Tryz.strings_Split ⟨s.toArray⟩ ⟨sep.toArray⟩ m w (by simp [ByteArray.size]; omega) hm (by simpa [ByteArray.size] using h2)).mono ?_
  rintro e w' ⟨rfl,rfl⟩
  have e1:(uk s sep).length=Lib.countB ⟨s.toArray⟩ ⟨sep.toArray⟩+1:=by unfold uk; rw [List.length_map,hlen]
  have e2:((uk s sep).map fun s=>Value.string ⟨s.toArray⟩)=(Lib.splitB ⟨sep.toArray⟩ 0 (Lib.countB ⟨s.toArray⟩ ⟨sep.toArray⟩) ⟨s.toArray⟩).map Value.string:=by
   unfold uk
   rw [List.map_map]
   exact List.map_congr_left fun b _=>by simp
  rw [e1,e2]
  exact ⟨Z,Z⟩
 ·unfold uk maxLen
  rw [List.length_map,hlen]
  have hsz:(ByteArray.mk s.toArray).size=s.length:=by simp [ByteArray.size]
  rw [hsz] at hle
  omega
theorem z4m (s sep:Bs) (r:List Bs) (H:ky s sep=some r):Fn Tryz.prog 90 [vstr s,vstr sep] (zw [vlst (List.map zt r)]):=by
 have h:=x1c s sep r H
 rw [← List.length_map (f:=zt)] at h
 exact z5h h
theorem y4k (s p:Bs) (r:Bs) (H:z3k s p=some r):Fn Tryz.prog 132 [vstr s,vstr p] (zw [vstr r]):=by
 unfold z3k at H
 cases H
 refine xv (by kernel_rfl) fun M w vs hM h => ?_
 have hv:=km (us:=[.string ⟨s.toArray⟩,.string ⟨p.toArray⟩]) h
 subst hv
 refine (Tryz.strings_TrimPrefix ⟨s.toArray⟩ ⟨p.toArray⟩ w).mono ?_
 rintro e w' ⟨rfl,rfl⟩
 exact ⟨_,Z,Z,Kp.refl _ _⟩

theorem kb (c1:Int) (r:(Int)) (H:jm c1=some r):Fn Tryz.prog 227 [vval (.int .u8 c1)] (zw [vval (.int .u8 r)]):=by
 refine ⟨by kernel_rfl,yh (us:=[vval (.int .u8 r)]) Tryz.func227 Z Z Z Z fun X hN => ?_⟩
 unfold jm at H
 refine zb hN Z (qe Z (zb hN Z (qd Z (za (yd (y8q Z Z) Z) (qe Z (zk ?_))))))
 cases H
 exact ⟨U,.inl Z,U⟩
theorem x2k (v1:Bs) (r:(Bool)) (H:z9x v1=some r):Fn Tryz.prog 228 [vstr v1] (zw [zj r]):=by
 refine ⟨by kernel_rfl,yh (us:=[zj r]) Tryz.func228 Z Z Z Z fun X hN => ?_⟩
 unfold z9x at H
 refine zb hN Z (qe Z (zb hN Z (qe Z (zb hN Z (qe Z (yf (ι:=Bs) (fun i=>[(0,.dat (vstr i)),(3,.dat (vval (.int .i32 94))),(4,.dat (vint 0))]) (fun i=>[]) (fun i=>z4v i=some r) (fun i=>Z) ?_ ?_))))))
 ·skip
  refine yf (ι:=Bool) (fun i=>[(0,.dat (vstr v1)),(3,.dat (vval (.int .i32 94))),(4,.dat (vint 0)),(18,.dat (zj i))]) (fun i=>[]) (fun i=>z1y v1 i=some r) (fun i=>Z) ?_ ?_
  ·skip
   refine zu hN Z (qd Z (za (qh tyU9 Z) (za (jg Z Z) (qd Z (yi (j:=3) Z Z (fun h2 => ?_) (fun h2 => ?_) Z)))))
   ·refine u1 h2 H fun h3 H=>ze Z Z h2 (zf (.dat _) Z) (bE H fun x4 h5 H=>ze Z Z h2 (qx tyU9 Z Z h5) (ze Z Z h2 (yt Z Z) (ze Z Z h2 (zf (.dat _) Z) (yi (j:=7) Z Z (fun h6 => ?_) (fun h6 => ?_) Z))))
    ·exact u3 h6 H fun h7 H=>ze Z Z h6 (zf (.dat _) Z) (ze Z Z h6 (qx tyU9 Z Z h5) (ze Z Z h6 (yt Z Z) (ze Z Z h2 (zv Z (bFF h7) Z) (za (yc Z (bTT h3) Z) ⟨decide ((x4.toNat:Int)=43),H,⟨Z,Z,Z,Z,U⟩,U⟩))))
    ·exact u4 h6 H fun h8 H=>zc Z Z h6 (zc Z Z h6 (zc Z Z h6 (ze Z Z h2 (yc Z (bTT h8) Z) (za (yc Z (bTT h3) Z) ⟨true,H,⟨Z,Z,Z,Z,U⟩,U⟩))))
   ·exact u2 h2 H fun h9 H=>zc Z Z h2 (zc Z Z h2 (zc Z Z h2 (zc Z Z h2 (yw Z Z (yw Z Z (yw Z Z (zc Z Z h2 (za (zv Z (bFF h9) Z) ⟨false,H,⟨Z,Z,Z,Z,U⟩,U⟩))))))))
  ·rintro v10 H
   replace H:z1y v1 v10=some r:=H
   unfold z1y at H
   refine zh _ Z (fun h11 => ?_) (fun h11 => ?_)
   ·exact tE h11 H fun H=>zu hN Z (qd Z (bE H fun l12 h13 H=>za (jf tyU9 Z Z Z h13) (qe Z ⟨l12,H,⟨Z,Z,Z,U⟩,U⟩)))
   ·exact fE h11 H fun H=>zl ⟨v1,H,⟨Z,Z,Z,U⟩,U⟩
 ·rintro v14 H
  replace H:z4v v14=some r:=H
  unfold z4v at H
  refine zb hN Z (qe Z (yf (ι:=Int×Int×Bool) (fun i=>[(0,.dat (vstr v14)),(3,.dat (vval (.int .i32 i.1))),(4,.dat (vint i.2.1)),(5,.dat (zj i.2.2))]) (fun i=>[]) (fun i=>z4u v14 i.1 i.2.1 i.2.2=some r) (fun i=>Z) ?_ ?_))
  ·skip
   refine yf (ι:=Bool) (fun i=>[(0,.dat (vstr v14)),(3,.dat (vval (.int .i32 94))),(4,.dat (vint 0)),(5,.dat (zj false)),(46,.dat (zj i))]) (fun i=>[]) (fun i=>Zt v14 i=some r) (fun i=>Z) ?_ ?_
   ·skip
    refine zu hN Z (qd Z (za (qh tyU9 Z) (za (jg Z Z) (qd Z (yi (j:=3) Z Z (fun h15 => ?_) (fun h15 => ?_) Z)))))
    ·refine u1 h15 H fun h16 H=>ze Z Z h15 (zf (.dat _) Z) (bE H fun x17 h18 H=>ze Z Z h15 (qx tyU9 Z Z h18) (ze Z Z h15 (yt Z Z) (za (yc Z (bTT h16) Z) (qd Z (yi (j:=8) Z Z (fun h19 => ?_) (fun h19 => ?_) Z)))))
     ·refine u1 h19 H fun h20 H=>ze Z Z h19 (zf (.dat _) Z) (bE H fun x21 h22 H=>ze Z Z h19 (qx tyU9 Z Z h22) (bE H fun r23 h24 H=>ze Z Z h19 (zm (kb (x21.toNat:Int) r23 h24) ⟨.inl Z,U⟩) (ze Z Z h19 (yt Z Z) (ze Z Z h19 (zf (.dat _) Z) (yi (j:=13) Z Z (fun h25 => ?_) (fun h25 => ?_) Z)))))
      ·refine u3 h25 H fun h26 H=>ze Z Z h25 (zf (.dat _) Z) (ze Z Z h25 (qx tyU9 Z Z h22) (bE H fun r27 h28 H=>ze Z Z h25 (zm (kb (x21.toNat:Int) r27 h28) ⟨.inl Z,U⟩) (ze Z Z h25 (yt Z Z) (ze Z Z h19 (zv Z (bFF h26) Z) (ze Z Z h19 (zf (.dat _) Z) (yi (j:=19) Z Z (fun h29 => ?_) (fun h29 => ?_) Z))))))
       ·exact u3 h29 H fun h30 H=>ze Z Z h29 (zf (.dat _) Z) (ze Z Z h29 (qx tyU9 Z Z h22) (bE H fun r31 h32 H=>ze Z Z h29 (zm (kb (x21.toNat:Int) r31 h32) ⟨.inl Z,U⟩) (ze Z Z h29 (yt Z Z) (ze Z Z h19 (zv Z (bFF h30) Z) (za (yc Z (bTT h20) Z) ⟨decide (r31=120),H,⟨Z,Z,Z,Z,Z,U⟩,U⟩)))))
       ·exact u4 h29 H fun h33 H=>zc Z Z h29 (zc Z Z h29 (zc Z Z h29 (zc Z Z h29 (ze Z Z h19 (yc Z (bTT h33) Z) (za (yc Z (bTT h20) Z) ⟨true,H,⟨Z,Z,Z,Z,Z,U⟩,U⟩)))))
      ·exact u4 h25 H fun h34 H=>zc Z Z h25 (zc Z Z h25 (zc Z Z h25 (zc Z Z h25 (ze Z Z h19 (yc Z (bTT h34) Z) (ze Z Z h19 (zf (.dat _) Z) (zc Z Z Z (zc Z Z Z (zc Z Z Z (zc Z Z Z (ze Z Z h19 (yc Z Z Z) (za (yc Z (bTT h20) Z) ⟨true,H,⟨Z,Z,Z,Z,Z,U⟩,U⟩)))))))))))
     ·exact u2 h19 H fun h35 H=>zc Z Z h19 (zc Z Z h19 (zc Z Z h19 (zc Z Z h19 (zc Z Z h19 (yw Z Z (yw Z Z (yw Z Z (yw Z Z (zc Z Z h19 (zc Z Z h19 (yw Z Z (yw Z Z (yw Z Z (yw Z Z (zc Z Z h19 (za (zv Z (bFF h35) Z) ⟨false,H,⟨Z,Z,Z,Z,Z,U⟩,U⟩))))))))))))))))
    ·exact u2 h15 H fun h36 H=>zc Z Z h15 (zc Z Z h15 (zc Z Z h15 (za (zv Z (bFF h36) Z) (qd Z (zc Z Z Z (zc Z Z Z (zc Z Z Z (zc Z Z Z (zc Z Z Z (yw Z Z (yw Z Z (yw Z Z (yw Z Z (zc Z Z Z (zc Z Z Z (yw Z Z (yw Z Z (yw Z Z (yw Z Z (zc Z Z Z (za (zv Z Z Z) ⟨false,H,⟨Z,Z,Z,Z,Z,U⟩,U⟩)))))))))))))))))))))
   ·rintro v37 H
    replace H:Zt v14 v37=some r:=H
    unfold Zt at H
    refine zh _ Z (fun h38 => ?_) (fun h38 => ?_)
    ·exact tE h38 H fun H=>zb hN Z (qe Z (zb hN Z (qe Z (zu hN Z (qd Z (bE H fun x39 h40 H=>za (qx tyU9 Z Z h40) (bE H fun r41 h42 H=>za (zm (kb (x39.toNat:Int) r41 h42) ⟨.inl Z,U⟩) (za (yt Z Z) (qe Z ⟨(48,2,decide (r41=120)),H,⟨Z,Z,Z,Z,U⟩,U⟩)))))))))
    ·exact fE h38 H fun H=>zl ⟨(94,0,false),H,⟨Z,Z,Z,Z,U⟩,U⟩
  ·rintro ⟨v43,v44,v45⟩ H
   replace H:z4u v14 v43 v44 v45=some r:=H
   unfold z4u at H
   refine yf (ι:=Int) (fun i=>[(3,.dat (vval (.int .i32 i)))]) (fun i=>[]) (fun i=>z7v i=some r) (fun i=>Z) ?_ ?_
   ·skip
    refine yg (z8i (fun (s:Int×Int)=>[(0,.dat (vstr v14)),(3,.dat (vval (.int .i32 s.1))),(4,.dat (vint s.2)),(5,.dat (zj v45))]) (fun (s:Int×Int)=>[]) (v43,v44) H ⟨Z,Z,Z,Z,U⟩ U (fun _=>Z) ?_)
    rintro ⟨v46,v47⟩ q48 H hq48
    replace H:y0n v14 v45 v46 v47=some q48:=H
    unfold y0n at H
    refine zg (zb hN Z (qd Z (qd Z (za (qh tyU9 Z) (za (ye Z Z) (zh _ Z (fun h49 => ?_) (fun h49 => ?_)))))))
    ·refine tE h49 H fun H=>zl (yf (ι:=Int) (fun i=>[(0,.dat (vstr v14)),(3,.dat (vval (.int .i32 i))),(4,.dat (vint v47)),(5,.dat (zj v45))]) (fun i=>[]) (fun i=>z1x v47 i=some q48) (fun i=>Z) ?_ ?_)
     ·skip
      refine yg (zg (yf (ι:=Bool) (fun i=>[(0,.dat (vstr v14)),(3,.dat (vval (.int .i32 v46))),(4,.dat (vint v47)),(5,.dat (zj v45)),(83,.dat (zj i))]) (fun i=>[]) (fun i=>uu v14 v46 v47 i=some q48) (fun i=>Z) ?_ ?_))
      ·skip
       refine zu hN Z (qd Z (qd Z (bE H fun x50 h51 H=>za (ui tyU9 Z Z h51) (za (wt Z Z) (qd Z (yi (j:=4) Z Z (fun h52 => ?_) (fun h52 => ?_) Z))))))
       ·refine u1 h52 H fun h53 H=>ze Z Z h52 (zf (.dat _) Z) (ze Z Z h52 (zf (.dat _) Z) (ze Z Z h52 (ui tyU9 Z Z h51) (ze Z Z h52 (wt Z Z) (za (yc Z (bTT h53) Z) (qd Z (yi (j:=10) Z Z (fun h54 => ?_) (fun h54 => ?_) Z))))))
        ·refine u3 h54 H fun h55 H=>ze Z Z h54 (zf (.dat _) Z) (ze Z Z h54 (zf (.dat _) Z) (yi (j:=12) Z Z (fun h56 => ?_) (fun h56 => ?_) Z))
         ·refine u1 h56 H fun h57 H=>ze Z Z h56 (zf (.dat _) Z) (ze Z Z h56 (zf (.dat _) Z) (ze Z Z h56 (ui tyU9 Z Z h51) (bE H fun r58 h59 H=>ze Z Z h56 (zm (kb (x50.toNat:Int) r58 h59) ⟨.inl Z,U⟩) (ze Z Z h56 (wt Z Z) (ze Z Z h54 (yc Z (bTT h57) Z) (ze Z Z h54 (zf (.dat _) Z) (yi (j:=19) Z Z (fun h60 => ?_) (fun h60 => ?_) Z)))))))
          ·exact u1 h60 H fun h61 H=>ze Z Z h60 (zf (.dat _) Z) (ze Z Z h60 (zf (.dat _) Z) (ze Z Z h60 (ui tyU9 Z Z h51) (bE H fun r62 h63 H=>ze Z Z h60 (zm (kb (x50.toNat:Int) r62 h63) ⟨.inl Z,U⟩) (ze Z Z h60 (wt Z Z) (ze Z Z h54 (yc Z (bTT h61) Z) (za (zv Z (bFF h55) Z) ⟨decide (r62≤102),H,⟨Z,Z,Z,Z,Z,U⟩,U⟩))))))
          ·exact u2 h60 H fun h64 H=>zc Z Z h60 (zc Z Z h60 (zc Z Z h60 (zc Z Z h60 (zc Z Z h60 (ze Z Z h54 (zv Z (bFF h64) Z) (za (zv Z (bFF h55) Z) ⟨false,H,⟨Z,Z,Z,Z,Z,U⟩,U⟩))))))
         ·exact u2 h56 H fun h65 H=>zc Z Z h56 (zc Z Z h56 (zc Z Z h56 (zc Z Z h56 (zc Z Z h56 (ze Z Z h54 (zv Z (bFF h65) Z) (ze Z Z h54 (zf (.dat _) Z) (zc Z Z Z (zc Z Z Z (zc Z Z Z (zc Z Z Z (zc Z Z Z (ze Z Z h54 (zv Z Z Z) (za (zv Z (bFF h55) Z) ⟨false,H,⟨Z,Z,Z,Z,Z,U⟩,U⟩)))))))))))))
        ·exact u4 h54 H fun h66 H=>zc Z Z h54 (zc Z Z h54 (yw Z Z (yw Z Z (yw Z Z (yw Z Z (yw Z Z (zc Z Z h54 (zc Z Z h54 (yw Z Z (yw Z Z (yw Z Z (yw Z Z (yw Z Z (zc Z Z h54 (za (yc Z (bTT h66) Z) ⟨true,H,⟨Z,Z,Z,Z,Z,U⟩,U⟩)))))))))))))))
       ·refine u2 h52 H fun h67 H=>zc Z Z h52 (zc Z Z h52 (zc Z Z h52 (zc Z Z h52 (za (zv Z (bFF h67) Z) (qd Z (ze Z Z Z (zf (.dat _) Z) (ze Z Z Z (zf (.dat _) Z) (yi (j:=12) Z Z (fun h68 => ?_) (fun h68 => ?_) Z))))))))
        ·refine u1 h68 H fun h69 H=>ze Z Z h68 (zf (.dat _) Z) (ze Z Z h68 (zf (.dat _) Z) (ze Z Z h68 (ui tyU9 Z Z h51) (bE H fun r70 h71 H=>ze Z Z h68 (zm (kb (x50.toNat:Int) r70 h71) ⟨.inl Z,U⟩) (ze Z Z h68 (wt Z Z) (ze Z Z Z (yc Z (bTT h69) Z) (ze Z Z Z (zf (.dat _) Z) (yi (j:=19) Z Z (fun h72 => ?_) (fun h72 => ?_) Z)))))))
         ·exact u1 h72 H fun h73 H=>ze Z Z h72 (zf (.dat _) Z) (ze Z Z h72 (zf (.dat _) Z) (ze Z Z h72 (ui tyU9 Z Z h51) (bE H fun r74 h75 H=>ze Z Z h72 (zm (kb (x50.toNat:Int) r74 h75) ⟨.inl Z,U⟩) (ze Z Z h72 (wt Z Z) (ze Z Z Z (yc Z (bTT h73) Z) (za (zv Z Z Z) ⟨decide (r74≤102),H,⟨Z,Z,Z,Z,Z,U⟩,U⟩))))))
         ·exact u2 h72 H fun h76 H=>zc Z Z h72 (zc Z Z h72 (zc Z Z h72 (zc Z Z h72 (zc Z Z h72 (ze Z Z Z (zv Z (bFF h76) Z) (za (zv Z Z Z) ⟨false,H,⟨Z,Z,Z,Z,Z,U⟩,U⟩))))))
        ·exact u2 h68 H fun h77 H=>zc Z Z h68 (zc Z Z h68 (zc Z Z h68 (zc Z Z h68 (zc Z Z h68 (ze Z Z Z (zv Z (bFF h77) Z) (ze Z Z Z (zf (.dat _) Z) (zc Z Z Z (zc Z Z Z (zc Z Z Z (zc Z Z Z (zc Z Z Z (ze Z Z Z (zv Z Z Z) (za (zv Z Z Z) ⟨false,H,⟨Z,Z,Z,Z,Z,U⟩,U⟩)))))))))))))
      ·rintro v78 H
       replace H:uu v14 v46 v47 v78=some q48:=H
       unfold uu at H
       refine zh _ Z (fun h79 => ?_) (fun h79 => ?_)
       ·exact tE h79 H fun H=>zb hN Z (qe Z (qc ⟨48,H,⟨Z,Z,Z,Z,U⟩,U⟩))
       ·refine fE h79 H fun H=>zl (zg (zb hN Z (qd Z (qd Z (bE H fun x80 h81 H=>za (ui tyU9 Z Z h81) (za (yt Z Z) (zh _ Z (fun h82 => ?_) (fun h82 => ?_))))))))
        ·refine tE h82 H fun H=>zg (zb hN Z (qd Z (za (qk Z Z) (zh _ Z (fun h83 => ?_) (fun h83 => ?_)))))
         ·refine tE h83 H fun H=>zb hN Z (qe Z (zk ?_))
          replace H:=retl H hq48
          cases H
          exact ⟨U,.inl Z,U⟩
         ·exact fE h83 H fun H=>zl (zb hN Z (qe Z (qc ⟨95,H,⟨Z,Z,Z,Z,U⟩,U⟩)))
        ·refine fE h82 H fun H=>zl (zg (zb hN Z (qd Z (za (yt Z Z) (zh _ Z (fun h84 => ?_) (fun h84 => ?_))))))
         ·refine tE h84 H fun H=>zb hN Z (qe Z (zk ?_))
          replace H:=retl H hq48
          cases H
          exact ⟨U,.inl Z,U⟩
         ·exact fE h84 H fun H=>zl (zu hN Z (qe Z ⟨33,H,⟨Z,Z,Z,Z,U⟩,U⟩))
     ·rintro v85 H
      replace H:z1x v47 v85=some q48:=H
      unfold z1x at H
      exact zu hN Z (qd Z (za (qn _ Z Z (.inl ⟨Z,Z⟩)) (qe Z ⟨_,qj H,⟨Z,Z,Z,Z,U⟩,U⟩)))
    ·refine fE h49 H fun H=>qc ?_
     replace H:=outl H hq48
     exact ⟨v46,H,⟨Z,U⟩,U⟩
   ·rintro v86 H
    replace H:z7v v86=some r:=H
    unfold z7v at H
    refine zb hN Z (qd Z (za (qk Z Z) (qe Z (zk ?_))))
    cases H
    exact ⟨U,.inl Z,U⟩
theorem x2l (v1:Bs) (v2:Int) (v3:Int) (r:(Int×Int)) (H:z9y v1 v2 v3=some r):Fn Tryz.prog 220 [vstr v1,vint v2,vint v3] (zw [vval (.int .u64 r.1),verr r.2]):=by
 refine ⟨by kernel_rfl,yh (us:=[vval (.int .u64 r.1),verr r.2]) Tryz.func220 Z Z Z Z fun X hN => ?_⟩
 unfold z9y at H
 refine zb hN Z (qe Z (qe Z (zg (zb hN Z (qd Z (za (vo Z Z) (zh _ Z (fun h4 => ?_) (fun h4 => ?_))))))))
 ·refine tE h4 H fun H=>zb hN Z (za (yd (u':=verr 2) (jv (show Tryz.prog.underlying 220=some (.int .i64) from by kernel_rfl) Z) Z) ?_)
  refine qe Z (qe Z (zk ?_))
  cases H
  exact ⟨U,.inl Z,.inl Z,U⟩
 ·refine fE h4 H fun H=>zl (zb hN Z (qd Z (za (yt Z Z) (qe Z (zb hN Z (qd Z (qe Z (yf (ι:=Bs×Int) (fun i=>[(0,.dat (vstr i.1)),(1,.dat (vint i.2)),(2,.dat (vint v3)),(8,.dat (zj (decide (v2=0)))),(9,.dat (vstr v1))]) (fun i=>[]) (fun i=>xn v1 v2 v3 i.1 i.2=some r) (fun i=>Z) ?_ ?_))))))))
  ·skip
   refine yg (zb hN Z (qd Z (za (wt Z Z) (qd Z (qt Z Z (fun hc=>zf (.dat _) Z) (qt Z Z (fun hc=>wt (cnd (c:=(decide (2≤v2))) hc) Z) (za (vc Z (fun hb=>(cnd (c:=(decide (2≤v2))) hb)) Z) (qe Z (zh _ Z (fun h5 => ?_) (fun h5 => ?_))))))))))
   ·exact tE h5 H fun H=>zl ⟨(v1,v2),H,⟨Z,Z,Z,Z,Z,U⟩,U⟩
   ·refine fE h5 H fun H=>zb hN Z (qd Z (za (yt Z Z) (qe Z (zh _ Z (fun h6 => ?_) (fun h6 => ?_)))))
    ·refine tE h6 H fun H=>zb hN Z (qe Z (zb hN Z (qd Z (bE H fun x7 h8 H=>za (qx tyU9 Z Z h8) (za (yt Z Z) (zh _ Z (fun h9 => ?_) (fun h9 => ?_)))))))
     ·refine tE h9 H fun H=>yg (yf (ι:=Bool) (fun i=>[(0,.dat (vstr v1)),(2,.dat (vint v3)),(8,.dat (zj (decide (v2=0)))),(9,.dat (vstr v1)),(40,.dat (zj i))]) (fun i=>[]) (fun i=>z42 v1 v2 v3 i=some r) (fun i=>Z) ?_ ?_)
      ·skip
       refine zu hN Z (qd Z (za (qh tyU9 Z) (za (jg Z Z) (qd Z (yi (j:=3) Z Z (fun h10 => ?_) (fun h10 => ?_) Z)))))
       ·exact u1 h10 H fun h11 H=>ze Z Z h10 (zf (.dat _) Z) (bE H fun x12 h13 H=>ze Z Z h10 (qx tyU9 Z Z h13) (bE H fun r14 h15 H=>ze Z Z h10 (zm (kb (x12.toNat:Int) r14 h15) ⟨.inl Z,U⟩) (ze Z Z h10 (yt Z Z) (za (yc Z (bTT h11) Z) (qe Z ⟨decide (r14=98),H,⟨Z,Z,Z,Z,Z,U⟩,U⟩)))))
       ·exact u2 h10 H fun h16 H=>zc Z Z h10 (zc Z Z h10 (zc Z Z h10 (zc Z Z h10 (za (zv Z (bFF h16) Z) (qe Z ⟨false,H,⟨Z,Z,Z,Z,Z,U⟩,U⟩)))))
      ·rintro v17 H
       replace H:z42 v1 v2 v3 v17=some r:=H
       unfold z42 at H
       refine zh _ Z (fun h18 => ?_) (fun h18 => ?_)
       ·exact tE h18 H fun H=>zb hN Z (qe Z (zu hN Z (qd Z (bE H fun l19 h20 H=>za (jf tyU9 Z Z Z h20) (qe Z ⟨(l19,2),H,⟨Z,Z,Z,Z,Z,U⟩,U⟩)))))
       ·refine fE h18 H fun H=>yf (ι:=Bool) (fun i=>[(0,.dat (vstr v1)),(2,.dat (vint v3)),(8,.dat (zj (decide (v2=0)))),(9,.dat (vstr v1)),(52,.dat (zj i))]) (fun i=>[]) (fun i=>z41 v1 v2 v3 i=some r) (fun i=>Z) ?_ ?_
        ·skip
         refine zu hN Z (qd Z (za (qh tyU9 Z) (za (jg Z Z) (qd Z (yi (j:=3) Z Z (fun h21 => ?_) (fun h21 => ?_) Z)))))
         ·exact u1 h21 H fun h22 H=>ze Z Z h21 (zf (.dat _) Z) (bE H fun x23 h24 H=>ze Z Z h21 (qx tyU9 Z Z h24) (bE H fun r25 h26 H=>ze Z Z h21 (zm (kb (x23.toNat:Int) r25 h26) ⟨.inl Z,U⟩) (ze Z Z h21 (yt Z Z) (za (yc Z (bTT h22) Z) (qe Z ⟨decide (r25=111),H,⟨Z,Z,Z,Z,Z,U⟩,U⟩)))))
         ·exact u2 h21 H fun h27 H=>zc Z Z h21 (zc Z Z h21 (zc Z Z h21 (zc Z Z h21 (za (zv Z (bFF h27) Z) (qe Z ⟨false,H,⟨Z,Z,Z,Z,Z,U⟩,U⟩)))))
        ·rintro v28 H
         replace H:z41 v1 v2 v3 v28=some r:=H
         unfold z41 at H
         refine zh _ Z (fun h29 => ?_) (fun h29 => ?_)
         ·exact tE h29 H fun H=>zb hN Z (qe Z (zu hN Z (qd Z (bE H fun l30 h31 H=>za (jf tyU9 Z Z Z h31) (qe Z ⟨(l30,8),H,⟨Z,Z,Z,Z,Z,U⟩,U⟩)))))
         ·refine fE h29 H fun H=>yf (ι:=Bool) (fun i=>[(0,.dat (vstr v1)),(2,.dat (vint v3)),(8,.dat (zj (decide (v2=0)))),(9,.dat (vstr v1)),(64,.dat (zj i))]) (fun i=>[]) (fun i=>z4z v1 v2 v3 i=some r) (fun i=>Z) ?_ ?_
          ·skip
           refine zu hN Z (qd Z (za (qh tyU9 Z) (za (jg Z Z) (qd Z (yi (j:=3) Z Z (fun h32 => ?_) (fun h32 => ?_) Z)))))
           ·exact u1 h32 H fun h33 H=>ze Z Z h32 (zf (.dat _) Z) (bE H fun x34 h35 H=>ze Z Z h32 (qx tyU9 Z Z h35) (bE H fun r36 h37 H=>ze Z Z h32 (zm (kb (x34.toNat:Int) r36 h37) ⟨.inl Z,U⟩) (ze Z Z h32 (yt Z Z) (za (yc Z (bTT h33) Z) (qe Z ⟨decide (r36=120),H,⟨Z,Z,Z,Z,Z,U⟩,U⟩)))))
           ·exact u2 h32 H fun h38 H=>zc Z Z h32 (zc Z Z h32 (zc Z Z h32 (zc Z Z h32 (za (zv Z (bFF h38) Z) (qe Z ⟨false,H,⟨Z,Z,Z,Z,Z,U⟩,U⟩)))))
          ·rintro v39 H
           replace H:z4z v1 v2 v3 v39=some r:=H
           unfold z4z at H
           refine zh _ Z (fun h40 => ?_) (fun h40 => ?_)
           ·exact tE h40 H fun H=>zb hN Z (qe Z (zu hN Z (qd Z (bE H fun l41 h42 H=>za (jf tyU9 Z Z Z h42) (qe Z ⟨(l41,16),H,⟨Z,Z,Z,Z,Z,U⟩,U⟩)))))
           ·exact fE h40 H fun H=>zb hN Z (qe Z (zu hN Z (qd Z (bE H fun l43 h44 H=>za (jf tyU9 Z Z Z h44) (qe Z ⟨(l43,8),H,⟨Z,Z,Z,Z,Z,U⟩,U⟩)))))
     ·exact fE h9 H fun H=>zl ⟨(v1,10),H,⟨Z,Z,Z,Z,Z,U⟩,U⟩
    ·refine fE h6 H fun H=>zb hN Z (za (yd (u':=verr 3) (jv (show Tryz.prog.underlying 220=some (.int .i64) from by kernel_rfl) Z) Z) ?_)
     refine qe Z (qe Z (zk ?_))
     cases H
     exact ⟨U,.inl Z,.inl Z,U⟩
  ·rintro ⟨v45,v46⟩ H
   replace H:xn v1 v2 v3 v45 v46=some r:=H
   unfold xn at H
   refine yf (ι:=Int) (fun i=>[(0,.dat (vstr v45)),(1,.dat (vint v46)),(2,.dat (vint i)),(8,.dat (zj (decide (v2=0)))),(9,.dat (vstr v1))]) (fun i=>[]) (fun i=>z4y v1 v2 v45 v46 i=some r) (fun i=>Z) ?_ ?_
   ·skip
    refine zb hN Z (qd Z (za (yt Z Z) (zh _ Z (fun h47 => ?_) (fun h47 => ?_))))
    ·exact tE h47 H fun H=>zu hN Z (qe Z ⟨64,H,⟨Z,Z,Z,Z,Z,U⟩,U⟩)
    ·refine fE h47 H fun H=>zb hN Z (qd Z (za (ye Z Z) (qd Z (wj Z Z (fun hc=>zf (.dat _) Z) (wj Z Z (fun hc=>qv (cnd (c:=(!(decide (v3 < 0)))) hc) Z) (za (ki Z Z (fun hb=>(cnd (c:=(!(decide (v3 < 0)))) (notI hb)))) (zh _ Z (fun h48 => ?_) (fun h48 => ?_))))))))
     ·refine tE h48 H fun H=>zb hN Z (za (yd (u':=verr 4) (jv (show Tryz.prog.underlying 220=some (.int .i64) from by kernel_rfl) Z) Z) ?_)
      refine qe Z (qe Z (zk ?_))
      cases H
      exact ⟨U,.inl Z,.inl Z,U⟩
     ·exact fE h48 H fun H=>zl ⟨v3,H,⟨Z,Z,Z,Z,Z,U⟩,U⟩
   ·rintro v49 H
    replace H:z4y v1 v2 v45 v46 v49=some r:=H
    unfold z4y at H
    refine zb hN Z (qe Z (yf (ι:=Int) (fun i=>[(0,.dat (vstr v45)),(1,.dat (vint v46)),(2,.dat (vint v49)),(8,.dat (zj (decide (v2=0)))),(9,.dat (vstr v1)),(10,.dat (vval (.int .u64 i)))]) (fun i=>[]) (fun i=>z1z v1 v2 v45 v46 v49 i=some r) (fun i=>Z) ?_ ?_))
    ·skip
     refine zb hN Z (qd Z (yg (zb hN Z (za (yt Z Z) (qe Z (zh _ Z (fun h50 => ?_) (fun h50 => ?_)))))))
     ·exact tE h50 H fun H=>zu hN Z (qe Z ⟨1844674407370955162,H,⟨Z,Z,Z,Z,Z,Z,U⟩,U⟩)
     ·refine fE h50 H fun H=>zb hN Z (za (yt Z Z) (qe Z (zh _ Z (fun h51 => ?_) (fun h51 => ?_))))
      ·exact tE h51 H fun H=>zu hN Z (qe Z ⟨1152921504606846976,H,⟨Z,Z,Z,Z,Z,Z,U⟩,U⟩)
      ·exact fE h51 H fun H=>zu hN Z (qd Z (za (kv tyU3 z0m Z) (gE H fun h52 H=>za (y8o Z Z h52) (za (qn _ Z Z (.inl ⟨Z,Z⟩)) (qe Z ⟨IntKind.wrap .u64 ((IntKind.wrap .u64 (Int.tdiv 18446744073709551615 (IntKind.wrap .u64 v46)))+1),H,⟨Z,Z,Z,Z,Z,Z,U⟩,U⟩)))))
    ·rintro v53 H
     replace H:z1z v1 v2 v45 v46 v49 v53=some r:=H
     unfold z1z at H
     refine zb hN Z (qd Z (za (kv tyU3 y10 Z) (gE H fun h54 H=>za (yd (y2n Z Z h54) Z) (za (qn _ Z Z (.inr (.inl ⟨Z,Z⟩))) (qe Z (zb hN Z (qe Z (zb hN Z (qe Z (zg (zb hN Z (qd Z (za (y2z (C:=z0j) tyU9 z5t tyU5 (fun _=>Z) Z) (za (yz z5t Z) (qd Z (yg (gE H fun h59 H=>qw (fun (k57:Nat) (s:Bool×Int)=>[(1,.dat (vint v46)),(8,.dat (zj (decide (v2=0)))),(9,.dat (vstr v1)),(10,.dat (vval (.int .u64 v53))),(11,.dat (vval (.int .u64 (IntKind.wrap .u64 ((shl_ .u64 1 (IntKind.wrap .u64 v49)) - 1))))),(12,.dat (zj s.1)),(13,.dat (vval (.int .u64 s.2))),(99,.dat (vlst (List.map z0j (vf v45)))),(100,.dat (vint ((vf v45).length:Int))),(101,.dat (vint (k57:Int)))]) (fun (k57:Nat) (s:Bool×Int)=>[]) (false,0) H ⟨Z,Z,Z,Z,Z,Z,Z,Z,Z,Z,U⟩ U (fun _ _=>Z) ?_ ?_)))))))))))))))))
     ·rintro ⟨v55,v56⟩ H
      replace H:y0p v1 v55 v56=some r:=H
      unfold y0p at H
      refine zb hN Z (za (ye Z Z) (zg (zh _ Z (fun h=>(lt_t h).elim) (fun h => ?_))))
      refine qc (zg (yf (ι:=Bool) (fun i=>[(13,.dat (vval (.int .u64 v56))),(169,.dat (zj i))]) (fun i=>[]) (fun i=>z4x v56 i=some r) (fun i=>Z) ?_ ?_))
      ·skip
       refine zu hN Z (qd Z (qd Z (yi (j:=1) Z Z (fun h61 => ?_) (fun h61 => ?_) Z)))
       ·exact u1 h61 H fun h62 H=>ze Z Z h61 (zf (.dat _) Z) (bE H fun r63 h64 H=>ze Z Z h61 (zm (x2k v1 r63 h64) ⟨.inl Z,U⟩) (ze Z Z h61 (yp Z) (za (yc Z (bTT h62) Z) ⟨!r63,H,⟨Z,Z,U⟩,U⟩)))
       ·exact u2 h61 H fun h65 H=>zc Z Z h61 (zc Z Z h61 (zc Z Z h61 (za (zv Z (bFF h65) Z) ⟨false,H,⟨Z,Z,U⟩,U⟩)))
      ·rintro v66 H
       replace H:z4x v56 v66=some r:=H
       unfold z4x at H
       refine zh _ Z (fun h67 => ?_) (fun h67 => ?_)
       ·refine tE h67 H fun H=>zb hN Z (za (yd (u':=verr 2) (jv (show Tryz.prog.underlying 220=some (.int .i64) from by kernel_rfl) Z) Z) ?_)
        refine qe Z (qe Z (zk ?_))
        cases H
        exact ⟨U,.inl Z,.inl Z,U⟩
       ·refine fE h67 H fun H=>zl (zb hN Z (qd Z (qe Z (qe Z (zk ?_)))))
        cases H
        exact ⟨U,.inl Z,.inl Z,U⟩
     ·rintro k57 x60 ⟨v55,v56⟩ q58 h68 h69 H hq58
      replace H:y0o v2 v46 v49 v53 k57 x60 v55 v56=some q58:=H
      unfold y0o at H
      refine zb hN Z (za (ye Z Z) (zg (zh _ Z (fun h => ?_) (fun h=>(lt_f h68 h).elim))))
      refine zl (yf (ι:=Bool×Int) (fun i=>[(1,.dat (vint v46)),(8,.dat (zj (decide (v2=0)))),(9,.dat (vstr v1)),(10,.dat (vval (.int .u64 v53))),(11,.dat (vval (.int .u64 (IntKind.wrap .u64 ((shl_ .u64 1 (IntKind.wrap .u64 v49)) - 1))))),(12,.dat (zj i.1)),(13,.dat (vval (.int .u64 i.2))),(99,.dat (vlst (List.map z0j (vf v45)))),(100,.dat (vint ((vf v45).length:Int))),(101,.dat (vint (k57:Int)))]) (fun i=>[]) (fun i=>z4w i.1 i.2=some q58) (fun i=>Z) ?_ ?_)
      ·skip
       refine yg (zb hN Z (za (wd y18 (fun _=>Z) Z Z h69) (za (qo tyS5 Z (qa h69) Z) (qe Z (zb hN Z (qe Z (yf (ι:=Int) (fun i=>[(1,.dat (vint v46)),(8,.dat (zj (decide (v2=0)))),(9,.dat (vstr v1)),(10,.dat (vval (.int .u64 v53))),(11,.dat (vval (.int .u64 (IntKind.wrap .u64 ((shl_ .u64 1 (IntKind.wrap .u64 v49)) - 1))))),(12,.dat (zj v55)),(13,.dat (vval (.int .u64 v56))),(16,.dat (vval (.int .u8 i))),(99,.dat (vlst (List.map z0j (vf v45)))),(100,.dat (vint ((vf v45).length:Int))),(101,.dat (vint (k57:Int)))]) (fun i=>[]) (fun i=>z44 v46 v49 v53 v55 v56 i=some q58) (fun i=>Z) ?_ ?_)))))))
       ·skip
        refine yg (zb hN Z (qd Z (za (yt Z Z) (qd Z (qt Z Z (fun hc=>zf (.dat _) Z) (za (vc Z (fun hb=>(cnd (c:=(decide (x60=95))) hb)) Z) (qe Z (zh _ Z (fun h70 => ?_) (fun h70 => ?_)))))))))
        ·exact tE h70 H fun H=>zb hN Z (qe Z (qc ⟨(true,v56),H,⟨Z,Z,Z,Z,Z,Z,Z,Z,Z,Z,U⟩,U⟩))
        ·refine fE h70 H fun H=>zb hN Z (qd Z (za (wt Z Z) (qd Z (qt Z Z (fun hc=>zf (.dat _) Z) (qt Z Z (fun hc=>wt (cnd (c:=(decide (48≤x60))) hc) Z) (za (vc Z (fun hb=>(cnd (c:=(decide (48≤x60))) hb)) Z) (qe Z (zh _ Z (fun h71 => ?_) (fun h71 => ?_)))))))))
         ·exact tE h71 H fun H=>zu hN Z (qd Z (za (qn _ Z Z (.inr (.inl ⟨Z,Z⟩))) (qe Z ⟨IntKind.wrap .u8 (x60 - 48),H,⟨Z,Z,Z,Z,Z,Z,Z,Z,Z,Z,Z,U⟩,U⟩)))
         ·refine fE h71 H fun H=>yf (ι:=Bool) (fun i=>[(1,.dat (vint v46)),(8,.dat (zj (decide (v2=0)))),(9,.dat (vstr v1)),(10,.dat (vval (.int .u64 v53))),(11,.dat (vval (.int .u64 (IntKind.wrap .u64 ((shl_ .u64 1 (IntKind.wrap .u64 v49)) - 1))))),(12,.dat (zj v55)),(13,.dat (vval (.int .u64 v56))),(15,.dat (vval (.int .u8 x60))),(99,.dat (vlst (List.map z0j (vf v45)))),(100,.dat (vint ((vf v45).length:Int))),(101,.dat (vint (k57:Int))),(121,.dat (zj i))]) (fun i=>[]) (fun i=>z43 v46 v49 v53 v55 v56 x60 i=some q58) (fun i=>Z) ?_ ?_
          ·skip
           refine zu hN Z (qd Z (bE H fun r72 h73 H=>za (zm (kb x60 r72 h73) ⟨.inl Z,U⟩) (za (wt Z Z) (qd Z (yi (j:=3) Z Z (fun h74 => ?_) (fun h74 => ?_) Z)))))
           ·exact u1 h74 H fun h75 H=>ze Z Z h74 (zf (.dat _) Z) (bE H fun r76 h77 H=>ze Z Z h74 (zm (kb x60 r76 h77) ⟨.inl Z,U⟩) (ze Z Z h74 (wt Z Z) (za (yc Z (bTT h75) Z) (qe Z ⟨decide (r76≤122),H,⟨Z,Z,Z,Z,Z,Z,Z,Z,Z,Z,Z,Z,U⟩,U⟩))))
           ·exact u2 h74 H fun h78 H=>zc Z Z h74 (zc Z Z h74 (zc Z Z h74 (za (zv Z (bFF h78) Z) (qe Z ⟨false,H,⟨Z,Z,Z,Z,Z,Z,Z,Z,Z,Z,Z,Z,U⟩,U⟩))))
          ·rintro v79 H
           replace H:z43 v46 v49 v53 v55 v56 x60 v79=some q58:=H
           unfold z43 at H
           refine zh _ Z (fun h80 => ?_) (fun h80 => ?_)
           ·exact tE h80 H fun H=>zu hN Z (qd Z (bE H fun r81 h82 H=>za (zm (kb x60 r81 h82) ⟨.inl Z,U⟩) (za (qn _ Z Z (.inr (.inl ⟨Z,Z⟩))) (za (qn _ Z Z (.inl ⟨Z,Z⟩)) (qe Z ⟨IntKind.wrap .u8 ((IntKind.wrap .u8 (r81 - 97))+10),H,⟨Z,Z,Z,Z,Z,Z,Z,Z,Z,Z,Z,U⟩,U⟩)))))
           ·refine fE h80 H fun H=>zb hN Z (za (yd (u':=verr 2) (jv (show Tryz.prog.underlying 220=some (.int .i64) from by kernel_rfl) Z) Z) ?_)
            refine qe Z (qe Z (zk ?_))
            replace H:=retl H hq58
            cases H
            exact ⟨U,.inl Z,.inl Z,U⟩
       ·rintro v83 H
        replace H:z44 v46 v49 v53 v55 v56 v83=some q58:=H
        unfold z44 at H
        refine zg (zb hN Z (qd Z (qd Z (za (kv tyU3 tyU5 Z) (za (jg Z Z) (zh _ Z (fun h84 => ?_) (fun h84 => ?_)))))))
        ·refine tE h84 H fun H=>zb hN Z (za (yd (u':=verr 2) (jv (show Tryz.prog.underlying 220=some (.int .i64) from by kernel_rfl) Z) Z) ?_)
         refine qe Z (qe Z (zk ?_))
         replace H:=retl H hq58
         cases H
         exact ⟨U,.inl Z,.inl Z,U⟩
        ·refine fE h84 H fun H=>zl (zg (zb hN Z (qd Z (qd Z (za (jg Z Z) (zh _ Z (fun h85 => ?_) (fun h85 => ?_)))))))
         ·refine tE h85 H fun H=>zb hN Z (qd Z (za (yd (u':=verr 1) (jv (show Tryz.prog.underlying 220=some (.int .i64) from by kernel_rfl) Z) Z) ?_))
          refine qe Z (qe Z (zk ?_))
          replace H:=retl H hq58
          cases H
          exact ⟨U,.inl Z,.inl Z,U⟩
         ·refine fE h85 H fun H=>zl (zb hN Z (qd Z (qd Z (za (kv tyU3 z0m Z) (za (qn _ Z Z (.inr (.inr ⟨Z,Z⟩))) (qe Z (zb hN Z (qd Z (qd Z (za (kv tyU5 z0m Z) (za (qn _ Z Z (.inl ⟨Z,Z⟩)) (qe Z (zg (zb hN Z (qd Z (qd Z (za (ye Z Z) (qd Z (wj Z Z (fun hc=>zf (.dat _) Z) (wj Z Z (fun hc=>zf (.dat _) Z) (wj Z Z (fun hc=>qv (cnd (c:=(!(decide ((IntKind.wrap .u64 ((IntKind.wrap .u64 (v56 * (IntKind.wrap .u64 v46)))+(IntKind.wrap .u64 v83))) < (IntKind.wrap .u64 (v56 * (IntKind.wrap .u64 v46))))))) hc) (cnd (c:=(!(decide ((IntKind.wrap .u64 ((IntKind.wrap .u64 (v56 * (IntKind.wrap .u64 v46)))+(IntKind.wrap .u64 v83))) < (IntKind.wrap .u64 (v56 * (IntKind.wrap .u64 v46))))))) hc)) (za (ki Z Z (fun hb=>(cnd (c:=(!(decide ((IntKind.wrap .u64 ((IntKind.wrap .u64 (v56 * (IntKind.wrap .u64 v46)))+(IntKind.wrap .u64 v83))) < (IntKind.wrap .u64 (v56 * (IntKind.wrap .u64 v46))))))) (notI hb)))) ?_))))))))))))))))))))))
          refine zh _ Z (fun h86 => ?_) (fun h86 => ?_)
          ·refine tE h86 H fun H=>zb hN Z (qd Z (za (yd (u':=verr 1) (jv (show Tryz.prog.underlying 220=some (.int .i64) from by kernel_rfl) Z) Z) ?_))
           refine qe Z (qe Z (zk ?_))
           replace H:=retl H hq58
           cases H
           exact ⟨U,.inl Z,.inl Z,U⟩
          ·exact fE h86 H fun H=>zl (zu hN Z (qd Z (qe Z ⟨(v55,IntKind.wrap .u64 ((IntKind.wrap .u64 (v56 * (IntKind.wrap .u64 v46)))+(IntKind.wrap .u64 v83))),H,⟨Z,Z,Z,Z,Z,Z,Z,Z,Z,Z,U⟩,U⟩)))
      ·rintro ⟨v87,v88⟩ H
       replace H:z4w v87 v88=some q58:=H
       unfold z4w at H
       exact zu hN Z (za (qs Z Z (by omega)) (qd Z ⟨_,qj H,⟨Z,Z,Z,Z,Z,Z,Z,Z,Z,Z,U⟩,U⟩))
theorem x2m (v1:Bs) (v2:Int) (v3:Int) (r:(Int×Int)) (H:z9z v1 v2 v3=some r):Fn Tryz.prog 205 [vstr v1,vint v2,vint v3] (zw [vint r.1,verr r.2]):=by
 refine ⟨by kernel_rfl,yh (us:=[vint r.1,verr r.2]) Tryz.func205 Z Z Z Z fun X hN => ?_⟩
 unfold z9z at H
 refine zb hN Z (qe Z (qe Z (zg (zb hN Z (qd Z (za (vo Z Z) (zh _ Z (fun h4 => ?_) (fun h4 => ?_))))))))
 ·refine tE h4 H fun H=>zb hN Z (za (yd (u':=verr 2) (jv (show Tryz.prog.underlying 220=some (.int .i64) from by kernel_rfl) Z) Z) ?_)
  refine qe Z (qe Z (zk ?_))
  cases H
  exact ⟨U,.inl Z,.inl Z,U⟩
 ·refine fE h4 H fun H=>zl (zb hN Z (qe Z (yf (ι:=Bs×Bool) (fun i=>[(0,.dat (vstr i.1)),(1,.dat (vint v2)),(2,.dat (vint v3)),(8,.dat (zj i.2))]) (fun i=>[]) (fun i=>z10 v2 v3 i.1 i.2=some r) (fun i=>Z) ?_ ?_)))
  ·skip
   refine zb hN Z (qd Z (bE H fun x5 h6 H=>za (qx tyU9 Z Z h6) (yg (zb hN Z (za (yt Z Z) (qe Z (zh _ Z (fun h7 => ?_) (fun h7 => ?_))))))))
   ·exact tE h7 H fun H=>zu hN Z (qd Z (bE H fun l8 h9 H=>za (jf tyU9 Z Z Z h9) (qe Z ⟨(l8,false),H,⟨Z,Z,Z,Z,U⟩,U⟩)))
   ·refine fE h7 H fun H=>zb hN Z (za (yt Z Z) (qe Z (zh _ Z (fun h10 => ?_) (fun h10 => ?_))))
    ·exact tE h10 H fun H=>zb hN Z (qd Z (bE H fun l11 h12 H=>za (jf tyU9 Z Z Z h12) (qe Z (zu hN Z (qe Z ⟨(l11,true),H,⟨Z,Z,Z,Z,U⟩,U⟩)))))
    ·exact fE h10 H fun H=>zl ⟨(v1,false),H,⟨Z,Z,Z,Z,U⟩,U⟩
  ·rintro ⟨v13,v14⟩ H
   replace H:z10 v2 v3 v13 v14=some r:=H
   unfold z10 at H
   refine zb hN Z (qe Z (zb hN Z (qd Z (qd Z (qd Z (bE H fun r15 h16 H=>za (zm (x2l v13 v2 v3 r15 h16) ⟨.inl Z,.inl Z,.inl Z,U⟩) (qd Z (za (ym Z Z) (za (ym Z Z) (qe Z (qe Z (zg (yf (ι:=Bool) (fun i=>[(2,.dat (vint v3)),(7,.dat (verr r15.2)),(8,.dat (zj v14)),(9,.dat (vval (.int .u64 r15.1))),(38,.dat (zj i))]) (fun i=>[]) (fun i=>z48 v3 v14 r15 i=some r) (fun i=>Z) ?_ ?_)))))))))))))
   ·skip
    refine zu hN Z (qd Z (za (y2v (n:=r15.2) (show Tryz.prog.underlying 95=some (.interface (Tryz.prog.methodsAt 95)) from by kernel_rfl) Z) ?_))
    refine qd Z (yi (j:=2) Z Z (fun h17 => ?_) (fun h17 => ?_) Z)
    ·refine u1 h17 H fun h18 H=>ze Z Z h17 (zf (.dat _) Z) (ze Z Z h17 (yd (u':=verr 1) (jv (show Tryz.prog.underlying 220=some (.int .i64) from by kernel_rfl) Z) Z) ?_)
     refine gE H fun h19 H=>ze Z Z h17 (y80 (n:=r15.2) (m:=1) (show Tryz.prog.underlying 95=some (.interface (Tryz.prog.methodsAt 95)) from by kernel_rfl) (by kernel_rfl) (by kernel_rfl) Z Z h19 (by decide)) ?_
     exact za (yc Z (bTT h18) Z) ⟨decide (r15.2≠1),H,⟨Z,Z,Z,Z,Z,U⟩,U⟩
    ·exact u2 h17 H fun h20 H=>zc Z Z h17 (zc Z Z h17 (zc Z Z h17 (za (zv Z (bFF h20) Z) ⟨false,H,⟨Z,Z,Z,Z,Z,U⟩,U⟩)))
   ·rintro v21 H
    replace H:z48 v3 v14 r15 v21=some r:=H
    unfold z48 at H
    refine zh _ Z (fun h22 => ?_) (fun h22 => ?_)
    ·refine tE h22 H fun H=>zb hN Z (qd Z (qe Z (qe Z (zk ?_))))
     cases H
     exact ⟨U,.inl Z,.inl Z,U⟩
    ·refine fE h22 H fun H=>zl (yf (ι:=Int) (fun i=>[(2,.dat (vint i)),(8,.dat (zj v14)),(9,.dat (vval (.int .u64 r15.1)))]) (fun i=>[]) (fun i=>z47 v14 r15 i=some r) (fun i=>Z) ?_ ?_)
     ·skip
      refine zb hN Z (qd Z (za (yt Z Z) (zh _ Z (fun h23 => ?_) (fun h23 => ?_))))
      ·exact tE h23 H fun H=>zu hN Z (qe Z ⟨64,H,⟨Z,Z,Z,U⟩,U⟩)
      ·exact fE h23 H fun H=>zl ⟨v3,H,⟨Z,Z,Z,U⟩,U⟩
     ·rintro v24 H
      replace H:z47 v14 r15 v24=some r:=H
      unfold z47 at H
      refine zb hN Z (qd Z (za (qn _ Z Z (.inr (.inl ⟨Z,Z⟩))) (za (kv tyU3 y10 Z) (gE H fun h25 H=>za (yd (y2n Z Z h25) Z) (qe Z (zg (zb hN Z (qd Z (za (yp Z) (qd Z (qt Z Z (fun hc=>zf (.dat _) Z) (qt Z Z (fun hc=>zf (.dat _) Z) (qt Z Z (fun hc=>jg (cnd (c:=(!v14)) hc) (cnd (c:=(!v14)) hc)) (za (vc Z (fun hb=>(cnd (c:=(!v14)) hb)) Z) (zh _ Z (fun h26 => ?_) (fun h26 => ?_))))))))))))))))
      ·refine tE h26 H fun H=>zb hN Z (qd Z (za (qn _ Z Z (.inr (.inl ⟨Z,Z⟩))) (za (kv z0m tyU2 Z) (za (yd (u':=verr 1) (jv (show Tryz.prog.underlying 220=some (.int .i64) from by kernel_rfl) Z) Z) ?_))))
       refine qe Z (qe Z (zk ?_))
       cases H
       exact ⟨U,.inl Z,.inl Z,U⟩
      ·refine fE h26 H fun H=>zl (zg (zb hN Z (qd Z (qd Z (qt Z Z (fun hc=>zf (.dat _) Z) (qt Z Z (fun hc=>zf (.dat _) Z) (qt Z Z (fun hc=>qv (cnd (c:=v14) hc) (cnd (c:=v14) hc)) (za (vc Z (fun hb=>(cnd (c:=v14) hb)) Z) (zh _ Z (fun h27 => ?_) (fun h27 => ?_))))))))))
       ·refine tE h27 H fun H=>zb hN Z (qd Z (za (kv z0m tyU2 Z) (za (y2p Z) (za (yd (u':=verr 1) (jv (show Tryz.prog.underlying 220=some (.int .i64) from by kernel_rfl) Z) Z) ?_))))
        refine qe Z (qe Z (zk ?_))
        cases H
        exact ⟨U,.inl Z,.inl Z,U⟩
       ·refine fE h27 H fun H=>zl (zb hN Z (qd Z (za (kv z0m tyU2 Z) (qe Z (yf (ι:=Int) (fun i=>[(11,.dat (vint i))]) (fun i=>[]) (fun i=>z45 i=some r) (fun i=>Z) ?_ ?_)))))
        ·skip
         refine zb hN Z (qd Z (zh _ Z (fun h28 => ?_) (fun h28 => ?_)))
         ·exact tE h28 H fun H=>zu hN Z (qd Z (za (y2p Z) (qe Z ⟨(wr (-(IntKind.wrap .i64 r15.1))),H,⟨Z,U⟩,U⟩)))
         ·exact fE h28 H fun H=>zl ⟨IntKind.wrap .i64 r15.1,H,⟨Z,U⟩,U⟩
        ·rintro v29 H
         replace H:z45 v29=some r:=H
         unfold z45 at H
         refine zb hN Z (qd Z (qe Z (qe Z (zk ?_))))
         cases H
         exact ⟨U,.inl Z,.inl Z,U⟩
theorem x2n (v1:Bs) (r:(Int×Int)) (H:Yy v1=some r):Fn Tryz.prog 177 [vstr v1] (zw [vint r.1,verr r.2]):=by
 refine ⟨by kernel_rfl,yh (us:=[vint r.1,verr r.2]) Tryz.func177 Z Z Z Z fun X hN => ?_⟩
 unfold Yy at H
 refine zb hN Z (qe Z (qe Z (zb hN Z (qd Z (za (qh tyU9 Z) (qe Z (zg (zb hN Z (qd Z (qt (s := .dat (vint (v1.length:Int))) Z Z (fun hc=>zf (.dat _) Z) (qt (s := .dat (zj (decide (0 < (v1.length:Int))))) Z Z (fun hc=>ye Z (cnd (c:=false) (s := .dat (vint (v1.length:Int))) hc)) (qt (s := .dat (zj (decide (0 < (v1.length:Int))))) Z Z (fun hc=>zf (.dat _) (cnd (c:=false) (s := .dat (zj (decide (0 < (v1.length:Int))))) hc)) (ve (s := .dat (vint (v1.length:Int))) (c:=false) (b:=decide (0 < (v1.length:Int))) Z Z (fun hc=>zf (.dat _) Z) (ve (s := .dat (zj (decide ((v1.length:Int) < 10)))) (c:=false) (b:=decide (0 < (v1.length:Int))) Z Z (fun hc=>ye (cnd (c:=(false && (decide (0 < (v1.length:Int))))) (s := .dat (vint (v1.length:Int))) hc) Z) (qt (s := .dat (zj ((decide (0 < (v1.length:Int))) && (decide ((v1.length:Int) < 10))))) Z Z (fun hc=>vc (cnd (c:=false) (s := .dat (zj (decide (0 < (v1.length:Int))))) hc) (fun hb=>(cnd (c:=(false && (decide (0 < (v1.length:Int))))) (s := .dat (zj (decide ((v1.length:Int) < 10)))) (andI hc hb))) Z) (za (vc Z (fun hb=>(cnd (c:=false) (s := .dat (zj ((decide (0 < (v1.length:Int))) && (decide ((v1.length:Int) < 10))))) hb)) Z) (qd Z (wj (s := .dat (zj true)) Z Z (fun hc=>zf (.dat _) Z) (ve (s := .dat (vint (v1.length:Int))) (c:=(!(false && ((decide (0 < (v1.length:Int))) && (decide ((v1.length:Int) < 10)))))) (b:=true) Z Z (fun hc=>zf (.dat _) Z) (ve (s := .dat (zj (decide (0 < (v1.length:Int))))) (c:=(!(false && ((decide (0 < (v1.length:Int))) && (decide ((v1.length:Int) < 10)))))) (b:=true) Z Z (fun hc=>ye Z (cnd (c:=((!(false && ((decide (0 < (v1.length:Int))) && (decide ((v1.length:Int) < 10))))) && true)) (s := .dat (vint (v1.length:Int))) hc)) (ve (s := .dat (zj (decide (0 < (v1.length:Int))))) (c:=(!(false && ((decide (0 < (v1.length:Int))) && (decide ((v1.length:Int) < 10)))))) (b:=true) Z Z (fun hc=>zf (.dat _) (cnd (c:=((!(false && ((decide (0 < (v1.length:Int))) && (decide ((v1.length:Int) < 10))))) && true)) (s := .dat (zj (decide (0 < (v1.length:Int))))) hc)) (ve (s := .dat (vint (v1.length:Int))) (c:=((!(false && ((decide (0 < (v1.length:Int))) && (decide ((v1.length:Int) < 10))))) && true)) (b:=decide (0 < (v1.length:Int))) Z Z (fun hc=>zf (.dat _) Z) (ve (s := .dat (zj (decide ((v1.length:Int) < 19)))) (c:=((!(false && ((decide (0 < (v1.length:Int))) && (decide ((v1.length:Int) < 10))))) && true)) (b:=decide (0 < (v1.length:Int))) Z Z (fun hc=>ye (cnd (c:=(((!(false && ((decide (0 < (v1.length:Int))) && (decide ((v1.length:Int) < 10))))) && true) && (decide (0 < (v1.length:Int))))) (s := .dat (vint (v1.length:Int))) hc) Z) ?_)))))))))))))))))))))))
 refine ve (s := .dat (zj ((decide (0 < (v1.length:Int))) && (decide ((v1.length:Int) < 19))))) (c:=(!(false && ((decide (0 < (v1.length:Int))) && (decide ((v1.length:Int) < 10)))))) (b:=true) Z Z (fun hc=>vc (cnd (c:=((!(false && ((decide (0 < (v1.length:Int))) && (decide ((v1.length:Int) < 10))))) && true)) (s := .dat (zj (decide (0 < (v1.length:Int))))) hc) (fun hb=>(cnd (c:=(((!(false && ((decide (0 < (v1.length:Int))) && (decide ((v1.length:Int) < 10))))) && true) && (decide (0 < (v1.length:Int))))) (s := .dat (zj (decide ((v1.length:Int) < 19)))) (andI hc hb))) Z) (wj (s := .dat (zj (true && ((decide (0 < (v1.length:Int))) && (decide ((v1.length:Int) < 19)))))) Z Z (fun hc=>vc (cnd (c:=(!(false && ((decide (0 < (v1.length:Int))) && (decide ((v1.length:Int) < 10)))))) (s := .dat (zj true)) hc) (fun hb=>(cnd (c:=((!(false && ((decide (0 < (v1.length:Int))) && (decide ((v1.length:Int) < 10))))) && true)) (s := .dat (zj ((decide (0 < (v1.length:Int))) && (decide ((v1.length:Int) < 19))))) (andI hc hb))) Z) (za (ki Z Z (fun hb=>(cnd (c:=(!(false && ((decide (0 < (v1.length:Int))) && (decide ((v1.length:Int) < 10)))))) (s := .dat (zj (true && ((decide (0 < (v1.length:Int))) && (decide ((v1.length:Int) < 19)))))) (notI hb)))) (zh _ Z (fun h2 => ?_) (fun h2 => ?_))))
 ·refine tE h2 H fun H=>zb hN Z (qd Z (qe Z (yf (ι:=Bs) (fun i=>[(0,.dat (vstr i)),(5,.dat (vstr v1))]) (fun i=>[]) (fun i=>Qo v1 i=some r) (fun i=>Z) ?_ ?_)))
  ·skip
   refine yf (ι:=Bool) (fun i=>[(0,.dat (vstr v1)),(5,.dat (vstr v1)),(39,.dat (zj i))]) (fun i=>[]) (fun i=>Qn v1 i=some r) (fun i=>Z) ?_ ?_
   ·skip
    refine zu hN Z (qd Z (bE H fun x3 h4 H=>za (qx tyU9 Z Z h4) (za (yt Z Z) (qd Z (yi (j:=3) Z Z (fun h5 => ?_) (fun h5 => ?_) Z)))))
    ·exact u3 h5 H fun h6 H=>ze Z Z h5 (zf (.dat _) Z) (ze Z Z h5 (qx tyU9 Z Z h4) (ze Z Z h5 (yt Z Z) (za (zv Z (bFF h6) Z) ⟨decide ((x3.toNat:Int)=43),H,⟨Z,Z,Z,U⟩,U⟩)))
    ·exact u4 h5 H fun h7 H=>zc Z Z h5 (zc Z Z h5 (zc Z Z h5 (za (yc Z (bTT h7) Z) ⟨true,H,⟨Z,Z,Z,U⟩,U⟩)))
   ·rintro v8 H
    replace H:Qn v1 v8=some r:=H
    unfold Qn at H
    refine zh _ Z (fun h9 => ?_) (fun h9 => ?_)
    ·refine tE h9 H fun H=>zb hN Z (qd Z (bE H fun l10 h11 H=>za (jf tyU9 Z Z Z h11) (qe Z (zb hN Z (qd Z (za (qh tyU9 Z) (za (ye Z Z) (zh _ Z (fun h12 => ?_) (fun h12 => ?_)))))))))
     ·refine tE h12 H fun H=>zb hN Z (za (yd (u':=verr 2) (jv (show Tryz.prog.underlying 220=some (.int .i64) from by kernel_rfl) Z) Z) ?_)
      refine qe Z (qe Z (zk ?_))
      cases H
      exact ⟨U,.inl Z,.inl Z,U⟩
     ·exact fE h12 H fun H=>zl ⟨l10,H,⟨Z,Z,U⟩,U⟩
    ·exact fE h9 H fun H=>zl ⟨v1,H,⟨Z,Z,U⟩,U⟩
  ·rintro v13 H
   replace H:Qo v1 v13=some r:=H
   unfold Qo at H
   refine zb hN Z (qe Z (zg (zb hN Z (qd Z (za (y2z (C:=z0j) tyU9 z5t tyU5 (fun _=>Z) Z) (za (yz z5t Z) (qd Z (yg (gE H fun h17 H=>qw (fun (k15:Nat) (s:Int)=>[(5,.dat (vstr v1)),(6,.dat (vint s)),(47,.dat (vlst (List.map z0j (vf v13)))),(48,.dat (vint ((vf v13).length:Int))),(49,.dat (vint (k15:Int)))]) (fun (k15:Nat) (s:Int)=>[]) 0 H ⟨Z,Z,Z,Z,Z,U⟩ U (fun _ _=>Z) ?_ ?_)))))))))
   ·rintro v14 H
    replace H:Qp v1 v14=some r:=H
    unfold Qp at H
    refine zb hN Z (za (ye Z Z) (zg (zh _ Z (fun h=>(lt_t h).elim) (fun h => ?_))))
    refine qc (yf (ι:=Int) (fun i=>[(6,.dat (vint i))]) (fun i=>[]) (fun i=>Qm i=some r) (fun i=>Z) ?_ ?_)
    ·skip
     refine zb hN Z (qd Z (bE H fun x19 h20 H=>za (qx tyU9 Z Z h20) (za (yt Z Z) (zh _ Z (fun h21 => ?_) (fun h21 => ?_)))))
     ·exact tE h21 H fun H=>zu hN Z (qd Z (gE H fun h22 H=>za (y8r Z h22) (qe Z ⟨(-v14),H,⟨Z,U⟩,U⟩)))
     ·exact fE h21 H fun H=>zl ⟨v14,H,⟨Z,U⟩,U⟩
    ·rintro v23 H
     replace H:Qm v23=some r:=H
     unfold Qm at H
     refine zb hN Z (qd Z (qe Z (qe Z (zk ?_))))
     cases H
     exact ⟨U,.inl Z,.inl Z,U⟩
   ·rintro k15 x18 v14 q16 h24 h25 H hq16
    replace H:z11 k15 x18 v14=some q16:=H
    unfold z11 at H
    refine zb hN Z (za (ye Z Z) (zg (zh _ Z (fun h => ?_) (fun h=>(lt_f h24 h).elim))))
    refine zl (zg (yg (zb hN Z (za (wd y18 (fun _=>Z) Z Z h25) (za (qo tyS5 Z (qa h25) Z) (qe Z (zb hN Z (qd Z (za (qn _ Z Z (.inr (.inl ⟨Z,Z⟩))) (qe Z (zg (zb hN Z (qd Z (za (qv Z Z) (zh _ Z (fun h26 => ?_) (fun h26 => ?_))))))))))))))))
    ·refine tE h26 H fun H=>zb hN Z (za (yd (u':=verr 2) (jv (show Tryz.prog.underlying 220=some (.int .i64) from by kernel_rfl) Z) Z) ?_)
     refine qe Z (qe Z (zk ?_))
     replace H:=retl H hq16
     cases H
     exact ⟨U,.inl Z,.inl Z,U⟩
    ·exact fE h26 H fun H=>zl (zu hN Z (qd Z (za (qn _ Z Z (.inr (.inr ⟨Z,Z⟩))) (qd Z (za (kv tyU5 tyU3 Z) (za (qn _ Z Z (.inl ⟨Z,Z⟩)) (qe Z (zu hN Z (za (qs Z Z (by omega)) (qd Z ⟨_,qj H,⟨Z,Z,Z,Z,Z,U⟩,U⟩))))))))))
 ·refine fE h2 H fun H=>zl (zb hN Z (qd Z (bE H fun r27 h28 H=>za (zm (x2m v1 10 0 r27 h28) ⟨.inl Z,.inl Z,.inl Z,U⟩) (qd Z (za (ym Z Z) (za (ym Z Z) (qe Z (qe Z (zb hN Z (qd Z (qd Z (qe Z (qe Z (zk ?_))))))))))))))
  cases H
  exact ⟨U,.inl Z,.inl Z,U⟩
theorem x1u (fn s:Bs) (base bits e r:Int) (H:y4d fn s base bits e=some r):Fn Tryz.prog 178 [vstr fn,vstr s,vint base,vint bits,verr e] (zw [verr r]):=by cases H
end Go.Proofs.YtkldmhhbbceaoabGreatDoor
