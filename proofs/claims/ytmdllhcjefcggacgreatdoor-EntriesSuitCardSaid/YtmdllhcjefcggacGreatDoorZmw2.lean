/- Walks along the models. Printed by a program. -/
import Derived.Test.YtmdllhcjefcggacGreatDoorZmw1
namespace Go.Proofs.YtmdllhcjefcggacGreatDoor
open Go.RowKit
set_option linter.unusedVariables false
set_option maxRecDepth 100000
set_option maxHeartbeats 2000000
theorem x2q (s1:zr) (r:(yc×zr)) (H:z4q s1=some r):Imp Tryz.prog 4 25 (qt s1) [] (zu [vagg (qy r.1)]) (qt r.2):=by
 refine jz (us:=[vagg (qy r.1)]) (cs':=(qt r.2)) (by kernel_rfl) Tryz.func4 Z Z Z Z fun X bl hN => ?_
 unfold z4q at H
 refine zb hN Z (zj (qu 1 xq Z) Z (zb hN Z (za (zd (.ptr _ _) Z) (bE H fun r2 h3 H=>zj (yk (x2r s1 0 r2 h3) Z ⟨.inl Z,U⟩ Z) Z (za (zd (.ptr _ _) Z) (bE H fun r4 h5 H=>zj (yk (w2a r2.2 r4 h5) Z U Z) Z (za (zd (.ptr _ _) Z) (za (ya (u':=vlst (List.map qw [0,1000,20000])) (yo [[_],[_],[_]] z60 ⟨Z,.inl ⟨_,Z,Z,Z⟩,Z,Z,.inl ⟨_,Z,Z,Z⟩,Z,Z,.inl ⟨_,Z,Z,Z⟩,Z,U⟩ Z Z) Z) (bE H fun r6 h7 H=>zj (yk (z85 r4.2 [0,1000,20000] r6 h7) Z ⟨.inl Z,U⟩ Z) Z (za (xv (u':=vagg (qy (yc.mk r2.1 r4.1 r6.1 [] 0))) (Zh (by exact ⟨ym,ym,ym,ym,ym,ym,ym,ym,ym,ym,ym,ym,ua,ym,U⟩)) (vh [(0,qs r2.1),(8,Zg r4.1),(11,[vint r6.1])] xq y8o Z ⟨Z,.inr Z,Z,Z,.inr Z,Z,Z,.inl ⟨_,Z,Z,Z⟩,Z,U⟩)) ?_))))))))))
 refine zj (qu 2 xq Z) Z (zj (qm wo Z Z Z Z) Z (zb hN Z (za (zq xd Z) (zm (zv tyS3 Z Z) Z (za (zq y0k Z) (zj (vu tyS3 Z Z Z Z) Z (zb hN Z (za (ya (u':=vlst (List.map zp [[114,101,100]])) (yo [[_]] qf ⟨Z,.inl ⟨_,Z,Z,Z⟩,Z,U⟩ Z Z) Z) (za (ya (u':=vlst (List.map zp [[98,108,117,101],[114,101,100]])) (yo [[_],[_]] qf ⟨Z,.inl ⟨_,Z,Z,Z⟩,Z,Z,.inl ⟨_,Z,Z,Z⟩,Z,U⟩ Z Z) Z) (za (xv (u':=vlst (List.map x42 ([[],[[114,101,100]],[[98,108,117,101],[114,101,100]]]:(List (List Bs))))) (x5d (by exact ⟨⟨ua,U⟩,⟨ym,U⟩,⟨ym,U⟩,U⟩)) (yo [[vnil],[_],[_]] y8t ⟨Z,.inl ⟨_,Z,Z,Z⟩,Z,Z,.inl ⟨_,Z,Z,Z⟩,Z,Z,.inl ⟨_,Z,Z,Z⟩,Z,U⟩ Z Z)) ?_))))))))))
 refine za (zd (.ptr _ _) Z) (bE H fun r8 h9 H=>zj (yk (Zz r6.2 3 r8 h9) Z ⟨.inl Z,U⟩ Z) Z (bE H fun x10 h11 H=>za (uu y8z (fun _=>Z) Z Z h11) (za (qz jj Z (qk (vq h11).2) Z) (za (zq z0j Z) (zj (vu jj Z Z Z Z) Z (yb (ι:=(List Int)×Int×Bs×Int×(List Bs)×Int) (fun i=>[(2,.ptr 1 0),(3,.ptr 2 0)]) (fun i=>[(0,.box (some bl) 25 [.dat (vlst (List.map qw i.1)),.dat (vint i.2.1)]),(1,.box none 33 [.dat (vint 0),.dat (vstr []),.dat (vstr []),.dat (vstr []),.dat (vstr []),.dat (vstr []),.dat (vnil),.dat (vstr []),.dat (vint 0),.dat (vnil),.dat (vstr []),.dat (vint 0),.dat (vnil),.dat (vint 0)]),(2,.box none 33 [.dat (vint r2.1.At),.dat (vstr r2.1.Method),.dat (vstr i.2.2.1),.dat (vstr r2.1.Path),.dat (vstr r2.1.Query),.dat (vstr r2.1.From),.dat (vlst (List.map yd r2.1.Headers)),.dat (vstr r2.1.Body),.dat (vint r4.1.Status),.dat (vlst (List.map yd r4.1.Headers)),.dat (vstr r4.1.Body),.dat (vint i.2.2.2.1),.dat (vlst (List.map zp i.2.2.2.2.1)),.dat (vint i.2.2.2.2.2)])]) (fun i=>Qg r2 r4 i.1 i.2.1 i.2.2.1 i.2.2.2.1 i.2.2.2.2.1 i.2.2.2.2.2=some r) (fun i=>Z) ?_ ?_))))))
 ·skip
  refine zb hN Z (za (zd (.ptr _ _) Z) (bE H fun r12 h13 H=>zj (yk (jn r8.2 20 r12 h13) Z ⟨.inl Z,U⟩ Z) Z (zf _ Z (fun h14 => ?_) (fun h14 => ?_))))
  ·refine tE h14 H fun H=>zb hN Z (za (zd (.ptr _ _) Z) (bE H fun r15 h16 H=>zj (yk (Zz r12.2 4 r15 h16) Z ⟨.inl Z,U⟩ Z) Z (zx (zb hN Z (za (ql Z Z) (qe Z (zf _ Z (fun h17 => ?_) (fun h17 => ?_))))))))
   ·exact tE h17 H fun H=>zn hN Z (za (zd (.ptr _ _) Z) (bE H fun r18 h19 H=>zj (yk (y6k r15.2 0 100 r18 h19) Z ⟨.inl Z,.inl Z,U⟩ Z) Z (za (zq xd Z) (zj (vu tyS3 Z Z Z Z) Z ⟨(r18.2.L,r18.2.at_,r2.1.Host,r18.1,x10,r6.1),H,⟨Z,Z,U⟩,⟨Z,Z,Z,U⟩⟩))))
   ·refine fE h17 H fun H=>zb hN Z (za (ql Z Z) (qe Z (zf _ Z (fun h20 => ?_) (fun h20 => ?_))))
    ·exact tE h20 H fun H=>zn hN Z (za (zd (.ptr _ _) Z) (bE H fun r21 h22 H=>zj (yk (y6k r15.2 0 100 r21 h22) Z ⟨.inl Z,.inl Z,U⟩ Z) Z (za (zq y0k Z) (zj (vu tyS3 Z Z Z Z) Z ⟨(r21.2.L,r21.2.at_,r2.1.Host,r6.1,x10,r21.1),H,⟨Z,Z,U⟩,⟨Z,Z,Z,U⟩⟩))))
    ·refine fE h20 H fun H=>zb hN Z (za (ql Z Z) (qe Z (zf _ Z (fun h23 => ?_) (fun h23 => ?_))))
     ·exact tE h23 H fun H=>zn hN Z (za (ya (u':=vlst (List.map zp [[114,101,100],[98,108,117,101]])) (yo [[_],[_]] qf ⟨Z,.inl ⟨_,Z,Z,Z⟩,Z,Z,.inl ⟨_,Z,Z,Z⟩,Z,U⟩ Z Z) Z) (za (ya (u':=vlst (List.map zp [[]])) (yo [[_]] qf ⟨Z,.inl ⟨_,Z,Z,Z⟩,Z,U⟩ Z Z) Z) (za (ya (u':=vlst (List.map zp [[65]])) (yo [[_]] qf ⟨Z,.inl ⟨_,Z,Z,Z⟩,Z,U⟩ Z Z) Z) (za (ya (u':=vlst (List.map x42 [[[114,101,100],[98,108,117,101]],[[]],[[65]]])) (yo [[_],[_],[_]] y8t ⟨Z,.inl ⟨_,Z,Z,Z⟩,Z,Z,.inl ⟨_,Z,Z,Z⟩,Z,Z,.inl ⟨_,Z,Z,Z⟩,Z,U⟩ Z Z) Z) (za (zd (.ptr _ _) Z) (bE H fun r24 h25 H=>zj (yk (Zz r15.2 3 r24 h25) Z ⟨.inl Z,U⟩ Z) Z (bE H fun x26 h27 H=>za (uu y8z (fun _=>Z) Z Z h27) (za (qz jj Z (qk (vq h27).2) Z) (za (zq z0j Z) (zj (vu jj Z Z Z Z) Z ⟨(r24.2.L,r24.2.at_,r2.1.Host,r6.1,x26,r6.1),H,⟨Z,Z,U⟩,⟨Z,Z,Z,U⟩⟩))))))))))
     ·exact fE h23 H fun H=>zn hN Z (za (zd (.ptr _ _) Z) (bE H fun r28 h29 H=>zj (yk (w17 r15.2 r28 h29) Z U Z) Z (za (zq un Z) (za (zq ur Z) (zj (vu tyS9 Z Z Z Z) Z ⟨(r28.2.L,r28.2.at_,r28.1,r6.1,x10,r6.1),H,⟨Z,Z,U⟩,⟨Z,Z,Z,U⟩⟩)))))
  ·exact fE h14 H fun H=>zl ⟨(r12.2.L,r12.2.at_,r2.1.Host,r6.1,x10,r6.1),H,⟨Z,Z,U⟩,⟨Z,Z,Z,U⟩⟩
 ·rintro ⟨c30,c31,c32,c33,c34,c35⟩ H
  replace H:Qg r2 r4 c30 c31 c32 c33 c34 c35=some r:=H
  unfold Qg at H
  refine zb hN Z (zm (yq wo Z Z Z) Z (zj (qm wo Z Z Z Z) Z (zi ?_)))
  cases H
  exact ⟨U,⟨.inl ⟨_,_,_,qy (yc.mk (zw.mk r2.1.At r2.1.Method c32 r2.1.Path r2.1.Query r2.1.From r2.1.Headers r2.1.Body) r4.1 c33 c34 c35),Z,Z,Z,Z,wo⟩,U⟩,Z⟩
theorem y2k (n1:Int) (r:(Bool)) (H:Wg n1=some r):Fn Tryz.prog 44 [vint n1] (zu [zh r]):=by
 refine ⟨by kernel_rfl,yg (us:=[zh r]) Tryz.func44 Z Z Z Z fun X hN => ?_⟩
 unfold Wg at H
 refine zb hN Z (qe Z (zb hN Z (qd Z (za (wz Z Z) (qd Z (wd Z Z (fun hc=>zd (.dat _) Z) (wd Z Z (fun hc=>zy (cnd (c:=(decide (0≤n1))) hc) Z) (za (vd Z (fun hb=>(cnd (c:=(decide (0≤n1))) hb)) Z) (qe Z (zi ?_))))))))))
 cases H
 exact ⟨U,.inl Z,U⟩
theorem y6e (c1:Int) (r:(Bool)) (H:z77 c1=some r):Fn Tryz.prog 194 [vval (.int .u8 c1)] (zu [zh r]):=by
 refine ⟨by kernel_rfl,yg (us:=[zh r]) Tryz.func194 Z Z Z Z fun X hN => ?_⟩
 unfold z77 at H
 refine zb hN Z (qe Z (zb hN Z (qd Z (za (wz Z Z) (qd Z (wd Z Z (fun hc=>zd (.dat _) Z) (wd Z Z (fun hc=>wy (cnd (c:=(decide (97≤c1))) hc) Z) (za (vd Z (fun hb=>(cnd (c:=(decide (97≤c1))) hb)) Z) (qd Z (yl Z Z (fun hc=>zd (.dat _) Z) (yl Z Z (fun hc=>wz (cnd (c:=(!((decide (97≤c1)) && (decide (c1≤122))))) hc) Z) (yl Z Z (fun hc=>zd (.dat _) (cnd (c:=(!((decide (97≤c1)) && (decide (c1≤122))))) hc)) (wl Z Z (fun hc=>zd (.dat _) Z) (wl Z Z (fun hc=>wy (cnd (c:=((!((decide (97≤c1)) && (decide (c1≤122)))) && (decide (65≤c1)))) hc) Z) (yl Z Z (fun hc=>vd (cnd (c:=(!((decide (97≤c1)) && (decide (c1≤122))))) hc) (fun hb=>(cnd (c:=((!((decide (97≤c1)) && (decide (c1≤122)))) && (decide (65≤c1)))) (andI hc hb))) Z) (za (ww Z Z (fun hb=>(cnd (c:=(!((decide (97≤c1)) && (decide (c1≤122))))) (notI hb)))) (qe Z (zi ?_))))))))))))))))))
 cases H
 exact ⟨U,.inl Z,U⟩
theorem y2g (c1:Int) (r:(Bool)) (H:z39 c1=some r):Fn Tryz.prog 195 [vval (.int .u8 c1)] (zu [zh r]):=by
 refine ⟨by kernel_rfl,yg (us:=[zh r]) Tryz.func195 Z Z Z Z fun X hN => ?_⟩
 unfold z39 at H
 refine zb hN Z (qe Z (zb hN Z (qd Z (za (wz Z Z) (qd Z (wd Z Z (fun hc=>zd (.dat _) Z) (wd Z Z (fun hc=>wy (cnd (c:=(decide (48≤c1))) hc) Z) (za (vd Z (fun hb=>(cnd (c:=(decide (48≤c1))) hb)) Z) (qe Z (zi ?_))))))))))
 cases H
 exact ⟨U,.inl Z,U⟩
theorem y2e (l:Bs) (c r:Int) (H:z06 l c=some r):Fn Tryz.prog 127 [vstr l,vval (.int .u8 c)] (zu [vint r]):=by
 cases H
 refine y3g (by kernel_rfl) fun M w vs h => ?_
 have h1:=kk (us:=[.string ⟨l.toArray⟩,.int .u8 c]) h
 subst h1
 refine (Tryz.strings_IndexByte ⟨l.toArray⟩ c w).mono ?_
 rintro e w' ⟨rfl,rfl⟩
 exact ⟨_,Z,Z,Kp.refl _ _⟩
theorem w1a (c1:Int) (r:(Bool)) (H:z73 c1=some r):Fn Tryz.prog 133 [vval (.int .u8 c1)] (zu [zh r]):=by
 refine ⟨by kernel_rfl,yg (us:=[zh r]) Tryz.func133 Z Z Z Z fun X hN => ?_⟩
 unfold z73 at H
 refine zb hN Z (qe Z (yb (ι:=Bool) (fun i=>[(2,.dat (zh i))]) (fun i=>[]) (fun i=>z3k i=some r) (fun i=>Z) ?_ ?_))
 ·skip
  refine zn hN Z (qd Z (bE H fun r2 h3 H=>za (zk (y6e c1 r2 h3) ⟨.inl Z,U⟩) (qd Z (yi (j:=2) Z Z (fun h4 => ?_) (fun h4 => ?_) Z))))
  ·refine u3 h4 H fun h5 H=>zg Z Z h4 (zd (.dat _) Z) (bE H fun r6 h7 H=>zg Z Z h4 (zk (y2g c1 r6 h7) ⟨.inl Z,U⟩) (za (ye Z (bFF h5) Z) (qd Z (yi (j:=6) Z Z (fun h8 => ?_) (fun h8 => ?_) Z))))
   ·exact u3 h8 H fun h9 H=>zg Z Z h8 (zd (.dat _) Z) (bE H fun r10 h11 H=>zg Z Z h8 (zk (y2e [33,35,36,37,38,39,42,43,45,46,94,95,96,124,126] c1 r10 h11) ⟨.inl Z,.inl Z,U⟩) (zg Z Z h8 (wz Z Z) (za (ye Z (bFF h9) Z) (qe Z ⟨decide (0≤r10),H,⟨Z,U⟩,U⟩))))
   ·exact u4 h8 H fun h12 H=>zc Z Z h8 (zc Z Z h8 (zc Z Z h8 (za (yh Z (bTT h12) Z) (qe Z ⟨true,H,⟨Z,U⟩,U⟩))))
  ·exact u4 h4 H fun h13 H=>zc Z Z h4 (zc Z Z h4 (za (yh Z (bTT h13) Z) (qd Z (zc Z Z Z (zc Z Z Z (zc Z Z Z (za (yh Z Z Z) (qe Z ⟨true,H,⟨Z,U⟩,U⟩))))))))
 ·rintro v14 H
  replace H:z3k v14=some r:=H
  unfold z3k at H
  refine zi ?_
  cases H
  exact ⟨U,.inl Z,U⟩
theorem y2i (s1:Bs) (r:(Bool)) (H:We s1=some r):Fn Tryz.prog 77 [vstr s1] (zu [zh r]):=by
 refine ⟨by kernel_rfl,yg (us:=[zh r]) Tryz.func77 Z Z Z Z fun X hN => ?_⟩
 unfold We at H
 refine zb hN Z (qe Z (ze (zb hN Z (qd Z (za (yz tyU9 Z) (qd Z (zx (gE H fun h4 H=>qv (fun (k2:Nat) (s:Unit)=>[(0,.dat (vstr s1)),(5,.dat (vint (s1.length:Int))),(6,.dat (vint (k2:Int)))]) (fun (k2:Nat) (s:Unit)=>[]) () H ⟨Z,Z,Z,U⟩ U (fun _ _=>Z) ?_ ?_))))))))
 ·rintro ⟨⟩ H
  replace H:y5u s1=some r:=H
  unfold y5u at H
  refine zb hN Z (za (zy Z Z) (ze (zf _ Z (fun h=>(lt_t h).elim) (fun h => ?_))))
  refine yr (zb hN Z (qd Z (za (ja Z Z) (qd Z (wd Z Z (fun hc=>zd (.dat _) Z) (wd Z Z (fun hc=>yz tyU9 (cnd (c:=(decide (s1≠[]))) hc)) (wd Z Z (fun hc=>wy (cnd (c:=(decide (s1≠[]))) hc) Z) (za (vd Z (fun hb=>(cnd (c:=(decide (s1≠[]))) hb)) Z) (qe Z (zi ?_))))))))))
  cases H
  exact ⟨U,.inl Z,U⟩
 ·rintro k2 x5 ⟨⟩ q3 h6 h7 H hq3
  replace H:y1t k2 x5=some q3:=H
  unfold y1t at H
  refine zb hN Z (za (zy Z Z) (ze (zf _ Z (fun h => ?_) (fun h=>(lt_f h6 h).elim))))
  refine zl (ze (zx (zb hN Z (qd Z (qe Z (zb hN Z (qd Z (qd Z (za (wb tyU9 Z Z h7) (bE H fun r8 h9 H=>za (zk (w1a (x5.toNat:Int) r8 h9) ⟨.inl Z,U⟩) (za (yy Z) (zf _ Z (fun h10 => ?_) (fun h10 => ?_)))))))))))))
  ·refine tE h10 H fun H=>zb hN Z (qe Z (zi ?_))
   replace H:=retl H hq3
   cases H
   exact ⟨U,.inl Z,U⟩
  ·exact fE h10 H fun H=>zl (zn hN Z (za (qo Z Z (by omega)) (qd Z ⟨_,yx H,⟨Z,Z,Z,U⟩,U⟩)))
theorem z42 (s p:Bs) (r:Bs×Bs×Bool) (H:uh s p=some r):Fn Tryz.prog 88 [vstr s,vstr p] (zu [vstr r.1,vstr r.2.1,zh r.2.2]):=by
 unfold uh at H
 obtain ⟨h1,h2⟩:=gif H
 cases h2
 refine Ze (by kernel_rfl) fun M w vs hM h => ?_
 have hv:=kk (us:=[.string ⟨s.toArray⟩,.string ⟨p.toArray⟩]) h
 subst hv
 obtain ⟨m,hm⟩:=y1w hM
 refine (Tryz.strings_Cut ⟨s.toArray⟩ ⟨p.toArray⟩ m w (by simp [ByteArray.size]; omega) hm).mono ?_
 rintro e w' ⟨rfl,n,rfl⟩
 refine ⟨_,Z,⟨[_,_,_],Z,Z,fun j u hj => ?_⟩,⟨Z,Z,Z,Nat.le_refl _,fun _ _ _=>Z⟩⟩
 rcases j with _ | _ | _ | j
 ·cases hj; exact ⟨_,Z,Z⟩
 ·cases hj; exact ⟨_,Z,Z⟩
 ·cases hj; exact ⟨_,Z,Z⟩
 ·simp at hj

theorem w0l (s sep:Bs) (r:List Bs) (H:jk s sep=some r):FnG Tryz.prog 89 [.dat (vstr s),.dat (vstr sep)] [] (.row 900 r.length) [(900,.row 9 1 (List.map zp r))]:=by
 obtain ⟨h1,h2,rfl⟩:=x7w H
 have hlen:=Lib.splitB_all ⟨sep.toArray⟩ (by simpa [ByteArray.size] using h2) 0 _ ⟨s.toArray⟩ Z
 have hle:=Lib.countB_le ⟨sep.toArray⟩ (by simpa [ByteArray.size] using h2) _ ⟨s.toArray⟩ (Nat.le_refl _)
 refine w3p (args:=[vstr s,vstr sep]) (Zl s sep) (by kernel_rfl) (fun M w vs hM hvs => ?_) ?_
 ·have hv:=kk (us:=[.string ⟨s.toArray⟩,.string ⟨sep.toArray⟩]) hvs
  subst hv
  obtain ⟨m,hm⟩:=y1w hM
  refine (Tryz.strings_Split ⟨s.toArray⟩ ⟨sep.toArray⟩ m w (by simp [ByteArray.size]; omega) hm (by simpa [ByteArray.size] using h2)).mono ?_
  rintro e w' ⟨rfl,rfl⟩
  have e1:(Zl s sep).length=Lib.countB ⟨s.toArray⟩ ⟨sep.toArray⟩+1:=by unfold Zl; rw [List.length_map,hlen]
  have e2:((Zl s sep).map fun s=>Value.string ⟨s.toArray⟩)=(Lib.splitB ⟨sep.toArray⟩ 0 (Lib.countB ⟨s.toArray⟩ ⟨sep.toArray⟩) ⟨s.toArray⟩).map Value.string:=by
   unfold Zl
   rw [List.map_map]
   exact List.map_congr_left fun b _=>by simp
  rw [e1,e2]
  exact ⟨Z,Z⟩
 ·unfold Zl maxLen
  rw [List.length_map,hlen]
  have hsz:(ByteArray.mk s.toArray).size=s.length:=by simp [ByteArray.size]
  rw [hsz] at hle
  omega
theorem Yx (s sep:Bs) (r:List Bs) (H:jk s sep=some r):Fn Tryz.prog 89 [vstr s,vstr sep] (zu [vlst (List.map zp r)]):=by
 have h:=w0l s sep r H
 rw [← List.length_map (f:=zp)] at h
 exact w3o h
theorem x1f (s p:Bs) (r:Bs) (H:z3w s p=some r):Fn Tryz.prog 95 [vstr s,vstr p] (zu [vstr r]):=by
 unfold z3w at H
 cases H
 refine Ze (by kernel_rfl) fun M w vs hM h => ?_
 have hv:=kk (us:=[.string ⟨s.toArray⟩,.string ⟨p.toArray⟩]) h
 subst hv
 refine (Tryz.strings_TrimPrefix ⟨s.toArray⟩ ⟨p.toArray⟩ w).mono ?_
 rintro e w' ⟨rfl,rfl⟩
 exact ⟨_,Z,Z,Kp.refl _ _⟩

theorem ul (c1:Int) (r:(Int)) (H:ki c1=some r):Fn Tryz.prog 266 [vval (.int .u8 c1)] (zu [vval (.int .u8 r)]):=by
 refine ⟨by kernel_rfl,yg (us:=[vval (.int .u8 r)]) Tryz.func266 Z Z Z Z fun X hN => ?_⟩
 unfold ki at H
 refine zb hN Z (qe Z (zb hN Z (qd Z (za (ya (x66 Z Z) Z) (qe Z (zi ?_))))))
 cases H
 exact ⟨U,.inl Z,U⟩
theorem w1q (v1:Bs) (r:(Bool)) (H:y52 v1=some r):Fn Tryz.prog 267 [vstr v1] (zu [zh r]):=by
 refine ⟨by kernel_rfl,yg (us:=[zh r]) Tryz.func267 Z Z Z Z fun X hN => ?_⟩
 unfold y52 at H
 refine zb hN Z (qe Z (zb hN Z (qe Z (zb hN Z (qe Z (yb (ι:=Bs) (fun i=>[(0,.dat (vstr i)),(3,.dat (vval (.int .i32 94))),(4,.dat (vint 0))]) (fun i=>[]) (fun i=>z9a i=some r) (fun i=>Z) ?_ ?_))))))
 ·skip
  refine yb (ι:=Bool) (fun i=>[(0,.dat (vstr v1)),(3,.dat (vval (.int .i32 94))),(4,.dat (vint 0)),(18,.dat (zh i))]) (fun i=>[]) (fun i=>z5b v1 i=some r) (fun i=>Z) ?_ ?_
  ·skip
   refine zn hN Z (qd Z (za (yz tyU9 Z) (za (wz Z Z) (qd Z (yi (j:=3) Z Z (fun h2 => ?_) (fun h2 => ?_) Z)))))
   ·refine u1 h2 H fun h3 H=>zg Z Z h2 (zd (.dat _) Z) (bE H fun x4 h5 H=>zg Z Z h2 (wb tyU9 Z Z h5) (zg Z Z h2 (ql Z Z) (zg Z Z h2 (zd (.dat _) Z) (yi (j:=7) Z Z (fun h6 => ?_) (fun h6 => ?_) Z))))
    ·exact u3 h6 H fun h7 H=>zg Z Z h6 (zd (.dat _) Z) (zg Z Z h6 (wb tyU9 Z Z h5) (zg Z Z h6 (ql Z Z) (zg Z Z h2 (ye Z (bFF h7) Z) (za (yh Z (bTT h3) Z) ⟨decide ((x4.toNat:Int)=43),H,⟨Z,Z,Z,Z,U⟩,U⟩))))
    ·exact u4 h6 H fun h8 H=>zc Z Z h6 (zc Z Z h6 (zc Z Z h6 (zg Z Z h2 (yh Z (bTT h8) Z) (za (yh Z (bTT h3) Z) ⟨true,H,⟨Z,Z,Z,Z,U⟩,U⟩))))
   ·exact u2 h2 H fun h9 H=>zc Z Z h2 (zc Z Z h2 (zc Z Z h2 (zc Z Z h2 (yt Z Z (yt Z Z (yt Z Z (zc Z Z h2 (za (ye Z (bFF h9) Z) ⟨false,H,⟨Z,Z,Z,Z,U⟩,U⟩))))))))
  ·rintro v10 H
   replace H:z5b v1 v10=some r:=H
   unfold z5b at H
   refine zf _ Z (fun h11 => ?_) (fun h11 => ?_)
   ·exact tE h11 H fun H=>zn hN Z (qd Z (bE H fun l12 h13 H=>za (vy tyU9 Z Z Z h13) (qe Z ⟨l12,H,⟨Z,Z,Z,U⟩,U⟩)))
   ·exact fE h11 H fun H=>zl ⟨v1,H,⟨Z,Z,Z,U⟩,U⟩
 ·rintro v14 H
  replace H:z9a v14=some r:=H
  unfold z9a at H
  refine zb hN Z (qe Z (yb (ι:=Int×Int×Bool) (fun i=>[(0,.dat (vstr v14)),(3,.dat (vval (.int .i32 i.1))),(4,.dat (vint i.2.1)),(5,.dat (zh i.2.2))]) (fun i=>[]) (fun i=>z89 v14 i.1 i.2.1 i.2.2=some r) (fun i=>Z) ?_ ?_))
  ·skip
   refine yb (ι:=Bool) (fun i=>[(0,.dat (vstr v14)),(3,.dat (vval (.int .i32 94))),(4,.dat (vint 0)),(5,.dat (zh false)),(46,.dat (zh i))]) (fun i=>[]) (fun i=>Wv v14 i=some r) (fun i=>Z) ?_ ?_
   ·skip
    refine zn hN Z (qd Z (za (yz tyU9 Z) (za (wz Z Z) (qd Z (yi (j:=3) Z Z (fun h15 => ?_) (fun h15 => ?_) Z)))))
    ·refine u1 h15 H fun h16 H=>zg Z Z h15 (zd (.dat _) Z) (bE H fun x17 h18 H=>zg Z Z h15 (wb tyU9 Z Z h18) (zg Z Z h15 (ql Z Z) (za (yh Z (bTT h16) Z) (qd Z (yi (j:=8) Z Z (fun h19 => ?_) (fun h19 => ?_) Z)))))
     ·refine u1 h19 H fun h20 H=>zg Z Z h19 (zd (.dat _) Z) (bE H fun x21 h22 H=>zg Z Z h19 (wb tyU9 Z Z h22) (bE H fun r23 h24 H=>zg Z Z h19 (zk (ul (x21.toNat:Int) r23 h24) ⟨.inl Z,U⟩) (zg Z Z h19 (ql Z Z) (zg Z Z h19 (zd (.dat _) Z) (yi (j:=13) Z Z (fun h25 => ?_) (fun h25 => ?_) Z)))))
      ·refine u3 h25 H fun h26 H=>zg Z Z h25 (zd (.dat _) Z) (zg Z Z h25 (wb tyU9 Z Z h22) (bE H fun r27 h28 H=>zg Z Z h25 (zk (ul (x21.toNat:Int) r27 h28) ⟨.inl Z,U⟩) (zg Z Z h25 (ql Z Z) (zg Z Z h19 (ye Z (bFF h26) Z) (zg Z Z h19 (zd (.dat _) Z) (yi (j:=19) Z Z (fun h29 => ?_) (fun h29 => ?_) Z))))))
       ·exact u3 h29 H fun h30 H=>zg Z Z h29 (zd (.dat _) Z) (zg Z Z h29 (wb tyU9 Z Z h22) (bE H fun r31 h32 H=>zg Z Z h29 (zk (ul (x21.toNat:Int) r31 h32) ⟨.inl Z,U⟩) (zg Z Z h29 (ql Z Z) (zg Z Z h19 (ye Z (bFF h30) Z) (za (yh Z (bTT h20) Z) ⟨decide (r31=120),H,⟨Z,Z,Z,Z,Z,U⟩,U⟩)))))
       ·exact u4 h29 H fun h33 H=>zc Z Z h29 (zc Z Z h29 (zc Z Z h29 (zc Z Z h29 (zg Z Z h19 (yh Z (bTT h33) Z) (za (yh Z (bTT h20) Z) ⟨true,H,⟨Z,Z,Z,Z,Z,U⟩,U⟩)))))
      ·exact u4 h25 H fun h34 H=>zc Z Z h25 (zc Z Z h25 (zc Z Z h25 (zc Z Z h25 (zg Z Z h19 (yh Z (bTT h34) Z) (zg Z Z h19 (zd (.dat _) Z) (zc Z Z Z (zc Z Z Z (zc Z Z Z (zc Z Z Z (zg Z Z h19 (yh Z Z Z) (za (yh Z (bTT h20) Z) ⟨true,H,⟨Z,Z,Z,Z,Z,U⟩,U⟩)))))))))))
     ·exact u2 h19 H fun h35 H=>zc Z Z h19 (zc Z Z h19 (zc Z Z h19 (zc Z Z h19 (zc Z Z h19 (yt Z Z (yt Z Z (yt Z Z (yt Z Z (zc Z Z h19 (zc Z Z h19 (yt Z Z (yt Z Z (yt Z Z (yt Z Z (zc Z Z h19 (za (ye Z (bFF h35) Z) ⟨false,H,⟨Z,Z,Z,Z,Z,U⟩,U⟩))))))))))))))))
    ·exact u2 h15 H fun h36 H=>zc Z Z h15 (zc Z Z h15 (zc Z Z h15 (za (ye Z (bFF h36) Z) (qd Z (zc Z Z Z (zc Z Z Z (zc Z Z Z (zc Z Z Z (zc Z Z Z (yt Z Z (yt Z Z (yt Z Z (yt Z Z (zc Z Z Z (zc Z Z Z (yt Z Z (yt Z Z (yt Z Z (yt Z Z (zc Z Z Z (za (ye Z Z Z) ⟨false,H,⟨Z,Z,Z,Z,Z,U⟩,U⟩)))))))))))))))))))))
   ·rintro v37 H
    replace H:Wv v14 v37=some r:=H
    unfold Wv at H
    refine zf _ Z (fun h38 => ?_) (fun h38 => ?_)
    ·exact tE h38 H fun H=>zb hN Z (qe Z (zb hN Z (qe Z (zn hN Z (qd Z (bE H fun x39 h40 H=>za (wb tyU9 Z Z h40) (bE H fun r41 h42 H=>za (zk (ul (x39.toNat:Int) r41 h42) ⟨.inl Z,U⟩) (za (ql Z Z) (qe Z ⟨(48,2,decide (r41=120)),H,⟨Z,Z,Z,Z,U⟩,U⟩)))))))))
    ·exact fE h38 H fun H=>zl ⟨(94,0,false),H,⟨Z,Z,Z,Z,U⟩,U⟩
  ·rintro ⟨v43,v44,v45⟩ H
   replace H:z89 v14 v43 v44 v45=some r:=H
   unfold z89 at H
   refine yb (ι:=Int) (fun i=>[(3,.dat (vval (.int .i32 i)))]) (fun i=>[]) (fun i=>y2r i=some r) (fun i=>Z) ?_ ?_
   ·skip
    refine zx (uz (fun (s:Int×Int)=>[(0,.dat (vstr v14)),(3,.dat (vval (.int .i32 s.1))),(4,.dat (vint s.2)),(5,.dat (zh v45))]) (fun (s:Int×Int)=>[]) (v43,v44) H ⟨Z,Z,Z,Z,U⟩ U (fun _=>Z) ?_)
    rintro ⟨v46,v47⟩ q48 H hq48
    replace H:y6r v14 v45 v46 v47=some q48:=H
    unfold y6r at H
    refine ze (zb hN Z (qd Z (qd Z (za (yz tyU9 Z) (za (zy Z Z) (zf _ Z (fun h49 => ?_) (fun h49 => ?_)))))))
    ·refine tE h49 H fun H=>zl (yb (ι:=Int) (fun i=>[(0,.dat (vstr v14)),(3,.dat (vval (.int .i32 i))),(4,.dat (vint v47)),(5,.dat (zh v45))]) (fun i=>[]) (fun i=>z5a v47 i=some q48) (fun i=>Z) ?_ ?_)
     ·skip
      refine zx (ze (yb (ι:=Bool) (fun i=>[(0,.dat (vstr v14)),(3,.dat (vval (.int .i32 v46))),(4,.dat (vint v47)),(5,.dat (zh v45)),(83,.dat (zh i))]) (fun i=>[]) (fun i=>Yb v14 v46 v47 i=some q48) (fun i=>Z) ?_ ?_))
      ·skip
       refine zn hN Z (qd Z (qd Z (bE H fun x50 h51 H=>za (jy tyU9 Z Z h51) (za (wy Z Z) (qd Z (yi (j:=4) Z Z (fun h52 => ?_) (fun h52 => ?_) Z))))))
       ·refine u1 h52 H fun h53 H=>zg Z Z h52 (zd (.dat _) Z) (zg Z Z h52 (zd (.dat _) Z) (zg Z Z h52 (jy tyU9 Z Z h51) (zg Z Z h52 (wy Z Z) (za (yh Z (bTT h53) Z) (qd Z (yi (j:=10) Z Z (fun h54 => ?_) (fun h54 => ?_) Z))))))
        ·refine u3 h54 H fun h55 H=>zg Z Z h54 (zd (.dat _) Z) (zg Z Z h54 (zd (.dat _) Z) (yi (j:=12) Z Z (fun h56 => ?_) (fun h56 => ?_) Z))
         ·refine u1 h56 H fun h57 H=>zg Z Z h56 (zd (.dat _) Z) (zg Z Z h56 (zd (.dat _) Z) (zg Z Z h56 (jy tyU9 Z Z h51) (bE H fun r58 h59 H=>zg Z Z h56 (zk (ul (x50.toNat:Int) r58 h59) ⟨.inl Z,U⟩) (zg Z Z h56 (wy Z Z) (zg Z Z h54 (yh Z (bTT h57) Z) (zg Z Z h54 (zd (.dat _) Z) (yi (j:=19) Z Z (fun h60 => ?_) (fun h60 => ?_) Z)))))))
          ·exact u1 h60 H fun h61 H=>zg Z Z h60 (zd (.dat _) Z) (zg Z Z h60 (zd (.dat _) Z) (zg Z Z h60 (jy tyU9 Z Z h51) (bE H fun r62 h63 H=>zg Z Z h60 (zk (ul (x50.toNat:Int) r62 h63) ⟨.inl Z,U⟩) (zg Z Z h60 (wy Z Z) (zg Z Z h54 (yh Z (bTT h61) Z) (za (ye Z (bFF h55) Z) ⟨decide (r62≤102),H,⟨Z,Z,Z,Z,Z,U⟩,U⟩))))))
          ·exact u2 h60 H fun h64 H=>zc Z Z h60 (zc Z Z h60 (zc Z Z h60 (zc Z Z h60 (zc Z Z h60 (zg Z Z h54 (ye Z (bFF h64) Z) (za (ye Z (bFF h55) Z) ⟨false,H,⟨Z,Z,Z,Z,Z,U⟩,U⟩))))))
         ·exact u2 h56 H fun h65 H=>zc Z Z h56 (zc Z Z h56 (zc Z Z h56 (zc Z Z h56 (zc Z Z h56 (zg Z Z h54 (ye Z (bFF h65) Z) (zg Z Z h54 (zd (.dat _) Z) (zc Z Z Z (zc Z Z Z (zc Z Z Z (zc Z Z Z (zc Z Z Z (zg Z Z h54 (ye Z Z Z) (za (ye Z (bFF h55) Z) ⟨false,H,⟨Z,Z,Z,Z,Z,U⟩,U⟩)))))))))))))
        ·exact u4 h54 H fun h66 H=>zc Z Z h54 (zc Z Z h54 (yt Z Z (yt Z Z (yt Z Z (yt Z Z (yt Z Z (zc Z Z h54 (zc Z Z h54 (yt Z Z (yt Z Z (yt Z Z (yt Z Z (yt Z Z (zc Z Z h54 (za (yh Z (bTT h66) Z) ⟨true,H,⟨Z,Z,Z,Z,Z,U⟩,U⟩)))))))))))))))
       ·refine u2 h52 H fun h67 H=>zc Z Z h52 (zc Z Z h52 (zc Z Z h52 (zc Z Z h52 (za (ye Z (bFF h67) Z) (qd Z (zg Z Z Z (zd (.dat _) Z) (zg Z Z Z (zd (.dat _) Z) (yi (j:=12) Z Z (fun h68 => ?_) (fun h68 => ?_) Z))))))))
        ·refine u1 h68 H fun h69 H=>zg Z Z h68 (zd (.dat _) Z) (zg Z Z h68 (zd (.dat _) Z) (zg Z Z h68 (jy tyU9 Z Z h51) (bE H fun r70 h71 H=>zg Z Z h68 (zk (ul (x50.toNat:Int) r70 h71) ⟨.inl Z,U⟩) (zg Z Z h68 (wy Z Z) (zg Z Z Z (yh Z (bTT h69) Z) (zg Z Z Z (zd (.dat _) Z) (yi (j:=19) Z Z (fun h72 => ?_) (fun h72 => ?_) Z)))))))
         ·exact u1 h72 H fun h73 H=>zg Z Z h72 (zd (.dat _) Z) (zg Z Z h72 (zd (.dat _) Z) (zg Z Z h72 (jy tyU9 Z Z h51) (bE H fun r74 h75 H=>zg Z Z h72 (zk (ul (x50.toNat:Int) r74 h75) ⟨.inl Z,U⟩) (zg Z Z h72 (wy Z Z) (zg Z Z Z (yh Z (bTT h73) Z) (za (ye Z Z Z) ⟨decide (r74≤102),H,⟨Z,Z,Z,Z,Z,U⟩,U⟩))))))
         ·exact u2 h72 H fun h76 H=>zc Z Z h72 (zc Z Z h72 (zc Z Z h72 (zc Z Z h72 (zc Z Z h72 (zg Z Z Z (ye Z (bFF h76) Z) (za (ye Z Z Z) ⟨false,H,⟨Z,Z,Z,Z,Z,U⟩,U⟩))))))
        ·exact u2 h68 H fun h77 H=>zc Z Z h68 (zc Z Z h68 (zc Z Z h68 (zc Z Z h68 (zc Z Z h68 (zg Z Z Z (ye Z (bFF h77) Z) (zg Z Z Z (zd (.dat _) Z) (zc Z Z Z (zc Z Z Z (zc Z Z Z (zc Z Z Z (zc Z Z Z (zg Z Z Z (ye Z Z Z) (za (ye Z Z Z) ⟨false,H,⟨Z,Z,Z,Z,Z,U⟩,U⟩)))))))))))))
      ·rintro v78 H
       replace H:Yb v14 v46 v47 v78=some q48:=H
       unfold Yb at H
       refine zf _ Z (fun h79 => ?_) (fun h79 => ?_)
       ·exact tE h79 H fun H=>zb hN Z (qe Z (yr ⟨48,H,⟨Z,Z,Z,Z,U⟩,U⟩))
       ·refine fE h79 H fun H=>zl (ze (zb hN Z (qd Z (qd Z (bE H fun x80 h81 H=>za (jy tyU9 Z Z h81) (za (ql Z Z) (zf _ Z (fun h82 => ?_) (fun h82 => ?_))))))))
        ·refine tE h82 H fun H=>ze (zb hN Z (qd Z (za (qj Z Z) (zf _ Z (fun h83 => ?_) (fun h83 => ?_)))))
         ·refine tE h83 H fun H=>zb hN Z (qe Z (zi ?_))
          replace H:=retl H hq48
          cases H
          exact ⟨U,.inl Z,U⟩
         ·exact fE h83 H fun H=>zl (zb hN Z (qe Z (yr ⟨95,H,⟨Z,Z,Z,Z,U⟩,U⟩)))
        ·refine fE h82 H fun H=>zl (ze (zb hN Z (qd Z (za (ql Z Z) (zf _ Z (fun h84 => ?_) (fun h84 => ?_))))))
         ·refine tE h84 H fun H=>zb hN Z (qe Z (zi ?_))
          replace H:=retl H hq48
          cases H
          exact ⟨U,.inl Z,U⟩
         ·exact fE h84 H fun H=>zl (zn hN Z (qe Z ⟨33,H,⟨Z,Z,Z,Z,U⟩,U⟩))
     ·rintro v85 H
      replace H:z5a v47 v85=some q48:=H
      unfold z5a at H
      exact zn hN Z (qd Z (za (yj _ Z Z (.inl ⟨Z,Z⟩)) (qe Z ⟨_,yx H,⟨Z,Z,Z,Z,U⟩,U⟩)))
    ·refine fE h49 H fun H=>yr ?_
     replace H:=outl H hq48
     exact ⟨v46,H,⟨Z,U⟩,U⟩
   ·rintro v86 H
    replace H:y2r v86=some r:=H
    unfold y2r at H
    refine zb hN Z (qd Z (za (qj Z Z) (qe Z (zi ?_))))
    cases H
    exact ⟨U,.inl Z,U⟩
theorem x2c (v1:Bs) (v2:Int) (v3:Int) (r:(Int×Int)) (H:z4g v1 v2 v3=some r):Fn Tryz.prog 249 [vstr v1,vint v2,vint v3] (zu [vval (.int .u64 r.1),verr r.2]):=by
 refine ⟨by kernel_rfl,yg (us:=[vval (.int .u64 r.1),verr r.2]) Tryz.func249 Z Z Z Z fun X hN => ?_⟩
 unfold z4g at H
 refine zb hN Z (qe Z (qe Z (ze (zb hN Z (qd Z (za (vg Z Z) (zf _ Z (fun h4 => ?_) (fun h4 => ?_))))))))
 ·refine tE h4 H fun H=>zb hN Z (za (ya (u':=verr 2) (ud (show Tryz.prog.underlying 200=some (.int .i64) from by kernel_rfl) Z) Z) ?_)
  refine qe Z (qe Z (zi ?_))
  cases H
  exact ⟨U,.inl Z,.inl Z,U⟩
 ·refine fE h4 H fun H=>zl (zb hN Z (qd Z (za (ql Z Z) (qe Z (zb hN Z (qd Z (qe Z (yb (ι:=Bs×Int) (fun i=>[(0,.dat (vstr i.1)),(1,.dat (vint i.2)),(2,.dat (vint v3)),(8,.dat (zh (decide (v2=0)))),(9,.dat (vstr v1))]) (fun i=>[]) (fun i=>Qa v1 v2 v3 i.1 i.2=some r) (fun i=>Z) ?_ ?_))))))))
  ·skip
   refine zx (zb hN Z (qd Z (za (wy Z Z) (qd Z (wd Z Z (fun hc=>zd (.dat _) Z) (wd Z Z (fun hc=>wy (cnd (c:=(decide (2≤v2))) hc) Z) (za (vd Z (fun hb=>(cnd (c:=(decide (2≤v2))) hb)) Z) (qe Z (zf _ Z (fun h5 => ?_) (fun h5 => ?_))))))))))
   ·exact tE h5 H fun H=>zl ⟨(v1,v2),H,⟨Z,Z,Z,Z,Z,U⟩,U⟩
   ·refine fE h5 H fun H=>zb hN Z (qd Z (za (ql Z Z) (qe Z (zf _ Z (fun h6 => ?_) (fun h6 => ?_)))))
    ·refine tE h6 H fun H=>zb hN Z (qe Z (zb hN Z (qd Z (bE H fun x7 h8 H=>za (wb tyU9 Z Z h8) (za (ql Z Z) (zf _ Z (fun h9 => ?_) (fun h9 => ?_)))))))
     ·refine tE h9 H fun H=>zx (yb (ι:=Bool) (fun i=>[(0,.dat (vstr v1)),(2,.dat (vint v3)),(8,.dat (zh (decide (v2=0)))),(9,.dat (vstr v1)),(40,.dat (zh i))]) (fun i=>[]) (fun i=>z9f v1 v2 v3 i=some r) (fun i=>Z) ?_ ?_)
      ·skip
       refine zn hN Z (qd Z (za (yz tyU9 Z) (za (wz Z Z) (qd Z (yi (j:=3) Z Z (fun h10 => ?_) (fun h10 => ?_) Z)))))
       ·exact u1 h10 H fun h11 H=>zg Z Z h10 (zd (.dat _) Z) (bE H fun x12 h13 H=>zg Z Z h10 (wb tyU9 Z Z h13) (bE H fun r14 h15 H=>zg Z Z h10 (zk (ul (x12.toNat:Int) r14 h15) ⟨.inl Z,U⟩) (zg Z Z h10 (ql Z Z) (za (yh Z (bTT h11) Z) (qe Z ⟨decide (r14=98),H,⟨Z,Z,Z,Z,Z,U⟩,U⟩)))))
       ·exact u2 h10 H fun h16 H=>zc Z Z h10 (zc Z Z h10 (zc Z Z h10 (zc Z Z h10 (za (ye Z (bFF h16) Z) (qe Z ⟨false,H,⟨Z,Z,Z,Z,Z,U⟩,U⟩)))))
      ·rintro v17 H
       replace H:z9f v1 v2 v3 v17=some r:=H
       unfold z9f at H
       refine zf _ Z (fun h18 => ?_) (fun h18 => ?_)
       ·exact tE h18 H fun H=>zb hN Z (qe Z (zn hN Z (qd Z (bE H fun l19 h20 H=>za (vy tyU9 Z Z Z h20) (qe Z ⟨(l19,2),H,⟨Z,Z,Z,Z,Z,U⟩,U⟩)))))
       ·refine fE h18 H fun H=>yb (ι:=Bool) (fun i=>[(0,.dat (vstr v1)),(2,.dat (vint v3)),(8,.dat (zh (decide (v2=0)))),(9,.dat (vstr v1)),(52,.dat (zh i))]) (fun i=>[]) (fun i=>z9e v1 v2 v3 i=some r) (fun i=>Z) ?_ ?_
        ·skip
         refine zn hN Z (qd Z (za (yz tyU9 Z) (za (wz Z Z) (qd Z (yi (j:=3) Z Z (fun h21 => ?_) (fun h21 => ?_) Z)))))
         ·exact u1 h21 H fun h22 H=>zg Z Z h21 (zd (.dat _) Z) (bE H fun x23 h24 H=>zg Z Z h21 (wb tyU9 Z Z h24) (bE H fun r25 h26 H=>zg Z Z h21 (zk (ul (x23.toNat:Int) r25 h26) ⟨.inl Z,U⟩) (zg Z Z h21 (ql Z Z) (za (yh Z (bTT h22) Z) (qe Z ⟨decide (r25=111),H,⟨Z,Z,Z,Z,Z,U⟩,U⟩)))))
         ·exact u2 h21 H fun h27 H=>zc Z Z h21 (zc Z Z h21 (zc Z Z h21 (zc Z Z h21 (za (ye Z (bFF h27) Z) (qe Z ⟨false,H,⟨Z,Z,Z,Z,Z,U⟩,U⟩)))))
        ·rintro v28 H
         replace H:z9e v1 v2 v3 v28=some r:=H
         unfold z9e at H
         refine zf _ Z (fun h29 => ?_) (fun h29 => ?_)
         ·exact tE h29 H fun H=>zb hN Z (qe Z (zn hN Z (qd Z (bE H fun l30 h31 H=>za (vy tyU9 Z Z Z h31) (qe Z ⟨(l30,8),H,⟨Z,Z,Z,Z,Z,U⟩,U⟩)))))
         ·refine fE h29 H fun H=>yb (ι:=Bool) (fun i=>[(0,.dat (vstr v1)),(2,.dat (vint v3)),(8,.dat (zh (decide (v2=0)))),(9,.dat (vstr v1)),(64,.dat (zh i))]) (fun i=>[]) (fun i=>z9d v1 v2 v3 i=some r) (fun i=>Z) ?_ ?_
          ·skip
           refine zn hN Z (qd Z (za (yz tyU9 Z) (za (wz Z Z) (qd Z (yi (j:=3) Z Z (fun h32 => ?_) (fun h32 => ?_) Z)))))
           ·exact u1 h32 H fun h33 H=>zg Z Z h32 (zd (.dat _) Z) (bE H fun x34 h35 H=>zg Z Z h32 (wb tyU9 Z Z h35) (bE H fun r36 h37 H=>zg Z Z h32 (zk (ul (x34.toNat:Int) r36 h37) ⟨.inl Z,U⟩) (zg Z Z h32 (ql Z Z) (za (yh Z (bTT h33) Z) (qe Z ⟨decide (r36=120),H,⟨Z,Z,Z,Z,Z,U⟩,U⟩)))))
           ·exact u2 h32 H fun h38 H=>zc Z Z h32 (zc Z Z h32 (zc Z Z h32 (zc Z Z h32 (za (ye Z (bFF h38) Z) (qe Z ⟨false,H,⟨Z,Z,Z,Z,Z,U⟩,U⟩)))))
          ·rintro v39 H
           replace H:z9d v1 v2 v3 v39=some r:=H
           unfold z9d at H
           refine zf _ Z (fun h40 => ?_) (fun h40 => ?_)
           ·exact tE h40 H fun H=>zb hN Z (qe Z (zn hN Z (qd Z (bE H fun l41 h42 H=>za (vy tyU9 Z Z Z h42) (qe Z ⟨(l41,16),H,⟨Z,Z,Z,Z,Z,U⟩,U⟩)))))
           ·exact fE h40 H fun H=>zb hN Z (qe Z (zn hN Z (qd Z (bE H fun l43 h44 H=>za (vy tyU9 Z Z Z h44) (qe Z ⟨(l43,8),H,⟨Z,Z,Z,Z,Z,U⟩,U⟩)))))
     ·exact fE h9 H fun H=>zl ⟨(v1,10),H,⟨Z,Z,Z,Z,Z,U⟩,U⟩
    ·refine fE h6 H fun H=>zb hN Z (za (ya (u':=verr 3) (ud (show Tryz.prog.underlying 200=some (.int .i64) from by kernel_rfl) Z) Z) ?_)
     refine qe Z (qe Z (zi ?_))
     cases H
     exact ⟨U,.inl Z,.inl Z,U⟩
  ·rintro ⟨v45,v46⟩ H
   replace H:Qa v1 v2 v3 v45 v46=some r:=H
   unfold Qa at H
   refine yb (ι:=Int) (fun i=>[(0,.dat (vstr v45)),(1,.dat (vint v46)),(2,.dat (vint i)),(8,.dat (zh (decide (v2=0)))),(9,.dat (vstr v1))]) (fun i=>[]) (fun i=>z9c v1 v2 v45 v46 i=some r) (fun i=>Z) ?_ ?_
   ·skip
    refine zb hN Z (qd Z (za (ql Z Z) (zf _ Z (fun h47 => ?_) (fun h47 => ?_))))
    ·exact tE h47 H fun H=>zn hN Z (qe Z ⟨64,H,⟨Z,Z,Z,Z,Z,U⟩,U⟩)
    ·refine fE h47 H fun H=>zb hN Z (qd Z (za (zy Z Z) (qd Z (yl Z Z (fun hc=>zd (.dat _) Z) (yl Z Z (fun hc=>wg (cnd (c:=(!(decide (v3 < 0)))) hc) Z) (za (ww Z Z (fun hb=>(cnd (c:=(!(decide (v3 < 0)))) (notI hb)))) (zf _ Z (fun h48 => ?_) (fun h48 => ?_))))))))
     ·refine tE h48 H fun H=>zb hN Z (za (ya (u':=verr 4) (ud (show Tryz.prog.underlying 200=some (.int .i64) from by kernel_rfl) Z) Z) ?_)
      refine qe Z (qe Z (zi ?_))
      cases H
      exact ⟨U,.inl Z,.inl Z,U⟩
     ·exact fE h48 H fun H=>zl ⟨v3,H,⟨Z,Z,Z,Z,Z,U⟩,U⟩
   ·rintro v49 H
    replace H:z9c v1 v2 v45 v46 v49=some r:=H
    unfold z9c at H
    refine zb hN Z (qe Z (yb (ι:=Int) (fun i=>[(0,.dat (vstr v45)),(1,.dat (vint v46)),(2,.dat (vint v49)),(8,.dat (zh (decide (v2=0)))),(9,.dat (vstr v1)),(10,.dat (vval (.int .u64 i)))]) (fun i=>[]) (fun i=>z5d v1 v2 v45 v46 v49 i=some r) (fun i=>Z) ?_ ?_))
    ·skip
     refine zb hN Z (qd Z (zx (zb hN Z (za (ql Z Z) (qe Z (zf _ Z (fun h50 => ?_) (fun h50 => ?_)))))))
     ·exact tE h50 H fun H=>zn hN Z (qe Z ⟨1844674407370955162,H,⟨Z,Z,Z,Z,Z,Z,U⟩,U⟩)
     ·refine fE h50 H fun H=>zb hN Z (za (ql Z Z) (qe Z (zf _ Z (fun h51 => ?_) (fun h51 => ?_))))
      ·exact tE h51 H fun H=>zn hN Z (qe Z ⟨1152921504606846976,H,⟨Z,Z,Z,Z,Z,Z,U⟩,U⟩)
      ·exact fE h51 H fun H=>zn hN Z (qd Z (za (jg tyU3 Yf Z) (gE H fun h52 H=>za (x64 Z Z h52) (za (yj _ Z Z (.inl ⟨Z,Z⟩)) (qe Z ⟨IntKind.wrap .u64 ((IntKind.wrap .u64 (Int.tdiv 18446744073709551615 (IntKind.wrap .u64 v46)))+1),H,⟨Z,Z,Z,Z,Z,Z,U⟩,U⟩)))))
    ·rintro v53 H
     replace H:z5d v1 v2 v45 v46 v49 v53=some r:=H
     unfold z5d at H
     refine zb hN Z (qd Z (za (jg tyU3 y0c Z) (gE H fun h54 H=>za (ya (y9g Z Z h54) Z) (za (yj _ Z Z (.inr (.inl ⟨Z,Z⟩))) (qe Z (zb hN Z (qe Z (zb hN Z (qe Z (ze (zb hN Z (qd Z (za (y9m (C:=qn) tyU9 Qm tyU5 (fun _=>Z) Z) (za (qi Qm Z) (qd Z (zx (gE H fun h59 H=>qv (fun (k57:Nat) (s:Bool×Int)=>[(1,.dat (vint v46)),(8,.dat (zh (decide (v2=0)))),(9,.dat (vstr v1)),(10,.dat (vval (.int .u64 v53))),(11,.dat (vval (.int .u64 (IntKind.wrap .u64 ((shl_ .u64 1 (IntKind.wrap .u64 v49)) - 1))))),(12,.dat (zh s.1)),(13,.dat (vval (.int .u64 s.2))),(99,.dat (vlst (List.map qn (yn v45)))),(100,.dat (vint ((yn v45).length:Int))),(101,.dat (vint (k57:Int)))]) (fun (k57:Nat) (s:Bool×Int)=>[]) (false,0) H ⟨Z,Z,Z,Z,Z,Z,Z,Z,Z,Z,U⟩ U (fun _ _=>Z) ?_ ?_)))))))))))))))))
     ·rintro ⟨v55,v56⟩ H
      replace H:z5e v1 v55 v56=some r:=H
      unfold z5e at H
      refine zb hN Z (za (zy Z Z) (ze (zf _ Z (fun h=>(lt_t h).elim) (fun h => ?_))))
      refine yr (ze (yb (ι:=Bool) (fun i=>[(13,.dat (vval (.int .u64 v56))),(169,.dat (zh i))]) (fun i=>[]) (fun i=>z5c v56 i=some r) (fun i=>Z) ?_ ?_))
      ·skip
       refine zn hN Z (qd Z (qd Z (yi (j:=1) Z Z (fun h61 => ?_) (fun h61 => ?_) Z)))
       ·exact u1 h61 H fun h62 H=>zg Z Z h61 (zd (.dat _) Z) (bE H fun r63 h64 H=>zg Z Z h61 (zk (w1q v1 r63 h64) ⟨.inl Z,U⟩) (zg Z Z h61 (yy Z) (za (yh Z (bTT h62) Z) ⟨!r63,H,⟨Z,Z,U⟩,U⟩)))
       ·exact u2 h61 H fun h65 H=>zc Z Z h61 (zc Z Z h61 (zc Z Z h61 (za (ye Z (bFF h65) Z) ⟨false,H,⟨Z,Z,U⟩,U⟩)))
      ·rintro v66 H
       replace H:z5c v56 v66=some r:=H
       unfold z5c at H
       refine zf _ Z (fun h67 => ?_) (fun h67 => ?_)
       ·refine tE h67 H fun H=>zb hN Z (za (ya (u':=verr 2) (ud (show Tryz.prog.underlying 200=some (.int .i64) from by kernel_rfl) Z) Z) ?_)
        refine qe Z (qe Z (zi ?_))
        cases H
        exact ⟨U,.inl Z,.inl Z,U⟩
       ·refine fE h67 H fun H=>zl (zb hN Z (qd Z (qe Z (qe Z (zi ?_)))))
        cases H
        exact ⟨U,.inl Z,.inl Z,U⟩
     ·rintro k57 x60 ⟨v55,v56⟩ q58 h68 h69 H hq58
      replace H:Yz v2 v46 v49 v53 k57 x60 v55 v56=some q58:=H
      unfold Yz at H
      refine zb hN Z (za (zy Z Z) (ze (zf _ Z (fun h => ?_) (fun h=>(lt_f h68 h).elim))))
      refine zl (yb (ι:=Bool×Int) (fun i=>[(1,.dat (vint v46)),(8,.dat (zh (decide (v2=0)))),(9,.dat (vstr v1)),(10,.dat (vval (.int .u64 v53))),(11,.dat (vval (.int .u64 (IntKind.wrap .u64 ((shl_ .u64 1 (IntKind.wrap .u64 v49)) - 1))))),(12,.dat (zh i.1)),(13,.dat (vval (.int .u64 i.2))),(99,.dat (vlst (List.map qn (yn v45)))),(100,.dat (vint ((yn v45).length:Int))),(101,.dat (vint (k57:Int)))]) (fun i=>[]) (fun i=>z9b i.1 i.2=some q58) (fun i=>Z) ?_ ?_)
      ·skip
       refine zx (zb hN Z (za (wc y82 (fun _=>Z) Z Z h69) (za (qz tyS5 Z (qk h69) Z) (qe Z (zb hN Z (qe Z (yb (ι:=Int) (fun i=>[(1,.dat (vint v46)),(8,.dat (zh (decide (v2=0)))),(9,.dat (vstr v1)),(10,.dat (vval (.int .u64 v53))),(11,.dat (vval (.int .u64 (IntKind.wrap .u64 ((shl_ .u64 1 (IntKind.wrap .u64 v49)) - 1))))),(12,.dat (zh v55)),(13,.dat (vval (.int .u64 v56))),(16,.dat (vval (.int .u8 i))),(99,.dat (vlst (List.map qn (yn v45)))),(100,.dat (vint ((yn v45).length:Int))),(101,.dat (vint (k57:Int)))]) (fun i=>[]) (fun i=>z9h v46 v49 v53 v55 v56 i=some q58) (fun i=>Z) ?_ ?_)))))))
       ·skip
        refine zx (zb hN Z (qd Z (za (ql Z Z) (qd Z (wd Z Z (fun hc=>zd (.dat _) Z) (za (vd Z (fun hb=>(cnd (c:=(decide (x60=95))) hb)) Z) (qe Z (zf _ Z (fun h70 => ?_) (fun h70 => ?_)))))))))
        ·exact tE h70 H fun H=>zb hN Z (qe Z (yr ⟨(true,v56),H,⟨Z,Z,Z,Z,Z,Z,Z,Z,Z,Z,U⟩,U⟩))
        ·refine fE h70 H fun H=>zb hN Z (qd Z (za (wy Z Z) (qd Z (wd Z Z (fun hc=>zd (.dat _) Z) (wd Z Z (fun hc=>wy (cnd (c:=(decide (48≤x60))) hc) Z) (za (vd Z (fun hb=>(cnd (c:=(decide (48≤x60))) hb)) Z) (qe Z (zf _ Z (fun h71 => ?_) (fun h71 => ?_)))))))))
         ·exact tE h71 H fun H=>zn hN Z (qd Z (za (yj _ Z Z (.inr (.inl ⟨Z,Z⟩))) (qe Z ⟨IntKind.wrap .u8 (x60 - 48),H,⟨Z,Z,Z,Z,Z,Z,Z,Z,Z,Z,Z,U⟩,U⟩)))
         ·refine fE h71 H fun H=>yb (ι:=Bool) (fun i=>[(1,.dat (vint v46)),(8,.dat (zh (decide (v2=0)))),(9,.dat (vstr v1)),(10,.dat (vval (.int .u64 v53))),(11,.dat (vval (.int .u64 (IntKind.wrap .u64 ((shl_ .u64 1 (IntKind.wrap .u64 v49)) - 1))))),(12,.dat (zh v55)),(13,.dat (vval (.int .u64 v56))),(15,.dat (vval (.int .u8 x60))),(99,.dat (vlst (List.map qn (yn v45)))),(100,.dat (vint ((yn v45).length:Int))),(101,.dat (vint (k57:Int))),(121,.dat (zh i))]) (fun i=>[]) (fun i=>z9g v46 v49 v53 v55 v56 x60 i=some q58) (fun i=>Z) ?_ ?_
          ·skip
           refine zn hN Z (qd Z (bE H fun r72 h73 H=>za (zk (ul x60 r72 h73) ⟨.inl Z,U⟩) (za (wy Z Z) (qd Z (yi (j:=3) Z Z (fun h74 => ?_) (fun h74 => ?_) Z)))))
           ·exact u1 h74 H fun h75 H=>zg Z Z h74 (zd (.dat _) Z) (bE H fun r76 h77 H=>zg Z Z h74 (zk (ul x60 r76 h77) ⟨.inl Z,U⟩) (zg Z Z h74 (wy Z Z) (za (yh Z (bTT h75) Z) (qe Z ⟨decide (r76≤122),H,⟨Z,Z,Z,Z,Z,Z,Z,Z,Z,Z,Z,Z,U⟩,U⟩))))
           ·exact u2 h74 H fun h78 H=>zc Z Z h74 (zc Z Z h74 (zc Z Z h74 (za (ye Z (bFF h78) Z) (qe Z ⟨false,H,⟨Z,Z,Z,Z,Z,Z,Z,Z,Z,Z,Z,Z,U⟩,U⟩))))
          ·rintro v79 H
           replace H:z9g v46 v49 v53 v55 v56 x60 v79=some q58:=H
           unfold z9g at H
           refine zf _ Z (fun h80 => ?_) (fun h80 => ?_)
           ·exact tE h80 H fun H=>zn hN Z (qd Z (bE H fun r81 h82 H=>za (zk (ul x60 r81 h82) ⟨.inl Z,U⟩) (za (yj _ Z Z (.inr (.inl ⟨Z,Z⟩))) (za (yj _ Z Z (.inl ⟨Z,Z⟩)) (qe Z ⟨IntKind.wrap .u8 ((IntKind.wrap .u8 (r81 - 97))+10),H,⟨Z,Z,Z,Z,Z,Z,Z,Z,Z,Z,Z,U⟩,U⟩)))))
           ·refine fE h80 H fun H=>zb hN Z (za (ya (u':=verr 2) (ud (show Tryz.prog.underlying 200=some (.int .i64) from by kernel_rfl) Z) Z) ?_)
            refine qe Z (qe Z (zi ?_))
            replace H:=retl H hq58
            cases H
            exact ⟨U,.inl Z,.inl Z,U⟩
       ·rintro v83 H
        replace H:z9h v46 v49 v53 v55 v56 v83=some q58:=H
        unfold z9h at H
        refine ze (zb hN Z (qd Z (qd Z (za (jg tyU3 tyU5 Z) (za (wz Z Z) (zf _ Z (fun h84 => ?_) (fun h84 => ?_)))))))
        ·refine tE h84 H fun H=>zb hN Z (za (ya (u':=verr 2) (ud (show Tryz.prog.underlying 200=some (.int .i64) from by kernel_rfl) Z) Z) ?_)
         refine qe Z (qe Z (zi ?_))
         replace H:=retl H hq58
         cases H
         exact ⟨U,.inl Z,.inl Z,U⟩
        ·refine fE h84 H fun H=>zl (ze (zb hN Z (qd Z (qd Z (za (wz Z Z) (zf _ Z (fun h85 => ?_) (fun h85 => ?_)))))))
         ·refine tE h85 H fun H=>zb hN Z (qd Z (za (ya (u':=verr 1) (ud (show Tryz.prog.underlying 200=some (.int .i64) from by kernel_rfl) Z) Z) ?_))
          refine qe Z (qe Z (zi ?_))
          replace H:=retl H hq58
          cases H
          exact ⟨U,.inl Z,.inl Z,U⟩
         ·refine fE h85 H fun H=>zl (zb hN Z (qd Z (qd Z (za (jg tyU3 Yf Z) (za (yj _ Z Z (.inr (.inr ⟨Z,Z⟩))) (qe Z (zb hN Z (qd Z (qd Z (za (jg tyU5 Yf Z) (za (yj _ Z Z (.inl ⟨Z,Z⟩)) (qe Z (ze (zb hN Z (qd Z (qd Z (za (zy Z Z) (qd Z (yl Z Z (fun hc=>zd (.dat _) Z) (yl Z Z (fun hc=>zd (.dat _) Z) (yl Z Z (fun hc=>wg (cnd (c:=(!(decide ((IntKind.wrap .u64 ((IntKind.wrap .u64 (v56 * (IntKind.wrap .u64 v46)))+(IntKind.wrap .u64 v83))) < (IntKind.wrap .u64 (v56 * (IntKind.wrap .u64 v46))))))) hc) (cnd (c:=(!(decide ((IntKind.wrap .u64 ((IntKind.wrap .u64 (v56 * (IntKind.wrap .u64 v46)))+(IntKind.wrap .u64 v83))) < (IntKind.wrap .u64 (v56 * (IntKind.wrap .u64 v46))))))) hc)) (za (ww Z Z (fun hb=>(cnd (c:=(!(decide ((IntKind.wrap .u64 ((IntKind.wrap .u64 (v56 * (IntKind.wrap .u64 v46)))+(IntKind.wrap .u64 v83))) < (IntKind.wrap .u64 (v56 * (IntKind.wrap .u64 v46))))))) (notI hb)))) ?_))))))))))))))))))))))
          refine zf _ Z (fun h86 => ?_) (fun h86 => ?_)
          ·refine tE h86 H fun H=>zb hN Z (qd Z (za (ya (u':=verr 1) (ud (show Tryz.prog.underlying 200=some (.int .i64) from by kernel_rfl) Z) Z) ?_))
           refine qe Z (qe Z (zi ?_))
           replace H:=retl H hq58
           cases H
           exact ⟨U,.inl Z,.inl Z,U⟩
          ·exact fE h86 H fun H=>zl (zn hN Z (qd Z (qe Z ⟨(v55,IntKind.wrap .u64 ((IntKind.wrap .u64 (v56 * (IntKind.wrap .u64 v46)))+(IntKind.wrap .u64 v83))),H,⟨Z,Z,Z,Z,Z,Z,Z,Z,Z,Z,U⟩,U⟩)))
      ·rintro ⟨v87,v88⟩ H
       replace H:z9b v87 v88=some q58:=H
       unfold z9b at H
       exact zn hN Z (za (qo Z Z (by omega)) (qd Z ⟨_,yx H,⟨Z,Z,Z,Z,Z,Z,Z,Z,Z,Z,U⟩,U⟩))
theorem w1r (v1:Bs) (v2:Int) (v3:Int) (r:(Int×Int)) (H:y53 v1 v2 v3=some r):Fn Tryz.prog 204 [vstr v1,vint v2,vint v3] (zu [vint r.1,verr r.2]):=by
 refine ⟨by kernel_rfl,yg (us:=[vint r.1,verr r.2]) Tryz.func204 Z Z Z Z fun X hN => ?_⟩
 unfold y53 at H
 refine zb hN Z (qe Z (qe Z (ze (zb hN Z (qd Z (za (vg Z Z) (zf _ Z (fun h4 => ?_) (fun h4 => ?_))))))))
 ·refine tE h4 H fun H=>zb hN Z (za (ya (u':=verr 2) (ud (show Tryz.prog.underlying 200=some (.int .i64) from by kernel_rfl) Z) Z) ?_)
  refine qe Z (qe Z (zi ?_))
  cases H
  exact ⟨U,.inl Z,.inl Z,U⟩
 ·refine fE h4 H fun H=>zl (zb hN Z (qe Z (yb (ι:=Bs×Bool) (fun i=>[(0,.dat (vstr i.1)),(1,.dat (vint v2)),(2,.dat (vint v3)),(8,.dat (zh i.2))]) (fun i=>[]) (fun i=>z5f v2 v3 i.1 i.2=some r) (fun i=>Z) ?_ ?_)))
  ·skip
   refine zb hN Z (qd Z (bE H fun x5 h6 H=>za (wb tyU9 Z Z h6) (zx (zb hN Z (za (ql Z Z) (qe Z (zf _ Z (fun h7 => ?_) (fun h7 => ?_))))))))
   ·exact tE h7 H fun H=>zn hN Z (qd Z (bE H fun l8 h9 H=>za (vy tyU9 Z Z Z h9) (qe Z ⟨(l8,false),H,⟨Z,Z,Z,Z,U⟩,U⟩)))
   ·refine fE h7 H fun H=>zb hN Z (za (ql Z Z) (qe Z (zf _ Z (fun h10 => ?_) (fun h10 => ?_))))
    ·exact tE h10 H fun H=>zb hN Z (qd Z (bE H fun l11 h12 H=>za (vy tyU9 Z Z Z h12) (qe Z (zn hN Z (qe Z ⟨(l11,true),H,⟨Z,Z,Z,Z,U⟩,U⟩)))))
    ·exact fE h10 H fun H=>zl ⟨(v1,false),H,⟨Z,Z,Z,Z,U⟩,U⟩
  ·rintro ⟨v13,v14⟩ H
   replace H:z5f v2 v3 v13 v14=some r:=H
   unfold z5f at H
   refine zb hN Z (qe Z (zb hN Z (qd Z (qd Z (qd Z (bE H fun r15 h16 H=>za (zk (x2c v13 v2 v3 r15 h16) ⟨.inl Z,.inl Z,.inl Z,U⟩) (qd Z (za (zz Z Z) (za (zz Z Z) (qe Z (qe Z (ze (yb (ι:=Bool) (fun i=>[(2,.dat (vint v3)),(7,.dat (verr r15.2)),(8,.dat (zh v14)),(9,.dat (vval (.int .u64 r15.1))),(38,.dat (zh i))]) (fun i=>[]) (fun i=>z9k v3 v14 r15 i=some r) (fun i=>Z) ?_ ?_)))))))))))))
   ·skip
    refine zn hN Z (qd Z (za (z69 (n:=r15.2) (show Tryz.prog.underlying 104=some (.interface (Tryz.prog.methodsAt 104)) from by kernel_rfl) Z) ?_))
    refine qd Z (yi (j:=2) Z Z (fun h17 => ?_) (fun h17 => ?_) Z)
    ·refine u1 h17 H fun h18 H=>zg Z Z h17 (zd (.dat _) Z) (zg Z Z h17 (ya (u':=verr 1) (ud (show Tryz.prog.underlying 200=some (.int .i64) from by kernel_rfl) Z) Z) ?_)
     refine gE H fun h19 H=>zg Z Z h17 (x7k (n:=r15.2) (m:=1) (show Tryz.prog.underlying 104=some (.interface (Tryz.prog.methodsAt 104)) from by kernel_rfl) (by kernel_rfl) (by kernel_rfl) Z Z h19 (by decide)) ?_
     exact za (yh Z (bTT h18) Z) ⟨decide (r15.2≠1),H,⟨Z,Z,Z,Z,Z,U⟩,U⟩
    ·exact u2 h17 H fun h20 H=>zc Z Z h17 (zc Z Z h17 (zc Z Z h17 (za (ye Z (bFF h20) Z) ⟨false,H,⟨Z,Z,Z,Z,Z,U⟩,U⟩)))
   ·rintro v21 H
    replace H:z9k v3 v14 r15 v21=some r:=H
    unfold z9k at H
    refine zf _ Z (fun h22 => ?_) (fun h22 => ?_)
    ·refine tE h22 H fun H=>zb hN Z (qd Z (qe Z (qe Z (zi ?_))))
     cases H
     exact ⟨U,.inl Z,.inl Z,U⟩
    ·refine fE h22 H fun H=>zl (yb (ι:=Int) (fun i=>[(2,.dat (vint i)),(8,.dat (zh v14)),(9,.dat (vval (.int .u64 r15.1)))]) (fun i=>[]) (fun i=>z9j v14 r15 i=some r) (fun i=>Z) ?_ ?_)
     ·skip
      refine zb hN Z (qd Z (za (ql Z Z) (zf _ Z (fun h23 => ?_) (fun h23 => ?_))))
      ·exact tE h23 H fun H=>zn hN Z (qe Z ⟨64,H,⟨Z,Z,Z,U⟩,U⟩)
      ·exact fE h23 H fun H=>zl ⟨v3,H,⟨Z,Z,Z,U⟩,U⟩
     ·rintro v24 H
      replace H:z9j v14 r15 v24=some r:=H
      unfold z9j at H
      refine zb hN Z (qd Z (za (yj _ Z Z (.inr (.inl ⟨Z,Z⟩))) (za (jg tyU3 y0c Z) (gE H fun h25 H=>za (ya (y9g Z Z h25) Z) (qe Z (ze (zb hN Z (qd Z (za (yy Z) (qd Z (wd Z Z (fun hc=>zd (.dat _) Z) (wd Z Z (fun hc=>zd (.dat _) Z) (wd Z Z (fun hc=>wz (cnd (c:=(!v14)) hc) (cnd (c:=(!v14)) hc)) (za (vd Z (fun hb=>(cnd (c:=(!v14)) hb)) Z) (zf _ Z (fun h26 => ?_) (fun h26 => ?_))))))))))))))))
      ·refine tE h26 H fun H=>zb hN Z (qd Z (za (yj _ Z Z (.inr (.inl ⟨Z,Z⟩))) (za (jg Yf tyU2 Z) (za (ya (u':=verr 1) (ud (show Tryz.prog.underlying 200=some (.int .i64) from by kernel_rfl) Z) Z) ?_))))
       refine qe Z (qe Z (zi ?_))
       cases H
       exact ⟨U,.inl Z,.inl Z,U⟩
      ·refine fE h26 H fun H=>zl (ze (zb hN Z (qd Z (qd Z (wd Z Z (fun hc=>zd (.dat _) Z) (wd Z Z (fun hc=>zd (.dat _) Z) (wd Z Z (fun hc=>wg (cnd (c:=v14) hc) (cnd (c:=v14) hc)) (za (vd Z (fun hb=>(cnd (c:=v14) hb)) Z) (zf _ Z (fun h27 => ?_) (fun h27 => ?_))))))))))
       ·refine tE h27 H fun H=>zb hN Z (qd Z (za (jg Yf tyU2 Z) (gE H fun h28 H=>za (y4h Z h28) (za (ya (u':=verr 1) (ud (show Tryz.prog.underlying 200=some (.int .i64) from by kernel_rfl) Z) Z) ?_))))
        refine qe Z (qe Z (zi ?_))
        cases H
        exact ⟨U,.inl Z,.inl Z,U⟩
       ·refine fE h27 H fun H=>zl (zb hN Z (qd Z (za (jg Yf tyU2 Z) (qe Z (yb (ι:=Int) (fun i=>[(11,.dat (vint i))]) (fun i=>[]) (fun i=>z9i i=some r) (fun i=>Z) ?_ ?_)))))
        ·skip
         refine zb hN Z (qd Z (zf _ Z (fun h29 => ?_) (fun h29 => ?_)))
         ·exact tE h29 H fun H=>zn hN Z (qd Z (gE H fun h30 H=>za (y4h Z h30) (qe Z ⟨(-(IntKind.wrap .i64 r15.1)),H,⟨Z,U⟩,U⟩)))
         ·exact fE h29 H fun H=>zl ⟨IntKind.wrap .i64 r15.1,H,⟨Z,U⟩,U⟩
        ·rintro v31 H
         replace H:z9i v31=some r:=H
         unfold z9i at H
         refine zb hN Z (qd Z (qe Z (qe Z (zi ?_))))
         cases H
         exact ⟨U,.inl Z,.inl Z,U⟩
theorem w1s (v1:Bs) (r:(Int×Int)) (H:z1c v1=some r):Fn Tryz.prog 150 [vstr v1] (zu [vint r.1,verr r.2]):=by
 refine ⟨by kernel_rfl,yg (us:=[vint r.1,verr r.2]) Tryz.func150 Z Z Z Z fun X hN => ?_⟩
 unfold z1c at H
 refine zb hN Z (qe Z (qe Z (zb hN Z (qd Z (za (yz tyU9 Z) (qe Z (ze (zb hN Z (qd Z (wd (s := .dat (vint (v1.length:Int))) Z Z (fun hc=>zd (.dat _) Z) (wd (s := .dat (zh (decide (0 < (v1.length:Int))))) Z Z (fun hc=>zy Z (cnd (c:=false) (s := .dat (vint (v1.length:Int))) hc)) (wd (s := .dat (zh (decide (0 < (v1.length:Int))))) Z Z (fun hc=>zd (.dat _) (cnd (c:=false) (s := .dat (zh (decide (0 < (v1.length:Int))))) hc)) (wl (s := .dat (vint (v1.length:Int))) (c:=false) (b:=decide (0 < (v1.length:Int))) Z Z (fun hc=>zd (.dat _) Z) (wl (s := .dat (zh (decide ((v1.length:Int) < 10)))) (c:=false) (b:=decide (0 < (v1.length:Int))) Z Z (fun hc=>zy (cnd (c:=(false && (decide (0 < (v1.length:Int))))) (s := .dat (vint (v1.length:Int))) hc) Z) (wd (s := .dat (zh ((decide (0 < (v1.length:Int))) && (decide ((v1.length:Int) < 10))))) Z Z (fun hc=>vd (cnd (c:=false) (s := .dat (zh (decide (0 < (v1.length:Int))))) hc) (fun hb=>(cnd (c:=(false && (decide (0 < (v1.length:Int))))) (s := .dat (zh (decide ((v1.length:Int) < 10)))) (andI hc hb))) Z) (za (vd Z (fun hb=>(cnd (c:=false) (s := .dat (zh ((decide (0 < (v1.length:Int))) && (decide ((v1.length:Int) < 10))))) hb)) Z) (qd Z (yl (s := .dat (zh true)) Z Z (fun hc=>zd (.dat _) Z) (wl (s := .dat (vint (v1.length:Int))) (c:=(!(false && ((decide (0 < (v1.length:Int))) && (decide ((v1.length:Int) < 10)))))) (b:=true) Z Z (fun hc=>zd (.dat _) Z) (wl (s := .dat (zh (decide (0 < (v1.length:Int))))) (c:=(!(false && ((decide (0 < (v1.length:Int))) && (decide ((v1.length:Int) < 10)))))) (b:=true) Z Z (fun hc=>zy Z (cnd (c:=((!(false && ((decide (0 < (v1.length:Int))) && (decide ((v1.length:Int) < 10))))) && true)) (s := .dat (vint (v1.length:Int))) hc)) (wl (s := .dat (zh (decide (0 < (v1.length:Int))))) (c:=(!(false && ((decide (0 < (v1.length:Int))) && (decide ((v1.length:Int) < 10)))))) (b:=true) Z Z (fun hc=>zd (.dat _) (cnd (c:=((!(false && ((decide (0 < (v1.length:Int))) && (decide ((v1.length:Int) < 10))))) && true)) (s := .dat (zh (decide (0 < (v1.length:Int))))) hc)) (wl (s := .dat (vint (v1.length:Int))) (c:=((!(false && ((decide (0 < (v1.length:Int))) && (decide ((v1.length:Int) < 10))))) && true)) (b:=decide (0 < (v1.length:Int))) Z Z (fun hc=>zd (.dat _) Z) (wl (s := .dat (zh (decide ((v1.length:Int) < 19)))) (c:=((!(false && ((decide (0 < (v1.length:Int))) && (decide ((v1.length:Int) < 10))))) && true)) (b:=decide (0 < (v1.length:Int))) Z Z (fun hc=>zy (cnd (c:=(((!(false && ((decide (0 < (v1.length:Int))) && (decide ((v1.length:Int) < 10))))) && true) && (decide (0 < (v1.length:Int))))) (s := .dat (vint (v1.length:Int))) hc) Z) ?_)))))))))))))))))))))))
 refine wl (s := .dat (zh ((decide (0 < (v1.length:Int))) && (decide ((v1.length:Int) < 19))))) (c:=(!(false && ((decide (0 < (v1.length:Int))) && (decide ((v1.length:Int) < 10)))))) (b:=true) Z Z (fun hc=>vd (cnd (c:=((!(false && ((decide (0 < (v1.length:Int))) && (decide ((v1.length:Int) < 10))))) && true)) (s := .dat (zh (decide (0 < (v1.length:Int))))) hc) (fun hb=>(cnd (c:=(((!(false && ((decide (0 < (v1.length:Int))) && (decide ((v1.length:Int) < 10))))) && true) && (decide (0 < (v1.length:Int))))) (s := .dat (zh (decide ((v1.length:Int) < 19)))) (andI hc hb))) Z) (yl (s := .dat (zh (true && ((decide (0 < (v1.length:Int))) && (decide ((v1.length:Int) < 19)))))) Z Z (fun hc=>vd (cnd (c:=(!(false && ((decide (0 < (v1.length:Int))) && (decide ((v1.length:Int) < 10)))))) (s := .dat (zh true)) hc) (fun hb=>(cnd (c:=((!(false && ((decide (0 < (v1.length:Int))) && (decide ((v1.length:Int) < 10))))) && true)) (s := .dat (zh ((decide (0 < (v1.length:Int))) && (decide ((v1.length:Int) < 19))))) (andI hc hb))) Z) (za (ww Z Z (fun hb=>(cnd (c:=(!(false && ((decide (0 < (v1.length:Int))) && (decide ((v1.length:Int) < 10)))))) (s := .dat (zh (true && ((decide (0 < (v1.length:Int))) && (decide ((v1.length:Int) < 19)))))) (notI hb)))) (zf _ Z (fun h2 => ?_) (fun h2 => ?_))))
 ·refine tE h2 H fun H=>zb hN Z (qd Z (qe Z (yb (ι:=Bs) (fun i=>[(0,.dat (vstr i)),(5,.dat (vstr v1))]) (fun i=>[]) (fun i=>z1q v1 i=some r) (fun i=>Z) ?_ ?_)))
  ·skip
   refine yb (ι:=Bool) (fun i=>[(0,.dat (vstr v1)),(5,.dat (vstr v1)),(39,.dat (zh i))]) (fun i=>[]) (fun i=>z1p v1 i=some r) (fun i=>Z) ?_ ?_
   ·skip
    refine zn hN Z (qd Z (bE H fun x3 h4 H=>za (wb tyU9 Z Z h4) (za (ql Z Z) (qd Z (yi (j:=3) Z Z (fun h5 => ?_) (fun h5 => ?_) Z)))))
    ·exact u3 h5 H fun h6 H=>zg Z Z h5 (zd (.dat _) Z) (zg Z Z h5 (wb tyU9 Z Z h4) (zg Z Z h5 (ql Z Z) (za (ye Z (bFF h6) Z) ⟨decide ((x3.toNat:Int)=43),H,⟨Z,Z,Z,U⟩,U⟩)))
    ·exact u4 h5 H fun h7 H=>zc Z Z h5 (zc Z Z h5 (zc Z Z h5 (za (yh Z (bTT h7) Z) ⟨true,H,⟨Z,Z,Z,U⟩,U⟩)))
   ·rintro v8 H
    replace H:z1p v1 v8=some r:=H
    unfold z1p at H
    refine zf _ Z (fun h9 => ?_) (fun h9 => ?_)
    ·refine tE h9 H fun H=>zb hN Z (qd Z (bE H fun l10 h11 H=>za (vy tyU9 Z Z Z h11) (qe Z (zb hN Z (qd Z (za (yz tyU9 Z) (za (zy Z Z) (zf _ Z (fun h12 => ?_) (fun h12 => ?_)))))))))
     ·refine tE h12 H fun H=>zb hN Z (za (ya (u':=verr 2) (ud (show Tryz.prog.underlying 200=some (.int .i64) from by kernel_rfl) Z) Z) ?_)
      refine qe Z (qe Z (zi ?_))
      cases H
      exact ⟨U,.inl Z,.inl Z,U⟩
     ·exact fE h12 H fun H=>zl ⟨l10,H,⟨Z,Z,U⟩,U⟩
    ·exact fE h9 H fun H=>zl ⟨v1,H,⟨Z,Z,U⟩,U⟩
  ·rintro v13 H
   replace H:z1q v1 v13=some r:=H
   unfold z1q at H
   refine zb hN Z (qe Z (ze (zb hN Z (qd Z (za (y9m (C:=qn) tyU9 Qm tyU5 (fun _=>Z) Z) (za (qi Qm Z) (qd Z (zx (gE H fun h17 H=>qv (fun (k15:Nat) (s:Int)=>[(5,.dat (vstr v1)),(6,.dat (vint s)),(47,.dat (vlst (List.map qn (yn v13)))),(48,.dat (vint ((yn v13).length:Int))),(49,.dat (vint (k15:Int)))]) (fun (k15:Nat) (s:Int)=>[]) 0 H ⟨Z,Z,Z,Z,Z,U⟩ U (fun _ _=>Z) ?_ ?_)))))))))
   ·rintro v14 H
    replace H:z1r v1 v14=some r:=H
    unfold z1r at H
    refine zb hN Z (za (zy Z Z) (ze (zf _ Z (fun h=>(lt_t h).elim) (fun h => ?_))))
    refine yr (yb (ι:=Int) (fun i=>[(6,.dat (vint i))]) (fun i=>[]) (fun i=>z1o i=some r) (fun i=>Z) ?_ ?_)
    ·skip
     refine zb hN Z (qd Z (bE H fun x19 h20 H=>za (wb tyU9 Z Z h20) (za (ql Z Z) (zf _ Z (fun h21 => ?_) (fun h21 => ?_)))))
     ·exact tE h21 H fun H=>zn hN Z (qd Z (gE H fun h22 H=>za (y4h Z h22) (qe Z ⟨(-v14),H,⟨Z,U⟩,U⟩)))
     ·exact fE h21 H fun H=>zl ⟨v14,H,⟨Z,U⟩,U⟩
    ·rintro v23 H
     replace H:z1o v23=some r:=H
     unfold z1o at H
     refine zb hN Z (qd Z (qe Z (qe Z (zi ?_))))
     cases H
     exact ⟨U,.inl Z,.inl Z,U⟩
   ·rintro k15 x18 v14 q16 h24 h25 H hq16
    replace H:z5g k15 x18 v14=some q16:=H
    unfold z5g at H
    refine zb hN Z (za (zy Z Z) (ze (zf _ Z (fun h => ?_) (fun h=>(lt_f h24 h).elim))))
    refine zl (ze (zx (zb hN Z (za (wc y82 (fun _=>Z) Z Z h25) (za (qz tyS5 Z (qk h25) Z) (qe Z (zb hN Z (qd Z (za (yj _ Z Z (.inr (.inl ⟨Z,Z⟩))) (qe Z (ze (zb hN Z (qd Z (za (wg Z Z) (zf _ Z (fun h26 => ?_) (fun h26 => ?_))))))))))))))))
    ·refine tE h26 H fun H=>zb hN Z (za (ya (u':=verr 2) (ud (show Tryz.prog.underlying 200=some (.int .i64) from by kernel_rfl) Z) Z) ?_)
     refine qe Z (qe Z (zi ?_))
     replace H:=retl H hq16
     cases H
     exact ⟨U,.inl Z,.inl Z,U⟩
    ·exact fE h26 H fun H=>zl (zn hN Z (qd Z (za (yj _ Z Z (.inr (.inr ⟨Z,Z⟩))) (qd Z (za (jg tyU5 tyU3 Z) (za (yj _ Z Z (.inl ⟨Z,Z⟩)) (qe Z (zn hN Z (za (qo Z Z (by omega)) (qd Z ⟨_,yx H,⟨Z,Z,Z,Z,Z,U⟩,U⟩))))))))))
 ·refine fE h2 H fun H=>zl (zb hN Z (qd Z (bE H fun r27 h28 H=>za (zk (w1r v1 10 0 r27 h28) ⟨.inl Z,.inl Z,.inl Z,U⟩) (qd Z (za (zz Z Z) (za (zz Z Z) (qe Z (qe Z (zb hN Z (qd Z (qd Z (qe Z (qe Z (zi ?_))))))))))))))
  cases H
  exact ⟨U,.inl Z,.inl Z,U⟩
theorem x1j (fn s:Bs) (base bits e r:Int) (H:y5w fn s base bits e=some r):Fn Tryz.prog 151 [vstr fn,vstr s,vint base,vint bits,verr e] (zu [verr r]):=by
 obtain ⟨⟨h1,h2,h3⟩,h4⟩:=gif H
 cases h4
 refine Ze (by kernel_rfl) fun M w vs hM h => ?_
 rcases h3 with rfl | rfl
 ·have hv:=kk (us:=[.string ⟨fn.toArray⟩,.string ⟨s.toArray⟩,.int .i64 base,.int .i64 bits,.iface 200 (.int .i64 2)]) h
  subst hv
  obtain ⟨tp,p,hc⟩:=w5e hM
  refine (Tryz.strconv_toError_syntax ⟨fn.toArray⟩ ⟨s.toArray⟩ base bits (.iface tp p) w (by simp [ByteArray.size]; omega) hc (.inr ⟨tp,p,Z⟩)).mono ?_
  rintro e w' ⟨N,rfl,_,_,hb⟩
  exact ⟨_,Z,⟨_,_,Z⟩,Kp.of_below hb⟩
 ·have hv:=kk (us:=[.string ⟨fn.toArray⟩,.string ⟨s.toArray⟩,.int .i64 base,.int .i64 bits,.iface 200 (.int .i64 1)]) h
  subst hv
  obtain ⟨tp,p,hc⟩:=w5f hM
  refine (Tryz.strconv_toError_range ⟨fn.toArray⟩ ⟨s.toArray⟩ base bits (.iface tp p) w (by simp [ByteArray.size]; omega) hc (.inr ⟨tp,p,Z⟩)).mono ?_
  rintro e w' ⟨N,rfl,_,_,hb⟩
  exact ⟨_,Z,⟨_,_,Z⟩,Kp.of_below hb⟩
end Go.Proofs.YtmdllhcjefcggacGreatDoor
