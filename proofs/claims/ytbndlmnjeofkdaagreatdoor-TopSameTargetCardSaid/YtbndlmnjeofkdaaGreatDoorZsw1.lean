/- Walks along the models. Printed by a program. -/
import Derived.Test.YtbndlmnjeofkdaaGreatDoorZsc
namespace Go.Proofs.YtbndlmnjeofkdaaGreatDoor
open Go.RowKit
set_option linter.unusedVariables false
set_option maxRecDepth 100000
set_option maxHeartbeats 2000000
theorem y4u (x1:Int) (n2:Int) (r:(Int)) (H:z0k x1 n2=some r):Fn Tryz.prog 90 [vint x1,vint n2] (zt [vint r]):=by
 refine ⟨by kernel_rfl,yf (us:=[vint r]) Tryz.func90 Z Z Z Z fun X hN => ?_⟩
 unfold z0k at H
 refine zb hN Z (qe Z (zf (zb hN Z (qd Z (za (zy Z Z) (zg _ Z (fun h3 => ?_) (fun h3 => ?_)))))))
 ·refine tE h3 H fun H=>zb hN Z (qe Z (zi ?_))
  cases H
  exact ⟨U,.inl Z,U⟩
 ·refine fE h3 H fun H=>zl (zb hN Z (qd Z (qd Z (gE H fun h4 H=>za (y7i Z Z h4) (qe Z (yc (ι:=Int) (fun i=>[(0,.dat (vint i))]) (fun i=>[]) (fun i=>z4p i=some r) (fun i=>Z) ?_ ?_))))))
  ·skip
   refine zb hN Z (qd Z (za (zy Z Z) (zg _ Z (fun h5 => ?_) (fun h5 => ?_))))
   ·exact tE h5 H fun H=>zp hN Z (qd Z (qd Z (za (yk _ Z Z (.inl ⟨Z,Z⟩)) (qe Z ⟨wr ((Int.tmod x1 n2)+n2),H,⟨Z,U⟩,U⟩))))
   ·exact fE h5 H fun H=>zl ⟨(Int.tmod x1 n2),H,⟨Z,U⟩,U⟩
  ·rintro x6 H
   replace H:z4p x6=some r:=H
   unfold z4p at H
   refine zb hN Z (qd Z (qe Z (zi ?_)))
   cases H
   exact ⟨U,.inl Z,U⟩
theorem xq (s1:zn) (n2:Int) (r:(Int×zn)) (H:ko s1 n2=some r):Imp Tryz.prog 40 25 (qa s1) [vint n2] (zt [vint r.1]) (qa r.2):=by
 refine jm (us:=[vint r.1]) (cs':=(qa r.2)) (by kernel_rfl) Tryz.func40 Z Z Z Z fun X bl hN => ?_
 unfold ko at H
 refine zb hN Z (qe Z (zb hN Z (za (zd (.ptr _ _) Z) (za (ji Z) (za (zw z5e Z) (zr (ye tyS3 Z Z) Z (za (yk _ Z Z (.inl ⟨Z,Z⟩)) (za (ji Z) (za (zw z5e Z) (zk (jt tyS3 Z Z Z Z) Z (zf (zb hN Z (za (zd (.ptr _ _) Z) (za (ji Z) (za (zw z8u Z) (zr (ye z8n Z Z) Z (za (qf z8k Z) (za (yu Z Z) (zg _ Z (fun h3 => ?_) (fun h3 => ?_))))))))))))))))))))
 ·refine tE h3 H fun H=>zb hN Z (za (zd (.ptr _ _) Z) (za (ji Z) (za (zw z5e Z) (zr (ye tyS3 Z Z) Z (za (yk _ Z Z (.inr (.inr ⟨Z,Z⟩))) (qd Z (bE H fun r4 h5 H=>za (zm (y4u (wr ((wr (s1.at_+1)) * 7919)) n2 r4 h5) ⟨.inl Z,.inl Z,U⟩) (qe Z (zi ?_)))))))))
  cases H
  exact ⟨U,⟨.inl Z,U⟩,Z⟩
 ·refine fE h3 H fun H=>zl (zf (vi mixed hN Z Z (za (zd (.ptr _ _) Z) (za (ji Z) (za (zw z5e Z) (zr (ye tyS3 Z Z) Z (za (yk _ Z Z (.inr (.inl ⟨Z,Z⟩))) (za (zd (.ptr _ _) Z) (za (ji Z) (za (zw z8u Z) (zr (ye z8n Z Z) Z (za (qf z8k Z) (gE H fun h6 H=>za (y7i Z Z h6) (qe Z ⟨Z,?_⟩))))))))))))))
  refine zf (vi mixed hN Z Z (za (zd (.ptr _ _) Z) (za (ji Z) (za (zw z5e Z) (zr (ye tyS3 Z Z) Z (za (yk _ Z Z (.inr (.inl ⟨Z,Z⟩))) (za (zd (.ptr _ _) Z) (za (ji Z) (za (zw z8u Z) (zr (ye z8n Z Z) Z (za (qf z8k Z) (gE H fun h7 H=>za (x55 Z Z h7.1 h7.2) (qe Z ⟨Z,?_⟩)))))))))))))
  refine zb hN Z (za (zd (.ptr _ _) Z) (za (ji Z) (za (zw z8u Z) (zr (ye z8n Z Z) Z (qd Z (bE H fun x8 h9 H=>za (kw Yj (fun _=>Z) Z Z h9) (za (qz tyS3 Z (qg (wo h9).2) Z) (bE H fun r10 h11 H=>za (zm (y4u x8 1073741824 r10 h11) ⟨.inl Z,.inl Z,U⟩) (qd Z (qd Z (za (yk _ Z Z (.inl ⟨Z,Z⟩)) (za (yk _ Z Z (.inr (.inr ⟨Z,Z⟩))) (za (yk _ Z Z (.inl ⟨Z,Z⟩)) (qd Z (bE H fun r12 h13 H=>za (zm (y4u (wr (r10+(wr (((wr ((wr (s1.at_+1)) - 1)) / (s1.L.length:Int)) * (wr (7919+(Int.tmod (wr ((wr (s1.at_+1)) - 1)) (s1.L.length:Int)))))))) n2 r12 h13) ⟨.inl Z,.inl Z,U⟩) (qe Z (zi ?_)))))))))))))))))
  cases H
  exact ⟨U,⟨.inl Z,U⟩,Z⟩
theorem vp (s1:zn) (l2:(List Bs)) (r:(Bs×zn)) (H:wt s1 l2=some r):Imp Tryz.prog 11 25 (qa s1) [vlst (List.map zq l2)] (zt [vstr r.1]) (qa r.2):=by
 refine jm (us:=[vstr r.1]) (cs':=(qa r.2)) (by kernel_rfl) Tryz.func11 Z Z Z Z fun X bl hN => ?_
 unfold wt at H
 refine zb hN Z (qe Z (zb hN Z (qd Z (za (zd (.ptr _ _) Z) (qd Z (za (qf wm Z) (bE H fun r3 h4 H=>zk (yi (xq s1 (l2.length:Int) r3 h4) Z ⟨.inl Z,U⟩ Z) Z (bE H fun x5 h6 H=>za (kw vm (fun _=>Z) Z Z h6) (za (qz tyS9 Z (qg (wo h6).2) Z) (qe Z (zi ?_)))))))))))
 cases H
 exact ⟨U,⟨.inl Z,U⟩,Z⟩
theorem jc (s1:zn) (n2:Int) (r:(Bool×zn)) (H:vg s1 n2=some r):Imp Tryz.prog 12 25 (qa s1) [vint n2] (zt [zh r.1]) (qa r.2):=by
 refine jm (us:=[zh r.1]) (cs':=(qa r.2)) (by kernel_rfl) Tryz.func12 Z Z Z Z fun X bl hN => ?_
 unfold vg at H
 refine zb hN Z (qe Z (zb hN Z (za (zd (.ptr _ _) Z) (qd Z (bE H fun r3 h4 H=>zk (yi (xq s1 n2 r3 h4) Z ⟨.inl Z,U⟩ Z) Z (za (yu Z Z) (qe Z (zi ?_))))))))
 cases H
 exact ⟨U,⟨.inl Z,U⟩,Z⟩
theorem z7f (s1:zn) (low2:Int) (high3:Int) (r:(Int×zn)) (H:Zv s1 low2 high3=some r):Imp Tryz.prog 42 25 (qa s1) [vint low2,vint high3] (zt [vint r.1]) (qa r.2):=by
 refine jm (us:=[vint r.1]) (cs':=(qa r.2)) (by kernel_rfl) Tryz.func42 Z Z Z Z fun X bl hN => ?_
 unfold Zv at H
 refine zb hN Z (qe Z (zf (zb hN Z (qd Z (qd Z (za (zy Z Z) (zg _ Z (fun h4 => ?_) (fun h4 => ?_))))))))
 ·refine tE h4 H fun H=>zb hN Z (qd Z (qe Z (zi ?_)))
  cases H
  exact ⟨U,⟨.inl Z,U⟩,Z⟩
 ·refine fE h4 H fun H=>zl (zb hN Z (qd Z (za (zd (.ptr _ _) Z) (qd Z (qd Z (za (yk _ Z Z (.inr (.inl ⟨Z,Z⟩))) (za (yk _ Z Z (.inl ⟨Z,Z⟩)) (bE H fun r5 h6 H=>zk (yi (xq s1 (wr ((wr (high3 - low2))+1)) r5 h6) Z ⟨.inl Z,U⟩ Z) Z (za (yk _ Z Z (.inl ⟨Z,Z⟩)) (qe Z (zi ?_)))))))))))
  cases H
  exact ⟨U,⟨.inl Z,U⟩,Z⟩
theorem y0h (l:List Bs) (sep r:Bs) (H:vu l sep=some r):Fn Tryz.prog 54 [vlst (List.map zq l),vstr sep] (zt [vstr r]):=by
 obtain ⟨h1,h2,rfl⟩:=w11 H
 refine xw (by kernel_rfl) fun M w vs hM h => ?_
 obtain ⟨hl,hv⟩:=h
 obtain ⟨a,ha,hap⟩:=hv 0 _ rfl
 obtain ⟨s,hs,hsp⟩:=hv 1 _ rfl
 have hsp:s = .string ⟨sep.toArray⟩:=hsp
 subst hsp
 have hvs:vs.toArray = #[a,.string ⟨sep.toArray⟩]:=by
  rcases vs with _ | ⟨x,_ | ⟨y,_ | ⟨z,t⟩⟩⟩
  ·cases ha
  ·cases hs
  ·cases ha; cases hs; rfl
  ·simp at hl
 rw [hvs]
 obtain ⟨A,c,q1,q2,q3⟩:=hap
 simp only [List.length_map] at q1 q2
 subst q1
 by_cases hne:l=[]
 ·subst hne
  refine (Tryz.strings_Join_none A c ⟨sep.toArray⟩ w).mono ?_
  rintro e w' ⟨rfl,rfl⟩
  exact ⟨_,Z,Z,Kp.refl _ _⟩
 ·obtain ⟨b,off,size,rfl,hMb,arr,t,fz,q5,q6,q7⟩:=q3 (by simpa using hne)
  have hsz:size=1:=by
   cases hq:l with
   | nil=>exact absurd hq hne
   | cons x l'=>have:=q6 (zq x) (by rw [hq]; simp); simpa using this.symm
  subst hsz
  have e1:((l.map fun x=>ByteArray.mk x.toArray).map (·.data.toList))=l:=by
   rw [List.map_map]
   exact (List.map_congr_left fun x _=>Z).trans (List.map_id l)
  have hj:=Tryz.strings_Join b off c (l.map fun x=>ByteArray.mk x.toArray) ⟨sep.toArray⟩ w (fun j x hx=>by
   rw [List.getElem?_map] at hx
   cases hq:l[j]? with
   | none=>rw [hq] at hx; cases hx
   | some y =>
    rw [hq] at hx
    cases hx
    obtain ⟨v,r1,r2,_⟩:=q7 j 0 (zq y) (vstr y) (by rw [List.getElem?_map,hq]; rfl) rfl
    have r2:v = .string ⟨y.toArray⟩:=r2
    rw [cell_of_row w b _ _ _ _ q5]
    simp only [Nat.mul_one,Nat.add_zero] at r1
    rw [r1,r2]) (Qf q5) (by simp; omega) (by simpa using q2) (by rw [e1]; simp only; omega)
  rw [List.length_map,e1] at hj
  refine hj.mono ?_
  rintro e w' ⟨rfl,hb⟩
  exact ⟨_,Z,Z,Kp.of_below hb⟩
theorem z0r (s1:zn) (many2:Int) (between3:Bs) (l4:(List Bs)) (r:(Bs×zn)) (H:ke s1 many2 between3 l4=some r):Imp Tryz.prog 41 25 (qa s1) [vint many2,vstr between3,vlst (List.map zq l4)] (zt [vstr r.1]) (qa r.2):=by
 refine jm (us:=[vstr r.1]) (cs':=(qa r.2)) (by kernel_rfl) Tryz.func41 Z Z Z Z fun X bl hN => ?_
 unfold ke at H
 refine zb hN Z (qe Z (zb hN Z (qe Z (zf (zb hN Z (qd Z (qd Z (zx (jo 9 1 9 1 Z Z Z (gE H fun h10 H=>z1r (fun (k8:Nat) (s:(List Int)×Int×(List Bs))=>[(0,.ptr 0 0),(2,.dat (vstr between3)),(3,.dat (vlst (List.map zq l4))),(9,.row 1 s.2.2.length),(10,.dat (vint many2)),(11,.dat (vint (k8:Int)))]) (fun (k8:Nat) (s:(List Int)×Int×(List Bs))=>[(0,.box (some bl) 25 [.dat (vlst (List.map qk s.1)),.dat (vint s.2.1)]),(1,.row 9 1 (List.map zq s.2.2))]) (s1.L,s1.at_,[]) H ⟨Z,Z,Z,Z,Z,Z,U⟩ ⟨Z,Z,U⟩ (fun _ _=>Z) ?_ ?_))))))))))
 ·rintro ⟨c5,c6,l7⟩ H
  replace H:z4l between3 c5 c6 l7=some r:=H
  unfold z4l at H
  refine zb hN Z (za (zy Z Z) (zf (zg _ Z (fun h=>(y38 h).elim) (fun h => ?_))))
  refine yt (zf (z18 9 1 Z Z Z (zp hN Z (qd Z (qd Z (bE H fun r11 h12 H=>za (zm (y0h l7 between3 r11 h12) ⟨.inl Z,.inl Z,U⟩) (qe Z (zi ?_))))))))
  cases H
  exact ⟨U,⟨.inl Z,U⟩,Z⟩
 ·rintro k8 ⟨c5,c6,l7⟩ q9 h13 H hq9
  replace H:z4k l4 k8 c5 c6 l7=some q9:=H
  unfold z4k at H
  refine zb hN Z (za (zy Z Z) (zf (zg _ Z (fun h => ?_) (fun h=>(y39 h13 h).elim))))
  refine zl (zf (zx (zp hN Z (za (zd (.row _ _) Z) (za (zd (.ptr _ _) Z) (qd Z (bE H fun r14 h15 H=>zk (yi (vp (zn.mk c5 c6) l4 r14 h15) Z ⟨.inl Z,U⟩ Z) Z (za (yb (u':=vlst (List.map zq [r14.1])) (yo [[_]] yq ⟨Z,.inl ⟨_,Z,Z,Z⟩,Z,U⟩ Z Z) Z) (gE H fun h16 H=>zk (je yq (fun _=>Z) Z Z Z ⟨by simp,by first | (simp; done) | simpa using h16⟩ Z) Z ?_)))))))))
  exact za (qr (.row _ _) Z) (zp hN Z (za (qj Z Z (by omega)) (qd Z ⟨_,yx H,⟨Z,Z,Z,Z,Z,Z,U⟩,⟨Z,Z,U⟩⟩)))
theorem w1p (s1:zn) (r:(Bs×zn)) (H:z61 s1=some r):Imp Tryz.prog 13 25 (qa s1) [] (zt [vstr r.1]) (qa r.2):=by
 refine jm (us:=[vstr r.1]) (cs':=(qa r.2)) (by kernel_rfl) Tryz.func13 Z Z Z Z fun X bl hN => ?_
 unfold z61 at H
 refine zb hN Z (qe Z (zb hN Z (za (zd (.ptr _ _) Z) (za (zd (.ptr _ _) Z) (bE H fun r2 h3 H=>zk (yi (z7f s1 1 2 r2 h3) Z ⟨.inl Z,.inl Z,U⟩ Z) Z (za (yb (u':=vlst (List.map zq [[109,97,120,45,97,103,101,61,51,48],[109,97,120,45,97,103,101,61,48],[109,105,110,45,102,114,101,115,104,61,50,48],[109,97,120,45,115,116,97,108,101,61,49,53],[110,111,45,99,97,99,104,101],[111,110,108,121,45,105,102,45,99,97,99,104,101,100],[109,97,120,45,115,116,97,108,101,61,49,48,48,48],[110,111,45,115,116,111,114,101]])) (yo [[_],[_],[_],[_],[_],[_],[_],[_]] yq ⟨Z,.inl ⟨_,Z,Z,Z⟩,Z,Z,.inl ⟨_,Z,Z,Z⟩,Z,Z,.inl ⟨_,Z,Z,Z⟩,Z,Z,.inl ⟨_,Z,Z,Z⟩,Z,Z,.inl ⟨_,Z,Z,Z⟩,Z,Z,.inl ⟨_,Z,Z,Z⟩,Z,Z,.inl ⟨_,Z,Z,Z⟩,Z,Z,.inl ⟨_,Z,Z,Z⟩,Z,U⟩ Z Z) Z) (bE H fun r4 h5 H=>zk (yi (z0r r2.2 r2.1 [44,32] ([[109,97,120,45,97,103,101,61,51,48],[109,97,120,45,97,103,101,61,48],[109,105,110,45,102,114,101,115,104,61,50,48],[109,97,120,45,115,116,97,108,101,61,49,53],[110,111,45,99,97,99,104,101],[111,110,108,121,45,105,102,45,99,97,99,104,101,100],[109,97,120,45,115,116,97,108,101,61,49,48,48,48],[110,111,45,115,116,111,114,101]]) r4 h5) Z ⟨.inl Z,.inl Z,.inl Z,U⟩ Z) Z (qe Z (yc (ι:=Bs×(List Int)×Int) (fun i=>[(3,.dat (vstr i.1))]) (fun i=>[(0,.box (some bl) 25 [.dat (vlst (List.map qk i.2.1)),.dat (vint i.2.2)])]) (fun i=>z4o i.1 i.2.1 i.2.2=some r) (fun i=>Z) ?_ ?_)))))))))
 ·skip
  refine zb hN Z (za (zd (.ptr _ _) Z) (bE H fun r6 h7 H=>zk (yi (jc r4.2 20 r6 h7) Z ⟨.inl Z,U⟩ Z) Z (zg _ Z (fun h8 => ?_) (fun h8 => ?_))))
  ·exact tE h8 H fun H=>zp hN Z (za (zd (.ptr _ _) Z) (za (yb (u':=vlst (List.map zq [[109,97,120,45,115,116,97,108,101],[109,105,110,45,102,114,101,115,104,61,120]])) (yo [[_],[_]] yq ⟨Z,.inl ⟨_,Z,Z,Z⟩,Z,Z,.inl ⟨_,Z,Z,Z⟩,Z,U⟩ Z Z) Z) (bE H fun r9 h10 H=>zk (yi (vp r6.2 ([[109,97,120,45,115,116,97,108,101],[109,105,110,45,102,114,101,115,104,61,120]]) r9 h10) Z ⟨.inl Z,U⟩ Z) Z (qe Z ⟨(r9.1,r9.2.L,r9.2.at_),H,⟨Z,U⟩,⟨Z,U⟩⟩))))
  ·exact fE h8 H fun H=>zl ⟨(r4.1,r6.2.L,r6.2.at_),H,⟨Z,U⟩,⟨Z,U⟩⟩
 ·rintro ⟨t11,c12,c13⟩ H
  replace H:z4o t11 c12 c13=some r:=H
  unfold z4o at H
  refine zb hN Z (qd Z (qe Z (zi ?_)))
  cases H
  exact ⟨U,⟨.inl Z,U⟩,Z⟩
theorem y4f (s:Bs) (n:Int) (r:Bs) (H:Ys s n=some r):Fn Tryz.prog 43 [vstr s,vint n] (zt [vstr r]):=by
 obtain ⟨h0,h1,h2,rfl⟩:=x74 H
 obtain ⟨c,rfl⟩:=Int.eq_ofNat_of_zero_le h0
 refine y1f (by kernel_rfl) fun M w vs h => ?_
 have hv:=kg (us:=[.string ⟨s.toArray⟩,.int .i64 c]) h
 subst hv
 have hs:(ByteArray.mk s.toArray).size=s.length:=by simp [ByteArray.size]
 refine (Tryz.strings_Repeat ⟨s.toArray⟩ c w (by omega) (by rw [hs]; exact Nat.le_trans (Nat.mul_le_mul h2 (show c≤1000000 by omega)) (by decide))).mono ?_
 rintro e w' ⟨rfl,hb⟩
 exact ⟨_,Z,by simp [zt,vstr,vval],Kp.of_below hb⟩
theorem w1n (s1:zn) (t2:Bs) (v3:Bs) (r:(Bs×zn)) (H:z6z s1 t2 v3=some r):Imp Tryz.prog 44 25 (qa s1) [vstr t2,vstr v3] (zt [vstr r.1]) (qa r.2):=by
 refine jm (us:=[vstr r.1]) (cs':=(qa r.2)) (by kernel_rfl) Tryz.func44 Z Z Z Z fun X bl hN => ?_
 unfold z6z at H
 refine zb hN Z (qe Z (zf (zb hN Z (qd Z (za (va Z Z) (qd Z (yv Z Z (fun hc=>zd (.dat _) Z) (yv Z Z (fun hc=>va (cnd (c:=(!(decide (t2=[])))) hc) Z) (za (vr Z Z (fun hb=>(cnd (c:=(!(decide (t2=[])))) (notI hb)))) (zg _ Z (fun h4 => ?_) (fun h4 => ?_)))))))))))
 ·refine tE h4 H fun H=>zb hN Z (qd Z (qe Z (zi ?_)))
  cases H
  exact ⟨U,⟨.inl Z,U⟩,Z⟩
 ·refine fE h4 H fun H=>zl (zb hN Z (za (zd (.ptr _ _) Z) (qd Z (za (yw tyU9 Z) (bE H fun r5 h6 H=>zk (yi (xq s1 (t2.length:Int) r5 h6) Z ⟨.inl Z,U⟩ Z) Z (qe Z (zb hN Z (qd Z (za (zd (.ptr _ _) Z) (qd Z (za (yw tyU9 Z) (bE H fun r7 h8 H=>zk (yi (xq r5.2 (v3.length:Int) r7 h8) Z ⟨.inl Z,U⟩ Z) Z (bE H fun x9 h10 H=>za (jh tyU9 Z Z h10) (qe Z (zf (zb hN Z (za (zd (.ptr _ _) Z) (bE H fun r11 h12 H=>zk (yi (xq r7.2 3 r11 h12) Z ⟨.inl Z,U⟩ Z) Z ?_))))))))))))))))))
  refine zx (zb hN Z (za (yu Z Z) (qe Z (zg _ Z (fun h13 => ?_) (fun h13 => ?_)))))
  ·refine tE h13 H fun H=>zf (vi mixed hN Z Z (qd Z (qd Z (bE H fun l14 h15 H=>za (vz tyU9 Z Z Z h15) (qd Z (za (ja tyU5 z8l Z) (za (y7w z8l Z tyU9 Z) (gE H fun h16 H=>za (kk Z Z (Nat.le_trans h16 (by decide))) (qd Z (qd Z (za (yk _ Z Z (.inl ⟨Z,Z⟩)) (bE H fun l17 h18 H=>za (vz tyU9 Z Z Z h18) (gE H fun h19 H=>za (kk Z Z (Nat.le_trans h19 (by decide))) (qe Z ⟨Z,?_⟩))))))))))))))
   refine zi ?_
   cases H
   exact ⟨U,⟨.inl Z,U⟩,Z⟩
  ·refine fE h13 H fun H=>zb hN Z (za (yu Z Z) (qe Z (zg _ Z (fun h20 => ?_) (fun h20 => ?_))))
   ·refine tE h20 H fun H=>zf (vi mixed hN Z Z (qd Z (qd Z (bE H fun l21 h22 H=>za (vz tyU9 Z Z Z h22) (qd Z (za (ja tyU5 z8l Z) (za (y7w z8l Z tyU9 Z) (gE H fun h23 H=>za (kk Z Z (Nat.le_trans h23 (by decide))) (qd Z (qd Z (bE H fun l24 h25 H=>za (vz tyU9 Z Z Z h25) (gE H fun h26 H=>za (kk Z Z (Nat.le_trans h26 (by decide))) (qe Z ⟨Z,?_⟩)))))))))))))
    refine zi ?_
    cases H
    exact ⟨U,⟨.inl Z,U⟩,Z⟩
   ·refine fE h20 H fun H=>zl (zf (vi mixed hN Z Z (qd Z (qd Z (bE H fun l27 h28 H=>za (vz tyU9 Z Z Z h28) (qd Z (qd Z (za (yk _ Z Z (.inl ⟨Z,Z⟩)) (bE H fun l29 h30 H=>za (vz tyU9 Z Z Z h30) (gE H fun h31 H=>za (kk Z Z (Nat.le_trans h31 (by decide))) (qe Z ⟨Z,?_⟩)))))))))))
    refine zi ?_
    cases H
    exact ⟨U,⟨.inl Z,U⟩,Z⟩
theorem w1j (s1:zn) (r:(Bs×zn)) (H:z6v s1=some r):Imp Tryz.prog 14 25 (qa s1) [] (zt [vstr r.1]) (qa r.2):=by
 refine jm (us:=[vstr r.1]) (cs':=(qa r.2)) (by kernel_rfl) Tryz.func14 Z Z Z Z fun X bl hN => ?_
 unfold z6v at H
 refine zb hN Z (qe Z (zb hN Z (za (zd (.ptr _ _) Z) (za (zd (.ptr _ _) Z) (bE H fun r2 h3 H=>zk (yi (z7f s1 0 4 r2 h3) Z ⟨.inl Z,.inl Z,U⟩ Z) Z (za (yb (u':=vlst (List.map zq [[97],[98],[37,52,49],[37,50,102],[37,55,101],[46],[46,46],[],[120,59,121],[99,37,50,48,100],[37,99,51,37,97,52],[65],[97,46,98],[126]])) (yo [[_],[_],[_],[_],[_],[_],[_],[_],[_],[_],[_],[_],[_],[_]] yq ⟨Z,.inl ⟨_,Z,Z,Z⟩,Z,Z,.inl ⟨_,Z,Z,Z⟩,Z,Z,.inl ⟨_,Z,Z,Z⟩,Z,Z,.inl ⟨_,Z,Z,Z⟩,Z,Z,.inl ⟨_,Z,Z,Z⟩,Z,Z,.inl ⟨_,Z,Z,Z⟩,Z,Z,.inl ⟨_,Z,Z,Z⟩,Z,Z,.inl ⟨_,Z,Z,Z⟩,Z,Z,.inl ⟨_,Z,Z,Z⟩,Z,Z,.inl ⟨_,Z,Z,Z⟩,Z,Z,.inl ⟨_,Z,Z,Z⟩,Z,Z,.inl ⟨_,Z,Z,Z⟩,Z,Z,.inl ⟨_,Z,Z,Z⟩,Z,Z,.inl ⟨_,Z,Z,Z⟩,Z,U⟩ Z Z) Z) (bE H fun r4 h5 H=>zk (yi (z0r r2.2 r2.1 [47] ([[97],[98],[37,52,49],[37,50,102],[37,55,101],[46],[46,46],[],[120,59,121],[99,37,50,48,100],[37,99,51,37,97,52],[65],[97,46,98],[126]]) r4 h5) Z ⟨.inl Z,.inl Z,.inl Z,U⟩ Z) Z (gE H fun h6 H=>za (kk Z Z (Nat.le_trans h6 (by decide))) (qe Z (yc (ι:=Bs×(List Int)×Int) (fun i=>[(0,.ptr 0 0),(3,.dat (vstr i.1))]) (fun i=>[(0,.box (some bl) 25 [.dat (vlst (List.map qk i.2.1)),.dat (vint i.2.2)])]) (fun i=>z07 i.1 i.2.1 i.2.2=some r) (fun i=>Z) ?_ ?_))))))))))
 ·skip
  refine zb hN Z (za (zd (.ptr _ _) Z) (bE H fun r7 h8 H=>zk (yi (jc r4.2 12 r7 h8) Z ⟨.inl Z,U⟩ Z) Z (zg _ Z (fun h9 => ?_) (fun h9 => ?_))))
  ·exact tE h9 H fun H=>zp hN Z (za (zd (.ptr _ _) Z) (bE H fun r10 h11 H=>za (zm (y4f [37,50,48] 340 r10 h11) ⟨.inl Z,.inl Z,U⟩) (gE H fun h12 H=>za (kk Z Z (Nat.le_trans h12 (by decide))) (za (yb (u':=vlst (List.map zq [[],[97],[47,97,63,98],[47,97,35],[47,37],[47,37,52],[47,37,122,122],[47,127],[47,97,32,98],([47]++r10)])) (yo [[_],[_],[_],[_],[_],[_],[_],[_],[_],[_]] yq ⟨Z,.inl ⟨_,Z,Z,Z⟩,Z,Z,.inl ⟨_,Z,Z,Z⟩,Z,Z,.inl ⟨_,Z,Z,Z⟩,Z,Z,.inl ⟨_,Z,Z,Z⟩,Z,Z,.inl ⟨_,Z,Z,Z⟩,Z,Z,.inl ⟨_,Z,Z,Z⟩,Z,Z,.inl ⟨_,Z,Z,Z⟩,Z,Z,.inl ⟨_,Z,Z,Z⟩,Z,Z,.inl ⟨_,Z,Z,Z⟩,Z,Z,.inl ⟨_,Z,Z,Z⟩,Z,U⟩ Z Z) Z) (bE H fun r13 h14 H=>zk (yi (vp r7.2 ([[],[97],[47,97,63,98],[47,97,35],[47,37],[47,37,52],[47,37,122,122],[47,127],[47,97,32,98],([47]++r10)]) r13 h14) Z ⟨.inl Z,U⟩ Z) Z (qe Z ⟨(r13.1,r13.2.L,r13.2.at_),H,⟨Z,Z,U⟩,⟨Z,U⟩⟩))))))
  ·exact fE h9 H fun H=>zl ⟨(([47]++r4.1),r7.2.L,r7.2.at_),H,⟨Z,Z,U⟩,⟨Z,U⟩⟩
 ·rintro ⟨p15,c16,c17⟩ H
  replace H:z07 p15 c16 c17=some r:=H
  unfold z07 at H
  refine yc (ι:=Bs×(List Int)×Int) (fun i=>[(3,.dat (vstr i.1))]) (fun i=>[(0,.box (some bl) 25 [.dat (vlst (List.map qk i.2.1)),.dat (vint i.2.2)])]) (fun i=>z4m i.1 i.2.1 i.2.2=some r) (fun i=>Z) ?_ ?_
  ·skip
   refine zb hN Z (za (zd (.ptr _ _) Z) (bE H fun r18 h19 H=>zk (yi (jc (zn.mk c16 c17) 12 r18 h19) Z ⟨.inl Z,U⟩ Z) Z (zg _ Z (fun h20 => ?_) (fun h20 => ?_))))
   ·exact tE h20 H fun H=>zp hN Z (za (zd (.ptr _ _) Z) (qd Z (bE H fun r21 h22 H=>zk (yi (w1n r18.2 p15 [47,46,37,50,102,65] r21 h22) Z ⟨.inl Z,.inl Z,U⟩ Z) Z (qe Z ⟨(r21.1,r21.2.L,r21.2.at_),H,⟨Z,U⟩,⟨Z,U⟩⟩))))
   ·exact fE h20 H fun H=>zl ⟨(p15,r18.2.L,r18.2.at_),H,⟨Z,U⟩,⟨Z,U⟩⟩
  ·rintro ⟨p23,c24,c25⟩ H
   replace H:z4m p23 c24 c25=some r:=H
   unfold z4m at H
   refine zb hN Z (qd Z (qe Z (zi ?_)))
   cases H
   exact ⟨U,⟨.inl Z,U⟩,Z⟩
theorem w1i (s1:zn) (r:(Bs×zn)) (H:z0h s1=some r):Imp Tryz.prog 15 25 (qa s1) [] (zt [vstr r.1]) (qa r.2):=by
 refine jm (us:=[vstr r.1]) (cs':=(qa r.2)) (by kernel_rfl) Tryz.func15 Z Z Z Z fun X bl hN => ?_
 unfold z0h at H
 refine zb hN Z (qe Z (zb hN Z (za (zd (.ptr _ _) Z) (za (zd (.ptr _ _) Z) (bE H fun r2 h3 H=>zk (yi (z7f s1 0 4 r2 h3) Z ⟨.inl Z,.inl Z,U⟩ Z) Z (za (yb (u':=vlst (List.map zq [[97,61,49],[98,61,50],[97,61],[61,120],[61],[99],[],[97,61,37,52,49,43,37,50,66],[100,61,120,37,50,54,121],[98,61,37,99,51],[97,61,49,61,50],[97,63,98,61,47]])) (yo [[_],[_],[_],[_],[_],[_],[_],[_],[_],[_],[_],[_]] yq ⟨Z,.inl ⟨_,Z,Z,Z⟩,Z,Z,.inl ⟨_,Z,Z,Z⟩,Z,Z,.inl ⟨_,Z,Z,Z⟩,Z,Z,.inl ⟨_,Z,Z,Z⟩,Z,Z,.inl ⟨_,Z,Z,Z⟩,Z,Z,.inl ⟨_,Z,Z,Z⟩,Z,Z,.inl ⟨_,Z,Z,Z⟩,Z,Z,.inl ⟨_,Z,Z,Z⟩,Z,Z,.inl ⟨_,Z,Z,Z⟩,Z,Z,.inl ⟨_,Z,Z,Z⟩,Z,Z,.inl ⟨_,Z,Z,Z⟩,Z,Z,.inl ⟨_,Z,Z,Z⟩,Z,U⟩ Z Z) Z) (bE H fun r4 h5 H=>zk (yi (z0r r2.2 r2.1 [38] ([[97,61,49],[98,61,50],[97,61],[61,120],[61],[99],[],[97,61,37,52,49,43,37,50,66],[100,61,120,37,50,54,121],[98,61,37,99,51],[97,61,49,61,50],[97,63,98,61,47]]) r4 h5) Z ⟨.inl Z,.inl Z,.inl Z,U⟩ Z) Z (qe Z (yc (ι:=Bs×(List Int)×Int) (fun i=>[(3,.dat (vstr i.1))]) (fun i=>[(0,.box (some bl) 25 [.dat (vlst (List.map qk i.2.1)),.dat (vint i.2.2)])]) (fun i=>z06 i.1 i.2.1 i.2.2=some r) (fun i=>Z) ?_ ?_)))))))))
 ·skip
  refine zb hN Z (za (zd (.ptr _ _) Z) (bE H fun r6 h7 H=>zk (yi (jc r4.2 12 r6 h7) Z ⟨.inl Z,U⟩ Z) Z (zg _ Z (fun h8 => ?_) (fun h8 => ?_))))
  ·exact tE h8 H fun H=>zp hN Z (za (zd (.ptr _ _) Z) (za (zd (.ptr _ _) Z) (za (yb (u':=vlst (List.map zq [[120]])) (yo [[_]] yq ⟨Z,.inl ⟨_,Z,Z,Z⟩,Z,U⟩ Z Z) Z) (bE H fun r9 h10 H=>zk (yi (z0r r6.2 101 [38] ([[120]]) r9 h10) Z ⟨.inl Z,.inl Z,.inl Z,U⟩ Z) Z (za (yb (u':=vlst (List.map zq [[35],[97,37],[37,103,49,61,50],[97,32,98],[128],r9.1])) (yo [[_],[_],[_],[_],[_],[_]] yq ⟨Z,.inl ⟨_,Z,Z,Z⟩,Z,Z,.inl ⟨_,Z,Z,Z⟩,Z,Z,.inl ⟨_,Z,Z,Z⟩,Z,Z,.inl ⟨_,Z,Z,Z⟩,Z,Z,.inl ⟨_,Z,Z,Z⟩,Z,Z,.inl ⟨_,Z,Z,Z⟩,Z,U⟩ Z Z) Z) (bE H fun r11 h12 H=>zk (yi (vp r9.2 ([[35],[97,37],[37,103,49,61,50],[97,32,98],[128],r9.1]) r11 h12) Z ⟨.inl Z,U⟩ Z) Z (qe Z ⟨(r11.1,r11.2.L,r11.2.at_),H,⟨Z,U⟩,⟨Z,U⟩⟩)))))))
  ·exact fE h8 H fun H=>zl ⟨(r4.1,r6.2.L,r6.2.at_),H,⟨Z,U⟩,⟨Z,U⟩⟩
 ·rintro ⟨q13,c14,c15⟩ H
  replace H:z06 q13 c14 c15=some r:=H
  unfold z06 at H
  refine zb hN Z (qd Z (qe Z (zi ?_)))
  cases H
  exact ⟨U,⟨.inl Z,U⟩,Z⟩
theorem x0q (s1:zn) (v2:Int) (r:(zu×zn)) (H:z3h s1 v2=some r):Imp Tryz.prog 4 25 (qa s1) [vint v2] (zt [vagg (we r.1)]) (qa r.2):=by
 refine jm (us:=[vagg (we r.1)]) (cs':=(qa r.2)) (by kernel_rfl) Tryz.func4 Z Z Z Z fun X bl hN => ?_
 unfold z3h at H
 refine zb hN Z (zk (wd 1 jy Z) Z (zb hN Z (qd Z (za (zd (.ptr _ _) Z) (za (yb (u':=vlst (List.map zq [[71,69,84],[71,69,84],[71,69,84],[71,69,84],[72,69,65,68],[80,79,83,84]])) (yo [[_],[_],[_],[_],[_],[_]] yq ⟨Z,.inl ⟨_,Z,Z,Z⟩,Z,Z,.inl ⟨_,Z,Z,Z⟩,Z,Z,.inl ⟨_,Z,Z,Z⟩,Z,Z,.inl ⟨_,Z,Z,Z⟩,Z,Z,.inl ⟨_,Z,Z,Z⟩,Z,Z,.inl ⟨_,Z,Z,Z⟩,Z,U⟩ Z Z) Z) (bE H fun r3 h4 H=>zk (yi (vp s1 ([[71,69,84],[71,69,84],[71,69,84],[71,69,84],[72,69,65,68],[80,79,83,84]]) r3 h4) Z ⟨.inl Z,U⟩ Z) Z (za (zd (.ptr _ _) Z) (za (yb (u':=vlst (List.map zq [[97,46,98],[97,46,98],[65,46,66,58,56,48],[99,46,100]])) (yo [[_],[_],[_],[_]] yq ⟨Z,.inl ⟨_,Z,Z,Z⟩,Z,Z,.inl ⟨_,Z,Z,Z⟩,Z,Z,.inl ⟨_,Z,Z,Z⟩,Z,Z,.inl ⟨_,Z,Z,Z⟩,Z,U⟩ Z Z) Z) (bE H fun r5 h6 H=>zk (yi (vp r3.2 ([[97,46,98],[97,46,98],[65,46,66,58,56,48],[99,46,100]]) r5 h6) Z ⟨.inl Z,U⟩ Z) Z (za (zd (.ptr _ _) Z) (za (yb (u':=vlst (List.map zq [[47,120],[47,120],[47,120,47,46,47],[47,37,55,56],[47,121]])) (yo [[_],[_],[_],[_],[_]] yq ⟨Z,.inl ⟨_,Z,Z,Z⟩,Z,Z,.inl ⟨_,Z,Z,Z⟩,Z,Z,.inl ⟨_,Z,Z,Z⟩,Z,Z,.inl ⟨_,Z,Z,Z⟩,Z,Z,.inl ⟨_,Z,Z,Z⟩,Z,U⟩ Z Z) Z) (bE H fun r7 h8 H=>zk (yi (vp r5.2 ([[47,120],[47,120],[47,120,47,46,47],[47,37,55,56],[47,121]]) r7 h8) Z ⟨.inl Z,U⟩ Z) Z (za (zd (.ptr _ _) Z) (za (yb (u':=vlst (List.map zq [[],[],[98,61,50,38,97,61,49],[97,61,49,38,98,61,50]])) (yo [[_],[_],[_],[_]] yq ⟨Z,.inl ⟨_,Z,Z,Z⟩,Z,Z,.inl ⟨_,Z,Z,Z⟩,Z,Z,.inl ⟨_,Z,Z,Z⟩,Z,Z,.inl ⟨_,Z,Z,Z⟩,Z,U⟩ Z Z) Z) (bE H fun r9 h10 H=>zk (yi (vp r7.2 ([[],[],[98,61,50,38,97,61,49],[97,61,49,38,98,61,50]]) r9 h10) Z ⟨.inl Z,U⟩ Z) Z (za (yb (u':=vagg [vint v2,vstr r3.1,vstr r5.1,vstr r7.1,vstr r9.1,vstr [],vnil,vstr []]) (vc [(0,[vint v2]),(1,[vstr r3.1]),(2,[vstr r5.1]),(3,[vstr r7.1]),(4,[vstr r9.1])] jy z11 Z ⟨Z,.inl ⟨_,Z,Z,Z⟩,Z,Z,.inl ⟨_,Z,Z,Z⟩,Z,Z,.inl ⟨_,Z,Z,Z⟩,Z,Z,.inl ⟨_,Z,Z,Z⟩,Z,Z,.inl ⟨_,Z,Z,Z⟩,Z,U⟩) Z) (zk (wd 2 jy Z) Z (zk (qw ql Z Z Z Z) Z (z79 2 6 3 49 2 Z Z Z Z ?_)))))))))))))))))))
 refine yc (ι:=(List Int)×Int×(List zo)) (fun i=>[(0,.ptr 0 0),(4,.ptr 1 0),(5,.ptr 2 0)]) (fun i=>[(0,.box (some bl) 25 [.dat (vlst (List.map qk i.1)),.dat (vint i.2.1)]),(1,.box none 28 [.dat (vint 0),.dat (vstr []),.dat (vstr []),.dat (vstr []),.dat (vstr []),.dat (vstr []),.dat (vnil),.dat (vstr [])]),(2,.box none 28 [.dat (vint v2),.dat (vstr r3.1),.dat (vstr r5.1),.dat (vstr r7.1),.dat (vstr r9.1),.dat (vstr []),.row 3 i.2.2.length,.dat (vstr [])]),(3,.row 49 2 (List.map yh i.2.2))]) (fun i=>z1k v2 r3 r5 r7 r9 i.1 i.2.1 i.2.2=some r) (fun i=>Z) ?_ ?_
 ·refine wu (zb hN Z (za (zd (.ptr _ _) Z) (bE H fun r11 h12 H=>zk (yi (jc r9.2 3 r11 h12) Z ⟨.inl Z,U⟩ Z) Z (zg _ Z (fun h13 => ?_) (fun h13 => ?_)))))
  ·refine tE h13 H fun H=>vi mixed hN Z Z (za (zw js Z) (zr (ye vk Z Z) Z (za (zd (.ptr _ _) Z) (za (yb (u':=vlst (List.map zq [[97,99,99,101,112,116,45,108,97,110,103,117,97,103,101],[65,99,99,101,112,116,45,76,97,110,103,117,97,103,101]])) (yo [[_],[_]] yq ⟨Z,.inl ⟨_,Z,Z,Z⟩,Z,Z,.inl ⟨_,Z,Z,Z⟩,Z,U⟩ Z Z) Z) (bE H fun r14 h15 H=>zk (yi (vp r11.2 ([[97,99,99,101,112,116,45,108,97,110,103,117,97,103,101],[65,99,99,101,112,116,45,76,97,110,103,117,97,103,101]]) r14 h15) Z ⟨.inl Z,U⟩ Z) Z (za (zd (.ptr _ _) Z) (za (yb (u':=vlst (List.map zq [[100,101],[101,110]])) (yo [[_],[_]] yq ⟨Z,.inl ⟨_,Z,Z,Z⟩,Z,Z,.inl ⟨_,Z,Z,Z⟩,Z,U⟩ Z Z) Z) (bE H fun r16 h17 H=>zk (yi (vp r14.2 ([[100,101],[101,110]]) r16 h17) Z ⟨.inl Z,U⟩ Z) Z (za (yb (u':=vagg (yh (zo.mk r14.1 r16.1))) (vc [(0,[vstr r14.1]),(1,[vstr r16.1])] ut z10 Z ⟨Z,.inl ⟨_,Z,Z,Z⟩,Z,Z,.inl ⟨_,Z,Z,Z⟩,Z,U⟩) Z) (za (yb (u':=vlst (List.map yh [(zo.mk r14.1 r16.1)])) (yo [_] kv ⟨Z,.inr Z,Z,U⟩ Z Z) Z) (gE H fun h18 H=>zk (je (C:=yh) (xs:=([]:List zo)) kv (fun _=>Z) Z Z Z ⟨by simp,by first | (simp; done) | simpa using h18⟩ Z) Z ?_)))))))))))
   refine za (zw js Z) (Ym (Yk vk Z Z (by rw [List.length_map]) Z) Z Z ?_)
   refine ⟨Z,?_⟩
   show Cv _ _ _ _
   exact vh ⟨(r16.2.L,r16.2.at_,(([]:List zo)++[(zo.mk r14.1 r16.1)])),H,⟨Z,Z,Z,U⟩,⟨Z,Z,Z,Z,U⟩⟩
  ·refine fE h13 H fun H=>zl ?_
   show Cv _ _ _ _
   exact vh ⟨(r11.2.L,r11.2.at_,([]:List zo)),H,⟨Z,Z,Z,U⟩,⟨Z,Z,(congrArg (fun n=>some (some (AObj.box none 28 [.dat (vint v2),.dat (vstr r3.1),.dat (vstr r5.1),.dat (vstr r7.1),.dat (vstr r9.1),.dat (vstr []),.row 3 n,.dat (vstr [])]))) (show 0=([]:List zo).length from (by simp))),Z,U⟩⟩
 ·rintro ⟨c19,c20,l21⟩ H
  replace H:z1k v2 r3 r5 r7 r9 c19 c20 l21=some r:=H
  unfold z1k at H
  refine yc (ι:=(List Int)×Int×(List zo)) (fun i=>[(0,.ptr 0 0),(4,.ptr 1 0),(5,.ptr 2 0)]) (fun i=>[(0,.box (some bl) 25 [.dat (vlst (List.map qk i.1)),.dat (vint i.2.1)]),(1,.box none 28 [.dat (vint 0),.dat (vstr []),.dat (vstr []),.dat (vstr []),.dat (vstr []),.dat (vstr []),.dat (vnil),.dat (vstr [])]),(2,.box none 28 [.dat (vint v2),.dat (vstr r3.1),.dat (vstr r5.1),.dat (vstr r7.1),.dat (vstr r9.1),.dat (vstr []),.row 3 i.2.2.length,.dat (vstr [])]),(3,.row 49 2 (List.map yh i.2.2))]) (fun i=>z1j v2 r3 r5 r7 r9 i.1 i.2.1 i.2.2=some r) (fun i=>Z) ?_ ?_
  ·refine wu (zb hN Z (za (zd (.ptr _ _) Z) (bE H fun r22 h23 H=>zk (yi (jc (zn.mk c19 c20) 4 r22 h23) Z ⟨.inl Z,U⟩ Z) Z (zg _ Z (fun h24 => ?_) (fun h24 => ?_)))))
   ·refine tE h24 H fun H=>vi mixed hN Z Z (za (zw js Z) (zr (ye vk Z Z) Z (za (zd (.ptr _ _) Z) (bE H fun r25 h26 H=>zk (yi (w1p r22.2 r25 h26) Z U Z) Z (za (yb (u':=vagg (yh (zo.mk [99,97,99,104,101,45,99,111,110,116,114,111,108] r25.1))) (vc [(0,[vstr [99,97,99,104,101,45,99,111,110,116,114,111,108]]),(1,[vstr r25.1])] ut z10 Z ⟨Z,.inl ⟨_,Z,Z,Z⟩,Z,Z,.inl ⟨_,Z,Z,Z⟩,Z,U⟩) Z) (za (yb (u':=vlst (List.map yh [(zo.mk [99,97,99,104,101,45,99,111,110,116,114,111,108] r25.1)])) (yo [_] kv ⟨Z,.inr Z,Z,U⟩ Z Z) Z) (gE H fun h27 H=>zk (je kv (fun _=>Z) Z Z Z ⟨by simp,by first | (simp; done) | simpa using h27⟩ Z) Z ?_)))))))
    refine za (zw js Z) (Ym (Yk vk Z Z (by rw [List.length_map]) Z) Z Z ?_)
    refine ⟨Z,?_⟩
    show Cv _ _ _ _
    exact vh ⟨(r25.2.L,r25.2.at_,(l21++([(zo.mk [99,97,99,104,101,45,99,111,110,116,114,111,108] r25.1)]))),H,⟨Z,Z,Z,U⟩,⟨Z,Z,Z,Z,U⟩⟩
   ·refine fE h24 H fun H=>zl ?_
    show Cv _ _ _ _
    exact vh ⟨(r22.2.L,r22.2.at_,l21),H,⟨Z,Z,Z,U⟩,⟨Z,Z,Z,Z,U⟩⟩
  ·rintro ⟨c28,c29,l30⟩ H
   replace H:z1j v2 r3 r5 r7 r9 c28 c29 l30=some r:=H
   unfold z1j at H
   refine yc (ι:=(List Int)×Int×(List zo)) (fun i=>[(0,.ptr 0 0),(4,.ptr 1 0),(5,.ptr 2 0)]) (fun i=>[(0,.box (some bl) 25 [.dat (vlst (List.map qk i.1)),.dat (vint i.2.1)]),(1,.box none 28 [.dat (vint 0),.dat (vstr []),.dat (vstr []),.dat (vstr []),.dat (vstr []),.dat (vstr []),.dat (vnil),.dat (vstr [])]),(2,.box none 28 [.dat (vint v2),.dat (vstr r3.1),.dat (vstr r5.1),.dat (vstr r7.1),.dat (vstr r9.1),.dat (vstr []),.row 3 i.2.2.length,.dat (vstr [])]),(3,.row 49 2 (List.map yh i.2.2))]) (fun i=>z1i v2 r3 r5 r7 r9 i.1 i.2.1 i.2.2=some r) (fun i=>Z) ?_ ?_
   ·refine wu (zb hN Z (za (zd (.ptr _ _) Z) (bE H fun r31 h32 H=>zk (yi (jc (zn.mk c28 c29) 12 r31 h32) Z ⟨.inl Z,U⟩ Z) Z (zg _ Z (fun h33 => ?_) (fun h33 => ?_)))))
    ·refine tE h33 H fun H=>zp hN Z (za (zw js Z) (zr (ye vk Z Z) Z (za (yb (u':=vagg (yh (zo.mk [97,117,116,104,111,114,105,122,97,116,105,111,110] [66,101,97,114,101,114,32,120]))) (vc [(0,[vstr [97,117,116,104,111,114,105,122,97,116,105,111,110]]),(1,[vstr [66,101,97,114,101,114,32,120]])] ut z10 Z ⟨Z,.inl ⟨_,Z,Z,Z⟩,Z,Z,.inl ⟨_,Z,Z,Z⟩,Z,U⟩) Z) (za (yb (u':=vlst (List.map yh [(zo.mk [97,117,116,104,111,114,105,122,97,116,105,111,110] [66,101,97,114,101,114,32,120])])) (yo [_] kv ⟨Z,.inr Z,Z,U⟩ Z Z) Z) (gE H fun h34 H=>zk (je kv (fun _=>Z) Z Z Z ⟨by simp,by first | (simp; done) | simpa using h34⟩ Z) Z ?_)))))
     refine za (zw js Z) (Ym (Yk vk Z Z (by rw [List.length_map]) Z) Z Z ?_)
     refine wz ?_
     show Cv _ _ _ _
     exact vh ⟨(r31.2.L,r31.2.at_,(l30++([(zo.mk [97,117,116,104,111,114,105,122,97,116,105,111,110] [66,101,97,114,101,114,32,120])]))),H,⟨Z,Z,Z,U⟩,⟨Z,Z,Z,Z,U⟩⟩
    ·refine fE h33 H fun H=>zl ?_
     show Cv _ _ _ _
     exact vh ⟨(r31.2.L,r31.2.at_,l30),H,⟨Z,Z,Z,U⟩,⟨Z,Z,Z,Z,U⟩⟩
   ·rintro ⟨c35,c36,l37⟩ H
    replace H:z1i v2 r3 r5 r7 r9 c35 c36 l37=some r:=H
    unfold z1i at H
    refine yc (ι:=(List Int)×Int×(List zo)) (fun i=>[(0,.ptr 0 0),(4,.ptr 1 0),(5,.ptr 2 0)]) (fun i=>[(0,.box (some bl) 25 [.dat (vlst (List.map qk i.1)),.dat (vint i.2.1)]),(1,.box none 28 [.dat (vint 0),.dat (vstr []),.dat (vstr []),.dat (vstr []),.dat (vstr []),.dat (vstr []),.dat (vnil),.dat (vstr [])]),(2,.box none 28 [.dat (vint v2),.dat (vstr r3.1),.dat (vstr r5.1),.dat (vstr r7.1),.dat (vstr r9.1),.dat (vstr []),.row 3 i.2.2.length,.dat (vstr [])]),(3,.row 49 2 (List.map yh i.2.2))]) (fun i=>z1h v2 r3 r5 r7 r9 i.1 i.2.1 i.2.2=some r) (fun i=>Z) ?_ ?_
    ·refine wu (zb hN Z (za (zd (.ptr _ _) Z) (bE H fun r38 h39 H=>zk (yi (jc (zn.mk c35 c36) 8 r38 h39) Z ⟨.inl Z,U⟩ Z) Z (zg _ Z (fun h40 => ?_) (fun h40 => ?_)))))
     ·refine tE h40 H fun H=>vi mixed hN Z Z (za (zw js Z) (zr (ye vk Z Z) Z (za (zd (.ptr _ _) Z) (za (yb (u':=vlst (List.map zq [[34,118,49,34],[87,47,34,118,50,34,44,32,34,118,49,34],[42],[118,49]])) (yo [[_],[_],[_],[_]] yq ⟨Z,.inl ⟨_,Z,Z,Z⟩,Z,Z,.inl ⟨_,Z,Z,Z⟩,Z,Z,.inl ⟨_,Z,Z,Z⟩,Z,Z,.inl ⟨_,Z,Z,Z⟩,Z,U⟩ Z Z) Z) (bE H fun r41 h42 H=>zk (yi (vp r38.2 ([[34,118,49,34],[87,47,34,118,50,34,44,32,34,118,49,34],[42],[118,49]]) r41 h42) Z ⟨.inl Z,U⟩ Z) Z (za (yb (u':=vagg (yh (zo.mk [105,102,45,110,111,110,101,45,109,97,116,99,104] r41.1))) (vc [(0,[vstr [105,102,45,110,111,110,101,45,109,97,116,99,104]]),(1,[vstr r41.1])] ut z10 Z ⟨Z,.inl ⟨_,Z,Z,Z⟩,Z,Z,.inl ⟨_,Z,Z,Z⟩,Z,U⟩) Z) (za (yb (u':=vlst (List.map yh [(zo.mk [105,102,45,110,111,110,101,45,109,97,116,99,104] r41.1)])) (yo [_] kv ⟨Z,.inr Z,Z,U⟩ Z Z) Z) (gE H fun h43 H=>zk (je kv (fun _=>Z) Z Z Z ⟨by simp,by first | (simp; done) | simpa using h43⟩ Z) Z ?_))))))))
      refine za (zw js Z) (Ym (Yk vk Z Z (by rw [List.length_map]) Z) Z Z ?_)
      refine ⟨Z,?_⟩
      show Cv _ _ _ _
      exact vh ⟨(r41.2.L,r41.2.at_,(l37++([(zo.mk [105,102,45,110,111,110,101,45,109,97,116,99,104] r41.1)]))),H,⟨Z,Z,Z,U⟩,⟨Z,Z,Z,Z,U⟩⟩
     ·refine fE h40 H fun H=>zl ?_
      show Cv _ _ _ _
      exact vh ⟨(r38.2.L,r38.2.at_,l37),H,⟨Z,Z,Z,U⟩,⟨Z,Z,Z,Z,U⟩⟩
    ·rintro ⟨c44,c45,l46⟩ H
     replace H:z1h v2 r3 r5 r7 r9 c44 c45 l46=some r:=H
     unfold z1h at H
     refine yc (ι:=(List Int)×Int×Bs×Bs) (fun i=>[(4,.ptr 1 0),(5,.ptr 2 0)]) (fun i=>[(0,.box (some bl) 25 [.dat (vlst (List.map qk i.1)),.dat (vint i.2.1)]),(1,.box none 28 [.dat (vint 0),.dat (vstr []),.dat (vstr []),.dat (vstr []),.dat (vstr []),.dat (vstr []),.dat (vnil),.dat (vstr [])]),(2,.box none 28 [.dat (vint v2),.dat (vstr r3.1),.dat (vstr r5.1),.dat (vstr i.2.2.1),.dat (vstr i.2.2.2),.dat (vstr []),.row 3 l46.length,.dat (vstr [])]),(3,.row 49 2 (List.map yh l46))]) (fun i=>z1g v2 r3 r5 l46 i.1 i.2.1 i.2.2.1 i.2.2.2=some r) (fun i=>Z) ?_ ?_
     ·refine wu (zb hN Z (za (zd (.ptr _ _) Z) (bE H fun r47 h48 H=>zk (yi (jc (zn.mk c44 c45) 40 r47 h48) Z ⟨.inl Z,U⟩ Z) Z (zg _ Z (fun h49 => ?_) (fun h49 => ?_)))))
      ·refine tE h49 H fun H=>zp hN Z (za (zd (.ptr _ _) Z) (bE H fun r50 h51 H=>zk (yi (w1j r47.2 r50 h51) Z U Z) Z (za (zd (.ptr _ _) Z) (bE H fun r52 h53 H=>zk (yi (w1i r50.2 r52 h53) Z U Z) Z (za (zw Qt Z) (zk (jt tyS9 Z Z Z Z) Z (za (zw Qs Z) (zk (jt tyS9 Z Z Z Z) Z (wz ?_)))))))))
       show Cv _ _ _ _
       exact vh ⟨(r52.2.L,r52.2.at_,r50.1,r52.1),H,⟨Z,Z,U⟩,⟨Z,Z,Z,Z,U⟩⟩
      ·refine fE h49 H fun H=>zl ?_
       show Cv _ _ _ _
       exact vh ⟨(r47.2.L,r47.2.at_,r7.1,r9.1),H,⟨Z,Z,U⟩,⟨Z,Z,Z,Z,U⟩⟩
     ·rintro ⟨c54,c55,c56,c57⟩ H
      replace H:z1g v2 r3 r5 l46 c54 c55 c56 c57=some r:=H
      unfold z1g at H
      refine zf (y5y 2 6 3 rfl rfl rfl (by first | rw [List.length_map] | rfl) ?_)
      refine zp hN Z (zr (qh ql Z Z Z) Z (zk (qw ql Z Z Z Z) Z (zi ?_)))
      cases H
      exact ⟨U,⟨.inl ⟨_,_,_,we (zu.mk v2 r3.1 r5.1 c56 c57 [] l46 []),Z,Z,Z,Z,ql⟩,U⟩,Z⟩
theorem y4n (n1:Int) (r:(Bool)) (H:z0c n1=some r):Fn Tryz.prog 34 [vint n1] (zt [zh r]):=by
 refine ⟨by kernel_rfl,yf (us:=[zh r]) Tryz.func34 Z Z Z Z fun X hN => ?_⟩
 unfold z0c at H
 refine zb hN Z (qe Z (zb hN Z (qd Z (za (wx Z Z) (qd Z (qx Z Z (fun hc=>zd (.dat _) Z) (qx Z Z (fun hc=>zy (cnd (c:=(decide (0≤n1))) hc) Z) (za (ww Z (fun hb=>(cnd (c:=(decide (0≤n1))) hb)) Z) (qe Z (zi ?_))))))))))
 cases H
 exact ⟨U,.inl Z,U⟩
theorem y4j (c1:Int) (r:(Bool)) (H:z6i c1=some r):Fn Tryz.prog 148 [vval (.int .u8 c1)] (zt [zh r]):=by
 refine ⟨by kernel_rfl,yf (us:=[zh r]) Tryz.func148 Z Z Z Z fun X hN => ?_⟩
 unfold z6i at H
 refine zb hN Z (qe Z (zb hN Z (qd Z (za (wx Z Z) (qd Z (qx Z Z (fun hc=>zd (.dat _) Z) (qx Z Z (fun hc=>wn (cnd (c:=(decide (97≤c1))) hc) Z) (za (ww Z (fun hb=>(cnd (c:=(decide (97≤c1))) hb)) Z) (qd Z (yv Z Z (fun hc=>zd (.dat _) Z) (yv Z Z (fun hc=>wx (cnd (c:=(!((decide (97≤c1)) && (decide (c1≤122))))) hc) Z) (yv Z Z (fun hc=>zd (.dat _) (cnd (c:=(!((decide (97≤c1)) && (decide (c1≤122))))) hc)) (wc Z Z (fun hc=>zd (.dat _) Z) (wc Z Z (fun hc=>wn (cnd (c:=((!((decide (97≤c1)) && (decide (c1≤122)))) && (decide (65≤c1)))) hc) Z) (yv Z Z (fun hc=>ww (cnd (c:=(!((decide (97≤c1)) && (decide (c1≤122))))) hc) (fun hb=>(cnd (c:=((!((decide (97≤c1)) && (decide (c1≤122)))) && (decide (65≤c1)))) (andI hc hb))) Z) (za (vr Z Z (fun hb=>(cnd (c:=(!((decide (97≤c1)) && (decide (c1≤122))))) (notI hb)))) (qe Z (zi ?_))))))))))))))))))
 cases H
 exact ⟨U,.inl Z,U⟩
theorem y0i (c1:Int) (r:(Bool)) (H:z25 c1=some r):Fn Tryz.prog 149 [vval (.int .u8 c1)] (zt [zh r]):=by
 refine ⟨by kernel_rfl,yf (us:=[zh r]) Tryz.func149 Z Z Z Z fun X hN => ?_⟩
 unfold z25 at H
 refine zb hN Z (qe Z (zb hN Z (qd Z (za (wx Z Z) (qd Z (qx Z Z (fun hc=>zd (.dat _) Z) (qx Z Z (fun hc=>wn (cnd (c:=(decide (48≤c1))) hc) Z) (za (ww Z (fun hb=>(cnd (c:=(decide (48≤c1))) hb)) Z) (qe Z (zi ?_))))))))))
 cases H
 exact ⟨U,.inl Z,U⟩
theorem y4g (l:Bs) (c r:Int) (H:Wv l c=some r):Fn Tryz.prog 150 [vstr l,vval (.int .u8 c)] (zt [vint r]):=by
 cases H
 refine y1f (by kernel_rfl) fun M w vs h => ?_
 have h1:=kg (us:=[.string ⟨l.toArray⟩,.int .u8 c]) h
 subst h1
 refine (Tryz.strings_IndexByte ⟨l.toArray⟩ c w).mono ?_
 rintro e w' ⟨rfl,rfl⟩
 exact ⟨_,Z,Z,Kp.refl _ _⟩
theorem w0n (c1:Int) (r:(Bool)) (H:z6g c1=some r):Fn Tryz.prog 94 [vval (.int .u8 c1)] (zt [zh r]):=by
 refine ⟨by kernel_rfl,yf (us:=[zh r]) Tryz.func94 Z Z Z Z fun X hN => ?_⟩
 unfold z6g at H
 refine zb hN Z (qe Z (yc (ι:=Bool) (fun i=>[(2,.dat (zh i))]) (fun i=>[]) (fun i=>z2j i=some r) (fun i=>Z) ?_ ?_))
 ·skip
  refine zp hN Z (qd Z (bE H fun r2 h3 H=>za (zm (y4j c1 r2 h3) ⟨.inl Z,U⟩) (qd Z (yg (j:=2) Z Z (fun h4 => ?_) (fun h4 => ?_) Z))))
  ·refine u3 h4 H fun h5 H=>ze Z Z h4 (zd (.dat _) Z) (bE H fun r6 h7 H=>ze Z Z h4 (zm (y0i c1 r6 h7) ⟨.inl Z,U⟩) (za (zv Z (bFF h5) Z) (qd Z (yg (j:=6) Z Z (fun h8 => ?_) (fun h8 => ?_) Z))))
   ·exact u3 h8 H fun h9 H=>ze Z Z h8 (zd (.dat _) Z) (bE H fun r10 h11 H=>ze Z Z h8 (zm (y4g [33,35,36,37,38,39,42,43,45,46,94,95,96,124,126] c1 r10 h11) ⟨.inl Z,.inl Z,U⟩) (ze Z Z h8 (wx Z Z) (za (zv Z (bFF h9) Z) (qe Z ⟨decide (0≤r10),H,⟨Z,U⟩,U⟩))))
   ·exact u4 h8 H fun h12 H=>zc Z Z h8 (zc Z Z h8 (zc Z Z h8 (za (zz Z (bTT h12) Z) (qe Z ⟨true,H,⟨Z,U⟩,U⟩))))
  ·exact u4 h4 H fun h13 H=>zc Z Z h4 (zc Z Z h4 (za (zz Z (bTT h13) Z) (qd Z (zc Z Z Z (zc Z Z Z (zc Z Z Z (za (zz Z Z Z) (qe Z ⟨true,H,⟨Z,U⟩,U⟩))))))))
 ·rintro v14 H
  replace H:z2j v14=some r:=H
  unfold z2j at H
  refine zi ?_
  cases H
  exact ⟨U,.inl Z,U⟩
theorem y0k (s1:Bs) (r:(Bool)) (H:Yx s1=some r):Fn Tryz.prog 45 [vstr s1] (zt [zh r]):=by
 refine ⟨by kernel_rfl,yf (us:=[zh r]) Tryz.func45 Z Z Z Z fun X hN => ?_⟩
 unfold Yx at H
 refine zb hN Z (qe Z (zf (zb hN Z (qd Z (za (yw tyU9 Z) (qd Z (zx (gE H fun h4 H=>qy (fun (k2:Nat) (s:Unit)=>[(0,.dat (vstr s1)),(5,.dat (vint (s1.length:Int))),(6,.dat (vint (k2:Int)))]) (fun (k2:Nat) (s:Unit)=>[]) () H ⟨Z,Z,Z,U⟩ U (fun _ _=>Z) ?_ ?_))))))))
 ·rintro ⟨⟩ H
  replace H:y3q s1=some r:=H
  unfold y3q at H
  refine zb hN Z (za (zy Z Z) (zf (zg _ Z (fun h=>(lt_t h).elim) (fun h => ?_))))
  refine yt (zb hN Z (qd Z (za (kj Z Z) (qd Z (qx Z Z (fun hc=>zd (.dat _) Z) (qx Z Z (fun hc=>yw tyU9 (cnd (c:=(decide (s1≠[]))) hc)) (qx Z Z (fun hc=>wn (cnd (c:=(decide (s1≠[]))) hc) Z) (za (ww Z (fun hb=>(cnd (c:=(decide (s1≠[]))) hb)) Z) (qe Z (zi ?_))))))))))
  cases H
  exact ⟨U,.inl Z,U⟩
 ·rintro k2 x5 ⟨⟩ q3 h6 h7 H hq3
  replace H:z9y k2 x5=some q3:=H
  unfold z9y at H
  refine zb hN Z (za (zy Z Z) (zf (zg _ Z (fun h => ?_) (fun h=>(lt_f h6 h).elim))))
  refine zl (zf (zx (zb hN Z (qd Z (qe Z (zb hN Z (qd Z (qd Z (za (qv tyU9 Z Z h7) (bE H fun r8 h9 H=>za (zm (w0n (x5.toNat:Int) r8 h9) ⟨.inl Z,U⟩) (za (yr Z) (zg _ Z (fun h10 => ?_) (fun h10 => ?_)))))))))))))
  ·refine tE h10 H fun H=>zb hN Z (qe Z (zi ?_))
   replace H:=retl H hq3
   cases H
   exact ⟨U,.inl Z,U⟩
  ·exact fE h10 H fun H=>zl (zp hN Z (za (qj Z Z (by omega)) (qd Z ⟨_,yx H,⟨Z,Z,Z,U⟩,U⟩)))
theorem z7c (s p:Bs) (r:Bs×Bs×Bool) (H:km s p=some r):Fn Tryz.prog 51 [vstr s,vstr p] (zt [vstr r.1,vstr r.2.1,zh r.2.2]):=by
 unfold km at H
 obtain ⟨h1,h2⟩:=gif H
 cases h2
 refine xw (by kernel_rfl) fun M w vs hM h => ?_
 have hv:=kg (us:=[.string ⟨s.toArray⟩,.string ⟨p.toArray⟩]) h
 subst hv
 obtain ⟨m,hm⟩:=y3r hM
 refine (Tryz.strings_Cut ⟨s.toArray⟩ ⟨p.toArray⟩ m w (by simp [ByteArray.size]; omega) hm).mono ?_
 rintro e w' ⟨rfl,n,rfl⟩
 refine ⟨_,Z,⟨[_,_,_],Z,Z,fun j u hj => ?_⟩,⟨Z,Z,Z,Nat.le_refl _,fun _ _ _=>Z⟩⟩
 rcases j with _ | _ | _ | j
 ·cases hj; exact ⟨_,Z,Z⟩
 ·cases hj; exact ⟨_,Z,Z⟩
 ·cases hj; exact ⟨_,Z,Z⟩
 ·simp at hj

theorem x9u (s sep:Bs) (r:List Bs) (H:ve s sep=some r):FnG Tryz.prog 53 [.dat (vstr s),.dat (vstr sep)] [] (.row 900 r.length) [(900,.row 9 1 (List.map zq r))]:=by
 obtain ⟨h1,h2,rfl⟩:=x6x H
 have hlen:=Lib.splitB_all ⟨sep.toArray⟩ (by simpa [ByteArray.size] using h2) 0 _ ⟨s.toArray⟩ Z
 have hle:=Lib.countB_le ⟨sep.toArray⟩ (by simpa [ByteArray.size] using h2) _ ⟨s.toArray⟩ (Nat.le_refl _)
 refine w27 (args:=[vstr s,vstr sep]) (xi s sep) (by kernel_rfl) (fun M w vs hM hvs => ?_) ?_
 ·have hv:=kg (us:=[.string ⟨s.toArray⟩,.string ⟨sep.toArray⟩]) hvs
  subst hv
  obtain ⟨m,hm⟩:=y3r hM
  refine (Tryz.strings_Split ⟨s.toArray⟩ ⟨sep.toArray⟩ m w (by simp [ByteArray.size]; omega) hm (by simpa [ByteArray.size] using h2)).mono ?_
  rintro e w' ⟨rfl,rfl⟩
  have e1:(xi s sep).length=Lib.countB ⟨s.toArray⟩ ⟨sep.toArray⟩+1:=by unfold xi; rw [List.length_map,hlen]
  have e2:((xi s sep).map fun s=>Value.string ⟨s.toArray⟩)=(Lib.splitB ⟨sep.toArray⟩ 0 (Lib.countB ⟨s.toArray⟩ ⟨sep.toArray⟩) ⟨s.toArray⟩).map Value.string:=by
   unfold xi
   rw [List.map_map]
   exact List.map_congr_left fun b _=>by simp
  rw [e1,e2]
  exact ⟨Z,Z⟩
 ·unfold xi maxLen
  rw [List.length_map,hlen]
  have hsz:(ByteArray.mk s.toArray).size=s.length:=by simp [ByteArray.size]
  rw [hsz] at hle
  omega
theorem z0p (s sep:Bs) (r:List Bs) (H:ve s sep=some r):Fn Tryz.prog 53 [vstr s,vstr sep] (zt [vlst (List.map zq r)]):=by
 have h:=x9u s sep r H
 rw [← List.length_map (f:=zq)] at h
 exact w25 h
theorem y92 (s p:Bs) (r:Bs) (H:z6c s p=some r):Fn Tryz.prog 185 [vstr s,vstr p] (zt [vstr r]):=by
 unfold z6c at H
 cases H
 refine xw (by kernel_rfl) fun M w vs hM h => ?_
 have hv:=kg (us:=[.string ⟨s.toArray⟩,.string ⟨p.toArray⟩]) h
 subst hv
 refine (Tryz.strings_TrimPrefix ⟨s.toArray⟩ ⟨p.toArray⟩ w).mono ?_
 rintro e w' ⟨rfl,rfl⟩
 exact ⟨_,Z,Z,Kp.refl _ _⟩

theorem kr (c1:Int) (r:(Int)) (H:jv c1=some r):Fn Tryz.prog 220 [vval (.int .u8 c1)] (zt [vval (.int .u8 r)]):=by
 refine ⟨by kernel_rfl,yf (us:=[vval (.int .u8 r)]) Tryz.func220 Z Z Z Z fun X hN => ?_⟩
 unfold jv at H
 refine zb hN Z (qe Z (zb hN Z (qd Z (za (yb (y7j Z Z) Z) (qe Z (zi ?_))))))
 cases H
 exact ⟨U,.inl Z,U⟩
theorem w01 (v1:Bs) (r:(Bool)) (H:y32 v1=some r):Fn Tryz.prog 221 [vstr v1] (zt [zh r]):=by
 refine ⟨by kernel_rfl,yf (us:=[zh r]) Tryz.func221 Z Z Z Z fun X hN => ?_⟩
 unfold y32 at H
 refine zb hN Z (qe Z (zb hN Z (qe Z (zb hN Z (qe Z (yc (ι:=Bs) (fun i=>[(0,.dat (vstr i)),(3,.dat (vval (.int .i32 94))),(4,.dat (vint 0))]) (fun i=>[]) (fun i=>z7i i=some r) (fun i=>Z) ?_ ?_))))))
 ·skip
  refine yc (ι:=Bool) (fun i=>[(0,.dat (vstr v1)),(3,.dat (vval (.int .i32 94))),(4,.dat (vint 0)),(18,.dat (zh i))]) (fun i=>[]) (fun i=>z3u v1 i=some r) (fun i=>Z) ?_ ?_
  ·skip
   refine zp hN Z (qd Z (za (yw tyU9 Z) (za (wx Z Z) (qd Z (yg (j:=3) Z Z (fun h2 => ?_) (fun h2 => ?_) Z)))))
   ·refine u1 h2 H fun h3 H=>ze Z Z h2 (zd (.dat _) Z) (bE H fun x4 h5 H=>ze Z Z h2 (qv tyU9 Z Z h5) (ze Z Z h2 (yu Z Z) (ze Z Z h2 (zd (.dat _) Z) (yg (j:=7) Z Z (fun h6 => ?_) (fun h6 => ?_) Z))))
    ·exact u3 h6 H fun h7 H=>ze Z Z h6 (zd (.dat _) Z) (ze Z Z h6 (qv tyU9 Z Z h5) (ze Z Z h6 (yu Z Z) (ze Z Z h2 (zv Z (bFF h7) Z) (za (zz Z (bTT h3) Z) ⟨decide ((x4.toNat:Int)=43),H,⟨Z,Z,Z,Z,U⟩,U⟩))))
    ·exact u4 h6 H fun h8 H=>zc Z Z h6 (zc Z Z h6 (zc Z Z h6 (ze Z Z h2 (zz Z (bTT h8) Z) (za (zz Z (bTT h3) Z) ⟨true,H,⟨Z,Z,Z,Z,U⟩,U⟩))))
   ·exact u2 h2 H fun h9 H=>zc Z Z h2 (zc Z Z h2 (zc Z Z h2 (zc Z Z h2 (yz Z Z (yz Z Z (yz Z Z (zc Z Z h2 (za (zv Z (bFF h9) Z) ⟨false,H,⟨Z,Z,Z,Z,U⟩,U⟩))))))))
  ·rintro v10 H
   replace H:z3u v1 v10=some r:=H
   unfold z3u at H
   refine zg _ Z (fun h11 => ?_) (fun h11 => ?_)
   ·exact tE h11 H fun H=>zp hN Z (qd Z (bE H fun l12 h13 H=>za (vz tyU9 Z Z Z h13) (qe Z ⟨l12,H,⟨Z,Z,Z,U⟩,U⟩)))
   ·exact fE h11 H fun H=>zl ⟨v1,H,⟨Z,Z,Z,U⟩,U⟩
 ·rintro v14 H
  replace H:z7i v14=some r:=H
  unfold z7i at H
  refine zb hN Z (qe Z (yc (ι:=Int×Int×Bool) (fun i=>[(0,.dat (vstr v14)),(3,.dat (vval (.int .i32 i.1))),(4,.dat (vint i.2.1)),(5,.dat (zh i.2.2))]) (fun i=>[]) (fun i=>z7h v14 i.1 i.2.1 i.2.2=some r) (fun i=>Z) ?_ ?_))
  ·skip
   refine yc (ι:=Bool) (fun i=>[(0,.dat (vstr v14)),(3,.dat (vval (.int .i32 94))),(4,.dat (vint 0)),(5,.dat (zh false)),(46,.dat (zh i))]) (fun i=>[]) (fun i=>Qe v14 i=some r) (fun i=>Z) ?_ ?_
   ·skip
    refine zp hN Z (qd Z (za (yw tyU9 Z) (za (wx Z Z) (qd Z (yg (j:=3) Z Z (fun h15 => ?_) (fun h15 => ?_) Z)))))
    ·refine u1 h15 H fun h16 H=>ze Z Z h15 (zd (.dat _) Z) (bE H fun x17 h18 H=>ze Z Z h15 (qv tyU9 Z Z h18) (ze Z Z h15 (yu Z Z) (za (zz Z (bTT h16) Z) (qd Z (yg (j:=8) Z Z (fun h19 => ?_) (fun h19 => ?_) Z)))))
     ·refine u1 h19 H fun h20 H=>ze Z Z h19 (zd (.dat _) Z) (bE H fun x21 h22 H=>ze Z Z h19 (qv tyU9 Z Z h22) (bE H fun r23 h24 H=>ze Z Z h19 (zm (kr (x21.toNat:Int) r23 h24) ⟨.inl Z,U⟩) (ze Z Z h19 (yu Z Z) (ze Z Z h19 (zd (.dat _) Z) (yg (j:=13) Z Z (fun h25 => ?_) (fun h25 => ?_) Z)))))
      ·refine u3 h25 H fun h26 H=>ze Z Z h25 (zd (.dat _) Z) (ze Z Z h25 (qv tyU9 Z Z h22) (bE H fun r27 h28 H=>ze Z Z h25 (zm (kr (x21.toNat:Int) r27 h28) ⟨.inl Z,U⟩) (ze Z Z h25 (yu Z Z) (ze Z Z h19 (zv Z (bFF h26) Z) (ze Z Z h19 (zd (.dat _) Z) (yg (j:=19) Z Z (fun h29 => ?_) (fun h29 => ?_) Z))))))
       ·exact u3 h29 H fun h30 H=>ze Z Z h29 (zd (.dat _) Z) (ze Z Z h29 (qv tyU9 Z Z h22) (bE H fun r31 h32 H=>ze Z Z h29 (zm (kr (x21.toNat:Int) r31 h32) ⟨.inl Z,U⟩) (ze Z Z h29 (yu Z Z) (ze Z Z h19 (zv Z (bFF h30) Z) (za (zz Z (bTT h20) Z) ⟨decide (r31=120),H,⟨Z,Z,Z,Z,Z,U⟩,U⟩)))))
       ·exact u4 h29 H fun h33 H=>zc Z Z h29 (zc Z Z h29 (zc Z Z h29 (zc Z Z h29 (ze Z Z h19 (zz Z (bTT h33) Z) (za (zz Z (bTT h20) Z) ⟨true,H,⟨Z,Z,Z,Z,Z,U⟩,U⟩)))))
      ·exact u4 h25 H fun h34 H=>zc Z Z h25 (zc Z Z h25 (zc Z Z h25 (zc Z Z h25 (ze Z Z h19 (zz Z (bTT h34) Z) (ze Z Z h19 (zd (.dat _) Z) (zc Z Z Z (zc Z Z Z (zc Z Z Z (zc Z Z Z (ze Z Z h19 (zz Z Z Z) (za (zz Z (bTT h20) Z) ⟨true,H,⟨Z,Z,Z,Z,Z,U⟩,U⟩)))))))))))
     ·exact u2 h19 H fun h35 H=>zc Z Z h19 (zc Z Z h19 (zc Z Z h19 (zc Z Z h19 (zc Z Z h19 (yz Z Z (yz Z Z (yz Z Z (yz Z Z (zc Z Z h19 (zc Z Z h19 (yz Z Z (yz Z Z (yz Z Z (yz Z Z (zc Z Z h19 (za (zv Z (bFF h35) Z) ⟨false,H,⟨Z,Z,Z,Z,Z,U⟩,U⟩))))))))))))))))
    ·exact u2 h15 H fun h36 H=>zc Z Z h15 (zc Z Z h15 (zc Z Z h15 (za (zv Z (bFF h36) Z) (qd Z (zc Z Z Z (zc Z Z Z (zc Z Z Z (zc Z Z Z (zc Z Z Z (yz Z Z (yz Z Z (yz Z Z (yz Z Z (zc Z Z Z (zc Z Z Z (yz Z Z (yz Z Z (yz Z Z (yz Z Z (zc Z Z Z (za (zv Z Z Z) ⟨false,H,⟨Z,Z,Z,Z,Z,U⟩,U⟩)))))))))))))))))))))
   ·rintro v37 H
    replace H:Qe v14 v37=some r:=H
    unfold Qe at H
    refine zg _ Z (fun h38 => ?_) (fun h38 => ?_)
    ·exact tE h38 H fun H=>zb hN Z (qe Z (zb hN Z (qe Z (zp hN Z (qd Z (bE H fun x39 h40 H=>za (qv tyU9 Z Z h40) (bE H fun r41 h42 H=>za (zm (kr (x39.toNat:Int) r41 h42) ⟨.inl Z,U⟩) (za (yu Z Z) (qe Z ⟨(48,2,decide (r41=120)),H,⟨Z,Z,Z,Z,U⟩,U⟩)))))))))
    ·exact fE h38 H fun H=>zl ⟨(94,0,false),H,⟨Z,Z,Z,Z,U⟩,U⟩
  ·rintro ⟨v43,v44,v45⟩ H
   replace H:z7h v14 v43 v44 v45=some r:=H
   unfold z7h at H
   refine yc (ι:=Int) (fun i=>[(3,.dat (vval (.int .i32 i)))]) (fun i=>[]) (fun i=>y0m i=some r) (fun i=>Z) ?_ ?_
   ·skip
    refine zx (xy (fun (s:Int×Int)=>[(0,.dat (vstr v14)),(3,.dat (vval (.int .i32 s.1))),(4,.dat (vint s.2)),(5,.dat (zh v45))]) (fun (s:Int×Int)=>[]) (v43,v44) H ⟨Z,Z,Z,Z,U⟩ U (fun _=>Z) ?_)
    rintro ⟨v46,v47⟩ q48 H hq48
    replace H:y40 v14 v45 v46 v47=some q48:=H
    unfold y40 at H
    refine zf (zb hN Z (qd Z (qd Z (za (yw tyU9 Z) (za (zy Z Z) (zg _ Z (fun h49 => ?_) (fun h49 => ?_)))))))
    ·refine tE h49 H fun H=>zl (yc (ι:=Int) (fun i=>[(0,.dat (vstr v14)),(3,.dat (vval (.int .i32 i))),(4,.dat (vint v47)),(5,.dat (zh v45))]) (fun i=>[]) (fun i=>z3t v47 i=some q48) (fun i=>Z) ?_ ?_)
     ·skip
      refine zx (zf (yc (ι:=Bool) (fun i=>[(0,.dat (vstr v14)),(3,.dat (vval (.int .i32 v46))),(4,.dat (vint v47)),(5,.dat (zh v45)),(83,.dat (zh i))]) (fun i=>[]) (fun i=>xt v14 v46 v47 i=some q48) (fun i=>Z) ?_ ?_))
      ·skip
       refine zp hN Z (qd Z (qd Z (bE H fun x50 h51 H=>za (jh tyU9 Z Z h51) (za (wn Z Z) (qd Z (yg (j:=4) Z Z (fun h52 => ?_) (fun h52 => ?_) Z))))))
       ·refine u1 h52 H fun h53 H=>ze Z Z h52 (zd (.dat _) Z) (ze Z Z h52 (zd (.dat _) Z) (ze Z Z h52 (jh tyU9 Z Z h51) (ze Z Z h52 (wn Z Z) (za (zz Z (bTT h53) Z) (qd Z (yg (j:=10) Z Z (fun h54 => ?_) (fun h54 => ?_) Z))))))
        ·refine u3 h54 H fun h55 H=>ze Z Z h54 (zd (.dat _) Z) (ze Z Z h54 (zd (.dat _) Z) (yg (j:=12) Z Z (fun h56 => ?_) (fun h56 => ?_) Z))
         ·refine u1 h56 H fun h57 H=>ze Z Z h56 (zd (.dat _) Z) (ze Z Z h56 (zd (.dat _) Z) (ze Z Z h56 (jh tyU9 Z Z h51) (bE H fun r58 h59 H=>ze Z Z h56 (zm (kr (x50.toNat:Int) r58 h59) ⟨.inl Z,U⟩) (ze Z Z h56 (wn Z Z) (ze Z Z h54 (zz Z (bTT h57) Z) (ze Z Z h54 (zd (.dat _) Z) (yg (j:=19) Z Z (fun h60 => ?_) (fun h60 => ?_) Z)))))))
          ·exact u1 h60 H fun h61 H=>ze Z Z h60 (zd (.dat _) Z) (ze Z Z h60 (zd (.dat _) Z) (ze Z Z h60 (jh tyU9 Z Z h51) (bE H fun r62 h63 H=>ze Z Z h60 (zm (kr (x50.toNat:Int) r62 h63) ⟨.inl Z,U⟩) (ze Z Z h60 (wn Z Z) (ze Z Z h54 (zz Z (bTT h61) Z) (za (zv Z (bFF h55) Z) ⟨decide (r62≤102),H,⟨Z,Z,Z,Z,Z,U⟩,U⟩))))))
          ·exact u2 h60 H fun h64 H=>zc Z Z h60 (zc Z Z h60 (zc Z Z h60 (zc Z Z h60 (zc Z Z h60 (ze Z Z h54 (zv Z (bFF h64) Z) (za (zv Z (bFF h55) Z) ⟨false,H,⟨Z,Z,Z,Z,Z,U⟩,U⟩))))))
         ·exact u2 h56 H fun h65 H=>zc Z Z h56 (zc Z Z h56 (zc Z Z h56 (zc Z Z h56 (zc Z Z h56 (ze Z Z h54 (zv Z (bFF h65) Z) (ze Z Z h54 (zd (.dat _) Z) (zc Z Z Z (zc Z Z Z (zc Z Z Z (zc Z Z Z (zc Z Z Z (ze Z Z h54 (zv Z Z Z) (za (zv Z (bFF h55) Z) ⟨false,H,⟨Z,Z,Z,Z,Z,U⟩,U⟩)))))))))))))
        ·exact u4 h54 H fun h66 H=>zc Z Z h54 (zc Z Z h54 (yz Z Z (yz Z Z (yz Z Z (yz Z Z (yz Z Z (zc Z Z h54 (zc Z Z h54 (yz Z Z (yz Z Z (yz Z Z (yz Z Z (yz Z Z (zc Z Z h54 (za (zz Z (bTT h66) Z) ⟨true,H,⟨Z,Z,Z,Z,Z,U⟩,U⟩)))))))))))))))
       ·refine u2 h52 H fun h67 H=>zc Z Z h52 (zc Z Z h52 (zc Z Z h52 (zc Z Z h52 (za (zv Z (bFF h67) Z) (qd Z (ze Z Z Z (zd (.dat _) Z) (ze Z Z Z (zd (.dat _) Z) (yg (j:=12) Z Z (fun h68 => ?_) (fun h68 => ?_) Z))))))))
        ·refine u1 h68 H fun h69 H=>ze Z Z h68 (zd (.dat _) Z) (ze Z Z h68 (zd (.dat _) Z) (ze Z Z h68 (jh tyU9 Z Z h51) (bE H fun r70 h71 H=>ze Z Z h68 (zm (kr (x50.toNat:Int) r70 h71) ⟨.inl Z,U⟩) (ze Z Z h68 (wn Z Z) (ze Z Z Z (zz Z (bTT h69) Z) (ze Z Z Z (zd (.dat _) Z) (yg (j:=19) Z Z (fun h72 => ?_) (fun h72 => ?_) Z)))))))
         ·exact u1 h72 H fun h73 H=>ze Z Z h72 (zd (.dat _) Z) (ze Z Z h72 (zd (.dat _) Z) (ze Z Z h72 (jh tyU9 Z Z h51) (bE H fun r74 h75 H=>ze Z Z h72 (zm (kr (x50.toNat:Int) r74 h75) ⟨.inl Z,U⟩) (ze Z Z h72 (wn Z Z) (ze Z Z Z (zz Z (bTT h73) Z) (za (zv Z Z Z) ⟨decide (r74≤102),H,⟨Z,Z,Z,Z,Z,U⟩,U⟩))))))
         ·exact u2 h72 H fun h76 H=>zc Z Z h72 (zc Z Z h72 (zc Z Z h72 (zc Z Z h72 (zc Z Z h72 (ze Z Z Z (zv Z (bFF h76) Z) (za (zv Z Z Z) ⟨false,H,⟨Z,Z,Z,Z,Z,U⟩,U⟩))))))
        ·exact u2 h68 H fun h77 H=>zc Z Z h68 (zc Z Z h68 (zc Z Z h68 (zc Z Z h68 (zc Z Z h68 (ze Z Z Z (zv Z (bFF h77) Z) (ze Z Z Z (zd (.dat _) Z) (zc Z Z Z (zc Z Z Z (zc Z Z Z (zc Z Z Z (zc Z Z Z (ze Z Z Z (zv Z Z Z) (za (zv Z Z Z) ⟨false,H,⟨Z,Z,Z,Z,Z,U⟩,U⟩)))))))))))))
      ·rintro v78 H
       replace H:xt v14 v46 v47 v78=some q48:=H
       unfold xt at H
       refine zg _ Z (fun h79 => ?_) (fun h79 => ?_)
       ·exact tE h79 H fun H=>zb hN Z (qe Z (yt ⟨48,H,⟨Z,Z,Z,Z,U⟩,U⟩))
       ·refine fE h79 H fun H=>zl (zf (zb hN Z (qd Z (qd Z (bE H fun x80 h81 H=>za (jh tyU9 Z Z h81) (za (yu Z Z) (zg _ Z (fun h82 => ?_) (fun h82 => ?_))))))))
        ·refine tE h82 H fun H=>zf (zb hN Z (qd Z (za (qp Z Z) (zg _ Z (fun h83 => ?_) (fun h83 => ?_)))))
         ·refine tE h83 H fun H=>zb hN Z (qe Z (zi ?_))
          replace H:=retl H hq48
          cases H
          exact ⟨U,.inl Z,U⟩
         ·exact fE h83 H fun H=>zl (zb hN Z (qe Z (yt ⟨95,H,⟨Z,Z,Z,Z,U⟩,U⟩)))
        ·refine fE h82 H fun H=>zl (zf (zb hN Z (qd Z (za (yu Z Z) (zg _ Z (fun h84 => ?_) (fun h84 => ?_))))))
         ·refine tE h84 H fun H=>zb hN Z (qe Z (zi ?_))
          replace H:=retl H hq48
          cases H
          exact ⟨U,.inl Z,U⟩
         ·exact fE h84 H fun H=>zl (zp hN Z (qe Z ⟨33,H,⟨Z,Z,Z,Z,U⟩,U⟩))
     ·rintro v85 H
      replace H:z3t v47 v85=some q48:=H
      unfold z3t at H
      exact zp hN Z (qd Z (za (yk _ Z Z (.inl ⟨Z,Z⟩)) (qe Z ⟨_,yx H,⟨Z,Z,Z,Z,U⟩,U⟩)))
    ·refine fE h49 H fun H=>yt ?_
     replace H:=outl H hq48
     exact ⟨v46,H,⟨Z,U⟩,U⟩
   ·rintro v86 H
    replace H:y0m v86=some r:=H
    unfold y0m at H
    refine zb hN Z (qd Z (za (qp Z Z) (qe Z (zi ?_))))
    cases H
    exact ⟨U,.inl Z,U⟩
end Go.Proofs.YtbndlmnjeofkdaaGreatDoor
