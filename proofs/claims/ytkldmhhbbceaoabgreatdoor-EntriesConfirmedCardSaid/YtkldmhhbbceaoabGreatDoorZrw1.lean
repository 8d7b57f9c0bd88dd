/- Walks along the models. Printed by a program. -/
import Derived.Test.YtkldmhhbbceaoabGreatDoorZrc
namespace Go.Proofs.YtkldmhhbbceaoabGreatDoor
open Go.RowKit
set_option linter.unusedVariables false
set_option maxRecDepth 100000
set_option maxHeartbeats 2000000
theorem y0j (x1:Int) (n2:Int) (r:(Int)) (H:Qh x1 n2=some r):Fn Tryz.prog 59 [vint x1,vint n2] (zw [vint r]):=by
 refine ⟨by kernel_rfl,yh (us:=[vint r]) Tryz.func59 Z Z Z Z fun X hN => ?_⟩
 unfold Qh at H
 refine zb hN Z (qe Z (zg (zb hN Z (qd Z (za (ye Z Z) (zh _ Z (fun h3 => ?_) (fun h3 => ?_)))))))
 ·refine tE h3 H fun H=>zb hN Z (qe Z (zk ?_))
  cases H
  exact ⟨U,.inl Z,U⟩
 ·refine fE h3 H fun H=>zl (zb hN Z (qd Z (qd Z (gE H fun h4 H=>za (y2o Z Z h4) (qe Z (yf (ι:=Int) (fun i=>[(0,.dat (vint i))]) (fun i=>[]) (fun i=>z2m i=some r) (fun i=>Z) ?_ ?_))))))
  ·skip
   refine zb hN Z (qd Z (za (ye Z Z) (zh _ Z (fun h5 => ?_) (fun h5 => ?_))))
   ·exact tE h5 H fun H=>zu hN Z (qd Z (qd Z (za (qn _ Z Z (.inl ⟨Z,Z⟩)) (qe Z ⟨wr ((Int.tmod x1 n2)+n2),H,⟨Z,U⟩,U⟩))))
   ·exact fE h5 H fun H=>zl ⟨(Int.tmod x1 n2),H,⟨Z,U⟩,U⟩
  ·rintro x6 H
   replace H:z2m x6=some r:=H
   unfold z2m at H
   refine zb hN Z (qd Z (qe Z (zk ?_)))
   cases H
   exact ⟨U,.inl Z,U⟩
theorem ut (s1:zn) (n2:Int) (r:(Int×zn)) (H:jz s1 n2=some r):Imp Tryz.prog 21 25 (yx s1) [vint n2] (zw [vint r.1]) (yx r.2):=by
 refine jb (us:=[vint r.1]) (cs':=(yx r.2)) (by kernel_rfl) Tryz.func21 Z Z Z Z fun X bl hN => ?_
 unfold jz at H
 refine zb hN Z (qe Z (zb hN Z (za (zf (.ptr _ _) Z) (za (ju Z) (za (zp z27 Z) (zo (zz tyS3 Z Z) Z (za (qn _ Z Z (.inl ⟨Z,Z⟩)) (za (ju Z) (za (zp z27 Z) (zi (wz tyS3 Z Z Z Z) Z (zg (zb hN Z (za (zf (.ptr _ _) Z) (za (ju Z) (za (zp z56 Z) (zo (zz z5w Z Z) Z (za (yz z5u Z) (za (yt Z Z) (zh _ Z (fun h3 => ?_) (fun h3 => ?_))))))))))))))))))))
 ·refine tE h3 H fun H=>zb hN Z (za (zf (.ptr _ _) Z) (za (ju Z) (za (zp z27 Z) (zo (zz tyS3 Z Z) Z (za (qn _ Z Z (.inr (.inr ⟨Z,Z⟩))) (qd Z (bE H fun r4 h5 H=>za (zm (y0j (wr ((wr (s1.at_+1)) * 7919)) n2 r4 h5) ⟨.inl Z,.inl Z,U⟩) (qe Z (zk ?_)))))))))
  cases H
  exact ⟨U,⟨.inl Z,U⟩,Z⟩
 ·refine fE h3 H fun H=>zl (zg (vr mixed hN Z Z (za (zf (.ptr _ _) Z) (za (ju Z) (za (zp z27 Z) (zo (zz tyS3 Z Z) Z (za (qn _ Z Z (.inr (.inl ⟨Z,Z⟩))) (za (zf (.ptr _ _) Z) (za (ju Z) (za (zp z56 Z) (zo (zz z5w Z Z) Z (za (yz z5u Z) (gE H fun h6 H=>za (y2o Z Z h6) (qe Z ⟨Z,?_⟩))))))))))))))
  refine zg (vr mixed hN Z Z (za (zf (.ptr _ _) Z) (za (ju Z) (za (zp z27 Z) (zo (zz tyS3 Z Z) Z (za (qn _ Z Z (.inr (.inl ⟨Z,Z⟩))) (za (zf (.ptr _ _) Z) (za (ju Z) (za (zp z56 Z) (zo (zz z5w Z Z) Z (za (yz z5u Z) (gE H fun h7 H=>za (y8p Z Z h7.1 h7.2) (qe Z ⟨Z,?_⟩)))))))))))))
  refine zb hN Z (za (zf (.ptr _ _) Z) (za (ju Z) (za (zp z56 Z) (zo (zz z5w Z Z) Z (qd Z (bE H fun x8 h9 H=>za (kr y2b (fun _=>Z) Z Z h9) (za (qo tyS3 Z (qa (jj h9).2) Z) (bE H fun r10 h11 H=>za (zm (y0j x8 1073741824 r10 h11) ⟨.inl Z,.inl Z,U⟩) (qd Z (qd Z (za (qn _ Z Z (.inl ⟨Z,Z⟩)) (za (qn _ Z Z (.inr (.inr ⟨Z,Z⟩))) (za (qn _ Z Z (.inl ⟨Z,Z⟩)) (qd Z (bE H fun r12 h13 H=>za (zm (y0j (wr (r10+(wr (((wr ((wr (s1.at_+1)) - 1)) / (s1.L.length:Int)) * (wr (7919+(Int.tmod (wr ((wr (s1.at_+1)) - 1)) (s1.L.length:Int)))))))) n2 r12 h13) ⟨.inl Z,.inl Z,U⟩) (qe Z (zk ?_)))))))))))))))))
  cases H
  exact ⟨U,⟨.inl Z,U⟩,Z⟩
theorem vg (s1:zn) (l2:(List Bs)) (r:(Bs×zn)) (H:wo s1 l2=some r):Imp Tryz.prog 23 25 (yx s1) [vlst (List.map zt l2)] (zw [vstr r.1]) (yx r.2):=by
 refine jb (us:=[vstr r.1]) (cs':=(yx r.2)) (by kernel_rfl) Tryz.func23 Z Z Z Z fun X bl hN => ?_
 unfold wo at H
 refine zb hN Z (qe Z (zb hN Z (qd Z (za (zf (.ptr _ _) Z) (qd Z (za (yz we Z) (bE H fun r3 h4 H=>zi (yj (ut s1 (l2.length:Int) r3 h4) Z ⟨.inl Z,U⟩ Z) Z (bE H fun x5 h6 H=>za (kr wy (fun _=>Z) Z Z h6) (za (qo tyS9 Z (qa (jj h6).2) Z) (qe Z (zk ?_)))))))))))
 cases H
 exact ⟨U,⟨.inl Z,U⟩,Z⟩
theorem vh (s1:zn) (n2:Int) (r:(Bool×zn)) (H:wv s1 n2=some r):Imp Tryz.prog 8 25 (yx s1) [vint n2] (zw [zj r.1]) (yx r.2):=by
 refine jb (us:=[zj r.1]) (cs':=(yx r.2)) (by kernel_rfl) Tryz.func8 Z Z Z Z fun X bl hN => ?_
 unfold wv at H
 refine zb hN Z (qe Z (zb hN Z (za (zf (.ptr _ _) Z) (qd Z (bE H fun r3 h4 H=>zi (yj (ut s1 n2 r3 h4) Z ⟨.inl Z,U⟩ Z) Z (za (yt Z Z) (qe Z (zk ?_))))))))
 cases H
 exact ⟨U,⟨.inl Z,U⟩,Z⟩
theorem z4p (s1:zn) (low2:Int) (high3:Int) (r:(Int×zn)) (H:xm s1 low2 high3=some r):Imp Tryz.prog 31 25 (yx s1) [vint low2,vint high3] (zw [vint r.1]) (yx r.2):=by
 refine jb (us:=[vint r.1]) (cs':=(yx r.2)) (by kernel_rfl) Tryz.func31 Z Z Z Z fun X bl hN => ?_
 unfold xm at H
 refine zb hN Z (qe Z (zg (zb hN Z (qd Z (qd Z (za (ye Z Z) (zh _ Z (fun h4 => ?_) (fun h4 => ?_))))))))
 ·refine tE h4 H fun H=>zb hN Z (qd Z (qe Z (zk ?_)))
  cases H
  exact ⟨U,⟨.inl Z,U⟩,Z⟩
 ·refine fE h4 H fun H=>zl (zb hN Z (qd Z (za (zf (.ptr _ _) Z) (qd Z (qd Z (za (qn _ Z Z (.inr (.inl ⟨Z,Z⟩))) (za (qn _ Z Z (.inl ⟨Z,Z⟩)) (bE H fun r5 h6 H=>zi (yj (ut s1 (wr ((wr (high3 - low2))+1)) r5 h6) Z ⟨.inl Z,U⟩ Z) Z (za (qn _ Z Z (.inl ⟨Z,Z⟩)) (qe Z (zk ?_)))))))))))
  cases H
  exact ⟨U,⟨.inl Z,U⟩,Z⟩
theorem z95 (l:List Bs) (sep r:Bs) (H:jx l sep=some r):Fn Tryz.prog 67 [vlst (List.map zt l),vstr sep] (zw [vstr r]):=by
 obtain ⟨h1,h2,rfl⟩:=x3x H
 refine xv (by kernel_rfl) fun M w vs hM h => ?_
 obtain ⟨hl,hv⟩:=h
 obtain ⟨a,ha,hap⟩:=hv 0 _ rfl
 obtain ⟨s,hs,hsp⟩:=hv 1 _ rfl
 have hsp:s = .string ⟨sep.toArray⟩:=hsp
 subst hsp
 have hvs:vs.toArray = #[a,.string ⟨sep.toArray⟩]:=by
  rcases vs with _ | ⟨x,_ | ⟨y,_ | ⟨z,t⟩⟩⟩
  ·cases ha
  ·cases hs
  ·cases ha; cases hs; rfl
  ·simp at hl
 rw [hvs]
 obtain ⟨A,c,q1,q2,q3⟩:=hap
 simp only [List.length_map] at q1 q2
 subst q1
 by_cases hne:l=[]
 ·subst hne
  refine (Tryz.strings_Join_none A c ⟨sep.toArray⟩ w).mono ?_
  rintro e w' ⟨rfl,rfl⟩
  exact ⟨_,Z,Z,Kp.refl _ _⟩
 ·obtain ⟨b,off,size,rfl,hMb,arr,t,fz,q5,q6,q7⟩:=q3 (by simpa using hne)
  have hsz:size=1:=by
   cases hq:l with
   | nil=>exact absurd hq hne
   | cons x l'=>have:=q6 (zt x) (by rw [hq]; simp); simpa using this.symm
  subst hsz
  have e1:((l.map fun x=>ByteArray.mk x.toArray).map (·.data.toList))=l:=by
   rw [List.map_map]
   exact (List.map_congr_left fun x _=>Z).trans (List.map_id l)
  have hj:=Tryz.strings_Join b off c (l.map fun x=>ByteArray.mk x.toArray) ⟨sep.toArray⟩ w (fun j x hx=>by
   rw [List.getElem?_map] at hx
   cases hq:l[j]? with
   | none=>rw [hq] at hx; cases hx
   | some y =>
    rw [hq] at hx
    cases hx
    obtain ⟨v,r1,r2,_⟩:=q7 j 0 (zt y) (vstr y) (by rw [List.getElem?_map,hq]; rfl) rfl
    have r2:v = .string ⟨y.toArray⟩:=r2
    rw [cell_of_row w b _ _ _ _ q5]
    simp only [Nat.mul_one,Nat.add_zero] at r1
    rw [r1,r2]) (Qq q5) (by simp; omega) (by simpa using q2) (by rw [e1]; simp only; omega)
  rw [List.length_map,e1] at hj
  refine hj.mono ?_
  rintro e w' ⟨rfl,hb⟩
  exact ⟨_,Z,Z,Kp.of_below hb⟩
theorem Ql (s1:zn) (many2:Int) (between3:Bs) (l4:(List Bs)) (r:(Bs×zn)) (H:jo s1 many2 between3 l4=some r):Imp Tryz.prog 30 25 (yx s1) [vint many2,vstr between3,vlst (List.map zt l4)] (zw [vstr r.1]) (yx r.2):=by
 refine jb (us:=[vstr r.1]) (cs':=(yx r.2)) (by kernel_rfl) Tryz.func30 Z Z Z Z fun X bl hN => ?_
 unfold jo at H
 refine zb hN Z (qe Z (zb hN Z (qe Z (zg (zb hN Z (qd Z (qd Z (yg (kl 9 1 9 1 Z Z Z (gE H fun h10 H=>y1b (fun (k8:Nat) (s:(List Int)×Int×(List Bs))=>[(0,.ptr 0 0),(2,.dat (vstr between3)),(3,.dat (vlst (List.map zt l4))),(9,.row 1 s.2.2.length),(10,.dat (vint many2)),(11,.dat (vint (k8:Int)))]) (fun (k8:Nat) (s:(List Int)×Int×(List Bs))=>[(0,.box (some bl) 25 [.dat (vlst (List.map qm s.1)),.dat (vint s.2.1)]),(1,.row 9 1 (List.map zt s.2.2))]) (s1.L,s1.at_,[]) H ⟨Z,Z,Z,Z,Z,Z,U⟩ ⟨Z,Z,U⟩ (fun _ _=>Z) ?_ ?_))))))))))
 ·rintro ⟨c5,c6,l7⟩ H
  replace H:z2i between3 c5 c6 l7=some r:=H
  unfold z2i at H
  refine zb hN Z (za (ye Z Z) (zg (zh _ Z (fun h=>(x02 h).elim) (fun h => ?_))))
  refine qc (zg (z8x 9 1 Z Z Z (zu hN Z (qd Z (qd Z (bE H fun r11 h12 H=>za (zm (z95 l7 between3 r11 h12) ⟨.inl Z,.inl Z,U⟩) (qe Z (zk ?_))))))))
  cases H
  exact ⟨U,⟨.inl Z,U⟩,Z⟩
 ·rintro k8 ⟨c5,c6,l7⟩ q9 h13 H hq9
  replace H:z2h l4 k8 c5 c6 l7=some q9:=H
  unfold z2h at H
  refine zb hN Z (za (ye Z Z) (zg (zh _ Z (fun h => ?_) (fun h=>(x03 h13 h).elim))))
  refine zl (zg (yg (zu hN Z (za (zf (.row _ _) Z) (za (zf (.ptr _ _) Z) (qd Z (bE H fun r14 h15 H=>zi (yj (vg (zn.mk c5 c6) l4 r14 h15) Z ⟨.inl Z,U⟩ Z) Z (za (yd (u':=vlst (List.map zt [r14.1])) (yl [[_]] yr ⟨Z,.inl ⟨_,Z,Z,Z⟩,Z,U⟩ Z Z) Z) (gE H fun h16 H=>zi (vu yr (fun _=>Z) Z Z Z ⟨by simp,by first | (simp; done) | simpa using h16⟩ Z) Z ?_)))))))))
  exact za (qi (.row _ _) Z) (zu hN Z (za (qs Z Z (by omega)) (qd Z ⟨_,qj H,⟨Z,Z,Z,Z,Z,Z,U⟩,⟨Z,Z,U⟩⟩)))
theorem x3e (s1:zn) (r:(Bs×zn)) (H:z4b s1=some r):Imp Tryz.prog 24 25 (yx s1) [] (zw [vstr r.1]) (yx r.2):=by
 refine jb (us:=[vstr r.1]) (cs':=(yx r.2)) (by kernel_rfl) Tryz.func24 Z Z Z Z fun X bl hN => ?_
 unfold z4b at H
 refine zb hN Z (qe Z (zb hN Z (za (zf (.ptr _ _) Z) (za (zf (.ptr _ _) Z) (bE H fun r2 h3 H=>zi (yj (z4p s1 1 2 r2 h3) Z ⟨.inl Z,.inl Z,U⟩ Z) Z (za (yd (u':=vlst (List.map zt [[109,97,120,45,97,103,101,61,51,48],[109,97,120,45,97,103,101,61,48],[109,105,110,45,102,114,101,115,104,61,50,48],[109,97,120,45,115,116,97,108,101,61,49,53],[110,111,45,99,97,99,104,101],[111,110,108,121,45,105,102,45,99,97,99,104,101,100],[109,97,120,45,115,116,97,108,101,61,49,48,48,48],[110,111,45,115,116,111,114,101]])) (yl [[_],[_],[_],[_],[_],[_],[_],[_]] yr ⟨Z,.inl ⟨_,Z,Z,Z⟩,Z,Z,.inl ⟨_,Z,Z,Z⟩,Z,Z,.inl ⟨_,Z,Z,Z⟩,Z,Z,.inl ⟨_,Z,Z,Z⟩,Z,Z,.inl ⟨_,Z,Z,Z⟩,Z,Z,.inl ⟨_,Z,Z,Z⟩,Z,Z,.inl ⟨_,Z,Z,Z⟩,Z,Z,.inl ⟨_,Z,Z,Z⟩,Z,U⟩ Z Z) Z) (bE H fun r4 h5 H=>zi (yj (Ql r2.2 r2.1 [44,32] ([[109,97,120,45,97,103,101,61,51,48],[109,97,120,45,97,103,101,61,48],[109,105,110,45,102,114,101,115,104,61,50,48],[109,97,120,45,115,116,97,108,101,61,49,53],[110,111,45,99,97,99,104,101],[111,110,108,121,45,105,102,45,99,97,99,104,101,100],[109,97,120,45,115,116,97,108,101,61,49,48,48,48],[110,111,45,115,116,111,114,101]]) r4 h5) Z ⟨.inl Z,.inl Z,.inl Z,U⟩ Z) Z (qe Z (yf (ι:=Bs×(List Int)×Int) (fun i=>[(3,.dat (vstr i.1))]) (fun i=>[(0,.box (some bl) 25 [.dat (vlst (List.map qm i.2.1)),.dat (vint i.2.2)])]) (fun i=>z2l i.1 i.2.1 i.2.2=some r) (fun i=>Z) ?_ ?_)))))))))
 ·skip
  refine zb hN Z (za (zf (.ptr _ _) Z) (bE H fun r6 h7 H=>zi (yj (vh r4.2 20 r6 h7) Z ⟨.inl Z,U⟩ Z) Z (zh _ Z (fun h8 => ?_) (fun h8 => ?_))))
  ·exact tE h8 H fun H=>zu hN Z (za (zf (.ptr _ _) Z) (za (yd (u':=vlst (List.map zt [[109,97,120,45,115,116,97,108,101],[109,105,110,45,102,114,101,115,104,61,120]])) (yl [[_],[_]] yr ⟨Z,.inl ⟨_,Z,Z,Z⟩,Z,Z,.inl ⟨_,Z,Z,Z⟩,Z,U⟩ Z Z) Z) (bE H fun r9 h10 H=>zi (yj (vg r6.2 ([[109,97,120,45,115,116,97,108,101],[109,105,110,45,102,114,101,115,104,61,120]]) r9 h10) Z ⟨.inl Z,U⟩ Z) Z (qe Z ⟨(r9.1,r9.2.L,r9.2.at_),H,⟨Z,U⟩,⟨Z,U⟩⟩))))
  ·exact fE h8 H fun H=>zl ⟨(r4.1,r6.2.L,r6.2.at_),H,⟨Z,U⟩,⟨Z,U⟩⟩
 ·rintro ⟨t11,c12,c13⟩ H
  replace H:z2l t11 c12 c13=some r:=H
  unfold z2l at H
  refine zb hN Z (qd Z (qe Z (zk ?_)))
  cases H
  exact ⟨U,⟨.inl Z,U⟩,Z⟩
theorem z94 (s:Bs) (n:Int) (r:Bs) (H:Zg s n=some r):Fn Tryz.prog 27 [vstr s,vint n] (zw [vstr r]):=by
 obtain ⟨h0,h1,h2,rfl⟩:=y99 H
 obtain ⟨c,rfl⟩:=Int.eq_ofNat_of_zero_le h0
 refine y0z (by kernel_rfl) fun M w vs h => ?_
 have hv:=km (us:=[.string ⟨s.toArray⟩,.int .i64 c]) h
 subst hv
 have hs:(ByteArray.mk s.toArray).size=s.length:=by simp [ByteArray.size]
 refine (Tryz.strings_Repeat ⟨s.toArray⟩ c w (by omega) (by rw [hs]; exact Nat.le_trans (Nat.mul_le_mul h2 (show c≤1000000 by omega)) (by decide))).mono ?_
 rintro e w' ⟨rfl,hb⟩
 exact ⟨_,Z,by simp [zw,vstr,vval],Kp.of_below hb⟩
theorem x3d (s1:zn) (t2:Bs) (v3:Bs) (r:(Bs×zn)) (H:z4a s1 t2 v3=some r):Imp Tryz.prog 60 25 (yx s1) [vstr t2,vstr v3] (zw [vstr r.1]) (yx r.2):=by
 refine jb (us:=[vstr r.1]) (cs':=(yx r.2)) (by kernel_rfl) Tryz.func60 Z Z Z Z fun X bl hN => ?_
 unfold z4a at H
 refine zb hN Z (qe Z (zg (zb hN Z (qd Z (za (vo Z Z) (qd Z (wj Z Z (fun hc=>zf (.dat _) Z) (wj Z Z (fun hc=>vo (cnd (c:=(!(decide (t2=[])))) hc) Z) (za (ki Z Z (fun hb=>(cnd (c:=(!(decide (t2=[])))) (notI hb)))) (zh _ Z (fun h4 => ?_) (fun h4 => ?_)))))))))))
 ·refine tE h4 H fun H=>zb hN Z (qd Z (qe Z (zk ?_)))
  cases H
  exact ⟨U,⟨.inl Z,U⟩,Z⟩
 ·refine fE h4 H fun H=>zl (zb hN Z (za (zf (.ptr _ _) Z) (qd Z (za (qh tyU9 Z) (bE H fun r5 h6 H=>zi (yj (ut s1 (t2.length:Int) r5 h6) Z ⟨.inl Z,U⟩ Z) Z (qe Z (zb hN Z (qd Z (za (zf (.ptr _ _) Z) (qd Z (za (qh tyU9 Z) (bE H fun r7 h8 H=>zi (yj (ut r5.2 (v3.length:Int) r7 h8) Z ⟨.inl Z,U⟩ Z) Z (bE H fun x9 h10 H=>za (ui tyU9 Z Z h10) (qe Z (zg (zb hN Z (za (zf (.ptr _ _) Z) (bE H fun r11 h12 H=>zi (yj (ut r7.2 3 r11 h12) Z ⟨.inl Z,U⟩ Z) Z ?_))))))))))))))))))
  refine yg (zb hN Z (za (yt Z Z) (qe Z (zh _ Z (fun h13 => ?_) (fun h13 => ?_)))))
  ·refine tE h13 H fun H=>zg (vr mixed hN Z Z (qd Z (qd Z (bE H fun l14 h15 H=>za (jf tyU9 Z Z Z h15) (qd Z (za (kv tyU5 z5v Z) (za (y20 z5v Z tyU9 Z) (gE H fun h16 H=>za (uy Z Z (Nat.le_trans h16 (by decide))) (qd Z (qd Z (za (qn _ Z Z (.inl ⟨Z,Z⟩)) (bE H fun l17 h18 H=>za (jf tyU9 Z Z Z h18) (gE H fun h19 H=>za (uy Z Z (Nat.le_trans h19 (by decide))) (qe Z ⟨Z,?_⟩))))))))))))))
   refine zk ?_
   cases H
   exact ⟨U,⟨.inl Z,U⟩,Z⟩
  ·refine fE h13 H fun H=>zb hN Z (za (yt Z Z) (qe Z (zh _ Z (fun h20 => ?_) (fun h20 => ?_))))
   ·refine tE h20 H fun H=>zg (vr mixed hN Z Z (qd Z (qd Z (bE H fun l21 h22 H=>za (jf tyU9 Z Z Z h22) (qd Z (za (kv tyU5 z5v Z) (za (y20 z5v Z tyU9 Z) (gE H fun h23 H=>za (uy Z Z (Nat.le_trans h23 (by decide))) (qd Z (qd Z (bE H fun l24 h25 H=>za (jf tyU9 Z Z Z h25) (gE H fun h26 H=>za (uy Z Z (Nat.le_trans h26 (by decide))) (qe Z ⟨Z,?_⟩)))))))))))))
    refine zk ?_
    cases H
    exact ⟨U,⟨.inl Z,U⟩,Z⟩
   ·refine fE h20 H fun H=>zl (zg (vr mixed hN Z Z (qd Z (qd Z (bE H fun l27 h28 H=>za (jf tyU9 Z Z Z h28) (qd Z (qd Z (za (qn _ Z Z (.inl ⟨Z,Z⟩)) (bE H fun l29 h30 H=>za (jf tyU9 Z Z Z h30) (gE H fun h31 H=>za (uy Z Z (Nat.le_trans h31 (by decide))) (qe Z ⟨Z,?_⟩)))))))))))
    refine zk ?_
    cases H
    exact ⟨U,⟨.inl Z,U⟩,Z⟩
theorem x28 (s1:zn) (r:(Bs×zn)) (H:z34 s1=some r):Imp Tryz.prog 25 25 (yx s1) [] (zw [vstr r.1]) (yx r.2):=by
 refine jb (us:=[vstr r.1]) (cs':=(yx r.2)) (by kernel_rfl) Tryz.func25 Z Z Z Z fun X bl hN => ?_
 unfold z34 at H
 refine zb hN Z (qe Z (zb hN Z (za (zf (.ptr _ _) Z) (za (zf (.ptr _ _) Z) (bE H fun r2 h3 H=>zi (yj (z4p s1 0 4 r2 h3) Z ⟨.inl Z,.inl Z,U⟩ Z) Z (za (yd (u':=vlst (List.map zt [[97],[98],[37,52,49],[37,50,102],[37,55,101],[46],[46,46],[],[120,59,121],[99,37,50,48,100],[37,99,51,37,97,52],[65],[97,46,98],[126]])) (yl [[_],[_],[_],[_],[_],[_],[_],[_],[_],[_],[_],[_],[_],[_]] yr ⟨Z,.inl ⟨_,Z,Z,Z⟩,Z,Z,.inl ⟨_,Z,Z,Z⟩,Z,Z,.inl ⟨_,Z,Z,Z⟩,Z,Z,.inl ⟨_,Z,Z,Z⟩,Z,Z,.inl ⟨_,Z,Z,Z⟩,Z,Z,.inl ⟨_,Z,Z,Z⟩,Z,Z,.inl ⟨_,Z,Z,Z⟩,Z,Z,.inl ⟨_,Z,Z,Z⟩,Z,Z,.inl ⟨_,Z,Z,Z⟩,Z,Z,.inl ⟨_,Z,Z,Z⟩,Z,Z,.inl ⟨_,Z,Z,Z⟩,Z,Z,.inl ⟨_,Z,Z,Z⟩,Z,Z,.inl ⟨_,Z,Z,Z⟩,Z,Z,.inl ⟨_,Z,Z,Z⟩,Z,U⟩ Z Z) Z) (bE H fun r4 h5 H=>zi (yj (Ql r2.2 r2.1 [47] ([[97],[98],[37,52,49],[37,50,102],[37,55,101],[46],[46,46],[],[120,59,121],[99,37,50,48,100],[37,99,51,37,97,52],[65],[97,46,98],[126]]) r4 h5) Z ⟨.inl Z,.inl Z,.inl Z,U⟩ Z) Z (gE H fun h6 H=>za (uy Z Z (Nat.le_trans h6 (by decide))) (qe Z (yf (ι:=Bs×(List Int)×Int) (fun i=>[(0,.ptr 0 0),(3,.dat (vstr i.1))]) (fun i=>[(0,.box (some bl) 25 [.dat (vlst (List.map qm i.2.1)),.dat (vint i.2.2)])]) (fun i=>We i.1 i.2.1 i.2.2=some r) (fun i=>Z) ?_ ?_))))))))))
 ·skip
  refine zb hN Z (za (zf (.ptr _ _) Z) (bE H fun r7 h8 H=>zi (yj (vh r4.2 12 r7 h8) Z ⟨.inl Z,U⟩ Z) Z (zh _ Z (fun h9 => ?_) (fun h9 => ?_))))
  ·exact tE h9 H fun H=>zu hN Z (za (zf (.ptr _ _) Z) (bE H fun r10 h11 H=>za (zm (z94 [37,50,48] 340 r10 h11) ⟨.inl Z,.inl Z,U⟩) (gE H fun h12 H=>za (uy Z Z (Nat.le_trans h12 (by decide))) (za (yd (u':=vlst (List.map zt [[],[97],[47,97,63,98],[47,97,35],[47,37],[47,37,52],[47,37,122,122],[47,127],[47,97,32,98],([47]++r10)])) (yl [[_],[_],[_],[_],[_],[_],[_],[_],[_],[_]] yr ⟨Z,.inl ⟨_,Z,Z,Z⟩,Z,Z,.inl ⟨_,Z,Z,Z⟩,Z,Z,.inl ⟨_,Z,Z,Z⟩,Z,Z,.inl ⟨_,Z,Z,Z⟩,Z,Z,.inl ⟨_,Z,Z,Z⟩,Z,Z,.inl ⟨_,Z,Z,Z⟩,Z,Z,.inl ⟨_,Z,Z,Z⟩,Z,Z,.inl ⟨_,Z,Z,Z⟩,Z,Z,.inl ⟨_,Z,Z,Z⟩,Z,Z,.inl ⟨_,Z,Z,Z⟩,Z,U⟩ Z Z) Z) (bE H fun r13 h14 H=>zi (yj (vg r7.2 ([[],[97],[47,97,63,98],[47,97,35],[47,37],[47,37,52],[47,37,122,122],[47,127],[47,97,32,98],([47]++r10)]) r13 h14) Z ⟨.inl Z,U⟩ Z) Z (qe Z ⟨(r13.1,r13.2.L,r13.2.at_),H,⟨Z,Z,U⟩,⟨Z,U⟩⟩))))))
  ·exact fE h9 H fun H=>zl ⟨(([47]++r4.1),r7.2.L,r7.2.at_),H,⟨Z,Z,U⟩,⟨Z,U⟩⟩
 ·rintro ⟨p15,c16,c17⟩ H
  replace H:We p15 c16 c17=some r:=H
  unfold We at H
  refine yf (ι:=Bs×(List Int)×Int) (fun i=>[(3,.dat (vstr i.1))]) (fun i=>[(0,.box (some bl) 25 [.dat (vlst (List.map qm i.2.1)),.dat (vint i.2.2)])]) (fun i=>z2j i.1 i.2.1 i.2.2=some r) (fun i=>Z) ?_ ?_
  ·skip
   refine zb hN Z (za (zf (.ptr _ _) Z) (bE H fun r18 h19 H=>zi (yj (vh (zn.mk c16 c17) 12 r18 h19) Z ⟨.inl Z,U⟩ Z) Z (zh _ Z (fun h20 => ?_) (fun h20 => ?_))))
   ·exact tE h20 H fun H=>zu hN Z (za (zf (.ptr _ _) Z) (qd Z (bE H fun r21 h22 H=>zi (yj (x3d r18.2 p15 [47,46,37,50,102,65] r21 h22) Z ⟨.inl Z,.inl Z,U⟩ Z) Z (qe Z ⟨(r21.1,r21.2.L,r21.2.at_),H,⟨Z,U⟩,⟨Z,U⟩⟩))))
   ·exact fE h20 H fun H=>zl ⟨(p15,r18.2.L,r18.2.at_),H,⟨Z,U⟩,⟨Z,U⟩⟩
  ·rintro ⟨p23,c24,c25⟩ H
   replace H:z2j p23 c24 c25=some r:=H
   unfold z2j at H
   refine zb hN Z (qd Z (qe Z (zk ?_)))
   cases H
   exact ⟨U,⟨.inl Z,U⟩,Z⟩
theorem x25 (s1:zn) (r:(Bs×zn)) (H:Qg s1=some r):Imp Tryz.prog 26 25 (yx s1) [] (zw [vstr r.1]) (yx r.2):=by
 refine jb (us:=[vstr r.1]) (cs':=(yx r.2)) (by kernel_rfl) Tryz.func26 Z Z Z Z fun X bl hN => ?_
 unfold Qg at H
 refine zb hN Z (qe Z (zb hN Z (za (zf (.ptr _ _) Z) (za (zf (.ptr _ _) Z) (bE H fun r2 h3 H=>zi (yj (z4p s1 0 4 r2 h3) Z ⟨.inl Z,.inl Z,U⟩ Z) Z (za (yd (u':=vlst (List.map zt [[97,61,49],[98,61,50],[97,61],[61,120],[61],[99],[],[97,61,37,52,49,43,37,50,66],[100,61,120,37,50,54,121],[98,61,37,99,51],[97,61,49,61,50],[97,63,98,61,47]])) (yl [[_],[_],[_],[_],[_],[_],[_],[_],[_],[_],[_],[_]] yr ⟨Z,.inl ⟨_,Z,Z,Z⟩,Z,Z,.inl ⟨_,Z,Z,Z⟩,Z,Z,.inl ⟨_,Z,Z,Z⟩,Z,Z,.inl ⟨_,Z,Z,Z⟩,Z,Z,.inl ⟨_,Z,Z,Z⟩,Z,Z,.inl ⟨_,Z,Z,Z⟩,Z,Z,.inl ⟨_,Z,Z,Z⟩,Z,Z,.inl ⟨_,Z,Z,Z⟩,Z,Z,.inl ⟨_,Z,Z,Z⟩,Z,Z,.inl ⟨_,Z,Z,Z⟩,Z,Z,.inl ⟨_,Z,Z,Z⟩,Z,Z,.inl ⟨_,Z,Z,Z⟩,Z,U⟩ Z Z) Z) (bE H fun r4 h5 H=>zi (yj (Ql r2.2 r2.1 [38] ([[97,61,49],[98,61,50],[97,61],[61,120],[61],[99],[],[97,61,37,52,49,43,37,50,66],[100,61,120,37,50,54,121],[98,61,37,99,51],[97,61,49,61,50],[97,63,98,61,47]]) r4 h5) Z ⟨.inl Z,.inl Z,.inl Z,U⟩ Z) Z (qe Z (yf (ι:=Bs×(List Int)×Int) (fun i=>[(3,.dat (vstr i.1))]) (fun i=>[(0,.box (some bl) 25 [.dat (vlst (List.map qm i.2.1)),.dat (vint i.2.2)])]) (fun i=>Wd i.1 i.2.1 i.2.2=some r) (fun i=>Z) ?_ ?_)))))))))
 ·skip
  refine zb hN Z (za (zf (.ptr _ _) Z) (bE H fun r6 h7 H=>zi (yj (vh r4.2 12 r6 h7) Z ⟨.inl Z,U⟩ Z) Z (zh _ Z (fun h8 => ?_) (fun h8 => ?_))))
  ·exact tE h8 H fun H=>zu hN Z (za (zf (.ptr _ _) Z) (za (zf (.ptr _ _) Z) (za (yd (u':=vlst (List.map zt [[120]])) (yl [[_]] yr ⟨Z,.inl ⟨_,Z,Z,Z⟩,Z,U⟩ Z Z) Z) (bE H fun r9 h10 H=>zi (yj (Ql r6.2 101 [38] ([[120]]) r9 h10) Z ⟨.inl Z,.inl Z,.inl Z,U⟩ Z) Z (za (yd (u':=vlst (List.map zt [[35],[97,37],[37,103,49,61,50],[97,32,98],[128],r9.1])) (yl [[_],[_],[_],[_],[_],[_]] yr ⟨Z,.inl ⟨_,Z,Z,Z⟩,Z,Z,.inl ⟨_,Z,Z,Z⟩,Z,Z,.inl ⟨_,Z,Z,Z⟩,Z,Z,.inl ⟨_,Z,Z,Z⟩,Z,Z,.inl ⟨_,Z,Z,Z⟩,Z,Z,.inl ⟨_,Z,Z,Z⟩,Z,U⟩ Z Z) Z) (bE H fun r11 h12 H=>zi (yj (vg r9.2 ([[35],[97,37],[37,103,49,61,50],[97,32,98],[128],r9.1]) r11 h12) Z ⟨.inl Z,U⟩ Z) Z (qe Z ⟨(r11.1,r11.2.L,r11.2.at_),H,⟨Z,U⟩,⟨Z,U⟩⟩)))))))
  ·exact fE h8 H fun H=>zl ⟨(r4.1,r6.2.L,r6.2.at_),H,⟨Z,U⟩,⟨Z,U⟩⟩
 ·rintro ⟨q13,c14,c15⟩ H
  replace H:Wd q13 c14 c15=some r:=H
  unfold Wd at H
  refine zb hN Z (qd Z (qe Z (zk ?_)))
  cases H
  exact ⟨U,⟨.inl Z,U⟩,Z⟩
theorem y47 (s1:zn) (v2:Int) (r:(ya×zn)) (H:z1i s1 v2=some r):Imp Tryz.prog 5 25 (yx s1) [vint v2] (zw [vagg (wl r.1)]) (yx r.2):=by
 refine jb (us:=[vagg (wl r.1)]) (cs':=(yx r.2)) (by kernel_rfl) Tryz.func5 Z Z Z Z fun X bl hN => ?_
 unfold z1i at H
 refine zb hN Z (zi (qz 1 js Z) Z (zb hN Z (qd Z (za (zf (.ptr _ _) Z) (za (yd (u':=vlst (List.map zt [[71,69,84],[71,69,84],[71,69,84],[71,69,84],[72,69,65,68],[80,79,83,84]])) (yl [[_],[_],[_],[_],[_],[_]] yr ⟨Z,.inl ⟨_,Z,Z,Z⟩,Z,Z,.inl ⟨_,Z,Z,Z⟩,Z,Z,.inl ⟨_,Z,Z,Z⟩,Z,Z,.inl ⟨_,Z,Z,Z⟩,Z,Z,.inl ⟨_,Z,Z,Z⟩,Z,Z,.inl ⟨_,Z,Z,Z⟩,Z,U⟩ Z Z) Z) (bE H fun r3 h4 H=>zi (yj (vg s1 ([[71,69,84],[71,69,84],[71,69,84],[71,69,84],[72,69,65,68],[80,79,83,84]]) r3 h4) Z ⟨.inl Z,U⟩ Z) Z (za (zf (.ptr _ _) Z) (za (yd (u':=vlst (List.map zt [[97,46,98],[97,46,98],[65,46,66,58,56,48],[99,46,100]])) (yl [[_],[_],[_],[_]] yr ⟨Z,.inl ⟨_,Z,Z,Z⟩,Z,Z,.inl ⟨_,Z,Z,Z⟩,Z,Z,.inl ⟨_,Z,Z,Z⟩,Z,Z,.inl ⟨_,Z,Z,Z⟩,Z,U⟩ Z Z) Z) (bE H fun r5 h6 H=>zi (yj (vg r3.2 ([[97,46,98],[97,46,98],[65,46,66,58,56,48],[99,46,100]]) r5 h6) Z ⟨.inl Z,U⟩ Z) Z (za (zf (.ptr _ _) Z) (za (yd (u':=vlst (List.map zt [[47,120],[47,120],[47,120,47,46,47],[47,37,55,56],[47,121]])) (yl [[_],[_],[_],[_],[_]] yr ⟨Z,.inl ⟨_,Z,Z,Z⟩,Z,Z,.inl ⟨_,Z,Z,Z⟩,Z,Z,.inl ⟨_,Z,Z,Z⟩,Z,Z,.inl ⟨_,Z,Z,Z⟩,Z,Z,.inl ⟨_,Z,Z,Z⟩,Z,U⟩ Z Z) Z) (bE H fun r7 h8 H=>zi (yj (vg r5.2 ([[47,120],[47,120],[47,120,47,46,47],[47,37,55,56],[47,121]]) r7 h8) Z ⟨.inl Z,U⟩ Z) Z (za (zf (.ptr _ _) Z) (za (yd (u':=vlst (List.map zt [[],[],[98,61,50,38,97,61,49],[97,61,49,38,98,61,50]])) (yl [[_],[_],[_],[_]] yr ⟨Z,.inl ⟨_,Z,Z,Z⟩,Z,Z,.inl ⟨_,Z,Z,Z⟩,Z,Z,.inl ⟨_,Z,Z,Z⟩,Z,Z,.inl ⟨_,Z,Z,Z⟩,Z,U⟩ Z Z) Z) (bE H fun r9 h10 H=>zi (yj (vg r7.2 ([[],[],[98,61,50,38,97,61,49],[97,61,49,38,98,61,50]]) r9 h10) Z ⟨.inl Z,U⟩ Z) Z (za (yd (u':=vagg [vint v2,vstr r3.1,vstr r5.1,vstr r7.1,vstr r9.1,vstr [],vnil,vstr []]) (qy [(0,[vint v2]),(1,[vstr r3.1]),(2,[vstr r5.1]),(3,[vstr r7.1]),(4,[vstr r9.1])] js z23 Z ⟨Z,.inl ⟨_,Z,Z,Z⟩,Z,Z,.inl ⟨_,Z,Z,Z⟩,Z,Z,.inl ⟨_,Z,Z,Z⟩,Z,Z,.inl ⟨_,Z,Z,Z⟩,Z,Z,.inl ⟨_,Z,Z,Z⟩,Z,U⟩) Z) (zi (qz 2 js Z) Z (zi (yu qp Z Z Z Z) Z (y6p 2 6 3 57 2 Z Z Z Z ?_)))))))))))))))))))
 refine yf (ι:=(List Int)×Int×(List zd)) (fun i=>[(0,.ptr 0 0),(4,.ptr 1 0),(5,.ptr 2 0)]) (fun i=>[(0,.box (some bl) 25 [.dat (vlst (List.map qm i.1)),.dat (vint i.2.1)]),(1,.box none 28 [.dat (vint 0),.dat (vstr []),.dat (vstr []),.dat (vstr []),.dat (vstr []),.dat (vstr []),.dat (vnil),.dat (vstr [])]),(2,.box none 28 [.dat (vint v2),.dat (vstr r3.1),.dat (vstr r5.1),.dat (vstr r7.1),.dat (vstr r9.1),.dat (vstr []),.row 3 i.2.2.length,.dat (vstr [])]),(3,.row 57 2 (List.map zq i.2.2))]) (fun i=>Wu v2 r3 r5 r7 r9 i.1 i.2.1 i.2.2=some r) (fun i=>Z) ?_ ?_
 ·refine ke (zb hN Z (za (zf (.ptr _ _) Z) (bE H fun r11 h12 H=>zi (yj (vh r9.2 3 r11 h12) Z ⟨.inl Z,U⟩ Z) Z (zh _ Z (fun h13 => ?_) (fun h13 => ?_)))))
  ·refine tE h13 H fun H=>vr mixed hN Z Z (za (zp vn Z) (zo (zz qg Z Z) Z (za (zf (.ptr _ _) Z) (za (yd (u':=vlst (List.map zt [[97,99,99,101,112,116,45,108,97,110,103,117,97,103,101],[65,99,99,101,112,116,45,76,97,110,103,117,97,103,101]])) (yl [[_],[_]] yr ⟨Z,.inl ⟨_,Z,Z,Z⟩,Z,Z,.inl ⟨_,Z,Z,Z⟩,Z,U⟩ Z Z) Z) (bE H fun r14 h15 H=>zi (yj (vg r11.2 ([[97,99,99,101,112,116,45,108,97,110,103,117,97,103,101],[65,99,99,101,112,116,45,76,97,110,103,117,97,103,101]]) r14 h15) Z ⟨.inl Z,U⟩ Z) Z (za (zf (.ptr _ _) Z) (za (yd (u':=vlst (List.map zt [[100,101],[101,110]])) (yl [[_],[_]] yr ⟨Z,.inl ⟨_,Z,Z,Z⟩,Z,Z,.inl ⟨_,Z,Z,Z⟩,Z,U⟩ Z Z) Z) (bE H fun r16 h17 H=>zi (yj (vg r14.2 ([[100,101],[101,110]]) r16 h17) Z ⟨.inl Z,U⟩ Z) Z (za (yd (u':=vagg (zq (zd.mk r14.1 r16.1))) (qy [(0,[vstr r14.1]),(1,[vstr r16.1])] vk ko Z ⟨Z,.inl ⟨_,Z,Z,Z⟩,Z,Z,.inl ⟨_,Z,Z,Z⟩,Z,U⟩) Z) (za (yd (u':=vlst (List.map zq [(zd.mk r14.1 r16.1)])) (yl [_] wm ⟨Z,.inr Z,Z,U⟩ Z Z) Z) (gE H fun h18 H=>zi (vu (C:=zq) (xs:=([]:List zd)) wm (fun _=>Z) Z Z Z ⟨by simp,by first | (simp; done) | simpa using h18⟩ Z) Z ?_)))))))))))
   refine za (zp vn Z) (Zb (Za qg Z Z (by rw [List.length_map]) Z) Z Z ?_)
   refine ⟨Z,?_⟩
   show Cv _ _ _ _
   exact kd ⟨(r16.2.L,r16.2.at_,(([]:List zd)++[(zd.mk r14.1 r16.1)])),H,⟨Z,Z,Z,U⟩,⟨Z,Z,Z,Z,U⟩⟩
  ·refine fE h13 H fun H=>zl ?_
   show Cv _ _ _ _
   exact kd ⟨(r11.2.L,r11.2.at_,([]:List zd)),H,⟨Z,Z,Z,U⟩,⟨Z,Z,(congrArg (fun n=>some (some (AObj.box none 28 [.dat (vint v2),.dat (vstr r3.1),.dat (vstr r5.1),.dat (vstr r7.1),.dat (vstr r9.1),.dat (vstr []),.row 3 n,.dat (vstr [])]))) (show 0=([]:List zd).length from (by simp))),Z,U⟩⟩
 ·rintro ⟨c19,c20,l21⟩ H
  replace H:Wu v2 r3 r5 r7 r9 c19 c20 l21=some r:=H
  unfold Wu at H
  refine yf (ι:=(List Int)×Int×(List zd)) (fun i=>[(0,.ptr 0 0),(4,.ptr 1 0),(5,.ptr 2 0)]) (fun i=>[(0,.box (some bl) 25 [.dat (vlst (List.map qm i.1)),.dat (vint i.2.1)]),(1,.box none 28 [.dat (vint 0),.dat (vstr []),.dat (vstr []),.dat (vstr []),.dat (vstr []),.dat (vstr []),.dat (vnil),.dat (vstr [])]),(2,.box none 28 [.dat (vint v2),.dat (vstr r3.1),.dat (vstr r5.1),.dat (vstr r7.1),.dat (vstr r9.1),.dat (vstr []),.row 3 i.2.2.length,.dat (vstr [])]),(3,.row 57 2 (List.map zq i.2.2))]) (fun i=>Wt v2 r3 r5 r7 r9 i.1 i.2.1 i.2.2=some r) (fun i=>Z) ?_ ?_
  ·refine ke (zb hN Z (za (zf (.ptr _ _) Z) (bE H fun r22 h23 H=>zi (yj (vh (zn.mk c19 c20) 4 r22 h23) Z ⟨.inl Z,U⟩ Z) Z (zh _ Z (fun h24 => ?_) (fun h24 => ?_)))))
   ·refine tE h24 H fun H=>vr mixed hN Z Z (za (zp vn Z) (zo (zz qg Z Z) Z (za (zf (.ptr _ _) Z) (bE H fun r25 h26 H=>zi (yj (x3e r22.2 r25 h26) Z U Z) Z (za (yd (u':=vagg (zq (zd.mk [99,97,99,104,101,45,99,111,110,116,114,111,108] r25.1))) (qy [(0,[vstr [99,97,99,104,101,45,99,111,110,116,114,111,108]]),(1,[vstr r25.1])] vk ko Z ⟨Z,.inl ⟨_,Z,Z,Z⟩,Z,Z,.inl ⟨_,Z,Z,Z⟩,Z,U⟩) Z) (za (yd (u':=vlst (List.map zq [(zd.mk [99,97,99,104,101,45,99,111,110,116,114,111,108] r25.1)])) (yl [_] wm ⟨Z,.inr Z,Z,U⟩ Z Z) Z) (gE H fun h27 H=>zi (vu wm (fun _=>Z) Z Z Z ⟨by simp,by first | (simp; done) | simpa using h27⟩ Z) Z ?_)))))))
    refine za (zp vn Z) (Zb (Za qg Z Z (by rw [List.length_map]) Z) Z Z ?_)
    refine ⟨Z,?_⟩
    show Cv _ _ _ _
    exact kd ⟨(r25.2.L,r25.2.at_,(l21++([(zd.mk [99,97,99,104,101,45,99,111,110,116,114,111,108] r25.1)]))),H,⟨Z,Z,Z,U⟩,⟨Z,Z,Z,Z,U⟩⟩
   ·refine fE h24 H fun H=>zl ?_
    show Cv _ _ _ _
    exact kd ⟨(r22.2.L,r22.2.at_,l21),H,⟨Z,Z,Z,U⟩,⟨Z,Z,Z,Z,U⟩⟩
  ·rintro ⟨c28,c29,l30⟩ H
   replace H:Wt v2 r3 r5 r7 r9 c28 c29 l30=some r:=H
   unfold Wt at H
   refine yf (ι:=(List Int)×Int×(List zd)) (fun i=>[(0,.ptr 0 0),(4,.ptr 1 0),(5,.ptr 2 0)]) (fun i=>[(0,.box (some bl) 25 [.dat (vlst (List.map qm i.1)),.dat (vint i.2.1)]),(1,.box none 28 [.dat (vint 0),.dat (vstr []),.dat (vstr []),.dat (vstr []),.dat (vstr []),.dat (vstr []),.dat (vnil),.dat (vstr [])]),(2,.box none 28 [.dat (vint v2),.dat (vstr r3.1),.dat (vstr r5.1),.dat (vstr r7.1),.dat (vstr r9.1),.dat (vstr []),.row 3 i.2.2.length,.dat (vstr [])]),(3,.row 57 2 (List.map zq i.2.2))]) (fun i=>Ws v2 r3 r5 r7 r9 i.1 i.2.1 i.2.2=some r) (fun i=>Z) ?_ ?_
   ·refine ke (zb hN Z (za (zf (.ptr _ _) Z) (bE H fun r31 h32 H=>zi (yj (vh (zn.mk c28 c29) 12 r31 h32) Z ⟨.inl Z,U⟩ Z) Z (zh _ Z (fun h33 => ?_) (fun h33 => ?_)))))
    ·refine tE h33 H fun H=>zu hN Z (za (zp vn Z) (zo (zz qg Z Z) Z (za (yd (u':=vagg (zq (zd.mk [97,117,116,104,111,114,105,122,97,116,105,111,110] [66,101,97,114,101,114,32,120]))) (qy [(0,[vstr [97,117,116,104,111,114,105,122,97,116,105,111,110]]),(1,[vstr [66,101,97,114,101,114,32,120]])] vk ko Z ⟨Z,.inl ⟨_,Z,Z,Z⟩,Z,Z,.inl ⟨_,Z,Z,Z⟩,Z,U⟩) Z) (za (yd (u':=vlst (List.map zq [(zd.mk [97,117,116,104,111,114,105,122,97,116,105,111,110] [66,101,97,114,101,114,32,120])])) (yl [_] wm ⟨Z,.inr Z,Z,U⟩ Z Z) Z) (gE H fun h34 H=>zi (vu wm (fun _=>Z) Z Z Z ⟨by simp,by first | (simp; done) | simpa using h34⟩ Z) Z ?_)))))
     refine za (zp vn Z) (Zb (Za qg Z Z (by rw [List.length_map]) Z) Z Z ?_)
     refine uz ?_
     show Cv _ _ _ _
     exact kd ⟨(r31.2.L,r31.2.at_,(l30++([(zd.mk [97,117,116,104,111,114,105,122,97,116,105,111,110] [66,101,97,114,101,114,32,120])]))),H,⟨Z,Z,Z,U⟩,⟨Z,Z,Z,Z,U⟩⟩
    ·refine fE h33 H fun H=>zl ?_
     show Cv _ _ _ _
     exact kd ⟨(r31.2.L,r31.2.at_,l30),H,⟨Z,Z,Z,U⟩,⟨Z,Z,Z,Z,U⟩⟩
   ·rintro ⟨c35,c36,l37⟩ H
    replace H:Ws v2 r3 r5 r7 r9 c35 c36 l37=some r:=H
    unfold Ws at H
    refine yf (ι:=(List Int)×Int×(List zd)) (fun i=>[(0,.ptr 0 0),(4,.ptr 1 0),(5,.ptr 2 0)]) (fun i=>[(0,.box (some bl) 25 [.dat (vlst (List.map qm i.1)),.dat (vint i.2.1)]),(1,.box none 28 [.dat (vint 0),.dat (vstr []),.dat (vstr []),.dat (vstr []),.dat (vstr []),.dat (vstr []),.dat (vnil),.dat (vstr [])]),(2,.box none 28 [.dat (vint v2),.dat (vstr r3.1),.dat (vstr r5.1),.dat (vstr r7.1),.dat (vstr r9.1),.dat (vstr []),.row 3 i.2.2.length,.dat (vstr [])]),(3,.row 57 2 (List.map zq i.2.2))]) (fun i=>Wr v2 r3 r5 r7 r9 i.1 i.2.1 i.2.2=some r) (fun i=>Z) ?_ ?_
    ·refine ke (zb hN Z (za (zf (.ptr _ _) Z) (bE H fun r38 h39 H=>zi (yj (vh (zn.mk c35 c36) 8 r38 h39) Z ⟨.inl Z,U⟩ Z) Z (zh _ Z (fun h40 => ?_) (fun h40 => ?_)))))
     ·refine tE h40 H fun H=>vr mixed hN Z Z (za (zp vn Z) (zo (zz qg Z Z) Z (za (zf (.ptr _ _) Z) (za (yd (u':=vlst (List.map zt [[34,118,49,34],[87,47,34,118,50,34,44,32,34,118,49,34],[42],[118,49]])) (yl [[_],[_],[_],[_]] yr ⟨Z,.inl ⟨_,Z,Z,Z⟩,Z,Z,.inl ⟨_,Z,Z,Z⟩,Z,Z,.inl ⟨_,Z,Z,Z⟩,Z,Z,.inl ⟨_,Z,Z,Z⟩,Z,U⟩ Z Z) Z) (bE H fun r41 h42 H=>zi (yj (vg r38.2 ([[34,118,49,34],[87,47,34,118,50,34,44,32,34,118,49,34],[42],[118,49]]) r41 h42) Z ⟨.inl Z,U⟩ Z) Z (za (yd (u':=vagg (zq (zd.mk [105,102,45,110,111,110,101,45,109,97,116,99,104] r41.1))) (qy [(0,[vstr [105,102,45,110,111,110,101,45,109,97,116,99,104]]),(1,[vstr r41.1])] vk ko Z ⟨Z,.inl ⟨_,Z,Z,Z⟩,Z,Z,.inl ⟨_,Z,Z,Z⟩,Z,U⟩) Z) (za (yd (u':=vlst (List.map zq [(zd.mk [105,102,45,110,111,110,101,45,109,97,116,99,104] r41.1)])) (yl [_] wm ⟨Z,.inr Z,Z,U⟩ Z Z) Z) (gE H fun h43 H=>zi (vu wm (fun _=>Z) Z Z Z ⟨by simp,by first | (simp; done) | simpa using h43⟩ Z) Z ?_))))))))
      refine za (zp vn Z) (Zb (Za qg Z Z (by rw [List.length_map]) Z) Z Z ?_)
      refine ⟨Z,?_⟩
      show Cv _ _ _ _
      exact kd ⟨(r41.2.L,r41.2.at_,(l37++([(zd.mk [105,102,45,110,111,110,101,45,109,97,116,99,104] r41.1)]))),H,⟨Z,Z,Z,U⟩,⟨Z,Z,Z,Z,U⟩⟩
     ·refine fE h40 H fun H=>zl ?_
      show Cv _ _ _ _
      exact kd ⟨(r38.2.L,r38.2.at_,l37),H,⟨Z,Z,Z,U⟩,⟨Z,Z,Z,Z,U⟩⟩
    ·rintro ⟨c44,c45,l46⟩ H
     replace H:Wr v2 r3 r5 r7 r9 c44 c45 l46=some r:=H
     unfold Wr at H
     refine yf (ι:=(List Int)×Int×Bs×Bs) (fun i=>[(4,.ptr 1 0),(5,.ptr 2 0)]) (fun i=>[(0,.box (some bl) 25 [.dat (vlst (List.map qm i.1)),.dat (vint i.2.1)]),(1,.box none 28 [.dat (vint 0),.dat (vstr []),.dat (vstr []),.dat (vstr []),.dat (vstr []),.dat (vstr []),.dat (vnil),.dat (vstr [])]),(2,.box none 28 [.dat (vint v2),.dat (vstr r3.1),.dat (vstr r5.1),.dat (vstr i.2.2.1),.dat (vstr i.2.2.2),.dat (vstr []),.row 3 l46.length,.dat (vstr [])]),(3,.row 57 2 (List.map zq l46))]) (fun i=>Wq v2 r3 r5 l46 i.1 i.2.1 i.2.2.1 i.2.2.2=some r) (fun i=>Z) ?_ ?_
     ·refine ke (zb hN Z (za (zf (.ptr _ _) Z) (bE H fun r47 h48 H=>zi (yj (vh (zn.mk c44 c45) 40 r47 h48) Z ⟨.inl Z,U⟩ Z) Z (zh _ Z (fun h49 => ?_) (fun h49 => ?_)))))
      ·refine tE h49 H fun H=>zu hN Z (za (zf (.ptr _ _) Z) (bE H fun r50 h51 H=>zi (yj (x28 r47.2 r50 h51) Z U Z) Z (za (zf (.ptr _ _) Z) (bE H fun r52 h53 H=>zi (yj (x25 r50.2 r52 h53) Z U Z) Z (za (zp z25 Z) (zi (wz tyS9 Z Z Z Z) Z (za (zp z24 Z) (zi (wz tyS9 Z Z Z Z) Z (uz ?_)))))))))
       show Cv _ _ _ _
       exact kd ⟨(r52.2.L,r52.2.at_,r50.1,r52.1),H,⟨Z,Z,U⟩,⟨Z,Z,Z,Z,U⟩⟩
      ·refine fE h49 H fun H=>zl ?_
       show Cv _ _ _ _
       exact kd ⟨(r47.2.L,r47.2.at_,r7.1,r9.1),H,⟨Z,Z,U⟩,⟨Z,Z,Z,Z,U⟩⟩
     ·rintro ⟨c54,c55,c56,c57⟩ H
      replace H:Wq v2 r3 r5 l46 c54 c55 c56 c57=some r:=H
      unfold Wq at H
      refine zg (z8j 2 6 3 rfl rfl rfl (by first | rw [List.length_map] | rfl) ?_)
      refine zu hN Z (zo (yk qp Z Z Z) Z (zi (yu qp Z Z Z Z) Z (zk ?_)))
      cases H
      exact ⟨U,⟨.inl ⟨_,_,_,wl (ya.mk v2 r3.1 r5.1 c56 c57 [] l46 []),Z,Z,Z,Z,qp⟩,U⟩,Z⟩
theorem z7r (s1:zn) (l2:(List Int)) (r:(Int×zn)) (H:Zo s1 l2=some r):Imp Tryz.prog 20 25 (yx s1) [vlst (List.map qm l2)] (zw [vint r.1]) (yx r.2):=by
 refine jb (us:=[vint r.1]) (cs':=(yx r.2)) (by kernel_rfl) Tryz.func20 Z Z Z Z fun X bl hN => ?_
 unfold Zo at H
 refine zb hN Z (qe Z (zb hN Z (qd Z (za (zf (.ptr _ _) Z) (qd Z (za (yz z5u Z) (bE H fun r3 h4 H=>zi (yj (ut s1 (l2.length:Int) r3 h4) Z ⟨.inl Z,U⟩ Z) Z (bE H fun x5 h6 H=>za (kr y2b (fun _=>Z) Z Z h6) (za (qo tyS3 Z (qa (jj h6).2) Z) (qe Z (zk ?_)))))))))))
 cases H
 exact ⟨U,⟨.inl Z,U⟩,Z⟩
theorem x3c (s1:zn) (r:(Bs×zn)) (H:z39 s1=some r):Imp Tryz.prog 29 25 (yx s1) [] (zw [vstr r.1]) (yx r.2):=by
 refine jb (us:=[vstr r.1]) (cs':=(yx r.2)) (by kernel_rfl) Tryz.func29 Z Z Z Z fun X bl hN => ?_
 unfold z39 at H
 refine zb hN Z (qe Z (zb hN Z (za (zf (.ptr _ _) Z) (za (zf (.ptr _ _) Z) (bE H fun r2 h3 H=>zi (yj (z4p s1 0 3 r2 h3) Z ⟨.inl Z,.inl Z,U⟩ Z) Z (za (yd (u':=vlst (List.map zt [[109,97,120,45,97,103,101,61,54,48],[109,97,120,45,97,103,101,61,54,48],[109,97,120,45,97,103,101,61,48],[109,97,120,45,97,103,101,61,49,48],[115,45,109,97,120,97,103,101,61,51,48],[110,111,45,99,97,99,104,101],[112,117,98,108,105,99],[109,117,115,116,45,114,101,118,97,108,105,100,97,116,101],[115,116,97,108,101,45,119,104,105,108,101,45,114,101,118,97,108,105,100,97,116,101,61,50,48],[115,116,97,108,101,45,105,102,45,101,114,114,111,114,61,49,48,48],[120,61,49],[121],[77,97,120,45,65,103,101,61,57,48]])) (yl [[_],[_],[_],[_],[_],[_],[_],[_],[_],[_],[_],[_],[_]] yr ⟨Z,.inl ⟨_,Z,Z,Z⟩,Z,Z,.inl ⟨_,Z,Z,Z⟩,Z,Z,.inl ⟨_,Z,Z,Z⟩,Z,Z,.inl ⟨_,Z,Z,Z⟩,Z,Z,.inl ⟨_,Z,Z,Z⟩,Z,Z,.inl ⟨_,Z,Z,Z⟩,Z,Z,.inl ⟨_,Z,Z,Z⟩,Z,Z,.inl ⟨_,Z,Z,Z⟩,Z,Z,.inl ⟨_,Z,Z,Z⟩,Z,Z,.inl ⟨_,Z,Z,Z⟩,Z,Z,.inl ⟨_,Z,Z,Z⟩,Z,Z,.inl ⟨_,Z,Z,Z⟩,Z,Z,.inl ⟨_,Z,Z,Z⟩,Z,U⟩ Z Z) Z) (bE H fun r4 h5 H=>zi (yj (Ql r2.2 r2.1 [44,32] ([[109,97,120,45,97,103,101,61,54,48],[109,97,120,45,97,103,101,61,54,48],[109,97,120,45,97,103,101,61,48],[109,97,120,45,97,103,101,61,49,48],[115,45,109,97,120,97,103,101,61,51,48],[110,111,45,99,97,99,104,101],[112,117,98,108,105,99],[109,117,115,116,45,114,101,118,97,108,105,100,97,116,101],[115,116,97,108,101,45,119,104,105,108,101,45,114,101,118,97,108,105,100,97,116,101,61,50,48],[115,116,97,108,101,45,105,102,45,101,114,114,111,114,61,49,48,48],[120,61,49],[121],[77,97,120,45,65,103,101,61,57,48]]) r4 h5) Z ⟨.inl Z,.inl Z,.inl Z,U⟩ Z) Z (qe Z (yf (ι:=Bs×(List Int)×Int) (fun i=>[(0,.ptr 0 0),(3,.dat (vstr i.1))]) (fun i=>[(0,.box (some bl) 25 [.dat (vlst (List.map qm i.2.1)),.dat (vint i.2.2)])]) (fun i=>Wg i.1 i.2.1 i.2.2=some r) (fun i=>Z) ?_ ?_)))))))))
 ·skip
  refine zb hN Z (za (zf (.ptr _ _) Z) (bE H fun r6 h7 H=>zi (yj (vh r4.2 10 r6 h7) Z ⟨.inl Z,U⟩ Z) Z (zh _ Z (fun h8 => ?_) (fun h8 => ?_))))
  ·exact tE h8 H fun H=>zu hN Z (za (zf (.ptr _ _) Z) (za (yd (u':=vlst (List.map zt [[110,111,45,115,116,111,114,101],[112,114,105,118,97,116,101],[109,97,120,45,97,103,101,61,54,48],[111,110,108,121,45,105,102,45,99,97,99,104,101,100],[105,109,109,117,116,97,98,108,101]])) (yl [[_],[_],[_],[_],[_]] yr ⟨Z,.inl ⟨_,Z,Z,Z⟩,Z,Z,.inl ⟨_,Z,Z,Z⟩,Z,Z,.inl ⟨_,Z,Z,Z⟩,Z,Z,.inl ⟨_,Z,Z,Z⟩,Z,Z,.inl ⟨_,Z,Z,Z⟩,Z,U⟩ Z Z) Z) (bE H fun r9 h10 H=>zi (yj (Ql r6.2 2 [44] ([[110,111,45,115,116,111,114,101],[112,114,105,118,97,116,101],[109,97,120,45,97,103,101,61,54,48],[111,110,108,121,45,105,102,45,99,97,99,104,101,100],[105,109,109,117,116,97,98,108,101]]) r9 h10) Z ⟨.inl Z,.inl Z,.inl Z,U⟩ Z) Z (qe Z ⟨(r9.1,r9.2.L,r9.2.at_),H,⟨Z,Z,U⟩,⟨Z,U⟩⟩))))
  ·exact fE h8 H fun H=>zl ⟨(r4.1,r6.2.L,r6.2.at_),H,⟨Z,Z,U⟩,⟨Z,U⟩⟩
 ·rintro ⟨t11,c12,c13⟩ H
  replace H:Wg t11 c12 c13=some r:=H
  unfold Wg at H
  refine yf (ι:=Bs×(List Int)×Int) (fun i=>[(3,.dat (vstr i.1))]) (fun i=>[(0,.box (some bl) 25 [.dat (vlst (List.map qm i.2.1)),.dat (vint i.2.2)])]) (fun i=>z2k i.1 i.2.1 i.2.2=some r) (fun i=>Z) ?_ ?_
  ·skip
   refine zb hN Z (za (zf (.ptr _ _) Z) (bE H fun r14 h15 H=>zi (yj (vh (zn.mk c12 c13) 20 r14 h15) Z ⟨.inl Z,U⟩ Z) Z (zh _ Z (fun h16 => ?_) (fun h16 => ?_))))
   ·exact tE h16 H fun H=>zu hN Z (za (zf (.ptr _ _) Z) (za (yd (u':=vlst (List.map zt [[109,97,120,45,97,103,101],[110,111,45,99,97,99,104,101,61,49],[109,97,120,45,97,103,101,61,45,49],[109,97,120,45,97,103,101,61,48,49],[109,97,120,45,97,103,101,61,49,48,48,48,48,48,48,48,49],[61,49],[97,32,98],[109,97,120,45,97,103,101,61,54,48,32,44,32,44,32,110,111,45,99,97,99,104,101]])) (yl [[_],[_],[_],[_],[_],[_],[_],[_]] yr ⟨Z,.inl ⟨_,Z,Z,Z⟩,Z,Z,.inl ⟨_,Z,Z,Z⟩,Z,Z,.inl ⟨_,Z,Z,Z⟩,Z,Z,.inl ⟨_,Z,Z,Z⟩,Z,Z,.inl ⟨_,Z,Z,Z⟩,Z,Z,.inl ⟨_,Z,Z,Z⟩,Z,Z,.inl ⟨_,Z,Z,Z⟩,Z,Z,.inl ⟨_,Z,Z,Z⟩,Z,U⟩ Z Z) Z) (bE H fun r17 h18 H=>zi (yj (vg r14.2 ([[109,97,120,45,97,103,101],[110,111,45,99,97,99,104,101,61,49],[109,97,120,45,97,103,101,61,45,49],[109,97,120,45,97,103,101,61,48,49],[109,97,120,45,97,103,101,61,49,48,48,48,48,48,48,48,49],[61,49],[97,32,98],[109,97,120,45,97,103,101,61,54,48,32,44,32,44,32,110,111,45,99,97,99,104,101]]) r17 h18) Z ⟨.inl Z,U⟩ Z) Z (qe Z ⟨(r17.1,r17.2.L,r17.2.at_),H,⟨Z,U⟩,⟨Z,U⟩⟩))))
   ·exact fE h16 H fun H=>zl ⟨(t11,r14.2.L,r14.2.at_),H,⟨Z,U⟩,⟨Z,U⟩⟩
  ·rintro ⟨t19,c20,c21⟩ H
   replace H:z2k t19 c20 c21=some r:=H
   unfold z2k at H
   refine zb hN Z (qd Z (qe Z (zk ?_)))
   cases H
   exact ⟨U,⟨.inl Z,U⟩,Z⟩
theorem z1p (name1:Bs) (value2:Bs) (c3:zx) (r:(zx)) (H:uq name1 value2 c3=some r):FnG Tryz.prog 28 [.dat (vstr name1),.dat (vstr value2),.ptr 0 0] [(0,.box (some 0) 30 [.dat (vint c3.Status),.row 1 c3.Headers.length,.dat (vstr c3.Body)]),(1,.row 57 2 (List.map zq c3.Headers))] (.dat (zw [])) [(0,.box (some 0) 30 [.dat (vint r.Status),.row 900 r.Headers.length,.dat (vstr r.Body)]),(900,.row 57 2 (List.map zq r.Headers))]:=by
 refine Ya (by kernel_rfl) Tryz.func28 Z Z Z Z fun X A hN => ?_
 refine ke ?_
 unfold uq at H
 refine zu hN Z (za (zp wx Z) (zo (zz qg Z Z) Z (qd Z (qd Z (za (yd (u':=vagg (zq (zd.mk name1 value2))) (qy [(0,[vstr name1]),(1,[vstr value2])] vk ko Z ⟨Z,.inl ⟨_,Z,Z,Z⟩,Z,Z,.inl ⟨_,Z,Z,Z⟩,Z,U⟩) Z) (za (yd (u':=vlst (List.map zq [(zd.mk name1 value2)])) (yl [_] wm ⟨Z,.inr Z,Z,U⟩ Z Z) Z) (gE H fun h4 H=>zi (vu wm (fun _=>Z) Z Z Z ⟨by simp,by first | (simp; done) | simpa using h4⟩ Z) Z ?_)))))))
 refine za (zp wx Z) (Zb (Za qg Z Z (by rw [List.length_map]) Z) Z Z ?_)
 cases H
 show Cv _ _ _ _
 exact kk (rn [(1,900)]) [] [(0,.box (some (A.bl 0)) 30 [.dat (vint c3.Status),.row 1 ((c3.Headers++[(zd.mk name1 value2)]).length),.dat (vstr c3.Body)]),(1,.row 57 2 (List.map zq (c3.Headers++[(zd.mk name1 value2)])))] U ⟨Z,Z,U⟩ Z Z ⟨U,[],U,⟨Z,Z,U⟩,Z,.inl ⟨[],U,Z⟩⟩
theorem z7s (s1:zn) (low2:Int) (high3:Int) (r:(Int×zn)) (H:Zp s1 low2 high3=some r):Imp Tryz.prog 9 25 (yx s1) [vint low2,vint high3] (zw [vint r.1]) (yx r.2):=by
 refine jb (us:=[vint r.1]) (cs':=(yx r.2)) (by kernel_rfl) Tryz.func9 Z Z Z Z fun X bl hN => ?_
 unfold Zp at H
 refine zb hN Z (qe Z (zg (zb hN Z (za (zf (.ptr _ _) Z) (bE H fun r4 h5 H=>zi (yj (vh s1 12 r4 h5) Z ⟨.inl Z,U⟩ Z) Z (zh _ Z (fun h6 => ?_) (fun h6 => ?_)))))))
 ·refine tE h6 H fun H=>zb hN Z (za (zf (.ptr _ _) Z) (qd Z (za (qn _ Z Z (.inr (.inl ⟨Z,Z⟩))) (qd Z (za (qn _ Z Z (.inl ⟨Z,Z⟩)) (qd Z (qd Z (za (yd (u':=vlst (List.map qm [wr (low2 - 1),wr (high3+1),low2,high3,(-1099511627776),1099511627776])) (yl [[_],[_],[_],[_],[_],[_]] z5y ⟨Z,.inl ⟨_,Z,Z,Z⟩,Z,Z,.inl ⟨_,Z,Z,Z⟩,Z,Z,.inl ⟨_,Z,Z,Z⟩,Z,Z,.inl ⟨_,Z,Z,Z⟩,Z,Z,.inl ⟨_,Z,Z,Z⟩,Z,Z,.inl ⟨_,Z,Z,Z⟩,Z,U⟩ Z Z) Z) (bE H fun r7 h8 H=>zi (yj (z7r r4.2 [wr (low2 - 1),wr (high3+1),low2,high3,(-1099511627776),1099511627776] r7 h8) Z ⟨.inl Z,U⟩ Z) Z (qe Z (zk ?_)))))))))))
  cases H
  exact ⟨U,⟨.inl Z,U⟩,Z⟩
 ·refine fE h6 H fun H=>zl (zb hN Z (za (zf (.ptr _ _) Z) (qd Z (qd Z (bE H fun r9 h10 H=>zi (yj (z4p r4.2 low2 high3 r9 h10) Z ⟨.inl Z,.inl Z,U⟩ Z) Z (qe Z (zk ?_)))))))
  cases H
  exact ⟨U,⟨.inl Z,U⟩,Z⟩
theorem y46 (s1:zn) (r:(zx×zn)) (H:z1h s1=some r):Imp Tryz.prog 6 25 (yx s1) [] (zw [vagg (vt r.1)]) (yx r.2):=by
 refine jb (us:=[vagg (vt r.1)]) (cs':=(yx r.2)) (by kernel_rfl) Tryz.func6 Z Z Z Z fun X bl hN => ?_
 unfold z1h at H
 refine zb hN Z (zi (qz 1 z0l Z) Z (zb hN Z (za (zf (.ptr _ _) Z) (za (yd (u':=vlst (List.map qm [200,200,200,200,404,304,500,204,201])) (yl [[_],[_],[_],[_],[_],[_],[_],[_],[_]] z5y ⟨Z,.inl ⟨_,Z,Z,Z⟩,Z,Z,.inl ⟨_,Z,Z,Z⟩,Z,Z,.inl ⟨_,Z,Z,Z⟩,Z,Z,.inl ⟨_,Z,Z,Z⟩,Z,Z,.inl ⟨_,Z,Z,Z⟩,Z,Z,.inl ⟨_,Z,Z,Z⟩,Z,Z,.inl ⟨_,Z,Z,Z⟩,Z,Z,.inl ⟨_,Z,Z,Z⟩,Z,Z,.inl ⟨_,Z,Z,Z⟩,Z,U⟩ Z Z) Z) (bE H fun r2 h3 H=>zi (yj (z7r s1 [200,200,200,200,404,304,500,204,201] r2 h3) Z ⟨.inl Z,U⟩ Z) Z (za (zf (.ptr _ _) Z) (bE H fun r4 h5 H=>za (zm (z94 [122] 50 r4 h5) ⟨.inl Z,.inl Z,U⟩) (za (yd (u':=vlst (List.map zt [[104,101,108,108,111],[120],[],r4])) (yl [[_],[_],[_],[_]] yr ⟨Z,.inl ⟨_,Z,Z,Z⟩,Z,Z,.inl ⟨_,Z,Z,Z⟩,Z,Z,.inl ⟨_,Z,Z,Z⟩,Z,Z,.inl ⟨_,Z,Z,Z⟩,Z,U⟩ Z Z) Z) (bE H fun r6 h7 H=>zi (yj (vg r2.2 ([[104,101,108,108,111],[120],[],r4]) r6 h7) Z ⟨.inl Z,U⟩ Z) Z (za (yd (u':=vagg [vint r2.1,vnil,vstr r6.1]) (qy [(0,[vint r2.1]),(2,[vstr r6.1])] z0l y13 Z ⟨Z,.inl ⟨_,Z,Z,Z⟩,Z,Z,.inl ⟨_,Z,Z,Z⟩,Z,U⟩) Z) (zi (qz 2 z0l Z) Z (zi (yu wi Z Z Z Z) Z (y6p 2 1 3 57 2 Z Z Z Z (zb hN Z (zo (vp (s := .dr 2 (fun qb=>vfn 28 [vval (.pointer (some ⟨qb,0,none⟩))])) 2 (fun qb=>z3d (us:=[_]) ⟨Z,U⟩) Z Z) Z (za (qi (.dr _ _) Z) (yf (ι:=(List Int)×Int×(List zd)×Int×Bs) (fun i=>[(0,.ptr 0 0),(2,.ptr 1 0),(3,.ptr 2 0),(4,.dr 2 (fun qb=>vfn 28 [vval (.pointer (some ⟨qb,0,none⟩))]))]) (fun i=>[(0,.box (some bl) 25 [.dat (vlst (List.map qm i.1)),.dat (vint i.2.1)]),(1,.box none 30 [.dat (vint 0),.dat (vnil),.dat (vstr [])]),(2,.box none 30 [.dat (vint i.2.2.2.1),.row 5 i.2.2.1.length,.dat (vstr i.2.2.2.2)]),(5,.row 57 2 (List.map zq i.2.2.1))]) (fun i=>Wp i.1 i.2.1 i.2.2.1 i.2.2.2.1 i.2.2.2.2=some r) (fun i=>Z) ?_ ?_)))))))))))))))))
 ·refine ke (zb hN Z (za (zf (.ptr _ _) Z) (bE H fun r8 h9 H=>zi (yj (vh r6.2 6 r8 h9) Z ⟨.inl Z,U⟩ Z) Z (za (yp Z) (zh _ Z (fun h10 => ?_) (fun h10 => ?_))))))
  ·refine tE h10 H fun H=>zu hN Z (za (zf (.dr _ _) Z) (za (zf (.ptr _ _) Z) (za (yd (u':=vlst (List.map zt [[99,97,99,104,101,45,99,111,110,116,114,111,108],[67,97,99,104,101,45,67,111,110,116,114,111,108]])) (yl [[_],[_]] yr ⟨Z,.inl ⟨_,Z,Z,Z⟩,Z,Z,.inl ⟨_,Z,Z,Z⟩,Z,U⟩ Z Z) Z) (bE H fun r11 h12 H=>zi (yj (vg r8.2 ([[99,97,99,104,101,45,99,111,110,116,114,111,108],[67,97,99,104,101,45,67,111,110,116,114,111,108]]) r11 h12) Z ⟨.inl Z,U⟩ Z) Z (za (zf (.ptr _ _) Z) (bE H fun r13 h14 H=>zi (yj (x3c r11.2 r13 h14) Z U Z) Z (bE H fun r15 h16 H=>z0r (args:=[.dat (vstr r11.1),.dat (vstr r13.1)]) (i0:=0) (rn [(0,2),(1,3),(900,4)]) [(0,_,_,some _),(1,_,_,none)] [(900,_)] (z1p r11.1 r13.1 (zx.mk r2.1 ([]:List zd) r6.1) r15 h16) ⟨Z,Z,Z,U⟩ Z Z ⟨.inl (.inl Z),.inl (.inl Z),U⟩ ⟨⟨⟨Z,Z⟩,U⟩,⟨⟨Z,Z,Z⟩,U⟩,U⟩ Z (uz ?_))))))))
   show Cv _ _ _ _
   exact kk (rn [(4,5)]) [(0,.ptr 0 0),(2,.ptr 1 0),(3,.ptr 2 0),(4,.dr 2 (fun qb=>vfn 28 [vval (.pointer (some ⟨qb,0,none⟩))]))] [(0,.box (some bl) 25 [.dat (vlst (List.map qm r13.2.L)),.dat (vint r13.2.at_)]),(1,.box none 30 [.dat (vint 0),.dat (vnil),.dat (vstr [])]),(2,.box none 30 [.dat (vint r15.Status),.row 4 r15.Headers.length,.dat (vstr r15.Body)]),(4,.row 57 2 (List.map zq r15.Headers))] ⟨Z,Z,Z,Z,U⟩ ⟨Z,Z,Z,Z,U⟩ Z Z ⟨(r13.2.L,r13.2.at_,r15.Headers,r15.Status,r15.Body),H,⟨Z,Z,Z,Z,U⟩,⟨Z,Z,Z,Z,U⟩⟩
  ·refine fE h10 H fun H=>zl ?_
   show Cv _ _ _ _
   exact kk (rn [(3,5)]) [(0,.ptr 0 0),(2,.ptr 1 0),(3,.ptr 2 0),(4,.dr 2 (fun qb=>vfn 28 [vval (.pointer (some ⟨qb,0,none⟩))]))] [(0,.box (some bl) 25 [.dat (vlst (List.map qm r8.2.L)),.dat (vint r8.2.at_)]),(1,.box none 30 [.dat (vint 0),.dat (vnil),.dat (vstr [])]),(2,.box none 30 [.dat (vint r2.1),.row 3 0,.dat (vstr r6.1)]),(3,.row 57 2 (List.map zq ([]:List zd)))] ⟨Z,Z,Z,Z,U⟩ ⟨Z,Z,Z,Z,U⟩ Z Z ⟨(r8.2.L,r8.2.at_,([]:List zd),r2.1,r6.1),H,⟨Z,Z,Z,Z,U⟩,⟨Z,Z,Z,Z,U⟩⟩
 ·rintro ⟨c17,c18,l19,c20,c21⟩ H
  replace H:Wp c17 c18 l19 c20 c21=some r:=H
  unfold Wp at H
  refine yf (ι:=(List Int)×Int×(List zd)×Int×Bs) (fun i=>[(0,.ptr 0 0),(2,.ptr 1 0),(3,.ptr 2 0),(4,.dr 2 (fun qb=>vfn 28 [vval (.pointer (some ⟨qb,0,none⟩))]))]) (fun i=>[(0,.box (some bl) 25 [.dat (vlst (List.map qm i.1)),.dat (vint i.2.1)]),(1,.box none 30 [.dat (vint 0),.dat (vnil),.dat (vstr [])]),(2,.box none 30 [.dat (vint i.2.2.2.1),.row 7 i.2.2.1.length,.dat (vstr i.2.2.2.2)]),(7,.row 57 2 (List.map zq i.2.2.1))]) (fun i=>Wn i.1 i.2.1 i.2.2.1 i.2.2.2.1 i.2.2.2.2=some r) (fun i=>Z) ?_ ?_
  ·refine ke (zb hN Z (za (zf (.ptr _ _) Z) (bE H fun r22 h23 H=>zi (yj (vh (zn.mk c17 c18) 3 r22 h23) Z ⟨.inl Z,U⟩ Z) Z (zh _ Z (fun h24 => ?_) (fun h24 => ?_)))))
   ·refine tE h24 H fun H=>zu hN Z (za (zf (.dr _ _) Z) (za (zf (.ptr _ _) Z) (za (yd (u':=vlst (List.map zt [[97,99,99,101,112,116,45,108,97,110,103,117,97,103,101],[65,99,99,101,112,116,45,76,97,110,103,117,97,103,101,44,32,120,45,111,110,101],[42],[],[120,45,111,110,101,44,88,45,79,110,101]])) (yl [[_],[_],[_],[_],[_]] yr ⟨Z,.inl ⟨_,Z,Z,Z⟩,Z,Z,.inl ⟨_,Z,Z,Z⟩,Z,Z,.inl ⟨_,Z,Z,Z⟩,Z,Z,.inl ⟨_,Z,Z,Z⟩,Z,Z,.inl ⟨_,Z,Z,Z⟩,Z,U⟩ Z Z) Z) (bE H fun r25 h26 H=>zi (yj (vg r22.2 ([[97,99,99,101,112,116,45,108,97,110,103,117,97,103,101],[65,99,99,101,112,116,45,76,97,110,103,117,97,103,101,44,32,120,45,111,110,101],[42],[],[120,45,111,110,101,44,88,45,79,110,101]]) r25 h26) Z ⟨.inl Z,U⟩ Z) Z (bE H fun r27 h28 H=>z0r (args:=[.dat (vstr [118,97,114,121]),.dat (vstr r25.1)]) (i0:=0) (rn [(0,2),(1,5),(900,6)]) [(0,_,_,some _),(1,_,_,none)] [(900,_)] (z1p [118,97,114,121] r25.1 (zx.mk c20 l19 c21) r27 h28) ⟨Z,Z,Z,U⟩ Z Z ⟨.inl (.inl Z),.inl (.inl Z),U⟩ ⟨⟨⟨Z,Z⟩,U⟩,⟨⟨Z,Z,Z⟩,U⟩,U⟩ Z (uz ?_))))))
    show Cv _ _ _ _
    exact kk (rn [(6,7)]) [(0,.ptr 0 0),(2,.ptr 1 0),(3,.ptr 2 0),(4,.dr 2 (fun qb=>vfn 28 [vval (.pointer (some ⟨qb,0,none⟩))]))] [(0,.box (some bl) 25 [.dat (vlst (List.map qm r25.2.L)),.dat (vint r25.2.at_)]),(1,.box none 30 [.dat (vint 0),.dat (vnil),.dat (vstr [])]),(2,.box none 30 [.dat (vint r27.Status),.row 6 r27.Headers.length,.dat (vstr r27.Body)]),(6,.row 57 2 (List.map zq r27.Headers))] ⟨Z,Z,Z,Z,U⟩ ⟨Z,Z,Z,Z,U⟩ Z Z ⟨(r25.2.L,r25.2.at_,r27.Headers,r27.Status,r27.Body),H,⟨Z,Z,Z,Z,U⟩,⟨Z,Z,Z,Z,U⟩⟩
   ·refine fE h24 H fun H=>zl ?_
    show Cv _ _ _ _
    exact kk (rn [(5,7)]) [(0,.ptr 0 0),(2,.ptr 1 0),(3,.ptr 2 0),(4,.dr 2 (fun qb=>vfn 28 [vval (.pointer (some ⟨qb,0,none⟩))]))] [(0,.box (some bl) 25 [.dat (vlst (List.map qm r22.2.L)),.dat (vint r22.2.at_)]),(1,.box none 30 [.dat (vint 0),.dat (vnil),.dat (vstr [])]),(2,.box none 30 [.dat (vint c20),.row 5 l19.length,.dat (vstr c21)]),(5,.row 57 2 (List.map zq l19))] ⟨Z,Z,Z,Z,U⟩ ⟨Z,Z,Z,Z,U⟩ Z Z ⟨(r22.2.L,r22.2.at_,l19,c20,c21),H,⟨Z,Z,Z,Z,U⟩,⟨Z,Z,Z,Z,U⟩⟩
  ·rintro ⟨c29,c30,l31,c32,c33⟩ H
   replace H:Wn c29 c30 l31 c32 c33=some r:=H
   unfold Wn at H
   refine yf (ι:=(List Int)×Int×(List zd)×Int×Bs) (fun i=>[(0,.ptr 0 0),(2,.ptr 1 0),(3,.ptr 2 0),(4,.dr 2 (fun qb=>vfn 28 [vval (.pointer (some ⟨qb,0,none⟩))]))]) (fun i=>[(0,.box (some bl) 25 [.dat (vlst (List.map qm i.1)),.dat (vint i.2.1)]),(1,.box none 30 [.dat (vint 0),.dat (vnil),.dat (vstr [])]),(2,.box none 30 [.dat (vint i.2.2.2.1),.row 9 i.2.2.1.length,.dat (vstr i.2.2.2.2)]),(9,.row 57 2 (List.map zq i.2.2.1))]) (fun i=>Wm i.1 i.2.1 i.2.2.1 i.2.2.2.1 i.2.2.2.2=some r) (fun i=>Z) ?_ ?_
   ·refine ke (zb hN Z (za (zf (.ptr _ _) Z) (bE H fun r34 h35 H=>zi (yj (vh (zn.mk c29 c30) 2 r34 h35) Z ⟨.inl Z,U⟩ Z) Z (zh _ Z (fun h36 => ?_) (fun h36 => ?_)))))
    ·refine tE h36 H fun H=>zu hN Z (za (zf (.dr _ _) Z) (za (zf (.ptr _ _) Z) (za (yd (u':=vlst (List.map zt [[101,116,97,103],[69,84,97,103]])) (yl [[_],[_]] yr ⟨Z,.inl ⟨_,Z,Z,Z⟩,Z,Z,.inl ⟨_,Z,Z,Z⟩,Z,U⟩ Z Z) Z) (bE H fun r37 h38 H=>zi (yj (vg r34.2 ([[101,116,97,103],[69,84,97,103]]) r37 h38) Z ⟨.inl Z,U⟩ Z) Z (za (zf (.ptr _ _) Z) (za (yd (u':=vlst (List.map zt [[34,118,49,34],[87,47,34,118,50,34],[118,51]])) (yl [[_],[_],[_]] yr ⟨Z,.inl ⟨_,Z,Z,Z⟩,Z,Z,.inl ⟨_,Z,Z,Z⟩,Z,Z,.inl ⟨_,Z,Z,Z⟩,Z,U⟩ Z Z) Z) (bE H fun r39 h40 H=>zi (yj (vg r37.2 ([[34,118,49,34],[87,47,34,118,50,34],[118,51]]) r39 h40) Z ⟨.inl Z,U⟩ Z) Z (bE H fun r41 h42 H=>z0r (args:=[.dat (vstr r37.1),.dat (vstr r39.1)]) (i0:=0) (rn [(0,2),(1,7),(900,8)]) [(0,_,_,some _),(1,_,_,none)] [(900,_)] (z1p r37.1 r39.1 (zx.mk c32 l31 c33) r41 h42) ⟨Z,Z,Z,U⟩ Z Z ⟨.inl (.inl Z),.inl (.inl Z),U⟩ ⟨⟨⟨Z,Z⟩,U⟩,⟨⟨Z,Z,Z⟩,U⟩,U⟩ Z (uz ?_)))))))))
     show Cv _ _ _ _
     exact kk (rn [(8,9)]) [(0,.ptr 0 0),(2,.ptr 1 0),(3,.ptr 2 0),(4,.dr 2 (fun qb=>vfn 28 [vval (.pointer (some ⟨qb,0,none⟩))]))] [(0,.box (some bl) 25 [.dat (vlst (List.map qm r39.2.L)),.dat (vint r39.2.at_)]),(1,.box none 30 [.dat (vint 0),.dat (vnil),.dat (vstr [])]),(2,.box none 30 [.dat (vint r41.Status),.row 8 r41.Headers.length,.dat (vstr r41.Body)]),(8,.row 57 2 (List.map zq r41.Headers))] ⟨Z,Z,Z,Z,U⟩ ⟨Z,Z,Z,Z,U⟩ Z Z ⟨(r39.2.L,r39.2.at_,r41.Headers,r41.Status,r41.Body),H,⟨Z,Z,Z,Z,U⟩,⟨Z,Z,Z,Z,U⟩⟩
    ·refine fE h36 H fun H=>zl ?_
     show Cv _ _ _ _
     exact kk (rn [(7,9)]) [(0,.ptr 0 0),(2,.ptr 1 0),(3,.ptr 2 0),(4,.dr 2 (fun qb=>vfn 28 [vval (.pointer (some ⟨qb,0,none⟩))]))] [(0,.box (some bl) 25 [.dat (vlst (List.map qm r34.2.L)),.dat (vint r34.2.at_)]),(1,.box none 30 [.dat (vint 0),.dat (vnil),.dat (vstr [])]),(2,.box none 30 [.dat (vint c32),.row 7 l31.length,.dat (vstr c33)]),(7,.row 57 2 (List.map zq l31))] ⟨Z,Z,Z,Z,U⟩ ⟨Z,Z,Z,Z,U⟩ Z Z ⟨(r34.2.L,r34.2.at_,l31,c32,c33),H,⟨Z,Z,Z,Z,U⟩,⟨Z,Z,Z,Z,U⟩⟩
   ·rintro ⟨c43,c44,l45,c46,c47⟩ H
    replace H:Wm c43 c44 l45 c46 c47=some r:=H
    unfold Wm at H
    refine yf (ι:=(List Int)×Int×(List zd)×Int×Bs) (fun i=>[(0,.ptr 0 0),(2,.ptr 1 0),(3,.ptr 2 0),(4,.dr 2 (fun qb=>vfn 28 [vval (.pointer (some ⟨qb,0,none⟩))]))]) (fun i=>[(0,.box (some bl) 25 [.dat (vlst (List.map qm i.1)),.dat (vint i.2.1)]),(1,.box none 30 [.dat (vint 0),.dat (vnil),.dat (vstr [])]),(2,.box none 30 [.dat (vint i.2.2.2.1),.row 11 i.2.2.1.length,.dat (vstr i.2.2.2.2)]),(11,.row 57 2 (List.map zq i.2.2.1))]) (fun i=>Wl i.1 i.2.1 i.2.2.1 i.2.2.2.1 i.2.2.2.2=some r) (fun i=>Z) ?_ ?_
    ·refine ke (zb hN Z (za (zf (.ptr _ _) Z) (bE H fun r48 h49 H=>zi (yj (vh (zn.mk c43 c44) 4 r48 h49) Z ⟨.inl Z,U⟩ Z) Z (zh _ Z (fun h50 => ?_) (fun h50 => ?_)))))
     ·refine tE h50 H fun H=>zu hN Z (za (zf (.dr _ _) Z) (za (zf (.ptr _ _) Z) (za (yd (u':=vlst (List.map zt [[114,101,100],[114,101,100,44,32,98,108,117,101],[98,108,117,101,32,103,114,101,101,110],[114,101,100,32,114,101,100]])) (yl [[_],[_],[_],[_]] yr ⟨Z,.inl ⟨_,Z,Z,Z⟩,Z,Z,.inl ⟨_,Z,Z,Z⟩,Z,Z,.inl ⟨_,Z,Z,Z⟩,Z,Z,.inl ⟨_,Z,Z,Z⟩,Z,U⟩ Z Z) Z) (bE H fun r51 h52 H=>zi (yj (vg r48.2 ([[114,101,100],[114,101,100,44,32,98,108,117,101],[98,108,117,101,32,103,114,101,101,110],[114,101,100,32,114,101,100]]) r51 h52) Z ⟨.inl Z,U⟩ Z) Z (bE H fun r53 h54 H=>z0r (args:=[.dat (vstr [99,97,99,104,101,45,116,97,103]),.dat (vstr r51.1)]) (i0:=0) (rn [(0,2),(1,9),(900,10)]) [(0,_,_,some _),(1,_,_,none)] [(900,_)] (z1p [99,97,99,104,101,45,116,97,103] r51.1 (zx.mk c46 l45 c47) r53 h54) ⟨Z,Z,Z,U⟩ Z Z ⟨.inl (.inl Z),.inl (.inl Z),U⟩ ⟨⟨⟨Z,Z⟩,U⟩,⟨⟨Z,Z,Z⟩,U⟩,U⟩ Z (uz ?_))))))
      show Cv _ _ _ _
      exact kk (rn [(10,11)]) [(0,.ptr 0 0),(2,.ptr 1 0),(3,.ptr 2 0),(4,.dr 2 (fun qb=>vfn 28 [vval (.pointer (some ⟨qb,0,none⟩))]))] [(0,.box (some bl) 25 [.dat (vlst (List.map qm r51.2.L)),.dat (vint r51.2.at_)]),(1,.box none 30 [.dat (vint 0),.dat (vnil),.dat (vstr [])]),(2,.box none 30 [.dat (vint r53.Status),.row 10 r53.Headers.length,.dat (vstr r53.Body)]),(10,.row 57 2 (List.map zq r53.Headers))] ⟨Z,Z,Z,Z,U⟩ ⟨Z,Z,Z,Z,U⟩ Z Z ⟨(r51.2.L,r51.2.at_,r53.Headers,r53.Status,r53.Body),H,⟨Z,Z,Z,Z,U⟩,⟨Z,Z,Z,Z,U⟩⟩
     ·refine fE h50 H fun H=>zl ?_
      show Cv _ _ _ _
      exact kk (rn [(9,11)]) [(0,.ptr 0 0),(2,.ptr 1 0),(3,.ptr 2 0),(4,.dr 2 (fun qb=>vfn 28 [vval (.pointer (some ⟨qb,0,none⟩))]))] [(0,.box (some bl) 25 [.dat (vlst (List.map qm r48.2.L)),.dat (vint r48.2.at_)]),(1,.box none 30 [.dat (vint 0),.dat (vnil),.dat (vstr [])]),(2,.box none 30 [.dat (vint c46),.row 9 l45.length,.dat (vstr c47)]),(9,.row 57 2 (List.map zq l45))] ⟨Z,Z,Z,Z,U⟩ ⟨Z,Z,Z,Z,U⟩ Z Z ⟨(r48.2.L,r48.2.at_,l45,c46,c47),H,⟨Z,Z,Z,Z,U⟩,⟨Z,Z,Z,Z,U⟩⟩
    ·rintro ⟨c55,c56,l57,c58,c59⟩ H
     replace H:Wl c55 c56 l57 c58 c59=some r:=H
     unfold Wl at H
     refine yf (ι:=(List Int)×Int×(List zd)×Int×Bs) (fun i=>[(0,.ptr 0 0),(2,.ptr 1 0),(3,.ptr 2 0),(4,.dr 2 (fun qb=>vfn 28 [vval (.pointer (some ⟨qb,0,none⟩))]))]) (fun i=>[(0,.box (some bl) 25 [.dat (vlst (List.map qm i.1)),.dat (vint i.2.1)]),(1,.box none 30 [.dat (vint 0),.dat (vnil),.dat (vstr [])]),(2,.box none 30 [.dat (vint i.2.2.2.1),.row 13 i.2.2.1.length,.dat (vstr i.2.2.2.2)]),(13,.row 57 2 (List.map zq i.2.2.1))]) (fun i=>Wj i.1 i.2.1 i.2.2.1 i.2.2.2.1 i.2.2.2.2=some r) (fun i=>Z) ?_ ?_
     ·refine ke (zb hN Z (za (zf (.ptr _ _) Z) (bE H fun r60 h61 H=>zi (yj (vh (zn.mk c55 c56) 6 r60 h61) Z ⟨.inl Z,U⟩ Z) Z (zh _ Z (fun h62 => ?_) (fun h62 => ?_)))))
      ·refine tE h62 H fun H=>zu hN Z (za (zf (.dr _ _) Z) (za (zf (.ptr _ _) Z) (za (yd (u':=vlst (List.map zt [[53],[53,48],[120],[45,49],[49,48,48,48,48,48,48,48,49]])) (yl [[_],[_],[_],[_],[_]] yr ⟨Z,.inl ⟨_,Z,Z,Z⟩,Z,Z,.inl ⟨_,Z,Z,Z⟩,Z,Z,.inl ⟨_,Z,Z,Z⟩,Z,Z,.inl ⟨_,Z,Z,Z⟩,Z,Z,.inl ⟨_,Z,Z,Z⟩,Z,U⟩ Z Z) Z) (bE H fun r63 h64 H=>zi (yj (vg r60.2 ([[53],[53,48],[120],[45,49],[49,48,48,48,48,48,48,48,49]]) r63 h64) Z ⟨.inl Z,U⟩ Z) Z (bE H fun r65 h66 H=>z0r (args:=[.dat (vstr [97,103,101]),.dat (vstr r63.1)]) (i0:=0) (rn [(0,2),(1,11),(900,12)]) [(0,_,_,some _),(1,_,_,none)] [(900,_)] (z1p [97,103,101] r63.1 (zx.mk c58 l57 c59) r65 h66) ⟨Z,Z,Z,U⟩ Z Z ⟨.inl (.inl Z),.inl (.inl Z),U⟩ ⟨⟨⟨Z,Z⟩,U⟩,⟨⟨Z,Z,Z⟩,U⟩,U⟩ Z (uz ?_))))))
       show Cv _ _ _ _
       exact kk (rn [(12,13)]) [(0,.ptr 0 0),(2,.ptr 1 0),(3,.ptr 2 0),(4,.dr 2 (fun qb=>vfn 28 [vval (.pointer (some ⟨qb,0,none⟩))]))] [(0,.box (some bl) 25 [.dat (vlst (List.map qm r63.2.L)),.dat (vint r63.2.at_)]),(1,.box none 30 [.dat (vint 0),.dat (vnil),.dat (vstr [])]),(2,.box none 30 [.dat (vint r65.Status),.row 12 r65.Headers.length,.dat (vstr r65.Body)]),(12,.row 57 2 (List.map zq r65.Headers))] ⟨Z,Z,Z,Z,U⟩ ⟨Z,Z,Z,Z,U⟩ Z Z ⟨(r63.2.L,r63.2.at_,r65.Headers,r65.Status,r65.Body),H,⟨Z,Z,Z,Z,U⟩,⟨Z,Z,Z,Z,U⟩⟩
      ·refine fE h62 H fun H=>zl ?_
       show Cv _ _ _ _
       exact kk (rn [(11,13)]) [(0,.ptr 0 0),(2,.ptr 1 0),(3,.ptr 2 0),(4,.dr 2 (fun qb=>vfn 28 [vval (.pointer (some ⟨qb,0,none⟩))]))] [(0,.box (some bl) 25 [.dat (vlst (List.map qm r60.2.L)),.dat (vint r60.2.at_)]),(1,.box none 30 [.dat (vint 0),.dat (vnil),.dat (vstr [])]),(2,.box none 30 [.dat (vint c58),.row 11 l57.length,.dat (vstr c59)]),(11,.row 57 2 (List.map zq l57))] ⟨Z,Z,Z,Z,U⟩ ⟨Z,Z,Z,Z,U⟩ Z Z ⟨(r60.2.L,r60.2.at_,l57,c58,c59),H,⟨Z,Z,Z,Z,U⟩,⟨Z,Z,Z,Z,U⟩⟩
     ·rintro ⟨c67,c68,l69,c70,c71⟩ H
      replace H:Wj c67 c68 l69 c70 c71=some r:=H
      unfold Wj at H
      refine yf (ι:=(List Int)×Int×(List zd)×Int×Bs) (fun i=>[(0,.ptr 0 0),(2,.ptr 1 0),(3,.ptr 2 0)]) (fun i=>[(0,.box (some bl) 25 [.dat (vlst (List.map qm i.1)),.dat (vint i.2.1)]),(1,.box none 30 [.dat (vint 0),.dat (vnil),.dat (vstr [])]),(2,.box none 30 [.dat (vint i.2.2.2.1),.row 15 i.2.2.1.length,.dat (vstr i.2.2.2.2)]),(15,.row 57 2 (List.map zq i.2.2.1))]) (fun i=>Wi i.1 i.2.1 i.2.2.1 i.2.2.2.1 i.2.2.2.2=some r) (fun i=>Z) ?_ ?_
      ·refine ke (zb hN Z (za (zf (.ptr _ _) Z) (bE H fun r72 h73 H=>zi (yj (vh (zn.mk c67 c68) 30 r72 h73) Z ⟨.inl Z,U⟩ Z) Z (zh _ Z (fun h74 => ?_) (fun h74 => ?_)))))
       ·refine tE h74 H fun H=>zu hN Z (za (zf (.dr _ _) Z) (za (zf (.ptr _ _) Z) (za (yd (u':=vlst (List.map zt [[118,97,114,121],[99,97,99,104,101,45,116,97,103]])) (yl [[_],[_]] yr ⟨Z,.inl ⟨_,Z,Z,Z⟩,Z,Z,.inl ⟨_,Z,Z,Z⟩,Z,U⟩ Z Z) Z) (bE H fun r75 h76 H=>zi (yj (vg r72.2 ([[118,97,114,121],[99,97,99,104,101,45,116,97,103]]) r75 h76) Z ⟨.inl Z,U⟩ Z) Z (za (zf (.ptr _ _) Z) (za (zf (.ptr _ _) Z) (za (yd (u':=vlst (List.map zt [[104,49],[104,50],[104,51],[104,52],[104,53],[104,54],[104,55],[104,56],[104,57],[104,97],[104,98],[104,99]])) (yl [[_],[_],[_],[_],[_],[_],[_],[_],[_],[_],[_],[_]] yr ⟨Z,.inl ⟨_,Z,Z,Z⟩,Z,Z,.inl ⟨_,Z,Z,Z⟩,Z,Z,.inl ⟨_,Z,Z,Z⟩,Z,Z,.inl ⟨_,Z,Z,Z⟩,Z,Z,.inl ⟨_,Z,Z,Z⟩,Z,Z,.inl ⟨_,Z,Z,Z⟩,Z,Z,.inl ⟨_,Z,Z,Z⟩,Z,Z,.inl ⟨_,Z,Z,Z⟩,Z,Z,.inl ⟨_,Z,Z,Z⟩,Z,Z,.inl ⟨_,Z,Z,Z⟩,Z,Z,.inl ⟨_,Z,Z,Z⟩,Z,Z,.inl ⟨_,Z,Z,Z⟩,Z,U⟩ Z Z) Z) (bE H fun r77 h78 H=>zi (yj (Ql r75.2 12 [44] ([[104,49],[104,50],[104,51],[104,52],[104,53],[104,54],[104,55],[104,56],[104,57],[104,97],[104,98],[104,99]]) r77 h78) Z ⟨.inl Z,.inl Z,.inl Z,U⟩ Z) Z (za (yd (u':=vlst (List.map zt [[97,32,98],[65],[],r77.1])) (yl [[_],[_],[_],[_]] yr ⟨Z,.inl ⟨_,Z,Z,Z⟩,Z,Z,.inl ⟨_,Z,Z,Z⟩,Z,Z,.inl ⟨_,Z,Z,Z⟩,Z,Z,.inl ⟨_,Z,Z,Z⟩,Z,U⟩ Z Z) Z) (bE H fun r79 h80 H=>zi (yj (vg r77.2 ([[97,32,98],[65],[],r77.1]) r79 h80) Z ⟨.inl Z,U⟩ Z) Z (bE H fun r81 h82 H=>z0r (args:=[.dat (vstr r75.1),.dat (vstr r79.1)]) (i0:=0) (rn [(0,2),(1,13),(900,14)]) [(0,_,_,some _),(1,_,_,none)] [(900,_)] (z1p r75.1 r79.1 (zx.mk c70 l69 c71) r81 h82) ⟨Z,Z,Z,U⟩ Z Z ⟨.inl (.inl Z),.inl (.inl Z),U⟩ ⟨⟨⟨Z,Z⟩,U⟩,⟨⟨Z,Z,Z⟩,U⟩,U⟩ Z (uz ?_))))))))))))
        show Cv _ _ _ _
        exact kk (rn [(14,15)]) [(0,.ptr 0 0),(2,.ptr 1 0),(3,.ptr 2 0)] [(0,.box (some bl) 25 [.dat (vlst (List.map qm r79.2.L)),.dat (vint r79.2.at_)]),(1,.box none 30 [.dat (vint 0),.dat (vnil),.dat (vstr [])]),(2,.box none 30 [.dat (vint r81.Status),.row 14 r81.Headers.length,.dat (vstr r81.Body)]),(14,.row 57 2 (List.map zq r81.Headers))] ⟨Z,Z,Z,U⟩ ⟨Z,Z,Z,Z,U⟩ Z Z ⟨(r79.2.L,r79.2.at_,r81.Headers,r81.Status,r81.Body),H,⟨Z,Z,Z,U⟩,⟨Z,Z,Z,Z,U⟩⟩
       ·refine fE h74 H fun H=>zl ?_
        show Cv _ _ _ _
        exact kk (rn [(13,15)]) [(0,.ptr 0 0),(2,.ptr 1 0),(3,.ptr 2 0)] [(0,.box (some bl) 25 [.dat (vlst (List.map qm r72.2.L)),.dat (vint r72.2.at_)]),(1,.box none 30 [.dat (vint 0),.dat (vnil),.dat (vstr [])]),(2,.box none 30 [.dat (vint c70),.row 13 l69.length,.dat (vstr c71)]),(13,.row 57 2 (List.map zq l69))] ⟨Z,Z,Z,U⟩ ⟨Z,Z,Z,Z,U⟩ Z Z ⟨(r72.2.L,r72.2.at_,l69,c70,c71),H,⟨Z,Z,Z,U⟩,⟨Z,Z,Z,Z,U⟩⟩
      ·rintro ⟨c83,c84,l85,c86,c87⟩ H
       replace H:Wi c83 c84 l85 c86 c87=some r:=H
       unfold Wi at H
       refine yf (ι:=(List Int)×Int×Int) (fun i=>[(2,.ptr 1 0),(3,.ptr 2 0)]) (fun i=>[(0,.box (some bl) 25 [.dat (vlst (List.map qm i.1)),.dat (vint i.2.1)]),(1,.box none 30 [.dat (vint 0),.dat (vnil),.dat (vstr [])]),(2,.box none 30 [.dat (vint i.2.2),.row 15 l85.length,.dat (vstr c87)]),(15,.row 57 2 (List.map zq l85))]) (fun i=>Wh l85 c87 i.1 i.2.1 i.2.2=some r) (fun i=>Z) ?_ ?_
       ·refine ke (zb hN Z (za (zf (.ptr _ _) Z) (bE H fun r88 h89 H=>zi (yj (vh (zn.mk c83 c84) 40 r88 h89) Z ⟨.inl Z,U⟩ Z) Z (zh _ Z (fun h90 => ?_) (fun h90 => ?_)))))
        ·refine tE h90 H fun H=>zu hN Z (za (zf (.ptr _ _) Z) (bE H fun r91 h92 H=>zi (yj (z7s r88.2 100 599 r91 h92) Z ⟨.inl Z,.inl Z,U⟩ Z) Z (za (zp xz Z) (zi (wz tyS3 Z Z Z Z) Z (uz ?_)))))
         show Cv _ _ _ _
         exact kd ⟨(r91.2.L,r91.2.at_,r91.1),H,⟨Z,Z,U⟩,⟨Z,Z,Z,Z,U⟩⟩
        ·refine fE h90 H fun H=>zl ?_
         show Cv _ _ _ _
         exact kd ⟨(r88.2.L,r88.2.at_,c86),H,⟨Z,Z,U⟩,⟨Z,Z,Z,Z,U⟩⟩
       ·rintro ⟨c93,c94,c95⟩ H
        replace H:Wh l85 c87 c93 c94 c95=some r:=H
        unfold Wh at H
        refine zg (z8j 2 1 15 rfl rfl rfl (by first | rw [List.length_map] | rfl) ?_)
        refine zu hN Z (zo (yk wi Z Z Z) Z (zi (yu wi Z Z Z Z) Z (zk ?_)))
        cases H
        exact ⟨U,⟨.inl ⟨_,_,_,vt (zx.mk c95 l85 c87),Z,Z,Z,Z,wi⟩,U⟩,Z⟩
theorem x3a (s1:zn) (r:(Bs×zn)) (H:z36 s1=some r):Imp Tryz.prog 22 25 (yx s1) [] (zw [vstr r.1]) (yx r.2):=by
 refine jb (us:=[vstr r.1]) (cs':=(yx r.2)) (by kernel_rfl) Tryz.func22 Z Z Z Z fun X bl hN => ?_
 unfold z36 at H
 refine zb hN Z (qe Z (zb hN Z (za (zf (.ptr _ _) Z) (bE H fun r2 h3 H=>za (zm (z94 [97] 64 r2 h3) ⟨.inl Z,.inl Z,U⟩) (za (yd (u':=vlst (List.map zt [[97,46,98],[97,46,98],[65,46,66],[115,104,111,112,46,101,120,97,109,112,108,101],[97,46,98,58,56,48],[97,46,98,58,52,52,51],[97,46,98,58,56,48,56,48],[120,45,49,46,121],[49,46,50,46,51,46,52],[],[97,46,46,98],[45,97,46,98],[97,46,98,58,48],[97,46,98,58,48,56],[97,46,98,58,54,53,53,51,54],[97,95,98],[97,46,98,58],[97,32,98],r2])) (yl [[_],[_],[_],[_],[_],[_],[_],[_],[_],[_],[_],[_],[_],[_],[_],[_],[_],[_],[_]] yr ⟨Z,.inl ⟨_,Z,Z,Z⟩,Z,Z,.inl ⟨_,Z,Z,Z⟩,Z,Z,.inl ⟨_,Z,Z,Z⟩,Z,Z,.inl ⟨_,Z,Z,Z⟩,Z,Z,.inl ⟨_,Z,Z,Z⟩,Z,Z,.inl ⟨_,Z,Z,Z⟩,Z,Z,.inl ⟨_,Z,Z,Z⟩,Z,Z,.inl ⟨_,Z,Z,Z⟩,Z,Z,.inl ⟨_,Z,Z,Z⟩,Z,Z,.inl ⟨_,Z,Z,Z⟩,Z,Z,.inl ⟨_,Z,Z,Z⟩,Z,Z,.inl ⟨_,Z,Z,Z⟩,Z,Z,.inl ⟨_,Z,Z,Z⟩,Z,Z,.inl ⟨_,Z,Z,Z⟩,Z,Z,.inl ⟨_,Z,Z,Z⟩,Z,Z,.inl ⟨_,Z,Z,Z⟩,Z,Z,.inl ⟨_,Z,Z,Z⟩,Z,Z,.inl ⟨_,Z,Z,Z⟩,Z,Z,.inl ⟨_,Z,Z,Z⟩,Z,U⟩ Z Z) Z) (bE H fun r4 h5 H=>zi (yj (vg s1 ([[97,46,98],[97,46,98],[65,46,66],[115,104,111,112,46,101,120,97,109,112,108,101],[97,46,98,58,56,48],[97,46,98,58,52,52,51],[97,46,98,58,56,48,56,48],[120,45,49,46,121],[49,46,50,46,51,46,52],[],[97,46,46,98],[45,97,46,98],[97,46,98,58,48],[97,46,98,58,48,56],[97,46,98,58,54,53,53,51,54],[97,95,98],[97,46,98,58],[97,32,98],r2]) r4 h5) Z ⟨.inl Z,U⟩ Z) Z (qe Z (zk ?_))))))))
 cases H
 exact ⟨U,⟨.inl Z,U⟩,Z⟩
end Go.Proofs.YtkldmhhbbceaoabGreatDoor
