/- Walks along the models. Printed by a program. -/
import Derived.Test.YtmdllhcjefcggabGreatDoorZlc
namespace Go.Proofs.YtmdllhcjefcggabGreatDoor
open Go.RowKit
set_option linter.unusedVariables false
set_option maxRecDepth 100000
set_option maxHeartbeats 2000000
theorem y6q (x1:Int) (n2:Int) (r:(Int)) (H:z1m x1 n2=some r):Fn Tryz.prog 54 [vint x1,vint n2] (zu [vint r]):=by
 refine ⟨by kernel_rfl,yh (us:=[vint r]) Tryz.func54 Z Z Z Z fun X hN => ?_⟩
 unfold z1m at H
 refine zb hN Z (qe Z (zh (zb hN Z (qd Z (za (zx Z Z) (zg _ Z (fun h3 => ?_) (fun h3 => ?_)))))))
 ·refine tE h3 H fun H=>zb hN Z (qe Z (zi ?_))
  cases H
  exact ⟨U,.inl Z,U⟩
 ·refine fE h3 H fun H=>zl (zb hN Z (qd Z (qd Z (gE H fun h4 H=>za (y9j Z Z h4) (qe Z (yd (ι:=Int) (fun i=>[(0,.dat (vint i))]) (fun i=>[]) (fun i=>z6l i=some r) (fun i=>Z) ?_ ?_))))))
  ·skip
   refine zb hN Z (qd Z (za (zx Z Z) (zg _ Z (fun h5 => ?_) (fun h5 => ?_))))
   ·exact tE h5 H fun H=>zp hN Z (qd Z (qd Z (za (yj _ Z Z (.inl ⟨Z,Z⟩)) (qe Z ⟨wr ((Int.tmod x1 n2)+n2),H,⟨Z,U⟩,U⟩))))
   ·exact fE h5 H fun H=>zl ⟨(Int.tmod x1 n2),H,⟨Z,U⟩,U⟩
  ·rintro x6 H
   replace H:z6l x6=some r:=H
   unfold z6l at H
   refine zb hN Z (qd Z (qe Z (zi ?_)))
   cases H
   exact ⟨U,.inl Z,U⟩
theorem Yb (s1:zt) (n2:Int) (r:(Int×zt)) (H:uk s1 n2=some r):Imp Tryz.prog 21 25 (qo s1) [vint n2] (zu [vint r.1]) (qo r.2):=by
 refine kf (us:=[vint r.1]) (cs':=(qo r.2)) (by kernel_rfl) Tryz.func21 Z Z Z Z fun X bl hN => ?_
 unfold uk at H
 refine zb hN Z (qe Z (zb hN Z (za (zd (.ptr _ _) Z) (za (jd Z) (za (zq z68 Z) (zm (zv tyS3 Z Z) Z (za (yj _ Z Z (.inl ⟨Z,Z⟩)) (za (jd Z) (za (zq z68 Z) (zj (vr tyS3 Z Z Z Z) Z (zh (zb hN Z (za (zd (.ptr _ _) Z) (za (jd Z) (za (zq y0s Z) (zm (zv y0j Z Z) Z (za (qi y0h Z) (za (qf Z Z) (zg _ Z (fun h3 => ?_) (fun h3 => ?_))))))))))))))))))))
 ·refine tE h3 H fun H=>zb hN Z (za (zd (.ptr _ _) Z) (za (jd Z) (za (zq z68 Z) (zm (zv tyS3 Z Z) Z (za (yj _ Z Z (.inr (.inr ⟨Z,Z⟩))) (qd Z (bE H fun r4 h5 H=>za (zk (y6q (wr ((wr (s1.at_+1)) * 7919)) n2 r4 h5) ⟨.inl Z,.inl Z,U⟩) (qe Z (zi ?_)))))))))
  cases H
  exact ⟨U,⟨.inl Z,U⟩,Z⟩
 ·refine fE h3 H fun H=>zl (zh (wz mixed hN Z Z (za (zd (.ptr _ _) Z) (za (jd Z) (za (zq z68 Z) (zm (zv tyS3 Z Z) Z (za (yj _ Z Z (.inr (.inl ⟨Z,Z⟩))) (za (zd (.ptr _ _) Z) (za (jd Z) (za (zq y0s Z) (zm (zv y0j Z Z) Z (za (qi y0h Z) (gE H fun h6 H=>za (y9j Z Z h6) (qe Z ⟨Z,?_⟩))))))))))))))
  refine zh (wz mixed hN Z Z (za (zd (.ptr _ _) Z) (za (jd Z) (za (zq z68 Z) (zm (zv tyS3 Z Z) Z (za (yj _ Z Z (.inr (.inl ⟨Z,Z⟩))) (za (zd (.ptr _ _) Z) (za (jd Z) (za (zq y0s Z) (zm (zv y0j Z Z) Z (za (qi y0h Z) (gE H fun h7 H=>za (x6w Z Z h7.1 h7.2) (qe Z ⟨Z,?_⟩)))))))))))))
  refine zb hN Z (za (zd (.ptr _ _) Z) (za (jd Z) (za (zq y0s Z) (zm (zv y0j Z Z) Z (qd Z (bE H fun x8 h9 H=>za (uu y80 (fun _=>Z) Z Z h9) (za (qu tyS3 Z (qh (vo h9).2) Z) (bE H fun r10 h11 H=>za (zk (y6q x8 1073741824 r10 h11) ⟨.inl Z,.inl Z,U⟩) (qd Z (qd Z (za (yj _ Z Z (.inl ⟨Z,Z⟩)) (za (yj _ Z Z (.inr (.inr ⟨Z,Z⟩))) (za (yj _ Z Z (.inl ⟨Z,Z⟩)) (qd Z (bE H fun r12 h13 H=>za (zk (y6q (wr (r10+(wr (((wr ((wr (s1.at_+1)) - 1)) / (s1.L.length:Int)) * (wr (7919+(Int.tmod (wr ((wr (s1.at_+1)) - 1)) (s1.L.length:Int)))))))) n2 r12 h13) ⟨.inl Z,.inl Z,U⟩) (qe Z (zi ?_)))))))))))))))))
  cases H
  exact ⟨U,⟨.inl Z,U⟩,Z⟩
theorem jk (s1:zt) (l2:(List Bs)) (r:(Bs×zt)) (H:vn s1 l2=some r):Imp Tryz.prog 23 25 (qo s1) [vlst (List.map zr l2)] (zu [vstr r.1]) (qo r.2):=by
 refine kf (us:=[vstr r.1]) (cs':=(qo r.2)) (by kernel_rfl) Tryz.func23 Z Z Z Z fun X bl hN => ?_
 unfold vn at H
 refine zb hN Z (qe Z (zb hN Z (qd Z (za (zd (.ptr _ _) Z) (qd Z (za (qi wq Z) (bE H fun r3 h4 H=>zj (yl (Yb s1 (l2.length:Int) r3 h4) Z ⟨.inl Z,U⟩ Z) Z (bE H fun x5 h6 H=>za (uu vj (fun _=>Z) Z Z h6) (za (qu tyS9 Z (qh (vo h6).2) Z) (qe Z (zi ?_)))))))))))
 cases H
 exact ⟨U,⟨.inl Z,U⟩,Z⟩
theorem je (s1:zt) (n2:Int) (r:(Bool×zt)) (H:vp s1 n2=some r):Imp Tryz.prog 7 25 (qo s1) [vint n2] (zu [ze r.1]) (qo r.2):=by
 refine kf (us:=[ze r.1]) (cs':=(qo r.2)) (by kernel_rfl) Tryz.func7 Z Z Z Z fun X bl hN => ?_
 unfold vp at H
 refine zb hN Z (qe Z (zb hN Z (za (zd (.ptr _ _) Z) (qd Z (bE H fun r3 h4 H=>zj (yl (Yb s1 n2 r3 h4) Z ⟨.inl Z,U⟩ Z) Z (za (qf Z Z) (qe Z (zi ?_))))))))
 cases H
 exact ⟨U,⟨.inl Z,U⟩,Z⟩
theorem z88 (s1:zt) (low2:Int) (high3:Int) (r:(Int×zt)) (H:Qa s1 low2 high3=some r):Imp Tryz.prog 28 25 (qo s1) [vint low2,vint high3] (zu [vint r.1]) (qo r.2):=by
 refine kf (us:=[vint r.1]) (cs':=(qo r.2)) (by kernel_rfl) Tryz.func28 Z Z Z Z fun X bl hN => ?_
 unfold Qa at H
 refine zb hN Z (qe Z (zh (zb hN Z (qd Z (qd Z (za (zx Z Z) (zg _ Z (fun h4 => ?_) (fun h4 => ?_))))))))
 ·refine tE h4 H fun H=>zb hN Z (qd Z (qe Z (zi ?_)))
  cases H
  exact ⟨U,⟨.inl Z,U⟩,Z⟩
 ·refine fE h4 H fun H=>zl (zb hN Z (qd Z (za (zd (.ptr _ _) Z) (qd Z (qd Z (za (yj _ Z Z (.inr (.inl ⟨Z,Z⟩))) (za (yj _ Z Z (.inl ⟨Z,Z⟩)) (bE H fun r5 h6 H=>zj (yl (Yb s1 (wr ((wr (high3 - low2))+1)) r5 h6) Z ⟨.inl Z,U⟩ Z) Z (za (yj _ Z Z (.inl ⟨Z,Z⟩)) (qe Z (zi ?_)))))))))))
  cases H
  exact ⟨U,⟨.inl Z,U⟩,Z⟩
theorem z5e (l:List Bs) (sep r:Bs) (H:jr l sep=some r):Fn Tryz.prog 56 [vlst (List.map zr l),vstr sep] (zu [vstr r]):=by
 obtain ⟨h1,h2,rfl⟩:=w2k H
 refine Zh (by kernel_rfl) fun M w vs hM h => ?_
 obtain ⟨hl,hv⟩:=h
 obtain ⟨a,ha,hap⟩:=hv 0 _ rfl
 obtain ⟨s,hs,hsp⟩:=hv 1 _ rfl
 have hsp:s = .string ⟨sep.toArray⟩:=hsp
 subst hsp
 have hvs:vs.toArray = #[a,.string ⟨sep.toArray⟩]:=by
  rcases vs with _ | ⟨x,_ | ⟨y,_ | ⟨z,t⟩⟩⟩
  ·cases ha
  ·cases hs
  ·cases ha; cases hs; rfl
  ·simp at hl
 rw [hvs]
 obtain ⟨A,c,q1,q2,q3⟩:=hap
 simp only [List.length_map] at q1 q2
 subst q1
 by_cases hne:l=[]
 ·subst hne
  refine (Tryz.strings_Join_none A c ⟨sep.toArray⟩ w).mono ?_
  rintro e w' ⟨rfl,rfl⟩
  exact ⟨_,Z,Z,Kp.refl _ _⟩
 ·obtain ⟨b,off,size,rfl,hMb,arr,t,fz,q5,q6,q7⟩:=q3 (by simpa using hne)
  have hsz:size=1:=by
   cases hq:l with
   | nil=>exact absurd hq hne
   | cons x l'=>have:=q6 (zr x) (by rw [hq]; simp); simpa using this.symm
  subst hsz
  have e1:((l.map fun x=>ByteArray.mk x.toArray).map (·.data.toList))=l:=by
   rw [List.map_map]
   exact (List.map_congr_left fun x _=>Z).trans (List.map_id l)
  have hj:=Tryz.strings_Join b off c (l.map fun x=>ByteArray.mk x.toArray) ⟨sep.toArray⟩ w (fun j x hx=>by
   rw [List.getElem?_map] at hx
   cases hq:l[j]? with
   | none=>rw [hq] at hx; cases hx
   | some y =>
    rw [hq] at hx
    cases hx
    obtain ⟨v,r1,r2,_⟩:=q7 j 0 (zr y) (vstr y) (by rw [List.getElem?_map,hq]; rfl) rfl
    have r2:v = .string ⟨y.toArray⟩:=r2
    rw [cell_of_row w b _ _ _ _ q5]
    simp only [Nat.mul_one,Nat.add_zero] at r1
    rw [r1,r2]) (jt q5) (by simp; omega) (by simpa using q2) (by rw [e1]; simp only; omega)
  rw [List.length_map,e1] at hj
  refine hj.mono ?_
  rintro e w' ⟨rfl,hb⟩
  exact ⟨_,Z,Z,Kp.of_below hb⟩
theorem z1r (s1:zt) (many2:Int) (between3:Bs) (l4:(List Bs)) (r:(Bs×zt)) (H:kz s1 many2 between3 l4=some r):Imp Tryz.prog 27 25 (qo s1) [vint many2,vstr between3,vlst (List.map zr l4)] (zu [vstr r.1]) (qo r.2):=by
 refine kf (us:=[vstr r.1]) (cs':=(qo r.2)) (by kernel_rfl) Tryz.func27 Z Z Z Z fun X bl hN => ?_
 unfold kz at H
 refine zb hN Z (qe Z (zb hN Z (qe Z (zh (zb hN Z (qd Z (qd Z (zw (jg 9 1 9 1 Z Z Z (gE H fun h10 H=>y7m (fun (k8:Nat) (s:(List Int)×Int×(List Bs))=>[(0,.ptr 0 0),(2,.dat (vstr between3)),(3,.dat (vlst (List.map zr l4))),(9,.row 1 s.2.2.length),(10,.dat (vint many2)),(11,.dat (vint (k8:Int)))]) (fun (k8:Nat) (s:(List Int)×Int×(List Bs))=>[(0,.box (some bl) 25 [.dat (vlst (List.map wa s.1)),.dat (vint s.2.1)]),(1,.row 9 1 (List.map zr s.2.2))]) (s1.L,s1.at_,[]) H ⟨Z,Z,Z,Z,Z,Z,U⟩ ⟨Z,Z,U⟩ (fun _ _=>Z) ?_ ?_))))))))))
 ·rintro ⟨c5,c6,l7⟩ H
  replace H:z6h between3 c5 c6 l7=some r:=H
  unfold z6h at H
  refine zb hN Z (za (zx Z Z) (zh (zg _ Z (fun h=>(x9s h).elim) (fun h => ?_))))
  refine yt (zh (Yn 9 1 Z Z Z (zp hN Z (qd Z (qd Z (bE H fun r11 h12 H=>za (zk (z5e l7 between3 r11 h12) ⟨.inl Z,.inl Z,U⟩) (qe Z (zi ?_))))))))
  cases H
  exact ⟨U,⟨.inl Z,U⟩,Z⟩
 ·rintro k8 ⟨c5,c6,l7⟩ q9 h13 H hq9
  replace H:z6g l4 k8 c5 c6 l7=some q9:=H
  unfold z6g at H
  refine zb hN Z (za (zx Z Z) (zh (zg _ Z (fun h => ?_) (fun h=>(x9t h13 h).elim))))
  refine zl (zh (zw (zp hN Z (za (zd (.row _ _) Z) (za (zd (.ptr _ _) Z) (qd Z (bE H fun r14 h15 H=>zj (yl (jk (zt.mk c5 c6) l4 r14 h15) Z ⟨.inl Z,U⟩ Z) Z (za (ya (u':=vlst (List.map zr [r14.1])) (yo [[_]] yu ⟨Z,.inl ⟨_,Z,Z,Z⟩,Z,U⟩ Z Z) Z) (gE H fun h16 H=>zj (vk yu (fun _=>Z) Z Z Z ⟨by simp,by first | (simp; done) | simpa using h16⟩ Z) Z ?_)))))))))
  exact za (qm (.row _ _) Z) (zp hN Z (za (qs Z Z (by omega)) (qd Z ⟨_,yx H,⟨Z,Z,Z,Z,Z,Z,U⟩,⟨Z,Z,U⟩⟩)))
theorem x29 (s1:zt) (r:(Bs×zt)) (H:z40 s1=some r):Imp Tryz.prog 11 25 (qo s1) [] (zu [vstr r.1]) (qo r.2):=by
 refine kf (us:=[vstr r.1]) (cs':=(qo r.2)) (by kernel_rfl) Tryz.func11 Z Z Z Z fun X bl hN => ?_
 unfold z40 at H
 refine zb hN Z (qe Z (zb hN Z (za (zd (.ptr _ _) Z) (za (zd (.ptr _ _) Z) (bE H fun r2 h3 H=>zj (yl (z88 s1 1 2 r2 h3) Z ⟨.inl Z,.inl Z,U⟩ Z) Z (za (ya (u':=vlst (List.map zr [[109,97,120,45,97,103,101,61,51,48],[109,97,120,45,97,103,101,61,48],[109,105,110,45,102,114,101,115,104,61,50,48],[109,97,120,45,115,116,97,108,101,61,49,53],[110,111,45,99,97,99,104,101],[111,110,108,121,45,105,102,45,99,97,99,104,101,100],[109,97,120,45,115,116,97,108,101,61,49,48,48,48],[110,111,45,115,116,111,114,101]])) (yo [[_],[_],[_],[_],[_],[_],[_],[_]] yu ⟨Z,.inl ⟨_,Z,Z,Z⟩,Z,Z,.inl ⟨_,Z,Z,Z⟩,Z,Z,.inl ⟨_,Z,Z,Z⟩,Z,Z,.inl ⟨_,Z,Z,Z⟩,Z,Z,.inl ⟨_,Z,Z,Z⟩,Z,Z,.inl ⟨_,Z,Z,Z⟩,Z,Z,.inl ⟨_,Z,Z,Z⟩,Z,Z,.inl ⟨_,Z,Z,Z⟩,Z,U⟩ Z Z) Z) (bE H fun r4 h5 H=>zj (yl (z1r r2.2 r2.1 [44,32] ([[109,97,120,45,97,103,101,61,51,48],[109,97,120,45,97,103,101,61,48],[109,105,110,45,102,114,101,115,104,61,50,48],[109,97,120,45,115,116,97,108,101,61,49,53],[110,111,45,99,97,99,104,101],[111,110,108,121,45,105,102,45,99,97,99,104,101,100],[109,97,120,45,115,116,97,108,101,61,49,48,48,48],[110,111,45,115,116,111,114,101]]) r4 h5) Z ⟨.inl Z,.inl Z,.inl Z,U⟩ Z) Z (qe Z (yd (ι:=Bs×(List Int)×Int) (fun i=>[(3,.dat (vstr i.1))]) (fun i=>[(0,.box (some bl) 25 [.dat (vlst (List.map wa i.2.1)),.dat (vint i.2.2)])]) (fun i=>z6k i.1 i.2.1 i.2.2=some r) (fun i=>Z) ?_ ?_)))))))))
 ·skip
  refine zb hN Z (za (zd (.ptr _ _) Z) (bE H fun r6 h7 H=>zj (yl (je r4.2 20 r6 h7) Z ⟨.inl Z,U⟩ Z) Z (zg _ Z (fun h8 => ?_) (fun h8 => ?_))))
  ·exact tE h8 H fun H=>zp hN Z (za (zd (.ptr _ _) Z) (za (ya (u':=vlst (List.map zr [[109,97,120,45,115,116,97,108,101],[109,105,110,45,102,114,101,115,104,61,120]])) (yo [[_],[_]] yu ⟨Z,.inl ⟨_,Z,Z,Z⟩,Z,Z,.inl ⟨_,Z,Z,Z⟩,Z,U⟩ Z Z) Z) (bE H fun r9 h10 H=>zj (yl (jk r6.2 ([[109,97,120,45,115,116,97,108,101],[109,105,110,45,102,114,101,115,104,61,120]]) r9 h10) Z ⟨.inl Z,U⟩ Z) Z (qe Z ⟨(r9.1,r9.2.L,r9.2.at_),H,⟨Z,U⟩,⟨Z,U⟩⟩))))
  ·exact fE h8 H fun H=>zl ⟨(r4.1,r6.2.L,r6.2.at_),H,⟨Z,U⟩,⟨Z,U⟩⟩
 ·rintro ⟨t11,c12,c13⟩ H
  replace H:z6k t11 c12 c13=some r:=H
  unfold z6k at H
  refine zb hN Z (qd Z (qe Z (zi ?_)))
  cases H
  exact ⟨U,⟨.inl Z,U⟩,Z⟩
theorem y6f (s:Bs) (n:Int) (r:Bs) (H:Wg s n=some r):Fn Tryz.prog 51 [vstr s,vint n] (zu [vstr r]):=by
 obtain ⟨h0,h1,h2,rfl⟩:=x8o H
 obtain ⟨c,rfl⟩:=Int.eq_ofNat_of_zero_le h0
 refine y3r (by kernel_rfl) fun M w vs h => ?_
 have hv:=kr (us:=[.string ⟨s.toArray⟩,.int .i64 c]) h
 subst hv
 have hs:(ByteArray.mk s.toArray).size=s.length:=by simp [ByteArray.size]
 refine (Tryz.strings_Repeat ⟨s.toArray⟩ c w (by omega) (by rw [hs]; exact Nat.le_trans (Nat.mul_le_mul h2 (show c≤1000000 by omega)) (by decide))).mono ?_
 rintro e w' ⟨rfl,hb⟩
 exact ⟨_,Z,by simp [zu,vstr,vval],Kp.of_below hb⟩
theorem w12 (s1:zt) (t2:Bs) (v3:Bs) (r:(Bs×zt)) (H:z8t s1 t2 v3=some r):Imp Tryz.prog 55 25 (qo s1) [vstr t2,vstr v3] (zu [vstr r.1]) (qo r.2):=by
 refine kf (us:=[vstr r.1]) (cs':=(qo r.2)) (by kernel_rfl) Tryz.func55 Z Z Z Z fun X bl hN => ?_
 unfold z8t at H
 refine zb hN Z (qe Z (zh (zb hN Z (qd Z (za (va Z Z) (qd Z (yn Z Z (fun hc=>zd (.dat _) Z) (yn Z Z (fun hc=>va (cnd (c:=(!(decide (t2=[])))) hc) Z) (za (wv Z Z (fun hb=>(cnd (c:=(!(decide (t2=[])))) (notI hb)))) (zg _ Z (fun h4 => ?_) (fun h4 => ?_)))))))))))
 ·refine tE h4 H fun H=>zb hN Z (qd Z (qe Z (zi ?_)))
  cases H
  exact ⟨U,⟨.inl Z,U⟩,Z⟩
 ·refine fE h4 H fun H=>zl (zb hN Z (za (zd (.ptr _ _) Z) (qd Z (za (qj tyU9 Z) (bE H fun r5 h6 H=>zj (yl (Yb s1 (t2.length:Int) r5 h6) Z ⟨.inl Z,U⟩ Z) Z (qe Z (zb hN Z (qd Z (za (zd (.ptr _ _) Z) (qd Z (za (qj tyU9 Z) (bE H fun r7 h8 H=>zj (yl (Yb r5.2 (v3.length:Int) r7 h8) Z ⟨.inl Z,U⟩ Z) Z (bE H fun x9 h10 H=>za (kh tyU9 Z Z h10) (qe Z (zh (zb hN Z (za (zd (.ptr _ _) Z) (bE H fun r11 h12 H=>zj (yl (Yb r7.2 3 r11 h12) Z ⟨.inl Z,U⟩ Z) Z ?_))))))))))))))))))
  refine zw (zb hN Z (za (qf Z Z) (qe Z (zg _ Z (fun h13 => ?_) (fun h13 => ?_)))))
  ·refine tE h13 H fun H=>zh (wz mixed hN Z Z (qd Z (qd Z (bE H fun l14 h15 H=>za (jc tyU9 Z Z Z h15) (qd Z (za (jn tyU5 z25 Z) (za (y4j z25 Z tyU9 Z) (gE H fun h16 H=>za (jj Z Z (Nat.le_trans h16 (by decide))) (qd Z (qd Z (za (yj _ Z Z (.inl ⟨Z,Z⟩)) (bE H fun l17 h18 H=>za (jc tyU9 Z Z Z h18) (gE H fun h19 H=>za (jj Z Z (Nat.le_trans h19 (by decide))) (qe Z ⟨Z,?_⟩))))))))))))))
   refine zi ?_
   cases H
   exact ⟨U,⟨.inl Z,U⟩,Z⟩
  ·refine fE h13 H fun H=>zb hN Z (za (qf Z Z) (qe Z (zg _ Z (fun h20 => ?_) (fun h20 => ?_))))
   ·refine tE h20 H fun H=>zh (wz mixed hN Z Z (qd Z (qd Z (bE H fun l21 h22 H=>za (jc tyU9 Z Z Z h22) (qd Z (za (jn tyU5 z25 Z) (za (y4j z25 Z tyU9 Z) (gE H fun h23 H=>za (jj Z Z (Nat.le_trans h23 (by decide))) (qd Z (qd Z (bE H fun l24 h25 H=>za (jc tyU9 Z Z Z h25) (gE H fun h26 H=>za (jj Z Z (Nat.le_trans h26 (by decide))) (qe Z ⟨Z,?_⟩)))))))))))))
    refine zi ?_
    cases H
    exact ⟨U,⟨.inl Z,U⟩,Z⟩
   ·refine fE h20 H fun H=>zl (zh (wz mixed hN Z Z (qd Z (qd Z (bE H fun l27 h28 H=>za (jc tyU9 Z Z Z h28) (qd Z (qd Z (za (yj _ Z Z (.inl ⟨Z,Z⟩)) (bE H fun l29 h30 H=>za (jc tyU9 Z Z Z h30) (gE H fun h31 H=>za (jj Z Z (Nat.le_trans h31 (by decide))) (qe Z ⟨Z,?_⟩)))))))))))
    refine zi ?_
    cases H
    exact ⟨U,⟨.inl Z,U⟩,Z⟩
theorem w1x (s1:zt) (r:(Bs×zt)) (H:z8p s1=some r):Imp Tryz.prog 24 25 (qo s1) [] (zu [vstr r.1]) (qo r.2):=by
 refine kf (us:=[vstr r.1]) (cs':=(qo r.2)) (by kernel_rfl) Tryz.func24 Z Z Z Z fun X bl hN => ?_
 unfold z8p at H
 refine zb hN Z (qe Z (zb hN Z (za (zd (.ptr _ _) Z) (za (zd (.ptr _ _) Z) (bE H fun r2 h3 H=>zj (yl (z88 s1 0 4 r2 h3) Z ⟨.inl Z,.inl Z,U⟩ Z) Z (za (ya (u':=vlst (List.map zr [[97],[98],[37,52,49],[37,50,102],[37,55,101],[46],[46,46],[],[120,59,121],[99,37,50,48,100],[37,99,51,37,97,52],[65],[97,46,98],[126]])) (yo [[_],[_],[_],[_],[_],[_],[_],[_],[_],[_],[_],[_],[_],[_]] yu ⟨Z,.inl ⟨_,Z,Z,Z⟩,Z,Z,.inl ⟨_,Z,Z,Z⟩,Z,Z,.inl ⟨_,Z,Z,Z⟩,Z,Z,.inl ⟨_,Z,Z,Z⟩,Z,Z,.inl ⟨_,Z,Z,Z⟩,Z,Z,.inl ⟨_,Z,Z,Z⟩,Z,Z,.inl ⟨_,Z,Z,Z⟩,Z,Z,.inl ⟨_,Z,Z,Z⟩,Z,Z,.inl ⟨_,Z,Z,Z⟩,Z,Z,.inl ⟨_,Z,Z,Z⟩,Z,Z,.inl ⟨_,Z,Z,Z⟩,Z,Z,.inl ⟨_,Z,Z,Z⟩,Z,Z,.inl ⟨_,Z,Z,Z⟩,Z,Z,.inl ⟨_,Z,Z,Z⟩,Z,U⟩ Z Z) Z) (bE H fun r4 h5 H=>zj (yl (z1r r2.2 r2.1 [47] ([[97],[98],[37,52,49],[37,50,102],[37,55,101],[46],[46,46],[],[120,59,121],[99,37,50,48,100],[37,99,51,37,97,52],[65],[97,46,98],[126]]) r4 h5) Z ⟨.inl Z,.inl Z,.inl Z,U⟩ Z) Z (gE H fun h6 H=>za (jj Z Z (Nat.le_trans h6 (by decide))) (qe Z (yd (ι:=Bs×(List Int)×Int) (fun i=>[(0,.ptr 0 0),(3,.dat (vstr i.1))]) (fun i=>[(0,.box (some bl) 25 [.dat (vlst (List.map wa i.2.1)),.dat (vint i.2.2)])]) (fun i=>z2b i.1 i.2.1 i.2.2=some r) (fun i=>Z) ?_ ?_))))))))))
 ·skip
  refine zb hN Z (za (zd (.ptr _ _) Z) (bE H fun r7 h8 H=>zj (yl (je r4.2 12 r7 h8) Z ⟨.inl Z,U⟩ Z) Z (zg _ Z (fun h9 => ?_) (fun h9 => ?_))))
  ·exact tE h9 H fun H=>zp hN Z (za (zd (.ptr _ _) Z) (bE H fun r10 h11 H=>za (zk (y6f [37,50,48] 340 r10 h11) ⟨.inl Z,.inl Z,U⟩) (gE H fun h12 H=>za (jj Z Z (Nat.le_trans h12 (by decide))) (za (ya (u':=vlst (List.map zr [[],[97],[47,97,63,98],[47,97,35],[47,37],[47,37,52],[47,37,122,122],[47,127],[47,97,32,98],([47]++r10)])) (yo [[_],[_],[_],[_],[_],[_],[_],[_],[_],[_]] yu ⟨Z,.inl ⟨_,Z,Z,Z⟩,Z,Z,.inl ⟨_,Z,Z,Z⟩,Z,Z,.inl ⟨_,Z,Z,Z⟩,Z,Z,.inl ⟨_,Z,Z,Z⟩,Z,Z,.inl ⟨_,Z,Z,Z⟩,Z,Z,.inl ⟨_,Z,Z,Z⟩,Z,Z,.inl ⟨_,Z,Z,Z⟩,Z,Z,.inl ⟨_,Z,Z,Z⟩,Z,Z,.inl ⟨_,Z,Z,Z⟩,Z,Z,.inl ⟨_,Z,Z,Z⟩,Z,U⟩ Z Z) Z) (bE H fun r13 h14 H=>zj (yl (jk r7.2 ([[],[97],[47,97,63,98],[47,97,35],[47,37],[47,37,52],[47,37,122,122],[47,127],[47,97,32,98],([47]++r10)]) r13 h14) Z ⟨.inl Z,U⟩ Z) Z (qe Z ⟨(r13.1,r13.2.L,r13.2.at_),H,⟨Z,Z,U⟩,⟨Z,U⟩⟩))))))
  ·exact fE h9 H fun H=>zl ⟨(([47]++r4.1),r7.2.L,r7.2.at_),H,⟨Z,Z,U⟩,⟨Z,U⟩⟩
 ·rintro ⟨p15,c16,c17⟩ H
  replace H:z2b p15 c16 c17=some r:=H
  unfold z2b at H
  refine yd (ι:=Bs×(List Int)×Int) (fun i=>[(3,.dat (vstr i.1))]) (fun i=>[(0,.box (some bl) 25 [.dat (vlst (List.map wa i.2.1)),.dat (vint i.2.2)])]) (fun i=>z6i i.1 i.2.1 i.2.2=some r) (fun i=>Z) ?_ ?_
  ·skip
   refine zb hN Z (za (zd (.ptr _ _) Z) (bE H fun r18 h19 H=>zj (yl (je (zt.mk c16 c17) 12 r18 h19) Z ⟨.inl Z,U⟩ Z) Z (zg _ Z (fun h20 => ?_) (fun h20 => ?_))))
   ·exact tE h20 H fun H=>zp hN Z (za (zd (.ptr _ _) Z) (qd Z (bE H fun r21 h22 H=>zj (yl (w12 r18.2 p15 [47,46,37,50,102,65] r21 h22) Z ⟨.inl Z,.inl Z,U⟩ Z) Z (qe Z ⟨(r21.1,r21.2.L,r21.2.at_),H,⟨Z,U⟩,⟨Z,U⟩⟩))))
   ·exact fE h20 H fun H=>zl ⟨(p15,r18.2.L,r18.2.at_),H,⟨Z,U⟩,⟨Z,U⟩⟩
  ·rintro ⟨p23,c24,c25⟩ H
   replace H:z6i p23 c24 c25=some r:=H
   unfold z6i at H
   refine zb hN Z (qd Z (qe Z (zi ?_)))
   cases H
   exact ⟨U,⟨.inl Z,U⟩,Z⟩
theorem w1w (s1:zt) (r:(Bs×zt)) (H:z1l s1=some r):Imp Tryz.prog 25 25 (qo s1) [] (zu [vstr r.1]) (qo r.2):=by
 refine kf (us:=[vstr r.1]) (cs':=(qo r.2)) (by kernel_rfl) Tryz.func25 Z Z Z Z fun X bl hN => ?_
 unfold z1l at H
 refine zb hN Z (qe Z (zb hN Z (za (zd (.ptr _ _) Z) (za (zd (.ptr _ _) Z) (bE H fun r2 h3 H=>zj (yl (z88 s1 0 4 r2 h3) Z ⟨.inl Z,.inl Z,U⟩ Z) Z (za (ya (u':=vlst (List.map zr [[97,61,49],[98,61,50],[97,61],[61,120],[61],[99],[],[97,61,37,52,49,43,37,50,66],[100,61,120,37,50,54,121],[98,61,37,99,51],[97,61,49,61,50],[97,63,98,61,47]])) (yo [[_],[_],[_],[_],[_],[_],[_],[_],[_],[_],[_],[_]] yu ⟨Z,.inl ⟨_,Z,Z,Z⟩,Z,Z,.inl ⟨_,Z,Z,Z⟩,Z,Z,.inl ⟨_,Z,Z,Z⟩,Z,Z,.inl ⟨_,Z,Z,Z⟩,Z,Z,.inl ⟨_,Z,Z,Z⟩,Z,Z,.inl ⟨_,Z,Z,Z⟩,Z,Z,.inl ⟨_,Z,Z,Z⟩,Z,Z,.inl ⟨_,Z,Z,Z⟩,Z,Z,.inl ⟨_,Z,Z,Z⟩,Z,Z,.inl ⟨_,Z,Z,Z⟩,Z,Z,.inl ⟨_,Z,Z,Z⟩,Z,Z,.inl ⟨_,Z,Z,Z⟩,Z,U⟩ Z Z) Z) (bE H fun r4 h5 H=>zj (yl (z1r r2.2 r2.1 [38] ([[97,61,49],[98,61,50],[97,61],[61,120],[61],[99],[],[97,61,37,52,49,43,37,50,66],[100,61,120,37,50,54,121],[98,61,37,99,51],[97,61,49,61,50],[97,63,98,61,47]]) r4 h5) Z ⟨.inl Z,.inl Z,.inl Z,U⟩ Z) Z (qe Z (yd (ι:=Bs×(List Int)×Int) (fun i=>[(3,.dat (vstr i.1))]) (fun i=>[(0,.box (some bl) 25 [.dat (vlst (List.map wa i.2.1)),.dat (vint i.2.2)])]) (fun i=>z2a i.1 i.2.1 i.2.2=some r) (fun i=>Z) ?_ ?_)))))))))
 ·skip
  refine zb hN Z (za (zd (.ptr _ _) Z) (bE H fun r6 h7 H=>zj (yl (je r4.2 12 r6 h7) Z ⟨.inl Z,U⟩ Z) Z (zg _ Z (fun h8 => ?_) (fun h8 => ?_))))
  ·exact tE h8 H fun H=>zp hN Z (za (zd (.ptr _ _) Z) (za (zd (.ptr _ _) Z) (za (ya (u':=vlst (List.map zr [[120]])) (yo [[_]] yu ⟨Z,.inl ⟨_,Z,Z,Z⟩,Z,U⟩ Z Z) Z) (bE H fun r9 h10 H=>zj (yl (z1r r6.2 101 [38] ([[120]]) r9 h10) Z ⟨.inl Z,.inl Z,.inl Z,U⟩ Z) Z (za (ya (u':=vlst (List.map zr [[35],[97,37],[37,103,49,61,50],[97,32,98],[128],r9.1])) (yo [[_],[_],[_],[_],[_],[_]] yu ⟨Z,.inl ⟨_,Z,Z,Z⟩,Z,Z,.inl ⟨_,Z,Z,Z⟩,Z,Z,.inl ⟨_,Z,Z,Z⟩,Z,Z,.inl ⟨_,Z,Z,Z⟩,Z,Z,.inl ⟨_,Z,Z,Z⟩,Z,Z,.inl ⟨_,Z,Z,Z⟩,Z,U⟩ Z Z) Z) (bE H fun r11 h12 H=>zj (yl (jk r9.2 ([[35],[97,37],[37,103,49,61,50],[97,32,98],[128],r9.1]) r11 h12) Z ⟨.inl Z,U⟩ Z) Z (qe Z ⟨(r11.1,r11.2.L,r11.2.at_),H,⟨Z,U⟩,⟨Z,U⟩⟩)))))))
  ·exact fE h8 H fun H=>zl ⟨(r4.1,r6.2.L,r6.2.at_),H,⟨Z,U⟩,⟨Z,U⟩⟩
 ·rintro ⟨q13,c14,c15⟩ H
  replace H:z2a q13 c14 c15=some r:=H
  unfold z2a at H
  refine zb hN Z (qd Z (qe Z (zi ?_)))
  cases H
  exact ⟨U,⟨.inl Z,U⟩,Z⟩
theorem x28 (s1:zt) (v2:Int) (r:(zz×zt)) (H:z4z s1 v2=some r):Imp Tryz.prog 5 25 (qo s1) [vint v2] (zu [vagg (qx r.1)]) (qo r.2):=by
 refine kf (us:=[vagg (qx r.1)]) (cs':=(qo r.2)) (by kernel_rfl) Tryz.func5 Z Z Z Z fun X bl hN => ?_
 unfold z4z at H
 refine zb hN Z (zj (qv 1 jh Z) Z (zb hN Z (qd Z (za (zd (.ptr _ _) Z) (za (ya (u':=vlst (List.map zr [[71,69,84],[71,69,84],[71,69,84],[71,69,84],[72,69,65,68],[80,79,83,84]])) (yo [[_],[_],[_],[_],[_],[_]] yu ⟨Z,.inl ⟨_,Z,Z,Z⟩,Z,Z,.inl ⟨_,Z,Z,Z⟩,Z,Z,.inl ⟨_,Z,Z,Z⟩,Z,Z,.inl ⟨_,Z,Z,Z⟩,Z,Z,.inl ⟨_,Z,Z,Z⟩,Z,Z,.inl ⟨_,Z,Z,Z⟩,Z,U⟩ Z Z) Z) (bE H fun r3 h4 H=>zj (yl (jk s1 ([[71,69,84],[71,69,84],[71,69,84],[71,69,84],[72,69,65,68],[80,79,83,84]]) r3 h4) Z ⟨.inl Z,U⟩ Z) Z (za (zd (.ptr _ _) Z) (za (ya (u':=vlst (List.map zr [[97,46,98],[97,46,98],[65,46,66,58,56,48],[99,46,100]])) (yo [[_],[_],[_],[_]] yu ⟨Z,.inl ⟨_,Z,Z,Z⟩,Z,Z,.inl ⟨_,Z,Z,Z⟩,Z,Z,.inl ⟨_,Z,Z,Z⟩,Z,Z,.inl ⟨_,Z,Z,Z⟩,Z,U⟩ Z Z) Z) (bE H fun r5 h6 H=>zj (yl (jk r3.2 ([[97,46,98],[97,46,98],[65,46,66,58,56,48],[99,46,100]]) r5 h6) Z ⟨.inl Z,U⟩ Z) Z (za (zd (.ptr _ _) Z) (za (ya (u':=vlst (List.map zr [[47,120],[47,120],[47,120,47,46,47],[47,37,55,56],[47,121]])) (yo [[_],[_],[_],[_],[_]] yu ⟨Z,.inl ⟨_,Z,Z,Z⟩,Z,Z,.inl ⟨_,Z,Z,Z⟩,Z,Z,.inl ⟨_,Z,Z,Z⟩,Z,Z,.inl ⟨_,Z,Z,Z⟩,Z,Z,.inl ⟨_,Z,Z,Z⟩,Z,U⟩ Z Z) Z) (bE H fun r7 h8 H=>zj (yl (jk r5.2 ([[47,120],[47,120],[47,120,47,46,47],[47,37,55,56],[47,121]]) r7 h8) Z ⟨.inl Z,U⟩ Z) Z (za (zd (.ptr _ _) Z) (za (ya (u':=vlst (List.map zr [[],[],[98,61,50,38,97,61,49],[97,61,49,38,98,61,50]])) (yo [[_],[_],[_],[_]] yu ⟨Z,.inl ⟨_,Z,Z,Z⟩,Z,Z,.inl ⟨_,Z,Z,Z⟩,Z,Z,.inl ⟨_,Z,Z,Z⟩,Z,Z,.inl ⟨_,Z,Z,Z⟩,Z,U⟩ Z Z) Z) (bE H fun r9 h10 H=>zj (yl (jk r7.2 ([[],[],[98,61,50,38,97,61,49],[97,61,49,38,98,61,50]]) r9 h10) Z ⟨.inl Z,U⟩ Z) Z (za (ya (u':=vagg [vint v2,vstr r3.1,vstr r5.1,vstr r7.1,vstr r9.1,vstr [],vnil,vstr []]) (wx [(0,[vint v2]),(1,[vstr r3.1]),(2,[vstr r5.1]),(3,[vstr r7.1]),(4,[vstr r9.1])] jh Yk Z ⟨Z,.inl ⟨_,Z,Z,Z⟩,Z,Z,.inl ⟨_,Z,Z,Z⟩,Z,Z,.inl ⟨_,Z,Z,Z⟩,Z,Z,.inl ⟨_,Z,Z,Z⟩,Z,Z,.inl ⟨_,Z,Z,Z⟩,Z,U⟩) Z) (zj (qv 2 jh Z) Z (zj (qk yy Z Z Z Z) Z (z6w 2 6 3 40 2 Z Z Z Z ?_)))))))))))))))))))
 refine yd (ι:=(List Int)×Int×(List zn)) (fun i=>[(0,.ptr 0 0),(4,.ptr 1 0),(5,.ptr 2 0)]) (fun i=>[(0,.box (some bl) 25 [.dat (vlst (List.map wa i.1)),.dat (vint i.2.1)]),(1,.box none 28 [.dat (vint 0),.dat (vstr []),.dat (vstr []),.dat (vstr []),.dat (vstr []),.dat (vstr []),.dat (vnil),.dat (vstr [])]),(2,.box none 28 [.dat (vint v2),.dat (vstr r3.1),.dat (vstr r5.1),.dat (vstr r7.1),.dat (vstr r9.1),.dat (vstr []),.row 3 i.2.2.length,.dat (vstr [])]),(3,.row 40 2 (List.map yb i.2.2))]) (fun i=>z2o v2 r3 r5 r7 r9 i.1 i.2.1 i.2.2=some r) (fun i=>Z) ?_ ?_
 ·refine ve (zb hN Z (za (zd (.ptr _ _) Z) (bE H fun r11 h12 H=>zj (yl (je r9.2 3 r11 h12) Z ⟨.inl Z,U⟩ Z) Z (zg _ Z (fun h13 => ?_) (fun h13 => ?_)))))
  ·refine tE h13 H fun H=>wz mixed hN Z Z (za (zq vi Z) (zm (zv wb Z Z) Z (za (zd (.ptr _ _) Z) (za (ya (u':=vlst (List.map zr [[97,99,99,101,112,116,45,108,97,110,103,117,97,103,101],[65,99,99,101,112,116,45,76,97,110,103,117,97,103,101]])) (yo [[_],[_]] yu ⟨Z,.inl ⟨_,Z,Z,Z⟩,Z,Z,.inl ⟨_,Z,Z,Z⟩,Z,U⟩ Z Z) Z) (bE H fun r14 h15 H=>zj (yl (jk r11.2 ([[97,99,99,101,112,116,45,108,97,110,103,117,97,103,101],[65,99,99,101,112,116,45,76,97,110,103,117,97,103,101]]) r14 h15) Z ⟨.inl Z,U⟩ Z) Z (za (zd (.ptr _ _) Z) (za (ya (u':=vlst (List.map zr [[100,101],[101,110]])) (yo [[_],[_]] yu ⟨Z,.inl ⟨_,Z,Z,Z⟩,Z,Z,.inl ⟨_,Z,Z,Z⟩,Z,U⟩ Z Z) Z) (bE H fun r16 h17 H=>zj (yl (jk r14.2 ([[100,101],[101,110]]) r16 h17) Z ⟨.inl Z,U⟩ Z) Z (za (ya (u':=vagg (yb (zn.mk r14.1 r16.1))) (wx [(0,[vstr r14.1]),(1,[vstr r16.1])] kl Qs Z ⟨Z,.inl ⟨_,Z,Z,Z⟩,Z,Z,.inl ⟨_,Z,Z,Z⟩,Z,U⟩) Z) (za (ya (u':=vlst (List.map yb [(zn.mk r14.1 r16.1)])) (yo [_] kg ⟨Z,.inr Z,Z,U⟩ Z Z) Z) (gE H fun h18 H=>zj (vk (C:=yb) (xs:=([]:List zn)) kg (fun _=>Z) Z Z Z ⟨by simp,by first | (simp; done) | simpa using h18⟩ Z) Z ?_)))))))))))
   refine za (zq vi Z) (uw (uv wb Z Z (by rw [List.length_map]) Z) Z Z ?_)
   refine ⟨Z,?_⟩
   show Cv _ _ _ _
   exact vq ⟨(r16.2.L,r16.2.at_,(([]:List zn)++[(zn.mk r14.1 r16.1)])),H,⟨Z,Z,Z,U⟩,⟨Z,Z,Z,Z,U⟩⟩
  ·refine fE h13 H fun H=>zl ?_
   show Cv _ _ _ _
   exact vq ⟨(r11.2.L,r11.2.at_,([]:List zn)),H,⟨Z,Z,Z,U⟩,⟨Z,Z,(congrArg (fun n=>some (some (AObj.box none 28 [.dat (vint v2),.dat (vstr r3.1),.dat (vstr r5.1),.dat (vstr r7.1),.dat (vstr r9.1),.dat (vstr []),.row 3 n,.dat (vstr [])]))) (show 0=([]:List zn).length from (by simp))),Z,U⟩⟩
 ·rintro ⟨c19,c20,l21⟩ H
  replace H:z2o v2 r3 r5 r7 r9 c19 c20 l21=some r:=H
  unfold z2o at H
  refine yd (ι:=(List Int)×Int×(List zn)) (fun i=>[(0,.ptr 0 0),(4,.ptr 1 0),(5,.ptr 2 0)]) (fun i=>[(0,.box (some bl) 25 [.dat (vlst (List.map wa i.1)),.dat (vint i.2.1)]),(1,.box none 28 [.dat (vint 0),.dat (vstr []),.dat (vstr []),.dat (vstr []),.dat (vstr []),.dat (vstr []),.dat (vnil),.dat (vstr [])]),(2,.box none 28 [.dat (vint v2),.dat (vstr r3.1),.dat (vstr r5.1),.dat (vstr r7.1),.dat (vstr r9.1),.dat (vstr []),.row 3 i.2.2.length,.dat (vstr [])]),(3,.row 40 2 (List.map yb i.2.2))]) (fun i=>z2n v2 r3 r5 r7 r9 i.1 i.2.1 i.2.2=some r) (fun i=>Z) ?_ ?_
  ·refine ve (zb hN Z (za (zd (.ptr _ _) Z) (bE H fun r22 h23 H=>zj (yl (je (zt.mk c19 c20) 4 r22 h23) Z ⟨.inl Z,U⟩ Z) Z (zg _ Z (fun h24 => ?_) (fun h24 => ?_)))))
   ·refine tE h24 H fun H=>wz mixed hN Z Z (za (zq vi Z) (zm (zv wb Z Z) Z (za (zd (.ptr _ _) Z) (bE H fun r25 h26 H=>zj (yl (x29 r22.2 r25 h26) Z U Z) Z (za (ya (u':=vagg (yb (zn.mk [99,97,99,104,101,45,99,111,110,116,114,111,108] r25.1))) (wx [(0,[vstr [99,97,99,104,101,45,99,111,110,116,114,111,108]]),(1,[vstr r25.1])] kl Qs Z ⟨Z,.inl ⟨_,Z,Z,Z⟩,Z,Z,.inl ⟨_,Z,Z,Z⟩,Z,U⟩) Z) (za (ya (u':=vlst (List.map yb [(zn.mk [99,97,99,104,101,45,99,111,110,116,114,111,108] r25.1)])) (yo [_] kg ⟨Z,.inr Z,Z,U⟩ Z Z) Z) (gE H fun h27 H=>zj (vk kg (fun _=>Z) Z Z Z ⟨by simp,by first | (simp; done) | simpa using h27⟩ Z) Z ?_)))))))
    refine za (zq vi Z) (uw (uv wb Z Z (by rw [List.length_map]) Z) Z Z ?_)
    refine ⟨Z,?_⟩
    show Cv _ _ _ _
    exact vq ⟨(r25.2.L,r25.2.at_,(l21++([(zn.mk [99,97,99,104,101,45,99,111,110,116,114,111,108] r25.1)]))),H,⟨Z,Z,Z,U⟩,⟨Z,Z,Z,Z,U⟩⟩
   ·refine fE h24 H fun H=>zl ?_
    show Cv _ _ _ _
    exact vq ⟨(r22.2.L,r22.2.at_,l21),H,⟨Z,Z,Z,U⟩,⟨Z,Z,Z,Z,U⟩⟩
  ·rintro ⟨c28,c29,l30⟩ H
   replace H:z2n v2 r3 r5 r7 r9 c28 c29 l30=some r:=H
   unfold z2n at H
   refine yd (ι:=(List Int)×Int×(List zn)) (fun i=>[(0,.ptr 0 0),(4,.ptr 1 0),(5,.ptr 2 0)]) (fun i=>[(0,.box (some bl) 25 [.dat (vlst (List.map wa i.1)),.dat (vint i.2.1)]),(1,.box none 28 [.dat (vint 0),.dat (vstr []),.dat (vstr []),.dat (vstr []),.dat (vstr []),.dat (vstr []),.dat (vnil),.dat (vstr [])]),(2,.box none 28 [.dat (vint v2),.dat (vstr r3.1),.dat (vstr r5.1),.dat (vstr r7.1),.dat (vstr r9.1),.dat (vstr []),.row 3 i.2.2.length,.dat (vstr [])]),(3,.row 40 2 (List.map yb i.2.2))]) (fun i=>z2m v2 r3 r5 r7 r9 i.1 i.2.1 i.2.2=some r) (fun i=>Z) ?_ ?_
   ·refine ve (zb hN Z (za (zd (.ptr _ _) Z) (bE H fun r31 h32 H=>zj (yl (je (zt.mk c28 c29) 12 r31 h32) Z ⟨.inl Z,U⟩ Z) Z (zg _ Z (fun h33 => ?_) (fun h33 => ?_)))))
    ·refine tE h33 H fun H=>zp hN Z (za (zq vi Z) (zm (zv wb Z Z) Z (za (ya (u':=vagg (yb (zn.mk [97,117,116,104,111,114,105,122,97,116,105,111,110] [66,101,97,114,101,114,32,120]))) (wx [(0,[vstr [97,117,116,104,111,114,105,122,97,116,105,111,110]]),(1,[vstr [66,101,97,114,101,114,32,120]])] kl Qs Z ⟨Z,.inl ⟨_,Z,Z,Z⟩,Z,Z,.inl ⟨_,Z,Z,Z⟩,Z,U⟩) Z) (za (ya (u':=vlst (List.map yb [(zn.mk [97,117,116,104,111,114,105,122,97,116,105,111,110] [66,101,97,114,101,114,32,120])])) (yo [_] kg ⟨Z,.inr Z,Z,U⟩ Z Z) Z) (gE H fun h34 H=>zj (vk kg (fun _=>Z) Z Z Z ⟨by simp,by first | (simp; done) | simpa using h34⟩ Z) Z ?_)))))
     refine za (zq vi Z) (uw (uv wb Z Z (by rw [List.length_map]) Z) Z Z ?_)
     refine vu ?_
     show Cv _ _ _ _
     exact vq ⟨(r31.2.L,r31.2.at_,(l30++([(zn.mk [97,117,116,104,111,114,105,122,97,116,105,111,110] [66,101,97,114,101,114,32,120])]))),H,⟨Z,Z,Z,U⟩,⟨Z,Z,Z,Z,U⟩⟩
    ·refine fE h33 H fun H=>zl ?_
     show Cv _ _ _ _
     exact vq ⟨(r31.2.L,r31.2.at_,l30),H,⟨Z,Z,Z,U⟩,⟨Z,Z,Z,Z,U⟩⟩
   ·rintro ⟨c35,c36,l37⟩ H
    replace H:z2m v2 r3 r5 r7 r9 c35 c36 l37=some r:=H
    unfold z2m at H
    refine yd (ι:=(List Int)×Int×(List zn)) (fun i=>[(0,.ptr 0 0),(4,.ptr 1 0),(5,.ptr 2 0)]) (fun i=>[(0,.box (some bl) 25 [.dat (vlst (List.map wa i.1)),.dat (vint i.2.1)]),(1,.box none 28 [.dat (vint 0),.dat (vstr []),.dat (vstr []),.dat (vstr []),.dat (vstr []),.dat (vstr []),.dat (vnil),.dat (vstr [])]),(2,.box none 28 [.dat (vint v2),.dat (vstr r3.1),.dat (vstr r5.1),.dat (vstr r7.1),.dat (vstr r9.1),.dat (vstr []),.row 3 i.2.2.length,.dat (vstr [])]),(3,.row 40 2 (List.map yb i.2.2))]) (fun i=>z2l v2 r3 r5 r7 r9 i.1 i.2.1 i.2.2=some r) (fun i=>Z) ?_ ?_
    ·refine ve (zb hN Z (za (zd (.ptr _ _) Z) (bE H fun r38 h39 H=>zj (yl (je (zt.mk c35 c36) 8 r38 h39) Z ⟨.inl Z,U⟩ Z) Z (zg _ Z (fun h40 => ?_) (fun h40 => ?_)))))
     ·refine tE h40 H fun H=>wz mixed hN Z Z (za (zq vi Z) (zm (zv wb Z Z) Z (za (zd (.ptr _ _) Z) (za (ya (u':=vlst (List.map zr [[34,118,49,34],[87,47,34,118,50,34,44,32,34,118,49,34],[42],[118,49]])) (yo [[_],[_],[_],[_]] yu ⟨Z,.inl ⟨_,Z,Z,Z⟩,Z,Z,.inl ⟨_,Z,Z,Z⟩,Z,Z,.inl ⟨_,Z,Z,Z⟩,Z,Z,.inl ⟨_,Z,Z,Z⟩,Z,U⟩ Z Z) Z) (bE H fun r41 h42 H=>zj (yl (jk r38.2 ([[34,118,49,34],[87,47,34,118,50,34,44,32,34,118,49,34],[42],[118,49]]) r41 h42) Z ⟨.inl Z,U⟩ Z) Z (za (ya (u':=vagg (yb (zn.mk [105,102,45,110,111,110,101,45,109,97,116,99,104] r41.1))) (wx [(0,[vstr [105,102,45,110,111,110,101,45,109,97,116,99,104]]),(1,[vstr r41.1])] kl Qs Z ⟨Z,.inl ⟨_,Z,Z,Z⟩,Z,Z,.inl ⟨_,Z,Z,Z⟩,Z,U⟩) Z) (za (ya (u':=vlst (List.map yb [(zn.mk [105,102,45,110,111,110,101,45,109,97,116,99,104] r41.1)])) (yo [_] kg ⟨Z,.inr Z,Z,U⟩ Z Z) Z) (gE H fun h43 H=>zj (vk kg (fun _=>Z) Z Z Z ⟨by simp,by first | (simp; done) | simpa using h43⟩ Z) Z ?_))))))))
      refine za (zq vi Z) (uw (uv wb Z Z (by rw [List.length_map]) Z) Z Z ?_)
      refine ⟨Z,?_⟩
      show Cv _ _ _ _
      exact vq ⟨(r41.2.L,r41.2.at_,(l37++([(zn.mk [105,102,45,110,111,110,101,45,109,97,116,99,104] r41.1)]))),H,⟨Z,Z,Z,U⟩,⟨Z,Z,Z,Z,U⟩⟩
     ·refine fE h40 H fun H=>zl ?_
      show Cv _ _ _ _
      exact vq ⟨(r38.2.L,r38.2.at_,l37),H,⟨Z,Z,Z,U⟩,⟨Z,Z,Z,Z,U⟩⟩
    ·rintro ⟨c44,c45,l46⟩ H
     replace H:z2l v2 r3 r5 r7 r9 c44 c45 l46=some r:=H
     unfold z2l at H
     refine yd (ι:=(List Int)×Int×Bs×Bs) (fun i=>[(4,.ptr 1 0),(5,.ptr 2 0)]) (fun i=>[(0,.box (some bl) 25 [.dat (vlst (List.map wa i.1)),.dat (vint i.2.1)]),(1,.box none 28 [.dat (vint 0),.dat (vstr []),.dat (vstr []),.dat (vstr []),.dat (vstr []),.dat (vstr []),.dat (vnil),.dat (vstr [])]),(2,.box none 28 [.dat (vint v2),.dat (vstr r3.1),.dat (vstr r5.1),.dat (vstr i.2.2.1),.dat (vstr i.2.2.2),.dat (vstr []),.row 3 l46.length,.dat (vstr [])]),(3,.row 40 2 (List.map yb l46))]) (fun i=>z2k v2 r3 r5 l46 i.1 i.2.1 i.2.2.1 i.2.2.2=some r) (fun i=>Z) ?_ ?_
     ·refine ve (zb hN Z (za (zd (.ptr _ _) Z) (bE H fun r47 h48 H=>zj (yl (je (zt.mk c44 c45) 40 r47 h48) Z ⟨.inl Z,U⟩ Z) Z (zg _ Z (fun h49 => ?_) (fun h49 => ?_)))))
      ·refine tE h49 H fun H=>zp hN Z (za (zd (.ptr _ _) Z) (bE H fun r50 h51 H=>zj (yl (w1x r47.2 r50 h51) Z U Z) Z (za (zd (.ptr _ _) Z) (bE H fun r52 h53 H=>zj (yl (w1w r50.2 r52 h53) Z U Z) Z (za (zq xw Z) (zj (vr tyS9 Z Z Z Z) Z (za (zq xv Z) (zj (vr tyS9 Z Z Z Z) Z (vu ?_)))))))))
       show Cv _ _ _ _
       exact vq ⟨(r52.2.L,r52.2.at_,r50.1,r52.1),H,⟨Z,Z,U⟩,⟨Z,Z,Z,Z,U⟩⟩
      ·refine fE h49 H fun H=>zl ?_
       show Cv _ _ _ _
       exact vq ⟨(r47.2.L,r47.2.at_,r7.1,r9.1),H,⟨Z,Z,U⟩,⟨Z,Z,Z,Z,U⟩⟩
     ·rintro ⟨c54,c55,c56,c57⟩ H
      replace H:z2k v2 r3 r5 l46 c54 c55 c56 c57=some r:=H
      unfold z2k at H
      refine zh (z6x 2 6 3 Z Z Z (by rw [List.length_map]) ?_)
      refine zp hN Z (zm (qa yy Z Z Z) Z (zj (qk yy Z Z Z Z) Z (zi ?_)))
      cases H
      exact ⟨U,⟨.inl ⟨_,_,_,qx (zz.mk v2 r3.1 r5.1 c56 c57 [] l46 []),Z,Z,Z,Z,yy⟩,U⟩,Z⟩
theorem y21 (s1:zt) (l2:(List Int)) (r:(Int×zt)) (H:Wx s1 l2=some r):Imp Tryz.prog 20 25 (qo s1) [vlst (List.map wa l2)] (zu [vint r.1]) (qo r.2):=by
 refine kf (us:=[vint r.1]) (cs':=(qo r.2)) (by kernel_rfl) Tryz.func20 Z Z Z Z fun X bl hN => ?_
 unfold Wx at H
 refine zb hN Z (qe Z (zb hN Z (qd Z (za (zd (.ptr _ _) Z) (qd Z (za (qi y0h Z) (bE H fun r3 h4 H=>zj (yl (Yb s1 (l2.length:Int) r3 h4) Z ⟨.inl Z,U⟩ Z) Z (bE H fun x5 h6 H=>za (uu y80 (fun _=>Z) Z Z h6) (za (qu tyS3 Z (qh (vo h6).2) Z) (qe Z (zi ?_)))))))))))
 cases H
 exact ⟨U,⟨.inl Z,U⟩,Z⟩
theorem w11 (s1:zt) (r:(Bs×zt)) (H:z8s s1=some r):Imp Tryz.prog 53 25 (qo s1) [] (zu [vstr r.1]) (qo r.2):=by
 refine kf (us:=[vstr r.1]) (cs':=(qo r.2)) (by kernel_rfl) Tryz.func53 Z Z Z Z fun X bl hN => ?_
 unfold z8s at H
 refine zb hN Z (qe Z (zb hN Z (za (zd (.ptr _ _) Z) (za (zd (.ptr _ _) Z) (bE H fun r2 h3 H=>zj (yl (z88 s1 0 3 r2 h3) Z ⟨.inl Z,.inl Z,U⟩ Z) Z (za (ya (u':=vlst (List.map zr [[109,97,120,45,97,103,101,61,54,48],[109,97,120,45,97,103,101,61,54,48],[109,97,120,45,97,103,101,61,48],[109,97,120,45,97,103,101,61,49,48],[115,45,109,97,120,97,103,101,61,51,48],[110,111,45,99,97,99,104,101],[112,117,98,108,105,99],[109,117,115,116,45,114,101,118,97,108,105,100,97,116,101],[115,116,97,108,101,45,119,104,105,108,101,45,114,101,118,97,108,105,100,97,116,101,61,50,48],[115,116,97,108,101,45,105,102,45,101,114,114,111,114,61,49,48,48],[120,61,49],[121],[77,97,120,45,65,103,101,61,57,48]])) (yo [[_],[_],[_],[_],[_],[_],[_],[_],[_],[_],[_],[_],[_]] yu ⟨Z,.inl ⟨_,Z,Z,Z⟩,Z,Z,.inl ⟨_,Z,Z,Z⟩,Z,Z,.inl ⟨_,Z,Z,Z⟩,Z,Z,.inl ⟨_,Z,Z,Z⟩,Z,Z,.inl ⟨_,Z,Z,Z⟩,Z,Z,.inl ⟨_,Z,Z,Z⟩,Z,Z,.inl ⟨_,Z,Z,Z⟩,Z,Z,.inl ⟨_,Z,Z,Z⟩,Z,Z,.inl ⟨_,Z,Z,Z⟩,Z,Z,.inl ⟨_,Z,Z,Z⟩,Z,Z,.inl ⟨_,Z,Z,Z⟩,Z,Z,.inl ⟨_,Z,Z,Z⟩,Z,Z,.inl ⟨_,Z,Z,Z⟩,Z,U⟩ Z Z) Z) (bE H fun r4 h5 H=>zj (yl (z1r r2.2 r2.1 [44,32] ([[109,97,120,45,97,103,101,61,54,48],[109,97,120,45,97,103,101,61,54,48],[109,97,120,45,97,103,101,61,48],[109,97,120,45,97,103,101,61,49,48],[115,45,109,97,120,97,103,101,61,51,48],[110,111,45,99,97,99,104,101],[112,117,98,108,105,99],[109,117,115,116,45,114,101,118,97,108,105,100,97,116,101],[115,116,97,108,101,45,119,104,105,108,101,45,114,101,118,97,108,105,100,97,116,101,61,50,48],[115,116,97,108,101,45,105,102,45,101,114,114,111,114,61,49,48,48],[120,61,49],[121],[77,97,120,45,65,103,101,61,57,48]]) r4 h5) Z ⟨.inl Z,.inl Z,.inl Z,U⟩ Z) Z (qe Z (yd (ι:=Bs×(List Int)×Int) (fun i=>[(0,.ptr 0 0),(3,.dat (vstr i.1))]) (fun i=>[(0,.box (some bl) 25 [.dat (vlst (List.map wa i.2.1)),.dat (vint i.2.2)])]) (fun i=>z2c i.1 i.2.1 i.2.2=some r) (fun i=>Z) ?_ ?_)))))))))
 ·skip
  refine zb hN Z (za (zd (.ptr _ _) Z) (bE H fun r6 h7 H=>zj (yl (je r4.2 10 r6 h7) Z ⟨.inl Z,U⟩ Z) Z (zg _ Z (fun h8 => ?_) (fun h8 => ?_))))
  ·exact tE h8 H fun H=>zp hN Z (za (zd (.ptr _ _) Z) (za (ya (u':=vlst (List.map zr [[110,111,45,115,116,111,114,101],[112,114,105,118,97,116,101],[109,97,120,45,97,103,101,61,54,48],[111,110,108,121,45,105,102,45,99,97,99,104,101,100],[105,109,109,117,116,97,98,108,101]])) (yo [[_],[_],[_],[_],[_]] yu ⟨Z,.inl ⟨_,Z,Z,Z⟩,Z,Z,.inl ⟨_,Z,Z,Z⟩,Z,Z,.inl ⟨_,Z,Z,Z⟩,Z,Z,.inl ⟨_,Z,Z,Z⟩,Z,Z,.inl ⟨_,Z,Z,Z⟩,Z,U⟩ Z Z) Z) (bE H fun r9 h10 H=>zj (yl (z1r r6.2 2 [44] ([[110,111,45,115,116,111,114,101],[112,114,105,118,97,116,101],[109,97,120,45,97,103,101,61,54,48],[111,110,108,121,45,105,102,45,99,97,99,104,101,100],[105,109,109,117,116,97,98,108,101]]) r9 h10) Z ⟨.inl Z,.inl Z,.inl Z,U⟩ Z) Z (qe Z ⟨(r9.1,r9.2.L,r9.2.at_),H,⟨Z,Z,U⟩,⟨Z,U⟩⟩))))
  ·exact fE h8 H fun H=>zl ⟨(r4.1,r6.2.L,r6.2.at_),H,⟨Z,Z,U⟩,⟨Z,U⟩⟩
 ·rintro ⟨t11,c12,c13⟩ H
  replace H:z2c t11 c12 c13=some r:=H
  unfold z2c at H
  refine yd (ι:=Bs×(List Int)×Int) (fun i=>[(3,.dat (vstr i.1))]) (fun i=>[(0,.box (some bl) 25 [.dat (vlst (List.map wa i.2.1)),.dat (vint i.2.2)])]) (fun i=>z6j i.1 i.2.1 i.2.2=some r) (fun i=>Z) ?_ ?_
  ·skip
   refine zb hN Z (za (zd (.ptr _ _) Z) (bE H fun r14 h15 H=>zj (yl (je (zt.mk c12 c13) 20 r14 h15) Z ⟨.inl Z,U⟩ Z) Z (zg _ Z (fun h16 => ?_) (fun h16 => ?_))))
   ·exact tE h16 H fun H=>zp hN Z (za (zd (.ptr _ _) Z) (za (ya (u':=vlst (List.map zr [[109,97,120,45,97,103,101],[110,111,45,99,97,99,104,101,61,49],[109,97,120,45,97,103,101,61,45,49],[109,97,120,45,97,103,101,61,48,49],[109,97,120,45,97,103,101,61,49,48,48,48,48,48,48,48,49],[61,49],[97,32,98],[109,97,120,45,97,103,101,61,54,48,32,44,32,44,32,110,111,45,99,97,99,104,101]])) (yo [[_],[_],[_],[_],[_],[_],[_],[_]] yu ⟨Z,.inl ⟨_,Z,Z,Z⟩,Z,Z,.inl ⟨_,Z,Z,Z⟩,Z,Z,.inl ⟨_,Z,Z,Z⟩,Z,Z,.inl ⟨_,Z,Z,Z⟩,Z,Z,.inl ⟨_,Z,Z,Z⟩,Z,Z,.inl ⟨_,Z,Z,Z⟩,Z,Z,.inl ⟨_,Z,Z,Z⟩,Z,Z,.inl ⟨_,Z,Z,Z⟩,Z,U⟩ Z Z) Z) (bE H fun r17 h18 H=>zj (yl (jk r14.2 ([[109,97,120,45,97,103,101],[110,111,45,99,97,99,104,101,61,49],[109,97,120,45,97,103,101,61,45,49],[109,97,120,45,97,103,101,61,48,49],[109,97,120,45,97,103,101,61,49,48,48,48,48,48,48,48,49],[61,49],[97,32,98],[109,97,120,45,97,103,101,61,54,48,32,44,32,44,32,110,111,45,99,97,99,104,101]]) r17 h18) Z ⟨.inl Z,U⟩ Z) Z (qe Z ⟨(r17.1,r17.2.L,r17.2.at_),H,⟨Z,U⟩,⟨Z,U⟩⟩))))
   ·exact fE h16 H fun H=>zl ⟨(t11,r14.2.L,r14.2.at_),H,⟨Z,U⟩,⟨Z,U⟩⟩
  ·rintro ⟨t19,c20,c21⟩ H
   replace H:z6j t19 c20 c21=some r:=H
   unfold z6j at H
   refine zb hN Z (qd Z (qe Z (zi ?_)))
   cases H
   exact ⟨U,⟨.inl Z,U⟩,Z⟩
theorem z48 (name1:Bs) (value2:Bs) (c3:qc) (r:(qc)) (H:Zy name1 value2 c3=some r):FnG Tryz.prog 52 [.dat (vstr name1),.dat (vstr value2),.ptr 0 0] [(0,.box (some 0) 30 [.dat (vint c3.Status),.row 1 c3.Headers.length,.dat (vstr c3.Body)]),(1,.row 40 2 (List.map yb c3.Headers))] (.dat (zu [])) [(0,.box (some 0) 30 [.dat (vint r.Status),.row 900 r.Headers.length,.dat (vstr r.Body)]),(900,.row 40 2 (List.map yb r.Headers))]:=by
 refine ub (by kernel_rfl) Tryz.func52 Z Z Z Z fun X A hN => ?_
 refine ve ?_
 unfold Zy at H
 refine zp hN Z (za (zq xu Z) (zm (zv wb Z Z) Z (qd Z (qd Z (za (ya (u':=vagg (yb (zn.mk name1 value2))) (wx [(0,[vstr name1]),(1,[vstr value2])] kl Qs Z ⟨Z,.inl ⟨_,Z,Z,Z⟩,Z,Z,.inl ⟨_,Z,Z,Z⟩,Z,U⟩) Z) (za (ya (u':=vlst (List.map yb [(zn.mk name1 value2)])) (yo [_] kg ⟨Z,.inr Z,Z,U⟩ Z Z) Z) (gE H fun h4 H=>zj (vk kg (fun _=>Z) Z Z Z ⟨by simp,by first | (simp; done) | simpa using h4⟩ Z) Z ?_)))))))
 refine za (zq xu Z) (uw (uv wb Z Z (by rw [List.length_map]) Z) Z Z ?_)
 cases H
 show Cv _ _ _ _
 exact wu (rn [(1,900)]) [] [(0,.box (some (A.bl 0)) 30 [.dat (vint c3.Status),.row 1 ((c3.Headers++[(zn.mk name1 value2)]).length),.dat (vstr c3.Body)]),(1,.row 40 2 (List.map yb (c3.Headers++[(zn.mk name1 value2)])))] U ⟨Z,Z,U⟩ Z Z ⟨U,[],U,⟨Z,Z,U⟩,Z,.inl ⟨[],U,Z⟩⟩
theorem y22 (s1:zt) (low2:Int) (high3:Int) (r:(Int×zt)) (H:Wy s1 low2 high3=some r):Imp Tryz.prog 12 25 (qo s1) [vint low2,vint high3] (zu [vint r.1]) (qo r.2):=by
 refine kf (us:=[vint r.1]) (cs':=(qo r.2)) (by kernel_rfl) Tryz.func12 Z Z Z Z fun X bl hN => ?_
 unfold Wy at H
 refine zb hN Z (qe Z (zh (zb hN Z (za (zd (.ptr _ _) Z) (bE H fun r4 h5 H=>zj (yl (je s1 12 r4 h5) Z ⟨.inl Z,U⟩ Z) Z (zg _ Z (fun h6 => ?_) (fun h6 => ?_)))))))
 ·refine tE h6 H fun H=>zb hN Z (za (zd (.ptr _ _) Z) (qd Z (za (yj _ Z Z (.inr (.inl ⟨Z,Z⟩))) (qd Z (za (yj _ Z Z (.inl ⟨Z,Z⟩)) (qd Z (qd Z (za (ya (u':=vlst (List.map wa [wr (low2 - 1),wr (high3+1),low2,high3,(-1099511627776),1099511627776])) (yo [[_],[_],[_],[_],[_],[_]] y0n ⟨Z,.inl ⟨_,Z,Z,Z⟩,Z,Z,.inl ⟨_,Z,Z,Z⟩,Z,Z,.inl ⟨_,Z,Z,Z⟩,Z,Z,.inl ⟨_,Z,Z,Z⟩,Z,Z,.inl ⟨_,Z,Z,Z⟩,Z,Z,.inl ⟨_,Z,Z,Z⟩,Z,U⟩ Z Z) Z) (bE H fun r7 h8 H=>zj (yl (y21 r4.2 [wr (low2 - 1),wr (high3+1),low2,high3,(-1099511627776),1099511627776] r7 h8) Z ⟨.inl Z,U⟩ Z) Z (qe Z (zi ?_)))))))))))
  cases H
  exact ⟨U,⟨.inl Z,U⟩,Z⟩
 ·refine fE h6 H fun H=>zl (zb hN Z (za (zd (.ptr _ _) Z) (qd Z (qd Z (bE H fun r9 h10 H=>zj (yl (z88 r4.2 low2 high3 r9 h10) Z ⟨.inl Z,.inl Z,U⟩ Z) Z (qe Z (zi ?_)))))))
  cases H
  exact ⟨U,⟨.inl Z,U⟩,Z⟩
theorem w13 (s1:zt) (r:(qc×zt)) (H:z8u s1=some r):Imp Tryz.prog 19 25 (qo s1) [] (zu [vagg (Zj r.1)]) (qo r.2):=by
 refine kf (us:=[vagg (Zj r.1)]) (cs':=(qo r.2)) (by kernel_rfl) Tryz.func19 Z Z Z Z fun X bl hN => ?_
 unfold z8u at H
 refine zb hN Z (zj (qv 1 y0f Z) Z (zb hN Z (za (zd (.ptr _ _) Z) (za (ya (u':=vlst (List.map wa [200,200,200,200,404,304,500,204,201])) (yo [[_],[_],[_],[_],[_],[_],[_],[_],[_]] y0n ⟨Z,.inl ⟨_,Z,Z,Z⟩,Z,Z,.inl ⟨_,Z,Z,Z⟩,Z,Z,.inl ⟨_,Z,Z,Z⟩,Z,Z,.inl ⟨_,Z,Z,Z⟩,Z,Z,.inl ⟨_,Z,Z,Z⟩,Z,Z,.inl ⟨_,Z,Z,Z⟩,Z,Z,.inl ⟨_,Z,Z,Z⟩,Z,Z,.inl ⟨_,Z,Z,Z⟩,Z,Z,.inl ⟨_,Z,Z,Z⟩,Z,U⟩ Z Z) Z) (bE H fun r2 h3 H=>zj (yl (y21 s1 [200,200,200,200,404,304,500,204,201] r2 h3) Z ⟨.inl Z,U⟩ Z) Z (za (zd (.ptr _ _) Z) (bE H fun r4 h5 H=>za (zk (y6f [122] 50 r4 h5) ⟨.inl Z,.inl Z,U⟩) (za (ya (u':=vlst (List.map zr [[104,101,108,108,111],[120],[],r4])) (yo [[_],[_],[_],[_]] yu ⟨Z,.inl ⟨_,Z,Z,Z⟩,Z,Z,.inl ⟨_,Z,Z,Z⟩,Z,Z,.inl ⟨_,Z,Z,Z⟩,Z,Z,.inl ⟨_,Z,Z,Z⟩,Z,U⟩ Z Z) Z) (bE H fun r6 h7 H=>zj (yl (jk r2.2 ([[104,101,108,108,111],[120],[],r4]) r6 h7) Z ⟨.inl Z,U⟩ Z) Z (za (ya (u':=vagg [vint r2.1,vnil,vstr r6.1]) (wx [(0,[vint r2.1]),(2,[vstr r6.1])] y0f y8k Z ⟨Z,.inl ⟨_,Z,Z,Z⟩,Z,Z,.inl ⟨_,Z,Z,Z⟩,Z,U⟩) Z) (zj (qv 2 y0f Z) Z (zj (qk ur Z Z Z Z) Z (z6w 2 1 3 40 2 Z Z Z Z (zb hN Z (zm (wy (s := .dr 2 (fun qb=>vfn 52 [vval (.pointer (some ⟨qb,0,none⟩))])) 2 (fun qb=>y04 (us:=[_]) ⟨Z,U⟩) Z Z) Z (za (qm (.dr _ _) Z) (yd (ι:=(List Int)×Int×(List zn)×Int×Bs) (fun i=>[(0,.ptr 0 0),(2,.ptr 1 0),(3,.ptr 2 0),(4,.dr 2 (fun qb=>vfn 52 [vval (.pointer (some ⟨qb,0,none⟩))]))]) (fun i=>[(0,.box (some bl) 25 [.dat (vlst (List.map wa i.1)),.dat (vint i.2.1)]),(1,.box none 30 [.dat (vint 0),.dat (vnil),.dat (vstr [])]),(2,.box none 30 [.dat (vint i.2.2.2.1),.row 5 i.2.2.1.length,.dat (vstr i.2.2.2.2)]),(5,.row 40 2 (List.map yb i.2.2.1))]) (fun i=>z2j i.1 i.2.1 i.2.2.1 i.2.2.2.1 i.2.2.2.2=some r) (fun i=>Z) ?_ ?_)))))))))))))))))
 ·refine ve (zb hN Z (za (zd (.ptr _ _) Z) (bE H fun r8 h9 H=>zj (yl (je r6.2 6 r8 h9) Z ⟨.inl Z,U⟩ Z) Z (za (yq Z) (zg _ Z (fun h10 => ?_) (fun h10 => ?_))))))
  ·refine tE h10 H fun H=>zp hN Z (za (zd (.dr _ _) Z) (za (zd (.ptr _ _) Z) (za (ya (u':=vlst (List.map zr [[99,97,99,104,101,45,99,111,110,116,114,111,108],[67,97,99,104,101,45,67,111,110,116,114,111,108]])) (yo [[_],[_]] yu ⟨Z,.inl ⟨_,Z,Z,Z⟩,Z,Z,.inl ⟨_,Z,Z,Z⟩,Z,U⟩ Z Z) Z) (bE H fun r11 h12 H=>zj (yl (jk r8.2 ([[99,97,99,104,101,45,99,111,110,116,114,111,108],[67,97,99,104,101,45,67,111,110,116,114,111,108]]) r11 h12) Z ⟨.inl Z,U⟩ Z) Z (za (zd (.ptr _ _) Z) (bE H fun r13 h14 H=>zj (yl (w11 r11.2 r13 h14) Z U Z) Z (bE H fun r15 h16 H=>z3j (args:=[.dat (vstr r11.1),.dat (vstr r13.1)]) (i0:=0) (rn [(0,2),(1,3),(900,4)]) [(0,_,_,some _),(1,_,_,none)] [(900,_)] (z48 r11.1 r13.1 (qc.mk r2.1 ([]:List zn) r6.1) r15 h16) ⟨Z,Z,Z,U⟩ Z Z ⟨.inl (.inl Z),.inl (.inl Z),U⟩ ⟨⟨⟨Z,Z⟩,U⟩,⟨⟨Z,Z,Z⟩,U⟩,U⟩ Z (vu ?_))))))))
   show Cv _ _ _ _
   exact wu (rn [(4,5)]) [(0,.ptr 0 0),(2,.ptr 1 0),(3,.ptr 2 0),(4,.dr 2 (fun qb=>vfn 52 [vval (.pointer (some ⟨qb,0,none⟩))]))] [(0,.box (some bl) 25 [.dat (vlst (List.map wa r13.2.L)),.dat (vint r13.2.at_)]),(1,.box none 30 [.dat (vint 0),.dat (vnil),.dat (vstr [])]),(2,.box none 30 [.dat (vint r15.Status),.row 4 r15.Headers.length,.dat (vstr r15.Body)]),(4,.row 40 2 (List.map yb r15.Headers))] ⟨Z,Z,Z,Z,U⟩ ⟨Z,Z,Z,Z,U⟩ Z Z ⟨(r13.2.L,r13.2.at_,r15.Headers,r15.Status,r15.Body),H,⟨Z,Z,Z,Z,U⟩,⟨Z,Z,Z,Z,U⟩⟩
  ·refine fE h10 H fun H=>zl ?_
   show Cv _ _ _ _
   exact wu (rn [(3,5)]) [(0,.ptr 0 0),(2,.ptr 1 0),(3,.ptr 2 0),(4,.dr 2 (fun qb=>vfn 52 [vval (.pointer (some ⟨qb,0,none⟩))]))] [(0,.box (some bl) 25 [.dat (vlst (List.map wa r8.2.L)),.dat (vint r8.2.at_)]),(1,.box none 30 [.dat (vint 0),.dat (vnil),.dat (vstr [])]),(2,.box none 30 [.dat (vint r2.1),.row 3 0,.dat (vstr r6.1)]),(3,.row 40 2 (List.map yb ([]:List zn)))] ⟨Z,Z,Z,Z,U⟩ ⟨Z,Z,Z,Z,U⟩ Z Z ⟨(r8.2.L,r8.2.at_,([]:List zn),r2.1,r6.1),H,⟨Z,Z,Z,Z,U⟩,⟨Z,Z,Z,Z,U⟩⟩
 ·rintro ⟨c17,c18,l19,c20,c21⟩ H
  replace H:z2j c17 c18 l19 c20 c21=some r:=H
  unfold z2j at H
  refine yd (ι:=(List Int)×Int×(List zn)×Int×Bs) (fun i=>[(0,.ptr 0 0),(2,.ptr 1 0),(3,.ptr 2 0),(4,.dr 2 (fun qb=>vfn 52 [vval (.pointer (some ⟨qb,0,none⟩))]))]) (fun i=>[(0,.box (some bl) 25 [.dat (vlst (List.map wa i.1)),.dat (vint i.2.1)]),(1,.box none 30 [.dat (vint 0),.dat (vnil),.dat (vstr [])]),(2,.box none 30 [.dat (vint i.2.2.2.1),.row 7 i.2.2.1.length,.dat (vstr i.2.2.2.2)]),(7,.row 40 2 (List.map yb i.2.2.1))]) (fun i=>z2i i.1 i.2.1 i.2.2.1 i.2.2.2.1 i.2.2.2.2=some r) (fun i=>Z) ?_ ?_
  ·refine ve (zb hN Z (za (zd (.ptr _ _) Z) (bE H fun r22 h23 H=>zj (yl (je (zt.mk c17 c18) 3 r22 h23) Z ⟨.inl Z,U⟩ Z) Z (zg _ Z (fun h24 => ?_) (fun h24 => ?_)))))
   ·refine tE h24 H fun H=>zp hN Z (za (zd (.dr _ _) Z) (za (zd (.ptr _ _) Z) (za (ya (u':=vlst (List.map zr [[97,99,99,101,112,116,45,108,97,110,103,117,97,103,101],[65,99,99,101,112,116,45,76,97,110,103,117,97,103,101,44,32,120,45,111,110,101],[42],[],[120,45,111,110,101,44,88,45,79,110,101]])) (yo [[_],[_],[_],[_],[_]] yu ⟨Z,.inl ⟨_,Z,Z,Z⟩,Z,Z,.inl ⟨_,Z,Z,Z⟩,Z,Z,.inl ⟨_,Z,Z,Z⟩,Z,Z,.inl ⟨_,Z,Z,Z⟩,Z,Z,.inl ⟨_,Z,Z,Z⟩,Z,U⟩ Z Z) Z) (bE H fun r25 h26 H=>zj (yl (jk r22.2 ([[97,99,99,101,112,116,45,108,97,110,103,117,97,103,101],[65,99,99,101,112,116,45,76,97,110,103,117,97,103,101,44,32,120,45,111,110,101],[42],[],[120,45,111,110,101,44,88,45,79,110,101]]) r25 h26) Z ⟨.inl Z,U⟩ Z) Z (bE H fun r27 h28 H=>z3j (args:=[.dat (vstr [118,97,114,121]),.dat (vstr r25.1)]) (i0:=0) (rn [(0,2),(1,5),(900,6)]) [(0,_,_,some _),(1,_,_,none)] [(900,_)] (z48 [118,97,114,121] r25.1 (qc.mk c20 l19 c21) r27 h28) ⟨Z,Z,Z,U⟩ Z Z ⟨.inl (.inl Z),.inl (.inl Z),U⟩ ⟨⟨⟨Z,Z⟩,U⟩,⟨⟨Z,Z,Z⟩,U⟩,U⟩ Z (vu ?_))))))
    show Cv _ _ _ _
    exact wu (rn [(6,7)]) [(0,.ptr 0 0),(2,.ptr 1 0),(3,.ptr 2 0),(4,.dr 2 (fun qb=>vfn 52 [vval (.pointer (some ⟨qb,0,none⟩))]))] [(0,.box (some bl) 25 [.dat (vlst (List.map wa r25.2.L)),.dat (vint r25.2.at_)]),(1,.box none 30 [.dat (vint 0),.dat (vnil),.dat (vstr [])]),(2,.box none 30 [.dat (vint r27.Status),.row 6 r27.Headers.length,.dat (vstr r27.Body)]),(6,.row 40 2 (List.map yb r27.Headers))] ⟨Z,Z,Z,Z,U⟩ ⟨Z,Z,Z,Z,U⟩ Z Z ⟨(r25.2.L,r25.2.at_,r27.Headers,r27.Status,r27.Body),H,⟨Z,Z,Z,Z,U⟩,⟨Z,Z,Z,Z,U⟩⟩
   ·refine fE h24 H fun H=>zl ?_
    show Cv _ _ _ _
    exact wu (rn [(5,7)]) [(0,.ptr 0 0),(2,.ptr 1 0),(3,.ptr 2 0),(4,.dr 2 (fun qb=>vfn 52 [vval (.pointer (some ⟨qb,0,none⟩))]))] [(0,.box (some bl) 25 [.dat (vlst (List.map wa r22.2.L)),.dat (vint r22.2.at_)]),(1,.box none 30 [.dat (vint 0),.dat (vnil),.dat (vstr [])]),(2,.box none 30 [.dat (vint c20),.row 5 l19.length,.dat (vstr c21)]),(5,.row 40 2 (List.map yb l19))] ⟨Z,Z,Z,Z,U⟩ ⟨Z,Z,Z,Z,U⟩ Z Z ⟨(r22.2.L,r22.2.at_,l19,c20,c21),H,⟨Z,Z,Z,Z,U⟩,⟨Z,Z,Z,Z,U⟩⟩
  ·rintro ⟨c29,c30,l31,c32,c33⟩ H
   replace H:z2i c29 c30 l31 c32 c33=some r:=H
   unfold z2i at H
   refine yd (ι:=(List Int)×Int×(List zn)×Int×Bs) (fun i=>[(0,.ptr 0 0),(2,.ptr 1 0),(3,.ptr 2 0),(4,.dr 2 (fun qb=>vfn 52 [vval (.pointer (some ⟨qb,0,none⟩))]))]) (fun i=>[(0,.box (some bl) 25 [.dat (vlst (List.map wa i.1)),.dat (vint i.2.1)]),(1,.box none 30 [.dat (vint 0),.dat (vnil),.dat (vstr [])]),(2,.box none 30 [.dat (vint i.2.2.2.1),.row 9 i.2.2.1.length,.dat (vstr i.2.2.2.2)]),(9,.row 40 2 (List.map yb i.2.2.1))]) (fun i=>z2h i.1 i.2.1 i.2.2.1 i.2.2.2.1 i.2.2.2.2=some r) (fun i=>Z) ?_ ?_
   ·refine ve (zb hN Z (za (zd (.ptr _ _) Z) (bE H fun r34 h35 H=>zj (yl (je (zt.mk c29 c30) 2 r34 h35) Z ⟨.inl Z,U⟩ Z) Z (zg _ Z (fun h36 => ?_) (fun h36 => ?_)))))
    ·refine tE h36 H fun H=>zp hN Z (za (zd (.dr _ _) Z) (za (zd (.ptr _ _) Z) (za (ya (u':=vlst (List.map zr [[101,116,97,103],[69,84,97,103]])) (yo [[_],[_]] yu ⟨Z,.inl ⟨_,Z,Z,Z⟩,Z,Z,.inl ⟨_,Z,Z,Z⟩,Z,U⟩ Z Z) Z) (bE H fun r37 h38 H=>zj (yl (jk r34.2 ([[101,116,97,103],[69,84,97,103]]) r37 h38) Z ⟨.inl Z,U⟩ Z) Z (za (zd (.ptr _ _) Z) (za (ya (u':=vlst (List.map zr [[34,118,49,34],[87,47,34,118,50,34],[118,51]])) (yo [[_],[_],[_]] yu ⟨Z,.inl ⟨_,Z,Z,Z⟩,Z,Z,.inl ⟨_,Z,Z,Z⟩,Z,Z,.inl ⟨_,Z,Z,Z⟩,Z,U⟩ Z Z) Z) (bE H fun r39 h40 H=>zj (yl (jk r37.2 ([[34,118,49,34],[87,47,34,118,50,34],[118,51]]) r39 h40) Z ⟨.inl Z,U⟩ Z) Z (bE H fun r41 h42 H=>z3j (args:=[.dat (vstr r37.1),.dat (vstr r39.1)]) (i0:=0) (rn [(0,2),(1,7),(900,8)]) [(0,_,_,some _),(1,_,_,none)] [(900,_)] (z48 r37.1 r39.1 (qc.mk c32 l31 c33) r41 h42) ⟨Z,Z,Z,U⟩ Z Z ⟨.inl (.inl Z),.inl (.inl Z),U⟩ ⟨⟨⟨Z,Z⟩,U⟩,⟨⟨Z,Z,Z⟩,U⟩,U⟩ Z (vu ?_)))))))))
     show Cv _ _ _ _
     exact wu (rn [(8,9)]) [(0,.ptr 0 0),(2,.ptr 1 0),(3,.ptr 2 0),(4,.dr 2 (fun qb=>vfn 52 [vval (.pointer (some ⟨qb,0,none⟩))]))] [(0,.box (some bl) 25 [.dat (vlst (List.map wa r39.2.L)),.dat (vint r39.2.at_)]),(1,.box none 30 [.dat (vint 0),.dat (vnil),.dat (vstr [])]),(2,.box none 30 [.dat (vint r41.Status),.row 8 r41.Headers.length,.dat (vstr r41.Body)]),(8,.row 40 2 (List.map yb r41.Headers))] ⟨Z,Z,Z,Z,U⟩ ⟨Z,Z,Z,Z,U⟩ Z Z ⟨(r39.2.L,r39.2.at_,r41.Headers,r41.Status,r41.Body),H,⟨Z,Z,Z,Z,U⟩,⟨Z,Z,Z,Z,U⟩⟩
    ·refine fE h36 H fun H=>zl ?_
     show Cv _ _ _ _
     exact wu (rn [(7,9)]) [(0,.ptr 0 0),(2,.ptr 1 0),(3,.ptr 2 0),(4,.dr 2 (fun qb=>vfn 52 [vval (.pointer (some ⟨qb,0,none⟩))]))] [(0,.box (some bl) 25 [.dat (vlst (List.map wa r34.2.L)),.dat (vint r34.2.at_)]),(1,.box none 30 [.dat (vint 0),.dat (vnil),.dat (vstr [])]),(2,.box none 30 [.dat (vint c32),.row 7 l31.length,.dat (vstr c33)]),(7,.row 40 2 (List.map yb l31))] ⟨Z,Z,Z,Z,U⟩ ⟨Z,Z,Z,Z,U⟩ Z Z ⟨(r34.2.L,r34.2.at_,l31,c32,c33),H,⟨Z,Z,Z,Z,U⟩,⟨Z,Z,Z,Z,U⟩⟩
   ·rintro ⟨c43,c44,l45,c46,c47⟩ H
    replace H:z2h c43 c44 l45 c46 c47=some r:=H
    unfold z2h at H
    refine yd (ι:=(List Int)×Int×(List zn)×Int×Bs) (fun i=>[(0,.ptr 0 0),(2,.ptr 1 0),(3,.ptr 2 0),(4,.dr 2 (fun qb=>vfn 52 [vval (.pointer (some ⟨qb,0,none⟩))]))]) (fun i=>[(0,.box (some bl) 25 [.dat (vlst (List.map wa i.1)),.dat (vint i.2.1)]),(1,.box none 30 [.dat (vint 0),.dat (vnil),.dat (vstr [])]),(2,.box none 30 [.dat (vint i.2.2.2.1),.row 11 i.2.2.1.length,.dat (vstr i.2.2.2.2)]),(11,.row 40 2 (List.map yb i.2.2.1))]) (fun i=>z2g i.1 i.2.1 i.2.2.1 i.2.2.2.1 i.2.2.2.2=some r) (fun i=>Z) ?_ ?_
    ·refine ve (zb hN Z (za (zd (.ptr _ _) Z) (bE H fun r48 h49 H=>zj (yl (je (zt.mk c43 c44) 4 r48 h49) Z ⟨.inl Z,U⟩ Z) Z (zg _ Z (fun h50 => ?_) (fun h50 => ?_)))))
     ·refine tE h50 H fun H=>zp hN Z (za (zd (.dr _ _) Z) (za (zd (.ptr _ _) Z) (za (ya (u':=vlst (List.map zr [[114,101,100],[114,101,100,44,32,98,108,117,101],[98,108,117,101,32,103,114,101,101,110],[114,101,100,32,114,101,100]])) (yo [[_],[_],[_],[_]] yu ⟨Z,.inl ⟨_,Z,Z,Z⟩,Z,Z,.inl ⟨_,Z,Z,Z⟩,Z,Z,.inl ⟨_,Z,Z,Z⟩,Z,Z,.inl ⟨_,Z,Z,Z⟩,Z,U⟩ Z Z) Z) (bE H fun r51 h52 H=>zj (yl (jk r48.2 ([[114,101,100],[114,101,100,44,32,98,108,117,101],[98,108,117,101,32,103,114,101,101,110],[114,101,100,32,114,101,100]]) r51 h52) Z ⟨.inl Z,U⟩ Z) Z (bE H fun r53 h54 H=>z3j (args:=[.dat (vstr [99,97,99,104,101,45,116,97,103]),.dat (vstr r51.1)]) (i0:=0) (rn [(0,2),(1,9),(900,10)]) [(0,_,_,some _),(1,_,_,none)] [(900,_)] (z48 [99,97,99,104,101,45,116,97,103] r51.1 (qc.mk c46 l45 c47) r53 h54) ⟨Z,Z,Z,U⟩ Z Z ⟨.inl (.inl Z),.inl (.inl Z),U⟩ ⟨⟨⟨Z,Z⟩,U⟩,⟨⟨Z,Z,Z⟩,U⟩,U⟩ Z (vu ?_))))))
      show Cv _ _ _ _
      exact wu (rn [(10,11)]) [(0,.ptr 0 0),(2,.ptr 1 0),(3,.ptr 2 0),(4,.dr 2 (fun qb=>vfn 52 [vval (.pointer (some ⟨qb,0,none⟩))]))] [(0,.box (some bl) 25 [.dat (vlst (List.map wa r51.2.L)),.dat (vint r51.2.at_)]),(1,.box none 30 [.dat (vint 0),.dat (vnil),.dat (vstr [])]),(2,.box none 30 [.dat (vint r53.Status),.row 10 r53.Headers.length,.dat (vstr r53.Body)]),(10,.row 40 2 (List.map yb r53.Headers))] ⟨Z,Z,Z,Z,U⟩ ⟨Z,Z,Z,Z,U⟩ Z Z ⟨(r51.2.L,r51.2.at_,r53.Headers,r53.Status,r53.Body),H,⟨Z,Z,Z,Z,U⟩,⟨Z,Z,Z,Z,U⟩⟩
     ·refine fE h50 H fun H=>zl ?_
      show Cv _ _ _ _
      exact wu (rn [(9,11)]) [(0,.ptr 0 0),(2,.ptr 1 0),(3,.ptr 2 0),(4,.dr 2 (fun qb=>vfn 52 [vval (.pointer (some ⟨qb,0,none⟩))]))] [(0,.box (some bl) 25 [.dat (vlst (List.map wa r48.2.L)),.dat (vint r48.2.at_)]),(1,.box none 30 [.dat (vint 0),.dat (vnil),.dat (vstr [])]),(2,.box none 30 [.dat (vint c46),.row 9 l45.length,.dat (vstr c47)]),(9,.row 40 2 (List.map yb l45))] ⟨Z,Z,Z,Z,U⟩ ⟨Z,Z,Z,Z,U⟩ Z Z ⟨(r48.2.L,r48.2.at_,l45,c46,c47),H,⟨Z,Z,Z,Z,U⟩,⟨Z,Z,Z,Z,U⟩⟩
    ·rintro ⟨c55,c56,l57,c58,c59⟩ H
     replace H:z2g c55 c56 l57 c58 c59=some r:=H
     unfold z2g at H
     refine yd (ι:=(List Int)×Int×(List zn)×Int×Bs) (fun i=>[(0,.ptr 0 0),(2,.ptr 1 0),(3,.ptr 2 0),(4,.dr 2 (fun qb=>vfn 52 [vval (.pointer (some ⟨qb,0,none⟩))]))]) (fun i=>[(0,.box (some bl) 25 [.dat (vlst (List.map wa i.1)),.dat (vint i.2.1)]),(1,.box none 30 [.dat (vint 0),.dat (vnil),.dat (vstr [])]),(2,.box none 30 [.dat (vint i.2.2.2.1),.row 13 i.2.2.1.length,.dat (vstr i.2.2.2.2)]),(13,.row 40 2 (List.map yb i.2.2.1))]) (fun i=>z2f i.1 i.2.1 i.2.2.1 i.2.2.2.1 i.2.2.2.2=some r) (fun i=>Z) ?_ ?_
     ·refine ve (zb hN Z (za (zd (.ptr _ _) Z) (bE H fun r60 h61 H=>zj (yl (je (zt.mk c55 c56) 6 r60 h61) Z ⟨.inl Z,U⟩ Z) Z (zg _ Z (fun h62 => ?_) (fun h62 => ?_)))))
      ·refine tE h62 H fun H=>zp hN Z (za (zd (.dr _ _) Z) (za (zd (.ptr _ _) Z) (za (ya (u':=vlst (List.map zr [[53],[53,48],[120],[45,49],[49,48,48,48,48,48,48,48,49]])) (yo [[_],[_],[_],[_],[_]] yu ⟨Z,.inl ⟨_,Z,Z,Z⟩,Z,Z,.inl ⟨_,Z,Z,Z⟩,Z,Z,.inl ⟨_,Z,Z,Z⟩,Z,Z,.inl ⟨_,Z,Z,Z⟩,Z,Z,.inl ⟨_,Z,Z,Z⟩,Z,U⟩ Z Z) Z) (bE H fun r63 h64 H=>zj (yl (jk r60.2 ([[53],[53,48],[120],[45,49],[49,48,48,48,48,48,48,48,49]]) r63 h64) Z ⟨.inl Z,U⟩ Z) Z (bE H fun r65 h66 H=>z3j (args:=[.dat (vstr [97,103,101]),.dat (vstr r63.1)]) (i0:=0) (rn [(0,2),(1,11),(900,12)]) [(0,_,_,some _),(1,_,_,none)] [(900,_)] (z48 [97,103,101] r63.1 (qc.mk c58 l57 c59) r65 h66) ⟨Z,Z,Z,U⟩ Z Z ⟨.inl (.inl Z),.inl (.inl Z),U⟩ ⟨⟨⟨Z,Z⟩,U⟩,⟨⟨Z,Z,Z⟩,U⟩,U⟩ Z (vu ?_))))))
       show Cv _ _ _ _
       exact wu (rn [(12,13)]) [(0,.ptr 0 0),(2,.ptr 1 0),(3,.ptr 2 0),(4,.dr 2 (fun qb=>vfn 52 [vval (.pointer (some ⟨qb,0,none⟩))]))] [(0,.box (some bl) 25 [.dat (vlst (List.map wa r63.2.L)),.dat (vint r63.2.at_)]),(1,.box none 30 [.dat (vint 0),.dat (vnil),.dat (vstr [])]),(2,.box none 30 [.dat (vint r65.Status),.row 12 r65.Headers.length,.dat (vstr r65.Body)]),(12,.row 40 2 (List.map yb r65.Headers))] ⟨Z,Z,Z,Z,U⟩ ⟨Z,Z,Z,Z,U⟩ Z Z ⟨(r63.2.L,r63.2.at_,r65.Headers,r65.Status,r65.Body),H,⟨Z,Z,Z,Z,U⟩,⟨Z,Z,Z,Z,U⟩⟩
      ·refine fE h62 H fun H=>zl ?_
       show Cv _ _ _ _
       exact wu (rn [(11,13)]) [(0,.ptr 0 0),(2,.ptr 1 0),(3,.ptr 2 0),(4,.dr 2 (fun qb=>vfn 52 [vval (.pointer (some ⟨qb,0,none⟩))]))] [(0,.box (some bl) 25 [.dat (vlst (List.map wa r60.2.L)),.dat (vint r60.2.at_)]),(1,.box none 30 [.dat (vint 0),.dat (vnil),.dat (vstr [])]),(2,.box none 30 [.dat (vint c58),.row 11 l57.length,.dat (vstr c59)]),(11,.row 40 2 (List.map yb l57))] ⟨Z,Z,Z,Z,U⟩ ⟨Z,Z,Z,Z,U⟩ Z Z ⟨(r60.2.L,r60.2.at_,l57,c58,c59),H,⟨Z,Z,Z,Z,U⟩,⟨Z,Z,Z,Z,U⟩⟩
     ·rintro ⟨c67,c68,l69,c70,c71⟩ H
      replace H:z2f c67 c68 l69 c70 c71=some r:=H
      unfold z2f at H
      refine yd (ι:=(List Int)×Int×(List zn)×Int×Bs) (fun i=>[(0,.ptr 0 0),(2,.ptr 1 0),(3,.ptr 2 0)]) (fun i=>[(0,.box (some bl) 25 [.dat (vlst (List.map wa i.1)),.dat (vint i.2.1)]),(1,.box none 30 [.dat (vint 0),.dat (vnil),.dat (vstr [])]),(2,.box none 30 [.dat (vint i.2.2.2.1),.row 15 i.2.2.1.length,.dat (vstr i.2.2.2.2)]),(15,.row 40 2 (List.map yb i.2.2.1))]) (fun i=>z2e i.1 i.2.1 i.2.2.1 i.2.2.2.1 i.2.2.2.2=some r) (fun i=>Z) ?_ ?_
      ·refine ve (zb hN Z (za (zd (.ptr _ _) Z) (bE H fun r72 h73 H=>zj (yl (je (zt.mk c67 c68) 30 r72 h73) Z ⟨.inl Z,U⟩ Z) Z (zg _ Z (fun h74 => ?_) (fun h74 => ?_)))))
       ·refine tE h74 H fun H=>zp hN Z (za (zd (.dr _ _) Z) (za (zd (.ptr _ _) Z) (za (ya (u':=vlst (List.map zr [[118,97,114,121],[99,97,99,104,101,45,116,97,103]])) (yo [[_],[_]] yu ⟨Z,.inl ⟨_,Z,Z,Z⟩,Z,Z,.inl ⟨_,Z,Z,Z⟩,Z,U⟩ Z Z) Z) (bE H fun r75 h76 H=>zj (yl (jk r72.2 ([[118,97,114,121],[99,97,99,104,101,45,116,97,103]]) r75 h76) Z ⟨.inl Z,U⟩ Z) Z (za (zd (.ptr _ _) Z) (za (zd (.ptr _ _) Z) (za (ya (u':=vlst (List.map zr [[104,49],[104,50],[104,51],[104,52],[104,53],[104,54],[104,55],[104,56],[104,57],[104,97],[104,98],[104,99]])) (yo [[_],[_],[_],[_],[_],[_],[_],[_],[_],[_],[_],[_]] yu ⟨Z,.inl ⟨_,Z,Z,Z⟩,Z,Z,.inl ⟨_,Z,Z,Z⟩,Z,Z,.inl ⟨_,Z,Z,Z⟩,Z,Z,.inl ⟨_,Z,Z,Z⟩,Z,Z,.inl ⟨_,Z,Z,Z⟩,Z,Z,.inl ⟨_,Z,Z,Z⟩,Z,Z,.inl ⟨_,Z,Z,Z⟩,Z,Z,.inl ⟨_,Z,Z,Z⟩,Z,Z,.inl ⟨_,Z,Z,Z⟩,Z,Z,.inl ⟨_,Z,Z,Z⟩,Z,Z,.inl ⟨_,Z,Z,Z⟩,Z,Z,.inl ⟨_,Z,Z,Z⟩,Z,U⟩ Z Z) Z) (bE H fun r77 h78 H=>zj (yl (z1r r75.2 12 [44] ([[104,49],[104,50],[104,51],[104,52],[104,53],[104,54],[104,55],[104,56],[104,57],[104,97],[104,98],[104,99]]) r77 h78) Z ⟨.inl Z,.inl Z,.inl Z,U⟩ Z) Z (za (ya (u':=vlst (List.map zr [[97,32,98],[65],[],r77.1])) (yo [[_],[_],[_],[_]] yu ⟨Z,.inl ⟨_,Z,Z,Z⟩,Z,Z,.inl ⟨_,Z,Z,Z⟩,Z,Z,.inl ⟨_,Z,Z,Z⟩,Z,Z,.inl ⟨_,Z,Z,Z⟩,Z,U⟩ Z Z) Z) (bE H fun r79 h80 H=>zj (yl (jk r77.2 ([[97,32,98],[65],[],r77.1]) r79 h80) Z ⟨.inl Z,U⟩ Z) Z (bE H fun r81 h82 H=>z3j (args:=[.dat (vstr r75.1),.dat (vstr r79.1)]) (i0:=0) (rn [(0,2),(1,13),(900,14)]) [(0,_,_,some _),(1,_,_,none)] [(900,_)] (z48 r75.1 r79.1 (qc.mk c70 l69 c71) r81 h82) ⟨Z,Z,Z,U⟩ Z Z ⟨.inl (.inl Z),.inl (.inl Z),U⟩ ⟨⟨⟨Z,Z⟩,U⟩,⟨⟨Z,Z,Z⟩,U⟩,U⟩ Z (vu ?_))))))))))))
        show Cv _ _ _ _
        exact wu (rn [(14,15)]) [(0,.ptr 0 0),(2,.ptr 1 0),(3,.ptr 2 0)] [(0,.box (some bl) 25 [.dat (vlst (List.map wa r79.2.L)),.dat (vint r79.2.at_)]),(1,.box none 30 [.dat (vint 0),.dat (vnil),.dat (vstr [])]),(2,.box none 30 [.dat (vint r81.Status),.row 14 r81.Headers.length,.dat (vstr r81.Body)]),(14,.row 40 2 (List.map yb r81.Headers))] ⟨Z,Z,Z,U⟩ ⟨Z,Z,Z,Z,U⟩ Z Z ⟨(r79.2.L,r79.2.at_,r81.Headers,r81.Status,r81.Body),H,⟨Z,Z,Z,U⟩,⟨Z,Z,Z,Z,U⟩⟩
       ·refine fE h74 H fun H=>zl ?_
        show Cv _ _ _ _
        exact wu (rn [(13,15)]) [(0,.ptr 0 0),(2,.ptr 1 0),(3,.ptr 2 0)] [(0,.box (some bl) 25 [.dat (vlst (List.map wa r72.2.L)),.dat (vint r72.2.at_)]),(1,.box none 30 [.dat (vint 0),.dat (vnil),.dat (vstr [])]),(2,.box none 30 [.dat (vint c70),.row 13 l69.length,.dat (vstr c71)]),(13,.row 40 2 (List.map yb l69))] ⟨Z,Z,Z,U⟩ ⟨Z,Z,Z,Z,U⟩ Z Z ⟨(r72.2.L,r72.2.at_,l69,c70,c71),H,⟨Z,Z,Z,U⟩,⟨Z,Z,Z,Z,U⟩⟩
      ·rintro ⟨c83,c84,l85,c86,c87⟩ H
       replace H:z2e c83 c84 l85 c86 c87=some r:=H
       unfold z2e at H
       refine yd (ι:=(List Int)×Int×Int) (fun i=>[(2,.ptr 1 0),(3,.ptr 2 0)]) (fun i=>[(0,.box (some bl) 25 [.dat (vlst (List.map wa i.1)),.dat (vint i.2.1)]),(1,.box none 30 [.dat (vint 0),.dat (vnil),.dat (vstr [])]),(2,.box none 30 [.dat (vint i.2.2),.row 15 l85.length,.dat (vstr c87)]),(15,.row 40 2 (List.map yb l85))]) (fun i=>z2d l85 c87 i.1 i.2.1 i.2.2=some r) (fun i=>Z) ?_ ?_
       ·refine ve (zb hN Z (za (zd (.ptr _ _) Z) (bE H fun r88 h89 H=>zj (yl (je (zt.mk c83 c84) 40 r88 h89) Z ⟨.inl Z,U⟩ Z) Z (zg _ Z (fun h90 => ?_) (fun h90 => ?_)))))
        ·refine tE h90 H fun H=>zp hN Z (za (zd (.ptr _ _) Z) (bE H fun r91 h92 H=>zj (yl (y22 r88.2 100 599 r91 h92) Z ⟨.inl Z,.inl Z,U⟩ Z) Z (za (zq y4c Z) (zj (vr tyS3 Z Z Z Z) Z (vu ?_)))))
         show Cv _ _ _ _
         exact vq ⟨(r91.2.L,r91.2.at_,r91.1),H,⟨Z,Z,U⟩,⟨Z,Z,Z,Z,U⟩⟩
        ·refine fE h90 H fun H=>zl ?_
         show Cv _ _ _ _
         exact vq ⟨(r88.2.L,r88.2.at_,c86),H,⟨Z,Z,U⟩,⟨Z,Z,Z,Z,U⟩⟩
       ·rintro ⟨c93,c94,c95⟩ H
        replace H:z2d l85 c87 c93 c94 c95=some r:=H
        unfold z2d at H
        refine zh (z6x 2 1 15 Z Z Z (by rw [List.length_map]) ?_)
        refine zp hN Z (zm (qa ur Z Z Z) Z (zj (qk ur Z Z Z Z) Z (zi ?_)))
        cases H
        exact ⟨U,⟨.inl ⟨_,_,_,Zj (qc.mk c95 l85 c87),Z,Z,Z,Z,ur⟩,U⟩,Z⟩
theorem w1z (s1:zt) (r:(Bs×zt)) (H:z8q s1=some r):Imp Tryz.prog 22 25 (qo s1) [] (zu [vstr r.1]) (qo r.2):=by
 refine kf (us:=[vstr r.1]) (cs':=(qo r.2)) (by kernel_rfl) Tryz.func22 Z Z Z Z fun X bl hN => ?_
 unfold z8q at H
 refine zb hN Z (qe Z (zb hN Z (za (zd (.ptr _ _) Z) (bE H fun r2 h3 H=>za (zk (y6f [97] 64 r2 h3) ⟨.inl Z,.inl Z,U⟩) (za (ya (u':=vlst (List.map zr [[97,46,98],[97,46,98],[65,46,66],[115,104,111,112,46,101,120,97,109,112,108,101],[97,46,98,58,56,48],[97,46,98,58,52,52,51],[97,46,98,58,56,48,56,48],[120,45,49,46,121],[49,46,50,46,51,46,52],[],[97,46,46,98],[45,97,46,98],[97,46,98,58,48],[97,46,98,58,48,56],[97,46,98,58,54,53,53,51,54],[97,95,98],[97,46,98,58],[97,32,98],r2])) (yo [[_],[_],[_],[_],[_],[_],[_],[_],[_],[_],[_],[_],[_],[_],[_],[_],[_],[_],[_]] yu ⟨Z,.inl ⟨_,Z,Z,Z⟩,Z,Z,.inl ⟨_,Z,Z,Z⟩,Z,Z,.inl ⟨_,Z,Z,Z⟩,Z,Z,.inl ⟨_,Z,Z,Z⟩,Z,Z,.inl ⟨_,Z,Z,Z⟩,Z,Z,.inl ⟨_,Z,Z,Z⟩,Z,Z,.inl ⟨_,Z,Z,Z⟩,Z,Z,.inl ⟨_,Z,Z,Z⟩,Z,Z,.inl ⟨_,Z,Z,Z⟩,Z,Z,.inl ⟨_,Z,Z,Z⟩,Z,Z,.inl ⟨_,Z,Z,Z⟩,Z,Z,.inl ⟨_,Z,Z,Z⟩,Z,Z,.inl ⟨_,Z,Z,Z⟩,Z,Z,.inl ⟨_,Z,Z,Z⟩,Z,Z,.inl ⟨_,Z,Z,Z⟩,Z,Z,.inl ⟨_,Z,Z,Z⟩,Z,Z,.inl ⟨_,Z,Z,Z⟩,Z,Z,.inl ⟨_,Z,Z,Z⟩,Z,Z,.inl ⟨_,Z,Z,Z⟩,Z,U⟩ Z Z) Z) (bE H fun r4 h5 H=>zj (yl (jk s1 ([[97,46,98],[97,46,98],[65,46,66],[115,104,111,112,46,101,120,97,109,112,108,101],[97,46,98,58,56,48],[97,46,98,58,52,52,51],[97,46,98,58,56,48,56,48],[120,45,49,46,121],[49,46,50,46,51,46,52],[],[97,46,46,98],[45,97,46,98],[97,46,98,58,48],[97,46,98,58,48,56],[97,46,98,58,54,53,53,51,54],[97,95,98],[97,46,98,58],[97,32,98],r2]) r4 h5) Z ⟨.inl Z,U⟩ Z) Z (qe Z (zi ?_))))))))
 cases H
 exact ⟨U,⟨.inl Z,U⟩,Z⟩
end Go.Proofs.YtmdllhcjefcggabGreatDoor
