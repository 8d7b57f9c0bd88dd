/- Walks along the models. Printed by a program. -/
import Derived.Test.YtfindajhhadihaaGreatDoorZpc
namespace Go.Proofs.YtfindajhhadihaaGreatDoor
open Go.RowKit
set_option linter.unusedVariables false
set_option maxRecDepth 100000
set_option maxHeartbeats 2000000
theorem z5p (x1:Int) (n2:Int) (r:(Int)) (H:Zd x1 n2=some r):Fn Tryz.prog 47 [vint x1,vint n2] (zr [vint r]):=by
 refine ⟨by kernel_rfl,yh (us:=[vint r]) Tryz.func47 Z Z Z Z fun X hN => ?_⟩
 unfold Zd at H
 refine zb hN Z (qe Z (zh (zb hN Z (qd Z (za (yf Z Z) (zg _ Z (fun h3 => ?_) (fun h3 => ?_)))))))
 ·refine tE h3 H fun H=>zb hN Z (qe Z (zi ?_))
  cases H
  exact ⟨U,.inl Z,U⟩
 ·refine fE h3 H fun H=>zl (zb hN Z (qd Z (qd Z (gE H fun h4 H=>za (z69 Z Z h4) (qe Z (zw (ι:=Int) (fun i=>[(0,.dat (vint i))]) (fun i=>[]) (fun i=>Wj i=some r) (fun i=>Z) ?_ ?_))))))
  ·skip
   refine zb hN Z (qd Z (za (yf Z Z) (zg _ Z (fun h5 => ?_) (fun h5 => ?_))))
   ·exact tE h5 H fun H=>zm hN Z (qd Z (qd Z (za (yo _ Z Z (.inl ⟨Z,Z⟩)) (qe Z ⟨wr ((Int.tmod x1 n2)+n2),H,⟨Z,U⟩,U⟩))))
   ·exact fE h5 H fun H=>zl ⟨(Int.tmod x1 n2),H,⟨Z,U⟩,U⟩
  ·rintro x6 H
   replace H:Wj x6=some r:=H
   unfold Wj at H
   refine zb hN Z (qd Z (qe Z (zi ?_)))
   cases H
   exact ⟨U,.inl Z,U⟩
theorem Zf (s1:ya) (n2:Int) (r:(Int×ya)) (H:jp s1 n2=some r):Imp Tryz.prog 28 25 (qh s1) [vint n2] (zr [vint r.1]) (qh r.2):=by
 refine wm (us:=[vint r.1]) (cs':=(qh r.2)) (by kernel_rfl) Tryz.func28 Z Z Z Z fun X bl hN => ?_
 unfold jp at H
 refine zb hN Z (qe Z (zb hN Z (za (ze (.ptr _ _) Z) (za (zv Z) (za (zp Ws Z) (yc (zy tyS3 Z Z) Z (za (yo _ Z Z (.inl ⟨Z,Z⟩)) (za (zv Z) (za (zp Ws Z) (zq (qg tyS3 Z Z Z Z) Z (zh (zb hN Z (za (ze (.ptr _ _) Z) (za (zv Z) (za (zp z1w Z) (yc (zy z1r Z Z) Z (za (qo z1o Z) (za (yl Z Z) (zg _ Z (fun h3 => ?_) (fun h3 => ?_))))))))))))))))))))
 ·refine tE h3 H fun H=>zb hN Z (za (ze (.ptr _ _) Z) (za (zv Z) (za (zp Ws Z) (yc (zy tyS3 Z Z) Z (za (yo _ Z Z (.inr (.inr ⟨Z,Z⟩))) (qd Z (bE H fun r4 h5 H=>za (zn (z5p (wr ((wr (s1.at_+1)) * 7919)) n2 r4 h5) ⟨.inl Z,.inl Z,U⟩) (qe Z (zi ?_)))))))))
  cases H
  exact ⟨U,⟨.inl Z,U⟩,Z⟩
 ·refine fE h3 H fun H=>zl (zh (wh mixed hN Z Z (za (ze (.ptr _ _) Z) (za (zv Z) (za (zp Ws Z) (yc (zy tyS3 Z Z) Z (za (yo _ Z Z (.inr (.inl ⟨Z,Z⟩))) (za (ze (.ptr _ _) Z) (za (zv Z) (za (zp z1w Z) (yc (zy z1r Z Z) Z (za (qo z1o Z) (gE H fun h6 H=>za (z69 Z Z h6) (qe Z ⟨Z,?_⟩))))))))))))))
  refine zh (wh mixed hN Z Z (za (ze (.ptr _ _) Z) (za (zv Z) (za (zp Ws Z) (yc (zy tyS3 Z Z) Z (za (yo _ Z Z (.inr (.inl ⟨Z,Z⟩))) (za (ze (.ptr _ _) Z) (za (zv Z) (za (zp z1w Z) (yc (zy z1r Z Z) Z (za (qo z1o Z) (gE H fun h7 H=>za (y1e Z Z h7.1 h7.2) (qe Z ⟨Z,?_⟩)))))))))))))
  refine zb hN Z (za (ze (.ptr _ _) Z) (za (zv Z) (za (zp z1w Z) (yc (zy z1r Z Z) Z (qd Z (bE H fun x8 h9 H=>za (z4b z63 (fun _=>Z) Z Z h9) (za (vr tyS3 Z (vx (Wm h9).2) Z) (bE H fun r10 h11 H=>za (zn (z5p x8 1073741824 r10 h11) ⟨.inl Z,.inl Z,U⟩) (qd Z (qd Z (za (yo _ Z Z (.inl ⟨Z,Z⟩)) (za (yo _ Z Z (.inr (.inr ⟨Z,Z⟩))) (za (yo _ Z Z (.inl ⟨Z,Z⟩)) (qd Z (bE H fun r12 h13 H=>za (zn (z5p (wr (r10+(wr (((wr ((wr (s1.at_+1)) - 1)) / (s1.L.length:Int)) * (wr (7919+(Int.tmod (wr ((wr (s1.at_+1)) - 1)) (s1.L.length:Int)))))))) n2 r12 h13) ⟨.inl Z,.inl Z,U⟩) (qe Z (zi ?_)))))))))))))))))
  cases H
  exact ⟨U,⟨.inl Z,U⟩,Z⟩
theorem z83 (s1:ya) (low2:Int) (high3:Int) (r:(Int×ya)) (H:Qh s1 low2 high3=some r):Imp Tryz.prog 11 25 (qh s1) [vint low2,vint high3] (zr [vint r.1]) (qh r.2):=by
 refine wm (us:=[vint r.1]) (cs':=(qh r.2)) (by kernel_rfl) Tryz.func11 Z Z Z Z fun X bl hN => ?_
 unfold Qh at H
 refine zb hN Z (qe Z (zh (zb hN Z (qd Z (qd Z (za (yf Z Z) (zg _ Z (fun h4 => ?_) (fun h4 => ?_))))))))
 ·refine tE h4 H fun H=>zb hN Z (qd Z (qe Z (zi ?_)))
  cases H
  exact ⟨U,⟨.inl Z,U⟩,Z⟩
 ·refine fE h4 H fun H=>zl (zb hN Z (qd Z (za (ze (.ptr _ _) Z) (qd Z (qd Z (za (yo _ Z Z (.inr (.inl ⟨Z,Z⟩))) (za (yo _ Z Z (.inl ⟨Z,Z⟩)) (bE H fun r5 h6 H=>zq (yn (Zf s1 (wr ((wr (high3 - low2))+1)) r5 h6) Z ⟨.inl Z,U⟩ Z) Z (za (yo _ Z Z (.inl ⟨Z,Z⟩)) (qe Z (zi ?_)))))))))))
  cases H
  exact ⟨U,⟨.inl Z,U⟩,Z⟩
theorem Qn (s1:ya) (l2:(List Bs)) (r:(Bs×ya)) (H:jg s1 l2=some r):Imp Tryz.prog 12 25 (qh s1) [vlst (List.map yb l2)] (zr [vstr r.1]) (qh r.2):=by
 refine wm (us:=[vstr r.1]) (cs':=(qh r.2)) (by kernel_rfl) Tryz.func12 Z Z Z Z fun X bl hN => ?_
 unfold jg at H
 refine zb hN Z (qe Z (zb hN Z (qd Z (za (ze (.ptr _ _) Z) (qd Z (za (qo jl Z) (bE H fun r3 h4 H=>zq (yn (Zf s1 (l2.length:Int) r3 h4) Z ⟨.inl Z,U⟩ Z) Z (bE H fun x5 h6 H=>za (z4b uw (fun _=>Z) Z Z h6) (za (vr tyS9 Z (vx (Wm h6).2) Z) (qe Z (zi ?_)))))))))))
 cases H
 exact ⟨U,⟨.inl Z,U⟩,Z⟩
theorem z8q (l:List Bs) (sep r:Bs) (H:xr l sep=some r):Fn Tryz.prog 27 [vlst (List.map yb l),vstr sep] (zr [vstr r]):=by
 obtain ⟨h1,h2,rfl⟩:=y47 H
 refine kf (by kernel_rfl) fun M w vs hM h => ?_
 obtain ⟨hl,hv⟩:=h
 obtain ⟨a,ha,hap⟩:=hv 0 _ rfl
 obtain ⟨s,hs,hsp⟩:=hv 1 _ rfl
 have hsp:s = .string ⟨sep.toArray⟩:=hsp
 subst hsp
 have hvs:vs.toArray = #[a,.string ⟨sep.toArray⟩]:=by
  rcases vs with _ | ⟨x,_ | ⟨y,_ | ⟨z,t⟩⟩⟩
  ·cases ha
  ·cases hs
  ·cases ha; cases hs; rfl
  ·simp at hl
 rw [hvs]
 obtain ⟨A,c,q1,q2,q3⟩:=hap
 simp only [List.length_map] at q1 q2
 subst q1
 by_cases hne:l=[]
 ·subst hne
  refine (Tryz.strings_Join_none A c ⟨sep.toArray⟩ w).mono ?_
  rintro e w' ⟨rfl,rfl⟩
  exact ⟨_,Z,Z,Kp.refl _ _⟩
 ·obtain ⟨b,off,size,rfl,hMb,arr,t,fz,q5,q6,q7⟩:=q3 (by simpa using hne)
  have hsz:size=1:=by
   cases hq:l with
   | nil=>exact absurd hq hne
   | cons x l'=>have:=q6 (yb x) (by rw [hq]; simp); simpa using this.symm
  subst hsz
  have e1:((l.map fun x=>ByteArray.mk x.toArray).map (·.data.toList))=l:=by
   rw [List.map_map]
   exact (List.map_congr_left fun x _=>Z).trans (List.map_id l)
  have hj:=Tryz.strings_Join b off c (l.map fun x=>ByteArray.mk x.toArray) ⟨sep.toArray⟩ w (fun j x hx=>by
   rw [List.getElem?_map] at hx
   cases hq:l[j]? with
   | none=>rw [hq] at hx; cases hx
   | some y =>
    rw [hq] at hx
    cases hx
    obtain ⟨v,r1,r2,_⟩:=q7 j 0 (yb y) (vstr y) (by rw [List.getElem?_map,hq]; rfl) rfl
    have r2:v = .string ⟨y.toArray⟩:=r2
    rw [cell_of_row w b _ _ _ _ q5]
    simp only [Nat.mul_one,Nat.add_zero] at r1
    rw [r1,r2]) (Qu q5) (by simp; omega) (by simpa using q2) (by rw [e1]; simp only; omega)
  rw [List.length_map,e1] at hj
  refine hj.mono ?_
  rintro e w' ⟨rfl,hb⟩
  exact ⟨_,Z,Z,Kp.of_below hb⟩
theorem y41 (s1:ya) (many2:Int) (between3:Bs) (l4:(List Bs)) (r:(Bs×ya)) (H:z0y s1 many2 between3 l4=some r):Imp Tryz.prog 10 25 (qh s1) [vint many2,vstr between3,vlst (List.map yb l4)] (zr [vstr r.1]) (qh r.2):=by
 refine wm (us:=[vstr r.1]) (cs':=(qh r.2)) (by kernel_rfl) Tryz.func10 Z Z Z Z fun X bl hN => ?_
 unfold z0y at H
 refine zb hN Z (qe Z (zb hN Z (qe Z (zh (zb hN Z (qd Z (qd Z (ye (Zy 9 1 9 1 Z Z Z (gE H fun h10 H=>z57 (fun (k8:Nat) (s:(List Int)×Int×(List Bs))=>[(0,.ptr 0 0),(2,.dat (vstr between3)),(3,.dat (vlst (List.map yb l4))),(9,.row 1 s.2.2.length),(10,.dat (vint many2)),(11,.dat (vint (k8:Int)))]) (fun (k8:Nat) (s:(List Int)×Int×(List Bs))=>[(0,.box (some bl) 25 [.dat (vlst (List.map js s.1)),.dat (vint s.2.1)]),(1,.row 9 1 (List.map yb s.2.2))]) (s1.L,s1.at_,[]) H ⟨Z,Z,Z,Z,Z,Z,U⟩ ⟨Z,Z,U⟩ (fun _ _=>Z) ?_ ?_))))))))))
 ·rintro ⟨c5,c6,l7⟩ H
  replace H:z3k between3 c5 c6 l7=some r:=H
  unfold z3k at H
  refine zb hN Z (za (yf Z Z) (zh (zg _ Z (fun h=>(z5f h).elim) (fun h => ?_))))
  refine yu (zh (Ye 9 1 Z Z Z (zm hN Z (qd Z (qd Z (bE H fun r11 h12 H=>za (zn (z8q l7 between3 r11 h12) ⟨.inl Z,.inl Z,U⟩) (qe Z (zi ?_))))))))
  cases H
  exact ⟨U,⟨.inl Z,U⟩,Z⟩
 ·rintro k8 ⟨c5,c6,l7⟩ q9 h13 H hq9
  replace H:z3j l4 k8 c5 c6 l7=some q9:=H
  unfold z3j at H
  refine zb hN Z (za (yf Z Z) (zh (zg _ Z (fun h => ?_) (fun h=>(z5g h13 h).elim))))
  refine zl (zh (ye (zm hN Z (za (ze (.row _ _) Z) (za (ze (.ptr _ _) Z) (qd Z (bE H fun r14 h15 H=>zq (yn (Qn (ya.mk c5 c6) l4 r14 h15) Z ⟨.inl Z,U⟩ Z) Z (za (ym (u':=vlst (List.map yb [r14.1])) (wa [[_]] wi ⟨Z,.inl ⟨_,Z,Z,Z⟩,Z,U⟩ Z Z) Z) (gE H fun h16 H=>zq (vo wi (fun _=>Z) Z Z Z ⟨by simp,by first | (simp; done) | simpa using h16⟩ Z) Z ?_)))))))))
  exact za (wu (.row _ _) Z) (zm hN Z (za (wk Z Z (by omega)) (qd Z ⟨_,qb H,⟨Z,Z,Z,Z,Z,Z,U⟩,⟨Z,Z,U⟩⟩)))
theorem z85 (s1:ya) (n2:Int) (r:(Bool×ya)) (H:Qj s1 n2=some r):Imp Tryz.prog 13 25 (qh s1) [vint n2] (zr [zf r.1]) (qh r.2):=by
 refine wm (us:=[zf r.1]) (cs':=(qh r.2)) (by kernel_rfl) Tryz.func13 Z Z Z Z fun X bl hN => ?_
 unfold Qj at H
 refine zb hN Z (qe Z (zb hN Z (za (ze (.ptr _ _) Z) (qd Z (bE H fun r3 h4 H=>zq (yn (Zf s1 n2 r3 h4) Z ⟨.inl Z,U⟩ Z) Z (za (yl Z Z) (qe Z (zi ?_))))))))
 cases H
 exact ⟨U,⟨.inl Z,U⟩,Z⟩
theorem y42 (s1:ya) (l2:(List Int)) (r:(Int×ya)) (H:z0z s1 l2=some r):Imp Tryz.prog 14 25 (qh s1) [vlst (List.map js l2)] (zr [vint r.1]) (qh r.2):=by
 refine wm (us:=[vint r.1]) (cs':=(qh r.2)) (by kernel_rfl) Tryz.func14 Z Z Z Z fun X bl hN => ?_
 unfold z0z at H
 refine zb hN Z (qe Z (zb hN Z (qd Z (za (ze (.ptr _ _) Z) (qd Z (za (qo z1o Z) (bE H fun r3 h4 H=>zq (yn (Zf s1 (l2.length:Int) r3 h4) Z ⟨.inl Z,U⟩ Z) Z (bE H fun x5 h6 H=>za (z4b z63 (fun _=>Z) Z Z h6) (za (vr tyS3 Z (vx (Wm h6).2) Z) (qe Z (zi ?_)))))))))))
 cases H
 exact ⟨U,⟨.inl Z,U⟩,Z⟩
theorem y44 (s1:ya) (t2:Bs) (v3:Bs) (r:(Bs×ya)) (H:z01 s1 t2 v3=some r):Imp Tryz.prog 15 25 (qh s1) [vstr t2,vstr v3] (zr [vstr r.1]) (qh r.2):=by
 refine wm (us:=[vstr r.1]) (cs':=(qh r.2)) (by kernel_rfl) Tryz.func15 Z Z Z Z fun X bl hN => ?_
 unfold z01 at H
 refine zb hN Z (qe Z (zh (zb hN Z (qd Z (za (ql Z Z) (qd Z (yr Z Z (fun hc=>ze (.dat _) Z) (yr Z Z (fun hc=>ql (cnd (c:=(!(decide (t2=[])))) hc) Z) (za (vc Z Z (fun hb=>(cnd (c:=(!(decide (t2=[])))) (notI hb)))) (zg _ Z (fun h4 => ?_) (fun h4 => ?_)))))))))))
 ·refine tE h4 H fun H=>zb hN Z (qd Z (qe Z (zi ?_)))
  cases H
  exact ⟨U,⟨.inl Z,U⟩,Z⟩
 ·refine fE h4 H fun H=>zl (zb hN Z (za (ze (.ptr _ _) Z) (qd Z (za (yq tyU9 Z) (bE H fun r5 h6 H=>zq (yn (Zf s1 (t2.length:Int) r5 h6) Z ⟨.inl Z,U⟩ Z) Z (qe Z (zb hN Z (qd Z (za (ze (.ptr _ _) Z) (qd Z (za (yq tyU9 Z) (bE H fun r7 h8 H=>zq (yn (Zf r5.2 (v3.length:Int) r7 h8) Z ⟨.inl Z,U⟩ Z) Z (bE H fun x9 h10 H=>za (wc tyU9 Z Z h10) (qe Z (zh (zb hN Z (za (ze (.ptr _ _) Z) (bE H fun r11 h12 H=>zq (yn (Zf r7.2 3 r11 h12) Z ⟨.inl Z,U⟩ Z) Z ?_))))))))))))))))))
  refine ye (zb hN Z (za (yl Z Z) (qe Z (zg _ Z (fun h13 => ?_) (fun h13 => ?_)))))
  ·refine tE h13 H fun H=>zh (wh mixed hN Z Z (qd Z (qd Z (bE H fun l14 h15 H=>za (qc tyU9 Z Z Z h15) (qd Z (za (vt tyU5 z1p Z) (za (z7f z1p Z tyU9 Z) (gE H fun h16 H=>za (vp Z Z (Nat.le_trans h16 (by decide))) (qd Z (qd Z (za (yo _ Z Z (.inl ⟨Z,Z⟩)) (bE H fun l17 h18 H=>za (qc tyU9 Z Z Z h18) (gE H fun h19 H=>za (vp Z Z (Nat.le_trans h19 (by decide))) (qe Z ⟨Z,?_⟩))))))))))))))
   refine zi ?_
   cases H
   exact ⟨U,⟨.inl Z,U⟩,Z⟩
  ·refine fE h13 H fun H=>zb hN Z (za (yl Z Z) (qe Z (zg _ Z (fun h20 => ?_) (fun h20 => ?_))))
   ·refine tE h20 H fun H=>zh (wh mixed hN Z Z (qd Z (qd Z (bE H fun l21 h22 H=>za (qc tyU9 Z Z Z h22) (qd Z (za (vt tyU5 z1p Z) (za (z7f z1p Z tyU9 Z) (gE H fun h23 H=>za (vp Z Z (Nat.le_trans h23 (by decide))) (qd Z (qd Z (bE H fun l24 h25 H=>za (qc tyU9 Z Z Z h25) (gE H fun h26 H=>za (vp Z Z (Nat.le_trans h26 (by decide))) (qe Z ⟨Z,?_⟩)))))))))))))
    refine zi ?_
    cases H
    exact ⟨U,⟨.inl Z,U⟩,Z⟩
   ·refine fE h20 H fun H=>zl (zh (wh mixed hN Z Z (qd Z (qd Z (bE H fun l27 h28 H=>za (qc tyU9 Z Z Z h28) (qd Z (qd Z (za (yo _ Z Z (.inl ⟨Z,Z⟩)) (bE H fun l29 h30 H=>za (qc tyU9 Z Z Z h30) (gE H fun h31 H=>za (vp Z Z (Nat.le_trans h31 (by decide))) (qe Z ⟨Z,?_⟩)))))))))))
    refine zi ?_
    cases H
    exact ⟨U,⟨.inl Z,U⟩,Z⟩
theorem y43 (s1:ya) (r:(Bs×ya)) (H:z00 s1=some r):Imp Tryz.prog 4 25 (qh s1) [] (zr [vstr r.1]) (qh r.2):=by
 refine wm (us:=[vstr r.1]) (cs':=(qh r.2)) (by kernel_rfl) Tryz.func4 Z Z Z Z fun X bl hN => ?_
 unfold z00 at H
 refine zb hN Z (qe Z (zb hN Z (za (ze (.ptr _ _) Z) (za (ze (.ptr _ _) Z) (bE H fun r2 h3 H=>zq (yn (z83 s1 0 4 r2 h3) Z ⟨.inl Z,.inl Z,U⟩ Z) Z (za (ze (.ptr _ _) Z) (za (ym (u':=vlst (List.map yb [[44],[44,32],[32,44,32]])) (wa [[_],[_],[_]] wi ⟨Z,.inl ⟨_,Z,Z,Z⟩,Z,Z,.inl ⟨_,Z,Z,Z⟩,Z,Z,.inl ⟨_,Z,Z,Z⟩,Z,U⟩ Z Z) Z) (bE H fun r4 h5 H=>zq (yn (Qn r2.2 ([[44],[44,32],[32,44,32]]) r4 h5) Z ⟨.inl Z,U⟩ Z) Z (za (ym (u':=vlst (List.map yb [[116,101,120,116,47,104,116,109,108],[116,101,120,116,47,42],[42,47,42],[100,101],[42],[97,59,113,61,48,46,53],[116,101,120,116,47,104,116,109,108,59,113,61,48,46,50,53],[98,59,120,61,49],[99,59,121,61,34,113,92,34,114,34],[100,101,59,32,81,61,48],[101,59,113,61,49,46,48,48,48],[],[105,109,97,103,101,47,112,110,103,59,113,61,48,46,48,48,49],[102,59,120,61,34,34,59,113,61,48]])) (wa [[_],[_],[_],[_],[_],[_],[_],[_],[_],[_],[_],[_],[_],[_]] wi ⟨Z,.inl ⟨_,Z,Z,Z⟩,Z,Z,.inl ⟨_,Z,Z,Z⟩,Z,Z,.inl ⟨_,Z,Z,Z⟩,Z,Z,.inl ⟨_,Z,Z,Z⟩,Z,Z,.inl ⟨_,Z,Z,Z⟩,Z,Z,.inl ⟨_,Z,Z,Z⟩,Z,Z,.inl ⟨_,Z,Z,Z⟩,Z,Z,.inl ⟨_,Z,Z,Z⟩,Z,Z,.inl ⟨_,Z,Z,Z⟩,Z,Z,.inl ⟨_,Z,Z,Z⟩,Z,Z,.inl ⟨_,Z,Z,Z⟩,Z,Z,.inl ⟨_,Z,Z,Z⟩,Z,Z,.inl ⟨_,Z,Z,Z⟩,Z,Z,.inl ⟨_,Z,Z,Z⟩,Z,U⟩ Z Z) Z) (bE H fun r6 h7 H=>zq (yn (y41 r4.2 r2.1 r4.1 ([[116,101,120,116,47,104,116,109,108],[116,101,120,116,47,42],[42,47,42],[100,101],[42],[97,59,113,61,48,46,53],[116,101,120,116,47,104,116,109,108,59,113,61,48,46,50,53],[98,59,120,61,49],[99,59,121,61,34,113,92,34,114,34],[100,101,59,32,81,61,48],[101,59,113,61,49,46,48,48,48],[],[105,109,97,103,101,47,112,110,103,59,113,61,48,46,48,48,49],[102,59,120,61,34,34,59,113,61,48]]) r6 h7) Z ⟨.inl Z,.inl Z,.inl Z,U⟩ Z) Z (qe Z (zw (ι:=Bs×(List Int)×Int) (fun i=>[(0,.ptr 0 0),(3,.dat (vstr i.1))]) (fun i=>[(0,.box (some bl) 25 [.dat (vlst (List.map js i.2.1)),.dat (vint i.2.2)])]) (fun i=>Zu i.1 i.2.1 i.2.2=some r) (fun i=>Z) ?_ ?_))))))))))))
 ·skip
  refine zb hN Z (za (ze (.ptr _ _) Z) (bE H fun r8 h9 H=>zq (yn (z85 r6.2 8 r8 h9) Z ⟨.inl Z,U⟩ Z) Z (zg _ Z (fun h10 => ?_) (fun h10 => ?_))))
  ·exact tE h10 H fun H=>zm hN Z (za (ze (.ptr _ _) Z) (za (ym (u':=vlst (List.map yb [[97,59,113,61,50],[97,59,113,61,48,46,49,50,51,52],[97,59,113,61,49,59,113,61,49],[97,32,98],[97,59],[97,59,98],[97,59,98,61],[97,47,98,47,99],[97,59,120,61,34,121],[97,59,120,61,34,92,122,34],[47,97],[97,59,113,61,46,53],[32,97],[97,59,113,61,49,46,49]])) (wa [[_],[_],[_],[_],[_],[_],[_],[_],[_],[_],[_],[_],[_],[_]] wi ⟨Z,.inl ⟨_,Z,Z,Z⟩,Z,Z,.inl ⟨_,Z,Z,Z⟩,Z,Z,.inl ⟨_,Z,Z,Z⟩,Z,Z,.inl ⟨_,Z,Z,Z⟩,Z,Z,.inl ⟨_,Z,Z,Z⟩,Z,Z,.inl ⟨_,Z,Z,Z⟩,Z,Z,.inl ⟨_,Z,Z,Z⟩,Z,Z,.inl ⟨_,Z,Z,Z⟩,Z,Z,.inl ⟨_,Z,Z,Z⟩,Z,Z,.inl ⟨_,Z,Z,Z⟩,Z,Z,.inl ⟨_,Z,Z,Z⟩,Z,Z,.inl ⟨_,Z,Z,Z⟩,Z,Z,.inl ⟨_,Z,Z,Z⟩,Z,Z,.inl ⟨_,Z,Z,Z⟩,Z,U⟩ Z Z) Z) (bE H fun r11 h12 H=>zq (yn (Qn r8.2 ([[97,59,113,61,50],[97,59,113,61,48,46,49,50,51,52],[97,59,113,61,49,59,113,61,49],[97,32,98],[97,59],[97,59,98],[97,59,98,61],[97,47,98,47,99],[97,59,120,61,34,121],[97,59,120,61,34,92,122,34],[47,97],[97,59,113,61,46,53],[32,97],[97,59,113,61,49,46,49]]) r11 h12) Z ⟨.inl Z,U⟩ Z) Z (qe Z ⟨(r11.1,r11.2.L,r11.2.at_),H,⟨Z,Z,U⟩,⟨Z,U⟩⟩))))
  ·exact fE h10 H fun H=>zl ⟨(r6.1,r8.2.L,r8.2.at_),H,⟨Z,Z,U⟩,⟨Z,U⟩⟩
 ·rintro ⟨t13,c14,c15⟩ H
  replace H:Zu t13 c14 c15=some r:=H
  unfold Zu at H
  refine zh (zb hN Z (za (ze (.ptr _ _) Z) (za (ym (u':=vlst (List.map js [0,0,0,1,2])) (wa [[_],[_],[_],[_],[_]] y0q ⟨Z,.inl ⟨_,Z,Z,Z⟩,Z,Z,.inl ⟨_,Z,Z,Z⟩,Z,Z,.inl ⟨_,Z,Z,Z⟩,Z,Z,.inl ⟨_,Z,Z,Z⟩,Z,Z,.inl ⟨_,Z,Z,Z⟩,Z,U⟩ Z Z) Z) (bE H fun r16 h17 H=>zq (yn (y42 (ya.mk c14 c15) [0,0,0,1,2] r16 h17) Z ⟨.inl Z,U⟩ Z) Z (qd Z (ye (gE H fun h23 H=>z57 (fun (k21:Nat) (s:Bs×(List Int)×Int)=>[(0,.ptr 0 0),(3,.dat (vstr s.1)),(19,.dat (vint r16.1)),(20,.dat (vint (k21:Int)))]) (fun (k21:Nat) (s:Bs×(List Int)×Int)=>[(0,.box (some bl) 25 [.dat (vlst (List.map js s.2.1)),.dat (vint s.2.2)])]) (t13,r16.2.L,r16.2.at_) H ⟨Z,Z,Z,Z,U⟩ ⟨Z,U⟩ (fun _ _=>Z) ?_ ?_)))))))
  ·rintro ⟨t18,c19,c20⟩ H
   replace H:z3o t18 c19 c20=some r:=H
   unfold z3o at H
   refine zb hN Z (za (yf Z Z) (zh (zg _ Z (fun h=>(z5f h).elim) (fun h => ?_))))
   refine yu (zb hN Z (qd Z (qe Z (zi ?_))))
   cases H
   exact ⟨U,⟨.inl Z,U⟩,Z⟩
  ·rintro k21 ⟨t18,c19,c20⟩ q22 h24 H hq22
   replace H:z3n k21 t18 c19 c20=some q22:=H
   unfold z3n at H
   refine zb hN Z (za (yf Z Z) (zh (zg _ Z (fun h => ?_) (fun h=>(z5g h24 h).elim))))
   exact zl (zh (ye (zm hN Z (za (ze (.ptr _ _) Z) (qd Z (bE H fun r25 h26 H=>zq (yn (y44 (ya.mk c19 c20) t18 [44,59,61,113,48,46,34,92,47,32] r25 h26) Z ⟨.inl Z,.inl Z,U⟩ Z) Z (qe Z (zm hN Z (za (wk Z Z (by omega)) (qd Z ⟨_,qb H,⟨Z,Z,Z,Z,U⟩,⟨Z,U⟩⟩))))))))))
theorem z84 (s1:ya) (types2:Bool) (r:((List Bs)×ya)) (H:Qi s1 types2=some r):Imp Tryz.prog 5 25 (qh s1) [zf types2] (zr [vlst (List.map yb r.1)]) (qh r.2):=by
 refine wm (us:=[vlst (List.map yb r.1)]) (cs':=(qh r.2)) (by kernel_rfl) Tryz.func5 Z Z Z Z fun X bl hN => ?_
 unfold Qi at H
 refine zb hN Z (qe Z (zb hN Z (qe Z (zh (zb hN Z (za (ze (.ptr _ _) Z) (bE H fun r3 h4 H=>zq (yn (z83 s1 0 4 r3 h4) Z ⟨.inl Z,.inl Z,U⟩ Z) Z (qd Z (ye (Zy 5 1 9 1 Z Z Z (gE H fun h10 H=>z57 (fun (k8:Nat) (s:(List Int)×Int×(List Bs))=>[(0,.ptr 0 0),(1,.dat (zf types2)),(5,.row 1 s.2.2.length),(7,.dat (vint r3.1)),(8,.dat (vint (k8:Int)))]) (fun (k8:Nat) (s:(List Int)×Int×(List Bs))=>[(0,.box (some bl) 25 [.dat (vlst (List.map js s.1)),.dat (vint s.2.1)]),(1,.row 9 1 (List.map yb s.2.2))]) (r3.2.L,r3.2.at_,[]) H ⟨Z,Z,Z,Z,Z,U⟩ ⟨Z,Z,U⟩ (fun _ _=>Z) ?_ ?_)))))))))))
 ·rintro ⟨c5,c6,l7⟩ H
  replace H:z3m c5 c6 l7=some r:=H
  unfold z3m at H
  refine zb hN Z (za (yf Z Z) (zh (zg _ Z (fun h=>(z5f h).elim) (fun h => ?_))))
  refine yu (zw (ι:=(List Bs)×(List Int)×Int) (fun i=>[(5,.row 1 i.1.length)]) (fun i=>[(0,.box (some bl) 25 [.dat (vlst (List.map js i.2.1)),.dat (vint i.2.2)]),(1,.row 9 1 (List.map yb i.1))]) (fun i=>Wi i.1 i.2.1 i.2.2=some r) (fun i=>Z) ?_ ?_)
  ·skip
   refine zb hN Z (za (ze (.ptr _ _) Z) (bE H fun r11 h12 H=>zq (yn (z85 (ya.mk c5 c6) 12 r11 h12) Z ⟨.inl Z,U⟩ Z) Z (zg _ Z (fun h13 => ?_) (fun h13 => ?_))))
   ·refine tE h13 H fun H=>zm hN Z (za (ze (.row _ _) Z) (za (ze (.ptr _ _) Z) (za (ym (u':=vlst (List.map yb [[],[97],[97,47,98],[42],[42,47,42],[97,32,98]])) (wa [[_],[_],[_],[_],[_],[_]] wi ⟨Z,.inl ⟨_,Z,Z,Z⟩,Z,Z,.inl ⟨_,Z,Z,Z⟩,Z,Z,.inl ⟨_,Z,Z,Z⟩,Z,Z,.inl ⟨_,Z,Z,Z⟩,Z,Z,.inl ⟨_,Z,Z,Z⟩,Z,Z,.inl ⟨_,Z,Z,Z⟩,Z,U⟩ Z Z) Z) (bE H fun r14 h15 H=>zq (yn (Qn r11.2 ([[],[97],[97,47,98],[42],[42,47,42],[97,32,98]]) r14 h15) Z ⟨.inl Z,U⟩ Z) Z (za (ym (u':=vlst (List.map yb [r14.1])) (wa [[_]] wi ⟨Z,.inl ⟨_,Z,Z,Z⟩,Z,U⟩ Z Z) Z) (gE H fun h16 H=>zq (vo wi (fun _=>Z) Z Z Z ⟨by simp,by first | (simp; done) | simpa using h16⟩ Z) Z ?_))))))
    exact za (wu (.row _ _) Z) ⟨((l7++[r14.1]),r14.2.L,r14.2.at_),H,⟨Z,U⟩,⟨Z,Z,U⟩⟩
   ·exact fE h13 H fun H=>zl ⟨(l7,r11.2.L,r11.2.at_),H,⟨Z,U⟩,⟨Z,Z,U⟩⟩
  ·rintro ⟨out17,c18,c19⟩ H
   replace H:Wi out17 c18 c19=some r:=H
   unfold Wi at H
   refine zb hN Z (za (ze (.row _ _) Z) (za (wu (.row _ _) Z) (zi ?_)))
   cases H
   exact ⟨U,⟨y02 Z Z,U⟩,Z⟩
 ·rintro k8 ⟨c5,c6,l7⟩ q9 h20 H hq9
  replace H:z3l types2 k8 c5 c6 l7=some q9:=H
  unfold z3l at H
  refine zb hN Z (za (yf Z Z) (zh (zg _ Z (fun h => ?_) (fun h=>(z5g h20 h).elim))))
  refine zl (zw (ι:=(List Bs)×(List Int)×Int) (fun i=>[(0,.ptr 0 0),(1,.dat (zf types2)),(5,.row 1 i.1.length),(7,.dat (vint r3.1)),(8,.dat (vint (k8:Int)))]) (fun i=>[(0,.box (some bl) 25 [.dat (vlst (List.map js i.2.1)),.dat (vint i.2.2)]),(1,.row 9 1 (List.map yb i.1))]) (fun i=>Wh i.1 i.2.1 i.2.2=some q9) (fun i=>Z) ?_ ?_)
  ·skip
   refine ye (zb hN Z (qd Z (zg _ Z (fun h21 => ?_) (fun h21 => ?_))))
   ·refine tE h21 H fun H=>zm hN Z (za (ze (.row _ _) Z) (za (ze (.ptr _ _) Z) (za (ym (u':=vlst (List.map yb [[116,101,120,116,47,104,116,109,108],[116,101,120,116,47,112,108,97,105,110],[105,109,97,103,101,47,112,110,103],[84,69,88,84,47,72,84,77,76]])) (wa [[_],[_],[_],[_]] wi ⟨Z,.inl ⟨_,Z,Z,Z⟩,Z,Z,.inl ⟨_,Z,Z,Z⟩,Z,Z,.inl ⟨_,Z,Z,Z⟩,Z,Z,.inl ⟨_,Z,Z,Z⟩,Z,U⟩ Z Z) Z) (bE H fun r22 h23 H=>zq (yn (Qn (ya.mk c5 c6) ([[116,101,120,116,47,104,116,109,108],[116,101,120,116,47,112,108,97,105,110],[105,109,97,103,101,47,112,110,103],[84,69,88,84,47,72,84,77,76]]) r22 h23) Z ⟨.inl Z,U⟩ Z) Z (za (ym (u':=vlst (List.map yb [r22.1])) (wa [[_]] wi ⟨Z,.inl ⟨_,Z,Z,Z⟩,Z,U⟩ Z Z) Z) (gE H fun h24 H=>zq (vo wi (fun _=>Z) Z Z Z ⟨by simp,by first | (simp; done) | simpa using h24⟩ Z) Z ?_))))))
    exact za (wu (.row _ _) Z) ⟨((l7++[r22.1]),r22.2.L,r22.2.at_),H,⟨Z,Z,Z,Z,Z,U⟩,⟨Z,Z,U⟩⟩
   ·refine fE h21 H fun H=>zm hN Z (za (ze (.row _ _) Z) (za (ze (.ptr _ _) Z) (za (ym (u':=vlst (List.map yb [[100,101],[101,110],[97],[68,69],[101]])) (wa [[_],[_],[_],[_],[_]] wi ⟨Z,.inl ⟨_,Z,Z,Z⟩,Z,Z,.inl ⟨_,Z,Z,Z⟩,Z,Z,.inl ⟨_,Z,Z,Z⟩,Z,Z,.inl ⟨_,Z,Z,Z⟩,Z,Z,.inl ⟨_,Z,Z,Z⟩,Z,U⟩ Z Z) Z) (bE H fun r25 h26 H=>zq (yn (Qn (ya.mk c5 c6) ([[100,101],[101,110],[97],[68,69],[101]]) r25 h26) Z ⟨.inl Z,U⟩ Z) Z (za (ym (u':=vlst (List.map yb [r25.1])) (wa [[_]] wi ⟨Z,.inl ⟨_,Z,Z,Z⟩,Z,U⟩ Z Z) Z) (gE H fun h27 H=>zq (vo wi (fun _=>Z) Z Z Z ⟨by simp,by first | (simp; done) | simpa using h27⟩ Z) Z ?_))))))
    exact za (wu (.row _ _) Z) ⟨((l7++[r25.1]),r25.2.L,r25.2.at_),H,⟨Z,Z,Z,Z,Z,U⟩,⟨Z,Z,U⟩⟩
  ·rintro ⟨out28,c29,c30⟩ H
   replace H:Wh out28 c29 c30=some q9:=H
   unfold Wh at H
   exact zm hN Z (za (wk Z Z (by omega)) (qd Z ⟨_,qb H,⟨Z,Z,Z,Z,Z,U⟩,⟨Z,Z,U⟩⟩))
theorem z8v (s1:Bs) (low2:Int) (high3:Int) (r:(Bool)) (H:Qe s1 low2 high3=some r):Fn Tryz.prog 69 [vstr s1,vval (.int .u8 low2),vval (.int .u8 high3)] (zr [zf r]):=by
 refine ⟨by kernel_rfl,yh (us:=[zf r]) Tryz.func69 Z Z Z Z fun X hN => ?_⟩
 unfold Qe at H
 refine zb hN Z (qe Z (zh (zb hN Z (qd Z (za (yq tyU9 Z) (qd Z (ye (gE H fun h6 H=>ve (fun (k4:Nat) (s:Unit)=>[(0,.dat (vstr s1)),(1,.dat (vval (.int .u8 low2))),(2,.dat (vval (.int .u8 high3))),(9,.dat (vint (s1.length:Int))),(10,.dat (vint (k4:Int)))]) (fun (k4:Nat) (s:Unit)=>[]) () H ⟨Z,Z,Z,Z,Z,U⟩ U (fun _ _=>Z) ?_ ?_))))))))
 ·rintro ⟨⟩ H
  replace H:z2e=some r:=H
  unfold z2e at H
  refine zb hN Z (za (yf Z Z) (zh (zg _ Z (fun h=>(lt_t h).elim) (fun h => ?_))))
  refine yu (zb hN Z (qe Z (zi ?_)))
  cases H
  exact ⟨U,.inl Z,U⟩
 ·rintro k4 x7 ⟨⟩ q5 h8 h9 H hq5
  replace H:z2d low2 high3 k4 x7=some q5:=H
  unfold z2d at H
  refine zb hN Z (za (yf Z Z) (zh (zg _ Z (fun h => ?_) (fun h=>(lt_f h8 h).elim))))
  refine zl (zh (ye (zb hN Z (qd Z (qe Z (zw (ι:=Bool) (fun i=>[(0,.dat (vstr s1)),(1,.dat (vval (.int .u8 low2))),(2,.dat (vval (.int .u8 high3))),(9,.dat (vint (s1.length:Int))),(10,.dat (vint (k4:Int))),(24,.dat (zf i))]) (fun i=>[]) (fun i=>Yq i=some q5) (fun i=>Z) ?_ ?_))))))
  ·skip
   refine zm hN Z (qd Z (qd Z (za (yv tyU9 Z Z h9) (qd Z (za (yf Z Z) (qd Z (zz (j:=5) Z Z (fun h10 => ?_) (fun h10 => ?_) Z)))))))
   ·exact u3 h10 H fun h11 H=>zd Z Z h10 (ze (.dat _) Z) (zd Z Z h10 (ze (.dat _) Z) (zd Z Z h10 (yv tyU9 Z Z h9) (zd Z Z h10 (ze (.dat _) Z) (zd Z Z h10 (qs Z Z) (za (zo Z (bFF h11) Z) ⟨decide (high3 < (x7.toNat:Int)),H,⟨Z,Z,Z,Z,Z,Z,U⟩,U⟩)))))
   ·exact u4 h10 H fun h12 H=>zc Z Z h10 (zc Z Z h10 (zc Z Z h10 (zc Z Z h10 (zc Z Z h10 (za (zu Z (bTT h12) Z) ⟨true,H,⟨Z,Z,Z,Z,Z,Z,U⟩,U⟩)))))
  ·rintro v13 H
   replace H:Yq v13=some q5:=H
   unfold Yq at H
   refine zg _ Z (fun h14 => ?_) (fun h14 => ?_)
   ·refine tE h14 H fun H=>zb hN Z (qe Z (zi ?_))
    replace H:=retl H hq5
    cases H
    exact ⟨U,.inl Z,U⟩
   ·exact fE h14 H fun H=>zl (zm hN Z (za (wk Z Z (by omega)) (qd Z ⟨_,qb H,⟨Z,Z,Z,Z,Z,U⟩,U⟩)))
theorem y3t (s1:Bs) (c2:Int) (r:(Bs)) (H:ua s1 c2=some r):Fn Tryz.prog 88 [vstr s1,vval (.int .u8 c2)] (zr [vstr r]):=by
 refine ⟨by kernel_rfl,yh (us:=[vstr r]) Tryz.func88 Z Z Z Z fun X hN => ?_⟩
 unfold ua at H
 refine zb hN Z (qe Z (zw (ι:=Bs) (fun i=>[(0,.dat (vstr i))]) (fun i=>[]) (fun i=>Wy i=some r) (fun i=>Z) ?_ ?_))
 ·skip
  refine ye (jk (fun (s:Bs)=>[(0,.dat (vstr s)),(1,.dat (vval (.int .u8 c2)))]) (fun (s:Bs)=>[]) s1 H ⟨Z,Z,U⟩ U (fun _=>Z) ?_)
  rintro s3 q4 H hq4
  replace H:Wx c2 s3=some q4:=H
  unfold Wx at H
  refine zh (zw (ι:=Bool) (fun i=>[(0,.dat (vstr s3)),(1,.dat (vval (.int .u8 c2))),(16,.dat (zf i))]) (fun i=>[]) (fun i=>uy s3 i=some q4) (fun i=>Z) ?_ ?_)
  ·skip
   refine zm hN Z (qd Z (za (yq tyU9 Z) (za (qs Z Z) (qd Z (zz (j:=3) Z Z (fun h5 => ?_) (fun h5 => ?_) Z)))))
   ·exact u1 h5 H fun h6 H=>zd Z Z h5 (ze (.dat _) Z) (zd Z Z h5 (ze (.dat _) Z) (zd Z Z h5 (yq tyU9 Z) (zd Z Z h5 (yo _ Z Z (.inr (.inl ⟨Z,Z⟩))) (bE H fun x7 h8 H=>zd Z Z h5 (wc tyU9 Z Z h8) (zd Z Z h5 (ze (.dat _) Z) (zd Z Z h5 (yl Z Z) (za (zu Z (bTT h6) Z) ⟨decide ((x7.toNat:Int)=c2),H,⟨Z,Z,Z,U⟩,U⟩)))))))
   ·exact u2 h5 H fun h9 H=>zc Z Z h5 (zc Z Z h5 (zc Z Z h5 (zc Z Z h5 (zc Z Z h5 (zc Z Z h5 (zc Z Z h5 (za (zo Z (bFF h9) Z) ⟨false,H,⟨Z,Z,Z,U⟩,U⟩)))))))
  ·rintro v10 H
   replace H:uy s3 v10=some q4:=H
   unfold uy at H
   refine zg _ Z (fun h11 => ?_) (fun h11 => ?_)
   ·exact tE h11 H fun H=>zl (ye (zm hN Z (qd Z (qd Z (za (yq tyU9 Z) (za (yo _ Z Z (.inr (.inl ⟨Z,Z⟩))) (bE H fun l12 h13 H=>za (qc tyU9 Z Z Z h13) (qe Z ⟨_,qb H,⟨Z,Z,U⟩,U⟩))))))))
   ·refine fE h11 H fun H=>yu ?_
    replace H:=outl H hq4
    exact ⟨s3,H,⟨Z,U⟩,U⟩
 ·rintro s14 H
  replace H:Wy s14=some r:=H
  unfold Wy at H
  refine zb hN Z (qd Z (qe Z (zi ?_)))
  cases H
  exact ⟨U,.inl Z,U⟩
theorem z8o (s1:Bs) (c2:Int) (r:(Bs)) (H:ub s1 c2=some r):Fn Tryz.prog 87 [vstr s1,vval (.int .u8 c2)] (zr [vstr r]):=by
 refine ⟨by kernel_rfl,yh (us:=[vstr r]) Tryz.func87 Z Z Z Z fun X hN => ?_⟩
 unfold ub at H
 refine zb hN Z (qe Z (zw (ι:=Bs) (fun i=>[(0,.dat (vstr i))]) (fun i=>[]) (fun i=>z0a i=some r) (fun i=>Z) ?_ ?_))
 ·skip
  refine ye (jk (fun (s:Bs)=>[(0,.dat (vstr s)),(1,.dat (vval (.int .u8 c2)))]) (fun (s:Bs)=>[]) s1 H ⟨Z,Z,U⟩ U (fun _=>Z) ?_)
  rintro s3 q4 H hq4
  replace H:Wz c2 s3=some q4:=H
  unfold Wz at H
  refine zh (zw (ι:=Bool) (fun i=>[(0,.dat (vstr s3)),(1,.dat (vval (.int .u8 c2))),(13,.dat (zf i))]) (fun i=>[]) (fun i=>uz s3 i=some q4) (fun i=>Z) ?_ ?_)
  ·skip
   refine zm hN Z (qd Z (za (yq tyU9 Z) (za (qs Z Z) (qd Z (zz (j:=3) Z Z (fun h5 => ?_) (fun h5 => ?_) Z)))))
   ·exact u1 h5 H fun h6 H=>zd Z Z h5 (ze (.dat _) Z) (bE H fun x7 h8 H=>zd Z Z h5 (yv tyU9 Z Z h8) (zd Z Z h5 (ze (.dat _) Z) (zd Z Z h5 (yl Z Z) (za (zu Z (bTT h6) Z) ⟨decide ((x7.toNat:Int)=c2),H,⟨Z,Z,Z,U⟩,U⟩))))
   ·exact u2 h5 H fun h9 H=>zc Z Z h5 (zc Z Z h5 (zc Z Z h5 (zc Z Z h5 (za (zo Z (bFF h9) Z) ⟨false,H,⟨Z,Z,Z,U⟩,U⟩))))
  ·rintro v10 H
   replace H:uz s3 v10=some q4:=H
   unfold uz at H
   refine zg _ Z (fun h11 => ?_) (fun h11 => ?_)
   ·exact tE h11 H fun H=>zl (ye (zm hN Z (qd Z (bE H fun l12 h13 H=>za (qc tyU9 Z Z Z h13) (qe Z ⟨_,qb H,⟨Z,Z,U⟩,U⟩)))))
   ·refine fE h11 H fun H=>yu ?_
    replace H:=outl H hq4
    exact ⟨s3,H,⟨Z,U⟩,U⟩
 ·rintro s14 H
  replace H:z0a s14=some r:=H
  unfold z0a at H
  refine zb hN Z (qd Z (qe Z (zi ?_)))
  cases H
  exact ⟨U,.inl Z,U⟩
theorem z8p (s1:Bs) (cutset2:Bs) (r:(Bs)) (H:Yz s1 cutset2=some r):Fn Tryz.prog 58 [vstr s1,vstr cutset2] (zr [vstr r]):=by
 refine ⟨by kernel_rfl,yh (us:=[vstr r]) Tryz.func58 Z Z Z Z fun X hN => ?_⟩
 unfold Yz at H
 refine zb hN Z (qe Z (zh (zb hN Z (qd Z (za (ql Z Z) (qd Z (yr Z Z (fun hc=>ze (.dat _) Z) (yr Z Z (fun hc=>ql (cnd (c:=(!(decide (s1=[])))) hc) Z) (za (vc Z Z (fun hb=>(cnd (c:=(!(decide (s1=[])))) (notI hb)))) (zg _ Z (fun h3 => ?_) (fun h3 => ?_)))))))))))
 ·refine tE h3 H fun H=>zb hN Z (qd Z (qe Z (zi ?_)))
  cases H
  exact ⟨U,.inl Z,U⟩
 ·refine fE h3 H fun H=>zl (zh (zw (ι:=Bool) (fun i=>[(0,.dat (vstr s1)),(1,.dat (vstr cutset2)),(21,.dat (zf i))]) (fun i=>[]) (fun i=>Yg s1 cutset2 i=some r) (fun i=>Z) ?_ ?_))
  ·skip
   refine zm hN Z (qd Z (za (yq tyU9 Z) (za (yl Z Z) (qd Z (zz (j:=3) Z Z (fun h4 => ?_) (fun h4 => ?_) Z)))))
   ·exact u1 h4 H fun h5 H=>zd Z Z h4 (ze (.dat _) Z) (bE H fun x6 h7 H=>zd Z Z h4 (yv tyU9 Z Z h7) (zd Z Z h4 (yf Z Z) (za (zu Z (bTT h5) Z) ⟨decide ((x6.toNat:Int) < 128),H,⟨Z,Z,Z,U⟩,U⟩)))
   ·exact u2 h4 H fun h8 H=>zc Z Z h4 (zc Z Z h4 (zc Z Z h4 (za (zo Z (bFF h8) Z) ⟨false,H,⟨Z,Z,Z,U⟩,U⟩)))
  ·rintro v9 H
   replace H:Yg s1 cutset2 v9=some r:=H
   unfold Yg at H
   refine zg _ Z (fun h10 => ?_) (fun h10 => ?_)
   ·refine tE h10 H fun H=>zh (wh mixed hN Z Z (qd Z (qd Z (bE H fun x11 h12 H=>za (yv tyU9 Z Z h12) (bE H fun r13 h14 H=>za (zn (y3t s1 (x11.toNat:Int) r13 h14) ⟨.inl Z,.inl Z,U⟩) (qd Z (za (yv tyU9 Z Z h12) (bE H fun r15 h16 H=>za (zn (z8o r13 (x11.toNat:Int) r15 h16) ⟨.inl Z,.inl Z,U⟩) (qe Z ⟨Z,?_⟩)))))))))
    refine zi ?_
    cases H
    exact ⟨U,.inl Z,U⟩
   ·refine fE h10 H fun H=>?_
    cases H
theorem y4l (s1:Bs) (r:(Bool)) (H:Qf s1=some r):Fn Tryz.prog 48 [vstr s1] (zr [zf r]):=by
 refine ⟨by kernel_rfl,yh (us:=[zf r]) Tryz.func48 Z Z Z Z fun X hN => ?_⟩
 unfold Qf at H
 refine zb hN Z (qe Z (zw (ι:=Bool) (fun i=>[(2,.dat (zf i))]) (fun i=>[]) (fun i=>xp i=some r) (fun i=>Z) ?_ ?_))
 ·skip
  refine zm hN Z (qd Z (za (yq tyU9 Z) (za (qr Z Z) (qd Z (zz (j:=3) Z Z (fun h2 => ?_) (fun h2 => ?_) Z)))))
  ·refine u1 h2 H fun h3 H=>zd Z Z h2 (ze (.dat _) Z) (bE H fun r4 h5 H=>zd Z Z h2 (zn (z8v s1 32 126 r4 h5) ⟨.inl Z,.inl Z,.inl Z,U⟩) (za (zu Z (bTT h3) Z) (qd Z (zz (j:=7) Z Z (fun h6 => ?_) (fun h6 => ?_) Z))))
   ·exact u1 h6 H fun h7 H=>zd Z Z h6 (ze (.dat _) Z) (bE H fun r8 h9 H=>zd Z Z h6 (zn (z8p s1 [32] r8 h9) ⟨.inl Z,.inl Z,U⟩) (zd Z Z h6 (ze (.dat _) Z) (zd Z Z h6 (ql Z Z) (za (zu Z (bTT h7) Z) (qe Z ⟨decide (r8=s1),H,⟨Z,U⟩,U⟩)))))
   ·exact u2 h6 H fun h10 H=>zc Z Z h6 (zc Z Z h6 (zc Z Z h6 (zc Z Z h6 (za (zo Z (bFF h10) Z) (qe Z ⟨false,H,⟨Z,U⟩,U⟩)))))
  ·exact u2 h2 H fun h11 H=>zc Z Z h2 (zc Z Z h2 (za (zo Z (bFF h11) Z) (qd Z (zc Z Z Z (zc Z Z Z (zc Z Z Z (zc Z Z Z (za (zo Z Z Z) (qe Z ⟨false,H,⟨Z,U⟩,U⟩)))))))))
 ·rintro v12 H
  replace H:xp v12=some r:=H
  unfold xp at H
  refine zi ?_
  cases H
  exact ⟨U,.inl Z,U⟩
theorem z05 (s1:zk) (r:(zk)) (H:ue s1=some r):Imp Tryz.prog 49 81 (wy s1) [] (zr []) (wy r):=by
 refine wm (us:=[]) (cs':=(wy r)) (by kernel_rfl) Tryz.func49 Z Z Z Z fun X bl hN => ?_
 unfold ue at H
 refine ye (jk (fun (s:Int)=>[(0,.ptr 0 0)]) (fun (s:Int)=>[(0,.box (some bl) 81 [.dat (vstr s1.s_),.dat (vint s),.dat (zf s1.bad_)])]) s1.i_ H ⟨Z,U⟩ ⟨Z,U⟩ (fun _=>Z) ?_)
 rintro c2 q3 H hq3
 replace H:jo s1 c2=some q3:=H
 unfold jo at H
 refine zh (zw (ι:=Bool) (fun i=>[(0,.ptr 0 0),(23,.dat (zf i))]) (fun i=>[(0,.box (some bl) 81 [.dat (vstr s1.s_),.dat (vint c2),.dat (zf s1.bad_)])]) (fun i=>xh s1 c2 i=some q3) (fun i=>Z) ?_ ?_)
 ·skip
  refine wh mixed hN Z Z (za (ze (.ptr _ _) Z) (za (zv Z) (za (zp qk Z) (yc (zy tyS3 Z Z) Z (za (ze (.ptr _ _) Z) (za (zv Z) (za (zp vn Z) (yc (zy tyS9 Z Z) Z (za (yq tyU9 Z) (za (yf Z Z) (qd Z (zz (j:=10) Z Z (fun h4 => ?_) (fun h4 => ?_) Z))))))))))))
  ·refine u1 h4 H fun h5 H=>zd Z Z h4 (ze (.ptr _ _) Z) (zd Z Z h4 (zv Z) (zd Z Z h4 (zp vn Z) (wo Z Z h4 (zy tyS9 Z Z) Z (zd Z Z h4 (ze (.ptr _ _) Z) (zd Z Z h4 (zv Z) (zd Z Z h4 (zp qk Z) (wo Z Z h4 (zy tyS3 Z Z) Z (bE H fun x6 h7 H=>zd Z Z h4 (wc tyU9 Z Z h7) (zd Z Z h4 (yl Z Z) (za (zu Z (bTT h5) Z) ⟨Z,?_⟩))))))))))
   exact ⟨decide ((x6.toNat:Int)=32),H,⟨Z,Z,U⟩,⟨Z,U⟩⟩
  ·refine u2 h4 H fun h8 H=>zc Z Z h4 (zc Z Z h4 (zc Z Z h4 (zc Z Z h4 (zc Z Z h4 (zc Z Z h4 (zc Z Z h4 (zc Z Z h4 (zc Z Z h4 (zc Z Z h4 (za (zo Z (bFF h8) Z) ⟨Z,?_⟩))))))))))
   exact ⟨false,H,⟨Z,Z,U⟩,⟨Z,U⟩⟩
 ·rintro v9 H
  replace H:xh s1 c2 v9=some q3:=H
  unfold xh at H
  refine zg _ Z (fun h10 => ?_) (fun h10 => ?_)
  ·exact tE h10 H fun H=>zl (ye (zm hN Z (za (ze (.ptr _ _) Z) (za (zv Z) (za (zp qk Z) (yc (zy tyS3 Z Z) Z (za (yo _ Z Z (.inl ⟨Z,Z⟩)) (za (zv Z) (za (zp qk Z) (zq (qg tyS3 Z Z Z Z) Z ⟨_,qb H,⟨Z,U⟩,⟨Z,U⟩⟩))))))))))
  ·refine fE h10 H fun H=>yu ?_
   replace H:=retl H hq3
   cases H
   exact ⟨U,U,Z⟩
theorem Qm (s1:zk) (c2:Int) (r:(Bool×zk)) (H:kb s1 c2=some r):Imp Tryz.prog 50 81 (wy s1) [vval (.int .u8 c2)] (zr [zf r.1]) (wy r.2):=by
 refine wm (us:=[zf r.1]) (cs':=(wy r.2)) (by kernel_rfl) Tryz.func50 Z Z Z Z fun X bl hN => ?_
 unfold kb at H
 refine zb hN Z (qe Z (zh (zw (ι:=Bool) (fun i=>[(0,.ptr 0 0),(27,.dat (zf i))]) (fun i=>[(0,.box (some bl) 81 [.dat (vstr s1.s_),.dat (vint s1.i_),.dat (zf s1.bad_)])]) (fun i=>Yn s1 i=some r) (fun i=>Z) ?_ ?_)))
 ·skip
  refine wh mixed hN Z Z (za (ze (.ptr _ _) Z) (za (zv Z) (za (zp qk Z) (yc (zy tyS3 Z Z) Z (za (ze (.ptr _ _) Z) (za (zv Z) (za (zp vn Z) (yc (zy tyS9 Z Z) Z (za (yq tyU9 Z) (za (yf Z Z) (qd Z (zz (j:=10) Z Z (fun h3 => ?_) (fun h3 => ?_) Z))))))))))))
  ·refine u1 h3 H fun h4 H=>zd Z Z h3 (ze (.ptr _ _) Z) (zd Z Z h3 (zv Z) (zd Z Z h3 (zp vn Z) (wo Z Z h3 (zy tyS9 Z Z) Z (zd Z Z h3 (ze (.ptr _ _) Z) (zd Z Z h3 (zv Z) (zd Z Z h3 (zp qk Z) (wo Z Z h3 (zy tyS3 Z Z) Z (bE H fun x5 h6 H=>zd Z Z h3 (wc tyU9 Z Z h6) (zd Z Z h3 (ze (.dat _) Z) (zd Z Z h3 (yl Z Z) (za (zu Z (bTT h4) Z) ⟨Z,?_⟩)))))))))))
   exact ⟨decide ((x5.toNat:Int)=c2),H,⟨Z,Z,U⟩,⟨Z,U⟩⟩
  ·refine u2 h3 H fun h7 H=>zc Z Z h3 (zc Z Z h3 (zc Z Z h3 (zc Z Z h3 (zc Z Z h3 (zc Z Z h3 (zc Z Z h3 (zc Z Z h3 (zc Z Z h3 (zc Z Z h3 (zc Z Z h3 (za (zo Z (bFF h7) Z) ⟨Z,?_⟩)))))))))))
   exact ⟨false,H,⟨Z,Z,U⟩,⟨Z,U⟩⟩
 ·rintro v8 H
  replace H:Yn s1 v8=some r:=H
  unfold Yn at H
  refine zg _ Z (fun h9 => ?_) (fun h9 => ?_)
  ·refine tE h9 H fun H=>zb hN Z (za (ze (.ptr _ _) Z) (za (zv Z) (za (zp qk Z) (yc (zy tyS3 Z Z) Z (za (yo _ Z Z (.inl ⟨Z,Z⟩)) (za (zv Z) (za (zp qk Z) (zq (qg tyS3 Z Z Z Z) Z (zb hN Z (qe Z (zi ?_)))))))))))
   cases H
   exact ⟨U,⟨.inl Z,U⟩,Z⟩
  ·refine fE h9 H fun H=>zl (zb hN Z (qe Z (zi ?_)))
   cases H
   exact ⟨U,⟨.inl Z,U⟩,Z⟩
theorem z8w (c1:Int) (r:(Bool)) (H:z2p c1=some r):Fn Tryz.prog 108 [vval (.int .u8 c1)] (zr [zf r]):=by
 refine ⟨by kernel_rfl,yh (us:=[zf r]) Tryz.func108 Z Z Z Z fun X hN => ?_⟩
 unfold z2p at H
 refine zb hN Z (qe Z (zb hN Z (qd Z (za (wt Z Z) (qd Z (yp Z Z (fun hc=>ze (.dat _) Z) (yp Z Z (fun hc=>qr (cnd (c:=(decide (97≤c1))) hc) Z) (za (qp Z (fun hb=>(cnd (c:=(decide (97≤c1))) hb)) Z) (qd Z (yr Z Z (fun hc=>ze (.dat _) Z) (yr Z Z (fun hc=>wt (cnd (c:=(!((decide (97≤c1)) && (decide (c1≤122))))) hc) Z) (yr Z Z (fun hc=>ze (.dat _) (cnd (c:=(!((decide (97≤c1)) && (decide (c1≤122))))) hc)) (wv Z Z (fun hc=>ze (.dat _) Z) (wv Z Z (fun hc=>qr (cnd (c:=((!((decide (97≤c1)) && (decide (c1≤122)))) && (decide (65≤c1)))) hc) Z) (yr Z Z (fun hc=>qp (cnd (c:=(!((decide (97≤c1)) && (decide (c1≤122))))) hc) (fun hb=>(cnd (c:=((!((decide (97≤c1)) && (decide (c1≤122)))) && (decide (65≤c1)))) (andI hc hb))) Z) (za (vc Z Z (fun hb=>(cnd (c:=(!((decide (97≤c1)) && (decide (c1≤122))))) (notI hb)))) (qe Z (zi ?_))))))))))))))))))
 cases H
 exact ⟨U,.inl Z,U⟩
theorem z5k (c1:Int) (r:(Bool)) (H:z0p c1=some r):Fn Tryz.prog 109 [vval (.int .u8 c1)] (zr [zf r]):=by
 refine ⟨by kernel_rfl,yh (us:=[zf r]) Tryz.func109 Z Z Z Z fun X hN => ?_⟩
 unfold z0p at H
 refine zb hN Z (qe Z (zb hN Z (qd Z (za (wt Z Z) (qd Z (yp Z Z (fun hc=>ze (.dat _) Z) (yp Z Z (fun hc=>qr (cnd (c:=(decide (48≤c1))) hc) Z) (za (qp Z (fun hb=>(cnd (c:=(decide (48≤c1))) hb)) Z) (qe Z (zi ?_))))))))))
 cases H
 exact ⟨U,.inl Z,U⟩
theorem z5i (l:Bs) (c r:Int) (H:z0l l c=some r):Fn Tryz.prog 98 [vstr l,vval (.int .u8 c)] (zr [vint r]):=by
 cases H
 refine z9j (by kernel_rfl) fun M w vs h => ?_
 have h1:=vz (us:=[.string ⟨l.toArray⟩,.int .u8 c]) h
 subst h1
 refine (Tryz.strings_IndexByte ⟨l.toArray⟩ c w).mono ?_
 rintro e w' ⟨rfl,rfl⟩
 exact ⟨_,Z,Z,Kp.refl _ _⟩
theorem z8u (c1:Int) (r:(Bool)) (H:Qd c1=some r):Fn Tryz.prog 82 [vval (.int .u8 c1)] (zr [zf r]):=by
 refine ⟨by kernel_rfl,yh (us:=[zf r]) Tryz.func82 Z Z Z Z fun X hN => ?_⟩
 unfold Qd at H
 refine zb hN Z (qe Z (zw (ι:=Bool) (fun i=>[(2,.dat (zf i))]) (fun i=>[]) (fun i=>Yp i=some r) (fun i=>Z) ?_ ?_))
 ·skip
  refine zm hN Z (qd Z (bE H fun r2 h3 H=>za (zn (z8w c1 r2 h3) ⟨.inl Z,U⟩) (qd Z (zz (j:=2) Z Z (fun h4 => ?_) (fun h4 => ?_) Z))))
  ·refine u3 h4 H fun h5 H=>zd Z Z h4 (ze (.dat _) Z) (bE H fun r6 h7 H=>zd Z Z h4 (zn (z5k c1 r6 h7) ⟨.inl Z,U⟩) (za (zo Z (bFF h5) Z) (qd Z (zz (j:=6) Z Z (fun h8 => ?_) (fun h8 => ?_) Z))))
   ·exact u3 h8 H fun h9 H=>zd Z Z h8 (ze (.dat _) Z) (bE H fun r10 h11 H=>zd Z Z h8 (zn (z5i [33,35,36,37,38,39,42,43,45,46,94,95,96,124,126] c1 r10 h11) ⟨.inl Z,.inl Z,U⟩) (zd Z Z h8 (wt Z Z) (za (zo Z (bFF h9) Z) (qe Z ⟨decide (0≤r10),H,⟨Z,U⟩,U⟩))))
   ·exact u4 h8 H fun h12 H=>zc Z Z h8 (zc Z Z h8 (zc Z Z h8 (za (zu Z (bTT h12) Z) (qe Z ⟨true,H,⟨Z,U⟩,U⟩))))
  ·exact u4 h4 H fun h13 H=>zc Z Z h4 (zc Z Z h4 (za (zu Z (bTT h13) Z) (qd Z (zc Z Z Z (zc Z Z Z (zc Z Z Z (za (zu Z Z Z) (qe Z ⟨true,H,⟨Z,U⟩,U⟩))))))))
 ·rintro v14 H
  replace H:Yp v14=some r:=H
  unfold Yp at H
  refine zi ?_
  cases H
  exact ⟨U,.inl Z,U⟩
theorem z5l (s1:Bs) (r:(Bool)) (H:xz s1=some r):Fn Tryz.prog 53 [vstr s1] (zr [zf r]):=by
 refine ⟨by kernel_rfl,yh (us:=[zf r]) Tryz.func53 Z Z Z Z fun X hN => ?_⟩
 unfold xz at H
 refine zb hN Z (qe Z (zh (zb hN Z (qd Z (za (yq tyU9 Z) (qd Z (ye (gE H fun h4 H=>ve (fun (k2:Nat) (s:Unit)=>[(0,.dat (vstr s1)),(5,.dat (vint (s1.length:Int))),(6,.dat (vint (k2:Int)))]) (fun (k2:Nat) (s:Unit)=>[]) () H ⟨Z,Z,Z,U⟩ U (fun _ _=>Z) ?_ ?_))))))))
 ·rintro ⟨⟩ H
  replace H:z4y s1=some r:=H
  unfold z4y at H
  refine zb hN Z (za (yf Z Z) (zh (zg _ Z (fun h=>(lt_t h).elim) (fun h => ?_))))
  refine yu (zb hN Z (qd Z (za (jw Z Z) (qd Z (yp Z Z (fun hc=>ze (.dat _) Z) (yp Z Z (fun hc=>yq tyU9 (cnd (c:=(decide (s1≠[]))) hc)) (yp Z Z (fun hc=>qr (cnd (c:=(decide (s1≠[]))) hc) Z) (za (qp Z (fun hb=>(cnd (c:=(decide (s1≠[]))) hb)) Z) (qe Z (zi ?_))))))))))
  cases H
  exact ⟨U,.inl Z,U⟩
 ·rintro k2 x5 ⟨⟩ q3 h6 h7 H hq3
  replace H:z2i k2 x5=some q3:=H
  unfold z2i at H
  refine zb hN Z (za (yf Z Z) (zh (zg _ Z (fun h => ?_) (fun h=>(lt_f h6 h).elim))))
  refine zl (zh (ye (zb hN Z (qd Z (qe Z (zb hN Z (qd Z (qd Z (za (yv tyU9 Z Z h7) (bE H fun r8 h9 H=>za (zn (z8u (x5.toNat:Int) r8 h9) ⟨.inl Z,U⟩) (za (yy Z) (zg _ Z (fun h10 => ?_) (fun h10 => ?_)))))))))))))
  ·refine tE h10 H fun H=>zb hN Z (qe Z (zi ?_))
   replace H:=retl H hq3
   cases H
   exact ⟨U,.inl Z,U⟩
  ·exact fE h10 H fun H=>zl (zm hN Z (za (wk Z Z (by omega)) (qd Z ⟨_,qb H,⟨Z,Z,Z,U⟩,U⟩)))
theorem z29 (s1:zk) (r:(Bs×zk)) (H:xx s1=some r):Imp Tryz.prog 78 81 (wy s1) [] (zr [vstr r.1]) (wy r.2):=by
 refine wm (us:=[vstr r.1]) (cs':=(wy r.2)) (by kernel_rfl) Tryz.func78 Z Z Z Z fun X bl hN => ?_
 unfold xx at H
 refine zb hN Z (qe Z (zb hN Z (za (ze (.ptr _ _) Z) (za (zv Z) (za (zp qk Z) (yc (zy tyS3 Z Z) Z (qe Z (zw (ι:=Int) (fun i=>[(0,.ptr 0 0),(3,.dat (vint s1.i_))]) (fun i=>[(0,.box (some bl) 81 [.dat (vstr s1.s_),.dat (vint i),.dat (zf s1.bad_)])]) (fun i=>kv s1 i=some r) (fun i=>Z) ?_ ?_))))))))
 ·skip
  refine ye (jk (fun (s:Int)=>[(0,.ptr 0 0),(3,.dat (vint s1.i_))]) (fun (s:Int)=>[(0,.box (some bl) 81 [.dat (vstr s1.s_),.dat (vint s),.dat (zf s1.bad_)])]) s1.i_ H ⟨Z,Z,U⟩ ⟨Z,U⟩ (fun _=>Z) ?_)
  rintro c2 q3 H hq3
  replace H:jn s1 c2=some q3:=H
  unfold jn at H
  refine zh (zw (ι:=Bool) (fun i=>[(0,.ptr 0 0),(3,.dat (vint s1.i_)),(30,.dat (zf i))]) (fun i=>[(0,.box (some bl) 81 [.dat (vstr s1.s_),.dat (vint c2),.dat (zf s1.bad_)])]) (fun i=>xg s1 c2 i=some q3) (fun i=>Z) ?_ ?_)
  ·skip
   refine wh mixed hN Z Z (za (ze (.ptr _ _) Z) (za (zv Z) (za (zp qk Z) (yc (zy tyS3 Z Z) Z (za (ze (.ptr _ _) Z) (za (zv Z) (za (zp vn Z) (yc (zy tyS9 Z Z) Z (za (yq tyU9 Z) (za (yf Z Z) (qd Z (zz (j:=10) Z Z (fun h4 => ?_) (fun h4 => ?_) Z))))))))))))
   ·refine u1 h4 H fun h5 H=>zd Z Z h4 (ze (.ptr _ _) Z) (zd Z Z h4 (zv Z) (zd Z Z h4 (zp vn Z) (wo Z Z h4 (zy tyS9 Z Z) Z (zd Z Z h4 (ze (.ptr _ _) Z) (zd Z Z h4 (zv Z) (zd Z Z h4 (zp qk Z) (wo Z Z h4 (zy tyS3 Z Z) Z (bE H fun x6 h7 H=>zd Z Z h4 (wc tyU9 Z Z h7) (bE H fun r8 h9 H=>zd Z Z h4 (zn (z8u (x6.toNat:Int) r8 h9) ⟨.inl Z,U⟩) (za (zu Z (bTT h5) Z) ⟨Z,?_⟩))))))))))
    exact ⟨r8,H,⟨Z,Z,Z,U⟩,⟨Z,U⟩⟩
   ·refine u2 h4 H fun h10 H=>zc Z Z h4 (zc Z Z h4 (zc Z Z h4 (zc Z Z h4 (zc Z Z h4 (zc Z Z h4 (zc Z Z h4 (zc Z Z h4 (zc Z Z h4 (zc Z Z h4 (za (zo Z (bFF h10) Z) ⟨Z,?_⟩))))))))))
    exact ⟨false,H,⟨Z,Z,Z,U⟩,⟨Z,U⟩⟩
  ·rintro v11 H
   replace H:xg s1 c2 v11=some q3:=H
   unfold xg at H
   refine zg _ Z (fun h12 => ?_) (fun h12 => ?_)
   ·exact tE h12 H fun H=>zl (ye (zm hN Z (za (ze (.ptr _ _) Z) (za (zv Z) (za (zp qk Z) (yc (zy tyS3 Z Z) Z (za (yo _ Z Z (.inl ⟨Z,Z⟩)) (za (zv Z) (za (zp qk Z) (zq (qg tyS3 Z Z Z Z) Z ⟨_,qb H,⟨Z,Z,U⟩,⟨Z,U⟩⟩))))))))))
   ·refine fE h12 H fun H=>yu ?_
    replace H:=outl H hq3
    exact ⟨c2,H,⟨Z,Z,U⟩,⟨Z,U⟩⟩
 ·rintro c13 H
  replace H:kv s1 c13=some r:=H
  unfold kv at H
  refine zh (wh mixed hN Z Z (za (ze (.ptr _ _) Z) (za (zv Z) (za (zp vn Z) (yc (zy tyS9 Z Z) Z (qd Z (za (ze (.ptr _ _) Z) (za (zv Z) (za (zp qk Z) (yc (zy tyS3 Z Z) Z (bE H fun l14 h15 H=>za (qc tyU9 Z Z Z h15) (qe Z ⟨Z,?_⟩))))))))))))
  refine zw (ι:=Bool) (fun i=>[(4,.dat (vstr l14))]) (fun i=>[(0,.box (some bl) 81 [.dat (vstr s1.s_),.dat (vint c13),.dat (zf i)])]) (fun i=>Yl s1 c13 l14 i=some r) (fun i=>Z) ?_ ?_
  ·skip
   refine zm hN Z (za (ze (.ptr _ _) Z) (za (ze (.ptr _ _) Z) (za (zv Z) (za (zp wq Z) (yc (zy tyS4 Z Z) Z (qd Z (zz (j:=5) Z Z (fun h16 => ?_) (fun h16 => ?_) Z)))))))
   ·exact u3 h16 H fun h17 H=>zd Z Z h16 (ze (.dat _) Z) (bE H fun r18 h19 H=>zd Z Z h16 (zn (z5l l14 r18 h19) ⟨.inl Z,U⟩) (zd Z Z h16 (yy Z) (za (zo Z (bFF h17) Z) (za (zv Z) (za (zp wq Z) (zq (qg tyS4 Z Z Z Z) Z ⟨!r18,H,⟨Z,U⟩,⟨Z,U⟩⟩))))))
   ·exact u4 h16 H fun h20 H=>zc Z Z h16 (zc Z Z h16 (zc Z Z h16 (za (zu Z (bTT h20) Z) (za (zv Z) (za (zp wq Z) (zq (qg tyS4 Z Z Z Z) Z ⟨true,H,⟨Z,U⟩,⟨Z,U⟩⟩))))))
  ·rintro c21 H
   replace H:Yl s1 c13 l14 c21=some r:=H
   unfold Yl at H
   refine zb hN Z (qd Z (qe Z (zi ?_)))
   cases H
   exact ⟨U,⟨.inl Z,U⟩,Z⟩
theorem y39 (s1:zk) (r:(Bs×zk)) (H:z2n s1=some r):Imp Tryz.prog 79 81 (wy s1) [] (zr [vstr r.1]) (wy r.2):=by
 refine wm (us:=[vstr r.1]) (cs':=(wy r.2)) (by kernel_rfl) Tryz.func79 Z Z Z Z fun X bl hN => ?_
 unfold z2n at H
 refine zb hN Z (qe Z (zb hN Z (qe Z (zw (ι:=Int) (fun i=>[(0,.ptr 0 0)]) (fun i=>[(0,.box (some bl) 81 [.dat (vstr s1.s_),.dat (vint i),.dat (zf s1.bad_)])]) (fun i=>kx s1 i=some r) (fun i=>Z) ?_ ?_))))
 ·skip
  refine ye (Zy 3 1 5 1 Z Z Z (jk (fun (s:Int×(List Int))=>[(0,.ptr 0 0),(3,.row 1 s.2.length)]) (fun (s:Int×(List Int))=>[(0,.box (some bl) 81 [.dat (vstr s1.s_),.dat (vint s.1),.dat (zf s1.bad_)]),(1,.row 5 1 (List.map yw s.2))]) (s1.i_,[]) H ⟨Z,Z,U⟩ ⟨Z,Z,U⟩ (fun _=>Z) ?_))
  rintro ⟨c2,l3⟩ q4 H hq4
  replace H:wl s1 c2 l3=some q4:=H
  unfold wl at H
  refine zh (zh (wh mixed hN Z Z (za (ze (.ptr _ _) Z) (za (zv Z) (za (zp qk Z) (yc (zy tyS3 Z Z) Z (za (ze (.ptr _ _) Z) (za (zv Z) (za (zp vn Z) (yc (zy tyS9 Z Z) Z (za (yq tyU9 Z) (za (yf Z Z) ⟨Z,?_⟩))))))))))))
  refine zg _ Z (fun h5 => ?_) (fun h5 => ?_)
  ·refine tE h5 H fun H=>zl (ye (zh (wh mixed hN Z Z (za (ze (.ptr _ _) Z) (za (zv Z) (za (zp vn Z) (yc (zy tyS9 Z Z) Z (za (ze (.ptr _ _) Z) (za (zv Z) (za (zp qk Z) (yc (zy tyS3 Z Z) Z (bE H fun x6 h7 H=>za (wc tyU9 Z Z h7) (qe Z ⟨Z,?_⟩)))))))))))))
   refine zb hN Z (za (ze (.ptr _ _) Z) (za (zv Z) (za (zp qk Z) (yc (zy tyS3 Z Z) Z (za (yo _ Z Z (.inl ⟨Z,Z⟩)) (za (zv Z) (za (zp qk Z) (zq (qg tyS3 Z Z Z Z) Z (zh (zb hN Z (qd Z (za (yl Z Z) (zg _ Z (fun h8 => ?_) (fun h8 => ?_))))))))))))))
   ·refine tE h8 H fun H=>zh (Ye 3 1 Z Z Z (zm hN Z (qd Z (za (z4g (C:=yw) ur tyU5 tyU9 (fun _=>Z) Z) (qe Z (zi ?_))))))
    replace H:=retl H hq4
    cases H
    exact ⟨U,⟨.inl Z,U⟩,Z⟩
   ·refine fE h8 H fun H=>zl (zw (ι:=Int×Int) (fun i=>[(0,.ptr 0 0),(3,.row 1 l3.length),(4,.dat (vval (.int .u8 i.1)))]) (fun i=>[(0,.box (some bl) 81 [.dat (vstr s1.s_),.dat (vint i.2),.dat (zf s1.bad_)]),(1,.row 5 1 (List.map yw l3))]) (fun i=>xi l3 i.1 i.2=some q4) (fun i=>Z) ?_ ?_)
    ·skip
     refine zb hN Z (qd Z (za (yl Z Z) (zg _ Z (fun h9 => ?_) (fun h9 => ?_))))
     ·refine tE h9 H fun H=>zh (zw (ι:=Bool) (fun i=>[(0,.ptr 0 0),(3,.row 1 l3.length),(70,.dat (zf i))]) (fun i=>[(0,.box (some bl) 81 [.dat (vstr s1.s_),.dat (vint (wr (c2+1))),.dat (zf s1.bad_)]),(1,.row 5 1 (List.map yw l3))]) (fun i=>kw s1 c2 l3 i=some q4) (fun i=>Z) ?_ ?_)
      ·skip
       refine wh mixed hN Z Z (za (ze (.ptr _ _) Z) (za (zv Z) (za (zp qk Z) (yc (zy tyS3 Z Z) Z (za (ze (.ptr _ _) Z) (za (zv Z) (za (zp vn Z) (yc (zy tyS9 Z Z) Z (za (yq tyU9 Z) (za (yl Z Z) (qd Z (zz (j:=10) Z Z (fun h10 => ?_) (fun h10 => ?_) Z))))))))))))
       ·refine u3 h10 H fun h11 H=>zd Z Z h10 (ze (.ptr _ _) Z) (zd Z Z h10 (zv Z) (zd Z Z h10 (zp vn Z) (wo Z Z h10 (zy tyS9 Z Z) Z (zd Z Z h10 (ze (.ptr _ _) Z) (zd Z Z h10 (zv Z) (zd Z Z h10 (zp qk Z) (wo Z Z h10 (zy tyS3 Z Z) Z (bE H fun x12 h13 H=>zd Z Z h10 (wc tyU9 Z Z h13) (zd Z Z h10 (vq Z Z) (zd Z Z h10 (ze (.dat _) Z) (zz (j:=21) Z Z (fun h14 => ?_) (fun h14 => ?_) Z)))))))))))
        ·refine u1 h14 H fun h15 H=>zd Z Z h14 (ze (.ptr _ _) Z) (zd Z Z h14 (zv Z) (zd Z Z h14 (zp vn Z) (wo Z Z h14 (zy tyS9 Z Z) Z (zd Z Z h14 (ze (.ptr _ _) Z) (zd Z Z h14 (zv Z) (zd Z Z h14 (zp qk Z) (wo Z Z h14 (zy tyS3 Z Z) Z (zd Z Z h14 (wc tyU9 Z Z h13) (zd Z Z h14 (vq Z Z) (zd Z Z h10 (zu Z (bTT h15) Z) (za (zo Z (bFF h11) Z) ⟨Z,?_⟩)))))))))))
         exact ⟨decide ((x12.toNat:Int)≠92),H,⟨Z,Z,Z,U⟩,⟨Z,Z,U⟩⟩
        ·refine u2 h14 H fun h16 H=>zc Z Z h14 (zc Z Z h14 (zc Z Z h14 (zc Z Z h14 (zc Z Z h14 (zc Z Z h14 (zc Z Z h14 (zc Z Z h14 (zc Z Z h14 (zc Z Z h14 (zd Z Z h10 (zo Z (bFF h16) Z) (za (zo Z (bFF h11) Z) ⟨Z,?_⟩)))))))))))
         exact ⟨false,H,⟨Z,Z,Z,U⟩,⟨Z,Z,U⟩⟩
       ·refine u4 h10 H fun h17 H=>zc Z Z h10 (zc Z Z h10 (zc Z Z h10 (zc Z Z h10 (zc Z Z h10 (zc Z Z h10 (zc Z Z h10 (zc Z Z h10 (zc Z Z h10 (zc Z Z h10 (zc Z Z h10 (zt Z Z (zt Z Z (zt Z Z (zt Z Z (zt Z Z (zt Z Z (zt Z Z (zt Z Z (zt Z Z (zt Z Z (zc Z Z h10 (za (zu Z (bTT h17) Z) ?_))))))))))))))))))))))
        refine ⟨Z,?_⟩
        exact ⟨true,H,⟨Z,Z,Z,U⟩,⟨Z,Z,U⟩⟩
      ·rintro v18 H
       replace H:kw s1 c2 l3 v18=some q4:=H
       unfold kw at H
       refine zg _ Z (fun h19 => ?_) (fun h19 => ?_)
       ·refine tE h19 H fun H=>yu ?_
        replace H:=outl H hq4
        exact ⟨wr (c2+1),H,⟨Z,U⟩,⟨Z,U⟩⟩
       ·refine fE h19 H fun H=>zl (zh (wh mixed hN Z Z (za (ze (.ptr _ _) Z) (za (zv Z) (za (zp vn Z) (yc (zy tyS9 Z Z) Z (za (ze (.ptr _ _) Z) (za (zv Z) (za (zp qk Z) (yc (zy tyS3 Z Z) Z (bE H fun x20 h21 H=>za (wc tyU9 Z Z h21) (qe Z ⟨Z,?_⟩))))))))))))
        exact zm hN Z (za (ze (.ptr _ _) Z) (za (zv Z) (za (zp qk Z) (yc (zy tyS3 Z Z) Z (za (yo _ Z Z (.inl ⟨Z,Z⟩)) (za (zv Z) (za (zp qk Z) (zq (qg tyS3 Z Z Z Z) Z ⟨((x20.toNat:Int),wr ((wr (c2+1))+1)),H,⟨Z,Z,Z,U⟩,⟨Z,Z,U⟩⟩))))))))
     ·exact fE h9 H fun H=>zl ⟨((x6.toNat:Int),wr (c2+1)),H,⟨Z,Z,Z,U⟩,⟨Z,Z,U⟩⟩
    ·rintro ⟨v22,c23⟩ H
     replace H:xi l3 v22 c23=some q4:=H
     unfold xi at H
     refine zm hN Z (za (ze (.row _ _) Z) (qd Z (za (ym (u':=vlst (List.map yw [v22])) (wa [[_]] uv ⟨Z,.inl ⟨_,Z,Z,Z⟩,Z,U⟩ Z Z) Z) (gE H fun h24 H=>zq (vo uv (fun _=>Z) Z Z Z ⟨by simp,by first | (simp; done) | simpa using h24⟩ Z) Z ?_))))
     exact za (wu (.row _ _) Z) ⟨_,qb H,⟨Z,Z,U⟩,⟨Z,Z,U⟩⟩
  ·refine fE h5 H fun H=>yu ?_
   replace H:=outl H hq4
   exact ⟨c2,H,⟨Z,U⟩,⟨Z,U⟩⟩
 ·rintro c25 H
  replace H:kx s1 c25=some r:=H
  unfold kx at H
  refine zb hN Z (za (ze (.ptr _ _) Z) (za (zv Z) (za (zp wq Z) (zq (qg tyS4 Z Z Z Z) Z (zb hN Z (qe Z (zi ?_)))))))
  cases H
  exact ⟨U,⟨.inl Z,U⟩,Z⟩
theorem y4d (name1:Bs) (r:(Bool)) (H:z2o name1=some r):Fn Tryz.prog 80 [vstr name1] (zr [zf r]):=by
 refine ⟨by kernel_rfl,yh (us:=[zf r]) Tryz.func80 Z Z Z Z fun X hN => ?_⟩
 unfold z2o at H
 refine zb hN Z (qe Z (zb hN Z (qd Z (za (ql Z Z) (qd Z (yr Z Z (fun hc=>ze (.dat _) Z) (yr Z Z (fun hc=>ql (cnd (c:=(!(decide (name1=[113])))) hc) Z) (za (vc Z Z (fun hb=>(cnd (c:=(!(decide (name1=[113])))) (notI hb)))) (qe Z (zi ?_))))))))))
 cases H
 exact ⟨U,.inl Z,U⟩
theorem Ql (s p:Bs) (r:Bs×Bs×Bool) (H:vy s p=some r):Fn Tryz.prog 24 [vstr s,vstr p] (zr [vstr r.1,vstr r.2.1,zf r.2.2]):=by
 unfold vy at H
 obtain ⟨h1,h2⟩:=gif H
 cases h2
 refine kf (by kernel_rfl) fun M w vs hM h => ?_
 have hv:=vz (us:=[.string ⟨s.toArray⟩,.string ⟨p.toArray⟩]) h
 subst hv
 obtain ⟨m,hm⟩:=z4z hM
 refine (Tryz.strings_Cut ⟨s.toArray⟩ ⟨p.toArray⟩ m w (by simp [ByteArray.size]; omega) hm).mono ?_
 rintro e w' ⟨rfl,n,rfl⟩
 refine ⟨_,Z,⟨[_,_,_],Z,Z,fun j u hj => ?_⟩,⟨Z,Z,Z,Nat.le_refl _,fun _ _ _=>Z⟩⟩
 rcases j with _ | _ | _ | j
 ·cases hj; exact ⟨_,Z,Z⟩
 ·cases hj; exact ⟨_,Z,Z⟩
 ·cases hj; exact ⟨_,Z,Z⟩
 ·simp at hj

theorem y3v (s p:Bs) (r:Bs) (H:z2j s p=some r):Fn Tryz.prog 141 [vstr s,vstr p] (zr [vstr r]):=by
 unfold z2j at H
 cases H
 refine kf (by kernel_rfl) fun M w vs hM h => ?_
 have hv:=vz (us:=[.string ⟨s.toArray⟩,.string ⟨p.toArray⟩]) h
 subst hv
 refine (Tryz.strings_TrimPrefix ⟨s.toArray⟩ ⟨p.toArray⟩ w).mono ?_
 rintro e w' ⟨rfl,rfl⟩
 exact ⟨_,Z,Z,Kp.refl _ _⟩

theorem vj (c1:Int) (r:(Int)) (H:ww c1=some r):Fn Tryz.prog 135 [vval (.int .u8 c1)] (zr [vval (.int .u8 r)]):=by
 refine ⟨by kernel_rfl,yh (us:=[vval (.int .u8 r)]) Tryz.func135 Z Z Z Z fun X hN => ?_⟩
 unfold ww at H
 refine zb hN Z (qe Z (zb hN Z (qd Z (za (ym (y1f Z Z) Z) (qe Z (zi ?_))))))
 cases H
 exact ⟨U,.inl Z,U⟩
end Go.Proofs.YtfindajhhadihaaGreatDoor
