/- Walks along the models. Printed by a program. -/
import Derived.Test.YtpjjkhcojjcdpaaGreatDoorZxc
namespace Go.Proofs.YtpjjkhcojjcdpaaGreatDoor
open Go.RowKit
set_option linter.unusedVariables false
set_option maxRecDepth 100000
set_option maxHeartbeats 2000000
theorem z60 (x1:Int) (n2:Int) (r:(Int)) (H:Yc x1 n2=some r):Fn Tryz.prog 45 [vint x1,vint n2] (zu [vint r]):=by
 refine ⟨by kernel_rfl,yi (us:=[vint r]) Tryz.func45 Z Z Z Z fun X hN => ?_⟩
 unfold Yc at H
 refine zb hN Z (qe Z (zh (zb hN Z (qd Z (za (yf Z Z) (zi _ Z (fun h3 => ?_) (fun h3 => ?_)))))))
 ·refine tE h3 H fun H=>zb hN Z (qe Z (zj ?_))
  cases H
  exact ⟨U,.inl Z,U⟩
 ·refine fE h3 H fun H=>zo (zb hN Z (qd Z (qd Z (gE H fun h4 H=>za (z8p Z Z h4) (qe Z (ya (ι:=Int) (fun i=>[(0,.dat (vint i))]) (fun i=>[]) (fun i=>z0f i=some r) (fun i=>Z) ?_ ?_))))))
  ·skip
   refine zb hN Z (qd Z (za (yf Z Z) (zi _ Z (fun h5 => ?_) (fun h5 => ?_))))
   ·exact tE h5 H fun H=>zn hN Z (qd Z (qd Z (za (yp _ Z Z (.inl ⟨Z,Z⟩)) (qe Z ⟨wr ((Int.tmod x1 n2)+n2),H,⟨Z,U⟩,U⟩))))
   ·exact fE h5 H fun H=>zo ⟨(Int.tmod x1 n2),H,⟨Z,U⟩,U⟩
  ·rintro x6 H
   replace H:z0f x6=some r:=H
   unfold z0f at H
   refine zb hN Z (qd Z (qe Z (zj ?_)))
   cases H
   exact ⟨U,.inl Z,U⟩
theorem ug (s1:zz) (n2:Int) (r:(Int×zz)) (H:vq s1 n2=some r):Imp Tryz.prog 18 25 (qi s1) [vint n2] (zu [vint r.1]) (qi r.2):=by
 refine wm (us:=[vint r.1]) (cs':=(qi r.2)) (by kernel_rfl) Tryz.func18 Z Z Z Z fun X bl hN => ?_
 unfold vq at H
 refine zb hN Z (qe Z (zb hN Z (za (ze (.ptr _ _) Z) (za (zy Z) (za (zk z0j Z) (zw (zr tyS3 Z Z) Z (za (yp _ Z Z (.inl ⟨Z,Z⟩)) (za (zy Z) (za (zk z0j Z) (zl (qn tyS3 Z Z Z Z) Z (zh (zb hN Z (za (ze (.ptr _ _) Z) (za (zy Z) (za (zk z2x Z) (zw (zr z2s Z Z) Z (za (ql z2p Z) (za (yk Z Z) (zi _ Z (fun h3 => ?_) (fun h3 => ?_))))))))))))))))))))
 ·refine tE h3 H fun H=>zb hN Z (za (ze (.ptr _ _) Z) (za (zy Z) (za (zk z0j Z) (zw (zr tyS3 Z Z) Z (za (yp _ Z Z (.inr (.inr ⟨Z,Z⟩))) (qd Z (bE H fun r4 h5 H=>za (zp (z60 (wr ((wr (s1.at_+1)) * 7919)) n2 r4 h5) ⟨.inl Z,.inl Z,U⟩) (qe Z (zj ?_)))))))))
  cases H
  exact ⟨U,⟨.inl Z,U⟩,Z⟩
 ·refine fE h3 H fun H=>zo (zh (wl mixed hN Z Z (za (ze (.ptr _ _) Z) (za (zy Z) (za (zk z0j Z) (zw (zr tyS3 Z Z) Z (za (yp _ Z Z (.inr (.inl ⟨Z,Z⟩))) (za (ze (.ptr _ _) Z) (za (zy Z) (za (zk z2x Z) (zw (zr z2s Z Z) Z (za (ql z2p Z) (gE H fun h6 H=>za (z8p Z Z h6) (qe Z ⟨Z,?_⟩))))))))))))))
  refine zh (wl mixed hN Z Z (za (ze (.ptr _ _) Z) (za (zy Z) (za (zk z0j Z) (zw (zr tyS3 Z Z) Z (za (yp _ Z Z (.inr (.inl ⟨Z,Z⟩))) (za (ze (.ptr _ _) Z) (za (zy Z) (za (zk z2x Z) (zw (zr z2s Z Z) Z (za (ql z2p Z) (gE H fun h7 H=>za (y22 Z Z h7.1 h7.2) (qe Z ⟨Z,?_⟩)))))))))))))
  refine zb hN Z (za (ze (.ptr _ _) Z) (za (zy Z) (za (zk z2x Z) (zw (zr z2s Z Z) Z (qd Z (bE H fun x8 h9 H=>za (z5i z8g (fun _=>Z) Z Z h9) (za (Qg tyS3 Z (wz (ji h9).2) Z) (bE H fun r10 h11 H=>za (zp (z60 x8 1073741824 r10 h11) ⟨.inl Z,.inl Z,U⟩) (qd Z (qd Z (za (yp _ Z Z (.inl ⟨Z,Z⟩)) (za (yp _ Z Z (.inr (.inr ⟨Z,Z⟩))) (za (yp _ Z Z (.inl ⟨Z,Z⟩)) (qd Z (bE H fun r12 h13 H=>za (zp (z60 (wr (r10+(wr (((wr ((wr (s1.at_+1)) - 1)) / (s1.L.length:Int)) * (wr (7919+(Int.tmod (wr ((wr (s1.at_+1)) - 1)) (s1.L.length:Int)))))))) n2 r12 h13) ⟨.inl Z,.inl Z,U⟩) (qe Z (zj ?_)))))))))))))))))
  cases H
  exact ⟨U,⟨.inl Z,U⟩,Z⟩
theorem z6y (s1:zz) (low2:Int) (high3:Int) (r:(Int×zz)) (H:Yb s1 low2 high3=some r):Imp Tryz.prog 13 25 (qi s1) [vint low2,vint high3] (zu [vint r.1]) (qi r.2):=by
 refine wm (us:=[vint r.1]) (cs':=(qi r.2)) (by kernel_rfl) Tryz.func13 Z Z Z Z fun X bl hN => ?_
 unfold Yb at H
 refine zb hN Z (qe Z (zh (zb hN Z (qd Z (qd Z (za (yf Z Z) (zi _ Z (fun h4 => ?_) (fun h4 => ?_))))))))
 ·refine tE h4 H fun H=>zb hN Z (qd Z (qe Z (zj ?_)))
  cases H
  exact ⟨U,⟨.inl Z,U⟩,Z⟩
 ·refine fE h4 H fun H=>zo (zb hN Z (qd Z (za (ze (.ptr _ _) Z) (qd Z (qd Z (za (yp _ Z Z (.inr (.inl ⟨Z,Z⟩))) (za (yp _ Z Z (.inl ⟨Z,Z⟩)) (bE H fun r5 h6 H=>zl (yh (ug s1 (wr ((wr (high3 - low2))+1)) r5 h6) Z ⟨.inl Z,U⟩ Z) Z (za (yp _ Z Z (.inl ⟨Z,Z⟩)) (qe Z (zj ?_)))))))))))
  cases H
  exact ⟨U,⟨.inl Z,U⟩,Z⟩
theorem uf (s1:zz) (l2:(List Bs)) (r:(Bs×zz)) (H:vp s1 l2=some r):Imp Tryz.prog 14 25 (qi s1) [vlst (List.map yj l2)] (zu [vstr r.1]) (qi r.2):=by
 refine wm (us:=[vstr r.1]) (cs':=(qi r.2)) (by kernel_rfl) Tryz.func14 Z Z Z Z fun X bl hN => ?_
 unfold vp at H
 refine zb hN Z (qe Z (zb hN Z (qd Z (za (ze (.ptr _ _) Z) (qd Z (za (ql z2o Z) (bE H fun r3 h4 H=>zl (yh (ug s1 (l2.length:Int) r3 h4) Z ⟨.inl Z,U⟩ Z) Z (bE H fun x5 h6 H=>za (z5i z5b (fun _=>Z) Z Z h6) (za (Qg tyS9 Z (wz (ji h6).2) Z) (qe Z (zj ?_)))))))))))
 cases H
 exact ⟨U,⟨.inl Z,U⟩,Z⟩
theorem z4d (l:List Bs) (sep r:Bs) (H:kc l sep=some r):Fn Tryz.prog 33 [vlst (List.map yj l),vstr sep] (zu [vstr r]):=by
 obtain ⟨h1,h2,rfl⟩:=y69 H
 refine uj (by kernel_rfl) fun M w vs hM h => ?_
 obtain ⟨hl,hv⟩:=h
 obtain ⟨a,ha,hap⟩:=hv 0 _ rfl
 obtain ⟨s,hs,hsp⟩:=hv 1 _ rfl
 have hsp:s = .string ⟨sep.toArray⟩:=hsp
 subst hsp
 have hvs:vs.toArray = #[a,.string ⟨sep.toArray⟩]:=by
  rcases vs with _ | ⟨x,_ | ⟨y,_ | ⟨z,t⟩⟩⟩
  ·cases ha
  ·cases hs
  ·cases ha; cases hs; rfl
  ·simp at hl
 rw [hvs]
 obtain ⟨A,c,q1,q2,q3⟩:=hap
 simp only [List.length_map] at q1 q2
 subst q1
 by_cases hne:l=[]
 ·subst hne
  refine (Tryz.strings_Join_none A c ⟨sep.toArray⟩ w).mono ?_
  rintro e w' ⟨rfl,rfl⟩
  exact ⟨_,Z,Z,Kp.refl _ _⟩
 ·obtain ⟨b,off,size,rfl,hMb,arr,t,fz,q5,q6,q7⟩:=q3 (by simpa using hne)
  have hsz:size=1:=by
   cases hq:l with
   | nil=>exact absurd hq hne
   | cons x l'=>have:=q6 (yj x) (by rw [hq]; simp); simpa using this.symm
  subst hsz
  have e1:((l.map fun x=>ByteArray.mk x.toArray).map (·.data.toList))=l:=by
   rw [List.map_map]
   exact (List.map_congr_left fun x _=>Z).trans (List.map_id l)
  have hj:=Tryz.strings_Join b off c (l.map fun x=>ByteArray.mk x.toArray) ⟨sep.toArray⟩ w (fun j x hx=>by
   rw [List.getElem?_map] at hx
   cases hq:l[j]? with
   | none=>rw [hq] at hx; cases hx
   | some y =>
    rw [hq] at hx
    cases hx
    obtain ⟨v,r1,r2,_⟩:=q7 j 0 (yj y) (vstr y) (by rw [List.getElem?_map,hq]; rfl) rfl
    have r2:v = .string ⟨y.toArray⟩:=r2
    rw [cell_of_row w b _ _ _ _ q5]
    simp only [Nat.mul_one,Nat.add_zero] at r1
    rw [r1,r2]) (Yj q5) (by simp; omega) (by simpa using q2) (by rw [e1]; simp only; omega)
  rw [List.length_map,e1] at hj
  refine hj.mono ?_
  rintro e w' ⟨rfl,hb⟩
  exact ⟨_,Z,Z,Kp.of_below hb⟩
theorem y60 (s1:zz) (many2:Int) (between3:Bs) (l4:(List Bs)) (r:(Bs×zz)) (H:z1n s1 many2 between3 l4=some r):Imp Tryz.prog 12 25 (qi s1) [vint many2,vstr between3,vlst (List.map yj l4)] (zu [vstr r.1]) (qi r.2):=by
 refine wm (us:=[vstr r.1]) (cs':=(qi r.2)) (by kernel_rfl) Tryz.func12 Z Z Z Z fun X bl hN => ?_
 unfold z1n at H
 refine zb hN Z (qe Z (zb hN Z (qe Z (zh (zb hN Z (qd Z (qd Z (ye (uk 9 1 9 1 Z Z Z (gE H fun h10 H=>z7k (fun (k8:Nat) (s:(List Int)×Int×(List Bs))=>[(0,.ptr 0 0),(2,.dat (vstr between3)),(3,.dat (vlst (List.map yj l4))),(9,.row 1 s.2.2.length),(10,.dat (vint many2)),(11,.dat (vint (k8:Int)))]) (fun (k8:Nat) (s:(List Int)×Int×(List Bs))=>[(0,.box (some bl) 25 [.dat (vlst (List.map vh s.1)),.dat (vint s.2.1)]),(1,.row 9 1 (List.map yj s.2.2))]) (s1.L,s1.at_,[]) H ⟨Z,Z,Z,Z,Z,Z,U⟩ ⟨Z,Z,U⟩ (fun _ _=>Z) ?_ ?_))))))))))
 ·rintro ⟨c5,c6,l7⟩ H
  replace H:z4s between3 c5 c6 l7=some r:=H
  unfold z4s at H
  refine zb hN Z (za (yf Z Z) (zh (zi _ Z (fun h=>(z38 h).elim) (fun h => ?_))))
  refine yv (zh (ur 9 1 Z Z Z (zn hN Z (qd Z (qd Z (bE H fun r11 h12 H=>za (zp (z4d l7 between3 r11 h12) ⟨.inl Z,.inl Z,U⟩) (qe Z (zj ?_))))))))
  cases H
  exact ⟨U,⟨.inl Z,U⟩,Z⟩
 ·rintro k8 ⟨c5,c6,l7⟩ q9 h13 H hq9
  replace H:z4r l4 k8 c5 c6 l7=some q9:=H
  unfold z4r at H
  refine zb hN Z (za (yf Z Z) (zh (zi _ Z (fun h => ?_) (fun h=>(z39 h13 h).elim))))
  refine zo (zh (ye (zn hN Z (za (ze (.row _ _) Z) (za (ze (.ptr _ _) Z) (qd Z (bE H fun r14 h15 H=>zl (yh (uf (zz.mk c5 c6) l4 r14 h15) Z ⟨.inl Z,U⟩ Z) Z (za (yg (u':=vlst (List.map yj [r14.1])) (qj [[_]] wb ⟨Z,.inl ⟨_,Z,Z,Z⟩,Z,U⟩ Z Z) Z) (gE H fun h16 H=>zl (jc wb (fun _=>Z) Z Z Z ⟨by simp,by first | (simp; done) | simpa using h16⟩ Z) Z ?_)))))))))
  exact za (wy (.row _ _) Z) (zn hN Z (za (wj Z Z (by omega)) (qd Z ⟨_,qc H,⟨Z,Z,Z,Z,Z,Z,U⟩,⟨Z,Z,U⟩⟩)))
theorem z6z (s1:zz) (n2:Int) (r:(Bool×zz)) (H:xj s1 n2=some r):Imp Tryz.prog 15 25 (qi s1) [vint n2] (zu [zf r.1]) (qi r.2):=by
 refine wm (us:=[zf r.1]) (cs':=(qi r.2)) (by kernel_rfl) Tryz.func15 Z Z Z Z fun X bl hN => ?_
 unfold xj at H
 refine zb hN Z (qe Z (zb hN Z (za (ze (.ptr _ _) Z) (qd Z (bE H fun r3 h4 H=>zl (yh (ug s1 n2 r3 h4) Z ⟨.inl Z,U⟩ Z) Z (za (yk Z Z) (qe Z (zj ?_))))))))
 cases H
 exact ⟨U,⟨.inl Z,U⟩,Z⟩
theorem z4k (s1:zz) (l2:(List Int)) (r:(Int×zz)) (H:xi s1 l2=some r):Imp Tryz.prog 16 25 (qi s1) [vlst (List.map vh l2)] (zu [vint r.1]) (qi r.2):=by
 refine wm (us:=[vint r.1]) (cs':=(qi r.2)) (by kernel_rfl) Tryz.func16 Z Z Z Z fun X bl hN => ?_
 unfold xi at H
 refine zb hN Z (qe Z (zb hN Z (qd Z (za (ze (.ptr _ _) Z) (qd Z (za (ql z2p Z) (bE H fun r3 h4 H=>zl (yh (ug s1 (l2.length:Int) r3 h4) Z ⟨.inl Z,U⟩ Z) Z (bE H fun x5 h6 H=>za (z5i z8g (fun _=>Z) Z Z h6) (za (Qg tyS3 Z (wz (ji h6).2) Z) (qe Z (zj ?_)))))))))))
 cases H
 exact ⟨U,⟨.inl Z,U⟩,Z⟩
theorem y64 (s1:zz) (t2:Bs) (v3:Bs) (r:(Bs×zz)) (H:z1r s1 t2 v3=some r):Imp Tryz.prog 17 25 (qi s1) [vstr t2,vstr v3] (zu [vstr r.1]) (qi r.2):=by
 refine wm (us:=[vstr r.1]) (cs':=(qi r.2)) (by kernel_rfl) Tryz.func17 Z Z Z Z fun X bl hN => ?_
 unfold z1r at H
 refine zb hN Z (qe Z (zh (zb hN Z (qd Z (za (qx Z Z) (qd Z (yu Z Z (fun hc=>ze (.dat _) Z) (yu Z Z (fun hc=>qx (cnd (c:=(!(decide (t2=[])))) hc) Z) (za (ww Z Z (fun hb=>(cnd (c:=(!(decide (t2=[])))) (notI hb)))) (zi _ Z (fun h4 => ?_) (fun h4 => ?_)))))))))))
 ·refine tE h4 H fun H=>zb hN Z (qd Z (qe Z (zj ?_)))
  cases H
  exact ⟨U,⟨.inl Z,U⟩,Z⟩
 ·refine fE h4 H fun H=>zo (zb hN Z (za (ze (.ptr _ _) Z) (qd Z (za (yr tyU9 Z) (bE H fun r5 h6 H=>zl (yh (ug s1 (t2.length:Int) r5 h6) Z ⟨.inl Z,U⟩ Z) Z (qe Z (zb hN Z (qd Z (za (ze (.ptr _ _) Z) (qd Z (za (yr tyU9 Z) (bE H fun r7 h8 H=>zl (yh (ug r5.2 (v3.length:Int) r7 h8) Z ⟨.inl Z,U⟩ Z) Z (bE H fun x9 h10 H=>za (wi tyU9 Z Z h10) (qe Z (zh (zb hN Z (za (ze (.ptr _ _) Z) (bE H fun r11 h12 H=>zl (yh (ug r7.2 3 r11 h12) Z ⟨.inl Z,U⟩ Z) Z ?_))))))))))))))))))
  refine ye (zb hN Z (za (yk Z Z) (qe Z (zi _ Z (fun h13 => ?_) (fun h13 => ?_)))))
  ·refine tE h13 H fun H=>zh (wl mixed hN Z Z (qd Z (qd Z (bE H fun l14 h15 H=>za (qg tyU9 Z Z Z h15) (qd Z (za (jd tyU5 z2q Z) (za (z8w z2q Z tyU9 Z) (gE H fun h16 H=>za (qm Z Z (Nat.le_trans h16 (by decide))) (qd Z (qd Z (za (yp _ Z Z (.inl ⟨Z,Z⟩)) (bE H fun l17 h18 H=>za (qg tyU9 Z Z Z h18) (gE H fun h19 H=>za (qm Z Z (Nat.le_trans h19 (by decide))) (qe Z ⟨Z,?_⟩))))))))))))))
   refine zj ?_
   cases H
   exact ⟨U,⟨.inl Z,U⟩,Z⟩
  ·refine fE h13 H fun H=>zb hN Z (za (yk Z Z) (qe Z (zi _ Z (fun h20 => ?_) (fun h20 => ?_))))
   ·refine tE h20 H fun H=>zh (wl mixed hN Z Z (qd Z (qd Z (bE H fun l21 h22 H=>za (qg tyU9 Z Z Z h22) (qd Z (za (jd tyU5 z2q Z) (za (z8w z2q Z tyU9 Z) (gE H fun h23 H=>za (qm Z Z (Nat.le_trans h23 (by decide))) (qd Z (qd Z (bE H fun l24 h25 H=>za (qg tyU9 Z Z Z h25) (gE H fun h26 H=>za (qm Z Z (Nat.le_trans h26 (by decide))) (qe Z ⟨Z,?_⟩)))))))))))))
    refine zj ?_
    cases H
    exact ⟨U,⟨.inl Z,U⟩,Z⟩
   ·refine fE h20 H fun H=>zo (zh (wl mixed hN Z Z (qd Z (qd Z (bE H fun l27 h28 H=>za (qg tyU9 Z Z Z h28) (qd Z (qd Z (za (yp _ Z Z (.inl ⟨Z,Z⟩)) (bE H fun l29 h30 H=>za (qg tyU9 Z Z Z h30) (gE H fun h31 H=>za (qm Z Z (Nat.le_trans h31 (by decide))) (qe Z ⟨Z,?_⟩)))))))))))
    refine zj ?_
    cases H
    exact ⟨U,⟨.inl Z,U⟩,Z⟩
theorem y62 (s1:zz) (r:(Bs×zz)) (H:z1p s1=some r):Imp Tryz.prog 4 25 (qi s1) [] (zu [vstr r.1]) (qi r.2):=by
 refine wm (us:=[vstr r.1]) (cs':=(qi r.2)) (by kernel_rfl) Tryz.func4 Z Z Z Z fun X bl hN => ?_
 unfold z1p at H
 refine zb hN Z (qe Z (zb hN Z (za (ze (.ptr _ _) Z) (za (ze (.ptr _ _) Z) (bE H fun r2 h3 H=>zl (yh (z6y s1 0 4 r2 h3) Z ⟨.inl Z,.inl Z,U⟩ Z) Z (za (ze (.ptr _ _) Z) (za (yg (u':=vlst (List.map yj [[44],[44,32],[32,44,32]])) (qj [[_],[_],[_]] wb ⟨Z,.inl ⟨_,Z,Z,Z⟩,Z,Z,.inl ⟨_,Z,Z,Z⟩,Z,Z,.inl ⟨_,Z,Z,Z⟩,Z,U⟩ Z Z) Z) (bE H fun r4 h5 H=>zl (yh (uf r2.2 ([[44],[44,32],[32,44,32]]) r4 h5) Z ⟨.inl Z,U⟩ Z) Z (za (yg (u':=vlst (List.map yj [[116,101,120,116,47,104,116,109,108],[116,101,120,116,47,42],[42,47,42],[100,101],[42],[97,59,113,61,48,46,53],[116,101,120,116,47,104,116,109,108,59,113,61,48,46,50,53],[98,59,120,61,49],[99,59,121,61,34,113,92,34,114,34],[100,101,59,32,81,61,48],[101,59,113,61,49,46,48,48,48],[],[105,109,97,103,101,47,112,110,103,59,113,61,48,46,48,48,49],[102,59,120,61,34,34,59,113,61,48]])) (qj [[_],[_],[_],[_],[_],[_],[_],[_],[_],[_],[_],[_],[_],[_]] wb ⟨Z,.inl ⟨_,Z,Z,Z⟩,Z,Z,.inl ⟨_,Z,Z,Z⟩,Z,Z,.inl ⟨_,Z,Z,Z⟩,Z,Z,.inl ⟨_,Z,Z,Z⟩,Z,Z,.inl ⟨_,Z,Z,Z⟩,Z,Z,.inl ⟨_,Z,Z,Z⟩,Z,Z,.inl ⟨_,Z,Z,Z⟩,Z,Z,.inl ⟨_,Z,Z,Z⟩,Z,Z,.inl ⟨_,Z,Z,Z⟩,Z,Z,.inl ⟨_,Z,Z,Z⟩,Z,Z,.inl ⟨_,Z,Z,Z⟩,Z,Z,.inl ⟨_,Z,Z,Z⟩,Z,Z,.inl ⟨_,Z,Z,Z⟩,Z,Z,.inl ⟨_,Z,Z,Z⟩,Z,U⟩ Z Z) Z) (bE H fun r6 h7 H=>zl (yh (y60 r4.2 r2.1 r4.1 ([[116,101,120,116,47,104,116,109,108],[116,101,120,116,47,42],[42,47,42],[100,101],[42],[97,59,113,61,48,46,53],[116,101,120,116,47,104,116,109,108,59,113,61,48,46,50,53],[98,59,120,61,49],[99,59,121,61,34,113,92,34,114,34],[100,101,59,32,81,61,48],[101,59,113,61,49,46,48,48,48],[],[105,109,97,103,101,47,112,110,103,59,113,61,48,46,48,48,49],[102,59,120,61,34,34,59,113,61,48]]) r6 h7) Z ⟨.inl Z,.inl Z,.inl Z,U⟩ Z) Z (qe Z (ya (ι:=Bs×(List Int)×Int) (fun i=>[(0,.ptr 0 0),(3,.dat (vstr i.1))]) (fun i=>[(0,.box (some bl) 25 [.dat (vlst (List.map vh i.2.1)),.dat (vint i.2.2)])]) (fun i=>Yr i.1 i.2.1 i.2.2=some r) (fun i=>Z) ?_ ?_))))))))))))
 ·skip
  refine zb hN Z (za (ze (.ptr _ _) Z) (bE H fun r8 h9 H=>zl (yh (z6z r6.2 8 r8 h9) Z ⟨.inl Z,U⟩ Z) Z (zi _ Z (fun h10 => ?_) (fun h10 => ?_))))
  ·exact tE h10 H fun H=>zn hN Z (za (ze (.ptr _ _) Z) (za (yg (u':=vlst (List.map yj [[97,59,113,61,50],[97,59,113,61,48,46,49,50,51,52],[97,59,113,61,49,59,113,61,49],[97,32,98],[97,59],[97,59,98],[97,59,98,61],[97,47,98,47,99],[97,59,120,61,34,121],[97,59,120,61,34,92,122,34],[47,97],[97,59,113,61,46,53],[32,97],[97,59,113,61,49,46,49]])) (qj [[_],[_],[_],[_],[_],[_],[_],[_],[_],[_],[_],[_],[_],[_]] wb ⟨Z,.inl ⟨_,Z,Z,Z⟩,Z,Z,.inl ⟨_,Z,Z,Z⟩,Z,Z,.inl ⟨_,Z,Z,Z⟩,Z,Z,.inl ⟨_,Z,Z,Z⟩,Z,Z,.inl ⟨_,Z,Z,Z⟩,Z,Z,.inl ⟨_,Z,Z,Z⟩,Z,Z,.inl ⟨_,Z,Z,Z⟩,Z,Z,.inl ⟨_,Z,Z,Z⟩,Z,Z,.inl ⟨_,Z,Z,Z⟩,Z,Z,.inl ⟨_,Z,Z,Z⟩,Z,Z,.inl ⟨_,Z,Z,Z⟩,Z,Z,.inl ⟨_,Z,Z,Z⟩,Z,Z,.inl ⟨_,Z,Z,Z⟩,Z,Z,.inl ⟨_,Z,Z,Z⟩,Z,U⟩ Z Z) Z) (bE H fun r11 h12 H=>zl (yh (uf r8.2 ([[97,59,113,61,50],[97,59,113,61,48,46,49,50,51,52],[97,59,113,61,49,59,113,61,49],[97,32,98],[97,59],[97,59,98],[97,59,98,61],[97,47,98,47,99],[97,59,120,61,34,121],[97,59,120,61,34,92,122,34],[47,97],[97,59,113,61,46,53],[32,97],[97,59,113,61,49,46,49]]) r11 h12) Z ⟨.inl Z,U⟩ Z) Z (qe Z ⟨(r11.1,r11.2.L,r11.2.at_),H,⟨Z,Z,U⟩,⟨Z,U⟩⟩))))
  ·exact fE h10 H fun H=>zo ⟨(r6.1,r8.2.L,r8.2.at_),H,⟨Z,Z,U⟩,⟨Z,U⟩⟩
 ·rintro ⟨t13,c14,c15⟩ H
  replace H:Yr t13 c14 c15=some r:=H
  unfold Yr at H
  refine zh (zb hN Z (za (ze (.ptr _ _) Z) (za (yg (u':=vlst (List.map vh [0,0,0,1,2])) (qj [[_],[_],[_],[_],[_]] z2u ⟨Z,.inl ⟨_,Z,Z,Z⟩,Z,Z,.inl ⟨_,Z,Z,Z⟩,Z,Z,.inl ⟨_,Z,Z,Z⟩,Z,Z,.inl ⟨_,Z,Z,Z⟩,Z,Z,.inl ⟨_,Z,Z,Z⟩,Z,U⟩ Z Z) Z) (bE H fun r16 h17 H=>zl (yh (z4k (zz.mk c14 c15) [0,0,0,1,2] r16 h17) Z ⟨.inl Z,U⟩ Z) Z (qd Z (ye (gE H fun h23 H=>z7k (fun (k21:Nat) (s:Bs×(List Int)×Int)=>[(0,.ptr 0 0),(3,.dat (vstr s.1)),(19,.dat (vint r16.1)),(20,.dat (vint (k21:Int)))]) (fun (k21:Nat) (s:Bs×(List Int)×Int)=>[(0,.box (some bl) 25 [.dat (vlst (List.map vh s.2.1)),.dat (vint s.2.2)])]) (t13,r16.2.L,r16.2.at_) H ⟨Z,Z,Z,Z,U⟩ ⟨Z,U⟩ (fun _ _=>Z) ?_ ?_)))))))
  ·rintro ⟨t18,c19,c20⟩ H
   replace H:z4u t18 c19 c20=some r:=H
   unfold z4u at H
   refine zb hN Z (za (yf Z Z) (zh (zi _ Z (fun h=>(z38 h).elim) (fun h => ?_))))
   refine yv (zb hN Z (qd Z (qe Z (zj ?_))))
   cases H
   exact ⟨U,⟨.inl Z,U⟩,Z⟩
  ·rintro k21 ⟨t18,c19,c20⟩ q22 h24 H hq22
   replace H:z4t k21 t18 c19 c20=some q22:=H
   unfold z4t at H
   refine zb hN Z (za (yf Z Z) (zh (zi _ Z (fun h => ?_) (fun h=>(z39 h24 h).elim))))
   exact zo (zh (ye (zn hN Z (za (ze (.ptr _ _) Z) (qd Z (bE H fun r25 h26 H=>zl (yh (y64 (zz.mk c19 c20) t18 [44,59,61,113,48,46,34,92,47,32] r25 h26) Z ⟨.inl Z,.inl Z,U⟩ Z) Z (qe Z (zn hN Z (za (wj Z Z (by omega)) (qd Z ⟨_,qc H,⟨Z,Z,Z,Z,U⟩,⟨Z,U⟩⟩))))))))))
theorem y61 (s1:zz) (low2:Int) (high3:Int) (r:(Int×zz)) (H:z1o s1 low2 high3=some r):Imp Tryz.prog 19 25 (qi s1) [vint low2,vint high3] (zu [vint r.1]) (qi r.2):=by
 refine wm (us:=[vint r.1]) (cs':=(qi r.2)) (by kernel_rfl) Tryz.func19 Z Z Z Z fun X bl hN => ?_
 unfold z1o at H
 refine zb hN Z (qe Z (zh (zb hN Z (za (ze (.ptr _ _) Z) (bE H fun r4 h5 H=>zl (yh (z6z s1 12 r4 h5) Z ⟨.inl Z,U⟩ Z) Z (zi _ Z (fun h6 => ?_) (fun h6 => ?_)))))))
 ·refine tE h6 H fun H=>zb hN Z (za (ze (.ptr _ _) Z) (qd Z (za (yp _ Z Z (.inr (.inl ⟨Z,Z⟩))) (qd Z (za (yp _ Z Z (.inl ⟨Z,Z⟩)) (qd Z (qd Z (za (yg (u':=vlst (List.map vh [wr (low2 - 1),wr (high3+1),low2,high3,(-1099511627776),1099511627776])) (qj [[_],[_],[_],[_],[_],[_]] z2u ⟨Z,.inl ⟨_,Z,Z,Z⟩,Z,Z,.inl ⟨_,Z,Z,Z⟩,Z,Z,.inl ⟨_,Z,Z,Z⟩,Z,Z,.inl ⟨_,Z,Z,Z⟩,Z,Z,.inl ⟨_,Z,Z,Z⟩,Z,Z,.inl ⟨_,Z,Z,Z⟩,Z,U⟩ Z Z) Z) (bE H fun r7 h8 H=>zl (yh (z4k r4.2 [wr (low2 - 1),wr (high3+1),low2,high3,(-1099511627776),1099511627776] r7 h8) Z ⟨.inl Z,U⟩ Z) Z (qe Z (zj ?_)))))))))))
  cases H
  exact ⟨U,⟨.inl Z,U⟩,Z⟩
 ·refine fE h6 H fun H=>zo (zb hN Z (za (ze (.ptr _ _) Z) (qd Z (qd Z (bE H fun r9 h10 H=>zl (yh (z6y r4.2 low2 high3 r9 h10) Z ⟨.inl Z,.inl Z,U⟩ Z) Z (qe Z (zj ?_)))))))
  cases H
  exact ⟨U,⟨.inl Z,U⟩,Z⟩
def jj (hv:Value) (x:zg):List V:=[vstr x.Words,vval hv,vint x.Quality]
def glI:List zg→Nat→Value→List (List V)
 | [],_,_=>[]
 | p::ps,0,hv=>jj hv p::ps.map yd
 | p::ps,g+1,hv=>yd p::glI ps g hv
def parI:List zg→Nat→List zt
 | [],_=>[]
 | p::_,0=>p.Params
 | _::ps,g+1=>parI ps g
theorem jh:∀ (ps:List zg) (g:Nat) (hv:Value),(glI ps g hv).length=ps.length
 | [],_,_=>Z
 | p::ps,0,hv=>by simp [glI]
 | p::ps,g+1,hv=>by simp only [glI,List.length_cons,jh ps g hv]
theorem y0v:∀ (g:Nat) (hv hv':Value) (ps:List zg) (p:zg),(Nat.beq ps.length g=false→hv'=hv)→glI ps g hv++[cond (Nat.beq ps.length g) (jj hv' p) (yd p)]=glI (ps++[p]) g hv'
 | 0,hv,hv',[],p,h=>Z
 | g+1,hv,hv',[],p,h=>Z
 | 0,hv,hv',q::ps,p,h=>by
  have h1:hv'=hv:=h Z
  subst h1
  show (jj hv' q::List.map yd ps)++[yd p]=jj hv' q::List.map yd (ps++[p])
  simp
 | g+1,hv,hv',q::ps,p,h=>by
  have h1:=y0v g hv hv' ps p (fun h2=>h h2)
  show (yd q::glI ps g hv)++[cond (Nat.beq ps.length g) (jj hv' p) (yd p)]=yd q::glI (ps++[p]) g hv'
  rw [← h1]; rfl
theorem z9k:∀ (ps:List zg) (g:Nat) (p:zg),List.map ym (parI (ps++[p]) g)=cond (Nat.beq ps.length g) (List.map ym p.Params) (List.map ym (parI ps g))
 | [],0,p=>Z
 | [],g+1,p=>Z
 | q::ps,0,p=>Z
 | q::ps,g+1,p=>z9k ps g p
theorem z2c:∀ (ps:List zg) (g:Nat) (hv:Value) (p:zg),ps[g]?=some p→(glI ps g hv)[g]?=some (jj hv p)∧parI ps g=p.Params
 | [],_,_,p,h=>by simp at h
 | q::ps,0,hv,p,h=>by simp at h; subst h; exact ⟨rfl,rfl⟩
 | q::ps,g+1,hv,p,h=>by
  have:=z2c ps g hv p (by simpa using h)
  exact ⟨by simpa [glI] using this.1,this.2⟩
theorem y0u:∀ (ps:List zg) (g:Nat) (hv:Value) (p:zg),g < ps.length→(glI ps g hv).set g (yd p)=(ps.set g p).map yd
 | [],_,_,p,h=>by simp at h
 | q::ps,0,hv,p,h=>Z
 | q::ps,g+1,hv,p,h=>by
  have:=y0u ps g hv p (by simpa using h)
  show yd q::(glI ps g hv).set g (yd p)=yd q::(ps.set g p).map yd
  rw [this]
theorem y7s (ps:List zg) (g:Nat) (hv:Value) (p:zg) (t:zt) (h:ps[g]?=some p):List.map yd (ps.set g (zg.mk p.Words (p.Params++[t]) p.Quality))=(glI ps g hv).set g ((jj hv p).set 1 (vlst (List.map ym (parI ps g)++[ym t]))):=by
 rw [← y0u ps g hv _ (List.getElem?_eq_some_iff.1 h).1,(z2c ps g hv p h).2]
 congr 1
 simp [jj,yd]
theorem z4o:∀ (ps:List zg) (g:Nat) (hv:Value),UpH hv (List.map ym (parI ps g)) (glI ps g hv) (ps.map yd)
 | [],_,hv=>⟨by simp [glI],fun k c el u h=>by simp at h⟩
 | p::ps,0,hv=>⟨by simp [glI],fun k c el u h1 h2=>by
  cases k with
  | zero =>
   simp only [List.map_cons,List.getElem?_cons_zero,Option.some.injEq] at h1
   subst h1
   refine ⟨jj hv p,?_⟩
   rcases c with _ | _ | _ | c <;> simp only [yd,List.getElem?_cons_succ,List.getElem?_cons_zero,Option.some.injEq,List.getElem?_nil] at h2
   ·subst h2; exact ⟨_,rfl,rfl,.inl rfl⟩
   ·subst h2; exact ⟨_,rfl,rfl,.inr ⟨rfl,rfl⟩⟩
   ·subst h2; exact ⟨_,rfl,rfl,.inl rfl⟩
   ·cases h2
  | succ k=>exact ⟨el,u,by simpa [glI] using h1,h2,.inl Z⟩⟩
 | p::ps,g+1,hv=>⟨by simp only [glI,List.length_cons,List.length_map,jh ps g hv],fun k c el u h1 h2=>by
  cases k with
  | zero=>exact ⟨el,u,by simpa [glI] using h1,h2,.inl Z⟩
  | succ k =>
   obtain ⟨e1,u1,q1,q2,q3⟩:=(z4o ps g hv).2 k c el u (by simpa using h1) h2
   exact ⟨e1,u1,by simpa [glI] using q1,q2,q3⟩⟩
theorem z6f (ps:List zg):∀ el,el∈ps.map yd→el.length=3:=fun el h=>by obtain ⟨p,_,rfl⟩:=List.mem_map.1 h; rfl
open Classical in
theorem z9d {σ ρ:Type} {body:Nat→σ→Option (σ ⊕ ρ)} {fin:σ→Option ρ} {r:ρ}:∀ {n k:Nat} {s:σ},rng body fin n k s=some r→∃ sF,rng body (fun s=>if sF=s then fin s else none) n k s=some r
 | 0,k,s,h=>⟨s,by unfold rng at h ⊢; rw [if_pos Z]; exact h⟩
 | n+1,k,s,h=>by
  unfold rng at h
  cases hb:body k s with
  | none=>rw [hb] at h; cases h
  | some q =>
   rw [hb] at h
   cases q with
   | inl s' =>
    obtain ⟨sF,h1⟩:=z9d (n:=n) (k:=k+1) (s:=s') h
    exact ⟨sF,by unfold rng; rw [hb]; exact h1⟩
   | inr r'=>exact ⟨s,by unfold rng; rw [hb]; exact h⟩
open Classical in
theorem y7y {σ ρ:Type} {sF s:σ} {o:Option ρ} {r:ρ} (h:(if sF=s then o else none)=some r):sF=s∧o=some r:=by
 by_cases hs:sF=s
 ·rw [if_pos hs] at h; exact ⟨hs,h⟩
 ·rw [if_neg hs] at h; cases h
noncomputable def gJ (l:List zg) (c:List Int) (d:Int):Nat:=((vq (zz.mk c d) (l.length:Int)).map fun q=>q.1.toNat).getD 0
noncomputable def itG (s:(List Int)×Int×(List zg)):Nat:=((xj (zz.mk s.1 s.2.1) 8).map fun q=>gJ s.2.2 q.2.L q.2.at_).getD 0
theorem y63 (s1:zz) (r:((List zg)×zz)) (H:z1q s1=some r):Imp Tryz.prog 5 25 (qi s1) [] (zu [vlst (List.map yd r.1)]) (qi r.2):=by
 refine wm (us:=[vlst (List.map yd r.1)]) (cs':=(qi r.2)) (by kernel_rfl) Tryz.func5 Z Z Z Z fun X bl hN => ?_
 unfold z1q at H
 refine zb hN Z (qe Z (zb hN Z (qe Z (zh (zb hN Z (za (ze (.ptr _ _) Z) (bE H fun r2 h3 H=>zl (yh (z6y s1 0 4 r2 h3) Z ⟨.inl Z,.inl Z,U⟩ Z) Z (qd Z (ye (uk 3 1 45 3 Z Z Z (y86 6 47 2 Z Z (gE H fun h9 H=>?_))))))))))))
 obtain ⟨sF,H⟩:=z9d H
 obtain ⟨G,hG⟩:∃ G,G=itG sF:=⟨_,rfl⟩
 refine y82 (γ:=Value) (fun (k7:Nat) (s:(List Int)×Int×(List zg)) (hv:Value)=>[(0,.ptr 0 0),(3,.row 1 s.2.2.length),(7,.dat (vint r2.1)),(8,.dat (vint (k7:Int)))]) (fun (k7:Nat) (s:(List Int)×Int×(List zg)) (hv:Value)=>[(0,.box (some bl) 25 [.dat (vlst (List.map vh s.1)),.dat (vint s.2.1)]),(1,.row 45 3 (glI s.2.2 G hv)),(6,.rowA hv 47 2 (List.map ym (parI s.2.2 G)))]) (r2.2.L,r2.2.at_,[]) (.slice none 0 0) H ⟨Z,Z,Z,Z,U⟩ ⟨Z,Z,Z,U⟩ (fun _ _ _=>Z) ?_ ?_
 ·rintro ⟨c4,c5,l6⟩ hv H
  obtain ⟨hsF,H1⟩:=y7y H
  clear H
  subst hsF
  have H:=H1
  replace H:z4y c4 c5 l6=some r:=H
  unfold z4y at H
  refine zb hN Z (za (yf Z Z) (zh (zi _ Z (fun h=>(z38 h).elim) (fun h => ?_))))
  refine yv (ya (ι:=(List zg)×(List Int)×Int) (fun i=>[(3,.row 1 i.1.length)]) (fun i=>[(0,.box (some bl) 25 [.dat (vlst (List.map vh i.2.1)),.dat (vint i.2.2)]),(1,.row 45 3 (List.map yd i.1))]) (fun i=>ui i.1 i.2.1 i.2.2=some r) (fun i=>Z) ?_ ?_)
  ·skip
   refine ya (ι:=Bool×(List Int)×Int) (fun i=>[(0,.ptr 0 0),(3,.row 1 l6.length),(46,.dat (zf i.1))]) (fun i=>[(0,.box (some bl) 25 [.dat (vlst (List.map vh i.2.1)),.dat (vint i.2.2)]),(1,.row 45 3 (glI l6 G hv)),(6,.rowA hv 47 2 (List.map ym (parI l6 G)))]) (fun i=>Ys l6 i.1 i.2.1 i.2.2=some r∧(i.1=true→G=gJ l6 i.2.1 i.2.2)) (fun i=>Z) ?_ ?_
   ·skip
    refine zn hN Z (za (ze (.row _ _) Z) (zw (yg (z5l jl Z (jh _ _ _).symm) (by rw [jh])) Z ?_))
    refine za (qz Z Z) (qd Z (yc (j:=3) Z Z (fun h10 => ?_) (fun h10 => ?_) Z))
    ·exact u1 h10 H fun h11 H=>zd Z Z h10 (ze (.ptr _ _) Z) (bE H fun r12 h13 H=>z29 Z Z h10 (yh (z6z (zz.mk c4 c5) 8 r12 h13) Z ⟨.inl Z,U⟩ Z) Z (za (zx Z (bTT h11) Z) ⟨(r12.1,r12.2.L,r12.2.at_),⟨H,fun _=>by rw [hG]; simp [itG,h13]⟩,⟨Z,Z,Z,U⟩,⟨Z,Z,Z,U⟩⟩))
    ·exact u2 h10 H fun h14 H=>zc Z Z h10 (zc Z Z h10 (za (zq Z (bFF h14) Z) ⟨(false,c4,c5),⟨H,fun h=>by cases h⟩,⟨Z,Z,Z,U⟩,⟨Z,Z,Z,U⟩⟩))
   ·rintro ⟨v15,c16,c17⟩ ⟨H,hg⟩
    replace H:Ys l6 v15 c16 c17=some r:=H
    unfold Ys at H
    refine zi _ Z (fun h18 => ?_) (fun h18 => ?_)
    ·refine tE h18 H fun H=>?_
     have hG2:=hg h18
     refine zb hN Z (za (ze (.row _ _) Z) (za (ze (.ptr _ _) Z) (za (ze (.row _ _) Z) (zw (yg (z5l jl Z (jh _ _ _).symm) (by rw [jh])) Z ?_))))
     refine bE H fun r19 h20 H=>zl (yh (ug (zz.mk c16 c17) (l6.length:Int) r19 h20) Z ⟨.inl Z,U⟩ Z) Z (bE H fun x21 h22 H=>?_)
     have hG3:G=r19.1.toNat:=by rw [hG2]; simp [gJ,h20]
     clear hG hg hG2
     subst hG3
     refine zw (y29 Qb Z Z (jh _ _ _).symm (by rw [jh]; exact (ji h22).1)) Z ?_
     refine za (wy (.rptr _ _ _ _ _) Z) (zb hN Z (za (ze (.ptr _ _) Z) (bE H fun r23 h24 H=>zl (yh (ug r19.2 3 r23 h24) Z ⟨.inl Z,U⟩ Z) Z (ye (zb hN Z (za (yk Z Z) (qe Z (zi _ Z (fun h25 => ?_) (fun h25 => ?_)))))))))
     ·exact tE h25 H fun H=>z7l 1 6 (List.map yd l6) Z Z (z4o _ _ _) (z6f _) (zn hN Z (za (ze (.rptr _ _ _ _ _) Z) (za (ze (.ptr _ _) Z) (za (yg (u':=vlst (List.map yj [[],[97,32,98],[97,47,98,47,99],[47]])) (qj [[_],[_],[_],[_]] wb ⟨Z,.inl ⟨_,Z,Z,Z⟩,Z,Z,.inl ⟨_,Z,Z,Z⟩,Z,Z,.inl ⟨_,Z,Z,Z⟩,Z,Z,.inl ⟨_,Z,Z,Z⟩,Z,U⟩ Z Z) Z) (bE H fun r26 h27 H=>zl (yh (uf r23.2 ([[],[97,32,98],[97,47,98,47,99],[47]]) r26 h27) Z ⟨.inl Z,U⟩ Z) Z (za (z24 Z) (za (z25 ki Z) (zl (z8m (zg.mk r26.1 x21.Params x21.Quality) tyS9 Z Z Z Z (ji h22).2 Z Z) Z ⟨((l6.set r19.1.toNat (zg.mk r26.1 x21.Params x21.Quality)),r26.2.L,r26.2.at_),H,⟨congrArg (Slot.row 1) (by simp),U⟩,⟨Z,Z,U⟩⟩))))))))
     ·refine fE h25 H fun H=>zb hN Z (za (yk Z Z) (qe Z (zi _ Z (fun h28 => ?_) (fun h28 => ?_))))
      ·exact tE h28 H fun H=>z7l 1 6 (List.map yd l6) Z Z (z4o _ _ _) (z6f _) (zn hN Z (za (ze (.rptr _ _ _ _ _) Z) (za (ze (.ptr _ _) Z) (bE H fun r29 h30 H=>zl (yh (y61 r23.2 0 1000 r29 h30) Z ⟨.inl Z,.inl Z,U⟩ Z) Z (za (z24 Z) (za (z25 jm Z) (zl (z8m (zg.mk x21.Words x21.Params r29.1) tyS3 Z Z Z Z (ji h22).2 Z Z) Z ⟨((l6.set r19.1.toNat (zg.mk x21.Words x21.Params r29.1)),r29.2.L,r29.2.at_),H,⟨congrArg (Slot.row 1) (by simp),U⟩,⟨Z,Z,U⟩⟩)))))))
      ·refine fE h28 H fun H=>wl mixed hN rfl rfl (za (ze (.rptr _ _ _ _ _) rfl) (za (ze (.rptr _ _ _ _ _) rfl) (za (z24 rfl) (za (z25 wv rfl) (zw (y26 wu rfl (jh _ _ _).symm (z2c _ _ _ _ (ji h22).2).1 rfl) rfl (za (ze (.ptr _ _) rfl) (za (yg (u':=vlst (List.map yj [[113],[81],[],[97,32,98],[120]])) (qj [[_],[_],[_],[_],[_]] wb ⟨rfl,.inl ⟨_,rfl,rfl,rfl⟩,rfl,rfl,.inl ⟨_,rfl,rfl,rfl⟩,rfl,rfl,.inl ⟨_,rfl,rfl,rfl⟩,rfl,rfl,.inl ⟨_,rfl,rfl,rfl⟩,rfl,rfl,.inl ⟨_,rfl,rfl,rfl⟩,rfl,trivial⟩ rfl rfl) rfl) (bE H fun r31 h32 H=>zl (yh (uf r23.2 ([[113],[81],[],[97,32,98],[120]]) r31 h32) rfl ⟨.inl rfl,trivial⟩ rfl) rfl (za (ze (.ptr _ _) rfl) (za (yg (u':=vlst (List.map yj [[49],[127],[10]])) (qj [[_],[_],[_]] wb ⟨rfl,.inl ⟨_,rfl,rfl,rfl⟩,rfl,rfl,.inl ⟨_,rfl,rfl,rfl⟩,rfl,rfl,.inl ⟨_,rfl,rfl,rfl⟩,rfl,trivial⟩ rfl rfl) rfl) (bE H fun r33 h34 H=>zl (yh (uf r31.2 ([[49],[127],[10]]) r33 h34) rfl ⟨.inl rfl,trivial⟩ rfl) rfl (za (yg (u':=vagg (ym (zt.mk r31.1 r33.1))) (km [(0,[vstr r31.1]),(1,[vstr r33.1])] xw z2t rfl ⟨rfl,.inl ⟨_,rfl,rfl,rfl⟩,rfl,rfl,.inl ⟨_,rfl,rfl,rfl⟩,rfl,trivial⟩) rfl) (za (yg (u':=vlst [ym (zt.mk r31.1 r33.1)]) (qj [_] un ⟨rfl,.inr rfl,rfl,trivial⟩ rfl rfl) rfl) (gE H fun hap H=>y3r (y2q 6 22 59 un rfl rfl (fun h=>by cases h) (fun h=>by cases h) (by simp) (fun el h=>by simp at h; subst h; rfl) (by rw [List.length_map,(z2c _ _ hv _ (ji h22).2).2]; exact hap) rfl rfl) rfl rfl ?_))))))))))))))
       refine za (z24 Z) (za (z25 wv Z) (z84 (y2z wu Z Z Z (jh _ _ _).symm (z2c _ _ _ _ (ji h22).2).1 Z Z) Z Z ⟨Z,?_⟩))
       exact ⟨((l6.set r19.1.toNat (zg.mk x21.Words (x21.Params++[(zt.mk r31.1 r33.1)]) x21.Quality)),r33.2.L,r33.2.at_),H,⟨congrArg (Slot.row 1) (by simp),U⟩,⟨Z,congrArg (fun es=>some (some (AObj.row 45 3 es))) (y7s l6 r19.1.toNat hv x21 (zt.mk r31.1 r33.1) (ji h22).2).symm,U⟩⟩
    ·exact fE h18 H fun H=>z7l 1 6 (List.map yd l6) Z Z (z4o _ _ _) (z6f _) (zo ⟨(l6,c16,c17),H,⟨Z,U⟩,⟨Z,Z,U⟩⟩)
  ·rintro ⟨v36,c37,c38⟩ H
   replace H:ui v36 c37 c38=some r:=H
   unfold ui at H
   refine zb hN Z (za (ze (.row _ _) Z) (za (wy (.row _ _) Z) (zj ?_)))
   cases H
   exact ⟨U,⟨y2m Z Z,U⟩,Z⟩
 ·rintro k7 ⟨c4,c5,l6⟩ hv q8 h39 H hq8
  replace H:z4w k7 c4 c5 l6=some q8:=H
  unfold z4w at H
  refine wd (zb hN Z (za (yf Z Z) (zh (zi _ Z (fun h => ?_) (fun h=>(z39 h39 h).elim)))))
  refine zo (zh (ye (zb hN Z (za (ze (.ptr _ _) Z) (za (yg (u':=vlst (List.map yj [[97],[116,101,120,116,47,104,116,109,108],[42,47,42],[100,101]])) (qj [[_],[_],[_],[_]] wb ⟨Z,.inl ⟨_,Z,Z,Z⟩,Z,Z,.inl ⟨_,Z,Z,Z⟩,Z,Z,.inl ⟨_,Z,Z,Z⟩,Z,Z,.inl ⟨_,Z,Z,Z⟩,Z,U⟩ Z Z) Z) (bE H fun r40 h41 H=>zl (yh (uf (zz.mk c4 c5) ([[97],[116,101,120,116,47,104,116,109,108],[42,47,42],[100,101]]) r40 h41) Z ⟨.inl Z,U⟩ Z) Z (za (ze (.ptr _ _) Z) (za (yg (u':=vlst (List.map vh [1000,1000,0,500,250,125,10,999])) (qj [[_],[_],[_],[_],[_],[_],[_],[_]] z2u ⟨Z,.inl ⟨_,Z,Z,Z⟩,Z,Z,.inl ⟨_,Z,Z,Z⟩,Z,Z,.inl ⟨_,Z,Z,Z⟩,Z,Z,.inl ⟨_,Z,Z,Z⟩,Z,Z,.inl ⟨_,Z,Z,Z⟩,Z,Z,.inl ⟨_,Z,Z,Z⟩,Z,Z,.inl ⟨_,Z,Z,Z⟩,Z,Z,.inl ⟨_,Z,Z,Z⟩,Z,U⟩ Z Z) Z) (bE H fun r42 h43 H=>zl (yh (z4k r40.2 [1000,1000,0,500,250,125,10,999] r42 h43) Z ⟨.inl Z,U⟩ Z) Z (za (yg (u':=vagg [vstr r40.1,vnil,vint r42.1]) (km [(0,[vstr r40.1]),(2,[vint r42.1])] vy z49 Z ⟨Z,.inl ⟨_,Z,Z,Z⟩,Z,Z,.inl ⟨_,Z,Z,Z⟩,Z,U⟩) Z) (zl (vj 2 vy Z) Z (zl (vi qf Z Z Z Z) Z (z42 2 1 3 47 2 Z Z Z Z (zh (zb hN Z (za (ze (.ptr _ _) Z) (za (yg (u':=vlst (List.map vh [0,0,1,2])) (qj [[_],[_],[_],[_]] z2u ⟨Z,.inl ⟨_,Z,Z,Z⟩,Z,Z,.inl ⟨_,Z,Z,Z⟩,Z,Z,.inl ⟨_,Z,Z,Z⟩,Z,Z,.inl ⟨_,Z,Z,Z⟩,Z,U⟩ Z Z) Z) (bE H fun r44 h45 H=>zl (yh (z4k r42.2 [0,0,1,2] r44 h45) Z ⟨.inl Z,U⟩ Z) Z (qd Z (ye ?_))))))))))))))))))))
  refine gE H fun h51 H=>z7k (fun (k49:Nat) (s:(List zt)×(List Int)×Int)=>[(0,.ptr 0 0),(3,.row 1 l6.length),(4,.ptr 2 0),(7,.dat (vint r2.1)),(8,.dat (vint (k7:Int))),(19,.dat (vint r44.1)),(20,.dat (vint (k49:Int)))]) (fun (k49:Nat) (s:(List zt)×(List Int)×Int)=>[(0,.box (some bl) 25 [.dat (vlst (List.map vh s.2.1)),.dat (vint s.2.2)]),(1,.row 45 3 (glI l6 G hv)),(2,.box none 45 [.dat (vstr r40.1),.row 3 s.1.length,.dat (vint r42.1)]),(3,.row 47 2 (List.map ym s.1)),(6,.rowA hv 47 2 (List.map ym (parI l6 G)))]) (([]:List zt),r44.2.L,r44.2.at_) H ⟨Z,Z,Z,Z,Z,Z,Z,U⟩ ⟨Z,Z,(congrArg (fun n=>some (some (AObj.box none 45 [.dat (vstr r40.1),.row 3 n,.dat (vint r42.1)]))) (show 0=([]:List zt).length from (by simp))),Z,Z,U⟩ (fun _ _=>Z) ?_ ?_
  ·rintro ⟨l46,c47,c48⟩ H
   replace H:z4x l6 r40 r42 l46 c47 c48=some q8:=H
   unfold z4x at H
   refine zb hN Z (za (yf Z Z) (zh (zi _ Z (fun h=>(z38 h).elim) (fun h => ?_))))
   refine yv (y84 (Nat.beq l6.length G) 2 1 3 6 7 Z Z Z (by rw [List.length_map]) Z Z fun hv' hhv => ?_)
   refine zn hN rfl (za (ze (.row _ _) rfl) (zw (kl qf rfl rfl rfl) rfl (za (yg (u':=vlst [cond (Nat.beq l6.length G) (jj hv' (zg.mk r40.1 l46 r42.1)) (yd (zg.mk r40.1 l46 r42.1))]) (qj [_] Qa ⟨rfl,.inr rfl,rfl,trivial⟩ rfl rfl) (by cases Nat.beq l6.length G <;> rfl)) ?_)))
   refine gE H fun h52 H=>zl (y2r Qa Z (jh _ _ _).symm Z (by simp) (by cases Nat.beq l6.length G <;> simp [jj]) (by rw [jh]; exact h52) Z) Z ?_
   refine za (wy (.row _ _) Z) (zn hN Z (za (wj Z Z (by omega)) (qd Z (wg ?_))))
   show Cv _ _ _ _
   exact wn (rn [(7,6)]) [(0,.ptr 0 0),(3,.row 1 (glI l6 G hv++[cond (Nat.beq l6.length G) (jj hv' (zg.mk r40.1 l46 r42.1)) (yd (zg.mk r40.1 l46 r42.1))]).length),(7,.dat (vint r2.1)),(8,.dat (vint ((k7:Int)+1)))] [(0,.box (some bl) 25 [.dat (vlst (List.map vh c47)),.dat (vint c48)]),(1,.row 45 3 (glI l6 G hv++[cond (Nat.beq l6.length G) (jj hv' (zg.mk r40.1 l46 r42.1)) (yd (zg.mk r40.1 l46 r42.1))])),(7,.rowA hv' 47 2 (cond (Nat.beq l6.length G) (List.map ym l46) (List.map ym (parI l6 G))))] ⟨Z,Z,Z,Z,U⟩ ⟨Z,Z,Z,U⟩ Z Z ⟨(c47,c48,(l6++[(zg.mk r40.1 l46 r42.1)])),hv',qc H,⟨Z,congrArg (Slot.row 1) (by simp [jh]),Z,Z,U⟩,⟨Z,congrArg (fun es=>some (some (AObj.row 45 3 es))) (y0v G hv hv' l6 _ hhv),congrArg (fun es=>some (some (AObj.rowA hv' 47 2 es))) (z9k l6 G (zg.mk r40.1 l46 r42.1)).symm,U⟩⟩
  ·rintro k49 ⟨l46,c47,c48⟩ q50 h53 H hq50
   replace H:z4v k49 l46 c47 c48=some q50:=H
   unfold z4v at H
   refine wd (zb hN Z (za (yf Z Z) (zh (zi _ Z (fun h => ?_) (fun h=>(z39 h53 h).elim)))))
   refine zo (zh (ye (wl mixed hN Z Z (za (zk wv Z) (zw (zr wu Z Z) Z (za (ze (.ptr _ _) Z) (za (yg (u':=vlst (List.map yj [[120],[121],[90]])) (qj [[_],[_],[_]] wb ⟨Z,.inl ⟨_,Z,Z,Z⟩,Z,Z,.inl ⟨_,Z,Z,Z⟩,Z,Z,.inl ⟨_,Z,Z,Z⟩,Z,U⟩ Z Z) Z) (bE H fun r54 h55 H=>zl (yh (uf (zz.mk c47 c48) ([[120],[121],[90]]) r54 h55) Z ⟨.inl Z,U⟩ Z) Z (za (ze (.ptr _ _) Z) (za (yg (u':=vlst (List.map yj [[49],[],[97,32,98],[113,34,114],[92],[120,44,121]])) (qj [[_],[_],[_],[_],[_],[_]] wb ⟨Z,.inl ⟨_,Z,Z,Z⟩,Z,Z,.inl ⟨_,Z,Z,Z⟩,Z,Z,.inl ⟨_,Z,Z,Z⟩,Z,Z,.inl ⟨_,Z,Z,Z⟩,Z,Z,.inl ⟨_,Z,Z,Z⟩,Z,Z,.inl ⟨_,Z,Z,Z⟩,Z,U⟩ Z Z) Z) (bE H fun r56 h57 H=>zl (yh (uf r54.2 ([[49],[],[97,32,98],[113,34,114],[92],[120,44,121]]) r56 h57) Z ⟨.inl Z,U⟩ Z) Z (za (yg (u':=vagg (ym (zt.mk r54.1 r56.1))) (km [(0,[vstr r54.1]),(1,[vstr r56.1])] xw z2t Z ⟨Z,.inl ⟨_,Z,Z,Z⟩,Z,Z,.inl ⟨_,Z,Z,Z⟩,Z,U⟩) Z) (za (yg (u':=vlst (List.map ym [(zt.mk r54.1 r56.1)])) (qj [_] un ⟨Z,.inr Z,Z,U⟩ Z Z) Z) (gE H fun h58 H=>zl (jc un (fun _=>Z) Z Z Z ⟨by simp,by first | (simp; done) | simpa using h58⟩ Z) Z ?_))))))))))))))
   refine za (zk wv Z) (z0x (z0t wu Z Z (by rw [List.length_map]) Z) Z Z ?_)
   refine ⟨Z,?_⟩
   refine zn hN Z (za (wj Z Z (by omega)) (qd Z (wg ?_)))
   show Cv _ _ _ _
   exact qu ⟨_,qc H,⟨Z,Z,Z,Z,Z,Z,Z,U⟩,⟨Z,Z,Z,Z,Z,U⟩⟩
theorem z6u (s1:Bs) (low2:Int) (high3:Int) (r:(Bool)) (H:xe s1 low2 high3=some r):Fn Tryz.prog 46 [vstr s1,vval (.int .u8 low2),vval (.int .u8 high3)] (zu [zf r]):=by
 refine ⟨by kernel_rfl,yi (us:=[zf r]) Tryz.func46 Z Z Z Z fun X hN => ?_⟩
 unfold xe at H
 refine zb hN Z (qe Z (zh (zb hN Z (qd Z (za (yr tyU9 Z) (qd Z (ye (gE H fun h6 H=>vf (fun (k4:Nat) (s:Unit)=>[(0,.dat (vstr s1)),(1,.dat (vval (.int .u8 low2))),(2,.dat (vval (.int .u8 high3))),(9,.dat (vint (s1.length:Int))),(10,.dat (vint (k4:Int)))]) (fun (k4:Nat) (s:Unit)=>[]) () H ⟨Z,Z,Z,Z,Z,U⟩ U (fun _ _=>Z) ?_ ?_))))))))
 ·rintro ⟨⟩ H
  replace H:z3k=some r:=H
  unfold z3k at H
  refine zb hN Z (za (yf Z Z) (zh (zi _ Z (fun h=>(lt_t h).elim) (fun h => ?_))))
  refine yv (zb hN Z (qe Z (zj ?_)))
  cases H
  exact ⟨U,.inl Z,U⟩
 ·rintro k4 x7 ⟨⟩ q5 h8 h9 H hq5
  replace H:z3j low2 high3 k4 x7=some q5:=H
  unfold z3j at H
  refine zb hN Z (za (yf Z Z) (zh (zi _ Z (fun h => ?_) (fun h=>(lt_f h8 h).elim))))
  refine zo (zh (ye (zb hN Z (qd Z (qe Z (ya (ι:=Bool) (fun i=>[(0,.dat (vstr s1)),(1,.dat (vval (.int .u8 low2))),(2,.dat (vval (.int .u8 high3))),(9,.dat (vint (s1.length:Int))),(10,.dat (vint (k4:Int))),(24,.dat (zf i))]) (fun i=>[]) (fun i=>Qs i=some q5) (fun i=>Z) ?_ ?_))))))
  ·skip
   refine zn hN Z (qd Z (qd Z (za (yw tyU9 Z Z h9) (qd Z (za (yf Z Z) (qd Z (yc (j:=5) Z Z (fun h10 => ?_) (fun h10 => ?_) Z)))))))
   ·exact u3 h10 H fun h11 H=>zd Z Z h10 (ze (.dat _) Z) (zd Z Z h10 (ze (.dat _) Z) (zd Z Z h10 (yw tyU9 Z Z h9) (zd Z Z h10 (ze (.dat _) Z) (zd Z Z h10 (qz Z Z) (za (zq Z (bFF h11) Z) ⟨decide (high3 < (x7.toNat:Int)),H,⟨Z,Z,Z,Z,Z,Z,U⟩,U⟩)))))
   ·exact u4 h10 H fun h12 H=>zc Z Z h10 (zc Z Z h10 (zc Z Z h10 (zc Z Z h10 (zc Z Z h10 (za (zx Z (bTT h12) Z) ⟨true,H,⟨Z,Z,Z,Z,Z,Z,U⟩,U⟩)))))
  ·rintro v13 H
   replace H:Qs v13=some q5:=H
   unfold Qs at H
   refine zi _ Z (fun h14 => ?_) (fun h14 => ?_)
   ·refine tE h14 H fun H=>zb hN Z (qe Z (zj ?_))
    replace H:=retl H hq5
    cases H
    exact ⟨U,.inl Z,U⟩
   ·exact fE h14 H fun H=>zo (zn hN Z (za (wj Z Z (by omega)) (qd Z ⟨_,qc H,⟨Z,Z,Z,Z,Z,U⟩,U⟩)))
theorem z97 (s1:Bs) (c2:Int) (r:(Bs)) (H:ub s1 c2=some r):Fn Tryz.prog 74 [vstr s1,vval (.int .u8 c2)] (zu [vstr r]):=by
 refine ⟨by kernel_rfl,yi (us:=[vstr r]) Tryz.func74 Z Z Z Z fun X hN => ?_⟩
 unfold ub at H
 refine zb hN Z (qe Z (ya (ι:=Bs) (fun i=>[(0,.dat (vstr i))]) (fun i=>[]) (fun i=>z0q i=some r) (fun i=>Z) ?_ ?_))
 ·skip
  refine ye (jv (fun (s:Bs)=>[(0,.dat (vstr s)),(1,.dat (vval (.int .u8 c2)))]) (fun (s:Bs)=>[]) s1 H ⟨Z,Z,U⟩ U (fun _=>Z) ?_)
  rintro s3 q4 H hq4
  replace H:z0p c2 s3=some q4:=H
  unfold z0p at H
  refine zh (ya (ι:=Bool) (fun i=>[(0,.dat (vstr s3)),(1,.dat (vval (.int .u8 c2))),(16,.dat (zf i))]) (fun i=>[]) (fun i=>Zc s3 i=some q4) (fun i=>Z) ?_ ?_)
  ·skip
   refine zn hN Z (qd Z (za (yr tyU9 Z) (za (qz Z Z) (qd Z (yc (j:=3) Z Z (fun h5 => ?_) (fun h5 => ?_) Z)))))
   ·exact u1 h5 H fun h6 H=>zd Z Z h5 (ze (.dat _) Z) (zd Z Z h5 (ze (.dat _) Z) (zd Z Z h5 (yr tyU9 Z) (zd Z Z h5 (yp _ Z Z (.inr (.inl ⟨Z,Z⟩))) (bE H fun x7 h8 H=>zd Z Z h5 (wi tyU9 Z Z h8) (zd Z Z h5 (ze (.dat _) Z) (zd Z Z h5 (yk Z Z) (za (zx Z (bTT h6) Z) ⟨decide ((x7.toNat:Int)=c2),H,⟨Z,Z,Z,U⟩,U⟩)))))))
   ·exact u2 h5 H fun h9 H=>zc Z Z h5 (zc Z Z h5 (zc Z Z h5 (zc Z Z h5 (zc Z Z h5 (zc Z Z h5 (zc Z Z h5 (za (zq Z (bFF h9) Z) ⟨false,H,⟨Z,Z,Z,U⟩,U⟩)))))))
  ·rintro v10 H
   replace H:Zc s3 v10=some q4:=H
   unfold Zc at H
   refine zi _ Z (fun h11 => ?_) (fun h11 => ?_)
   ·exact tE h11 H fun H=>zo (ye (zn hN Z (qd Z (qd Z (za (yr tyU9 Z) (za (yp _ Z Z (.inr (.inl ⟨Z,Z⟩))) (bE H fun l12 h13 H=>za (qg tyU9 Z Z Z h13) (qe Z ⟨_,qc H,⟨Z,Z,U⟩,U⟩))))))))
   ·refine fE h11 H fun H=>yv ?_
    replace H:=outl H hq4
    exact ⟨s3,H,⟨Z,U⟩,U⟩
 ·rintro s14 H
  replace H:z0q s14=some r:=H
  unfold z0q at H
  refine zb hN Z (qd Z (qe Z (zj ?_)))
  cases H
  exact ⟨U,.inl Z,U⟩
theorem z98 (s1:Bs) (c2:Int) (r:(Bs)) (H:xc s1 c2=some r):Fn Tryz.prog 73 [vstr s1,vval (.int .u8 c2)] (zu [vstr r]):=by
 refine ⟨by kernel_rfl,yi (us:=[vstr r]) Tryz.func73 Z Z Z Z fun X hN => ?_⟩
 unfold xc at H
 refine zb hN Z (qe Z (ya (ι:=Bs) (fun i=>[(0,.dat (vstr i))]) (fun i=>[]) (fun i=>z0s i=some r) (fun i=>Z) ?_ ?_))
 ·skip
  refine ye (jv (fun (s:Bs)=>[(0,.dat (vstr s)),(1,.dat (vval (.int .u8 c2)))]) (fun (s:Bs)=>[]) s1 H ⟨Z,Z,U⟩ U (fun _=>Z) ?_)
  rintro s3 q4 H hq4
  replace H:z0r c2 s3=some q4:=H
  unfold z0r at H
  refine zh (ya (ι:=Bool) (fun i=>[(0,.dat (vstr s3)),(1,.dat (vval (.int .u8 c2))),(13,.dat (zf i))]) (fun i=>[]) (fun i=>Zd s3 i=some q4) (fun i=>Z) ?_ ?_)
  ·skip
   refine zn hN Z (qd Z (za (yr tyU9 Z) (za (qz Z Z) (qd Z (yc (j:=3) Z Z (fun h5 => ?_) (fun h5 => ?_) Z)))))
   ·exact u1 h5 H fun h6 H=>zd Z Z h5 (ze (.dat _) Z) (bE H fun x7 h8 H=>zd Z Z h5 (yw tyU9 Z Z h8) (zd Z Z h5 (ze (.dat _) Z) (zd Z Z h5 (yk Z Z) (za (zx Z (bTT h6) Z) ⟨decide ((x7.toNat:Int)=c2),H,⟨Z,Z,Z,U⟩,U⟩))))
   ·exact u2 h5 H fun h9 H=>zc Z Z h5 (zc Z Z h5 (zc Z Z h5 (zc Z Z h5 (za (zq Z (bFF h9) Z) ⟨false,H,⟨Z,Z,Z,U⟩,U⟩))))
  ·rintro v10 H
   replace H:Zd s3 v10=some q4:=H
   unfold Zd at H
   refine zi _ Z (fun h11 => ?_) (fun h11 => ?_)
   ·exact tE h11 H fun H=>zo (ye (zn hN Z (qd Z (bE H fun l12 h13 H=>za (qg tyU9 Z Z Z h13) (qe Z ⟨_,qc H,⟨Z,Z,U⟩,U⟩)))))
   ·refine fE h11 H fun H=>yv ?_
    replace H:=outl H hq4
    exact ⟨s3,H,⟨Z,U⟩,U⟩
 ·rintro s14 H
  replace H:z0s s14=some r:=H
  unfold z0s at H
  refine zb hN Z (qd Z (qe Z (zj ?_)))
  cases H
  exact ⟨U,.inl Z,U⟩
theorem y0a (s1:Bs) (cutset2:Bs) (r:(Bs)) (H:Wa s1 cutset2=some r):Fn Tryz.prog 47 [vstr s1,vstr cutset2] (zu [vstr r]):=by
 refine ⟨by kernel_rfl,yi (us:=[vstr r]) Tryz.func47 Z Z Z Z fun X hN => ?_⟩
 unfold Wa at H
 refine zb hN Z (qe Z (zh (zb hN Z (qd Z (za (qx Z Z) (qd Z (yu Z Z (fun hc=>ze (.dat _) Z) (yu Z Z (fun hc=>qx (cnd (c:=(!(decide (s1=[])))) hc) Z) (za (ww Z Z (fun hb=>(cnd (c:=(!(decide (s1=[])))) (notI hb)))) (zi _ Z (fun h3 => ?_) (fun h3 => ?_)))))))))))
 ·refine tE h3 H fun H=>zb hN Z (qd Z (qe Z (zj ?_)))
  cases H
  exact ⟨U,.inl Z,U⟩
 ·refine fE h3 H fun H=>zo (zh (ya (ι:=Bool) (fun i=>[(0,.dat (vstr s1)),(1,.dat (vstr cutset2)),(21,.dat (zf i))]) (fun i=>[]) (fun i=>Qd s1 cutset2 i=some r) (fun i=>Z) ?_ ?_))
  ·skip
   refine zn hN Z (qd Z (za (yr tyU9 Z) (za (yk Z Z) (qd Z (yc (j:=3) Z Z (fun h4 => ?_) (fun h4 => ?_) Z)))))
   ·exact u1 h4 H fun h5 H=>zd Z Z h4 (ze (.dat _) Z) (bE H fun x6 h7 H=>zd Z Z h4 (yw tyU9 Z Z h7) (zd Z Z h4 (yf Z Z) (za (zx Z (bTT h5) Z) ⟨decide ((x6.toNat:Int) < 128),H,⟨Z,Z,Z,U⟩,U⟩)))
   ·exact u2 h4 H fun h8 H=>zc Z Z h4 (zc Z Z h4 (zc Z Z h4 (za (zq Z (bFF h8) Z) ⟨false,H,⟨Z,Z,Z,U⟩,U⟩)))
  ·rintro v9 H
   replace H:Qd s1 cutset2 v9=some r:=H
   unfold Qd at H
   refine zi _ Z (fun h10 => ?_) (fun h10 => ?_)
   ·refine tE h10 H fun H=>zh (wl mixed hN Z Z (qd Z (qd Z (bE H fun x11 h12 H=>za (yw tyU9 Z Z h12) (bE H fun r13 h14 H=>za (zp (z97 s1 (x11.toNat:Int) r13 h14) ⟨.inl Z,.inl Z,U⟩) (qd Z (za (yw tyU9 Z Z h12) (bE H fun r15 h16 H=>za (zp (z98 r13 (x11.toNat:Int) r15 h16) ⟨.inl Z,.inl Z,U⟩) (qe Z ⟨Z,?_⟩)))))))))
    refine zj ?_
    cases H
    exact ⟨U,.inl Z,U⟩
   ·refine fE h10 H fun H=>?_
    cases H
theorem y6l (s1:Bs) (r:(Bool)) (H:Wh s1=some r):Fn Tryz.prog 20 [vstr s1] (zu [zf r]):=by
 refine ⟨by kernel_rfl,yi (us:=[zf r]) Tryz.func20 Z Z Z Z fun X hN => ?_⟩
 unfold Wh at H
 refine zb hN Z (qe Z (ya (ι:=Bool) (fun i=>[(2,.dat (zf i))]) (fun i=>[]) (fun i=>Zs i=some r) (fun i=>Z) ?_ ?_))
 ·skip
  refine zn hN Z (qd Z (za (yr tyU9 Z) (za (qy Z Z) (qd Z (yc (j:=3) Z Z (fun h2 => ?_) (fun h2 => ?_) Z)))))
  ·refine u1 h2 H fun h3 H=>zd Z Z h2 (ze (.dat _) Z) (bE H fun r4 h5 H=>zd Z Z h2 (zp (z6u s1 32 126 r4 h5) ⟨.inl Z,.inl Z,.inl Z,U⟩) (za (zx Z (bTT h3) Z) (qd Z (yc (j:=7) Z Z (fun h6 => ?_) (fun h6 => ?_) Z))))
   ·exact u1 h6 H fun h7 H=>zd Z Z h6 (ze (.dat _) Z) (bE H fun r8 h9 H=>zd Z Z h6 (zp (y0a s1 [32] r8 h9) ⟨.inl Z,.inl Z,U⟩) (zd Z Z h6 (ze (.dat _) Z) (zd Z Z h6 (qx Z Z) (za (zx Z (bTT h7) Z) (qe Z ⟨decide (r8=s1),H,⟨Z,U⟩,U⟩)))))
   ·exact u2 h6 H fun h10 H=>zc Z Z h6 (zc Z Z h6 (zc Z Z h6 (zc Z Z h6 (za (zq Z (bFF h10) Z) (qe Z ⟨false,H,⟨Z,U⟩,U⟩)))))
  ·exact u2 h2 H fun h11 H=>zc Z Z h2 (zc Z Z h2 (za (zq Z (bFF h11) Z) (qd Z (zc Z Z Z (zc Z Z Z (zc Z Z Z (zc Z Z Z (za (zq Z Z Z) (qe Z ⟨false,H,⟨Z,U⟩,U⟩)))))))))
 ·rintro v12 H
  replace H:Zs v12=some r:=H
  unfold Zs at H
  refine zj ?_
  cases H
  exact ⟨U,.inl Z,U⟩
theorem z1w (s1:zm) (r:(zm)) (H:xd s1=some r):Imp Tryz.prog 21 53 (vg s1) [] (zu []) (vg r):=by
 refine wm (us:=[]) (cs':=(vg r)) (by kernel_rfl) Tryz.func21 Z Z Z Z fun X bl hN => ?_
 unfold xd at H
 refine ye (jv (fun (s:Int)=>[(0,.ptr 0 0)]) (fun (s:Int)=>[(0,.box (some bl) 53 [.dat (vstr s1.s_),.dat (vint s),.dat (zf s1.bad_)])]) s1.i_ H ⟨Z,U⟩ ⟨Z,U⟩ (fun _=>Z) ?_)
 rintro c2 q3 H hq3
 replace H:kb s1 c2=some q3:=H
 unfold kb at H
 refine zh (ya (ι:=Bool) (fun i=>[(0,.ptr 0 0),(23,.dat (zf i))]) (fun i=>[(0,.box (some bl) 53 [.dat (vstr s1.s_),.dat (vint c2),.dat (zf s1.bad_)])]) (fun i=>Zj s1 c2 i=some q3) (fun i=>Z) ?_ ?_)
 ·skip
  refine wl mixed hN Z Z (za (ze (.ptr _ _) Z) (za (zy Z) (za (zk qq Z) (zw (zr tyS3 Z Z) Z (za (ze (.ptr _ _) Z) (za (zy Z) (za (zk vz Z) (zw (zr tyS9 Z Z) Z (za (yr tyU9 Z) (za (yf Z Z) (qd Z (yc (j:=10) Z Z (fun h4 => ?_) (fun h4 => ?_) Z))))))))))))
  ·refine u1 h4 H fun h5 H=>zd Z Z h4 (ze (.ptr _ _) Z) (zd Z Z h4 (zy Z) (zd Z Z h4 (zk vz Z) (we Z Z h4 (zr tyS9 Z Z) Z (zd Z Z h4 (ze (.ptr _ _) Z) (zd Z Z h4 (zy Z) (zd Z Z h4 (zk qq Z) (we Z Z h4 (zr tyS3 Z Z) Z (bE H fun x6 h7 H=>zd Z Z h4 (wi tyU9 Z Z h7) (zd Z Z h4 (yk Z Z) (za (zx Z (bTT h5) Z) ⟨Z,?_⟩))))))))))
   exact ⟨decide ((x6.toNat:Int)=32),H,⟨Z,Z,U⟩,⟨Z,U⟩⟩
  ·refine u2 h4 H fun h8 H=>zc Z Z h4 (zc Z Z h4 (zc Z Z h4 (zc Z Z h4 (zc Z Z h4 (zc Z Z h4 (zc Z Z h4 (zc Z Z h4 (zc Z Z h4 (zc Z Z h4 (za (zq Z (bFF h8) Z) ⟨Z,?_⟩))))))))))
   exact ⟨false,H,⟨Z,Z,U⟩,⟨Z,U⟩⟩
 ·rintro v9 H
  replace H:Zj s1 c2 v9=some q3:=H
  unfold Zj at H
  refine zi _ Z (fun h10 => ?_) (fun h10 => ?_)
  ·exact tE h10 H fun H=>zo (ye (zn hN Z (za (ze (.ptr _ _) Z) (za (zy Z) (za (zk qq Z) (zw (zr tyS3 Z Z) Z (za (yp _ Z Z (.inl ⟨Z,Z⟩)) (za (zy Z) (za (zk qq Z) (zl (qn tyS3 Z Z Z Z) Z ⟨_,qc H,⟨Z,U⟩,⟨Z,U⟩⟩))))))))))
  ·refine fE h10 H fun H=>yv ?_
   replace H:=retl H hq3
   cases H
   exact ⟨U,U,Z⟩
theorem Wl (s1:zm) (c2:Int) (r:(Bool×zm)) (H:kr s1 c2=some r):Imp Tryz.prog 22 53 (vg s1) [vval (.int .u8 c2)] (zu [zf r.1]) (vg r.2):=by
 refine wm (us:=[zf r.1]) (cs':=(vg r.2)) (by kernel_rfl) Tryz.func22 Z Z Z Z fun X bl hN => ?_
 unfold kr at H
 refine zb hN Z (qe Z (zh (ya (ι:=Bool) (fun i=>[(0,.ptr 0 0),(27,.dat (zf i))]) (fun i=>[(0,.box (some bl) 53 [.dat (vstr s1.s_),.dat (vint s1.i_),.dat (zf s1.bad_)])]) (fun i=>Qn s1 i=some r) (fun i=>Z) ?_ ?_)))
 ·skip
  refine wl mixed hN Z Z (za (ze (.ptr _ _) Z) (za (zy Z) (za (zk qq Z) (zw (zr tyS3 Z Z) Z (za (ze (.ptr _ _) Z) (za (zy Z) (za (zk vz Z) (zw (zr tyS9 Z Z) Z (za (yr tyU9 Z) (za (yf Z Z) (qd Z (yc (j:=10) Z Z (fun h3 => ?_) (fun h3 => ?_) Z))))))))))))
  ·refine u1 h3 H fun h4 H=>zd Z Z h3 (ze (.ptr _ _) Z) (zd Z Z h3 (zy Z) (zd Z Z h3 (zk vz Z) (we Z Z h3 (zr tyS9 Z Z) Z (zd Z Z h3 (ze (.ptr _ _) Z) (zd Z Z h3 (zy Z) (zd Z Z h3 (zk qq Z) (we Z Z h3 (zr tyS3 Z Z) Z (bE H fun x5 h6 H=>zd Z Z h3 (wi tyU9 Z Z h6) (zd Z Z h3 (ze (.dat _) Z) (zd Z Z h3 (yk Z Z) (za (zx Z (bTT h4) Z) ⟨Z,?_⟩)))))))))))
   exact ⟨decide ((x5.toNat:Int)=c2),H,⟨Z,Z,U⟩,⟨Z,U⟩⟩
  ·refine u2 h3 H fun h7 H=>zc Z Z h3 (zc Z Z h3 (zc Z Z h3 (zc Z Z h3 (zc Z Z h3 (zc Z Z h3 (zc Z Z h3 (zc Z Z h3 (zc Z Z h3 (zc Z Z h3 (zc Z Z h3 (za (zq Z (bFF h7) Z) ⟨Z,?_⟩)))))))))))
   exact ⟨false,H,⟨Z,Z,U⟩,⟨Z,U⟩⟩
 ·rintro v8 H
  replace H:Qn s1 v8=some r:=H
  unfold Qn at H
  refine zi _ Z (fun h9 => ?_) (fun h9 => ?_)
  ·refine tE h9 H fun H=>zb hN Z (za (ze (.ptr _ _) Z) (za (zy Z) (za (zk qq Z) (zw (zr tyS3 Z Z) Z (za (yp _ Z Z (.inl ⟨Z,Z⟩)) (za (zy Z) (za (zk qq Z) (zl (qn tyS3 Z Z Z Z) Z (zb hN Z (qe Z (zj ?_)))))))))))
   cases H
   exact ⟨U,⟨.inl Z,U⟩,Z⟩
  ·refine fE h9 H fun H=>zo (zb hN Z (qe Z (zj ?_)))
   cases H
   exact ⟨U,⟨.inl Z,U⟩,Z⟩
theorem y0g (c1:Int) (r:(Bool)) (H:z3x c1=some r):Fn Tryz.prog 107 [vval (.int .u8 c1)] (zu [zf r]):=by
 refine ⟨by kernel_rfl,yi (us:=[zf r]) Tryz.func107 Z Z Z Z fun X hN => ?_⟩
 unfold z3x at H
 refine zb hN Z (qe Z (zb hN Z (qd Z (za (vc Z Z) (qd Z (yx Z Z (fun hc=>ze (.dat _) Z) (yx Z Z (fun hc=>qy (cnd (c:=(decide (97≤c1))) hc) Z) (za (wc Z (fun hb=>(cnd (c:=(decide (97≤c1))) hb)) Z) (qd Z (yu Z Z (fun hc=>ze (.dat _) Z) (yu Z Z (fun hc=>vc (cnd (c:=(!((decide (97≤c1)) && (decide (c1≤122))))) hc) Z) (yu Z Z (fun hc=>ze (.dat _) (cnd (c:=(!((decide (97≤c1)) && (decide (c1≤122))))) hc)) (vo Z Z (fun hc=>ze (.dat _) Z) (vo Z Z (fun hc=>qy (cnd (c:=((!((decide (97≤c1)) && (decide (c1≤122)))) && (decide (65≤c1)))) hc) Z) (yu Z Z (fun hc=>wc (cnd (c:=(!((decide (97≤c1)) && (decide (c1≤122))))) hc) (fun hb=>(cnd (c:=((!((decide (97≤c1)) && (decide (c1≤122)))) && (decide (65≤c1)))) (andI hc hb))) Z) (za (ww Z Z (fun hb=>(cnd (c:=(!((decide (97≤c1)) && (decide (c1≤122))))) (notI hb)))) (qe Z (zj ?_))))))))))))))))))
 cases H
 exact ⟨U,.inl Z,U⟩
theorem z6v (c1:Int) (r:(Bool)) (H:z1a c1=some r):Fn Tryz.prog 108 [vval (.int .u8 c1)] (zu [zf r]):=by
 refine ⟨by kernel_rfl,yi (us:=[zf r]) Tryz.func108 Z Z Z Z fun X hN => ?_⟩
 unfold z1a at H
 refine zb hN Z (qe Z (zb hN Z (qd Z (za (vc Z Z) (qd Z (yx Z Z (fun hc=>ze (.dat _) Z) (yx Z Z (fun hc=>qy (cnd (c:=(decide (48≤c1))) hc) Z) (za (wc Z (fun hb=>(cnd (c:=(decide (48≤c1))) hb)) Z) (qe Z (zj ?_))))))))))
 cases H
 exact ⟨U,.inl Z,U⟩
theorem z6s (l:Bs) (c r:Int) (H:z06 l c=some r):Fn Tryz.prog 93 [vstr l,vval (.int .u8 c)] (zu [vint r]):=by
 cases H
 refine y01 (by kernel_rfl) fun M w vs h => ?_
 have h1:=jw (us:=[.string ⟨l.toArray⟩,.int .u8 c]) h
 subst h1
 refine (Tryz.strings_IndexByte ⟨l.toArray⟩ c w).mono ?_
 rintro e w' ⟨rfl,rfl⟩
 exact ⟨_,Z,Z,Kp.refl _ _⟩
theorem y0e (c1:Int) (r:(Bool)) (H:Wd c1=some r):Fn Tryz.prog 80 [vval (.int .u8 c1)] (zu [zf r]):=by
 refine ⟨by kernel_rfl,yi (us:=[zf r]) Tryz.func80 Z Z Z Z fun X hN => ?_⟩
 unfold Wd at H
 refine zb hN Z (qe Z (ya (ι:=Bool) (fun i=>[(2,.dat (zf i))]) (fun i=>[]) (fun i=>Qr i=some r) (fun i=>Z) ?_ ?_))
 ·skip
  refine zn hN Z (qd Z (bE H fun r2 h3 H=>za (zp (y0g c1 r2 h3) ⟨.inl Z,U⟩) (qd Z (yc (j:=2) Z Z (fun h4 => ?_) (fun h4 => ?_) Z))))
  ·refine u3 h4 H fun h5 H=>zd Z Z h4 (ze (.dat _) Z) (bE H fun r6 h7 H=>zd Z Z h4 (zp (z6v c1 r6 h7) ⟨.inl Z,U⟩) (za (zq Z (bFF h5) Z) (qd Z (yc (j:=6) Z Z (fun h8 => ?_) (fun h8 => ?_) Z))))
   ·exact u3 h8 H fun h9 H=>zd Z Z h8 (ze (.dat _) Z) (bE H fun r10 h11 H=>zd Z Z h8 (zp (z6s [33,35,36,37,38,39,42,43,45,46,94,95,96,124,126] c1 r10 h11) ⟨.inl Z,.inl Z,U⟩) (zd Z Z h8 (vc Z Z) (za (zq Z (bFF h9) Z) (qe Z ⟨decide (0≤r10),H,⟨Z,U⟩,U⟩))))
   ·exact u4 h8 H fun h12 H=>zc Z Z h8 (zc Z Z h8 (zc Z Z h8 (za (zx Z (bTT h12) Z) (qe Z ⟨true,H,⟨Z,U⟩,U⟩))))
  ·exact u4 h4 H fun h13 H=>zc Z Z h4 (zc Z Z h4 (za (zx Z (bTT h13) Z) (qd Z (zc Z Z Z (zc Z Z Z (zc Z Z Z (za (zx Z Z Z) (qe Z ⟨true,H,⟨Z,U⟩,U⟩))))))))
 ·rintro v14 H
  replace H:Qr v14=some r:=H
  unfold Qr at H
  refine zj ?_
  cases H
  exact ⟨U,.inl Z,U⟩
theorem z1x (s1:Bs) (r:(Bool)) (H:ud s1=some r):Fn Tryz.prog 59 [vstr s1] (zu [zf r]):=by
 refine ⟨by kernel_rfl,yi (us:=[zf r]) Tryz.func59 Z Z Z Z fun X hN => ?_⟩
 unfold ud at H
 refine zb hN Z (qe Z (zh (zb hN Z (qd Z (za (yr tyU9 Z) (qd Z (ye (gE H fun h4 H=>vf (fun (k2:Nat) (s:Unit)=>[(0,.dat (vstr s1)),(5,.dat (vint (s1.length:Int))),(6,.dat (vint (k2:Int)))]) (fun (k2:Nat) (s:Unit)=>[]) () H ⟨Z,Z,Z,U⟩ U (fun _ _=>Z) ?_ ?_))))))))
 ·rintro ⟨⟩ H
  replace H:z6c s1=some r:=H
  unfold z6c at H
  refine zb hN Z (za (yf Z Z) (zh (zi _ Z (fun h=>(lt_t h).elim) (fun h => ?_))))
  refine yv (zb hN Z (qd Z (za (kj Z Z) (qd Z (yx Z Z (fun hc=>ze (.dat _) Z) (yx Z Z (fun hc=>yr tyU9 (cnd (c:=(decide (s1≠[]))) hc)) (yx Z Z (fun hc=>qy (cnd (c:=(decide (s1≠[]))) hc) Z) (za (wc Z (fun hb=>(cnd (c:=(decide (s1≠[]))) hb)) Z) (qe Z (zj ?_))))))))))
  cases H
  exact ⟨U,.inl Z,U⟩
 ·rintro k2 x5 ⟨⟩ q3 h6 h7 H hq3
  replace H:z3n k2 x5=some q3:=H
  unfold z3n at H
  refine zb hN Z (za (yf Z Z) (zh (zi _ Z (fun h => ?_) (fun h=>(lt_f h6 h).elim))))
  refine zo (zh (ye (zb hN Z (qd Z (qe Z (zb hN Z (qd Z (qd Z (za (yw tyU9 Z Z h7) (bE H fun r8 h9 H=>za (zp (y0e (x5.toNat:Int) r8 h9) ⟨.inl Z,U⟩) (za (yt Z) (zi _ Z (fun h10 => ?_) (fun h10 => ?_)))))))))))))
  ·refine tE h10 H fun H=>zb hN Z (qe Z (zj ?_))
   replace H:=retl H hq3
   cases H
   exact ⟨U,.inl Z,U⟩
  ·exact fE h10 H fun H=>zo (zn hN Z (za (wj Z Z (by omega)) (qd Z ⟨_,qc H,⟨Z,Z,Z,U⟩,U⟩)))
theorem z4h (s1:zm) (r:(Bs×zm)) (H:Zy s1=some r):Imp Tryz.prog 48 53 (vg s1) [] (zu [vstr r.1]) (vg r.2):=by
 refine wm (us:=[vstr r.1]) (cs':=(vg r.2)) (by kernel_rfl) Tryz.func48 Z Z Z Z fun X bl hN => ?_
 unfold Zy at H
 refine zb hN Z (qe Z (zb hN Z (za (ze (.ptr _ _) Z) (za (zy Z) (za (zk qq Z) (zw (zr tyS3 Z Z) Z (qe Z (ya (ι:=Int) (fun i=>[(0,.ptr 0 0),(3,.dat (vint s1.i_))]) (fun i=>[(0,.box (some bl) 53 [.dat (vstr s1.s_),.dat (vint i),.dat (zf s1.bad_)])]) (fun i=>uw s1 i=some r) (fun i=>Z) ?_ ?_))))))))
 ·skip
  refine ye (jv (fun (s:Int)=>[(0,.ptr 0 0),(3,.dat (vint s1.i_))]) (fun (s:Int)=>[(0,.box (some bl) 53 [.dat (vstr s1.s_),.dat (vint s),.dat (zf s1.bad_)])]) s1.i_ H ⟨Z,Z,U⟩ ⟨Z,U⟩ (fun _=>Z) ?_)
  rintro c2 q3 H hq3
  replace H:ka s1 c2=some q3:=H
  unfold ka at H
  refine zh (ya (ι:=Bool) (fun i=>[(0,.ptr 0 0),(3,.dat (vint s1.i_)),(30,.dat (zf i))]) (fun i=>[(0,.box (some bl) 53 [.dat (vstr s1.s_),.dat (vint c2),.dat (zf s1.bad_)])]) (fun i=>Zi s1 c2 i=some q3) (fun i=>Z) ?_ ?_)
  ·skip
   refine wl mixed hN Z Z (za (ze (.ptr _ _) Z) (za (zy Z) (za (zk qq Z) (zw (zr tyS3 Z Z) Z (za (ze (.ptr _ _) Z) (za (zy Z) (za (zk vz Z) (zw (zr tyS9 Z Z) Z (za (yr tyU9 Z) (za (yf Z Z) (qd Z (yc (j:=10) Z Z (fun h4 => ?_) (fun h4 => ?_) Z))))))))))))
   ·refine u1 h4 H fun h5 H=>zd Z Z h4 (ze (.ptr _ _) Z) (zd Z Z h4 (zy Z) (zd Z Z h4 (zk vz Z) (we Z Z h4 (zr tyS9 Z Z) Z (zd Z Z h4 (ze (.ptr _ _) Z) (zd Z Z h4 (zy Z) (zd Z Z h4 (zk qq Z) (we Z Z h4 (zr tyS3 Z Z) Z (bE H fun x6 h7 H=>zd Z Z h4 (wi tyU9 Z Z h7) (bE H fun r8 h9 H=>zd Z Z h4 (zp (y0e (x6.toNat:Int) r8 h9) ⟨.inl Z,U⟩) (za (zx Z (bTT h5) Z) ⟨Z,?_⟩))))))))))
    exact ⟨r8,H,⟨Z,Z,Z,U⟩,⟨Z,U⟩⟩
   ·refine u2 h4 H fun h10 H=>zc Z Z h4 (zc Z Z h4 (zc Z Z h4 (zc Z Z h4 (zc Z Z h4 (zc Z Z h4 (zc Z Z h4 (zc Z Z h4 (zc Z Z h4 (zc Z Z h4 (za (zq Z (bFF h10) Z) ⟨Z,?_⟩))))))))))
    exact ⟨false,H,⟨Z,Z,Z,U⟩,⟨Z,U⟩⟩
  ·rintro v11 H
   replace H:Zi s1 c2 v11=some q3:=H
   unfold Zi at H
   refine zi _ Z (fun h12 => ?_) (fun h12 => ?_)
   ·exact tE h12 H fun H=>zo (ye (zn hN Z (za (ze (.ptr _ _) Z) (za (zy Z) (za (zk qq Z) (zw (zr tyS3 Z Z) Z (za (yp _ Z Z (.inl ⟨Z,Z⟩)) (za (zy Z) (za (zk qq Z) (zl (qn tyS3 Z Z Z Z) Z ⟨_,qc H,⟨Z,Z,U⟩,⟨Z,U⟩⟩))))))))))
   ·refine fE h12 H fun H=>yv ?_
    replace H:=outl H hq3
    exact ⟨c2,H,⟨Z,Z,U⟩,⟨Z,U⟩⟩
 ·rintro c13 H
  replace H:uw s1 c13=some r:=H
  unfold uw at H
  refine zh (wl mixed hN Z Z (za (ze (.ptr _ _) Z) (za (zy Z) (za (zk vz Z) (zw (zr tyS9 Z Z) Z (qd Z (za (ze (.ptr _ _) Z) (za (zy Z) (za (zk qq Z) (zw (zr tyS3 Z Z) Z (bE H fun l14 h15 H=>za (qg tyU9 Z Z Z h15) (qe Z ⟨Z,?_⟩))))))))))))
  refine ya (ι:=Bool) (fun i=>[(4,.dat (vstr l14))]) (fun i=>[(0,.box (some bl) 53 [.dat (vstr s1.s_),.dat (vint c13),.dat (zf i)])]) (fun i=>Ql s1 c13 l14 i=some r) (fun i=>Z) ?_ ?_
  ·skip
   refine zn hN Z (za (ze (.ptr _ _) Z) (za (ze (.ptr _ _) Z) (za (zy Z) (za (zk va Z) (zw (zr tyS4 Z Z) Z (qd Z (yc (j:=5) Z Z (fun h16 => ?_) (fun h16 => ?_) Z)))))))
   ·exact u3 h16 H fun h17 H=>zd Z Z h16 (ze (.dat _) Z) (bE H fun r18 h19 H=>zd Z Z h16 (zp (z1x l14 r18 h19) ⟨.inl Z,U⟩) (zd Z Z h16 (yt Z) (za (zq Z (bFF h17) Z) (za (zy Z) (za (zk va Z) (zl (qn tyS4 Z Z Z Z) Z ⟨!r18,H,⟨Z,U⟩,⟨Z,U⟩⟩))))))
   ·exact u4 h16 H fun h20 H=>zc Z Z h16 (zc Z Z h16 (zc Z Z h16 (za (zx Z (bTT h20) Z) (za (zy Z) (za (zk va Z) (zl (qn tyS4 Z Z Z Z) Z ⟨true,H,⟨Z,U⟩,⟨Z,U⟩⟩))))))
  ·rintro c21 H
   replace H:Ql s1 c13 l14 c21=some r:=H
   unfold Ql at H
   refine zb hN Z (qd Z (qe Z (zj ?_)))
   cases H
   exact ⟨U,⟨.inl Z,U⟩,Z⟩
end Go.Proofs.YtpjjkhcojjcdpaaGreatDoor
