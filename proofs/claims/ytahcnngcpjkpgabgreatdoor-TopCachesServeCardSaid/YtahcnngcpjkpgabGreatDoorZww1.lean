/- Walks along the models. Printed by a program. -/
import Derived.Test.YtahcnngcpjkpgabGreatDoorZwc
namespace Go.Proofs.YtahcnngcpjkpgabGreatDoor
open Go.RowKit
set_option linter.unusedVariables false
set_option maxRecDepth 100000
set_option maxHeartbeats 2000000
theorem y88 (x1:Int) (n2:Int) (r:(Int)) (H:z2t x1 n2=some r):Fn Tryz.prog 122 [vint x1,vint n2] (zr [vint r]):=by
 refine ⟨by kernel_rfl,yf (us:=[vint r]) Tryz.func122 Z Z Z Z fun X hN => ?_⟩
 unfold z2t at H
 refine zb hN Z (qe Z (zd (zb hN Z (qd Z (za (ye Z Z) (zh _ Z (fun h3 => ?_) (fun h3 => ?_)))))))
 ·refine tE h3 H fun H=>zb hN Z (qe Z (zk ?_))
  cases H
  exact ⟨U,.inl Z,U⟩
 ·refine fE h3 H fun H=>zn (zb hN Z (qd Z (qd Z (gE H fun h4 H=>za (x2e Z Z h4) (qe Z (yg (ι:=Int) (fun i=>[(0,.dat (vint i))]) (fun i=>[]) (fun i=>z60 i=some r) (fun i=>Z) ?_ ?_))))))
  ·skip
   refine zb hN Z (qd Z (za (ye Z Z) (zh _ Z (fun h5 => ?_) (fun h5 => ?_))))
   ·exact tE h5 H fun H=>zj hN Z (qd Z (qd Z (za (ym _ Z Z (.inl ⟨Z,Z⟩)) (qe Z ⟨wr ((Int.tmod x1 n2)+n2),H,⟨Z,U⟩,U⟩))))
   ·exact fE h5 H fun H=>zn ⟨(Int.tmod x1 n2),H,⟨Z,U⟩,U⟩
  ·rintro x6 H
   replace H:z60 x6=some r:=H
   unfold z60 at H
   refine zb hN Z (qd Z (qe Z (zk ?_)))
   cases H
   exact ⟨U,.inl Z,U⟩
theorem z22 (s1:zu) (n2:Int) (r:(Int×zu)) (H:Zw s1 n2=some r):Imp Tryz.prog 55 25 (wg s1) [vint n2] (zr [vint r.1]) (wg r.2):=by
 refine uf (us:=[vint r.1]) (cs':=(wg r.2)) (by kernel_rfl) Tryz.func55 Z Z Z Z fun X bl hN => ?_
 unfold Zw at H
 refine zb hN Z (qe Z (zb hN Z (za (ze (.ptr _ _) Z) (za (qn Z) (za (zq z7v Z) (zm (zt tyS3 Z Z) Z (za (ym _ Z Z (.inl ⟨Z,Z⟩)) (za (qn Z) (za (zq z7v Z) (zl (jn tyS3 Z Z Z Z) Z (zd (zb hN Z (za (ze (.ptr _ _) Z) (za (qn Z) (za (zq y1i Z) (zm (zt y1c Z Z) Z (za (qh z7o Z) (za (yq Z Z) (zh _ Z (fun h3 => ?_) (fun h3 => ?_))))))))))))))))))))
 ·refine tE h3 H fun H=>zb hN Z (za (ze (.ptr _ _) Z) (za (qn Z) (za (zq z7v Z) (zm (zt tyS3 Z Z) Z (za (ym _ Z Z (.inr (.inr ⟨Z,Z⟩))) (qd Z (bE H fun r4 h5 H=>za (zo (y88 (wr ((wr (s1.at_+1)) * 7919)) n2 r4 h5) ⟨.inl Z,.inl Z,U⟩) (qe Z (zk ?_)))))))))
  cases H
  exact ⟨U,⟨.inl Z,U⟩,Z⟩
 ·refine fE h3 H fun H=>zn (zd (ww mixed hN Z Z (za (ze (.ptr _ _) Z) (za (qn Z) (za (zq z7v Z) (zm (zt tyS3 Z Z) Z (za (ym _ Z Z (.inr (.inl ⟨Z,Z⟩))) (za (ze (.ptr _ _) Z) (za (qn Z) (za (zq y1i Z) (zm (zt y1c Z Z) Z (za (qh z7o Z) (gE H fun h6 H=>za (x2e Z Z h6) (qe Z ⟨Z,?_⟩))))))))))))))
  refine zd (ww mixed hN Z Z (za (ze (.ptr _ _) Z) (za (qn Z) (za (zq z7v Z) (zm (zt tyS3 Z Z) Z (za (ym _ Z Z (.inr (.inl ⟨Z,Z⟩))) (za (ze (.ptr _ _) Z) (za (qn Z) (za (zq y1i Z) (zm (zt y1c Z Z) Z (za (qh z7o Z) (gE H fun h7 H=>za (x2f Z Z h7.1 h7.2) (qe Z ⟨Z,?_⟩)))))))))))))
  refine zb hN Z (za (ze (.ptr _ _) Z) (za (qn Z) (za (zq y1i Z) (zm (zt y1c Z Z) Z (qd Z (bE H fun x8 h9 H=>za (Qb Qa (fun _=>Z) Z Z h9) (za (wh tyS3 Z (qp (vt h9).2) Z) (bE H fun r10 h11 H=>za (zo (y88 x8 1073741824 r10 h11) ⟨.inl Z,.inl Z,U⟩) (qd Z (qd Z (za (ym _ Z Z (.inl ⟨Z,Z⟩)) (za (ym _ Z Z (.inr (.inr ⟨Z,Z⟩))) (za (ym _ Z Z (.inl ⟨Z,Z⟩)) (qd Z (bE H fun r12 h13 H=>za (zo (y88 (wr (r10+(wr (((wr ((wr (s1.at_+1)) - 1)) / (s1.L.length:Int)) * (wr (7919+(Int.tmod (wr ((wr (s1.at_+1)) - 1)) (s1.L.length:Int)))))))) n2 r12 h13) ⟨.inl Z,.inl Z,U⟩) (qe Z (zk ?_)))))))))))))))))
  cases H
  exact ⟨U,⟨.inl Z,U⟩,Z⟩
theorem y87 (s1:zu) (l2:(List Int)) (r:(Int×zu)) (H:z2s s1 l2=some r):Imp Tryz.prog 13 25 (wg s1) [vlst (List.map qx l2)] (zr [vint r.1]) (wg r.2):=by
 refine uf (us:=[vint r.1]) (cs':=(wg r.2)) (by kernel_rfl) Tryz.func13 Z Z Z Z fun X bl hN => ?_
 unfold z2s at H
 refine zb hN Z (qe Z (zb hN Z (qd Z (za (ze (.ptr _ _) Z) (qd Z (za (qh z7o Z) (bE H fun r3 h4 H=>zl (yu (z22 s1 (l2.length:Int) r3 h4) Z ⟨.inl Z,U⟩ Z) Z (bE H fun x5 h6 H=>za (Qb Qa (fun _=>Z) Z Z h6) (za (wh tyS3 Z (qp (vt h6).2) Z) (qe Z (zk ?_)))))))))))
 cases H
 exact ⟨U,⟨.inl Z,U⟩,Z⟩
theorem x5t (s:Bs) (n:Int) (r:Bs) (H:z2c s n=some r):Fn Tryz.prog 23 [vstr s,vint n] (zr [vstr r]):=by
 obtain ⟨h0,h1,h2,rfl⟩:=w35 H
 obtain ⟨c,rfl⟩:=Int.eq_ofNat_of_zero_le h0
 refine y4r (by kernel_rfl) fun M w vs h => ?_
 have hv:=ui (us:=[.string ⟨s.toArray⟩,.int .i64 c]) h
 subst hv
 have hs:(ByteArray.mk s.toArray).size=s.length:=by simp [ByteArray.size]
 refine (Tryz.strings_Repeat ⟨s.toArray⟩ c w (by omega) (by rw [hs]; exact Nat.le_trans (Nat.mul_le_mul h2 (show c≤1000000 by omega)) (by decide))).mono ?_
 rintro e w' ⟨rfl,hb⟩
 exact ⟨_,Z,by simp [zr,vstr,vval],Kp.of_below hb⟩
theorem jw (s1:zu) (l2:(List Bs)) (r:(Bs×zu)) (H:vr s1 l2=some r):Imp Tryz.prog 22 25 (wg s1) [vlst (List.map zx l2)] (zr [vstr r.1]) (wg r.2):=by
 refine uf (us:=[vstr r.1]) (cs':=(wg r.2)) (by kernel_rfl) Tryz.func22 Z Z Z Z fun X bl hN => ?_
 unfold vr at H
 refine zb hN Z (qe Z (zb hN Z (qd Z (za (ze (.ptr _ _) Z) (qd Z (za (qh wl Z) (bE H fun r3 h4 H=>zl (yu (z22 s1 (l2.length:Int) r3 h4) Z ⟨.inl Z,U⟩ Z) Z (bE H fun x5 h6 H=>za (Qb vp (fun _=>Z) Z Z h6) (za (wh tyS9 Z (qp (vt h6).2) Z) (qe Z (zk ?_)))))))))))
 cases H
 exact ⟨U,⟨.inl Z,U⟩,Z⟩
theorem kn (s1:zu) (n2:Int) (r:(Bool×zu)) (H:jl s1 n2=some r):Imp Tryz.prog 25 25 (wg s1) [vint n2] (zr [zi r.1]) (wg r.2):=by
 refine uf (us:=[zi r.1]) (cs':=(wg r.2)) (by kernel_rfl) Tryz.func25 Z Z Z Z fun X bl hN => ?_
 unfold jl at H
 refine zb hN Z (qe Z (zb hN Z (za (ze (.ptr _ _) Z) (qd Z (bE H fun r3 h4 H=>zl (yu (z22 s1 n2 r3 h4) Z ⟨.inl Z,U⟩ Z) Z (za (yq Z Z) (qe Z (zk ?_))))))))
 cases H
 exact ⟨U,⟨.inl Z,U⟩,Z⟩
theorem z9v (s1:zu) (low2:Int) (high3:Int) (r:(Int×zu)) (H:Qv s1 low2 high3=some r):Imp Tryz.prog 70 25 (wg s1) [vint low2,vint high3] (zr [vint r.1]) (wg r.2):=by
 refine uf (us:=[vint r.1]) (cs':=(wg r.2)) (by kernel_rfl) Tryz.func70 Z Z Z Z fun X bl hN => ?_
 unfold Qv at H
 refine zb hN Z (qe Z (zd (zb hN Z (qd Z (qd Z (za (ye Z Z) (zh _ Z (fun h4 => ?_) (fun h4 => ?_))))))))
 ·refine tE h4 H fun H=>zb hN Z (qd Z (qe Z (zk ?_)))
  cases H
  exact ⟨U,⟨.inl Z,U⟩,Z⟩
 ·refine fE h4 H fun H=>zn (zb hN Z (qd Z (za (ze (.ptr _ _) Z) (qd Z (qd Z (za (ym _ Z Z (.inr (.inl ⟨Z,Z⟩))) (za (ym _ Z Z (.inl ⟨Z,Z⟩)) (bE H fun r5 h6 H=>zl (yu (z22 s1 (wr ((wr (high3 - low2))+1)) r5 h6) Z ⟨.inl Z,U⟩ Z) Z (za (ym _ Z Z (.inl ⟨Z,Z⟩)) (qe Z (zk ?_)))))))))))
  cases H
  exact ⟨U,⟨.inl Z,U⟩,Z⟩
theorem y8y (l:List Bs) (sep r:Bs) (H:ji l sep=some r):Fn Tryz.prog 71 [vlst (List.map zx l),vstr sep] (zr [vstr r]):=by
 obtain ⟨h1,h2,rfl⟩:=w8g H
 refine Yb (by kernel_rfl) fun M w vs hM h => ?_
 obtain ⟨hl,hv⟩:=h
 obtain ⟨a,ha,hap⟩:=hv 0 _ rfl
 obtain ⟨s,hs,hsp⟩:=hv 1 _ rfl
 have hsp:s = .string ⟨sep.toArray⟩:=hsp
 subst hsp
 have hvs:vs.toArray = #[a,.string ⟨sep.toArray⟩]:=by
  rcases vs with _ | ⟨x,_ | ⟨y,_ | ⟨z,t⟩⟩⟩
  ·cases ha
  ·cases hs
  ·cases ha; cases hs; rfl
  ·simp at hl
 rw [hvs]
 obtain ⟨A,c,q1,q2,q3⟩:=hap
 simp only [List.length_map] at q1 q2
 subst q1
 by_cases hne:l=[]
 ·subst hne
  refine (Tryz.strings_Join_none A c ⟨sep.toArray⟩ w).mono ?_
  rintro e w' ⟨rfl,rfl⟩
  exact ⟨_,Z,Z,Kp.refl _ _⟩
 ·obtain ⟨b,off,size,rfl,hMb,arr,t,fz,q5,q6,q7⟩:=q3 (by simpa using hne)
  have hsz:size=1:=by
   cases hq:l with
   | nil=>exact absurd hq hne
   | cons x l'=>have:=q6 (zx x) (by rw [hq]; simp); simpa using this.symm
  subst hsz
  have e1:((l.map fun x=>ByteArray.mk x.toArray).map (·.data.toList))=l:=by
   rw [List.map_map]
   exact (List.map_congr_left fun x _=>Z).trans (List.map_id l)
  have hj:=Tryz.strings_Join b off c (l.map fun x=>ByteArray.mk x.toArray) ⟨sep.toArray⟩ w (fun j x hx=>by
   rw [List.getElem?_map] at hx
   cases hq:l[j]? with
   | none=>rw [hq] at hx; cases hx
   | some y =>
    rw [hq] at hx
    cases hx
    obtain ⟨v,r1,r2,_⟩:=q7 j 0 (zx y) (vstr y) (by rw [List.getElem?_map,hq]; rfl) rfl
    have r2:v = .string ⟨y.toArray⟩:=r2
    rw [cell_of_row w b _ _ _ _ q5]
    simp only [Nat.mul_one,Nat.add_zero] at r1
    rw [r1,r2]) (z00 q5) (by simp; omega) (by simpa using q2) (by rw [e1]; simp only; omega)
  rw [List.length_map,e1] at hj
  refine hj.mono ?_
  rintro e w' ⟨rfl,hb⟩
  exact ⟨_,Z,Z,Kp.of_below hb⟩
theorem z2z (s1:zu) (many2:Int) (between3:Bs) (l4:(List Bs)) (r:(Bs×zu)) (H:uo s1 many2 between3 l4=some r):Imp Tryz.prog 27 25 (wg s1) [vint many2,vstr between3,vlst (List.map zx l4)] (zr [vstr r.1]) (wg r.2):=by
 refine uf (us:=[vstr r.1]) (cs':=(wg r.2)) (by kernel_rfl) Tryz.func27 Z Z Z Z fun X bl hN => ?_
 unfold uo at H
 refine zb hN Z (qe Z (zb hN Z (qe Z (zd (zb hN Z (qd Z (qd Z (yc (ug 9 1 9 1 Z Z Z (gE H fun h10 H=>z3z (fun (k8:Nat) (s:(List Int)×Int×(List Bs))=>[(0,.ptr 0 0),(2,.dat (vstr between3)),(3,.dat (vlst (List.map zx l4))),(9,.row 1 s.2.2.length),(10,.dat (vint many2)),(11,.dat (vint (k8:Int)))]) (fun (k8:Nat) (s:(List Int)×Int×(List Bs))=>[(0,.box (some bl) 25 [.dat (vlst (List.map qx s.1)),.dat (vint s.2.1)]),(1,.row 9 1 (List.map zx s.2.2))]) (s1.L,s1.at_,[]) H ⟨Z,Z,Z,Z,Z,Z,U⟩ ⟨Z,Z,U⟩ (fun _ _=>Z) ?_ ?_))))))))))
 ·rintro ⟨c5,c6,l7⟩ H
  replace H:z6w between3 c5 c6 l7=some r:=H
  unfold z6w at H
  refine zb hN Z (za (ye Z Z) (zd (zh _ Z (fun h=>(y8n h).elim) (fun h => ?_))))
  refine yz (zd (z1l 9 1 Z Z Z (zj hN Z (qd Z (qd Z (bE H fun r11 h12 H=>za (zo (y8y l7 between3 r11 h12) ⟨.inl Z,.inl Z,U⟩) (qe Z (zk ?_))))))))
  cases H
  exact ⟨U,⟨.inl Z,U⟩,Z⟩
 ·rintro k8 ⟨c5,c6,l7⟩ q9 h13 H hq9
  replace H:z6v l4 k8 c5 c6 l7=some q9:=H
  unfold z6v at H
  refine zb hN Z (za (ye Z Z) (zd (zh _ Z (fun h => ?_) (fun h=>(y8o h13 h).elim))))
  refine zn (zd (yc (zj hN Z (za (ze (.row _ _) Z) (za (ze (.ptr _ _) Z) (qd Z (bE H fun r14 h15 H=>zl (yu (jw (zu.mk c5 c6) l4 r14 h15) Z ⟨.inl Z,U⟩ Z) Z (za (yd (u':=vlst (List.map zx [r14.1])) (qj [[_]] qr ⟨Z,.inl ⟨_,Z,Z,Z⟩,Z,U⟩ Z Z) Z) (gE H fun h16 H=>zl (ke qr (fun _=>Z) Z Z Z ⟨by simp,by first | (simp; done) | simpa using h16⟩ Z) Z ?_)))))))))
  exact za (qs (.row _ _) Z) (zj hN Z (za (qy Z Z (by omega)) (qd Z ⟨_,qm H,⟨Z,Z,Z,Z,Z,Z,U⟩,⟨Z,Z,U⟩⟩)))
theorem w7x (s1:zu) (r:(Bs×zu)) (H:z9f s1=some r):Imp Tryz.prog 26 25 (wg s1) [] (zr [vstr r.1]) (wg r.2):=by
 refine uf (us:=[vstr r.1]) (cs':=(wg r.2)) (by kernel_rfl) Tryz.func26 Z Z Z Z fun X bl hN => ?_
 unfold z9f at H
 refine zb hN Z (qe Z (zb hN Z (za (ze (.ptr _ _) Z) (za (ze (.ptr _ _) Z) (bE H fun r2 h3 H=>zl (yu (z9v s1 0 3 r2 h3) Z ⟨.inl Z,.inl Z,U⟩ Z) Z (za (yd (u':=vlst (List.map zx [[109,97,120,45,97,103,101,61,54,48],[109,97,120,45,97,103,101,61,54,48],[109,97,120,45,97,103,101,61,48],[109,97,120,45,97,103,101,61,49,48],[115,45,109,97,120,97,103,101,61,51,48],[110,111,45,99,97,99,104,101],[112,117,98,108,105,99],[109,117,115,116,45,114,101,118,97,108,105,100,97,116,101],[115,116,97,108,101,45,119,104,105,108,101,45,114,101,118,97,108,105,100,97,116,101,61,50,48],[115,116,97,108,101,45,105,102,45,101,114,114,111,114,61,49,48,48],[120,61,49],[121],[77,97,120,45,65,103,101,61,57,48]])) (qj [[_],[_],[_],[_],[_],[_],[_],[_],[_],[_],[_],[_],[_]] qr ⟨Z,.inl ⟨_,Z,Z,Z⟩,Z,Z,.inl ⟨_,Z,Z,Z⟩,Z,Z,.inl ⟨_,Z,Z,Z⟩,Z,Z,.inl ⟨_,Z,Z,Z⟩,Z,Z,.inl ⟨_,Z,Z,Z⟩,Z,Z,.inl ⟨_,Z,Z,Z⟩,Z,Z,.inl ⟨_,Z,Z,Z⟩,Z,Z,.inl ⟨_,Z,Z,Z⟩,Z,Z,.inl ⟨_,Z,Z,Z⟩,Z,Z,.inl ⟨_,Z,Z,Z⟩,Z,Z,.inl ⟨_,Z,Z,Z⟩,Z,Z,.inl ⟨_,Z,Z,Z⟩,Z,Z,.inl ⟨_,Z,Z,Z⟩,Z,U⟩ Z Z) Z) (bE H fun r4 h5 H=>zl (yu (z2z r2.2 r2.1 [44,32] ([[109,97,120,45,97,103,101,61,54,48],[109,97,120,45,97,103,101,61,54,48],[109,97,120,45,97,103,101,61,48],[109,97,120,45,97,103,101,61,49,48],[115,45,109,97,120,97,103,101,61,51,48],[110,111,45,99,97,99,104,101],[112,117,98,108,105,99],[109,117,115,116,45,114,101,118,97,108,105,100,97,116,101],[115,116,97,108,101,45,119,104,105,108,101,45,114,101,118,97,108,105,100,97,116,101,61,50,48],[115,116,97,108,101,45,105,102,45,101,114,114,111,114,61,49,48,48],[120,61,49],[121],[77,97,120,45,65,103,101,61,57,48]]) r4 h5) Z ⟨.inl Z,.inl Z,.inl Z,U⟩ Z) Z (qe Z (yg (ι:=Bs×(List Int)×Int) (fun i=>[(0,.ptr 0 0),(3,.dat (vstr i.1))]) (fun i=>[(0,.box (some bl) 25 [.dat (vlst (List.map qx i.2.1)),.dat (vint i.2.2)])]) (fun i=>z3f i.1 i.2.1 i.2.2=some r) (fun i=>Z) ?_ ?_)))))))))
 ·skip
  refine zb hN Z (za (ze (.ptr _ _) Z) (bE H fun r6 h7 H=>zl (yu (kn r4.2 10 r6 h7) Z ⟨.inl Z,U⟩ Z) Z (zh _ Z (fun h8 => ?_) (fun h8 => ?_))))
  ·exact tE h8 H fun H=>zj hN Z (za (ze (.ptr _ _) Z) (za (yd (u':=vlst (List.map zx [[110,111,45,115,116,111,114,101],[112,114,105,118,97,116,101],[109,97,120,45,97,103,101,61,54,48],[111,110,108,121,45,105,102,45,99,97,99,104,101,100],[105,109,109,117,116,97,98,108,101]])) (qj [[_],[_],[_],[_],[_]] qr ⟨Z,.inl ⟨_,Z,Z,Z⟩,Z,Z,.inl ⟨_,Z,Z,Z⟩,Z,Z,.inl ⟨_,Z,Z,Z⟩,Z,Z,.inl ⟨_,Z,Z,Z⟩,Z,Z,.inl ⟨_,Z,Z,Z⟩,Z,U⟩ Z Z) Z) (bE H fun r9 h10 H=>zl (yu (z2z r6.2 2 [44] ([[110,111,45,115,116,111,114,101],[112,114,105,118,97,116,101],[109,97,120,45,97,103,101,61,54,48],[111,110,108,121,45,105,102,45,99,97,99,104,101,100],[105,109,109,117,116,97,98,108,101]]) r9 h10) Z ⟨.inl Z,.inl Z,.inl Z,U⟩ Z) Z (qe Z ⟨(r9.1,r9.2.L,r9.2.at_),H,⟨Z,Z,U⟩,⟨Z,U⟩⟩))))
  ·exact fE h8 H fun H=>zn ⟨(r4.1,r6.2.L,r6.2.at_),H,⟨Z,Z,U⟩,⟨Z,U⟩⟩
 ·rintro ⟨t11,c12,c13⟩ H
  replace H:z3f t11 c12 c13=some r:=H
  unfold z3f at H
  refine yg (ι:=Bs×(List Int)×Int) (fun i=>[(3,.dat (vstr i.1))]) (fun i=>[(0,.box (some bl) 25 [.dat (vlst (List.map qx i.2.1)),.dat (vint i.2.2)])]) (fun i=>z6y i.1 i.2.1 i.2.2=some r) (fun i=>Z) ?_ ?_
  ·skip
   refine zb hN Z (za (ze (.ptr _ _) Z) (bE H fun r14 h15 H=>zl (yu (kn (zu.mk c12 c13) 20 r14 h15) Z ⟨.inl Z,U⟩ Z) Z (zh _ Z (fun h16 => ?_) (fun h16 => ?_))))
   ·exact tE h16 H fun H=>zj hN Z (za (ze (.ptr _ _) Z) (za (yd (u':=vlst (List.map zx [[109,97,120,45,97,103,101],[110,111,45,99,97,99,104,101,61,49],[109,97,120,45,97,103,101,61,45,49],[109,97,120,45,97,103,101,61,48,49],[109,97,120,45,97,103,101,61,49,48,48,48,48,48,48,48,49],[61,49],[97,32,98],[109,97,120,45,97,103,101,61,54,48,32,44,32,44,32,110,111,45,99,97,99,104,101]])) (qj [[_],[_],[_],[_],[_],[_],[_],[_]] qr ⟨Z,.inl ⟨_,Z,Z,Z⟩,Z,Z,.inl ⟨_,Z,Z,Z⟩,Z,Z,.inl ⟨_,Z,Z,Z⟩,Z,Z,.inl ⟨_,Z,Z,Z⟩,Z,Z,.inl ⟨_,Z,Z,Z⟩,Z,Z,.inl ⟨_,Z,Z,Z⟩,Z,Z,.inl ⟨_,Z,Z,Z⟩,Z,Z,.inl ⟨_,Z,Z,Z⟩,Z,U⟩ Z Z) Z) (bE H fun r17 h18 H=>zl (yu (jw r14.2 ([[109,97,120,45,97,103,101],[110,111,45,99,97,99,104,101,61,49],[109,97,120,45,97,103,101,61,45,49],[109,97,120,45,97,103,101,61,48,49],[109,97,120,45,97,103,101,61,49,48,48,48,48,48,48,48,49],[61,49],[97,32,98],[109,97,120,45,97,103,101,61,54,48,32,44,32,44,32,110,111,45,99,97,99,104,101]]) r17 h18) Z ⟨.inl Z,U⟩ Z) Z (qe Z ⟨(r17.1,r17.2.L,r17.2.at_),H,⟨Z,U⟩,⟨Z,U⟩⟩))))
   ·exact fE h16 H fun H=>zn ⟨(t11,r14.2.L,r14.2.at_),H,⟨Z,U⟩,⟨Z,U⟩⟩
  ·rintro ⟨t19,c20,c21⟩ H
   replace H:z6y t19 c20 c21=some r:=H
   unfold z6y at H
   refine zb hN Z (qd Z (qe Z (zk ?_)))
   cases H
   exact ⟨U,⟨.inl Z,U⟩,Z⟩
theorem z57 (name1:Bs) (value2:Bs) (c3:yb) (r:(yb)) (H:Yo name1 value2 c3=some r):FnG Tryz.prog 24 [.dat (vstr name1),.dat (vstr value2),.ptr 0 0] [(0,.box (some 0) 31 [.dat (vint c3.Status),.row 1 c3.Headers.length,.dat (vstr c3.Body)]),(1,.row 54 2 (List.map zy c3.Headers))] (.dat (zr [])) [(0,.box (some 0) 31 [.dat (vint r.Status),.row 900 r.Headers.length,.dat (vstr r.Body)]),(900,.row 54 2 (List.map zy r.Headers))]:=by
 refine vy (by kernel_rfl) Tryz.func24 Z Z Z Z fun X A hN => ?_
 refine wi ?_
 unfold Yo at H
 refine zj hN Z (za (zq kq Z) (zm (zt qu Z Z) Z (qd Z (qd Z (za (yd (u':=vagg (zy (zg.mk name1 value2))) (qw [(0,[vstr name1]),(1,[vstr value2])] ky Yy Z ⟨Z,.inl ⟨_,Z,Z,Z⟩,Z,Z,.inl ⟨_,Z,Z,Z⟩,Z,U⟩) Z) (za (yd (u':=vlst (List.map zy [(zg.mk name1 value2)])) (qj [_] js ⟨Z,.inr Z,Z,U⟩ Z Z) Z) (gE H fun h4 H=>zl (ke js (fun _=>Z) Z Z Z ⟨by simp,by first | (simp; done) | simpa using h4⟩ Z) Z ?_)))))))
 refine za (zq kq Z) (Zn (Zm qu Z Z (by rw [List.length_map]) Z) Z Z ?_)
 cases H
 show Cv _ _ _ _
 exact wc (rn [(1,900)]) [] [(0,.box (some (A.bl 0)) 31 [.dat (vint c3.Status),.row 1 ((c3.Headers++[(zg.mk name1 value2)]).length),.dat (vstr c3.Body)]),(1,.row 54 2 (List.map zy (c3.Headers++[(zg.mk name1 value2)])))] U ⟨Z,Z,U⟩ Z Z ⟨U,[],U,⟨Z,Z,U⟩,Z,.inl ⟨[],U,Z⟩⟩
theorem w7w (s1:zu) (low2:Int) (high3:Int) (r:(Int×zu)) (H:z9e s1 low2 high3=some r):Imp Tryz.prog 28 25 (wg s1) [vint low2,vint high3] (zr [vint r.1]) (wg r.2):=by
 refine uf (us:=[vint r.1]) (cs':=(wg r.2)) (by kernel_rfl) Tryz.func28 Z Z Z Z fun X bl hN => ?_
 unfold z9e at H
 refine zb hN Z (qe Z (zd (zb hN Z (za (ze (.ptr _ _) Z) (bE H fun r4 h5 H=>zl (yu (kn s1 12 r4 h5) Z ⟨.inl Z,U⟩ Z) Z (zh _ Z (fun h6 => ?_) (fun h6 => ?_)))))))
 ·refine tE h6 H fun H=>zb hN Z (za (ze (.ptr _ _) Z) (qd Z (za (ym _ Z Z (.inr (.inl ⟨Z,Z⟩))) (qd Z (za (ym _ Z Z (.inl ⟨Z,Z⟩)) (qd Z (qd Z (za (yd (u':=vlst (List.map qx [wr (low2 - 1),wr (high3+1),low2,high3,(-1099511627776),1099511627776])) (qj [[_],[_],[_],[_],[_],[_]] z7r ⟨Z,.inl ⟨_,Z,Z,Z⟩,Z,Z,.inl ⟨_,Z,Z,Z⟩,Z,Z,.inl ⟨_,Z,Z,Z⟩,Z,Z,.inl ⟨_,Z,Z,Z⟩,Z,Z,.inl ⟨_,Z,Z,Z⟩,Z,Z,.inl ⟨_,Z,Z,Z⟩,Z,U⟩ Z Z) Z) (bE H fun r7 h8 H=>zl (yu (y87 r4.2 [wr (low2 - 1),wr (high3+1),low2,high3,(-1099511627776),1099511627776] r7 h8) Z ⟨.inl Z,U⟩ Z) Z (qe Z (zk ?_)))))))))))
  cases H
  exact ⟨U,⟨.inl Z,U⟩,Z⟩
 ·refine fE h6 H fun H=>zn (zb hN Z (za (ze (.ptr _ _) Z) (qd Z (qd Z (bE H fun r9 h10 H=>zl (yu (z9v r4.2 low2 high3 r9 h10) Z ⟨.inl Z,.inl Z,U⟩ Z) Z (qe Z (zk ?_)))))))
  cases H
  exact ⟨U,⟨.inl Z,U⟩,Z⟩
theorem w7z (s1:zu) (r:(yb×zu)) (H:z9h s1=some r):Imp Tryz.prog 5 25 (wg s1) [] (zr [vagg (qf r.1)]) (wg r.2):=by
 refine uf (us:=[vagg (qf r.1)]) (cs':=(wg r.2)) (by kernel_rfl) Tryz.func5 Z Z Z Z fun X bl hN => ?_
 unfold z9h at H
 refine zb hN Z (zl (qt 1 vu Z) Z (zb hN Z (za (ze (.ptr _ _) Z) (za (yd (u':=vlst (List.map qx [200,200,200,200,404,304,500,204,201])) (qj [[_],[_],[_],[_],[_],[_],[_],[_],[_]] z7r ⟨Z,.inl ⟨_,Z,Z,Z⟩,Z,Z,.inl ⟨_,Z,Z,Z⟩,Z,Z,.inl ⟨_,Z,Z,Z⟩,Z,Z,.inl ⟨_,Z,Z,Z⟩,Z,Z,.inl ⟨_,Z,Z,Z⟩,Z,Z,.inl ⟨_,Z,Z,Z⟩,Z,Z,.inl ⟨_,Z,Z,Z⟩,Z,Z,.inl ⟨_,Z,Z,Z⟩,Z,Z,.inl ⟨_,Z,Z,Z⟩,Z,U⟩ Z Z) Z) (bE H fun r2 h3 H=>zl (yu (y87 s1 [200,200,200,200,404,304,500,204,201] r2 h3) Z ⟨.inl Z,U⟩ Z) Z (za (ze (.ptr _ _) Z) (bE H fun r4 h5 H=>za (zo (x5t [122] 50 r4 h5) ⟨.inl Z,.inl Z,U⟩) (za (yd (u':=vlst (List.map zx [[104,101,108,108,111],[120],[],r4])) (qj [[_],[_],[_],[_]] qr ⟨Z,.inl ⟨_,Z,Z,Z⟩,Z,Z,.inl ⟨_,Z,Z,Z⟩,Z,Z,.inl ⟨_,Z,Z,Z⟩,Z,Z,.inl ⟨_,Z,Z,Z⟩,Z,U⟩ Z Z) Z) (bE H fun r6 h7 H=>zl (yu (jw r2.2 ([[104,101,108,108,111],[120],[],r4]) r6 h7) Z ⟨.inl Z,U⟩ Z) Z (za (yd (u':=vagg [vint r2.1,vnil,vstr r6.1]) (qw [(0,[vint r2.1]),(2,[vstr r6.1])] vu uc Z ⟨Z,.inl ⟨_,Z,Z,Z⟩,Z,Z,.inl ⟨_,Z,Z,Z⟩,Z,U⟩) Z) (zl (qt 2 vu Z) Z (zl (yx qg Z Z Z Z) Z (Yv 2 1 3 54 2 Z Z Z Z (zb hN Z (zm (jp (s := .dr 2 (fun qb=>vfn 24 [vval (.pointer (some ⟨qb,0,none⟩))])) 2 (fun qb=>z8a (us:=[_]) ⟨Z,U⟩) Z Z) Z (za (qs (.dr _ _) Z) (yg (ι:=(List Int)×Int×(List zg)×Int×Bs) (fun i=>[(0,.ptr 0 0),(2,.ptr 1 0),(3,.ptr 2 0),(4,.dr 2 (fun qb=>vfn 24 [vval (.pointer (some ⟨qb,0,none⟩))]))]) (fun i=>[(0,.box (some bl) 25 [.dat (vlst (List.map qx i.1)),.dat (vint i.2.1)]),(1,.box none 31 [.dat (vint 0),.dat (vnil),.dat (vstr [])]),(2,.box none 31 [.dat (vint i.2.2.2.1),.row 5 i.2.2.1.length,.dat (vstr i.2.2.2.2)]),(5,.row 54 2 (List.map zy i.2.2.1))]) (fun i=>z3m i.1 i.2.1 i.2.2.1 i.2.2.2.1 i.2.2.2.2=some r) (fun i=>Z) ?_ ?_)))))))))))))))))
 ·refine wi (zb hN Z (za (ze (.ptr _ _) Z) (bE H fun r8 h9 H=>zl (yu (kn r6.2 6 r8 h9) Z ⟨.inl Z,U⟩ Z) Z (za (yt Z) (zh _ Z (fun h10 => ?_) (fun h10 => ?_))))))
  ·refine tE h10 H fun H=>zj hN Z (za (ze (.dr _ _) Z) (za (ze (.ptr _ _) Z) (za (yd (u':=vlst (List.map zx [[99,97,99,104,101,45,99,111,110,116,114,111,108],[67,97,99,104,101,45,67,111,110,116,114,111,108]])) (qj [[_],[_]] qr ⟨Z,.inl ⟨_,Z,Z,Z⟩,Z,Z,.inl ⟨_,Z,Z,Z⟩,Z,U⟩ Z Z) Z) (bE H fun r11 h12 H=>zl (yu (jw r8.2 ([[99,97,99,104,101,45,99,111,110,116,114,111,108],[67,97,99,104,101,45,67,111,110,116,114,111,108]]) r11 h12) Z ⟨.inl Z,U⟩ Z) Z (za (ze (.ptr _ _) Z) (bE H fun r13 h14 H=>zl (yu (w7x r11.2 r13 h14) Z U Z) Z (bE H fun r15 h16 H=>z4h (args:=[.dat (vstr r11.1),.dat (vstr r13.1)]) (i0:=0) (rn [(0,2),(1,3),(900,4)]) [(0,_,_,some _),(1,_,_,none)] [(900,_)] (z57 r11.1 r13.1 (yb.mk r2.1 ([]:List zg) r6.1) r15 h16) ⟨Z,Z,Z,U⟩ Z Z ⟨.inl (.inl Z),.inl (.inl Z),U⟩ ⟨⟨⟨Z,Z⟩,U⟩,⟨⟨Z,Z,Z⟩,U⟩,U⟩ Z (wm ?_))))))))
   show Cv _ _ _ _
   exact wc (rn [(4,5)]) [(0,.ptr 0 0),(2,.ptr 1 0),(3,.ptr 2 0),(4,.dr 2 (fun qb=>vfn 24 [vval (.pointer (some ⟨qb,0,none⟩))]))] [(0,.box (some bl) 25 [.dat (vlst (List.map qx r13.2.L)),.dat (vint r13.2.at_)]),(1,.box none 31 [.dat (vint 0),.dat (vnil),.dat (vstr [])]),(2,.box none 31 [.dat (vint r15.Status),.row 4 r15.Headers.length,.dat (vstr r15.Body)]),(4,.row 54 2 (List.map zy r15.Headers))] ⟨Z,Z,Z,Z,U⟩ ⟨Z,Z,Z,Z,U⟩ Z Z ⟨(r13.2.L,r13.2.at_,r15.Headers,r15.Status,r15.Body),H,⟨Z,Z,Z,Z,U⟩,⟨Z,Z,Z,Z,U⟩⟩
  ·refine fE h10 H fun H=>zn ?_
   show Cv _ _ _ _
   exact wc (rn [(3,5)]) [(0,.ptr 0 0),(2,.ptr 1 0),(3,.ptr 2 0),(4,.dr 2 (fun qb=>vfn 24 [vval (.pointer (some ⟨qb,0,none⟩))]))] [(0,.box (some bl) 25 [.dat (vlst (List.map qx r8.2.L)),.dat (vint r8.2.at_)]),(1,.box none 31 [.dat (vint 0),.dat (vnil),.dat (vstr [])]),(2,.box none 31 [.dat (vint r2.1),.row 3 0,.dat (vstr r6.1)]),(3,.row 54 2 (List.map zy ([]:List zg)))] ⟨Z,Z,Z,Z,U⟩ ⟨Z,Z,Z,Z,U⟩ Z Z ⟨(r8.2.L,r8.2.at_,([]:List zg),r2.1,r6.1),H,⟨Z,Z,Z,Z,U⟩,⟨Z,Z,Z,Z,U⟩⟩
 ·rintro ⟨c17,c18,l19,c20,c21⟩ H
  replace H:z3m c17 c18 l19 c20 c21=some r:=H
  unfold z3m at H
  refine yg (ι:=(List Int)×Int×(List zg)×Int×Bs) (fun i=>[(0,.ptr 0 0),(2,.ptr 1 0),(3,.ptr 2 0),(4,.dr 2 (fun qb=>vfn 24 [vval (.pointer (some ⟨qb,0,none⟩))]))]) (fun i=>[(0,.box (some bl) 25 [.dat (vlst (List.map qx i.1)),.dat (vint i.2.1)]),(1,.box none 31 [.dat (vint 0),.dat (vnil),.dat (vstr [])]),(2,.box none 31 [.dat (vint i.2.2.2.1),.row 7 i.2.2.1.length,.dat (vstr i.2.2.2.2)]),(7,.row 54 2 (List.map zy i.2.2.1))]) (fun i=>z3l i.1 i.2.1 i.2.2.1 i.2.2.2.1 i.2.2.2.2=some r) (fun i=>Z) ?_ ?_
  ·refine wi (zb hN Z (za (ze (.ptr _ _) Z) (bE H fun r22 h23 H=>zl (yu (kn (zu.mk c17 c18) 3 r22 h23) Z ⟨.inl Z,U⟩ Z) Z (zh _ Z (fun h24 => ?_) (fun h24 => ?_)))))
   ·refine tE h24 H fun H=>zj hN Z (za (ze (.dr _ _) Z) (za (ze (.ptr _ _) Z) (za (yd (u':=vlst (List.map zx [[97,99,99,101,112,116,45,108,97,110,103,117,97,103,101],[65,99,99,101,112,116,45,76,97,110,103,117,97,103,101,44,32,120,45,111,110,101],[42],[],[120,45,111,110,101,44,88,45,79,110,101]])) (qj [[_],[_],[_],[_],[_]] qr ⟨Z,.inl ⟨_,Z,Z,Z⟩,Z,Z,.inl ⟨_,Z,Z,Z⟩,Z,Z,.inl ⟨_,Z,Z,Z⟩,Z,Z,.inl ⟨_,Z,Z,Z⟩,Z,Z,.inl ⟨_,Z,Z,Z⟩,Z,U⟩ Z Z) Z) (bE H fun r25 h26 H=>zl (yu (jw r22.2 ([[97,99,99,101,112,116,45,108,97,110,103,117,97,103,101],[65,99,99,101,112,116,45,76,97,110,103,117,97,103,101,44,32,120,45,111,110,101],[42],[],[120,45,111,110,101,44,88,45,79,110,101]]) r25 h26) Z ⟨.inl Z,U⟩ Z) Z (bE H fun r27 h28 H=>z4h (args:=[.dat (vstr [118,97,114,121]),.dat (vstr r25.1)]) (i0:=0) (rn [(0,2),(1,5),(900,6)]) [(0,_,_,some _),(1,_,_,none)] [(900,_)] (z57 [118,97,114,121] r25.1 (yb.mk c20 l19 c21) r27 h28) ⟨Z,Z,Z,U⟩ Z Z ⟨.inl (.inl Z),.inl (.inl Z),U⟩ ⟨⟨⟨Z,Z⟩,U⟩,⟨⟨Z,Z,Z⟩,U⟩,U⟩ Z (wm ?_))))))
    show Cv _ _ _ _
    exact wc (rn [(6,7)]) [(0,.ptr 0 0),(2,.ptr 1 0),(3,.ptr 2 0),(4,.dr 2 (fun qb=>vfn 24 [vval (.pointer (some ⟨qb,0,none⟩))]))] [(0,.box (some bl) 25 [.dat (vlst (List.map qx r25.2.L)),.dat (vint r25.2.at_)]),(1,.box none 31 [.dat (vint 0),.dat (vnil),.dat (vstr [])]),(2,.box none 31 [.dat (vint r27.Status),.row 6 r27.Headers.length,.dat (vstr r27.Body)]),(6,.row 54 2 (List.map zy r27.Headers))] ⟨Z,Z,Z,Z,U⟩ ⟨Z,Z,Z,Z,U⟩ Z Z ⟨(r25.2.L,r25.2.at_,r27.Headers,r27.Status,r27.Body),H,⟨Z,Z,Z,Z,U⟩,⟨Z,Z,Z,Z,U⟩⟩
   ·refine fE h24 H fun H=>zn ?_
    show Cv _ _ _ _
    exact wc (rn [(5,7)]) [(0,.ptr 0 0),(2,.ptr 1 0),(3,.ptr 2 0),(4,.dr 2 (fun qb=>vfn 24 [vval (.pointer (some ⟨qb,0,none⟩))]))] [(0,.box (some bl) 25 [.dat (vlst (List.map qx r22.2.L)),.dat (vint r22.2.at_)]),(1,.box none 31 [.dat (vint 0),.dat (vnil),.dat (vstr [])]),(2,.box none 31 [.dat (vint c20),.row 5 l19.length,.dat (vstr c21)]),(5,.row 54 2 (List.map zy l19))] ⟨Z,Z,Z,Z,U⟩ ⟨Z,Z,Z,Z,U⟩ Z Z ⟨(r22.2.L,r22.2.at_,l19,c20,c21),H,⟨Z,Z,Z,Z,U⟩,⟨Z,Z,Z,Z,U⟩⟩
  ·rintro ⟨c29,c30,l31,c32,c33⟩ H
   replace H:z3l c29 c30 l31 c32 c33=some r:=H
   unfold z3l at H
   refine yg (ι:=(List Int)×Int×(List zg)×Int×Bs) (fun i=>[(0,.ptr 0 0),(2,.ptr 1 0),(3,.ptr 2 0),(4,.dr 2 (fun qb=>vfn 24 [vval (.pointer (some ⟨qb,0,none⟩))]))]) (fun i=>[(0,.box (some bl) 25 [.dat (vlst (List.map qx i.1)),.dat (vint i.2.1)]),(1,.box none 31 [.dat (vint 0),.dat (vnil),.dat (vstr [])]),(2,.box none 31 [.dat (vint i.2.2.2.1),.row 9 i.2.2.1.length,.dat (vstr i.2.2.2.2)]),(9,.row 54 2 (List.map zy i.2.2.1))]) (fun i=>z3k i.1 i.2.1 i.2.2.1 i.2.2.2.1 i.2.2.2.2=some r) (fun i=>Z) ?_ ?_
   ·refine wi (zb hN Z (za (ze (.ptr _ _) Z) (bE H fun r34 h35 H=>zl (yu (kn (zu.mk c29 c30) 2 r34 h35) Z ⟨.inl Z,U⟩ Z) Z (zh _ Z (fun h36 => ?_) (fun h36 => ?_)))))
    ·refine tE h36 H fun H=>zj hN Z (za (ze (.dr _ _) Z) (za (ze (.ptr _ _) Z) (za (yd (u':=vlst (List.map zx [[101,116,97,103],[69,84,97,103]])) (qj [[_],[_]] qr ⟨Z,.inl ⟨_,Z,Z,Z⟩,Z,Z,.inl ⟨_,Z,Z,Z⟩,Z,U⟩ Z Z) Z) (bE H fun r37 h38 H=>zl (yu (jw r34.2 ([[101,116,97,103],[69,84,97,103]]) r37 h38) Z ⟨.inl Z,U⟩ Z) Z (za (ze (.ptr _ _) Z) (za (yd (u':=vlst (List.map zx [[34,118,49,34],[87,47,34,118,50,34],[118,51]])) (qj [[_],[_],[_]] qr ⟨Z,.inl ⟨_,Z,Z,Z⟩,Z,Z,.inl ⟨_,Z,Z,Z⟩,Z,Z,.inl ⟨_,Z,Z,Z⟩,Z,U⟩ Z Z) Z) (bE H fun r39 h40 H=>zl (yu (jw r37.2 ([[34,118,49,34],[87,47,34,118,50,34],[118,51]]) r39 h40) Z ⟨.inl Z,U⟩ Z) Z (bE H fun r41 h42 H=>z4h (args:=[.dat (vstr r37.1),.dat (vstr r39.1)]) (i0:=0) (rn [(0,2),(1,7),(900,8)]) [(0,_,_,some _),(1,_,_,none)] [(900,_)] (z57 r37.1 r39.1 (yb.mk c32 l31 c33) r41 h42) ⟨Z,Z,Z,U⟩ Z Z ⟨.inl (.inl Z),.inl (.inl Z),U⟩ ⟨⟨⟨Z,Z⟩,U⟩,⟨⟨Z,Z,Z⟩,U⟩,U⟩ Z (wm ?_)))))))))
     show Cv _ _ _ _
     exact wc (rn [(8,9)]) [(0,.ptr 0 0),(2,.ptr 1 0),(3,.ptr 2 0),(4,.dr 2 (fun qb=>vfn 24 [vval (.pointer (some ⟨qb,0,none⟩))]))] [(0,.box (some bl) 25 [.dat (vlst (List.map qx r39.2.L)),.dat (vint r39.2.at_)]),(1,.box none 31 [.dat (vint 0),.dat (vnil),.dat (vstr [])]),(2,.box none 31 [.dat (vint r41.Status),.row 8 r41.Headers.length,.dat (vstr r41.Body)]),(8,.row 54 2 (List.map zy r41.Headers))] ⟨Z,Z,Z,Z,U⟩ ⟨Z,Z,Z,Z,U⟩ Z Z ⟨(r39.2.L,r39.2.at_,r41.Headers,r41.Status,r41.Body),H,⟨Z,Z,Z,Z,U⟩,⟨Z,Z,Z,Z,U⟩⟩
    ·refine fE h36 H fun H=>zn ?_
     show Cv _ _ _ _
     exact wc (rn [(7,9)]) [(0,.ptr 0 0),(2,.ptr 1 0),(3,.ptr 2 0),(4,.dr 2 (fun qb=>vfn 24 [vval (.pointer (some ⟨qb,0,none⟩))]))] [(0,.box (some bl) 25 [.dat (vlst (List.map qx r34.2.L)),.dat (vint r34.2.at_)]),(1,.box none 31 [.dat (vint 0),.dat (vnil),.dat (vstr [])]),(2,.box none 31 [.dat (vint c32),.row 7 l31.length,.dat (vstr c33)]),(7,.row 54 2 (List.map zy l31))] ⟨Z,Z,Z,Z,U⟩ ⟨Z,Z,Z,Z,U⟩ Z Z ⟨(r34.2.L,r34.2.at_,l31,c32,c33),H,⟨Z,Z,Z,Z,U⟩,⟨Z,Z,Z,Z,U⟩⟩
   ·rintro ⟨c43,c44,l45,c46,c47⟩ H
    replace H:z3k c43 c44 l45 c46 c47=some r:=H
    unfold z3k at H
    refine yg (ι:=(List Int)×Int×(List zg)×Int×Bs) (fun i=>[(0,.ptr 0 0),(2,.ptr 1 0),(3,.ptr 2 0),(4,.dr 2 (fun qb=>vfn 24 [vval (.pointer (some ⟨qb,0,none⟩))]))]) (fun i=>[(0,.box (some bl) 25 [.dat (vlst (List.map qx i.1)),.dat (vint i.2.1)]),(1,.box none 31 [.dat (vint 0),.dat (vnil),.dat (vstr [])]),(2,.box none 31 [.dat (vint i.2.2.2.1),.row 11 i.2.2.1.length,.dat (vstr i.2.2.2.2)]),(11,.row 54 2 (List.map zy i.2.2.1))]) (fun i=>z3j i.1 i.2.1 i.2.2.1 i.2.2.2.1 i.2.2.2.2=some r) (fun i=>Z) ?_ ?_
    ·refine wi (zb hN Z (za (ze (.ptr _ _) Z) (bE H fun r48 h49 H=>zl (yu (kn (zu.mk c43 c44) 4 r48 h49) Z ⟨.inl Z,U⟩ Z) Z (zh _ Z (fun h50 => ?_) (fun h50 => ?_)))))
     ·refine tE h50 H fun H=>zj hN Z (za (ze (.dr _ _) Z) (za (ze (.ptr _ _) Z) (za (yd (u':=vlst (List.map zx [[114,101,100],[114,101,100,44,32,98,108,117,101],[98,108,117,101,32,103,114,101,101,110],[114,101,100,32,114,101,100]])) (qj [[_],[_],[_],[_]] qr ⟨Z,.inl ⟨_,Z,Z,Z⟩,Z,Z,.inl ⟨_,Z,Z,Z⟩,Z,Z,.inl ⟨_,Z,Z,Z⟩,Z,Z,.inl ⟨_,Z,Z,Z⟩,Z,U⟩ Z Z) Z) (bE H fun r51 h52 H=>zl (yu (jw r48.2 ([[114,101,100],[114,101,100,44,32,98,108,117,101],[98,108,117,101,32,103,114,101,101,110],[114,101,100,32,114,101,100]]) r51 h52) Z ⟨.inl Z,U⟩ Z) Z (bE H fun r53 h54 H=>z4h (args:=[.dat (vstr [99,97,99,104,101,45,116,97,103]),.dat (vstr r51.1)]) (i0:=0) (rn [(0,2),(1,9),(900,10)]) [(0,_,_,some _),(1,_,_,none)] [(900,_)] (z57 [99,97,99,104,101,45,116,97,103] r51.1 (yb.mk c46 l45 c47) r53 h54) ⟨Z,Z,Z,U⟩ Z Z ⟨.inl (.inl Z),.inl (.inl Z),U⟩ ⟨⟨⟨Z,Z⟩,U⟩,⟨⟨Z,Z,Z⟩,U⟩,U⟩ Z (wm ?_))))))
      show Cv _ _ _ _
      exact wc (rn [(10,11)]) [(0,.ptr 0 0),(2,.ptr 1 0),(3,.ptr 2 0),(4,.dr 2 (fun qb=>vfn 24 [vval (.pointer (some ⟨qb,0,none⟩))]))] [(0,.box (some bl) 25 [.dat (vlst (List.map qx r51.2.L)),.dat (vint r51.2.at_)]),(1,.box none 31 [.dat (vint 0),.dat (vnil),.dat (vstr [])]),(2,.box none 31 [.dat (vint r53.Status),.row 10 r53.Headers.length,.dat (vstr r53.Body)]),(10,.row 54 2 (List.map zy r53.Headers))] ⟨Z,Z,Z,Z,U⟩ ⟨Z,Z,Z,Z,U⟩ Z Z ⟨(r51.2.L,r51.2.at_,r53.Headers,r53.Status,r53.Body),H,⟨Z,Z,Z,Z,U⟩,⟨Z,Z,Z,Z,U⟩⟩
     ·refine fE h50 H fun H=>zn ?_
      show Cv _ _ _ _
      exact wc (rn [(9,11)]) [(0,.ptr 0 0),(2,.ptr 1 0),(3,.ptr 2 0),(4,.dr 2 (fun qb=>vfn 24 [vval (.pointer (some ⟨qb,0,none⟩))]))] [(0,.box (some bl) 25 [.dat (vlst (List.map qx r48.2.L)),.dat (vint r48.2.at_)]),(1,.box none 31 [.dat (vint 0),.dat (vnil),.dat (vstr [])]),(2,.box none 31 [.dat (vint c46),.row 9 l45.length,.dat (vstr c47)]),(9,.row 54 2 (List.map zy l45))] ⟨Z,Z,Z,Z,U⟩ ⟨Z,Z,Z,Z,U⟩ Z Z ⟨(r48.2.L,r48.2.at_,l45,c46,c47),H,⟨Z,Z,Z,Z,U⟩,⟨Z,Z,Z,Z,U⟩⟩
    ·rintro ⟨c55,c56,l57,c58,c59⟩ H
     replace H:z3j c55 c56 l57 c58 c59=some r:=H
     unfold z3j at H
     refine yg (ι:=(List Int)×Int×(List zg)×Int×Bs) (fun i=>[(0,.ptr 0 0),(2,.ptr 1 0),(3,.ptr 2 0),(4,.dr 2 (fun qb=>vfn 24 [vval (.pointer (some ⟨qb,0,none⟩))]))]) (fun i=>[(0,.box (some bl) 25 [.dat (vlst (List.map qx i.1)),.dat (vint i.2.1)]),(1,.box none 31 [.dat (vint 0),.dat (vnil),.dat (vstr [])]),(2,.box none 31 [.dat (vint i.2.2.2.1),.row 13 i.2.2.1.length,.dat (vstr i.2.2.2.2)]),(13,.row 54 2 (List.map zy i.2.2.1))]) (fun i=>z3i i.1 i.2.1 i.2.2.1 i.2.2.2.1 i.2.2.2.2=some r) (fun i=>Z) ?_ ?_
     ·refine wi (zb hN Z (za (ze (.ptr _ _) Z) (bE H fun r60 h61 H=>zl (yu (kn (zu.mk c55 c56) 6 r60 h61) Z ⟨.inl Z,U⟩ Z) Z (zh _ Z (fun h62 => ?_) (fun h62 => ?_)))))
      ·refine tE h62 H fun H=>zj hN Z (za (ze (.dr _ _) Z) (za (ze (.ptr _ _) Z) (za (yd (u':=vlst (List.map zx [[53],[53,48],[120],[45,49],[49,48,48,48,48,48,48,48,49]])) (qj [[_],[_],[_],[_],[_]] qr ⟨Z,.inl ⟨_,Z,Z,Z⟩,Z,Z,.inl ⟨_,Z,Z,Z⟩,Z,Z,.inl ⟨_,Z,Z,Z⟩,Z,Z,.inl ⟨_,Z,Z,Z⟩,Z,Z,.inl ⟨_,Z,Z,Z⟩,Z,U⟩ Z Z) Z) (bE H fun r63 h64 H=>zl (yu (jw r60.2 ([[53],[53,48],[120],[45,49],[49,48,48,48,48,48,48,48,49]]) r63 h64) Z ⟨.inl Z,U⟩ Z) Z (bE H fun r65 h66 H=>z4h (args:=[.dat (vstr [97,103,101]),.dat (vstr r63.1)]) (i0:=0) (rn [(0,2),(1,11),(900,12)]) [(0,_,_,some _),(1,_,_,none)] [(900,_)] (z57 [97,103,101] r63.1 (yb.mk c58 l57 c59) r65 h66) ⟨Z,Z,Z,U⟩ Z Z ⟨.inl (.inl Z),.inl (.inl Z),U⟩ ⟨⟨⟨Z,Z⟩,U⟩,⟨⟨Z,Z,Z⟩,U⟩,U⟩ Z (wm ?_))))))
       show Cv _ _ _ _
       exact wc (rn [(12,13)]) [(0,.ptr 0 0),(2,.ptr 1 0),(3,.ptr 2 0),(4,.dr 2 (fun qb=>vfn 24 [vval (.pointer (some ⟨qb,0,none⟩))]))] [(0,.box (some bl) 25 [.dat (vlst (List.map qx r63.2.L)),.dat (vint r63.2.at_)]),(1,.box none 31 [.dat (vint 0),.dat (vnil),.dat (vstr [])]),(2,.box none 31 [.dat (vint r65.Status),.row 12 r65.Headers.length,.dat (vstr r65.Body)]),(12,.row 54 2 (List.map zy r65.Headers))] ⟨Z,Z,Z,Z,U⟩ ⟨Z,Z,Z,Z,U⟩ Z Z ⟨(r63.2.L,r63.2.at_,r65.Headers,r65.Status,r65.Body),H,⟨Z,Z,Z,Z,U⟩,⟨Z,Z,Z,Z,U⟩⟩
      ·refine fE h62 H fun H=>zn ?_
       show Cv _ _ _ _
       exact wc (rn [(11,13)]) [(0,.ptr 0 0),(2,.ptr 1 0),(3,.ptr 2 0),(4,.dr 2 (fun qb=>vfn 24 [vval (.pointer (some ⟨qb,0,none⟩))]))] [(0,.box (some bl) 25 [.dat (vlst (List.map qx r60.2.L)),.dat (vint r60.2.at_)]),(1,.box none 31 [.dat (vint 0),.dat (vnil),.dat (vstr [])]),(2,.box none 31 [.dat (vint c58),.row 11 l57.length,.dat (vstr c59)]),(11,.row 54 2 (List.map zy l57))] ⟨Z,Z,Z,Z,U⟩ ⟨Z,Z,Z,Z,U⟩ Z Z ⟨(r60.2.L,r60.2.at_,l57,c58,c59),H,⟨Z,Z,Z,Z,U⟩,⟨Z,Z,Z,Z,U⟩⟩
     ·rintro ⟨c67,c68,l69,c70,c71⟩ H
      replace H:z3i c67 c68 l69 c70 c71=some r:=H
      unfold z3i at H
      refine yg (ι:=(List Int)×Int×(List zg)×Int×Bs) (fun i=>[(0,.ptr 0 0),(2,.ptr 1 0),(3,.ptr 2 0)]) (fun i=>[(0,.box (some bl) 25 [.dat (vlst (List.map qx i.1)),.dat (vint i.2.1)]),(1,.box none 31 [.dat (vint 0),.dat (vnil),.dat (vstr [])]),(2,.box none 31 [.dat (vint i.2.2.2.1),.row 15 i.2.2.1.length,.dat (vstr i.2.2.2.2)]),(15,.row 54 2 (List.map zy i.2.2.1))]) (fun i=>z3h i.1 i.2.1 i.2.2.1 i.2.2.2.1 i.2.2.2.2=some r) (fun i=>Z) ?_ ?_
      ·refine wi (zb hN Z (za (ze (.ptr _ _) Z) (bE H fun r72 h73 H=>zl (yu (kn (zu.mk c67 c68) 30 r72 h73) Z ⟨.inl Z,U⟩ Z) Z (zh _ Z (fun h74 => ?_) (fun h74 => ?_)))))
       ·refine tE h74 H fun H=>zj hN Z (za (ze (.dr _ _) Z) (za (ze (.ptr _ _) Z) (za (yd (u':=vlst (List.map zx [[118,97,114,121],[99,97,99,104,101,45,116,97,103]])) (qj [[_],[_]] qr ⟨Z,.inl ⟨_,Z,Z,Z⟩,Z,Z,.inl ⟨_,Z,Z,Z⟩,Z,U⟩ Z Z) Z) (bE H fun r75 h76 H=>zl (yu (jw r72.2 ([[118,97,114,121],[99,97,99,104,101,45,116,97,103]]) r75 h76) Z ⟨.inl Z,U⟩ Z) Z (za (ze (.ptr _ _) Z) (za (ze (.ptr _ _) Z) (za (yd (u':=vlst (List.map zx [[104,49],[104,50],[104,51],[104,52],[104,53],[104,54],[104,55],[104,56],[104,57],[104,97],[104,98],[104,99]])) (qj [[_],[_],[_],[_],[_],[_],[_],[_],[_],[_],[_],[_]] qr ⟨Z,.inl ⟨_,Z,Z,Z⟩,Z,Z,.inl ⟨_,Z,Z,Z⟩,Z,Z,.inl ⟨_,Z,Z,Z⟩,Z,Z,.inl ⟨_,Z,Z,Z⟩,Z,Z,.inl ⟨_,Z,Z,Z⟩,Z,Z,.inl ⟨_,Z,Z,Z⟩,Z,Z,.inl ⟨_,Z,Z,Z⟩,Z,Z,.inl ⟨_,Z,Z,Z⟩,Z,Z,.inl ⟨_,Z,Z,Z⟩,Z,Z,.inl ⟨_,Z,Z,Z⟩,Z,Z,.inl ⟨_,Z,Z,Z⟩,Z,Z,.inl ⟨_,Z,Z,Z⟩,Z,U⟩ Z Z) Z) (bE H fun r77 h78 H=>zl (yu (z2z r75.2 12 [44] ([[104,49],[104,50],[104,51],[104,52],[104,53],[104,54],[104,55],[104,56],[104,57],[104,97],[104,98],[104,99]]) r77 h78) Z ⟨.inl Z,.inl Z,.inl Z,U⟩ Z) Z (za (yd (u':=vlst (List.map zx [[97,32,98],[65],[],r77.1])) (qj [[_],[_],[_],[_]] qr ⟨Z,.inl ⟨_,Z,Z,Z⟩,Z,Z,.inl ⟨_,Z,Z,Z⟩,Z,Z,.inl ⟨_,Z,Z,Z⟩,Z,Z,.inl ⟨_,Z,Z,Z⟩,Z,U⟩ Z Z) Z) (bE H fun r79 h80 H=>zl (yu (jw r77.2 ([[97,32,98],[65],[],r77.1]) r79 h80) Z ⟨.inl Z,U⟩ Z) Z (bE H fun r81 h82 H=>z4h (args:=[.dat (vstr r75.1),.dat (vstr r79.1)]) (i0:=0) (rn [(0,2),(1,13),(900,14)]) [(0,_,_,some _),(1,_,_,none)] [(900,_)] (z57 r75.1 r79.1 (yb.mk c70 l69 c71) r81 h82) ⟨Z,Z,Z,U⟩ Z Z ⟨.inl (.inl Z),.inl (.inl Z),U⟩ ⟨⟨⟨Z,Z⟩,U⟩,⟨⟨Z,Z,Z⟩,U⟩,U⟩ Z (wm ?_))))))))))))
        show Cv _ _ _ _
        exact wc (rn [(14,15)]) [(0,.ptr 0 0),(2,.ptr 1 0),(3,.ptr 2 0)] [(0,.box (some bl) 25 [.dat (vlst (List.map qx r79.2.L)),.dat (vint r79.2.at_)]),(1,.box none 31 [.dat (vint 0),.dat (vnil),.dat (vstr [])]),(2,.box none 31 [.dat (vint r81.Status),.row 14 r81.Headers.length,.dat (vstr r81.Body)]),(14,.row 54 2 (List.map zy r81.Headers))] ⟨Z,Z,Z,U⟩ ⟨Z,Z,Z,Z,U⟩ Z Z ⟨(r79.2.L,r79.2.at_,r81.Headers,r81.Status,r81.Body),H,⟨Z,Z,Z,U⟩,⟨Z,Z,Z,Z,U⟩⟩
       ·refine fE h74 H fun H=>zn ?_
        show Cv _ _ _ _
        exact wc (rn [(13,15)]) [(0,.ptr 0 0),(2,.ptr 1 0),(3,.ptr 2 0)] [(0,.box (some bl) 25 [.dat (vlst (List.map qx r72.2.L)),.dat (vint r72.2.at_)]),(1,.box none 31 [.dat (vint 0),.dat (vnil),.dat (vstr [])]),(2,.box none 31 [.dat (vint c70),.row 13 l69.length,.dat (vstr c71)]),(13,.row 54 2 (List.map zy l69))] ⟨Z,Z,Z,U⟩ ⟨Z,Z,Z,Z,U⟩ Z Z ⟨(r72.2.L,r72.2.at_,l69,c70,c71),H,⟨Z,Z,Z,U⟩,⟨Z,Z,Z,Z,U⟩⟩
      ·rintro ⟨c83,c84,l85,c86,c87⟩ H
       replace H:z3h c83 c84 l85 c86 c87=some r:=H
       unfold z3h at H
       refine yg (ι:=(List Int)×Int×Int) (fun i=>[(2,.ptr 1 0),(3,.ptr 2 0)]) (fun i=>[(0,.box (some bl) 25 [.dat (vlst (List.map qx i.1)),.dat (vint i.2.1)]),(1,.box none 31 [.dat (vint 0),.dat (vnil),.dat (vstr [])]),(2,.box none 31 [.dat (vint i.2.2),.row 15 l85.length,.dat (vstr c87)]),(15,.row 54 2 (List.map zy l85))]) (fun i=>z3g l85 c87 i.1 i.2.1 i.2.2=some r) (fun i=>Z) ?_ ?_
       ·refine wi (zb hN Z (za (ze (.ptr _ _) Z) (bE H fun r88 h89 H=>zl (yu (kn (zu.mk c83 c84) 40 r88 h89) Z ⟨.inl Z,U⟩ Z) Z (zh _ Z (fun h90 => ?_) (fun h90 => ?_)))))
        ·refine tE h90 H fun H=>zj hN Z (za (ze (.ptr _ _) Z) (bE H fun r91 h92 H=>zl (yu (w7w r88.2 100 599 r91 h92) Z ⟨.inl Z,.inl Z,U⟩ Z) Z (za (zq xr Z) (zl (jn tyS3 Z Z Z Z) Z (wm ?_)))))
         show Cv _ _ _ _
         exact wd ⟨(r91.2.L,r91.2.at_,r91.1),H,⟨Z,Z,U⟩,⟨Z,Z,Z,Z,U⟩⟩
        ·refine fE h90 H fun H=>zn ?_
         show Cv _ _ _ _
         exact wd ⟨(r88.2.L,r88.2.at_,c86),H,⟨Z,Z,U⟩,⟨Z,Z,Z,Z,U⟩⟩
       ·rintro ⟨c93,c94,c95⟩ H
        replace H:z3g l85 c87 c93 c94 c95=some r:=H
        unfold z3g at H
        refine zd (z1a 2 1 15 rfl rfl rfl (by first | rw [List.length_map] | rfl) ?_)
        refine zj hN Z (zm (yr qg Z Z Z) Z (zl (yx qg Z Z Z Z) Z (zk ?_)))
        cases H
        exact ⟨U,⟨.inl ⟨_,_,_,qf (yb.mk c95 l85 c87),Z,Z,Z,Z,qg⟩,U⟩,Z⟩
theorem w71 (s1:zu) (r:(Bs×zu)) (H:z9j s1=some r):Imp Tryz.prog 32 25 (wg s1) [] (zr [vstr r.1]) (wg r.2):=by
 refine uf (us:=[vstr r.1]) (cs':=(wg r.2)) (by kernel_rfl) Tryz.func32 Z Z Z Z fun X bl hN => ?_
 unfold z9j at H
 refine zb hN Z (qe Z (zb hN Z (za (ze (.ptr _ _) Z) (za (ze (.ptr _ _) Z) (bE H fun r2 h3 H=>zl (yu (z9v s1 1 2 r2 h3) Z ⟨.inl Z,.inl Z,U⟩ Z) Z (za (yd (u':=vlst (List.map zx [[109,97,120,45,97,103,101,61,51,48],[109,97,120,45,97,103,101,61,48],[109,105,110,45,102,114,101,115,104,61,50,48],[109,97,120,45,115,116,97,108,101,61,49,53],[110,111,45,99,97,99,104,101],[111,110,108,121,45,105,102,45,99,97,99,104,101,100],[109,97,120,45,115,116,97,108,101,61,49,48,48,48],[110,111,45,115,116,111,114,101]])) (qj [[_],[_],[_],[_],[_],[_],[_],[_]] qr ⟨Z,.inl ⟨_,Z,Z,Z⟩,Z,Z,.inl ⟨_,Z,Z,Z⟩,Z,Z,.inl ⟨_,Z,Z,Z⟩,Z,Z,.inl ⟨_,Z,Z,Z⟩,Z,Z,.inl ⟨_,Z,Z,Z⟩,Z,Z,.inl ⟨_,Z,Z,Z⟩,Z,Z,.inl ⟨_,Z,Z,Z⟩,Z,Z,.inl ⟨_,Z,Z,Z⟩,Z,U⟩ Z Z) Z) (bE H fun r4 h5 H=>zl (yu (z2z r2.2 r2.1 [44,32] ([[109,97,120,45,97,103,101,61,51,48],[109,97,120,45,97,103,101,61,48],[109,105,110,45,102,114,101,115,104,61,50,48],[109,97,120,45,115,116,97,108,101,61,49,53],[110,111,45,99,97,99,104,101],[111,110,108,121,45,105,102,45,99,97,99,104,101,100],[109,97,120,45,115,116,97,108,101,61,49,48,48,48],[110,111,45,115,116,111,114,101]]) r4 h5) Z ⟨.inl Z,.inl Z,.inl Z,U⟩ Z) Z (qe Z (yg (ι:=Bs×(List Int)×Int) (fun i=>[(3,.dat (vstr i.1))]) (fun i=>[(0,.box (some bl) 25 [.dat (vlst (List.map qx i.2.1)),.dat (vint i.2.2)])]) (fun i=>z6z i.1 i.2.1 i.2.2=some r) (fun i=>Z) ?_ ?_)))))))))
 ·skip
  refine zb hN Z (za (ze (.ptr _ _) Z) (bE H fun r6 h7 H=>zl (yu (kn r4.2 20 r6 h7) Z ⟨.inl Z,U⟩ Z) Z (zh _ Z (fun h8 => ?_) (fun h8 => ?_))))
  ·exact tE h8 H fun H=>zj hN Z (za (ze (.ptr _ _) Z) (za (yd (u':=vlst (List.map zx [[109,97,120,45,115,116,97,108,101],[109,105,110,45,102,114,101,115,104,61,120]])) (qj [[_],[_]] qr ⟨Z,.inl ⟨_,Z,Z,Z⟩,Z,Z,.inl ⟨_,Z,Z,Z⟩,Z,U⟩ Z Z) Z) (bE H fun r9 h10 H=>zl (yu (jw r6.2 ([[109,97,120,45,115,116,97,108,101],[109,105,110,45,102,114,101,115,104,61,120]]) r9 h10) Z ⟨.inl Z,U⟩ Z) Z (qe Z ⟨(r9.1,r9.2.L,r9.2.at_),H,⟨Z,U⟩,⟨Z,U⟩⟩))))
  ·exact fE h8 H fun H=>zn ⟨(r4.1,r6.2.L,r6.2.at_),H,⟨Z,U⟩,⟨Z,U⟩⟩
 ·rintro ⟨t11,c12,c13⟩ H
  replace H:z6z t11 c12 c13=some r:=H
  unfold z6z at H
  refine zb hN Z (qd Z (qe Z (zk ?_)))
  cases H
  exact ⟨U,⟨.inl Z,U⟩,Z⟩
theorem w7y (s1:zu) (t2:Bs) (v3:Bs) (r:(Bs×zu)) (H:z9g s1 t2 v3=some r):Imp Tryz.prog 82 25 (wg s1) [vstr t2,vstr v3] (zr [vstr r.1]) (wg r.2):=by
 refine uf (us:=[vstr r.1]) (cs':=(wg r.2)) (by kernel_rfl) Tryz.func82 Z Z Z Z fun X bl hN => ?_
 unfold z9g at H
 refine zb hN Z (qe Z (zd (zb hN Z (qd Z (za (vi Z Z) (qd Z (yp Z Z (fun hc=>ze (.dat _) Z) (yp Z Z (fun hc=>vi (cnd (c:=(!(decide (t2=[])))) hc) Z) (za (wy Z Z (fun hb=>(cnd (c:=(!(decide (t2=[])))) (notI hb)))) (zh _ Z (fun h4 => ?_) (fun h4 => ?_)))))))))))
 ·refine tE h4 H fun H=>zb hN Z (qd Z (qe Z (zk ?_)))
  cases H
  exact ⟨U,⟨.inl Z,U⟩,Z⟩
 ·refine fE h4 H fun H=>zn (zb hN Z (za (ze (.ptr _ _) Z) (qd Z (za (qi tyU9 Z) (bE H fun r5 h6 H=>zl (yu (z22 s1 (t2.length:Int) r5 h6) Z ⟨.inl Z,U⟩ Z) Z (qe Z (zb hN Z (qd Z (za (ze (.ptr _ _) Z) (qd Z (za (qi tyU9 Z) (bE H fun r7 h8 H=>zl (yu (z22 r5.2 (v3.length:Int) r7 h8) Z ⟨.inl Z,U⟩ Z) Z (bE H fun x9 h10 H=>za (kr tyU9 Z Z h10) (qe Z (zd (zb hN Z (za (ze (.ptr _ _) Z) (bE H fun r11 h12 H=>zl (yu (z22 r7.2 3 r11 h12) Z ⟨.inl Z,U⟩ Z) Z ?_))))))))))))))))))
  refine yc (zb hN Z (za (yq Z Z) (qe Z (zh _ Z (fun h13 => ?_) (fun h13 => ?_)))))
  ·refine tE h13 H fun H=>zd (ww mixed hN Z Z (qd Z (qd Z (bE H fun l14 h15 H=>za (vh tyU9 Z Z Z h15) (qd Z (za (kf tyU5 y1a Z) (za (x2q y1a Z tyU9 Z) (gE H fun h16 H=>za (vf Z Z (Nat.le_trans h16 (by decide))) (qd Z (qd Z (za (ym _ Z Z (.inl ⟨Z,Z⟩)) (bE H fun l17 h18 H=>za (vh tyU9 Z Z Z h18) (gE H fun h19 H=>za (vf Z Z (Nat.le_trans h19 (by decide))) (qe Z ⟨Z,?_⟩))))))))))))))
   refine zk ?_
   cases H
   exact ⟨U,⟨.inl Z,U⟩,Z⟩
  ·refine fE h13 H fun H=>zb hN Z (za (yq Z Z) (qe Z (zh _ Z (fun h20 => ?_) (fun h20 => ?_))))
   ·refine tE h20 H fun H=>zd (ww mixed hN Z Z (qd Z (qd Z (bE H fun l21 h22 H=>za (vh tyU9 Z Z Z h22) (qd Z (za (kf tyU5 y1a Z) (za (x2q y1a Z tyU9 Z) (gE H fun h23 H=>za (vf Z Z (Nat.le_trans h23 (by decide))) (qd Z (qd Z (bE H fun l24 h25 H=>za (vh tyU9 Z Z Z h25) (gE H fun h26 H=>za (vf Z Z (Nat.le_trans h26 (by decide))) (qe Z ⟨Z,?_⟩)))))))))))))
    refine zk ?_
    cases H
    exact ⟨U,⟨.inl Z,U⟩,Z⟩
   ·refine fE h20 H fun H=>zn (zd (ww mixed hN Z Z (qd Z (qd Z (bE H fun l27 h28 H=>za (vh tyU9 Z Z Z h28) (qd Z (qd Z (za (ym _ Z Z (.inl ⟨Z,Z⟩)) (bE H fun l29 h30 H=>za (vh tyU9 Z Z Z h30) (gE H fun h31 H=>za (vf Z Z (Nat.le_trans h31 (by decide))) (qe Z ⟨Z,?_⟩)))))))))))
    refine zk ?_
    cases H
    exact ⟨U,⟨.inl Z,U⟩,Z⟩
theorem w7v (s1:zu) (r:(Bs×zu)) (H:z9d s1=some r):Imp Tryz.prog 33 25 (wg s1) [] (zr [vstr r.1]) (wg r.2):=by
 refine uf (us:=[vstr r.1]) (cs':=(wg r.2)) (by kernel_rfl) Tryz.func33 Z Z Z Z fun X bl hN => ?_
 unfold z9d at H
 refine zb hN Z (qe Z (zb hN Z (za (ze (.ptr _ _) Z) (za (ze (.ptr _ _) Z) (bE H fun r2 h3 H=>zl (yu (z9v s1 0 4 r2 h3) Z ⟨.inl Z,.inl Z,U⟩ Z) Z (za (yd (u':=vlst (List.map zx [[97],[98],[37,52,49],[37,50,102],[37,55,101],[46],[46,46],[],[120,59,121],[99,37,50,48,100],[37,99,51,37,97,52],[65],[97,46,98],[126]])) (qj [[_],[_],[_],[_],[_],[_],[_],[_],[_],[_],[_],[_],[_],[_]] qr ⟨Z,.inl ⟨_,Z,Z,Z⟩,Z,Z,.inl ⟨_,Z,Z,Z⟩,Z,Z,.inl ⟨_,Z,Z,Z⟩,Z,Z,.inl ⟨_,Z,Z,Z⟩,Z,Z,.inl ⟨_,Z,Z,Z⟩,Z,Z,.inl ⟨_,Z,Z,Z⟩,Z,Z,.inl ⟨_,Z,Z,Z⟩,Z,Z,.inl ⟨_,Z,Z,Z⟩,Z,Z,.inl ⟨_,Z,Z,Z⟩,Z,Z,.inl ⟨_,Z,Z,Z⟩,Z,Z,.inl ⟨_,Z,Z,Z⟩,Z,Z,.inl ⟨_,Z,Z,Z⟩,Z,Z,.inl ⟨_,Z,Z,Z⟩,Z,Z,.inl ⟨_,Z,Z,Z⟩,Z,U⟩ Z Z) Z) (bE H fun r4 h5 H=>zl (yu (z2z r2.2 r2.1 [47] ([[97],[98],[37,52,49],[37,50,102],[37,55,101],[46],[46,46],[],[120,59,121],[99,37,50,48,100],[37,99,51,37,97,52],[65],[97,46,98],[126]]) r4 h5) Z ⟨.inl Z,.inl Z,.inl Z,U⟩ Z) Z (gE H fun h6 H=>za (vf Z Z (Nat.le_trans h6 (by decide))) (qe Z (yg (ι:=Bs×(List Int)×Int) (fun i=>[(0,.ptr 0 0),(3,.dat (vstr i.1))]) (fun i=>[(0,.box (some bl) 25 [.dat (vlst (List.map qx i.2.1)),.dat (vint i.2.2)])]) (fun i=>z3e i.1 i.2.1 i.2.2=some r) (fun i=>Z) ?_ ?_))))))))))
 ·skip
  refine zb hN Z (za (ze (.ptr _ _) Z) (bE H fun r7 h8 H=>zl (yu (kn r4.2 12 r7 h8) Z ⟨.inl Z,U⟩ Z) Z (zh _ Z (fun h9 => ?_) (fun h9 => ?_))))
  ·exact tE h9 H fun H=>zj hN Z (za (ze (.ptr _ _) Z) (bE H fun r10 h11 H=>za (zo (x5t [37,50,48] 340 r10 h11) ⟨.inl Z,.inl Z,U⟩) (gE H fun h12 H=>za (vf Z Z (Nat.le_trans h12 (by decide))) (za (yd (u':=vlst (List.map zx [[],[97],[47,97,63,98],[47,97,35],[47,37],[47,37,52],[47,37,122,122],[47,127],[47,97,32,98],([47]++r10)])) (qj [[_],[_],[_],[_],[_],[_],[_],[_],[_],[_]] qr ⟨Z,.inl ⟨_,Z,Z,Z⟩,Z,Z,.inl ⟨_,Z,Z,Z⟩,Z,Z,.inl ⟨_,Z,Z,Z⟩,Z,Z,.inl ⟨_,Z,Z,Z⟩,Z,Z,.inl ⟨_,Z,Z,Z⟩,Z,Z,.inl ⟨_,Z,Z,Z⟩,Z,Z,.inl ⟨_,Z,Z,Z⟩,Z,Z,.inl ⟨_,Z,Z,Z⟩,Z,Z,.inl ⟨_,Z,Z,Z⟩,Z,Z,.inl ⟨_,Z,Z,Z⟩,Z,U⟩ Z Z) Z) (bE H fun r13 h14 H=>zl (yu (jw r7.2 ([[],[97],[47,97,63,98],[47,97,35],[47,37],[47,37,52],[47,37,122,122],[47,127],[47,97,32,98],([47]++r10)]) r13 h14) Z ⟨.inl Z,U⟩ Z) Z (qe Z ⟨(r13.1,r13.2.L,r13.2.at_),H,⟨Z,Z,U⟩,⟨Z,U⟩⟩))))))
  ·exact fE h9 H fun H=>zn ⟨(([47]++r4.1),r7.2.L,r7.2.at_),H,⟨Z,Z,U⟩,⟨Z,U⟩⟩
 ·rintro ⟨p15,c16,c17⟩ H
  replace H:z3e p15 c16 c17=some r:=H
  unfold z3e at H
  refine yg (ι:=Bs×(List Int)×Int) (fun i=>[(3,.dat (vstr i.1))]) (fun i=>[(0,.box (some bl) 25 [.dat (vlst (List.map qx i.2.1)),.dat (vint i.2.2)])]) (fun i=>z6x i.1 i.2.1 i.2.2=some r) (fun i=>Z) ?_ ?_
  ·skip
   refine zb hN Z (za (ze (.ptr _ _) Z) (bE H fun r18 h19 H=>zl (yu (kn (zu.mk c16 c17) 12 r18 h19) Z ⟨.inl Z,U⟩ Z) Z (zh _ Z (fun h20 => ?_) (fun h20 => ?_))))
   ·exact tE h20 H fun H=>zj hN Z (za (ze (.ptr _ _) Z) (qd Z (bE H fun r21 h22 H=>zl (yu (w7y r18.2 p15 [47,46,37,50,102,65] r21 h22) Z ⟨.inl Z,.inl Z,U⟩ Z) Z (qe Z ⟨(r21.1,r21.2.L,r21.2.at_),H,⟨Z,U⟩,⟨Z,U⟩⟩))))
   ·exact fE h20 H fun H=>zn ⟨(p15,r18.2.L,r18.2.at_),H,⟨Z,U⟩,⟨Z,U⟩⟩
  ·rintro ⟨p23,c24,c25⟩ H
   replace H:z6x p23 c24 c25=some r:=H
   unfold z6x at H
   refine zb hN Z (qd Z (qe Z (zk ?_)))
   cases H
   exact ⟨U,⟨.inl Z,U⟩,Z⟩
theorem w7u (s1:zu) (r:(Bs×zu)) (H:z2r s1=some r):Imp Tryz.prog 34 25 (wg s1) [] (zr [vstr r.1]) (wg r.2):=by
 refine uf (us:=[vstr r.1]) (cs':=(wg r.2)) (by kernel_rfl) Tryz.func34 Z Z Z Z fun X bl hN => ?_
 unfold z2r at H
 refine zb hN Z (qe Z (zb hN Z (za (ze (.ptr _ _) Z) (za (ze (.ptr _ _) Z) (bE H fun r2 h3 H=>zl (yu (z9v s1 0 4 r2 h3) Z ⟨.inl Z,.inl Z,U⟩ Z) Z (za (yd (u':=vlst (List.map zx [[97,61,49],[98,61,50],[97,61],[61,120],[61],[99],[],[97,61,37,52,49,43,37,50,66],[100,61,120,37,50,54,121],[98,61,37,99,51],[97,61,49,61,50],[97,63,98,61,47]])) (qj [[_],[_],[_],[_],[_],[_],[_],[_],[_],[_],[_],[_]] qr ⟨Z,.inl ⟨_,Z,Z,Z⟩,Z,Z,.inl ⟨_,Z,Z,Z⟩,Z,Z,.inl ⟨_,Z,Z,Z⟩,Z,Z,.inl ⟨_,Z,Z,Z⟩,Z,Z,.inl ⟨_,Z,Z,Z⟩,Z,Z,.inl ⟨_,Z,Z,Z⟩,Z,Z,.inl ⟨_,Z,Z,Z⟩,Z,Z,.inl ⟨_,Z,Z,Z⟩,Z,Z,.inl ⟨_,Z,Z,Z⟩,Z,Z,.inl ⟨_,Z,Z,Z⟩,Z,Z,.inl ⟨_,Z,Z,Z⟩,Z,Z,.inl ⟨_,Z,Z,Z⟩,Z,U⟩ Z Z) Z) (bE H fun r4 h5 H=>zl (yu (z2z r2.2 r2.1 [38] ([[97,61,49],[98,61,50],[97,61],[61,120],[61],[99],[],[97,61,37,52,49,43,37,50,66],[100,61,120,37,50,54,121],[98,61,37,99,51],[97,61,49,61,50],[97,63,98,61,47]]) r4 h5) Z ⟨.inl Z,.inl Z,.inl Z,U⟩ Z) Z (qe Z (yg (ι:=Bs×(List Int)×Int) (fun i=>[(3,.dat (vstr i.1))]) (fun i=>[(0,.box (some bl) 25 [.dat (vlst (List.map qx i.2.1)),.dat (vint i.2.2)])]) (fun i=>z3d i.1 i.2.1 i.2.2=some r) (fun i=>Z) ?_ ?_)))))))))
 ·skip
  refine zb hN Z (za (ze (.ptr _ _) Z) (bE H fun r6 h7 H=>zl (yu (kn r4.2 12 r6 h7) Z ⟨.inl Z,U⟩ Z) Z (zh _ Z (fun h8 => ?_) (fun h8 => ?_))))
  ·exact tE h8 H fun H=>zj hN Z (za (ze (.ptr _ _) Z) (za (ze (.ptr _ _) Z) (za (yd (u':=vlst (List.map zx [[120]])) (qj [[_]] qr ⟨Z,.inl ⟨_,Z,Z,Z⟩,Z,U⟩ Z Z) Z) (bE H fun r9 h10 H=>zl (yu (z2z r6.2 101 [38] ([[120]]) r9 h10) Z ⟨.inl Z,.inl Z,.inl Z,U⟩ Z) Z (za (yd (u':=vlst (List.map zx [[35],[97,37],[37,103,49,61,50],[97,32,98],[128],r9.1])) (qj [[_],[_],[_],[_],[_],[_]] qr ⟨Z,.inl ⟨_,Z,Z,Z⟩,Z,Z,.inl ⟨_,Z,Z,Z⟩,Z,Z,.inl ⟨_,Z,Z,Z⟩,Z,Z,.inl ⟨_,Z,Z,Z⟩,Z,Z,.inl ⟨_,Z,Z,Z⟩,Z,Z,.inl ⟨_,Z,Z,Z⟩,Z,U⟩ Z Z) Z) (bE H fun r11 h12 H=>zl (yu (jw r9.2 ([[35],[97,37],[37,103,49,61,50],[97,32,98],[128],r9.1]) r11 h12) Z ⟨.inl Z,U⟩ Z) Z (qe Z ⟨(r11.1,r11.2.L,r11.2.at_),H,⟨Z,U⟩,⟨Z,U⟩⟩)))))))
  ·exact fE h8 H fun H=>zn ⟨(r4.1,r6.2.L,r6.2.at_),H,⟨Z,U⟩,⟨Z,U⟩⟩
 ·rintro ⟨q13,c14,c15⟩ H
  replace H:z3d q13 c14 c15=some r:=H
  unfold z3d at H
  refine zb hN Z (qd Z (qe Z (zk ?_)))
  cases H
  exact ⟨U,⟨.inl Z,U⟩,Z⟩
theorem w70 (s1:zu) (v2:Int) (r:(zw×zu)) (H:z9i s1 v2=some r):Imp Tryz.prog 7 25 (wg s1) [vint v2] (zr [vagg (qq r.1)]) (wg r.2):=by
 refine uf (us:=[vagg (qq r.1)]) (cs':=(wg r.2)) (by kernel_rfl) Tryz.func7 Z Z Z Z fun X bl hN => ?_
 unfold z9i at H
 refine zb hN Z (zl (qt 1 jm Z) Z (zb hN Z (qd Z (za (ze (.ptr _ _) Z) (za (yd (u':=vlst (List.map zx [[71,69,84],[71,69,84],[71,69,84],[71,69,84],[72,69,65,68],[80,79,83,84]])) (qj [[_],[_],[_],[_],[_],[_]] qr ⟨Z,.inl ⟨_,Z,Z,Z⟩,Z,Z,.inl ⟨_,Z,Z,Z⟩,Z,Z,.inl ⟨_,Z,Z,Z⟩,Z,Z,.inl ⟨_,Z,Z,Z⟩,Z,Z,.inl ⟨_,Z,Z,Z⟩,Z,Z,.inl ⟨_,Z,Z,Z⟩,Z,U⟩ Z Z) Z) (bE H fun r3 h4 H=>zl (yu (jw s1 ([[71,69,84],[71,69,84],[71,69,84],[71,69,84],[72,69,65,68],[80,79,83,84]]) r3 h4) Z ⟨.inl Z,U⟩ Z) Z (za (ze (.ptr _ _) Z) (za (yd (u':=vlst (List.map zx [[97,46,98],[97,46,98],[65,46,66,58,56,48],[99,46,100]])) (qj [[_],[_],[_],[_]] qr ⟨Z,.inl ⟨_,Z,Z,Z⟩,Z,Z,.inl ⟨_,Z,Z,Z⟩,Z,Z,.inl ⟨_,Z,Z,Z⟩,Z,Z,.inl ⟨_,Z,Z,Z⟩,Z,U⟩ Z Z) Z) (bE H fun r5 h6 H=>zl (yu (jw r3.2 ([[97,46,98],[97,46,98],[65,46,66,58,56,48],[99,46,100]]) r5 h6) Z ⟨.inl Z,U⟩ Z) Z (za (ze (.ptr _ _) Z) (za (yd (u':=vlst (List.map zx [[47,120],[47,120],[47,120,47,46,47],[47,37,55,56],[47,121]])) (qj [[_],[_],[_],[_],[_]] qr ⟨Z,.inl ⟨_,Z,Z,Z⟩,Z,Z,.inl ⟨_,Z,Z,Z⟩,Z,Z,.inl ⟨_,Z,Z,Z⟩,Z,Z,.inl ⟨_,Z,Z,Z⟩,Z,Z,.inl ⟨_,Z,Z,Z⟩,Z,U⟩ Z Z) Z) (bE H fun r7 h8 H=>zl (yu (jw r5.2 ([[47,120],[47,120],[47,120,47,46,47],[47,37,55,56],[47,121]]) r7 h8) Z ⟨.inl Z,U⟩ Z) Z (za (ze (.ptr _ _) Z) (za (yd (u':=vlst (List.map zx [[],[],[98,61,50,38,97,61,49],[97,61,49,38,98,61,50]])) (qj [[_],[_],[_],[_]] qr ⟨Z,.inl ⟨_,Z,Z,Z⟩,Z,Z,.inl ⟨_,Z,Z,Z⟩,Z,Z,.inl ⟨_,Z,Z,Z⟩,Z,Z,.inl ⟨_,Z,Z,Z⟩,Z,U⟩ Z Z) Z) (bE H fun r9 h10 H=>zl (yu (jw r7.2 ([[],[],[98,61,50,38,97,61,49],[97,61,49,38,98,61,50]]) r9 h10) Z ⟨.inl Z,U⟩ Z) Z (za (yd (u':=vagg [vint v2,vstr r3.1,vstr r5.1,vstr r7.1,vstr r9.1,vstr [],vnil,vstr []]) (qw [(0,[vint v2]),(1,[vstr r3.1]),(2,[vstr r5.1]),(3,[vstr r7.1]),(4,[vstr r9.1])] jm xq Z ⟨Z,.inl ⟨_,Z,Z,Z⟩,Z,Z,.inl ⟨_,Z,Z,Z⟩,Z,Z,.inl ⟨_,Z,Z,Z⟩,Z,Z,.inl ⟨_,Z,Z,Z⟩,Z,Z,.inl ⟨_,Z,Z,Z⟩,Z,U⟩) Z) (zl (qt 2 jm Z) Z (zl (yx qa Z Z Z Z) Z (Yv 2 6 3 54 2 Z Z Z Z ?_)))))))))))))))))))
 refine yg (ι:=(List Int)×Int×(List zg)) (fun i=>[(0,.ptr 0 0),(4,.ptr 1 0),(5,.ptr 2 0)]) (fun i=>[(0,.box (some bl) 25 [.dat (vlst (List.map qx i.1)),.dat (vint i.2.1)]),(1,.box none 36 [.dat (vint 0),.dat (vstr []),.dat (vstr []),.dat (vstr []),.dat (vstr []),.dat (vstr []),.dat (vnil),.dat (vstr [])]),(2,.box none 36 [.dat (vint v2),.dat (vstr r3.1),.dat (vstr r5.1),.dat (vstr r7.1),.dat (vstr r9.1),.dat (vstr []),.row 3 i.2.2.length,.dat (vstr [])]),(3,.row 54 2 (List.map zy i.2.2))]) (fun i=>z3r v2 r3 r5 r7 r9 i.1 i.2.1 i.2.2=some r) (fun i=>Z) ?_ ?_
 ·refine wi (zb hN Z (za (ze (.ptr _ _) Z) (bE H fun r11 h12 H=>zl (yu (kn r9.2 3 r11 h12) Z ⟨.inl Z,U⟩ Z) Z (zh _ Z (fun h13 => ?_) (fun h13 => ?_)))))
  ·refine tE h13 H fun H=>ww mixed hN Z Z (za (zq jt Z) (zm (zt qu Z Z) Z (za (ze (.ptr _ _) Z) (za (yd (u':=vlst (List.map zx [[97,99,99,101,112,116,45,108,97,110,103,117,97,103,101],[65,99,99,101,112,116,45,76,97,110,103,117,97,103,101]])) (qj [[_],[_]] qr ⟨Z,.inl ⟨_,Z,Z,Z⟩,Z,Z,.inl ⟨_,Z,Z,Z⟩,Z,U⟩ Z Z) Z) (bE H fun r14 h15 H=>zl (yu (jw r11.2 ([[97,99,99,101,112,116,45,108,97,110,103,117,97,103,101],[65,99,99,101,112,116,45,76,97,110,103,117,97,103,101]]) r14 h15) Z ⟨.inl Z,U⟩ Z) Z (za (ze (.ptr _ _) Z) (za (yd (u':=vlst (List.map zx [[100,101],[101,110]])) (qj [[_],[_]] qr ⟨Z,.inl ⟨_,Z,Z,Z⟩,Z,Z,.inl ⟨_,Z,Z,Z⟩,Z,U⟩ Z Z) Z) (bE H fun r16 h17 H=>zl (yu (jw r14.2 ([[100,101],[101,110]]) r16 h17) Z ⟨.inl Z,U⟩ Z) Z (za (yd (u':=vagg (zy (zg.mk r14.1 r16.1))) (qw [(0,[vstr r14.1]),(1,[vstr r16.1])] ky Yy Z ⟨Z,.inl ⟨_,Z,Z,Z⟩,Z,Z,.inl ⟨_,Z,Z,Z⟩,Z,U⟩) Z) (za (yd (u':=vlst (List.map zy [(zg.mk r14.1 r16.1)])) (qj [_] js ⟨Z,.inr Z,Z,U⟩ Z Z) Z) (gE H fun h18 H=>zl (ke (C:=zy) (xs:=([]:List zg)) js (fun _=>Z) Z Z Z ⟨by simp,by first | (simp; done) | simpa using h18⟩ Z) Z ?_)))))))))))
   refine za (zq jt Z) (Zn (Zm qu Z Z (by rw [List.length_map]) Z) Z Z ?_)
   refine ⟨Z,?_⟩
   show Cv _ _ _ _
   exact wd ⟨(r16.2.L,r16.2.at_,(([]:List zg)++[(zg.mk r14.1 r16.1)])),H,⟨Z,Z,Z,U⟩,⟨Z,Z,Z,Z,U⟩⟩
  ·refine fE h13 H fun H=>zn ?_
   show Cv _ _ _ _
   exact wd ⟨(r11.2.L,r11.2.at_,([]:List zg)),H,⟨Z,Z,Z,U⟩,⟨Z,Z,(congrArg (fun n=>some (some (AObj.box none 36 [.dat (vint v2),.dat (vstr r3.1),.dat (vstr r5.1),.dat (vstr r7.1),.dat (vstr r9.1),.dat (vstr []),.row 3 n,.dat (vstr [])]))) (show 0=([]:List zg).length from (by simp))),Z,U⟩⟩
 ·rintro ⟨c19,c20,l21⟩ H
  replace H:z3r v2 r3 r5 r7 r9 c19 c20 l21=some r:=H
  unfold z3r at H
  refine yg (ι:=(List Int)×Int×(List zg)) (fun i=>[(0,.ptr 0 0),(4,.ptr 1 0),(5,.ptr 2 0)]) (fun i=>[(0,.box (some bl) 25 [.dat (vlst (List.map qx i.1)),.dat (vint i.2.1)]),(1,.box none 36 [.dat (vint 0),.dat (vstr []),.dat (vstr []),.dat (vstr []),.dat (vstr []),.dat (vstr []),.dat (vnil),.dat (vstr [])]),(2,.box none 36 [.dat (vint v2),.dat (vstr r3.1),.dat (vstr r5.1),.dat (vstr r7.1),.dat (vstr r9.1),.dat (vstr []),.row 3 i.2.2.length,.dat (vstr [])]),(3,.row 54 2 (List.map zy i.2.2))]) (fun i=>z3q v2 r3 r5 r7 r9 i.1 i.2.1 i.2.2=some r) (fun i=>Z) ?_ ?_
  ·refine wi (zb hN Z (za (ze (.ptr _ _) Z) (bE H fun r22 h23 H=>zl (yu (kn (zu.mk c19 c20) 4 r22 h23) Z ⟨.inl Z,U⟩ Z) Z (zh _ Z (fun h24 => ?_) (fun h24 => ?_)))))
   ·refine tE h24 H fun H=>ww mixed hN Z Z (za (zq jt Z) (zm (zt qu Z Z) Z (za (ze (.ptr _ _) Z) (bE H fun r25 h26 H=>zl (yu (w71 r22.2 r25 h26) Z U Z) Z (za (yd (u':=vagg (zy (zg.mk [99,97,99,104,101,45,99,111,110,116,114,111,108] r25.1))) (qw [(0,[vstr [99,97,99,104,101,45,99,111,110,116,114,111,108]]),(1,[vstr r25.1])] ky Yy Z ⟨Z,.inl ⟨_,Z,Z,Z⟩,Z,Z,.inl ⟨_,Z,Z,Z⟩,Z,U⟩) Z) (za (yd (u':=vlst (List.map zy [(zg.mk [99,97,99,104,101,45,99,111,110,116,114,111,108] r25.1)])) (qj [_] js ⟨Z,.inr Z,Z,U⟩ Z Z) Z) (gE H fun h27 H=>zl (ke js (fun _=>Z) Z Z Z ⟨by simp,by first | (simp; done) | simpa using h27⟩ Z) Z ?_)))))))
    refine za (zq jt Z) (Zn (Zm qu Z Z (by rw [List.length_map]) Z) Z Z ?_)
    refine ⟨Z,?_⟩
    show Cv _ _ _ _
    exact wd ⟨(r25.2.L,r25.2.at_,(l21++([(zg.mk [99,97,99,104,101,45,99,111,110,116,114,111,108] r25.1)]))),H,⟨Z,Z,Z,U⟩,⟨Z,Z,Z,Z,U⟩⟩
   ·refine fE h24 H fun H=>zn ?_
    show Cv _ _ _ _
    exact wd ⟨(r22.2.L,r22.2.at_,l21),H,⟨Z,Z,Z,U⟩,⟨Z,Z,Z,Z,U⟩⟩
  ·rintro ⟨c28,c29,l30⟩ H
   replace H:z3q v2 r3 r5 r7 r9 c28 c29 l30=some r:=H
   unfold z3q at H
   refine yg (ι:=(List Int)×Int×(List zg)) (fun i=>[(0,.ptr 0 0),(4,.ptr 1 0),(5,.ptr 2 0)]) (fun i=>[(0,.box (some bl) 25 [.dat (vlst (List.map qx i.1)),.dat (vint i.2.1)]),(1,.box none 36 [.dat (vint 0),.dat (vstr []),.dat (vstr []),.dat (vstr []),.dat (vstr []),.dat (vstr []),.dat (vnil),.dat (vstr [])]),(2,.box none 36 [.dat (vint v2),.dat (vstr r3.1),.dat (vstr r5.1),.dat (vstr r7.1),.dat (vstr r9.1),.dat (vstr []),.row 3 i.2.2.length,.dat (vstr [])]),(3,.row 54 2 (List.map zy i.2.2))]) (fun i=>z3p v2 r3 r5 r7 r9 i.1 i.2.1 i.2.2=some r) (fun i=>Z) ?_ ?_
   ·refine wi (zb hN Z (za (ze (.ptr _ _) Z) (bE H fun r31 h32 H=>zl (yu (kn (zu.mk c28 c29) 12 r31 h32) Z ⟨.inl Z,U⟩ Z) Z (zh _ Z (fun h33 => ?_) (fun h33 => ?_)))))
    ·refine tE h33 H fun H=>zj hN Z (za (zq jt Z) (zm (zt qu Z Z) Z (za (yd (u':=vagg (zy (zg.mk [97,117,116,104,111,114,105,122,97,116,105,111,110] [66,101,97,114,101,114,32,120]))) (qw [(0,[vstr [97,117,116,104,111,114,105,122,97,116,105,111,110]]),(1,[vstr [66,101,97,114,101,114,32,120]])] ky Yy Z ⟨Z,.inl ⟨_,Z,Z,Z⟩,Z,Z,.inl ⟨_,Z,Z,Z⟩,Z,U⟩) Z) (za (yd (u':=vlst (List.map zy [(zg.mk [97,117,116,104,111,114,105,122,97,116,105,111,110] [66,101,97,114,101,114,32,120])])) (qj [_] js ⟨Z,.inr Z,Z,U⟩ Z Z) Z) (gE H fun h34 H=>zl (ke js (fun _=>Z) Z Z Z ⟨by simp,by first | (simp; done) | simpa using h34⟩ Z) Z ?_)))))
     refine za (zq jt Z) (Zn (Zm qu Z Z (by rw [List.length_map]) Z) Z Z ?_)
     refine wm ?_
     show Cv _ _ _ _
     exact wd ⟨(r31.2.L,r31.2.at_,(l30++([(zg.mk [97,117,116,104,111,114,105,122,97,116,105,111,110] [66,101,97,114,101,114,32,120])]))),H,⟨Z,Z,Z,U⟩,⟨Z,Z,Z,Z,U⟩⟩
    ·refine fE h33 H fun H=>zn ?_
     show Cv _ _ _ _
     exact wd ⟨(r31.2.L,r31.2.at_,l30),H,⟨Z,Z,Z,U⟩,⟨Z,Z,Z,Z,U⟩⟩
   ·rintro ⟨c35,c36,l37⟩ H
    replace H:z3p v2 r3 r5 r7 r9 c35 c36 l37=some r:=H
    unfold z3p at H
    refine yg (ι:=(List Int)×Int×(List zg)) (fun i=>[(0,.ptr 0 0),(4,.ptr 1 0),(5,.ptr 2 0)]) (fun i=>[(0,.box (some bl) 25 [.dat (vlst (List.map qx i.1)),.dat (vint i.2.1)]),(1,.box none 36 [.dat (vint 0),.dat (vstr []),.dat (vstr []),.dat (vstr []),.dat (vstr []),.dat (vstr []),.dat (vnil),.dat (vstr [])]),(2,.box none 36 [.dat (vint v2),.dat (vstr r3.1),.dat (vstr r5.1),.dat (vstr r7.1),.dat (vstr r9.1),.dat (vstr []),.row 3 i.2.2.length,.dat (vstr [])]),(3,.row 54 2 (List.map zy i.2.2))]) (fun i=>z3o v2 r3 r5 r7 r9 i.1 i.2.1 i.2.2=some r) (fun i=>Z) ?_ ?_
    ·refine wi (zb hN Z (za (ze (.ptr _ _) Z) (bE H fun r38 h39 H=>zl (yu (kn (zu.mk c35 c36) 8 r38 h39) Z ⟨.inl Z,U⟩ Z) Z (zh _ Z (fun h40 => ?_) (fun h40 => ?_)))))
     ·refine tE h40 H fun H=>ww mixed hN Z Z (za (zq jt Z) (zm (zt qu Z Z) Z (za (ze (.ptr _ _) Z) (za (yd (u':=vlst (List.map zx [[34,118,49,34],[87,47,34,118,50,34,44,32,34,118,49,34],[42],[118,49]])) (qj [[_],[_],[_],[_]] qr ⟨Z,.inl ⟨_,Z,Z,Z⟩,Z,Z,.inl ⟨_,Z,Z,Z⟩,Z,Z,.inl ⟨_,Z,Z,Z⟩,Z,Z,.inl ⟨_,Z,Z,Z⟩,Z,U⟩ Z Z) Z) (bE H fun r41 h42 H=>zl (yu (jw r38.2 ([[34,118,49,34],[87,47,34,118,50,34,44,32,34,118,49,34],[42],[118,49]]) r41 h42) Z ⟨.inl Z,U⟩ Z) Z (za (yd (u':=vagg (zy (zg.mk [105,102,45,110,111,110,101,45,109,97,116,99,104] r41.1))) (qw [(0,[vstr [105,102,45,110,111,110,101,45,109,97,116,99,104]]),(1,[vstr r41.1])] ky Yy Z ⟨Z,.inl ⟨_,Z,Z,Z⟩,Z,Z,.inl ⟨_,Z,Z,Z⟩,Z,U⟩) Z) (za (yd (u':=vlst (List.map zy [(zg.mk [105,102,45,110,111,110,101,45,109,97,116,99,104] r41.1)])) (qj [_] js ⟨Z,.inr Z,Z,U⟩ Z Z) Z) (gE H fun h43 H=>zl (ke js (fun _=>Z) Z Z Z ⟨by simp,by first | (simp; done) | simpa using h43⟩ Z) Z ?_))))))))
      refine za (zq jt Z) (Zn (Zm qu Z Z (by rw [List.length_map]) Z) Z Z ?_)
      refine ⟨Z,?_⟩
      show Cv _ _ _ _
      exact wd ⟨(r41.2.L,r41.2.at_,(l37++([(zg.mk [105,102,45,110,111,110,101,45,109,97,116,99,104] r41.1)]))),H,⟨Z,Z,Z,U⟩,⟨Z,Z,Z,Z,U⟩⟩
     ·refine fE h40 H fun H=>zn ?_
      show Cv _ _ _ _
      exact wd ⟨(r38.2.L,r38.2.at_,l37),H,⟨Z,Z,Z,U⟩,⟨Z,Z,Z,Z,U⟩⟩
    ·rintro ⟨c44,c45,l46⟩ H
     replace H:z3o v2 r3 r5 r7 r9 c44 c45 l46=some r:=H
     unfold z3o at H
     refine yg (ι:=(List Int)×Int×Bs×Bs) (fun i=>[(4,.ptr 1 0),(5,.ptr 2 0)]) (fun i=>[(0,.box (some bl) 25 [.dat (vlst (List.map qx i.1)),.dat (vint i.2.1)]),(1,.box none 36 [.dat (vint 0),.dat (vstr []),.dat (vstr []),.dat (vstr []),.dat (vstr []),.dat (vstr []),.dat (vnil),.dat (vstr [])]),(2,.box none 36 [.dat (vint v2),.dat (vstr r3.1),.dat (vstr r5.1),.dat (vstr i.2.2.1),.dat (vstr i.2.2.2),.dat (vstr []),.row 3 l46.length,.dat (vstr [])]),(3,.row 54 2 (List.map zy l46))]) (fun i=>z3n v2 r3 r5 l46 i.1 i.2.1 i.2.2.1 i.2.2.2=some r) (fun i=>Z) ?_ ?_
     ·refine wi (zb hN Z (za (ze (.ptr _ _) Z) (bE H fun r47 h48 H=>zl (yu (kn (zu.mk c44 c45) 40 r47 h48) Z ⟨.inl Z,U⟩ Z) Z (zh _ Z (fun h49 => ?_) (fun h49 => ?_)))))
      ·refine tE h49 H fun H=>zj hN Z (za (ze (.ptr _ _) Z) (bE H fun r50 h51 H=>zl (yu (w7v r47.2 r50 h51) Z U Z) Z (za (ze (.ptr _ _) Z) (bE H fun r52 h53 H=>zl (yu (w7u r50.2 r52 h53) Z U Z) Z (za (zq Yz Z) (zl (jn tyS9 Z Z Z Z) Z (za (zq Yd Z) (zl (jn tyS9 Z Z Z Z) Z (wm ?_)))))))))
       show Cv _ _ _ _
       exact wd ⟨(r52.2.L,r52.2.at_,r50.1,r52.1),H,⟨Z,Z,U⟩,⟨Z,Z,Z,Z,U⟩⟩
      ·refine fE h49 H fun H=>zn ?_
       show Cv _ _ _ _
       exact wd ⟨(r47.2.L,r47.2.at_,r7.1,r9.1),H,⟨Z,Z,U⟩,⟨Z,Z,Z,Z,U⟩⟩
     ·rintro ⟨c54,c55,c56,c57⟩ H
      replace H:z3n v2 r3 r5 l46 c54 c55 c56 c57=some r:=H
      unfold z3n at H
      refine zd (z1a 2 6 3 rfl rfl rfl (by first | rw [List.length_map] | rfl) ?_)
      refine zj hN Z (zm (yr qa Z Z Z) Z (zl (yx qa Z Z Z Z) Z (zk ?_)))
      cases H
      exact ⟨U,⟨.inl ⟨_,_,_,qq (zw.mk v2 r3.1 r5.1 c56 c57 [] l46 []),Z,Z,Z,Z,qa⟩,U⟩,Z⟩
theorem z0w (n1:Int) (low2:Int) (high3:Int) (r:(Bool)) (H:Qu n1 low2 high3=some r):Fn Tryz.prog 35 [vint n1,vint low2,vint high3] (zr [zi r]):=by
 refine ⟨by kernel_rfl,yf (us:=[zi r]) Tryz.func35 Z Z Z Z fun X hN => ?_⟩
 unfold Qu at H
 refine zb hN Z (qe Z (zb hN Z (qd Z (qd Z (za (ye Z Z) (qd Z (yp Z Z (fun hc=>ze (.dat _) Z) (yp Z Z (fun hc=>ze (.dat _) Z) (yp Z Z (fun hc=>wb (cnd (c:=(!(decide (n1 < low2)))) hc) (cnd (c:=(!(decide (n1 < low2)))) hc)) (za (wy Z Z (fun hb=>(cnd (c:=(!(decide (n1 < low2)))) (notI hb)))) (qe Z (zk ?_))))))))))))
 cases H
 exact ⟨U,.inl Z,U⟩
theorem y83 (c1:Int) (r:(Bool)) (H:z82 c1=some r):Fn Tryz.prog 192 [vval (.int .u8 c1)] (zr [zi r]):=by
 refine ⟨by kernel_rfl,yf (us:=[zi r]) Tryz.func192 Z Z Z Z fun X hN => ?_⟩
 unfold z82 at H
 refine zb hN Z (qe Z (zb hN Z (qd Z (za (vk Z Z) (qd Z (ql Z Z (fun hc=>ze (.dat _) Z) (ql Z Z (fun hc=>vm (cnd (c:=(decide (97≤c1))) hc) Z) (za (wz Z (fun hb=>(cnd (c:=(decide (97≤c1))) hb)) Z) (qd Z (yp Z Z (fun hc=>ze (.dat _) Z) (yp Z Z (fun hc=>vk (cnd (c:=(!((decide (97≤c1)) && (decide (c1≤122))))) hc) Z) (yp Z Z (fun hc=>ze (.dat _) (cnd (c:=(!((decide (97≤c1)) && (decide (c1≤122))))) hc)) (vd Z Z (fun hc=>ze (.dat _) Z) (vd Z Z (fun hc=>vm (cnd (c:=((!((decide (97≤c1)) && (decide (c1≤122)))) && (decide (65≤c1)))) hc) Z) (yp Z Z (fun hc=>wz (cnd (c:=(!((decide (97≤c1)) && (decide (c1≤122))))) hc) (fun hb=>(cnd (c:=((!((decide (97≤c1)) && (decide (c1≤122)))) && (decide (65≤c1)))) (andI hc hb))) Z) (za (wy Z Z (fun hb=>(cnd (c:=(!((decide (97≤c1)) && (decide (c1≤122))))) (notI hb)))) (qe Z (zk ?_))))))))))))))))))
 cases H
 exact ⟨U,.inl Z,U⟩
theorem y3v (c1:Int) (r:(Bool)) (H:z5o c1=some r):Fn Tryz.prog 193 [vval (.int .u8 c1)] (zr [zi r]):=by
 refine ⟨by kernel_rfl,yf (us:=[zi r]) Tryz.func193 Z Z Z Z fun X hN => ?_⟩
 unfold z5o at H
 refine zb hN Z (qe Z (zb hN Z (qd Z (za (vk Z Z) (qd Z (ql Z Z (fun hc=>ze (.dat _) Z) (ql Z Z (fun hc=>vm (cnd (c:=(decide (48≤c1))) hc) Z) (za (wz Z (fun hb=>(cnd (c:=(decide (48≤c1))) hb)) Z) (qe Z (zk ?_))))))))))
 cases H
 exact ⟨U,.inl Z,U⟩
theorem x5u (l:Bs) (c r:Int) (H:z2d l c=some r):Fn Tryz.prog 194 [vstr l,vval (.int .u8 c)] (zr [vint r]):=by
 cases H
 refine y4r (by kernel_rfl) fun M w vs h => ?_
 have h1:=ui (us:=[.string ⟨l.toArray⟩,.int .u8 c]) h
 subst h1
 refine (Tryz.strings_IndexByte ⟨l.toArray⟩ c w).mono ?_
 rintro e w' ⟨rfl,rfl⟩
 exact ⟨_,Z,Z,Kp.refl _ _⟩
theorem w64 (c1:Int) (r:(Bool)) (H:z81 c1=some r):Fn Tryz.prog 142 [vval (.int .u8 c1)] (zr [zi r]):=by
 refine ⟨by kernel_rfl,yf (us:=[zi r]) Tryz.func142 Z Z Z Z fun X hN => ?_⟩
 unfold z81 at H
 refine zb hN Z (qe Z (yg (ι:=Bool) (fun i=>[(2,.dat (zi i))]) (fun i=>[]) (fun i=>z4u i=some r) (fun i=>Z) ?_ ?_))
 ·skip
  refine zj hN Z (qd Z (bE H fun r2 h3 H=>za (zo (y83 c1 r2 h3) ⟨.inl Z,U⟩) (qd Z (yn (j:=2) Z Z (fun h4 => ?_) (fun h4 => ?_) Z))))
  ·refine u3 h4 H fun h5 H=>zf Z Z h4 (ze (.dat _) Z) (bE H fun r6 h7 H=>zf Z Z h4 (zo (y3v c1 r6 h7) ⟨.inl Z,U⟩) (za (zv Z (bFF h5) Z) (qd Z (yn (j:=6) Z Z (fun h8 => ?_) (fun h8 => ?_) Z))))
   ·exact u3 h8 H fun h9 H=>zf Z Z h8 (ze (.dat _) Z) (bE H fun r10 h11 H=>zf Z Z h8 (zo (x5u [33,35,36,37,38,39,42,43,45,46,94,95,96,124,126] c1 r10 h11) ⟨.inl Z,.inl Z,U⟩) (zf Z Z h8 (vk Z Z) (za (zv Z (bFF h9) Z) (qe Z ⟨decide (0≤r10),H,⟨Z,U⟩,U⟩))))
   ·exact u4 h8 H fun h12 H=>zc Z Z h8 (zc Z Z h8 (zc Z Z h8 (za (ya Z (bTT h12) Z) (qe Z ⟨true,H,⟨Z,U⟩,U⟩))))
  ·exact u4 h4 H fun h13 H=>zc Z Z h4 (zc Z Z h4 (za (ya Z (bTT h13) Z) (qd Z (zc Z Z Z (zc Z Z Z (zc Z Z Z (za (ya Z Z Z) (qe Z ⟨true,H,⟨Z,U⟩,U⟩))))))))
 ·rintro v14 H
  replace H:z4u v14=some r:=H
  unfold z4u at H
  refine zk ?_
  cases H
  exact ⟨U,.inl Z,U⟩
end Go.Proofs.YtahcnngcpjkpgabGreatDoor
