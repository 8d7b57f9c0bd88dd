/- Walks along the models. Printed by a program. -/
import Derived.Test.YtkldmhhbbceaoaaGreatDoorZqc
namespace Go.Proofs.YtkldmhhbbceaoaaGreatDoor
open Go.RowKit
set_option linter.unusedVariables false
set_option maxRecDepth 100000
set_option maxHeartbeats 2000000
theorem z9d (x1:Int) (n2:Int) (r:(Int)) (H:Yh x1 n2=some r):Fn Tryz.prog 74 [vint x1,vint n2] (zu [vint r]):=by
 refine ⟨by kernel_rfl,yj (us:=[vint r]) Tryz.func74 Z Z Z Z fun X hN => ?_⟩
 unfold Yh at H
 refine zb hN Z (qe Z (zi (zb hN Z (qd Z (za (yb Z Z) (zg _ Z (fun h3 => ?_) (fun h3 => ?_)))))))
 ·refine tE h3 H fun H=>zb hN Z (qe Z (zk ?_))
  cases H
  exact ⟨U,.inl Z,U⟩
 ·refine fE h3 H fun H=>zn (zb hN Z (qd Z (qd Z (gE H fun h4 H=>za (y1g Z Z h4) (qe Z (yd (ι:=Int) (fun i=>[(0,.dat (vint i))]) (fun i=>[]) (fun i=>z1u i=some r) (fun i=>Z) ?_ ?_))))))
  ·skip
   refine zb hN Z (qd Z (za (yb Z Z) (zg _ Z (fun h5 => ?_) (fun h5 => ?_))))
   ·exact tE h5 H fun H=>zp hN Z (qd Z (qd Z (za (qk _ Z Z (.inl ⟨Z,Z⟩)) (qe Z ⟨wr ((Int.tmod x1 n2)+n2),H,⟨Z,U⟩,U⟩))))
   ·exact fE h5 H fun H=>zn ⟨(Int.tmod x1 n2),H,⟨Z,U⟩,U⟩
  ·rintro x6 H
   replace H:z1u x6=some r:=H
   unfold z1u at H
   refine zb hN Z (qd Z (qe Z (zk ?_)))
   cases H
   exact ⟨U,.inl Z,U⟩
theorem xg (s1:zh) (n2:Int) (r:(Int×zh)) (H:jv s1 n2=some r):Imp Tryz.prog 32 25 (yl s1) [vint n2] (zu [vint r.1]) (yl r.2):=by
 refine wl (us:=[vint r.1]) (cs':=(yl r.2)) (by kernel_rfl) Tryz.func32 Z Z Z Z fun X bl hN => ?_
 unfold jv at H
 refine zb hN Z (qe Z (zb hN Z (za (zd (.ptr _ _) Z) (za (vk Z) (za (zz z18 Z) (zt (yh tyS3 Z Z) Z (za (qk _ Z Z (.inl ⟨Z,Z⟩)) (za (vk Z) (za (zz z18 Z) (zj (vr tyS3 Z Z Z Z) Z (zi (zb hN Z (za (zd (.ptr _ _) Z) (za (vk Z) (za (zz z41 Z) (zt (yh z4q Z Z) Z (za (qg z15 Z) (za (yo Z Z) (zg _ Z (fun h3 => ?_) (fun h3 => ?_))))))))))))))))))))
 ·refine tE h3 H fun H=>zb hN Z (za (zd (.ptr _ _) Z) (za (vk Z) (za (zz z18 Z) (zt (yh tyS3 Z Z) Z (za (qk _ Z Z (.inr (.inr ⟨Z,Z⟩))) (qd Z (bE H fun r4 h5 H=>za (zl (z9d (wr ((wr (s1.at_+1)) * 7919)) n2 r4 h5) ⟨.inl Z,.inl Z,U⟩) (qe Z (zk ?_)))))))))
  cases H
  exact ⟨U,⟨.inl Z,U⟩,Z⟩
 ·refine fE h3 H fun H=>zn (zi (ji mixed hN Z Z (za (zd (.ptr _ _) Z) (za (vk Z) (za (zz z18 Z) (zt (yh tyS3 Z Z) Z (za (qk _ Z Z (.inr (.inl ⟨Z,Z⟩))) (za (zd (.ptr _ _) Z) (za (vk Z) (za (zz z41 Z) (zt (yh z4q Z Z) Z (za (qg z15 Z) (gE H fun h6 H=>za (y1g Z Z h6) (qe Z ⟨Z,?_⟩))))))))))))))
  refine zi (ji mixed hN Z Z (za (zd (.ptr _ _) Z) (za (vk Z) (za (zz z18 Z) (zt (yh tyS3 Z Z) Z (za (qk _ Z Z (.inr (.inl ⟨Z,Z⟩))) (za (zd (.ptr _ _) Z) (za (vk Z) (za (zz z41 Z) (zt (yh z4q Z Z) Z (za (qg z15 Z) (gE H fun h7 H=>za (y56 Z Z h7.1 h7.2) (qe Z ⟨Z,?_⟩)))))))))))))
  refine zb hN Z (za (zd (.ptr _ _) Z) (za (vk Z) (za (zz z41 Z) (zt (yh z4q Z Z) Z (qd Z (bE H fun x8 h9 H=>za (ul z7y (fun _=>Z) Z Z h9) (za (qx tyS3 Z (ql (kt h9).2) Z) (bE H fun r10 h11 H=>za (zl (z9d x8 1073741824 r10 h11) ⟨.inl Z,.inl Z,U⟩) (qd Z (qd Z (za (qk _ Z Z (.inl ⟨Z,Z⟩)) (za (qk _ Z Z (.inr (.inr ⟨Z,Z⟩))) (za (qk _ Z Z (.inl ⟨Z,Z⟩)) (qd Z (bE H fun r12 h13 H=>za (zl (z9d (wr (r10+(wr (((wr ((wr (s1.at_+1)) - 1)) / (s1.L.length:Int)) * (wr (7919+(Int.tmod (wr ((wr (s1.at_+1)) - 1)) (s1.L.length:Int)))))))) n2 r12 h13) ⟨.inl Z,.inl Z,U⟩) (qe Z (zk ?_)))))))))))))))))
  cases H
  exact ⟨U,⟨.inl Z,U⟩,Z⟩
theorem qn (s1:zh) (l2:(List Bs)) (r:(Bs×zh)) (H:qf s1 l2=some r):Imp Tryz.prog 22 25 (yl s1) [vlst (List.map zo l2)] (zu [vstr r.1]) (yl r.2):=by
 refine wl (us:=[vstr r.1]) (cs':=(yl r.2)) (by kernel_rfl) Tryz.func22 Z Z Z Z fun X bl hN => ?_
 unfold qf at H
 refine zb hN Z (qe Z (zb hN Z (qd Z (za (zd (.ptr _ _) Z) (qd Z (za (qg wa Z) (bE H fun r3 h4 H=>zj (zx (xg s1 (l2.length:Int) r3 h4) Z ⟨.inl Z,U⟩ Z) Z (bE H fun x5 h6 H=>za (ul vi (fun _=>Z) Z Z h6) (za (qx tyS9 Z (ql (kt h6).2) Z) (qe Z (zk ?_)))))))))))
 cases H
 exact ⟨U,⟨.inl Z,U⟩,Z⟩
theorem wj (s1:zh) (n2:Int) (r:(Bool×zh)) (H:qz s1 n2=some r):Imp Tryz.prog 6 25 (yl s1) [vint n2] (zu [ze r.1]) (yl r.2):=by
 refine wl (us:=[ze r.1]) (cs':=(yl r.2)) (by kernel_rfl) Tryz.func6 Z Z Z Z fun X bl hN => ?_
 unfold qz at H
 refine zb hN Z (qe Z (zb hN Z (za (zd (.ptr _ _) Z) (qd Z (bE H fun r3 h4 H=>zj (zx (xg s1 n2 r3 h4) Z ⟨.inl Z,U⟩ Z) Z (za (yo Z Z) (qe Z (zk ?_))))))))
 cases H
 exact ⟨U,⟨.inl Z,U⟩,Z⟩
theorem Ym (s1:zh) (low2:Int) (high3:Int) (r:(Int×zh)) (H:kz s1 low2 high3=some r):Imp Tryz.prog 66 25 (yl s1) [vint low2,vint high3] (zu [vint r.1]) (yl r.2):=by
 refine wl (us:=[vint r.1]) (cs':=(yl r.2)) (by kernel_rfl) Tryz.func66 Z Z Z Z fun X bl hN => ?_
 unfold kz at H
 refine zb hN Z (qe Z (zi (zb hN Z (qd Z (qd Z (za (yb Z Z) (zg _ Z (fun h4 => ?_) (fun h4 => ?_))))))))
 ·refine tE h4 H fun H=>zb hN Z (qd Z (qe Z (zk ?_)))
  cases H
  exact ⟨U,⟨.inl Z,U⟩,Z⟩
 ·refine fE h4 H fun H=>zn (zb hN Z (qd Z (za (zd (.ptr _ _) Z) (qd Z (qd Z (za (qk _ Z Z (.inr (.inl ⟨Z,Z⟩))) (za (qk _ Z Z (.inl ⟨Z,Z⟩)) (bE H fun r5 h6 H=>zj (zx (xg s1 (wr ((wr (high3 - low2))+1)) r5 h6) Z ⟨.inl Z,U⟩ Z) Z (za (qk _ Z Z (.inl ⟨Z,Z⟩)) (qe Z (zk ?_)))))))))))
  cases H
  exact ⟨U,⟨.inl Z,U⟩,Z⟩
theorem z86 (l:List Bs) (sep r:Bs) (H:kh l sep=some r):Fn Tryz.prog 64 [vlst (List.map zo l),vstr sep] (zu [vstr r]):=by
 obtain ⟨h1,h2,rfl⟩:=x0y H
 refine xl (by kernel_rfl) fun M w vs hM h => ?_
 obtain ⟨hl,hv⟩:=h
 obtain ⟨a,ha,hap⟩:=hv 0 _ rfl
 obtain ⟨s,hs,hsp⟩:=hv 1 _ rfl
 have hsp:s = .string ⟨sep.toArray⟩:=hsp
 subst hsp
 have hvs:vs.toArray = #[a,.string ⟨sep.toArray⟩]:=by
  rcases vs with _ | ⟨x,_ | ⟨y,_ | ⟨z,t⟩⟩⟩
  ·cases ha
  ·cases hs
  ·cases ha; cases hs; rfl
  ·simp at hl
 rw [hvs]
 obtain ⟨A,c,q1,q2,q3⟩:=hap
 simp only [List.length_map] at q1 q2
 subst q1
 by_cases hne:l=[]
 ·subst hne
  refine (Tryz.strings_Join_none A c ⟨sep.toArray⟩ w).mono ?_
  rintro e w' ⟨rfl,rfl⟩
  exact ⟨_,Z,Z,Kp.refl _ _⟩
 ·obtain ⟨b,off,size,rfl,hMb,arr,t,fz,q5,q6,q7⟩:=q3 (by simpa using hne)
  have hsz:size=1:=by
   cases hq:l with
   | nil=>exact absurd hq hne
   | cons x l'=>have:=q6 (zo x) (by rw [hq]; simp); simpa using this.symm
  subst hsz
  have e1:((l.map fun x=>ByteArray.mk x.toArray).map (·.data.toList))=l:=by
   rw [List.map_map]
   exact (List.map_congr_left fun x _=>Z).trans (List.map_id l)
  have hj:=Tryz.strings_Join b off c (l.map fun x=>ByteArray.mk x.toArray) ⟨sep.toArray⟩ w (fun j x hx=>by
   rw [List.getElem?_map] at hx
   cases hq:l[j]? with
   | none=>rw [hq] at hx; cases hx
   | some y =>
    rw [hq] at hx
    cases hx
    obtain ⟨v,r1,r2,_⟩:=q7 j 0 (zo y) (vstr y) (by rw [List.getElem?_map,hq]; rfl) rfl
    have r2:v = .string ⟨y.toArray⟩:=r2
    rw [cell_of_row w b _ _ _ _ q5]
    simp only [Nat.mul_one,Nat.add_zero] at r1
    rw [r1,r2]) (Yr q5) (by simp; omega) (by simpa using q2) (by rw [e1]; simp only; omega)
  rw [List.length_map,e1] at hj
  refine hj.mono ?_
  rintro e w' ⟨rfl,hb⟩
  exact ⟨_,Z,Z,Kp.of_below hb⟩
theorem Yl (s1:zh) (many2:Int) (between3:Bs) (l4:(List Bs)) (r:(Bs×zh)) (H:ju s1 many2 between3 l4=some r):Imp Tryz.prog 30 25 (yl s1) [vint many2,vstr between3,vlst (List.map zo l4)] (zu [vstr r.1]) (yl r.2):=by
 refine wl (us:=[vstr r.1]) (cs':=(yl r.2)) (by kernel_rfl) Tryz.func30 Z Z Z Z fun X bl hN => ?_
 unfold ju at H
 refine zb hN Z (qe Z (zb hN Z (qe Z (zi (zb hN Z (qd Z (qd Z (ye (km 9 1 9 1 Z Z Z (gE H fun h10 H=>z11 (fun (k8:Nat) (s:(List Int)×Int×(List Bs))=>[(0,.ptr 0 0),(2,.dat (vstr between3)),(3,.dat (vlst (List.map zo l4))),(9,.row 1 s.2.2.length),(10,.dat (vint many2)),(11,.dat (vint (k8:Int)))]) (fun (k8:Nat) (s:(List Int)×Int×(List Bs))=>[(0,.box (some bl) 25 [.dat (vlst (List.map yq s.1)),.dat (vint s.2.1)]),(1,.row 9 1 (List.map zo s.2.2))]) (s1.L,s1.at_,[]) H ⟨Z,Z,Z,Z,Z,Z,U⟩ ⟨Z,Z,U⟩ (fun _ _=>Z) ?_ ?_))))))))))
 ·rintro ⟨c5,c6,l7⟩ H
  replace H:z4e between3 c5 c6 l7=some r:=H
  unfold z4e at H
  refine zb hN Z (za (yb Z Z) (zi (zg _ Z (fun h=>(z81 h).elim) (fun h => ?_))))
  refine yx (zi (z73 9 1 Z Z Z (zp hN Z (qd Z (qd Z (bE H fun r11 h12 H=>za (zl (z86 l7 between3 r11 h12) ⟨.inl Z,.inl Z,U⟩) (qe Z (zk ?_))))))))
  cases H
  exact ⟨U,⟨.inl Z,U⟩,Z⟩
 ·rintro k8 ⟨c5,c6,l7⟩ q9 h13 H hq9
  replace H:z4d l4 k8 c5 c6 l7=some q9:=H
  unfold z4d at H
  refine zb hN Z (za (yb Z Z) (zi (zg _ Z (fun h => ?_) (fun h=>(z82 h13 h).elim))))
  refine zn (zi (ye (zp hN Z (za (zd (.row _ _) Z) (za (zd (.ptr _ _) Z) (qd Z (bE H fun r14 h15 H=>zj (zx (qn (zh.mk c5 c6) l4 r14 h15) Z ⟨.inl Z,U⟩ Z) Z (za (zw (u':=vlst (List.map zo [r14.1])) (yk [[_]] yn ⟨Z,.inl ⟨_,Z,Z,Z⟩,Z,U⟩ Z Z) Z) (gE H fun h16 H=>zj (vq yn (fun _=>Z) Z Z Z ⟨by simp,by first | (simp; done) | simpa using h16⟩ Z) Z ?_)))))))))
  exact za (qc (.row _ _) Z) (zp hN Z (za (qj Z Z (by omega)) (qd Z ⟨_,qa H,⟨Z,Z,Z,Z,Z,Z,U⟩,⟨Z,Z,U⟩⟩)))
theorem x0j (s1:zh) (r:(Bs×zh)) (H:z3e s1=some r):Imp Tryz.prog 23 25 (yl s1) [] (zu [vstr r.1]) (yl r.2):=by
 refine wl (us:=[vstr r.1]) (cs':=(yl r.2)) (by kernel_rfl) Tryz.func23 Z Z Z Z fun X bl hN => ?_
 unfold z3e at H
 refine zb hN Z (qe Z (zb hN Z (za (zd (.ptr _ _) Z) (za (zd (.ptr _ _) Z) (bE H fun r2 h3 H=>zj (zx (Ym s1 1 2 r2 h3) Z ⟨.inl Z,.inl Z,U⟩ Z) Z (za (zw (u':=vlst (List.map zo [[109,97,120,45,97,103,101,61,51,48],[109,97,120,45,97,103,101,61,48],[109,105,110,45,102,114,101,115,104,61,50,48],[109,97,120,45,115,116,97,108,101,61,49,53],[110,111,45,99,97,99,104,101],[111,110,108,121,45,105,102,45,99,97,99,104,101,100],[109,97,120,45,115,116,97,108,101,61,49,48,48,48],[110,111,45,115,116,111,114,101]])) (yk [[_],[_],[_],[_],[_],[_],[_],[_]] yn ⟨Z,.inl ⟨_,Z,Z,Z⟩,Z,Z,.inl ⟨_,Z,Z,Z⟩,Z,Z,.inl ⟨_,Z,Z,Z⟩,Z,Z,.inl ⟨_,Z,Z,Z⟩,Z,Z,.inl ⟨_,Z,Z,Z⟩,Z,Z,.inl ⟨_,Z,Z,Z⟩,Z,Z,.inl ⟨_,Z,Z,Z⟩,Z,Z,.inl ⟨_,Z,Z,Z⟩,Z,U⟩ Z Z) Z) (bE H fun r4 h5 H=>zj (zx (Yl r2.2 r2.1 [44,32] ([[109,97,120,45,97,103,101,61,51,48],[109,97,120,45,97,103,101,61,48],[109,105,110,45,102,114,101,115,104,61,50,48],[109,97,120,45,115,116,97,108,101,61,49,53],[110,111,45,99,97,99,104,101],[111,110,108,121,45,105,102,45,99,97,99,104,101,100],[109,97,120,45,115,116,97,108,101,61,49,48,48,48],[110,111,45,115,116,111,114,101]]) r4 h5) Z ⟨.inl Z,.inl Z,.inl Z,U⟩ Z) Z (qe Z (yd (ι:=Bs×(List Int)×Int) (fun i=>[(3,.dat (vstr i.1))]) (fun i=>[(0,.box (some bl) 25 [.dat (vlst (List.map yq i.2.1)),.dat (vint i.2.2)])]) (fun i=>z1t i.1 i.2.1 i.2.2=some r) (fun i=>Z) ?_ ?_)))))))))
 ·skip
  refine zb hN Z (za (zd (.ptr _ _) Z) (bE H fun r6 h7 H=>zj (zx (wj r4.2 20 r6 h7) Z ⟨.inl Z,U⟩ Z) Z (zg _ Z (fun h8 => ?_) (fun h8 => ?_))))
  ·exact tE h8 H fun H=>zp hN Z (za (zd (.ptr _ _) Z) (za (zw (u':=vlst (List.map zo [[109,97,120,45,115,116,97,108,101],[109,105,110,45,102,114,101,115,104,61,120]])) (yk [[_],[_]] yn ⟨Z,.inl ⟨_,Z,Z,Z⟩,Z,Z,.inl ⟨_,Z,Z,Z⟩,Z,U⟩ Z Z) Z) (bE H fun r9 h10 H=>zj (zx (qn r6.2 ([[109,97,120,45,115,116,97,108,101],[109,105,110,45,102,114,101,115,104,61,120]]) r9 h10) Z ⟨.inl Z,U⟩ Z) Z (qe Z ⟨(r9.1,r9.2.L,r9.2.at_),H,⟨Z,U⟩,⟨Z,U⟩⟩))))
  ·exact fE h8 H fun H=>zn ⟨(r4.1,r6.2.L,r6.2.at_),H,⟨Z,U⟩,⟨Z,U⟩⟩
 ·rintro ⟨t11,c12,c13⟩ H
  replace H:z1t t11 c12 c13=some r:=H
  unfold z1t at H
  refine zb hN Z (qd Z (qe Z (zk ?_)))
  cases H
  exact ⟨U,⟨.inl Z,U⟩,Z⟩
theorem Zc (s:Bs) (n:Int) (r:Bs) (H:js s n=some r):Fn Tryz.prog 27 [vstr s,vint n] (zu [vstr r]):=by
 obtain ⟨h0,h1,h2,rfl⟩:=y7s H
 obtain ⟨c,rfl⟩:=Int.eq_ofNat_of_zero_le h0
 refine z9v (by kernel_rfl) fun M w vs h => ?_
 have hv:=ka (us:=[.string ⟨s.toArray⟩,.int .i64 c]) h
 subst hv
 have hs:(ByteArray.mk s.toArray).size=s.length:=by simp [ByteArray.size]
 refine (Tryz.strings_Repeat ⟨s.toArray⟩ c w (by omega) (by rw [hs]; exact Nat.le_trans (Nat.mul_le_mul h2 (show c≤1000000 by omega)) (by decide))).mono ?_
 rintro e w' ⟨rfl,hb⟩
 exact ⟨_,Z,by simp [zu,vstr,vval],Kp.of_below hb⟩
theorem x0g (s1:zh) (t2:Bs) (v3:Bs) (r:(Bs×zh)) (H:z3b s1 t2 v3=some r):Imp Tryz.prog 67 25 (yl s1) [vstr t2,vstr v3] (zu [vstr r.1]) (yl r.2):=by
 refine wl (us:=[vstr r.1]) (cs':=(yl r.2)) (by kernel_rfl) Tryz.func67 Z Z Z Z fun X bl hN => ?_
 unfold z3b at H
 refine zb hN Z (qe Z (zi (zb hN Z (qd Z (za (vx Z Z) (qd Z (yy Z Z (fun hc=>zd (.dat _) Z) (yy Z Z (fun hc=>vx (cnd (c:=(!(decide (t2=[])))) hc) Z) (za (vj Z Z (fun hb=>(cnd (c:=(!(decide (t2=[])))) (notI hb)))) (zg _ Z (fun h4 => ?_) (fun h4 => ?_)))))))))))
 ·refine tE h4 H fun H=>zb hN Z (qd Z (qe Z (zk ?_)))
  cases H
  exact ⟨U,⟨.inl Z,U⟩,Z⟩
 ·refine fE h4 H fun H=>zn (zb hN Z (za (zd (.ptr _ _) Z) (qd Z (za (yw tyU9 Z) (bE H fun r5 h6 H=>zj (zx (xg s1 (t2.length:Int) r5 h6) Z ⟨.inl Z,U⟩ Z) Z (qe Z (zb hN Z (qd Z (za (zd (.ptr _ _) Z) (qd Z (za (yw tyU9 Z) (bE H fun r7 h8 H=>zj (zx (xg r5.2 (v3.length:Int) r7 h8) Z ⟨.inl Z,U⟩ Z) Z (bE H fun x9 h10 H=>za (kw tyU9 Z Z h10) (qe Z (zi (zb hN Z (za (zd (.ptr _ _) Z) (bE H fun r11 h12 H=>zj (zx (xg r7.2 3 r11 h12) Z ⟨.inl Z,U⟩ Z) Z ?_))))))))))))))))))
  refine ye (zb hN Z (za (yo Z Z) (qe Z (zg _ Z (fun h13 => ?_) (fun h13 => ?_)))))
  ·refine tE h13 H fun H=>zi (ji mixed hN Z Z (qd Z (qd Z (bE H fun l14 h15 H=>za (vp tyU9 Z Z Z h15) (qd Z (za (kd tyU5 z4p Z) (za (y1o z4p Z tyU9 Z) (gE H fun h16 H=>za (um Z Z (Nat.le_trans h16 (by decide))) (qd Z (qd Z (za (qk _ Z Z (.inl ⟨Z,Z⟩)) (bE H fun l17 h18 H=>za (vp tyU9 Z Z Z h18) (gE H fun h19 H=>za (um Z Z (Nat.le_trans h19 (by decide))) (qe Z ⟨Z,?_⟩))))))))))))))
   refine zk ?_
   cases H
   exact ⟨U,⟨.inl Z,U⟩,Z⟩
  ·refine fE h13 H fun H=>zb hN Z (za (yo Z Z) (qe Z (zg _ Z (fun h20 => ?_) (fun h20 => ?_))))
   ·refine tE h20 H fun H=>zi (ji mixed hN Z Z (qd Z (qd Z (bE H fun l21 h22 H=>za (vp tyU9 Z Z Z h22) (qd Z (za (kd tyU5 z4p Z) (za (y1o z4p Z tyU9 Z) (gE H fun h23 H=>za (um Z Z (Nat.le_trans h23 (by decide))) (qd Z (qd Z (bE H fun l24 h25 H=>za (vp tyU9 Z Z Z h25) (gE H fun h26 H=>za (um Z Z (Nat.le_trans h26 (by decide))) (qe Z ⟨Z,?_⟩)))))))))))))
    refine zk ?_
    cases H
    exact ⟨U,⟨.inl Z,U⟩,Z⟩
   ·refine fE h20 H fun H=>zn (zi (ji mixed hN Z Z (qd Z (qd Z (bE H fun l27 h28 H=>za (vp tyU9 Z Z Z h28) (qd Z (qd Z (za (qk _ Z Z (.inl ⟨Z,Z⟩)) (bE H fun l29 h30 H=>za (vp tyU9 Z Z Z h30) (gE H fun h31 H=>za (um Z Z (Nat.le_trans h31 (by decide))) (qe Z ⟨Z,?_⟩)))))))))))
    refine zk ?_
    cases H
    exact ⟨U,⟨.inl Z,U⟩,Z⟩
theorem y3m (s1:zh) (r:(Bs×zh)) (H:z0u s1=some r):Imp Tryz.prog 24 25 (yl s1) [] (zu [vstr r.1]) (yl r.2):=by
 refine wl (us:=[vstr r.1]) (cs':=(yl r.2)) (by kernel_rfl) Tryz.func24 Z Z Z Z fun X bl hN => ?_
 unfold z0u at H
 refine zb hN Z (qe Z (zb hN Z (za (zd (.ptr _ _) Z) (za (zd (.ptr _ _) Z) (bE H fun r2 h3 H=>zj (zx (Ym s1 0 4 r2 h3) Z ⟨.inl Z,.inl Z,U⟩ Z) Z (za (zw (u':=vlst (List.map zo [[97],[98],[37,52,49],[37,50,102],[37,55,101],[46],[46,46],[],[120,59,121],[99,37,50,48,100],[37,99,51,37,97,52],[65],[97,46,98],[126]])) (yk [[_],[_],[_],[_],[_],[_],[_],[_],[_],[_],[_],[_],[_],[_]] yn ⟨Z,.inl ⟨_,Z,Z,Z⟩,Z,Z,.inl ⟨_,Z,Z,Z⟩,Z,Z,.inl ⟨_,Z,Z,Z⟩,Z,Z,.inl ⟨_,Z,Z,Z⟩,Z,Z,.inl ⟨_,Z,Z,Z⟩,Z,Z,.inl ⟨_,Z,Z,Z⟩,Z,Z,.inl ⟨_,Z,Z,Z⟩,Z,Z,.inl ⟨_,Z,Z,Z⟩,Z,Z,.inl ⟨_,Z,Z,Z⟩,Z,Z,.inl ⟨_,Z,Z,Z⟩,Z,Z,.inl ⟨_,Z,Z,Z⟩,Z,Z,.inl ⟨_,Z,Z,Z⟩,Z,Z,.inl ⟨_,Z,Z,Z⟩,Z,Z,.inl ⟨_,Z,Z,Z⟩,Z,U⟩ Z Z) Z) (bE H fun r4 h5 H=>zj (zx (Yl r2.2 r2.1 [47] ([[97],[98],[37,52,49],[37,50,102],[37,55,101],[46],[46,46],[],[120,59,121],[99,37,50,48,100],[37,99,51,37,97,52],[65],[97,46,98],[126]]) r4 h5) Z ⟨.inl Z,.inl Z,.inl Z,U⟩ Z) Z (gE H fun h6 H=>za (um Z Z (Nat.le_trans h6 (by decide))) (qe Z (yd (ι:=Bs×(List Int)×Int) (fun i=>[(0,.ptr 0 0),(3,.dat (vstr i.1))]) (fun i=>[(0,.box (some bl) 25 [.dat (vlst (List.map yq i.2.1)),.dat (vint i.2.2)])]) (fun i=>Qb i.1 i.2.1 i.2.2=some r) (fun i=>Z) ?_ ?_))))))))))
 ·skip
  refine zb hN Z (za (zd (.ptr _ _) Z) (bE H fun r7 h8 H=>zj (zx (wj r4.2 12 r7 h8) Z ⟨.inl Z,U⟩ Z) Z (zg _ Z (fun h9 => ?_) (fun h9 => ?_))))
  ·exact tE h9 H fun H=>zp hN Z (za (zd (.ptr _ _) Z) (bE H fun r10 h11 H=>za (zl (Zc [37,50,48] 340 r10 h11) ⟨.inl Z,.inl Z,U⟩) (gE H fun h12 H=>za (um Z Z (Nat.le_trans h12 (by decide))) (za (zw (u':=vlst (List.map zo [[],[97],[47,97,63,98],[47,97,35],[47,37],[47,37,52],[47,37,122,122],[47,127],[47,97,32,98],([47]++r10)])) (yk [[_],[_],[_],[_],[_],[_],[_],[_],[_],[_]] yn ⟨Z,.inl ⟨_,Z,Z,Z⟩,Z,Z,.inl ⟨_,Z,Z,Z⟩,Z,Z,.inl ⟨_,Z,Z,Z⟩,Z,Z,.inl ⟨_,Z,Z,Z⟩,Z,Z,.inl ⟨_,Z,Z,Z⟩,Z,Z,.inl ⟨_,Z,Z,Z⟩,Z,Z,.inl ⟨_,Z,Z,Z⟩,Z,Z,.inl ⟨_,Z,Z,Z⟩,Z,Z,.inl ⟨_,Z,Z,Z⟩,Z,Z,.inl ⟨_,Z,Z,Z⟩,Z,U⟩ Z Z) Z) (bE H fun r13 h14 H=>zj (zx (qn r7.2 ([[],[97],[47,97,63,98],[47,97,35],[47,37],[47,37,52],[47,37,122,122],[47,127],[47,97,32,98],([47]++r10)]) r13 h14) Z ⟨.inl Z,U⟩ Z) Z (qe Z ⟨(r13.1,r13.2.L,r13.2.at_),H,⟨Z,Z,U⟩,⟨Z,U⟩⟩))))))
  ·exact fE h9 H fun H=>zn ⟨(([47]++r4.1),r7.2.L,r7.2.at_),H,⟨Z,Z,U⟩,⟨Z,U⟩⟩
 ·rintro ⟨p15,c16,c17⟩ H
  replace H:Qb p15 c16 c17=some r:=H
  unfold Qb at H
  refine yd (ι:=Bs×(List Int)×Int) (fun i=>[(3,.dat (vstr i.1))]) (fun i=>[(0,.box (some bl) 25 [.dat (vlst (List.map yq i.2.1)),.dat (vint i.2.2)])]) (fun i=>z1r i.1 i.2.1 i.2.2=some r) (fun i=>Z) ?_ ?_
  ·skip
   refine zb hN Z (za (zd (.ptr _ _) Z) (bE H fun r18 h19 H=>zj (zx (wj (zh.mk c16 c17) 12 r18 h19) Z ⟨.inl Z,U⟩ Z) Z (zg _ Z (fun h20 => ?_) (fun h20 => ?_))))
   ·exact tE h20 H fun H=>zp hN Z (za (zd (.ptr _ _) Z) (qd Z (bE H fun r21 h22 H=>zj (zx (x0g r18.2 p15 [47,46,37,50,102,65] r21 h22) Z ⟨.inl Z,.inl Z,U⟩ Z) Z (qe Z ⟨(r21.1,r21.2.L,r21.2.at_),H,⟨Z,U⟩,⟨Z,U⟩⟩))))
   ·exact fE h20 H fun H=>zn ⟨(p15,r18.2.L,r18.2.at_),H,⟨Z,U⟩,⟨Z,U⟩⟩
  ·rintro ⟨p23,c24,c25⟩ H
   replace H:z1r p23 c24 c25=some r:=H
   unfold z1r at H
   refine zb hN Z (qd Z (qe Z (zk ?_)))
   cases H
   exact ⟨U,⟨.inl Z,U⟩,Z⟩
theorem y3l (s1:zh) (r:(Bs×zh)) (H:z0t s1=some r):Imp Tryz.prog 25 25 (yl s1) [] (zu [vstr r.1]) (yl r.2):=by
 refine wl (us:=[vstr r.1]) (cs':=(yl r.2)) (by kernel_rfl) Tryz.func25 Z Z Z Z fun X bl hN => ?_
 unfold z0t at H
 refine zb hN Z (qe Z (zb hN Z (za (zd (.ptr _ _) Z) (za (zd (.ptr _ _) Z) (bE H fun r2 h3 H=>zj (zx (Ym s1 0 4 r2 h3) Z ⟨.inl Z,.inl Z,U⟩ Z) Z (za (zw (u':=vlst (List.map zo [[97,61,49],[98,61,50],[97,61],[61,120],[61],[99],[],[97,61,37,52,49,43,37,50,66],[100,61,120,37,50,54,121],[98,61,37,99,51],[97,61,49,61,50],[97,63,98,61,47]])) (yk [[_],[_],[_],[_],[_],[_],[_],[_],[_],[_],[_],[_]] yn ⟨Z,.inl ⟨_,Z,Z,Z⟩,Z,Z,.inl ⟨_,Z,Z,Z⟩,Z,Z,.inl ⟨_,Z,Z,Z⟩,Z,Z,.inl ⟨_,Z,Z,Z⟩,Z,Z,.inl ⟨_,Z,Z,Z⟩,Z,Z,.inl ⟨_,Z,Z,Z⟩,Z,Z,.inl ⟨_,Z,Z,Z⟩,Z,Z,.inl ⟨_,Z,Z,Z⟩,Z,Z,.inl ⟨_,Z,Z,Z⟩,Z,Z,.inl ⟨_,Z,Z,Z⟩,Z,Z,.inl ⟨_,Z,Z,Z⟩,Z,Z,.inl ⟨_,Z,Z,Z⟩,Z,U⟩ Z Z) Z) (bE H fun r4 h5 H=>zj (zx (Yl r2.2 r2.1 [38] ([[97,61,49],[98,61,50],[97,61],[61,120],[61],[99],[],[97,61,37,52,49,43,37,50,66],[100,61,120,37,50,54,121],[98,61,37,99,51],[97,61,49,61,50],[97,63,98,61,47]]) r4 h5) Z ⟨.inl Z,.inl Z,.inl Z,U⟩ Z) Z (qe Z (yd (ι:=Bs×(List Int)×Int) (fun i=>[(3,.dat (vstr i.1))]) (fun i=>[(0,.box (some bl) 25 [.dat (vlst (List.map yq i.2.1)),.dat (vint i.2.2)])]) (fun i=>z1q i.1 i.2.1 i.2.2=some r) (fun i=>Z) ?_ ?_)))))))))
 ·skip
  refine zb hN Z (za (zd (.ptr _ _) Z) (bE H fun r6 h7 H=>zj (zx (wj r4.2 12 r6 h7) Z ⟨.inl Z,U⟩ Z) Z (zg _ Z (fun h8 => ?_) (fun h8 => ?_))))
  ·exact tE h8 H fun H=>zp hN Z (za (zd (.ptr _ _) Z) (za (zd (.ptr _ _) Z) (za (zw (u':=vlst (List.map zo [[120]])) (yk [[_]] yn ⟨Z,.inl ⟨_,Z,Z,Z⟩,Z,U⟩ Z Z) Z) (bE H fun r9 h10 H=>zj (zx (Yl r6.2 101 [38] ([[120]]) r9 h10) Z ⟨.inl Z,.inl Z,.inl Z,U⟩ Z) Z (za (zw (u':=vlst (List.map zo [[35],[97,37],[37,103,49,61,50],[97,32,98],[128],r9.1])) (yk [[_],[_],[_],[_],[_],[_]] yn ⟨Z,.inl ⟨_,Z,Z,Z⟩,Z,Z,.inl ⟨_,Z,Z,Z⟩,Z,Z,.inl ⟨_,Z,Z,Z⟩,Z,Z,.inl ⟨_,Z,Z,Z⟩,Z,Z,.inl ⟨_,Z,Z,Z⟩,Z,Z,.inl ⟨_,Z,Z,Z⟩,Z,U⟩ Z Z) Z) (bE H fun r11 h12 H=>zj (zx (qn r9.2 ([[35],[97,37],[37,103,49,61,50],[97,32,98],[128],r9.1]) r11 h12) Z ⟨.inl Z,U⟩ Z) Z (qe Z ⟨(r11.1,r11.2.L,r11.2.at_),H,⟨Z,U⟩,⟨Z,U⟩⟩)))))))
  ·exact fE h8 H fun H=>zn ⟨(r4.1,r6.2.L,r6.2.at_),H,⟨Z,U⟩,⟨Z,U⟩⟩
 ·rintro ⟨q13,c14,c15⟩ H
  replace H:z1q q13 c14 c15=some r:=H
  unfold z1q at H
  refine zb hN Z (qd Z (qe Z (zk ?_)))
  cases H
  exact ⟨U,⟨.inl Z,U⟩,Z⟩
theorem x0i (s1:zh) (v2:Int) (r:(yv×zh)) (H:z3d s1 v2=some r):Imp Tryz.prog 4 25 (yl s1) [vint v2] (zu [vagg (jk r.1)]) (yl r.2):=by
 refine wl (us:=[vagg (jk r.1)]) (cs':=(yl r.2)) (by kernel_rfl) Tryz.func4 Z Z Z Z fun X bl hN => ?_
 unfold z3d at H
 refine zb hN Z (zj (wc 1 ui Z) Z (zb hN Z (qd Z (za (zd (.ptr _ _) Z) (za (zw (u':=vlst (List.map zo [[71,69,84],[71,69,84],[71,69,84],[71,69,84],[72,69,65,68],[80,79,83,84]])) (yk [[_],[_],[_],[_],[_],[_]] yn ⟨Z,.inl ⟨_,Z,Z,Z⟩,Z,Z,.inl ⟨_,Z,Z,Z⟩,Z,Z,.inl ⟨_,Z,Z,Z⟩,Z,Z,.inl ⟨_,Z,Z,Z⟩,Z,Z,.inl ⟨_,Z,Z,Z⟩,Z,Z,.inl ⟨_,Z,Z,Z⟩,Z,U⟩ Z Z) Z) (bE H fun r3 h4 H=>zj (zx (qn s1 ([[71,69,84],[71,69,84],[71,69,84],[71,69,84],[72,69,65,68],[80,79,83,84]]) r3 h4) Z ⟨.inl Z,U⟩ Z) Z (za (zd (.ptr _ _) Z) (za (zw (u':=vlst (List.map zo [[97,46,98],[97,46,98],[65,46,66,58,56,48],[99,46,100]])) (yk [[_],[_],[_],[_]] yn ⟨Z,.inl ⟨_,Z,Z,Z⟩,Z,Z,.inl ⟨_,Z,Z,Z⟩,Z,Z,.inl ⟨_,Z,Z,Z⟩,Z,Z,.inl ⟨_,Z,Z,Z⟩,Z,U⟩ Z Z) Z) (bE H fun r5 h6 H=>zj (zx (qn r3.2 ([[97,46,98],[97,46,98],[65,46,66,58,56,48],[99,46,100]]) r5 h6) Z ⟨.inl Z,U⟩ Z) Z (za (zd (.ptr _ _) Z) (za (zw (u':=vlst (List.map zo [[47,120],[47,120],[47,120,47,46,47],[47,37,55,56],[47,121]])) (yk [[_],[_],[_],[_],[_]] yn ⟨Z,.inl ⟨_,Z,Z,Z⟩,Z,Z,.inl ⟨_,Z,Z,Z⟩,Z,Z,.inl ⟨_,Z,Z,Z⟩,Z,Z,.inl ⟨_,Z,Z,Z⟩,Z,Z,.inl ⟨_,Z,Z,Z⟩,Z,U⟩ Z Z) Z) (bE H fun r7 h8 H=>zj (zx (qn r5.2 ([[47,120],[47,120],[47,120,47,46,47],[47,37,55,56],[47,121]]) r7 h8) Z ⟨.inl Z,U⟩ Z) Z (za (zd (.ptr _ _) Z) (za (zw (u':=vlst (List.map zo [[],[],[98,61,50,38,97,61,49],[97,61,49,38,98,61,50]])) (yk [[_],[_],[_],[_]] yn ⟨Z,.inl ⟨_,Z,Z,Z⟩,Z,Z,.inl ⟨_,Z,Z,Z⟩,Z,Z,.inl ⟨_,Z,Z,Z⟩,Z,Z,.inl ⟨_,Z,Z,Z⟩,Z,U⟩ Z Z) Z) (bE H fun r9 h10 H=>zj (zx (qn r7.2 ([[],[],[98,61,50,38,97,61,49],[97,61,49,38,98,61,50]]) r9 h10) Z ⟨.inl Z,U⟩ Z) Z (za (zw (u':=vagg [vint v2,vstr r3.1,vstr r5.1,vstr r7.1,vstr r9.1,vstr [],vnil,vstr []]) (wz [(0,[vint v2]),(1,[vstr r3.1]),(2,[vstr r5.1]),(3,[vstr r7.1]),(4,[vstr r9.1])] ui y0u Z ⟨Z,.inl ⟨_,Z,Z,Z⟩,Z,Z,.inl ⟨_,Z,Z,Z⟩,Z,Z,.inl ⟨_,Z,Z,Z⟩,Z,Z,.inl ⟨_,Z,Z,Z⟩,Z,Z,.inl ⟨_,Z,Z,Z⟩,Z,U⟩) Z) (zj (wc 2 ui Z) Z (zj (qq vg Z Z Z Z) Z (y4y 2 6 3 53 2 Z Z Z Z ?_)))))))))))))))))))
 refine yd (ι:=(List Int)×Int×(List zm)) (fun i=>[(0,.ptr 0 0),(4,.ptr 1 0),(5,.ptr 2 0)]) (fun i=>[(0,.box (some bl) 25 [.dat (vlst (List.map yq i.1)),.dat (vint i.2.1)]),(1,.box none 28 [.dat (vint 0),.dat (vstr []),.dat (vstr []),.dat (vstr []),.dat (vstr []),.dat (vstr []),.dat (vnil),.dat (vstr [])]),(2,.box none 28 [.dat (vint v2),.dat (vstr r3.1),.dat (vstr r5.1),.dat (vstr r7.1),.dat (vstr r9.1),.dat (vstr []),.row 3 i.2.2.length,.dat (vstr [])]),(3,.row 53 2 (List.map yg i.2.2))]) (fun i=>Qq v2 r3 r5 r7 r9 i.1 i.2.1 i.2.2=some r) (fun i=>Z) ?_ ?_
 ·refine jz (zb hN Z (za (zd (.ptr _ _) Z) (bE H fun r11 h12 H=>zj (zx (wj r9.2 3 r11 h12) Z ⟨.inl Z,U⟩ Z) Z (zg _ Z (fun h13 => ?_) (fun h13 => ?_)))))
  ·refine tE h13 H fun H=>ji mixed hN Z Z (za (zz jc Z) (zt (yh qv Z Z) Z (za (zd (.ptr _ _) Z) (za (zw (u':=vlst (List.map zo [[97,99,99,101,112,116,45,108,97,110,103,117,97,103,101],[65,99,99,101,112,116,45,76,97,110,103,117,97,103,101]])) (yk [[_],[_]] yn ⟨Z,.inl ⟨_,Z,Z,Z⟩,Z,Z,.inl ⟨_,Z,Z,Z⟩,Z,U⟩ Z Z) Z) (bE H fun r14 h15 H=>zj (zx (qn r11.2 ([[97,99,99,101,112,116,45,108,97,110,103,117,97,103,101],[65,99,99,101,112,116,45,76,97,110,103,117,97,103,101]]) r14 h15) Z ⟨.inl Z,U⟩ Z) Z (za (zd (.ptr _ _) Z) (za (zw (u':=vlst (List.map zo [[100,101],[101,110]])) (yk [[_],[_]] yn ⟨Z,.inl ⟨_,Z,Z,Z⟩,Z,Z,.inl ⟨_,Z,Z,Z⟩,Z,U⟩ Z Z) Z) (bE H fun r16 h17 H=>zj (zx (qn r14.2 ([[100,101],[101,110]]) r16 h17) Z ⟨.inl Z,U⟩ Z) Z (za (zw (u':=vagg (yg (zm.mk r14.1 r16.1))) (wz [(0,[vstr r14.1]),(1,[vstr r16.1])] jm kv Z ⟨Z,.inl ⟨_,Z,Z,Z⟩,Z,Z,.inl ⟨_,Z,Z,Z⟩,Z,U⟩) Z) (za (zw (u':=vlst (List.map yg [(zm.mk r14.1 r16.1)])) (yk [_] vh ⟨Z,.inr Z,Z,U⟩ Z Z) Z) (gE H fun h18 H=>zj (vq (C:=yg) (xs:=([]:List zm)) vh (fun _=>Z) Z Z Z ⟨by simp,by first | (simp; done) | simpa using h18⟩ Z) Z ?_)))))))))))
   refine za (zz jc Z) (z2h (z2d qv Z Z (by rw [List.length_map]) Z) Z Z ?_)
   refine ⟨Z,?_⟩
   show Cv _ _ _ _
   exact kl ⟨(r16.2.L,r16.2.at_,(([]:List zm)++[(zm.mk r14.1 r16.1)])),H,⟨Z,Z,Z,U⟩,⟨Z,Z,Z,Z,U⟩⟩
  ·refine fE h13 H fun H=>zn ?_
   show Cv _ _ _ _
   exact kl ⟨(r11.2.L,r11.2.at_,([]:List zm)),H,⟨Z,Z,Z,U⟩,⟨Z,Z,(congrArg (fun n=>some (some (AObj.box none 28 [.dat (vint v2),.dat (vstr r3.1),.dat (vstr r5.1),.dat (vstr r7.1),.dat (vstr r9.1),.dat (vstr []),.row 3 n,.dat (vstr [])]))) (show 0=([]:List zm).length from (by simp))),Z,U⟩⟩
 ·rintro ⟨c19,c20,l21⟩ H
  replace H:Qq v2 r3 r5 r7 r9 c19 c20 l21=some r:=H
  unfold Qq at H
  refine yd (ι:=(List Int)×Int×(List zm)) (fun i=>[(0,.ptr 0 0),(4,.ptr 1 0),(5,.ptr 2 0)]) (fun i=>[(0,.box (some bl) 25 [.dat (vlst (List.map yq i.1)),.dat (vint i.2.1)]),(1,.box none 28 [.dat (vint 0),.dat (vstr []),.dat (vstr []),.dat (vstr []),.dat (vstr []),.dat (vstr []),.dat (vnil),.dat (vstr [])]),(2,.box none 28 [.dat (vint v2),.dat (vstr r3.1),.dat (vstr r5.1),.dat (vstr r7.1),.dat (vstr r9.1),.dat (vstr []),.row 3 i.2.2.length,.dat (vstr [])]),(3,.row 53 2 (List.map yg i.2.2))]) (fun i=>Qp v2 r3 r5 r7 r9 i.1 i.2.1 i.2.2=some r) (fun i=>Z) ?_ ?_
  ·refine jz (zb hN Z (za (zd (.ptr _ _) Z) (bE H fun r22 h23 H=>zj (zx (wj (zh.mk c19 c20) 4 r22 h23) Z ⟨.inl Z,U⟩ Z) Z (zg _ Z (fun h24 => ?_) (fun h24 => ?_)))))
   ·refine tE h24 H fun H=>ji mixed hN Z Z (za (zz jc Z) (zt (yh qv Z Z) Z (za (zd (.ptr _ _) Z) (bE H fun r25 h26 H=>zj (zx (x0j r22.2 r25 h26) Z U Z) Z (za (zw (u':=vagg (yg (zm.mk [99,97,99,104,101,45,99,111,110,116,114,111,108] r25.1))) (wz [(0,[vstr [99,97,99,104,101,45,99,111,110,116,114,111,108]]),(1,[vstr r25.1])] jm kv Z ⟨Z,.inl ⟨_,Z,Z,Z⟩,Z,Z,.inl ⟨_,Z,Z,Z⟩,Z,U⟩) Z) (za (zw (u':=vlst (List.map yg [(zm.mk [99,97,99,104,101,45,99,111,110,116,114,111,108] r25.1)])) (yk [_] vh ⟨Z,.inr Z,Z,U⟩ Z Z) Z) (gE H fun h27 H=>zj (vq vh (fun _=>Z) Z Z Z ⟨by simp,by first | (simp; done) | simpa using h27⟩ Z) Z ?_)))))))
    refine za (zz jc Z) (z2h (z2d qv Z Z (by rw [List.length_map]) Z) Z Z ?_)
    refine ⟨Z,?_⟩
    show Cv _ _ _ _
    exact kl ⟨(r25.2.L,r25.2.at_,(l21++([(zm.mk [99,97,99,104,101,45,99,111,110,116,114,111,108] r25.1)]))),H,⟨Z,Z,Z,U⟩,⟨Z,Z,Z,Z,U⟩⟩
   ·refine fE h24 H fun H=>zn ?_
    show Cv _ _ _ _
    exact kl ⟨(r22.2.L,r22.2.at_,l21),H,⟨Z,Z,Z,U⟩,⟨Z,Z,Z,Z,U⟩⟩
  ·rintro ⟨c28,c29,l30⟩ H
   replace H:Qp v2 r3 r5 r7 r9 c28 c29 l30=some r:=H
   unfold Qp at H
   refine yd (ι:=(List Int)×Int×(List zm)) (fun i=>[(0,.ptr 0 0),(4,.ptr 1 0),(5,.ptr 2 0)]) (fun i=>[(0,.box (some bl) 25 [.dat (vlst (List.map yq i.1)),.dat (vint i.2.1)]),(1,.box none 28 [.dat (vint 0),.dat (vstr []),.dat (vstr []),.dat (vstr []),.dat (vstr []),.dat (vstr []),.dat (vnil),.dat (vstr [])]),(2,.box none 28 [.dat (vint v2),.dat (vstr r3.1),.dat (vstr r5.1),.dat (vstr r7.1),.dat (vstr r9.1),.dat (vstr []),.row 3 i.2.2.length,.dat (vstr [])]),(3,.row 53 2 (List.map yg i.2.2))]) (fun i=>Qo v2 r3 r5 r7 r9 i.1 i.2.1 i.2.2=some r) (fun i=>Z) ?_ ?_
   ·refine jz (zb hN Z (za (zd (.ptr _ _) Z) (bE H fun r31 h32 H=>zj (zx (wj (zh.mk c28 c29) 12 r31 h32) Z ⟨.inl Z,U⟩ Z) Z (zg _ Z (fun h33 => ?_) (fun h33 => ?_)))))
    ·refine tE h33 H fun H=>zp hN Z (za (zz jc Z) (zt (yh qv Z Z) Z (za (zw (u':=vagg (yg (zm.mk [97,117,116,104,111,114,105,122,97,116,105,111,110] [66,101,97,114,101,114,32,120]))) (wz [(0,[vstr [97,117,116,104,111,114,105,122,97,116,105,111,110]]),(1,[vstr [66,101,97,114,101,114,32,120]])] jm kv Z ⟨Z,.inl ⟨_,Z,Z,Z⟩,Z,Z,.inl ⟨_,Z,Z,Z⟩,Z,U⟩) Z) (za (zw (u':=vlst (List.map yg [(zm.mk [97,117,116,104,111,114,105,122,97,116,105,111,110] [66,101,97,114,101,114,32,120])])) (yk [_] vh ⟨Z,.inr Z,Z,U⟩ Z Z) Z) (gE H fun h34 H=>zj (vq vh (fun _=>Z) Z Z Z ⟨by simp,by first | (simp; done) | simpa using h34⟩ Z) Z ?_)))))
     refine za (zz jc Z) (z2h (z2d qv Z Z (by rw [List.length_map]) Z) Z Z ?_)
     refine un ?_
     show Cv _ _ _ _
     exact kl ⟨(r31.2.L,r31.2.at_,(l30++([(zm.mk [97,117,116,104,111,114,105,122,97,116,105,111,110] [66,101,97,114,101,114,32,120])]))),H,⟨Z,Z,Z,U⟩,⟨Z,Z,Z,Z,U⟩⟩
    ·refine fE h33 H fun H=>zn ?_
     show Cv _ _ _ _
     exact kl ⟨(r31.2.L,r31.2.at_,l30),H,⟨Z,Z,Z,U⟩,⟨Z,Z,Z,Z,U⟩⟩
   ·rintro ⟨c35,c36,l37⟩ H
    replace H:Qo v2 r3 r5 r7 r9 c35 c36 l37=some r:=H
    unfold Qo at H
    refine yd (ι:=(List Int)×Int×(List zm)) (fun i=>[(0,.ptr 0 0),(4,.ptr 1 0),(5,.ptr 2 0)]) (fun i=>[(0,.box (some bl) 25 [.dat (vlst (List.map yq i.1)),.dat (vint i.2.1)]),(1,.box none 28 [.dat (vint 0),.dat (vstr []),.dat (vstr []),.dat (vstr []),.dat (vstr []),.dat (vstr []),.dat (vnil),.dat (vstr [])]),(2,.box none 28 [.dat (vint v2),.dat (vstr r3.1),.dat (vstr r5.1),.dat (vstr r7.1),.dat (vstr r9.1),.dat (vstr []),.row 3 i.2.2.length,.dat (vstr [])]),(3,.row 53 2 (List.map yg i.2.2))]) (fun i=>Qn v2 r3 r5 r7 r9 i.1 i.2.1 i.2.2=some r) (fun i=>Z) ?_ ?_
    ·refine jz (zb hN Z (za (zd (.ptr _ _) Z) (bE H fun r38 h39 H=>zj (zx (wj (zh.mk c35 c36) 8 r38 h39) Z ⟨.inl Z,U⟩ Z) Z (zg _ Z (fun h40 => ?_) (fun h40 => ?_)))))
     ·refine tE h40 H fun H=>ji mixed hN Z Z (za (zz jc Z) (zt (yh qv Z Z) Z (za (zd (.ptr _ _) Z) (za (zw (u':=vlst (List.map zo [[34,118,49,34],[87,47,34,118,50,34,44,32,34,118,49,34],[42],[118,49]])) (yk [[_],[_],[_],[_]] yn ⟨Z,.inl ⟨_,Z,Z,Z⟩,Z,Z,.inl ⟨_,Z,Z,Z⟩,Z,Z,.inl ⟨_,Z,Z,Z⟩,Z,Z,.inl ⟨_,Z,Z,Z⟩,Z,U⟩ Z Z) Z) (bE H fun r41 h42 H=>zj (zx (qn r38.2 ([[34,118,49,34],[87,47,34,118,50,34,44,32,34,118,49,34],[42],[118,49]]) r41 h42) Z ⟨.inl Z,U⟩ Z) Z (za (zw (u':=vagg (yg (zm.mk [105,102,45,110,111,110,101,45,109,97,116,99,104] r41.1))) (wz [(0,[vstr [105,102,45,110,111,110,101,45,109,97,116,99,104]]),(1,[vstr r41.1])] jm kv Z ⟨Z,.inl ⟨_,Z,Z,Z⟩,Z,Z,.inl ⟨_,Z,Z,Z⟩,Z,U⟩) Z) (za (zw (u':=vlst (List.map yg [(zm.mk [105,102,45,110,111,110,101,45,109,97,116,99,104] r41.1)])) (yk [_] vh ⟨Z,.inr Z,Z,U⟩ Z Z) Z) (gE H fun h43 H=>zj (vq vh (fun _=>Z) Z Z Z ⟨by simp,by first | (simp; done) | simpa using h43⟩ Z) Z ?_))))))))
      refine za (zz jc Z) (z2h (z2d qv Z Z (by rw [List.length_map]) Z) Z Z ?_)
      refine ⟨Z,?_⟩
      show Cv _ _ _ _
      exact kl ⟨(r41.2.L,r41.2.at_,(l37++([(zm.mk [105,102,45,110,111,110,101,45,109,97,116,99,104] r41.1)]))),H,⟨Z,Z,Z,U⟩,⟨Z,Z,Z,Z,U⟩⟩
     ·refine fE h40 H fun H=>zn ?_
      show Cv _ _ _ _
      exact kl ⟨(r38.2.L,r38.2.at_,l37),H,⟨Z,Z,Z,U⟩,⟨Z,Z,Z,Z,U⟩⟩
    ·rintro ⟨c44,c45,l46⟩ H
     replace H:Qn v2 r3 r5 r7 r9 c44 c45 l46=some r:=H
     unfold Qn at H
     refine yd (ι:=(List Int)×Int×Bs×Bs) (fun i=>[(4,.ptr 1 0),(5,.ptr 2 0)]) (fun i=>[(0,.box (some bl) 25 [.dat (vlst (List.map yq i.1)),.dat (vint i.2.1)]),(1,.box none 28 [.dat (vint 0),.dat (vstr []),.dat (vstr []),.dat (vstr []),.dat (vstr []),.dat (vstr []),.dat (vnil),.dat (vstr [])]),(2,.box none 28 [.dat (vint v2),.dat (vstr r3.1),.dat (vstr r5.1),.dat (vstr i.2.2.1),.dat (vstr i.2.2.2),.dat (vstr []),.row 3 l46.length,.dat (vstr [])]),(3,.row 53 2 (List.map yg l46))]) (fun i=>Qm v2 r3 r5 l46 i.1 i.2.1 i.2.2.1 i.2.2.2=some r) (fun i=>Z) ?_ ?_
     ·refine jz (zb hN Z (za (zd (.ptr _ _) Z) (bE H fun r47 h48 H=>zj (zx (wj (zh.mk c44 c45) 40 r47 h48) Z ⟨.inl Z,U⟩ Z) Z (zg _ Z (fun h49 => ?_) (fun h49 => ?_)))))
      ·refine tE h49 H fun H=>zp hN Z (za (zd (.ptr _ _) Z) (bE H fun r50 h51 H=>zj (zx (y3m r47.2 r50 h51) Z U Z) Z (za (zd (.ptr _ _) Z) (bE H fun r52 h53 H=>zj (zx (y3l r50.2 r52 h53) Z U Z) Z (za (zz z4z Z) (zj (vr tyS9 Z Z Z Z) Z (za (zz z4y Z) (zj (vr tyS9 Z Z Z Z) Z (un ?_)))))))))
       show Cv _ _ _ _
       exact kl ⟨(r52.2.L,r52.2.at_,r50.1,r52.1),H,⟨Z,Z,U⟩,⟨Z,Z,Z,Z,U⟩⟩
      ·refine fE h49 H fun H=>zn ?_
       show Cv _ _ _ _
       exact kl ⟨(r47.2.L,r47.2.at_,r7.1,r9.1),H,⟨Z,Z,U⟩,⟨Z,Z,Z,Z,U⟩⟩
     ·rintro ⟨c54,c55,c56,c57⟩ H
      replace H:Qm v2 r3 r5 l46 c54 c55 c56 c57=some r:=H
      unfold Qm at H
      refine zi (y4z 2 6 3 rfl rfl rfl (by first | rw [List.length_map] | rfl) ?_)
      refine zp hN Z (zt (qi vg Z Z Z) Z (zj (qq vg Z Z Z Z) Z (zk ?_)))
      cases H
      exact ⟨U,⟨.inl ⟨_,_,_,jk (yv.mk v2 r3.1 r5.1 c56 c57 [] l46 []),Z,Z,Z,Z,vg⟩,U⟩,Z⟩
theorem z03 (s1:zh) (l2:(List Int)) (r:(Int×zh)) (H:ua s1 l2=some r):Imp Tryz.prog 26 25 (yl s1) [vlst (List.map yq l2)] (zu [vint r.1]) (yl r.2):=by
 refine wl (us:=[vint r.1]) (cs':=(yl r.2)) (by kernel_rfl) Tryz.func26 Z Z Z Z fun X bl hN => ?_
 unfold ua at H
 refine zb hN Z (qe Z (zb hN Z (qd Z (za (zd (.ptr _ _) Z) (qd Z (za (qg z15 Z) (bE H fun r3 h4 H=>zj (zx (xg s1 (l2.length:Int) r3 h4) Z ⟨.inl Z,U⟩ Z) Z (bE H fun x5 h6 H=>za (ul z7y (fun _=>Z) Z Z h6) (za (qx tyS3 Z (ql (kt h6).2) Z) (qe Z (zk ?_)))))))))))
 cases H
 exact ⟨U,⟨.inl Z,U⟩,Z⟩
theorem x0f (s1:zh) (r:(Bs×zh)) (H:z3a s1=some r):Imp Tryz.prog 29 25 (yl s1) [] (zu [vstr r.1]) (yl r.2):=by
 refine wl (us:=[vstr r.1]) (cs':=(yl r.2)) (by kernel_rfl) Tryz.func29 Z Z Z Z fun X bl hN => ?_
 unfold z3a at H
 refine zb hN Z (qe Z (zb hN Z (za (zd (.ptr _ _) Z) (za (zd (.ptr _ _) Z) (bE H fun r2 h3 H=>zj (zx (Ym s1 0 3 r2 h3) Z ⟨.inl Z,.inl Z,U⟩ Z) Z (za (zw (u':=vlst (List.map zo [[109,97,120,45,97,103,101,61,54,48],[109,97,120,45,97,103,101,61,54,48],[109,97,120,45,97,103,101,61,48],[109,97,120,45,97,103,101,61,49,48],[115,45,109,97,120,97,103,101,61,51,48],[110,111,45,99,97,99,104,101],[112,117,98,108,105,99],[109,117,115,116,45,114,101,118,97,108,105,100,97,116,101],[115,116,97,108,101,45,119,104,105,108,101,45,114,101,118,97,108,105,100,97,116,101,61,50,48],[115,116,97,108,101,45,105,102,45,101,114,114,111,114,61,49,48,48],[120,61,49],[121],[77,97,120,45,65,103,101,61,57,48]])) (yk [[_],[_],[_],[_],[_],[_],[_],[_],[_],[_],[_],[_],[_]] yn ⟨Z,.inl ⟨_,Z,Z,Z⟩,Z,Z,.inl ⟨_,Z,Z,Z⟩,Z,Z,.inl ⟨_,Z,Z,Z⟩,Z,Z,.inl ⟨_,Z,Z,Z⟩,Z,Z,.inl ⟨_,Z,Z,Z⟩,Z,Z,.inl ⟨_,Z,Z,Z⟩,Z,Z,.inl ⟨_,Z,Z,Z⟩,Z,Z,.inl ⟨_,Z,Z,Z⟩,Z,Z,.inl ⟨_,Z,Z,Z⟩,Z,Z,.inl ⟨_,Z,Z,Z⟩,Z,Z,.inl ⟨_,Z,Z,Z⟩,Z,Z,.inl ⟨_,Z,Z,Z⟩,Z,Z,.inl ⟨_,Z,Z,Z⟩,Z,U⟩ Z Z) Z) (bE H fun r4 h5 H=>zj (zx (Yl r2.2 r2.1 [44,32] ([[109,97,120,45,97,103,101,61,54,48],[109,97,120,45,97,103,101,61,54,48],[109,97,120,45,97,103,101,61,48],[109,97,120,45,97,103,101,61,49,48],[115,45,109,97,120,97,103,101,61,51,48],[110,111,45,99,97,99,104,101],[112,117,98,108,105,99],[109,117,115,116,45,114,101,118,97,108,105,100,97,116,101],[115,116,97,108,101,45,119,104,105,108,101,45,114,101,118,97,108,105,100,97,116,101,61,50,48],[115,116,97,108,101,45,105,102,45,101,114,114,111,114,61,49,48,48],[120,61,49],[121],[77,97,120,45,65,103,101,61,57,48]]) r4 h5) Z ⟨.inl Z,.inl Z,.inl Z,U⟩ Z) Z (qe Z (yd (ι:=Bs×(List Int)×Int) (fun i=>[(0,.ptr 0 0),(3,.dat (vstr i.1))]) (fun i=>[(0,.box (some bl) 25 [.dat (vlst (List.map yq i.2.1)),.dat (vint i.2.2)])]) (fun i=>Qe i.1 i.2.1 i.2.2=some r) (fun i=>Z) ?_ ?_)))))))))
 ·skip
  refine zb hN Z (za (zd (.ptr _ _) Z) (bE H fun r6 h7 H=>zj (zx (wj r4.2 10 r6 h7) Z ⟨.inl Z,U⟩ Z) Z (zg _ Z (fun h8 => ?_) (fun h8 => ?_))))
  ·exact tE h8 H fun H=>zp hN Z (za (zd (.ptr _ _) Z) (za (zw (u':=vlst (List.map zo [[110,111,45,115,116,111,114,101],[112,114,105,118,97,116,101],[109,97,120,45,97,103,101,61,54,48],[111,110,108,121,45,105,102,45,99,97,99,104,101,100],[105,109,109,117,116,97,98,108,101]])) (yk [[_],[_],[_],[_],[_]] yn ⟨Z,.inl ⟨_,Z,Z,Z⟩,Z,Z,.inl ⟨_,Z,Z,Z⟩,Z,Z,.inl ⟨_,Z,Z,Z⟩,Z,Z,.inl ⟨_,Z,Z,Z⟩,Z,Z,.inl ⟨_,Z,Z,Z⟩,Z,U⟩ Z Z) Z) (bE H fun r9 h10 H=>zj (zx (Yl r6.2 2 [44] ([[110,111,45,115,116,111,114,101],[112,114,105,118,97,116,101],[109,97,120,45,97,103,101,61,54,48],[111,110,108,121,45,105,102,45,99,97,99,104,101,100],[105,109,109,117,116,97,98,108,101]]) r9 h10) Z ⟨.inl Z,.inl Z,.inl Z,U⟩ Z) Z (qe Z ⟨(r9.1,r9.2.L,r9.2.at_),H,⟨Z,Z,U⟩,⟨Z,U⟩⟩))))
  ·exact fE h8 H fun H=>zn ⟨(r4.1,r6.2.L,r6.2.at_),H,⟨Z,Z,U⟩,⟨Z,U⟩⟩
 ·rintro ⟨t11,c12,c13⟩ H
  replace H:Qe t11 c12 c13=some r:=H
  unfold Qe at H
  refine yd (ι:=Bs×(List Int)×Int) (fun i=>[(3,.dat (vstr i.1))]) (fun i=>[(0,.box (some bl) 25 [.dat (vlst (List.map yq i.2.1)),.dat (vint i.2.2)])]) (fun i=>z1s i.1 i.2.1 i.2.2=some r) (fun i=>Z) ?_ ?_
  ·skip
   refine zb hN Z (za (zd (.ptr _ _) Z) (bE H fun r14 h15 H=>zj (zx (wj (zh.mk c12 c13) 20 r14 h15) Z ⟨.inl Z,U⟩ Z) Z (zg _ Z (fun h16 => ?_) (fun h16 => ?_))))
   ·exact tE h16 H fun H=>zp hN Z (za (zd (.ptr _ _) Z) (za (zw (u':=vlst (List.map zo [[109,97,120,45,97,103,101],[110,111,45,99,97,99,104,101,61,49],[109,97,120,45,97,103,101,61,45,49],[109,97,120,45,97,103,101,61,48,49],[109,97,120,45,97,103,101,61,49,48,48,48,48,48,48,48,49],[61,49],[97,32,98],[109,97,120,45,97,103,101,61,54,48,32,44,32,44,32,110,111,45,99,97,99,104,101]])) (yk [[_],[_],[_],[_],[_],[_],[_],[_]] yn ⟨Z,.inl ⟨_,Z,Z,Z⟩,Z,Z,.inl ⟨_,Z,Z,Z⟩,Z,Z,.inl ⟨_,Z,Z,Z⟩,Z,Z,.inl ⟨_,Z,Z,Z⟩,Z,Z,.inl ⟨_,Z,Z,Z⟩,Z,Z,.inl ⟨_,Z,Z,Z⟩,Z,Z,.inl ⟨_,Z,Z,Z⟩,Z,Z,.inl ⟨_,Z,Z,Z⟩,Z,U⟩ Z Z) Z) (bE H fun r17 h18 H=>zj (zx (qn r14.2 ([[109,97,120,45,97,103,101],[110,111,45,99,97,99,104,101,61,49],[109,97,120,45,97,103,101,61,45,49],[109,97,120,45,97,103,101,61,48,49],[109,97,120,45,97,103,101,61,49,48,48,48,48,48,48,48,49],[61,49],[97,32,98],[109,97,120,45,97,103,101,61,54,48,32,44,32,44,32,110,111,45,99,97,99,104,101]]) r17 h18) Z ⟨.inl Z,U⟩ Z) Z (qe Z ⟨(r17.1,r17.2.L,r17.2.at_),H,⟨Z,U⟩,⟨Z,U⟩⟩))))
   ·exact fE h16 H fun H=>zn ⟨(t11,r14.2.L,r14.2.at_),H,⟨Z,U⟩,⟨Z,U⟩⟩
  ·rintro ⟨t19,c20,c21⟩ H
   replace H:z1s t19 c20 c21=some r:=H
   unfold z1s at H
   refine zb hN Z (qd Z (qe Z (zk ?_)))
   cases H
   exact ⟨U,⟨.inl Z,U⟩,Z⟩
theorem z00 (name1:Bs) (value2:Bs) (c3:ya) (r:(ya)) (H:ub name1 value2 c3=some r):FnG Tryz.prog 28 [.dat (vstr name1),.dat (vstr value2),.ptr 0 0] [(0,.box (some 0) 31 [.dat (vint c3.Status),.row 1 c3.Headers.length,.dat (vstr c3.Body)]),(1,.row 53 2 (List.map yg c3.Headers))] (.dat (zu [])) [(0,.box (some 0) 31 [.dat (vint r.Status),.row 900 r.Headers.length,.dat (vstr r.Body)]),(900,.row 53 2 (List.map yg r.Headers))]:=by
 refine z7f (by kernel_rfl) Tryz.func28 Z Z Z Z fun X A hN => ?_
 refine jz ?_
 unfold ub at H
 refine zp hN Z (za (zz jb Z) (zt (yh qv Z Z) Z (qd Z (qd Z (za (zw (u':=vagg (yg (zm.mk name1 value2))) (wz [(0,[vstr name1]),(1,[vstr value2])] jm kv Z ⟨Z,.inl ⟨_,Z,Z,Z⟩,Z,Z,.inl ⟨_,Z,Z,Z⟩,Z,U⟩) Z) (za (zw (u':=vlst (List.map yg [(zm.mk name1 value2)])) (yk [_] vh ⟨Z,.inr Z,Z,U⟩ Z Z) Z) (gE H fun h4 H=>zj (vq vh (fun _=>Z) Z Z Z ⟨by simp,by first | (simp; done) | simpa using h4⟩ Z) Z ?_)))))))
 refine za (zz jb Z) (z2h (z2d qv Z Z (by rw [List.length_map]) Z) Z Z ?_)
 cases H
 show Cv _ _ _ _
 exact jx (rn [(1,900)]) [] [(0,.box (some (A.bl 0)) 31 [.dat (vint c3.Status),.row 1 ((c3.Headers++[(zm.mk name1 value2)]).length),.dat (vstr c3.Body)]),(1,.row 53 2 (List.map yg (c3.Headers++[(zm.mk name1 value2)])))] U ⟨Z,Z,U⟩ Z Z ⟨U,[],U,⟨Z,Z,U⟩,Z,.inl ⟨[],U,Z⟩⟩
theorem z9c (s1:zh) (low2:Int) (high3:Int) (r:(Int×zh)) (H:Yg s1 low2 high3=some r):Imp Tryz.prog 31 25 (yl s1) [vint low2,vint high3] (zu [vint r.1]) (yl r.2):=by
 refine wl (us:=[vint r.1]) (cs':=(yl r.2)) (by kernel_rfl) Tryz.func31 Z Z Z Z fun X bl hN => ?_
 unfold Yg at H
 refine zb hN Z (qe Z (zi (zb hN Z (za (zd (.ptr _ _) Z) (bE H fun r4 h5 H=>zj (zx (wj s1 12 r4 h5) Z ⟨.inl Z,U⟩ Z) Z (zg _ Z (fun h6 => ?_) (fun h6 => ?_)))))))
 ·refine tE h6 H fun H=>zb hN Z (za (zd (.ptr _ _) Z) (qd Z (za (qk _ Z Z (.inr (.inl ⟨Z,Z⟩))) (qd Z (za (qk _ Z Z (.inl ⟨Z,Z⟩)) (qd Z (qd Z (za (zw (u':=vlst (List.map yq [wr (low2 - 1),wr (high3+1),low2,high3,(-1099511627776),1099511627776])) (yk [[_],[_],[_],[_],[_],[_]] xn ⟨Z,.inl ⟨_,Z,Z,Z⟩,Z,Z,.inl ⟨_,Z,Z,Z⟩,Z,Z,.inl ⟨_,Z,Z,Z⟩,Z,Z,.inl ⟨_,Z,Z,Z⟩,Z,Z,.inl ⟨_,Z,Z,Z⟩,Z,Z,.inl ⟨_,Z,Z,Z⟩,Z,U⟩ Z Z) Z) (bE H fun r7 h8 H=>zj (zx (z03 r4.2 [wr (low2 - 1),wr (high3+1),low2,high3,(-1099511627776),1099511627776] r7 h8) Z ⟨.inl Z,U⟩ Z) Z (qe Z (zk ?_)))))))))))
  cases H
  exact ⟨U,⟨.inl Z,U⟩,Z⟩
 ·refine fE h6 H fun H=>zn (zb hN Z (za (zd (.ptr _ _) Z) (qd Z (qd Z (bE H fun r9 h10 H=>zj (zx (Ym r4.2 low2 high3 r9 h10) Z ⟨.inl Z,.inl Z,U⟩ Z) Z (qe Z (zk ?_)))))))
  cases H
  exact ⟨U,⟨.inl Z,U⟩,Z⟩
theorem x0h (s1:zh) (r:(ya×zh)) (H:z3c s1=some r):Imp Tryz.prog 5 25 (yl s1) [] (zu [vagg (wt r.1)]) (yl r.2):=by
 refine wl (us:=[vagg (wt r.1)]) (cs':=(yl r.2)) (by kernel_rfl) Tryz.func5 Z Z Z Z fun X bl hN => ?_
 unfold z3c at H
 refine zb hN Z (zj (wc 1 uh Z) Z (zb hN Z (za (zd (.ptr _ _) Z) (za (zw (u':=vlst (List.map yq [200,200,200,200,404,304,500,204,201])) (yk [[_],[_],[_],[_],[_],[_],[_],[_],[_]] xn ⟨Z,.inl ⟨_,Z,Z,Z⟩,Z,Z,.inl ⟨_,Z,Z,Z⟩,Z,Z,.inl ⟨_,Z,Z,Z⟩,Z,Z,.inl ⟨_,Z,Z,Z⟩,Z,Z,.inl ⟨_,Z,Z,Z⟩,Z,Z,.inl ⟨_,Z,Z,Z⟩,Z,Z,.inl ⟨_,Z,Z,Z⟩,Z,Z,.inl ⟨_,Z,Z,Z⟩,Z,Z,.inl ⟨_,Z,Z,Z⟩,Z,U⟩ Z Z) Z) (bE H fun r2 h3 H=>zj (zx (z03 s1 [200,200,200,200,404,304,500,204,201] r2 h3) Z ⟨.inl Z,U⟩ Z) Z (za (zd (.ptr _ _) Z) (bE H fun r4 h5 H=>za (zl (Zc [122] 50 r4 h5) ⟨.inl Z,.inl Z,U⟩) (za (zw (u':=vlst (List.map zo [[104,101,108,108,111],[120],[],r4])) (yk [[_],[_],[_],[_]] yn ⟨Z,.inl ⟨_,Z,Z,Z⟩,Z,Z,.inl ⟨_,Z,Z,Z⟩,Z,Z,.inl ⟨_,Z,Z,Z⟩,Z,Z,.inl ⟨_,Z,Z,Z⟩,Z,U⟩ Z Z) Z) (bE H fun r6 h7 H=>zj (zx (qn r2.2 ([[104,101,108,108,111],[120],[],r4]) r6 h7) Z ⟨.inl Z,U⟩ Z) Z (za (zw (u':=vagg [vint r2.1,vnil,vstr r6.1]) (wz [(0,[vint r2.1]),(2,[vstr r6.1])] uh z7t Z ⟨Z,.inl ⟨_,Z,Z,Z⟩,Z,Z,.inl ⟨_,Z,Z,Z⟩,Z,U⟩) Z) (zj (wc 2 uh Z) Z (zj (qq qp Z Z Z Z) Z (y4y 2 1 3 53 2 Z Z Z Z (zb hN Z (zt (qt (s := .dr 2 (fun qb=>vfn 28 [vval (.pointer (some ⟨qb,0,none⟩))])) 2 (fun qb=>y59 (us:=[_]) ⟨Z,U⟩) Z Z) Z (za (qc (.dr _ _) Z) (yd (ι:=(List Int)×Int×(List zm)×Int×Bs) (fun i=>[(0,.ptr 0 0),(2,.ptr 1 0),(3,.ptr 2 0),(4,.dr 2 (fun qb=>vfn 28 [vval (.pointer (some ⟨qb,0,none⟩))]))]) (fun i=>[(0,.box (some bl) 25 [.dat (vlst (List.map yq i.1)),.dat (vint i.2.1)]),(1,.box none 31 [.dat (vint 0),.dat (vnil),.dat (vstr [])]),(2,.box none 31 [.dat (vint i.2.2.2.1),.row 5 i.2.2.1.length,.dat (vstr i.2.2.2.2)]),(5,.row 53 2 (List.map yg i.2.2.1))]) (fun i=>Ql i.1 i.2.1 i.2.2.1 i.2.2.2.1 i.2.2.2.2=some r) (fun i=>Z) ?_ ?_)))))))))))))))))
 ·refine jz (zb hN Z (za (zd (.ptr _ _) Z) (bE H fun r8 h9 H=>zj (zx (wj r6.2 6 r8 h9) Z ⟨.inl Z,U⟩ Z) Z (za (yp Z) (zg _ Z (fun h10 => ?_) (fun h10 => ?_))))))
  ·refine tE h10 H fun H=>zp hN Z (za (zd (.dr _ _) Z) (za (zd (.ptr _ _) Z) (za (zw (u':=vlst (List.map zo [[99,97,99,104,101,45,99,111,110,116,114,111,108],[67,97,99,104,101,45,67,111,110,116,114,111,108]])) (yk [[_],[_]] yn ⟨Z,.inl ⟨_,Z,Z,Z⟩,Z,Z,.inl ⟨_,Z,Z,Z⟩,Z,U⟩ Z Z) Z) (bE H fun r11 h12 H=>zj (zx (qn r8.2 ([[99,97,99,104,101,45,99,111,110,116,114,111,108],[67,97,99,104,101,45,67,111,110,116,114,111,108]]) r11 h12) Z ⟨.inl Z,U⟩ Z) Z (za (zd (.ptr _ _) Z) (bE H fun r13 h14 H=>zj (zx (x0f r11.2 r13 h14) Z U Z) Z (bE H fun r15 h16 H=>Wq (args:=[.dat (vstr r11.1),.dat (vstr r13.1)]) (i0:=0) (rn [(0,2),(1,3),(900,4)]) [(0,_,_,some _),(1,_,_,none)] [(900,_)] (z00 r11.1 r13.1 (ya.mk r2.1 ([]:List zm) r6.1) r15 h16) ⟨Z,Z,Z,U⟩ Z Z ⟨.inl (.inl Z),.inl (.inl Z),U⟩ ⟨⟨⟨Z,Z⟩,U⟩,⟨⟨Z,Z,Z⟩,U⟩,U⟩ Z (un ?_))))))))
   show Cv _ _ _ _
   exact jx (rn [(4,5)]) [(0,.ptr 0 0),(2,.ptr 1 0),(3,.ptr 2 0),(4,.dr 2 (fun qb=>vfn 28 [vval (.pointer (some ⟨qb,0,none⟩))]))] [(0,.box (some bl) 25 [.dat (vlst (List.map yq r13.2.L)),.dat (vint r13.2.at_)]),(1,.box none 31 [.dat (vint 0),.dat (vnil),.dat (vstr [])]),(2,.box none 31 [.dat (vint r15.Status),.row 4 r15.Headers.length,.dat (vstr r15.Body)]),(4,.row 53 2 (List.map yg r15.Headers))] ⟨Z,Z,Z,Z,U⟩ ⟨Z,Z,Z,Z,U⟩ Z Z ⟨(r13.2.L,r13.2.at_,r15.Headers,r15.Status,r15.Body),H,⟨Z,Z,Z,Z,U⟩,⟨Z,Z,Z,Z,U⟩⟩
  ·refine fE h10 H fun H=>zn ?_
   show Cv _ _ _ _
   exact jx (rn [(3,5)]) [(0,.ptr 0 0),(2,.ptr 1 0),(3,.ptr 2 0),(4,.dr 2 (fun qb=>vfn 28 [vval (.pointer (some ⟨qb,0,none⟩))]))] [(0,.box (some bl) 25 [.dat (vlst (List.map yq r8.2.L)),.dat (vint r8.2.at_)]),(1,.box none 31 [.dat (vint 0),.dat (vnil),.dat (vstr [])]),(2,.box none 31 [.dat (vint r2.1),.row 3 0,.dat (vstr r6.1)]),(3,.row 53 2 (List.map yg ([]:List zm)))] ⟨Z,Z,Z,Z,U⟩ ⟨Z,Z,Z,Z,U⟩ Z Z ⟨(r8.2.L,r8.2.at_,([]:List zm),r2.1,r6.1),H,⟨Z,Z,Z,Z,U⟩,⟨Z,Z,Z,Z,U⟩⟩
 ·rintro ⟨c17,c18,l19,c20,c21⟩ H
  replace H:Ql c17 c18 l19 c20 c21=some r:=H
  unfold Ql at H
  refine yd (ι:=(List Int)×Int×(List zm)×Int×Bs) (fun i=>[(0,.ptr 0 0),(2,.ptr 1 0),(3,.ptr 2 0),(4,.dr 2 (fun qb=>vfn 28 [vval (.pointer (some ⟨qb,0,none⟩))]))]) (fun i=>[(0,.box (some bl) 25 [.dat (vlst (List.map yq i.1)),.dat (vint i.2.1)]),(1,.box none 31 [.dat (vint 0),.dat (vnil),.dat (vstr [])]),(2,.box none 31 [.dat (vint i.2.2.2.1),.row 7 i.2.2.1.length,.dat (vstr i.2.2.2.2)]),(7,.row 53 2 (List.map yg i.2.2.1))]) (fun i=>Qk i.1 i.2.1 i.2.2.1 i.2.2.2.1 i.2.2.2.2=some r) (fun i=>Z) ?_ ?_
  ·refine jz (zb hN Z (za (zd (.ptr _ _) Z) (bE H fun r22 h23 H=>zj (zx (wj (zh.mk c17 c18) 3 r22 h23) Z ⟨.inl Z,U⟩ Z) Z (zg _ Z (fun h24 => ?_) (fun h24 => ?_)))))
   ·refine tE h24 H fun H=>zp hN Z (za (zd (.dr _ _) Z) (za (zd (.ptr _ _) Z) (za (zw (u':=vlst (List.map zo [[97,99,99,101,112,116,45,108,97,110,103,117,97,103,101],[65,99,99,101,112,116,45,76,97,110,103,117,97,103,101,44,32,120,45,111,110,101],[42],[],[120,45,111,110,101,44,88,45,79,110,101]])) (yk [[_],[_],[_],[_],[_]] yn ⟨Z,.inl ⟨_,Z,Z,Z⟩,Z,Z,.inl ⟨_,Z,Z,Z⟩,Z,Z,.inl ⟨_,Z,Z,Z⟩,Z,Z,.inl ⟨_,Z,Z,Z⟩,Z,Z,.inl ⟨_,Z,Z,Z⟩,Z,U⟩ Z Z) Z) (bE H fun r25 h26 H=>zj (zx (qn r22.2 ([[97,99,99,101,112,116,45,108,97,110,103,117,97,103,101],[65,99,99,101,112,116,45,76,97,110,103,117,97,103,101,44,32,120,45,111,110,101],[42],[],[120,45,111,110,101,44,88,45,79,110,101]]) r25 h26) Z ⟨.inl Z,U⟩ Z) Z (bE H fun r27 h28 H=>Wq (args:=[.dat (vstr [118,97,114,121]),.dat (vstr r25.1)]) (i0:=0) (rn [(0,2),(1,5),(900,6)]) [(0,_,_,some _),(1,_,_,none)] [(900,_)] (z00 [118,97,114,121] r25.1 (ya.mk c20 l19 c21) r27 h28) ⟨Z,Z,Z,U⟩ Z Z ⟨.inl (.inl Z),.inl (.inl Z),U⟩ ⟨⟨⟨Z,Z⟩,U⟩,⟨⟨Z,Z,Z⟩,U⟩,U⟩ Z (un ?_))))))
    show Cv _ _ _ _
    exact jx (rn [(6,7)]) [(0,.ptr 0 0),(2,.ptr 1 0),(3,.ptr 2 0),(4,.dr 2 (fun qb=>vfn 28 [vval (.pointer (some ⟨qb,0,none⟩))]))] [(0,.box (some bl) 25 [.dat (vlst (List.map yq r25.2.L)),.dat (vint r25.2.at_)]),(1,.box none 31 [.dat (vint 0),.dat (vnil),.dat (vstr [])]),(2,.box none 31 [.dat (vint r27.Status),.row 6 r27.Headers.length,.dat (vstr r27.Body)]),(6,.row 53 2 (List.map yg r27.Headers))] ⟨Z,Z,Z,Z,U⟩ ⟨Z,Z,Z,Z,U⟩ Z Z ⟨(r25.2.L,r25.2.at_,r27.Headers,r27.Status,r27.Body),H,⟨Z,Z,Z,Z,U⟩,⟨Z,Z,Z,Z,U⟩⟩
   ·refine fE h24 H fun H=>zn ?_
    show Cv _ _ _ _
    exact jx (rn [(5,7)]) [(0,.ptr 0 0),(2,.ptr 1 0),(3,.ptr 2 0),(4,.dr 2 (fun qb=>vfn 28 [vval (.pointer (some ⟨qb,0,none⟩))]))] [(0,.box (some bl) 25 [.dat (vlst (List.map yq r22.2.L)),.dat (vint r22.2.at_)]),(1,.box none 31 [.dat (vint 0),.dat (vnil),.dat (vstr [])]),(2,.box none 31 [.dat (vint c20),.row 5 l19.length,.dat (vstr c21)]),(5,.row 53 2 (List.map yg l19))] ⟨Z,Z,Z,Z,U⟩ ⟨Z,Z,Z,Z,U⟩ Z Z ⟨(r22.2.L,r22.2.at_,l19,c20,c21),H,⟨Z,Z,Z,Z,U⟩,⟨Z,Z,Z,Z,U⟩⟩
  ·rintro ⟨c29,c30,l31,c32,c33⟩ H
   replace H:Qk c29 c30 l31 c32 c33=some r:=H
   unfold Qk at H
   refine yd (ι:=(List Int)×Int×(List zm)×Int×Bs) (fun i=>[(0,.ptr 0 0),(2,.ptr 1 0),(3,.ptr 2 0),(4,.dr 2 (fun qb=>vfn 28 [vval (.pointer (some ⟨qb,0,none⟩))]))]) (fun i=>[(0,.box (some bl) 25 [.dat (vlst (List.map yq i.1)),.dat (vint i.2.1)]),(1,.box none 31 [.dat (vint 0),.dat (vnil),.dat (vstr [])]),(2,.box none 31 [.dat (vint i.2.2.2.1),.row 9 i.2.2.1.length,.dat (vstr i.2.2.2.2)]),(9,.row 53 2 (List.map yg i.2.2.1))]) (fun i=>Qj i.1 i.2.1 i.2.2.1 i.2.2.2.1 i.2.2.2.2=some r) (fun i=>Z) ?_ ?_
   ·refine jz (zb hN Z (za (zd (.ptr _ _) Z) (bE H fun r34 h35 H=>zj (zx (wj (zh.mk c29 c30) 2 r34 h35) Z ⟨.inl Z,U⟩ Z) Z (zg _ Z (fun h36 => ?_) (fun h36 => ?_)))))
    ·refine tE h36 H fun H=>zp hN Z (za (zd (.dr _ _) Z) (za (zd (.ptr _ _) Z) (za (zw (u':=vlst (List.map zo [[101,116,97,103],[69,84,97,103]])) (yk [[_],[_]] yn ⟨Z,.inl ⟨_,Z,Z,Z⟩,Z,Z,.inl ⟨_,Z,Z,Z⟩,Z,U⟩ Z Z) Z) (bE H fun r37 h38 H=>zj (zx (qn r34.2 ([[101,116,97,103],[69,84,97,103]]) r37 h38) Z ⟨.inl Z,U⟩ Z) Z (za (zd (.ptr _ _) Z) (za (zw (u':=vlst (List.map zo [[34,118,49,34],[87,47,34,118,50,34],[118,51]])) (yk [[_],[_],[_]] yn ⟨Z,.inl ⟨_,Z,Z,Z⟩,Z,Z,.inl ⟨_,Z,Z,Z⟩,Z,Z,.inl ⟨_,Z,Z,Z⟩,Z,U⟩ Z Z) Z) (bE H fun r39 h40 H=>zj (zx (qn r37.2 ([[34,118,49,34],[87,47,34,118,50,34],[118,51]]) r39 h40) Z ⟨.inl Z,U⟩ Z) Z (bE H fun r41 h42 H=>Wq (args:=[.dat (vstr r37.1),.dat (vstr r39.1)]) (i0:=0) (rn [(0,2),(1,7),(900,8)]) [(0,_,_,some _),(1,_,_,none)] [(900,_)] (z00 r37.1 r39.1 (ya.mk c32 l31 c33) r41 h42) ⟨Z,Z,Z,U⟩ Z Z ⟨.inl (.inl Z),.inl (.inl Z),U⟩ ⟨⟨⟨Z,Z⟩,U⟩,⟨⟨Z,Z,Z⟩,U⟩,U⟩ Z (un ?_)))))))))
     show Cv _ _ _ _
     exact jx (rn [(8,9)]) [(0,.ptr 0 0),(2,.ptr 1 0),(3,.ptr 2 0),(4,.dr 2 (fun qb=>vfn 28 [vval (.pointer (some ⟨qb,0,none⟩))]))] [(0,.box (some bl) 25 [.dat (vlst (List.map yq r39.2.L)),.dat (vint r39.2.at_)]),(1,.box none 31 [.dat (vint 0),.dat (vnil),.dat (vstr [])]),(2,.box none 31 [.dat (vint r41.Status),.row 8 r41.Headers.length,.dat (vstr r41.Body)]),(8,.row 53 2 (List.map yg r41.Headers))] ⟨Z,Z,Z,Z,U⟩ ⟨Z,Z,Z,Z,U⟩ Z Z ⟨(r39.2.L,r39.2.at_,r41.Headers,r41.Status,r41.Body),H,⟨Z,Z,Z,Z,U⟩,⟨Z,Z,Z,Z,U⟩⟩
    ·refine fE h36 H fun H=>zn ?_
     show Cv _ _ _ _
     exact jx (rn [(7,9)]) [(0,.ptr 0 0),(2,.ptr 1 0),(3,.ptr 2 0),(4,.dr 2 (fun qb=>vfn 28 [vval (.pointer (some ⟨qb,0,none⟩))]))] [(0,.box (some bl) 25 [.dat (vlst (List.map yq r34.2.L)),.dat (vint r34.2.at_)]),(1,.box none 31 [.dat (vint 0),.dat (vnil),.dat (vstr [])]),(2,.box none 31 [.dat (vint c32),.row 7 l31.length,.dat (vstr c33)]),(7,.row 53 2 (List.map yg l31))] ⟨Z,Z,Z,Z,U⟩ ⟨Z,Z,Z,Z,U⟩ Z Z ⟨(r34.2.L,r34.2.at_,l31,c32,c33),H,⟨Z,Z,Z,Z,U⟩,⟨Z,Z,Z,Z,U⟩⟩
   ·rintro ⟨c43,c44,l45,c46,c47⟩ H
    replace H:Qj c43 c44 l45 c46 c47=some r:=H
    unfold Qj at H
    refine yd (ι:=(List Int)×Int×(List zm)×Int×Bs) (fun i=>[(0,.ptr 0 0),(2,.ptr 1 0),(3,.ptr 2 0),(4,.dr 2 (fun qb=>vfn 28 [vval (.pointer (some ⟨qb,0,none⟩))]))]) (fun i=>[(0,.box (some bl) 25 [.dat (vlst (List.map yq i.1)),.dat (vint i.2.1)]),(1,.box none 31 [.dat (vint 0),.dat (vnil),.dat (vstr [])]),(2,.box none 31 [.dat (vint i.2.2.2.1),.row 11 i.2.2.1.length,.dat (vstr i.2.2.2.2)]),(11,.row 53 2 (List.map yg i.2.2.1))]) (fun i=>Qi i.1 i.2.1 i.2.2.1 i.2.2.2.1 i.2.2.2.2=some r) (fun i=>Z) ?_ ?_
    ·refine jz (zb hN Z (za (zd (.ptr _ _) Z) (bE H fun r48 h49 H=>zj (zx (wj (zh.mk c43 c44) 4 r48 h49) Z ⟨.inl Z,U⟩ Z) Z (zg _ Z (fun h50 => ?_) (fun h50 => ?_)))))
     ·refine tE h50 H fun H=>zp hN Z (za (zd (.dr _ _) Z) (za (zd (.ptr _ _) Z) (za (zw (u':=vlst (List.map zo [[114,101,100],[114,101,100,44,32,98,108,117,101],[98,108,117,101,32,103,114,101,101,110],[114,101,100,32,114,101,100]])) (yk [[_],[_],[_],[_]] yn ⟨Z,.inl ⟨_,Z,Z,Z⟩,Z,Z,.inl ⟨_,Z,Z,Z⟩,Z,Z,.inl ⟨_,Z,Z,Z⟩,Z,Z,.inl ⟨_,Z,Z,Z⟩,Z,U⟩ Z Z) Z) (bE H fun r51 h52 H=>zj (zx (qn r48.2 ([[114,101,100],[114,101,100,44,32,98,108,117,101],[98,108,117,101,32,103,114,101,101,110],[114,101,100,32,114,101,100]]) r51 h52) Z ⟨.inl Z,U⟩ Z) Z (bE H fun r53 h54 H=>Wq (args:=[.dat (vstr [99,97,99,104,101,45,116,97,103]),.dat (vstr r51.1)]) (i0:=0) (rn [(0,2),(1,9),(900,10)]) [(0,_,_,some _),(1,_,_,none)] [(900,_)] (z00 [99,97,99,104,101,45,116,97,103] r51.1 (ya.mk c46 l45 c47) r53 h54) ⟨Z,Z,Z,U⟩ Z Z ⟨.inl (.inl Z),.inl (.inl Z),U⟩ ⟨⟨⟨Z,Z⟩,U⟩,⟨⟨Z,Z,Z⟩,U⟩,U⟩ Z (un ?_))))))
      show Cv _ _ _ _
      exact jx (rn [(10,11)]) [(0,.ptr 0 0),(2,.ptr 1 0),(3,.ptr 2 0),(4,.dr 2 (fun qb=>vfn 28 [vval (.pointer (some ⟨qb,0,none⟩))]))] [(0,.box (some bl) 25 [.dat (vlst (List.map yq r51.2.L)),.dat (vint r51.2.at_)]),(1,.box none 31 [.dat (vint 0),.dat (vnil),.dat (vstr [])]),(2,.box none 31 [.dat (vint r53.Status),.row 10 r53.Headers.length,.dat (vstr r53.Body)]),(10,.row 53 2 (List.map yg r53.Headers))] ⟨Z,Z,Z,Z,U⟩ ⟨Z,Z,Z,Z,U⟩ Z Z ⟨(r51.2.L,r51.2.at_,r53.Headers,r53.Status,r53.Body),H,⟨Z,Z,Z,Z,U⟩,⟨Z,Z,Z,Z,U⟩⟩
     ·refine fE h50 H fun H=>zn ?_
      show Cv _ _ _ _
      exact jx (rn [(9,11)]) [(0,.ptr 0 0),(2,.ptr 1 0),(3,.ptr 2 0),(4,.dr 2 (fun qb=>vfn 28 [vval (.pointer (some ⟨qb,0,none⟩))]))] [(0,.box (some bl) 25 [.dat (vlst (List.map yq r48.2.L)),.dat (vint r48.2.at_)]),(1,.box none 31 [.dat (vint 0),.dat (vnil),.dat (vstr [])]),(2,.box none 31 [.dat (vint c46),.row 9 l45.length,.dat (vstr c47)]),(9,.row 53 2 (List.map yg l45))] ⟨Z,Z,Z,Z,U⟩ ⟨Z,Z,Z,Z,U⟩ Z Z ⟨(r48.2.L,r48.2.at_,l45,c46,c47),H,⟨Z,Z,Z,Z,U⟩,⟨Z,Z,Z,Z,U⟩⟩
    ·rintro ⟨c55,c56,l57,c58,c59⟩ H
     replace H:Qi c55 c56 l57 c58 c59=some r:=H
     unfold Qi at H
     refine yd (ι:=(List Int)×Int×(List zm)×Int×Bs) (fun i=>[(0,.ptr 0 0),(2,.ptr 1 0),(3,.ptr 2 0),(4,.dr 2 (fun qb=>vfn 28 [vval (.pointer (some ⟨qb,0,none⟩))]))]) (fun i=>[(0,.box (some bl) 25 [.dat (vlst (List.map yq i.1)),.dat (vint i.2.1)]),(1,.box none 31 [.dat (vint 0),.dat (vnil),.dat (vstr [])]),(2,.box none 31 [.dat (vint i.2.2.2.1),.row 13 i.2.2.1.length,.dat (vstr i.2.2.2.2)]),(13,.row 53 2 (List.map yg i.2.2.1))]) (fun i=>Qh i.1 i.2.1 i.2.2.1 i.2.2.2.1 i.2.2.2.2=some r) (fun i=>Z) ?_ ?_
     ·refine jz (zb hN Z (za (zd (.ptr _ _) Z) (bE H fun r60 h61 H=>zj (zx (wj (zh.mk c55 c56) 6 r60 h61) Z ⟨.inl Z,U⟩ Z) Z (zg _ Z (fun h62 => ?_) (fun h62 => ?_)))))
      ·refine tE h62 H fun H=>zp hN Z (za (zd (.dr _ _) Z) (za (zd (.ptr _ _) Z) (za (zw (u':=vlst (List.map zo [[53],[53,48],[120],[45,49],[49,48,48,48,48,48,48,48,49]])) (yk [[_],[_],[_],[_],[_]] yn ⟨Z,.inl ⟨_,Z,Z,Z⟩,Z,Z,.inl ⟨_,Z,Z,Z⟩,Z,Z,.inl ⟨_,Z,Z,Z⟩,Z,Z,.inl ⟨_,Z,Z,Z⟩,Z,Z,.inl ⟨_,Z,Z,Z⟩,Z,U⟩ Z Z) Z) (bE H fun r63 h64 H=>zj (zx (qn r60.2 ([[53],[53,48],[120],[45,49],[49,48,48,48,48,48,48,48,49]]) r63 h64) Z ⟨.inl Z,U⟩ Z) Z (bE H fun r65 h66 H=>Wq (args:=[.dat (vstr [97,103,101]),.dat (vstr r63.1)]) (i0:=0) (rn [(0,2),(1,11),(900,12)]) [(0,_,_,some _),(1,_,_,none)] [(900,_)] (z00 [97,103,101] r63.1 (ya.mk c58 l57 c59) r65 h66) ⟨Z,Z,Z,U⟩ Z Z ⟨.inl (.inl Z),.inl (.inl Z),U⟩ ⟨⟨⟨Z,Z⟩,U⟩,⟨⟨Z,Z,Z⟩,U⟩,U⟩ Z (un ?_))))))
       show Cv _ _ _ _
       exact jx (rn [(12,13)]) [(0,.ptr 0 0),(2,.ptr 1 0),(3,.ptr 2 0),(4,.dr 2 (fun qb=>vfn 28 [vval (.pointer (some ⟨qb,0,none⟩))]))] [(0,.box (some bl) 25 [.dat (vlst (List.map yq r63.2.L)),.dat (vint r63.2.at_)]),(1,.box none 31 [.dat (vint 0),.dat (vnil),.dat (vstr [])]),(2,.box none 31 [.dat (vint r65.Status),.row 12 r65.Headers.length,.dat (vstr r65.Body)]),(12,.row 53 2 (List.map yg r65.Headers))] ⟨Z,Z,Z,Z,U⟩ ⟨Z,Z,Z,Z,U⟩ Z Z ⟨(r63.2.L,r63.2.at_,r65.Headers,r65.Status,r65.Body),H,⟨Z,Z,Z,Z,U⟩,⟨Z,Z,Z,Z,U⟩⟩
      ·refine fE h62 H fun H=>zn ?_
       show Cv _ _ _ _
       exact jx (rn [(11,13)]) [(0,.ptr 0 0),(2,.ptr 1 0),(3,.ptr 2 0),(4,.dr 2 (fun qb=>vfn 28 [vval (.pointer (some ⟨qb,0,none⟩))]))] [(0,.box (some bl) 25 [.dat (vlst (List.map yq r60.2.L)),.dat (vint r60.2.at_)]),(1,.box none 31 [.dat (vint 0),.dat (vnil),.dat (vstr [])]),(2,.box none 31 [.dat (vint c58),.row 11 l57.length,.dat (vstr c59)]),(11,.row 53 2 (List.map yg l57))] ⟨Z,Z,Z,Z,U⟩ ⟨Z,Z,Z,Z,U⟩ Z Z ⟨(r60.2.L,r60.2.at_,l57,c58,c59),H,⟨Z,Z,Z,Z,U⟩,⟨Z,Z,Z,Z,U⟩⟩
     ·rintro ⟨c67,c68,l69,c70,c71⟩ H
      replace H:Qh c67 c68 l69 c70 c71=some r:=H
      unfold Qh at H
      refine yd (ι:=(List Int)×Int×(List zm)×Int×Bs) (fun i=>[(0,.ptr 0 0),(2,.ptr 1 0),(3,.ptr 2 0)]) (fun i=>[(0,.box (some bl) 25 [.dat (vlst (List.map yq i.1)),.dat (vint i.2.1)]),(1,.box none 31 [.dat (vint 0),.dat (vnil),.dat (vstr [])]),(2,.box none 31 [.dat (vint i.2.2.2.1),.row 15 i.2.2.1.length,.dat (vstr i.2.2.2.2)]),(15,.row 53 2 (List.map yg i.2.2.1))]) (fun i=>Qg i.1 i.2.1 i.2.2.1 i.2.2.2.1 i.2.2.2.2=some r) (fun i=>Z) ?_ ?_
      ·refine jz (zb hN Z (za (zd (.ptr _ _) Z) (bE H fun r72 h73 H=>zj (zx (wj (zh.mk c67 c68) 30 r72 h73) Z ⟨.inl Z,U⟩ Z) Z (zg _ Z (fun h74 => ?_) (fun h74 => ?_)))))
       ·refine tE h74 H fun H=>zp hN Z (za (zd (.dr _ _) Z) (za (zd (.ptr _ _) Z) (za (zw (u':=vlst (List.map zo [[118,97,114,121],[99,97,99,104,101,45,116,97,103]])) (yk [[_],[_]] yn ⟨Z,.inl ⟨_,Z,Z,Z⟩,Z,Z,.inl ⟨_,Z,Z,Z⟩,Z,U⟩ Z Z) Z) (bE H fun r75 h76 H=>zj (zx (qn r72.2 ([[118,97,114,121],[99,97,99,104,101,45,116,97,103]]) r75 h76) Z ⟨.inl Z,U⟩ Z) Z (za (zd (.ptr _ _) Z) (za (zd (.ptr _ _) Z) (za (zw (u':=vlst (List.map zo [[104,49],[104,50],[104,51],[104,52],[104,53],[104,54],[104,55],[104,56],[104,57],[104,97],[104,98],[104,99]])) (yk [[_],[_],[_],[_],[_],[_],[_],[_],[_],[_],[_],[_]] yn ⟨Z,.inl ⟨_,Z,Z,Z⟩,Z,Z,.inl ⟨_,Z,Z,Z⟩,Z,Z,.inl ⟨_,Z,Z,Z⟩,Z,Z,.inl ⟨_,Z,Z,Z⟩,Z,Z,.inl ⟨_,Z,Z,Z⟩,Z,Z,.inl ⟨_,Z,Z,Z⟩,Z,Z,.inl ⟨_,Z,Z,Z⟩,Z,Z,.inl ⟨_,Z,Z,Z⟩,Z,Z,.inl ⟨_,Z,Z,Z⟩,Z,Z,.inl ⟨_,Z,Z,Z⟩,Z,Z,.inl ⟨_,Z,Z,Z⟩,Z,Z,.inl ⟨_,Z,Z,Z⟩,Z,U⟩ Z Z) Z) (bE H fun r77 h78 H=>zj (zx (Yl r75.2 12 [44] ([[104,49],[104,50],[104,51],[104,52],[104,53],[104,54],[104,55],[104,56],[104,57],[104,97],[104,98],[104,99]]) r77 h78) Z ⟨.inl Z,.inl Z,.inl Z,U⟩ Z) Z (za (zw (u':=vlst (List.map zo [[97,32,98],[65],[],r77.1])) (yk [[_],[_],[_],[_]] yn ⟨Z,.inl ⟨_,Z,Z,Z⟩,Z,Z,.inl ⟨_,Z,Z,Z⟩,Z,Z,.inl ⟨_,Z,Z,Z⟩,Z,Z,.inl ⟨_,Z,Z,Z⟩,Z,U⟩ Z Z) Z) (bE H fun r79 h80 H=>zj (zx (qn r77.2 ([[97,32,98],[65],[],r77.1]) r79 h80) Z ⟨.inl Z,U⟩ Z) Z (bE H fun r81 h82 H=>Wq (args:=[.dat (vstr r75.1),.dat (vstr r79.1)]) (i0:=0) (rn [(0,2),(1,13),(900,14)]) [(0,_,_,some _),(1,_,_,none)] [(900,_)] (z00 r75.1 r79.1 (ya.mk c70 l69 c71) r81 h82) ⟨Z,Z,Z,U⟩ Z Z ⟨.inl (.inl Z),.inl (.inl Z),U⟩ ⟨⟨⟨Z,Z⟩,U⟩,⟨⟨Z,Z,Z⟩,U⟩,U⟩ Z (un ?_))))))))))))
        show Cv _ _ _ _
        exact jx (rn [(14,15)]) [(0,.ptr 0 0),(2,.ptr 1 0),(3,.ptr 2 0)] [(0,.box (some bl) 25 [.dat (vlst (List.map yq r79.2.L)),.dat (vint r79.2.at_)]),(1,.box none 31 [.dat (vint 0),.dat (vnil),.dat (vstr [])]),(2,.box none 31 [.dat (vint r81.Status),.row 14 r81.Headers.length,.dat (vstr r81.Body)]),(14,.row 53 2 (List.map yg r81.Headers))] ⟨Z,Z,Z,U⟩ ⟨Z,Z,Z,Z,U⟩ Z Z ⟨(r79.2.L,r79.2.at_,r81.Headers,r81.Status,r81.Body),H,⟨Z,Z,Z,U⟩,⟨Z,Z,Z,Z,U⟩⟩
       ·refine fE h74 H fun H=>zn ?_
        show Cv _ _ _ _
        exact jx (rn [(13,15)]) [(0,.ptr 0 0),(2,.ptr 1 0),(3,.ptr 2 0)] [(0,.box (some bl) 25 [.dat (vlst (List.map yq r72.2.L)),.dat (vint r72.2.at_)]),(1,.box none 31 [.dat (vint 0),.dat (vnil),.dat (vstr [])]),(2,.box none 31 [.dat (vint c70),.row 13 l69.length,.dat (vstr c71)]),(13,.row 53 2 (List.map yg l69))] ⟨Z,Z,Z,U⟩ ⟨Z,Z,Z,Z,U⟩ Z Z ⟨(r72.2.L,r72.2.at_,l69,c70,c71),H,⟨Z,Z,Z,U⟩,⟨Z,Z,Z,Z,U⟩⟩
      ·rintro ⟨c83,c84,l85,c86,c87⟩ H
       replace H:Qg c83 c84 l85 c86 c87=some r:=H
       unfold Qg at H
       refine yd (ι:=(List Int)×Int×Int) (fun i=>[(2,.ptr 1 0),(3,.ptr 2 0)]) (fun i=>[(0,.box (some bl) 25 [.dat (vlst (List.map yq i.1)),.dat (vint i.2.1)]),(1,.box none 31 [.dat (vint 0),.dat (vnil),.dat (vstr [])]),(2,.box none 31 [.dat (vint i.2.2),.row 15 l85.length,.dat (vstr c87)]),(15,.row 53 2 (List.map yg l85))]) (fun i=>Qf l85 c87 i.1 i.2.1 i.2.2=some r) (fun i=>Z) ?_ ?_
       ·refine jz (zb hN Z (za (zd (.ptr _ _) Z) (bE H fun r88 h89 H=>zj (zx (wj (zh.mk c83 c84) 40 r88 h89) Z ⟨.inl Z,U⟩ Z) Z (zg _ Z (fun h90 => ?_) (fun h90 => ?_)))))
        ·refine tE h90 H fun H=>zp hN Z (za (zd (.ptr _ _) Z) (bE H fun r91 h92 H=>zj (zx (z9c r88.2 100 599 r91 h92) Z ⟨.inl Z,.inl Z,U⟩ Z) Z (za (zz Wi Z) (zj (vr tyS3 Z Z Z Z) Z (un ?_)))))
         show Cv _ _ _ _
         exact kl ⟨(r91.2.L,r91.2.at_,r91.1),H,⟨Z,Z,U⟩,⟨Z,Z,Z,Z,U⟩⟩
        ·refine fE h90 H fun H=>zn ?_
         show Cv _ _ _ _
         exact kl ⟨(r88.2.L,r88.2.at_,c86),H,⟨Z,Z,U⟩,⟨Z,Z,Z,Z,U⟩⟩
       ·rintro ⟨c93,c94,c95⟩ H
        replace H:Qf l85 c87 c93 c94 c95=some r:=H
        unfold Qf at H
        refine zi (y4z 2 1 15 rfl rfl rfl (by first | rw [List.length_map] | rfl) ?_)
        refine zp hN Z (zt (qi qp Z Z Z) Z (zj (qq qp Z Z Z Z) Z (zk ?_)))
        cases H
        exact ⟨U,⟨.inl ⟨_,_,_,wt (ya.mk c95 l85 c87),Z,Z,Z,Z,qp⟩,U⟩,Z⟩
theorem x0b (s1:zh) (r:(Bs×zh)) (H:z26 s1=some r):Imp Tryz.prog 75 25 (yl s1) [] (zu [vstr r.1]) (yl r.2):=by
 refine wl (us:=[vstr r.1]) (cs':=(yl r.2)) (by kernel_rfl) Tryz.func75 Z Z Z Z fun X bl hN => ?_
 unfold z26 at H
 refine zb hN Z (qe Z (zb hN Z (za (zd (.ptr _ _) Z) (za (zw (u':=vlst (List.map zo [[97,46,98],[97,46,98],[65,46,66],[97,46,98,58,56,48],[99,46,100,58,56,48,56,48]])) (yk [[_],[_],[_],[_],[_]] yn ⟨Z,.inl ⟨_,Z,Z,Z⟩,Z,Z,.inl ⟨_,Z,Z,Z⟩,Z,Z,.inl ⟨_,Z,Z,Z⟩,Z,Z,.inl ⟨_,Z,Z,Z⟩,Z,Z,.inl ⟨_,Z,Z,Z⟩,Z,U⟩ Z Z) Z) (bE H fun r2 h3 H=>zj (zx (qn s1 ([[97,46,98],[97,46,98],[65,46,66],[97,46,98,58,56,48],[99,46,100,58,56,48,56,48]]) r2 h3) Z ⟨.inl Z,U⟩ Z) Z (qe Z (zk ?_)))))))
 cases H
 exact ⟨U,⟨.inl Z,U⟩,Z⟩
theorem y3k (s1:zh) (most2:Int) (r:((List zm)×zh)) (H:xb s1 most2=some r):Imp Tryz.prog 76 25 (yl s1) [vint most2] (zu [vlst (List.map yg r.1)]) (yl r.2):=by
 refine wl (us:=[vlst (List.map yg r.1)]) (cs':=(yl r.2)) (by kernel_rfl) Tryz.func76 Z Z Z Z fun X bl hN => ?_
 unfold xb at H
 refine zb hN Z (qe Z (zb hN Z (qe Z (zi (zb hN Z (za (zd (.ptr _ _) Z) (qd Z (bE H fun r3 h4 H=>zj (zx (Ym s1 0 most2 r3 h4) Z ⟨.inl Z,.inl Z,U⟩ Z) Z (qd Z (ye (km 5 1 53 2 Z Z Z (gE H fun h10 H=>z11 (fun (k8:Nat) (s:(List Int)×Int×(List zm))=>[(0,.ptr 0 0),(5,.row 1 s.2.2.length),(8,.dat (vint r3.1)),(9,.dat (vint (k8:Int)))]) (fun (k8:Nat) (s:(List Int)×Int×(List zm))=>[(0,.box (some bl) 25 [.dat (vlst (List.map yq s.1)),.dat (vint s.2.1)]),(1,.row 53 2 (List.map yg s.2.2))]) (r3.2.L,r3.2.at_,[]) H ⟨Z,Z,Z,Z,U⟩ ⟨Z,Z,U⟩ (fun _ _=>Z) ?_ ?_))))))))))))
 ·rintro ⟨c5,c6,l7⟩ H
  replace H:z1p c5 c6 l7=some r:=H
  unfold z1p at H
  refine zb hN Z (za (yb Z Z) (zi (zg _ Z (fun h=>(z81 h).elim) (fun h => ?_))))
  refine yx (zb hN Z (za (zd (.row _ _) Z) (za (qc (.row _ _) Z) (zk ?_))))
  cases H
  exact ⟨U,⟨uk Z Z,U⟩,Z⟩
 ·rintro k8 ⟨c5,c6,l7⟩ q9 h11 H hq9
  replace H:z1o k8 c5 c6 l7=some q9:=H
  unfold z1o at H
  refine zb hN Z (za (yb Z Z) (zi (zg _ Z (fun h => ?_) (fun h=>(z82 h11 h).elim))))
  refine zn (zi (ye (zp hN Z (za (zd (.row _ _) Z) (za (zd (.ptr _ _) Z) (za (zw (u':=vlst (List.map zo [[97,99,99,101,112,116],[65,99,99,101,112,116],[120,45,111,110,101],[88,45,84,119,111],[99,111,111,107,105,101],[118,97,114,121],[99,111,110,110,101,99,116,105,111,110],[120,45,102,111,114,119,97,114,100,101,100,45,102,111,114],[118,105,97],[120,45,102,111,114,119,97,114,100,101,100,45,104,111,115,116],[116,101]])) (yk [[_],[_],[_],[_],[_],[_],[_],[_],[_],[_],[_]] yn ⟨Z,.inl ⟨_,Z,Z,Z⟩,Z,Z,.inl ⟨_,Z,Z,Z⟩,Z,Z,.inl ⟨_,Z,Z,Z⟩,Z,Z,.inl ⟨_,Z,Z,Z⟩,Z,Z,.inl ⟨_,Z,Z,Z⟩,Z,Z,.inl ⟨_,Z,Z,Z⟩,Z,Z,.inl ⟨_,Z,Z,Z⟩,Z,Z,.inl ⟨_,Z,Z,Z⟩,Z,Z,.inl ⟨_,Z,Z,Z⟩,Z,Z,.inl ⟨_,Z,Z,Z⟩,Z,Z,.inl ⟨_,Z,Z,Z⟩,Z,U⟩ Z Z) Z) (bE H fun r12 h13 H=>zj (zx (qn (zh.mk c5 c6) ([[97,99,99,101,112,116],[65,99,99,101,112,116],[120,45,111,110,101],[88,45,84,119,111],[99,111,111,107,105,101],[118,97,114,121],[99,111,110,110,101,99,116,105,111,110],[120,45,102,111,114,119,97,114,100,101,100,45,102,111,114],[118,105,97],[120,45,102,111,114,119,97,114,100,101,100,45,104,111,115,116],[116,101]]) r12 h13) Z ⟨.inl Z,U⟩ Z) Z (za (zd (.ptr _ _) Z) (za (zw (u':=vlst (List.map zo [[49],[120],[97,44,32,98],[],[120,45,111,110,101,44,32,99,108,111,115,101],[103,119],[49,46,50,46,51,46,52],[53,46,54,46,55,46,56,44,32,57,46,57,46,57,46,57]])) (yk [[_],[_],[_],[_],[_],[_],[_],[_]] yn ⟨Z,.inl ⟨_,Z,Z,Z⟩,Z,Z,.inl ⟨_,Z,Z,Z⟩,Z,Z,.inl ⟨_,Z,Z,Z⟩,Z,Z,.inl ⟨_,Z,Z,Z⟩,Z,Z,.inl ⟨_,Z,Z,Z⟩,Z,Z,.inl ⟨_,Z,Z,Z⟩,Z,Z,.inl ⟨_,Z,Z,Z⟩,Z,Z,.inl ⟨_,Z,Z,Z⟩,Z,U⟩ Z Z) Z) (bE H fun r14 h15 H=>zj (zx (qn r12.2 ([[49],[120],[97,44,32,98],[],[120,45,111,110,101,44,32,99,108,111,115,101],[103,119],[49,46,50,46,51,46,52],[53,46,54,46,55,46,56,44,32,57,46,57,46,57,46,57]]) r14 h15) Z ⟨.inl Z,U⟩ Z) Z (za (zw (u':=vagg (yg (zm.mk r12.1 r14.1))) (wz [(0,[vstr r12.1]),(1,[vstr r14.1])] jm kv Z ⟨Z,.inl ⟨_,Z,Z,Z⟩,Z,Z,.inl ⟨_,Z,Z,Z⟩,Z,U⟩) Z) (za (zw (u':=vlst (List.map yg [(zm.mk r12.1 r14.1)])) (yk [_] vh ⟨Z,.inr Z,Z,U⟩ Z Z) Z) (gE H fun h16 H=>zj (vq vh (fun _=>Z) Z Z Z ⟨by simp,by first | (simp; done) | simpa using h16⟩ Z) Z ?_)))))))))))))
  exact za (qc (.row _ _) Z) (zp hN Z (za (qj Z Z (by omega)) (qd Z ⟨_,qa H,⟨Z,Z,Z,Z,U⟩,⟨Z,Z,U⟩⟩)))
end Go.Proofs.YtkldmhhbbceaoaaGreatDoor
