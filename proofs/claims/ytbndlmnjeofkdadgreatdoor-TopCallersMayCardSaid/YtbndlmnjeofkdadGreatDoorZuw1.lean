/- Walks along the models. Printed by a program. -/
import Derived.Test.YtbndlmnjeofkdadGreatDoorZuc
namespace Go.Proofs.YtbndlmnjeofkdadGreatDoor
open Go.RowKit
set_option linter.unusedVariables false
set_option maxRecDepth 100000
set_option maxHeartbeats 2000000
theorem y4a (x1:Int) (n2:Int) (r:(Int)) (H:z0a x1 n2=some r):Fn Tryz.prog 39 [vint x1,vint n2] (zu [vint r]):=by
 refine ⟨by kernel_rfl,zy (us:=[vint r]) Tryz.func39 Z Z Z Z fun X hN => ?_⟩
 unfold z0a at H
 refine zb hN Z (qe Z (ze (zb hN Z (qd Z (za (zw Z Z) (zg _ Z (fun h3 => ?_) (fun h3 => ?_)))))))
 ·refine tE h3 H fun H=>zb hN Z (qe Z (zh ?_))
  cases H
  exact ⟨U,.inl Z,U⟩
 ·refine fE h3 H fun H=>zj (zb hN Z (qd Z (qd Z (gE H fun h4 H=>za (y6v Z Z h4) (qe Z (yb (ι:=Int) (fun i=>[(0,.dat (vint i))]) (fun i=>[]) (fun i=>z2q i=some r) (fun i=>Z) ?_ ?_))))))
  ·skip
   refine zb hN Z (qd Z (za (zw Z Z) (zg _ Z (fun h5 => ?_) (fun h5 => ?_))))
   ·exact tE h5 H fun H=>zt hN Z (qd Z (qd Z (za (ye _ Z Z (.inl ⟨Z,Z⟩)) (qe Z ⟨wr ((Int.tmod x1 n2)+n2),H,⟨Z,U⟩,U⟩))))
   ·exact fE h5 H fun H=>zj ⟨(Int.tmod x1 n2),H,⟨Z,U⟩,U⟩
  ·rintro x6 H
   replace H:z2q x6=some r:=H
   unfold z2q at H
   refine zb hN Z (qd Z (qe Z (zh ?_)))
   cases H
   exact ⟨U,.inl Z,U⟩
theorem z93 (s1:qq) (n2:Int) (r:(Int×qq)) (H:Yp s1 n2=some r):Imp Tryz.prog 15 25 (jg s1) [vint n2] (zu [vint r.1]) (jg r.2):=by
 refine xh (us:=[vint r.1]) (cs':=(jg r.2)) (by kernel_rfl) Tryz.func15 Z Z Z Z fun X bl hN => ?_
 unfold Yp at H
 refine zb hN Z (qe Z (zb hN Z (za (zi (.ptr _ _) Z) (za (qp Z) (za (zo z3k Z) (zp (zr tyS3 Z Z) Z (za (ye _ Z Z (.inl ⟨Z,Z⟩)) (za (qp Z) (za (zo z3k Z) (zk (wl tyS3 Z Z Z Z) Z (ze (zb hN Z (za (zi (.ptr _ _) Z) (za (qp Z) (za (zo z7o Z) (zp (zr z7h Z Z) Z (za (yo z7g Z) (za (yw Z Z) (zg _ Z (fun h3 => ?_) (fun h3 => ?_))))))))))))))))))))
 ·refine tE h3 H fun H=>zb hN Z (za (zi (.ptr _ _) Z) (za (qp Z) (za (zo z3k Z) (zp (zr tyS3 Z Z) Z (za (ye _ Z Z (.inr (.inr ⟨Z,Z⟩))) (qd Z (bE H fun r4 h5 H=>za (zl (y4a (wr ((wr (s1.at_+1)) * 7919)) n2 r4 h5) ⟨.inl Z,.inl Z,U⟩) (qe Z (zh ?_)))))))))
  cases H
  exact ⟨U,⟨.inl Z,U⟩,Z⟩
 ·refine fE h3 H fun H=>zj (ze (wq mixed hN Z Z (za (zi (.ptr _ _) Z) (za (qp Z) (za (zo z3k Z) (zp (zr tyS3 Z Z) Z (za (ye _ Z Z (.inr (.inl ⟨Z,Z⟩))) (za (zi (.ptr _ _) Z) (za (qp Z) (za (zo z7o Z) (zp (zr z7h Z Z) Z (za (yo z7g Z) (gE H fun h6 H=>za (y6v Z Z h6) (qe Z ⟨Z,?_⟩))))))))))))))
  refine ze (wq mixed hN Z Z (za (zi (.ptr _ _) Z) (za (qp Z) (za (zo z3k Z) (zp (zr tyS3 Z Z) Z (za (ye _ Z Z (.inr (.inl ⟨Z,Z⟩))) (za (zi (.ptr _ _) Z) (za (qp Z) (za (zo z7o Z) (zp (zr z7h Z Z) Z (za (yo z7g Z) (gE H fun h7 H=>za (x4r Z Z h7.1 h7.2) (qe Z ⟨Z,?_⟩)))))))))))))
  refine zb hN Z (za (zi (.ptr _ _) Z) (za (qp Z) (za (zo z7o Z) (zp (zr z7h Z Z) Z (qd Z (bE H fun x8 h9 H=>za (vq Zx (fun _=>Z) Z Z h9) (za (yi tyS3 Z (yp (ww h9).2) Z) (bE H fun r10 h11 H=>za (zl (y4a x8 1073741824 r10 h11) ⟨.inl Z,.inl Z,U⟩) (qd Z (qd Z (za (ye _ Z Z (.inl ⟨Z,Z⟩)) (za (ye _ Z Z (.inr (.inr ⟨Z,Z⟩))) (za (ye _ Z Z (.inl ⟨Z,Z⟩)) (qd Z (bE H fun r12 h13 H=>za (zl (y4a (wr (r10+(wr (((wr ((wr (s1.at_+1)) - 1)) / (s1.L.length:Int)) * (wr (7919+(Int.tmod (wr ((wr (s1.at_+1)) - 1)) (s1.L.length:Int)))))))) n2 r12 h13) ⟨.inl Z,.inl Z,U⟩) (qe Z (zh ?_)))))))))))))))))
  cases H
  exact ⟨U,⟨.inl Z,U⟩,Z⟩
theorem z6e (s1:qq) (l2:(List Bs)) (r:(Bs×qq)) (H:Zj s1 l2=some r):Imp Tryz.prog 14 25 (jg s1) [vlst (List.map zn l2)] (zu [vstr r.1]) (jg r.2):=by
 refine xh (us:=[vstr r.1]) (cs':=(jg r.2)) (by kernel_rfl) Tryz.func14 Z Z Z Z fun X bl hN => ?_
 unfold Zj at H
 refine zb hN Z (qe Z (zb hN Z (qd Z (za (zi (.ptr _ _) Z) (qd Z (za (yo qi Z) (bE H fun r3 h4 H=>zk (vi (z93 s1 (l2.length:Int) r3 h4) Z ⟨.inl Z,U⟩ Z) Z (bE H fun x5 h6 H=>za (vq qv (fun _=>Z) Z Z h6) (za (yi tyS9 Z (yp (ww h6).2) Z) (qe Z (zh ?_)))))))))))
 cases H
 exact ⟨U,⟨.inl Z,U⟩,Z⟩
theorem y9l (s1:qq) (low2:Int) (high3:Int) (r:(Int×qq)) (H:z19 s1 low2 high3=some r):Imp Tryz.prog 8 25 (jg s1) [vint low2,vint high3] (zu [vint r.1]) (jg r.2):=by
 refine xh (us:=[vint r.1]) (cs':=(jg r.2)) (by kernel_rfl) Tryz.func8 Z Z Z Z fun X bl hN => ?_
 unfold z19 at H
 refine zb hN Z (qe Z (ze (zb hN Z (qd Z (qd Z (za (zw Z Z) (zg _ Z (fun h4 => ?_) (fun h4 => ?_))))))))
 ·refine tE h4 H fun H=>zb hN Z (qd Z (qe Z (zh ?_)))
  cases H
  exact ⟨U,⟨.inl Z,U⟩,Z⟩
 ·refine fE h4 H fun H=>zj (zb hN Z (qd Z (za (zi (.ptr _ _) Z) (qd Z (qd Z (za (ye _ Z Z (.inr (.inl ⟨Z,Z⟩))) (za (ye _ Z Z (.inl ⟨Z,Z⟩)) (bE H fun r5 h6 H=>zk (vi (z93 s1 (wr ((wr (high3 - low2))+1)) r5 h6) Z ⟨.inl Z,U⟩ Z) Z (za (ye _ Z Z (.inl ⟨Z,Z⟩)) (qe Z (zh ?_)))))))))))
  cases H
  exact ⟨U,⟨.inl Z,U⟩,Z⟩
theorem y9k (s1:qq) (r:((List Bs)×qq)) (H:z17 s1=some r):Imp Tryz.prog 6 25 (jg s1) [] (zu [vlst (List.map zn r.1)]) (jg r.2):=by
 refine xh (us:=[vlst (List.map zn r.1)]) (cs':=(jg r.2)) (by kernel_rfl) Tryz.func6 Z Z Z Z fun X bl hN => ?_
 unfold z17 at H
 refine zb hN Z (qe Z (zb hN Z (qe Z (ze (zb hN Z (za (zi (.ptr _ _) Z) (bE H fun r2 h3 H=>zk (vi (y9l s1 0 4 r2 h3) Z ⟨.inl Z,.inl Z,U⟩ Z) Z (qd Z (zx (xn 3 1 9 1 Z Z Z (gE H fun h9 H=>Yy (fun (k7:Nat) (s:(List Int)×Int×(List Bs))=>[(0,.ptr 0 0),(3,.row 1 s.2.2.length),(5,.dat (vint r2.1)),(6,.dat (vint (k7:Int)))]) (fun (k7:Nat) (s:(List Int)×Int×(List Bs))=>[(0,.box (some bl) 25 [.dat (vlst (List.map uu s.1)),.dat (vint s.2.1)]),(1,.row 9 1 (List.map zn s.2.2))]) (r2.2.L,r2.2.at_,[]) H ⟨Z,Z,Z,Z,U⟩ ⟨Z,Z,U⟩ (fun _ _=>Z) ?_ ?_)))))))))))
 ·rintro ⟨c4,c5,l6⟩ H
  replace H:y0e c4 c5 l6=some r:=H
  unfold y0e at H
  refine zb hN Z (za (zw Z Z) (ze (zg _ Z (fun h=>(z9o h).elim) (fun h => ?_))))
  refine yu (zb hN Z (za (zi (.row _ _) Z) (za (wu (.row _ _) Z) (zh ?_))))
  cases H
  exact ⟨U,⟨Qq Z Z,U⟩,Z⟩
 ·rintro k7 ⟨c4,c5,l6⟩ q8 h10 H hq8
  replace H:y0d k7 c4 c5 l6=some q8:=H
  unfold y0d at H
  refine zb hN Z (za (zw Z Z) (ze (zg _ Z (fun h => ?_) (fun h=>(z9p h10 h).elim))))
  refine zj (ze (zx (zt hN Z (za (zi (.row _ _) Z) (za (zi (.ptr _ _) Z) (za (yf (u':=vlst (List.map zn [[97],[97,58,42],[97,58,98],[97,58,98,58,42],[97,58,98,58,99],[98],[98,58,42],[98,58,99],[42]])) (wo [[_],[_],[_],[_],[_],[_],[_],[_],[_]] wz ⟨Z,.inl ⟨_,Z,Z,Z⟩,Z,Z,.inl ⟨_,Z,Z,Z⟩,Z,Z,.inl ⟨_,Z,Z,Z⟩,Z,Z,.inl ⟨_,Z,Z,Z⟩,Z,Z,.inl ⟨_,Z,Z,Z⟩,Z,Z,.inl ⟨_,Z,Z,Z⟩,Z,Z,.inl ⟨_,Z,Z,Z⟩,Z,Z,.inl ⟨_,Z,Z,Z⟩,Z,Z,.inl ⟨_,Z,Z,Z⟩,Z,U⟩ Z Z) Z) (bE H fun r11 h12 H=>zk (vi (z6e (qq.mk c4 c5) ([[97],[97,58,42],[97,58,98],[97,58,98,58,42],[97,58,98,58,99],[98],[98,58,42],[98,58,99],[42]]) r11 h12) Z ⟨.inl Z,U⟩ Z) Z (za (yf (u':=vlst (List.map zn [r11.1])) (wo [[_]] wz ⟨Z,.inl ⟨_,Z,Z,Z⟩,Z,U⟩ Z Z) Z) (gE H fun h13 H=>zk (ul wz (fun _=>Z) Z Z Z ⟨by simp,by first | (simp; done) | simpa using h13⟩ Z) Z ?_)))))))))
  exact za (wu (.row _ _) Z) (zt hN Z (za (qo Z Z (by omega)) (qd Z ⟨_,yx H,⟨Z,Z,Z,Z,U⟩,⟨Z,Z,U⟩⟩)))
theorem y8w (l r:List Bs) (H:xe l=some r):FnG Tryz.prog 43 [.row 0 l.length] [(0,.rowA undef 9 1 (List.map zn l))] (.dat (zu [])) [(0,.rowA undef 9 1 (List.map zn r))]:=by
 obtain ⟨hl,hr⟩:=y7b H
 refine w1n (fun s:Bs=>Value.string ⟨s.toArray⟩) r l (z4a H) (by kernel_rfl) (fun _=>Z) (fun blk cap w hH hb => ?_) (fun h w => ?_)
 ·rw [hr]; exact Tryz.slices_Sort_string blk 0 cap l w hH hb (by omega)
 ·exact Tryz.slices_Sort_string_none none 0 w
theorem y8x (l r:List Bs) (H:Wu l=some r):FnG Tryz.prog 44 [.row 0 l.length] [(0,.row 9 1 (List.map zn l))] (.row 900 r.length) [(900,.row 9 1 (List.map zn r))]:=by
 obtain ⟨h1,rfl⟩:=w2s H
 exact w1p (fun s:Bs=>Value.string ⟨s.toArray⟩) [] (Lib.compact l) l (x0u l) (by kernel_rfl) (fun _=>Z) (fun blk cap w hH hc=>Tryz.slices_Compact_string blk 0 cap l w hH (by omega) hc) (fun h a cap w=>Tryz.slices_Compact_string_empty a cap w)
theorem y87 (s1:(List Bs)) (p1:Bs→Option (Bool)) (fv1:Nat) (us1:List V) (hp1:∀ a0 r,p1 a0=some r→Fn Tryz.prog fv1 ([vstr a0]++us1) (zu [zf r])) (r:(Int)) (H:z9e s1 p1=some r):Fn Tryz.prog 81 [vlst (List.map zn s1),vfn fv1 us1] (zu [vint r]):=by
 refine ⟨by kernel_rfl,zy (us:=[vint r]) Tryz.func81 Z Z Z Z fun X hN => ?_⟩
 unfold z9e at H
 refine zb hN Z (qe Z (ze (zb hN Z (qd Z (za (yo qi Z) (qd Z (zx (gE H fun h4 H=>wd (fun (k2:Nat) (s:Unit)=>[(0,.dat (vlst (List.map zn s1))),(1,.dat (vfn fv1 us1)),(7,.dat (vint (s1.length:Int))),(8,.dat (vint (k2:Int)))]) (fun (k2:Nat) (s:Unit)=>[]) () H ⟨Z,Z,Z,Z,U⟩ U (fun _ _=>Z) ?_ ?_))))))))
 ·rintro ⟨⟩ H
  replace H:y2e=some r:=H
  unfold y2e at H
  refine zb hN Z (za (zw Z Z) (ze (zg _ Z (fun h=>(lt_t h).elim) (fun h => ?_))))
  refine yu (zb hN Z (qe Z (zh ?_)))
  cases H
  exact ⟨U,.inl Z,U⟩
 ·rintro k2 x5 ⟨⟩ q3 h6 h7 H hq3
  replace H:y2d p1 k2 x5=some q3:=H
  unfold y2d at H
  refine zb hN Z (za (zw Z Z) (ze (zg _ Z (fun h => ?_) (fun h=>(lt_f h6 h).elim))))
  refine zj (ze (zx (zb hN Z (qd Z (qe Z (zb hN Z (qd Z (qd Z (qd Z (za (qt qv (fun _=>Z) Z Z h7) (za (yi tyS9 Z (yp h7) Z) (bE H fun r8 h9 H=>za (z08 (hp1 x5 r8 h9) Z ⟨.inl Z,U⟩) (zg _ Z (fun h10 => ?_) (fun h10 => ?_))))))))))))))
  ·refine tE h10 H fun H=>zb hN Z (qd Z (qe Z (zh ?_)))
   replace H:=retl H hq3
   cases H
   exact ⟨U,.inl Z,U⟩
  ·exact fE h10 H fun H=>zj (zt hN Z (za (qo Z Z (by omega)) (qd Z ⟨_,yx H,⟨Z,Z,Z,Z,U⟩,U⟩)))
theorem z9z (s1:(List Bs)) (p1:Bs→Option (Bool)) (fv1:Nat) (us1:List V) (hp1:∀ a0 r,p1 a0=some r→Fn Tryz.prog fv1 ([vstr a0]++us1) (zu [zf r])) (r:(Bool)) (H:Wt s1 p1=some r):Fn Tryz.prog 40 [vlst (List.map zn s1),vfn fv1 us1] (zu [zf r]):=by
 refine ⟨by kernel_rfl,zy (us:=[zf r]) Tryz.func40 Z Z Z Z fun X hN => ?_⟩
 unfold Wt at H
 refine zb hN Z (qe Z (zb hN Z (qd Z (qd Z (bE H fun r2 h3 H=>za (zl (y87 s1 p1 fv1 us1 hp1 r2 h3) ⟨.inl Z,.inl Z,U⟩) (za (wy Z Z) (qe Z (zh ?_))))))))
 cases H
 exact ⟨U,.inl Z,U⟩
theorem y84 (s p:Bs) (r:Bs×Bool) (H:Wq s p=some r):Fn Tryz.prog 82 [vstr s,vstr p] (zu [vstr r.1,zf r.2]):=by
 obtain ⟨h1,rfl⟩:=w2m H
 refine y0f (by kernel_rfl) fun M w vs h => ?_
 have hv:=jw (us:=[.string ⟨s.toArray⟩,.string ⟨p.toArray⟩]) h
 subst hv
 refine (Tryz.strings_CutSuffix ⟨s.toArray⟩ ⟨p.toArray⟩ w (by simp [ByteArray.size]; omega)).mono ?_
 rintro e w' ⟨rfl,rfl⟩
 refine ⟨_,Z,⟨[_,_],Z,Z,fun j u hj => ?_⟩,Kp.refl _ _⟩
 rcases j with _ | _ | j
 ·cases hj; exact ⟨_,Z,Z⟩
 ·cases hj; exact ⟨_,Z,Z⟩
 ·simp at hj
theorem y33 (s p:Bs) (r:Bool) (H:Wp s p=some r):Fn Tryz.prog 83 [vstr s,vstr p] (zu [zf r]):=by
 cases H
 refine y0f (by kernel_rfl) fun M w vs h => ?_
 have h1:=jw (us:=[.string ⟨s.toArray⟩,.string ⟨p.toArray⟩]) h
 subst h1
 refine (Tryz.strings_HasPrefix ⟨s.toArray⟩ ⟨p.toArray⟩ w).mono ?_
 rintro e w' ⟨rfl,rfl⟩
 exact ⟨_,Z,Z,Kp.refl _ _⟩
theorem w0k (a1:Bs) (b2:Bs) (r:(Bool)) (H:z5v a1 b2=some r):Fn Tryz.prog 42 [vstr a1,vstr b2] (zu [zf r]):=by
 refine ⟨by kernel_rfl,zy (us:=[zf r]) Tryz.func42 Z Z Z Z fun X hN => ?_⟩
 unfold z5v at H
 refine zb hN Z (qe Z (ze (zb hN Z (qd Z (bE H fun r3 h4 H=>za (zl (y84 a1 [42] r3 h4) ⟨.inl Z,.inl Z,U⟩) (qd Z (za (ya Z Z) (za (ya Z Z) (qe Z (qe Z (zb hN Z (qd Z (zg _ Z (fun h5 => ?_) (fun h5 => ?_))))))))))))))
 ·refine tE h5 H fun H=>zb hN Z (qd Z (qd Z (bE H fun r6 h7 H=>za (zl (y33 b2 r3.1 r6 h7) ⟨.inl Z,.inl Z,U⟩) (qe Z (zh ?_)))))
  cases H
  exact ⟨U,.inl Z,U⟩
 ·refine fE h5 H fun H=>zj (zb hN Z (qd Z (qd Z (za (vd Z Z) (qe Z (zh ?_))))))
  cases H
  exact ⟨U,.inl Z,U⟩
theorem w0l (o1:Bs) (c2:Bs) (r:(Bool)) (H:z5w o1 c2=some r):Fn Tryz.prog 41 [vstr o1,qh [[vstr c2]] 0 0] (zu [zf r]):=by
 refine ⟨by kernel_rfl,zy (us:=[zf r]) Tryz.func41 Z Z Z Z fun X hN => ?_⟩
 unfold z5w at H
 refine zb hN Z (qe Z (yb (ι:=Bool) (fun i=>[(3,.dat (zf i))]) (fun i=>[]) (fun i=>z2p i=some r) (fun i=>Z) ?_ ?_))
 ·skip
  refine zt hN Z (qd Z (za (yi tyS9 Z Z Z) (za (js Z Z) (qd Z (yc (j:=3) Z Z (fun h3 => ?_) (fun h3 => ?_) Z)))))
  ·exact u1 h3 H fun h4 H=>zd Z Z h3 (zi (.dat _) Z) (zd Z Z h3 (yi tyS9 Z Z Z) (bE H fun r5 h6 H=>zd Z Z h3 (zl (w0k o1 c2 r5 h6) ⟨.inl Z,.inl Z,U⟩) (za (zz Z (bTT h4) Z) (qe Z ⟨r5,H,⟨Z,U⟩,U⟩))))
  ·exact u2 h3 H fun h7 H=>zc Z Z h3 (zc Z Z h3 (zc Z Z h3 (za (zv Z (bFF h7) Z) (qe Z ⟨false,H,⟨Z,U⟩,U⟩))))
 ·rintro v8 H
  replace H:z2p v8=some r:=H
  unfold z2p at H
  refine zh ?_
  cases H
  exact ⟨U,.inl Z,U⟩
theorem w0m (l1:(List Bs)) (r:((List Bs))) (H:z5x l1=some r):Fn Tryz.prog 16 [vlst (List.map zn l1)] (zu [vlst (List.map zn r)]):=by
 refine ⟨by kernel_rfl,zy (us:=[vlst (List.map zn r)]) Tryz.func16 Z Z Z Z fun X hN => ?_⟩
 unfold z5x at H
 refine zb hN Z (qe Z (zb hN Z (qe Z (ze (zb hN Z (qd Z (za (yo qi Z) (qd Z (zx (xn 3 1 9 1 Z Z Z (gE H fun h5 H=>wd (fun (k3:Nat) (s:(List Bs))=>[(0,.dat (vlst (List.map zn l1))),(3,.row 1 s.length),(6,.dat (vlst (List.map zn l1))),(7,.dat (vint (l1.length:Int))),(8,.dat (vint (k3:Int)))]) (fun (k3:Nat) (s:(List Bs))=>[(1,.row 9 1 (List.map zn s))]) [] H ⟨Z,Z,Z,Z,Z,U⟩ ⟨Z,U⟩ (fun _ _=>Z) ?_ ?_)))))))))))
 ·rintro l2 H
  replace H:y0b l2=some r:=H
  unfold y0b at H
  refine zb hN Z (za (zw Z Z) (ze (zg _ Z (fun h=>(lt_t h).elim) (fun h => ?_))))
  refine yu (zb hN Z (za (zi (.row _ _) Z) (bE H fun r7 h8 H=>ky (rn [(0,1)]) [(0,_,_,some _)] [] (y8w l2 r7 h8) ⟨Z,U⟩ ⟨.inl (.inl Z),U⟩ ⟨⟨⟨Z,Z,Z⟩,by simp [z09,z4a h8]⟩,U⟩ Z ?_)))
  refine zb hN Z (za (zi (.row _ _) Z) (bE H fun r9 h10 H=>ky (rn [(0,1),(900,2)]) [(0,_,_,none)] [(900,_)] (y8x r7 r9 h10) ⟨Z,Z,U⟩ ⟨.inl (.inl (congrArg (Slot.row 1) (z4a h8).symm)),U⟩ ⟨⟨⟨Z,Z,Z⟩,U⟩,U⟩ Z (za (wu (.row _ _) Z) (zh ?_))))
  cases H
  exact ⟨U,Qq Z Z,U⟩
 ·rintro k3 x6 l2 q4 h11 h12 H hq4
  replace H:y0a l1 k3 x6 l2=some q4:=H
  unfold y0a at H
  refine zb hN Z (za (zw Z Z) (ze (zg _ Z (fun h => ?_) (fun h=>(lt_f h11 h).elim))))
  refine zj (yb (ι:=(List Bs)) (fun i=>[(0,.dat (vlst (List.map zn l1))),(3,.row 1 i.length),(6,.dat (vlst (List.map zn l1))),(7,.dat (vint (l1.length:Int))),(8,.dat (vint (k3:Int)))]) (fun i=>[(1,.row 9 1 (List.map zn i))]) (fun i=>z2o i=some q4) (fun i=>Z) ?_ ?_)
  ·skip
   refine zx (zb hN Z (za (qt qv (fun _=>Z) Z Z h12) (za (yi tyS9 Z (yp h12) Z) (zk (qr 3 tyZ9 Z) Z (zk (wl tyS9 Z Z Z Z) Z (ze (kr 3 [vstr x6] Z Z (zt hN Z (qd Z (za (xb (us:=[_]) ⟨Z,U⟩) (bE H fun r13 h14 H=>za (zl (z9z l1 (fun (a0:Bs)=>z5w a0 x6) 41 [qh [[vstr x6]] 0 0] (fun a0 r h=>w0l a0 x6 r h) r13 h14) ⟨.inl Z,.inl Z,U⟩) (za (yt Z) (zg _ Z (fun h15 => ?_) (fun h15 => ?_))))))))))))))
   ·refine tE h15 H fun H=>zt hN Z (za (zi (.row _ _) Z) (za (yi tyS9 Z Z Z) (za (yf (u':=vlst (List.map zn [x6])) (wo [[_]] wz ⟨Z,.inl ⟨_,Z,Z,Z⟩,Z,U⟩ Z Z) Z) (gE H fun h16 H=>zk (ul wz (fun _=>Z) Z Z Z ⟨by simp,by first | (simp; done) | simpa using h16⟩ Z) Z ?_))))
    exact za (wu (.row _ _) Z) ⟨(l2++[x6]),H,⟨Z,Z,Z,Z,Z,U⟩,⟨Z,U⟩⟩
   ·exact fE h15 H fun H=>zj ⟨l2,H,⟨Z,Z,Z,Z,Z,U⟩,⟨Z,U⟩⟩
  ·rintro out17 H
   replace H:z2o out17=some q4:=H
   unfold z2o at H
   exact zt hN Z (za (qo Z Z (by omega)) (qd Z ⟨_,yx H,⟨Z,Z,Z,Z,Z,U⟩,⟨Z,U⟩⟩))
theorem y9m (s1:qq) (l2:(List Int)) (r:(Int×qq)) (H:z2a s1 l2=some r):Imp Tryz.prog 17 25 (jg s1) [vlst (List.map uu l2)] (zu [vint r.1]) (jg r.2):=by
 refine xh (us:=[vint r.1]) (cs':=(jg r.2)) (by kernel_rfl) Tryz.func17 Z Z Z Z fun X bl hN => ?_
 unfold z2a at H
 refine zb hN Z (qe Z (zb hN Z (qd Z (za (zi (.ptr _ _) Z) (qd Z (za (yo z7g Z) (bE H fun r3 h4 H=>zk (vi (z93 s1 (l2.length:Int) r3 h4) Z ⟨.inl Z,U⟩ Z) Z (bE H fun x5 h6 H=>za (vq Zx (fun _=>Z) Z Z h6) (za (yi tyS3 Z (yp (ww h6).2) Z) (qe Z (zh ?_)))))))))))
 cases H
 exact ⟨U,⟨.inl Z,U⟩,Z⟩
theorem w0n (s1:qq) (r:(zm×qq)) (H:z5y s1=some r):Imp Tryz.prog 4 25 (jg s1) [] (zu [vagg (yn r.1)]) (jg r.2):=by
 refine xh (us:=[vagg (yn r.1)]) (cs':=(jg r.2)) (by kernel_rfl) Tryz.func4 Z Z Z Z fun X bl hN => ?_
 unfold z5y at H
 refine zb hN Z (zk (qr 1 qx Z) Z (ze (wq mixed hN Z Z (za (zi (.ptr _ _) Z) (za (yf (u':=vlst (List.map zn [[116,49],[116,49],[116,50],[116,51]])) (wo [[_],[_],[_],[_]] wz ⟨Z,.inl ⟨_,Z,Z,Z⟩,Z,Z,.inl ⟨_,Z,Z,Z⟩,Z,Z,.inl ⟨_,Z,Z,Z⟩,Z,Z,.inl ⟨_,Z,Z,Z⟩,Z,U⟩ Z Z) Z) (bE H fun r2 h3 H=>zk (vi (z6e s1 ([[116,49],[116,49],[116,50],[116,51]]) r2 h3) Z ⟨.inl Z,U⟩ Z) Z (za (zi (.ptr _ _) Z) (za (yf (u':=vlst (List.map zn [[97,110,110],[98,111,98]])) (wo [[_],[_]] wz ⟨Z,.inl ⟨_,Z,Z,Z⟩,Z,Z,.inl ⟨_,Z,Z,Z⟩,Z,U⟩ Z Z) Z) (bE H fun r4 h5 H=>zk (vi (z6e r2.2 ([[97,110,110],[98,111,98]]) r4 h5) Z ⟨.inl Z,U⟩ Z) Z (za (zi (.ptr _ _) Z) (za (yf (u':=vlst (List.map zn [[103,97,116,101],[103,97,116,101],[103,97,116,101],[111,116,104,101,114]])) (wo [[_],[_],[_],[_]] wz ⟨Z,.inl ⟨_,Z,Z,Z⟩,Z,Z,.inl ⟨_,Z,Z,Z⟩,Z,Z,.inl ⟨_,Z,Z,Z⟩,Z,Z,.inl ⟨_,Z,Z,Z⟩,Z,U⟩ Z Z) Z) (bE H fun r6 h7 H=>zk (vi (z6e r4.2 ([[103,97,116,101],[103,97,116,101],[103,97,116,101],[111,116,104,101,114]]) r6 h7) Z ⟨.inl Z,U⟩ Z) Z (za (zi (.ptr _ _) Z) (za (yf (u':=vlst (List.map zn [[],[],[],[116,48],[116,50]])) (wo [[_],[_],[_],[_],[_]] wz ⟨Z,.inl ⟨_,Z,Z,Z⟩,Z,Z,.inl ⟨_,Z,Z,Z⟩,Z,Z,.inl ⟨_,Z,Z,Z⟩,Z,Z,.inl ⟨_,Z,Z,Z⟩,Z,Z,.inl ⟨_,Z,Z,Z⟩,Z,U⟩ Z Z) Z) (bE H fun r8 h9 H=>zk (vi (z6e r6.2 ([[],[],[],[116,48],[116,50]]) r8 h9) Z ⟨.inl Z,U⟩ Z) Z (za (yf (u':=vlst (List.map zn [[115,104,111,112]])) (wo [[_]] wz ⟨Z,.inl ⟨_,Z,Z,Z⟩,Z,U⟩ Z Z) Z) (za (yf (u':=vlst (List.map zn [[109,97,112,115],[115,104,111,112]])) (wo [[_],[_]] wz ⟨Z,.inl ⟨_,Z,Z,Z⟩,Z,Z,.inl ⟨_,Z,Z,Z⟩,Z,U⟩ Z Z) Z) (za (yf (u':=vlst (List.map zn [[109,97,112,115]])) (wo [[_]] wz ⟨Z,.inl ⟨_,Z,Z,Z⟩,Z,U⟩ Z Z) Z) (za (qy (u':=vlst (List.map y0t ([[],[],[[115,104,111,112]],[[109,97,112,115],[115,104,111,112]],[[109,97,112,115]]]:(List (List Bs))))) (x1r (by exact ⟨⟨yq,U⟩,⟨yq,U⟩,⟨zq,U⟩,⟨zq,U⟩,⟨zq,U⟩,U⟩)) (wo [[vnil],[vnil],[_],[_],[_]] y51 ⟨Z,.inl ⟨_,Z,Z,Z⟩,Z,Z,.inl ⟨_,Z,Z,Z⟩,Z,Z,.inl ⟨_,Z,Z,Z⟩,Z,Z,.inl ⟨_,Z,Z,Z⟩,Z,Z,.inl ⟨_,Z,Z,Z⟩,Z,U⟩ Z Z)) ?_)))))))))))))))))))
 refine za (zi (.ptr _ _) Z) (bE H fun r10 h11 H=>zk (vi (z93 r8.2 5 r10 h11) Z ⟨.inl Z,U⟩ Z) Z (bE H fun x12 h13 H=>za (vq y6g (fun _=>Z) Z Z h13) (za (yi qk Z (yp (ww h13).2) Z) (za (zi (.ptr _ _) Z) (bE H fun r14 h15 H=>zk (vi (y9k r10.2 r14 h15) Z U Z) Z (bE H fun r16 h17 H=>za (zl (w0m r14.1 r16 h17) ⟨.inl Z,U⟩) (za (zi (.ptr _ _) Z) (za (yf (u':=vlst (List.map uu [0,50,100])) (wo [[_],[_],[_]] y1a ⟨Z,.inl ⟨_,Z,Z,Z⟩,Z,Z,.inl ⟨_,Z,Z,Z⟩,Z,Z,.inl ⟨_,Z,Z,Z⟩,Z,U⟩ Z Z) Z) (bE H fun r18 h19 H=>zk (vi (y9m r14.2 [0,50,100] r18 h19) Z ⟨.inl Z,U⟩ Z) Z (za (yf (u':=vagg (yn (zm.mk r2.1 r4.1 r6.1 r8.1 x12 r16 r18.1 0))) (qf [(0,[vstr r2.1]),(1,[vstr r4.1]),(2,[vstr r6.1]),(3,[vstr r8.1]),(4,[vlst (List.map zn x12)]),(5,[vlst (List.map zn r16)]),(6,[vint r18.1])] qx vm Z ⟨Z,.inl ⟨_,Z,Z,Z⟩,Z,Z,.inl ⟨_,Z,Z,Z⟩,Z,Z,.inl ⟨_,Z,Z,Z⟩,Z,Z,.inl ⟨_,Z,Z,Z⟩,Z,Z,.inl ⟨_,Z,Z,Z⟩,Z,Z,.inl ⟨_,Z,Z,Z⟩,Z,Z,.inl ⟨_,Z,Z,Z⟩,Z,U⟩) Z) (zk (qr 2 qx Z) Z (zk (ym yk Z Z Z Z) Z ⟨Z,?_⟩))))))))))))
 refine ze (wq mixed hN Z Z (za (zo ux Z) (zp (zr tyS3 Z Z) Z (za (zi (.ptr _ _) Z) (za (yf (u':=vlst (List.map uu [1,50,100,200])) (wo [[_],[_],[_],[_]] y1a ⟨Z,.inl ⟨_,Z,Z,Z⟩,Z,Z,.inl ⟨_,Z,Z,Z⟩,Z,Z,.inl ⟨_,Z,Z,Z⟩,Z,Z,.inl ⟨_,Z,Z,Z⟩,Z,U⟩ Z Z) Z) (bE H fun r20 h21 H=>zk (vi (y9m r18.2 [1,50,100,200] r20 h21) Z ⟨.inl Z,U⟩ Z) Z (za (ye _ Z Z (.inl ⟨Z,Z⟩)) (za (zo uw Z) (zk (wl tyS3 Z Z Z Z) Z ⟨Z,?_⟩)))))))))
 refine zb hN Z (zp (vh yk Z Z Z) Z (zk (ym yk Z Z Z Z) Z (zh ?_)))
 cases H
 exact ⟨U,⟨.inl ⟨_,_,_,yn (zm.mk r2.1 r4.1 r6.1 r8.1 x12 r16 r18.1 (wr (r18.1+r20.1))),Z,Z,Z,Z,yk⟩,U⟩,Z⟩
theorem jx (s1:Bs) (r:(Bool)) (H:jf s1=some r):Fn Tryz.prog 20 [vstr s1] (zu [zf r]):=by
 refine ⟨by kernel_rfl,zy (us:=[zf r]) Tryz.func20 Z Z Z Z fun X hN => ?_⟩
 unfold jf at H
 refine zb hN Z (qe Z (ze (zb hN Z (qe Z (zx (gE H fun h4 H=>wd (fun (i2:Nat) (s:Unit)=>[(0,.dat (vstr s1)),(3,.dat (vint (i2:Int)))]) (fun (i2:Nat) (s:Unit)=>[]) () H ⟨Z,Z,U⟩ U (fun _ _=>Z) ?_ ?_))))))
 ·rintro ⟨⟩ H
  replace H:y3t s1=some r:=H
  unfold y3t at H
  refine ze (zb hN Z (qd Z (qd Z (za (qj tyU9 Z) (za (zw Z Z) (zg _ Z (fun h=>(lt_t h).elim) (fun h => ?_)))))))
  refine yu (zb hN Z (qd Z (za (js Z Z) (qd Z (qa Z Z (fun hc=>zi (.dat _) Z) (qa Z Z (fun hc=>qj tyU9 (cnd (c:=(decide (s1≠[]))) hc)) (qa Z Z (fun hc=>vf (cnd (c:=(decide (s1≠[]))) hc) Z) (za (wx Z (fun hb=>(cnd (c:=(decide (s1≠[]))) hb)) Z) (qe Z (zh ?_))))))))))
  cases H
  exact ⟨U,.inl Z,U⟩
 ·rintro i2 x5 ⟨⟩ q3 h6 h7 H hq3
  replace H:z9u i2 x5=some q3:=H
  unfold z9u at H
  refine ze (zb hN Z (qd Z (qd Z (za (qj tyU9 Z) (za (zw Z Z) (zg _ Z (fun h => ?_) (fun h=>(lt_f h6 h).elim)))))))
  refine zj (ze (zx (zb hN Z (qd Z (qd Z (za (wg tyU9 Z Z h7) (qe Z (zb hN Z (qd Z (za (wy Z Z) (qd Z (qa Z Z (fun hc=>zi (.dat _) Z) (qa Z Z (fun hc=>vf (cnd (c:=(decide (97≤(x5.toNat:Int)))) hc) Z) (za (wx Z (fun hb=>(cnd (c:=(decide (97≤(x5.toNat:Int)))) hb)) Z) (qd Z (yg Z Z (fun hc=>zi (.dat _) Z) (yg Z Z (fun hc=>qc (cnd (c:=(!((decide (97≤(x5.toNat:Int))) && (decide ((x5.toNat:Int)≤122))))) hc) Z) (yg Z Z (fun hc=>zi (.dat _) (cnd (c:=(!((decide (97≤(x5.toNat:Int))) && (decide ((x5.toNat:Int)≤122))))) hc)) (qu Z Z (fun hc=>zi (.dat _) Z) (qu Z Z (fun hc=>wy (cnd (c:=((!((decide (97≤(x5.toNat:Int))) && (decide ((x5.toNat:Int)≤122)))) && (decide (0 < (i2:Int))))) hc) Z) (qu Z Z (fun hc=>zi (.dat _) (cnd (c:=((!((decide (97≤(x5.toNat:Int))) && (decide ((x5.toNat:Int)≤122)))) && (decide (0 < (i2:Int))))) hc)) (qu Z Z (fun hc=>zi (.dat _) Z) (qu Z Z (fun hc=>vf (cnd (c:=(((!((decide (97≤(x5.toNat:Int))) && (decide ((x5.toNat:Int)≤122)))) && (decide (0 < (i2:Int)))) && (decide (48≤(x5.toNat:Int))))) hc) Z) ?_)))))))))))))))))))))))
  refine qu Z Z (fun hc=>wx (cnd (c:=((!((decide (97≤(x5.toNat:Int))) && (decide ((x5.toNat:Int)≤122)))) && (decide (0 < (i2:Int))))) hc) (fun hb=>(cnd (c:=(((!((decide (97≤(x5.toNat:Int))) && (decide ((x5.toNat:Int)≤122)))) && (decide (0 < (i2:Int)))) && (decide (48≤(x5.toNat:Int))))) (andI hc hb))) Z) (qu Z Z (fun hc=>zi (.dat _) (cnd (c:=((!((decide (97≤(x5.toNat:Int))) && (decide ((x5.toNat:Int)≤122)))) && (decide (0 < (i2:Int))))) hc)) (Qw Z Z (fun hc=>zi (.dat _) Z) (Qw Z Z (fun hc=>yw (cnd (c:=(((!((decide (97≤(x5.toNat:Int))) && (decide ((x5.toNat:Int)≤122)))) && (decide (0 < (i2:Int)))) && !((decide (48≤(x5.toNat:Int))) && (decide ((x5.toNat:Int)≤57))))) hc) Z) (qu Z Z (fun hc=>ve (cnd (c:=((!((decide (97≤(x5.toNat:Int))) && (decide ((x5.toNat:Int)≤122)))) && (decide (0 < (i2:Int))))) hc) Z (fun hb=>(cnd (c:=(((!((decide (97≤(x5.toNat:Int))) && (decide ((x5.toNat:Int)≤122)))) && (decide (0 < (i2:Int)))) && !((decide (48≤(x5.toNat:Int))) && (decide ((x5.toNat:Int)≤57))))) (andI hc (notI hb))))) (qu Z Z (fun hc=>zi (.dat _) (cnd (c:=((!((decide (97≤(x5.toNat:Int))) && (decide ((x5.toNat:Int)≤122)))) && (decide (0 < (i2:Int))))) hc)) (Qw Z Z (fun hc=>zi (.dat _) Z) (Qw Z Z (fun hc=>yw (cnd (c:=(((!((decide (97≤(x5.toNat:Int))) && (decide ((x5.toNat:Int)≤122)))) && (decide (0 < (i2:Int)))) && !(((decide (48≤(x5.toNat:Int))) && (decide ((x5.toNat:Int)≤57))) || (decide ((x5.toNat:Int)=45))))) hc) Z) (qu Z Z (fun hc=>ve (cnd (c:=((!((decide (97≤(x5.toNat:Int))) && (decide ((x5.toNat:Int)≤122)))) && (decide (0 < (i2:Int))))) hc) Z (fun hb=>(cnd (c:=(((!((decide (97≤(x5.toNat:Int))) && (decide ((x5.toNat:Int)≤122)))) && (decide (0 < (i2:Int)))) && !(((decide (48≤(x5.toNat:Int))) && (decide ((x5.toNat:Int)≤57))) || (decide ((x5.toNat:Int)=45))))) (andI hc (notI hb))))) (yg Z Z (fun hc=>wx (cnd (c:=(!((decide (97≤(x5.toNat:Int))) && (decide ((x5.toNat:Int)≤122))))) hc) (fun hb=>(cnd (c:=((!((decide (97≤(x5.toNat:Int))) && (decide ((x5.toNat:Int)≤122)))) && (decide (0 < (i2:Int))))) (andI hc hb))) Z) (za (ve Z Z (fun hb=>(cnd (c:=(!((decide (97≤(x5.toNat:Int))) && (decide ((x5.toNat:Int)≤122))))) (notI hb)))) (za (yt Z) (zg _ Z (fun h8 => ?_) (fun h8 => ?_)))))))))))))
  ·refine tE h8 H fun H=>zb hN Z (qe Z (zh ?_))
   replace H:=retl H hq3
   cases H
   exact ⟨U,.inl Z,U⟩
  ·exact fE h8 H fun H=>zj (zt hN Z (qd Z (za (qo Z Z (by omega)) (qe Z ⟨_,yx H,⟨Z,Z,U⟩,U⟩))))
theorem x98 (l1:(List Bs)) (r:(Int)) (H:z5q l1=some r):Fn Tryz.prog 45 [vlst (List.map zn l1)] (zu [vint r]):=by
 refine ⟨by kernel_rfl,zy (us:=[vint r]) Tryz.func45 Z Z Z Z fun X hN => ?_⟩
 unfold z5q at H
 refine zb hN Z (qe Z (ze (zb hN Z (qd Z (za (yo qi Z) (qd Z (zx (gE H fun h4 H=>wd (fun (k2:Nat) (s:Unit)=>[(0,.dat (vlst (List.map zn l1))),(5,.dat (vlst (List.map zn l1))),(6,.dat (vint (l1.length:Int))),(7,.dat (vint (k2:Int)))]) (fun (k2:Nat) (s:Unit)=>[]) () H ⟨Z,Z,Z,Z,U⟩ U (fun _ _=>Z) ?_ ?_))))))))
 ·rintro ⟨⟩ H
  replace H:y3s=some r:=H
  unfold y3s at H
  refine zb hN Z (za (zw Z Z) (ze (zg _ Z (fun h=>(lt_t h).elim) (fun h => ?_))))
  refine yu (zb hN Z (qe Z (zh ?_)))
  cases H
  exact ⟨U,.inl Z,U⟩
 ·rintro k2 x5 ⟨⟩ q3 h6 h7 H hq3
  replace H:z9t l1 k2 x5=some q3:=H
  unfold z9t at H
  refine zb hN Z (za (zw Z Z) (ze (zg _ Z (fun h => ?_) (fun h=>(lt_f h6 h).elim))))
  refine zj (ze (zx (zb hN Z (qd Z (za (qt qv (fun _=>Z) Z Z h7) (za (yi tyS9 Z (yp h7) Z) (qe Z (qe Z (ze (zb hN Z (qd Z (bE H fun r8 h9 H=>za (zl (jx x5 r8 h9) ⟨.inl Z,U⟩) (za (yt Z) (zg _ Z (fun h10 => ?_) (fun h10 => ?_)))))))))))))))
  ·refine tE h10 H fun H=>zb hN Z (qe Z (zh ?_))
   replace H:=retl H hq3
   cases H
   exact ⟨U,.inl Z,U⟩
  ·refine fE h10 H fun H=>zj (yb (ι:=Bool) (fun i=>[(0,.dat (vlst (List.map zn l1))),(5,.dat (vlst (List.map zn l1))),(6,.dat (vint (l1.length:Int))),(7,.dat (vint (k2:Int))),(25,.dat (zf i))]) (fun i=>[]) (fun i=>z0b i=some q3) (fun i=>Z) ?_ ?_)
   ·skip
    refine zt hN Z (qd Z (za (qc Z Z) (qd Z (yc (j:=2) Z Z (fun h11 => ?_) (fun h11 => ?_) Z))))
    ·exact u1 h11 H fun h12 H=>zd Z Z h11 (zi (.dat _) Z) (zd Z Z h11 (zi (.dat _) Z) (zd Z Z h11 (zi (.dat _) Z) (zd Z Z h11 (z34 Z Z (by omega)) (bE H fun x13 h14 H=>zd Z Z h11 (vq qv (fun _=>Z) Z Z h14) (zd Z Z h11 (yi tyS9 Z (yp (ww h14).2) Z) (zd Z Z h11 (z8a Z Z) (za (zz Z (bTT h12) Z) ⟨(Op.bytesLess x5 x13 || x5 == x13),H,⟨Z,Z,Z,Z,Z,U⟩,U⟩)))))))
    ·exact u2 h11 H fun h15 H=>zc Z Z h11 (zc Z Z h11 (zc Z Z h11 (zc Z Z h11 (zc Z Z h11 (zc Z Z h11 (zc Z Z h11 (za (zv Z (bFF h15) Z) ⟨false,H,⟨Z,Z,Z,Z,Z,U⟩,U⟩)))))))
   ·rintro v16 H
    replace H:z0b v16=some q3:=H
    unfold z0b at H
    refine zg _ Z (fun h17 => ?_) (fun h17 => ?_)
    ·refine tE h17 H fun H=>zb hN Z (qe Z (zh ?_))
     replace H:=retl H hq3
     cases H
     exact ⟨U,.inl Z,U⟩
    ·exact fE h17 H fun H=>zj (zt hN Z (za (qo Z Z (by omega)) (qd Z ⟨_,yx H,⟨Z,Z,Z,Z,U⟩,U⟩)))
theorem x73 (s sep:Bs) (r:List Bs) (H:jj s sep=some r):FnG Tryz.prog 56 [.dat (vstr s),.dat (vstr sep)] [] (.row 900 r.length) [(900,.row 9 1 (List.map zn r))]:=by
 obtain ⟨h1,h2,rfl⟩:=x5i H
 have hlen:=Lib.splitB_all ⟨sep.toArray⟩ (by simpa [ByteArray.size] using h2) 0 _ ⟨s.toArray⟩ Z
 have hle:=Lib.countB_le ⟨sep.toArray⟩ (by simpa [ByteArray.size] using h2) _ ⟨s.toArray⟩ (Nat.le_refl _)
 refine w1o (args:=[vstr s,vstr sep]) (xc s sep) (by kernel_rfl) (fun M w vs hM hvs => ?_) ?_
 ·have hv:=jw (us:=[.string ⟨s.toArray⟩,.string ⟨sep.toArray⟩]) hvs
  subst hv
  obtain ⟨m,hm⟩:=y21 hM
  refine (Tryz.strings_Split ⟨s.toArray⟩ ⟨sep.toArray⟩ m w (by simp [ByteArray.size]; omega) hm (by simpa [ByteArray.size] using h2)).mono ?_
  rintro e w' ⟨rfl,rfl⟩
  have e1:(xc s sep).length=Lib.countB ⟨s.toArray⟩ ⟨sep.toArray⟩+1:=by unfold xc; rw [List.length_map,hlen]
  have e2:((xc s sep).map fun s=>Value.string ⟨s.toArray⟩)=(Lib.splitB ⟨sep.toArray⟩ 0 (Lib.countB ⟨s.toArray⟩ ⟨sep.toArray⟩) ⟨s.toArray⟩).map Value.string:=by
   unfold xc
   rw [List.map_map]
   exact List.map_congr_left fun b _=>by simp
  rw [e1,e2]
  exact ⟨Z,Z⟩
 ·unfold xc maxLen
  rw [List.length_map,hlen]
  have hsz:(ByteArray.mk s.toArray).size=s.length:=by simp [ByteArray.size]
  rw [hsz] at hle
  omega
theorem Yq (s sep:Bs) (r:List Bs) (H:jj s sep=some r):Fn Tryz.prog 56 [vstr s,vstr sep] (zu [vlst (List.map zn r)]):=by
 have h:=x73 s sep r H
 rw [← List.length_map (f:=zn)] at h
 exact x0g h
theorem x8o (s1:Bs) (r:(Bool)) (H:z4w s1=some r):Fn Tryz.prog 46 [vstr s1] (zu [zf r]):=by
 refine ⟨by kernel_rfl,zy (us:=[zf r]) Tryz.func46 Z Z Z Z fun X hN => ?_⟩
 unfold z4w at H
 refine zb hN Z (qe Z (zb hN Z (qd Z (bE H fun r2 h3 H=>za (zl (Yq s1 [58] r2 h3) ⟨.inl Z,.inl Z,U⟩) (qe Z (ze (zb hN Z (qd Z (za (yo qi Z) (qd Z (zx (gE H fun h6 H=>wd (fun (k4:Nat) (s:Unit)=>[(3,.dat (vlst (List.map zn r2))),(8,.dat (vlst (List.map zn r2))),(9,.dat (vint (r2.length:Int))),(10,.dat (vint (k4:Int)))]) (fun (k4:Nat) (s:Unit)=>[]) () H ⟨Z,Z,Z,Z,U⟩ U (fun _ _=>Z) ?_ ?_))))))))))))
 ·rintro ⟨⟩ H
  replace H:y1t r2=some r:=H
  unfold y1t at H
  refine zb hN Z (za (zw Z Z) (ze (zg _ Z (fun h=>(lt_t h).elim) (fun h => ?_))))
  refine yu (zb hN Z (qd Z (za (yo qi Z) (za (vf Z Z) (qe Z (zh ?_))))))
  cases H
  exact ⟨U,.inl Z,U⟩
 ·rintro k4 x7 ⟨⟩ q5 h8 h9 H hq5
  replace H:z7x r2 k4 x7=some q5:=H
  unfold z7x at H
  refine zb hN Z (za (zw Z Z) (ze (zg _ Z (fun h => ?_) (fun h=>(lt_f h8 h).elim))))
  refine zj (ze (zx (zb hN Z (qd Z (za (qt qv (fun _=>Z) Z Z h9) (za (yi tyS9 Z (yp h9) Z) (qe Z (qe Z (zb hN Z (qd Z (bE H fun r10 h11 H=>za (zl (jx x7 r10 h11) ⟨.inl Z,U⟩) (za (yt Z) (qd Z (qa Z Z (fun hc=>zi (.dat _) Z) (qa Z Z (fun hc=>vd (cnd (c:=(!r10)) hc) Z) (qa Z Z (fun hc=>zi (.dat _) (cnd (c:=(!r10)) hc)) (qu Z Z (fun hc=>zi (.dat _) Z) (qu Z Z (fun hc=>zi (.dat _) Z) (qu Z Z (fun hc=>yo qi (cnd (c:=((!r10) && (decide (x7=[42])))) hc)) (qu Z Z (fun hc=>ye _ (cnd (c:=((!r10) && (decide (x7=[42])))) hc) Z (.inr (.inl ⟨Z,Z⟩))) (qu Z Z (fun hc=>yw (cnd (c:=((!r10) && (decide (x7=[42])))) hc) (cnd (c:=((!r10) && (decide (x7=[42])))) hc)) (qa Z Z (fun hc=>wx (cnd (c:=(!r10)) hc) (fun hb=>(cnd (c:=((!r10) && (decide (x7=[42])))) (andI hc hb))) Z) ?_))))))))))))))))))))))
  refine qa Z Z (fun hc=>yt (cnd (c:=(!r10)) hc)) (za (wx Z (fun hb=>(cnd (c:=(!r10)) hb)) Z) (zg _ Z (fun h12 => ?_) (fun h12 => ?_)))
  ·refine tE h12 H fun H=>zb hN Z (qe Z (zh ?_))
   replace H:=retl H hq5
   cases H
   exact ⟨U,.inl Z,U⟩
  ·exact fE h12 H fun H=>zj (zt hN Z (za (qo Z Z (by omega)) (qd Z ⟨_,yx H,⟨Z,Z,Z,Z,U⟩,U⟩)))
theorem z9x (l1:(List Bs)) (r:(Int)) (H:Yi l1=some r):Fn Tryz.prog 19 [vlst (List.map zn l1)] (zu [vint r]):=by
 refine ⟨by kernel_rfl,zy (us:=[vint r]) Tryz.func19 Z Z Z Z fun X hN => ?_⟩
 unfold Yi at H
 refine zb hN Z (qe Z (ze (zb hN Z (qd Z (za (yo qi Z) (za (qc Z Z) (zg _ Z (fun h2 => ?_) (fun h2 => ?_))))))))
 ·refine tE h2 H fun H=>zb hN Z (qe Z (zh ?_))
  cases H
  exact ⟨U,.inl Z,U⟩
 ·refine fE h2 H fun H=>zj (ze (zb hN Z (qd Z (za (yo qi Z) (qd Z (zx (gE H fun h5 H=>wd (fun (k3:Nat) (s:Unit)=>[(8,.dat (vlst (List.map zn l1))),(9,.dat (vint (l1.length:Int))),(10,.dat (vint (k3:Int)))]) (fun (k3:Nat) (s:Unit)=>[]) () H ⟨Z,Z,Z,U⟩ U (fun _ _=>Z) ?_ ?_)))))))
  ·rintro ⟨⟩ H
   replace H:y1x=some r:=H
   unfold y1x at H
   refine zb hN Z (za (zw Z Z) (ze (zg _ Z (fun h=>(lt_t h).elim) (fun h => ?_))))
   refine yu (zb hN Z (qe Z (zh ?_)))
   cases H
   exact ⟨U,.inl Z,U⟩
  ·rintro k3 x6 ⟨⟩ q4 h7 h8 H hq4
   replace H:z73 k3 x6=some q4:=H
   unfold z73 at H
   refine zb hN Z (za (zw Z Z) (ze (zg _ Z (fun h => ?_) (fun h=>(lt_f h7 h).elim))))
   refine zj (ze (zx (zb hN Z (za (qt qv (fun _=>Z) Z Z h8) (za (yi tyS9 Z (yp h8) Z) (qe Z (zb hN Z (qd Z (bE H fun r9 h10 H=>za (zl (x8o x6 r9 h10) ⟨.inl Z,U⟩) (za (yt Z) (zg _ Z (fun h11 => ?_) (fun h11 => ?_))))))))))))
   ·refine tE h11 H fun H=>zb hN Z (qe Z (zh ?_))
    replace H:=retl H hq4
    cases H
    exact ⟨U,.inl Z,U⟩
   ·exact fE h11 H fun H=>zj (zt hN Z (za (qo Z Z (by omega)) (qd Z ⟨_,yx H,⟨Z,Z,Z,U⟩,U⟩)))
theorem y3q (l r:List Bs) (H:um l=some r):FnG Tryz.prog 22 [.dat (vlst (List.map zn l))] [] (.row 900 r.length) [(900,.row 9 1 (List.map zn r))]:=by
 obtain ⟨hl,rfl⟩:=w2x H
 refine z6u (by kernel_rfl) Tryz.func22 Z Z Z Z fun X A hN => ?_
 refine w3e 0 Z (fun h0 => ?_) ?_
 ·obtain rfl:=List.map_eq_nil_iff.1 h0
  refine zb hN Z (qe Z (ze (zb hN Z (qd Z (za (x45 qi Z) (zg _ Z (fun h => ?_) (fun h=>by cases h)))))))
  exact zb hN Z (qe Z (xn 2 900 9 1 Z Z Z (zh ⟨U,[(2,.row 900 0)],⟨Z,U⟩,⟨Z,U⟩,Z,.inr (.inl ⟨2,Z,Z⟩)⟩)))
 ·refine zb hN Z (qe Z (ze (zb hN Z (qd Z (za (x46 qi Z) (zg _ Z (fun h=>by cases h) (fun h => ?_)))))))
  refine zj (ze (w3d 0 (u':=vlst (List.map zn l)) Z x1q (zt hN Z (zk (x4w 900 wz) Z (qd Z (zk (y6s (C:=zn) (xs:=[]) wz (fun _=>Z) Z Z Z (by simpa using hl) Z) Z ?_))))))
  exact za (wu (.row _ _) Z) (zh ⟨U,[(2,.row 900 l.length)],⟨Z,U⟩,⟨Z,U⟩,Z,.inr (.inl ⟨2,Z,Z⟩)⟩)
theorem x9r (l r:List Bs) (H:um l=some r):Fn Tryz.prog 22 [vlst (List.map zn l)] (zu [vlst (List.map zn r)]):=by
 have h:=y3q l r H
 rw [← List.length_map (f:=zn)] at h
 exact x0g h
theorem y9f (l1:(List Bs)) (r:((List Bs))) (H:Wy l1=some r):Fn Tryz.prog 49 [vlst (List.map zn l1)] (zu [vlst (List.map zn r)]):=by
 refine ⟨by kernel_rfl,zy (us:=[vlst (List.map zn r)]) Tryz.func49 Z Z Z Z fun X hN => ?_⟩
 unfold Wy at H
 refine zb hN Z (qe Z (zb hN Z (qd Z (bE H fun r2 h3 H=>ky (rn [(900,1)]) [] [(900,_)] (y3q l1 r2 h3) ⟨Z,U⟩ ⟨.inl (.inl Z),U⟩ U Z (za (wu (.row _ _) Z) (zb hN Z (za (zi (.row _ _) Z) (bE H fun r4 h5 H=>ky (rn [(0,1)]) [(0,_,_,some _)] [] (y8w r2 r4 h5) ⟨Z,U⟩ ⟨.inl (.inl Z),U⟩ ⟨⟨⟨Z,Z,Z⟩,by simp [z09,z4a h5]⟩,U⟩ Z ?_))))))))
 refine zb hN Z (za (zi (.row _ _) Z) (bE H fun r6 h7 H=>ky (rn [(0,1),(900,2)]) [(0,_,_,none)] [(900,_)] (y8x r4 r6 h7) ⟨Z,Z,U⟩ ⟨.inl (.inl (congrArg (Slot.row 1) (z4a h5).symm)),U⟩ ⟨⟨⟨Z,Z,Z⟩,U⟩,U⟩ Z (za (wu (.row _ _) Z) (zh ?_))))
 cases H
 exact ⟨U,Qq Z Z,U⟩
theorem x72 (s1:(List Bs)) (p1:Bs→Option (Bool)) (fv1:Nat) (us1:List V) (hp1:∀ a0 r,p1 a0=some r→Fn Tryz.prog fv1 ([vstr a0]++us1) (zu [zf r])) (r:((List Bs))) (H:z9f s1 p1=some r):FnG Tryz.prog 50 [.row 0 s1.length,.dat (vfn fv1 us1)] [(0,.row 9 1 (List.map zn s1))] (.row 900 r.length) [(900,.row 9 1 (List.map zn r))]:=by
 refine z6u (by kernel_rfl) Tryz.func50 Z Z Z Z fun X A hN => ?_
 unfold z9f at H
 refine zb hN Z (qe Z (zb hN Z (za (zi (.row _ _) Z) (qd Z (bE H fun r2 h3 H=>zp (x49 (id:=0) (es:=List.map zn s1) (y87 s1 p1 fv1 us1 hp1 r2 h3) ⟨.inr ⟨(congrArg (Slot.row 0) (by rw [List.length_map]):Slot.row 0 s1.length=_),Z⟩,.inl (.inl (.inl Z)),U⟩ (fun _ _ _ _ h=>h)) Z ?_)))))
 refine qe Z (ze (zb hN Z (qd Z (za (yw Z Z) (zg _ Z (fun h4 => ?_) (fun h4 => ?_))))))
 ·refine tE h4 H fun H=>zb hN Z (za (zi (.row _ _) Z) (za (wu (.row _ _) Z) (x09 4 0 900 Z Z (by rw [List.length_map]) Z ?_)))
  refine zh ?_
  cases H
  exact ⟨U,[(4,.row 900 _)],⟨Z,U⟩,⟨Z,U⟩,Z,.inr (.inl ⟨4,Z,Z⟩)⟩
 ·refine fE h4 H fun H=>zj (yb (ι:=Int×(List Bs)) (fun i=>[(0,.row 0 i.2.length),(5,.dat (vint i.1))]) (fun i=>[(0,.row 9 1 (List.map zn i.2))]) (fun i=>z8h i.1 i.2=some r) (fun i=>Z) ?_ ?_)
  ·skip
   refine zb hN Z (qd Z (za (ye _ Z Z (.inl ⟨Z,Z⟩)) (qe Z (zx (Zr (fun (s:Int×Int×(List Bs))=>[(0,.row 0 s.2.2.length),(1,.dat (vfn fv1 us1)),(5,.dat (vint s.1)),(6,.dat (vint s.2.1))]) (fun (s:Int×Int×(List Bs))=>[(0,.row 9 1 (List.map zn s.2.2))]) (r2,wr (r2+1),s1) H ⟨Z,Z,Z,Z,U⟩ ⟨Z,U⟩ (fun _=>Z) ?_)))))
   rintro ⟨i5,j6,l7⟩ q8 H hq8
   replace H:y2k p1 i5 j6 l7=some q8:=H
   unfold y2k at H
   refine ze (zb hN Z (qd Z (za (zi (.row _ _) Z) (zp (y11 qi Z Z) Z (za (zw Z Z) (zg _ Z (fun h9 => ?_) (fun h9 => ?_)))))))
   ·refine tE h9 H fun H=>zj (yb (ι:=Int×(List Bs)) (fun i=>[(0,.row 0 i.2.length),(1,.dat (vfn fv1 us1)),(5,.dat (vint i.1)),(6,.dat (vint j6))]) (fun i=>[(0,.row 9 1 (List.map zn i.2))]) (fun i=>z4d j6 i.1 i.2=some q8) (fun i=>Z) ?_ ?_)
    ·skip
     refine zx (zb hN Z (za (zi (.row _ _) Z) (qd Z (bE H fun x10 h11 H=>zp (z3w qv Z Z Z h11) Z (zp (z04 tyS9 Z Z (ww h11).2 Z) Z (qe Z (zb hN Z (qd Z (qd Z (bE H fun r12 h13 H=>za (z08 (hp1 x10 r12 h13) Z ⟨.inl Z,U⟩) (za (yt Z) (zg _ Z (fun h14 => ?_) (fun h14 => ?_)))))))))))))
     ·exact tE h14 H fun H=>zb hN Z (za (zi (.row _ _) Z) (qd Z (qd Z (bE H fun x15 h16 H=>zp (z3w qv Z Z Z h16) Z (zk (z78 x10 tyS9 Z Z Z Z (ww h16).2 Z Z) Z (zt hN Z (qd Z (za (ye _ Z Z (.inl ⟨Z,Z⟩)) (qe Z ⟨(wr (i5+1),(l7.set i5.toNat x10)),H,⟨congrArg (Slot.row 0) (by simp),Z,Z,Z,U⟩,⟨Z,U⟩⟩)))))))))
     ·exact fE h14 H fun H=>zj ⟨(i5,l7),H,⟨Z,Z,Z,Z,U⟩,⟨Z,U⟩⟩
    ·rintro ⟨i17,s18⟩ H
     replace H:z4d j6 i17 s18=some q8:=H
     unfold z4d at H
     exact zt hN Z (qd Z (za (ye _ Z Z (.inl ⟨Z,Z⟩)) (qe Z ⟨_,yx H,⟨Z,Z,Z,Z,U⟩,⟨Z,U⟩⟩)))
   ·refine fE h9 H fun H=>yu ?_
    replace H:=outl H hq8
    exact ⟨(i5,l7),H,⟨Z,Z,U⟩,⟨Z,U⟩⟩
  ·rintro ⟨i19,s20⟩ H
   replace H:z8h i19 s20=some r:=H
   unfold z8h at H
   refine zb hN Z (za (zi (.row _ _) Z) (qd Z (gE H fun h21 H=>zp (x31 (C:=zn) qv Z Z Z h21) Z (zk (x35 (C:=zn) [] qi tyZ9 Z Z Z Z Z h21) Z (zb hN Z (za (zi (.row _ _) Z) (qd Z (gE H fun h22 H=>y7m (y6r (C:=zn) 1 qv Z (w2w [] h21) Z h22) Z Z (za (wu (.row _ _) Z) (x09 4 1 900 Z Z (by rw [List.length_map]; exact (y42 h22)) Z ?_))))))))))
   refine zh ?_
   cases H
   exact ⟨U,[(4,.row 900 _)],⟨Z,U⟩,⟨Z,U⟩,Z,.inr (.inl ⟨4,Z,congrArg (Slot.row 900) (by first | exact y42 (by assumption) | (simp <;> omega))⟩)⟩
theorem y81 (a1:Bs) (b2:Bs) (r:(Bool)) (H:z1q a1 b2=some r):Fn Tryz.prog 53 [vstr a1,vstr b2] (zu [zf r]):=by
 refine ⟨by kernel_rfl,zy (us:=[zf r]) Tryz.func53 Z Z Z Z fun X hN => ?_⟩
 unfold z1q at H
 refine zb hN Z (qe Z (ze (zb hN Z (qd Z (qd Z (za (vd Z Z) (zg _ Z (fun h3 => ?_) (fun h3 => ?_))))))))
 ·refine tE h3 H fun H=>zb hN Z (qe Z (zh ?_))
  cases H
  exact ⟨U,.inl Z,U⟩
 ·refine fE h3 H fun H=>zj (zb hN Z (qd Z (bE H fun r4 h5 H=>za (zl (y84 a1 [42] r4 h5) ⟨.inl Z,.inl Z,U⟩) (qd Z (za (ya Z Z) (za (ya Z Z) (qe Z (qe Z (yb (ι:=Bool) (fun i=>[(4,.dat (zf i))]) (fun i=>[]) (fun i=>z0y i=some r) (fun i=>Z) ?_ ?_)))))))))
  ·skip
   refine zt hN Z (qd Z (qd Z (yc (j:=1) Z Z (fun h6 => ?_) (fun h6 => ?_) Z)))
   ·exact u1 h6 H fun h7 H=>zd Z Z h6 (zi (.dat _) Z) (zd Z Z h6 (zi (.dat _) Z) (bE H fun r8 h9 H=>zd Z Z h6 (zl (y33 b2 r4.1 r8 h9) ⟨.inl Z,.inl Z,U⟩) (za (zz Z (bTT h7) Z) (qe Z ⟨r8,H,⟨Z,U⟩,U⟩))))
   ·exact u2 h6 H fun h10 H=>zc Z Z h6 (zc Z Z h6 (zc Z Z h6 (za (zv Z (bFF h10) Z) (qe Z ⟨false,H,⟨Z,U⟩,U⟩))))
  ·rintro v11 H
   replace H:z0y v11=some r:=H
   unfold z0y at H
   refine zh ?_
   cases H
   exact ⟨U,.inl Z,U⟩
theorem x8l (h1:Bs) (c2:Bs) (r:(Bool)) (H:z4t h1 c2=some r):Fn Tryz.prog 52 [vstr h1,qh [[vstr c2]] 0 0] (zu [zf r]):=by
 refine ⟨by kernel_rfl,zy (us:=[zf r]) Tryz.func52 Z Z Z Z fun X hN => ?_⟩
 unfold z4t at H
 refine zb hN Z (qe Z (yb (ι:=Bool) (fun i=>[(3,.dat (zf i))]) (fun i=>[]) (fun i=>z0w i=some r) (fun i=>Z) ?_ ?_))
 ·skip
  refine zt hN Z (qd Z (za (yi tyS9 Z Z Z) (za (js Z Z) (qd Z (yc (j:=3) Z Z (fun h3 => ?_) (fun h3 => ?_) Z)))))
  ·exact u1 h3 H fun h4 H=>zd Z Z h3 (zi (.dat _) Z) (zd Z Z h3 (yi tyS9 Z Z Z) (bE H fun r5 h6 H=>zd Z Z h3 (zl (y81 h1 c2 r5 h6) ⟨.inl Z,.inl Z,U⟩) (za (zz Z (bTT h4) Z) (qe Z ⟨r5,H,⟨Z,U⟩,U⟩))))
  ·exact u2 h3 H fun h7 H=>zc Z Z h3 (zc Z Z h3 (zc Z Z h3 (za (zv Z (bFF h7) Z) (qe Z ⟨false,H,⟨Z,U⟩,U⟩))))
 ·rintro v8 H
  replace H:z0w v8=some r:=H
  unfold z0w at H
  refine zh ?_
  cases H
  exact ⟨U,.inl Z,U⟩
theorem x8m (s1:Bs) (c2:(List Bs)) (r:(Bool)) (H:z4u s1 c2=some r):Fn Tryz.prog 51 [vstr s1,qh [[vlst (List.map zn c2)]] 0 0] (zu [zf r]):=by
 refine ⟨by kernel_rfl,zy (us:=[zf r]) Tryz.func51 Z Z Z Z fun X hN => ?_⟩
 unfold z4u at H
 refine zb hN Z (zk (Qu 1 Z Z) Z (qe Z (ze (kr 1 [vstr s1] Z Z (zt hN Z (za (yi qk Z Z Z) (za (xb (us:=[_]) ⟨Z,U⟩) (bE H fun r3 h4 H=>za (zl (z9z c2 (fun (a0:Bs)=>z4t a0 s1) 52 [qh [[vstr s1]] 0 0] (fun a0 r h=>x8l a0 s1 r h) r3 h4) ⟨.inl Z,.inl Z,U⟩) (qe Z (zh ?_))))))))))
 cases H
 exact ⟨U,.inl Z,U⟩
theorem y3x (l1:(List Bs)) (r:((List Bs))) (H:Wl l1=some r):Fn Tryz.prog 23 [vlst (List.map zn l1)] (zu [vlst (List.map zn r)]):=by
 refine ⟨by kernel_rfl,zy (us:=[vlst (List.map zn r)]) Tryz.func23 Z Z Z Z fun X hN => ?_⟩
 unfold Wl at H
 refine zb hN Z (zk (Qu 1 Z Z) Z (qe Z (zb hN Z (zp (zr qk Z Z) Z (bE H fun r2 h3 H=>za (zl (y9f l1 r2 h3) ⟨.inl Z,U⟩) (zk (wl qk Z Z Z Z) Z (ze (kr 1 [vlst (List.map zn r2)] Z Z (zt hN Z (za (yi qk Z Z Z) (bE H fun r4 h5 H=>ky (rn [(900,2)]) [] [(900,_)] (y3q r2 r4 h5) ⟨Z,U⟩ ⟨.inl (.inl Z),U⟩ U Z (za (xb (us:=[_]) ⟨Z,U⟩) (bE H fun r6 h7 H=>ky (rn [(0,2),(900,3)]) [(0,_,_,none)] [(900,_)] (x72 r4 (fun (a0:Bs)=>z4u a0 r2) 51 [qh [[vlst (List.map zn r2)]] 0 0] (fun a0 r h=>x8m a0 r2 r h) r6 h7) ⟨Z,Z,U⟩ ⟨.inl (.inl Z),.inl (.inl Z),U⟩ ⟨⟨⟨Z,Z,Z⟩,U⟩,U⟩ Z (za (wu (.row _ _) Z) (zh ?_)))))))))))))))
 cases H
 exact ⟨U,Qq Z Z,U⟩
theorem y89 (s1:(List Bs)) (s2:(List Bs)) (r:(Bool)) (H:z1w s1 s2=some r):Fn Tryz.prog 13 [vlst (List.map zn s1),vlst (List.map zn s2)] (zu [zf r]):=by
 refine ⟨by kernel_rfl,zy (us:=[zf r]) Tryz.func13 Z Z Z Z fun X hN => ?_⟩
 unfold z1w at H
 refine zb hN Z (qe Z (ze (zb hN Z (qd Z (za (yo qi Z) (qd Z (za (yo qi Z) (za (ql Z Z) (zg _ Z (fun h3 => ?_) (fun h3 => ?_))))))))))
 ·refine tE h3 H fun H=>zb hN Z (qe Z (zh ?_))
  cases H
  exact ⟨U,.inl Z,U⟩
 ·refine fE h3 H fun H=>zj (ze (zb hN Z (qd Z (za (yo qi Z) (qd Z (zx (gE H fun h6 H=>wd (fun (k4:Nat) (s:Unit)=>[(0,.dat (vlst (List.map zn s1))),(1,.dat (vlst (List.map zn s2))),(12,.dat (vint (s1.length:Int))),(13,.dat (vint (k4:Int)))]) (fun (k4:Nat) (s:Unit)=>[]) () H ⟨Z,Z,Z,Z,U⟩ U (fun _ _=>Z) ?_ ?_)))))))
  ·rintro ⟨⟩ H
   replace H:y2j=some r:=H
   unfold y2j at H
   refine zb hN Z (za (zw Z Z) (ze (zg _ Z (fun h=>(lt_t h).elim) (fun h => ?_))))
   refine yu (zb hN Z (qe Z (zh ?_)))
   cases H
   exact ⟨U,.inl Z,U⟩
  ·rintro k4 x7 ⟨⟩ q5 h8 h9 H hq5
   replace H:z8g s2 k4 x7=some q5:=H
   unfold z8g at H
   refine zb hN Z (za (zw Z Z) (ze (zg _ Z (fun h => ?_) (fun h=>(lt_f h8 h).elim))))
   refine zj (ze (zx (zb hN Z (qd Z (qe Z (ze (wq mixed hN Z Z (qd Z (qd Z (za (qt qv (fun _=>Z) Z Z h9) (za (yi tyS9 Z (yp h9) Z) (qd Z (qd Z (bE H fun x10 h11 H=>za (qt qv (fun _=>Z) Z Z h11) (za (yi tyS9 Z (yp h11) Z) (za (js Z Z) ⟨Z,?_⟩))))))))))))))))
   refine zg _ Z (fun h12 => ?_) (fun h12 => ?_)
   ·refine tE h12 H fun H=>zb hN Z (qe Z (zh ?_))
    replace H:=retl H hq5
    cases H
    exact ⟨U,.inl Z,U⟩
   ·exact fE h12 H fun H=>zj (zt hN Z (za (qo Z Z (by omega)) (qd Z ⟨_,yx H,⟨Z,Z,Z,Z,U⟩,U⟩)))
theorem z9y (v1:zm) (r:(Int)) (H:Zf v1=some r):Fn Tryz.prog 18 [vagg (yn v1)] (zu [vint r]):=by
 refine ⟨by kernel_rfl,zy (us:=[vint r]) Tryz.func18 Z Z Z Z fun X hN => ?_⟩
 unfold Zf at H
 refine zb hN Z (zk (vr 1 Z) Z (qe Z (ze (yb (ι:=Bool) (fun i=>[(1,.ptr 1 0),(31,.dat (zf i))]) (fun i=>[(1,.box none 28 [.dat (vstr v1.Id),.dat (vstr v1.Subject),.dat (vstr v1.Issuer),.dat (vstr v1.Parent),.dat (vlst (List.map zn v1.Audience)),.dat (vlst (List.map zn v1.Scopes)),.dat (vint v1.From),.dat (vint v1.To)])]) (fun i=>xa v1 i=some r) (fun i=>Z) ?_ ?_))))
 ·skip
  refine zt hN Z (za (zo z0u Z) (zp (zr tyS9 Z Z) Z (bE H fun r2 h3 H=>za (zl (jx v1.Id r2 h3) ⟨.inl Z,U⟩) (za (yt Z) (qd Z (yc (j:=4) Z Z (fun h4 => ?_) (fun h4 => ?_) Z))))))
  ·refine u3 h4 H fun h5 H=>zd Z Z h4 (zo z3j Z) (vn Z Z h4 (zr tyS9 Z Z) Z (bE H fun r6 h7 H=>zd Z Z h4 (zl (jx v1.Subject r6 h7) ⟨.inl Z,U⟩) (zd Z Z h4 (yt Z) (za (zv Z (bFF h5) Z) (qd Z (yc (j:=10) Z Z (fun h8 => ?_) (fun h8 => ?_) Z))))))
   ·refine u3 h8 H fun h9 H=>zd Z Z h8 (zo z0t Z) (vn Z Z h8 (zr tyS9 Z Z) Z (bE H fun r10 h11 H=>zd Z Z h8 (zl (jx v1.Issuer r10 h11) ⟨.inl Z,U⟩) (zd Z Z h8 (yt Z) (za (zv Z (bFF h9) Z) (qd Z (yc (j:=16) Z Z (fun h12 => ?_) (fun h12 => ?_) Z))))))
    ·refine u3 h12 H fun h13 H=>zd Z Z h12 (zo Qc Z) (vn Z Z h12 (zr tyS9 Z Z) Z (zd Z Z h12 (js Z Z) (zd Z Z h12 (zi (.dat _) Z) (yc (j:=20) Z Z (fun h14 => ?_) (fun h14 => ?_) Z))))
     ·exact u1 h14 H fun h15 H=>zd Z Z h14 (zo Qc Z) (vn Z Z h14 (zr tyS9 Z Z) Z (bE H fun r16 h17 H=>zd Z Z h14 (zl (jx v1.Parent r16 h17) ⟨.inl Z,U⟩) (zd Z Z h14 (yt Z) (zd Z Z h12 (zz Z (bTT h15) Z) (za (zv Z (bFF h13) Z) ⟨!r16,H,⟨Z,Z,U⟩,⟨Z,U⟩⟩)))))
     ·exact u2 h14 H fun h18 H=>zc Z Z h14 (zc Z Z h14 (zc Z Z h14 (zc Z Z h14 (zd Z Z h12 (zv Z (bFF h18) Z) (za (zv Z (bFF h13) Z) ⟨false,H,⟨Z,Z,U⟩,⟨Z,U⟩⟩)))))
    ·exact u4 h12 H fun h19 H=>zc Z Z h12 (zc Z Z h12 (zc Z Z h12 (zc Z Z h12 (yd Z Z (yd Z Z (yd Z Z (yd Z Z (zc Z Z h12 (za (zz Z (bTT h19) Z) ⟨true,H,⟨Z,Z,U⟩,⟨Z,U⟩⟩)))))))))
   ·exact u4 h8 H fun h20 H=>zc Z Z h8 (zc Z Z h8 (zc Z Z h8 (zc Z Z h8 (za (zz Z (bTT h20) Z) (qd Z (zc Z Z Z (zc Z Z Z (zc Z Z Z (zc Z Z Z (yd Z Z (yd Z Z (yd Z Z (yd Z Z (zc Z Z Z (za (zz Z Z Z) ⟨true,H,⟨Z,Z,U⟩,⟨Z,U⟩⟩)))))))))))))))
  ·exact u4 h4 H fun h21 H=>zc Z Z h4 (zc Z Z h4 (zc Z Z h4 (zc Z Z h4 (za (zz Z (bTT h21) Z) (qd Z (zc Z Z Z (zc Z Z Z (zc Z Z Z (zc Z Z Z (za (zz Z Z Z) (qd Z (zc Z Z Z (zc Z Z Z (zc Z Z Z (zc Z Z Z (yd Z Z (yd Z Z (yd Z Z (yd Z Z (zc Z Z Z (za (zz Z Z Z) ⟨true,H,⟨Z,Z,U⟩,⟨Z,U⟩⟩)))))))))))))))))))))
 ·rintro v22 H
  replace H:xa v1 v22=some r:=H
  unfold xa at H
  refine zg _ Z (fun h23 => ?_) (fun h23 => ?_)
  ·refine tE h23 H fun H=>zb hN Z (qe Z (zh ?_))
   cases H
   exact ⟨U,.inl Z,U⟩
  ·refine fE h23 H fun H=>zj (ze (zb hN Z (za (zo xt Z) (zp (zr qk Z Z) Z (za (yo qi Z) (za (qc Z Z) (zg _ Z (fun h24 => ?_) (fun h24 => ?_))))))))
   ·refine tE h24 H fun H=>zb hN Z (qe Z (zh ?_))
    cases H
    exact ⟨U,.inl Z,U⟩
   ·refine fE h24 H fun H=>zj (ze (zb hN Z (za (zo xt Z) (zp (zr qk Z Z) Z (bE H fun r25 h26 H=>za (zl (x98 v1.Audience r25 h26) ⟨.inl Z,U⟩) (qe Z (zb hN Z (qd Z (za (ql Z Z) (zg _ Z (fun h27 => ?_) (fun h27 => ?_)))))))))))
    ·refine tE h27 H fun H=>zb hN Z (qd Z (qe Z (zh ?_)))
     cases H
     exact ⟨U,.inl Z,U⟩
    ·refine fE h27 H fun H=>zj (ze (zb hN Z (za (zo xr Z) (zp (zr qk Z Z) Z (bE H fun r28 h29 H=>za (zl (z9x v1.Scopes r28 h29) ⟨.inl Z,U⟩) (qe Z (zb hN Z (qd Z (za (ql Z Z) (zg _ Z (fun h30 => ?_) (fun h30 => ?_)))))))))))
     ·refine tE h30 H fun H=>zb hN Z (qd Z (qe Z (zh ?_)))
      cases H
      exact ⟨U,.inl Z,U⟩
     ·refine fE h30 H fun H=>zj (ze (ze (wq mixed hN Z Z (za (zo xr Z) (zp (zr qk Z Z) Z (za (zo xr Z) (zp (zr qk Z Z) Z (bE H fun r31 h32 H=>za (zl (y3x v1.Scopes r31 h32) ⟨.inl Z,U⟩) (bE H fun r33 h34 H=>za (zl (y89 v1.Scopes r31 r33 h34) ⟨.inl Z,.inl Z,U⟩) (za (yt Z) ⟨Z,?_⟩))))))))))
      refine zg _ Z (fun h35 => ?_) (fun h35 => ?_)
      ·refine tE h35 H fun H=>zb hN Z (qe Z (zh ?_))
       cases H
       exact ⟨U,.inl Z,U⟩
      ·refine fE h35 H fun H=>zj (ze (zb hN Z (za (zo ux Z) (zp (zr tyS3 Z Z) Z (za (zw Z Z) (qd Z (yg Z Z (fun hc=>zo ux Z) (kf Z Z (fun hc=>zr tyS3 (cnd (c:=(!(decide (v1.From < 0)))) hc) Z) Z jl (yg Z Z (fun hc=>zo uw Z) (kf Z Z (fun hc=>zr tyS3 (cnd (c:=(!(decide (v1.From < 0)))) hc) Z) Z jl (yg Z Z (fun hc=>wy (cnd (c:=(!(decide (v1.From < 0)))) hc) (cnd (c:=(!(decide (v1.From < 0)))) hc)) (za (ve Z Z (fun hb=>(cnd (c:=(!(decide (v1.From < 0)))) (notI hb)))) (qd Z (yg Z Z (fun hc=>zo uw Z) (kf Z Z (fun hc=>zr tyS3 (cnd (c:=(!((decide (v1.From < 0)) || (decide (v1.To≤v1.From))))) hc) Z) Z jl (yg Z Z (fun hc=>qc (cnd (c:=(!((decide (v1.From < 0)) || (decide (v1.To≤v1.From))))) hc) Z) (za (ve Z Z (fun hb=>(cnd (c:=(!((decide (v1.From < 0)) || (decide (v1.To≤v1.From))))) (notI hb)))) (zg _ Z (fun h36 => ?_) (fun h36 => ?_)))))))))))))))))))
       ·refine tE h36 H fun H=>zb hN Z (qe Z (zh ?_))
        cases H
        exact ⟨U,.inl Z,U⟩
       ·refine fE h36 H fun H=>zj (zb hN Z (qe Z (zh ?_)))
        cases H
        exact ⟨U,.inl Z,U⟩
theorem x8q (h1:Bs) (c2:Bs) (r:(Bool)) (H:z4y h1 c2=some r):Fn Tryz.prog 86 [vstr h1,qh [[vstr c2]] 0 0] (zu [zf r]):=by
 refine ⟨by kernel_rfl,zy (us:=[zf r]) Tryz.func86 Z Z Z Z fun X hN => ?_⟩
 unfold z4y at H
 refine zb hN Z (qe Z (zb hN Z (qd Z (za (yi tyS9 Z Z Z) (bE H fun r3 h4 H=>za (zl (y81 h1 c2 r3 h4) ⟨.inl Z,.inl Z,U⟩) (qe Z (zh ?_)))))))
 cases H
 exact ⟨U,.inl Z,U⟩
theorem x8r (l1:(List Bs)) (s2:Bs) (r:(Bool)) (H:z4z l1 s2=some r):Fn Tryz.prog 48 [vlst (List.map zn l1),vstr s2] (zu [zf r]):=by
 refine ⟨by kernel_rfl,zy (us:=[zf r]) Tryz.func48 Z Z Z Z fun X hN => ?_⟩
 unfold z4z at H
 refine zb hN Z (zk (Qu 1 Z Z) Z (qe Z (ze (kr 1 [vstr s2] Z Z (zt hN Z (qd Z (za (xb (us:=[_]) ⟨Z,U⟩) (bE H fun r3 h4 H=>za (zl (z9z l1 (fun (a0:Bs)=>z4y a0 s2) 86 [qh [[vstr s2]] 0 0] (fun a0 r h=>x8q a0 s2 r h) r3 h4) ⟨.inl Z,.inl Z,U⟩) (qe Z (zh ?_))))))))))
 cases H
 exact ⟨U,.inl Z,U⟩
theorem x8s (s1:Bs) (c2:(List Bs)) (r:(Bool)) (H:z40 s1 c2=some r):Fn Tryz.prog 47 [vstr s1,qh [[vlst (List.map zn c2)]] 0 0] (zu [zf r]):=by
 refine ⟨by kernel_rfl,zy (us:=[zf r]) Tryz.func47 Z Z Z Z fun X hN => ?_⟩
 unfold z40 at H
 refine zb hN Z (qe Z (zb hN Z (za (yi qk Z Z Z) (qd Z (bE H fun r3 h4 H=>za (zl (x8r c2 s1 r3 h4) ⟨.inl Z,.inl Z,U⟩) (za (yt Z) (qe Z (zh ?_))))))))
 cases H
 exact ⟨U,.inl Z,U⟩
theorem y82 (v1:(List Bs)) (want2:(List Bs)) (r:(Bool)) (H:z1r v1 want2=some r):Fn Tryz.prog 21 [vlst (List.map zn v1),vlst (List.map zn want2)] (zu [zf r]):=by
 refine ⟨by kernel_rfl,zy (us:=[zf r]) Tryz.func21 Z Z Z Z fun X hN => ?_⟩
 unfold z1r at H
 refine zb hN Z (zk (Qu 1 Z Z) Z (qe Z (ze (kr 1 [vlst (List.map zn v1)] Z Z (zt hN Z (qd Z (za (xb (us:=[_]) ⟨Z,U⟩) (bE H fun r3 h4 H=>za (zl (z9z want2 (fun (a0:Bs)=>z40 a0 v1) 47 [qh [[vlst (List.map zn v1)]] 0 0] (fun a0 r h=>x8s a0 v1 r h) r3 h4) ⟨.inl Z,.inl Z,U⟩) (za (yt Z) (qe Z (zh ?_)))))))))))
 cases H
 exact ⟨U,.inl Z,U⟩
theorem x84 (v1:zm) (v2:Bs) (v3:Bs) (v4:(List Bs)) (v5:jm) (r:(zm×Int)) (H:z48 v1 v2 v3 v4 v5=some r):Fn Tryz.prog 5 [vagg (yn v1),vstr v2,vstr v3,vlst (List.map zn v4),vagg (x1k v5)] (zu [vagg (yn r.1),vint r.2]):=by
 refine ⟨by kernel_rfl,zy (us:=[vagg (yn r.1),vint r.2]) Tryz.func5 Z Z Z Z fun X hN => ?_⟩
 unfold z48 at H
 refine zb hN Z (zk (vr 1 Z) Z (zk (vr 2 Z) Z (zk (qr 3 qx Z) Z (qe Z (ze (zb hN Z (zp (vh yk Z Z Z) Z (bE H fun r6 h7 H=>za (zl (z9y v1 r6 h7) ⟨.inl Z,U⟩) (qe Z (zb hN Z (qd Z (za (ql Z Z) (zg _ Z (fun h8 => ?_) (fun h8 => ?_))))))))))))))
 ·refine tE h8 H fun H=>zb hN Z (za (qy (u':=vagg (yn (zm.mk [] [] [] [] [] [] 0 0))) (wc (by exact ⟨zq,zq,zq,zq,yq,yq,zq,zq,U⟩)) (qf [] qx vm Z U)) ?_)
  refine qd Z (zk (ym yk Z Z Z Z) Z (qe Z (zh ?_)))
  cases H
  exact ⟨U,.inl ⟨_,_,_,yn (zm.mk [] [] [] [] [] [] 0 0),Z,Z,Z,Z,yk⟩,.inl Z,U⟩
 ·refine fE h8 H fun H=>zj (ze (zb hN Z (qd Z (bE H fun r9 h10 H=>za (zl (z9x v4 r9 h10) ⟨.inl Z,U⟩) (qe Z (zb hN Z (qd Z (za (ql Z Z) (zg _ Z (fun h11 => ?_) (fun h11 => ?_))))))))))
  ·refine tE h11 H fun H=>zb hN Z (za (qy (u':=vagg (yn (zm.mk [] [] [] [] [] [] 0 0))) (wc (by exact ⟨zq,zq,zq,zq,yq,yq,zq,zq,U⟩)) (qf [] qx vm Z U)) ?_)
   refine qd Z (zk (ym yk Z Z Z Z) Z (qe Z (zh ?_)))
   cases H
   exact ⟨U,.inl ⟨_,_,_,yn (zm.mk [] [] [] [] [] [] 0 0),Z,Z,Z,Z,yk⟩,.inl Z,U⟩
  ·refine fE h11 H fun H=>zj (ze (zx (yb (ι:=Bool) (fun i=>[(1,.dat (vstr v2)),(2,.dat (vstr v3)),(3,.dat (vlst (List.map zn v4))),(5,.ptr 1 0),(9,.ptr 2 0),(10,.ptr 3 0),(28,.dat (zf i))]) (fun i=>[(1,.box none 28 [.dat (vstr v1.Id),.dat (vstr v1.Subject),.dat (vstr v1.Issuer),.dat (vstr v1.Parent),.dat (vlst (List.map zn v1.Audience)),.dat (vlst (List.map zn v1.Scopes)),.dat (vint v1.From),.dat (vint v1.To)]),(2,.box none 42 [.dat (vint v5.From),.dat (vint v5.To)]),(3,.box none 28 [.dat (vstr []),.dat (vstr []),.dat (vstr []),.dat (vstr []),.dat (vnil),.dat (vnil),.dat (vint 0),.dat (vint 0)])]) (fun i=>Qk v1 v2 v3 v4 v5 i=some r) (fun i=>Z) ?_ ?_)))
   ·skip
    refine zt hN Z (qd Z (bE H fun r12 h13 H=>za (zl (jx v2 r12 h13) ⟨.inl Z,U⟩) (za (yt Z) (qd Z (yc (j:=3) Z Z (fun h14 => ?_) (fun h14 => ?_) Z)))))
    ·exact u3 h14 H fun h15 H=>zd Z Z h14 (zi (.dat _) Z) (bE H fun r16 h17 H=>zd Z Z h14 (zl (jx v3 r16 h17) ⟨.inl Z,U⟩) (zd Z Z h14 (yt Z) (za (zv Z (bFF h15) Z) (qe Z ⟨!r16,H,⟨Z,Z,Z,Z,Z,Z,Z,U⟩,⟨Z,Z,Z,U⟩⟩))))
    ·exact u4 h14 H fun h18 H=>zc Z Z h14 (zc Z Z h14 (zc Z Z h14 (za (zz Z (bTT h18) Z) (qe Z ⟨true,H,⟨Z,Z,Z,Z,Z,Z,Z,U⟩,⟨Z,Z,Z,U⟩⟩))))
   ·rintro v19 H
    replace H:Qk v1 v2 v3 v4 v5 v19=some r:=H
    unfold Qk at H
    refine zg _ Z (fun h20 => ?_) (fun h20 => ?_)
    ·refine tE h20 H fun H=>zb hN Z (za (qy (u':=vagg (yn (zm.mk [] [] [] [] [] [] 0 0))) (wc (by exact ⟨zq,zq,zq,zq,yq,yq,zq,zq,U⟩)) (qf [] qx vm Z U)) ?_)
     refine zk (ym yk Z Z Z Z) Z (qe Z (zh ?_))
     cases H
     exact ⟨U,.inl ⟨_,_,_,yn (zm.mk [] [] [] [] [] [] 0 0),Z,Z,Z,Z,yk⟩,.inl Z,U⟩
    ·refine fE h20 H fun H=>zb hN Z (qd Z (za (zo z0u Z) (zp (zr tyS9 Z Z) Z (za (vd Z Z) (qe Z (zg _ Z (fun h21 => ?_) (fun h21 => ?_)))))))
     ·refine tE h21 H fun H=>zb hN Z (za (qy (u':=vagg (yn (zm.mk [] [] [] [] [] [] 0 0))) (wc (by exact ⟨zq,zq,zq,zq,yq,yq,zq,zq,U⟩)) (qf [] qx vm Z U)) ?_)
      refine zk (ym yk Z Z Z Z) Z (qe Z (zh ?_))
      cases H
      exact ⟨U,.inl ⟨_,_,_,yn (zm.mk [] [] [] [] [] [] 0 0),Z,Z,Z,Z,yk⟩,.inl Z,U⟩
     ·refine fE h21 H fun H=>zb hN Z (za (zo xr Z) (zp (zr qk Z Z) Z (qd Z (bE H fun r22 h23 H=>za (zl (y82 v1.Scopes v4 r22 h23) ⟨.inl Z,.inl Z,U⟩) (za (yt Z) (qe Z (zg _ Z (fun h24 => ?_) (fun h24 => ?_))))))))
      ·refine tE h24 H fun H=>zb hN Z (za (qy (u':=vagg (yn (zm.mk [] [] [] [] [] [] 0 0))) (wc (by exact ⟨zq,zq,zq,zq,yq,yq,zq,zq,U⟩)) (qf [] qx vm Z U)) ?_)
       refine zk (ym yk Z Z Z Z) Z (qe Z (zh ?_))
       cases H
       exact ⟨U,.inl ⟨_,_,_,yn (zm.mk [] [] [] [] [] [] 0 0),Z,Z,Z,Z,yk⟩,.inl Z,U⟩
      ·refine fE h24 H fun H=>zb hN Z (za (zo y56 Z) (zp (zr tyS3 Z Z) Z (za (zo ux Z) (zp (zr tyS3 Z Z) Z (za (zw Z Z) (qd Z (yg Z Z (fun hc=>zo y55 Z) (kf Z Z (fun hc=>zr tyS3 (cnd (c:=(!(decide (v5.From < v1.From)))) hc) Z) Z jl (yg Z Z (fun hc=>zo uw Z) (kf Z Z (fun hc=>zr tyS3 (cnd (c:=(!(decide (v5.From < v1.From)))) hc) Z) Z jl (yg Z Z (fun hc=>qc (cnd (c:=(!(decide (v5.From < v1.From)))) hc) (cnd (c:=(!(decide (v5.From < v1.From)))) hc)) (za (ve Z Z (fun hb=>(cnd (c:=(!(decide (v5.From < v1.From)))) (notI hb)))) (qe Z (zg _ Z (fun h25 => ?_) (fun h25 => ?_)))))))))))))))
       ·refine tE h25 H fun H=>zb hN Z (za (qy (u':=vagg (yn (zm.mk [] [] [] [] [] [] 0 0))) (wc (by exact ⟨zq,zq,zq,zq,yq,yq,zq,zq,U⟩)) (qf [] qx vm Z U)) ?_)
        refine zk (ym yk Z Z Z Z) Z (qe Z (zh ?_))
        cases H
        exact ⟨U,.inl ⟨_,_,_,yn (zm.mk [] [] [] [] [] [] 0 0),Z,Z,Z,Z,yk⟩,.inl Z,U⟩
       ·refine fE h25 H fun H=>zj (ze (wq mixed hN Z Z (qd Z (qd Z (za (zo z0t Z) (zp (zr tyS9 Z Z) Z (za (zo z0u Z) (zp (zr tyS9 Z Z) Z (za (zo xt Z) (zp (zr qk Z Z) Z (bE H fun r26 h27 H=>za (zl (x9r v1.Audience r26 h27) ⟨.inl Z,U⟩) (qd Z (bE H fun r28 h29 H=>za (zl (y3x v4 r28 h29) ⟨.inl Z,U⟩) (za (zo y56 Z) (zp (zr tyS3 Z Z) Z (za (zo y55 Z) (zp (zr tyS3 Z Z) Z (za (yf (u':=vagg (yn (zm.mk v2 v3 v1.Issuer v1.Id r26 r28 v5.From v5.To))) (qf [(0,[vstr v2]),(1,[vstr v3]),(2,[vstr v1.Issuer]),(3,[vstr v1.Id]),(4,[vlst (List.map zn r26)]),(5,[vlst (List.map zn r28)]),(6,[vint v5.From]),(7,[vint v5.To])] qx vm Z ⟨Z,.inl ⟨_,Z,Z,Z⟩,Z,Z,.inl ⟨_,Z,Z,Z⟩,Z,Z,.inl ⟨_,Z,Z,Z⟩,Z,Z,.inl ⟨_,Z,Z,Z⟩,Z,Z,.inl ⟨_,Z,Z,Z⟩,Z,Z,.inl ⟨_,Z,Z,Z⟩,Z,Z,.inl ⟨_,Z,Z,Z⟩,Z,Z,.inl ⟨_,Z,Z,Z⟩,Z,U⟩) Z) (zk (qr 4 qx Z) Z (zk (ym yk Z Z Z Z) Z ?_))))))))))))))))))))
        refine ⟨Z,?_⟩
        refine ze (zb hN Z (zp (vh yk Z Z Z) Z (bE H fun r30 h31 H=>za (zl (z9y (zm.mk v2 v3 v1.Issuer v1.Id r26 r28 v5.From v5.To) r30 h31) ⟨.inl Z,U⟩) (qe Z (zb hN Z (qd Z (za (ql Z Z) (zg _ Z (fun h32 => ?_) (fun h32 => ?_)))))))))
        ·refine tE h32 H fun H=>zb hN Z (za (qy (u':=vagg (yn (zm.mk [] [] [] [] [] [] 0 0))) (wc (by exact ⟨zq,zq,zq,zq,yq,yq,zq,zq,U⟩)) (qf [] qx vm Z U)) ?_)
         refine qd Z (zk (ym yk Z Z Z Z) Z (qe Z (zh ?_)))
         cases H
         exact ⟨U,.inl ⟨_,_,_,yn (zm.mk [] [] [] [] [] [] 0 0),Z,Z,Z,Z,yk⟩,.inl Z,U⟩
        ·refine fE h32 H fun H=>zj (zb hN Z (zp (vh yk Z Z Z) Z (zk (ym yk Z Z Z Z) Z (qe Z (zh ?_)))))
         cases H
         exact ⟨U,.inl ⟨_,_,_,yn (zm.mk v2 v3 v1.Issuer v1.Id r26 r28 v5.From v5.To),Z,Z,Z,Z,yk⟩,.inl Z,U⟩
end Go.Proofs.YtbndlmnjeofkdadGreatDoor
