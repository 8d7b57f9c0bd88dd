/- Walks along the models. Printed by a program. -/
import Derived.Test.YtbndlmnjeofkdacGreatDoorZtw4
namespace Go.Proofs.YtbndlmnjeofkdacGreatDoor
open Go.RowKit
set_option linter.unusedVariables false
set_option maxRecDepth 100000
set_option maxHeartbeats 2000000
theorem x8c (v1:yh) (v2:(List zq)) (v3:Int) (r:(jx×(List Int))) (H:z1v v1 v2 v3=some r):Fn Tryz.prog 25 [vagg (jo v1),vlst (List.map yy v2),vint v3] (zr [wt [[vmpG Zd r.1.subs_,vmpG Zc r.1.asks_]] 0 0,vlst (List.map wi r.2)]):=by
 refine ⟨by kernel_rfl,zx (us:=[wt [[vmpG Zd r.1.subs_,vmpG Zc r.1.asks_]] 0 0,vlst (List.map wi r.2)]) Tryz.func25 Z Z Z Z fun X hN => ?_⟩
 unfold z1v at H
 refine zb hN Z (zj (qu 1 Z) Z (qe Z (qe Z (zb hN Z (zj (x5q 2 y1m) Z (zj (x5q 3 x4b) Z (za (w3m (s' := .comp false [.mp 2,.mp 3]) (w4o [] [(0,[.mp 2]),(1,[.mp 3])] w08 w1m Z ⟨Z,.inr (.inr ⟨_,Z,Z⟩),Z,Z,.inr (.inr ⟨_,Z,Z⟩),Z,U⟩) Z) (zj (w4p 4 Z) Z (za (wm (.ptr _ _) Z) (zb hN Z (qe Z (yc (ι:=(List Int)×(List (yt×Int))×(List (yt×zz))) (fun i=>[(8,.ptr 4 0),(9,.row 5 i.1.length)]) (fun i=>[(2,.opq none (ub Zd i.2.2)),(3,.opq none (ub Zc i.2.1)),(4,.box none 131 [.mp 2,.mp 3]),(5,.row 3 1 (List.map wi i.1))]) (fun i=>z06 i.1 i.2.1 i.2.2=some r) (fun i=>Z) ?_ ?_))))))))))))
 ·skip
  refine zb hN Z (qd Z (za (yk Ze Z) (qd Z (zu (uy 9 5 3 1 Z Z Z (gE H fun h9 H=>qq (fun (k7:Nat) (s:(List (yt×zz))×(List (yt×Int))×(List Int))=>[(2,.dat (vint v3)),(3,.ptr 1 0),(8,.ptr 4 0),(9,.row 5 s.2.2.length),(19,.dat (vlst (List.map yy v2))),(20,.dat (vint (v2.length:Int))),(21,.dat (vint (k7:Int)))]) (fun (k7:Nat) (s:(List (yt×zz))×(List (yt×Int))×(List Int))=>[(1,.box none 29 [.dat (vlst (List.map wb v1.Products)),.dat (vlst (List.map wj v1.Plans))]),(2,.opq none (ub Zd s.1)),(3,.opq none (ub Zc s.2.1)),(4,.box none 131 [.mp 2,.mp 3]),(5,.row 3 1 (List.map wi s.2.2))]) ([],[],[]) H ⟨Z,Z,Z,Z,Z,Z,Z,U⟩ ⟨Z,Z,Z,Z,Z,U⟩ (fun _ _=>Z) ?_ ?_))))))
  ·rintro ⟨m4,m5,l6⟩ H
   replace H:z3q m4 m5 l6=some r:=H
   unfold z3q at H
   refine zb hN Z (za (zw Z Z) (zd (zf _ Z (fun h=>(lt_t h).elim) (fun h => ?_))))
   exact yp ⟨(l6,m5,m4),H,⟨Z,Z,U⟩,⟨Z,Z,Z,Z,U⟩⟩
  ·rintro k7 x10 ⟨m4,m5,l6⟩ q8 h11 h12 H hq8
   replace H:Qb v1 v3 k7 x10 m4 m5 l6=some q8:=H
   unfold Qb at H
   refine zb hN Z (za (zw Z Z) (zd (zf _ Z (fun h => ?_) (fun h=>(lt_f h11 h).elim))))
   refine zl (yc (ι:=(List Int)×(List (yt×Int))×(List (yt×zz))) (fun i=>[(2,.dat (vint v3)),(3,.ptr 1 0),(8,.ptr 4 0),(9,.row 5 i.1.length),(19,.dat (vlst (List.map yy v2))),(20,.dat (vint (v2.length:Int))),(21,.dat (vint (k7:Int)))]) (fun i=>[(1,.box none 29 [.dat (vlst (List.map wb v1.Products)),.dat (vlst (List.map wj v1.Plans))]),(2,.opq none (ub Zd i.2.2)),(3,.opq none (ub Zc i.2.1)),(4,.box none 131 [.mp 2,.mp 3]),(5,.row 3 1 (List.map wi i.1))]) (fun i=>z05 i.1 i.2.1 i.2.2=some q8) (fun i=>Z) ?_ ?_)
   ·skip
    refine zu (zb hN Z (qd Z (za (qp ju (fun _=>Z) Z Z h12) (za (vg vx Z (ym h12) Z) (zj (qm 6 z0k Z) Z (qe Z (zj (yo vx Z Z Z Z) Z (zd (zb hN Z (za (zn kg Z) (zm (zp tyS3 Z Z) Z (qd Z (za (qh Z Z) (zf _ Z (fun h13 => ?_) (fun h13 => ?_)))))))))))))))
    ·refine tE h13 H fun H=>yp ?_
     replace H:=outl H hq8
     exact ⟨(l6,m5,m4),H,⟨Z,Z,U⟩,⟨Z,Z,Z,Z,U⟩⟩
    ·refine fE h13 H fun H=>zl (zd (wg mixed hN Z Z (zm (qc vj Z Z Z) Z (za (zh (.ptr _ _) Z) (za (zn xp Z) (zm (zp tyS9 Z Z) Z (za (zn uo Z) (zm (zp tyS9 Z Z) Z (bE H fun r14 h15 H=>kq (rn [(0,4),(2,2),(3,3),(10,7)]) [(0,_,_,some _),(2,_,_,some _),(3,_,_,some _)] [(10,_)] (w7h (jx.mk m4 m5) x10.App x10.Product r14 h15) ⟨Z,Z,Z,Z,U⟩ ⟨.inl (.inl Z),.inl (.inl Z),.inl (.inl Z),U⟩ ⟨⟨⟨Z,Z⟩,U⟩,⟨Z,U⟩,⟨Z,U⟩,U⟩ Z (zm (qc vx Z Z Z) Z (bE H fun r16 h17 H=>za (zo (w9t v1 r14 x10 r16 h17) ⟨.inl Z,.inl Z,.inl Z,U⟩) (qd Z (za (ye Z Z) (za (ye Z Z) (zj (qm 8 jz Z) Z (zj (yo qn Z Z Z Z) Z (qe Z ⟨Z,?_⟩)))))))))))))))))
     refine zd (zb hN Z (qd Z (za (yv Z) (zf _ Z (fun h18 => ?_) (fun h18 => ?_)))))
     ·refine tE h18 H fun H=>zb hN Z (za (zh (.row _ _) Z) (qd Z (za (yg (u':=vlst (List.map wi [(k7:Int)])) (qy [[_]] kf ⟨Z,.inl ⟨_,Z,Z,Z⟩,Z,U⟩ Z Z) Z) (gE H fun h19 H=>zj (ko kf (fun _=>Z) Z Z Z ⟨by simp,by first | (simp; done) | simpa using h19⟩ Z) Z ?_))))
      exact za (wm (.row _ _) Z) (yp ⟨((l6++[(k7:Int)]),m5,m4),H,⟨Z,Z,Z,Z,Z,Z,Z,U⟩,⟨Z,Z,Z,Z,Z,U⟩⟩)
     ·refine fE h18 H fun H=>zl (zb hN Z (za (zn xp Z) (zm (zp tyS9 Z Z) Z (za (zn uo Z) (zm (zp tyS9 Z Z) Z (za (yg (u':=vagg (y05 (yt.mk x10.App x10.Product))) (qv [(0,[vstr x10.App]),(1,[vstr x10.Product])] y1f y6x Z ⟨Z,.inl ⟨_,Z,Z,Z⟩,Z,Z,.inl ⟨_,Z,Z,Z⟩,Z,U⟩) Z) (zj (qm 9 y1f Z) Z (zj (yo y6u Z Z Z Z) Z (zd (wg mixed hN Z Z (za (zh (.ptr _ _) Z) (za (wq Z) (za (zn y7c Z) (zm (zp y6v Z Z) Z (zm (qc y6u Z Z Z) Z (zm (qc qn Z Z Z) Z (gE H fun h20 H=>zj (x5o (yt.mk x10.App x10.Product) r16.1 y1m Z Z Z h20) Z ⟨Z,?_⟩)))))))))))))))))
      refine zb hN Z (za (zn jt Z) (zm (zp tyS3 Z Z) Z (za (yn Z Z) (zf _ Z (fun h21 => ?_) (fun h21 => ?_)))))
      ·refine tE h21 H fun H=>wg mixed hN Z Z (za (zh (.ptr _ _) Z) (za (wq Z) (za (zn w2c Z) (zm (zp w1e Z Z) Z (zm (qc y6u Z Z Z) Z (qd Z (gE H fun h22 H=>zj (x5o (yt.mk x10.App x10.Product) (k7:Int) x4b Z Z Z h22) Z ⟨Z,?_⟩)))))))
       exact ⟨(l6,(ptG m5 (yt.mk x10.App x10.Product) (k7:Int)),(ptG m4 (yt.mk x10.App x10.Product) r16.1)),H,⟨Z,Z,Z,Z,Z,Z,Z,U⟩,⟨Z,Z,Z,Z,Z,U⟩⟩
      ·exact fE h21 H fun H=>zl ⟨(l6,m5,(ptG m4 (yt.mk x10.App x10.Product) r16.1)),H,⟨Z,Z,Z,Z,Z,Z,Z,U⟩,⟨Z,Z,Z,Z,Z,U⟩⟩
   ·rintro ⟨v23,m24,m25⟩ H
    replace H:z05 v23 m24 m25=some q8:=H
    unfold z05 at H
    exact zk hN Z (za (qi Z Z (by omega)) (qd Z ⟨_,yw H,⟨Z,Z,Z,Z,Z,Z,Z,U⟩,⟨Z,Z,Z,Z,Z,U⟩⟩))
 ·rintro ⟨v26,m27,m28⟩ H
  replace H:z06 v26 m27 m28=some r:=H
  unfold z06 at H
  refine zb hN Z (za (zh (.ptr _ _) Z) (za (zh (.row _ _) Z) (za (wm (.ptr _ _) Z) (za (wm (.row _ _) Z) (w0c 4 0 2 x64 Z Z Z (w0c 4 1 3 x64 Z Z Z (xk 4 [vmpG Zd m28,vmpG Zc m27] Z Z (zg ?_))))))))
  cases H
  exact ⟨U,.inl Z,Yx Z Z,U⟩
theorem x7s (l r:List Bs) (H:Wr l=some r):FnG Tryz.prog 123 [.dat (vlst (List.map zt l))] [] (.row 900 r.length) [(900,.row 9 1 (List.map zt r))]:=by
 obtain ⟨hl,rfl⟩:=v4v H
 refine Zs (by kernel_rfl) Tryz.func123 Z Z Z Z fun X A hN => ?_
 refine v5l 0 Z (fun h0 => ?_) ?_
 ·obtain rfl:=List.map_eq_nil_iff.1 h0
  refine zb hN Z (qe Z (zd (zb hN Z (qd Z (za (w4g qr Z) (zf _ Z (fun h => ?_) (fun h=>by cases h)))))))
  exact zb hN Z (qe Z (uy 2 900 9 1 Z Z Z (zg ⟨U,[(2,.row 900 0)],⟨Z,U⟩,⟨Z,U⟩,Z,.inr (.inl ⟨2,Z,Z⟩)⟩)))
 ·refine zb hN Z (qe Z (zd (zb hN Z (qd Z (za (w4h qr Z) (zf _ Z (fun h=>by cases h) (fun h => ?_)))))))
  refine zl (zd (v5k 0 (u':=vlst (List.map zt l)) Z w0s (zk hN Z (zj (w33 900 vn) Z (qd Z (zj (y7z (C:=zt) (xs:=[]) vn (fun _=>Z) Z Z Z (by simpa using hl) Z) Z ?_))))))
  exact za (wm (.row _ _) Z) (zg ⟨U,[(2,.row 900 l.length)],⟨Z,U⟩,⟨Z,U⟩,Z,.inr (.inl ⟨2,Z,Z⟩)⟩)
theorem w7j (l r:List Bs) (H:Yd l=some r):FnG Tryz.prog 176 [.row 0 l.length] [(0,.rowA undef 9 1 (List.map zt l))] (.dat (zr [])) [(0,.rowA undef 9 1 (List.map zt r))]:=by
 obtain ⟨hl,hr⟩:=x55 H
 refine v3d (fun s:Bs=>Value.string ⟨s.toArray⟩) r l (y75 H) (by kernel_rfl) (fun _=>Z) (fun blk cap w hH hb => ?_) (fun h w => ?_)
 ·rw [hr]; exact Tryz.slices_Sort_string blk 0 cap l w hH hb (by omega)
 ·exact Tryz.slices_Sort_string_none none 0 w
theorem w7m (l r:List Bs) (H:z1r l=some r):FnG Tryz.prog 177 [.row 0 l.length] [(0,.row 9 1 (List.map zt l))] (.row 900 r.length) [(900,.row 9 1 (List.map zt r))]:=by
 obtain ⟨h1,rfl⟩:=v4n H
 exact v3f (fun s:Bs=>Value.string ⟨s.toArray⟩) [] (Lib.compact l) l (x93 l) (by kernel_rfl) (fun _=>Z) (fun blk cap w hH hc=>Tryz.slices_Compact_string blk 0 cap l w hH (by omega) hc) (fun h a cap w=>Tryz.slices_Compact_string_empty a cap w)
theorem x8j (l1:(List Bs)) (r:((List Bs))) (H:z10 l1=some r):Fn Tryz.prog 121 [vlst (List.map zt l1)] (zr [vlst (List.map zt r)]):=by
 refine ⟨by kernel_rfl,zx (us:=[vlst (List.map zt r)]) Tryz.func121 Z Z Z Z fun X hN => ?_⟩
 unfold z10 at H
 refine zb hN Z (qe Z (zb hN Z (qd Z (bE H fun r2 h3 H=>kq (rn [(900,1)]) [] [(900,_)] (x7s l1 r2 h3) ⟨Z,U⟩ ⟨.inl (.inl Z),U⟩ U Z (za (wm (.row _ _) Z) (zb hN Z (za (zh (.row _ _) Z) (bE H fun r4 h5 H=>kq (rn [(0,1)]) [(0,_,_,some _)] [] (w7j r2 r4 h5) ⟨Z,U⟩ ⟨.inl (.inl Z),U⟩ ⟨⟨⟨Z,Z,Z⟩,by simp [Yb,y75 h5]⟩,U⟩ Z ?_))))))))
 refine zb hN Z (za (zh (.row _ _) Z) (bE H fun r6 h7 H=>kq (rn [(0,1),(900,2)]) [(0,_,_,none)] [(900,_)] (w7m r4 r6 h7) ⟨Z,Z,U⟩ ⟨.inl (.inl (congrArg (Slot.row 1) (y75 h5).symm)),U⟩ ⟨⟨⟨Z,Z,Z⟩,U⟩,U⟩ Z (za (wm (.row _ _) Z) (zg ?_))))
 cases H
 exact ⟨U,Yx Z Z,U⟩
theorem x74 (s1:(List Bs)) (p1:Bs→Option (Bool)) (fv1:Nat) (us1:List V) (hp1:∀ a0 r,p1 a0=some r→Fn Tryz.prog fv1 ([vstr a0]++us1) (zr [zi r])) (r:(Int)) (H:y30 s1 p1=some r):Fn Tryz.prog 152 [vlst (List.map zt s1),vfn fv1 us1] (zr [vint r]):=by
 refine ⟨by kernel_rfl,zx (us:=[vint r]) Tryz.func152 Z Z Z Z fun X hN => ?_⟩
 unfold y30 at H
 refine zb hN Z (qe Z (zd (zb hN Z (qd Z (za (yk qr Z) (qd Z (zu (gE H fun h4 H=>qq (fun (k2:Nat) (s:Unit)=>[(0,.dat (vlst (List.map zt s1))),(1,.dat (vfn fv1 us1)),(7,.dat (vint (s1.length:Int))),(8,.dat (vint (k2:Int)))]) (fun (k2:Nat) (s:Unit)=>[]) () H ⟨Z,Z,Z,Z,U⟩ U (fun _ _=>Z) ?_ ?_))))))))
 ·rintro ⟨⟩ H
  replace H:y8e=some r:=H
  unfold y8e at H
  refine zb hN Z (za (zw Z Z) (zd (zf _ Z (fun h=>(lt_t h).elim) (fun h => ?_))))
  refine yp (zb hN Z (qe Z (zg ?_)))
  cases H
  exact ⟨U,.inl Z,U⟩
 ·rintro k2 x5 ⟨⟩ q3 h6 h7 H hq3
  replace H:y8d p1 k2 x5=some q3:=H
  unfold y8d at H
  refine zb hN Z (za (zw Z Z) (zd (zf _ Z (fun h => ?_) (fun h=>(lt_f h6 h).elim))))
  refine zl (zd (zu (zb hN Z (qd Z (qe Z (zb hN Z (qd Z (qd Z (qd Z (za (qp wv (fun _=>Z) Z Z h7) (za (yr tyS9 Z (ym h7) Z) (bE H fun r8 h9 H=>za (kz (hp1 x5 r8 h9) Z ⟨.inl Z,U⟩) (zf _ Z (fun h10 => ?_) (fun h10 => ?_))))))))))))))
  ·refine tE h10 H fun H=>zb hN Z (qd Z (qe Z (zg ?_)))
   replace H:=retl H hq3
   cases H
   exact ⟨U,.inl Z,U⟩
  ·exact fE h10 H fun H=>zl (zk hN Z (za (qi Z Z (by omega)) (qd Z ⟨_,yw H,⟨Z,Z,Z,Z,U⟩,U⟩)))
theorem w7l (s1:(List Bs)) (p1:Bs→Option (Bool)) (fv1:Nat) (us1:List V) (hp1:∀ a0 r,p1 a0=some r→Fn Tryz.prog fv1 ([vstr a0]++us1) (zr [zi r])) (r:((List Bs))) (H:y35 s1 p1=some r):FnG Tryz.prog 122 [.row 0 s1.length,.dat (vfn fv1 us1)] [(0,.row 9 1 (List.map zt s1))] (.row 900 r.length) [(900,.row 9 1 (List.map zt r))]:=by
 refine Zs (by kernel_rfl) Tryz.func122 Z Z Z Z fun X A hN => ?_
 unfold y35 at H
 refine zb hN Z (qe Z (zb hN Z (za (zh (.row _ _) Z) (qd Z (bE H fun r2 h3 H=>zm (w4k (id:=0) (es:=List.map zt s1) (x74 s1 p1 fv1 us1 hp1 r2 h3) ⟨.inr ⟨(congrArg (Slot.row 0) (by rw [List.length_map]):Slot.row 0 s1.length=_),Z⟩,.inl (.inl (.inl Z)),U⟩ (fun _ _ _ _ h=>h)) Z ?_)))))
 refine qe Z (zd (zb hN Z (qd Z (za (yn Z Z) (zf _ Z (fun h4 => ?_) (fun h4 => ?_))))))
 ·refine tE h4 H fun H=>zb hN Z (za (zh (.row _ _) Z) (za (wm (.row _ _) Z) (y01 4 0 900 Z Z (by rw [List.length_map]) Z ?_)))
  refine zg ?_
  cases H
  exact ⟨U,[(4,.row 900 _)],⟨Z,U⟩,⟨Z,U⟩,Z,.inr (.inl ⟨4,Z,Z⟩)⟩
 ·refine fE h4 H fun H=>zl (yc (ι:=Int×(List Bs)) (fun i=>[(0,.row 0 i.2.length),(5,.dat (vint i.1))]) (fun i=>[(0,.row 9 1 (List.map zt i.2))]) (fun i=>y2s i.1 i.2=some r) (fun i=>Z) ?_ ?_)
  ·skip
   refine zb hN Z (qd Z (za (yl _ Z Z (.inl ⟨Z,Z⟩)) (qe Z (zu (kj (fun (s:Int×Int×(List Bs))=>[(0,.row 0 s.2.2.length),(1,.dat (vfn fv1 us1)),(5,.dat (vint s.1)),(6,.dat (vint s.2.1))]) (fun (s:Int×Int×(List Bs))=>[(0,.row 9 1 (List.map zt s.2.2))]) (r2,wr (r2+1),s1) H ⟨Z,Z,Z,Z,U⟩ ⟨Z,U⟩ (fun _=>Z) ?_)))))
   rintro ⟨i5,j6,l7⟩ q8 H hq8
   replace H:y8r p1 i5 j6 l7=some q8:=H
   unfold y8r at H
   refine zd (zb hN Z (qd Z (za (zh (.row _ _) Z) (zm (Yy qr Z Z) Z (za (zw Z Z) (zf _ Z (fun h9 => ?_) (fun h9 => ?_)))))))
   ·refine tE h9 H fun H=>zl (yc (ι:=Int×(List Bs)) (fun i=>[(0,.row 0 i.2.length),(1,.dat (vfn fv1 us1)),(5,.dat (vint i.1)),(6,.dat (vint j6))]) (fun i=>[(0,.row 9 1 (List.map zt i.2))]) (fun i=>z7k j6 i.1 i.2=some q8) (fun i=>Z) ?_ ?_)
    ·skip
     refine zu (zb hN Z (za (zh (.row _ _) Z) (qd Z (bE H fun x10 h11 H=>zm (Zy wv Z Z Z h11) Z (zm (z0x tyS9 Z Z (qk h11).2 Z) Z (qe Z (zb hN Z (qd Z (qd Z (bE H fun r12 h13 H=>za (kz (hp1 x10 r12 h13) Z ⟨.inl Z,U⟩) (za (yv Z) (zf _ Z (fun h14 => ?_) (fun h14 => ?_)))))))))))))
     ·exact tE h14 H fun H=>zb hN Z (za (zh (.row _ _) Z) (qd Z (qd Z (bE H fun x15 h16 H=>zm (Zy wv Z Z Z h16) Z (zj (y2e x10 tyS9 Z Z Z Z (qk h16).2 Z Z) Z (zk hN Z (qd Z (za (yl _ Z Z (.inl ⟨Z,Z⟩)) (qe Z ⟨(wr (i5+1),(l7.set i5.toNat x10)),H,⟨congrArg (Slot.row 0) (by simp),Z,Z,Z,U⟩,⟨Z,U⟩⟩)))))))))
     ·exact fE h14 H fun H=>zl ⟨(i5,l7),H,⟨Z,Z,Z,Z,U⟩,⟨Z,U⟩⟩
    ·rintro ⟨i17,s18⟩ H
     replace H:z7k j6 i17 s18=some q8:=H
     unfold z7k at H
     exact zk hN Z (qd Z (za (yl _ Z Z (.inl ⟨Z,Z⟩)) (qe Z ⟨_,yw H,⟨Z,Z,Z,Z,U⟩,⟨Z,U⟩⟩)))
   ·refine fE h9 H fun H=>yp ?_
    replace H:=outl H hq8
    exact ⟨(i5,l7),H,⟨Z,Z,U⟩,⟨Z,U⟩⟩
  ·rintro ⟨i19,s20⟩ H
   replace H:y2s i19 s20=some r:=H
   unfold y2s at H
   refine zb hN Z (za (zh (.row _ _) Z) (qd Z (gE H fun h21 H=>zm (y7w (C:=zt) wv Z Z Z h21) Z (zj (x5g (C:=zt) [] qr tyZ9 Z Z Z Z Z h21) Z (zb hN Z (za (zh (.row _ _) Z) (qd Z (gE H fun h22 H=>y8x (y7y (C:=zt) 1 wv Z (x96 [] h21) Z h22) Z Z (za (wm (.row _ _) Z) (y01 4 1 900 Z Z (by rw [List.length_map]; exact (y0u h22)) Z ?_))))))))))
   refine zg ?_
   cases H
   exact ⟨U,[(4,.row 900 _)],⟨Z,U⟩,⟨Z,U⟩,Z,.inr (.inl ⟨4,Z,congrArg (Slot.row 900) (by first | exact y0u (by assumption) | (simp <;> omega))⟩)⟩
theorem x0x (s1:(List Bs)) (p1:Bs→Option (Bool)) (fv1:Nat) (us1:List V) (hp1:∀ a0 r,p1 a0=some r→Fn Tryz.prog fv1 ([vstr a0]++us1) (zr [zi r])) (r:(Bool)) (H:z1q s1 p1=some r):Fn Tryz.prog 86 [vlst (List.map zt s1),vfn fv1 us1] (zr [zi r]):=by
 refine ⟨by kernel_rfl,zx (us:=[zi r]) Tryz.func86 Z Z Z Z fun X hN => ?_⟩
 unfold z1q at H
 refine zb hN Z (qe Z (zb hN Z (qd Z (qd Z (bE H fun r2 h3 H=>za (zo (x74 s1 p1 fv1 us1 hp1 r2 h3) ⟨.inl Z,.inl Z,U⟩) (za (vt Z Z) (qe Z (zg ?_))))))))
 cases H
 exact ⟨U,.inl Z,U⟩
theorem w85 (s p:Bs) (r:Bs×Bool) (H:z1n s p=some r):Fn Tryz.prog 178 [vstr s,vstr p] (zr [vstr r.1,zi r.2]):=by
 obtain ⟨h1,rfl⟩:=v4e H
 refine y0r (by kernel_rfl) fun M w vs h => ?_
 have hv:=ug (us:=[.string ⟨s.toArray⟩,.string ⟨p.toArray⟩]) h
 subst hv
 refine (Tryz.strings_CutSuffix ⟨s.toArray⟩ ⟨p.toArray⟩ w (by simp [ByteArray.size]; omega)).mono ?_
 rintro e w' ⟨rfl,rfl⟩
 refine ⟨_,Z,⟨[_,_],Z,Z,fun j u hj => ?_⟩,Kp.refl _ _⟩
 rcases j with _ | _ | j
 ·cases hj; exact ⟨_,Z,Z⟩
 ·cases hj; exact ⟨_,Z,Z⟩
 ·simp at hj
theorem x72 (s p:Bs) (r:Bool) (H:z1m s p=some r):Fn Tryz.prog 129 [vstr s,vstr p] (zr [zi r]):=by
 cases H
 refine y0r (by kernel_rfl) fun M w vs h => ?_
 have h1:=ug (us:=[.string ⟨s.toArray⟩,.string ⟨p.toArray⟩]) h
 subst h1
 refine (Tryz.strings_HasPrefix ⟨s.toArray⟩ ⟨p.toArray⟩ w).mono ?_
 rintro e w' ⟨rfl,rfl⟩
 exact ⟨_,Z,Z,Kp.refl _ _⟩
theorem x7y (a1:Bs) (b2:Bs) (r:(Bool)) (H:z39 a1 b2=some r):Fn Tryz.prog 126 [vstr a1,vstr b2] (zr [zi r]):=by
 refine ⟨by kernel_rfl,zx (us:=[zi r]) Tryz.func126 Z Z Z Z fun X hN => ?_⟩
 unfold z39 at H
 refine zb hN Z (qe Z (zd (zb hN Z (qd Z (qd Z (za (vz Z Z) (zf _ Z (fun h3 => ?_) (fun h3 => ?_))))))))
 ·refine tE h3 H fun H=>zb hN Z (qe Z (zg ?_))
  cases H
  exact ⟨U,.inl Z,U⟩
 ·refine fE h3 H fun H=>zl (zb hN Z (qd Z (bE H fun r4 h5 H=>za (zo (w85 a1 [42] r4 h5) ⟨.inl Z,.inl Z,U⟩) (qd Z (za (ye Z Z) (za (ye Z Z) (qe Z (qe Z (yc (ι:=Bool) (fun i=>[(4,.dat (zi i))]) (fun i=>[]) (fun i=>z29 i=some r) (fun i=>Z) ?_ ?_)))))))))
  ·skip
   refine zk hN Z (qd Z (qd Z (yi (j:=1) Z Z (fun h6 => ?_) (fun h6 => ?_) Z)))
   ·exact u1 h6 H fun h7 H=>ze Z Z h6 (zh (.dat _) Z) (ze Z Z h6 (zh (.dat _) Z) (bE H fun r8 h9 H=>ze Z Z h6 (zo (x72 b2 r4.1 r8 h9) ⟨.inl Z,.inl Z,U⟩) (za (yb Z (bTT h7) Z) (qe Z ⟨r8,H,⟨Z,U⟩,U⟩))))
   ·exact u2 h6 H fun h10 H=>zc Z Z h6 (zc Z Z h6 (zc Z Z h6 (za (ya Z (bFF h10) Z) (qe Z ⟨false,H,⟨Z,U⟩,U⟩))))
  ·rintro v11 H
   replace H:z29 v11=some r:=H
   unfold z29 at H
   refine zg ?_
   cases H
   exact ⟨U,.inl Z,U⟩
theorem w77 (h1:Bs) (c2:Bs) (r:(Bool)) (H:z77 h1 c2=some r):Fn Tryz.prog 125 [vstr h1,wt [[vstr c2]] 0 0] (zr [zi r]):=by
 refine ⟨by kernel_rfl,zx (us:=[zi r]) Tryz.func125 Z Z Z Z fun X hN => ?_⟩
 unfold z77 at H
 refine zb hN Z (qe Z (yc (ι:=Bool) (fun i=>[(3,.dat (zi i))]) (fun i=>[]) (fun i=>z26 i=some r) (fun i=>Z) ?_ ?_))
 ·skip
  refine zk hN Z (qd Z (za (yr tyS9 Z Z Z) (za (js Z Z) (qd Z (yi (j:=3) Z Z (fun h3 => ?_) (fun h3 => ?_) Z)))))
  ·exact u1 h3 H fun h4 H=>ze Z Z h3 (zh (.dat _) Z) (ze Z Z h3 (yr tyS9 Z Z Z) (bE H fun r5 h6 H=>ze Z Z h3 (zo (x7y h1 c2 r5 h6) ⟨.inl Z,.inl Z,U⟩) (za (yb Z (bTT h4) Z) (qe Z ⟨r5,H,⟨Z,U⟩,U⟩))))
  ·exact u2 h3 H fun h7 H=>zc Z Z h3 (zc Z Z h3 (zc Z Z h3 (za (ya Z (bFF h7) Z) (qe Z ⟨false,H,⟨Z,U⟩,U⟩))))
 ·rintro v8 H
  replace H:z26 v8=some r:=H
  unfold z26 at H
  refine zg ?_
  cases H
  exact ⟨U,.inl Z,U⟩
theorem w78 (s1:Bs) (c2:(List Bs)) (r:(Bool)) (H:z78 s1 c2=some r):Fn Tryz.prog 124 [vstr s1,wt [[vlst (List.map zt c2)]] 0 0] (zr [zi r]):=by
 refine ⟨by kernel_rfl,zx (us:=[zi r]) Tryz.func124 Z Z Z Z fun X hN => ?_⟩
 unfold z78 at H
 refine zb hN Z (zj (Wg 1 Z Z) Z (qe Z (zd (xk 1 [vstr s1] Z Z (zk hN Z (za (yr vc Z Z Z) (za (Ya (us:=[_]) ⟨Z,U⟩) (bE H fun r3 h4 H=>za (zo (x0x c2 (fun (a0:Bs)=>z77 a0 s1) 125 [wt [[vstr s1]] 0 0] (fun a0 r h=>w77 a0 s1 r h) r3 h4) ⟨.inl Z,.inl Z,U⟩) (qe Z (zg ?_))))))))))
 cases H
 exact ⟨U,.inl Z,U⟩
theorem x0s (l1:(List Bs)) (r:((List Bs))) (H:z1j l1=some r):Fn Tryz.prog 68 [vlst (List.map zt l1)] (zr [vlst (List.map zt r)]):=by
 refine ⟨by kernel_rfl,zx (us:=[vlst (List.map zt r)]) Tryz.func68 Z Z Z Z fun X hN => ?_⟩
 unfold z1j at H
 refine zb hN Z (zj (Wg 1 Z Z) Z (qe Z (zb hN Z (zm (zp vc Z Z) Z (bE H fun r2 h3 H=>za (zo (x8j l1 r2 h3) ⟨.inl Z,U⟩) (zj (wa vc Z Z Z Z) Z (zd (xk 1 [vlst (List.map zt r2)] Z Z (zk hN Z (za (yr vc Z Z Z) (bE H fun r4 h5 H=>kq (rn [(900,2)]) [] [(900,_)] (x7s r2 r4 h5) ⟨Z,U⟩ ⟨.inl (.inl Z),U⟩ U Z (za (Ya (us:=[_]) ⟨Z,U⟩) (bE H fun r6 h7 H=>kq (rn [(0,2),(900,3)]) [(0,_,_,none)] [(900,_)] (w7l r4 (fun (a0:Bs)=>z78 a0 r2) 124 [wt [[vlst (List.map zt r2)]] 0 0] (fun a0 r h=>w78 a0 r2 r h) r6 h7) ⟨Z,Z,U⟩ ⟨.inl (.inl Z),.inl (.inl Z),U⟩ ⟨⟨⟨Z,Z,Z⟩,U⟩,U⟩ Z (za (wm (.row _ _) Z) (zg ?_)))))))))))))))
 cases H
 exact ⟨U,Yx Z Z,U⟩
theorem w8q (l1:(List Bs)) (r:((List Bs)×Int)) (H:z8i l1=some r):Fn Tryz.prog 27 [vlst (List.map zt l1)] (zr [vlst (List.map zt r.1),vint r.2]):=by
 refine ⟨by kernel_rfl,zx (us:=[vlst (List.map zt r.1),vint r.2]) Tryz.func27 Z Z Z Z fun X hN => ?_⟩
 unfold z8i at H
 refine zb hN Z (qe Z (qe Z (zd (zb hN Z (qd Z (bE H fun r2 h3 H=>za (zo (z93 l1 r2 h3) ⟨.inl Z,U⟩) (qe Z (zb hN Z (qd Z (za (qj Z Z) (zf _ Z (fun h4 => ?_) (fun h4 => ?_))))))))))))
 ·refine tE h4 H fun H=>zb hN Z (qd Z (qe Z (qe Z (zg ?_))))
  cases H
  exact ⟨U,.inr ⟨Z,Z⟩,.inl Z,U⟩
 ·refine fE h4 H fun H=>zl (zb hN Z (qd Z (bE H fun r5 h6 H=>za (zo (x0s l1 r5 h6) ⟨.inl Z,U⟩) (qe Z (qe Z (zg ?_))))))
  cases H
  exact ⟨U,.inl Z,.inl Z,U⟩
theorem x8b (s1:jx) (app2:Bs) (product3:Bs) (r:(zz)) (H:z1u s1 app2 product3=some r):Fn Tryz.prog 26 [wt [[vmpG Zd s1.subs_,vmpG Zc s1.asks_]] 0 0,vstr app2,vstr product3] (zr [vagg (qx r)]):=by
 refine ⟨by kernel_rfl,zx (us:=[vagg (qx r)]) Tryz.func26 Z Z Z Z fun X hN => ?_⟩
 unfold z1u at H
 refine zb hN Z (zj (qm 1 jz Z) Z (zb hN Z (qd Z (za (w3t Z) (za (vr y7c Z) (za (yr y6v Z Z Z) (qd Z (qd Z (za (yg (u':=vagg (y05 (yt.mk app2 product3))) (qv [(0,[vstr app2]),(1,[vstr product3])] y1f y6x Z ⟨Z,.inl ⟨_,Z,Z,Z⟩,Z,Z,.inl ⟨_,Z,Z,Z⟩,Z,U⟩) Z) (gE H fun h4 H=>za (yg (u':=vtup [vagg (qx ((lkG s1.subs_ (yt.mk app2 product3)).getD (zz.mk 0 [] 0 0))),zi ((lkG s1.subs_ (yt.mk app2 product3)).isSome)]) (w3x (yt.mk app2 product3) y1m Z Z h4) Z) (qd Z (za (ye Z Z) (za (ye Z Z) (zj (qm 2 jz Z) Z (zj (yo qn Z Z Z Z) Z (qe Z (zd (zb hN Z (qd Z (za (yv Z) (zf _ Z (fun h5 => ?_) (fun h5 => ?_))))))))))))))))))))))
 ·refine tE h5 H fun H=>zb hN Z (bE H fun r6 h7 H=>za (zo (x78  r6 h7) U) (zj (yo qn Z Z Z Z) Z (zg ?_)))
  have eH:r6=r:=Option.some.inj H
  subst eH
  exact ⟨U,.inl ⟨_,_,_,qx r6,Z,Z,Z,Z,qn⟩,U⟩
 ·refine fE h5 H fun H=>zl (zb hN Z (zm (qc qn Z Z Z) Z (zj (yo qn Z Z Z Z) Z (zg ?_))))
  cases H
  exact ⟨U,.inl ⟨_,_,_,qx (zz.mk (((lkG s1.subs_ (yt.mk app2 product3)).getD (zz.mk 0 [] 0 0)).State) (((lkG s1.subs_ (yt.mk app2 product3)).getD (zz.mk 0 [] 0 0)).Plan) (((lkG s1.subs_ (yt.mk app2 product3)).getD (zz.mk 0 [] 0 0)).Since) (((lkG s1.subs_ (yt.mk app2 product3)).getD (zz.mk 0 [] 0 0)).First)),Z,Z,Z,Z,qn⟩,U⟩
theorem w9z (v1:yh) (v2:(List yd)) (v3:(List zq)) (v4:Bs) (v5:Int) (r:((List Bs)×Int)) (H:z8w v1 v2 v3 v4 v5=some r):Fn Tryz.prog 8 [vagg (jo v1),vlst (List.map wd v2),vlst (List.map yy v3),vstr v4,vint v5] (zr [vlst (List.map zt r.1),vint r.2]):=by
 refine ⟨by kernel_rfl,zx (us:=[vlst (List.map zt r.1),vint r.2]) Tryz.func8 Z Z Z Z fun X hN => ?_⟩
 unfold z8w at H
 refine zb hN Z (zj (qu 1 Z) Z (qe Z (qe Z (zd (zb hN Z (zm (qc vj Z Z Z) Z (qd Z (qd Z (bE H fun r6 h7 H=>za (zo (x8d v1 v2 v3 r6 h7) ⟨.inl Z,.inl Z,.inl Z,U⟩) (qe Z (zb hN Z (qd Z (za (qj Z Z) (zf _ Z (fun h8 => ?_) (fun h8 => ?_)))))))))))))))
 ·refine tE h8 H fun H=>zb hN Z (qd Z (qe Z (qe Z (zg ?_))))
  cases H
  exact ⟨U,.inr ⟨Z,Z⟩,.inl Z,U⟩
 ·refine fE h8 H fun H=>zl (zd (zb hN Z (qd Z (qd Z (bE H fun r9 h10 H=>za (zo (x0z v2 v4 r9 h10) ⟨.inl Z,.inl Z,U⟩) (qd Z (za (ye Z Z) (za (ye Z Z) (qe Z (qe Z (zb hN Z (qd Z (za (yv Z) (zf _ Z (fun h11 => ?_) (fun h11 => ?_)))))))))))))))
  ·refine tE h11 H fun H=>zb hN Z (qe Z (qe Z (zg ?_)))
   cases H
   exact ⟨U,.inr ⟨Z,Z⟩,.inl Z,U⟩
  ·refine fE h11 H fun H=>zl (zd (zb hN Z (qd Z (bE H fun r12 h13 H=>za (zo (x79 v5 r12 h13) ⟨.inl Z,U⟩) (qe Z (zb hN Z (qd Z (za (qj Z Z) (zf _ Z (fun h14 => ?_) (fun h14 => ?_))))))))))
   ·refine tE h14 H fun H=>zb hN Z (qd Z (qe Z (qe Z (zg ?_))))
    cases H
    exact ⟨U,.inr ⟨Z,Z⟩,.inl Z,U⟩
   ·refine fE h14 H fun H=>zl (zb hN Z (zm (qc vj Z Z Z) Z (qd Z (qd Z (bE H fun r15 h16 H=>za (zo (x8c v1 v3 v5 r15 h16) ⟨.inl Z,.inl Z,.inl Z,U⟩) (qd Z (za (ye Z Z) (za (ye Z Z) (qe Z (qe Z (zb hN Z (qe Z (zd (zb hN Z (za (zn z0q Z) (zm (zp z0n Z Z) Z (za (yk Qs Z) (qd Z (zu (uy 18 2 9 1 Z Z Z (gE H fun h20 H=>?_)))))))))))))))))))))
    refine qq (fun (k18:Nat) (s:(List Bs))=>[(3,.dat (vstr v4)),(16,.dat (wt [[vmpG Zd r15.1.subs_,vmpG Zc r15.1.asks_]] 0 0)),(18,.row 2 s.length),(49,.dat (vlst (List.map wb v1.Products))),(50,.dat (vint (v1.Products.length:Int))),(51,.dat (vint (k18:Int)))]) (fun (k18:Nat) (s:(List Bs))=>[(2,.row 9 1 (List.map zt s))]) [] H ⟨Z,Z,Z,Z,Z,Z,U⟩ ⟨Z,U⟩ (fun _ _=>Z) ?_ ?_
    ·rintro l17 H
     replace H:Qc l17=some r:=H
     unfold Qc at H
     refine zb hN Z (za (zw Z Z) (zd (zf _ Z (fun h=>(lt_t h).elim) (fun h => ?_))))
     refine yp (zd (zb hN Z (za (zh (.row _ _) Z) (zm (Yy qr Z Z) Z (za (qh Z Z) (zf _ Z (fun h22 => ?_) (fun h22 => ?_)))))))
     ·refine tE h22 H fun H=>zb hN Z (qe Z (qe Z (zg ?_)))
      cases H
      exact ⟨U,.inr ⟨Z,Z⟩,.inl Z,U⟩
     ·refine fE h22 H fun H=>zl (zd (z0y 18 2 Z Z Z (zk hN Z (qd Z (bE H fun r23 h24 H=>za (zo (w8q l17 r23 h24) ⟨.inl Z,U⟩) (za (ye Z Z) (za (ye Z Z) (qe Z (qe Z (zg ?_))))))))))
      cases H
      exact ⟨U,.inl Z,.inl Z,U⟩
    ·rintro k18 x21 l17 q19 h25 h26 H hq19
     replace H:z07 v4 r15 k18 x21 l17=some q19:=H
     unfold z07 at H
     refine zb hN Z (za (zw Z Z) (zd (zf _ Z (fun h => ?_) (fun h=>(lt_f h25 h).elim))))
     refine zl (yc (ι:=(List Bs)) (fun i=>[(3,.dat (vstr v4)),(16,.dat (wt [[vmpG Zd r15.1.subs_,vmpG Zc r15.1.asks_]] 0 0)),(18,.row 2 i.length),(49,.dat (vlst (List.map wb v1.Products))),(50,.dat (vint (v1.Products.length:Int))),(51,.dat (vint (k18:Int)))]) (fun i=>[(2,.row 9 1 (List.map zt i))]) (fun i=>z3r i=some q19) (fun i=>Z) ?_ ?_)
     ·skip
      refine zu (zb hN Z (za (qp Qz (fun _=>Z) Z Z h26) (za (vg Zh Z (ym h26) Z) (zj (qm 3 z2r Z) Z (zj (yo Zh Z Z Z Z) Z (zb hN Z (qd Z (qd Z (za (zn Zx Z) (zm (zp tyS9 Z Z) Z (bE H fun r27 h28 H=>za (zo (x8b r15.1 v4 x21.Key r27 h28) ⟨.inl Z,.inl Z,.inl Z,U⟩) (za (w4d jr tyS3 Z Z) (za (yn Z Z) (zf _ Z (fun h29 => ?_) (fun h29 => ?_)))))))))))))))
      ·exact tE h29 H fun H=>zk hN Z (za (zh (.row _ _) Z) (za (zn y1o Z) (zm (zp vc Z Z) Z (gE H fun h30 H=>zj (y7z vn (fun _=>Z) Z Z Z h30 Z) Z (za (wm (.row _ _) Z) ⟨(l17++x21.Scopes),H,⟨Z,Z,Z,Z,Z,Z,U⟩,⟨Z,U⟩⟩)))))
      ·exact fE h29 H fun H=>zl ⟨l17,H,⟨Z,Z,Z,Z,Z,Z,U⟩,⟨Z,U⟩⟩
     ·rintro v31 H
      replace H:z3r v31=some q19:=H
      unfold z3r at H
      exact zk hN Z (za (qi Z Z (by omega)) (qd Z ⟨_,yw H,⟨Z,Z,Z,Z,Z,Z,U⟩,⟨Z,U⟩⟩))
theorem x7x (s1:Bs) (r:(Int)) (H:z38 s1=some r):Fn Tryz.prog 28 [vstr s1] (zr [vint r]):=by
 refine ⟨by kernel_rfl,zx (us:=[vint r]) Tryz.func28 Z Z Z Z fun X hN => ?_⟩
 unfold z38 at H
 refine zb hN Z (qe Z (zd (zb hN Z (qd Z (za (wl tyU9 Z) (qd Z (zu (gE H fun h4 H=>qq (fun (k2:Nat) (s:Unit)=>[(0,.dat (vstr s1)),(5,.dat (vint (s1.length:Int))),(6,.dat (vint (k2:Int)))]) (fun (k2:Nat) (s:Unit)=>[]) () H ⟨Z,Z,Z,U⟩ U (fun _ _=>Z) ?_ ?_))))))))
 ·rintro ⟨⟩ H
  replace H:y14 s1=some r:=H
  unfold y14 at H
  refine zb hN Z (za (zw Z Z) (zd (zf _ Z (fun h=>(lt_t h).elim) (fun h => ?_))))
  refine yp (zd (zb hN Z (qd Z (za (vz Z Z) (zf _ Z (fun h6 => ?_) (fun h6 => ?_))))))
  ·refine tE h6 H fun H=>zb hN Z (qe Z (zg ?_))
   cases H
   exact ⟨U,.inl Z,U⟩
  ·refine fE h6 H fun H=>zl (zd (zb hN Z (qd Z (za (wl tyU9 Z) (za (qh Z Z) (zf _ Z (fun h7 => ?_) (fun h7 => ?_)))))))
   ·refine tE h7 H fun H=>zb hN Z (qe Z (zg ?_))
    cases H
    exact ⟨U,.inl Z,U⟩
   ·refine fE h7 H fun H=>zl (zb hN Z (qe Z (zg ?_)))
    cases H
    exact ⟨U,.inl Z,U⟩
 ·rintro k2 x5 ⟨⟩ q3 h8 h9 H hq3
  replace H:y13 k2 x5=some q3:=H
  unfold y13 at H
  refine zb hN Z (za (zw Z Z) (zd (zf _ Z (fun h => ?_) (fun h=>(lt_f h8 h).elim))))
  refine zl (zd (zu (zb hN Z (qd Z (qe Z (yc (ι:=Bool) (fun i=>[(0,.dat (vstr s1)),(5,.dat (vint (s1.length:Int))),(6,.dat (vint (k2:Int))),(18,.dat (zi i))]) (fun i=>[]) (fun i=>z23 i=some q3) (fun i=>Z) ?_ ?_))))))
  ·skip
   refine zk hN Z (qd Z (qd Z (za (vh tyU9 Z Z h9) (za (zw Z Z) (qd Z (yi (j:=4) Z Z (fun h10 => ?_) (fun h10 => ?_) Z))))))
   ·exact u3 h10 H fun h11 H=>ze Z Z h10 (zh (.dat _) Z) (ze Z Z h10 (zh (.dat _) Z) (ze Z Z h10 (vh tyU9 Z Z h9) (ze Z Z h10 (qh Z Z) (za (ya Z (bFF h11) Z) ⟨decide (126 < (x5.toNat:Int)),H,⟨Z,Z,Z,Z,U⟩,U⟩))))
   ·exact u4 h10 H fun h12 H=>zc Z Z h10 (zc Z Z h10 (zc Z Z h10 (zc Z Z h10 (za (yb Z (bTT h12) Z) ⟨true,H,⟨Z,Z,Z,Z,U⟩,U⟩))))
  ·rintro v13 H
   replace H:z23 v13=some q3:=H
   unfold z23 at H
   refine zf _ Z (fun h14 => ?_) (fun h14 => ?_)
   ·refine tE h14 H fun H=>zb hN Z (qe Z (zg ?_))
    replace H:=retl H hq3
    cases H
    exact ⟨U,.inl Z,U⟩
   ·exact fE h14 H fun H=>zl (zk hN Z (za (qi Z Z (by omega)) (qd Z ⟨_,yw H,⟨Z,Z,Z,U⟩,U⟩)))
theorem v0m (i1:Int) (r:(Bs)) (H:x0d i1=some r):Fn Tryz.prog 179 [vint i1] (zr [vstr r]):=by
 refine ⟨by kernel_rfl,zx (us:=[vstr r]) Tryz.func179 Z Z Z Z fun X hN => ?_⟩
 unfold x0d at H
 refine zb hN Z (qe Z (zd (zb hN Z (qd Z (za (zw Z Z) (zf _ Z (fun h2 => ?_) (fun h2 => ?_)))))))
 ·refine tE h2 H fun H=>zb hN Z (qd Z (qd Z (za (yl _ Z Z (.inl ⟨Z,Z⟩)) (bE H fun l3 h4 H=>za (kh tyU9 Z Z Z h4) (qe Z (zg ?_))))))
  cases H
  exact ⟨U,.inl Z,U⟩
 ·refine fE h2 H fun H=>zl (zb hN Z (qd Z (za (yl _ Z Z (.inr (.inr ⟨Z,Z⟩))) (qd Z (za (yl _ Z Z (.inr (.inr ⟨Z,Z⟩))) (za (yl _ Z Z (.inl ⟨Z,Z⟩)) (bE H fun l5 h6 H=>za (kh tyU9 Z Z Z h6) (qe Z (zg ?_)))))))))
  cases H
  exact ⟨U,.inl Z,U⟩
theorem v0n (x1:Int) (r:(Bool)) (H:z88 x1=some r):Fn Tryz.prog 231 [vint x1] (zr [zi r]):=by
 refine ⟨by kernel_rfl,zx (us:=[zi r]) Tryz.func231 Z Z Z Z fun X hN => ?_⟩
 unfold z88 at H
 refine zb hN Z (qe Z (zb hN Z (qd Z (qd Z (za (yl _ Z Z (.inr (.inl ⟨Z,Z⟩))) (za (yg (y2k Z Z) Z) (za (yn Z Z) (qe Z (zg ?_)))))))))
 cases H
 exact ⟨U,.inl Z,U⟩
theorem v1q (x r:Int) (H:z5b x=some r):Fn Tryz.prog 232 [vval (.int .u64 x)] (zr [vint r]):=by
 obtain ⟨h0,h1,rfl⟩:=w00 H
 obtain ⟨n,rfl⟩:=Int.eq_ofNat_of_zero_le h0
 refine Yp (by kernel_rfl) fun M w vs hM h => ?_
 have hv:=ug (us:=[.int .u64 (n:Int)]) h
 subst hv
 refine (Any7.bits_TrailingZeros Tryz.tz232 n (by omega) w (fun _=>w2u hM)).mono ?_
 rintro e w' ⟨rfl,rfl⟩
 exact ⟨_,Z,Z,Kp.refl _ _⟩
theorem v0o (v1:(List Int)) (v2:Int) (v3:Int) (v4:Bool) (v5:Bool) (r:((List Int)×Bs)) (H:z89 v1 v2 v3 v4 v5=some r):Fn Tryz.prog 182 [vlst (List.map wc v1),vval (.int .u64 v2),vint v3,zi v4,zi v5] (zr [vlst (List.map wc r.1),vstr r.2]):=by
 refine ⟨by kernel_rfl,zx (us:=[vlst (List.map wc r.1),vstr r.2]) Tryz.func182 Z Z Z Z fun X hN => ?_⟩
 unfold z89 at H
 refine zb hN Z (qe Z (qe Z (zd (zb hN Z (qd Z (za (zw Z Z) (qd Z (yu Z Z (fun hc=>zh (.dat _) Z) (yu Z Z (fun hc=>yn (cnd (c:=(!(decide (v3 < 2)))) hc) Z) (za (vk Z Z (fun hb=>(cnd (c:=(!(decide (v3 < 2)))) (notI hb)))) (qd Z (yu Z Z (fun hc=>zh (.dat _) Z) (yu Z Z (fun hc=>qh (cnd (c:=(!((decide (v3 < 2)) || (decide (v3=10))))) hc) Z) (za (vk Z Z (fun hb=>(cnd (c:=(!((decide (v3 < 2)) || (decide (v3=10))))) (notI hb)))) (zf _ Z (fun h6 => ?_) (fun h6 => ?_))))))))))))))))
 ·refine tE h6 H fun H=>?_
  cases H
 ·refine fE h6 H fun H=>zl (zb hN Z (zj (w22 1 65 (show tyZ Tryz.prog 278=some (List.replicate 65 (.int .u8 0)) from by kernel_rfl)) Z ?_))
  refine zb hN Z (qe Z (yc (ι:=Unit) (fun i=>[(0,.dat (vlst (List.map wc v1))),(1,.dat (vval (.int .u64 v2))),(2,.dat (vint v3)),(3,.dat (zi v4)),(4,.dat (zi v5)),(10,.dat (vnil)),(11,.dat (vstr [])),(12,.ptr 1 0),(13,.dat (vint 65))]) (fun i=>[(1,.box none 278 (List.map Slot.dat (bxU (List.replicate 65 0))))]) (fun i=>z5k v2 v3 v4 v5=some r) (fun i=>z1a Z (z1c z09 z1b)) ?_ ?_))
  ·skip
   refine zb hN Z (qd Z (zf _ Z (fun h7 => ?_) (fun h7 => ?_)))
   ·refine tE h7 H fun H=>?_
    cases H
   ·exact fE h7 H fun H=>zl ⟨(),H,⟨Z,Z,Z,Z,Z,Z,Z,Z,Z,U⟩,⟨Z,U⟩⟩
  ·rintro ⟨⟩ H
   replace H:z5k v2 v3 v4 v5=some r:=H
   unfold z5k at H
   refine yc (ι:=Int×(List Int)) (fun i=>[(0,.dat (vlst (List.map wc v1))),(3,.dat (zi v4)),(4,.dat (zi v5)),(10,.dat (vnil)),(11,.dat (vstr [])),(12,.ptr 1 0),(13,.dat (vint i.1))]) (fun i=>[(1,.box none 278 (List.map Slot.dat (bxU i.2)))]) (fun i=>z18 v4 v5 i.1 i.2=some r) (fun i=>z1a Z (z1c z09 z1b)) ?_ ?_
   ·skip
    refine zb hN Z (qd Z (bE H fun r8 h9 H=>za (zo (v0n v3 r8 h9) ⟨.inl Z,U⟩) (zf _ Z (fun h10 => ?_) (fun h10 => ?_))))
    ·refine tE h10 H fun H=>zb hN Z (qd Z (za (jh tyU3 Zf Z) (bE H fun r11 h12 H=>za (zo (v1q (IntKind.wrap .u64 v3) r11 h12) ⟨.inl Z,U⟩) (za (jh tyU3 Zf Z) (qe Z (zb hN Z (qd Z (za (jh tyU3 Zg Z) (qe Z (zb hN Z (qd Z (za (jh tyU3 Zf Z) (za (yl _ Z Z (.inr (.inl ⟨Z,Z⟩))) (qe Z (yc (ι:=Int×Int×(List Int)) (fun i=>[(0,.dat (vlst (List.map wc v1))),(1,.dat (vval (.int .u64 i.1))),(3,.dat (zi v4)),(4,.dat (zi v5)),(10,.dat (vnil)),(11,.dat (vstr [])),(12,.ptr 1 0),(13,.dat (vint i.2.1))]) (fun i=>[(1,.box none 278 (List.map Slot.dat (bxU i.2.2)))]) (fun i=>Wz v4 v5 i.1 i.2.1 i.2.2=some r) (fun i=>z1a Z (z1c z09 z1b)) ?_ ?_)))))))))))))))
     ·skip
      refine zu (kj (fun (s:Int×Int×(List Int))=>[(0,.dat (vlst (List.map wc v1))),(1,.dat (vval (.int .u64 s.1))),(3,.dat (zi v4)),(4,.dat (zi v5)),(10,.dat (vnil)),(11,.dat (vstr [])),(12,.ptr 1 0),(13,.dat (vint s.2.1)),(14,.dat (vval (.int .u64 (IntKind.wrap .u64 r11)))),(15,.dat (vval (.int .u64 (IntKind.wrap .u64 v3)))),(16,.dat (vval (.int .u64 (IntKind.wrap .u64 ((IntKind.wrap .u64 v3) - 1)))))]) (fun (s:Int×Int×(List Int))=>[(1,.box none 278 (List.map Slot.dat (bxU s.2.2)))]) (v2,65,(List.replicate 65 0)) H ⟨Z,Z,Z,Z,Z,Z,Z,Z,Z,Z,Z,U⟩ ⟨Z,U⟩ (fun _=>z1a Z (z1c z09 z1b)) ?_)
      rintro ⟨v13,v14,l15⟩ q16 H hq16
      replace H:y0a v3 v4 v5 r11 v13 v14 l15=some q16:=H
      unfold y0a at H
      refine zd (zb hN Z (qd Z (qd Z (za (vt Z Z) (zf _ Z (fun h17 => ?_) (fun h17 => ?_))))))
      ·refine tE h17 H fun H=>zl (zu (zb hN Z (qd Z (za (yl _ Z Z (.inr (.inl ⟨Z,Z⟩))) (qe Z (zb hN Z (qd Z (qd Z (qd Z (za (yg (y2k Z Z) Z) (bE H fun x18 h19 H=>za (z3f tyU9 Z Z h19) (gE H fun h20 H=>za (z68 (show tyA Tryz.prog 278=some (65,5,.int .u8) from by kernel_rfl) Z Z h20) ?_))))))))))))
       exact gE H fun h21 H=>zj (z65 (l:=l15) tyS5 Z Z h21) Z (zk hN Z (qd Z (qd Z (gE H fun h22 H=>za (yg (We Z Z h22) Z) (qe Z ⟨_,yw H,⟨Z,Z,Z,Z,Z,Z,Z,Z,Z,Z,Z,U⟩,⟨Z,U⟩⟩)))))
      ·refine fE h17 H fun H=>yp ?_
       replace H:=outl H hq16
       exact ⟨(v13,v14,l15),H,⟨Z,Z,Z,Z,Z,Z,Z,Z,U⟩,⟨Z,U⟩⟩
     ·rintro ⟨v23,v24,l25⟩ H
      replace H:Wz v4 v5 v23 v24 l25=some r:=H
      unfold Wz at H
      refine zb hN Z (qd Z (za (yl _ Z Z (.inr (.inl ⟨Z,Z⟩))) (qe Z (zk hN Z (qd Z (qd Z (bE H fun x26 h27 H=>za (z3f tyU9 Z Z h27) (gE H fun h28 H=>za (z68 (show tyA Tryz.prog 278=some (65,5,.int .u8) from by kernel_rfl) Z Z h28) ?_))))))))
      exact gE H fun h29 H=>zj (z65 (l:=l25) tyS5 Z Z h29) Z ⟨(wr (v24 - 1),(l25.set (wr (v24 - 1)).toNat (x26.toNat:Int))),H,⟨Z,Z,Z,Z,Z,Z,Z,U⟩,⟨Z,U⟩⟩
    ·refine fE h10 H fun H=>zb hN Z (qd Z (za (jh tyU3 Zg Z) (qe Z (yc (ι:=Int×Int×(List Int)) (fun i=>[(0,.dat (vlst (List.map wc v1))),(1,.dat (vval (.int .u64 i.1))),(3,.dat (zi v4)),(4,.dat (zi v5)),(10,.dat (vnil)),(11,.dat (vstr [])),(12,.ptr 1 0),(13,.dat (vint i.2.1))]) (fun i=>[(1,.box none 278 (List.map Slot.dat (bxU i.2.2)))]) (fun i=>y42 v4 v5 i.1 i.2.1 i.2.2=some r) (fun i=>z1a Z (z1c z09 z1b)) ?_ ?_))))
     ·skip
      refine zu (kj (fun (s:Int×Int×(List Int))=>[(0,.dat (vlst (List.map wc v1))),(1,.dat (vval (.int .u64 s.1))),(3,.dat (zi v4)),(4,.dat (zi v5)),(10,.dat (vnil)),(11,.dat (vstr [])),(12,.ptr 1 0),(13,.dat (vint s.2.1)),(17,.dat (vval (.int .u64 (IntKind.wrap .u64 v3))))]) (fun (s:Int×Int×(List Int))=>[(1,.box none 278 (List.map Slot.dat (bxU s.2.2)))]) (v2,65,(List.replicate 65 0)) H ⟨Z,Z,Z,Z,Z,Z,Z,Z,Z,U⟩ ⟨Z,U⟩ (fun _=>z1a Z (z1c z09 z1b)) ?_)
      rintro ⟨v30,v31,l32⟩ q33 H hq33
      replace H:x1c v3 v4 v5 v30 v31 l32=some q33:=H
      unfold x1c at H
      refine zd (zb hN Z (qd Z (qd Z (za (vt Z Z) (zf _ Z (fun h34 => ?_) (fun h34 => ?_))))))
      ·refine tE h34 H fun H=>zl (zu (zb hN Z (qd Z (za (yl _ Z Z (.inr (.inl ⟨Z,Z⟩))) (qe Z (zb hN Z (qd Z (qd Z (gE H fun h35 H=>za (x5n Z Z h35) (qe Z (zb hN Z (qd Z (qd Z (qd Z (qd Z (za (yl _ Z Z (.inr (.inr ⟨Z,Z⟩))) (za (yl _ Z Z (.inr (.inl ⟨Z,Z⟩))) (bE H fun x36 h37 H=>za (z3f tyU9 Z Z h37) (gE H fun h38 H=>za (z68 (show tyA Tryz.prog 278=some (65,5,.int .u8) from by kernel_rfl) Z Z h38) ?_)))))))))))))))))))
       exact gE H fun h39 H=>zj (z65 (l:=l32) tyS5 Z Z h39) Z (zk hN Z (qd Z (qe Z ⟨_,yw H,⟨Z,Z,Z,Z,Z,Z,Z,Z,Z,U⟩,⟨Z,U⟩⟩)))
      ·refine fE h34 H fun H=>yp ?_
       replace H:=outl H hq33
       exact ⟨(v30,v31,l32),H,⟨Z,Z,Z,Z,Z,Z,Z,Z,U⟩,⟨Z,U⟩⟩
     ·rintro ⟨v40,v41,l42⟩ H
      replace H:y42 v4 v5 v40 v41 l42=some r:=H
      unfold y42 at H
      refine zb hN Z (qd Z (za (yl _ Z Z (.inr (.inl ⟨Z,Z⟩))) (qe Z (zk hN Z (qd Z (qd Z (bE H fun x43 h44 H=>za (z3f tyU9 Z Z h44) (gE H fun h45 H=>za (z68 (show tyA Tryz.prog 278=some (65,5,.int .u8) from by kernel_rfl) Z Z h45) ?_))))))))
      exact gE H fun h46 H=>zj (z65 (l:=l42) tyS5 Z Z h46) Z ⟨(wr (v41 - 1),(l42.set (wr (v41 - 1)).toNat (x43.toNat:Int))),H,⟨Z,Z,Z,Z,Z,Z,Z,U⟩,⟨Z,U⟩⟩
   ·rintro ⟨v47,l48⟩ H
    replace H:z18 v4 v5 v47 l48=some r:=H
    unfold z18 at H
    refine yc (ι:=Int×(List Int)) (fun i=>[(0,.dat (vlst (List.map wc v1))),(4,.dat (zi v5)),(10,.dat (vnil)),(11,.dat (vstr [])),(12,.ptr 1 0),(13,.dat (vint i.1))]) (fun i=>[(1,.box none 278 (List.map Slot.dat (bxU i.2)))]) (fun i=>z17 v5 i.1 i.2=some r) (fun i=>z1a Z (z1c z09 z1b)) ?_ ?_
    ·skip
     refine zb hN Z (qd Z (zf _ Z (fun h49 => ?_) (fun h49 => ?_)))
     ·refine tE h49 H fun H=>zb hN Z (qd Z (za (yl _ Z Z (.inr (.inl ⟨Z,Z⟩))) (qe Z (zk hN Z (qd Z (gE H fun h50 H=>za (z68 (show tyA Tryz.prog 278=some (65,5,.int .u8) from by kernel_rfl) Z Z h50) ?_))))))
      exact gE H fun h51 H=>zj (z65 (l:=l48) tyS5 Z Z h51) Z ⟨(wr (v47 - 1),(l48.set (wr (v47 - 1)).toNat 45)),H,⟨Z,Z,Z,Z,Z,Z,U⟩,⟨Z,U⟩⟩
     ·exact fE h49 H fun H=>zl ⟨(v47,l48),H,⟨Z,Z,Z,Z,Z,Z,U⟩,⟨Z,U⟩⟩
    ·rintro ⟨v52,l53⟩ H
     replace H:z17 v5 v52 l53=some r:=H
     unfold z17 at H
     refine zd (zb hN Z (qd Z (zf _ Z (fun h54 => ?_) (fun h54 => ?_))))
     ·refine tE h54 H fun H=>?_
      cases H
     ·refine fE h54 H fun H=>zl (zd (xk 1 (bxU l53) Z Z (zk hN Z (qd Z (gE H fun h55 H=>gE H fun h56 H=>za (w20 (C:=wc) (show tyA Tryz.prog 278=some (65,5,.int .u8) from by kernel_rfl) Z h55 Z h56 (fun _=>Z)) ?_)))))
      refine za (z7e (C:=wc) Yt tyU5 tyU9 (fun _=>Z) Z) (qe Z (zg ?_))
      cases H
      exact ⟨U,.inr ⟨Z,Z⟩,.inl Z,U⟩
theorem v0q (i1:Int) (base2:Int) (r:(Bs)) (H:z9a i1 base2=some r):Fn Tryz.prog 127 [vval (.int .u64 i1),vint base2] (zr [vstr r]):=by
 refine ⟨by kernel_rfl,zx (us:=[vstr r]) Tryz.func127 Z Z Z Z fun X hN => ?_⟩
 unfold z9a at H
 refine zb hN Z (qe Z (zd (zb hN Z (qd Z (za (yn Z Z) (zf _ Z (fun h3 => ?_) (fun h3 => ?_)))))))
 ·refine tE h3 H fun H=>zd (zb hN Z (qd Z (za (zw Z Z) (zf _ Z (fun h4 => ?_) (fun h4 => ?_)))))
  ·refine tE h4 H fun H=>zb hN Z (qd Z (za (jh Zg tyU3 Z) (bE H fun r5 h6 H=>za (zo (v0m (IntKind.wrap .i64 i1) r5 h6) ⟨.inl Z,U⟩) (qe Z (zg ?_)))))
   cases H
   exact ⟨U,.inl Z,U⟩
  ·refine fE h4 H fun H=>?_
   cases H
 ·refine fE h3 H fun H=>zl (zb hN Z (qd Z (qd Z (bE H fun r7 h8 H=>za (zo (v0o ([]:(List Int)) i1 base2 false false r7 h8) ⟨.inr ⟨Z,Z⟩,.inl Z,.inl Z,.inl Z,.inl Z,U⟩) (qd Z (za (ye Z Z) (za (ye Z Z) (qe Z (qe Z (zb hN Z (qd Z (qe Z (zg ?_)))))))))))))
  cases H
  exact ⟨U,.inl Z,U⟩
theorem w9a (i1:Int) (base2:Int) (r:(Bs)) (H:Wp i1 base2=some r):Fn Tryz.prog 69 [vval (.int .u64 i1),vint base2] (zr [vstr r]):=by
 refine ⟨by kernel_rfl,zx (us:=[vstr r]) Tryz.func69 Z Z Z Z fun X hN => ?_⟩
 unfold Wp at H
 refine zb hN Z (qe Z (zb hN Z (qd Z (qd Z (bE H fun r3 h4 H=>za (zo (v0q i1 base2 r3 h4) ⟨.inl Z,.inl Z,U⟩) (qe Z (zg ?_)))))))
 cases H
 exact ⟨U,.inl Z,U⟩
theorem w82 (s:Bs) (n:Int) (r:Bs) (H:Qj s n=some r):Fn Tryz.prog 70 [vstr s,vint n] (zr [vstr r]):=by
 obtain ⟨h0,h1,h2,rfl⟩:=w51 H
 obtain ⟨c,rfl⟩:=Int.eq_ofNat_of_zero_le h0
 refine y0r (by kernel_rfl) fun M w vs h => ?_
 have hv:=ug (us:=[.string ⟨s.toArray⟩,.int .i64 c]) h
 subst hv
 have hs:(ByteArray.mk s.toArray).size=s.length:=by simp [ByteArray.size]
 refine (Tryz.strings_Repeat ⟨s.toArray⟩ c w (by omega) (by rw [hs]; exact Nat.le_trans (Nat.mul_le_mul h2 (show c≤1000000 by omega)) (by decide))).mono ?_
 rintro e w' ⟨rfl,hb⟩
 exact ⟨_,Z,by simp [zr,vstr,vval],Kp.of_below hb⟩
theorem x0r (secret1:Bs) (text2:Bs) (r:(Bs)) (H:xg secret1 text2=some r):Fn Tryz.prog 29 [vstr secret1,vstr text2] (zr [vstr r]):=by
 refine ⟨by kernel_rfl,zx (us:=[vstr r]) Tryz.func29 Z Z Z Z fun X hN => ?_⟩
 unfold xg at H
 refine zb hN Z (qe Z (zb hN Z (qe Z (zd (zb hN Z (qd Z (qd Z (qd Z (za (yg (u':=vlst (List.map zt [secret1,[0],text2,[0],secret1])) (qy [[_],[_],[_],[_],[_]] vn ⟨Z,.inl ⟨_,Z,Z,Z⟩,Z,Z,.inl ⟨_,Z,Z,Z⟩,Z,Z,.inl ⟨_,Z,Z,Z⟩,Z,Z,.inl ⟨_,Z,Z,Z⟩,Z,Z,.inl ⟨_,Z,Z,Z⟩,Z,U⟩ Z Z) Z) (za (yk qr Z) (qd Z (zu (gE H fun h6 H=>qq (fun (k4:Nat) (s:Int)=>[(5,.dat (vval (.int .u64 s))),(13,.dat (vlst (List.map zt ([secret1,[0],text2,[0],secret1])))),(14,.dat (vint (([secret1,[0],text2,[0],secret1]).length:Int))),(15,.dat (vint (k4:Int)))]) (fun (k4:Nat) (s:Int)=>[]) 14695981039346656037 H ⟨Z,Z,Z,Z,U⟩ U (fun _ _=>Z) ?_ ?_)))))))))))))
 ·rintro h3 H
  replace H:Wa h3=some r:=H
  unfold Wa at H
  refine zb hN Z (za (zw Z Z) (zd (zf _ Z (fun h=>(lt_t h).elim) (fun h => ?_))))
  refine yp (zd (zb hN Z (qd Z (zu (gE H fun h11 H=>Zt (fun (k9:Nat) (s:Int)=>[(5,.dat (vval (.int .u64 s))),(33,.dat (vint (k9:Int)))]) (fun (k9:Nat) (s:Int)=>[]) h3 H ⟨Z,Z,U⟩ U (fun _ _=>Z) ?_ ?_)))))
  ·rintro h8 H
   replace H:y12 h8=some r:=H
   unfold y12 at H
   refine zb hN Z (za (zw Z Z) (zd (zf _ Z (fun h=>(lt_t h).elim) (fun h => ?_))))
   refine yp (zb hN Z (qd Z (bE H fun r12 h13 H=>za (zo (w9a h8 16 r12 h13) ⟨.inl Z,.inl Z,U⟩) (qe Z (zb hN Z (qd Z (za (wl tyU9 Z) (za (yl _ Z Z (.inr (.inl ⟨Z,Z⟩))) (bE H fun r14 h15 H=>za (zo (w82 [48] (wr (16 - (r12.length:Int))) r14 h15) ⟨.inl Z,.inl Z,U⟩) (qd Z (gE H fun h16 H=>za (y2h Z Z (Nat.le_trans h16 (by decide))) (qe Z (zg ?_)))))))))))))
   cases H
   exact ⟨U,.inl Z,U⟩
  ·rintro k9 h8 q10 h17 H hq10
   replace H:y11 k9 h8=some q10:=H
   unfold y11 at H
   refine zb hN Z (za (zw Z Z) (zd (zf _ Z (fun h => ?_) (fun h=>(lt_f h17 h).elim))))
   exact zl (zd (zu (zk hN Z (qd Z (qd Z (za (yg (We Z Z (by decide)) Z) (za (yg (x5l Z Z) Z) (za (yl _ Z Z (.inr (.inr ⟨Z,Z⟩))) (qe Z (zk hN Z (za (qi Z Z (by omega)) (qd Z ⟨_,yw H,⟨Z,Z,U⟩,U⟩))))))))))))
 ·rintro k4 x7 h3 q5 h18 h19 H hq5
  replace H:z0t k4 x7 h3=some q5:=H
  unfold z0t at H
  refine zb hN Z (za (zw Z Z) (zd (zf _ Z (fun h => ?_) (fun h=>(lt_f h18 h).elim))))
  refine zl (zd (zu (zb hN Z (za (qp wv (fun _=>Z) Z Z h19) (za (yr tyS9 Z (ym h19) Z) (qe Z (zb hN Z (qd Z (za (wl tyU9 Z) (qd Z (zu (gE H fun h23 H=>qq (fun (k21:Nat) (s:Int)=>[(5,.dat (vval (.int .u64 s))),(7,.dat (vstr x7)),(13,.dat (vlst (List.map zt ([secret1,[0],text2,[0],secret1])))),(14,.dat (vint (([secret1,[0],text2,[0],secret1]).length:Int))),(15,.dat (vint (k4:Int))),(20,.dat (vint (x7.length:Int))),(21,.dat (vint (k21:Int)))]) (fun (k21:Nat) (s:Int)=>[]) h3 H ⟨Z,Z,Z,Z,Z,Z,Z,U⟩ U (fun _ _=>Z) ?_ ?_))))))))))))
  ·rintro h20 H
   replace H:y7g h20=some q5:=H
   unfold y7g at H
   refine zb hN Z (za (zw Z Z) (zd (zf _ Z (fun h=>(lt_t h).elim) (fun h => ?_))))
   exact yp (zk hN Z (za (qi Z Z (by omega)) (qd Z ⟨_,yw H,⟨Z,Z,Z,Z,U⟩,U⟩)))
  ·rintro k21 x24 h20 q22 h25 h26 H hq22
   replace H:y10 k21 x24 h20=some q22:=H
   unfold y10 at H
   refine zb hN Z (za (zw Z Z) (zd (zf _ Z (fun h => ?_) (fun h=>(lt_f h25 h).elim))))
   exact zl (zd (zu (zb hN Z (qd Z (qe Z (zk hN Z (qd Z (qd Z (qd Z (za (vh tyU9 Z Z h26) (za (jh tyU5 Zg Z) (za (yg (x5l Z Z) Z) (za (yl _ Z Z (.inr (.inr ⟨Z,Z⟩))) (qe Z (zk hN Z (za (qi Z Z (by omega)) (qd Z ⟨_,yw H,⟨Z,Z,Z,Z,Z,Z,Z,U⟩,U⟩)))))))))))))))))
theorem w8m (secret1:Bs) (text2:Bs) (r:(Bs×Int)) (H:z8h secret1 text2=some r):Fn Tryz.prog 9 [vstr secret1,vstr text2] (zr [vstr r.1,vint r.2]):=by
 refine ⟨by kernel_rfl,zx (us:=[vstr r.1,vint r.2]) Tryz.func9 Z Z Z Z fun X hN => ?_⟩
 unfold z8h at H
 refine zb hN Z (qe Z (qe Z (zd (zb hN Z (qd Z (bE H fun r3 h4 H=>za (zo (x7x secret1 r3 h4) ⟨.inl Z,U⟩) (qe Z (zb hN Z (qd Z (za (qj Z Z) (zf _ Z (fun h5 => ?_) (fun h5 => ?_))))))))))))
 ·refine tE h5 H fun H=>zb hN Z (qd Z (qe Z (qe Z (zg ?_))))
  cases H
  exact ⟨U,.inl Z,.inl Z,U⟩
 ·refine fE h5 H fun H=>zl (zb hN Z (qd Z (qd Z (bE H fun r6 h7 H=>za (zo (x0r secret1 text2 r6 h7) ⟨.inl Z,.inl Z,U⟩) (qe Z (qe Z (zg ?_)))))))
  cases H
  exact ⟨U,.inl Z,.inl Z,U⟩
theorem x75 (s1:(List wh)) (p1:wh→Option (Bool)) (fv1:Nat) (us1:List V) (hp1:∀ a0 r,p1 a0=some r→Fn Tryz.prog fv1 ([vagg (um a0)]++us1) (zr [zi r])) (r:(Int)) (H:y31 s1 p1=some r):Fn Tryz.prog 208 [vlst (List.map um s1),vfn fv1 us1] (zr [vint r]):=by
 refine ⟨by kernel_rfl,zx (us:=[vint r]) Tryz.func208 Z Z Z Z fun X hN => ?_⟩
 unfold y31 at H
 refine zb hN Z (qe Z (zd (zb hN Z (qd Z (za (yk y6q Z) (qd Z (zu (gE H fun h4 H=>qq (fun (k2:Nat) (s:Unit)=>[(0,.dat (vlst (List.map um s1))),(1,.dat (vfn fv1 us1)),(7,.dat (vint (s1.length:Int))),(8,.dat (vint (k2:Int)))]) (fun (k2:Nat) (s:Unit)=>[]) () H ⟨Z,Z,Z,Z,U⟩ U (fun _ _=>Z) ?_ ?_))))))))
 ·rintro ⟨⟩ H
  replace H:y8g=some r:=H
  unfold y8g at H
  refine zb hN Z (za (zw Z Z) (zd (zf _ Z (fun h=>(lt_t h).elim) (fun h => ?_))))
  refine yp (zb hN Z (qe Z (zg ?_)))
  cases H
  exact ⟨U,.inl Z,U⟩
 ·rintro k2 x5 ⟨⟩ q3 h6 h7 H hq3
  replace H:y8f p1 k2 x5=some q3:=H
  unfold y8f at H
  refine zb hN Z (za (zw Z Z) (zd (zf _ Z (fun h => ?_) (fun h=>(lt_f h6 h).elim))))
  refine zl (zd (zu (zb hN Z (qd Z (qe Z (zb hN Z (qd Z (qd Z (qd Z (za (qp z0s (fun _=>Z) Z Z h7) (za (vg y6s Z (ym h7) Z) (bE H fun r8 h9 H=>za (kz (hp1 x5 r8 h9) Z ⟨.inl Z,U⟩) (zf _ Z (fun h10 => ?_) (fun h10 => ?_))))))))))))))
  ·refine tE h10 H fun H=>zb hN Z (qd Z (qe Z (zg ?_)))
   replace H:=retl H hq3
   cases H
   exact ⟨U,.inl Z,U⟩
  ·exact fE h10 H fun H=>zl (zk hN Z (za (qi Z Z (by omega)) (qd Z ⟨_,yw H,⟨Z,Z,Z,Z,U⟩,U⟩)))
theorem w9g (s1:(List wh)) (p1:wh→Option (Bool)) (fv1:Nat) (us1:List V) (hp1:∀ a0 r,p1 a0=some r→Fn Tryz.prog fv1 ([vagg (um a0)]++us1) (zr [zi r])) (r:(Bool)) (H:y36 s1 p1=some r):Fn Tryz.prog 188 [vlst (List.map um s1),vfn fv1 us1] (zr [zi r]):=by
 refine ⟨by kernel_rfl,zx (us:=[zi r]) Tryz.func188 Z Z Z Z fun X hN => ?_⟩
 unfold y36 at H
 refine zb hN Z (qe Z (zb hN Z (qd Z (qd Z (bE H fun r2 h3 H=>za (zo (x75 s1 p1 fv1 us1 hp1 r2 h3) ⟨.inl Z,.inl Z,U⟩) (za (vt Z Z) (qe Z (zg ?_))))))))
 cases H
 exact ⟨U,.inl Z,U⟩
theorem w74 (o1:wh) (c2:wh) (r:(Bool)) (H:z73 o1 c2=some r):Fn Tryz.prog 189 [vagg (um o1),wt [[vstr c2.Id,vstr c2.Secret,vint c2.From,vint c2.To,vint c2.Until]] 0 0] (zr [zi r]):=by
 refine ⟨by kernel_rfl,zx (us:=[zi r]) Tryz.func189 Z Z Z Z fun X hN => ?_⟩
 unfold z73 at H
 refine zb hN Z (zj (qu 1 Z) Z (qe Z (zb hN Z (za (zn y1t Z) (zm (zp tyS9 Z Z) Z (za (vr y1t Z) (za (yr tyS9 Z Z Z) (za (vz Z Z) (qe Z (zg ?_))))))))))
 cases H
 exact ⟨U,.inl Z,U⟩
theorem w75 (l1:(List wh)) (i2:Int) (r:(Int)) (H:z74 l1 i2=some r):Fn Tryz.prog 134 [vlst (List.map um l1),vint i2] (zr [vint r]):=by
 refine ⟨by kernel_rfl,zx (us:=[vint r]) Tryz.func134 Z Z Z Z fun X hN => ?_⟩
 unfold z74 at H
 refine zb hN Z (qe Z (zb hN Z (qd Z (qd Z (bE H fun x3 h4 H=>za (wx z0s (fun _=>Z) Z Z h4) (za (vg y6s Z (ym (qk h4).2) Z) (zj (qm 1 w05 Z) Z (zj (yo y6s Z Z Z Z) Z (zd (zb hN Z (za (zn y1t Z) (zm (zp tyS9 Z Z) Z (bE H fun r5 h6 H=>za (zo (ku x3.Id r5 h6) ⟨.inl Z,U⟩) (za (yv Z) (zf _ Z (fun h7 => ?_) (fun h7 => ?_))))))))))))))))
 ·refine tE h7 H fun H=>zb hN Z (qe Z (zg ?_))
  cases H
  exact ⟨U,.inl Z,U⟩
 ·refine fE h7 H fun H=>zl (zd (zd (xk 1 [vstr x3.Id,vstr x3.Secret,vint x3.From,vint x3.To,vint x3.Until] Z Z (zk hN Z (qd Z (qd Z (bE H fun l8 h9 H=>za (y7v z0s (fun _=>Z) Z Z Z h9) (za (Ya (us:=[_]) ⟨Z,U⟩) (bE H fun r10 h11 H=>za (zo (w9g l8 (fun (a0:wh)=>z73 a0 x3) 189 [wt [[vstr x3.Id,vstr x3.Secret,vint x3.From,vint x3.To,vint x3.Until]] 0 0] (fun a0 r h=>w74 a0 x3 r h) r10 h11) ⟨.inl Z,.inl Z,U⟩) (zf _ Z (fun h12 => ?_) (fun h12 => ?_)))))))))))
  ·refine tE h12 H fun H=>zb hN Z (qe Z (zg ?_))
   cases H
   exact ⟨U,.inl Z,U⟩
  ·refine fE h12 H fun H=>zl (zd (zb hN Z (za (vr x4t Z) (za (yr tyS9 Z Z Z) (bE H fun r13 h14 H=>za (zo (x7x x3.Secret r13 h14) ⟨.inl Z,U⟩) (qe Z (zb hN Z (qd Z (za (qj Z Z) (zf _ Z (fun h15 => ?_) (fun h15 => ?_)))))))))))
   ·refine tE h15 H fun H=>zb hN Z (qd Z (qe Z (zg ?_)))
    cases H
    exact ⟨U,.inl Z,U⟩
   ·refine fE h15 H fun H=>zl (zd (zb hN Z (za (vr y1s Z) (za (yr tyS3 Z Z Z) (za (vr x4s Z) (za (yr tyS3 Z Z Z) (bE H fun r16 h17 H=>za (zo (ue x3.From 0 x3.To r16 h17) ⟨.inl Z,.inl Z,.inl Z,U⟩) (qd Z (yu Z Z (fun hc=>vr x4s Z) (yu Z Z (fun hc=>yr tyS3 (cnd (c:=(!r16)) hc) Z Z) (yu Z Z (fun hc=>vr y66 Z) (yu Z Z (fun hc=>yr tyS3 (cnd (c:=(!r16)) hc) Z Z) (yu Z Z (fun hc=>qh (cnd (c:=(!r16)) hc) (cnd (c:=(!r16)) hc)) (za (vk Z Z (fun hb=>(cnd (c:=(!r16)) (notI hb)))) (qd Z (yu Z Z (fun hc=>vr y66 Z) (yu Z Z (fun hc=>yr tyS3 (cnd (c:=(!(r16 || (decide (x3.Until < x3.To))))) hc) Z Z) (yu Z Z (fun hc=>qh (cnd (c:=(!(r16 || (decide (x3.Until < x3.To))))) hc) Z) (za (vk Z Z (fun hb=>(cnd (c:=(!(r16 || (decide (x3.Until < x3.To))))) (notI hb)))) (zf _ Z (fun h18 => ?_) (fun h18 => ?_)))))))))))))))))))))
    ·refine tE h18 H fun H=>zb hN Z (qe Z (zg ?_))
     cases H
     exact ⟨U,.inl Z,U⟩
    ·refine fE h18 H fun H=>zl (zd (yc (ι:=Bool) (fun i=>[(55,.dat (zi i))]) (fun i=>[]) (fun i=>Wb i=some r) (fun i=>Z) ?_ ?_))
     ·skip
      refine wg mixed hN Z Z (qd Z (za (qh Z Z) (qd Z (yi (j:=2) Z Z (fun h19 => ?_) (fun h19 => ?_) Z))))
      ·refine u1 h19 H fun h20 H=>ze Z Z h19 (vr y1s Z) (ze Z Z h19 (yr tyS3 Z Z Z) (ze Z Z h19 (zh (.dat _) Z) (ze Z Z h19 (zh (.dat _) Z) (ze Z Z h19 (yl _ Z Z (.inr (.inl ⟨Z,Z⟩))) (bE H fun x21 h22 H=>ze Z Z h19 (wx z0s (fun _=>Z) Z Z h22) (ze Z Z h19 (vr y1s Z) (ze Z Z h19 (yr tyS3 Z (ym (qk h22).2) Z) (ze Z Z h19 (zw Z Z) (za (yb Z (bTT h20) Z) ⟨Z,?_⟩)))))))))
       exact ⟨decide (x3.From < x21.From),H,⟨Z,U⟩,U⟩
      ·refine u2 h19 H fun h23 H=>zc Z Z h19 (zc Z Z h19 (zc Z Z h19 (zc Z Z h19 (zc Z Z h19 (zc Z Z h19 (zc Z Z h19 (zc Z Z h19 (zc Z Z h19 (za (ya Z (bFF h23) Z) ⟨Z,?_⟩)))))))))
       exact ⟨false,H,⟨Z,U⟩,U⟩
     ·rintro v24 H
      replace H:Wb v24=some r:=H
      unfold Wb at H
      refine zf _ Z (fun h25 => ?_) (fun h25 => ?_)
      ·refine tE h25 H fun H=>zb hN Z (qe Z (zg ?_))
       cases H
       exact ⟨U,.inl Z,U⟩
      ·refine fE h25 H fun H=>zl (zb hN Z (qe Z (zg ?_)))
       cases H
       exact ⟨U,.inl Z,U⟩
theorem x70 (l1:(List wh)) (r:(Int)) (H:z4e l1=some r):Fn Tryz.prog 72 [vlst (List.map um l1)] (zr [vint r]):=by
 refine ⟨by kernel_rfl,zx (us:=[vint r]) Tryz.func72 Z Z Z Z fun X hN => ?_⟩
 unfold z4e at H
 refine zb hN Z (qe Z (zd (zb hN Z (qd Z (za (yk y6q Z) (za (qh Z Z) (zf _ Z (fun h2 => ?_) (fun h2 => ?_))))))))
 ·refine tE h2 H fun H=>zb hN Z (qe Z (zg ?_))
  cases H
  exact ⟨U,.inl Z,U⟩
 ·refine fE h2 H fun H=>zl (zd (zb hN Z (qd Z (za (yk y6q Z) (qd Z (zu (gE H fun h5 H=>qq (fun (k3:Nat) (s:Unit)=>[(0,.dat (vlst (List.map um l1))),(9,.dat (vint (l1.length:Int))),(10,.dat (vint (k3:Int)))]) (fun (k3:Nat) (s:Unit)=>[]) () H ⟨Z,Z,Z,U⟩ U (fun _ _=>Z) ?_ ?_)))))))
  ·rintro ⟨⟩ H
   replace H:y7s=some r:=H
   unfold y7s at H
   refine zb hN Z (za (zw Z Z) (zd (zf _ Z (fun h=>(lt_t h).elim) (fun h => ?_))))
   refine yp (zb hN Z (qe Z (zg ?_)))
   cases H
   exact ⟨U,.inl Z,U⟩
  ·rintro k3 x6 ⟨⟩ q4 h7 h8 H hq4
   replace H:y2a l1 k3 x6=some q4:=H
   unfold y2a at H
   refine zb hN Z (za (zw Z Z) (zd (zf _ Z (fun h => ?_) (fun h=>(lt_f h7 h).elim))))
   refine zl (zd (zu (zb hN Z (qd Z (qe Z (zb hN Z (qd Z (qd Z (bE H fun r9 h10 H=>za (zo (w75 l1 (k3:Int) r9 h10) ⟨.inl Z,.inl Z,U⟩) (qe Z (zb hN Z (qd Z (za (qj Z Z) (zf _ Z (fun h11 => ?_) (fun h11 => ?_)))))))))))))))
   ·refine tE h11 H fun H=>zb hN Z (qd Z (qe Z (zg ?_)))
    replace H:=retl H hq4
    cases H
    exact ⟨U,.inl Z,U⟩
   ·exact fE h11 H fun H=>zl (zk hN Z (za (qi Z Z (by omega)) (qd Z ⟨_,yw H,⟨Z,Z,Z,U⟩,U⟩)))
end Go.Proofs.YtbndlmnjeofkdacGreatDoor
