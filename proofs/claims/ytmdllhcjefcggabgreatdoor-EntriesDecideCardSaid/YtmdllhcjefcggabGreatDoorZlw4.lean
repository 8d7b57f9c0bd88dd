/- Walks along the models. Printed by a program. -/
import Derived.Test.YtmdllhcjefcggabGreatDoorZlw3
namespace Go.Proofs.YtmdllhcjefcggabGreatDoor
open Go.RowKit
set_option linter.unusedVariables false
set_option maxRecDepth 100000
set_option maxHeartbeats 2000000
theorem z85 (s1:(List Bs)) (v2:Bs) (r:(Int)) (H:Yx s1 v2=some r):Fn Tryz.prog 86 [vlst (List.map zr s1),vstr v2] (zu [vint r]):=by
 refine ⟨by kernel_rfl,yh (us:=[vint r]) Tryz.func86 Z Z Z Z fun X hN => ?_⟩
 unfold Yx at H
 refine zb hN Z (qe Z (zh (zb hN Z (qd Z (za (qi wq Z) (qd Z (zw (gE H fun h5 H=>qw (fun (k3:Nat) (s:Unit)=>[(0,.dat (vlst (List.map zr s1))),(1,.dat (vstr v2)),(7,.dat (vint (s1.length:Int))),(8,.dat (vint (k3:Int)))]) (fun (k3:Nat) (s:Unit)=>[]) () H ⟨Z,Z,Z,Z,U⟩ U (fun _ _=>Z) ?_ ?_))))))))
 ·rintro ⟨⟩ H
  replace H:y4u=some r:=H
  unfold y4u at H
  refine zb hN Z (za (zx Z Z) (zh (zg _ Z (fun h=>(lt_t h).elim) (fun h => ?_))))
  refine yt (zb hN Z (qe Z (zi ?_)))
  cases H
  exact ⟨U,.inl Z,U⟩
 ·rintro k3 x6 ⟨⟩ q4 h7 h8 H hq4
  replace H:y4t v2 k3 x6=some q4:=H
  unfold y4t at H
  refine zb hN Z (za (zx Z Z) (zh (zg _ Z (fun h => ?_) (fun h=>(lt_f h7 h).elim))))
  refine zl (zh (zw (zb hN Z (qd Z (qe Z (zb hN Z (qd Z (qd Z (qd Z (za (we vj (fun _=>Z) Z Z h8) (za (qu tyS9 Z (qh h8) Z) (za (va Z Z) (zg _ Z (fun h9 => ?_) (fun h9 => ?_))))))))))))))
  ·refine tE h9 H fun H=>zb hN Z (qd Z (qe Z (zi ?_)))
   replace H:=retl H hq4
   cases H
   exact ⟨U,.inl Z,U⟩
  ·exact fE h9 H fun H=>zl (zp hN Z (za (qs Z Z (by omega)) (qd Z ⟨_,yx H,⟨Z,Z,Z,Z,U⟩,U⟩)))
theorem w0u (s1:(List Bs)) (v2:Bs) (r:(Bool)) (H:z79 s1 v2=some r):Fn Tryz.prog 118 [vlst (List.map zr s1),vstr v2] (zu [ze r]):=by
 refine ⟨by kernel_rfl,yh (us:=[ze r]) Tryz.func118 Z Z Z Z fun X hN => ?_⟩
 unfold z79 at H
 refine zb hN Z (qe Z (zb hN Z (qd Z (qd Z (bE H fun r3 h4 H=>za (zk (z85 s1 v2 r3 h4) ⟨.inl Z,.inl Z,U⟩) (za (wt Z Z) (qe Z (zi ?_))))))))
 cases H
 exact ⟨U,.inl Z,U⟩
theorem w0a (l r:List Bs) (H:uz l=some r):FnG Tryz.prog 167 [.dat (vlst (List.map zr l))] [] (.row 900 r.length) [(900,.row 9 1 (List.map zr r))]:=by
 obtain ⟨hl,rfl⟩:=x4q H
 refine ub (by kernel_rfl) Tryz.func167 Z Z Z Z fun X A hN => ?_
 refine x4z 0 Z (fun h0 => ?_) ?_
 ·obtain rfl:=List.map_eq_nil_iff.1 h0
  refine zb hN Z (qe Z (zh (zb hN Z (qd Z (za (y9q wq Z) (zg _ Z (fun h => ?_) (fun h=>by cases h)))))))
  exact zb hN Z (qe Z (jg 2 900 9 1 Z Z Z (zi ⟨U,[(2,.row 900 0)],⟨Z,U⟩,⟨Z,U⟩,Z,.inr (.inl ⟨2,Z,Z⟩)⟩)))
 ·refine zb hN Z (qe Z (zh (zb hN Z (qd Z (za (y9r wq Z) (zg _ Z (fun h=>by cases h) (fun h => ?_)))))))
  refine zl (zh (x4y 0 (u':=vlst (List.map zr l)) Z y70 (zp hN Z (zj (y9m 900 yu) Z (qd Z (zj (y9f (C:=zr) (xs:=[]) yu (fun _=>Z) Z Z Z (by simpa using hl) Z) Z ?_))))))
  exact za (qm (.row _ _) Z) (zi ⟨U,[(2,.row 900 l.length)],⟨Z,U⟩,⟨Z,U⟩,Z,.inr (.inl ⟨2,Z,Z⟩)⟩)
theorem x1j (l r:List Bs) (H:Zs l=some r):FnG Tryz.prog 76 [.row 0 l.length] [(0,.rowA undef 9 1 (List.map zr l))] (.dat (zu [])) [(0,.rowA undef 9 1 (List.map zr r))]:=by
 obtain ⟨hl,hr⟩:=y97 H
 refine x3y (fun s:Bs=>Value.string ⟨s.toArray⟩) r l (z7g H) (by kernel_rfl) (fun _=>Z) (fun blk cap w hH hb => ?_) (fun h w => ?_)
 ·rw [hr]; exact Tryz.slices_Sort_string blk 0 cap l w hH hb (by omega)
 ·exact Tryz.slices_Sort_string_none none 0 w
theorem x1l (l r:List Bs) (H:z1b l=some r):FnG Tryz.prog 77 [.row 0 l.length] [(0,.row 9 1 (List.map zr l))] (.row 900 r.length) [(900,.row 9 1 (List.map zr r))]:=by
 obtain ⟨h1,rfl⟩:=w4d H
 exact w3i (fun s:Bs=>Value.string ⟨s.toArray⟩) [] (Lib.compact l) l (w4c l) (by kernel_rfl) (fun _=>Z) (fun blk cap w hH hc=>Tryz.slices_Compact_string blk 0 cap l w hH (by omega) hc) (fun h a cap w=>Tryz.slices_Compact_string_empty a cap w)
theorem w1a (l1:(List Bs)) (r:((List Bs))) (H:z4i l1=some r):Fn Tryz.prog 119 [vlst (List.map zr l1)] (zu [vlst (List.map zr r)]):=by
 refine ⟨by kernel_rfl,yh (us:=[vlst (List.map zr r)]) Tryz.func119 Z Z Z Z fun X hN => ?_⟩
 unfold z4i at H
 refine zb hN Z (qe Z (zb hN Z (qd Z (bE H fun r2 h3 H=>ww (rn [(900,1)]) [] [(900,_)] (w0a l1 r2 h3) ⟨Z,U⟩ ⟨.inl (.inl Z),U⟩ U Z (za (qm (.row _ _) Z) (zb hN Z (za (zd (.row _ _) Z) (bE H fun r4 h5 H=>ww (rn [(0,1)]) [(0,_,_,some _)] [] (x1j r2 r4 h5) ⟨Z,U⟩ ⟨.inl (.inl Z),U⟩ ⟨⟨⟨Z,Z,Z⟩,by simp [uh,z7g h5]⟩,U⟩ Z ?_))))))))
 refine zb hN Z (za (zd (.row _ _) Z) (bE H fun r6 h7 H=>ww (rn [(0,1),(900,2)]) [(0,_,_,none)] [(900,_)] (x1l r4 r6 h7) ⟨Z,Z,U⟩ ⟨.inl (.inl (congrArg (Slot.row 1) (z7g h5).symm)),U⟩ ⟨⟨⟨Z,Z,Z⟩,U⟩,U⟩ Z (za (qm (.row _ _) Z) (zi ?_))))
 cases H
 exact ⟨U,z0p Z Z,U⟩
theorem Ya (s:Bs) (r:Bs) (H:jo s=some r):Fn Tryz.prog 75 [vstr s] (zu [vstr r]):=by
 unfold jo at H
 obtain ⟨⟨h1,h2⟩,h3⟩:=gif H
 cases h3
 refine Zh (by kernel_rfl) fun M w vs hM h => ?_
 have hv:=kr (us:=[.string ⟨s.toArray⟩]) h
 subst hv
 refine (Tryz.strings_ToLower_ascii ⟨s.toArray⟩ w (by simp [ByteArray.size]; omega) (fun j b hb=>z6z h2 j b (by simpa using hb))).mono ?_
 rintro e w' ⟨rfl,hb⟩
 exact ⟨_,Z,Z,Kp.of_below hb⟩

theorem w0b (values1:(List Bs)) (r:((List Bs))) (H:Wm values1=some r):FnG Tryz.prog 60 [.dat (vlst (List.map zr values1))] [] (.row 1 r.length) [(1,.row 9 1 (List.map zr r))]:=by
 refine ub (by kernel_rfl) Tryz.func60 Z Z Z Z fun X A hN => ?_
 unfold Wm at H
 refine zb hN Z (qe Z (zb hN Z (qe Z (zh (zb hN Z (qd Z (za (qi wq Z) (qd Z (zw (jg 3 1 9 1 Z Z Z (gE H fun h5 H=>qw (fun (k3:Nat) (s:(List Bs))=>[(3,.row 1 s.length),(8,.dat (vlst (List.map zr values1))),(9,.dat (vint (values1.length:Int))),(10,.dat (vint (k3:Int)))]) (fun (k3:Nat) (s:(List Bs))=>[(1,.row 9 1 (List.map zr s))]) [] H ⟨Z,Z,Z,Z,U⟩ ⟨Z,U⟩ (fun _ _=>Z) ?_ ?_)))))))))))
 ·rintro l2 H
  replace H:z3v l2=some r:=H
  unfold z3v at H
  refine zb hN Z (za (zx Z Z) (zh (zg _ Z (fun h=>(lt_t h).elim) (fun h => ?_))))
  refine yt (zb hN Z (za (zd (.row _ _) Z) (za (qm (.row _ _) Z) (zi ?_))))
  cases H
  exact ⟨U,[(2,.row 1 _)],⟨Z,U⟩,⟨Z,U⟩,Z,.inr (.inl ⟨2,Z,Z⟩)⟩
 ·rintro k3 x6 l2 q4 h7 h8 H hq4
  replace H:Ys k3 x6 l2=some q4:=H
  unfold Ys at H
  refine zb hN Z (za (zx Z Z) (zh (zg _ Z (fun h => ?_) (fun h=>(lt_f h7 h).elim))))
  refine zl (zh (zw (zb hN Z (za (we vj (fun _=>Z) Z Z h8) (za (qu tyS9 Z (qh h8) Z) (qe Z (zb hN Z (qd Z (bE H fun r9 h10 H=>za (zk (Qb x6 [44] r9 h10) ⟨.inl Z,.inl Z,U⟩) (za (qi wq Z) (qd Z (zw (gE H fun h14 H=>qw (fun (k12:Nat) (s:(List Bs))=>[(3,.row 1 s.length),(8,.dat (vlst (List.map zr values1))),(9,.dat (vint (values1.length:Int))),(10,.dat (vint (k3:Int))),(15,.dat (vlst (List.map zr r9))),(16,.dat (vint (r9.length:Int))),(17,.dat (vint (k12:Int)))]) (fun (k12:Nat) (s:(List Bs))=>[(1,.row 9 1 (List.map zr s))]) l2 H ⟨Z,Z,Z,Z,Z,Z,Z,U⟩ ⟨Z,U⟩ (fun _ _=>Z) ?_ ?_)))))))))))))
  ·rintro l11 H
   replace H:z3u l11=some q4:=H
   unfold z3u at H
   refine zb hN Z (za (zx Z Z) (zh (zg _ Z (fun h=>(lt_t h).elim) (fun h => ?_))))
   exact yt (zp hN Z (za (qs Z Z (by omega)) (qd Z ⟨_,yx H,⟨Z,Z,Z,Z,U⟩,⟨Z,U⟩⟩)))
  ·rintro k12 x15 l11 q13 h16 h17 H hq13
   replace H:Yr k12 x15 l11=some q13:=H
   unfold Yr at H
   refine zb hN Z (za (zx Z Z) (zh (zg _ Z (fun h => ?_) (fun h=>(lt_f h16 h).elim))))
   refine zl (yd (ι:=(List Bs)) (fun i=>[(3,.row 1 i.length),(8,.dat (vlst (List.map zr values1))),(9,.dat (vint (values1.length:Int))),(10,.dat (vint (k3:Int))),(15,.dat (vlst (List.map zr r9))),(16,.dat (vint (r9.length:Int))),(17,.dat (vint (k12:Int)))]) (fun i=>[(1,.row 9 1 (List.map zr i))]) (fun i=>Yt i=some q13) (fun i=>Z) ?_ ?_)
   ·skip
    refine zw (zb hN Z (za (we vj (fun _=>Z) Z Z h17) (za (qu tyS9 Z (qh h17) Z) (qe Z (zb hN Z (qd Z (bE H fun r18 h19 H=>za (zk (z5d x15 [32] r18 h19) ⟨.inl Z,.inl Z,U⟩) (qe Z (zb hN Z (qd Z (za (ji Z Z) (zg _ Z (fun h20 => ?_) (fun h20 => ?_)))))))))))))
    ·refine tE h20 H fun H=>zp hN Z (za (zd (.row _ _) Z) (qd Z (za (ya (u':=vlst (List.map zr [r18])) (yo [[_]] yu ⟨Z,.inl ⟨_,Z,Z,Z⟩,Z,U⟩ Z Z) Z) (gE H fun h21 H=>zj (vk yu (fun _=>Z) Z Z Z ⟨by simp,by first | (simp; done) | simpa using h21⟩ Z) Z ?_))))
     exact za (qm (.row _ _) Z) ⟨(l11++[r18]),H,⟨Z,Z,Z,Z,Z,Z,Z,U⟩,⟨Z,U⟩⟩
    ·exact fE h20 H fun H=>zl ⟨l11,H,⟨Z,Z,Z,Z,Z,Z,Z,U⟩,⟨Z,U⟩⟩
   ·rintro out22 H
    replace H:Yt out22=some q13:=H
    unfold Yt at H
    exact zp hN Z (za (qs Z Z (by omega)) (qd Z ⟨_,yx H,⟨Z,Z,Z,Z,Z,Z,Z,U⟩,⟨Z,U⟩⟩))
theorem y6r (a1:qc) (r:((List Bs)×Bool×Int)) (H:Zz a1=some r):Fn Tryz.prog 64 [vagg (Zj a1)] (zu [vlst (List.map zr r.1),ze r.2.1,vint r.2.2]):=by
 refine ⟨by kernel_rfl,yh (us:=[vlst (List.map zr r.1),ze r.2.1,vint r.2.2]) Tryz.func64 Z Z Z Z fun X hN => ?_⟩
 unfold Zz at H
 refine zb hN Z (zj (wd 1 Z) Z (qe Z (qe Z (qe Z (zb hN Z (za (zq xu Z) (zm (zv wb Z Z) Z (bE H fun r2 h3 H=>za (zk (z86 a1.Headers [118,97,114,121] r2 h3) ⟨.inl Z,.inl Z,U⟩) (bE H fun r4 h5 H=>ww (rn [(1,2)]) [] [(1,_)] (w0b r2 r4 h5) ⟨Z,U⟩ ⟨.inl (.inl Z),U⟩ U Z (za (qm (.row _ _) Z) (zh (zb hN Z (za (zd (.row _ _) Z) (zm (Qx wq Z Z) Z (qd Z (zw (gE H fun h9 H=>y7m (fun (k7:Nat) (s:(List Bs))=>[(5,.row 2 s.length),(12,.row 2 s.length),(13,.dat (vint (r4.length:Int))),(14,.dat (vint (k7:Int)))]) (fun (k7:Nat) (s:(List Bs))=>[(2,.row 9 1 (List.map zr s))]) r4 H ⟨Z,Z,Z,Z,U⟩ ⟨Z,U⟩ (fun _ _=>Z) ?_ ?_)))))))))))))))))
 ·rintro l6 H
  replace H:z0j l6=some r:=H
  unfold z0j at H
  refine zb hN Z (za (zx Z Z) (zh (zg _ Z (fun h=>(lt_t h).elim) (fun h => ?_))))
  refine yt (zh (zh (Yn 5 2 Z Z Z (zp hN Z (qd Z (bE H fun r10 h11 H=>za (zk (w0u l6 [42] r10 h11) ⟨.inl Z,.inl Z,U⟩) (zg _ Z (fun h12 => ?_) (fun h12 => ?_))))))))
  ·refine tE h12 H fun H=>zb hN Z (qe Z (qe Z (qe Z (zi ?_))))
   cases H
   exact ⟨U,.inr ⟨Z,Z⟩,.inl Z,.inl Z,U⟩
  ·refine fE h12 H fun H=>zl (zb hN Z (qd Z (bE H fun r13 h14 H=>za (zk (w1a l6 r13 h14) ⟨.inl Z,U⟩) (qe Z (zh (zb hN Z (qd Z (za (qi wq Z) (za (wg Z Z) (zg _ Z (fun h15 => ?_) (fun h15 => ?_)))))))))))
   ·refine tE h15 H fun H=>zb hN Z (qe Z (qe Z (qe Z (zi ?_))))
    cases H
    exact ⟨U,.inr ⟨Z,Z⟩,.inl Z,.inl Z,U⟩
   ·refine fE h15 H fun H=>zl (zb hN Z (qd Z (qe Z (qe Z (qe Z (zi ?_))))))
    cases H
    exact ⟨U,.inl Z,.inl Z,.inl Z,U⟩
 ·rintro k7 l6 q8 h16 H hq8
  replace H:z2w k7 l6=some q8:=H
  unfold z2w at H
  refine zb hN Z (za (zx Z Z) (zh (zg _ Z (fun h => ?_) (fun h=>(lt_f h16 h).elim))))
  refine zl (zh (zw (zb hN Z (qd Z (bE H fun x17 h18 H=>zm (y00 vj Z Z Z h18) Z (zm (x6i tyS9 Z Z h18 Z) Z (qe Z (qe Z (zh (zb hN Z (qd Z (bE H fun r19 h20 H=>za (zk (y2z x17 r19 h20) ⟨.inl Z,U⟩) (za (yq Z) (zg _ Z (fun h21 => ?_) (fun h21 => ?_)))))))))))))))
  ·refine tE h21 H fun H=>zb hN Z (qe Z (qe Z (qe Z (zi ?_))))
   replace H:=retl H hq8
   cases H
   exact ⟨U,.inr ⟨Z,Z⟩,.inl Z,.inl Z,U⟩
  ·exact fE h21 H fun H=>zl (zp hN Z (za (zd (.row _ _) Z) (qd Z (qd Z (bE H fun r22 h23 H=>za (zk (Ya x17 r22 h23) ⟨.inl Z,U⟩) (zm (y00 vj Z Z Z h18) Z (zj (y9a r22 tyS9 Z Z Z Z h18 Z Z) Z (zp hN Z (za (qs Z Z (by omega)) (qd Z ⟨_,yx H,⟨congrArg (Slot.row 2) (by simp),congrArg (Slot.row 2) (by simp),Z,Z,U⟩,⟨Z,U⟩⟩))))))))))
theorem w2j (e1:qr) (r:(Int)) (H:z81 e1=some r):Fn Tryz.prog 57 [vagg (xr e1)] (zu [vint r]):=by
 refine ⟨by kernel_rfl,yh (us:=[vint r]) Tryz.func57 Z Z Z Z fun X hN => ?_⟩
 unfold z81 at H
 refine zb hN Z (zj (wd 1 Z) Z (qe Z (zh (zb hN Z (za (zq z29 Z) (zm (qa yy Z Z Z) Z (bE H fun r2 h3 H=>za (zk (y6i e1.Request r2 h3) ⟨.inl Z,U⟩) (qe Z (zb hN Z (qd Z (za (qp Z Z) (zg _ Z (fun h4 => ?_) (fun h4 => ?_)))))))))))))
 ·refine tE h4 H fun H=>zb hN Z (qd Z (qe Z (zi ?_)))
  cases H
  exact ⟨U,.inl Z,U⟩
 ·refine fE h4 H fun H=>zl (zh (zb hN Z (za (zq Zm Z) (zm (qa ur Z Z Z) Z (bE H fun r5 h6 H=>za (zk (x2j e1.Response r5 h6) ⟨.inl Z,U⟩) (qe Z (zb hN Z (qd Z (za (qp Z Z) (zg _ Z (fun h7 => ?_) (fun h7 => ?_)))))))))))
  ·refine tE h7 H fun H=>zb hN Z (qd Z (qe Z (zi ?_)))
   cases H
   exact ⟨U,.inl Z,U⟩
  ·refine fE h7 H fun H=>zl (zh (yd (ι:=Bool) (fun i=>[(1,.ptr 1 0),(30,.dat (ze i))]) (fun i=>[(1,.box none 33 [.dat (vint e1.Request.At),.dat (vstr e1.Request.Method),.dat (vstr e1.Request.Host),.dat (vstr e1.Request.Path),.dat (vstr e1.Request.Query),.dat (vstr e1.Request.From),.dat (vlst (List.map yb e1.Request.Headers)),.dat (vstr e1.Request.Body),.dat (vint e1.Response.Status),.dat (vlst (List.map yb e1.Response.Headers)),.dat (vstr e1.Response.Body),.dat (vint e1.At),.dat (vlst (List.map zr e1.Tags)),.dat (vint e1.Used)])]) (fun i=>z2y e1 i=some r) (fun i=>Z) ?_ ?_))
   ·skip
    refine zp hN Z (za (zq Yl Z) (zm (zv tyS3 Z Z) Z (bE H fun r8 h9 H=>za (zk (y6k e1.At r8 h9) ⟨.inl Z,U⟩) (za (yq Z) (qd Z (yi (j:=4) Z Z (fun h10 => ?_) (fun h10 => ?_) Z))))))
    ·exact u3 h10 H fun h11 H=>zf Z Z h10 (zq y0r Z) (vt Z Z h10 (zv tyS3 Z Z) Z (bE H fun r12 h13 H=>zf Z Z h10 (zk (y6k e1.Used r12 h13) ⟨.inl Z,U⟩) (zf Z Z h10 (yq Z) (za (ye Z (bFF h11) Z) ⟨!r12,H,⟨Z,Z,U⟩,⟨Z,U⟩⟩))))
    ·exact u4 h10 H fun h14 H=>zc Z Z h10 (zc Z Z h10 (zc Z Z h10 (zc Z Z h10 (za (yf Z (bTT h14) Z) ⟨true,H,⟨Z,Z,U⟩,⟨Z,U⟩⟩))))
   ·rintro v15 H
    replace H:z2y e1 v15=some r:=H
    unfold z2y at H
    refine zg _ Z (fun h16 => ?_) (fun h16 => ?_)
    ·refine tE h16 H fun H=>zb hN Z (qe Z (zi ?_))
     cases H
     exact ⟨U,.inl Z,U⟩
    ·refine fE h16 H fun H=>zl (zh (zb hN Z (za (zq z0o Z) (zm (zv jp Z Z) Z (za (qi wq Z) (za (wg Z Z) (zg _ Z (fun h17 => ?_) (fun h17 => ?_))))))))
     ·refine tE h17 H fun H=>zb hN Z (qe Z (zi ?_))
      cases H
      exact ⟨U,.inl Z,U⟩
     ·refine fE h17 H fun H=>zl (zh (zb hN Z (za (zq z0o Z) (zm (zv jp Z Z) Z (bE H fun r18 h19 H=>za (zk (w09 e1.Tags r18 h19) ⟨.inl Z,U⟩) (qe Z (zb hN Z (qd Z (za (qp Z Z) (zg _ Z (fun h20 => ?_) (fun h20 => ?_)))))))))))
      ·refine tE h20 H fun H=>zb hN Z (qd Z (qe Z (zi ?_)))
       cases H
       exact ⟨U,.inl Z,U⟩
      ·refine fE h20 H fun H=>zl (zb hN Z (za (zq Zm Z) (zm (qa ur Z Z Z) Z (bE H fun r21 h22 H=>za (zk (y6r e1.Response r21 h22) ⟨.inl Z,U⟩) (qd Z (za (yc Z Z) (za (yc Z Z) (za (yc Z Z) (qe Z (qe Z (qe Z (zb hN Z (qd Z (qe Z (zi ?_)))))))))))))))
       cases H
       exact ⟨U,.inl Z,U⟩
theorem w2b (e1:qr) (r2:zz) (r:(Int)) (H:y2o e1 r2=some r):Fn Tryz.prog 29 [vagg (xr e1),vagg (qx r2)] (zu [vint r]):=by
 refine ⟨by kernel_rfl,yh (us:=[vint r]) Tryz.func29 Z Z Z Z fun X hN => ?_⟩
 unfold y2o at H
 refine zb hN Z (zj (wd 1 Z) Z (zj (wd 2 Z) Z (qe Z (zh (zb hN Z (zm (qa uq Z Z Z) Z (bE H fun r3 h4 H=>za (zk (w2j e1 r3 h4) ⟨.inl Z,U⟩) (qe Z (zb hN Z (qd Z (za (qp Z Z) (zg _ Z (fun h5 => ?_) (fun h5 => ?_)))))))))))))
 ·refine tE h5 H fun H=>zb hN Z (qd Z (qe Z (zi ?_)))
  cases H
  exact ⟨U,.inl Z,U⟩
 ·refine fE h5 H fun H=>zl (zb hN Z (zm (qa yy Z Z Z) Z (bE H fun r6 h7 H=>za (zk (y6i r2 r6 h7) ⟨.inl Z,U⟩) (qe Z (zi ?_)))))
  cases H
  exact ⟨U,.inl Z,U⟩
theorem x3b (qb:Nat) (r:((List Bs)×(List Int))) (H:z8y  = some r):Fn Tryz.prog 59 [vval (.pointer (some ⟨qb,0,none⟩))] (zu [vlst (List.map zr r.1),vlst (List.map (CP qb) r.2)]):=by
 refine ⟨by kernel_rfl,yh (us:=[vlst (List.map zr r.1),vlst (List.map (CP qb) r.2)]) Tryz.func59 Z Z Z Z fun X hN => ?_⟩
 unfold z8y at H
 refine zb hN Z (qe Z (qe Z (zh (wz mixed hN Z Z (za (ya (u':=vlst (List.map zr [[109,97,120,45,97,103,101],[115,45,109,97,120,97,103,101],[115,116,97,108,101,45,119,104,105,108,101,45,114,101,118,97,108,105,100,97,116,101],[115,116,97,108,101,45,105,102,45,101,114,114,111,114],[109,97,120,45,115,116,97,108,101],[109,105,110,45,102,114,101,115,104]])) (yo [[_],[_],[_],[_],[_],[_]] yu ⟨Z,.inl ⟨_,Z,Z,Z⟩,Z,Z,.inl ⟨_,Z,Z,Z⟩,Z,Z,.inl ⟨_,Z,Z,Z⟩,Z,Z,.inl ⟨_,Z,Z,Z⟩,Z,Z,.inl ⟨_,Z,Z,Z⟩,Z,Z,.inl ⟨_,Z,Z,Z⟩,Z,U⟩ Z Z) Z) (qd Z (za (vz Z) (za (ja Zl Z) (qd Z (za (vz Z) (za (ja z28 Z) (qd Z (za (vz Z) (za (ja z27 Z) (qd Z (za (vz Z) (za (ja y8q Z) (qd Z (za (vz Z) (za (ja z66 Z) (qd Z (za (vz Z) (za (ja Qt Z) ?_)))))))))))))))))))))))
 refine za (ya (u':=vlst (List.map (CP qb) ([6,7,8,9,10,11]:List Int))) (yo [[_],[_],[_],[_],[_],[_]] y8m ⟨Z,.inl ⟨_,Z,Z,Z⟩,Z,Z,.inl ⟨_,Z,Z,Z⟩,Z,Z,.inl ⟨_,Z,Z,Z⟩,Z,Z,.inl ⟨_,Z,Z,Z⟩,Z,Z,.inl ⟨_,Z,Z,Z⟩,Z,Z,.inl ⟨_,Z,Z,Z⟩,Z,U⟩ Z Z) Z) (qe Z (qe Z ⟨Z,?_⟩))
 refine zi ?_
 cases H
 exact ⟨U,.inl Z,.inl Z,U⟩
theorem x3a (s1:Bs) (r:(Int×Bool)) (H:z43 s1=some r):Fn Tryz.prog 70 [vstr s1] (zu [vint r.1,ze r.2]):=by
 refine ⟨by kernel_rfl,yh (us:=[vint r.1,ze r.2]) Tryz.func70 Z Z Z Z fun X hN => ?_⟩
 unfold z43 at H
 refine zb hN Z (qe Z (qe Z (zb hN Z (qd Z (bE H fun r2 h3 H=>za (zk (x2l s1 r2 h3) ⟨.inl Z,U⟩) (qd Z (za (yc Z Z) (za (yc Z Z) (qe Z (qe Z (yd (ι:=Bool) (fun i=>[(2,.dat (vint r2.1)),(3,.dat (ze i))]) (fun i=>[]) (fun i=>z6t r2 i=some r) (fun i=>Z) ?_ ?_)))))))))))
 ·skip
  refine zp hN Z (qd Z (qd Z (qd Z (yi (j:=2) Z Z (fun h4 => ?_) (fun h4 => ?_) Z))))
  ·exact u1 h4 H fun h5 H=>zf Z Z h4 (zd (.dat _) Z) (bE H fun r6 h7 H=>zf Z Z h4 (zk (y6j r2.1 0 100000000 r6 h7) ⟨.inl Z,.inl Z,.inl Z,U⟩) (zf Z Z h4 (yq Z) (za (yf Z (bTT h5) Z) (qe Z (qe Z ⟨!r6,H,⟨Z,Z,U⟩,U⟩)))))
  ·exact u2 h4 H fun h8 H=>zc Z Z h4 (zc Z Z h4 (zc Z Z h4 (za (ye Z (bFF h8) Z) (qe Z (qe Z ⟨false,H,⟨Z,Z,U⟩,U⟩)))))
 ·rintro v9 H
  replace H:z6t r2 v9=some r:=H
  unfold z6t at H
  refine zi ?_
  cases H
  exact ⟨U,.inl Z,.inl Z,U⟩
theorem w2d (qb:Nat) (r:((List Bs)×(List Int))) (H:y2p  = some r):Fn Tryz.prog 108 [vval (.pointer (some ⟨qb,0,none⟩))] (zu [vlst (List.map zr r.1),vlst (List.map (CP qb) r.2)]):=by
 refine ⟨by kernel_rfl,yh (us:=[vlst (List.map zr r.1),vlst (List.map (CP qb) r.2)]) Tryz.func108 Z Z Z Z fun X hN => ?_⟩
 unfold y2p at H
 refine zb hN Z (qe Z (qe Z (zh (wz mixed hN Z Z (za (ya (u':=vlst (List.map zr [[110,111,45,115,116,111,114,101],[110,111,45,99,97,99,104,101],[112,114,105,118,97,116,101],[112,117,98,108,105,99],[109,117,115,116,45,114,101,118,97,108,105,100,97,116,101],[111,110,108,121,45,105,102,45,99,97,99,104,101,100]])) (yo [[_],[_],[_],[_],[_],[_]] yu ⟨Z,.inl ⟨_,Z,Z,Z⟩,Z,Z,.inl ⟨_,Z,Z,Z⟩,Z,Z,.inl ⟨_,Z,Z,Z⟩,Z,Z,.inl ⟨_,Z,Z,Z⟩,Z,Z,.inl ⟨_,Z,Z,Z⟩,Z,Z,.inl ⟨_,Z,Z,Z⟩,Z,U⟩ Z Z) Z) (qd Z (za (vz Z) (za (ja y8u Z) (qd Z (za (vz Z) (za (ja Qu Z) (qd Z (za (vz Z) (za (ja y8t Z) (qd Z (za (vz Z) (za (ja y8s Z) (qd Z (za (vz Z) (za (ja y0q Z) (qd Z (za (vz Z) (za (ja y8r Z) ?_)))))))))))))))))))))))
 refine za (ya (u':=vlst (List.map (CP qb) ([0,1,2,3,4,5]:List Int))) (yo [[_],[_],[_],[_],[_],[_]] y8p ⟨Z,.inl ⟨_,Z,Z,Z⟩,Z,Z,.inl ⟨_,Z,Z,Z⟩,Z,Z,.inl ⟨_,Z,Z,Z⟩,Z,Z,.inl ⟨_,Z,Z,Z⟩,Z,Z,.inl ⟨_,Z,Z,Z⟩,Z,Z,.inl ⟨_,Z,Z,Z⟩,Z,U⟩ Z Z) Z) (qe Z (qe Z ⟨Z,?_⟩))
 refine zi ?_
 cases H
 exact ⟨U,.inl Z,.inl Z,U⟩
theorem w18 (s1:zy) (v2:Bs) (r:(Bool×zy)) (H:z41 s1 v2=some r):Imp Tryz.prog 62 61 (vg s1) [vstr v2] (zu [ze r.1]) (vg r.2):=by
 refine kf (us:=[ze r.1]) (cs':=(vg r.2)) (by kernel_rfl) Tryz.func62 Z Z Z Z fun X bl hN => ?_
 unfold z41 at H
 refine zb hN Z (qe Z (zb hN Z (qd Z (bE H fun r3 h4 H=>za (zk (z1q v2 [61] r3 h4) ⟨.inl Z,.inl Z,U⟩) (qd Z (za (yc Z Z) (za (yc Z Z) (za (yc Z Z) (qe Z (qe Z (qe Z (zb hN Z (qd Z (bE H fun r5 h6 H=>za (zk (x3a r3.2.1 r5 h6) ⟨.inl Z,U⟩) (qd Z (za (yc Z Z) (za (yc Z Z) (qe Z (qe Z (zh (zb hN Z ?_)))))))))))))))))))))
 refine qd Z (bE H fun r7 h8 H=>za (zk (y2z r3.1 r7 h8) ⟨.inl Z,U⟩) (za (yq Z) (qd Z (yn Z Z (fun hc=>zd (.dat _) Z) (yn Z Z (fun hc=>zd (.dat _) (cnd (c:=(!(!r7))) hc)) (wj Z Z (fun hc=>zd (.dat _) Z) (wj Z Z (fun hc=>yq (cnd (c:=((!(!r7)) && r3.2.2)) hc)) (yn Z Z (fun hc=>wm (cnd (c:=(!(!r7))) hc) (fun hb=>(cnd (c:=((!(!r7)) && r3.2.2)) (andI hc hb))) Z) (za (wv Z Z (fun hb=>(cnd (c:=(!(!r7))) (notI hb)))) (zg _ Z (fun h9 => ?_) (fun h9 => ?_)))))))))))
 ·refine tE h9 H fun H=>zb hN Z (qe Z (zi ?_))
  cases H
  exact ⟨U,⟨.inl Z,U⟩,Z⟩
 ·refine fE h9 H fun H=>zl (zb hN Z (qd Z (bE H fun r10 h11 H=>za (zk (Ya r3.1 r10 h11) ⟨.inl Z,U⟩) (qe Z (zb hN Z (za (zd (.ptr _ _) Z) (bE H fun r12 h13 H=>zm (wy (s := .dr 0 (fun qb=>vtup [vlst (List.map zr r12.1),vlst (List.map (CP qb) r12.2)])) 0 (fun qb=>zk (w2d qb r12 h13) ⟨.inl Z,U⟩) Z Z) Z (za (zd (.dr _ _) Z) (zm (wy (s := .dat (vlst (List.map zr r12.1))) 0 (fun qb=>yc Z Z) Z Z) Z (zm (wy (s := .dr 0 (fun qb=>vlst (List.map (CP qb) r12.2))) 0 (fun qb=>yc Z Z) Z Z) Z (qe Z (za (qm (.dr _ _) Z) (zh (zb hN Z (qd Z (qd Z (bE H fun r14 h15 H=>za (zk (z85 r12.1 r10 r14 h15) ⟨.inl Z,.inl Z,U⟩) (qe Z (zb hN Z ?_)))))))))))))))))))
  refine qd Z (za (wt Z Z) (zg _ Z (fun h16 => ?_) (fun h16 => ?_)))
  ·refine tE h16 H fun H=>zb hN Z (za (zd (.dr _ _) Z) (qd Z (bE H fun x17 h18 H=>zm (wy (s := .dr 0 (fun qb=>wo (List.map (CP qb) r12.2) r14.toNat 0)) 0 (fun qb=>uu y83 (fun _=>Z) Z Z h18) Z Z) Z (gE H fun h19 H=>zm (wy (s := .ptr 0 x17.toNat) 0 (fun qb=>qu y8i Z (qh (vo h18).2) Z) Z Z) Z (za (jd Z) (bE H fun c20 h21 H=>zj (z3g tyS4 Z Z Z (y90 (c:=s1) h19 h21)) Z (zb hN Z (qd Z (za (yq Z) (qe Z (zi ?_)))))))))))
   cases H
   exact ⟨U,⟨.inl Z,U⟩,Z⟩
  ·refine fE h16 H fun H=>zl (zb hN Z (za (zd (.ptr _ _) Z) (bE H fun r22 h23 H=>zm (wy (s := .dr 0 (fun qb=>vtup [vlst (List.map zr r22.1),vlst (List.map (CP qb) r22.2)])) 0 (fun qb=>zk (x3b qb r22 h23) ⟨.inl Z,U⟩) Z Z) Z (za (zd (.dr _ _) Z) (zm (wy (s := .dat (vlst (List.map zr r22.1))) 0 (fun qb=>yc Z Z) Z Z) Z (zm (wy (s := .dr 0 (fun qb=>vlst (List.map (CP qb) r22.2))) 0 (fun qb=>yc Z Z) Z Z) Z (qe Z (za (qm (.dr _ _) Z) (zb hN Z (qd Z (qd Z (bE H fun r24 h25 H=>za (zk (z85 r22.1 r10 r24 h25) ⟨.inl Z,.inl Z,U⟩) (qe Z (zh (zb hN Z (qd Z (za (zx Z Z) (zg _ Z (fun h26 => ?_) (fun h26 => ?_)))))))))))))))))))
   ·refine tE h26 H fun H=>zb hN Z (qe Z (zi ?_))
    cases H
    exact ⟨U,⟨.inl Z,U⟩,Z⟩
   ·refine fE h26 H fun H=>zl (yd (ι:=Bool×Bool×Bool×Bool×Bool×Bool×Int×Int×Int×Int×Int×Int) (fun i=>[(7,.dat (ze r3.2.2))]) (fun i=>[(0,.box (some bl) 61 [.dat (ze i.1),.dat (ze i.2.1),.dat (ze i.2.2.1),.dat (ze i.2.2.2.1),.dat (ze i.2.2.2.2.1),.dat (ze i.2.2.2.2.2.1),.dat (vint i.2.2.2.2.2.2.1),.dat (vint i.2.2.2.2.2.2.2.1),.dat (vint i.2.2.2.2.2.2.2.2.1),.dat (vint i.2.2.2.2.2.2.2.2.2.1),.dat (vint i.2.2.2.2.2.2.2.2.2.2.1),.dat (vint i.2.2.2.2.2.2.2.2.2.2.2)])]) (fun i=>z6s r3 i.1 i.2.1 i.2.2.1 i.2.2.2.1 i.2.2.2.2.1 i.2.2.2.2.2.1 i.2.2.2.2.2.2.1 i.2.2.2.2.2.2.2.1 i.2.2.2.2.2.2.2.2.1 i.2.2.2.2.2.2.2.2.2.1 i.2.2.2.2.2.2.2.2.2.2.1 i.2.2.2.2.2.2.2.2.2.2.2=some r) (fun i=>Z) ?_ ?_)
    ·skip
     refine yd (ι:=Bool) (fun i=>[(7,.dat (ze r3.2.2)),(8,.dat (vint r5.1)),(13,.dr 0 (fun qb=>vlst (List.map (CP qb) r22.2))),(14,.dat (vint r24)),(81,.dat (ze i))]) (fun i=>[(0,.box (some bl) 61 [.dat (ze s1.NoStore),.dat (ze s1.NoCache),.dat (ze s1.Private),.dat (ze s1.Public),.dat (ze s1.Must),.dat (ze s1.Only),.dat (vint s1.MaxAge),.dat (vint s1.Shared),.dat (vint s1.Stale),.dat (vint s1.OnError),.dat (vint s1.MaxStale),.dat (vint s1.MinFresh)])]) (fun i=>z6r s1 r3 r5 r22 r24 i=some r) (fun i=>Z) ?_ ?_
     ·skip
      refine zp hN Z (za (zd (.dr _ _) Z) (qd Z (bE H fun x27 h28 H=>zm (wy (s := .dr 0 (fun qb=>wo (List.map (CP qb) r22.2) r24.toNat 0)) 0 (fun qb=>uu z3a (fun _=>Z) Z Z h28) Z Z) Z (gE H fun h29 H=>zm (wy (s := .ptr 0 x27.toNat) 0 (fun qb=>qu z26 Z (qh (vo h28).2) Z) Z Z) Z (za (jd Z) (zm (zv tyS3 Z (y3d (c:=s1) h29)) Z (za (qf Z Z) (qd Z (yi (j:=7) Z Z (fun h30 => ?_) (fun h30 => ?_) Z)))))))))
      ·exact u3 h30 H fun h31 H=>zf Z Z h30 (zd (.dat _) Z) (zf Z Z h30 (zd (.dr _ _) Z) (zf Z Z h30 (zd (.dat _) Z) (vt Z Z h30 (wy (s := .dr 0 (fun qb=>wo (List.map (CP qb) r22.2) r24.toNat 0)) 0 (fun qb=>uu z3a (fun _=>Z) Z Z h28) Z Z) Z (gE H fun h32 H=>vt Z Z h30 (wy (s := .ptr 0 x27.toNat) 0 (fun qb=>qu z26 Z (qh (vo h28).2) Z) Z Z) Z (zf Z Z h30 (jd Z) (vt Z Z h30 (zv tyS3 Z (y3d (c:=s1) h32)) Z (zf Z Z h30 (zx Z Z) (za (ye Z (bFF h31) Z) ⟨decide (r5.1 < (vx s1 x27)),H,⟨Z,Z,Z,Z,Z,U⟩,⟨Z,U⟩⟩))))))))
      ·exact u4 h30 H fun h33 H=>zc Z Z h30 (zc Z Z h30 (zc Z Z h30 (zc Z Z h30 (zc Z Z h30 (zc Z Z h30 (zc Z Z h30 (zc Z Z h30 (za (yf Z (bTT h33) Z) ⟨true,H,⟨Z,Z,Z,Z,Z,U⟩,⟨Z,U⟩⟩))))))))
     ·rintro v34 H
      replace H:z6r s1 r3 r5 r22 r24 v34=some r:=H
      unfold z6r at H
      refine zg _ Z (fun h35 => ?_) (fun h35 => ?_)
      ·exact tE h35 H fun H=>zp hN Z (za (zd (.dr _ _) Z) (qd Z (bE H fun x36 h37 H=>zm (wy (s := .dr 0 (fun qb=>wo (List.map (CP qb) r22.2) r24.toNat 0)) 0 (fun qb=>uu z3a (fun _=>Z) Z Z h37) Z Z) Z (gE H fun h38 H=>zm (wy (s := .ptr 0 x36.toNat) 0 (fun qb=>qu z26 Z (qh (vo h37).2) Z) Z Z) Z (qd Z (za (jd Z) (bE H fun c39 h40 H=>zj (z3g tyS3 Z Z Z (y08 (c:=s1) h38 h40)) Z ⟨(c39.NoStore,c39.NoCache,c39.Private,c39.Public,c39.Must,c39.Only,c39.MaxAge,c39.Shared,c39.Stale,c39.OnError,c39.MaxStale,c39.MinFresh),H,⟨Z,U⟩,⟨Z,U⟩⟩)))))))
      ·exact fE h35 H fun H=>zl ⟨(s1.NoStore,s1.NoCache,s1.Private,s1.Public,s1.Must,s1.Only,s1.MaxAge,s1.Shared,s1.Stale,s1.OnError,s1.MaxStale,s1.MinFresh),H,⟨Z,U⟩,⟨Z,U⟩⟩
    ·rintro ⟨c41,c42,c43,c44,c45,c46,c47,c48,c49,c50,c51,c52⟩ H
     replace H:z6s r3 c41 c42 c43 c44 c45 c46 c47 c48 c49 c50 c51 c52=some r:=H
     unfold z6s at H
     refine zb hN Z (qd Z (qe Z (zi ?_)))
     cases H
     exact ⟨U,⟨.inl Z,U⟩,Z⟩
theorem y6s (l1:(List zn)) (r:(zy×Int)) (H:Zd l1=some r):Fn Tryz.prog 30 [vlst (List.map yb l1)] (zu [vagg (vg r.1),vint r.2]):=by
 refine ⟨by kernel_rfl,yh (us:=[vagg (vg r.1),vint r.2]) Tryz.func30 Z Z Z Z fun X hN => ?_⟩
 unfold Zd at H
 refine zb hN Z (zj (qv 1 ue Z) Z (qe Z (zb hN Z (za (ya (u':=vagg (vg (zy.mk false false false false false false 0 0 0 0 0 0))) (wx [] ue z65 Z U) Z) (zj (qv 2 ue Z) Z (zj (qk vy Z Z Z Z) Z (zb hN Z (bE H fun r2 h3 H=>zm (wy (s := .dr 2 (fun qb=>vtup [vlst (List.map zr r2.1),vlst (List.map (CP qb) r2.2)])) 2 (fun qb=>zk (x3b qb r2 h3) ⟨.inl Z,U⟩) Z Z) Z (za (zd (.dr _ _) Z) (zm (wy (s := .dat (vlst (List.map zr r2.1))) 2 (fun qb=>yc Z Z) Z Z) Z (zm (wy (s := .dr 2 (fun qb=>vlst (List.map (CP qb) r2.2))) 2 (fun qb=>yc Z Z) Z Z) Z (qe Z (za (qm (.dr _ _) Z) (zh (zb hN Z (za (zd (.dr _ _) Z) (zm (wy (s := .dat (vint (r2.2.length:Int))) 2 (fun qb=>qi y8d Z) Z Z) Z (qd Z (zw (gE H fun h18 H=>qw (fun (k16:Nat) (s:Bool×Bool×Int×Int×Bool×Bool×Bool×Bool×Int×Int×Int×Int)=>[(0,.dat (vlst (List.map yb l1))),(2,.ptr 1 0),(4,.ptr 2 0),(16,.dr 2 (fun qb=>vlst (List.map (CP qb) r2.2))),(17,.dat (vint (r2.2.length:Int))),(18,.dat (vint (k16:Int)))]) (fun (k16:Nat) (s:Bool×Bool×Int×Int×Bool×Bool×Bool×Bool×Int×Int×Int×Int)=>[(1,.box none 61 [.dat (ze false),.dat (ze false),.dat (ze false),.dat (ze false),.dat (ze false),.dat (ze false),.dat (vint 0),.dat (vint 0),.dat (vint 0),.dat (vint 0),.dat (vint 0),.dat (vint 0)]),(2,.box none 61 [.dat (ze s.1),.dat (ze s.2.1),.dat (ze s.2.2.2.2.1),.dat (ze s.2.2.2.2.2.1),.dat (ze s.2.2.2.2.2.2.1),.dat (ze s.2.2.2.2.2.2.2.1),.dat (vint s.2.2.2.2.2.2.2.2.1),.dat (vint s.2.2.2.2.2.2.2.2.2.1),.dat (vint s.2.2.2.2.2.2.2.2.2.2.1),.dat (vint s.2.2.2.2.2.2.2.2.2.2.2),.dat (vint s.2.2.1),.dat (vint s.2.2.2.1)])]) (false,false,0,0,false,false,false,false,0,0,0,0) H ⟨Z,Z,Z,Z,Z,Z,U⟩ ⟨Z,Z,U⟩ (fun _ _=>Z) ?_ ?_))))))))))))))))))))
 ·rintro ⟨c4,c5,c6,c7,c8,c9,c10,c11,c12,c13,c14,c15⟩ H
  replace H:z2x l1 c4 c5 c6 c7 c8 c9 c10 c11 c12 c13 c14 c15=some r:=H
  unfold z2x at H
  refine zb hN Z (za (zx Z Z) (zh (zg _ Z (fun h=>(lt_t h).elim) (fun h => ?_))))
  refine yt (zh (zb hN Z (qd Z (bE H fun r20 h21 H=>za (zk (z86 l1 [99,97,99,104,101,45,99,111,110,116,114,111,108] r20 h21) ⟨.inl Z,.inl Z,U⟩) (bE H fun r22 h23 H=>za (zk (w02 r20 r22 h23) ⟨.inl Z,U⟩) (za (qi wq Z) (qd Z (zw (gE H fun h38 H=>qw (fun (k36:Nat) (s:Bool×Bool×Int×Int×Bool×Bool×Bool×Bool×Int×Int×Int×Int)=>[(2,.ptr 1 0),(4,.ptr 2 0),(27,.dat (vlst (List.map zr r22))),(28,.dat (vint (r22.length:Int))),(29,.dat (vint (k36:Int)))]) (fun (k36:Nat) (s:Bool×Bool×Int×Int×Bool×Bool×Bool×Bool×Int×Int×Int×Int)=>[(1,.box none 61 [.dat (ze false),.dat (ze false),.dat (ze false),.dat (ze false),.dat (ze false),.dat (ze false),.dat (vint 0),.dat (vint 0),.dat (vint 0),.dat (vint 0),.dat (vint 0),.dat (vint 0)]),(2,.box none 61 [.dat (ze s.1),.dat (ze s.2.1),.dat (ze s.2.2.2.2.1),.dat (ze s.2.2.2.2.2.1),.dat (ze s.2.2.2.2.2.2.1),.dat (ze s.2.2.2.2.2.2.2.1),.dat (vint s.2.2.2.2.2.2.2.2.1),.dat (vint s.2.2.2.2.2.2.2.2.2.1),.dat (vint s.2.2.2.2.2.2.2.2.2.2.1),.dat (vint s.2.2.2.2.2.2.2.2.2.2.2),.dat (vint s.2.2.1),.dat (vint s.2.2.2.1)])]) (c4,c5,c6,c7,c8,c9,c10,c11,c12,c13,c14,c15) H ⟨Z,Z,Z,Z,Z,U⟩ ⟨Z,Z,U⟩ (fun _ _=>Z) ?_ ?_)))))))))
  ·rintro ⟨c24,c25,c26,c27,c28,c29,c30,c31,c32,c33,c34,c35⟩ H
   replace H:y3v c24 c25 c26 c27 c28 c29 c30 c31 c32 c33 c34 c35=some r:=H
   unfold y3v at H
   refine zb hN Z (za (zx Z Z) (zh (zg _ Z (fun h=>(lt_t h).elim) (fun h => ?_))))
   refine yt (zb hN Z (zm (qa vy Z Z Z) Z (zj (qk vy Z Z Z Z) Z (qe Z (zi ?_)))))
   cases H
   exact ⟨U,.inl ⟨_,_,_,vg (zy.mk c24 c25 c28 c29 c30 c31 c32 c33 c34 c35 c26 c27),Z,Z,Z,Z,vy⟩,.inl Z,U⟩
  ·rintro k36 x39 ⟨c24,c25,c26,c27,c28,c29,c30,c31,c32,c33,c34,c35⟩ q37 h40 h41 H hq37
   replace H:z0k k36 x39 c24 c25 c26 c27 c28 c29 c30 c31 c32 c33 c34 c35=some q37:=H
   unfold z0k at H
   refine zb hN Z (za (zx Z Z) (zh (zg _ Z (fun h => ?_) (fun h=>(lt_f h40 h).elim))))
   refine zl (zh (zw (zb hN Z (za (we vj (fun _=>Z) Z Z h41) (za (qu tyS9 Z (qh h41) Z) (qe Z (zb hN Z (qd Z (bE H fun r42 h43 H=>zj (yl (w18 (zy.mk c24 c25 c28 c29 c30 c31 c32 c33 c34 c35 c26 c27) x39 r42 h43) Z ⟨.inl Z,U⟩ Z) Z (za (yq Z) (zg _ Z (fun h44 => ?_) (fun h44 => ?_))))))))))))
   ·refine tE h44 H fun H=>zb hN Z (za (ya (u':=vagg (vg (zy.mk false false false false false false 0 0 0 0 0 0))) (wx [] ue z65 Z U) Z) (zj (qk vy Z Z Z Z) Z (qe Z (zi ?_))))
    replace H:=retl H hq37
    cases H
    exact ⟨U,.inl ⟨_,_,_,vg (zy.mk false false false false false false 0 0 0 0 0 0),Z,Z,Z,Z,vy⟩,.inl Z,U⟩
   ·exact fE h44 H fun H=>zl (zp hN Z (za (qs Z Z (by omega)) (qd Z ⟨_,yx H,⟨Z,Z,Z,Z,Z,U⟩,⟨Z,Z,U⟩⟩)))
 ·rintro k16 x19 ⟨c4,c5,c6,c7,c8,c9,c10,c11,c12,c13,c14,c15⟩ q17 h45 h46 H hq17
  replace H:y7i k16 x19 c4 c5 c6 c7 c8 c9 c10 c11 c12 c13 c14 c15=some q17:=H
  unfold y7i at H
  refine zb hN Z (za (zx Z Z) (zh (zg _ Z (fun h => ?_) (fun h=>(lt_f h45 h).elim))))
  exact zl (zh (zw (zb hN Z (zm (wy (s := .dr 2 (fun qb=>wo (List.map (CP qb) r2.2) k16 0)) 2 (fun qb=>we z3a (fun _=>Z) Z Z h46) Z Z) Z (gE H fun h47 H=>zm (wy (s := .ptr 2 x19.toNat) 2 (fun qb=>qu z26 Z (qh h46) Z) Z Z) Z (za (qm (.ptr _ _) Z) (zp hN Z (za (zd (.ptr _ _) Z) (za (jd Z) (bE H fun c48 h49 H=>zj (z3g tyS3 Z Z Z (y08 (c:=(zy.mk c4 c5 c8 c9 c10 c11 c12 c13 c14 c15 c6 c7)) h47 h49)) Z (zp hN Z (za (qs Z Z (by omega)) (qd Z ⟨_,yx H,⟨Z,Z,Z,Z,Z,Z,U⟩,⟨Z,Z,U⟩⟩)))))))))))))
theorem w05 (s1:Bs) (r:(Bs×Int)) (H:z4g s1=some r):Fn Tryz.prog 109 [vstr s1] (zu [vstr r.1,vint r.2]):=by
 refine ⟨by kernel_rfl,yh (us:=[vstr r.1,vint r.2]) Tryz.func109 Z Z Z Z fun X hN => ?_⟩
 unfold z4g at H
 refine zb hN Z (qe Z (qe Z (zh (zb hN Z (qd Z (bE H fun r2 h3 H=>za (zk (x2c s1 r2 h3) ⟨.inl Z,U⟩) (za (yq Z) (zg _ Z (fun h4 => ?_) (fun h4 => ?_)))))))))
 ·refine tE h4 H fun H=>zb hN Z (qe Z (qe Z (zi ?_)))
  cases H
  exact ⟨U,.inl Z,.inl Z,U⟩
 ·refine fE h4 H fun H=>zl (zb hN Z (qd Z (bE H fun r5 h6 H=>za (zk (Ya s1 r5 h6) ⟨.inl Z,U⟩) (bE H fun r7 h8 H=>za (zk (z1q r5 [58] r7 h8) ⟨.inl Z,.inl Z,U⟩) (qd Z (za (yc Z Z) (za (yc Z Z) (za (yc Z Z) (qe Z (qe Z (qe Z (zh (zb hN Z (qd Z (za (va Z Z) (qd Z (yn Z Z (fun hc=>zd (.dat _) Z) (yn Z Z (fun hc=>va (cnd (c:=(!(decide (r7.2.1=[])))) hc) Z) (za (wv Z Z (fun hb=>(cnd (c:=(!(decide (r7.2.1=[])))) (notI hb)))) (qd Z ?_))))))))))))))))))))
  refine yn Z Z (fun hc=>zd (.dat _) Z) (yn Z Z (fun hc=>va (cnd (c:=(!((decide (r7.2.1=[])) || (decide (r7.2.1=[56,48]))))) hc) Z) (za (wv Z Z (fun hb=>(cnd (c:=(!((decide (r7.2.1=[])) || (decide (r7.2.1=[56,48]))))) (notI hb)))) (zg _ Z (fun h9 => ?_) (fun h9 => ?_))))
  ·refine tE h9 H fun H=>zb hN Z (qd Z (qe Z (qe Z (zi ?_))))
   cases H
   exact ⟨U,.inl Z,.inl Z,U⟩
  ·refine fE h9 H fun H=>zl (zb hN Z (qd Z (gE H fun h10 H=>za (jj Z Z (Nat.le_trans h10 (by decide))) (qd Z (gE H fun h11 H=>za (jj Z Z (Nat.le_trans h11 (by decide))) (qe Z (qe Z (zi ?_))))))))
   cases H
   exact ⟨U,.inl Z,.inl Z,U⟩
theorem z1p (l1:(List Int)) (c2:Int) (r:(Int×(List Int))) (H:Zc l1 c2=some r):FnG Tryz.prog 125 [.ptr 0 0,.dat (vval (.int .u8 c2))] [(0,.box (some 0) 121 [.nptr 0,.row 1 l1.length]),(1,.row 5 1 (List.map ql l1))] (.dat (zu [verr r.1])) [(0,.box (some 0) 121 [.nptr 0,.row 900 r.2.length]),(900,.row 5 1 (List.map ql r.2))]:=by
 refine ub (by kernel_rfl) Tryz.func125 Z Z Z Z fun X A hN => ?_
 refine ve ?_
 unfold Zc at H
 refine zb hN Z (qe Z (zb hN Z (za (zd (.ptr _ _) Z) (zj (y9t x4u Z) Z (zb hN Z (za (zd (.ptr _ _) Z) (za (zd (.ptr _ _) Z) (za (jd Z) (za (zq y0t Z) (zm (zv y0l Z Z) Z (qd Z (za (ya (u':=vlst (List.map ql [c2])) (yo [[_]] Zk ⟨Z,.inl ⟨_,Z,Z,Z⟩,Z,U⟩ Z Z) Z) (gE H fun h3 H=>zj (vk Zk (fun _=>Z) Z Z Z ⟨by simp,by first | (simp; done) | simpa using h3⟩ Z) Z ?_)))))))))))))
 refine za (jd Z) (za (zq y0t Z) (uw (uv y0l Z Z (by rw [List.length_map]) Z) Z Z ?_))
 refine zb hN Z (qe Z (zi ?_))
 cases H
 show Cv _ _ _ _
 exact wu (rn [(1,900)]) [(4,.dat (verr 0))] [(0,.box (some (A.bl 0)) 121 [.nptr 0,.row 1 ((l1++[c2]).length)]),(1,.row 5 1 (List.map ql (l1++[c2])))] ⟨Z,U⟩ ⟨Z,Z,U⟩ Z Z ⟨U,[(4,.dat (verr 0))],⟨Z,U⟩,⟨Z,Z,U⟩,Z,.inl ⟨[verr 0],⟨Z,U⟩,Z⟩⟩
theorem x2d (c1:Int) (r:(Bool)) (H:z4d c1=some r):Fn Tryz.prog 255 [vval (.int .u8 c1)] (zu [ze r]):=by
 refine ⟨by kernel_rfl,yh (us:=[ze r]) Tryz.func255 Z Z Z Z fun X hN => ?_⟩
 unfold z4d at H
 refine zb hN Z (qe Z (zb hN Z (qd Z (bE H fun r2 h3 H=>za (zk (y2y c1 r2 h3) ⟨.inl Z,U⟩) (qd Z (yn Z Z (fun hc=>zd (.dat _) Z) (yn Z Z (fun hc=>wt (cnd (c:=(!r2)) hc) Z) (yn Z Z (fun hc=>zd (.dat _) (cnd (c:=(!r2)) hc)) (wj Z Z (fun hc=>zd (.dat _) Z) (wj Z Z (fun hc=>wi (cnd (c:=((!r2) && (decide (97≤c1)))) hc) Z) (yn Z Z (fun hc=>wm (cnd (c:=(!r2)) hc) (fun hb=>(cnd (c:=((!r2) && (decide (97≤c1)))) (andI hc hb))) Z) (za (wv Z Z (fun hb=>(cnd (c:=(!r2)) (notI hb)))) (qd Z (yn Z Z (fun hc=>zd (.dat _) Z) (yn Z Z (fun hc=>wt (cnd (c:=(!(r2 || ((decide (97≤c1)) && (decide (c1≤102)))))) hc) Z) (yn Z Z (fun hc=>zd (.dat _) (cnd (c:=(!(r2 || ((decide (97≤c1)) && (decide (c1≤102)))))) hc)) (wj Z Z (fun hc=>zd (.dat _) Z) (wj Z Z (fun hc=>wi (cnd (c:=((!(r2 || ((decide (97≤c1)) && (decide (c1≤102))))) && (decide (65≤c1)))) hc) Z) (yn Z Z (fun hc=>wm (cnd (c:=(!(r2 || ((decide (97≤c1)) && (decide (c1≤102)))))) hc) (fun hb=>(cnd (c:=((!(r2 || ((decide (97≤c1)) && (decide (c1≤102))))) && (decide (65≤c1)))) (andI hc hb))) Z) (za (wv Z Z (fun hb=>(cnd (c:=(!(r2 || ((decide (97≤c1)) && (decide (c1≤102)))))) (notI hb)))) (qe Z (zi ?_))))))))))))))))))))))
 cases H
 exact ⟨U,.inl Z,U⟩
theorem x2b (s1:Bs) (v2:Int) (r:(Bool)) (H:Wi s1 v2=some r):Fn Tryz.prog 212 [vstr s1,vint v2] (zu [ze r]):=by
 refine ⟨by kernel_rfl,yh (us:=[ze r]) Tryz.func212 Z Z Z Z fun X hN => ?_⟩
 unfold Wi at H
 refine zb hN Z (qe Z (yd (ι:=Bool) (fun i=>[(4,.dat (ze i))]) (fun i=>[]) (fun i=>z00 i=some r) (fun i=>Z) ?_ ?_))
 ·skip
  refine zp hN Z (qd Z (za (yj _ Z Z (.inl ⟨Z,Z⟩)) (qd Z (za (qj tyU9 Z) (za (zx Z Z) (qd Z (yi (j:=5) Z Z (fun h3 => ?_) (fun h3 => ?_) Z)))))))
  ·refine u1 h3 H fun h4 H=>zf Z Z h3 (zd (.dat _) Z) (zf Z Z h3 (zd (.dat _) Z) (zf Z Z h3 (yj _ Z Z (.inl ⟨Z,Z⟩)) (bE H fun x5 h6 H=>zf Z Z h3 (kh tyU9 Z Z h6) (bE H fun r7 h8 H=>zf Z Z h3 (zk (x2d (x5.toNat:Int) r7 h8) ⟨.inl Z,U⟩) (za (yf Z (bTT h4) Z) (qd Z (yi (j:=12) Z Z (fun h9 => ?_) (fun h9 => ?_) Z)))))))
   ·exact u1 h9 H fun h10 H=>zf Z Z h9 (zd (.dat _) Z) (zf Z Z h9 (zd (.dat _) Z) (zf Z Z h9 (yj _ Z Z (.inl ⟨Z,Z⟩)) (bE H fun x11 h12 H=>zf Z Z h9 (kh tyU9 Z Z h12) (bE H fun r13 h14 H=>zf Z Z h9 (zk (x2d (x11.toNat:Int) r13 h14) ⟨.inl Z,U⟩) (za (yf Z (bTT h10) Z) (qe Z ⟨r13,H,⟨Z,U⟩,U⟩))))))
   ·exact u2 h9 H fun h15 H=>zc Z Z h9 (zc Z Z h9 (zc Z Z h9 (zc Z Z h9 (zc Z Z h9 (za (ye Z (bFF h15) Z) (qe Z ⟨false,H,⟨Z,U⟩,U⟩))))))
  ·exact u2 h3 H fun h16 H=>zc Z Z h3 (zc Z Z h3 (zc Z Z h3 (zc Z Z h3 (zc Z Z h3 (za (ye Z (bFF h16) Z) (qd Z (zc Z Z Z (zc Z Z Z (zc Z Z Z (zc Z Z Z (zc Z Z Z (za (ye Z Z Z) (qe Z ⟨false,H,⟨Z,U⟩,U⟩)))))))))))))
 ·rintro v17 H
  replace H:z00 v17=some r:=H
  unfold z00 at H
  refine zi ?_
  cases H
  exact ⟨U,.inl Z,U⟩
theorem x1t (s1:Bs) (base2:Int) (bitSize3:Int) (r:(Int×Int)) (H:z38 s1 base2 bitSize3=some r):Fn Tryz.prog 247 [vstr s1,vint base2,vint bitSize3] (zu [vval (.int .u64 r.1),verr r.2]):=by
 refine ⟨by kernel_rfl,yh (us:=[vval (.int .u64 r.1),verr r.2]) Tryz.func247 Z Z Z Z fun X hN => ?_⟩
 unfold z38 at H
 refine zb hN Z (qe Z (qe Z (zb hN Z (qd Z (qd Z (qd Z (bE H fun r4 h5 H=>za (zk (x2m s1 base2 bitSize3 r4 h5) ⟨.inl Z,.inl Z,.inl Z,U⟩) (qd Z (za (yc Z Z) (za (yc Z Z) (qe Z (qe Z (zh (zb hN Z (qd Z (za (z7f (n:=r4.2) (show Tryz.prog.underlying 124=some (.interface (Tryz.prog.methodsAt 124)) from by kernel_rfl) Z) ?_))))))))))))))))
 refine zg _ Z (fun h6 => ?_) (fun h6 => ?_)
 ·refine tE h6 H fun H=>zb hN Z (qd Z (qd Z (qd Z (qd Z (qd Z (bE H fun r7 h8 H=>za (zk (x1s [80,97,114,115,101,85,105,110,116] s1 base2 bitSize3 r4.2 r7 h8) ⟨.inl Z,.inl Z,.inl Z,.inl Z,.inl Z,U⟩) (qe Z (qe Z (zi ?_)))))))))
  cases H
  exact ⟨U,.inl Z,.inl Z,U⟩
 ·refine fE h6 H fun H=>zl (zb hN Z (qd Z (qe Z (qe Z (zi ?_)))))
  cases H
  exact ⟨U,.inl Z,.inl Z,U⟩
theorem x1x (s1:Bs) (v2:Int) (r:(Int)) (H:z4b s1 v2=some r):Fn Tryz.prog 213 [vstr s1,vint v2] (zu [vval (.int .u8 r)]):=by
 refine ⟨by kernel_rfl,yh (us:=[vval (.int .u8 r)]) Tryz.func213 Z Z Z Z fun X hN => ?_⟩
 unfold z4b at H
 refine zb hN Z (qe Z (zb hN Z (qd Z (qd Z (za (yj _ Z Z (.inl ⟨Z,Z⟩)) (qd Z (za (yj _ Z Z (.inl ⟨Z,Z⟩)) (bE H fun l3 h4 H=>za (jc tyU9 Z Z Z h4) (bE H fun r5 h6 H=>za (zk (x1t l3 16 8 r5 h6) ⟨.inl Z,.inl Z,.inl Z,U⟩) (qd Z (za (yc Z Z) (za (yc Z Z) (qe Z (qe Z (zh (zb hN Z (qd Z (za (z7f (n:=r5.2) (show Tryz.prog.underlying 124=some (.interface (Tryz.prog.methodsAt 124)) from by kernel_rfl) Z) ?_))))))))))))))))))
 refine zg _ Z (fun h7 => ?_) (fun h7 => ?_)
 ·refine tE h7 H fun H=>zb hN Z (qe Z (zi ?_))
  cases H
  exact ⟨U,.inl Z,U⟩
 ·refine fE h7 H fun H=>zl (zb hN Z (qd Z (za (jn Yj tyU5 Z) (qe Z (zi ?_)))))
  cases H
  exact ⟨U,.inl Z,U⟩
theorem x2e (c1:Int) (r:(Bool)) (H:Zu c1=some r):Fn Tryz.prog 214 [vval (.int .u8 c1)] (zu [ze r]):=by
 refine ⟨by kernel_rfl,yh (us:=[ze r]) Tryz.func214 Z Z Z Z fun X hN => ?_⟩
 unfold Zu at H
 refine zb hN Z (qe Z (yd (ι:=Bool) (fun i=>[(2,.dat (ze i))]) (fun i=>[]) (fun i=>z3s i=some r) (fun i=>Z) ?_ ?_))
 ·skip
  refine zp hN Z (qd Z (bE H fun r2 h3 H=>za (zk (y6h c1 r2 h3) ⟨.inl Z,U⟩) (qd Z (yi (j:=2) Z Z (fun h4 => ?_) (fun h4 => ?_) Z))))
  ·refine u3 h4 H fun h5 H=>zf Z Z h4 (zd (.dat _) Z) (bE H fun r6 h7 H=>zf Z Z h4 (zk (y2y c1 r6 h7) ⟨.inl Z,U⟩) (za (ye Z (bFF h5) Z) (qd Z (yi (j:=6) Z Z (fun h8 => ?_) (fun h8 => ?_) Z))))
   ·exact u3 h8 H fun h9 H=>zf Z Z h8 (zd (.dat _) Z) (bE H fun r10 h11 H=>zf Z Z h8 (zk (y2w [45,46,95,126] c1 r10 h11) ⟨.inl Z,.inl Z,U⟩) (zf Z Z h8 (wt Z Z) (za (ye Z (bFF h9) Z) (qe Z ⟨decide (0≤r10),H,⟨Z,U⟩,U⟩))))
   ·exact u4 h8 H fun h12 H=>zc Z Z h8 (zc Z Z h8 (zc Z Z h8 (za (yf Z (bTT h12) Z) (qe Z ⟨true,H,⟨Z,U⟩,U⟩))))
  ·exact u4 h4 H fun h13 H=>zc Z Z h4 (zc Z Z h4 (za (yf Z (bTT h13) Z) (qd Z (zc Z Z Z (zc Z Z Z (zc Z Z Z (za (yf Z Z Z) (qe Z ⟨true,H,⟨Z,U⟩,U⟩))))))))
 ·rintro v14 H
  replace H:z3s v14=some r:=H
  unfold z3s at H
  refine zi ?_
  cases H
  exact ⟨U,.inl Z,U⟩
theorem x2a (c1:Int) (r:(Bs)) (H:Zt c1=some r):Fn Tryz.prog 215 [vval (.int .u8 c1)] (zu [vstr r]):=by
 refine ⟨by kernel_rfl,yh (us:=[vstr r]) Tryz.func215 Z Z Z Z fun X hN => ?_⟩
 unfold Zt at H
 refine zb hN Z (qe Z (zh (wz mixed hN Z Z (qd Z (za (ya (z0s Z Z (by decide)) Z) (bE H fun x2 h3 H=>za (y01 tyU9 Z Z h3) (qd Z (za (ya (y9y Z Z) Z) (bE H fun x4 h5 H=>za (y01 tyU9 Z Z h5) (za (ya (u':=vlst (List.map ql [37,(x2.toNat:Int),(x4.toNat:Int)])) (yo [[_],[_],[_]] Zk ⟨Z,.inl ⟨_,Z,Z,Z⟩,Z,Z,.inl ⟨_,Z,Z,Z⟩,Z,Z,.inl ⟨_,Z,Z,Z⟩,Z,U⟩ Z Z) Z) (za (y07 (C:=ql) Qr tyU5 tyU9 (fun _=>Z) Z) (qe Z ⟨Z,?_⟩))))))))))))
 refine zi ?_
 cases H
 exact ⟨U,.inl Z,U⟩
theorem x1n (l1:(List Int)) (s2:Bs) (r:(Int×Int×(List Int))) (H:z36 l1 s2=some r):FnG Tryz.prog 96 [.ptr 0 0,.dat (vstr s2)] [(0,.box (some 0) 121 [.nptr 0,.row 1 l1.length]),(1,.row 5 1 (List.map ql l1))] (.dat (zu [vint r.1,verr r.2.1])) [(0,.box (some 0) 121 [.nptr 0,.row 900 r.2.2.length]),(900,.row 5 1 (List.map ql r.2.2))]:=by
 refine ub (by kernel_rfl) Tryz.func96 Z Z Z Z fun X A hN => ?_
 refine ve ?_
 unfold z36 at H
 refine zb hN Z (qe Z (qe Z (zb hN Z (za (zd (.ptr _ _) Z) (zj (y9t x4u Z) Z (zb hN Z (za (zd (.ptr _ _) Z) (za (zd (.ptr _ _) Z) (za (jd Z) (za (zq y0t Z) (zm (zv y0l Z Z) Z (qd Z (gE H fun h3 H=>zj (y9e (C:=ql) (fun _=>Z) (show tyB8 Tryz.prog 119 9 5 from ⟨by kernel_rfl,by kernel_rfl,by kernel_rfl⟩) Z Z Z h3) Z ?_)))))))))))))
 refine za (jd Z) (za (zq y0t Z) (uw (uv y0l Z Z (by rw [List.length_map]) Z) Z Z ?_))
 refine zb hN Z (qd Z (za (qj tyU9 Z) (qe Z (qe Z (zi ?_)))))
 cases H
 show Cv _ _ _ _
 exact wu (rn [(1,900)]) [(4,.dat (vint (s2.length:Int))),(5,.dat (verr 0))] [(0,.box (some (A.bl 0)) 121 [.nptr 0,.row 1 ((l1++ym s2).length)]),(1,.row 5 1 (List.map ql (l1++ym s2)))] ⟨Z,Z,U⟩ ⟨Z,Z,U⟩ Z Z ⟨U,[(4,.dat (vint (s2.length:Int))),(5,.dat (verr 0))],⟨Z,Z,U⟩,⟨Z,Z,U⟩,Z,.inl ⟨[vint (s2.length:Int),verr 0],⟨Z,Z,U⟩,Z⟩⟩
theorem w0w (s1:Bs) (r:(Bs×Bool)) (H:z8a s1=some r):Fn Tryz.prog 161 [vstr s1] (zu [vstr r.1,ze r.2]):=by
 refine ⟨by kernel_rfl,yh (us:=[vstr r.1,ze r.2]) Tryz.func161 Z Z Z Z fun X hN => ?_⟩
 unfold z8a at H
 refine zb hN Z (qe Z (qe Z (zb hN Z (zj (qv 1 y4b Z) Z (y3x 1 0 (.nptr 1) Z Z y5p (z6w 1 1 2 5 1 Z Z Z Z (yd (ι:=(List Int)) (fun i=>[(4,.ptr 1 0)]) (fun i=>[(1,.box none 121 [.nptr 1,.row 2 i.length]),(2,.row 5 1 (List.map ql i))]) (fun i=>z7s i=some r) (fun i=>Z) ?_ ?_)))))))
 ·refine ve (zb hN Z (qe Z (zw (un (fun (s:Int×(List Int))=>[(0,.dat (vstr s1)),(4,.ptr 1 0),(5,.dat (vint s.1))]) (fun (s:Int×(List Int))=>[(1,.box none 121 [.nptr 1,.row 2 s.2.length]),(2,.row 5 1 (List.map ql s.2))]) (0,([]:List Int)) H ⟨Z,Z,Z,U⟩ ⟨Z,Z,U⟩ (fun _=>Z) ?_))))
  rintro ⟨i2,l3⟩ q4 H hq4
  replace H:kv s1 i2 l3=some q4:=H
  unfold kv at H
  refine ve (zh (zb hN Z (qd Z (qd Z (za (qj tyU9 Z) (za (zx Z Z) (zg _ Z (fun h5 => ?_) (fun h5 => ?_))))))))
  ·refine tE h5 H fun H=>zl (yd (ι:=Int×(List Int)) (fun i=>[(0,.dat (vstr s1)),(4,.ptr 1 0),(5,.dat (vint i.1))]) (fun i=>[(1,.box none 121 [.nptr 1,.row 7 i.2.length]),(7,.row 5 1 (List.map ql i.2))]) (fun i=>z0z i.1 i.2=some q4) (fun i=>Z) ?_ ?_)
   ·refine ve (zw (zh (zb hN Z (qd Z (qd Z (bE H fun x6 h7 H=>za (kh tyU9 Z Z h7) (za (qp Z Z) (zg _ Z (fun h8 => ?_) (fun h8 => ?_)))))))))
    ·refine tE h8 H fun H=>zb hN Z (qd Z (qd Z (za (kh tyU9 Z Z h7) (bE H fun r9 h10 H=>ww (rn [(0,1),(1,2),(900,3)]) [(0,_,_,some _),(1,_,_,none)] [(900,_)] (z1p l3 (x6.toNat:Int) r9 h10) ⟨Z,Z,Z,U⟩ ⟨.inl (.inl Z),.inl (.inl Z),U⟩ ⟨⟨⟨Z,Z⟩,U⟩,⟨⟨Z,Z,Z⟩,U⟩,U⟩ Z (yt ?_)))))
     show Cv _ _ _ _
     exact wu (rn [(3,7)]) [(0,.dat (vstr s1)),(4,.ptr 1 0),(5,.dat (vint i2))] [(1,.box none 121 [.nptr 1,.row 3 r9.2.length]),(3,.row 5 1 (List.map ql r9.2))] ⟨Z,Z,Z,U⟩ ⟨Z,Z,U⟩ Z Z ⟨(i2,r9.2),H,⟨Z,Z,Z,U⟩,⟨Z,Z,U⟩⟩
    ·refine fE h8 H fun H=>zl (zh (zb hN Z (qd Z (qd Z (bE H fun r11 h12 H=>za (zk (x2b s1 i2 r11 h12) ⟨.inl Z,.inl Z,U⟩) (za (yq Z) (zg _ Z (fun h13 => ?_) (fun h13 => ?_))))))))
     ·refine tE h13 H fun H=>zb hN Z (qe Z (qe Z (zi ?_)))
      replace H:=retl H hq4
      cases H
      show Cv _ _ _ _
      refine vq ?_
      show Cv _ _ _ _
      refine vq ?_
      show Cv _ _ _ _
      exact vq ⟨U,.inl Z,.inl Z,U⟩
     ·refine fE h13 H fun H=>zl (yd (ι:=(List Int)) (fun i=>[(0,.dat (vstr s1)),(4,.ptr 1 0),(5,.dat (vint i2))]) (fun i=>[(1,.box none 121 [.nptr 1,.row 6 i.length]),(6,.row 5 1 (List.map ql i))]) (fun i=>z3o i2 i=some q4) (fun i=>Z) ?_ ?_)
      ·refine ve (zb hN Z (qd Z (qd Z (bE H fun r14 h15 H=>za (zk (x1x s1 i2 r14 h15) ⟨.inl Z,.inl Z,U⟩) (qe Z (zb hN Z (qd Z (bE H fun r16 h17 H=>za (zk (x2e r14 r16 h17) ⟨.inl Z,U⟩) (zg _ Z (fun h18 => ?_) (fun h18 => ?_))))))))))
       ·refine tE h18 H fun H=>zp hN Z (qd Z (bE H fun r19 h20 H=>ww (rn [(0,1),(1,2),(900,4)]) [(0,_,_,some _),(1,_,_,none)] [(900,_)] (z1p l3 r14 r19 h20) ⟨Z,Z,Z,U⟩ ⟨.inl (.inl Z),.inl (.inl Z),U⟩ ⟨⟨⟨Z,Z⟩,U⟩,⟨⟨Z,Z,Z⟩,U⟩,U⟩ Z (vu ?_)))
        show Cv _ _ _ _
        exact wu (rn [(4,6)]) [(0,.dat (vstr s1)),(4,.ptr 1 0),(5,.dat (vint i2))] [(1,.box none 121 [.nptr 1,.row 4 r19.2.length]),(4,.row 5 1 (List.map ql r19.2))] ⟨Z,Z,Z,U⟩ ⟨Z,Z,U⟩ Z Z ⟨r19.2,H,⟨Z,Z,Z,U⟩,⟨Z,Z,U⟩⟩
       ·refine fE h18 H fun H=>zp hN Z (qd Z (bE H fun r21 h22 H=>za (zk (x2a r14 r21 h22) ⟨.inl Z,U⟩) (bE H fun r23 h24 H=>ww (rn [(0,1),(1,2),(900,5)]) [(0,_,_,some _),(1,_,_,none)] [(900,_)] (x1n l3 r21 r23 h24) ⟨Z,Z,Z,U⟩ ⟨.inl (.inl Z),.inl (.inl Z),U⟩ ⟨⟨⟨Z,Z⟩,U⟩,⟨⟨Z,Z,Z⟩,U⟩,U⟩ Z (vu ?_))))
        show Cv _ _ _ _
        exact wu (rn [(5,6)]) [(0,.dat (vstr s1)),(4,.ptr 1 0),(5,.dat (vint i2))] [(1,.box none 121 [.nptr 1,.row 5 r23.2.2.length]),(5,.row 5 1 (List.map ql r23.2.2))] ⟨Z,Z,Z,U⟩ ⟨Z,Z,U⟩ Z Z ⟨r23.2.2,H,⟨Z,Z,Z,U⟩,⟨Z,Z,U⟩⟩
      ·rintro l25 H
       replace H:z3o i2 l25=some q4:=H
       unfold z3o at H
       refine zp hN Z (qd Z (za (yj _ Z Z (.inl ⟨Z,Z⟩)) (qe Z (vu ?_))))
       show Cv _ _ _ _
       exact wu (rn [(6,7)]) [(0,.dat (vstr s1)),(4,.ptr 1 0),(5,.dat (vint (wr (i2+2))))] [(1,.box none 121 [.nptr 1,.row 6 l25.length]),(6,.row 5 1 (List.map ql l25))] ⟨Z,Z,Z,U⟩ ⟨Z,Z,U⟩ Z Z ⟨(wr (i2+2),l25),H,⟨Z,Z,Z,U⟩,⟨Z,Z,U⟩⟩
   ·rintro ⟨i26,l27⟩ H
    replace H:z0z i26 l27=some q4:=H
    unfold z0z at H
    refine zp hN Z (qd Z (za (yj _ Z Z (.inl ⟨Z,Z⟩)) (qe Z (vu ?_))))
    show Cv _ _ _ _
    exact wu (rn [(7,2)]) [(0,.dat (vstr s1)),(4,.ptr 1 0),(5,.dat (vint (wr (i26+1))))] [(1,.box none 121 [.nptr 1,.row 7 l27.length]),(7,.row 5 1 (List.map ql l27))] ⟨Z,Z,Z,U⟩ ⟨Z,Z,U⟩ Z Z ⟨_,yx H,⟨Z,Z,Z,U⟩,⟨Z,Z,U⟩⟩
  ·refine fE h5 H fun H=>yt ?_
   replace H:=outl H hq4
   show Cv _ _ _ _
   refine vq ?_
   show Cv _ _ _ _
   exact vq ⟨l3,H,⟨Z,U⟩,⟨Z,Z,U⟩⟩
 ·rintro l28 H
  replace H:z7s l28=some r:=H
  unfold z7s at H
  refine zb hN Z (gE H fun h29 H=>ww (rn [(0,1),(1,2)]) [(0,_,_,none),(1,_,_,none)] [] (y6e h29 (C:=ql) (fun _=>Z)) ⟨Z,Z,U⟩ ⟨.inl (.inl Z),U⟩ ⟨⟨⟨Z,Z⟩,U⟩,⟨⟨Z,Z,Z⟩,U⟩,U⟩ Z (qe Z (qe Z (zi ?_))))
  cases H
  exact ⟨U,.inl Z,.inl Z,U⟩
theorem w04 (s1:Bs) (r:(Bs×Int)) (H:z8f s1=some r):Fn Tryz.prog 110 [vstr s1] (zu [vstr r.1,vint r.2]):=by
 refine ⟨by kernel_rfl,yh (us:=[vstr r.1,vint r.2]) Tryz.func110 Z Z Z Z fun X hN => ?_⟩
 unfold z8f at H
 refine zb hN Z (qe Z (qe Z (zh (zb hN Z (qd Z (bE H fun r2 h3 H=>za (zk (x2g s1 r2 h3) ⟨.inl Z,U⟩) (qe Z (zb hN Z (qd Z (za (qp Z Z) (zg _ Z (fun h4 => ?_) (fun h4 => ?_))))))))))))
 ·refine tE h4 H fun H=>zb hN Z (qd Z (qe Z (qe Z (zi ?_))))
  cases H
  exact ⟨U,.inl Z,.inl Z,U⟩
 ·refine fE h4 H fun H=>zl (zb hN Z (qd Z (bE H fun r5 h6 H=>za (zk (w0w s1 r5 h6) ⟨.inl Z,U⟩) (qd Z (za (yc Z Z) (za (yc Z Z) (qe Z (qe Z (zh (zb hN Z (qd Z (za (yq Z) (zg _ Z (fun h7 => ?_) (fun h7 => ?_))))))))))))))
  ·refine tE h7 H fun H=>zb hN Z (qe Z (qe Z (zi ?_)))
   cases H
   exact ⟨U,.inl Z,.inl Z,U⟩
  ·refine fE h7 H fun H=>zl (zb hN Z (qe Z (zb hN Z (qd Z (bE H fun l8 h9 H=>za (jc tyU9 Z Z Z h9) (bE H fun r10 h11 H=>za (zk (Qb l8 [47] r10 h11) ⟨.inl Z,.inl Z,U⟩) (qe Z (zh (zb hN Z (qd Z (za (qi wq Z) (qd Z (zw (jg 6 1 9 1 Z Z Z (gE H fun h15 H=>qw (fun (k13:Nat) (s:(List Bs))=>[(6,.row 1 s.length),(7,.dat (vlst (List.map zr r10))),(25,.dat (vlst (List.map zr r10))),(26,.dat (vint (r10.length:Int))),(27,.dat (vint (k13:Int)))]) (fun (k13:Nat) (s:(List Bs))=>[(1,.row 9 1 (List.map zr s))]) [] H ⟨Z,Z,Z,Z,Z,U⟩ ⟨Z,U⟩ (fun _ _=>Z) ?_ ?_)))))))))))))))
   ·rintro l12 H
    replace H:z7v l12=some r:=H
    unfold z7v at H
    refine zb hN Z (za (zx Z Z) (zh (zg _ Z (fun h=>(lt_t h).elim) (fun h => ?_))))
    refine yt (zh (Yn 6 1 Z Z Z (zp hN Z (qd Z (bE H fun r17 h18 H=>za (zk (z5e l12 [47] r17 h18) ⟨.inl Z,.inl Z,U⟩) (gE H fun h19 H=>za (jj Z Z (Nat.le_trans h19 (by decide))) (qe Z (qe Z (zi ?_)))))))))
    cases H
    exact ⟨U,.inl Z,.inl Z,U⟩
   ·rintro k13 x16 l12 q14 h20 h21 H hq14
    replace H:z3x r10 k13 x16 l12=some q14:=H
    unfold z3x at H
    refine ve (zb hN Z (za (zx Z Z) (zh (zg _ Z (fun h => ?_) (fun h=>(lt_f h20 h).elim)))))
    refine zl (yd (ι:=(List Bs)) (fun i=>[(6,.row 4 i.length),(7,.dat (vlst (List.map zr r10))),(25,.dat (vlst (List.map zr r10))),(26,.dat (vint (r10.length:Int))),(27,.dat (vint (k13:Int)))]) (fun i=>[(4,.row 9 1 (List.map zr i))]) (fun i=>z06 i=some q14) (fun i=>Z) ?_ ?_)
    ·refine ve (zw (zb hN Z (qd Z (za (we vj (fun _=>Z) Z Z h21) (za (qu tyS9 Z (qh h21) Z) (qe Z (qe Z (yd (ι:=(List Bs)) (fun i=>[(6,.row 3 i.length),(7,.dat (vlst (List.map zr r10))),(8,.dat (vint (k13:Int))),(25,.dat (vlst (List.map zr r10))),(26,.dat (vint (r10.length:Int))),(27,.dat (vint (k13:Int)))]) (fun i=>[(3,.row 9 1 (List.map zr i))]) (fun i=>z3y r10 k13 i=some q14) (fun i=>Z) ?_ ?_))))))))
     ·refine ve (zb hN Z (qd Z (zw (zb hN Z (za (va Z Z) (qe Z (zg _ Z (fun h22 => ?_) (fun h22 => ?_))))))))
      ·refine tE h22 H fun H=>zl ?_
       show Cv _ _ _ _
       exact wu (rn [(1,3)]) [(6,.row 1 l12.length),(7,.dat (vlst (List.map zr r10))),(8,.dat (vint (k13:Int))),(25,.dat (vlst (List.map zr r10))),(26,.dat (vint (r10.length:Int))),(27,.dat (vint (k13:Int)))] [(1,.row 9 1 (List.map zr l12))] ⟨Z,Z,Z,Z,Z,Z,U⟩ ⟨Z,U⟩ Z Z ⟨l12,H,⟨Z,Z,Z,Z,Z,Z,U⟩,⟨Z,U⟩⟩
      ·refine fE h22 H fun H=>zb hN Z (za (va Z Z) (qe Z (zg _ Z (fun h23 => ?_) (fun h23 => ?_))))
       ·refine tE h23 H fun H=>zp hN Z (za (zd (.row _ _) Z) (za (zd (.row _ _) Z) (zm (Qx wq Z Z) Z (za (yj _ Z Z (.inr (.inl ⟨Z,Z⟩))) (za (y9k Z Z) (gE H fun h24 H=>y44 (y4g (C:=zr) 2 vj Z Z Z h24) Z Z (za (qm (.row _ _) Z) (vu ?_))))))))
        show Cv _ _ _ _
        exact wu (rn [(2,3)]) [(6,.row 2 ((max (wr ((l12.length:Int) - 1)) 0).toNat)),(7,.dat (vlst (List.map zr r10))),(8,.dat (vint (k13:Int))),(25,.dat (vlst (List.map zr r10))),(26,.dat (vint (r10.length:Int))),(27,.dat (vint (k13:Int)))] [(2,.row 9 1 (List.map zr (l12.take (max (wr ((l12.length:Int) - 1)) 0).toNat)))] ⟨Z,Z,Z,Z,Z,Z,U⟩ ⟨Z,U⟩ Z Z ⟨(l12.take (max (wr ((l12.length:Int) - 1)) 0).toNat),H,⟨congrArg (Slot.row 3) ((z9x h24)).symm,Z,Z,Z,Z,Z,U⟩,⟨Z,U⟩⟩
       ·refine fE h23 H fun H=>zb hN Z (za (zd (.row _ _) Z) (qd Z (za (ya (u':=vlst (List.map zr [x16])) (yo [[_]] yu ⟨Z,.inl ⟨_,Z,Z,Z⟩,Z,U⟩ Z Z) Z) (gE H fun h25 H=>zj (vk yu (fun _=>Z) Z Z Z ⟨by simp,by first | (simp; done) | simpa using h25⟩ Z) Z ?_))))
        refine za (qm (.row _ _) Z) (yt ?_)
        show Cv _ _ _ _
        refine vq ?_
        show Cv _ _ _ _
        exact wu (rn [(1,4)]) [(6,.row 1 ((l12++[x16]).length)),(7,.dat (vlst (List.map zr r10))),(25,.dat (vlst (List.map zr r10))),(26,.dat (vint (r10.length:Int))),(27,.dat (vint (k13:Int)))] [(1,.row 9 1 (List.map zr (l12++[x16])))] ⟨Z,Z,Z,Z,Z,U⟩ ⟨Z,U⟩ Z Z ⟨(l12++[x16]),H,⟨Z,Z,Z,Z,Z,U⟩,⟨Z,U⟩⟩
     ·rintro out26 H
      replace H:z3y r10 k13 out26=some q14:=H
      unfold z3y at H
      refine zb hN Z (qd Z (qd Z (za (qi wq Z) (za (yj _ Z Z (.inr (.inl ⟨Z,Z⟩))) (za (qf Z Z) (zg _ Z (fun h27 => ?_) (fun h27 => ?_)))))))
      ·refine tE h27 H fun H=>zp hN Z (za (zd (.row _ _) Z) (za (ya (u':=vlst (List.map zr [[]])) (yo [[_]] yu ⟨Z,.inl ⟨_,Z,Z,Z⟩,Z,U⟩ Z Z) Z) (gE H fun h28 H=>zj (vk yu (fun _=>Z) Z Z Z ⟨by simp,by first | (simp; done) | simpa using h28⟩ Z) Z ?_)))
       refine za (qm (.row _ _) Z) (vu ?_)
       show Cv _ _ _ _
       exact wu (rn [(3,4)]) [(6,.row 3 ((out26++([[]])).length)),(7,.dat (vlst (List.map zr r10))),(25,.dat (vlst (List.map zr r10))),(26,.dat (vint (r10.length:Int))),(27,.dat (vint (k13:Int)))] [(3,.row 9 1 (List.map zr (out26++([[]]))))] ⟨Z,Z,Z,Z,Z,U⟩ ⟨Z,U⟩ Z Z ⟨(out26++([[]])),H,⟨Z,Z,Z,Z,Z,U⟩,⟨Z,U⟩⟩
      ·refine fE h27 H fun H=>zl ?_
       show Cv _ _ _ _
       exact wu (rn [(3,4)]) [(6,.row 3 out26.length),(7,.dat (vlst (List.map zr r10))),(25,.dat (vlst (List.map zr r10))),(26,.dat (vint (r10.length:Int))),(27,.dat (vint (k13:Int)))] [(3,.row 9 1 (List.map zr out26))] ⟨Z,Z,Z,Z,Z,U⟩ ⟨Z,U⟩ Z Z ⟨out26,H,⟨Z,Z,Z,Z,Z,U⟩,⟨Z,U⟩⟩
    ·rintro out29 H
     replace H:z06 out29=some q14:=H
     unfold z06 at H
     refine zp hN Z (za (qs Z Z (by omega)) (qd Z (vu ?_)))
     show Cv _ _ _ _
     exact wu (rn [(4,1)]) [(6,.row 4 out29.length),(7,.dat (vlst (List.map zr r10))),(25,.dat (vlst (List.map zr r10))),(26,.dat (vint (r10.length:Int))),(27,.dat (vint ((k13:Int)+1)))] [(4,.row 9 1 (List.map zr out29))] ⟨Z,Z,Z,Z,Z,U⟩ ⟨Z,U⟩ Z Z ⟨_,yx H,⟨Z,Z,Z,Z,Z,U⟩,⟨Z,U⟩⟩
end Go.Proofs.YtmdllhcjefcggabGreatDoor
