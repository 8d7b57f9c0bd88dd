/- Walks along the models. Printed by a program. -/
import Derived.Test.YtbndlmnjeofkdacGreatDoorZtw7
namespace Go.Proofs.YtbndlmnjeofkdacGreatDoor
open Go.RowKit
set_option linter.unusedVariables false
set_option maxRecDepth 100000
set_option maxHeartbeats 2000000
theorem x7z (s1:Bs) (r:(Bs)) (H:z4d s1=some r):Fn Tryz.prog 41 [vstr s1] (zr [vstr r]):=by
 refine ⟨by kernel_rfl,zx (us:=[vstr r]) Tryz.func41 Z Z Z Z fun X hN => ?_⟩
 unfold z4d at H
 refine zb hN Z (qe Z (zb hN Z (qe Z (yc (ι:=(List Int)) (fun i=>[(3,.row 1 i.length)]) (fun i=>[(1,.row 5 1 (List.map wc i))]) (fun i=>y18 i=some r) (fun i=>Z) ?_ ?_))))
 ·skip
  refine zu (uy 3 1 5 1 Z Z Z (kj (fun (s:Bs×(List Int))=>[(0,.dat (vstr s.1)),(3,.row 1 s.2.length)]) (fun (s:Bs×(List Int))=>[(1,.row 5 1 (List.map wc s.2))]) (s1,[]) H ⟨Z,Z,U⟩ ⟨Z,U⟩ (fun _=>Z) ?_))
  rintro ⟨s2,l3⟩ q4 H hq4
  replace H:y7k s2 l3=some q4:=H
  unfold y7k at H
  refine zd (zb hN Z (qd Z (za (wl tyU9 Z) (za (qh Z Z) (zf _ Z (fun h5 => ?_) (fun h5 => ?_))))))
  ·refine tE h5 H fun H=>zl (zu (zb hN Z (qd Z (za (wl tyU9 Z) (za (x5r Z Z) (qe Z (zb hN Z (qe Z (zd (zb hN Z (qd Z (zu (gE H fun h9 H=>Zt (fun (k7:Nat) (s:Int)=>[(0,.dat (vstr s2)),(3,.row 1 l3.length),(4,.dat (vint (min 3 (s2.length:Int)))),(5,.dat (vint s)),(14,.dat (vint (k7:Int)))]) (fun (k7:Nat) (s:Int)=>[(1,.row 5 1 (List.map wc l3))]) 0 H ⟨Z,Z,Z,Z,Z,U⟩ ⟨Z,U⟩ (fun _ _=>Z) ?_ ?_)))))))))))))
   ·rintro x6 H
    replace H:y7m s2 l3 x6=some q4:=H
    unfold y7m at H
    refine zb hN Z (za (zw Z Z) (zd (zf _ Z (fun h=>(lt_t h).elim) (fun h => ?_))))
    refine yp (zd (zb hN Z (qd Z (za (yl _ Z Z (.inl ⟨Z,Z⟩)) (qd Z (zu (gE H fun h13 H=>Zt (fun (k11:Nat) (s:(List Int))=>[(0,.dat (vstr s2)),(3,.row 1 s.length),(4,.dat (vint (min 3 (s2.length:Int)))),(5,.dat (vint x6)),(30,.dat (vint (wr ((min 3 (s2.length:Int))+1)))),(31,.dat (vint (k11:Int)))]) (fun (k11:Nat) (s:(List Int))=>[(1,.row 5 1 (List.map wc s))]) l3 H ⟨Z,Z,Z,Z,Z,Z,U⟩ ⟨Z,U⟩ (fun _ _=>Z) ?_ ?_)))))))
    ·rintro l10 H
     replace H:y7l s2 l10=some q4:=H
     unfold y7l at H
     refine zb hN Z (za (zw Z Z) (zd (zf _ Z (fun h=>(z5c h).elim) (fun h => ?_))))
     exact yp (zk hN Z (qd Z (qd Z (bE H fun l14 h15 H=>za (kh tyU9 Z Z Z h15) (qe Z ⟨_,yw H,⟨Z,Z,U⟩,⟨Z,U⟩⟩)))))
    ·rintro k11 l10 q12 h16 H hq12
     replace H:y7i x6 k11 l10=some q12:=H
     unfold y7i at H
     refine zb hN Z (za (zw Z Z) (zd (zf _ Z (fun h => ?_) (fun h=>(z5d h16 h).elim))))
     refine zl (zd (zu (zb hN Z (qd Z (qe Z (zk hN Z (za (zh (.row _ _) Z) (qd Z (qd Z (za (yl _ Z Z (.inr (.inr ⟨Z,Z⟩))) (za (yl _ Z Z (.inr (.inl ⟨Z,Z⟩))) (gE H fun h17 H=>za (yg (We Z Z h17) Z) (za (yg (y2k Z Z) Z) (bE H fun x18 h19 H=>za (uq tyU9 Z Z h19) (za (yg (u':=vlst (List.map wc [(x18.toNat:Int)])) (qy [[_]] z0o ⟨Z,.inl ⟨_,Z,Z,Z⟩,Z,U⟩ Z Z) Z) (gE H fun h20 H=>zj (ko z0o (fun _=>Z) Z Z Z ⟨by simp,by first | (simp; done) | simpa using h20⟩ Z) Z ?_))))))))))))))))
     exact za (wm (.row _ _) Z) (zk hN Z (za (qi Z Z (by omega)) (qd Z ⟨_,yw H,⟨Z,Z,Z,Z,Z,Z,U⟩,⟨Z,U⟩⟩)))
   ·rintro k7 x6 q8 h21 H hq8
    replace H:y7j s2 k7 x6=some q8:=H
    unfold y7j at H
    refine zb hN Z (za (zw Z Z) (zd (zf _ Z (fun h => ?_) (fun h=>(lt_f h21 h).elim))))
    refine zl (yc (ι:=Int) (fun i=>[(0,.dat (vstr s2)),(3,.row 1 l3.length),(4,.dat (vint (min 3 (s2.length:Int)))),(5,.dat (vint i)),(14,.dat (vint (k7:Int)))]) (fun i=>[(1,.row 5 1 (List.map wc l3))]) (fun i=>z62 i=some q8) (fun i=>Z) ?_ ?_)
    ·skip
     refine zu (zb hN Z (qd Z (qe Z (zb hN Z (qd Z (za (yg (y2g Z Z (by decide)) Z) (qe Z (zb hN Z (qd Z (qd Z (za (zw Z Z) (zf _ Z (fun h22 => ?_) (fun h22 => ?_)))))))))))))
     ·exact tE h22 H fun H=>zk hN Z (qd Z (qd Z (qd Z (bE H fun x23 h24 H=>za (vh tyU9 Z Z h24) (za (jh tyU5 tyU3 Z) (za (yg (y72 Z Z) Z) (qe Z ⟨(or_ .i64 (shl_ .i64 x6 8) (IntKind.wrap .i64 (x23.toNat:Int))),H,⟨Z,Z,Z,Z,Z,U⟩,⟨Z,U⟩⟩)))))))
     ·exact fE h22 H fun H=>zl ⟨(shl_ .i64 x6 8),H,⟨Z,Z,Z,Z,Z,U⟩,⟨Z,U⟩⟩
    ·rintro x25 H
     replace H:z62 x25=some q8:=H
     unfold z62 at H
     exact zk hN Z (za (qi Z Z (by omega)) (qd Z ⟨_,yw H,⟨Z,Z,Z,Z,Z,U⟩,⟨Z,U⟩⟩))
  ·refine fE h5 H fun H=>yp ?_
   replace H:=outl H hq4
   exact ⟨l3,H,⟨Z,U⟩,⟨Z,U⟩⟩
 ·rintro out26 H
  replace H:y18 out26=some r:=H
  unfold y18 at H
  refine zd (z0y 3 1 Z Z Z (zk hN Z (qd Z (za (z7e (C:=wc) Yt tyU5 tyU9 (fun _=>Z) Z) (qe Z (zg ?_))))))
  cases H
  exact ⟨U,.inl Z,U⟩
theorem w8r (s1:Bs) (r:(Bs×Int)) (H:y9t s1=some r):Fn Tryz.prog 210 [vstr s1] (zr [vstr r.1,vint r.2]):=by
 refine ⟨by kernel_rfl,zx (us:=[vstr r.1,vint r.2]) Tryz.func210 Z Z Z Z fun X hN => ?_⟩
 unfold y9t at H
 refine zb hN Z (qe Z (qe Z (zb hN Z (qe Z (yc (ι:=(List Int)) (fun i=>[(0,.dat (vstr s1)),(4,.row 1 i.length)]) (fun i=>[(1,.row 5 1 (List.map wc i))]) (fun i=>y19 s1 i=some r) (fun i=>Z) ?_ ?_)))))
 ·skip
  refine zb hN Z (qd Z (qe Z (zu (uy 4 1 5 1 Z Z Z (kj (fun (s:Bs×(List Int))=>[(0,.dat (vstr s1)),(4,.row 1 s.2.length),(5,.dat (vstr s.1))]) (fun (s:Bs×(List Int))=>[(1,.row 5 1 (List.map wc s.2))]) (s1,[]) H ⟨Z,Z,Z,U⟩ ⟨Z,U⟩ (fun _=>Z) ?_)))))
  rintro ⟨rest2,l3⟩ q4 H hq4
  replace H:y7p s1 rest2 l3=some q4:=H
  unfold y7p at H
  refine zd (zb hN Z (qd Z (za (wl tyU9 Z) (za (qh Z Z) (zf _ Z (fun h5 => ?_) (fun h5 => ?_))))))
  ·refine tE h5 H fun H=>zl (zu (zb hN Z (qd Z (za (wl tyU9 Z) (za (x5r Z Z) (qe Z (zb hN Z (qe Z (zd (zb hN Z (qd Z (zu (gE H fun h9 H=>Zt (fun (k7:Nat) (s:Int)=>[(0,.dat (vstr s1)),(4,.row 1 l3.length),(5,.dat (vstr rest2)),(6,.dat (vint (min 4 (rest2.length:Int)))),(7,.dat (vint s)),(18,.dat (vint (k7:Int)))]) (fun (k7:Nat) (s:Int)=>[(1,.row 5 1 (List.map wc l3))]) 0 H ⟨Z,Z,Z,Z,Z,Z,U⟩ ⟨Z,U⟩ (fun _ _=>Z) ?_ ?_)))))))))))))
   ·rintro x6 H
    replace H:y7r rest2 l3 x6=some q4:=H
    unfold y7r at H
    refine zb hN Z (za (zw Z Z) (zd (zf _ Z (fun h=>(lt_t h).elim) (fun h => ?_))))
    refine yp (zd (zb hN Z (qd Z (za (yl _ Z Z (.inr (.inl ⟨Z,Z⟩))) (qd Z (zu (gE H fun h13 H=>Zt (fun (k11:Nat) (s:(List Int))=>[(0,.dat (vstr s1)),(4,.row 1 s.length),(5,.dat (vstr rest2)),(6,.dat (vint (min 4 (rest2.length:Int)))),(7,.dat (vint x6)),(37,.dat (vint (wr ((min 4 (rest2.length:Int)) - 1)))),(38,.dat (vint (k11:Int)))]) (fun (k11:Nat) (s:(List Int))=>[(1,.row 5 1 (List.map wc s))]) l3 H ⟨Z,Z,Z,Z,Z,Z,Z,U⟩ ⟨Z,U⟩ (fun _ _=>Z) ?_ ?_)))))))
    ·rintro l10 H
     replace H:y7q rest2 l10=some q4:=H
     unfold y7q at H
     refine zb hN Z (za (zw Z Z) (zd (zf _ Z (fun h=>(z5c h).elim) (fun h => ?_))))
     exact yp (zk hN Z (qd Z (qd Z (bE H fun l14 h15 H=>za (kh tyU9 Z Z Z h15) (qe Z ⟨_,yw H,⟨Z,Z,Z,U⟩,⟨Z,U⟩⟩)))))
    ·rintro k11 l10 q12 h16 H hq12
     replace H:y7n x6 k11 l10=some q12:=H
     unfold y7n at H
     refine zb hN Z (za (zw Z Z) (zd (zf _ Z (fun h => ?_) (fun h=>(z5d h16 h).elim))))
     refine zl (zd (zu (zb hN Z (qd Z (qe Z (zk hN Z (za (zh (.row _ _) Z) (qd Z (qd Z (za (yl _ Z Z (.inr (.inr ⟨Z,Z⟩))) (za (yl _ Z Z (.inr (.inl ⟨Z,Z⟩))) (gE H fun h17 H=>za (yg (We Z Z h17) Z) (za (jh tyU3 tyU5 Z) (za (yg (u':=vlst (List.map wc [IntKind.wrap .u8 (shr_ .i64 x6 (wr (16 - (wr (8 * (k11:Int))))))])) (qy [[_]] z0o ⟨Z,.inl ⟨_,Z,Z,Z⟩,Z,U⟩ Z Z) Z) (gE H fun h18 H=>zj (ko z0o (fun _=>Z) Z Z Z ⟨by simp,by first | (simp; done) | simpa using h18⟩ Z) Z ?_)))))))))))))))
     exact za (wm (.row _ _) Z) (zk hN Z (za (qi Z Z (by omega)) (qd Z ⟨_,yw H,⟨Z,Z,Z,Z,Z,Z,Z,U⟩,⟨Z,U⟩⟩)))
   ·rintro k7 x6 q8 h19 H hq8
    replace H:y7o rest2 k7 x6=some q8:=H
    unfold y7o at H
    refine zb hN Z (za (zw Z Z) (zd (zf _ Z (fun h => ?_) (fun h=>(lt_f h19 h).elim))))
    refine zl (yc (ι:=Int) (fun i=>[(0,.dat (vstr s1)),(4,.row 1 l3.length),(5,.dat (vstr rest2)),(6,.dat (vint (min 4 (rest2.length:Int)))),(7,.dat (vint i)),(18,.dat (vint (k7:Int)))]) (fun i=>[(1,.row 5 1 (List.map wc l3))]) (fun i=>z63 i=some q8) (fun i=>Z) ?_ ?_)
    ·skip
     refine zu (zb hN Z (qd Z (qe Z (zb hN Z (qd Z (za (yg (y2g Z Z (by decide)) Z) (qe Z (zb hN Z (qd Z (qd Z (za (zw Z Z) (zf _ Z (fun h20 => ?_) (fun h20 => ?_)))))))))))))
     ·refine tE h20 H fun H=>zb hN Z (qd Z (qd Z (bE H fun x21 h22 H=>za (vh tyU9 Z Z h22) (bE H fun r23 h24 H=>za (zo (y4t [65,66,67,68,69,70,71,72,73,74,75,76,77,78,79,80,81,82,83,84,85,86,87,88,89,90,97,98,99,100,101,102,103,104,105,106,107,108,109,110,111,112,113,114,115,116,117,118,119,120,121,122,48,49,50,51,52,53,54,55,56,57,45,95] (x21.toNat:Int) r23 h24) ⟨.inl Z,.inl Z,U⟩) (qe Z (zd (zb hN Z (qd Z (za (zw Z Z) (zf _ Z (fun h25 => ?_) (fun h25 => ?_)))))))))))
      ·refine tE h25 H fun H=>zb hN Z (qe Z (qe Z (zg ?_)))
       replace H:=retl H hq8
       replace H:=retl H hq4
       cases H
       exact ⟨U,.inl Z,.inl Z,U⟩
      ·exact fE h25 H fun H=>zl (zk hN Z (qd Z (qd Z (za (yg (y72 Z Z) Z) (qe Z ⟨(or_ .i64 (shl_ .i64 x6 6) r23),H,⟨Z,Z,Z,Z,Z,Z,U⟩,⟨Z,U⟩⟩)))))
     ·exact fE h20 H fun H=>zl ⟨(shl_ .i64 x6 6),H,⟨Z,Z,Z,Z,Z,Z,U⟩,⟨Z,U⟩⟩
    ·rintro x26 H
     replace H:z63 x26=some q8:=H
     unfold z63 at H
     exact zk hN Z (za (qi Z Z (by omega)) (qd Z ⟨_,yw H,⟨Z,Z,Z,Z,Z,Z,U⟩,⟨Z,U⟩⟩))
  ·refine fE h5 H fun H=>yp ?_
   replace H:=outl H hq4
   exact ⟨l3,H,⟨Z,Z,U⟩,⟨Z,U⟩⟩
 ·rintro out27 H
  replace H:y19 s1 out27=some r:=H
  unfold y19 at H
  refine zd (zd (z0y 4 1 Z Z Z (zk hN Z (qd Z (za (z7e (C:=wc) Yt tyU5 tyU9 (fun _=>Z) Z) (bE H fun r28 h29 H=>za (zo (x7z (strN out27) r28 h29) ⟨.inl Z,U⟩) (qd Z (za (js Z Z) (zf _ Z (fun h30 => ?_) (fun h30 => ?_))))))))))
  ·refine tE h30 H fun H=>zb hN Z (qe Z (qe Z (zg ?_)))
   cases H
   exact ⟨U,.inl Z,.inl Z,U⟩
  ·refine fE h30 H fun H=>zl (zb hN Z (qd Z (za (z7e (C:=wc) Yt tyU5 tyU9 (fun _=>Z) Z) (qe Z (qe Z (zg ?_))))))
   cases H
   exact ⟨U,.inl Z,.inl Z,U⟩
theorem v0i (s1:Bs) (r:((List Bs)×Bool)) (H:y99 s1=some r):Fn Tryz.prog 247 [vstr s1] (zr [vlst (List.map zt r.1),zi r.2]):=by
 refine ⟨by kernel_rfl,zx (us:=[vlst (List.map zt r.1),zi r.2]) Tryz.func247 Z Z Z Z fun X hN => ?_⟩
 unfold y99 at H
 refine zb hN Z (qe Z (qe Z (zb hN Z (qd Z (bE H fun r2 h3 H=>za (zo (Qm s1 [10] r2 h3) ⟨.inl Z,.inl Z,U⟩) (qe Z (zb hN Z (qd Z (za (yk qr Z) (za (yl _ Z Z (.inr (.inl ⟨Z,Z⟩))) (qe Z (zd (zb hN Z (qd Z (qd Z (bE H fun x4 h5 H=>za (wx wv (fun _=>Z) Z Z h5) (za (yr tyS9 Z (ym (qk h5).2) Z) (za (vz Z Z) (zf _ Z (fun h6 => ?_) (fun h6 => ?_))))))))))))))))))))
 ·refine tE h6 H fun H=>zb hN Z (qd Z (qd Z (bE H fun l7 h8 H=>za (y7v wv (fun _=>Z) Z Z Z h8) (qe Z (qe Z (zg ?_))))))
  cases H
  exact ⟨U,.inl Z,.inl Z,U⟩
 ·refine fE h6 H fun H=>zl (zb hN Z (qd Z (qe Z (qe Z (zg ?_)))))
  cases H
  exact ⟨U,.inl Z,.inl Z,U⟩
theorem x0v (s1:(List Bs)) (v2:Bs) (r:(Int)) (H:z1p s1 v2=some r):Fn Tryz.prog 212 [vlst (List.map zt s1),vstr v2] (zr [vint r]):=by
 refine ⟨by kernel_rfl,zx (us:=[vint r]) Tryz.func212 Z Z Z Z fun X hN => ?_⟩
 unfold z1p at H
 refine zb hN Z (qe Z (zd (zb hN Z (qd Z (za (yk qr Z) (qd Z (zu (gE H fun h5 H=>qq (fun (k3:Nat) (s:Unit)=>[(0,.dat (vlst (List.map zt s1))),(1,.dat (vstr v2)),(7,.dat (vint (s1.length:Int))),(8,.dat (vint (k3:Int)))]) (fun (k3:Nat) (s:Unit)=>[]) () H ⟨Z,Z,Z,Z,U⟩ U (fun _ _=>Z) ?_ ?_))))))))
 ·rintro ⟨⟩ H
  replace H:y8c=some r:=H
  unfold y8c at H
  refine zb hN Z (za (zw Z Z) (zd (zf _ Z (fun h=>(lt_t h).elim) (fun h => ?_))))
  refine yp (zb hN Z (qe Z (zg ?_)))
  cases H
  exact ⟨U,.inl Z,U⟩
 ·rintro k3 x6 ⟨⟩ q4 h7 h8 H hq4
  replace H:y8b v2 k3 x6=some q4:=H
  unfold y8b at H
  refine zb hN Z (za (zw Z Z) (zd (zf _ Z (fun h => ?_) (fun h=>(lt_f h7 h).elim))))
  refine zl (zd (zu (zb hN Z (qd Z (qe Z (zb hN Z (qd Z (qd Z (qd Z (za (qp wv (fun _=>Z) Z Z h8) (za (yr tyS9 Z (ym h8) Z) (za (vz Z Z) (zf _ Z (fun h9 => ?_) (fun h9 => ?_))))))))))))))
  ·refine tE h9 H fun H=>zb hN Z (qd Z (qe Z (zg ?_)))
   replace H:=retl H hq4
   cases H
   exact ⟨U,.inl Z,U⟩
  ·exact fE h9 H fun H=>zl (zk hN Z (za (qi Z Z (by omega)) (qd Z ⟨_,yw H,⟨Z,Z,Z,Z,U⟩,U⟩)))
theorem x0w (s1:(List Bs)) (v2:Bs) (r:(Bool)) (H:z4k s1 v2=some r):Fn Tryz.prog 147 [vlst (List.map zt s1),vstr v2] (zr [zi r]):=by
 refine ⟨by kernel_rfl,zx (us:=[zi r]) Tryz.func147 Z Z Z Z fun X hN => ?_⟩
 unfold z4k at H
 refine zb hN Z (qe Z (zb hN Z (qd Z (qd Z (bE H fun r3 h4 H=>za (zo (x0v s1 v2 r3 h4) ⟨.inl Z,.inl Z,U⟩) (za (vt Z Z) (qe Z (zg ?_))))))))
 cases H
 exact ⟨U,.inl Z,U⟩
theorem v0g (s1:Bs) (r:((List Bs)×Bool)) (H:y97 s1=some r):Fn Tryz.prog 282 [vstr s1] (zr [vlst (List.map zt r.1),zi r.2]):=by
 refine ⟨by kernel_rfl,zx (us:=[vlst (List.map zt r.1),zi r.2]) Tryz.func282 Z Z Z Z fun X hN => ?_⟩
 unfold y97 at H
 refine zb hN Z (qe Z (qe Z (zb hN Z (qd Z (bE H fun r2 h3 H=>za (zo (Qm s1 [32] r2 h3) ⟨.inl Z,.inl Z,U⟩) (qe Z (zb hN Z (qd Z (qd Z (bE H fun r4 h5 H=>za (zo (x0w r2 [] r4 h5) ⟨.inl Z,.inl Z,U⟩) (za (yv Z) (qe Z (qe Z (zg ?_))))))))))))))
 cases H
 exact ⟨U,.inl Z,.inl Z,U⟩
theorem y4s (s1:jg) (v2:Bs) (v3:Bool) (r:((List Bs)×jg)) (H:z4b s1 v2 v3=some r):Imp Tryz.prog 249 295 (Yr s1) [vstr v2,zi v3] (zr [vlst (List.map zt r.1)]) (Yr r.2):=by
 refine kv (us:=[vlst (List.map zt r.1)]) (cs':=(Yr r.2)) (by kernel_rfl) Tryz.func249 Z Z Z Z fun X bl hN => ?_
 unfold z4b at H
 refine zb hN Z (qe Z (zd (zb hN Z (za (zh (.ptr _ _) Z) (za (wq Z) (za (zn Qx Z) (zm (zp tyS4 Z Z) Z (zf _ Z (fun h4 => ?_) (fun h4 => ?_)))))))))
 ·refine tE h4 H fun H=>zb hN Z (qe Z (zg ?_))
  cases H
  exact ⟨U,⟨.inr ⟨Z,Z⟩,U⟩,Z⟩
 ·refine fE h4 H fun H=>zl (zd (zd (wg mixed hN Z Z (za (zh (.ptr _ _) Z) (za (wq Z) (za (zn Zi Z) (zm (zp tyS3 Z Z) Z (za (zh (.ptr _ _) Z) (za (wq Z) (za (zn z6r Z) (zm (zp vc Z Z) Z (za (yk qr Z) (za (yn Z Z) ⟨Z,?_⟩)))))))))))))
  refine zf _ Z (fun h5 => ?_) (fun h5 => ?_)
  ·refine tE h5 H fun H=>zb hN Z (za (zh (.ptr _ _) Z) (qd Z (za (wq Z) (za (zn Qx Z) (zj (wa tyS4 Z Z Z Z) Z (zb hN Z (qe Z (zg ?_))))))))
   cases H
   exact ⟨U,⟨.inr ⟨Z,Z⟩,U⟩,Z⟩
  ·refine fE h5 H fun H=>zl (zd (wg mixed hN Z Z (za (zh (.ptr _ _) Z) (za (wq Z) (za (zn z6r Z) (zm (zp vc Z Z) Z (za (zh (.ptr _ _) Z) (za (wq Z) (za (zn Zi Z) (zm (zp tyS3 Z Z) Z (bE H fun x6 h7 H=>za (wx wv (fun _=>Z) Z Z h7) (za (yr tyS9 Z (ym (qk h7).2) Z) (bE H fun r8 h9 H=>za (zo (x0u x6 [32] r8 h9) ⟨.inl Z,.inl Z,U⟩) (qd Z (za (ye Z Z) (za (ye Z Z) (za (ye Z Z) (qe Z (qe Z (qe Z ?_))))))))))))))))))))
   refine ⟨Z,?_⟩
   refine zd (zb hN Z (qd Z (qd Z (za (js Z Z) (zf _ Z (fun h10 => ?_) (fun h10 => ?_))))))
   ·refine tE h10 H fun H=>zb hN Z (za (zh (.ptr _ _) Z) (qd Z (za (wq Z) (za (zn Qx Z) (zj (wa tyS4 Z Z Z Z) Z (zb hN Z (qe Z (zg ?_))))))))
    cases H
    exact ⟨U,⟨.inr ⟨Z,Z⟩,U⟩,Z⟩
   ·refine fE h10 H fun H=>zl (zb hN Z (qd Z (bE H fun r11 h12 H=>za (zo (v0g r8.2.1 r11 h12) ⟨.inl Z,U⟩) (qd Z (za (ye Z Z) (za (ye Z Z) (qe Z (qe Z (zd (zd (wg mixed hN Z Z (qd Z (za (yv Z) (qd Z (yu Z Z (fun hc=>zh (.ptr _ _) Z) (yu Z Z (fun hc=>wq (cnd (c:=(!(!r11.2))) hc)) (yu Z Z (fun hc=>zn x4r (cnd (c:=(!(!r11.2))) hc)) (uk Z Z (fun hc=>zp tyS4 (cnd (c:=(!(!r11.2))) hc) Z) Z y04 (yu Z Z (fun hc=>yv (cnd (c:=(!(!r11.2))) hc)) (yu Z Z (fun hc=>zh (.dat _) (cnd (c:=(!(!r11.2))) hc)) (wz Z Z (fun hc=>zh (.ptr _ _) Z) ?_)))))))))))))))))))))
    refine wz Z Z (fun hc=>wq (cnd (c:=((!(!r11.2)) && (!s1.ended_))) hc)) (wz Z Z (fun hc=>zn Zi (cnd (c:=((!(!r11.2)) && (!s1.ended_))) hc)) (x6b Z Z (fun hc=>zp tyS3 (cnd (c:=((!(!r11.2)) && (!s1.ended_))) hc) Z) Z y04 (wz Z Z (fun hc=>zh (.ptr _ _) Z) (wz Z Z (fun hc=>wq (cnd (c:=((!(!r11.2)) && (!s1.ended_))) hc)) (wz Z Z (fun hc=>zn z6r (cnd (c:=((!(!r11.2)) && (!s1.ended_))) hc)) (x6b Z Z (fun hc=>zp vc (cnd (c:=((!(!r11.2)) && (!s1.ended_))) hc) Z) Z y04 (wz Z Z (fun hc=>yk qr (cnd (c:=((!(!r11.2)) && (!s1.ended_))) hc)) (wz Z Z (fun hc=>yl _ (cnd (c:=((!(!r11.2)) && (!s1.ended_))) hc) Z (.inr (.inl ⟨Z,Z⟩))) (wz Z Z (fun hc=>yn (cnd (c:=((!(!r11.2)) && (!s1.ended_))) hc) (cnd (c:=((!(!r11.2)) && (!s1.ended_))) hc)) (yu Z Z (fun hc=>wy (cnd (c:=(!(!r11.2))) hc) (fun hb=>(cnd (c:=((!(!r11.2)) && (!s1.ended_))) (andI hc hb))) Z) (za (vk Z Z (fun hb=>(cnd (c:=(!(!r11.2))) (notI hb)))) ⟨Z,?_⟩)))))))))))
    refine zf _ Z (fun h13 => ?_) (fun h13 => ?_)
    ·refine tE h13 H fun H=>zb hN Z (za (zh (.ptr _ _) Z) (za (wq Z) (za (zn Qx Z) (zj (wa tyS4 Z Z Z Z) Z (zb hN Z (qe Z (zg ?_)))))))
     cases H
     exact ⟨U,⟨.inr ⟨Z,Z⟩,U⟩,Z⟩
    ·refine fE h13 H fun H=>zl (zb hN Z (za (zh (.ptr _ _) Z) (za (wq Z) (za (zn Zi Z) (zm (zp tyS3 Z Z) Z (za (yl _ Z Z (.inl ⟨Z,Z⟩)) (za (wq Z) (za (zn Zi Z) (zj (wa tyS3 Z Z Z Z) Z (zb hN Z (qd Z (qe Z (zg ?_)))))))))))))
     cases H
     exact ⟨U,⟨.inl Z,U⟩,Z⟩
theorem y4r (s1:jg) (word2:Bs) (must3:Bool) (r:(Bs×jg)) (H:z4a s1 word2 must3=some r):Imp Tryz.prog 248 295 (Yr s1) [vstr word2,zi must3] (zr [vstr r.1]) (Yr r.2):=by
 refine kv (us:=[vstr r.1]) (cs':=(Yr r.2)) (by kernel_rfl) Tryz.func248 Z Z Z Z fun X bl hN => ?_
 unfold z4a at H
 refine zb hN Z (qe Z (zb hN Z (za (zh (.ptr _ _) Z) (qd Z (qd Z (bE H fun r4 h5 H=>zj (qt (y4s s1 word2 must3 r4 h5) Z ⟨.inl Z,.inl Z,U⟩ Z) Z (qe Z (yc (ι:=Int×Bool) (fun i=>[(7,.dat (vlst (List.map zt r4.1)))]) (fun i=>[(0,.box (some bl) 295 [.dat (vlst (List.map zt r4.2.lines_)),.dat (zi r4.2.ended_),.dat (vint i.1),.dat (zi i.2)])]) (fun i=>z6z r4 i.1 i.2=some r) (fun i=>Z) ?_ ?_))))))))
 ·skip
  refine zb hN Z (qd Z (za (yk qr Z) (za (qh Z Z) (zf _ Z (fun h6 => ?_) (fun h6 => ?_)))))
  ·exact tE h6 H fun H=>zb hN Z (za (zh (.ptr _ _) Z) (za (wq Z) (za (zn Qx Z) (zj (wa tyS4 Z Z Z Z) Z (zk hN Z (za (zh (.ptr _ _) Z) (za (wq Z) (za (zn Zi Z) (zm (zp tyS3 Z Z) Z (za (yl _ Z Z (.inr (.inl ⟨Z,Z⟩))) (za (wq Z) (za (zn Zi Z) (zj (wa tyS3 Z Z Z Z) Z ⟨(wr (r4.2.at_ - 1),true),H,⟨Z,U⟩,⟨Z,U⟩⟩)))))))))))))
  ·exact fE h6 H fun H=>zl ⟨(r4.2.at_,r4.2.bad_),H,⟨Z,U⟩,⟨Z,U⟩⟩
 ·rintro ⟨c7,c8⟩ H
  replace H:z6z r4 c7 c8=some r:=H
  unfold z6z at H
  refine zd (zb hN Z (qd Z (za (yk qr Z) (za (qj Z Z) (zf _ Z (fun h9 => ?_) (fun h9 => ?_))))))
  ·refine tE h9 H fun H=>zb hN Z (qe Z (zg ?_))
   cases H
   exact ⟨U,⟨.inl Z,U⟩,Z⟩
  ·refine fE h9 H fun H=>zl (zb hN Z (qd Z (bE H fun x10 h11 H=>za (qp wv (fun _=>Z) Z Z h11) (za (yr tyS9 Z (ym h11) Z) (qe Z (zg ?_))))))
   cases H
   exact ⟨U,⟨.inl Z,U⟩,Z⟩
theorem w8g (s1:jg) (r:(Int×Int×jg)) (H:y9o s1=some r):Imp Tryz.prog 250 295 (Yr s1) [] (zr [vint r.1,vint r.2.1]) (Yr r.2.2):=by
 refine kv (us:=[vint r.1,vint r.2.1]) (cs':=(Yr r.2.2)) (by kernel_rfl) Tryz.func250 Z Z Z Z fun X bl hN => ?_
 unfold y9o at H
 refine zb hN Z (qe Z (qe Z (zb hN Z (za (zh (.ptr _ _) Z) (bE H fun r2 h3 H=>zj (qt (y4s s1 [116,105,109,101] true r2 h3) Z ⟨.inl Z,.inl Z,U⟩ Z) Z (qe Z (zd (zb hN Z (za (zh (.ptr _ _) Z) (za (wq Z) (za (zn Qx Z) (zm (zp tyS4 Z Z) Z (zf _ Z (fun h4 => ?_) (fun h4 => ?_))))))))))))))
 ·refine tE h4 H fun H=>zb hN Z (qe Z (qe Z (zg ?_)))
  cases H
  exact ⟨U,⟨.inl Z,.inl Z,U⟩,Z⟩
 ·refine fE h4 H fun H=>zl (yc (ι:=Unit) (fun i=>[(0,.ptr 0 0)]) (fun i=>[(0,.box (some bl) 295 [.dat (vlst (List.map zt r2.2.lines_)),.dat (zi r2.2.ended_),.dat (vint r2.2.at_),.dat (zi r2.2.bad_)])]) (fun i=>z6y r2=some r) (fun i=>Z) ?_ ?_)
  ·skip
   refine zb hN Z (qd Z (za (yk qr Z) (za (yn Z Z) (zf _ Z (fun h5 => ?_) (fun h5 => ?_)))))
   ·refine tE h5 H fun H=>zb hN Z (qd Z (bE H fun x6 h7 H=>za (qp wv (fun _=>Z) Z Z h7) (za (yr tyS9 Z (ym h7) Z) (bE H fun r8 h9 H=>za (zo (x02 x6 15 r8 h9) ⟨.inl Z,.inl Z,U⟩) (qd Z (za (ye Z Z) (za (ye Z Z) (qe Z (qe Z (zb hN Z (qd Z (bE H fun x10 h11 H=>za (qp wv (fun _=>Z) Z Z h11) (za (yr tyS9 Z (ym h11) Z) (bE H fun r12 h13 H=>za (zo (x02 x10 15 r12 h13) ⟨.inl Z,.inl Z,U⟩) (qd Z (za (ye Z Z) (za (ye Z Z) (qe Z ?_))))))))))))))))))
    refine qe Z (zb hN Z (qd Z (qd Z (yz Z Z (fun hc=>zh (.dat _) Z) (za (wy Z (fun hb=>(cnd (c:=r8.2) hb)) Z) (zf _ Z (fun h14 => ?_) (fun h14 => ?_)))))))
    ·refine tE h14 H fun H=>zb hN Z (qd Z (qd Z (qe Z (qe Z (zg ?_)))))
     cases H
     exact ⟨U,⟨.inl Z,.inl Z,U⟩,Z⟩
    ·exact fE h14 H fun H=>zl ⟨(),H,⟨Z,U⟩,⟨Z,U⟩⟩
   ·exact fE h5 H fun H=>zl ⟨(),H,⟨Z,U⟩,⟨Z,U⟩⟩
  ·rintro ⟨⟩ H
   replace H:z6y r2=some r:=H
   unfold z6y at H
   refine zb hN Z (za (zh (.ptr _ _) Z) (za (wq Z) (za (zn Qx Z) (zj (wa tyS4 Z Z Z Z) Z (zb hN Z (za (zh (.ptr _ _) Z) (za (wq Z) (za (zn Zi Z) (zm (zp tyS3 Z Z) Z (za (yl _ Z Z (.inr (.inl ⟨Z,Z⟩))) (za (wq Z) (za (zn Zi Z) (zj (wa tyS3 Z Z Z Z) Z (zb hN Z (qe Z (qe Z (zg ?_)))))))))))))))))
   cases H
   exact ⟨U,⟨.inl Z,.inl Z,U⟩,Z⟩
theorem v0h (l1:(List Bs)) (r:(Int)) (H:y98 l1=some r):Fn Tryz.prog 283 [vlst (List.map zt l1)] (zr [vint r]):=by
 refine ⟨by kernel_rfl,zx (us:=[vint r]) Tryz.func283 Z Z Z Z fun X hN => ?_⟩
 unfold y98 at H
 refine zb hN Z (qe Z (zd (zb hN Z (qd Z (za (yk qr Z) (qd Z (zu (gE H fun h4 H=>qq (fun (k2:Nat) (s:Unit)=>[(0,.dat (vlst (List.map zt l1))),(5,.dat (vlst (List.map zt l1))),(6,.dat (vint (l1.length:Int))),(7,.dat (vint (k2:Int)))]) (fun (k2:Nat) (s:Unit)=>[]) () H ⟨Z,Z,Z,Z,U⟩ U (fun _ _=>Z) ?_ ?_))))))))
 ·rintro ⟨⟩ H
  replace H:x0p=some r:=H
  unfold x0p at H
  refine zb hN Z (za (zw Z Z) (zd (zf _ Z (fun h=>(lt_t h).elim) (fun h => ?_))))
  refine yp (zb hN Z (qe Z (zg ?_)))
  cases H
  exact ⟨U,.inl Z,U⟩
 ·rintro k2 x5 ⟨⟩ q3 h6 h7 H hq3
  replace H:x0o l1 k2 x5=some q3:=H
  unfold x0o at H
  refine zb hN Z (za (zw Z Z) (zd (zf _ Z (fun h => ?_) (fun h=>(lt_f h6 h).elim))))
  refine zl (zd (zu (zb hN Z (qd Z (za (qp wv (fun _=>Z) Z Z h7) (za (yr tyS9 Z (ym h7) Z) (qe Z (qe Z (zd (zb hN Z (qd Z (bE H fun r8 h9 H=>za (zo (ku x5 r8 h9) ⟨.inl Z,U⟩) (za (yv Z) (zf _ Z (fun h10 => ?_) (fun h10 => ?_)))))))))))))))
  ·refine tE h10 H fun H=>zb hN Z (qe Z (zg ?_))
   replace H:=retl H hq3
   cases H
   exact ⟨U,.inl Z,U⟩
  ·refine fE h10 H fun H=>zl (yc (ι:=Bool) (fun i=>[(0,.dat (vlst (List.map zt l1))),(5,.dat (vlst (List.map zt l1))),(6,.dat (vint (l1.length:Int))),(7,.dat (vint (k2:Int))),(25,.dat (zi i))]) (fun i=>[]) (fun i=>z9z i=some q3) (fun i=>Z) ?_ ?_)
   ·skip
    refine zk hN Z (qd Z (za (qh Z Z) (qd Z (yi (j:=2) Z Z (fun h11 => ?_) (fun h11 => ?_) Z))))
    ·exact u1 h11 H fun h12 H=>ze Z Z h11 (zh (.dat _) Z) (ze Z Z h11 (zh (.dat _) Z) (ze Z Z h11 (zh (.dat _) Z) (ze Z Z h11 (Wd Z Z (by omega)) (bE H fun x13 h14 H=>ze Z Z h11 (wx wv (fun _=>Z) Z Z h14) (ze Z Z h11 (yr tyS9 Z (ym (qk h14).2) Z) (ze Z Z h11 (Zz Z Z) (za (yb Z (bTT h12) Z) ⟨(Op.bytesLess x5 x13 || x5 == x13),H,⟨Z,Z,Z,Z,Z,U⟩,U⟩)))))))
    ·exact u2 h11 H fun h15 H=>zc Z Z h11 (zc Z Z h11 (zc Z Z h11 (zc Z Z h11 (zc Z Z h11 (zc Z Z h11 (zc Z Z h11 (za (ya Z (bFF h15) Z) ⟨false,H,⟨Z,Z,Z,Z,Z,U⟩,U⟩)))))))
   ·rintro v16 H
    replace H:z9z v16=some q3:=H
    unfold z9z at H
    refine zf _ Z (fun h17 => ?_) (fun h17 => ?_)
    ·refine tE h17 H fun H=>zb hN Z (qe Z (zg ?_))
     replace H:=retl H hq3
     cases H
     exact ⟨U,.inl Z,U⟩
    ·exact fE h17 H fun H=>zl (zk hN Z (za (qi Z Z (by omega)) (qd Z ⟨_,yw H,⟨Z,Z,Z,Z,U⟩,U⟩)))
theorem x76 (s1:(List Bs)) (s2:(List Bs)) (r:(Bool)) (H:z8n s1 s2=some r):Fn Tryz.prog 11 [vlst (List.map zt s1),vlst (List.map zt s2)] (zr [zi r]):=by
 refine ⟨by kernel_rfl,zx (us:=[zi r]) Tryz.func11 Z Z Z Z fun X hN => ?_⟩
 unfold z8n at H
 refine zb hN Z (qe Z (zd (zb hN Z (qd Z (za (yk qr Z) (qd Z (za (yk qr Z) (za (qj Z Z) (zf _ Z (fun h3 => ?_) (fun h3 => ?_))))))))))
 ·refine tE h3 H fun H=>zb hN Z (qe Z (zg ?_))
  cases H
  exact ⟨U,.inl Z,U⟩
 ·refine fE h3 H fun H=>zl (zd (zb hN Z (qd Z (za (yk qr Z) (qd Z (zu (gE H fun h6 H=>qq (fun (k4:Nat) (s:Unit)=>[(0,.dat (vlst (List.map zt s1))),(1,.dat (vlst (List.map zt s2))),(12,.dat (vint (s1.length:Int))),(13,.dat (vint (k4:Int)))]) (fun (k4:Nat) (s:Unit)=>[]) () H ⟨Z,Z,Z,Z,U⟩ U (fun _ _=>Z) ?_ ?_)))))))
  ·rintro ⟨⟩ H
   replace H:y8q=some r:=H
   unfold y8q at H
   refine zb hN Z (za (zw Z Z) (zd (zf _ Z (fun h=>(lt_t h).elim) (fun h => ?_))))
   refine yp (zb hN Z (qe Z (zg ?_)))
   cases H
   exact ⟨U,.inl Z,U⟩
  ·rintro k4 x7 ⟨⟩ q5 h8 h9 H hq5
   replace H:y8p s2 k4 x7=some q5:=H
   unfold y8p at H
   refine zb hN Z (za (zw Z Z) (zd (zf _ Z (fun h => ?_) (fun h=>(lt_f h8 h).elim))))
   refine zl (zd (zu (zb hN Z (qd Z (qe Z (zd (wg mixed hN Z Z (qd Z (qd Z (za (qp wv (fun _=>Z) Z Z h9) (za (yr tyS9 Z (ym h9) Z) (qd Z (qd Z (bE H fun x10 h11 H=>za (qp wv (fun _=>Z) Z Z h11) (za (yr tyS9 Z (ym h11) Z) (za (js Z Z) ⟨Z,?_⟩))))))))))))))))
   refine zf _ Z (fun h12 => ?_) (fun h12 => ?_)
   ·refine tE h12 H fun H=>zb hN Z (qe Z (zg ?_))
    replace H:=retl H hq5
    cases H
    exact ⟨U,.inl Z,U⟩
   ·exact fE h12 H fun H=>zl (zk hN Z (za (qi Z Z (by omega)) (qd Z ⟨_,yw H,⟨Z,Z,Z,Z,U⟩,U⟩)))
theorem w8w (v1:qg) (r:(Int)) (H:y9u v1=some r):Fn Tryz.prog 251 [vagg (vd v1)] (zr [vint r]):=by
 refine ⟨by kernel_rfl,zx (us:=[vint r]) Tryz.func251 Z Z Z Z fun X hN => ?_⟩
 unfold y9u at H
 refine zb hN Z (zj (qu 1 Z) Z (qe Z (zd (yc (ι:=Bool) (fun i=>[(1,.ptr 1 0),(31,.dat (zi i))]) (fun i=>[(1,.box none 152 [.dat (vstr v1.Id),.dat (vstr v1.Subject),.dat (vstr v1.Issuer),.dat (vstr v1.Parent),.dat (vlst (List.map zt v1.Audience)),.dat (vlst (List.map zt v1.Scopes)),.dat (vint v1.From),.dat (vint v1.To)])]) (fun i=>Wc v1 i=some r) (fun i=>Z) ?_ ?_))))
 ·skip
  refine zk hN Z (za (zn y7b Z) (zm (zp tyS9 Z Z) Z (bE H fun r2 h3 H=>za (zo (ku v1.Id r2 h3) ⟨.inl Z,U⟩) (za (yv Z) (qd Z (yi (j:=4) Z Z (fun h4 => ?_) (fun h4 => ?_) Z))))))
  ·refine u3 h4 H fun h5 H=>ze Z Z h4 (zn y7a Z) (qz Z Z h4 (zp tyS9 Z Z) Z (bE H fun r6 h7 H=>ze Z Z h4 (zo (ku v1.Subject r6 h7) ⟨.inl Z,U⟩) (ze Z Z h4 (yv Z) (za (ya Z (bFF h5) Z) (qd Z (yi (j:=10) Z Z (fun h8 => ?_) (fun h8 => ?_) Z))))))
   ·refine u3 h8 H fun h9 H=>ze Z Z h8 (zn y69 Z) (qz Z Z h8 (zp tyS9 Z Z) Z (bE H fun r10 h11 H=>ze Z Z h8 (zo (ku v1.Issuer r10 h11) ⟨.inl Z,U⟩) (ze Z Z h8 (yv Z) (za (ya Z (bFF h9) Z) (qd Z (yi (j:=16) Z Z (fun h12 => ?_) (fun h12 => ?_) Z))))))
    ·refine u3 h12 H fun h13 H=>ze Z Z h12 (zn y1x Z) (qz Z Z h12 (zp tyS9 Z Z) Z (ze Z Z h12 (js Z Z) (ze Z Z h12 (zh (.dat _) Z) (yi (j:=20) Z Z (fun h14 => ?_) (fun h14 => ?_) Z))))
     ·exact u1 h14 H fun h15 H=>ze Z Z h14 (zn y1x Z) (qz Z Z h14 (zp tyS9 Z Z) Z (bE H fun r16 h17 H=>ze Z Z h14 (zo (ku v1.Parent r16 h17) ⟨.inl Z,U⟩) (ze Z Z h14 (yv Z) (ze Z Z h12 (yb Z (bTT h15) Z) (za (ya Z (bFF h13) Z) ⟨!r16,H,⟨Z,Z,U⟩,⟨Z,U⟩⟩)))))
     ·exact u2 h14 H fun h18 H=>zc Z Z h14 (zc Z Z h14 (zc Z Z h14 (zc Z Z h14 (ze Z Z h12 (ya Z (bFF h18) Z) (za (ya Z (bFF h13) Z) ⟨false,H,⟨Z,Z,U⟩,⟨Z,U⟩⟩)))))
    ·exact u4 h12 H fun h19 H=>zc Z Z h12 (zc Z Z h12 (zc Z Z h12 (zc Z Z h12 (yx Z Z (yx Z Z (yx Z Z (yx Z Z (zc Z Z h12 (za (yb Z (bTT h19) Z) ⟨true,H,⟨Z,Z,U⟩,⟨Z,U⟩⟩)))))))))
   ·exact u4 h8 H fun h20 H=>zc Z Z h8 (zc Z Z h8 (zc Z Z h8 (zc Z Z h8 (za (yb Z (bTT h20) Z) (qd Z (zc Z Z Z (zc Z Z Z (zc Z Z Z (zc Z Z Z (yx Z Z (yx Z Z (yx Z Z (yx Z Z (zc Z Z Z (za (yb Z Z Z) ⟨true,H,⟨Z,Z,U⟩,⟨Z,U⟩⟩)))))))))))))))
  ·exact u4 h4 H fun h21 H=>zc Z Z h4 (zc Z Z h4 (zc Z Z h4 (zc Z Z h4 (za (yb Z (bTT h21) Z) (qd Z (zc Z Z Z (zc Z Z Z (zc Z Z Z (zc Z Z Z (za (yb Z Z Z) (qd Z (zc Z Z Z (zc Z Z Z (zc Z Z Z (zc Z Z Z (yx Z Z (yx Z Z (yx Z Z (yx Z Z (zc Z Z Z (za (yb Z Z Z) ⟨true,H,⟨Z,Z,U⟩,⟨Z,U⟩⟩)))))))))))))))))))))
 ·rintro v22 H
  replace H:Wc v1 v22=some r:=H
  unfold Wc at H
  refine zf _ Z (fun h23 => ?_) (fun h23 => ?_)
  ·refine tE h23 H fun H=>zb hN Z (qe Z (zg ?_))
   cases H
   exact ⟨U,.inl Z,U⟩
  ·refine fE h23 H fun H=>zl (zd (zb hN Z (za (zn z6v Z) (zm (zp vc Z Z) Z (za (yk qr Z) (za (qh Z Z) (zf _ Z (fun h24 => ?_) (fun h24 => ?_))))))))
   ·refine tE h24 H fun H=>zb hN Z (qe Z (zg ?_))
    cases H
    exact ⟨U,.inl Z,U⟩
   ·refine fE h24 H fun H=>zl (zd (zb hN Z (za (zn z6v Z) (zm (zp vc Z Z) Z (bE H fun r25 h26 H=>za (zo (v0h v1.Audience r25 h26) ⟨.inl Z,U⟩) (qe Z (zb hN Z (qd Z (za (qj Z Z) (zf _ Z (fun h27 => ?_) (fun h27 => ?_)))))))))))
    ·refine tE h27 H fun H=>zb hN Z (qd Z (qe Z (zg ?_)))
     cases H
     exact ⟨U,.inl Z,U⟩
    ·refine fE h27 H fun H=>zl (zd (zb hN Z (za (zn z6u Z) (zm (zp vc Z Z) Z (bE H fun r28 h29 H=>za (zo (z93 v1.Scopes r28 h29) ⟨.inl Z,U⟩) (qe Z (zb hN Z (qd Z (za (qj Z Z) (zf _ Z (fun h30 => ?_) (fun h30 => ?_)))))))))))
     ·refine tE h30 H fun H=>zb hN Z (qd Z (qe Z (zg ?_)))
      cases H
      exact ⟨U,.inl Z,U⟩
     ·refine fE h30 H fun H=>zl (zd (zd (wg mixed hN Z Z (za (zn z6u Z) (zm (zp vc Z Z) Z (za (zn z6u Z) (zm (zp vc Z Z) Z (bE H fun r31 h32 H=>za (zo (x0s v1.Scopes r31 h32) ⟨.inl Z,U⟩) (bE H fun r33 h34 H=>za (zo (x76 v1.Scopes r31 r33 h34) ⟨.inl Z,.inl Z,U⟩) (za (yv Z) ⟨Z,?_⟩))))))))))
      refine zf _ Z (fun h35 => ?_) (fun h35 => ?_)
      ·refine tE h35 H fun H=>zb hN Z (qe Z (zg ?_))
       cases H
       exact ⟨U,.inl Z,U⟩
      ·refine fE h35 H fun H=>zl (zd (zb hN Z (za (zn y1w Z) (zm (zp tyS3 Z Z) Z (za (zw Z Z) (qd Z (yu Z Z (fun hc=>zn y1w Z) (uk Z Z (fun hc=>zp tyS3 (cnd (c:=(!(decide (v1.From < 0)))) hc) Z) Z jf (yu Z Z (fun hc=>zn y1v Z) (uk Z Z (fun hc=>zp tyS3 (cnd (c:=(!(decide (v1.From < 0)))) hc) Z) Z jf (yu Z Z (fun hc=>vt (cnd (c:=(!(decide (v1.From < 0)))) hc) (cnd (c:=(!(decide (v1.From < 0)))) hc)) (za (vk Z Z (fun hb=>(cnd (c:=(!(decide (v1.From < 0)))) (notI hb)))) (qd Z (yu Z Z (fun hc=>zn y1v Z) (uk Z Z (fun hc=>zp tyS3 (cnd (c:=(!((decide (v1.From < 0)) || (decide (v1.To≤v1.From))))) hc) Z) Z jf (yu Z Z (fun hc=>qh (cnd (c:=(!((decide (v1.From < 0)) || (decide (v1.To≤v1.From))))) hc) Z) (za (vk Z Z (fun hb=>(cnd (c:=(!((decide (v1.From < 0)) || (decide (v1.To≤v1.From))))) (notI hb)))) (zf _ Z (fun h36 => ?_) (fun h36 => ?_)))))))))))))))))))
       ·refine tE h36 H fun H=>zb hN Z (qe Z (zg ?_))
        cases H
        exact ⟨U,.inl Z,U⟩
       ·refine fE h36 H fun H=>zl (zb hN Z (qe Z (zg ?_)))
        cases H
        exact ⟨U,.inl Z,U⟩
theorem w8n (v1:Bs) (r:(qg×Int×Int)) (H:y9r v1=some r):Fn Tryz.prog 211 [vstr v1] (zr [vagg (vd r.1),vint r.2.1,vint r.2.2]):=by
 refine ⟨by kernel_rfl,zx (us:=[vagg (vd r.1),vint r.2.1,vint r.2.2]) Tryz.func211 Z Z Z Z fun X hN => ?_⟩
 unfold y9r at H
 refine zb hN Z (zj (qm 1 jq Z) Z (qe Z (qe Z (zd (zb hN Z (qd Z (za (wl tyU9 Z) (za (qh Z Z) (zf _ Z (fun h2 => ?_) (fun h2 => ?_))))))))))
 ·refine tE h2 H fun H=>zb hN Z (za (jc (u':=vagg (vd (qg.mk [] [] [] [] [] [] 0 0))) (jb (by exact ⟨yf,yf,yf,yf,wo,wo,yf,yf,U⟩)) (qv [] jq ky Z U)) ?_)
  refine zj (yo wu Z Z Z Z) Z (qe Z (qe Z (zg ?_)))
  cases H
  exact ⟨U,.inl ⟨_,_,_,vd (qg.mk [] [] [] [] [] [] 0 0),Z,Z,Z,Z,wu⟩,.inl Z,.inl Z,U⟩
 ·refine fE h2 H fun H=>zl (zb hN Z (za (jc (u':=vagg (Yr (jg.mk [] false 0 false))) (jb (by exact ⟨wo,yf,yf,yf,U⟩)) (qv [] w03 w1j Z U)) ?_))
  refine zj (qu 2 Z) Z (za (wm (.ptr _ _) Z) (zb hN Z (za (zh (.ptr _ _) Z) (za (zh (.ptr _ _) Z) (qd Z (bE H fun r3 h4 H=>za (zo (v0i v1 r3 h4) ⟨.inl Z,U⟩) (qd Z (za (ye Z Z) (za (ye Z Z) (za (wq Z) (za (zn z6r Z) (zj (wa vc Z Z Z Z) Z (za (wq Z) (za (zn x4r Z) (zj (wa tyS4 Z Z Z Z) Z (zb hN Z (za (jc (u':=vagg (vd (qg.mk [] [] [] [] [] [] 0 0))) (jb (by exact ⟨yf,yf,yf,yf,wo,wo,yf,yf,U⟩)) (qv [] jq ky Z U)) ?_)))))))))))))))))
  refine zj (qm 3 jq Z) Z (zj (yo wu Z Z Z Z) Z (zb hN Z (za (zh (.ptr _ _) Z) (bE H fun r5 h6 H=>zj (qt (y4r (jg.mk r3.1 r3.2 0 false) [105,100] true r5 h6) Z ⟨.inl Z,.inl Z,U⟩ Z) Z (za (zn y7b Z) (zj (wa tyS9 Z Z Z Z) Z (zb hN Z (za (zh (.ptr _ _) Z) (bE H fun r7 h8 H=>zj (qt (y4r r5.2 [115,117,98,106,101,99,116] true r7 h8) Z ⟨.inl Z,.inl Z,U⟩ Z) Z (za (zn y7a Z) (zj (wa tyS9 Z Z Z Z) Z (zb hN Z (za (zh (.ptr _ _) Z) (bE H fun r9 h10 H=>zj (qt (y4r r7.2 [105,115,115,117,101,114] true r9 h10) Z ⟨.inl Z,.inl Z,U⟩ Z) Z (za (zn y69 Z) (zj (wa tyS9 Z Z Z Z) Z (zb hN Z (za (zh (.ptr _ _) Z) (bE H fun r11 h12 H=>zj (qt (y4r r9.2 [112,97,114,101,110,116] false r11 h12) Z ⟨.inl Z,.inl Z,U⟩ Z) Z ?_)))))))))))))))))))
  refine za (zn y1x Z) (zj (wa tyS9 Z Z Z Z) Z (zb hN Z (za (zh (.ptr _ _) Z) (bE H fun r13 h14 H=>zj (qt (y4s r11.2 [102,111,114] false r13 h14) Z ⟨.inl Z,.inl Z,U⟩ Z) Z (za (zn z6v Z) (zj (wa vc Z Z Z Z) Z (zb hN Z (za (zh (.ptr _ _) Z) (bE H fun r15 h16 H=>zj (qt (y4s r13.2 [109,97,121] false r15 h16) Z ⟨.inl Z,.inl Z,U⟩ Z) Z (za (zn z6u Z) (zj (wa vc Z Z Z Z) Z (zb hN Z (za (zh (.ptr _ _) Z) (bE H fun r17 h18 H=>zj (qt (w8g r15.2 r17 h18) Z U Z) Z (qd Z (za (ye Z Z) (za (ye Z Z) (za (zn y1w Z) (zj (wa tyS3 Z Z Z Z) Z (za (zn y1v Z) ?_))))))))))))))))))))
  refine zj (wa tyS3 Z Z Z Z) Z (zd (zd (wg mixed hN Z Z (za (zh (.ptr _ _) Z) (za (wq Z) (za (zn Qx Z) (zm (zp tyS4 Z Z) Z (qd Z (yu Z Z (fun hc=>zh (.ptr _ _) Z) (yu Z Z (fun hc=>wq (cnd (c:=(!r17.2.2.bad_)) hc)) (yu Z Z (fun hc=>zn Zi (cnd (c:=(!r17.2.2.bad_)) hc)) (uk Z Z (fun hc=>zp tyS3 (cnd (c:=(!r17.2.2.bad_)) hc) Z) Z y04 (yu Z Z (fun hc=>zh (.ptr _ _) Z) (yu Z Z (fun hc=>wq (cnd (c:=(!r17.2.2.bad_)) hc)) (yu Z Z (fun hc=>zn z6r (cnd (c:=(!r17.2.2.bad_)) hc)) (uk Z Z (fun hc=>zp vc (cnd (c:=(!r17.2.2.bad_)) hc) Z) Z y04 (yu Z Z (fun hc=>yk qr (cnd (c:=(!r17.2.2.bad_)) hc)) (yu Z Z (fun hc=>zw (cnd (c:=(!r17.2.2.bad_)) hc) (cnd (c:=(!r17.2.2.bad_)) hc)) (za (vk Z Z (fun hb=>(cnd (c:=(!r17.2.2.bad_)) (notI hb)))) ⟨Z,?_⟩)))))))))))))))))))
  refine zf _ Z (fun h19 => ?_) (fun h19 => ?_)
  ·refine tE h19 H fun H=>zd (wg mixed hN Z Z (za (jc (u':=vagg (vd (qg.mk [] [] [] [] [] [] 0 0))) (jb (by exact ⟨yf,yf,yf,yf,wo,wo,yf,yf,U⟩)) (qv [] jq ky Z U)) ?_))
   refine za (zh (.ptr _ _) Z) (za (wq Z) (za (zn Zi Z) (zm (zp tyS3 Z Z) Z (zj (yo wu Z Z Z Z) Z (qe Z (qe Z ⟨Z,?_⟩))))))
   refine zg ?_
   cases H
   exact ⟨U,.inl ⟨_,_,_,vd (qg.mk [] [] [] [] [] [] 0 0),Z,Z,Z,Z,wu⟩,.inl Z,.inl Z,U⟩
  ·refine fE h19 H fun H=>zl (zd (zb hN Z (zm (qc wu Z Z Z) Z (bE H fun r20 h21 H=>za (zo (w8w (qg.mk r5.1 r7.1 r9.1 r11.1 r13.1 r15.1 r17.1 r17.2.1) r20 h21) ⟨.inl Z,U⟩) (qe Z (zb hN Z (qd Z (za (qj Z Z) (zf _ Z (fun h22 => ?_) (fun h22 => ?_))))))))))
   ·refine tE h22 H fun H=>zb hN Z (za (jc (u':=vagg (vd (qg.mk [] [] [] [] [] [] 0 0))) (jb (by exact ⟨yf,yf,yf,yf,wo,wo,yf,yf,U⟩)) (qv [] jq ky Z U)) ?_)
    refine qd Z (zj (yo wu Z Z Z Z) Z (qe Z (qe Z (zg ?_))))
    cases H
    exact ⟨U,.inl ⟨_,_,_,vd (qg.mk [] [] [] [] [] [] 0 0),Z,Z,Z,Z,wu⟩,.inl Z,.inl Z,U⟩
   ·refine fE h22 H fun H=>zl (zb hN Z (zm (qc wu Z Z Z) Z (zj (yo wu Z Z Z Z) Z (qe Z (qe Z (zg ?_))))))
    cases H
    exact ⟨U,.inl ⟨_,_,_,vd (qg.mk r5.1 r7.1 r9.1 r11.1 r13.1 r15.1 r17.1 r17.2.1),Z,Z,Z,Z,wu⟩,.inl Z,.inl Z,U⟩
theorem w8p (v1:(List wh)) (v2:Bs) (v3:Int) (r:(qg×Int)) (H:y9s v1 v2 v3=some r):Fn Tryz.prog 146 [vlst (List.map um v1),vstr v2,vint v3] (zr [vagg (vd r.1),vint r.2]):=by
 refine ⟨by kernel_rfl,zx (us:=[vagg (vd r.1),vint r.2]) Tryz.func146 Z Z Z Z fun X hN => ?_⟩
 unfold y9s at H
 refine zb hN Z (zj (qm 1 jq Z) Z (qe Z (zd (zb hN Z (qd Z (bE H fun r4 h5 H=>za (zo (x70 v1 r4 h5) ⟨.inl Z,U⟩) (qe Z (zb hN Z (qd Z (za (qj Z Z) (zf _ Z (fun h6 => ?_) (fun h6 => ?_))))))))))))
 ·refine tE h6 H fun H=>zb hN Z (za (jc (u':=vagg (vd (qg.mk [] [] [] [] [] [] 0 0))) (jb (by exact ⟨yf,yf,yf,yf,wo,wo,yf,yf,U⟩)) (qv [] jq ky Z U)) ?_)
  refine qd Z (zj (yo wu Z Z Z Z) Z (qe Z (zg ?_)))
  cases H
  exact ⟨U,.inl ⟨_,_,_,vd (qg.mk [] [] [] [] [] [] 0 0),Z,Z,Z,Z,wu⟩,.inl Z,U⟩
 ·refine fE h6 H fun H=>zl (zd (zb hN Z (qd Z (bE H fun r7 h8 H=>za (zo (w76 v3 r7 h8) ⟨.inl Z,U⟩) (qe Z (zb hN Z (qd Z (za (qj Z Z) (zf _ Z (fun h9 => ?_) (fun h9 => ?_))))))))))
  ·refine tE h9 H fun H=>zb hN Z (za (jc (u':=vagg (vd (qg.mk [] [] [] [] [] [] 0 0))) (jb (by exact ⟨yf,yf,yf,yf,wo,wo,yf,yf,U⟩)) (qv [] jq ky Z U)) ?_)
   refine qd Z (zj (yo wu Z Z Z Z) Z (qe Z (zg ?_)))
   cases H
   exact ⟨U,.inl ⟨_,_,_,vd (qg.mk [] [] [] [] [] [] 0 0),Z,Z,Z,Z,wu⟩,.inl Z,U⟩
  ·refine fE h9 H fun H=>zl (zb hN Z (qd Z (bE H fun r10 h11 H=>za (zo (Qm v2 [46] r10 h11) ⟨.inl Z,.inl Z,U⟩) (zj (qm 2 w02 Z) Z (zj (wa vc Z Z Z Z) Z (zd (yc (ι:=Bool) (fun i=>[(0,.dat (vlst (List.map um v1))),(2,.dat (vint v3)),(6,.ptr 1 0),(10,.ptr 2 0),(39,.dat (zi i))]) (fun i=>[(1,.box none 152 [.dat (vstr []),.dat (vstr []),.dat (vstr []),.dat (vstr []),.dat (vnil),.dat (vnil),.dat (vint 0),.dat (vint 0)]),(2,.box none 36 [.dat (vlst (List.map zt r10))])]) (fun i=>z61 v1 v3 r10 i=some r) (fun i=>Z) ?_ ?_)))))))
   ·skip
    refine zk hN Z (zm (zp vc Z Z) Z (za (yk qr Z) (za (qj Z Z) (qd Z (yi (j:=3) Z Z (fun h12 => ?_) (fun h12 => ?_) Z)))))
    ·exact u3 h12 H fun h13 H=>qz Z Z h12 (zp vc Z Z) Z (bE H fun x14 h15 H=>ze Z Z h12 (qp wv (fun _=>Z) Z Z h15) (ze Z Z h12 (yr tyS9 Z (ym h15) Z) (bE H fun r16 h17 H=>ze Z Z h12 (zo (ku x14 r16 h17) ⟨.inl Z,U⟩) (ze Z Z h12 (yv Z) (za (ya Z (bFF h13) Z) ⟨!r16,H,⟨Z,Z,Z,Z,Z,U⟩,⟨Z,Z,U⟩⟩)))))
    ·exact u4 h12 H fun h18 H=>zc Z Z h12 (zc Z Z h12 (zc Z Z h12 (zc Z Z h12 (zc Z Z h12 (za (yb Z (bTT h18) Z) ⟨true,H,⟨Z,Z,Z,Z,Z,U⟩,⟨Z,Z,U⟩⟩)))))
   ·rintro v19 H
    replace H:z61 v1 v3 r10 v19=some r:=H
    unfold z61 at H
    refine zf _ Z (fun h20 => ?_) (fun h20 => ?_)
    ·refine tE h20 H fun H=>zb hN Z (za (jc (u':=vagg (vd (qg.mk [] [] [] [] [] [] 0 0))) (jb (by exact ⟨yf,yf,yf,yf,wo,wo,yf,yf,U⟩)) (qv [] jq ky Z U)) ?_)
     refine zj (yo wu Z Z Z Z) Z (qe Z (zg ?_))
     cases H
     exact ⟨U,.inl ⟨_,_,_,vd (qg.mk [] [] [] [] [] [] 0 0),Z,Z,Z,Z,wu⟩,.inl Z,U⟩
    ·refine fE h20 H fun H=>zl (zd (xk 2 [vlst (List.map zt r10)] Z Z (zk hN Z (qd Z (za (Ya (us:=[_]) ⟨Z,U⟩) (bE H fun r21 h22 H=>za (zo (x75 v1 (fun (a0:wh)=>y3s a0 r10) 209 [wt [[vlst (List.map zt r10)]] 0 0] (fun a0 r h=>w8o a0 r10 r h) r21 h22) ⟨.inl Z,.inl Z,U⟩) (qe Z (zd (zb hN Z (qd Z (za (zw Z Z) (zf _ Z (fun h23 => ?_) (fun h23 => ?_)))))))))))))
     ·refine tE h23 H fun H=>zb hN Z (za (jc (u':=vagg (vd (qg.mk [] [] [] [] [] [] 0 0))) (jb (by exact ⟨yf,yf,yf,yf,wo,wo,yf,yf,U⟩)) (qv [] jq ky Z U)) ?_)
      refine zj (yo wu Z Z Z Z) Z (qe Z (zg ?_))
      cases H
      exact ⟨U,.inl ⟨_,_,_,vd (qg.mk [] [] [] [] [] [] 0 0),Z,Z,Z,Z,wu⟩,.inl Z,U⟩
     ·refine fE h23 H fun H=>zl (zd (zd (wg mixed hN Z Z (qd Z (qd Z (bE H fun x24 h25 H=>za (wx z0s (fun _=>Z) Z Z h25) (za (vr x4t Z) (za (yr tyS9 Z (ym (qk h25).2) Z) (za (yr vc Z Z Z) (bE H fun x26 h27 H=>za (qp wv (fun _=>Z) Z Z h27) (za (yr tyS9 Z (ym h27) Z) (gE H fun h28 H=>za (y2h Z Z (Nat.le_trans h28 (by decide))) (za (yr vc Z Z Z) (bE H fun x29 h30 H=>za (qp wv (fun _=>Z) Z Z h30) (za (yr tyS9 Z (ym h30) Z) (gE H fun h31 H=>za (y2h Z Z (Nat.le_trans h31 (by decide))) (bE H fun r32 h33 H=>?_)))))))))))))))))
      refine za (zo (x0r x24.Secret ((x26++[46])++x29) r32 h33) ⟨.inl Z,.inl Z,U⟩) (za (yr vc Z Z Z) (bE H fun x34 h35 H=>za (qp wv (fun _=>Z) Z Z h35) (za (yr tyS9 Z (ym h35) Z) (za (js Z Z) ⟨Z,?_⟩))))
      refine zf _ Z (fun h36 => ?_) (fun h36 => ?_)
      ·refine tE h36 H fun H=>zb hN Z (za (jc (u':=vagg (vd (qg.mk [] [] [] [] [] [] 0 0))) (jb (by exact ⟨yf,yf,yf,yf,wo,wo,yf,yf,U⟩)) (qv [] jq ky Z U)) ?_)
       refine zj (yo wu Z Z Z Z) Z (qe Z (zg ?_))
       cases H
       exact ⟨U,.inl ⟨_,_,_,vd (qg.mk [] [] [] [] [] [] 0 0),Z,Z,Z,Z,wu⟩,.inl Z,U⟩
      ·refine fE h36 H fun H=>zl (zb hN Z (za (yr vc Z Z Z) (za (qp wv (fun _=>Z) Z Z h30) (za (yr tyS9 Z (ym h30) Z) (bE H fun r37 h38 H=>za (zo (w8r x29 r37 h38) ⟨.inl Z,U⟩) (qd Z (za (ye Z Z) (za (ye Z Z) (qe Z (qe Z (zd (zb hN Z (qd Z (za (qj Z Z) (zf _ Z (fun h39 => ?_) (fun h39 => ?_))))))))))))))))
       ·refine tE h39 H fun H=>zb hN Z (za (jc (u':=vagg (vd (qg.mk [] [] [] [] [] [] 0 0))) (jb (by exact ⟨yf,yf,yf,yf,wo,wo,yf,yf,U⟩)) (qv [] jq ky Z U)) ?_)
        refine qd Z (zj (yo wu Z Z Z Z) Z (qe Z (zg ?_)))
        cases H
        exact ⟨U,.inl ⟨_,_,_,vd (qg.mk [] [] [] [] [] [] 0 0),Z,Z,Z,Z,wu⟩,.inl Z,U⟩
       ·refine fE h39 H fun H=>zl (zb hN Z (qd Z (bE H fun r40 h41 H=>za (zo (w8n r37.1 r40 h41) ⟨.inl Z,U⟩) (qd Z (za (ye Z Z) (za (ye Z Z) (za (ye Z Z) (zj (qm 3 jq Z) Z (zj (yo wu Z Z Z Z) Z (qe Z (qe Z (zd (zb hN Z (qd Z (za (qj Z Z) (zf _ Z (fun h42 => ?_) (fun h42 => ?_)))))))))))))))))
        ·refine tE h42 H fun H=>zb hN Z (za (jc (u':=vagg (vd (qg.mk [] [] [] [] [] [] 0 0))) (jb (by exact ⟨yf,yf,yf,yf,wo,wo,yf,yf,U⟩)) (qv [] jq ky Z U)) ?_)
         refine qd Z (zj (yo wu Z Z Z Z) Z (qe Z (zg ?_)))
         cases H
         exact ⟨U,.inl ⟨_,_,_,vd (qg.mk [] [] [] [] [] [] 0 0),Z,Z,Z,Z,wu⟩,.inl Z,U⟩
        ·refine fE h42 H fun H=>zl (zd (yc (ι:=Bool) (fun i=>[(6,.ptr 1 0),(14,.ptr 3 0),(102,.dat (zi i))]) (fun i=>[(1,.box none 152 [.dat (vstr []),.dat (vstr []),.dat (vstr []),.dat (vstr []),.dat (vnil),.dat (vnil),.dat (vint 0),.dat (vint 0)]),(3,.box none 152 [.dat (vstr r40.1.Id),.dat (vstr r40.1.Subject),.dat (vstr r40.1.Issuer),.dat (vstr r40.1.Parent),.dat (vlst (List.map zt r40.1.Audience)),.dat (vlst (List.map zt r40.1.Scopes)),.dat (vint r40.1.From),.dat (vint r40.1.To)])]) (fun i=>z60 r40 i=some r) (fun i=>Z) ?_ ?_))
         ·skip
          refine zk hN Z (qd Z (qd Z (qd Z (za (wx z0s (fun _=>Z) Z Z h25) (za (vr y1s Z) (za (yr tyS3 Z (ym (qk h25).2) Z) (za (zw Z Z) (qd Z (yi (j:=7) Z Z (fun h43 => ?_) (fun h43 => ?_) Z)))))))))
          ·exact u3 h43 H fun h44 H=>ze Z Z h43 (zh (.dat _) Z) (ze Z Z h43 (zh (.dat _) Z) (ze Z Z h43 (zh (.dat _) Z) (ze Z Z h43 (wx z0s (fun _=>Z) Z Z h25) (ze Z Z h43 (vr y66 Z) (ze Z Z h43 (yr tyS3 Z (ym (qk h25).2) Z) (ze Z Z h43 (vt Z Z) (za (ya Z (bFF h44) Z) ⟨decide (x24.Until≤v3),H,⟨Z,Z,Z,U⟩,⟨Z,Z,U⟩⟩)))))))
          ·exact u4 h43 H fun h45 H=>zc Z Z h43 (zc Z Z h43 (zc Z Z h43 (zc Z Z h43 (zc Z Z h43 (zc Z Z h43 (zc Z Z h43 (za (yb Z (bTT h45) Z) ⟨true,H,⟨Z,Z,Z,U⟩,⟨Z,Z,U⟩⟩)))))))
         ·rintro v46 H
          replace H:z60 r40 v46=some r:=H
          unfold z60 at H
          refine zf _ Z (fun h47 => ?_) (fun h47 => ?_)
          ·refine tE h47 H fun H=>zb hN Z (za (jc (u':=vagg (vd (qg.mk [] [] [] [] [] [] 0 0))) (jb (by exact ⟨yf,yf,yf,yf,wo,wo,yf,yf,U⟩)) (qv [] jq ky Z U)) ?_)
           refine zj (yo wu Z Z Z Z) Z (qe Z (zg ?_))
           cases H
           exact ⟨U,.inl ⟨_,_,_,vd (qg.mk [] [] [] [] [] [] 0 0),Z,Z,Z,Z,wu⟩,.inl Z,U⟩
          ·refine fE h47 H fun H=>zl (zb hN Z (zm (qc wu Z Z Z) Z (zj (yo wu Z Z Z Z) Z (qe Z (zg ?_)))))
           cases H
           exact ⟨U,.inl ⟨_,_,_,vd r40.1,Z,Z,Z,Z,wu⟩,.inl Z,U⟩
theorem w9c (s1:(List va)) (p1:va→Option (Bool)) (fv1:Nat) (us1:List V) (hp1:∀ a0 r,p1 a0=some r→Fn Tryz.prog fv1 ([vagg (xb a0)]++us1) (zr [zi r])) (r:(Int)) (H:y9z s1 p1=some r):Fn Tryz.prog 213 [vlst (List.map xb s1),vfn fv1 us1] (zr [vint r]):=by
 refine ⟨by kernel_rfl,zx (us:=[vint r]) Tryz.func213 Z Z Z Z fun X hN => ?_⟩
 unfold y9z at H
 refine zb hN Z (qe Z (zd (zb hN Z (qd Z (za (yk y6p Z) (qd Z (zu (gE H fun h4 H=>qq (fun (k2:Nat) (s:Unit)=>[(0,.dat (vlst (List.map xb s1))),(1,.dat (vfn fv1 us1)),(7,.dat (vint (s1.length:Int))),(8,.dat (vint (k2:Int)))]) (fun (k2:Nat) (s:Unit)=>[]) () H ⟨Z,Z,Z,Z,U⟩ U (fun _ _=>Z) ?_ ?_))))))))
 ·rintro ⟨⟩ H
  replace H:y8i=some r:=H
  unfold y8i at H
  refine zb hN Z (za (zw Z Z) (zd (zf _ Z (fun h=>(lt_t h).elim) (fun h => ?_))))
  refine yp (zb hN Z (qe Z (zg ?_)))
  cases H
  exact ⟨U,.inl Z,U⟩
 ·rintro k2 x5 ⟨⟩ q3 h6 h7 H hq3
  replace H:y8h p1 k2 x5=some q3:=H
  unfold y8h at H
  refine zb hN Z (za (zw Z Z) (zd (zf _ Z (fun h => ?_) (fun h=>(lt_f h6 h).elim))))
  refine zl (zd (zu (zb hN Z (qd Z (qe Z (zb hN Z (qd Z (qd Z (qd Z (za (qp y7f (fun _=>Z) Z Z h7) (za (vg y6t Z (ym h7) Z) (bE H fun r8 h9 H=>za (kz (hp1 x5 r8 h9) Z ⟨.inl Z,U⟩) (zf _ Z (fun h10 => ?_) (fun h10 => ?_))))))))))))))
  ·refine tE h10 H fun H=>zb hN Z (qd Z (qe Z (zg ?_)))
   replace H:=retl H hq3
   cases H
   exact ⟨U,.inl Z,U⟩
  ·exact fE h10 H fun H=>zl (zk hN Z (za (qi Z Z (by omega)) (qd Z ⟨_,yw H,⟨Z,Z,Z,Z,U⟩,U⟩)))
theorem w9h (s1:(List va)) (p1:va→Option (Bool)) (fv1:Nat) (us1:List V) (hp1:∀ a0 r,p1 a0=some r→Fn Tryz.prog fv1 ([vagg (xb a0)]++us1) (zr [zi r])) (r:(Bool)) (H:y90 s1 p1=some r):Fn Tryz.prog 148 [vlst (List.map xb s1),vfn fv1 us1] (zr [zi r]):=by
 refine ⟨by kernel_rfl,zx (us:=[zi r]) Tryz.func148 Z Z Z Z fun X hN => ?_⟩
 unfold y90 at H
 refine zb hN Z (qe Z (zb hN Z (qd Z (qd Z (bE H fun r2 h3 H=>za (zo (w9c s1 p1 fv1 us1 hp1 r2 h3) ⟨.inl Z,.inl Z,U⟩) (za (vt Z Z) (qe Z (zg ?_))))))))
 cases H
 exact ⟨U,.inl Z,U⟩
theorem w8k (r1:va) (c2:qg) (c3:Int) (r:(Bool)) (H:y3r r1 c2 c3=some r):Fn Tryz.prog 149 [vagg (xb r1),wt [[vstr c2.Id,vstr c2.Subject,vstr c2.Issuer,vstr c2.Parent,vlst (List.map zt c2.Audience),vlst (List.map zt c2.Scopes),vint c2.From,vint c2.To]] 0 0,wt [[vint c3]] 0 0] (zr [zi r]):=by
 refine ⟨by kernel_rfl,zx (us:=[zi r]) Tryz.func149 Z Z Z Z fun X hN => ?_⟩
 unfold y3r at H
 refine zb hN Z (zj (qu 1 Z) Z (qe Z (zb hN Z (za (zn z6t Z) (zm (zp tyS9 Z Z) Z (za (vr y7b Z) (za (yr tyS9 Z Z Z) (za (vz Z Z) (qd Z (yu Z Z (fun hc=>zn z6t Z) (uk Z Z (fun hc=>zp tyS9 (cnd (c:=(!(decide (r1.Id=c2.Id)))) hc) Z) Z jf (yu Z Z (fun hc=>vr y1x Z) (yu Z Z (fun hc=>yr tyS9 (cnd (c:=(!(decide (r1.Id=c2.Id)))) hc) Z Z) (yu Z Z (fun hc=>vz (cnd (c:=(!(decide (r1.Id=c2.Id)))) hc) (cnd (c:=(!(decide (r1.Id=c2.Id)))) hc)) (za (vk Z Z (fun hb=>(cnd (c:=(!(decide (r1.Id=c2.Id)))) (notI hb)))) (qd Z (yz Z Z (fun hc=>zn x4v Z) (xv Z Z (fun hc=>zp tyS3 (cnd (c:=((decide (r1.Id=c2.Id)) || (decide (r1.Id=c2.Parent)))) hc) Z) Z jf (yz Z Z (fun hc=>yr tyS3 Z Z Z) (yz Z Z (fun hc=>vq (cnd (c:=((decide (r1.Id=c2.Id)) || (decide (r1.Id=c2.Parent)))) hc) (cnd (c:=((decide (r1.Id=c2.Id)) || (decide (r1.Id=c2.Parent)))) hc)) (za (wy Z (fun hb=>(cnd (c:=((decide (r1.Id=c2.Id)) || (decide (r1.Id=c2.Parent)))) hb)) Z) (qe Z (zg ?_)))))))))))))))))))))))
 cases H
 exact ⟨U,.inl Z,U⟩
end Go.Proofs.YtbndlmnjeofkdacGreatDoor
