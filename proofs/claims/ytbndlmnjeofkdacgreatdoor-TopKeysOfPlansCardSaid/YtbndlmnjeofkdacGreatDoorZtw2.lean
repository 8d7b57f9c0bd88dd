/- Walks along the models. Printed by a program. -/
import Derived.Test.YtbndlmnjeofkdacGreatDoorZtw1
namespace Go.Proofs.YtbndlmnjeofkdacGreatDoor
open Go.RowKit
set_option linter.unusedVariables false
set_option maxRecDepth 100000
set_option maxHeartbeats 2000000
theorem v0w (v1:yh) (v2:yj) (r:(Int)) (H:z9e v1 v2=some r):Fn Tryz.prog 100 [vagg (jo v1),vagg (wj v2)] (zr [vint r]):=by
 refine ⟨by kernel_rfl,zx (us:=[vint r]) Tryz.func100 Z Z Z Z fun X hN => ?_⟩
 unfold z9e at H
 refine zb hN Z (zj (qu 1 Z) Z (zj (qu 2 Z) Z (qe Z (zd (zu (zb hN Z (zm (qc vj Z Z Z) Z (za (zn z6o Z) (zm (zp tyS9 Z Z) Z (bE H fun r3 h4 H=>za (zo (x8m v1 v2.Product r3 h4) ⟨.inl Z,.inl Z,U⟩) (za (zw Z Z) (qe Z (zf _ Z (fun h5 => ?_) (fun h5 => ?_))))))))))))))
 ·refine tE h5 H fun H=>zb hN Z (qe Z (zg ?_))
  cases H
  exact ⟨U,.inl Z,U⟩
 ·refine fE h5 H fun H=>yc (ι:=Bool) (fun i=>[(3,.ptr 2 0),(13,.dat (zi i))]) (fun i=>[(2,.box none 75 [.dat (vstr v2.Key),.dat (vstr v2.Product),.dat (vint v2.Base),.dat (vint v2.Free),.dat (vlst (List.map jy v2.Tiers)),.dat (vint v2.Limit),.dat (vint v2.Trial),.dat (zi v2.Asked)])]) (fun i=>z0c v2 i=some r) (fun i=>Z) ?_ ?_
  ·skip
   refine zk hN Z (za (zn x4i Z) (zm (zp tyS3 Z Z) Z (bE H fun r6 h7 H=>za (zo (Yh v2.Base 0 1000000000000 r6 h7) ⟨.inl Z,.inl Z,.inl Z,U⟩) (za (yv Z) (qd Z (yi (j:=4) Z Z (fun h8 => ?_) (fun h8 => ?_) Z))))))
   ·exact u3 h8 H fun h9 H=>ze Z Z h8 (zn x4h Z) (qz Z Z h8 (zp tyS3 Z Z) Z (bE H fun r10 h11 H=>ze Z Z h8 (zo (Yh v2.Free 0 1000000000000 r10 h11) ⟨.inl Z,.inl Z,.inl Z,U⟩) (ze Z Z h8 (yv Z) (za (ya Z (bFF h9) Z) (qe Z ⟨!r10,H,⟨Z,Z,U⟩,⟨Z,U⟩⟩)))))
   ·exact u4 h8 H fun h12 H=>zc Z Z h8 (zc Z Z h8 (zc Z Z h8 (zc Z Z h8 (za (yb Z (bTT h12) Z) (qe Z ⟨true,H,⟨Z,Z,U⟩,⟨Z,U⟩⟩)))))
  ·rintro v13 H
   replace H:z0c v2 v13=some r:=H
   unfold z0c at H
   refine zf _ Z (fun h14 => ?_) (fun h14 => ?_)
   ·refine tE h14 H fun H=>zb hN Z (qe Z (zg ?_))
    cases H
    exact ⟨U,.inl Z,U⟩
   ·refine fE h14 H fun H=>zb hN Z (za (zn Qw Z) (zm (zp Qt Z Z) Z (za (yk z2s Z) (za (qh Z Z) (qe Z (zf _ Z (fun h15 => ?_) (fun h15 => ?_)))))))
    ·refine tE h15 H fun H=>zb hN Z (qe Z (zg ?_))
     cases H
     exact ⟨U,.inl Z,U⟩
    ·refine fE h15 H fun H=>zl (zd (zb hN Z (za (zn Qw Z) (zm (zp Qt Z Z) Z (za (yk z2s Z) (qd Z (zu (gE H fun h18 H=>qq (fun (k16:Nat) (s:Unit)=>[(3,.ptr 2 0),(30,.dat (vlst (List.map jy v2.Tiers))),(31,.dat (vint (v2.Tiers.length:Int))),(32,.dat (vint (k16:Int)))]) (fun (k16:Nat) (s:Unit)=>[(2,.box none 75 [.dat (vstr v2.Key),.dat (vstr v2.Product),.dat (vint v2.Base),.dat (vint v2.Free),.dat (vlst (List.map jy v2.Tiers)),.dat (vint v2.Limit),.dat (vint v2.Trial),.dat (zi v2.Asked)])]) () H ⟨Z,Z,Z,Z,U⟩ ⟨Z,U⟩ (fun _ _=>Z) ?_ ?_))))))))
     ·rintro ⟨⟩ H
      replace H:y0o v2=some r:=H
      unfold y0o at H
      refine zb hN Z (za (zw Z Z) (zd (zf _ Z (fun h=>(lt_t h).elim) (fun h => ?_))))
      refine yp (zd (zu (yc (ι:=Bool) (fun i=>[(3,.ptr 2 0),(64,.dat (zi i))]) (fun i=>[(2,.box none 75 [.dat (vstr v2.Key),.dat (vstr v2.Product),.dat (vint v2.Base),.dat (vint v2.Free),.dat (vlst (List.map jy v2.Tiers)),.dat (vint v2.Limit),.dat (vint v2.Trial),.dat (zi v2.Asked)])]) (fun i=>z2d v2 i=some r) (fun i=>Z) ?_ ?_)))
      ·skip
       refine zk hN Z (za (zn Qw Z) (zm (zp Qt Z Z) Z (za (yk z2s Z) (za (qh Z Z) (qd Z (yi (j:=4) Z Z (fun h20 => ?_) (fun h20 => ?_) Z))))))
       ·exact u1 h20 H fun h21 H=>ze Z Z h20 (zn Qw Z) (qz Z Z h20 (zp Qt Z Z) Z (bE H fun x22 h23 H=>ze Z Z h20 (qp z2z (fun _=>Z) Z Z h23) (ze Z Z h20 (vr Qv Z) (ze Z Z h20 (yr tyS3 Z (ym h23) Z) (ze Z Z h20 (qj Z Z) (za (yb Z (bTT h21) Z) (qe Z ⟨decide (x22.From≠1),H,⟨Z,Z,U⟩,⟨Z,U⟩⟩)))))))
       ·exact u2 h20 H fun h24 H=>zc Z Z h20 (zc Z Z h20 (zc Z Z h20 (zc Z Z h20 (zc Z Z h20 (zc Z Z h20 (za (ya Z (bFF h24) Z) (qe Z ⟨false,H,⟨Z,Z,U⟩,⟨Z,U⟩⟩)))))))
      ·rintro v25 H
       replace H:z2d v2 v25=some r:=H
       unfold z2d at H
       refine zf _ Z (fun h26 => ?_) (fun h26 => ?_)
       ·refine tE h26 H fun H=>zb hN Z (qe Z (zg ?_))
        cases H
        exact ⟨U,.inl Z,U⟩
       ·refine fE h26 H fun H=>yc (ι:=Bool) (fun i=>[(77,.dat (zi i))]) (fun i=>[]) (fun i=>z5p i=some r) (fun i=>Z) ?_ ?_
        ·skip
         refine zk hN Z (za (zn x4g Z) (zm (zp tyS3 Z Z) Z (bE H fun r27 h28 H=>za (zo (Yh v2.Limit (-1) 1000000000000 r27 h28) ⟨.inl Z,.inl Z,.inl Z,U⟩) (za (yv Z) (qd Z (yi (j:=4) Z Z (fun h29 => ?_) (fun h29 => ?_) Z))))))
         ·exact u3 h29 H fun h30 H=>ze Z Z h29 (zn x4f Z) (qz Z Z h29 (zp tyS3 Z Z) Z (bE H fun r31 h32 H=>ze Z Z h29 (zo (Yh v2.Trial 0 132 r31 h32) ⟨.inl Z,.inl Z,.inl Z,U⟩) (ze Z Z h29 (yv Z) (za (ya Z (bFF h30) Z) (qe Z ⟨!r31,H,⟨Z,U⟩,U⟩)))))
         ·exact u4 h29 H fun h33 H=>zc Z Z h29 (zc Z Z h29 (zc Z Z h29 (zc Z Z h29 (za (yb Z (bTT h33) Z) (qe Z ⟨true,H,⟨Z,U⟩,U⟩)))))
        ·rintro v34 H
         replace H:z5p v34=some r:=H
         unfold z5p at H
         refine zf _ Z (fun h35 => ?_) (fun h35 => ?_)
         ·refine tE h35 H fun H=>zb hN Z (qe Z (zg ?_))
          cases H
          exact ⟨U,.inl Z,U⟩
         ·refine fE h35 H fun H=>zl (zb hN Z (qe Z (zg ?_)))
          cases H
          exact ⟨U,.inl Z,U⟩
     ·rintro k16 x19 ⟨⟩ q17 h36 h37 H hq17
      replace H:y0m v2 k16 x19=some q17:=H
      unfold y0m at H
      refine zb hN Z (za (zw Z Z) (zd (zf _ Z (fun h => ?_) (fun h=>(lt_f h36 h).elim))))
      refine zl (zd (zu (zb hN Z (qd Z (za (qp z2z (fun _=>Z) Z Z h37) (za (vg y1h Z (ym h37) Z) (zj (qm 3 y6m Z) Z (qe Z (zj (yo y1h Z Z Z Z) Z (zu (yc (ι:=Bool) (fun i=>[(3,.ptr 2 0),(5,.dat (vint (k16:Int))),(6,.ptr 3 0),(30,.dat (vlst (List.map jy v2.Tiers))),(31,.dat (vint (v2.Tiers.length:Int))),(32,.dat (vint (k16:Int))),(37,.dat (zi i))]) (fun i=>[(2,.box none 75 [.dat (vstr v2.Key),.dat (vstr v2.Product),.dat (vint v2.Base),.dat (vint v2.Free),.dat (vlst (List.map jy v2.Tiers)),.dat (vint v2.Limit),.dat (vint v2.Trial),.dat (zi v2.Asked)]),(3,.box none 77 [.dat (vint x19.From),.dat (vint x19.Cents)])]) (fun i=>z5o v2 k16 x19 i=some q17) (fun i=>Z) ?_ ?_)))))))))))
      ·skip
       refine zk hN Z (za (zn Qv Z) (zm (zp tyS3 Z Z) Z (bE H fun r38 h39 H=>za (zo (Yh x19.From 1 1000000000000 r38 h39) ⟨.inl Z,.inl Z,.inl Z,U⟩) (za (yv Z) (qd Z (yi (j:=4) Z Z (fun h40 => ?_) (fun h40 => ?_) Z))))))
       ·exact u3 h40 H fun h41 H=>ze Z Z h40 (zn x4e Z) (qz Z Z h40 (zp tyS3 Z Z) Z (bE H fun r42 h43 H=>ze Z Z h40 (zo (Yh x19.Cents 0 1000000 r42 h43) ⟨.inl Z,.inl Z,.inl Z,U⟩) (ze Z Z h40 (yv Z) (za (ya Z (bFF h41) Z) (qe Z ⟨!r42,H,⟨Z,Z,Z,Z,Z,Z,Z,U⟩,⟨Z,Z,U⟩⟩)))))
       ·exact u4 h40 H fun h44 H=>zc Z Z h40 (zc Z Z h40 (zc Z Z h40 (zc Z Z h40 (za (yb Z (bTT h44) Z) (qe Z ⟨true,H,⟨Z,Z,Z,Z,Z,Z,Z,U⟩,⟨Z,Z,U⟩⟩)))))
      ·rintro v45 H
       replace H:z5o v2 k16 x19 v45=some q17:=H
       unfold z5o at H
       refine zf _ Z (fun h46 => ?_) (fun h46 => ?_)
       ·refine tE h46 H fun H=>zb hN Z (qe Z (zg ?_))
        replace H:=retl H hq17
        cases H
        exact ⟨U,.inl Z,U⟩
       ·refine fE h46 H fun H=>yc (ι:=Bool) (fun i=>[(3,.ptr 2 0),(30,.dat (vlst (List.map jy v2.Tiers))),(31,.dat (vint (v2.Tiers.length:Int))),(32,.dat (vint (k16:Int))),(48,.dat (zi i))]) (fun i=>[(2,.box none 75 [.dat (vstr v2.Key),.dat (vstr v2.Product),.dat (vint v2.Base),.dat (vint v2.Free),.dat (vlst (List.map jy v2.Tiers)),.dat (vint v2.Limit),.dat (vint v2.Trial),.dat (zi v2.Asked)])]) (fun i=>y0n i=some q17) (fun i=>Z) ?_ ?_
        ·skip
         refine wg mixed hN Z Z (qd Z (za (qh Z Z) (qd Z (yi (j:=2) Z Z (fun h47 => ?_) (fun h47 => ?_) Z))))
         ·refine u1 h47 H fun h48 H=>ze Z Z h47 (zn Qv Z) (qz Z Z h47 (zp tyS3 Z Z) Z (ze Z Z h47 (zn Qw Z) (qz Z Z h47 (zp Qt Z Z) Z (ze Z Z h47 (zh (.dat _) Z) (ze Z Z h47 (Wd Z Z (by omega)) (bE H fun x49 h50 H=>ze Z Z h47 (wx z2z (fun _=>Z) Z Z h50) (ze Z Z h47 (vr Qv Z) (ze Z Z h47 (yr tyS3 Z (ym (qk h50).2) Z) (ze Z Z h47 (vq Z Z) (za (yb Z (bTT h48) Z) (qe Z ⟨Z,?_⟩)))))))))))
          exact ⟨decide (x19.From≤x49.From),H,⟨Z,Z,Z,Z,Z,U⟩,⟨Z,U⟩⟩
         ·refine u2 h47 H fun h51 H=>zc Z Z h47 (zc Z Z h47 (zc Z Z h47 (zc Z Z h47 (zc Z Z h47 (zc Z Z h47 (zc Z Z h47 (zc Z Z h47 (zc Z Z h47 (zc Z Z h47 (za (ya Z (bFF h51) Z) (qe Z ⟨Z,?_⟩)))))))))))
          exact ⟨false,H,⟨Z,Z,Z,Z,Z,U⟩,⟨Z,U⟩⟩
        ·rintro v52 H
         replace H:y0n v52=some q17:=H
         unfold y0n at H
         refine zf _ Z (fun h53 => ?_) (fun h53 => ?_)
         ·refine tE h53 H fun H=>zb hN Z (qe Z (zg ?_))
          replace H:=retl H hq17
          cases H
          exact ⟨U,.inl Z,U⟩
         ·exact fE h53 H fun H=>zl (zk hN Z (za (qi Z Z (by omega)) (qd Z ⟨_,yw H,⟨Z,Z,Z,Z,U⟩,⟨Z,U⟩⟩)))
theorem w7o (s sep:Bs) (r:List Bs) (H:kk s sep=some r):FnG Tryz.prog 90 [.dat (vstr s),.dat (vstr sep)] [] (.row 900 r.length) [(900,.row 9 1 (List.map zt r))]:=by
 obtain ⟨h1,h2,rfl⟩:=w4w H
 have hlen:=Lib.splitB_all ⟨sep.toArray⟩ (by simpa [ByteArray.size] using h2) 0 _ ⟨s.toArray⟩ Z
 have hle:=Lib.countB_le ⟨sep.toArray⟩ (by simpa [ByteArray.size] using h2) _ ⟨s.toArray⟩ (Nat.le_refl _)
 refine v3e (args:=[vstr s,vstr sep]) (Yc s sep) (by kernel_rfl) (fun M w vs hM hvs => ?_) ?_
 ·have hv:=ug (us:=[.string ⟨s.toArray⟩,.string ⟨sep.toArray⟩]) hvs
  subst hv
  obtain ⟨m,hm⟩:=y9k hM
  refine (Tryz.strings_Split ⟨s.toArray⟩ ⟨sep.toArray⟩ m w (by simp [ByteArray.size]; omega) hm (by simpa [ByteArray.size] using h2)).mono ?_
  rintro e w' ⟨rfl,rfl⟩
  have e1:(Yc s sep).length=Lib.countB ⟨s.toArray⟩ ⟨sep.toArray⟩+1:=by unfold Yc; rw [List.length_map,hlen]
  have e2:((Yc s sep).map fun s=>Value.string ⟨s.toArray⟩)=(Lib.splitB ⟨sep.toArray⟩ 0 (Lib.countB ⟨s.toArray⟩ ⟨sep.toArray⟩) ⟨s.toArray⟩).map Value.string:=by
   unfold Yc
   rw [List.map_map]
   exact List.map_congr_left fun b _=>by simp
  rw [e1,e2]
  exact ⟨Z,Z⟩
 ·unfold Yc maxLen
  rw [List.length_map,hlen]
  have hsz:(ByteArray.mk s.toArray).size=s.length:=by simp [ByteArray.size]
  rw [hsz] at hle
  omega
theorem Qm (s sep:Bs) (r:List Bs) (H:kk s sep=some r):Fn Tryz.prog 90 [vstr s,vstr sep] (zr [vlst (List.map zt r)]):=by
 have h:=w7o s sep r H
 rw [← List.length_map (f:=zt)] at h
 exact v3c h
theorem v0v (s1:Bs) (r:(Bool)) (H:z9d s1=some r):Fn Tryz.prog 165 [vstr s1] (zr [zi r]):=by
 refine ⟨by kernel_rfl,zx (us:=[zi r]) Tryz.func165 Z Z Z Z fun X hN => ?_⟩
 unfold z9d at H
 refine zb hN Z (qe Z (zb hN Z (qd Z (bE H fun r2 h3 H=>za (zo (Qm s1 [58] r2 h3) ⟨.inl Z,.inl Z,U⟩) (qe Z (zd (zb hN Z (qd Z (za (yk qr Z) (qd Z (zu (gE H fun h6 H=>qq (fun (k4:Nat) (s:Unit)=>[(3,.dat (vlst (List.map zt r2))),(8,.dat (vlst (List.map zt r2))),(9,.dat (vint (r2.length:Int))),(10,.dat (vint (k4:Int)))]) (fun (k4:Nat) (s:Unit)=>[]) () H ⟨Z,Z,Z,Z,U⟩ U (fun _ _=>Z) ?_ ?_))))))))))))
 ·rintro ⟨⟩ H
  replace H:x1g r2=some r:=H
  unfold x1g at H
  refine zb hN Z (za (zw Z Z) (zd (zf _ Z (fun h=>(lt_t h).elim) (fun h => ?_))))
  refine yp (zb hN Z (qd Z (za (yk qr Z) (za (vq Z Z) (qe Z (zg ?_))))))
  cases H
  exact ⟨U,.inl Z,U⟩
 ·rintro k4 x7 ⟨⟩ q5 h8 h9 H hq5
  replace H:y47 r2 k4 x7=some q5:=H
  unfold y47 at H
  refine zb hN Z (za (zw Z Z) (zd (zf _ Z (fun h => ?_) (fun h=>(lt_f h8 h).elim))))
  refine zl (zd (zu (zb hN Z (qd Z (za (qp wv (fun _=>Z) Z Z h9) (za (yr tyS9 Z (ym h9) Z) (qe Z (qe Z (zb hN Z (qd Z (bE H fun r10 h11 H=>za (zo (z95 x7 r10 h11) ⟨.inl Z,U⟩) (za (yv Z) (qd Z (yz Z Z (fun hc=>zh (.dat _) Z) (yz Z Z (fun hc=>js (cnd (c:=(!r10)) hc) Z) (yz Z Z (fun hc=>zh (.dat _) (cnd (c:=(!r10)) hc)) (ua Z Z (fun hc=>zh (.dat _) Z) (ua Z Z (fun hc=>zh (.dat _) Z) (ua Z Z (fun hc=>yk qr (cnd (c:=((!r10) && !(decide (x7≠[42])))) hc)) (ua Z Z (fun hc=>yl _ (cnd (c:=((!r10) && !(decide (x7≠[42])))) hc) Z (.inr (.inl ⟨Z,Z⟩))) (ua Z Z (fun hc=>zw (cnd (c:=((!r10) && !(decide (x7≠[42])))) hc) (cnd (c:=((!r10) && !(decide (x7≠[42])))) hc)) (yz Z Z (fun hc=>vk (cnd (c:=(!r10)) hc) Z (fun hb=>(cnd (c:=((!r10) && !(decide (x7≠[42])))) (andI hc (notI hb))))) ?_))))))))))))))))))))))
  refine za (wy Z (fun hb=>(cnd (c:=(!r10)) hb)) Z) (zf _ Z (fun h12 => ?_) (fun h12 => ?_))
  ·refine tE h12 H fun H=>zb hN Z (qe Z (zg ?_))
   replace H:=retl H hq5
   cases H
   exact ⟨U,.inl Z,U⟩
  ·exact fE h12 H fun H=>zl (zk hN Z (za (qi Z Z (by omega)) (qd Z ⟨_,yw H,⟨Z,Z,Z,Z,U⟩,U⟩)))
theorem v00 (l1:(List Bs)) (r:(Int)) (H:z9h l1=some r):Fn Tryz.prog 99 [vlst (List.map zt l1)] (zr [vint r]):=by
 refine ⟨by kernel_rfl,zx (us:=[vint r]) Tryz.func99 Z Z Z Z fun X hN => ?_⟩
 unfold z9h at H
 refine zb hN Z (qe Z (zd (zb hN Z (qd Z (za (yk qr Z) (za (qh Z Z) (zf _ Z (fun h2 => ?_) (fun h2 => ?_))))))))
 ·refine tE h2 H fun H=>zb hN Z (qe Z (zg ?_))
  cases H
  exact ⟨U,.inl Z,U⟩
 ·refine fE h2 H fun H=>zl (zd (zb hN Z (qd Z (za (yk qr Z) (qd Z (zu (gE H fun h5 H=>qq (fun (k3:Nat) (s:Unit)=>[(8,.dat (vlst (List.map zt l1))),(9,.dat (vint (l1.length:Int))),(10,.dat (vint (k3:Int)))]) (fun (k3:Nat) (s:Unit)=>[]) () H ⟨Z,Z,Z,U⟩ U (fun _ _=>Z) ?_ ?_)))))))
  ·rintro ⟨⟩ H
   replace H:x1k=some r:=H
   unfold x1k at H
   refine zb hN Z (za (zw Z Z) (zd (zf _ Z (fun h=>(lt_t h).elim) (fun h => ?_))))
   refine yp (zb hN Z (qe Z (zg ?_)))
   cases H
   exact ⟨U,.inl Z,U⟩
  ·rintro k3 x6 ⟨⟩ q4 h7 h8 H hq4
   replace H:y5c k3 x6=some q4:=H
   unfold y5c at H
   refine zb hN Z (za (zw Z Z) (zd (zf _ Z (fun h => ?_) (fun h=>(lt_f h7 h).elim))))
   refine zl (zd (zu (zb hN Z (za (qp wv (fun _=>Z) Z Z h8) (za (yr tyS9 Z (ym h8) Z) (qe Z (zb hN Z (qd Z (bE H fun r9 h10 H=>za (zo (v0v x6 r9 h10) ⟨.inl Z,U⟩) (za (yv Z) (zf _ Z (fun h11 => ?_) (fun h11 => ?_))))))))))))
   ·refine tE h11 H fun H=>zb hN Z (qe Z (zg ?_))
    replace H:=retl H hq4
    cases H
    exact ⟨U,.inl Z,U⟩
   ·exact fE h11 H fun H=>zl (zk hN Z (za (qi Z Z (by omega)) (qd Z ⟨_,yw H,⟨Z,Z,Z,U⟩,U⟩)))
theorem x8n (v1:yh) (r:(Int)) (H:z41 v1=some r):Fn Tryz.prog 42 [vagg (jo v1)] (zr [vint r]):=by
 refine ⟨by kernel_rfl,zx (us:=[vint r]) Tryz.func42 Z Z Z Z fun X hN => ?_⟩
 unfold z41 at H
 refine zb hN Z (zj (qu 1 Z) Z (qe Z (zd (zb hN Z (za (zn z0q Z) (zm (zp z0n Z Z) Z (za (yk Qs Z) (za (qh Z Z) (zf _ Z (fun h2 => ?_) (fun h2 => ?_))))))))))
 ·refine tE h2 H fun H=>zb hN Z (qe Z (zg ?_))
  cases H
  exact ⟨U,.inl Z,U⟩
 ·refine fE h2 H fun H=>zl (zb hN Z (qe Z (zd (zb hN Z (za (zn z0q Z) (zm (zp z0n Z Z) Z (za (yk Qs Z) (qd Z (zu (gE H fun h6 H=>qq (fun (k4:Nat) (s:Bs)=>[(1,.ptr 1 0),(3,.dat (vstr s)),(15,.dat (vlst (List.map wb v1.Products))),(16,.dat (vint (v1.Products.length:Int))),(17,.dat (vint (k4:Int)))]) (fun (k4:Nat) (s:Bs)=>[(1,.box none 29 [.dat (vlst (List.map wb v1.Products)),.dat (vlst (List.map wj v1.Plans))])]) [] H ⟨Z,Z,Z,Z,Z,U⟩ ⟨Z,U⟩ (fun _ _=>Z) ?_ ?_))))))))))
  ·rintro v3 H
   replace H:z5v v1 v3=some r:=H
   unfold z5v at H
   refine zb hN Z (za (zw Z Z) (zd (zf _ Z (fun h=>(lt_t h).elim) (fun h => ?_))))
   refine yp (zd (zb hN Z (za (zn uj Z) (zm (zp ui Z Z) Z (za (yk z0l Z) (za (qh Z Z) (zf _ Z (fun h8 => ?_) (fun h8 => ?_))))))))
   ·refine tE h8 H fun H=>zb hN Z (qe Z (zg ?_))
    cases H
    exact ⟨U,.inl Z,U⟩
   ·refine fE h8 H fun H=>zl (zb hN Z (qe Z (zd (zb hN Z (za (zn uj Z) (zm (zp ui Z Z) Z (za (yk z0l Z) (qd Z (zu (gE H fun h12 H=>qq (fun (k10:Nat) (s:Bs)=>[(1,.ptr 1 0),(3,.dat (vstr s)),(45,.dat (vlst (List.map wj v1.Plans))),(46,.dat (vint (v1.Plans.length:Int))),(47,.dat (vint (k10:Int)))]) (fun (k10:Nat) (s:Bs)=>[(1,.box none 29 [.dat (vlst (List.map wb v1.Products)),.dat (vlst (List.map wj v1.Plans))])]) [] H ⟨Z,Z,Z,Z,Z,U⟩ ⟨Z,U⟩ (fun _ _=>Z) ?_ ?_))))))))))
    ·rintro v9 H
     replace H:y5f v9=some r:=H
     unfold y5f at H
     refine zb hN Z (za (zw Z Z) (zd (zf _ Z (fun h=>(lt_t h).elim) (fun h => ?_))))
     refine yp (zb hN Z (qe Z (zg ?_)))
     cases H
     exact ⟨U,.inl Z,U⟩
    ·rintro k10 x13 v9 q11 h14 h15 H hq11
     replace H:y5d v1 k10 x13 v9=some q11:=H
     unfold y5d at H
     refine zb hN Z (za (zw Z Z) (zd (zf _ Z (fun h => ?_) (fun h=>(lt_f h14 h).elim))))
     refine zl (zd (zu (zb hN Z (za (qp Zj (fun _=>Z) Z Z h15) (za (vg ka Z (ym h15) Z) (zj (qm 2 Ys Z) Z (zj (yo ka Z Z Z Z) Z (zd (zu (zb hN Z (za (zn xc Z) (zm (zp tyS9 Z Z) Z (bE H fun r16 h17 H=>za (zo (z95 x13.Key r16 h17) ⟨.inl Z,U⟩) (za (yv Z) (qe Z (zf _ Z (fun h18 => ?_) (fun h18 => ?_)))))))))))))))))
     ·refine tE h18 H fun H=>zb hN Z (qe Z (zg ?_))
      replace H:=retl H hq11
      cases H
      exact ⟨U,.inl Z,U⟩
     ·refine fE h18 H fun H=>zb hN Z (za (zn xc Z) (zm (zp tyS9 Z Z) Z (qd Z (za (Zz Z Z) (qe Z (zf _ Z (fun h19 => ?_) (fun h19 => ?_)))))))
      ·refine tE h19 H fun H=>zb hN Z (qe Z (zg ?_))
       replace H:=retl H hq11
       cases H
       exact ⟨U,.inl Z,U⟩
      ·refine fE h19 H fun H=>zl (zb hN Z (za (zn xc Z) (zm (zp tyS9 Z Z) Z (qe Z (zb hN Z (zm (qc vj Z Z Z) Z (zm (qc ka Z Z Z) Z (bE H fun r20 h21 H=>za (zo (v0w v1 x13 r20 h21) ⟨.inl Z,.inl Z,U⟩) (qe Z (zb hN Z (qd Z (za (qj Z Z) (zf _ Z (fun h22 => ?_) (fun h22 => ?_))))))))))))))
       ·refine tE h22 H fun H=>zb hN Z (qd Z (qe Z (zg ?_)))
        replace H:=retl H hq11
        cases H
        exact ⟨U,.inl Z,U⟩
       ·exact fE h22 H fun H=>zl (zk hN Z (za (qi Z Z (by omega)) (qd Z ⟨_,yw H,⟨Z,Z,Z,Z,Z,U⟩,⟨Z,U⟩⟩)))
  ·rintro k4 x7 v3 q5 h23 h24 H hq5
   replace H:y5e k4 x7 v3=some q5:=H
   unfold y5e at H
   refine zb hN Z (za (zw Z Z) (zd (zf _ Z (fun h => ?_) (fun h=>(lt_f h23 h).elim))))
   refine zl (zd (zu (zb hN Z (za (qp Qz (fun _=>Z) Z Z h24) (za (vg Zh Z (ym h24) Z) (zj (qm 3 z2r Z) Z (zj (yo Zh Z Z Z Z) Z (zd (zu (zb hN Z (za (zn Zx Z) (zm (zp tyS9 Z Z) Z (bE H fun r25 h26 H=>za (zo (z95 x7.Key r25 h26) ⟨.inl Z,U⟩) (za (yv Z) (qe Z (zf _ Z (fun h27 => ?_) (fun h27 => ?_)))))))))))))))))
   ·refine tE h27 H fun H=>zb hN Z (qe Z (zg ?_))
    replace H:=retl H hq5
    cases H
    exact ⟨U,.inl Z,U⟩
   ·refine fE h27 H fun H=>zb hN Z (za (zn Zx Z) (zm (zp tyS9 Z Z) Z (qd Z (za (Zz Z Z) (qe Z (zf _ Z (fun h28 => ?_) (fun h28 => ?_)))))))
    ·refine tE h28 H fun H=>zb hN Z (qe Z (zg ?_))
     replace H:=retl H hq5
     cases H
     exact ⟨U,.inl Z,U⟩
    ·refine fE h28 H fun H=>zl (zb hN Z (za (zn Zx Z) (zm (zp tyS9 Z Z) Z (qe Z (zb hN Z (za (zn y1o Z) (zm (zp vc Z Z) Z (bE H fun r29 h30 H=>za (zo (v00 x7.Scopes r29 h30) ⟨.inl Z,U⟩) (qe Z (zb hN Z (qd Z (za (qj Z Z) (zf _ Z (fun h31 => ?_) (fun h31 => ?_))))))))))))))
     ·refine tE h31 H fun H=>zb hN Z (qd Z (qe Z (zg ?_)))
      replace H:=retl H hq5
      cases H
      exact ⟨U,.inl Z,U⟩
     ·exact fE h31 H fun H=>zl (zk hN Z (za (qi Z Z (by omega)) (qd Z ⟨_,yw H,⟨Z,Z,Z,Z,Z,U⟩,⟨Z,U⟩⟩)))
theorem v0x  (r:(zz)) (H:y4g  = some r):Fn Tryz.prog 101 [] (zr [vagg (qx r)]):=by
 refine ⟨by kernel_rfl,zx (us:=[vagg (qx r)]) Tryz.func101 Z Z Z Z fun X hN => ?_⟩
 unfold y4g at H
 refine zb hN Z (zj (qm 1 jz Z) Z (zb hN Z (za (yg (u':=vagg (qx (zz.mk 0 [] 0 (-1)))) (qv [(3,[vint (-1)])] jz z2x Z ⟨Z,.inl ⟨_,Z,Z,Z⟩,Z,U⟩) Z) (zj (yo qn Z Z Z Z) Z (zg ?_)))))
 cases H
 exact ⟨U,.inl ⟨_,_,_,qx (zz.mk 0 [] 0 (-1)),Z,Z,Z,Z,qn⟩,U⟩
theorem w9e (s1:(List yj)) (p1:yj→Option (Bool)) (fv1:Nat) (us1:List V) (hp1:∀ a0 r,p1 a0=some r→Fn Tryz.prog fv1 ([vagg (wj a0)]++us1) (zr [zi r])) (r:(Int)) (H:y33 s1 p1=some r):Fn Tryz.prog 107 [vlst (List.map wj s1),vfn fv1 us1] (zr [vint r]):=by
 refine ⟨by kernel_rfl,zx (us:=[vint r]) Tryz.func107 Z Z Z Z fun X hN => ?_⟩
 unfold y33 at H
 refine zb hN Z (qe Z (zd (zb hN Z (qd Z (za (yk z0l Z) (qd Z (zu (gE H fun h4 H=>qq (fun (k2:Nat) (s:Unit)=>[(0,.dat (vlst (List.map wj s1))),(1,.dat (vfn fv1 us1)),(7,.dat (vint (s1.length:Int))),(8,.dat (vint (k2:Int)))]) (fun (k2:Nat) (s:Unit)=>[]) () H ⟨Z,Z,Z,Z,U⟩ U (fun _ _=>Z) ?_ ?_))))))))
 ·rintro ⟨⟩ H
  replace H:y8m=some r:=H
  unfold y8m at H
  refine zb hN Z (za (zw Z Z) (zd (zf _ Z (fun h=>(lt_t h).elim) (fun h => ?_))))
  refine yp (zb hN Z (qe Z (zg ?_)))
  cases H
  exact ⟨U,.inl Z,U⟩
 ·rintro k2 x5 ⟨⟩ q3 h6 h7 H hq3
  replace H:y8l p1 k2 x5=some q3:=H
  unfold y8l at H
  refine zb hN Z (za (zw Z Z) (zd (zf _ Z (fun h => ?_) (fun h=>(lt_f h6 h).elim))))
  refine zl (zd (zu (zb hN Z (qd Z (qe Z (zb hN Z (qd Z (qd Z (qd Z (za (qp Zj (fun _=>Z) Z Z h7) (za (vg ka Z (ym h7) Z) (bE H fun r8 h9 H=>za (kz (hp1 x5 r8 h9) Z ⟨.inl Z,U⟩) (zf _ Z (fun h10 => ?_) (fun h10 => ?_))))))))))))))
  ·refine tE h10 H fun H=>zb hN Z (qd Z (qe Z (zg ?_)))
   replace H:=retl H hq3
   cases H
   exact ⟨U,.inl Z,U⟩
  ·exact fE h10 H fun H=>zl (zk hN Z (za (qi Z Z (by omega)) (qd Z ⟨_,yw H,⟨Z,Z,Z,Z,U⟩,U⟩)))
theorem v02 (p1:yj) (c2:Bs) (r:(Bool)) (H:z40 p1 c2=some r):Fn Tryz.prog 108 [vagg (wj p1),wt [[vstr c2]] 0 0] (zr [zi r]):=by
 refine ⟨by kernel_rfl,zx (us:=[zi r]) Tryz.func108 Z Z Z Z fun X hN => ?_⟩
 unfold z40 at H
 refine zb hN Z (zj (qu 1 Z) Z (qe Z (zb hN Z (za (zn xc Z) (zm (zp tyS9 Z Z) Z (za (yr tyS9 Z Z Z) (za (vz Z Z) (qe Z (zg ?_)))))))))
 cases H
 exact ⟨U,.inl Z,U⟩
theorem y4y (c1:yh) (key2:Bs) (r:(Int)) (H:Ye c1 key2=some r):Fn Tryz.prog 52 [vagg (jo c1),vstr key2] (zr [vint r]):=by
 refine ⟨by kernel_rfl,zx (us:=[vint r]) Tryz.func52 Z Z Z Z fun X hN => ?_⟩
 unfold Ye at H
 refine zb hN Z (zj (qu 1 Z) Z (zj (Wg 2 Z Z) Z (qe Z (zd (xk 2 [vstr key2] Z Z (zk hN Z (za (zn uj Z) (zm (zp ui Z Z) Z (za (Ya (us:=[_]) ⟨Z,U⟩) (bE H fun r3 h4 H=>za (zo (w9e c1.Plans (fun (a0:yj)=>z40 a0 key2) 108 [wt [[vstr key2]] 0 0] (fun a0 r h=>v02 a0 key2 r h) r3 h4) ⟨.inl Z,.inl Z,U⟩) (qe Z (zg ?_))))))))))))
 cases H
 exact ⟨U,.inl Z,U⟩
theorem v0z (v1:yh) (v2:zz) (v3:zq) (r:(zz×Bool)) (H:z9f v1 v2 v3=some r):Fn Tryz.prog 102 [vagg (jo v1),vagg (qx v2),vagg (yy v3)] (zr [vagg (qx r.1),zi r.2]):=by
 refine ⟨by kernel_rfl,zx (us:=[vagg (qx r.1),zi r.2]) Tryz.func102 Z Z Z Z fun X hN => ?_⟩
 unfold z9f at H
 refine zb hN Z (zj (qu 1 Z) Z (zj (qu 2 Z) Z (zj (qu 3 Z) Z (zj (qm 4 jz Z) Z (qe Z (zd (yc (ι:=Bool) (fun i=>[(3,.ptr 1 0),(4,.ptr 2 0),(5,.ptr 3 0),(6,.ptr 4 0),(18,.dat (zi i))]) (fun i=>[(1,.box none 29 [.dat (vlst (List.map wb v1.Products)),.dat (vlst (List.map wj v1.Plans))]),(2,.box none 62 [.dat (vint v2.State),.dat (vstr v2.Plan),.dat (vint v2.Since),.dat (vint v2.First)]),(3,.box none 109 [.dat (vint v3.At),.dat (vstr v3.App),.dat (vstr v3.Product),.dat (vint v3.Kind),.dat (vstr v3.Plan)]),(4,.box none 62 [.dat (vint 0),.dat (vstr []),.dat (vint 0),.dat (vint 0)])]) (fun i=>z5s v1 v2 v3 i=some r) (fun i=>Z) ?_ ?_)))))))
 ·skip
  refine zk hN Z (za (zn jt Z) (zm (zp tyS3 Z Z) Z (za (yn Z Z) (qd Z (yi (j:=3) Z Z (fun h4 => ?_) (fun h4 => ?_) Z)))))
  ·exact u1 h4 H fun h5 H=>qz Z Z h4 (qc vj Z Z Z) Z (ze Z Z h4 (zn xd Z) (qz Z Z h4 (zp tyS9 Z Z) Z (bE H fun r6 h7 H=>ze Z Z h4 (zo (y4y v1 v3.Plan r6 h7) ⟨.inl Z,.inl Z,U⟩) (ze Z Z h4 (zw Z Z) (za (yb Z (bTT h5) Z) ⟨decide (r6 < 0),H,⟨Z,Z,Z,Z,Z,U⟩,⟨Z,Z,Z,Z,U⟩⟩)))))
  ·exact u2 h4 H fun h8 H=>zc Z Z h4 (zc Z Z h4 (zc Z Z h4 (zc Z Z h4 (zc Z Z h4 (za (ya Z (bFF h8) Z) ⟨false,H,⟨Z,Z,Z,Z,Z,U⟩,⟨Z,Z,Z,Z,U⟩⟩)))))
 ·rintro v9 H
  replace H:z5s v1 v2 v3 v9=some r:=H
  unfold z5s at H
  refine zf _ Z (fun h10 => ?_) (fun h10 => ?_)
  ·refine tE h10 H fun H=>zb hN Z (zm (qc qn Z Z Z) Z (zj (yo qn Z Z Z Z) Z (qe Z (zg ?_))))
   cases H
   exact ⟨U,.inl ⟨_,_,_,qx v2,Z,Z,Z,Z,qn⟩,.inl Z,U⟩
  ·refine fE h10 H fun H=>zl (zb hN Z (zm (qc qn Z Z Z) Z (zj (qm 5 jz Z) Z (zj (yo qn Z Z Z Z) Z (zb hN Z (za (zn kg Z) (zm (zp tyS3 Z Z) Z (za (zn y6z Z) (zj (wa tyS3 Z Z Z Z) Z (yc (ι:=Int×Bs×Int) (fun i=>[(6,.ptr 4 0),(8,.ptr 5 0)]) (fun i=>[(4,.box none 62 [.dat (vint 0),.dat (vstr []),.dat (vint 0),.dat (vint 0)]),(5,.box none 62 [.dat (vint i.1),.dat (vstr i.2.1),.dat (vint v3.At),.dat (vint i.2.2)])]) (fun i=>Za v3 i.1 i.2.1 i.2.2=some r) (fun i=>Z) ?_ ?_))))))))))
   ·skip
    refine zu (zb hN Z (za (zn jt Z) (zm (zp tyS3 Z Z) Z (za (yn Z Z) (qd Z (yz Z Z (fun hc=>zn jr Z) (xv Z Z (fun hc=>zp tyS3 (cnd (c:=(decide (v3.Kind=1))) hc) Z) Z jf (yz Z Z (fun hc=>yn (cnd (c:=(decide (v3.Kind=1))) hc) Z) (yz Z Z (fun hc=>zh (.dat _) (cnd (c:=(decide (v3.Kind=1))) hc)) (ua Z Z (fun hc=>zn jr Z) (y24 Z Z (fun hc=>zp tyS3 (cnd (c:=((decide (v3.Kind=1)) && !(decide (v2.State=0)))) hc) Z) Z jf (ua Z Z (fun hc=>yn (cnd (c:=((decide (v3.Kind=1)) && !(decide (v2.State=0)))) hc) Z) (yz Z Z (fun hc=>vk (cnd (c:=(decide (v3.Kind=1))) hc) Z (fun hb=>(cnd (c:=((decide (v3.Kind=1)) && !(decide (v2.State=0)))) (andI hc (notI hb))))) (za (wy Z (fun hb=>(cnd (c:=(decide (v3.Kind=1))) hb)) Z) (qe Z (zf _ Z (fun h11 => ?_) (fun h11 => ?_)))))))))))))))))
    ·refine tE h11 H fun H=>zd (wg mixed hN Z Z (za (zn xd Z) (zm (zp tyS9 Z Z) Z (za (zn jr Z) (zj (wa tyS3 Z Z Z Z) Z (za (zn z6q Z) (zj (wa tyS9 Z Z Z Z) Z (za (zn z6p Z) (zj (wa tyS3 Z Z Z Z) Z ⟨Z,?_⟩)))))))))
     refine zd (wg mixed hN Z Z (za (zn uj Z) (zm (zp ui Z Z) Z (zm (qc vj Z Z Z) Z (za (zn xd Z) (zm (zp tyS9 Z Z) Z (bE H fun r12 h13 H=>za (zo (y4y v1 v3.Plan r12 h13) ⟨.inl Z,.inl Z,U⟩) (bE H fun x14 h15 H=>za (wx Zj (fun _=>Z) Z Z h15) (za (vr y1n Z) (za (yr tyS4 Z (ym (qk h15).2) Z) (za (yv Z) ⟨Z,?_⟩)))))))))))
     refine zf _ Z (fun h16 => ?_) (fun h16 => ?_)
     ·refine tE h16 H fun H=>wg mixed hN Z Z (za (zn kg Z) (zm (zp tyS3 Z Z) Z (za (zn jr Z) (zj (wa tyS3 Z Z Z Z) Z (za (zn z6p Z) (zj (wa tyS3 Z Z Z Z) Z ⟨Z,?_⟩))))))
      exact ⟨(2,v3.Plan,v3.At),H,⟨Z,Z,U⟩,⟨Z,Z,U⟩⟩
     ·exact fE h16 H fun H=>zl ⟨(1,v3.Plan,(-1)),H,⟨Z,Z,U⟩,⟨Z,Z,U⟩⟩
    ·refine fE h11 H fun H=>zb hN Z (za (zn jt Z) (zm (zp tyS3 Z Z) Z (za (yn Z Z) (qd Z (yz Z Z (fun hc=>zn jr Z) (xv Z Z (fun hc=>zp tyS3 (cnd (c:=(decide (v3.Kind=1))) hc) Z) Z jf (yz Z Z (fun hc=>yn (cnd (c:=(decide (v3.Kind=1))) hc) Z) (yz Z Z (fun hc=>zh (.dat _) (cnd (c:=(decide (v3.Kind=1))) hc)) (ua Z Z (fun hc=>zn jr Z) (y24 Z Z (fun hc=>zp tyS3 (cnd (c:=((decide (v3.Kind=1)) && !(decide (v2.State=2)))) hc) Z) Z jf (ua Z Z (fun hc=>yn (cnd (c:=((decide (v3.Kind=1)) && !(decide (v2.State=2)))) hc) Z) (yz Z Z (fun hc=>vk (cnd (c:=(decide (v3.Kind=1))) hc) Z (fun hb=>(cnd (c:=((decide (v3.Kind=1)) && !(decide (v2.State=2)))) (andI hc (notI hb))))) (za (wy Z (fun hb=>(cnd (c:=(decide (v3.Kind=1))) hb)) Z) (qe Z (zf _ Z (fun h17 => ?_) (fun h17 => ?_))))))))))))))))
     ·refine tE h17 H fun H=>zb hN Z (za (zn xd Z) (zm (zp tyS9 Z Z) Z (za (zn z6q Z) (zj (wa tyS9 Z Z Z Z) Z (yc (ι:=Bool) (fun i=>[(4,.ptr 2 0),(6,.ptr 4 0),(8,.ptr 5 0),(90,.dat (zi i))]) (fun i=>[(2,.box none 62 [.dat (vint v2.State),.dat (vstr v2.Plan),.dat (vint v2.Since),.dat (vint v2.First)]),(4,.box none 62 [.dat (vint 0),.dat (vstr []),.dat (vint 0),.dat (vint 0)]),(5,.box none 62 [.dat (vint v2.State),.dat (vstr v3.Plan),.dat (vint v3.At),.dat (vint v2.First)])]) (fun i=>z5r v2 v3 i=some r) (fun i=>Z) ?_ ?_)))))
      ·skip
       refine wg mixed hN Z Z (za (zn xd Z) (zm (zp tyS9 Z Z) Z (za (zn z6q Z) (zm (zp tyS9 Z Z) Z (za (vz Z Z) (qd Z (yi (j:=5) Z Z (fun h18 => ?_) (fun h18 => ?_) Z)))))))
       ·refine u3 h18 H fun h19 H=>ze Z Z h18 (zn uj Z) (qz Z Z h18 (zp ui Z Z) Z (qz Z Z h18 (qc vj Z Z Z) Z (ze Z Z h18 (zn xd Z) (qz Z Z h18 (zp tyS9 Z Z) Z (bE H fun r20 h21 H=>ze Z Z h18 (zo (y4y v1 v3.Plan r20 h21) ⟨.inl Z,.inl Z,U⟩) (bE H fun x22 h23 H=>ze Z Z h18 (wx Zj (fun _=>Z) Z Z h23) (ze Z Z h18 (vr y1n Z) (ze Z Z h18 (yr tyS4 Z (ym (qk h23).2) Z) (za (ya Z (bFF h19) Z) ⟨Z,?_⟩)))))))))
        exact ⟨x22.Asked,H,⟨Z,Z,Z,Z,U⟩,⟨Z,Z,Z,U⟩⟩
       ·refine u4 h18 H fun h24 H=>zc Z Z h18 (zc Z Z h18 (zc Z Z h18 (zc Z Z h18 (zc Z Z h18 (zc Z Z h18 (zc Z Z h18 (zc Z Z h18 (zc Z Z h18 (za (yb Z (bTT h24) Z) ⟨Z,?_⟩)))))))))
        exact ⟨true,H,⟨Z,Z,Z,Z,U⟩,⟨Z,Z,Z,U⟩⟩
      ·rintro v25 H
       replace H:z5r v2 v3 v25=some r:=H
       unfold z5r at H
       refine zf _ Z (fun h26 => ?_) (fun h26 => ?_)
       ·refine tE h26 H fun H=>zb hN Z (zm (qc qn Z Z Z) Z (zj (yo qn Z Z Z Z) Z (qe Z (zg ?_))))
        cases H
        exact ⟨U,.inl ⟨_,_,_,qx v2,Z,Z,Z,Z,qn⟩,.inl Z,U⟩
       ·exact fE h26 H fun H=>zl ⟨(v2.State,v3.Plan,v2.First),H,⟨Z,Z,U⟩,⟨Z,Z,U⟩⟩
     ·refine fE h17 H fun H=>zb hN Z (za (zn jt Z) (zm (zp tyS3 Z Z) Z (za (yn Z Z) (qd Z (yz Z Z (fun hc=>zn jr Z) (xv Z Z (fun hc=>zp tyS3 (cnd (c:=(decide (v3.Kind=2))) hc) Z) Z jf (yz Z Z (fun hc=>yn (cnd (c:=(decide (v3.Kind=2))) hc) Z) (za (wy Z (fun hb=>(cnd (c:=(decide (v3.Kind=2))) hb)) Z) (qe Z (zf _ Z (fun h27 => ?_) (fun h27 => ?_)))))))))))
      ·refine tE h27 H fun H=>wg mixed hN Z Z (za (zn kg Z) (zm (zp tyS3 Z Z) Z (za (zn jr Z) (zj (wa tyS3 Z Z Z Z) Z (za (zn z6p Z) (zj (wa tyS3 Z Z Z Z) Z ⟨Z,?_⟩))))))
       exact ⟨(2,v2.Plan,v3.At),H,⟨Z,Z,U⟩,⟨Z,Z,U⟩⟩
      ·refine fE h27 H fun H=>zb hN Z (za (zn jt Z) (zm (zp tyS3 Z Z) Z (za (yn Z Z) (qd Z (yz Z Z (fun hc=>zn jr Z) (xv Z Z (fun hc=>zp tyS3 (cnd (c:=(decide (v3.Kind=3))) hc) Z) Z jf (yz Z Z (fun hc=>yn (cnd (c:=(decide (v3.Kind=3))) hc) Z) (za (wy Z (fun hb=>(cnd (c:=(decide (v3.Kind=3))) hb)) Z) (qe Z (zf _ Z (fun h28 => ?_) (fun h28 => ?_)))))))))))
       ·exact tE h28 H fun H=>zk hN Z (za (zn jr Z) (zj (wa tyS3 Z Z Z Z) Z ⟨(4,v2.Plan,v2.First),H,⟨Z,Z,U⟩,⟨Z,Z,U⟩⟩))
       ·refine fE h28 H fun H=>zb hN Z (za (zn jt Z) (zm (zp tyS3 Z Z) Z (za (yn Z Z) (qd Z (yz Z Z (fun hc=>zn jr Z) (xv Z Z (fun hc=>zp tyS3 (cnd (c:=(decide (v3.Kind=4))) hc) Z) Z jf (yz Z Z (fun hc=>yn (cnd (c:=(decide (v3.Kind=4))) hc) Z) (za (wy Z (fun hb=>(cnd (c:=(decide (v3.Kind=4))) hb)) Z) (qe Z (zf _ Z (fun h29 => ?_) (fun h29 => ?_)))))))))))
        ·exact tE h29 H fun H=>zk hN Z (za (zn jr Z) (zj (wa tyS3 Z Z Z Z) Z ⟨(3,v2.Plan,v2.First),H,⟨Z,Z,U⟩,⟨Z,Z,U⟩⟩))
        ·refine fE h29 H fun H=>zb hN Z (za (zn jt Z) (zm (zp tyS3 Z Z) Z (za (yn Z Z) (qd Z (yz Z Z (fun hc=>zn jr Z) (xv Z Z (fun hc=>zp tyS3 (cnd (c:=(decide (v3.Kind=5))) hc) Z) Z jf (yz Z Z (fun hc=>yn (cnd (c:=(decide (v3.Kind=5))) hc) Z) (za (wy Z (fun hb=>(cnd (c:=(decide (v3.Kind=5))) hb)) Z) (qe Z (zf _ Z (fun h30 => ?_) (fun h30 => ?_)))))))))))
         ·exact tE h30 H fun H=>zk hN Z (za (zn jr Z) (zj (wa tyS3 Z Z Z Z) Z ⟨(2,v2.Plan,v2.First),H,⟨Z,Z,U⟩,⟨Z,Z,U⟩⟩))
         ·refine fE h30 H fun H=>yc (ι:=Bool) (fun i=>[(4,.ptr 2 0),(6,.ptr 4 0),(8,.ptr 5 0),(135,.dat (zi i))]) (fun i=>[(2,.box none 62 [.dat (vint v2.State),.dat (vstr v2.Plan),.dat (vint v2.Since),.dat (vint v2.First)]),(4,.box none 62 [.dat (vint 0),.dat (vstr []),.dat (vint 0),.dat (vint 0)]),(5,.box none 62 [.dat (vint v2.State),.dat (vstr v2.Plan),.dat (vint v3.At),.dat (vint v2.First)])]) (fun i=>z5q v2 v3 i=some r) (fun i=>Z) ?_ ?_
          ·skip
           refine zk hN Z (za (zn jt Z) (zm (zp tyS3 Z Z) Z (za (yn Z Z) (qd Z (yi (j:=3) Z Z (fun h31 => ?_) (fun h31 => ?_) Z)))))
           ·exact u1 h31 H fun h32 H=>ze Z Z h31 (zn jr Z) (qz Z Z h31 (zp tyS3 Z Z) Z (bE H fun r33 h34 H=>ze Z Z h31 (zo (Yh v2.State 1 3 r33 h34) ⟨.inl Z,.inl Z,.inl Z,U⟩) (za (yb Z (bTT h32) Z) (qe Z ⟨r33,H,⟨Z,Z,Z,Z,U⟩,⟨Z,Z,Z,U⟩⟩))))
           ·exact u2 h31 H fun h35 H=>zc Z Z h31 (zc Z Z h31 (zc Z Z h31 (za (ya Z (bFF h35) Z) (qe Z ⟨false,H,⟨Z,Z,Z,Z,U⟩,⟨Z,Z,Z,U⟩⟩))))
          ·rintro v36 H
           replace H:z5q v2 v3 v36=some r:=H
           unfold z5q at H
           refine zf _ Z (fun h37 => ?_) (fun h37 => ?_)
           ·exact tE h37 H fun H=>zk hN Z (za (zn jr Z) (zj (wa tyS3 Z Z Z Z) Z ⟨(4,v2.Plan,v2.First),H,⟨Z,Z,U⟩,⟨Z,Z,U⟩⟩))
           ·refine fE h37 H fun H=>zb hN Z (zm (qc qn Z Z Z) Z (zj (yo qn Z Z Z Z) Z (qe Z (zg ?_))))
            cases H
            exact ⟨U,.inl ⟨_,_,_,qx v2,Z,Z,Z,Z,qn⟩,.inl Z,U⟩
   ·rintro ⟨c38,c39,c40⟩ H
    replace H:Za v3 c38 c39 c40=some r:=H
    unfold Za at H
    refine zb hN Z (zm (qc qn Z Z Z) Z (zj (yo qn Z Z Z Z) Z (qe Z (zg ?_))))
    cases H
    exact ⟨U,.inl ⟨_,_,_,qx (zz.mk c38 c39 v3.At c40),Z,Z,Z,Z,qn⟩,.inl Z,U⟩
theorem v1f (s1:zy) (r:(Bs×zy)) (H:y4l s1=some r):Imp Tryz.prog 44 25 (vf s1) [] (zr [vstr r.1]) (vf r.2):=by
 refine kv (us:=[vstr r.1]) (cs':=(vf r.2)) (by kernel_rfl) Tryz.func44 Z Z Z Z fun X bl hN => ?_
 unfold y4l at H
 refine zb hN Z (qe Z (zb hN Z (za (zh (.ptr _ _) Z) (za (yg (u':=vlst (List.map zt [[97,112,112,49],[97,112,112,49],[97,112,112,49],[97,112,112,50],[97,112,112,51],[110,111,110,101]])) (qy [[_],[_],[_],[_],[_],[_]] vn ⟨Z,.inl ⟨_,Z,Z,Z⟩,Z,Z,.inl ⟨_,Z,Z,Z⟩,Z,Z,.inl ⟨_,Z,Z,Z⟩,Z,Z,.inl ⟨_,Z,Z,Z⟩,Z,Z,.inl ⟨_,Z,Z,Z⟩,Z,Z,.inl ⟨_,Z,Z,Z⟩,Z,U⟩ Z Z) Z) (bE H fun r2 h3 H=>zj (qt (Wx s1 ([[97,112,112,49],[97,112,112,49],[97,112,112,49],[97,112,112,50],[97,112,112,51],[110,111,110,101]]) r2 h3) Z ⟨.inl Z,U⟩ Z) Z (qe Z (zg ?_)))))))
 cases H
 exact ⟨U,⟨.inl Z,U⟩,Z⟩
theorem v1c (s1:zy) (r:(Bs×zy)) (H:y4k s1=some r):Imp Tryz.prog 45 25 (vf s1) [] (zr [vstr r.1]) (vf r.2):=by
 refine kv (us:=[vstr r.1]) (cs':=(vf r.2)) (by kernel_rfl) Tryz.func45 Z Z Z Z fun X bl hN => ?_
 unfold y4k at H
 refine zb hN Z (qe Z (zb hN Z (za (zh (.ptr _ _) Z) (za (yg (u':=vlst (List.map zt [[115,104,111,112],[115,104,111,112],[115,104,111,112],[109,97,112,115],[110,111,110,101]])) (qy [[_],[_],[_],[_],[_]] vn ⟨Z,.inl ⟨_,Z,Z,Z⟩,Z,Z,.inl ⟨_,Z,Z,Z⟩,Z,Z,.inl ⟨_,Z,Z,Z⟩,Z,Z,.inl ⟨_,Z,Z,Z⟩,Z,Z,.inl ⟨_,Z,Z,Z⟩,Z,U⟩ Z Z) Z) (bE H fun r2 h3 H=>zj (qt (Wx s1 ([[115,104,111,112],[115,104,111,112],[115,104,111,112],[109,97,112,115],[110,111,110,101]]) r2 h3) Z ⟨.inl Z,U⟩ Z) Z (qe Z (zg ?_)))))))
 cases H
 exact ⟨U,⟨.inl Z,U⟩,Z⟩
theorem x8o (s1:zy) (low2:Int) (high3:Int) (r:(Int×zy)) (H:z43 s1 low2 high3=some r):Imp Tryz.prog 46 25 (vf s1) [vint low2,vint high3] (zr [vint r.1]) (vf r.2):=by
 refine kv (us:=[vint r.1]) (cs':=(vf r.2)) (by kernel_rfl) Tryz.func46 Z Z Z Z fun X bl hN => ?_
 unfold z43 at H
 refine zb hN Z (qe Z (zd (zb hN Z (za (zh (.ptr _ _) Z) (bE H fun r4 h5 H=>zj (qt (z16 s1 12 r4 h5) Z ⟨.inl Z,U⟩ Z) Z (zf _ Z (fun h6 => ?_) (fun h6 => ?_)))))))
 ·refine tE h6 H fun H=>zb hN Z (za (zh (.ptr _ _) Z) (qd Z (za (yl _ Z Z (.inr (.inl ⟨Z,Z⟩))) (qd Z (za (yl _ Z Z (.inl ⟨Z,Z⟩)) (qd Z (qd Z (za (yg (u':=vlst (List.map wi [wr (low2 - 1),wr (high3+1),low2,high3,(-1099511627776),1099511627776])) (qy [[_],[_],[_],[_],[_],[_]] kf ⟨Z,.inl ⟨_,Z,Z,Z⟩,Z,Z,.inl ⟨_,Z,Z,Z⟩,Z,Z,.inl ⟨_,Z,Z,Z⟩,Z,Z,.inl ⟨_,Z,Z,Z⟩,Z,Z,.inl ⟨_,Z,Z,Z⟩,Z,Z,.inl ⟨_,Z,Z,Z⟩,Z,U⟩ Z Z) Z) (bE H fun r7 h8 H=>zj (qt (xi r4.2 [wr (low2 - 1),wr (high3+1),low2,high3,(-1099511627776),1099511627776] r7 h8) Z ⟨.inl Z,U⟩ Z) Z (qe Z (zg ?_)))))))))))
  cases H
  exact ⟨U,⟨.inl Z,U⟩,Z⟩
 ·refine fE h6 H fun H=>zl (zb hN Z (za (zh (.ptr _ _) Z) (qd Z (qd Z (bE H fun r9 h10 H=>zj (qt (z96 r4.2 low2 high3 r9 h10) Z ⟨.inl Z,.inl Z,U⟩ Z) Z (qe Z (zg ?_)))))))
  cases H
  exact ⟨U,⟨.inl Z,U⟩,Z⟩
theorem w7g (c1:yh) (l2:(List zq)) (app3:Bs) (product4:Bs) (r:((List zz)×(List Int))) (H:z9g c1 l2 app3 product4=some r):FnG Tryz.prog 43 [.dat (vagg (jo c1)),.row 0 l2.length,.dat (vstr app3),.dat (vstr product4)] [(0,.rowA undef 109 5 (List.map yy l2))] (.dat (zr [vlst (List.map qx r.1),vlst (List.map wi r.2)])) [(0,.rowA undef 109 5 (List.map yy l2))]:=by
 refine Zs (by kernel_rfl) Tryz.func43 Z Z Z Z fun X A hN => ?_
 unfold z9g at H
 refine zb hN Z (zj (qu 1 Z) Z (qe Z (qe Z (zb hN Z (bE H fun r5 h6 H=>za (zo (v0x  r5 h6) U) (zj (w2x (C:=qx) 2 ([r5]:(List zz)) y6y ⟨Z,.inr Z,Z,U⟩ Z Z Z) Z (za (wm (.row _ _) Z) (qe Z (zd (zb hN Z (za (zh (.row _ _) Z) (zm (x5f Ze Z Z) Z (qd Z (zu (uy 11 3 3 1 Z Z Z (gE H fun h11 H=>qq (fun (k9:Nat) (s:(List zz)×(List Int))=>[(2,.dat (vstr app3)),(3,.dat (vstr product4)),(4,.ptr 1 0),(10,.row 2 s.1.length),(11,.row 3 s.2.length),(18,.row 0 l2.length),(19,.dat (vint (l2.length:Int))),(20,.dat (vint (k9:Int)))]) (fun (k9:Nat) (s:(List zz)×(List Int))=>[(0,.rowA (A.vl 0) 109 5 (List.map yy l2)),(1,.box none 29 [.dat (vlst (List.map wb c1.Products)),.dat (vlst (List.map wj c1.Plans))]),(2,.row 62 4 (List.map qx s.1)),(3,.row 3 1 (List.map wi s.2))]) (([r5]:(List zz)),[]) H ⟨Z,Z,Z,Z,Z,Z,Z,Z,U⟩ ⟨Z,Z,Z,Z,U⟩ (fun _ _=>Z) ?_ ?_))))))))))))))))
 ·rintro ⟨l7,l8⟩ H
  replace H:y5b l7 l8=some r:=H
  unfold y5b at H
  refine zb hN Z (za (zw Z Z) (zd (zf _ Z (fun h=>(lt_t h).elim) (fun h => ?_))))
  refine yp (zb hN Z (za (zh (.row _ _) Z) (za (zh (.row _ _) Z) (za (wm (.row _ _) Z) (za (wm (.row _ _) Z) (z0y 8 2 Z Z Z (z0y 9 3 Z Z Z (zg ?_))))))))
  cases H
  exact ⟨U,[(8,.dat (vlst (List.map qx l7))),(9,.dat (vlst (List.map wi l8)))],⟨Z,Z,U⟩,⟨Z,U⟩,Z,.inl ⟨[vlst (List.map qx l7),vlst (List.map wi l8)],⟨Z,Z,U⟩,Z⟩⟩
 ·rintro k9 x12 ⟨l7,l8⟩ q10 h13 h14 H hq10
  replace H:y5a c1 app3 product4 k9 x12 l7 l8=some q10:=H
  unfold y5a at H
  refine zb hN Z (za (zw Z Z) (zd (zf _ Z (fun h => ?_) (fun h=>(lt_f h13 h).elim))))
  refine zl (yc (ι:=(List zz)×(List Int)) (fun i=>[(2,.dat (vstr app3)),(3,.dat (vstr product4)),(4,.ptr 1 0),(10,.row 2 i.1.length),(11,.row 3 i.2.length),(18,.row 0 l2.length),(19,.dat (vint (l2.length:Int))),(20,.dat (vint (k9:Int)))]) (fun i=>[(0,.rowA (A.vl 0) 109 5 (List.map yy l2)),(1,.box none 29 [.dat (vlst (List.map wb c1.Products)),.dat (vlst (List.map wj c1.Plans))]),(2,.row 62 4 (List.map qx i.1)),(3,.row 3 1 (List.map wi i.2))]) (fun i=>z2f i.1 i.2=some q10) (fun i=>Z) ?_ ?_)
  ·skip
   refine zu (zb hN Z (qd Z (zm (w2z ju Z Z Z h14) Z (zm (z66 vx Z Z h14 Z) Z (zj (qm 4 z0k Z) Z (qe Z (zj (yo vx Z Z Z Z) Z (zd (zb hN Z (za (zn xp Z) (zm (zp tyS9 Z Z) Z (qd Z (za (js Z Z) (qd Z (yu Z Z (fun hc=>zn uo Z) (uk Z Z (fun hc=>zp tyS9 (cnd (c:=(!(decide (x12.App≠app3)))) hc) Z) Z jf (yu Z Z (fun hc=>zh (.dat _) Z) (yu Z Z (fun hc=>js (cnd (c:=(!(decide (x12.App≠app3)))) hc) (cnd (c:=(!(decide (x12.App≠app3)))) hc)) (za (vk Z Z (fun hb=>(cnd (c:=(!(decide (x12.App≠app3)))) (notI hb)))) (zf _ Z (fun h15 => ?_) (fun h15 => ?_)))))))))))))))))))))
   ·exact tE h15 H fun H=>yp ⟨(l7,l8),H,⟨Z,Z,Z,Z,Z,Z,Z,Z,U⟩,⟨Z,Z,Z,Z,U⟩⟩
   ·refine fE h15 H fun H=>zl (zd (wg mixed hN Z Z (zm (qc vj Z Z Z) Z (za (zh (.row _ _) Z) (za (zh (.row _ _) Z) (zm (Yy x3t Z Z) Z (za (yl _ Z Z (.inr (.inl ⟨Z,Z⟩))) (bE H fun x16 h17 H=>zm (Zy x4z Z Z Z h17) Z (zm (z3d qn Z Z (qk h17).2 Z) Z (zm (qc vx Z Z Z) Z (bE H fun r18 h19 H=>za (zo (v0z c1 x16 x12 r18 h19) ⟨.inl Z,.inl Z,.inl Z,U⟩) (qd Z (za (ye Z Z) (za (ye Z Z) (zj (qm 5 jz Z) Z (zj (yo qn Z Z Z Z) Z (qe Z ⟨Z,?_⟩)))))))))))))))))
    refine zb hN Z (qd Z (zf _ Z (fun h20 => ?_) (fun h20 => ?_)))
    ·refine tE h20 H fun H=>zk hN Z (za (zh (.row _ _) Z) (zm (qc qn Z Z Z) Z (za (yg (u':=vlst (List.map qx [r18.1])) (qy [_] y6y ⟨Z,.inr Z,Z,U⟩ Z Z) Z) (gE H fun h21 H=>zj (ko y6y (fun _=>Z) Z Z Z ⟨by simp,by first | (simp; done) | simpa using h21⟩ Z) Z ?_))))
     exact za (wm (.row _ _) Z) ⟨((l7++[r18.1]),l8),H,⟨Z,Z,Z,Z,Z,Z,Z,Z,U⟩,⟨Z,Z,Z,Z,U⟩⟩
    ·refine fE h20 H fun H=>zk hN Z (za (zh (.row _ _) Z) (qd Z (za (yg (u':=vlst (List.map wi [(k9:Int)])) (qy [[_]] kf ⟨Z,.inl ⟨_,Z,Z,Z⟩,Z,U⟩ Z Z) Z) (gE H fun h22 H=>zj (ko kf (fun _=>Z) Z Z Z ⟨by simp,by first | (simp; done) | simpa using h22⟩ Z) Z ?_))))
     exact za (wm (.row _ _) Z) ⟨(l7,(l8++[(k9:Int)])),H,⟨Z,Z,Z,Z,Z,Z,Z,Z,U⟩,⟨Z,Z,Z,Z,U⟩⟩
  ·rintro ⟨out23,refused24⟩ H
   replace H:z2f out23 refused24=some q10:=H
   unfold z2f at H
   exact zk hN Z (za (qi Z Z (by omega)) (qd Z ⟨_,yw H,⟨Z,Z,Z,Z,Z,Z,Z,Z,U⟩,⟨Z,Z,Z,Z,U⟩⟩))
end Go.Proofs.YtbndlmnjeofkdacGreatDoor
