/- Walks along the models. Printed by a program. -/
import Derived.Test.YtnnfdgngnoamoaaGreatDoorXbw3
namespace Go.Proofs.YtnnfdgngnoamoaaGreatDoor
open Go.RowKit
set_option linter.unusedVariables false
set_option maxRecDepth 100000
set_option maxHeartbeats 2000000
theorem w3a (v1:zx) (v2:ya) (r:(Int)) (H:z8h v1 v2=some r):Fn Tryz.prog 91 [vagg (yy v1),vagg (ym v2)] (yc [vint r]):=by
 refine ⟨by kernel_rfl,yl (us:=[vint r]) Tryz.func91 Z Z Z Z fun X hN => ?_⟩
 unfold z8h at H
 refine zc hN Z (zd (qr 1 Z) Z (zd (qr 2 Z) Z (qe Z (zf (yd (zc hN Z (ze (yg ql Z Z Z) Z (za (zj z3q Z) (ze (zl tyS9 Z Z) Z (bE H fun r3 h4 H=>za (yb (y7s v1 v2.Product r3 h4) ⟨.inl Z,.inl Z,U⟩) (za (ye Z Z) (qe Z (zi _ Z (fun h5 => ?_) (fun h5 => ?_))))))))))))))
 ·refine tE h5 H fun H=>zc hN Z (qe Z (zn ?_))
  cases H
  exact ⟨U,.inl Z,U⟩
 ·refine fE h5 H fun H=>yw (ι:=Bool) (fun i=>[(3,.ptr 2 0),(13,.dat (zr i))]) (fun i=>[(2,.box none 84 [.dat (vstr v2.Key),.dat (vstr v2.Product),.dat (vint v2.Base),.dat (vint v2.Free),.dat (vlst (List.map wd v2.Tiers)),.dat (vint v2.Limit),.dat (vint v2.Trial),.dat (zr v2.Asked)])]) (fun i=>z0z v2 i=some r) (fun i=>Z) ?_ ?_
  ·skip
   refine zq hN Z (za (zj z1m Z) (ze (zl tyS3 Z Z) Z (bE H fun r6 h7 H=>za (yb (Zp v2.Base 0 1000000000000 r6 h7) ⟨.inl Z,.inl Z,.inl Z,U⟩) (za (ww Z) (qd Z (qv (j:=4) Z Z (fun h8 => ?_) (fun h8 => ?_) Z))))))
   ·exact u3 h8 H fun h9 H=>zo Z Z h8 (zj z6q Z) (wc Z Z h8 (zl tyS3 Z Z) Z (bE H fun r10 h11 H=>zo Z Z h8 (yb (Zp v2.Free 0 1000000000000 r10 h11) ⟨.inl Z,.inl Z,.inl Z,U⟩) (zo Z Z h8 (ww Z) (za (yq Z (bFF h9) Z) (qe Z ⟨!r10,H,⟨Z,Z,U⟩,⟨Z,U⟩⟩)))))
   ·exact u4 h8 H fun h12 H=>zh Z Z h8 (zh Z Z h8 (zh Z Z h8 (zh Z Z h8 (za (qt Z (bTT h12) Z) (qe Z ⟨true,H,⟨Z,Z,U⟩,⟨Z,U⟩⟩)))))
  ·rintro v13 H
   replace H:z0z v2 v13=some r:=H
   unfold z0z at H
   refine zi _ Z (fun h14 => ?_) (fun h14 => ?_)
   ·refine tE h14 H fun H=>zc hN Z (qe Z (zn ?_))
    cases H
    exact ⟨U,.inl Z,U⟩
   ·refine fE h14 H fun H=>zc hN Z (za (zj kz Z) (ze (zl kg Z Z) Z (za (yu Qj Z) (za (wz Z Z) (qe Z (zi _ Z (fun h15 => ?_) (fun h15 => ?_)))))))
    ·refine tE h15 H fun H=>zc hN Z (qe Z (zn ?_))
     cases H
     exact ⟨U,.inl Z,U⟩
    ·refine fE h15 H fun H=>zp (zf (zc hN Z (za (zj kz Z) (ze (zl kg Z Z) Z (za (yu Qj Z) (qd Z (yd (gE H fun h18 H=>ve (fun (k16:Nat) (s:Unit)=>[(3,.ptr 2 0),(30,.dat (vlst (List.map wd v2.Tiers))),(31,.dat (vint (v2.Tiers.length:Int))),(32,.dat (vint (k16:Int)))]) (fun (k16:Nat) (s:Unit)=>[(2,.box none 84 [.dat (vstr v2.Key),.dat (vstr v2.Product),.dat (vint v2.Base),.dat (vint v2.Free),.dat (vlst (List.map wd v2.Tiers)),.dat (vint v2.Limit),.dat (vint v2.Trial),.dat (zr v2.Asked)])]) () H ⟨Z,Z,Z,Z,U⟩ ⟨Z,U⟩ (fun _ _=>Z) ?_ ?_))))))))
     ·rintro ⟨⟩ H
      replace H:z9k v2=some r:=H
      unfold z9k at H
      refine zc hN Z (za (ye Z Z) (zf (zi _ Z (fun h=>(lt_t h).elim) (fun h => ?_))))
      refine qk (zf (yd (yw (ι:=Bool) (fun i=>[(3,.ptr 2 0),(64,.dat (zr i))]) (fun i=>[(2,.box none 84 [.dat (vstr v2.Key),.dat (vstr v2.Product),.dat (vint v2.Base),.dat (vint v2.Free),.dat (vlst (List.map wd v2.Tiers)),.dat (vint v2.Limit),.dat (vint v2.Trial),.dat (zr v2.Asked)])]) (fun i=>z2o v2 i=some r) (fun i=>Z) ?_ ?_)))
      ·skip
       refine zq hN Z (za (zj kz Z) (ze (zl kg Z Z) Z (za (yu Qj Z) (za (wz Z Z) (qd Z (qv (j:=4) Z Z (fun h20 => ?_) (fun h20 => ?_) Z))))))
       ·exact u1 h20 H fun h21 H=>zo Z Z h20 (zj kz Z) (wc Z Z h20 (zl kg Z Z) Z (bE H fun x22 h23 H=>zo Z Z h20 (wq Qq (fun _=>Z) Z Z h23) (zo Z Z h20 (jd xj Z) (zo Z Z h20 (wy tyS3 Z (qg h23) Z) (zo Z Z h20 (vn Z Z) (za (qt Z (bTT h21) Z) (qe Z ⟨decide (x22.From≠1),H,⟨Z,Z,U⟩,⟨Z,U⟩⟩)))))))
       ·exact u2 h20 H fun h24 H=>zh Z Z h20 (zh Z Z h20 (zh Z Z h20 (zh Z Z h20 (zh Z Z h20 (zh Z Z h20 (za (yq Z (bFF h24) Z) (qe Z ⟨false,H,⟨Z,Z,U⟩,⟨Z,U⟩⟩)))))))
      ·rintro v25 H
       replace H:z2o v2 v25=some r:=H
       unfold z2o at H
       refine zi _ Z (fun h26 => ?_) (fun h26 => ?_)
       ·refine tE h26 H fun H=>zc hN Z (qe Z (zn ?_))
        cases H
        exact ⟨U,.inl Z,U⟩
       ·refine fE h26 H fun H=>yw (ι:=Bool) (fun i=>[(77,.dat (zr i))]) (fun i=>[]) (fun i=>z49 i=some r) (fun i=>Z) ?_ ?_
        ·skip
         refine zq hN Z (za (zj y4z Z) (ze (zl tyS3 Z Z) Z (bE H fun r27 h28 H=>za (yb (Zp v2.Limit (-1) 1000000000000 r27 h28) ⟨.inl Z,.inl Z,.inl Z,U⟩) (za (ww Z) (qd Z (qv (j:=4) Z Z (fun h29 => ?_) (fun h29 => ?_) Z))))))
         ·exact u3 h29 H fun h30 H=>zo Z Z h29 (zj z6p Z) (wc Z Z h29 (zl tyS3 Z Z) Z (bE H fun r31 h32 H=>zo Z Z h29 (yb (Zp v2.Trial 0 132 r31 h32) ⟨.inl Z,.inl Z,.inl Z,U⟩) (zo Z Z h29 (ww Z) (za (yq Z (bFF h30) Z) (qe Z ⟨!r31,H,⟨Z,U⟩,U⟩)))))
         ·exact u4 h29 H fun h33 H=>zh Z Z h29 (zh Z Z h29 (zh Z Z h29 (zh Z Z h29 (za (qt Z (bTT h33) Z) (qe Z ⟨true,H,⟨Z,U⟩,U⟩)))))
        ·rintro v34 H
         replace H:z49 v34=some r:=H
         unfold z49 at H
         refine zi _ Z (fun h35 => ?_) (fun h35 => ?_)
         ·refine tE h35 H fun H=>zc hN Z (qe Z (zn ?_))
          cases H
          exact ⟨U,.inl Z,U⟩
         ·refine fE h35 H fun H=>zp (zc hN Z (qe Z (zn ?_)))
          cases H
          exact ⟨U,.inl Z,U⟩
     ·rintro k16 x19 ⟨⟩ q17 h36 h37 H hq17
      replace H:z9i v2 k16 x19=some q17:=H
      unfold z9i at H
      refine zc hN Z (za (ye Z Z) (zf (zi _ Z (fun h => ?_) (fun h=>(lt_f h36 h).elim))))
      refine zp (zf (yd (zc hN Z (qd Z (za (wq Qq (fun _=>Z) Z Z h37) (za (wo z0a Z (qg h37) Z) (zd (qf 3 Wv Z) Z (qe Z (zd (yz z0a Z Z Z Z) Z (yd (yw (ι:=Bool) (fun i=>[(3,.ptr 2 0),(5,.dat (vint (k16:Int))),(6,.ptr 3 0),(30,.dat (vlst (List.map wd v2.Tiers))),(31,.dat (vint (v2.Tiers.length:Int))),(32,.dat (vint (k16:Int))),(37,.dat (zr i))]) (fun i=>[(2,.box none 84 [.dat (vstr v2.Key),.dat (vstr v2.Product),.dat (vint v2.Base),.dat (vint v2.Free),.dat (vlst (List.map wd v2.Tiers)),.dat (vint v2.Limit),.dat (vint v2.Trial),.dat (zr v2.Asked)]),(3,.box none 81 [.dat (vint x19.From),.dat (vint x19.Cents)])]) (fun i=>z48 v2 k16 x19 i=some q17) (fun i=>Z) ?_ ?_)))))))))))
      ·skip
       refine zq hN Z (za (zj xj Z) (ze (zl tyS3 Z Z) Z (bE H fun r38 h39 H=>za (yb (Zp x19.From 1 1000000000000 r38 h39) ⟨.inl Z,.inl Z,.inl Z,U⟩) (za (ww Z) (qd Z (qv (j:=4) Z Z (fun h40 => ?_) (fun h40 => ?_) Z))))))
       ·exact u3 h40 H fun h41 H=>zo Z Z h40 (zj y0o Z) (wc Z Z h40 (zl tyS3 Z Z) Z (bE H fun r42 h43 H=>zo Z Z h40 (yb (Zp x19.Cents 0 1000000 r42 h43) ⟨.inl Z,.inl Z,.inl Z,U⟩) (zo Z Z h40 (ww Z) (za (yq Z (bFF h41) Z) (qe Z ⟨!r42,H,⟨Z,Z,Z,Z,Z,Z,Z,U⟩,⟨Z,Z,U⟩⟩)))))
       ·exact u4 h40 H fun h44 H=>zh Z Z h40 (zh Z Z h40 (zh Z Z h40 (zh Z Z h40 (za (qt Z (bTT h44) Z) (qe Z ⟨true,H,⟨Z,Z,Z,Z,Z,Z,Z,U⟩,⟨Z,Z,U⟩⟩)))))
      ·rintro v45 H
       replace H:z48 v2 k16 x19 v45=some q17:=H
       unfold z48 at H
       refine zi _ Z (fun h46 => ?_) (fun h46 => ?_)
       ·refine tE h46 H fun H=>zc hN Z (qe Z (zn ?_))
        replace H:=retl H hq17
        cases H
        exact ⟨U,.inl Z,U⟩
       ·refine fE h46 H fun H=>yw (ι:=Bool) (fun i=>[(3,.ptr 2 0),(30,.dat (vlst (List.map wd v2.Tiers))),(31,.dat (vint (v2.Tiers.length:Int))),(32,.dat (vint (k16:Int))),(48,.dat (zr i))]) (fun i=>[(2,.box none 84 [.dat (vstr v2.Key),.dat (vstr v2.Product),.dat (vint v2.Base),.dat (vint v2.Free),.dat (vlst (List.map wd v2.Tiers)),.dat (vint v2.Limit),.dat (vint v2.Trial),.dat (zr v2.Asked)])]) (fun i=>z9j i=some q17) (fun i=>Z) ?_ ?_
        ·skip
         refine wl mixed hN Z Z (qd Z (za (wz Z Z) (qd Z (qv (j:=2) Z Z (fun h47 => ?_) (fun h47 => ?_) Z))))
         ·refine u1 h47 H fun h48 H=>zo Z Z h47 (zj xj Z) (wc Z Z h47 (zl tyS3 Z Z) Z (zo Z Z h47 (zj kz Z) (wc Z Z h47 (zl kg Z Z) Z (zo Z Z h47 (zg (.dat _) Z) (zo Z Z h47 (Yb Z Z (by omega)) (bE H fun x49 h50 H=>zo Z Z h47 (ja Qq (fun _=>Z) Z Z h50) (zo Z Z h47 (jd xj Z) (zo Z Z h47 (wy tyS3 Z (qg (qi h50).2) Z) (zo Z Z h47 (xb Z Z) (za (qt Z (bTT h48) Z) (qe Z ⟨Z,?_⟩)))))))))))
          exact ⟨decide (x19.From≤x49.From),H,⟨Z,Z,Z,Z,Z,U⟩,⟨Z,U⟩⟩
         ·refine u2 h47 H fun h51 H=>zh Z Z h47 (zh Z Z h47 (zh Z Z h47 (zh Z Z h47 (zh Z Z h47 (zh Z Z h47 (zh Z Z h47 (zh Z Z h47 (zh Z Z h47 (zh Z Z h47 (za (yq Z (bFF h51) Z) (qe Z ⟨Z,?_⟩)))))))))))
          exact ⟨false,H,⟨Z,Z,Z,Z,Z,U⟩,⟨Z,U⟩⟩
        ·rintro v52 H
         replace H:z9j v52=some q17:=H
         unfold z9j at H
         refine zi _ Z (fun h53 => ?_) (fun h53 => ?_)
         ·refine tE h53 H fun H=>zc hN Z (qe Z (zn ?_))
          replace H:=retl H hq17
          cases H
          exact ⟨U,.inl Z,U⟩
         ·exact fE h53 H fun H=>zp (zq hN Z (za (wa Z Z (by omega)) (qd Z ⟨_,qj H,⟨Z,Z,Z,Z,U⟩,⟨Z,U⟩⟩)))
theorem w29 (s1:Bs) (r:(Bool)) (H:z8g s1=some r):Fn Tryz.prog 135 [vstr s1] (yc [zr r]):=by
 refine ⟨by kernel_rfl,yl (us:=[zr r]) Tryz.func135 Z Z Z Z fun X hN => ?_⟩
 unfold z8g at H
 refine zc hN Z (qe Z (zc hN Z (qd Z (bE H fun r2 h3 H=>za (yb (x3h s1 [58] r2 h3) ⟨.inl Z,.inl Z,U⟩) (qe Z (zf (zc hN Z (qd Z (za (yu js Z) (qd Z (yd (gE H fun h6 H=>ve (fun (k4:Nat) (s:Unit)=>[(3,.dat (vlst (List.map yr r2))),(8,.dat (vlst (List.map yr r2))),(9,.dat (vint (r2.length:Int))),(10,.dat (vint (k4:Int)))]) (fun (k4:Nat) (s:Unit)=>[]) () H ⟨Z,Z,Z,Z,U⟩ U (fun _ _=>Z) ?_ ?_))))))))))))
 ·rintro ⟨⟩ H
  replace H:y7y r2=some r:=H
  unfold y7y at H
  refine zc hN Z (za (ye Z Z) (zf (zi _ Z (fun h=>(lt_t h).elim) (fun h => ?_))))
  refine qk (zc hN Z (qd Z (za (yu js Z) (za (xb Z Z) (qe Z (zn ?_))))))
  cases H
  exact ⟨U,.inl Z,U⟩
 ·rintro k4 x7 ⟨⟩ q5 h8 h9 H hq5
  replace H:y29 r2 k4 x7=some q5:=H
  unfold y29 at H
  refine zc hN Z (za (ye Z Z) (zf (zi _ Z (fun h => ?_) (fun h=>(lt_f h8 h).elim))))
  refine zp (zf (yd (zc hN Z (qd Z (za (wq Zg (fun _=>Z) Z Z h9) (za (wy tyS9 Z (qg h9) Z) (qe Z (qe Z (zc hN Z (qd Z (bE H fun r10 h11 H=>za (yb (z9d x7 r10 h11) ⟨.inl Z,U⟩) (za (ww Z) (qd Z (wb Z Z (fun hc=>zg (.dat _) Z) (wb Z Z (fun hc=>Yd (cnd (c:=(!r10)) hc) Z) (wb Z Z (fun hc=>zg (.dat _) (cnd (c:=(!r10)) hc)) (xr Z Z (fun hc=>zg (.dat _) Z) (xr Z Z (fun hc=>zg (.dat _) Z) (xr Z Z (fun hc=>yu js (cnd (c:=((!r10) && !(decide (x7≠[42])))) hc)) (xr Z Z (fun hc=>yj _ (cnd (c:=((!r10) && !(decide (x7≠[42])))) hc) Z (.inr (.inl ⟨Z,Z⟩))) (xr Z Z (fun hc=>ye (cnd (c:=((!r10) && !(decide (x7≠[42])))) hc) (cnd (c:=((!r10) && !(decide (x7≠[42])))) hc)) (wb Z Z (fun hc=>ul (cnd (c:=(!r10)) hc) Z (fun hb=>(cnd (c:=((!r10) && !(decide (x7≠[42])))) (andI hc (notI hb))))) ?_))))))))))))))))))))))
  refine za (jf Z (fun hb=>(cnd (c:=(!r10)) hb)) Z) (zi _ Z (fun h12 => ?_) (fun h12 => ?_))
  ·refine tE h12 H fun H=>zc hN Z (qe Z (zn ?_))
   replace H:=retl H hq5
   cases H
   exact ⟨U,.inl Z,U⟩
  ·exact fE h12 H fun H=>zp (zq hN Z (za (wa Z Z (by omega)) (qd Z ⟨_,qj H,⟨Z,Z,Z,Z,U⟩,U⟩)))
theorem w3i (l1:(List Bs)) (r:(Int)) (H:z8l l1=some r):Fn Tryz.prog 90 [vlst (List.map yr l1)] (yc [vint r]):=by
 refine ⟨by kernel_rfl,yl (us:=[vint r]) Tryz.func90 Z Z Z Z fun X hN => ?_⟩
 unfold z8l at H
 refine zc hN Z (qe Z (zf (zc hN Z (qd Z (za (yu js Z) (za (wz Z Z) (zi _ Z (fun h2 => ?_) (fun h2 => ?_))))))))
 ·refine tE h2 H fun H=>zc hN Z (qe Z (zn ?_))
  cases H
  exact ⟨U,.inl Z,U⟩
 ·refine fE h2 H fun H=>zp (zf (zc hN Z (qd Z (za (yu js Z) (qd Z (yd (gE H fun h5 H=>ve (fun (k3:Nat) (s:Unit)=>[(8,.dat (vlst (List.map yr l1))),(9,.dat (vint (l1.length:Int))),(10,.dat (vint (k3:Int)))]) (fun (k3:Nat) (s:Unit)=>[]) () H ⟨Z,Z,Z,U⟩ U (fun _ _=>Z) ?_ ?_)))))))
  ·rintro ⟨⟩ H
   replace H:y71=some r:=H
   unfold y71 at H
   refine zc hN Z (za (ye Z Z) (zf (zi _ Z (fun h=>(lt_t h).elim) (fun h => ?_))))
   refine qk (zc hN Z (qe Z (zn ?_)))
   cases H
   exact ⟨U,.inl Z,U⟩
  ·rintro k3 x6 ⟨⟩ q4 h7 h8 H hq4
   replace H:y3f k3 x6=some q4:=H
   unfold y3f at H
   refine zc hN Z (za (ye Z Z) (zf (zi _ Z (fun h => ?_) (fun h=>(lt_f h7 h).elim))))
   refine zp (zf (yd (zc hN Z (za (wq Zg (fun _=>Z) Z Z h8) (za (wy tyS9 Z (qg h8) Z) (qe Z (zc hN Z (qd Z (bE H fun r9 h10 H=>za (yb (w29 x6 r9 h10) ⟨.inl Z,U⟩) (za (ww Z) (zi _ Z (fun h11 => ?_) (fun h11 => ?_))))))))))))
   ·refine tE h11 H fun H=>zc hN Z (qe Z (zn ?_))
    replace H:=retl H hq4
    cases H
    exact ⟨U,.inl Z,U⟩
   ·exact fE h11 H fun H=>zp (zq hN Z (za (wa Z Z (by omega)) (qd Z ⟨_,qj H,⟨Z,Z,Z,U⟩,U⟩)))
theorem x3s (v1:zx) (r:(Int)) (H:z4w v1=some r):Fn Tryz.prog 48 [vagg (yy v1)] (yc [vint r]):=by
 refine ⟨by kernel_rfl,yl (us:=[vint r]) Tryz.func48 Z Z Z Z fun X hN => ?_⟩
 unfold z4w at H
 refine zc hN Z (zd (qr 1 Z) Z (qe Z (zf (zc hN Z (za (zj z0f Z) (ze (zl z0b Z Z) Z (za (yu z1k Z) (za (wz Z Z) (zi _ Z (fun h2 => ?_) (fun h2 => ?_))))))))))
 ·refine tE h2 H fun H=>zc hN Z (qe Z (zn ?_))
  cases H
  exact ⟨U,.inl Z,U⟩
 ·refine fE h2 H fun H=>zp (zc hN Z (qe Z (zf (zc hN Z (za (zj z0f Z) (ze (zl z0b Z Z) Z (za (yu z1k Z) (qd Z (yd (gE H fun h6 H=>ve (fun (k4:Nat) (s:Bs)=>[(1,.ptr 1 0),(3,.dat (vstr s)),(15,.dat (vlst (List.map yt v1.Products))),(16,.dat (vint (v1.Products.length:Int))),(17,.dat (vint (k4:Int)))]) (fun (k4:Nat) (s:Bs)=>[(1,.box none 29 [.dat (vlst (List.map yt v1.Products)),.dat (vlst (List.map ym v1.Plans))])]) [] H ⟨Z,Z,Z,Z,Z,U⟩ ⟨Z,U⟩ (fun _ _=>Z) ?_ ?_))))))))))
  ·rintro v3 H
   replace H:z5j v1 v3=some r:=H
   unfold z5j at H
   refine zc hN Z (za (ye Z Z) (zf (zi _ Z (fun h=>(lt_t h).elim) (fun h => ?_))))
   refine qk (zf (zc hN Z (za (zj jk Z) (ze (zl jj Z Z) Z (za (yu Zs Z) (za (wz Z Z) (zi _ Z (fun h8 => ?_) (fun h8 => ?_))))))))
   ·refine tE h8 H fun H=>zc hN Z (qe Z (zn ?_))
    cases H
    exact ⟨U,.inl Z,U⟩
   ·refine fE h8 H fun H=>zp (zc hN Z (qe Z (zf (zc hN Z (za (zj jk Z) (ze (zl jj Z Z) Z (za (yu Zs Z) (qd Z (yd (gE H fun h12 H=>ve (fun (k10:Nat) (s:Bs)=>[(1,.ptr 1 0),(3,.dat (vstr s)),(45,.dat (vlst (List.map ym v1.Plans))),(46,.dat (vint (v1.Plans.length:Int))),(47,.dat (vint (k10:Int)))]) (fun (k10:Nat) (s:Bs)=>[(1,.box none 29 [.dat (vlst (List.map yt v1.Products)),.dat (vlst (List.map ym v1.Plans))])]) [] H ⟨Z,Z,Z,Z,Z,U⟩ ⟨Z,U⟩ (fun _ _=>Z) ?_ ?_))))))))))
    ·rintro v9 H
     replace H:y3i v9=some r:=H
     unfold y3i at H
     refine zc hN Z (za (ye Z Z) (zf (zi _ Z (fun h=>(lt_t h).elim) (fun h => ?_))))
     refine qk (zc hN Z (qe Z (zn ?_)))
     cases H
     exact ⟨U,.inl Z,U⟩
    ·rintro k10 x13 v9 q11 h14 h15 H hq11
     replace H:y3g v1 k10 x13 v9=some q11:=H
     unfold y3g at H
     refine zc hN Z (za (ye Z Z) (zf (zi _ Z (fun h => ?_) (fun h=>(lt_f h14 h).elim))))
     refine zp (zf (yd (zc hN Z (za (wq xm (fun _=>Z) Z Z h15) (za (wo vu Z (qg h15) Z) (zd (qf 2 uj Z) Z (zd (yz vu Z Z Z Z) Z (zf (yd (zc hN Z (za (zj ux Z) (ze (zl tyS9 Z Z) Z (bE H fun r16 h17 H=>za (yb (z9d x13.Key r16 h17) ⟨.inl Z,U⟩) (za (ww Z) (qe Z (zi _ Z (fun h18 => ?_) (fun h18 => ?_)))))))))))))))))
     ·refine tE h18 H fun H=>zc hN Z (qe Z (zn ?_))
      replace H:=retl H hq11
      cases H
      exact ⟨U,.inl Z,U⟩
     ·refine fE h18 H fun H=>zc hN Z (za (zj ux Z) (ze (zl tyS9 Z Z) Z (qd Z (za (z3v Z Z) (qe Z (zi _ Z (fun h19 => ?_) (fun h19 => ?_)))))))
      ·refine tE h19 H fun H=>zc hN Z (qe Z (zn ?_))
       replace H:=retl H hq11
       cases H
       exact ⟨U,.inl Z,U⟩
      ·refine fE h19 H fun H=>zp (zc hN Z (za (zj ux Z) (ze (zl tyS9 Z Z) Z (qe Z (zc hN Z (ze (yg ql Z Z Z) Z (ze (yg vu Z Z Z) Z (bE H fun r20 h21 H=>za (yb (w3a v1 x13 r20 h21) ⟨.inl Z,.inl Z,U⟩) (qe Z (zc hN Z (qd Z (za (vn Z Z) (zi _ Z (fun h22 => ?_) (fun h22 => ?_))))))))))))))
       ·refine tE h22 H fun H=>zc hN Z (qd Z (qe Z (zn ?_)))
        replace H:=retl H hq11
        cases H
        exact ⟨U,.inl Z,U⟩
       ·exact fE h22 H fun H=>zp (zq hN Z (za (wa Z Z (by omega)) (qd Z ⟨_,qj H,⟨Z,Z,Z,Z,Z,U⟩,⟨Z,U⟩⟩)))
  ·rintro k4 x7 v3 q5 h23 h24 H hq5
   replace H:y3h k4 x7 v3=some q5:=H
   unfold y3h at H
   refine zc hN Z (za (ye Z Z) (zf (zi _ Z (fun h => ?_) (fun h=>(lt_f h23 h).elim))))
   refine zp (zf (yd (zc hN Z (za (wq z1q (fun _=>Z) Z Z h24) (za (wo Qm Z (qg h24) Z) (zd (qf 3 Qi Z) Z (zd (yz Qm Z Z Z Z) Z (zf (yd (zc hN Z (za (zj Qo Z) (ze (zl tyS9 Z Z) Z (bE H fun r25 h26 H=>za (yb (z9d x7.Key r25 h26) ⟨.inl Z,U⟩) (za (ww Z) (qe Z (zi _ Z (fun h27 => ?_) (fun h27 => ?_)))))))))))))))))
   ·refine tE h27 H fun H=>zc hN Z (qe Z (zn ?_))
    replace H:=retl H hq5
    cases H
    exact ⟨U,.inl Z,U⟩
   ·refine fE h27 H fun H=>zc hN Z (za (zj Qo Z) (ze (zl tyS9 Z Z) Z (qd Z (za (z3v Z Z) (qe Z (zi _ Z (fun h28 => ?_) (fun h28 => ?_)))))))
    ·refine tE h28 H fun H=>zc hN Z (qe Z (zn ?_))
     replace H:=retl H hq5
     cases H
     exact ⟨U,.inl Z,U⟩
    ·refine fE h28 H fun H=>zp (zc hN Z (za (zj Qo Z) (ze (zl tyS9 Z Z) Z (qe Z (zc hN Z (za (zj x0g Z) (ze (zl z6l Z Z) Z (bE H fun r29 h30 H=>za (yb (w3i x7.Scopes r29 h30) ⟨.inl Z,U⟩) (qe Z (zc hN Z (qd Z (za (vn Z Z) (zi _ Z (fun h31 => ?_) (fun h31 => ?_))))))))))))))
     ·refine tE h31 H fun H=>zc hN Z (qd Z (qe Z (zn ?_)))
      replace H:=retl H hq5
      cases H
      exact ⟨U,.inl Z,U⟩
     ·exact fE h31 H fun H=>zp (zq hN Z (za (wa Z Z (by omega)) (qd Z ⟨_,qj H,⟨Z,Z,Z,Z,Z,U⟩,⟨Z,U⟩⟩)))
theorem w3s (l1:(List zy)) (r:(Int)) (H:z8p l1=some r):Fn Tryz.prog 71 [vlst (List.map yk l1)] (yc [vint r]):=by
 refine ⟨by kernel_rfl,yl (us:=[vint r]) Tryz.func71 Z Z Z Z fun X hN => ?_⟩
 unfold z8p at H
 refine zc hN Z (qe Z (zf (zc hN Z (qd Z (za (yu Yq Z) (za (wz Z Z) (zi _ Z (fun h2 => ?_) (fun h2 => ?_))))))))
 ·refine tE h2 H fun H=>zc hN Z (qe Z (zn ?_))
  cases H
  exact ⟨U,.inl Z,U⟩
 ·refine fE h2 H fun H=>zp (zc hN Z (qe Z (zf (zc hN Z (qd Z (za (yu Yq Z) (qd Z (yd (gE H fun h6 H=>ve (fun (k4:Nat) (s:Bs)=>[(3,.dat (vstr s)),(9,.dat (vlst (List.map yk l1))),(10,.dat (vint (l1.length:Int))),(11,.dat (vint (k4:Int)))]) (fun (k4:Nat) (s:Bs)=>[]) [] H ⟨Z,Z,Z,Z,U⟩ U (fun _ _=>Z) ?_ ?_)))))))))
  ·rintro last3 H
   replace H:y3k last3=some r:=H
   unfold y3k at H
   refine zc hN Z (za (ye Z Z) (zf (zi _ Z (fun h=>(lt_t h).elim) (fun h => ?_))))
   refine qk (zc hN Z (qe Z (zn ?_)))
   cases H
   exact ⟨U,.inl Z,U⟩
  ·rintro k4 x7 last3 q5 h8 h9 H hq5
   replace H:y3j k4 x7 last3=some q5:=H
   unfold y3j at H
   refine zc hN Z (za (ye Z Z) (zf (zi _ Z (fun h => ?_) (fun h=>(lt_f h8 h).elim))))
   refine zp (zf (yd (zc hN Z (za (wq Zy (fun _=>Z) Z Z h9) (za (wo Zt Z (qg h9) Z) (zd (qf 1 Wu Z) Z (zd (yz Zt Z Z Z Z) Z (zf (yd (yw (ι:=Bool) (fun i=>[(3,.dat (vstr last3)),(5,.ptr 1 0),(9,.dat (vlst (List.map yk l1))),(10,.dat (vint (l1.length:Int))),(11,.dat (vint (k4:Int))),(15,.dat (zr i))]) (fun i=>[(1,.box none 94 [.dat (vstr x7.Key),.dat (vstr x7.Owner)])]) (fun i=>z5k last3 x7 i=some q5) (fun i=>Z) ?_ ?_))))))))))
   ·skip
    refine zq hN Z (za (zj Zv Z) (ze (zl tyS9 Z Z) Z (bE H fun r10 h11 H=>za (yb (z9d x7.Key r10 h11) ⟨.inl Z,U⟩) (za (ww Z) (qd Z (qv (j:=4) Z Z (fun h12 => ?_) (fun h12 => ?_) Z))))))
    ·exact u3 h12 H fun h13 H=>zo Z Z h12 (zj Qn Z) (wc Z Z h12 (zl tyS9 Z Z) Z (bE H fun r14 h15 H=>zo Z Z h12 (yb (z9d x7.Owner r14 h15) ⟨.inl Z,U⟩) (zo Z Z h12 (ww Z) (za (yq Z (bFF h13) Z) (qe Z ⟨!r14,H,⟨Z,Z,Z,Z,Z,Z,U⟩,⟨Z,U⟩⟩)))))
    ·exact u4 h12 H fun h16 H=>zh Z Z h12 (zh Z Z h12 (zh Z Z h12 (zh Z Z h12 (za (qt Z (bTT h16) Z) (qe Z ⟨true,H,⟨Z,Z,Z,Z,Z,Z,U⟩,⟨Z,U⟩⟩)))))
   ·rintro v17 H
    replace H:z5k last3 x7 v17=some q5:=H
    unfold z5k at H
    refine zi _ Z (fun h18 => ?_) (fun h18 => ?_)
    ·refine tE h18 H fun H=>zc hN Z (qe Z (zn ?_))
     replace H:=retl H hq5
     cases H
     exact ⟨U,.inl Z,U⟩
    ·refine fE h18 H fun H=>zc hN Z (za (zj Zv Z) (ze (zl tyS9 Z Z) Z (qd Z (za (z3v Z Z) (qe Z (zi _ Z (fun h19 => ?_) (fun h19 => ?_)))))))
     ·refine tE h19 H fun H=>zc hN Z (qe Z (zn ?_))
      replace H:=retl H hq5
      cases H
      exact ⟨U,.inl Z,U⟩
     ·exact fE h19 H fun H=>zp (zq hN Z (za (zj Zv Z) (ze (zl tyS9 Z Z) Z (qe Z (zq hN Z (za (wa Z Z (by omega)) (qd Z ⟨_,qj H,⟨Z,Z,Z,Z,U⟩,U⟩)))))))
theorem x3p (c1:zx) (apps2:(List zy)) (r:(Int)) (H:z4s c1 apps2=some r):Fn Tryz.prog 31 [vagg (yy c1),vlst (List.map yk apps2)] (yc [vint r]):=by
 refine ⟨by kernel_rfl,yl (us:=[vint r]) Tryz.func31 Z Z Z Z fun X hN => ?_⟩
 unfold z4s at H
 refine zc hN Z (zd (qr 1 Z) Z (qe Z (zf (zc hN Z (ze (yg ql Z Z Z) Z (bE H fun r3 h4 H=>za (yb (x3s c1 r3 h4) ⟨.inl Z,U⟩) (qe Z (zc hN Z (qd Z (za (vn Z Z) (zi _ Z (fun h5 => ?_) (fun h5 => ?_))))))))))))
 ·refine tE h5 H fun H=>zc hN Z (qd Z (qe Z (zn ?_)))
  cases H
  exact ⟨U,.inl Z,U⟩
 ·refine fE h5 H fun H=>zp (zc hN Z (qd Z (bE H fun r6 h7 H=>za (yb (w3s apps2 r6 h7) ⟨.inl Z,U⟩) (qe Z (zn ?_)))))
  cases H
  exact ⟨U,.inl Z,U⟩
theorem w18 (s1:(List zy)) (p1:zy→Option (Bool)) (fv1:Nat) (us1:List V) (hp1:∀ a0 r,p1 a0=some r→Fn Tryz.prog fv1 ([vagg (yk a0)]++us1) (yc [zr r])) (r:(Int)) (H:y2l s1 p1=some r):Fn Tryz.prog 72 [vlst (List.map yk s1),vfn fv1 us1] (yc [vint r]):=by
 refine ⟨by kernel_rfl,yl (us:=[vint r]) Tryz.func72 Z Z Z Z fun X hN => ?_⟩
 unfold y2l at H
 refine zc hN Z (qe Z (zf (zc hN Z (qd Z (za (yu Yq Z) (qd Z (yd (gE H fun h4 H=>ve (fun (k2:Nat) (s:Unit)=>[(0,.dat (vlst (List.map yk s1))),(1,.dat (vfn fv1 us1)),(7,.dat (vint (s1.length:Int))),(8,.dat (vint (k2:Int)))]) (fun (k2:Nat) (s:Unit)=>[]) () H ⟨Z,Z,Z,Z,U⟩ U (fun _ _=>Z) ?_ ?_))))))))
 ·rintro ⟨⟩ H
  replace H:y51=some r:=H
  unfold y51 at H
  refine zc hN Z (za (ye Z Z) (zf (zi _ Z (fun h=>(lt_t h).elim) (fun h => ?_))))
  refine qk (zc hN Z (qe Z (zn ?_)))
  cases H
  exact ⟨U,.inl Z,U⟩
 ·rintro k2 x5 ⟨⟩ q3 h6 h7 H hq3
  replace H:y50 p1 k2 x5=some q3:=H
  unfold y50 at H
  refine zc hN Z (za (ye Z Z) (zf (zi _ Z (fun h => ?_) (fun h=>(lt_f h6 h).elim))))
  refine zp (zf (yd (zc hN Z (qd Z (qe Z (zc hN Z (qd Z (qd Z (qd Z (za (wq Zy (fun _=>Z) Z Z h7) (za (wo Zt Z (qg h7) Z) (bE H fun r8 h9 H=>za (ua (hp1 x5 r8 h9) Z ⟨.inl Z,U⟩) (zi _ Z (fun h10 => ?_) (fun h10 => ?_))))))))))))))
  ·refine tE h10 H fun H=>zc hN Z (qd Z (qe Z (zn ?_)))
   replace H:=retl H hq3
   cases H
   exact ⟨U,.inl Z,U⟩
  ·exact fE h10 H fun H=>zp (zq hN Z (za (wa Z Z (by omega)) (qd Z ⟨_,qj H,⟨Z,Z,Z,Z,U⟩,U⟩)))
theorem w3t (a1:zy) (c2:Bs) (r:(Bool)) (H:z4y a1 c2=some r):Fn Tryz.prog 73 [vagg (yk a1),qw [[vstr c2]] 0 0] (yc [zr r]):=by
 refine ⟨by kernel_rfl,yl (us:=[zr r]) Tryz.func73 Z Z Z Z fun X hN => ?_⟩
 unfold z4y at H
 refine zc hN Z (zd (qr 1 Z) Z (qe Z (zc hN Z (za (zj Zv Z) (ze (zl tyS9 Z Z) Z (za (wy tyS9 Z Z Z) (za (Yt Z Z) (qe Z (zn ?_)))))))))
 cases H
 exact ⟨U,.inl Z,U⟩
theorem x3t (l1:(List zy)) (key2:Bs) (r:(Int)) (H:z4z l1 key2=some r):Fn Tryz.prog 32 [vlst (List.map yk l1),vstr key2] (yc [vint r]):=by
 refine ⟨by kernel_rfl,yl (us:=[vint r]) Tryz.func32 Z Z Z Z fun X hN => ?_⟩
 unfold z4z at H
 refine zc hN Z (zd (Yu 1 Z Z) Z (qe Z (zf (z1c 1 [vstr key2] Z Z (zq hN Z (qd Z (za (z0j (us:=[_]) ⟨Z,U⟩) (bE H fun r3 h4 H=>za (yb (w18 l1 (fun (a0:zy)=>z4y a0 key2) 73 [qw [[vstr key2]] 0 0] (fun a0 r h=>w3t a0 key2 r h) r3 h4) ⟨.inl Z,.inl Z,U⟩) (qe Z (zn ?_))))))))))
 cases H
 exact ⟨U,.inl Z,U⟩
theorem x3n (n1:Int) (r:(Int)) (H:z4o n1=some r):Fn Tryz.prog 76 [vint n1] (yc [vint r]):=by
 refine ⟨by kernel_rfl,yl (us:=[vint r]) Tryz.func76 Z Z Z Z fun X hN => ?_⟩
 unfold z4o at H
 refine zc hN Z (qe Z (zf (yd (zc hN Z (qd Z (za (ye Z Z) (qe Z (zi _ Z (fun h2 => ?_) (fun h2 => ?_)))))))))
 ·refine tE h2 H fun H=>zc hN Z (qe Z (zn ?_))
  cases H
  exact ⟨U,.inl Z,U⟩
 ·refine fE h2 H fun H=>zc hN Z (qd Z (za (wz Z Z) (qe Z (zi _ Z (fun h3 => ?_) (fun h3 => ?_)))))
  ·refine tE h3 H fun H=>zc hN Z (qe Z (zn ?_))
   cases H
   exact ⟨U,.inl Z,U⟩
  ·refine fE h3 H fun H=>zp (zc hN Z (qe Z (zn ?_)))
   cases H
   exact ⟨U,.inl Z,U⟩
theorem x3w (x1:Bs) (r:(Bool)) (H:z82 x1=some r):Fn Tryz.prog 150 [vstr x1] (yc [zr r]):=by
 refine ⟨by kernel_rfl,yl (us:=[zr r]) Tryz.func150 Z Z Z Z fun X hN => ?_⟩
 unfold z82 at H
 refine zc hN Z (qe Z (zc hN Z (qd Z (qd Z (za (Yd Z Z) (qe Z (zn ?_)))))))
 cases H
 exact ⟨U,.inl Z,U⟩
theorem w38 (x1:Bs) (y2:Bs) (r:(Int)) (H:z84 x1 y2=some r):Fn Tryz.prog 113 [vstr x1,vstr y2] (yc [vint r]):=by
 refine ⟨by kernel_rfl,yl (us:=[vint r]) Tryz.func113 Z Z Z Z fun X hN => ?_⟩
 unfold z84 at H
 refine zc hN Z (qe Z (zc hN Z (qd Z (bE H fun r3 h4 H=>za (yb (x3w x1 r3 h4) ⟨.inl Z,U⟩) (qe Z (zc hN Z (qd Z (bE H fun r5 h6 H=>za (yb (x3w y2 r5 h6) ⟨.inl Z,U⟩) (qe Z (zf (zc hN Z (qd Z (zi _ Z (fun h7 => ?_) (fun h7 => ?_))))))))))))))
 ·refine tE h7 H fun H=>zf (zc hN Z (qd Z (zi _ Z (fun h8 => ?_) (fun h8 => ?_))))
  ·refine tE h8 H fun H=>zc hN Z (qe Z (zn ?_))
   cases H
   exact ⟨U,.inl Z,U⟩
  ·refine fE h8 H fun H=>zp (zc hN Z (qe Z (zn ?_)))
   cases H
   exact ⟨U,.inl Z,U⟩
 ·refine fE h7 H fun H=>zp (zf (zc hN Z (qd Z (zi _ Z (fun h9 => ?_) (fun h9 => ?_)))))
  ·refine tE h9 H fun H=>zc hN Z (qe Z (zn ?_))
   cases H
   exact ⟨U,.inl Z,U⟩
  ·refine fE h9 H fun H=>zp (zf (zc hN Z (qd Z (qd Z (za (x7t Z Z) (zi _ Z (fun h10 => ?_) (fun h10 => ?_)))))))
   ·refine tE h10 H fun H=>zc hN Z (qe Z (zn ?_))
    cases H
    exact ⟨U,.inl Z,U⟩
   ·refine fE h10 H fun H=>zp (zf (zc hN Z (qd Z (qd Z (za (x7v Z Z) (zi _ Z (fun h11 => ?_) (fun h11 => ?_)))))))
    ·refine tE h11 H fun H=>zc hN Z (qe Z (zn ?_))
     cases H
     exact ⟨U,.inl Z,U⟩
    ·refine fE h11 H fun H=>zp (zc hN Z (qe Z (zn ?_)))
     cases H
     exact ⟨U,.inl Z,U⟩
theorem x3i (s1:(List Bs)) (s2:(List Bs)) (r:(Int)) (H:z2b s1 s2=some r):Fn Tryz.prog 77 [vlst (List.map yr s1),vlst (List.map yr s2)] (yc [vint r]):=by
 refine ⟨by kernel_rfl,yl (us:=[vint r]) Tryz.func77 Z Z Z Z fun X hN => ?_⟩
 unfold z2b at H
 refine zc hN Z (qe Z (zf (zc hN Z (qd Z (za (yu js Z) (qd Z (yd (gE H fun h5 H=>ve (fun (k3:Nat) (s:Unit)=>[(0,.dat (vlst (List.map yr s1))),(1,.dat (vlst (List.map yr s2))),(9,.dat (vlst (List.map yr s1))),(10,.dat (vint (s1.length:Int))),(11,.dat (vint (k3:Int)))]) (fun (k3:Nat) (s:Unit)=>[]) () H ⟨Z,Z,Z,Z,Z,U⟩ U (fun _ _=>Z) ?_ ?_))))))))
 ·rintro ⟨⟩ H
  replace H:y1e s1 s2=some r:=H
  unfold y1e at H
  refine zc hN Z (za (ye Z Z) (zf (zi _ Z (fun h=>(lt_t h).elim) (fun h => ?_))))
  refine qk (zf (zc hN Z (qd Z (za (yu js Z) (qd Z (za (yu js Z) (za (ye Z Z) (zi _ Z (fun h7 => ?_) (fun h7 => ?_)))))))))
  ·refine tE h7 H fun H=>zc hN Z (qe Z (zn ?_))
   cases H
   exact ⟨U,.inl Z,U⟩
  ·refine fE h7 H fun H=>zp (zc hN Z (qe Z (zn ?_)))
   cases H
   exact ⟨U,.inl Z,U⟩
 ·rintro k3 x6 ⟨⟩ q4 h8 h9 H hq4
  replace H:y1d s2 k3 x6=some q4:=H
  unfold y1d at H
  refine zc hN Z (za (ye Z Z) (zf (zi _ Z (fun h => ?_) (fun h=>(lt_f h8 h).elim))))
  refine zp (zf (yd (zc hN Z (qd Z (za (wq Zg (fun _=>Z) Z Z h9) (za (wy tyS9 Z (qg h9) Z) (qe Z (qe Z (zf (zc hN Z (qd Z (qd Z (za (yu js Z) (za (jn Z Z) (zi _ Z (fun h10 => ?_) (fun h10 => ?_))))))))))))))))
  ·refine tE h10 H fun H=>zc hN Z (qe Z (zn ?_))
   replace H:=retl H hq4
   cases H
   exact ⟨U,.inl Z,U⟩
  ·refine fE h10 H fun H=>zp (zc hN Z (qd Z (qd Z (bE H fun x11 h12 H=>za (wq Zg (fun _=>Z) Z Z h12) (za (wy tyS9 Z (qg h12) Z) (qe Z (zc hN Z (qd Z (qd Z (bE H fun r13 h14 H=>za (yb (w38 x6 x11 r13 h14) ⟨.inl Z,.inl Z,U⟩) (qe Z (zc hN Z (qd Z (za (vn Z Z) (zi _ Z (fun h15 => ?_) (fun h15 => ?_))))))))))))))))
   ·refine tE h15 H fun H=>zc hN Z (qd Z (qe Z (zn ?_)))
    replace H:=retl H hq4
    cases H
    exact ⟨U,.inl Z,U⟩
   ·exact fE h15 H fun H=>zp (zq hN Z (za (wa Z Z (by omega)) (qd Z ⟨_,qj H,⟨Z,Z,Z,Z,Z,U⟩,U⟩)))
theorem w3g (a1:zz) (b2:zz) (r:(Int)) (H:y2x a1 b2=some r):Fn Tryz.prog 35 [vagg (wn a1),vagg (wn b2)] (yc [vint r]):=by
 refine ⟨by kernel_rfl,yl (us:=[vint r]) Tryz.func35 Z Z Z Z fun X hN => ?_⟩
 unfold y2x at H
 refine zc hN Z (zd (qr 1 Z) Z (zd (qr 2 Z) Z (qe Z (zf (zc hN Z (za (zj Zw Z) (ze (zl tyS3 Z Z) Z (za (zj Zw Z) (ze (zl tyS3 Z Z) Z (za (vn Z Z) (zi _ Z (fun h3 => ?_) (fun h3 => ?_))))))))))))
 ·refine tE h3 H fun H=>zc hN Z (za (zj Zw Z) (ze (zl tyS3 Z Z) Z (za (zj Zw Z) (ze (zl tyS3 Z Z) Z (za (yj _ Z Z (.inr (.inl ⟨Z,Z⟩))) (bE H fun r4 h5 H=>za (yb (x3n (wr (a1.Month - b2.Month)) r4 h5) ⟨.inl Z,U⟩) (qe Z (zn ?_))))))))
  cases H
  exact ⟨U,.inl Z,U⟩
 ·refine fE h3 H fun H=>zp (zc hN Z (za (zj Yr Z) (ze (zl tyS9 Z Z) Z (za (zj z0d Z) (ze (zl tyS9 Z Z) Z (za (yf (u':=vlst (List.map yr [a1.App,a1.Product])) (qa [[_],[_]] vh ⟨Z,.inl ⟨_,Z,Z,Z⟩,Z,Z,.inl ⟨_,Z,Z,Z⟩,Z,U⟩ Z Z) Z) (za (zj Yr Z) (ze (zl tyS9 Z Z) Z (za (zj z0d Z) (ze (zl tyS9 Z Z) Z (za (yf (u':=vlst (List.map yr [b2.App,b2.Product])) (qa [[_],[_]] vh ⟨Z,.inl ⟨_,Z,Z,Z⟩,Z,Z,.inl ⟨_,Z,Z,Z⟩,Z,U⟩ Z Z) Z) (bE H fun r6 h7 H=>za (yb (x3i [a1.App,a1.Product] [b2.App,b2.Product] r6 h7) ⟨.inl Z,.inl Z,U⟩) (qe Z (zn ?_))))))))))))))
  cases H
  exact ⟨U,.inl Z,U⟩
theorem w3f (c1:zx) (apps2:(List zy)) (l3:(List zz)) (r:(Int)) (H:z8i c1 apps2 l3=some r):Fn Tryz.prog 11 [vagg (yy c1),vlst (List.map yk apps2),vlst (List.map wn l3)] (yc [vint r]):=by
 refine ⟨by kernel_rfl,yl (us:=[vint r]) Tryz.func11 Z Z Z Z fun X hN => ?_⟩
 unfold z8i at H
 refine zc hN Z (zd (qr 1 Z) Z (qe Z (zf (zc hN Z (ze (yg ql Z Z Z) Z (qd Z (bE H fun r4 h5 H=>za (yb (x3p c1 apps2 r4 h5) ⟨.inl Z,.inl Z,U⟩) (qe Z (zc hN Z (qd Z (za (vn Z Z) (zi _ Z (fun h6 => ?_) (fun h6 => ?_)))))))))))))
 ·refine tE h6 H fun H=>zc hN Z (qd Z (qe Z (zn ?_)))
  cases H
  exact ⟨U,.inl Z,U⟩
 ·refine fE h6 H fun H=>zp (zf (zc hN Z (qd Z (za (yu Wy Z) (za (wz Z Z) (zi _ Z (fun h7 => ?_) (fun h7 => ?_)))))))
  ·refine tE h7 H fun H=>zc hN Z (qe Z (zn ?_))
   cases H
   exact ⟨U,.inl Z,U⟩
  ·refine fE h7 H fun H=>zp (zf (zc hN Z (qd Z (za (yu Wy Z) (qd Z (yd (gE H fun h10 H=>ve (fun (k8:Nat) (s:Unit)=>[(1,.dat (vlst (List.map yk apps2))),(2,.dat (vlst (List.map wn l3))),(3,.ptr 1 0),(19,.dat (vlst (List.map wn l3))),(20,.dat (vint (l3.length:Int))),(21,.dat (vint (k8:Int)))]) (fun (k8:Nat) (s:Unit)=>[(1,.box none 29 [.dat (vlst (List.map yt c1.Products)),.dat (vlst (List.map ym c1.Plans))])]) () H ⟨Z,Z,Z,Z,Z,Z,U⟩ ⟨Z,U⟩ (fun _ _=>Z) ?_ ?_)))))))
   ·rintro ⟨⟩ H
    replace H:y70=some r:=H
    unfold y70 at H
    refine zc hN Z (za (ye Z Z) (zf (zi _ Z (fun h=>(lt_t h).elim) (fun h => ?_))))
    refine qk (zc hN Z (qe Z (zn ?_)))
    cases H
    exact ⟨U,.inl Z,U⟩
   ·rintro k8 x11 ⟨⟩ q9 h12 h13 H hq9
    replace H:z9l c1 apps2 l3 k8 x11=some q9:=H
    unfold z9l at H
    refine zc hN Z (za (ye Z Z) (zf (zi _ Z (fun h => ?_) (fun h=>(lt_f h12 h).elim))))
    refine zp (zf (yd (zc hN Z (qd Z (za (wq z1p (fun _=>Z) Z Z h13) (za (wo Zd Z (qg h13) Z) (zd (qf 2 z1i Z) Z (qe Z (zd (yz Zd Z Z Z Z) Z (yd (yw (ι:=Bool) (fun i=>[(1,.dat (vlst (List.map yk apps2))),(2,.dat (vlst (List.map wn l3))),(3,.ptr 1 0),(8,.dat (vint (k8:Int))),(9,.ptr 2 0),(19,.dat (vlst (List.map wn l3))),(20,.dat (vint (l3.length:Int))),(21,.dat (vint (k8:Int))),(26,.dat (zr i))]) (fun i=>[(1,.box none 29 [.dat (vlst (List.map yt c1.Products)),.dat (vlst (List.map ym c1.Plans))]),(2,.box none 64 [.dat (vstr x11.App),.dat (vstr x11.Product),.dat (vint x11.Month),.dat (vint x11.Calls)])]) (fun i=>z5e l3 k8 x11 i=some q9) (fun i=>Z) ?_ ?_)))))))))))
    ·skip
     refine zq hN Z (qd Z (za (zj Yr Z) (ze (zl tyS9 Z Z) Z (bE H fun r14 h15 H=>za (yb (x3t apps2 x11.App r14 h15) ⟨.inl Z,.inl Z,U⟩) (za (ye Z Z) (qd Z (qv (j:=5) Z Z (fun h16 => ?_) (fun h16 => ?_) Z)))))))
     ·exact u3 h16 H fun h17 H=>wc Z Z h16 (yg ql Z Z Z) Z (zo Z Z h16 (zj z0d Z) (wc Z Z h16 (zl tyS9 Z Z) Z (bE H fun r18 h19 H=>zo Z Z h16 (yb (y7s c1 x11.Product r18 h19) ⟨.inl Z,.inl Z,U⟩) (zo Z Z h16 (ye Z Z) (za (yq Z (bFF h17) Z) (qe Z ⟨decide (r18 < 0),H,⟨Z,Z,Z,Z,Z,Z,Z,Z,Z,U⟩,⟨Z,Z,U⟩⟩))))))
     ·exact u4 h16 H fun h20 H=>zh Z Z h16 (zh Z Z h16 (zh Z Z h16 (zh Z Z h16 (zh Z Z h16 (za (qt Z (bTT h20) Z) (qe Z ⟨true,H,⟨Z,Z,Z,Z,Z,Z,Z,Z,Z,U⟩,⟨Z,Z,U⟩⟩))))))
    ·rintro v21 H
     replace H:z5e l3 k8 x11 v21=some q9:=H
     unfold z5e at H
     refine zi _ Z (fun h22 => ?_) (fun h22 => ?_)
     ·refine tE h22 H fun H=>zc hN Z (qe Z (zn ?_))
      replace H:=retl H hq9
      cases H
      exact ⟨U,.inl Z,U⟩
     ·refine fE h22 H fun H=>yw (ι:=Bool) (fun i=>[(1,.dat (vlst (List.map yk apps2))),(2,.dat (vlst (List.map wn l3))),(3,.ptr 1 0),(8,.dat (vint (k8:Int))),(9,.ptr 2 0),(19,.dat (vlst (List.map wn l3))),(20,.dat (vint (l3.length:Int))),(21,.dat (vint (k8:Int))),(39,.dat (zr i))]) (fun i=>[(1,.box none 29 [.dat (vlst (List.map yt c1.Products)),.dat (vlst (List.map ym c1.Plans))]),(2,.box none 64 [.dat (vstr x11.App),.dat (vstr x11.Product),.dat (vint x11.Month),.dat (vint x11.Calls)])]) (fun i=>z2w l3 k8 x11 i=some q9) (fun i=>Z) ?_ ?_
      ·skip
       refine zq hN Z (za (zj Zw Z) (ze (zl tyS3 Z Z) Z (bE H fun r23 h24 H=>za (yb (Zp x11.Month 0 132 r23 h24) ⟨.inl Z,.inl Z,.inl Z,U⟩) (za (ww Z) (qd Z (qv (j:=4) Z Z (fun h25 => ?_) (fun h25 => ?_) Z))))))
       ·exact u3 h25 H fun h26 H=>zo Z Z h25 (zj z6r Z) (wc Z Z h25 (zl tyS3 Z Z) Z (bE H fun r27 h28 H=>zo Z Z h25 (yb (Zp x11.Calls 0 1000000000000 r27 h28) ⟨.inl Z,.inl Z,.inl Z,U⟩) (zo Z Z h25 (ww Z) (za (yq Z (bFF h26) Z) (qe Z ⟨!r27,H,⟨Z,Z,Z,Z,Z,Z,Z,Z,Z,U⟩,⟨Z,Z,U⟩⟩)))))
       ·exact u4 h25 H fun h29 H=>zh Z Z h25 (zh Z Z h25 (zh Z Z h25 (zh Z Z h25 (za (qt Z (bTT h29) Z) (qe Z ⟨true,H,⟨Z,Z,Z,Z,Z,Z,Z,Z,Z,U⟩,⟨Z,Z,U⟩⟩)))))
      ·rintro v30 H
       replace H:z2w l3 k8 x11 v30=some q9:=H
       unfold z2w at H
       refine zi _ Z (fun h31 => ?_) (fun h31 => ?_)
       ·refine tE h31 H fun H=>zc hN Z (qe Z (zn ?_))
        replace H:=retl H hq9
        cases H
        exact ⟨U,.inl Z,U⟩
       ·refine fE h31 H fun H=>yw (ι:=Bool) (fun i=>[(1,.dat (vlst (List.map yk apps2))),(2,.dat (vlst (List.map wn l3))),(3,.ptr 1 0),(19,.dat (vlst (List.map wn l3))),(20,.dat (vint (l3.length:Int))),(21,.dat (vint (k8:Int))),(50,.dat (zr i))]) (fun i=>[(1,.box none 29 [.dat (vlst (List.map yt c1.Products)),.dat (vlst (List.map ym c1.Plans))])]) (fun i=>z5d i=some q9) (fun i=>Z) ?_ ?_
        ·skip
         refine wl mixed hN Z Z (qd Z (za (wz Z Z) (qd Z (qv (j:=2) Z Z (fun h32 => ?_) (fun h32 => ?_) Z))))
         ·refine u1 h32 H fun h33 H=>zo Z Z h32 (zg (.dat _) Z) (zo Z Z h32 (zg (.dat _) Z) (zo Z Z h32 (Yb Z Z (by omega)) (bE H fun x34 h35 H=>zo Z Z h32 (ja z1p (fun _=>Z) Z Z h35) (zo Z Z h32 (wo Zd Z (qg (qi h35).2) Z) (wc Z Z h32 (yg Zd Z Z Z) Z (bE H fun r36 h37 H=>zo Z Z h32 (yb (w3g x34 x11 r36 h37) ⟨.inl Z,.inl Z,U⟩) (zo Z Z h32 (jn Z Z) (za (qt Z (bTT h33) Z) (qe Z ⟨Z,?_⟩)))))))))
          exact ⟨decide (0≤r36),H,⟨Z,Z,Z,Z,Z,Z,Z,U⟩,⟨Z,U⟩⟩
         ·refine u2 h32 H fun h38 H=>zh Z Z h32 (zh Z Z h32 (zh Z Z h32 (zh Z Z h32 (zh Z Z h32 (zh Z Z h32 (zh Z Z h32 (zh Z Z h32 (za (yq Z (bFF h38) Z) (qe Z ⟨Z,?_⟩)))))))))
          exact ⟨false,H,⟨Z,Z,Z,Z,Z,Z,Z,U⟩,⟨Z,U⟩⟩
        ·rintro v39 H
         replace H:z5d v39=some q9:=H
         unfold z5d at H
         refine zi _ Z (fun h40 => ?_) (fun h40 => ?_)
         ·refine tE h40 H fun H=>zc hN Z (qe Z (zn ?_))
          replace H:=retl H hq9
          cases H
          exact ⟨U,.inl Z,U⟩
         ·exact fE h40 H fun H=>zp (zq hN Z (za (wa Z Z (by omega)) (qd Z ⟨_,qj H,⟨Z,Z,Z,Z,Z,Z,U⟩,⟨Z,U⟩⟩)))
theorem w27 (x1:Int) (r:(Int)) (H:y7f x1=some r):Fn Tryz.prog 130 [vval (.int .u32 x1)] (yc [vint r]):=by
 refine ⟨by kernel_rfl,yl (us:=[vint r]) Tryz.func130 Z Z Z Z fun X hN => ?_⟩
 unfold y7f at H
 refine zc hN Z (qe Z (yw (ι:=Int×Int) (fun i=>[(0,.dat (vval (.int .u32 i.1))),(2,.dat (vint i.2))]) (fun i=>[]) (fun i=>z7s i.1 i.2=some r) (fun i=>Z) ?_ ?_))
 ·skip
  refine zc hN Z (qd Z (za (jn Z Z) (zi _ Z (fun h2 => ?_) (fun h2 => ?_))))
  ·exact tE h2 H fun H=>zc hN Z (qd Z (za (yf (z0i Z Z (by decide)) Z) (qe Z (zq hN Z (qe Z ⟨((shr_ .u32 x1 16),16),H,⟨Z,Z,U⟩,U⟩)))))
  ·exact fE h2 H fun H=>zp ⟨(x1,0),H,⟨Z,Z,U⟩,U⟩
 ·rintro ⟨x3,n4⟩ H
  replace H:z7s x3 n4=some r:=H
  unfold z7s at H
  refine yw (ι:=Int×Int) (fun i=>[(0,.dat (vval (.int .u32 i.1))),(2,.dat (vint i.2))]) (fun i=>[]) (fun i=>z7r i.1 i.2=some r) (fun i=>Z) ?_ ?_
  ·skip
   refine zc hN Z (qd Z (za (jn Z Z) (zi _ Z (fun h5 => ?_) (fun h5 => ?_))))
   ·exact tE h5 H fun H=>zc hN Z (qd Z (za (yf (z0i Z Z (by decide)) Z) (qe Z (zq hN Z (qd Z (za (yj _ Z Z (.inl ⟨Z,Z⟩)) (qe Z ⟨((shr_ .u32 x3 8),wr (n4+8)),H,⟨Z,Z,U⟩,U⟩)))))))
   ·exact fE h5 H fun H=>zp ⟨(x3,n4),H,⟨Z,Z,U⟩,U⟩
  ·rintro ⟨x6,n7⟩ H
   replace H:z7r x6 n7=some r:=H
   unfold z7r at H
   refine zc hN Z (qd Z (qd Z (za (xp y99 tyU5 Z) (bE H fun x8 h9 H=>za (x0t tyU9 Z Z h9) (za (xp tyU5 tyU3 Z) (za (yj _ Z Z (.inl ⟨Z,Z⟩)) (qe Z (zn ?_))))))))
   cases H
   exact ⟨U,.inl Z,U⟩
theorem w26 (x1:Int) (r:(Int)) (H:y7e x1=some r):Fn Tryz.prog 131 [vval (.int .u64 x1)] (yc [vint r]):=by
 refine ⟨by kernel_rfl,yl (us:=[vint r]) Tryz.func131 Z Z Z Z fun X hN => ?_⟩
 unfold y7e at H
 refine zc hN Z (qe Z (yw (ι:=Int×Int) (fun i=>[(0,.dat (vval (.int .u64 i.1))),(2,.dat (vint i.2))]) (fun i=>[]) (fun i=>z7q i.1 i.2=some r) (fun i=>Z) ?_ ?_))
 ·skip
  refine zc hN Z (qd Z (za (jn Z Z) (zi _ Z (fun h2 => ?_) (fun h2 => ?_))))
  ·exact tE h2 H fun H=>zc hN Z (qd Z (za (yf (z0i Z Z (by decide)) Z) (qe Z (zq hN Z (qe Z ⟨((shr_ .u64 x1 32),32),H,⟨Z,Z,U⟩,U⟩)))))
  ·exact fE h2 H fun H=>zp ⟨(x1,0),H,⟨Z,Z,U⟩,U⟩
 ·rintro ⟨x3,n4⟩ H
  replace H:z7q x3 n4=some r:=H
  unfold z7q at H
  refine yw (ι:=Int×Int) (fun i=>[(0,.dat (vval (.int .u64 i.1))),(2,.dat (vint i.2))]) (fun i=>[]) (fun i=>z7p i.1 i.2=some r) (fun i=>Z) ?_ ?_
  ·skip
   refine zc hN Z (qd Z (za (jn Z Z) (zi _ Z (fun h5 => ?_) (fun h5 => ?_))))
   ·exact tE h5 H fun H=>zc hN Z (qd Z (za (yf (z0i Z Z (by decide)) Z) (qe Z (zq hN Z (qd Z (za (yj _ Z Z (.inl ⟨Z,Z⟩)) (qe Z ⟨((shr_ .u64 x3 16),wr (n4+16)),H,⟨Z,Z,U⟩,U⟩)))))))
   ·exact fE h5 H fun H=>zp ⟨(x3,n4),H,⟨Z,Z,U⟩,U⟩
  ·rintro ⟨x6,n7⟩ H
   replace H:z7p x6 n7=some r:=H
   unfold z7p at H
   refine yw (ι:=Int×Int) (fun i=>[(0,.dat (vval (.int .u64 i.1))),(2,.dat (vint i.2))]) (fun i=>[]) (fun i=>z7o i.1 i.2=some r) (fun i=>Z) ?_ ?_
   ·skip
    refine zc hN Z (qd Z (za (jn Z Z) (zi _ Z (fun h8 => ?_) (fun h8 => ?_))))
    ·exact tE h8 H fun H=>zc hN Z (qd Z (za (yf (z0i Z Z (by decide)) Z) (qe Z (zq hN Z (qd Z (za (yj _ Z Z (.inl ⟨Z,Z⟩)) (qe Z ⟨((shr_ .u64 x6 8),wr (n7+8)),H,⟨Z,Z,U⟩,U⟩)))))))
    ·exact fE h8 H fun H=>zp ⟨(x6,n7),H,⟨Z,Z,U⟩,U⟩
   ·rintro ⟨x9,n10⟩ H
    replace H:z7o x9 n10=some r:=H
    unfold z7o at H
    refine zc hN Z (qd Z (qd Z (za (xp x6q tyU5 Z) (bE H fun x11 h12 H=>za (x0t tyU9 Z Z h12) (za (xp tyU5 tyU3 Z) (za (yj _ Z Z (.inl ⟨Z,Z⟩)) (qe Z (zn ?_))))))))
    cases H
    exact ⟨U,.inl Z,U⟩
theorem x3m (x1:Int) (r:(Int)) (H:z4n x1=some r):Fn Tryz.prog 85 [vval (.int .u64 x1)] (yc [vint r]):=by
 refine ⟨by kernel_rfl,yl (us:=[vint r]) Tryz.func85 Z Z Z Z fun X hN => ?_⟩
 unfold z4n at H
 refine zc hN Z (qe Z (zf (zi _ Z (fun h2 => ?_) (fun h2 => ?_))))
 ·refine tE h2 H fun H=>zc hN Z (qd Z (za (xp Ql y99 Z) (bE H fun r3 h4 H=>za (yb (w27 (IntKind.wrap .u32 x1) r3 h4) ⟨.inl Z,U⟩) (qe Z (zn ?_)))))
  cases H
  exact ⟨U,.inl Z,U⟩
 ·refine fE h2 H fun H=>zp (zc hN Z (qd Z (bE H fun r5 h6 H=>za (yb (w26 x1 r5 h6) ⟨.inl Z,U⟩) (qe Z (zn ?_)))))
  cases H
  exact ⟨U,.inl Z,U⟩
theorem w1l (data1:(List zu)) (a2:Int) (b3:Int) (p3:zu→zu→Option (Int)) (fv3:Nat) (us3:List V) (hp3:∀ a0 a1 r,p3 a0 a1=some r→Fn Tryz.prog fv3 ([vagg (we a0),vagg (we a1)]++us3) (yc [vint r])) (r:((List zu))) (H:y69 data1 a2 b3 p3=some r):FnG Tryz.prog 170 [.row 0 data1.length,.dat (vint a2),.dat (vint b3),.dat (vfn fv3 us3)] [(0,.rowA undef 120 2 (List.map we data1))] (.dat (yc [])) [(0,.rowA undef 120 2 (List.map we r))]:=by
 refine uv (by kernel_rfl) Tryz.func170 Z Z Z Z fun X A hN => ?_
 unfold y69 at H
 refine zc hN Z (qd Z (za (yj _ Z Z (.inl ⟨Z,Z⟩)) (qe Z (yd (ui (fun (s:Int×(List zu))=>[(0,.row 0 s.2.length),(1,.dat (vint a2)),(2,.dat (vint b3)),(3,.dat (vfn fv3 us3)),(8,.dat (vint s.1))]) (fun (s:Int×(List zu))=>[(0,.rowA (A.vl 0) 120 2 (List.map we s.2))]) (wr (a2+1),data1) H ⟨Z,Z,Z,Z,Z,U⟩ ⟨Z,U⟩ (fun _=>Z) ?_)))))
 rintro ⟨i4,l5⟩ q6 H hq6
 replace H:y5p a2 b3 p3 i4 l5=some q6:=H
 unfold y5p at H
 refine zf (zc hN Z (qd Z (qd Z (za (ye Z Z) (zi _ Z (fun h7 => ?_) (fun h7 => ?_))))))
 ·refine tE h7 H fun H=>zp (yw (ι:=(List zu)) (fun i=>[(0,.row 0 i.length),(1,.dat (vint a2)),(2,.dat (vint b3)),(3,.dat (vfn fv3 us3)),(8,.dat (vint i4))]) (fun i=>[(0,.rowA (A.vl 0) 120 2 (List.map we i))]) (fun i=>y09 i4 i=some q6) (fun i=>Z) ?_ ?_)
  ·skip
   refine yd (zc hN Z (qd Z (qe Z (yd (ui (fun (s:Int×(List zu))=>[(0,.row 0 s.2.length),(1,.dat (vint a2)),(2,.dat (vint b3)),(3,.dat (vfn fv3 us3)),(8,.dat (vint i4)),(9,.dat (vint s.1))]) (fun (s:Int×(List zu))=>[(0,.rowA (A.vl 0) 120 2 (List.map we s.2))]) (i4,l5) H ⟨Z,Z,Z,Z,Z,Z,U⟩ ⟨Z,U⟩ (fun _=>Z) ?_)))))
   rintro ⟨j8,l9⟩ q10 H hq10
   replace H:y5o a2 p3 i4 j8 l9=some q10:=H
   unfold y5o at H
   refine zf (yw (ι:=Bool) (fun i=>[(0,.row 0 l9.length),(1,.dat (vint a2)),(2,.dat (vint b3)),(3,.dat (vfn fv3 us3)),(8,.dat (vint i4)),(9,.dat (vint j8)),(34,.dat (zr i))]) (fun i=>[(0,.rowA (A.vl 0) 120 2 (List.map we l9))]) (fun i=>z64 i4 j8 l9 i=some q10) (fun i=>Z) ?_ ?_)
   ·skip
    refine wl mixed hN Z Z (qd Z (qd Z (za (wz Z Z) (qd Z (qv (j:=3) Z Z (fun h11 => ?_) (fun h11 => ?_) Z)))))
    ·refine u1 h11 H fun h12 H=>zo Z Z h11 (zg (.dat _) Z) (zo Z Z h11 (zg (.row _ _) Z) (zo Z Z h11 (zg (.dat _) Z) (bE H fun x13 h14 H=>wc Z Z h11 (kh z1r Z Z Z h14) Z (wc Z Z h11 (xo jv Z Z (qi h14).2 Z) Z (zo Z Z h11 (zg (.row _ _) Z) (zo Z Z h11 (zg (.dat _) Z) (zo Z Z h11 (yj _ Z Z (.inr (.inl ⟨Z,Z⟩))) (bE H fun x15 h16 H=>wc Z Z h11 (kh z1r Z Z Z h16) Z (wc Z Z h11 (xo jv Z Z (qi h16).2 Z) Z (bE H fun r17 h18 H=>zo Z Z h11 (ua (hp3 x13 x15 r17 h18) Z ⟨.inl Z,.inl Z,U⟩) (zo Z Z h11 (ye Z Z) (za (qt Z (bTT h12) Z) ⟨Z,?_⟩))))))))))))
     exact ⟨decide (r17 < 0),H,⟨Z,Z,Z,Z,Z,Z,Z,U⟩,⟨Z,U⟩⟩
    ·refine u2 h11 H fun h19 H=>zh Z Z h11 (zh Z Z h11 (zh Z Z h11 (zh Z Z h11 (zh Z Z h11 (zh Z Z h11 (zh Z Z h11 (zh Z Z h11 (zh Z Z h11 (zh Z Z h11 (zh Z Z h11 (zh Z Z h11 (za (yq Z (bFF h19) Z) ⟨Z,?_⟩))))))))))))
     exact ⟨false,H,⟨Z,Z,Z,Z,Z,Z,Z,U⟩,⟨Z,U⟩⟩
   ·rintro v20 H
    replace H:z64 i4 j8 l9 v20=some q10:=H
    unfold z64 at H
    refine zi _ Z (fun h21 => ?_) (fun h21 => ?_)
    ·refine tE h21 H fun H=>zp (zf (yd (wl mixed hN Z Z (za (zg (.row _ _) Z) (qd Z (za (zg (.row _ _) Z) (qd Z (za (yj _ Z Z (.inr (.inl ⟨Z,Z⟩))) (za (zg (.row _ _) Z) (qd Z (za (yj _ Z Z (.inr (.inl ⟨Z,Z⟩))) (bE H fun x22 h23 H=>ze (kh z1r Z Z Z h23) Z (ze (xo jv Z Z (qi h23).2 Z) Z (za (zg (.row _ _) Z) (qd Z (bE H fun x24 h25 H=>ze (kh z1r Z Z Z h25) Z (ze (xo jv Z Z (qi h25).2 Z) Z (ze (kh z1r Z Z Z h25) Z (zd (z3t (C:=we) jv Z Z Z (z3f (qi h25).2) Z Z) Z (bE H fun x26 h27 H=>?_))))))))))))))))))))
     refine ze (kh z1r Z (by simp) Z h27) Z (zd (z3t (C:=we) jv Z Z (by simp) (z3f (qi h27).2) Z Z) Z ⟨Z,?_⟩)
     exact zq hN Z (qd Z (za (yj _ Z Z (.inr (.inl ⟨Z,Z⟩))) (qe Z ⟨_,qj H,⟨congrArg (Slot.row 0) (by simp),Z,Z,Z,Z,Z,U⟩,⟨Z,U⟩⟩)))
    ·refine fE h21 H fun H=>qk ?_
     replace H:=outl H hq10
     exact ⟨l9,H,⟨Z,Z,Z,Z,Z,U⟩,⟨Z,U⟩⟩
  ·rintro data28 H
   replace H:y09 i4 data28=some q6:=H
   unfold y09 at H
   exact zq hN Z (qd Z (za (yj _ Z Z (.inl ⟨Z,Z⟩)) (qe Z ⟨_,qj H,⟨Z,Z,Z,Z,Z,U⟩,⟨Z,U⟩⟩)))
 ·refine fE h7 H fun H=>qk ?_
  replace H:=retl H hq6
  have eH:l5=r:=Option.some.inj H
  subst eH
  exact ⟨U,[],U,⟨Z,U⟩,Z,.inl ⟨[],U,Z⟩⟩
theorem w1j (v1:(List zu)) (v2:Int) (v3:Int) (v4:Int) (p4:zu→zu→Option (Int)) (fv4:Nat) (us4:List V) (hp4:∀ a0 a1 r,p4 a0 a1=some r→Fn Tryz.prog fv4 ([vagg (we a0),vagg (we a1)]++us4) (yc [vint r])) (r:((List zu))) (H:y2f v1 v2 v3 v4 p4=some r):FnG Tryz.prog 147 [.row 0 v1.length,.dat (vint v2),.dat (vint v3),.dat (vint v4),.dat (vfn fv4 us4)] [(0,.rowA undef 120 2 (List.map we v1))] (.dat (yc [])) [(0,.rowA undef 120 2 (List.map we r))]:=by
 refine uv (by kernel_rfl) Tryz.func147 Z Z Z Z fun X A hN => ?_
 unfold y2f at H
 refine zc hN Z (qe Z (zc hN Z (qe Z (yd (ui (fun (s:Int×Int×Int×Bool×Bool)=>[(0,.row 0 v1.length),(1,.dat (vint s.1)),(2,.dat (vint s.2.1)),(3,.dat (vint s.2.2.1)),(4,.dat (vfn fv4 us4)),(10,.dat (zr s.2.2.2.1)),(11,.dat (zr s.2.2.2.2))]) (fun (s:Int×Int×Int×Bool×Bool)=>[(0,.rowA (A.vl 0) 120 2 (List.map we v1))]) (v2,v3,v4,true,true) H ⟨Z,Z,Z,Z,Z,Z,Z,U⟩ ⟨Z,U⟩ (fun _=>Z) ?_)))))
 rintro ⟨v5,v6,v7,v8,v9⟩ q10 H hq10
 replace H:y5m v1 p4 v5 v6 v7 v8 v9=some q10:=H
 unfold y5m at H
 refine yd (zc hN Z (qd Z (qd Z (za (yj _ Z Z (.inr (.inl ⟨Z,Z⟩))) (qe Z (zf (zc hN Z (qd Z (za (xb Z Z) (zi _ Z (fun h11 => ?_) (fun h11 => ?_)))))))))))
 ·refine tE h11 H fun H=>zc hN Z (za (zg (.row _ _) Z) (qd Z (qd Z (qd Z (bE H fun r12 h13 H=>gE H fun h14 H=>ue (rn [(0,0)]) [(0,_,_,some _)] [] (w1l v1 v5 v6 p4 fv4 us4 hp4 r12 h13) ⟨Z,U⟩ ⟨.inl (.inl Z),.inl (.inl Z),.inl (.inl Z),.inl (.inl Z),U⟩ ⟨⟨⟨Z,Z,Z⟩,by simp [uc,h14]⟩,U⟩ Z ?_)))))
  refine zn ?_
  replace H:=retl H hq10
  have eH:r12=r:=Option.some.inj H
  subst eH
  exact ⟨U,[],U,⟨Z,U⟩,Z,.inl ⟨[],U,Z⟩⟩
 ·refine fE h11 H fun H=>zp (zf (zc hN Z (qd Z (za (qc Z Z) (zi _ Z (fun h15 => ?_) (fun h15 => ?_))))))
  ·refine tE h15 H fun H=>?_
   cases H
  ·refine fE h15 H fun H=>?_
   cases H
theorem w1p (x1:(List zu)) (p1:zu→zu→Option (Int)) (fv1:Nat) (us1:List V) (hp1:∀ a0 a1 r,p1 a0 a1=some r→Fn Tryz.prog fv1 ([vagg (we a0),vagg (we a1)]++us1) (yc [vint r])) (r:((List zu))) (H:y2i x1 p1=some r):FnG Tryz.prog 105 [.row 0 x1.length,.dat (vfn fv1 us1)] [(0,.rowA undef 120 2 (List.map we x1))] (.dat (yc [])) [(0,.rowA undef 120 2 (List.map we r))]:=by
 refine uv (by kernel_rfl) Tryz.func105 Z Z Z Z fun X A hN => ?_
 unfold y2i at H
 refine zc hN Z (za (zg (.row _ _) Z) (ze (y0w x0c Z Z) Z (qe Z (zq hN Z (za (zg (.row _ _) Z) (qd Z (qd Z (za (xp tyU3 Ql Z) (bE H fun r2 h3 H=>za (yb (x3m (IntKind.wrap .u64 (x1.length:Int)) r2 h3) ⟨.inl Z,U⟩) (qd Z (bE H fun r4 h5 H=>gE H fun h6 H=>ue (rn [(0,0)]) [(0,_,_,some _)] [] (w1j x1 0 (x1.length:Int) r2 p1 fv1 us1 hp1 r4 h5) ⟨Z,U⟩ ⟨.inl (.inl Z),.inl (.inl Z),.inl (.inl Z),.inl (.inl Z),.inl (.inl Z),U⟩ ⟨⟨⟨Z,Z,Z⟩,by simp [uc,h6]⟩,U⟩ Z ?_)))))))))))
 have eH:r4=r:=Option.some.inj H
 subst eH
 exact ⟨U,[],U,⟨Z,U⟩,Z,.inl ⟨[],U,Z⟩⟩
theorem w1m (data1:(List zm)) (a2:Int) (b3:Int) (p3:zm→zm→Option (Int)) (fv3:Nat) (us3:List V) (hp3:∀ a0 a1 r,p3 a0 a1=some r→Fn Tryz.prog fv3 ([vagg (wg a0),vagg (wg a1)]++us3) (yc [vint r])) (r:((List zm))) (H:y7a data1 a2 b3 p3=some r):FnG Tryz.prog 122 [.row 0 data1.length,.dat (vint a2),.dat (vint b3),.dat (vfn fv3 us3)] [(0,.rowA undef 50 4 (List.map wg data1))] (.dat (yc [])) [(0,.rowA undef 50 4 (List.map wg r))]:=by
 refine uv (by kernel_rfl) Tryz.func122 Z Z Z Z fun X A hN => ?_
 unfold y7a at H
 refine zc hN Z (qd Z (za (yj _ Z Z (.inl ⟨Z,Z⟩)) (qe Z (yd (ui (fun (s:Int×(List zm))=>[(0,.row 0 s.2.length),(1,.dat (vint a2)),(2,.dat (vint b3)),(3,.dat (vfn fv3 us3)),(8,.dat (vint s.1))]) (fun (s:Int×(List zm))=>[(0,.rowA (A.vl 0) 50 4 (List.map wg s.2))]) (wr (a2+1),data1) H ⟨Z,Z,Z,Z,Z,U⟩ ⟨Z,U⟩ (fun _=>Z) ?_)))))
 rintro ⟨i4,l5⟩ q6 H hq6
 replace H:y5t a2 b3 p3 i4 l5=some q6:=H
 unfold y5t at H
 refine zf (zc hN Z (qd Z (qd Z (za (ye Z Z) (zi _ Z (fun h7 => ?_) (fun h7 => ?_))))))
 ·refine tE h7 H fun H=>zp (yw (ι:=(List zm)) (fun i=>[(0,.row 0 i.length),(1,.dat (vint a2)),(2,.dat (vint b3)),(3,.dat (vfn fv3 us3)),(8,.dat (vint i4))]) (fun i=>[(0,.rowA (A.vl 0) 50 4 (List.map wg i))]) (fun i=>y1b i4 i=some q6) (fun i=>Z) ?_ ?_)
  ·skip
   refine yd (zc hN Z (qd Z (qe Z (yd (ui (fun (s:Int×(List zm))=>[(0,.row 0 s.2.length),(1,.dat (vint a2)),(2,.dat (vint b3)),(3,.dat (vfn fv3 us3)),(8,.dat (vint i4)),(9,.dat (vint s.1))]) (fun (s:Int×(List zm))=>[(0,.rowA (A.vl 0) 50 4 (List.map wg s.2))]) (i4,l5) H ⟨Z,Z,Z,Z,Z,Z,U⟩ ⟨Z,U⟩ (fun _=>Z) ?_)))))
   rintro ⟨j8,l9⟩ q10 H hq10
   replace H:y5s a2 p3 i4 j8 l9=some q10:=H
   unfold y5s at H
   refine zf (yw (ι:=Bool) (fun i=>[(0,.row 0 l9.length),(1,.dat (vint a2)),(2,.dat (vint b3)),(3,.dat (vfn fv3 us3)),(8,.dat (vint i4)),(9,.dat (vint j8)),(34,.dat (zr i))]) (fun i=>[(0,.rowA (A.vl 0) 50 4 (List.map wg l9))]) (fun i=>z66 i4 j8 l9 i=some q10) (fun i=>Z) ?_ ?_)
   ·skip
    refine wl mixed hN Z Z (qd Z (qd Z (za (wz Z Z) (qd Z (qv (j:=3) Z Z (fun h11 => ?_) (fun h11 => ?_) Z)))))
    ·refine u1 h11 H fun h12 H=>zo Z Z h11 (zg (.dat _) Z) (zo Z Z h11 (zg (.row _ _) Z) (zo Z Z h11 (zg (.dat _) Z) (bE H fun x13 h14 H=>wc Z Z h11 (kh Zx Z Z Z h14) Z (wc Z Z h11 (xo jh Z Z (qi h14).2 Z) Z (zo Z Z h11 (zg (.row _ _) Z) (zo Z Z h11 (zg (.dat _) Z) (zo Z Z h11 (yj _ Z Z (.inr (.inl ⟨Z,Z⟩))) (bE H fun x15 h16 H=>wc Z Z h11 (kh Zx Z Z Z h16) Z (wc Z Z h11 (xo jh Z Z (qi h16).2 Z) Z (bE H fun r17 h18 H=>zo Z Z h11 (ua (hp3 x13 x15 r17 h18) Z ⟨.inl Z,.inl Z,U⟩) (zo Z Z h11 (ye Z Z) (za (qt Z (bTT h12) Z) ⟨Z,?_⟩))))))))))))
     exact ⟨decide (r17 < 0),H,⟨Z,Z,Z,Z,Z,Z,Z,U⟩,⟨Z,U⟩⟩
    ·refine u2 h11 H fun h19 H=>zh Z Z h11 (zh Z Z h11 (zh Z Z h11 (zh Z Z h11 (zh Z Z h11 (zh Z Z h11 (zh Z Z h11 (zh Z Z h11 (zh Z Z h11 (zh Z Z h11 (zh Z Z h11 (zh Z Z h11 (za (yq Z (bFF h19) Z) ⟨Z,?_⟩))))))))))))
     exact ⟨false,H,⟨Z,Z,Z,Z,Z,Z,Z,U⟩,⟨Z,U⟩⟩
   ·rintro v20 H
    replace H:z66 i4 j8 l9 v20=some q10:=H
    unfold z66 at H
    refine zi _ Z (fun h21 => ?_) (fun h21 => ?_)
    ·refine tE h21 H fun H=>zp (zf (yd (wl mixed hN Z Z (za (zg (.row _ _) Z) (qd Z (za (zg (.row _ _) Z) (qd Z (za (yj _ Z Z (.inr (.inl ⟨Z,Z⟩))) (za (zg (.row _ _) Z) (qd Z (za (yj _ Z Z (.inr (.inl ⟨Z,Z⟩))) (bE H fun x22 h23 H=>ze (kh Zx Z Z Z h23) Z (ze (xo jh Z Z (qi h23).2 Z) Z (za (zg (.row _ _) Z) (qd Z (bE H fun x24 h25 H=>ze (kh Zx Z Z Z h25) Z (ze (xo jh Z Z (qi h25).2 Z) Z (ze (kh Zx Z Z Z h25) Z (zd (z3t (C:=wg) jh Z Z Z (z3f (qi h25).2) Z Z) Z (bE H fun x26 h27 H=>?_))))))))))))))))))))
     refine ze (kh Zx Z (by simp) Z h27) Z (zd (z3t (C:=wg) jh Z Z (by simp) (z3f (qi h27).2) Z Z) Z ⟨Z,?_⟩)
     exact zq hN Z (qd Z (za (yj _ Z Z (.inr (.inl ⟨Z,Z⟩))) (qe Z ⟨_,qj H,⟨congrArg (Slot.row 0) (by simp),Z,Z,Z,Z,Z,U⟩,⟨Z,U⟩⟩)))
    ·refine fE h21 H fun H=>qk ?_
     replace H:=outl H hq10
     exact ⟨l9,H,⟨Z,Z,Z,Z,Z,U⟩,⟨Z,U⟩⟩
  ·rintro data28 H
   replace H:y1b i4 data28=some q6:=H
   unfold y1b at H
   exact zq hN Z (qd Z (za (yj _ Z Z (.inl ⟨Z,Z⟩)) (qe Z ⟨_,qj H,⟨Z,Z,Z,Z,Z,U⟩,⟨Z,U⟩⟩)))
 ·refine fE h7 H fun H=>qk ?_
  replace H:=retl H hq6
  have eH:l5=r:=Option.some.inj H
  subst eH
  exact ⟨U,[],U,⟨Z,U⟩,Z,.inl ⟨[],U,Z⟩⟩
theorem w1k (v1:(List zm)) (v2:Int) (v3:Int) (v4:Int) (p4:zm→zm→Option (Int)) (fv4:Nat) (us4:List V) (hp4:∀ a0 a1 r,p4 a0 a1=some r→Fn Tryz.prog fv4 ([vagg (wg a0),vagg (wg a1)]++us4) (yc [vint r])) (r:((List zm))) (H:y2g v1 v2 v3 v4 p4=some r):FnG Tryz.prog 84 [.row 0 v1.length,.dat (vint v2),.dat (vint v3),.dat (vint v4),.dat (vfn fv4 us4)] [(0,.rowA undef 50 4 (List.map wg v1))] (.dat (yc [])) [(0,.rowA undef 50 4 (List.map wg r))]:=by
 refine uv (by kernel_rfl) Tryz.func84 Z Z Z Z fun X A hN => ?_
 unfold y2g at H
 refine zc hN Z (qe Z (zc hN Z (qe Z (yd (ui (fun (s:Int×Int×Int×Bool×Bool)=>[(0,.row 0 v1.length),(1,.dat (vint s.1)),(2,.dat (vint s.2.1)),(3,.dat (vint s.2.2.1)),(4,.dat (vfn fv4 us4)),(10,.dat (zr s.2.2.2.1)),(11,.dat (zr s.2.2.2.2))]) (fun (s:Int×Int×Int×Bool×Bool)=>[(0,.rowA (A.vl 0) 50 4 (List.map wg v1))]) (v2,v3,v4,true,true) H ⟨Z,Z,Z,Z,Z,Z,Z,U⟩ ⟨Z,U⟩ (fun _=>Z) ?_)))))
 rintro ⟨v5,v6,v7,v8,v9⟩ q10 H hq10
 replace H:y5n v1 p4 v5 v6 v7 v8 v9=some q10:=H
 unfold y5n at H
 refine yd (zc hN Z (qd Z (qd Z (za (yj _ Z Z (.inr (.inl ⟨Z,Z⟩))) (qe Z (zf (zc hN Z (qd Z (za (xb Z Z) (zi _ Z (fun h11 => ?_) (fun h11 => ?_)))))))))))
 ·refine tE h11 H fun H=>zc hN Z (za (zg (.row _ _) Z) (qd Z (qd Z (qd Z (bE H fun r12 h13 H=>gE H fun h14 H=>ue (rn [(0,0)]) [(0,_,_,some _)] [] (w1m v1 v5 v6 p4 fv4 us4 hp4 r12 h13) ⟨Z,U⟩ ⟨.inl (.inl Z),.inl (.inl Z),.inl (.inl Z),.inl (.inl Z),U⟩ ⟨⟨⟨Z,Z,Z⟩,by simp [uc,h14]⟩,U⟩ Z ?_)))))
  refine zn ?_
  replace H:=retl H hq10
  have eH:r12=r:=Option.some.inj H
  subst eH
  exact ⟨U,[],U,⟨Z,U⟩,Z,.inl ⟨[],U,Z⟩⟩
 ·refine fE h11 H fun H=>zp (zf (zc hN Z (qd Z (za (qc Z Z) (zi _ Z (fun h15 => ?_) (fun h15 => ?_))))))
  ·refine tE h15 H fun H=>?_
   cases H
  ·refine fE h15 H fun H=>?_
   cases H
end Go.Proofs.YtnnfdgngnoamoaaGreatDoor
