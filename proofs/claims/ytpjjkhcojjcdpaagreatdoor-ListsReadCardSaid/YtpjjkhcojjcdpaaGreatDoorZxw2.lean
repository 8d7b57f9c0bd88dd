/- Walks along the models. Printed by a program. -/
import Derived.Test.YtpjjkhcojjcdpaaGreatDoorZxw1
namespace Go.Proofs.YtpjjkhcojjcdpaaGreatDoor
open Go.RowKit
set_option linter.unusedVariables false
set_option maxRecDepth 100000
set_option maxHeartbeats 2000000
theorem y58 (s1:zm) (r:(Bs×zm)) (H:z3u s1=some r):Imp Tryz.prog 49 53 (vg s1) [] (zu [vstr r.1]) (vg r.2):=by
 refine wm (us:=[vstr r.1]) (cs':=(vg r.2)) (by kernel_rfl) Tryz.func49 Z Z Z Z fun X bl hN => ?_
 unfold z3u at H
 refine zb hN Z (qe Z (zb hN Z (qe Z (ya (ι:=Int) (fun i=>[(0,.ptr 0 0)]) (fun i=>[(0,.box (some bl) 53 [.dat (vstr s1.s_),.dat (vint i),.dat (zf s1.bad_)])]) (fun i=>uy s1 i=some r) (fun i=>Z) ?_ ?_))))
 ·skip
  refine ye (uk 3 1 5 1 Z Z Z (jv (fun (s:Int×(List Int))=>[(0,.ptr 0 0),(3,.row 1 s.2.length)]) (fun (s:Int×(List Int))=>[(0,.box (some bl) 53 [.dat (vstr s1.s_),.dat (vint s.1),.dat (zf s1.bad_)]),(1,.row 5 1 (List.map yz s.2))]) (s1.i_,[]) H ⟨Z,Z,U⟩ ⟨Z,Z,U⟩ (fun _=>Z) ?_))
  rintro ⟨c2,l3⟩ q4 H hq4
  replace H:wt s1 c2 l3=some q4:=H
  unfold wt at H
  refine zh (zh (wl mixed hN Z Z (za (ze (.ptr _ _) Z) (za (zy Z) (za (zk qq Z) (zw (zr tyS3 Z Z) Z (za (ze (.ptr _ _) Z) (za (zy Z) (za (zk vz Z) (zw (zr tyS9 Z Z) Z (za (yr tyU9 Z) (za (yf Z Z) ⟨Z,?_⟩))))))))))))
  refine zi _ Z (fun h5 => ?_) (fun h5 => ?_)
  ·refine tE h5 H fun H=>zo (ye (zh (wl mixed hN Z Z (za (ze (.ptr _ _) Z) (za (zy Z) (za (zk vz Z) (zw (zr tyS9 Z Z) Z (za (ze (.ptr _ _) Z) (za (zy Z) (za (zk qq Z) (zw (zr tyS3 Z Z) Z (bE H fun x6 h7 H=>za (wi tyU9 Z Z h7) (qe Z ⟨Z,?_⟩)))))))))))))
   refine zb hN Z (za (ze (.ptr _ _) Z) (za (zy Z) (za (zk qq Z) (zw (zr tyS3 Z Z) Z (za (yp _ Z Z (.inl ⟨Z,Z⟩)) (za (zy Z) (za (zk qq Z) (zl (qn tyS3 Z Z Z Z) Z (zh (zb hN Z (qd Z (za (yk Z Z) (zi _ Z (fun h8 => ?_) (fun h8 => ?_))))))))))))))
   ·refine tE h8 H fun H=>zh (ur 3 1 Z Z Z (zn hN Z (qd Z (za (z5m (C:=yz) xx tyU5 tyU9 (fun _=>Z) Z) (qe Z (zj ?_))))))
    replace H:=retl H hq4
    cases H
    exact ⟨U,⟨.inl Z,U⟩,Z⟩
   ·refine fE h8 H fun H=>zo (ya (ι:=Int×Int) (fun i=>[(0,.ptr 0 0),(3,.row 1 l3.length),(4,.dat (vval (.int .u8 i.1)))]) (fun i=>[(0,.box (some bl) 53 [.dat (vstr s1.s_),.dat (vint i.2),.dat (zf s1.bad_)]),(1,.row 5 1 (List.map yz l3))]) (fun i=>Zk l3 i.1 i.2=some q4) (fun i=>Z) ?_ ?_)
    ·skip
     refine zb hN Z (qd Z (za (yk Z Z) (zi _ Z (fun h9 => ?_) (fun h9 => ?_))))
     ·refine tE h9 H fun H=>zh (ya (ι:=Bool) (fun i=>[(0,.ptr 0 0),(3,.row 1 l3.length),(70,.dat (zf i))]) (fun i=>[(0,.box (some bl) 53 [.dat (vstr s1.s_),.dat (vint (wr (c2+1))),.dat (zf s1.bad_)]),(1,.row 5 1 (List.map yz l3))]) (fun i=>ux s1 c2 l3 i=some q4) (fun i=>Z) ?_ ?_)
      ·skip
       refine wl mixed hN Z Z (za (ze (.ptr _ _) Z) (za (zy Z) (za (zk qq Z) (zw (zr tyS3 Z Z) Z (za (ze (.ptr _ _) Z) (za (zy Z) (za (zk vz Z) (zw (zr tyS9 Z Z) Z (za (yr tyU9 Z) (za (yk Z Z) (qd Z (yc (j:=10) Z Z (fun h10 => ?_) (fun h10 => ?_) Z))))))))))))
       ·refine u3 h10 H fun h11 H=>zd Z Z h10 (ze (.ptr _ _) Z) (zd Z Z h10 (zy Z) (zd Z Z h10 (zk vz Z) (we Z Z h10 (zr tyS9 Z Z) Z (zd Z Z h10 (ze (.ptr _ _) Z) (zd Z Z h10 (zy Z) (zd Z Z h10 (zk qq Z) (we Z Z h10 (zr tyS3 Z Z) Z (bE H fun x12 h13 H=>zd Z Z h10 (wi tyU9 Z Z h13) (zd Z Z h10 (jn Z Z) (zd Z Z h10 (ze (.dat _) Z) (yc (j:=21) Z Z (fun h14 => ?_) (fun h14 => ?_) Z)))))))))))
        ·refine u1 h14 H fun h15 H=>zd Z Z h14 (ze (.ptr _ _) Z) (zd Z Z h14 (zy Z) (zd Z Z h14 (zk vz Z) (we Z Z h14 (zr tyS9 Z Z) Z (zd Z Z h14 (ze (.ptr _ _) Z) (zd Z Z h14 (zy Z) (zd Z Z h14 (zk qq Z) (we Z Z h14 (zr tyS3 Z Z) Z (zd Z Z h14 (wi tyU9 Z Z h13) (zd Z Z h14 (jn Z Z) (zd Z Z h10 (zx Z (bTT h15) Z) (za (zq Z (bFF h11) Z) ⟨Z,?_⟩)))))))))))
         exact ⟨decide ((x12.toNat:Int)≠92),H,⟨Z,Z,Z,U⟩,⟨Z,Z,U⟩⟩
        ·refine u2 h14 H fun h16 H=>zc Z Z h14 (zc Z Z h14 (zc Z Z h14 (zc Z Z h14 (zc Z Z h14 (zc Z Z h14 (zc Z Z h14 (zc Z Z h14 (zc Z Z h14 (zc Z Z h14 (zd Z Z h10 (zq Z (bFF h16) Z) (za (zq Z (bFF h11) Z) ⟨Z,?_⟩)))))))))))
         exact ⟨false,H,⟨Z,Z,Z,U⟩,⟨Z,Z,U⟩⟩
       ·refine u4 h10 H fun h17 H=>zc Z Z h10 (zc Z Z h10 (zc Z Z h10 (zc Z Z h10 (zc Z Z h10 (zc Z Z h10 (zc Z Z h10 (zc Z Z h10 (zc Z Z h10 (zc Z Z h10 (zc Z Z h10 (zv Z Z (zv Z Z (zv Z Z (zv Z Z (zv Z Z (zv Z Z (zv Z Z (zv Z Z (zv Z Z (zv Z Z (zc Z Z h10 (za (zx Z (bTT h17) Z) ?_))))))))))))))))))))))
        refine ⟨Z,?_⟩
        exact ⟨true,H,⟨Z,Z,Z,U⟩,⟨Z,Z,U⟩⟩
      ·rintro v18 H
       replace H:ux s1 c2 l3 v18=some q4:=H
       unfold ux at H
       refine zi _ Z (fun h19 => ?_) (fun h19 => ?_)
       ·refine tE h19 H fun H=>yv ?_
        replace H:=outl H hq4
        exact ⟨wr (c2+1),H,⟨Z,U⟩,⟨Z,U⟩⟩
       ·refine fE h19 H fun H=>zo (zh (wl mixed hN Z Z (za (ze (.ptr _ _) Z) (za (zy Z) (za (zk vz Z) (zw (zr tyS9 Z Z) Z (za (ze (.ptr _ _) Z) (za (zy Z) (za (zk qq Z) (zw (zr tyS3 Z Z) Z (bE H fun x20 h21 H=>za (wi tyU9 Z Z h21) (qe Z ⟨Z,?_⟩))))))))))))
        exact zn hN Z (za (ze (.ptr _ _) Z) (za (zy Z) (za (zk qq Z) (zw (zr tyS3 Z Z) Z (za (yp _ Z Z (.inl ⟨Z,Z⟩)) (za (zy Z) (za (zk qq Z) (zl (qn tyS3 Z Z Z Z) Z ⟨((x20.toNat:Int),wr ((wr (c2+1))+1)),H,⟨Z,Z,Z,U⟩,⟨Z,Z,U⟩⟩))))))))
     ·exact fE h9 H fun H=>zo ⟨((x6.toNat:Int),wr (c2+1)),H,⟨Z,Z,Z,U⟩,⟨Z,Z,U⟩⟩
    ·rintro ⟨v22,c23⟩ H
     replace H:Zk l3 v22 c23=some q4:=H
     unfold Zk at H
     refine zn hN Z (za (ze (.row _ _) Z) (qd Z (za (yg (u':=vlst (List.map yz [v22])) (qj [[_]] xz ⟨Z,.inl ⟨_,Z,Z,Z⟩,Z,U⟩ Z Z) Z) (gE H fun h24 H=>zl (jc xz (fun _=>Z) Z Z Z ⟨by simp,by first | (simp; done) | simpa using h24⟩ Z) Z ?_))))
     exact za (wy (.row _ _) Z) ⟨_,qc H,⟨Z,Z,U⟩,⟨Z,Z,U⟩⟩
  ·refine fE h5 H fun H=>yv ?_
   replace H:=outl H hq4
   exact ⟨c2,H,⟨Z,U⟩,⟨Z,U⟩⟩
 ·rintro c25 H
  replace H:uy s1 c25=some r:=H
  unfold uy at H
  refine zb hN Z (za (ze (.ptr _ _) Z) (za (zy Z) (za (zk va Z) (zl (qn tyS4 Z Z Z Z) Z (zb hN Z (qe Z (zj ?_)))))))
  cases H
  exact ⟨U,⟨.inl Z,U⟩,Z⟩
theorem y0f (name1:Bs) (r:(Bool)) (H:We name1=some r):Fn Tryz.prog 50 [vstr name1] (zu [zf r]):=by
 refine ⟨by kernel_rfl,yi (us:=[zf r]) Tryz.func50 Z Z Z Z fun X hN => ?_⟩
 unfold We at H
 refine zb hN Z (qe Z (zb hN Z (qd Z (za (qx Z Z) (qd Z (yu Z Z (fun hc=>ze (.dat _) Z) (yu Z Z (fun hc=>qx (cnd (c:=(!(decide (name1=[113])))) hc) Z) (za (ww Z Z (fun hb=>(cnd (c:=(!(decide (name1=[113])))) (notI hb)))) (qe Z (zj ?_))))))))))
 cases H
 exact ⟨U,.inl Z,U⟩
theorem z4f (s p:Bs) (r:Bs×Bs×Bool) (H:uc s p=some r):Fn Tryz.prog 67 [vstr s,vstr p] (zu [vstr r.1,vstr r.2.1,zf r.2.2]):=by
 unfold uc at H
 obtain ⟨h1,h2⟩:=gif H
 cases h2
 refine uj (by kernel_rfl) fun M w vs hM h => ?_
 have hv:=jw (us:=[.string ⟨s.toArray⟩,.string ⟨p.toArray⟩]) h
 subst hv
 obtain ⟨m,hm⟩:=z6d hM
 refine (Tryz.strings_Cut ⟨s.toArray⟩ ⟨p.toArray⟩ m w (by simp [ByteArray.size]; omega) hm).mono ?_
 rintro e w' ⟨rfl,n,rfl⟩
 refine ⟨_,Z,⟨[_,_,_],Z,Z,fun j u hj => ?_⟩,⟨Z,Z,Z,Nat.le_refl _,fun _ _ _=>Z⟩⟩
 rcases j with _ | _ | _ | j
 ·cases hj; exact ⟨_,Z,Z⟩
 ·cases hj; exact ⟨_,Z,Z⟩
 ·cases hj; exact ⟨_,Z,Z⟩
 ·simp at hj

theorem y5v (s p:Bs) (r:Bs) (H:z3o s p=some r):Fn Tryz.prog 129 [vstr s,vstr p] (zu [vstr r]):=by
 unfold z3o at H
 cases H
 refine uj (by kernel_rfl) fun M w vs hM h => ?_
 have hv:=jw (us:=[.string ⟨s.toArray⟩,.string ⟨p.toArray⟩]) h
 subst hv
 refine (Tryz.strings_TrimPrefix ⟨s.toArray⟩ ⟨p.toArray⟩ w).mono ?_
 rintro e w' ⟨rfl,rfl⟩
 exact ⟨_,Z,Z,Kp.refl _ _⟩

theorem vt (c1:Int) (r:(Int)) (H:vd c1=some r):Fn Tryz.prog 166 [vval (.int .u8 c1)] (zu [vval (.int .u8 r)]):=by
 refine ⟨by kernel_rfl,yi (us:=[vval (.int .u8 r)]) Tryz.func166 Z Z Z Z fun X hN => ?_⟩
 unfold vd at H
 refine zb hN Z (qe Z (zb hN Z (qd Z (za (yg (y23 Z Z) Z) (qe Z (zj ?_))))))
 cases H
 exact ⟨U,.inl Z,U⟩
theorem y6o (v1:Bs) (r:(Bool)) (H:z6p v1=some r):Fn Tryz.prog 167 [vstr v1] (zu [zf r]):=by
 refine ⟨by kernel_rfl,yi (us:=[zf r]) Tryz.func167 Z Z Z Z fun X hN => ?_⟩
 unfold z6p at H
 refine zb hN Z (qe Z (zb hN Z (qe Z (zb hN Z (qe Z (ya (ι:=Bs) (fun i=>[(0,.dat (vstr i)),(3,.dat (vval (.int .i32 94))),(4,.dat (vint 0))]) (fun i=>[]) (fun i=>z10 i=some r) (fun i=>Z) ?_ ?_))))))
 ·skip
  refine ya (ι:=Bool) (fun i=>[(0,.dat (vstr v1)),(3,.dat (vval (.int .i32 94))),(4,.dat (vint 0)),(18,.dat (zf i))]) (fun i=>[]) (fun i=>Wq v1 i=some r) (fun i=>Z) ?_ ?_
  ·skip
   refine zn hN Z (qd Z (za (yr tyU9 Z) (za (vc Z Z) (qd Z (yc (j:=3) Z Z (fun h2 => ?_) (fun h2 => ?_) Z)))))
   ·refine u1 h2 H fun h3 H=>zd Z Z h2 (ze (.dat _) Z) (bE H fun x4 h5 H=>zd Z Z h2 (yw tyU9 Z Z h5) (zd Z Z h2 (yk Z Z) (zd Z Z h2 (ze (.dat _) Z) (yc (j:=7) Z Z (fun h6 => ?_) (fun h6 => ?_) Z))))
    ·exact u3 h6 H fun h7 H=>zd Z Z h6 (ze (.dat _) Z) (zd Z Z h6 (yw tyU9 Z Z h5) (zd Z Z h6 (yk Z Z) (zd Z Z h2 (zq Z (bFF h7) Z) (za (zx Z (bTT h3) Z) ⟨decide ((x4.toNat:Int)=43),H,⟨Z,Z,Z,Z,U⟩,U⟩))))
    ·exact u4 h6 H fun h8 H=>zc Z Z h6 (zc Z Z h6 (zc Z Z h6 (zd Z Z h2 (zx Z (bTT h8) Z) (za (zx Z (bTT h3) Z) ⟨true,H,⟨Z,Z,Z,Z,U⟩,U⟩))))
   ·exact u2 h2 H fun h9 H=>zc Z Z h2 (zc Z Z h2 (zc Z Z h2 (zc Z Z h2 (zv Z Z (zv Z Z (zv Z Z (zc Z Z h2 (za (zq Z (bFF h9) Z) ⟨false,H,⟨Z,Z,Z,Z,U⟩,U⟩))))))))
  ·rintro v10 H
   replace H:Wq v1 v10=some r:=H
   unfold Wq at H
   refine zi _ Z (fun h11 => ?_) (fun h11 => ?_)
   ·exact tE h11 H fun H=>zn hN Z (qd Z (bE H fun l12 h13 H=>za (qg tyU9 Z Z Z h13) (qe Z ⟨l12,H,⟨Z,Z,Z,U⟩,U⟩)))
   ·exact fE h11 H fun H=>zo ⟨v1,H,⟨Z,Z,Z,U⟩,U⟩
 ·rintro v14 H
  replace H:z10 v14=some r:=H
  unfold z10 at H
  refine zb hN Z (qe Z (ya (ι:=Int×Int×Bool) (fun i=>[(0,.dat (vstr v14)),(3,.dat (vval (.int .i32 i.1))),(4,.dat (vint i.2.1)),(5,.dat (zf i.2.2))]) (fun i=>[]) (fun i=>z1z v14 i.1 i.2.1 i.2.2=some r) (fun i=>Z) ?_ ?_))
  ·skip
   refine ya (ι:=Bool) (fun i=>[(0,.dat (vstr v14)),(3,.dat (vval (.int .i32 94))),(4,.dat (vint 0)),(5,.dat (zf false)),(46,.dat (zf i))]) (fun i=>[]) (fun i=>xl v14 i=some r) (fun i=>Z) ?_ ?_
   ·skip
    refine zn hN Z (qd Z (za (yr tyU9 Z) (za (vc Z Z) (qd Z (yc (j:=3) Z Z (fun h15 => ?_) (fun h15 => ?_) Z)))))
    ·refine u1 h15 H fun h16 H=>zd Z Z h15 (ze (.dat _) Z) (bE H fun x17 h18 H=>zd Z Z h15 (yw tyU9 Z Z h18) (zd Z Z h15 (yk Z Z) (za (zx Z (bTT h16) Z) (qd Z (yc (j:=8) Z Z (fun h19 => ?_) (fun h19 => ?_) Z)))))
     ·refine u1 h19 H fun h20 H=>zd Z Z h19 (ze (.dat _) Z) (bE H fun x21 h22 H=>zd Z Z h19 (yw tyU9 Z Z h22) (bE H fun r23 h24 H=>zd Z Z h19 (zp (vt (x21.toNat:Int) r23 h24) ⟨.inl Z,U⟩) (zd Z Z h19 (yk Z Z) (zd Z Z h19 (ze (.dat _) Z) (yc (j:=13) Z Z (fun h25 => ?_) (fun h25 => ?_) Z)))))
      ·refine u3 h25 H fun h26 H=>zd Z Z h25 (ze (.dat _) Z) (zd Z Z h25 (yw tyU9 Z Z h22) (bE H fun r27 h28 H=>zd Z Z h25 (zp (vt (x21.toNat:Int) r27 h28) ⟨.inl Z,U⟩) (zd Z Z h25 (yk Z Z) (zd Z Z h19 (zq Z (bFF h26) Z) (zd Z Z h19 (ze (.dat _) Z) (yc (j:=19) Z Z (fun h29 => ?_) (fun h29 => ?_) Z))))))
       ·exact u3 h29 H fun h30 H=>zd Z Z h29 (ze (.dat _) Z) (zd Z Z h29 (yw tyU9 Z Z h22) (bE H fun r31 h32 H=>zd Z Z h29 (zp (vt (x21.toNat:Int) r31 h32) ⟨.inl Z,U⟩) (zd Z Z h29 (yk Z Z) (zd Z Z h19 (zq Z (bFF h30) Z) (za (zx Z (bTT h20) Z) ⟨decide (r31=120),H,⟨Z,Z,Z,Z,Z,U⟩,U⟩)))))
       ·exact u4 h29 H fun h33 H=>zc Z Z h29 (zc Z Z h29 (zc Z Z h29 (zc Z Z h29 (zd Z Z h19 (zx Z (bTT h33) Z) (za (zx Z (bTT h20) Z) ⟨true,H,⟨Z,Z,Z,Z,Z,U⟩,U⟩)))))
      ·exact u4 h25 H fun h34 H=>zc Z Z h25 (zc Z Z h25 (zc Z Z h25 (zc Z Z h25 (zd Z Z h19 (zx Z (bTT h34) Z) (zd Z Z h19 (ze (.dat _) Z) (zc Z Z Z (zc Z Z Z (zc Z Z Z (zc Z Z Z (zd Z Z h19 (zx Z Z Z) (za (zx Z (bTT h20) Z) ⟨true,H,⟨Z,Z,Z,Z,Z,U⟩,U⟩)))))))))))
     ·exact u2 h19 H fun h35 H=>zc Z Z h19 (zc Z Z h19 (zc Z Z h19 (zc Z Z h19 (zc Z Z h19 (zv Z Z (zv Z Z (zv Z Z (zv Z Z (zc Z Z h19 (zc Z Z h19 (zv Z Z (zv Z Z (zv Z Z (zv Z Z (zc Z Z h19 (za (zq Z (bFF h35) Z) ⟨false,H,⟨Z,Z,Z,Z,Z,U⟩,U⟩))))))))))))))))
    ·exact u2 h15 H fun h36 H=>zc Z Z h15 (zc Z Z h15 (zc Z Z h15 (za (zq Z (bFF h36) Z) (qd Z (zc Z Z Z (zc Z Z Z (zc Z Z Z (zc Z Z Z (zc Z Z Z (zv Z Z (zv Z Z (zv Z Z (zv Z Z (zc Z Z Z (zc Z Z Z (zv Z Z (zv Z Z (zv Z Z (zv Z Z (zc Z Z Z (za (zq Z Z Z) ⟨false,H,⟨Z,Z,Z,Z,Z,U⟩,U⟩)))))))))))))))))))))
   ·rintro v37 H
    replace H:xl v14 v37=some r:=H
    unfold xl at H
    refine zi _ Z (fun h38 => ?_) (fun h38 => ?_)
    ·exact tE h38 H fun H=>zb hN Z (qe Z (zb hN Z (qe Z (zn hN Z (qd Z (bE H fun x39 h40 H=>za (yw tyU9 Z Z h40) (bE H fun r41 h42 H=>za (zp (vt (x39.toNat:Int) r41 h42) ⟨.inl Z,U⟩) (za (yk Z Z) (qe Z ⟨(48,2,decide (r41=120)),H,⟨Z,Z,Z,Z,U⟩,U⟩)))))))))
    ·exact fE h38 H fun H=>zo ⟨(94,0,false),H,⟨Z,Z,Z,Z,U⟩,U⟩
  ·rintro ⟨v43,v44,v45⟩ H
   replace H:z1z v14 v43 v44 v45=some r:=H
   unfold z1z at H
   refine ya (ι:=Int) (fun i=>[(3,.dat (vval (.int .i32 i)))]) (fun i=>[]) (fun i=>z4m i=some r) (fun i=>Z) ?_ ?_
   ·skip
    refine ye (jv (fun (s:Int×Int)=>[(0,.dat (vstr v14)),(3,.dat (vval (.int .i32 s.1))),(4,.dat (vint s.2)),(5,.dat (zf v45))]) (fun (s:Int×Int)=>[]) (v43,v44) H ⟨Z,Z,Z,Z,U⟩ U (fun _=>Z) ?_)
    rintro ⟨v46,v47⟩ q48 H hq48
    replace H:z63 v14 v45 v46 v47=some q48:=H
    unfold z63 at H
    refine zh (zb hN Z (qd Z (qd Z (za (yr tyU9 Z) (za (yf Z Z) (zi _ Z (fun h49 => ?_) (fun h49 => ?_)))))))
    ·refine tE h49 H fun H=>zo (ya (ι:=Int) (fun i=>[(0,.dat (vstr v14)),(3,.dat (vval (.int .i32 i))),(4,.dat (vint v47)),(5,.dat (zf v45))]) (fun i=>[]) (fun i=>Wp v47 i=some q48) (fun i=>Z) ?_ ?_)
     ·skip
      refine ye (zh (ya (ι:=Bool) (fun i=>[(0,.dat (vstr v14)),(3,.dat (vval (.int .i32 v46))),(4,.dat (vint v47)),(5,.dat (zf v45)),(83,.dat (zf i))]) (fun i=>[]) (fun i=>ku v14 v46 v47 i=some q48) (fun i=>Z) ?_ ?_))
      ·skip
       refine zn hN Z (qd Z (qd Z (bE H fun x50 h51 H=>za (wi tyU9 Z Z h51) (za (qy Z Z) (qd Z (yc (j:=4) Z Z (fun h52 => ?_) (fun h52 => ?_) Z))))))
       ·refine u1 h52 H fun h53 H=>zd Z Z h52 (ze (.dat _) Z) (zd Z Z h52 (ze (.dat _) Z) (zd Z Z h52 (wi tyU9 Z Z h51) (zd Z Z h52 (qy Z Z) (za (zx Z (bTT h53) Z) (qd Z (yc (j:=10) Z Z (fun h54 => ?_) (fun h54 => ?_) Z))))))
        ·refine u3 h54 H fun h55 H=>zd Z Z h54 (ze (.dat _) Z) (zd Z Z h54 (ze (.dat _) Z) (yc (j:=12) Z Z (fun h56 => ?_) (fun h56 => ?_) Z))
         ·refine u1 h56 H fun h57 H=>zd Z Z h56 (ze (.dat _) Z) (zd Z Z h56 (ze (.dat _) Z) (zd Z Z h56 (wi tyU9 Z Z h51) (bE H fun r58 h59 H=>zd Z Z h56 (zp (vt (x50.toNat:Int) r58 h59) ⟨.inl Z,U⟩) (zd Z Z h56 (qy Z Z) (zd Z Z h54 (zx Z (bTT h57) Z) (zd Z Z h54 (ze (.dat _) Z) (yc (j:=19) Z Z (fun h60 => ?_) (fun h60 => ?_) Z)))))))
          ·exact u1 h60 H fun h61 H=>zd Z Z h60 (ze (.dat _) Z) (zd Z Z h60 (ze (.dat _) Z) (zd Z Z h60 (wi tyU9 Z Z h51) (bE H fun r62 h63 H=>zd Z Z h60 (zp (vt (x50.toNat:Int) r62 h63) ⟨.inl Z,U⟩) (zd Z Z h60 (qy Z Z) (zd Z Z h54 (zx Z (bTT h61) Z) (za (zq Z (bFF h55) Z) ⟨decide (r62≤102),H,⟨Z,Z,Z,Z,Z,U⟩,U⟩))))))
          ·exact u2 h60 H fun h64 H=>zc Z Z h60 (zc Z Z h60 (zc Z Z h60 (zc Z Z h60 (zc Z Z h60 (zd Z Z h54 (zq Z (bFF h64) Z) (za (zq Z (bFF h55) Z) ⟨false,H,⟨Z,Z,Z,Z,Z,U⟩,U⟩))))))
         ·exact u2 h56 H fun h65 H=>zc Z Z h56 (zc Z Z h56 (zc Z Z h56 (zc Z Z h56 (zc Z Z h56 (zd Z Z h54 (zq Z (bFF h65) Z) (zd Z Z h54 (ze (.dat _) Z) (zc Z Z Z (zc Z Z Z (zc Z Z Z (zc Z Z Z (zc Z Z Z (zd Z Z h54 (zq Z Z Z) (za (zq Z (bFF h55) Z) ⟨false,H,⟨Z,Z,Z,Z,Z,U⟩,U⟩)))))))))))))
        ·exact u4 h54 H fun h66 H=>zc Z Z h54 (zc Z Z h54 (zv Z Z (zv Z Z (zv Z Z (zv Z Z (zv Z Z (zc Z Z h54 (zc Z Z h54 (zv Z Z (zv Z Z (zv Z Z (zv Z Z (zv Z Z (zc Z Z h54 (za (zx Z (bTT h66) Z) ⟨true,H,⟨Z,Z,Z,Z,Z,U⟩,U⟩)))))))))))))))
       ·refine u2 h52 H fun h67 H=>zc Z Z h52 (zc Z Z h52 (zc Z Z h52 (zc Z Z h52 (za (zq Z (bFF h67) Z) (qd Z (zd Z Z Z (ze (.dat _) Z) (zd Z Z Z (ze (.dat _) Z) (yc (j:=12) Z Z (fun h68 => ?_) (fun h68 => ?_) Z))))))))
        ·refine u1 h68 H fun h69 H=>zd Z Z h68 (ze (.dat _) Z) (zd Z Z h68 (ze (.dat _) Z) (zd Z Z h68 (wi tyU9 Z Z h51) (bE H fun r70 h71 H=>zd Z Z h68 (zp (vt (x50.toNat:Int) r70 h71) ⟨.inl Z,U⟩) (zd Z Z h68 (qy Z Z) (zd Z Z Z (zx Z (bTT h69) Z) (zd Z Z Z (ze (.dat _) Z) (yc (j:=19) Z Z (fun h72 => ?_) (fun h72 => ?_) Z)))))))
         ·exact u1 h72 H fun h73 H=>zd Z Z h72 (ze (.dat _) Z) (zd Z Z h72 (ze (.dat _) Z) (zd Z Z h72 (wi tyU9 Z Z h51) (bE H fun r74 h75 H=>zd Z Z h72 (zp (vt (x50.toNat:Int) r74 h75) ⟨.inl Z,U⟩) (zd Z Z h72 (qy Z Z) (zd Z Z Z (zx Z (bTT h73) Z) (za (zq Z Z Z) ⟨decide (r74≤102),H,⟨Z,Z,Z,Z,Z,U⟩,U⟩))))))
         ·exact u2 h72 H fun h76 H=>zc Z Z h72 (zc Z Z h72 (zc Z Z h72 (zc Z Z h72 (zc Z Z h72 (zd Z Z Z (zq Z (bFF h76) Z) (za (zq Z Z Z) ⟨false,H,⟨Z,Z,Z,Z,Z,U⟩,U⟩))))))
        ·exact u2 h68 H fun h77 H=>zc Z Z h68 (zc Z Z h68 (zc Z Z h68 (zc Z Z h68 (zc Z Z h68 (zd Z Z Z (zq Z (bFF h77) Z) (zd Z Z Z (ze (.dat _) Z) (zc Z Z Z (zc Z Z Z (zc Z Z Z (zc Z Z Z (zc Z Z Z (zd Z Z Z (zq Z Z Z) (za (zq Z Z Z) ⟨false,H,⟨Z,Z,Z,Z,Z,U⟩,U⟩)))))))))))))
      ·rintro v78 H
       replace H:ku v14 v46 v47 v78=some q48:=H
       unfold ku at H
       refine zi _ Z (fun h79 => ?_) (fun h79 => ?_)
       ·exact tE h79 H fun H=>zb hN Z (qe Z (yv ⟨48,H,⟨Z,Z,Z,Z,U⟩,U⟩))
       ·refine fE h79 H fun H=>zo (zh (zb hN Z (qd Z (qd Z (bE H fun x80 h81 H=>za (wi tyU9 Z Z h81) (za (yk Z Z) (zi _ Z (fun h82 => ?_) (fun h82 => ?_))))))))
        ·refine tE h82 H fun H=>zh (zb hN Z (qd Z (za (jn Z Z) (zi _ Z (fun h83 => ?_) (fun h83 => ?_)))))
         ·refine tE h83 H fun H=>zb hN Z (qe Z (zj ?_))
          replace H:=retl H hq48
          cases H
          exact ⟨U,.inl Z,U⟩
         ·exact fE h83 H fun H=>zo (zb hN Z (qe Z (yv ⟨95,H,⟨Z,Z,Z,Z,U⟩,U⟩)))
        ·refine fE h82 H fun H=>zo (zh (zb hN Z (qd Z (za (yk Z Z) (zi _ Z (fun h84 => ?_) (fun h84 => ?_))))))
         ·refine tE h84 H fun H=>zb hN Z (qe Z (zj ?_))
          replace H:=retl H hq48
          cases H
          exact ⟨U,.inl Z,U⟩
         ·exact fE h84 H fun H=>zo (zn hN Z (qe Z ⟨33,H,⟨Z,Z,Z,Z,U⟩,U⟩))
     ·rintro v85 H
      replace H:Wp v47 v85=some q48:=H
      unfold Wp at H
      exact zn hN Z (qd Z (za (yp _ Z Z (.inl ⟨Z,Z⟩)) (qe Z ⟨_,qc H,⟨Z,Z,Z,Z,U⟩,U⟩)))
    ·refine fE h49 H fun H=>yv ?_
     replace H:=outl H hq48
     exact ⟨v46,H,⟨Z,U⟩,U⟩
   ·rintro v86 H
    replace H:z4m v86=some r:=H
    unfold z4m at H
    refine zb hN Z (qd Z (za (jn Z Z) (qe Z (zj ?_))))
    cases H
    exact ⟨U,.inl Z,U⟩
theorem y0j (v1:Bs) (v2:Int) (v3:Int) (r:(Int×Int)) (H:z32 v1 v2 v3=some r):Fn Tryz.prog 150 [vstr v1,vint v2,vint v3] (zu [vval (.int .u64 r.1),verr r.2]):=by
 refine ⟨by kernel_rfl,yi (us:=[vval (.int .u64 r.1),verr r.2]) Tryz.func150 Z Z Z Z fun X hN => ?_⟩
 unfold z32 at H
 refine zb hN Z (qe Z (qe Z (zh (zb hN Z (qd Z (za (qx Z Z) (zi _ Z (fun h4 => ?_) (fun h4 => ?_))))))))
 ·refine tE h4 H fun H=>zb hN Z (za (yg (u':=verr 2) (vn (show Tryz.prog.underlying 152=some (.int .i64) from by kernel_rfl) Z) Z) ?_)
  refine qe Z (qe Z (zj ?_))
  cases H
  exact ⟨U,.inl Z,.inl Z,U⟩
 ·refine fE h4 H fun H=>zo (zb hN Z (qd Z (za (yk Z Z) (qe Z (zb hN Z (qd Z (qe Z (ya (ι:=Bs×Int) (fun i=>[(0,.dat (vstr i.1)),(1,.dat (vint i.2)),(2,.dat (vint v3)),(8,.dat (zf (decide (v2=0)))),(9,.dat (vstr v1))]) (fun i=>[]) (fun i=>uh v1 v2 v3 i.1 i.2=some r) (fun i=>Z) ?_ ?_))))))))
  ·skip
   refine ye (zb hN Z (qd Z (za (qy Z Z) (qd Z (yx Z Z (fun hc=>ze (.dat _) Z) (yx Z Z (fun hc=>qy (cnd (c:=(decide (2≤v2))) hc) Z) (za (wc Z (fun hb=>(cnd (c:=(decide (2≤v2))) hb)) Z) (qe Z (zi _ Z (fun h5 => ?_) (fun h5 => ?_))))))))))
   ·exact tE h5 H fun H=>zo ⟨(v1,v2),H,⟨Z,Z,Z,Z,Z,U⟩,U⟩
   ·refine fE h5 H fun H=>zb hN Z (qd Z (za (yk Z Z) (qe Z (zi _ Z (fun h6 => ?_) (fun h6 => ?_)))))
    ·refine tE h6 H fun H=>zb hN Z (qe Z (zb hN Z (qd Z (bE H fun x7 h8 H=>za (yw tyU9 Z Z h8) (za (yk Z Z) (zi _ Z (fun h9 => ?_) (fun h9 => ?_)))))))
     ·refine tE h9 H fun H=>ye (ya (ι:=Bool) (fun i=>[(0,.dat (vstr v1)),(2,.dat (vint v3)),(8,.dat (zf (decide (v2=0)))),(9,.dat (vstr v1)),(40,.dat (zf i))]) (fun i=>[]) (fun i=>z16 v1 v2 v3 i=some r) (fun i=>Z) ?_ ?_)
      ·skip
       refine zn hN Z (qd Z (za (yr tyU9 Z) (za (vc Z Z) (qd Z (yc (j:=3) Z Z (fun h10 => ?_) (fun h10 => ?_) Z)))))
       ·exact u1 h10 H fun h11 H=>zd Z Z h10 (ze (.dat _) Z) (bE H fun x12 h13 H=>zd Z Z h10 (yw tyU9 Z Z h13) (bE H fun r14 h15 H=>zd Z Z h10 (zp (vt (x12.toNat:Int) r14 h15) ⟨.inl Z,U⟩) (zd Z Z h10 (yk Z Z) (za (zx Z (bTT h11) Z) (qe Z ⟨decide (r14=98),H,⟨Z,Z,Z,Z,Z,U⟩,U⟩)))))
       ·exact u2 h10 H fun h16 H=>zc Z Z h10 (zc Z Z h10 (zc Z Z h10 (zc Z Z h10 (za (zq Z (bFF h16) Z) (qe Z ⟨false,H,⟨Z,Z,Z,Z,Z,U⟩,U⟩)))))
      ·rintro v17 H
       replace H:z16 v1 v2 v3 v17=some r:=H
       unfold z16 at H
       refine zi _ Z (fun h18 => ?_) (fun h18 => ?_)
       ·exact tE h18 H fun H=>zb hN Z (qe Z (zn hN Z (qd Z (bE H fun l19 h20 H=>za (qg tyU9 Z Z Z h20) (qe Z ⟨(l19,2),H,⟨Z,Z,Z,Z,Z,U⟩,U⟩)))))
       ·refine fE h18 H fun H=>ya (ι:=Bool) (fun i=>[(0,.dat (vstr v1)),(2,.dat (vint v3)),(8,.dat (zf (decide (v2=0)))),(9,.dat (vstr v1)),(52,.dat (zf i))]) (fun i=>[]) (fun i=>z15 v1 v2 v3 i=some r) (fun i=>Z) ?_ ?_
        ·skip
         refine zn hN Z (qd Z (za (yr tyU9 Z) (za (vc Z Z) (qd Z (yc (j:=3) Z Z (fun h21 => ?_) (fun h21 => ?_) Z)))))
         ·exact u1 h21 H fun h22 H=>zd Z Z h21 (ze (.dat _) Z) (bE H fun x23 h24 H=>zd Z Z h21 (yw tyU9 Z Z h24) (bE H fun r25 h26 H=>zd Z Z h21 (zp (vt (x23.toNat:Int) r25 h26) ⟨.inl Z,U⟩) (zd Z Z h21 (yk Z Z) (za (zx Z (bTT h22) Z) (qe Z ⟨decide (r25=111),H,⟨Z,Z,Z,Z,Z,U⟩,U⟩)))))
         ·exact u2 h21 H fun h27 H=>zc Z Z h21 (zc Z Z h21 (zc Z Z h21 (zc Z Z h21 (za (zq Z (bFF h27) Z) (qe Z ⟨false,H,⟨Z,Z,Z,Z,Z,U⟩,U⟩)))))
        ·rintro v28 H
         replace H:z15 v1 v2 v3 v28=some r:=H
         unfold z15 at H
         refine zi _ Z (fun h29 => ?_) (fun h29 => ?_)
         ·exact tE h29 H fun H=>zb hN Z (qe Z (zn hN Z (qd Z (bE H fun l30 h31 H=>za (qg tyU9 Z Z Z h31) (qe Z ⟨(l30,8),H,⟨Z,Z,Z,Z,Z,U⟩,U⟩)))))
         ·refine fE h29 H fun H=>ya (ι:=Bool) (fun i=>[(0,.dat (vstr v1)),(2,.dat (vint v3)),(8,.dat (zf (decide (v2=0)))),(9,.dat (vstr v1)),(64,.dat (zf i))]) (fun i=>[]) (fun i=>z14 v1 v2 v3 i=some r) (fun i=>Z) ?_ ?_
          ·skip
           refine zn hN Z (qd Z (za (yr tyU9 Z) (za (vc Z Z) (qd Z (yc (j:=3) Z Z (fun h32 => ?_) (fun h32 => ?_) Z)))))
           ·exact u1 h32 H fun h33 H=>zd Z Z h32 (ze (.dat _) Z) (bE H fun x34 h35 H=>zd Z Z h32 (yw tyU9 Z Z h35) (bE H fun r36 h37 H=>zd Z Z h32 (zp (vt (x34.toNat:Int) r36 h37) ⟨.inl Z,U⟩) (zd Z Z h32 (yk Z Z) (za (zx Z (bTT h33) Z) (qe Z ⟨decide (r36=120),H,⟨Z,Z,Z,Z,Z,U⟩,U⟩)))))
           ·exact u2 h32 H fun h38 H=>zc Z Z h32 (zc Z Z h32 (zc Z Z h32 (zc Z Z h32 (za (zq Z (bFF h38) Z) (qe Z ⟨false,H,⟨Z,Z,Z,Z,Z,U⟩,U⟩)))))
          ·rintro v39 H
           replace H:z14 v1 v2 v3 v39=some r:=H
           unfold z14 at H
           refine zi _ Z (fun h40 => ?_) (fun h40 => ?_)
           ·exact tE h40 H fun H=>zb hN Z (qe Z (zn hN Z (qd Z (bE H fun l41 h42 H=>za (qg tyU9 Z Z Z h42) (qe Z ⟨(l41,16),H,⟨Z,Z,Z,Z,Z,U⟩,U⟩)))))
           ·exact fE h40 H fun H=>zb hN Z (qe Z (zn hN Z (qd Z (bE H fun l43 h44 H=>za (qg tyU9 Z Z Z h44) (qe Z ⟨(l43,8),H,⟨Z,Z,Z,Z,Z,U⟩,U⟩)))))
     ·exact fE h9 H fun H=>zo ⟨(v1,10),H,⟨Z,Z,Z,Z,Z,U⟩,U⟩
    ·refine fE h6 H fun H=>zb hN Z (za (yg (u':=verr 3) (vn (show Tryz.prog.underlying 152=some (.int .i64) from by kernel_rfl) Z) Z) ?_)
     refine qe Z (qe Z (zj ?_))
     cases H
     exact ⟨U,.inl Z,.inl Z,U⟩
  ·rintro ⟨v45,v46⟩ H
   replace H:uh v1 v2 v3 v45 v46=some r:=H
   unfold uh at H
   refine ya (ι:=Int) (fun i=>[(0,.dat (vstr v45)),(1,.dat (vint v46)),(2,.dat (vint i)),(8,.dat (zf (decide (v2=0)))),(9,.dat (vstr v1))]) (fun i=>[]) (fun i=>z13 v1 v2 v45 v46 i=some r) (fun i=>Z) ?_ ?_
   ·skip
    refine zb hN Z (qd Z (za (yk Z Z) (zi _ Z (fun h47 => ?_) (fun h47 => ?_))))
    ·exact tE h47 H fun H=>zn hN Z (qe Z ⟨64,H,⟨Z,Z,Z,Z,Z,U⟩,U⟩)
    ·refine fE h47 H fun H=>zb hN Z (qd Z (za (yf Z Z) (qd Z (yu Z Z (fun hc=>ze (.dat _) Z) (yu Z Z (fun hc=>qz (cnd (c:=(!(decide (v3 < 0)))) hc) Z) (za (ww Z Z (fun hb=>(cnd (c:=(!(decide (v3 < 0)))) (notI hb)))) (zi _ Z (fun h48 => ?_) (fun h48 => ?_))))))))
     ·refine tE h48 H fun H=>zb hN Z (za (yg (u':=verr 4) (vn (show Tryz.prog.underlying 152=some (.int .i64) from by kernel_rfl) Z) Z) ?_)
      refine qe Z (qe Z (zj ?_))
      cases H
      exact ⟨U,.inl Z,.inl Z,U⟩
     ·exact fE h48 H fun H=>zo ⟨v3,H,⟨Z,Z,Z,Z,Z,U⟩,U⟩
   ·rintro v49 H
    replace H:z13 v1 v2 v45 v46 v49=some r:=H
    unfold z13 at H
    refine zb hN Z (qe Z (ya (ι:=Int) (fun i=>[(0,.dat (vstr v45)),(1,.dat (vint v46)),(2,.dat (vint v49)),(8,.dat (zf (decide (v2=0)))),(9,.dat (vstr v1)),(10,.dat (vval (.int .u64 i)))]) (fun i=>[]) (fun i=>Wr v1 v2 v45 v46 v49 i=some r) (fun i=>Z) ?_ ?_))
    ·skip
     refine zb hN Z (qd Z (ye (zb hN Z (za (yk Z Z) (qe Z (zi _ Z (fun h50 => ?_) (fun h50 => ?_)))))))
     ·exact tE h50 H fun H=>zn hN Z (qe Z ⟨1844674407370955162,H,⟨Z,Z,Z,Z,Z,Z,U⟩,U⟩)
     ·refine fE h50 H fun H=>zb hN Z (za (yk Z Z) (qe Z (zi _ Z (fun h51 => ?_) (fun h51 => ?_))))
      ·exact tE h51 H fun H=>zn hN Z (qe Z ⟨1152921504606846976,H,⟨Z,Z,Z,Z,Z,Z,U⟩,U⟩)
      ·exact fE h51 H fun H=>zn hN Z (qd Z (za (jd tyU3 xy Z) (gE H fun h52 H=>za (y21 Z Z h52) (za (yp _ Z Z (.inl ⟨Z,Z⟩)) (qe Z ⟨IntKind.wrap .u64 ((IntKind.wrap .u64 (Int.tdiv 18446744073709551615 (IntKind.wrap .u64 v46)))+1),H,⟨Z,Z,Z,Z,Z,Z,U⟩,U⟩)))))
    ·rintro v53 H
     replace H:Wr v1 v2 v45 v46 v49 v53=some r:=H
     unfold Wr at H
     refine zb hN Z (qd Z (za (jd tyU3 z8e Z) (gE H fun h54 H=>za (yg (z8o Z Z h54) Z) (za (yp _ Z Z (.inr (.inl ⟨Z,Z⟩))) (qe Z (zb hN Z (qe Z (zb hN Z (qe Z (zh (zb hN Z (qd Z (za (z8v (C:=yz) tyU9 xx tyU5 (fun _=>Z) Z) (za (ql xx Z) (qd Z (ye (gE H fun h59 H=>vf (fun (k57:Nat) (s:Bool×Int)=>[(1,.dat (vint v46)),(8,.dat (zf (decide (v2=0)))),(9,.dat (vstr v1)),(10,.dat (vval (.int .u64 v53))),(11,.dat (vval (.int .u64 (IntKind.wrap .u64 ((shl_ .u64 1 (IntKind.wrap .u64 v49)) - 1))))),(12,.dat (zf s.1)),(13,.dat (vval (.int .u64 s.2))),(99,.dat (vlst (List.map yz (yl v45)))),(100,.dat (vint ((yl v45).length:Int))),(101,.dat (vint (k57:Int)))]) (fun (k57:Nat) (s:Bool×Int)=>[]) (false,0) H ⟨Z,Z,Z,Z,Z,Z,Z,Z,Z,Z,U⟩ U (fun _ _=>Z) ?_ ?_)))))))))))))))))
     ·rintro ⟨v55,v56⟩ H
      replace H:z65 v1 v55 v56=some r:=H
      unfold z65 at H
      refine zb hN Z (za (yf Z Z) (zh (zi _ Z (fun h=>(lt_t h).elim) (fun h => ?_))))
      refine yv (zh (ya (ι:=Bool) (fun i=>[(13,.dat (vval (.int .u64 v56))),(169,.dat (zf i))]) (fun i=>[]) (fun i=>z12 v56 i=some r) (fun i=>Z) ?_ ?_))
      ·skip
       refine zn hN Z (qd Z (qd Z (yc (j:=1) Z Z (fun h61 => ?_) (fun h61 => ?_) Z)))
       ·exact u1 h61 H fun h62 H=>zd Z Z h61 (ze (.dat _) Z) (bE H fun r63 h64 H=>zd Z Z h61 (zp (y6o v1 r63 h64) ⟨.inl Z,U⟩) (zd Z Z h61 (yt Z) (za (zx Z (bTT h62) Z) ⟨!r63,H,⟨Z,Z,U⟩,U⟩)))
       ·exact u2 h61 H fun h65 H=>zc Z Z h61 (zc Z Z h61 (zc Z Z h61 (za (zq Z (bFF h65) Z) ⟨false,H,⟨Z,Z,U⟩,U⟩)))
      ·rintro v66 H
       replace H:z12 v56 v66=some r:=H
       unfold z12 at H
       refine zi _ Z (fun h67 => ?_) (fun h67 => ?_)
       ·refine tE h67 H fun H=>zb hN Z (za (yg (u':=verr 2) (vn (show Tryz.prog.underlying 152=some (.int .i64) from by kernel_rfl) Z) Z) ?_)
        refine qe Z (qe Z (zj ?_))
        cases H
        exact ⟨U,.inl Z,.inl Z,U⟩
       ·refine fE h67 H fun H=>zo (zb hN Z (qd Z (qe Z (qe Z (zj ?_)))))
        cases H
        exact ⟨U,.inl Z,.inl Z,U⟩
     ·rintro k57 x60 ⟨v55,v56⟩ q58 h68 h69 H hq58
      replace H:z64 v2 v46 v49 v53 k57 x60 v55 v56=some q58:=H
      unfold z64 at H
      refine zb hN Z (za (yf Z Z) (zh (zi _ Z (fun h => ?_) (fun h=>(lt_f h68 h).elim))))
      refine zo (ya (ι:=Bool×Int) (fun i=>[(1,.dat (vint v46)),(8,.dat (zf (decide (v2=0)))),(9,.dat (vstr v1)),(10,.dat (vval (.int .u64 v53))),(11,.dat (vval (.int .u64 (IntKind.wrap .u64 ((shl_ .u64 1 (IntKind.wrap .u64 v49)) - 1))))),(12,.dat (zf i.1)),(13,.dat (vval (.int .u64 i.2))),(99,.dat (vlst (List.map yz (yl v45)))),(100,.dat (vint ((yl v45).length:Int))),(101,.dat (vint (k57:Int)))]) (fun i=>[]) (fun i=>z11 i.1 i.2=some q58) (fun i=>Z) ?_ ?_)
      ·skip
       refine ye (zb hN Z (za (ja z8f (fun _=>Z) Z Z h69) (za (Qg tyS5 Z (wz h69) Z) (qe Z (zb hN Z (qe Z (ya (ι:=Int) (fun i=>[(1,.dat (vint v46)),(8,.dat (zf (decide (v2=0)))),(9,.dat (vstr v1)),(10,.dat (vval (.int .u64 v53))),(11,.dat (vval (.int .u64 (IntKind.wrap .u64 ((shl_ .u64 1 (IntKind.wrap .u64 v49)) - 1))))),(12,.dat (zf v55)),(13,.dat (vval (.int .u64 v56))),(16,.dat (vval (.int .u8 i))),(99,.dat (vlst (List.map yz (yl v45)))),(100,.dat (vint ((yl v45).length:Int))),(101,.dat (vint (k57:Int)))]) (fun i=>[]) (fun i=>z18 v46 v49 v53 v55 v56 i=some q58) (fun i=>Z) ?_ ?_)))))))
       ·skip
        refine ye (zb hN Z (qd Z (za (yk Z Z) (qd Z (yx Z Z (fun hc=>ze (.dat _) Z) (za (wc Z (fun hb=>(cnd (c:=(decide (x60=95))) hb)) Z) (qe Z (zi _ Z (fun h70 => ?_) (fun h70 => ?_)))))))))
        ·exact tE h70 H fun H=>zb hN Z (qe Z (yv ⟨(true,v56),H,⟨Z,Z,Z,Z,Z,Z,Z,Z,Z,Z,U⟩,U⟩))
        ·refine fE h70 H fun H=>zb hN Z (qd Z (za (qy Z Z) (qd Z (yx Z Z (fun hc=>ze (.dat _) Z) (yx Z Z (fun hc=>qy (cnd (c:=(decide (48≤x60))) hc) Z) (za (wc Z (fun hb=>(cnd (c:=(decide (48≤x60))) hb)) Z) (qe Z (zi _ Z (fun h71 => ?_) (fun h71 => ?_)))))))))
         ·exact tE h71 H fun H=>zn hN Z (qd Z (za (yp _ Z Z (.inr (.inl ⟨Z,Z⟩))) (qe Z ⟨IntKind.wrap .u8 (x60 - 48),H,⟨Z,Z,Z,Z,Z,Z,Z,Z,Z,Z,Z,U⟩,U⟩)))
         ·refine fE h71 H fun H=>ya (ι:=Bool) (fun i=>[(1,.dat (vint v46)),(8,.dat (zf (decide (v2=0)))),(9,.dat (vstr v1)),(10,.dat (vval (.int .u64 v53))),(11,.dat (vval (.int .u64 (IntKind.wrap .u64 ((shl_ .u64 1 (IntKind.wrap .u64 v49)) - 1))))),(12,.dat (zf v55)),(13,.dat (vval (.int .u64 v56))),(15,.dat (vval (.int .u8 x60))),(99,.dat (vlst (List.map yz (yl v45)))),(100,.dat (vint ((yl v45).length:Int))),(101,.dat (vint (k57:Int))),(121,.dat (zf i))]) (fun i=>[]) (fun i=>z17 v46 v49 v53 v55 v56 x60 i=some q58) (fun i=>Z) ?_ ?_
          ·skip
           refine zn hN Z (qd Z (bE H fun r72 h73 H=>za (zp (vt x60 r72 h73) ⟨.inl Z,U⟩) (za (qy Z Z) (qd Z (yc (j:=3) Z Z (fun h74 => ?_) (fun h74 => ?_) Z)))))
           ·exact u1 h74 H fun h75 H=>zd Z Z h74 (ze (.dat _) Z) (bE H fun r76 h77 H=>zd Z Z h74 (zp (vt x60 r76 h77) ⟨.inl Z,U⟩) (zd Z Z h74 (qy Z Z) (za (zx Z (bTT h75) Z) (qe Z ⟨decide (r76≤122),H,⟨Z,Z,Z,Z,Z,Z,Z,Z,Z,Z,Z,Z,U⟩,U⟩))))
           ·exact u2 h74 H fun h78 H=>zc Z Z h74 (zc Z Z h74 (zc Z Z h74 (za (zq Z (bFF h78) Z) (qe Z ⟨false,H,⟨Z,Z,Z,Z,Z,Z,Z,Z,Z,Z,Z,Z,U⟩,U⟩))))
          ·rintro v79 H
           replace H:z17 v46 v49 v53 v55 v56 x60 v79=some q58:=H
           unfold z17 at H
           refine zi _ Z (fun h80 => ?_) (fun h80 => ?_)
           ·exact tE h80 H fun H=>zn hN Z (qd Z (bE H fun r81 h82 H=>za (zp (vt x60 r81 h82) ⟨.inl Z,U⟩) (za (yp _ Z Z (.inr (.inl ⟨Z,Z⟩))) (za (yp _ Z Z (.inl ⟨Z,Z⟩)) (qe Z ⟨IntKind.wrap .u8 ((IntKind.wrap .u8 (r81 - 97))+10),H,⟨Z,Z,Z,Z,Z,Z,Z,Z,Z,Z,Z,U⟩,U⟩)))))
           ·refine fE h80 H fun H=>zb hN Z (za (yg (u':=verr 2) (vn (show Tryz.prog.underlying 152=some (.int .i64) from by kernel_rfl) Z) Z) ?_)
            refine qe Z (qe Z (zj ?_))
            replace H:=retl H hq58
            cases H
            exact ⟨U,.inl Z,.inl Z,U⟩
       ·rintro v83 H
        replace H:z18 v46 v49 v53 v55 v56 v83=some q58:=H
        unfold z18 at H
        refine zh (zb hN Z (qd Z (qd Z (za (jd tyU3 tyU5 Z) (za (vc Z Z) (zi _ Z (fun h84 => ?_) (fun h84 => ?_)))))))
        ·refine tE h84 H fun H=>zb hN Z (za (yg (u':=verr 2) (vn (show Tryz.prog.underlying 152=some (.int .i64) from by kernel_rfl) Z) Z) ?_)
         refine qe Z (qe Z (zj ?_))
         replace H:=retl H hq58
         cases H
         exact ⟨U,.inl Z,.inl Z,U⟩
        ·refine fE h84 H fun H=>zo (zh (zb hN Z (qd Z (qd Z (za (vc Z Z) (zi _ Z (fun h85 => ?_) (fun h85 => ?_)))))))
         ·refine tE h85 H fun H=>zb hN Z (qd Z (za (yg (u':=verr 1) (vn (show Tryz.prog.underlying 152=some (.int .i64) from by kernel_rfl) Z) Z) ?_))
          refine qe Z (qe Z (zj ?_))
          replace H:=retl H hq58
          cases H
          exact ⟨U,.inl Z,.inl Z,U⟩
         ·refine fE h85 H fun H=>zo (zb hN Z (qd Z (qd Z (za (jd tyU3 xy Z) (za (yp _ Z Z (.inr (.inr ⟨Z,Z⟩))) (qe Z (zb hN Z (qd Z (qd Z (za (jd tyU5 xy Z) (za (yp _ Z Z (.inl ⟨Z,Z⟩)) (qe Z (zh (zb hN Z (qd Z (qd Z (za (yf Z Z) (qd Z (yu Z Z (fun hc=>ze (.dat _) Z) (yu Z Z (fun hc=>ze (.dat _) Z) (yu Z Z (fun hc=>qz (cnd (c:=(!(decide ((IntKind.wrap .u64 ((IntKind.wrap .u64 (v56 * (IntKind.wrap .u64 v46)))+(IntKind.wrap .u64 v83))) < (IntKind.wrap .u64 (v56 * (IntKind.wrap .u64 v46))))))) hc) (cnd (c:=(!(decide ((IntKind.wrap .u64 ((IntKind.wrap .u64 (v56 * (IntKind.wrap .u64 v46)))+(IntKind.wrap .u64 v83))) < (IntKind.wrap .u64 (v56 * (IntKind.wrap .u64 v46))))))) hc)) (za (ww Z Z (fun hb=>(cnd (c:=(!(decide ((IntKind.wrap .u64 ((IntKind.wrap .u64 (v56 * (IntKind.wrap .u64 v46)))+(IntKind.wrap .u64 v83))) < (IntKind.wrap .u64 (v56 * (IntKind.wrap .u64 v46))))))) (notI hb)))) ?_))))))))))))))))))))))
          refine zi _ Z (fun h86 => ?_) (fun h86 => ?_)
          ·refine tE h86 H fun H=>zb hN Z (qd Z (za (yg (u':=verr 1) (vn (show Tryz.prog.underlying 152=some (.int .i64) from by kernel_rfl) Z) Z) ?_))
           refine qe Z (qe Z (zj ?_))
           replace H:=retl H hq58
           cases H
           exact ⟨U,.inl Z,.inl Z,U⟩
          ·exact fE h86 H fun H=>zo (zn hN Z (qd Z (qe Z ⟨(v55,IntKind.wrap .u64 ((IntKind.wrap .u64 (v56 * (IntKind.wrap .u64 v46)))+(IntKind.wrap .u64 v83))),H,⟨Z,Z,Z,Z,Z,Z,Z,Z,Z,Z,U⟩,U⟩)))
      ·rintro ⟨v87,v88⟩ H
       replace H:z11 v87 v88=some q58:=H
       unfold z11 at H
       exact zn hN Z (za (wj Z Z (by omega)) (qd Z ⟨_,qc H,⟨Z,Z,Z,Z,Z,Z,Z,Z,Z,Z,U⟩,U⟩))
theorem y6p (v1:Bs) (v2:Int) (v3:Int) (r:(Int×Int)) (H:z6q v1 v2 v3=some r):Fn Tryz.prog 130 [vstr v1,vint v2,vint v3] (zu [vint r.1,verr r.2]):=by
 refine ⟨by kernel_rfl,yi (us:=[vint r.1,verr r.2]) Tryz.func130 Z Z Z Z fun X hN => ?_⟩
 unfold z6q at H
 refine zb hN Z (qe Z (qe Z (zh (zb hN Z (qd Z (za (qx Z Z) (zi _ Z (fun h4 => ?_) (fun h4 => ?_))))))))
 ·refine tE h4 H fun H=>zb hN Z (za (yg (u':=verr 2) (vn (show Tryz.prog.underlying 152=some (.int .i64) from by kernel_rfl) Z) Z) ?_)
  refine qe Z (qe Z (zj ?_))
  cases H
  exact ⟨U,.inl Z,.inl Z,U⟩
 ·refine fE h4 H fun H=>zo (zb hN Z (qe Z (ya (ι:=Bs×Bool) (fun i=>[(0,.dat (vstr i.1)),(1,.dat (vint v2)),(2,.dat (vint v3)),(8,.dat (zf i.2))]) (fun i=>[]) (fun i=>Ws v2 v3 i.1 i.2=some r) (fun i=>Z) ?_ ?_)))
  ·skip
   refine zb hN Z (qd Z (bE H fun x5 h6 H=>za (yw tyU9 Z Z h6) (ye (zb hN Z (za (yk Z Z) (qe Z (zi _ Z (fun h7 => ?_) (fun h7 => ?_))))))))
   ·exact tE h7 H fun H=>zn hN Z (qd Z (bE H fun l8 h9 H=>za (qg tyU9 Z Z Z h9) (qe Z ⟨(l8,false),H,⟨Z,Z,Z,Z,U⟩,U⟩)))
   ·refine fE h7 H fun H=>zb hN Z (za (yk Z Z) (qe Z (zi _ Z (fun h10 => ?_) (fun h10 => ?_))))
    ·exact tE h10 H fun H=>zb hN Z (qd Z (bE H fun l11 h12 H=>za (qg tyU9 Z Z Z h12) (qe Z (zn hN Z (qe Z ⟨(l11,true),H,⟨Z,Z,Z,Z,U⟩,U⟩)))))
    ·exact fE h10 H fun H=>zo ⟨(v1,false),H,⟨Z,Z,Z,Z,U⟩,U⟩
  ·rintro ⟨v13,v14⟩ H
   replace H:Ws v2 v3 v13 v14=some r:=H
   unfold Ws at H
   refine zb hN Z (qe Z (zb hN Z (qd Z (qd Z (qd Z (bE H fun r15 h16 H=>za (zp (y0j v13 v2 v3 r15 h16) ⟨.inl Z,.inl Z,.inl Z,U⟩) (qd Z (za (yn Z Z) (za (yn Z Z) (qe Z (qe Z (zh (ya (ι:=Bool) (fun i=>[(2,.dat (vint v3)),(7,.dat (verr r15.2)),(8,.dat (zf v14)),(9,.dat (vval (.int .u64 r15.1))),(38,.dat (zf i))]) (fun i=>[]) (fun i=>z2b v3 v14 r15 i=some r) (fun i=>Z) ?_ ?_)))))))))))))
   ·skip
    refine zn hN Z (qd Z (za (z0v (n:=r15.2) (show Tryz.prog.underlying 91=some (.interface (Tryz.prog.methodsAt 91)) from by kernel_rfl) Z) ?_))
    refine qd Z (yc (j:=2) Z Z (fun h17 => ?_) (fun h17 => ?_) Z)
    ·refine u1 h17 H fun h18 H=>zd Z Z h17 (ze (.dat _) Z) (zd Z Z h17 (yg (u':=verr 1) (vn (show Tryz.prog.underlying 152=some (.int .i64) from by kernel_rfl) Z) Z) ?_)
     refine gE H fun h19 H=>zd Z Z h17 (y3c (n:=r15.2) (m:=1) (show Tryz.prog.underlying 91=some (.interface (Tryz.prog.methodsAt 91)) from by kernel_rfl) (by kernel_rfl) (by kernel_rfl) Z Z h19 (by decide)) ?_
     exact za (zx Z (bTT h18) Z) ⟨decide (r15.2≠1),H,⟨Z,Z,Z,Z,Z,U⟩,U⟩
    ·exact u2 h17 H fun h20 H=>zc Z Z h17 (zc Z Z h17 (zc Z Z h17 (za (zq Z (bFF h20) Z) ⟨false,H,⟨Z,Z,Z,Z,Z,U⟩,U⟩)))
   ·rintro v21 H
    replace H:z2b v3 v14 r15 v21=some r:=H
    unfold z2b at H
    refine zi _ Z (fun h22 => ?_) (fun h22 => ?_)
    ·refine tE h22 H fun H=>zb hN Z (qd Z (qe Z (qe Z (zj ?_))))
     cases H
     exact ⟨U,.inl Z,.inl Z,U⟩
    ·refine fE h22 H fun H=>zo (ya (ι:=Int) (fun i=>[(2,.dat (vint i)),(8,.dat (zf v14)),(9,.dat (vval (.int .u64 r15.1)))]) (fun i=>[]) (fun i=>z2a v14 r15 i=some r) (fun i=>Z) ?_ ?_)
     ·skip
      refine zb hN Z (qd Z (za (yk Z Z) (zi _ Z (fun h23 => ?_) (fun h23 => ?_))))
      ·exact tE h23 H fun H=>zn hN Z (qe Z ⟨64,H,⟨Z,Z,Z,U⟩,U⟩)
      ·exact fE h23 H fun H=>zo ⟨v3,H,⟨Z,Z,Z,U⟩,U⟩
     ·rintro v24 H
      replace H:z2a v14 r15 v24=some r:=H
      unfold z2a at H
      refine zb hN Z (qd Z (za (yp _ Z Z (.inr (.inl ⟨Z,Z⟩))) (za (jd tyU3 z8e Z) (gE H fun h25 H=>za (yg (z8o Z Z h25) Z) (qe Z (zh (zb hN Z (qd Z (za (yt Z) (qd Z (yx Z Z (fun hc=>ze (.dat _) Z) (yx Z Z (fun hc=>ze (.dat _) Z) (yx Z Z (fun hc=>vc (cnd (c:=(!v14)) hc) (cnd (c:=(!v14)) hc)) (za (wc Z (fun hb=>(cnd (c:=(!v14)) hb)) Z) (zi _ Z (fun h26 => ?_) (fun h26 => ?_))))))))))))))))
      ·refine tE h26 H fun H=>zb hN Z (qd Z (za (yp _ Z Z (.inr (.inl ⟨Z,Z⟩))) (za (jd xy tyU2 Z) (za (yg (u':=verr 1) (vn (show Tryz.prog.underlying 152=some (.int .i64) from by kernel_rfl) Z) Z) ?_))))
       refine qe Z (qe Z (zj ?_))
       cases H
       exact ⟨U,.inl Z,.inl Z,U⟩
      ·refine fE h26 H fun H=>zo (zh (zb hN Z (qd Z (qd Z (yx Z Z (fun hc=>ze (.dat _) Z) (yx Z Z (fun hc=>ze (.dat _) Z) (yx Z Z (fun hc=>qz (cnd (c:=v14) hc) (cnd (c:=v14) hc)) (za (wc Z (fun hb=>(cnd (c:=v14) hb)) Z) (zi _ Z (fun h27 => ?_) (fun h27 => ?_))))))))))
       ·refine tE h27 H fun H=>zb hN Z (qd Z (za (jd xy tyU2 Z) (za (z8r Z) (za (yg (u':=verr 1) (vn (show Tryz.prog.underlying 152=some (.int .i64) from by kernel_rfl) Z) Z) ?_))))
        refine qe Z (qe Z (zj ?_))
        cases H
        exact ⟨U,.inl Z,.inl Z,U⟩
       ·refine fE h27 H fun H=>zo (zb hN Z (qd Z (za (jd xy tyU2 Z) (qe Z (ya (ι:=Int) (fun i=>[(11,.dat (vint i))]) (fun i=>[]) (fun i=>z19 i=some r) (fun i=>Z) ?_ ?_)))))
        ·skip
         refine zb hN Z (qd Z (zi _ Z (fun h28 => ?_) (fun h28 => ?_)))
         ·exact tE h28 H fun H=>zn hN Z (qd Z (za (z8r Z) (qe Z ⟨(wr (-(IntKind.wrap .i64 r15.1))),H,⟨Z,U⟩,U⟩)))
         ·exact fE h28 H fun H=>zo ⟨IntKind.wrap .i64 r15.1,H,⟨Z,U⟩,U⟩
        ·rintro v29 H
         replace H:z19 v29=some r:=H
         unfold z19 at H
         refine zb hN Z (qd Z (qe Z (qe Z (zj ?_))))
         cases H
         exact ⟨U,.inl Z,.inl Z,U⟩
theorem y6q (v1:Bs) (r:(Int×Int)) (H:Zz v1=some r):Fn Tryz.prog 110 [vstr v1] (zu [vint r.1,verr r.2]):=by
 refine ⟨by kernel_rfl,yi (us:=[vint r.1,verr r.2]) Tryz.func110 Z Z Z Z fun X hN => ?_⟩
 unfold Zz at H
 refine zb hN Z (qe Z (qe Z (zb hN Z (qd Z (za (yr tyU9 Z) (qe Z (zh (zb hN Z (qd Z (yx (s := .dat (vint (v1.length:Int))) Z Z (fun hc=>ze (.dat _) Z) (yx (s := .dat (zf (decide (0 < (v1.length:Int))))) Z Z (fun hc=>yf Z (cnd (c:=false) (s := .dat (vint (v1.length:Int))) hc)) (yx (s := .dat (zf (decide (0 < (v1.length:Int))))) Z Z (fun hc=>ze (.dat _) (cnd (c:=false) (s := .dat (zf (decide (0 < (v1.length:Int))))) hc)) (vo (s := .dat (vint (v1.length:Int))) (c:=false) (b:=decide (0 < (v1.length:Int))) Z Z (fun hc=>ze (.dat _) Z) (vo (s := .dat (zf (decide ((v1.length:Int) < 10)))) (c:=false) (b:=decide (0 < (v1.length:Int))) Z Z (fun hc=>yf (cnd (c:=(false && (decide (0 < (v1.length:Int))))) (s := .dat (vint (v1.length:Int))) hc) Z) (yx (s := .dat (zf ((decide (0 < (v1.length:Int))) && (decide ((v1.length:Int) < 10))))) Z Z (fun hc=>wc (cnd (c:=false) (s := .dat (zf (decide (0 < (v1.length:Int))))) hc) (fun hb=>(cnd (c:=(false && (decide (0 < (v1.length:Int))))) (s := .dat (zf (decide ((v1.length:Int) < 10)))) (andI hc hb))) Z) (za (wc Z (fun hb=>(cnd (c:=false) (s := .dat (zf ((decide (0 < (v1.length:Int))) && (decide ((v1.length:Int) < 10))))) hb)) Z) (qd Z (yu (s := .dat (zf true)) Z Z (fun hc=>ze (.dat _) Z) (vo (s := .dat (vint (v1.length:Int))) (c:=(!(false && ((decide (0 < (v1.length:Int))) && (decide ((v1.length:Int) < 10)))))) (b:=true) Z Z (fun hc=>ze (.dat _) Z) (vo (s := .dat (zf (decide (0 < (v1.length:Int))))) (c:=(!(false && ((decide (0 < (v1.length:Int))) && (decide ((v1.length:Int) < 10)))))) (b:=true) Z Z (fun hc=>yf Z (cnd (c:=((!(false && ((decide (0 < (v1.length:Int))) && (decide ((v1.length:Int) < 10))))) && true)) (s := .dat (vint (v1.length:Int))) hc)) (vo (s := .dat (zf (decide (0 < (v1.length:Int))))) (c:=(!(false && ((decide (0 < (v1.length:Int))) && (decide ((v1.length:Int) < 10)))))) (b:=true) Z Z (fun hc=>ze (.dat _) (cnd (c:=((!(false && ((decide (0 < (v1.length:Int))) && (decide ((v1.length:Int) < 10))))) && true)) (s := .dat (zf (decide (0 < (v1.length:Int))))) hc)) (vo (s := .dat (vint (v1.length:Int))) (c:=((!(false && ((decide (0 < (v1.length:Int))) && (decide ((v1.length:Int) < 10))))) && true)) (b:=decide (0 < (v1.length:Int))) Z Z (fun hc=>ze (.dat _) Z) (vo (s := .dat (zf (decide ((v1.length:Int) < 19)))) (c:=((!(false && ((decide (0 < (v1.length:Int))) && (decide ((v1.length:Int) < 10))))) && true)) (b:=decide (0 < (v1.length:Int))) Z Z (fun hc=>yf (cnd (c:=(((!(false && ((decide (0 < (v1.length:Int))) && (decide ((v1.length:Int) < 10))))) && true) && (decide (0 < (v1.length:Int))))) (s := .dat (vint (v1.length:Int))) hc) Z) ?_)))))))))))))))))))))))
 refine vo (s := .dat (zf ((decide (0 < (v1.length:Int))) && (decide ((v1.length:Int) < 19))))) (c:=(!(false && ((decide (0 < (v1.length:Int))) && (decide ((v1.length:Int) < 10)))))) (b:=true) Z Z (fun hc=>wc (cnd (c:=((!(false && ((decide (0 < (v1.length:Int))) && (decide ((v1.length:Int) < 10))))) && true)) (s := .dat (zf (decide (0 < (v1.length:Int))))) hc) (fun hb=>(cnd (c:=(((!(false && ((decide (0 < (v1.length:Int))) && (decide ((v1.length:Int) < 10))))) && true) && (decide (0 < (v1.length:Int))))) (s := .dat (zf (decide ((v1.length:Int) < 19)))) (andI hc hb))) Z) (yu (s := .dat (zf (true && ((decide (0 < (v1.length:Int))) && (decide ((v1.length:Int) < 19)))))) Z Z (fun hc=>wc (cnd (c:=(!(false && ((decide (0 < (v1.length:Int))) && (decide ((v1.length:Int) < 10)))))) (s := .dat (zf true)) hc) (fun hb=>(cnd (c:=((!(false && ((decide (0 < (v1.length:Int))) && (decide ((v1.length:Int) < 10))))) && true)) (s := .dat (zf ((decide (0 < (v1.length:Int))) && (decide ((v1.length:Int) < 19))))) (andI hc hb))) Z) (za (ww Z Z (fun hb=>(cnd (c:=(!(false && ((decide (0 < (v1.length:Int))) && (decide ((v1.length:Int) < 10)))))) (s := .dat (zf (true && ((decide (0 < (v1.length:Int))) && (decide ((v1.length:Int) < 19)))))) (notI hb)))) (zi _ Z (fun h2 => ?_) (fun h2 => ?_))))
 ·refine tE h2 H fun H=>zb hN Z (qd Z (qe Z (ya (ι:=Bs) (fun i=>[(0,.dat (vstr i)),(5,.dat (vstr v1))]) (fun i=>[]) (fun i=>Yh v1 i=some r) (fun i=>Z) ?_ ?_)))
  ·skip
   refine ya (ι:=Bool) (fun i=>[(0,.dat (vstr v1)),(5,.dat (vstr v1)),(39,.dat (zf i))]) (fun i=>[]) (fun i=>Yg v1 i=some r) (fun i=>Z) ?_ ?_
   ·skip
    refine zn hN Z (qd Z (bE H fun x3 h4 H=>za (yw tyU9 Z Z h4) (za (yk Z Z) (qd Z (yc (j:=3) Z Z (fun h5 => ?_) (fun h5 => ?_) Z)))))
    ·exact u3 h5 H fun h6 H=>zd Z Z h5 (ze (.dat _) Z) (zd Z Z h5 (yw tyU9 Z Z h4) (zd Z Z h5 (yk Z Z) (za (zq Z (bFF h6) Z) ⟨decide ((x3.toNat:Int)=43),H,⟨Z,Z,Z,U⟩,U⟩)))
    ·exact u4 h5 H fun h7 H=>zc Z Z h5 (zc Z Z h5 (zc Z Z h5 (za (zx Z (bTT h7) Z) ⟨true,H,⟨Z,Z,Z,U⟩,U⟩)))
   ·rintro v8 H
    replace H:Yg v1 v8=some r:=H
    unfold Yg at H
    refine zi _ Z (fun h9 => ?_) (fun h9 => ?_)
    ·refine tE h9 H fun H=>zb hN Z (qd Z (bE H fun l10 h11 H=>za (qg tyU9 Z Z Z h11) (qe Z (zb hN Z (qd Z (za (yr tyU9 Z) (za (yf Z Z) (zi _ Z (fun h12 => ?_) (fun h12 => ?_)))))))))
     ·refine tE h12 H fun H=>zb hN Z (za (yg (u':=verr 2) (vn (show Tryz.prog.underlying 152=some (.int .i64) from by kernel_rfl) Z) Z) ?_)
      refine qe Z (qe Z (zj ?_))
      cases H
      exact ⟨U,.inl Z,.inl Z,U⟩
     ·exact fE h12 H fun H=>zo ⟨l10,H,⟨Z,Z,U⟩,U⟩
    ·exact fE h9 H fun H=>zo ⟨v1,H,⟨Z,Z,U⟩,U⟩
  ·rintro v13 H
   replace H:Yh v1 v13=some r:=H
   unfold Yh at H
   refine zb hN Z (qe Z (zh (zb hN Z (qd Z (za (z8v (C:=yz) tyU9 xx tyU5 (fun _=>Z) Z) (za (ql xx Z) (qd Z (ye (gE H fun h17 H=>vf (fun (k15:Nat) (s:Int)=>[(5,.dat (vstr v1)),(6,.dat (vint s)),(47,.dat (vlst (List.map yz (yl v13)))),(48,.dat (vint ((yl v13).length:Int))),(49,.dat (vint (k15:Int)))]) (fun (k15:Nat) (s:Int)=>[]) 0 H ⟨Z,Z,Z,Z,Z,U⟩ U (fun _ _=>Z) ?_ ?_)))))))))
   ·rintro v14 H
    replace H:Yi v1 v14=some r:=H
    unfold Yi at H
    refine zb hN Z (za (yf Z Z) (zh (zi _ Z (fun h=>(lt_t h).elim) (fun h => ?_))))
    refine yv (ya (ι:=Int) (fun i=>[(6,.dat (vint i))]) (fun i=>[]) (fun i=>Yf i=some r) (fun i=>Z) ?_ ?_)
    ·skip
     refine zb hN Z (qd Z (bE H fun x19 h20 H=>za (yw tyU9 Z Z h20) (za (yk Z Z) (zi _ Z (fun h21 => ?_) (fun h21 => ?_)))))
     ·exact tE h21 H fun H=>zn hN Z (qd Z (gE H fun h22 H=>za (y24 Z h22) (qe Z ⟨(-v14),H,⟨Z,U⟩,U⟩)))
     ·exact fE h21 H fun H=>zo ⟨v14,H,⟨Z,U⟩,U⟩
    ·rintro v23 H
     replace H:Yf v23=some r:=H
     unfold Yf at H
     refine zb hN Z (qd Z (qe Z (qe Z (zj ?_))))
     cases H
     exact ⟨U,.inl Z,.inl Z,U⟩
   ·rintro k15 x18 v14 q16 h24 h25 H hq16
    replace H:Wt k15 x18 v14=some q16:=H
    unfold Wt at H
    refine zb hN Z (za (yf Z Z) (zh (zi _ Z (fun h => ?_) (fun h=>(lt_f h24 h).elim))))
    refine zo (zh (ye (zb hN Z (za (ja z8f (fun _=>Z) Z Z h25) (za (Qg tyS5 Z (wz h25) Z) (qe Z (zb hN Z (qd Z (za (yp _ Z Z (.inr (.inl ⟨Z,Z⟩))) (qe Z (zh (zb hN Z (qd Z (za (qz Z Z) (zi _ Z (fun h26 => ?_) (fun h26 => ?_))))))))))))))))
    ·refine tE h26 H fun H=>zb hN Z (za (yg (u':=verr 2) (vn (show Tryz.prog.underlying 152=some (.int .i64) from by kernel_rfl) Z) Z) ?_)
     refine qe Z (qe Z (zj ?_))
     replace H:=retl H hq16
     cases H
     exact ⟨U,.inl Z,.inl Z,U⟩
    ·exact fE h26 H fun H=>zo (zn hN Z (qd Z (za (yp _ Z Z (.inr (.inr ⟨Z,Z⟩))) (qd Z (za (jd tyU5 tyU3 Z) (za (yp _ Z Z (.inl ⟨Z,Z⟩)) (qe Z (zn hN Z (za (wj Z Z (by omega)) (qd Z ⟨_,qc H,⟨Z,Z,Z,Z,Z,U⟩,U⟩))))))))))
 ·refine fE h2 H fun H=>zo (zb hN Z (qd Z (bE H fun r27 h28 H=>za (zp (y6p v1 10 0 r27 h28) ⟨.inl Z,.inl Z,.inl Z,U⟩) (qd Z (za (yn Z Z) (za (yn Z Z) (qe Z (qe Z (zb hN Z (qd Z (qd Z (qe Z (qe Z (zj ?_))))))))))))))
  cases H
  exact ⟨U,.inl Z,.inl Z,U⟩
theorem y0c (fn s:Bs) (base bits e r:Int) (H:z6i fn s base bits e=some r):Fn Tryz.prog 111 [vstr fn,vstr s,vint base,vint bits,verr e] (zu [verr r]):=by
 obtain ⟨⟨h1,h2,h3⟩,h4⟩:=gif H
 cases h4
 refine uj (by kernel_rfl) fun M w vs hM h => ?_
 rcases h3 with rfl | rfl
 ·have hv:=jw (us:=[.string ⟨fn.toArray⟩,.string ⟨s.toArray⟩,.int .i64 base,.int .i64 bits,.iface 152 (.int .i64 2)]) h
  subst hv
  obtain ⟨tp,p,hc⟩:=y9f hM
  refine (Tryz.strconv_toError_syntax ⟨fn.toArray⟩ ⟨s.toArray⟩ base bits (.iface tp p) w (by simp [ByteArray.size]; omega) hc (.inr ⟨tp,p,Z⟩)).mono ?_
  rintro e w' ⟨N,rfl,_,_,hb⟩
  exact ⟨_,Z,⟨_,_,Z⟩,Kp.of_below hb⟩
 ·have hv:=jw (us:=[.string ⟨fn.toArray⟩,.string ⟨s.toArray⟩,.int .i64 base,.int .i64 bits,.iface 152 (.int .i64 1)]) h
  subst hv
  obtain ⟨tp,p,hc⟩:=y9g hM
  refine (Tryz.strconv_toError_range ⟨fn.toArray⟩ ⟨s.toArray⟩ base bits (.iface tp p) w (by simp [ByteArray.size]; omega) hc (.inr ⟨tp,p,Z⟩)).mono ?_
  rintro e w' ⟨N,rfl,_,_,hb⟩
  exact ⟨_,Z,⟨_,_,Z⟩,Kp.of_below hb⟩
theorem z6t (s1:Bs) (r:(Int×Int)) (H:jr s1=some r):Fn Tryz.prog 82 [vstr s1] (zu [vint r.1,verr r.2]):=by
 refine ⟨by kernel_rfl,yi (us:=[vint r.1,verr r.2]) Tryz.func82 Z Z Z Z fun X hN => ?_⟩
 unfold jr at H
 refine zb hN Z (qe Z (qe Z (zb hN Z (qd Z (bE H fun r2 h3 H=>za (zp (y6q s1 r2 h3) ⟨.inl Z,U⟩) (qd Z (za (yn Z Z) (za (yn Z Z) (qe Z (qe Z (zh (zb hN Z (qd Z (za (z0v (n:=r2.2) (show Tryz.prog.underlying 91=some (.interface (Tryz.prog.methodsAt 91)) from by kernel_rfl) Z) ?_))))))))))))))
 refine zi _ Z (fun h4 => ?_) (fun h4 => ?_)
 ·refine tE h4 H fun H=>zb hN Z (qd Z (qd Z (qd Z (bE H fun r5 h6 H=>za (zp (y0c [65,116,111,105] s1 0 0 r2.2 r5 h6) ⟨.inl Z,.inl Z,.inl Z,.inl Z,.inl Z,U⟩) (qe Z (qe Z (zj ?_)))))))
  cases H
  exact ⟨U,.inl Z,.inl Z,U⟩
 ·refine fE h4 H fun H=>zo (zb hN Z (qd Z (qe Z (qe Z (zj ?_)))))
  cases H
  exact ⟨U,.inl Z,.inl Z,U⟩
end Go.Proofs.YtpjjkhcojjcdpaaGreatDoor
