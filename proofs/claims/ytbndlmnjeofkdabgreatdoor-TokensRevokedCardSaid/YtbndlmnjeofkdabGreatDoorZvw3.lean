/- Walks along the models. Printed by a program. -/
import Derived.Test.YtbndlmnjeofkdabGreatDoorZvw2
namespace Go.Proofs.YtbndlmnjeofkdabGreatDoor
open Go.RowKit
set_option linter.unusedVariables false
set_option maxRecDepth 100000
set_option maxHeartbeats 2000000
theorem z6s (l1:(List Int)) (r:(Int)) (H:kt l1=some r):Fn Tryz.prog 11 [vlst (List.map z1m l1)] (zo [vint r]):=by
 refine ⟨by kernel_rfl,yb (us:=[vint r]) Tryz.func11 Z Z Z Z fun X hN => ?_⟩
 unfold kt at H
 refine zb hN Z (qe Z (ze (zb hN Z (qd Z (za (yk z8m Z) (qd Z (zw (gE H fun h4 H=>qv (fun (k2:Nat) (s:Unit)=>[(5,.dat (vlst (List.map z1m l1))),(6,.dat (vint (l1.length:Int))),(7,.dat (vint (k2:Int)))]) (fun (k2:Nat) (s:Unit)=>[]) () H ⟨Z,Z,Z,U⟩ U (fun _ _=>Z) ?_ ?_))))))))
 ·rintro ⟨⟩ H
  replace H:Wd=some r:=H
  unfold Wd at H
  refine zb hN Z (za (zx Z Z) (ze (zg _ Z (fun h=>(lt_t h).elim) (fun h => ?_))))
  refine yv (zb hN Z (qe Z (zh ?_)))
  cases H
  exact ⟨U,.inl Z,U⟩
 ·rintro k2 x5 ⟨⟩ q3 h6 h7 H hq3
  replace H:Wc k2 x5=some q3:=H
  unfold Wc at H
  refine zb hN Z (za (zx Z Z) (ze (zg _ Z (fun h => ?_) (fun h=>(lt_f h6 h).elim))))
  refine zl (ze (zw (zb hN Z (za (qx z8u (fun _=>Z) Z Z h7) (za (ym z8o Z (yr h7) Z) (qe Z (zb hN Z (qd Z (za (vf Z Z) (zg _ Z (fun h8 => ?_) (fun h8 => ?_)))))))))))
  ·refine tE h8 H fun H=>zb hN Z (qd Z (qe Z (zh ?_)))
   replace H:=retl H hq3
   cases H
   exact ⟨U,.inl Z,U⟩
  ·exact fE h8 H fun H=>zl (zt hN Z (za (qg Z Z (by omega)) (qd Z ⟨_,yt H,⟨Z,Z,Z,U⟩,U⟩)))
theorem y23 (r1:zc) (c2:yi) (r:(Bool)) (H:Zd r1 c2=some r):Fn Tryz.prog 44 [vagg (zn r1),qj [[vstr c2.Id,vstr c2.Subject,vstr c2.Issuer,vstr c2.Parent,vlst (List.map zi c2.Audience),vlst (List.map zi c2.Scopes),vint c2.From,vint c2.To]] 0 0] (zo [zk r]):=by
 refine ⟨by kernel_rfl,yb (us:=[zk r]) Tryz.func44 Z Z Z Z fun X hN => ?_⟩
 unfold Zd at H
 refine zb hN Z (zj (vk 1 Z) Z (qe Z (zb hN Z (za (zu vy Z) (zp (zv tyS9 Z Z) Z (za (Yd ky Z) (za (ym tyS9 Z Z Z) (za (Yb Z Z) (qe Z (zh ?_))))))))))
 cases H
 exact ⟨U,.inl Z,U⟩
theorem y1z (s1:(List zc)) (p1:zc→Option (Bool)) (fv1:Nat) (us1:List V) (hp1:∀ a0 r,p1 a0=some r→Fn Tryz.prog fv1 ([vagg (zn a0)]++us1) (zo [zk r])) (r:(Int)) (H:z0u s1 p1=some r):FnG Tryz.prog 43 [.row 0 s1.length,.dat (vfn fv1 us1)] [(0,.rowA undef 44 3 (List.map zn s1))] (.dat (zo [vint r])) [(0,.rowA undef 44 3 (List.map zn s1))]:=by
 refine ji (by kernel_rfl) Tryz.func43 Z Z Z Z fun X A hN => ?_
 unfold z0u at H
 refine zb hN Z (qe Z (ze (zb hN Z (za (zd (.row _ _) Z) (zp (z1z yx Z Z) Z (qd Z (zw (gE H fun h4 H=>qv (fun (k2:Nat) (s:Unit)=>[(0,.row 0 s1.length),(1,.dat (vfn fv1 us1)),(7,.dat (vint (s1.length:Int))),(8,.dat (vint (k2:Int)))]) (fun (k2:Nat) (s:Unit)=>[(0,.rowA (A.vl 0) 44 3 (List.map zn s1))]) () H ⟨Z,Z,Z,Z,U⟩ ⟨Z,U⟩ (fun _ _=>Z) ?_ ?_))))))))
 ·rintro ⟨⟩ H
  replace H:z2e=some r:=H
  unfold z2e at H
  refine zb hN Z (za (zx Z Z) (ze (zg _ Z (fun h=>(lt_t h).elim) (fun h => ?_))))
  refine yv (zb hN Z (qe Z (zh ?_)))
  cases H
  exact ⟨U,[(4,.dat (vint (-1)))],⟨Z,U⟩,⟨Z,U⟩,Z,.inl ⟨[vint (-1)],⟨Z,U⟩,Z⟩⟩
 ·rintro k2 x5 ⟨⟩ q3 h6 h7 H hq3
  replace H:z2d p1 k2 x5=some q3:=H
  unfold z2d at H
  refine zb hN Z (za (zx Z Z) (ze (zg _ Z (fun h => ?_) (fun h=>(lt_f h6 h).elim))))
  refine zl (ze (zw (zb hN Z (qd Z (qe Z (zb hN Z (qd Z (za (zd (.row _ _) Z) (qd Z (zp (z8z yw Z Z Z h7) Z (zp (kz qk Z Z h7 Z) Z (bE H fun r8 h9 H=>za (ke (hp1 x5 r8 h9) Z ⟨.inl Z,U⟩) (zg _ Z (fun h10 => ?_) (fun h10 => ?_))))))))))))))
  ·refine tE h10 H fun H=>zb hN Z (qd Z (qe Z (zh ?_)))
   replace H:=retl H hq3
   cases H
   exact ⟨U,[(4,.dat (vint (k2:Int)))],⟨Z,U⟩,⟨Z,U⟩,Z,.inl ⟨[vint (k2:Int)],⟨Z,U⟩,Z⟩⟩
  ·exact fE h10 H fun H=>zl (zt hN Z (za (qg Z Z (by omega)) (qd Z ⟨_,yt H,⟨Z,Z,Z,Z,U⟩,⟨Z,U⟩⟩)))
theorem y2s (x1:Int) (r:(Int)) (H:z22 x1=some r):Fn Tryz.prog 93 [vval (.int .u32 x1)] (zo [vint r]):=by
 refine ⟨by kernel_rfl,yb (us:=[vint r]) Tryz.func93 Z Z Z Z fun X hN => ?_⟩
 unfold z22 at H
 refine zb hN Z (qe Z (yp (ι:=Int×Int) (fun i=>[(0,.dat (vval (.int .u32 i.1))),(2,.dat (vint i.2))]) (fun i=>[]) (fun i=>Yq i.1 i.2=some r) (fun i=>Z) ?_ ?_))
 ·skip
  refine zb hN Z (qd Z (za (wq Z Z) (zg _ Z (fun h2 => ?_) (fun h2 => ?_))))
  ·exact tE h2 H fun H=>zb hN Z (qd Z (za (zy (ub Z Z (by decide)) Z) (qe Z (zt hN Z (qe Z ⟨((shr_ .u32 x1 16),16),H,⟨Z,Z,U⟩,U⟩)))))
  ·exact fE h2 H fun H=>zl ⟨(x1,0),H,⟨Z,Z,U⟩,U⟩
 ·rintro ⟨x3,n4⟩ H
  replace H:Yq x3 n4=some r:=H
  unfold Yq at H
  refine yp (ι:=Int×Int) (fun i=>[(0,.dat (vval (.int .u32 i.1))),(2,.dat (vint i.2))]) (fun i=>[]) (fun i=>Yp i.1 i.2=some r) (fun i=>Z) ?_ ?_
  ·skip
   refine zb hN Z (qd Z (za (wq Z Z) (zg _ Z (fun h5 => ?_) (fun h5 => ?_))))
   ·exact tE h5 H fun H=>zb hN Z (qd Z (za (zy (ub Z Z (by decide)) Z) (qe Z (zt hN Z (qd Z (za (ye _ Z Z (.inl ⟨Z,Z⟩)) (qe Z ⟨((shr_ .u32 x3 8),wr (n4+8)),H,⟨Z,Z,U⟩,U⟩)))))))
   ·exact fE h5 H fun H=>zl ⟨(x3,n4),H,⟨Z,Z,U⟩,U⟩
  ·rintro ⟨x6,n7⟩ H
   replace H:Yp x6 n7=some r:=H
   unfold Yp at H
   refine zb hN Z (qd Z (qd Z (za (jm z4d tyU5 Z) (bE H fun x8 h9 H=>za (z4o tyU9 Z Z h9) (za (jm tyU5 tyU3 Z) (za (ye _ Z Z (.inl ⟨Z,Z⟩)) (qe Z (zh ?_))))))))
   cases H
   exact ⟨U,.inl Z,U⟩
theorem y2r (x1:Int) (r:(Int)) (H:z2z x1=some r):Fn Tryz.prog 94 [vval (.int .u64 x1)] (zo [vint r]):=by
 refine ⟨by kernel_rfl,yb (us:=[vint r]) Tryz.func94 Z Z Z Z fun X hN => ?_⟩
 unfold z2z at H
 refine zb hN Z (qe Z (yp (ι:=Int×Int) (fun i=>[(0,.dat (vval (.int .u64 i.1))),(2,.dat (vint i.2))]) (fun i=>[]) (fun i=>Yo i.1 i.2=some r) (fun i=>Z) ?_ ?_))
 ·skip
  refine zb hN Z (qd Z (za (wq Z Z) (zg _ Z (fun h2 => ?_) (fun h2 => ?_))))
  ·exact tE h2 H fun H=>zb hN Z (qd Z (za (zy (ub Z Z (by decide)) Z) (qe Z (zt hN Z (qe Z ⟨((shr_ .u64 x1 32),32),H,⟨Z,Z,U⟩,U⟩)))))
  ·exact fE h2 H fun H=>zl ⟨(x1,0),H,⟨Z,Z,U⟩,U⟩
 ·rintro ⟨x3,n4⟩ H
  replace H:Yo x3 n4=some r:=H
  unfold Yo at H
  refine yp (ι:=Int×Int) (fun i=>[(0,.dat (vval (.int .u64 i.1))),(2,.dat (vint i.2))]) (fun i=>[]) (fun i=>Yn i.1 i.2=some r) (fun i=>Z) ?_ ?_
  ·skip
   refine zb hN Z (qd Z (za (wq Z Z) (zg _ Z (fun h5 => ?_) (fun h5 => ?_))))
   ·exact tE h5 H fun H=>zb hN Z (qd Z (za (zy (ub Z Z (by decide)) Z) (qe Z (zt hN Z (qd Z (za (ye _ Z Z (.inl ⟨Z,Z⟩)) (qe Z ⟨((shr_ .u64 x3 16),wr (n4+16)),H,⟨Z,Z,U⟩,U⟩)))))))
   ·exact fE h5 H fun H=>zl ⟨(x3,n4),H,⟨Z,Z,U⟩,U⟩
  ·rintro ⟨x6,n7⟩ H
   replace H:Yn x6 n7=some r:=H
   unfold Yn at H
   refine yp (ι:=Int×Int) (fun i=>[(0,.dat (vval (.int .u64 i.1))),(2,.dat (vint i.2))]) (fun i=>[]) (fun i=>Ym i.1 i.2=some r) (fun i=>Z) ?_ ?_
   ·skip
    refine zb hN Z (qd Z (za (wq Z Z) (zg _ Z (fun h8 => ?_) (fun h8 => ?_))))
    ·exact tE h8 H fun H=>zb hN Z (qd Z (za (zy (ub Z Z (by decide)) Z) (qe Z (zt hN Z (qd Z (za (ye _ Z Z (.inl ⟨Z,Z⟩)) (qe Z ⟨((shr_ .u64 x6 8),wr (n7+8)),H,⟨Z,Z,U⟩,U⟩)))))))
    ·exact fE h8 H fun H=>zl ⟨(x6,n7),H,⟨Z,Z,U⟩,U⟩
   ·rintro ⟨x9,n10⟩ H
    replace H:Ym x9 n10=some r:=H
    unfold Ym at H
    refine zb hN Z (qd Z (qd Z (za (jm z8n tyU5 Z) (bE H fun x11 h12 H=>za (z4o tyU9 Z Z h12) (za (jm tyU5 tyU3 Z) (za (ye _ Z Z (.inl ⟨Z,Z⟩)) (qe Z (zh ?_))))))))
    cases H
    exact ⟨U,.inl Z,U⟩
theorem y2t (x1:Int) (r:(Int)) (H:Qg x1=some r):Fn Tryz.prog 68 [vval (.int .u64 x1)] (zo [vint r]):=by
 refine ⟨by kernel_rfl,yb (us:=[vint r]) Tryz.func68 Z Z Z Z fun X hN => ?_⟩
 unfold Qg at H
 refine zb hN Z (qe Z (ze (zg _ Z (fun h2 => ?_) (fun h2 => ?_))))
 ·refine tE h2 H fun H=>zb hN Z (qd Z (za (jm Wr z4d Z) (bE H fun r3 h4 H=>za (zr (y2s (IntKind.wrap .u32 x1) r3 h4) ⟨.inl Z,U⟩) (qe Z (zh ?_)))))
  cases H
  exact ⟨U,.inl Z,U⟩
 ·refine fE h2 H fun H=>zl (zb hN Z (qd Z (bE H fun r5 h6 H=>za (zr (y2r x1 r5 h6) ⟨.inl Z,U⟩) (qe Z (zh ?_)))))
  cases H
  exact ⟨U,.inl Z,U⟩
theorem y12 (data1:(List zc)) (a2:Int) (b3:Int) (p3:zc→zc→Option (Int)) (fv3:Nat) (us3:List V) (hp3:∀ a0 a1 r,p3 a0 a1=some r→Fn Tryz.prog fv3 ([vagg (zn a0),vagg (zn a1)]++us3) (zo [vint r])) (r:((List zc))) (H:z2x data1 a2 b3 p3=some r):FnG Tryz.prog 85 [.row 0 data1.length,.dat (vint a2),.dat (vint b3),.dat (vfn fv3 us3)] [(0,.rowA undef 44 3 (List.map zn data1))] (.dat (zo [])) [(0,.rowA undef 44 3 (List.map zn r))]:=by
 refine ji (by kernel_rfl) Tryz.func85 Z Z Z Z fun X A hN => ?_
 unfold z2x at H
 refine zb hN Z (qd Z (za (ye _ Z Z (.inl ⟨Z,Z⟩)) (qe Z (zw (xg (fun (s:Int×(List zc))=>[(0,.row 0 s.2.length),(1,.dat (vint a2)),(2,.dat (vint b3)),(3,.dat (vfn fv3 us3)),(8,.dat (vint s.1))]) (fun (s:Int×(List zc))=>[(0,.rowA (A.vl 0) 44 3 (List.map zn s.2))]) (wr (a2+1),data1) H ⟨Z,Z,Z,Z,Z,U⟩ ⟨Z,U⟩ (fun _=>Z) ?_)))))
 rintro ⟨i4,l5⟩ q6 H hq6
 replace H:z2a a2 b3 p3 i4 l5=some q6:=H
 unfold z2a at H
 refine ze (zb hN Z (qd Z (qd Z (za (zx Z Z) (zg _ Z (fun h7 => ?_) (fun h7 => ?_))))))
 ·refine tE h7 H fun H=>zl (yp (ι:=(List zc)) (fun i=>[(0,.row 0 i.length),(1,.dat (vint a2)),(2,.dat (vint b3)),(3,.dat (vfn fv3 us3)),(8,.dat (vint i4))]) (fun i=>[(0,.rowA (A.vl 0) 44 3 (List.map zn i))]) (fun i=>z0e i4 i=some q6) (fun i=>Z) ?_ ?_)
  ·skip
   refine zw (zb hN Z (qd Z (qe Z (zw (xg (fun (s:Int×(List zc))=>[(0,.row 0 s.2.length),(1,.dat (vint a2)),(2,.dat (vint b3)),(3,.dat (vfn fv3 us3)),(8,.dat (vint i4)),(9,.dat (vint s.1))]) (fun (s:Int×(List zc))=>[(0,.rowA (A.vl 0) 44 3 (List.map zn s.2))]) (i4,l5) H ⟨Z,Z,Z,Z,Z,Z,U⟩ ⟨Z,U⟩ (fun _=>Z) ?_)))))
   rintro ⟨j8,l9⟩ q10 H hq10
   replace H:z19 a2 p3 i4 j8 l9=some q10:=H
   unfold z19 at H
   refine ze (yp (ι:=Bool) (fun i=>[(0,.row 0 l9.length),(1,.dat (vint a2)),(2,.dat (vint b3)),(3,.dat (vfn fv3 us3)),(8,.dat (vint i4)),(9,.dat (vint j8)),(34,.dat (zk i))]) (fun i=>[(0,.rowA (A.vl 0) 44 3 (List.map zn l9))]) (fun i=>Yg i4 j8 l9 i=some q10) (fun i=>Z) ?_ ?_)
   ·skip
    refine wz mixed hN Z Z (qd Z (qd Z (za (qu Z Z) (qd Z (qh (j:=3) Z Z (fun h11 => ?_) (fun h11 => ?_) Z)))))
    ·refine u1 h11 H fun h12 H=>zq Z Z h11 (zd (.dat _) Z) (zq Z Z h11 (zd (.row _ _) Z) (zq Z Z h11 (zd (.dat _) Z) (bE H fun x13 h14 H=>wc Z Z h11 (jv yw Z Z Z h14) Z (wc Z Z h11 (kz qk Z Z (yn h14).2 Z) Z (zq Z Z h11 (zd (.row _ _) Z) (zq Z Z h11 (zd (.dat _) Z) (zq Z Z h11 (ye _ Z Z (.inr (.inl ⟨Z,Z⟩))) (bE H fun x15 h16 H=>wc Z Z h11 (jv yw Z Z Z h16) Z (wc Z Z h11 (kz qk Z Z (yn h16).2 Z) Z (bE H fun r17 h18 H=>zq Z Z h11 (ke (hp3 x13 x15 r17 h18) Z ⟨.inl Z,.inl Z,U⟩) (zq Z Z h11 (zx Z Z) (za (yq Z (bTT h12) Z) ⟨Z,?_⟩))))))))))))
     exact ⟨decide (r17 < 0),H,⟨Z,Z,Z,Z,Z,Z,Z,U⟩,⟨Z,U⟩⟩
    ·refine u2 h11 H fun h19 H=>zf Z Z h11 (zf Z Z h11 (zf Z Z h11 (zf Z Z h11 (zf Z Z h11 (zf Z Z h11 (zf Z Z h11 (zf Z Z h11 (zf Z Z h11 (zf Z Z h11 (zf Z Z h11 (zf Z Z h11 (za (yl Z (bFF h19) Z) ⟨Z,?_⟩))))))))))))
     exact ⟨false,H,⟨Z,Z,Z,Z,Z,Z,Z,U⟩,⟨Z,U⟩⟩
   ·rintro v20 H
    replace H:Yg i4 j8 l9 v20=some q10:=H
    unfold Yg at H
    refine zg _ Z (fun h21 => ?_) (fun h21 => ?_)
    ·refine tE h21 H fun H=>zl (ze (zw (wz mixed hN Z Z (za (zd (.row _ _) Z) (qd Z (za (zd (.row _ _) Z) (qd Z (za (ye _ Z Z (.inr (.inl ⟨Z,Z⟩))) (za (zd (.row _ _) Z) (qd Z (za (ye _ Z Z (.inr (.inl ⟨Z,Z⟩))) (bE H fun x22 h23 H=>zp (jv yw Z Z Z h23) Z (zp (kz qk Z Z (yn h23).2 Z) Z (za (zd (.row _ _) Z) (qd Z (bE H fun x24 h25 H=>zp (jv yw Z Z Z h25) Z (zp (kz qk Z Z (yn h25).2 Z) Z (zp (jv yw Z Z Z h25) Z (zj (z4k (C:=zn) qk Z Z Z (z3u (yn h25).2) Z Z) Z (bE H fun x26 h27 H=>?_))))))))))))))))))))
     refine zp (jv yw Z (by simp) Z h27) Z (zj (z4k (C:=zn) qk Z Z (by simp) (z3u (yn h27).2) Z Z) Z ⟨Z,?_⟩)
     exact zt hN Z (qd Z (za (ye _ Z Z (.inr (.inl ⟨Z,Z⟩))) (qe Z ⟨_,yt H,⟨congrArg (Slot.row 0) (by simp),Z,Z,Z,Z,Z,U⟩,⟨Z,U⟩⟩)))
    ·refine fE h21 H fun H=>yv ?_
     replace H:=outl H hq10
     exact ⟨l9,H,⟨Z,Z,Z,Z,Z,U⟩,⟨Z,U⟩⟩
  ·rintro data28 H
   replace H:z0e i4 data28=some q6:=H
   unfold z0e at H
   exact zt hN Z (qd Z (za (ye _ Z Z (.inl ⟨Z,Z⟩)) (qe Z ⟨_,yt H,⟨Z,Z,Z,Z,Z,U⟩,⟨Z,U⟩⟩)))
 ·refine fE h7 H fun H=>yv ?_
  replace H:=retl H hq6
  have eH:l5=r:=Option.some.inj H
  subst eH
  exact ⟨U,[],U,⟨Z,U⟩,Z,.inl ⟨[],U,Z⟩⟩
theorem y11 (v1:(List zc)) (v2:Int) (v3:Int) (v4:Int) (p4:zc→zc→Option (Int)) (fv4:Nat) (us4:List V) (hp4:∀ a0 a1 r,p4 a0 a1=some r→Fn Tryz.prog fv4 ([vagg (zn a0),vagg (zn a1)]++us4) (zo [vint r])) (r:((List zc))) (H:z0s v1 v2 v3 v4 p4=some r):FnG Tryz.prog 67 [.row 0 v1.length,.dat (vint v2),.dat (vint v3),.dat (vint v4),.dat (vfn fv4 us4)] [(0,.rowA undef 44 3 (List.map zn v1))] (.dat (zo [])) [(0,.rowA undef 44 3 (List.map zn r))]:=by
 refine ji (by kernel_rfl) Tryz.func67 Z Z Z Z fun X A hN => ?_
 unfold z0s at H
 refine zb hN Z (qe Z (zb hN Z (qe Z (zw (xg (fun (s:Int×Int×Int×Bool×Bool)=>[(0,.row 0 v1.length),(1,.dat (vint s.1)),(2,.dat (vint s.2.1)),(3,.dat (vint s.2.2.1)),(4,.dat (vfn fv4 us4)),(10,.dat (zk s.2.2.2.1)),(11,.dat (zk s.2.2.2.2))]) (fun (s:Int×Int×Int×Bool×Bool)=>[(0,.rowA (A.vl 0) 44 3 (List.map zn v1))]) (v2,v3,v4,true,true) H ⟨Z,Z,Z,Z,Z,Z,Z,U⟩ ⟨Z,U⟩ (fun _=>Z) ?_)))))
 rintro ⟨v5,v6,v7,v8,v9⟩ q10 H hq10
 replace H:z18 v1 p4 v5 v6 v7 v8 v9=some q10:=H
 unfold z18 at H
 refine zw (zb hN Z (qd Z (qd Z (za (ye _ Z Z (.inr (.inl ⟨Z,Z⟩))) (qe Z (ze (zb hN Z (qd Z (za (vg Z Z) (zg _ Z (fun h11 => ?_) (fun h11 => ?_)))))))))))
 ·refine tE h11 H fun H=>zb hN Z (za (zd (.row _ _) Z) (qd Z (qd Z (qd Z (bE H fun r12 h13 H=>gE H fun h14 H=>qn (rn [(0,0)]) [(0,_,_,some _)] [] (y12 v1 v5 v6 p4 fv4 us4 hp4 r12 h13) ⟨Z,U⟩ ⟨.inl (.inl Z),.inl (.inl Z),.inl (.inl Z),.inl (.inl Z),U⟩ ⟨⟨⟨Z,Z,Z⟩,by simp [vm,h14]⟩,U⟩ Z ?_)))))
  refine zh ?_
  replace H:=retl H hq10
  have eH:r12=r:=Option.some.inj H
  subst eH
  exact ⟨U,[],U,⟨Z,U⟩,Z,.inl ⟨[],U,Z⟩⟩
 ·refine fE h11 H fun H=>zl (ze (zb hN Z (qd Z (za (qy Z Z) (zg _ Z (fun h15 => ?_) (fun h15 => ?_))))))
  ·refine tE h15 H fun H=>?_
   cases H
  ·refine fE h15 H fun H=>?_
   cases H
theorem y13 (x1:(List zc)) (p1:zc→zc→Option (Int)) (fv1:Nat) (us1:List V) (hp1:∀ a0 a1 r,p1 a0 a1=some r→Fn Tryz.prog fv1 ([vagg (zn a0),vagg (zn a1)]++us1) (zo [vint r])) (r:((List zc))) (H:Qb x1 p1=some r):FnG Tryz.prog 45 [.row 0 x1.length,.dat (vfn fv1 us1)] [(0,.rowA undef 44 3 (List.map zn x1))] (.dat (zo [])) [(0,.rowA undef 44 3 (List.map zn r))]:=by
 refine ji (by kernel_rfl) Tryz.func45 Z Z Z Z fun X A hN => ?_
 unfold Qb at H
 refine zb hN Z (za (zd (.row _ _) Z) (zp (z1z yx Z Z) Z (qe Z (zt hN Z (za (zd (.row _ _) Z) (qd Z (qd Z (za (jm tyU3 Wr Z) (bE H fun r2 h3 H=>za (zr (y2t (IntKind.wrap .u64 (x1.length:Int)) r2 h3) ⟨.inl Z,U⟩) (qd Z (bE H fun r4 h5 H=>gE H fun h6 H=>qn (rn [(0,0)]) [(0,_,_,some _)] [] (y11 x1 0 (x1.length:Int) r2 p1 fv1 us1 hp1 r4 h5) ⟨Z,U⟩ ⟨.inl (.inl Z),.inl (.inl Z),.inl (.inl Z),.inl (.inl Z),.inl (.inl Z),U⟩ ⟨⟨⟨Z,Z,Z⟩,by simp [vm,h6]⟩,U⟩ Z ?_)))))))))))
 have eH:r4=r:=Option.some.inj H
 subst eH
 exact ⟨U,[],U,⟨Z,U⟩,Z,.inl ⟨[],U,Z⟩⟩
theorem y22 (a1:zc) (b2:zc) (r:(Int)) (H:kn a1 b2=some r):Fn Tryz.prog 46 [vagg (zn a1),vagg (zn b2)] (zo [vint r]):=by
 refine ⟨by kernel_rfl,yb (us:=[vint r]) Tryz.func46 Z Z Z Z fun X hN => ?_⟩
 unfold kn at H
 refine zb hN Z (zj (vk 1 Z) Z (zj (vk 2 Z) Z (qe Z (zb hN Z (za (zu vy Z) (zp (zv tyS9 Z Z) Z (za (zu vy Z) (zp (zv tyS9 Z Z) Z (bE H fun r3 h4 H=>za (zr (z6k a1.Id b2.Id r3 h4) ⟨.inl Z,.inl Z,U⟩) (qe Z (zh ?_)))))))))))
 cases H
 exact ⟨U,.inl Z,U⟩
theorem y24 (l1:(List zc)) (c2:yi) (v3:Int) (r:((List zc)×Int)) (H:ul l1 c2 v3=some r):Fn Tryz.prog 14 [vlst (List.map zn l1),vagg (vu c2),vint v3] (zo [vlst (List.map zn r.1),vint r.2]):=by
 refine ⟨by kernel_rfl,yb (us:=[vlst (List.map zn r.1),vint r.2]) Tryz.func14 Z Z Z Z fun X hN => ?_⟩
 unfold ul at H
 refine zb hN Z (zj (vk 1 Z) Z (qe Z (qe Z (zb hN Z (qd Z (bE H fun r4 h5 H=>qn (rn [(900,2)]) [] [(900,_)] (z00 l1 r4 h5) ⟨Z,U⟩ ⟨.inl (.inl Z),U⟩ U Z (za (yj (.row _ _) Z) (ze (zb hN Z (za (zu va Z) (zp (zv tyS3 Z Z) Z (qd Z (za (vg Z Z) (zg _ Z (fun h6 => ?_) (fun h6 => ?_)))))))))))))))
 ·refine tE h6 H fun H=>zb hN Z (za (zd (.row _ _) Z) (za (yj (.row _ _) Z) (qe Z (zh ?_))))
  cases H
  exact ⟨U,wo Z Z,.inl Z,U⟩
 ·refine fE h6 H fun H=>zl (ze (Zp 1 [vstr c2.Id,vstr c2.Subject,vstr c2.Issuer,vstr c2.Parent,vlst (List.map zi c2.Audience),vlst (List.map zi c2.Scopes),vint c2.From,vint c2.To] Z Z (zt hN Z (za (zd (.row _ _) Z) (za (xt (us:=[_]) ⟨Z,U⟩) (bE H fun r7 h8 H=>qn (rn [(0,2)]) [(0,_,_,some _)] [] (y1z r4 (fun (a0:zc)=>Zd a0 c2) 44 [qj [[vstr c2.Id,vstr c2.Subject,vstr c2.Issuer,vstr c2.Parent,vlst (List.map zi c2.Audience),vlst (List.map zi c2.Scopes),vint c2.From,vint c2.To]] 0 0] (fun a0 r h=>y23 a0 c2 r h) r7 h8) ⟨Z,U⟩ ⟨.inl (.inl Z),.inl (.inl Z),U⟩ ⟨⟨⟨Z,Z,Z⟩,by simp [vm]⟩,U⟩ Z ?_))))))
  refine qe Z (ze (zb hN Z (qd Z (za (wq Z Z) (zg _ Z (fun h9 => ?_) (fun h9 => ?_))))))
  ·refine tE h9 H fun H=>ze (wz mixed hN Z Z (za (zd (.row _ _) Z) (qd Z (za (zd (.row _ _) Z) (qd Z (za (zd (.row _ _) Z) (qd Z (bE H fun x10 h11 H=>zp (vd yw Z Z Z h11) Z (za (kb xm Z) (zp (Ya tyS3 Z Z (yn h11).2 Z) Z (qd Z (za (z14 Z Z) (za (zd (.row _ _) Z) (qd Z (zp (vd yw Z Z Z h11) Z (za (kb vx Z) (zp (Ya tyS3 Z Z (yn h11).2 Z) Z (za (Yd va Z) (za (ym tyS3 Z Z Z) (za (z4r Z Z) (zp (vd yw Z Z Z h11) Z ?_)))))))))))))))))))))
   refine za (kb xm Z) (zj (Zz (zc.mk x10.Id (min x10.At v3) x10.Until) tyS3 Z Z Z Z (yn h11).2 Z Z) Z (bE H fun x12 h13 H=>zp (vd yw Z (by simp) Z h13) Z (za (kb vx Z) (zj (Zz (zc.mk x12.Id x12.At (max x10.Until c2.To)) tyS3 Z Z Z (by simp) (yn h13).2 Z Z) Z ⟨Z,?_⟩))))
   refine zb hN Z (za (zd (.row _ _) Z) (za (yj (.row _ _) Z) (qe Z (zh ?_))))
   cases H
   exact ⟨U,wo Z (by simp),.inl Z,U⟩
  ·refine fE h9 H fun H=>zl (zb hN Z (za (zd (.row _ _) Z) (za (Yd ky Z) (za (ym tyS9 Z Z Z) (qd Z (za (Yd va Z) (za (ym tyS3 Z Z Z) (za (zy (u':=vagg (zn (zc.mk c2.Id v3 c2.To))) (xu [(0,[vstr c2.Id]),(1,[vint v3]),(2,[vint c2.To])] ju Wu Z ⟨Z,.inl ⟨_,Z,Z,Z⟩,Z,Z,.inl ⟨_,Z,Z,Z⟩,Z,Z,.inl ⟨_,Z,Z,Z⟩,Z,U⟩) Z) (za (zy (u':=vlst (List.map zn [(zc.mk c2.Id v3 c2.To)])) (yg [_] wn ⟨Z,.inr Z,Z,U⟩ Z Z) Z) (gE H fun h14 H=>zj (jx wn (fun _=>Z) Z Z Z ⟨by simp,by first | (simp; done) | simpa using h14⟩ Z) Z ?_))))))))))
   refine za (yj (.row _ _) Z) (zb hN Z (za (zd (.row _ _) Z) (bE H fun r15 h16 H=>gE H fun h17 H=>qn (rn [(0,2)]) [(0,_,_,some _)] [] (y13 (r4++[(zc.mk c2.Id v3 c2.To)]) (fun (a0:zc) (a1:zc)=>kn a0 a1) 46 [] (fun a0 a1 r h=>y22 a0 a1 r h) r15 h16) ⟨Z,U⟩ ⟨.inl (.inl Z),.inr ⟨_,Z,Z⟩,U⟩ ⟨⟨⟨Z,Z,Z⟩,by simp [vm,h17]⟩,U⟩ Z ?_)))
   refine ze (zb hN Z (za (zd (.row _ _) Z) (zp (z0a yx Z (h17).symm) Z (za (qu Z Z) (zg _ Z (fun h18 => ?_) (fun h18 => ?_))))))
   ·refine tE h18 H fun H=>zb hN Z (qe Z (qe Z (zh ?_)))
    cases H
    exact ⟨U,.inr ⟨Z,Z⟩,.inl Z,U⟩
   ·refine fE h18 H fun H=>zl (zb hN Z (za (zd (.row _ _) Z) (za (yj (.row _ _) Z) (qe Z (zh ?_)))))
    cases H
    exact ⟨U,wo Z (h17).symm,.inl Z,U⟩
theorem y25 (r1:zc) (c2:Int) (r:(Bool)) (H:Qn r1 c2=some r):Fn Tryz.prog 47 [vagg (zn r1),qj [[vint c2]] 0 0] (zo [zk r]):=by
 refine ⟨by kernel_rfl,yb (us:=[zk r]) Tryz.func47 Z Z Z Z fun X hN => ?_⟩
 unfold Qn at H
 refine zb hN Z (zj (vk 1 Z) Z (qe Z (zb hN Z (za (zu vx Z) (zp (zv tyS3 Z Z) Z (za (ym tyS3 Z Z Z) (za (vg Z Z) (qe Z (zh ?_)))))))))
 cases H
 exact ⟨U,.inl Z,U⟩
theorem y26 (l1:(List zc)) (v2:Int) (r:((List zc))) (H:ko l1 v2=some r):Fn Tryz.prog 15 [vlst (List.map zn l1),vint v2] (zo [vlst (List.map zn r)]):=by
 refine ⟨by kernel_rfl,yb (us:=[vlst (List.map zn r)]) Tryz.func15 Z Z Z Z fun X hN => ?_⟩
 unfold ko at H
 refine zb hN Z (zj (z0d 1 Z Z) Z (qe Z (ze (Zp 1 [vint v2] Z Z (zt hN Z (qd Z (bE H fun r3 h4 H=>qn (rn [(900,2)]) [] [(900,_)] (z00 l1 r3 h4) ⟨Z,U⟩ ⟨.inl (.inl Z),U⟩ U Z (za (xt (us:=[_]) ⟨Z,U⟩) (bE H fun r5 h6 H=>qn (rn [(0,2),(900,3)]) [(0,_,_,none)] [(900,_)] (z6d r3 (fun (a0:zc)=>Qn a0 v2) 47 [qj [[vint v2]] 0 0] (fun a0 r h=>y25 a0 v2 r h) r5 h6) ⟨Z,Z,U⟩ ⟨.inl (.inl Z),.inl (.inl Z),U⟩ ⟨⟨⟨Z,Z,Z⟩,U⟩,U⟩ Z (za (yj (.row _ _) Z) (zh ?_)))))))))))
 cases H
 exact ⟨U,wo Z Z,U⟩
theorem z6n (s1:(List zc)) (s2:(List zc)) (r:(Bool)) (H:Qc s1 s2=some r):Fn Tryz.prog 16 [vlst (List.map zn s1),vlst (List.map zn s2)] (zo [zk r]):=by
 refine ⟨by kernel_rfl,yb (us:=[zk r]) Tryz.func16 Z Z Z Z fun X hN => ?_⟩
 unfold Qc at H
 refine zb hN Z (qe Z (ze (zb hN Z (qd Z (za (yk yx Z) (qd Z (za (yk yx Z) (za (vf Z Z) (zg _ Z (fun h3 => ?_) (fun h3 => ?_))))))))))
 ·refine tE h3 H fun H=>zb hN Z (qe Z (zh ?_))
  cases H
  exact ⟨U,.inl Z,U⟩
 ·refine fE h3 H fun H=>zl (ze (zb hN Z (qd Z (za (yk yx Z) (qd Z (zw (gE H fun h6 H=>qv (fun (k4:Nat) (s:Unit)=>[(0,.dat (vlst (List.map zn s1))),(1,.dat (vlst (List.map zn s2))),(12,.dat (vint (s1.length:Int))),(13,.dat (vint (k4:Int)))]) (fun (k4:Nat) (s:Unit)=>[]) () H ⟨Z,Z,Z,Z,U⟩ U (fun _ _=>Z) ?_ ?_)))))))
  ·rintro ⟨⟩ H
   replace H:z2j=some r:=H
   unfold z2j at H
   refine zb hN Z (za (zx Z Z) (ze (zg _ Z (fun h=>(lt_t h).elim) (fun h => ?_))))
   refine yv (zb hN Z (qe Z (zh ?_)))
   cases H
   exact ⟨U,.inl Z,U⟩
  ·rintro k4 x7 ⟨⟩ q5 h8 h9 H hq5
   replace H:z2i s2 k4 x7=some q5:=H
   unfold z2i at H
   refine zb hN Z (za (zx Z Z) (ze (zg _ Z (fun h => ?_) (fun h=>(lt_f h8 h).elim))))
   refine zl (ze (zw (zb hN Z (qd Z (qe Z (ze (wz mixed hN Z Z (qd Z (qd Z (za (qx yw (fun _=>Z) Z Z h9) (za (Yc qk Z (yr h9) Z) (qd Z (qd Z (bE H fun x10 h11 H=>za (qx yw (fun _=>Z) Z Z h11) (za (Yc qk Z (yr h11) Z) (za (z91 [_,_,_] [_,_,_] z8q Z Z Z) ⟨Z,?_⟩))))))))))))))))
   refine zg _ Z (fun h12 => ?_) (fun h12 => ?_)
   ·refine tE h12 H fun H=>zb hN Z (qe Z (zh ?_))
    replace H:=retl H hq5
    cases H
    exact ⟨U,.inl Z,U⟩
   ·exact fE h12 H fun H=>zl (zt hN Z (za (qg Z Z (by omega)) (qd Z ⟨_,yt H,⟨Z,Z,Z,Z,U⟩,U⟩)))
theorem y2l (s1:Bs) (r:(Bs)) (H:Yx s1=some r):Fn Tryz.prog 48 [vstr s1] (zo [vstr r]):=by
 refine ⟨by kernel_rfl,yb (us:=[vstr r]) Tryz.func48 Z Z Z Z fun X hN => ?_⟩
 unfold Yx at H
 refine zb hN Z (qe Z (zb hN Z (qe Z (yp (ι:=(List Int)) (fun i=>[(3,.row 1 i.length)]) (fun i=>[(1,.row 5 1 (List.map xi i))]) (fun i=>Wx i=some r) (fun i=>Z) ?_ ?_))))
 ·skip
  refine zw (xf 3 1 5 1 Z Z Z (xg (fun (s:Bs×(List Int))=>[(0,.dat (vstr s.1)),(3,.row 1 s.2.length)]) (fun (s:Bs×(List Int))=>[(1,.row 5 1 (List.map xi s.2))]) (s1,[]) H ⟨Z,Z,U⟩ ⟨Z,U⟩ (fun _=>Z) ?_))
  rintro ⟨s2,l3⟩ q4 H hq4
  replace H:z1v s2 l3=some q4:=H
  unfold z1v at H
  refine ze (zb hN Z (qd Z (za (uc tyU9 Z) (za (qu Z Z) (zg _ Z (fun h5 => ?_) (fun h5 => ?_))))))
  ·refine tE h5 H fun H=>zl (zw (zb hN Z (qd Z (za (uc tyU9 Z) (za (z14 Z Z) (qe Z (zb hN Z (qe Z (ze (zb hN Z (qd Z (zw (gE H fun h9 H=>z1i (fun (k7:Nat) (s:Int)=>[(0,.dat (vstr s2)),(3,.row 1 l3.length),(4,.dat (vint (min 3 (s2.length:Int)))),(5,.dat (vint s)),(14,.dat (vint (k7:Int)))]) (fun (k7:Nat) (s:Int)=>[(1,.row 5 1 (List.map xi l3))]) 0 H ⟨Z,Z,Z,Z,Z,U⟩ ⟨Z,U⟩ (fun _ _=>Z) ?_ ?_)))))))))))))
   ·rintro x6 H
    replace H:z1x s2 l3 x6=some q4:=H
    unfold z1x at H
    refine zb hN Z (za (zx Z Z) (ze (zg _ Z (fun h=>(lt_t h).elim) (fun h => ?_))))
    refine yv (ze (zb hN Z (qd Z (za (ye _ Z Z (.inl ⟨Z,Z⟩)) (qd Z (zw (gE H fun h13 H=>z1i (fun (k11:Nat) (s:(List Int))=>[(0,.dat (vstr s2)),(3,.row 1 s.length),(4,.dat (vint (min 3 (s2.length:Int)))),(5,.dat (vint x6)),(30,.dat (vint (wr ((min 3 (s2.length:Int))+1)))),(31,.dat (vint (k11:Int)))]) (fun (k11:Nat) (s:(List Int))=>[(1,.row 5 1 (List.map xi s))]) l3 H ⟨Z,Z,Z,Z,Z,Z,U⟩ ⟨Z,U⟩ (fun _ _=>Z) ?_ ?_)))))))
    ·rintro l10 H
     replace H:z1w s2 l10=some q4:=H
     unfold z1w at H
     refine zb hN Z (za (zx Z Z) (ze (zg _ Z (fun h=>(z25 h).elim) (fun h => ?_))))
     exact yv (zt hN Z (qd Z (qd Z (bE H fun l14 h15 H=>za (z4j tyU9 Z Z Z h15) (qe Z ⟨_,yt H,⟨Z,Z,U⟩,⟨Z,U⟩⟩)))))
    ·rintro k11 l10 q12 h16 H hq12
     replace H:z1t x6 k11 l10=some q12:=H
     unfold z1t at H
     refine zb hN Z (za (zx Z Z) (ze (zg _ Z (fun h => ?_) (fun h=>(z26 h16 h).elim))))
     refine zl (ze (zw (zb hN Z (qd Z (qe Z (zt hN Z (za (zd (.row _ _) Z) (qd Z (qd Z (za (ye _ Z Z (.inr (.inr ⟨Z,Z⟩))) (za (ye _ Z Z (.inr (.inl ⟨Z,Z⟩))) (gE H fun h17 H=>za (zy (ub Z Z h17) Z) (za (zy (z92 Z Z) Z) (bE H fun x18 h19 H=>za (z81 tyU9 Z Z h19) (za (zy (u':=vlst (List.map xi [(x18.toNat:Int)])) (yg [[_]] z4e ⟨Z,.inl ⟨_,Z,Z,Z⟩,Z,U⟩ Z Z) Z) (gE H fun h20 H=>zj (jx z4e (fun _=>Z) Z Z Z ⟨by simp,by first | (simp; done) | simpa using h20⟩ Z) Z ?_))))))))))))))))
     exact za (yj (.row _ _) Z) (zt hN Z (za (qg Z Z (by omega)) (qd Z ⟨_,yt H,⟨Z,Z,Z,Z,Z,Z,U⟩,⟨Z,U⟩⟩)))
   ·rintro k7 x6 q8 h21 H hq8
    replace H:z1u s2 k7 x6=some q8:=H
    unfold z1u at H
    refine zb hN Z (za (zx Z Z) (ze (zg _ Z (fun h => ?_) (fun h=>(lt_f h21 h).elim))))
    refine zl (yp (ι:=Int) (fun i=>[(0,.dat (vstr s2)),(3,.row 1 l3.length),(4,.dat (vint (min 3 (s2.length:Int)))),(5,.dat (vint i)),(14,.dat (vint (k7:Int)))]) (fun i=>[(1,.row 5 1 (List.map xi l3))]) (fun i=>Zx i=some q8) (fun i=>Z) ?_ ?_)
    ·skip
     refine zw (zb hN Z (qd Z (qe Z (zb hN Z (qd Z (za (zy (z9c Z Z (by decide)) Z) (qe Z (zb hN Z (qd Z (qd Z (za (zx Z Z) (zg _ Z (fun h22 => ?_) (fun h22 => ?_)))))))))))))
     ·exact tE h22 H fun H=>zt hN Z (qd Z (qd Z (qd Z (bE H fun x23 h24 H=>za (z0b tyU9 Z Z h24) (za (jm tyU5 tyU3 Z) (za (zy (z9g Z Z) Z) (qe Z ⟨(or_ .i64 (shl_ .i64 x6 8) (IntKind.wrap .i64 (x23.toNat:Int))),H,⟨Z,Z,Z,Z,Z,U⟩,⟨Z,U⟩⟩)))))))
     ·exact fE h22 H fun H=>zl ⟨(shl_ .i64 x6 8),H,⟨Z,Z,Z,Z,Z,U⟩,⟨Z,U⟩⟩
    ·rintro x25 H
     replace H:Zx x25=some q8:=H
     unfold Zx at H
     exact zt hN Z (za (qg Z Z (by omega)) (qd Z ⟨_,yt H,⟨Z,Z,Z,Z,Z,U⟩,⟨Z,U⟩⟩))
  ·refine fE h5 H fun H=>yv ?_
   replace H:=outl H hq4
   exact ⟨l3,H,⟨Z,U⟩,⟨Z,U⟩⟩
 ·rintro out26 H
  replace H:Wx out26=some r:=H
  unfold Wx at H
  refine ze (z80 3 1 Z Z Z (zt hN Z (qd Z (za (z9v (C:=xi) z8l tyU5 tyU9 (fun _=>Z) Z) (qe Z (zh ?_))))))
  cases H
  exact ⟨U,.inl Z,U⟩
theorem y3i  (r:(Bool)) (H:Qw  = some r):Fn Tryz.prog 17 [] (zo [zk r]):=by
 refine ⟨by kernel_rfl,yb (us:=[zk r]) Tryz.func17 Z Z Z Z fun X hN => ?_⟩
 unfold Qw at H
 refine zb hN Z (qe Z (zb hN Z (bE H fun r1 h2 H=>za (zr (y2l [97,98] r1 h2) ⟨.inl Z,U⟩) (za (Yb Z Z) (qe Z (zh ?_))))))
 cases H
 exact ⟨U,.inl Z,U⟩
theorem y3j (v1:(List Int)) (r:(Bool)) (H:z0y v1=some r):Fn Tryz.prog 3 [vlst (List.map qw v1)] (zo [zk r]):=by
 refine ⟨by kernel_rfl,yb (us:=[zk r]) Tryz.func3 Z Z Z Z fun X hN => ?_⟩
 unfold z0y at H
 refine zb hN Z (qe Z (zb hN Z (qd Z (za (zy (u':=vagg (yf (zm.mk v1 0))) (xu [(0,[vlst (List.map qw v1)])] z8k z8s Z ⟨Z,.inl ⟨_,Z,Z,Z⟩,Z,U⟩) Z) (zj (vk 1 Z) Z (za (yj (.ptr _ _) Z) (zb hN Z (za (zd (.ptr _ _) Z) (bE H fun r2 h3 H=>zj (yc (y3e (zm.mk v1 0) r2 h3) Z U Z) Z (za (zd (.ptr _ _) Z) (bE H fun r4 h5 H=>zj (yc (y3g r2.2 r4 h5) Z U Z) Z (za (zd (.ptr _ _) Z) (bE H fun r6 h7 H=>zj (yc (y3f r4.2 r6 h7) Z U Z) Z (zj (jn 2 xk Z) Z (qe Z (zj (jz wm Z Z Z Z) Z (qe Z (zb hN Z (qd Z (zp (ka wm Z Z Z) Z ?_))))))))))))))))))))
 refine qd Z (bE H fun r8 h9 H=>za (zr (y2i r2.1 r4.1 r6.1 r8 h9) ⟨.inl Z,.inl Z,.inl Z,U⟩) (qd Z (za (vh Z Z) (za (vh Z Z) (qe Z (qe Z (zb hN Z (qd Z (qd Z (bE H fun r10 h11 H=>za (zr (y2k r2.1 r6.1 r10 h11) ⟨.inl Z,.inl Z,U⟩) (qd Z (za (vh Z Z) (za (vh Z Z) (qe Z (qe Z (zb hN Z (qd Z (bE H fun r12 h13 H=>za (zr (y21 r2.1 r12 h13) ⟨.inl Z,U⟩) (qe Z (ze ?_))))))))))))))))))))
 refine zb hN Z (qd Z (bE H fun r14 h15 H=>za (zr (z3a r2.1 r14 h15) ⟨.inl Z,U⟩) (qd Z (za (vf Z Z) (zg _ Z (fun h16 => ?_) (fun h16 => ?_))))))
 ·refine tE h16 H fun H=>zb hN Z (qe Z (zh ?_))
  cases H
  exact ⟨U,.inl Z,U⟩
 ·refine fE h16 H fun H=>zl (zb hN Z (qd Z (zp (ka wm Z Z Z) Z (bE H fun r17 h18 H=>za (zr (y29 r4.1 r17 h18) ⟨.inl Z,U⟩) (qd Z (bE H fun r19 h20 H=>za (zr (z6r r6.1 r19 h20) ⟨.inl Z,U⟩) (za (zy (u':=vlst (List.map z1m [r12,r17,r19])) (yg [[_],[_],[_]] z4f ⟨Z,.inl ⟨_,Z,Z,Z⟩,Z,Z,.inl ⟨_,Z,Z,Z⟩,Z,Z,.inl ⟨_,Z,Z,Z⟩,Z,U⟩ Z Z) Z) (bE H fun r21 h22 H=>za (zr (z6s [r12,r17,r19] r21 h22) ⟨.inl Z,U⟩) (qd Z (qd Z (bE H fun r23 h24 H=>za (zr (z6r r6.1 r23 h24) ⟨.inl Z,U⟩) (za (zy (u':=vlst (List.map z1m [r12,r23])) (yg [[_],[_]] z4f ⟨Z,.inl ⟨_,Z,Z,Z⟩,Z,Z,.inl ⟨_,Z,Z,Z⟩,Z,U⟩ Z Z) Z) (bE H fun r25 h26 H=>za (zr (z6s [r12,r23] r25 h26) ⟨.inl Z,U⟩) (qe Z (qe Z (zb hN Z (qe Z ?_)))))))))))))))))
  refine qe Z (z7n (ι:=Int×(List zc)) (fun i=>[(4,.dat (vlst (List.map zn r2.1))),(6,.dat (vint r6.1)),(7,.dat (vlst (List.map zn r8.1))),(8,.dat (vint r8.2)),(9,.dat (vlst (List.map zn r10.1))),(10,.dat (vint r10.2)),(12,.dat (vint i.1)),(13,.dat (vint r25)),(14,.dat (vlst (List.map zn i.2))),(15,.dat (vnil))]) (fun i=>[]) (fun i=>xc r2 r6 r8 r10 r25 i.1 i.2=some r) (fun i=>Z) (fun i=>Z) ?_ ?_)
  ·skip
   refine zb hN Z (qd Z (za (qy Z Z) (zg _ Z (fun h27 => ?_) (fun h27 => ?_))))
   ·exact tE h27 H fun H=>zt hN Z (qd Z (zp (ka wm Z Z Z) Z (qd Z (bE H fun r28 h29 H=>za (zr (y24 r2.1 r4.1 r6.1 r28 h29) ⟨.inl Z,.inl Z,.inl Z,U⟩) (qd Z (za (vh Z Z) (za (vh Z Z) (qe Z (qe Z ⟨(r28.2,r28.1),H,⟨.inl Z,.inl Z,.inl Z,.inl Z,.inl Z,.inl Z,.inl Z,.inl Z,.inl Z,.inl Z,U⟩,U⟩)))))))))
   ·exact fE h27 H fun H=>zl ⟨(r21,[]),H,⟨.inl Z,.inl Z,.inl Z,.inl Z,.inl Z,.inl Z,.inl Z,.inl Z,.inr ⟨Z,Z⟩,.inl Z,U⟩,U⟩
  ·rintro ⟨v30,v31⟩ H
   replace H:xc r2 r6 r8 r10 r25 v30 v31=some r:=H
   unfold xc at H
   refine z7n (ι:=(List zc)) (fun i=>[(7,.dat (vlst (List.map zn r8.1))),(8,.dat (vint r8.2)),(9,.dat (vlst (List.map zn r10.1))),(10,.dat (vint r10.2)),(12,.dat (vint v30)),(13,.dat (vint r25)),(14,.dat (vlst (List.map zn v31))),(15,.dat (vlst (List.map zn i)))]) (fun i=>[]) (fun i=>xb r8 r10 r25 v30 v31 i=some r) (fun i=>Z) (fun i=>Z) ?_ ?_
   ·skip
    refine zb hN Z (qd Z (za (qy Z Z) (zg _ Z (fun h32 => ?_) (fun h32 => ?_))))
    ·exact tE h32 H fun H=>zt hN Z (qd Z (qd Z (bE H fun r33 h34 H=>za (zr (y26 r2.1 r6.1 r33 h34) ⟨.inl Z,.inl Z,U⟩) (qe Z ⟨r33,H,⟨.inl Z,.inl Z,.inl Z,.inl Z,.inl Z,.inl Z,.inl Z,.inl Z,U⟩,U⟩))))
    ·exact fE h32 H fun H=>zl ⟨[],H,⟨.inl Z,.inl Z,.inl Z,.inl Z,.inl Z,.inl Z,.inl Z,.inr ⟨Z,Z⟩,U⟩,U⟩
   ·rintro v35 H
    replace H:xb r8 r10 r25 v30 v31 v35=some r:=H
    unfold xb at H
    refine yp (ι:=Bool) (fun i=>[(2,.dat (zk i))]) (fun i=>[]) (fun i=>jr i=some r) (fun i=>Z) ?_ ?_
    ·skip
     refine zt hN Z (qd Z (qd Z (za (qy Z Z) (qd Z (qh (j:=3) Z Z (fun h36 => ?_) (fun h36 => ?_) Z)))))
     ·refine u1 h36 H fun h37 H=>zq Z Z h36 (zd (.dat _) Z) (zq Z Z h36 (zd (.dat _) Z) (bE H fun r38 h39 H=>zq Z Z h36 (zr (z6n r8.1 v31 r38 h39) ⟨.inl Z,.inl Z,U⟩) (za (yq Z (bTT h37) Z) (qd Z (qh (j:=8) Z Z (fun h40 => ?_) (fun h40 => ?_) Z)))))
      ·refine u1 h40 H fun h41 H=>zq Z Z h40 (zd (.dat _) Z) (zq Z Z h40 (zd (.dat _) Z) (zq Z Z h40 (qy Z Z) (za (yq Z (bTT h41) Z) (qd Z (qh (j:=13) Z Z (fun h42 => ?_) (fun h42 => ?_) Z)))))
       ·refine u1 h42 H fun h43 H=>zq Z Z h42 (zd (.dat _) Z) (zq Z Z h42 (zd (.dat _) Z) (bE H fun r44 h45 H=>zq Z Z h42 (zr (z6n r10.1 v35 r44 h45) ⟨.inl Z,.inl Z,U⟩) (za (yq Z (bTT h43) Z) (qd Z (qh (j:=18) Z Z (fun h46 => ?_) (fun h46 => ?_) Z)))))
        ·exact u1 h46 H fun h47 H=>bE H fun r48 h49 H=>zq Z Z h46 (zr (y3i  r48 h49) U) (za (yq Z (bTT h47) Z) (qe Z ⟨r48,H,⟨Z,U⟩,U⟩))
        ·exact u2 h46 H fun h50 H=>zf Z Z h46 (za (yl Z (bFF h50) Z) (qe Z ⟨false,H,⟨Z,U⟩,U⟩))
       ·exact u2 h42 H fun h51 H=>zf Z Z h42 (zf Z Z h42 (zf Z Z h42 (za (yl Z (bFF h51) Z) (qd Z (zf Z Z Z (za (yl Z Z Z) (qe Z ⟨false,H,⟨Z,U⟩,U⟩)))))))
      ·exact u2 h40 H fun h52 H=>zf Z Z h40 (zf Z Z h40 (zf Z Z h40 (za (yl Z (bFF h52) Z) (qd Z (zf Z Z Z (zf Z Z Z (zf Z Z Z (za (yl Z Z Z) (qd Z (zf Z Z Z (za (yl Z Z Z) (qe Z ⟨false,H,⟨Z,U⟩,U⟩))))))))))))
     ·exact u2 h36 H fun h53 H=>zf Z Z h36 (zf Z Z h36 (zf Z Z h36 (za (yl Z (bFF h53) Z) (qd Z (zf Z Z Z (zf Z Z Z (zf Z Z Z (za (yl Z Z Z) (qd Z (zf Z Z Z (zf Z Z Z (zf Z Z Z (za (yl Z Z Z) (qd Z (zf Z Z Z (za (yl Z Z Z) (qe Z ⟨false,H,⟨Z,U⟩,U⟩)))))))))))))))))
    ·rintro v54 H
     replace H:jr v54=some r:=H
     unfold jr at H
     refine zh ?_
     cases H
     exact ⟨U,.inl Z,U⟩
end Go.Proofs.YtbndlmnjeofkdabGreatDoor
