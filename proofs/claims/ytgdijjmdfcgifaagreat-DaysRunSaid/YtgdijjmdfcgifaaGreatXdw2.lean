/- Walks along the models. Printed by a program. -/
import Derived.Test.YtgdijjmdfcgifaaGreatXdw1
namespace Go.Proofs.YtgdijjmdfcgifaaGreat
open Go.RowKit
set_option linter.unusedVariables false
set_option maxRecDepth 100000
set_option maxHeartbeats 2000000
theorem x7s (x1:(List zt)) (p1:zt→zt→Option (Int)) (fv1:Nat) (us1:List V) (hp1:∀ a0 a1 r,p1 a0 a1=some r→Fn Tryz.prog fv1 ([vagg (yv a0),vagg (yv a1)]++us1) (zu [vint r])) (r:((List zt))) (H:z1t x1 p1=some r):FnG Tryz.prog 68 [.row 0 x1.length,.dat (vfn fv1 us1)] [(0,.rowA undef 122 5 (List.map yv x1))] (.dat (zu [])) [(0,.rowA undef 122 5 (List.map yv r))]:=by
 refine Zu (by kernel_rfl) Tryz.func68 Z Z Z Z fun X A hN => ?_
 unfold z1t at H
 refine zm hN Z (za (zg (.row _ _) Z) (za (zg (.row _ _) Z) (zh (Zm z08 Z Z) Z (qd Z (bE H fun r2 h3 H=>gE H fun h4 H=>Zp (rn [(0,0)]) [(0,_,_,some _)] [] (x7r x1 (x1.length:Int) p1 fv1 us1 hp1 r2 h3) ⟨Z,U⟩ ⟨.inl (.inl Z),.inl (.inl Z),.inl (.inl Z),U⟩ ⟨⟨⟨Z,Z,Z⟩,by simp [z0d,h4]⟩,U⟩ Z ?_)))))
 have eH:r2=r:=Option.some.inj H
 subst eH
 exact ⟨U,[],U,⟨Z,U⟩,Z,.inl ⟨[],U,Z⟩⟩
theorem uh (n1:Int) (low2:Int) (high3:Int) (r:(Bool)) (H:vy n1 low2 high3=some r):Fn Tryz.prog 35 [vint n1,vint low2,vint high3] (zu [zn r]):=by
 refine ⟨by kernel_rfl,yr (us:=[zn r]) Tryz.func35 Z Z Z Z fun X hN => ?_⟩
 unfold vy at H
 refine zb hN Z (qe Z (zb hN Z (qd Z (qd Z (za (xi Z Z) (qd Z (qt Z Z (fun hc=>zg (.dat _) Z) (qt Z Z (fun hc=>zg (.dat _) Z) (qt Z Z (fun hc=>xi (cnd (c:=(decide (low2≤n1))) hc) (cnd (c:=(decide (low2≤n1))) hc)) (za (uv Z (fun hb=>(cnd (c:=(decide (low2≤n1))) hb)) Z) (qe Z (zo ?_))))))))))))
 cases H
 exact ⟨U,.inl Z,U⟩
theorem y9m (l1:(List Int)) (c2:Int) (c3:wn) (r:(Int)) (H:z30 l1 c2 c3=some r):Fn Tryz.prog 114 [vlst (List.map yl l1),zx [[vint c2]] 0 0,zx [[vint c3.Window,vint c3.Least,vint c3.Part]] 0 0] (zu [vint r]):=by
 refine ⟨by kernel_rfl,yr (us:=[vint r]) Tryz.func114 Z Z Z Z fun X hN => ?_⟩
 unfold z30 at H
 refine zb hN Z (qe Z (zb hN Z (qe Z (zd (zb hN Z (qd Z (za (yx z09 Z) (qd Z (zw (gE H fun h7 H=>wg (fun (k5:Nat) (s:Int)=>[(1,.dat (zx [[vint c2]] 0 0)),(2,.dat (zx [[vint c3.Window,vint c3.Least,vint c3.Part]] 0 0)),(5,.dat (vint s)),(8,.dat (vlst (List.map yl l1))),(9,.dat (vint (l1.length:Int))),(10,.dat (vint (k5:Int)))]) (fun (k5:Nat) (s:Int)=>[]) 0 H ⟨Z,Z,Z,Z,Z,Z,U⟩ U (fun _ _=>Z) ?_ ?_))))))))))
 ·rintro n4 H
  replace H:y0r n4=some r:=H
  unfold y0r at H
  refine zb hN Z (za (zq Z Z) (zd (zk _ Z (fun h=>(lt_t h).elim) (fun h => ?_))))
  refine qa (zb hN Z (qd Z (qe Z (zo ?_))))
  cases H
  exact ⟨U,.inl Z,U⟩
 ·rintro k5 x8 n4 q6 h9 h10 H hq6
  replace H:y0q c2 c3 k5 x8 n4=some q6:=H
  unfold y0q at H
  refine zb hN Z (za (zq Z Z) (zd (zk _ Z (fun h => ?_) (fun h=>(lt_f h9 h).elim))))
  refine zp (qi (ι:=Int) (fun i=>[(1,.dat (zx [[vint c2]] 0 0)),(2,.dat (zx [[vint c3.Window,vint c3.Least,vint c3.Part]] 0 0)),(5,.dat (vint i)),(8,.dat (vlst (List.map yl l1))),(9,.dat (vint (l1.length:Int))),(10,.dat (vint (k5:Int)))]) (fun i=>[]) (fun i=>z4g i=some q6) (fun i=>Z) ?_ ?_)
  ·skip
   refine zw (zb hN Z (za (wb jr (fun _=>Z) Z Z h10) (za (yt tyS3 Z (yz h10) Z) (qe Z (zb hN Z (qd Z (za (yt tyS3 Z Z Z) (za (wd z8l Z) (za (yt tyS3 Z Z Z) (za (ym _ Z Z (.inr (.inl ⟨Z,Z⟩))) (za (ym _ Z Z (.inl ⟨Z,Z⟩)) (za (yt tyS3 Z Z Z) (bE H fun r11 h12 H=>za (ye (uh x8 (wr ((wr (c2 - c3.Window))+1)) c2 r11 h12) ⟨.inl Z,.inl Z,.inl Z,U⟩) (zk _ Z (fun h13 => ?_) (fun h13 => ?_)))))))))))))))
   ·exact tE h13 H fun H=>zm hN Z (qd Z (za (ym _ Z Z (.inl ⟨Z,Z⟩)) (qe Z ⟨wr (n4+1),H,⟨Z,Z,Z,Z,Z,Z,U⟩,U⟩)))
   ·exact fE h13 H fun H=>zp ⟨n4,H,⟨Z,Z,Z,Z,Z,Z,U⟩,U⟩
  ·rintro n14 H
   replace H:z4g n14=some q6:=H
   unfold z4g at H
   exact zm hN Z (za (yy Z Z (by omega)) (qd Z ⟨_,qx H,⟨Z,Z,Z,Z,Z,Z,U⟩,U⟩))
theorem y9n (b1:wn) (calls2:(List Int)) (again3:(List Int)) (v4:Int) (r:(Bool)) (H:z6s b1 calls2 again3 v4=some r):Fn Tryz.prog 100 [vagg (xy b1),vlst (List.map yl calls2),vlst (List.map yl again3),vint v4] (zu [zn r]):=by
 refine ⟨by kernel_rfl,yr (us:=[zn r]) Tryz.func100 Z Z Z Z fun X hN => ?_⟩
 unfold z6s at H
 refine zb hN Z (zi (vt 1 Z) Z (zi (z0c 2 Z Z) Z (qe Z (zd (xm 2 [vint v4] Z Z (xm 1 [vint b1.Window,vint b1.Least,vint b1.Part] Z Z (zm hN Z (za (Yn (us:=[_,_]) ⟨Z,Z,U⟩) (qe Z (zd (yo mixed hN Z Z (qd Z (qd Z (bE H fun r5 h6 H=>za (uw (us:=[vlst (List.map yl again3)]) (cs:=[zx [[vint v4]] 0 0,zx [[vint b1.Window,vint b1.Least,vint b1.Part]] 0 0]) (y9m again3 v4 b1 r5 h6) Z ⟨.inl Z,U⟩) (za (wd z8k Z) (za (yt tyS3 Z Z Z) (za (wd z8j Z) (za (yt tyS3 Z Z Z) (qd Z (qd Z (bE H fun r7 h8 H=>za (uw (us:=[vlst (List.map yl calls2)]) (cs:=[zx [[vint v4]] 0 0,zx [[vint b1.Window,vint b1.Least,vint b1.Part]] 0 0]) (y9m calls2 v4 b1 r7 h8) Z ⟨.inl Z,U⟩) ?_)))))))))))))))))))))
 refine za (ym _ Z Z (.inr (.inr ⟨Z,Z⟩))) (gE H fun h9 H=>za (z1j Z Z h9.1 h9.2) (za (ym _ Z Z (.inl ⟨Z,Z⟩)) (za (zq Z Z) (qe Z ⟨Z,?_⟩))))
 refine zo ?_
 cases H
 exact ⟨U,.inl Z,U⟩
theorem x9t (wait1:Int) (most2:Int) (v3:Int) (r:(Int)) (H:z32 wait1 most2 v3=some r):Fn Tryz.prog 101 [vint wait1,vint most2,vint v3] (zu [vint r]):=by
 refine ⟨by kernel_rfl,yr (us:=[vint r]) Tryz.func101 Z Z Z Z fun X hN => ?_⟩
 unfold z32 at H
 refine zb hN Z (qe Z (zd (zb hN Z (qd Z (za (ym _ Z Z (.inr (.inl ⟨Z,Z⟩))) (qd Z (zw (gE H fun h7 H=>z2i (fun (k5:Nat) (s:Int)=>[(0,.dat (vint s)),(1,.dat (vint most2)),(8,.dat (vint (wr (v3 - 2)))),(9,.dat (vint (k5:Int)))]) (fun (k5:Nat) (s:Int)=>[]) wait1 H ⟨Z,Z,Z,Z,U⟩ U (fun _ _=>Z) ?_ ?_))))))))
 ·rintro wait4 H
  replace H:y0x wait4=some r:=H
  unfold y0x at H
  refine zb hN Z (za (zq Z Z) (zd (zk _ Z (fun h=>(z37 h).elim) (fun h => ?_))))
  refine qa (zb hN Z (qd Z (qe Z (zo ?_))))
  cases H
  exact ⟨U,.inl Z,U⟩
 ·rintro k5 wait4 q6 h8 H hq6
  replace H:y0w most2 k5 wait4=some q6:=H
  unfold y0w at H
  refine zb hN Z (za (zq Z Z) (zd (zk _ Z (fun h => ?_) (fun h=>(z38 h8 h).elim))))
  exact zp (zd (zw (zm hN Z (qd Z (za (ym _ Z Z (.inr (.inr ⟨Z,Z⟩))) (qd Z (za (y2i Z Z) (qe Z (zm hN Z (za (yy Z Z (by omega)) (qd Z ⟨_,qx H,⟨Z,Z,Z,Z,U⟩,U⟩)))))))))))
theorem y9l (loads1:(List jl)) (key2:Bs) (r:(Int)) (H:z1v loads1 key2=some r):Fn Tryz.prog 118 [vlst (List.map Zy loads1),vstr key2] (zu [vint r]):=by
 refine ⟨by kernel_rfl,yr (us:=[vint r]) Tryz.func118 Z Z Z Z fun X hN => ?_⟩
 unfold z1v at H
 refine zb hN Z (qe Z (zd (zb hN Z (qd Z (za (yx x2i Z) (qd Z (zw (gE H fun h5 H=>wg (fun (k3:Nat) (s:Unit)=>[(1,.dat (vstr key2)),(7,.dat (vlst (List.map Zy loads1))),(8,.dat (vint (loads1.length:Int))),(9,.dat (vint (k3:Int)))]) (fun (k3:Nat) (s:Unit)=>[]) () H ⟨Z,Z,Z,Z,U⟩ U (fun _ _=>Z) ?_ ?_))))))))
 ·rintro ⟨⟩ H
  replace H:y0n=some r:=H
  unfold y0n at H
  refine zb hN Z (za (zq Z Z) (zd (zk _ Z (fun h=>(lt_t h).elim) (fun h => ?_))))
  refine qa (zb hN Z (qe Z (zo ?_)))
  cases H
  exact ⟨U,.inl Z,U⟩
 ·rintro k3 x6 ⟨⟩ q4 h7 h8 H hq4
  replace H:z4c key2 k3 x6=some q4:=H
  unfold z4c at H
  refine zb hN Z (za (zq Z Z) (zd (zk _ Z (fun h => ?_) (fun h=>(lt_f h7 h).elim))))
  refine zp (zd (zw (zb hN Z (za (wb x3g (fun _=>Z) Z Z h8) (za (wv y5s Z (yz h8) Z) (zi (qh 1 y5l Z) Z (zi (qf y5s Z Z Z Z) Z (zb hN Z (za (ze x3b Z) (zh (zj tyS9 Z Z) Z (qd Z (za (xu Z Z) (zk _ Z (fun h9 => ?_) (fun h9 => ?_))))))))))))))
  ·refine tE h9 H fun H=>zb hN Z (za (ze x3a Z) (zh (zj tyS3 Z Z) Z (qe Z (zo ?_))))
   replace H:=retl H hq4
   cases H
   exact ⟨U,.inl Z,U⟩
  ·exact fE h9 H fun H=>zp (zm hN Z (za (yy Z Z (by omega)) (qd Z ⟨_,qx H,⟨Z,Z,Z,Z,U⟩,U⟩)))
theorem x9m (l1:(List zl)) (loads2:(List jl)) (r:(Bs)) (H:z6u l1 loads2=some r):Fn Tryz.prog 103 [vlst (List.map ya l1),vlst (List.map Zy loads2)] (zu [vstr r]):=by
 refine ⟨by kernel_rfl,yr (us:=[vstr r]) Tryz.func103 Z Z Z Z fun X hN => ?_⟩
 unfold z6u at H
 refine zb hN Z (qe Z (zb hN Z (qd Z (bE H fun x3 h4 H=>za (wb jq (fun _=>Z) Z Z h4) (za (wv vm Z (yz h4) Z) (zi (qh 1 um Z) Z (zi (qf vm Z Z Z Z) Z (zd (zb hN Z (qd Z (za (yx vw Z) (qd Z (zw (gE H fun h9 H=>wg (fun (k7:Nat) (s:Bs×Int)=>[(1,.dat (vlst (List.map Zy loads2))),(5,.ptr 1 0),(11,.dat (vlst (List.map ya l1))),(12,.dat (vint (l1.length:Int))),(13,.dat (vint (k7:Int)))]) (fun (k7:Nat) (s:Bs×Int)=>[(1,.box none 115 [.dat (vstr s.1),.dat (vint s.2)])]) (x3.Key,x3.Weight) H ⟨Z,Z,Z,Z,Z,U⟩ ⟨Z,U⟩ (fun _ _=>Z) ?_ ?_))))))))))))))
 ·rintro ⟨c5,c6⟩ H
  replace H:y0t c5 c6=some r:=H
  unfold y0t at H
  refine zb hN Z (za (zq Z Z) (zd (zk _ Z (fun h=>(lt_t h).elim) (fun h => ?_))))
  refine qa (zb hN Z (za (ze jg Z) (zh (zj tyS9 Z Z) Z (qe Z (zo ?_)))))
  cases H
  exact ⟨U,.inl Z,U⟩
 ·rintro k7 x10 ⟨c5,c6⟩ q8 h11 h12 H hq8
  replace H:y0s loads2 k7 x10 c5 c6=some q8:=H
  unfold y0s at H
  refine zb hN Z (za (zq Z Z) (zd (zk _ Z (fun h => ?_) (fun h=>(lt_f h11 h).elim))))
  refine zp (qi (ι:=Bs×Int) (fun i=>[(1,.dat (vlst (List.map Zy loads2))),(5,.ptr 1 0),(11,.dat (vlst (List.map ya l1))),(12,.dat (vint (l1.length:Int))),(13,.dat (vint (k7:Int)))]) (fun i=>[(1,.box none 115 [.dat (vstr i.1),.dat (vint i.2)])]) (fun i=>z4i i.1 i.2=some q8) (fun i=>Z) ?_ ?_)
  ·skip
   refine zw (zb hN Z (za (wb jq (fun _=>Z) Z Z h12) (za (wv vm Z (yz h12) Z) (zi (qh 2 um Z) Z (zi (qf vm Z Z Z Z) Z (zd (yo mixed hN Z Z (qd Z (za (ze jg Z) (zh (zj tyS9 Z Z) Z (bE H fun r13 h14 H=>za (ye (y9l loads2 x10.Key r13 h14) ⟨.inl Z,.inl Z,U⟩) (za (ym _ Z Z (.inl ⟨Z,Z⟩)) (za (ze Qo Z) (zh (zj tyS3 Z Z) Z (za (ym _ Z Z (.inr (.inr ⟨Z,Z⟩))) (qd Z (za (ze jg Z) (zh (zj tyS9 Z Z) Z (bE H fun r15 h16 H=>za (ye (y9l loads2 c5 r15 h16) ⟨.inl Z,.inl Z,U⟩) (za (ym _ Z Z (.inl ⟨Z,Z⟩)) (za (ze Qo Z) ?_)))))))))))))))))))))
   refine zh (zj tyS3 Z Z) Z (za (ym _ Z Z (.inr (.inr ⟨Z,Z⟩))) (za (zq Z Z) ⟨Z,?_⟩))
   refine zk _ Z (fun h17 => ?_) (fun h17 => ?_)
   ·exact tE h17 H fun H=>zm hN Z (zh (wm vm Z Z Z) Z (zi (qf vm Z Z Z Z) Z ⟨(x10.Key,x10.Weight),H,⟨Z,Z,Z,Z,Z,U⟩,⟨Z,U⟩⟩))
   ·exact fE h17 H fun H=>zp ⟨(c5,c6),H,⟨Z,Z,Z,Z,Z,U⟩,⟨Z,U⟩⟩
  ·rintro ⟨c18,c19⟩ H
   replace H:z4i c18 c19=some q8:=H
   unfold z4i at H
   exact zm hN Z (za (yy Z Z (by omega)) (qd Z ⟨_,qx H,⟨Z,Z,Z,Z,Z,U⟩,⟨Z,U⟩⟩))
theorem x8x (s1:(List Bs)) (v2:Bs) (r:(Int)) (H:y3p s1 v2=some r):Fn Tryz.prog 122 [vlst (List.map vd s1),vstr v2] (zu [vint r]):=by
 refine ⟨by kernel_rfl,yr (us:=[vint r]) Tryz.func122 Z Z Z Z fun X hN => ?_⟩
 unfold y3p at H
 refine zb hN Z (qe Z (zd (zb hN Z (qd Z (za (yx Wu Z) (qd Z (zw (gE H fun h5 H=>wg (fun (k3:Nat) (s:Unit)=>[(0,.dat (vlst (List.map vd s1))),(1,.dat (vstr v2)),(7,.dat (vint (s1.length:Int))),(8,.dat (vint (k3:Int)))]) (fun (k3:Nat) (s:Unit)=>[]) () H ⟨Z,Z,Z,Z,U⟩ U (fun _ _=>Z) ?_ ?_))))))))
 ·rintro ⟨⟩ H
  replace H:y2v=some r:=H
  unfold y2v at H
  refine zb hN Z (za (zq Z Z) (zd (zk _ Z (fun h=>(lt_t h).elim) (fun h => ?_))))
  refine qa (zb hN Z (qe Z (zo ?_)))
  cases H
  exact ⟨U,.inl Z,U⟩
 ·rintro k3 x6 ⟨⟩ q4 h7 h8 H hq4
  replace H:y2u v2 k3 x6=some q4:=H
  unfold y2u at H
  refine zb hN Z (za (zq Z Z) (zd (zk _ Z (fun h => ?_) (fun h=>(lt_f h7 h).elim))))
  refine zp (zd (zw (zb hN Z (qd Z (qe Z (zb hN Z (qd Z (qd Z (qd Z (za (wb z24 (fun _=>Z) Z Z h8) (za (yt tyS9 Z (yz h8) Z) (za (xu Z Z) (zk _ Z (fun h9 => ?_) (fun h9 => ?_))))))))))))))
  ·refine tE h9 H fun H=>zb hN Z (qd Z (qe Z (zo ?_)))
   replace H:=retl H hq4
   cases H
   exact ⟨U,.inl Z,U⟩
  ·exact fE h9 H fun H=>zp (zm hN Z (za (yy Z Z (by omega)) (qd Z ⟨_,qx H,⟨Z,Z,Z,Z,U⟩,U⟩)))
theorem x85 (s1:(List Bs)) (v2:Bs) (r:(Bool)) (H:z95 s1 v2=some r):Fn Tryz.prog 115 [vlst (List.map vd s1),vstr v2] (zu [zn r]):=by
 refine ⟨by kernel_rfl,yr (us:=[zn r]) Tryz.func115 Z Z Z Z fun X hN => ?_⟩
 unfold z95 at H
 refine zb hN Z (qe Z (zb hN Z (qd Z (qd Z (bE H fun r3 h4 H=>za (ye (x8x s1 v2 r3 h4) ⟨.inl Z,.inl Z,U⟩) (za (ke Z Z) (qe Z (zo ?_))))))))
 cases H
 exact ⟨U,.inl Z,U⟩
theorem y9j (s1:Bs) (r:(Bool)) (H:z3v s1=some r):Fn Tryz.prog 63 [vstr s1] (zu [zn r]):=by
 refine ⟨by kernel_rfl,yr (us:=[zn r]) Tryz.func63 Z Z Z Z fun X hN => ?_⟩
 unfold z3v at H
 refine zb hN Z (qe Z (zd (zb hN Z (qe Z (zw (gE H fun h4 H=>wg (fun (i2:Nat) (s:Unit)=>[(0,.dat (vstr s1)),(3,.dat (vint (i2:Int)))]) (fun (i2:Nat) (s:Unit)=>[]) () H ⟨Z,Z,U⟩ U (fun _ _=>Z) ?_ ?_))))))
 ·rintro ⟨⟩ H
  replace H:y3x s1=some r:=H
  unfold y3x at H
  refine zd (zb hN Z (qd Z (qd Z (za (z5q tyU9 Z) (za (zq Z Z) (zk _ Z (fun h=>(lt_t h).elim) (fun h => ?_)))))))
  refine qa (zb hN Z (qd Z (za (y6l Z Z) (qd Z (qt Z Z (fun hc=>zg (.dat _) Z) (qt Z Z (fun hc=>z5q tyU9 (cnd (c:=(decide (s1≠[]))) hc)) (qt Z Z (fun hc=>xi (cnd (c:=(decide (s1≠[]))) hc) Z) (za (uv Z (fun hb=>(cnd (c:=(decide (s1≠[]))) hb)) Z) (qe Z (zo ?_))))))))))
  cases H
  exact ⟨U,.inl Z,U⟩
 ·rintro i2 x5 ⟨⟩ q3 h6 h7 H hq3
  replace H:y0l i2 x5=some q3:=H
  unfold y0l at H
  refine zd (zb hN Z (qd Z (qd Z (za (z5q tyU9 Z) (za (zq Z Z) (zk _ Z (fun h => ?_) (fun h=>(lt_f h6 h).elim)))))))
  refine zp (zd (zw (zb hN Z (qd Z (qd Z (za (y6e tyU9 Z Z h7) (qe Z (zb hN Z (qd Z (za (ke Z Z) (qd Z (qt Z Z (fun hc=>zg (.dat _) Z) (qt Z Z (fun hc=>xi (cnd (c:=(decide (97≤(x5.toNat:Int)))) hc) Z) (za (uv Z (fun hb=>(cnd (c:=(decide (97≤(x5.toNat:Int)))) hb)) Z) (qd Z (ue Z Z (fun hc=>zg (.dat _) Z) (ue Z Z (fun hc=>vn (cnd (c:=(!((decide (97≤(x5.toNat:Int))) && (decide ((x5.toNat:Int)≤122))))) hc) Z) (ue Z Z (fun hc=>zg (.dat _) (cnd (c:=(!((decide (97≤(x5.toNat:Int))) && (decide ((x5.toNat:Int)≤122))))) hc)) (uy Z Z (fun hc=>zg (.dat _) Z) (uy Z Z (fun hc=>ke (cnd (c:=((!((decide (97≤(x5.toNat:Int))) && (decide ((x5.toNat:Int)≤122)))) && (decide (0 < (i2:Int))))) hc) Z) (uy Z Z (fun hc=>zg (.dat _) (cnd (c:=((!((decide (97≤(x5.toNat:Int))) && (decide ((x5.toNat:Int)≤122)))) && (decide (0 < (i2:Int))))) hc)) (uy Z Z (fun hc=>zg (.dat _) Z) (uy Z Z (fun hc=>xi (cnd (c:=(((!((decide (97≤(x5.toNat:Int))) && (decide ((x5.toNat:Int)≤122)))) && (decide (0 < (i2:Int)))) && (decide (48≤(x5.toNat:Int))))) hc) Z) ?_)))))))))))))))))))))))
  refine uy Z Z (fun hc=>uv (cnd (c:=((!((decide (97≤(x5.toNat:Int))) && (decide ((x5.toNat:Int)≤122)))) && (decide (0 < (i2:Int))))) hc) (fun hb=>(cnd (c:=(((!((decide (97≤(x5.toNat:Int))) && (decide ((x5.toNat:Int)≤122)))) && (decide (0 < (i2:Int)))) && (decide (48≤(x5.toNat:Int))))) (andI hc hb))) Z) (uy Z Z (fun hc=>zg (.dat _) (cnd (c:=((!((decide (97≤(x5.toNat:Int))) && (decide ((x5.toNat:Int)≤122)))) && (decide (0 < (i2:Int))))) hc)) (z9d Z Z (fun hc=>zg (.dat _) Z) (z9d Z Z (fun hc=>qz (cnd (c:=(((!((decide (97≤(x5.toNat:Int))) && (decide ((x5.toNat:Int)≤122)))) && (decide (0 < (i2:Int)))) && !((decide (48≤(x5.toNat:Int))) && (decide ((x5.toNat:Int)≤57))))) hc) Z) (uy Z Z (fun hc=>z1k (cnd (c:=((!((decide (97≤(x5.toNat:Int))) && (decide ((x5.toNat:Int)≤122)))) && (decide (0 < (i2:Int))))) hc) Z (fun hb=>(cnd (c:=(((!((decide (97≤(x5.toNat:Int))) && (decide ((x5.toNat:Int)≤122)))) && (decide (0 < (i2:Int)))) && !((decide (48≤(x5.toNat:Int))) && (decide ((x5.toNat:Int)≤57))))) (andI hc (notI hb))))) (uy Z Z (fun hc=>zg (.dat _) (cnd (c:=((!((decide (97≤(x5.toNat:Int))) && (decide ((x5.toNat:Int)≤122)))) && (decide (0 < (i2:Int))))) hc)) (z9d Z Z (fun hc=>zg (.dat _) Z) (z9d Z Z (fun hc=>qz (cnd (c:=(((!((decide (97≤(x5.toNat:Int))) && (decide ((x5.toNat:Int)≤122)))) && (decide (0 < (i2:Int)))) && !(((decide (48≤(x5.toNat:Int))) && (decide ((x5.toNat:Int)≤57))) || (decide ((x5.toNat:Int)=45))))) hc) Z) (uy Z Z (fun hc=>z1k (cnd (c:=((!((decide (97≤(x5.toNat:Int))) && (decide ((x5.toNat:Int)≤122)))) && (decide (0 < (i2:Int))))) hc) Z (fun hb=>(cnd (c:=(((!((decide (97≤(x5.toNat:Int))) && (decide ((x5.toNat:Int)≤122)))) && (decide (0 < (i2:Int)))) && !(((decide (48≤(x5.toNat:Int))) && (decide ((x5.toNat:Int)≤57))) || (decide ((x5.toNat:Int)=45))))) (andI hc (notI hb))))) (ue Z Z (fun hc=>uv (cnd (c:=(!((decide (97≤(x5.toNat:Int))) && (decide ((x5.toNat:Int)≤122))))) hc) (fun hb=>(cnd (c:=((!((decide (97≤(x5.toNat:Int))) && (decide ((x5.toNat:Int)≤122)))) && (decide (0 < (i2:Int))))) (andI hc hb))) Z) (za (z1k Z Z (fun hb=>(cnd (c:=(!((decide (97≤(x5.toNat:Int))) && (decide ((x5.toNat:Int)≤122))))) (notI hb)))) (za (qs Z) (zk _ Z (fun h8 => ?_) (fun h8 => ?_)))))))))))))
  ·refine tE h8 H fun H=>zb hN Z (qe Z (zo ?_))
   replace H:=retl H hq3
   cases H
   exact ⟨U,.inl Z,U⟩
  ·exact fE h8 H fun H=>zp (zm hN Z (qd Z (za (yy Z Z (by omega)) (qe Z ⟨_,qx H,⟨Z,Z,U⟩,U⟩))))
theorem xk (n1:Int) (low2:Int) (high3:Int) (r:(Bool)) (H:jv n1 low2 high3=some r):Fn Tryz.prog 48 [vint n1,vint low2,vint high3] (zu [zn r]):=by
 refine ⟨by kernel_rfl,yr (us:=[zn r]) Tryz.func48 Z Z Z Z fun X hN => ?_⟩
 unfold jv at H
 refine zb hN Z (qe Z (zb hN Z (qd Z (qd Z (za (zq Z Z) (qd Z (ue Z Z (fun hc=>zg (.dat _) Z) (ue Z Z (fun hc=>zg (.dat _) Z) (ue Z Z (fun hc=>vn (cnd (c:=(!(decide (n1 < low2)))) hc) (cnd (c:=(!(decide (n1 < low2)))) hc)) (za (z1k Z Z (fun hb=>(cnd (c:=(!(decide (n1 < low2)))) (notI hb)))) (qe Z (zo ?_))))))))))))
 cases H
 exact ⟨U,.inl Z,U⟩
theorem y3z (l1:(List zl)) (r:(Int)) (H:z1s l1=some r):Fn Tryz.prog 59 [vlst (List.map ya l1)] (zu [vint r]):=by
 refine ⟨by kernel_rfl,yr (us:=[vint r]) Tryz.func59 Z Z Z Z fun X hN => ?_⟩
 unfold z1s at H
 refine zb hN Z (qe Z (zd (zb hN Z (qd Z (za (yx vw Z) (za (vn Z Z) (zk _ Z (fun h2 => ?_) (fun h2 => ?_))))))))
 ·refine tE h2 H fun H=>zb hN Z (qe Z (zo ?_))
  cases H
  exact ⟨U,.inl Z,U⟩
 ·refine fE h2 H fun H=>zp (zd (zb hN Z (qd Z (za (yx vw Z) (qd Z (zw (gE H fun h5 H=>wg (fun (k3:Nat) (s:Unit)=>[(0,.dat (vlst (List.map ya l1))),(8,.dat (vlst (List.map ya l1))),(9,.dat (vint (l1.length:Int))),(10,.dat (vint (k3:Int)))]) (fun (k3:Nat) (s:Unit)=>[]) () H ⟨Z,Z,Z,Z,U⟩ U (fun _ _=>Z) ?_ ?_)))))))
  ·rintro ⟨⟩ H
   replace H:z78=some r:=H
   unfold z78 at H
   refine zb hN Z (za (zq Z Z) (zd (zk _ Z (fun h=>(lt_t h).elim) (fun h => ?_))))
   refine qa (zb hN Z (qe Z (zo ?_)))
   cases H
   exact ⟨U,.inl Z,U⟩
  ·rintro k3 x6 ⟨⟩ q4 h7 h8 H hq4
   replace H:z04 l1 k3 x6=some q4:=H
   unfold z04 at H
   refine zb hN Z (za (zq Z Z) (zd (zk _ Z (fun h => ?_) (fun h=>(lt_f h7 h).elim))))
   refine zp (zd (zw (zb hN Z (qd Z (za (wb jq (fun _=>Z) Z Z h8) (za (wv vm Z (yz h8) Z) (zi (qh 1 um Z) Z (qe Z (zi (qf vm Z Z Z Z) Z (zw (zb hN Z (za (ze jg Z) (zh (zj tyS9 Z Z) Z (bE H fun r9 h10 H=>za (ye (y9j x6.Key r9 h10) ⟨.inl Z,U⟩) (za (qs Z) (qe Z (zk _ Z (fun h11 => ?_) (fun h11 => ?_))))))))))))))))))
   ·refine tE h11 H fun H=>zb hN Z (qe Z (zo ?_))
    replace H:=retl H hq4
    cases H
    exact ⟨U,.inl Z,U⟩
   ·refine fE h11 H fun H=>qi (ι:=Bool) (fun i=>[(0,.dat (vlst (List.map ya l1))),(4,.ptr 1 0),(8,.dat (vlst (List.map ya l1))),(9,.dat (vint (l1.length:Int))),(10,.dat (vint (k3:Int))),(20,.dat (zn i))]) (fun i=>[(1,.box none 115 [.dat (vstr x6.Key),.dat (vint x6.Weight)])]) (fun i=>z2q x6 i=some q4) (fun i=>Z) ?_ ?_
    ·skip
     refine yo mixed hN Z Z (qd Z (za (vn Z Z) (qd Z (qo (j:=2) Z Z (fun h12 => ?_) (fun h12 => ?_) Z))))
     ·refine u1 h12 H fun h13 H=>zf Z Z h12 (ze jg Z) (yd Z Z h12 (zj tyS9 Z Z) Z (zf Z Z h12 (zg (.dat _) Z) (zf Z Z h12 (zg (.dat _) Z) (zf Z Z h12 (z1i Z Z (by omega)) (bE H fun x14 h15 H=>zf Z Z h12 (js jq (fun _=>Z) Z Z h15) (zf Z Z h12 (wd jg Z) (zf Z Z h12 (yt tyS9 Z (yz (yp h15).2) Z) (zf Z Z h12 (y6n Z Z) (za (yh Z (bTT h13) Z) (qe Z ⟨Z,?_⟩))))))))))
      exact ⟨(Op.bytesLess x6.Key x14.Key || x6.Key == x14.Key),H,⟨Z,Z,Z,Z,Z,Z,U⟩,⟨Z,U⟩⟩
     ·refine u2 h12 H fun h16 H=>zc Z Z h12 (zc Z Z h12 (zc Z Z h12 (zc Z Z h12 (zc Z Z h12 (zc Z Z h12 (zc Z Z h12 (zc Z Z h12 (zc Z Z h12 (za (yn Z (bFF h16) Z) (qe Z ⟨Z,?_⟩))))))))))
      exact ⟨false,H,⟨Z,Z,Z,Z,Z,Z,U⟩,⟨Z,U⟩⟩
    ·rintro v17 H
     replace H:z2q x6 v17=some q4:=H
     unfold z2q at H
     refine zk _ Z (fun h18 => ?_) (fun h18 => ?_)
     ·refine tE h18 H fun H=>zb hN Z (qe Z (zo ?_))
      replace H:=retl H hq4
      cases H
      exact ⟨U,.inl Z,U⟩
     ·refine fE h18 H fun H=>zb hN Z (za (ze Qo Z) (zh (zj tyS3 Z Z) Z (bE H fun r19 h20 H=>za (ye (xk x6.Weight 1 100 r19 h20) ⟨.inl Z,.inl Z,.inl Z,U⟩) (qe Z (zk _ Z (fun h21 => ?_) (fun h21 => ?_))))))
      ·refine tE h21 H fun H=>zb hN Z (qe Z (zo ?_))
       replace H:=retl H hq4
       cases H
       exact ⟨U,.inl Z,U⟩
      ·exact fE h21 H fun H=>zp (zm hN Z (za (yy Z Z (by omega)) (qd Z ⟨_,qx H,⟨Z,Z,Z,Z,U⟩,U⟩)))
theorem x8u (b1:wn) (r:(Int)) (H:z6f b1=some r):Fn Tryz.prog 60 [vagg (xy b1)] (zu [vint r]):=by
 refine ⟨by kernel_rfl,yr (us:=[vint r]) Tryz.func60 Z Z Z Z fun X hN => ?_⟩
 unfold z6f at H
 refine zb hN Z (zi (vt 1 Z) Z (qe Z (zd (qi (ι:=Bool) (fun i=>[(15,.dat (zn i))]) (fun i=>[]) (fun i=>z06 i=some r) (fun i=>Z) ?_ ?_))))
 ·skip
  refine zm hN Z (za (ze z8l Z) (zh (zj tyS3 Z Z) Z (bE H fun r2 h3 H=>za (ye (xk b1.Window 1 3600000 r2 h3) ⟨.inl Z,.inl Z,.inl Z,U⟩) (qd Z (qo (j:=3) Z Z (fun h4 => ?_) (fun h4 => ?_) Z)))))
  ·refine u3 h4 H fun h5 H=>zf Z Z h4 (ze z8k Z) (yd Z Z h4 (zj tyS3 Z Z) Z (bE H fun r6 h7 H=>zf Z Z h4 (ye (xk b1.Least 0 300 r6 h7) ⟨.inl Z,.inl Z,.inl Z,U⟩) (za (yn Z (bFF h5) Z) (qd Z (qo (j:=8) Z Z (fun h8 => ?_) (fun h8 => ?_) Z)))))
   ·exact u3 h8 H fun h9 H=>zf Z Z h8 (ze z8j Z) (yd Z Z h8 (zj tyS3 Z Z) Z (bE H fun r10 h11 H=>zf Z Z h8 (ye (xk b1.Part 0 1000 r10 h11) ⟨.inl Z,.inl Z,.inl Z,U⟩) (za (yn Z (bFF h9) Z) ⟨r10,H,⟨Z,U⟩,U⟩)))
   ·exact u4 h8 H fun h12 H=>zc Z Z h8 (zc Z Z h8 (zc Z Z h8 (za (yh Z (bTT h12) Z) ⟨true,H,⟨Z,U⟩,U⟩)))
  ·exact u4 h4 H fun h13 H=>zc Z Z h4 (zc Z Z h4 (zc Z Z h4 (za (yh Z (bTT h13) Z) (qd Z (zc Z Z Z (zc Z Z Z (zc Z Z Z (za (yh Z Z Z) ⟨true,H,⟨Z,U⟩,U⟩))))))))
 ·rintro v14 H
  replace H:z06 v14=some r:=H
  unfold z06 at H
  refine zk _ Z (fun h15 => ?_) (fun h15 => ?_)
  ·refine tE h15 H fun H=>zb hN Z (qe Z (zo ?_))
   cases H
   exact ⟨U,.inl Z,U⟩
  ·refine fE h15 H fun H=>zp (zb hN Z (qe Z (zo ?_)))
   cases H
   exact ⟨U,.inl Z,U⟩
theorem x8n (o1:vo) (r:(Int)) (H:z6a o1=some r):Fn Tryz.prog 61 [vagg (xx o1)] (zu [vint r]):=by
 refine ⟨by kernel_rfl,yr (us:=[vint r]) Tryz.func61 Z Z Z Z fun X hN => ?_⟩
 unfold z6a at H
 refine zb hN Z (zi (vt 1 Z) Z (qe Z (zd (qi (ι:=Bool) (fun i=>[(22,.dat (zn i))]) (fun i=>[]) (fun i=>Wq i=some r) (fun i=>Z) ?_ ?_))))
 ·skip
  refine zm hN Z (za (ze z5i Z) (zh (zj tyS3 Z Z) Z (bE H fun r2 h3 H=>za (ye (xk o1.Fails 1 100 r2 h3) ⟨.inl Z,.inl Z,.inl Z,U⟩) (qd Z (qo (j:=3) Z Z (fun h4 => ?_) (fun h4 => ?_) Z)))))
  ·refine u3 h4 H fun h5 H=>zf Z Z h4 (ze z21 Z) (yd Z Z h4 (zj tyS3 Z Z) Z (zf Z Z h4 (ze Wy Z) (yd Z Z h4 (zj tyS3 Z Z) Z (bE H fun r6 h7 H=>zf Z Z h4 (ye (xk o1.Base 1 o1.Most r6 h7) ⟨.inl Z,.inl Z,.inl Z,U⟩) (za (yn Z (bFF h5) Z) (qd Z (qo (j:=10) Z Z (fun h8 => ?_) (fun h8 => ?_) Z)))))))
   ·refine u3 h8 H fun h9 H=>zf Z Z h8 (ze Wy Z) (yd Z Z h8 (zj tyS3 Z Z) Z (zf Z Z h8 (vn Z Z) (za (yn Z (bFF h9) Z) (qd Z (qo (j:=15) Z Z (fun h10 => ?_) (fun h10 => ?_) Z)))))
    ·exact u3 h10 H fun h11 H=>zf Z Z h10 (ze z5h Z) (yd Z Z h10 (zj tyS3 Z Z) Z (bE H fun r12 h13 H=>zf Z Z h10 (ye (xk o1.Share 0 1000 r12 h13) ⟨.inl Z,.inl Z,.inl Z,U⟩) (za (yn Z (bFF h11) Z) ⟨r12,H,⟨Z,U⟩,U⟩)))
    ·exact u4 h10 H fun h14 H=>zc Z Z h10 (zc Z Z h10 (zc Z Z h10 (za (yh Z (bTT h14) Z) ⟨true,H,⟨Z,U⟩,U⟩)))
   ·exact u4 h8 H fun h15 H=>zc Z Z h8 (zc Z Z h8 (zc Z Z h8 (za (yh Z (bTT h15) Z) (qd Z (zc Z Z Z (zc Z Z Z (zc Z Z Z (za (yh Z Z Z) ⟨true,H,⟨Z,U⟩,U⟩))))))))
  ·exact u4 h4 H fun h16 H=>zc Z Z h4 (zc Z Z h4 (zc Z Z h4 (zc Z Z h4 (zc Z Z h4 (za (yh Z (bTT h16) Z) (qd Z (zc Z Z Z (zc Z Z Z (zc Z Z Z (za (yh Z Z Z) (qd Z (zc Z Z Z (zc Z Z Z (zc Z Z Z (za (yh Z Z Z) ⟨true,H,⟨Z,U⟩,U⟩)))))))))))))))
 ·rintro v17 H
  replace H:Wq v17=some r:=H
  unfold Wq at H
  refine zk _ Z (fun h18 => ?_) (fun h18 => ?_)
  ·refine tE h18 H fun H=>zb hN Z (qe Z (zo ?_))
   cases H
   exact ⟨U,.inl Z,U⟩
  ·refine fE h18 H fun H=>zp (zb hN Z (qe Z (zo ?_)))
   cases H
   exact ⟨U,.inl Z,U⟩
theorem x8r (s1:qb) (r:(Int)) (H:z6c s1=some r):Fn Tryz.prog 28 [vagg (xo s1)] (zu [vint r]):=by
 refine ⟨by kernel_rfl,yr (us:=[vint r]) Tryz.func28 Z Z Z Z fun X hN => ?_⟩
 unfold z6c at H
 refine zb hN Z (zi (vt 1 Z) Z (qe Z (zd (zb hN Z (za (ze kx Z) (zh (zj kd Z Z) Z (bE H fun r2 h3 H=>za (ye (y3z s1.Instances r2 h3) ⟨.inl Z,U⟩) (qe Z (zb hN Z (qd Z (za (km Z Z) (zk _ Z (fun h4 => ?_) (fun h4 => ?_)))))))))))))
 ·refine tE h4 H fun H=>zb hN Z (qd Z (qe Z (zo ?_)))
  cases H
  exact ⟨U,.inl Z,U⟩
 ·refine fE h4 H fun H=>zp (zd (qi (ι:=Bool) (fun i=>[(1,.ptr 1 0),(30,.dat (zn i))]) (fun i=>[(1,.box none 32 [.dat (vlst (List.map ya s1.Instances)),.dat (vint s1.Tries),.dat (vint s1.Timeout),.dat (vint s1.Wait),.dat (vint s1.MostWait),.dat (vint s1.Budget.Window),.dat (vint s1.Budget.Least),.dat (vint s1.Budget.Part),.dat (vint s1.Outliers.Fails),.dat (vint s1.Outliers.Base),.dat (vint s1.Outliers.Most),.dat (vint s1.Outliers.Share)])]) (fun i=>Wr s1 i=some r) (fun i=>Z) ?_ ?_))
  ·skip
   refine zm hN Z (za (ze Qn Z) (zh (zj tyS3 Z Z) Z (bE H fun r5 h6 H=>za (ye (xk s1.Tries 1 5 r5 h6) ⟨.inl Z,.inl Z,.inl Z,U⟩) (qd Z (qo (j:=3) Z Z (fun h7 => ?_) (fun h7 => ?_) Z)))))
   ·refine u3 h7 H fun h8 H=>zf Z Z h7 (ze z1g Z) (yd Z Z h7 (zj tyS3 Z Z) Z (bE H fun r9 h10 H=>zf Z Z h7 (ye (xk s1.Timeout 1 3600000 r9 h10) ⟨.inl Z,.inl Z,.inl Z,U⟩) (za (yn Z (bFF h8) Z) (qd Z (qo (j:=8) Z Z (fun h11 => ?_) (fun h11 => ?_) Z)))))
    ·refine u3 h11 H fun h12 H=>zf Z Z h11 (ze z20 Z) (yd Z Z h11 (zj tyS3 Z Z) Z (zf Z Z h11 (ze Wx Z) (yd Z Z h11 (zj tyS3 Z Z) Z (bE H fun r13 h14 H=>zf Z Z h11 (ye (xk s1.Wait 0 s1.MostWait r13 h14) ⟨.inl Z,.inl Z,.inl Z,U⟩) (za (yn Z (bFF h12) Z) (qd Z (qo (j:=15) Z Z (fun h15 => ?_) (fun h15 => ?_) Z)))))))
     ·exact u3 h15 H fun h16 H=>zf Z Z h15 (ze Wx Z) (yd Z Z h15 (zj tyS3 Z Z) Z (zf Z Z h15 (vn Z Z) (za (yn Z (bFF h16) Z) ⟨decide (3600000 < s1.MostWait),H,⟨Z,Z,U⟩,⟨Z,U⟩⟩)))
     ·exact u4 h15 H fun h17 H=>zc Z Z h15 (zc Z Z h15 (zc Z Z h15 (za (yh Z (bTT h17) Z) ⟨true,H,⟨Z,Z,U⟩,⟨Z,U⟩⟩)))
    ·exact u4 h11 H fun h18 H=>zc Z Z h11 (zc Z Z h11 (zc Z Z h11 (zc Z Z h11 (zc Z Z h11 (za (yh Z (bTT h18) Z) (qd Z (zc Z Z Z (zc Z Z Z (zc Z Z Z (za (yh Z Z Z) ⟨true,H,⟨Z,Z,U⟩,⟨Z,U⟩⟩))))))))))
   ·exact u4 h7 H fun h19 H=>zc Z Z h7 (zc Z Z h7 (zc Z Z h7 (za (yh Z (bTT h19) Z) (qd Z (zc Z Z Z (zc Z Z Z (zc Z Z Z (zc Z Z Z (zc Z Z Z (za (yh Z Z Z) (qd Z (zc Z Z Z (zc Z Z Z (zc Z Z Z (za (yh Z Z Z) ⟨true,H,⟨Z,Z,U⟩,⟨Z,U⟩⟩)))))))))))))))
  ·rintro v20 H
   replace H:Wr s1 v20=some r:=H
   unfold Wr at H
   refine zk _ Z (fun h21 => ?_) (fun h21 => ?_)
   ·refine tE h21 H fun H=>zb hN Z (qe Z (zo ?_))
    cases H
    exact ⟨U,.inl Z,U⟩
   ·refine fE h21 H fun H=>zp (zd (zb hN Z (za (ze z1f Z) (zh (wm xc Z Z Z) Z (bE H fun r22 h23 H=>za (ye (x8u s1.Budget r22 h23) ⟨.inl Z,U⟩) (qe Z (zb hN Z (qd Z (za (km Z Z) (zk _ Z (fun h24 => ?_) (fun h24 => ?_)))))))))))
    ·refine tE h24 H fun H=>zb hN Z (qd Z (qe Z (zo ?_)))
     cases H
     exact ⟨U,.inl Z,U⟩
    ·refine fE h24 H fun H=>zp (zb hN Z (za (ze z5g Z) (zh (wm xb Z Z Z) Z (bE H fun r25 h26 H=>za (ye (x8n s1.Outliers r25 h26) ⟨.inl Z,U⟩) (qe Z (zo ?_))))))
     cases H
     exact ⟨U,.inl Z,U⟩
theorem x9a (n1:Int) (r:(Bool)) (H:z6k n1=some r):Fn Tryz.prog 64 [vint n1] (zu [zn r]):=by
 refine ⟨by kernel_rfl,yr (us:=[zn r]) Tryz.func64 Z Z Z Z fun X hN => ?_⟩
 unfold z6k at H
 refine zb hN Z (qe Z (zb hN Z (qd Z (za (ke Z Z) (qd Z (qt Z Z (fun hc=>zg (.dat _) Z) (qt Z Z (fun hc=>zq (cnd (c:=(decide (0≤n1))) hc) Z) (za (uv Z (fun hb=>(cnd (c:=(decide (0≤n1))) hb)) Z) (qe Z (zo ?_))))))))))
 cases H
 exact ⟨U,.inl Z,U⟩
theorem x8t (l1:(List yi)) (r:(Int)) (H:z6e l1=some r):Fn Tryz.prog 30 [vlst (List.map wz l1)] (zu [vint r]):=by
 refine ⟨by kernel_rfl,yr (us:=[vint r]) Tryz.func30 Z Z Z Z fun X hN => ?_⟩
 unfold z6e at H
 refine zb hN Z (qe Z (zd (zb hN Z (qd Z (za (yx Qh Z) (za (vn Z Z) (zk _ Z (fun h2 => ?_) (fun h2 => ?_))))))))
 ·refine tE h2 H fun H=>zb hN Z (qe Z (zo ?_))
  cases H
  exact ⟨U,.inl Z,U⟩
 ·refine fE h2 H fun H=>zp (zb hN Z (zi (x4i 1 y10) Z (za (wo (.mp _) Z) (zd (zb hN Z (qd Z (za (yx Qh Z) (qd Z (zw (gE H fun h7 H=>wg (fun (k5:Nat) (s:(Bs→Bool)×Nat)=>[(0,.dat (vlst (List.map wz l1))),(3,.mp 1),(10,.dat (vlst (List.map wz l1))),(11,.dat (vint (l1.length:Int))),(12,.dat (vint (k5:Int)))]) (fun (k5:Nat) (s:(Bs→Bool)×Nat)=>[(1,.opq none (z1p Tryz.prog 9 4 s.2 s.1))]) ((fun _=>false),0) H ⟨Z,Z,Z,Z,Z,U⟩ ⟨Z,U⟩ (fun _ _=>Z) ?_ ?_))))))))))
  ·rintro ⟨m3,m4⟩ H
   replace H:z79 m3 m4=some r:=H
   unfold z79 at H
   refine zb hN Z (za (zq Z Z) (zd (zk _ Z (fun h=>(lt_t h).elim) (fun h => ?_))))
   refine qa (zb hN Z (qe Z (zo ?_)))
   cases H
   exact ⟨U,.inl Z,U⟩
  ·rintro k5 x8 ⟨m3,m4⟩ q6 h9 h10 H hq6
   replace H:z05 l1 k5 x8 m3 m4=some q6:=H
   unfold z05 at H
   refine zb hN Z (za (zq Z Z) (zd (zk _ Z (fun h => ?_) (fun h=>(lt_f h9 h).elim))))
   refine zp (zd (zw (zb hN Z (qd Z (za (wb Qq (fun _=>Z) Z Z h10) (za (wv Qi Z (yz h10) Z) (zi (qh 2 z46 Z) Z (qe Z (zi (qf Qi Z Z Z Z) Z (zd (zw (zb hN Z (za (ze Yg Z) (zh (zj tyS9 Z Z) Z (bE H fun r11 h12 H=>za (ye (y9j x8.Id r11 h12) ⟨.inl Z,U⟩) (za (qs Z) (qe Z (zk _ Z (fun h13 => ?_) (fun h13 => ?_)))))))))))))))))))
   ·refine tE h13 H fun H=>zb hN Z (qe Z (zo ?_))
    replace H:=retl H hq6
    cases H
    exact ⟨U,.inl Z,U⟩
   ·refine fE h13 H fun H=>zb hN Z (za (zg (.mp _) Z) (za (ze Yg Z) (zh (zj tyS9 Z Z) Z (gE H fun h14 H=>zh (x4m y10 Z Z h14) Z (qe Z (zk _ Z (fun h15 => ?_) (fun h15 => ?_)))))))
    ·refine tE h15 H fun H=>zb hN Z (qe Z (zo ?_))
     replace H:=retl H hq6
     cases H
     exact ⟨U,.inl Z,U⟩
    ·refine fE h15 H fun H=>zb hN Z (za (ze Zk Z) (zh (zj tyS3 Z Z) Z (bE H fun r16 h17 H=>za (ye (x9a x8.At r16 h17) ⟨.inl Z,U⟩) (za (qs Z) (qe Z (zk _ Z (fun h18 => ?_) (fun h18 => ?_)))))))
     ·refine tE h18 H fun H=>zb hN Z (qe Z (zo ?_))
      replace H:=retl H hq6
      cases H
      exact ⟨U,.inl Z,U⟩
     ·refine fE h18 H fun H=>qi (ι:=Bool) (fun i=>[(0,.dat (vlst (List.map wz l1))),(3,.mp 1),(5,.ptr 2 0),(10,.dat (vlst (List.map wz l1))),(11,.dat (vint (l1.length:Int))),(12,.dat (vint (k5:Int))),(32,.dat (zn i))]) (fun i=>[(1,.opq none (z1p Tryz.prog 9 4 m4 m3)),(2,.box none 64 [.dat (vstr x8.Id),.dat (vint x8.At)])]) (fun i=>z2r m3 m4 x8 i=some q6) (fun i=>Z) ?_ ?_
      ·skip
       refine yo mixed hN Z Z (qd Z (za (vn Z Z) (qd Z (qo (j:=2) Z Z (fun h19 => ?_) (fun h19 => ?_) Z))))
       ·refine u1 h19 H fun h20 H=>zf Z Z h19 (ze Zk Z) (yd Z Z h19 (zj tyS3 Z Z) Z (zf Z Z h19 (zg (.dat _) Z) (zf Z Z h19 (zg (.dat _) Z) (zf Z Z h19 (z1i Z Z (by omega)) (bE H fun x21 h22 H=>zf Z Z h19 (js Qq (fun _=>Z) Z Z h22) (zf Z Z h19 (wd Zk Z) (zf Z Z h19 (yt tyS3 Z (yz (yp h22).2) Z) (zf Z Z h19 (zq Z Z) (za (yh Z (bTT h20) Z) (qe Z ⟨Z,?_⟩))))))))))
        exact ⟨decide (x8.At < x21.At),H,⟨Z,Z,Z,Z,Z,Z,Z,U⟩,⟨Z,Z,U⟩⟩
       ·refine u2 h19 H fun h23 H=>zc Z Z h19 (zc Z Z h19 (zc Z Z h19 (zc Z Z h19 (zc Z Z h19 (zc Z Z h19 (zc Z Z h19 (zc Z Z h19 (zc Z Z h19 (za (yn Z (bFF h23) Z) (qe Z ⟨Z,?_⟩))))))))))
        exact ⟨false,H,⟨Z,Z,Z,Z,Z,Z,Z,U⟩,⟨Z,Z,U⟩⟩
      ·rintro v24 H
       replace H:z2r m3 m4 x8 v24=some q6:=H
       unfold z2r at H
       refine zk _ Z (fun h25 => ?_) (fun h25 => ?_)
       ·refine tE h25 H fun H=>zb hN Z (qe Z (zo ?_))
        replace H:=retl H hq6
        cases H
        exact ⟨U,.inl Z,U⟩
       ·exact fE h25 H fun H=>zp (zm hN Z (za (zg (.mp _) Z) (za (ze Yg Z) (zh (zj tyS9 Z Z) Z (gE H fun h26 H=>zi (x4g y10 Z Z Z h26.1 h26.2) Z (zm hN Z (za (yy Z Z (by omega)) (qd Z ⟨_,qx H,⟨Z,Z,Z,Z,Z,U⟩,⟨Z,U⟩⟩))))))))
theorem x88 (x1:(List zl)) (target2:Bs) (p2:zl→Bs→Option (Int)) (fv2:Nat) (us2:List V) (hp2:∀ a0 a1 r,p2 a0 a1=some r→Fn Tryz.prog fv2 ([vagg (ya a0),vstr a1]++us2) (zu [vint r])) (r:(Int×Bool)) (H:z97 x1 target2 p2=some r):Fn Tryz.prog 84 [vlst (List.map ya x1),vstr target2,vfn fv2 us2] (zu [vint r.1,zn r.2]):=by
 refine ⟨by kernel_rfl,yr (us:=[vint r.1,zn r.2]) Tryz.func84 Z Z Z Z fun X hN => ?_⟩
 unfold z97 at H
 refine zb hN Z (qe Z (qe Z (zb hN Z (qd Z (za (yx vw Z) (qe Z (zb hN Z (qd Z (qe Z (qe Z (qi (ι:=Int) (fun i=>[(0,.dat (vlst (List.map ya x1))),(1,.dat (vstr target2)),(2,.dat (vfn fv2 us2)),(8,.dat (vint (x1.length:Int))),(9,.dat (vint i))]) (fun i=>[]) (fun i=>z5w x1 target2 p2 i=some r) (fun i=>Z) ?_ ?_)))))))))))
 ·skip
  refine zw (z0x (fun (s:Int×Int)=>[(0,.dat (vlst (List.map ya x1))),(1,.dat (vstr target2)),(2,.dat (vfn fv2 us2)),(8,.dat (vint (x1.length:Int))),(9,.dat (vint s.1)),(10,.dat (vint s.2))]) (fun (s:Int×Int)=>[]) (0,(x1.length:Int)) H ⟨Z,Z,Z,Z,Z,Z,U⟩ U (fun _=>Z) ?_)
  rintro ⟨i3,j4⟩ q5 H hq5
  replace H:z9b x1 target2 p2 i3 j4=some q5:=H
  unfold z9b at H
  refine zd (zb hN Z (qd Z (qd Z (za (zq Z Z) (zk _ Z (fun h6 => ?_) (fun h6 => ?_))))))
  ·refine tE h6 H fun H=>zp (zw (zb hN Z (qd Z (qd Z (za (ym _ Z Z (.inl ⟨Z,Z⟩)) (za (y2j tyU3 y5o Z) (za (yb (x39 Z Z (by decide)) Z) (za (y2j y5o tyU3 Z) (qe Z (zb hN Z (qd Z (qd Z (qd Z (bE H fun x7 h8 H=>za (js jq (fun _=>Z) Z Z h8) (za (wv vm Z (yz (yp h8).2) Z) (qd Z (bE H fun r9 h10 H=>za (uw (hp2 x7 target2 r9 h10) Z ⟨.inl Z,.inl Z,U⟩) (za (zq Z Z) (zk _ Z (fun h11 => ?_) (fun h11 => ?_))))))))))))))))))))
   ·exact tE h11 H fun H=>zm hN Z (qd Z (za (ym _ Z Z (.inl ⟨Z,Z⟩)) (qe Z ⟨_,qx H,⟨Z,Z,Z,Z,Z,Z,U⟩,U⟩)))
   ·exact fE h11 H fun H=>zm hN Z (qd Z (qe Z ⟨_,qx H,⟨Z,Z,Z,Z,Z,Z,U⟩,U⟩))
  ·refine fE h6 H fun H=>qa ?_
   replace H:=outl H hq5
   exact ⟨i3,H,⟨Z,Z,Z,Z,Z,U⟩,U⟩
 ·rintro i12 H
  replace H:z5w x1 target2 p2 i12=some r:=H
  unfold z5w at H
  refine qi (ι:=Bool) (fun i=>[(6,.dat (vint i12)),(7,.dat (zn i))]) (fun i=>[]) (fun i=>z3b i12 i=some r) (fun i=>Z) ?_ ?_
  ·skip
   refine zm hN Z (qd Z (qd Z (qd Z (za (zq Z Z) (qd Z (qo (j:=4) Z Z (fun h13 => ?_) (fun h13 => ?_) Z))))))
   ·exact u1 h13 H fun h14 H=>zf Z Z h13 (zg (.dat _) Z) (zf Z Z h13 (zg (.dat _) Z) (zf Z Z h13 (zg (.dat _) Z) (bE H fun x15 h16 H=>zf Z Z h13 (js jq (fun _=>Z) Z Z h16) (zf Z Z h13 (wv vm Z (yz (yp h16).2) Z) (zf Z Z h13 (zg (.dat _) Z) (bE H fun r17 h18 H=>zf Z Z h13 (uw (hp2 x15 target2 r17 h18) Z ⟨.inl Z,.inl Z,U⟩) (zf Z Z h13 (qz Z Z) (za (yh Z (bTT h14) Z) (qe Z (qe Z ⟨decide (r17=0),H,⟨Z,Z,U⟩,U⟩))))))))))
   ·exact u2 h13 H fun h19 H=>zc Z Z h13 (zc Z Z h13 (zc Z Z h13 (zc Z Z h13 (zc Z Z h13 (zc Z Z h13 (zc Z Z h13 (zc Z Z h13 (za (yn Z (bFF h19) Z) (qe Z (qe Z ⟨false,H,⟨Z,Z,U⟩,U⟩))))))))))
  ·rintro v20 H
   replace H:z3b i12 v20=some r:=H
   unfold z3b at H
   refine zo ?_
   cases H
   exact ⟨U,.inl Z,.inl Z,U⟩
theorem x8w (a b:Bs) (r:Int) (H:z9x a b=some r):Fn Tryz.prog 86 [vstr a,vstr b] (zu [vint r]):=by
 cases H
 refine x0a (by kernel_rfl) fun M w vs h => ?_
 have h1:=x1i (us:=[.string ⟨a.toArray⟩,.string ⟨b.toArray⟩]) h
 subst h1
 refine (Tryz.strings_Compare ⟨a.toArray⟩ ⟨b.toArray⟩ w).mono ?_
 rintro e w' ⟨rfl,rfl⟩
 exact ⟨_,Z,Z,Kp.refl _ _⟩
theorem x8l (x1:zl) (k2:Bs) (r:(Int)) (H:z3q x1 k2=some r):Fn Tryz.prog 85 [vagg (ya x1),vstr k2] (zu [vint r]):=by
 refine ⟨by kernel_rfl,yr (us:=[vint r]) Tryz.func85 Z Z Z Z fun X hN => ?_⟩
 unfold z3q at H
 refine zb hN Z (zi (vt 1 Z) Z (qe Z (zb hN Z (za (ze jg Z) (zh (zj tyS9 Z Z) Z (qd Z (bE H fun r3 h4 H=>za (ye (x8w x1.Key k2 r3 h4) ⟨.inl Z,.inl Z,U⟩) (qe Z (zo ?_)))))))))
 cases H
 exact ⟨U,.inl Z,U⟩
theorem x8m (l1:(List zl)) (key2:Bs) (r:(Int×Bool)) (H:z59 l1 key2=some r):Fn Tryz.prog 62 [vlst (List.map ya l1),vstr key2] (zu [vint r.1,zn r.2]):=by
 refine ⟨by kernel_rfl,yr (us:=[vint r.1,zn r.2]) Tryz.func62 Z Z Z Z fun X hN => ?_⟩
 unfold z59 at H
 refine zb hN Z (qe Z (qe Z (zb hN Z (qd Z (qd Z (bE H fun r3 h4 H=>za (y6r (x88 l1 key2 (fun (a0:zl) (a1:Bs)=>z3q a0 a1) 85 [] (fun a0 a1 r h=>x8l a0 a1 r h) r3 h4) ⟨.inl (.inl Z),.inl (.inl Z),.inr ⟨_,Z,Z⟩,U⟩) (za (uc Z Z) (za (uc Z Z) (qe Z (qe Z (zo ?_)))))))))))
 cases H
 exact ⟨U,.inl Z,.inl Z,U⟩
theorem x8s (v1:(List zl)) (v2:(List zz)) (r:(Int)) (H:z6d v1 v2=some r):Fn Tryz.prog 29 [vlst (List.map ya v1),vlst (List.map qq v2)] (zu [vint r]):=by
 refine ⟨by kernel_rfl,yr (us:=[vint r]) Tryz.func29 Z Z Z Z fun X hN => ?_⟩
 unfold z6d at H
 refine zb hN Z (qe Z (zd (zb hN Z (qd Z (bE H fun r3 h4 H=>za (ye (y3z v1 r3 h4) ⟨.inl Z,U⟩) (qe Z (zb hN Z (qd Z (za (km Z Z) (zk _ Z (fun h5 => ?_) (fun h5 => ?_)))))))))))
 ·refine tE h5 H fun H=>zb hN Z (qd Z (qe Z (zo ?_)))
  cases H
  exact ⟨U,.inl Z,U⟩
 ·refine fE h5 H fun H=>zp (zd (zb hN Z (qd Z (za (yx Wt Z) (za (vn Z Z) (zk _ Z (fun h6 => ?_) (fun h6 => ?_)))))))
  ·refine tE h6 H fun H=>zb hN Z (qe Z (zo ?_))
   cases H
   exact ⟨U,.inl Z,U⟩
  ·refine fE h6 H fun H=>zp (zd (zb hN Z (qd Z (za (yx Wt Z) (qd Z (zw (gE H fun h9 H=>wg (fun (k7:Nat) (s:Unit)=>[(0,.dat (vlst (List.map ya v1))),(1,.dat (vlst (List.map qq v2))),(19,.dat (vlst (List.map qq v2))),(20,.dat (vint (v2.length:Int))),(21,.dat (vint (k7:Int)))]) (fun (k7:Nat) (s:Unit)=>[]) () H ⟨Z,Z,Z,Z,Z,U⟩ U (fun _ _=>Z) ?_ ?_)))))))
   ·rintro ⟨⟩ H
    replace H:y1w=some r:=H
    unfold y1w at H
    refine zb hN Z (za (zq Z Z) (zd (zk _ Z (fun h=>(lt_t h).elim) (fun h => ?_))))
    refine qa (zb hN Z (qe Z (zo ?_)))
    cases H
    exact ⟨U,.inl Z,U⟩
   ·rintro k7 x10 ⟨⟩ q8 h11 h12 H hq8
    replace H:z77 v1 v2 k7 x10=some q8:=H
    unfold z77 at H
    refine zb hN Z (za (zq Z Z) (zd (zk _ Z (fun h => ?_) (fun h=>(lt_f h11 h).elim))))
    refine zp (qi (ι:=Unit) (fun i=>[(0,.dat (vlst (List.map ya v1))),(1,.dat (vlst (List.map qq v2))),(19,.dat (vlst (List.map qq v2))),(20,.dat (vint (v2.length:Int))),(21,.dat (vint (k7:Int)))]) (fun i=>[]) (fun i=>z2p=some q8) (fun i=>Z) ?_ ?_)
    ·skip
     refine zw (zb hN Z (qd Z (za (wb Qp (fun _=>Z) Z Z h12) (za (wv kv Z (yz h12) Z) (zi (qh 1 Qg Z) Z (qe Z (zi (qf kv Z Z Z Z) Z (zd (zb hN Z (qd Z (za (ze xg Z) (zh (zj tyS9 Z Z) Z (bE H fun r13 h14 H=>za (ye (x8m v1 x10.Instance r13 h14) ⟨.inl Z,.inl Z,U⟩) (qd Z (za (uc Z Z) (za (uc Z Z) (qe Z (qe Z (zb hN Z (qd Z (za (qs Z) (zk _ Z (fun h15 => ?_) (fun h15 => ?_)))))))))))))))))))))))
     ·refine tE h15 H fun H=>zb hN Z (qe Z (zo ?_))
      replace H:=retl H hq8
      cases H
      exact ⟨U,.inl Z,U⟩
     ·refine fE h15 H fun H=>zp (zd (qi (ι:=Bool) (fun i=>[(0,.dat (vlst (List.map ya v1))),(1,.dat (vlst (List.map qq v2))),(6,.dat (vint (k7:Int))),(7,.ptr 1 0),(19,.dat (vlst (List.map qq v2))),(20,.dat (vint (v2.length:Int))),(21,.dat (vint (k7:Int))),(63,.dat (zn i))]) (fun i=>[(1,.box none 70 [.dat (vstr x10.Instance),.dat (vint x10.Time.From),.dat (vint x10.Time.To),.dat (vint x10.Status),.dat (vint x10.Took)])]) (fun i=>Qf v2 k7 x10 i=some q8) (fun i=>Z) ?_ ?_))
      ·skip
       refine zm hN Z (za (ze kj Z) (za (ze Qm Z) (zh (zj tyS3 Z Z) Z (za (zq Z Z) (qd Z (qo (j:=4) Z Z (fun h16 => ?_) (fun h16 => ?_) Z))))))
       ·refine u3 h16 H fun h17 H=>zf Z Z h16 (ze kj Z) (zf Z Z h16 (ze Qm Z) (yd Z Z h16 (zj tyS3 Z Z) Z (zf Z Z h16 (ze kj Z) (zf Z Z h16 (ze Ww Z) (yd Z Z h16 (zj tyS3 Z Z) Z (zf Z Z h16 (ke Z Z) (za (yn Z (bFF h17) Z) (qd Z (qo (j:=13) Z Z (fun h18 => ?_) (fun h18 => ?_) Z)))))))))
        ·refine u3 h18 H fun h19 H=>zf Z Z h18 (ze kj Z) (zf Z Z h18 (ze Ww Z) (yd Z Z h18 (zj tyS3 Z Z) Z (zf Z Z h18 (vn Z Z) (za (yn Z (bFF h19) Z) (qd Z (qo (j:=19) Z Z (fun h20 => ?_) (fun h20 => ?_) Z))))))
         ·refine u3 h20 H fun h21 H=>zf Z Z h20 (ze z5f Z) (yd Z Z h20 (zj tyS3 Z Z) Z (bE H fun r22 h23 H=>zf Z Z h20 (ye (xk x10.Status 100 599 r22 h23) ⟨.inl Z,.inl Z,.inl Z,U⟩) (za (yn Z (bFF h21) Z) (qd Z (qo (j:=24) Z Z (fun h24 => ?_) (fun h24 => ?_) Z)))))
          ·exact u3 h24 H fun h25 H=>zf Z Z h24 (ze z1e Z) (yd Z Z h24 (zj tyS3 Z Z) Z (bE H fun r26 h27 H=>zf Z Z h24 (ye (xk x10.Took 0 3600000 r26 h27) ⟨.inl Z,.inl Z,.inl Z,U⟩) (za (yn Z (bFF h25) Z) ⟨r26,H,⟨Z,Z,Z,Z,Z,Z,Z,Z,U⟩,⟨Z,U⟩⟩)))
          ·exact u4 h24 H fun h28 H=>zc Z Z h24 (zc Z Z h24 (zc Z Z h24 (za (yh Z (bTT h28) Z) ⟨true,H,⟨Z,Z,Z,Z,Z,Z,Z,Z,U⟩,⟨Z,U⟩⟩)))
         ·exact u4 h20 H fun h29 H=>zc Z Z h20 (zc Z Z h20 (zc Z Z h20 (za (yh Z (bTT h29) Z) (qd Z (zc Z Z Z (zc Z Z Z (zc Z Z Z (za (yh Z Z Z) ⟨true,H,⟨Z,Z,Z,Z,Z,Z,Z,Z,U⟩,⟨Z,U⟩⟩))))))))
        ·exact u4 h18 H fun h30 H=>zc Z Z h18 (zc Z Z h18 (zc Z Z h18 (zc Z Z h18 (za (yh Z (bTT h30) Z) (qd Z (zc Z Z Z (zc Z Z Z (zc Z Z Z (za (yh Z Z Z) (qd Z (zc Z Z Z (zc Z Z Z (zc Z Z Z (za (yh Z Z Z) ⟨true,H,⟨Z,Z,Z,Z,Z,Z,Z,Z,U⟩,⟨Z,U⟩⟩))))))))))))))
       ·refine u4 h16 H fun h31 H=>zc Z Z h16 (zc Z Z h16 (zc Z Z h16 (zc Z Z h16 (zc Z Z h16 (zc Z Z h16 (zc Z Z h16 (za (yh Z (bTT h31) Z) (qd Z (zc Z Z Z (zc Z Z Z (zc Z Z Z (zc Z Z Z (za (yh Z Z Z) (qd Z (zc Z Z Z (zc Z Z Z (zc Z Z Z (za (yh Z Z Z) (qd Z (zc Z Z Z (zc Z Z Z (zc Z Z Z ?_))))))))))))))))))))))
        exact za (yh Z Z Z) ⟨true,H,⟨Z,Z,Z,Z,Z,Z,Z,Z,U⟩,⟨Z,U⟩⟩
      ·rintro v32 H
       replace H:Qf v2 k7 x10 v32=some q8:=H
       unfold Qf at H
       refine zk _ Z (fun h33 => ?_) (fun h33 => ?_)
       ·refine tE h33 H fun H=>zb hN Z (qe Z (zo ?_))
        replace H:=retl H hq8
        cases H
        exact ⟨U,.inl Z,U⟩
       ·refine fE h33 H fun H=>zp (zd (zb hN Z (qd Z (za (qz Z Z) (zk _ Z (fun h34 => ?_) (fun h34 => ?_))))))
        ·exact tE h34 H fun H=>qa ⟨(),H,⟨Z,Z,Z,Z,Z,U⟩,U⟩
        ·refine fE h34 H fun H=>zp (zb hN Z (qd Z (qd Z (za (z1i Z Z (by omega)) (bE H fun x35 h36 H=>za (js Qp (fun _=>Z) Z Z h36) (za (wv kv Z (yz (yp h36).2) Z) (zi (qh 2 Qg Z) Z (zi (qf kv Z Z Z Z) Z (zb hN Z (za (ze xg Z) (zh (zj tyS9 Z Z) Z (za (ze xg Z) (zh (zj tyS9 Z Z) Z (za (y6m Z Z) (qd Z (ue Z Z (fun hc=>ze xg Z) (y66 Z Z (fun hc=>zj tyS9 (cnd (c:=(!(Op.bytesLess x10.Instance x35.Instance))) hc) Z) Z y1j (ue Z Z (fun hc=>ze xg Z) (y66 Z Z (fun hc=>zj tyS9 (cnd (c:=(!(Op.bytesLess x10.Instance x35.Instance))) hc) Z) Z y1j (ue Z Z (fun hc=>xu (cnd (c:=(!(Op.bytesLess x10.Instance x35.Instance))) hc) (cnd (c:=(!(Op.bytesLess x10.Instance x35.Instance))) hc)) (ue Z Z (fun hc=>zg (.dat _) (cnd (c:=(!(Op.bytesLess x10.Instance x35.Instance))) hc)) ?_)))))))))))))))))))))
         refine uy Z Z (fun hc=>ze kj Z) (uy Z Z (fun hc=>ze Qm (cnd (c:=((!(Op.bytesLess x10.Instance x35.Instance)) && (decide (x10.Instance=x35.Instance)))) hc)) (y65 Z Z (fun hc=>zj tyS3 (cnd (c:=((!(Op.bytesLess x10.Instance x35.Instance)) && (decide (x10.Instance=x35.Instance)))) hc) Z) Z y1j (uy Z Z (fun hc=>ze kj Z) (uy Z Z (fun hc=>ze Ww (cnd (c:=((!(Op.bytesLess x10.Instance x35.Instance)) && (decide (x10.Instance=x35.Instance)))) hc)) (y65 Z Z (fun hc=>zj tyS3 (cnd (c:=((!(Op.bytesLess x10.Instance x35.Instance)) && (decide (x10.Instance=x35.Instance)))) hc) Z) Z y1j (uy Z Z (fun hc=>zq (cnd (c:=((!(Op.bytesLess x10.Instance x35.Instance)) && (decide (x10.Instance=x35.Instance)))) hc) (cnd (c:=((!(Op.bytesLess x10.Instance x35.Instance)) && (decide (x10.Instance=x35.Instance)))) hc)) (ue Z Z (fun hc=>uv (cnd (c:=(!(Op.bytesLess x10.Instance x35.Instance))) hc) (fun hb=>(cnd (c:=((!(Op.bytesLess x10.Instance x35.Instance)) && (decide (x10.Instance=x35.Instance)))) (andI hc hb))) Z) (za (z1k Z Z (fun hb=>(cnd (c:=(!(Op.bytesLess x10.Instance x35.Instance))) (notI hb)))) (zk _ Z (fun h37 => ?_) (fun h37 => ?_))))))))))
         ·refine tE h37 H fun H=>zb hN Z (qe Z (zo ?_))
          replace H:=retl H hq8
          cases H
          exact ⟨U,.inl Z,U⟩
         ·exact fE h37 H fun H=>zp ⟨(),H,⟨Z,Z,Z,Z,Z,U⟩,U⟩
    ·rintro ⟨⟩ H
     replace H:z2p=some q8:=H
     unfold z2p at H
     exact zm hN Z (za (yy Z Z (by omega)) (qd Z ⟨_,qx H,⟨Z,Z,Z,Z,Z,U⟩,U⟩))
theorem y32 (x1:Int) (n2:Int) (r:(Int)) (H:z1y x1 n2=some r):Fn Tryz.prog 57 [vint x1,vint n2] (zu [vint r]):=by
 refine ⟨by kernel_rfl,yr (us:=[vint r]) Tryz.func57 Z Z Z Z fun X hN => ?_⟩
 unfold z1y at H
 refine zb hN Z (qe Z (zd (zb hN Z (qd Z (za (zq Z Z) (zk _ Z (fun h3 => ?_) (fun h3 => ?_)))))))
 ·refine tE h3 H fun H=>zb hN Z (qe Z (zo ?_))
  cases H
  exact ⟨U,.inl Z,U⟩
 ·refine fE h3 H fun H=>zp (zb hN Z (qd Z (qd Z (gE H fun h4 H=>za (z8w Z Z h4) (qe Z (qi (ι:=Int) (fun i=>[(0,.dat (vint i))]) (fun i=>[]) (fun i=>z4p i=some r) (fun i=>Z) ?_ ?_))))))
  ·skip
   refine zb hN Z (qd Z (za (zq Z Z) (zk _ Z (fun h5 => ?_) (fun h5 => ?_))))
   ·exact tE h5 H fun H=>zm hN Z (qd Z (qd Z (za (ym _ Z Z (.inl ⟨Z,Z⟩)) (qe Z ⟨wr ((Int.tmod x1 n2)+n2),H,⟨Z,U⟩,U⟩))))
   ·exact fE h5 H fun H=>zp ⟨(Int.tmod x1 n2),H,⟨Z,U⟩,U⟩
  ·rintro x6 H
   replace H:z4p x6=some r:=H
   unfold z4p at H
   refine zb hN Z (qd Z (qe Z (zo ?_)))
   cases H
   exact ⟨U,.inl Z,U⟩
theorem z0n (s1:zr) (n2:Int) (r:(Int×zr)) (H:Zd s1 n2=some r):Imp Tryz.prog 20 25 (qk s1) [vint n2] (zu [vint r.1]) (qk r.2):=by
 refine uj (us:=[vint r.1]) (cs':=(qk r.2)) (by kernel_rfl) Tryz.func20 Z Z Z Z fun X bl hN => ?_
 unfold Zd at H
 refine zb hN Z (qe Z (zb hN Z (za (zg (.ptr _ _) Z) (za (zy Z) (za (ze z5j Z) (zh (zj tyS3 Z Z) Z (za (ym _ Z Z (.inl ⟨Z,Z⟩)) (za (zy Z) (za (ze z5j Z) (zi (vf tyS3 Z Z Z Z) Z (zd (zb hN Z (za (zg (.ptr _ _) Z) (za (zy Z) (za (ze z8m Z) (zh (zj vp Z Z) Z (za (yx z09 Z) (za (qz Z Z) (zk _ Z (fun h3 => ?_) (fun h3 => ?_))))))))))))))))))))
 ·refine tE h3 H fun H=>zb hN Z (za (zg (.ptr _ _) Z) (za (zy Z) (za (ze z5j Z) (zh (zj tyS3 Z Z) Z (za (ym _ Z Z (.inr (.inr ⟨Z,Z⟩))) (qd Z (bE H fun r4 h5 H=>za (ye (y32 (wr ((wr (s1.at_+1)) * 7919)) n2 r4 h5) ⟨.inl Z,.inl Z,U⟩) (qe Z (zo ?_)))))))))
  cases H
  exact ⟨U,⟨.inl Z,U⟩,Z⟩
 ·refine fE h3 H fun H=>zp (zd (yo mixed hN Z Z (za (zg (.ptr _ _) Z) (za (zy Z) (za (ze z5j Z) (zh (zj tyS3 Z Z) Z (za (ym _ Z Z (.inr (.inl ⟨Z,Z⟩))) (za (zg (.ptr _ _) Z) (za (zy Z) (za (ze z8m Z) (zh (zj vp Z Z) Z (za (yx z09 Z) (gE H fun h6 H=>za (z8w Z Z h6) (qe Z ⟨Z,?_⟩))))))))))))))
  refine zd (yo mixed hN Z Z (za (zg (.ptr _ _) Z) (za (zy Z) (za (ze z5j Z) (zh (zj tyS3 Z Z) Z (za (ym _ Z Z (.inr (.inl ⟨Z,Z⟩))) (za (zg (.ptr _ _) Z) (za (zy Z) (za (ze z8m Z) (zh (zj vp Z Z) Z (za (yx z09 Z) (gE H fun h7 H=>za (z1j Z Z h7.1 h7.2) (qe Z ⟨Z,?_⟩)))))))))))))
  refine zb hN Z (za (zg (.ptr _ _) Z) (za (zy Z) (za (ze z8m Z) (zh (zj vp Z Z) Z (qd Z (bE H fun x8 h9 H=>za (js jr (fun _=>Z) Z Z h9) (za (yt tyS3 Z (yz (yp h9).2) Z) (bE H fun r10 h11 H=>za (ye (y32 x8 1073741824 r10 h11) ⟨.inl Z,.inl Z,U⟩) (qd Z (qd Z (za (ym _ Z Z (.inl ⟨Z,Z⟩)) (za (ym _ Z Z (.inr (.inr ⟨Z,Z⟩))) (za (ym _ Z Z (.inl ⟨Z,Z⟩)) (qd Z (bE H fun r12 h13 H=>za (ye (y32 (wr (r10+(wr (((wr ((wr (s1.at_+1)) - 1)) / (s1.L.length:Int)) * (wr (7919+(Int.tmod (wr ((wr (s1.at_+1)) - 1)) (s1.L.length:Int)))))))) n2 r12 h13) ⟨.inl Z,.inl Z,U⟩) (qe Z (zo ?_)))))))))))))))))
  cases H
  exact ⟨U,⟨.inl Z,U⟩,Z⟩
theorem Ze (s1:zr) (n2:Int) (r:(Bool×zr)) (H:xj s1 n2=some r):Imp Tryz.prog 19 25 (qk s1) [vint n2] (zu [zn r.1]) (qk r.2):=by
 refine uj (us:=[zn r.1]) (cs':=(qk r.2)) (by kernel_rfl) Tryz.func19 Z Z Z Z fun X bl hN => ?_
 unfold xj at H
 refine zb hN Z (qe Z (zb hN Z (za (zg (.ptr _ _) Z) (qd Z (bE H fun r3 h4 H=>zi (yu (z0n s1 n2 r3 h4) Z ⟨.inl Z,U⟩ Z) Z (za (qz Z Z) (qe Z (zo ?_))))))))
 cases H
 exact ⟨U,⟨.inl Z,U⟩,Z⟩
theorem jz (s1:zr) (l2:(List Int)) (r:(Int×zr)) (H:ji s1 l2=some r):Imp Tryz.prog 54 25 (qk s1) [vlst (List.map yl l2)] (zu [vint r.1]) (qk r.2):=by
 refine uj (us:=[vint r.1]) (cs':=(qk r.2)) (by kernel_rfl) Tryz.func54 Z Z Z Z fun X bl hN => ?_
 unfold ji at H
 refine zb hN Z (qe Z (zb hN Z (qd Z (za (zg (.ptr _ _) Z) (qd Z (za (yx z09 Z) (bE H fun r3 h4 H=>zi (yu (z0n s1 (l2.length:Int) r3 h4) Z ⟨.inl Z,U⟩ Z) Z (bE H fun x5 h6 H=>za (js jr (fun _=>Z) Z Z h6) (za (yt tyS3 Z (yz (yp h6).2) Z) (qe Z (zo ?_)))))))))))
 cases H
 exact ⟨U,⟨.inl Z,U⟩,Z⟩
theorem x9w (s1:zr) (r:((List zl)×zr)) (H:z0m s1=some r):Imp Tryz.prog 53 25 (qk s1) [] (zu [vlst (List.map ya r.1)]) (qk r.2):=by
 refine uj (us:=[vlst (List.map ya r.1)]) (cs':=(qk r.2)) (by kernel_rfl) Tryz.func53 Z Z Z Z fun X bl hN => ?_
 unfold z0m at H
 refine zb hN Z (qe Z (zb hN Z (qe Z (zd (zb hN Z (za (yb (u':=vlst (List.map vd [[105,97],[105,98],[105,99],[105,100]])) (qr [[_],[_],[_],[_]] Yf ⟨Z,.inl ⟨_,Z,Z,Z⟩,Z,Z,.inl ⟨_,Z,Z,Z⟩,Z,Z,.inl ⟨_,Z,Z,Z⟩,Z,Z,.inl ⟨_,Z,Z,Z⟩,Z,U⟩ Z Z) Z) (za (yx Wu Z) (qd Z (zw (Qb 3 1 115 2 Z Z Z (gE H fun h7 H=>wg (fun (k5:Nat) (s:(List Int)×Int×(List zl))=>[(0,.ptr 0 0),(3,.row 1 s.2.2.length),(6,.dat (vlst (List.map vd ([[105,97],[105,98],[105,99],[105,100]])))),(7,.dat (vint (([[105,97],[105,98],[105,99],[105,100]]).length:Int))),(8,.dat (vint (k5:Int)))]) (fun (k5:Nat) (s:(List Int)×Int×(List zl))=>[(0,.box (some bl) 25 [.dat (vlst (List.map yl s.1)),.dat (vint s.2.1)]),(1,.row 115 2 (List.map ya s.2.2))]) (s1.L,s1.at_,[]) H ⟨Z,Z,Z,Z,Z,U⟩ ⟨Z,Z,U⟩ (fun _ _=>Z) ?_ ?_)))))))))))
 ·rintro ⟨c2,c3,l4⟩ H
  replace H:z7n c2 c3 l4=some r:=H
  unfold z7n at H
  refine zb hN Z (za (zq Z Z) (zd (zk _ Z (fun h=>(lt_t h).elim) (fun h => ?_))))
  refine qa (zb hN Z (za (zg (.row _ _) Z) (za (wo (.row _ _) Z) (zo ?_))))
  cases H
  exact ⟨U,⟨z5n Z Z,U⟩,Z⟩
 ·rintro k5 x8 ⟨c2,c3,l4⟩ q6 h9 h10 H hq6
  replace H:z2b k5 x8 c2 c3 l4=some q6:=H
  unfold z2b at H
  refine zb hN Z (za (zq Z Z) (zd (zk _ Z (fun h => ?_) (fun h=>(lt_f h9 h).elim))))
  refine zp (qi (ι:=(List zl)×(List Int)×Int) (fun i=>[(0,.ptr 0 0),(3,.row 1 i.1.length),(6,.dat (vlst (List.map vd ([[105,97],[105,98],[105,99],[105,100]])))),(7,.dat (vint (([[105,97],[105,98],[105,99],[105,100]]).length:Int))),(8,.dat (vint (k5:Int)))]) (fun i=>[(0,.box (some bl) 25 [.dat (vlst (List.map yl i.2.1)),.dat (vint i.2.2)]),(1,.row 115 2 (List.map ya i.1))]) (fun i=>Wl i.1 i.2.1 i.2.2=some q6) (fun i=>Z) ?_ ?_)
  ·skip
   refine zw (zb hN Z (za (wb z24 (fun _=>Z) Z Z h10) (za (yt tyS9 Z (yz h10) Z) (qe Z (qi (ι:=Bool×(List Int)×Int) (fun i=>[(0,.ptr 0 0),(3,.row 1 l4.length),(5,.dat (vstr x8)),(6,.dat (vlst (List.map vd ([[105,97],[105,98],[105,99],[105,100]])))),(7,.dat (vint (([[105,97],[105,98],[105,99],[105,100]]).length:Int))),(8,.dat (vint (k5:Int))),(23,.dat (zn i.1))]) (fun i=>[(0,.box (some bl) 25 [.dat (vlst (List.map yl i.2.1)),.dat (vint i.2.2)]),(1,.row 115 2 (List.map ya l4))]) (fun i=>Zt l4 x8 i.1 i.2.1 i.2.2=some q6) (fun i=>Z) ?_ ?_)))))
   ·skip
    refine zm hN Z (za (zg (.row _ _) Z) (zh (xt vw Z Z) Z (za (qz Z Z) (qd Z (qo (j:=3) Z Z (fun h11 => ?_) (fun h11 => ?_) Z)))))
    ·refine u1 h11 H fun h12 H=>zf Z Z h11 (zg (.dat _) Z) (zf Z Z h11 (xu Z Z) (za (yh Z (bTT h12) Z) (qd Z (qo (j:=7) Z Z (fun h13 => ?_) (fun h13 => ?_) Z))))
     ·exact u3 h13 H fun h14 H=>zf Z Z h13 (zg (.ptr _ _) Z) (bE H fun r15 h16 H=>z3d Z Z h13 (yu (Ze (zr.mk c2 c3) 4 r15 h16) Z ⟨.inl Z,U⟩ Z) Z (zf Z Z h13 (qs Z) (za (yn Z (bFF h14) Z) ⟨(!r15.1,r15.2.L,r15.2.at_),H,⟨Z,Z,Z,Z,Z,Z,Z,U⟩,⟨Z,Z,U⟩⟩)))
     ·exact u4 h13 H fun h17 H=>zc Z Z h13 (zc Z Z h13 (zc Z Z h13 (za (yh Z (bTT h17) Z) ⟨(true,c2,c3),H,⟨Z,Z,Z,Z,Z,Z,Z,U⟩,⟨Z,Z,U⟩⟩)))
    ·exact u2 h11 H fun h18 H=>zc Z Z h11 (zc Z Z h11 (za (yn Z (bFF h18) Z) (qd Z (zf Z Z Z (zg (.ptr _ _) Z) (bE H fun r19 h20 H=>z3d Z Z Z (yu (Ze (zr.mk c2 c3) 4 r19 h20) Z ⟨.inl Z,U⟩ Z) Z (zf Z Z Z (qs Z) (za (yn Z Z Z) ⟨(!r19.1,r19.2.L,r19.2.at_),H,⟨Z,Z,Z,Z,Z,Z,Z,U⟩,⟨Z,Z,U⟩⟩)))))))
   ·rintro ⟨v21,c22,c23⟩ H
    replace H:Zt l4 x8 v21 c22 c23=some q6:=H
    unfold Zt at H
    refine zk _ Z (fun h24 => ?_) (fun h24 => ?_)
    ·refine tE h24 H fun H=>zm hN Z (za (zg (.row _ _) Z) (qd Z (za (zg (.ptr _ _) Z) (za (yb (u':=vlst (List.map yl [1,1,2,3,5])) (qr [[_],[_],[_],[_],[_]] vg ⟨Z,.inl ⟨_,Z,Z,Z⟩,Z,Z,.inl ⟨_,Z,Z,Z⟩,Z,Z,.inl ⟨_,Z,Z,Z⟩,Z,Z,.inl ⟨_,Z,Z,Z⟩,Z,Z,.inl ⟨_,Z,Z,Z⟩,Z,U⟩ Z Z) Z) (bE H fun r25 h26 H=>zi (yu (jz (zr.mk c22 c23) [1,1,2,3,5] r25 h26) Z ⟨.inl Z,U⟩ Z) Z (za (yb (u':=vagg (ya (zl.mk x8 r25.1))) (vq [(0,[vstr x8]),(1,[vint r25.1])] um z8c Z ⟨Z,.inl ⟨_,Z,Z,Z⟩,Z,Z,.inl ⟨_,Z,Z,Z⟩,Z,U⟩) Z) (za (yb (u':=vlst (List.map ya [(zl.mk x8 r25.1)])) (qr [_] Qk ⟨Z,.inr Z,Z,U⟩ Z Z) Z) (gE H fun h27 H=>zi (jo Qk (fun _=>Z) Z Z Z ⟨by simp,by first | (simp; done) | simpa using h27⟩ Z) Z ?_))))))))
     exact za (wo (.row _ _) Z) ⟨((l4++[(zl.mk x8 r25.1)]),r25.2.L,r25.2.at_),H,⟨Z,Z,Z,Z,Z,U⟩,⟨Z,Z,U⟩⟩
    ·exact fE h24 H fun H=>zp ⟨(l4,c22,c23),H,⟨Z,Z,Z,Z,Z,U⟩,⟨Z,Z,U⟩⟩
  ·rintro ⟨out28,c29,c30⟩ H
   replace H:Wl out28 c29 c30=some q6:=H
   unfold Wl at H
   exact zm hN Z (za (yy Z Z (by omega)) (qd Z ⟨_,qx H,⟨Z,Z,Z,Z,Z,U⟩,⟨Z,Z,U⟩⟩))
theorem y9q (s1:zr) (r:(wn×zr)) (H:z34 s1=some r):Imp Tryz.prog 55 25 (qk s1) [] (zu [vagg (xy r.1)]) (qk r.2):=by
 refine uj (us:=[vagg (xy r.1)]) (cs':=(qk r.2)) (by kernel_rfl) Tryz.func55 Z Z Z Z fun X bl hN => ?_
 unfold z34 at H
 refine zb hN Z (zi (qh 1 z48 Z) Z (zb hN Z (za (zg (.ptr _ _) Z) (za (yb (u':=vlst (List.map yl [1,10,50,100,1000])) (qr [[_],[_],[_],[_],[_]] vg ⟨Z,.inl ⟨_,Z,Z,Z⟩,Z,Z,.inl ⟨_,Z,Z,Z⟩,Z,Z,.inl ⟨_,Z,Z,Z⟩,Z,Z,.inl ⟨_,Z,Z,Z⟩,Z,Z,.inl ⟨_,Z,Z,Z⟩,Z,U⟩ Z Z) Z) (bE H fun r2 h3 H=>zi (yu (jz s1 [1,10,50,100,1000] r2 h3) Z ⟨.inl Z,U⟩ Z) Z (za (zg (.ptr _ _) Z) (za (yb (u':=vlst (List.map yl [0,1,2,5])) (qr [[_],[_],[_],[_]] vg ⟨Z,.inl ⟨_,Z,Z,Z⟩,Z,Z,.inl ⟨_,Z,Z,Z⟩,Z,Z,.inl ⟨_,Z,Z,Z⟩,Z,Z,.inl ⟨_,Z,Z,Z⟩,Z,U⟩ Z Z) Z) (bE H fun r4 h5 H=>zi (yu (jz r2.2 [0,1,2,5] r4 h5) Z ⟨.inl Z,U⟩ Z) Z (za (zg (.ptr _ _) Z) (za (yb (u':=vlst (List.map yl [0,100,333,500,1000])) (qr [[_],[_],[_],[_],[_]] vg ⟨Z,.inl ⟨_,Z,Z,Z⟩,Z,Z,.inl ⟨_,Z,Z,Z⟩,Z,Z,.inl ⟨_,Z,Z,Z⟩,Z,Z,.inl ⟨_,Z,Z,Z⟩,Z,Z,.inl ⟨_,Z,Z,Z⟩,Z,U⟩ Z Z) Z) (bE H fun r6 h7 H=>zi (yu (jz r4.2 [0,100,333,500,1000] r6 h7) Z ⟨.inl Z,U⟩ Z) Z (za (yb (u':=vagg (xy (wn.mk r2.1 r4.1 r6.1))) (vq [(0,[vint r2.1]),(1,[vint r4.1]),(2,[vint r6.1])] z48 y5y Z ⟨Z,.inl ⟨_,Z,Z,Z⟩,Z,Z,.inl ⟨_,Z,Z,Z⟩,Z,Z,.inl ⟨_,Z,Z,Z⟩,Z,U⟩) Z) (zi (qf xc Z Z Z Z) Z (zo ?_))))))))))))))
 cases H
 exact ⟨U,⟨.inl ⟨_,_,_,xy (wn.mk r2.1 r4.1 r6.1),Z,Z,Z,Z,xc⟩,U⟩,Z⟩
end Go.Proofs.YtgdijjmdfcgifaaGreat
