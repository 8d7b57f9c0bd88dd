/- Walks along the models. Printed by a program. -/
import Derived.Test.YtndabcepiekebaaGreatDoorZkw5
namespace Go.Proofs.YtndabcepiekebaaGreatDoor
open Go.RowKit
set_option linter.unusedVariables false
set_option maxRecDepth 100000
set_option maxHeartbeats 2000000
theorem w3z (s t:Bs) (r:Bool) (H:y33 s t=some r):Fn Tryz.prog 209 [vstr s,vstr t] (zw [zj r]):=by
 unfold y33 at H
 obtain ⟨⟨h1,h2,h3⟩,h4⟩:=gif H
 cases h4
 refine xx (by kernel_rfl) fun M w vs hM h => ?_
 have hv:=kr (us:=[.string ⟨s.toArray⟩,.string ⟨t.toArray⟩]) h
 subst hv
 refine (Tryz.strings_EqualFold ⟨s.toArray⟩ ⟨t.toArray⟩ w (by simp [ByteArray.size]; omega) (fun j b hb=>z7i h2 j b (by simpa using hb)) (fun j b hb=>z7i h3 j b (by simpa using hb))).mono ?_
 rintro e w' ⟨rfl,rfl⟩
 exact ⟨_,Z,Z,Kp.refl _ _⟩

theorem w35 (h1:qo) (name2:Bs) (r:(Bool)) (H:z9c h1 name2=some r):Fn Tryz.prog 148 [vagg (vg h1),vstr name2] (zw [zj r]):=by
 refine ⟨by kernel_rfl,yd (us:=[zj r]) Tryz.func148 Z Z Z Z fun X hN => ?_⟩
 unfold z9c at H
 refine zb hN Z (zi (jf 1 Z) Z (qe Z (zb hN Z (za (zn y2d Z) (zu (zp tyS9 Z Z) Z (qd Z (bE H fun r3 h4 H=>za (zl (w3z h1.Name name2 r3 h4) ⟨.inl Z,.inl Z,U⟩) (qe Z (zh ?_)))))))))
 cases H
 exact ⟨U,.inl Z,U⟩
theorem x4m (l1:(List qo)) (name2:Bs) (r:((List Bs))) (H:z48 l1 name2=some r):Fn Tryz.prog 87 [vlst (List.map vg l1),vstr name2] (zw [vlst (List.map zo r)]):=by
 refine ⟨by kernel_rfl,yd (us:=[vlst (List.map zo r)]) Tryz.func87 Z Z Z Z fun X hN => ?_⟩
 unfold z48 at H
 refine zb hN Z (qe Z (zb hN Z (qe Z (ze (zb hN Z (qd Z (za (yo z3v Z) (qd Z (zx (uh 5 1 9 1 Z Z Z (gE H fun h6 H=>wi (fun (k4:Nat) (s:(List Bs))=>[(1,.dat (vstr name2)),(5,.row 1 s.length),(8,.dat (vlst (List.map vg l1))),(9,.dat (vint (l1.length:Int))),(10,.dat (vint (k4:Int)))]) (fun (k4:Nat) (s:(List Bs))=>[(1,.row 9 1 (List.map zo s))]) [] H ⟨Z,Z,Z,Z,Z,U⟩ ⟨Z,U⟩ (fun _ _=>Z) ?_ ?_)))))))))))
 ·rintro l3 H
  replace H:y3t l3=some r:=H
  unfold y3t at H
  refine zb hN Z (za (zy Z Z) (ze (zg _ Z (fun h=>(lt_t h).elim) (fun h => ?_))))
  refine qg (zb hN Z (za (zf (.row _ _) Z) (za (wm (.row _ _) Z) (zh ?_))))
  cases H
  exact ⟨U,Yt Z Z,U⟩
 ·rintro k4 x7 l3 q5 h8 h9 H hq5
  replace H:z1u name2 k4 x7 l3=some q5:=H
  unfold z1u at H
  refine zb hN Z (za (zy Z Z) (ze (zg _ Z (fun h => ?_) (fun h=>(lt_f h8 h).elim))))
  refine zk (yf (ι:=(List Bs)) (fun i=>[(1,.dat (vstr name2)),(5,.row 1 i.length),(8,.dat (vlst (List.map vg l1))),(9,.dat (vint (l1.length:Int))),(10,.dat (vint (k4:Int)))]) (fun i=>[(1,.row 9 1 (List.map zo i))]) (fun i=>z4q i=some q5) (fun i=>Z) ?_ ?_)
  ·skip
   refine zx (zb hN Z (za (qu y2e (fun _=>Z) Z Z h9) (za (kj Yp Z (yy h9) Z) (zi (we 2 z3u Z) Z (zi (yp Yp Z Z Z Z) Z (zb hN Z (zu (vo Yp Z Z Z) Z (qd Z (bE H fun r10 h11 H=>za (zl (w35 x7 name2 r10 h11) ⟨.inl Z,.inl Z,U⟩) (zg _ Z (fun h12 => ?_) (fun h12 => ?_)))))))))))
   ·refine tE h12 H fun H=>zq hN Z (za (zf (.row _ _) Z) (za (zn y2c Z) (zu (zp tyS9 Z Z) Z (za (ye (u':=vlst (List.map zo [x7.Value])) (qa [[_]] qn ⟨Z,.inl ⟨_,Z,Z,Z⟩,Z,U⟩ Z Z) Z) (gE H fun h13 H=>zi (jt qn (fun _=>Z) Z Z Z ⟨by simp,by first | (simp; done) | simpa using h13⟩ Z) Z ?_)))))
    exact za (wm (.row _ _) Z) ⟨(l3++[x7.Value]),H,⟨Z,Z,Z,Z,Z,U⟩,⟨Z,U⟩⟩
   ·exact fE h12 H fun H=>zk ⟨l3,H,⟨Z,Z,Z,Z,Z,U⟩,⟨Z,U⟩⟩
  ·rintro out14 H
   replace H:z4q out14=some q5:=H
   unfold z4q at H
   exact zq hN Z (za (qw Z Z (by omega)) (qd Z ⟨_,qk H,⟨Z,Z,Z,Z,Z,U⟩,⟨Z,U⟩⟩))
theorem w4g (s1:Bs) (v2:Bs) (r:(Bool)) (H:y38 s1 v2=some r):Fn Tryz.prog 224 [vstr s1,vstr v2] (zw [zj r]):=by
 refine ⟨by kernel_rfl,yd (us:=[zj r]) Tryz.func224 Z Z Z Z fun X hN => ?_⟩
 unfold y38 at H
 refine zb hN Z (qe Z (yf (ι:=Bool) (fun i=>[(4,.dat (zj i))]) (fun i=>[]) (fun i=>z52 i=some r) (fun i=>Z) ?_ ?_))
 ·skip
  refine zq hN Z (qd Z (za (qp tyU9 Z) (qd Z (za (qp tyU9 Z) (za (vy Z Z) (qd Z (yh (j:=5) Z Z (fun h3 => ?_) (fun h3 => ?_) Z)))))))
  ·exact u1 h3 H fun h4 H=>zd Z Z h3 (zf (.dat _) Z) (zd Z Z h3 (zf (.dat _) Z) (zd Z Z h3 (qp tyU9 Z) (bE H fun l5 h6 H=>zd Z Z h3 (jc tyU9 Z Z Z h6) (zd Z Z h3 (zf (.dat _) Z) (zd Z Z h3 (wy Z Z) (za (zz Z (bTT h4) Z) (qe Z ⟨decide (l5=v2),H,⟨Z,U⟩,U⟩)))))))
  ·exact u2 h3 H fun h7 H=>zc Z Z h3 (zc Z Z h3 (zc Z Z h3 (zc Z Z h3 (zc Z Z h3 (zc Z Z h3 (za (yb Z (bFF h7) Z) (qe Z ⟨false,H,⟨Z,U⟩,U⟩)))))))
 ·rintro v8 H
  replace H:z52 v8=some r:=H
  unfold z52 at H
  refine zh ?_
  cases H
  exact ⟨U,.inl Z,U⟩
theorem w4h (s1:Bs) (v2:Bs) (r:(Bs×Bool)) (H:y39 s1 v2=some r):Fn Tryz.prog 158 [vstr s1,vstr v2] (zw [vstr r.1,zj r.2]):=by
 refine ⟨by kernel_rfl,yd (us:=[vstr r.1,zj r.2]) Tryz.func158 Z Z Z Z fun X hN => ?_⟩
 unfold y39 at H
 refine zb hN Z (qe Z (qe Z (ze (zb hN Z (qd Z (qd Z (bE H fun r3 h4 H=>za (zl (w4g s1 v2 r3 h4) ⟨.inl Z,.inl Z,U⟩) (za (yt Z) (zg _ Z (fun h5 => ?_) (fun h5 => ?_))))))))))
 ·refine tE h5 H fun H=>zb hN Z (qd Z (qe Z (qe Z (zh ?_))))
  cases H
  exact ⟨U,.inl Z,.inl Z,U⟩
 ·refine fE h5 H fun H=>zk (zb hN Z (qd Z (qd Z (za (qp tyU9 Z) (bE H fun l6 h7 H=>za (jc tyU9 Z Z Z h7) (qe Z (qe Z (zh ?_))))))))
  cases H
  exact ⟨U,.inl Z,.inl Z,U⟩
theorem x37 (s1:Bs) (v2:Bs) (r:(Bs×Bool)) (H:z11 s1 v2=some r):Fn Tryz.prog 97 [vstr s1,vstr v2] (zw [vstr r.1,zj r.2]):=by
 refine ⟨by kernel_rfl,yd (us:=[vstr r.1,zj r.2]) Tryz.func97 Z Z Z Z fun X hN => ?_⟩
 unfold z11 at H
 refine zb hN Z (qe Z (qe Z (zb hN Z (qd Z (qd Z (bE H fun r3 h4 H=>za (zl (w4h s1 v2 r3 h4) ⟨.inl Z,.inl Z,U⟩) (za (ym Z Z) (za (ym Z Z) (qe Z (qe Z (zh ?_)))))))))))
 cases H
 exact ⟨U,.inl Z,.inl Z,U⟩
theorem w3a (v1:Int) (r:(Int)) (H:z8r v1=some r):Fn Tryz.prog 69 [vint v1] (zw [vint r]):=by
 refine ⟨by kernel_rfl,yd (us:=[vint r]) Tryz.func69 Z Z Z Z fun X hN => ?_⟩
 unfold z8r at H
 refine zb hN Z (qe Z (ze (zb hN Z (qd Z (bE H fun r2 h3 H=>za (zl (x4p v1 r2 h3) ⟨.inl Z,U⟩) (za (yt Z) (zg _ Z (fun h4 => ?_) (fun h4 => ?_))))))))
 ·refine tE h4 H fun H=>zb hN Z (qe Z (zh ?_))
  cases H
  exact ⟨U,.inl Z,U⟩
 ·refine fE h4 H fun H=>zk (zb hN Z (qe Z (zh ?_)))
  cases H
  exact ⟨U,.inl Z,U⟩
theorem w3n (x1:ya) (c2:(List Bs)) (r:(Bool)) (H:z4v x1 c2=some r):Fn Tryz.prog 181 [vagg (wg x1),wv [[vlst (List.map zo c2)]] 0 0] (zw [zj r]):=by
 refine ⟨by kernel_rfl,yd (us:=[zj r]) Tryz.func181 Z Z Z Z fun X hN => ?_⟩
 unfold z4v at H
 refine zb hN Z (zi (jf 1 Z) Z (qe Z (ze (wx mixed hN Z Z (za (zn Zx Z) (zu (zp tyS9 Z Z) Z (za (yj qq Z Z Z) (bE H fun x3 h4 H=>za (qu qv (fun _=>Z) Z Z h4) (za (yj tyS9 Z (yy h4) Z) (za (wy Z Z) (qe Z ⟨Z,?_⟩)))))))))))
 refine zh ?_
 cases H
 exact ⟨U,.inl Z,U⟩
theorem x3v (secret1:Bs) (text2:Bs) (r:(Bs)) (H:z1w secret1 text2=some r):Fn Tryz.prog 149 [vstr secret1,vstr text2] (zw [vstr r]):=by
 refine ⟨by kernel_rfl,yd (us:=[vstr r]) Tryz.func149 Z Z Z Z fun X hN => ?_⟩
 unfold z1w at H
 refine zb hN Z (qe Z (zb hN Z (qe Z (ze (zb hN Z (qd Z (qd Z (qd Z (za (ye (u':=vlst (List.map zo [secret1,[0],text2,[0],secret1])) (qa [[_],[_],[_],[_],[_]] qn ⟨Z,.inl ⟨_,Z,Z,Z⟩,Z,Z,.inl ⟨_,Z,Z,Z⟩,Z,Z,.inl ⟨_,Z,Z,Z⟩,Z,Z,.inl ⟨_,Z,Z,Z⟩,Z,Z,.inl ⟨_,Z,Z,Z⟩,Z,U⟩ Z Z) Z) (za (yo qm Z) (qd Z (zx (gE H fun h6 H=>wi (fun (k4:Nat) (s:Int)=>[(5,.dat (vval (.int .u64 s))),(13,.dat (vlst (List.map zo ([secret1,[0],text2,[0],secret1])))),(14,.dat (vint (([secret1,[0],text2,[0],secret1]).length:Int))),(15,.dat (vint (k4:Int)))]) (fun (k4:Nat) (s:Int)=>[]) 14695981039346656037 H ⟨Z,Z,Z,Z,U⟩ U (fun _ _=>Z) ?_ ?_)))))))))))))
 ·rintro h3 H
  replace H:Wg h3=some r:=H
  unfold Wg at H
  refine zb hN Z (za (zy Z Z) (ze (zg _ Z (fun h=>(lt_t h).elim) (fun h => ?_))))
  refine qg (ze (zb hN Z (qd Z (zx (gE H fun h11 H=>Zp (fun (k9:Nat) (s:Int)=>[(5,.dat (vval (.int .u64 s))),(33,.dat (vint (k9:Int)))]) (fun (k9:Nat) (s:Int)=>[]) h3 H ⟨Z,Z,U⟩ U (fun _ _=>Z) ?_ ?_)))))
  ·rintro h8 H
   replace H:y2i h8=some r:=H
   unfold y2i at H
   refine zb hN Z (za (zy Z Z) (ze (zg _ Z (fun h=>(lt_t h).elim) (fun h => ?_))))
   refine qg (zb hN Z (qd Z (bE H fun r12 h13 H=>za (zl (x4d h8 16 r12 h13) ⟨.inl Z,.inl Z,U⟩) (qe Z (zb hN Z (qd Z (za (qp tyU9 Z) (za (yw _ Z Z (.inr (.inl ⟨Z,Z⟩))) (bE H fun r14 h15 H=>za (zl (y4q [48] (wr (16 - (r12.length:Int))) r14 h15) ⟨.inl Z,.inl Z,U⟩) (qd Z (gE H fun h16 H=>za (wt Z Z (Nat.le_trans h16 (by decide))) (qe Z (zh ?_)))))))))))))
   cases H
   exact ⟨U,.inl Z,U⟩
  ·rintro k9 h8 q10 h17 H hq10
   replace H:y2h k9 h8=some q10:=H
   unfold y2h at H
   refine zb hN Z (za (zy Z Z) (ze (zg _ Z (fun h => ?_) (fun h=>(lt_f h17 h).elim))))
   exact zk (ze (zx (zq hN Z (qd Z (qd Z (za (ye (z8a Z Z (by decide)) Z) (za (ye (y2v Z Z) Z) (za (yw _ Z Z (.inr (.inr ⟨Z,Z⟩))) (qe Z (zq hN Z (za (qw Z Z (by omega)) (qd Z ⟨_,qk H,⟨Z,Z,U⟩,U⟩))))))))))))
 ·rintro k4 x7 h3 q5 h18 h19 H hq5
  replace H:z02 k4 x7 h3=some q5:=H
  unfold z02 at H
  refine zb hN Z (za (zy Z Z) (ze (zg _ Z (fun h => ?_) (fun h=>(lt_f h18 h).elim))))
  refine zk (ze (zx (zb hN Z (za (qu qv (fun _=>Z) Z Z h19) (za (yj tyS9 Z (yy h19) Z) (qe Z (zb hN Z (qd Z (za (qp tyU9 Z) (qd Z (zx (gE H fun h23 H=>wi (fun (k21:Nat) (s:Int)=>[(5,.dat (vval (.int .u64 s))),(7,.dat (vstr x7)),(13,.dat (vlst (List.map zo ([secret1,[0],text2,[0],secret1])))),(14,.dat (vint (([secret1,[0],text2,[0],secret1]).length:Int))),(15,.dat (vint (k4:Int))),(20,.dat (vint (x7.length:Int))),(21,.dat (vint (k21:Int)))]) (fun (k21:Nat) (s:Int)=>[]) h3 H ⟨Z,Z,Z,Z,Z,Z,Z,U⟩ U (fun _ _=>Z) ?_ ?_))))))))))))
  ·rintro h20 H
   replace H:y6l h20=some q5:=H
   unfold y6l at H
   refine zb hN Z (za (zy Z Z) (ze (zg _ Z (fun h=>(lt_t h).elim) (fun h => ?_))))
   exact qg (zq hN Z (za (qw Z Z (by omega)) (qd Z ⟨_,qk H,⟨Z,Z,Z,Z,U⟩,U⟩)))
  ·rintro k21 x24 h20 q22 h25 h26 H hq22
   replace H:y2g k21 x24 h20=some q22:=H
   unfold y2g at H
   refine zb hN Z (za (zy Z Z) (ze (zg _ Z (fun h => ?_) (fun h=>(lt_f h25 h).elim))))
   exact zk (ze (zx (zb hN Z (qd Z (qe Z (zq hN Z (qd Z (qd Z (qd Z (za (wq tyU9 Z Z h26) (za (jl tyU5 xm Z) (za (ye (y2v Z Z) Z) (za (yw _ Z Z (.inr (.inr ⟨Z,Z⟩))) (qe Z (zq hN Z (za (qw Z Z (by omega)) (qd Z ⟨_,qk H,⟨Z,Z,Z,Z,Z,Z,Z,U⟩,U⟩)))))))))))))))))
theorem x3x (s1:Bs) (r:(Bs)) (H:Ws s1=some r):Fn Tryz.prog 66 [vstr s1] (zw [vstr r]):=by
 refine ⟨by kernel_rfl,yd (us:=[vstr r]) Tryz.func66 Z Z Z Z fun X hN => ?_⟩
 unfold Ws at H
 refine zb hN Z (qe Z (zb hN Z (qe Z (yf (ι:=(List Int)) (fun i=>[(3,.row 1 i.length)]) (fun i=>[(1,.row 5 1 (List.map ve i))]) (fun i=>z7s i=some r) (fun i=>Z) ?_ ?_))))
 ·skip
  refine zx (uh 3 1 5 1 Z Z Z (Zq (fun (s:Bs×(List Int))=>[(0,.dat (vstr s.1)),(3,.row 1 s.2.length)]) (fun (s:Bs×(List Int))=>[(1,.row 5 1 (List.map ve s.2))]) (s1,[]) H ⟨Z,Z,U⟩ ⟨Z,U⟩ (fun _=>Z) ?_))
  rintro ⟨s2,l3⟩ q4 H hq4
  replace H:kg s2 l3=some q4:=H
  unfold kg at H
  refine ze (zb hN Z (qd Z (za (qp tyU9 Z) (za (qh Z Z) (zg _ Z (fun h5 => ?_) (fun h5 => ?_))))))
  ·refine tE h5 H fun H=>zk (zx (zb hN Z (qd Z (za (qp tyU9 Z) (za (y6z Z Z) (qe Z (zb hN Z (qe Z (ze (zb hN Z (qd Z (zx (gE H fun h9 H=>Zp (fun (k7:Nat) (s:Int)=>[(0,.dat (vstr s2)),(3,.row 1 l3.length),(4,.dat (vint (min 3 (s2.length:Int)))),(5,.dat (vint s)),(14,.dat (vint (k7:Int)))]) (fun (k7:Nat) (s:Int)=>[(1,.row 5 1 (List.map ve l3))]) 0 H ⟨Z,Z,Z,Z,Z,U⟩ ⟨Z,U⟩ (fun _ _=>Z) ?_ ?_)))))))))))))
   ·rintro x6 H
    replace H:z7t s2 l3 x6=some q4:=H
    unfold z7t at H
    refine zb hN Z (za (zy Z Z) (ze (zg _ Z (fun h=>(lt_t h).elim) (fun h => ?_))))
    refine qg (ze (zb hN Z (qd Z (za (yw _ Z Z (.inl ⟨Z,Z⟩)) (qd Z (zx (gE H fun h13 H=>Zp (fun (k11:Nat) (s:(List Int))=>[(0,.dat (vstr s2)),(3,.row 1 s.length),(4,.dat (vint (min 3 (s2.length:Int)))),(5,.dat (vint x6)),(30,.dat (vint (wr ((min 3 (s2.length:Int))+1)))),(31,.dat (vint (k11:Int)))]) (fun (k11:Nat) (s:(List Int))=>[(1,.row 5 1 (List.map ve s))]) l3 H ⟨Z,Z,Z,Z,Z,Z,U⟩ ⟨Z,U⟩ (fun _ _=>Z) ?_ ?_)))))))
    ·rintro l10 H
     replace H:z08 s2 l10=some q4:=H
     unfold z08 at H
     refine zb hN Z (za (zy Z Z) (ze (zg _ Z (fun h=>(z5t h).elim) (fun h => ?_))))
     exact qg (zq hN Z (qd Z (qd Z (bE H fun l14 h15 H=>za (jc tyU9 Z Z Z h15) (qe Z ⟨_,qk H,⟨Z,Z,U⟩,⟨Z,U⟩⟩)))))
    ·rintro k11 l10 q12 h16 H hq12
     replace H:z06 x6 k11 l10=some q12:=H
     unfold z06 at H
     refine zb hN Z (za (zy Z Z) (ze (zg _ Z (fun h => ?_) (fun h=>(z5u h16 h).elim))))
     refine zk (ze (zx (zb hN Z (qd Z (qe Z (zq hN Z (za (zf (.row _ _) Z) (qd Z (qd Z (za (yw _ Z Z (.inr (.inr ⟨Z,Z⟩))) (za (yw _ Z Z (.inr (.inl ⟨Z,Z⟩))) (gE H fun h17 H=>za (ye (z8a Z Z h17) Z) (za (ye (y62 Z Z) Z) (bE H fun x18 h19 H=>za (Zc tyU9 Z Z h19) (za (ye (u':=vlst (List.map ve [(x18.toNat:Int)])) (qa [[_]] z3y ⟨Z,.inl ⟨_,Z,Z,Z⟩,Z,U⟩ Z Z) Z) (gE H fun h20 H=>zi (jt z3y (fun _=>Z) Z Z Z ⟨by simp,by first | (simp; done) | simpa using h20⟩ Z) Z ?_))))))))))))))))
     exact za (wm (.row _ _) Z) (zq hN Z (za (qw Z Z (by omega)) (qd Z ⟨_,qk H,⟨Z,Z,Z,Z,Z,Z,U⟩,⟨Z,U⟩⟩)))
   ·rintro k7 x6 q8 h21 H hq8
    replace H:Zy s2 k7 x6=some q8:=H
    unfold Zy at H
    refine zb hN Z (za (zy Z Z) (ze (zg _ Z (fun h => ?_) (fun h=>(lt_f h21 h).elim))))
    refine zk (yf (ι:=Int) (fun i=>[(0,.dat (vstr s2)),(3,.row 1 l3.length),(4,.dat (vint (min 3 (s2.length:Int)))),(5,.dat (vint i)),(14,.dat (vint (k7:Int)))]) (fun i=>[(1,.row 5 1 (List.map ve l3))]) (fun i=>z07 i=some q8) (fun i=>Z) ?_ ?_)
    ·skip
     refine zx (zb hN Z (qd Z (qe Z (zb hN Z (qd Z (za (ye (y2w Z Z (by decide)) Z) (qe Z (zb hN Z (qd Z (qd Z (za (zy Z Z) (zg _ Z (fun h22 => ?_) (fun h22 => ?_)))))))))))))
     ·exact tE h22 H fun H=>zq hN Z (qd Z (qd Z (qd Z (bE H fun x23 h24 H=>za (wq tyU9 Z Z h24) (za (jl tyU5 tyU3 Z) (za (ye (y6w Z Z) Z) (qe Z ⟨(or_ .i64 (shl_ .i64 x6 8) (IntKind.wrap .i64 (x23.toNat:Int))),H,⟨Z,Z,Z,Z,Z,U⟩,⟨Z,U⟩⟩)))))))
     ·exact fE h22 H fun H=>zk ⟨(shl_ .i64 x6 8),H,⟨Z,Z,Z,Z,Z,U⟩,⟨Z,U⟩⟩
    ·rintro x25 H
     replace H:z07 x25=some q8:=H
     unfold z07 at H
     exact zq hN Z (za (qw Z Z (by omega)) (qd Z ⟨_,qk H,⟨Z,Z,Z,Z,Z,U⟩,⟨Z,U⟩⟩))
  ·refine fE h5 H fun H=>qg ?_
   replace H:=outl H hq4
   exact ⟨l3,H,⟨Z,U⟩,⟨Z,U⟩⟩
 ·rintro out26 H
  replace H:z7s out26=some r:=H
  unfold z7s at H
  refine ze (z7z 3 1 Z Z Z (zq hN Z (qd Z (za (z4f (C:=ve) Zr tyU5 tyU9 (fun _=>Z) Z) (qe Z (zh ?_))))))
  cases H
  exact ⟨U,.inl Z,U⟩
theorem w3p (s1:Bs) (r:(Bs×Int)) (H:z83 s1=some r):Fn Tryz.prog 182 [vstr s1] (zw [vstr r.1,vint r.2]):=by
 refine ⟨by kernel_rfl,yd (us:=[vstr r.1,vint r.2]) Tryz.func182 Z Z Z Z fun X hN => ?_⟩
 unfold z83 at H
 refine zb hN Z (qe Z (qe Z (zb hN Z (qe Z (yf (ι:=(List Int)) (fun i=>[(0,.dat (vstr s1)),(4,.row 1 i.length)]) (fun i=>[(1,.row 5 1 (List.map ve i))]) (fun i=>z1a s1 i=some r) (fun i=>Z) ?_ ?_)))))
 ·skip
  refine zb hN Z (qd Z (qe Z (zx (uh 4 1 5 1 Z Z Z (Zq (fun (s:Bs×(List Int))=>[(0,.dat (vstr s1)),(4,.row 1 s.2.length),(5,.dat (vstr s.1))]) (fun (s:Bs×(List Int))=>[(1,.row 5 1 (List.map ve s.2))]) (s1,[]) H ⟨Z,Z,Z,U⟩ ⟨Z,U⟩ (fun _=>Z) ?_)))))
  rintro ⟨rest2,l3⟩ q4 H hq4
  replace H:Zz s1 rest2 l3=some q4:=H
  unfold Zz at H
  refine ze (zb hN Z (qd Z (za (qp tyU9 Z) (za (qh Z Z) (zg _ Z (fun h5 => ?_) (fun h5 => ?_))))))
  ·refine tE h5 H fun H=>zk (zx (zb hN Z (qd Z (za (qp tyU9 Z) (za (y6z Z Z) (qe Z (zb hN Z (qe Z (ze (zb hN Z (qd Z (zx (gE H fun h9 H=>Zp (fun (k7:Nat) (s:Int)=>[(0,.dat (vstr s1)),(4,.row 1 l3.length),(5,.dat (vstr rest2)),(6,.dat (vint (min 4 (rest2.length:Int)))),(7,.dat (vint s)),(18,.dat (vint (k7:Int)))]) (fun (k7:Nat) (s:Int)=>[(1,.row 5 1 (List.map ve l3))]) 0 H ⟨Z,Z,Z,Z,Z,Z,U⟩ ⟨Z,U⟩ (fun _ _=>Z) ?_ ?_)))))))))))))
   ·rintro x6 H
    replace H:z7u rest2 l3 x6=some q4:=H
    unfold z7u at H
    refine zb hN Z (za (zy Z Z) (ze (zg _ Z (fun h=>(lt_t h).elim) (fun h => ?_))))
    refine qg (ze (zb hN Z (qd Z (za (yw _ Z Z (.inr (.inl ⟨Z,Z⟩))) (qd Z (zx (gE H fun h13 H=>Zp (fun (k11:Nat) (s:(List Int))=>[(0,.dat (vstr s1)),(4,.row 1 s.length),(5,.dat (vstr rest2)),(6,.dat (vint (min 4 (rest2.length:Int)))),(7,.dat (vint x6)),(37,.dat (vint (wr ((min 4 (rest2.length:Int)) - 1)))),(38,.dat (vint (k11:Int)))]) (fun (k11:Nat) (s:(List Int))=>[(1,.row 5 1 (List.map ve s))]) l3 H ⟨Z,Z,Z,Z,Z,Z,Z,U⟩ ⟨Z,U⟩ (fun _ _=>Z) ?_ ?_)))))))
    ·rintro l10 H
     replace H:z1b rest2 l10=some q4:=H
     unfold z1b at H
     refine zb hN Z (za (zy Z Z) (ze (zg _ Z (fun h=>(z5t h).elim) (fun h => ?_))))
     exact qg (zq hN Z (qd Z (qd Z (bE H fun l14 h15 H=>za (jc tyU9 Z Z Z h15) (qe Z ⟨_,qk H,⟨Z,Z,Z,U⟩,⟨Z,U⟩⟩)))))
    ·rintro k11 l10 q12 h16 H hq12
     replace H:z09 x6 k11 l10=some q12:=H
     unfold z09 at H
     refine zb hN Z (za (zy Z Z) (ze (zg _ Z (fun h => ?_) (fun h=>(z5u h16 h).elim))))
     refine zk (ze (zx (zb hN Z (qd Z (qe Z (zq hN Z (za (zf (.row _ _) Z) (qd Z (qd Z (za (yw _ Z Z (.inr (.inr ⟨Z,Z⟩))) (za (yw _ Z Z (.inr (.inl ⟨Z,Z⟩))) (gE H fun h17 H=>za (ye (z8a Z Z h17) Z) (za (jl tyU3 tyU5 Z) (za (ye (u':=vlst (List.map ve [IntKind.wrap .u8 (shr_ .i64 x6 (wr (16 - (wr (8 * (k11:Int))))))])) (qa [[_]] z3y ⟨Z,.inl ⟨_,Z,Z,Z⟩,Z,U⟩ Z Z) Z) (gE H fun h18 H=>zi (jt z3y (fun _=>Z) Z Z Z ⟨by simp,by first | (simp; done) | simpa using h18⟩ Z) Z ?_)))))))))))))))
     exact za (wm (.row _ _) Z) (zq hN Z (za (qw Z Z (by omega)) (qd Z ⟨_,qk H,⟨Z,Z,Z,Z,Z,Z,Z,U⟩,⟨Z,U⟩⟩)))
   ·rintro k7 x6 q8 h19 H hq8
    replace H:uk rest2 k7 x6=some q8:=H
    unfold uk at H
    refine zb hN Z (za (zy Z Z) (ze (zg _ Z (fun h => ?_) (fun h=>(lt_f h19 h).elim))))
    refine zk (yf (ι:=Int) (fun i=>[(0,.dat (vstr s1)),(4,.row 1 l3.length),(5,.dat (vstr rest2)),(6,.dat (vint (min 4 (rest2.length:Int)))),(7,.dat (vint i)),(18,.dat (vint (k7:Int)))]) (fun i=>[(1,.row 5 1 (List.map ve l3))]) (fun i=>Wl i=some q8) (fun i=>Z) ?_ ?_)
    ·skip
     refine zx (zb hN Z (qd Z (qe Z (zb hN Z (qd Z (za (ye (y2w Z Z (by decide)) Z) (qe Z (zb hN Z (qd Z (qd Z (za (zy Z Z) (zg _ Z (fun h20 => ?_) (fun h20 => ?_)))))))))))))
     ·refine tE h20 H fun H=>zb hN Z (qd Z (qd Z (bE H fun x21 h22 H=>za (wq tyU9 Z Z h22) (bE H fun r23 h24 H=>za (zl (y4s [65,66,67,68,69,70,71,72,73,74,75,76,77,78,79,80,81,82,83,84,85,86,87,88,89,90,97,98,99,100,101,102,103,104,105,106,107,108,109,110,111,112,113,114,115,116,117,118,119,120,121,122,48,49,50,51,52,53,54,55,56,57,45,95] (x21.toNat:Int) r23 h24) ⟨.inl Z,.inl Z,U⟩) (qe Z (ze (zb hN Z (qd Z (za (zy Z Z) (zg _ Z (fun h25 => ?_) (fun h25 => ?_)))))))))))
      ·refine tE h25 H fun H=>zb hN Z (qe Z (qe Z (zh ?_)))
       replace H:=retl H hq8
       replace H:=retl H hq4
       cases H
       exact ⟨U,.inl Z,.inl Z,U⟩
      ·exact fE h25 H fun H=>zk (zq hN Z (qd Z (qd Z (za (ye (y6w Z Z) Z) (qe Z ⟨(or_ .i64 (shl_ .i64 x6 6) r23),H,⟨Z,Z,Z,Z,Z,Z,U⟩,⟨Z,U⟩⟩)))))
     ·exact fE h20 H fun H=>zk ⟨(shl_ .i64 x6 6),H,⟨Z,Z,Z,Z,Z,Z,U⟩,⟨Z,U⟩⟩
    ·rintro x26 H
     replace H:Wl x26=some q8:=H
     unfold Wl at H
     exact zq hN Z (za (qw Z Z (by omega)) (qd Z ⟨_,qk H,⟨Z,Z,Z,Z,Z,Z,U⟩,⟨Z,U⟩⟩))
  ·refine fE h5 H fun H=>qg ?_
   replace H:=outl H hq4
   exact ⟨l3,H,⟨Z,Z,U⟩,⟨Z,U⟩⟩
 ·rintro out27 H
  replace H:z1a s1 out27=some r:=H
  unfold z1a at H
  refine ze (ze (z7z 4 1 Z Z Z (zq hN Z (qd Z (za (z4f (C:=ve) Zr tyU5 tyU9 (fun _=>Z) Z) (bE H fun r28 h29 H=>za (zl (x3x (strN out27) r28 h29) ⟨.inl Z,U⟩) (qd Z (za (jj Z Z) (zg _ Z (fun h30 => ?_) (fun h30 => ?_))))))))))
  ·refine tE h30 H fun H=>zb hN Z (qe Z (qe Z (zh ?_)))
   cases H
   exact ⟨U,.inl Z,.inl Z,U⟩
  ·refine fE h30 H fun H=>zk (zb hN Z (qd Z (za (z4f (C:=ve) Zr tyU5 tyU9 (fun _=>Z) Z) (qe Z (qe Z (zh ?_))))))
   cases H
   exact ⟨U,.inl Z,.inl Z,U⟩
theorem w4f (s1:Bs) (r:((List Bs)×Bool)) (H:z9i s1=some r):Fn Tryz.prog 255 [vstr s1] (zw [vlst (List.map zo r.1),zj r.2]):=by
 refine ⟨by kernel_rfl,yd (us:=[vlst (List.map zo r.1),zj r.2]) Tryz.func255 Z Z Z Z fun X hN => ?_⟩
 unfold z9i at H
 refine zb hN Z (qe Z (qe Z (zb hN Z (qd Z (bE H fun r2 h3 H=>za (zl (Qi s1 [10] r2 h3) ⟨.inl Z,.inl Z,U⟩) (qe Z (zb hN Z (qd Z (za (yo qm Z) (za (yw _ Z Z (.inr (.inl ⟨Z,Z⟩))) (qe Z (ze (zb hN Z (qd Z (qd Z (bE H fun x4 h5 H=>za (jm qv (fun _=>Z) Z Z h5) (za (yj tyS9 Z (yy (vu h5).2) Z) (za (wy Z Z) (zg _ Z (fun h6 => ?_) (fun h6 => ?_))))))))))))))))))))
 ·refine tE h6 H fun H=>zb hN Z (qd Z (qd Z (bE H fun l7 h8 H=>za (z1d qv (fun _=>Z) Z Z Z h8) (qe Z (qe Z (zh ?_))))))
  cases H
  exact ⟨U,.inl Z,.inl Z,U⟩
 ·refine fE h6 H fun H=>zk (zb hN Z (qd Z (qe Z (qe Z (zh ?_)))))
  cases H
  exact ⟨U,.inl Z,.inl Z,U⟩
theorem x4g (s1:(List Bs)) (v2:Bs) (r:(Int)) (H:z44 s1 v2=some r):Fn Tryz.prog 132 [vlst (List.map zo s1),vstr v2] (zw [vint r]):=by
 refine ⟨by kernel_rfl,yd (us:=[vint r]) Tryz.func132 Z Z Z Z fun X hN => ?_⟩
 unfold z44 at H
 refine zb hN Z (qe Z (ze (zb hN Z (qd Z (za (yo qm Z) (qd Z (zx (gE H fun h5 H=>wi (fun (k3:Nat) (s:Unit)=>[(0,.dat (vlst (List.map zo s1))),(1,.dat (vstr v2)),(7,.dat (vint (s1.length:Int))),(8,.dat (vint (k3:Int)))]) (fun (k3:Nat) (s:Unit)=>[]) () H ⟨Z,Z,Z,Z,U⟩ U (fun _ _=>Z) ?_ ?_))))))))
 ·rintro ⟨⟩ H
  replace H:y67=some r:=H
  unfold y67 at H
  refine zb hN Z (za (zy Z Z) (ze (zg _ Z (fun h=>(lt_t h).elim) (fun h => ?_))))
  refine qg (zb hN Z (qe Z (zh ?_)))
  cases H
  exact ⟨U,.inl Z,U⟩
 ·rintro k3 x6 ⟨⟩ q4 h7 h8 H hq4
  replace H:y66 v2 k3 x6=some q4:=H
  unfold y66 at H
  refine zb hN Z (za (zy Z Z) (ze (zg _ Z (fun h => ?_) (fun h=>(lt_f h7 h).elim))))
  refine zk (ze (zx (zb hN Z (qd Z (qe Z (zb hN Z (qd Z (qd Z (qd Z (za (qu qv (fun _=>Z) Z Z h8) (za (yj tyS9 Z (yy h8) Z) (za (wy Z Z) (zg _ Z (fun h9 => ?_) (fun h9 => ?_))))))))))))))
  ·refine tE h9 H fun H=>zb hN Z (qd Z (qe Z (zh ?_)))
   replace H:=retl H hq4
   cases H
   exact ⟨U,.inl Z,U⟩
  ·exact fE h9 H fun H=>zk (zq hN Z (za (qw Z Z (by omega)) (qd Z ⟨_,qk H,⟨Z,Z,Z,Z,U⟩,U⟩)))
theorem y4u (s1:(List Bs)) (v2:Bs) (r:(Bool)) (H:Wz s1 v2=some r):Fn Tryz.prog 62 [vlst (List.map zo s1),vstr v2] (zw [zj r]):=by
 refine ⟨by kernel_rfl,yd (us:=[zj r]) Tryz.func62 Z Z Z Z fun X hN => ?_⟩
 unfold Wz at H
 refine zb hN Z (qe Z (zb hN Z (qd Z (qd Z (bE H fun r3 h4 H=>za (zl (x4g s1 v2 r3 h4) ⟨.inl Z,.inl Z,U⟩) (za (vy Z Z) (qe Z (zh ?_))))))))
 cases H
 exact ⟨U,.inl Z,U⟩
theorem w4b (s1:Bs) (r:((List Bs)×Bool)) (H:z9f s1=some r):Fn Tryz.prog 300 [vstr s1] (zw [vlst (List.map zo r.1),zj r.2]):=by
 refine ⟨by kernel_rfl,yd (us:=[vlst (List.map zo r.1),zj r.2]) Tryz.func300 Z Z Z Z fun X hN => ?_⟩
 unfold z9f at H
 refine zb hN Z (qe Z (qe Z (zb hN Z (qd Z (bE H fun r2 h3 H=>za (zl (Qi s1 [32] r2 h3) ⟨.inl Z,.inl Z,U⟩) (qe Z (zb hN Z (qd Z (qd Z (bE H fun r4 h5 H=>za (zl (y4u r2 [] r4 h5) ⟨.inl Z,.inl Z,U⟩) (za (yt Z) (qe Z (qe Z (zh ?_))))))))))))))
 cases H
 exact ⟨U,.inl Z,.inl Z,U⟩
theorem y4p (s1:qi) (v2:Bs) (v3:Bool) (r:((List Bs)×qi)) (H:kx s1 v2 v3=some r):Imp Tryz.prog 257 225 (Yn s1) [vstr v2,zj v3] (zw [vlst (List.map zo r.1)]) (Yn r.2):=by
 refine jo (us:=[vlst (List.map zo r.1)]) (cs':=(Yn r.2)) (by kernel_rfl) Tryz.func257 Z Z Z Z fun X bl hN => ?_
 unfold kx at H
 refine zb hN Z (qe Z (ze (zb hN Z (za (zf (.ptr _ _) Z) (za (wu Z) (za (zn Wc Z) (zu (zp tyS4 Z Z) Z (zg _ Z (fun h4 => ?_) (fun h4 => ?_)))))))))
 ·refine tE h4 H fun H=>zb hN Z (qe Z (zh ?_))
  cases H
  exact ⟨U,⟨.inr ⟨Z,Z⟩,U⟩,Z⟩
 ·refine fE h4 H fun H=>zk (ze (ze (wx mixed hN Z Z (za (zf (.ptr _ _) Z) (za (wu Z) (za (zn Zb Z) (zu (zp tyS3 Z Z) Z (za (zf (.ptr _ _) Z) (za (wu Z) (za (zn z7q Z) (zu (zp qq Z Z) Z (za (yo qm Z) (za (ql Z Z) ⟨Z,?_⟩)))))))))))))
  refine zg _ Z (fun h5 => ?_) (fun h5 => ?_)
  ·refine tE h5 H fun H=>zb hN Z (za (zf (.ptr _ _) Z) (qd Z (za (wu Z) (za (zn Wc Z) (zi (wn tyS4 Z Z Z Z) Z (zb hN Z (qe Z (zh ?_))))))))
   cases H
   exact ⟨U,⟨.inr ⟨Z,Z⟩,U⟩,Z⟩
  ·refine fE h5 H fun H=>zk (ze (wx mixed hN Z Z (za (zf (.ptr _ _) Z) (za (wu Z) (za (zn z7q Z) (zu (zp qq Z Z) Z (za (zf (.ptr _ _) Z) (za (wu Z) (za (zn Zb Z) (zu (zp tyS3 Z Z) Z (bE H fun x6 h7 H=>za (jm qv (fun _=>Z) Z Z h7) (za (yj tyS9 Z (yy (vu h7).2) Z) (bE H fun r8 h9 H=>za (zl (y4t x6 [32] r8 h9) ⟨.inl Z,.inl Z,U⟩) (qd Z (za (ym Z Z) (za (ym Z Z) (za (ym Z Z) (qe Z (qe Z (qe Z ?_))))))))))))))))))))
   refine ⟨Z,?_⟩
   refine ze (zb hN Z (qd Z (qd Z (za (jj Z Z) (zg _ Z (fun h10 => ?_) (fun h10 => ?_))))))
   ·refine tE h10 H fun H=>zb hN Z (za (zf (.ptr _ _) Z) (qd Z (za (wu Z) (za (zn Wc Z) (zi (wn tyS4 Z Z Z Z) Z (zb hN Z (qe Z (zh ?_))))))))
    cases H
    exact ⟨U,⟨.inr ⟨Z,Z⟩,U⟩,Z⟩
   ·refine fE h10 H fun H=>zk (zb hN Z (qd Z (bE H fun r11 h12 H=>za (zl (w4b r8.2.1 r11 h12) ⟨.inl Z,U⟩) (qd Z (za (ym Z Z) (za (ym Z Z) (qe Z (qe Z (ze (ze (wx mixed hN Z Z (qd Z (za (yt Z) (qd Z (yi Z Z (fun hc=>zf (.ptr _ _) Z) (yi Z Z (fun hc=>wu (cnd (c:=(!(!r11.2))) hc)) (yi Z Z (fun hc=>zn x0r (cnd (c:=(!(!r11.2))) hc)) (jk Z Z (fun hc=>zp tyS4 (cnd (c:=(!(!r11.2))) hc) Z) Z y1l (yi Z Z (fun hc=>yt (cnd (c:=(!(!r11.2))) hc)) (yi Z Z (fun hc=>zf (.dat _) (cnd (c:=(!(!r11.2))) hc)) (vk Z Z (fun hc=>zf (.ptr _ _) Z) ?_)))))))))))))))))))))
    refine vk Z Z (fun hc=>wu (cnd (c:=((!(!r11.2)) && (!s1.ended_))) hc)) (vk Z Z (fun hc=>zn Zb (cnd (c:=((!(!r11.2)) && (!s1.ended_))) hc)) (y3e Z Z (fun hc=>zp tyS3 (cnd (c:=((!(!r11.2)) && (!s1.ended_))) hc) Z) Z y1l (vk Z Z (fun hc=>zf (.ptr _ _) Z) (vk Z Z (fun hc=>wu (cnd (c:=((!(!r11.2)) && (!s1.ended_))) hc)) (vk Z Z (fun hc=>zn z7q (cnd (c:=((!(!r11.2)) && (!s1.ended_))) hc)) (y3e Z Z (fun hc=>zp qq (cnd (c:=((!(!r11.2)) && (!s1.ended_))) hc) Z) Z y1l (vk Z Z (fun hc=>yo qm (cnd (c:=((!(!r11.2)) && (!s1.ended_))) hc)) (vk Z Z (fun hc=>yw _ (cnd (c:=((!(!r11.2)) && (!s1.ended_))) hc) Z (.inr (.inl ⟨Z,Z⟩))) (vk Z Z (fun hc=>ql (cnd (c:=((!(!r11.2)) && (!s1.ended_))) hc) (cnd (c:=((!(!r11.2)) && (!s1.ended_))) hc)) (yi Z Z (fun hc=>vi (cnd (c:=(!(!r11.2))) hc) (fun hb=>(cnd (c:=((!(!r11.2)) && (!s1.ended_))) (andI hc hb))) Z) (za (wz Z Z (fun hb=>(cnd (c:=(!(!r11.2))) (notI hb)))) ⟨Z,?_⟩)))))))))))
    refine zg _ Z (fun h13 => ?_) (fun h13 => ?_)
    ·refine tE h13 H fun H=>zb hN Z (za (zf (.ptr _ _) Z) (za (wu Z) (za (zn Wc Z) (zi (wn tyS4 Z Z Z Z) Z (zb hN Z (qe Z (zh ?_)))))))
     cases H
     exact ⟨U,⟨.inr ⟨Z,Z⟩,U⟩,Z⟩
    ·refine fE h13 H fun H=>zk (zb hN Z (za (zf (.ptr _ _) Z) (za (wu Z) (za (zn Zb Z) (zu (zp tyS3 Z Z) Z (za (yw _ Z Z (.inl ⟨Z,Z⟩)) (za (wu Z) (za (zn Zb Z) (zi (wn tyS3 Z Z Z Z) Z (zb hN Z (qd Z (qe Z (zh ?_)))))))))))))
     cases H
     exact ⟨U,⟨.inl Z,U⟩,Z⟩
theorem y4o (s1:qi) (word2:Bs) (must3:Bool) (r:(Bs×qi)) (H:kk s1 word2 must3=some r):Imp Tryz.prog 256 225 (Yn s1) [vstr word2,zj must3] (zw [vstr r.1]) (Yn r.2):=by
 refine jo (us:=[vstr r.1]) (cs':=(Yn r.2)) (by kernel_rfl) Tryz.func256 Z Z Z Z fun X bl hN => ?_
 unfold kk at H
 refine zb hN Z (qe Z (zb hN Z (za (zf (.ptr _ _) Z) (qd Z (qd Z (bE H fun r4 h5 H=>zi (yk (y4p s1 word2 must3 r4 h5) Z ⟨.inl Z,.inl Z,U⟩ Z) Z (qe Z (yf (ι:=Int×Bool) (fun i=>[(7,.dat (vlst (List.map zo r4.1)))]) (fun i=>[(0,.box (some bl) 225 [.dat (vlst (List.map zo r4.2.lines_)),.dat (zj r4.2.ended_),.dat (vint i.1),.dat (zj i.2)])]) (fun i=>z39 r4 i.1 i.2=some r) (fun i=>Z) ?_ ?_))))))))
 ·skip
  refine zb hN Z (qd Z (za (yo qm Z) (za (qh Z Z) (zg _ Z (fun h6 => ?_) (fun h6 => ?_)))))
  ·exact tE h6 H fun H=>zb hN Z (za (zf (.ptr _ _) Z) (za (wu Z) (za (zn Wc Z) (zi (wn tyS4 Z Z Z Z) Z (zq hN Z (za (zf (.ptr _ _) Z) (za (wu Z) (za (zn Zb Z) (zu (zp tyS3 Z Z) Z (za (yw _ Z Z (.inr (.inl ⟨Z,Z⟩))) (za (wu Z) (za (zn Zb Z) (zi (wn tyS3 Z Z Z Z) Z ⟨(wr (r4.2.at_ - 1),true),H,⟨Z,U⟩,⟨Z,U⟩⟩)))))))))))))
  ·exact fE h6 H fun H=>zk ⟨(r4.2.at_,r4.2.bad_),H,⟨Z,U⟩,⟨Z,U⟩⟩
 ·rintro ⟨c7,c8⟩ H
  replace H:z39 r4 c7 c8=some r:=H
  unfold z39 at H
  refine ze (zb hN Z (qd Z (za (yo qm Z) (za (wa Z Z) (zg _ Z (fun h9 => ?_) (fun h9 => ?_))))))
  ·refine tE h9 H fun H=>zb hN Z (qe Z (zh ?_))
   cases H
   exact ⟨U,⟨.inl Z,U⟩,Z⟩
  ·refine fE h9 H fun H=>zk (zb hN Z (qd Z (bE H fun x10 h11 H=>za (qu qv (fun _=>Z) Z Z h11) (za (yj tyS9 Z (yy h11) Z) (qe Z (zh ?_))))))
   cases H
   exact ⟨U,⟨.inl Z,U⟩,Z⟩
theorem w3h (s1:qi) (r:(Int×Int×qi)) (H:Qc s1=some r):Imp Tryz.prog 258 225 (Yn s1) [] (zw [vint r.1,vint r.2.1]) (Yn r.2.2):=by
 refine jo (us:=[vint r.1,vint r.2.1]) (cs':=(Yn r.2.2)) (by kernel_rfl) Tryz.func258 Z Z Z Z fun X bl hN => ?_
 unfold Qc at H
 refine zb hN Z (qe Z (qe Z (zb hN Z (za (zf (.ptr _ _) Z) (bE H fun r2 h3 H=>zi (yk (y4p s1 [116,105,109,101] true r2 h3) Z ⟨.inl Z,.inl Z,U⟩ Z) Z (qe Z (ze (zb hN Z (za (zf (.ptr _ _) Z) (za (wu Z) (za (zn Wc Z) (zu (zp tyS4 Z Z) Z (zg _ Z (fun h4 => ?_) (fun h4 => ?_))))))))))))))
 ·refine tE h4 H fun H=>zb hN Z (qe Z (qe Z (zh ?_)))
  cases H
  exact ⟨U,⟨.inl Z,.inl Z,U⟩,Z⟩
 ·refine fE h4 H fun H=>zk (yf (ι:=Unit) (fun i=>[(0,.ptr 0 0)]) (fun i=>[(0,.box (some bl) 225 [.dat (vlst (List.map zo r2.2.lines_)),.dat (zj r2.2.ended_),.dat (vint r2.2.at_),.dat (zj r2.2.bad_)])]) (fun i=>z03 r2=some r) (fun i=>Z) ?_ ?_)
  ·skip
   refine zb hN Z (qd Z (za (yo qm Z) (za (ql Z Z) (zg _ Z (fun h5 => ?_) (fun h5 => ?_)))))
   ·refine tE h5 H fun H=>zb hN Z (qd Z (bE H fun x6 h7 H=>za (qu qv (fun _=>Z) Z Z h7) (za (yj tyS9 Z (yy h7) Z) (bE H fun r8 h9 H=>za (zl (y8p x6 15 r8 h9) ⟨.inl Z,.inl Z,U⟩) (qd Z (za (ym Z Z) (za (ym Z Z) (qe Z (qe Z (zb hN Z (qd Z (bE H fun x10 h11 H=>za (qu qv (fun _=>Z) Z Z h11) (za (yj tyS9 Z (yy h11) Z) (bE H fun r12 h13 H=>za (zl (y8p x10 15 r12 h13) ⟨.inl Z,.inl Z,U⟩) (qd Z (za (ym Z Z) (za (ym Z Z) (qe Z ?_))))))))))))))))))
    refine qe Z (zb hN Z (qd Z (qd Z (qj Z Z (fun hc=>zf (.dat _) Z) (za (vi Z (fun hb=>(cnd (c:=r8.2) hb)) Z) (zg _ Z (fun h14 => ?_) (fun h14 => ?_)))))))
    ·refine tE h14 H fun H=>zb hN Z (qd Z (qd Z (qe Z (qe Z (zh ?_)))))
     cases H
     exact ⟨U,⟨.inl Z,.inl Z,U⟩,Z⟩
    ·exact fE h14 H fun H=>zk ⟨(),H,⟨Z,U⟩,⟨Z,U⟩⟩
   ·exact fE h5 H fun H=>zk ⟨(),H,⟨Z,U⟩,⟨Z,U⟩⟩
  ·rintro ⟨⟩ H
   replace H:z03 r2=some r:=H
   unfold z03 at H
   refine zb hN Z (za (zf (.ptr _ _) Z) (za (wu Z) (za (zn Wc Z) (zi (wn tyS4 Z Z Z Z) Z (zb hN Z (za (zf (.ptr _ _) Z) (za (wu Z) (za (zn Zb Z) (zu (zp tyS3 Z Z) Z (za (yw _ Z Z (.inr (.inl ⟨Z,Z⟩))) (za (wu Z) (za (zn Zb Z) (zi (wn tyS3 Z Z Z Z) Z (zb hN Z (qe Z (qe Z (zh ?_)))))))))))))))))
   cases H
   exact ⟨U,⟨.inl Z,.inl Z,U⟩,Z⟩
theorem w4d (l1:(List Bs)) (r:(Int)) (H:z9g l1=some r):Fn Tryz.prog 134 [vlst (List.map zo l1)] (zw [vint r]):=by
 refine ⟨by kernel_rfl,yd (us:=[vint r]) Tryz.func134 Z Z Z Z fun X hN => ?_⟩
 unfold z9g at H
 refine zb hN Z (qe Z (ze (zb hN Z (qd Z (za (yo qm Z) (qd Z (zx (gE H fun h4 H=>wi (fun (k2:Nat) (s:Unit)=>[(0,.dat (vlst (List.map zo l1))),(5,.dat (vlst (List.map zo l1))),(6,.dat (vint (l1.length:Int))),(7,.dat (vint (k2:Int)))]) (fun (k2:Nat) (s:Unit)=>[]) () H ⟨Z,Z,Z,Z,U⟩ U (fun _ _=>Z) ?_ ?_))))))))
 ·rintro ⟨⟩ H
  replace H:y8d=some r:=H
  unfold y8d at H
  refine zb hN Z (za (zy Z Z) (ze (zg _ Z (fun h=>(lt_t h).elim) (fun h => ?_))))
  refine qg (zb hN Z (qe Z (zh ?_)))
  cases H
  exact ⟨U,.inl Z,U⟩
 ·rintro k2 x5 ⟨⟩ q3 h6 h7 H hq3
  replace H:y4m l1 k2 x5=some q3:=H
  unfold y4m at H
  refine zb hN Z (za (zy Z Z) (ze (zg _ Z (fun h => ?_) (fun h=>(lt_f h6 h).elim))))
  refine zk (ze (zx (zb hN Z (qd Z (za (qu qv (fun _=>Z) Z Z h7) (za (yj tyS9 Z (yy h7) Z) (qe Z (qe Z (ze (zb hN Z (qd Z (bE H fun r8 h9 H=>za (zl (xu x5 r8 h9) ⟨.inl Z,U⟩) (za (yt Z) (zg _ Z (fun h10 => ?_) (fun h10 => ?_)))))))))))))))
  ·refine tE h10 H fun H=>zb hN Z (qe Z (zh ?_))
   replace H:=retl H hq3
   cases H
   exact ⟨U,.inl Z,U⟩
  ·refine fE h10 H fun H=>zk (yf (ι:=Bool) (fun i=>[(0,.dat (vlst (List.map zo l1))),(5,.dat (vlst (List.map zo l1))),(6,.dat (vint (l1.length:Int))),(7,.dat (vint (k2:Int))),(25,.dat (zj i))]) (fun i=>[]) (fun i=>z2e i=some q3) (fun i=>Z) ?_ ?_)
   ·skip
    refine zq hN Z (qd Z (za (qh Z Z) (qd Z (yh (j:=2) Z Z (fun h11 => ?_) (fun h11 => ?_) Z))))
    ·exact u1 h11 H fun h12 H=>zd Z Z h11 (zf (.dat _) Z) (zd Z Z h11 (zf (.dat _) Z) (zd Z Z h11 (zf (.dat _) Z) (zd Z Z h11 (Wn Z Z (by omega)) (bE H fun x13 h14 H=>zd Z Z h11 (jm qv (fun _=>Z) Z Z h14) (zd Z Z h11 (yj tyS9 Z (yy (vu h14).2) Z) (zd Z Z h11 (z79 Z Z) (za (zz Z (bTT h12) Z) ⟨(Op.bytesLess x5 x13 || x5 == x13),H,⟨Z,Z,Z,Z,Z,U⟩,U⟩)))))))
    ·exact u2 h11 H fun h15 H=>zc Z Z h11 (zc Z Z h11 (zc Z Z h11 (zc Z Z h11 (zc Z Z h11 (zc Z Z h11 (zc Z Z h11 (za (yb Z (bFF h15) Z) ⟨false,H,⟨Z,Z,Z,Z,Z,U⟩,U⟩)))))))
   ·rintro v16 H
    replace H:z2e v16=some q3:=H
    unfold z2e at H
    refine zg _ Z (fun h17 => ?_) (fun h17 => ?_)
    ·refine tE h17 H fun H=>zb hN Z (qe Z (zh ?_))
     replace H:=retl H hq3
     cases H
     exact ⟨U,.inl Z,U⟩
    ·exact fE h17 H fun H=>zk (zq hN Z (za (qw Z Z (by omega)) (qd Z ⟨_,qk H,⟨Z,Z,Z,Z,U⟩,U⟩)))
theorem x3n (l r:List Bs) (H:z15 l=some r):FnG Tryz.prog 189 [.dat (vlst (List.map zo l))] [] (.row 900 r.length) [(900,.row 9 1 (List.map zo r))]:=by
 obtain ⟨hl,rfl⟩:=w77 H
 refine z66 (by kernel_rfl) Tryz.func189 Z Z Z Z fun X A hN => ?_
 refine w8s 0 Z (fun h0 => ?_) ?_
 ·obtain rfl:=List.map_eq_nil_iff.1 h0
  refine zb hN Z (qe Z (ze (zb hN Z (qd Z (za (x9l qm Z) (zg _ Z (fun h => ?_) (fun h=>by cases h)))))))
  exact zb hN Z (qe Z (uh 2 900 9 1 Z Z Z (zh ⟨U,[(2,.row 900 0)],⟨Z,U⟩,⟨Z,U⟩,Z,.inr (.inl ⟨2,Z,Z⟩)⟩)))
 ·refine zb hN Z (qe Z (ze (zb hN Z (qd Z (za (x9m qm Z) (zg _ Z (fun h=>by cases h) (fun h => ?_)))))))
  refine zk (ze (w8q 0 (u':=vlst (List.map zo l)) Z x7i (zq hN Z (zi (x9e 900 qn) Z (qd Z (zi (y6s (C:=zo) (xs:=[]) qn (fun _=>Z) Z Z Z (by simpa using hl) Z) Z ?_))))))
  exact za (wm (.row _ _) Z) (zh ⟨U,[(2,.row 900 l.length)],⟨Z,U⟩,⟨Z,U⟩,Z,.inr (.inl ⟨2,Z,Z⟩)⟩)
theorem w4e (l1:(List Bs)) (r:((List Bs))) (H:z9h l1=some r):Fn Tryz.prog 187 [vlst (List.map zo l1)] (zw [vlst (List.map zo r)]):=by
 refine ⟨by kernel_rfl,yd (us:=[vlst (List.map zo r)]) Tryz.func187 Z Z Z Z fun X hN => ?_⟩
 unfold z9h at H
 refine zb hN Z (qe Z (zb hN Z (qd Z (bE H fun r2 h3 H=>Zf (rn [(900,1)]) [] [(900,_)] (x3n l1 r2 h3) ⟨Z,U⟩ ⟨.inl (.inl Z),U⟩ U Z (za (wm (.row _ _) Z) (zb hN Z (za (zf (.row _ _) Z) (bE H fun r4 h5 H=>Zf (rn [(0,1)]) [(0,_,_,some _)] [] (y8c r2 r4 h5) ⟨Z,U⟩ ⟨.inl (.inl Z),U⟩ ⟨⟨⟨Z,Z,Z⟩,by simp [z1h,Yx h5]⟩,U⟩ Z ?_))))))))
 refine zb hN Z (za (zf (.row _ _) Z) (bE H fun r6 h7 H=>Zf (rn [(0,1),(900,2)]) [(0,_,_,none)] [(900,_)] (x3m r4 r6 h7) ⟨Z,Z,U⟩ ⟨.inl (.inl (congrArg (Slot.row 1) (Yx h5).symm)),U⟩ ⟨⟨⟨Z,Z,Z⟩,U⟩,U⟩ Z (za (wm (.row _ _) Z) (zh ?_))))
 cases H
 exact ⟨U,Yt Z Z,U⟩
theorem w2u (s1:(List Bs)) (p1:Bs→Option (Bool)) (fv1:Nat) (us1:List V) (hp1:∀ a0 r,p1 a0=some r→Fn Tryz.prog fv1 ([vstr a0]++us1) (zw [zj r])) (r:((List Bs))) (H:y35 s1 p1=some r):FnG Tryz.prog 188 [.row 0 s1.length,.dat (vfn fv1 us1)] [(0,.row 9 1 (List.map zo s1))] (.row 900 r.length) [(900,.row 9 1 (List.map zo r))]:=by
 refine z66 (by kernel_rfl) Tryz.func188 Z Z Z Z fun X A hN => ?_
 unfold y35 at H
 refine zb hN Z (qe Z (zb hN Z (za (zf (.row _ _) Z) (qd Z (bE H fun r2 h3 H=>zu (x9r (id:=0) (es:=List.map zo s1) (x4h s1 p1 fv1 us1 hp1 r2 h3) ⟨.inr ⟨(congrArg (Slot.row 0) (by rw [List.length_map]):Slot.row 0 s1.length=_),Z⟩,.inl (.inl (.inl Z)),U⟩ (fun _ _ _ _ h=>h)) Z ?_)))))
 refine qe Z (ze (zb hN Z (qd Z (za (ql Z Z) (zg _ Z (fun h4 => ?_) (fun h4 => ?_))))))
 ·refine tE h4 H fun H=>zb hN Z (za (zf (.row _ _) Z) (za (wm (.row _ _) Z) (x6w 4 0 900 Z Z (by rw [List.length_map]) Z ?_)))
  refine zh ?_
  cases H
  exact ⟨U,[(4,.row 900 _)],⟨Z,U⟩,⟨Z,U⟩,Z,.inr (.inl ⟨4,Z,Z⟩)⟩
 ·refine fE h4 H fun H=>zk (yf (ι:=Int×(List Bs)) (fun i=>[(0,.row 0 i.2.length),(5,.dat (vint i.1))]) (fun i=>[(0,.row 9 1 (List.map zo i.2))]) (fun i=>y25 i.1 i.2=some r) (fun i=>Z) ?_ ?_)
  ·skip
   refine zb hN Z (qd Z (za (yw _ Z Z (.inl ⟨Z,Z⟩)) (qe Z (zx (Zq (fun (s:Int×Int×(List Bs))=>[(0,.row 0 s.2.2.length),(1,.dat (vfn fv1 us1)),(5,.dat (vint s.1)),(6,.dat (vint s.2.1))]) (fun (s:Int×Int×(List Bs))=>[(0,.row 9 1 (List.map zo s.2.2))]) (r2,wr (r2+1),s1) H ⟨Z,Z,Z,Z,U⟩ ⟨Z,U⟩ (fun _=>Z) ?_)))))
   rintro ⟨i5,j6,l7⟩ q8 H hq8
   replace H:y7f p1 i5 j6 l7=some q8:=H
   unfold y7f at H
   refine ze (zb hN Z (qd Z (za (zf (.row _ _) Z) (zu (y2r qm Z Z) Z (za (zy Z Z) (zg _ Z (fun h9 => ?_) (fun h9 => ?_)))))))
   ·refine tE h9 H fun H=>zk (yf (ι:=Int×(List Bs)) (fun i=>[(0,.row 0 i.2.length),(1,.dat (vfn fv1 us1)),(5,.dat (vint i.1)),(6,.dat (vint j6))]) (fun i=>[(0,.row 9 1 (List.map zo i.2))]) (fun i=>z8e j6 i.1 i.2=some q8) (fun i=>Z) ?_ ?_)
    ·skip
     refine zx (zb hN Z (za (zf (.row _ _) Z) (qd Z (bE H fun x10 h11 H=>zu (y6r qv Z Z Z h11) Z (zu (x02 tyS9 Z Z (vu h11).2 Z) Z (qe Z (zb hN Z (qd Z (qd Z (bE H fun r12 h13 H=>za (y20 (hp1 x10 r12 h13) Z ⟨.inl Z,U⟩) (za (yt Z) (zg _ Z (fun h14 => ?_) (fun h14 => ?_)))))))))))))
     ·exact tE h14 H fun H=>zb hN Z (za (zf (.row _ _) Z) (qd Z (qd Z (bE H fun x15 h16 H=>zu (y6r qv Z Z Z h16) Z (zi (z7y x10 tyS9 Z Z Z Z (vu h16).2 Z Z) Z (zq hN Z (qd Z (za (yw _ Z Z (.inl ⟨Z,Z⟩)) (qe Z ⟨(wr (i5+1),(l7.set i5.toNat x10)),H,⟨congrArg (Slot.row 0) (by simp),Z,Z,Z,U⟩,⟨Z,U⟩⟩)))))))))
     ·exact fE h14 H fun H=>zk ⟨(i5,l7),H,⟨Z,Z,Z,Z,U⟩,⟨Z,U⟩⟩
    ·rintro ⟨i17,s18⟩ H
     replace H:z8e j6 i17 s18=some q8:=H
     unfold z8e at H
     exact zq hN Z (qd Z (za (yw _ Z Z (.inl ⟨Z,Z⟩)) (qe Z ⟨_,qk H,⟨Z,Z,Z,Z,U⟩,⟨Z,U⟩⟩)))
   ·refine fE h9 H fun H=>qg ?_
    replace H:=outl H hq8
    exact ⟨(i5,l7),H,⟨Z,Z,U⟩,⟨Z,U⟩⟩
  ·rintro ⟨i19,s20⟩ H
   replace H:y25 i19 s20=some r:=H
   unfold y25 at H
   refine zb hN Z (za (zf (.row _ _) Z) (qd Z (gE H fun h21 H=>zu (x8b (C:=zo) qv Z Z Z h21) Z (zi (x8g (C:=zo) [] qm tyZ9 Z Z Z Z Z h21) Z (zb hN Z (za (zf (.row _ _) Z) (qd Z (gE H fun h22 H=>x99 (x8f (C:=zo) 1 qv Z (w76 [] h21) Z h22) Z Z (za (wm (.row _ _) Z) (x6w 4 1 900 Z Z (by rw [List.length_map]; exact (x56 h22)) Z ?_))))))))))
   refine zh ?_
   cases H
   exact ⟨U,[(4,.row 900 _)],⟨Z,U⟩,⟨Z,U⟩,Z,.inr (.inl ⟨4,Z,congrArg (Slot.row 900) (by first | exact x56 (by assumption) | (simp <;> omega))⟩)⟩
theorem w3g (a1:Bs) (b2:Bs) (r:(Bool)) (H:z8x a1 b2=some r):Fn Tryz.prog 192 [vstr a1,vstr b2] (zw [zj r]):=by
 refine ⟨by kernel_rfl,yd (us:=[zj r]) Tryz.func192 Z Z Z Z fun X hN => ?_⟩
 unfold z8x at H
 refine zb hN Z (qe Z (ze (zb hN Z (qd Z (qd Z (za (wy Z Z) (zg _ Z (fun h3 => ?_) (fun h3 => ?_))))))))
 ·refine tE h3 H fun H=>zb hN Z (qe Z (zh ?_))
  cases H
  exact ⟨U,.inl Z,U⟩
 ·refine fE h3 H fun H=>zk (zb hN Z (qd Z (bE H fun r4 h5 H=>za (zl (x35 a1 [42] r4 h5) ⟨.inl Z,.inl Z,U⟩) (qd Z (za (ym Z Z) (za (ym Z Z) (qe Z (qe Z (yf (ι:=Bool) (fun i=>[(4,.dat (zj i))]) (fun i=>[]) (fun i=>z38 i=some r) (fun i=>Z) ?_ ?_)))))))))
  ·skip
   refine zq hN Z (qd Z (qd Z (yh (j:=1) Z Z (fun h6 => ?_) (fun h6 => ?_) Z)))
   ·exact u1 h6 H fun h7 H=>zd Z Z h6 (zf (.dat _) Z) (zd Z Z h6 (zf (.dat _) Z) (bE H fun r8 h9 H=>zd Z Z h6 (zl (y8j b2 r4.1 r8 h9) ⟨.inl Z,.inl Z,U⟩) (za (zz Z (bTT h7) Z) (qe Z ⟨r8,H,⟨Z,U⟩,U⟩))))
   ·exact u2 h6 H fun h10 H=>zc Z Z h6 (zc Z Z h6 (zc Z Z h6 (za (yb Z (bFF h10) Z) (qe Z ⟨false,H,⟨Z,U⟩,U⟩))))
  ·rintro v11 H
   replace H:z38 v11=some r:=H
   unfold z38 at H
   refine zh ?_
   cases H
   exact ⟨U,.inl Z,U⟩
theorem w3b (h1:Bs) (c2:Bs) (r:(Bool)) (H:z8s h1 c2=some r):Fn Tryz.prog 191 [vstr h1,wv [[vstr c2]] 0 0] (zw [zj r]):=by
 refine ⟨by kernel_rfl,yd (us:=[zj r]) Tryz.func191 Z Z Z Z fun X hN => ?_⟩
 unfold z8s at H
 refine zb hN Z (qe Z (yf (ι:=Bool) (fun i=>[(3,.dat (zj i))]) (fun i=>[]) (fun i=>z35 i=some r) (fun i=>Z) ?_ ?_))
 ·skip
  refine zq hN Z (qd Z (za (yj tyS9 Z Z Z) (za (jj Z Z) (qd Z (yh (j:=3) Z Z (fun h3 => ?_) (fun h3 => ?_) Z)))))
  ·exact u1 h3 H fun h4 H=>zd Z Z h3 (zf (.dat _) Z) (zd Z Z h3 (yj tyS9 Z Z Z) (bE H fun r5 h6 H=>zd Z Z h3 (zl (w3g h1 c2 r5 h6) ⟨.inl Z,.inl Z,U⟩) (za (zz Z (bTT h4) Z) (qe Z ⟨r5,H,⟨Z,U⟩,U⟩))))
  ·exact u2 h3 H fun h7 H=>zc Z Z h3 (zc Z Z h3 (zc Z Z h3 (za (yb Z (bFF h7) Z) (qe Z ⟨false,H,⟨Z,U⟩,U⟩))))
 ·rintro v8 H
  replace H:z35 v8=some r:=H
  unfold z35 at H
  refine zh ?_
  cases H
  exact ⟨U,.inl Z,U⟩
theorem w3c (s1:Bs) (c2:(List Bs)) (r:(Bool)) (H:z8t s1 c2=some r):Fn Tryz.prog 190 [vstr s1,wv [[vlst (List.map zo c2)]] 0 0] (zw [zj r]):=by
 refine ⟨by kernel_rfl,yd (us:=[zj r]) Tryz.func190 Z Z Z Z fun X hN => ?_⟩
 unfold z8t at H
 refine zb hN Z (zi (z4g 1 Z Z) Z (qe Z (ze (xg 1 [vstr s1] Z Z (zq hN Z (za (yj qq Z Z Z) (za (Zd (us:=[_]) ⟨Z,U⟩) (bE H fun r3 h4 H=>za (zl (y8n c2 (fun (a0:Bs)=>z8s a0 s1) 191 [wv [[vstr s1]] 0 0] (fun a0 r h=>w3b a0 s1 r h) r3 h4) ⟨.inl Z,.inl Z,U⟩) (qe Z (zh ?_))))))))))
 cases H
 exact ⟨U,.inl Z,U⟩
theorem x3w (l1:(List Bs)) (r:((List Bs))) (H:z4s l1=some r):Fn Tryz.prog 135 [vlst (List.map zo l1)] (zw [vlst (List.map zo r)]):=by
 refine ⟨by kernel_rfl,yd (us:=[vlst (List.map zo r)]) Tryz.func135 Z Z Z Z fun X hN => ?_⟩
 unfold z4s at H
 refine zb hN Z (zi (z4g 1 Z Z) Z (qe Z (zb hN Z (zu (zp qq Z Z) Z (bE H fun r2 h3 H=>za (zl (w4e l1 r2 h3) ⟨.inl Z,U⟩) (zi (wn qq Z Z Z Z) Z (ze (xg 1 [vlst (List.map zo r2)] Z Z (zq hN Z (za (yj qq Z Z Z) (bE H fun r4 h5 H=>Zf (rn [(900,2)]) [] [(900,_)] (x3n r2 r4 h5) ⟨Z,U⟩ ⟨.inl (.inl Z),U⟩ U Z (za (Zd (us:=[_]) ⟨Z,U⟩) (bE H fun r6 h7 H=>Zf (rn [(0,2),(900,3)]) [(0,_,_,none)] [(900,_)] (w2u r4 (fun (a0:Bs)=>z8t a0 r2) 190 [wv [[vlst (List.map zo r2)]] 0 0] (fun a0 r h=>w3c a0 r2 r h) r6 h7) ⟨Z,Z,U⟩ ⟨.inl (.inl Z),.inl (.inl Z),U⟩ ⟨⟨⟨Z,Z,Z⟩,U⟩,U⟩ Z (za (wm (.row _ _) Z) (zh ?_)))))))))))))))
 cases H
 exact ⟨U,Yt Z Z,U⟩
theorem w3t (v1:zm) (r:(Int)) (H:z4y v1=some r):Fn Tryz.prog 68 [vagg (yq v1)] (zw [vint r]):=by
 refine ⟨by kernel_rfl,yd (us:=[vint r]) Tryz.func68 Z Z Z Z fun X hN => ?_⟩
 unfold z4y at H
 refine zb hN Z (zi (jf 1 Z) Z (qe Z (ze (yf (ι:=Bool) (fun i=>[(1,.ptr 1 0),(31,.dat (zj i))]) (fun i=>[(1,.box none 39 [.dat (vstr v1.Id),.dat (vstr v1.Subject),.dat (vstr v1.Issuer),.dat (vstr v1.Parent),.dat (vlst (List.map zo v1.Audience)),.dat (vlst (List.map zo v1.Scopes)),.dat (vint v1.From),.dat (vint v1.To)])]) (fun i=>Ya v1 i=some r) (fun i=>Z) ?_ ?_))))
 ·skip
  refine zq hN Z (za (zn z0z Z) (zu (zp tyS9 Z Z) Z (bE H fun r2 h3 H=>za (zl (xu v1.Id r2 h3) ⟨.inl Z,U⟩) (za (yt Z) (qd Z (yh (j:=4) Z Z (fun h4 => ?_) (fun h4 => ?_) Z))))))
  ·refine u3 h4 H fun h5 H=>zd Z Z h4 (zn z0y Z) (vj Z Z h4 (zp tyS9 Z Z) Z (bE H fun r6 h7 H=>zd Z Z h4 (zl (xu v1.Subject r6 h7) ⟨.inl Z,U⟩) (zd Z Z h4 (yt Z) (za (yb Z (bFF h5) Z) (qd Z (yh (j:=10) Z Z (fun h8 => ?_) (fun h8 => ?_) Z))))))
   ·refine u3 h8 H fun h9 H=>zd Z Z h8 (zn z0x Z) (vj Z Z h8 (zp tyS9 Z Z) Z (bE H fun r10 h11 H=>zd Z Z h8 (zl (xu v1.Issuer r10 h11) ⟨.inl Z,U⟩) (zd Z Z h8 (yt Z) (za (yb Z (bFF h9) Z) (qd Z (yh (j:=16) Z Z (fun h12 => ?_) (fun h12 => ?_) Z))))))
    ·refine u3 h12 H fun h13 H=>zd Z Z h12 (zn Zv Z) (vj Z Z h12 (zp tyS9 Z Z) Z (zd Z Z h12 (jj Z Z) (zd Z Z h12 (zf (.dat _) Z) (yh (j:=20) Z Z (fun h14 => ?_) (fun h14 => ?_) Z))))
     ·exact u1 h14 H fun h15 H=>zd Z Z h14 (zn Zv Z) (vj Z Z h14 (zp tyS9 Z Z) Z (bE H fun r16 h17 H=>zd Z Z h14 (zl (xu v1.Parent r16 h17) ⟨.inl Z,U⟩) (zd Z Z h14 (yt Z) (zd Z Z h12 (zz Z (bTT h15) Z) (za (yb Z (bFF h13) Z) ⟨!r16,H,⟨Z,Z,U⟩,⟨Z,U⟩⟩)))))
     ·exact u2 h14 H fun h18 H=>zc Z Z h14 (zc Z Z h14 (zc Z Z h14 (zc Z Z h14 (zd Z Z h12 (yb Z (bFF h18) Z) (za (yb Z (bFF h13) Z) ⟨false,H,⟨Z,Z,U⟩,⟨Z,U⟩⟩)))))
    ·exact u4 h12 H fun h19 H=>zc Z Z h12 (zc Z Z h12 (zc Z Z h12 (zc Z Z h12 (yg Z Z (yg Z Z (yg Z Z (yg Z Z (zc Z Z h12 (za (zz Z (bTT h19) Z) ⟨true,H,⟨Z,Z,U⟩,⟨Z,U⟩⟩)))))))))
   ·exact u4 h8 H fun h20 H=>zc Z Z h8 (zc Z Z h8 (zc Z Z h8 (zc Z Z h8 (za (zz Z (bTT h20) Z) (qd Z (zc Z Z Z (zc Z Z Z (zc Z Z Z (zc Z Z Z (yg Z Z (yg Z Z (yg Z Z (yg Z Z (zc Z Z Z (za (zz Z Z Z) ⟨true,H,⟨Z,Z,U⟩,⟨Z,U⟩⟩)))))))))))))))
  ·exact u4 h4 H fun h21 H=>zc Z Z h4 (zc Z Z h4 (zc Z Z h4 (zc Z Z h4 (za (zz Z (bTT h21) Z) (qd Z (zc Z Z Z (zc Z Z Z (zc Z Z Z (zc Z Z Z (za (zz Z Z Z) (qd Z (zc Z Z Z (zc Z Z Z (zc Z Z Z (zc Z Z Z (yg Z Z (yg Z Z (yg Z Z (yg Z Z (zc Z Z Z (za (zz Z Z Z) ⟨true,H,⟨Z,Z,U⟩,⟨Z,U⟩⟩)))))))))))))))))))))
 ·rintro v22 H
  replace H:Ya v1 v22=some r:=H
  unfold Ya at H
  refine zg _ Z (fun h23 => ?_) (fun h23 => ?_)
  ·refine tE h23 H fun H=>zb hN Z (qe Z (zh ?_))
   cases H
   exact ⟨U,.inl Z,U⟩
  ·refine fE h23 H fun H=>zk (ze (zb hN Z (za (zn uz Z) (zu (zp qq Z Z) Z (za (yo qm Z) (za (qh Z Z) (zg _ Z (fun h24 => ?_) (fun h24 => ?_))))))))
   ·refine tE h24 H fun H=>zb hN Z (qe Z (zh ?_))
    cases H
    exact ⟨U,.inl Z,U⟩
   ·refine fE h24 H fun H=>zk (ze (zb hN Z (za (zn uz Z) (zu (zp qq Z Z) Z (bE H fun r25 h26 H=>za (zl (w4d v1.Audience r25 h26) ⟨.inl Z,U⟩) (qe Z (zb hN Z (qd Z (za (wa Z Z) (zg _ Z (fun h27 => ?_) (fun h27 => ?_)))))))))))
    ·refine tE h27 H fun H=>zb hN Z (qd Z (qe Z (zh ?_)))
     cases H
     exact ⟨U,.inl Z,U⟩
    ·refine fE h27 H fun H=>zk (ze (zb hN Z (za (zn xo Z) (zu (zp qq Z Z) Z (bE H fun r28 h29 H=>za (zl (x3z v1.Scopes r28 h29) ⟨.inl Z,U⟩) (qe Z (zb hN Z (qd Z (za (wa Z Z) (zg _ Z (fun h30 => ?_) (fun h30 => ?_)))))))))))
     ·refine tE h30 H fun H=>zb hN Z (qd Z (qe Z (zh ?_)))
      cases H
      exact ⟨U,.inl Z,U⟩
     ·refine fE h30 H fun H=>zk (ze (ze (wx mixed hN Z Z (za (zn xo Z) (zu (zp qq Z Z) Z (za (zn xo Z) (zu (zp qq Z Z) Z (bE H fun r31 h32 H=>za (zl (x3w v1.Scopes r31 h32) ⟨.inl Z,U⟩) (bE H fun r33 h34 H=>za (zl (y8m v1.Scopes r31 r33 h34) ⟨.inl Z,.inl Z,U⟩) (za (yt Z) ⟨Z,?_⟩))))))))))
      refine zg _ Z (fun h35 => ?_) (fun h35 => ?_)
      ·refine tE h35 H fun H=>zb hN Z (qe Z (zh ?_))
       cases H
       exact ⟨U,.inl Z,U⟩
      ·refine fE h35 H fun H=>zk (ze (zb hN Z (za (zn Zu Z) (zu (zp tyS3 Z Z) Z (za (zy Z Z) (qd Z (yi Z Z (fun hc=>zn Zu Z) (jk Z Z (fun hc=>zp tyS3 (cnd (c:=(!(decide (v1.From < 0)))) hc) Z) Z vv (yi Z Z (fun hc=>zn Za Z) (jk Z Z (fun hc=>zp tyS3 (cnd (c:=(!(decide (v1.From < 0)))) hc) Z) Z vv (yi Z Z (fun hc=>vy (cnd (c:=(!(decide (v1.From < 0)))) hc) (cnd (c:=(!(decide (v1.From < 0)))) hc)) (za (wz Z Z (fun hb=>(cnd (c:=(!(decide (v1.From < 0)))) (notI hb)))) (qd Z (yi Z Z (fun hc=>zn Za Z) (jk Z Z (fun hc=>zp tyS3 (cnd (c:=(!((decide (v1.From < 0)) || (decide (v1.To≤v1.From))))) hc) Z) Z vv (yi Z Z (fun hc=>qh (cnd (c:=(!((decide (v1.From < 0)) || (decide (v1.To≤v1.From))))) hc) Z) (za (wz Z Z (fun hb=>(cnd (c:=(!((decide (v1.From < 0)) || (decide (v1.To≤v1.From))))) (notI hb)))) (zg _ Z (fun h36 => ?_) (fun h36 => ?_)))))))))))))))))))
       ·refine tE h36 H fun H=>zb hN Z (qe Z (zh ?_))
        cases H
        exact ⟨U,.inl Z,U⟩
       ·refine fE h36 H fun H=>zk (zb hN Z (qe Z (zh ?_)))
        cases H
        exact ⟨U,.inl Z,U⟩
theorem w3m (v1:Bs) (r:(zm×Int×Int)) (H:z81 v1=some r):Fn Tryz.prog 183 [vstr v1] (zw [vagg (yq r.1),vint r.2.1,vint r.2.2]):=by
 refine ⟨by kernel_rfl,yd (us:=[vagg (yq r.1),vint r.2.1,vint r.2.2]) Tryz.func183 Z Z Z Z fun X hN => ?_⟩
 unfold z81 at H
 refine zb hN Z (zi (we 1 wl Z) Z (qe Z (qe Z (ze (zb hN Z (qd Z (za (qp tyU9 Z) (za (qh Z Z) (zg _ Z (fun h2 => ?_) (fun h2 => ?_))))))))))
 ·refine tE h2 H fun H=>zb hN Z (za (wd (u':=vagg (yq (zm.mk [] [] [] [] [] [] 0 0))) (wh (by exact ⟨zr,zr,zr,zr,yu,yu,zr,zr,U⟩)) (qt [] wl je Z U)) ?_)
  refine zi (yp yn Z Z Z Z) Z (qe Z (qe Z (zh ?_)))
  cases H
  exact ⟨U,.inl ⟨_,_,_,yq (zm.mk [] [] [] [] [] [] 0 0),Z,Z,Z,Z,yn⟩,.inl Z,.inl Z,U⟩
 ·refine fE h2 H fun H=>zk (zb hN Z (za (wd (u':=vagg (Yn (qi.mk [] false 0 false))) (wh (by exact ⟨yu,zr,zr,zr,U⟩)) (qt [] x7u x7y Z U)) ?_))
  refine zi (jf 2 Z) Z (za (wm (.ptr _ _) Z) (zb hN Z (za (zf (.ptr _ _) Z) (za (zf (.ptr _ _) Z) (qd Z (bE H fun r3 h4 H=>za (zl (w4f v1 r3 h4) ⟨.inl Z,U⟩) (qd Z (za (ym Z Z) (za (ym Z Z) (za (wu Z) (za (zn z7q Z) (zi (wn qq Z Z Z Z) Z (za (wu Z) (za (zn x0r Z) (zi (wn tyS4 Z Z Z Z) Z (zb hN Z (za (wd (u':=vagg (yq (zm.mk [] [] [] [] [] [] 0 0))) (wh (by exact ⟨zr,zr,zr,zr,yu,yu,zr,zr,U⟩)) (qt [] wl je Z U)) ?_)))))))))))))))))
  refine zi (we 3 wl Z) Z (zi (yp yn Z Z Z Z) Z (zb hN Z (za (zf (.ptr _ _) Z) (bE H fun r5 h6 H=>zi (yk (y4o (qi.mk r3.1 r3.2 0 false) [105,100] true r5 h6) Z ⟨.inl Z,.inl Z,U⟩ Z) Z (za (zn z0z Z) (zi (wn tyS9 Z Z Z Z) Z (zb hN Z (za (zf (.ptr _ _) Z) (bE H fun r7 h8 H=>zi (yk (y4o r5.2 [115,117,98,106,101,99,116] true r7 h8) Z ⟨.inl Z,.inl Z,U⟩ Z) Z (za (zn z0y Z) (zi (wn tyS9 Z Z Z Z) Z (zb hN Z (za (zf (.ptr _ _) Z) (bE H fun r9 h10 H=>zi (yk (y4o r7.2 [105,115,115,117,101,114] true r9 h10) Z ⟨.inl Z,.inl Z,U⟩ Z) Z (za (zn z0x Z) (zi (wn tyS9 Z Z Z Z) Z (zb hN Z (za (zf (.ptr _ _) Z) (bE H fun r11 h12 H=>zi (yk (y4o r9.2 [112,97,114,101,110,116] false r11 h12) Z ⟨.inl Z,.inl Z,U⟩ Z) Z ?_)))))))))))))))))))
  refine za (zn Zv Z) (zi (wn tyS9 Z Z Z Z) Z (zb hN Z (za (zf (.ptr _ _) Z) (bE H fun r13 h14 H=>zi (yk (y4p r11.2 [102,111,114] false r13 h14) Z ⟨.inl Z,.inl Z,U⟩ Z) Z (za (zn uz Z) (zi (wn qq Z Z Z Z) Z (zb hN Z (za (zf (.ptr _ _) Z) (bE H fun r15 h16 H=>zi (yk (y4p r13.2 [109,97,121] false r15 h16) Z ⟨.inl Z,.inl Z,U⟩ Z) Z (za (zn xo Z) (zi (wn qq Z Z Z Z) Z (zb hN Z (za (zf (.ptr _ _) Z) (bE H fun r17 h18 H=>zi (yk (w3h r15.2 r17 h18) Z U Z) Z (qd Z (za (ym Z Z) (za (ym Z Z) (za (zn Zu Z) (zi (wn tyS3 Z Z Z Z) Z (za (zn Za Z) ?_))))))))))))))))))))
  refine zi (wn tyS3 Z Z Z Z) Z (ze (ze (wx mixed hN Z Z (za (zf (.ptr _ _) Z) (za (wu Z) (za (zn Wc Z) (zu (zp tyS4 Z Z) Z (qd Z (yi Z Z (fun hc=>zf (.ptr _ _) Z) (yi Z Z (fun hc=>wu (cnd (c:=(!r17.2.2.bad_)) hc)) (yi Z Z (fun hc=>zn Zb (cnd (c:=(!r17.2.2.bad_)) hc)) (jk Z Z (fun hc=>zp tyS3 (cnd (c:=(!r17.2.2.bad_)) hc) Z) Z y1l (yi Z Z (fun hc=>zf (.ptr _ _) Z) (yi Z Z (fun hc=>wu (cnd (c:=(!r17.2.2.bad_)) hc)) (yi Z Z (fun hc=>zn z7q (cnd (c:=(!r17.2.2.bad_)) hc)) (jk Z Z (fun hc=>zp qq (cnd (c:=(!r17.2.2.bad_)) hc) Z) Z y1l (yi Z Z (fun hc=>yo qm (cnd (c:=(!r17.2.2.bad_)) hc)) (yi Z Z (fun hc=>zy (cnd (c:=(!r17.2.2.bad_)) hc) (cnd (c:=(!r17.2.2.bad_)) hc)) (za (wz Z Z (fun hb=>(cnd (c:=(!r17.2.2.bad_)) (notI hb)))) ⟨Z,?_⟩)))))))))))))))))))
  refine zg _ Z (fun h19 => ?_) (fun h19 => ?_)
  ·refine tE h19 H fun H=>ze (wx mixed hN Z Z (za (wd (u':=vagg (yq (zm.mk [] [] [] [] [] [] 0 0))) (wh (by exact ⟨zr,zr,zr,zr,yu,yu,zr,zr,U⟩)) (qt [] wl je Z U)) ?_))
   refine za (zf (.ptr _ _) Z) (za (wu Z) (za (zn Zb Z) (zu (zp tyS3 Z Z) Z (zi (yp yn Z Z Z Z) Z (qe Z (qe Z ⟨Z,?_⟩))))))
   refine zh ?_
   cases H
   exact ⟨U,.inl ⟨_,_,_,yq (zm.mk [] [] [] [] [] [] 0 0),Z,Z,Z,Z,yn⟩,.inl Z,.inl Z,U⟩
  ·refine fE h19 H fun H=>zk (ze (zb hN Z (zu (vo yn Z Z Z) Z (bE H fun r20 h21 H=>za (zl (w3t (zm.mk r5.1 r7.1 r9.1 r11.1 r13.1 r15.1 r17.1 r17.2.1) r20 h21) ⟨.inl Z,U⟩) (qe Z (zb hN Z (qd Z (za (wa Z Z) (zg _ Z (fun h22 => ?_) (fun h22 => ?_))))))))))
   ·refine tE h22 H fun H=>zb hN Z (za (wd (u':=vagg (yq (zm.mk [] [] [] [] [] [] 0 0))) (wh (by exact ⟨zr,zr,zr,zr,yu,yu,zr,zr,U⟩)) (qt [] wl je Z U)) ?_)
    refine qd Z (zi (yp yn Z Z Z Z) Z (qe Z (qe Z (zh ?_))))
    cases H
    exact ⟨U,.inl ⟨_,_,_,yq (zm.mk [] [] [] [] [] [] 0 0),Z,Z,Z,Z,yn⟩,.inl Z,.inl Z,U⟩
   ·refine fE h22 H fun H=>zk (zb hN Z (zu (vo yn Z Z Z) Z (zi (yp yn Z Z Z Z) Z (qe Z (qe Z (zh ?_))))))
    cases H
    exact ⟨U,.inl ⟨_,_,_,yq (zm.mk r5.1 r7.1 r9.1 r11.1 r13.1 r15.1 r17.1 r17.2.1),Z,Z,Z,Z,yn⟩,.inl Z,.inl Z,U⟩
end Go.Proofs.YtndabcepiekebaaGreatDoor
