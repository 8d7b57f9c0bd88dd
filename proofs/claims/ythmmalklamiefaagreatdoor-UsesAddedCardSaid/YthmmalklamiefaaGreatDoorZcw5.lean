/- Walks along the models. Printed by a program. -/
import Derived.Test.YthmmalklamiefaaGreatDoorZcw4
namespace Go.Proofs.YthmmalklamiefaaGreatDoor
open Go.RowKit
set_option linter.unusedVariables false
set_option maxRecDepth 20000
set_option maxHeartbeats 2000000
theorem y00 (slices1:(List (List z0e))) (r:((List z0e))) (H:z3c slices1=some r):FnG Tryz.prog 34 [.dat (vlst (List.map y5c slices1))] [] (.row 1 r.length) [(1,.row 57 4 (List.map z0v r))]:=by
 refine y5v (by kernel_rfl) Tryz.func34 rfl rfl rfl rfl fun X A hN => ?_
 unfold z3c at H
 refine z0c ?_
 refine z0b hN rfl ?_
 refine qe rfl ?_
 refine z0c ?_
 refine z0b hN rfl ?_
 refine qe rfl ?_
 refine z0c ?_
 refine z0c ?_
 refine z0b hN rfl ?_
 refine qd rfl ?_
 refine z0a (z5b w5b rfl) ?_
 refine qd rfl ?_
 refine z0w ?_
 obtain ⟨h5,H⟩:=gif H
 refine z32 (fun (k3:Nat) (s:Int)=>[(0,.dat (vlst (List.map y5c slices1))),(3,.dat (vint s)),(9,.dat (vlst (List.map y5c slices1))),(10,.dat (vint (slices1.length:Int))),(11,.dat (vint (k3:Int)))]) (fun (k3:Nat) (s:Int)=>[]) 0 H ⟨rfl,rfl,rfl,rfl,rfl,trivial⟩ trivial (fun _ _=>rfl) ?_ ?_
 ·rintro size2 H
  replace H:z34 slices1 size2=some r:=H
  unfold z34 at H
  refine z0c ?_
  refine z0b hN rfl ?_
  refine z0a (z03 rfl rfl) ?_
  refine z0c ?_
  refine z0k _ rfl (fun h=>(lt_t h).elim) (fun h => ?_)
  refine z1j ?_
  refine z0c ?_
  refine z0b hN rfl ?_
  refine qd rfl ?_
  obtain ⟨r7,h8,H⟩:=bnd H
  refine z4y (rn [(900,1)]) [] [(900,_)] (y4r size2 r7 h8) ⟨rfl,trivial⟩ ⟨.inl (.inl rfl),.inl (.inl rfl),trivial⟩ trivial rfl ?_
  refine z0a (z1o (.row _ _) rfl) ?_
  refine z0c ?_
  refine z0c ?_
  refine z0b hN rfl ?_
  refine qd rfl ?_
  refine z0a (z5b w5b rfl) ?_
  refine qd rfl ?_
  refine z0w ?_
  obtain ⟨h12,H⟩:=gif H
  refine z32 (fun (k10:Nat) (s:(List z0e))=>[(6,.row 1 s.length),(25,.dat (vlst (List.map y5c slices1))),(26,.dat (vint (slices1.length:Int))),(27,.dat (vint (k10:Int)))]) (fun (k10:Nat) (s:(List z0e))=>[(1,.row 57 4 (List.map z0v s))]) r7 H ⟨rfl,rfl,rfl,rfl,trivial⟩ ⟨rfl,trivial⟩ (fun _ _=>rfl) ?_ ?_
  ·rintro l9 H
   replace H:z7a l9=some r:=H
   unfold z7a at H
   refine z0c ?_
   refine z0b hN rfl ?_
   refine z0a (z03 rfl rfl) ?_
   refine z0c ?_
   refine z0k _ rfl (fun h=>(lt_t h).elim) (fun h => ?_)
   refine z1j ?_
   refine z0c ?_
   refine z0b hN rfl ?_
   refine z0a (z0j (.row _ _) rfl) ?_
   refine z0a (z1o (.row _ _) rfl) ?_
   refine z0t ?_
   cases H
   exact ⟨trivial,[(2,.row 1 _)],⟨rfl,trivial⟩,⟨rfl,trivial⟩,rfl,.inr (.inl ⟨2,rfl,rfl⟩)⟩
  ·rintro k10 x13 l9 q11 h14 h15 H hq11
   replace H:z2s k10 x13 l9=some q11:=H
   unfold z2s at H
   refine z0c ?_
   refine z0b hN rfl ?_
   refine z0a (z03 rfl rfl) ?_
   refine z0c ?_
   refine z0k _ rfl (fun h => ?_) (fun h=>(lt_f h14 h).elim)
   refine z0q ?_
   refine z0c ?_
   refine z0w ?_
   refine z0c ?_
   refine z0b hN rfl ?_
   refine z0a (y2a w5f (fun _=>rfl) rfl rfl h15) ?_
   refine z0a (z24 w7y rfl (z3e h15) rfl) ?_
   refine qe rfl ?_
   refine z0b hN rfl ?_
   refine z0a (z0j (.row _ _) rfl) ?_
   refine qd rfl ?_
   obtain ⟨h16,H⟩:=gif H
   refine z0g (w8c x5l (fun _=>rfl) rfl rfl rfl h16 rfl) rfl ?_
   refine z0a (z1o (.row _ _) rfl) ?_
   refine z0b hN rfl ?_
   refine z0a (z3h rfl rfl (by omega)) ?_
   refine qd rfl ?_
   exact ⟨_,z5d H,⟨rfl,rfl,rfl,rfl,trivial⟩,⟨rfl,trivial⟩⟩
 ·rintro k3 x6 size2 q4 h17 h18 H hq4
  replace H:z2t k3 x6 size2=some q4:=H
  unfold z2t at H
  refine z0c ?_
  refine z0b hN rfl ?_
  refine z0a (z03 rfl rfl) ?_
  refine z0c ?_
  refine z0k _ rfl (fun h => ?_) (fun h=>(lt_f h17 h).elim)
  refine z0q ?_
  refine z0c ?_
  refine z0w ?_
  refine z0c ?_
  refine z0b hN rfl ?_
  refine z0a (y2a w5f (fun _=>rfl) rfl rfl h18) ?_
  refine z0a (z24 w7y rfl (z3e h18) rfl) ?_
  refine qe rfl ?_
  refine z0c ?_
  refine z0b hN rfl ?_
  refine qd rfl ?_
  refine qd rfl ?_
  refine z0a (z5b y67 rfl) ?_
  refine z0a (z05 _ rfl rfl (.inl ⟨rfl,rfl⟩)) ?_
  refine qe rfl ?_
  refine z0c ?_
  refine z0b hN rfl ?_
  refine qd rfl ?_
  refine z0a (z03 rfl rfl) ?_
  refine z0k _ rfl (fun h19 => ?_) (fun h19 => ?_)
  ·replace H:=ift h19 H
   cases H
  ·replace H:=iff_ h19 H
   refine z0q ?_
   refine z0b hN rfl ?_
   refine z0a (z3h rfl rfl (by omega)) ?_
   refine qd rfl ?_
   exact ⟨_,z5d H,⟨rfl,rfl,rfl,rfl,rfl,trivial⟩,trivial⟩
theorem y7r (x1:Int) (r:(Bool)) (H:y2p x1=some r):Fn Tryz.prog 110 [vint x1] (z1x [z1p r]):=by
 refine ⟨by kernel_rfl,z1s (us:=[z1p r]) Tryz.func110 rfl rfl rfl rfl fun X hN => ?_⟩
 unfold y2p at H
 refine z0c ?_
 refine z0b hN rfl ?_
 refine qe rfl ?_
 refine z0c ?_
 refine z0b hN rfl ?_
 refine qd rfl ?_
 refine qd rfl ?_
 refine z0a (z6y rfl rfl) ?_
 refine qe rfl ?_
 refine z0t ?_
 cases H
 exact ⟨trivial,.inl rfl,trivial⟩
theorem y6v (x1:Int) (y2:Int) (r:(Int)) (H:z74 x1 y2=some r):Fn Tryz.prog 78 [vint x1,vint y2] (z1x [vint r]):=by
 refine ⟨by kernel_rfl,z1s (us:=[vint r]) Tryz.func78 rfl rfl rfl rfl fun X hN => ?_⟩
 unfold z74 at H
 refine z0c ?_
 refine z0b hN rfl ?_
 refine qe rfl ?_
 refine z0c ?_
 refine z0b hN rfl ?_
 refine qd rfl ?_
 obtain ⟨r3,h4,H⟩:=bnd H
 refine z0a (z0z (y7r x1 r3 h4) ⟨.inl rfl,trivial⟩) ?_
 refine qe rfl ?_
 refine z0c ?_
 refine z0b hN rfl ?_
 refine qd rfl ?_
 obtain ⟨r5,h6,H⟩:=bnd H
 refine z0a (z0z (y7r y2 r5 h6) ⟨.inl rfl,trivial⟩) ?_
 refine qe rfl ?_
 refine z0c ?_
 refine z0c ?_
 refine z0b hN rfl ?_
 refine qd rfl ?_
 refine z0k _ rfl (fun h7 => ?_) (fun h7 => ?_)
 ·replace H:=ift h7 H
  refine z0c ?_
  refine z0c ?_
  refine z0b hN rfl ?_
  refine qd rfl ?_
  refine z0k _ rfl (fun h8 => ?_) (fun h8 => ?_)
  ·replace H:=ift h8 H
   refine z0c ?_
   refine z0b hN rfl ?_
   refine qe rfl ?_
   refine z0t ?_
   cases H
   exact ⟨trivial,.inl rfl,trivial⟩
  ·replace H:=iff_ h8 H
   refine z0q ?_
   refine z0c ?_
   refine z0b hN rfl ?_
   refine qe rfl ?_
   refine z0t ?_
   cases H
   exact ⟨trivial,.inl rfl,trivial⟩
 ·replace H:=iff_ h7 H
  refine z0q ?_
  refine z0c ?_
  refine z0c ?_
  refine z0b hN rfl ?_
  refine qd rfl ?_
  refine z0k _ rfl (fun h9 => ?_) (fun h9 => ?_)
  ·replace H:=ift h9 H
   refine z0c ?_
   refine z0b hN rfl ?_
   refine qe rfl ?_
   refine z0t ?_
   cases H
   exact ⟨trivial,.inl rfl,trivial⟩
  ·replace H:=iff_ h9 H
   refine z0q ?_
   refine z0c ?_
   refine z0c ?_
   refine z0b hN rfl ?_
   refine qd rfl ?_
   refine qd rfl ?_
   refine z0a (z03 rfl rfl) ?_
   refine z0k _ rfl (fun h10 => ?_) (fun h10 => ?_)
   ·replace H:=ift h10 H
    refine z0c ?_
    refine z0b hN rfl ?_
    refine qe rfl ?_
    refine z0t ?_
    cases H
    exact ⟨trivial,.inl rfl,trivial⟩
   ·replace H:=iff_ h10 H
    refine z0q ?_
    refine z0c ?_
    refine z0c ?_
    refine z0b hN rfl ?_
    refine qd rfl ?_
    refine qd rfl ?_
    refine z0a (z4c rfl rfl) ?_
    refine z0k _ rfl (fun h11 => ?_) (fun h11 => ?_)
    ·replace H:=ift h11 H
     refine z0c ?_
     refine z0b hN rfl ?_
     refine qe rfl ?_
     refine z0t ?_
     cases H
     exact ⟨trivial,.inl rfl,trivial⟩
    ·replace H:=iff_ h11 H
     refine z0q ?_
     refine z0c ?_
     refine z0b hN rfl ?_
     refine qe rfl ?_
     refine z0t ?_
     cases H
     exact ⟨trivial,.inl rfl,trivial⟩
theorem z8x (a b:Bs) (r:Int) (H:z4u a b=some r):Fn Tryz.prog 79 [vstr a,vstr b] (z1x [vint r]):=by
 cases H
 refine y9h (by kernel_rfl) fun M w vs h => ?_
 have h1:=x2q (us:=[.string ⟨a.toArray⟩,.string ⟨b.toArray⟩]) h
 subst h1
 refine (Tryz.strings_Compare ⟨a.toArray⟩ ⟨b.toArray⟩ w).mono ?_
 rintro e w' ⟨rfl,rfl⟩
 exact ⟨_,rfl,rfl,Kp.refl _ _⟩
theorem y92 (vals1:(List Int)) (r:(Int)) (H:y2g vals1=some r):Fn Tryz.prog 77 [vlst (List.map z5a vals1)] (z1x [vint r]):=by
 refine ⟨by kernel_rfl,z1s (us:=[vint r]) Tryz.func77 rfl rfl rfl rfl fun X hN => ?_⟩
 unfold y2g at H
 refine z0c ?_
 refine z0b hN rfl ?_
 refine qe rfl ?_
 refine z0c ?_
 refine z0b hN rfl ?_
 refine qe rfl ?_
 refine z0c ?_
 refine z0c ?_
 refine z0b hN rfl ?_
 refine qd rfl ?_
 refine z0a (z5b w0p rfl) ?_
 refine qd rfl ?_
 refine z0w ?_
 obtain ⟨h4,H⟩:=gif H
 refine z32 (fun (k2:Nat) (s:Unit)=>[(3,.dat (vint 0)),(6,.dat (vlst (List.map z5a vals1))),(7,.dat (vint (vals1.length:Int))),(8,.dat (vint (k2:Int)))]) (fun (k2:Nat) (s:Unit)=>[]) () H ⟨rfl,rfl,rfl,rfl,trivial⟩ trivial (fun _ _=>rfl) ?_ ?_
 ·rintro ⟨⟩ H
  replace H:y5h=some r:=H
  unfold y5h at H
  refine z0c ?_
  refine z0b hN rfl ?_
  refine z0a (z03 rfl rfl) ?_
  refine z0c ?_
  refine z0k _ rfl (fun h=>(lt_t h).elim) (fun h => ?_)
  refine z1j ?_
  refine z0c ?_
  refine z0b hN rfl ?_
  refine qd rfl ?_
  refine qe rfl ?_
  refine z0t ?_
  cases H
  exact ⟨trivial,.inl rfl,trivial⟩
 ·rintro k2 x5 ⟨⟩ q3 h6 h7 H hq3
  replace H:y5g k2 x5=some q3:=H
  unfold y5g at H
  refine z0c ?_
  refine z0b hN rfl ?_
  refine z0a (z03 rfl rfl) ?_
  refine z0c ?_
  refine z0k _ rfl (fun h => ?_) (fun h=>(lt_f h6 h).elim)
  refine z0q ?_
  refine z0c ?_
  refine z0w ?_
  refine z0c ?_
  refine z0b hN rfl ?_
  refine z0a (y2a w6c (fun _=>rfl) rfl rfl h7) ?_
  refine z0a (z24 tyS3 rfl (z3e h7) rfl) ?_
  refine qe rfl ?_
  refine z0c ?_
  refine z0b hN rfl ?_
  refine qd rfl ?_
  refine qd rfl ?_
  refine z0a (z6y rfl rfl) ?_
  refine z0k _ rfl (fun h8 => ?_) (fun h8 => ?_)
  ·replace H:=ift h8 H
   refine z0c ?_
   refine z0b hN rfl ?_
   refine qd rfl ?_
   refine qe rfl ?_
   refine z0t ?_
   replace H:=retl H hq3
   cases H
   exact ⟨trivial,.inl rfl,trivial⟩
  ·replace H:=iff_ h8 H
   refine z0q ?_
   refine z0b hN rfl ?_
   refine z0a (z3h rfl rfl (by omega)) ?_
   refine qd rfl ?_
   exact ⟨_,z5d H,⟨rfl,rfl,rfl,rfl,trivial⟩,trivial⟩
theorem y3t (a1:z0e) (b2:z0e) (r:(Int)) (H:z61 a1 b2=some r):Fn Tryz.prog 36 [vagg (z0v a1),vagg (z0v b2)] (z1x [vint r]):=by
 refine ⟨by kernel_rfl,z1s (us:=[vint r]) Tryz.func36 rfl rfl rfl rfl fun X hN => ?_⟩
 unfold z61 at H
 refine z0c ?_
 refine z0b hN rfl ?_
 refine z0g (z16 1 rfl) rfl ?_
 refine z0g (z16 2 rfl) rfl ?_
 refine qe rfl ?_
 refine z0c ?_
 refine z2n mixed hN rfl rfl ?_
 refine z0a (z0m y58 rfl) ?_
 refine z0h (z0l tyS3 rfl rfl) rfl ?_
 refine z0a (z0m y58 rfl) ?_
 refine z0h (z0l tyS3 rfl rfl) rfl ?_
 obtain ⟨r3,h4,H⟩:=bnd H
 refine z0a (z0z (y6v a1.Month b2.Month r3 h4) ⟨.inl rfl,.inl rfl,trivial⟩) ?_
 refine z0a (z0m y6y rfl) ?_
 refine z0h (z0l tyS9 rfl rfl) rfl ?_
 refine z0a (z0m y6y rfl) ?_
 refine z0h (z0l tyS9 rfl rfl) rfl ?_
 obtain ⟨r5,h6,H⟩:=bnd H
 refine z0a (z0z (z8x a1.App b2.App r5 h6) ⟨.inl rfl,.inl rfl,trivial⟩) ?_
 refine z0a (z0m y73 rfl) ?_
 refine z0h (z0l tyS9 rfl rfl) rfl ?_
 refine z0a (z0m y73 rfl) ?_
 refine z0h (z0l tyS9 rfl rfl) rfl ?_
 obtain ⟨r7,h8,H⟩:=bnd H
 refine z0a (z0z (z8x a1.Product b2.Product r7 h8) ⟨.inl rfl,.inl rfl,trivial⟩) ?_
 refine z0a (z09 (u':=vlst (List.map z5a [r3,r5,r7])) (z1w [[_],[_],[_]] y3v ⟨rfl,.inl ⟨_,rfl,rfl,rfl⟩,rfl,rfl,.inl ⟨_,rfl,rfl,rfl⟩,rfl,rfl,.inl ⟨_,rfl,rfl,rfl⟩,rfl,trivial⟩ rfl rfl) rfl) ?_
 obtain ⟨r9,h10,H⟩:=bnd H
 refine z0a (z0z (y92 [r3,r5,r7] r9 h10) ⟨.inl rfl,trivial⟩) ?_
 refine qe rfl ?_
 refine ⟨rfl,?_⟩
 refine z0t ?_
 cases H
 exact ⟨trivial,.inl rfl,trivial⟩
theorem y3r (s1:(List z0e)) (p1:z0e→Option (Bool)) (fv1:Nat) (us1:List V) (hp1:∀ a0 r,p1 a0=some r→Fn Tryz.prog fv1 ([vagg (z0v a0)]++us1) (z1x [z1p r])) (r:(Int)) (H:z60 s1 p1=some r):Fn Tryz.prog 80 [vlst (List.map z0v s1),vfn fv1 us1] (z1x [vint r]):=by
 refine ⟨by kernel_rfl,z1s (us:=[vint r]) Tryz.func80 rfl rfl rfl rfl fun X hN => ?_⟩
 unfold z60 at H
 refine z0c ?_
 refine z0b hN rfl ?_
 refine qe rfl ?_
 refine z0c ?_
 refine z0c ?_
 refine z0b hN rfl ?_
 refine qd rfl ?_
 refine z0a (z5b y67 rfl) ?_
 refine qd rfl ?_
 refine z0w ?_
 obtain ⟨h4,H⟩:=gif H
 refine z32 (fun (k2:Nat) (s:Unit)=>[(0,.dat (vlst (List.map z0v s1))),(1,.dat (vfn fv1 us1)),(7,.dat (vint (s1.length:Int))),(8,.dat (vint (k2:Int)))]) (fun (k2:Nat) (s:Unit)=>[]) () H ⟨rfl,rfl,rfl,rfl,trivial⟩ trivial (fun _ _=>rfl) ?_ ?_
 ·rintro ⟨⟩ H
  replace H:z6n=some r:=H
  unfold z6n at H
  refine z0c ?_
  refine z0b hN rfl ?_
  refine z0a (z03 rfl rfl) ?_
  refine z0c ?_
  refine z0k _ rfl (fun h=>(lt_t h).elim) (fun h => ?_)
  refine z1j ?_
  refine z0c ?_
  refine z0b hN rfl ?_
  refine qe rfl ?_
  refine z0t ?_
  cases H
  exact ⟨trivial,.inl rfl,trivial⟩
 ·rintro k2 x5 ⟨⟩ q3 h6 h7 H hq3
  replace H:z6m p1 k2 x5=some q3:=H
  unfold z6m at H
  refine z0c ?_
  refine z0b hN rfl ?_
  refine z0a (z03 rfl rfl) ?_
  refine z0c ?_
  refine z0k _ rfl (fun h => ?_) (fun h=>(lt_f h6 h).elim)
  refine z0q ?_
  refine z0c ?_
  refine z0w ?_
  refine z0c ?_
  refine z0b hN rfl ?_
  refine qd rfl ?_
  refine qe rfl ?_
  refine z0c ?_
  refine z0b hN rfl ?_
  refine qd rfl ?_
  refine qd rfl ?_
  refine qd rfl ?_
  refine z0a (y2a y1k (fun _=>rfl) rfl rfl h7) ?_
  refine z0a (z2l y0a rfl (z3e h7) rfl) ?_
  obtain ⟨r8,h9,H⟩:=bnd H
  refine z0a (z9f (hp1 x5 r8 h9) rfl ⟨.inl rfl,trivial⟩) ?_
  refine z0k _ rfl (fun h10 => ?_) (fun h10 => ?_)
  ·replace H:=ift h10 H
   refine z0c ?_
   refine z0b hN rfl ?_
   refine qd rfl ?_
   refine qe rfl ?_
   refine z0t ?_
   replace H:=retl H hq3
   cases H
   exact ⟨trivial,.inl rfl,trivial⟩
  ·replace H:=iff_ h10 H
   refine z0q ?_
   refine z0b hN rfl ?_
   refine z0a (z3h rfl rfl (by omega)) ?_
   refine qd rfl ?_
   exact ⟨_,z5d H,⟨rfl,rfl,rfl,rfl,trivial⟩,trivial⟩
theorem z85 (s1:(List z0e)) (p1:z0e→Option (Bool)) (fv1:Nat) (us1:List V) (hp1:∀ a0 r,p1 a0=some r→Fn Tryz.prog fv1 ([vagg (z0v a0)]++us1) (z1x [z1p r])) (r:(Bool)) (H:z2r s1 p1=some r):Fn Tryz.prog 37 [vlst (List.map z0v s1),vfn fv1 us1] (z1x [z1p r]):=by
 refine ⟨by kernel_rfl,z1s (us:=[z1p r]) Tryz.func37 rfl rfl rfl rfl fun X hN => ?_⟩
 unfold z2r at H
 refine z0c ?_
 refine z0b hN rfl ?_
 refine qe rfl ?_
 refine z0c ?_
 refine z0b hN rfl ?_
 refine qd rfl ?_
 refine qd rfl ?_
 obtain ⟨r2,h3,H⟩:=bnd H
 refine z0a (z0z (y3r s1 p1 fv1 us1 hp1 r2 h3) ⟨.inl rfl,.inl rfl,trivial⟩) ?_
 refine z0a (y5a rfl rfl) ?_
 refine qe rfl ?_
 refine z0t ?_
 cases H
 exact ⟨trivial,.inl rfl,trivial⟩
theorem x2u (u1:z0e) (r:(Bool)) (H:y2u u1=some r):Fn Tryz.prog 38 [vagg (z0v u1)] (z1x [z1p r]):=by
 refine ⟨by kernel_rfl,z1s (us:=[z1p r]) Tryz.func38 rfl rfl rfl rfl fun X hN => ?_⟩
 unfold y2u at H
 refine z0c ?_
 refine z0b hN rfl ?_
 refine z0g (z16 1 rfl) rfl ?_
 refine qe rfl ?_
 refine z0c ?_
 refine z0b hN rfl ?_
 refine z0a (z0m y48 rfl) ?_
 refine z0h (z0l tyS3 rfl rfl) rfl ?_
 refine z0a (z4c rfl rfl) ?_
 refine qe rfl ?_
 refine z0t ?_
 cases H
 exact ⟨trivial,.inl rfl,trivial⟩
theorem y6g (s1:Bs) (r:(Bool)) (H:y2f s1=some r):Fn Tryz.prog 92 [vstr s1] (z1x [z1p r]):=by
 refine ⟨by kernel_rfl,z1s (us:=[z1p r]) Tryz.func92 rfl rfl rfl rfl fun X hN => ?_⟩
 unfold y2f at H
 refine z0c ?_
 refine z0b hN rfl ?_
 refine qe rfl ?_
 refine z0c ?_
 refine z0c ?_
 refine z0b hN rfl ?_
 refine qe rfl ?_
 refine z0w ?_
 obtain ⟨h4,H⟩:=gif H
 refine z32 (fun (i2:Nat) (s:Unit)=>[(0,.dat (vstr s1)),(3,.dat (vint (i2:Int)))]) (fun (i2:Nat) (s:Unit)=>[]) () H ⟨rfl,rfl,trivial⟩ trivial (fun _ _=>rfl) ?_ ?_
 ·rintro ⟨⟩ H
  replace H:y8a s1=some r:=H
  unfold y8a at H
  refine z0c ?_
  refine z0c ?_
  refine z0b hN rfl ?_
  refine qd rfl ?_
  refine qd rfl ?_
  refine z0a (y6b tyU9 rfl) ?_
  refine z0a (z03 rfl rfl) ?_
  refine z0k _ rfl (fun h=>(lt_t h).elim) (fun h => ?_)
  refine z1j ?_
  refine z0c ?_
  refine z0b hN rfl ?_
  refine qd rfl ?_
  refine z0a (y4o rfl rfl) ?_
  refine qd rfl ?_
  refine z4b rfl rfl (fun hc=>z0j (.dat _) rfl) ?_
  refine z4b rfl rfl (fun hc=>y6b tyU9 (cnd (c:=(decide (s1≠[]))) hc)) ?_
  refine z4b rfl rfl (fun hc=>y4p (cnd (c:=(decide (s1≠[]))) hc) rfl) ?_
  refine z0a (z25 rfl (fun hb=>(cnd (c:=(decide (s1≠[]))) hb)) rfl) ?_
  refine qe rfl ?_
  refine z0t ?_
  cases H
  exact ⟨trivial,.inl rfl,trivial⟩
 ·rintro i2 x5 ⟨⟩ q3 h6 h7 H hq3
  replace H:y6t i2 x5=some q3:=H
  unfold y6t at H
  refine z0c ?_
  refine z0c ?_
  refine z0b hN rfl ?_
  refine qd rfl ?_
  refine qd rfl ?_
  refine z0a (y6b tyU9 rfl) ?_
  refine z0a (z03 rfl rfl) ?_
  refine z0k _ rfl (fun h => ?_) (fun h=>(lt_f h6 h).elim)
  refine z0q ?_
  refine z0c ?_
  refine z0w ?_
  refine z0c ?_
  refine z0b hN rfl ?_
  refine qd rfl ?_
  refine qd rfl ?_
  refine z0a (w5l tyU9 rfl rfl h7) ?_
  refine qe rfl ?_
  refine z0c ?_
  refine z0b hN rfl ?_
  refine qd rfl ?_
  refine z0a (y5a rfl rfl) ?_
  refine qd rfl ?_
  refine z4b rfl rfl (fun hc=>z0j (.dat _) rfl) ?_
  refine z4b rfl rfl (fun hc=>y4p (cnd (c:=(decide (97≤(x5.toNat:Int)))) hc) rfl) ?_
  refine z0a (z25 rfl (fun hb=>(cnd (c:=(decide (97≤(x5.toNat:Int)))) hb)) rfl) ?_
  refine qd rfl ?_
  refine y4h rfl rfl (fun hc=>z0j (.dat _) rfl) ?_
  refine y4h rfl rfl (fun hc=>z4c (cnd (c:=(!((decide (97≤(x5.toNat:Int))) && (decide ((x5.toNat:Int)≤122))))) hc) rfl) ?_
  refine y4h rfl rfl (fun hc=>z0j (.dat _) (cnd (c:=(!((decide (97≤(x5.toNat:Int))) && (decide ((x5.toNat:Int)≤122))))) hc)) ?_
  refine y6c rfl rfl (fun hc=>z0j (.dat _) rfl) ?_
  refine y6c rfl rfl (fun hc=>y5a (cnd (c:=((!((decide (97≤(x5.toNat:Int))) && (decide ((x5.toNat:Int)≤122)))) && (decide (0 < (i2:Int))))) hc) rfl) ?_
  refine y6c rfl rfl (fun hc=>z0j (.dat _) (cnd (c:=((!((decide (97≤(x5.toNat:Int))) && (decide ((x5.toNat:Int)≤122)))) && (decide (0 < (i2:Int))))) hc)) ?_
  refine y6c rfl rfl (fun hc=>z0j (.dat _) rfl) ?_
  refine y6c rfl rfl (fun hc=>y4p (cnd (c:=(((!((decide (97≤(x5.toNat:Int))) && (decide ((x5.toNat:Int)≤122)))) && (decide (0 < (i2:Int)))) && (decide (48≤(x5.toNat:Int))))) hc) rfl) ?_
  refine y6c rfl rfl (fun hc=>z25 (cnd (c:=((!((decide (97≤(x5.toNat:Int))) && (decide ((x5.toNat:Int)≤122)))) && (decide (0 < (i2:Int))))) hc) (fun hb=>(cnd (c:=(((!((decide (97≤(x5.toNat:Int))) && (decide ((x5.toNat:Int)≤122)))) && (decide (0 < (i2:Int)))) && (decide (48≤(x5.toNat:Int))))) (andI hc hb))) rfl) ?_
  refine y6c rfl rfl (fun hc=>z0j (.dat _) (cnd (c:=((!((decide (97≤(x5.toNat:Int))) && (decide ((x5.toNat:Int)≤122)))) && (decide (0 < (i2:Int))))) hc)) ?_
  refine y7b rfl rfl (fun hc=>z0j (.dat _) rfl) ?_
  refine y7b rfl rfl (fun hc=>z2g (cnd (c:=(((!((decide (97≤(x5.toNat:Int))) && (decide ((x5.toNat:Int)≤122)))) && (decide (0 < (i2:Int)))) && !((decide (48≤(x5.toNat:Int))) && (decide ((x5.toNat:Int)≤57))))) hc) rfl) ?_
  refine y6c rfl rfl (fun hc=>z8q (cnd (c:=((!((decide (97≤(x5.toNat:Int))) && (decide ((x5.toNat:Int)≤122)))) && (decide (0 < (i2:Int))))) hc) rfl (fun hb=>(cnd (c:=(((!((decide (97≤(x5.toNat:Int))) && (decide ((x5.toNat:Int)≤122)))) && (decide (0 < (i2:Int)))) && !((decide (48≤(x5.toNat:Int))) && (decide ((x5.toNat:Int)≤57))))) (andI hc (notI hb))))) ?_
  refine y6c rfl rfl (fun hc=>z0j (.dat _) (cnd (c:=((!((decide (97≤(x5.toNat:Int))) && (decide ((x5.toNat:Int)≤122)))) && (decide (0 < (i2:Int))))) hc)) ?_
  refine y7b rfl rfl (fun hc=>z0j (.dat _) rfl) ?_
  refine y7b rfl rfl (fun hc=>z2g (cnd (c:=(((!((decide (97≤(x5.toNat:Int))) && (decide ((x5.toNat:Int)≤122)))) && (decide (0 < (i2:Int)))) && !(((decide (48≤(x5.toNat:Int))) && (decide ((x5.toNat:Int)≤57))) || (decide ((x5.toNat:Int)=45))))) hc) rfl) ?_
  refine y6c rfl rfl (fun hc=>z8q (cnd (c:=((!((decide (97≤(x5.toNat:Int))) && (decide ((x5.toNat:Int)≤122)))) && (decide (0 < (i2:Int))))) hc) rfl (fun hb=>(cnd (c:=(((!((decide (97≤(x5.toNat:Int))) && (decide ((x5.toNat:Int)≤122)))) && (decide (0 < (i2:Int)))) && !(((decide (48≤(x5.toNat:Int))) && (decide ((x5.toNat:Int)≤57))) || (decide ((x5.toNat:Int)=45))))) (andI hc (notI hb))))) ?_
  refine y4h rfl rfl (fun hc=>z25 (cnd (c:=(!((decide (97≤(x5.toNat:Int))) && (decide ((x5.toNat:Int)≤122))))) hc) (fun hb=>(cnd (c:=((!((decide (97≤(x5.toNat:Int))) && (decide ((x5.toNat:Int)≤122)))) && (decide (0 < (i2:Int))))) (andI hc hb))) rfl) ?_
  refine z0a (z8q rfl rfl (fun hb=>(cnd (c:=(!((decide (97≤(x5.toNat:Int))) && (decide ((x5.toNat:Int)≤122))))) (notI hb)))) ?_
  refine z0a (z3s rfl) ?_
  refine z0k _ rfl (fun h8 => ?_) (fun h8 => ?_)
  ·replace H:=ift h8 H
   refine z0c ?_
   refine z0b hN rfl ?_
   refine qe rfl ?_
   refine z0t ?_
   replace H:=retl H hq3
   cases H
   exact ⟨trivial,.inl rfl,trivial⟩
  ·replace H:=iff_ h8 H
   refine z0q ?_
   refine z0b hN rfl ?_
   refine qd rfl ?_
   refine z0a (z3h rfl rfl (by omega)) ?_
   refine qe rfl ?_
   exact ⟨_,z5d H,⟨rfl,rfl,trivial⟩,trivial⟩
theorem x2h (s1:Bs) (r:(Bool)) (H:y29 s1=some r):Fn Tryz.prog 129 [vstr s1] (z1x [z1p r]):=by
 refine ⟨by kernel_rfl,z1s (us:=[z1p r]) Tryz.func129 rfl rfl rfl rfl fun X hN => ?_⟩
 unfold y29 at H
 refine z0c ?_
 refine z0b hN rfl ?_
 refine qe rfl ?_
 refine z0c ?_
 refine z0b hN rfl ?_
 refine qd rfl ?_
 obtain ⟨r2,h3,H⟩:=bnd H
 refine z0a (z0z (y8b s1 [58] r2 h3) ⟨.inl rfl,.inl rfl,trivial⟩) ?_
 refine qe rfl ?_
 refine z0c ?_
 refine z0c ?_
 refine z0b hN rfl ?_
 refine qd rfl ?_
 refine z0a (z5b y4g rfl) ?_
 refine qd rfl ?_
 refine z0w ?_
 obtain ⟨h6,H⟩:=gif H
 refine z32 (fun (k4:Nat) (s:Unit)=>[(3,.dat (vlst (List.map z1k r2))),(8,.dat (vlst (List.map z1k r2))),(9,.dat (vint (r2.length:Int))),(10,.dat (vint (k4:Int)))]) (fun (k4:Nat) (s:Unit)=>[]) () H ⟨rfl,rfl,rfl,rfl,trivial⟩ trivial (fun _ _=>rfl) ?_ ?_
 ·rintro ⟨⟩ H
  replace H:y5o r2=some r:=H
  unfold y5o at H
  refine z0c ?_
  refine z0b hN rfl ?_
  refine z0a (z03 rfl rfl) ?_
  refine z0c ?_
  refine z0k _ rfl (fun h=>(lt_t h).elim) (fun h => ?_)
  refine z1j ?_
  refine z0c ?_
  refine z0b hN rfl ?_
  refine qd rfl ?_
  refine z0a (z5b y4g rfl) ?_
  refine z0a (y4p rfl rfl) ?_
  refine qe rfl ?_
  refine z0t ?_
  cases H
  exact ⟨trivial,.inl rfl,trivial⟩
 ·rintro k4 x7 ⟨⟩ q5 h8 h9 H hq5
  replace H:y32 r2 k4 x7=some q5:=H
  unfold y32 at H
  refine z0c ?_
  refine z0b hN rfl ?_
  refine z0a (z03 rfl rfl) ?_
  refine z0c ?_
  refine z0k _ rfl (fun h => ?_) (fun h=>(lt_f h8 h).elim)
  refine z0q ?_
  refine z0c ?_
  refine z0w ?_
  refine z0c ?_
  refine z0b hN rfl ?_
  refine qd rfl ?_
  refine z0a (y2a y74 (fun _=>rfl) rfl rfl h9) ?_
  refine z0a (z24 tyS9 rfl (z3e h9) rfl) ?_
  refine qe rfl ?_
  refine qe rfl ?_
  refine z0c ?_
  refine z0b hN rfl ?_
  refine qd rfl ?_
  obtain ⟨r10,h11,H⟩:=bnd H
  refine z0a (z0z (y6g x7 r10 h11) ⟨.inl rfl,trivial⟩) ?_
  refine z0a (z3s rfl) ?_
  refine qd rfl ?_
  refine z4b rfl rfl (fun hc=>z0j (.dat _) rfl) ?_
  refine z4b rfl rfl (fun hc=>y5y (cnd (c:=(!r10)) hc) rfl) ?_
  refine z4b rfl rfl (fun hc=>z0j (.dat _) (cnd (c:=(!r10)) hc)) ?_
  refine y6c rfl rfl (fun hc=>z0j (.dat _) rfl) ?_
  refine y6c rfl rfl (fun hc=>z0j (.dat _) rfl) ?_
  refine y6c rfl rfl (fun hc=>z5b y4g (cnd (c:=((!r10) && (decide (x7=[42])))) hc)) ?_
  refine y6c rfl rfl (fun hc=>z05 _ (cnd (c:=((!r10) && (decide (x7=[42])))) hc) rfl (.inr (.inl ⟨rfl,rfl⟩))) ?_
  refine y6c rfl rfl (fun hc=>z2g (cnd (c:=((!r10) && (decide (x7=[42])))) hc) (cnd (c:=((!r10) && (decide (x7=[42])))) hc)) ?_
  refine z4b rfl rfl (fun hc=>z25 (cnd (c:=(!r10)) hc) (fun hb=>(cnd (c:=((!r10) && (decide (x7=[42])))) (andI hc hb))) rfl) ?_
  refine z4b rfl rfl (fun hc=>z3s (cnd (c:=(!r10)) hc)) ?_
  refine z0a (z25 rfl (fun hb=>(cnd (c:=(!r10)) hb)) rfl) ?_
  refine z0k _ rfl (fun h12 => ?_) (fun h12 => ?_)
  ·replace H:=ift h12 H
   refine z0c ?_
   refine z0b hN rfl ?_
   refine qe rfl ?_
   refine z0t ?_
   replace H:=retl H hq5
   cases H
   exact ⟨trivial,.inl rfl,trivial⟩
  ·replace H:=iff_ h12 H
   refine z0q ?_
   refine z0b hN rfl ?_
   refine z0a (z3h rfl rfl (by omega)) ?_
   refine qd rfl ?_
   exact ⟨_,z5d H,⟨rfl,rfl,rfl,rfl,trivial⟩,trivial⟩
theorem y89 (l1:(List Bs)) (r:(Int)) (H:y0t l1=some r):Fn Tryz.prog 117 [vlst (List.map z1k l1)] (z1x [vint r]):=by
 refine ⟨by kernel_rfl,z1s (us:=[vint r]) Tryz.func117 rfl rfl rfl rfl fun X hN => ?_⟩
 unfold y0t at H
 refine z0c ?_
 refine z0b hN rfl ?_
 refine qe rfl ?_
 refine z0c ?_
 refine z0c ?_
 refine z0b hN rfl ?_
 refine qd rfl ?_
 refine z0a (z5b y4g rfl) ?_
 refine z0a (z4c rfl rfl) ?_
 refine z0k _ rfl (fun h2 => ?_) (fun h2 => ?_)
 ·replace H:=ift h2 H
  refine z0c ?_
  refine z0b hN rfl ?_
  refine qe rfl ?_
  refine z0t ?_
  cases H
  exact ⟨trivial,.inl rfl,trivial⟩
 ·replace H:=iff_ h2 H
  refine z0q ?_
  refine z0c ?_
  refine z0c ?_
  refine z0b hN rfl ?_
  refine qd rfl ?_
  refine z0a (z5b y4g rfl) ?_
  refine qd rfl ?_
  refine z0w ?_
  obtain ⟨h5,H⟩:=gif H
  refine z32 (fun (k3:Nat) (s:Unit)=>[(8,.dat (vlst (List.map z1k l1))),(9,.dat (vint (l1.length:Int))),(10,.dat (vint (k3:Int)))]) (fun (k3:Nat) (s:Unit)=>[]) () H ⟨rfl,rfl,rfl,trivial⟩ trivial (fun _ _=>rfl) ?_ ?_
  ·rintro ⟨⟩ H
   replace H:y3p=some r:=H
   unfold y3p at H
   refine z0c ?_
   refine z0b hN rfl ?_
   refine z0a (z03 rfl rfl) ?_
   refine z0c ?_
   refine z0k _ rfl (fun h=>(lt_t h).elim) (fun h => ?_)
   refine z1j ?_
   refine z0c ?_
   refine z0b hN rfl ?_
   refine qe rfl ?_
   refine z0t ?_
   cases H
   exact ⟨trivial,.inl rfl,trivial⟩
  ·rintro k3 x6 ⟨⟩ q4 h7 h8 H hq4
   replace H:y1l k3 x6=some q4:=H
   unfold y1l at H
   refine z0c ?_
   refine z0b hN rfl ?_
   refine z0a (z03 rfl rfl) ?_
   refine z0c ?_
   refine z0k _ rfl (fun h => ?_) (fun h=>(lt_f h7 h).elim)
   refine z0q ?_
   refine z0c ?_
   refine z0w ?_
   refine z0c ?_
   refine z0b hN rfl ?_
   refine z0a (y2a y74 (fun _=>rfl) rfl rfl h8) ?_
   refine z0a (z24 tyS9 rfl (z3e h8) rfl) ?_
   refine qe rfl ?_
   refine z0c ?_
   refine z0b hN rfl ?_
   refine qd rfl ?_
   obtain ⟨r9,h10,H⟩:=bnd H
   refine z0a (z0z (x2h x6 r9 h10) ⟨.inl rfl,trivial⟩) ?_
   refine z0a (z3s rfl) ?_
   refine z0k _ rfl (fun h11 => ?_) (fun h11 => ?_)
   ·replace H:=ift h11 H
    refine z0c ?_
    refine z0b hN rfl ?_
    refine qe rfl ?_
    refine z0t ?_
    replace H:=retl H hq4
    cases H
    exact ⟨trivial,.inl rfl,trivial⟩
   ·replace H:=iff_ h11 H
    refine z0q ?_
    refine z0b hN rfl ?_
    refine z0a (z3h rfl rfl (by omega)) ?_
    refine qd rfl ?_
    exact ⟨_,z5d H,⟨rfl,rfl,rfl,trivial⟩,trivial⟩
theorem y7u (l1:(List z0r)) (r:(Int)) (H:z8l l1=some r):Fn Tryz.prog 90 [vlst (List.map z0y l1)] (z1x [vint r]):=by
 refine ⟨by kernel_rfl,z1s (us:=[vint r]) Tryz.func90 rfl rfl rfl rfl fun X hN => ?_⟩
 unfold z8l at H
 refine z0c ?_
 refine z0b hN rfl ?_
 refine qe rfl ?_
 refine z0c ?_
 refine z0c ?_
 refine z0b hN rfl ?_
 refine qd rfl ?_
 refine z0a (z5b x9h rfl) ?_
 refine z0a (z4c rfl rfl) ?_
 refine z0k _ rfl (fun h2 => ?_) (fun h2 => ?_)
 ·replace H:=ift h2 H
  refine z0c ?_
  refine z0b hN rfl ?_
  refine qe rfl ?_
  refine z0t ?_
  cases H
  exact ⟨trivial,.inl rfl,trivial⟩
 ·replace H:=iff_ h2 H
  refine z0q ?_
  refine z0c ?_
  refine z0c ?_
  refine z0b hN rfl ?_
  refine qd rfl ?_
  refine z0a (z5b x9h rfl) ?_
  refine qd rfl ?_
  refine z0w ?_
  obtain ⟨h5,H⟩:=gif H
  refine z32 (fun (k3:Nat) (s:Unit)=>[(0,.dat (vlst (List.map z0y l1))),(9,.dat (vlst (List.map z0y l1))),(10,.dat (vint (l1.length:Int))),(11,.dat (vint (k3:Int)))]) (fun (k3:Nat) (s:Unit)=>[]) () H ⟨rfl,rfl,rfl,rfl,trivial⟩ trivial (fun _ _=>rfl) ?_ ?_
  ·rintro ⟨⟩ H
   replace H:y2b=some r:=H
   unfold y2b at H
   refine z0c ?_
   refine z0b hN rfl ?_
   refine z0a (z03 rfl rfl) ?_
   refine z0c ?_
   refine z0k _ rfl (fun h=>(lt_t h).elim) (fun h => ?_)
   refine z1j ?_
   refine z0c ?_
   refine z0b hN rfl ?_
   refine qe rfl ?_
   refine z0t ?_
   cases H
   exact ⟨trivial,.inl rfl,trivial⟩
  ·rintro k3 x6 ⟨⟩ q4 h7 h8 H hq4
   replace H:y0c l1 k3 x6=some q4:=H
   unfold y0c at H
   refine z0c ?_
   refine z0b hN rfl ?_
   refine z0a (z03 rfl rfl) ?_
   refine z0c ?_
   refine z0k _ rfl (fun h => ?_) (fun h=>(lt_f h7 h).elim)
   refine z0q ?_
   refine z0c ?_
   refine z0w ?_
   refine z0c ?_
   refine z0b hN rfl ?_
   refine qd rfl ?_
   refine z0a (y2a x9i (fun _=>rfl) rfl rfl h8) ?_
   refine z0a (z2l x1p rfl (z3e h8) rfl) ?_
   refine z0g (z1m 1 x0w rfl) rfl ?_
   refine qe rfl ?_
   refine z0g (z08 x1p rfl rfl rfl rfl) rfl ?_
   refine z0c ?_
   refine z0c ?_
   refine z0b hN rfl ?_
   refine z0a (z0m y6q rfl) ?_
   refine z0h (z0l tyS9 rfl rfl) rfl ?_
   obtain ⟨r9,h10,H⟩:=bnd H
   refine z0a (z0z (y6g x6.Key r9 h10) ⟨.inl rfl,trivial⟩) ?_
   refine z0a (z3s rfl) ?_
   refine z0k _ rfl (fun h11 => ?_) (fun h11 => ?_)
   ·replace H:=ift h11 H
    refine z0c ?_
    refine z0b hN rfl ?_
    refine qe rfl ?_
    refine z0t ?_
    replace H:=retl H hq4
    cases H
    exact ⟨trivial,.inl rfl,trivial⟩
   ·replace H:=iff_ h11 H
    refine z0q ?_
    refine z0c ?_
    refine z07 (ι:=Bool) (fun i=>[(0,.dat (vlst (List.map z0y l1))),(4,.ptr 1 0),(9,.dat (vlst (List.map z0y l1))),(10,.dat (vint (l1.length:Int))),(11,.dat (vint (k3:Int))),(32,.dat (z1p i))]) (fun i=>[(1,.box none 107 [.dat (vstr x6.Key),.dat (vlst (List.map z1k x6.Scopes))])]) (fun i=>z45 x6 i=some q4) (fun i=>rfl) ?_ ?_
    ·skip
     refine z2n mixed hN rfl rfl ?_
     refine qd rfl ?_
     refine z0a (z4c rfl rfl) ?_
     refine qd rfl ?_
     refine z15 (j:=2) rfl rfl (fun h12 => ?_) (fun h12 => ?_) rfl
     ·have h13:=un1 h12
      replace H:=ift h13 H
      refine z04 rfl rfl h12 (z0m y6q rfl) ?_
      refine z5r rfl rfl h12 (z0l tyS9 rfl rfl) rfl ?_
      refine z04 rfl rfl h12 (z0j (.dat _) rfl) ?_
      refine z04 rfl rfl h12 (z0j (.dat _) rfl) ?_
      refine z04 rfl rfl h12 (y7j rfl rfl (by omega)) ?_
      obtain ⟨x14,h15,H⟩:=bnd H
      refine z04 rfl rfl h12 (y1q x9i (fun _=>rfl) rfl rfl h15) ?_
      refine z04 rfl rfl h12 (y20 y6q rfl) ?_
      refine z04 rfl rfl h12 (z24 tyS9 rfl (z3e (z1n h15).2) rfl) ?_
      refine z04 rfl rfl h12 (y8k rfl rfl) ?_
      refine z0a (z1t rfl (bTT h13) rfl) ?_
      refine ⟨rfl,?_⟩
      exact ⟨(Op.bytesLess x6.Key x14.Key || x6.Key == x14.Key),H,⟨rfl,rfl,rfl,rfl,rfl,rfl,trivial⟩,⟨rfl,trivial⟩⟩
     ·have h16:=un2 h12
      replace H:=iff_ h16 H
      refine z0n rfl rfl h12 ?_
      refine z0n rfl rfl h12 ?_
      refine z0n rfl rfl h12 ?_
      refine z0n rfl rfl h12 ?_
      refine z0n rfl rfl h12 ?_
      refine z0n rfl rfl h12 ?_
      refine z0n rfl rfl h12 ?_
      refine z0n rfl rfl h12 ?_
      refine z0n rfl rfl h12 ?_
      refine z0a (z1l rfl (bFF h16) rfl) ?_
      refine ⟨rfl,?_⟩
      exact ⟨false,H,⟨rfl,rfl,rfl,rfl,rfl,rfl,trivial⟩,⟨rfl,trivial⟩⟩
    ·rintro v17 H
     replace H:z45 x6 v17=some q4:=H
     unfold z45 at H
     refine z0k _ rfl (fun h18 => ?_) (fun h18 => ?_)
     ·replace H:=ift h18 H
      refine z0c ?_
      refine z0b hN rfl ?_
      refine qe rfl ?_
      refine z0t ?_
      replace H:=retl H hq4
      cases H
      exact ⟨trivial,.inl rfl,trivial⟩
     ·replace H:=iff_ h18 H
      refine z0q ?_
      refine z0c ?_
      refine z0b hN rfl ?_
      refine z0a (z0m x72 rfl) ?_
      refine z0h (z0l w5d rfl rfl) rfl ?_
      obtain ⟨r19,h20,H⟩:=bnd H
      refine z0a (z0z (y89 x6.Scopes r19 h20) ⟨.inl rfl,trivial⟩) ?_
      refine qe rfl ?_
      refine z0c ?_
      refine z0b hN rfl ?_
      refine qd rfl ?_
      refine z0a (z6y rfl rfl) ?_
      refine z0k _ rfl (fun h21 => ?_) (fun h21 => ?_)
      ·replace H:=ift h21 H
       refine z0c ?_
       refine z0b hN rfl ?_
       refine qd rfl ?_
       refine qe rfl ?_
       refine z0t ?_
       replace H:=retl H hq4
       cases H
       exact ⟨trivial,.inl rfl,trivial⟩
      ·replace H:=iff_ h21 H
       refine z0q ?_
       refine z0b hN rfl ?_
       refine z0a (z3h rfl rfl (by omega)) ?_
       refine qd rfl ?_
       exact ⟨_,z5d H,⟨rfl,rfl,rfl,rfl,trivial⟩,trivial⟩
theorem z8y (x1:(List z0r)) (target2:Bs) (p2:z0r→Bs→Option (Int)) (fv2:Nat) (us2:List V) (hp2:∀ a0 a1 r,p2 a0 a1=some r→Fn Tryz.prog fv2 ([vagg (z0y a0),vstr a1]++us2) (z1x [vint r])) (r:(Int×Bool)) (H:z2i x1 target2 p2=some r):Fn Tryz.prog 95 [vlst (List.map z0y x1),vstr target2,vfn fv2 us2] (z1x [vint r.1,z1p r.2]):=by
 refine ⟨by kernel_rfl,z1s (us:=[vint r.1,z1p r.2]) Tryz.func95 rfl rfl rfl rfl fun X hN => ?_⟩
 unfold z2i at H
 refine z0c ?_
 refine z0b hN rfl ?_
 refine qe rfl ?_
 refine qe rfl ?_
 refine z0c ?_
 refine z0b hN rfl ?_
 refine qd rfl ?_
 refine z0a (z5b x9h rfl) ?_
 refine qe rfl ?_
 refine z0c ?_
 refine z0b hN rfl ?_
 refine qd rfl ?_
 refine qe rfl ?_
 refine qe rfl ?_
 refine z07 (ι:=Int) (fun i=>[(0,.dat (vlst (List.map z0y x1))),(1,.dat (vstr target2)),(2,.dat (vfn fv2 us2)),(8,.dat (vint (x1.length:Int))),(9,.dat (vint i))]) (fun i=>[]) (fun i=>z2e x1 target2 p2 i=some r) (fun i=>rfl) ?_ ?_
 ·skip
  refine z0w ?_
  refine z9e (fun (s:Int×Int)=>[(0,.dat (vlst (List.map z0y x1))),(1,.dat (vstr target2)),(2,.dat (vfn fv2 us2)),(8,.dat (vint (x1.length:Int))),(9,.dat (vint s.1)),(10,.dat (vint s.2))]) (fun (s:Int×Int)=>[]) (0,(x1.length:Int)) H ⟨rfl,rfl,rfl,rfl,rfl,rfl,trivial⟩ trivial (fun _=>rfl) ?_
  rintro ⟨i3,j4⟩ q5 H hq5
  replace H:z28 x1 target2 p2 i3 j4=some q5:=H
  unfold z28 at H
  refine z0c ?_
  refine z0c ?_
  refine z0b hN rfl ?_
  refine qd rfl ?_
  refine qd rfl ?_
  refine z0a (z03 rfl rfl) ?_
  refine z0k _ rfl (fun h6 => ?_) (fun h6 => ?_)
  ·replace H:=ift h6 H
   refine z0q ?_
   refine z0w ?_
   refine z0c ?_
   refine z0b hN rfl ?_
   refine qd rfl ?_
   refine qd rfl ?_
   refine z0a (z05 _ rfl rfl (.inl ⟨rfl,rfl⟩)) ?_
   refine z0a (y21 tyU3 y6p rfl) ?_
   refine z0a (z09 (y85 rfl rfl (by decide)) rfl) ?_
   refine z0a (y21 y6p tyU3 rfl) ?_
   refine qe rfl ?_
   refine z0c ?_
   refine z0b hN rfl ?_
   refine qd rfl ?_
   refine qd rfl ?_
   refine qd rfl ?_
   obtain ⟨x7,h8,H⟩:=bnd H
   refine z0a (y1q x9i (fun _=>rfl) rfl rfl h8) ?_
   refine z0a (z2l x1p rfl (z3e (z1n h8).2) rfl) ?_
   refine qd rfl ?_
   obtain ⟨r9,h10,H⟩:=bnd H
   refine z0a (z9f (hp2 x7 target2 r9 h10) rfl ⟨.inl rfl,.inl rfl,trivial⟩) ?_
   refine z0a (z03 rfl rfl) ?_
   refine z0k _ rfl (fun h11 => ?_) (fun h11 => ?_)
   ·replace H:=ift h11 H
    refine z0b hN rfl ?_
    refine qd rfl ?_
    refine z0a (z05 _ rfl rfl (.inl ⟨rfl,rfl⟩)) ?_
    refine qe rfl ?_
    exact ⟨_,z5d H,⟨rfl,rfl,rfl,rfl,rfl,rfl,trivial⟩,trivial⟩
   ·replace H:=iff_ h11 H
    refine z0b hN rfl ?_
    refine qd rfl ?_
    refine qe rfl ?_
    exact ⟨_,z5d H,⟨rfl,rfl,rfl,rfl,rfl,rfl,trivial⟩,trivial⟩
  ·replace H:=iff_ h6 H
   refine z1j ?_
   replace H:=outl H hq5
   exact ⟨i3,H,⟨rfl,rfl,rfl,rfl,rfl,trivial⟩,trivial⟩
 ·rintro i12 H
  replace H:z2e x1 target2 p2 i12=some r:=H
  unfold z2e at H
  refine z07 (ι:=Bool) (fun i=>[(6,.dat (vint i12)),(7,.dat (z1p i))]) (fun i=>[]) (fun i=>z1u i12 i=some r) (fun i=>rfl) ?_ ?_
  ·skip
   refine z0b hN rfl ?_
   refine qd rfl ?_
   refine qd rfl ?_
   refine qd rfl ?_
   refine z0a (z03 rfl rfl) ?_
   refine qd rfl ?_
   refine z15 (j:=4) rfl rfl (fun h13 => ?_) (fun h13 => ?_) rfl
   ·have h14:=un1 h13
    replace H:=ift h14 H
    refine z04 rfl rfl h13 (z0j (.dat _) rfl) ?_
    refine z04 rfl rfl h13 (z0j (.dat _) rfl) ?_
    refine z04 rfl rfl h13 (z0j (.dat _) rfl) ?_
    obtain ⟨x15,h16,H⟩:=bnd H
    refine z04 rfl rfl h13 (y1q x9i (fun _=>rfl) rfl rfl h16) ?_
    refine z04 rfl rfl h13 (z2l x1p rfl (z3e (z1n h16).2) rfl) ?_
    refine z04 rfl rfl h13 (z0j (.dat _) rfl) ?_
    obtain ⟨r17,h18,H⟩:=bnd H
    refine z04 rfl rfl h13 (z9f (hp2 x15 target2 r17 h18) rfl ⟨.inl rfl,.inl rfl,trivial⟩) ?_
    refine z04 rfl rfl h13 (z2g rfl rfl) ?_
    refine z0a (z1t rfl (bTT h14) rfl) ?_
    refine qe rfl ?_
    refine qe rfl ?_
    exact ⟨decide (r17=0),H,⟨rfl,rfl,trivial⟩,trivial⟩
   ·have h19:=un2 h13
    replace H:=iff_ h19 H
    refine z0n rfl rfl h13 ?_
    refine z0n rfl rfl h13 ?_
    refine z0n rfl rfl h13 ?_
    refine z0n rfl rfl h13 ?_
    refine z0n rfl rfl h13 ?_
    refine z0n rfl rfl h13 ?_
    refine z0n rfl rfl h13 ?_
    refine z0n rfl rfl h13 ?_
    refine z0a (z1l rfl (bFF h19) rfl) ?_
    refine qe rfl ?_
    refine qe rfl ?_
    exact ⟨false,H,⟨rfl,rfl,trivial⟩,trivial⟩
  ·rintro v20 H
   replace H:z1u i12 v20=some r:=H
   unfold z1u at H
   refine z0t ?_
   cases H
   exact ⟨trivial,.inl rfl,.inl rfl,trivial⟩
theorem y8r (p1:z0r) (k2:Bs) (r:(Int)) (H:z8g p1 k2=some r):Fn Tryz.prog 96 [vagg (z0y p1),vstr k2] (z1x [vint r]):=by
 refine ⟨by kernel_rfl,z1s (us:=[vint r]) Tryz.func96 rfl rfl rfl rfl fun X hN => ?_⟩
 unfold z8g at H
 refine z0c ?_
 refine z0b hN rfl ?_
 refine z0g (z16 1 rfl) rfl ?_
 refine qe rfl ?_
 refine z0c ?_
 refine z0b hN rfl ?_
 refine z0a (z0m y6q rfl) ?_
 refine z0h (z0l tyS9 rfl rfl) rfl ?_
 refine qd rfl ?_
 obtain ⟨r3,h4,H⟩:=bnd H
 refine z0a (z0z (z8x p1.Key k2 r3 h4) ⟨.inl rfl,.inl rfl,trivial⟩) ?_
 refine qe rfl ?_
 refine z0t ?_
 cases H
 exact ⟨trivial,.inl rfl,trivial⟩
theorem y22 (c1:z0i) (key2:Bs) (r:(Int×Bool)) (H:z62 c1 key2=some r):Fn Tryz.prog 52 [vagg (z1h c1),vstr key2] (z1x [vint r.1,z1p r.2]):=by
 refine ⟨by kernel_rfl,z1s (us:=[vint r.1,z1p r.2]) Tryz.func52 rfl rfl rfl rfl fun X hN => ?_⟩
 unfold z62 at H
 refine z0c ?_
 refine z0b hN rfl ?_
 refine z0g (z16 1 rfl) rfl ?_
 refine qe rfl ?_
 refine qe rfl ?_
 refine z0c ?_
 refine z0b hN rfl ?_
 refine z0a (z0m y84 rfl) ?_
 refine z0h (z0l x6o rfl rfl) rfl ?_
 refine qd rfl ?_
 obtain ⟨r3,h4,H⟩:=bnd H
 refine z0a (y76 (z8y c1.Products key2 (fun (a0:z0r) (a1:Bs)=>z8g a0 a1) 96 [] (fun a0 a1 r h=>y8r a0 a1 r h) r3 h4) ⟨.inl (.inl rfl),.inl (.inl rfl),.inr ⟨_,rfl,rfl⟩,trivial⟩) ?_
 refine z0a (z2y rfl rfl) ?_
 refine z0a (z2y rfl rfl) ?_
 refine qe rfl ?_
 refine qe rfl ?_
 refine z0t ?_
 cases H
 exact ⟨trivial,.inl rfl,.inl rfl,trivial⟩
theorem z88 (n1:Int) (low2:Int) (high3:Int) (r:(Bool)) (H:z6r n1 low2 high3=some r):Fn Tryz.prog 53 [vint n1,vint low2,vint high3] (z1x [z1p r]):=by
 refine ⟨by kernel_rfl,z1s (us:=[z1p r]) Tryz.func53 rfl rfl rfl rfl fun X hN => ?_⟩
 unfold z6r at H
 refine z0c ?_
 refine z0b hN rfl ?_
 refine qe rfl ?_
 refine z0c ?_
 refine z0b hN rfl ?_
 refine qd rfl ?_
 refine qd rfl ?_
 refine z0a (z03 rfl rfl) ?_
 refine qd rfl ?_
 refine y4h rfl rfl (fun hc=>z0j (.dat _) rfl) ?_
 refine y4h rfl rfl (fun hc=>z0j (.dat _) rfl) ?_
 refine y4h rfl rfl (fun hc=>z4c (cnd (c:=(!(decide (n1 < low2)))) hc) (cnd (c:=(!(decide (n1 < low2)))) hc)) ?_
 refine z0a (z8q rfl rfl (fun hb=>(cnd (c:=(!(decide (n1 < low2)))) (notI hb)))) ?_
 refine qe rfl ?_
 refine z0t ?_
 cases H
 exact ⟨trivial,.inl rfl,trivial⟩
theorem y9c (l1:(List z02)) (r:(Int)) (H:y0v l1=some r):Fn Tryz.prog 118 [vlst (List.map z1y l1)] (z1x [vint r]):=by
 refine ⟨by kernel_rfl,z1s (us:=[vint r]) Tryz.func118 rfl rfl rfl rfl fun X hN => ?_⟩
 unfold y0v at H
 refine z0c ?_
 refine z0b hN rfl ?_
 refine qe rfl ?_
 refine z0c ?_
 refine z0c ?_
 refine z0b hN rfl ?_
 refine qd rfl ?_
 refine z0a (z5b x5k rfl) ?_
 refine z0a (z4c rfl rfl) ?_
 refine z0k _ rfl (fun h2 => ?_) (fun h2 => ?_)
 ·replace H:=ift h2 H
  refine z0c ?_
  refine z0b hN rfl ?_
  refine qe rfl ?_
  refine z0t ?_
  cases H
  exact ⟨trivial,.inl rfl,trivial⟩
 ·replace H:=iff_ h2 H
  refine z0q ?_
  refine z0c ?_
  refine z0c ?_
  refine z0b hN rfl ?_
  refine qd rfl ?_
  refine z0a (z5b x5k rfl) ?_
  refine qd rfl ?_
  refine z0w ?_
  obtain ⟨h5,H⟩:=gif H
  refine z32 (fun (k3:Nat) (s:Unit)=>[(0,.dat (vlst (List.map z1y l1))),(8,.dat (vlst (List.map z1y l1))),(9,.dat (vint (l1.length:Int))),(10,.dat (vint (k3:Int)))]) (fun (k3:Nat) (s:Unit)=>[]) () H ⟨rfl,rfl,rfl,rfl,trivial⟩ trivial (fun _ _=>rfl) ?_ ?_
  ·rintro ⟨⟩ H
   replace H:y1n l1=some r:=H
   unfold y1n at H
   refine z0c ?_
   refine z0b hN rfl ?_
   refine z0a (z03 rfl rfl) ?_
   refine z0c ?_
   refine z0k _ rfl (fun h=>(lt_t h).elim) (fun h => ?_)
   refine z1j ?_
   refine z0c ?_
   refine z07 (ι:=Bool) (fun i=>[(46,.dat (z1p i))]) (fun i=>[]) (fun i=>z8e i=some r) (fun i=>rfl) ?_ ?_
   ·skip
    refine z0b hN rfl ?_
    refine qd rfl ?_
    refine z0a (z5b x5k rfl) ?_
    refine z0a (z4c rfl rfl) ?_
    refine qd rfl ?_
    refine z15 (j:=3) rfl rfl (fun h7 => ?_) (fun h7 => ?_) rfl
    ·have h8:=un1 h7
     replace H:=ift h8 H
     refine z04 rfl rfl h7 (z0j (.dat _) rfl) ?_
     obtain ⟨x9,h10,H⟩:=bnd H
     refine z04 rfl rfl h7 (y2a x5m (fun _=>rfl) rfl rfl h10) ?_
     refine z04 rfl rfl h7 (y20 y5d rfl) ?_
     refine z04 rfl rfl h7 (z24 tyS3 rfl (z3e h10) rfl) ?_
     refine z04 rfl rfl h7 (z6y rfl rfl) ?_
     refine z0a (z1t rfl (bTT h8) rfl) ?_
     exact ⟨decide (x9.From≠1),H,⟨rfl,trivial⟩,trivial⟩
    ·have h11:=un2 h7
     replace H:=iff_ h11 H
     refine z0n rfl rfl h7 ?_
     refine z0n rfl rfl h7 ?_
     refine z0n rfl rfl h7 ?_
     refine z0n rfl rfl h7 ?_
     refine z0n rfl rfl h7 ?_
     refine z0a (z1l rfl (bFF h11) rfl) ?_
     exact ⟨false,H,⟨rfl,trivial⟩,trivial⟩
   ·rintro v12 H
    replace H:z8e v12=some r:=H
    unfold z8e at H
    refine z0k _ rfl (fun h13 => ?_) (fun h13 => ?_)
    ·replace H:=ift h13 H
     refine z0c ?_
     refine z0b hN rfl ?_
     refine qe rfl ?_
     refine z0t ?_
     cases H
     exact ⟨trivial,.inl rfl,trivial⟩
    ·replace H:=iff_ h13 H
     refine z0q ?_
     refine z0c ?_
     refine z0b hN rfl ?_
     refine qe rfl ?_
     refine z0t ?_
     cases H
     exact ⟨trivial,.inl rfl,trivial⟩
  ·rintro k3 x6 ⟨⟩ q4 h14 h15 H hq4
   replace H:z94 l1 k3 x6=some q4:=H
   unfold z94 at H
   refine z0c ?_
   refine z0b hN rfl ?_
   refine z0a (z03 rfl rfl) ?_
   refine z0c ?_
   refine z0k _ rfl (fun h => ?_) (fun h=>(lt_f h14 h).elim)
   refine z0q ?_
   refine z0c ?_
   refine z0w ?_
   refine z0c ?_
   refine z0b hN rfl ?_
   refine qd rfl ?_
   refine z0a (y2a x5m (fun _=>rfl) rfl rfl h15) ?_
   refine z0a (z2l x2y rfl (z3e h15) rfl) ?_
   refine z0g (z1m 1 x1m rfl) rfl ?_
   refine qe rfl ?_
   refine z0g (z08 x2y rfl rfl rfl rfl) rfl ?_
   refine z0c ?_
   refine z07 (ι:=Bool) (fun i=>[(0,.dat (vlst (List.map z1y l1))),(3,.dat (vint (k3:Int))),(4,.ptr 1 0),(8,.dat (vlst (List.map z1y l1))),(9,.dat (vint (l1.length:Int))),(10,.dat (vint (k3:Int))),(22,.dat (z1p i))]) (fun i=>[(1,.box none 118 [.dat (vint x6.From),.dat (vint x6.Cents)])]) (fun i=>z5s l1 k3 x6 i=some q4) (fun i=>rfl) ?_ ?_
   ·skip
    refine z0b hN rfl ?_
    refine z0a (z0m y5d rfl) ?_
    refine z0h (z0l tyS3 rfl rfl) rfl ?_
    obtain ⟨r16,h17,H⟩:=bnd H
    refine z0a (z0z (z88 x6.From 1 1000000000000 r16 h17) ⟨.inl rfl,.inl rfl,.inl rfl,trivial⟩) ?_
    refine qd rfl ?_
    refine z15 (j:=3) rfl rfl (fun h18 => ?_) (fun h18 => ?_) rfl
    ·have h19:=un3 h18
     replace H:=iff_ h19 H
     refine z04 rfl rfl h18 (z0m x3z rfl) ?_
     refine z5r rfl rfl h18 (z0l tyS3 rfl rfl) rfl ?_
     obtain ⟨r20,h21,H⟩:=bnd H
     refine z04 rfl rfl h18 (z0z (z88 x6.Cents 0 1000000 r20 h21) ⟨.inl rfl,.inl rfl,.inl rfl,trivial⟩) ?_
     refine z0a (z1l rfl (bFF h19) rfl) ?_
     exact ⟨r20,H,⟨rfl,rfl,rfl,rfl,rfl,rfl,rfl,trivial⟩,⟨rfl,trivial⟩⟩
    ·have h22:=un4 h18
     replace H:=ift h22 H
     refine z0n rfl rfl h18 ?_
     refine z0n rfl rfl h18 ?_
     refine z0n rfl rfl h18 ?_
     refine z0a (z1t rfl (bTT h22) rfl) ?_
     exact ⟨true,H,⟨rfl,rfl,rfl,rfl,rfl,rfl,rfl,trivial⟩,⟨rfl,trivial⟩⟩
   ·rintro v23 H
    replace H:z5s l1 k3 x6 v23=some q4:=H
    unfold z5s at H
    refine z0k _ rfl (fun h24 => ?_) (fun h24 => ?_)
    ·replace H:=ift h24 H
     refine z0c ?_
     refine z0b hN rfl ?_
     refine qe rfl ?_
     refine z0t ?_
     replace H:=retl H hq4
     cases H
     exact ⟨trivial,.inl rfl,trivial⟩
    ·replace H:=iff_ h24 H
     refine z0q ?_
     refine z07 (ι:=Bool) (fun i=>[(0,.dat (vlst (List.map z1y l1))),(8,.dat (vlst (List.map z1y l1))),(9,.dat (vint (l1.length:Int))),(10,.dat (vint (k3:Int))),(35,.dat (z1p i))]) (fun i=>[]) (fun i=>z8d i=some q4) (fun i=>rfl) ?_ ?_
     ·skip
      refine z2n mixed hN rfl rfl ?_
      refine qd rfl ?_
      refine z0a (z4c rfl rfl) ?_
      refine qd rfl ?_
      refine z15 (j:=2) rfl rfl (fun h25 => ?_) (fun h25 => ?_) rfl
      ·have h26:=un1 h25
       replace H:=ift h26 H
       refine z04 rfl rfl h25 (z0m y5d rfl) ?_
       refine z5r rfl rfl h25 (z0l tyS3 rfl rfl) rfl ?_
       refine z04 rfl rfl h25 (z0j (.dat _) rfl) ?_
       refine z04 rfl rfl h25 (z0j (.dat _) rfl) ?_
       refine z04 rfl rfl h25 (y7j rfl rfl (by omega)) ?_
       obtain ⟨x27,h28,H⟩:=bnd H
       refine z04 rfl rfl h25 (y1q x5m (fun _=>rfl) rfl rfl h28) ?_
       refine z04 rfl rfl h25 (y20 y5d rfl) ?_
       refine z04 rfl rfl h25 (z24 tyS3 rfl (z3e (z1n h28).2) rfl) ?_
       refine z04 rfl rfl h25 (y4p rfl rfl) ?_
       refine z0a (z1t rfl (bTT h26) rfl) ?_
       refine ⟨rfl,?_⟩
       exact ⟨decide (x6.From≤x27.From),H,⟨rfl,rfl,rfl,rfl,rfl,trivial⟩,trivial⟩
      ·have h29:=un2 h25
       replace H:=iff_ h29 H
       refine z0n rfl rfl h25 ?_
       refine z0n rfl rfl h25 ?_
       refine z0n rfl rfl h25 ?_
       refine z0n rfl rfl h25 ?_
       refine z0n rfl rfl h25 ?_
       refine z0n rfl rfl h25 ?_
       refine z0n rfl rfl h25 ?_
       refine z0n rfl rfl h25 ?_
       refine z0n rfl rfl h25 ?_
       refine z0a (z1l rfl (bFF h29) rfl) ?_
       refine ⟨rfl,?_⟩
       exact ⟨false,H,⟨rfl,rfl,rfl,rfl,rfl,trivial⟩,trivial⟩
     ·rintro v30 H
      replace H:z8d v30=some q4:=H
      unfold z8d at H
      refine z0k _ rfl (fun h31 => ?_) (fun h31 => ?_)
      ·replace H:=ift h31 H
       refine z0c ?_
       refine z0b hN rfl ?_
       refine qe rfl ?_
       refine z0t ?_
       replace H:=retl H hq4
       cases H
       exact ⟨trivial,.inl rfl,trivial⟩
      ·replace H:=iff_ h31 H
       refine z0q ?_
       refine z0b hN rfl ?_
       refine z0a (z3h rfl rfl (by omega)) ?_
       refine qd rfl ?_
       exact ⟨_,z5d H,⟨rfl,rfl,rfl,rfl,trivial⟩,trivial⟩
theorem y9x (v1:z0i) (v2:Int) (r:(Int)) (H:y09 v1 v2=some r):Fn Tryz.prog 91 [vagg (z1h v1),vint v2] (z1x [vint r]):=by
 refine ⟨by kernel_rfl,z1s (us:=[vint r]) Tryz.func91 rfl rfl rfl rfl fun X hN => ?_⟩
 unfold y09 at H
 refine z0c ?_
 refine z0b hN rfl ?_
 refine z0g (z16 1 rfl) rfl ?_
 refine qe rfl ?_
 refine z0c ?_
 refine z0b hN rfl ?_
 refine z0a (z0m y0o rfl) ?_
 refine z0h (z0l y57 rfl rfl) rfl ?_
 refine qd rfl ?_
 obtain ⟨x3,h4,H⟩:=bnd H
 refine z0a (y1q x0b (fun _=>rfl) rfl rfl h4) ?_
 refine z0a (z2l y47 rfl (z3e (z1n h4).2) rfl) ?_
 refine z0g (z1m 2 y80 rfl) rfl ?_
 refine z0g (z08 y47 rfl rfl rfl rfl) rfl ?_
 refine z0c ?_
 refine z0w ?_
 refine z0c ?_
 refine z0b hN rfl ?_
 refine z0a (z0m y4l rfl) ?_
 refine z0h (z0l tyS9 rfl rfl) rfl ?_
 obtain ⟨r5,h6,H⟩:=bnd H
 refine z0a (z0z (y6g x3.Key r5 h6) ⟨.inl rfl,trivial⟩) ?_
 refine z0a (z3s rfl) ?_
 refine qe rfl ?_
 refine z0k _ rfl (fun h7 => ?_) (fun h7 => ?_)
 ·replace H:=ift h7 H
  refine z0c ?_
  refine z0b hN rfl ?_
  refine qe rfl ?_
  refine z0t ?_
  cases H
  exact ⟨trivial,.inl rfl,trivial⟩
 ·replace H:=iff_ h7 H
  refine z07 (ι:=Bool) (fun i=>[(2,.ptr 1 0),(5,.ptr 2 0),(19,.dat (z1p i))]) (fun i=>[(1,.box none 29 [.dat (vlst (List.map z0y v1.Products)),.dat (vlst (List.map z01 v1.Plans))]),(2,.box none 83 [.dat (vstr x3.Key),.dat (vstr x3.Product),.dat (vint x3.Base),.dat (vint x3.Free),.dat (vlst (List.map z1y x3.Tiers)),.dat (vint x3.Limit),.dat (vint x3.Trial),.dat (z1p x3.Asked)])]) (fun i=>z7b v1 x3 i=some r) (fun i=>rfl) ?_ ?_
  ·skip
   refine z2n mixed hN rfl rfl ?_
   refine qd rfl ?_
   refine z0a (z4c rfl rfl) ?_
   refine qd rfl ?_
   refine z15 (j:=2) rfl rfl (fun h8 => ?_) (fun h8 => ?_) rfl
   ·have h9:=un1 h8
    replace H:=ift h9 H
    refine z04 rfl rfl h8 (z0m y4l rfl) ?_
    refine z5r rfl rfl h8 (z0l tyS9 rfl rfl) rfl ?_
    refine z04 rfl rfl h8 (z0m y0o rfl) ?_
    refine z5r rfl rfl h8 (z0l y57 rfl rfl) rfl ?_
    refine z04 rfl rfl h8 (z0j (.dat _) rfl) ?_
    refine z04 rfl rfl h8 (z05 _ rfl rfl (.inr (.inl ⟨rfl,rfl⟩))) ?_
    obtain ⟨x10,h11,H⟩:=bnd H
    refine z04 rfl rfl h8 (y1q x0b (fun _=>rfl) rfl rfl h11) ?_
    refine z04 rfl rfl h8 (y20 y4l rfl) ?_
    refine z04 rfl rfl h8 (z24 tyS9 rfl (z3e (z1n h11).2) rfl) ?_
    refine z04 rfl rfl h8 (y8k rfl rfl) ?_
    refine z0a (z1t rfl (bTT h9) rfl) ?_
    refine qe rfl ?_
    refine ⟨rfl,?_⟩
    exact ⟨(Op.bytesLess x3.Key x10.Key || x3.Key == x10.Key),H,⟨rfl,rfl,rfl,trivial⟩,⟨rfl,rfl,trivial⟩⟩
   ·have h12:=un2 h8
    replace H:=iff_ h12 H
    refine z0n rfl rfl h8 ?_
    refine z0n rfl rfl h8 ?_
    refine z0n rfl rfl h8 ?_
    refine z0n rfl rfl h8 ?_
    refine z0n rfl rfl h8 ?_
    refine z0n rfl rfl h8 ?_
    refine z0n rfl rfl h8 ?_
    refine z0n rfl rfl h8 ?_
    refine z0n rfl rfl h8 ?_
    refine z0n rfl rfl h8 ?_
    refine z0a (z1l rfl (bFF h12) rfl) ?_
    refine qe rfl ?_
    refine ⟨rfl,?_⟩
    exact ⟨false,H,⟨rfl,rfl,rfl,trivial⟩,⟨rfl,rfl,trivial⟩⟩
  ·rintro v13 H
   replace H:z7b v1 x3 v13=some r:=H
   unfold z7b at H
   refine z0k _ rfl (fun h14 => ?_) (fun h14 => ?_)
   ·replace H:=ift h14 H
    refine z0c ?_
    refine z0b hN rfl ?_
    refine qe rfl ?_
    refine z0t ?_
    cases H
    exact ⟨trivial,.inl rfl,trivial⟩
   ·replace H:=iff_ h14 H
    refine z0q ?_
    refine z0c ?_
    refine z0c ?_
    refine z0b hN rfl ?_
    refine z0h (z06 z5x rfl rfl rfl) rfl ?_
    refine z0a (z0m x0a rfl) ?_
    refine z0h (z0l tyS9 rfl rfl) rfl ?_
    obtain ⟨r15,h16,H⟩:=bnd H
    refine z0a (z0z (y22 v1 x3.Product r15 h16) ⟨.inl rfl,.inl rfl,trivial⟩) ?_
    refine qd rfl ?_
    refine z0a (z2y rfl rfl) ?_
    refine z0a (z2y rfl rfl) ?_
    refine qe rfl ?_
    refine qe rfl ?_
    refine z0c ?_
    refine z0b hN rfl ?_
    refine qd rfl ?_
    refine z0a (z3s rfl) ?_
    refine z0k _ rfl (fun h17 => ?_) (fun h17 => ?_)
    ·replace H:=ift h17 H
     refine z0c ?_
     refine z0b hN rfl ?_
     refine qe rfl ?_
     refine z0t ?_
     cases H
     exact ⟨trivial,.inl rfl,trivial⟩
    ·replace H:=iff_ h17 H
     refine z0q ?_
     refine z0c ?_
     refine z07 (ι:=Bool) (fun i=>[(5,.ptr 2 0),(50,.dat (z1p i))]) (fun i=>[(2,.box none 83 [.dat (vstr x3.Key),.dat (vstr x3.Product),.dat (vint x3.Base),.dat (vint x3.Free),.dat (vlst (List.map z1y x3.Tiers)),.dat (vint x3.Limit),.dat (vint x3.Trial),.dat (z1p x3.Asked)])]) (fun i=>z8s x3 i=some r) (fun i=>rfl) ?_ ?_
     ·skip
      refine z0b hN rfl ?_
      refine z0a (z0m x6r rfl) ?_
      refine z0h (z0l tyS3 rfl rfl) rfl ?_
      obtain ⟨r18,h19,H⟩:=bnd H
      refine z0a (z0z (z88 x3.Base 0 1000000000000 r18 h19) ⟨.inl rfl,.inl rfl,.inl rfl,trivial⟩) ?_
      refine qd rfl ?_
      refine z15 (j:=3) rfl rfl (fun h20 => ?_) (fun h20 => ?_) rfl
      ·have h21:=un3 h20
       replace H:=iff_ h21 H
       refine z04 rfl rfl h20 (z0m x3v rfl) ?_
       refine z5r rfl rfl h20 (z0l tyS3 rfl rfl) rfl ?_
       obtain ⟨r22,h23,H⟩:=bnd H
       refine z04 rfl rfl h20 (z0z (z88 x3.Free 0 1000000000000 r22 h23) ⟨.inl rfl,.inl rfl,.inl rfl,trivial⟩) ?_
       refine z0a (z1l rfl (bFF h21) rfl) ?_
       exact ⟨r22,H,⟨rfl,rfl,trivial⟩,⟨rfl,trivial⟩⟩
      ·have h24:=un4 h20
       replace H:=ift h24 H
       refine z0n rfl rfl h20 ?_
       refine z0n rfl rfl h20 ?_
       refine z0n rfl rfl h20 ?_
       refine z0a (z1t rfl (bTT h24) rfl) ?_
       exact ⟨true,H,⟨rfl,rfl,trivial⟩,⟨rfl,trivial⟩⟩
     ·rintro v25 H
      replace H:z8s x3 v25=some r:=H
      unfold z8s at H
      refine z0k _ rfl (fun h26 => ?_) (fun h26 => ?_)
      ·replace H:=ift h26 H
       refine z0c ?_
       refine z0b hN rfl ?_
       refine qe rfl ?_
       refine z0t ?_
       cases H
       exact ⟨trivial,.inl rfl,trivial⟩
      ·replace H:=iff_ h26 H
       refine z0q ?_
       refine z0c ?_
       refine z0c ?_
       refine z0b hN rfl ?_
       refine z0a (z0m y39 rfl) ?_
       refine z0h (z0l y81 rfl rfl) rfl ?_
       obtain ⟨r27,h28,H⟩:=bnd H
       refine z0a (z0z (y9c x3.Tiers r27 h28) ⟨.inl rfl,trivial⟩) ?_
       refine qe rfl ?_
       refine z0c ?_
       refine z0b hN rfl ?_
       refine qd rfl ?_
       refine z0a (z6y rfl rfl) ?_
       refine z0k _ rfl (fun h29 => ?_) (fun h29 => ?_)
       ·replace H:=ift h29 H
        refine z0c ?_
        refine z0b hN rfl ?_
        refine qd rfl ?_
        refine qe rfl ?_
        refine z0t ?_
        cases H
        exact ⟨trivial,.inl rfl,trivial⟩
       ·replace H:=iff_ h29 H
        refine z0q ?_
        refine z0c ?_
        refine z07 (ι:=Bool) (fun i=>[(64,.dat (z1p i))]) (fun i=>[]) (fun i=>z8r i=some r) (fun i=>rfl) ?_ ?_
        ·skip
         refine z0b hN rfl ?_
         refine z0a (z0m y82 rfl) ?_
         refine z0h (z0l tyS3 rfl rfl) rfl ?_
         obtain ⟨r30,h31,H⟩:=bnd H
         refine z0a (z0z (z88 x3.Limit (-1) 1000000000000 r30 h31) ⟨.inl rfl,.inl rfl,.inl rfl,trivial⟩) ?_
         refine qd rfl ?_
         refine z15 (j:=3) rfl rfl (fun h32 => ?_) (fun h32 => ?_) rfl
         ·have h33:=un3 h32
          replace H:=iff_ h33 H
          refine z04 rfl rfl h32 (z0m x6q rfl) ?_
          refine z5r rfl rfl h32 (z0l tyS3 rfl rfl) rfl ?_
          obtain ⟨r34,h35,H⟩:=bnd H
          refine z04 rfl rfl h32 (z0z (z88 x3.Trial 0 132 r34 h35) ⟨.inl rfl,.inl rfl,.inl rfl,trivial⟩) ?_
          refine z0a (z1l rfl (bFF h33) rfl) ?_
          exact ⟨r34,H,⟨rfl,trivial⟩,trivial⟩
         ·have h36:=un4 h32
          replace H:=ift h36 H
          refine z0n rfl rfl h32 ?_
          refine z0n rfl rfl h32 ?_
          refine z0n rfl rfl h32 ?_
          refine z0a (z1t rfl (bTT h36) rfl) ?_
          exact ⟨true,H,⟨rfl,trivial⟩,trivial⟩
        ·rintro v37 H
         replace H:z8r v37=some r:=H
         unfold z8r at H
         refine z0k _ rfl (fun h38 => ?_) (fun h38 => ?_)
         ·replace H:=ift h38 H
          refine z0c ?_
          refine z0b hN rfl ?_
          refine qe rfl ?_
          refine z0t ?_
          cases H
          exact ⟨trivial,.inl rfl,trivial⟩
         ·replace H:=iff_ h38 H
          refine z0q ?_
          refine z0c ?_
          refine z0b hN rfl ?_
          refine qe rfl ?_
          refine z0t ?_
          cases H
          exact ⟨trivial,.inl rfl,trivial⟩
theorem y3c (c1:z0i) (r:(Int)) (H:z6b c1=some r):Fn Tryz.prog 49 [vagg (z1h c1)] (z1x [vint r]):=by
 refine ⟨by kernel_rfl,z1s (us:=[vint r]) Tryz.func49 rfl rfl rfl rfl fun X hN => ?_⟩
 unfold z6b at H
 refine z0c ?_
 refine z0b hN rfl ?_
 refine z0g (z16 1 rfl) rfl ?_
 refine qe rfl ?_
 refine z0c ?_
 refine z0c ?_
 refine z0b hN rfl ?_
 refine z0a (z0m y84 rfl) ?_
 refine z0h (z0l x6o rfl rfl) rfl ?_
 obtain ⟨r2,h3,H⟩:=bnd H
 refine z0a (z0z (y7u c1.Products r2 h3) ⟨.inl rfl,trivial⟩) ?_
 refine qe rfl ?_
 refine z0c ?_
 refine z0b hN rfl ?_
 refine qd rfl ?_
 refine z0a (z6y rfl rfl) ?_
 refine z0k _ rfl (fun h4 => ?_) (fun h4 => ?_)
 ·replace H:=ift h4 H
  refine z0c ?_
  refine z0b hN rfl ?_
  refine qd rfl ?_
  refine qe rfl ?_
  refine z0t ?_
  cases H
  exact ⟨trivial,.inl rfl,trivial⟩
 ·replace H:=iff_ h4 H
  refine z0q ?_
  refine z0c ?_
  refine z0c ?_
  refine z0b hN rfl ?_
  refine z0a (z0m y0o rfl) ?_
  refine z0h (z0l y57 rfl rfl) rfl ?_
  refine z0a (z5b x1o rfl) ?_
  refine z0a (z4c rfl rfl) ?_
  refine z0k _ rfl (fun h5 => ?_) (fun h5 => ?_)
  ·replace H:=ift h5 H
   refine z0c ?_
   refine z0b hN rfl ?_
   refine qe rfl ?_
   refine z0t ?_
   cases H
   exact ⟨trivial,.inl rfl,trivial⟩
  ·replace H:=iff_ h5 H
   refine z0q ?_
   refine z0c ?_
   refine z0c ?_
   refine z0b hN rfl ?_
   refine z0a (z0m y0o rfl) ?_
   refine z0h (z0l y57 rfl rfl) rfl ?_
   refine z0a (z5b x1o rfl) ?_
   refine qd rfl ?_
   refine z0w ?_
   obtain ⟨h8,H⟩:=gif H
   refine z32 (fun (k6:Nat) (s:Unit)=>[(1,.ptr 1 0),(18,.dat (vint (c1.Plans.length:Int))),(19,.dat (vint (k6:Int)))]) (fun (k6:Nat) (s:Unit)=>[(1,.box none 29 [.dat (vlst (List.map z0y c1.Products)),.dat (vlst (List.map z01 c1.Plans))])]) () H ⟨rfl,rfl,rfl,trivial⟩ ⟨rfl,trivial⟩ (fun _ _=>rfl) ?_ ?_
   ·rintro ⟨⟩ H
    replace H:y2y=some r:=H
    unfold y2y at H
    refine z0c ?_
    refine z0b hN rfl ?_
    refine z0a (z03 rfl rfl) ?_
    refine z0c ?_
    refine z0k _ rfl (fun h=>(lt_t h).elim) (fun h => ?_)
    refine z1j ?_
    refine z0c ?_
    refine z0b hN rfl ?_
    refine qe rfl ?_
    refine z0t ?_
    cases H
    exact ⟨trivial,.inl rfl,trivial⟩
   ·rintro k6 x9 ⟨⟩ q7 h10 h11 H hq7
    replace H:y03 c1 k6 x9=some q7:=H
    unfold y03 at H
    refine z0c ?_
    refine z0b hN rfl ?_
    refine z0a (z03 rfl rfl) ?_
    refine z0c ?_
    refine z0k _ rfl (fun h => ?_) (fun h=>(lt_f h10 h).elim)
    refine z0q ?_
    refine z0c ?_
    refine z0w ?_
    refine z0c ?_
    refine z0b hN rfl ?_
    refine qd rfl ?_
    refine qe rfl ?_
    refine z0c ?_
    refine z0b hN rfl ?_
    refine z0h (z06 z5x rfl rfl rfl) rfl ?_
    refine qd rfl ?_
    obtain ⟨r12,h13,H⟩:=bnd H
    refine z0a (z0z (y9x c1 (k6:Int) r12 h13) ⟨.inl rfl,.inl rfl,trivial⟩) ?_
    refine qe rfl ?_
    refine z0c ?_
    refine z0b hN rfl ?_
    refine qd rfl ?_
    refine z0a (z6y rfl rfl) ?_
    refine z0k _ rfl (fun h14 => ?_) (fun h14 => ?_)
    ·replace H:=ift h14 H
     refine z0c ?_
     refine z0b hN rfl ?_
     refine qd rfl ?_
     refine qe rfl ?_
     refine z0t ?_
     replace H:=retl H hq7
     cases H
     exact ⟨trivial,.inl rfl,trivial⟩
    ·replace H:=iff_ h14 H
     refine z0q ?_
     refine z0b hN rfl ?_
     refine z0a (z3h rfl rfl (by omega)) ?_
     refine qd rfl ?_
     exact ⟨_,z5d H,⟨rfl,rfl,rfl,trivial⟩,⟨rfl,trivial⟩⟩
theorem y6u (l1:(List z0s)) (r:(Int)) (H:z9v l1=some r):Fn Tryz.prog 50 [vlst (List.map z1a l1)] (z1x [vint r]):=by
 refine ⟨by kernel_rfl,z1s (us:=[vint r]) Tryz.func50 rfl rfl rfl rfl fun X hN => ?_⟩
 unfold z9v at H
 refine z0c ?_
 refine z0b hN rfl ?_
 refine qe rfl ?_
 refine z0c ?_
 refine z0c ?_
 refine z0b hN rfl ?_
 refine qd rfl ?_
 refine z0a (z5b x3t rfl) ?_
 refine z0a (z4c rfl rfl) ?_
 refine z0k _ rfl (fun h2 => ?_) (fun h2 => ?_)
 ·replace H:=ift h2 H
  refine z0c ?_
  refine z0b hN rfl ?_
  refine qe rfl ?_
  refine z0t ?_
  cases H
  exact ⟨trivial,.inl rfl,trivial⟩
 ·replace H:=iff_ h2 H
  refine z0q ?_
  refine z0c ?_
  refine z0c ?_
  refine z0b hN rfl ?_
  refine qd rfl ?_
  refine z0a (z5b x3t rfl) ?_
  refine qd rfl ?_
  refine z0w ?_
  obtain ⟨h5,H⟩:=gif H
  refine z32 (fun (k3:Nat) (s:Unit)=>[(0,.dat (vlst (List.map z1a l1))),(8,.dat (vlst (List.map z1a l1))),(9,.dat (vint (l1.length:Int))),(10,.dat (vint (k3:Int)))]) (fun (k3:Nat) (s:Unit)=>[]) () H ⟨rfl,rfl,rfl,rfl,trivial⟩ trivial (fun _ _=>rfl) ?_ ?_
  ·rintro ⟨⟩ H
   replace H:y4b=some r:=H
   unfold y4b at H
   refine z0c ?_
   refine z0b hN rfl ?_
   refine z0a (z03 rfl rfl) ?_
   refine z0c ?_
   refine z0k _ rfl (fun h=>(lt_t h).elim) (fun h => ?_)
   refine z1j ?_
   refine z0c ?_
   refine z0b hN rfl ?_
   refine qe rfl ?_
   refine z0t ?_
   cases H
   exact ⟨trivial,.inl rfl,trivial⟩
  ·rintro k3 x6 ⟨⟩ q4 h7 h8 H hq4
   replace H:y2c l1 k3 x6=some q4:=H
   unfold y2c at H
   refine z0c ?_
   refine z0b hN rfl ?_
   refine z0a (z03 rfl rfl) ?_
   refine z0c ?_
   refine z0k _ rfl (fun h => ?_) (fun h=>(lt_f h7 h).elim)
   refine z0q ?_
   refine z0c ?_
   refine z0w ?_
   refine z0c ?_
   refine z0b hN rfl ?_
   refine qd rfl ?_
   refine z0a (y2a x30 (fun _=>rfl) rfl rfl h8) ?_
   refine z0a (z2l y9l rfl (z3e h8) rfl) ?_
   refine z0g (z1m 1 x1n rfl) rfl ?_
   refine qe rfl ?_
   refine z0g (z08 y9l rfl rfl rfl rfl) rfl ?_
   refine z0c ?_
   refine z07 (ι:=Bool) (fun i=>[(0,.dat (vlst (List.map z1a l1))),(3,.dat (vint (k3:Int))),(4,.ptr 1 0),(8,.dat (vlst (List.map z1a l1))),(9,.dat (vint (l1.length:Int))),(10,.dat (vint (k3:Int))),(24,.dat (z1p i))]) (fun i=>[(1,.box none 102 [.dat (vstr x6.Key),.dat (vstr x6.Owner)])]) (fun i=>z7d l1 k3 x6 i=some q4) (fun i=>rfl) ?_ ?_
   ·skip
    refine z0b hN rfl ?_
    refine z0a (z0m y5e rfl) ?_
    refine z0h (z0l tyS9 rfl rfl) rfl ?_
    obtain ⟨r9,h10,H⟩:=bnd H
    refine z0a (z0z (y6g x6.Key r9 h10) ⟨.inl rfl,trivial⟩) ?_
    refine z0a (z3s rfl) ?_
    refine qd rfl ?_
    refine z15 (j:=4) rfl rfl (fun h11 => ?_) (fun h11 => ?_) rfl
    ·have h12:=un3 h11
     replace H:=iff_ h12 H
     refine z04 rfl rfl h11 (z0m x73 rfl) ?_
     refine z5r rfl rfl h11 (z0l tyS9 rfl rfl) rfl ?_
     obtain ⟨r13,h14,H⟩:=bnd H
     refine z04 rfl rfl h11 (z0z (y6g x6.Owner r13 h14) ⟨.inl rfl,trivial⟩) ?_
     refine z04 rfl rfl h11 (z3s rfl) ?_
     refine z0a (z1l rfl (bFF h12) rfl) ?_
     exact ⟨!r13,H,⟨rfl,rfl,rfl,rfl,rfl,rfl,rfl,trivial⟩,⟨rfl,trivial⟩⟩
    ·have h15:=un4 h11
     replace H:=ift h15 H
     refine z0n rfl rfl h11 ?_
     refine z0n rfl rfl h11 ?_
     refine z0n rfl rfl h11 ?_
     refine z0n rfl rfl h11 ?_
     refine z0a (z1t rfl (bTT h15) rfl) ?_
     exact ⟨true,H,⟨rfl,rfl,rfl,rfl,rfl,rfl,rfl,trivial⟩,⟨rfl,trivial⟩⟩
   ·rintro v16 H
    replace H:z7d l1 k3 x6 v16=some q4:=H
    unfold z7d at H
    refine z0k _ rfl (fun h17 => ?_) (fun h17 => ?_)
    ·replace H:=ift h17 H
     refine z0c ?_
     refine z0b hN rfl ?_
     refine qe rfl ?_
     refine z0t ?_
     replace H:=retl H hq4
     cases H
     exact ⟨trivial,.inl rfl,trivial⟩
    ·replace H:=iff_ h17 H
     refine z0q ?_
     refine z07 (ι:=Bool) (fun i=>[(0,.dat (vlst (List.map z1a l1))),(8,.dat (vlst (List.map z1a l1))),(9,.dat (vint (l1.length:Int))),(10,.dat (vint (k3:Int))),(37,.dat (z1p i))]) (fun i=>[]) (fun i=>z8u i=some q4) (fun i=>rfl) ?_ ?_
     ·skip
      refine z2n mixed hN rfl rfl ?_
      refine qd rfl ?_
      refine z0a (z4c rfl rfl) ?_
      refine qd rfl ?_
      refine z15 (j:=2) rfl rfl (fun h18 => ?_) (fun h18 => ?_) rfl
      ·have h19:=un1 h18
       replace H:=ift h19 H
       refine z04 rfl rfl h18 (z0m y5e rfl) ?_
       refine z5r rfl rfl h18 (z0l tyS9 rfl rfl) rfl ?_
       refine z04 rfl rfl h18 (z0j (.dat _) rfl) ?_
       refine z04 rfl rfl h18 (z0j (.dat _) rfl) ?_
       refine z04 rfl rfl h18 (y7j rfl rfl (by omega)) ?_
       obtain ⟨x20,h21,H⟩:=bnd H
       refine z04 rfl rfl h18 (y1q x30 (fun _=>rfl) rfl rfl h21) ?_
       refine z04 rfl rfl h18 (y20 y5e rfl) ?_
       refine z04 rfl rfl h18 (z24 tyS9 rfl (z3e (z1n h21).2) rfl) ?_
       refine z04 rfl rfl h18 (y8k rfl rfl) ?_
       refine z0a (z1t rfl (bTT h19) rfl) ?_
       refine ⟨rfl,?_⟩
       exact ⟨(Op.bytesLess x6.Key x20.Key || x6.Key == x20.Key),H,⟨rfl,rfl,rfl,rfl,rfl,trivial⟩,trivial⟩
      ·have h22:=un2 h18
       replace H:=iff_ h22 H
       refine z0n rfl rfl h18 ?_
       refine z0n rfl rfl h18 ?_
       refine z0n rfl rfl h18 ?_
       refine z0n rfl rfl h18 ?_
       refine z0n rfl rfl h18 ?_
       refine z0n rfl rfl h18 ?_
       refine z0n rfl rfl h18 ?_
       refine z0n rfl rfl h18 ?_
       refine z0n rfl rfl h18 ?_
       refine z0a (z1l rfl (bFF h22) rfl) ?_
       refine ⟨rfl,?_⟩
       exact ⟨false,H,⟨rfl,rfl,rfl,rfl,rfl,trivial⟩,trivial⟩
     ·rintro v23 H
      replace H:z8u v23=some q4:=H
      unfold z8u at H
      refine z0k _ rfl (fun h24 => ?_) (fun h24 => ?_)
      ·replace H:=ift h24 H
       refine z0c ?_
       refine z0b hN rfl ?_
       refine qe rfl ?_
       refine z0t ?_
       replace H:=retl H hq4
       cases H
       exact ⟨trivial,.inl rfl,trivial⟩
      ·replace H:=iff_ h24 H
       refine z0q ?_
       refine z0b hN rfl ?_
       refine z0a (z3h rfl rfl (by omega)) ?_
       refine qd rfl ?_
       exact ⟨_,z5d H,⟨rfl,rfl,rfl,rfl,trivial⟩,trivial⟩
theorem y01 (x1:(List z0s)) (target2:Bs) (p2:z0s→Bs→Option (Int)) (fv2:Nat) (us2:List V) (hp2:∀ a0 a1 r,p2 a0 a1=some r→Fn Tryz.prog fv2 ([vagg (z1a a0),vstr a1]++us2) (z1x [vint r])) (r:(Int×Bool)) (H:z23 x1 target2 p2=some r):Fn Tryz.prog 93 [vlst (List.map z1a x1),vstr target2,vfn fv2 us2] (z1x [vint r.1,z1p r.2]):=by
 refine ⟨by kernel_rfl,z1s (us:=[vint r.1,z1p r.2]) Tryz.func93 rfl rfl rfl rfl fun X hN => ?_⟩
 unfold z23 at H
 refine z0c ?_
 refine z0b hN rfl ?_
 refine qe rfl ?_
 refine qe rfl ?_
 refine z0c ?_
 refine z0b hN rfl ?_
 refine qd rfl ?_
 refine z0a (z5b x3t rfl) ?_
 refine qe rfl ?_
 refine z0c ?_
 refine z0b hN rfl ?_
 refine qd rfl ?_
 refine qe rfl ?_
 refine qe rfl ?_
 refine z07 (ι:=Int) (fun i=>[(0,.dat (vlst (List.map z1a x1))),(1,.dat (vstr target2)),(2,.dat (vfn fv2 us2)),(8,.dat (vint (x1.length:Int))),(9,.dat (vint i))]) (fun i=>[]) (fun i=>z2x x1 target2 p2 i=some r) (fun i=>rfl) ?_ ?_
 ·skip
  refine z0w ?_
  refine z9e (fun (s:Int×Int)=>[(0,.dat (vlst (List.map z1a x1))),(1,.dat (vstr target2)),(2,.dat (vfn fv2 us2)),(8,.dat (vint (x1.length:Int))),(9,.dat (vint s.1)),(10,.dat (vint s.2))]) (fun (s:Int×Int)=>[]) (0,(x1.length:Int)) H ⟨rfl,rfl,rfl,rfl,rfl,rfl,trivial⟩ trivial (fun _=>rfl) ?_
  rintro ⟨i3,j4⟩ q5 H hq5
  replace H:z3t x1 target2 p2 i3 j4=some q5:=H
  unfold z3t at H
  refine z0c ?_
  refine z0c ?_
  refine z0b hN rfl ?_
  refine qd rfl ?_
  refine qd rfl ?_
  refine z0a (z03 rfl rfl) ?_
  refine z0k _ rfl (fun h6 => ?_) (fun h6 => ?_)
  ·replace H:=ift h6 H
   refine z0q ?_
   refine z0w ?_
   refine z0c ?_
   refine z0b hN rfl ?_
   refine qd rfl ?_
   refine qd rfl ?_
   refine z0a (z05 _ rfl rfl (.inl ⟨rfl,rfl⟩)) ?_
   refine z0a (y21 tyU3 y6p rfl) ?_
   refine z0a (z09 (y85 rfl rfl (by decide)) rfl) ?_
   refine z0a (y21 y6p tyU3 rfl) ?_
   refine qe rfl ?_
   refine z0c ?_
   refine z0b hN rfl ?_
   refine qd rfl ?_
   refine qd rfl ?_
   refine qd rfl ?_
   obtain ⟨x7,h8,H⟩:=bnd H
   refine z0a (y1q x30 (fun _=>rfl) rfl rfl h8) ?_
   refine z0a (z2l y9l rfl (z3e (z1n h8).2) rfl) ?_
   refine qd rfl ?_
   obtain ⟨r9,h10,H⟩:=bnd H
   refine z0a (z9f (hp2 x7 target2 r9 h10) rfl ⟨.inl rfl,.inl rfl,trivial⟩) ?_
   refine z0a (z03 rfl rfl) ?_
   refine z0k _ rfl (fun h11 => ?_) (fun h11 => ?_)
   ·replace H:=ift h11 H
    refine z0b hN rfl ?_
    refine qd rfl ?_
    refine z0a (z05 _ rfl rfl (.inl ⟨rfl,rfl⟩)) ?_
    refine qe rfl ?_
    exact ⟨_,z5d H,⟨rfl,rfl,rfl,rfl,rfl,rfl,trivial⟩,trivial⟩
   ·replace H:=iff_ h11 H
    refine z0b hN rfl ?_
    refine qd rfl ?_
    refine qe rfl ?_
    exact ⟨_,z5d H,⟨rfl,rfl,rfl,rfl,rfl,rfl,trivial⟩,trivial⟩
  ·replace H:=iff_ h6 H
   refine z1j ?_
   replace H:=outl H hq5
   exact ⟨i3,H,⟨rfl,rfl,rfl,rfl,rfl,trivial⟩,trivial⟩
 ·rintro i12 H
  replace H:z2x x1 target2 p2 i12=some r:=H
  unfold z2x at H
  refine z07 (ι:=Bool) (fun i=>[(6,.dat (vint i12)),(7,.dat (z1p i))]) (fun i=>[]) (fun i=>z14 i12 i=some r) (fun i=>rfl) ?_ ?_
  ·skip
   refine z0b hN rfl ?_
   refine qd rfl ?_
   refine qd rfl ?_
   refine qd rfl ?_
   refine z0a (z03 rfl rfl) ?_
   refine qd rfl ?_
   refine z15 (j:=4) rfl rfl (fun h13 => ?_) (fun h13 => ?_) rfl
   ·have h14:=un1 h13
    replace H:=ift h14 H
    refine z04 rfl rfl h13 (z0j (.dat _) rfl) ?_
    refine z04 rfl rfl h13 (z0j (.dat _) rfl) ?_
    refine z04 rfl rfl h13 (z0j (.dat _) rfl) ?_
    obtain ⟨x15,h16,H⟩:=bnd H
    refine z04 rfl rfl h13 (y1q x30 (fun _=>rfl) rfl rfl h16) ?_
    refine z04 rfl rfl h13 (z2l y9l rfl (z3e (z1n h16).2) rfl) ?_
    refine z04 rfl rfl h13 (z0j (.dat _) rfl) ?_
    obtain ⟨r17,h18,H⟩:=bnd H
    refine z04 rfl rfl h13 (z9f (hp2 x15 target2 r17 h18) rfl ⟨.inl rfl,.inl rfl,trivial⟩) ?_
    refine z04 rfl rfl h13 (z2g rfl rfl) ?_
    refine z0a (z1t rfl (bTT h14) rfl) ?_
    refine qe rfl ?_
    refine qe rfl ?_
    exact ⟨decide (r17=0),H,⟨rfl,rfl,trivial⟩,trivial⟩
   ·have h19:=un2 h13
    replace H:=iff_ h19 H
    refine z0n rfl rfl h13 ?_
    refine z0n rfl rfl h13 ?_
    refine z0n rfl rfl h13 ?_
    refine z0n rfl rfl h13 ?_
    refine z0n rfl rfl h13 ?_
    refine z0n rfl rfl h13 ?_
    refine z0n rfl rfl h13 ?_
    refine z0n rfl rfl h13 ?_
    refine z0a (z1l rfl (bFF h19) rfl) ?_
    refine qe rfl ?_
    refine qe rfl ?_
    exact ⟨false,H,⟨rfl,rfl,trivial⟩,trivial⟩
  ·rintro v20 H
   replace H:z14 i12 v20=some r:=H
   unfold z14 at H
   refine z0t ?_
   cases H
   exact ⟨trivial,.inl rfl,.inl rfl,trivial⟩
theorem x08 (a1:z0s) (k2:Bs) (r:(Int)) (H:y06 a1 k2=some r):Fn Tryz.prog 94 [vagg (z1a a1),vstr k2] (z1x [vint r]):=by
 refine ⟨by kernel_rfl,z1s (us:=[vint r]) Tryz.func94 rfl rfl rfl rfl fun X hN => ?_⟩
 unfold y06 at H
 refine z0c ?_
 refine z0b hN rfl ?_
 refine z0g (z16 1 rfl) rfl ?_
 refine qe rfl ?_
 refine z0c ?_
 refine z0b hN rfl ?_
 refine z0a (z0m y5e rfl) ?_
 refine z0h (z0l tyS9 rfl rfl) rfl ?_
 refine qd rfl ?_
 obtain ⟨r3,h4,H⟩:=bnd H
 refine z0a (z0z (z8x a1.Key k2 r3 h4) ⟨.inl rfl,.inl rfl,trivial⟩) ?_
 refine qe rfl ?_
 refine z0t ?_
 cases H
 exact ⟨trivial,.inl rfl,trivial⟩
theorem y61 (l1:(List z0s)) (key2:Bs) (r:(Int×Bool)) (H:y1g l1 key2=some r):Fn Tryz.prog 51 [vlst (List.map z1a l1),vstr key2] (z1x [vint r.1,z1p r.2]):=by
 refine ⟨by kernel_rfl,z1s (us:=[vint r.1,z1p r.2]) Tryz.func51 rfl rfl rfl rfl fun X hN => ?_⟩
 unfold y1g at H
 refine z0c ?_
 refine z0b hN rfl ?_
 refine qe rfl ?_
 refine qe rfl ?_
 refine z0c ?_
 refine z0b hN rfl ?_
 refine qd rfl ?_
 refine qd rfl ?_
 obtain ⟨r3,h4,H⟩:=bnd H
 refine z0a (y76 (y01 l1 key2 (fun (a0:z0s) (a1:Bs)=>y06 a0 a1) 94 [] (fun a0 a1 r h=>x08 a0 a1 r h) r3 h4) ⟨.inl (.inl rfl),.inl (.inl rfl),.inr ⟨_,rfl,rfl⟩,trivial⟩) ?_
 refine z0a (z2y rfl rfl) ?_
 refine z0a (z2y rfl rfl) ?_
 refine qe rfl ?_
 refine qe rfl ?_
 refine z0t ?_
 cases H
 exact ⟨trivial,.inl rfl,.inl rfl,trivial⟩
theorem y4u (v1:z0i) (v2:(List z0s)) (v3:(List z0e)) (r:(Int)) (H:z52 v1 v2 v3=some r):Fn Tryz.prog 13 [vagg (z1h v1),vlst (List.map z1a v2),vlst (List.map z0v v3)] (z1x [vint r]):=by
 refine ⟨by kernel_rfl,z1s (us:=[vint r]) Tryz.func13 rfl rfl rfl rfl fun X hN => ?_⟩
 unfold z52 at H
 refine z0c ?_
 refine z0b hN rfl ?_
 refine z0g (z16 1 rfl) rfl ?_
 refine qe rfl ?_
 refine z0c ?_
 refine z0c ?_
 refine z0b hN rfl ?_
 refine z0h (z06 z5x rfl rfl rfl) rfl ?_
 obtain ⟨r4,h5,H⟩:=bnd H
 refine z0a (z0z (y3c v1 r4 h5) ⟨.inl rfl,trivial⟩) ?_
 refine qe rfl ?_
 refine z0c ?_
 refine z0b hN rfl ?_
 refine qd rfl ?_
 refine z0a (z6y rfl rfl) ?_
 refine z0k _ rfl (fun h6 => ?_) (fun h6 => ?_)
 ·replace H:=ift h6 H
  refine z0c ?_
  refine z0b hN rfl ?_
  refine qd rfl ?_
  refine qe rfl ?_
  refine z0t ?_
  cases H
  exact ⟨trivial,.inl rfl,trivial⟩
 ·replace H:=iff_ h6 H
  refine z0q ?_
  refine z0c ?_
  refine z0c ?_
  refine z0b hN rfl ?_
  refine qd rfl ?_
  obtain ⟨r7,h8,H⟩:=bnd H
  refine z0a (z0z (y6u v2 r7 h8) ⟨.inl rfl,trivial⟩) ?_
  refine qe rfl ?_
  refine z0c ?_
  refine z0b hN rfl ?_
  refine qd rfl ?_
  refine z0a (z6y rfl rfl) ?_
  refine z0k _ rfl (fun h9 => ?_) (fun h9 => ?_)
  ·replace H:=ift h9 H
   refine z0c ?_
   refine z0b hN rfl ?_
   refine qd rfl ?_
   refine qe rfl ?_
   refine z0t ?_
   cases H
   exact ⟨trivial,.inl rfl,trivial⟩
  ·replace H:=iff_ h9 H
   refine z0q ?_
   refine z0c ?_
   refine z0c ?_
   refine z0b hN rfl ?_
   refine qd rfl ?_
   refine z0a (z5b y67 rfl) ?_
   refine z0a (z4c rfl rfl) ?_
   refine z0k _ rfl (fun h10 => ?_) (fun h10 => ?_)
   ·replace H:=ift h10 H
    refine z0c ?_
    refine z0b hN rfl ?_
    refine qe rfl ?_
    refine z0t ?_
    cases H
    exact ⟨trivial,.inl rfl,trivial⟩
   ·replace H:=iff_ h10 H
    refine z0q ?_
    refine z0c ?_
    refine z0c ?_
    refine z0b hN rfl ?_
    refine qd rfl ?_
    refine z0a (z5b y67 rfl) ?_
    refine qd rfl ?_
    refine z0w ?_
    obtain ⟨h13,H⟩:=gif H
    refine z32 (fun (k11:Nat) (s:Unit)=>[(1,.dat (vlst (List.map z1a v2))),(2,.dat (vlst (List.map z0v v3))),(3,.ptr 1 0),(28,.dat (vlst (List.map z0v v3))),(29,.dat (vint (v3.length:Int))),(30,.dat (vint (k11:Int)))]) (fun (k11:Nat) (s:Unit)=>[(1,.box none 29 [.dat (vlst (List.map z0y v1.Products)),.dat (vlst (List.map z01 v1.Plans))])]) () H ⟨rfl,rfl,rfl,rfl,rfl,rfl,trivial⟩ ⟨rfl,trivial⟩ (fun _ _=>rfl) ?_ ?_
    ·rintro ⟨⟩ H
     replace H:y4a=some r:=H
     unfold y4a at H
     refine z0c ?_
     refine z0b hN rfl ?_
     refine z0a (z03 rfl rfl) ?_
     refine z0c ?_
     refine z0k _ rfl (fun h=>(lt_t h).elim) (fun h => ?_)
     refine z1j ?_
     refine z0c ?_
     refine z0b hN rfl ?_
     refine qe rfl ?_
     refine z0t ?_
     cases H
     exact ⟨trivial,.inl rfl,trivial⟩
    ·rintro k11 x14 ⟨⟩ q12 h15 h16 H hq12
     replace H:y0r v1 v2 v3 k11 x14=some q12:=H
     unfold y0r at H
     refine z0c ?_
     refine z0b hN rfl ?_
     refine z0a (z03 rfl rfl) ?_
     refine z0c ?_
     refine z0k _ rfl (fun h => ?_) (fun h=>(lt_f h15 h).elim)
     refine z0q ?_
     refine z0c ?_
     refine z0w ?_
     refine z0c ?_
     refine z0b hN rfl ?_
     refine qd rfl ?_
     refine z0a (y2a y1k (fun _=>rfl) rfl rfl h16) ?_
     refine z0a (z2l y0a rfl (z3e h16) rfl) ?_
     refine z0g (z1m 2 x3s rfl) rfl ?_
     refine qe rfl ?_
     refine z0g (z08 y0a rfl rfl rfl rfl) rfl ?_
     refine z0c ?_
     refine z0b hN rfl ?_
     refine qd rfl ?_
     refine z0a (z0m y6y rfl) ?_
     refine z0h (z0l tyS9 rfl rfl) rfl ?_
     obtain ⟨r17,h18,H⟩:=bnd H
     refine z0a (z0z (y61 v2 x14.App r17 h18) ⟨.inl rfl,.inl rfl,trivial⟩) ?_
     refine qd rfl ?_
     refine z0a (z2y rfl rfl) ?_
     refine z0a (z2y rfl rfl) ?_
     refine qe rfl ?_
     refine qe rfl ?_
     refine z0c ?_
     refine z0b hN rfl ?_
     refine z0h (z06 z5x rfl rfl rfl) rfl ?_
     refine z0a (z0m y73 rfl) ?_
     refine z0h (z0l tyS9 rfl rfl) rfl ?_
     obtain ⟨r19,h20,H⟩:=bnd H
     refine z0a (z0z (y22 v1 x14.Product r19 h20) ⟨.inl rfl,.inl rfl,trivial⟩) ?_
     refine qd rfl ?_
     refine z0a (z2y rfl rfl) ?_
     refine z0a (z2y rfl rfl) ?_
     refine qe rfl ?_
     refine qe rfl ?_
     refine z0w ?_
     refine z0c ?_
     refine z0b hN rfl ?_
     refine qd rfl ?_
     refine z0a (z3s rfl) ?_
     refine qd rfl ?_
     refine y4h rfl rfl (fun hc=>z0j (.dat _) rfl) ?_
     refine y4h rfl rfl (fun hc=>z3s (cnd (c:=(!(!r17.2))) hc)) ?_
     refine z0a (z8q rfl rfl (fun hb=>(cnd (c:=(!(!r17.2))) (notI hb)))) ?_
     refine qe rfl ?_
     refine z0k _ rfl (fun h21 => ?_) (fun h21 => ?_)
     ·replace H:=ift h21 H
      refine z0c ?_
      refine z0b hN rfl ?_
      refine qe rfl ?_
      refine z0t ?_
      replace H:=retl H hq12
      cases H
      exact ⟨trivial,.inl rfl,trivial⟩
     ·replace H:=iff_ h21 H
      refine z07 (ι:=Bool) (fun i=>[(1,.dat (vlst (List.map z1a v2))),(2,.dat (vlst (List.map z0v v3))),(3,.ptr 1 0),(9,.dat (vint (k11:Int))),(10,.ptr 2 0),(28,.dat (vlst (List.map z0v v3))),(29,.dat (vint (v3.length:Int))),(30,.dat (vint (k11:Int))),(56,.dat (z1p i))]) (fun i=>[(1,.box none 29 [.dat (vlst (List.map z0y v1.Products)),.dat (vlst (List.map z01 v1.Plans))]),(2,.box none 57 [.dat (vstr x14.App),.dat (vstr x14.Product),.dat (vint x14.Month),.dat (vint x14.Calls)])]) (fun i=>z7c v3 k11 x14 i=some q12) (fun i=>rfl) ?_ ?_
      ·skip
       refine z0b hN rfl ?_
       refine z0a (z0m y58 rfl) ?_
       refine z0h (z0l tyS3 rfl rfl) rfl ?_
       obtain ⟨r22,h23,H⟩:=bnd H
       refine z0a (z0z (z88 x14.Month 0 132 r22 h23) ⟨.inl rfl,.inl rfl,.inl rfl,trivial⟩) ?_
       refine qd rfl ?_
       refine z15 (j:=3) rfl rfl (fun h24 => ?_) (fun h24 => ?_) rfl
       ·have h25:=un3 h24
        replace H:=iff_ h25 H
        refine z04 rfl rfl h24 (z0m y48 rfl) ?_
        refine z5r rfl rfl h24 (z0l tyS3 rfl rfl) rfl ?_
        obtain ⟨r26,h27,H⟩:=bnd H
        refine z04 rfl rfl h24 (z0z (z88 x14.Calls 0 1000000000000 r26 h27) ⟨.inl rfl,.inl rfl,.inl rfl,trivial⟩) ?_
        refine z0a (z1l rfl (bFF h25) rfl) ?_
        refine qe rfl ?_
        exact ⟨r26,H,⟨rfl,rfl,rfl,rfl,rfl,rfl,rfl,rfl,rfl,trivial⟩,⟨rfl,rfl,trivial⟩⟩
       ·have h28:=un4 h24
        replace H:=ift h28 H
        refine z0n rfl rfl h24 ?_
        refine z0n rfl rfl h24 ?_
        refine z0n rfl rfl h24 ?_
        refine z0a (z1t rfl (bTT h28) rfl) ?_
        refine qe rfl ?_
        exact ⟨true,H,⟨rfl,rfl,rfl,rfl,rfl,rfl,rfl,rfl,rfl,trivial⟩,⟨rfl,rfl,trivial⟩⟩
      ·rintro v29 H
       replace H:z7c v3 k11 x14 v29=some q12:=H
       unfold z7c at H
       refine z0k _ rfl (fun h30 => ?_) (fun h30 => ?_)
       ·replace H:=ift h30 H
        refine z0c ?_
        refine z0b hN rfl ?_
        refine qe rfl ?_
        refine z0t ?_
        replace H:=retl H hq12
        cases H
        exact ⟨trivial,.inl rfl,trivial⟩
       ·replace H:=iff_ h30 H
        refine z07 (ι:=Bool) (fun i=>[(1,.dat (vlst (List.map z1a v2))),(2,.dat (vlst (List.map z0v v3))),(3,.ptr 1 0),(28,.dat (vlst (List.map z0v v3))),(29,.dat (vint (v3.length:Int))),(30,.dat (vint (k11:Int))),(65,.dat (z1p i))]) (fun i=>[(1,.box none 29 [.dat (vlst (List.map z0y v1.Products)),.dat (vlst (List.map z01 v1.Plans))])]) (fun i=>z8t i=some q12) (fun i=>rfl) ?_ ?_
        ·skip
         refine z2n mixed hN rfl rfl ?_
         refine qd rfl ?_
         refine z0a (z4c rfl rfl) ?_
         refine qd rfl ?_
         refine z15 (j:=2) rfl rfl (fun h31 => ?_) (fun h31 => ?_) rfl
         ·have h32:=un1 h31
          replace H:=ift h32 H
          refine z04 rfl rfl h31 (z0j (.dat _) rfl) ?_
          refine z04 rfl rfl h31 (z0j (.dat _) rfl) ?_
          refine z04 rfl rfl h31 (y7j rfl rfl (by omega)) ?_
          obtain ⟨x33,h34,H⟩:=bnd H
          refine z04 rfl rfl h31 (y1q y1k (fun _=>rfl) rfl rfl h34) ?_
          refine z04 rfl rfl h31 (z2l y0a rfl (z3e (z1n h34).2) rfl) ?_
          refine z5r rfl rfl h31 (z06 y0a rfl rfl rfl) rfl ?_
          obtain ⟨r35,h36,H⟩:=bnd H
          refine z04 rfl rfl h31 (z0z (y3t x33 x14 r35 h36) ⟨.inl rfl,.inl rfl,trivial⟩) ?_
          refine z04 rfl rfl h31 (y5a rfl rfl) ?_
          refine z0a (z1t rfl (bTT h32) rfl) ?_
          refine qe rfl ?_
          refine ⟨rfl,?_⟩
          exact ⟨decide (0≤r35),H,⟨rfl,rfl,rfl,rfl,rfl,rfl,rfl,trivial⟩,⟨rfl,trivial⟩⟩
         ·have h37:=un2 h31
          replace H:=iff_ h37 H
          refine z0n rfl rfl h31 ?_
          refine z0n rfl rfl h31 ?_
          refine z0n rfl rfl h31 ?_
          refine z0n rfl rfl h31 ?_
          refine z0n rfl rfl h31 ?_
          refine z0n rfl rfl h31 ?_
          refine z0n rfl rfl h31 ?_
          refine z0n rfl rfl h31 ?_
          refine z0a (z1l rfl (bFF h37) rfl) ?_
          refine qe rfl ?_
          refine ⟨rfl,?_⟩
          exact ⟨false,H,⟨rfl,rfl,rfl,rfl,rfl,rfl,rfl,trivial⟩,⟨rfl,trivial⟩⟩
        ·rintro v38 H
         replace H:z8t v38=some q12:=H
         unfold z8t at H
         refine z0k _ rfl (fun h39 => ?_) (fun h39 => ?_)
         ·replace H:=ift h39 H
          refine z0c ?_
          refine z0b hN rfl ?_
          refine qe rfl ?_
          refine z0t ?_
          replace H:=retl H hq12
          cases H
          exact ⟨trivial,.inl rfl,trivial⟩
         ·replace H:=iff_ h39 H
          refine z0q ?_
          refine z0b hN rfl ?_
          refine z0a (z3h rfl rfl (by omega)) ?_
          refine qd rfl ?_
          exact ⟨_,z5d H,⟨rfl,rfl,rfl,rfl,rfl,rfl,trivial⟩,⟨rfl,trivial⟩⟩
end Go.Proofs.YthmmalklamiefaaGreatDoor
