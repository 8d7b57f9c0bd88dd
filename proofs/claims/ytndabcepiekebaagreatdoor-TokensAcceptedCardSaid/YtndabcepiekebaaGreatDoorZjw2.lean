/- Walks along the models. Printed by a program. -/
import Derived.Test.YtndabcepiekebaaGreatDoorZjw1
namespace Go.Proofs.YtndabcepiekebaaGreatDoor
open Go.RowKit
set_option linter.unusedVariables false
set_option maxRecDepth 100000
set_option maxHeartbeats 2000000
theorem y7h (s1:z0d) (r:(z1t×z0d)) (H:z7x s1=some r):Imp Tryz.prog 6 25 (z0t s1) [] (z1r [vagg (y1p r.1)]) (z0t r.2):=by
 refine y3m (us:=[vagg (y1p r.1)]) (cs':=(z0t r.2)) (by kernel_rfl) Tryz.func6 rfl rfl rfl rfl fun X bl hN => ?_
 unfold z7x at H
 refine z0c ?_
 refine z0b hN rfl ?_
 refine z0j (z2s 1 w30 rfl) rfl ?_
 refine z0c ?_
 refine z0b hN rfl ?_
 refine z0a (z0h (.ptr _ _) rfl) ?_
 obtain ⟨r2,h3,H⟩:=bnd H
 refine z0j (z1f (y6y s1 r2 h3) rfl trivial rfl) rfl ?_
 refine z0a (z0h (.ptr _ _) rfl) ?_
 obtain ⟨r4,h5,H⟩:=bnd H
 refine z0j (z1f (y6z r2.2 r4 h5) rfl trivial rfl) rfl ?_
 refine z0a (z0h (.ptr _ _) rfl) ?_
 obtain ⟨r6,h7,H⟩:=bnd H
 refine z0j (z1f (y60 r4.2 r6 h7) rfl trivial rfl) rfl ?_
 refine z0a (z0h (.ptr _ _) rfl) ?_
 refine z0a (z1a (u':=vlst (List.map y2j [0,0,5,50])) (z14 [[_],[_],[_],[_]] y9p ⟨rfl,.inl ⟨_,rfl,rfl,rfl⟩,rfl,rfl,.inl ⟨_,rfl,rfl,rfl⟩,rfl,rfl,.inl ⟨_,rfl,rfl,rfl⟩,rfl,rfl,.inl ⟨_,rfl,rfl,rfl⟩,rfl,trivial⟩ rfl rfl) rfl) ?_
 obtain ⟨r8,h9,H⟩:=bnd H
 refine z0j (z1f (z1y r6.2 [0,0,5,50] r8 h9) rfl ⟨.inl rfl,trivial⟩ rfl) rfl ?_
 refine z0a (z1a (u':=vagg (y1p (z1t.mk [103,97,116,101] [115,104,111,112] r2.1 r4.1 r6.1 r8.1))) (z2f [(0,[vstr [103,97,116,101]]),(1,[vstr [115,104,111,112]]),(2,[vlst (List.map z06 r2.1)]),(3,[vlst (List.map z1l r4.1)]),(4,[vlst (List.map z1w r6.1)]),(5,[vint r8.1])] w30 v0a rfl ⟨rfl,.inl ⟨_,rfl,rfl,rfl⟩,rfl,rfl,.inl ⟨_,rfl,rfl,rfl⟩,rfl,rfl,.inl ⟨_,rfl,rfl,rfl⟩,rfl,rfl,.inl ⟨_,rfl,rfl,rfl⟩,rfl,rfl,.inl ⟨_,rfl,rfl,rfl⟩,rfl,rfl,.inl ⟨_,rfl,rfl,rfl⟩,rfl,trivial⟩) rfl) ?_
 refine z0j (z2s 2 w30 rfl) rfl ?_
 refine z0j (z1b x1t rfl rfl rfl rfl) rfl ?_
 refine z03 (ι:=(List Int)×Int×Bs×Bs×Int) (fun i=>[(2,.ptr 1 0),(3,.ptr 2 0)]) (fun i=>[(0,.box (some bl) 25 [.dat (vlst (List.map y2j i.1)),.dat (vint i.2.1)]),(1,.box none 30 [.dat (vstr []),.dat (vstr []),.dat (vnil),.dat (vnil),.dat (vnil),.dat (vint 0)]),(2,.box none 30 [.dat (vstr i.2.2.1),.dat (vstr i.2.2.2.1),.dat (vlst (List.map z06 r2.1)),.dat (vlst (List.map z1l r4.1)),.dat (vlst (List.map z1w r6.1)),.dat (vint i.2.2.2.2)])]) (fun i=>z55 r2 r4 r6 i.1 i.2.1 i.2.2.1 i.2.2.2.1 i.2.2.2.2=some r) (fun i=>rfl) ?_ ?_
 ·skip
  refine z0c ?_
  refine z0b hN rfl ?_
  refine z0a (z0h (.ptr _ _) rfl) ?_
  obtain ⟨r10,h11,H⟩:=bnd H
  refine z0j (z1f (z1z r8.2 20 r10 h11) rfl ⟨.inl rfl,trivial⟩ rfl) rfl ?_
  refine z0g _ rfl (fun h12 => ?_) (fun h12 => ?_)
  ·replace H:=ift h12 H
   refine z0b hN rfl ?_
   refine z0a (z0h (.ptr _ _) rfl) ?_
   refine z0a (z1a (u':=vlst (List.map z0n [[103,97,116,101],[]])) (z14 [[_],[_]] z86 ⟨rfl,.inl ⟨_,rfl,rfl,rfl⟩,rfl,rfl,.inl ⟨_,rfl,rfl,rfl⟩,rfl,trivial⟩ rfl rfl) rfl) ?_
   obtain ⟨r13,h14,H⟩:=bnd H
   refine z0j (z1f (z1d r10.2 ([[103,97,116,101],[]]) r13 h14) rfl ⟨.inl rfl,trivial⟩ rfl) rfl ?_
   refine z0a (z0h (.ptr _ _) rfl) ?_
   refine z0a (z1a (u':=vlst (List.map z0n [[115,104,111,112],[65]])) (z14 [[_],[_]] z86 ⟨rfl,.inl ⟨_,rfl,rfl,rfl⟩,rfl,rfl,.inl ⟨_,rfl,rfl,rfl⟩,rfl,trivial⟩ rfl rfl) rfl) ?_
   obtain ⟨r15,h16,H⟩:=bnd H
   refine z0j (z1f (z1d r13.2 ([[115,104,111,112],[65]]) r15 h16) rfl ⟨.inl rfl,trivial⟩ rfl) rfl ?_
   refine z0a (z0h (.ptr _ _) rfl) ?_
   obtain ⟨r17,h18,H⟩:=bnd H
   refine z0j (z1f (z7y r15.2 0 600000 r17 h18) rfl ⟨.inl rfl,.inl rfl,trivial⟩ rfl) rfl ?_
   refine z0a (z0r x1w rfl) ?_
   refine z0j (z15 tyS9 rfl rfl rfl rfl) rfl ?_
   refine z0a (z0r x1v rfl) ?_
   refine z0j (z15 tyS9 rfl rfl rfl rfl) rfl ?_
   refine z0a (z0r y85 rfl) ?_
   refine z0j (z15 tyS3 rfl rfl rfl rfl) rfl ?_
   exact ⟨(r17.2.L,r17.2.at_,r13.1,r15.1,r17.1),H,⟨rfl,rfl,trivial⟩,⟨rfl,rfl,rfl,trivial⟩⟩
  ·replace H:=iff_ h12 H
   refine z0l ?_
   exact ⟨(r10.2.L,r10.2.at_,[103,97,116,101],[115,104,111,112],r8.1),H,⟨rfl,rfl,trivial⟩,⟨rfl,rfl,rfl,trivial⟩⟩
 ·rintro ⟨c19,c20,c21,c22,c23⟩ H
  replace H:z55 r2 r4 r6 c19 c20 c21 c22 c23=some r:=H
  unfold z55 at H
  refine z0c ?_
  refine z0b hN rfl ?_
  refine z0w (z6d x1t rfl rfl rfl) rfl ?_
  refine z0j (z1b x1t rfl rfl rfl rfl) rfl ?_
  refine z0m ?_
  cases H
  exact ⟨trivial,⟨.inl ⟨_,_,_,y1p (z1t.mk c21 c22 r2.1 r4.1 r6.1 c23),rfl,rfl,rfl,rfl,x1t⟩,trivial⟩,rfl⟩
theorem y7g (s1:z0d) (r:(Int×z0d)) (H:z7w s1=some r):Imp Tryz.prog 7 25 (z0t s1) [] (z1r [vint r.1]) (z0t r.2):=by
 refine y3m (us:=[vint r.1]) (cs':=(z0t r.2)) (by kernel_rfl) Tryz.func7 rfl rfl rfl rfl fun X bl hN => ?_
 unfold z7w at H
 refine z0c ?_
 refine z0b hN rfl ?_
 refine qe rfl ?_
 refine z0c ?_
 refine z0b hN rfl ?_
 refine z0a (z0h (.ptr _ _) rfl) ?_
 refine z0a (z1a (u':=vlst (List.map y2j [0,10,49,50,60,99,100,101,149,150,200,300,1000,(-1),345686400000])) (z14 [[_],[_],[_],[_],[_],[_],[_],[_],[_],[_],[_],[_],[_],[_],[_]] y9p ⟨rfl,.inl ⟨_,rfl,rfl,rfl⟩,rfl,rfl,.inl ⟨_,rfl,rfl,rfl⟩,rfl,rfl,.inl ⟨_,rfl,rfl,rfl⟩,rfl,rfl,.inl ⟨_,rfl,rfl,rfl⟩,rfl,rfl,.inl ⟨_,rfl,rfl,rfl⟩,rfl,rfl,.inl ⟨_,rfl,rfl,rfl⟩,rfl,rfl,.inl ⟨_,rfl,rfl,rfl⟩,rfl,rfl,.inl ⟨_,rfl,rfl,rfl⟩,rfl,rfl,.inl ⟨_,rfl,rfl,rfl⟩,rfl,rfl,.inl ⟨_,rfl,rfl,rfl⟩,rfl,rfl,.inl ⟨_,rfl,rfl,rfl⟩,rfl,rfl,.inl ⟨_,rfl,rfl,rfl⟩,rfl,rfl,.inl ⟨_,rfl,rfl,rfl⟩,rfl,rfl,.inl ⟨_,rfl,rfl,rfl⟩,rfl,rfl,.inl ⟨_,rfl,rfl,rfl⟩,rfl,trivial⟩ rfl rfl) rfl) ?_
 obtain ⟨r2,h3,H⟩:=bnd H
 refine z0j (z1f (z1y s1 [0,10,49,50,60,99,100,101,149,150,200,300,1000,(-1),345686400000] r2 h3) rfl ⟨.inl rfl,trivial⟩ rfl) rfl ?_
 refine qe rfl ?_
 refine z0m ?_
 cases H
 exact ⟨trivial,⟨.inl rfl,trivial⟩,rfl⟩
theorem y3t (n1:Int) (low2:Int) (high3:Int) (r:(Bool)) (H:z79 n1 low2 high3=some r):Fn Tryz.prog 43 [vint n1,vint low2,vint high3] (z1r [z05 r]):=by
 refine ⟨by kernel_rfl,z1e (us:=[z05 r]) Tryz.func43 rfl rfl rfl rfl fun X hN => ?_⟩
 unfold z79 at H
 refine z0c ?_
 refine z0b hN rfl ?_
 refine qe rfl ?_
 refine z0c ?_
 refine z0b hN rfl ?_
 refine qd rfl ?_
 refine qd rfl ?_
 refine z0a (y0f rfl rfl) ?_
 refine qd rfl ?_
 refine z57 rfl rfl (fun hc=>z0h (.dat _) rfl) ?_
 refine z57 rfl rfl (fun hc=>z0h (.dat _) rfl) ?_
 refine z57 rfl rfl (fun hc=>y0f (cnd (c:=(decide (low2≤n1))) hc) (cnd (c:=(decide (low2≤n1))) hc)) ?_
 refine z0a (z2c rfl (fun hb=>(cnd (c:=(decide (low2≤n1))) hb)) rfl) ?_
 refine qe rfl ?_
 refine z0m ?_
 cases H
 exact ⟨trivial,.inl rfl,trivial⟩
theorem y4f (l:Bs) (c r:Int) (H:z7k l c=some r):Fn Tryz.prog 107 [vstr l,vval (.int .u8 c)] (z1r [vint r]):=by
 cases H
 refine y7v (by kernel_rfl) fun M w vs h => ?_
 have h1:=y49 (us:=[.string ⟨l.toArray⟩,.int .u8 c]) h
 subst h1
 refine (Tryz.strings_IndexByte ⟨l.toArray⟩ c w).mono ?_
 rintro e w' ⟨rfl,rfl⟩
 exact ⟨_,rfl,rfl,Kp.refl _ _⟩
theorem y4t (s1:Bs) (some2:Bs) (r:(Bool)) (H:z78 s1 some2=some r):Fn Tryz.prog 45 [vstr s1,vstr some2] (z1r [z05 r]):=by
 refine ⟨by kernel_rfl,z1e (us:=[z05 r]) Tryz.func45 rfl rfl rfl rfl fun X hN => ?_⟩
 unfold z78 at H
 refine z0c ?_
 refine z0b hN rfl ?_
 refine qe rfl ?_
 refine z0c ?_
 refine z0c ?_
 refine z0b hN rfl ?_
 refine qd rfl ?_
 refine z0a (z1m tyU9 rfl) ?_
 refine qd rfl ?_
 refine z0v ?_
 obtain ⟨h5,H⟩:=gif H
 refine z3u (fun (k3:Nat) (s:Unit)=>[(0,.dat (vstr s1)),(1,.dat (vstr some2)),(7,.dat (vint (s1.length:Int))),(8,.dat (vint (k3:Int)))]) (fun (k3:Nat) (s:Unit)=>[]) () H ⟨rfl,rfl,rfl,rfl,trivial⟩ trivial (fun _ _=>rfl) ?_ ?_
 ·rintro ⟨⟩ H
  replace H:y5u=some r:=H
  unfold y5u at H
  refine z0c ?_
  refine z0b hN rfl ?_
  refine z0a (z04 rfl rfl) ?_
  refine z0c ?_
  refine z0g _ rfl (fun h=>(lt_t h).elim) (fun h => ?_)
  refine z1u ?_
  refine z0c ?_
  refine z0b hN rfl ?_
  refine qe rfl ?_
  refine z0m ?_
  cases H
  exact ⟨trivial,.inl rfl,trivial⟩
 ·rintro k3 x6 ⟨⟩ q4 h7 h8 H hq4
  replace H:y4a some2 k3 x6=some q4:=H
  unfold y4a at H
  refine z0c ?_
  refine z0b hN rfl ?_
  refine z0a (z04 rfl rfl) ?_
  refine z0c ?_
  refine z0g _ rfl (fun h => ?_) (fun h=>(lt_f h7 h).elim)
  refine z0l ?_
  refine z0c ?_
  refine z0v ?_
  refine z0c ?_
  refine z0b hN rfl ?_
  refine qd rfl ?_
  refine qe rfl ?_
  refine z0c ?_
  refine z0b hN rfl ?_
  refine qd rfl ?_
  refine qd rfl ?_
  refine qd rfl ?_
  refine z0a (y00 tyU9 rfl rfl h8) ?_
  obtain ⟨r9,h10,H⟩:=bnd H
  refine z0a (z0q (y4f some2 (x6.toNat:Int) r9 h10) ⟨.inl rfl,.inl rfl,trivial⟩) ?_
  refine z0a (z04 rfl rfl) ?_
  refine z0g _ rfl (fun h11 => ?_) (fun h11 => ?_)
  ·replace H:=ift h11 H
   refine z0c ?_
   refine z0b hN rfl ?_
   refine qe rfl ?_
   refine z0m ?_
   replace H:=retl H hq4
   cases H
   exact ⟨trivial,.inl rfl,trivial⟩
  ·replace H:=iff_ h11 H
   refine z0l ?_
   refine z0b hN rfl ?_
   refine z0a (z3r rfl rfl (by omega)) ?_
   refine qd rfl ?_
   exact ⟨_,z84 H,⟨rfl,rfl,rfl,rfl,trivial⟩,trivial⟩
theorem z6q (s1:Bs) (r:(Bool)) (H:z3d s1=some r):Fn Tryz.prog 41 [vstr s1] (z1r [z05 r]):=by
 refine ⟨by kernel_rfl,z1e (us:=[z05 r]) Tryz.func41 rfl rfl rfl rfl fun X hN => ?_⟩
 unfold z3d at H
 refine z0c ?_
 refine z0b hN rfl ?_
 refine qe rfl ?_
 refine z03 (ι:=Bool) (fun i=>[(2,.dat (z05 i))]) (fun i=>[]) (fun i=>y1b i=some r) (fun i=>rfl) ?_ ?_
 ·skip
  refine z0b hN rfl ?_
  refine qd rfl ?_
  refine z0a (z1m tyU9 rfl) ?_
  obtain ⟨r2,h3,H⟩:=bnd H
  refine z0a (z0q (y3t (s1.length:Int) 1 40 r2 h3) ⟨.inl rfl,.inl rfl,.inl rfl,trivial⟩) ?_
  refine qd rfl ?_
  refine z09 (j:=3) rfl rfl (fun h4 => ?_) (fun h4 => ?_) rfl
  ·have h5:=un1 h4
   replace H:=ift h5 H
   refine z0p rfl rfl h4 (z0h (.dat _) rfl) ?_
   obtain ⟨l6,h7,H⟩:=bnd H
   refine z0p rfl rfl h4 (y14 tyU9 rfl rfl rfl h7) ?_
   obtain ⟨r8,h9,H⟩:=bnd H
   refine z0p rfl rfl h4 (z0q (y4t l6 [97,98,99,100,101,102,103,104,105,106,107,108,109,110,111,112,113,114,115,116,117,118,119,120,121,122] r8 h9) ⟨.inl rfl,.inl rfl,trivial⟩) ?_
   refine z0a (z00 rfl (bTT h5) rfl) ?_
   refine qd rfl ?_
   refine z09 (j:=8) rfl rfl (fun h10 => ?_) (fun h10 => ?_) rfl
   ·have h11:=un1 h10
    replace H:=ift h11 H
    refine z0p rfl rfl h10 (z0h (.dat _) rfl) ?_
    obtain ⟨r12,h13,H⟩:=bnd H
    refine z0p rfl rfl h10 (z0q (y4t s1 [97,98,99,100,101,102,103,104,105,106,107,108,109,110,111,112,113,114,115,116,117,118,119,120,121,122,48,49,50,51,52,53,54,55,56,57,45,95] r12 h13) ⟨.inl rfl,.inl rfl,trivial⟩) ?_
    refine z0a (z00 rfl (bTT h11) rfl) ?_
    refine qe rfl ?_
    exact ⟨r12,H,⟨rfl,trivial⟩,trivial⟩
   ·have h14:=un2 h10
    replace H:=iff_ h14 H
    refine z0f rfl rfl h10 ?_
    refine z0f rfl rfl h10 ?_
    refine z0a (z0z rfl (bFF h14) rfl) ?_
    refine qe rfl ?_
    exact ⟨false,H,⟨rfl,trivial⟩,trivial⟩
  ·have h15:=un2 h4
   replace H:=iff_ h15 H
   refine z0f rfl rfl h4 ?_
   refine z0f rfl rfl h4 ?_
   refine z0f rfl rfl h4 ?_
   refine z0a (z0z rfl (bFF h15) rfl) ?_
   refine qd rfl ?_
   refine z0f rfl rfl rfl ?_
   refine z0f rfl rfl rfl ?_
   refine z0a (z0z rfl rfl rfl) ?_
   refine qe rfl ?_
   exact ⟨false,H,⟨rfl,trivial⟩,trivial⟩
 ·rintro v16 H
  replace H:y1b v16=some r:=H
  unfold y1b at H
  refine z0m ?_
  cases H
  exact ⟨trivial,.inl rfl,trivial⟩
theorem z5e (s1:(List z0i)) (p1:z0i→Option (Bool)) (fv1:Nat) (us1:List V) (hp1:∀ a0 r,p1 a0=some r→Fn Tryz.prog fv1 ([vagg (z06 a0)]++us1) (z1r [z05 r])) (r:(Int)) (H:z1n s1 p1=some r):Fn Tryz.prog 128 [vlst (List.map z06 s1),vfn fv1 us1] (z1r [vint r]):=by
 refine ⟨by kernel_rfl,z1e (us:=[vint r]) Tryz.func128 rfl rfl rfl rfl fun X hN => ?_⟩
 unfold z1n at H
 refine z0c ?_
 refine z0b hN rfl ?_
 refine qe rfl ?_
 refine z0c ?_
 refine z0c ?_
 refine z0b hN rfl ?_
 refine qd rfl ?_
 refine z0a (z6r x5w rfl) ?_
 refine qd rfl ?_
 refine z0v ?_
 obtain ⟨h4,H⟩:=gif H
 refine z3u (fun (k2:Nat) (s:Unit)=>[(0,.dat (vlst (List.map z06 s1))),(1,.dat (vfn fv1 us1)),(7,.dat (vint (s1.length:Int))),(8,.dat (vint (k2:Int)))]) (fun (k2:Nat) (s:Unit)=>[]) () H ⟨rfl,rfl,rfl,rfl,trivial⟩ trivial (fun _ _=>rfl) ?_ ?_
 ·rintro ⟨⟩ H
  replace H:z4x=some r:=H
  unfold z4x at H
  refine z0c ?_
  refine z0b hN rfl ?_
  refine z0a (z04 rfl rfl) ?_
  refine z0c ?_
  refine z0g _ rfl (fun h=>(lt_t h).elim) (fun h => ?_)
  refine z1u ?_
  refine z0c ?_
  refine z0b hN rfl ?_
  refine qe rfl ?_
  refine z0m ?_
  cases H
  exact ⟨trivial,.inl rfl,trivial⟩
 ·rintro k2 x5 ⟨⟩ q3 h6 h7 H hq3
  replace H:z4w p1 k2 x5=some q3:=H
  unfold z4w at H
  refine z0c ?_
  refine z0b hN rfl ?_
  refine z0a (z04 rfl rfl) ?_
  refine z0c ?_
  refine z0g _ rfl (fun h => ?_) (fun h=>(lt_f h6 h).elim)
  refine z0l ?_
  refine z0c ?_
  refine z0v ?_
  refine z0c ?_
  refine z0b hN rfl ?_
  refine qd rfl ?_
  refine qe rfl ?_
  refine z0c ?_
  refine z0b hN rfl ?_
  refine qd rfl ?_
  refine qd rfl ?_
  refine qd rfl ?_
  refine z0a (y0r y86 (fun _=>rfl) rfl rfl h7) ?_
  refine z0a (y15 y58 rfl (z2l h7) rfl) ?_
  obtain ⟨r8,h9,H⟩:=bnd H
  refine z0a (y9v (hp1 x5 r8 h9) rfl ⟨.inl rfl,trivial⟩) ?_
  refine z0g _ rfl (fun h10 => ?_) (fun h10 => ?_)
  ·replace H:=ift h10 H
   refine z0c ?_
   refine z0b hN rfl ?_
   refine qd rfl ?_
   refine qe rfl ?_
   refine z0m ?_
   replace H:=retl H hq3
   cases H
   exact ⟨trivial,.inl rfl,trivial⟩
  ·replace H:=iff_ h10 H
   refine z0l ?_
   refine z0b hN rfl ?_
   refine z0a (z3r rfl rfl (by omega)) ?_
   refine qd rfl ?_
   exact ⟨_,z84 H,⟨rfl,rfl,rfl,rfl,trivial⟩,trivial⟩
theorem z7j (s1:(List z0i)) (p1:z0i→Option (Bool)) (fv1:Nat) (us1:List V) (hp1:∀ a0 r,p1 a0=some r→Fn Tryz.prog fv1 ([vagg (z06 a0)]++us1) (z1r [z05 r])) (r:(Bool)) (H:z2a s1 p1=some r):Fn Tryz.prog 102 [vlst (List.map z06 s1),vfn fv1 us1] (z1r [z05 r]):=by
 refine ⟨by kernel_rfl,z1e (us:=[z05 r]) Tryz.func102 rfl rfl rfl rfl fun X hN => ?_⟩
 unfold z2a at H
 refine z0c ?_
 refine z0b hN rfl ?_
 refine qe rfl ?_
 refine z0c ?_
 refine z0b hN rfl ?_
 refine qd rfl ?_
 refine qd rfl ?_
 obtain ⟨r2,h3,H⟩:=bnd H
 refine z0a (z0q (z5e s1 p1 fv1 us1 hp1 r2 h3) ⟨.inl rfl,.inl rfl,trivial⟩) ?_
 refine z0a (z87 rfl rfl) ?_
 refine qe rfl ?_
 refine z0m ?_
 cases H
 exact ⟨trivial,.inl rfl,trivial⟩
theorem y6x (o1:z0i) (c2:z0i) (r:(Bool)) (H:z7b o1 c2=some r):Fn Tryz.prog 103 [vagg (z06 o1),y1q [[vstr c2.Id,vstr c2.Secret,vint c2.From,vint c2.To,vint c2.Until]] 0 0] (z1r [z05 r]):=by
 refine ⟨by kernel_rfl,z1e (us:=[z05 r]) Tryz.func103 rfl rfl rfl rfl fun X hN => ?_⟩
 unfold z7b at H
 refine z0c ?_
 refine z0b hN rfl ?_
 refine z0j (z9k 1 rfl) rfl ?_
 refine qe rfl ?_
 refine z0c ?_
 refine z0b hN rfl ?_
 refine z0a (z0r y5b rfl) ?_
 refine z0w (z0o tyS9 rfl rfl) rfl ?_
 refine z0a (z4a y5b rfl) ?_
 refine z0a (z0x tyS9 rfl rfl rfl) ?_
 refine z0a (z6c rfl rfl) ?_
 refine qe rfl ?_
 refine z0m ?_
 cases H
 exact ⟨trivial,.inl rfl,trivial⟩
theorem y93 (s1:Bs) (low2:Int) (r:(Bool)) (H:y1m s1 low2=some r):Fn Tryz.prog 154 [vstr s1,vval (.int .u8 low2)] (z1r [z05 r]):=by
 refine ⟨by kernel_rfl,z1e (us:=[z05 r]) Tryz.func154 rfl rfl rfl rfl fun X hN => ?_⟩
 unfold y1m at H
 refine z0c ?_
 refine z0b hN rfl ?_
 refine qe rfl ?_
 refine z0c ?_
 refine z0c ?_
 refine z0b hN rfl ?_
 refine qd rfl ?_
 refine z0a (z1m tyU9 rfl) ?_
 refine qd rfl ?_
 refine z0v ?_
 obtain ⟨h5,H⟩:=gif H
 refine z3u (fun (k3:Nat) (s:Unit)=>[(0,.dat (vstr s1)),(1,.dat (vval (.int .u8 low2))),(7,.dat (vint (s1.length:Int))),(8,.dat (vint (k3:Int)))]) (fun (k3:Nat) (s:Unit)=>[]) () H ⟨rfl,rfl,rfl,rfl,trivial⟩ trivial (fun _ _=>rfl) ?_ ?_
 ·rintro ⟨⟩ H
  replace H:y4g=some r:=H
  unfold y4g at H
  refine z0c ?_
  refine z0b hN rfl ?_
  refine z0a (z04 rfl rfl) ?_
  refine z0c ?_
  refine z0g _ rfl (fun h=>(lt_t h).elim) (fun h => ?_)
  refine z1u ?_
  refine z0c ?_
  refine z0b hN rfl ?_
  refine qe rfl ?_
  refine z0m ?_
  cases H
  exact ⟨trivial,.inl rfl,trivial⟩
 ·rintro k3 x6 ⟨⟩ q4 h7 h8 H hq4
  replace H:y2r low2 k3 x6=some q4:=H
  unfold y2r at H
  refine z0c ?_
  refine z0b hN rfl ?_
  refine z0a (z04 rfl rfl) ?_
  refine z0c ?_
  refine z0g _ rfl (fun h => ?_) (fun h=>(lt_f h7 h).elim)
  refine z0l ?_
  refine z0c ?_
  refine z0v ?_
  refine z0c ?_
  refine z0b hN rfl ?_
  refine qd rfl ?_
  refine qe rfl ?_
  refine z03 (ι:=Bool) (fun i=>[(0,.dat (vstr s1)),(1,.dat (vval (.int .u8 low2))),(7,.dat (vint (s1.length:Int))),(8,.dat (vint (k3:Int))),(21,.dat (z05 i))]) (fun i=>[]) (fun i=>z9e i=some q4) (fun i=>rfl) ?_ ?_
  ·skip
   refine z0b hN rfl ?_
   refine qd rfl ?_
   refine qd rfl ?_
   refine z0a (y00 tyU9 rfl rfl h8) ?_
   refine qd rfl ?_
   refine z0a (z04 rfl rfl) ?_
   refine qd rfl ?_
   refine z09 (j:=5) rfl rfl (fun h9 => ?_) (fun h9 => ?_) rfl
   ·have h10:=un3 h9
    replace H:=iff_ h10 H
    refine z0p rfl rfl h9 (z0h (.dat _) rfl) ?_
    refine z0p rfl rfl h9 (z0h (.dat _) rfl) ?_
    refine z0p rfl rfl h9 (y00 tyU9 rfl rfl h8) ?_
    refine z0p rfl rfl h9 (z2m rfl rfl) ?_
    refine z0a (z0z rfl (bFF h10) rfl) ?_
    exact ⟨decide (126 < (x6.toNat:Int)),H,⟨rfl,rfl,rfl,rfl,rfl,trivial⟩,trivial⟩
   ·have h11:=un4 h9
    replace H:=ift h11 H
    refine z0f rfl rfl h9 ?_
    refine z0f rfl rfl h9 ?_
    refine z0f rfl rfl h9 ?_
    refine z0f rfl rfl h9 ?_
    refine z0a (z00 rfl (bTT h11) rfl) ?_
    exact ⟨true,H,⟨rfl,rfl,rfl,rfl,rfl,trivial⟩,trivial⟩
  ·rintro v12 H
   replace H:z9e v12=some q4:=H
   unfold z9e at H
   refine z0g _ rfl (fun h13 => ?_) (fun h13 => ?_)
   ·replace H:=ift h13 H
    refine z0c ?_
    refine z0b hN rfl ?_
    refine qe rfl ?_
    refine z0m ?_
    replace H:=retl H hq4
    cases H
    exact ⟨trivial,.inl rfl,trivial⟩
   ·replace H:=iff_ h13 H
    refine z0l ?_
    refine z0b hN rfl ?_
    refine z0a (z3r rfl rfl (by omega)) ?_
    refine qd rfl ?_
    exact ⟨_,z84 H,⟨rfl,rfl,rfl,rfl,trivial⟩,trivial⟩
theorem y7z (s1:Bs) (r:(Int)) (H:z81 s1=some r):Fn Tryz.prog 104 [vstr s1] (z1r [vint r]):=by
 refine ⟨by kernel_rfl,z1e (us:=[vint r]) Tryz.func104 rfl rfl rfl rfl fun X hN => ?_⟩
 unfold z81 at H
 refine z0c ?_
 refine z0b hN rfl ?_
 refine qe rfl ?_
 refine z0c ?_
 refine z03 (ι:=Bool) (fun i=>[(0,.dat (vstr s1)),(9,.dat (z05 i))]) (fun i=>[]) (fun i=>z5f s1 i=some r) (fun i=>rfl) ?_ ?_
 ·skip
  refine z0b hN rfl ?_
  refine qd rfl ?_
  refine z0a (z6c rfl rfl) ?_
  refine qd rfl ?_
  refine z09 (j:=2) rfl rfl (fun h2 => ?_) (fun h2 => ?_) rfl
  ·have h3:=un3 h2
   replace H:=iff_ h3 H
   refine z0p rfl rfl h2 (z0h (.dat _) rfl) ?_
   obtain ⟨r4,h5,H⟩:=bnd H
   refine z0p rfl rfl h2 (z0q (y93 s1 33 r4 h5) ⟨.inl rfl,.inl rfl,trivial⟩) ?_
   refine z0p rfl rfl h2 (z2j rfl) ?_
   refine z0a (z0z rfl (bFF h3) rfl) ?_
   exact ⟨!r4,H,⟨rfl,rfl,trivial⟩,trivial⟩
  ·have h6:=un4 h2
   replace H:=ift h6 H
   refine z0f rfl rfl h2 ?_
   refine z0f rfl rfl h2 ?_
   refine z0f rfl rfl h2 ?_
   refine z0a (z00 rfl (bTT h6) rfl) ?_
   exact ⟨true,H,⟨rfl,rfl,trivial⟩,trivial⟩
 ·rintro v7 H
  replace H:z5f s1 v7=some r:=H
  unfold z5f at H
  refine z0g _ rfl (fun h8 => ?_) (fun h8 => ?_)
  ·replace H:=ift h8 H
   refine z0c ?_
   refine z0b hN rfl ?_
   refine qe rfl ?_
   refine z0m ?_
   cases H
   exact ⟨trivial,.inl rfl,trivial⟩
  ·replace H:=iff_ h8 H
   refine z0l ?_
   refine z0c ?_
   refine z0c ?_
   refine z0b hN rfl ?_
   refine qd rfl ?_
   refine z0a (z1m tyU9 rfl) ?_
   refine z0a (z2m rfl rfl) ?_
   refine z0g _ rfl (fun h9 => ?_) (fun h9 => ?_)
   ·replace H:=ift h9 H
    refine z0c ?_
    refine z0b hN rfl ?_
    refine qe rfl ?_
    refine z0m ?_
    cases H
    exact ⟨trivial,.inl rfl,trivial⟩
   ·replace H:=iff_ h9 H
    refine z0l ?_
    refine z0c ?_
    refine z0b hN rfl ?_
    refine qe rfl ?_
    refine z0m ?_
    cases H
    exact ⟨trivial,.inl rfl,trivial⟩
theorem y7r (v1:(List z0i)) (r:(Int)) (H:z8a v1=some r):Fn Tryz.prog 42 [vlst (List.map z06 v1)] (z1r [vint r]):=by
 refine ⟨by kernel_rfl,z1e (us:=[vint r]) Tryz.func42 rfl rfl rfl rfl fun X hN => ?_⟩
 unfold z8a at H
 refine z0c ?_
 refine z0b hN rfl ?_
 refine qe rfl ?_
 refine z0c ?_
 refine z0c ?_
 refine z0b hN rfl ?_
 refine qd rfl ?_
 refine z0a (z6r x5w rfl) ?_
 refine z0a (z2m rfl rfl) ?_
 refine z0g _ rfl (fun h2 => ?_) (fun h2 => ?_)
 ·replace H:=ift h2 H
  refine z0c ?_
  refine z0b hN rfl ?_
  refine qe rfl ?_
  refine z0m ?_
  cases H
  exact ⟨trivial,.inl rfl,trivial⟩
 ·replace H:=iff_ h2 H
  refine z0l ?_
  refine z0c ?_
  refine z0c ?_
  refine z0b hN rfl ?_
  refine qd rfl ?_
  refine z0a (z6r x5w rfl) ?_
  refine qd rfl ?_
  refine z0v ?_
  obtain ⟨h5,H⟩:=gif H
  refine z3u (fun (k3:Nat) (s:Unit)=>[(0,.dat (vlst (List.map z06 v1))),(9,.dat (vlst (List.map z06 v1))),(10,.dat (vint (v1.length:Int))),(11,.dat (vint (k3:Int)))]) (fun (k3:Nat) (s:Unit)=>[]) () H ⟨rfl,rfl,rfl,rfl,trivial⟩ trivial (fun _ _=>rfl) ?_ ?_
  ·rintro ⟨⟩ H
   replace H:y2f=some r:=H
   unfold y2f at H
   refine z0c ?_
   refine z0b hN rfl ?_
   refine z0a (z04 rfl rfl) ?_
   refine z0c ?_
   refine z0g _ rfl (fun h=>(lt_t h).elim) (fun h => ?_)
   refine z1u ?_
   refine z0c ?_
   refine z0b hN rfl ?_
   refine qe rfl ?_
   refine z0m ?_
   cases H
   exact ⟨trivial,.inl rfl,trivial⟩
  ·rintro k3 x6 ⟨⟩ q4 h7 h8 H hq4
   replace H:z7z v1 k3 x6=some q4:=H
   unfold z7z at H
   refine z0c ?_
   refine z0b hN rfl ?_
   refine z0a (z04 rfl rfl) ?_
   refine z0c ?_
   refine z0g _ rfl (fun h => ?_) (fun h=>(lt_f h7 h).elim)
   refine z0l ?_
   refine z0c ?_
   refine z0v ?_
   refine z0c ?_
   refine z0b hN rfl ?_
   refine qd rfl ?_
   refine z0a (y0r y86 (fun _=>rfl) rfl rfl h8) ?_
   refine z0a (y15 y58 rfl (z2l h8) rfl) ?_
   refine z0j (z2s 1 x0w rfl) rfl ?_
   refine qe rfl ?_
   refine z0j (z1b y58 rfl rfl rfl rfl) rfl ?_
   refine z0c ?_
   refine z0v ?_
   refine z0c ?_
   refine z0b hN rfl ?_
   refine z0a (z0r y5b rfl) ?_
   refine z0w (z0o tyS9 rfl rfl) rfl ?_
   obtain ⟨r9,h10,H⟩:=bnd H
   refine z0a (z0q (z6q x6.Id r9 h10) ⟨.inl rfl,trivial⟩) ?_
   refine z0a (z2j rfl) ?_
   refine qe rfl ?_
   refine z0g _ rfl (fun h11 => ?_) (fun h11 => ?_)
   ·replace H:=ift h11 H
    refine z0c ?_
    refine z0b hN rfl ?_
    refine qe rfl ?_
    refine z0m ?_
    replace H:=retl H hq4
    cases H
    exact ⟨trivial,.inl rfl,trivial⟩
   ·replace H:=iff_ h11 H
    refine z0c ?_
    refine y3w 1 [vstr x6.Id,vstr x6.Secret,vint x6.From,vint x6.To,vint x6.Until] rfl rfl ?_
    refine z0b hN rfl ?_
    refine qd rfl ?_
    refine qd rfl ?_
    obtain ⟨l12,h13,H⟩:=bnd H
    refine z0a (x1y y86 (fun _=>rfl) rfl rfl rfl h13) ?_
    refine z0a (y5c (us:=[_]) ⟨rfl,trivial⟩) ?_
    obtain ⟨r14,h15,H⟩:=bnd H
    refine z0a (z0q (z7j l12 (fun (a0:z0i)=>z7b a0 x6) 103 [y1q [[vstr x6.Id,vstr x6.Secret,vint x6.From,vint x6.To,vint x6.Until]] 0 0] (fun a0 r h=>y6x a0 x6 r h) r14 h15) ⟨.inl rfl,.inl rfl,trivial⟩) ?_
    refine qe rfl ?_
    refine z0g _ rfl (fun h16 => ?_) (fun h16 => ?_)
    ·replace H:=ift h16 H
     refine z0c ?_
     refine z0b hN rfl ?_
     refine qe rfl ?_
     refine z0m ?_
     replace H:=retl H hq4
     cases H
     exact ⟨trivial,.inl rfl,trivial⟩
    ·replace H:=iff_ h16 H
     refine z0l ?_
     refine z0c ?_
     refine z0c ?_
     refine z0b hN rfl ?_
     refine z0a (z4a y8h rfl) ?_
     refine z0a (z0x tyS9 rfl rfl rfl) ?_
     obtain ⟨r17,h18,H⟩:=bnd H
     refine z0a (z0q (y7z x6.Secret r17 h18) ⟨.inl rfl,trivial⟩) ?_
     refine qe rfl ?_
     refine z0c ?_
     refine z0b hN rfl ?_
     refine qd rfl ?_
     refine z0a (z48 rfl rfl) ?_
     refine z0g _ rfl (fun h19 => ?_) (fun h19 => ?_)
     ·replace H:=ift h19 H
      refine z0c ?_
      refine z0b hN rfl ?_
      refine qd rfl ?_
      refine qe rfl ?_
      refine z0m ?_
      replace H:=retl H hq4
      cases H
      exact ⟨trivial,.inl rfl,trivial⟩
     ·replace H:=iff_ h19 H
      refine z0l ?_
      refine z0v ?_
      refine z0c ?_
      refine z0b hN rfl ?_
      refine z0a (z4a y5a rfl) ?_
      refine z0a (z0x tyS3 rfl rfl rfl) ?_
      refine z0a (z4a y6k rfl) ?_
      refine z0a (z0x tyS3 rfl rfl rfl) ?_
      obtain ⟨r20,h21,H⟩:=bnd H
      refine z0a (z0q (y3t x6.From 0 x6.To r20 h21) ⟨.inl rfl,.inl rfl,.inl rfl,trivial⟩) ?_
      refine z0a (z2j rfl) ?_
      refine qd rfl ?_
      refine z2b rfl rfl (fun hc=>z4a y6k rfl) ?_
      refine z2b rfl rfl (fun hc=>z0x tyS3 (cnd (c:=(!(!r20))) hc) rfl rfl) ?_
      refine z2b rfl rfl (fun hc=>z4a y6j rfl) ?_
      refine z2b rfl rfl (fun hc=>z0x tyS3 (cnd (c:=(!(!r20))) hc) rfl rfl) ?_
      refine z2b rfl rfl (fun hc=>z2m (cnd (c:=(!(!r20))) hc) (cnd (c:=(!(!r20))) hc)) ?_
      refine z0a (z2h rfl rfl (fun hb=>(cnd (c:=(!(!r20))) (notI hb)))) ?_
      refine qd rfl ?_
      refine z2b rfl rfl (fun hc=>z4a y6j rfl) ?_
      refine z2b rfl rfl (fun hc=>z0x tyS3 (cnd (c:=(!((!r20) || (decide (x6.Until < x6.To))))) hc) rfl rfl) ?_
      refine z2b rfl rfl (fun hc=>z2m (cnd (c:=(!((!r20) || (decide (x6.Until < x6.To))))) hc) rfl) ?_
      refine z0a (z2h rfl rfl (fun hb=>(cnd (c:=(!((!r20) || (decide (x6.Until < x6.To))))) (notI hb)))) ?_
      refine qe rfl ?_
      refine z0g _ rfl (fun h22 => ?_) (fun h22 => ?_)
      ·replace H:=ift h22 H
       refine z0c ?_
       refine z0b hN rfl ?_
       refine qe rfl ?_
       refine z0m ?_
       replace H:=retl H hq4
       cases H
       exact ⟨trivial,.inl rfl,trivial⟩
      ·replace H:=iff_ h22 H
       refine z03 (ι:=Bool) (fun i=>[(0,.dat (vlst (List.map z06 v1))),(9,.dat (vlst (List.map z06 v1))),(10,.dat (vint (v1.length:Int))),(11,.dat (vint (k3:Int))),(52,.dat (z05 i))]) (fun i=>[]) (fun i=>z3m i=some q4) (fun i=>rfl) ?_ ?_
       ·skip
        refine z4k mixed hN rfl rfl ?_
        refine qd rfl ?_
        refine z0a (z2m rfl rfl) ?_
        refine qd rfl ?_
        refine z09 (j:=2) rfl rfl (fun h23 => ?_) (fun h23 => ?_) rfl
        ·have h24:=un1 h23
         replace H:=ift h24 H
         refine z0p rfl rfl h23 (z4a y5a rfl) ?_
         refine z0p rfl rfl h23 (z0x tyS3 rfl rfl rfl) ?_
         refine z0p rfl rfl h23 (z0h (.dat _) rfl) ?_
         refine z0p rfl rfl h23 (z0h (.dat _) rfl) ?_
         refine z0p rfl rfl h23 (y76 rfl rfl (by omega)) ?_
         obtain ⟨x25,h26,H⟩:=bnd H
         refine z0p rfl rfl h23 (y25 y86 (fun _=>rfl) rfl rfl h26) ?_
         refine z0p rfl rfl h23 (z4a y5a rfl) ?_
         refine z0p rfl rfl h23 (z0x tyS3 rfl (z2l (z6x h26).2) rfl) ?_
         refine z0p rfl rfl h23 (z04 rfl rfl) ?_
         refine z0a (z00 rfl (bTT h24) rfl) ?_
         refine qe rfl ?_
         refine ⟨rfl,?_⟩
         exact ⟨decide (x6.From < x25.From),H,⟨rfl,rfl,rfl,rfl,rfl,trivial⟩,trivial⟩
        ·have h27:=un2 h23
         replace H:=iff_ h27 H
         refine z0f rfl rfl h23 ?_
         refine z0f rfl rfl h23 ?_
         refine z0f rfl rfl h23 ?_
         refine z0f rfl rfl h23 ?_
         refine z0f rfl rfl h23 ?_
         refine z0f rfl rfl h23 ?_
         refine z0f rfl rfl h23 ?_
         refine z0f rfl rfl h23 ?_
         refine z0f rfl rfl h23 ?_
         refine z0a (z0z rfl (bFF h27) rfl) ?_
         refine qe rfl ?_
         refine ⟨rfl,?_⟩
         exact ⟨false,H,⟨rfl,rfl,rfl,rfl,rfl,trivial⟩,trivial⟩
       ·rintro v28 H
        replace H:z3m v28=some q4:=H
        unfold z3m at H
        refine z0g _ rfl (fun h29 => ?_) (fun h29 => ?_)
        ·replace H:=ift h29 H
         refine z0c ?_
         refine z0b hN rfl ?_
         refine qe rfl ?_
         refine z0m ?_
         replace H:=retl H hq4
         cases H
         exact ⟨trivial,.inl rfl,trivial⟩
        ·replace H:=iff_ h29 H
         refine z0l ?_
         refine z0b hN rfl ?_
         refine z0a (z3r rfl rfl (by omega)) ?_
         refine qd rfl ?_
         exact ⟨_,z84 H,⟨rfl,rfl,rfl,rfl,trivial⟩,trivial⟩
theorem y7s (l1:(List z0u)) (r:(Int)) (H:z8b l1=some r):Fn Tryz.prog 23 [vlst (List.map z1l l1)] (z1r [vint r]):=by
 refine ⟨by kernel_rfl,z1e (us:=[vint r]) Tryz.func23 rfl rfl rfl rfl fun X hN => ?_⟩
 unfold z8b at H
 refine z0c ?_
 refine z0b hN rfl ?_
 refine qe rfl ?_
 refine z0c ?_
 refine z0c ?_
 refine z0b hN rfl ?_
 refine qd rfl ?_
 refine z0a (z6r w0r rfl) ?_
 refine z0a (z2m rfl rfl) ?_
 refine z0g _ rfl (fun h2 => ?_) (fun h2 => ?_)
 ·replace H:=ift h2 H
  refine z0c ?_
  refine z0b hN rfl ?_
  refine qe rfl ?_
  refine z0m ?_
  cases H
  exact ⟨trivial,.inl rfl,trivial⟩
 ·replace H:=iff_ h2 H
  refine z0l ?_
  refine z0c ?_
  refine z0b hN rfl ?_
  refine qe rfl ?_
  refine z0c ?_
  refine z0c ?_
  refine z0b hN rfl ?_
  refine qd rfl ?_
  refine z0a (z6r w0r rfl) ?_
  refine qd rfl ?_
  refine z0v ?_
  obtain ⟨h6,H⟩:=gif H
  refine z3u (fun (k4:Nat) (s:Bs)=>[(3,.dat (vstr s)),(9,.dat (vlst (List.map z1l l1))),(10,.dat (vint (l1.length:Int))),(11,.dat (vint (k4:Int)))]) (fun (k4:Nat) (s:Bs)=>[]) [] H ⟨rfl,rfl,rfl,rfl,trivial⟩ trivial (fun _ _=>rfl) ?_ ?_
  ·rintro last3 H
   replace H:z93 last3=some r:=H
   unfold z93 at H
   refine z0c ?_
   refine z0b hN rfl ?_
   refine z0a (z04 rfl rfl) ?_
   refine z0c ?_
   refine z0g _ rfl (fun h=>(lt_t h).elim) (fun h => ?_)
   refine z1u ?_
   refine z0c ?_
   refine z0b hN rfl ?_
   refine qe rfl ?_
   refine z0m ?_
   cases H
   exact ⟨trivial,.inl rfl,trivial⟩
  ·rintro k4 x7 last3 q5 h8 h9 H hq5
   replace H:z71 k4 x7 last3=some q5:=H
   unfold z71 at H
   refine z0c ?_
   refine z0b hN rfl ?_
   refine z0a (z04 rfl rfl) ?_
   refine z0c ?_
   refine z0g _ rfl (fun h => ?_) (fun h=>(lt_f h8 h).elim)
   refine z0l ?_
   refine z0c ?_
   refine z0v ?_
   refine z0c ?_
   refine z0b hN rfl ?_
   refine z0a (y0r w4a (fun _=>rfl) rfl rfl h9) ?_
   refine z0a (y15 w0s rfl (z2l h9) rfl) ?_
   refine z0j (z2s 1 w3z rfl) rfl ?_
   refine z0j (z1b w0s rfl rfl rfl rfl) rfl ?_
   refine z0c ?_
   refine z0v ?_
   refine z0c ?_
   refine z0b hN rfl ?_
   refine z0a (z0r y6r rfl) ?_
   refine z0w (z0o tyS9 rfl rfl) rfl ?_
   obtain ⟨r10,h11,H⟩:=bnd H
   refine z0a (z0q (z6q x7.Id r10 h11) ⟨.inl rfl,trivial⟩) ?_
   refine z0a (z2j rfl) ?_
   refine qe rfl ?_
   refine z0g _ rfl (fun h12 => ?_) (fun h12 => ?_)
   ·replace H:=ift h12 H
    refine z0c ?_
    refine z0b hN rfl ?_
    refine qe rfl ?_
    refine z0m ?_
    replace H:=retl H hq5
    cases H
    exact ⟨trivial,.inl rfl,trivial⟩
   ·replace H:=iff_ h12 H
    refine z0c ?_
    refine z0b hN rfl ?_
    refine z0a (z0r y6r rfl) ?_
    refine z0w (z0o tyS9 rfl rfl) rfl ?_
    refine qd rfl ?_
    refine z0a (y9u rfl rfl) ?_
    refine qe rfl ?_
    refine z0g _ rfl (fun h13 => ?_) (fun h13 => ?_)
    ·replace H:=ift h13 H
     refine z0c ?_
     refine z0b hN rfl ?_
     refine qe rfl ?_
     refine z0m ?_
     replace H:=retl H hq5
     cases H
     exact ⟨trivial,.inl rfl,trivial⟩
    ·replace H:=iff_ h13 H
     refine z0c ?_
     refine z0b hN rfl ?_
     refine z0a (z0r x4o rfl) ?_
     refine z0w (z0o tyS3 rfl rfl) rfl ?_
     refine z0a (z0r x4n rfl) ?_
     refine z0w (z0o tyS3 rfl rfl) rfl ?_
     obtain ⟨r14,h15,H⟩:=bnd H
     refine z0a (z0q (y3t x7.At 0 x7.Until r14 h15) ⟨.inl rfl,.inl rfl,.inl rfl,trivial⟩) ?_
     refine z0a (z2j rfl) ?_
     refine qd rfl ?_
     refine z2b rfl rfl (fun hc=>z0r x4n rfl) ?_
     refine y1s rfl rfl (fun hc=>z0o tyS3 (cnd (c:=(!(!r14))) hc) rfl) rfl y3x ?_
     refine z2b rfl rfl (fun hc=>z2m (cnd (c:=(!(!r14))) hc) rfl) ?_
     refine z0a (z2h rfl rfl (fun hb=>(cnd (c:=(!(!r14))) (notI hb)))) ?_
     refine qe rfl ?_
     refine z0g _ rfl (fun h16 => ?_) (fun h16 => ?_)
     ·replace H:=ift h16 H
      refine z0c ?_
      refine z0b hN rfl ?_
      refine qe rfl ?_
      refine z0m ?_
      replace H:=retl H hq5
      cases H
      exact ⟨trivial,.inl rfl,trivial⟩
     ·replace H:=iff_ h16 H
      refine z0l ?_
      refine z0b hN rfl ?_
      refine z0a (z0r y6r rfl) ?_
      refine z0w (z0o tyS9 rfl rfl) rfl ?_
      refine qe rfl ?_
      refine z0b hN rfl ?_
      refine z0a (z3r rfl rfl (by omega)) ?_
      refine qd rfl ?_
      exact ⟨_,z84 H,⟨rfl,rfl,rfl,rfl,trivial⟩,trivial⟩
theorem y6g (x1:Bs) (r:(Bool)) (H:y08 x1=some r):Fn Tryz.prog 163 [vstr x1] (z1r [z05 r]):=by
 refine ⟨by kernel_rfl,z1e (us:=[z05 r]) Tryz.func163 rfl rfl rfl rfl fun X hN => ?_⟩
 unfold y08 at H
 refine z0c ?_
 refine z0b hN rfl ?_
 refine qe rfl ?_
 refine z0c ?_
 refine z0b hN rfl ?_
 refine qd rfl ?_
 refine qd rfl ?_
 refine z0a (z9j rfl rfl) ?_
 refine qe rfl ?_
 refine z0m ?_
 cases H
 exact ⟨trivial,.inl rfl,trivial⟩
theorem y8d (x1:Bs) (y2:Bs) (r:(Int)) (H:z9w x1 y2=some r):Fn Tryz.prog 108 [vstr x1,vstr y2] (z1r [vint r]):=by
 refine ⟨by kernel_rfl,z1e (us:=[vint r]) Tryz.func108 rfl rfl rfl rfl fun X hN => ?_⟩
 unfold z9w at H
 refine z0c ?_
 refine z0b hN rfl ?_
 refine qe rfl ?_
 refine z0c ?_
 refine z0b hN rfl ?_
 refine qd rfl ?_
 obtain ⟨r3,h4,H⟩:=bnd H
 refine z0a (z0q (y6g x1 r3 h4) ⟨.inl rfl,trivial⟩) ?_
 refine qe rfl ?_
 refine z0c ?_
 refine z0b hN rfl ?_
 refine qd rfl ?_
 obtain ⟨r5,h6,H⟩:=bnd H
 refine z0a (z0q (y6g y2 r5 h6) ⟨.inl rfl,trivial⟩) ?_
 refine qe rfl ?_
 refine z0c ?_
 refine z0c ?_
 refine z0b hN rfl ?_
 refine qd rfl ?_
 refine z0g _ rfl (fun h7 => ?_) (fun h7 => ?_)
 ·replace H:=ift h7 H
  refine z0c ?_
  refine z0c ?_
  refine z0b hN rfl ?_
  refine qd rfl ?_
  refine z0g _ rfl (fun h8 => ?_) (fun h8 => ?_)
  ·replace H:=ift h8 H
   refine z0c ?_
   refine z0b hN rfl ?_
   refine qe rfl ?_
   refine z0m ?_
   cases H
   exact ⟨trivial,.inl rfl,trivial⟩
  ·replace H:=iff_ h8 H
   refine z0l ?_
   refine z0c ?_
   refine z0b hN rfl ?_
   refine qe rfl ?_
   refine z0m ?_
   cases H
   exact ⟨trivial,.inl rfl,trivial⟩
 ·replace H:=iff_ h7 H
  refine z0l ?_
  refine z0c ?_
  refine z0c ?_
  refine z0b hN rfl ?_
  refine qd rfl ?_
  refine z0g _ rfl (fun h9 => ?_) (fun h9 => ?_)
  ·replace H:=ift h9 H
   refine z0c ?_
   refine z0b hN rfl ?_
   refine qe rfl ?_
   refine z0m ?_
   cases H
   exact ⟨trivial,.inl rfl,trivial⟩
  ·replace H:=iff_ h9 H
   refine z0l ?_
   refine z0c ?_
   refine z0c ?_
   refine z0b hN rfl ?_
   refine qd rfl ?_
   refine qd rfl ?_
   refine z0a (x8j rfl rfl) ?_
   refine z0g _ rfl (fun h10 => ?_) (fun h10 => ?_)
   ·replace H:=ift h10 H
    refine z0c ?_
    refine z0b hN rfl ?_
    refine qe rfl ?_
    refine z0m ?_
    cases H
    exact ⟨trivial,.inl rfl,trivial⟩
   ·replace H:=iff_ h10 H
    refine z0l ?_
    refine z0c ?_
    refine z0c ?_
    refine z0b hN rfl ?_
    refine qd rfl ?_
    refine qd rfl ?_
    refine z0a (w4i rfl rfl) ?_
    refine z0g _ rfl (fun h11 => ?_) (fun h11 => ?_)
    ·replace H:=ift h11 H
     refine z0c ?_
     refine z0b hN rfl ?_
     refine qe rfl ?_
     refine z0m ?_
     cases H
     exact ⟨trivial,.inl rfl,trivial⟩
    ·replace H:=iff_ h11 H
     refine z0l ?_
     refine z0c ?_
     refine z0b hN rfl ?_
     refine qe rfl ?_
     refine z0m ?_
     cases H
     exact ⟨trivial,.inl rfl,trivial⟩
theorem y4s (s1:(List Bs)) (s2:(List Bs)) (r:(Int)) (H:z36 s1 s2=some r):Fn Tryz.prog 46 [vlst (List.map z0n s1),vlst (List.map z0n s2)] (z1r [vint r]):=by
 refine ⟨by kernel_rfl,z1e (us:=[vint r]) Tryz.func46 rfl rfl rfl rfl fun X hN => ?_⟩
 unfold z36 at H
 refine z0c ?_
 refine z0b hN rfl ?_
 refine qe rfl ?_
 refine z0c ?_
 refine z0c ?_
 refine z0b hN rfl ?_
 refine qd rfl ?_
 refine z0a (z6r z9p rfl) ?_
 refine qd rfl ?_
 refine z0v ?_
 obtain ⟨h5,H⟩:=gif H
 refine z3u (fun (k3:Nat) (s:Unit)=>[(0,.dat (vlst (List.map z0n s1))),(1,.dat (vlst (List.map z0n s2))),(9,.dat (vlst (List.map z0n s1))),(10,.dat (vint (s1.length:Int))),(11,.dat (vint (k3:Int)))]) (fun (k3:Nat) (s:Unit)=>[]) () H ⟨rfl,rfl,rfl,rfl,rfl,trivial⟩ trivial (fun _ _=>rfl) ?_ ?_
 ·rintro ⟨⟩ H
  replace H:z5w s1 s2=some r:=H
  unfold z5w at H
  refine z0c ?_
  refine z0b hN rfl ?_
  refine z0a (z04 rfl rfl) ?_
  refine z0c ?_
  refine z0g _ rfl (fun h=>(lt_t h).elim) (fun h => ?_)
  refine z1u ?_
  refine z0c ?_
  refine z0c ?_
  refine z0b hN rfl ?_
  refine qd rfl ?_
  refine z0a (z6r z9p rfl) ?_
  refine qd rfl ?_
  refine z0a (z6r z9p rfl) ?_
  refine z0a (z04 rfl rfl) ?_
  refine z0g _ rfl (fun h7 => ?_) (fun h7 => ?_)
  ·replace H:=ift h7 H
   refine z0c ?_
   refine z0b hN rfl ?_
   refine qe rfl ?_
   refine z0m ?_
   cases H
   exact ⟨trivial,.inl rfl,trivial⟩
  ·replace H:=iff_ h7 H
   refine z0l ?_
   refine z0c ?_
   refine z0b hN rfl ?_
   refine qe rfl ?_
   refine z0m ?_
   cases H
   exact ⟨trivial,.inl rfl,trivial⟩
 ·rintro k3 x6 ⟨⟩ q4 h8 h9 H hq4
  replace H:z2e s2 k3 x6=some q4:=H
  unfold z2e at H
  refine z0c ?_
  refine z0b hN rfl ?_
  refine z0a (z04 rfl rfl) ?_
  refine z0c ?_
  refine z0g _ rfl (fun h => ?_) (fun h=>(lt_f h8 h).elim)
  refine z0l ?_
  refine z0c ?_
  refine z0v ?_
  refine z0c ?_
  refine z0b hN rfl ?_
  refine qd rfl ?_
  refine z0a (y0r z9i (fun _=>rfl) rfl rfl h9) ?_
  refine z0a (z0x tyS9 rfl (z2l h9) rfl) ?_
  refine qe rfl ?_
  refine qe rfl ?_
  refine z0c ?_
  refine z0c ?_
  refine z0b hN rfl ?_
  refine qd rfl ?_
  refine qd rfl ?_
  refine z0a (z6r z9p rfl) ?_
  refine z0a (z87 rfl rfl) ?_
  refine z0g _ rfl (fun h10 => ?_) (fun h10 => ?_)
  ·replace H:=ift h10 H
   refine z0c ?_
   refine z0b hN rfl ?_
   refine qe rfl ?_
   refine z0m ?_
   replace H:=retl H hq4
   cases H
   exact ⟨trivial,.inl rfl,trivial⟩
  ·replace H:=iff_ h10 H
   refine z0l ?_
   refine z0c ?_
   refine z0b hN rfl ?_
   refine qd rfl ?_
   refine qd rfl ?_
   obtain ⟨x11,h12,H⟩:=bnd H
   refine z0a (y0r z9i (fun _=>rfl) rfl rfl h12) ?_
   refine z0a (z0x tyS9 rfl (z2l h12) rfl) ?_
   refine qe rfl ?_
   refine z0c ?_
   refine z0b hN rfl ?_
   refine qd rfl ?_
   refine qd rfl ?_
   obtain ⟨r13,h14,H⟩:=bnd H
   refine z0a (z0q (y8d x6 x11 r13 h14) ⟨.inl rfl,.inl rfl,trivial⟩) ?_
   refine qe rfl ?_
   refine z0c ?_
   refine z0b hN rfl ?_
   refine qd rfl ?_
   refine z0a (z48 rfl rfl) ?_
   refine z0g _ rfl (fun h15 => ?_) (fun h15 => ?_)
   ·replace H:=ift h15 H
    refine z0c ?_
    refine z0b hN rfl ?_
    refine qd rfl ?_
    refine qe rfl ?_
    refine z0m ?_
    replace H:=retl H hq4
    cases H
    exact ⟨trivial,.inl rfl,trivial⟩
   ·replace H:=iff_ h15 H
    refine z0l ?_
    refine z0b hN rfl ?_
    refine z0a (z3r rfl rfl (by omega)) ?_
    refine qd rfl ?_
    exact ⟨_,z84 H,⟨rfl,rfl,rfl,rfl,rfl,trivial⟩,trivial⟩
theorem x03 (s sep:Bs) (r:List Bs) (H:z3g s sep=some r):FnG Tryz.prog 127 [.dat (vstr s),.dat (vstr sep)] [] (.row 900 r.length) [(900,.row 9 1 (List.map z0n r))]:=by
 obtain ⟨h1,h2,rfl⟩:=x9v H
 have hlen:=Lib.splitB_all ⟨sep.toArray⟩ (by simpa [ByteArray.size] using h2) 0 _ ⟨s.toArray⟩ rfl
 have hle:=Lib.countB_le ⟨sep.toArray⟩ (by simpa [ByteArray.size] using h2) _ ⟨s.toArray⟩ (Nat.le_refl _)
 refine w5p (args:=[vstr s,vstr sep]) (y8y s sep) (by kernel_rfl) (fun M w vs hM hvs => ?_) ?_
 ·have hv:=y49 (us:=[.string ⟨s.toArray⟩,.string ⟨sep.toArray⟩]) hvs
  subst hv
  obtain ⟨m,hm⟩:=y9c hM
  refine (Tryz.strings_Split ⟨s.toArray⟩ ⟨sep.toArray⟩ m w (by simp [ByteArray.size]; omega) hm (by simpa [ByteArray.size] using h2)).mono ?_
  rintro e w' ⟨rfl,rfl⟩
  have e1:(y8y s sep).length=Lib.countB ⟨s.toArray⟩ ⟨sep.toArray⟩+1:=by unfold y8y; rw [List.length_map,hlen]
  have e2:((y8y s sep).map fun s=>Value.string ⟨s.toArray⟩)=(Lib.splitB ⟨sep.toArray⟩ 0 (Lib.countB ⟨s.toArray⟩ ⟨sep.toArray⟩) ⟨s.toArray⟩).map Value.string:=by
   unfold y8y
   rw [List.map_map]
   exact List.map_congr_left fun b _=>by simp
  rw [e1,e2]
  exact ⟨rfl,rfl⟩
 ·unfold y8y maxLen
  rw [List.length_map,hlen]
  have hsz:(ByteArray.mk s.toArray).size=s.length:=by simp [ByteArray.size]
  rw [hsz] at hle
  omega
theorem y09 (s sep:Bs) (r:List Bs) (H:z3g s sep=some r):Fn Tryz.prog 127 [vstr s,vstr sep] (z1r [vlst (List.map z0n r)]):=by
 have h:=x03 s sep r H
 rw [← List.length_map (f:=z0n)] at h
 exact w2l h
theorem x05 (s1:Bs) (r:(Bool)) (H:y2w s1=some r):Fn Tryz.prog 109 [vstr s1] (z1r [z05 r]):=by
 refine ⟨by kernel_rfl,z1e (us:=[z05 r]) Tryz.func109 rfl rfl rfl rfl fun X hN => ?_⟩
 unfold y2w at H
 refine z0c ?_
 refine z0b hN rfl ?_
 refine qe rfl ?_
 refine z0c ?_
 refine z0b hN rfl ?_
 refine qd rfl ?_
 obtain ⟨r2,h3,H⟩:=bnd H
 refine z0a (z0q (y09 s1 [58] r2 h3) ⟨.inl rfl,.inl rfl,trivial⟩) ?_
 refine qe rfl ?_
 refine z0c ?_
 refine z0c ?_
 refine z0b hN rfl ?_
 refine qd rfl ?_
 refine z0a (z6r z9p rfl) ?_
 refine qd rfl ?_
 refine z0v ?_
 obtain ⟨h6,H⟩:=gif H
 refine z3u (fun (k4:Nat) (s:Unit)=>[(3,.dat (vlst (List.map z0n r2))),(8,.dat (vlst (List.map z0n r2))),(9,.dat (vint (r2.length:Int))),(10,.dat (vint (k4:Int)))]) (fun (k4:Nat) (s:Unit)=>[]) () H ⟨rfl,rfl,rfl,rfl,trivial⟩ trivial (fun _ _=>rfl) ?_ ?_
 ·rintro ⟨⟩ H
  replace H:y48 r2=some r:=H
  unfold y48 at H
  refine z0c ?_
  refine z0b hN rfl ?_
  refine z0a (z04 rfl rfl) ?_
  refine z0c ?_
  refine z0g _ rfl (fun h=>(lt_t h).elim) (fun h => ?_)
  refine z1u ?_
  refine z0c ?_
  refine z0b hN rfl ?_
  refine qd rfl ?_
  refine z0a (z6r z9p rfl) ?_
  refine z0a (y0f rfl rfl) ?_
  refine qe rfl ?_
  refine z0m ?_
  cases H
  exact ⟨trivial,.inl rfl,trivial⟩
 ·rintro k4 x7 ⟨⟩ q5 h8 h9 H hq5
  replace H:y3u r2 k4 x7=some q5:=H
  unfold y3u at H
  refine z0c ?_
  refine z0b hN rfl ?_
  refine z0a (z04 rfl rfl) ?_
  refine z0c ?_
  refine z0g _ rfl (fun h => ?_) (fun h=>(lt_f h8 h).elim)
  refine z0l ?_
  refine z0c ?_
  refine z0v ?_
  refine z0c ?_
  refine z0b hN rfl ?_
  refine qd rfl ?_
  refine z0a (y0r z9i (fun _=>rfl) rfl rfl h9) ?_
  refine z0a (z0x tyS9 rfl (z2l h9) rfl) ?_
  refine qe rfl ?_
  refine qe rfl ?_
  refine z0c ?_
  refine z0b hN rfl ?_
  refine qd rfl ?_
  obtain ⟨r10,h11,H⟩:=bnd H
  refine z0a (z0q (z6q x7 r10 h11) ⟨.inl rfl,trivial⟩) ?_
  refine z0a (z2j rfl) ?_
  refine qd rfl ?_
  refine z57 rfl rfl (fun hc=>z0h (.dat _) rfl) ?_
  refine z57 rfl rfl (fun hc=>z9j (cnd (c:=(!r10)) hc) rfl) ?_
  refine z57 rfl rfl (fun hc=>z0h (.dat _) (cnd (c:=(!r10)) hc)) ?_
  refine y9w rfl rfl (fun hc=>z0h (.dat _) rfl) ?_
  refine y9w rfl rfl (fun hc=>z0h (.dat _) rfl) ?_
  refine y9w rfl rfl (fun hc=>z6r z9p (cnd (c:=((!r10) && !(decide (x7≠[42])))) hc)) ?_
  refine y9w rfl rfl (fun hc=>z1c _ (cnd (c:=((!r10) && !(decide (x7≠[42])))) hc) rfl (.inr (.inl ⟨rfl,rfl⟩))) ?_
  refine y9w rfl rfl (fun hc=>z04 (cnd (c:=((!r10) && !(decide (x7≠[42])))) hc) (cnd (c:=((!r10) && !(decide (x7≠[42])))) hc)) ?_
  refine z57 rfl rfl (fun hc=>z2h (cnd (c:=(!r10)) hc) rfl (fun hb=>(cnd (c:=((!r10) && !(decide (x7≠[42])))) (andI hc (notI hb))))) ?_
  refine z0a (z2c rfl (fun hb=>(cnd (c:=(!r10)) hb)) rfl) ?_
  refine z0g _ rfl (fun h12 => ?_) (fun h12 => ?_)
  ·replace H:=ift h12 H
   refine z0c ?_
   refine z0b hN rfl ?_
   refine qe rfl ?_
   refine z0m ?_
   replace H:=retl H hq5
   cases H
   exact ⟨trivial,.inl rfl,trivial⟩
  ·replace H:=iff_ h12 H
   refine z0l ?_
   refine z0b hN rfl ?_
   refine z0a (z3r rfl rfl (by omega)) ?_
   refine qd rfl ?_
   exact ⟨_,z84 H,⟨rfl,rfl,rfl,rfl,trivial⟩,trivial⟩
theorem y4z (l1:(List Bs)) (r:(Int)) (H:z65 l1=some r):Fn Tryz.prog 47 [vlst (List.map z0n l1)] (z1r [vint r]):=by
 refine ⟨by kernel_rfl,z1e (us:=[vint r]) Tryz.func47 rfl rfl rfl rfl fun X hN => ?_⟩
 unfold z65 at H
 refine z0c ?_
 refine z0b hN rfl ?_
 refine qe rfl ?_
 refine z0c ?_
 refine z0c ?_
 refine z0b hN rfl ?_
 refine qd rfl ?_
 refine z0a (z6r z9p rfl) ?_
 refine z0a (z2m rfl rfl) ?_
 refine z0g _ rfl (fun h2 => ?_) (fun h2 => ?_)
 ·replace H:=ift h2 H
  refine z0c ?_
  refine z0b hN rfl ?_
  refine qe rfl ?_
  refine z0m ?_
  cases H
  exact ⟨trivial,.inl rfl,trivial⟩
 ·replace H:=iff_ h2 H
  refine z0l ?_
  refine z0c ?_
  refine z0c ?_
  refine z0b hN rfl ?_
  refine qd rfl ?_
  refine z0a (z6r z9p rfl) ?_
  refine qd rfl ?_
  refine z0v ?_
  obtain ⟨h5,H⟩:=gif H
  refine z3u (fun (k3:Nat) (s:Unit)=>[(8,.dat (vlst (List.map z0n l1))),(9,.dat (vint (l1.length:Int))),(10,.dat (vint (k3:Int)))]) (fun (k3:Nat) (s:Unit)=>[]) () H ⟨rfl,rfl,rfl,trivial⟩ trivial (fun _ _=>rfl) ?_ ?_
  ·rintro ⟨⟩ H
   replace H:y2s=some r:=H
   unfold y2s at H
   refine z0c ?_
   refine z0b hN rfl ?_
   refine z0a (z04 rfl rfl) ?_
   refine z0c ?_
   refine z0g _ rfl (fun h=>(lt_t h).elim) (fun h => ?_)
   refine z1u ?_
   refine z0c ?_
   refine z0b hN rfl ?_
   refine qe rfl ?_
   refine z0m ?_
   cases H
   exact ⟨trivial,.inl rfl,trivial⟩
  ·rintro k3 x6 ⟨⟩ q4 h7 h8 H hq4
   replace H:y0i k3 x6=some q4:=H
   unfold y0i at H
   refine z0c ?_
   refine z0b hN rfl ?_
   refine z0a (z04 rfl rfl) ?_
   refine z0c ?_
   refine z0g _ rfl (fun h => ?_) (fun h=>(lt_f h7 h).elim)
   refine z0l ?_
   refine z0c ?_
   refine z0v ?_
   refine z0c ?_
   refine z0b hN rfl ?_
   refine z0a (y0r z9i (fun _=>rfl) rfl rfl h8) ?_
   refine z0a (z0x tyS9 rfl (z2l h8) rfl) ?_
   refine qe rfl ?_
   refine z0c ?_
   refine z0b hN rfl ?_
   refine qd rfl ?_
   obtain ⟨r9,h10,H⟩:=bnd H
   refine z0a (z0q (x05 x6 r9 h10) ⟨.inl rfl,trivial⟩) ?_
   refine z0a (z2j rfl) ?_
   refine z0g _ rfl (fun h11 => ?_) (fun h11 => ?_)
   ·replace H:=ift h11 H
    refine z0c ?_
    refine z0b hN rfl ?_
    refine qe rfl ?_
    refine z0m ?_
    replace H:=retl H hq4
    cases H
    exact ⟨trivial,.inl rfl,trivial⟩
   ·replace H:=iff_ h11 H
    refine z0l ?_
    refine z0b hN rfl ?_
    refine z0a (z3r rfl rfl (by omega)) ?_
    refine qd rfl ?_
    exact ⟨_,z84 H,⟨rfl,rfl,rfl,trivial⟩,trivial⟩
theorem y4u (v1:(List z0y)) (r:(Int)) (H:z6s v1=some r):Fn Tryz.prog 10 [vlst (List.map z1w v1)] (z1r [vint r]):=by
 refine ⟨by kernel_rfl,z1e (us:=[vint r]) Tryz.func10 rfl rfl rfl rfl fun X hN => ?_⟩
 unfold z6s at H
 refine z0c ?_
 refine z0b hN rfl ?_
 refine qe rfl ?_
 refine z0c ?_
 refine z0c ?_
 refine z0b hN rfl ?_
 refine qd rfl ?_
 refine z0a (z6r w31 rfl) ?_
 refine z0a (z2m rfl rfl) ?_
 refine z0g _ rfl (fun h2 => ?_) (fun h2 => ?_)
 ·replace H:=ift h2 H
  refine z0c ?_
  refine z0b hN rfl ?_
  refine qe rfl ?_
  refine z0m ?_
  cases H
  exact ⟨trivial,.inl rfl,trivial⟩
 ·replace H:=iff_ h2 H
  refine z0l ?_
  refine z0c ?_
  refine z0c ?_
  refine z0b hN rfl ?_
  refine qd rfl ?_
  refine z0a (z6r w31 rfl) ?_
  refine qd rfl ?_
  refine z0v ?_
  obtain ⟨h5,H⟩:=gif H
  refine z3u (fun (k3:Nat) (s:Unit)=>[(0,.dat (vlst (List.map z1w v1))),(9,.dat (vlst (List.map z1w v1))),(10,.dat (vint (v1.length:Int))),(11,.dat (vint (k3:Int)))]) (fun (k3:Nat) (s:Unit)=>[]) () H ⟨rfl,rfl,rfl,rfl,trivial⟩ trivial (fun _ _=>rfl) ?_ ?_
  ·rintro ⟨⟩ H
   replace H:y2g=some r:=H
   unfold y2g at H
   refine z0c ?_
   refine z0b hN rfl ?_
   refine z0a (z04 rfl rfl) ?_
   refine z0c ?_
   refine z0g _ rfl (fun h=>(lt_t h).elim) (fun h => ?_)
   refine z1u ?_
   refine z0c ?_
   refine z0b hN rfl ?_
   refine qe rfl ?_
   refine z0m ?_
   cases H
   exact ⟨trivial,.inl rfl,trivial⟩
  ·rintro k3 x6 ⟨⟩ q4 h7 h8 H hq4
   replace H:z6l v1 k3 x6=some q4:=H
   unfold z6l at H
   refine z0c ?_
   refine z0b hN rfl ?_
   refine z0a (z04 rfl rfl) ?_
   refine z0c ?_
   refine z0g _ rfl (fun h => ?_) (fun h=>(lt_f h7 h).elim)
   refine z0l ?_
   refine z0c ?_
   refine z0v ?_
   refine z0c ?_
   refine z0b hN rfl ?_
   refine qd rfl ?_
   refine z0a (y0r x68 (fun _=>rfl) rfl rfl h8) ?_
   refine z0a (y15 w34 rfl (z2l h8) rfl) ?_
   refine z0j (z2s 1 w3y rfl) rfl ?_
   refine qe rfl ?_
   refine z0j (z1b w34 rfl rfl rfl rfl) rfl ?_
   refine z0c ?_
   refine z0v ?_
   refine z0c ?_
   refine z0b hN rfl ?_
   refine z0a (z0r y73 rfl) ?_
   refine z0w (z0o tyS9 rfl rfl) rfl ?_
   obtain ⟨r9,h10,H⟩:=bnd H
   refine z0a (z0q (z6q x6.App r9 h10) ⟨.inl rfl,trivial⟩) ?_
   refine z0a (z2j rfl) ?_
   refine qe rfl ?_
   refine z0g _ rfl (fun h11 => ?_) (fun h11 => ?_)
   ·replace H:=ift h11 H
    refine z0c ?_
    refine z0b hN rfl ?_
    refine qe rfl ?_
    refine z0m ?_
    replace H:=retl H hq4
    cases H
    exact ⟨trivial,.inl rfl,trivial⟩
   ·replace H:=iff_ h11 H
    refine z03 (ι:=Bool) (fun i=>[(0,.dat (vlst (List.map z1w v1))),(3,.dat (vint (k3:Int))),(4,.ptr 1 0),(9,.dat (vlst (List.map z1w v1))),(10,.dat (vint (v1.length:Int))),(11,.dat (vint (k3:Int))),(21,.dat (z05 i))]) (fun i=>[(1,.box none 80 [.dat (vstr x6.App),.dat (vstr x6.Sum),.dat (vlst (List.map z0n x6.Scopes)),.dat (vint x6.From),.dat (vint x6.To)])]) (fun i=>z3o v1 k3 x6 i=some q4) (fun i=>rfl) ?_ ?_
    ·skip
     refine z0b hN rfl ?_
     refine z0a (z0r y83 rfl) ?_
     refine z0w (z0o tyS9 rfl rfl) rfl ?_
     refine z0a (z1m tyU9 rfl) ?_
     refine z0a (z48 rfl rfl) ?_
     refine qd rfl ?_
     refine z09 (j:=4) rfl rfl (fun h12 => ?_) (fun h12 => ?_) rfl
     ·have h13:=un3 h12
      replace H:=iff_ h13 H
      refine z0p rfl rfl h12 (z0r y83 rfl) ?_
      refine z8z rfl rfl h12 (z0o tyS9 rfl rfl) rfl ?_
      obtain ⟨r14,h15,H⟩:=bnd H
      refine z0p rfl rfl h12 (z0q (y4t x6.Sum [48,49,50,51,52,53,54,55,56,57,97,98,99,100,101,102] r14 h15) ⟨.inl rfl,.inl rfl,trivial⟩) ?_
      refine z0p rfl rfl h12 (z2j rfl) ?_
      refine z0a (z0z rfl (bFF h13) rfl) ?_
      refine qe rfl ?_
      exact ⟨!r14,H,⟨rfl,rfl,rfl,rfl,rfl,rfl,rfl,trivial⟩,⟨rfl,trivial⟩⟩
     ·have h16:=un4 h12
      replace H:=ift h16 H
      refine z0f rfl rfl h12 ?_
      refine z0f rfl rfl h12 ?_
      refine z0f rfl rfl h12 ?_
      refine z0f rfl rfl h12 ?_
      refine z0a (z00 rfl (bTT h16) rfl) ?_
      refine qe rfl ?_
      exact ⟨true,H,⟨rfl,rfl,rfl,rfl,rfl,rfl,rfl,trivial⟩,⟨rfl,trivial⟩⟩
    ·rintro v17 H
     replace H:z3o v1 k3 x6 v17=some q4:=H
     unfold z3o at H
     refine z0g _ rfl (fun h18 => ?_) (fun h18 => ?_)
     ·replace H:=ift h18 H
      refine z0c ?_
      refine z0b hN rfl ?_
      refine qe rfl ?_
      refine z0m ?_
      replace H:=retl H hq4
      cases H
      exact ⟨trivial,.inl rfl,trivial⟩
     ·replace H:=iff_ h18 H
      refine z03 (ι:=Bool) (fun i=>[(0,.dat (vlst (List.map z1w v1))),(4,.ptr 1 0),(9,.dat (vlst (List.map z1w v1))),(10,.dat (vint (v1.length:Int))),(11,.dat (vint (k3:Int))),(32,.dat (z05 i))]) (fun i=>[(1,.box none 80 [.dat (vstr x6.App),.dat (vstr x6.Sum),.dat (vlst (List.map z0n x6.Scopes)),.dat (vint x6.From),.dat (vint x6.To)])]) (fun i=>z3n x6 i=some q4) (fun i=>rfl) ?_ ?_
      ·skip
       refine z4k mixed hN rfl rfl ?_
       refine qd rfl ?_
       refine z0a (z2m rfl rfl) ?_
       refine qd rfl ?_
       refine z09 (j:=2) rfl rfl (fun h19 => ?_) (fun h19 => ?_) rfl
       ·have h20:=un1 h19
        replace H:=ift h20 H
        refine z0p rfl rfl h19 (z0h (.dat _) rfl) ?_
        refine z0p rfl rfl h19 (z0h (.dat _) rfl) ?_
        refine z0p rfl rfl h19 (y76 rfl rfl (by omega)) ?_
        obtain ⟨x21,h22,H⟩:=bnd H
        refine z0p rfl rfl h19 (y25 x68 (fun _=>rfl) rfl rfl h22) ?_
        refine z0p rfl rfl h19 (z4a y73 rfl) ?_
        refine z0p rfl rfl h19 (z0x tyS9 rfl (z2l (z6x h22).2) rfl) ?_
        refine z0p rfl rfl h19 (z0h (.dat _) rfl) ?_
        refine z0p rfl rfl h19 (z0h (.dat _) rfl) ?_
        refine z0p rfl rfl h19 (y76 rfl rfl (by omega)) ?_
        refine z0p rfl rfl h19 (y25 x68 (fun _=>rfl) rfl rfl h22) ?_
        refine z0p rfl rfl h19 (z4a y83 rfl) ?_
        refine z0p rfl rfl h19 (z0x tyS9 rfl (z2l (z6x h22).2) rfl) ?_
        refine z0p rfl rfl h19 (z1a (u':=vlst (List.map z0n [x21.App,x21.Sum])) (z14 [[_],[_]] z86 ⟨rfl,.inl ⟨_,rfl,rfl,rfl⟩,rfl,rfl,.inl ⟨_,rfl,rfl,rfl⟩,rfl,trivial⟩ rfl rfl) rfl) ?_
        refine z0p rfl rfl h19 (z0r y73 rfl) ?_
        refine z8z rfl rfl h19 (z0o tyS9 rfl rfl) rfl ?_
        refine z0p rfl rfl h19 (z0r y83 rfl) ?_
        refine z8z rfl rfl h19 (z0o tyS9 rfl rfl) rfl ?_
        refine z0p rfl rfl h19 (z1a (u':=vlst (List.map z0n [x6.App,x6.Sum])) (z14 [[_],[_]] z86 ⟨rfl,.inl ⟨_,rfl,rfl,rfl⟩,rfl,rfl,.inl ⟨_,rfl,rfl,rfl⟩,rfl,trivial⟩ rfl rfl) rfl) ?_
        obtain ⟨r23,h24,H⟩:=bnd H
        refine z0p rfl rfl h19 (z0q (y4s [x21.App,x21.Sum] [x6.App,x6.Sum] r23 h24) ⟨.inl rfl,.inl rfl,trivial⟩) ?_
        refine z0p rfl rfl h19 (z87 rfl rfl) ?_
        refine z0a (z00 rfl (bTT h20) rfl) ?_
        refine qe rfl ?_
        refine ⟨rfl,?_⟩
        exact ⟨decide (0≤r23),H,⟨rfl,rfl,rfl,rfl,rfl,rfl,trivial⟩,⟨rfl,trivial⟩⟩
       ·have h25:=un2 h19
        replace H:=iff_ h25 H
        refine z0f rfl rfl h19 ?_
        refine z0f rfl rfl h19 ?_
        refine z0f rfl rfl h19 ?_
        refine z0f rfl rfl h19 ?_
        refine z0f rfl rfl h19 ?_
        refine z0f rfl rfl h19 ?_
        refine z0f rfl rfl h19 ?_
        refine z0f rfl rfl h19 ?_
        refine z0f rfl rfl h19 ?_
        refine z0f rfl rfl h19 ?_
        refine z0f rfl rfl h19 ?_
        refine z0f rfl rfl h19 ?_
        refine z0f rfl rfl h19 ?_
        refine z0f rfl rfl h19 ?_
        refine z0f rfl rfl h19 ?_
        refine z0f rfl rfl h19 ?_
        refine z0f rfl rfl h19 ?_
        refine z0f rfl rfl h19 ?_
        refine z0f rfl rfl h19 ?_
        refine z0f rfl rfl h19 ?_
        refine z0a (z0z rfl (bFF h25) rfl) ?_
        refine qe rfl ?_
        refine ⟨rfl,?_⟩
        exact ⟨false,H,⟨rfl,rfl,rfl,rfl,rfl,rfl,trivial⟩,⟨rfl,trivial⟩⟩
      ·rintro v26 H
       replace H:z3n x6 v26=some q4:=H
       unfold z3n at H
       refine z0g _ rfl (fun h27 => ?_) (fun h27 => ?_)
       ·replace H:=ift h27 H
        refine z0c ?_
        refine z0b hN rfl ?_
        refine qe rfl ?_
        refine z0m ?_
        replace H:=retl H hq4
        cases H
        exact ⟨trivial,.inl rfl,trivial⟩
       ·replace H:=iff_ h27 H
        refine z0l ?_
        refine z0c ?_
        refine z0c ?_
        refine z0b hN rfl ?_
        refine z0a (z0r w0u rfl) ?_
        refine z0w (z0o z85 rfl rfl) rfl ?_
        obtain ⟨r28,h29,H⟩:=bnd H
        refine z0a (z0q (y4z x6.Scopes r28 h29) ⟨.inl rfl,trivial⟩) ?_
        refine qe rfl ?_
        refine z0c ?_
        refine z0b hN rfl ?_
        refine qd rfl ?_
        refine z0a (z48 rfl rfl) ?_
        refine z0g _ rfl (fun h30 => ?_) (fun h30 => ?_)
        ·replace H:=ift h30 H
         refine z0c ?_
         refine z0b hN rfl ?_
         refine qd rfl ?_
         refine qe rfl ?_
         refine z0m ?_
         replace H:=retl H hq4
         cases H
         exact ⟨trivial,.inl rfl,trivial⟩
        ·replace H:=iff_ h30 H
         refine z0l ?_
         refine z0c ?_
         refine z0b hN rfl ?_
         refine z0a (z0r w0t rfl) ?_
         refine z0w (z0o tyS3 rfl rfl) rfl ?_
         refine z0a (z0r x4m rfl) ?_
         refine z0w (z0o tyS3 rfl rfl) rfl ?_
         obtain ⟨r31,h32,H⟩:=bnd H
         refine z0a (z0q (y3t x6.From 0 x6.To r31 h32) ⟨.inl rfl,.inl rfl,.inl rfl,trivial⟩) ?_
         refine z0a (z2j rfl) ?_
         refine qd rfl ?_
         refine z2b rfl rfl (fun hc=>z0r x4m rfl) ?_
         refine y1s rfl rfl (fun hc=>z0o tyS3 (cnd (c:=(!(!r31))) hc) rfl) rfl y3x ?_
         refine z2b rfl rfl (fun hc=>z2m (cnd (c:=(!(!r31))) hc) rfl) ?_
         refine z0a (z2h rfl rfl (fun hb=>(cnd (c:=(!(!r31))) (notI hb)))) ?_
         refine z0g _ rfl (fun h33 => ?_) (fun h33 => ?_)
         ·replace H:=ift h33 H
          refine z0c ?_
          refine z0b hN rfl ?_
          refine qe rfl ?_
          refine z0m ?_
          replace H:=retl H hq4
          cases H
          exact ⟨trivial,.inl rfl,trivial⟩
         ·replace H:=iff_ h33 H
          refine z0l ?_
          refine z0b hN rfl ?_
          refine z0a (z3r rfl rfl (by omega)) ?_
          refine qd rfl ?_
          exact ⟨_,z84 H,⟨rfl,rfl,rfl,rfl,trivial⟩,trivial⟩
theorem y70 (k1:z1t) (r:(Int)) (H:z82 k1=some r):Fn Tryz.prog 8 [vagg (y1p k1)] (z1r [vint r]):=by
 refine ⟨by kernel_rfl,z1e (us:=[vint r]) Tryz.func8 rfl rfl rfl rfl fun X hN => ?_⟩
 unfold z82 at H
 refine z0c ?_
 refine z0b hN rfl ?_
 refine z0j (z9k 1 rfl) rfl ?_
 refine qe rfl ?_
 refine z0c ?_
 refine z03 (ι:=Bool) (fun i=>[(1,.ptr 1 0),(14,.dat (z05 i))]) (fun i=>[(1,.box none 30 [.dat (vstr k1.Issuer),.dat (vstr k1.Audience),.dat (vlst (List.map z06 k1.Signers)),.dat (vlst (List.map z1l k1.Revoked)),.dat (vlst (List.map z1w k1.Holders)),.dat (vint k1.Skew)])]) (fun i=>z5g k1 i=some r) (fun i=>rfl) ?_ ?_
 ·skip
  refine z0b hN rfl ?_
  refine z0a (z0r x1w rfl) ?_
  refine z0w (z0o tyS9 rfl rfl) rfl ?_
  obtain ⟨r2,h3,H⟩:=bnd H
  refine z0a (z0q (z6q k1.Issuer r2 h3) ⟨.inl rfl,trivial⟩) ?_
  refine z0a (z2j rfl) ?_
  refine qd rfl ?_
  refine z09 (j:=4) rfl rfl (fun h4 => ?_) (fun h4 => ?_) rfl
  ·have h5:=un3 h4
   replace H:=iff_ h5 H
   refine z0p rfl rfl h4 (z0r x1v rfl) ?_
   refine z8z rfl rfl h4 (z0o tyS9 rfl rfl) rfl ?_
   obtain ⟨r6,h7,H⟩:=bnd H
   refine z0p rfl rfl h4 (z0q (z6q k1.Audience r6 h7) ⟨.inl rfl,trivial⟩) ?_
   refine z0p rfl rfl h4 (z2j rfl) ?_
   refine z0a (z0z rfl (bFF h5) rfl) ?_
   exact ⟨!r6,H,⟨rfl,rfl,trivial⟩,⟨rfl,trivial⟩⟩
  ·have h8:=un4 h4
   replace H:=ift h8 H
   refine z0f rfl rfl h4 ?_
   refine z0f rfl rfl h4 ?_
   refine z0f rfl rfl h4 ?_
   refine z0f rfl rfl h4 ?_
   refine z0a (z00 rfl (bTT h8) rfl) ?_
   exact ⟨true,H,⟨rfl,rfl,trivial⟩,⟨rfl,trivial⟩⟩
 ·rintro v9 H
  replace H:z5g k1 v9=some r:=H
  unfold z5g at H
  refine z0g _ rfl (fun h10 => ?_) (fun h10 => ?_)
  ·replace H:=ift h10 H
   refine z0c ?_
   refine z0b hN rfl ?_
   refine qe rfl ?_
   refine z0m ?_
   cases H
   exact ⟨trivial,.inl rfl,trivial⟩
  ·replace H:=iff_ h10 H
   refine z0l ?_
   refine z0c ?_
   refine z0c ?_
   refine z4k mixed hN rfl rfl ?_
   refine z0a (z0r x1u rfl) ?_
   refine z0w (z0o x67 rfl rfl) rfl ?_
   obtain ⟨r11,h12,H⟩:=bnd H
   refine z0a (z0q (y7r k1.Signers r11 h12) ⟨.inl rfl,trivial⟩) ?_
   refine z0a (z0r x4q rfl) ?_
   refine z0w (z0o w36 rfl rfl) rfl ?_
   obtain ⟨r13,h14,H⟩:=bnd H
   refine z0a (z0q (y7s k1.Revoked r13 h14) ⟨.inl rfl,trivial⟩) ?_
   refine z0a (z0r x4p rfl) ?_
   refine z0w (z0o w35 rfl rfl) rfl ?_
   obtain ⟨r15,h16,H⟩:=bnd H
   refine z0a (z0q (y4u k1.Holders r15 h16) ⟨.inl rfl,trivial⟩) ?_
   refine z0a (z1a (u':=vlst (List.map x3g [r11,r13,r15])) (z14 [[_],[_],[_]] v0d ⟨rfl,.inl ⟨_,rfl,rfl,rfl⟩,rfl,rfl,.inl ⟨_,rfl,rfl,rfl⟩,rfl,rfl,.inl ⟨_,rfl,rfl,rfl⟩,rfl,trivial⟩ rfl rfl) rfl) ?_
   refine z0a (z6r w98 rfl) ?_
   refine qd rfl ?_
   refine ⟨rfl,?_⟩
   refine z0v ?_
   obtain ⟨h19,H⟩:=gif H
   refine z3u (fun (k17:Nat) (s:Unit)=>[(1,.ptr 1 0),(24,.dat (vlst (List.map x3g [r11,r13,r15]))),(25,.dat (vint ([r11,r13,r15].length:Int))),(26,.dat (vint (k17:Int)))]) (fun (k17:Nat) (s:Unit)=>[(1,.box none 30 [.dat (vstr k1.Issuer),.dat (vstr k1.Audience),.dat (vlst (List.map z06 k1.Signers)),.dat (vlst (List.map z1l k1.Revoked)),.dat (vlst (List.map z1w k1.Holders)),.dat (vint k1.Skew)])]) () H ⟨rfl,rfl,rfl,rfl,trivial⟩ ⟨rfl,trivial⟩ (fun _ _=>rfl) ?_ ?_
   ·rintro ⟨⟩ H
    replace H:y0j k1=some r:=H
    unfold y0j at H
    refine z0c ?_
    refine z0b hN rfl ?_
    refine z0a (z04 rfl rfl) ?_
    refine z0c ?_
    refine z0g _ rfl (fun h=>(lt_t h).elim) (fun h => ?_)
    refine z1u ?_
    refine z0c ?_
    refine z0c ?_
    refine z0b hN rfl ?_
    refine z0a (z0r y85 rfl) ?_
    refine z0w (z0o tyS3 rfl rfl) rfl ?_
    obtain ⟨r21,h22,H⟩:=bnd H
    refine z0a (z0q (y3t k1.Skew 0 600000 r21 h22) ⟨.inl rfl,.inl rfl,.inl rfl,trivial⟩) ?_
    refine z0a (z2j rfl) ?_
    refine z0g _ rfl (fun h23 => ?_) (fun h23 => ?_)
    ·replace H:=ift h23 H
     refine z0c ?_
     refine z0b hN rfl ?_
     refine qe rfl ?_
     refine z0m ?_
     cases H
     exact ⟨trivial,.inl rfl,trivial⟩
    ·replace H:=iff_ h23 H
     refine z0l ?_
     refine z0c ?_
     refine z0b hN rfl ?_
     refine qe rfl ?_
     refine z0m ?_
     cases H
     exact ⟨trivial,.inl rfl,trivial⟩
   ·rintro k17 x20 ⟨⟩ q18 h24 h25 H hq18
    replace H:z8f k17 x20=some q18:=H
    unfold z8f at H
    refine z0c ?_
    refine z0b hN rfl ?_
    refine z0a (z04 rfl rfl) ?_
    refine z0c ?_
    refine z0g _ rfl (fun h => ?_) (fun h=>(lt_f h24 h).elim)
    refine z0l ?_
    refine z0c ?_
    refine z0v ?_
    refine z0c ?_
    refine z0b hN rfl ?_
    refine z0a (y0r v0f (fun _=>rfl) rfl rfl h25) ?_
    refine z0a (z0x w99 rfl (z2l h25) rfl) ?_
    refine qe rfl ?_
    refine z0c ?_
    refine z0b hN rfl ?_
    refine qd rfl ?_
    refine z0a (z48 rfl rfl) ?_
    refine z0g _ rfl (fun h26 => ?_) (fun h26 => ?_)
    ·replace H:=ift h26 H
     refine z0c ?_
     refine z0b hN rfl ?_
     refine qd rfl ?_
     refine qe rfl ?_
     refine z0m ?_
     replace H:=retl H hq18
     cases H
     exact ⟨trivial,.inl rfl,trivial⟩
    ·replace H:=iff_ h26 H
     refine z0l ?_
     refine z0b hN rfl ?_
     refine z0a (z3r rfl rfl (by omega)) ?_
     refine qd rfl ?_
     exact ⟨_,z84 H,⟨rfl,rfl,rfl,rfl,trivial⟩,⟨rfl,trivial⟩⟩
theorem z98 (s1:Bs) (r:(Bool)) (H:z6p s1=some r):Fn Tryz.prog 48 [vstr s1] (z1r [z05 r]):=by
 refine ⟨by kernel_rfl,z1e (us:=[z05 r]) Tryz.func48 rfl rfl rfl rfl fun X hN => ?_⟩
 unfold z6p at H
 refine z0c ?_
 refine z0b hN rfl ?_
 refine qe rfl ?_
 refine z0c ?_
 refine z0c ?_
 refine z0b hN rfl ?_
 refine qe rfl ?_
 refine z0v ?_
 obtain ⟨h4,H⟩:=gif H
 refine z3u (fun (i2:Nat) (s:Unit)=>[(0,.dat (vstr s1)),(3,.dat (vint (i2:Int)))]) (fun (i2:Nat) (s:Unit)=>[]) () H ⟨rfl,rfl,trivial⟩ trivial (fun _ _=>rfl) ?_ ?_
 ·rintro ⟨⟩ H
  replace H:y78 s1=some r:=H
  unfold y78 at H
  refine z0c ?_
  refine z0c ?_
  refine z0b hN rfl ?_
  refine qd rfl ?_
  refine qd rfl ?_
  refine z0a (z1m tyU9 rfl) ?_
  refine z0a (z04 rfl rfl) ?_
  refine z0g _ rfl (fun h=>(lt_t h).elim) (fun h => ?_)
  refine z1u ?_
  refine z0c ?_
  refine z0b hN rfl ?_
  refine qd rfl ?_
  refine z0a (z9j rfl rfl) ?_
  refine qd rfl ?_
  refine z57 rfl rfl (fun hc=>z0h (.dat _) rfl) ?_
  refine z57 rfl rfl (fun hc=>z1m tyU9 (cnd (c:=(decide (s1≠[]))) hc)) ?_
  refine z57 rfl rfl (fun hc=>y0f (cnd (c:=(decide (s1≠[]))) hc) rfl) ?_
  refine z0a (z2c rfl (fun hb=>(cnd (c:=(decide (s1≠[]))) hb)) rfl) ?_
  refine qe rfl ?_
  refine z0m ?_
  cases H
  exact ⟨trivial,.inl rfl,trivial⟩
 ·rintro i2 x5 ⟨⟩ q3 h6 h7 H hq3
  replace H:y6o i2 x5=some q3:=H
  unfold y6o at H
  refine z0c ?_
  refine z0c ?_
  refine z0b hN rfl ?_
  refine qd rfl ?_
  refine qd rfl ?_
  refine z0a (z1m tyU9 rfl) ?_
  refine z0a (z04 rfl rfl) ?_
  refine z0g _ rfl (fun h => ?_) (fun h=>(lt_f h6 h).elim)
  refine z0l ?_
  refine z0c ?_
  refine z0v ?_
  refine z0c ?_
  refine z0b hN rfl ?_
  refine qd rfl ?_
  refine qd rfl ?_
  refine z0a (y00 tyU9 rfl rfl h7) ?_
  refine qe rfl ?_
  refine z0c ?_
  refine z0b hN rfl ?_
  refine qd rfl ?_
  refine z0a (z87 rfl rfl) ?_
  refine qd rfl ?_
  refine z57 rfl rfl (fun hc=>z0h (.dat _) rfl) ?_
  refine z57 rfl rfl (fun hc=>y0f (cnd (c:=(decide (97≤(x5.toNat:Int)))) hc) rfl) ?_
  refine z0a (z2c rfl (fun hb=>(cnd (c:=(decide (97≤(x5.toNat:Int)))) hb)) rfl) ?_
  refine qd rfl ?_
  refine z2b rfl rfl (fun hc=>z0h (.dat _) rfl) ?_
  refine z2b rfl rfl (fun hc=>z2m (cnd (c:=(!((decide (97≤(x5.toNat:Int))) && (decide ((x5.toNat:Int)≤122))))) hc) rfl) ?_
  refine z2b rfl rfl (fun hc=>z0h (.dat _) (cnd (c:=(!((decide (97≤(x5.toNat:Int))) && (decide ((x5.toNat:Int)≤122))))) hc)) ?_
  refine y0n rfl rfl (fun hc=>z0h (.dat _) rfl) ?_
  refine y0n rfl rfl (fun hc=>z87 (cnd (c:=((!((decide (97≤(x5.toNat:Int))) && (decide ((x5.toNat:Int)≤122)))) && (decide (0 < (i2:Int))))) hc) rfl) ?_
  refine y0n rfl rfl (fun hc=>z0h (.dat _) (cnd (c:=((!((decide (97≤(x5.toNat:Int))) && (decide ((x5.toNat:Int)≤122)))) && (decide (0 < (i2:Int))))) hc)) ?_
  refine y0n rfl rfl (fun hc=>z0h (.dat _) rfl) ?_
  refine y0n rfl rfl (fun hc=>y0f (cnd (c:=(((!((decide (97≤(x5.toNat:Int))) && (decide ((x5.toNat:Int)≤122)))) && (decide (0 < (i2:Int)))) && (decide (48≤(x5.toNat:Int))))) hc) rfl) ?_
  refine y0n rfl rfl (fun hc=>z2c (cnd (c:=((!((decide (97≤(x5.toNat:Int))) && (decide ((x5.toNat:Int)≤122)))) && (decide (0 < (i2:Int))))) hc) (fun hb=>(cnd (c:=(((!((decide (97≤(x5.toNat:Int))) && (decide ((x5.toNat:Int)≤122)))) && (decide (0 < (i2:Int)))) && (decide (48≤(x5.toNat:Int))))) (andI hc hb))) rfl) ?_
  refine y0n rfl rfl (fun hc=>z0h (.dat _) (cnd (c:=((!((decide (97≤(x5.toNat:Int))) && (decide ((x5.toNat:Int)≤122)))) && (decide (0 < (i2:Int))))) hc)) ?_
  refine y9w rfl rfl (fun hc=>z0h (.dat _) rfl) ?_
  refine y9w rfl rfl (fun hc=>z2z (cnd (c:=(((!((decide (97≤(x5.toNat:Int))) && (decide ((x5.toNat:Int)≤122)))) && (decide (0 < (i2:Int)))) && !((decide (48≤(x5.toNat:Int))) && (decide ((x5.toNat:Int)≤57))))) hc) rfl) ?_
  refine y0n rfl rfl (fun hc=>z2h (cnd (c:=((!((decide (97≤(x5.toNat:Int))) && (decide ((x5.toNat:Int)≤122)))) && (decide (0 < (i2:Int))))) hc) rfl (fun hb=>(cnd (c:=(((!((decide (97≤(x5.toNat:Int))) && (decide ((x5.toNat:Int)≤122)))) && (decide (0 < (i2:Int)))) && !((decide (48≤(x5.toNat:Int))) && (decide ((x5.toNat:Int)≤57))))) (andI hc (notI hb))))) ?_
  refine y0n rfl rfl (fun hc=>z0h (.dat _) (cnd (c:=((!((decide (97≤(x5.toNat:Int))) && (decide ((x5.toNat:Int)≤122)))) && (decide (0 < (i2:Int))))) hc)) ?_
  refine y9w rfl rfl (fun hc=>z0h (.dat _) rfl) ?_
  refine y9w rfl rfl (fun hc=>z2z (cnd (c:=(((!((decide (97≤(x5.toNat:Int))) && (decide ((x5.toNat:Int)≤122)))) && (decide (0 < (i2:Int)))) && !(((decide (48≤(x5.toNat:Int))) && (decide ((x5.toNat:Int)≤57))) || (decide ((x5.toNat:Int)=45))))) hc) rfl) ?_
  refine y0n rfl rfl (fun hc=>z2h (cnd (c:=((!((decide (97≤(x5.toNat:Int))) && (decide ((x5.toNat:Int)≤122)))) && (decide (0 < (i2:Int))))) hc) rfl (fun hb=>(cnd (c:=(((!((decide (97≤(x5.toNat:Int))) && (decide ((x5.toNat:Int)≤122)))) && (decide (0 < (i2:Int)))) && !(((decide (48≤(x5.toNat:Int))) && (decide ((x5.toNat:Int)≤57))) || (decide ((x5.toNat:Int)=45))))) (andI hc (notI hb))))) ?_
  refine z2b rfl rfl (fun hc=>z2c (cnd (c:=(!((decide (97≤(x5.toNat:Int))) && (decide ((x5.toNat:Int)≤122))))) hc) (fun hb=>(cnd (c:=((!((decide (97≤(x5.toNat:Int))) && (decide ((x5.toNat:Int)≤122)))) && (decide (0 < (i2:Int))))) (andI hc hb))) rfl) ?_
  refine z0a (z2h rfl rfl (fun hb=>(cnd (c:=(!((decide (97≤(x5.toNat:Int))) && (decide ((x5.toNat:Int)≤122))))) (notI hb)))) ?_
  refine z0a (z2j rfl) ?_
  refine z0g _ rfl (fun h8 => ?_) (fun h8 => ?_)
  ·replace H:=ift h8 H
   refine z0c ?_
   refine z0b hN rfl ?_
   refine qe rfl ?_
   refine z0m ?_
   replace H:=retl H hq3
   cases H
   exact ⟨trivial,.inl rfl,trivial⟩
  ·replace H:=iff_ h8 H
   refine z0l ?_
   refine z0b hN rfl ?_
   refine qd rfl ?_
   refine z0a (z3r rfl rfl (by omega)) ?_
   refine qe rfl ?_
   exact ⟨_,z84 H,⟨rfl,rfl,trivial⟩,trivial⟩
theorem x0k (s p:Bs) (r:Bs) (H:y3p s p=some r):Fn Tryz.prog 152 [vstr s,vstr p] (z1r [vstr r]):=by
 unfold y3p at H
 obtain ⟨⟨⟨h1,h2⟩,h3⟩,h4⟩:=gif H
 cases h4
 refine y2m (by kernel_rfl) fun M w vs hM h => ?_
 have hv:=y49 (us:=[.string ⟨s.toArray⟩,.string ⟨p.toArray⟩]) h
 subst hv
 refine (Any.strings_Trim_laid Tryz.lays160 (by kernel_rfl) ⟨s.toArray⟩ ⟨p.toArray⟩ w (by simp [ByteArray.size]; omega) (by simp [ByteArray.size]; omega) (fun j b hb=>w8a h3 j b (by simpa using hb))).mono ?_
 rintro e w' ⟨rfl,hb⟩
 exact ⟨_,rfl,rfl,Kp.of_below hb⟩

theorem x5d (s1:Bs) (r:(Bool)) (H:y4n s1=some r):Fn Tryz.prog 105 [vstr s1] (z1r [z05 r]):=by
 refine ⟨by kernel_rfl,z1e (us:=[z05 r]) Tryz.func105 rfl rfl rfl rfl fun X hN => ?_⟩
 unfold y4n at H
 refine z0c ?_
 refine z0b hN rfl ?_
 refine qe rfl ?_
 refine z03 (ι:=Bool) (fun i=>[(2,.dat (z05 i))]) (fun i=>[]) (fun i=>y21 i=some r) (fun i=>rfl) ?_ ?_
 ·skip
  refine z0b hN rfl ?_
  refine qd rfl ?_
  refine z0a (z1m tyU9 rfl) ?_
  refine z0a (z2z rfl rfl) ?_
  refine qd rfl ?_
  refine z09 (j:=3) rfl rfl (fun h2 => ?_) (fun h2 => ?_) rfl
  ·have h3:=un1 h2
   replace H:=ift h3 H
   refine z0p rfl rfl h2 (z0h (.dat _) rfl) ?_
   obtain ⟨r4,h5,H⟩:=bnd H
   refine z0p rfl rfl h2 (z0q (x0k s1 [48,49,50,51,52,53,54,55,56,57,97,98,99,100,101,102] r4 h5) ⟨.inl rfl,.inl rfl,trivial⟩) ?_
   refine z0p rfl rfl h2 (z6c rfl rfl) ?_
   refine z0a (z00 rfl (bTT h3) rfl) ?_
   refine qe rfl ?_
   exact ⟨decide (r4=[]),H,⟨rfl,trivial⟩,trivial⟩
  ·have h6:=un2 h2
   replace H:=iff_ h6 H
   refine z0f rfl rfl h2 ?_
   refine z0f rfl rfl h2 ?_
   refine z0f rfl rfl h2 ?_
   refine z0a (z0z rfl (bFF h6) rfl) ?_
   refine qe rfl ?_
   exact ⟨false,H,⟨rfl,trivial⟩,trivial⟩
 ·rintro v7 H
  replace H:y21 v7=some r:=H
  unfold y21 at H
  refine z0m ?_
  cases H
  exact ⟨trivial,.inl rfl,trivial⟩
theorem x2s (s1:Bs) (r:(Bool)) (H:y3j s1=some r):Fn Tryz.prog 161 [vstr s1] (z1r [z05 r]):=by
 refine ⟨by kernel_rfl,z1e (us:=[z05 r]) Tryz.func161 rfl rfl rfl rfl fun X hN => ?_⟩
 unfold y3j at H
 refine z0c ?_
 refine z0b hN rfl ?_
 refine qe rfl ?_
 refine z0c ?_
 refine z0b hN rfl ?_
 refine qd rfl ?_
 obtain ⟨r2,h3,H⟩:=bnd H
 refine z0a (z0q (y09 s1 [58] r2 h3) ⟨.inl rfl,.inl rfl,trivial⟩) ?_
 refine qe rfl ?_
 refine z0c ?_
 refine z0c ?_
 refine z0b hN rfl ?_
 refine qd rfl ?_
 refine z0a (z6r z9p rfl) ?_
 refine qd rfl ?_
 refine z0v ?_
 obtain ⟨h6,H⟩:=gif H
 refine z3u (fun (k4:Nat) (s:Unit)=>[(3,.dat (vlst (List.map z0n r2))),(8,.dat (vlst (List.map z0n r2))),(9,.dat (vint (r2.length:Int))),(10,.dat (vint (k4:Int)))]) (fun (k4:Nat) (s:Unit)=>[]) () H ⟨rfl,rfl,rfl,rfl,trivial⟩ trivial (fun _ _=>rfl) ?_ ?_
 ·rintro ⟨⟩ H
  replace H:y5q r2=some r:=H
  unfold y5q at H
  refine z0c ?_
  refine z0b hN rfl ?_
  refine z0a (z04 rfl rfl) ?_
  refine z0c ?_
  refine z0g _ rfl (fun h=>(lt_t h).elim) (fun h => ?_)
  refine z1u ?_
  refine z0c ?_
  refine z0b hN rfl ?_
  refine qd rfl ?_
  refine z0a (z6r z9p rfl) ?_
  refine z0a (y0f rfl rfl) ?_
  refine qe rfl ?_
  refine z0m ?_
  cases H
  exact ⟨trivial,.inl rfl,trivial⟩
 ·rintro k4 x7 ⟨⟩ q5 h8 h9 H hq5
  replace H:y37 r2 k4 x7=some q5:=H
  unfold y37 at H
  refine z0c ?_
  refine z0b hN rfl ?_
  refine z0a (z04 rfl rfl) ?_
  refine z0c ?_
  refine z0g _ rfl (fun h => ?_) (fun h=>(lt_f h8 h).elim)
  refine z0l ?_
  refine z0c ?_
  refine z0v ?_
  refine z0c ?_
  refine z0b hN rfl ?_
  refine qd rfl ?_
  refine z0a (y0r z9i (fun _=>rfl) rfl rfl h9) ?_
  refine z0a (z0x tyS9 rfl (z2l h9) rfl) ?_
  refine qe rfl ?_
  refine qe rfl ?_
  refine z0c ?_
  refine z0b hN rfl ?_
  refine qd rfl ?_
  obtain ⟨r10,h11,H⟩:=bnd H
  refine z0a (z0q (z98 x7 r10 h11) ⟨.inl rfl,trivial⟩) ?_
  refine z0a (z2j rfl) ?_
  refine qd rfl ?_
  refine z57 rfl rfl (fun hc=>z0h (.dat _) rfl) ?_
  refine z57 rfl rfl (fun hc=>z6c (cnd (c:=(!r10)) hc) rfl) ?_
  refine z57 rfl rfl (fun hc=>z0h (.dat _) (cnd (c:=(!r10)) hc)) ?_
  refine y0n rfl rfl (fun hc=>z0h (.dat _) rfl) ?_
  refine y0n rfl rfl (fun hc=>z0h (.dat _) rfl) ?_
  refine y0n rfl rfl (fun hc=>z6r z9p (cnd (c:=((!r10) && (decide (x7=[42])))) hc)) ?_
  refine y0n rfl rfl (fun hc=>z1c _ (cnd (c:=((!r10) && (decide (x7=[42])))) hc) rfl (.inr (.inl ⟨rfl,rfl⟩))) ?_
  refine y0n rfl rfl (fun hc=>z2z (cnd (c:=((!r10) && (decide (x7=[42])))) hc) (cnd (c:=((!r10) && (decide (x7=[42])))) hc)) ?_
  refine z57 rfl rfl (fun hc=>z2c (cnd (c:=(!r10)) hc) (fun hb=>(cnd (c:=((!r10) && (decide (x7=[42])))) (andI hc hb))) rfl) ?_
  refine z57 rfl rfl (fun hc=>z2j (cnd (c:=(!r10)) hc)) ?_
  refine z0a (z2c rfl (fun hb=>(cnd (c:=(!r10)) hb)) rfl) ?_
  refine z0g _ rfl (fun h12 => ?_) (fun h12 => ?_)
  ·replace H:=ift h12 H
   refine z0c ?_
   refine z0b hN rfl ?_
   refine qe rfl ?_
   refine z0m ?_
   replace H:=retl H hq5
   cases H
   exact ⟨trivial,.inl rfl,trivial⟩
  ·replace H:=iff_ h12 H
   refine z0l ?_
   refine z0b hN rfl ?_
   refine z0a (z3r rfl rfl (by omega)) ?_
   refine qd rfl ?_
   exact ⟨_,z84 H,⟨rfl,rfl,rfl,rfl,trivial⟩,trivial⟩
theorem y6b (l1:(List Bs)) (r:(Int)) (H:z88 l1=some r):Fn Tryz.prog 106 [vlst (List.map z0n l1)] (z1r [vint r]):=by
 refine ⟨by kernel_rfl,z1e (us:=[vint r]) Tryz.func106 rfl rfl rfl rfl fun X hN => ?_⟩
 unfold z88 at H
 refine z0c ?_
 refine z0b hN rfl ?_
 refine qe rfl ?_
 refine z0c ?_
 refine z0c ?_
 refine z0b hN rfl ?_
 refine qd rfl ?_
 refine z0a (z6r z9p rfl) ?_
 refine z0a (z2m rfl rfl) ?_
 refine z0g _ rfl (fun h2 => ?_) (fun h2 => ?_)
 ·replace H:=ift h2 H
  refine z0c ?_
  refine z0b hN rfl ?_
  refine qe rfl ?_
  refine z0m ?_
  cases H
  exact ⟨trivial,.inl rfl,trivial⟩
 ·replace H:=iff_ h2 H
  refine z0l ?_
  refine z0c ?_
  refine z0c ?_
  refine z0b hN rfl ?_
  refine qd rfl ?_
  refine z0a (z6r z9p rfl) ?_
  refine qd rfl ?_
  refine z0v ?_
  obtain ⟨h5,H⟩:=gif H
  refine z3u (fun (k3:Nat) (s:Unit)=>[(8,.dat (vlst (List.map z0n l1))),(9,.dat (vint (l1.length:Int))),(10,.dat (vint (k3:Int)))]) (fun (k3:Nat) (s:Unit)=>[]) () H ⟨rfl,rfl,rfl,trivial⟩ trivial (fun _ _=>rfl) ?_ ?_
  ·rintro ⟨⟩ H
   replace H:y3y=some r:=H
   unfold y3y at H
   refine z0c ?_
   refine z0b hN rfl ?_
   refine z0a (z04 rfl rfl) ?_
   refine z0c ?_
   refine z0g _ rfl (fun h=>(lt_t h).elim) (fun h => ?_)
   refine z1u ?_
   refine z0c ?_
   refine z0b hN rfl ?_
   refine qe rfl ?_
   refine z0m ?_
   cases H
   exact ⟨trivial,.inl rfl,trivial⟩
  ·rintro k3 x6 ⟨⟩ q4 h7 h8 H hq4
   replace H:y11 k3 x6=some q4:=H
   unfold y11 at H
   refine z0c ?_
   refine z0b hN rfl ?_
   refine z0a (z04 rfl rfl) ?_
   refine z0c ?_
   refine z0g _ rfl (fun h => ?_) (fun h=>(lt_f h7 h).elim)
   refine z0l ?_
   refine z0c ?_
   refine z0v ?_
   refine z0c ?_
   refine z0b hN rfl ?_
   refine z0a (y0r z9i (fun _=>rfl) rfl rfl h8) ?_
   refine z0a (z0x tyS9 rfl (z2l h8) rfl) ?_
   refine qe rfl ?_
   refine z0c ?_
   refine z0b hN rfl ?_
   refine qd rfl ?_
   obtain ⟨r9,h10,H⟩:=bnd H
   refine z0a (z0q (x2s x6 r9 h10) ⟨.inl rfl,trivial⟩) ?_
   refine z0a (z2j rfl) ?_
   refine z0g _ rfl (fun h11 => ?_) (fun h11 => ?_)
   ·replace H:=ift h11 H
    refine z0c ?_
    refine z0b hN rfl ?_
    refine qe rfl ?_
    refine z0m ?_
    replace H:=retl H hq4
    cases H
    exact ⟨trivial,.inl rfl,trivial⟩
   ·replace H:=iff_ h11 H
    refine z0l ?_
    refine z0b hN rfl ?_
    refine z0a (z3r rfl rfl (by omega)) ?_
    refine qd rfl ?_
    exact ⟨_,z84 H,⟨rfl,rfl,rfl,trivial⟩,trivial⟩
theorem y50 (n1:Int) (low2:Int) (high3:Int) (r:(Bool)) (H:y2p n1 low2 high3=some r):Fn Tryz.prog 50 [vint n1,vint low2,vint high3] (z1r [z05 r]):=by
 refine ⟨by kernel_rfl,z1e (us:=[z05 r]) Tryz.func50 rfl rfl rfl rfl fun X hN => ?_⟩
 unfold y2p at H
 refine z0c ?_
 refine z0b hN rfl ?_
 refine qe rfl ?_
 refine z0c ?_
 refine z0b hN rfl ?_
 refine qd rfl ?_
 refine qd rfl ?_
 refine z0a (z04 rfl rfl) ?_
 refine qd rfl ?_
 refine z2b rfl rfl (fun hc=>z0h (.dat _) rfl) ?_
 refine z2b rfl rfl (fun hc=>z0h (.dat _) rfl) ?_
 refine z2b rfl rfl (fun hc=>z2m (cnd (c:=(!(decide (n1 < low2)))) hc) (cnd (c:=(!(decide (n1 < low2)))) hc)) ?_
 refine z0a (z2h rfl rfl (fun hb=>(cnd (c:=(!(decide (n1 < low2)))) (notI hb)))) ?_
 refine qe rfl ?_
 refine z0m ?_
 cases H
 exact ⟨trivial,.inl rfl,trivial⟩
end Go.Proofs.YtndabcepiekebaaGreatDoor
