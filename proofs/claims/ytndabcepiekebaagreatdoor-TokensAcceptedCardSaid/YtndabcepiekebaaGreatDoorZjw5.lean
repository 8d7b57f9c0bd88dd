/- Walks along the models. Printed by a program. -/
import Derived.Test.YtndabcepiekebaaGreatDoorZjw4
namespace Go.Proofs.YtndabcepiekebaaGreatDoor
open Go.RowKit
set_option linter.unusedVariables false
set_option maxRecDepth 100000
set_option maxHeartbeats 2000000
theorem y36 (s1:z0d) (t2:Bs) (v3:Bs) (r:(Bs×z0d)) (H:z50 s1 t2 v3=some r):Imp Tryz.prog 56 25 (z0t s1) [vstr t2,vstr v3] (z1r [vstr r.1]) (z0t r.2):=by
 refine y3m (us:=[vstr r.1]) (cs':=(z0t r.2)) (by kernel_rfl) Tryz.func56 rfl rfl rfl rfl fun X bl hN => ?_
 unfold z50 at H
 refine z0c ?_
 refine z0b hN rfl ?_
 refine qe rfl ?_
 refine z0c ?_
 refine z0c ?_
 refine z0b hN rfl ?_
 refine qd rfl ?_
 refine z0a (z6c rfl rfl) ?_
 refine qd rfl ?_
 refine z2b rfl rfl (fun hc=>z0h (.dat _) rfl) ?_
 refine z2b rfl rfl (fun hc=>z6c (cnd (c:=(!(decide (t2=[])))) hc) rfl) ?_
 refine z0a (z2h rfl rfl (fun hb=>(cnd (c:=(!(decide (t2=[])))) (notI hb)))) ?_
 refine z0g _ rfl (fun h4 => ?_) (fun h4 => ?_)
 ·replace H:=ift h4 H
  refine z0c ?_
  refine z0b hN rfl ?_
  refine qd rfl ?_
  refine qe rfl ?_
  refine z0m ?_
  cases H
  exact ⟨trivial,⟨.inl rfl,trivial⟩,rfl⟩
 ·replace H:=iff_ h4 H
  refine z0l ?_
  refine z0c ?_
  refine z0b hN rfl ?_
  refine z0a (z0h (.ptr _ _) rfl) ?_
  refine qd rfl ?_
  refine z0a (z1m tyU9 rfl) ?_
  obtain ⟨r5,h6,H⟩:=bnd H
  refine z0j (z1f (z2x s1 (t2.length:Int) r5 h6) rfl ⟨.inl rfl,trivial⟩ rfl) rfl ?_
  refine qe rfl ?_
  refine z0c ?_
  refine z0b hN rfl ?_
  refine qd rfl ?_
  refine z0a (z0h (.ptr _ _) rfl) ?_
  refine qd rfl ?_
  refine z0a (z1m tyU9 rfl) ?_
  obtain ⟨r7,h8,H⟩:=bnd H
  refine z0j (z1f (z2x r5.2 (v3.length:Int) r7 h8) rfl ⟨.inl rfl,trivial⟩ rfl) rfl ?_
  obtain ⟨x9,h10,H⟩:=bnd H
  refine z0a (y7k tyU9 rfl rfl h10) ?_
  refine qe rfl ?_
  refine z0c ?_
  refine z0c ?_
  refine z0b hN rfl ?_
  refine z0a (z0h (.ptr _ _) rfl) ?_
  obtain ⟨r11,h12,H⟩:=bnd H
  refine z0j (z1f (z2x r7.2 3 r11 h12) rfl ⟨.inl rfl,trivial⟩ rfl) rfl ?_
  refine z0v ?_
  refine z0c ?_
  refine z0b hN rfl ?_
  refine z0a (z2z rfl rfl) ?_
  refine qe rfl ?_
  refine z0g _ rfl (fun h13 => ?_) (fun h13 => ?_)
  ·replace H:=ift h13 H
   refine z0c ?_
   refine z4k mixed hN rfl rfl ?_
   refine qd rfl ?_
   refine qd rfl ?_
   obtain ⟨l14,h15,H⟩:=bnd H
   refine z0a (y14 tyU9 rfl rfl rfl h15) ?_
   refine qd rfl ?_
   refine z0a (z7f tyU5 w33 rfl) ?_
   refine z0a (x52 w33 rfl tyU9 rfl) ?_
   obtain ⟨h16,H⟩:=gif H
   refine z0a (z26 rfl rfl (Nat.le_trans h16 (by decide))) ?_
   refine qd rfl ?_
   refine qd rfl ?_
   refine z0a (z1c _ rfl rfl (.inl ⟨rfl,rfl⟩)) ?_
   obtain ⟨l17,h18,H⟩:=bnd H
   refine z0a (y14 tyU9 rfl rfl rfl h18) ?_
   obtain ⟨h19,H⟩:=gif H
   refine z0a (z26 rfl rfl (Nat.le_trans h19 (by decide))) ?_
   refine qe rfl ?_
   refine ⟨rfl,?_⟩
   refine z0m ?_
   cases H
   exact ⟨trivial,⟨.inl rfl,trivial⟩,rfl⟩
  ·replace H:=iff_ h13 H
   refine z0c ?_
   refine z0b hN rfl ?_
   refine z0a (z2z rfl rfl) ?_
   refine qe rfl ?_
   refine z0g _ rfl (fun h20 => ?_) (fun h20 => ?_)
   ·replace H:=ift h20 H
    refine z0c ?_
    refine z4k mixed hN rfl rfl ?_
    refine qd rfl ?_
    refine qd rfl ?_
    obtain ⟨l21,h22,H⟩:=bnd H
    refine z0a (y14 tyU9 rfl rfl rfl h22) ?_
    refine qd rfl ?_
    refine z0a (z7f tyU5 w33 rfl) ?_
    refine z0a (x52 w33 rfl tyU9 rfl) ?_
    obtain ⟨h23,H⟩:=gif H
    refine z0a (z26 rfl rfl (Nat.le_trans h23 (by decide))) ?_
    refine qd rfl ?_
    refine qd rfl ?_
    obtain ⟨l24,h25,H⟩:=bnd H
    refine z0a (y14 tyU9 rfl rfl rfl h25) ?_
    obtain ⟨h26,H⟩:=gif H
    refine z0a (z26 rfl rfl (Nat.le_trans h26 (by decide))) ?_
    refine qe rfl ?_
    refine ⟨rfl,?_⟩
    refine z0m ?_
    cases H
    exact ⟨trivial,⟨.inl rfl,trivial⟩,rfl⟩
   ·replace H:=iff_ h20 H
    refine z0l ?_
    refine z0c ?_
    refine z4k mixed hN rfl rfl ?_
    refine qd rfl ?_
    refine qd rfl ?_
    obtain ⟨l27,h28,H⟩:=bnd H
    refine z0a (y14 tyU9 rfl rfl rfl h28) ?_
    refine qd rfl ?_
    refine qd rfl ?_
    refine z0a (z1c _ rfl rfl (.inl ⟨rfl,rfl⟩)) ?_
    obtain ⟨l29,h30,H⟩:=bnd H
    refine z0a (y14 tyU9 rfl rfl rfl h30) ?_
    obtain ⟨h31,H⟩:=gif H
    refine z0a (z26 rfl rfl (Nat.le_trans h31 (by decide))) ?_
    refine qe rfl ?_
    refine ⟨rfl,?_⟩
    refine z0m ?_
    cases H
    exact ⟨trivial,⟨.inl rfl,trivial⟩,rfl⟩
theorem y53 (s1:z0d) (r:(Bs×z0d)) (H:z6e s1=some r):Imp Tryz.prog 55 25 (z0t s1) [] (z1r [vstr r.1]) (z0t r.2):=by
 refine y3m (us:=[vstr r.1]) (cs':=(z0t r.2)) (by kernel_rfl) Tryz.func55 rfl rfl rfl rfl fun X bl hN => ?_
 unfold z6e at H
 refine z0c ?_
 refine z0b hN rfl ?_
 refine qe rfl ?_
 refine z0c ?_
 refine z0b hN rfl ?_
 refine z0a (z0h (.ptr _ _) rfl) ?_
 obtain ⟨r2,h3,H⟩:=bnd H
 refine z0j (z1f (y20 s1 r2 h3) rfl trivial rfl) rfl ?_
 obtain ⟨r4,h5,H⟩:=bnd H
 refine z0a (z0q (y24 r2.1 r4 h5) ⟨.inl rfl,trivial⟩) ?_
 refine qe rfl ?_
 refine z0c ?_
 refine z0c ?_
 refine z0b hN rfl ?_
 refine z0a (z0h (.ptr _ _) rfl) ?_
 refine z0a (z1a (u':=vlst (List.map y2j [0,0,1,2])) (z14 [[_],[_],[_],[_]] y9p ⟨rfl,.inl ⟨_,rfl,rfl,rfl⟩,rfl,rfl,.inl ⟨_,rfl,rfl,rfl⟩,rfl,rfl,.inl ⟨_,rfl,rfl,rfl⟩,rfl,rfl,.inl ⟨_,rfl,rfl,rfl⟩,rfl,trivial⟩ rfl rfl) rfl) ?_
 obtain ⟨r6,h7,H⟩:=bnd H
 refine z0j (z1f (z1y r2.2 [0,0,1,2] r6 h7) rfl ⟨.inl rfl,trivial⟩ rfl) rfl ?_
 refine qd rfl ?_
 refine z0v ?_
 obtain ⟨h13,H⟩:=gif H
 refine y65 (fun (k11:Nat) (s:Bs×(List Int)×Int)=>[(0,.ptr 0 0),(3,.dat (vstr s.1)),(9,.dat (vint r6.1)),(10,.dat (vint (k11:Int)))]) (fun (k11:Nat) (s:Bs×(List Int)×Int)=>[(0,.box (some bl) 25 [.dat (vlst (List.map y2j s.2.1)),.dat (vint s.2.2)])]) (r4,r6.2.L,r6.2.at_) H ⟨rfl,rfl,rfl,rfl,trivial⟩ ⟨rfl,trivial⟩ (fun _ _=>rfl) ?_ ?_
 ·rintro ⟨t8,c9,c10⟩ H
  replace H:z7i t8 c9 c10=some r:=H
  unfold z7i at H
  refine z0c ?_
  refine z0b hN rfl ?_
  refine z0a (z04 rfl rfl) ?_
  refine z0c ?_
  refine z0g _ rfl (fun h=>(w1y h).elim) (fun h => ?_)
  refine z1u ?_
  refine z03 (ι:=Bs×(List Int)×Int) (fun i=>[(3,.dat (vstr i.1))]) (fun i=>[(0,.box (some bl) 25 [.dat (vlst (List.map y2j i.2.1)),.dat (vint i.2.2)])]) (fun i=>z34 i.1 i.2.1 i.2.2=some r) (fun i=>rfl) ?_ ?_
  ·skip
   refine z0c ?_
   refine z0b hN rfl ?_
   refine z0a (z0h (.ptr _ _) rfl) ?_
   obtain ⟨r14,h15,H⟩:=bnd H
   refine z0j (z1f (z1z (z0d.mk c9 c10) 10 r14 h15) rfl ⟨.inl rfl,trivial⟩ rfl) rfl ?_
   refine z0g _ rfl (fun h16 => ?_) (fun h16 => ?_)
   ·replace H:=ift h16 H
    refine z0b hN rfl ?_
    refine qd rfl ?_
    refine z0a (z0h (.ptr _ _) rfl) ?_
    refine z0a (z1a (u':=vlst (List.map z0n [[105,100,32,116,49,10],[116,105,109,101],[10,105,115,115,117,101,114],[115,117,98,106,101,99,116],[109,97,121]])) (z14 [[_],[_],[_],[_],[_]] z86 ⟨rfl,.inl ⟨_,rfl,rfl,rfl⟩,rfl,rfl,.inl ⟨_,rfl,rfl,rfl⟩,rfl,rfl,.inl ⟨_,rfl,rfl,rfl⟩,rfl,rfl,.inl ⟨_,rfl,rfl,rfl⟩,rfl,rfl,.inl ⟨_,rfl,rfl,rfl⟩,rfl,trivial⟩ rfl rfl) rfl) ?_
    obtain ⟨r17,h18,H⟩:=bnd H
    refine z0j (z1f (z1d r14.2 ([[105,100,32,116,49,10],[116,105,109,101],[10,105,115,115,117,101,114],[115,117,98,106,101,99,116],[109,97,121]]) r17 h18) rfl ⟨.inl rfl,trivial⟩ rfl) rfl ?_
    refine z0a (z0h (.ptr _ _) rfl) ?_
    refine z0a (z1a (u':=vlst (List.map z0n [[],[102,111,114],[10,105,100],[109,97,121],[10]])) (z14 [[_],[_],[_],[_],[_]] z86 ⟨rfl,.inl ⟨_,rfl,rfl,rfl⟩,rfl,rfl,.inl ⟨_,rfl,rfl,rfl⟩,rfl,rfl,.inl ⟨_,rfl,rfl,rfl⟩,rfl,rfl,.inl ⟨_,rfl,rfl,rfl⟩,rfl,rfl,.inl ⟨_,rfl,rfl,rfl⟩,rfl,trivial⟩ rfl rfl) rfl) ?_
    obtain ⟨r19,h20,H⟩:=bnd H
    refine z0j (z1f (z1d r17.2 ([[],[102,111,114],[10,105,100],[109,97,121],[10]]) r19 h20) rfl ⟨.inl rfl,trivial⟩ rfl) rfl ?_
    obtain ⟨r21,h22,H⟩:=bnd H
    refine z0a (z0q (x0l t8 r17.1 r19.1 1 r21 h22) ⟨.inl rfl,.inl rfl,.inl rfl,.inl rfl,trivial⟩) ?_
    refine qe rfl ?_
    exact ⟨(r21,r19.2.L,r19.2.at_),H,⟨rfl,trivial⟩,⟨rfl,trivial⟩⟩
   ·replace H:=iff_ h16 H
    refine z0l ?_
    exact ⟨(t8,r14.2.L,r14.2.at_),H,⟨rfl,trivial⟩,⟨rfl,trivial⟩⟩
  ·rintro ⟨t23,c24,c25⟩ H
   replace H:z34 t23 c24 c25=some r:=H
   unfold z34 at H
   refine z0c ?_
   refine z0b hN rfl ?_
   refine qd rfl ?_
   refine qe rfl ?_
   refine z0m ?_
   cases H
   exact ⟨trivial,⟨.inl rfl,trivial⟩,rfl⟩
 ·rintro k11 ⟨t8,c9,c10⟩ q12 h26 H hq12
  replace H:z7h k11 t8 c9 c10=some q12:=H
  unfold z7h at H
  refine z0c ?_
  refine z0b hN rfl ?_
  refine z0a (z04 rfl rfl) ?_
  refine z0c ?_
  refine z0g _ rfl (fun h => ?_) (fun h=>(w1z h26 h).elim)
  refine z0l ?_
  refine z0c ?_
  refine z0v ?_
  refine z0b hN rfl ?_
  refine z0a (z0h (.ptr _ _) rfl) ?_
  refine qd rfl ?_
  obtain ⟨r27,h28,H⟩:=bnd H
  refine z0j (z1f (y36 (z0d.mk c9 c10) t8 [32,10,105,116,48,115,58] r27 h28) rfl ⟨.inl rfl,.inl rfl,trivial⟩ rfl) rfl ?_
  refine qe rfl ?_
  refine z0b hN rfl ?_
  refine z0a (z3r rfl rfl (by omega)) ?_
  refine qd rfl ?_
  exact ⟨_,z84 H,⟨rfl,rfl,rfl,rfl,trivial⟩,⟨rfl,trivial⟩⟩
theorem y5s (s1:z0d) (v2:(List z0i)) (v3:z0e) (v4:Int) (r:(Bs×z0d)) (H:z5p s1 v2 v3 v4=some r):Imp Tryz.prog 12 25 (z0t s1) [vlst (List.map z06 v2),vagg (z0s v3),vint v4] (z1r [vstr r.1]) (z0t r.2):=by
 refine y3m (us:=[vstr r.1]) (cs':=(z0t r.2)) (by kernel_rfl) Tryz.func12 rfl rfl rfl rfl fun X bl hN => ?_
 unfold z5p at H
 refine z0c ?_
 refine z0b hN rfl ?_
 refine z0j (z9k 1 rfl) rfl ?_
 refine qe rfl ?_
 refine z0c ?_
 refine z0b hN rfl ?_
 refine qd rfl ?_
 refine z0w (z6d z28 rfl rfl rfl) rfl ?_
 refine qd rfl ?_
 obtain ⟨r5,h6,H⟩:=bnd H
 refine z0a (z0q (y94 v2 v3 v4 r5 h6) ⟨.inl rfl,.inl rfl,.inl rfl,trivial⟩) ?_
 refine qd rfl ?_
 refine z0a (z10 rfl rfl) ?_
 refine z0a (z10 rfl rfl) ?_
 refine qe rfl ?_
 refine qe rfl ?_
 refine z03 (ι:=Bs) (fun i=>[(0,.ptr 0 0),(9,.dat (vstr i))]) (fun i=>[(0,.box (some bl) 25 [.dat (vlst (List.map y2j s1.L)),.dat (vint s1.at_)])]) (fun i=>z2w s1 i=some r) (fun i=>rfl) ?_ ?_
 ·skip
  refine z0c ?_
  refine z0b hN rfl ?_
  refine qd rfl ?_
  refine z0a (z48 rfl rfl) ?_
  refine z0g _ rfl (fun h7 => ?_) (fun h7 => ?_)
  ·replace H:=ift h7 H
   refine z0c ?_
   refine z0b hN rfl ?_
   refine z0w (z6d z28 rfl rfl rfl) rfl ?_
   obtain ⟨r8,h9,H⟩:=bnd H
   refine z0a (z0q (y24 v3 r8 h9) ⟨.inl rfl,trivial⟩) ?_
   obtain ⟨r10,h11,H⟩:=bnd H
   refine z0a (z0q (y27 r8 r10 h11) ⟨.inl rfl,trivial⟩) ?_
   obtain ⟨h12,H⟩:=gif H
   refine z0a (z26 rfl rfl (Nat.le_trans h12 (by decide))) ?_
   refine qe rfl ?_
   refine z0b hN rfl ?_
   refine qd rfl ?_
   obtain ⟨h13,H⟩:=gif H
   refine z0a (z26 rfl rfl (Nat.le_trans h13 (by decide))) ?_
   refine qd rfl ?_
   obtain ⟨r14,h15,H⟩:=bnd H
   refine z0a (z0q (y1e [111,110,101] ([115,49,46]++r10) r14 h15) ⟨.inl rfl,.inl rfl,trivial⟩) ?_
   obtain ⟨h16,H⟩:=gif H
   refine z0a (z26 rfl rfl (Nat.le_trans h16 (by decide))) ?_
   refine qe rfl ?_
   exact ⟨((([115,49,46]++r10)++[46])++r14),H,⟨rfl,rfl,trivial⟩,⟨rfl,trivial⟩⟩
  ·replace H:=iff_ h7 H
   refine z0l ?_
   exact ⟨r5.1,H,⟨rfl,rfl,trivial⟩,⟨rfl,trivial⟩⟩
 ·rintro v17 H
  replace H:z2w s1 v17=some r:=H
  unfold z2w at H
  refine z03 (ι:=Bs×(List Int)×Int) (fun i=>[(0,.ptr 0 0),(9,.dat (vstr i.1))]) (fun i=>[(0,.box (some bl) 25 [.dat (vlst (List.map y2j i.2.1)),.dat (vint i.2.2)])]) (fun i=>z2v i.1 i.2.1 i.2.2=some r) (fun i=>rfl) ?_ ?_
  ·skip
   refine z0c ?_
   refine z0b hN rfl ?_
   refine z0a (z0h (.ptr _ _) rfl) ?_
   obtain ⟨r18,h19,H⟩:=bnd H
   refine z0j (z1f (z1z s1 8 r18 h19) rfl ⟨.inl rfl,trivial⟩ rfl) rfl ?_
   refine z0g _ rfl (fun h20 => ?_) (fun h20 => ?_)
   ·replace H:=ift h20 H
    refine z0c ?_
    refine z0b hN rfl ?_
    refine z0a (z0h (.ptr _ _) rfl) ?_
    refine z0a (z1a (u':=vlst (List.map z0n [[115,49],[115,50],[115,57]])) (z14 [[_],[_],[_]] z86 ⟨rfl,.inl ⟨_,rfl,rfl,rfl⟩,rfl,rfl,.inl ⟨_,rfl,rfl,rfl⟩,rfl,rfl,.inl ⟨_,rfl,rfl,rfl⟩,rfl,trivial⟩ rfl rfl) rfl) ?_
    obtain ⟨r21,h22,H⟩:=bnd H
    refine z0j (z1f (z1d r18.2 ([[115,49],[115,50],[115,57]]) r21 h22) rfl ⟨.inl rfl,trivial⟩ rfl) rfl ?_
    obtain ⟨h23,H⟩:=gif H
    refine z0a (z26 rfl rfl (Nat.le_trans h23 (by decide))) ?_
    refine z0a (z0h (.ptr _ _) rfl) ?_
    obtain ⟨r24,h25,H⟩:=bnd H
    refine z0j (z1f (y53 r21.2 r24 h25) rfl trivial rfl) rfl ?_
    obtain ⟨r26,h27,H⟩:=bnd H
    refine z0a (z0q (y27 r24.1 r26 h27) ⟨.inl rfl,trivial⟩) ?_
    obtain ⟨h28,H⟩:=gif H
    refine z0a (z26 rfl rfl (Nat.le_trans h28 (by decide))) ?_
    refine qe rfl ?_
    refine z0b hN rfl ?_
    refine qd rfl ?_
    obtain ⟨h29,H⟩:=gif H
    refine z0a (z26 rfl rfl (Nat.le_trans h29 (by decide))) ?_
    refine z0a (z0h (.ptr _ _) rfl) ?_
    refine z0a (z1a (u':=vlst (List.map z0n [[111,110,101],[116,119,111]])) (z14 [[_],[_]] z86 ⟨rfl,.inl ⟨_,rfl,rfl,rfl⟩,rfl,rfl,.inl ⟨_,rfl,rfl,rfl⟩,rfl,trivial⟩ rfl rfl) rfl) ?_
    obtain ⟨r30,h31,H⟩:=bnd H
    refine z0j (z1f (z1d r24.2 ([[111,110,101],[116,119,111]]) r30 h31) rfl ⟨.inl rfl,trivial⟩ rfl) rfl ?_
    refine qd rfl ?_
    obtain ⟨r32,h33,H⟩:=bnd H
    refine z0a (z0q (y1e r30.1 ((r21.1++[46])++r26) r32 h33) ⟨.inl rfl,.inl rfl,trivial⟩) ?_
    obtain ⟨h34,H⟩:=gif H
    refine z0a (z26 rfl rfl (Nat.le_trans h34 (by decide))) ?_
    refine qe rfl ?_
    exact ⟨(((((r21.1++[46])++r26)++[46])++r32),r30.2.L,r30.2.at_),H,⟨rfl,rfl,trivial⟩,⟨rfl,trivial⟩⟩
   ·replace H:=iff_ h20 H
    refine z0l ?_
    exact ⟨(v17,r18.2.L,r18.2.at_),H,⟨rfl,rfl,trivial⟩,⟨rfl,trivial⟩⟩
  ·rintro ⟨v35,c36,c37⟩ H
   replace H:z2v v35 c36 c37=some r:=H
   unfold z2v at H
   refine z03 (ι:=Bs×(List Int)×Int) (fun i=>[(0,.ptr 0 0),(9,.dat (vstr i.1))]) (fun i=>[(0,.box (some bl) 25 [.dat (vlst (List.map y2j i.2.1)),.dat (vint i.2.2)])]) (fun i=>z2u i.1 i.2.1 i.2.2=some r) (fun i=>rfl) ?_ ?_
   ·skip
    refine z0c ?_
    refine z0b hN rfl ?_
    refine z0a (z0h (.ptr _ _) rfl) ?_
    obtain ⟨r38,h39,H⟩:=bnd H
    refine z0j (z1f (z1z (z0d.mk c36 c37) 8 r38 h39) rfl ⟨.inl rfl,trivial⟩ rfl) rfl ?_
    refine z0g _ rfl (fun h40 => ?_) (fun h40 => ?_)
    ·replace H:=ift h40 H
     refine z0b hN rfl ?_
     refine z0a (z0h (.ptr _ _) rfl) ?_
     refine qd rfl ?_
     obtain ⟨r41,h42,H⟩:=bnd H
     refine z0j (z1f (y36 r38.2 v35 [65,46,98,95,48] r41 h42) rfl ⟨.inl rfl,.inl rfl,trivial⟩ rfl) rfl ?_
     refine qe rfl ?_
     exact ⟨(r41.1,r41.2.L,r41.2.at_),H,⟨rfl,rfl,trivial⟩,⟨rfl,trivial⟩⟩
    ·replace H:=iff_ h40 H
     refine z0l ?_
     exact ⟨(v35,r38.2.L,r38.2.at_),H,⟨rfl,rfl,trivial⟩,⟨rfl,trivial⟩⟩
   ·rintro ⟨v43,c44,c45⟩ H
    replace H:z2u v43 c44 c45=some r:=H
    unfold z2u at H
    refine z03 (ι:=Bs×(List Int)×Int) (fun i=>[(9,.dat (vstr i.1))]) (fun i=>[(0,.box (some bl) 25 [.dat (vlst (List.map y2j i.2.1)),.dat (vint i.2.2)])]) (fun i=>z3p i.1 i.2.1 i.2.2=some r) (fun i=>rfl) ?_ ?_
    ·skip
     refine z0c ?_
     refine z0b hN rfl ?_
     refine z0a (z0h (.ptr _ _) rfl) ?_
     obtain ⟨r46,h47,H⟩:=bnd H
     refine z0j (z1f (z1z (z0d.mk c44 c45) 25 r46 h47) rfl ⟨.inl rfl,trivial⟩ rfl) rfl ?_
     refine z0g _ rfl (fun h48 => ?_) (fun h48 => ?_)
     ·replace H:=ift h48 H
      refine z0c ?_
      refine z0b hN rfl ?_
      refine z0a (z0h (.ptr _ _) rfl) ?_
      refine z0a (z1a (u':=vlst (List.map z0n [[65],[89,82],[42],[]])) (z14 [[_],[_],[_],[_]] z86 ⟨rfl,.inl ⟨_,rfl,rfl,rfl⟩,rfl,rfl,.inl ⟨_,rfl,rfl,rfl⟩,rfl,rfl,.inl ⟨_,rfl,rfl,rfl⟩,rfl,rfl,.inl ⟨_,rfl,rfl,rfl⟩,rfl,trivial⟩ rfl rfl) rfl) ?_
      obtain ⟨r49,h50,H⟩:=bnd H
      refine z0j (z1f (z1d r46.2 ([[65],[89,82],[42],[]]) r49 h50) rfl ⟨.inl rfl,trivial⟩ rfl) rfl ?_
      obtain ⟨h51,H⟩:=gif H
      refine z0a (z26 rfl rfl (Nat.le_trans h51 (by decide))) ?_
      refine qe rfl ?_
      refine z0b hN rfl ?_
      refine qd rfl ?_
      obtain ⟨h52,H⟩:=gif H
      refine z0a (z26 rfl rfl (Nat.le_trans h52 (by decide))) ?_
      refine qd rfl ?_
      obtain ⟨r53,h54,H⟩:=bnd H
      refine z0a (z0q (y1e [111,110,101] ([115,49,46]++r49.1) r53 h54) ⟨.inl rfl,.inl rfl,trivial⟩) ?_
      obtain ⟨h55,H⟩:=gif H
      refine z0a (z26 rfl rfl (Nat.le_trans h55 (by decide))) ?_
      refine qe rfl ?_
      exact ⟨(((([115,49,46]++r49.1)++[46])++r53),r49.2.L,r49.2.at_),H,⟨rfl,trivial⟩,⟨rfl,trivial⟩⟩
     ·replace H:=iff_ h48 H
      refine z0l ?_
      exact ⟨(v43,r46.2.L,r46.2.at_),H,⟨rfl,trivial⟩,⟨rfl,trivial⟩⟩
    ·rintro ⟨v56,c57,c58⟩ H
     replace H:z3p v56 c57 c58=some r:=H
     unfold z3p at H
     refine z0c ?_
     refine z0b hN rfl ?_
     refine qd rfl ?_
     refine qe rfl ?_
     refine z0m ?_
     cases H
     exact ⟨trivial,⟨.inl rfl,trivial⟩,rfl⟩
theorem x3o (n1:Int) (r:(Bool)) (H:y35 n1=some r):Fn Tryz.prog 136 [vint n1] (z1r [z05 r]):=by
 refine ⟨by kernel_rfl,z1e (us:=[z05 r]) Tryz.func136 rfl rfl rfl rfl fun X hN => ?_⟩
 unfold y35 at H
 refine z0c ?_
 refine z0b hN rfl ?_
 refine qe rfl ?_
 refine z0c ?_
 refine z0b hN rfl ?_
 refine qd rfl ?_
 refine z0a (z87 rfl rfl) ?_
 refine qd rfl ?_
 refine z57 rfl rfl (fun hc=>z0h (.dat _) rfl) ?_
 refine z57 rfl rfl (fun hc=>z04 (cnd (c:=(decide (0≤n1))) hc) rfl) ?_
 refine z0a (z2c rfl (fun hb=>(cnd (c:=(decide (0≤n1))) hb)) rfl) ?_
 refine qe rfl ?_
 refine z0m ?_
 cases H
 exact ⟨trivial,.inl rfl,trivial⟩
theorem y9f (v1:Int) (r:(Int)) (H:y04 v1=some r):Fn Tryz.prog 69 [vint v1] (z1r [vint r]):=by
 refine ⟨by kernel_rfl,z1e (us:=[vint r]) Tryz.func69 rfl rfl rfl rfl fun X hN => ?_⟩
 unfold y04 at H
 refine z0c ?_
 refine z0b hN rfl ?_
 refine qe rfl ?_
 refine z0c ?_
 refine z0c ?_
 refine z0b hN rfl ?_
 refine qd rfl ?_
 obtain ⟨r2,h3,H⟩:=bnd H
 refine z0a (z0q (x3o v1 r2 h3) ⟨.inl rfl,trivial⟩) ?_
 refine z0a (z2j rfl) ?_
 refine z0g _ rfl (fun h4 => ?_) (fun h4 => ?_)
 ·replace H:=ift h4 H
  refine z0c ?_
  refine z0b hN rfl ?_
  refine qe rfl ?_
  refine z0m ?_
  cases H
  exact ⟨trivial,.inl rfl,trivial⟩
 ·replace H:=iff_ h4 H
  refine z0l ?_
  refine z0c ?_
  refine z0b hN rfl ?_
  refine qe rfl ?_
  refine z0m ?_
  cases H
  exact ⟨trivial,.inl rfl,trivial⟩
theorem x3l (x1:z0i) (c2:(List Bs)) (r:(Bool)) (H:y22 x1 c2=some r):Fn Tryz.prog 181 [vagg (z06 x1),y1q [[vlst (List.map z0n c2)]] 0 0] (z1r [z05 r]):=by
 refine ⟨by kernel_rfl,z1e (us:=[z05 r]) Tryz.func181 rfl rfl rfl rfl fun X hN => ?_⟩
 unfold y22 at H
 refine z0c ?_
 refine z0b hN rfl ?_
 refine z0j (z9k 1 rfl) rfl ?_
 refine qe rfl ?_
 refine z0c ?_
 refine z4k mixed hN rfl rfl ?_
 refine z0a (z0r y5b rfl) ?_
 refine z0w (z0o tyS9 rfl rfl) rfl ?_
 refine z0a (z0x z85 rfl rfl rfl) ?_
 obtain ⟨x3,h4,H⟩:=bnd H
 refine z0a (y0r z9i (fun _=>rfl) rfl rfl h4) ?_
 refine z0a (z0x tyS9 rfl (z2l h4) rfl) ?_
 refine z0a (z6c rfl rfl) ?_
 refine qe rfl ?_
 refine ⟨rfl,?_⟩
 refine z0m ?_
 cases H
 exact ⟨trivial,.inl rfl,trivial⟩
theorem x7z (secret1:Bs) (text2:Bs) (r:(Bs)) (H:y43 secret1 text2=some r):Fn Tryz.prog 149 [vstr secret1,vstr text2] (z1r [vstr r]):=by
 refine ⟨by kernel_rfl,z1e (us:=[vstr r]) Tryz.func149 rfl rfl rfl rfl fun X hN => ?_⟩
 unfold y43 at H
 refine z0c ?_
 refine z0b hN rfl ?_
 refine qe rfl ?_
 refine z0c ?_
 refine z0b hN rfl ?_
 refine qe rfl ?_
 refine z0c ?_
 refine z0c ?_
 refine z0b hN rfl ?_
 refine qd rfl ?_
 refine qd rfl ?_
 refine qd rfl ?_
 refine z0a (z1a (u':=vlst (List.map z0n [secret1,[0],text2,[0],secret1])) (z14 [[_],[_],[_],[_],[_]] z86 ⟨rfl,.inl ⟨_,rfl,rfl,rfl⟩,rfl,rfl,.inl ⟨_,rfl,rfl,rfl⟩,rfl,rfl,.inl ⟨_,rfl,rfl,rfl⟩,rfl,rfl,.inl ⟨_,rfl,rfl,rfl⟩,rfl,rfl,.inl ⟨_,rfl,rfl,rfl⟩,rfl,trivial⟩ rfl rfl) rfl) ?_
 refine z0a (z6r z9p rfl) ?_
 refine qd rfl ?_
 refine z0v ?_
 obtain ⟨h6,H⟩:=gif H
 refine z3u (fun (k4:Nat) (s:Int)=>[(5,.dat (vval (.int .u64 s))),(13,.dat (vlst (List.map z0n ([secret1,[0],text2,[0],secret1])))),(14,.dat (vint (([secret1,[0],text2,[0],secret1]).length:Int))),(15,.dat (vint (k4:Int)))]) (fun (k4:Nat) (s:Int)=>[]) 14695981039346656037 H ⟨rfl,rfl,rfl,rfl,trivial⟩ trivial (fun _ _=>rfl) ?_ ?_
 ·rintro h3 H
  replace H:y2k h3=some r:=H
  unfold y2k at H
  refine z0c ?_
  refine z0b hN rfl ?_
  refine z0a (z04 rfl rfl) ?_
  refine z0c ?_
  refine z0g _ rfl (fun h=>(lt_t h).elim) (fun h => ?_)
  refine z1u ?_
  refine z0c ?_
  refine z0c ?_
  refine z0b hN rfl ?_
  refine qd rfl ?_
  refine z0v ?_
  obtain ⟨h11,H⟩:=gif H
  refine y65 (fun (k9:Nat) (s:Int)=>[(5,.dat (vval (.int .u64 s))),(33,.dat (vint (k9:Int)))]) (fun (k9:Nat) (s:Int)=>[]) h3 H ⟨rfl,rfl,trivial⟩ trivial (fun _ _=>rfl) ?_ ?_
  ·rintro h8 H
   replace H:y6n h8=some r:=H
   unfold y6n at H
   refine z0c ?_
   refine z0b hN rfl ?_
   refine z0a (z04 rfl rfl) ?_
   refine z0c ?_
   refine z0g _ rfl (fun h=>(lt_t h).elim) (fun h => ?_)
   refine z1u ?_
   refine z0c ?_
   refine z0b hN rfl ?_
   refine qd rfl ?_
   obtain ⟨r12,h13,H⟩:=bnd H
   refine z0a (z0q (y5y h8 16 r12 h13) ⟨.inl rfl,.inl rfl,trivial⟩) ?_
   refine qe rfl ?_
   refine z0c ?_
   refine z0b hN rfl ?_
   refine qd rfl ?_
   refine z0a (z1m tyU9 rfl) ?_
   refine z0a (z1c _ rfl rfl (.inr (.inl ⟨rfl,rfl⟩))) ?_
   obtain ⟨r14,h15,H⟩:=bnd H
   refine z0a (z0q (y38 [48] (wr (16 - (r12.length:Int))) r14 h15) ⟨.inl rfl,.inl rfl,trivial⟩) ?_
   refine qd rfl ?_
   obtain ⟨h16,H⟩:=gif H
   refine z0a (z26 rfl rfl (Nat.le_trans h16 (by decide))) ?_
   refine qe rfl ?_
   refine z0m ?_
   cases H
   exact ⟨trivial,.inl rfl,trivial⟩
  ·rintro k9 h8 q10 h17 H hq10
   replace H:y6m k9 h8=some q10:=H
   unfold y6m at H
   refine z0c ?_
   refine z0b hN rfl ?_
   refine z0a (z04 rfl rfl) ?_
   refine z0c ?_
   refine z0g _ rfl (fun h => ?_) (fun h=>(lt_f h17 h).elim)
   refine z0l ?_
   refine z0c ?_
   refine z0v ?_
   refine z0b hN rfl ?_
   refine qd rfl ?_
   refine qd rfl ?_
   refine z0a (z1a (x1z rfl rfl (by decide)) rfl) ?_
   refine z0a (z1a (x4w rfl rfl) rfl) ?_
   refine z0a (z1c _ rfl rfl (.inr (.inr ⟨rfl,rfl⟩))) ?_
   refine qe rfl ?_
   refine z0b hN rfl ?_
   refine z0a (z3r rfl rfl (by omega)) ?_
   refine qd rfl ?_
   exact ⟨_,z84 H,⟨rfl,rfl,trivial⟩,trivial⟩
 ·rintro k4 x7 h3 q5 h18 h19 H hq5
  replace H:y3c k4 x7 h3=some q5:=H
  unfold y3c at H
  refine z0c ?_
  refine z0b hN rfl ?_
  refine z0a (z04 rfl rfl) ?_
  refine z0c ?_
  refine z0g _ rfl (fun h => ?_) (fun h=>(lt_f h18 h).elim)
  refine z0l ?_
  refine z0c ?_
  refine z0v ?_
  refine z0c ?_
  refine z0b hN rfl ?_
  refine z0a (y0r z9i (fun _=>rfl) rfl rfl h19) ?_
  refine z0a (z0x tyS9 rfl (z2l h19) rfl) ?_
  refine qe rfl ?_
  refine z0c ?_
  refine z0b hN rfl ?_
  refine qd rfl ?_
  refine z0a (z1m tyU9 rfl) ?_
  refine qd rfl ?_
  refine z0v ?_
  obtain ⟨h23,H⟩:=gif H
  refine z3u (fun (k21:Nat) (s:Int)=>[(5,.dat (vval (.int .u64 s))),(7,.dat (vstr x7)),(13,.dat (vlst (List.map z0n ([secret1,[0],text2,[0],secret1])))),(14,.dat (vint (([secret1,[0],text2,[0],secret1]).length:Int))),(15,.dat (vint (k4:Int))),(20,.dat (vint (x7.length:Int))),(21,.dat (vint (k21:Int)))]) (fun (k21:Nat) (s:Int)=>[]) h3 H ⟨rfl,rfl,rfl,rfl,rfl,rfl,rfl,trivial⟩ trivial (fun _ _=>rfl) ?_ ?_
  ·rintro h20 H
   replace H:y74 h20=some q5:=H
   unfold y74 at H
   refine z0c ?_
   refine z0b hN rfl ?_
   refine z0a (z04 rfl rfl) ?_
   refine z0c ?_
   refine z0g _ rfl (fun h=>(lt_t h).elim) (fun h => ?_)
   refine z1u ?_
   refine z0b hN rfl ?_
   refine z0a (z3r rfl rfl (by omega)) ?_
   refine qd rfl ?_
   exact ⟨_,z84 H,⟨rfl,rfl,rfl,rfl,trivial⟩,trivial⟩
  ·rintro k21 x24 h20 q22 h25 h26 H hq22
   replace H:y6l k21 x24 h20=some q22:=H
   unfold y6l at H
   refine z0c ?_
   refine z0b hN rfl ?_
   refine z0a (z04 rfl rfl) ?_
   refine z0c ?_
   refine z0g _ rfl (fun h => ?_) (fun h=>(lt_f h25 h).elim)
   refine z0l ?_
   refine z0c ?_
   refine z0v ?_
   refine z0c ?_
   refine z0b hN rfl ?_
   refine qd rfl ?_
   refine qe rfl ?_
   refine z0b hN rfl ?_
   refine qd rfl ?_
   refine qd rfl ?_
   refine qd rfl ?_
   refine z0a (y00 tyU9 rfl rfl h26) ?_
   refine z0a (z7f tyU5 y7x rfl) ?_
   refine z0a (z1a (x4w rfl rfl) rfl) ?_
   refine z0a (z1c _ rfl rfl (.inr (.inr ⟨rfl,rfl⟩))) ?_
   refine qe rfl ?_
   refine z0b hN rfl ?_
   refine z0a (z3r rfl rfl (by omega)) ?_
   refine qd rfl ?_
   exact ⟨_,z84 H,⟨rfl,rfl,rfl,rfl,rfl,rfl,rfl,trivial⟩,trivial⟩
theorem y8z (s1:Bs) (r:(Bs)) (H:y0o s1=some r):Fn Tryz.prog 66 [vstr s1] (z1r [vstr r]):=by
 refine ⟨by kernel_rfl,z1e (us:=[vstr r]) Tryz.func66 rfl rfl rfl rfl fun X hN => ?_⟩
 unfold y0o at H
 refine z0c ?_
 refine z0b hN rfl ?_
 refine qe rfl ?_
 refine z0c ?_
 refine z0b hN rfl ?_
 refine qe rfl ?_
 refine z03 (ι:=(List Int)) (fun i=>[(3,.row 1 i.length)]) (fun i=>[(1,.row 5 1 (List.map z5m i))]) (fun i=>y3d i=some r) (fun i=>rfl) ?_ ?_
 ·skip
  refine z0v ?_
  refine y2i 3 1 5 1 rfl rfl rfl ?_
  refine y55 (fun (s:Bs×(List Int))=>[(0,.dat (vstr s.1)),(3,.row 1 s.2.length)]) (fun (s:Bs×(List Int))=>[(1,.row 5 1 (List.map z5m s.2))]) (s1,[]) H ⟨rfl,rfl,trivial⟩ ⟨rfl,trivial⟩ (fun _=>rfl) ?_
  rintro ⟨s2,l3⟩ q4 H hq4
  replace H:z2i s2 l3=some q4:=H
  unfold z2i at H
  refine z0c ?_
  refine z0c ?_
  refine z0b hN rfl ?_
  refine qd rfl ?_
  refine z0a (z1m tyU9 rfl) ?_
  refine z0a (z2m rfl rfl) ?_
  refine z0g _ rfl (fun h5 => ?_) (fun h5 => ?_)
  ·replace H:=ift h5 H
   refine z0l ?_
   refine z0v ?_
   refine z0c ?_
   refine z0b hN rfl ?_
   refine qd rfl ?_
   refine z0a (z1m tyU9 rfl) ?_
   refine z0a (x7f rfl rfl) ?_
   refine qe rfl ?_
   refine z0c ?_
   refine z0b hN rfl ?_
   refine qe rfl ?_
   refine z0c ?_
   refine z0c ?_
   refine z0b hN rfl ?_
   refine qd rfl ?_
   refine z0v ?_
   obtain ⟨h9,H⟩:=gif H
   refine y65 (fun (k7:Nat) (s:Int)=>[(0,.dat (vstr s2)),(3,.row 1 l3.length),(4,.dat (vint (min 3 (s2.length:Int)))),(5,.dat (vint s)),(14,.dat (vint (k7:Int)))]) (fun (k7:Nat) (s:Int)=>[(1,.row 5 1 (List.map z5m l3))]) 0 H ⟨rfl,rfl,rfl,rfl,rfl,trivial⟩ ⟨rfl,trivial⟩ (fun _ _=>rfl) ?_ ?_
   ·rintro x6 H
    replace H:y3e s2 l3 x6=some q4:=H
    unfold y3e at H
    refine z0c ?_
    refine z0b hN rfl ?_
    refine z0a (z04 rfl rfl) ?_
    refine z0c ?_
    refine z0g _ rfl (fun h=>(lt_t h).elim) (fun h => ?_)
    refine z1u ?_
    refine z0c ?_
    refine z0c ?_
    refine z0b hN rfl ?_
    refine qd rfl ?_
    refine z0a (z1c _ rfl rfl (.inl ⟨rfl,rfl⟩)) ?_
    refine qd rfl ?_
    refine z0v ?_
    obtain ⟨h13,H⟩:=gif H
    refine y65 (fun (k11:Nat) (s:(List Int))=>[(0,.dat (vstr s2)),(3,.row 1 s.length),(4,.dat (vint (min 3 (s2.length:Int)))),(5,.dat (vint x6)),(30,.dat (vint (wr ((min 3 (s2.length:Int))+1)))),(31,.dat (vint (k11:Int)))]) (fun (k11:Nat) (s:(List Int))=>[(1,.row 5 1 (List.map z5m s))]) l3 H ⟨rfl,rfl,rfl,rfl,rfl,rfl,trivial⟩ ⟨rfl,trivial⟩ (fun _ _=>rfl) ?_ ?_
    ·rintro l10 H
     replace H:y0w s2 l10=some q4:=H
     unfold y0w at H
     refine z0c ?_
     refine z0b hN rfl ?_
     refine z0a (z04 rfl rfl) ?_
     refine z0c ?_
     refine z0g _ rfl (fun h=>(w1y h).elim) (fun h => ?_)
     refine z1u ?_
     refine z0b hN rfl ?_
     refine qd rfl ?_
     refine qd rfl ?_
     obtain ⟨l14,h15,H⟩:=bnd H
     refine z0a (y14 tyU9 rfl rfl rfl h15) ?_
     refine qe rfl ?_
     exact ⟨_,z84 H,⟨rfl,rfl,trivial⟩,⟨rfl,trivial⟩⟩
    ·rintro k11 l10 q12 h16 H hq12
     replace H:y0u x6 k11 l10=some q12:=H
     unfold y0u at H
     refine z0c ?_
     refine z0b hN rfl ?_
     refine z0a (z04 rfl rfl) ?_
     refine z0c ?_
     refine z0g _ rfl (fun h => ?_) (fun h=>(w1z h16 h).elim)
     refine z0l ?_
     refine z0c ?_
     refine z0v ?_
     refine z0c ?_
     refine z0b hN rfl ?_
     refine qd rfl ?_
     refine qe rfl ?_
     refine z0b hN rfl ?_
     refine z0a (z0h (.row _ _) rfl) ?_
     refine qd rfl ?_
     refine qd rfl ?_
     refine z0a (z1c _ rfl rfl (.inr (.inr ⟨rfl,rfl⟩))) ?_
     refine z0a (z1c _ rfl rfl (.inr (.inl ⟨rfl,rfl⟩))) ?_
     obtain ⟨h17,H⟩:=gif H
     refine z0a (z1a (x1z rfl rfl h17) rfl) ?_
     refine z0a (z1a (x7l rfl rfl) rfl) ?_
     obtain ⟨x18,h19,H⟩:=bnd H
     refine z0a (y7k tyU9 rfl rfl h19) ?_
     refine z0a (z1a (u':=vlst (List.map z5m [(x18.toNat:Int)])) (z14 [[_]] x3r ⟨rfl,.inl ⟨_,rfl,rfl,rfl⟩,rfl,trivial⟩ rfl rfl) rfl) ?_
     obtain ⟨h20,H⟩:=gif H
     refine z0j (y75 x3r (fun _=>rfl) rfl rfl rfl ⟨by simp,by first | (simp; done) | simpa using h20⟩ rfl) rfl ?_
     refine z0a (z13 (.row _ _) rfl) ?_
     refine z0b hN rfl ?_
     refine z0a (z3r rfl rfl (by omega)) ?_
     refine qd rfl ?_
     exact ⟨_,z84 H,⟨rfl,rfl,rfl,rfl,rfl,rfl,trivial⟩,⟨rfl,trivial⟩⟩
   ·rintro k7 x6 q8 h21 H hq8
    replace H:z67 s2 k7 x6=some q8:=H
    unfold z67 at H
    refine z0c ?_
    refine z0b hN rfl ?_
    refine z0a (z04 rfl rfl) ?_
    refine z0c ?_
    refine z0g _ rfl (fun h => ?_) (fun h=>(lt_f h21 h).elim)
    refine z0l ?_
    refine z03 (ι:=Int) (fun i=>[(0,.dat (vstr s2)),(3,.row 1 l3.length),(4,.dat (vint (min 3 (s2.length:Int)))),(5,.dat (vint i)),(14,.dat (vint (k7:Int)))]) (fun i=>[(1,.row 5 1 (List.map z5m l3))]) (fun i=>y0v i=some q8) (fun i=>rfl) ?_ ?_
    ·skip
     refine z0v ?_
     refine z0c ?_
     refine z0b hN rfl ?_
     refine qd rfl ?_
     refine qe rfl ?_
     refine z0c ?_
     refine z0b hN rfl ?_
     refine qd rfl ?_
     refine z0a (z1a (x4x rfl rfl (by decide)) rfl) ?_
     refine qe rfl ?_
     refine z0c ?_
     refine z0b hN rfl ?_
     refine qd rfl ?_
     refine qd rfl ?_
     refine z0a (z04 rfl rfl) ?_
     refine z0g _ rfl (fun h22 => ?_) (fun h22 => ?_)
     ·replace H:=ift h22 H
      refine z0b hN rfl ?_
      refine qd rfl ?_
      refine qd rfl ?_
      refine qd rfl ?_
      obtain ⟨x23,h24,H⟩:=bnd H
      refine z0a (y00 tyU9 rfl rfl h24) ?_
      refine z0a (z7f tyU5 tyU3 rfl) ?_
      refine z0a (z1a (w0z rfl rfl) rfl) ?_
      refine qe rfl ?_
      exact ⟨(or_ .i64 (shl_ .i64 x6 8) (IntKind.wrap .i64 (x23.toNat:Int))),H,⟨rfl,rfl,rfl,rfl,rfl,trivial⟩,⟨rfl,trivial⟩⟩
     ·replace H:=iff_ h22 H
      refine z0l ?_
      exact ⟨(shl_ .i64 x6 8),H,⟨rfl,rfl,rfl,rfl,rfl,trivial⟩,⟨rfl,trivial⟩⟩
    ·rintro x25 H
     replace H:y0v x25=some q8:=H
     unfold y0v at H
     refine z0b hN rfl ?_
     refine z0a (z3r rfl rfl (by omega)) ?_
     refine qd rfl ?_
     exact ⟨_,z84 H,⟨rfl,rfl,rfl,rfl,rfl,trivial⟩,⟨rfl,trivial⟩⟩
  ·replace H:=iff_ h5 H
   refine z1u ?_
   replace H:=outl H hq4
   exact ⟨l3,H,⟨rfl,trivial⟩,⟨rfl,trivial⟩⟩
 ·rintro out26 H
  replace H:y3d out26=some r:=H
  unfold y3d at H
  refine z0c ?_
  refine x1b 3 1 rfl rfl rfl ?_
  refine z0b hN rfl ?_
  refine qd rfl ?_
  refine z0a (y67 (C:=z5m) y8x tyU5 tyU9 (fun _=>rfl) rfl) ?_
  refine qe rfl ?_
  refine z0m ?_
  cases H
  exact ⟨trivial,.inl rfl,trivial⟩
theorem x3m (s1:Bs) (r:(Bs×Int)) (H:y33 s1=some r):Fn Tryz.prog 182 [vstr s1] (z1r [vstr r.1,vint r.2]):=by
 refine ⟨by kernel_rfl,z1e (us:=[vstr r.1,vint r.2]) Tryz.func182 rfl rfl rfl rfl fun X hN => ?_⟩
 unfold y33 at H
 refine z0c ?_
 refine z0b hN rfl ?_
 refine qe rfl ?_
 refine qe rfl ?_
 refine z0c ?_
 refine z0b hN rfl ?_
 refine qe rfl ?_
 refine z03 (ι:=(List Int)) (fun i=>[(0,.dat (vstr s1)),(4,.row 1 i.length)]) (fun i=>[(1,.row 5 1 (List.map z5m i))]) (fun i=>y0y s1 i=some r) (fun i=>rfl) ?_ ?_
 ·skip
  refine z0c ?_
  refine z0b hN rfl ?_
  refine qd rfl ?_
  refine qe rfl ?_
  refine z0v ?_
  refine y2i 4 1 5 1 rfl rfl rfl ?_
  refine y55 (fun (s:Bs×(List Int))=>[(0,.dat (vstr s1)),(4,.row 1 s.2.length),(5,.dat (vstr s.1))]) (fun (s:Bs×(List Int))=>[(1,.row 5 1 (List.map z5m s.2))]) (s1,[]) H ⟨rfl,rfl,rfl,trivial⟩ ⟨rfl,trivial⟩ (fun _=>rfl) ?_
  rintro ⟨rest2,l3⟩ q4 H hq4
  replace H:z68 s1 rest2 l3=some q4:=H
  unfold z68 at H
  refine z0c ?_
  refine z0c ?_
  refine z0b hN rfl ?_
  refine qd rfl ?_
  refine z0a (z1m tyU9 rfl) ?_
  refine z0a (z2m rfl rfl) ?_
  refine z0g _ rfl (fun h5 => ?_) (fun h5 => ?_)
  ·replace H:=ift h5 H
   refine z0l ?_
   refine z0v ?_
   refine z0c ?_
   refine z0b hN rfl ?_
   refine qd rfl ?_
   refine z0a (z1m tyU9 rfl) ?_
   refine z0a (x7f rfl rfl) ?_
   refine qe rfl ?_
   refine z0c ?_
   refine z0b hN rfl ?_
   refine qe rfl ?_
   refine z0c ?_
   refine z0c ?_
   refine z0b hN rfl ?_
   refine qd rfl ?_
   refine z0v ?_
   obtain ⟨h9,H⟩:=gif H
   refine y65 (fun (k7:Nat) (s:Int)=>[(0,.dat (vstr s1)),(4,.row 1 l3.length),(5,.dat (vstr rest2)),(6,.dat (vint (min 4 (rest2.length:Int)))),(7,.dat (vint s)),(18,.dat (vint (k7:Int)))]) (fun (k7:Nat) (s:Int)=>[(1,.row 5 1 (List.map z5m l3))]) 0 H ⟨rfl,rfl,rfl,rfl,rfl,rfl,trivial⟩ ⟨rfl,trivial⟩ (fun _ _=>rfl) ?_ ?_
   ·rintro x6 H
    replace H:y3f rest2 l3 x6=some q4:=H
    unfold y3f at H
    refine z0c ?_
    refine z0b hN rfl ?_
    refine z0a (z04 rfl rfl) ?_
    refine z0c ?_
    refine z0g _ rfl (fun h=>(lt_t h).elim) (fun h => ?_)
    refine z1u ?_
    refine z0c ?_
    refine z0c ?_
    refine z0b hN rfl ?_
    refine qd rfl ?_
    refine z0a (z1c _ rfl rfl (.inr (.inl ⟨rfl,rfl⟩))) ?_
    refine qd rfl ?_
    refine z0v ?_
    obtain ⟨h13,H⟩:=gif H
    refine y65 (fun (k11:Nat) (s:(List Int))=>[(0,.dat (vstr s1)),(4,.row 1 s.length),(5,.dat (vstr rest2)),(6,.dat (vint (min 4 (rest2.length:Int)))),(7,.dat (vint x6)),(37,.dat (vint (wr ((min 4 (rest2.length:Int)) - 1)))),(38,.dat (vint (k11:Int)))]) (fun (k11:Nat) (s:(List Int))=>[(1,.row 5 1 (List.map z5m s))]) l3 H ⟨rfl,rfl,rfl,rfl,rfl,rfl,rfl,trivial⟩ ⟨rfl,trivial⟩ (fun _ _=>rfl) ?_ ?_
    ·rintro l10 H
     replace H:y0z rest2 l10=some q4:=H
     unfold y0z at H
     refine z0c ?_
     refine z0b hN rfl ?_
     refine z0a (z04 rfl rfl) ?_
     refine z0c ?_
     refine z0g _ rfl (fun h=>(w1y h).elim) (fun h => ?_)
     refine z1u ?_
     refine z0b hN rfl ?_
     refine qd rfl ?_
     refine qd rfl ?_
     obtain ⟨l14,h15,H⟩:=bnd H
     refine z0a (y14 tyU9 rfl rfl rfl h15) ?_
     refine qe rfl ?_
     exact ⟨_,z84 H,⟨rfl,rfl,rfl,trivial⟩,⟨rfl,trivial⟩⟩
    ·rintro k11 l10 q12 h16 H hq12
     replace H:y0x x6 k11 l10=some q12:=H
     unfold y0x at H
     refine z0c ?_
     refine z0b hN rfl ?_
     refine z0a (z04 rfl rfl) ?_
     refine z0c ?_
     refine z0g _ rfl (fun h => ?_) (fun h=>(w1z h16 h).elim)
     refine z0l ?_
     refine z0c ?_
     refine z0v ?_
     refine z0c ?_
     refine z0b hN rfl ?_
     refine qd rfl ?_
     refine qe rfl ?_
     refine z0b hN rfl ?_
     refine z0a (z0h (.row _ _) rfl) ?_
     refine qd rfl ?_
     refine qd rfl ?_
     refine z0a (z1c _ rfl rfl (.inr (.inr ⟨rfl,rfl⟩))) ?_
     refine z0a (z1c _ rfl rfl (.inr (.inl ⟨rfl,rfl⟩))) ?_
     obtain ⟨h17,H⟩:=gif H
     refine z0a (z1a (x1z rfl rfl h17) rfl) ?_
     refine z0a (z7f tyU3 tyU5 rfl) ?_
     refine z0a (z1a (u':=vlst (List.map z5m [IntKind.wrap .u8 (shr_ .i64 x6 (wr (16 - (wr (8 * (k11:Int))))))])) (z14 [[_]] x3r ⟨rfl,.inl ⟨_,rfl,rfl,rfl⟩,rfl,trivial⟩ rfl rfl) rfl) ?_
     obtain ⟨h18,H⟩:=gif H
     refine z0j (y75 x3r (fun _=>rfl) rfl rfl rfl ⟨by simp,by first | (simp; done) | simpa using h18⟩ rfl) rfl ?_
     refine z0a (z13 (.row _ _) rfl) ?_
     refine z0b hN rfl ?_
     refine z0a (z3r rfl rfl (by omega)) ?_
     refine qd rfl ?_
     exact ⟨_,z84 H,⟨rfl,rfl,rfl,rfl,rfl,rfl,rfl,trivial⟩,⟨rfl,trivial⟩⟩
   ·rintro k7 x6 q8 h19 H hq8
    replace H:z35 rest2 k7 x6=some q8:=H
    unfold z35 at H
    refine z0c ?_
    refine z0b hN rfl ?_
    refine z0a (z04 rfl rfl) ?_
    refine z0c ?_
    refine z0g _ rfl (fun h => ?_) (fun h=>(lt_f h19 h).elim)
    refine z0l ?_
    refine z03 (ι:=Int) (fun i=>[(0,.dat (vstr s1)),(4,.row 1 l3.length),(5,.dat (vstr rest2)),(6,.dat (vint (min 4 (rest2.length:Int)))),(7,.dat (vint i)),(18,.dat (vint (k7:Int)))]) (fun i=>[(1,.row 5 1 (List.map z5m l3))]) (fun i=>z9r i=some q8) (fun i=>rfl) ?_ ?_
    ·skip
     refine z0v ?_
     refine z0c ?_
     refine z0b hN rfl ?_
     refine qd rfl ?_
     refine qe rfl ?_
     refine z0c ?_
     refine z0b hN rfl ?_
     refine qd rfl ?_
     refine z0a (z1a (x4x rfl rfl (by decide)) rfl) ?_
     refine qe rfl ?_
     refine z0c ?_
     refine z0b hN rfl ?_
     refine qd rfl ?_
     refine qd rfl ?_
     refine z0a (z04 rfl rfl) ?_
     refine z0g _ rfl (fun h20 => ?_) (fun h20 => ?_)
     ·replace H:=ift h20 H
      refine z0c ?_
      refine z0b hN rfl ?_
      refine qd rfl ?_
      refine qd rfl ?_
      obtain ⟨x21,h22,H⟩:=bnd H
      refine z0a (y00 tyU9 rfl rfl h22) ?_
      obtain ⟨r23,h24,H⟩:=bnd H
      refine z0a (z0q (y4f [65,66,67,68,69,70,71,72,73,74,75,76,77,78,79,80,81,82,83,84,85,86,87,88,89,90,97,98,99,100,101,102,103,104,105,106,107,108,109,110,111,112,113,114,115,116,117,118,119,120,121,122,48,49,50,51,52,53,54,55,56,57,45,95] (x21.toNat:Int) r23 h24) ⟨.inl rfl,.inl rfl,trivial⟩) ?_
      refine qe rfl ?_
      refine z0c ?_
      refine z0c ?_
      refine z0b hN rfl ?_
      refine qd rfl ?_
      refine z0a (z04 rfl rfl) ?_
      refine z0g _ rfl (fun h25 => ?_) (fun h25 => ?_)
      ·replace H:=ift h25 H
       refine z0c ?_
       refine z0b hN rfl ?_
       refine qe rfl ?_
       refine qe rfl ?_
       refine z0m ?_
       replace H:=retl H hq8
       replace H:=retl H hq4
       cases H
       exact ⟨trivial,.inl rfl,.inl rfl,trivial⟩
      ·replace H:=iff_ h25 H
       refine z0l ?_
       refine z0b hN rfl ?_
       refine qd rfl ?_
       refine qd rfl ?_
       refine z0a (z1a (w0z rfl rfl) rfl) ?_
       refine qe rfl ?_
       exact ⟨(or_ .i64 (shl_ .i64 x6 6) r23),H,⟨rfl,rfl,rfl,rfl,rfl,rfl,trivial⟩,⟨rfl,trivial⟩⟩
     ·replace H:=iff_ h20 H
      refine z0l ?_
      exact ⟨(shl_ .i64 x6 6),H,⟨rfl,rfl,rfl,rfl,rfl,rfl,trivial⟩,⟨rfl,trivial⟩⟩
    ·rintro x26 H
     replace H:z9r x26=some q8:=H
     unfold z9r at H
     refine z0b hN rfl ?_
     refine z0a (z3r rfl rfl (by omega)) ?_
     refine qd rfl ?_
     exact ⟨_,z84 H,⟨rfl,rfl,rfl,rfl,rfl,rfl,trivial⟩,⟨rfl,trivial⟩⟩
  ·replace H:=iff_ h5 H
   refine z1u ?_
   replace H:=outl H hq4
   exact ⟨l3,H,⟨rfl,rfl,trivial⟩,⟨rfl,trivial⟩⟩
 ·rintro out27 H
  replace H:y0y s1 out27=some r:=H
  unfold y0y at H
  refine z0c ?_
  refine z0c ?_
  refine x1b 4 1 rfl rfl rfl ?_
  refine z0b hN rfl ?_
  refine qd rfl ?_
  refine z0a (y67 (C:=z5m) y8x tyU5 tyU9 (fun _=>rfl) rfl) ?_
  obtain ⟨r28,h29,H⟩:=bnd H
  refine z0a (z0q (y8z (strN out27) r28 h29) ⟨.inl rfl,trivial⟩) ?_
  refine qd rfl ?_
  refine z0a (z9j rfl rfl) ?_
  refine z0g _ rfl (fun h30 => ?_) (fun h30 => ?_)
  ·replace H:=ift h30 H
   refine z0c ?_
   refine z0b hN rfl ?_
   refine qe rfl ?_
   refine qe rfl ?_
   refine z0m ?_
   cases H
   exact ⟨trivial,.inl rfl,.inl rfl,trivial⟩
  ·replace H:=iff_ h30 H
   refine z0l ?_
   refine z0c ?_
   refine z0b hN rfl ?_
   refine qd rfl ?_
   refine z0a (y67 (C:=z5m) y8x tyU5 tyU9 (fun _=>rfl) rfl) ?_
   refine qe rfl ?_
   refine qe rfl ?_
   refine z0m ?_
   cases H
   exact ⟨trivial,.inl rfl,.inl rfl,trivial⟩
theorem x71 (s1:Bs) (r:((List Bs)×Bool)) (H:y6a s1=some r):Fn Tryz.prog 255 [vstr s1] (z1r [vlst (List.map z0n r.1),z05 r.2]):=by
 refine ⟨by kernel_rfl,z1e (us:=[vlst (List.map z0n r.1),z05 r.2]) Tryz.func255 rfl rfl rfl rfl fun X hN => ?_⟩
 unfold y6a at H
 refine z0c ?_
 refine z0b hN rfl ?_
 refine qe rfl ?_
 refine qe rfl ?_
 refine z0c ?_
 refine z0b hN rfl ?_
 refine qd rfl ?_
 obtain ⟨r2,h3,H⟩:=bnd H
 refine z0a (z0q (y09 s1 [10] r2 h3) ⟨.inl rfl,.inl rfl,trivial⟩) ?_
 refine qe rfl ?_
 refine z0c ?_
 refine z0b hN rfl ?_
 refine qd rfl ?_
 refine z0a (z6r z9p rfl) ?_
 refine z0a (z1c _ rfl rfl (.inr (.inl ⟨rfl,rfl⟩))) ?_
 refine qe rfl ?_
 refine z0c ?_
 refine z0c ?_
 refine z0b hN rfl ?_
 refine qd rfl ?_
 refine qd rfl ?_
 obtain ⟨x4,h5,H⟩:=bnd H
 refine z0a (y25 z9i (fun _=>rfl) rfl rfl h5) ?_
 refine z0a (z0x tyS9 rfl (z2l (z6x h5).2) rfl) ?_
 refine z0a (z6c rfl rfl) ?_
 refine z0g _ rfl (fun h6 => ?_) (fun h6 => ?_)
 ·replace H:=ift h6 H
  refine z0c ?_
  refine z0b hN rfl ?_
  refine qd rfl ?_
  refine qd rfl ?_
  obtain ⟨l7,h8,H⟩:=bnd H
  refine z0a (x1y z9i (fun _=>rfl) rfl rfl rfl h8) ?_
  refine qe rfl ?_
  refine qe rfl ?_
  refine z0m ?_
  cases H
  exact ⟨trivial,.inl rfl,.inl rfl,trivial⟩
 ·replace H:=iff_ h6 H
  refine z0l ?_
  refine z0c ?_
  refine z0b hN rfl ?_
  refine qd rfl ?_
  refine qe rfl ?_
  refine qe rfl ?_
  refine z0m ?_
  cases H
  exact ⟨trivial,.inl rfl,.inl rfl,trivial⟩
theorem y92 (s p:Bs) (r:Bs×Bs×Bool) (H:y1l s p=some r):Fn Tryz.prog 150 [vstr s,vstr p] (z1r [vstr r.1,vstr r.2.1,z05 r.2.2]):=by
 unfold y1l at H
 obtain ⟨h1,h2⟩:=gif H
 cases h2
 refine y2m (by kernel_rfl) fun M w vs hM h => ?_
 have hv:=y49 (us:=[.string ⟨s.toArray⟩,.string ⟨p.toArray⟩]) h
 subst hv
 obtain ⟨m,hm⟩:=y9c hM
 refine (Tryz.strings_Cut ⟨s.toArray⟩ ⟨p.toArray⟩ m w (by simp [ByteArray.size]; omega) hm).mono ?_
 rintro e w' ⟨rfl,n,rfl⟩
 refine ⟨_,rfl,⟨[_,_,_],rfl,rfl,fun j u hj => ?_⟩,⟨rfl,rfl,rfl,Nat.le_refl _,fun _ _ _=>rfl⟩⟩
 rcases j with _ | _ | _ | j
 ·cases hj; exact ⟨_,rfl,rfl⟩
 ·cases hj; exact ⟨_,rfl,rfl⟩
 ·cases hj; exact ⟨_,rfl,rfl⟩
 ·simp at hj

theorem y2c (s1:(List Bs)) (v2:Bs) (r:(Int)) (H:z3f s1 v2=some r):Fn Tryz.prog 132 [vlst (List.map z0n s1),vstr v2] (z1r [vint r]):=by
 refine ⟨by kernel_rfl,z1e (us:=[vint r]) Tryz.func132 rfl rfl rfl rfl fun X hN => ?_⟩
 unfold z3f at H
 refine z0c ?_
 refine z0b hN rfl ?_
 refine qe rfl ?_
 refine z0c ?_
 refine z0c ?_
 refine z0b hN rfl ?_
 refine qd rfl ?_
 refine z0a (z6r z9p rfl) ?_
 refine qd rfl ?_
 refine z0v ?_
 obtain ⟨h5,H⟩:=gif H
 refine z3u (fun (k3:Nat) (s:Unit)=>[(0,.dat (vlst (List.map z0n s1))),(1,.dat (vstr v2)),(7,.dat (vint (s1.length:Int))),(8,.dat (vint (k3:Int)))]) (fun (k3:Nat) (s:Unit)=>[]) () H ⟨rfl,rfl,rfl,rfl,trivial⟩ trivial (fun _ _=>rfl) ?_ ?_
 ·rintro ⟨⟩ H
  replace H:z8o=some r:=H
  unfold z8o at H
  refine z0c ?_
  refine z0b hN rfl ?_
  refine z0a (z04 rfl rfl) ?_
  refine z0c ?_
  refine z0g _ rfl (fun h=>(lt_t h).elim) (fun h => ?_)
  refine z1u ?_
  refine z0c ?_
  refine z0b hN rfl ?_
  refine qe rfl ?_
  refine z0m ?_
  cases H
  exact ⟨trivial,.inl rfl,trivial⟩
 ·rintro k3 x6 ⟨⟩ q4 h7 h8 H hq4
  replace H:z8n v2 k3 x6=some q4:=H
  unfold z8n at H
  refine z0c ?_
  refine z0b hN rfl ?_
  refine z0a (z04 rfl rfl) ?_
  refine z0c ?_
  refine z0g _ rfl (fun h => ?_) (fun h=>(lt_f h7 h).elim)
  refine z0l ?_
  refine z0c ?_
  refine z0v ?_
  refine z0c ?_
  refine z0b hN rfl ?_
  refine qd rfl ?_
  refine qe rfl ?_
  refine z0c ?_
  refine z0b hN rfl ?_
  refine qd rfl ?_
  refine qd rfl ?_
  refine qd rfl ?_
  refine z0a (y0r z9i (fun _=>rfl) rfl rfl h8) ?_
  refine z0a (z0x tyS9 rfl (z2l h8) rfl) ?_
  refine z0a (z6c rfl rfl) ?_
  refine z0g _ rfl (fun h9 => ?_) (fun h9 => ?_)
  ·replace H:=ift h9 H
   refine z0c ?_
   refine z0b hN rfl ?_
   refine qd rfl ?_
   refine qe rfl ?_
   refine z0m ?_
   replace H:=retl H hq4
   cases H
   exact ⟨trivial,.inl rfl,trivial⟩
  ·replace H:=iff_ h9 H
   refine z0l ?_
   refine z0b hN rfl ?_
   refine z0a (z3r rfl rfl (by omega)) ?_
   refine qd rfl ?_
   exact ⟨_,z84 H,⟨rfl,rfl,rfl,rfl,trivial⟩,trivial⟩
theorem z5x (s1:(List Bs)) (v2:Bs) (r:(Bool)) (H:z12 s1 v2=some r):Fn Tryz.prog 62 [vlst (List.map z0n s1),vstr v2] (z1r [z05 r]):=by
 refine ⟨by kernel_rfl,z1e (us:=[z05 r]) Tryz.func62 rfl rfl rfl rfl fun X hN => ?_⟩
 unfold z12 at H
 refine z0c ?_
 refine z0b hN rfl ?_
 refine qe rfl ?_
 refine z0c ?_
 refine z0b hN rfl ?_
 refine qd rfl ?_
 refine qd rfl ?_
 obtain ⟨r3,h4,H⟩:=bnd H
 refine z0a (z0q (y2c s1 v2 r3 h4) ⟨.inl rfl,.inl rfl,trivial⟩) ?_
 refine z0a (z87 rfl rfl) ?_
 refine qe rfl ?_
 refine z0m ?_
 cases H
 exact ⟨trivial,.inl rfl,trivial⟩
theorem x70 (s1:Bs) (r:((List Bs)×Bool)) (H:y59 s1=some r):Fn Tryz.prog 300 [vstr s1] (z1r [vlst (List.map z0n r.1),z05 r.2]):=by
 refine ⟨by kernel_rfl,z1e (us:=[vlst (List.map z0n r.1),z05 r.2]) Tryz.func300 rfl rfl rfl rfl fun X hN => ?_⟩
 unfold y59 at H
 refine z0c ?_
 refine z0b hN rfl ?_
 refine qe rfl ?_
 refine qe rfl ?_
 refine z0c ?_
 refine z0b hN rfl ?_
 refine qd rfl ?_
 obtain ⟨r2,h3,H⟩:=bnd H
 refine z0a (z0q (y09 s1 [32] r2 h3) ⟨.inl rfl,.inl rfl,trivial⟩) ?_
 refine qe rfl ?_
 refine z0c ?_
 refine z0b hN rfl ?_
 refine qd rfl ?_
 refine qd rfl ?_
 obtain ⟨r4,h5,H⟩:=bnd H
 refine z0a (z0q (z5x r2 [] r4 h5) ⟨.inl rfl,.inl rfl,trivial⟩) ?_
 refine z0a (z2j rfl) ?_
 refine qe rfl ?_
 refine qe rfl ?_
 refine z0m ?_
 cases H
 exact ⟨trivial,.inl rfl,.inl rfl,trivial⟩
theorem z9o (s1:z0k) (v2:Bs) (v3:Bool) (r:((List Bs)×z0k)) (H:z1h s1 v2 v3=some r):Imp Tryz.prog 257 225 (z3t s1) [vstr v2,z05 v3] (z1r [vlst (List.map z0n r.1)]) (z3t r.2):=by
 refine y3m (us:=[vlst (List.map z0n r.1)]) (cs':=(z3t r.2)) (by kernel_rfl) Tryz.func257 rfl rfl rfl rfl fun X bl hN => ?_
 unfold z1h at H
 refine z0c ?_
 refine z0b hN rfl ?_
 refine qe rfl ?_
 refine z0c ?_
 refine z0c ?_
 refine z0b hN rfl ?_
 refine z0a (z0h (.ptr _ _) rfl) ?_
 refine z0a (z2o rfl) ?_
 refine z0a (z0r y6i rfl) ?_
 refine z0w (z0o tyS4 rfl rfl) rfl ?_
 refine z0g _ rfl (fun h4 => ?_) (fun h4 => ?_)
 ·replace H:=ift h4 H
  refine z0c ?_
  refine z0b hN rfl ?_
  refine qe rfl ?_
  refine z0m ?_
  cases H
  exact ⟨trivial,⟨.inr ⟨rfl,rfl⟩,trivial⟩,rfl⟩
 ·replace H:=iff_ h4 H
  refine z0l ?_
  refine z0c ?_
  refine z0c ?_
  refine z4k mixed hN rfl rfl ?_
  refine z0a (z0h (.ptr _ _) rfl) ?_
  refine z0a (z2o rfl) ?_
  refine z0a (z0r y4i rfl) ?_
  refine z0w (z0o tyS3 rfl rfl) rfl ?_
  refine z0a (z0h (.ptr _ _) rfl) ?_
  refine z0a (z2o rfl) ?_
  refine z0a (z0r y9q rfl) ?_
  refine z0w (z0o z85 rfl rfl) rfl ?_
  refine z0a (z6r z9p rfl) ?_
  refine z0a (z2z rfl rfl) ?_
  refine ⟨rfl,?_⟩
  refine z0g _ rfl (fun h5 => ?_) (fun h5 => ?_)
  ·replace H:=ift h5 H
   refine z0c ?_
   refine z0b hN rfl ?_
   refine z0a (z0h (.ptr _ _) rfl) ?_
   refine qd rfl ?_
   refine z0a (z2o rfl) ?_
   refine z0a (z0r y6i rfl) ?_
   refine z0j (z15 tyS4 rfl rfl rfl rfl) rfl ?_
   refine z0c ?_
   refine z0b hN rfl ?_
   refine qe rfl ?_
   refine z0m ?_
   cases H
   exact ⟨trivial,⟨.inr ⟨rfl,rfl⟩,trivial⟩,rfl⟩
  ·replace H:=iff_ h5 H
   refine z0l ?_
   refine z0c ?_
   refine z4k mixed hN rfl rfl ?_
   refine z0a (z0h (.ptr _ _) rfl) ?_
   refine z0a (z2o rfl) ?_
   refine z0a (z0r y9q rfl) ?_
   refine z0w (z0o z85 rfl rfl) rfl ?_
   refine z0a (z0h (.ptr _ _) rfl) ?_
   refine z0a (z2o rfl) ?_
   refine z0a (z0r y4i rfl) ?_
   refine z0w (z0o tyS3 rfl rfl) rfl ?_
   obtain ⟨x6,h7,H⟩:=bnd H
   refine z0a (y25 z9i (fun _=>rfl) rfl rfl h7) ?_
   refine z0a (z0x tyS9 rfl (z2l (z6x h7).2) rfl) ?_
   obtain ⟨r8,h9,H⟩:=bnd H
   refine z0a (z0q (y92 x6 [32] r8 h9) ⟨.inl rfl,.inl rfl,trivial⟩) ?_
   refine qd rfl ?_
   refine z0a (z10 rfl rfl) ?_
   refine z0a (z10 rfl rfl) ?_
   refine z0a (z10 rfl rfl) ?_
   refine qe rfl ?_
   refine qe rfl ?_
   refine qe rfl ?_
   refine ⟨rfl,?_⟩
   refine z0c ?_
   refine z0c ?_
   refine z0b hN rfl ?_
   refine qd rfl ?_
   refine qd rfl ?_
   refine z0a (z9j rfl rfl) ?_
   refine z0g _ rfl (fun h10 => ?_) (fun h10 => ?_)
   ·replace H:=ift h10 H
    refine z0c ?_
    refine z0b hN rfl ?_
    refine z0a (z0h (.ptr _ _) rfl) ?_
    refine qd rfl ?_
    refine z0a (z2o rfl) ?_
    refine z0a (z0r y6i rfl) ?_
    refine z0j (z15 tyS4 rfl rfl rfl rfl) rfl ?_
    refine z0c ?_
    refine z0b hN rfl ?_
    refine qe rfl ?_
    refine z0m ?_
    cases H
    exact ⟨trivial,⟨.inr ⟨rfl,rfl⟩,trivial⟩,rfl⟩
   ·replace H:=iff_ h10 H
    refine z0l ?_
    refine z0c ?_
    refine z0b hN rfl ?_
    refine qd rfl ?_
    obtain ⟨r11,h12,H⟩:=bnd H
    refine z0a (z0q (x70 r8.2.1 r11 h12) ⟨.inl rfl,trivial⟩) ?_
    refine qd rfl ?_
    refine z0a (z10 rfl rfl) ?_
    refine z0a (z10 rfl rfl) ?_
    refine qe rfl ?_
    refine qe rfl ?_
    refine z0c ?_
    refine z0c ?_
    refine z4k mixed hN rfl rfl ?_
    refine qd rfl ?_
    refine z0a (z2j rfl) ?_
    refine qd rfl ?_
    refine z2b rfl rfl (fun hc=>z0h (.ptr _ _) rfl) ?_
    refine z2b rfl rfl (fun hc=>z2o (cnd (c:=(!(!r11.2))) hc)) ?_
    refine z2b rfl rfl (fun hc=>z0r x8e (cnd (c:=(!(!r11.2))) hc)) ?_
    refine y1s rfl rfl (fun hc=>z0o tyS4 (cnd (c:=(!(!r11.2))) hc) rfl) rfl x6x ?_
    refine z2b rfl rfl (fun hc=>z2j (cnd (c:=(!(!r11.2))) hc)) ?_
    refine z2b rfl rfl (fun hc=>z0h (.dat _) (cnd (c:=(!(!r11.2))) hc)) ?_
    refine y0n rfl rfl (fun hc=>z0h (.ptr _ _) rfl) ?_
    refine y0n rfl rfl (fun hc=>z2o (cnd (c:=((!(!r11.2)) && (!s1.ended_))) hc)) ?_
    refine y0n rfl rfl (fun hc=>z0r y4i (cnd (c:=((!(!r11.2)) && (!s1.ended_))) hc)) ?_
    refine w1j rfl rfl (fun hc=>z0o tyS3 (cnd (c:=((!(!r11.2)) && (!s1.ended_))) hc) rfl) rfl x6x ?_
    refine y0n rfl rfl (fun hc=>z0h (.ptr _ _) rfl) ?_
    refine y0n rfl rfl (fun hc=>z2o (cnd (c:=((!(!r11.2)) && (!s1.ended_))) hc)) ?_
    refine y0n rfl rfl (fun hc=>z0r y9q (cnd (c:=((!(!r11.2)) && (!s1.ended_))) hc)) ?_
    refine w1j rfl rfl (fun hc=>z0o z85 (cnd (c:=((!(!r11.2)) && (!s1.ended_))) hc) rfl) rfl x6x ?_
    refine y0n rfl rfl (fun hc=>z6r z9p (cnd (c:=((!(!r11.2)) && (!s1.ended_))) hc)) ?_
    refine y0n rfl rfl (fun hc=>z1c _ (cnd (c:=((!(!r11.2)) && (!s1.ended_))) hc) rfl (.inr (.inl ⟨rfl,rfl⟩))) ?_
    refine y0n rfl rfl (fun hc=>z2z (cnd (c:=((!(!r11.2)) && (!s1.ended_))) hc) (cnd (c:=((!(!r11.2)) && (!s1.ended_))) hc)) ?_
    refine z2b rfl rfl (fun hc=>z2c (cnd (c:=(!(!r11.2))) hc) (fun hb=>(cnd (c:=((!(!r11.2)) && (!s1.ended_))) (andI hc hb))) rfl) ?_
    refine z0a (z2h rfl rfl (fun hb=>(cnd (c:=(!(!r11.2))) (notI hb)))) ?_
    refine ⟨rfl,?_⟩
    refine z0g _ rfl (fun h13 => ?_) (fun h13 => ?_)
    ·replace H:=ift h13 H
     refine z0c ?_
     refine z0b hN rfl ?_
     refine z0a (z0h (.ptr _ _) rfl) ?_
     refine z0a (z2o rfl) ?_
     refine z0a (z0r y6i rfl) ?_
     refine z0j (z15 tyS4 rfl rfl rfl rfl) rfl ?_
     refine z0c ?_
     refine z0b hN rfl ?_
     refine qe rfl ?_
     refine z0m ?_
     cases H
     exact ⟨trivial,⟨.inr ⟨rfl,rfl⟩,trivial⟩,rfl⟩
    ·replace H:=iff_ h13 H
     refine z0l ?_
     refine z0c ?_
     refine z0b hN rfl ?_
     refine z0a (z0h (.ptr _ _) rfl) ?_
     refine z0a (z2o rfl) ?_
     refine z0a (z0r y4i rfl) ?_
     refine z0w (z0o tyS3 rfl rfl) rfl ?_
     refine z0a (z1c _ rfl rfl (.inl ⟨rfl,rfl⟩)) ?_
     refine z0a (z2o rfl) ?_
     refine z0a (z0r y4i rfl) ?_
     refine z0j (z15 tyS3 rfl rfl rfl rfl) rfl ?_
     refine z0c ?_
     refine z0b hN rfl ?_
     refine qd rfl ?_
     refine qe rfl ?_
     refine z0m ?_
     cases H
     exact ⟨trivial,⟨.inl rfl,trivial⟩,rfl⟩
theorem z92 (s1:z0k) (word2:Bs) (must3:Bool) (r:(Bs×z0k)) (H:z1g s1 word2 must3=some r):Imp Tryz.prog 256 225 (z3t s1) [vstr word2,z05 must3] (z1r [vstr r.1]) (z3t r.2):=by
 refine y3m (us:=[vstr r.1]) (cs':=(z3t r.2)) (by kernel_rfl) Tryz.func256 rfl rfl rfl rfl fun X bl hN => ?_
 unfold z1g at H
 refine z0c ?_
 refine z0b hN rfl ?_
 refine qe rfl ?_
 refine z0c ?_
 refine z0b hN rfl ?_
 refine z0a (z0h (.ptr _ _) rfl) ?_
 refine qd rfl ?_
 refine qd rfl ?_
 obtain ⟨r4,h5,H⟩:=bnd H
 refine z0j (z1f (z9o s1 word2 must3 r4 h5) rfl ⟨.inl rfl,.inl rfl,trivial⟩ rfl) rfl ?_
 refine qe rfl ?_
 refine z03 (ι:=Int×Bool) (fun i=>[(7,.dat (vlst (List.map z0n r4.1)))]) (fun i=>[(0,.box (some bl) 225 [.dat (vlst (List.map z0n r4.2.lines_)),.dat (z05 r4.2.ended_),.dat (vint i.1),.dat (z05 i.2)])]) (fun i=>z5y r4 i.1 i.2=some r) (fun i=>rfl) ?_ ?_
 ·skip
  refine z0c ?_
  refine z0b hN rfl ?_
  refine qd rfl ?_
  refine z0a (z6r z9p rfl) ?_
  refine z0a (z2m rfl rfl) ?_
  refine z0g _ rfl (fun h6 => ?_) (fun h6 => ?_)
  ·replace H:=ift h6 H
   refine z0c ?_
   refine z0b hN rfl ?_
   refine z0a (z0h (.ptr _ _) rfl) ?_
   refine z0a (z2o rfl) ?_
   refine z0a (z0r y6i rfl) ?_
   refine z0j (z15 tyS4 rfl rfl rfl rfl) rfl ?_
   refine z0b hN rfl ?_
   refine z0a (z0h (.ptr _ _) rfl) ?_
   refine z0a (z2o rfl) ?_
   refine z0a (z0r y4i rfl) ?_
   refine z0w (z0o tyS3 rfl rfl) rfl ?_
   refine z0a (z1c _ rfl rfl (.inr (.inl ⟨rfl,rfl⟩))) ?_
   refine z0a (z2o rfl) ?_
   refine z0a (z0r y4i rfl) ?_
   refine z0j (z15 tyS3 rfl rfl rfl rfl) rfl ?_
   exact ⟨(wr (r4.2.at_ - 1),true),H,⟨rfl,trivial⟩,⟨rfl,trivial⟩⟩
  ·replace H:=iff_ h6 H
   refine z0l ?_
   exact ⟨(r4.2.at_,r4.2.bad_),H,⟨rfl,trivial⟩,⟨rfl,trivial⟩⟩
 ·rintro ⟨c7,c8⟩ H
  replace H:z5y r4 c7 c8=some r:=H
  unfold z5y at H
  refine z0c ?_
  refine z0c ?_
  refine z0b hN rfl ?_
  refine qd rfl ?_
  refine z0a (z6r z9p rfl) ?_
  refine z0a (z48 rfl rfl) ?_
  refine z0g _ rfl (fun h9 => ?_) (fun h9 => ?_)
  ·replace H:=ift h9 H
   refine z0c ?_
   refine z0b hN rfl ?_
   refine qe rfl ?_
   refine z0m ?_
   cases H
   exact ⟨trivial,⟨.inl rfl,trivial⟩,rfl⟩
  ·replace H:=iff_ h9 H
   refine z0l ?_
   refine z0c ?_
   refine z0b hN rfl ?_
   refine qd rfl ?_
   obtain ⟨x10,h11,H⟩:=bnd H
   refine z0a (y0r z9i (fun _=>rfl) rfl rfl h11) ?_
   refine z0a (z0x tyS9 rfl (z2l h11) rfl) ?_
   refine qe rfl ?_
   refine z0m ?_
   cases H
   exact ⟨trivial,⟨.inl rfl,trivial⟩,rfl⟩
theorem y5x (s p:Bs) (r:Bs) (H:z8k s p=some r):Fn Tryz.prog 211 [vstr s,vstr p] (z1r [vstr r]):=by
 unfold z8k at H
 cases H
 refine y2m (by kernel_rfl) fun M w vs hM h => ?_
 have hv:=y49 (us:=[.string ⟨s.toArray⟩,.string ⟨p.toArray⟩]) h
 subst hv
 refine (Tryz.strings_TrimPrefix ⟨s.toArray⟩ ⟨p.toArray⟩ w).mono ?_
 rintro e w' ⟨rfl,rfl⟩
 exact ⟨_,rfl,rfl,Kp.refl _ _⟩

theorem y7q (v1:Bs) (r:(Int×Int)) (H:z5b v1=some r):Fn Tryz.prog 271 [vstr v1] (z1r [vint r.1,verr r.2]):=by
 refine ⟨by kernel_rfl,z1e (us:=[vint r.1,verr r.2]) Tryz.func271 rfl rfl rfl rfl fun X hN => ?_⟩
 unfold z5b at H
 refine z0c ?_
 refine z0b hN rfl ?_
 refine qe rfl ?_
 refine qe rfl ?_
 refine z0c ?_
 refine z0b hN rfl ?_
 refine qd rfl ?_
 refine z0a (z1m tyU9 rfl) ?_
 refine qe rfl ?_
 refine z0c ?_
 refine z0c ?_
 refine z0b hN rfl ?_
 refine qd rfl ?_
 refine z57 (s := .dat (vint (v1.length:Int))) rfl rfl (fun hc=>z0h (.dat _) rfl) ?_
 refine z57 (s := .dat (z05 (decide (0 < (v1.length:Int))))) rfl rfl (fun hc=>z04 rfl (cnd (c:=false) (s := .dat (vint (v1.length:Int))) hc)) ?_
 refine z57 (s := .dat (z05 (decide (0 < (v1.length:Int))))) rfl rfl (fun hc=>z0h (.dat _) (cnd (c:=false) (s := .dat (z05 (decide (0 < (v1.length:Int))))) hc)) ?_
 refine y0n (s := .dat (vint (v1.length:Int))) (c:=false) (b:=decide (0 < (v1.length:Int))) rfl rfl (fun hc=>z0h (.dat _) rfl) ?_
 refine y0n (s := .dat (z05 (decide ((v1.length:Int) < 10)))) (c:=false) (b:=decide (0 < (v1.length:Int))) rfl rfl (fun hc=>z04 (cnd (c:=(false && (decide (0 < (v1.length:Int))))) (s := .dat (vint (v1.length:Int))) hc) rfl) ?_
 refine z57 (s := .dat (z05 ((decide (0 < (v1.length:Int))) && (decide ((v1.length:Int) < 10))))) rfl rfl (fun hc=>z2c (cnd (c:=false) (s := .dat (z05 (decide (0 < (v1.length:Int))))) hc) (fun hb=>(cnd (c:=(false && (decide (0 < (v1.length:Int))))) (s := .dat (z05 (decide ((v1.length:Int) < 10)))) (andI hc hb))) rfl) ?_
 refine z0a (z2c rfl (fun hb=>(cnd (c:=false) (s := .dat (z05 ((decide (0 < (v1.length:Int))) && (decide ((v1.length:Int) < 10))))) hb)) rfl) ?_
 refine qd rfl ?_
 refine z2b (s := .dat (z05 true)) rfl rfl (fun hc=>z0h (.dat _) rfl) ?_
 refine y0n (s := .dat (vint (v1.length:Int))) (c:=(!(false && ((decide (0 < (v1.length:Int))) && (decide ((v1.length:Int) < 10)))))) (b:=true) rfl rfl (fun hc=>z0h (.dat _) rfl) ?_
 refine y0n (s := .dat (z05 (decide (0 < (v1.length:Int))))) (c:=(!(false && ((decide (0 < (v1.length:Int))) && (decide ((v1.length:Int) < 10)))))) (b:=true) rfl rfl (fun hc=>z04 rfl (cnd (c:=((!(false && ((decide (0 < (v1.length:Int))) && (decide ((v1.length:Int) < 10))))) && true)) (s := .dat (vint (v1.length:Int))) hc)) ?_
 refine y0n (s := .dat (z05 (decide (0 < (v1.length:Int))))) (c:=(!(false && ((decide (0 < (v1.length:Int))) && (decide ((v1.length:Int) < 10)))))) (b:=true) rfl rfl (fun hc=>z0h (.dat _) (cnd (c:=((!(false && ((decide (0 < (v1.length:Int))) && (decide ((v1.length:Int) < 10))))) && true)) (s := .dat (z05 (decide (0 < (v1.length:Int))))) hc)) ?_
 refine y0n (s := .dat (vint (v1.length:Int))) (c:=((!(false && ((decide (0 < (v1.length:Int))) && (decide ((v1.length:Int) < 10))))) && true)) (b:=decide (0 < (v1.length:Int))) rfl rfl (fun hc=>z0h (.dat _) rfl) ?_
 refine y0n (s := .dat (z05 (decide ((v1.length:Int) < 19)))) (c:=((!(false && ((decide (0 < (v1.length:Int))) && (decide ((v1.length:Int) < 10))))) && true)) (b:=decide (0 < (v1.length:Int))) rfl rfl (fun hc=>z04 (cnd (c:=(((!(false && ((decide (0 < (v1.length:Int))) && (decide ((v1.length:Int) < 10))))) && true) && (decide (0 < (v1.length:Int))))) (s := .dat (vint (v1.length:Int))) hc) rfl) ?_
 refine y0n (s := .dat (z05 ((decide (0 < (v1.length:Int))) && (decide ((v1.length:Int) < 19))))) (c:=(!(false && ((decide (0 < (v1.length:Int))) && (decide ((v1.length:Int) < 10)))))) (b:=true) rfl rfl (fun hc=>z2c (cnd (c:=((!(false && ((decide (0 < (v1.length:Int))) && (decide ((v1.length:Int) < 10))))) && true)) (s := .dat (z05 (decide (0 < (v1.length:Int))))) hc) (fun hb=>(cnd (c:=(((!(false && ((decide (0 < (v1.length:Int))) && (decide ((v1.length:Int) < 10))))) && true) && (decide (0 < (v1.length:Int))))) (s := .dat (z05 (decide ((v1.length:Int) < 19)))) (andI hc hb))) rfl) ?_
 refine z2b (s := .dat (z05 (true && ((decide (0 < (v1.length:Int))) && (decide ((v1.length:Int) < 19)))))) rfl rfl (fun hc=>z2c (cnd (c:=(!(false && ((decide (0 < (v1.length:Int))) && (decide ((v1.length:Int) < 10)))))) (s := .dat (z05 true)) hc) (fun hb=>(cnd (c:=((!(false && ((decide (0 < (v1.length:Int))) && (decide ((v1.length:Int) < 10))))) && true)) (s := .dat (z05 ((decide (0 < (v1.length:Int))) && (decide ((v1.length:Int) < 19))))) (andI hc hb))) rfl) ?_
 refine z0a (z2h rfl rfl (fun hb=>(cnd (c:=(!(false && ((decide (0 < (v1.length:Int))) && (decide ((v1.length:Int) < 10)))))) (s := .dat (z05 (true && ((decide (0 < (v1.length:Int))) && (decide ((v1.length:Int) < 19)))))) (notI hb)))) ?_
 refine z0g _ rfl (fun h2 => ?_) (fun h2 => ?_)
 ·replace H:=ift h2 H
  refine z0c ?_
  refine z0b hN rfl ?_
  refine qd rfl ?_
  refine qe rfl ?_
  refine z03 (ι:=Bs) (fun i=>[(0,.dat (vstr i)),(5,.dat (vstr v1))]) (fun i=>[]) (fun i=>z4s v1 i=some r) (fun i=>rfl) ?_ ?_
  ·skip
   refine z03 (ι:=Bool) (fun i=>[(0,.dat (vstr v1)),(5,.dat (vstr v1)),(39,.dat (z05 i))]) (fun i=>[]) (fun i=>z4r v1 i=some r) (fun i=>rfl) ?_ ?_
   ·skip
    refine z0b hN rfl ?_
    refine qd rfl ?_
    obtain ⟨x3,h4,H⟩:=bnd H
    refine z0a (y00 tyU9 rfl rfl h4) ?_
    refine z0a (z2z rfl rfl) ?_
    refine qd rfl ?_
    refine z09 (j:=3) rfl rfl (fun h5 => ?_) (fun h5 => ?_) rfl
    ·have h6:=un3 h5
     replace H:=iff_ h6 H
     refine z0p rfl rfl h5 (z0h (.dat _) rfl) ?_
     refine z0p rfl rfl h5 (y00 tyU9 rfl rfl h4) ?_
     refine z0p rfl rfl h5 (z2z rfl rfl) ?_
     refine z0a (z0z rfl (bFF h6) rfl) ?_
     exact ⟨decide ((x3.toNat:Int)=43),H,⟨rfl,rfl,rfl,trivial⟩,trivial⟩
    ·have h7:=un4 h5
     replace H:=ift h7 H
     refine z0f rfl rfl h5 ?_
     refine z0f rfl rfl h5 ?_
     refine z0f rfl rfl h5 ?_
     refine z0a (z00 rfl (bTT h7) rfl) ?_
     exact ⟨true,H,⟨rfl,rfl,rfl,trivial⟩,trivial⟩
   ·rintro v8 H
    replace H:z4r v1 v8=some r:=H
    unfold z4r at H
    refine z0g _ rfl (fun h9 => ?_) (fun h9 => ?_)
    ·replace H:=ift h9 H
     refine z0c ?_
     refine z0b hN rfl ?_
     refine qd rfl ?_
     obtain ⟨l10,h11,H⟩:=bnd H
     refine z0a (y14 tyU9 rfl rfl rfl h11) ?_
     refine qe rfl ?_
     refine z0c ?_
     refine z0b hN rfl ?_
     refine qd rfl ?_
     refine z0a (z1m tyU9 rfl) ?_
     refine z0a (z04 rfl rfl) ?_
     refine z0g _ rfl (fun h12 => ?_) (fun h12 => ?_)
     ·replace H:=ift h12 H
      refine z0c ?_
      refine z0b hN rfl ?_
      refine z0a (z1a (u':=verr 2) (y1j (show Tryz.prog.underlying 215=some (.int .i64) from by kernel_rfl) rfl) rfl) ?_
      refine qe rfl ?_
      refine qe rfl ?_
      refine z0m ?_
      cases H
      exact ⟨trivial,.inl rfl,.inl rfl,trivial⟩
     ·replace H:=iff_ h12 H
      refine z0l ?_
      exact ⟨l10,H,⟨rfl,rfl,trivial⟩,trivial⟩
    ·replace H:=iff_ h9 H
     refine z0l ?_
     exact ⟨v1,H,⟨rfl,rfl,trivial⟩,trivial⟩
  ·rintro v13 H
   replace H:z4s v1 v13=some r:=H
   unfold z4s at H
   refine z0c ?_
   refine z0b hN rfl ?_
   refine qe rfl ?_
   refine z0c ?_
   refine z0c ?_
   refine z0b hN rfl ?_
   refine qd rfl ?_
   refine z0a (x2b (C:=z5m) tyU9 y8x tyU5 (fun _=>rfl) rfl) ?_
   refine z0a (z6r y8x rfl) ?_
   refine qd rfl ?_
   refine z0v ?_
   obtain ⟨h17,H⟩:=gif H
   refine z3u (fun (k15:Nat) (s:Int)=>[(5,.dat (vstr v1)),(6,.dat (vint s)),(47,.dat (vlst (List.map z5m (y2o v13)))),(48,.dat (vint ((y2o v13).length:Int))),(49,.dat (vint (k15:Int)))]) (fun (k15:Nat) (s:Int)=>[]) 0 H ⟨rfl,rfl,rfl,rfl,rfl,trivial⟩ trivial (fun _ _=>rfl) ?_ ?_
   ·rintro v14 H
    replace H:z4t v1 v14=some r:=H
    unfold z4t at H
    refine z0c ?_
    refine z0b hN rfl ?_
    refine z0a (z04 rfl rfl) ?_
    refine z0c ?_
    refine z0g _ rfl (fun h=>(lt_t h).elim) (fun h => ?_)
    refine z1u ?_
    refine z03 (ι:=Int) (fun i=>[(6,.dat (vint i))]) (fun i=>[]) (fun i=>z4q i=some r) (fun i=>rfl) ?_ ?_
    ·skip
     refine z0c ?_
     refine z0b hN rfl ?_
     refine qd rfl ?_
     obtain ⟨x19,h20,H⟩:=bnd H
     refine z0a (y00 tyU9 rfl rfl h20) ?_
     refine z0a (z2z rfl rfl) ?_
     refine z0g _ rfl (fun h21 => ?_) (fun h21 => ?_)
     ·replace H:=ift h21 H
      refine z0b hN rfl ?_
      refine qd rfl ?_
      obtain ⟨h22,H⟩:=gif H
      refine z0a (x7e rfl h22) ?_
      refine qe rfl ?_
      exact ⟨(-v14),H,⟨rfl,trivial⟩,trivial⟩
     ·replace H:=iff_ h21 H
      refine z0l ?_
      exact ⟨v14,H,⟨rfl,trivial⟩,trivial⟩
    ·rintro v23 H
     replace H:z4q v23=some r:=H
     unfold z4q at H
     refine z0c ?_
     refine z0b hN rfl ?_
     refine qd rfl ?_
     refine qe rfl ?_
     refine qe rfl ?_
     refine z0m ?_
     cases H
     exact ⟨trivial,.inl rfl,.inl rfl,trivial⟩
   ·rintro k15 x18 v14 q16 h24 h25 H hq16
    replace H:z6k k15 x18 v14=some q16:=H
    unfold z6k at H
    refine z0c ?_
    refine z0b hN rfl ?_
    refine z0a (z04 rfl rfl) ?_
    refine z0c ?_
    refine z0g _ rfl (fun h => ?_) (fun h=>(lt_f h24 h).elim)
    refine z0l ?_
    refine z0c ?_
    refine z0v ?_
    refine z0c ?_
    refine z0b hN rfl ?_
    refine z0a (y0r w54 (fun _=>rfl) rfl rfl h25) ?_
    refine z0a (z0x tyS5 rfl (z2l h25) rfl) ?_
    refine qe rfl ?_
    refine z0c ?_
    refine z0b hN rfl ?_
    refine qd rfl ?_
    refine z0a (z1c _ rfl rfl (.inr (.inl ⟨rfl,rfl⟩))) ?_
    refine qe rfl ?_
    refine z0c ?_
    refine z0c ?_
    refine z0b hN rfl ?_
    refine qd rfl ?_
    refine z0a (z2m rfl rfl) ?_
    refine z0g _ rfl (fun h26 => ?_) (fun h26 => ?_)
    ·replace H:=ift h26 H
     refine z0c ?_
     refine z0b hN rfl ?_
     refine z0a (z1a (u':=verr 2) (y1j (show Tryz.prog.underlying 215=some (.int .i64) from by kernel_rfl) rfl) rfl) ?_
     refine qe rfl ?_
     refine qe rfl ?_
     refine z0m ?_
     replace H:=retl H hq16
     cases H
     exact ⟨trivial,.inl rfl,.inl rfl,trivial⟩
    ·replace H:=iff_ h26 H
     refine z0l ?_
     refine z0b hN rfl ?_
     refine qd rfl ?_
     refine z0a (z1c _ rfl rfl (.inr (.inr ⟨rfl,rfl⟩))) ?_
     refine qd rfl ?_
     refine z0a (z7f tyU5 tyU3 rfl) ?_
     refine z0a (z1c _ rfl rfl (.inl ⟨rfl,rfl⟩)) ?_
     refine qe rfl ?_
     refine z0b hN rfl ?_
     refine z0a (z3r rfl rfl (by omega)) ?_
     refine qd rfl ?_
     exact ⟨_,z84 H,⟨rfl,rfl,rfl,rfl,rfl,trivial⟩,trivial⟩
 ·replace H:=iff_ h2 H
  refine z0l ?_
  refine z0c ?_
  refine z0b hN rfl ?_
  refine qd rfl ?_
  obtain ⟨r27,h28,H⟩:=bnd H
  refine z0a (z0q (y3l v1 10 0 r27 h28) ⟨.inl rfl,.inl rfl,.inl rfl,trivial⟩) ?_
  refine qd rfl ?_
  refine z0a (z10 rfl rfl) ?_
  refine z0a (z10 rfl rfl) ?_
  refine qe rfl ?_
  refine qe rfl ?_
  refine z0c ?_
  refine z0b hN rfl ?_
  refine qd rfl ?_
  refine qd rfl ?_
  refine qe rfl ?_
  refine qe rfl ?_
  refine z0m ?_
  cases H
  exact ⟨trivial,.inl rfl,.inl rfl,trivial⟩
theorem y80 (s1:Bs) (r:(Int×Int)) (H:z9l s1=some r):Fn Tryz.prog 212 [vstr s1] (z1r [vint r.1,verr r.2]):=by
 refine ⟨by kernel_rfl,z1e (us:=[vint r.1,verr r.2]) Tryz.func212 rfl rfl rfl rfl fun X hN => ?_⟩
 unfold z9l at H
 refine z0c ?_
 refine z0b hN rfl ?_
 refine qe rfl ?_
 refine qe rfl ?_
 refine z0c ?_
 refine z0b hN rfl ?_
 refine qd rfl ?_
 obtain ⟨r2,h3,H⟩:=bnd H
 refine z0a (z0q (y7q s1 r2 h3) ⟨.inl rfl,trivial⟩) ?_
 refine qd rfl ?_
 refine z0a (z10 rfl rfl) ?_
 refine z0a (z10 rfl rfl) ?_
 refine qe rfl ?_
 refine qe rfl ?_
 refine z0c ?_
 refine z0c ?_
 refine z0b hN rfl ?_
 refine qd rfl ?_
 refine z0a (x0d (n:=r2.2) (show Tryz.prog.underlying 135=some (.interface (Tryz.prog.methodsAt 135)) from by kernel_rfl) rfl) ?_
 refine z0g _ rfl (fun h4 => ?_) (fun h4 => ?_)
 ·replace H:=ift h4 H
  refine z0c ?_
  refine z0b hN rfl ?_
  refine qd rfl ?_
  refine qd rfl ?_
  refine qd rfl ?_
  obtain ⟨r5,h6,H⟩:=bnd H
  refine z0a (z0q (y7a [65,116,111,105] s1 0 0 r2.2 r5 h6) ⟨.inl rfl,.inl rfl,.inl rfl,.inl rfl,.inl rfl,trivial⟩) ?_
  refine qe rfl ?_
  refine qe rfl ?_
  refine z0m ?_
  cases H
  exact ⟨trivial,.inl rfl,.inl rfl,trivial⟩
 ·replace H:=iff_ h4 H
  refine z0l ?_
  refine z0c ?_
  refine z0b hN rfl ?_
  refine qd rfl ?_
  refine qe rfl ?_
  refine qe rfl ?_
  refine z0m ?_
  cases H
  exact ⟨trivial,.inl rfl,.inl rfl,trivial⟩
theorem x0y (s1:Bs) (most2:Int) (r:(Int×Bool)) (H:y2l s1 most2=some r):Fn Tryz.prog 268 [vstr s1,vint most2] (z1r [vint r.1,z05 r.2]):=by
 refine ⟨by kernel_rfl,z1e (us:=[vint r.1,z05 r.2]) Tryz.func268 rfl rfl rfl rfl fun X hN => ?_⟩
 unfold y2l at H
 refine z0c ?_
 refine z0b hN rfl ?_
 refine qe rfl ?_
 refine qe rfl ?_
 refine z0c ?_
 refine z0b hN rfl ?_
 refine qd rfl ?_
 obtain ⟨r3,h4,H⟩:=bnd H
 refine z0a (z0q (y5x s1 [45] r3 h4) ⟨.inl rfl,.inl rfl,trivial⟩) ?_
 refine qe rfl ?_
 refine z0c ?_
 refine z03 (ι:=Bool) (fun i=>[(0,.dat (vstr s1)),(6,.dat (vstr r3)),(28,.dat (z05 i))]) (fun i=>[]) (fun i=>z6f s1 r3 i=some r) (fun i=>rfl) ?_ ?_
 ·skip
  refine z0b hN rfl ?_
  refine qd rfl ?_
  refine z0a (z6c rfl rfl) ?_
  refine qd rfl ?_
  refine z09 (j:=2) rfl rfl (fun h5 => ?_) (fun h5 => ?_) rfl
  ·have h6:=un3 h5
   replace H:=iff_ h6 H
   refine z0p rfl rfl h5 (z0h (.dat _) rfl) ?_
   refine z0p rfl rfl h5 (z1m tyU9 rfl) ?_
   refine z0p rfl rfl h5 (z0h (.dat _) rfl) ?_
   refine z0p rfl rfl h5 (z2m rfl rfl) ?_
   refine z0a (z0z rfl (bFF h6) rfl) ?_
   refine qd rfl ?_
   refine z09 (j:=8) rfl rfl (fun h7 => ?_) (fun h7 => ?_) rfl
   ·have h8:=un3 h7
    replace H:=iff_ h8 H
    refine z0p rfl rfl h7 (z0h (.dat _) rfl) ?_
    obtain ⟨x9,h10,H⟩:=bnd H
    refine z0p rfl rfl h7 (y00 tyU9 rfl rfl h10) ?_
    refine z0p rfl rfl h7 (z2z rfl rfl) ?_
    refine z0p rfl rfl h7 (z0h (.dat _) rfl) ?_
    refine z09 (j:=12) rfl rfl (fun h11 => ?_) (fun h11 => ?_) rfl
    ·have h12:=un1 h11
     replace H:=ift h12 H
     refine z0p rfl rfl h11 (z0h (.dat _) rfl) ?_
     refine z0p rfl rfl h11 (z9j rfl rfl) ?_
     refine z0p rfl rfl h7 (z00 rfl (bTT h12) rfl) ?_
     refine z0a (z0z rfl (bFF h8) rfl) ?_
     exact ⟨decide (s1≠[48]),H,⟨rfl,rfl,rfl,trivial⟩,trivial⟩
    ·have h13:=un2 h11
     replace H:=iff_ h13 H
     refine z0f rfl rfl h11 ?_
     refine z0f rfl rfl h11 ?_
     refine z0p rfl rfl h7 (z0z rfl (bFF h13) rfl) ?_
     refine z0a (z0z rfl (bFF h8) rfl) ?_
     exact ⟨false,H,⟨rfl,rfl,rfl,trivial⟩,trivial⟩
   ·have h14:=un4 h7
    replace H:=ift h14 H
    refine z0f rfl rfl h7 ?_
    refine z0f rfl rfl h7 ?_
    refine z0f rfl rfl h7 ?_
    refine z0f rfl rfl h7 ?_
    refine z01 rfl rfl ?_
    refine z01 rfl rfl ?_
    refine z0f rfl rfl h7 ?_
    refine z0a (z00 rfl (bTT h14) rfl) ?_
    exact ⟨true,H,⟨rfl,rfl,rfl,trivial⟩,trivial⟩
  ·have h15:=un4 h5
   replace H:=ift h15 H
   refine z0f rfl rfl h5 ?_
   refine z0f rfl rfl h5 ?_
   refine z0f rfl rfl h5 ?_
   refine z0f rfl rfl h5 ?_
   refine z0a (z00 rfl (bTT h15) rfl) ?_
   refine qd rfl ?_
   refine z0f rfl rfl rfl ?_
   refine z0f rfl rfl rfl ?_
   refine z0f rfl rfl rfl ?_
   refine z0f rfl rfl rfl ?_
   refine z01 rfl rfl ?_
   refine z01 rfl rfl ?_
   refine z0f rfl rfl rfl ?_
   refine z0a (z00 rfl rfl rfl) ?_
   exact ⟨true,H,⟨rfl,rfl,rfl,trivial⟩,trivial⟩
 ·rintro v16 H
  replace H:z6f s1 r3 v16=some r:=H
  unfold z6f at H
  refine z0g _ rfl (fun h17 => ?_) (fun h17 => ?_)
  ·replace H:=ift h17 H
   refine z0c ?_
   refine z0b hN rfl ?_
   refine qe rfl ?_
   refine qe rfl ?_
   refine z0m ?_
   cases H
   exact ⟨trivial,.inl rfl,.inl rfl,trivial⟩
  ·replace H:=iff_ h17 H
   refine z0l ?_
   refine z0c ?_
   refine z0c ?_
   refine z0b hN rfl ?_
   refine qe rfl ?_
   refine z0v ?_
   obtain ⟨h20,H⟩:=gif H
   refine z3u (fun (i18:Nat) (s:Unit)=>[(0,.dat (vstr s1)),(6,.dat (vstr r3)),(7,.dat (vint (i18:Int)))]) (fun (i18:Nat) (s:Unit)=>[]) () H ⟨rfl,rfl,rfl,trivial⟩ trivial (fun _ _=>rfl) ?_ ?_
   ·rintro ⟨⟩ H
    replace H:y3s s1=some r:=H
    unfold y3s at H
    refine z0c ?_
    refine z0c ?_
    refine z0b hN rfl ?_
    refine qd rfl ?_
    refine qd rfl ?_
    refine z0a (z1m tyU9 rfl) ?_
    refine z0a (z04 rfl rfl) ?_
    refine z0g _ rfl (fun h=>(lt_t h).elim) (fun h => ?_)
    refine z1u ?_
    refine z0c ?_
    refine z0b hN rfl ?_
    refine qd rfl ?_
    obtain ⟨r22,h23,H⟩:=bnd H
    refine z0a (z0q (y80 s1 r22 h23) ⟨.inl rfl,trivial⟩) ?_
    refine qd rfl ?_
    refine z0a (z10 rfl rfl) ?_
    refine z0a (z10 rfl rfl) ?_
    refine qe rfl ?_
    refine qe rfl ?_
    refine z0c ?_
    refine z4k mixed hN rfl rfl ?_
    refine qd rfl ?_
    refine qd rfl ?_
    refine z0a (x3t (n:=r22.2) (show Tryz.prog.underlying 135=some (.interface (Tryz.prog.methodsAt 135)) from by kernel_rfl) rfl) ?_
    refine qe rfl ?_
    refine qe rfl ?_
    refine ⟨rfl,?_⟩
    refine z0m ?_
    cases H
    exact ⟨trivial,.inl rfl,.inl rfl,trivial⟩
   ·rintro i18 x21 ⟨⟩ q19 h24 h25 H hq19
    replace H:y4q i18 x21=some q19:=H
    unfold y4q at H
    refine z0c ?_
    refine z0c ?_
    refine z0b hN rfl ?_
    refine qd rfl ?_
    refine qd rfl ?_
    refine z0a (z1m tyU9 rfl) ?_
    refine z0a (z04 rfl rfl) ?_
    refine z0g _ rfl (fun h => ?_) (fun h=>(lt_f h24 h).elim)
    refine z0l ?_
    refine z0c ?_
    refine z0v ?_
    refine z03 (ι:=Bool) (fun i=>[(0,.dat (vstr s1)),(6,.dat (vstr r3)),(7,.dat (vint (i18:Int))),(44,.dat (z05 i))]) (fun i=>[]) (fun i=>y4r i=some q19) (fun i=>rfl) ?_ ?_
    ·skip
     refine z0b hN rfl ?_
     refine qd rfl ?_
     refine qd rfl ?_
     refine z0a (y00 tyU9 rfl rfl h25) ?_
     refine z0a (z04 rfl rfl) ?_
     refine qd rfl ?_
     refine z09 (j:=4) rfl rfl (fun h26 => ?_) (fun h26 => ?_) rfl
     ·have h27:=un3 h26
      replace H:=iff_ h27 H
      refine z0p rfl rfl h26 (z0h (.dat _) rfl) ?_
      refine z0p rfl rfl h26 (z0h (.dat _) rfl) ?_
      refine z0p rfl rfl h26 (y00 tyU9 rfl rfl h25) ?_
      refine z0p rfl rfl h26 (z2m rfl rfl) ?_
      refine z0a (z0z rfl (bFF h27) rfl) ?_
      exact ⟨decide (57 < (x21.toNat:Int)),H,⟨rfl,rfl,rfl,rfl,trivial⟩,trivial⟩
     ·have h28:=un4 h26
      replace H:=ift h28 H
      refine z0f rfl rfl h26 ?_
      refine z0f rfl rfl h26 ?_
      refine z0f rfl rfl h26 ?_
      refine z0f rfl rfl h26 ?_
      refine z0a (z00 rfl (bTT h28) rfl) ?_
      exact ⟨true,H,⟨rfl,rfl,rfl,rfl,trivial⟩,trivial⟩
    ·rintro v29 H
     replace H:y4r v29=some q19:=H
     unfold y4r at H
     refine z0g _ rfl (fun h30 => ?_) (fun h30 => ?_)
     ·replace H:=ift h30 H
      refine z0c ?_
      refine z0b hN rfl ?_
      refine qe rfl ?_
      refine qe rfl ?_
      refine z0m ?_
      replace H:=retl H hq19
      cases H
      exact ⟨trivial,.inl rfl,.inl rfl,trivial⟩
     ·replace H:=iff_ h30 H
      refine z0l ?_
      refine z0b hN rfl ?_
      refine qd rfl ?_
      refine z0a (z3r rfl rfl (by omega)) ?_
      refine qe rfl ?_
      exact ⟨_,z84 H,⟨rfl,rfl,rfl,trivial⟩,trivial⟩
theorem y6v (s1:z0k) (r:(Int×Int×z0k)) (H:z2p s1=some r):Imp Tryz.prog 258 225 (z3t s1) [] (z1r [vint r.1,vint r.2.1]) (z3t r.2.2):=by
 refine y3m (us:=[vint r.1,vint r.2.1]) (cs':=(z3t r.2.2)) (by kernel_rfl) Tryz.func258 rfl rfl rfl rfl fun X bl hN => ?_
 unfold z2p at H
 refine z0c ?_
 refine z0b hN rfl ?_
 refine qe rfl ?_
 refine qe rfl ?_
 refine z0c ?_
 refine z0b hN rfl ?_
 refine z0a (z0h (.ptr _ _) rfl) ?_
 obtain ⟨r2,h3,H⟩:=bnd H
 refine z0j (z1f (z9o s1 [116,105,109,101] true r2 h3) rfl ⟨.inl rfl,.inl rfl,trivial⟩ rfl) rfl ?_
 refine qe rfl ?_
 refine z0c ?_
 refine z0c ?_
 refine z0b hN rfl ?_
 refine z0a (z0h (.ptr _ _) rfl) ?_
 refine z0a (z2o rfl) ?_
 refine z0a (z0r y6i rfl) ?_
 refine z0w (z0o tyS4 rfl rfl) rfl ?_
 refine z0g _ rfl (fun h4 => ?_) (fun h4 => ?_)
 ·replace H:=ift h4 H
  refine z0c ?_
  refine z0b hN rfl ?_
  refine qe rfl ?_
  refine qe rfl ?_
  refine z0m ?_
  cases H
  exact ⟨trivial,⟨.inl rfl,.inl rfl,trivial⟩,rfl⟩
 ·replace H:=iff_ h4 H
  refine z0l ?_
  refine z03 (ι:=Unit) (fun i=>[(0,.ptr 0 0)]) (fun i=>[(0,.box (some bl) 225 [.dat (vlst (List.map z0n r2.2.lines_)),.dat (z05 r2.2.ended_),.dat (vint r2.2.at_),.dat (z05 r2.2.bad_)])]) (fun i=>z3v r2=some r) (fun i=>rfl) ?_ ?_
  ·skip
   refine z0c ?_
   refine z0b hN rfl ?_
   refine qd rfl ?_
   refine z0a (z6r z9p rfl) ?_
   refine z0a (z2z rfl rfl) ?_
   refine z0g _ rfl (fun h5 => ?_) (fun h5 => ?_)
   ·replace H:=ift h5 H
    refine z0c ?_
    refine z0b hN rfl ?_
    refine qd rfl ?_
    obtain ⟨x6,h7,H⟩:=bnd H
    refine z0a (y0r z9i (fun _=>rfl) rfl rfl h7) ?_
    refine z0a (z0x tyS9 rfl (z2l h7) rfl) ?_
    obtain ⟨r8,h9,H⟩:=bnd H
    refine z0a (z0q (x0y x6 15 r8 h9) ⟨.inl rfl,.inl rfl,trivial⟩) ?_
    refine qd rfl ?_
    refine z0a (z10 rfl rfl) ?_
    refine z0a (z10 rfl rfl) ?_
    refine qe rfl ?_
    refine qe rfl ?_
    refine z0c ?_
    refine z0b hN rfl ?_
    refine qd rfl ?_
    obtain ⟨x10,h11,H⟩:=bnd H
    refine z0a (y0r z9i (fun _=>rfl) rfl rfl h11) ?_
    refine z0a (z0x tyS9 rfl (z2l h11) rfl) ?_
    obtain ⟨r12,h13,H⟩:=bnd H
    refine z0a (z0q (x0y x10 15 r12 h13) ⟨.inl rfl,.inl rfl,trivial⟩) ?_
    refine qd rfl ?_
    refine z0a (z10 rfl rfl) ?_
    refine z0a (z10 rfl rfl) ?_
    refine qe rfl ?_
    refine qe rfl ?_
    refine z0c ?_
    refine z0b hN rfl ?_
    refine qd rfl ?_
    refine qd rfl ?_
    refine z57 rfl rfl (fun hc=>z0h (.dat _) rfl) ?_
    refine z0a (z2c rfl (fun hb=>(cnd (c:=r8.2) hb)) rfl) ?_
    refine z0g _ rfl (fun h14 => ?_) (fun h14 => ?_)
    ·replace H:=ift h14 H
     refine z0c ?_
     refine z0b hN rfl ?_
     refine qd rfl ?_
     refine qd rfl ?_
     refine qe rfl ?_
     refine qe rfl ?_
     refine z0m ?_
     cases H
     exact ⟨trivial,⟨.inl rfl,.inl rfl,trivial⟩,rfl⟩
    ·replace H:=iff_ h14 H
     refine z0l ?_
     exact ⟨(),H,⟨rfl,trivial⟩,⟨rfl,trivial⟩⟩
   ·replace H:=iff_ h5 H
    refine z0l ?_
    exact ⟨(),H,⟨rfl,trivial⟩,⟨rfl,trivial⟩⟩
  ·rintro ⟨⟩ H
   replace H:z3v r2=some r:=H
   unfold z3v at H
   refine z0c ?_
   refine z0b hN rfl ?_
   refine z0a (z0h (.ptr _ _) rfl) ?_
   refine z0a (z2o rfl) ?_
   refine z0a (z0r y6i rfl) ?_
   refine z0j (z15 tyS4 rfl rfl rfl rfl) rfl ?_
   refine z0c ?_
   refine z0b hN rfl ?_
   refine z0a (z0h (.ptr _ _) rfl) ?_
   refine z0a (z2o rfl) ?_
   refine z0a (z0r y4i rfl) ?_
   refine z0w (z0o tyS3 rfl rfl) rfl ?_
   refine z0a (z1c _ rfl rfl (.inr (.inl ⟨rfl,rfl⟩))) ?_
   refine z0a (z2o rfl) ?_
   refine z0a (z0r y4i rfl) ?_
   refine z0j (z15 tyS3 rfl rfl rfl rfl) rfl ?_
   refine z0c ?_
   refine z0b hN rfl ?_
   refine qe rfl ?_
   refine qe rfl ?_
   refine z0m ?_
   cases H
   exact ⟨trivial,⟨.inl rfl,.inl rfl,trivial⟩,rfl⟩
theorem x0m (l1:(List Bs)) (r:(Int)) (H:y18 l1=some r):Fn Tryz.prog 134 [vlst (List.map z0n l1)] (z1r [vint r]):=by
 refine ⟨by kernel_rfl,z1e (us:=[vint r]) Tryz.func134 rfl rfl rfl rfl fun X hN => ?_⟩
 unfold y18 at H
 refine z0c ?_
 refine z0b hN rfl ?_
 refine qe rfl ?_
 refine z0c ?_
 refine z0c ?_
 refine z0b hN rfl ?_
 refine qd rfl ?_
 refine z0a (z6r z9p rfl) ?_
 refine qd rfl ?_
 refine z0v ?_
 obtain ⟨h4,H⟩:=gif H
 refine z3u (fun (k2:Nat) (s:Unit)=>[(0,.dat (vlst (List.map z0n l1))),(5,.dat (vlst (List.map z0n l1))),(6,.dat (vint (l1.length:Int))),(7,.dat (vint (k2:Int)))]) (fun (k2:Nat) (s:Unit)=>[]) () H ⟨rfl,rfl,rfl,rfl,trivial⟩ trivial (fun _ _=>rfl) ?_ ?_
 ·rintro ⟨⟩ H
  replace H:y4p=some r:=H
  unfold y4p at H
  refine z0c ?_
  refine z0b hN rfl ?_
  refine z0a (z04 rfl rfl) ?_
  refine z0c ?_
  refine z0g _ rfl (fun h=>(lt_t h).elim) (fun h => ?_)
  refine z1u ?_
  refine z0c ?_
  refine z0b hN rfl ?_
  refine qe rfl ?_
  refine z0m ?_
  cases H
  exact ⟨trivial,.inl rfl,trivial⟩
 ·rintro k2 x5 ⟨⟩ q3 h6 h7 H hq3
  replace H:y26 l1 k2 x5=some q3:=H
  unfold y26 at H
  refine z0c ?_
  refine z0b hN rfl ?_
  refine z0a (z04 rfl rfl) ?_
  refine z0c ?_
  refine z0g _ rfl (fun h => ?_) (fun h=>(lt_f h6 h).elim)
  refine z0l ?_
  refine z0c ?_
  refine z0v ?_
  refine z0c ?_
  refine z0b hN rfl ?_
  refine qd rfl ?_
  refine z0a (y0r z9i (fun _=>rfl) rfl rfl h7) ?_
  refine z0a (z0x tyS9 rfl (z2l h7) rfl) ?_
  refine qe rfl ?_
  refine qe rfl ?_
  refine z0c ?_
  refine z0c ?_
  refine z0b hN rfl ?_
  refine qd rfl ?_
  obtain ⟨r8,h9,H⟩:=bnd H
  refine z0a (z0q (z98 x5 r8 h9) ⟨.inl rfl,trivial⟩) ?_
  refine z0a (z2j rfl) ?_
  refine z0g _ rfl (fun h10 => ?_) (fun h10 => ?_)
  ·replace H:=ift h10 H
   refine z0c ?_
   refine z0b hN rfl ?_
   refine qe rfl ?_
   refine z0m ?_
   replace H:=retl H hq3
   cases H
   exact ⟨trivial,.inl rfl,trivial⟩
  ·replace H:=iff_ h10 H
   refine z0l ?_
   refine z03 (ι:=Bool) (fun i=>[(0,.dat (vlst (List.map z0n l1))),(5,.dat (vlst (List.map z0n l1))),(6,.dat (vint (l1.length:Int))),(7,.dat (vint (k2:Int))),(25,.dat (z05 i))]) (fun i=>[]) (fun i=>z8d i=some q3) (fun i=>rfl) ?_ ?_
   ·skip
    refine z0b hN rfl ?_
    refine qd rfl ?_
    refine z0a (z2m rfl rfl) ?_
    refine qd rfl ?_
    refine z09 (j:=2) rfl rfl (fun h11 => ?_) (fun h11 => ?_) rfl
    ·have h12:=un1 h11
     replace H:=ift h12 H
     refine z0p rfl rfl h11 (z0h (.dat _) rfl) ?_
     refine z0p rfl rfl h11 (z0h (.dat _) rfl) ?_
     refine z0p rfl rfl h11 (z0h (.dat _) rfl) ?_
     refine z0p rfl rfl h11 (y76 rfl rfl (by omega)) ?_
     obtain ⟨x13,h14,H⟩:=bnd H
     refine z0p rfl rfl h11 (y25 z9i (fun _=>rfl) rfl rfl h14) ?_
     refine z0p rfl rfl h11 (z0x tyS9 rfl (z2l (z6x h14).2) rfl) ?_
     refine z0p rfl rfl h11 (y9u rfl rfl) ?_
     refine z0a (z00 rfl (bTT h12) rfl) ?_
     exact ⟨(Op.bytesLess x5 x13 || x5 == x13),H,⟨rfl,rfl,rfl,rfl,rfl,trivial⟩,trivial⟩
    ·have h15:=un2 h11
     replace H:=iff_ h15 H
     refine z0f rfl rfl h11 ?_
     refine z0f rfl rfl h11 ?_
     refine z0f rfl rfl h11 ?_
     refine z0f rfl rfl h11 ?_
     refine z0f rfl rfl h11 ?_
     refine z0f rfl rfl h11 ?_
     refine z0f rfl rfl h11 ?_
     refine z0a (z0z rfl (bFF h15) rfl) ?_
     exact ⟨false,H,⟨rfl,rfl,rfl,rfl,rfl,trivial⟩,trivial⟩
   ·rintro v16 H
    replace H:z8d v16=some q3:=H
    unfold z8d at H
    refine z0g _ rfl (fun h17 => ?_) (fun h17 => ?_)
    ·replace H:=ift h17 H
     refine z0c ?_
     refine z0b hN rfl ?_
     refine qe rfl ?_
     refine z0m ?_
     replace H:=retl H hq3
     cases H
     exact ⟨trivial,.inl rfl,trivial⟩
    ·replace H:=iff_ h17 H
     refine z0l ?_
     refine z0b hN rfl ?_
     refine z0a (z3r rfl rfl (by omega)) ?_
     refine qd rfl ?_
     exact ⟨_,z84 H,⟨rfl,rfl,rfl,rfl,trivial⟩,trivial⟩
theorem y1x (l r:List Bs) (H:y1u l=some r):FnG Tryz.prog 189 [.dat (vlst (List.map z0n l))] [] (.row 900 r.length) [(900,.row 9 1 (List.map z0n r))]:=by
 obtain ⟨hl,rfl⟩:=w0j H
 refine x9d (by kernel_rfl) Tryz.func189 rfl rfl rfl rfl fun X A hN => ?_
 refine x78 0 rfl (fun h0 => ?_) ?_
 ·obtain rfl:=List.map_eq_nil_iff.1 h0
  refine z0c ?_
  refine z0b hN rfl ?_
  refine qe rfl ?_
  refine z0c ?_
  refine z0c ?_
  refine z0b hN rfl ?_
  refine qd rfl ?_
  refine z0a (x7j z9p rfl) ?_
  refine z0g _ rfl (fun h => ?_) (fun h=>by cases h)
  refine z0c ?_
  refine z0b hN rfl ?_
  refine qe rfl ?_
  refine y2i 2 900 9 1 rfl rfl rfl ?_
  refine z0m ?_
  exact ⟨trivial,[(2,.row 900 0)],⟨rfl,trivial⟩,⟨rfl,trivial⟩,rfl,.inr (.inl ⟨2,rfl,rfl⟩)⟩
 ·refine z0c ?_
  refine z0b hN rfl ?_
  refine qe rfl ?_
  refine z0c ?_
  refine z0c ?_
  refine z0b hN rfl ?_
  refine qd rfl ?_
  refine z0a (x7k z9p rfl) ?_
  refine z0g _ rfl (fun h=>by cases h) (fun h => ?_)
  refine z0l ?_
  refine z0c ?_
  refine w9w 0 (u':=vlst (List.map z0n l)) rfl w95 ?_
  refine z0b hN rfl ?_
  refine z0j (w4p 900 z86) rfl ?_
  refine qd rfl ?_
  refine z0j (w8y (C:=z0n) (xs:=[]) z86 (fun _=>rfl) rfl rfl rfl (by simpa using hl) rfl) rfl ?_
  refine z0a (z13 (.row _ _) rfl) ?_
  refine z0m ?_
  exact ⟨trivial,[(2,.row 900 l.length)],⟨rfl,trivial⟩,⟨rfl,trivial⟩,rfl,.inr (.inl ⟨2,rfl,rfl⟩)⟩
end Go.Proofs.YtndabcepiekebaaGreatDoor
