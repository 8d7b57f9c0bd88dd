/- Walks along the models. Printed by a program. -/
import Derived.Test.YtkckjgkfljgjpaaGreatDoorZgw4
namespace Go.Proofs.YtkckjgkfljgjpaaGreatDoor
open Go.RowKit
set_option linter.unusedVariables false
set_option maxRecDepth 100000
set_option maxHeartbeats 2000000
theorem y3s (s1:z0d) (v2:(List z0g)) (v3:z0e) (v4:Int) (r:(Bs×z0d)) (H:z42 s1 v2 v3 v4=some r):Imp Tryz.prog 11 25 (z0q s1) [vlst (List.map z00 v2),vagg (z0t v3),vint v4] (z1s [vstr r.1]) (z0q r.2):=by
 refine y2b (us:=[vstr r.1]) (cs':=(z0q r.2)) (by kernel_rfl) Tryz.func11 rfl rfl rfl rfl fun X bl hN => ?_
 unfold z42 at H
 refine z0c ?_
 refine z0b hN rfl ?_
 refine z0k (y0e 1 rfl) rfl ?_
 refine qe rfl ?_
 refine z0c ?_
 refine z0b hN rfl ?_
 refine qd rfl ?_
 refine z0y (z5v z4c rfl rfl rfl) rfl ?_
 refine qd rfl ?_
 obtain ⟨r5,h6,H⟩:=bnd H
 refine z0a (z0o (y4y v2 v3 v4 r5 h6) ⟨.inl rfl,.inl rfl,.inl rfl,trivial⟩) ?_
 refine qd rfl ?_
 refine z0a (z1q rfl rfl) ?_
 refine z0a (z1q rfl rfl) ?_
 refine qe rfl ?_
 refine qe rfl ?_
 refine z0z (ι:=Bs) (fun i=>[(0,.ptr 0 0),(9,.dat (vstr i))]) (fun i=>[(0,.box (some bl) 25 [.dat (vlst (List.map y22 s1.L)),.dat (vint s1.at_)])]) (fun i=>z2k s1 i=some r) (fun i=>rfl) ?_ ?_
 ·skip
  refine z0c ?_
  refine z0b hN rfl ?_
  refine qd rfl ?_
  refine z0a (z68 rfl rfl) ?_
  refine z0j _ rfl (fun h7 => ?_) (fun h7 => ?_)
  ·replace H:=ift h7 H
   refine z0c ?_
   refine z0b hN rfl ?_
   refine z0y (z5v z4c rfl rfl rfl) rfl ?_
   obtain ⟨r8,h9,H⟩:=bnd H
   refine z0a (z0o (y08 v3 r8 h9) ⟨.inl rfl,trivial⟩) ?_
   obtain ⟨r10,h11,H⟩:=bnd H
   refine z0a (z0o (y1b r8 r10 h11) ⟨.inl rfl,trivial⟩) ?_
   obtain ⟨h12,H⟩:=gif H
   refine z0a (z1h rfl rfl (Nat.le_trans h12 (by decide))) ?_
   refine qe rfl ?_
   refine z0b hN rfl ?_
   refine qd rfl ?_
   obtain ⟨h13,H⟩:=gif H
   refine z0a (z1h rfl rfl (Nat.le_trans h13 (by decide))) ?_
   refine qd rfl ?_
   obtain ⟨r14,h15,H⟩:=bnd H
   refine z0a (z0o (y03 [111,110,101] ([115,49,46]++r10) r14 h15) ⟨.inl rfl,.inl rfl,trivial⟩) ?_
   obtain ⟨h16,H⟩:=gif H
   refine z0a (z1h rfl rfl (Nat.le_trans h16 (by decide))) ?_
   refine qe rfl ?_
   exact ⟨((([115,49,46]++r10)++[46])++r14),H,⟨rfl,rfl,trivial⟩,⟨rfl,trivial⟩⟩
  ·replace H:=iff_ h7 H
   refine z0l ?_
   exact ⟨r5.1,H,⟨rfl,rfl,trivial⟩,⟨rfl,trivial⟩⟩
 ·rintro v17 H
  replace H:z2k s1 v17=some r:=H
  unfold z2k at H
  refine z0z (ι:=Bs×(List Int)×Int) (fun i=>[(0,.ptr 0 0),(9,.dat (vstr i.1))]) (fun i=>[(0,.box (some bl) 25 [.dat (vlst (List.map y22 i.2.1)),.dat (vint i.2.2)])]) (fun i=>z2j i.1 i.2.1 i.2.2=some r) (fun i=>rfl) ?_ ?_
  ·skip
   refine z0c ?_
   refine z0b hN rfl ?_
   refine z0a (z0h (.ptr _ _) rfl) ?_
   obtain ⟨r18,h19,H⟩:=bnd H
   refine z0k (z1e (z17 s1 8 r18 h19) rfl ⟨.inl rfl,trivial⟩ rfl) rfl ?_
   refine z0j _ rfl (fun h20 => ?_) (fun h20 => ?_)
   ·replace H:=ift h20 H
    refine z0c ?_
    refine z0b hN rfl ?_
    refine z0a (z0h (.ptr _ _) rfl) ?_
    refine z0a (z09 (u':=vlst (List.map z0n [[115,49],[115,50],[115,57]])) (z2g [[_],[_],[_]] z8w ⟨rfl,.inl ⟨_,rfl,rfl,rfl⟩,rfl,rfl,.inl ⟨_,rfl,rfl,rfl⟩,rfl,rfl,.inl ⟨_,rfl,rfl,rfl⟩,rfl,trivial⟩ rfl rfl) rfl) ?_
    obtain ⟨r21,h22,H⟩:=bnd H
    refine z0k (z1e (z07 r18.2 ([[115,49],[115,50],[115,57]]) r21 h22) rfl ⟨.inl rfl,trivial⟩ rfl) rfl ?_
    obtain ⟨h23,H⟩:=gif H
    refine z0a (z1h rfl rfl (Nat.le_trans h23 (by decide))) ?_
    refine z0a (z0h (.ptr _ _) rfl) ?_
    obtain ⟨r24,h25,H⟩:=bnd H
    refine z0k (z1e (y34 r21.2 r24 h25) rfl trivial rfl) rfl ?_
    obtain ⟨r26,h27,H⟩:=bnd H
    refine z0a (z0o (y1b r24.1 r26 h27) ⟨.inl rfl,trivial⟩) ?_
    obtain ⟨h28,H⟩:=gif H
    refine z0a (z1h rfl rfl (Nat.le_trans h28 (by decide))) ?_
    refine qe rfl ?_
    refine z0b hN rfl ?_
    refine qd rfl ?_
    obtain ⟨h29,H⟩:=gif H
    refine z0a (z1h rfl rfl (Nat.le_trans h29 (by decide))) ?_
    refine z0a (z0h (.ptr _ _) rfl) ?_
    refine z0a (z09 (u':=vlst (List.map z0n [[111,110,101],[116,119,111]])) (z2g [[_],[_]] z8w ⟨rfl,.inl ⟨_,rfl,rfl,rfl⟩,rfl,rfl,.inl ⟨_,rfl,rfl,rfl⟩,rfl,trivial⟩ rfl rfl) rfl) ?_
    obtain ⟨r30,h31,H⟩:=bnd H
    refine z0k (z1e (z07 r24.2 ([[111,110,101],[116,119,111]]) r30 h31) rfl ⟨.inl rfl,trivial⟩ rfl) rfl ?_
    refine qd rfl ?_
    obtain ⟨r32,h33,H⟩:=bnd H
    refine z0a (z0o (y03 r30.1 ((r21.1++[46])++r26) r32 h33) ⟨.inl rfl,.inl rfl,trivial⟩) ?_
    obtain ⟨h34,H⟩:=gif H
    refine z0a (z1h rfl rfl (Nat.le_trans h34 (by decide))) ?_
    refine qe rfl ?_
    exact ⟨(((((r21.1++[46])++r26)++[46])++r32),r30.2.L,r30.2.at_),H,⟨rfl,rfl,trivial⟩,⟨rfl,trivial⟩⟩
   ·replace H:=iff_ h20 H
    refine z0l ?_
    exact ⟨(v17,r18.2.L,r18.2.at_),H,⟨rfl,rfl,trivial⟩,⟨rfl,trivial⟩⟩
  ·rintro ⟨v35,c36,c37⟩ H
   replace H:z2j v35 c36 c37=some r:=H
   unfold z2j at H
   refine z0z (ι:=Bs×(List Int)×Int) (fun i=>[(0,.ptr 0 0),(9,.dat (vstr i.1))]) (fun i=>[(0,.box (some bl) 25 [.dat (vlst (List.map y22 i.2.1)),.dat (vint i.2.2)])]) (fun i=>z2i i.1 i.2.1 i.2.2=some r) (fun i=>rfl) ?_ ?_
   ·skip
    refine z0c ?_
    refine z0b hN rfl ?_
    refine z0a (z0h (.ptr _ _) rfl) ?_
    obtain ⟨r38,h39,H⟩:=bnd H
    refine z0k (z1e (z17 (z0d.mk c36 c37) 8 r38 h39) rfl ⟨.inl rfl,trivial⟩ rfl) rfl ?_
    refine z0j _ rfl (fun h40 => ?_) (fun h40 => ?_)
    ·replace H:=ift h40 H
     refine z0b hN rfl ?_
     refine z0a (z0h (.ptr _ _) rfl) ?_
     refine qd rfl ?_
     obtain ⟨r41,h42,H⟩:=bnd H
     refine z0k (z1e (y2a r38.2 v35 [65,46,98,95,48] r41 h42) rfl ⟨.inl rfl,.inl rfl,trivial⟩ rfl) rfl ?_
     refine qe rfl ?_
     exact ⟨(r41.1,r41.2.L,r41.2.at_),H,⟨rfl,rfl,trivial⟩,⟨rfl,trivial⟩⟩
    ·replace H:=iff_ h40 H
     refine z0l ?_
     exact ⟨(v35,r38.2.L,r38.2.at_),H,⟨rfl,rfl,trivial⟩,⟨rfl,trivial⟩⟩
   ·rintro ⟨v43,c44,c45⟩ H
    replace H:z2i v43 c44 c45=some r:=H
    unfold z2i at H
    refine z0z (ι:=Bs×(List Int)×Int) (fun i=>[(9,.dat (vstr i.1))]) (fun i=>[(0,.box (some bl) 25 [.dat (vlst (List.map y22 i.2.1)),.dat (vint i.2.2)])]) (fun i=>z23 i.1 i.2.1 i.2.2=some r) (fun i=>rfl) ?_ ?_
    ·skip
     refine z0c ?_
     refine z0b hN rfl ?_
     refine z0a (z0h (.ptr _ _) rfl) ?_
     obtain ⟨r46,h47,H⟩:=bnd H
     refine z0k (z1e (z17 (z0d.mk c44 c45) 25 r46 h47) rfl ⟨.inl rfl,trivial⟩ rfl) rfl ?_
     refine z0j _ rfl (fun h48 => ?_) (fun h48 => ?_)
     ·replace H:=ift h48 H
      refine z0c ?_
      refine z0b hN rfl ?_
      refine z0a (z0h (.ptr _ _) rfl) ?_
      refine z0a (z09 (u':=vlst (List.map z0n [[65],[89,82],[42],[]])) (z2g [[_],[_],[_],[_]] z8w ⟨rfl,.inl ⟨_,rfl,rfl,rfl⟩,rfl,rfl,.inl ⟨_,rfl,rfl,rfl⟩,rfl,rfl,.inl ⟨_,rfl,rfl,rfl⟩,rfl,rfl,.inl ⟨_,rfl,rfl,rfl⟩,rfl,trivial⟩ rfl rfl) rfl) ?_
      obtain ⟨r49,h50,H⟩:=bnd H
      refine z0k (z1e (z07 r46.2 ([[65],[89,82],[42],[]]) r49 h50) rfl ⟨.inl rfl,trivial⟩ rfl) rfl ?_
      obtain ⟨h51,H⟩:=gif H
      refine z0a (z1h rfl rfl (Nat.le_trans h51 (by decide))) ?_
      refine qe rfl ?_
      refine z0b hN rfl ?_
      refine qd rfl ?_
      obtain ⟨h52,H⟩:=gif H
      refine z0a (z1h rfl rfl (Nat.le_trans h52 (by decide))) ?_
      refine qd rfl ?_
      obtain ⟨r53,h54,H⟩:=bnd H
      refine z0a (z0o (y03 [111,110,101] ([115,49,46]++r49.1) r53 h54) ⟨.inl rfl,.inl rfl,trivial⟩) ?_
      obtain ⟨h55,H⟩:=gif H
      refine z0a (z1h rfl rfl (Nat.le_trans h55 (by decide))) ?_
      refine qe rfl ?_
      exact ⟨(((([115,49,46]++r49.1)++[46])++r53),r49.2.L,r49.2.at_),H,⟨rfl,trivial⟩,⟨rfl,trivial⟩⟩
     ·replace H:=iff_ h48 H
      refine z0l ?_
      exact ⟨(v43,r46.2.L,r46.2.at_),H,⟨rfl,trivial⟩,⟨rfl,trivial⟩⟩
    ·rintro ⟨v56,c57,c58⟩ H
     replace H:z23 v56 c57 c58=some r:=H
     unfold z23 at H
     refine z0c ?_
     refine z0b hN rfl ?_
     refine qd rfl ?_
     refine qe rfl ?_
     refine z0m ?_
     cases H
     exact ⟨trivial,⟨.inl rfl,trivial⟩,rfl⟩
theorem x0o (x1:z0g) (c2:(List Bs)) (r:(Bool)) (H:y04 x1 c2=some r):Fn Tryz.prog 48 [vagg (z00 x1),y1e [[vlst (List.map z0n c2)]] 0 0] (z1s [z01 r]):=by
 refine ⟨by kernel_rfl,z1g (us:=[z01 r]) Tryz.func48 rfl rfl rfl rfl fun X hN => ?_⟩
 unfold y04 at H
 refine z0c ?_
 refine z0b hN rfl ?_
 refine z0k (y0e 1 rfl) rfl ?_
 refine qe rfl ?_
 refine z0c ?_
 refine z5o mixed hN rfl rfl ?_
 refine z0a (z0r y4c rfl) ?_
 refine z0y (z0s tyS9 rfl rfl) rfl ?_
 refine z0a (z0w z7t rfl rfl rfl) ?_
 obtain ⟨x3,h4,H⟩:=bnd H
 refine z0a (y00 z88 (fun _=>rfl) rfl rfl h4) ?_
 refine z0a (z0w tyS9 rfl (z3m h4) rfl) ?_
 refine z0a (z65 rfl rfl) ?_
 refine qe rfl ?_
 refine ⟨rfl,?_⟩
 refine z0m ?_
 cases H
 exact ⟨trivial,.inl rfl,trivial⟩
theorem x0p (s1:Bs) (r:(Bs×Int)) (H:y17 s1=some r):Fn Tryz.prog 49 [vstr s1] (z1s [vstr r.1,vint r.2]):=by
 refine ⟨by kernel_rfl,z1g (us:=[vstr r.1,vint r.2]) Tryz.func49 rfl rfl rfl rfl fun X hN => ?_⟩
 unfold y17 at H
 refine z0c ?_
 refine z0b hN rfl ?_
 refine qe rfl ?_
 refine qe rfl ?_
 refine z0c ?_
 refine z0b hN rfl ?_
 refine qe rfl ?_
 refine z0z (ι:=(List Int)) (fun i=>[(0,.dat (vstr s1)),(4,.row 1 i.length)]) (fun i=>[(1,.row 5 1 (List.map z4z i))]) (fun i=>z9f s1 i=some r) (fun i=>rfl) ?_ ?_
 ·skip
  refine z0c ?_
  refine z0b hN rfl ?_
  refine qd rfl ?_
  refine qe rfl ?_
  refine z0u ?_
  refine y2l 4 1 5 1 rfl rfl rfl ?_
  refine y36 (fun (s:Bs×(List Int))=>[(0,.dat (vstr s1)),(4,.row 1 s.2.length),(5,.dat (vstr s.1))]) (fun (s:Bs×(List Int))=>[(1,.row 5 1 (List.map z4z s.2))]) (s1,[]) H ⟨rfl,rfl,rfl,trivial⟩ ⟨rfl,trivial⟩ (fun _=>rfl) ?_
  rintro ⟨rest2,l3⟩ q4 H hq4
  replace H:z6f s1 rest2 l3=some q4:=H
  unfold z6f at H
  refine z0c ?_
  refine z0c ?_
  refine z0b hN rfl ?_
  refine qd rfl ?_
  refine z0a (z1j tyU9 rfl) ?_
  refine z0a (z29 rfl rfl) ?_
  refine z0j _ rfl (fun h5 => ?_) (fun h5 => ?_)
  ·replace H:=ift h5 H
   refine z0l ?_
   refine z0u ?_
   refine z0c ?_
   refine z0b hN rfl ?_
   refine qd rfl ?_
   refine z0a (z1j tyU9 rfl) ?_
   refine z0a (x4j rfl rfl) ?_
   refine qe rfl ?_
   refine z0c ?_
   refine z0b hN rfl ?_
   refine qe rfl ?_
   refine z0c ?_
   refine z0c ?_
   refine z0b hN rfl ?_
   refine qd rfl ?_
   refine z0u ?_
   obtain ⟨h9,H⟩:=gif H
   refine y54 (fun (k7:Nat) (s:Int)=>[(0,.dat (vstr s1)),(4,.row 1 l3.length),(5,.dat (vstr rest2)),(6,.dat (vint (min 4 (rest2.length:Int)))),(7,.dat (vint s)),(18,.dat (vint (k7:Int)))]) (fun (k7:Nat) (s:Int)=>[(1,.row 5 1 (List.map z4z l3))]) 0 H ⟨rfl,rfl,rfl,rfl,rfl,rfl,trivial⟩ ⟨rfl,trivial⟩ (fun _ _=>rfl) ?_ ?_
   ·rintro x6 H
    replace H:y1l rest2 l3 x6=some q4:=H
    unfold y1l at H
    refine z0c ?_
    refine z0b hN rfl ?_
    refine z0a (z04 rfl rfl) ?_
    refine z0c ?_
    refine z0j _ rfl (fun h=>(lt_t h).elim) (fun h => ?_)
    refine z14 ?_
    refine z0c ?_
    refine z0c ?_
    refine z0b hN rfl ?_
    refine qd rfl ?_
    refine z0a (z1a _ rfl rfl (.inr (.inl ⟨rfl,rfl⟩))) ?_
    refine qd rfl ?_
    refine z0u ?_
    obtain ⟨h13,H⟩:=gif H
    refine y54 (fun (k11:Nat) (s:(List Int))=>[(0,.dat (vstr s1)),(4,.row 1 s.length),(5,.dat (vstr rest2)),(6,.dat (vint (min 4 (rest2.length:Int)))),(7,.dat (vint x6)),(37,.dat (vint (wr ((min 4 (rest2.length:Int)) - 1)))),(38,.dat (vint (k11:Int)))]) (fun (k11:Nat) (s:(List Int))=>[(1,.row 5 1 (List.map z4z s))]) l3 H ⟨rfl,rfl,rfl,rfl,rfl,rfl,rfl,trivial⟩ ⟨rfl,trivial⟩ (fun _ _=>rfl) ?_ ?_
    ·rintro l10 H
     replace H:z9g rest2 l10=some q4:=H
     unfold z9g at H
     refine z0c ?_
     refine z0b hN rfl ?_
     refine z0a (z04 rfl rfl) ?_
     refine z0c ?_
     refine z0j _ rfl (fun h=>(x86 h).elim) (fun h => ?_)
     refine z14 ?_
     refine z0b hN rfl ?_
     refine qd rfl ?_
     refine qd rfl ?_
     obtain ⟨l14,h15,H⟩:=bnd H
     refine z0a (y0h tyU9 rfl rfl rfl h15) ?_
     refine qe rfl ?_
     exact ⟨_,z9s H,⟨rfl,rfl,rfl,trivial⟩,⟨rfl,trivial⟩⟩
    ·rintro k11 l10 q12 h16 H hq12
     replace H:z9e x6 k11 l10=some q12:=H
     unfold z9e at H
     refine z0c ?_
     refine z0b hN rfl ?_
     refine z0a (z04 rfl rfl) ?_
     refine z0c ?_
     refine z0j _ rfl (fun h => ?_) (fun h=>(x87 h16 h).elim)
     refine z0l ?_
     refine z0c ?_
     refine z0u ?_
     refine z0c ?_
     refine z0b hN rfl ?_
     refine qd rfl ?_
     refine qe rfl ?_
     refine z0b hN rfl ?_
     refine z0a (z0h (.row _ _) rfl) ?_
     refine qd rfl ?_
     refine qd rfl ?_
     refine z0a (z1a _ rfl rfl (.inr (.inr ⟨rfl,rfl⟩))) ?_
     refine z0a (z1a _ rfl rfl (.inr (.inl ⟨rfl,rfl⟩))) ?_
     obtain ⟨h17,H⟩:=gif H
     refine z0a (z09 (y9j rfl rfl h17) rfl) ?_
     refine z0a (z6k tyU3 tyU5 rfl) ?_
     refine z0a (z09 (u':=vlst (List.map z4z [IntKind.wrap .u8 (shr_ .i64 x6 (wr (16 - (wr (8 * (k11:Int))))))])) (z2g [[_]] x6x ⟨rfl,.inl ⟨_,rfl,rfl,rfl⟩,rfl,trivial⟩ rfl rfl) rfl) ?_
     obtain ⟨h18,H⟩:=gif H
     refine z0k (y8m x6x (fun _=>rfl) rfl rfl rfl ⟨by simp,by first | (simp; done) | simpa using h18⟩ rfl) rfl ?_
     refine z0a (z2b (.row _ _) rfl) ?_
     refine z0b hN rfl ?_
     refine z0a (z5w rfl rfl (by omega)) ?_
     refine qd rfl ?_
     exact ⟨_,z9s H,⟨rfl,rfl,rfl,rfl,rfl,rfl,rfl,trivial⟩,⟨rfl,trivial⟩⟩
   ·rintro k7 x6 q8 h19 H hq8
    replace H:z3k rest2 k7 x6=some q8:=H
    unfold z3k at H
    refine z0c ?_
    refine z0b hN rfl ?_
    refine z0a (z04 rfl rfl) ?_
    refine z0c ?_
    refine z0j _ rfl (fun h => ?_) (fun h=>(lt_f h19 h).elim)
    refine z0l ?_
    refine z0z (ι:=Int) (fun i=>[(0,.dat (vstr s1)),(4,.row 1 l3.length),(5,.dat (vstr rest2)),(6,.dat (vint (min 4 (rest2.length:Int)))),(7,.dat (vint i)),(18,.dat (vint (k7:Int)))]) (fun i=>[(1,.row 5 1 (List.map z4z l3))]) (fun i=>z8c i=some q8) (fun i=>rfl) ?_ ?_
    ·skip
     refine z0u ?_
     refine z0c ?_
     refine z0b hN rfl ?_
     refine qd rfl ?_
     refine qe rfl ?_
     refine z0c ?_
     refine z0b hN rfl ?_
     refine qd rfl ?_
     refine z0a (z09 (x1o rfl rfl (by decide)) rfl) ?_
     refine qe rfl ?_
     refine z0c ?_
     refine z0b hN rfl ?_
     refine qd rfl ?_
     refine qd rfl ?_
     refine z0a (z04 rfl rfl) ?_
     refine z0j _ rfl (fun h20 => ?_) (fun h20 => ?_)
     ·replace H:=ift h20 H
      refine z0c ?_
      refine z0b hN rfl ?_
      refine qd rfl ?_
      refine qd rfl ?_
      obtain ⟨x21,h22,H⟩:=bnd H
      refine z0a (z9h tyU9 rfl rfl h22) ?_
      obtain ⟨r23,h24,H⟩:=bnd H
      refine z0a (z0o (y2h [65,66,67,68,69,70,71,72,73,74,75,76,77,78,79,80,81,82,83,84,85,86,87,88,89,90,97,98,99,100,101,102,103,104,105,106,107,108,109,110,111,112,113,114,115,116,117,118,119,120,121,122,48,49,50,51,52,53,54,55,56,57,45,95] (x21.toNat:Int) r23 h24) ⟨.inl rfl,.inl rfl,trivial⟩) ?_
      refine qe rfl ?_
      refine z0c ?_
      refine z0c ?_
      refine z0b hN rfl ?_
      refine qd rfl ?_
      refine z0a (z04 rfl rfl) ?_
      refine z0j _ rfl (fun h25 => ?_) (fun h25 => ?_)
      ·replace H:=ift h25 H
       refine z0c ?_
       refine z0b hN rfl ?_
       refine qe rfl ?_
       refine qe rfl ?_
       refine z0m ?_
       replace H:=retl H hq8
       replace H:=retl H hq4
       cases H
       exact ⟨trivial,.inl rfl,.inl rfl,trivial⟩
      ·replace H:=iff_ h25 H
       refine z0l ?_
       refine z0b hN rfl ?_
       refine qd rfl ?_
       refine qd rfl ?_
       refine z0a (z09 (x75 rfl rfl) rfl) ?_
       refine qe rfl ?_
       exact ⟨(or_ .i64 (shl_ .i64 x6 6) r23),H,⟨rfl,rfl,rfl,rfl,rfl,rfl,trivial⟩,⟨rfl,trivial⟩⟩
     ·replace H:=iff_ h20 H
      refine z0l ?_
      exact ⟨(shl_ .i64 x6 6),H,⟨rfl,rfl,rfl,rfl,rfl,rfl,trivial⟩,⟨rfl,trivial⟩⟩
    ·rintro x26 H
     replace H:z8c x26=some q8:=H
     unfold z8c at H
     refine z0b hN rfl ?_
     refine z0a (z5w rfl rfl (by omega)) ?_
     refine qd rfl ?_
     exact ⟨_,z9s H,⟨rfl,rfl,rfl,rfl,rfl,rfl,trivial⟩,⟨rfl,trivial⟩⟩
  ·replace H:=iff_ h5 H
   refine z14 ?_
   replace H:=outl H hq4
   exact ⟨l3,H,⟨rfl,rfl,trivial⟩,⟨rfl,trivial⟩⟩
 ·rintro out27 H
  replace H:z9f s1 out27=some r:=H
  unfold z9f at H
  refine z0c ?_
  refine z0c ?_
  refine y8y 4 1 rfl rfl rfl ?_
  refine z0b hN rfl ?_
  refine qd rfl ?_
  refine z0a (y49 (C:=z4z) x0k tyU5 tyU9 (fun _=>rfl) rfl) ?_
  obtain ⟨r28,h29,H⟩:=bnd H
  refine z0a (z0o (y43 (strN out27) r28 h29) ⟨.inl rfl,trivial⟩) ?_
  refine qd rfl ?_
  refine z0a (z8k rfl rfl) ?_
  refine z0j _ rfl (fun h30 => ?_) (fun h30 => ?_)
  ·replace H:=ift h30 H
   refine z0c ?_
   refine z0b hN rfl ?_
   refine qe rfl ?_
   refine qe rfl ?_
   refine z0m ?_
   cases H
   exact ⟨trivial,.inl rfl,.inl rfl,trivial⟩
  ·replace H:=iff_ h30 H
   refine z0l ?_
   refine z0c ?_
   refine z0b hN rfl ?_
   refine qd rfl ?_
   refine z0a (y49 (C:=z4z) x0k tyU5 tyU9 (fun _=>rfl) rfl) ?_
   refine qe rfl ?_
   refine qe rfl ?_
   refine z0m ?_
   cases H
   exact ⟨trivial,.inl rfl,.inl rfl,trivial⟩
theorem x5a (s1:Bs) (r:((List Bs)×Bool)) (H:y4f s1=some r):Fn Tryz.prog 81 [vstr s1] (z1s [vlst (List.map z0n r.1),z01 r.2]):=by
 refine ⟨by kernel_rfl,z1g (us:=[vlst (List.map z0n r.1),z01 r.2]) Tryz.func81 rfl rfl rfl rfl fun X hN => ?_⟩
 unfold y4f at H
 refine z0c ?_
 refine z0b hN rfl ?_
 refine qe rfl ?_
 refine qe rfl ?_
 refine z0c ?_
 refine z0b hN rfl ?_
 refine qd rfl ?_
 obtain ⟨r2,h3,H⟩:=bnd H
 refine z0a (z0o (z9p s1 [10] r2 h3) ⟨.inl rfl,.inl rfl,trivial⟩) ?_
 refine qe rfl ?_
 refine z0c ?_
 refine z0b hN rfl ?_
 refine qd rfl ?_
 refine z0a (z8d z9v rfl) ?_
 refine z0a (z1a _ rfl rfl (.inr (.inl ⟨rfl,rfl⟩))) ?_
 refine qe rfl ?_
 refine z0c ?_
 refine z0c ?_
 refine z0b hN rfl ?_
 refine qd rfl ?_
 refine qd rfl ?_
 obtain ⟨x4,h5,H⟩:=bnd H
 refine z0a (y23 z88 (fun _=>rfl) rfl rfl h5) ?_
 refine z0a (z0w tyS9 rfl (z3m (z7s h5).2) rfl) ?_
 refine z0a (z65 rfl rfl) ?_
 refine z0j _ rfl (fun h6 => ?_) (fun h6 => ?_)
 ·replace H:=ift h6 H
  refine z0c ?_
  refine z0b hN rfl ?_
  refine qd rfl ?_
  refine qd rfl ?_
  obtain ⟨l7,h8,H⟩:=bnd H
  refine z0a (y9g z88 (fun _=>rfl) rfl rfl rfl h8) ?_
  refine qe rfl ?_
  refine qe rfl ?_
  refine z0m ?_
  cases H
  exact ⟨trivial,.inl rfl,.inl rfl,trivial⟩
 ·replace H:=iff_ h6 H
  refine z0l ?_
  refine z0c ?_
  refine z0b hN rfl ?_
  refine qd rfl ?_
  refine qe rfl ?_
  refine qe rfl ?_
  refine z0m ?_
  cases H
  exact ⟨trivial,.inl rfl,.inl rfl,trivial⟩
theorem y7s (s p:Bs) (r:Bs×Bs×Bool) (H:z92 s p=some r):Fn Tryz.prog 85 [vstr s,vstr p] (z1s [vstr r.1,vstr r.2.1,z01 r.2.2]):=by
 unfold z92 at H
 obtain ⟨h1,h2⟩:=gif H
 cases h2
 refine y1t (by kernel_rfl) fun M w vs hM h => ?_
 have hv:=y3w (us:=[.string ⟨s.toArray⟩,.string ⟨p.toArray⟩]) h
 subst hv
 obtain ⟨m,hm⟩:=y66 hM
 refine (Tryz.strings_Cut ⟨s.toArray⟩ ⟨p.toArray⟩ m w (by simp [ByteArray.size]; omega) hm).mono ?_
 rintro e w' ⟨rfl,n,rfl⟩
 refine ⟨_,rfl,⟨[_,_,_],rfl,rfl,fun j u hj => ?_⟩,⟨rfl,rfl,rfl,Nat.le_refl _,fun _ _ _=>rfl⟩⟩
 rcases j with _ | _ | _ | j
 ·cases hj; exact ⟨_,rfl,rfl⟩
 ·cases hj; exact ⟨_,rfl,rfl⟩
 ·cases hj; exact ⟨_,rfl,rfl⟩
 ·simp at hj

theorem y0o (s1:(List Bs)) (v2:Bs) (r:(Int)) (H:z2q s1 v2=some r):Fn Tryz.prog 86 [vlst (List.map z0n s1),vstr v2] (z1s [vint r]):=by
 refine ⟨by kernel_rfl,z1g (us:=[vint r]) Tryz.func86 rfl rfl rfl rfl fun X hN => ?_⟩
 unfold z2q at H
 refine z0c ?_
 refine z0b hN rfl ?_
 refine qe rfl ?_
 refine z0c ?_
 refine z0c ?_
 refine z0b hN rfl ?_
 refine qd rfl ?_
 refine z0a (z8d z9v rfl) ?_
 refine qd rfl ?_
 refine z0u ?_
 obtain ⟨h5,H⟩:=gif H
 refine z6c (fun (k3:Nat) (s:Unit)=>[(0,.dat (vlst (List.map z0n s1))),(1,.dat (vstr v2)),(7,.dat (vint (s1.length:Int))),(8,.dat (vint (k3:Int)))]) (fun (k3:Nat) (s:Unit)=>[]) () H ⟨rfl,rfl,rfl,rfl,trivial⟩ trivial (fun _ _=>rfl) ?_ ?_
 ·rintro ⟨⟩ H
  replace H:z7p=some r:=H
  unfold z7p at H
  refine z0c ?_
  refine z0b hN rfl ?_
  refine z0a (z04 rfl rfl) ?_
  refine z0c ?_
  refine z0j _ rfl (fun h=>(lt_t h).elim) (fun h => ?_)
  refine z14 ?_
  refine z0c ?_
  refine z0b hN rfl ?_
  refine qe rfl ?_
  refine z0m ?_
  cases H
  exact ⟨trivial,.inl rfl,trivial⟩
 ·rintro k3 x6 ⟨⟩ q4 h7 h8 H hq4
  replace H:z7o v2 k3 x6=some q4:=H
  unfold z7o at H
  refine z0c ?_
  refine z0b hN rfl ?_
  refine z0a (z04 rfl rfl) ?_
  refine z0c ?_
  refine z0j _ rfl (fun h => ?_) (fun h=>(lt_f h7 h).elim)
  refine z0l ?_
  refine z0c ?_
  refine z0u ?_
  refine z0c ?_
  refine z0b hN rfl ?_
  refine qd rfl ?_
  refine qe rfl ?_
  refine z0c ?_
  refine z0b hN rfl ?_
  refine qd rfl ?_
  refine qd rfl ?_
  refine qd rfl ?_
  refine z0a (y00 z88 (fun _=>rfl) rfl rfl h8) ?_
  refine z0a (z0w tyS9 rfl (z3m h8) rfl) ?_
  refine z0a (z65 rfl rfl) ?_
  refine z0j _ rfl (fun h9 => ?_) (fun h9 => ?_)
  ·replace H:=ift h9 H
   refine z0c ?_
   refine z0b hN rfl ?_
   refine qd rfl ?_
   refine qe rfl ?_
   refine z0m ?_
   replace H:=retl H hq4
   cases H
   exact ⟨trivial,.inl rfl,trivial⟩
  ·replace H:=iff_ h9 H
   refine z0l ?_
   refine z0b hN rfl ?_
   refine z0a (z5w rfl rfl (by omega)) ?_
   refine qd rfl ?_
   exact ⟨_,z9s H,⟨rfl,rfl,rfl,rfl,trivial⟩,trivial⟩
theorem z9u (s1:(List Bs)) (v2:Bs) (r:(Bool)) (H:z3d s1 v2=some r):Fn Tryz.prog 88 [vlst (List.map z0n s1),vstr v2] (z1s [z01 r]):=by
 refine ⟨by kernel_rfl,z1g (us:=[z01 r]) Tryz.func88 rfl rfl rfl rfl fun X hN => ?_⟩
 unfold z3d at H
 refine z0c ?_
 refine z0b hN rfl ?_
 refine qe rfl ?_
 refine z0c ?_
 refine z0b hN rfl ?_
 refine qd rfl ?_
 refine qd rfl ?_
 obtain ⟨r3,h4,H⟩:=bnd H
 refine z0a (z0o (y0o s1 v2 r3 h4) ⟨.inl rfl,.inl rfl,trivial⟩) ?_
 refine z0a (z9w rfl rfl) ?_
 refine qe rfl ?_
 refine z0m ?_
 cases H
 exact ⟨trivial,.inl rfl,trivial⟩
theorem x49 (s1:Bs) (r:((List Bs)×Bool)) (H:y4e s1=some r):Fn Tryz.prog 118 [vstr s1] (z1s [vlst (List.map z0n r.1),z01 r.2]):=by
 refine ⟨by kernel_rfl,z1g (us:=[vlst (List.map z0n r.1),z01 r.2]) Tryz.func118 rfl rfl rfl rfl fun X hN => ?_⟩
 unfold y4e at H
 refine z0c ?_
 refine z0b hN rfl ?_
 refine qe rfl ?_
 refine qe rfl ?_
 refine z0c ?_
 refine z0b hN rfl ?_
 refine qd rfl ?_
 obtain ⟨r2,h3,H⟩:=bnd H
 refine z0a (z0o (z9p s1 [32] r2 h3) ⟨.inl rfl,.inl rfl,trivial⟩) ?_
 refine qe rfl ?_
 refine z0c ?_
 refine z0b hN rfl ?_
 refine qd rfl ?_
 refine qd rfl ?_
 obtain ⟨r4,h5,H⟩:=bnd H
 refine z0a (z0o (z9u r2 [] r4 h5) ⟨.inl rfl,.inl rfl,trivial⟩) ?_
 refine z0a (z3t rfl) ?_
 refine qe rfl ?_
 refine qe rfl ?_
 refine z0m ?_
 cases H
 exact ⟨trivial,.inl rfl,.inl rfl,trivial⟩
theorem z8b (s1:z0i) (v2:Bs) (v3:Bool) (r:((List Bs)×z0i)) (H:z1c s1 v2 v3=some r):Imp Tryz.prog 83 102 (z3b s1) [vstr v2,z01 v3] (z1s [vlst (List.map z0n r.1)]) (z3b r.2):=by
 refine y2b (us:=[vlst (List.map z0n r.1)]) (cs':=(z3b r.2)) (by kernel_rfl) Tryz.func83 rfl rfl rfl rfl fun X bl hN => ?_
 unfold z1c at H
 refine z0c ?_
 refine z0b hN rfl ?_
 refine qe rfl ?_
 refine z0c ?_
 refine z0c ?_
 refine z0b hN rfl ?_
 refine z0a (z0h (.ptr _ _) rfl) ?_
 refine z0a (z2d rfl) ?_
 refine z0a (z0r y4q rfl) ?_
 refine z0y (z0s tyS4 rfl rfl) rfl ?_
 refine z0j _ rfl (fun h4 => ?_) (fun h4 => ?_)
 ·replace H:=ift h4 H
  refine z0c ?_
  refine z0b hN rfl ?_
  refine qe rfl ?_
  refine z0m ?_
  cases H
  exact ⟨trivial,⟨.inr ⟨rfl,rfl⟩,trivial⟩,rfl⟩
 ·replace H:=iff_ h4 H
  refine z0l ?_
  refine z0c ?_
  refine z0c ?_
  refine z5o mixed hN rfl rfl ?_
  refine z0a (z0h (.ptr _ _) rfl) ?_
  refine z0a (z2d rfl) ?_
  refine z0a (z0r y2o rfl) ?_
  refine z0y (z0s tyS3 rfl rfl) rfl ?_
  refine z0a (z0h (.ptr _ _) rfl) ?_
  refine z0a (z2d rfl) ?_
  refine z0a (z0r y7f rfl) ?_
  refine z0y (z0s z7t rfl rfl) rfl ?_
  refine z0a (z8d z9v rfl) ?_
  refine z0a (z2a rfl rfl) ?_
  refine ⟨rfl,?_⟩
  refine z0j _ rfl (fun h5 => ?_) (fun h5 => ?_)
  ·replace H:=ift h5 H
   refine z0c ?_
   refine z0b hN rfl ?_
   refine z0a (z0h (.ptr _ _) rfl) ?_
   refine qd rfl ?_
   refine z0a (z2d rfl) ?_
   refine z0a (z0r y4q rfl) ?_
   refine z0k (z1m tyS4 rfl rfl rfl rfl) rfl ?_
   refine z0c ?_
   refine z0b hN rfl ?_
   refine qe rfl ?_
   refine z0m ?_
   cases H
   exact ⟨trivial,⟨.inr ⟨rfl,rfl⟩,trivial⟩,rfl⟩
  ·replace H:=iff_ h5 H
   refine z0l ?_
   refine z0c ?_
   refine z5o mixed hN rfl rfl ?_
   refine z0a (z0h (.ptr _ _) rfl) ?_
   refine z0a (z2d rfl) ?_
   refine z0a (z0r y7f rfl) ?_
   refine z0y (z0s z7t rfl rfl) rfl ?_
   refine z0a (z0h (.ptr _ _) rfl) ?_
   refine z0a (z2d rfl) ?_
   refine z0a (z0r y2o rfl) ?_
   refine z0y (z0s tyS3 rfl rfl) rfl ?_
   obtain ⟨x6,h7,H⟩:=bnd H
   refine z0a (y23 z88 (fun _=>rfl) rfl rfl h7) ?_
   refine z0a (z0w tyS9 rfl (z3m (z7s h7).2) rfl) ?_
   obtain ⟨r8,h9,H⟩:=bnd H
   refine z0a (z0o (y7s x6 [32] r8 h9) ⟨.inl rfl,.inl rfl,trivial⟩) ?_
   refine qd rfl ?_
   refine z0a (z1q rfl rfl) ?_
   refine z0a (z1q rfl rfl) ?_
   refine z0a (z1q rfl rfl) ?_
   refine qe rfl ?_
   refine qe rfl ?_
   refine qe rfl ?_
   refine ⟨rfl,?_⟩
   refine z0c ?_
   refine z0c ?_
   refine z0b hN rfl ?_
   refine qd rfl ?_
   refine qd rfl ?_
   refine z0a (z8k rfl rfl) ?_
   refine z0j _ rfl (fun h10 => ?_) (fun h10 => ?_)
   ·replace H:=ift h10 H
    refine z0c ?_
    refine z0b hN rfl ?_
    refine z0a (z0h (.ptr _ _) rfl) ?_
    refine qd rfl ?_
    refine z0a (z2d rfl) ?_
    refine z0a (z0r y4q rfl) ?_
    refine z0k (z1m tyS4 rfl rfl rfl rfl) rfl ?_
    refine z0c ?_
    refine z0b hN rfl ?_
    refine qe rfl ?_
    refine z0m ?_
    cases H
    exact ⟨trivial,⟨.inr ⟨rfl,rfl⟩,trivial⟩,rfl⟩
   ·replace H:=iff_ h10 H
    refine z0l ?_
    refine z0c ?_
    refine z0b hN rfl ?_
    refine qd rfl ?_
    obtain ⟨r11,h12,H⟩:=bnd H
    refine z0a (z0o (x49 r8.2.1 r11 h12) ⟨.inl rfl,trivial⟩) ?_
    refine qd rfl ?_
    refine z0a (z1q rfl rfl) ?_
    refine z0a (z1q rfl rfl) ?_
    refine qe rfl ?_
    refine qe rfl ?_
    refine z0c ?_
    refine z0c ?_
    refine z5o mixed hN rfl rfl ?_
    refine qd rfl ?_
    refine z0a (z3t rfl) ?_
    refine qd rfl ?_
    refine z2r rfl rfl (fun hc=>z0h (.ptr _ _) rfl) ?_
    refine z2r rfl rfl (fun hc=>z2d (cnd (c:=(!(!r11.2))) hc)) ?_
    refine z2r rfl rfl (fun hc=>z0r x5n (cnd (c:=(!(!r11.2))) hc)) ?_
    refine y5r rfl rfl (fun hc=>z0s tyS4 (cnd (c:=(!(!r11.2))) hc) rfl) rfl x30 ?_
    refine z2r rfl rfl (fun hc=>z3t (cnd (c:=(!(!r11.2))) hc)) ?_
    refine z2r rfl rfl (fun hc=>z0h (.dat _) (cnd (c:=(!(!r11.2))) hc)) ?_
    refine z86 rfl rfl (fun hc=>z0h (.ptr _ _) rfl) ?_
    refine z86 rfl rfl (fun hc=>z2d (cnd (c:=((!(!r11.2)) && (!s1.ended_))) hc)) ?_
    refine z86 rfl rfl (fun hc=>z0r y2o (cnd (c:=((!(!r11.2)) && (!s1.ended_))) hc)) ?_
    refine x8r rfl rfl (fun hc=>z0s tyS3 (cnd (c:=((!(!r11.2)) && (!s1.ended_))) hc) rfl) rfl x30 ?_
    refine z86 rfl rfl (fun hc=>z0h (.ptr _ _) rfl) ?_
    refine z86 rfl rfl (fun hc=>z2d (cnd (c:=((!(!r11.2)) && (!s1.ended_))) hc)) ?_
    refine z86 rfl rfl (fun hc=>z0r y7f (cnd (c:=((!(!r11.2)) && (!s1.ended_))) hc)) ?_
    refine x8r rfl rfl (fun hc=>z0s z7t (cnd (c:=((!(!r11.2)) && (!s1.ended_))) hc) rfl) rfl x30 ?_
    refine z86 rfl rfl (fun hc=>z8d z9v (cnd (c:=((!(!r11.2)) && (!s1.ended_))) hc)) ?_
    refine z86 rfl rfl (fun hc=>z1a _ (cnd (c:=((!(!r11.2)) && (!s1.ended_))) hc) rfl (.inr (.inl ⟨rfl,rfl⟩))) ?_
    refine z86 rfl rfl (fun hc=>z2a (cnd (c:=((!(!r11.2)) && (!s1.ended_))) hc) (cnd (c:=((!(!r11.2)) && (!s1.ended_))) hc)) ?_
    refine z2r rfl rfl (fun hc=>z11 (cnd (c:=(!(!r11.2))) hc) (fun hb=>(cnd (c:=((!(!r11.2)) && (!s1.ended_))) (andI hc hb))) rfl) ?_
    refine z0a (z3f rfl rfl (fun hb=>(cnd (c:=(!(!r11.2))) (notI hb)))) ?_
    refine ⟨rfl,?_⟩
    refine z0j _ rfl (fun h13 => ?_) (fun h13 => ?_)
    ·replace H:=ift h13 H
     refine z0c ?_
     refine z0b hN rfl ?_
     refine z0a (z0h (.ptr _ _) rfl) ?_
     refine z0a (z2d rfl) ?_
     refine z0a (z0r y4q rfl) ?_
     refine z0k (z1m tyS4 rfl rfl rfl rfl) rfl ?_
     refine z0c ?_
     refine z0b hN rfl ?_
     refine qe rfl ?_
     refine z0m ?_
     cases H
     exact ⟨trivial,⟨.inr ⟨rfl,rfl⟩,trivial⟩,rfl⟩
    ·replace H:=iff_ h13 H
     refine z0l ?_
     refine z0c ?_
     refine z0b hN rfl ?_
     refine z0a (z0h (.ptr _ _) rfl) ?_
     refine z0a (z2d rfl) ?_
     refine z0a (z0r y2o rfl) ?_
     refine z0y (z0s tyS3 rfl rfl) rfl ?_
     refine z0a (z1a _ rfl rfl (.inl ⟨rfl,rfl⟩)) ?_
     refine z0a (z2d rfl) ?_
     refine z0a (z0r y2o rfl) ?_
     refine z0k (z1m tyS3 rfl rfl rfl rfl) rfl ?_
     refine z0c ?_
     refine z0b hN rfl ?_
     refine qd rfl ?_
     refine qe rfl ?_
     refine z0m ?_
     cases H
     exact ⟨trivial,⟨.inl rfl,trivial⟩,rfl⟩
theorem z8o (s1:z0i) (word2:Bs) (must3:Bool) (r:(Bs×z0i)) (H:z1b s1 word2 must3=some r):Imp Tryz.prog 82 102 (z3b s1) [vstr word2,z01 must3] (z1s [vstr r.1]) (z3b r.2):=by
 refine y2b (us:=[vstr r.1]) (cs':=(z3b r.2)) (by kernel_rfl) Tryz.func82 rfl rfl rfl rfl fun X bl hN => ?_
 unfold z1b at H
 refine z0c ?_
 refine z0b hN rfl ?_
 refine qe rfl ?_
 refine z0c ?_
 refine z0b hN rfl ?_
 refine z0a (z0h (.ptr _ _) rfl) ?_
 refine qd rfl ?_
 refine qd rfl ?_
 obtain ⟨r4,h5,H⟩:=bnd H
 refine z0k (z1e (z8b s1 word2 must3 r4 h5) rfl ⟨.inl rfl,.inl rfl,trivial⟩ rfl) rfl ?_
 refine qe rfl ?_
 refine z0z (ι:=Int×Bool) (fun i=>[(7,.dat (vlst (List.map z0n r4.1)))]) (fun i=>[(0,.box (some bl) 102 [.dat (vlst (List.map z0n r4.2.lines_)),.dat (z01 r4.2.ended_),.dat (vint i.1),.dat (z01 i.2)])]) (fun i=>z5a r4 i.1 i.2=some r) (fun i=>rfl) ?_ ?_
 ·skip
  refine z0c ?_
  refine z0b hN rfl ?_
  refine qd rfl ?_
  refine z0a (z8d z9v rfl) ?_
  refine z0a (z29 rfl rfl) ?_
  refine z0j _ rfl (fun h6 => ?_) (fun h6 => ?_)
  ·replace H:=ift h6 H
   refine z0c ?_
   refine z0b hN rfl ?_
   refine z0a (z0h (.ptr _ _) rfl) ?_
   refine z0a (z2d rfl) ?_
   refine z0a (z0r y4q rfl) ?_
   refine z0k (z1m tyS4 rfl rfl rfl rfl) rfl ?_
   refine z0b hN rfl ?_
   refine z0a (z0h (.ptr _ _) rfl) ?_
   refine z0a (z2d rfl) ?_
   refine z0a (z0r y2o rfl) ?_
   refine z0y (z0s tyS3 rfl rfl) rfl ?_
   refine z0a (z1a _ rfl rfl (.inr (.inl ⟨rfl,rfl⟩))) ?_
   refine z0a (z2d rfl) ?_
   refine z0a (z0r y2o rfl) ?_
   refine z0k (z1m tyS3 rfl rfl rfl rfl) rfl ?_
   exact ⟨(wr (r4.2.at_ - 1),true),H,⟨rfl,trivial⟩,⟨rfl,trivial⟩⟩
  ·replace H:=iff_ h6 H
   refine z0l ?_
   exact ⟨(r4.2.at_,r4.2.bad_),H,⟨rfl,trivial⟩,⟨rfl,trivial⟩⟩
 ·rintro ⟨c7,c8⟩ H
  replace H:z5a r4 c7 c8=some r:=H
  unfold z5a at H
  refine z0c ?_
  refine z0c ?_
  refine z0b hN rfl ?_
  refine qd rfl ?_
  refine z0a (z8d z9v rfl) ?_
  refine z0a (z68 rfl rfl) ?_
  refine z0j _ rfl (fun h9 => ?_) (fun h9 => ?_)
  ·replace H:=ift h9 H
   refine z0c ?_
   refine z0b hN rfl ?_
   refine qe rfl ?_
   refine z0m ?_
   cases H
   exact ⟨trivial,⟨.inl rfl,trivial⟩,rfl⟩
  ·replace H:=iff_ h9 H
   refine z0l ?_
   refine z0c ?_
   refine z0b hN rfl ?_
   refine qd rfl ?_
   obtain ⟨x10,h11,H⟩:=bnd H
   refine z0a (y00 z88 (fun _=>rfl) rfl rfl h11) ?_
   refine z0a (z0w tyS9 rfl (z3m h11) rfl) ?_
   refine qe rfl ?_
   refine z0m ?_
   cases H
   exact ⟨trivial,⟨.inl rfl,trivial⟩,rfl⟩
theorem y3y (s p:Bs) (r:Bs) (H:z7k s p=some r):Fn Tryz.prog 161 [vstr s,vstr p] (z1s [vstr r]):=by
 unfold z7k at H
 cases H
 refine y1t (by kernel_rfl) fun M w vs hM h => ?_
 have hv:=y3w (us:=[.string ⟨s.toArray⟩,.string ⟨p.toArray⟩]) h
 subst hv
 refine (Tryz.strings_TrimPrefix ⟨s.toArray⟩ ⟨p.toArray⟩ w).mono ?_
 rintro e w' ⟨rfl,rfl⟩
 exact ⟨_,rfl,rfl,Kp.refl _ _⟩

theorem y5w (v1:Bs) (r:(Int×Int)) (H:z4p v1=some r):Fn Tryz.prog 184 [vstr v1] (z1s [vint r.1,verr r.2]):=by
 refine ⟨by kernel_rfl,z1g (us:=[vint r.1,verr r.2]) Tryz.func184 rfl rfl rfl rfl fun X hN => ?_⟩
 unfold z4p at H
 refine z0c ?_
 refine z0b hN rfl ?_
 refine qe rfl ?_
 refine qe rfl ?_
 refine z0c ?_
 refine z0b hN rfl ?_
 refine qd rfl ?_
 refine z0a (z1j tyU9 rfl) ?_
 refine qe rfl ?_
 refine z0c ?_
 refine z0c ?_
 refine z0b hN rfl ?_
 refine qd rfl ?_
 refine z5y (s := .dat (vint (v1.length:Int))) rfl rfl (fun hc=>z0h (.dat _) rfl) ?_
 refine z5y (s := .dat (z01 (decide (0 < (v1.length:Int))))) rfl rfl (fun hc=>z04 rfl (cnd (c:=false) (s := .dat (vint (v1.length:Int))) hc)) ?_
 refine z5y (s := .dat (z01 (decide (0 < (v1.length:Int))))) rfl rfl (fun hc=>z0h (.dat _) (cnd (c:=false) (s := .dat (z01 (decide (0 < (v1.length:Int))))) hc)) ?_
 refine z86 (s := .dat (vint (v1.length:Int))) (c:=false) (b:=decide (0 < (v1.length:Int))) rfl rfl (fun hc=>z0h (.dat _) rfl) ?_
 refine z86 (s := .dat (z01 (decide ((v1.length:Int) < 10)))) (c:=false) (b:=decide (0 < (v1.length:Int))) rfl rfl (fun hc=>z04 (cnd (c:=(false && (decide (0 < (v1.length:Int))))) (s := .dat (vint (v1.length:Int))) hc) rfl) ?_
 refine z5y (s := .dat (z01 ((decide (0 < (v1.length:Int))) && (decide ((v1.length:Int) < 10))))) rfl rfl (fun hc=>z11 (cnd (c:=false) (s := .dat (z01 (decide (0 < (v1.length:Int))))) hc) (fun hb=>(cnd (c:=(false && (decide (0 < (v1.length:Int))))) (s := .dat (z01 (decide ((v1.length:Int) < 10)))) (andI hc hb))) rfl) ?_
 refine z0a (z11 rfl (fun hb=>(cnd (c:=false) (s := .dat (z01 ((decide (0 < (v1.length:Int))) && (decide ((v1.length:Int) < 10))))) hb)) rfl) ?_
 refine qd rfl ?_
 refine z2r (s := .dat (z01 true)) rfl rfl (fun hc=>z0h (.dat _) rfl) ?_
 refine z86 (s := .dat (vint (v1.length:Int))) (c:=(!(false && ((decide (0 < (v1.length:Int))) && (decide ((v1.length:Int) < 10)))))) (b:=true) rfl rfl (fun hc=>z0h (.dat _) rfl) ?_
 refine z86 (s := .dat (z01 (decide (0 < (v1.length:Int))))) (c:=(!(false && ((decide (0 < (v1.length:Int))) && (decide ((v1.length:Int) < 10)))))) (b:=true) rfl rfl (fun hc=>z04 rfl (cnd (c:=((!(false && ((decide (0 < (v1.length:Int))) && (decide ((v1.length:Int) < 10))))) && true)) (s := .dat (vint (v1.length:Int))) hc)) ?_
 refine z86 (s := .dat (z01 (decide (0 < (v1.length:Int))))) (c:=(!(false && ((decide (0 < (v1.length:Int))) && (decide ((v1.length:Int) < 10)))))) (b:=true) rfl rfl (fun hc=>z0h (.dat _) (cnd (c:=((!(false && ((decide (0 < (v1.length:Int))) && (decide ((v1.length:Int) < 10))))) && true)) (s := .dat (z01 (decide (0 < (v1.length:Int))))) hc)) ?_
 refine z86 (s := .dat (vint (v1.length:Int))) (c:=((!(false && ((decide (0 < (v1.length:Int))) && (decide ((v1.length:Int) < 10))))) && true)) (b:=decide (0 < (v1.length:Int))) rfl rfl (fun hc=>z0h (.dat _) rfl) ?_
 refine z86 (s := .dat (z01 (decide ((v1.length:Int) < 19)))) (c:=((!(false && ((decide (0 < (v1.length:Int))) && (decide ((v1.length:Int) < 10))))) && true)) (b:=decide (0 < (v1.length:Int))) rfl rfl (fun hc=>z04 (cnd (c:=(((!(false && ((decide (0 < (v1.length:Int))) && (decide ((v1.length:Int) < 10))))) && true) && (decide (0 < (v1.length:Int))))) (s := .dat (vint (v1.length:Int))) hc) rfl) ?_
 refine z86 (s := .dat (z01 ((decide (0 < (v1.length:Int))) && (decide ((v1.length:Int) < 19))))) (c:=(!(false && ((decide (0 < (v1.length:Int))) && (decide ((v1.length:Int) < 10)))))) (b:=true) rfl rfl (fun hc=>z11 (cnd (c:=((!(false && ((decide (0 < (v1.length:Int))) && (decide ((v1.length:Int) < 10))))) && true)) (s := .dat (z01 (decide (0 < (v1.length:Int))))) hc) (fun hb=>(cnd (c:=(((!(false && ((decide (0 < (v1.length:Int))) && (decide ((v1.length:Int) < 10))))) && true) && (decide (0 < (v1.length:Int))))) (s := .dat (z01 (decide ((v1.length:Int) < 19)))) (andI hc hb))) rfl) ?_
 refine z2r (s := .dat (z01 (true && ((decide (0 < (v1.length:Int))) && (decide ((v1.length:Int) < 19)))))) rfl rfl (fun hc=>z11 (cnd (c:=(!(false && ((decide (0 < (v1.length:Int))) && (decide ((v1.length:Int) < 10)))))) (s := .dat (z01 true)) hc) (fun hb=>(cnd (c:=((!(false && ((decide (0 < (v1.length:Int))) && (decide ((v1.length:Int) < 10))))) && true)) (s := .dat (z01 ((decide (0 < (v1.length:Int))) && (decide ((v1.length:Int) < 19))))) (andI hc hb))) rfl) ?_
 refine z0a (z3f rfl rfl (fun hb=>(cnd (c:=(!(false && ((decide (0 < (v1.length:Int))) && (decide ((v1.length:Int) < 10)))))) (s := .dat (z01 (true && ((decide (0 < (v1.length:Int))) && (decide ((v1.length:Int) < 19)))))) (notI hb)))) ?_
 refine z0j _ rfl (fun h2 => ?_) (fun h2 => ?_)
 ·replace H:=ift h2 H
  refine z0c ?_
  refine z0b hN rfl ?_
  refine qd rfl ?_
  refine qe rfl ?_
  refine z0z (ι:=Bs) (fun i=>[(0,.dat (vstr i)),(5,.dat (vstr v1))]) (fun i=>[]) (fun i=>z34 v1 i=some r) (fun i=>rfl) ?_ ?_
  ·skip
   refine z0z (ι:=Bool) (fun i=>[(0,.dat (vstr v1)),(5,.dat (vstr v1)),(39,.dat (z01 i))]) (fun i=>[]) (fun i=>z33 v1 i=some r) (fun i=>rfl) ?_ ?_
   ·skip
    refine z0b hN rfl ?_
    refine qd rfl ?_
    obtain ⟨x3,h4,H⟩:=bnd H
    refine z0a (z9h tyU9 rfl rfl h4) ?_
    refine z0a (z2a rfl rfl) ?_
    refine qd rfl ?_
    refine z08 (j:=3) rfl rfl (fun h5 => ?_) (fun h5 => ?_) rfl
    ·have h6:=un3 h5
     replace H:=iff_ h6 H
     refine z0p rfl rfl h5 (z0h (.dat _) rfl) ?_
     refine z0p rfl rfl h5 (z9h tyU9 rfl rfl h4) ?_
     refine z0p rfl rfl h5 (z2a rfl rfl) ?_
     refine z0a (z0x rfl (bFF h6) rfl) ?_
     exact ⟨decide ((x3.toNat:Int)=43),H,⟨rfl,rfl,rfl,trivial⟩,trivial⟩
    ·have h7:=un4 h5
     replace H:=ift h7 H
     refine z0f rfl rfl h5 ?_
     refine z0f rfl rfl h5 ?_
     refine z0f rfl rfl h5 ?_
     refine z0a (z0v rfl (bTT h7) rfl) ?_
     exact ⟨true,H,⟨rfl,rfl,rfl,trivial⟩,trivial⟩
   ·rintro v8 H
    replace H:z33 v1 v8=some r:=H
    unfold z33 at H
    refine z0j _ rfl (fun h9 => ?_) (fun h9 => ?_)
    ·replace H:=ift h9 H
     refine z0c ?_
     refine z0b hN rfl ?_
     refine qd rfl ?_
     obtain ⟨l10,h11,H⟩:=bnd H
     refine z0a (y0h tyU9 rfl rfl rfl h11) ?_
     refine qe rfl ?_
     refine z0c ?_
     refine z0b hN rfl ?_
     refine qd rfl ?_
     refine z0a (z1j tyU9 rfl) ?_
     refine z0a (z04 rfl rfl) ?_
     refine z0j _ rfl (fun h12 => ?_) (fun h12 => ?_)
     ·replace H:=ift h12 H
      refine z0c ?_
      refine z0b hN rfl ?_
      refine z0a (z09 (u':=verr 2) (z90 (show Tryz.prog.underlying 151=some (.int .i64) from by kernel_rfl) rfl) rfl) ?_
      refine qe rfl ?_
      refine qe rfl ?_
      refine z0m ?_
      cases H
      exact ⟨trivial,.inl rfl,.inl rfl,trivial⟩
     ·replace H:=iff_ h12 H
      refine z0l ?_
      exact ⟨l10,H,⟨rfl,rfl,trivial⟩,trivial⟩
    ·replace H:=iff_ h9 H
     refine z0l ?_
     exact ⟨v1,H,⟨rfl,rfl,trivial⟩,trivial⟩
  ·rintro v13 H
   replace H:z34 v1 v13=some r:=H
   unfold z34 at H
   refine z0c ?_
   refine z0b hN rfl ?_
   refine qe rfl ?_
   refine z0c ?_
   refine z0c ?_
   refine z0b hN rfl ?_
   refine qd rfl ?_
   refine z0a (y9m (C:=z4z) tyU9 x0k tyU5 (fun _=>rfl) rfl) ?_
   refine z0a (z8d x0k rfl) ?_
   refine qd rfl ?_
   refine z0u ?_
   obtain ⟨h17,H⟩:=gif H
   refine z6c (fun (k15:Nat) (s:Int)=>[(5,.dat (vstr v1)),(6,.dat (vint s)),(47,.dat (vlst (List.map z4z (y0v v13)))),(48,.dat (vint ((y0v v13).length:Int))),(49,.dat (vint (k15:Int)))]) (fun (k15:Nat) (s:Int)=>[]) 0 H ⟨rfl,rfl,rfl,rfl,rfl,trivial⟩ trivial (fun _ _=>rfl) ?_ ?_
   ·rintro v14 H
    replace H:z35 v1 v14=some r:=H
    unfold z35 at H
    refine z0c ?_
    refine z0b hN rfl ?_
    refine z0a (z04 rfl rfl) ?_
    refine z0c ?_
    refine z0j _ rfl (fun h=>(lt_t h).elim) (fun h => ?_)
    refine z14 ?_
    refine z0z (ι:=Int) (fun i=>[(6,.dat (vint i))]) (fun i=>[]) (fun i=>z32 i=some r) (fun i=>rfl) ?_ ?_
    ·skip
     refine z0c ?_
     refine z0b hN rfl ?_
     refine qd rfl ?_
     obtain ⟨x19,h20,H⟩:=bnd H
     refine z0a (z9h tyU9 rfl rfl h20) ?_
     refine z0a (z2a rfl rfl) ?_
     refine z0j _ rfl (fun h21 => ?_) (fun h21 => ?_)
     ·replace H:=ift h21 H
      refine z0b hN rfl ?_
      refine qd rfl ?_
      obtain ⟨h22,H⟩:=gif H
      refine z0a (x4i rfl h22) ?_
      refine qe rfl ?_
      exact ⟨(-v14),H,⟨rfl,trivial⟩,trivial⟩
     ·replace H:=iff_ h21 H
      refine z0l ?_
      exact ⟨v14,H,⟨rfl,trivial⟩,trivial⟩
    ·rintro v23 H
     replace H:z32 v23=some r:=H
     unfold z32 at H
     refine z0c ?_
     refine z0b hN rfl ?_
     refine qd rfl ?_
     refine qe rfl ?_
     refine qe rfl ?_
     refine z0m ?_
     cases H
     exact ⟨trivial,.inl rfl,.inl rfl,trivial⟩
   ·rintro k15 x18 v14 q16 h24 h25 H hq16
    replace H:z5r k15 x18 v14=some q16:=H
    unfold z5r at H
    refine z0c ?_
    refine z0b hN rfl ?_
    refine z0a (z04 rfl rfl) ?_
    refine z0c ?_
    refine z0j _ rfl (fun h => ?_) (fun h=>(lt_f h24 h).elim)
    refine z0l ?_
    refine z0c ?_
    refine z0u ?_
    refine z0c ?_
    refine z0b hN rfl ?_
    refine z0a (y00 w49 (fun _=>rfl) rfl rfl h25) ?_
    refine z0a (z0w tyS5 rfl (z3m h25) rfl) ?_
    refine qe rfl ?_
    refine z0c ?_
    refine z0b hN rfl ?_
    refine qd rfl ?_
    refine z0a (z1a _ rfl rfl (.inr (.inl ⟨rfl,rfl⟩))) ?_
    refine qe rfl ?_
    refine z0c ?_
    refine z0c ?_
    refine z0b hN rfl ?_
    refine qd rfl ?_
    refine z0a (z29 rfl rfl) ?_
    refine z0j _ rfl (fun h26 => ?_) (fun h26 => ?_)
    ·replace H:=ift h26 H
     refine z0c ?_
     refine z0b hN rfl ?_
     refine z0a (z09 (u':=verr 2) (z90 (show Tryz.prog.underlying 151=some (.int .i64) from by kernel_rfl) rfl) rfl) ?_
     refine qe rfl ?_
     refine qe rfl ?_
     refine z0m ?_
     replace H:=retl H hq16
     cases H
     exact ⟨trivial,.inl rfl,.inl rfl,trivial⟩
    ·replace H:=iff_ h26 H
     refine z0l ?_
     refine z0b hN rfl ?_
     refine qd rfl ?_
     refine z0a (z1a _ rfl rfl (.inr (.inr ⟨rfl,rfl⟩))) ?_
     refine qd rfl ?_
     refine z0a (z6k tyU5 tyU3 rfl) ?_
     refine z0a (z1a _ rfl rfl (.inl ⟨rfl,rfl⟩)) ?_
     refine qe rfl ?_
     refine z0b hN rfl ?_
     refine z0a (z5w rfl rfl (by omega)) ?_
     refine qd rfl ?_
     exact ⟨_,z9s H,⟨rfl,rfl,rfl,rfl,rfl,trivial⟩,trivial⟩
 ·replace H:=iff_ h2 H
  refine z0l ?_
  refine z0c ?_
  refine z0b hN rfl ?_
  refine qd rfl ?_
  obtain ⟨r27,h28,H⟩:=bnd H
  refine z0a (z0o (y1s v1 10 0 r27 h28) ⟨.inl rfl,.inl rfl,.inl rfl,trivial⟩) ?_
  refine qd rfl ?_
  refine z0a (z1q rfl rfl) ?_
  refine z0a (z1q rfl rfl) ?_
  refine qe rfl ?_
  refine qe rfl ?_
  refine z0c ?_
  refine z0b hN rfl ?_
  refine qd rfl ?_
  refine qd rfl ?_
  refine qe rfl ?_
  refine qe rfl ?_
  refine z0m ?_
  cases H
  exact ⟨trivial,.inl rfl,.inl rfl,trivial⟩
theorem y6w (s1:Bs) (r:(Int×Int)) (H:z79 s1=some r):Fn Tryz.prog 162 [vstr s1] (z1s [vint r.1,verr r.2]):=by
 refine ⟨by kernel_rfl,z1g (us:=[vint r.1,verr r.2]) Tryz.func162 rfl rfl rfl rfl fun X hN => ?_⟩
 unfold z79 at H
 refine z0c ?_
 refine z0b hN rfl ?_
 refine qe rfl ?_
 refine qe rfl ?_
 refine z0c ?_
 refine z0b hN rfl ?_
 refine qd rfl ?_
 obtain ⟨r2,h3,H⟩:=bnd H
 refine z0a (z0o (y5w s1 r2 h3) ⟨.inl rfl,trivial⟩) ?_
 refine qd rfl ?_
 refine z0a (z1q rfl rfl) ?_
 refine z0a (z1q rfl rfl) ?_
 refine qe rfl ?_
 refine qe rfl ?_
 refine z0c ?_
 refine z0c ?_
 refine z0b hN rfl ?_
 refine qd rfl ?_
 refine z0a (y71 (n:=r2.2) (show Tryz.prog.underlying 90=some (.interface (Tryz.prog.methodsAt 90)) from by kernel_rfl) rfl) ?_
 refine z0j _ rfl (fun h4 => ?_) (fun h4 => ?_)
 ·replace H:=ift h4 H
  refine z0c ?_
  refine z0b hN rfl ?_
  refine qd rfl ?_
  refine qd rfl ?_
  refine qd rfl ?_
  obtain ⟨r5,h6,H⟩:=bnd H
  refine z0a (z0o (y5c [65,116,111,105] s1 0 0 r2.2 r5 h6) ⟨.inl rfl,.inl rfl,.inl rfl,.inl rfl,.inl rfl,trivial⟩) ?_
  refine qe rfl ?_
  refine qe rfl ?_
  refine z0m ?_
  cases H
  exact ⟨trivial,.inl rfl,.inl rfl,trivial⟩
 ·replace H:=iff_ h4 H
  refine z0l ?_
  refine z0c ?_
  refine z0b hN rfl ?_
  refine qd rfl ?_
  refine qe rfl ?_
  refine qe rfl ?_
  refine z0m ?_
  cases H
  exact ⟨trivial,.inl rfl,.inl rfl,trivial⟩
theorem y8i (s1:Bs) (most2:Int) (r:(Int×Bool)) (H:y0s s1 most2=some r):Fn Tryz.prog 119 [vstr s1,vint most2] (z1s [vint r.1,z01 r.2]):=by
 refine ⟨by kernel_rfl,z1g (us:=[vint r.1,z01 r.2]) Tryz.func119 rfl rfl rfl rfl fun X hN => ?_⟩
 unfold y0s at H
 refine z0c ?_
 refine z0b hN rfl ?_
 refine qe rfl ?_
 refine qe rfl ?_
 refine z0c ?_
 refine z0b hN rfl ?_
 refine qd rfl ?_
 obtain ⟨r3,h4,H⟩:=bnd H
 refine z0a (z0o (y3y s1 [45] r3 h4) ⟨.inl rfl,.inl rfl,trivial⟩) ?_
 refine qe rfl ?_
 refine z0c ?_
 refine z0z (ι:=Bool) (fun i=>[(0,.dat (vstr s1)),(6,.dat (vstr r3)),(28,.dat (z01 i))]) (fun i=>[]) (fun i=>z5k s1 r3 i=some r) (fun i=>rfl) ?_ ?_
 ·skip
  refine z0b hN rfl ?_
  refine qd rfl ?_
  refine z0a (z65 rfl rfl) ?_
  refine qd rfl ?_
  refine z08 (j:=2) rfl rfl (fun h5 => ?_) (fun h5 => ?_) rfl
  ·have h6:=un3 h5
   replace H:=iff_ h6 H
   refine z0p rfl rfl h5 (z0h (.dat _) rfl) ?_
   refine z0p rfl rfl h5 (z1j tyU9 rfl) ?_
   refine z0p rfl rfl h5 (z0h (.dat _) rfl) ?_
   refine z0p rfl rfl h5 (z29 rfl rfl) ?_
   refine z0a (z0x rfl (bFF h6) rfl) ?_
   refine qd rfl ?_
   refine z08 (j:=8) rfl rfl (fun h7 => ?_) (fun h7 => ?_) rfl
   ·have h8:=un3 h7
    replace H:=iff_ h8 H
    refine z0p rfl rfl h7 (z0h (.dat _) rfl) ?_
    obtain ⟨x9,h10,H⟩:=bnd H
    refine z0p rfl rfl h7 (z9h tyU9 rfl rfl h10) ?_
    refine z0p rfl rfl h7 (z2a rfl rfl) ?_
    refine z0p rfl rfl h7 (z0h (.dat _) rfl) ?_
    refine z08 (j:=12) rfl rfl (fun h11 => ?_) (fun h11 => ?_) rfl
    ·have h12:=un1 h11
     replace H:=ift h12 H
     refine z0p rfl rfl h11 (z0h (.dat _) rfl) ?_
     refine z0p rfl rfl h11 (z8k rfl rfl) ?_
     refine z0p rfl rfl h7 (z0v rfl (bTT h12) rfl) ?_
     refine z0a (z0x rfl (bFF h8) rfl) ?_
     exact ⟨decide (s1≠[48]),H,⟨rfl,rfl,rfl,trivial⟩,trivial⟩
    ·have h13:=un2 h11
     replace H:=iff_ h13 H
     refine z0f rfl rfl h11 ?_
     refine z0f rfl rfl h11 ?_
     refine z0p rfl rfl h7 (z0x rfl (bFF h13) rfl) ?_
     refine z0a (z0x rfl (bFF h8) rfl) ?_
     exact ⟨false,H,⟨rfl,rfl,rfl,trivial⟩,trivial⟩
   ·have h14:=un4 h7
    replace H:=ift h14 H
    refine z0f rfl rfl h7 ?_
    refine z0f rfl rfl h7 ?_
    refine z0f rfl rfl h7 ?_
    refine z0f rfl rfl h7 ?_
    refine z06 rfl rfl ?_
    refine z06 rfl rfl ?_
    refine z0f rfl rfl h7 ?_
    refine z0a (z0v rfl (bTT h14) rfl) ?_
    exact ⟨true,H,⟨rfl,rfl,rfl,trivial⟩,trivial⟩
  ·have h15:=un4 h5
   replace H:=ift h15 H
   refine z0f rfl rfl h5 ?_
   refine z0f rfl rfl h5 ?_
   refine z0f rfl rfl h5 ?_
   refine z0f rfl rfl h5 ?_
   refine z0a (z0v rfl (bTT h15) rfl) ?_
   refine qd rfl ?_
   refine z0f rfl rfl rfl ?_
   refine z0f rfl rfl rfl ?_
   refine z0f rfl rfl rfl ?_
   refine z0f rfl rfl rfl ?_
   refine z06 rfl rfl ?_
   refine z06 rfl rfl ?_
   refine z0f rfl rfl rfl ?_
   refine z0a (z0v rfl rfl rfl) ?_
   exact ⟨true,H,⟨rfl,rfl,rfl,trivial⟩,trivial⟩
 ·rintro v16 H
  replace H:z5k s1 r3 v16=some r:=H
  unfold z5k at H
  refine z0j _ rfl (fun h17 => ?_) (fun h17 => ?_)
  ·replace H:=ift h17 H
   refine z0c ?_
   refine z0b hN rfl ?_
   refine qe rfl ?_
   refine qe rfl ?_
   refine z0m ?_
   cases H
   exact ⟨trivial,.inl rfl,.inl rfl,trivial⟩
  ·replace H:=iff_ h17 H
   refine z0l ?_
   refine z0c ?_
   refine z0c ?_
   refine z0b hN rfl ?_
   refine qe rfl ?_
   refine z0u ?_
   obtain ⟨h20,H⟩:=gif H
   refine z6c (fun (i18:Nat) (s:Unit)=>[(0,.dat (vstr s1)),(6,.dat (vstr r3)),(7,.dat (vint (i18:Int)))]) (fun (i18:Nat) (s:Unit)=>[]) () H ⟨rfl,rfl,rfl,trivial⟩ trivial (fun _ _=>rfl) ?_ ?_
   ·rintro ⟨⟩ H
    replace H:y1y s1=some r:=H
    unfold y1y at H
    refine z0c ?_
    refine z0c ?_
    refine z0b hN rfl ?_
    refine qd rfl ?_
    refine qd rfl ?_
    refine z0a (z1j tyU9 rfl) ?_
    refine z0a (z04 rfl rfl) ?_
    refine z0j _ rfl (fun h=>(lt_t h).elim) (fun h => ?_)
    refine z14 ?_
    refine z0c ?_
    refine z0b hN rfl ?_
    refine qd rfl ?_
    obtain ⟨r22,h23,H⟩:=bnd H
    refine z0a (z0o (y6w s1 r22 h23) ⟨.inl rfl,trivial⟩) ?_
    refine qd rfl ?_
    refine z0a (z1q rfl rfl) ?_
    refine z0a (z1q rfl rfl) ?_
    refine qe rfl ?_
    refine qe rfl ?_
    refine z0c ?_
    refine z5o mixed hN rfl rfl ?_
    refine qd rfl ?_
    refine qd rfl ?_
    refine z0a (x0u (n:=r22.2) (show Tryz.prog.underlying 90=some (.interface (Tryz.prog.methodsAt 90)) from by kernel_rfl) rfl) ?_
    refine qe rfl ?_
    refine qe rfl ?_
    refine ⟨rfl,?_⟩
    refine z0m ?_
    cases H
    exact ⟨trivial,.inl rfl,.inl rfl,trivial⟩
   ·rintro i18 x21 ⟨⟩ q19 h24 h25 H hq19
    replace H:y2x i18 x21=some q19:=H
    unfold y2x at H
    refine z0c ?_
    refine z0c ?_
    refine z0b hN rfl ?_
    refine qd rfl ?_
    refine qd rfl ?_
    refine z0a (z1j tyU9 rfl) ?_
    refine z0a (z04 rfl rfl) ?_
    refine z0j _ rfl (fun h => ?_) (fun h=>(lt_f h24 h).elim)
    refine z0l ?_
    refine z0c ?_
    refine z0u ?_
    refine z0z (ι:=Bool) (fun i=>[(0,.dat (vstr s1)),(6,.dat (vstr r3)),(7,.dat (vint (i18:Int))),(44,.dat (z01 i))]) (fun i=>[]) (fun i=>y2y i=some q19) (fun i=>rfl) ?_ ?_
    ·skip
     refine z0b hN rfl ?_
     refine qd rfl ?_
     refine qd rfl ?_
     refine z0a (z9h tyU9 rfl rfl h25) ?_
     refine z0a (z04 rfl rfl) ?_
     refine qd rfl ?_
     refine z08 (j:=4) rfl rfl (fun h26 => ?_) (fun h26 => ?_) rfl
     ·have h27:=un3 h26
      replace H:=iff_ h27 H
      refine z0p rfl rfl h26 (z0h (.dat _) rfl) ?_
      refine z0p rfl rfl h26 (z0h (.dat _) rfl) ?_
      refine z0p rfl rfl h26 (z9h tyU9 rfl rfl h25) ?_
      refine z0p rfl rfl h26 (z29 rfl rfl) ?_
      refine z0a (z0x rfl (bFF h27) rfl) ?_
      exact ⟨decide (57 < (x21.toNat:Int)),H,⟨rfl,rfl,rfl,rfl,trivial⟩,trivial⟩
     ·have h28:=un4 h26
      replace H:=ift h28 H
      refine z0f rfl rfl h26 ?_
      refine z0f rfl rfl h26 ?_
      refine z0f rfl rfl h26 ?_
      refine z0f rfl rfl h26 ?_
      refine z0a (z0v rfl (bTT h28) rfl) ?_
      exact ⟨true,H,⟨rfl,rfl,rfl,rfl,trivial⟩,trivial⟩
    ·rintro v29 H
     replace H:y2y v29=some q19:=H
     unfold y2y at H
     refine z0j _ rfl (fun h30 => ?_) (fun h30 => ?_)
     ·replace H:=ift h30 H
      refine z0c ?_
      refine z0b hN rfl ?_
      refine qe rfl ?_
      refine qe rfl ?_
      refine z0m ?_
      replace H:=retl H hq19
      cases H
      exact ⟨trivial,.inl rfl,.inl rfl,trivial⟩
     ·replace H:=iff_ h30 H
      refine z0l ?_
      refine z0b hN rfl ?_
      refine qd rfl ?_
      refine z0a (z5w rfl rfl (by omega)) ?_
      refine qe rfl ?_
      exact ⟨_,z9s H,⟨rfl,rfl,rfl,trivial⟩,trivial⟩
theorem y42 (s1:z0i) (r:(Int×Int×z0i)) (H:z2e s1=some r):Imp Tryz.prog 84 102 (z3b s1) [] (z1s [vint r.1,vint r.2.1]) (z3b r.2.2):=by
 refine y2b (us:=[vint r.1,vint r.2.1]) (cs':=(z3b r.2.2)) (by kernel_rfl) Tryz.func84 rfl rfl rfl rfl fun X bl hN => ?_
 unfold z2e at H
 refine z0c ?_
 refine z0b hN rfl ?_
 refine qe rfl ?_
 refine qe rfl ?_
 refine z0c ?_
 refine z0b hN rfl ?_
 refine z0a (z0h (.ptr _ _) rfl) ?_
 obtain ⟨r2,h3,H⟩:=bnd H
 refine z0k (z1e (z8b s1 [116,105,109,101] true r2 h3) rfl ⟨.inl rfl,.inl rfl,trivial⟩ rfl) rfl ?_
 refine qe rfl ?_
 refine z0c ?_
 refine z0c ?_
 refine z0b hN rfl ?_
 refine z0a (z0h (.ptr _ _) rfl) ?_
 refine z0a (z2d rfl) ?_
 refine z0a (z0r y4q rfl) ?_
 refine z0y (z0s tyS4 rfl rfl) rfl ?_
 refine z0j _ rfl (fun h4 => ?_) (fun h4 => ?_)
 ·replace H:=ift h4 H
  refine z0c ?_
  refine z0b hN rfl ?_
  refine qe rfl ?_
  refine qe rfl ?_
  refine z0m ?_
  cases H
  exact ⟨trivial,⟨.inl rfl,.inl rfl,trivial⟩,rfl⟩
 ·replace H:=iff_ h4 H
  refine z0l ?_
  refine z0z (ι:=Unit) (fun i=>[(0,.ptr 0 0)]) (fun i=>[(0,.box (some bl) 102 [.dat (vlst (List.map z0n r2.2.lines_)),.dat (z01 r2.2.ended_),.dat (vint r2.2.at_),.dat (z01 r2.2.bad_)])]) (fun i=>z3e r2=some r) (fun i=>rfl) ?_ ?_
  ·skip
   refine z0c ?_
   refine z0b hN rfl ?_
   refine qd rfl ?_
   refine z0a (z8d z9v rfl) ?_
   refine z0a (z2a rfl rfl) ?_
   refine z0j _ rfl (fun h5 => ?_) (fun h5 => ?_)
   ·replace H:=ift h5 H
    refine z0c ?_
    refine z0b hN rfl ?_
    refine qd rfl ?_
    obtain ⟨x6,h7,H⟩:=bnd H
    refine z0a (y00 z88 (fun _=>rfl) rfl rfl h7) ?_
    refine z0a (z0w tyS9 rfl (z3m h7) rfl) ?_
    obtain ⟨r8,h9,H⟩:=bnd H
    refine z0a (z0o (y8i x6 15 r8 h9) ⟨.inl rfl,.inl rfl,trivial⟩) ?_
    refine qd rfl ?_
    refine z0a (z1q rfl rfl) ?_
    refine z0a (z1q rfl rfl) ?_
    refine qe rfl ?_
    refine qe rfl ?_
    refine z0c ?_
    refine z0b hN rfl ?_
    refine qd rfl ?_
    obtain ⟨x10,h11,H⟩:=bnd H
    refine z0a (y00 z88 (fun _=>rfl) rfl rfl h11) ?_
    refine z0a (z0w tyS9 rfl (z3m h11) rfl) ?_
    obtain ⟨r12,h13,H⟩:=bnd H
    refine z0a (z0o (y8i x10 15 r12 h13) ⟨.inl rfl,.inl rfl,trivial⟩) ?_
    refine qd rfl ?_
    refine z0a (z1q rfl rfl) ?_
    refine z0a (z1q rfl rfl) ?_
    refine qe rfl ?_
    refine qe rfl ?_
    refine z0c ?_
    refine z0b hN rfl ?_
    refine qd rfl ?_
    refine qd rfl ?_
    refine z5y rfl rfl (fun hc=>z0h (.dat _) rfl) ?_
    refine z0a (z11 rfl (fun hb=>(cnd (c:=r8.2) hb)) rfl) ?_
    refine z0j _ rfl (fun h14 => ?_) (fun h14 => ?_)
    ·replace H:=ift h14 H
     refine z0c ?_
     refine z0b hN rfl ?_
     refine qd rfl ?_
     refine qd rfl ?_
     refine qe rfl ?_
     refine qe rfl ?_
     refine z0m ?_
     cases H
     exact ⟨trivial,⟨.inl rfl,.inl rfl,trivial⟩,rfl⟩
    ·replace H:=iff_ h14 H
     refine z0l ?_
     exact ⟨(),H,⟨rfl,trivial⟩,⟨rfl,trivial⟩⟩
   ·replace H:=iff_ h5 H
    refine z0l ?_
    exact ⟨(),H,⟨rfl,trivial⟩,⟨rfl,trivial⟩⟩
  ·rintro ⟨⟩ H
   replace H:z3e r2=some r:=H
   unfold z3e at H
   refine z0c ?_
   refine z0b hN rfl ?_
   refine z0a (z0h (.ptr _ _) rfl) ?_
   refine z0a (z2d rfl) ?_
   refine z0a (z0r y4q rfl) ?_
   refine z0k (z1m tyS4 rfl rfl rfl rfl) rfl ?_
   refine z0c ?_
   refine z0b hN rfl ?_
   refine z0a (z0h (.ptr _ _) rfl) ?_
   refine z0a (z2d rfl) ?_
   refine z0a (z0r y2o rfl) ?_
   refine z0y (z0s tyS3 rfl rfl) rfl ?_
   refine z0a (z1a _ rfl rfl (.inr (.inl ⟨rfl,rfl⟩))) ?_
   refine z0a (z2d rfl) ?_
   refine z0a (z0r y2o rfl) ?_
   refine z0k (z1m tyS3 rfl rfl rfl rfl) rfl ?_
   refine z0c ?_
   refine z0b hN rfl ?_
   refine qe rfl ?_
   refine qe rfl ?_
   refine z0m ?_
   cases H
   exact ⟨trivial,⟨.inl rfl,.inl rfl,trivial⟩,rfl⟩
theorem y7q (v1:Bs) (r:(z0e×Int×Int)) (H:z91 v1=some r):Fn Tryz.prog 50 [vstr v1] (z1s [vagg (z0t r.1),vint r.2.1,vint r.2.2]):=by
 refine ⟨by kernel_rfl,z1g (us:=[vagg (z0t r.1),vint r.2.1,vint r.2.2]) Tryz.func50 rfl rfl rfl rfl fun X hN => ?_⟩
 unfold z91 at H
 refine z0c ?_
 refine z0b hN rfl ?_
 refine z0k (z3c 1 y06 rfl) rfl ?_
 refine qe rfl ?_
 refine qe rfl ?_
 refine z0c ?_
 refine z0c ?_
 refine z0b hN rfl ?_
 refine qd rfl ?_
 refine z0a (z1j tyU9 rfl) ?_
 refine z0a (z29 rfl rfl) ?_
 refine z0j _ rfl (fun h2 => ?_) (fun h2 => ?_)
 ·replace H:=ift h2 H
  refine z0c ?_
  refine z0b hN rfl ?_
  refine z0a (y09 (u':=vagg (z0t (z0e.mk [] [] [] [] [] [] 0 0))) (y1h (by exact ⟨z05,z05,z05,z05,z4g,z4g,z05,z05,trivial⟩)) (z3z [] y06 y4p rfl trivial)) ?_
  refine z0k (z1f z4c rfl rfl rfl rfl) rfl ?_
  refine qe rfl ?_
  refine qe rfl ?_
  refine z0m ?_
  cases H
  exact ⟨trivial,.inl ⟨_,_,_,z0t (z0e.mk [] [] [] [] [] [] 0 0),rfl,rfl,rfl,rfl,z4c⟩,.inl rfl,.inl rfl,trivial⟩
 ·replace H:=iff_ h2 H
  refine z0l ?_
  refine z0c ?_
  refine z0b hN rfl ?_
  refine z0a (y09 (u':=vagg (z3b (z0i.mk [] false 0 false))) (y1h (by exact ⟨z4g,z05,z05,z05,trivial⟩)) (z3z [] w43 w45 rfl trivial)) ?_
  refine z0k (y0e 2 rfl) rfl ?_
  refine z0a (z2b (.ptr _ _) rfl) ?_
  refine z0c ?_
  refine z0b hN rfl ?_
  refine z0a (z0h (.ptr _ _) rfl) ?_
  refine z0a (z0h (.ptr _ _) rfl) ?_
  refine qd rfl ?_
  obtain ⟨r3,h4,H⟩:=bnd H
  refine z0a (z0o (x5a v1 r3 h4) ⟨.inl rfl,trivial⟩) ?_
  refine qd rfl ?_
  refine z0a (z1q rfl rfl) ?_
  refine z0a (z1q rfl rfl) ?_
  refine z0a (z2d rfl) ?_
  refine z0a (z0r y7f rfl) ?_
  refine z0k (z1m z7t rfl rfl rfl rfl) rfl ?_
  refine z0a (z2d rfl) ?_
  refine z0a (z0r x5n rfl) ?_
  refine z0k (z1m tyS4 rfl rfl rfl rfl) rfl ?_
  refine z0c ?_
  refine z0b hN rfl ?_
  refine z0a (y09 (u':=vagg (z0t (z0e.mk [] [] [] [] [] [] 0 0))) (y1h (by exact ⟨z05,z05,z05,z05,z4g,z4g,z05,z05,trivial⟩)) (z3z [] y06 y4p rfl trivial)) ?_
  refine z0k (z3c 3 y06 rfl) rfl ?_
  refine z0k (z1f z4c rfl rfl rfl rfl) rfl ?_
  refine z0c ?_
  refine z0b hN rfl ?_
  refine z0a (z0h (.ptr _ _) rfl) ?_
  obtain ⟨r5,h6,H⟩:=bnd H
  refine z0k (z1e (z8o (z0i.mk r3.1 r3.2 0 false) [105,100] true r5 h6) rfl ⟨.inl rfl,.inl rfl,trivial⟩ rfl) rfl ?_
  refine z0a (z0r y5o rfl) ?_
  refine z0k (z1m tyS9 rfl rfl rfl rfl) rfl ?_
  refine z0c ?_
  refine z0b hN rfl ?_
  refine z0a (z0h (.ptr _ _) rfl) ?_
  obtain ⟨r7,h8,H⟩:=bnd H
  refine z0k (z1e (z8o r5.2 [115,117,98,106,101,99,116] true r7 h8) rfl ⟨.inl rfl,.inl rfl,trivial⟩ rfl) rfl ?_
  refine z0a (z0r y5n rfl) ?_
  refine z0k (z1m tyS9 rfl rfl rfl rfl) rfl ?_
  refine z0c ?_
  refine z0b hN rfl ?_
  refine z0a (z0h (.ptr _ _) rfl) ?_
  obtain ⟨r9,h10,H⟩:=bnd H
  refine z0k (z1e (z8o r7.2 [105,115,115,117,101,114] true r9 h10) rfl ⟨.inl rfl,.inl rfl,trivial⟩ rfl) rfl ?_
  refine z0a (z0r y5m rfl) ?_
  refine z0k (z1m tyS9 rfl rfl rfl rfl) rfl ?_
  refine z0c ?_
  refine z0b hN rfl ?_
  refine z0a (z0h (.ptr _ _) rfl) ?_
  obtain ⟨r11,h12,H⟩:=bnd H
  refine z0k (z1e (z8o r9.2 [112,97,114,101,110,116] false r11 h12) rfl ⟨.inl rfl,.inl rfl,trivial⟩ rfl) rfl ?_
  refine z0a (z0r y25 rfl) ?_
  refine z0k (z1m tyS9 rfl rfl rfl rfl) rfl ?_
  refine z0c ?_
  refine z0b hN rfl ?_
  refine z0a (z0h (.ptr _ _) rfl) ?_
  obtain ⟨r13,h14,H⟩:=bnd H
  refine z0k (z1e (z8b r11.2 [102,111,114] false r13 h14) rfl ⟨.inl rfl,.inl rfl,trivial⟩ rfl) rfl ?_
  refine z0a (z0r y2n rfl) ?_
  refine z0k (z1m z7t rfl rfl rfl rfl) rfl ?_
  refine z0c ?_
  refine z0b hN rfl ?_
  refine z0a (z0h (.ptr _ _) rfl) ?_
  obtain ⟨r15,h16,H⟩:=bnd H
  refine z0k (z1e (z8b r13.2 [109,97,121] false r15 h16) rfl ⟨.inl rfl,.inl rfl,trivial⟩ rfl) rfl ?_
  refine z0a (z0r y2g rfl) ?_
  refine z0k (z1m z7t rfl rfl rfl rfl) rfl ?_
  refine z0c ?_
  refine z0b hN rfl ?_
  refine z0a (z0h (.ptr _ _) rfl) ?_
  obtain ⟨r17,h18,H⟩:=bnd H
  refine z0k (z1e (y42 r15.2 r17 h18) rfl trivial rfl) rfl ?_
  refine qd rfl ?_
  refine z0a (z1q rfl rfl) ?_
  refine z0a (z1q rfl rfl) ?_
  refine z0a (z0r y3p rfl) ?_
  refine z0k (z1m tyS3 rfl rfl rfl rfl) rfl ?_
  refine z0a (z0r y2m rfl) ?_
  refine z0k (z1m tyS3 rfl rfl rfl rfl) rfl ?_
  refine z0c ?_
  refine z0c ?_
  refine z5o mixed hN rfl rfl ?_
  refine z0a (z0h (.ptr _ _) rfl) ?_
  refine z0a (z2d rfl) ?_
  refine z0a (z0r y4q rfl) ?_
  refine z0y (z0s tyS4 rfl rfl) rfl ?_
  refine qd rfl ?_
  refine z2r rfl rfl (fun hc=>z0h (.ptr _ _) rfl) ?_
  refine z2r rfl rfl (fun hc=>z2d (cnd (c:=(!r17.2.2.bad_)) hc)) ?_
  refine z2r rfl rfl (fun hc=>z0r y2o (cnd (c:=(!r17.2.2.bad_)) hc)) ?_
  refine y5r rfl rfl (fun hc=>z0s tyS3 (cnd (c:=(!r17.2.2.bad_)) hc) rfl) rfl x30 ?_
  refine z2r rfl rfl (fun hc=>z0h (.ptr _ _) rfl) ?_
  refine z2r rfl rfl (fun hc=>z2d (cnd (c:=(!r17.2.2.bad_)) hc)) ?_
  refine z2r rfl rfl (fun hc=>z0r y7f (cnd (c:=(!r17.2.2.bad_)) hc)) ?_
  refine y5r rfl rfl (fun hc=>z0s z7t (cnd (c:=(!r17.2.2.bad_)) hc) rfl) rfl x30 ?_
  refine z2r rfl rfl (fun hc=>z8d z9v (cnd (c:=(!r17.2.2.bad_)) hc)) ?_
  refine z2r rfl rfl (fun hc=>z04 (cnd (c:=(!r17.2.2.bad_)) hc) (cnd (c:=(!r17.2.2.bad_)) hc)) ?_
  refine z0a (z3f rfl rfl (fun hb=>(cnd (c:=(!r17.2.2.bad_)) (notI hb)))) ?_
  refine ⟨rfl,?_⟩
  refine z0j _ rfl (fun h19 => ?_) (fun h19 => ?_)
  ·replace H:=ift h19 H
   refine z0c ?_
   refine z5o mixed hN rfl rfl ?_
   refine z0a (y09 (u':=vagg (z0t (z0e.mk [] [] [] [] [] [] 0 0))) (y1h (by exact ⟨z05,z05,z05,z05,z4g,z4g,z05,z05,trivial⟩)) (z3z [] y06 y4p rfl trivial)) ?_
   refine z0a (z0h (.ptr _ _) rfl) ?_
   refine z0a (z2d rfl) ?_
   refine z0a (z0r y2o rfl) ?_
   refine z0y (z0s tyS3 rfl rfl) rfl ?_
   refine z0k (z1f z4c rfl rfl rfl rfl) rfl ?_
   refine qe rfl ?_
   refine qe rfl ?_
   refine ⟨rfl,?_⟩
   refine z0m ?_
   cases H
   exact ⟨trivial,.inl ⟨_,_,_,z0t (z0e.mk [] [] [] [] [] [] 0 0),rfl,rfl,rfl,rfl,z4c⟩,.inl rfl,.inl rfl,trivial⟩
  ·replace H:=iff_ h19 H
   refine z0l ?_
   refine z0c ?_
   refine z0c ?_
   refine z0b hN rfl ?_
   refine z0y (z5v z4c rfl rfl rfl) rfl ?_
   obtain ⟨r20,h21,H⟩:=bnd H
   refine z0a (z0o (y4h (z0e.mk r5.1 r7.1 r9.1 r11.1 r13.1 r15.1 r17.1 r17.2.1) r20 h21) ⟨.inl rfl,trivial⟩) ?_
   refine qe rfl ?_
   refine z0c ?_
   refine z0b hN rfl ?_
   refine qd rfl ?_
   refine z0a (z68 rfl rfl) ?_
   refine z0j _ rfl (fun h22 => ?_) (fun h22 => ?_)
   ·replace H:=ift h22 H
    refine z0c ?_
    refine z0b hN rfl ?_
    refine z0a (y09 (u':=vagg (z0t (z0e.mk [] [] [] [] [] [] 0 0))) (y1h (by exact ⟨z05,z05,z05,z05,z4g,z4g,z05,z05,trivial⟩)) (z3z [] y06 y4p rfl trivial)) ?_
    refine qd rfl ?_
    refine z0k (z1f z4c rfl rfl rfl rfl) rfl ?_
    refine qe rfl ?_
    refine qe rfl ?_
    refine z0m ?_
    cases H
    exact ⟨trivial,.inl ⟨_,_,_,z0t (z0e.mk [] [] [] [] [] [] 0 0),rfl,rfl,rfl,rfl,z4c⟩,.inl rfl,.inl rfl,trivial⟩
   ·replace H:=iff_ h22 H
    refine z0l ?_
    refine z0c ?_
    refine z0b hN rfl ?_
    refine z0y (z5v z4c rfl rfl rfl) rfl ?_
    refine z0k (z1f z4c rfl rfl rfl rfl) rfl ?_
    refine qe rfl ?_
    refine qe rfl ?_
    refine z0m ?_
    cases H
    exact ⟨trivial,.inl ⟨_,_,_,z0t (z0e.mk r5.1 r7.1 r9.1 r11.1 r13.1 r15.1 r17.1 r17.2.1),rfl,rfl,rfl,rfl,z4c⟩,.inl rfl,.inl rfl,trivial⟩
theorem x3o (v1:(List z0g)) (v2:Bs) (v3:Int) (r:(z0e×Int)) (H:y3j v1 v2 v3=some r):Fn Tryz.prog 14 [vlst (List.map z00 v1),vstr v2,vint v3] (z1s [vagg (z0t r.1),vint r.2]):=by
 refine ⟨by kernel_rfl,z1g (us:=[vagg (z0t r.1),vint r.2]) Tryz.func14 rfl rfl rfl rfl fun X hN => ?_⟩
 unfold y3j at H
 refine z0c ?_
 refine z0b hN rfl ?_
 refine z0k (z3c 1 y06 rfl) rfl ?_
 refine qe rfl ?_
 refine z0c ?_
 refine z0c ?_
 refine z0b hN rfl ?_
 refine qd rfl ?_
 obtain ⟨r4,h5,H⟩:=bnd H
 refine z0a (z0o (y3x v1 r4 h5) ⟨.inl rfl,trivial⟩) ?_
 refine qe rfl ?_
 refine z0c ?_
 refine z0b hN rfl ?_
 refine qd rfl ?_
 refine z0a (z68 rfl rfl) ?_
 refine z0j _ rfl (fun h6 => ?_) (fun h6 => ?_)
 ·replace H:=ift h6 H
  refine z0c ?_
  refine z0b hN rfl ?_
  refine z0a (y09 (u':=vagg (z0t (z0e.mk [] [] [] [] [] [] 0 0))) (y1h (by exact ⟨z05,z05,z05,z05,z4g,z4g,z05,z05,trivial⟩)) (z3z [] y06 y4p rfl trivial)) ?_
  refine qd rfl ?_
  refine z0k (z1f z4c rfl rfl rfl rfl) rfl ?_
  refine qe rfl ?_
  refine z0m ?_
  cases H
  exact ⟨trivial,.inl ⟨_,_,_,z0t (z0e.mk [] [] [] [] [] [] 0 0),rfl,rfl,rfl,rfl,z4c⟩,.inl rfl,trivial⟩
 ·replace H:=iff_ h6 H
  refine z0l ?_
  refine z0c ?_
  refine z0c ?_
  refine z0b hN rfl ?_
  refine qd rfl ?_
  obtain ⟨r7,h8,H⟩:=bnd H
  refine z0a (z0o (y4g v3 r7 h8) ⟨.inl rfl,trivial⟩) ?_
  refine qe rfl ?_
  refine z0c ?_
  refine z0b hN rfl ?_
  refine qd rfl ?_
  refine z0a (z68 rfl rfl) ?_
  refine z0j _ rfl (fun h9 => ?_) (fun h9 => ?_)
  ·replace H:=ift h9 H
   refine z0c ?_
   refine z0b hN rfl ?_
   refine z0a (y09 (u':=vagg (z0t (z0e.mk [] [] [] [] [] [] 0 0))) (y1h (by exact ⟨z05,z05,z05,z05,z4g,z4g,z05,z05,trivial⟩)) (z3z [] y06 y4p rfl trivial)) ?_
   refine qd rfl ?_
   refine z0k (z1f z4c rfl rfl rfl rfl) rfl ?_
   refine qe rfl ?_
   refine z0m ?_
   cases H
   exact ⟨trivial,.inl ⟨_,_,_,z0t (z0e.mk [] [] [] [] [] [] 0 0),rfl,rfl,rfl,rfl,z4c⟩,.inl rfl,trivial⟩
  ·replace H:=iff_ h9 H
   refine z0l ?_
   refine z0c ?_
   refine z0b hN rfl ?_
   refine qd rfl ?_
   obtain ⟨r10,h11,H⟩:=bnd H
   refine z0a (z0o (z9p v2 [46] r10 h11) ⟨.inl rfl,.inl rfl,trivial⟩) ?_
   refine z0k (z3c 2 w42 rfl) rfl ?_
   refine z0k (z1m z7t rfl rfl rfl rfl) rfl ?_
   refine z0c ?_
   refine z0z (ι:=Bool) (fun i=>[(0,.dat (vlst (List.map z00 v1))),(2,.dat (vint v3)),(6,.ptr 1 0),(10,.ptr 2 0),(39,.dat (z01 i))]) (fun i=>[(1,.box none 30 [.dat (vstr []),.dat (vstr []),.dat (vstr []),.dat (vstr []),.dat (vnil),.dat (vnil),.dat (vint 0),.dat (vint 0)]),(2,.box none 28 [.dat (vlst (List.map z0n r10))])]) (fun i=>z9y v1 v3 r10 i=some r) (fun i=>rfl) ?_ ?_
   ·skip
    refine z0b hN rfl ?_
    refine z0y (z0s z7t rfl rfl) rfl ?_
    refine z0a (z8d z9v rfl) ?_
    refine z0a (z68 rfl rfl) ?_
    refine qd rfl ?_
    refine z08 (j:=3) rfl rfl (fun h12 => ?_) (fun h12 => ?_) rfl
    ·have h13:=un3 h12
     replace H:=iff_ h13 H
     refine y15 rfl rfl h12 (z0s z7t rfl rfl) rfl ?_
     obtain ⟨x14,h15,H⟩:=bnd H
     refine z0p rfl rfl h12 (y00 z88 (fun _=>rfl) rfl rfl h15) ?_
     refine z0p rfl rfl h12 (z0w tyS9 rfl (z3m h15) rfl) ?_
     obtain ⟨r16,h17,H⟩:=bnd H
     refine z0p rfl rfl h12 (z0o (y1r x14 r16 h17) ⟨.inl rfl,trivial⟩) ?_
     refine z0p rfl rfl h12 (z3t rfl) ?_
     refine z0a (z0x rfl (bFF h13) rfl) ?_
     exact ⟨!r16,H,⟨rfl,rfl,rfl,rfl,rfl,trivial⟩,⟨rfl,rfl,trivial⟩⟩
    ·have h18:=un4 h12
     replace H:=ift h18 H
     refine z0f rfl rfl h12 ?_
     refine z0f rfl rfl h12 ?_
     refine z0f rfl rfl h12 ?_
     refine z0f rfl rfl h12 ?_
     refine z0f rfl rfl h12 ?_
     refine z0a (z0v rfl (bTT h18) rfl) ?_
     exact ⟨true,H,⟨rfl,rfl,rfl,rfl,rfl,trivial⟩,⟨rfl,rfl,trivial⟩⟩
   ·rintro v19 H
    replace H:z9y v1 v3 r10 v19=some r:=H
    unfold z9y at H
    refine z0j _ rfl (fun h20 => ?_) (fun h20 => ?_)
    ·replace H:=ift h20 H
     refine z0c ?_
     refine z0b hN rfl ?_
     refine z0a (y09 (u':=vagg (z0t (z0e.mk [] [] [] [] [] [] 0 0))) (y1h (by exact ⟨z05,z05,z05,z05,z4g,z4g,z05,z05,trivial⟩)) (z3z [] y06 y4p rfl trivial)) ?_
     refine z0k (z1f z4c rfl rfl rfl rfl) rfl ?_
     refine qe rfl ?_
     refine z0m ?_
     cases H
     exact ⟨trivial,.inl ⟨_,_,_,z0t (z0e.mk [] [] [] [] [] [] 0 0),rfl,rfl,rfl,rfl,z4c⟩,.inl rfl,trivial⟩
    ·replace H:=iff_ h20 H
     refine z0l ?_
     refine z0c ?_
     refine y37 2 [vlst (List.map z0n r10)] rfl rfl ?_
     refine z0b hN rfl ?_
     refine qd rfl ?_
     refine z0a (y4u (us:=[_]) ⟨rfl,trivial⟩) ?_
     obtain ⟨r21,h22,H⟩:=bnd H
     refine z0a (z0o (z4s v1 (fun (a0:z0g)=>y04 a0 r10) 48 [y1e [[vlst (List.map z0n r10)]] 0 0] (fun a0 r h=>x0o a0 r10 r h) r21 h22) ⟨.inl rfl,.inl rfl,trivial⟩) ?_
     refine qe rfl ?_
     refine z0c ?_
     refine z0c ?_
     refine z0b hN rfl ?_
     refine qd rfl ?_
     refine z0a (z04 rfl rfl) ?_
     refine z0j _ rfl (fun h23 => ?_) (fun h23 => ?_)
     ·replace H:=ift h23 H
      refine z0c ?_
      refine z0b hN rfl ?_
      refine z0a (y09 (u':=vagg (z0t (z0e.mk [] [] [] [] [] [] 0 0))) (y1h (by exact ⟨z05,z05,z05,z05,z4g,z4g,z05,z05,trivial⟩)) (z3z [] y06 y4p rfl trivial)) ?_
      refine z0k (z1f z4c rfl rfl rfl rfl) rfl ?_
      refine qe rfl ?_
      refine z0m ?_
      cases H
      exact ⟨trivial,.inl ⟨_,_,_,z0t (z0e.mk [] [] [] [] [] [] 0 0),rfl,rfl,rfl,rfl,z4c⟩,.inl rfl,trivial⟩
     ·replace H:=iff_ h23 H
      refine z0l ?_
      refine z0c ?_
      refine z0c ?_
      refine z5o mixed hN rfl rfl ?_
      refine qd rfl ?_
      refine qd rfl ?_
      obtain ⟨x24,h25,H⟩:=bnd H
      refine z0a (y23 y61 (fun _=>rfl) rfl rfl h25) ?_
      refine z0a (z66 y60 rfl) ?_
      refine z0a (z0w tyS9 rfl (z3m (z7s h25).2) rfl) ?_
      refine z0a (z0w z7t rfl rfl rfl) ?_
      obtain ⟨x26,h27,H⟩:=bnd H
      refine z0a (y00 z88 (fun _=>rfl) rfl rfl h27) ?_
      refine z0a (z0w tyS9 rfl (z3m h27) rfl) ?_
      obtain ⟨h28,H⟩:=gif H
      refine z0a (z1h rfl rfl (Nat.le_trans h28 (by decide))) ?_
      refine z0a (z0w z7t rfl rfl rfl) ?_
      obtain ⟨x29,h30,H⟩:=bnd H
      refine z0a (y00 z88 (fun _=>rfl) rfl rfl h30) ?_
      refine z0a (z0w tyS9 rfl (z3m h30) rfl) ?_
      obtain ⟨h31,H⟩:=gif H
      refine z0a (z1h rfl rfl (Nat.le_trans h31 (by decide))) ?_
      obtain ⟨r32,h33,H⟩:=bnd H
      refine z0a (z0o (y92 x24.Secret ((x26++[46])++x29) r32 h33) ⟨.inl rfl,.inl rfl,trivial⟩) ?_
      refine z0a (z0w z7t rfl rfl rfl) ?_
      obtain ⟨x34,h35,H⟩:=bnd H
      refine z0a (y00 z88 (fun _=>rfl) rfl rfl h35) ?_
      refine z0a (z0w tyS9 rfl (z3m h35) rfl) ?_
      refine z0a (z8k rfl rfl) ?_
      refine ⟨rfl,?_⟩
      refine z0j _ rfl (fun h36 => ?_) (fun h36 => ?_)
      ·replace H:=ift h36 H
       refine z0c ?_
       refine z0b hN rfl ?_
       refine z0a (y09 (u':=vagg (z0t (z0e.mk [] [] [] [] [] [] 0 0))) (y1h (by exact ⟨z05,z05,z05,z05,z4g,z4g,z05,z05,trivial⟩)) (z3z [] y06 y4p rfl trivial)) ?_
       refine z0k (z1f z4c rfl rfl rfl rfl) rfl ?_
       refine qe rfl ?_
       refine z0m ?_
       cases H
       exact ⟨trivial,.inl ⟨_,_,_,z0t (z0e.mk [] [] [] [] [] [] 0 0),rfl,rfl,rfl,rfl,z4c⟩,.inl rfl,trivial⟩
      ·replace H:=iff_ h36 H
       refine z0l ?_
       refine z0c ?_
       refine z0b hN rfl ?_
       refine z0a (z0w z7t rfl rfl rfl) ?_
       refine z0a (y00 z88 (fun _=>rfl) rfl rfl h30) ?_
       refine z0a (z0w tyS9 rfl (z3m h30) rfl) ?_
       obtain ⟨r37,h38,H⟩:=bnd H
       refine z0a (z0o (x0p x29 r37 h38) ⟨.inl rfl,trivial⟩) ?_
       refine qd rfl ?_
       refine z0a (z1q rfl rfl) ?_
       refine z0a (z1q rfl rfl) ?_
       refine qe rfl ?_
       refine qe rfl ?_
       refine z0c ?_
       refine z0c ?_
       refine z0b hN rfl ?_
       refine qd rfl ?_
       refine z0a (z68 rfl rfl) ?_
       refine z0j _ rfl (fun h39 => ?_) (fun h39 => ?_)
       ·replace H:=ift h39 H
        refine z0c ?_
        refine z0b hN rfl ?_
        refine z0a (y09 (u':=vagg (z0t (z0e.mk [] [] [] [] [] [] 0 0))) (y1h (by exact ⟨z05,z05,z05,z05,z4g,z4g,z05,z05,trivial⟩)) (z3z [] y06 y4p rfl trivial)) ?_
        refine qd rfl ?_
        refine z0k (z1f z4c rfl rfl rfl rfl) rfl ?_
        refine qe rfl ?_
        refine z0m ?_
        cases H
        exact ⟨trivial,.inl ⟨_,_,_,z0t (z0e.mk [] [] [] [] [] [] 0 0),rfl,rfl,rfl,rfl,z4c⟩,.inl rfl,trivial⟩
       ·replace H:=iff_ h39 H
        refine z0l ?_
        refine z0c ?_
        refine z0b hN rfl ?_
        refine qd rfl ?_
        obtain ⟨r40,h41,H⟩:=bnd H
        refine z0a (z0o (y7q r37.1 r40 h41) ⟨.inl rfl,trivial⟩) ?_
        refine qd rfl ?_
        refine z0a (z1q rfl rfl) ?_
        refine z0a (z1q rfl rfl) ?_
        refine z0a (z1q rfl rfl) ?_
        refine z0k (z3c 3 y06 rfl) rfl ?_
        refine z0k (z1f z4c rfl rfl rfl rfl) rfl ?_
        refine qe rfl ?_
        refine qe rfl ?_
        refine z0c ?_
        refine z0c ?_
        refine z0b hN rfl ?_
        refine qd rfl ?_
        refine z0a (z68 rfl rfl) ?_
        refine z0j _ rfl (fun h42 => ?_) (fun h42 => ?_)
        ·replace H:=ift h42 H
         refine z0c ?_
         refine z0b hN rfl ?_
         refine z0a (y09 (u':=vagg (z0t (z0e.mk [] [] [] [] [] [] 0 0))) (y1h (by exact ⟨z05,z05,z05,z05,z4g,z4g,z05,z05,trivial⟩)) (z3z [] y06 y4p rfl trivial)) ?_
         refine qd rfl ?_
         refine z0k (z1f z4c rfl rfl rfl rfl) rfl ?_
         refine qe rfl ?_
         refine z0m ?_
         cases H
         exact ⟨trivial,.inl ⟨_,_,_,z0t (z0e.mk [] [] [] [] [] [] 0 0),rfl,rfl,rfl,rfl,z4c⟩,.inl rfl,trivial⟩
        ·replace H:=iff_ h42 H
         refine z0l ?_
         refine z0c ?_
         refine z0z (ι:=Bool) (fun i=>[(6,.ptr 1 0),(14,.ptr 3 0),(102,.dat (z01 i))]) (fun i=>[(1,.box none 30 [.dat (vstr []),.dat (vstr []),.dat (vstr []),.dat (vstr []),.dat (vnil),.dat (vnil),.dat (vint 0),.dat (vint 0)]),(3,.box none 30 [.dat (vstr r40.1.Id),.dat (vstr r40.1.Subject),.dat (vstr r40.1.Issuer),.dat (vstr r40.1.Parent),.dat (vlst (List.map z0n r40.1.Audience)),.dat (vlst (List.map z0n r40.1.Scopes)),.dat (vint r40.1.From),.dat (vint r40.1.To)])]) (fun i=>y1u r40 i=some r) (fun i=>rfl) ?_ ?_
         ·skip
          refine z0b hN rfl ?_
          refine qd rfl ?_
          refine qd rfl ?_
          refine qd rfl ?_
          refine z0a (y23 y61 (fun _=>rfl) rfl rfl h25) ?_
          refine z0a (z66 y4b rfl) ?_
          refine z0a (z0w tyS3 rfl (z3m (z7s h25).2) rfl) ?_
          refine z0a (z04 rfl rfl) ?_
          refine qd rfl ?_
          refine z08 (j:=7) rfl rfl (fun h43 => ?_) (fun h43 => ?_) rfl
          ·have h44:=un3 h43
           replace H:=iff_ h44 H
           refine z0p rfl rfl h43 (z0h (.dat _) rfl) ?_
           refine z0p rfl rfl h43 (z0h (.dat _) rfl) ?_
           refine z0p rfl rfl h43 (z0h (.dat _) rfl) ?_
           refine z0p rfl rfl h43 (y23 y61 (fun _=>rfl) rfl rfl h25) ?_
           refine z0p rfl rfl h43 (z66 y5k rfl) ?_
           refine z0p rfl rfl h43 (z0w tyS3 rfl (z3m (z7s h25).2) rfl) ?_
           refine z0p rfl rfl h43 (z9w rfl rfl) ?_
           refine z0a (z0x rfl (bFF h44) rfl) ?_
           exact ⟨decide (x24.Until≤v3),H,⟨rfl,rfl,rfl,trivial⟩,⟨rfl,rfl,trivial⟩⟩
          ·have h45:=un4 h43
           replace H:=ift h45 H
           refine z0f rfl rfl h43 ?_
           refine z0f rfl rfl h43 ?_
           refine z0f rfl rfl h43 ?_
           refine z0f rfl rfl h43 ?_
           refine z0f rfl rfl h43 ?_
           refine z0f rfl rfl h43 ?_
           refine z0f rfl rfl h43 ?_
           refine z0a (z0v rfl (bTT h45) rfl) ?_
           exact ⟨true,H,⟨rfl,rfl,rfl,trivial⟩,⟨rfl,rfl,trivial⟩⟩
         ·rintro v46 H
          replace H:y1u r40 v46=some r:=H
          unfold y1u at H
          refine z0j _ rfl (fun h47 => ?_) (fun h47 => ?_)
          ·replace H:=ift h47 H
           refine z0c ?_
           refine z0b hN rfl ?_
           refine z0a (y09 (u':=vagg (z0t (z0e.mk [] [] [] [] [] [] 0 0))) (y1h (by exact ⟨z05,z05,z05,z05,z4g,z4g,z05,z05,trivial⟩)) (z3z [] y06 y4p rfl trivial)) ?_
           refine z0k (z1f z4c rfl rfl rfl rfl) rfl ?_
           refine qe rfl ?_
           refine z0m ?_
           cases H
           exact ⟨trivial,.inl ⟨_,_,_,z0t (z0e.mk [] [] [] [] [] [] 0 0),rfl,rfl,rfl,rfl,z4c⟩,.inl rfl,trivial⟩
          ·replace H:=iff_ h47 H
           refine z0l ?_
           refine z0c ?_
           refine z0b hN rfl ?_
           refine z0y (z5v z4c rfl rfl rfl) rfl ?_
           refine z0k (z1f z4c rfl rfl rfl rfl) rfl ?_
           refine qe rfl ?_
           refine z0m ?_
           cases H
           exact ⟨trivial,.inl ⟨_,_,_,z0t r40.1,rfl,rfl,rfl,rfl,z4c⟩,.inl rfl,trivial⟩
theorem y7b (x1:z0g) (c2:(List Bs)) (r:(Bool)) (H:z71 x1 c2=some r):Fn Tryz.prog 51 [vagg (z00 x1),y1e [[vlst (List.map z0n c2)]] 0 0] (z1s [z01 r]):=by
 refine ⟨by kernel_rfl,z1g (us:=[z01 r]) Tryz.func51 rfl rfl rfl rfl fun X hN => ?_⟩
 unfold z71 at H
 refine z0c ?_
 refine z0b hN rfl ?_
 refine z0k (y0e 1 rfl) rfl ?_
 refine qe rfl ?_
 refine z0c ?_
 refine z5o mixed hN rfl rfl ?_
 refine z0a (z0r y4c rfl) ?_
 refine z0y (z0s tyS9 rfl rfl) rfl ?_
 refine z0a (z0w z7t rfl rfl rfl) ?_
 obtain ⟨x3,h4,H⟩:=bnd H
 refine z0a (y00 z88 (fun _=>rfl) rfl rfl h4) ?_
 refine z0a (z0w tyS9 rfl (z3m h4) rfl) ?_
 refine z0a (z65 rfl rfl) ?_
 refine qe rfl ?_
 refine ⟨rfl,?_⟩
 refine z0m ?_
 cases H
 exact ⟨trivial,.inl rfl,trivial⟩
theorem y7u (s1:Bs) (r:(Bs×Int)) (H:z95 s1=some r):Fn Tryz.prog 52 [vstr s1] (z1s [vstr r.1,vint r.2]):=by
 refine ⟨by kernel_rfl,z1g (us:=[vstr r.1,vint r.2]) Tryz.func52 rfl rfl rfl rfl fun X hN => ?_⟩
 unfold z95 at H
 refine z0c ?_
 refine z0b hN rfl ?_
 refine qe rfl ?_
 refine qe rfl ?_
 refine z0c ?_
 refine z0b hN rfl ?_
 refine qe rfl ?_
 refine z0c ?_
 refine z0c ?_
 refine z0b hN rfl ?_
 refine qd rfl ?_
 refine z0a (z1j tyU9 rfl) ?_
 refine qd rfl ?_
 refine z0u ?_
 obtain ⟨h5,H⟩:=gif H
 refine z6c (fun (k3:Nat) (s:Bs)=>[(0,.dat (vstr s1)),(4,.dat (vstr s)),(11,.dat (vint (s1.length:Int))),(12,.dat (vint (k3:Int)))]) (fun (k3:Nat) (s:Bs)=>[]) [] H ⟨rfl,rfl,rfl,rfl,trivial⟩ trivial (fun _ _=>rfl) ?_ ?_
 ·rintro bits2 H
  replace H:z6x s1 bits2=some r:=H
  unfold z6x at H
  refine z0c ?_
  refine z0b hN rfl ?_
  refine z0a (z04 rfl rfl) ?_
  refine z0c ?_
  refine z0j _ rfl (fun h=>(lt_t h).elim) (fun h => ?_)
  refine z14 ?_
  refine z0c ?_
  refine z0b hN rfl ?_
  refine qe rfl ?_
  refine z0z (ι:=(List Int)) (fun i=>[(0,.dat (vstr s1)),(7,.row 1 i.length)]) (fun i=>[(1,.row 5 1 (List.map z4z i))]) (fun i=>z6w s1 i=some r) (fun i=>rfl) ?_ ?_
  ·skip
   refine z0u ?_
   refine y2l 7 1 5 1 rfl rfl rfl ?_
   refine y36 (fun (s:Bs×(List Int))=>[(0,.dat (vstr s1)),(4,.dat (vstr s.1)),(7,.row 1 s.2.length)]) (fun (s:Bs×(List Int))=>[(1,.row 5 1 (List.map z4z s.2))]) (bits2,[]) H ⟨rfl,rfl,rfl,trivial⟩ ⟨rfl,trivial⟩ (fun _=>rfl) ?_
   rintro ⟨bits7,l8⟩ q9 H hq9
   replace H:z1p s1 bits7 l8=some q9:=H
   unfold z1p at H
   refine z0c ?_
   refine z0c ?_
   refine z0b hN rfl ?_
   refine qd rfl ?_
   refine z0a (z1j tyU9 rfl) ?_
   refine z0a (z9w rfl rfl) ?_
   refine z0j _ rfl (fun h10 => ?_) (fun h10 => ?_)
   ·replace H:=ift h10 H
    refine z0l ?_
    refine z0u ?_
    refine z0c ?_
    refine z0b hN rfl ?_
    refine qd rfl ?_
    obtain ⟨l11,h12,H⟩:=bnd H
    refine z0a (y0h tyU9 rfl rfl rfl h12) ?_
    obtain ⟨r13,h14,H⟩:=bnd H
    refine z0a (z0o (y4w l11 2 64 r13 h14) ⟨.inl rfl,.inl rfl,.inl rfl,trivial⟩) ?_
    refine qd rfl ?_
    refine z0a (z1q rfl rfl) ?_
    refine z0a (z1q rfl rfl) ?_
    refine qe rfl ?_
    refine qe rfl ?_
    refine z5o mixed hN rfl rfl ?_
    refine z0a (z0h (.row _ _) rfl) ?_
    refine qd rfl ?_
    refine z0a (z6k tyU2 tyU5 rfl) ?_
    refine z0a (z09 (u':=vlst (List.map z4z [IntKind.wrap .u8 r13.1])) (z2g [[_]] x6x ⟨rfl,.inl ⟨_,rfl,rfl,rfl⟩,rfl,trivial⟩ rfl rfl) rfl) ?_
    obtain ⟨h15,H⟩:=gif H
    refine z0k (y8m x6x (fun _=>rfl) rfl rfl rfl ⟨by simp,by first | (simp; done) | simpa using h15⟩ rfl) rfl ?_
    refine qd rfl ?_
    obtain ⟨l16,h17,H⟩:=bnd H
    refine z0a (y0h tyU9 rfl rfl rfl h17) ?_
    refine z0a (z2b (.row _ _) rfl) ?_
    refine qe rfl ?_
    refine ⟨rfl,?_⟩
    exact ⟨_,z9s H,⟨rfl,rfl,rfl,trivial⟩,⟨rfl,trivial⟩⟩
   ·replace H:=iff_ h10 H
    refine z14 ?_
    replace H:=outl H hq9
    exact ⟨l8,H,⟨rfl,rfl,trivial⟩,⟨rfl,trivial⟩⟩
  ·rintro out18 H
   replace H:z6w s1 out18=some r:=H
   unfold z6w at H
   refine z0c ?_
   refine z0c ?_
   refine y8y 7 1 rfl rfl rfl ?_
   refine z0b hN rfl ?_
   refine qd rfl ?_
   refine z0a (y49 (C:=z4z) x0k tyU5 tyU9 (fun _=>rfl) rfl) ?_
   obtain ⟨r19,h20,H⟩:=bnd H
   refine z0a (z0o (y1b (strN out18) r19 h20) ⟨.inl rfl,trivial⟩) ?_
   refine qd rfl ?_
   refine z0a (z8k rfl rfl) ?_
   refine z0j _ rfl (fun h21 => ?_) (fun h21 => ?_)
   ·replace H:=ift h21 H
    refine z0c ?_
    refine z0b hN rfl ?_
    refine qe rfl ?_
    refine qe rfl ?_
    refine z0m ?_
    cases H
    exact ⟨trivial,.inl rfl,.inl rfl,trivial⟩
   ·replace H:=iff_ h21 H
    refine z0l ?_
    refine z0c ?_
    refine z0b hN rfl ?_
    refine qd rfl ?_
    refine z0a (y49 (C:=z4z) x0k tyU5 tyU9 (fun _=>rfl) rfl) ?_
    refine qe rfl ?_
    refine qe rfl ?_
    refine z0m ?_
    cases H
    exact ⟨trivial,.inl rfl,.inl rfl,trivial⟩
 ·rintro k3 x6 bits2 q4 h22 h23 H hq4
  replace H:z4u k3 x6 bits2=some q4:=H
  unfold z4u at H
  refine z0c ?_
  refine z0b hN rfl ?_
  refine z0a (z04 rfl rfl) ?_
  refine z0c ?_
  refine z0j _ rfl (fun h => ?_) (fun h=>(lt_f h22 h).elim)
  refine z0l ?_
  refine z0c ?_
  refine z0u ?_
  refine z0c ?_
  refine z0b hN rfl ?_
  refine qd rfl ?_
  refine qe rfl ?_
  refine z0c ?_
  refine z0b hN rfl ?_
  refine qd rfl ?_
  refine qd rfl ?_
  refine z0a (z9h tyU9 rfl rfl h23) ?_
  obtain ⟨r24,h25,H⟩:=bnd H
  refine z0a (z0o (y2h [65,66,67,68,69,70,71,72,73,74,75,76,77,78,79,80,81,82,83,84,85,86,87,88,89,90,97,98,99,100,101,102,103,104,105,106,107,108,109,110,111,112,113,114,115,116,117,118,119,120,121,122,48,49,50,51,52,53,54,55,56,57,45,95] (x6.toNat:Int) r24 h25) ⟨.inl rfl,.inl rfl,trivial⟩) ?_
  refine qe rfl ?_
  refine z0c ?_
  refine z0c ?_
  refine z0b hN rfl ?_
  refine qd rfl ?_
  refine z0a (z04 rfl rfl) ?_
  refine z0j _ rfl (fun h26 => ?_) (fun h26 => ?_)
  ·replace H:=ift h26 H
   refine z0c ?_
   refine z0b hN rfl ?_
   refine qe rfl ?_
   refine qe rfl ?_
   refine z0m ?_
   replace H:=retl H hq4
   cases H
   exact ⟨trivial,.inl rfl,.inl rfl,trivial⟩
  ·replace H:=iff_ h26 H
   refine z0l ?_
   refine z0b hN rfl ?_
   refine qd rfl ?_
   refine qd rfl ?_
   refine z0a (z1a _ rfl rfl (.inl ⟨rfl,rfl⟩)) ?_
   obtain ⟨r27,h28,H⟩:=bnd H
   refine z0a (z0o (y4k (wr (64+r24)) 2 r27 h28) ⟨.inl rfl,.inl rfl,trivial⟩) ?_
   obtain ⟨l29,h30,H⟩:=bnd H
   refine z0a (y0h tyU9 rfl rfl rfl h30) ?_
   obtain ⟨h31,H⟩:=gif H
   refine z0a (z1h rfl rfl (Nat.le_trans h31 (by decide))) ?_
   refine qe rfl ?_
   refine z0b hN rfl ?_
   refine z0a (z5w rfl rfl (by omega)) ?_
   refine qd rfl ?_
   exact ⟨_,z9s H,⟨rfl,rfl,rfl,rfl,trivial⟩,trivial⟩
end Go.Proofs.YtkckjgkfljgjpaaGreatDoor
