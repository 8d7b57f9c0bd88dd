/- Walks along the models. Printed by a program. -/
import Derived.Test.YtkckjgkfljgjpaaGreatDoorZgc
namespace Go.Proofs.YtkckjgkfljgjpaaGreatDoor
open Go.RowKit
set_option linter.unusedVariables false
set_option maxRecDepth 100000
set_option maxHeartbeats 2000000
theorem y3u (x1:Int) (n2:Int) (r:(Int)) (H:z8s x1 n2=some r):Fn Tryz.prog 56 [vint x1,vint n2] (z1s [vint r]):=by
 refine ⟨by kernel_rfl,z1g (us:=[vint r]) Tryz.func56 rfl rfl rfl rfl fun X hN => ?_⟩
 unfold z8s at H
 refine z0c ?_
 refine z0b hN rfl ?_
 refine qe rfl ?_
 refine z0c ?_
 refine z0c ?_
 refine z0b hN rfl ?_
 refine qd rfl ?_
 refine z0a (z04 rfl rfl) ?_
 refine z0j _ rfl (fun h3 => ?_) (fun h3 => ?_)
 ·replace H:=ift h3 H
  refine z0c ?_
  refine z0b hN rfl ?_
  refine qe rfl ?_
  refine z0m ?_
  cases H
  exact ⟨trivial,.inl rfl,trivial⟩
 ·replace H:=iff_ h3 H
  refine z0l ?_
  refine z0c ?_
  refine z0b hN rfl ?_
  refine qd rfl ?_
  refine qd rfl ?_
  obtain ⟨h4,H⟩:=gif H
  refine z0a (x5r rfl rfl h4) ?_
  refine qe rfl ?_
  refine z0z (ι:=Int) (fun i=>[(0,.dat (vint i))]) (fun i=>[]) (fun i=>z9a i=some r) (fun i=>rfl) ?_ ?_
  ·skip
   refine z0c ?_
   refine z0b hN rfl ?_
   refine qd rfl ?_
   refine z0a (z04 rfl rfl) ?_
   refine z0j _ rfl (fun h5 => ?_) (fun h5 => ?_)
   ·replace H:=ift h5 H
    refine z0b hN rfl ?_
    refine qd rfl ?_
    refine qd rfl ?_
    refine z0a (z1a _ rfl rfl (.inl ⟨rfl,rfl⟩)) ?_
    refine qe rfl ?_
    exact ⟨wr ((Int.tmod x1 n2)+n2),H,⟨rfl,trivial⟩,trivial⟩
   ·replace H:=iff_ h5 H
    refine z0l ?_
    exact ⟨(Int.tmod x1 n2),H,⟨rfl,trivial⟩,trivial⟩
  ·rintro x6 H
   replace H:z9a x6=some r:=H
   unfold z9a at H
   refine z0c ?_
   refine z0b hN rfl ?_
   refine qd rfl ?_
   refine qe rfl ?_
   refine z0m ?_
   cases H
   exact ⟨trivial,.inl rfl,trivial⟩
theorem z10 (s1:z0d) (n2:Int) (r:(Int×z0d)) (H:z1i s1 n2=some r):Imp Tryz.prog 19 25 (z0q s1) [vint n2] (z1s [vint r.1]) (z0q r.2):=by
 refine y2b (us:=[vint r.1]) (cs':=(z0q r.2)) (by kernel_rfl) Tryz.func19 rfl rfl rfl rfl fun X bl hN => ?_
 unfold z1i at H
 refine z0c ?_
 refine z0b hN rfl ?_
 refine qe rfl ?_
 refine z0c ?_
 refine z0b hN rfl ?_
 refine z0a (z0h (.ptr _ _) rfl) ?_
 refine z0a (z2d rfl) ?_
 refine z0a (z0r y9f rfl) ?_
 refine z0y (z0s tyS3 rfl rfl) rfl ?_
 refine z0a (z1a _ rfl rfl (.inl ⟨rfl,rfl⟩)) ?_
 refine z0a (z2d rfl) ?_
 refine z0a (z0r y9f rfl) ?_
 refine z0k (z1m tyS3 rfl rfl rfl rfl) rfl ?_
 refine z0c ?_
 refine z0c ?_
 refine z0b hN rfl ?_
 refine z0a (z0h (.ptr _ _) rfl) ?_
 refine z0a (z2d rfl) ?_
 refine z0a (z0r x1j rfl) ?_
 refine z0y (z0s w0v rfl rfl) rfl ?_
 refine z0a (z8d w0t rfl) ?_
 refine z0a (z2a rfl rfl) ?_
 refine z0j _ rfl (fun h3 => ?_) (fun h3 => ?_)
 ·replace H:=ift h3 H
  refine z0c ?_
  refine z0b hN rfl ?_
  refine z0a (z0h (.ptr _ _) rfl) ?_
  refine z0a (z2d rfl) ?_
  refine z0a (z0r y9f rfl) ?_
  refine z0y (z0s tyS3 rfl rfl) rfl ?_
  refine z0a (z1a _ rfl rfl (.inr (.inr ⟨rfl,rfl⟩))) ?_
  refine qd rfl ?_
  obtain ⟨r4,h5,H⟩:=bnd H
  refine z0a (z0o (y3u (wr ((wr (s1.at_+1)) * 7919)) n2 r4 h5) ⟨.inl rfl,.inl rfl,trivial⟩) ?_
  refine qe rfl ?_
  refine z0m ?_
  cases H
  exact ⟨trivial,⟨.inl rfl,trivial⟩,rfl⟩
 ·replace H:=iff_ h3 H
  refine z0l ?_
  refine z0c ?_
  refine z5o mixed hN rfl rfl ?_
  refine z0a (z0h (.ptr _ _) rfl) ?_
  refine z0a (z2d rfl) ?_
  refine z0a (z0r y9f rfl) ?_
  refine z0y (z0s tyS3 rfl rfl) rfl ?_
  refine z0a (z1a _ rfl rfl (.inr (.inl ⟨rfl,rfl⟩))) ?_
  refine z0a (z0h (.ptr _ _) rfl) ?_
  refine z0a (z2d rfl) ?_
  refine z0a (z0r x1j rfl) ?_
  refine z0y (z0s w0v rfl rfl) rfl ?_
  refine z0a (z8d w0t rfl) ?_
  obtain ⟨h6,H⟩:=gif H
  refine z0a (x5r rfl rfl h6) ?_
  refine qe rfl ?_
  refine ⟨rfl,?_⟩
  refine z0c ?_
  refine z5o mixed hN rfl rfl ?_
  refine z0a (z0h (.ptr _ _) rfl) ?_
  refine z0a (z2d rfl) ?_
  refine z0a (z0r y9f rfl) ?_
  refine z0y (z0s tyS3 rfl rfl) rfl ?_
  refine z0a (z1a _ rfl rfl (.inr (.inl ⟨rfl,rfl⟩))) ?_
  refine z0a (z0h (.ptr _ _) rfl) ?_
  refine z0a (z2d rfl) ?_
  refine z0a (z0r x1j rfl) ?_
  refine z0y (z0s w0v rfl rfl) rfl ?_
  refine z0a (z8d w0t rfl) ?_
  obtain ⟨h7,H⟩:=gif H
  refine z0a (w3c rfl rfl h7.1 h7.2) ?_
  refine qe rfl ?_
  refine ⟨rfl,?_⟩
  refine z0c ?_
  refine z0b hN rfl ?_
  refine z0a (z0h (.ptr _ _) rfl) ?_
  refine z0a (z2d rfl) ?_
  refine z0a (z0r x1j rfl) ?_
  refine z0y (z0s w0v rfl rfl) rfl ?_
  refine qd rfl ?_
  obtain ⟨x8,h9,H⟩:=bnd H
  refine z0a (y23 w5b (fun _=>rfl) rfl rfl h9) ?_
  refine z0a (z0w tyS3 rfl (z3m (z7s h9).2) rfl) ?_
  obtain ⟨r10,h11,H⟩:=bnd H
  refine z0a (z0o (y3u x8 1073741824 r10 h11) ⟨.inl rfl,.inl rfl,trivial⟩) ?_
  refine qd rfl ?_
  refine qd rfl ?_
  refine z0a (z1a _ rfl rfl (.inl ⟨rfl,rfl⟩)) ?_
  refine z0a (z1a _ rfl rfl (.inr (.inr ⟨rfl,rfl⟩))) ?_
  refine z0a (z1a _ rfl rfl (.inl ⟨rfl,rfl⟩)) ?_
  refine qd rfl ?_
  obtain ⟨r12,h13,H⟩:=bnd H
  refine z0a (z0o (y3u (wr (r10+(wr (((wr ((wr (s1.at_+1)) - 1)) / (s1.L.length:Int)) * (wr (7919+(Int.tmod (wr ((wr (s1.at_+1)) - 1)) (s1.L.length:Int)))))))) n2 r12 h13) ⟨.inl rfl,.inl rfl,trivial⟩) ?_
  refine qe rfl ?_
  refine z0m ?_
  cases H
  exact ⟨trivial,⟨.inl rfl,trivial⟩,rfl⟩
theorem z82 (s1:z0d) (low2:Int) (high3:Int) (r:(Int×z0d)) (H:z4r s1 low2 high3=some r):Imp Tryz.prog 55 25 (z0q s1) [vint low2,vint high3] (z1s [vint r.1]) (z0q r.2):=by
 refine y2b (us:=[vint r.1]) (cs':=(z0q r.2)) (by kernel_rfl) Tryz.func55 rfl rfl rfl rfl fun X bl hN => ?_
 unfold z4r at H
 refine z0c ?_
 refine z0b hN rfl ?_
 refine qe rfl ?_
 refine z0c ?_
 refine z0c ?_
 refine z0b hN rfl ?_
 refine qd rfl ?_
 refine qd rfl ?_
 refine z0a (z04 rfl rfl) ?_
 refine z0j _ rfl (fun h4 => ?_) (fun h4 => ?_)
 ·replace H:=ift h4 H
  refine z0c ?_
  refine z0b hN rfl ?_
  refine qd rfl ?_
  refine qe rfl ?_
  refine z0m ?_
  cases H
  exact ⟨trivial,⟨.inl rfl,trivial⟩,rfl⟩
 ·replace H:=iff_ h4 H
  refine z0l ?_
  refine z0c ?_
  refine z0b hN rfl ?_
  refine qd rfl ?_
  refine z0a (z0h (.ptr _ _) rfl) ?_
  refine qd rfl ?_
  refine qd rfl ?_
  refine z0a (z1a _ rfl rfl (.inr (.inl ⟨rfl,rfl⟩))) ?_
  refine z0a (z1a _ rfl rfl (.inl ⟨rfl,rfl⟩)) ?_
  obtain ⟨r5,h6,H⟩:=bnd H
  refine z0k (z1e (z10 s1 (wr ((wr (high3 - low2))+1)) r5 h6) rfl ⟨.inl rfl,trivial⟩ rfl) rfl ?_
  refine z0a (z1a _ rfl rfl (.inl ⟨rfl,rfl⟩)) ?_
  refine qe rfl ?_
  refine z0m ?_
  cases H
  exact ⟨trivial,⟨.inl rfl,trivial⟩,rfl⟩
theorem z2t (s1:z0d) (l2:(List Int)) (r:(Int×z0d)) (H:z1t s1 l2=some r):Imp Tryz.prog 13 25 (z0q s1) [vlst (List.map y22 l2)] (z1s [vint r.1]) (z0q r.2):=by
 refine y2b (us:=[vint r.1]) (cs':=(z0q r.2)) (by kernel_rfl) Tryz.func13 rfl rfl rfl rfl fun X bl hN => ?_
 unfold z1t at H
 refine z0c ?_
 refine z0b hN rfl ?_
 refine qe rfl ?_
 refine z0c ?_
 refine z0b hN rfl ?_
 refine qd rfl ?_
 refine z0a (z0h (.ptr _ _) rfl) ?_
 refine qd rfl ?_
 refine z0a (z8d w0t rfl) ?_
 obtain ⟨r3,h4,H⟩:=bnd H
 refine z0k (z1e (z10 s1 (l2.length:Int) r3 h4) rfl ⟨.inl rfl,trivial⟩ rfl) rfl ?_
 obtain ⟨x5,h6,H⟩:=bnd H
 refine z0a (y23 w5b (fun _=>rfl) rfl rfl h6) ?_
 refine z0a (z0w tyS3 rfl (z3m (z7s h6).2) rfl) ?_
 refine qe rfl ?_
 refine z0m ?_
 cases H
 exact ⟨trivial,⟨.inl rfl,trivial⟩,rfl⟩
theorem z07 (s1:z0d) (l2:(List Bs)) (r:(Bs×z0d)) (H:z03 s1 l2=some r):Imp Tryz.prog 20 25 (z0q s1) [vlst (List.map z0n l2)] (z1s [vstr r.1]) (z0q r.2):=by
 refine y2b (us:=[vstr r.1]) (cs':=(z0q r.2)) (by kernel_rfl) Tryz.func20 rfl rfl rfl rfl fun X bl hN => ?_
 unfold z03 at H
 refine z0c ?_
 refine z0b hN rfl ?_
 refine qe rfl ?_
 refine z0c ?_
 refine z0b hN rfl ?_
 refine qd rfl ?_
 refine z0a (z0h (.ptr _ _) rfl) ?_
 refine qd rfl ?_
 refine z0a (z8d z9v rfl) ?_
 obtain ⟨r3,h4,H⟩:=bnd H
 refine z0k (z1e (z10 s1 (l2.length:Int) r3 h4) rfl ⟨.inl rfl,trivial⟩ rfl) rfl ?_
 obtain ⟨x5,h6,H⟩:=bnd H
 refine z0a (y23 z88 (fun _=>rfl) rfl rfl h6) ?_
 refine z0a (z0w tyS9 rfl (z3m (z7s h6).2) rfl) ?_
 refine qe rfl ?_
 refine z0m ?_
 cases H
 exact ⟨trivial,⟨.inl rfl,trivial⟩,rfl⟩
theorem z17 (s1:z0d) (n2:Int) (r:(Bool×z0d)) (H:z1o s1 n2=some r):Imp Tryz.prog 10 25 (z0q s1) [vint n2] (z1s [z01 r.1]) (z0q r.2):=by
 refine y2b (us:=[z01 r.1]) (cs':=(z0q r.2)) (by kernel_rfl) Tryz.func10 rfl rfl rfl rfl fun X bl hN => ?_
 unfold z1o at H
 refine z0c ?_
 refine z0b hN rfl ?_
 refine qe rfl ?_
 refine z0c ?_
 refine z0b hN rfl ?_
 refine z0a (z0h (.ptr _ _) rfl) ?_
 refine qd rfl ?_
 obtain ⟨r3,h4,H⟩:=bnd H
 refine z0k (z1e (z10 s1 n2 r3 h4) rfl ⟨.inl rfl,trivial⟩ rfl) rfl ?_
 refine z0a (z2a rfl rfl) ?_
 refine qe rfl ?_
 refine z0m ?_
 cases H
 exact ⟨trivial,⟨.inl rfl,trivial⟩,rfl⟩
theorem y3b (s1:z0d) (r:((List z0g)×z0d)) (H:z4h s1=some r):FnG Tryz.prog 18 [.ptr 0 0] [(0,.box (some 0) 25 (List.map .dat (z0q s1)))] (.row 1 r.1.length) [(0,.box (some 0) 25 (List.map .dat (z0q r.2))),(1,.row 47 5 (List.map z00 r.1))]:=by
 refine x6k (by kernel_rfl) Tryz.func18 rfl rfl rfl rfl fun X A hN => ?_
 unfold z4h at H
 refine z0c ?_
 refine z0b hN rfl ?_
 refine qe rfl ?_
 refine z0c ?_
 refine z0b hN rfl ?_
 refine qe rfl ?_
 refine z0c ?_
 refine z0b hN rfl ?_
 refine qe rfl ?_
 refine z0c ?_
 refine z0c ?_
 refine z0b hN rfl ?_
 refine z0a (z09 (u':=vlst (List.map z0n [[115,49],[115,50],[115,51]])) (z2g [[_],[_],[_]] z8w ⟨rfl,.inl ⟨_,rfl,rfl,rfl⟩,rfl,rfl,.inl ⟨_,rfl,rfl,rfl⟩,rfl,rfl,.inl ⟨_,rfl,rfl,rfl⟩,rfl,trivial⟩ rfl rfl) rfl) ?_
 refine z0a (z0h (.ptr _ _) rfl) ?_
 obtain ⟨r2,h3,H⟩:=bnd H
 refine z0k (z1e (z82 s1 0 3 r2 h3) rfl ⟨.inl rfl,.inl rfl,trivial⟩ rfl) rfl ?_
 obtain ⟨l4,h5,H⟩:=bnd H
 refine z0a (y9g z88 (fun _=>rfl) rfl rfl rfl h5) ?_
 refine z0a (z8d z9v rfl) ?_
 refine qd rfl ?_
 refine z0u ?_
 refine y2l 3 1 47 5 rfl rfl rfl ?_
 obtain ⟨h12,H⟩:=gif H
 refine z6c (fun (k10:Nat) (s:Int×(List Int)×Int×(List z0g))=>[(0,.ptr 0 0),(3,.row 1 s.2.2.2.length),(4,.dat (vint s.1)),(11,.dat (vlst (List.map z0n l4))),(12,.dat (vint (l4.length:Int))),(13,.dat (vint (k10:Int)))]) (fun (k10:Nat) (s:Int×(List Int)×Int×(List z0g))=>[(0,.box (some (A.bl 0)) 25 [.dat (vlst (List.map y22 s.2.1)),.dat (vint s.2.2.1)]),(1,.row 47 5 (List.map z00 s.2.2.2))]) (0,r2.2.L,r2.2.at_,[]) H ⟨rfl,rfl,rfl,rfl,rfl,rfl,trivial⟩ ⟨rfl,rfl,trivial⟩ (fun _ _=>rfl) ?_ ?_
 ·rintro ⟨v6,c7,c8,l9⟩ H
  replace H:z77 v6 c7 c8 l9=some r:=H
  unfold z77 at H
  refine z0c ?_
  refine z0b hN rfl ?_
  refine z0a (z04 rfl rfl) ?_
  refine z0c ?_
  refine z0j _ rfl (fun h=>(lt_t h).elim) (fun h => ?_)
  refine z14 ?_
  refine z0c ?_
  refine z0b hN rfl ?_
  refine z0a (z0h (.row _ _) rfl) ?_
  refine z0a (z2b (.row _ _) rfl) ?_
  refine z0m ?_
  cases H
  exact ⟨trivial,[(2,.row 1 _)],⟨rfl,trivial⟩,⟨rfl,rfl,trivial⟩,rfl,.inr (.inl ⟨2,rfl,rfl⟩)⟩
 ·rintro k10 x13 ⟨v6,c7,c8,l9⟩ q11 h14 h15 H hq11
  replace H:z55 k10 x13 v6 c7 c8 l9=some q11:=H
  unfold z55 at H
  refine z0c ?_
  refine z0b hN rfl ?_
  refine z0a (z04 rfl rfl) ?_
  refine z0c ?_
  refine z0j _ rfl (fun h => ?_) (fun h=>(lt_f h14 h).elim)
  refine z0l ?_
  refine z0c ?_
  refine z0u ?_
  refine z0c ?_
  refine z0b hN rfl ?_
  refine z0a (y00 z88 (fun _=>rfl) rfl rfl h15) ?_
  refine z0a (z0w tyS9 rfl (z3m h15) rfl) ?_
  refine qe rfl ?_
  refine z0c ?_
  refine z0b hN rfl ?_
  refine qd rfl ?_
  refine z0a (z0h (.ptr _ _) rfl) ?_
  refine z0a (z09 (u':=vlst (List.map y22 [0,10,50,100])) (z2g [[_],[_],[_],[_]] x1i ⟨rfl,.inl ⟨_,rfl,rfl,rfl⟩,rfl,rfl,.inl ⟨_,rfl,rfl,rfl⟩,rfl,rfl,.inl ⟨_,rfl,rfl,rfl⟩,rfl,rfl,.inl ⟨_,rfl,rfl,rfl⟩,rfl,trivial⟩ rfl rfl) rfl) ?_
  obtain ⟨r16,h17,H⟩:=bnd H
  refine z0k (z1e (z2t (z0d.mk c7 c8) [0,10,50,100] r16 h17) rfl ⟨.inl rfl,trivial⟩ rfl) rfl ?_
  refine z0a (z1a _ rfl rfl (.inl ⟨rfl,rfl⟩)) ?_
  refine qe rfl ?_
  refine z0c ?_
  refine z0b hN rfl ?_
  refine qd rfl ?_
  refine z0a (z0h (.ptr _ _) rfl) ?_
  refine z0a (z09 (u':=vlst (List.map z0n [[111,110,101],[116,119,111],[107,33]])) (z2g [[_],[_],[_]] z8w ⟨rfl,.inl ⟨_,rfl,rfl,rfl⟩,rfl,rfl,.inl ⟨_,rfl,rfl,rfl⟩,rfl,rfl,.inl ⟨_,rfl,rfl,rfl⟩,rfl,trivial⟩ rfl rfl) rfl) ?_
  obtain ⟨r18,h19,H⟩:=bnd H
  refine z0k (z1e (z07 r16.2 ([[111,110,101],[116,119,111],[107,33]]) r18 h19) rfl ⟨.inl rfl,trivial⟩ rfl) rfl ?_
  refine qd rfl ?_
  refine z0a (z09 (u':=vagg (z00 (z0g.mk x13 r18.1 (wr (v6+r16.1)) 0 0))) (z3z [(0,[vstr x13]),(1,[vstr r18.1]),(2,[vint (wr (v6+r16.1))])] y8k w25 rfl ⟨rfl,.inl ⟨_,rfl,rfl,rfl⟩,rfl,rfl,.inl ⟨_,rfl,rfl,rfl⟩,rfl,rfl,.inl ⟨_,rfl,rfl,rfl⟩,rfl,trivial⟩) rfl) ?_
  refine z0k (z3c 2 y8k rfl) rfl ?_
  refine z0k (z1f y4o rfl rfl rfl rfl) rfl ?_
  refine z0c ?_
  refine z0b hN rfl ?_
  refine qd rfl ?_
  refine z0a (z0h (.ptr _ _) rfl) ?_
  refine z0a (z09 (u':=vlst (List.map y22 [0,10,100,200])) (z2g [[_],[_],[_],[_]] x1i ⟨rfl,.inl ⟨_,rfl,rfl,rfl⟩,rfl,rfl,.inl ⟨_,rfl,rfl,rfl⟩,rfl,rfl,.inl ⟨_,rfl,rfl,rfl⟩,rfl,rfl,.inl ⟨_,rfl,rfl,rfl⟩,rfl,trivial⟩ rfl rfl) rfl) ?_
  obtain ⟨r20,h21,H⟩:=bnd H
  refine z0k (z1e (z2t r18.2 [0,10,100,200] r20 h21) rfl ⟨.inl rfl,trivial⟩ rfl) rfl ?_
  refine z0a (z1a _ rfl rfl (.inl ⟨rfl,rfl⟩)) ?_
  refine z0a (z0r y5l rfl) ?_
  refine z0k (z1m tyS3 rfl rfl rfl rfl) rfl ?_
  refine z0c ?_
  refine z5o mixed hN rfl rfl ?_
  refine z0a (z0r y5l rfl) ?_
  refine z0y (z0s tyS3 rfl rfl) rfl ?_
  refine z0a (z0h (.ptr _ _) rfl) ?_
  refine z0a (z09 (u':=vlst (List.map y22 [0,5,100,1000])) (z2g [[_],[_],[_],[_]] x1i ⟨rfl,.inl ⟨_,rfl,rfl,rfl⟩,rfl,rfl,.inl ⟨_,rfl,rfl,rfl⟩,rfl,rfl,.inl ⟨_,rfl,rfl,rfl⟩,rfl,rfl,.inl ⟨_,rfl,rfl,rfl⟩,rfl,trivial⟩ rfl rfl) rfl) ?_
  obtain ⟨r22,h23,H⟩:=bnd H
  refine z0k (z1e (z2t r20.2 [0,5,100,1000] r22 h23) rfl ⟨.inl rfl,trivial⟩ rfl) rfl ?_
  refine z0a (z1a _ rfl rfl (.inl ⟨rfl,rfl⟩)) ?_
  refine z0a (z0r y5k rfl) ?_
  refine z0k (z1m tyS3 rfl rfl rfl rfl) rfl ?_
  refine ⟨rfl,?_⟩
  refine z0b hN rfl ?_
  refine z0a (z0h (.row _ _) rfl) ?_
  refine z0y (z5v y4o rfl rfl rfl) rfl ?_
  refine z0a (z09 (u':=vlst (List.map z00 [(z0g.mk x13 r18.1 (wr (v6+r16.1)) (wr ((wr (v6+r16.1))+r20.1)) (wr ((wr ((wr (v6+r16.1))+r20.1))+r22.1)))])) (z2g [_] w47 ⟨rfl,.inr rfl,rfl,trivial⟩ rfl rfl) rfl) ?_
  obtain ⟨h24,H⟩:=gif H
  refine z0k (y8m w47 (fun _=>rfl) rfl rfl rfl ⟨by simp,by first | (simp; done) | simpa using h24⟩ rfl) rfl ?_
  refine z0a (z2b (.row _ _) rfl) ?_
  refine z0b hN rfl ?_
  refine z0a (z5w rfl rfl (by omega)) ?_
  refine qd rfl ?_
  exact ⟨_,z9s H,⟨rfl,rfl,rfl,rfl,rfl,rfl,trivial⟩,⟨rfl,rfl,trivial⟩⟩
theorem y2e (s:Bs) (n:Int) (r:Bs) (H:z41 s n=some r):Fn Tryz.prog 57 [vstr s,vint n] (z1s [vstr r]):=by
 obtain ⟨h0,h1,h2,rfl⟩:=x4t H
 obtain ⟨c,rfl⟩:=Int.eq_ofNat_of_zero_le h0
 refine y52 (by kernel_rfl) fun M w vs h => ?_
 have hv:=y3w (us:=[.string ⟨s.toArray⟩,.int .i64 c]) h
 subst hv
 have hs:(ByteArray.mk s.toArray).size=s.length:=by simp [ByteArray.size]
 refine (Tryz.strings_Repeat ⟨s.toArray⟩ c w (by omega) (by rw [hs]; exact Nat.le_trans (Nat.mul_le_mul h2 (show c≤1000000 by omega)) (by decide))).mono ?_
 rintro e w' ⟨rfl,hb⟩
 exact ⟨_,rfl,by simp [z1s,vstr,vval],Kp.of_below hb⟩
theorem y5g (s1:z0d) (r:(Bs×z0d)) (H:z60 s1=some r):Imp Tryz.prog 21 25 (z0q s1) [] (z1s [vstr r.1]) (z0q r.2):=by
 refine y2b (us:=[vstr r.1]) (cs':=(z0q r.2)) (by kernel_rfl) Tryz.func21 rfl rfl rfl rfl fun X bl hN => ?_
 unfold z60 at H
 refine z0c ?_
 refine z0b hN rfl ?_
 refine qe rfl ?_
 refine z0c ?_
 refine z0b hN rfl ?_
 refine z0a (z0h (.ptr _ _) rfl) ?_
 obtain ⟨r2,h3,H⟩:=bnd H
 refine z0a (z0o (y2e [115] 101 r2 h3) ⟨.inl rfl,.inl rfl,trivial⟩) ?_
 refine z0a (z09 (u':=vlst (List.map z0n [[111,110,101],[116,119,111],[116,104,114,101,101],[107,33],[111,110,101],[],[97,32,98],[127],r2])) (z2g [[_],[_],[_],[_],[_],[_],[_],[_],[_]] z8w ⟨rfl,.inl ⟨_,rfl,rfl,rfl⟩,rfl,rfl,.inl ⟨_,rfl,rfl,rfl⟩,rfl,rfl,.inl ⟨_,rfl,rfl,rfl⟩,rfl,rfl,.inl ⟨_,rfl,rfl,rfl⟩,rfl,rfl,.inl ⟨_,rfl,rfl,rfl⟩,rfl,rfl,.inl ⟨_,rfl,rfl,rfl⟩,rfl,rfl,.inl ⟨_,rfl,rfl,rfl⟩,rfl,rfl,.inl ⟨_,rfl,rfl,rfl⟩,rfl,rfl,.inl ⟨_,rfl,rfl,rfl⟩,rfl,trivial⟩ rfl rfl) rfl) ?_
 obtain ⟨r4,h5,H⟩:=bnd H
 refine z0k (z1e (z07 s1 ([[111,110,101],[116,119,111],[116,104,114,101,101],[107,33],[111,110,101],[],[97,32,98],[127],r2]) r4 h5) rfl ⟨.inl rfl,trivial⟩ rfl) rfl ?_
 refine qe rfl ?_
 refine z0m ?_
 cases H
 exact ⟨trivial,⟨.inl rfl,trivial⟩,rfl⟩
theorem z96 (s1:z0d) (low2:Int) (high3:Int) (r:(Int×z0d)) (H:z4i s1 low2 high3=some r):Imp Tryz.prog 22 25 (z0q s1) [vint low2,vint high3] (z1s [vint r.1]) (z0q r.2):=by
 refine y2b (us:=[vint r.1]) (cs':=(z0q r.2)) (by kernel_rfl) Tryz.func22 rfl rfl rfl rfl fun X bl hN => ?_
 unfold z4i at H
 refine z0c ?_
 refine z0b hN rfl ?_
 refine qe rfl ?_
 refine z0c ?_
 refine z0c ?_
 refine z0b hN rfl ?_
 refine z0a (z0h (.ptr _ _) rfl) ?_
 obtain ⟨r4,h5,H⟩:=bnd H
 refine z0k (z1e (z17 s1 12 r4 h5) rfl ⟨.inl rfl,trivial⟩ rfl) rfl ?_
 refine z0j _ rfl (fun h6 => ?_) (fun h6 => ?_)
 ·replace H:=ift h6 H
  refine z0c ?_
  refine z0b hN rfl ?_
  refine z0a (z0h (.ptr _ _) rfl) ?_
  refine qd rfl ?_
  refine z0a (z1a _ rfl rfl (.inr (.inl ⟨rfl,rfl⟩))) ?_
  refine qd rfl ?_
  refine z0a (z1a _ rfl rfl (.inl ⟨rfl,rfl⟩)) ?_
  refine qd rfl ?_
  refine qd rfl ?_
  refine z0a (z09 (u':=vlst (List.map y22 [wr (low2 - 1),wr (high3+1),low2,high3,(-1099511627776),1099511627776])) (z2g [[_],[_],[_],[_],[_],[_]] x1i ⟨rfl,.inl ⟨_,rfl,rfl,rfl⟩,rfl,rfl,.inl ⟨_,rfl,rfl,rfl⟩,rfl,rfl,.inl ⟨_,rfl,rfl,rfl⟩,rfl,rfl,.inl ⟨_,rfl,rfl,rfl⟩,rfl,rfl,.inl ⟨_,rfl,rfl,rfl⟩,rfl,rfl,.inl ⟨_,rfl,rfl,rfl⟩,rfl,trivial⟩ rfl rfl) rfl) ?_
  obtain ⟨r7,h8,H⟩:=bnd H
  refine z0k (z1e (z2t r4.2 [wr (low2 - 1),wr (high3+1),low2,high3,(-1099511627776),1099511627776] r7 h8) rfl ⟨.inl rfl,trivial⟩ rfl) rfl ?_
  refine qe rfl ?_
  refine z0m ?_
  cases H
  exact ⟨trivial,⟨.inl rfl,trivial⟩,rfl⟩
 ·replace H:=iff_ h6 H
  refine z0l ?_
  refine z0c ?_
  refine z0b hN rfl ?_
  refine z0a (z0h (.ptr _ _) rfl) ?_
  refine qd rfl ?_
  refine qd rfl ?_
  obtain ⟨r9,h10,H⟩:=bnd H
  refine z0k (z1e (z82 r4.2 low2 high3 r9 h10) rfl ⟨.inl rfl,.inl rfl,trivial⟩ rfl) rfl ?_
  refine qe rfl ?_
  refine z0m ?_
  cases H
  exact ⟨trivial,⟨.inl rfl,trivial⟩,rfl⟩
theorem y45 (s1:z0d) (r:((List z0g)×z0d)) (H:z6j s1=some r):Imp Tryz.prog 4 25 (z0q s1) [] (z1s [vlst (List.map z00 r.1)]) (z0q r.2):=by
 refine y2b (us:=[vlst (List.map z00 r.1)]) (cs':=(z0q r.2)) (by kernel_rfl) Tryz.func4 rfl rfl rfl rfl fun X bl hN => ?_
 unfold z6j at H
 refine z0c ?_
 refine z0b hN rfl ?_
 refine qe rfl ?_
 refine z0c ?_
 refine z0b hN rfl ?_
 refine z0a (z0h (.ptr _ _) rfl) ?_
 obtain ⟨r2,h3,H⟩:=bnd H
 refine y2p (rn [(0,0),(1,1)]) [(0,_,_,some _)] [(1,_)] (y3b s1 r2 h3) ⟨rfl,rfl,trivial⟩ ⟨.inl (.inl rfl),trivial⟩ ⟨⟨⟨rfl,rfl⟩,trivial⟩,trivial⟩ rfl ?_
 refine z0a (z2b (.row _ _) rfl) ?_
 refine z0z (ι:=(List z0g)×(List Int)×Int) (fun i=>[(3,.row 1 i.1.length)]) (fun i=>[(0,.box (some bl) 25 [.dat (vlst (List.map y22 i.2.1)),.dat (vint i.2.2)]),(1,.row 47 5 (List.map z00 i.1))]) (fun i=>z2m i.1 i.2.1 i.2.2=some r) (fun i=>rfl) ?_ ?_
 ·skip
  refine z0z (ι:=Bool×(List Int)×Int) (fun i=>[(0,.ptr 0 0),(3,.row 1 r2.1.length),(13,.dat (z01 i.1))]) (fun i=>[(0,.box (some bl) 25 [.dat (vlst (List.map y22 i.2.1)),.dat (vint i.2.2)]),(1,.row 47 5 (List.map z00 r2.1))]) (fun i=>z3g r2 i.1 i.2.1 i.2.2=some r) (fun i=>rfl) ?_ ?_
  ·skip
   refine z0b hN rfl ?_
   refine z0a (z0h (.row _ _) rfl) ?_
   refine z0y (x72 x2t rfl rfl) rfl ?_
   refine z0a (z29 rfl rfl) ?_
   refine qd rfl ?_
   refine z08 (j:=3) rfl rfl (fun h4 => ?_) (fun h4 => ?_) rfl
   ·have h5:=un1 h4
    replace H:=ift h5 H
    refine z0p rfl rfl h4 (z0h (.ptr _ _) rfl) ?_
    obtain ⟨r6,h7,H⟩:=bnd H
    refine x8p rfl rfl h4 (z1e (z17 r2.2 12 r6 h7) rfl ⟨.inl rfl,trivial⟩ rfl) rfl ?_
    refine z0a (z0v rfl (bTT h5) rfl) ?_
    exact ⟨(r6.1,r6.2.L,r6.2.at_),H,⟨rfl,rfl,rfl,trivial⟩,⟨rfl,rfl,trivial⟩⟩
   ·have h8:=un2 h4
    replace H:=iff_ h8 H
    refine z0f rfl rfl h4 ?_
    refine z0f rfl rfl h4 ?_
    refine z0a (z0x rfl (bFF h8) rfl) ?_
    exact ⟨(false,r2.2.L,r2.2.at_),H,⟨rfl,rfl,rfl,trivial⟩,⟨rfl,rfl,trivial⟩⟩
  ·rintro ⟨v9,c10,c11⟩ H
   replace H:z3g r2 v9 c10 c11=some r:=H
   unfold z3g at H
   refine z0j _ rfl (fun h12 => ?_) (fun h12 => ?_)
   ·replace H:=ift h12 H
    refine z0c ?_
    refine z0b hN rfl ?_
    refine z0a (z0h (.row _ _) rfl) ?_
    refine z0a (z0h (.ptr _ _) rfl) ?_
    refine z0a (z0h (.row _ _) rfl) ?_
    refine z0y (x72 x2t rfl rfl) rfl ?_
    obtain ⟨r13,h14,H⟩:=bnd H
    refine z0k (z1e (z10 (z0d.mk c10 c11) (r2.1.length:Int) r13 h14) rfl ⟨.inl rfl,trivial⟩ rfl) rfl ?_
    obtain ⟨x15,h16,H⟩:=bnd H
    refine z0y (x4d y61 rfl rfl rfl h16) rfl ?_
    refine z0a (z2b (.rptr _ _ _ _ _) rfl) ?_
    refine z0c ?_
    refine z0b hN rfl ?_
    refine z0a (z0h (.ptr _ _) rfl) ?_
    obtain ⟨r17,h18,H⟩:=bnd H
    refine z0k (z1e (z10 r13.2 3 r17 h18) rfl ⟨.inl rfl,trivial⟩ rfl) rfl ?_
    refine z0u ?_
    refine z0c ?_
    refine z0b hN rfl ?_
    refine z0a (z2a rfl rfl) ?_
    refine qe rfl ?_
    refine z0j _ rfl (fun h19 => ?_) (fun h19 => ?_)
    ·replace H:=ift h19 H
     refine z0b hN rfl ?_
     refine z0a (z0h (.rptr _ _ _ _ _) rfl) ?_
     refine z0a (z0h (.ptr _ _) rfl) ?_
     refine z0a (z09 (u':=vlst (List.map z0n [[],[65],[115,49]])) (z2g [[_],[_],[_]] z8w ⟨rfl,.inl ⟨_,rfl,rfl,rfl⟩,rfl,rfl,.inl ⟨_,rfl,rfl,rfl⟩,rfl,rfl,.inl ⟨_,rfl,rfl,rfl⟩,rfl,trivial⟩ rfl rfl) rfl) ?_
     obtain ⟨r20,h21,H⟩:=bnd H
     refine z0k (z1e (z07 r17.2 ([[],[65],[115,49]]) r20 h21) rfl ⟨.inl rfl,trivial⟩ rfl) rfl ?_
     refine z0a (y8z rfl) ?_
     refine z0a (y81 y4c rfl) ?_
     refine z0k (y7i (z0g.mk r20.1 x15.Secret x15.From x15.To x15.Until) tyS9 rfl rfl rfl rfl (z7s h16).2 rfl rfl) rfl ?_
     exact ⟨((r2.1.set r13.1.toNat (z0g.mk r20.1 x15.Secret x15.From x15.To x15.Until)),r20.2.L,r20.2.at_),H,⟨congrArg (Slot.row 1) (by simp),trivial⟩,⟨rfl,rfl,trivial⟩⟩
    ·replace H:=iff_ h19 H
     refine z0c ?_
     refine z0b hN rfl ?_
     refine z0a (z2a rfl rfl) ?_
     refine qe rfl ?_
     refine z0j _ rfl (fun h22 => ?_) (fun h22 => ?_)
     ·replace H:=ift h22 H
      refine z0b hN rfl ?_
      refine z0a (z0h (.rptr _ _ _ _ _) rfl) ?_
      refine z0a (z0h (.ptr _ _) rfl) ?_
      obtain ⟨r23,h24,H⟩:=bnd H
      refine z0k (z1e (y5g r17.2 r23 h24) rfl trivial rfl) rfl ?_
      refine z0a (y8z rfl) ?_
      refine z0a (y81 y60 rfl) ?_
      refine z0k (y7i (z0g.mk x15.Id r23.1 x15.From x15.To x15.Until) tyS9 rfl rfl rfl rfl (z7s h16).2 rfl rfl) rfl ?_
      exact ⟨((r2.1.set r13.1.toNat (z0g.mk x15.Id r23.1 x15.From x15.To x15.Until)),r23.2.L,r23.2.at_),H,⟨congrArg (Slot.row 1) (by simp),trivial⟩,⟨rfl,rfl,trivial⟩⟩
     ·replace H:=iff_ h22 H
      refine z0b hN rfl ?_
      refine z0a (z0h (.rptr _ _ _ _ _) rfl) ?_
      refine z0a (z0h (.rptr _ _ _ _ _) rfl) ?_
      refine z0a (z0h (.ptr _ _) rfl) ?_
      obtain ⟨r25,h26,H⟩:=bnd H
      refine z0k (z1e (z96 r17.2 0 300 r25 h26) rfl ⟨.inl rfl,.inl rfl,trivial⟩ rfl) rfl ?_
      refine z0a (z0h (.ptr _ _) rfl) ?_
      obtain ⟨r27,h28,H⟩:=bnd H
      refine z0k (z1e (z96 r25.2 0 300 r27 h28) rfl ⟨.inl rfl,.inl rfl,trivial⟩ rfl) rfl ?_
      refine z0a (y8z rfl) ?_
      refine z0a (y81 y4b rfl) ?_
      refine z0k (y7i (z0g.mk x15.Id x15.Secret r25.1 x15.To x15.Until) tyS3 rfl rfl rfl rfl (z7s h16).2 rfl rfl) rfl ?_
      refine z0a (y8z rfl) ?_
      refine z0a (y81 y5l rfl) ?_
      refine z0k (y7i (z0g.mk x15.Id x15.Secret r25.1 r27.1 x15.Until) tyS3 rfl rfl rfl (by simp) (w5n (z7s h16).2) rfl rfl) rfl ?_
      exact ⟨(((r2.1.set r13.1.toNat (z0g.mk x15.Id x15.Secret r25.1 x15.To x15.Until)).set r13.1.toNat (z0g.mk x15.Id x15.Secret r25.1 r27.1 x15.Until)),r27.2.L,r27.2.at_),H,⟨congrArg (Slot.row 1) (by simp),trivial⟩,⟨rfl,rfl,trivial⟩⟩
   ·replace H:=iff_ h12 H
    refine z0l ?_
    exact ⟨(r2.1,c10,c11),H,⟨rfl,trivial⟩,⟨rfl,rfl,trivial⟩⟩
 ·rintro ⟨out29,c30,c31⟩ H
  replace H:z2m out29 c30 c31=some r:=H
  unfold z2m at H
  refine z0c ?_
  refine z0b hN rfl ?_
  refine z0a (z0h (.row _ _) rfl) ?_
  refine z0a (z2b (.row _ _) rfl) ?_
  refine z0m ?_
  cases H
  exact ⟨trivial,⟨y9h rfl rfl,trivial⟩,rfl⟩
theorem y3t (s1:z0d) (r:((List Bs)×z0d)) (H:z15 s1=some r):Imp Tryz.prog 44 25 (z0q s1) [] (z1s [vlst (List.map z0n r.1)]) (z0q r.2):=by
 refine y2b (us:=[vlst (List.map z0n r.1)]) (cs':=(z0q r.2)) (by kernel_rfl) Tryz.func44 rfl rfl rfl rfl fun X bl hN => ?_
 unfold z15 at H
 refine z0c ?_
 refine z0b hN rfl ?_
 refine qe rfl ?_
 refine z0c ?_
 refine z0b hN rfl ?_
 refine qe rfl ?_
 refine z0c ?_
 refine z0c ?_
 refine z0b hN rfl ?_
 refine z0a (z0h (.ptr _ _) rfl) ?_
 obtain ⟨r2,h3,H⟩:=bnd H
 refine z0k (z1e (z82 s1 0 4 r2 h3) rfl ⟨.inl rfl,.inl rfl,trivial⟩ rfl) rfl ?_
 refine qd rfl ?_
 refine z0u ?_
 refine y2l 3 1 9 1 rfl rfl rfl ?_
 obtain ⟨h9,H⟩:=gif H
 refine y54 (fun (k7:Nat) (s:(List Int)×Int×(List Bs))=>[(0,.ptr 0 0),(3,.row 1 s.2.2.length),(5,.dat (vint r2.1)),(6,.dat (vint (k7:Int)))]) (fun (k7:Nat) (s:(List Int)×Int×(List Bs))=>[(0,.box (some bl) 25 [.dat (vlst (List.map y22 s.1)),.dat (vint s.2.1)]),(1,.row 9 1 (List.map z0n s.2.2))]) (r2.2.L,r2.2.at_,[]) H ⟨rfl,rfl,rfl,rfl,trivial⟩ ⟨rfl,rfl,trivial⟩ (fun _ _=>rfl) ?_ ?_
 ·rintro ⟨c4,c5,l6⟩ H
  replace H:z4l c4 c5 l6=some r:=H
  unfold z4l at H
  refine z0c ?_
  refine z0b hN rfl ?_
  refine z0a (z04 rfl rfl) ?_
  refine z0c ?_
  refine z0j _ rfl (fun h=>(x86 h).elim) (fun h => ?_)
  refine z14 ?_
  refine z0c ?_
  refine z0b hN rfl ?_
  refine z0a (z0h (.row _ _) rfl) ?_
  refine z0a (z2b (.row _ _) rfl) ?_
  refine z0m ?_
  cases H
  exact ⟨trivial,⟨y9h rfl rfl,trivial⟩,rfl⟩
 ·rintro k7 ⟨c4,c5,l6⟩ q8 h10 H hq8
  replace H:z26 k7 c4 c5 l6=some q8:=H
  unfold z26 at H
  refine z0c ?_
  refine z0b hN rfl ?_
  refine z0a (z04 rfl rfl) ?_
  refine z0c ?_
  refine z0j _ rfl (fun h => ?_) (fun h=>(x87 h10 h).elim)
  refine z0l ?_
  refine z0c ?_
  refine z0u ?_
  refine z0b hN rfl ?_
  refine z0a (z0h (.row _ _) rfl) ?_
  refine z0a (z0h (.ptr _ _) rfl) ?_
  refine z0a (z09 (u':=vlst (List.map z0n [[97],[97,58,42],[97,58,98],[97,58,98,58,42],[97,58,98,58,99],[98],[98,58,42],[98,58,99],[42]])) (z2g [[_],[_],[_],[_],[_],[_],[_],[_],[_]] z8w ⟨rfl,.inl ⟨_,rfl,rfl,rfl⟩,rfl,rfl,.inl ⟨_,rfl,rfl,rfl⟩,rfl,rfl,.inl ⟨_,rfl,rfl,rfl⟩,rfl,rfl,.inl ⟨_,rfl,rfl,rfl⟩,rfl,rfl,.inl ⟨_,rfl,rfl,rfl⟩,rfl,rfl,.inl ⟨_,rfl,rfl,rfl⟩,rfl,rfl,.inl ⟨_,rfl,rfl,rfl⟩,rfl,rfl,.inl ⟨_,rfl,rfl,rfl⟩,rfl,rfl,.inl ⟨_,rfl,rfl,rfl⟩,rfl,trivial⟩ rfl rfl) rfl) ?_
  obtain ⟨r11,h12,H⟩:=bnd H
  refine z0k (z1e (z07 (z0d.mk c4 c5) ([[97],[97,58,42],[97,58,98],[97,58,98,58,42],[97,58,98,58,99],[98],[98,58,42],[98,58,99],[42]]) r11 h12) rfl ⟨.inl rfl,trivial⟩ rfl) rfl ?_
  refine z0a (z09 (u':=vlst (List.map z0n [r11.1])) (z2g [[_]] z8w ⟨rfl,.inl ⟨_,rfl,rfl,rfl⟩,rfl,trivial⟩ rfl rfl) rfl) ?_
  obtain ⟨h13,H⟩:=gif H
  refine z0k (y8m z8w (fun _=>rfl) rfl rfl rfl ⟨by simp,by first | (simp; done) | simpa using h13⟩ rfl) rfl ?_
  refine z0a (z2b (.row _ _) rfl) ?_
  refine z0b hN rfl ?_
  refine z0a (z5w rfl rfl (by omega)) ?_
  refine qd rfl ?_
  exact ⟨_,z9s H,⟨rfl,rfl,rfl,rfl,trivial⟩,⟨rfl,rfl,trivial⟩⟩
theorem y0n (l r:List Bs) (H:z5f l=some r):FnG Tryz.prog 77 [.row 0 l.length] [(0,.rowA undef 9 1 (List.map z0n l))] (.dat (z1s [])) [(0,.rowA undef 9 1 (List.map z0n r))]:=by
 obtain ⟨hl,hr⟩:=x0x H
 refine w19 (fun s:Bs=>Value.string ⟨s.toArray⟩) r l (y6a H) (by kernel_rfl) (fun _=>rfl) (fun blk cap w hH hb => ?_) (fun h w => ?_)
 ·rw [hr]; exact Tryz.slices_Sort_string blk 0 cap l w hH hb (by omega)
 ·exact Tryz.slices_Sort_string_none none 0 w
theorem z9t (l r:List Bs) (H:z4o l=some r):FnG Tryz.prog 78 [.row 0 l.length] [(0,.row 9 1 (List.map z0n l))] (.row 900 r.length) [(900,.row 9 1 (List.map z0n r))]:=by
 obtain ⟨h1,rfl⟩:=x2j H
 exact x9p (fun s:Bs=>Value.string ⟨s.toArray⟩) [] (Lib.compact l) l (x0g l) (by kernel_rfl) (fun _=>rfl) (fun blk cap w hH hc=>Tryz.slices_Compact_string blk 0 cap l w hH (by omega) hc) (fun h a cap w=>Tryz.slices_Compact_string_empty a cap w)
theorem z9q (s1:(List Bs)) (p1:Bs→Option (Bool)) (fv1:Nat) (us1:List V) (hp1:∀ a0 r,p1 a0=some r→Fn Tryz.prog fv1 ([vstr a0]++us1) (z1s [z01 r])) (r:(Int)) (H:z4n s1 p1=some r):Fn Tryz.prog 112 [vlst (List.map z0n s1),vfn fv1 us1] (z1s [vint r]):=by
 refine ⟨by kernel_rfl,z1g (us:=[vint r]) Tryz.func112 rfl rfl rfl rfl fun X hN => ?_⟩
 unfold z4n at H
 refine z0c ?_
 refine z0b hN rfl ?_
 refine qe rfl ?_
 refine z0c ?_
 refine z0c ?_
 refine z0b hN rfl ?_
 refine qd rfl ?_
 refine z0a (z8d z9v rfl) ?_
 refine qd rfl ?_
 refine z0u ?_
 obtain ⟨h4,H⟩:=gif H
 refine z6c (fun (k2:Nat) (s:Unit)=>[(0,.dat (vlst (List.map z0n s1))),(1,.dat (vfn fv1 us1)),(7,.dat (vint (s1.length:Int))),(8,.dat (vint (k2:Int)))]) (fun (k2:Nat) (s:Unit)=>[]) () H ⟨rfl,rfl,rfl,rfl,trivial⟩ trivial (fun _ _=>rfl) ?_ ?_
 ·rintro ⟨⟩ H
  replace H:z6h=some r:=H
  unfold z6h at H
  refine z0c ?_
  refine z0b hN rfl ?_
  refine z0a (z04 rfl rfl) ?_
  refine z0c ?_
  refine z0j _ rfl (fun h=>(lt_t h).elim) (fun h => ?_)
  refine z14 ?_
  refine z0c ?_
  refine z0b hN rfl ?_
  refine qe rfl ?_
  refine z0m ?_
  cases H
  exact ⟨trivial,.inl rfl,trivial⟩
 ·rintro k2 x5 ⟨⟩ q3 h6 h7 H hq3
  replace H:z6g p1 k2 x5=some q3:=H
  unfold z6g at H
  refine z0c ?_
  refine z0b hN rfl ?_
  refine z0a (z04 rfl rfl) ?_
  refine z0c ?_
  refine z0j _ rfl (fun h => ?_) (fun h=>(lt_f h6 h).elim)
  refine z0l ?_
  refine z0c ?_
  refine z0u ?_
  refine z0c ?_
  refine z0b hN rfl ?_
  refine qd rfl ?_
  refine qe rfl ?_
  refine z0c ?_
  refine z0b hN rfl ?_
  refine qd rfl ?_
  refine qd rfl ?_
  refine qd rfl ?_
  refine z0a (y00 z88 (fun _=>rfl) rfl rfl h7) ?_
  refine z0a (z0w tyS9 rfl (z3m h7) rfl) ?_
  obtain ⟨r8,h9,H⟩:=bnd H
  refine z0a (y9n (hp1 x5 r8 h9) rfl ⟨.inl rfl,trivial⟩) ?_
  refine z0j _ rfl (fun h10 => ?_) (fun h10 => ?_)
  ·replace H:=ift h10 H
   refine z0c ?_
   refine z0b hN rfl ?_
   refine qd rfl ?_
   refine qe rfl ?_
   refine z0m ?_
   replace H:=retl H hq3
   cases H
   exact ⟨trivial,.inl rfl,trivial⟩
  ·replace H:=iff_ h10 H
   refine z0l ?_
   refine z0b hN rfl ?_
   refine z0a (z5w rfl rfl (by omega)) ?_
   refine qd rfl ?_
   exact ⟨_,z9s H,⟨rfl,rfl,rfl,rfl,trivial⟩,trivial⟩
theorem z52 (s1:(List Bs)) (p1:Bs→Option (Bool)) (fv1:Nat) (us1:List V) (hp1:∀ a0 r,p1 a0=some r→Fn Tryz.prog fv1 ([vstr a0]++us1) (z1s [z01 r])) (r:(Bool)) (H:z1r s1 p1=some r):Fn Tryz.prog 74 [vlst (List.map z0n s1),vfn fv1 us1] (z1s [z01 r]):=by
 refine ⟨by kernel_rfl,z1g (us:=[z01 r]) Tryz.func74 rfl rfl rfl rfl fun X hN => ?_⟩
 unfold z1r at H
 refine z0c ?_
 refine z0b hN rfl ?_
 refine qe rfl ?_
 refine z0c ?_
 refine z0b hN rfl ?_
 refine qd rfl ?_
 refine qd rfl ?_
 obtain ⟨r2,h3,H⟩:=bnd H
 refine z0a (z0o (z9q s1 p1 fv1 us1 hp1 r2 h3) ⟨.inl rfl,.inl rfl,trivial⟩) ?_
 refine z0a (z9w rfl rfl) ?_
 refine qe rfl ?_
 refine z0m ?_
 cases H
 exact ⟨trivial,.inl rfl,trivial⟩
theorem y4j (s p:Bs) (r:Bs×Bool) (H:z6s s p=some r):Fn Tryz.prog 113 [vstr s,vstr p] (z1s [vstr r.1,z01 r.2]):=by
 obtain ⟨h1,rfl⟩:=x0r H
 refine y52 (by kernel_rfl) fun M w vs h => ?_
 have hv:=y3w (us:=[.string ⟨s.toArray⟩,.string ⟨p.toArray⟩]) h
 subst hv
 refine (Tryz.strings_CutSuffix ⟨s.toArray⟩ ⟨p.toArray⟩ w (by simp [ByteArray.size]; omega)).mono ?_
 rintro e w' ⟨rfl,rfl⟩
 refine ⟨_,rfl,⟨[_,_],rfl,rfl,fun j u hj => ?_⟩,Kp.refl _ _⟩
 rcases j with _ | _ | j
 ·cases hj; exact ⟨_,rfl,rfl⟩
 ·cases hj; exact ⟨_,rfl,rfl⟩
 ·simp at hj
theorem y4i (s p:Bs) (r:Bool) (H:z9o s p=some r):Fn Tryz.prog 91 [vstr s,vstr p] (z1s [z01 r]):=by
 cases H
 refine y52 (by kernel_rfl) fun M w vs h => ?_
 have h1:=y3w (us:=[.string ⟨s.toArray⟩,.string ⟨p.toArray⟩]) h
 subst h1
 refine (Tryz.strings_HasPrefix ⟨s.toArray⟩ ⟨p.toArray⟩ w).mono ?_
 rintro e w' ⟨rfl,rfl⟩
 exact ⟨_,rfl,rfl,Kp.refl _ _⟩
theorem y95 (a1:Bs) (b2:Bs) (r:(Bool)) (H:y1q a1 b2=some r):Fn Tryz.prog 76 [vstr a1,vstr b2] (z1s [z01 r]):=by
 refine ⟨by kernel_rfl,z1g (us:=[z01 r]) Tryz.func76 rfl rfl rfl rfl fun X hN => ?_⟩
 unfold y1q at H
 refine z0c ?_
 refine z0b hN rfl ?_
 refine qe rfl ?_
 refine z0c ?_
 refine z0c ?_
 refine z0b hN rfl ?_
 refine qd rfl ?_
 obtain ⟨r3,h4,H⟩:=bnd H
 refine z0a (z0o (y4j a1 [42] r3 h4) ⟨.inl rfl,.inl rfl,trivial⟩) ?_
 refine qd rfl ?_
 refine z0a (z1q rfl rfl) ?_
 refine z0a (z1q rfl rfl) ?_
 refine qe rfl ?_
 refine qe rfl ?_
 refine z0c ?_
 refine z0b hN rfl ?_
 refine qd rfl ?_
 refine z0j _ rfl (fun h5 => ?_) (fun h5 => ?_)
 ·replace H:=ift h5 H
  refine z0c ?_
  refine z0b hN rfl ?_
  refine qd rfl ?_
  refine qd rfl ?_
  obtain ⟨r6,h7,H⟩:=bnd H
  refine z0a (z0o (y4i b2 r3.1 r6 h7) ⟨.inl rfl,.inl rfl,trivial⟩) ?_
  refine qe rfl ?_
  refine z0m ?_
  cases H
  exact ⟨trivial,.inl rfl,trivial⟩
 ·replace H:=iff_ h5 H
  refine z0l ?_
  refine z0c ?_
  refine z0b hN rfl ?_
  refine qd rfl ?_
  refine qd rfl ?_
  refine z0a (z65 rfl rfl) ?_
  refine qe rfl ?_
  refine z0m ?_
  cases H
  exact ⟨trivial,.inl rfl,trivial⟩
theorem y6s (o1:Bs) (c2:Bs) (r:(Bool)) (H:z8x o1 c2=some r):Fn Tryz.prog 75 [vstr o1,y1e [[vstr c2]] 0 0] (z1s [z01 r]):=by
 refine ⟨by kernel_rfl,z1g (us:=[z01 r]) Tryz.func75 rfl rfl rfl rfl fun X hN => ?_⟩
 unfold z8x at H
 refine z0c ?_
 refine z0b hN rfl ?_
 refine qe rfl ?_
 refine z0z (ι:=Bool) (fun i=>[(3,.dat (z01 i))]) (fun i=>[]) (fun i=>z64 i=some r) (fun i=>rfl) ?_ ?_
 ·skip
  refine z0b hN rfl ?_
  refine qd rfl ?_
  refine z0a (z0w tyS9 rfl rfl rfl) ?_
  refine z0a (z8k rfl rfl) ?_
  refine qd rfl ?_
  refine z08 (j:=3) rfl rfl (fun h3 => ?_) (fun h3 => ?_) rfl
  ·have h4:=un1 h3
   replace H:=ift h4 H
   refine z0p rfl rfl h3 (z0h (.dat _) rfl) ?_
   refine z0p rfl rfl h3 (z0w tyS9 rfl rfl rfl) ?_
   obtain ⟨r5,h6,H⟩:=bnd H
   refine z0p rfl rfl h3 (z0o (y95 o1 c2 r5 h6) ⟨.inl rfl,.inl rfl,trivial⟩) ?_
   refine z0a (z0v rfl (bTT h4) rfl) ?_
   refine qe rfl ?_
   exact ⟨r5,H,⟨rfl,trivial⟩,trivial⟩
  ·have h7:=un2 h3
   replace H:=iff_ h7 H
   refine z0f rfl rfl h3 ?_
   refine z0f rfl rfl h3 ?_
   refine z0f rfl rfl h3 ?_
   refine z0a (z0x rfl (bFF h7) rfl) ?_
   refine qe rfl ?_
   exact ⟨false,H,⟨rfl,trivial⟩,trivial⟩
 ·rintro v8 H
  replace H:z64 v8=some r:=H
  unfold z64 at H
  refine z0m ?_
  cases H
  exact ⟨trivial,.inl rfl,trivial⟩
theorem y4x (l1:(List Bs)) (r:((List Bs))) (H:z8m l1=some r):Fn Tryz.prog 43 [vlst (List.map z0n l1)] (z1s [vlst (List.map z0n r)]):=by
 refine ⟨by kernel_rfl,z1g (us:=[vlst (List.map z0n r)]) Tryz.func43 rfl rfl rfl rfl fun X hN => ?_⟩
 unfold z8m at H
 refine z0c ?_
 refine z0b hN rfl ?_
 refine qe rfl ?_
 refine z0c ?_
 refine z0b hN rfl ?_
 refine qe rfl ?_
 refine z0c ?_
 refine z0c ?_
 refine z0b hN rfl ?_
 refine qd rfl ?_
 refine z0a (z8d z9v rfl) ?_
 refine qd rfl ?_
 refine z0u ?_
 refine y2l 3 1 9 1 rfl rfl rfl ?_
 obtain ⟨h5,H⟩:=gif H
 refine z6c (fun (k3:Nat) (s:(List Bs))=>[(0,.dat (vlst (List.map z0n l1))),(3,.row 1 s.length),(6,.dat (vlst (List.map z0n l1))),(7,.dat (vint (l1.length:Int))),(8,.dat (vint (k3:Int)))]) (fun (k3:Nat) (s:(List Bs))=>[(1,.row 9 1 (List.map z0n s))]) [] H ⟨rfl,rfl,rfl,rfl,rfl,trivial⟩ ⟨rfl,trivial⟩ (fun _ _=>rfl) ?_ ?_
 ·rintro l2 H
  replace H:y0z l2=some r:=H
  unfold y0z at H
  refine z0c ?_
  refine z0b hN rfl ?_
  refine z0a (z04 rfl rfl) ?_
  refine z0c ?_
  refine z0j _ rfl (fun h=>(lt_t h).elim) (fun h => ?_)
  refine z14 ?_
  refine z0c ?_
  refine z0b hN rfl ?_
  refine z0a (z0h (.row _ _) rfl) ?_
  obtain ⟨r7,h8,H⟩:=bnd H
  refine y2p (rn [(0,1)]) [(0,_,_,some _)] [] (y0n l2 r7 h8) ⟨rfl,trivial⟩ ⟨.inl (.inl rfl),trivial⟩ ⟨⟨⟨rfl,rfl,rfl⟩,by simp [x65,y6a h8]⟩,trivial⟩ rfl ?_
  refine z0c ?_
  refine z0b hN rfl ?_
  refine z0a (z0h (.row _ _) rfl) ?_
  obtain ⟨r9,h10,H⟩:=bnd H
  refine y2p (rn [(0,1),(900,2)]) [(0,_,_,none)] [(900,_)] (z9t r7 r9 h10) ⟨rfl,rfl,trivial⟩ ⟨.inl (.inl (congrArg (Slot.row 1) (y6a h8).symm)),trivial⟩ ⟨⟨⟨rfl,rfl,rfl⟩,trivial⟩,trivial⟩ rfl ?_
  refine z0a (z2b (.row _ _) rfl) ?_
  refine z0m ?_
  cases H
  exact ⟨trivial,y9h rfl rfl,trivial⟩
 ·rintro k3 x6 l2 q4 h11 h12 H hq4
  replace H:y0y l1 k3 x6 l2=some q4:=H
  unfold y0y at H
  refine z0c ?_
  refine z0b hN rfl ?_
  refine z0a (z04 rfl rfl) ?_
  refine z0c ?_
  refine z0j _ rfl (fun h => ?_) (fun h=>(lt_f h11 h).elim)
  refine z0l ?_
  refine z0z (ι:=(List Bs)) (fun i=>[(0,.dat (vlst (List.map z0n l1))),(3,.row 1 i.length),(6,.dat (vlst (List.map z0n l1))),(7,.dat (vint (l1.length:Int))),(8,.dat (vint (k3:Int)))]) (fun i=>[(1,.row 9 1 (List.map z0n i))]) (fun i=>z74 i=some q4) (fun i=>rfl) ?_ ?_
  ·skip
   refine z0u ?_
   refine z0c ?_
   refine z0b hN rfl ?_
   refine z0a (y00 z88 (fun _=>rfl) rfl rfl h12) ?_
   refine z0a (z0w tyS9 rfl (z3m h12) rfl) ?_
   refine z0k (z3c 3 tyZ9 rfl) rfl ?_
   refine z0k (z1m tyS9 rfl rfl rfl rfl) rfl ?_
   refine z0c ?_
   refine y37 3 [vstr x6] rfl rfl ?_
   refine z0b hN rfl ?_
   refine qd rfl ?_
   refine z0a (y4u (us:=[_]) ⟨rfl,trivial⟩) ?_
   obtain ⟨r13,h14,H⟩:=bnd H
   refine z0a (z0o (z52 l1 (fun (a0:Bs)=>z8x a0 x6) 75 [y1e [[vstr x6]] 0 0] (fun a0 r h=>y6s a0 x6 r h) r13 h14) ⟨.inl rfl,.inl rfl,trivial⟩) ?_
   refine z0a (z3t rfl) ?_
   refine z0j _ rfl (fun h15 => ?_) (fun h15 => ?_)
   ·replace H:=ift h15 H
    refine z0b hN rfl ?_
    refine z0a (z0h (.row _ _) rfl) ?_
    refine z0a (z0w tyS9 rfl rfl rfl) ?_
    refine z0a (z09 (u':=vlst (List.map z0n [x6])) (z2g [[_]] z8w ⟨rfl,.inl ⟨_,rfl,rfl,rfl⟩,rfl,trivial⟩ rfl rfl) rfl) ?_
    obtain ⟨h16,H⟩:=gif H
    refine z0k (y8m z8w (fun _=>rfl) rfl rfl rfl ⟨by simp,by first | (simp; done) | simpa using h16⟩ rfl) rfl ?_
    refine z0a (z2b (.row _ _) rfl) ?_
    exact ⟨(l2++[x6]),H,⟨rfl,rfl,rfl,rfl,rfl,trivial⟩,⟨rfl,trivial⟩⟩
   ·replace H:=iff_ h15 H
    refine z0l ?_
    exact ⟨l2,H,⟨rfl,rfl,rfl,rfl,rfl,trivial⟩,⟨rfl,trivial⟩⟩
  ·rintro out17 H
   replace H:z74 out17=some q4:=H
   unfold z74 at H
   refine z0b hN rfl ?_
   refine z0a (z5w rfl rfl (by omega)) ?_
   refine qd rfl ?_
   exact ⟨_,z9s H,⟨rfl,rfl,rfl,rfl,rfl,trivial⟩,⟨rfl,trivial⟩⟩
theorem z8t (s1:z0d) (r:(z0e×z0d)) (H:z1v s1=some r):Imp Tryz.prog 12 25 (z0q s1) [] (z1s [vagg (z0t r.1)]) (z0q r.2):=by
 refine y2b (us:=[vagg (z0t r.1)]) (cs':=(z0q r.2)) (by kernel_rfl) Tryz.func12 rfl rfl rfl rfl fun X bl hN => ?_
 unfold z1v at H
 refine z0c ?_
 refine z0b hN rfl ?_
 refine z0k (z3c 1 y06 rfl) rfl ?_
 refine z0c ?_
 refine z5o mixed hN rfl rfl ?_
 refine z0a (z0h (.ptr _ _) rfl) ?_
 refine z0a (z09 (u':=vlst (List.map z0n [[116,49],[116,49],[116,50],[116,51]])) (z2g [[_],[_],[_],[_]] z8w ⟨rfl,.inl ⟨_,rfl,rfl,rfl⟩,rfl,rfl,.inl ⟨_,rfl,rfl,rfl⟩,rfl,rfl,.inl ⟨_,rfl,rfl,rfl⟩,rfl,rfl,.inl ⟨_,rfl,rfl,rfl⟩,rfl,trivial⟩ rfl rfl) rfl) ?_
 obtain ⟨r2,h3,H⟩:=bnd H
 refine z0k (z1e (z07 s1 ([[116,49],[116,49],[116,50],[116,51]]) r2 h3) rfl ⟨.inl rfl,trivial⟩ rfl) rfl ?_
 refine z0a (z0h (.ptr _ _) rfl) ?_
 refine z0a (z09 (u':=vlst (List.map z0n [[97,110,110],[98,111,98]])) (z2g [[_],[_]] z8w ⟨rfl,.inl ⟨_,rfl,rfl,rfl⟩,rfl,rfl,.inl ⟨_,rfl,rfl,rfl⟩,rfl,trivial⟩ rfl rfl) rfl) ?_
 obtain ⟨r4,h5,H⟩:=bnd H
 refine z0k (z1e (z07 r2.2 ([[97,110,110],[98,111,98]]) r4 h5) rfl ⟨.inl rfl,trivial⟩ rfl) rfl ?_
 refine z0a (z0h (.ptr _ _) rfl) ?_
 refine z0a (z09 (u':=vlst (List.map z0n [[103,97,116,101],[103,97,116,101],[103,97,116,101],[111,116,104,101,114]])) (z2g [[_],[_],[_],[_]] z8w ⟨rfl,.inl ⟨_,rfl,rfl,rfl⟩,rfl,rfl,.inl ⟨_,rfl,rfl,rfl⟩,rfl,rfl,.inl ⟨_,rfl,rfl,rfl⟩,rfl,rfl,.inl ⟨_,rfl,rfl,rfl⟩,rfl,trivial⟩ rfl rfl) rfl) ?_
 obtain ⟨r6,h7,H⟩:=bnd H
 refine z0k (z1e (z07 r4.2 ([[103,97,116,101],[103,97,116,101],[103,97,116,101],[111,116,104,101,114]]) r6 h7) rfl ⟨.inl rfl,trivial⟩ rfl) rfl ?_
 refine z0a (z0h (.ptr _ _) rfl) ?_
 refine z0a (z09 (u':=vlst (List.map z0n [[],[],[],[116,48],[116,50]])) (z2g [[_],[_],[_],[_],[_]] z8w ⟨rfl,.inl ⟨_,rfl,rfl,rfl⟩,rfl,rfl,.inl ⟨_,rfl,rfl,rfl⟩,rfl,rfl,.inl ⟨_,rfl,rfl,rfl⟩,rfl,rfl,.inl ⟨_,rfl,rfl,rfl⟩,rfl,rfl,.inl ⟨_,rfl,rfl,rfl⟩,rfl,trivial⟩ rfl rfl) rfl) ?_
 obtain ⟨r8,h9,H⟩:=bnd H
 refine z0k (z1e (z07 r6.2 ([[],[],[],[116,48],[116,50]]) r8 h9) rfl ⟨.inl rfl,trivial⟩ rfl) rfl ?_
 refine z0a (z09 (u':=vlst (List.map z0n [[115,104,111,112]])) (z2g [[_]] z8w ⟨rfl,.inl ⟨_,rfl,rfl,rfl⟩,rfl,trivial⟩ rfl rfl) rfl) ?_
 refine z0a (z09 (u':=vlst (List.map z0n [[109,97,112,115],[115,104,111,112]])) (z2g [[_],[_]] z8w ⟨rfl,.inl ⟨_,rfl,rfl,rfl⟩,rfl,rfl,.inl ⟨_,rfl,rfl,rfl⟩,rfl,trivial⟩ rfl rfl) rfl) ?_
 refine z0a (z09 (u':=vlst (List.map z0n [[109,97,112,115]])) (z2g [[_]] z8w ⟨rfl,.inl ⟨_,rfl,rfl,rfl⟩,rfl,trivial⟩ rfl rfl) rfl) ?_
 refine z0a (y09 (u':=vlst (List.map x1e ([[],[],[[115,104,111,112]],[[109,97,112,115],[115,104,111,112]],[[109,97,112,115]]]:(List (List Bs))))) (w4y (by exact ⟨⟨z4g,trivial⟩,⟨z4g,trivial⟩,⟨z05,trivial⟩,⟨z05,trivial⟩,⟨z05,trivial⟩,trivial⟩)) (z2g [[vnil],[vnil],[_],[_],[_]] w46 ⟨rfl,.inl ⟨_,rfl,rfl,rfl⟩,rfl,rfl,.inl ⟨_,rfl,rfl,rfl⟩,rfl,rfl,.inl ⟨_,rfl,rfl,rfl⟩,rfl,rfl,.inl ⟨_,rfl,rfl,rfl⟩,rfl,rfl,.inl ⟨_,rfl,rfl,rfl⟩,rfl,trivial⟩ rfl rfl)) ?_
 refine z0a (z0h (.ptr _ _) rfl) ?_
 obtain ⟨r10,h11,H⟩:=bnd H
 refine z0k (z1e (z10 r8.2 5 r10 h11) rfl ⟨.inl rfl,trivial⟩ rfl) rfl ?_
 obtain ⟨x12,h13,H⟩:=bnd H
 refine z0a (y23 w5a (fun _=>rfl) rfl rfl h13) ?_
 refine z0a (z0w z7t rfl (z3m (z7s h13).2) rfl) ?_
 refine z0a (z0h (.ptr _ _) rfl) ?_
 obtain ⟨r14,h15,H⟩:=bnd H
 refine z0k (z1e (y3t r10.2 r14 h15) rfl trivial rfl) rfl ?_
 obtain ⟨r16,h17,H⟩:=bnd H
 refine z0a (z0o (y4x r14.1 r16 h17) ⟨.inl rfl,trivial⟩) ?_
 refine z0a (z0h (.ptr _ _) rfl) ?_
 refine z0a (z09 (u':=vlst (List.map y22 [0,50,100])) (z2g [[_],[_],[_]] x1i ⟨rfl,.inl ⟨_,rfl,rfl,rfl⟩,rfl,rfl,.inl ⟨_,rfl,rfl,rfl⟩,rfl,rfl,.inl ⟨_,rfl,rfl,rfl⟩,rfl,trivial⟩ rfl rfl) rfl) ?_
 obtain ⟨r18,h19,H⟩:=bnd H
 refine z0k (z1e (z2t r14.2 [0,50,100] r18 h19) rfl ⟨.inl rfl,trivial⟩ rfl) rfl ?_
 refine z0a (z09 (u':=vagg (z0t (z0e.mk r2.1 r4.1 r6.1 r8.1 x12 r16 r18.1 0))) (z3z [(0,[vstr r2.1]),(1,[vstr r4.1]),(2,[vstr r6.1]),(3,[vstr r8.1]),(4,[vlst (List.map z0n x12)]),(5,[vlst (List.map z0n r16)]),(6,[vint r18.1])] y06 y4p rfl ⟨rfl,.inl ⟨_,rfl,rfl,rfl⟩,rfl,rfl,.inl ⟨_,rfl,rfl,rfl⟩,rfl,rfl,.inl ⟨_,rfl,rfl,rfl⟩,rfl,rfl,.inl ⟨_,rfl,rfl,rfl⟩,rfl,rfl,.inl ⟨_,rfl,rfl,rfl⟩,rfl,rfl,.inl ⟨_,rfl,rfl,rfl⟩,rfl,rfl,.inl ⟨_,rfl,rfl,rfl⟩,rfl,trivial⟩) rfl) ?_
 refine z0k (z3c 2 y06 rfl) rfl ?_
 refine z0k (z1f z4c rfl rfl rfl rfl) rfl ?_
 refine ⟨rfl,?_⟩
 refine z0c ?_
 refine z5o mixed hN rfl rfl ?_
 refine z0a (z0r y3p rfl) ?_
 refine z0y (z0s tyS3 rfl rfl) rfl ?_
 refine z0a (z0h (.ptr _ _) rfl) ?_
 refine z0a (z09 (u':=vlst (List.map y22 [1,50,100,200])) (z2g [[_],[_],[_],[_]] x1i ⟨rfl,.inl ⟨_,rfl,rfl,rfl⟩,rfl,rfl,.inl ⟨_,rfl,rfl,rfl⟩,rfl,rfl,.inl ⟨_,rfl,rfl,rfl⟩,rfl,rfl,.inl ⟨_,rfl,rfl,rfl⟩,rfl,trivial⟩ rfl rfl) rfl) ?_
 obtain ⟨r20,h21,H⟩:=bnd H
 refine z0k (z1e (z2t r18.2 [1,50,100,200] r20 h21) rfl ⟨.inl rfl,trivial⟩ rfl) rfl ?_
 refine z0a (z1a _ rfl rfl (.inl ⟨rfl,rfl⟩)) ?_
 refine z0a (z0r y2m rfl) ?_
 refine z0k (z1m tyS3 rfl rfl rfl rfl) rfl ?_
 refine ⟨rfl,?_⟩
 refine z0c ?_
 refine z0b hN rfl ?_
 refine z0y (z5v z4c rfl rfl rfl) rfl ?_
 refine z0k (z1f z4c rfl rfl rfl rfl) rfl ?_
 refine z0m ?_
 cases H
 exact ⟨trivial,⟨.inl ⟨_,_,_,z0t (z0e.mk r2.1 r4.1 r6.1 r8.1 x12 r16 r18.1 (wr (r18.1+r20.1))),rfl,rfl,rfl,rfl,z4c⟩,trivial⟩,rfl⟩
theorem y50 (s1:z0d) (r:(Bs×z0d)) (H:z7d s1=some r):Imp Tryz.prog 58 25 (z0q s1) [] (z1s [vstr r.1]) (z0q r.2):=by
 refine y2b (us:=[vstr r.1]) (cs':=(z0q r.2)) (by kernel_rfl) Tryz.func58 rfl rfl rfl rfl fun X bl hN => ?_
 unfold z7d at H
 refine z0c ?_
 refine z0b hN rfl ?_
 refine qe rfl ?_
 refine z0c ?_
 refine z0c ?_
 refine z0b hN rfl ?_
 refine z0a (z0h (.ptr _ _) rfl) ?_
 obtain ⟨r2,h3,H⟩:=bnd H
 refine z0k (z1e (z17 s1 25 r2 h3) rfl ⟨.inl rfl,trivial⟩ rfl) rfl ?_
 refine z0j _ rfl (fun h4 => ?_) (fun h4 => ?_)
 ·replace H:=ift h4 H
  refine z0c ?_
  refine z0b hN rfl ?_
  refine z0a (z0h (.ptr _ _) rfl) ?_
  obtain ⟨r5,h6,H⟩:=bnd H
  refine z0a (z0o (y2e [97,58] 10 r5 h6) ⟨.inl rfl,.inl rfl,trivial⟩) ?_
  obtain ⟨h7,H⟩:=gif H
  refine z0a (z1h rfl rfl (Nat.le_trans h7 (by decide))) ?_
  refine z0a (z09 (u':=vlst (List.map z0n [[],[97,58,42,58,98],[65],[97,58,58,98],[97,58],[42,42],[97,42],(r5++[97])])) (z2g [[_],[_],[_],[_],[_],[_],[_],[_]] z8w ⟨rfl,.inl ⟨_,rfl,rfl,rfl⟩,rfl,rfl,.inl ⟨_,rfl,rfl,rfl⟩,rfl,rfl,.inl ⟨_,rfl,rfl,rfl⟩,rfl,rfl,.inl ⟨_,rfl,rfl,rfl⟩,rfl,rfl,.inl ⟨_,rfl,rfl,rfl⟩,rfl,rfl,.inl ⟨_,rfl,rfl,rfl⟩,rfl,rfl,.inl ⟨_,rfl,rfl,rfl⟩,rfl,rfl,.inl ⟨_,rfl,rfl,rfl⟩,rfl,trivial⟩ rfl rfl) rfl) ?_
  obtain ⟨r8,h9,H⟩:=bnd H
  refine z0k (z1e (z07 r2.2 ([[],[97,58,42,58,98],[65],[97,58,58,98],[97,58],[42,42],[97,42],(r5++[97])]) r8 h9) rfl ⟨.inl rfl,trivial⟩ rfl) rfl ?_
  refine qe rfl ?_
  refine z0m ?_
  cases H
  exact ⟨trivial,⟨.inl rfl,trivial⟩,rfl⟩
 ·replace H:=iff_ h4 H
  refine z0l ?_
  refine z0c ?_
  refine z0b hN rfl ?_
  refine z0a (z0h (.ptr _ _) rfl) ?_
  refine z0a (z09 (u':=vlst (List.map z0n [[42],[97],[97,58,42],[97,58,98],[97,58,98,58,42],[97,58,98,58,99],[98],[98,58,42],[98,58,99],[99]])) (z2g [[_],[_],[_],[_],[_],[_],[_],[_],[_],[_]] z8w ⟨rfl,.inl ⟨_,rfl,rfl,rfl⟩,rfl,rfl,.inl ⟨_,rfl,rfl,rfl⟩,rfl,rfl,.inl ⟨_,rfl,rfl,rfl⟩,rfl,rfl,.inl ⟨_,rfl,rfl,rfl⟩,rfl,rfl,.inl ⟨_,rfl,rfl,rfl⟩,rfl,rfl,.inl ⟨_,rfl,rfl,rfl⟩,rfl,rfl,.inl ⟨_,rfl,rfl,rfl⟩,rfl,rfl,.inl ⟨_,rfl,rfl,rfl⟩,rfl,rfl,.inl ⟨_,rfl,rfl,rfl⟩,rfl,rfl,.inl ⟨_,rfl,rfl,rfl⟩,rfl,trivial⟩ rfl rfl) rfl) ?_
  obtain ⟨r10,h11,H⟩:=bnd H
  refine z0k (z1e (z07 r2.2 ([[42],[97],[97,58,42],[97,58,98],[97,58,98,58,42],[97,58,98,58,99],[98],[98,58,42],[98,58,99],[99]]) r10 h11) rfl ⟨.inl rfl,trivial⟩ rfl) rfl ?_
  refine qe rfl ?_
  refine z0m ?_
  cases H
  exact ⟨trivial,⟨.inl rfl,trivial⟩,rfl⟩
theorem y3l (s1:z0d) (r:((List Bs)×z0d)) (H:z15 s1=some r):FnG Tryz.prog 44 [.ptr 0 0] [(0,.box (some 0) 25 (List.map .dat (z0q s1)))] (.row 1 r.1.length) [(0,.box (some 0) 25 (List.map .dat (z0q r.2))),(1,.row 9 1 (List.map z0n r.1))]:=by
 refine x6k (by kernel_rfl) Tryz.func44 rfl rfl rfl rfl fun X A hN => ?_
 unfold z15 at H
 refine z0c ?_
 refine z0b hN rfl ?_
 refine qe rfl ?_
 refine z0c ?_
 refine z0b hN rfl ?_
 refine qe rfl ?_
 refine z0c ?_
 refine z0c ?_
 refine z0b hN rfl ?_
 refine z0a (z0h (.ptr _ _) rfl) ?_
 obtain ⟨r2,h3,H⟩:=bnd H
 refine z0k (z1e (z82 s1 0 4 r2 h3) rfl ⟨.inl rfl,.inl rfl,trivial⟩ rfl) rfl ?_
 refine qd rfl ?_
 refine z0u ?_
 refine y2l 3 1 9 1 rfl rfl rfl ?_
 obtain ⟨h9,H⟩:=gif H
 refine y54 (fun (k7:Nat) (s:(List Int)×Int×(List Bs))=>[(0,.ptr 0 0),(3,.row 1 s.2.2.length),(5,.dat (vint r2.1)),(6,.dat (vint (k7:Int)))]) (fun (k7:Nat) (s:(List Int)×Int×(List Bs))=>[(0,.box (some (A.bl 0)) 25 [.dat (vlst (List.map y22 s.1)),.dat (vint s.2.1)]),(1,.row 9 1 (List.map z0n s.2.2))]) (r2.2.L,r2.2.at_,[]) H ⟨rfl,rfl,rfl,rfl,trivial⟩ ⟨rfl,rfl,trivial⟩ (fun _ _=>rfl) ?_ ?_
 ·rintro ⟨c4,c5,l6⟩ H
  replace H:z4l c4 c5 l6=some r:=H
  unfold z4l at H
  refine z0c ?_
  refine z0b hN rfl ?_
  refine z0a (z04 rfl rfl) ?_
  refine z0c ?_
  refine z0j _ rfl (fun h=>(x86 h).elim) (fun h => ?_)
  refine z14 ?_
  refine z0c ?_
  refine z0b hN rfl ?_
  refine z0a (z0h (.row _ _) rfl) ?_
  refine z0a (z2b (.row _ _) rfl) ?_
  refine z0m ?_
  cases H
  exact ⟨trivial,[(2,.row 1 _)],⟨rfl,trivial⟩,⟨rfl,rfl,trivial⟩,rfl,.inr (.inl ⟨2,rfl,rfl⟩)⟩
 ·rintro k7 ⟨c4,c5,l6⟩ q8 h10 H hq8
  replace H:z26 k7 c4 c5 l6=some q8:=H
  unfold z26 at H
  refine z0c ?_
  refine z0b hN rfl ?_
  refine z0a (z04 rfl rfl) ?_
  refine z0c ?_
  refine z0j _ rfl (fun h => ?_) (fun h=>(x87 h10 h).elim)
  refine z0l ?_
  refine z0c ?_
  refine z0u ?_
  refine z0b hN rfl ?_
  refine z0a (z0h (.row _ _) rfl) ?_
  refine z0a (z0h (.ptr _ _) rfl) ?_
  refine z0a (z09 (u':=vlst (List.map z0n [[97],[97,58,42],[97,58,98],[97,58,98,58,42],[97,58,98,58,99],[98],[98,58,42],[98,58,99],[42]])) (z2g [[_],[_],[_],[_],[_],[_],[_],[_],[_]] z8w ⟨rfl,.inl ⟨_,rfl,rfl,rfl⟩,rfl,rfl,.inl ⟨_,rfl,rfl,rfl⟩,rfl,rfl,.inl ⟨_,rfl,rfl,rfl⟩,rfl,rfl,.inl ⟨_,rfl,rfl,rfl⟩,rfl,rfl,.inl ⟨_,rfl,rfl,rfl⟩,rfl,rfl,.inl ⟨_,rfl,rfl,rfl⟩,rfl,rfl,.inl ⟨_,rfl,rfl,rfl⟩,rfl,rfl,.inl ⟨_,rfl,rfl,rfl⟩,rfl,rfl,.inl ⟨_,rfl,rfl,rfl⟩,rfl,trivial⟩ rfl rfl) rfl) ?_
  obtain ⟨r11,h12,H⟩:=bnd H
  refine z0k (z1e (z07 (z0d.mk c4 c5) ([[97],[97,58,42],[97,58,98],[97,58,98,58,42],[97,58,98,58,99],[98],[98,58,42],[98,58,99],[42]]) r11 h12) rfl ⟨.inl rfl,trivial⟩ rfl) rfl ?_
  refine z0a (z09 (u':=vlst (List.map z0n [r11.1])) (z2g [[_]] z8w ⟨rfl,.inl ⟨_,rfl,rfl,rfl⟩,rfl,trivial⟩ rfl rfl) rfl) ?_
  obtain ⟨h13,H⟩:=gif H
  refine z0k (y8m z8w (fun _=>rfl) rfl rfl rfl ⟨by simp,by first | (simp; done) | simpa using h13⟩ rfl) rfl ?_
  refine z0a (z2b (.row _ _) rfl) ?_
  refine z0b hN rfl ?_
  refine z0a (z5w rfl rfl (by omega)) ?_
  refine qd rfl ?_
  exact ⟨_,z9s H,⟨rfl,rfl,rfl,rfl,trivial⟩,⟨rfl,rfl,trivial⟩⟩
theorem y5h (s1:z0d) (r:((List Bs)×z0d)) (H:z61 s1=some r):Imp Tryz.prog 23 25 (z0q s1) [] (z1s [vlst (List.map z0n r.1)]) (z0q r.2):=by
 refine y2b (us:=[vlst (List.map z0n r.1)]) (cs':=(z0q r.2)) (by kernel_rfl) Tryz.func23 rfl rfl rfl rfl fun X bl hN => ?_
 unfold z61 at H
 refine z0c ?_
 refine z0b hN rfl ?_
 refine qe rfl ?_
 refine z0c ?_
 refine z0b hN rfl ?_
 refine z0a (z0h (.ptr _ _) rfl) ?_
 obtain ⟨r2,h3,H⟩:=bnd H
 refine y2p (rn [(0,0),(1,1)]) [(0,_,_,some _)] [(1,_)] (y3l s1 r2 h3) ⟨rfl,rfl,trivial⟩ ⟨.inl (.inl rfl),trivial⟩ ⟨⟨⟨rfl,rfl⟩,trivial⟩,trivial⟩ rfl ?_
 refine z0a (z2b (.row _ _) rfl) ?_
 refine z0z (ι:=(List Bs)×(List Int)×Int) (fun i=>[(0,.ptr 0 0),(3,.row 1 i.1.length)]) (fun i=>[(0,.box (some bl) 25 [.dat (vlst (List.map y22 i.2.1)),.dat (vint i.2.2)]),(1,.row 9 1 (List.map z0n i.1))]) (fun i=>z3o i.1 i.2.1 i.2.2=some r) (fun i=>rfl) ?_ ?_
 ·skip
  refine z0c ?_
  refine z0b hN rfl ?_
  refine z0a (z0h (.ptr _ _) rfl) ?_
  obtain ⟨r4,h5,H⟩:=bnd H
  refine z0k (z1e (z17 r2.2 6 r4 h5) rfl ⟨.inl rfl,trivial⟩ rfl) rfl ?_
  refine z0j _ rfl (fun h6 => ?_) (fun h6 => ?_)
  ·replace H:=ift h6 H
   refine z0b hN rfl ?_
   refine z0a (z0h (.row _ _) rfl) ?_
   refine z0a (z0h (.ptr _ _) rfl) ?_
   obtain ⟨r7,h8,H⟩:=bnd H
   refine z0k (z1e (y50 r4.2 r7 h8) rfl trivial rfl) rfl ?_
   refine z0a (z09 (u':=vlst (List.map z0n [r7.1])) (z2g [[_]] z8w ⟨rfl,.inl ⟨_,rfl,rfl,rfl⟩,rfl,trivial⟩ rfl rfl) rfl) ?_
   obtain ⟨h9,H⟩:=gif H
   refine z0k (y8m z8w (fun _=>rfl) rfl rfl rfl ⟨by simp,by first | (simp; done) | simpa using h9⟩ rfl) rfl ?_
   refine z0a (z2b (.row _ _) rfl) ?_
   exact ⟨((r2.1++[r7.1]),r7.2.L,r7.2.at_),H,⟨rfl,rfl,trivial⟩,⟨rfl,rfl,trivial⟩⟩
  ·replace H:=iff_ h6 H
   refine z0l ?_
   exact ⟨(r2.1,r4.2.L,r4.2.at_),H,⟨rfl,rfl,trivial⟩,⟨rfl,rfl,trivial⟩⟩
 ·rintro ⟨out10,c11,c12⟩ H
  replace H:z3o out10 c11 c12=some r:=H
  unfold z3o at H
  refine w0h (ι:=(List Bs)×(List Int)×Int) (fun i=>[(3,.dat (vlst (List.map z0n i.1)))]) (fun i=>[(0,.box (some bl) 25 [.dat (vlst (List.map y22 i.2.1)),.dat (vint i.2.2)])]) (fun i=>z5d i.1 i.2.1 i.2.2=some r) (fun i=>rfl) (fun i=>rfl) ?_ ?_
  ·skip
   refine z0c ?_
   refine z0b hN rfl ?_
   refine z0a (z0h (.ptr _ _) rfl) ?_
   obtain ⟨r13,h14,H⟩:=bnd H
   refine z0k (z1e (z17 (z0d.mk c11 c12) 60 r13 h14) rfl ⟨.inl rfl,trivial⟩ rfl) rfl ?_
   refine z0j _ rfl (fun h15 => ?_) (fun h15 => ?_)
   ·replace H:=ift h15 H
    refine z0b hN rfl ?_
    obtain ⟨h16,H⟩:=gif H
    refine z0k (w5h (C:=z0n) 2 [] z8w tyZ9 rfl rfl rfl rfl h16 rfl) rfl ?_
    refine z0a (z2b (.row _ _) rfl) ?_
    exact ⟨[(3,2)],_,_,_,_,rfl,rfl,by simp,⟨((List.replicate 51 []),r13.2.L,r13.2.at_),H,⟨.inl rfl,trivial⟩,⟨rfl,trivial⟩⟩⟩
   ·replace H:=iff_ h15 H
    refine z0l ?_
    exact ⟨[(3,1)],_,_,_,_,rfl,rfl,by simp,⟨(out10,r13.2.L,r13.2.at_),H,⟨.inl rfl,trivial⟩,⟨rfl,trivial⟩⟩⟩
  ·rintro ⟨out17,c18,c19⟩ H
   replace H:z5d out17 c18 c19=some r:=H
   unfold z5d at H
   refine z0c ?_
   refine z0b hN rfl ?_
   refine qd rfl ?_
   refine qe rfl ?_
   refine z0m ?_
   cases H
   exact ⟨trivial,⟨.inl rfl,trivial⟩,rfl⟩
theorem y5i (s1:z0d) (r:(z0e×z0d)) (H:z62 s1=some r):Imp Tryz.prog 5 25 (z0q s1) [] (z1s [vagg (z0t r.1)]) (z0q r.2):=by
 refine y2b (us:=[vagg (z0t r.1)]) (cs':=(z0q r.2)) (by kernel_rfl) Tryz.func5 rfl rfl rfl rfl fun X bl hN => ?_
 unfold z62 at H
 refine z0c ?_
 refine z0b hN rfl ?_
 refine z0k (z3c 1 y06 rfl) rfl ?_
 refine z0c ?_
 refine z0b hN rfl ?_
 refine z0a (z0h (.ptr _ _) rfl) ?_
 obtain ⟨r2,h3,H⟩:=bnd H
 refine z0k (z1e (z8t s1 r2 h3) rfl trivial rfl) rfl ?_
 refine z0k (z3c 2 y06 rfl) rfl ?_
 refine z0k (z1f z4c rfl rfl rfl rfl) rfl ?_
 refine z0z (ι:=(List Int)×Int×Bs×Bs×Bs×Bs×(List Bs)×(List Bs)×Int×Int) (fun i=>[(2,.ptr 1 0),(3,.ptr 2 0)]) (fun i=>[(0,.box (some bl) 25 [.dat (vlst (List.map y22 i.1)),.dat (vint i.2.1)]),(1,.box none 30 [.dat (vstr []),.dat (vstr []),.dat (vstr []),.dat (vstr []),.dat (vnil),.dat (vnil),.dat (vint 0),.dat (vint 0)]),(2,.box none 30 [.dat (vstr i.2.2.1),.dat (vstr i.2.2.2.1),.dat (vstr i.2.2.2.2.1),.dat (vstr i.2.2.2.2.2.1),.dat (vlst (List.map z0n i.2.2.2.2.2.2.1)),.dat (vlst (List.map z0n i.2.2.2.2.2.2.2.1)),.dat (vint i.2.2.2.2.2.2.2.2.1),.dat (vint i.2.2.2.2.2.2.2.2.2)])]) (fun i=>z13 i.1 i.2.1 i.2.2.1 i.2.2.2.1 i.2.2.2.2.1 i.2.2.2.2.2.1 i.2.2.2.2.2.2.1 i.2.2.2.2.2.2.2.1 i.2.2.2.2.2.2.2.2.1 i.2.2.2.2.2.2.2.2.2=some r) (fun i=>rfl) ?_ ?_
 ·skip
  refine z0c ?_
  refine z0b hN rfl ?_
  refine z0a (z0h (.ptr _ _) rfl) ?_
  obtain ⟨r4,h5,H⟩:=bnd H
  refine z0k (z1e (z17 r2.2 8 r4 h5) rfl ⟨.inl rfl,trivial⟩ rfl) rfl ?_
  refine z0j _ rfl (fun h6 => ?_) (fun h6 => ?_)
  ·replace H:=ift h6 H
   refine z0c ?_
   refine z0b hN rfl ?_
   refine z0a (z0h (.ptr _ _) rfl) ?_
   obtain ⟨r7,h8,H⟩:=bnd H
   refine z0k (z1e (z10 r4.2 5 r7 h8) rfl ⟨.inl rfl,trivial⟩ rfl) rfl ?_
   refine z0u ?_
   refine z0c ?_
   refine z0b hN rfl ?_
   refine z0a (z2a rfl rfl) ?_
   refine qe rfl ?_
   refine z0j _ rfl (fun h9 => ?_) (fun h9 => ?_)
   ·replace H:=ift h9 H
    refine z0b hN rfl ?_
    refine z0a (z0h (.ptr _ _) rfl) ?_
    refine z0a (z09 (u':=vlst (List.map z0n [[],[65],[116,49]])) (z2g [[_],[_],[_]] z8w ⟨rfl,.inl ⟨_,rfl,rfl,rfl⟩,rfl,rfl,.inl ⟨_,rfl,rfl,rfl⟩,rfl,rfl,.inl ⟨_,rfl,rfl,rfl⟩,rfl,trivial⟩ rfl rfl) rfl) ?_
    obtain ⟨r10,h11,H⟩:=bnd H
    refine z0k (z1e (z07 r7.2 ([[],[65],[116,49]]) r10 h11) rfl ⟨.inl rfl,trivial⟩ rfl) rfl ?_
    refine z0a (z0h (.ptr _ _) rfl) ?_
    refine z0a (z09 (u':=vlst (List.map z0n [[97,110,110],[]])) (z2g [[_],[_]] z8w ⟨rfl,.inl ⟨_,rfl,rfl,rfl⟩,rfl,rfl,.inl ⟨_,rfl,rfl,rfl⟩,rfl,trivial⟩ rfl rfl) rfl) ?_
    obtain ⟨r12,h13,H⟩:=bnd H
    refine z0k (z1e (z07 r10.2 ([[97,110,110],[]]) r12 h13) rfl ⟨.inl rfl,trivial⟩ rfl) rfl ?_
    refine z0a (z0r y5o rfl) ?_
    refine z0k (z1m tyS9 rfl rfl rfl rfl) rfl ?_
    refine z0a (z0r y5n rfl) ?_
    refine z0k (z1m tyS9 rfl rfl rfl rfl) rfl ?_
    exact ⟨(r12.2.L,r12.2.at_,r10.1,r12.1,r2.1.Issuer,r2.1.Parent,r2.1.Audience,r2.1.Scopes,r2.1.From,r2.1.To),H,⟨rfl,rfl,trivial⟩,⟨rfl,rfl,rfl,trivial⟩⟩
   ·replace H:=iff_ h9 H
    refine z0c ?_
    refine z0b hN rfl ?_
    refine z0a (z2a rfl rfl) ?_
    refine qe rfl ?_
    refine z0j _ rfl (fun h14 => ?_) (fun h14 => ?_)
    ·replace H:=ift h14 H
     refine z0b hN rfl ?_
     refine z0a (z0h (.ptr _ _) rfl) ?_
     refine z0a (z09 (u':=vlst (List.map z0n [[],[103,97,116,101]])) (z2g [[_],[_]] z8w ⟨rfl,.inl ⟨_,rfl,rfl,rfl⟩,rfl,rfl,.inl ⟨_,rfl,rfl,rfl⟩,rfl,trivial⟩ rfl rfl) rfl) ?_
     obtain ⟨r15,h16,H⟩:=bnd H
     refine z0k (z1e (z07 r7.2 ([[],[103,97,116,101]]) r15 h16) rfl ⟨.inl rfl,trivial⟩ rfl) rfl ?_
     refine z0a (z0h (.ptr _ _) rfl) ?_
     refine z0a (z09 (u':=vlst (List.map z0n [[65],[116,48]])) (z2g [[_],[_]] z8w ⟨rfl,.inl ⟨_,rfl,rfl,rfl⟩,rfl,rfl,.inl ⟨_,rfl,rfl,rfl⟩,rfl,trivial⟩ rfl rfl) rfl) ?_
     obtain ⟨r17,h18,H⟩:=bnd H
     refine z0k (z1e (z07 r15.2 ([[65],[116,48]]) r17 h18) rfl ⟨.inl rfl,trivial⟩ rfl) rfl ?_
     refine z0a (z0r y5m rfl) ?_
     refine z0k (z1m tyS9 rfl rfl rfl rfl) rfl ?_
     refine z0a (z0r y25 rfl) ?_
     refine z0k (z1m tyS9 rfl rfl rfl rfl) rfl ?_
     exact ⟨(r17.2.L,r17.2.at_,r2.1.Id,r2.1.Subject,r15.1,r17.1,r2.1.Audience,r2.1.Scopes,r2.1.From,r2.1.To),H,⟨rfl,rfl,trivial⟩,⟨rfl,rfl,rfl,trivial⟩⟩
    ·replace H:=iff_ h14 H
     refine z0c ?_
     refine z0b hN rfl ?_
     refine z0a (z2a rfl rfl) ?_
     refine qe rfl ?_
     refine z0j _ rfl (fun h19 => ?_) (fun h19 => ?_)
     ·replace H:=ift h19 H
      refine z0b hN rfl ?_
      refine z0a (z09 (u':=vlst (List.map z0n [[115,104,111,112],[109,97,112,115]])) (z2g [[_],[_]] z8w ⟨rfl,.inl ⟨_,rfl,rfl,rfl⟩,rfl,rfl,.inl ⟨_,rfl,rfl,rfl⟩,rfl,trivial⟩ rfl rfl) rfl) ?_
      refine z0a (z09 (u':=vlst (List.map z0n [[]])) (z2g [[_]] z8w ⟨rfl,.inl ⟨_,rfl,rfl,rfl⟩,rfl,trivial⟩ rfl rfl) rfl) ?_
      refine z0a (z09 (u':=vlst (List.map z0n [[97],[97]])) (z2g [[_],[_]] z8w ⟨rfl,.inl ⟨_,rfl,rfl,rfl⟩,rfl,rfl,.inl ⟨_,rfl,rfl,rfl⟩,rfl,trivial⟩ rfl rfl) rfl) ?_
      refine z0a (z09 (u':=vlst (List.map x1e [[[115,104,111,112],[109,97,112,115]],[[]],[[97],[97]]])) (z2g [[_],[_],[_]] w46 ⟨rfl,.inl ⟨_,rfl,rfl,rfl⟩,rfl,rfl,.inl ⟨_,rfl,rfl,rfl⟩,rfl,rfl,.inl ⟨_,rfl,rfl,rfl⟩,rfl,trivial⟩ rfl rfl) rfl) ?_
      refine z0a (z0h (.ptr _ _) rfl) ?_
      obtain ⟨r20,h21,H⟩:=bnd H
      refine z0k (z1e (z10 r7.2 3 r20 h21) rfl ⟨.inl rfl,trivial⟩ rfl) rfl ?_
      obtain ⟨x22,h23,H⟩:=bnd H
      refine z0a (y23 w5a (fun _=>rfl) rfl rfl h23) ?_
      refine z0a (z0w z7t rfl (z3m (z7s h23).2) rfl) ?_
      refine z0a (z0r y2n rfl) ?_
      refine z0k (z1m z7t rfl rfl rfl rfl) rfl ?_
      exact ⟨(r20.2.L,r20.2.at_,r2.1.Id,r2.1.Subject,r2.1.Issuer,r2.1.Parent,x22,r2.1.Scopes,r2.1.From,r2.1.To),H,⟨rfl,rfl,trivial⟩,⟨rfl,rfl,rfl,trivial⟩⟩
     ·replace H:=iff_ h19 H
      refine z0c ?_
      refine z0b hN rfl ?_
      refine z0a (z2a rfl rfl) ?_
      refine qe rfl ?_
      refine z0j _ rfl (fun h24 => ?_) (fun h24 => ?_)
      ·replace H:=ift h24 H
       refine z0b hN rfl ?_
       refine z0a (z0h (.ptr _ _) rfl) ?_
       obtain ⟨r25,h26,H⟩:=bnd H
       refine z0k (z1e (y5h r7.2 r25 h26) rfl trivial rfl) rfl ?_
       refine z0a (z0r y2g rfl) ?_
       refine z0k (z1m z7t rfl rfl rfl rfl) rfl ?_
       exact ⟨(r25.2.L,r25.2.at_,r2.1.Id,r2.1.Subject,r2.1.Issuer,r2.1.Parent,r2.1.Audience,r25.1,r2.1.From,r2.1.To),H,⟨rfl,rfl,trivial⟩,⟨rfl,rfl,rfl,trivial⟩⟩
      ·replace H:=iff_ h24 H
       refine z0b hN rfl ?_
       refine z0a (z0h (.ptr _ _) rfl) ?_
       obtain ⟨r27,h28,H⟩:=bnd H
       refine z0k (z1e (z96 r7.2 0 300 r27 h28) rfl ⟨.inl rfl,.inl rfl,trivial⟩ rfl) rfl ?_
       refine z0a (z0h (.ptr _ _) rfl) ?_
       obtain ⟨r29,h30,H⟩:=bnd H
       refine z0k (z1e (z96 r27.2 0 300 r29 h30) rfl ⟨.inl rfl,.inl rfl,trivial⟩ rfl) rfl ?_
       refine z0a (z0r y3p rfl) ?_
       refine z0k (z1m tyS3 rfl rfl rfl rfl) rfl ?_
       refine z0a (z0r y2m rfl) ?_
       refine z0k (z1m tyS3 rfl rfl rfl rfl) rfl ?_
       exact ⟨(r29.2.L,r29.2.at_,r2.1.Id,r2.1.Subject,r2.1.Issuer,r2.1.Parent,r2.1.Audience,r2.1.Scopes,r27.1,r29.1),H,⟨rfl,rfl,trivial⟩,⟨rfl,rfl,rfl,trivial⟩⟩
  ·replace H:=iff_ h6 H
   refine z0l ?_
   exact ⟨(r4.2.L,r4.2.at_,r2.1.Id,r2.1.Subject,r2.1.Issuer,r2.1.Parent,r2.1.Audience,r2.1.Scopes,r2.1.From,r2.1.To),H,⟨rfl,rfl,trivial⟩,⟨rfl,rfl,rfl,trivial⟩⟩
 ·rintro ⟨c31,c32,c33,c34,c35,c36,c37,c38,c39,c40⟩ H
  replace H:z13 c31 c32 c33 c34 c35 c36 c37 c38 c39 c40=some r:=H
  unfold z13 at H
  refine z0c ?_
  refine z0b hN rfl ?_
  refine z0y (z5v z4c rfl rfl rfl) rfl ?_
  refine z0k (z1f z4c rfl rfl rfl rfl) rfl ?_
  refine z0m ?_
  cases H
  exact ⟨trivial,⟨.inl ⟨_,_,_,z0t (z0e.mk c33 c34 c35 c36 c37 c38 c39 c40),rfl,rfl,rfl,rfl,z4c⟩,trivial⟩,rfl⟩
theorem y2k (s1:z0d) (r:(Int×z0d)) (H:z5q s1=some r):Imp Tryz.prog 6 25 (z0q s1) [] (z1s [vint r.1]) (z0q r.2):=by
 refine y2b (us:=[vint r.1]) (cs':=(z0q r.2)) (by kernel_rfl) Tryz.func6 rfl rfl rfl rfl fun X bl hN => ?_
 unfold z5q at H
 refine z0c ?_
 refine z0b hN rfl ?_
 refine qe rfl ?_
 refine z0c ?_
 refine z0b hN rfl ?_
 refine z0a (z0h (.ptr _ _) rfl) ?_
 refine z0a (z09 (u':=vlst (List.map y22 [0,10,49,50,60,99,100,101,149,150,200,300,1000,(-1),345686400000])) (z2g [[_],[_],[_],[_],[_],[_],[_],[_],[_],[_],[_],[_],[_],[_],[_]] x1i ⟨rfl,.inl ⟨_,rfl,rfl,rfl⟩,rfl,rfl,.inl ⟨_,rfl,rfl,rfl⟩,rfl,rfl,.inl ⟨_,rfl,rfl,rfl⟩,rfl,rfl,.inl ⟨_,rfl,rfl,rfl⟩,rfl,rfl,.inl ⟨_,rfl,rfl,rfl⟩,rfl,rfl,.inl ⟨_,rfl,rfl,rfl⟩,rfl,rfl,.inl ⟨_,rfl,rfl,rfl⟩,rfl,rfl,.inl ⟨_,rfl,rfl,rfl⟩,rfl,rfl,.inl ⟨_,rfl,rfl,rfl⟩,rfl,rfl,.inl ⟨_,rfl,rfl,rfl⟩,rfl,rfl,.inl ⟨_,rfl,rfl,rfl⟩,rfl,rfl,.inl ⟨_,rfl,rfl,rfl⟩,rfl,rfl,.inl ⟨_,rfl,rfl,rfl⟩,rfl,rfl,.inl ⟨_,rfl,rfl,rfl⟩,rfl,rfl,.inl ⟨_,rfl,rfl,rfl⟩,rfl,trivial⟩ rfl rfl) rfl) ?_
 obtain ⟨r2,h3,H⟩:=bnd H
 refine z0k (z1e (z2t s1 [0,10,49,50,60,99,100,101,149,150,200,300,1000,(-1),345686400000] r2 h3) rfl ⟨.inl rfl,trivial⟩ rfl) rfl ?_
 refine qe rfl ?_
 refine z0m ?_
 cases H
 exact ⟨trivial,⟨.inl rfl,trivial⟩,rfl⟩
theorem y1r (s1:Bs) (r:(Bool)) (H:z7y s1=some r):Fn Tryz.prog 46 [vstr s1] (z1s [z01 r]):=by
 refine ⟨by kernel_rfl,z1g (us:=[z01 r]) Tryz.func46 rfl rfl rfl rfl fun X hN => ?_⟩
 unfold z7y at H
 refine z0c ?_
 refine z0b hN rfl ?_
 refine qe rfl ?_
 refine z0c ?_
 refine z0c ?_
 refine z0b hN rfl ?_
 refine qe rfl ?_
 refine z0u ?_
 obtain ⟨h4,H⟩:=gif H
 refine z6c (fun (i2:Nat) (s:Unit)=>[(0,.dat (vstr s1)),(3,.dat (vint (i2:Int)))]) (fun (i2:Nat) (s:Unit)=>[]) () H ⟨rfl,rfl,trivial⟩ trivial (fun _ _=>rfl) ?_ ?_
 ·rintro ⟨⟩ H
  replace H:y6d s1=some r:=H
  unfold y6d at H
  refine z0c ?_
  refine z0c ?_
  refine z0b hN rfl ?_
  refine qd rfl ?_
  refine qd rfl ?_
  refine z0a (z1j tyU9 rfl) ?_
  refine z0a (z04 rfl rfl) ?_
  refine z0j _ rfl (fun h=>(lt_t h).elim) (fun h => ?_)
  refine z14 ?_
  refine z0c ?_
  refine z0b hN rfl ?_
  refine qd rfl ?_
  refine z0a (z8k rfl rfl) ?_
  refine qd rfl ?_
  refine z5y rfl rfl (fun hc=>z0h (.dat _) rfl) ?_
  refine z5y rfl rfl (fun hc=>z1j tyU9 (cnd (c:=(decide (s1≠[]))) hc)) ?_
  refine z5y rfl rfl (fun hc=>z9i (cnd (c:=(decide (s1≠[]))) hc) rfl) ?_
  refine z0a (z11 rfl (fun hb=>(cnd (c:=(decide (s1≠[]))) hb)) rfl) ?_
  refine qe rfl ?_
  refine z0m ?_
  cases H
  exact ⟨trivial,.inl rfl,trivial⟩
 ·rintro i2 x5 ⟨⟩ q3 h6 h7 H hq3
  replace H:y4v i2 x5=some q3:=H
  unfold y4v at H
  refine z0c ?_
  refine z0c ?_
  refine z0b hN rfl ?_
  refine qd rfl ?_
  refine qd rfl ?_
  refine z0a (z1j tyU9 rfl) ?_
  refine z0a (z04 rfl rfl) ?_
  refine z0j _ rfl (fun h => ?_) (fun h=>(lt_f h6 h).elim)
  refine z0l ?_
  refine z0c ?_
  refine z0u ?_
  refine z0c ?_
  refine z0b hN rfl ?_
  refine qd rfl ?_
  refine qd rfl ?_
  refine z0a (z9h tyU9 rfl rfl h7) ?_
  refine qe rfl ?_
  refine z0c ?_
  refine z0b hN rfl ?_
  refine qd rfl ?_
  refine z0a (z9w rfl rfl) ?_
  refine qd rfl ?_
  refine z5y rfl rfl (fun hc=>z0h (.dat _) rfl) ?_
  refine z5y rfl rfl (fun hc=>z9i (cnd (c:=(decide (97≤(x5.toNat:Int)))) hc) rfl) ?_
  refine z0a (z11 rfl (fun hb=>(cnd (c:=(decide (97≤(x5.toNat:Int)))) hb)) rfl) ?_
  refine qd rfl ?_
  refine z2r rfl rfl (fun hc=>z0h (.dat _) rfl) ?_
  refine z2r rfl rfl (fun hc=>z29 (cnd (c:=(!((decide (97≤(x5.toNat:Int))) && (decide ((x5.toNat:Int)≤122))))) hc) rfl) ?_
  refine z2r rfl rfl (fun hc=>z0h (.dat _) (cnd (c:=(!((decide (97≤(x5.toNat:Int))) && (decide ((x5.toNat:Int)≤122))))) hc)) ?_
  refine z86 rfl rfl (fun hc=>z0h (.dat _) rfl) ?_
  refine z86 rfl rfl (fun hc=>z9w (cnd (c:=((!((decide (97≤(x5.toNat:Int))) && (decide ((x5.toNat:Int)≤122)))) && (decide (0 < (i2:Int))))) hc) rfl) ?_
  refine z86 rfl rfl (fun hc=>z0h (.dat _) (cnd (c:=((!((decide (97≤(x5.toNat:Int))) && (decide ((x5.toNat:Int)≤122)))) && (decide (0 < (i2:Int))))) hc)) ?_
  refine z86 rfl rfl (fun hc=>z0h (.dat _) rfl) ?_
  refine z86 rfl rfl (fun hc=>z9i (cnd (c:=(((!((decide (97≤(x5.toNat:Int))) && (decide ((x5.toNat:Int)≤122)))) && (decide (0 < (i2:Int)))) && (decide (48≤(x5.toNat:Int))))) hc) rfl) ?_
  refine z86 rfl rfl (fun hc=>z11 (cnd (c:=((!((decide (97≤(x5.toNat:Int))) && (decide ((x5.toNat:Int)≤122)))) && (decide (0 < (i2:Int))))) hc) (fun hb=>(cnd (c:=(((!((decide (97≤(x5.toNat:Int))) && (decide ((x5.toNat:Int)≤122)))) && (decide (0 < (i2:Int)))) && (decide (48≤(x5.toNat:Int))))) (andI hc hb))) rfl) ?_
  refine z86 rfl rfl (fun hc=>z0h (.dat _) (cnd (c:=((!((decide (97≤(x5.toNat:Int))) && (decide ((x5.toNat:Int)≤122)))) && (decide (0 < (i2:Int))))) hc)) ?_
  refine y7l rfl rfl (fun hc=>z0h (.dat _) rfl) ?_
  refine y7l rfl rfl (fun hc=>z2a (cnd (c:=(((!((decide (97≤(x5.toNat:Int))) && (decide ((x5.toNat:Int)≤122)))) && (decide (0 < (i2:Int)))) && !((decide (48≤(x5.toNat:Int))) && (decide ((x5.toNat:Int)≤57))))) hc) rfl) ?_
  refine z86 rfl rfl (fun hc=>z3f (cnd (c:=((!((decide (97≤(x5.toNat:Int))) && (decide ((x5.toNat:Int)≤122)))) && (decide (0 < (i2:Int))))) hc) rfl (fun hb=>(cnd (c:=(((!((decide (97≤(x5.toNat:Int))) && (decide ((x5.toNat:Int)≤122)))) && (decide (0 < (i2:Int)))) && !((decide (48≤(x5.toNat:Int))) && (decide ((x5.toNat:Int)≤57))))) (andI hc (notI hb))))) ?_
  refine z86 rfl rfl (fun hc=>z0h (.dat _) (cnd (c:=((!((decide (97≤(x5.toNat:Int))) && (decide ((x5.toNat:Int)≤122)))) && (decide (0 < (i2:Int))))) hc)) ?_
  refine y7l rfl rfl (fun hc=>z0h (.dat _) rfl) ?_
  refine y7l rfl rfl (fun hc=>z2a (cnd (c:=(((!((decide (97≤(x5.toNat:Int))) && (decide ((x5.toNat:Int)≤122)))) && (decide (0 < (i2:Int)))) && !(((decide (48≤(x5.toNat:Int))) && (decide ((x5.toNat:Int)≤57))) || (decide ((x5.toNat:Int)=45))))) hc) rfl) ?_
  refine z86 rfl rfl (fun hc=>z3f (cnd (c:=((!((decide (97≤(x5.toNat:Int))) && (decide ((x5.toNat:Int)≤122)))) && (decide (0 < (i2:Int))))) hc) rfl (fun hb=>(cnd (c:=(((!((decide (97≤(x5.toNat:Int))) && (decide ((x5.toNat:Int)≤122)))) && (decide (0 < (i2:Int)))) && !(((decide (48≤(x5.toNat:Int))) && (decide ((x5.toNat:Int)≤57))) || (decide ((x5.toNat:Int)=45))))) (andI hc (notI hb))))) ?_
  refine z2r rfl rfl (fun hc=>z11 (cnd (c:=(!((decide (97≤(x5.toNat:Int))) && (decide ((x5.toNat:Int)≤122))))) hc) (fun hb=>(cnd (c:=((!((decide (97≤(x5.toNat:Int))) && (decide ((x5.toNat:Int)≤122)))) && (decide (0 < (i2:Int))))) (andI hc hb))) rfl) ?_
  refine z0a (z3f rfl rfl (fun hb=>(cnd (c:=(!((decide (97≤(x5.toNat:Int))) && (decide ((x5.toNat:Int)≤122))))) (notI hb)))) ?_
  refine z0a (z3t rfl) ?_
  refine z0j _ rfl (fun h8 => ?_) (fun h8 => ?_)
  ·replace H:=ift h8 H
   refine z0c ?_
   refine z0b hN rfl ?_
   refine qe rfl ?_
   refine z0m ?_
   replace H:=retl H hq3
   cases H
   exact ⟨trivial,.inl rfl,trivial⟩
  ·replace H:=iff_ h8 H
   refine z0l ?_
   refine z0b hN rfl ?_
   refine qd rfl ?_
   refine z0a (z5w rfl rfl (by omega)) ?_
   refine qe rfl ?_
   exact ⟨_,z9s H,⟨rfl,rfl,trivial⟩,trivial⟩
theorem z4s (s1:(List z0g)) (p1:z0g→Option (Bool)) (fv1:Nat) (us1:List V) (hp1:∀ a0 r,p1 a0=some r→Fn Tryz.prog fv1 ([vagg (z00 a0)]++us1) (z1s [z01 r])) (r:(Int)) (H:z1k s1 p1=some r):Fn Tryz.prog 47 [vlst (List.map z00 s1),vfn fv1 us1] (z1s [vint r]):=by
 refine ⟨by kernel_rfl,z1g (us:=[vint r]) Tryz.func47 rfl rfl rfl rfl fun X hN => ?_⟩
 unfold z1k at H
 refine z0c ?_
 refine z0b hN rfl ?_
 refine qe rfl ?_
 refine z0c ?_
 refine z0c ?_
 refine z0b hN rfl ?_
 refine qd rfl ?_
 refine z0a (z8d x2t rfl) ?_
 refine qd rfl ?_
 refine z0u ?_
 obtain ⟨h4,H⟩:=gif H
 refine z6c (fun (k2:Nat) (s:Unit)=>[(0,.dat (vlst (List.map z00 s1))),(1,.dat (vfn fv1 us1)),(7,.dat (vint (s1.length:Int))),(8,.dat (vint (k2:Int)))]) (fun (k2:Nat) (s:Unit)=>[]) () H ⟨rfl,rfl,rfl,rfl,trivial⟩ trivial (fun _ _=>rfl) ?_ ?_
 ·rintro ⟨⟩ H
  replace H:z4f=some r:=H
  unfold z4f at H
  refine z0c ?_
  refine z0b hN rfl ?_
  refine z0a (z04 rfl rfl) ?_
  refine z0c ?_
  refine z0j _ rfl (fun h=>(lt_t h).elim) (fun h => ?_)
  refine z14 ?_
  refine z0c ?_
  refine z0b hN rfl ?_
  refine qe rfl ?_
  refine z0m ?_
  cases H
  exact ⟨trivial,.inl rfl,trivial⟩
 ·rintro k2 x5 ⟨⟩ q3 h6 h7 H hq3
  replace H:z4e p1 k2 x5=some q3:=H
  unfold z4e at H
  refine z0c ?_
  refine z0b hN rfl ?_
  refine z0a (z04 rfl rfl) ?_
  refine z0c ?_
  refine z0j _ rfl (fun h => ?_) (fun h=>(lt_f h6 h).elim)
  refine z0l ?_
  refine z0c ?_
  refine z0u ?_
  refine z0c ?_
  refine z0b hN rfl ?_
  refine qd rfl ?_
  refine qe rfl ?_
  refine z0c ?_
  refine z0b hN rfl ?_
  refine qd rfl ?_
  refine qd rfl ?_
  refine qd rfl ?_
  refine z0a (y00 y61 (fun _=>rfl) rfl rfl h7) ?_
  refine z0a (y6k y4o rfl (z3m h7) rfl) ?_
  obtain ⟨r8,h9,H⟩:=bnd H
  refine z0a (y9n (hp1 x5 r8 h9) rfl ⟨.inl rfl,trivial⟩) ?_
  refine z0j _ rfl (fun h10 => ?_) (fun h10 => ?_)
  ·replace H:=ift h10 H
   refine z0c ?_
   refine z0b hN rfl ?_
   refine qd rfl ?_
   refine qe rfl ?_
   refine z0m ?_
   replace H:=retl H hq3
   cases H
   exact ⟨trivial,.inl rfl,trivial⟩
  ·replace H:=iff_ h10 H
   refine z0l ?_
   refine z0b hN rfl ?_
   refine z0a (z5w rfl rfl (by omega)) ?_
   refine qd rfl ?_
   exact ⟨_,z9s H,⟨rfl,rfl,rfl,rfl,trivial⟩,trivial⟩
theorem z6o (s1:(List z0g)) (p1:z0g→Option (Bool)) (fv1:Nat) (us1:List V) (hp1:∀ a0 r,p1 a0=some r→Fn Tryz.prog fv1 ([vagg (z00 a0)]++us1) (z1s [z01 r])) (r:(Bool)) (H:z1x s1 p1=some r):Fn Tryz.prog 31 [vlst (List.map z00 s1),vfn fv1 us1] (z1s [z01 r]):=by
 refine ⟨by kernel_rfl,z1g (us:=[z01 r]) Tryz.func31 rfl rfl rfl rfl fun X hN => ?_⟩
 unfold z1x at H
 refine z0c ?_
 refine z0b hN rfl ?_
 refine qe rfl ?_
 refine z0c ?_
 refine z0b hN rfl ?_
 refine qd rfl ?_
 refine qd rfl ?_
 obtain ⟨r2,h3,H⟩:=bnd H
 refine z0a (z0o (z4s s1 p1 fv1 us1 hp1 r2 h3) ⟨.inl rfl,.inl rfl,trivial⟩) ?_
 refine z0a (z9w rfl rfl) ?_
 refine qe rfl ?_
 refine z0m ?_
 cases H
 exact ⟨trivial,.inl rfl,trivial⟩
theorem y6e (o1:z0g) (c2:z0g) (r:(Bool)) (H:z8e o1 c2=some r):Fn Tryz.prog 96 [vagg (z00 o1),y1e [[vstr c2.Id,vstr c2.Secret,vint c2.From,vint c2.To,vint c2.Until]] 0 0] (z1s [z01 r]):=by
 refine ⟨by kernel_rfl,z1g (us:=[z01 r]) Tryz.func96 rfl rfl rfl rfl fun X hN => ?_⟩
 unfold z8e at H
 refine z0c ?_
 refine z0b hN rfl ?_
 refine z0k (y0e 1 rfl) rfl ?_
 refine qe rfl ?_
 refine z0c ?_
 refine z0b hN rfl ?_
 refine z0a (z0r y4c rfl) ?_
 refine z0y (z0s tyS9 rfl rfl) rfl ?_
 refine z0a (z66 y4c rfl) ?_
 refine z0a (z0w tyS9 rfl rfl rfl) ?_
 refine z0a (z65 rfl rfl) ?_
 refine qe rfl ?_
 refine z0m ?_
 cases H
 exact ⟨trivial,.inl rfl,trivial⟩
theorem y68 (s1:Bs) (r:(Int)) (H:z9m s1=some r):Fn Tryz.prog 97 [vstr s1] (z1s [vint r]):=by
 refine ⟨by kernel_rfl,z1g (us:=[vint r]) Tryz.func97 rfl rfl rfl rfl fun X hN => ?_⟩
 unfold z9m at H
 refine z0c ?_
 refine z0b hN rfl ?_
 refine qe rfl ?_
 refine z0c ?_
 refine z0c ?_
 refine z0b hN rfl ?_
 refine qd rfl ?_
 refine z0a (z1j tyU9 rfl) ?_
 refine qd rfl ?_
 refine z0u ?_
 obtain ⟨h4,H⟩:=gif H
 refine z6c (fun (k2:Nat) (s:Unit)=>[(0,.dat (vstr s1)),(5,.dat (vint (s1.length:Int))),(6,.dat (vint (k2:Int)))]) (fun (k2:Nat) (s:Unit)=>[]) () H ⟨rfl,rfl,rfl,trivial⟩ trivial (fun _ _=>rfl) ?_ ?_
 ·rintro ⟨⟩ H
  replace H:y0c s1=some r:=H
  unfold y0c at H
  refine z0c ?_
  refine z0b hN rfl ?_
  refine z0a (z04 rfl rfl) ?_
  refine z0c ?_
  refine z0j _ rfl (fun h=>(lt_t h).elim) (fun h => ?_)
  refine z14 ?_
  refine z0c ?_
  refine z0c ?_
  refine z0b hN rfl ?_
  refine qd rfl ?_
  refine z0a (z65 rfl rfl) ?_
  refine z0j _ rfl (fun h6 => ?_) (fun h6 => ?_)
  ·replace H:=ift h6 H
   refine z0c ?_
   refine z0b hN rfl ?_
   refine qe rfl ?_
   refine z0m ?_
   cases H
   exact ⟨trivial,.inl rfl,trivial⟩
  ·replace H:=iff_ h6 H
   refine z0l ?_
   refine z0c ?_
   refine z0c ?_
   refine z0b hN rfl ?_
   refine qd rfl ?_
   refine z0a (z1j tyU9 rfl) ?_
   refine z0a (z29 rfl rfl) ?_
   refine z0j _ rfl (fun h7 => ?_) (fun h7 => ?_)
   ·replace H:=ift h7 H
    refine z0c ?_
    refine z0b hN rfl ?_
    refine qe rfl ?_
    refine z0m ?_
    cases H
    exact ⟨trivial,.inl rfl,trivial⟩
   ·replace H:=iff_ h7 H
    refine z0l ?_
    refine z0c ?_
    refine z0b hN rfl ?_
    refine qe rfl ?_
    refine z0m ?_
    cases H
    exact ⟨trivial,.inl rfl,trivial⟩
 ·rintro k2 x5 ⟨⟩ q3 h8 h9 H hq3
  replace H:y0b k2 x5=some q3:=H
  unfold y0b at H
  refine z0c ?_
  refine z0b hN rfl ?_
  refine z0a (z04 rfl rfl) ?_
  refine z0c ?_
  refine z0j _ rfl (fun h => ?_) (fun h=>(lt_f h8 h).elim)
  refine z0l ?_
  refine z0c ?_
  refine z0u ?_
  refine z0c ?_
  refine z0b hN rfl ?_
  refine qd rfl ?_
  refine qe rfl ?_
  refine z0z (ι:=Bool) (fun i=>[(0,.dat (vstr s1)),(5,.dat (vint (s1.length:Int))),(6,.dat (vint (k2:Int))),(18,.dat (z01 i))]) (fun i=>[]) (fun i=>z7i i=some q3) (fun i=>rfl) ?_ ?_
  ·skip
   refine z0b hN rfl ?_
   refine qd rfl ?_
   refine qd rfl ?_
   refine z0a (z9h tyU9 rfl rfl h9) ?_
   refine z0a (z04 rfl rfl) ?_
   refine qd rfl ?_
   refine z08 (j:=4) rfl rfl (fun h10 => ?_) (fun h10 => ?_) rfl
   ·have h11:=un3 h10
    replace H:=iff_ h11 H
    refine z0p rfl rfl h10 (z0h (.dat _) rfl) ?_
    refine z0p rfl rfl h10 (z0h (.dat _) rfl) ?_
    refine z0p rfl rfl h10 (z9h tyU9 rfl rfl h9) ?_
    refine z0p rfl rfl h10 (z29 rfl rfl) ?_
    refine z0a (z0x rfl (bFF h11) rfl) ?_
    exact ⟨decide (126 < (x5.toNat:Int)),H,⟨rfl,rfl,rfl,rfl,trivial⟩,trivial⟩
   ·have h12:=un4 h10
    replace H:=ift h12 H
    refine z0f rfl rfl h10 ?_
    refine z0f rfl rfl h10 ?_
    refine z0f rfl rfl h10 ?_
    refine z0f rfl rfl h10 ?_
    refine z0a (z0v rfl (bTT h12) rfl) ?_
    exact ⟨true,H,⟨rfl,rfl,rfl,rfl,trivial⟩,trivial⟩
  ·rintro v13 H
   replace H:z7i v13=some q3:=H
   unfold z7i at H
   refine z0j _ rfl (fun h14 => ?_) (fun h14 => ?_)
   ·replace H:=ift h14 H
    refine z0c ?_
    refine z0b hN rfl ?_
    refine qe rfl ?_
    refine z0m ?_
    replace H:=retl H hq3
    cases H
    exact ⟨trivial,.inl rfl,trivial⟩
   ·replace H:=iff_ h14 H
    refine z0l ?_
    refine z0b hN rfl ?_
    refine z0a (z5w rfl rfl (by omega)) ?_
    refine qd rfl ?_
    exact ⟨_,z9s H,⟨rfl,rfl,rfl,trivial⟩,trivial⟩
theorem x16 (n1:Int) (low2:Int) (high3:Int) (r:(Bool)) (H:y31 n1 low2 high3=some r):Fn Tryz.prog 98 [vint n1,vint low2,vint high3] (z1s [z01 r]):=by
 refine ⟨by kernel_rfl,z1g (us:=[z01 r]) Tryz.func98 rfl rfl rfl rfl fun X hN => ?_⟩
 unfold y31 at H
 refine z0c ?_
 refine z0b hN rfl ?_
 refine qe rfl ?_
 refine z0c ?_
 refine z0b hN rfl ?_
 refine qd rfl ?_
 refine qd rfl ?_
 refine z0a (z04 rfl rfl) ?_
 refine qd rfl ?_
 refine z2r rfl rfl (fun hc=>z0h (.dat _) rfl) ?_
 refine z2r rfl rfl (fun hc=>z0h (.dat _) rfl) ?_
 refine z2r rfl rfl (fun hc=>z29 (cnd (c:=(!(decide (n1 < low2)))) hc) (cnd (c:=(!(decide (n1 < low2)))) hc)) ?_
 refine z0a (z3f rfl rfl (fun hb=>(cnd (c:=(!(decide (n1 < low2)))) (notI hb)))) ?_
 refine qe rfl ?_
 refine z0m ?_
 cases H
 exact ⟨trivial,.inl rfl,trivial⟩
theorem y67 (l1:(List z0g)) (i2:Int) (r:(Int)) (H:z9l l1 i2=some r):Fn Tryz.prog 59 [vlst (List.map z00 l1),vint i2] (z1s [vint r]):=by
 refine ⟨by kernel_rfl,z1g (us:=[vint r]) Tryz.func59 rfl rfl rfl rfl fun X hN => ?_⟩
 unfold z9l at H
 refine z0c ?_
 refine z0b hN rfl ?_
 refine qe rfl ?_
 refine z0c ?_
 refine z0b hN rfl ?_
 refine qd rfl ?_
 refine qd rfl ?_
 obtain ⟨x3,h4,H⟩:=bnd H
 refine z0a (y23 y61 (fun _=>rfl) rfl rfl h4) ?_
 refine z0a (y6k y4o rfl (z3m (z7s h4).2) rfl) ?_
 refine z0k (z3c 1 y8k rfl) rfl ?_
 refine z0k (z1f y4o rfl rfl rfl rfl) rfl ?_
 refine z0c ?_
 refine z0c ?_
 refine z0b hN rfl ?_
 refine z0a (z0r y4c rfl) ?_
 refine z0y (z0s tyS9 rfl rfl) rfl ?_
 obtain ⟨r5,h6,H⟩:=bnd H
 refine z0a (z0o (y1r x3.Id r5 h6) ⟨.inl rfl,trivial⟩) ?_
 refine z0a (z3t rfl) ?_
 refine z0j _ rfl (fun h7 => ?_) (fun h7 => ?_)
 ·replace H:=ift h7 H
  refine z0c ?_
  refine z0b hN rfl ?_
  refine qe rfl ?_
  refine z0m ?_
  cases H
  exact ⟨trivial,.inl rfl,trivial⟩
 ·replace H:=iff_ h7 H
  refine z0l ?_
  refine z0c ?_
  refine z0c ?_
  refine y37 1 [vstr x3.Id,vstr x3.Secret,vint x3.From,vint x3.To,vint x3.Until] rfl rfl ?_
  refine z0b hN rfl ?_
  refine qd rfl ?_
  refine qd rfl ?_
  obtain ⟨l8,h9,H⟩:=bnd H
  refine z0a (y9g y61 (fun _=>rfl) rfl rfl rfl h9) ?_
  refine z0a (y4u (us:=[_]) ⟨rfl,trivial⟩) ?_
  obtain ⟨r10,h11,H⟩:=bnd H
  refine z0a (z0o (z6o l8 (fun (a0:z0g)=>z8e a0 x3) 96 [y1e [[vstr x3.Id,vstr x3.Secret,vint x3.From,vint x3.To,vint x3.Until]] 0 0] (fun a0 r h=>y6e a0 x3 r h) r10 h11) ⟨.inl rfl,.inl rfl,trivial⟩) ?_
  refine z0j _ rfl (fun h12 => ?_) (fun h12 => ?_)
  ·replace H:=ift h12 H
   refine z0c ?_
   refine z0b hN rfl ?_
   refine qe rfl ?_
   refine z0m ?_
   cases H
   exact ⟨trivial,.inl rfl,trivial⟩
  ·replace H:=iff_ h12 H
   refine z0l ?_
   refine z0c ?_
   refine z0c ?_
   refine z0b hN rfl ?_
   refine z0a (z66 y60 rfl) ?_
   refine z0a (z0w tyS9 rfl rfl rfl) ?_
   obtain ⟨r13,h14,H⟩:=bnd H
   refine z0a (z0o (y68 x3.Secret r13 h14) ⟨.inl rfl,trivial⟩) ?_
   refine qe rfl ?_
   refine z0c ?_
   refine z0b hN rfl ?_
   refine qd rfl ?_
   refine z0a (z68 rfl rfl) ?_
   refine z0j _ rfl (fun h15 => ?_) (fun h15 => ?_)
   ·replace H:=ift h15 H
    refine z0c ?_
    refine z0b hN rfl ?_
    refine qd rfl ?_
    refine qe rfl ?_
    refine z0m ?_
    cases H
    exact ⟨trivial,.inl rfl,trivial⟩
   ·replace H:=iff_ h15 H
    refine z0l ?_
    refine z0c ?_
    refine z0c ?_
    refine z0b hN rfl ?_
    refine z0a (z66 y4b rfl) ?_
    refine z0a (z0w tyS3 rfl rfl rfl) ?_
    refine z0a (z66 y5l rfl) ?_
    refine z0a (z0w tyS3 rfl rfl rfl) ?_
    obtain ⟨r16,h17,H⟩:=bnd H
    refine z0a (z0o (x16 x3.From 0 x3.To r16 h17) ⟨.inl rfl,.inl rfl,.inl rfl,trivial⟩) ?_
    refine qd rfl ?_
    refine z2r rfl rfl (fun hc=>z66 y5l rfl) ?_
    refine z2r rfl rfl (fun hc=>z0w tyS3 (cnd (c:=(!r16)) hc) rfl rfl) ?_
    refine z2r rfl rfl (fun hc=>z66 y5k rfl) ?_
    refine z2r rfl rfl (fun hc=>z0w tyS3 (cnd (c:=(!r16)) hc) rfl rfl) ?_
    refine z2r rfl rfl (fun hc=>z29 (cnd (c:=(!r16)) hc) (cnd (c:=(!r16)) hc)) ?_
    refine z0a (z3f rfl rfl (fun hb=>(cnd (c:=(!r16)) (notI hb)))) ?_
    refine qd rfl ?_
    refine z2r rfl rfl (fun hc=>z66 y5k rfl) ?_
    refine z2r rfl rfl (fun hc=>z0w tyS3 (cnd (c:=(!(r16 || (decide (x3.Until < x3.To))))) hc) rfl rfl) ?_
    refine z2r rfl rfl (fun hc=>z29 (cnd (c:=(!(r16 || (decide (x3.Until < x3.To))))) hc) rfl) ?_
    refine z0a (z3f rfl rfl (fun hb=>(cnd (c:=(!(r16 || (decide (x3.Until < x3.To))))) (notI hb)))) ?_
    refine z0j _ rfl (fun h18 => ?_) (fun h18 => ?_)
    ·replace H:=ift h18 H
     refine z0c ?_
     refine z0b hN rfl ?_
     refine qe rfl ?_
     refine z0m ?_
     cases H
     exact ⟨trivial,.inl rfl,trivial⟩
    ·replace H:=iff_ h18 H
     refine z0l ?_
     refine z0c ?_
     refine z0z (ι:=Bool) (fun i=>[(55,.dat (z01 i))]) (fun i=>[]) (fun i=>z5e i=some r) (fun i=>rfl) ?_ ?_
     ·skip
      refine z5o mixed hN rfl rfl ?_
      refine qd rfl ?_
      refine z0a (z29 rfl rfl) ?_
      refine qd rfl ?_
      refine z08 (j:=2) rfl rfl (fun h19 => ?_) (fun h19 => ?_) rfl
      ·have h20:=un1 h19
       replace H:=ift h20 H
       refine z0p rfl rfl h19 (z66 y4b rfl) ?_
       refine z0p rfl rfl h19 (z0w tyS3 rfl rfl rfl) ?_
       refine z0p rfl rfl h19 (z0h (.dat _) rfl) ?_
       refine z0p rfl rfl h19 (z0h (.dat _) rfl) ?_
       refine z0p rfl rfl h19 (z1a _ rfl rfl (.inr (.inl ⟨rfl,rfl⟩))) ?_
       obtain ⟨x21,h22,H⟩:=bnd H
       refine z0p rfl rfl h19 (y23 y61 (fun _=>rfl) rfl rfl h22) ?_
       refine z0p rfl rfl h19 (z66 y4b rfl) ?_
       refine z0p rfl rfl h19 (z0w tyS3 rfl (z3m (z7s h22).2) rfl) ?_
       refine z0p rfl rfl h19 (z04 rfl rfl) ?_
       refine z0a (z0v rfl (bTT h20) rfl) ?_
       refine ⟨rfl,?_⟩
       exact ⟨decide (x3.From < x21.From),H,⟨rfl,trivial⟩,trivial⟩
      ·have h23:=un2 h19
       replace H:=iff_ h23 H
       refine z0f rfl rfl h19 ?_
       refine z0f rfl rfl h19 ?_
       refine z0f rfl rfl h19 ?_
       refine z0f rfl rfl h19 ?_
       refine z0f rfl rfl h19 ?_
       refine z0f rfl rfl h19 ?_
       refine z0f rfl rfl h19 ?_
       refine z0f rfl rfl h19 ?_
       refine z0f rfl rfl h19 ?_
       refine z0a (z0x rfl (bFF h23) rfl) ?_
       refine ⟨rfl,?_⟩
       exact ⟨false,H,⟨rfl,trivial⟩,trivial⟩
     ·rintro v24 H
      replace H:z5e v24=some r:=H
      unfold z5e at H
      refine z0j _ rfl (fun h25 => ?_) (fun h25 => ?_)
      ·replace H:=ift h25 H
       refine z0c ?_
       refine z0b hN rfl ?_
       refine qe rfl ?_
       refine z0m ?_
       cases H
       exact ⟨trivial,.inl rfl,trivial⟩
      ·replace H:=iff_ h25 H
       refine z0l ?_
       refine z0c ?_
       refine z0b hN rfl ?_
       refine qe rfl ?_
       refine z0m ?_
       cases H
       exact ⟨trivial,.inl rfl,trivial⟩
end Go.Proofs.YtkckjgkfljgjpaaGreatDoor
