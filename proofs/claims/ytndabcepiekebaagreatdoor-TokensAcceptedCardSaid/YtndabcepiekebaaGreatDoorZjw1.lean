/- Walks along the models. Printed by a program. -/
import Derived.Test.YtndabcepiekebaaGreatDoorZjc
namespace Go.Proofs.YtndabcepiekebaaGreatDoor
open Go.RowKit
set_option linter.unusedVariables false
set_option maxRecDepth 100000
set_option maxHeartbeats 2000000
theorem y5t (x1:Int) (n2:Int) (r:(Int)) (H:z97 x1 n2=some r):Fn Tryz.prog 120 [vint x1,vint n2] (z1r [vint r]):=by
 refine ⟨by kernel_rfl,z1e (us:=[vint r]) Tryz.func120 rfl rfl rfl rfl fun X hN => ?_⟩
 unfold z97 at H
 refine z0c ?_
 refine z0b hN rfl ?_
 refine qe rfl ?_
 refine z0c ?_
 refine z0c ?_
 refine z0b hN rfl ?_
 refine qd rfl ?_
 refine z0a (z04 rfl rfl) ?_
 refine z0g _ rfl (fun h3 => ?_) (fun h3 => ?_)
 ·replace H:=ift h3 H
  refine z0c ?_
  refine z0b hN rfl ?_
  refine qe rfl ?_
  refine z0m ?_
  cases H
  exact ⟨trivial,.inl rfl,trivial⟩
 ·replace H:=iff_ h3 H
  refine z0l ?_
  refine z0c ?_
  refine z0b hN rfl ?_
  refine qd rfl ?_
  refine qd rfl ?_
  obtain ⟨h4,H⟩:=gif H
  refine z0a (x8k rfl rfl h4) ?_
  refine qe rfl ?_
  refine z03 (ι:=Int) (fun i=>[(0,.dat (vint i))]) (fun i=>[]) (fun i=>y0t i=some r) (fun i=>rfl) ?_ ?_
  ·skip
   refine z0c ?_
   refine z0b hN rfl ?_
   refine qd rfl ?_
   refine z0a (z04 rfl rfl) ?_
   refine z0g _ rfl (fun h5 => ?_) (fun h5 => ?_)
   ·replace H:=ift h5 H
    refine z0b hN rfl ?_
    refine qd rfl ?_
    refine qd rfl ?_
    refine z0a (z1c _ rfl rfl (.inl ⟨rfl,rfl⟩)) ?_
    refine qe rfl ?_
    exact ⟨wr ((Int.tmod x1 n2)+n2),H,⟨rfl,trivial⟩,trivial⟩
   ·replace H:=iff_ h5 H
    refine z0l ?_
    exact ⟨(Int.tmod x1 n2),H,⟨rfl,trivial⟩,trivial⟩
  ·rintro x6 H
   replace H:y0t x6=some r:=H
   unfold y0t at H
   refine z0c ?_
   refine z0b hN rfl ?_
   refine qd rfl ?_
   refine qe rfl ?_
   refine z0m ?_
   cases H
   exact ⟨trivial,.inl rfl,trivial⟩
theorem z2x (s1:z0d) (n2:Int) (r:(Int×z0d)) (H:z1x s1 n2=some r):Imp Tryz.prog 57 25 (z0t s1) [vint n2] (z1r [vint r.1]) (z0t r.2):=by
 refine y3m (us:=[vint r.1]) (cs':=(z0t r.2)) (by kernel_rfl) Tryz.func57 rfl rfl rfl rfl fun X bl hN => ?_
 unfold z1x at H
 refine z0c ?_
 refine z0b hN rfl ?_
 refine qe rfl ?_
 refine z0c ?_
 refine z0b hN rfl ?_
 refine z0a (z0h (.ptr _ _) rfl) ?_
 refine z0a (z2o rfl) ?_
 refine z0a (z0r x1x rfl) ?_
 refine z0w (z0o tyS3 rfl rfl) rfl ?_
 refine z0a (z1c _ rfl rfl (.inl ⟨rfl,rfl⟩)) ?_
 refine z0a (z2o rfl) ?_
 refine z0a (z0r x1x rfl) ?_
 refine z0j (z15 tyS3 rfl rfl rfl rfl) rfl ?_
 refine z0c ?_
 refine z0c ?_
 refine z0b hN rfl ?_
 refine z0a (z0h (.ptr _ _) rfl) ?_
 refine z0a (z2o rfl) ?_
 refine z0a (z0r x4r rfl) ?_
 refine z0w (z0o w37 rfl rfl) rfl ?_
 refine z0a (z6r w32 rfl) ?_
 refine z0a (z2z rfl rfl) ?_
 refine z0g _ rfl (fun h3 => ?_) (fun h3 => ?_)
 ·replace H:=ift h3 H
  refine z0c ?_
  refine z0b hN rfl ?_
  refine z0a (z0h (.ptr _ _) rfl) ?_
  refine z0a (z2o rfl) ?_
  refine z0a (z0r x1x rfl) ?_
  refine z0w (z0o tyS3 rfl rfl) rfl ?_
  refine z0a (z1c _ rfl rfl (.inr (.inr ⟨rfl,rfl⟩))) ?_
  refine qd rfl ?_
  obtain ⟨r4,h5,H⟩:=bnd H
  refine z0a (z0q (y5t (wr ((wr (s1.at_+1)) * 7919)) n2 r4 h5) ⟨.inl rfl,.inl rfl,trivial⟩) ?_
  refine qe rfl ?_
  refine z0m ?_
  cases H
  exact ⟨trivial,⟨.inl rfl,trivial⟩,rfl⟩
 ·replace H:=iff_ h3 H
  refine z0l ?_
  refine z0c ?_
  refine z4k mixed hN rfl rfl ?_
  refine z0a (z0h (.ptr _ _) rfl) ?_
  refine z0a (z2o rfl) ?_
  refine z0a (z0r x1x rfl) ?_
  refine z0w (z0o tyS3 rfl rfl) rfl ?_
  refine z0a (z1c _ rfl rfl (.inr (.inl ⟨rfl,rfl⟩))) ?_
  refine z0a (z0h (.ptr _ _) rfl) ?_
  refine z0a (z2o rfl) ?_
  refine z0a (z0r x4r rfl) ?_
  refine z0w (z0o w37 rfl rfl) rfl ?_
  refine z0a (z6r w32 rfl) ?_
  obtain ⟨h6,H⟩:=gif H
  refine z0a (x8k rfl rfl h6) ?_
  refine qe rfl ?_
  refine ⟨rfl,?_⟩
  refine z0c ?_
  refine z4k mixed hN rfl rfl ?_
  refine z0a (z0h (.ptr _ _) rfl) ?_
  refine z0a (z2o rfl) ?_
  refine z0a (z0r x1x rfl) ?_
  refine z0w (z0o tyS3 rfl rfl) rfl ?_
  refine z0a (z1c _ rfl rfl (.inr (.inl ⟨rfl,rfl⟩))) ?_
  refine z0a (z0h (.ptr _ _) rfl) ?_
  refine z0a (z2o rfl) ?_
  refine z0a (z0r x4r rfl) ?_
  refine z0w (z0o w37 rfl rfl) rfl ?_
  refine z0a (z6r w32 rfl) ?_
  obtain ⟨h7,H⟩:=gif H
  refine z0a (w6r rfl rfl h7.1 h7.2) ?_
  refine qe rfl ?_
  refine ⟨rfl,?_⟩
  refine z0c ?_
  refine z0b hN rfl ?_
  refine z0a (z0h (.ptr _ _) rfl) ?_
  refine z0a (z2o rfl) ?_
  refine z0a (z0r x4r rfl) ?_
  refine z0w (z0o w37 rfl rfl) rfl ?_
  refine qd rfl ?_
  obtain ⟨x8,h9,H⟩:=bnd H
  refine z0a (y25 w8r (fun _=>rfl) rfl rfl h9) ?_
  refine z0a (z0x tyS3 rfl (z2l (z6x h9).2) rfl) ?_
  obtain ⟨r10,h11,H⟩:=bnd H
  refine z0a (z0q (y5t x8 1073741824 r10 h11) ⟨.inl rfl,.inl rfl,trivial⟩) ?_
  refine qd rfl ?_
  refine qd rfl ?_
  refine z0a (z1c _ rfl rfl (.inl ⟨rfl,rfl⟩)) ?_
  refine z0a (z1c _ rfl rfl (.inr (.inr ⟨rfl,rfl⟩))) ?_
  refine z0a (z1c _ rfl rfl (.inl ⟨rfl,rfl⟩)) ?_
  refine qd rfl ?_
  obtain ⟨r12,h13,H⟩:=bnd H
  refine z0a (z0q (y5t (wr (r10+(wr (((wr ((wr (s1.at_+1)) - 1)) / (s1.L.length:Int)) * (wr (7919+(Int.tmod (wr ((wr (s1.at_+1)) - 1)) (s1.L.length:Int)))))))) n2 r12 h13) ⟨.inl rfl,.inl rfl,trivial⟩) ?_
  refine qe rfl ?_
  refine z0m ?_
  cases H
  exact ⟨trivial,⟨.inl rfl,trivial⟩,rfl⟩
theorem y0h (s1:z0d) (low2:Int) (high3:Int) (r:(Int×z0d)) (H:z5d s1 low2 high3=some r):Imp Tryz.prog 101 25 (z0t s1) [vint low2,vint high3] (z1r [vint r.1]) (z0t r.2):=by
 refine y3m (us:=[vint r.1]) (cs':=(z0t r.2)) (by kernel_rfl) Tryz.func101 rfl rfl rfl rfl fun X bl hN => ?_
 unfold z5d at H
 refine z0c ?_
 refine z0b hN rfl ?_
 refine qe rfl ?_
 refine z0c ?_
 refine z0c ?_
 refine z0b hN rfl ?_
 refine qd rfl ?_
 refine qd rfl ?_
 refine z0a (z04 rfl rfl) ?_
 refine z0g _ rfl (fun h4 => ?_) (fun h4 => ?_)
 ·replace H:=ift h4 H
  refine z0c ?_
  refine z0b hN rfl ?_
  refine qd rfl ?_
  refine qe rfl ?_
  refine z0m ?_
  cases H
  exact ⟨trivial,⟨.inl rfl,trivial⟩,rfl⟩
 ·replace H:=iff_ h4 H
  refine z0l ?_
  refine z0c ?_
  refine z0b hN rfl ?_
  refine qd rfl ?_
  refine z0a (z0h (.ptr _ _) rfl) ?_
  refine qd rfl ?_
  refine qd rfl ?_
  refine z0a (z1c _ rfl rfl (.inr (.inl ⟨rfl,rfl⟩))) ?_
  refine z0a (z1c _ rfl rfl (.inl ⟨rfl,rfl⟩)) ?_
  obtain ⟨r5,h6,H⟩:=bnd H
  refine z0j (z1f (z2x s1 (wr ((wr (high3 - low2))+1)) r5 h6) rfl ⟨.inl rfl,trivial⟩ rfl) rfl ?_
  refine z0a (z1c _ rfl rfl (.inl ⟨rfl,rfl⟩)) ?_
  refine qe rfl ?_
  refine z0m ?_
  cases H
  exact ⟨trivial,⟨.inl rfl,trivial⟩,rfl⟩
theorem z1y (s1:z0d) (l2:(List Int)) (r:(Int×z0d)) (H:z1i s1 l2=some r):Imp Tryz.prog 14 25 (z0t s1) [vlst (List.map y2j l2)] (z1r [vint r.1]) (z0t r.2):=by
 refine y3m (us:=[vint r.1]) (cs':=(z0t r.2)) (by kernel_rfl) Tryz.func14 rfl rfl rfl rfl fun X bl hN => ?_
 unfold z1i at H
 refine z0c ?_
 refine z0b hN rfl ?_
 refine qe rfl ?_
 refine z0c ?_
 refine z0b hN rfl ?_
 refine qd rfl ?_
 refine z0a (z0h (.ptr _ _) rfl) ?_
 refine qd rfl ?_
 refine z0a (z6r w32 rfl) ?_
 obtain ⟨r3,h4,H⟩:=bnd H
 refine z0j (z1f (z2x s1 (l2.length:Int) r3 h4) rfl ⟨.inl rfl,trivial⟩ rfl) rfl ?_
 obtain ⟨x5,h6,H⟩:=bnd H
 refine z0a (y25 w8r (fun _=>rfl) rfl rfl h6) ?_
 refine z0a (z0x tyS3 rfl (z2l (z6x h6).2) rfl) ?_
 refine qe rfl ?_
 refine z0m ?_
 cases H
 exact ⟨trivial,⟨.inl rfl,trivial⟩,rfl⟩
theorem z1d (s1:z0d) (l2:(List Bs)) (r:(Bs×z0d)) (H:z07 s1 l2=some r):Imp Tryz.prog 39 25 (z0t s1) [vlst (List.map z0n l2)] (z1r [vstr r.1]) (z0t r.2):=by
 refine y3m (us:=[vstr r.1]) (cs':=(z0t r.2)) (by kernel_rfl) Tryz.func39 rfl rfl rfl rfl fun X bl hN => ?_
 unfold z07 at H
 refine z0c ?_
 refine z0b hN rfl ?_
 refine qe rfl ?_
 refine z0c ?_
 refine z0b hN rfl ?_
 refine qd rfl ?_
 refine z0a (z0h (.ptr _ _) rfl) ?_
 refine qd rfl ?_
 refine z0a (z6r z9p rfl) ?_
 obtain ⟨r3,h4,H⟩:=bnd H
 refine z0j (z1f (z2x s1 (l2.length:Int) r3 h4) rfl ⟨.inl rfl,trivial⟩ rfl) rfl ?_
 obtain ⟨x5,h6,H⟩:=bnd H
 refine z0a (y25 z9i (fun _=>rfl) rfl rfl h6) ?_
 refine z0a (z0x tyS9 rfl (z2l (z6x h6).2) rfl) ?_
 refine qe rfl ?_
 refine z0m ?_
 cases H
 exact ⟨trivial,⟨.inl rfl,trivial⟩,rfl⟩
theorem z1z (s1:z0d) (n2:Int) (r:(Bool×z0d)) (H:z1j s1 n2=some r):Imp Tryz.prog 38 25 (z0t s1) [vint n2] (z1r [z05 r.1]) (z0t r.2):=by
 refine y3m (us:=[z05 r.1]) (cs':=(z0t r.2)) (by kernel_rfl) Tryz.func38 rfl rfl rfl rfl fun X bl hN => ?_
 unfold z1j at H
 refine z0c ?_
 refine z0b hN rfl ?_
 refine qe rfl ?_
 refine z0c ?_
 refine z0b hN rfl ?_
 refine z0a (z0h (.ptr _ _) rfl) ?_
 refine qd rfl ?_
 obtain ⟨r3,h4,H⟩:=bnd H
 refine z0j (z1f (z2x s1 n2 r3 h4) rfl ⟨.inl rfl,trivial⟩ rfl) rfl ?_
 refine z0a (z2z rfl rfl) ?_
 refine qe rfl ?_
 refine z0m ?_
 cases H
 exact ⟨trivial,⟨.inl rfl,trivial⟩,rfl⟩
theorem y45 (s1:z0d) (r:((List z0i)×z0d)) (H:z4y s1=some r):FnG Tryz.prog 98 [.ptr 0 0] [(0,.box (some 0) 25 (List.map .dat (z0t s1)))] (.row 1 r.1.length) [(0,.box (some 0) 25 (List.map .dat (z0t r.2))),(1,.row 123 5 (List.map z06 r.1))]:=by
 refine x9d (by kernel_rfl) Tryz.func98 rfl rfl rfl rfl fun X A hN => ?_
 unfold z4y at H
 refine z0c ?_
 refine z0b hN rfl ?_
 refine qe rfl ?_
 refine z0c ?_
 refine z0b hN rfl ?_
 refine qe rfl ?_
 refine z0c ?_
 refine z0b hN rfl ?_
 refine qe rfl ?_
 refine z0c ?_
 refine z0c ?_
 refine z0b hN rfl ?_
 refine z0a (z1a (u':=vlst (List.map z0n [[115,49],[115,50],[115,51]])) (z14 [[_],[_],[_]] z86 ⟨rfl,.inl ⟨_,rfl,rfl,rfl⟩,rfl,rfl,.inl ⟨_,rfl,rfl,rfl⟩,rfl,rfl,.inl ⟨_,rfl,rfl,rfl⟩,rfl,trivial⟩ rfl rfl) rfl) ?_
 refine z0a (z0h (.ptr _ _) rfl) ?_
 obtain ⟨r2,h3,H⟩:=bnd H
 refine z0j (z1f (y0h s1 0 3 r2 h3) rfl ⟨.inl rfl,.inl rfl,trivial⟩ rfl) rfl ?_
 obtain ⟨l4,h5,H⟩:=bnd H
 refine z0a (x1y z9i (fun _=>rfl) rfl rfl rfl h5) ?_
 refine z0a (z6r z9p rfl) ?_
 refine qd rfl ?_
 refine z0v ?_
 refine y2i 3 1 123 5 rfl rfl rfl ?_
 obtain ⟨h12,H⟩:=gif H
 refine z3u (fun (k10:Nat) (s:Int×(List Int)×Int×(List z0i))=>[(0,.ptr 0 0),(3,.row 1 s.2.2.2.length),(4,.dat (vint s.1)),(11,.dat (vlst (List.map z0n l4))),(12,.dat (vint (l4.length:Int))),(13,.dat (vint (k10:Int)))]) (fun (k10:Nat) (s:Int×(List Int)×Int×(List z0i))=>[(0,.box (some (A.bl 0)) 25 [.dat (vlst (List.map y2j s.2.1)),.dat (vint s.2.2.1)]),(1,.row 123 5 (List.map z06 s.2.2.2))]) (0,r2.2.L,r2.2.at_,[]) H ⟨rfl,rfl,rfl,rfl,rfl,rfl,trivial⟩ ⟨rfl,rfl,trivial⟩ (fun _ _=>rfl) ?_ ?_
 ·rintro ⟨v6,c7,c8,l9⟩ H
  replace H:z9g v6 c7 c8 l9=some r:=H
  unfold z9g at H
  refine z0c ?_
  refine z0b hN rfl ?_
  refine z0a (z04 rfl rfl) ?_
  refine z0c ?_
  refine z0g _ rfl (fun h=>(lt_t h).elim) (fun h => ?_)
  refine z1u ?_
  refine z0c ?_
  refine z0b hN rfl ?_
  refine z0a (z0h (.row _ _) rfl) ?_
  refine z0a (z13 (.row _ _) rfl) ?_
  refine z0m ?_
  cases H
  exact ⟨trivial,[(2,.row 1 _)],⟨rfl,trivial⟩,⟨rfl,rfl,trivial⟩,rfl,.inr (.inl ⟨2,rfl,rfl⟩)⟩
 ·rintro k10 x13 ⟨v6,c7,c8,l9⟩ q11 h14 h15 H hq11
  replace H:z6w k10 x13 v6 c7 c8 l9=some q11:=H
  unfold z6w at H
  refine z0c ?_
  refine z0b hN rfl ?_
  refine z0a (z04 rfl rfl) ?_
  refine z0c ?_
  refine z0g _ rfl (fun h => ?_) (fun h=>(lt_f h14 h).elim)
  refine z0l ?_
  refine z0c ?_
  refine z0v ?_
  refine z0c ?_
  refine z0b hN rfl ?_
  refine z0a (y0r z9i (fun _=>rfl) rfl rfl h15) ?_
  refine z0a (z0x tyS9 rfl (z2l h15) rfl) ?_
  refine qe rfl ?_
  refine z0c ?_
  refine z0b hN rfl ?_
  refine qd rfl ?_
  refine z0a (z0h (.ptr _ _) rfl) ?_
  refine z0a (z1a (u':=vlst (List.map y2j [0,10,50,100])) (z14 [[_],[_],[_],[_]] y9p ⟨rfl,.inl ⟨_,rfl,rfl,rfl⟩,rfl,rfl,.inl ⟨_,rfl,rfl,rfl⟩,rfl,rfl,.inl ⟨_,rfl,rfl,rfl⟩,rfl,rfl,.inl ⟨_,rfl,rfl,rfl⟩,rfl,trivial⟩ rfl rfl) rfl) ?_
  obtain ⟨r16,h17,H⟩:=bnd H
  refine z0j (z1f (z1y (z0d.mk c7 c8) [0,10,50,100] r16 h17) rfl ⟨.inl rfl,trivial⟩ rfl) rfl ?_
  refine z0a (z1c _ rfl rfl (.inl ⟨rfl,rfl⟩)) ?_
  refine qe rfl ?_
  refine z0c ?_
  refine z0b hN rfl ?_
  refine qd rfl ?_
  refine z0a (z0h (.ptr _ _) rfl) ?_
  refine z0a (z1a (u':=vlst (List.map z0n [[111,110,101],[116,119,111],[107,33]])) (z14 [[_],[_],[_]] z86 ⟨rfl,.inl ⟨_,rfl,rfl,rfl⟩,rfl,rfl,.inl ⟨_,rfl,rfl,rfl⟩,rfl,rfl,.inl ⟨_,rfl,rfl,rfl⟩,rfl,trivial⟩ rfl rfl) rfl) ?_
  obtain ⟨r18,h19,H⟩:=bnd H
  refine z0j (z1f (z1d r16.2 ([[111,110,101],[116,119,111],[107,33]]) r18 h19) rfl ⟨.inl rfl,trivial⟩ rfl) rfl ?_
  refine qd rfl ?_
  refine z0a (z1a (u':=vagg (z06 (z0i.mk x13 r18.1 (wr (v6+r16.1)) 0 0))) (z2f [(0,[vstr x13]),(1,[vstr r18.1]),(2,[vint (wr (v6+r16.1))])] x0w w53 rfl ⟨rfl,.inl ⟨_,rfl,rfl,rfl⟩,rfl,rfl,.inl ⟨_,rfl,rfl,rfl⟩,rfl,rfl,.inl ⟨_,rfl,rfl,rfl⟩,rfl,trivial⟩) rfl) ?_
  refine z0j (z2s 2 x0w rfl) rfl ?_
  refine z0j (z1b y58 rfl rfl rfl rfl) rfl ?_
  refine z0c ?_
  refine z0b hN rfl ?_
  refine qd rfl ?_
  refine z0a (z0h (.ptr _ _) rfl) ?_
  refine z0a (z1a (u':=vlst (List.map y2j [0,10,100,200])) (z14 [[_],[_],[_],[_]] y9p ⟨rfl,.inl ⟨_,rfl,rfl,rfl⟩,rfl,rfl,.inl ⟨_,rfl,rfl,rfl⟩,rfl,rfl,.inl ⟨_,rfl,rfl,rfl⟩,rfl,rfl,.inl ⟨_,rfl,rfl,rfl⟩,rfl,trivial⟩ rfl rfl) rfl) ?_
  obtain ⟨r20,h21,H⟩:=bnd H
  refine z0j (z1f (z1y r18.2 [0,10,100,200] r20 h21) rfl ⟨.inl rfl,trivial⟩ rfl) rfl ?_
  refine z0a (z1c _ rfl rfl (.inl ⟨rfl,rfl⟩)) ?_
  refine z0a (z0r y6k rfl) ?_
  refine z0j (z15 tyS3 rfl rfl rfl rfl) rfl ?_
  refine z0c ?_
  refine z4k mixed hN rfl rfl ?_
  refine z0a (z0r y6k rfl) ?_
  refine z0w (z0o tyS3 rfl rfl) rfl ?_
  refine z0a (z0h (.ptr _ _) rfl) ?_
  refine z0a (z1a (u':=vlst (List.map y2j [0,5,100,1000])) (z14 [[_],[_],[_],[_]] y9p ⟨rfl,.inl ⟨_,rfl,rfl,rfl⟩,rfl,rfl,.inl ⟨_,rfl,rfl,rfl⟩,rfl,rfl,.inl ⟨_,rfl,rfl,rfl⟩,rfl,rfl,.inl ⟨_,rfl,rfl,rfl⟩,rfl,trivial⟩ rfl rfl) rfl) ?_
  obtain ⟨r22,h23,H⟩:=bnd H
  refine z0j (z1f (z1y r20.2 [0,5,100,1000] r22 h23) rfl ⟨.inl rfl,trivial⟩ rfl) rfl ?_
  refine z0a (z1c _ rfl rfl (.inl ⟨rfl,rfl⟩)) ?_
  refine z0a (z0r y6j rfl) ?_
  refine z0j (z15 tyS3 rfl rfl rfl rfl) rfl ?_
  refine ⟨rfl,?_⟩
  refine z0b hN rfl ?_
  refine z0a (z0h (.row _ _) rfl) ?_
  refine z0w (z6d y58 rfl rfl rfl) rfl ?_
  refine z0a (z1a (u':=vlst (List.map z06 [(z0i.mk x13 r18.1 (wr (v6+r16.1)) (wr ((wr (v6+r16.1))+r20.1)) (wr ((wr ((wr (v6+r16.1))+r20.1))+r22.1)))])) (z14 [_] w8p ⟨rfl,.inr rfl,rfl,trivial⟩ rfl rfl) rfl) ?_
  obtain ⟨h24,H⟩:=gif H
  refine z0j (y75 w8p (fun _=>rfl) rfl rfl rfl ⟨by simp,by first | (simp; done) | simpa using h24⟩ rfl) rfl ?_
  refine z0a (z13 (.row _ _) rfl) ?_
  refine z0b hN rfl ?_
  refine z0a (z3r rfl rfl (by omega)) ?_
  refine qd rfl ?_
  exact ⟨_,z84 H,⟨rfl,rfl,rfl,rfl,rfl,rfl,trivial⟩,⟨rfl,rfl,trivial⟩⟩
theorem y38 (s:Bs) (n:Int) (r:Bs) (H:z5o s n=some r):Fn Tryz.prog 159 [vstr s,vint n] (z1r [vstr r]):=by
 obtain ⟨h0,h1,h2,rfl⟩:=x7p H
 obtain ⟨c,rfl⟩:=Int.eq_ofNat_of_zero_le h0
 refine y7v (by kernel_rfl) fun M w vs h => ?_
 have hv:=y49 (us:=[.string ⟨s.toArray⟩,.int .i64 c]) h
 subst hv
 have hs:(ByteArray.mk s.toArray).size=s.length:=by simp [ByteArray.size]
 refine (Tryz.strings_Repeat ⟨s.toArray⟩ c w (by omega) (by rw [hs]; exact Nat.le_trans (Nat.mul_le_mul h2 (show c≤1000000 by omega)) (by decide))).mono ?_
 rintro e w' ⟨rfl,hb⟩
 exact ⟨_,rfl,by simp [z1r,vstr,vval],Kp.of_below hb⟩
theorem y7e (s1:z0d) (r:(Bs×z0d)) (H:z7u s1=some r):Imp Tryz.prog 99 25 (z0t s1) [] (z1r [vstr r.1]) (z0t r.2):=by
 refine y3m (us:=[vstr r.1]) (cs':=(z0t r.2)) (by kernel_rfl) Tryz.func99 rfl rfl rfl rfl fun X bl hN => ?_
 unfold z7u at H
 refine z0c ?_
 refine z0b hN rfl ?_
 refine qe rfl ?_
 refine z0c ?_
 refine z0b hN rfl ?_
 refine z0a (z0h (.ptr _ _) rfl) ?_
 obtain ⟨r2,h3,H⟩:=bnd H
 refine z0a (z0q (y38 [115] 101 r2 h3) ⟨.inl rfl,.inl rfl,trivial⟩) ?_
 refine z0a (z1a (u':=vlst (List.map z0n [[111,110,101],[116,119,111],[116,104,114,101,101],[107,33],[111,110,101],[],[97,32,98],[127],r2])) (z14 [[_],[_],[_],[_],[_],[_],[_],[_],[_]] z86 ⟨rfl,.inl ⟨_,rfl,rfl,rfl⟩,rfl,rfl,.inl ⟨_,rfl,rfl,rfl⟩,rfl,rfl,.inl ⟨_,rfl,rfl,rfl⟩,rfl,rfl,.inl ⟨_,rfl,rfl,rfl⟩,rfl,rfl,.inl ⟨_,rfl,rfl,rfl⟩,rfl,rfl,.inl ⟨_,rfl,rfl,rfl⟩,rfl,rfl,.inl ⟨_,rfl,rfl,rfl⟩,rfl,rfl,.inl ⟨_,rfl,rfl,rfl⟩,rfl,rfl,.inl ⟨_,rfl,rfl,rfl⟩,rfl,trivial⟩ rfl rfl) rfl) ?_
 obtain ⟨r4,h5,H⟩:=bnd H
 refine z0j (z1f (z1d s1 ([[111,110,101],[116,119,111],[116,104,114,101,101],[107,33],[111,110,101],[],[97,32,98],[127],r2]) r4 h5) rfl ⟨.inl rfl,trivial⟩ rfl) rfl ?_
 refine qe rfl ?_
 refine z0m ?_
 cases H
 exact ⟨trivial,⟨.inl rfl,trivial⟩,rfl⟩
theorem z7y (s1:z0d) (low2:Int) (high3:Int) (r:(Int×z0d)) (H:z3e s1 low2 high3=some r):Imp Tryz.prog 40 25 (z0t s1) [vint low2,vint high3] (z1r [vint r.1]) (z0t r.2):=by
 refine y3m (us:=[vint r.1]) (cs':=(z0t r.2)) (by kernel_rfl) Tryz.func40 rfl rfl rfl rfl fun X bl hN => ?_
 unfold z3e at H
 refine z0c ?_
 refine z0b hN rfl ?_
 refine qe rfl ?_
 refine z0c ?_
 refine z0c ?_
 refine z0b hN rfl ?_
 refine z0a (z0h (.ptr _ _) rfl) ?_
 obtain ⟨r4,h5,H⟩:=bnd H
 refine z0j (z1f (z1z s1 12 r4 h5) rfl ⟨.inl rfl,trivial⟩ rfl) rfl ?_
 refine z0g _ rfl (fun h6 => ?_) (fun h6 => ?_)
 ·replace H:=ift h6 H
  refine z0c ?_
  refine z0b hN rfl ?_
  refine z0a (z0h (.ptr _ _) rfl) ?_
  refine qd rfl ?_
  refine z0a (z1c _ rfl rfl (.inr (.inl ⟨rfl,rfl⟩))) ?_
  refine qd rfl ?_
  refine z0a (z1c _ rfl rfl (.inl ⟨rfl,rfl⟩)) ?_
  refine qd rfl ?_
  refine qd rfl ?_
  refine z0a (z1a (u':=vlst (List.map y2j [wr (low2 - 1),wr (high3+1),low2,high3,(-1099511627776),1099511627776])) (z14 [[_],[_],[_],[_],[_],[_]] y9p ⟨rfl,.inl ⟨_,rfl,rfl,rfl⟩,rfl,rfl,.inl ⟨_,rfl,rfl,rfl⟩,rfl,rfl,.inl ⟨_,rfl,rfl,rfl⟩,rfl,rfl,.inl ⟨_,rfl,rfl,rfl⟩,rfl,rfl,.inl ⟨_,rfl,rfl,rfl⟩,rfl,rfl,.inl ⟨_,rfl,rfl,rfl⟩,rfl,trivial⟩ rfl rfl) rfl) ?_
  obtain ⟨r7,h8,H⟩:=bnd H
  refine z0j (z1f (z1y r4.2 [wr (low2 - 1),wr (high3+1),low2,high3,(-1099511627776),1099511627776] r7 h8) rfl ⟨.inl rfl,trivial⟩ rfl) rfl ?_
  refine qe rfl ?_
  refine z0m ?_
  cases H
  exact ⟨trivial,⟨.inl rfl,trivial⟩,rfl⟩
 ·replace H:=iff_ h6 H
  refine z0l ?_
  refine z0c ?_
  refine z0b hN rfl ?_
  refine z0a (z0h (.ptr _ _) rfl) ?_
  refine qd rfl ?_
  refine qd rfl ?_
  obtain ⟨r9,h10,H⟩:=bnd H
  refine z0j (z1f (y0h r4.2 low2 high3 r9 h10) rfl ⟨.inl rfl,.inl rfl,trivial⟩ rfl) rfl ?_
  refine qe rfl ?_
  refine z0m ?_
  cases H
  exact ⟨trivial,⟨.inl rfl,trivial⟩,rfl⟩
theorem y6y (s1:z0d) (r:((List z0i)×z0d)) (H:z7c s1=some r):Imp Tryz.prog 36 25 (z0t s1) [] (z1r [vlst (List.map z06 r.1)]) (z0t r.2):=by
 refine y3m (us:=[vlst (List.map z06 r.1)]) (cs':=(z0t r.2)) (by kernel_rfl) Tryz.func36 rfl rfl rfl rfl fun X bl hN => ?_
 unfold z7c at H
 refine z0c ?_
 refine z0b hN rfl ?_
 refine qe rfl ?_
 refine z0c ?_
 refine z0b hN rfl ?_
 refine z0a (z0h (.ptr _ _) rfl) ?_
 obtain ⟨r2,h3,H⟩:=bnd H
 refine y31 (rn [(0,0),(1,1)]) [(0,_,_,some _)] [(1,_)] (y45 s1 r2 h3) ⟨rfl,rfl,trivial⟩ ⟨.inl (.inl rfl),trivial⟩ ⟨⟨⟨rfl,rfl⟩,trivial⟩,trivial⟩ rfl ?_
 refine z0a (z13 (.row _ _) rfl) ?_
 refine z03 (ι:=(List z0i)×(List Int)×Int) (fun i=>[(3,.row 1 i.1.length)]) (fun i=>[(0,.box (some bl) 25 [.dat (vlst (List.map y2j i.2.1)),.dat (vint i.2.2)]),(1,.row 123 5 (List.map z06 i.1))]) (fun i=>z23 i.1 i.2.1 i.2.2=some r) (fun i=>rfl) ?_ ?_
 ·skip
  refine z03 (ι:=Bool×(List Int)×Int) (fun i=>[(0,.ptr 0 0),(3,.row 1 r2.1.length),(13,.dat (z05 i.1))]) (fun i=>[(0,.box (some bl) 25 [.dat (vlst (List.map y2j i.2.1)),.dat (vint i.2.2)]),(1,.row 123 5 (List.map z06 r2.1))]) (fun i=>z3w r2 i.1 i.2.1 i.2.2=some r) (fun i=>rfl) ?_ ?_
  ·skip
   refine z0b hN rfl ?_
   refine z0a (z0h (.row _ _) rfl) ?_
   refine z0w (x8g x5w rfl rfl) rfl ?_
   refine z0a (z2m rfl rfl) ?_
   refine qd rfl ?_
   refine z09 (j:=3) rfl rfl (fun h4 => ?_) (fun h4 => ?_) rfl
   ·have h5:=un1 h4
    replace H:=ift h5 H
    refine z0p rfl rfl h4 (z0h (.ptr _ _) rfl) ?_
    obtain ⟨r6,h7,H⟩:=bnd H
    refine w57 rfl rfl h4 (z1f (z1z r2.2 12 r6 h7) rfl ⟨.inl rfl,trivial⟩ rfl) rfl ?_
    refine z0a (z00 rfl (bTT h5) rfl) ?_
    exact ⟨(r6.1,r6.2.L,r6.2.at_),H,⟨rfl,rfl,rfl,trivial⟩,⟨rfl,rfl,trivial⟩⟩
   ·have h8:=un2 h4
    replace H:=iff_ h8 H
    refine z0f rfl rfl h4 ?_
    refine z0f rfl rfl h4 ?_
    refine z0a (z0z rfl (bFF h8) rfl) ?_
    exact ⟨(false,r2.2.L,r2.2.at_),H,⟨rfl,rfl,rfl,trivial⟩,⟨rfl,rfl,trivial⟩⟩
  ·rintro ⟨v9,c10,c11⟩ H
   replace H:z3w r2 v9 c10 c11=some r:=H
   unfold z3w at H
   refine z0g _ rfl (fun h12 => ?_) (fun h12 => ?_)
   ·replace H:=ift h12 H
    refine z0c ?_
    refine z0b hN rfl ?_
    refine z0a (z0h (.row _ _) rfl) ?_
    refine z0a (z0h (.ptr _ _) rfl) ?_
    refine z0a (z0h (.row _ _) rfl) ?_
    refine z0w (x8g x5w rfl rfl) rfl ?_
    obtain ⟨r13,h14,H⟩:=bnd H
    refine z0j (z1f (z2x (z0d.mk c10 c11) (r2.1.length:Int) r13 h14) rfl ⟨.inl rfl,trivial⟩ rfl) rfl ?_
    obtain ⟨x15,h16,H⟩:=bnd H
    refine z0w (x7a y86 rfl rfl rfl h16) rfl ?_
    refine z0a (z13 (.rptr _ _ _ _ _) rfl) ?_
    refine z0c ?_
    refine z0b hN rfl ?_
    refine z0a (z0h (.ptr _ _) rfl) ?_
    obtain ⟨r17,h18,H⟩:=bnd H
    refine z0j (z1f (z2x r13.2 3 r17 h18) rfl ⟨.inl rfl,trivial⟩ rfl) rfl ?_
    refine z0v ?_
    refine z0c ?_
    refine z0b hN rfl ?_
    refine z0a (z2z rfl rfl) ?_
    refine qe rfl ?_
    refine z0g _ rfl (fun h19 => ?_) (fun h19 => ?_)
    ·replace H:=ift h19 H
     refine z0b hN rfl ?_
     refine z0a (z0h (.rptr _ _ _ _ _) rfl) ?_
     refine z0a (z0h (.ptr _ _) rfl) ?_
     refine z0a (z1a (u':=vlst (List.map z0n [[],[65],[115,49]])) (z14 [[_],[_],[_]] z86 ⟨rfl,.inl ⟨_,rfl,rfl,rfl⟩,rfl,rfl,.inl ⟨_,rfl,rfl,rfl⟩,rfl,rfl,.inl ⟨_,rfl,rfl,rfl⟩,rfl,trivial⟩ rfl rfl) rfl) ?_
     obtain ⟨r20,h21,H⟩:=bnd H
     refine z0j (z1f (z1d r17.2 ([[],[65],[115,49]]) r20 h21) rfl ⟨.inl rfl,trivial⟩ rfl) rfl ?_
     refine z0a (x1c rfl) ?_
     refine z0a (x1e y5b rfl) ?_
     refine z0j (y9s (z0i.mk r20.1 x15.Secret x15.From x15.To x15.Until) tyS9 rfl rfl rfl rfl (z6x h16).2 rfl rfl) rfl ?_
     exact ⟨((r2.1.set r13.1.toNat (z0i.mk r20.1 x15.Secret x15.From x15.To x15.Until)),r20.2.L,r20.2.at_),H,⟨congrArg (Slot.row 1) (by simp),trivial⟩,⟨rfl,rfl,trivial⟩⟩
    ·replace H:=iff_ h19 H
     refine z0c ?_
     refine z0b hN rfl ?_
     refine z0a (z2z rfl rfl) ?_
     refine qe rfl ?_
     refine z0g _ rfl (fun h22 => ?_) (fun h22 => ?_)
     ·replace H:=ift h22 H
      refine z0b hN rfl ?_
      refine z0a (z0h (.rptr _ _ _ _ _) rfl) ?_
      refine z0a (z0h (.ptr _ _) rfl) ?_
      obtain ⟨r23,h24,H⟩:=bnd H
      refine z0j (z1f (y7e r17.2 r23 h24) rfl trivial rfl) rfl ?_
      refine z0a (x1c rfl) ?_
      refine z0a (x1e y8h rfl) ?_
      refine z0j (y9s (z0i.mk x15.Id r23.1 x15.From x15.To x15.Until) tyS9 rfl rfl rfl rfl (z6x h16).2 rfl rfl) rfl ?_
      exact ⟨((r2.1.set r13.1.toNat (z0i.mk x15.Id r23.1 x15.From x15.To x15.Until)),r23.2.L,r23.2.at_),H,⟨congrArg (Slot.row 1) (by simp),trivial⟩,⟨rfl,rfl,trivial⟩⟩
     ·replace H:=iff_ h22 H
      refine z0b hN rfl ?_
      refine z0a (z0h (.rptr _ _ _ _ _) rfl) ?_
      refine z0a (z0h (.rptr _ _ _ _ _) rfl) ?_
      refine z0a (z0h (.ptr _ _) rfl) ?_
      obtain ⟨r25,h26,H⟩:=bnd H
      refine z0j (z1f (z7y r17.2 0 300 r25 h26) rfl ⟨.inl rfl,.inl rfl,trivial⟩ rfl) rfl ?_
      refine z0a (z0h (.ptr _ _) rfl) ?_
      obtain ⟨r27,h28,H⟩:=bnd H
      refine z0j (z1f (z7y r25.2 0 300 r27 h28) rfl ⟨.inl rfl,.inl rfl,trivial⟩ rfl) rfl ?_
      refine z0a (x1c rfl) ?_
      refine z0a (x1e y5a rfl) ?_
      refine z0j (y9s (z0i.mk x15.Id x15.Secret r25.1 x15.To x15.Until) tyS3 rfl rfl rfl rfl (z6x h16).2 rfl rfl) rfl ?_
      refine z0a (x1c rfl) ?_
      refine z0a (x1e y6k rfl) ?_
      refine z0j (y9s (z0i.mk x15.Id x15.Secret r25.1 r27.1 x15.Until) tyS3 rfl rfl rfl (by simp) (w81 (z6x h16).2) rfl rfl) rfl ?_
      exact ⟨(((r2.1.set r13.1.toNat (z0i.mk x15.Id x15.Secret r25.1 x15.To x15.Until)).set r13.1.toNat (z0i.mk x15.Id x15.Secret r25.1 r27.1 x15.Until)),r27.2.L,r27.2.at_),H,⟨congrArg (Slot.row 1) (by simp),trivial⟩,⟨rfl,rfl,trivial⟩⟩
   ·replace H:=iff_ h12 H
    refine z0l ?_
    exact ⟨(r2.1,c10,c11),H,⟨rfl,trivial⟩,⟨rfl,rfl,trivial⟩⟩
 ·rintro ⟨out29,c30,c31⟩ H
  replace H:z23 out29 c30 c31=some r:=H
  unfold z23 at H
  refine z0c ?_
  refine z0b hN rfl ?_
  refine z0a (z0h (.row _ _) rfl) ?_
  refine z0a (z13 (.row _ _) rfl) ?_
  refine z0m ?_
  cases H
  exact ⟨trivial,⟨y87 rfl rfl,trivial⟩,rfl⟩
theorem y6z (s1:z0d) (r:((List z0u)×z0d)) (H:z7d s1=some r):Imp Tryz.prog 19 25 (z0t s1) [] (z1r [vlst (List.map z1l r.1)]) (z0t r.2):=by
 refine y3m (us:=[vlst (List.map z1l r.1)]) (cs':=(z0t r.2)) (by kernel_rfl) Tryz.func19 rfl rfl rfl rfl fun X bl hN => ?_
 unfold z7d at H
 refine z0c ?_
 refine z0b hN rfl ?_
 refine qe rfl ?_
 refine z0c ?_
 refine z0b hN rfl ?_
 refine qe rfl ?_
 refine z0c ?_
 refine z0c ?_
 refine z0b hN rfl ?_
 refine z0a (z1a (u':=vlst (List.map z0n [[116,48],[116,49],[116,50]])) (z14 [[_],[_],[_]] z86 ⟨rfl,.inl ⟨_,rfl,rfl,rfl⟩,rfl,rfl,.inl ⟨_,rfl,rfl,rfl⟩,rfl,rfl,.inl ⟨_,rfl,rfl,rfl⟩,rfl,trivial⟩ rfl rfl) rfl) ?_
 refine z0a (z6r z9p rfl) ?_
 refine qd rfl ?_
 refine z0v ?_
 refine y2i 3 1 58 3 rfl rfl rfl ?_
 obtain ⟨h7,H⟩:=gif H
 refine z3u (fun (k5:Nat) (s:(List Int)×Int×(List z0u))=>[(0,.ptr 0 0),(3,.row 1 s.2.2.length),(7,.dat (vlst (List.map z0n ([[116,48],[116,49],[116,50]])))),(8,.dat (vint (([[116,48],[116,49],[116,50]]).length:Int))),(9,.dat (vint (k5:Int)))]) (fun (k5:Nat) (s:(List Int)×Int×(List z0u))=>[(0,.box (some bl) 25 [.dat (vlst (List.map y2j s.1)),.dat (vint s.2.1)]),(1,.row 58 3 (List.map z1l s.2.2))]) (s1.L,s1.at_,[]) H ⟨rfl,rfl,rfl,rfl,rfl,trivial⟩ ⟨rfl,rfl,trivial⟩ (fun _ _=>rfl) ?_ ?_
 ·rintro ⟨c2,c3,l4⟩ H
  replace H:z8s c2 c3 l4=some r:=H
  unfold z8s at H
  refine z0c ?_
  refine z0b hN rfl ?_
  refine z0a (z04 rfl rfl) ?_
  refine z0c ?_
  refine z0g _ rfl (fun h=>(lt_t h).elim) (fun h => ?_)
  refine z1u ?_
  refine z03 (ι:=(List z0u)×(List Int)×Int) (fun i=>[(3,.row 1 i.1.length)]) (fun i=>[(0,.box (some bl) 25 [.dat (vlst (List.map y2j i.2.1)),.dat (vint i.2.2)]),(1,.row 58 3 (List.map z1l i.1))]) (fun i=>z43 i.1 i.2.1 i.2.2=some r) (fun i=>rfl) ?_ ?_
  ·skip
   refine z0c ?_
   refine z0b hN rfl ?_
   refine z0a (z0h (.ptr _ _) rfl) ?_
   obtain ⟨r9,h10,H⟩:=bnd H
   refine z0j (z1f (z1z (z0d.mk c2 c3) 15 r9 h10) rfl ⟨.inl rfl,trivial⟩ rfl) rfl ?_
   refine z0g _ rfl (fun h11 => ?_) (fun h11 => ?_)
   ·replace H:=ift h11 H
    refine z0b hN rfl ?_
    refine z0a (z0h (.row _ _) rfl) ?_
    refine z0a (z0h (.ptr _ _) rfl) ?_
    refine z0a (z1a (u':=vlst (List.map z0n [[],[116,49],[116,57]])) (z14 [[_],[_],[_]] z86 ⟨rfl,.inl ⟨_,rfl,rfl,rfl⟩,rfl,rfl,.inl ⟨_,rfl,rfl,rfl⟩,rfl,rfl,.inl ⟨_,rfl,rfl,rfl⟩,rfl,trivial⟩ rfl rfl) rfl) ?_
    obtain ⟨r12,h13,H⟩:=bnd H
    refine z0j (z1f (z1d r9.2 ([[],[116,49],[116,57]]) r12 h13) rfl ⟨.inl rfl,trivial⟩ rfl) rfl ?_
    refine z0a (z0h (.ptr _ _) rfl) ?_
    obtain ⟨r14,h15,H⟩:=bnd H
    refine z0j (z1f (z7y r12.2 0 50 r14 h15) rfl ⟨.inl rfl,.inl rfl,trivial⟩ rfl) rfl ?_
    refine z0a (z0h (.ptr _ _) rfl) ?_
    obtain ⟨r16,h17,H⟩:=bnd H
    refine z0j (z1f (z7y r14.2 50 300 r16 h17) rfl ⟨.inl rfl,.inl rfl,trivial⟩ rfl) rfl ?_
    refine z0a (z1a (u':=vagg (z1l (z0u.mk r12.1 r14.1 r16.1))) (z2f [(0,[vstr r12.1]),(1,[vint r14.1]),(2,[vint r16.1])] w3z w8n rfl ⟨rfl,.inl ⟨_,rfl,rfl,rfl⟩,rfl,rfl,.inl ⟨_,rfl,rfl,rfl⟩,rfl,rfl,.inl ⟨_,rfl,rfl,rfl⟩,rfl,trivial⟩) rfl) ?_
    refine z0a (z1a (u':=vlst (List.map z1l [(z0u.mk r12.1 r14.1 r16.1)])) (z14 [_] w39 ⟨rfl,.inr rfl,rfl,trivial⟩ rfl rfl) rfl) ?_
    obtain ⟨h18,H⟩:=gif H
    refine z0j (y75 w39 (fun _=>rfl) rfl rfl rfl ⟨by simp,by first | (simp; done) | simpa using h18⟩ rfl) rfl ?_
    refine z0a (z13 (.row _ _) rfl) ?_
    exact ⟨((l4++[(z0u.mk r12.1 r14.1 r16.1)]),r16.2.L,r16.2.at_),H,⟨rfl,trivial⟩,⟨rfl,rfl,trivial⟩⟩
   ·replace H:=iff_ h11 H
    refine z0l ?_
    exact ⟨(l4,r9.2.L,r9.2.at_),H,⟨rfl,trivial⟩,⟨rfl,rfl,trivial⟩⟩
  ·rintro ⟨out19,c20,c21⟩ H
   replace H:z43 out19 c20 c21=some r:=H
   unfold z43 at H
   refine z0c ?_
   refine z0b hN rfl ?_
   refine z0a (z0h (.row _ _) rfl) ?_
   refine z0a (z13 (.row _ _) rfl) ?_
   refine z0m ?_
   cases H
   exact ⟨trivial,⟨y87 rfl rfl,trivial⟩,rfl⟩
 ·rintro k5 x8 ⟨c2,c3,l4⟩ q6 h22 h23 H hq6
  replace H:z8r k5 x8 c2 c3 l4=some q6:=H
  unfold z8r at H
  refine z0c ?_
  refine z0b hN rfl ?_
  refine z0a (z04 rfl rfl) ?_
  refine z0c ?_
  refine z0g _ rfl (fun h => ?_) (fun h=>(lt_f h22 h).elim)
  refine z0l ?_
  refine z03 (ι:=(List z0u)×(List Int)×Int) (fun i=>[(0,.ptr 0 0),(3,.row 1 i.1.length),(7,.dat (vlst (List.map z0n ([[116,48],[116,49],[116,50]])))),(8,.dat (vint (([[116,48],[116,49],[116,50]]).length:Int))),(9,.dat (vint (k5:Int)))]) (fun i=>[(0,.box (some bl) 25 [.dat (vlst (List.map y2j i.2.1)),.dat (vint i.2.2)]),(1,.row 58 3 (List.map z1l i.1))]) (fun i=>z42 i.1 i.2.1 i.2.2=some q6) (fun i=>rfl) ?_ ?_
  ·skip
   refine z0v ?_
   refine z0c ?_
   refine z0b hN rfl ?_
   refine z0a (y0r z9i (fun _=>rfl) rfl rfl h23) ?_
   refine z0a (z0x tyS9 rfl (z2l h23) rfl) ?_
   refine qe rfl ?_
   refine z0c ?_
   refine z0b hN rfl ?_
   refine z0a (z0h (.ptr _ _) rfl) ?_
   obtain ⟨r24,h25,H⟩:=bnd H
   refine z0j (z1f (z1z (z0d.mk c2 c3) 3 r24 h25) rfl ⟨.inl rfl,trivial⟩ rfl) rfl ?_
   refine z0g _ rfl (fun h26 => ?_) (fun h26 => ?_)
   ·replace H:=ift h26 H
    refine z0c ?_
    refine z0b hN rfl ?_
    refine z0a (z0h (.ptr _ _) rfl) ?_
    refine z0a (z1a (u':=vlst (List.map y2j [0,60,100])) (z14 [[_],[_],[_]] y9p ⟨rfl,.inl ⟨_,rfl,rfl,rfl⟩,rfl,rfl,.inl ⟨_,rfl,rfl,rfl⟩,rfl,rfl,.inl ⟨_,rfl,rfl,rfl⟩,rfl,trivial⟩ rfl rfl) rfl) ?_
    obtain ⟨r27,h28,H⟩:=bnd H
    refine z0j (z1f (z1y r24.2 [0,60,100] r27 h28) rfl ⟨.inl rfl,trivial⟩ rfl) rfl ?_
    refine qe rfl ?_
    refine z0b hN rfl ?_
    refine z0a (z0h (.row _ _) rfl) ?_
    refine qd rfl ?_
    refine qd rfl ?_
    refine qd rfl ?_
    refine z0a (z0h (.ptr _ _) rfl) ?_
    refine z0a (z1a (u':=vlst (List.map y2j [0,50,200])) (z14 [[_],[_],[_]] y9p ⟨rfl,.inl ⟨_,rfl,rfl,rfl⟩,rfl,rfl,.inl ⟨_,rfl,rfl,rfl⟩,rfl,rfl,.inl ⟨_,rfl,rfl,rfl⟩,rfl,trivial⟩ rfl rfl) rfl) ?_
    obtain ⟨r29,h30,H⟩:=bnd H
    refine z0j (z1f (z1y r27.2 [0,50,200] r29 h30) rfl ⟨.inl rfl,trivial⟩ rfl) rfl ?_
    refine z0a (z1c _ rfl rfl (.inl ⟨rfl,rfl⟩)) ?_
    refine z0a (z1a (u':=vagg (z1l (z0u.mk x8 r27.1 (wr (r27.1+r29.1))))) (z2f [(0,[vstr x8]),(1,[vint r27.1]),(2,[vint (wr (r27.1+r29.1))])] w3z w8n rfl ⟨rfl,.inl ⟨_,rfl,rfl,rfl⟩,rfl,rfl,.inl ⟨_,rfl,rfl,rfl⟩,rfl,rfl,.inl ⟨_,rfl,rfl,rfl⟩,rfl,trivial⟩) rfl) ?_
    refine z0a (z1a (u':=vlst (List.map z1l [(z0u.mk x8 r27.1 (wr (r27.1+r29.1)))])) (z14 [_] w39 ⟨rfl,.inr rfl,rfl,trivial⟩ rfl rfl) rfl) ?_
    obtain ⟨h31,H⟩:=gif H
    refine z0j (y75 w39 (fun _=>rfl) rfl rfl rfl ⟨by simp,by first | (simp; done) | simpa using h31⟩ rfl) rfl ?_
    refine z0a (z13 (.row _ _) rfl) ?_
    exact ⟨((l4++[(z0u.mk x8 r27.1 (wr (r27.1+r29.1)))]),r29.2.L,r29.2.at_),H,⟨rfl,rfl,rfl,rfl,rfl,trivial⟩,⟨rfl,rfl,trivial⟩⟩
   ·replace H:=iff_ h26 H
    refine z0l ?_
    exact ⟨(l4,r24.2.L,r24.2.at_),H,⟨rfl,rfl,rfl,rfl,rfl,trivial⟩,⟨rfl,rfl,trivial⟩⟩
  ·rintro ⟨out32,c33,c34⟩ H
   replace H:z42 out32 c33 c34=some q6:=H
   unfold z42 at H
   refine z0b hN rfl ?_
   refine z0a (z3r rfl rfl (by omega)) ?_
   refine qd rfl ?_
   exact ⟨_,z84 H,⟨rfl,rfl,rfl,rfl,rfl,trivial⟩,⟨rfl,rfl,trivial⟩⟩
theorem y2z (s1:z0d) (r:((List Bs)×z0d)) (H:z17 s1=some r):Imp Tryz.prog 59 25 (z0t s1) [] (z1r [vlst (List.map z0n r.1)]) (z0t r.2):=by
 refine y3m (us:=[vlst (List.map z0n r.1)]) (cs':=(z0t r.2)) (by kernel_rfl) Tryz.func59 rfl rfl rfl rfl fun X bl hN => ?_
 unfold z17 at H
 refine z0c ?_
 refine z0b hN rfl ?_
 refine qe rfl ?_
 refine z0c ?_
 refine z0b hN rfl ?_
 refine qe rfl ?_
 refine z0c ?_
 refine z0c ?_
 refine z0b hN rfl ?_
 refine z0a (z0h (.ptr _ _) rfl) ?_
 obtain ⟨r2,h3,H⟩:=bnd H
 refine z0j (z1f (y0h s1 0 4 r2 h3) rfl ⟨.inl rfl,.inl rfl,trivial⟩ rfl) rfl ?_
 refine qd rfl ?_
 refine z0v ?_
 refine y2i 3 1 9 1 rfl rfl rfl ?_
 obtain ⟨h9,H⟩:=gif H
 refine y65 (fun (k7:Nat) (s:(List Int)×Int×(List Bs))=>[(0,.ptr 0 0),(3,.row 1 s.2.2.length),(5,.dat (vint r2.1)),(6,.dat (vint (k7:Int)))]) (fun (k7:Nat) (s:(List Int)×Int×(List Bs))=>[(0,.box (some bl) 25 [.dat (vlst (List.map y2j s.1)),.dat (vint s.2.1)]),(1,.row 9 1 (List.map z0n s.2.2))]) (r2.2.L,r2.2.at_,[]) H ⟨rfl,rfl,rfl,rfl,trivial⟩ ⟨rfl,rfl,trivial⟩ (fun _ _=>rfl) ?_ ?_
 ·rintro ⟨c4,c5,l6⟩ H
  replace H:z41 c4 c5 l6=some r:=H
  unfold z41 at H
  refine z0c ?_
  refine z0b hN rfl ?_
  refine z0a (z04 rfl rfl) ?_
  refine z0c ?_
  refine z0g _ rfl (fun h=>(w1y h).elim) (fun h => ?_)
  refine z1u ?_
  refine z0c ?_
  refine z0b hN rfl ?_
  refine z0a (z0h (.row _ _) rfl) ?_
  refine z0a (z13 (.row _ _) rfl) ?_
  refine z0m ?_
  cases H
  exact ⟨trivial,⟨y87 rfl rfl,trivial⟩,rfl⟩
 ·rintro k7 ⟨c4,c5,l6⟩ q8 h10 H hq8
  replace H:z3q k7 c4 c5 l6=some q8:=H
  unfold z3q at H
  refine z0c ?_
  refine z0b hN rfl ?_
  refine z0a (z04 rfl rfl) ?_
  refine z0c ?_
  refine z0g _ rfl (fun h => ?_) (fun h=>(w1z h10 h).elim)
  refine z0l ?_
  refine z0c ?_
  refine z0v ?_
  refine z0b hN rfl ?_
  refine z0a (z0h (.row _ _) rfl) ?_
  refine z0a (z0h (.ptr _ _) rfl) ?_
  refine z0a (z1a (u':=vlst (List.map z0n [[97],[97,58,42],[97,58,98],[97,58,98,58,42],[97,58,98,58,99],[98],[98,58,42],[98,58,99],[42]])) (z14 [[_],[_],[_],[_],[_],[_],[_],[_],[_]] z86 ⟨rfl,.inl ⟨_,rfl,rfl,rfl⟩,rfl,rfl,.inl ⟨_,rfl,rfl,rfl⟩,rfl,rfl,.inl ⟨_,rfl,rfl,rfl⟩,rfl,rfl,.inl ⟨_,rfl,rfl,rfl⟩,rfl,rfl,.inl ⟨_,rfl,rfl,rfl⟩,rfl,rfl,.inl ⟨_,rfl,rfl,rfl⟩,rfl,rfl,.inl ⟨_,rfl,rfl,rfl⟩,rfl,rfl,.inl ⟨_,rfl,rfl,rfl⟩,rfl,rfl,.inl ⟨_,rfl,rfl,rfl⟩,rfl,trivial⟩ rfl rfl) rfl) ?_
  obtain ⟨r11,h12,H⟩:=bnd H
  refine z0j (z1f (z1d (z0d.mk c4 c5) ([[97],[97,58,42],[97,58,98],[97,58,98,58,42],[97,58,98,58,99],[98],[98,58,42],[98,58,99],[42]]) r11 h12) rfl ⟨.inl rfl,trivial⟩ rfl) rfl ?_
  refine z0a (z1a (u':=vlst (List.map z0n [r11.1])) (z14 [[_]] z86 ⟨rfl,.inl ⟨_,rfl,rfl,rfl⟩,rfl,trivial⟩ rfl rfl) rfl) ?_
  obtain ⟨h13,H⟩:=gif H
  refine z0j (y75 z86 (fun _=>rfl) rfl rfl rfl ⟨by simp,by first | (simp; done) | simpa using h13⟩ rfl) rfl ?_
  refine z0a (z13 (.row _ _) rfl) ?_
  refine z0b hN rfl ?_
  refine z0a (z3r rfl rfl (by omega)) ?_
  refine qd rfl ?_
  exact ⟨_,z84 H,⟨rfl,rfl,rfl,rfl,trivial⟩,⟨rfl,rfl,trivial⟩⟩
theorem y7u (s1:z0d) (r:(Bs×z0d)) (H:z8c s1=some r):Imp Tryz.prog 133 25 (z0t s1) [] (z1r [vstr r.1]) (z0t r.2):=by
 refine y3m (us:=[vstr r.1]) (cs':=(z0t r.2)) (by kernel_rfl) Tryz.func133 rfl rfl rfl rfl fun X bl hN => ?_
 unfold z8c at H
 refine z0c ?_
 refine z0b hN rfl ?_
 refine qe rfl ?_
 refine z0c ?_
 refine z0c ?_
 refine z0b hN rfl ?_
 refine z0a (z0h (.ptr _ _) rfl) ?_
 obtain ⟨r2,h3,H⟩:=bnd H
 refine z0j (z1f (z1z s1 25 r2 h3) rfl ⟨.inl rfl,trivial⟩ rfl) rfl ?_
 refine z0g _ rfl (fun h4 => ?_) (fun h4 => ?_)
 ·replace H:=ift h4 H
  refine z0c ?_
  refine z0b hN rfl ?_
  refine z0a (z0h (.ptr _ _) rfl) ?_
  obtain ⟨r5,h6,H⟩:=bnd H
  refine z0a (z0q (y38 [97,58] 10 r5 h6) ⟨.inl rfl,.inl rfl,trivial⟩) ?_
  obtain ⟨h7,H⟩:=gif H
  refine z0a (z26 rfl rfl (Nat.le_trans h7 (by decide))) ?_
  refine z0a (z1a (u':=vlst (List.map z0n [[],[97,58,42,58,98],[65],[97,58,58,98],[97,58],[42,42],[97,42],(r5++[97])])) (z14 [[_],[_],[_],[_],[_],[_],[_],[_]] z86 ⟨rfl,.inl ⟨_,rfl,rfl,rfl⟩,rfl,rfl,.inl ⟨_,rfl,rfl,rfl⟩,rfl,rfl,.inl ⟨_,rfl,rfl,rfl⟩,rfl,rfl,.inl ⟨_,rfl,rfl,rfl⟩,rfl,rfl,.inl ⟨_,rfl,rfl,rfl⟩,rfl,rfl,.inl ⟨_,rfl,rfl,rfl⟩,rfl,rfl,.inl ⟨_,rfl,rfl,rfl⟩,rfl,rfl,.inl ⟨_,rfl,rfl,rfl⟩,rfl,trivial⟩ rfl rfl) rfl) ?_
  obtain ⟨r8,h9,H⟩:=bnd H
  refine z0j (z1f (z1d r2.2 ([[],[97,58,42,58,98],[65],[97,58,58,98],[97,58],[42,42],[97,42],(r5++[97])]) r8 h9) rfl ⟨.inl rfl,trivial⟩ rfl) rfl ?_
  refine qe rfl ?_
  refine z0m ?_
  cases H
  exact ⟨trivial,⟨.inl rfl,trivial⟩,rfl⟩
 ·replace H:=iff_ h4 H
  refine z0l ?_
  refine z0c ?_
  refine z0b hN rfl ?_
  refine z0a (z0h (.ptr _ _) rfl) ?_
  refine z0a (z1a (u':=vlst (List.map z0n [[42],[97],[97,58,42],[97,58,98],[97,58,98,58,42],[97,58,98,58,99],[98],[98,58,42],[98,58,99],[99]])) (z14 [[_],[_],[_],[_],[_],[_],[_],[_],[_],[_]] z86 ⟨rfl,.inl ⟨_,rfl,rfl,rfl⟩,rfl,rfl,.inl ⟨_,rfl,rfl,rfl⟩,rfl,rfl,.inl ⟨_,rfl,rfl,rfl⟩,rfl,rfl,.inl ⟨_,rfl,rfl,rfl⟩,rfl,rfl,.inl ⟨_,rfl,rfl,rfl⟩,rfl,rfl,.inl ⟨_,rfl,rfl,rfl⟩,rfl,rfl,.inl ⟨_,rfl,rfl,rfl⟩,rfl,rfl,.inl ⟨_,rfl,rfl,rfl⟩,rfl,rfl,.inl ⟨_,rfl,rfl,rfl⟩,rfl,rfl,.inl ⟨_,rfl,rfl,rfl⟩,rfl,trivial⟩ rfl rfl) rfl) ?_
  obtain ⟨r10,h11,H⟩:=bnd H
  refine z0j (z1f (z1d r2.2 ([[42],[97],[97,58,42],[97,58,98],[97,58,98,58,42],[97,58,98,58,99],[98],[98,58,42],[98,58,99],[99]]) r10 h11) rfl ⟨.inl rfl,trivial⟩ rfl) rfl ?_
  refine qe rfl ?_
  refine z0m ?_
  cases H
  exact ⟨trivial,⟨.inl rfl,trivial⟩,rfl⟩
theorem y5j (s1:z0d) (r:((List Bs)×z0d)) (H:z17 s1=some r):FnG Tryz.prog 59 [.ptr 0 0] [(0,.box (some 0) 25 (List.map .dat (z0t s1)))] (.row 1 r.1.length) [(0,.box (some 0) 25 (List.map .dat (z0t r.2))),(1,.row 9 1 (List.map z0n r.1))]:=by
 refine x9d (by kernel_rfl) Tryz.func59 rfl rfl rfl rfl fun X A hN => ?_
 unfold z17 at H
 refine z0c ?_
 refine z0b hN rfl ?_
 refine qe rfl ?_
 refine z0c ?_
 refine z0b hN rfl ?_
 refine qe rfl ?_
 refine z0c ?_
 refine z0c ?_
 refine z0b hN rfl ?_
 refine z0a (z0h (.ptr _ _) rfl) ?_
 obtain ⟨r2,h3,H⟩:=bnd H
 refine z0j (z1f (y0h s1 0 4 r2 h3) rfl ⟨.inl rfl,.inl rfl,trivial⟩ rfl) rfl ?_
 refine qd rfl ?_
 refine z0v ?_
 refine y2i 3 1 9 1 rfl rfl rfl ?_
 obtain ⟨h9,H⟩:=gif H
 refine y65 (fun (k7:Nat) (s:(List Int)×Int×(List Bs))=>[(0,.ptr 0 0),(3,.row 1 s.2.2.length),(5,.dat (vint r2.1)),(6,.dat (vint (k7:Int)))]) (fun (k7:Nat) (s:(List Int)×Int×(List Bs))=>[(0,.box (some (A.bl 0)) 25 [.dat (vlst (List.map y2j s.1)),.dat (vint s.2.1)]),(1,.row 9 1 (List.map z0n s.2.2))]) (r2.2.L,r2.2.at_,[]) H ⟨rfl,rfl,rfl,rfl,trivial⟩ ⟨rfl,rfl,trivial⟩ (fun _ _=>rfl) ?_ ?_
 ·rintro ⟨c4,c5,l6⟩ H
  replace H:z41 c4 c5 l6=some r:=H
  unfold z41 at H
  refine z0c ?_
  refine z0b hN rfl ?_
  refine z0a (z04 rfl rfl) ?_
  refine z0c ?_
  refine z0g _ rfl (fun h=>(w1y h).elim) (fun h => ?_)
  refine z1u ?_
  refine z0c ?_
  refine z0b hN rfl ?_
  refine z0a (z0h (.row _ _) rfl) ?_
  refine z0a (z13 (.row _ _) rfl) ?_
  refine z0m ?_
  cases H
  exact ⟨trivial,[(2,.row 1 _)],⟨rfl,trivial⟩,⟨rfl,rfl,trivial⟩,rfl,.inr (.inl ⟨2,rfl,rfl⟩)⟩
 ·rintro k7 ⟨c4,c5,l6⟩ q8 h10 H hq8
  replace H:z3q k7 c4 c5 l6=some q8:=H
  unfold z3q at H
  refine z0c ?_
  refine z0b hN rfl ?_
  refine z0a (z04 rfl rfl) ?_
  refine z0c ?_
  refine z0g _ rfl (fun h => ?_) (fun h=>(w1z h10 h).elim)
  refine z0l ?_
  refine z0c ?_
  refine z0v ?_
  refine z0b hN rfl ?_
  refine z0a (z0h (.row _ _) rfl) ?_
  refine z0a (z0h (.ptr _ _) rfl) ?_
  refine z0a (z1a (u':=vlst (List.map z0n [[97],[97,58,42],[97,58,98],[97,58,98,58,42],[97,58,98,58,99],[98],[98,58,42],[98,58,99],[42]])) (z14 [[_],[_],[_],[_],[_],[_],[_],[_],[_]] z86 ⟨rfl,.inl ⟨_,rfl,rfl,rfl⟩,rfl,rfl,.inl ⟨_,rfl,rfl,rfl⟩,rfl,rfl,.inl ⟨_,rfl,rfl,rfl⟩,rfl,rfl,.inl ⟨_,rfl,rfl,rfl⟩,rfl,rfl,.inl ⟨_,rfl,rfl,rfl⟩,rfl,rfl,.inl ⟨_,rfl,rfl,rfl⟩,rfl,rfl,.inl ⟨_,rfl,rfl,rfl⟩,rfl,rfl,.inl ⟨_,rfl,rfl,rfl⟩,rfl,rfl,.inl ⟨_,rfl,rfl,rfl⟩,rfl,trivial⟩ rfl rfl) rfl) ?_
  obtain ⟨r11,h12,H⟩:=bnd H
  refine z0j (z1f (z1d (z0d.mk c4 c5) ([[97],[97,58,42],[97,58,98],[97,58,98,58,42],[97,58,98,58,99],[98],[98,58,42],[98,58,99],[42]]) r11 h12) rfl ⟨.inl rfl,trivial⟩ rfl) rfl ?_
  refine z0a (z1a (u':=vlst (List.map z0n [r11.1])) (z14 [[_]] z86 ⟨rfl,.inl ⟨_,rfl,rfl,rfl⟩,rfl,trivial⟩ rfl rfl) rfl) ?_
  obtain ⟨h13,H⟩:=gif H
  refine z0j (y75 z86 (fun _=>rfl) rfl rfl rfl ⟨by simp,by first | (simp; done) | simpa using h13⟩ rfl) rfl ?_
  refine z0a (z13 (.row _ _) rfl) ?_
  refine z0b hN rfl ?_
  refine z0a (z3r rfl rfl (by omega)) ?_
  refine qd rfl ?_
  exact ⟨_,z84 H,⟨rfl,rfl,rfl,rfl,trivial⟩,⟨rfl,rfl,trivial⟩⟩
theorem y7f (s1:z0d) (r:((List Bs)×z0d)) (H:z7v s1=some r):Imp Tryz.prog 67 25 (z0t s1) [] (z1r [vlst (List.map z0n r.1)]) (z0t r.2):=by
 refine y3m (us:=[vlst (List.map z0n r.1)]) (cs':=(z0t r.2)) (by kernel_rfl) Tryz.func67 rfl rfl rfl rfl fun X bl hN => ?_
 unfold z7v at H
 refine z0c ?_
 refine z0b hN rfl ?_
 refine qe rfl ?_
 refine z0c ?_
 refine z0b hN rfl ?_
 refine z0a (z0h (.ptr _ _) rfl) ?_
 obtain ⟨r2,h3,H⟩:=bnd H
 refine y31 (rn [(0,0),(1,1)]) [(0,_,_,some _)] [(1,_)] (y5j s1 r2 h3) ⟨rfl,rfl,trivial⟩ ⟨.inl (.inl rfl),trivial⟩ ⟨⟨⟨rfl,rfl⟩,trivial⟩,trivial⟩ rfl ?_
 refine z0a (z13 (.row _ _) rfl) ?_
 refine z03 (ι:=(List Bs)×(List Int)×Int) (fun i=>[(0,.ptr 0 0),(3,.row 1 i.1.length)]) (fun i=>[(0,.box (some bl) 25 [.dat (vlst (List.map y2j i.2.1)),.dat (vint i.2.2)]),(1,.row 9 1 (List.map z0n i.1))]) (fun i=>z39 i.1 i.2.1 i.2.2=some r) (fun i=>rfl) ?_ ?_
 ·skip
  refine z0c ?_
  refine z0b hN rfl ?_
  refine z0a (z0h (.ptr _ _) rfl) ?_
  obtain ⟨r4,h5,H⟩:=bnd H
  refine z0j (z1f (z1z r2.2 6 r4 h5) rfl ⟨.inl rfl,trivial⟩ rfl) rfl ?_
  refine z0g _ rfl (fun h6 => ?_) (fun h6 => ?_)
  ·replace H:=ift h6 H
   refine z0b hN rfl ?_
   refine z0a (z0h (.row _ _) rfl) ?_
   refine z0a (z0h (.ptr _ _) rfl) ?_
   obtain ⟨r7,h8,H⟩:=bnd H
   refine z0j (z1f (y7u r4.2 r7 h8) rfl trivial rfl) rfl ?_
   refine z0a (z1a (u':=vlst (List.map z0n [r7.1])) (z14 [[_]] z86 ⟨rfl,.inl ⟨_,rfl,rfl,rfl⟩,rfl,trivial⟩ rfl rfl) rfl) ?_
   obtain ⟨h9,H⟩:=gif H
   refine z0j (y75 z86 (fun _=>rfl) rfl rfl rfl ⟨by simp,by first | (simp; done) | simpa using h9⟩ rfl) rfl ?_
   refine z0a (z13 (.row _ _) rfl) ?_
   exact ⟨((r2.1++[r7.1]),r7.2.L,r7.2.at_),H,⟨rfl,rfl,trivial⟩,⟨rfl,rfl,trivial⟩⟩
  ·replace H:=iff_ h6 H
   refine z0l ?_
   exact ⟨(r2.1,r4.2.L,r4.2.at_),H,⟨rfl,rfl,trivial⟩,⟨rfl,rfl,trivial⟩⟩
 ·rintro ⟨out10,c11,c12⟩ H
  replace H:z39 out10 c11 c12=some r:=H
  unfold z39 at H
  refine w3k (ι:=(List Bs)×(List Int)×Int) (fun i=>[(3,.dat (vlst (List.map z0n i.1)))]) (fun i=>[(0,.box (some bl) 25 [.dat (vlst (List.map y2j i.2.1)),.dat (vint i.2.2)])]) (fun i=>z52 i.1 i.2.1 i.2.2=some r) (fun i=>rfl) (fun i=>rfl) ?_ ?_
  ·skip
   refine z0c ?_
   refine z0b hN rfl ?_
   refine z0a (z0h (.ptr _ _) rfl) ?_
   obtain ⟨r13,h14,H⟩:=bnd H
   refine z0j (z1f (z1z (z0d.mk c11 c12) 60 r13 h14) rfl ⟨.inl rfl,trivial⟩ rfl) rfl ?_
   refine z0g _ rfl (fun h15 => ?_) (fun h15 => ?_)
   ·replace H:=ift h15 H
    refine z0b hN rfl ?_
    obtain ⟨h16,H⟩:=gif H
    refine z0j (w8v (C:=z0n) 2 [] z86 tyZ9 rfl rfl rfl rfl h16 rfl) rfl ?_
    refine z0a (z13 (.row _ _) rfl) ?_
    exact ⟨[(3,2)],_,_,_,_,rfl,rfl,by simp,⟨((List.replicate 51 []),r13.2.L,r13.2.at_),H,⟨.inl rfl,trivial⟩,⟨rfl,trivial⟩⟩⟩
   ·replace H:=iff_ h15 H
    refine z0l ?_
    exact ⟨[(3,1)],_,_,_,_,rfl,rfl,by simp,⟨(out10,r13.2.L,r13.2.at_),H,⟨.inl rfl,trivial⟩,⟨rfl,trivial⟩⟩⟩
  ·rintro ⟨out17,c18,c19⟩ H
   replace H:z52 out17 c18 c19=some r:=H
   unfold z52 at H
   refine z0c ?_
   refine z0b hN rfl ?_
   refine qd rfl ?_
   refine qe rfl ?_
   refine z0m ?_
   cases H
   exact ⟨trivial,⟨.inl rfl,trivial⟩,rfl⟩
theorem z9d (l r:List Bs) (H:z3a l=some r):FnG Tryz.prog 100 [.row 0 l.length] [(0,.rowA undef 9 1 (List.map z0n l))] (.dat (z1r [])) [(0,.rowA undef 9 1 (List.map z0n r))]:=by
 obtain ⟨hl,hr⟩:=x3w H
 refine w5o (fun s:Bs=>Value.string ⟨s.toArray⟩) r l (y4j H) (by kernel_rfl) (fun _=>rfl) (fun blk cap w hH hb => ?_) (fun h w => ?_)
 ·rw [hr]; exact Tryz.slices_Sort_string blk 0 cap l w hH hb (by omega)
 ·exact Tryz.slices_Sort_string_none none 0 w
theorem y5d (l:List Bs) (sep r:Bs) (H:z5z l sep=some r):Fn Tryz.prog 115 [vlst (List.map z0n l),vstr sep] (z1r [vstr r]):=by
 obtain ⟨h1,h2,rfl⟩:=w2g H
 refine y2m (by kernel_rfl) fun M w vs hM h => ?_
 obtain ⟨hl,hv⟩:=h
 obtain ⟨a,ha,hap⟩:=hv 0 _ rfl
 obtain ⟨s,hs,hsp⟩:=hv 1 _ rfl
 have hsp:s = .string ⟨sep.toArray⟩:=hsp
 subst hsp
 have hvs:vs.toArray = #[a,.string ⟨sep.toArray⟩]:=by
  rcases vs with _ | ⟨x,_ | ⟨y,_ | ⟨z,t⟩⟩⟩
  ·cases ha
  ·cases hs
  ·cases ha; cases hs; rfl
  ·simp at hl
 rw [hvs]
 obtain ⟨A,c,q1,q2,q3⟩:=hap
 simp only [List.length_map] at q1 q2
 subst q1
 by_cases hne:l=[]
 ·subst hne
  refine (Tryz.strings_Join_none A c ⟨sep.toArray⟩ w).mono ?_
  rintro e w' ⟨rfl,rfl⟩
  exact ⟨_,rfl,rfl,Kp.refl _ _⟩
 ·obtain ⟨b,off,size,rfl,hMb,arr,t,fz,q5,q6,q7⟩:=q3 (by simpa using hne)
  have hsz:size=1:=by
   cases hq:l with
   | nil=>exact absurd hq hne
   | cons x l'=>have:=q6 (z0n x) (by rw [hq]; simp); simpa using this.symm
  subst hsz
  have e1:((l.map fun x=>ByteArray.mk x.toArray).map (·.data.toList))=l:=by
   rw [List.map_map]
   exact (List.map_congr_left fun x _=>rfl).trans (List.map_id l)
  have hj:=Tryz.strings_Join b off c (l.map fun x=>ByteArray.mk x.toArray) ⟨sep.toArray⟩ w (fun j x hx=>by
   rw [List.getElem?_map] at hx
   cases hq:l[j]? with
   | none=>rw [hq] at hx; cases hx
   | some y =>
    rw [hq] at hx
    cases hx
    obtain ⟨v,r1,r2,_⟩:=q7 j 0 (z0n y) (vstr y) (by rw [List.getElem?_map,hq]; rfl) rfl
    have r2:v = .string ⟨y.toArray⟩:=r2
    rw [cell_of_row w b _ _ _ _ q5]
    simp only [Nat.mul_one,Nat.add_zero] at r1
    rw [r1,r2]) (y1w q5) (by simp; omega) (by simpa using q2) (by rw [e1]; simp only; omega)
  rw [List.length_map,e1] at hj
  refine hj.mono ?_
  rintro e w' ⟨rfl,hb⟩
  exact ⟨_,rfl,rfl,Kp.of_below hb⟩
theorem x0n (l1:(List Bs)) (r:(Int)) (H:y3r l1=some r):Fn Tryz.prog 117 [vlst (List.map z0n l1)] (z1r [vval (.int .u64 r)]):=by
 refine ⟨by kernel_rfl,z1e (us:=[vval (.int .u64 r)]) Tryz.func117 rfl rfl rfl rfl fun X hN => ?_⟩
 unfold y3r at H
 refine z0c ?_
 refine z0b hN rfl ?_
 refine qe rfl ?_
 refine z0c ?_
 refine z0b hN rfl ?_
 refine qe rfl ?_
 refine z0c ?_
 refine z0b hN rfl ?_
 refine qd rfl ?_
 obtain ⟨r2,h3,H⟩:=bnd H
 refine z0a (z0q (y5d l1 [0] r2 h3) ⟨.inl rfl,.inl rfl,trivial⟩) ?_
 refine qe rfl ?_
 refine z0c ?_
 refine z0c ?_
 refine z0b hN rfl ?_
 refine qd rfl ?_
 refine z0a (z1m tyU9 rfl) ?_
 refine qd rfl ?_
 refine z0v ?_
 obtain ⟨h7,H⟩:=gif H
 refine z3u (fun (k5:Nat) (s:Int)=>[(3,.dat (vval (.int .u64 s))),(4,.dat (vstr r2)),(9,.dat (vint (r2.length:Int))),(10,.dat (vint (k5:Int)))]) (fun (k5:Nat) (s:Int)=>[]) 14695981039346656037 H ⟨rfl,rfl,rfl,rfl,trivial⟩ trivial (fun _ _=>rfl) ?_ ?_
 ·rintro h4 H
  replace H:y29 h4=some r:=H
  unfold y29 at H
  refine z0c ?_
  refine z0b hN rfl ?_
  refine z0a (z04 rfl rfl) ?_
  refine z0c ?_
  refine z0g _ rfl (fun h=>(lt_t h).elim) (fun h => ?_)
  refine z1u ?_
  refine z0c ?_
  refine z0b hN rfl ?_
  refine qd rfl ?_
  refine qe rfl ?_
  refine z0m ?_
  cases H
  exact ⟨trivial,.inl rfl,trivial⟩
 ·rintro k5 x8 h4 q6 h9 h10 H hq6
  replace H:y28 k5 x8 h4=some q6:=H
  unfold y28 at H
  refine z0c ?_
  refine z0b hN rfl ?_
  refine z0a (z04 rfl rfl) ?_
  refine z0c ?_
  refine z0g _ rfl (fun h => ?_) (fun h=>(lt_f h9 h).elim)
  refine z0l ?_
  refine z0c ?_
  refine z0v ?_
  refine z0c ?_
  refine z0b hN rfl ?_
  refine qd rfl ?_
  refine qe rfl ?_
  refine z0b hN rfl ?_
  refine qd rfl ?_
  refine qd rfl ?_
  refine qd rfl ?_
  refine z0a (y00 tyU9 rfl rfl h10) ?_
  refine z0a (z7f tyU5 y7x rfl) ?_
  refine z0a (z1a (x4w rfl rfl) rfl) ?_
  refine z0a (z1c _ rfl rfl (.inr (.inr ⟨rfl,rfl⟩))) ?_
  refine qe rfl ?_
  refine z0b hN rfl ?_
  refine z0a (z3r rfl rfl (by omega)) ?_
  refine qd rfl ?_
  exact ⟨_,z84 H,⟨rfl,rfl,rfl,rfl,trivial⟩,trivial⟩
theorem y4h (i1:Int) (r:(Bs)) (H:z90 i1=some r):Fn Tryz.prog 238 [vint i1] (z1r [vstr r]):=by
 refine ⟨by kernel_rfl,z1e (us:=[vstr r]) Tryz.func238 rfl rfl rfl rfl fun X hN => ?_⟩
 unfold z90 at H
 refine z0c ?_
 refine z0b hN rfl ?_
 refine qe rfl ?_
 refine z0c ?_
 refine z0c ?_
 refine z0b hN rfl ?_
 refine qd rfl ?_
 refine z0a (z04 rfl rfl) ?_
 refine z0g _ rfl (fun h2 => ?_) (fun h2 => ?_)
 ·replace H:=ift h2 H
  refine z0c ?_
  refine z0b hN rfl ?_
  refine qd rfl ?_
  refine qd rfl ?_
  refine z0a (z1c _ rfl rfl (.inl ⟨rfl,rfl⟩)) ?_
  obtain ⟨l3,h4,H⟩:=bnd H
  refine z0a (y14 tyU9 rfl rfl rfl h4) ?_
  refine qe rfl ?_
  refine z0m ?_
  cases H
  exact ⟨trivial,.inl rfl,trivial⟩
 ·replace H:=iff_ h2 H
  refine z0l ?_
  refine z0c ?_
  refine z0b hN rfl ?_
  refine qd rfl ?_
  refine z0a (z1c _ rfl rfl (.inr (.inr ⟨rfl,rfl⟩))) ?_
  refine qd rfl ?_
  refine z0a (z1c _ rfl rfl (.inr (.inr ⟨rfl,rfl⟩))) ?_
  refine z0a (z1c _ rfl rfl (.inl ⟨rfl,rfl⟩)) ?_
  obtain ⟨l5,h6,H⟩:=bnd H
  refine z0a (y14 tyU9 rfl rfl rfl h6) ?_
  refine qe rfl ?_
  refine z0m ?_
  cases H
  exact ⟨trivial,.inl rfl,trivial⟩
theorem y47 (x1:Int) (r:(Bool)) (H:z4p x1=some r):Fn Tryz.prog 288 [vint x1] (z1r [z05 r]):=by
 refine ⟨by kernel_rfl,z1e (us:=[z05 r]) Tryz.func288 rfl rfl rfl rfl fun X hN => ?_⟩
 unfold z4p at H
 refine z0c ?_
 refine z0b hN rfl ?_
 refine qe rfl ?_
 refine z0c ?_
 refine z0b hN rfl ?_
 refine qd rfl ?_
 refine qd rfl ?_
 refine z0a (z1c _ rfl rfl (.inr (.inl ⟨rfl,rfl⟩))) ?_
 refine z0a (z1a (x7l rfl rfl) rfl) ?_
 refine z0a (z2z rfl rfl) ?_
 refine qe rfl ?_
 refine z0m ?_
 cases H
 exact ⟨trivial,.inl rfl,trivial⟩
theorem y8v (x r:Int) (H:z8m x=some r):Fn Tryz.prog 289 [vval (.int .u64 x)] (z1r [vint r]):=by
 obtain ⟨h0,h1,rfl⟩:=w6k H
 obtain ⟨n,rfl⟩:=Int.eq_ofNat_of_zero_le h0
 refine y2m (by kernel_rfl) fun M w vs hM h => ?_
 have hv:=y49 (us:=[.int .u64 (n:Int)]) h
 subst hv
 refine (Any7.bits_TrailingZeros Tryz.tz289 n (by omega) w (fun _=>w4c hM)).mono ?_
 rintro e w' ⟨rfl,rfl⟩
 exact ⟨_,rfl,rfl,Kp.refl _ _⟩
theorem y2y (v1:(List Int)) (v2:Int) (v3:Int) (v4:Bool) (v5:Bool) (r:((List Int)×Bs)) (H:z30 v1 v2 v3 v4 v5=some r):Fn Tryz.prog 241 [vlst (List.map z5m v1),vval (.int .u64 v2),vint v3,z05 v4,z05 v5] (z1r [vlst (List.map z5m r.1),vstr r.2]):=by
 refine ⟨by kernel_rfl,z1e (us:=[vlst (List.map z5m r.1),vstr r.2]) Tryz.func241 rfl rfl rfl rfl fun X hN => ?_⟩
 unfold z30 at H
 refine z0c ?_
 refine z0b hN rfl ?_
 refine qe rfl ?_
 refine qe rfl ?_
 refine z0c ?_
 refine z0c ?_
 refine z0b hN rfl ?_
 refine qd rfl ?_
 refine z0a (z04 rfl rfl) ?_
 refine qd rfl ?_
 refine z2b rfl rfl (fun hc=>z0h (.dat _) rfl) ?_
 refine z2b rfl rfl (fun hc=>z2z (cnd (c:=(!(decide (v3 < 2)))) hc) rfl) ?_
 refine z0a (z2h rfl rfl (fun hb=>(cnd (c:=(!(decide (v3 < 2)))) (notI hb)))) ?_
 refine qd rfl ?_
 refine z2b rfl rfl (fun hc=>z0h (.dat _) rfl) ?_
 refine z2b rfl rfl (fun hc=>z2m (cnd (c:=(!((decide (v3 < 2)) || (decide (v3=10))))) hc) rfl) ?_
 refine z0a (z2h rfl rfl (fun hb=>(cnd (c:=(!((decide (v3 < 2)) || (decide (v3=10))))) (notI hb)))) ?_
 refine z0g _ rfl (fun h6 => ?_) (fun h6 => ?_)
 ·replace H:=ift h6 H
  cases H
 ·replace H:=iff_ h6 H
  refine z0l ?_
  refine z0c ?_
  refine z0b hN rfl ?_
  refine z0j (w4e 1 65 (show tyZ Tryz.prog 255=some (List.replicate 65 (.int .u8 0)) from by kernel_rfl)) rfl ?_
  refine z0c ?_
  refine z0b hN rfl ?_
  refine qe rfl ?_
  refine z03 (ι:=Unit) (fun i=>[(0,.dat (vlst (List.map z5m v1))),(1,.dat (vval (.int .u64 v2))),(2,.dat (vint v3)),(3,.dat (z05 v4)),(4,.dat (z05 v5)),(10,.dat (vnil)),(11,.dat (vstr [])),(12,.ptr 1 0),(13,.dat (vint 65))]) (fun i=>[(1,.box none 255 (List.map Slot.dat (bxU (List.replicate 65 0))))]) (fun i=>z3l v2 v3 v4 v5=some r) (fun i=>y89 rfl (y7n x2j y9a)) ?_ ?_
  ·skip
   refine z0c ?_
   refine z0b hN rfl ?_
   refine qd rfl ?_
   refine z0g _ rfl (fun h7 => ?_) (fun h7 => ?_)
   ·replace H:=ift h7 H
    cases H
   ·replace H:=iff_ h7 H
    refine z0l ?_
    exact ⟨(),H,⟨rfl,rfl,rfl,rfl,rfl,rfl,rfl,rfl,rfl,trivial⟩,⟨rfl,trivial⟩⟩
  ·rintro ⟨⟩ H
   replace H:z3l v2 v3 v4 v5=some r:=H
   unfold z3l at H
   refine z03 (ι:=Int×(List Int)) (fun i=>[(0,.dat (vlst (List.map z5m v1))),(3,.dat (z05 v4)),(4,.dat (z05 v5)),(10,.dat (vnil)),(11,.dat (vstr [])),(12,.ptr 1 0),(13,.dat (vint i.1))]) (fun i=>[(1,.box none 255 (List.map Slot.dat (bxU i.2)))]) (fun i=>z3k v4 v5 i.1 i.2=some r) (fun i=>y89 rfl (y7n x2j y9a)) ?_ ?_
   ·skip
    refine z0c ?_
    refine z0b hN rfl ?_
    refine qd rfl ?_
    obtain ⟨r8,h9,H⟩:=bnd H
    refine z0a (z0q (y47 v3 r8 h9) ⟨.inl rfl,trivial⟩) ?_
    refine z0g _ rfl (fun h10 => ?_) (fun h10 => ?_)
    ·replace H:=ift h10 H
     refine z0c ?_
     refine z0b hN rfl ?_
     refine qd rfl ?_
     refine z0a (z7f tyU3 x5x rfl) ?_
     obtain ⟨r11,h12,H⟩:=bnd H
     refine z0a (z0q (y8v (IntKind.wrap .u64 v3) r11 h12) ⟨.inl rfl,trivial⟩) ?_
     refine z0a (z7f tyU3 x5x rfl) ?_
     refine qe rfl ?_
     refine z0c ?_
     refine z0b hN rfl ?_
     refine qd rfl ?_
     refine z0a (z7f tyU3 y7x rfl) ?_
     refine qe rfl ?_
     refine z0c ?_
     refine z0b hN rfl ?_
     refine qd rfl ?_
     refine z0a (z7f tyU3 x5x rfl) ?_
     refine z0a (z1c _ rfl rfl (.inr (.inl ⟨rfl,rfl⟩))) ?_
     refine qe rfl ?_
     refine z03 (ι:=Int×Int×(List Int)) (fun i=>[(0,.dat (vlst (List.map z5m v1))),(1,.dat (vval (.int .u64 i.1))),(3,.dat (z05 v4)),(4,.dat (z05 v5)),(10,.dat (vnil)),(11,.dat (vstr [])),(12,.ptr 1 0),(13,.dat (vint i.2.1))]) (fun i=>[(1,.box none 255 (List.map Slot.dat (bxU i.2.2)))]) (fun i=>z3j v4 v5 i.1 i.2.1 i.2.2=some r) (fun i=>y89 rfl (y7n x2j y9a)) ?_ ?_
     ·skip
      refine z0v ?_
      refine y55 (fun (s:Int×Int×(List Int))=>[(0,.dat (vlst (List.map z5m v1))),(1,.dat (vval (.int .u64 s.1))),(3,.dat (z05 v4)),(4,.dat (z05 v5)),(10,.dat (vnil)),(11,.dat (vstr [])),(12,.ptr 1 0),(13,.dat (vint s.2.1)),(14,.dat (vval (.int .u64 (IntKind.wrap .u64 r11)))),(15,.dat (vval (.int .u64 (IntKind.wrap .u64 v3)))),(16,.dat (vval (.int .u64 (IntKind.wrap .u64 ((IntKind.wrap .u64 v3) - 1)))))]) (fun (s:Int×Int×(List Int))=>[(1,.box none 255 (List.map Slot.dat (bxU s.2.2)))]) (v2,65,(List.replicate 65 0)) H ⟨rfl,rfl,rfl,rfl,rfl,rfl,rfl,rfl,rfl,rfl,rfl,trivial⟩ ⟨rfl,trivial⟩ (fun _=>y89 rfl (y7n x2j y9a)) ?_
      rintro ⟨v13,v14,l15⟩ q16 H hq16
      replace H:z2t v3 v4 v5 r11 v13 v14 l15=some q16:=H
      unfold z2t at H
      refine z0c ?_
      refine z0c ?_
      refine z0b hN rfl ?_
      refine qd rfl ?_
      refine qd rfl ?_
      refine z0a (z87 rfl rfl) ?_
      refine z0g _ rfl (fun h17 => ?_) (fun h17 => ?_)
      ·replace H:=ift h17 H
       refine z0l ?_
       refine z0v ?_
       refine z0c ?_
       refine z0b hN rfl ?_
       refine qd rfl ?_
       refine z0a (z1c _ rfl rfl (.inr (.inl ⟨rfl,rfl⟩))) ?_
       refine qe rfl ?_
       refine z0c ?_
       refine z0b hN rfl ?_
       refine qd rfl ?_
       refine qd rfl ?_
       refine qd rfl ?_
       refine z0a (z1a (x7l rfl rfl) rfl) ?_
       obtain ⟨x18,h19,H⟩:=bnd H
       refine z0a (x4t tyU9 rfl rfl h19) ?_
       obtain ⟨h20,H⟩:=gif H
       refine z0a (x51 (show tyA Tryz.prog 255=some (65,5,.int .u8) from by kernel_rfl) rfl rfl h20) ?_
       obtain ⟨h21,H⟩:=gif H
       refine z0j (y9r (l:=l15) tyS5 rfl rfl h21) rfl ?_
       refine z0b hN rfl ?_
       refine qd rfl ?_
       refine qd rfl ?_
       obtain ⟨h22,H⟩:=gif H
       refine z0a (z1a (x1z rfl rfl h22) rfl) ?_
       refine qe rfl ?_
       exact ⟨_,z84 H,⟨rfl,rfl,rfl,rfl,rfl,rfl,rfl,rfl,rfl,rfl,rfl,trivial⟩,⟨rfl,trivial⟩⟩
      ·replace H:=iff_ h17 H
       refine z1u ?_
       replace H:=outl H hq16
       exact ⟨(v13,v14,l15),H,⟨rfl,rfl,rfl,rfl,rfl,rfl,rfl,rfl,trivial⟩,⟨rfl,trivial⟩⟩
     ·rintro ⟨v23,v24,l25⟩ H
      replace H:z3j v4 v5 v23 v24 l25=some r:=H
      unfold z3j at H
      refine z0c ?_
      refine z0b hN rfl ?_
      refine qd rfl ?_
      refine z0a (z1c _ rfl rfl (.inr (.inl ⟨rfl,rfl⟩))) ?_
      refine qe rfl ?_
      refine z0b hN rfl ?_
      refine qd rfl ?_
      refine qd rfl ?_
      obtain ⟨x26,h27,H⟩:=bnd H
      refine z0a (x4t tyU9 rfl rfl h27) ?_
      obtain ⟨h28,H⟩:=gif H
      refine z0a (x51 (show tyA Tryz.prog 255=some (65,5,.int .u8) from by kernel_rfl) rfl rfl h28) ?_
      obtain ⟨h29,H⟩:=gif H
      refine z0j (y9r (l:=l25) tyS5 rfl rfl h29) rfl ?_
      exact ⟨(wr (v24 - 1),(l25.set (wr (v24 - 1)).toNat (x26.toNat:Int))),H,⟨rfl,rfl,rfl,rfl,rfl,rfl,rfl,trivial⟩,⟨rfl,trivial⟩⟩
    ·replace H:=iff_ h10 H
     refine z0c ?_
     refine z0b hN rfl ?_
     refine qd rfl ?_
     refine z0a (z7f tyU3 y7x rfl) ?_
     refine qe rfl ?_
     refine z03 (ι:=Int×Int×(List Int)) (fun i=>[(0,.dat (vlst (List.map z5m v1))),(1,.dat (vval (.int .u64 i.1))),(3,.dat (z05 v4)),(4,.dat (z05 v5)),(10,.dat (vnil)),(11,.dat (vstr [])),(12,.ptr 1 0),(13,.dat (vint i.2.1))]) (fun i=>[(1,.box none 255 (List.map Slot.dat (bxU i.2.2)))]) (fun i=>z63 v4 v5 i.1 i.2.1 i.2.2=some r) (fun i=>y89 rfl (y7n x2j y9a)) ?_ ?_
     ·skip
      refine z0v ?_
      refine y55 (fun (s:Int×Int×(List Int))=>[(0,.dat (vlst (List.map z5m v1))),(1,.dat (vval (.int .u64 s.1))),(3,.dat (z05 v4)),(4,.dat (z05 v5)),(10,.dat (vnil)),(11,.dat (vstr [])),(12,.ptr 1 0),(13,.dat (vint s.2.1)),(17,.dat (vval (.int .u64 (IntKind.wrap .u64 v3))))]) (fun (s:Int×Int×(List Int))=>[(1,.box none 255 (List.map Slot.dat (bxU s.2.2)))]) (v2,65,(List.replicate 65 0)) H ⟨rfl,rfl,rfl,rfl,rfl,rfl,rfl,rfl,rfl,trivial⟩ ⟨rfl,trivial⟩ (fun _=>y89 rfl (y7n x2j y9a)) ?_
      rintro ⟨v30,v31,l32⟩ q33 H hq33
      replace H:z9x v3 v4 v5 v30 v31 l32=some q33:=H
      unfold z9x at H
      refine z0c ?_
      refine z0c ?_
      refine z0b hN rfl ?_
      refine qd rfl ?_
      refine qd rfl ?_
      refine z0a (z87 rfl rfl) ?_
      refine z0g _ rfl (fun h34 => ?_) (fun h34 => ?_)
      ·replace H:=ift h34 H
       refine z0l ?_
       refine z0v ?_
       refine z0c ?_
       refine z0b hN rfl ?_
       refine qd rfl ?_
       refine z0a (z1c _ rfl rfl (.inr (.inl ⟨rfl,rfl⟩))) ?_
       refine qe rfl ?_
       refine z0c ?_
       refine z0b hN rfl ?_
       refine qd rfl ?_
       refine qd rfl ?_
       obtain ⟨h35,H⟩:=gif H
       refine z0a (x8l rfl rfl h35) ?_
       refine qe rfl ?_
       refine z0c ?_
       refine z0b hN rfl ?_
       refine qd rfl ?_
       refine qd rfl ?_
       refine qd rfl ?_
       refine qd rfl ?_
       refine z0a (z1c _ rfl rfl (.inr (.inr ⟨rfl,rfl⟩))) ?_
       refine z0a (z1c _ rfl rfl (.inr (.inl ⟨rfl,rfl⟩))) ?_
       obtain ⟨x36,h37,H⟩:=bnd H
       refine z0a (x4t tyU9 rfl rfl h37) ?_
       obtain ⟨h38,H⟩:=gif H
       refine z0a (x51 (show tyA Tryz.prog 255=some (65,5,.int .u8) from by kernel_rfl) rfl rfl h38) ?_
       obtain ⟨h39,H⟩:=gif H
       refine z0j (y9r (l:=l32) tyS5 rfl rfl h39) rfl ?_
       refine z0b hN rfl ?_
       refine qd rfl ?_
       refine qe rfl ?_
       exact ⟨_,z84 H,⟨rfl,rfl,rfl,rfl,rfl,rfl,rfl,rfl,rfl,trivial⟩,⟨rfl,trivial⟩⟩
      ·replace H:=iff_ h34 H
       refine z1u ?_
       replace H:=outl H hq33
       exact ⟨(v30,v31,l32),H,⟨rfl,rfl,rfl,rfl,rfl,rfl,rfl,rfl,trivial⟩,⟨rfl,trivial⟩⟩
     ·rintro ⟨v40,v41,l42⟩ H
      replace H:z63 v4 v5 v40 v41 l42=some r:=H
      unfold z63 at H
      refine z0c ?_
      refine z0b hN rfl ?_
      refine qd rfl ?_
      refine z0a (z1c _ rfl rfl (.inr (.inl ⟨rfl,rfl⟩))) ?_
      refine qe rfl ?_
      refine z0b hN rfl ?_
      refine qd rfl ?_
      refine qd rfl ?_
      obtain ⟨x43,h44,H⟩:=bnd H
      refine z0a (x4t tyU9 rfl rfl h44) ?_
      obtain ⟨h45,H⟩:=gif H
      refine z0a (x51 (show tyA Tryz.prog 255=some (65,5,.int .u8) from by kernel_rfl) rfl rfl h45) ?_
      obtain ⟨h46,H⟩:=gif H
      refine z0j (y9r (l:=l42) tyS5 rfl rfl h46) rfl ?_
      exact ⟨(wr (v41 - 1),(l42.set (wr (v41 - 1)).toNat (x43.toNat:Int))),H,⟨rfl,rfl,rfl,rfl,rfl,rfl,rfl,trivial⟩,⟨rfl,trivial⟩⟩
   ·rintro ⟨v47,l48⟩ H
    replace H:z3k v4 v5 v47 l48=some r:=H
    unfold z3k at H
    refine z03 (ι:=Int×(List Int)) (fun i=>[(0,.dat (vlst (List.map z5m v1))),(4,.dat (z05 v5)),(10,.dat (vnil)),(11,.dat (vstr [])),(12,.ptr 1 0),(13,.dat (vint i.1))]) (fun i=>[(1,.box none 255 (List.map Slot.dat (bxU i.2)))]) (fun i=>z3i v5 i.1 i.2=some r) (fun i=>y89 rfl (y7n x2j y9a)) ?_ ?_
    ·skip
     refine z0c ?_
     refine z0b hN rfl ?_
     refine qd rfl ?_
     refine z0g _ rfl (fun h49 => ?_) (fun h49 => ?_)
     ·replace H:=ift h49 H
      refine z0c ?_
      refine z0b hN rfl ?_
      refine qd rfl ?_
      refine z0a (z1c _ rfl rfl (.inr (.inl ⟨rfl,rfl⟩))) ?_
      refine qe rfl ?_
      refine z0b hN rfl ?_
      refine qd rfl ?_
      obtain ⟨h50,H⟩:=gif H
      refine z0a (x51 (show tyA Tryz.prog 255=some (65,5,.int .u8) from by kernel_rfl) rfl rfl h50) ?_
      obtain ⟨h51,H⟩:=gif H
      refine z0j (y9r (l:=l48) tyS5 rfl rfl h51) rfl ?_
      exact ⟨(wr (v47 - 1),(l48.set (wr (v47 - 1)).toNat 45)),H,⟨rfl,rfl,rfl,rfl,rfl,rfl,trivial⟩,⟨rfl,trivial⟩⟩
     ·replace H:=iff_ h49 H
      refine z0l ?_
      exact ⟨(v47,l48),H,⟨rfl,rfl,rfl,rfl,rfl,rfl,trivial⟩,⟨rfl,trivial⟩⟩
    ·rintro ⟨v52,l53⟩ H
     replace H:z3i v5 v52 l53=some r:=H
     unfold z3i at H
     refine z0c ?_
     refine z0c ?_
     refine z0b hN rfl ?_
     refine qd rfl ?_
     refine z0g _ rfl (fun h54 => ?_) (fun h54 => ?_)
     ·replace H:=ift h54 H
      cases H
     ·replace H:=iff_ h54 H
      refine z0l ?_
      refine z0c ?_
      refine y3w 1 (bxU l53) rfl rfl ?_
      refine z0b hN rfl ?_
      refine qd rfl ?_
      obtain ⟨h55,H⟩:=gif H
      obtain ⟨h56,H⟩:=gif H
      refine z0a (w4d (C:=z5m) (show tyA Tryz.prog 255=some (65,5,.int .u8) from by kernel_rfl) rfl h55 rfl h56 (fun _=>rfl)) ?_
      refine z0a (y67 (C:=z5m) y8x tyU5 tyU9 (fun _=>rfl) rfl) ?_
      refine qe rfl ?_
      refine z0m ?_
      cases H
      exact ⟨trivial,.inr ⟨rfl,rfl⟩,.inl rfl,trivial⟩
theorem y5r (i1:Int) (base2:Int) (r:(Bs)) (H:z7g i1 base2=some r):Fn Tryz.prog 249 [vval (.int .u64 i1),vint base2] (z1r [vstr r]):=by
 refine ⟨by kernel_rfl,z1e (us:=[vstr r]) Tryz.func249 rfl rfl rfl rfl fun X hN => ?_⟩
 unfold z7g at H
 refine z0c ?_
 refine z0b hN rfl ?_
 refine qe rfl ?_
 refine z0c ?_
 refine z0c ?_
 refine z0b hN rfl ?_
 refine qd rfl ?_
 refine z0a (z2z rfl rfl) ?_
 refine z0g _ rfl (fun h3 => ?_) (fun h3 => ?_)
 ·replace H:=ift h3 H
  refine z0c ?_
  refine z0c ?_
  refine z0b hN rfl ?_
  refine qd rfl ?_
  refine z0a (z04 rfl rfl) ?_
  refine z0g _ rfl (fun h4 => ?_) (fun h4 => ?_)
  ·replace H:=ift h4 H
   refine z0c ?_
   refine z0b hN rfl ?_
   refine qd rfl ?_
   refine z0a (z7f y7x tyU3 rfl) ?_
   obtain ⟨r5,h6,H⟩:=bnd H
   refine z0a (z0q (y4h (IntKind.wrap .i64 i1) r5 h6) ⟨.inl rfl,trivial⟩) ?_
   refine qe rfl ?_
   refine z0m ?_
   cases H
   exact ⟨trivial,.inl rfl,trivial⟩
  ·replace H:=iff_ h4 H
   cases H
 ·replace H:=iff_ h3 H
  refine z0l ?_
  refine z0c ?_
  refine z0b hN rfl ?_
  refine qd rfl ?_
  refine qd rfl ?_
  obtain ⟨r7,h8,H⟩:=bnd H
  refine z0a (z0q (y2y ([]:(List Int)) i1 base2 false false r7 h8) ⟨.inr ⟨rfl,rfl⟩,.inl rfl,.inl rfl,.inl rfl,.inl rfl,trivial⟩) ?_
  refine qd rfl ?_
  refine z0a (z10 rfl rfl) ?_
  refine z0a (z10 rfl rfl) ?_
  refine qe rfl ?_
  refine qe rfl ?_
  refine z0c ?_
  refine z0b hN rfl ?_
  refine qd rfl ?_
  refine qe rfl ?_
  refine z0m ?_
  cases H
  exact ⟨trivial,.inl rfl,trivial⟩
theorem y5y (i1:Int) (base2:Int) (r:(Bs)) (H:z8l i1 base2=some r):Fn Tryz.prog 174 [vval (.int .u64 i1),vint base2] (z1r [vstr r]):=by
 refine ⟨by kernel_rfl,z1e (us:=[vstr r]) Tryz.func174 rfl rfl rfl rfl fun X hN => ?_⟩
 unfold z8l at H
 refine z0c ?_
 refine z0b hN rfl ?_
 refine qe rfl ?_
 refine z0c ?_
 refine z0b hN rfl ?_
 refine qd rfl ?_
 refine qd rfl ?_
 obtain ⟨r3,h4,H⟩:=bnd H
 refine z0a (z0q (y5r i1 base2 r3 h4) ⟨.inl rfl,.inl rfl,trivial⟩) ?_
 refine qe rfl ?_
 refine z0m ?_
 cases H
 exact ⟨trivial,.inl rfl,trivial⟩
theorem x06 (h1:Int) (r:(Bs)) (H:y1d h1=some r):Fn Tryz.prog 118 [vval (.int .u64 h1)] (z1r [vstr r]):=by
 refine ⟨by kernel_rfl,z1e (us:=[vstr r]) Tryz.func118 rfl rfl rfl rfl fun X hN => ?_⟩
 unfold y1d at H
 refine z0c ?_
 refine z0b hN rfl ?_
 refine qe rfl ?_
 refine z0c ?_
 refine z0b hN rfl ?_
 refine qd rfl ?_
 obtain ⟨r2,h3,H⟩:=bnd H
 refine z0a (z0q (y5y h1 16 r2 h3) ⟨.inl rfl,.inl rfl,trivial⟩) ?_
 refine qe rfl ?_
 refine z0c ?_
 refine z0b hN rfl ?_
 refine qd rfl ?_
 refine z0a (z1m tyU9 rfl) ?_
 refine z0a (z1c _ rfl rfl (.inr (.inl ⟨rfl,rfl⟩))) ?_
 obtain ⟨r4,h5,H⟩:=bnd H
 refine z0a (z0q (y38 [48] (wr (16 - (r2.length:Int))) r4 h5) ⟨.inl rfl,.inl rfl,trivial⟩) ?_
 refine qd rfl ?_
 obtain ⟨h6,H⟩:=gif H
 refine z0a (z26 rfl rfl (Nat.le_trans h6 (by decide))) ?_
 refine qe rfl ?_
 refine z0m ?_
 cases H
 exact ⟨trivial,.inl rfl,trivial⟩
theorem y1e (secret1:Bs) (text2:Bs) (r:(Bs)) (H:z4l secret1 text2=some r):Fn Tryz.prog 54 [vstr secret1,vstr text2] (z1r [vstr r]):=by
 refine ⟨by kernel_rfl,z1e (us:=[vstr r]) Tryz.func54 rfl rfl rfl rfl fun X hN => ?_⟩
 unfold z4l at H
 refine z0c ?_
 refine z0b hN rfl ?_
 refine qe rfl ?_
 refine z0c ?_
 refine z0b hN rfl ?_
 refine qd rfl ?_
 refine qd rfl ?_
 refine qd rfl ?_
 refine z0a (z1a (u':=vlst (List.map z0n [secret1,text2,secret1])) (z14 [[_],[_],[_]] z86 ⟨rfl,.inl ⟨_,rfl,rfl,rfl⟩,rfl,rfl,.inl ⟨_,rfl,rfl,rfl⟩,rfl,rfl,.inl ⟨_,rfl,rfl,rfl⟩,rfl,trivial⟩ rfl rfl) rfl) ?_
 obtain ⟨r3,h4,H⟩:=bnd H
 refine z0a (z0q (x0n [secret1,text2,secret1] r3 h4) ⟨.inl rfl,trivial⟩) ?_
 refine qe rfl ?_
 refine z0c ?_
 refine z0c ?_
 refine z0b hN rfl ?_
 refine qd rfl ?_
 refine z0v ?_
 obtain ⟨h8,H⟩:=gif H
 refine y65 (fun (k6:Nat) (s:Int)=>[(5,.dat (vval (.int .u64 s))),(11,.dat (vint (k6:Int)))]) (fun (k6:Nat) (s:Int)=>[]) r3 H ⟨rfl,rfl,trivial⟩ trivial (fun _ _=>rfl) ?_ ?_
 ·rintro h5 H
  replace H:y0s h5=some r:=H
  unfold y0s at H
  refine z0c ?_
  refine z0b hN rfl ?_
  refine z0a (z04 rfl rfl) ?_
  refine z0c ?_
  refine z0g _ rfl (fun h=>(lt_t h).elim) (fun h => ?_)
  refine z1u ?_
  refine z0c ?_
  refine z0b hN rfl ?_
  refine qd rfl ?_
  obtain ⟨r9,h10,H⟩:=bnd H
  refine z0a (z0q (x06 h5 r9 h10) ⟨.inl rfl,trivial⟩) ?_
  refine qe rfl ?_
  refine z0m ?_
  cases H
  exact ⟨trivial,.inl rfl,trivial⟩
 ·rintro k6 h5 q7 h11 H hq7
  replace H:y3v k6 h5=some q7:=H
  unfold y3v at H
  refine z0c ?_
  refine z0b hN rfl ?_
  refine z0a (z04 rfl rfl) ?_
  refine z0c ?_
  refine z0g _ rfl (fun h => ?_) (fun h=>(lt_f h11 h).elim)
  refine z0l ?_
  refine z0c ?_
  refine z0v ?_
  refine z0b hN rfl ?_
  refine qd rfl ?_
  refine qd rfl ?_
  refine z0a (z1a (x1z rfl rfl (by decide)) rfl) ?_
  refine z0a (z1a (x4w rfl rfl) rfl) ?_
  refine z0a (z1c _ rfl rfl (.inr (.inr ⟨rfl,rfl⟩))) ?_
  refine qe rfl ?_
  refine z0b hN rfl ?_
  refine z0a (z3r rfl rfl (by omega)) ?_
  refine qd rfl ?_
  exact ⟨_,z84 H,⟨rfl,rfl,trivial⟩,trivial⟩
theorem y60 (s1:z0d) (r:((List z0y)×z0d)) (H:z7e s1=some r):Imp Tryz.prog 37 25 (z0t s1) [] (z1r [vlst (List.map z1w r.1)]) (z0t r.2):=by
 refine y3m (us:=[vlst (List.map z1w r.1)]) (cs':=(z0t r.2)) (by kernel_rfl) Tryz.func37 rfl rfl rfl rfl fun X bl hN => ?_
 unfold z7e at H
 refine z0c ?_
 refine z0b hN rfl ?_
 refine qe rfl ?_
 refine z0c ?_
 refine z0b hN rfl ?_
 refine qe rfl ?_
 refine z0c ?_
 refine z0c ?_
 refine z0b hN rfl ?_
 refine z0a (z1a (u':=vlst (List.map z0n [[97,112,112,49],[97,112,112,50]])) (z14 [[_],[_]] z86 ⟨rfl,.inl ⟨_,rfl,rfl,rfl⟩,rfl,rfl,.inl ⟨_,rfl,rfl,rfl⟩,rfl,trivial⟩ rfl rfl) rfl) ?_
 refine z0a (z6r z9p rfl) ?_
 refine qd rfl ?_
 refine z0v ?_
 refine y2i 3 1 80 5 rfl rfl rfl ?_
 obtain ⟨h7,H⟩:=gif H
 refine z3u (fun (k5:Nat) (s:(List Int)×Int×(List z0y))=>[(0,.ptr 0 0),(3,.row 1 s.2.2.length),(12,.dat (vlst (List.map z0n ([[97,112,112,49],[97,112,112,50]])))),(13,.dat (vint (([[97,112,112,49],[97,112,112,50]]).length:Int))),(14,.dat (vint (k5:Int)))]) (fun (k5:Nat) (s:(List Int)×Int×(List z0y))=>[(0,.box (some bl) 25 [.dat (vlst (List.map y2j s.1)),.dat (vint s.2.1)]),(1,.row 80 5 (List.map z1w s.2.2))]) (s1.L,s1.at_,[]) H ⟨rfl,rfl,rfl,rfl,rfl,trivial⟩ ⟨rfl,rfl,trivial⟩ (fun _ _=>rfl) ?_ ?_
 ·rintro ⟨c2,c3,l4⟩ H
  replace H:z8y c2 c3 l4=some r:=H
  unfold z8y at H
  refine z0c ?_
  refine z0b hN rfl ?_
  refine z0a (z04 rfl rfl) ?_
  refine z0c ?_
  refine z0g _ rfl (fun h=>(lt_t h).elim) (fun h => ?_)
  refine z1u ?_
  refine z03 (ι:=(List z0y)×(List Int)×Int) (fun i=>[(3,.row 1 i.1.length)]) (fun i=>[(0,.box (some bl) 25 [.dat (vlst (List.map y2j i.2.1)),.dat (vint i.2.2)]),(1,.row 80 5 (List.map z1w i.1))]) (fun i=>z45 i.1 i.2.1 i.2.2=some r) (fun i=>rfl) ?_ ?_
  ·skip
   refine z0c ?_
   refine z0b hN rfl ?_
   refine z0a (z0h (.ptr _ _) rfl) ?_
   obtain ⟨r9,h10,H⟩:=bnd H
   refine z0j (z1f (z1z (z0d.mk c2 c3) 15 r9 h10) rfl ⟨.inl rfl,trivial⟩ rfl) rfl ?_
   refine z0g _ rfl (fun h11 => ?_) (fun h11 => ?_)
   ·replace H:=ift h11 H
    refine z0b hN rfl ?_
    refine z0a (z0h (.row _ _) rfl) ?_
    refine z0a (z0h (.ptr _ _) rfl) ?_
    refine z0a (z1a (u':=vlst (List.map z0n [[97,112,112,49],[],[122,122]])) (z14 [[_],[_],[_]] z86 ⟨rfl,.inl ⟨_,rfl,rfl,rfl⟩,rfl,rfl,.inl ⟨_,rfl,rfl,rfl⟩,rfl,rfl,.inl ⟨_,rfl,rfl,rfl⟩,rfl,trivial⟩ rfl rfl) rfl) ?_
    obtain ⟨r12,h13,H⟩:=bnd H
    refine z0j (z1f (z1d r9.2 ([[97,112,112,49],[],[122,122]]) r12 h13) rfl ⟨.inl rfl,trivial⟩ rfl) rfl ?_
    refine z0a (z0h (.ptr _ _) rfl) ?_
    refine z0a (z1a (u':=vlst (List.map z0n [[120],[48,49,50,51,52,53,54,55,56,57,97,98,99,100,101,102],[48,49,50,51,52,53,54,55,56,57,65,66,67,68,69,70]])) (z14 [[_],[_],[_]] z86 ⟨rfl,.inl ⟨_,rfl,rfl,rfl⟩,rfl,rfl,.inl ⟨_,rfl,rfl,rfl⟩,rfl,rfl,.inl ⟨_,rfl,rfl,rfl⟩,rfl,trivial⟩ rfl rfl) rfl) ?_
    obtain ⟨r14,h15,H⟩:=bnd H
    refine z0j (z1f (z1d r12.2 ([[120],[48,49,50,51,52,53,54,55,56,57,97,98,99,100,101,102],[48,49,50,51,52,53,54,55,56,57,65,66,67,68,69,70]]) r14 h15) rfl ⟨.inl rfl,trivial⟩ rfl) rfl ?_
    refine z0a (z0h (.ptr _ _) rfl) ?_
    obtain ⟨r16,h17,H⟩:=bnd H
    refine z0j (z1f (y7f r14.2 r16 h17) rfl trivial rfl) rfl ?_
    refine z0a (z0h (.ptr _ _) rfl) ?_
    obtain ⟨r18,h19,H⟩:=bnd H
    refine z0j (z1f (z7y r16.2 0 100 r18 h19) rfl ⟨.inl rfl,.inl rfl,trivial⟩ rfl) rfl ?_
    refine z0a (z1a (u':=vagg (z1w (z0y.mk r12.1 r14.1 r16.1 0 r18.1))) (z2f [(0,[vstr r12.1]),(1,[vstr r14.1]),(2,[vlst (List.map z0n r16.1)]),(4,[vint r18.1])] w3y w8m rfl ⟨rfl,.inl ⟨_,rfl,rfl,rfl⟩,rfl,rfl,.inl ⟨_,rfl,rfl,rfl⟩,rfl,rfl,.inl ⟨_,rfl,rfl,rfl⟩,rfl,rfl,.inl ⟨_,rfl,rfl,rfl⟩,rfl,trivial⟩) rfl) ?_
    refine z0a (z1a (u':=vlst (List.map z1w [(z0y.mk r12.1 r14.1 r16.1 0 r18.1)])) (z14 [_] w38 ⟨rfl,.inr rfl,rfl,trivial⟩ rfl rfl) rfl) ?_
    obtain ⟨h20,H⟩:=gif H
    refine z0j (y75 w38 (fun _=>rfl) rfl rfl rfl ⟨by simp,by first | (simp; done) | simpa using h20⟩ rfl) rfl ?_
    refine z0a (z13 (.row _ _) rfl) ?_
    exact ⟨((l4++[(z0y.mk r12.1 r14.1 r16.1 0 r18.1)]),r18.2.L,r18.2.at_),H,⟨rfl,trivial⟩,⟨rfl,rfl,trivial⟩⟩
   ·replace H:=iff_ h11 H
    refine z0l ?_
    exact ⟨(l4,r9.2.L,r9.2.at_),H,⟨rfl,trivial⟩,⟨rfl,rfl,trivial⟩⟩
  ·rintro ⟨v21,c22,c23⟩ H
   replace H:z45 v21 c22 c23=some r:=H
   unfold z45 at H
   refine z0c ?_
   refine z0b hN rfl ?_
   refine z0a (z0h (.row _ _) rfl) ?_
   refine z0a (z13 (.row _ _) rfl) ?_
   refine z0m ?_
   cases H
   exact ⟨trivial,⟨y87 rfl rfl,trivial⟩,rfl⟩
 ·rintro k5 x8 ⟨c2,c3,l4⟩ q6 h24 h25 H hq6
  replace H:z8v k5 x8 c2 c3 l4=some q6:=H
  unfold z8v at H
  refine z0c ?_
  refine z0b hN rfl ?_
  refine z0a (z04 rfl rfl) ?_
  refine z0c ?_
  refine z0g _ rfl (fun h => ?_) (fun h=>(lt_f h24 h).elim)
  refine z0l ?_
  refine z0c ?_
  refine z0v ?_
  refine z0c ?_
  refine z0b hN rfl ?_
  refine z0a (y0r z9i (fun _=>rfl) rfl rfl h25) ?_
  refine z0a (z0x tyS9 rfl (z2l h25) rfl) ?_
  refine qe rfl ?_
  refine z0c ?_
  refine z0b hN rfl ?_
  refine qe rfl ?_
  refine z0c ?_
  refine z0c ?_
  refine z0b hN rfl ?_
  refine z0a (z1a (u':=vlst (List.map z0n [[107,101,121,45,49],[107,101,121,45,50]])) (z14 [[_],[_]] z86 ⟨rfl,.inl ⟨_,rfl,rfl,rfl⟩,rfl,rfl,.inl ⟨_,rfl,rfl,rfl⟩,rfl,trivial⟩ rfl rfl) rfl) ?_
  refine z0a (z6r z9p rfl) ?_
  refine qd rfl ?_
  refine z0v ?_
  refine y2i 6 2 9 1 rfl rfl rfl ?_
  obtain ⟨h31,H⟩:=gif H
  refine z3u (fun (k29:Nat) (s:(List Int)×Int×(List Bs))=>[(0,.ptr 0 0),(3,.row 1 l4.length),(5,.dat (vstr x8)),(6,.row 2 s.2.2.length),(12,.dat (vlst (List.map z0n ([[97,112,112,49],[97,112,112,50]])))),(13,.dat (vint (([[97,112,112,49],[97,112,112,50]]).length:Int))),(14,.dat (vint (k5:Int))),(18,.dat (vlst (List.map z0n ([[107,101,121,45,49],[107,101,121,45,50]])))),(19,.dat (vint (([[107,101,121,45,49],[107,101,121,45,50]]).length:Int))),(20,.dat (vint (k29:Int)))]) (fun (k29:Nat) (s:(List Int)×Int×(List Bs))=>[(0,.box (some bl) 25 [.dat (vlst (List.map y2j s.1)),.dat (vint s.2.1)]),(1,.row 80 5 (List.map z1w l4)),(2,.row 9 1 (List.map z0n s.2.2))]) (c2,c3,[]) H ⟨rfl,rfl,rfl,rfl,rfl,rfl,rfl,rfl,rfl,rfl,trivial⟩ ⟨rfl,rfl,rfl,trivial⟩ (fun _ _=>rfl) ?_ ?_
  ·rintro ⟨c26,c27,l28⟩ H
   replace H:z8x l4 x8 c26 c27 l28=some q6:=H
   unfold z8x at H
   refine z0c ?_
   refine z0b hN rfl ?_
   refine z0a (z04 rfl rfl) ?_
   refine z0c ?_
   refine z0g _ rfl (fun h=>(lt_t h).elim) (fun h => ?_)
   refine z1u ?_
   refine z0c ?_
   refine z0b hN rfl ?_
   refine z0a (z0h (.row _ _) rfl) ?_
   obtain ⟨r33,h34,H⟩:=bnd H
   refine y31 (rn [(0,2)]) [(0,_,_,some _)] [] (z9d l28 r33 h34) ⟨rfl,trivial⟩ ⟨.inl (.inl rfl),trivial⟩ ⟨⟨⟨rfl,rfl,rfl⟩,by simp [x7m,y4j h34]⟩,trivial⟩ rfl ?_
   refine z0c ?_
   refine z0b hN rfl ?_
   refine z0a (z0h (.row _ _) rfl) ?_
   refine z0w (x8g z9p rfl (y4j h34).symm) rfl ?_
   refine qd rfl ?_
   refine z0v ?_
   obtain ⟨h40,H⟩:=gif H
   refine y65 (fun (k38:Nat) (s:(List Int)×Int×(List z0y))=>[(0,.ptr 0 0),(3,.row 1 s.2.2.length),(5,.dat (vstr x8)),(12,.dat (vlst (List.map z0n ([[97,112,112,49],[97,112,112,50]])))),(13,.dat (vint (([[97,112,112,49],[97,112,112,50]]).length:Int))),(14,.dat (vint (k5:Int))),(34,.row 2 l28.length),(35,.dat (vint (r33.length:Int))),(36,.dat (vint (k38:Int)))]) (fun (k38:Nat) (s:(List Int)×Int×(List z0y))=>[(0,.box (some bl) 25 [.dat (vlst (List.map y2j s.1)),.dat (vint s.2.1)]),(1,.row 80 5 (List.map z1w s.2.2)),(2,.row 9 1 (List.map z0n r33))]) (c26,c27,l4) H ⟨rfl,rfl,rfl,rfl,rfl,rfl,congrArg (Slot.row 2) (by simp),rfl,rfl,trivial⟩ ⟨rfl,rfl,rfl,trivial⟩ (fun _ _=>rfl) ?_ ?_
   ·rintro ⟨c35,c36,l37⟩ H
    replace H:z8w c35 c36 l37=some q6:=H
    unfold z8w at H
    refine z0c ?_
    refine z0b hN rfl ?_
    refine z0a (z04 rfl rfl) ?_
    refine z0c ?_
    refine z0g _ rfl (fun h=>(lt_t h).elim) (fun h => ?_)
    refine z1u ?_
    refine z0b hN rfl ?_
    refine z0a (z3r rfl rfl (by omega)) ?_
    refine qd rfl ?_
    exact ⟨_,z84 H,⟨rfl,rfl,rfl,rfl,rfl,trivial⟩,⟨rfl,rfl,trivial⟩⟩
   ·rintro k38 ⟨c35,c36,l37⟩ q39 h41 H hq39
    replace H:z8t x8 r33 k38 c35 c36 l37=some q39:=H
    unfold z8t at H
    refine z0c ?_
    refine z0b hN rfl ?_
    refine z0a (z04 rfl rfl) ?_
    refine z0c ?_
    refine z0g _ rfl (fun h => ?_) (fun h=>(lt_f h41 h).elim)
    refine z0l ?_
    refine z0c ?_
    refine z0v ?_
    refine z0c ?_
    refine z0b hN rfl ?_
    obtain ⟨x42,h43,H⟩:=bnd H
    refine z0w (w8x z9i rfl (y4j h34).symm rfl h43) rfl ?_
    refine z0w (x8f tyS9 rfl (y4j h34).symm h43 rfl) rfl ?_
    refine qe rfl ?_
    refine z0c ?_
    refine z0b hN rfl ?_
    refine z0a (z0h (.ptr _ _) rfl) ?_
    refine z0a (z1a (u':=vlst (List.map y2j [0,0,50])) (z14 [[_],[_],[_]] y9p ⟨rfl,.inl ⟨_,rfl,rfl,rfl⟩,rfl,rfl,.inl ⟨_,rfl,rfl,rfl⟩,rfl,rfl,.inl ⟨_,rfl,rfl,rfl⟩,rfl,trivial⟩ rfl rfl) rfl) ?_
    obtain ⟨r44,h45,H⟩:=bnd H
    refine z0j (z1f (z1y (z0d.mk c35 c36) [0,0,50] r44 h45) rfl ⟨.inl rfl,trivial⟩ rfl) rfl ?_
    refine qe rfl ?_
    refine z0b hN rfl ?_
    refine z0a (z0h (.row _ _) rfl) ?_
    refine qd rfl ?_
    refine qd rfl ?_
    refine z0a (z0h (.ptr _ _) rfl) ?_
    obtain ⟨r46,h47,H⟩:=bnd H
    refine z0j (z1f (y2z r44.2 r46 h47) rfl trivial rfl) rfl ?_
    refine qd rfl ?_
    refine qd rfl ?_
    refine z0a (z0h (.ptr _ _) rfl) ?_
    refine z0a (z1a (u':=vlst (List.map y2j [0,50,100,1000])) (z14 [[_],[_],[_],[_]] y9p ⟨rfl,.inl ⟨_,rfl,rfl,rfl⟩,rfl,rfl,.inl ⟨_,rfl,rfl,rfl⟩,rfl,rfl,.inl ⟨_,rfl,rfl,rfl⟩,rfl,rfl,.inl ⟨_,rfl,rfl,rfl⟩,rfl,trivial⟩ rfl rfl) rfl) ?_
    obtain ⟨r48,h49,H⟩:=bnd H
    refine z0j (z1f (z1y r46.2 [0,50,100,1000] r48 h49) rfl ⟨.inl rfl,trivial⟩ rfl) rfl ?_
    refine z0a (z1c _ rfl rfl (.inl ⟨rfl,rfl⟩)) ?_
    refine z0a (z1a (u':=vagg (z1w (z0y.mk x8 x42 r46.1 r44.1 (wr (r44.1+r48.1))))) (z2f [(0,[vstr x8]),(1,[vstr x42]),(2,[vlst (List.map z0n r46.1)]),(3,[vint r44.1]),(4,[vint (wr (r44.1+r48.1))])] w3y w8m rfl ⟨rfl,.inl ⟨_,rfl,rfl,rfl⟩,rfl,rfl,.inl ⟨_,rfl,rfl,rfl⟩,rfl,rfl,.inl ⟨_,rfl,rfl,rfl⟩,rfl,rfl,.inl ⟨_,rfl,rfl,rfl⟩,rfl,rfl,.inl ⟨_,rfl,rfl,rfl⟩,rfl,trivial⟩) rfl) ?_
    refine z0a (z1a (u':=vlst (List.map z1w [(z0y.mk x8 x42 r46.1 r44.1 (wr (r44.1+r48.1)))])) (z14 [_] w38 ⟨rfl,.inr rfl,rfl,trivial⟩ rfl rfl) rfl) ?_
    obtain ⟨h50,H⟩:=gif H
    refine z0j (y75 w38 (fun _=>rfl) rfl rfl rfl ⟨by simp,by first | (simp; done) | simpa using h50⟩ rfl) rfl ?_
    refine z0a (z13 (.row _ _) rfl) ?_
    refine z0b hN rfl ?_
    refine z0a (z3r rfl rfl (by omega)) ?_
    refine qd rfl ?_
    exact ⟨_,z84 H,⟨rfl,rfl,rfl,rfl,rfl,rfl,congrArg (Slot.row 2) (by simp),rfl,rfl,trivial⟩,⟨rfl,rfl,rfl,trivial⟩⟩
  ·rintro k29 x32 ⟨c26,c27,l28⟩ q30 h51 h52 H hq30
   replace H:z8u k29 x32 c26 c27 l28=some q30:=H
   unfold z8u at H
   refine z0c ?_
   refine z0b hN rfl ?_
   refine z0a (z04 rfl rfl) ?_
   refine z0c ?_
   refine z0g _ rfl (fun h => ?_) (fun h=>(lt_f h51 h).elim)
   refine z0l ?_
   refine z03 (ι:=(List Bs)×(List Int)×Int) (fun i=>[(0,.ptr 0 0),(3,.row 1 l4.length),(5,.dat (vstr x8)),(6,.row 2 i.1.length),(12,.dat (vlst (List.map z0n ([[97,112,112,49],[97,112,112,50]])))),(13,.dat (vint (([[97,112,112,49],[97,112,112,50]]).length:Int))),(14,.dat (vint (k5:Int))),(18,.dat (vlst (List.map z0n ([[107,101,121,45,49],[107,101,121,45,50]])))),(19,.dat (vint (([[107,101,121,45,49],[107,101,121,45,50]]).length:Int))),(20,.dat (vint (k29:Int)))]) (fun i=>[(0,.box (some bl) 25 [.dat (vlst (List.map y2j i.2.1)),.dat (vint i.2.2)]),(1,.row 80 5 (List.map z1w l4)),(2,.row 9 1 (List.map z0n i.1))]) (fun i=>z44 i.1 i.2.1 i.2.2=some q30) (fun i=>rfl) ?_ ?_
   ·skip
    refine z0v ?_
    refine z0c ?_
    refine z0b hN rfl ?_
    refine z0a (y0r z9i (fun _=>rfl) rfl rfl h52) ?_
    refine z0a (z0x tyS9 rfl (z2l h52) rfl) ?_
    refine qe rfl ?_
    refine z0c ?_
    refine z0b hN rfl ?_
    refine z0a (z0h (.ptr _ _) rfl) ?_
    obtain ⟨r53,h54,H⟩:=bnd H
    refine z0j (z1f (z1z (z0d.mk c26 c27) 2 r53 h54) rfl ⟨.inl rfl,trivial⟩ rfl) rfl ?_
    refine z0g _ rfl (fun h55 => ?_) (fun h55 => ?_)
    ·replace H:=ift h55 H
     refine z0b hN rfl ?_
     refine z0a (z0h (.row _ _) rfl) ?_
     refine qd rfl ?_
     obtain ⟨r56,h57,H⟩:=bnd H
     refine z0a (z0q (y1e [103,97,116,101] x32 r56 h57) ⟨.inl rfl,.inl rfl,trivial⟩) ?_
     refine z0a (z1a (u':=vlst (List.map z0n [r56])) (z14 [[_]] z86 ⟨rfl,.inl ⟨_,rfl,rfl,rfl⟩,rfl,trivial⟩ rfl rfl) rfl) ?_
     obtain ⟨h58,H⟩:=gif H
     refine z0j (y75 z86 (fun _=>rfl) rfl rfl rfl ⟨by simp,by first | (simp; done) | simpa using h58⟩ rfl) rfl ?_
     refine z0a (z13 (.row _ _) rfl) ?_
     exact ⟨((l28++[r56]),r53.2.L,r53.2.at_),H,⟨rfl,rfl,rfl,rfl,rfl,rfl,rfl,rfl,rfl,rfl,trivial⟩,⟨rfl,rfl,rfl,trivial⟩⟩
    ·replace H:=iff_ h55 H
     refine z0l ?_
     exact ⟨(l28,r53.2.L,r53.2.at_),H,⟨rfl,rfl,rfl,rfl,rfl,rfl,rfl,rfl,rfl,rfl,trivial⟩,⟨rfl,rfl,rfl,trivial⟩⟩
   ·rintro ⟨v59,c60,c61⟩ H
    replace H:z44 v59 c60 c61=some q30:=H
    unfold z44 at H
    refine z0b hN rfl ?_
    refine z0a (z3r rfl rfl (by omega)) ?_
    refine qd rfl ?_
    exact ⟨_,z84 H,⟨rfl,rfl,rfl,rfl,rfl,rfl,rfl,rfl,rfl,rfl,trivial⟩,⟨rfl,rfl,rfl,trivial⟩⟩
end Go.Proofs.YtndabcepiekebaaGreatDoor
