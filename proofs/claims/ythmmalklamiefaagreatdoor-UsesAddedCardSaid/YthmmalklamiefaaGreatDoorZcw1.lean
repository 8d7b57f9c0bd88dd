/- Walks along the models. Printed by a program. -/
import Derived.Test.YthmmalklamiefaaGreatDoorZcc
namespace Go.Proofs.YthmmalklamiefaaGreatDoor
open Go.RowKit
set_option linter.unusedVariables false
set_option maxRecDepth 20000
set_option maxHeartbeats 2000000
theorem y5s (x1:Int) (n2:Int) (r:(Int)) (H:z93 x1 n2=some r):Fn Tryz.prog 74 [vint x1,vint n2] (z1x [vint r]):=by
 refine ⟨by kernel_rfl,z1s (us:=[vint r]) Tryz.func74 rfl rfl rfl rfl fun X hN => ?_⟩
 unfold z93 at H
 refine z0c ?_
 refine z0b hN rfl ?_
 refine qe rfl ?_
 refine z0c ?_
 refine z0c ?_
 refine z0b hN rfl ?_
 refine qd rfl ?_
 refine z0a (z03 rfl rfl) ?_
 refine z0k _ rfl (fun h3 => ?_) (fun h3 => ?_)
 ·replace H:=ift h3 H
  refine z0c ?_
  refine z0b hN rfl ?_
  refine qe rfl ?_
  refine z0t ?_
  cases H
  exact ⟨trivial,.inl rfl,trivial⟩
 ·replace H:=iff_ h3 H
  refine z0q ?_
  refine z0c ?_
  refine z0b hN rfl ?_
  refine qd rfl ?_
  refine qd rfl ?_
  obtain ⟨h4,H⟩:=gif H
  refine z0a (x39 rfl rfl h4) ?_
  refine qe rfl ?_
  refine z07 (ι:=Int) (fun i=>[(0,.dat (vint i))]) (fun i=>[]) (fun i=>y0m i=some r) (fun i=>rfl) ?_ ?_
  ·skip
   refine z0c ?_
   refine z0b hN rfl ?_
   refine qd rfl ?_
   refine z0a (z03 rfl rfl) ?_
   refine z0k _ rfl (fun h5 => ?_) (fun h5 => ?_)
   ·replace H:=ift h5 H
    refine z0b hN rfl ?_
    refine qd rfl ?_
    refine qd rfl ?_
    refine z0a (z05 _ rfl rfl (.inl ⟨rfl,rfl⟩)) ?_
    refine qe rfl ?_
    exact ⟨wr ((Int.tmod x1 n2)+n2),H,⟨rfl,trivial⟩,trivial⟩
   ·replace H:=iff_ h5 H
    refine z0q ?_
    exact ⟨(Int.tmod x1 n2),H,⟨rfl,trivial⟩,trivial⟩
  ·rintro x6 H
   replace H:y0m x6=some r:=H
   unfold y0m at H
   refine z0c ?_
   refine z0b hN rfl ?_
   refine qd rfl ?_
   refine qe rfl ?_
   refine z0t ?_
   cases H
   exact ⟨trivial,.inl rfl,trivial⟩
theorem z3g (s1:z0d) (n2:Int) (r:(Int×z0d)) (H:z2f s1 n2=some r):Imp Tryz.prog 28 25 (z0x s1) [vint n2] (z1x [vint r.1]) (z0x r.2):=by
 refine y45 (us:=[vint r.1]) (cs':=(z0x r.2)) (by kernel_rfl) Tryz.func28 rfl rfl rfl rfl fun X bl hN => ?_
 unfold z2f at H
 refine z0c ?_
 refine z0b hN rfl ?_
 refine qe rfl ?_
 refine z0c ?_
 refine z0b hN rfl ?_
 refine z0a (z0j (.ptr _ _) rfl) ?_
 refine z0a (y34 rfl) ?_
 refine z0a (z0m x1r rfl) ?_
 refine z0h (z0l tyS3 rfl rfl) rfl ?_
 refine z0a (z05 _ rfl rfl (.inl ⟨rfl,rfl⟩)) ?_
 refine z0a (y34 rfl) ?_
 refine z0a (z0m x1r rfl) ?_
 refine z0g (z3b tyS3 rfl rfl rfl rfl) rfl ?_
 refine z0c ?_
 refine z0c ?_
 refine z0b hN rfl ?_
 refine z0a (z0j (.ptr _ _) rfl) ?_
 refine z0a (y34 rfl) ?_
 refine z0a (z0m x3x rfl) ?_
 refine z0h (z0l w3l rfl rfl) rfl ?_
 refine z0a (z5b w0p rfl) ?_
 refine z0a (z2g rfl rfl) ?_
 refine z0k _ rfl (fun h3 => ?_) (fun h3 => ?_)
 ·replace H:=ift h3 H
  refine z0c ?_
  refine z0b hN rfl ?_
  refine z0a (z0j (.ptr _ _) rfl) ?_
  refine z0a (y34 rfl) ?_
  refine z0a (z0m x1r rfl) ?_
  refine z0h (z0l tyS3 rfl rfl) rfl ?_
  refine z0a (z05 _ rfl rfl (.inr (.inr ⟨rfl,rfl⟩))) ?_
  refine qd rfl ?_
  obtain ⟨r4,h5,H⟩:=bnd H
  refine z0a (z0z (y5s (wr ((wr (s1.at_+1)) * 7919)) n2 r4 h5) ⟨.inl rfl,.inl rfl,trivial⟩) ?_
  refine qe rfl ?_
  refine z0t ?_
  cases H
  exact ⟨trivial,⟨.inl rfl,trivial⟩,rfl⟩
 ·replace H:=iff_ h3 H
  refine z0q ?_
  refine z0c ?_
  refine z2n mixed hN rfl rfl ?_
  refine z0a (z0j (.ptr _ _) rfl) ?_
  refine z0a (y34 rfl) ?_
  refine z0a (z0m x1r rfl) ?_
  refine z0h (z0l tyS3 rfl rfl) rfl ?_
  refine z0a (z05 _ rfl rfl (.inr (.inl ⟨rfl,rfl⟩))) ?_
  refine z0a (z0j (.ptr _ _) rfl) ?_
  refine z0a (y34 rfl) ?_
  refine z0a (z0m x3x rfl) ?_
  refine z0h (z0l w3l rfl rfl) rfl ?_
  refine z0a (z5b w0p rfl) ?_
  obtain ⟨h6,H⟩:=gif H
  refine z0a (x39 rfl rfl h6) ?_
  refine qe rfl ?_
  refine ⟨rfl,?_⟩
  refine z0c ?_
  refine z2n mixed hN rfl rfl ?_
  refine z0a (z0j (.ptr _ _) rfl) ?_
  refine z0a (y34 rfl) ?_
  refine z0a (z0m x1r rfl) ?_
  refine z0h (z0l tyS3 rfl rfl) rfl ?_
  refine z0a (z05 _ rfl rfl (.inr (.inl ⟨rfl,rfl⟩))) ?_
  refine z0a (z0j (.ptr _ _) rfl) ?_
  refine z0a (y34 rfl) ?_
  refine z0a (z0m x3x rfl) ?_
  refine z0h (z0l w3l rfl rfl) rfl ?_
  refine z0a (z5b w0p rfl) ?_
  obtain ⟨h7,H⟩:=gif H
  refine z0a (x4a rfl rfl h7.1 h7.2) ?_
  refine qe rfl ?_
  refine ⟨rfl,?_⟩
  refine z0c ?_
  refine z0b hN rfl ?_
  refine z0a (z0j (.ptr _ _) rfl) ?_
  refine z0a (y34 rfl) ?_
  refine z0a (z0m x3x rfl) ?_
  refine z0h (z0l w3l rfl rfl) rfl ?_
  refine qd rfl ?_
  obtain ⟨x8,h9,H⟩:=bnd H
  refine z0a (y1q w6c (fun _=>rfl) rfl rfl h9) ?_
  refine z0a (z24 tyS3 rfl (z3e (z1n h9).2) rfl) ?_
  obtain ⟨r10,h11,H⟩:=bnd H
  refine z0a (z0z (y5s x8 1073741824 r10 h11) ⟨.inl rfl,.inl rfl,trivial⟩) ?_
  refine qd rfl ?_
  refine qd rfl ?_
  refine z0a (z05 _ rfl rfl (.inl ⟨rfl,rfl⟩)) ?_
  refine z0a (z05 _ rfl rfl (.inr (.inr ⟨rfl,rfl⟩))) ?_
  refine z0a (z05 _ rfl rfl (.inl ⟨rfl,rfl⟩)) ?_
  refine qd rfl ?_
  obtain ⟨r12,h13,H⟩:=bnd H
  refine z0a (z0z (y5s (wr (r10+(wr (((wr ((wr (s1.at_+1)) - 1)) / (s1.L.length:Int)) * (wr (7919+(Int.tmod (wr ((wr (s1.at_+1)) - 1)) (s1.L.length:Int)))))))) n2 r12 h13) ⟨.inl rfl,.inl rfl,trivial⟩) ?_
  refine qe rfl ?_
  refine z0t ?_
  cases H
  exact ⟨trivial,⟨.inl rfl,trivial⟩,rfl⟩
theorem z78 (s1:z0d) (low2:Int) (high3:Int) (r:(Int×z0d)) (H:z4i s1 low2 high3=some r):Imp Tryz.prog 5 25 (z0x s1) [vint low2,vint high3] (z1x [vint r.1]) (z0x r.2):=by
 refine y45 (us:=[vint r.1]) (cs':=(z0x r.2)) (by kernel_rfl) Tryz.func5 rfl rfl rfl rfl fun X bl hN => ?_
 unfold z4i at H
 refine z0c ?_
 refine z0b hN rfl ?_
 refine qe rfl ?_
 refine z0c ?_
 refine z0c ?_
 refine z0b hN rfl ?_
 refine qd rfl ?_
 refine qd rfl ?_
 refine z0a (z03 rfl rfl) ?_
 refine z0k _ rfl (fun h4 => ?_) (fun h4 => ?_)
 ·replace H:=ift h4 H
  refine z0c ?_
  refine z0b hN rfl ?_
  refine qd rfl ?_
  refine qe rfl ?_
  refine z0t ?_
  cases H
  exact ⟨trivial,⟨.inl rfl,trivial⟩,rfl⟩
 ·replace H:=iff_ h4 H
  refine z0q ?_
  refine z0c ?_
  refine z0b hN rfl ?_
  refine qd rfl ?_
  refine z0a (z0j (.ptr _ _) rfl) ?_
  refine qd rfl ?_
  refine qd rfl ?_
  refine z0a (z05 _ rfl rfl (.inr (.inl ⟨rfl,rfl⟩))) ?_
  refine z0a (z05 _ rfl rfl (.inl ⟨rfl,rfl⟩)) ?_
  obtain ⟨r5,h6,H⟩:=bnd H
  refine z0g (z1f (z3g s1 (wr ((wr (high3 - low2))+1)) r5 h6) rfl ⟨.inl rfl,trivial⟩ rfl) rfl ?_
  refine z0a (z05 _ rfl rfl (.inl ⟨rfl,rfl⟩)) ?_
  refine qe rfl ?_
  refine z0t ?_
  cases H
  exact ⟨trivial,⟨.inl rfl,trivial⟩,rfl⟩
theorem z1v (s1:z0d) (n2:Int) (r:(Bool×z0d)) (H:z1q s1 n2=some r):Imp Tryz.prog 30 25 (z0x s1) [vint n2] (z1x [z1p r.1]) (z0x r.2):=by
 refine y45 (us:=[z1p r.1]) (cs':=(z0x r.2)) (by kernel_rfl) Tryz.func30 rfl rfl rfl rfl fun X bl hN => ?_
 unfold z1q at H
 refine z0c ?_
 refine z0b hN rfl ?_
 refine qe rfl ?_
 refine z0c ?_
 refine z0b hN rfl ?_
 refine z0a (z0j (.ptr _ _) rfl) ?_
 refine qd rfl ?_
 obtain ⟨r3,h4,H⟩:=bnd H
 refine z0g (z1f (z3g s1 n2 r3 h4) rfl ⟨.inl rfl,trivial⟩ rfl) rfl ?_
 refine z0a (z2g rfl rfl) ?_
 refine qe rfl ?_
 refine z0t ?_
 cases H
 exact ⟨trivial,⟨.inl rfl,trivial⟩,rfl⟩
theorem z1r (s1:z0d) (l2:(List Bs)) (r:(Bs×z0d)) (H:z1i s1 l2=some r):Imp Tryz.prog 31 25 (z0x s1) [vlst (List.map z1k l2)] (z1x [vstr r.1]) (z0x r.2):=by
 refine y45 (us:=[vstr r.1]) (cs':=(z0x r.2)) (by kernel_rfl) Tryz.func31 rfl rfl rfl rfl fun X bl hN => ?_
 unfold z1i at H
 refine z0c ?_
 refine z0b hN rfl ?_
 refine qe rfl ?_
 refine z0c ?_
 refine z0b hN rfl ?_
 refine qd rfl ?_
 refine z0a (z0j (.ptr _ _) rfl) ?_
 refine qd rfl ?_
 refine z0a (z5b y4g rfl) ?_
 obtain ⟨r3,h4,H⟩:=bnd H
 refine z0g (z1f (z3g s1 (l2.length:Int) r3 h4) rfl ⟨.inl rfl,trivial⟩ rfl) rfl ?_
 obtain ⟨x5,h6,H⟩:=bnd H
 refine z0a (y1q y74 (fun _=>rfl) rfl rfl h6) ?_
 refine z0a (z24 tyS9 rfl (z3e (z1n h6).2) rfl) ?_
 refine qe rfl ?_
 refine z0t ?_
 cases H
 exact ⟨trivial,⟨.inl rfl,trivial⟩,rfl⟩
theorem z1b (s1:z0d) (l2:(List Int)) (r:(Int×z0d)) (H:z1e s1 l2=some r):Imp Tryz.prog 33 25 (z0x s1) [vlst (List.map z5a l2)] (z1x [vint r.1]) (z0x r.2):=by
 refine y45 (us:=[vint r.1]) (cs':=(z0x r.2)) (by kernel_rfl) Tryz.func33 rfl rfl rfl rfl fun X bl hN => ?_
 unfold z1e at H
 refine z0c ?_
 refine z0b hN rfl ?_
 refine qe rfl ?_
 refine z0c ?_
 refine z0b hN rfl ?_
 refine qd rfl ?_
 refine z0a (z0j (.ptr _ _) rfl) ?_
 refine qd rfl ?_
 refine z0a (z5b w0p rfl) ?_
 obtain ⟨r3,h4,H⟩:=bnd H
 refine z0g (z1f (z3g s1 (l2.length:Int) r3 h4) rfl ⟨.inl rfl,trivial⟩ rfl) rfl ?_
 obtain ⟨x5,h6,H⟩:=bnd H
 refine z0a (y1q w6c (fun _=>rfl) rfl rfl h6) ?_
 refine z0a (z24 tyS3 rfl (z3e (z1n h6).2) rfl) ?_
 refine qe rfl ?_
 refine z0t ?_
 cases H
 exact ⟨trivial,⟨.inl rfl,trivial⟩,rfl⟩
theorem z3o (s1:z0d) (low2:Int) (high3:Int) (r:(Int×z0d)) (H:z2m s1 low2 high3=some r):Imp Tryz.prog 32 25 (z0x s1) [vint low2,vint high3] (z1x [vint r.1]) (z0x r.2):=by
 refine y45 (us:=[vint r.1]) (cs':=(z0x r.2)) (by kernel_rfl) Tryz.func32 rfl rfl rfl rfl fun X bl hN => ?_
 unfold z2m at H
 refine z0c ?_
 refine z0b hN rfl ?_
 refine qe rfl ?_
 refine z0c ?_
 refine z0c ?_
 refine z0b hN rfl ?_
 refine z0a (z0j (.ptr _ _) rfl) ?_
 obtain ⟨r4,h5,H⟩:=bnd H
 refine z0g (z1f (z1v s1 12 r4 h5) rfl ⟨.inl rfl,trivial⟩ rfl) rfl ?_
 refine z0k _ rfl (fun h6 => ?_) (fun h6 => ?_)
 ·replace H:=ift h6 H
  refine z0c ?_
  refine z0b hN rfl ?_
  refine z0a (z0j (.ptr _ _) rfl) ?_
  refine qd rfl ?_
  refine z0a (z05 _ rfl rfl (.inr (.inl ⟨rfl,rfl⟩))) ?_
  refine qd rfl ?_
  refine z0a (z05 _ rfl rfl (.inl ⟨rfl,rfl⟩)) ?_
  refine qd rfl ?_
  refine qd rfl ?_
  refine z0a (z09 (u':=vlst (List.map z5a [wr (low2 - 1),wr (high3+1),low2,high3,(-1099511627776),1099511627776])) (z1w [[_],[_],[_],[_],[_],[_]] y3v ⟨rfl,.inl ⟨_,rfl,rfl,rfl⟩,rfl,rfl,.inl ⟨_,rfl,rfl,rfl⟩,rfl,rfl,.inl ⟨_,rfl,rfl,rfl⟩,rfl,rfl,.inl ⟨_,rfl,rfl,rfl⟩,rfl,rfl,.inl ⟨_,rfl,rfl,rfl⟩,rfl,rfl,.inl ⟨_,rfl,rfl,rfl⟩,rfl,trivial⟩ rfl rfl) rfl) ?_
  obtain ⟨r7,h8,H⟩:=bnd H
  refine z0g (z1f (z1b r4.2 [wr (low2 - 1),wr (high3+1),low2,high3,(-1099511627776),1099511627776] r7 h8) rfl ⟨.inl rfl,trivial⟩ rfl) rfl ?_
  refine qe rfl ?_
  refine z0t ?_
  cases H
  exact ⟨trivial,⟨.inl rfl,trivial⟩,rfl⟩
 ·replace H:=iff_ h6 H
  refine z0q ?_
  refine z0c ?_
  refine z0b hN rfl ?_
  refine z0a (z0j (.ptr _ _) rfl) ?_
  refine qd rfl ?_
  refine qd rfl ?_
  obtain ⟨r9,h10,H⟩:=bnd H
  refine z0g (z1f (z78 r4.2 low2 high3 r9 h10) rfl ⟨.inl rfl,.inl rfl,trivial⟩ rfl) rfl ?_
  refine qe rfl ?_
  refine z0t ?_
  cases H
  exact ⟨trivial,⟨.inl rfl,trivial⟩,rfl⟩
theorem y2q (s1:z0d) (r:((List Bs)×z0d)) (H:z26 s1=some r):Imp Tryz.prog 102 25 (z0x s1) [] (z1x [vlst (List.map z1k r.1)]) (z0x r.2):=by
 refine y45 (us:=[vlst (List.map z1k r.1)]) (cs':=(z0x r.2)) (by kernel_rfl) Tryz.func102 rfl rfl rfl rfl fun X bl hN => ?_
 unfold z26 at H
 refine z0c ?_
 refine z0b hN rfl ?_
 refine qe rfl ?_
 refine z0c ?_
 refine z0b hN rfl ?_
 refine qe rfl ?_
 refine z0c ?_
 refine z0c ?_
 refine z0b hN rfl ?_
 refine z0a (z0j (.ptr _ _) rfl) ?_
 obtain ⟨r2,h3,H⟩:=bnd H
 refine z0g (z1f (z78 s1 0 4 r2 h3) rfl ⟨.inl rfl,.inl rfl,trivial⟩ rfl) rfl ?_
 refine qd rfl ?_
 refine z0w ?_
 refine y2w 3 1 9 1 rfl rfl rfl ?_
 obtain ⟨h9,H⟩:=gif H
 refine y65 (fun (k7:Nat) (s:(List Int)×Int×(List Bs))=>[(0,.ptr 0 0),(3,.row 1 s.2.2.length),(5,.dat (vint r2.1)),(6,.dat (vint (k7:Int)))]) (fun (k7:Nat) (s:(List Int)×Int×(List Bs))=>[(0,.box (some bl) 25 [.dat (vlst (List.map z5a s.1)),.dat (vint s.2.1)]),(1,.row 9 1 (List.map z1k s.2.2))]) (r2.2.L,r2.2.at_,[]) H ⟨rfl,rfl,rfl,rfl,trivial⟩ ⟨rfl,rfl,trivial⟩ (fun _ _=>rfl) ?_ ?_
 ·rintro ⟨c4,c5,l6⟩ H
  replace H:z40 c4 c5 l6=some r:=H
  unfold z40 at H
  refine z0c ?_
  refine z0b hN rfl ?_
  refine z0a (z03 rfl rfl) ?_
  refine z0c ?_
  refine z0k _ rfl (fun h=>(x96 h).elim) (fun h => ?_)
  refine z1j ?_
  refine z0c ?_
  refine z0b hN rfl ?_
  refine z0a (z0j (.row _ _) rfl) ?_
  refine z0a (z1o (.row _ _) rfl) ?_
  refine z0t ?_
  cases H
  exact ⟨trivial,⟨y75 rfl rfl,trivial⟩,rfl⟩
 ·rintro k7 ⟨c4,c5,l6⟩ q8 h10 H hq8
  replace H:z36 k7 c4 c5 l6=some q8:=H
  unfold z36 at H
  refine z0c ?_
  refine z0b hN rfl ?_
  refine z0a (z03 rfl rfl) ?_
  refine z0c ?_
  refine z0k _ rfl (fun h => ?_) (fun h=>(x97 h10 h).elim)
  refine z0q ?_
  refine z0c ?_
  refine z0w ?_
  refine z0b hN rfl ?_
  refine z0a (z0j (.row _ _) rfl) ?_
  refine z0a (z0j (.ptr _ _) rfl) ?_
  refine z0a (z09 (u':=vlst (List.map z1k [[97],[97,58,42],[97,58,98],[97,58,98,58,42],[97,58,98,58,99],[98],[98,58,42],[98,58,99],[42]])) (z1w [[_],[_],[_],[_],[_],[_],[_],[_],[_]] z83 ⟨rfl,.inl ⟨_,rfl,rfl,rfl⟩,rfl,rfl,.inl ⟨_,rfl,rfl,rfl⟩,rfl,rfl,.inl ⟨_,rfl,rfl,rfl⟩,rfl,rfl,.inl ⟨_,rfl,rfl,rfl⟩,rfl,rfl,.inl ⟨_,rfl,rfl,rfl⟩,rfl,rfl,.inl ⟨_,rfl,rfl,rfl⟩,rfl,rfl,.inl ⟨_,rfl,rfl,rfl⟩,rfl,rfl,.inl ⟨_,rfl,rfl,rfl⟩,rfl,rfl,.inl ⟨_,rfl,rfl,rfl⟩,rfl,trivial⟩ rfl rfl) rfl) ?_
  obtain ⟨r11,h12,H⟩:=bnd H
  refine z0g (z1f (z1r (z0d.mk c4 c5) ([[97],[97,58,42],[97,58,98],[97,58,98,58,42],[97,58,98,58,99],[98],[98,58,42],[98,58,99],[42]]) r11 h12) rfl ⟨.inl rfl,trivial⟩ rfl) rfl ?_
  refine z0a (z09 (u':=vlst (List.map z1k [r11.1])) (z1w [[_]] z83 ⟨rfl,.inl ⟨_,rfl,rfl,rfl⟩,rfl,trivial⟩ rfl rfl) rfl) ?_
  obtain ⟨h13,H⟩:=gif H
  refine z0g (y7t z83 (fun _=>rfl) rfl rfl rfl ⟨by simp,by first | (simp; done) | simpa using h13⟩ rfl) rfl ?_
  refine z0a (z1o (.row _ _) rfl) ?_
  refine z0b hN rfl ?_
  refine z0a (z3h rfl rfl (by omega)) ?_
  refine qd rfl ?_
  exact ⟨_,z5d H,⟨rfl,rfl,rfl,rfl,trivial⟩,⟨rfl,rfl,trivial⟩⟩
theorem x06 (s:Bs) (n:Int) (r:Bs) (H:y2m s n=some r):Fn Tryz.prog 119 [vstr s,vint n] (z1x [vstr r]):=by
 obtain ⟨h0,h1,h2,rfl⟩:=x7a H
 obtain ⟨c,rfl⟩:=Int.eq_ofNat_of_zero_le h0
 refine y9h (by kernel_rfl) fun M w vs h => ?_
 have hv:=x2q (us:=[.string ⟨s.toArray⟩,.int .i64 c]) h
 subst hv
 have hs:(ByteArray.mk s.toArray).size=s.length:=by simp [ByteArray.size]
 refine (Tryz.strings_Repeat ⟨s.toArray⟩ c w (by omega) (by rw [hs]; exact Nat.le_trans (Nat.mul_le_mul h2 (show c≤1000000 by omega)) (by decide))).mono ?_
 rintro e w' ⟨rfl,hb⟩
 exact ⟨_,rfl,by simp [z1x,vstr,vval],Kp.of_below hb⟩
theorem y7n (s1:z0d) (r:(Bs×z0d)) (H:z71 s1=some r):Imp Tryz.prog 103 25 (z0x s1) [] (z1x [vstr r.1]) (z0x r.2):=by
 refine y45 (us:=[vstr r.1]) (cs':=(z0x r.2)) (by kernel_rfl) Tryz.func103 rfl rfl rfl rfl fun X bl hN => ?_
 unfold z71 at H
 refine z0c ?_
 refine z0b hN rfl ?_
 refine qe rfl ?_
 refine z0c ?_
 refine z0c ?_
 refine z0b hN rfl ?_
 refine z0a (z0j (.ptr _ _) rfl) ?_
 obtain ⟨r2,h3,H⟩:=bnd H
 refine z0g (z1f (z1v s1 25 r2 h3) rfl ⟨.inl rfl,trivial⟩ rfl) rfl ?_
 refine z0k _ rfl (fun h4 => ?_) (fun h4 => ?_)
 ·replace H:=ift h4 H
  refine z0c ?_
  refine z0b hN rfl ?_
  refine z0a (z0j (.ptr _ _) rfl) ?_
  obtain ⟨r5,h6,H⟩:=bnd H
  refine z0a (z0z (x06 [97,58] 10 r5 h6) ⟨.inl rfl,.inl rfl,trivial⟩) ?_
  obtain ⟨h7,H⟩:=gif H
  refine z0a (w3w rfl rfl (Nat.le_trans h7 (by decide))) ?_
  refine z0a (z09 (u':=vlst (List.map z1k [[],[97,58,42,58,98],[65],[97,58,58,98],[97,58],[42,42],[97,42],(r5++[97])])) (z1w [[_],[_],[_],[_],[_],[_],[_],[_]] z83 ⟨rfl,.inl ⟨_,rfl,rfl,rfl⟩,rfl,rfl,.inl ⟨_,rfl,rfl,rfl⟩,rfl,rfl,.inl ⟨_,rfl,rfl,rfl⟩,rfl,rfl,.inl ⟨_,rfl,rfl,rfl⟩,rfl,rfl,.inl ⟨_,rfl,rfl,rfl⟩,rfl,rfl,.inl ⟨_,rfl,rfl,rfl⟩,rfl,rfl,.inl ⟨_,rfl,rfl,rfl⟩,rfl,rfl,.inl ⟨_,rfl,rfl,rfl⟩,rfl,trivial⟩ rfl rfl) rfl) ?_
  obtain ⟨r8,h9,H⟩:=bnd H
  refine z0g (z1f (z1r r2.2 ([[],[97,58,42,58,98],[65],[97,58,58,98],[97,58],[42,42],[97,42],(r5++[97])]) r8 h9) rfl ⟨.inl rfl,trivial⟩ rfl) rfl ?_
  refine qe rfl ?_
  refine z0t ?_
  cases H
  exact ⟨trivial,⟨.inl rfl,trivial⟩,rfl⟩
 ·replace H:=iff_ h4 H
  refine z0q ?_
  refine z0c ?_
  refine z0b hN rfl ?_
  refine z0a (z0j (.ptr _ _) rfl) ?_
  refine z0a (z09 (u':=vlst (List.map z1k [[42],[97],[97,58,42],[97,58,98],[97,58,98,58,42],[97,58,98,58,99],[98],[98,58,42],[98,58,99],[99]])) (z1w [[_],[_],[_],[_],[_],[_],[_],[_],[_],[_]] z83 ⟨rfl,.inl ⟨_,rfl,rfl,rfl⟩,rfl,rfl,.inl ⟨_,rfl,rfl,rfl⟩,rfl,rfl,.inl ⟨_,rfl,rfl,rfl⟩,rfl,rfl,.inl ⟨_,rfl,rfl,rfl⟩,rfl,rfl,.inl ⟨_,rfl,rfl,rfl⟩,rfl,rfl,.inl ⟨_,rfl,rfl,rfl⟩,rfl,rfl,.inl ⟨_,rfl,rfl,rfl⟩,rfl,rfl,.inl ⟨_,rfl,rfl,rfl⟩,rfl,rfl,.inl ⟨_,rfl,rfl,rfl⟩,rfl,rfl,.inl ⟨_,rfl,rfl,rfl⟩,rfl,trivial⟩ rfl rfl) rfl) ?_
  obtain ⟨r10,h11,H⟩:=bnd H
  refine z0g (z1f (z1r r2.2 ([[42],[97],[97,58,42],[97,58,98],[97,58,98,58,42],[97,58,98,58,99],[98],[98,58,42],[98,58,99],[99]]) r10 h11) rfl ⟨.inl rfl,trivial⟩ rfl) rfl ?_
  refine qe rfl ?_
  refine z0t ?_
  cases H
  exact ⟨trivial,⟨.inl rfl,trivial⟩,rfl⟩
theorem y5l (s1:z0d) (r:((List Bs)×z0d)) (H:z26 s1=some r):FnG Tryz.prog 102 [.ptr 0 0] [(0,.box (some 0) 25 (List.map .dat (z0x s1)))] (.row 1 r.1.length) [(0,.box (some 0) 25 (List.map .dat (z0x r.2))),(1,.row 9 1 (List.map z1k r.1))]:=by
 refine y5v (by kernel_rfl) Tryz.func102 rfl rfl rfl rfl fun X A hN => ?_
 unfold z26 at H
 refine z0c ?_
 refine z0b hN rfl ?_
 refine qe rfl ?_
 refine z0c ?_
 refine z0b hN rfl ?_
 refine qe rfl ?_
 refine z0c ?_
 refine z0c ?_
 refine z0b hN rfl ?_
 refine z0a (z0j (.ptr _ _) rfl) ?_
 obtain ⟨r2,h3,H⟩:=bnd H
 refine z0g (z1f (z78 s1 0 4 r2 h3) rfl ⟨.inl rfl,.inl rfl,trivial⟩ rfl) rfl ?_
 refine qd rfl ?_
 refine z0w ?_
 refine y2w 3 1 9 1 rfl rfl rfl ?_
 obtain ⟨h9,H⟩:=gif H
 refine y65 (fun (k7:Nat) (s:(List Int)×Int×(List Bs))=>[(0,.ptr 0 0),(3,.row 1 s.2.2.length),(5,.dat (vint r2.1)),(6,.dat (vint (k7:Int)))]) (fun (k7:Nat) (s:(List Int)×Int×(List Bs))=>[(0,.box (some (A.bl 0)) 25 [.dat (vlst (List.map z5a s.1)),.dat (vint s.2.1)]),(1,.row 9 1 (List.map z1k s.2.2))]) (r2.2.L,r2.2.at_,[]) H ⟨rfl,rfl,rfl,rfl,trivial⟩ ⟨rfl,rfl,trivial⟩ (fun _ _=>rfl) ?_ ?_
 ·rintro ⟨c4,c5,l6⟩ H
  replace H:z40 c4 c5 l6=some r:=H
  unfold z40 at H
  refine z0c ?_
  refine z0b hN rfl ?_
  refine z0a (z03 rfl rfl) ?_
  refine z0c ?_
  refine z0k _ rfl (fun h=>(x96 h).elim) (fun h => ?_)
  refine z1j ?_
  refine z0c ?_
  refine z0b hN rfl ?_
  refine z0a (z0j (.row _ _) rfl) ?_
  refine z0a (z1o (.row _ _) rfl) ?_
  refine z0t ?_
  cases H
  exact ⟨trivial,[(2,.row 1 _)],⟨rfl,trivial⟩,⟨rfl,rfl,trivial⟩,rfl,.inr (.inl ⟨2,rfl,rfl⟩)⟩
 ·rintro k7 ⟨c4,c5,l6⟩ q8 h10 H hq8
  replace H:z36 k7 c4 c5 l6=some q8:=H
  unfold z36 at H
  refine z0c ?_
  refine z0b hN rfl ?_
  refine z0a (z03 rfl rfl) ?_
  refine z0c ?_
  refine z0k _ rfl (fun h => ?_) (fun h=>(x97 h10 h).elim)
  refine z0q ?_
  refine z0c ?_
  refine z0w ?_
  refine z0b hN rfl ?_
  refine z0a (z0j (.row _ _) rfl) ?_
  refine z0a (z0j (.ptr _ _) rfl) ?_
  refine z0a (z09 (u':=vlst (List.map z1k [[97],[97,58,42],[97,58,98],[97,58,98,58,42],[97,58,98,58,99],[98],[98,58,42],[98,58,99],[42]])) (z1w [[_],[_],[_],[_],[_],[_],[_],[_],[_]] z83 ⟨rfl,.inl ⟨_,rfl,rfl,rfl⟩,rfl,rfl,.inl ⟨_,rfl,rfl,rfl⟩,rfl,rfl,.inl ⟨_,rfl,rfl,rfl⟩,rfl,rfl,.inl ⟨_,rfl,rfl,rfl⟩,rfl,rfl,.inl ⟨_,rfl,rfl,rfl⟩,rfl,rfl,.inl ⟨_,rfl,rfl,rfl⟩,rfl,rfl,.inl ⟨_,rfl,rfl,rfl⟩,rfl,rfl,.inl ⟨_,rfl,rfl,rfl⟩,rfl,rfl,.inl ⟨_,rfl,rfl,rfl⟩,rfl,trivial⟩ rfl rfl) rfl) ?_
  obtain ⟨r11,h12,H⟩:=bnd H
  refine z0g (z1f (z1r (z0d.mk c4 c5) ([[97],[97,58,42],[97,58,98],[97,58,98,58,42],[97,58,98,58,99],[98],[98,58,42],[98,58,99],[42]]) r11 h12) rfl ⟨.inl rfl,trivial⟩ rfl) rfl ?_
  refine z0a (z09 (u':=vlst (List.map z1k [r11.1])) (z1w [[_]] z83 ⟨rfl,.inl ⟨_,rfl,rfl,rfl⟩,rfl,trivial⟩ rfl rfl) rfl) ?_
  obtain ⟨h13,H⟩:=gif H
  refine z0g (y7t z83 (fun _=>rfl) rfl rfl rfl ⟨by simp,by first | (simp; done) | simpa using h13⟩ rfl) rfl ?_
  refine z0a (z1o (.row _ _) rfl) ?_
  refine z0b hN rfl ?_
  refine z0a (z3h rfl rfl (by omega)) ?_
  refine qd rfl ?_
  exact ⟨_,z5d H,⟨rfl,rfl,rfl,rfl,trivial⟩,⟨rfl,rfl,trivial⟩⟩
theorem y7g (s1:z0d) (r:((List Bs)×z0d)) (H:z7g s1=some r):Imp Tryz.prog 67 25 (z0x s1) [] (z1x [vlst (List.map z1k r.1)]) (z0x r.2):=by
 refine y45 (us:=[vlst (List.map z1k r.1)]) (cs':=(z0x r.2)) (by kernel_rfl) Tryz.func67 rfl rfl rfl rfl fun X bl hN => ?_
 unfold z7g at H
 refine z0c ?_
 refine z0b hN rfl ?_
 refine qe rfl ?_
 refine z0c ?_
 refine z0b hN rfl ?_
 refine z0a (z0j (.ptr _ _) rfl) ?_
 obtain ⟨r2,h3,H⟩:=bnd H
 refine z4y (rn [(0,0),(1,1)]) [(0,_,_,some _)] [(1,_)] (y5l s1 r2 h3) ⟨rfl,rfl,trivial⟩ ⟨.inl (.inl rfl),trivial⟩ ⟨⟨⟨rfl,rfl⟩,trivial⟩,trivial⟩ rfl ?_
 refine z0a (z1o (.row _ _) rfl) ?_
 refine z07 (ι:=(List Bs)×(List Int)×Int) (fun i=>[(0,.ptr 0 0),(3,.row 1 i.1.length)]) (fun i=>[(0,.box (some bl) 25 [.dat (vlst (List.map z5a i.2.1)),.dat (vint i.2.2)]),(1,.row 9 1 (List.map z1k i.1))]) (fun i=>z4l i.1 i.2.1 i.2.2=some r) (fun i=>rfl) ?_ ?_
 ·skip
  refine z0c ?_
  refine z0b hN rfl ?_
  refine z0a (z0j (.ptr _ _) rfl) ?_
  obtain ⟨r4,h5,H⟩:=bnd H
  refine z0g (z1f (z1v r2.2 6 r4 h5) rfl ⟨.inl rfl,trivial⟩ rfl) rfl ?_
  refine z0k _ rfl (fun h6 => ?_) (fun h6 => ?_)
  ·replace H:=ift h6 H
   refine z0b hN rfl ?_
   refine z0a (z0j (.row _ _) rfl) ?_
   refine z0a (z0j (.ptr _ _) rfl) ?_
   obtain ⟨r7,h8,H⟩:=bnd H
   refine z0g (z1f (y7n r4.2 r7 h8) rfl trivial rfl) rfl ?_
   refine z0a (z09 (u':=vlst (List.map z1k [r7.1])) (z1w [[_]] z83 ⟨rfl,.inl ⟨_,rfl,rfl,rfl⟩,rfl,trivial⟩ rfl rfl) rfl) ?_
   obtain ⟨h9,H⟩:=gif H
   refine z0g (y7t z83 (fun _=>rfl) rfl rfl rfl ⟨by simp,by first | (simp; done) | simpa using h9⟩ rfl) rfl ?_
   refine z0a (z1o (.row _ _) rfl) ?_
   exact ⟨((r2.1++[r7.1]),r7.2.L,r7.2.at_),H,⟨rfl,rfl,trivial⟩,⟨rfl,rfl,trivial⟩⟩
  ·replace H:=iff_ h6 H
   refine z0q ?_
   exact ⟨(r2.1,r4.2.L,r4.2.at_),H,⟨rfl,rfl,trivial⟩,⟨rfl,rfl,trivial⟩⟩
 ·rintro ⟨out10,c11,c12⟩ H
  replace H:z4l out10 c11 c12=some r:=H
  unfold z4l at H
  refine w21 (ι:=(List Bs)×(List Int)×Int) (fun i=>[(3,.dat (vlst (List.map z1k i.1)))]) (fun i=>[(0,.box (some bl) 25 [.dat (vlst (List.map z5a i.2.1)),.dat (vint i.2.2)])]) (fun i=>z5p i.1 i.2.1 i.2.2=some r) (fun i=>rfl) (fun i=>rfl) ?_ ?_
  ·skip
   refine z0c ?_
   refine z0b hN rfl ?_
   refine z0a (z0j (.ptr _ _) rfl) ?_
   obtain ⟨r13,h14,H⟩:=bnd H
   refine z0g (z1f (z1v (z0d.mk c11 c12) 60 r13 h14) rfl ⟨.inl rfl,trivial⟩ rfl) rfl ?_
   refine z0k _ rfl (fun h15 => ?_) (fun h15 => ?_)
   ·replace H:=ift h15 H
    refine z0b hN rfl ?_
    obtain ⟨h16,H⟩:=gif H
    refine z0g (w77 (C:=z1k) 2 [] z83 tyZ9 rfl rfl rfl rfl h16 rfl) rfl ?_
    refine z0a (z1o (.row _ _) rfl) ?_
    exact ⟨[(3,2)],_,_,_,_,rfl,rfl,by simp,⟨((List.replicate 51 []),r13.2.L,r13.2.at_),H,⟨.inl rfl,trivial⟩,⟨rfl,trivial⟩⟩⟩
   ·replace H:=iff_ h15 H
    refine z0q ?_
    exact ⟨[(3,1)],_,_,_,_,rfl,rfl,by simp,⟨(out10,r13.2.L,r13.2.at_),H,⟨.inl rfl,trivial⟩,⟨rfl,trivial⟩⟩⟩
  ·rintro ⟨out17,c18,c19⟩ H
   replace H:z5p out17 c18 c19=some r:=H
   unfold z5p at H
   refine z0c ?_
   refine z0b hN rfl ?_
   refine qd rfl ?_
   refine qe rfl ?_
   refine z0t ?_
   cases H
   exact ⟨trivial,⟨.inl rfl,trivial⟩,rfl⟩
theorem y18 (s1:z0d) (r:(z0i×z0d)) (H:z3d s1=some r):Imp Tryz.prog 66 25 (z0x s1) [] (z1x [vagg (z1h r.1)]) (z0x r.2):=by
 refine y45 (us:=[vagg (z1h r.1)]) (cs':=(z0x r.2)) (by kernel_rfl) Tryz.func66 rfl rfl rfl rfl fun X bl hN => ?_
 unfold z3d at H
 refine z0c ?_
 refine z0b hN rfl ?_
 refine z0g (z1m 1 y72 rfl) rfl ?_
 refine z0c ?_
 refine z0b hN rfl ?_
 refine z0a (z0j (.ptr _ _) rfl) ?_
 obtain ⟨r2,h3,H⟩:=bnd H
 refine z0g (z1f (y2q s1 r2 h3) rfl trivial rfl) rfl ?_
 refine z0a (z09 (u':=vagg (z0y (z0r.mk [109,97,112,115] r2.1))) (z3k [(0,[vstr [109,97,112,115]]),(1,[vlst (List.map z1k r2.1)])] x0w x2z rfl ⟨rfl,.inl ⟨_,rfl,rfl,rfl⟩,rfl,rfl,.inl ⟨_,rfl,rfl,rfl⟩,rfl,trivial⟩) rfl) ?_
 refine z0a (z09 (u':=vlst (List.map z1k [[111,114,100,101,114,115]])) (z1w [[_]] z83 ⟨rfl,.inl ⟨_,rfl,rfl,rfl⟩,rfl,trivial⟩ rfl rfl) rfl) ?_
 refine z0a (z09 (u':=vagg (z0y (z0r.mk [115,104,111,112] ([[111,114,100,101,114,115]])))) (z3k [(0,[vstr [115,104,111,112]]),(1,[vlst (List.map z1k ([[111,114,100,101,114,115]]))])] x0w x2z rfl ⟨rfl,.inl ⟨_,rfl,rfl,rfl⟩,rfl,rfl,.inl ⟨_,rfl,rfl,rfl⟩,rfl,trivial⟩) rfl) ?_
 refine z0a (z09 (u':=vlst (List.map z0y [(z0r.mk [109,97,112,115] r2.1),(z0r.mk [115,104,111,112] ([[111,114,100,101,114,115]]))])) (z1w [_,_] w0s ⟨rfl,.inr rfl,rfl,rfl,.inr rfl,rfl,trivial⟩ rfl rfl) rfl) ?_
 refine z0a (z09 (u':=vagg [vlst (List.map z0y ([(z0r.mk [109,97,112,115] r2.1),(z0r.mk [115,104,111,112] ([[111,114,100,101,114,115]]))])),vnil]) (z3k [(0,[vlst (List.map z0y ([(z0r.mk [109,97,112,115] r2.1),(z0r.mk [115,104,111,112] ([[111,114,100,101,114,115]]))]))])] y72 w57 rfl ⟨rfl,.inl ⟨_,rfl,rfl,rfl⟩,rfl,trivial⟩) rfl) ?_
 refine z0g (z1m 2 y72 rfl) rfl ?_
 refine z0g (z08 z5x rfl rfl rfl rfl) rfl ?_
 refine y7o 2 1 3 83 8 rfl rfl rfl rfl ?_
 refine z0c ?_
 refine z0c ?_
 refine z0b hN rfl ?_
 refine z0a (z09 (u':=vlst (List.map z1k [[98,105,103],[102,114,101,101],[109,105,100],[115,109,97,108,108]])) (z1w [[_],[_],[_],[_]] z83 ⟨rfl,.inl ⟨_,rfl,rfl,rfl⟩,rfl,rfl,.inl ⟨_,rfl,rfl,rfl⟩,rfl,rfl,.inl ⟨_,rfl,rfl,rfl⟩,rfl,rfl,.inl ⟨_,rfl,rfl,rfl⟩,rfl,trivial⟩ rfl rfl) rfl) ?_
 refine z0a (z5b y4g rfl) ?_
 refine qd rfl ?_
 refine z0w ?_
 obtain ⟨h9,H⟩:=gif H
 refine z32 (fun (k7:Nat) (s:(List z0p)×(List Int)×Int)=>[(0,.ptr 0 0),(2,.ptr 1 0),(3,.ptr 2 0),(15,.dat (vlst (List.map z1k ([[98,105,103],[102,114,101,101],[109,105,100],[115,109,97,108,108]])))),(16,.dat (vint (([[98,105,103],[102,114,101,101],[109,105,100],[115,109,97,108,108]]).length:Int))),(17,.dat (vint (k7:Int)))]) (fun (k7:Nat) (s:(List z0p)×(List Int)×Int)=>[(0,.box (some bl) 25 [.dat (vlst (List.map z5a s.2.1)),.dat (vint s.2.2)]),(1,.box none 29 [.dat (vnil),.dat (vnil)]),(2,.box none 29 [.dat (vlst (List.map z0y ([(z0r.mk [109,97,112,115] r2.1),(z0r.mk [115,104,111,112] ([[111,114,100,101,114,115]]))]))),.row 3 s.1.length]),(3,.row 83 8 (List.map z01 s.1))]) (([]:List z0p),r2.2.L,r2.2.at_) H ⟨rfl,rfl,rfl,rfl,rfl,rfl,trivial⟩ ⟨rfl,rfl,(congrArg (fun n=>some (some (AObj.box none 29 [.dat (vlst (List.map z0y ([(z0r.mk [109,97,112,115] r2.1),(z0r.mk [115,104,111,112] ([[111,114,100,101,114,115]]))]))),.row 3 n]))) (show 0=([]:List z0p).length from (by simp))),rfl,trivial⟩ (fun _ _=>rfl) ?_ ?_
 ·rintro ⟨l4,c5,c6⟩ H
  replace H:z30 r2 l4 c5 c6=some r:=H
  unfold z30 at H
  refine z0c ?_
  refine z0b hN rfl ?_
  refine z0a (z03 rfl rfl) ?_
  refine z0c ?_
  refine z0k _ rfl (fun h=>(lt_t h).elim) (fun h => ?_)
  refine z1j ?_
  refine z0c ?_
  refine y97 2 1 3 rfl rfl rfl (by rw [List.length_map]) ?_
  refine z0b hN rfl ?_
  refine z0h (z06 z5x rfl rfl rfl) rfl ?_
  refine z0g (z08 z5x rfl rfl rfl rfl) rfl ?_
  refine z0t ?_
  cases H
  exact ⟨trivial,⟨.inl ⟨_,_,_,z1h (z0i.mk ([(z0r.mk [109,97,112,115] r2.1),(z0r.mk [115,104,111,112] ([[111,114,100,101,114,115]]))]) l4),rfl,rfl,rfl,rfl,z5x⟩,trivial⟩,rfl⟩
 ·rintro k7 x10 ⟨l4,c5,c6⟩ q8 h11 h12 H hq8
  replace H:z3y k7 x10 l4 c5 c6=some q8:=H
  unfold z3y at H
  refine x3n ?_
  refine z0c ?_
  refine z0b hN rfl ?_
  refine z0a (z03 rfl rfl) ?_
  refine z0c ?_
  refine z0k _ rfl (fun h => ?_) (fun h=>(lt_f h11 h).elim)
  refine z0q ?_
  refine z07 (ι:=(List Int)×Int×(List z0p)) (fun i=>[(0,.ptr 0 0),(2,.ptr 1 0),(3,.ptr 2 0),(15,.dat (vlst (List.map z1k ([[98,105,103],[102,114,101,101],[109,105,100],[115,109,97,108,108]])))),(16,.dat (vint (([[98,105,103],[102,114,101,101],[109,105,100],[115,109,97,108,108]]).length:Int))),(17,.dat (vint (k7:Int)))]) (fun i=>[(0,.box (some bl) 25 [.dat (vlst (List.map z5a i.1)),.dat (vint i.2.1)]),(1,.box none 29 [.dat (vnil),.dat (vnil)]),(2,.box none 29 [.dat (vlst (List.map z0y ([(z0r.mk [109,97,112,115] r2.1),(z0r.mk [115,104,111,112] ([[111,114,100,101,114,115]]))]))),.row 3 i.2.2.length]),(3,.row 83 8 (List.map z01 i.2.2))]) (fun i=>z10 i.1 i.2.1 i.2.2=some q8) (fun i=>rfl) ?_ ?_
  ·refine x3n ?_
   refine z0w ?_
   refine z0c ?_
   refine z0b hN rfl ?_
   refine z0a (y2a y74 (fun _=>rfl) rfl rfl h12) ?_
   refine z0a (z24 tyS9 rfl (z3e h12) rfl) ?_
   refine qe rfl ?_
   refine z0c ?_
   refine z0c ?_
   refine z0b hN rfl ?_
   refine z0a (z0j (.ptr _ _) rfl) ?_
   obtain ⟨r13,h14,H⟩:=bnd H
   refine z0g (z1f (z1v (z0d.mk c5 c6) 5 r13 h14) rfl ⟨.inl rfl,trivial⟩ rfl) rfl ?_
   refine z0k _ rfl (fun h15 => ?_) (fun h15 => ?_)
   ·replace H:=ift h15 H
    refine z1j ?_
    show Cv _ _ _ _
    refine x7s ?_
    exact ⟨(r13.2.L,r13.2.at_,l4),H,⟨rfl,rfl,rfl,rfl,rfl,rfl,trivial⟩,⟨rfl,rfl,rfl,rfl,trivial⟩⟩
   ·replace H:=iff_ h15 H
    refine z0q ?_
    refine z0c ?_
    refine z0b hN rfl ?_
    refine qd rfl ?_
    refine z0a (z0j (.ptr _ _) rfl) ?_
    refine z0a (z09 (u':=vlst (List.map z1k [[115,104,111,112],[115,104,111,112],[109,97,112,115]])) (z1w [[_],[_],[_]] z83 ⟨rfl,.inl ⟨_,rfl,rfl,rfl⟩,rfl,rfl,.inl ⟨_,rfl,rfl,rfl⟩,rfl,rfl,.inl ⟨_,rfl,rfl,rfl⟩,rfl,trivial⟩ rfl rfl) rfl) ?_
    obtain ⟨r16,h17,H⟩:=bnd H
    refine z0g (z1f (z1r r13.2 ([[115,104,111,112],[115,104,111,112],[109,97,112,115]]) r16 h17) rfl ⟨.inl rfl,trivial⟩ rfl) rfl ?_
    refine z0a (z0j (.ptr _ _) rfl) ?_
    refine z0a (z09 (u':=vlst (List.map z5a [0,0,1000,3000,31])) (z1w [[_],[_],[_],[_],[_]] y3v ⟨rfl,.inl ⟨_,rfl,rfl,rfl⟩,rfl,rfl,.inl ⟨_,rfl,rfl,rfl⟩,rfl,rfl,.inl ⟨_,rfl,rfl,rfl⟩,rfl,rfl,.inl ⟨_,rfl,rfl,rfl⟩,rfl,rfl,.inl ⟨_,rfl,rfl,rfl⟩,rfl,trivial⟩ rfl rfl) rfl) ?_
    obtain ⟨r18,h19,H⟩:=bnd H
    refine z0g (z1f (z1b r16.2 [0,0,1000,3000,31] r18 h19) rfl ⟨.inl rfl,trivial⟩ rfl) rfl ?_
    refine z0a (z0j (.ptr _ _) rfl) ?_
    refine z0a (z09 (u':=vlst (List.map z5a [0,10,100])) (z1w [[_],[_],[_]] y3v ⟨rfl,.inl ⟨_,rfl,rfl,rfl⟩,rfl,rfl,.inl ⟨_,rfl,rfl,rfl⟩,rfl,rfl,.inl ⟨_,rfl,rfl,rfl⟩,rfl,trivial⟩ rfl rfl) rfl) ?_
    obtain ⟨r20,h21,H⟩:=bnd H
    refine z0g (z1f (z1b r18.2 [0,10,100] r20 h21) rfl ⟨.inl rfl,trivial⟩ rfl) rfl ?_
    refine z0a (z0j (.ptr _ _) rfl) ?_
    refine z0a (z09 (u':=vlst (List.map z5a [(-1),(-1),0,1000])) (z1w [[_],[_],[_],[_]] y3v ⟨rfl,.inl ⟨_,rfl,rfl,rfl⟩,rfl,rfl,.inl ⟨_,rfl,rfl,rfl⟩,rfl,rfl,.inl ⟨_,rfl,rfl,rfl⟩,rfl,rfl,.inl ⟨_,rfl,rfl,rfl⟩,rfl,trivial⟩ rfl rfl) rfl) ?_
    obtain ⟨r22,h23,H⟩:=bnd H
    refine z0g (z1f (z1b r20.2 [(-1),(-1),0,1000] r22 h23) rfl ⟨.inl rfl,trivial⟩ rfl) rfl ?_
    refine z0a (z0j (.ptr _ _) rfl) ?_
    refine z0a (z09 (u':=vlst (List.map z5a [0,0,1,2])) (z1w [[_],[_],[_],[_]] y3v ⟨rfl,.inl ⟨_,rfl,rfl,rfl⟩,rfl,rfl,.inl ⟨_,rfl,rfl,rfl⟩,rfl,rfl,.inl ⟨_,rfl,rfl,rfl⟩,rfl,rfl,.inl ⟨_,rfl,rfl,rfl⟩,rfl,trivial⟩ rfl rfl) rfl) ?_
    obtain ⟨r24,h25,H⟩:=bnd H
    refine z0g (z1f (z1b r22.2 [0,0,1,2] r24 h25) rfl ⟨.inl rfl,trivial⟩ rfl) rfl ?_
    refine z0a (z0j (.ptr _ _) rfl) ?_
    obtain ⟨r26,h27,H⟩:=bnd H
    refine z0g (z1f (z1v r24.2 2 r26 h27) rfl ⟨.inl rfl,trivial⟩ rfl) rfl ?_
    refine z0a (z09 (u':=vagg [vstr x10,vstr r16.1,vint r18.1,vint r20.1,vnil,vint r22.1,vint r24.1,z1p r26.1]) (z3k [(0,[vstr x10]),(1,[vstr r16.1]),(2,[vint r18.1]),(3,[vint r20.1]),(5,[vint r22.1]),(6,[vint r24.1]),(7,[z1p r26.1])] y80 w3n rfl ⟨rfl,.inl ⟨_,rfl,rfl,rfl⟩,rfl,rfl,.inl ⟨_,rfl,rfl,rfl⟩,rfl,rfl,.inl ⟨_,rfl,rfl,rfl⟩,rfl,rfl,.inl ⟨_,rfl,rfl,rfl⟩,rfl,rfl,.inl ⟨_,rfl,rfl,rfl⟩,rfl,rfl,.inl ⟨_,rfl,rfl,rfl⟩,rfl,rfl,.inl ⟨_,rfl,rfl,rfl⟩,rfl,trivial⟩) rfl) ?_
    refine z0g (z1m 4 y80 rfl) rfl ?_
    refine z0g (z08 y47 rfl rfl rfl rfl) rfl ?_
    refine y7o 4 4 5 118 2 rfl rfl rfl rfl ?_
    refine z0c ?_
    refine z0b hN rfl ?_
    refine qe rfl ?_
    refine z0c ?_
    refine z0c ?_
    refine z0b hN rfl ?_
    refine z0a (z0j (.ptr _ _) rfl) ?_
    refine z0a (z09 (u':=vlst (List.map z5a [0,1,2,3])) (z1w [[_],[_],[_],[_]] y3v ⟨rfl,.inl ⟨_,rfl,rfl,rfl⟩,rfl,rfl,.inl ⟨_,rfl,rfl,rfl⟩,rfl,rfl,.inl ⟨_,rfl,rfl,rfl⟩,rfl,rfl,.inl ⟨_,rfl,rfl,rfl⟩,rfl,trivial⟩ rfl rfl) rfl) ?_
    obtain ⟨r28,h29,H⟩:=bnd H
    refine z0g (z1f (z1b r26.2 [0,1,2,3] r28 h29) rfl ⟨.inl rfl,trivial⟩ rfl) rfl ?_
    refine qd rfl ?_
    refine z0w ?_
    obtain ⟨h36,H⟩:=gif H
    refine y65 (fun (k34:Nat) (s:Int×(List z02)×(List Int)×Int)=>[(0,.ptr 0 0),(2,.ptr 1 0),(3,.ptr 2 0),(6,.ptr 4 0),(7,.dat (vint s.1)),(15,.dat (vlst (List.map z1k ([[98,105,103],[102,114,101,101],[109,105,100],[115,109,97,108,108]])))),(16,.dat (vint (([[98,105,103],[102,114,101,101],[109,105,100],[115,109,97,108,108]]).length:Int))),(17,.dat (vint (k7:Int))),(44,.dat (vint r28.1)),(45,.dat (vint (k34:Int)))]) (fun (k34:Nat) (s:Int×(List z02)×(List Int)×Int)=>[(0,.box (some bl) 25 [.dat (vlst (List.map z5a s.2.2.1)),.dat (vint s.2.2.2)]),(1,.box none 29 [.dat (vnil),.dat (vnil)]),(2,.box none 29 [.dat (vlst (List.map z0y ([(z0r.mk [109,97,112,115] r2.1),(z0r.mk [115,104,111,112] ([[111,114,100,101,114,115]]))]))),.row 3 l4.length]),(3,.row 83 8 (List.map z01 l4)),(4,.box none 83 [.dat (vstr x10),.dat (vstr r16.1),.dat (vint r18.1),.dat (vint r20.1),.row 5 s.2.1.length,.dat (vint r22.1),.dat (vint r24.1),.dat (z1p r26.1)]),(5,.row 118 2 (List.map z1y s.2.1))]) (1,([]:List z02),r28.2.L,r28.2.at_) H ⟨rfl,rfl,rfl,rfl,rfl,rfl,rfl,rfl,rfl,rfl,trivial⟩ ⟨rfl,rfl,rfl,rfl,(congrArg (fun n=>some (some (AObj.box none 83 [.dat (vstr x10),.dat (vstr r16.1),.dat (vint r18.1),.dat (vint r20.1),.row 5 n,.dat (vint r22.1),.dat (vint r24.1),.dat (z1p r26.1)]))) (show 0=([]:List z02).length from (by simp))),rfl,trivial⟩ (fun _ _=>rfl) ?_ ?_
    ·rintro ⟨v30,l31,c32,c33⟩ H
     replace H:z3z l4 x10 r16 r18 r20 r22 r24 r26 v30 l31 c32 c33=some q8:=H
     unfold z3z at H
     refine z0c ?_
     refine z0b hN rfl ?_
     refine z0a (z03 rfl rfl) ?_
     refine z0c ?_
     refine z0k _ rfl (fun h=>(x96 h).elim) (fun h => ?_)
     refine z1j ?_
     refine y97 4 4 5 rfl rfl rfl (by rw [List.length_map]) ?_
     refine z0b hN rfl ?_
     refine z0a (z0m y0o rfl) ?_
     refine z0h (z0l y57 rfl rfl) rfl ?_
     refine z0h (z06 y47 rfl rfl rfl) rfl ?_
     refine z0a (z09 (u':=vlst (List.map z01 [(z0p.mk x10 r16.1 r18.1 r20.1 l31 r22.1 r24.1 r26.1)])) (z1w [_] w0r ⟨rfl,.inr rfl,rfl,trivial⟩ rfl rfl) rfl) ?_
     obtain ⟨h37,H⟩:=gif H
     refine z0g (y7t w0r (fun _=>rfl) rfl rfl rfl ⟨by simp,by first | (simp; done) | simpa using h37⟩ rfl) rfl ?_
     refine z0a (z0m y0o rfl) ?_
     refine y9q (y69 y57 rfl rfl (by rw [List.length_map]) rfl) rfl rfl ?_
     refine x0d ?_
     show Cv _ _ _ _
     refine x7s ?_
     exact ⟨(c32,c33,(l4++[(z0p.mk x10 r16.1 r18.1 r20.1 l31 r22.1 r24.1 r26.1)])),H,⟨rfl,rfl,rfl,rfl,rfl,rfl,trivial⟩,⟨rfl,rfl,rfl,rfl,trivial⟩⟩
    ·rintro k34 ⟨v30,l31,c32,c33⟩ q35 h38 H hq35
     replace H:z3x k34 v30 l31 c32 c33=some q35:=H
     unfold z3x at H
     refine x3n ?_
     refine z0c ?_
     refine z0b hN rfl ?_
     refine z0a (z03 rfl rfl) ?_
     refine z0c ?_
     refine z0k _ rfl (fun h => ?_) (fun h=>(x97 h38 h).elim)
     refine z0q ?_
     refine z0c ?_
     refine z0w ?_
     refine z0c ?_
     refine z2n mixed hN rfl rfl ?_
     refine z0a (z0m y39 rfl) ?_
     refine z0h (z0l y81 rfl rfl) rfl ?_
     refine qd rfl ?_
     refine z0a (z0j (.ptr _ _) rfl) ?_
     refine z0a (z09 (u':=vlst (List.map z5a [0,100,500,1500])) (z1w [[_],[_],[_],[_]] y3v ⟨rfl,.inl ⟨_,rfl,rfl,rfl⟩,rfl,rfl,.inl ⟨_,rfl,rfl,rfl⟩,rfl,rfl,.inl ⟨_,rfl,rfl,rfl⟩,rfl,rfl,.inl ⟨_,rfl,rfl,rfl⟩,rfl,trivial⟩ rfl rfl) rfl) ?_
     obtain ⟨r39,h40,H⟩:=bnd H
     refine z0g (z1f (z1b (z0d.mk c32 c33) [0,100,500,1500] r39 h40) rfl ⟨.inl rfl,trivial⟩ rfl) rfl ?_
     refine z0a (z09 (u':=vagg (z1y (z02.mk v30 r39.1))) (z3k [(0,[vint v30]),(1,[vint r39.1])] x1m x70 rfl ⟨rfl,.inl ⟨_,rfl,rfl,rfl⟩,rfl,rfl,.inl ⟨_,rfl,rfl,rfl⟩,rfl,trivial⟩) rfl) ?_
     refine z0a (z09 (u':=vlst (List.map z1y [(z02.mk v30 r39.1)])) (z1w [_] x6p ⟨rfl,.inr rfl,rfl,trivial⟩ rfl rfl) rfl) ?_
     obtain ⟨h41,H⟩:=gif H
     refine z0g (y7t x6p (fun _=>rfl) rfl rfl rfl ⟨by simp,by first | (simp; done) | simpa using h41⟩ rfl) rfl ?_
     refine z0a (z0m y39 rfl) ?_
     refine y9q (y69 y81 rfl rfl (by rw [List.length_map]) rfl) rfl rfl ?_
     refine ⟨rfl,?_⟩
     refine z0b hN rfl ?_
     refine qd rfl ?_
     refine z0a (z0j (.ptr _ _) rfl) ?_
     refine z0a (z09 (u':=vlst (List.map z5a [1,9,100])) (z1w [[_],[_],[_]] y3v ⟨rfl,.inl ⟨_,rfl,rfl,rfl⟩,rfl,rfl,.inl ⟨_,rfl,rfl,rfl⟩,rfl,rfl,.inl ⟨_,rfl,rfl,rfl⟩,rfl,trivial⟩ rfl rfl) rfl) ?_
     obtain ⟨r42,h43,H⟩:=bnd H
     refine z0g (z1f (z1b r39.2 [1,9,100] r42 h43) rfl ⟨.inl rfl,trivial⟩ rfl) rfl ?_
     refine z0a (z05 _ rfl rfl (.inl ⟨rfl,rfl⟩)) ?_
     refine qe rfl ?_
     refine z0b hN rfl ?_
     refine z0a (z3h rfl rfl (by omega)) ?_
     refine qd rfl ?_
     refine x0d ?_
     show Cv _ _ _ _
     refine x7s ?_
     exact ⟨_,z5d H,⟨rfl,rfl,rfl,rfl,rfl,rfl,rfl,rfl,rfl,rfl,trivial⟩,⟨rfl,rfl,rfl,rfl,rfl,rfl,trivial⟩⟩
  ·rintro ⟨c44,c45,l46⟩ H
   replace H:z10 c44 c45 l46=some q8:=H
   unfold z10 at H
   refine z0b hN rfl ?_
   refine z0a (z3h rfl rfl (by omega)) ?_
   refine qd rfl ?_
   refine x0d ?_
   show Cv _ _ _ _
   refine x7s ?_
   exact ⟨_,z5d H,⟨rfl,rfl,rfl,rfl,rfl,rfl,trivial⟩,⟨rfl,rfl,rfl,rfl,trivial⟩⟩
def y6k (hv:Value) (x:z0p):List V:=[vstr x.Key,vstr x.Product,vint x.Base,vint x.Free,vval hv,vint x.Limit,vint x.Trial,z1p x.Asked]
def glQ (hv:Value):List z0p→Nat→List (List V)
 | [],_=>[]
 | p::ps,0=>y6k hv p::ps.map z01
 | p::ps,g+1=>z01 p::glQ hv ps g
def tieQ:List z0p→Nat→List z02
 | [],_=>[]
 | p::ps,0=>p.Tiers
 | p::ps,g+1=>tieQ ps g
abbrev glP (g:Nat) (hv:Value) (ps:List z0p):List (List V):=glQ hv ps g
abbrev y6a (g:Nat) (ps:List z0p):List z02:=tieQ ps g
theorem y1i:∀ (g:Nat) (hv:Value) (ps:List z0p),(glP g hv ps).length=ps.length
 | _,_,[]=>rfl
 | 0,hv,p::ps=>by simp [glP,glQ]
 | g+1,hv,p::ps=>by simp only [glP,glQ,List.length_cons]; rw [← y1i g hv ps]
theorem w2b:∀ (g:Nat) (hv hv':Value) (ps:List z0p) (p:z0p),(Nat.beq ps.length g=false→hv'=hv)→glP g hv' (ps++[p])=glP g hv ps++[cond (Nat.beq ps.length g) (y6k hv' p) (z01 p)]
 | 0,hv,hv',[],p,h=>rfl
 | g+1,hv,hv',[],p,h=>rfl
 | 0,hv,hv',q::ps,p,h=>by
  have h1:hv'=hv:=h rfl
  subst h1
  show y6k hv' q::List.map z01 (ps++[p])=(y6k hv' q::List.map z01 ps)++[z01 p]
  simp
 | g+1,hv,hv',q::ps,p,h=>by
  have h1:=w2b g hv hv' ps p (fun h2=>h h2)
  show z01 q::glP g hv' (ps++[p])=(z01 q::glP g hv ps)++[cond (Nat.beq ps.length g) (y6k hv' p) (z01 p)]
  rw [h1]; rfl
theorem x1s:∀ (g:Nat) (ps:List z0p) (p:z0p),List.map z1y (y6a g (ps++[p]))=cond (Nat.beq ps.length g) (List.map z1y p.Tiers) (List.map z1y (y6a g ps))
 | 0,[],p=>rfl
 | g+1,[],p=>by rfl
 | 0,q::ps,p=>rfl
 | g+1,q::ps,p=>x1s g ps p
theorem x6b:∀ (g:Nat) (hv:Value) (ps:List z0p) (p:z0p),ps[g]?=some p→(glP g hv ps)[g]?=some (y6k hv p)∧y6a g ps=p.Tiers
 | _,_,[],p,h=>by simp at h
 | 0,hv,q::ps,p,h=>by simp at h; subst h; exact ⟨rfl,rfl⟩
 | g+1,hv,q::ps,p,h=>by
  have:=x6b g hv ps p (by simpa using h)
  exact ⟨by simpa [glP,glQ] using this.1,this.2⟩
theorem w2a:∀ (g:Nat) (hv:Value) (ps:List z0p) (p:z0p),g < ps.length→(glP g hv ps).set g (z01 p)=(ps.set g p).map z01
 | _,_,[],p,h=>by simp at h
 | 0,hv,q::ps,p,h=>rfl
 | g+1,hv,q::ps,p,h=>by
  have:=w2a g hv ps p (by simpa using h)
  show z01 q::(glP g hv ps).set g (z01 p)=z01 q::(ps.set g p).map z01
  rw [this]
theorem x3j:∀ (g:Nat) (hv:Value) (ps:List z0p),UpH hv (List.map z1y (y6a g ps)) (glP g hv ps) (ps.map z01)
 | _,hv,[]=>⟨by simp [glP,glQ],fun k c el u h=>by simp at h⟩
 | 0,hv,p::ps=>⟨by simp [glP,glQ],fun k c el u h1 h2=>by
  cases k with
  | zero =>
   simp only [List.map_cons,List.getElem?_cons_zero,Option.some.injEq] at h1
   subst h1
   refine ⟨y6k hv p,?_⟩
   rcases c with _ | _ | _ | _ | _ | _ | _ | _ | c <;> simp only [z01,List.getElem?_cons_succ,List.getElem?_cons_zero,Option.some.injEq,List.getElem?_nil] at h2
   ·subst h2; exact ⟨_,rfl,rfl,.inl rfl⟩
   ·subst h2; exact ⟨_,rfl,rfl,.inl rfl⟩
   ·subst h2; exact ⟨_,rfl,rfl,.inl rfl⟩
   ·subst h2; exact ⟨_,rfl,rfl,.inl rfl⟩
   ·subst h2; exact ⟨_,rfl,rfl,.inr ⟨rfl,rfl⟩⟩
   ·subst h2; exact ⟨_,rfl,rfl,.inl rfl⟩
   ·subst h2; exact ⟨_,rfl,rfl,.inl rfl⟩
   ·subst h2; exact ⟨_,rfl,rfl,.inl rfl⟩
   ·cases h2
  | succ k=>exact ⟨el,u,by simpa [glP,glQ] using h1,h2,.inl rfl⟩⟩
 | g+1,hv,p::ps=>⟨by simp only [glP,glQ,List.length_cons,List.length_map]; rw [← y1i g hv ps],fun k c el u h1 h2=>by
  cases k with
  | zero=>exact ⟨el,u,by simpa [glP,glQ] using h1,h2,.inl rfl⟩
  | succ k =>
   obtain ⟨e1,u1,q1,q2,q3⟩:=(x3j g hv ps).2 k c el u (by simpa using h1) h2
   exact ⟨e1,u1,by simpa [glP,glQ] using q1,q2,q3⟩⟩
theorem y77 (ps:List z0p):∀ el,el∈ps.map z01→el.length=8:=fun el h=>by obtain ⟨p,_,rfl⟩:=List.mem_map.1 h; rfl
theorem x03 {X:Ctx} {Q:Exit→(Nat→Slot)→Own→Prop} {f:Nat→Slot} {ops:Array Oper} {os:List Oper} {dst:Option Tmp} {ty:TypeId} {pos:String} {af:Array Edge} {ts:Array TypeId} {x:Tmp} {NX:Nat} (bl b2 G:Nat) (s1:z0d) (r:(z0i×z0d)) (H:z3d s1=some r) (hX:X.N=NX) (hNX:y7s NX ops=true) (hx:f x = .ptr 0 0) (h0:f 0 = .ptr 0 0) (h2:f 2 = .ptr 40 0)
    (hK:∀ hv1 hv2 hv:Value,SeqW Tryz.prog X ops os (updS (frs (x5g [(0,0),(2,40)])) dst (.dat (vagg [vval hv1,vval hv2]))) (ows [(0,.box (some bl) 25 [.dat (vlst (List.map z5a r.2.L)),.dat (vint r.2.at_)]),(40,.box (some b2) 29 [.dat vnil,.dat vnil]),(1,.box none 29 [.dat (vval hv1),.dat (vval hv2)]),(10,.rowA hv1 107 2 (List.map z0y r.1.Products)),(11,.rowA hv2 83 8 (glP G hv r.1.Plans)),(12,.rowA hv 118 2 (List.map z1y (y6a G r.1.Plans)))]) Q) :
    SeqW Tryz.prog X ops (⟨dst,.call { callee := .value (.func 66),args:=[Operand.tmp x].toArray,argTypes:=ts },ty,pos,af,none⟩::os) f (ows [(0,.box (some bl) 25 (List.map .dat (z0x s1))),(40,.box (some b2) 29 [.dat vnil,.dat vnil])]) Q:=by
 refine x65 [.ptr 0 0] [(0,0),(2,40)] (by kernel_rfl) Tryz.func66 rfl rfl rfl rfl hX hNX (by simp [evS,hx]) (fun y hy n=>by simp at hy; subst hy; exact fun h=>by cases h) fun X hN => ?_
 unfold z3d at H
 refine z0c ?_
 refine z0b hN rfl ?_
 refine z0g (z1m 1 y72 rfl) rfl ?_
 refine z0c ?_
 refine z0b hN rfl ?_
 refine z0a (z0j (.ptr _ _) rfl) ?_
 obtain ⟨r2,h3,H⟩:=bnd H
 refine z0g (z1f (y2q s1 r2 h3) rfl trivial rfl) rfl ?_
 refine z0a (z09 (u':=vagg (z0y (z0r.mk [109,97,112,115] r2.1))) (z3k [(0,[vstr [109,97,112,115]]),(1,[vlst (List.map z1k r2.1)])] x0w x2z rfl ⟨rfl,.inl ⟨_,rfl,rfl,rfl⟩,rfl,rfl,.inl ⟨_,rfl,rfl,rfl⟩,rfl,trivial⟩) rfl) ?_
 refine z0a (z09 (u':=vlst (List.map z1k [[111,114,100,101,114,115]])) (z1w [[_]] z83 ⟨rfl,.inl ⟨_,rfl,rfl,rfl⟩,rfl,trivial⟩ rfl rfl) rfl) ?_
 refine z0a (z09 (u':=vagg (z0y (z0r.mk [115,104,111,112] ([[111,114,100,101,114,115]])))) (z3k [(0,[vstr [115,104,111,112]]),(1,[vlst (List.map z1k ([[111,114,100,101,114,115]]))])] x0w x2z rfl ⟨rfl,.inl ⟨_,rfl,rfl,rfl⟩,rfl,rfl,.inl ⟨_,rfl,rfl,rfl⟩,rfl,trivial⟩) rfl) ?_
 refine z0g (x76 (C:=z0y) 8 ([(z0r.mk [109,97,112,115] r2.1),(z0r.mk [115,104,111,112] ([[111,114,100,101,114,115]]))]:List z0r) w0s ⟨rfl,.inr rfl,rfl,rfl,.inr rfl,rfl,trivial⟩ rfl rfl rfl) rfl ?_
 refine z0h (x77 (s' := .comp false [.row 8 2,.dat vnil]) (x3b [(8,some (some (.row 107 2 (List.map z0y [(z0r.mk [109,97,112,115] r2.1),(z0r.mk [115,104,111,112] ([[111,114,100,101,114,115]]))]))))] [(0,[.row 8 2])] y72 w57 rfl ⟨rfl,.inr (.inl ⟨_,_,_,_,_,rfl,.head _,rfl,rfl⟩),rfl,trivial⟩) rfl) rfl ?_
 refine z0g (z1m 2 y72 rfl) rfl ?_
 refine z0g (x9l z5x rfl rfl rfl rfl) rfl ?_
 refine y7o 2 1 3 83 8 rfl rfl rfl rfl ?_
 refine w24 6 118 2 rfl rfl ?_
 refine z0c ?_
 refine z0c ?_
 refine z0b hN rfl ?_
 refine z0a (z09 (u':=vlst (List.map z1k [[98,105,103],[102,114,101,101],[109,105,100],[115,109,97,108,108]])) (z1w [[_],[_],[_],[_]] z83 ⟨rfl,.inl ⟨_,rfl,rfl,rfl⟩,rfl,rfl,.inl ⟨_,rfl,rfl,rfl⟩,rfl,rfl,.inl ⟨_,rfl,rfl,rfl⟩,rfl,rfl,.inl ⟨_,rfl,rfl,rfl⟩,rfl,trivial⟩ rfl rfl) rfl) ?_
 refine z0a (z5b y4g rfl) ?_
 refine qd rfl ?_
 refine z0w ?_
 obtain ⟨h9,H⟩:=gif H
 refine w25 (γ:=Value) (fun (k7:Nat) (s:(List z0p)×(List Int)×Int) (hv:Value)=>[(0,.ptr 0 0),(2,.ptr 1 0),(3,.ptr 2 0),(15,.dat (vlst (List.map z1k ([[98,105,103],[102,114,101,101],[109,105,100],[115,109,97,108,108]])))),(16,.dat (vint (([[98,105,103],[102,114,101,101],[109,105,100],[115,109,97,108,108]]).length:Int))),(17,.dat (vint (k7:Int)))]) (fun (k7:Nat) (s:(List z0p)×(List Int)×Int) (hv:Value)=>[(0,.box (some bl) 25 [.dat (vlst (List.map z5a s.2.1)),.dat (vint s.2.2)]),(1,.box none 29 [.dat (vnil),.dat (vnil)]),(2,.box none 29 [.row 8 2,.row 3 s.1.length]),(3,.row 83 8 (glP G hv s.1)),(6,.rowA hv 118 2 (List.map z1y (y6a G s.1))),(8,.row 107 2 (List.map z0y [(z0r.mk [109,97,112,115] r2.1),(z0r.mk [115,104,111,112] ([[111,114,100,101,114,115]]))])),(40,.box (some b2) 29 [.dat (vnil),.dat (vnil)])]) (([]:List z0p),r2.2.L,r2.2.at_) (.slice none 0 0) H ⟨rfl,rfl,rfl,rfl,rfl,rfl,trivial⟩ ⟨rfl,rfl,rfl,rfl,rfl,rfl,rfl,trivial⟩ (fun _ _ _=>rfl) ?_ ?_
 ·rintro ⟨l4,c5,c6⟩ hv H
  replace H:z30 r2 l4 c5 c6=some r:=H
  unfold z30 at H
  refine z0c ?_
  refine z0b hN rfl ?_
  refine z0a (z03 rfl rfl) ?_
  refine z0c ?_
  refine z0k _ rfl (fun h=>(lt_t h).elim) (fun h => ?_)
  refine z1j ?_
  refine z0c ?_
  refine x86 2 1 3 11 rfl rfl rfl (y1i _ _ _).symm rfl fun hv2 => ?_
  refine x86 2 0 8 10 rfl rfl rfl rfl rfl fun hv1 => ?_
  refine x84 6 12 rfl rfl ?_
  refine z0b hN rfl ?_
  refine z0h (z06 z5x rfl rfl rfl) rfl ?_
  refine z0g (z08 z5x rfl rfl rfl rfl) rfl ?_
  cases H
  refine x85 [(2,.ptr 1 0)] [(0,.box (some bl) 25 [.dat (vlst (List.map z5a c5)),.dat (vint c6)]),(40,.box (some b2) 29 [.dat vnil,.dat vnil]),(1,.box none 29 [.dat (vval hv1),.dat (vval hv2)]),(10,.rowA hv1 107 2 (List.map z0y [(z0r.mk [109,97,112,115] r2.1),(z0r.mk [115,104,111,112] ([[111,114,100,101,114,115]]))])),(11,.rowA hv2 83 8 (glP G hv l4)),(12,.rowA hv 118 2 (List.map z1y (y6a G l4)))] ⟨rfl,trivial⟩ ⟨rfl,rfl,rfl,rfl,rfl,rfl,trivial⟩ rfl ?_
  refine z0t ?_
  exact ⟨trivial,[vagg [vval hv1,vval hv2]],.inl ⟨[vagg [vval hv1,vval hv2]],⟨⟨_,_,_,[vval hv1,vval hv2],rfl,rfl,rfl,rfl,z5x⟩,trivial⟩,rfl⟩,⟨⟨h0,_,_,_,_,_,rfl,rfl⟩,⟨h2,_,_,_,_,_,rfl,rfl⟩,trivial⟩,hK hv1 hv2 hv⟩
 ·rintro k7 x10 ⟨l4,c5,c6⟩ hv q8 h11 h12 H hq8
  replace H:z3y k7 x10 l4 c5 c6=some q8:=H
  unfold z3y at H
  refine x3n ?_
  refine z0c ?_
  refine z0b hN rfl ?_
  refine z0a (z03 rfl rfl) ?_
  refine z0c ?_
  refine z0k _ rfl (fun h => ?_) (fun h=>(lt_f h11 h).elim)
  refine z0q ?_
  refine z07 (ι:=((List Int)×Int×(List z0p))×Value) (fun i=>[(0,.ptr 0 0),(2,.ptr 1 0),(3,.ptr 2 0),(15,.dat (vlst (List.map z1k ([[98,105,103],[102,114,101,101],[109,105,100],[115,109,97,108,108]])))),(16,.dat (vint (([[98,105,103],[102,114,101,101],[109,105,100],[115,109,97,108,108]]).length:Int))),(17,.dat (vint (k7:Int)))]) (fun i=>[(0,.box (some bl) 25 [.dat (vlst (List.map z5a i.1.1)),.dat (vint i.1.2.1)]),(1,.box none 29 [.dat (vnil),.dat (vnil)]),(2,.box none 29 [.row 8 2,.row 3 i.1.2.2.length]),(3,.row 83 8 (glP G i.2 i.1.2.2)),(6,.rowA i.2 118 2 (List.map z1y (y6a G i.1.2.2))),(8,.row 107 2 (List.map z0y [(z0r.mk [109,97,112,115] r2.1),(z0r.mk [115,104,111,112] ([[111,114,100,101,114,115]]))])),(40,.box (some b2) 29 [.dat (vnil),.dat (vnil)])]) (fun i=>z10 i.1.1 i.1.2.1 i.1.2.2=some q8) (fun i=>rfl) ?_ ?_
  ·refine x3n ?_
   refine z0w ?_
   refine z0c ?_
   refine z0b hN rfl ?_
   refine z0a (y2a y74 (fun _=>rfl) rfl rfl h12) ?_
   refine z0a (z24 tyS9 rfl (z3e h12) rfl) ?_
   refine qe rfl ?_
   refine z0c ?_
   refine z0c ?_
   refine z0b hN rfl ?_
   refine z0a (z0j (.ptr _ _) rfl) ?_
   obtain ⟨r13,h14,H⟩:=bnd H
   refine z0g (z1f (z1v (z0d.mk c5 c6) 5 r13 h14) rfl ⟨.inl rfl,trivial⟩ rfl) rfl ?_
   refine z0k _ rfl (fun h15 => ?_) (fun h15 => ?_)
   ·replace H:=ift h15 H
    refine z1j ?_
    show Cv _ _ _ _
    refine x7s ?_
    exact ⟨((r13.2.L,r13.2.at_,l4),hv),H,⟨rfl,rfl,rfl,rfl,rfl,rfl,trivial⟩,⟨rfl,rfl,rfl,rfl,rfl,rfl,rfl,trivial⟩⟩
   ·replace H:=iff_ h15 H
    refine z0q ?_
    refine z0c ?_
    refine z0b hN rfl ?_
    refine qd rfl ?_
    refine z0a (z0j (.ptr _ _) rfl) ?_
    refine z0a (z09 (u':=vlst (List.map z1k [[115,104,111,112],[115,104,111,112],[109,97,112,115]])) (z1w [[_],[_],[_]] z83 ⟨rfl,.inl ⟨_,rfl,rfl,rfl⟩,rfl,rfl,.inl ⟨_,rfl,rfl,rfl⟩,rfl,rfl,.inl ⟨_,rfl,rfl,rfl⟩,rfl,trivial⟩ rfl rfl) rfl) ?_
    obtain ⟨r16,h17,H⟩:=bnd H
    refine z0g (z1f (z1r r13.2 ([[115,104,111,112],[115,104,111,112],[109,97,112,115]]) r16 h17) rfl ⟨.inl rfl,trivial⟩ rfl) rfl ?_
    refine z0a (z0j (.ptr _ _) rfl) ?_
    refine z0a (z09 (u':=vlst (List.map z5a [0,0,1000,3000,31])) (z1w [[_],[_],[_],[_],[_]] y3v ⟨rfl,.inl ⟨_,rfl,rfl,rfl⟩,rfl,rfl,.inl ⟨_,rfl,rfl,rfl⟩,rfl,rfl,.inl ⟨_,rfl,rfl,rfl⟩,rfl,rfl,.inl ⟨_,rfl,rfl,rfl⟩,rfl,rfl,.inl ⟨_,rfl,rfl,rfl⟩,rfl,trivial⟩ rfl rfl) rfl) ?_
    obtain ⟨r18,h19,H⟩:=bnd H
    refine z0g (z1f (z1b r16.2 [0,0,1000,3000,31] r18 h19) rfl ⟨.inl rfl,trivial⟩ rfl) rfl ?_
    refine z0a (z0j (.ptr _ _) rfl) ?_
    refine z0a (z09 (u':=vlst (List.map z5a [0,10,100])) (z1w [[_],[_],[_]] y3v ⟨rfl,.inl ⟨_,rfl,rfl,rfl⟩,rfl,rfl,.inl ⟨_,rfl,rfl,rfl⟩,rfl,rfl,.inl ⟨_,rfl,rfl,rfl⟩,rfl,trivial⟩ rfl rfl) rfl) ?_
    obtain ⟨r20,h21,H⟩:=bnd H
    refine z0g (z1f (z1b r18.2 [0,10,100] r20 h21) rfl ⟨.inl rfl,trivial⟩ rfl) rfl ?_
    refine z0a (z0j (.ptr _ _) rfl) ?_
    refine z0a (z09 (u':=vlst (List.map z5a [(-1),(-1),0,1000])) (z1w [[_],[_],[_],[_]] y3v ⟨rfl,.inl ⟨_,rfl,rfl,rfl⟩,rfl,rfl,.inl ⟨_,rfl,rfl,rfl⟩,rfl,rfl,.inl ⟨_,rfl,rfl,rfl⟩,rfl,rfl,.inl ⟨_,rfl,rfl,rfl⟩,rfl,trivial⟩ rfl rfl) rfl) ?_
    obtain ⟨r22,h23,H⟩:=bnd H
    refine z0g (z1f (z1b r20.2 [(-1),(-1),0,1000] r22 h23) rfl ⟨.inl rfl,trivial⟩ rfl) rfl ?_
    refine z0a (z0j (.ptr _ _) rfl) ?_
    refine z0a (z09 (u':=vlst (List.map z5a [0,0,1,2])) (z1w [[_],[_],[_],[_]] y3v ⟨rfl,.inl ⟨_,rfl,rfl,rfl⟩,rfl,rfl,.inl ⟨_,rfl,rfl,rfl⟩,rfl,rfl,.inl ⟨_,rfl,rfl,rfl⟩,rfl,rfl,.inl ⟨_,rfl,rfl,rfl⟩,rfl,trivial⟩ rfl rfl) rfl) ?_
    obtain ⟨r24,h25,H⟩:=bnd H
    refine z0g (z1f (z1b r22.2 [0,0,1,2] r24 h25) rfl ⟨.inl rfl,trivial⟩ rfl) rfl ?_
    refine z0a (z0j (.ptr _ _) rfl) ?_
    obtain ⟨r26,h27,H⟩:=bnd H
    refine z0g (z1f (z1v r24.2 2 r26 h27) rfl ⟨.inl rfl,trivial⟩ rfl) rfl ?_
    refine z0a (z09 (u':=vagg [vstr x10,vstr r16.1,vint r18.1,vint r20.1,vnil,vint r22.1,vint r24.1,z1p r26.1]) (z3k [(0,[vstr x10]),(1,[vstr r16.1]),(2,[vint r18.1]),(3,[vint r20.1]),(5,[vint r22.1]),(6,[vint r24.1]),(7,[z1p r26.1])] y80 w3n rfl ⟨rfl,.inl ⟨_,rfl,rfl,rfl⟩,rfl,rfl,.inl ⟨_,rfl,rfl,rfl⟩,rfl,rfl,.inl ⟨_,rfl,rfl,rfl⟩,rfl,rfl,.inl ⟨_,rfl,rfl,rfl⟩,rfl,rfl,.inl ⟨_,rfl,rfl,rfl⟩,rfl,rfl,.inl ⟨_,rfl,rfl,rfl⟩,rfl,rfl,.inl ⟨_,rfl,rfl,rfl⟩,rfl,trivial⟩) rfl) ?_
    refine z0g (z1m 4 y80 rfl) rfl ?_
    refine z0g (z08 y47 rfl rfl rfl rfl) rfl ?_
    refine y7o 4 4 5 118 2 rfl rfl rfl rfl ?_
    refine z0c ?_
    refine z0b hN rfl ?_
    refine qe rfl ?_
    refine z0c ?_
    refine z0c ?_
    refine z0b hN rfl ?_
    refine z0a (z0j (.ptr _ _) rfl) ?_
    refine z0a (z09 (u':=vlst (List.map z5a [0,1,2,3])) (z1w [[_],[_],[_],[_]] y3v ⟨rfl,.inl ⟨_,rfl,rfl,rfl⟩,rfl,rfl,.inl ⟨_,rfl,rfl,rfl⟩,rfl,rfl,.inl ⟨_,rfl,rfl,rfl⟩,rfl,rfl,.inl ⟨_,rfl,rfl,rfl⟩,rfl,trivial⟩ rfl rfl) rfl) ?_
    obtain ⟨r28,h29,H⟩:=bnd H
    refine z0g (z1f (z1b r26.2 [0,1,2,3] r28 h29) rfl ⟨.inl rfl,trivial⟩ rfl) rfl ?_
    refine qd rfl ?_
    refine z0w ?_
    obtain ⟨h36,H⟩:=gif H
    refine y65 (fun (k34:Nat) (s:Int×(List z02)×(List Int)×Int)=>[(0,.ptr 0 0),(2,.ptr 1 0),(3,.ptr 2 0),(6,.ptr 4 0),(7,.dat (vint s.1)),(15,.dat (vlst (List.map z1k ([[98,105,103],[102,114,101,101],[109,105,100],[115,109,97,108,108]])))),(16,.dat (vint (([[98,105,103],[102,114,101,101],[109,105,100],[115,109,97,108,108]]).length:Int))),(17,.dat (vint (k7:Int))),(44,.dat (vint r28.1)),(45,.dat (vint (k34:Int)))]) (fun (k34:Nat) (s:Int×(List z02)×(List Int)×Int)=>[(0,.box (some bl) 25 [.dat (vlst (List.map z5a s.2.2.1)),.dat (vint s.2.2.2)]),(1,.box none 29 [.dat (vnil),.dat (vnil)]),(2,.box none 29 [.row 8 2,.row 3 l4.length]),(3,.row 83 8 (glP G hv l4)),(6,.rowA hv 118 2 (List.map z1y (y6a G l4))),(8,.row 107 2 (List.map z0y [(z0r.mk [109,97,112,115] r2.1),(z0r.mk [115,104,111,112] ([[111,114,100,101,114,115]]))])),(40,.box (some b2) 29 [.dat (vnil),.dat (vnil)]),(4,.box none 83 [.dat (vstr x10),.dat (vstr r16.1),.dat (vint r18.1),.dat (vint r20.1),.row 5 s.2.1.length,.dat (vint r22.1),.dat (vint r24.1),.dat (z1p r26.1)]),(5,.row 118 2 (List.map z1y s.2.1))]) (1,([]:List z02),r28.2.L,r28.2.at_) H ⟨rfl,rfl,rfl,rfl,rfl,rfl,rfl,rfl,rfl,rfl,trivial⟩ ⟨rfl,rfl,rfl,rfl,rfl,rfl,rfl,rfl,rfl,trivial⟩ (fun _ _=>rfl) ?_ ?_
    ·rintro ⟨v30,l31,c32,c33⟩ H
     replace H:z3z l4 x10 r16 r18 r20 r22 r24 r26 v30 l31 c32 c33=some q8:=H
     unfold z3z at H
     refine z0c ?_
     refine z0b hN rfl ?_
     refine z0a (z03 rfl rfl) ?_
     refine z0c ?_
     refine z0k _ rfl (fun h=>(x96 h).elim) (fun h => ?_)
     refine z1j ?_
     refine w40 (Nat.beq l4.length G) 4 4 5 6 7 rfl rfl rfl (by rw [List.length_map]) rfl rfl fun hv' hhv => ?_
     refine z0b hN rfl ?_
     refine z0a (z0m y0o rfl) ?_
     refine z0h (z0l y57 rfl rfl) rfl ?_
     refine z0h (z06 y47 rfl rfl rfl) rfl ?_
     refine z0a (z09 (u':=vlst [cond (Nat.beq l4.length G) (y6k hv' (z0p.mk x10 r16.1 r18.1 r20.1 l31 r22.1 r24.1 r26.1)) (z01 (z0p.mk x10 r16.1 r18.1 r20.1 l31 r22.1 r24.1 r26.1))]) (z1w [_] w0r ⟨rfl,.inr rfl,rfl,trivial⟩ rfl rfl) (by cases Nat.beq l4.length G <;> rfl)) ?_
     obtain ⟨h37,H⟩:=gif H
     refine z0g (w8b w0r rfl (y1i _ _ _).symm rfl (by simp) (by cases Nat.beq l4.length G <;> simp [y6k]) (by rw [y1i]; exact h37) rfl) rfl ?_
     refine z0a (z0m y0o rfl) ?_
     refine y9q (y69 y57 rfl rfl rfl rfl) rfl rfl ?_
     refine x0d ?_
     show Cv _ _ _ _
     refine w8x (rn [(7,6)]) [(0,.ptr 0 0),(2,.ptr 1 0),(3,.ptr 2 0),(15,.dat (vlst (List.map z1k ([[98,105,103],[102,114,101,101],[109,105,100],[115,109,97,108,108]])))),(16,.dat (vint (([[98,105,103],[102,114,101,101],[109,105,100],[115,109,97,108,108]]).length:Int))),(17,.dat (vint (k7:Int)))] [(0,.box (some bl) 25 [.dat (vlst (List.map z5a c32)),.dat (vint c33)]),(1,.box none 29 [.dat (vnil),.dat (vnil)]),(2,.box none 29 [.row 8 2,.row 3 (l4++[(z0p.mk x10 r16.1 r18.1 r20.1 l31 r22.1 r24.1 r26.1)]).length]),(3,.row 83 8 (glP G hv' (l4++[(z0p.mk x10 r16.1 r18.1 r20.1 l31 r22.1 r24.1 r26.1)]))),(7,.rowA hv' 118 2 (List.map z1y (y6a G (l4++[(z0p.mk x10 r16.1 r18.1 r20.1 l31 r22.1 r24.1 r26.1)])))),(8,.row 107 2 (List.map z0y [(z0r.mk [109,97,112,115] r2.1),(z0r.mk [115,104,111,112] ([[111,114,100,101,114,115]]))])),(40,.box (some b2) 29 [.dat (vnil),.dat (vnil)])] ⟨rfl,rfl,rfl,rfl,rfl,rfl,trivial⟩ ⟨rfl,rfl,congrArg (fun n=>some (some (AObj.box none 29 [.row 8 2,.row 3 n]))) (by simp [y1i]),congrArg (fun es=>some (some (AObj.row 83 8 es))) (w2b G hv hv' l4 (z0p.mk x10 r16.1 r18.1 r20.1 l31 r22.1 r24.1 r26.1) hhv).symm,congrArg (fun es=>some (some (AObj.rowA hv' 118 2 es))) (x1s G l4 (z0p.mk x10 r16.1 r18.1 r20.1 l31 r22.1 r24.1 r26.1)).symm,rfl,rfl,trivial⟩ rfl rfl ?_
     exact ⟨((c32,c33,(l4++[(z0p.mk x10 r16.1 r18.1 r20.1 l31 r22.1 r24.1 r26.1)])),hv'),H,⟨rfl,rfl,rfl,rfl,rfl,rfl,trivial⟩,⟨rfl,rfl,rfl,rfl,rfl,rfl,rfl,trivial⟩⟩
    ·rintro k34 ⟨v30,l31,c32,c33⟩ q35 h38 H hq35
     replace H:z3x k34 v30 l31 c32 c33=some q35:=H
     unfold z3x at H
     refine x3n ?_
     refine z0c ?_
     refine z0b hN rfl ?_
     refine z0a (z03 rfl rfl) ?_
     refine z0c ?_
     refine z0k _ rfl (fun h => ?_) (fun h=>(x97 h38 h).elim)
     refine z0q ?_
     refine z0c ?_
     refine z0w ?_
     refine z0c ?_
     refine z2n mixed hN rfl rfl ?_
     refine z0a (z0m y39 rfl) ?_
     refine z0h (z0l y81 rfl rfl) rfl ?_
     refine qd rfl ?_
     refine z0a (z0j (.ptr _ _) rfl) ?_
     refine z0a (z09 (u':=vlst (List.map z5a [0,100,500,1500])) (z1w [[_],[_],[_],[_]] y3v ⟨rfl,.inl ⟨_,rfl,rfl,rfl⟩,rfl,rfl,.inl ⟨_,rfl,rfl,rfl⟩,rfl,rfl,.inl ⟨_,rfl,rfl,rfl⟩,rfl,rfl,.inl ⟨_,rfl,rfl,rfl⟩,rfl,trivial⟩ rfl rfl) rfl) ?_
     obtain ⟨r39,h40,H⟩:=bnd H
     refine z0g (z1f (z1b (z0d.mk c32 c33) [0,100,500,1500] r39 h40) rfl ⟨.inl rfl,trivial⟩ rfl) rfl ?_
     refine z0a (z09 (u':=vagg (z1y (z02.mk v30 r39.1))) (z3k [(0,[vint v30]),(1,[vint r39.1])] x1m x70 rfl ⟨rfl,.inl ⟨_,rfl,rfl,rfl⟩,rfl,rfl,.inl ⟨_,rfl,rfl,rfl⟩,rfl,trivial⟩) rfl) ?_
     refine z0a (z09 (u':=vlst (List.map z1y [(z02.mk v30 r39.1)])) (z1w [_] x6p ⟨rfl,.inr rfl,rfl,trivial⟩ rfl rfl) rfl) ?_
     obtain ⟨h41,H⟩:=gif H
     refine z0g (y7t x6p (fun _=>rfl) rfl rfl rfl ⟨by simp,by first | (simp; done) | simpa using h41⟩ rfl) rfl ?_
     refine z0a (z0m y39 rfl) ?_
     refine y9q (y69 y81 rfl rfl (by rw [List.length_map]) rfl) rfl rfl ?_
     refine ⟨rfl,?_⟩
     refine z0b hN rfl ?_
     refine qd rfl ?_
     refine z0a (z0j (.ptr _ _) rfl) ?_
     refine z0a (z09 (u':=vlst (List.map z5a [1,9,100])) (z1w [[_],[_],[_]] y3v ⟨rfl,.inl ⟨_,rfl,rfl,rfl⟩,rfl,rfl,.inl ⟨_,rfl,rfl,rfl⟩,rfl,rfl,.inl ⟨_,rfl,rfl,rfl⟩,rfl,trivial⟩ rfl rfl) rfl) ?_
     obtain ⟨r42,h43,H⟩:=bnd H
     refine z0g (z1f (z1b r39.2 [1,9,100] r42 h43) rfl ⟨.inl rfl,trivial⟩ rfl) rfl ?_
     refine z0a (z05 _ rfl rfl (.inl ⟨rfl,rfl⟩)) ?_
     refine qe rfl ?_
     refine z0b hN rfl ?_
     refine z0a (z3h rfl rfl (by omega)) ?_
     refine qd rfl ?_
     refine x0d ?_
     show Cv _ _ _ _
     refine x7s ?_
     exact ⟨_,z5d H,⟨rfl,rfl,rfl,rfl,rfl,rfl,rfl,rfl,rfl,rfl,trivial⟩,⟨rfl,rfl,rfl,rfl,rfl,rfl,rfl,rfl,rfl,trivial⟩⟩
  ·rintro ⟨⟨c44,c45,l46⟩,hv⟩ H
   replace H:z10 c44 c45 l46=some q8:=H
   unfold z10 at H
   refine z0b hN rfl ?_
   refine z0a (z3h rfl rfl (by omega)) ?_
   refine qd rfl ?_
   refine x0d ?_
   show Cv _ _ _ _
   refine x7s ?_
   exact ⟨_,hv,z5d H,⟨rfl,rfl,rfl,rfl,rfl,rfl,trivial⟩,⟨rfl,rfl,rfl,rfl,rfl,rfl,rfl,trivial⟩⟩
theorem w19 (g:Nat) (hv:Value) (ps:List z0p) (p:z0p) (t:z02) (h:ps[g]?=some p):(glP g hv ps).set g ((y6k hv p).set 4 (vlst (List.map z1y (y6a g ps)++[z1y t])))=List.map z01 (ps.set g (z0p.mk p.Key p.Product p.Base p.Free (p.Tiers++[t]) p.Limit p.Trial p.Asked)):=by
 rw [← w2a g hv ps _ (List.getElem?_eq_some_iff.1 h).1,(x6b g hv ps p h).2]
 congr 1
 simp [y6k,z01]
theorem y62 (s1:z0d) (r:(z0i×z0d)) (H:z66 s1=some r):Imp Tryz.prog 24 25 (z0x s1) [] (z1x [vagg (z1h r.1)]) (z0x r.2):=by
 refine y45 (us:=[vagg (z1h r.1)]) (cs':=(z0x r.2)) (by kernel_rfl) Tryz.func24 rfl rfl rfl rfl fun X bl hN => ?_
 unfold z66 at H
 obtain ⟨r2,h3,H⟩:=bnd H
 cases hc:decide ((r2.1.Plans.length:Int) > 0) with
 | false =>
  rw [hc] at H
  refine z0c ?_
  refine z0b hN rfl ?_
  refine z0g (z1m 1 y72 rfl) rfl ?_
  refine z0c ?_
  refine z0b hN rfl ?_
  refine z0a (z0j (.ptr _ _) rfl) ?_
  refine z0g (z1f (y18 s1 r2 h3) rfl trivial rfl) rfl ?_
  refine z0g (z1m 2 y72 rfl) rfl ?_
  refine z0g (z08 z5x rfl rfl rfl rfl) rfl ?_
  refine z0c ?_
  refine z0c ?_
  refine z0b hN rfl ?_
  refine z0a (z0m y0o rfl) ?_
  refine z0h (z0l y57 rfl rfl) rfl ?_
  refine z0a (z5b x1o rfl) ?_
  refine z0a (z4c rfl rfl) ?_
  refine qd rfl ?_
  refine z15 (j:=4) rfl rfl (fun h4 => ?_) (fun h4 => ?_) rfl
  ·have h5:=un1 h4
   rw [hc] at h5; cases h5
  ·have h8:=un2 h4
   refine z0n rfl rfl h4 ?_
   refine z0n rfl rfl h4 ?_
   refine z0a (z1l rfl (bFF h8) rfl) ?_
   refine z0k false rfl (fun h=>by cases h) (fun h => ?_)
   refine z0q ?_
   refine z0c ?_
   refine z0b hN rfl ?_
   refine z0h (z06 z5x rfl rfl rfl) rfl ?_
   refine z0g (z08 z5x rfl rfl rfl rfl) rfl ?_
   refine z0t ?_
   cases H
   exact ⟨trivial,⟨.inl ⟨_,_,_,z1h r2.1,rfl,rfl,rfl,rfl,z5x⟩,trivial⟩,rfl⟩
 | true =>
  rw [hc] at H
  obtain ⟨r6,h7,H⟩:=bnd H
  cases hf:r6.1 with
  | false =>
   rw [hf] at H
   refine z0c ?_
   refine z0b hN rfl ?_
   refine z0g (z1m 1 y72 rfl) rfl ?_
   refine z0c ?_
   refine z0b hN rfl ?_
   refine z0a (z0j (.ptr _ _) rfl) ?_
   refine z0g (z1f (y18 s1 r2 h3) rfl trivial rfl) rfl ?_
   refine z0g (z1m 2 y72 rfl) rfl ?_
   refine z0g (z08 z5x rfl rfl rfl rfl) rfl ?_
   refine z0c ?_
   refine z0c ?_
   refine z0b hN rfl ?_
   refine z0a (z0m y0o rfl) ?_
   refine z0h (z0l y57 rfl rfl) rfl ?_
   refine z0a (z5b x1o rfl) ?_
   refine z0a (z4c rfl rfl) ?_
   refine qd rfl ?_
   refine z15 (j:=4) rfl rfl (fun h4 => ?_) (fun h4 => ?_) rfl
   ·have h5:=un1 h4
    refine z04 rfl rfl h4 (z0j (.ptr _ _) rfl) ?_
    refine x8a rfl rfl h4 (z1f (z1v r2.2 12 r6 h7) rfl ⟨.inl rfl,trivial⟩ rfl) rfl ?_
    refine z0a (z1t rfl (bTT h5) rfl) ?_
    refine z0k r6.1 rfl (fun h=>by rw [hf] at h; cases h) (fun h => ?_)
    refine z0q ?_
    refine z0c ?_
    refine z0b hN rfl ?_
    refine z0h (z06 z5x rfl rfl rfl) rfl ?_
    refine z0g (z08 z5x rfl rfl rfl rfl) rfl ?_
    refine z0t ?_
    cases H
    exact ⟨trivial,⟨.inl ⟨_,_,_,z1h r2.1,rfl,rfl,rfl,rfl,z5x⟩,trivial⟩,rfl⟩
   ·have h8:=un2 h4
    rw [hc] at h8; cases h8
  | true =>
   rw [hf] at H
   replace H:z9d r2.1 r6.2=some r:=H
   unfold z9d at H
   obtain ⟨r13,h14,H⟩:=bnd H
   obtain ⟨x15,h16,H⟩:=bnd H
   refine z0c ?_
   refine z0b hN rfl ?_
   refine z0g (z1m 40 y72 rfl) rfl ?_
   refine w42 40 rfl fun b2 => ?_
   refine x85 [(0,.ptr 0 0),(2,.ptr 40 0)] [(0,.box (some bl) 25 (List.map .dat (z0x s1))),(40,.box (some b2) 29 [.dat vnil,.dat vnil])] ⟨rfl,rfl,trivial⟩ ⟨rfl,rfl,trivial⟩ rfl ?_
   refine z0c ?_
   refine w0i hN ?_
   refine w1e hN rfl (z0j (.ptr _ _) rfl) ?_
   refine x03 bl b2 r13.1.toNat s1 r2 h3 hN rfl rfl rfl rfl fun hv1 hv2 hv => ?_
   refine w6o hN rfl (lg:=[]) ?_
   refine z0g (z1m 3 y72 rfl) rfl ?_
   refine z0g (z08 z5x rfl rfl rfl rfl) rfl ?_
   refine x83 3 1 11 21 rfl rfl rfl rfl ?_
   refine x83 3 0 10 20 rfl rfl rfl rfl ?_
   refine z07 (ι:=z0i×z0d) (fun i=>[(2,.ptr 40 0),(3,.ptr 3 0)]) (fun i=>[(0,.box (some bl) 25 (List.map .dat (z0x i.2))),(40,.box (some b2) 29 [.dat vnil,.dat vnil]),(3,.box none 29 [.row 20 i.1.Products.length,.row 21 i.1.Plans.length]),(20,.row 107 2 (List.map z0y i.1.Products)),(21,.row 83 8 (List.map z01 i.1.Plans))]) (fun i=>some i=some r) (fun i=>rfl) ?_ ?_
   ·skip
    refine z0c ?_
    refine z0b hN rfl ?_
    refine z0a (z0m y0o rfl) ?_
    refine z0h (z0l y57 rfl rfl) rfl ?_
    refine z0h (z09 (y86 x1o rfl rfl) (by rw [y1i])) rfl ?_
    refine z0a (z4c rfl rfl) ?_
    refine qd rfl ?_
    refine z15 (j:=4) rfl rfl (fun h4 => ?_) (fun h4=>by have h8:=un2 h4; rw [hc] at h8; cases h8) rfl
    have h5:=un1 h4
    refine z04 rfl rfl h4 (z0j (.ptr _ _) rfl) ?_
    refine x8a rfl rfl h4 (z1f (z1v r2.2 12 r6 h7) rfl ⟨.inl rfl,trivial⟩ rfl) rfl ?_
    refine z0a (z1t rfl (bTT h5) rfl) ?_
    refine z0k r6.1 rfl (fun h12 => ?_) (fun h12=>by rw [hf] at h12; cases h12)
    refine z0c ?_
    refine z2n mixed hN rfl rfl ?_
    refine z0a (z0m y0o rfl) ?_
    refine z0h (z0l y57 rfl rfl) rfl ?_
    refine z0a (z0j (.ptr _ _) rfl) ?_
    refine z0a (z0m y0o rfl) ?_
    refine z0h (z0l y57 rfl rfl) rfl ?_
    refine z0h (z09 (y86 x1o rfl rfl) (by rw [y1i])) rfl ?_
    refine z0g (z1f (z3g r6.2 (r2.1.Plans.length:Int) r13 h14) rfl ⟨.inl rfl,trivial⟩ rfl) rfl ?_
    refine z0h (x5o x0b rfl rfl rfl (by rw [y1i]; exact (z1n h16).1)) rfl ?_
    refine z0a (z1o (.rptr _ _ _ _ _) rfl) ?_
    refine ⟨rfl,?_⟩
    refine z0c ?_
    refine z0b hN rfl ?_
    refine z0a (z0j (.ptr _ _) rfl) ?_
    obtain ⟨r17,h18,H⟩:=bnd H
    refine z0g (z1f (z3g r13.2 6 r17 h18) rfl ⟨.inl rfl,trivial⟩ rfl) rfl ?_
    refine z0w ?_
    refine z0c ?_
    refine z0b hN rfl ?_
    refine z0a (z2g rfl rfl) ?_
    refine qe rfl ?_
    refine z0k _ rfl (fun h30 => ?_) (fun h30 => ?_)
    ·replace H:=ift h30 H
     refine y96 21 12 (List.map z01 r2.1.Plans) rfl rfl (x3j _ _ _) (y77 _) ?_
     refine z0b hN rfl ?_
     refine z0a (z0j (.rptr _ _ _ _ _) rfl) ?_
     refine z0a (z0j (.ptr _ _) rfl) ?_
     refine z0a (z09 (u':=vlst (List.map z1k [[],[65],[98,105,103]])) (z1w [[_],[_],[_]] z83 ⟨rfl,.inl ⟨_,rfl,rfl,rfl⟩,rfl,rfl,.inl ⟨_,rfl,rfl,rfl⟩,rfl,rfl,.inl ⟨_,rfl,rfl,rfl⟩,rfl,trivial⟩ rfl rfl) rfl) ?_
     obtain ⟨r20,h21,H⟩:=bnd H
     refine z0g (z1f (z1r r17.2 ([[],[65],[98,105,103]]) r20 h21) rfl ⟨.inl rfl,trivial⟩ rfl) rfl ?_
     refine z0a (y33 rfl) ?_
     refine z0a (y1m y4l rfl) ?_
     refine z0g (y4m (z0p.mk r20.1 x15.Product x15.Base x15.Free x15.Tiers x15.Limit x15.Trial x15.Asked) tyS9 rfl rfl rfl (y1i _ _ _) (z1n h16).2 rfl rfl) rfl ?_
     exact ⟨((z0i.mk r2.1.Products (r2.1.Plans.set r13.1.toNat (z0p.mk r20.1 x15.Product x15.Base x15.Free x15.Tiers x15.Limit x15.Trial x15.Asked))),r20.2),H,⟨rfl,rfl,trivial⟩,⟨rfl,rfl,(by refine Eq.trans (b:=some (some (AObj.box none 29 [.row 20 (List.map z0y r2.1.Products).length,.row 21 (glP r13.1.toNat hv r2.1.Plans).length]))) rfl (by simp [y1i])),rfl,rfl,trivial⟩⟩
    ·replace H:=iff_ h30 H
     refine z0c ?_
     refine z0b hN rfl ?_
     refine z0a (z2g rfl rfl) ?_
     refine qe rfl ?_
     refine z0k _ rfl (fun h31 => ?_) (fun h31 => ?_)
     ·replace H:=ift h31 H
      refine y96 21 12 (List.map z01 r2.1.Plans) rfl rfl (x3j _ _ _) (y77 _) ?_
      refine z0b hN rfl ?_
      refine z0a (z0j (.rptr _ _ _ _ _) rfl) ?_
      refine z0a (z0j (.ptr _ _) rfl) ?_
      refine z0a (z09 (u':=vlst (List.map z1k [[110,111,110,101],[]])) (z1w [[_],[_]] z83 ⟨rfl,.inl ⟨_,rfl,rfl,rfl⟩,rfl,rfl,.inl ⟨_,rfl,rfl,rfl⟩,rfl,trivial⟩ rfl rfl) rfl) ?_
      obtain ⟨r20,h21,H⟩:=bnd H
      refine z0g (z1f (z1r r17.2 ([[110,111,110,101],[]]) r20 h21) rfl ⟨.inl rfl,trivial⟩ rfl) rfl ?_
      refine z0a (y33 rfl) ?_
      refine z0a (y1m x0a rfl) ?_
      refine z0g (y4m (z0p.mk x15.Key r20.1 x15.Base x15.Free x15.Tiers x15.Limit x15.Trial x15.Asked) tyS9 rfl rfl rfl (y1i _ _ _) (z1n h16).2 rfl rfl) rfl ?_
      exact ⟨((z0i.mk r2.1.Products (r2.1.Plans.set r13.1.toNat (z0p.mk x15.Key r20.1 x15.Base x15.Free x15.Tiers x15.Limit x15.Trial x15.Asked))),r20.2),H,⟨rfl,rfl,trivial⟩,⟨rfl,rfl,(by refine Eq.trans (b:=some (some (AObj.box none 29 [.row 20 (List.map z0y r2.1.Products).length,.row 21 (glP r13.1.toNat hv r2.1.Plans).length]))) rfl (by simp [y1i])),rfl,rfl,trivial⟩⟩
     ·replace H:=iff_ h31 H
      refine z0c ?_
      refine z0b hN rfl ?_
      refine z0a (z2g rfl rfl) ?_
      refine qe rfl ?_
      refine z0k _ rfl (fun h32 => ?_) (fun h32 => ?_)
      ·replace H:=ift h32 H
       refine y96 21 12 (List.map z01 r2.1.Plans) rfl rfl (x3j _ _ _) (y77 _) ?_
       refine z0b hN rfl ?_
       refine z0a (z0j (.rptr _ _ _ _ _) rfl) ?_
       refine z0a (z0j (.rptr _ _ _ _ _) rfl) ?_
       refine z0a (z0j (.ptr _ _) rfl) ?_
       obtain ⟨r20,h21,H⟩:=bnd H
       refine z0g (z1f (z3o r17.2 0 1000 r20 h21) rfl ⟨.inl rfl,.inl rfl,trivial⟩ rfl) rfl ?_
       refine z0a (z0j (.ptr _ _) rfl) ?_
       obtain ⟨r22,h23,H⟩:=bnd H
       refine z0g (z1f (z3o r20.2 0 1000 r22 h23) rfl ⟨.inl rfl,.inl rfl,trivial⟩ rfl) rfl ?_
       refine z0a (y33 rfl) ?_
       refine z0a (y1m x6r rfl) ?_
       refine z0g (y4m (z0p.mk x15.Key x15.Product r20.1 x15.Free x15.Tiers x15.Limit x15.Trial x15.Asked) tyS3 rfl rfl rfl (y1i _ _ _) (z1n h16).2 rfl rfl) rfl ?_
       refine z0a (y33 rfl) ?_
       refine z0a (y1m x3v rfl) ?_
       refine z0g (y4m (z0p.mk x15.Key x15.Product r20.1 r22.1 x15.Tiers x15.Limit x15.Trial x15.Asked) tyS3 rfl rfl rfl (by simp [y1i]) (x5q (z1n h16).2) rfl rfl) rfl ?_
       exact ⟨((z0i.mk r2.1.Products (r2.1.Plans.set r13.1.toNat (z0p.mk x15.Key x15.Product r20.1 r22.1 x15.Tiers x15.Limit x15.Trial x15.Asked))),r22.2),H,⟨rfl,rfl,trivial⟩,⟨rfl,rfl,(by refine Eq.trans (b:=some (some (AObj.box none 29 [.row 20 (List.map z0y r2.1.Products).length,.row 21 (glP r13.1.toNat hv r2.1.Plans).length]))) rfl (by simp [y1i])),rfl,congrArg (fun l=>some (some (AObj.row 83 8 (List.map z01 l)))) (by simp),trivial⟩⟩
      ·replace H:=iff_ h32 H
       refine z0c ?_
       refine z0b hN rfl ?_
       refine z0a (z2g rfl rfl) ?_
       refine qe rfl ?_
       refine z0k _ rfl (fun h33 => ?_) (fun h33 => ?_)
       ·replace H:=ift h33 H
        refine z2n mixed hN rfl rfl ?_
        refine z0a (z0j (.rptr _ _ _ _ _) rfl) ?_
        refine z0a (z0j (.rptr _ _ _ _ _) rfl) ?_
        refine z0a (y33 rfl) ?_
        refine z0a (y1m y39 rfl) ?_
        refine z0h (x3a y81 rfl rfl (x6b _ _ _ _ (z1n h16).2).1 rfl) rfl ?_
        refine z0a (z0j (.ptr _ _) rfl) ?_
        obtain ⟨r20,h21,H⟩:=bnd H
        refine z0g (z1f (z3o r17.2 1 100 r20 h21) rfl ⟨.inl rfl,.inl rfl,trivial⟩ rfl) rfl ?_
        refine z0a (z0j (.ptr _ _) rfl) ?_
        obtain ⟨r22,h23,H⟩:=bnd H
        refine z0g (z1f (z3o r20.2 0 1000000 r22 h23) rfl ⟨.inl rfl,.inl rfl,trivial⟩ rfl) rfl ?_
        refine z0a (z09 (u':=vagg (z1y (z02.mk r20.1 r22.1))) (z3k [(0,[vint r20.1]),(1,[vint r22.1])] x1m x70 rfl ⟨rfl,.inl ⟨_,rfl,rfl,rfl⟩,rfl,rfl,.inl ⟨_,rfl,rfl,rfl⟩,rfl,trivial⟩) rfl) ?_
        refine z0a (z09 (u':=vlst [z1y (z02.mk r20.1 r22.1)]) (z1w [_] x6p ⟨rfl,.inr rfl,rfl,trivial⟩ rfl rfl) rfl) ?_
        obtain ⟨h24,H⟩:=gif H
        refine w39 (w8a 12 22 70 x6p rfl rfl (fun h=>by cases h) (fun h=>by cases h) (by simp) (fun el h=>by simp at h; subst h; rfl) (by rw [List.length_map,(x6b _ hv _ _ (z1n h16).2).2]; exact h24) rfl rfl) rfl rfl ?_
        refine z0a (y33 rfl) ?_
        refine z0a (y1m y39 rfl) ?_
        refine x4h (x9k y81 rfl rfl rfl rfl (x6b _ _ _ _ (z1n h16).2).1 rfl rfl) rfl rfl ?_
        refine ⟨rfl,?_⟩
        exact ⟨((z0i.mk r2.1.Products (r2.1.Plans.set r13.1.toNat (z0p.mk x15.Key x15.Product x15.Base x15.Free (x15.Tiers++[(z02.mk r20.1 r22.1)]) x15.Limit x15.Trial x15.Asked))),r22.2),H,⟨rfl,rfl,trivial⟩,⟨rfl,rfl,(by refine Eq.trans (b:=some (some (AObj.box none 29 [.row 20 (List.map z0y r2.1.Products).length,.row 21 (glP r13.1.toNat hv r2.1.Plans).length]))) rfl (by simp [y1i])),rfl,congrArg (fun es=>some (some (AObj.row 83 8 es))) (w19 r13.1.toNat hv r2.1.Plans x15 (z02.mk r20.1 r22.1) (z1n h16).2),trivial⟩⟩
       ·replace H:=iff_ h33 H
        refine z0c ?_
        refine z0b hN rfl ?_
        refine z0a (z2g rfl rfl) ?_
        refine qe rfl ?_
        refine z0k _ rfl (fun h34 => ?_) (fun h34 => ?_)
        ·replace H:=ift h34 H
         refine y96 21 12 (List.map z01 r2.1.Plans) rfl rfl (x3j _ _ _) (y77 _) ?_
         refine z0b hN rfl ?_
         refine z0a (z0j (.rptr _ _ _ _ _) rfl) ?_
         refine z0a (z0j (.rptr _ _ _ _ _) rfl) ?_
         refine z0a (z0j (.ptr _ _) rfl) ?_
         obtain ⟨r20,h21,H⟩:=bnd H
         refine z0g (z1f (z3o r17.2 (-1) 100 r20 h21) rfl ⟨.inl rfl,.inl rfl,trivial⟩ rfl) rfl ?_
         refine z0a (z0j (.ptr _ _) rfl) ?_
         obtain ⟨r22,h23,H⟩:=bnd H
         refine z0g (z1f (z3o r20.2 0 132 r22 h23) rfl ⟨.inl rfl,.inl rfl,trivial⟩ rfl) rfl ?_
         refine z0a (y33 rfl) ?_
         refine z0a (y1m y82 rfl) ?_
         refine z0g (y4m (z0p.mk x15.Key x15.Product x15.Base x15.Free x15.Tiers r20.1 x15.Trial x15.Asked) tyS3 rfl rfl rfl (y1i _ _ _) (z1n h16).2 rfl rfl) rfl ?_
         refine z0a (y33 rfl) ?_
         refine z0a (y1m x6q rfl) ?_
         refine z0g (y4m (z0p.mk x15.Key x15.Product x15.Base x15.Free x15.Tiers r20.1 r22.1 x15.Asked) tyS3 rfl rfl rfl (by simp [y1i]) (x5q (z1n h16).2) rfl rfl) rfl ?_
         exact ⟨((z0i.mk r2.1.Products (r2.1.Plans.set r13.1.toNat (z0p.mk x15.Key x15.Product x15.Base x15.Free x15.Tiers r20.1 r22.1 x15.Asked))),r22.2),H,⟨rfl,rfl,trivial⟩,⟨rfl,rfl,(by refine Eq.trans (b:=some (some (AObj.box none 29 [.row 20 (List.map z0y r2.1.Products).length,.row 21 (glP r13.1.toNat hv r2.1.Plans).length]))) rfl (by simp [y1i])),rfl,congrArg (fun l=>some (some (AObj.row 83 8 (List.map z01 l)))) (by simp),trivial⟩⟩
        ·replace H:=iff_ h34 H
         refine y96 21 12 (List.map z01 r2.1.Plans) rfl rfl (x3j _ _ _) (y77 _) ?_
         refine z2n mixed hN rfl rfl ?_
         refine z0a (z0m y84 rfl) ?_
         refine z0h (z0l x6o rfl rfl) rfl ?_
         refine z0a (z0j (.ptr _ _) rfl) ?_
         refine z0a (z09 (u':=vlst (List.map z1k [[122,122],[115,104,111,112],[]])) (z1w [[_],[_],[_]] z83 ⟨rfl,.inl ⟨_,rfl,rfl,rfl⟩,rfl,rfl,.inl ⟨_,rfl,rfl,rfl⟩,rfl,rfl,.inl ⟨_,rfl,rfl,rfl⟩,rfl,trivial⟩ rfl rfl) rfl) ?_
         obtain ⟨r20,h21,H⟩:=bnd H
         refine z0g (z1f (z1r r17.2 ([[122,122],[115,104,111,112],[]]) r20 h21) rfl ⟨.inl rfl,trivial⟩ rfl) rfl ?_
         refine z0a (z0j (.ptr _ _) rfl) ?_
         obtain ⟨r22,h23,H⟩:=bnd H
         refine z0g (z1f (y7g r20.2 r22 h23) rfl trivial rfl) rfl ?_
         refine z0a (z09 (u':=vagg (z0y (z0r.mk r20.1 r22.1))) (z3k [(0,[vstr r20.1]),(1,[vlst (List.map z1k r22.1)])] x0w x2z rfl ⟨rfl,.inl ⟨_,rfl,rfl,rfl⟩,rfl,rfl,.inl ⟨_,rfl,rfl,rfl⟩,rfl,trivial⟩) rfl) ?_
         refine z0a (z09 (u':=vlst (List.map z0y [(z0r.mk r20.1 r22.1)])) (z1w [_] w0s ⟨rfl,.inr rfl,rfl,trivial⟩ rfl rfl) rfl) ?_
         obtain ⟨h24,H⟩:=gif H
         refine z0g (y7t w0s (fun _=>rfl) rfl (by simp) rfl ⟨by simp,by first | (simp; done) | simpa using h24⟩ rfl) rfl ?_
         refine z0a (z0m y84 rfl) ?_
         refine y9q (y69 x6o rfl rfl (by rw [List.length_map]) rfl) rfl rfl ?_
         refine ⟨rfl,?_⟩
         exact ⟨((z0i.mk (r2.1.Products++[(z0r.mk r20.1 r22.1)]) r2.1.Plans),r22.2),H,⟨rfl,rfl,trivial⟩,⟨rfl,rfl,(by refine Eq.trans (b:=some (some (AObj.box none 29 [.row 20 (r2.1.Products++[(z0r.mk r20.1 r22.1)]).length,.row 21 (glP r13.1.toNat hv r2.1.Plans).length]))) rfl (by simp [y1i])),rfl,rfl,trivial⟩⟩
   ·rintro i H
    refine z0c ?_
    refine y97 3 0 20 rfl rfl rfl (by rw [List.length_map]) ?_
    refine y97 3 1 21 rfl rfl rfl (by rw [List.length_map]) ?_
    refine z0b hN rfl ?_
    refine z0h (z06 z5x rfl rfl rfl) rfl ?_
    refine z0g (z08 z5x rfl rfl rfl rfl) rfl ?_
    refine z0t ?_
    cases H
    exact ⟨trivial,⟨.inl ⟨_,_,_,z1h r.1,rfl,rfl,rfl,rfl,z5x⟩,trivial⟩,rfl⟩
theorem y55 (s1:z0d) (r:((List z0s)×z0d)) (H:z6d s1=some r):FnG Tryz.prog 68 [.ptr 0 0] [(0,.box (some 0) 25 (List.map .dat (z0x s1)))] (.row 2 r.1.length) [(0,.box (some 0) 25 (List.map .dat (z0x r.2))),(2,.row 102 2 (List.map z1a r.1))]:=by
 refine y5v (by kernel_rfl) Tryz.func68 rfl rfl rfl rfl fun X A hN => ?_
 unfold z6d at H
 refine z0c ?_
 refine z0b hN rfl ?_
 refine qe rfl ?_
 refine z0c ?_
 refine z0b hN rfl ?_
 refine z0a (z09 (u':=vagg (z1a (z0s.mk [97,112,112,49] [97,110,110]))) (z3k [(0,[vstr [97,112,112,49]]),(1,[vstr [97,110,110]])] x1n x71 rfl ⟨rfl,.inl ⟨_,rfl,rfl,rfl⟩,rfl,rfl,.inl ⟨_,rfl,rfl,rfl⟩,rfl,trivial⟩) rfl) ?_
 refine z0a (z0j (.ptr _ _) rfl) ?_
 refine z0a (z09 (u':=vlst (List.map z1k [[97,110,110],[98,111,98]])) (z1w [[_],[_]] z83 ⟨rfl,.inl ⟨_,rfl,rfl,rfl⟩,rfl,rfl,.inl ⟨_,rfl,rfl,rfl⟩,rfl,trivial⟩ rfl rfl) rfl) ?_
 obtain ⟨r2,h3,H⟩:=bnd H
 refine z0g (z1f (z1r s1 ([[97,110,110],[98,111,98]]) r2 h3) rfl ⟨.inl rfl,trivial⟩ rfl) rfl ?_
 refine z0a (z09 (u':=vagg (z1a (z0s.mk [97,112,112,50] r2.1))) (z3k [(0,[vstr [97,112,112,50]]),(1,[vstr r2.1])] x1n x71 rfl ⟨rfl,.inl ⟨_,rfl,rfl,rfl⟩,rfl,rfl,.inl ⟨_,rfl,rfl,rfl⟩,rfl,trivial⟩) rfl) ?_
 refine z0a (z09 (u':=vagg (z1a (z0s.mk [97,112,112,51] [98,111,98]))) (z3k [(0,[vstr [97,112,112,51]]),(1,[vstr [98,111,98]])] x1n x71 rfl ⟨rfl,.inl ⟨_,rfl,rfl,rfl⟩,rfl,rfl,.inl ⟨_,rfl,rfl,rfl⟩,rfl,trivial⟩) rfl) ?_
 refine z0g (x76 (C:=z1a) 1 ([(z0s.mk [97,112,112,49] [97,110,110]),(z0s.mk [97,112,112,50] r2.1),(z0s.mk [97,112,112,51] [98,111,98])]:(List z0s)) w59 ⟨rfl,.inr rfl,rfl,rfl,.inr rfl,rfl,rfl,.inr rfl,rfl,trivial⟩ rfl rfl rfl) rfl ?_
 refine z0a (z1o (.row _ _) rfl) ?_
 refine z0c ?_
 refine z0b hN rfl ?_
 refine z0a (z0j (.row _ _) rfl) ?_
 refine z0a (z0j (.ptr _ _) rfl) ?_
 refine z0a (z09 (u':=vlst (List.map z5a [1,2,3,3])) (z1w [[_],[_],[_],[_]] y3v ⟨rfl,.inl ⟨_,rfl,rfl,rfl⟩,rfl,rfl,.inl ⟨_,rfl,rfl,rfl⟩,rfl,rfl,.inl ⟨_,rfl,rfl,rfl⟩,rfl,rfl,.inl ⟨_,rfl,rfl,rfl⟩,rfl,trivial⟩ rfl rfl) rfl) ?_
 obtain ⟨r4,h5,H⟩:=bnd H
 refine z0g (z1f (z1b r2.2 [1,2,3,3] r4 h5) rfl ⟨.inl rfl,trivial⟩ rfl) rfl ?_
 obtain ⟨h6,H⟩:=gif H
 refine x4h (w79 (C:=z1a) 2 x30 rfl rfl rfl h6) rfl rfl ?_
 refine z0a (z1o (.row _ _) rfl) ?_
 refine z0t ?_
 cases H
 exact ⟨trivial,[(2,.row 2 _)],⟨rfl,trivial⟩,⟨rfl,rfl,trivial⟩,rfl,.inr (.inl ⟨2,rfl,congrArg (Slot.row 2) (by first | exact x7t (by assumption) | (simp <;> omega))⟩)⟩
theorem y7z (s1:z0d) (r:((List z0s)×z0d)) (H:z8o s1=some r):Imp Tryz.prog 25 25 (z0x s1) [] (z1x [vlst (List.map z1a r.1)]) (z0x r.2):=by
 refine y45 (us:=[vlst (List.map z1a r.1)]) (cs':=(z0x r.2)) (by kernel_rfl) Tryz.func25 rfl rfl rfl rfl fun X bl hN => ?_
 unfold z8o at H
 refine z0c ?_
 refine z0b hN rfl ?_
 refine qe rfl ?_
 refine z0c ?_
 refine z0b hN rfl ?_
 refine z0a (z0j (.ptr _ _) rfl) ?_
 obtain ⟨r2,h3,H⟩:=bnd H
 refine z4y (rn [(0,0),(2,1)]) [(0,_,_,some _)] [(2,_)] (y55 s1 r2 h3) ⟨rfl,rfl,trivial⟩ ⟨.inl (.inl rfl),trivial⟩ ⟨⟨⟨rfl,rfl⟩,trivial⟩,trivial⟩ rfl ?_
 refine z0a (z1o (.row _ _) rfl) ?_
 refine z07 (ι:=(List z0s)×(List Int)×Int) (fun i=>[(3,.row 1 i.1.length)]) (fun i=>[(0,.box (some bl) 25 [.dat (vlst (List.map z5a i.2.1)),.dat (vint i.2.2)]),(1,.row 102 2 (List.map z1a i.1))]) (fun i=>z6w i.1 i.2.1 i.2.2=some r) (fun i=>rfl) ?_ ?_
 ·skip
  refine z0c ?_
  refine z0b hN rfl ?_
  refine z0a (z0j (.ptr _ _) rfl) ?_
  obtain ⟨r4,h5,H⟩:=bnd H
  refine z0g (z1f (z1v r2.2 20 r4 h5) rfl ⟨.inl rfl,trivial⟩ rfl) rfl ?_
  refine z0k _ rfl (fun h6 => ?_) (fun h6 => ?_)
  ·replace H:=ift h6 H
   refine z0b hN rfl ?_
   refine z0a (z0j (.row _ _) rfl) ?_
   refine z0a (z0j (.ptr _ _) rfl) ?_
   refine z0a (z09 (u':=vlst (List.map z1k [[],[97,112,112,49],[122,122]])) (z1w [[_],[_],[_]] z83 ⟨rfl,.inl ⟨_,rfl,rfl,rfl⟩,rfl,rfl,.inl ⟨_,rfl,rfl,rfl⟩,rfl,rfl,.inl ⟨_,rfl,rfl,rfl⟩,rfl,trivial⟩ rfl rfl) rfl) ?_
   obtain ⟨r7,h8,H⟩:=bnd H
   refine z0g (z1f (z1r r4.2 ([[],[97,112,112,49],[122,122]]) r7 h8) rfl ⟨.inl rfl,trivial⟩ rfl) rfl ?_
   refine z0a (z0j (.ptr _ _) rfl) ?_
   refine z0a (z09 (u':=vlst (List.map z1k [[97,110,110],[]])) (z1w [[_],[_]] z83 ⟨rfl,.inl ⟨_,rfl,rfl,rfl⟩,rfl,rfl,.inl ⟨_,rfl,rfl,rfl⟩,rfl,trivial⟩ rfl rfl) rfl) ?_
   obtain ⟨r9,h10,H⟩:=bnd H
   refine z0g (z1f (z1r r7.2 ([[97,110,110],[]]) r9 h10) rfl ⟨.inl rfl,trivial⟩ rfl) rfl ?_
   refine z0a (z09 (u':=vagg (z1a (z0s.mk r7.1 r9.1))) (z3k [(0,[vstr r7.1]),(1,[vstr r9.1])] x1n x71 rfl ⟨rfl,.inl ⟨_,rfl,rfl,rfl⟩,rfl,rfl,.inl ⟨_,rfl,rfl,rfl⟩,rfl,trivial⟩) rfl) ?_
   refine z0a (z09 (u':=vlst (List.map z1a [(z0s.mk r7.1 r9.1)])) (z1w [_] w59 ⟨rfl,.inr rfl,rfl,trivial⟩ rfl rfl) rfl) ?_
   obtain ⟨h11,H⟩:=gif H
   refine z0g (y7t w59 (fun _=>rfl) rfl rfl rfl ⟨by simp,by first | (simp; done) | simpa using h11⟩ rfl) rfl ?_
   refine z0a (z1o (.row _ _) rfl) ?_
   exact ⟨((r2.1++[(z0s.mk r7.1 r9.1)]),r9.2.L,r9.2.at_),H,⟨rfl,trivial⟩,⟨rfl,rfl,trivial⟩⟩
  ·replace H:=iff_ h6 H
   refine z0q ?_
   exact ⟨(r2.1,r4.2.L,r4.2.at_),H,⟨rfl,trivial⟩,⟨rfl,rfl,trivial⟩⟩
 ·rintro ⟨out12,c13,c14⟩ H
  replace H:z6w out12 c13 c14=some r:=H
  unfold z6w at H
  refine z0c ?_
  refine z0b hN rfl ?_
  refine z0a (z0j (.row _ _) rfl) ?_
  refine z0a (z1o (.row _ _) rfl) ?_
  refine z0t ?_
  cases H
  exact ⟨trivial,⟨y75 rfl rfl,trivial⟩,rfl⟩
end Go.Proofs.YthmmalklamiefaaGreatDoor
