/- Walks along the models. Printed by a program. -/
import Derived.Test.YticadaaoggpenaaGreatDoorZdc
namespace Go.Proofs.YticadaaoggpenaaGreatDoor
open Go.RowKit
set_option linter.unusedVariables false
set_option maxRecDepth 20000
set_option maxHeartbeats 2000000
theorem y3z (x1:Int) (n2:Int) (r:(Int)) (H:z8n x1 n2=some r):Fn Tryz.prog 61 [vint x1,vint n2] (z1x [vint r]):=by
 refine ⟨by kernel_rfl,z1k (us:=[vint r]) Tryz.func61 rfl rfl rfl rfl fun X hN => ?_⟩
 unfold z8n at H
 refine z0c ?_
 refine z0b hN rfl ?_
 refine qe rfl ?_
 refine z0c ?_
 refine z0c ?_
 refine z0b hN rfl ?_
 refine qd rfl ?_
 refine z0a (z05 rfl rfl) ?_
 refine z0i _ rfl (fun h3 => ?_) (fun h3 => ?_)
 ·replace H:=ift h3 H
  refine z0c ?_
  refine z0b hN rfl ?_
  refine qe rfl ?_
  refine z0r ?_
  cases H
  exact ⟨trivial,.inl rfl,trivial⟩
 ·replace H:=iff_ h3 H
  refine z0s ?_
  refine z0c ?_
  refine z0b hN rfl ?_
  refine qd rfl ?_
  refine qd rfl ?_
  obtain ⟨h4,H⟩:=gif H
  refine z0a (x2b rfl rfl h4) ?_
  refine qe rfl ?_
  refine z1a (ι:=Int) (fun i=>[(0,.dat (vint i))]) (fun i=>[]) (fun i=>z81 i=some r) (fun i=>rfl) ?_ ?_
  ·skip
   refine z0c ?_
   refine z0b hN rfl ?_
   refine qd rfl ?_
   refine z0a (z05 rfl rfl) ?_
   refine z0i _ rfl (fun h5 => ?_) (fun h5 => ?_)
   ·replace H:=ift h5 H
    refine z0b hN rfl ?_
    refine qd rfl ?_
    refine qd rfl ?_
    refine z0a (z1s _ rfl rfl (.inl ⟨rfl,rfl⟩)) ?_
    refine qe rfl ?_
    exact ⟨wr ((Int.tmod x1 n2)+n2),H,⟨rfl,trivial⟩,trivial⟩
   ·replace H:=iff_ h5 H
    refine z0s ?_
    exact ⟨(Int.tmod x1 n2),H,⟨rfl,trivial⟩,trivial⟩
  ·rintro x6 H
   replace H:z81 x6=some r:=H
   unfold z81 at H
   refine z0c ?_
   refine z0b hN rfl ?_
   refine qd rfl ?_
   refine qe rfl ?_
   refine z0r ?_
   cases H
   exact ⟨trivial,.inl rfl,trivial⟩
theorem z3m (s1:z0d) (n2:Int) (r:(Int×z0d)) (H:z2a s1 n2=some r):Imp Tryz.prog 27 25 (z0v s1) [vint n2] (z1x [vint r.1]) (z0v r.2):=by
 refine y3n (us:=[vint r.1]) (cs':=(z0v r.2)) (by kernel_rfl) Tryz.func27 rfl rfl rfl rfl fun X bl hN => ?_
 unfold z2a at H
 refine z0c ?_
 refine z0b hN rfl ?_
 refine qe rfl ?_
 refine z0c ?_
 refine z0b hN rfl ?_
 refine z0a (z0k (.ptr _ _) rfl) ?_
 refine z0a (y2i rfl) ?_
 refine z0a (z0p y9k rfl) ?_
 refine z0j (z0n tyS3 rfl rfl) rfl ?_
 refine z0a (z1s _ rfl rfl (.inl ⟨rfl,rfl⟩)) ?_
 refine z0a (y2i rfl) ?_
 refine z0a (z0p y9k rfl) ?_
 refine z0f (z2n tyS3 rfl rfl rfl rfl) rfl ?_
 refine z0c ?_
 refine z0c ?_
 refine z0b hN rfl ?_
 refine z0a (z0k (.ptr _ _) rfl) ?_
 refine z0a (y2i rfl) ?_
 refine z0a (z0p x1v rfl) ?_
 refine z0j (z0n w2e rfl rfl) rfl ?_
 refine z0a (z43 x3n rfl) ?_
 refine z0a (z12 rfl rfl) ?_
 refine z0i _ rfl (fun h3 => ?_) (fun h3 => ?_)
 ·replace H:=ift h3 H
  refine z0c ?_
  refine z0b hN rfl ?_
  refine z0a (z0k (.ptr _ _) rfl) ?_
  refine z0a (y2i rfl) ?_
  refine z0a (z0p y9k rfl) ?_
  refine z0j (z0n tyS3 rfl rfl) rfl ?_
  refine z0a (z1s _ rfl rfl (.inr (.inr ⟨rfl,rfl⟩))) ?_
  refine qd rfl ?_
  obtain ⟨r4,h5,H⟩:=bnd H
  refine z0a (z0x (y3z (wr ((wr (s1.at_+1)) * 7919)) n2 r4 h5) ⟨.inl rfl,.inl rfl,trivial⟩) ?_
  refine qe rfl ?_
  refine z0r ?_
  cases H
  exact ⟨trivial,⟨.inl rfl,trivial⟩,rfl⟩
 ·replace H:=iff_ h3 H
  refine z0s ?_
  refine z0c ?_
  refine z3q mixed hN rfl rfl ?_
  refine z0a (z0k (.ptr _ _) rfl) ?_
  refine z0a (y2i rfl) ?_
  refine z0a (z0p y9k rfl) ?_
  refine z0j (z0n tyS3 rfl rfl) rfl ?_
  refine z0a (z1s _ rfl rfl (.inr (.inl ⟨rfl,rfl⟩))) ?_
  refine z0a (z0k (.ptr _ _) rfl) ?_
  refine z0a (y2i rfl) ?_
  refine z0a (z0p x1v rfl) ?_
  refine z0j (z0n w2e rfl rfl) rfl ?_
  refine z0a (z43 x3n rfl) ?_
  obtain ⟨h6,H⟩:=gif H
  refine z0a (x2b rfl rfl h6) ?_
  refine qe rfl ?_
  refine ⟨rfl,?_⟩
  refine z0c ?_
  refine z3q mixed hN rfl rfl ?_
  refine z0a (z0k (.ptr _ _) rfl) ?_
  refine z0a (y2i rfl) ?_
  refine z0a (z0p y9k rfl) ?_
  refine z0j (z0n tyS3 rfl rfl) rfl ?_
  refine z0a (z1s _ rfl rfl (.inr (.inl ⟨rfl,rfl⟩))) ?_
  refine z0a (z0k (.ptr _ _) rfl) ?_
  refine z0a (y2i rfl) ?_
  refine z0a (z0p x1v rfl) ?_
  refine z0j (z0n w2e rfl rfl) rfl ?_
  refine z0a (z43 x3n rfl) ?_
  obtain ⟨h7,H⟩:=gif H
  refine z0a (x9f rfl rfl h7.1 h7.2) ?_
  refine qe rfl ?_
  refine ⟨rfl,?_⟩
  refine z0c ?_
  refine z0b hN rfl ?_
  refine z0a (z0k (.ptr _ _) rfl) ?_
  refine z0a (y2i rfl) ?_
  refine z0a (z0p x1v rfl) ?_
  refine z0j (z0n w2e rfl rfl) rfl ?_
  refine qd rfl ?_
  obtain ⟨x8,h9,H⟩:=bnd H
  refine z0a (y1l x86 (fun _=>rfl) rfl rfl h9) ?_
  refine z0a (z1q tyS3 rfl (z29 (z2m h9).2) rfl) ?_
  obtain ⟨r10,h11,H⟩:=bnd H
  refine z0a (z0x (y3z x8 1073741824 r10 h11) ⟨.inl rfl,.inl rfl,trivial⟩) ?_
  refine qd rfl ?_
  refine qd rfl ?_
  refine z0a (z1s _ rfl rfl (.inl ⟨rfl,rfl⟩)) ?_
  refine z0a (z1s _ rfl rfl (.inr (.inr ⟨rfl,rfl⟩))) ?_
  refine z0a (z1s _ rfl rfl (.inl ⟨rfl,rfl⟩)) ?_
  refine qd rfl ?_
  obtain ⟨r12,h13,H⟩:=bnd H
  refine z0a (z0x (y3z (wr (r10+(wr (((wr ((wr (s1.at_+1)) - 1)) / (s1.L.length:Int)) * (wr (7919+(Int.tmod (wr ((wr (s1.at_+1)) - 1)) (s1.L.length:Int)))))))) n2 r12 h13) ⟨.inl rfl,.inl rfl,trivial⟩) ?_
  refine qe rfl ?_
  refine z0r ?_
  cases H
  exact ⟨trivial,⟨.inl rfl,trivial⟩,rfl⟩
theorem z6r (s1:z0d) (low2:Int) (high3:Int) (r:(Int×z0d)) (H:z3t s1 low2 high3=some r):Imp Tryz.prog 5 25 (z0v s1) [vint low2,vint high3] (z1x [vint r.1]) (z0v r.2):=by
 refine y3n (us:=[vint r.1]) (cs':=(z0v r.2)) (by kernel_rfl) Tryz.func5 rfl rfl rfl rfl fun X bl hN => ?_
 unfold z3t at H
 refine z0c ?_
 refine z0b hN rfl ?_
 refine qe rfl ?_
 refine z0c ?_
 refine z0c ?_
 refine z0b hN rfl ?_
 refine qd rfl ?_
 refine qd rfl ?_
 refine z0a (z05 rfl rfl) ?_
 refine z0i _ rfl (fun h4 => ?_) (fun h4 => ?_)
 ·replace H:=ift h4 H
  refine z0c ?_
  refine z0b hN rfl ?_
  refine qd rfl ?_
  refine qe rfl ?_
  refine z0r ?_
  cases H
  exact ⟨trivial,⟨.inl rfl,trivial⟩,rfl⟩
 ·replace H:=iff_ h4 H
  refine z0s ?_
  refine z0c ?_
  refine z0b hN rfl ?_
  refine qd rfl ?_
  refine z0a (z0k (.ptr _ _) rfl) ?_
  refine qd rfl ?_
  refine qd rfl ?_
  refine z0a (z1s _ rfl rfl (.inr (.inl ⟨rfl,rfl⟩))) ?_
  refine z0a (z1s _ rfl rfl (.inl ⟨rfl,rfl⟩)) ?_
  obtain ⟨r5,h6,H⟩:=bnd H
  refine z0f (z1i (z3m s1 (wr ((wr (high3 - low2))+1)) r5 h6) rfl ⟨.inl rfl,trivial⟩ rfl) rfl ?_
  refine z0a (z1s _ rfl rfl (.inl ⟨rfl,rfl⟩)) ?_
  refine qe rfl ?_
  refine z0r ?_
  cases H
  exact ⟨trivial,⟨.inl rfl,trivial⟩,rfl⟩
theorem z1y (s1:z0d) (n2:Int) (r:(Bool×z0d)) (H:z1o s1 n2=some r):Imp Tryz.prog 49 25 (z0v s1) [vint n2] (z1x [z1e r.1]) (z0v r.2):=by
 refine y3n (us:=[z1e r.1]) (cs':=(z0v r.2)) (by kernel_rfl) Tryz.func49 rfl rfl rfl rfl fun X bl hN => ?_
 unfold z1o at H
 refine z0c ?_
 refine z0b hN rfl ?_
 refine qe rfl ?_
 refine z0c ?_
 refine z0b hN rfl ?_
 refine z0a (z0k (.ptr _ _) rfl) ?_
 refine qd rfl ?_
 obtain ⟨r3,h4,H⟩:=bnd H
 refine z0f (z1i (z3m s1 n2 r3 h4) rfl ⟨.inl rfl,trivial⟩ rfl) rfl ?_
 refine z0a (z12 rfl rfl) ?_
 refine qe rfl ?_
 refine z0r ?_
 cases H
 exact ⟨trivial,⟨.inl rfl,trivial⟩,rfl⟩
theorem z1n (s1:z0d) (l2:(List Bs)) (r:(Bs×z0d)) (H:z1g s1 l2=some r):Imp Tryz.prog 28 25 (z0v s1) [vlst (List.map z00 l2)] (z1x [vstr r.1]) (z0v r.2):=by
 refine y3n (us:=[vstr r.1]) (cs':=(z0v r.2)) (by kernel_rfl) Tryz.func28 rfl rfl rfl rfl fun X bl hN => ?_
 unfold z1g at H
 refine z0c ?_
 refine z0b hN rfl ?_
 refine qe rfl ?_
 refine z0c ?_
 refine z0b hN rfl ?_
 refine qd rfl ?_
 refine z0a (z0k (.ptr _ _) rfl) ?_
 refine qd rfl ?_
 refine z0a (z43 y2p rfl) ?_
 obtain ⟨r3,h4,H⟩:=bnd H
 refine z0f (z1i (z3m s1 (l2.length:Int) r3 h4) rfl ⟨.inl rfl,trivial⟩ rfl) rfl ?_
 obtain ⟨x5,h6,H⟩:=bnd H
 refine z0a (y1l y5z (fun _=>rfl) rfl rfl h6) ?_
 refine z0a (z1q tyS9 rfl (z29 (z2m h6).2) rfl) ?_
 refine qe rfl ?_
 refine z0r ?_
 cases H
 exact ⟨trivial,⟨.inl rfl,trivial⟩,rfl⟩
theorem z07 (s1:z0d) (l2:(List Int)) (r:(Int×z0d)) (H:z1c s1 l2=some r):Imp Tryz.prog 29 25 (z0v s1) [vlst (List.map z3o l2)] (z1x [vint r.1]) (z0v r.2):=by
 refine y3n (us:=[vint r.1]) (cs':=(z0v r.2)) (by kernel_rfl) Tryz.func29 rfl rfl rfl rfl fun X bl hN => ?_
 unfold z1c at H
 refine z0c ?_
 refine z0b hN rfl ?_
 refine qe rfl ?_
 refine z0c ?_
 refine z0b hN rfl ?_
 refine qd rfl ?_
 refine z0a (z0k (.ptr _ _) rfl) ?_
 refine qd rfl ?_
 refine z0a (z43 x3n rfl) ?_
 obtain ⟨r3,h4,H⟩:=bnd H
 refine z0f (z1i (z3m s1 (l2.length:Int) r3 h4) rfl ⟨.inl rfl,trivial⟩ rfl) rfl ?_
 obtain ⟨x5,h6,H⟩:=bnd H
 refine z0a (y1l x86 (fun _=>rfl) rfl rfl h6) ?_
 refine z0a (z1q tyS3 rfl (z29 (z2m h6).2) rfl) ?_
 refine qe rfl ?_
 refine z0r ?_
 cases H
 exact ⟨trivial,⟨.inl rfl,trivial⟩,rfl⟩
theorem z4d (s1:z0d) (low2:Int) (high3:Int) (r:(Int×z0d)) (H:z2l s1 low2 high3=some r):Imp Tryz.prog 50 25 (z0v s1) [vint low2,vint high3] (z1x [vint r.1]) (z0v r.2):=by
 refine y3n (us:=[vint r.1]) (cs':=(z0v r.2)) (by kernel_rfl) Tryz.func50 rfl rfl rfl rfl fun X bl hN => ?_
 unfold z2l at H
 refine z0c ?_
 refine z0b hN rfl ?_
 refine qe rfl ?_
 refine z0c ?_
 refine z0c ?_
 refine z0b hN rfl ?_
 refine z0a (z0k (.ptr _ _) rfl) ?_
 obtain ⟨r4,h5,H⟩:=bnd H
 refine z0f (z1i (z1y s1 12 r4 h5) rfl ⟨.inl rfl,trivial⟩ rfl) rfl ?_
 refine z0i _ rfl (fun h6 => ?_) (fun h6 => ?_)
 ·replace H:=ift h6 H
  refine z0c ?_
  refine z0b hN rfl ?_
  refine z0a (z0k (.ptr _ _) rfl) ?_
  refine qd rfl ?_
  refine z0a (z1s _ rfl rfl (.inr (.inl ⟨rfl,rfl⟩))) ?_
  refine qd rfl ?_
  refine z0a (z1s _ rfl rfl (.inl ⟨rfl,rfl⟩)) ?_
  refine qd rfl ?_
  refine qd rfl ?_
  refine z0a (z06 (u':=vlst (List.map z3o [wr (low2 - 1),wr (high3+1),low2,high3,(-1099511627776),1099511627776])) (z1w [[_],[_],[_],[_],[_],[_]] y1x ⟨rfl,.inl ⟨_,rfl,rfl,rfl⟩,rfl,rfl,.inl ⟨_,rfl,rfl,rfl⟩,rfl,rfl,.inl ⟨_,rfl,rfl,rfl⟩,rfl,rfl,.inl ⟨_,rfl,rfl,rfl⟩,rfl,rfl,.inl ⟨_,rfl,rfl,rfl⟩,rfl,rfl,.inl ⟨_,rfl,rfl,rfl⟩,rfl,trivial⟩ rfl rfl) rfl) ?_
  obtain ⟨r7,h8,H⟩:=bnd H
  refine z0f (z1i (z07 r4.2 [wr (low2 - 1),wr (high3+1),low2,high3,(-1099511627776),1099511627776] r7 h8) rfl ⟨.inl rfl,trivial⟩ rfl) rfl ?_
  refine qe rfl ?_
  refine z0r ?_
  cases H
  exact ⟨trivial,⟨.inl rfl,trivial⟩,rfl⟩
 ·replace H:=iff_ h6 H
  refine z0s ?_
  refine z0c ?_
  refine z0b hN rfl ?_
  refine z0a (z0k (.ptr _ _) rfl) ?_
  refine qd rfl ?_
  refine qd rfl ?_
  obtain ⟨r9,h10,H⟩:=bnd H
  refine z0f (z1i (z6r r4.2 low2 high3 r9 h10) rfl ⟨.inl rfl,.inl rfl,trivial⟩ rfl) rfl ?_
  refine qe rfl ?_
  refine z0r ?_
  cases H
  exact ⟨trivial,⟨.inl rfl,trivial⟩,rfl⟩
theorem y1a (s1:z0d) (r:((List Bs)×z0d)) (H:z2k s1=some r):Imp Tryz.prog 86 25 (z0v s1) [] (z1x [vlst (List.map z00 r.1)]) (z0v r.2):=by
 refine y3n (us:=[vlst (List.map z00 r.1)]) (cs':=(z0v r.2)) (by kernel_rfl) Tryz.func86 rfl rfl rfl rfl fun X bl hN => ?_
 unfold z2k at H
 refine z0c ?_
 refine z0b hN rfl ?_
 refine qe rfl ?_
 refine z0c ?_
 refine z0b hN rfl ?_
 refine qe rfl ?_
 refine z0c ?_
 refine z0c ?_
 refine z0b hN rfl ?_
 refine z0a (z0k (.ptr _ _) rfl) ?_
 obtain ⟨r2,h3,H⟩:=bnd H
 refine z0f (z1i (z6r s1 0 4 r2 h3) rfl ⟨.inl rfl,.inl rfl,trivial⟩ rfl) rfl ?_
 refine qd rfl ?_
 refine z0y ?_
 refine z82 3 1 9 1 rfl rfl rfl ?_
 obtain ⟨h9,H⟩:=gif H
 refine x0n (fun (k7:Nat) (s:(List Int)×Int×(List Bs))=>[(0,.ptr 0 0),(3,.row 1 s.2.2.length),(5,.dat (vint r2.1)),(6,.dat (vint (k7:Int)))]) (fun (k7:Nat) (s:(List Int)×Int×(List Bs))=>[(0,.box (some bl) 25 [.dat (vlst (List.map z3o s.1)),.dat (vint s.2.1)]),(1,.row 9 1 (List.map z00 s.2.2))]) (r2.2.L,r2.2.at_,[]) H ⟨rfl,rfl,rfl,rfl,trivial⟩ ⟨rfl,rfl,trivial⟩ (fun _ _=>rfl) ?_ ?_
 ·rintro ⟨c4,c5,l6⟩ H
  replace H:z4f c4 c5 l6=some r:=H
  unfold z4f at H
  refine z0c ?_
  refine z0b hN rfl ?_
  refine z0a (z05 rfl rfl) ?_
  refine z0c ?_
  refine z0i _ rfl (fun h=>(w0m h).elim) (fun h => ?_)
  refine z1v ?_
  refine z0c ?_
  refine z0b hN rfl ?_
  refine z0a (z0k (.row _ _) rfl) ?_
  refine z0a (z1j (.row _ _) rfl) ?_
  refine z0r ?_
  cases H
  exact ⟨trivial,⟨y3s rfl rfl,trivial⟩,rfl⟩
 ·rintro k7 ⟨c4,c5,l6⟩ q8 h10 H hq8
  replace H:z3n k7 c4 c5 l6=some q8:=H
  unfold z3n at H
  refine z0c ?_
  refine z0b hN rfl ?_
  refine z0a (z05 rfl rfl) ?_
  refine z0c ?_
  refine z0i _ rfl (fun h => ?_) (fun h=>(w0n h10 h).elim)
  refine z0s ?_
  refine z0c ?_
  refine z0y ?_
  refine z0b hN rfl ?_
  refine z0a (z0k (.row _ _) rfl) ?_
  refine z0a (z0k (.ptr _ _) rfl) ?_
  refine z0a (z06 (u':=vlst (List.map z00 [[97],[97,58,42],[97,58,98],[97,58,98,58,42],[97,58,98,58,99],[98],[98,58,42],[98,58,99],[42]])) (z1w [[_],[_],[_],[_],[_],[_],[_],[_],[_]] y06 ⟨rfl,.inl ⟨_,rfl,rfl,rfl⟩,rfl,rfl,.inl ⟨_,rfl,rfl,rfl⟩,rfl,rfl,.inl ⟨_,rfl,rfl,rfl⟩,rfl,rfl,.inl ⟨_,rfl,rfl,rfl⟩,rfl,rfl,.inl ⟨_,rfl,rfl,rfl⟩,rfl,rfl,.inl ⟨_,rfl,rfl,rfl⟩,rfl,rfl,.inl ⟨_,rfl,rfl,rfl⟩,rfl,rfl,.inl ⟨_,rfl,rfl,rfl⟩,rfl,rfl,.inl ⟨_,rfl,rfl,rfl⟩,rfl,trivial⟩ rfl rfl) rfl) ?_
  obtain ⟨r11,h12,H⟩:=bnd H
  refine z0f (z1i (z1n (z0d.mk c4 c5) ([[97],[97,58,42],[97,58,98],[97,58,98,58,42],[97,58,98,58,99],[98],[98,58,42],[98,58,99],[42]]) r11 h12) rfl ⟨.inl rfl,trivial⟩ rfl) rfl ?_
  refine z0a (z06 (u':=vlst (List.map z00 [r11.1])) (z1w [[_]] y06 ⟨rfl,.inl ⟨_,rfl,rfl,rfl⟩,rfl,trivial⟩ rfl rfl) rfl) ?_
  obtain ⟨h13,H⟩:=gif H
  refine z0f (y50 y06 (fun _=>rfl) rfl rfl rfl ⟨by simp,by first | (simp; done) | simpa using h13⟩ rfl) rfl ?_
  refine z0a (z1j (.row _ _) rfl) ?_
  refine z0b hN rfl ?_
  refine z0a (z3v rfl rfl (by omega)) ?_
  refine qd rfl ?_
  exact ⟨_,z63 H,⟨rfl,rfl,rfl,rfl,trivial⟩,⟨rfl,rfl,trivial⟩⟩
theorem y8z (s:Bs) (n:Int) (r:Bs) (H:y07 s n=some r):Fn Tryz.prog 130 [vstr s,vint n] (z1x [vstr r]):=by
 obtain ⟨h0,h1,h2,rfl⟩:=x5i H
 obtain ⟨c,rfl⟩:=Int.eq_ofNat_of_zero_le h0
 refine y4o (by kernel_rfl) fun M w vs h => ?_
 have hv:=y8j (us:=[.string ⟨s.toArray⟩,.int .i64 c]) h
 subst hv
 have hs:(ByteArray.mk s.toArray).size=s.length:=by simp [ByteArray.size]
 refine (Tryz.strings_Repeat ⟨s.toArray⟩ c w (by omega) (by rw [hs]; exact Nat.le_trans (Nat.mul_le_mul h2 (show c≤1000000 by omega)) (by decide))).mono ?_
 rintro e w' ⟨rfl,hb⟩
 exact ⟨_,rfl,by simp [z1x,vstr,vval],Kp.of_below hb⟩
theorem y5t (s1:z0d) (r:(Bs×z0d)) (H:z6q s1=some r):Imp Tryz.prog 87 25 (z0v s1) [] (z1x [vstr r.1]) (z0v r.2):=by
 refine y3n (us:=[vstr r.1]) (cs':=(z0v r.2)) (by kernel_rfl) Tryz.func87 rfl rfl rfl rfl fun X bl hN => ?_
 unfold z6q at H
 refine z0c ?_
 refine z0b hN rfl ?_
 refine qe rfl ?_
 refine z0c ?_
 refine z0c ?_
 refine z0b hN rfl ?_
 refine z0a (z0k (.ptr _ _) rfl) ?_
 obtain ⟨r2,h3,H⟩:=bnd H
 refine z0f (z1i (z1y s1 25 r2 h3) rfl ⟨.inl rfl,trivial⟩ rfl) rfl ?_
 refine z0i _ rfl (fun h4 => ?_) (fun h4 => ?_)
 ·replace H:=ift h4 H
  refine z0c ?_
  refine z0b hN rfl ?_
  refine z0a (z0k (.ptr _ _) rfl) ?_
  obtain ⟨r5,h6,H⟩:=bnd H
  refine z0a (z0x (y8z [97,58] 10 r5 h6) ⟨.inl rfl,.inl rfl,trivial⟩) ?_
  obtain ⟨h7,H⟩:=gif H
  refine z0a (w2n rfl rfl (Nat.le_trans h7 (by decide))) ?_
  refine z0a (z06 (u':=vlst (List.map z00 [[],[97,58,42,58,98],[65],[97,58,58,98],[97,58],[42,42],[97,42],(r5++[97])])) (z1w [[_],[_],[_],[_],[_],[_],[_],[_]] y06 ⟨rfl,.inl ⟨_,rfl,rfl,rfl⟩,rfl,rfl,.inl ⟨_,rfl,rfl,rfl⟩,rfl,rfl,.inl ⟨_,rfl,rfl,rfl⟩,rfl,rfl,.inl ⟨_,rfl,rfl,rfl⟩,rfl,rfl,.inl ⟨_,rfl,rfl,rfl⟩,rfl,rfl,.inl ⟨_,rfl,rfl,rfl⟩,rfl,rfl,.inl ⟨_,rfl,rfl,rfl⟩,rfl,rfl,.inl ⟨_,rfl,rfl,rfl⟩,rfl,trivial⟩ rfl rfl) rfl) ?_
  obtain ⟨r8,h9,H⟩:=bnd H
  refine z0f (z1i (z1n r2.2 ([[],[97,58,42,58,98],[65],[97,58,58,98],[97,58],[42,42],[97,42],(r5++[97])]) r8 h9) rfl ⟨.inl rfl,trivial⟩ rfl) rfl ?_
  refine qe rfl ?_
  refine z0r ?_
  cases H
  exact ⟨trivial,⟨.inl rfl,trivial⟩,rfl⟩
 ·replace H:=iff_ h4 H
  refine z0s ?_
  refine z0c ?_
  refine z0b hN rfl ?_
  refine z0a (z0k (.ptr _ _) rfl) ?_
  refine z0a (z06 (u':=vlst (List.map z00 [[42],[97],[97,58,42],[97,58,98],[97,58,98,58,42],[97,58,98,58,99],[98],[98,58,42],[98,58,99],[99]])) (z1w [[_],[_],[_],[_],[_],[_],[_],[_],[_],[_]] y06 ⟨rfl,.inl ⟨_,rfl,rfl,rfl⟩,rfl,rfl,.inl ⟨_,rfl,rfl,rfl⟩,rfl,rfl,.inl ⟨_,rfl,rfl,rfl⟩,rfl,rfl,.inl ⟨_,rfl,rfl,rfl⟩,rfl,rfl,.inl ⟨_,rfl,rfl,rfl⟩,rfl,rfl,.inl ⟨_,rfl,rfl,rfl⟩,rfl,rfl,.inl ⟨_,rfl,rfl,rfl⟩,rfl,rfl,.inl ⟨_,rfl,rfl,rfl⟩,rfl,rfl,.inl ⟨_,rfl,rfl,rfl⟩,rfl,rfl,.inl ⟨_,rfl,rfl,rfl⟩,rfl,trivial⟩ rfl rfl) rfl) ?_
  obtain ⟨r10,h11,H⟩:=bnd H
  refine z0f (z1i (z1n r2.2 ([[42],[97],[97,58,42],[97,58,98],[97,58,98,58,42],[97,58,98,58,99],[98],[98,58,42],[98,58,99],[99]]) r10 h11) rfl ⟨.inl rfl,trivial⟩ rfl) rfl ?_
  refine qe rfl ?_
  refine z0r ?_
  cases H
  exact ⟨trivial,⟨.inl rfl,trivial⟩,rfl⟩
theorem y3l (s1:z0d) (r:((List Bs)×z0d)) (H:z2k s1=some r):FnG Tryz.prog 86 [.ptr 0 0] [(0,.box (some 0) 25 (List.map .dat (z0v s1)))] (.row 1 r.1.length) [(0,.box (some 0) 25 (List.map .dat (z0v r.2))),(1,.row 9 1 (List.map z00 r.1))]:=by
 refine y65 (by kernel_rfl) Tryz.func86 rfl rfl rfl rfl fun X A hN => ?_
 unfold z2k at H
 refine z0c ?_
 refine z0b hN rfl ?_
 refine qe rfl ?_
 refine z0c ?_
 refine z0b hN rfl ?_
 refine qe rfl ?_
 refine z0c ?_
 refine z0c ?_
 refine z0b hN rfl ?_
 refine z0a (z0k (.ptr _ _) rfl) ?_
 obtain ⟨r2,h3,H⟩:=bnd H
 refine z0f (z1i (z6r s1 0 4 r2 h3) rfl ⟨.inl rfl,.inl rfl,trivial⟩ rfl) rfl ?_
 refine qd rfl ?_
 refine z0y ?_
 refine z82 3 1 9 1 rfl rfl rfl ?_
 obtain ⟨h9,H⟩:=gif H
 refine x0n (fun (k7:Nat) (s:(List Int)×Int×(List Bs))=>[(0,.ptr 0 0),(3,.row 1 s.2.2.length),(5,.dat (vint r2.1)),(6,.dat (vint (k7:Int)))]) (fun (k7:Nat) (s:(List Int)×Int×(List Bs))=>[(0,.box (some (A.bl 0)) 25 [.dat (vlst (List.map z3o s.1)),.dat (vint s.2.1)]),(1,.row 9 1 (List.map z00 s.2.2))]) (r2.2.L,r2.2.at_,[]) H ⟨rfl,rfl,rfl,rfl,trivial⟩ ⟨rfl,rfl,trivial⟩ (fun _ _=>rfl) ?_ ?_
 ·rintro ⟨c4,c5,l6⟩ H
  replace H:z4f c4 c5 l6=some r:=H
  unfold z4f at H
  refine z0c ?_
  refine z0b hN rfl ?_
  refine z0a (z05 rfl rfl) ?_
  refine z0c ?_
  refine z0i _ rfl (fun h=>(w0m h).elim) (fun h => ?_)
  refine z1v ?_
  refine z0c ?_
  refine z0b hN rfl ?_
  refine z0a (z0k (.row _ _) rfl) ?_
  refine z0a (z1j (.row _ _) rfl) ?_
  refine z0r ?_
  cases H
  exact ⟨trivial,[(2,.row 1 _)],⟨rfl,trivial⟩,⟨rfl,rfl,trivial⟩,rfl,.inr (.inl ⟨2,rfl,rfl⟩)⟩
 ·rintro k7 ⟨c4,c5,l6⟩ q8 h10 H hq8
  replace H:z3n k7 c4 c5 l6=some q8:=H
  unfold z3n at H
  refine z0c ?_
  refine z0b hN rfl ?_
  refine z0a (z05 rfl rfl) ?_
  refine z0c ?_
  refine z0i _ rfl (fun h => ?_) (fun h=>(w0n h10 h).elim)
  refine z0s ?_
  refine z0c ?_
  refine z0y ?_
  refine z0b hN rfl ?_
  refine z0a (z0k (.row _ _) rfl) ?_
  refine z0a (z0k (.ptr _ _) rfl) ?_
  refine z0a (z06 (u':=vlst (List.map z00 [[97],[97,58,42],[97,58,98],[97,58,98,58,42],[97,58,98,58,99],[98],[98,58,42],[98,58,99],[42]])) (z1w [[_],[_],[_],[_],[_],[_],[_],[_],[_]] y06 ⟨rfl,.inl ⟨_,rfl,rfl,rfl⟩,rfl,rfl,.inl ⟨_,rfl,rfl,rfl⟩,rfl,rfl,.inl ⟨_,rfl,rfl,rfl⟩,rfl,rfl,.inl ⟨_,rfl,rfl,rfl⟩,rfl,rfl,.inl ⟨_,rfl,rfl,rfl⟩,rfl,rfl,.inl ⟨_,rfl,rfl,rfl⟩,rfl,rfl,.inl ⟨_,rfl,rfl,rfl⟩,rfl,rfl,.inl ⟨_,rfl,rfl,rfl⟩,rfl,rfl,.inl ⟨_,rfl,rfl,rfl⟩,rfl,trivial⟩ rfl rfl) rfl) ?_
  obtain ⟨r11,h12,H⟩:=bnd H
  refine z0f (z1i (z1n (z0d.mk c4 c5) ([[97],[97,58,42],[97,58,98],[97,58,98,58,42],[97,58,98,58,99],[98],[98,58,42],[98,58,99],[42]]) r11 h12) rfl ⟨.inl rfl,trivial⟩ rfl) rfl ?_
  refine z0a (z06 (u':=vlst (List.map z00 [r11.1])) (z1w [[_]] y06 ⟨rfl,.inl ⟨_,rfl,rfl,rfl⟩,rfl,trivial⟩ rfl rfl) rfl) ?_
  obtain ⟨h13,H⟩:=gif H
  refine z0f (y50 y06 (fun _=>rfl) rfl rfl rfl ⟨by simp,by first | (simp; done) | simpa using h13⟩ rfl) rfl ?_
  refine z0a (z1j (.row _ _) rfl) ?_
  refine z0b hN rfl ?_
  refine z0a (z3v rfl rfl (by omega)) ?_
  refine qd rfl ?_
  exact ⟨_,z63 H,⟨rfl,rfl,rfl,rfl,trivial⟩,⟨rfl,rfl,trivial⟩⟩
theorem y5e (s1:z0d) (r:((List Bs)×z0d)) (H:z59 s1=some r):Imp Tryz.prog 51 25 (z0v s1) [] (z1x [vlst (List.map z00 r.1)]) (z0v r.2):=by
 refine y3n (us:=[vlst (List.map z00 r.1)]) (cs':=(z0v r.2)) (by kernel_rfl) Tryz.func51 rfl rfl rfl rfl fun X bl hN => ?_
 unfold z59 at H
 refine z0c ?_
 refine z0b hN rfl ?_
 refine qe rfl ?_
 refine z0c ?_
 refine z0b hN rfl ?_
 refine z0a (z0k (.ptr _ _) rfl) ?_
 obtain ⟨r2,h3,H⟩:=bnd H
 refine z7u (rn [(0,0),(1,1)]) [(0,_,_,some _)] [(1,_)] (y3l s1 r2 h3) ⟨rfl,rfl,trivial⟩ ⟨.inl (.inl rfl),trivial⟩ ⟨⟨⟨rfl,rfl⟩,trivial⟩,trivial⟩ rfl ?_
 refine z0a (z1j (.row _ _) rfl) ?_
 refine z1a (ι:=(List Bs)×(List Int)×Int) (fun i=>[(0,.ptr 0 0),(3,.row 1 i.1.length)]) (fun i=>[(0,.box (some bl) 25 [.dat (vlst (List.map z3o i.2.1)),.dat (vint i.2.2)]),(1,.row 9 1 (List.map z00 i.1))]) (fun i=>z3w i.1 i.2.1 i.2.2=some r) (fun i=>rfl) ?_ ?_
 ·skip
  refine z0c ?_
  refine z0b hN rfl ?_
  refine z0a (z0k (.ptr _ _) rfl) ?_
  obtain ⟨r4,h5,H⟩:=bnd H
  refine z0f (z1i (z1y r2.2 6 r4 h5) rfl ⟨.inl rfl,trivial⟩ rfl) rfl ?_
  refine z0i _ rfl (fun h6 => ?_) (fun h6 => ?_)
  ·replace H:=ift h6 H
   refine z0b hN rfl ?_
   refine z0a (z0k (.row _ _) rfl) ?_
   refine z0a (z0k (.ptr _ _) rfl) ?_
   obtain ⟨r7,h8,H⟩:=bnd H
   refine z0f (z1i (y5t r4.2 r7 h8) rfl trivial rfl) rfl ?_
   refine z0a (z06 (u':=vlst (List.map z00 [r7.1])) (z1w [[_]] y06 ⟨rfl,.inl ⟨_,rfl,rfl,rfl⟩,rfl,trivial⟩ rfl rfl) rfl) ?_
   obtain ⟨h9,H⟩:=gif H
   refine z0f (y50 y06 (fun _=>rfl) rfl rfl rfl ⟨by simp,by first | (simp; done) | simpa using h9⟩ rfl) rfl ?_
   refine z0a (z1j (.row _ _) rfl) ?_
   exact ⟨((r2.1++[r7.1]),r7.2.L,r7.2.at_),H,⟨rfl,rfl,trivial⟩,⟨rfl,rfl,trivial⟩⟩
  ·replace H:=iff_ h6 H
   refine z0s ?_
   exact ⟨(r2.1,r4.2.L,r4.2.at_),H,⟨rfl,rfl,trivial⟩,⟨rfl,rfl,trivial⟩⟩
 ·rintro ⟨out10,c11,c12⟩ H
  replace H:z3w out10 c11 c12=some r:=H
  unfold z3w at H
  refine w1s (ι:=(List Bs)×(List Int)×Int) (fun i=>[(3,.dat (vlst (List.map z00 i.1)))]) (fun i=>[(0,.box (some bl) 25 [.dat (vlst (List.map z3o i.2.1)),.dat (vint i.2.2)])]) (fun i=>z4u i.1 i.2.1 i.2.2=some r) (fun i=>rfl) (fun i=>rfl) ?_ ?_
  ·skip
   refine z0c ?_
   refine z0b hN rfl ?_
   refine z0a (z0k (.ptr _ _) rfl) ?_
   obtain ⟨r13,h14,H⟩:=bnd H
   refine z0f (z1i (z1y (z0d.mk c11 c12) 60 r13 h14) rfl ⟨.inl rfl,trivial⟩ rfl) rfl ?_
   refine z0i _ rfl (fun h15 => ?_) (fun h15 => ?_)
   ·replace H:=ift h15 H
    refine z0b hN rfl ?_
    obtain ⟨h16,H⟩:=gif H
    refine z0f (w65 (C:=z00) 2 [] y06 tyZ9 rfl rfl rfl rfl h16 rfl) rfl ?_
    refine z0a (z1j (.row _ _) rfl) ?_
    exact ⟨[(3,2)],_,_,_,_,rfl,rfl,by simp,⟨((List.replicate 51 []),r13.2.L,r13.2.at_),H,⟨.inl rfl,trivial⟩,⟨rfl,trivial⟩⟩⟩
   ·replace H:=iff_ h15 H
    refine z0s ?_
    exact ⟨[(3,1)],_,_,_,_,rfl,rfl,by simp,⟨(out10,r13.2.L,r13.2.at_),H,⟨.inl rfl,trivial⟩,⟨rfl,trivial⟩⟩⟩
  ·rintro ⟨out17,c18,c19⟩ H
   replace H:z4u out17 c18 c19=some r:=H
   unfold z4u at H
   refine z0c ?_
   refine z0b hN rfl ?_
   refine qd rfl ?_
   refine qe rfl ?_
   refine z0r ?_
   cases H
   exact ⟨trivial,⟨.inl rfl,trivial⟩,rfl⟩
theorem y0w (s1:z0d) (r:(z0g×z0d)) (H:z2t s1=some r):Imp Tryz.prog 48 25 (z0v s1) [] (z1x [vagg (z1d r.1)]) (z0v r.2):=by
 refine y3n (us:=[vagg (z1d r.1)]) (cs':=(z0v r.2)) (by kernel_rfl) Tryz.func48 rfl rfl rfl rfl fun X bl hN => ?_
 unfold z2t at H
 refine z0c ?_
 refine z0b hN rfl ?_
 refine z0f (z1h 1 y59 rfl) rfl ?_
 refine z0c ?_
 refine z0b hN rfl ?_
 refine z0a (z0k (.ptr _ _) rfl) ?_
 obtain ⟨r2,h3,H⟩:=bnd H
 refine z0f (z1i (y1a s1 r2 h3) rfl trivial rfl) rfl ?_
 refine z0a (z06 (u':=vagg (z0u (z0m.mk [109,97,112,115] r2.1))) (z3k [(0,[vstr [109,97,112,115]]),(1,[vlst (List.map z00 r2.1)])] x0r x7q rfl ⟨rfl,.inl ⟨_,rfl,rfl,rfl⟩,rfl,rfl,.inl ⟨_,rfl,rfl,rfl⟩,rfl,trivial⟩) rfl) ?_
 refine z0a (z06 (u':=vlst (List.map z00 [[111,114,100,101,114,115]])) (z1w [[_]] y06 ⟨rfl,.inl ⟨_,rfl,rfl,rfl⟩,rfl,trivial⟩ rfl rfl) rfl) ?_
 refine z0a (z06 (u':=vagg (z0u (z0m.mk [115,104,111,112] ([[111,114,100,101,114,115]])))) (z3k [(0,[vstr [115,104,111,112]]),(1,[vlst (List.map z00 ([[111,114,100,101,114,115]]))])] x0r x7q rfl ⟨rfl,.inl ⟨_,rfl,rfl,rfl⟩,rfl,rfl,.inl ⟨_,rfl,rfl,rfl⟩,rfl,trivial⟩) rfl) ?_
 refine z0a (z06 (u':=vlst (List.map z0u [(z0m.mk [109,97,112,115] r2.1),(z0m.mk [115,104,111,112] ([[111,114,100,101,114,115]]))])) (z1w [_,_] x83 ⟨rfl,.inr rfl,rfl,rfl,.inr rfl,rfl,trivial⟩ rfl rfl) rfl) ?_
 refine z0a (z06 (u':=vagg [vlst (List.map z0u ([(z0m.mk [109,97,112,115] r2.1),(z0m.mk [115,104,111,112] ([[111,114,100,101,114,115]]))])),vnil]) (z3k [(0,[vlst (List.map z0u ([(z0m.mk [109,97,112,115] r2.1),(z0m.mk [115,104,111,112] ([[111,114,100,101,114,115]]))]))])] y59 w43 rfl ⟨rfl,.inl ⟨_,rfl,rfl,rfl⟩,rfl,trivial⟩) rfl) ?_
 refine z0f (z1h 2 y59 rfl) rfl ?_
 refine z0f (z02 z5d rfl rfl rfl rfl) rfl ?_
 refine y5w 2 1 3 105 8 rfl rfl rfl rfl ?_
 refine z0c ?_
 refine z0c ?_
 refine z0b hN rfl ?_
 refine z0a (z06 (u':=vlst (List.map z00 [[98,105,103],[102,114,101,101],[109,105,100],[115,109,97,108,108]])) (z1w [[_],[_],[_],[_]] y06 ⟨rfl,.inl ⟨_,rfl,rfl,rfl⟩,rfl,rfl,.inl ⟨_,rfl,rfl,rfl⟩,rfl,rfl,.inl ⟨_,rfl,rfl,rfl⟩,rfl,rfl,.inl ⟨_,rfl,rfl,rfl⟩,rfl,trivial⟩ rfl rfl) rfl) ?_
 refine z0a (z43 y2p rfl) ?_
 refine qd rfl ?_
 refine z0y ?_
 obtain ⟨h9,H⟩:=gif H
 refine z3u (fun (k7:Nat) (s:(List z0o)×(List Int)×Int)=>[(0,.ptr 0 0),(2,.ptr 1 0),(3,.ptr 2 0),(15,.dat (vlst (List.map z00 ([[98,105,103],[102,114,101,101],[109,105,100],[115,109,97,108,108]])))),(16,.dat (vint (([[98,105,103],[102,114,101,101],[109,105,100],[115,109,97,108,108]]).length:Int))),(17,.dat (vint (k7:Int)))]) (fun (k7:Nat) (s:(List z0o)×(List Int)×Int)=>[(0,.box (some bl) 25 [.dat (vlst (List.map z3o s.2.1)),.dat (vint s.2.2)]),(1,.box none 29 [.dat (vnil),.dat (vnil)]),(2,.box none 29 [.dat (vlst (List.map z0u ([(z0m.mk [109,97,112,115] r2.1),(z0m.mk [115,104,111,112] ([[111,114,100,101,114,115]]))]))),.row 3 s.1.length]),(3,.row 105 8 (List.map z0z s.1))]) (([]:List z0o),r2.2.L,r2.2.at_) H ⟨rfl,rfl,rfl,rfl,rfl,rfl,trivial⟩ ⟨rfl,rfl,(congrArg (fun n=>some (some (AObj.box none 29 [.dat (vlst (List.map z0u ([(z0m.mk [109,97,112,115] r2.1),(z0m.mk [115,104,111,112] ([[111,114,100,101,114,115]]))]))),.row 3 n]))) (show 0=([]:List z0o).length from (by simp))),rfl,trivial⟩ (fun _ _=>rfl) ?_ ?_
 ·rintro ⟨l4,c5,c6⟩ H
  replace H:z3j r2 l4 c5 c6=some r:=H
  unfold z3j at H
  refine z0c ?_
  refine z0b hN rfl ?_
  refine z0a (z05 rfl rfl) ?_
  refine z0c ?_
  refine z0i _ rfl (fun h=>(lt_t h).elim) (fun h => ?_)
  refine z1v ?_
  refine z0c ?_
  refine y73 2 1 3 rfl rfl rfl (by rw [List.length_map]) ?_
  refine z0b hN rfl ?_
  refine z0j (z04 z5d rfl rfl rfl) rfl ?_
  refine z0f (z02 z5d rfl rfl rfl rfl) rfl ?_
  refine z0r ?_
  cases H
  exact ⟨trivial,⟨.inl ⟨_,_,_,z1d (z0g.mk ([(z0m.mk [109,97,112,115] r2.1),(z0m.mk [115,104,111,112] ([[111,114,100,101,114,115]]))]) l4),rfl,rfl,rfl,rfl,z5d⟩,trivial⟩,rfl⟩
 ·rintro k7 x10 ⟨l4,c5,c6⟩ q8 h11 h12 H hq8
  replace H:z3h k7 x10 l4 c5 c6=some q8:=H
  unfold z3h at H
  refine x1l ?_
  refine z0c ?_
  refine z0b hN rfl ?_
  refine z0a (z05 rfl rfl) ?_
  refine z0c ?_
  refine z0i _ rfl (fun h => ?_) (fun h=>(lt_f h11 h).elim)
  refine z0s ?_
  refine z1a (ι:=(List Int)×Int×(List z0o)) (fun i=>[(0,.ptr 0 0),(2,.ptr 1 0),(3,.ptr 2 0),(15,.dat (vlst (List.map z00 ([[98,105,103],[102,114,101,101],[109,105,100],[115,109,97,108,108]])))),(16,.dat (vint (([[98,105,103],[102,114,101,101],[109,105,100],[115,109,97,108,108]]).length:Int))),(17,.dat (vint (k7:Int)))]) (fun i=>[(0,.box (some bl) 25 [.dat (vlst (List.map z3o i.1)),.dat (vint i.2.1)]),(1,.box none 29 [.dat (vnil),.dat (vnil)]),(2,.box none 29 [.dat (vlst (List.map z0u ([(z0m.mk [109,97,112,115] r2.1),(z0m.mk [115,104,111,112] ([[111,114,100,101,114,115]]))]))),.row 3 i.2.2.length]),(3,.row 105 8 (List.map z0z i.2.2))]) (fun i=>z1t i.1 i.2.1 i.2.2=some q8) (fun i=>rfl) ?_ ?_
  ·refine x1l ?_
   refine z0y ?_
   refine z0c ?_
   refine z0b hN rfl ?_
   refine z0a (y1g y5z (fun _=>rfl) rfl rfl h12) ?_
   refine z0a (z1q tyS9 rfl (z29 h12) rfl) ?_
   refine qe rfl ?_
   refine z0c ?_
   refine z0c ?_
   refine z0b hN rfl ?_
   refine z0a (z0k (.ptr _ _) rfl) ?_
   obtain ⟨r13,h14,H⟩:=bnd H
   refine z0f (z1i (z1y (z0d.mk c5 c6) 5 r13 h14) rfl ⟨.inl rfl,trivial⟩ rfl) rfl ?_
   refine z0i _ rfl (fun h15 => ?_) (fun h15 => ?_)
   ·replace H:=ift h15 H
    refine z1v ?_
    show Cv _ _ _ _
    refine x5z ?_
    exact ⟨(r13.2.L,r13.2.at_,l4),H,⟨rfl,rfl,rfl,rfl,rfl,rfl,trivial⟩,⟨rfl,rfl,rfl,rfl,trivial⟩⟩
   ·replace H:=iff_ h15 H
    refine z0s ?_
    refine z0c ?_
    refine z0b hN rfl ?_
    refine qd rfl ?_
    refine z0a (z0k (.ptr _ _) rfl) ?_
    refine z0a (z06 (u':=vlst (List.map z00 [[115,104,111,112],[115,104,111,112],[109,97,112,115]])) (z1w [[_],[_],[_]] y06 ⟨rfl,.inl ⟨_,rfl,rfl,rfl⟩,rfl,rfl,.inl ⟨_,rfl,rfl,rfl⟩,rfl,rfl,.inl ⟨_,rfl,rfl,rfl⟩,rfl,trivial⟩ rfl rfl) rfl) ?_
    obtain ⟨r16,h17,H⟩:=bnd H
    refine z0f (z1i (z1n r13.2 ([[115,104,111,112],[115,104,111,112],[109,97,112,115]]) r16 h17) rfl ⟨.inl rfl,trivial⟩ rfl) rfl ?_
    refine z0a (z0k (.ptr _ _) rfl) ?_
    refine z0a (z06 (u':=vlst (List.map z3o [0,0,1000,3000,31])) (z1w [[_],[_],[_],[_],[_]] y1x ⟨rfl,.inl ⟨_,rfl,rfl,rfl⟩,rfl,rfl,.inl ⟨_,rfl,rfl,rfl⟩,rfl,rfl,.inl ⟨_,rfl,rfl,rfl⟩,rfl,rfl,.inl ⟨_,rfl,rfl,rfl⟩,rfl,rfl,.inl ⟨_,rfl,rfl,rfl⟩,rfl,trivial⟩ rfl rfl) rfl) ?_
    obtain ⟨r18,h19,H⟩:=bnd H
    refine z0f (z1i (z07 r16.2 [0,0,1000,3000,31] r18 h19) rfl ⟨.inl rfl,trivial⟩ rfl) rfl ?_
    refine z0a (z0k (.ptr _ _) rfl) ?_
    refine z0a (z06 (u':=vlst (List.map z3o [0,10,100])) (z1w [[_],[_],[_]] y1x ⟨rfl,.inl ⟨_,rfl,rfl,rfl⟩,rfl,rfl,.inl ⟨_,rfl,rfl,rfl⟩,rfl,rfl,.inl ⟨_,rfl,rfl,rfl⟩,rfl,trivial⟩ rfl rfl) rfl) ?_
    obtain ⟨r20,h21,H⟩:=bnd H
    refine z0f (z1i (z07 r18.2 [0,10,100] r20 h21) rfl ⟨.inl rfl,trivial⟩ rfl) rfl ?_
    refine z0a (z0k (.ptr _ _) rfl) ?_
    refine z0a (z06 (u':=vlst (List.map z3o [(-1),(-1),0,1000])) (z1w [[_],[_],[_],[_]] y1x ⟨rfl,.inl ⟨_,rfl,rfl,rfl⟩,rfl,rfl,.inl ⟨_,rfl,rfl,rfl⟩,rfl,rfl,.inl ⟨_,rfl,rfl,rfl⟩,rfl,rfl,.inl ⟨_,rfl,rfl,rfl⟩,rfl,trivial⟩ rfl rfl) rfl) ?_
    obtain ⟨r22,h23,H⟩:=bnd H
    refine z0f (z1i (z07 r20.2 [(-1),(-1),0,1000] r22 h23) rfl ⟨.inl rfl,trivial⟩ rfl) rfl ?_
    refine z0a (z0k (.ptr _ _) rfl) ?_
    refine z0a (z06 (u':=vlst (List.map z3o [0,0,1,2])) (z1w [[_],[_],[_],[_]] y1x ⟨rfl,.inl ⟨_,rfl,rfl,rfl⟩,rfl,rfl,.inl ⟨_,rfl,rfl,rfl⟩,rfl,rfl,.inl ⟨_,rfl,rfl,rfl⟩,rfl,rfl,.inl ⟨_,rfl,rfl,rfl⟩,rfl,trivial⟩ rfl rfl) rfl) ?_
    obtain ⟨r24,h25,H⟩:=bnd H
    refine z0f (z1i (z07 r22.2 [0,0,1,2] r24 h25) rfl ⟨.inl rfl,trivial⟩ rfl) rfl ?_
    refine z0a (z0k (.ptr _ _) rfl) ?_
    obtain ⟨r26,h27,H⟩:=bnd H
    refine z0f (z1i (z1y r24.2 2 r26 h27) rfl ⟨.inl rfl,trivial⟩ rfl) rfl ?_
    refine z0a (z06 (u':=vagg [vstr x10,vstr r16.1,vint r18.1,vint r20.1,vnil,vint r22.1,vint r24.1,z1e r26.1]) (z3k [(0,[vstr x10]),(1,[vstr r16.1]),(2,[vint r18.1]),(3,[vint r20.1]),(5,[vint r22.1]),(6,[vint r24.1]),(7,[z1e r26.1])] y48 x54 rfl ⟨rfl,.inl ⟨_,rfl,rfl,rfl⟩,rfl,rfl,.inl ⟨_,rfl,rfl,rfl⟩,rfl,rfl,.inl ⟨_,rfl,rfl,rfl⟩,rfl,rfl,.inl ⟨_,rfl,rfl,rfl⟩,rfl,rfl,.inl ⟨_,rfl,rfl,rfl⟩,rfl,rfl,.inl ⟨_,rfl,rfl,rfl⟩,rfl,rfl,.inl ⟨_,rfl,rfl,rfl⟩,rfl,trivial⟩) rfl) ?_
    refine z0f (z1h 4 y48 rfl) rfl ?_
    refine z0f (z02 y1j rfl rfl rfl rfl) rfl ?_
    refine y5w 4 4 5 102 2 rfl rfl rfl rfl ?_
    refine z0c ?_
    refine z0b hN rfl ?_
    refine qe rfl ?_
    refine z0c ?_
    refine z0c ?_
    refine z0b hN rfl ?_
    refine z0a (z0k (.ptr _ _) rfl) ?_
    refine z0a (z06 (u':=vlst (List.map z3o [0,1,2,3])) (z1w [[_],[_],[_],[_]] y1x ⟨rfl,.inl ⟨_,rfl,rfl,rfl⟩,rfl,rfl,.inl ⟨_,rfl,rfl,rfl⟩,rfl,rfl,.inl ⟨_,rfl,rfl,rfl⟩,rfl,rfl,.inl ⟨_,rfl,rfl,rfl⟩,rfl,trivial⟩ rfl rfl) rfl) ?_
    obtain ⟨r28,h29,H⟩:=bnd H
    refine z0f (z1i (z07 r26.2 [0,1,2,3] r28 h29) rfl ⟨.inl rfl,trivial⟩ rfl) rfl ?_
    refine qd rfl ?_
    refine z0y ?_
    obtain ⟨h36,H⟩:=gif H
    refine x0n (fun (k34:Nat) (s:Int×(List z01)×(List Int)×Int)=>[(0,.ptr 0 0),(2,.ptr 1 0),(3,.ptr 2 0),(6,.ptr 4 0),(7,.dat (vint s.1)),(15,.dat (vlst (List.map z00 ([[98,105,103],[102,114,101,101],[109,105,100],[115,109,97,108,108]])))),(16,.dat (vint (([[98,105,103],[102,114,101,101],[109,105,100],[115,109,97,108,108]]).length:Int))),(17,.dat (vint (k7:Int))),(44,.dat (vint r28.1)),(45,.dat (vint (k34:Int)))]) (fun (k34:Nat) (s:Int×(List z01)×(List Int)×Int)=>[(0,.box (some bl) 25 [.dat (vlst (List.map z3o s.2.2.1)),.dat (vint s.2.2.2)]),(1,.box none 29 [.dat (vnil),.dat (vnil)]),(2,.box none 29 [.dat (vlst (List.map z0u ([(z0m.mk [109,97,112,115] r2.1),(z0m.mk [115,104,111,112] ([[111,114,100,101,114,115]]))]))),.row 3 l4.length]),(3,.row 105 8 (List.map z0z l4)),(4,.box none 105 [.dat (vstr x10),.dat (vstr r16.1),.dat (vint r18.1),.dat (vint r20.1),.row 5 s.2.1.length,.dat (vint r22.1),.dat (vint r24.1),.dat (z1e r26.1)]),(5,.row 102 2 (List.map z1r s.2.1))]) (1,([]:List z01),r28.2.L,r28.2.at_) H ⟨rfl,rfl,rfl,rfl,rfl,rfl,rfl,rfl,rfl,rfl,trivial⟩ ⟨rfl,rfl,rfl,rfl,(congrArg (fun n=>some (some (AObj.box none 105 [.dat (vstr x10),.dat (vstr r16.1),.dat (vint r18.1),.dat (vint r20.1),.row 5 n,.dat (vint r22.1),.dat (vint r24.1),.dat (z1e r26.1)]))) (show 0=([]:List z01).length from (by simp))),rfl,trivial⟩ (fun _ _=>rfl) ?_ ?_
    ·rintro ⟨v30,l31,c32,c33⟩ H
     replace H:z3i l4 x10 r16 r18 r20 r22 r24 r26 v30 l31 c32 c33=some q8:=H
     unfold z3i at H
     refine z0c ?_
     refine z0b hN rfl ?_
     refine z0a (z05 rfl rfl) ?_
     refine z0c ?_
     refine z0i _ rfl (fun h=>(w0m h).elim) (fun h => ?_)
     refine z1v ?_
     refine y73 4 4 5 rfl rfl rfl (by rw [List.length_map]) ?_
     refine z0b hN rfl ?_
     refine z0a (z0p z9n rfl) ?_
     refine z0j (z0n y4q rfl rfl) rfl ?_
     refine z0j (z04 y1j rfl rfl rfl) rfl ?_
     refine z0a (z06 (u':=vlst (List.map z0z [(z0o.mk x10 r16.1 r18.1 r20.1 l31 r22.1 r24.1 r26.1)])) (z1w [_] x82 ⟨rfl,.inr rfl,rfl,trivial⟩ rfl rfl) rfl) ?_
     obtain ⟨h37,H⟩:=gif H
     refine z0f (y50 x82 (fun _=>rfl) rfl rfl rfl ⟨by simp,by first | (simp; done) | simpa using h37⟩ rfl) rfl ?_
     refine z0a (z0p z9n rfl) ?_
     refine y7n (y49 y4q rfl rfl (by rw [List.length_map]) rfl) rfl rfl ?_
     refine y77 ?_
     show Cv _ _ _ _
     refine x5z ?_
     exact ⟨(c32,c33,(l4++[(z0o.mk x10 r16.1 r18.1 r20.1 l31 r22.1 r24.1 r26.1)])),H,⟨rfl,rfl,rfl,rfl,rfl,rfl,trivial⟩,⟨rfl,rfl,rfl,rfl,trivial⟩⟩
    ·rintro k34 ⟨v30,l31,c32,c33⟩ q35 h38 H hq35
     replace H:z3g k34 v30 l31 c32 c33=some q35:=H
     unfold z3g at H
     refine x1l ?_
     refine z0c ?_
     refine z0b hN rfl ?_
     refine z0a (z05 rfl rfl) ?_
     refine z0c ?_
     refine z0i _ rfl (fun h => ?_) (fun h=>(w0n h38 h).elim)
     refine z0s ?_
     refine z0c ?_
     refine z0y ?_
     refine z0c ?_
     refine z3q mixed hN rfl rfl ?_
     refine z0a (z0p y0y rfl) ?_
     refine z0j (z0n y39 rfl rfl) rfl ?_
     refine qd rfl ?_
     refine z0a (z0k (.ptr _ _) rfl) ?_
     refine z0a (z06 (u':=vlst (List.map z3o [0,100,500,1500])) (z1w [[_],[_],[_],[_]] y1x ⟨rfl,.inl ⟨_,rfl,rfl,rfl⟩,rfl,rfl,.inl ⟨_,rfl,rfl,rfl⟩,rfl,rfl,.inl ⟨_,rfl,rfl,rfl⟩,rfl,rfl,.inl ⟨_,rfl,rfl,rfl⟩,rfl,trivial⟩ rfl rfl) rfl) ?_
     obtain ⟨r39,h40,H⟩:=bnd H
     refine z0f (z1i (z07 (z0d.mk c32 c33) [0,100,500,1500] r39 h40) rfl ⟨.inl rfl,trivial⟩ rfl) rfl ?_
     refine z0a (z06 (u':=vagg (z1r (z01.mk v30 r39.1))) (z3k [(0,[vint v30]),(1,[vint r39.1])] y9d x55 rfl ⟨rfl,.inl ⟨_,rfl,rfl,rfl⟩,rfl,rfl,.inl ⟨_,rfl,rfl,rfl⟩,rfl,trivial⟩) rfl) ?_
     refine z0a (z06 (u':=vlst (List.map z1r [(z01.mk v30 r39.1)])) (z1w [_] y9g ⟨rfl,.inr rfl,rfl,trivial⟩ rfl rfl) rfl) ?_
     obtain ⟨h41,H⟩:=gif H
     refine z0f (y50 y9g (fun _=>rfl) rfl rfl rfl ⟨by simp,by first | (simp; done) | simpa using h41⟩ rfl) rfl ?_
     refine z0a (z0p y0y rfl) ?_
     refine y7n (y49 y39 rfl rfl (by rw [List.length_map]) rfl) rfl rfl ?_
     refine ⟨rfl,?_⟩
     refine z0b hN rfl ?_
     refine qd rfl ?_
     refine z0a (z0k (.ptr _ _) rfl) ?_
     refine z0a (z06 (u':=vlst (List.map z3o [1,9,100])) (z1w [[_],[_],[_]] y1x ⟨rfl,.inl ⟨_,rfl,rfl,rfl⟩,rfl,rfl,.inl ⟨_,rfl,rfl,rfl⟩,rfl,rfl,.inl ⟨_,rfl,rfl,rfl⟩,rfl,trivial⟩ rfl rfl) rfl) ?_
     obtain ⟨r42,h43,H⟩:=bnd H
     refine z0f (z1i (z07 r39.2 [1,9,100] r42 h43) rfl ⟨.inl rfl,trivial⟩ rfl) rfl ?_
     refine z0a (z1s _ rfl rfl (.inl ⟨rfl,rfl⟩)) ?_
     refine qe rfl ?_
     refine z0b hN rfl ?_
     refine z0a (z3v rfl rfl (by omega)) ?_
     refine qd rfl ?_
     refine y77 ?_
     show Cv _ _ _ _
     refine x5z ?_
     exact ⟨_,z63 H,⟨rfl,rfl,rfl,rfl,rfl,rfl,rfl,rfl,rfl,rfl,trivial⟩,⟨rfl,rfl,rfl,rfl,rfl,rfl,trivial⟩⟩
  ·rintro ⟨c44,c45,l46⟩ H
   replace H:z1t c44 c45 l46=some q8:=H
   unfold z1t at H
   refine z0b hN rfl ?_
   refine z0a (z3v rfl rfl (by omega)) ?_
   refine qd rfl ?_
   refine y77 ?_
   show Cv _ _ _ _
   refine x5z ?_
   exact ⟨_,z63 H,⟨rfl,rfl,rfl,rfl,rfl,rfl,trivial⟩,⟨rfl,rfl,rfl,rfl,trivial⟩⟩
def y4p (hv:Value) (x:z0o):List V:=[vstr x.Key,vstr x.Product,vint x.Base,vint x.Free,vval hv,vint x.Limit,vint x.Trial,z1e x.Asked]
def glQ (hv:Value):List z0o→Nat→List (List V)
 | [],_=>[]
 | p::ps,0=>y4p hv p::ps.map z0z
 | p::ps,g+1=>z0z p::glQ hv ps g
def tieQ:List z0o→Nat→List z01
 | [],_=>[]
 | p::ps,0=>p.Tiers
 | p::ps,g+1=>tieQ ps g
abbrev glP (g:Nat) (hv:Value) (ps:List z0o):List (List V):=glQ hv ps g
abbrev y4b (g:Nat) (ps:List z0o):List z01:=tieQ ps g
theorem z99:∀ (g:Nat) (hv:Value) (ps:List z0o),(glP g hv ps).length=ps.length
 | _,_,[]=>rfl
 | 0,hv,p::ps=>by simp [glP,glQ]
 | g+1,hv,p::ps=>by simp only [glP,glQ,List.length_cons]; rw [← z99 g hv ps]
theorem w01:∀ (g:Nat) (hv hv':Value) (ps:List z0o) (p:z0o),(Nat.beq ps.length g=false→hv'=hv)→glP g hv' (ps++[p])=glP g hv ps++[cond (Nat.beq ps.length g) (y4p hv' p) (z0z p)]
 | 0,hv,hv',[],p,h=>rfl
 | g+1,hv,hv',[],p,h=>rfl
 | 0,hv,hv',q::ps,p,h=>by
  have h1:hv'=hv:=h rfl
  subst h1
  show y4p hv' q::List.map z0z (ps++[p])=(y4p hv' q::List.map z0z ps)++[z0z p]
  simp
 | g+1,hv,hv',q::ps,p,h=>by
  have h1:=w01 g hv hv' ps p (fun h2=>h h2)
  show z0z q::glP g hv' (ps++[p])=(z0z q::glP g hv ps)++[cond (Nat.beq ps.length g) (y4p hv' p) (z0z p)]
  rw [h1]; rfl
theorem y9l:∀ (g:Nat) (ps:List z0o) (p:z0o),List.map z1r (y4b g (ps++[p]))=cond (Nat.beq ps.length g) (List.map z1r p.Tiers) (List.map z1r (y4b g ps))
 | 0,[],p=>rfl
 | g+1,[],p=>by rfl
 | 0,q::ps,p=>rfl
 | g+1,q::ps,p=>y9l g ps p
theorem x4g:∀ (g:Nat) (hv:Value) (ps:List z0o) (p:z0o),ps[g]?=some p→(glP g hv ps)[g]?=some (y4p hv p)∧y4b g ps=p.Tiers
 | _,_,[],p,h=>by simp at h
 | 0,hv,q::ps,p,h=>by simp at h; subst h; exact ⟨rfl,rfl⟩
 | g+1,hv,q::ps,p,h=>by
  have:=x4g g hv ps p (by simpa using h)
  exact ⟨by simpa [glP,glQ] using this.1,this.2⟩
theorem w00:∀ (g:Nat) (hv:Value) (ps:List z0o) (p:z0o),g < ps.length→(glP g hv ps).set g (z0z p)=(ps.set g p).map z0z
 | _,_,[],p,h=>by simp at h
 | 0,hv,q::ps,p,h=>rfl
 | g+1,hv,q::ps,p,h=>by
  have:=w00 g hv ps p (by simpa using h)
  show z0z q::(glP g hv ps).set g (z0z p)=z0z q::(ps.set g p).map z0z
  rw [this]
theorem x1h:∀ (g:Nat) (hv:Value) (ps:List z0o),UpH hv (List.map z1r (y4b g ps)) (glP g hv ps) (ps.map z0z)
 | _,hv,[]=>⟨by simp [glP,glQ],fun k c el u h=>by simp at h⟩
 | 0,hv,p::ps=>⟨by simp [glP,glQ],fun k c el u h1 h2=>by
  cases k with
  | zero =>
   simp only [List.map_cons,List.getElem?_cons_zero,Option.some.injEq] at h1
   subst h1
   refine ⟨y4p hv p,?_⟩
   rcases c with _ | _ | _ | _ | _ | _ | _ | _ | c <;> simp only [z0z,List.getElem?_cons_succ,List.getElem?_cons_zero,Option.some.injEq,List.getElem?_nil] at h2
   ·subst h2; exact ⟨_,rfl,rfl,.inl rfl⟩
   ·subst h2; exact ⟨_,rfl,rfl,.inl rfl⟩
   ·subst h2; exact ⟨_,rfl,rfl,.inl rfl⟩
   ·subst h2; exact ⟨_,rfl,rfl,.inl rfl⟩
   ·subst h2; exact ⟨_,rfl,rfl,.inr ⟨rfl,rfl⟩⟩
   ·subst h2; exact ⟨_,rfl,rfl,.inl rfl⟩
   ·subst h2; exact ⟨_,rfl,rfl,.inl rfl⟩
   ·subst h2; exact ⟨_,rfl,rfl,.inl rfl⟩
   ·cases h2
  | succ k=>exact ⟨el,u,by simpa [glP,glQ] using h1,h2,.inl rfl⟩⟩
 | g+1,hv,p::ps=>⟨by simp only [glP,glQ,List.length_cons,List.length_map]; rw [← z99 g hv ps],fun k c el u h1 h2=>by
  cases k with
  | zero=>exact ⟨el,u,by simpa [glP,glQ] using h1,h2,.inl rfl⟩
  | succ k =>
   obtain ⟨e1,u1,q1,q2,q3⟩:=(x1h g hv ps).2 k c el u (by simpa using h1) h2
   exact ⟨e1,u1,by simpa [glP,glQ] using q1,q2,q3⟩⟩
theorem y6e (ps:List z0o):∀ el,el∈ps.map z0z→el.length=8:=fun el h=>by obtain ⟨p,_,rfl⟩:=List.mem_map.1 h; rfl
theorem y8w {X:Ctx} {Q:Exit→(Nat→Slot)→Own→Prop} {f:Nat→Slot} {ops:Array Oper} {os:List Oper} {dst:Option Tmp} {ty:TypeId} {pos:String} {af:Array Edge} {ts:Array TypeId} {x:Tmp} {NX:Nat} (bl b2 G:Nat) (s1:z0d) (r:(z0g×z0d)) (H:z2t s1=some r) (hX:X.N=NX) (hNX:y5g NX ops=true) (hx:f x = .ptr 0 0) (h0:f 0 = .ptr 0 0) (h2:f 2 = .ptr 40 0)
    (hK:∀ hv1 hv2 hv:Value,SeqW Tryz.prog X ops os (updS (frs (x3e [(0,0),(2,40)])) dst (.dat (vagg [vval hv1,vval hv2]))) (ows [(0,.box (some bl) 25 [.dat (vlst (List.map z3o r.2.L)),.dat (vint r.2.at_)]),(40,.box (some b2) 29 [.dat vnil,.dat vnil]),(1,.box none 29 [.dat (vval hv1),.dat (vval hv2)]),(10,.rowA hv1 81 2 (List.map z0u r.1.Products)),(11,.rowA hv2 105 8 (glP G hv r.1.Plans)),(12,.rowA hv 102 2 (List.map z1r (y4b G r.1.Plans)))]) Q) :
    SeqW Tryz.prog X ops (⟨dst,.call { callee := .value (.func 48),args:=[Operand.tmp x].toArray,argTypes:=ts },ty,pos,af,none⟩::os) f (ows [(0,.box (some bl) 25 (List.map .dat (z0v s1))),(40,.box (some b2) 29 [.dat vnil,.dat vnil])]) Q:=by
 refine x5d [.ptr 0 0] [(0,0),(2,40)] (by kernel_rfl) Tryz.func48 rfl rfl rfl rfl hX hNX (by simp [evS,hx]) (fun y hy n=>by simp at hy; subst hy; exact fun h=>by cases h) fun X hN => ?_
 unfold z2t at H
 refine z0c ?_
 refine z0b hN rfl ?_
 refine z0f (z1h 1 y59 rfl) rfl ?_
 refine z0c ?_
 refine z0b hN rfl ?_
 refine z0a (z0k (.ptr _ _) rfl) ?_
 obtain ⟨r2,h3,H⟩:=bnd H
 refine z0f (z1i (y1a s1 r2 h3) rfl trivial rfl) rfl ?_
 refine z0a (z06 (u':=vagg (z0u (z0m.mk [109,97,112,115] r2.1))) (z3k [(0,[vstr [109,97,112,115]]),(1,[vlst (List.map z00 r2.1)])] x0r x7q rfl ⟨rfl,.inl ⟨_,rfl,rfl,rfl⟩,rfl,rfl,.inl ⟨_,rfl,rfl,rfl⟩,rfl,trivial⟩) rfl) ?_
 refine z0a (z06 (u':=vlst (List.map z00 [[111,114,100,101,114,115]])) (z1w [[_]] y06 ⟨rfl,.inl ⟨_,rfl,rfl,rfl⟩,rfl,trivial⟩ rfl rfl) rfl) ?_
 refine z0a (z06 (u':=vagg (z0u (z0m.mk [115,104,111,112] ([[111,114,100,101,114,115]])))) (z3k [(0,[vstr [115,104,111,112]]),(1,[vlst (List.map z00 ([[111,114,100,101,114,115]]))])] x0r x7q rfl ⟨rfl,.inl ⟨_,rfl,rfl,rfl⟩,rfl,rfl,.inl ⟨_,rfl,rfl,rfl⟩,rfl,trivial⟩) rfl) ?_
 refine z0f (x58 (C:=z0u) 8 ([(z0m.mk [109,97,112,115] r2.1),(z0m.mk [115,104,111,112] ([[111,114,100,101,114,115]]))]:List z0m) x83 ⟨rfl,.inr rfl,rfl,rfl,.inr rfl,rfl,trivial⟩ rfl rfl rfl) rfl ?_
 refine z0j (x6a (s' := .comp false [.row 8 2,.dat vnil]) (x07 [(8,some (some (.row 81 2 (List.map z0u [(z0m.mk [109,97,112,115] r2.1),(z0m.mk [115,104,111,112] ([[111,114,100,101,114,115]]))]))))] [(0,[.row 8 2])] y59 w43 rfl ⟨rfl,.inr (.inl ⟨_,_,_,_,_,rfl,.head _,rfl,rfl⟩),rfl,trivial⟩) rfl) rfl ?_
 refine z0f (z1h 2 y59 rfl) rfl ?_
 refine z0f (x7v z5d rfl rfl rfl rfl) rfl ?_
 refine y5w 2 1 3 105 8 rfl rfl rfl rfl ?_
 refine w1u 6 102 2 rfl rfl ?_
 refine z0c ?_
 refine z0c ?_
 refine z0b hN rfl ?_
 refine z0a (z06 (u':=vlst (List.map z00 [[98,105,103],[102,114,101,101],[109,105,100],[115,109,97,108,108]])) (z1w [[_],[_],[_],[_]] y06 ⟨rfl,.inl ⟨_,rfl,rfl,rfl⟩,rfl,rfl,.inl ⟨_,rfl,rfl,rfl⟩,rfl,rfl,.inl ⟨_,rfl,rfl,rfl⟩,rfl,rfl,.inl ⟨_,rfl,rfl,rfl⟩,rfl,trivial⟩ rfl rfl) rfl) ?_
 refine z0a (z43 y2p rfl) ?_
 refine qd rfl ?_
 refine z0y ?_
 obtain ⟨h9,H⟩:=gif H
 refine w1v (γ:=Value) (fun (k7:Nat) (s:(List z0o)×(List Int)×Int) (hv:Value)=>[(0,.ptr 0 0),(2,.ptr 1 0),(3,.ptr 2 0),(15,.dat (vlst (List.map z00 ([[98,105,103],[102,114,101,101],[109,105,100],[115,109,97,108,108]])))),(16,.dat (vint (([[98,105,103],[102,114,101,101],[109,105,100],[115,109,97,108,108]]).length:Int))),(17,.dat (vint (k7:Int)))]) (fun (k7:Nat) (s:(List z0o)×(List Int)×Int) (hv:Value)=>[(0,.box (some bl) 25 [.dat (vlst (List.map z3o s.2.1)),.dat (vint s.2.2)]),(1,.box none 29 [.dat (vnil),.dat (vnil)]),(2,.box none 29 [.row 8 2,.row 3 s.1.length]),(3,.row 105 8 (glP G hv s.1)),(6,.rowA hv 102 2 (List.map z1r (y4b G s.1))),(8,.row 81 2 (List.map z0u [(z0m.mk [109,97,112,115] r2.1),(z0m.mk [115,104,111,112] ([[111,114,100,101,114,115]]))])),(40,.box (some b2) 29 [.dat (vnil),.dat (vnil)])]) (([]:List z0o),r2.2.L,r2.2.at_) (.slice none 0 0) H ⟨rfl,rfl,rfl,rfl,rfl,rfl,trivial⟩ ⟨rfl,rfl,rfl,rfl,rfl,rfl,rfl,trivial⟩ (fun _ _ _=>rfl) ?_ ?_
 ·rintro ⟨l4,c5,c6⟩ hv H
  replace H:z3j r2 l4 c5 c6=some r:=H
  unfold z3j at H
  refine z0c ?_
  refine z0b hN rfl ?_
  refine z0a (z05 rfl rfl) ?_
  refine z0c ?_
  refine z0i _ rfl (fun h=>(lt_t h).elim) (fun h => ?_)
  refine z1v ?_
  refine z0c ?_
  refine x7g 2 1 3 11 rfl rfl rfl (z99 _ _ _).symm rfl fun hv2 => ?_
  refine x7g 2 0 8 10 rfl rfl rfl rfl rfl fun hv1 => ?_
  refine x7e 6 12 rfl rfl ?_
  refine z0b hN rfl ?_
  refine z0j (z04 z5d rfl rfl rfl) rfl ?_
  refine z0f (z02 z5d rfl rfl rfl rfl) rfl ?_
  cases H
  refine x7f [(2,.ptr 1 0)] [(0,.box (some bl) 25 [.dat (vlst (List.map z3o c5)),.dat (vint c6)]),(40,.box (some b2) 29 [.dat vnil,.dat vnil]),(1,.box none 29 [.dat (vval hv1),.dat (vval hv2)]),(10,.rowA hv1 81 2 (List.map z0u [(z0m.mk [109,97,112,115] r2.1),(z0m.mk [115,104,111,112] ([[111,114,100,101,114,115]]))])),(11,.rowA hv2 105 8 (glP G hv l4)),(12,.rowA hv 102 2 (List.map z1r (y4b G l4)))] ⟨rfl,trivial⟩ ⟨rfl,rfl,rfl,rfl,rfl,rfl,trivial⟩ rfl ?_
  refine z0r ?_
  exact ⟨trivial,[vagg [vval hv1,vval hv2]],.inl ⟨[vagg [vval hv1,vval hv2]],⟨⟨_,_,_,[vval hv1,vval hv2],rfl,rfl,rfl,rfl,z5d⟩,trivial⟩,rfl⟩,⟨⟨h0,_,_,_,_,_,rfl,rfl⟩,⟨h2,_,_,_,_,_,rfl,rfl⟩,trivial⟩,hK hv1 hv2 hv⟩
 ·rintro k7 x10 ⟨l4,c5,c6⟩ hv q8 h11 h12 H hq8
  replace H:z3h k7 x10 l4 c5 c6=some q8:=H
  unfold z3h at H
  refine x1l ?_
  refine z0c ?_
  refine z0b hN rfl ?_
  refine z0a (z05 rfl rfl) ?_
  refine z0c ?_
  refine z0i _ rfl (fun h => ?_) (fun h=>(lt_f h11 h).elim)
  refine z0s ?_
  refine z1a (ι:=((List Int)×Int×(List z0o))×Value) (fun i=>[(0,.ptr 0 0),(2,.ptr 1 0),(3,.ptr 2 0),(15,.dat (vlst (List.map z00 ([[98,105,103],[102,114,101,101],[109,105,100],[115,109,97,108,108]])))),(16,.dat (vint (([[98,105,103],[102,114,101,101],[109,105,100],[115,109,97,108,108]]).length:Int))),(17,.dat (vint (k7:Int)))]) (fun i=>[(0,.box (some bl) 25 [.dat (vlst (List.map z3o i.1.1)),.dat (vint i.1.2.1)]),(1,.box none 29 [.dat (vnil),.dat (vnil)]),(2,.box none 29 [.row 8 2,.row 3 i.1.2.2.length]),(3,.row 105 8 (glP G i.2 i.1.2.2)),(6,.rowA i.2 102 2 (List.map z1r (y4b G i.1.2.2))),(8,.row 81 2 (List.map z0u [(z0m.mk [109,97,112,115] r2.1),(z0m.mk [115,104,111,112] ([[111,114,100,101,114,115]]))])),(40,.box (some b2) 29 [.dat (vnil),.dat (vnil)])]) (fun i=>z1t i.1.1 i.1.2.1 i.1.2.2=some q8) (fun i=>rfl) ?_ ?_
  ·refine x1l ?_
   refine z0y ?_
   refine z0c ?_
   refine z0b hN rfl ?_
   refine z0a (y1g y5z (fun _=>rfl) rfl rfl h12) ?_
   refine z0a (z1q tyS9 rfl (z29 h12) rfl) ?_
   refine qe rfl ?_
   refine z0c ?_
   refine z0c ?_
   refine z0b hN rfl ?_
   refine z0a (z0k (.ptr _ _) rfl) ?_
   obtain ⟨r13,h14,H⟩:=bnd H
   refine z0f (z1i (z1y (z0d.mk c5 c6) 5 r13 h14) rfl ⟨.inl rfl,trivial⟩ rfl) rfl ?_
   refine z0i _ rfl (fun h15 => ?_) (fun h15 => ?_)
   ·replace H:=ift h15 H
    refine z1v ?_
    show Cv _ _ _ _
    refine x5z ?_
    exact ⟨((r13.2.L,r13.2.at_,l4),hv),H,⟨rfl,rfl,rfl,rfl,rfl,rfl,trivial⟩,⟨rfl,rfl,rfl,rfl,rfl,rfl,rfl,trivial⟩⟩
   ·replace H:=iff_ h15 H
    refine z0s ?_
    refine z0c ?_
    refine z0b hN rfl ?_
    refine qd rfl ?_
    refine z0a (z0k (.ptr _ _) rfl) ?_
    refine z0a (z06 (u':=vlst (List.map z00 [[115,104,111,112],[115,104,111,112],[109,97,112,115]])) (z1w [[_],[_],[_]] y06 ⟨rfl,.inl ⟨_,rfl,rfl,rfl⟩,rfl,rfl,.inl ⟨_,rfl,rfl,rfl⟩,rfl,rfl,.inl ⟨_,rfl,rfl,rfl⟩,rfl,trivial⟩ rfl rfl) rfl) ?_
    obtain ⟨r16,h17,H⟩:=bnd H
    refine z0f (z1i (z1n r13.2 ([[115,104,111,112],[115,104,111,112],[109,97,112,115]]) r16 h17) rfl ⟨.inl rfl,trivial⟩ rfl) rfl ?_
    refine z0a (z0k (.ptr _ _) rfl) ?_
    refine z0a (z06 (u':=vlst (List.map z3o [0,0,1000,3000,31])) (z1w [[_],[_],[_],[_],[_]] y1x ⟨rfl,.inl ⟨_,rfl,rfl,rfl⟩,rfl,rfl,.inl ⟨_,rfl,rfl,rfl⟩,rfl,rfl,.inl ⟨_,rfl,rfl,rfl⟩,rfl,rfl,.inl ⟨_,rfl,rfl,rfl⟩,rfl,rfl,.inl ⟨_,rfl,rfl,rfl⟩,rfl,trivial⟩ rfl rfl) rfl) ?_
    obtain ⟨r18,h19,H⟩:=bnd H
    refine z0f (z1i (z07 r16.2 [0,0,1000,3000,31] r18 h19) rfl ⟨.inl rfl,trivial⟩ rfl) rfl ?_
    refine z0a (z0k (.ptr _ _) rfl) ?_
    refine z0a (z06 (u':=vlst (List.map z3o [0,10,100])) (z1w [[_],[_],[_]] y1x ⟨rfl,.inl ⟨_,rfl,rfl,rfl⟩,rfl,rfl,.inl ⟨_,rfl,rfl,rfl⟩,rfl,rfl,.inl ⟨_,rfl,rfl,rfl⟩,rfl,trivial⟩ rfl rfl) rfl) ?_
    obtain ⟨r20,h21,H⟩:=bnd H
    refine z0f (z1i (z07 r18.2 [0,10,100] r20 h21) rfl ⟨.inl rfl,trivial⟩ rfl) rfl ?_
    refine z0a (z0k (.ptr _ _) rfl) ?_
    refine z0a (z06 (u':=vlst (List.map z3o [(-1),(-1),0,1000])) (z1w [[_],[_],[_],[_]] y1x ⟨rfl,.inl ⟨_,rfl,rfl,rfl⟩,rfl,rfl,.inl ⟨_,rfl,rfl,rfl⟩,rfl,rfl,.inl ⟨_,rfl,rfl,rfl⟩,rfl,rfl,.inl ⟨_,rfl,rfl,rfl⟩,rfl,trivial⟩ rfl rfl) rfl) ?_
    obtain ⟨r22,h23,H⟩:=bnd H
    refine z0f (z1i (z07 r20.2 [(-1),(-1),0,1000] r22 h23) rfl ⟨.inl rfl,trivial⟩ rfl) rfl ?_
    refine z0a (z0k (.ptr _ _) rfl) ?_
    refine z0a (z06 (u':=vlst (List.map z3o [0,0,1,2])) (z1w [[_],[_],[_],[_]] y1x ⟨rfl,.inl ⟨_,rfl,rfl,rfl⟩,rfl,rfl,.inl ⟨_,rfl,rfl,rfl⟩,rfl,rfl,.inl ⟨_,rfl,rfl,rfl⟩,rfl,rfl,.inl ⟨_,rfl,rfl,rfl⟩,rfl,trivial⟩ rfl rfl) rfl) ?_
    obtain ⟨r24,h25,H⟩:=bnd H
    refine z0f (z1i (z07 r22.2 [0,0,1,2] r24 h25) rfl ⟨.inl rfl,trivial⟩ rfl) rfl ?_
    refine z0a (z0k (.ptr _ _) rfl) ?_
    obtain ⟨r26,h27,H⟩:=bnd H
    refine z0f (z1i (z1y r24.2 2 r26 h27) rfl ⟨.inl rfl,trivial⟩ rfl) rfl ?_
    refine z0a (z06 (u':=vagg [vstr x10,vstr r16.1,vint r18.1,vint r20.1,vnil,vint r22.1,vint r24.1,z1e r26.1]) (z3k [(0,[vstr x10]),(1,[vstr r16.1]),(2,[vint r18.1]),(3,[vint r20.1]),(5,[vint r22.1]),(6,[vint r24.1]),(7,[z1e r26.1])] y48 x54 rfl ⟨rfl,.inl ⟨_,rfl,rfl,rfl⟩,rfl,rfl,.inl ⟨_,rfl,rfl,rfl⟩,rfl,rfl,.inl ⟨_,rfl,rfl,rfl⟩,rfl,rfl,.inl ⟨_,rfl,rfl,rfl⟩,rfl,rfl,.inl ⟨_,rfl,rfl,rfl⟩,rfl,rfl,.inl ⟨_,rfl,rfl,rfl⟩,rfl,rfl,.inl ⟨_,rfl,rfl,rfl⟩,rfl,trivial⟩) rfl) ?_
    refine z0f (z1h 4 y48 rfl) rfl ?_
    refine z0f (z02 y1j rfl rfl rfl rfl) rfl ?_
    refine y5w 4 4 5 102 2 rfl rfl rfl rfl ?_
    refine z0c ?_
    refine z0b hN rfl ?_
    refine qe rfl ?_
    refine z0c ?_
    refine z0c ?_
    refine z0b hN rfl ?_
    refine z0a (z0k (.ptr _ _) rfl) ?_
    refine z0a (z06 (u':=vlst (List.map z3o [0,1,2,3])) (z1w [[_],[_],[_],[_]] y1x ⟨rfl,.inl ⟨_,rfl,rfl,rfl⟩,rfl,rfl,.inl ⟨_,rfl,rfl,rfl⟩,rfl,rfl,.inl ⟨_,rfl,rfl,rfl⟩,rfl,rfl,.inl ⟨_,rfl,rfl,rfl⟩,rfl,trivial⟩ rfl rfl) rfl) ?_
    obtain ⟨r28,h29,H⟩:=bnd H
    refine z0f (z1i (z07 r26.2 [0,1,2,3] r28 h29) rfl ⟨.inl rfl,trivial⟩ rfl) rfl ?_
    refine qd rfl ?_
    refine z0y ?_
    obtain ⟨h36,H⟩:=gif H
    refine x0n (fun (k34:Nat) (s:Int×(List z01)×(List Int)×Int)=>[(0,.ptr 0 0),(2,.ptr 1 0),(3,.ptr 2 0),(6,.ptr 4 0),(7,.dat (vint s.1)),(15,.dat (vlst (List.map z00 ([[98,105,103],[102,114,101,101],[109,105,100],[115,109,97,108,108]])))),(16,.dat (vint (([[98,105,103],[102,114,101,101],[109,105,100],[115,109,97,108,108]]).length:Int))),(17,.dat (vint (k7:Int))),(44,.dat (vint r28.1)),(45,.dat (vint (k34:Int)))]) (fun (k34:Nat) (s:Int×(List z01)×(List Int)×Int)=>[(0,.box (some bl) 25 [.dat (vlst (List.map z3o s.2.2.1)),.dat (vint s.2.2.2)]),(1,.box none 29 [.dat (vnil),.dat (vnil)]),(2,.box none 29 [.row 8 2,.row 3 l4.length]),(3,.row 105 8 (glP G hv l4)),(6,.rowA hv 102 2 (List.map z1r (y4b G l4))),(8,.row 81 2 (List.map z0u [(z0m.mk [109,97,112,115] r2.1),(z0m.mk [115,104,111,112] ([[111,114,100,101,114,115]]))])),(40,.box (some b2) 29 [.dat (vnil),.dat (vnil)]),(4,.box none 105 [.dat (vstr x10),.dat (vstr r16.1),.dat (vint r18.1),.dat (vint r20.1),.row 5 s.2.1.length,.dat (vint r22.1),.dat (vint r24.1),.dat (z1e r26.1)]),(5,.row 102 2 (List.map z1r s.2.1))]) (1,([]:List z01),r28.2.L,r28.2.at_) H ⟨rfl,rfl,rfl,rfl,rfl,rfl,rfl,rfl,rfl,rfl,trivial⟩ ⟨rfl,rfl,rfl,rfl,rfl,rfl,rfl,rfl,rfl,trivial⟩ (fun _ _=>rfl) ?_ ?_
    ·rintro ⟨v30,l31,c32,c33⟩ H
     replace H:z3i l4 x10 r16 r18 r20 r22 r24 r26 v30 l31 c32 c33=some q8:=H
     unfold z3i at H
     refine z0c ?_
     refine z0b hN rfl ?_
     refine z0a (z05 rfl rfl) ?_
     refine z0c ?_
     refine z0i _ rfl (fun h=>(w0m h).elim) (fun h => ?_)
     refine z1v ?_
     refine w30 (Nat.beq l4.length G) 4 4 5 6 7 rfl rfl rfl (by rw [List.length_map]) rfl rfl fun hv' hhv => ?_
     refine z0b hN rfl ?_
     refine z0a (z0p z9n rfl) ?_
     refine z0j (z0n y4q rfl rfl) rfl ?_
     refine z0j (z04 y1j rfl rfl rfl) rfl ?_
     refine z0a (z06 (u':=vlst [cond (Nat.beq l4.length G) (y4p hv' (z0o.mk x10 r16.1 r18.1 r20.1 l31 r22.1 r24.1 r26.1)) (z0z (z0o.mk x10 r16.1 r18.1 r20.1 l31 r22.1 r24.1 r26.1))]) (z1w [_] x82 ⟨rfl,.inr rfl,rfl,trivial⟩ rfl rfl) (by cases Nat.beq l4.length G <;> rfl)) ?_
     obtain ⟨h37,H⟩:=gif H
     refine z0f (w68 x82 rfl (z99 _ _ _).symm rfl (by simp) (by cases Nat.beq l4.length G <;> simp [y4p]) (by rw [z99]; exact h37) rfl) rfl ?_
     refine z0a (z0p z9n rfl) ?_
     refine y7n (y49 y4q rfl rfl rfl rfl) rfl rfl ?_
     refine y77 ?_
     show Cv _ _ _ _
     refine w7r (rn [(7,6)]) [(0,.ptr 0 0),(2,.ptr 1 0),(3,.ptr 2 0),(15,.dat (vlst (List.map z00 ([[98,105,103],[102,114,101,101],[109,105,100],[115,109,97,108,108]])))),(16,.dat (vint (([[98,105,103],[102,114,101,101],[109,105,100],[115,109,97,108,108]]).length:Int))),(17,.dat (vint (k7:Int)))] [(0,.box (some bl) 25 [.dat (vlst (List.map z3o c32)),.dat (vint c33)]),(1,.box none 29 [.dat (vnil),.dat (vnil)]),(2,.box none 29 [.row 8 2,.row 3 (l4++[(z0o.mk x10 r16.1 r18.1 r20.1 l31 r22.1 r24.1 r26.1)]).length]),(3,.row 105 8 (glP G hv' (l4++[(z0o.mk x10 r16.1 r18.1 r20.1 l31 r22.1 r24.1 r26.1)]))),(7,.rowA hv' 102 2 (List.map z1r (y4b G (l4++[(z0o.mk x10 r16.1 r18.1 r20.1 l31 r22.1 r24.1 r26.1)])))),(8,.row 81 2 (List.map z0u [(z0m.mk [109,97,112,115] r2.1),(z0m.mk [115,104,111,112] ([[111,114,100,101,114,115]]))])),(40,.box (some b2) 29 [.dat (vnil),.dat (vnil)])] ⟨rfl,rfl,rfl,rfl,rfl,rfl,trivial⟩ ⟨rfl,rfl,congrArg (fun n=>some (some (AObj.box none 29 [.row 8 2,.row 3 n]))) (by simp [z99]),congrArg (fun es=>some (some (AObj.row 105 8 es))) (w01 G hv hv' l4 (z0o.mk x10 r16.1 r18.1 r20.1 l31 r22.1 r24.1 r26.1) hhv).symm,congrArg (fun es=>some (some (AObj.rowA hv' 102 2 es))) (y9l G l4 (z0o.mk x10 r16.1 r18.1 r20.1 l31 r22.1 r24.1 r26.1)).symm,rfl,rfl,trivial⟩ rfl rfl ?_
     exact ⟨((c32,c33,(l4++[(z0o.mk x10 r16.1 r18.1 r20.1 l31 r22.1 r24.1 r26.1)])),hv'),H,⟨rfl,rfl,rfl,rfl,rfl,rfl,trivial⟩,⟨rfl,rfl,rfl,rfl,rfl,rfl,rfl,trivial⟩⟩
    ·rintro k34 ⟨v30,l31,c32,c33⟩ q35 h38 H hq35
     replace H:z3g k34 v30 l31 c32 c33=some q35:=H
     unfold z3g at H
     refine x1l ?_
     refine z0c ?_
     refine z0b hN rfl ?_
     refine z0a (z05 rfl rfl) ?_
     refine z0c ?_
     refine z0i _ rfl (fun h => ?_) (fun h=>(w0n h38 h).elim)
     refine z0s ?_
     refine z0c ?_
     refine z0y ?_
     refine z0c ?_
     refine z3q mixed hN rfl rfl ?_
     refine z0a (z0p y0y rfl) ?_
     refine z0j (z0n y39 rfl rfl) rfl ?_
     refine qd rfl ?_
     refine z0a (z0k (.ptr _ _) rfl) ?_
     refine z0a (z06 (u':=vlst (List.map z3o [0,100,500,1500])) (z1w [[_],[_],[_],[_]] y1x ⟨rfl,.inl ⟨_,rfl,rfl,rfl⟩,rfl,rfl,.inl ⟨_,rfl,rfl,rfl⟩,rfl,rfl,.inl ⟨_,rfl,rfl,rfl⟩,rfl,rfl,.inl ⟨_,rfl,rfl,rfl⟩,rfl,trivial⟩ rfl rfl) rfl) ?_
     obtain ⟨r39,h40,H⟩:=bnd H
     refine z0f (z1i (z07 (z0d.mk c32 c33) [0,100,500,1500] r39 h40) rfl ⟨.inl rfl,trivial⟩ rfl) rfl ?_
     refine z0a (z06 (u':=vagg (z1r (z01.mk v30 r39.1))) (z3k [(0,[vint v30]),(1,[vint r39.1])] y9d x55 rfl ⟨rfl,.inl ⟨_,rfl,rfl,rfl⟩,rfl,rfl,.inl ⟨_,rfl,rfl,rfl⟩,rfl,trivial⟩) rfl) ?_
     refine z0a (z06 (u':=vlst (List.map z1r [(z01.mk v30 r39.1)])) (z1w [_] y9g ⟨rfl,.inr rfl,rfl,trivial⟩ rfl rfl) rfl) ?_
     obtain ⟨h41,H⟩:=gif H
     refine z0f (y50 y9g (fun _=>rfl) rfl rfl rfl ⟨by simp,by first | (simp; done) | simpa using h41⟩ rfl) rfl ?_
     refine z0a (z0p y0y rfl) ?_
     refine y7n (y49 y39 rfl rfl (by rw [List.length_map]) rfl) rfl rfl ?_
     refine ⟨rfl,?_⟩
     refine z0b hN rfl ?_
     refine qd rfl ?_
     refine z0a (z0k (.ptr _ _) rfl) ?_
     refine z0a (z06 (u':=vlst (List.map z3o [1,9,100])) (z1w [[_],[_],[_]] y1x ⟨rfl,.inl ⟨_,rfl,rfl,rfl⟩,rfl,rfl,.inl ⟨_,rfl,rfl,rfl⟩,rfl,rfl,.inl ⟨_,rfl,rfl,rfl⟩,rfl,trivial⟩ rfl rfl) rfl) ?_
     obtain ⟨r42,h43,H⟩:=bnd H
     refine z0f (z1i (z07 r39.2 [1,9,100] r42 h43) rfl ⟨.inl rfl,trivial⟩ rfl) rfl ?_
     refine z0a (z1s _ rfl rfl (.inl ⟨rfl,rfl⟩)) ?_
     refine qe rfl ?_
     refine z0b hN rfl ?_
     refine z0a (z3v rfl rfl (by omega)) ?_
     refine qd rfl ?_
     refine y77 ?_
     show Cv _ _ _ _
     refine x5z ?_
     exact ⟨_,z63 H,⟨rfl,rfl,rfl,rfl,rfl,rfl,rfl,rfl,rfl,rfl,trivial⟩,⟨rfl,rfl,rfl,rfl,rfl,rfl,rfl,rfl,rfl,trivial⟩⟩
  ·rintro ⟨⟨c44,c45,l46⟩,hv⟩ H
   replace H:z1t c44 c45 l46=some q8:=H
   unfold z1t at H
   refine z0b hN rfl ?_
   refine z0a (z3v rfl rfl (by omega)) ?_
   refine qd rfl ?_
   refine y77 ?_
   show Cv _ _ _ _
   refine x5z ?_
   exact ⟨_,hv,z63 H,⟨rfl,rfl,rfl,rfl,rfl,rfl,trivial⟩,⟨rfl,rfl,rfl,rfl,rfl,rfl,rfl,trivial⟩⟩
theorem w0z (g:Nat) (hv:Value) (ps:List z0o) (p:z0o) (t:z01) (h:ps[g]?=some p):(glP g hv ps).set g ((y4p hv p).set 4 (vlst (List.map z1r (y4b g ps)++[z1r t])))=List.map z0z (ps.set g (z0o.mk p.Key p.Product p.Base p.Free (p.Tiers++[t]) p.Limit p.Trial p.Asked)):=by
 rw [← w00 g hv ps _ (List.getElem?_eq_some_iff.1 h).1,(x4g g hv ps p h).2]
 congr 1
 simp [y4p,z0z]
theorem y44 (s1:z0d) (r:(z0g×z0d)) (H:z5y s1=some r):Imp Tryz.prog 23 25 (z0v s1) [] (z1x [vagg (z1d r.1)]) (z0v r.2):=by
 refine y3n (us:=[vagg (z1d r.1)]) (cs':=(z0v r.2)) (by kernel_rfl) Tryz.func23 rfl rfl rfl rfl fun X bl hN => ?_
 unfold z5y at H
 obtain ⟨r2,h3,H⟩:=bnd H
 cases hc:decide ((r2.1.Plans.length:Int) > 0) with
 | false =>
  rw [hc] at H
  refine z0c ?_
  refine z0b hN rfl ?_
  refine z0f (z1h 1 y59 rfl) rfl ?_
  refine z0c ?_
  refine z0b hN rfl ?_
  refine z0a (z0k (.ptr _ _) rfl) ?_
  refine z0f (z1i (y0w s1 r2 h3) rfl trivial rfl) rfl ?_
  refine z0f (z1h 2 y59 rfl) rfl ?_
  refine z0f (z02 z5d rfl rfl rfl rfl) rfl ?_
  refine z0c ?_
  refine z0c ?_
  refine z0b hN rfl ?_
  refine z0a (z0p z9n rfl) ?_
  refine z0j (z0n y4q rfl rfl) rfl ?_
  refine z0a (z43 y9e rfl) ?_
  refine z0a (z5n rfl rfl) ?_
  refine qd rfl ?_
  refine z19 (j:=4) rfl rfl (fun h4 => ?_) (fun h4 => ?_) rfl
  ·have h5:=un1 h4
   rw [hc] at h5; cases h5
  ·have h8:=un2 h4
   refine z0l rfl rfl h4 ?_
   refine z0l rfl rfl h4 ?_
   refine z0a (z1b rfl (bFF h8) rfl) ?_
   refine z0i false rfl (fun h=>by cases h) (fun h => ?_)
   refine z0s ?_
   refine z0c ?_
   refine z0b hN rfl ?_
   refine z0j (z04 z5d rfl rfl rfl) rfl ?_
   refine z0f (z02 z5d rfl rfl rfl rfl) rfl ?_
   refine z0r ?_
   cases H
   exact ⟨trivial,⟨.inl ⟨_,_,_,z1d r2.1,rfl,rfl,rfl,rfl,z5d⟩,trivial⟩,rfl⟩
 | true =>
  rw [hc] at H
  obtain ⟨r6,h7,H⟩:=bnd H
  cases hf:r6.1 with
  | false =>
   rw [hf] at H
   refine z0c ?_
   refine z0b hN rfl ?_
   refine z0f (z1h 1 y59 rfl) rfl ?_
   refine z0c ?_
   refine z0b hN rfl ?_
   refine z0a (z0k (.ptr _ _) rfl) ?_
   refine z0f (z1i (y0w s1 r2 h3) rfl trivial rfl) rfl ?_
   refine z0f (z1h 2 y59 rfl) rfl ?_
   refine z0f (z02 z5d rfl rfl rfl rfl) rfl ?_
   refine z0c ?_
   refine z0c ?_
   refine z0b hN rfl ?_
   refine z0a (z0p z9n rfl) ?_
   refine z0j (z0n y4q rfl rfl) rfl ?_
   refine z0a (z43 y9e rfl) ?_
   refine z0a (z5n rfl rfl) ?_
   refine qd rfl ?_
   refine z19 (j:=4) rfl rfl (fun h4 => ?_) (fun h4 => ?_) rfl
   ·have h5:=un1 h4
    refine z03 rfl rfl h4 (z0k (.ptr _ _) rfl) ?_
    refine x90 rfl rfl h4 (z1i (z1y r2.2 12 r6 h7) rfl ⟨.inl rfl,trivial⟩ rfl) rfl ?_
    refine z0a (z1p rfl (bTT h5) rfl) ?_
    refine z0i r6.1 rfl (fun h=>by rw [hf] at h; cases h) (fun h => ?_)
    refine z0s ?_
    refine z0c ?_
    refine z0b hN rfl ?_
    refine z0j (z04 z5d rfl rfl rfl) rfl ?_
    refine z0f (z02 z5d rfl rfl rfl rfl) rfl ?_
    refine z0r ?_
    cases H
    exact ⟨trivial,⟨.inl ⟨_,_,_,z1d r2.1,rfl,rfl,rfl,rfl,z5d⟩,trivial⟩,rfl⟩
   ·have h8:=un2 h4
    rw [hc] at h8; cases h8
  | true =>
   rw [hf] at H
   replace H:z7t r2.1 r6.2=some r:=H
   unfold z7t at H
   obtain ⟨r13,h14,H⟩:=bnd H
   obtain ⟨x15,h16,H⟩:=bnd H
   refine z0c ?_
   refine z0b hN rfl ?_
   refine z0f (z1h 40 y59 rfl) rfl ?_
   refine w33 40 rfl fun b2 => ?_
   refine x7f [(0,.ptr 0 0),(2,.ptr 40 0)] [(0,.box (some bl) 25 (List.map .dat (z0v s1))),(40,.box (some b2) 29 [.dat vnil,.dat vnil])] ⟨rfl,rfl,trivial⟩ ⟨rfl,rfl,trivial⟩ rfl ?_
   refine z0c ?_
   refine x8w hN ?_
   refine x93 hN rfl (z0k (.ptr _ _) rfl) ?_
   refine y8w bl b2 r13.1.toNat s1 r2 h3 hN rfl rfl rfl rfl fun hv1 hv2 hv => ?_
   refine w5e hN rfl (lg:=[]) ?_
   refine z0f (z1h 3 y59 rfl) rfl ?_
   refine z0f (z02 z5d rfl rfl rfl rfl) rfl ?_
   refine x7d 3 1 11 21 rfl rfl rfl rfl ?_
   refine x7d 3 0 10 20 rfl rfl rfl rfl ?_
   refine z1a (ι:=z0g×z0d) (fun i=>[(2,.ptr 40 0),(3,.ptr 3 0)]) (fun i=>[(0,.box (some bl) 25 (List.map .dat (z0v i.2))),(40,.box (some b2) 29 [.dat vnil,.dat vnil]),(3,.box none 29 [.row 20 i.1.Products.length,.row 21 i.1.Plans.length]),(20,.row 81 2 (List.map z0u i.1.Products)),(21,.row 105 8 (List.map z0z i.1.Plans))]) (fun i=>some i=some r) (fun i=>rfl) ?_ ?_
   ·skip
    refine z0c ?_
    refine z0b hN rfl ?_
    refine z0a (z0p z9n rfl) ?_
    refine z0j (z0n y4q rfl rfl) rfl ?_
    refine z0j (z06 (y67 y9e rfl rfl) (by rw [z99])) rfl ?_
    refine z0a (z5n rfl rfl) ?_
    refine qd rfl ?_
    refine z19 (j:=4) rfl rfl (fun h4 => ?_) (fun h4=>by have h8:=un2 h4; rw [hc] at h8; cases h8) rfl
    have h5:=un1 h4
    refine z03 rfl rfl h4 (z0k (.ptr _ _) rfl) ?_
    refine x90 rfl rfl h4 (z1i (z1y r2.2 12 r6 h7) rfl ⟨.inl rfl,trivial⟩ rfl) rfl ?_
    refine z0a (z1p rfl (bTT h5) rfl) ?_
    refine z0i r6.1 rfl (fun h12 => ?_) (fun h12=>by rw [hf] at h12; cases h12)
    refine z0c ?_
    refine z3q mixed hN rfl rfl ?_
    refine z0a (z0p z9n rfl) ?_
    refine z0j (z0n y4q rfl rfl) rfl ?_
    refine z0a (z0k (.ptr _ _) rfl) ?_
    refine z0a (z0p z9n rfl) ?_
    refine z0j (z0n y4q rfl rfl) rfl ?_
    refine z0j (z06 (y67 y9e rfl rfl) (by rw [z99])) rfl ?_
    refine z0f (z1i (z3m r6.2 (r2.1.Plans.length:Int) r13 h14) rfl ⟨.inl rfl,trivial⟩ rfl) rfl ?_
    refine z0j (x3t y8u rfl rfl rfl (by rw [z99]; exact (z2m h16).1)) rfl ?_
    refine z0a (z1j (.rptr _ _ _ _ _) rfl) ?_
    refine ⟨rfl,?_⟩
    refine z0c ?_
    refine z0b hN rfl ?_
    refine z0a (z0k (.ptr _ _) rfl) ?_
    obtain ⟨r17,h18,H⟩:=bnd H
    refine z0f (z1i (z3m r13.2 6 r17 h18) rfl ⟨.inl rfl,trivial⟩ rfl) rfl ?_
    refine z0y ?_
    refine z0c ?_
    refine z0b hN rfl ?_
    refine z0a (z12 rfl rfl) ?_
    refine qe rfl ?_
    refine z0i _ rfl (fun h30 => ?_) (fun h30 => ?_)
    ·replace H:=ift h30 H
     refine y72 21 12 (List.map z0z r2.1.Plans) rfl rfl (x1h _ _ _) (y6e _) ?_
     refine z0b hN rfl ?_
     refine z0a (z0k (.rptr _ _ _ _ _) rfl) ?_
     refine z0a (z0k (.ptr _ _) rfl) ?_
     refine z0a (z06 (u':=vlst (List.map z00 [[],[65],[98,105,103]])) (z1w [[_],[_],[_]] y06 ⟨rfl,.inl ⟨_,rfl,rfl,rfl⟩,rfl,rfl,.inl ⟨_,rfl,rfl,rfl⟩,rfl,rfl,.inl ⟨_,rfl,rfl,rfl⟩,rfl,trivial⟩ rfl rfl) rfl) ?_
     obtain ⟨r20,h21,H⟩:=bnd H
     refine z0f (z1i (z1n r17.2 ([[],[65],[98,105,103]]) r20 h21) rfl ⟨.inl rfl,trivial⟩ rfl) rfl ?_
     refine z0a (y4t rfl) ?_
     refine z0a (y4u y1k rfl) ?_
     refine z0f (y5l (z0o.mk r20.1 x15.Product x15.Base x15.Free x15.Tiers x15.Limit x15.Trial x15.Asked) tyS9 rfl rfl rfl (z99 _ _ _) (z2m h16).2 rfl rfl) rfl ?_
     exact ⟨((z0g.mk r2.1.Products (r2.1.Plans.set r13.1.toNat (z0o.mk r20.1 x15.Product x15.Base x15.Free x15.Tiers x15.Limit x15.Trial x15.Asked))),r20.2),H,⟨rfl,rfl,trivial⟩,⟨rfl,rfl,(by refine Eq.trans (b:=some (some (AObj.box none 29 [.row 20 (List.map z0u r2.1.Products).length,.row 21 (glP r13.1.toNat hv r2.1.Plans).length]))) rfl (by simp [z99])),rfl,rfl,trivial⟩⟩
    ·replace H:=iff_ h30 H
     refine z0c ?_
     refine z0b hN rfl ?_
     refine z0a (z12 rfl rfl) ?_
     refine qe rfl ?_
     refine z0i _ rfl (fun h31 => ?_) (fun h31 => ?_)
     ·replace H:=ift h31 H
      refine y72 21 12 (List.map z0z r2.1.Plans) rfl rfl (x1h _ _ _) (y6e _) ?_
      refine z0b hN rfl ?_
      refine z0a (z0k (.rptr _ _ _ _ _) rfl) ?_
      refine z0a (z0k (.ptr _ _) rfl) ?_
      refine z0a (z06 (u':=vlst (List.map z00 [[110,111,110,101],[]])) (z1w [[_],[_]] y06 ⟨rfl,.inl ⟨_,rfl,rfl,rfl⟩,rfl,rfl,.inl ⟨_,rfl,rfl,rfl⟩,rfl,trivial⟩ rfl rfl) rfl) ?_
      obtain ⟨r20,h21,H⟩:=bnd H
      refine z0f (z1i (z1n r17.2 ([[110,111,110,101],[]]) r20 h21) rfl ⟨.inl rfl,trivial⟩ rfl) rfl ?_
      refine z0a (y4t rfl) ?_
      refine z0a (y4u y6o rfl) ?_
      refine z0f (y5l (z0o.mk x15.Key r20.1 x15.Base x15.Free x15.Tiers x15.Limit x15.Trial x15.Asked) tyS9 rfl rfl rfl (z99 _ _ _) (z2m h16).2 rfl rfl) rfl ?_
      exact ⟨((z0g.mk r2.1.Products (r2.1.Plans.set r13.1.toNat (z0o.mk x15.Key r20.1 x15.Base x15.Free x15.Tiers x15.Limit x15.Trial x15.Asked))),r20.2),H,⟨rfl,rfl,trivial⟩,⟨rfl,rfl,(by refine Eq.trans (b:=some (some (AObj.box none 29 [.row 20 (List.map z0u r2.1.Products).length,.row 21 (glP r13.1.toNat hv r2.1.Plans).length]))) rfl (by simp [z99])),rfl,rfl,trivial⟩⟩
     ·replace H:=iff_ h31 H
      refine z0c ?_
      refine z0b hN rfl ?_
      refine z0a (z12 rfl rfl) ?_
      refine qe rfl ?_
      refine z0i _ rfl (fun h32 => ?_) (fun h32 => ?_)
      ·replace H:=ift h32 H
       refine y72 21 12 (List.map z0z r2.1.Plans) rfl rfl (x1h _ _ _) (y6e _) ?_
       refine z0b hN rfl ?_
       refine z0a (z0k (.rptr _ _ _ _ _) rfl) ?_
       refine z0a (z0k (.rptr _ _ _ _ _) rfl) ?_
       refine z0a (z0k (.ptr _ _) rfl) ?_
       obtain ⟨r20,h21,H⟩:=bnd H
       refine z0f (z1i (z4d r17.2 0 1000 r20 h21) rfl ⟨.inl rfl,.inl rfl,trivial⟩ rfl) rfl ?_
       refine z0a (z0k (.ptr _ _) rfl) ?_
       obtain ⟨r22,h23,H⟩:=bnd H
       refine z0f (z1i (z4d r20.2 0 1000 r22 h23) rfl ⟨.inl rfl,.inl rfl,trivial⟩ rfl) rfl ?_
       refine z0a (y4t rfl) ?_
       refine z0a (y4u x1y rfl) ?_
       refine z0f (y5l (z0o.mk x15.Key x15.Product r20.1 x15.Free x15.Tiers x15.Limit x15.Trial x15.Asked) tyS3 rfl rfl rfl (z99 _ _ _) (z2m h16).2 rfl rfl) rfl ?_
       refine z0a (y4t rfl) ?_
       refine z0a (y4u y86 rfl) ?_
       refine z0f (y5l (z0o.mk x15.Key x15.Product r20.1 r22.1 x15.Tiers x15.Limit x15.Trial x15.Asked) tyS3 rfl rfl rfl (by simp [z99]) (w4j (z2m h16).2) rfl rfl) rfl ?_
       exact ⟨((z0g.mk r2.1.Products (r2.1.Plans.set r13.1.toNat (z0o.mk x15.Key x15.Product r20.1 r22.1 x15.Tiers x15.Limit x15.Trial x15.Asked))),r22.2),H,⟨rfl,rfl,trivial⟩,⟨rfl,rfl,(by refine Eq.trans (b:=some (some (AObj.box none 29 [.row 20 (List.map z0u r2.1.Products).length,.row 21 (glP r13.1.toNat hv r2.1.Plans).length]))) rfl (by simp [z99])),rfl,congrArg (fun l=>some (some (AObj.row 105 8 (List.map z0z l)))) (by simp),trivial⟩⟩
      ·replace H:=iff_ h32 H
       refine z0c ?_
       refine z0b hN rfl ?_
       refine z0a (z12 rfl rfl) ?_
       refine qe rfl ?_
       refine z0i _ rfl (fun h33 => ?_) (fun h33 => ?_)
       ·replace H:=ift h33 H
        refine z3q mixed hN rfl rfl ?_
        refine z0a (z0k (.rptr _ _ _ _ _) rfl) ?_
        refine z0a (z0k (.rptr _ _ _ _ _) rfl) ?_
        refine z0a (y4t rfl) ?_
        refine z0a (y4u y0y rfl) ?_
        refine z0j (x05 y39 rfl rfl (x4g _ _ _ _ (z2m h16).2).1 rfl) rfl ?_
        refine z0a (z0k (.ptr _ _) rfl) ?_
        obtain ⟨r20,h21,H⟩:=bnd H
        refine z0f (z1i (z4d r17.2 1 100 r20 h21) rfl ⟨.inl rfl,.inl rfl,trivial⟩ rfl) rfl ?_
        refine z0a (z0k (.ptr _ _) rfl) ?_
        obtain ⟨r22,h23,H⟩:=bnd H
        refine z0f (z1i (z4d r20.2 0 1000000 r22 h23) rfl ⟨.inl rfl,.inl rfl,trivial⟩ rfl) rfl ?_
        refine z0a (z06 (u':=vagg (z1r (z01.mk r20.1 r22.1))) (z3k [(0,[vint r20.1]),(1,[vint r22.1])] y9d x55 rfl ⟨rfl,.inl ⟨_,rfl,rfl,rfl⟩,rfl,rfl,.inl ⟨_,rfl,rfl,rfl⟩,rfl,trivial⟩) rfl) ?_
        refine z0a (z06 (u':=vlst [z1r (z01.mk r20.1 r22.1)]) (z1w [_] y9g ⟨rfl,.inr rfl,rfl,trivial⟩ rfl rfl) rfl) ?_
        obtain ⟨h24,H⟩:=gif H
        refine w23 (w67 12 22 70 y9g rfl rfl (fun h=>by cases h) (fun h=>by cases h) (by simp) (fun el h=>by simp at h; subst h; rfl) (by rw [List.length_map,(x4g _ hv _ _ (z2m h16).2).2]; exact h24) rfl rfl) rfl rfl ?_
        refine z0a (y4t rfl) ?_
        refine z0a (y4u y0y rfl) ?_
        refine y89 (x7u y39 rfl rfl rfl rfl (x4g _ _ _ _ (z2m h16).2).1 rfl rfl) rfl rfl ?_
        refine ⟨rfl,?_⟩
        exact ⟨((z0g.mk r2.1.Products (r2.1.Plans.set r13.1.toNat (z0o.mk x15.Key x15.Product x15.Base x15.Free (x15.Tiers++[(z01.mk r20.1 r22.1)]) x15.Limit x15.Trial x15.Asked))),r22.2),H,⟨rfl,rfl,trivial⟩,⟨rfl,rfl,(by refine Eq.trans (b:=some (some (AObj.box none 29 [.row 20 (List.map z0u r2.1.Products).length,.row 21 (glP r13.1.toNat hv r2.1.Plans).length]))) rfl (by simp [z99])),rfl,congrArg (fun es=>some (some (AObj.row 105 8 es))) (w0z r13.1.toNat hv r2.1.Plans x15 (z01.mk r20.1 r22.1) (z2m h16).2),trivial⟩⟩
       ·replace H:=iff_ h33 H
        refine z0c ?_
        refine z0b hN rfl ?_
        refine z0a (z12 rfl rfl) ?_
        refine qe rfl ?_
        refine z0i _ rfl (fun h34 => ?_) (fun h34 => ?_)
        ·replace H:=ift h34 H
         refine y72 21 12 (List.map z0z r2.1.Plans) rfl rfl (x1h _ _ _) (y6e _) ?_
         refine z0b hN rfl ?_
         refine z0a (z0k (.rptr _ _ _ _ _) rfl) ?_
         refine z0a (z0k (.rptr _ _ _ _ _) rfl) ?_
         refine z0a (z0k (.ptr _ _) rfl) ?_
         obtain ⟨r20,h21,H⟩:=bnd H
         refine z0f (z1i (z4d r17.2 (-1) 100 r20 h21) rfl ⟨.inl rfl,.inl rfl,trivial⟩ rfl) rfl ?_
         refine z0a (z0k (.ptr _ _) rfl) ?_
         obtain ⟨r22,h23,H⟩:=bnd H
         refine z0f (z1i (z4d r20.2 0 132 r22 h23) rfl ⟨.inl rfl,.inl rfl,trivial⟩ rfl) rfl ?_
         refine z0a (y4t rfl) ?_
         refine z0a (y4u x1x rfl) ?_
         refine z0f (y5l (z0o.mk x15.Key x15.Product x15.Base x15.Free x15.Tiers r20.1 x15.Trial x15.Asked) tyS3 rfl rfl rfl (z99 _ _ _) (z2m h16).2 rfl rfl) rfl ?_
         refine z0a (y4t rfl) ?_
         refine z0a (y4u x1w rfl) ?_
         refine z0f (y5l (z0o.mk x15.Key x15.Product x15.Base x15.Free x15.Tiers r20.1 r22.1 x15.Asked) tyS3 rfl rfl rfl (by simp [z99]) (w4j (z2m h16).2) rfl rfl) rfl ?_
         exact ⟨((z0g.mk r2.1.Products (r2.1.Plans.set r13.1.toNat (z0o.mk x15.Key x15.Product x15.Base x15.Free x15.Tiers r20.1 r22.1 x15.Asked))),r22.2),H,⟨rfl,rfl,trivial⟩,⟨rfl,rfl,(by refine Eq.trans (b:=some (some (AObj.box none 29 [.row 20 (List.map z0u r2.1.Products).length,.row 21 (glP r13.1.toNat hv r2.1.Plans).length]))) rfl (by simp [z99])),rfl,congrArg (fun l=>some (some (AObj.row 105 8 (List.map z0z l)))) (by simp),trivial⟩⟩
        ·replace H:=iff_ h34 H
         refine y72 21 12 (List.map z0z r2.1.Plans) rfl rfl (x1h _ _ _) (y6e _) ?_
         refine z3q mixed hN rfl rfl ?_
         refine z0a (z0p y5k rfl) ?_
         refine z0j (z0n x1s rfl rfl) rfl ?_
         refine z0a (z0k (.ptr _ _) rfl) ?_
         refine z0a (z06 (u':=vlst (List.map z00 [[122,122],[115,104,111,112],[]])) (z1w [[_],[_],[_]] y06 ⟨rfl,.inl ⟨_,rfl,rfl,rfl⟩,rfl,rfl,.inl ⟨_,rfl,rfl,rfl⟩,rfl,rfl,.inl ⟨_,rfl,rfl,rfl⟩,rfl,trivial⟩ rfl rfl) rfl) ?_
         obtain ⟨r20,h21,H⟩:=bnd H
         refine z0f (z1i (z1n r17.2 ([[122,122],[115,104,111,112],[]]) r20 h21) rfl ⟨.inl rfl,trivial⟩ rfl) rfl ?_
         refine z0a (z0k (.ptr _ _) rfl) ?_
         obtain ⟨r22,h23,H⟩:=bnd H
         refine z0f (z1i (y5e r20.2 r22 h23) rfl trivial rfl) rfl ?_
         refine z0a (z06 (u':=vagg (z0u (z0m.mk r20.1 r22.1))) (z3k [(0,[vstr r20.1]),(1,[vlst (List.map z00 r22.1)])] x0r x7q rfl ⟨rfl,.inl ⟨_,rfl,rfl,rfl⟩,rfl,rfl,.inl ⟨_,rfl,rfl,rfl⟩,rfl,trivial⟩) rfl) ?_
         refine z0a (z06 (u':=vlst (List.map z0u [(z0m.mk r20.1 r22.1)])) (z1w [_] x83 ⟨rfl,.inr rfl,rfl,trivial⟩ rfl rfl) rfl) ?_
         obtain ⟨h24,H⟩:=gif H
         refine z0f (y50 x83 (fun _=>rfl) rfl (by simp) rfl ⟨by simp,by first | (simp; done) | simpa using h24⟩ rfl) rfl ?_
         refine z0a (z0p y5k rfl) ?_
         refine y7n (y49 x1s rfl rfl (by rw [List.length_map]) rfl) rfl rfl ?_
         refine ⟨rfl,?_⟩
         exact ⟨((z0g.mk (r2.1.Products++[(z0m.mk r20.1 r22.1)]) r2.1.Plans),r22.2),H,⟨rfl,rfl,trivial⟩,⟨rfl,rfl,(by refine Eq.trans (b:=some (some (AObj.box none 29 [.row 20 (r2.1.Products++[(z0m.mk r20.1 r22.1)]).length,.row 21 (glP r13.1.toNat hv r2.1.Plans).length]))) rfl (by simp [z99])),rfl,rfl,trivial⟩⟩
   ·rintro i H
    refine z0c ?_
    refine y73 3 0 20 rfl rfl rfl (by rw [List.length_map]) ?_
    refine y73 3 1 21 rfl rfl rfl (by rw [List.length_map]) ?_
    refine z0b hN rfl ?_
    refine z0j (z04 z5d rfl rfl rfl) rfl ?_
    refine z0f (z02 z5d rfl rfl rfl rfl) rfl ?_
    refine z0r ?_
    cases H
    exact ⟨trivial,⟨.inl ⟨_,_,_,z1d r.1,rfl,rfl,rfl,rfl,z5d⟩,trivial⟩,rfl⟩
theorem y37 (s1:z0d) (r:((List z0t)×z0d)) (H:z48 s1=some r):FnG Tryz.prog 52 [.ptr 0 0] [(0,.box (some 0) 25 (List.map .dat (z0v s1)))] (.row 2 r.1.length) [(0,.box (some 0) 25 (List.map .dat (z0v r.2))),(2,.row 86 2 (List.map z1l r.1))]:=by
 refine y65 (by kernel_rfl) Tryz.func52 rfl rfl rfl rfl fun X A hN => ?_
 unfold z48 at H
 refine z0c ?_
 refine z0b hN rfl ?_
 refine qe rfl ?_
 refine z0c ?_
 refine z0b hN rfl ?_
 refine z0a (z06 (u':=vagg (z1l (z0t.mk [97,112,112,49] [97,110,110]))) (z3k [(0,[vstr [97,112,112,49]]),(1,[vstr [97,110,110]])] x7p w2f rfl ⟨rfl,.inl ⟨_,rfl,rfl,rfl⟩,rfl,rfl,.inl ⟨_,rfl,rfl,rfl⟩,rfl,trivial⟩) rfl) ?_
 refine z0a (z0k (.ptr _ _) rfl) ?_
 refine z0a (z06 (u':=vlst (List.map z00 [[97,110,110],[98,111,98]])) (z1w [[_],[_]] y06 ⟨rfl,.inl ⟨_,rfl,rfl,rfl⟩,rfl,rfl,.inl ⟨_,rfl,rfl,rfl⟩,rfl,trivial⟩ rfl rfl) rfl) ?_
 obtain ⟨r2,h3,H⟩:=bnd H
 refine z0f (z1i (z1n s1 ([[97,110,110],[98,111,98]]) r2 h3) rfl ⟨.inl rfl,trivial⟩ rfl) rfl ?_
 refine z0a (z06 (u':=vagg (z1l (z0t.mk [97,112,112,50] r2.1))) (z3k [(0,[vstr [97,112,112,50]]),(1,[vstr r2.1])] x7p w2f rfl ⟨rfl,.inl ⟨_,rfl,rfl,rfl⟩,rfl,rfl,.inl ⟨_,rfl,rfl,rfl⟩,rfl,trivial⟩) rfl) ?_
 refine z0a (z06 (u':=vagg (z1l (z0t.mk [97,112,112,51] [98,111,98]))) (z3k [(0,[vstr [97,112,112,51]]),(1,[vstr [98,111,98]])] x7p w2f rfl ⟨rfl,.inl ⟨_,rfl,rfl,rfl⟩,rfl,rfl,.inl ⟨_,rfl,rfl,rfl⟩,rfl,trivial⟩) rfl) ?_
 refine z0f (x58 (C:=z1l) 1 ([(z0t.mk [97,112,112,49] [97,110,110]),(z0t.mk [97,112,112,50] r2.1),(z0t.mk [97,112,112,51] [98,111,98])]:(List z0t)) w44 ⟨rfl,.inr rfl,rfl,rfl,.inr rfl,rfl,rfl,.inr rfl,rfl,trivial⟩ rfl rfl rfl) rfl ?_
 refine z0a (z1j (.row _ _) rfl) ?_
 refine z0c ?_
 refine z0b hN rfl ?_
 refine z0a (z0k (.row _ _) rfl) ?_
 refine z0a (z0k (.ptr _ _) rfl) ?_
 refine z0a (z06 (u':=vlst (List.map z3o [1,2,3,3])) (z1w [[_],[_],[_],[_]] y1x ⟨rfl,.inl ⟨_,rfl,rfl,rfl⟩,rfl,rfl,.inl ⟨_,rfl,rfl,rfl⟩,rfl,rfl,.inl ⟨_,rfl,rfl,rfl⟩,rfl,rfl,.inl ⟨_,rfl,rfl,rfl⟩,rfl,trivial⟩ rfl rfl) rfl) ?_
 obtain ⟨r4,h5,H⟩:=bnd H
 refine z0f (z1i (z07 r2.2 [1,2,3,3] r4 h5) rfl ⟨.inl rfl,trivial⟩ rfl) rfl ?_
 obtain ⟨h6,H⟩:=gif H
 refine y89 (w46 (C:=z1l) 2 x3p rfl rfl rfl h6) rfl rfl ?_
 refine z0a (z1j (.row _ _) rfl) ?_
 refine z0r ?_
 cases H
 exact ⟨trivial,[(2,.row 2 _)],⟨rfl,trivial⟩,⟨rfl,rfl,trivial⟩,rfl,.inr (.inl ⟨2,rfl,congrArg (Slot.row 2) (by first | exact x0h (by assumption) | (simp <;> omega))⟩)⟩
theorem y56 (s1:z0d) (r:((List z0t)×z0d)) (H:z67 s1=some r):Imp Tryz.prog 24 25 (z0v s1) [] (z1x [vlst (List.map z1l r.1)]) (z0v r.2):=by
 refine y3n (us:=[vlst (List.map z1l r.1)]) (cs':=(z0v r.2)) (by kernel_rfl) Tryz.func24 rfl rfl rfl rfl fun X bl hN => ?_
 unfold z67 at H
 refine z0c ?_
 refine z0b hN rfl ?_
 refine qe rfl ?_
 refine z0c ?_
 refine z0b hN rfl ?_
 refine z0a (z0k (.ptr _ _) rfl) ?_
 obtain ⟨r2,h3,H⟩:=bnd H
 refine z7u (rn [(0,0),(2,1)]) [(0,_,_,some _)] [(2,_)] (y37 s1 r2 h3) ⟨rfl,rfl,trivial⟩ ⟨.inl (.inl rfl),trivial⟩ ⟨⟨⟨rfl,rfl⟩,trivial⟩,trivial⟩ rfl ?_
 refine z0a (z1j (.row _ _) rfl) ?_
 refine z1a (ι:=(List z0t)×(List Int)×Int) (fun i=>[(3,.row 1 i.1.length)]) (fun i=>[(0,.box (some bl) 25 [.dat (vlst (List.map z3o i.2.1)),.dat (vint i.2.2)]),(1,.row 86 2 (List.map z1l i.1))]) (fun i=>z5l i.1 i.2.1 i.2.2=some r) (fun i=>rfl) ?_ ?_
 ·skip
  refine z0c ?_
  refine z0b hN rfl ?_
  refine z0a (z0k (.ptr _ _) rfl) ?_
  obtain ⟨r4,h5,H⟩:=bnd H
  refine z0f (z1i (z1y r2.2 20 r4 h5) rfl ⟨.inl rfl,trivial⟩ rfl) rfl ?_
  refine z0i _ rfl (fun h6 => ?_) (fun h6 => ?_)
  ·replace H:=ift h6 H
   refine z0b hN rfl ?_
   refine z0a (z0k (.row _ _) rfl) ?_
   refine z0a (z0k (.ptr _ _) rfl) ?_
   refine z0a (z06 (u':=vlst (List.map z00 [[],[97,112,112,49],[122,122]])) (z1w [[_],[_],[_]] y06 ⟨rfl,.inl ⟨_,rfl,rfl,rfl⟩,rfl,rfl,.inl ⟨_,rfl,rfl,rfl⟩,rfl,rfl,.inl ⟨_,rfl,rfl,rfl⟩,rfl,trivial⟩ rfl rfl) rfl) ?_
   obtain ⟨r7,h8,H⟩:=bnd H
   refine z0f (z1i (z1n r4.2 ([[],[97,112,112,49],[122,122]]) r7 h8) rfl ⟨.inl rfl,trivial⟩ rfl) rfl ?_
   refine z0a (z0k (.ptr _ _) rfl) ?_
   refine z0a (z06 (u':=vlst (List.map z00 [[97,110,110],[]])) (z1w [[_],[_]] y06 ⟨rfl,.inl ⟨_,rfl,rfl,rfl⟩,rfl,rfl,.inl ⟨_,rfl,rfl,rfl⟩,rfl,trivial⟩ rfl rfl) rfl) ?_
   obtain ⟨r9,h10,H⟩:=bnd H
   refine z0f (z1i (z1n r7.2 ([[97,110,110],[]]) r9 h10) rfl ⟨.inl rfl,trivial⟩ rfl) rfl ?_
   refine z0a (z06 (u':=vagg (z1l (z0t.mk r7.1 r9.1))) (z3k [(0,[vstr r7.1]),(1,[vstr r9.1])] x7p w2f rfl ⟨rfl,.inl ⟨_,rfl,rfl,rfl⟩,rfl,rfl,.inl ⟨_,rfl,rfl,rfl⟩,rfl,trivial⟩) rfl) ?_
   refine z0a (z06 (u':=vlst (List.map z1l [(z0t.mk r7.1 r9.1)])) (z1w [_] w44 ⟨rfl,.inr rfl,rfl,trivial⟩ rfl rfl) rfl) ?_
   obtain ⟨h11,H⟩:=gif H
   refine z0f (y50 w44 (fun _=>rfl) rfl rfl rfl ⟨by simp,by first | (simp; done) | simpa using h11⟩ rfl) rfl ?_
   refine z0a (z1j (.row _ _) rfl) ?_
   exact ⟨((r2.1++[(z0t.mk r7.1 r9.1)]),r9.2.L,r9.2.at_),H,⟨rfl,trivial⟩,⟨rfl,rfl,trivial⟩⟩
  ·replace H:=iff_ h6 H
   refine z0s ?_
   exact ⟨(r2.1,r4.2.L,r4.2.at_),H,⟨rfl,trivial⟩,⟨rfl,rfl,trivial⟩⟩
 ·rintro ⟨out12,c13,c14⟩ H
  replace H:z5l out12 c13 c14=some r:=H
  unfold z5l at H
  refine z0c ?_
  refine z0b hN rfl ?_
  refine z0a (z0k (.row _ _) rfl) ?_
  refine z0a (z1j (.row _ _) rfl) ?_
  refine z0r ?_
  cases H
  exact ⟨trivial,⟨y3s rfl rfl,trivial⟩,rfl⟩
end Go.Proofs.YticadaaoggpenaaGreatDoor
