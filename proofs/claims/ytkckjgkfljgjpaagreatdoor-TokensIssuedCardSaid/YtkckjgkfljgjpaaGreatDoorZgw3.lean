/- Walks along the models. Printed by a program. -/
import Derived.Test.YtkckjgkfljgjpaaGreatDoorZgw2
namespace Go.Proofs.YtkckjgkfljgjpaaGreatDoor
open Go.RowKit
set_option linter.unusedVariables false
set_option maxRecDepth 100000
set_option maxHeartbeats 2000000
theorem y02 (v1:(List Int)) (v2:Int) (v3:Int) (v4:Bool) (v5:Bool) (r:((List Int)×Bs)) (H:z3h v1 v2 v3 v4 v5=some r):Fn Tryz.prog 137 [vlst (List.map z4z v1),vval (.int .u64 v2),vint v3,z01 v4,z01 v5] (z1s [vlst (List.map z4z r.1),vstr r.2]):=by
 refine ⟨by kernel_rfl,z1g (us:=[vlst (List.map z4z r.1),vstr r.2]) Tryz.func137 rfl rfl rfl rfl fun X hN => ?_⟩
 unfold z3h at H
 refine z0c ?_
 refine z0b hN rfl ?_
 refine qe rfl ?_
 refine qe rfl ?_
 refine z0c ?_
 refine z0c ?_
 refine z0b hN rfl ?_
 refine qd rfl ?_
 refine z0a (z04 rfl rfl) ?_
 refine qd rfl ?_
 refine z2r rfl rfl (fun hc=>z0h (.dat _) rfl) ?_
 refine z2r rfl rfl (fun hc=>z2a (cnd (c:=(!(decide (v3 < 2)))) hc) rfl) ?_
 refine z0a (z3f rfl rfl (fun hb=>(cnd (c:=(!(decide (v3 < 2)))) (notI hb)))) ?_
 refine qd rfl ?_
 refine z2r rfl rfl (fun hc=>z0h (.dat _) rfl) ?_
 refine z2r rfl rfl (fun hc=>z29 (cnd (c:=(!((decide (v3 < 2)) || (decide (v3=10))))) hc) rfl) ?_
 refine z0a (z3f rfl rfl (fun hb=>(cnd (c:=(!((decide (v3 < 2)) || (decide (v3=10))))) (notI hb)))) ?_
 refine z0j _ rfl (fun h6 => ?_) (fun h6 => ?_)
 ·replace H:=ift h6 H
  cases H
 ·replace H:=iff_ h6 H
  refine z0l ?_
  refine z0c ?_
  refine z0b hN rfl ?_
  refine z0k (w01 1 65 (show tyZ Tryz.prog 171=some (List.replicate 65 (.int .u8 0)) from by kernel_rfl)) rfl ?_
  refine z0c ?_
  refine z0b hN rfl ?_
  refine qe rfl ?_
  refine z0z (ι:=Unit) (fun i=>[(0,.dat (vlst (List.map z4z v1))),(1,.dat (vval (.int .u64 v2))),(2,.dat (vint v3)),(3,.dat (z01 v4)),(4,.dat (z01 v5)),(10,.dat (vnil)),(11,.dat (vstr [])),(12,.ptr 1 0),(13,.dat (vint 65))]) (fun i=>[(1,.box none 171 (List.map Slot.dat (bxU (List.replicate 65 0))))]) (fun i=>z2y v2 v3 v4 v5=some r) (fun i=>y63 rfl (y5t y9v y64)) ?_ ?_
  ·skip
   refine z0c ?_
   refine z0b hN rfl ?_
   refine qd rfl ?_
   refine z0j _ rfl (fun h7 => ?_) (fun h7 => ?_)
   ·replace H:=ift h7 H
    cases H
   ·replace H:=iff_ h7 H
    refine z0l ?_
    exact ⟨(),H,⟨rfl,rfl,rfl,rfl,rfl,rfl,rfl,rfl,rfl,trivial⟩,⟨rfl,trivial⟩⟩
  ·rintro ⟨⟩ H
   replace H:z2y v2 v3 v4 v5=some r:=H
   unfold z2y at H
   refine z0z (ι:=Int×(List Int)) (fun i=>[(0,.dat (vlst (List.map z4z v1))),(3,.dat (z01 v4)),(4,.dat (z01 v5)),(10,.dat (vnil)),(11,.dat (vstr [])),(12,.ptr 1 0),(13,.dat (vint i.1))]) (fun i=>[(1,.box none 171 (List.map Slot.dat (bxU i.2)))]) (fun i=>z2x v4 v5 i.1 i.2=some r) (fun i=>y63 rfl (y5t y9v y64)) ?_ ?_
   ·skip
    refine z0c ?_
    refine z0b hN rfl ?_
    refine qd rfl ?_
    obtain ⟨r8,h9,H⟩:=bnd H
    refine z0a (z0o (y3d v3 r8 h9) ⟨.inl rfl,trivial⟩) ?_
    refine z0j _ rfl (fun h10 => ?_) (fun h10 => ?_)
    ·replace H:=ift h10 H
     refine z0c ?_
     refine z0b hN rfl ?_
     refine qd rfl ?_
     refine z0a (z6k tyU3 x7z rfl) ?_
     obtain ⟨r11,h12,H⟩:=bnd H
     refine z0a (z0o (y6t (IntKind.wrap .u64 v3) r11 h12) ⟨.inl rfl,trivial⟩) ?_
     refine z0a (z6k tyU3 x7z rfl) ?_
     refine qe rfl ?_
     refine z0c ?_
     refine z0b hN rfl ?_
     refine qd rfl ?_
     refine z0a (z6k tyU3 y8l rfl) ?_
     refine qe rfl ?_
     refine z0c ?_
     refine z0b hN rfl ?_
     refine qd rfl ?_
     refine z0a (z6k tyU3 x7z rfl) ?_
     refine z0a (z1a _ rfl rfl (.inr (.inl ⟨rfl,rfl⟩))) ?_
     refine qe rfl ?_
     refine z0z (ι:=Int×Int×(List Int)) (fun i=>[(0,.dat (vlst (List.map z4z v1))),(1,.dat (vval (.int .u64 i.1))),(3,.dat (z01 v4)),(4,.dat (z01 v5)),(10,.dat (vnil)),(11,.dat (vstr [])),(12,.ptr 1 0),(13,.dat (vint i.2.1))]) (fun i=>[(1,.box none 171 (List.map Slot.dat (bxU i.2.2)))]) (fun i=>z2w v4 v5 i.1 i.2.1 i.2.2=some r) (fun i=>y63 rfl (y5t y9v y64)) ?_ ?_
     ·skip
      refine z0u ?_
      refine y36 (fun (s:Int×Int×(List Int))=>[(0,.dat (vlst (List.map z4z v1))),(1,.dat (vval (.int .u64 s.1))),(3,.dat (z01 v4)),(4,.dat (z01 v5)),(10,.dat (vnil)),(11,.dat (vstr [])),(12,.ptr 1 0),(13,.dat (vint s.2.1)),(14,.dat (vval (.int .u64 (IntKind.wrap .u64 r11)))),(15,.dat (vval (.int .u64 (IntKind.wrap .u64 v3)))),(16,.dat (vval (.int .u64 (IntKind.wrap .u64 ((IntKind.wrap .u64 v3) - 1)))))]) (fun (s:Int×Int×(List Int))=>[(1,.box none 171 (List.map Slot.dat (bxU s.2.2)))]) (v2,65,(List.replicate 65 0)) H ⟨rfl,rfl,rfl,rfl,rfl,rfl,rfl,rfl,rfl,rfl,rfl,trivial⟩ ⟨rfl,trivial⟩ (fun _=>y63 rfl (y5t y9v y64)) ?_
      rintro ⟨v13,v14,l15⟩ q16 H hq16
      replace H:z2h v3 v4 v5 r11 v13 v14 l15=some q16:=H
      unfold z2h at H
      refine z0c ?_
      refine z0c ?_
      refine z0b hN rfl ?_
      refine qd rfl ?_
      refine qd rfl ?_
      refine z0a (z9w rfl rfl) ?_
      refine z0j _ rfl (fun h17 => ?_) (fun h17 => ?_)
      ·replace H:=ift h17 H
       refine z0l ?_
       refine z0u ?_
       refine z0c ?_
       refine z0b hN rfl ?_
       refine qd rfl ?_
       refine z0a (z1a _ rfl rfl (.inr (.inl ⟨rfl,rfl⟩))) ?_
       refine qe rfl ?_
       refine z0c ?_
       refine z0b hN rfl ?_
       refine qd rfl ?_
       refine qd rfl ?_
       refine qd rfl ?_
       refine z0a (z09 (x4p rfl rfl) rfl) ?_
       obtain ⟨x18,h19,H⟩:=bnd H
       refine z0a (x1l tyU9 rfl rfl h19) ?_
       obtain ⟨h20,H⟩:=gif H
       refine z0a (x2w (show tyA Tryz.prog 171=some (65,5,.int .u8) from by kernel_rfl) rfl rfl h20) ?_
       obtain ⟨h21,H⟩:=gif H
       refine z0k (y7h (l:=l15) tyS5 rfl rfl h21) rfl ?_
       refine z0b hN rfl ?_
       refine qd rfl ?_
       refine qd rfl ?_
       obtain ⟨h22,H⟩:=gif H
       refine z0a (z09 (y9j rfl rfl h22) rfl) ?_
       refine qe rfl ?_
       exact ⟨_,z9s H,⟨rfl,rfl,rfl,rfl,rfl,rfl,rfl,rfl,rfl,rfl,rfl,trivial⟩,⟨rfl,trivial⟩⟩
      ·replace H:=iff_ h17 H
       refine z14 ?_
       replace H:=outl H hq16
       exact ⟨(v13,v14,l15),H,⟨rfl,rfl,rfl,rfl,rfl,rfl,rfl,rfl,trivial⟩,⟨rfl,trivial⟩⟩
     ·rintro ⟨v23,v24,l25⟩ H
      replace H:z2w v4 v5 v23 v24 l25=some r:=H
      unfold z2w at H
      refine z0c ?_
      refine z0b hN rfl ?_
      refine qd rfl ?_
      refine z0a (z1a _ rfl rfl (.inr (.inl ⟨rfl,rfl⟩))) ?_
      refine qe rfl ?_
      refine z0b hN rfl ?_
      refine qd rfl ?_
      refine qd rfl ?_
      obtain ⟨x26,h27,H⟩:=bnd H
      refine z0a (x1l tyU9 rfl rfl h27) ?_
      obtain ⟨h28,H⟩:=gif H
      refine z0a (x2w (show tyA Tryz.prog 171=some (65,5,.int .u8) from by kernel_rfl) rfl rfl h28) ?_
      obtain ⟨h29,H⟩:=gif H
      refine z0k (y7h (l:=l25) tyS5 rfl rfl h29) rfl ?_
      exact ⟨(wr (v24 - 1),(l25.set (wr (v24 - 1)).toNat (x26.toNat:Int))),H,⟨rfl,rfl,rfl,rfl,rfl,rfl,rfl,trivial⟩,⟨rfl,trivial⟩⟩
    ·replace H:=iff_ h10 H
     refine z0c ?_
     refine z0b hN rfl ?_
     refine qd rfl ?_
     refine z0a (z6k tyU3 y8l rfl) ?_
     refine qe rfl ?_
     refine z0z (ι:=Int×Int×(List Int)) (fun i=>[(0,.dat (vlst (List.map z4z v1))),(1,.dat (vval (.int .u64 i.1))),(3,.dat (z01 v4)),(4,.dat (z01 v5)),(10,.dat (vnil)),(11,.dat (vstr [])),(12,.ptr 1 0),(13,.dat (vint i.2.1))]) (fun i=>[(1,.box none 171 (List.map Slot.dat (bxU i.2.2)))]) (fun i=>z6a v4 v5 i.1 i.2.1 i.2.2=some r) (fun i=>y63 rfl (y5t y9v y64)) ?_ ?_
     ·skip
      refine z0u ?_
      refine y36 (fun (s:Int×Int×(List Int))=>[(0,.dat (vlst (List.map z4z v1))),(1,.dat (vval (.int .u64 s.1))),(3,.dat (z01 v4)),(4,.dat (z01 v5)),(10,.dat (vnil)),(11,.dat (vstr [])),(12,.ptr 1 0),(13,.dat (vint s.2.1)),(17,.dat (vval (.int .u64 (IntKind.wrap .u64 v3))))]) (fun (s:Int×Int×(List Int))=>[(1,.box none 171 (List.map Slot.dat (bxU s.2.2)))]) (v2,65,(List.replicate 65 0)) H ⟨rfl,rfl,rfl,rfl,rfl,rfl,rfl,rfl,rfl,trivial⟩ ⟨rfl,trivial⟩ (fun _=>y63 rfl (y5t y9v y64)) ?_
      rintro ⟨v30,v31,l32⟩ q33 H hq33
      replace H:z8h v3 v4 v5 v30 v31 l32=some q33:=H
      unfold z8h at H
      refine z0c ?_
      refine z0c ?_
      refine z0b hN rfl ?_
      refine qd rfl ?_
      refine qd rfl ?_
      refine z0a (z9w rfl rfl) ?_
      refine z0j _ rfl (fun h34 => ?_) (fun h34 => ?_)
      ·replace H:=ift h34 H
       refine z0l ?_
       refine z0u ?_
       refine z0c ?_
       refine z0b hN rfl ?_
       refine qd rfl ?_
       refine z0a (z1a _ rfl rfl (.inr (.inl ⟨rfl,rfl⟩))) ?_
       refine qe rfl ?_
       refine z0c ?_
       refine z0b hN rfl ?_
       refine qd rfl ?_
       refine qd rfl ?_
       obtain ⟨h35,H⟩:=gif H
       refine z0a (x5s rfl rfl h35) ?_
       refine qe rfl ?_
       refine z0c ?_
       refine z0b hN rfl ?_
       refine qd rfl ?_
       refine qd rfl ?_
       refine qd rfl ?_
       refine qd rfl ?_
       refine z0a (z1a _ rfl rfl (.inr (.inr ⟨rfl,rfl⟩))) ?_
       refine z0a (z1a _ rfl rfl (.inr (.inl ⟨rfl,rfl⟩))) ?_
       obtain ⟨x36,h37,H⟩:=bnd H
       refine z0a (x1l tyU9 rfl rfl h37) ?_
       obtain ⟨h38,H⟩:=gif H
       refine z0a (x2w (show tyA Tryz.prog 171=some (65,5,.int .u8) from by kernel_rfl) rfl rfl h38) ?_
       obtain ⟨h39,H⟩:=gif H
       refine z0k (y7h (l:=l32) tyS5 rfl rfl h39) rfl ?_
       refine z0b hN rfl ?_
       refine qd rfl ?_
       refine qe rfl ?_
       exact ⟨_,z9s H,⟨rfl,rfl,rfl,rfl,rfl,rfl,rfl,rfl,rfl,trivial⟩,⟨rfl,trivial⟩⟩
      ·replace H:=iff_ h34 H
       refine z14 ?_
       replace H:=outl H hq33
       exact ⟨(v30,v31,l32),H,⟨rfl,rfl,rfl,rfl,rfl,rfl,rfl,rfl,trivial⟩,⟨rfl,trivial⟩⟩
     ·rintro ⟨v40,v41,l42⟩ H
      replace H:z6a v4 v5 v40 v41 l42=some r:=H
      unfold z6a at H
      refine z0c ?_
      refine z0b hN rfl ?_
      refine qd rfl ?_
      refine z0a (z1a _ rfl rfl (.inr (.inl ⟨rfl,rfl⟩))) ?_
      refine qe rfl ?_
      refine z0b hN rfl ?_
      refine qd rfl ?_
      refine qd rfl ?_
      obtain ⟨x43,h44,H⟩:=bnd H
      refine z0a (x1l tyU9 rfl rfl h44) ?_
      obtain ⟨h45,H⟩:=gif H
      refine z0a (x2w (show tyA Tryz.prog 171=some (65,5,.int .u8) from by kernel_rfl) rfl rfl h45) ?_
      obtain ⟨h46,H⟩:=gif H
      refine z0k (y7h (l:=l42) tyS5 rfl rfl h46) rfl ?_
      exact ⟨(wr (v41 - 1),(l42.set (wr (v41 - 1)).toNat (x43.toNat:Int))),H,⟨rfl,rfl,rfl,rfl,rfl,rfl,rfl,trivial⟩,⟨rfl,trivial⟩⟩
   ·rintro ⟨v47,l48⟩ H
    replace H:z2x v4 v5 v47 l48=some r:=H
    unfold z2x at H
    refine z0z (ι:=Int×(List Int)) (fun i=>[(0,.dat (vlst (List.map z4z v1))),(4,.dat (z01 v5)),(10,.dat (vnil)),(11,.dat (vstr [])),(12,.ptr 1 0),(13,.dat (vint i.1))]) (fun i=>[(1,.box none 171 (List.map Slot.dat (bxU i.2)))]) (fun i=>z2v v5 i.1 i.2=some r) (fun i=>y63 rfl (y5t y9v y64)) ?_ ?_
    ·skip
     refine z0c ?_
     refine z0b hN rfl ?_
     refine qd rfl ?_
     refine z0j _ rfl (fun h49 => ?_) (fun h49 => ?_)
     ·replace H:=ift h49 H
      refine z0c ?_
      refine z0b hN rfl ?_
      refine qd rfl ?_
      refine z0a (z1a _ rfl rfl (.inr (.inl ⟨rfl,rfl⟩))) ?_
      refine qe rfl ?_
      refine z0b hN rfl ?_
      refine qd rfl ?_
      obtain ⟨h50,H⟩:=gif H
      refine z0a (x2w (show tyA Tryz.prog 171=some (65,5,.int .u8) from by kernel_rfl) rfl rfl h50) ?_
      obtain ⟨h51,H⟩:=gif H
      refine z0k (y7h (l:=l48) tyS5 rfl rfl h51) rfl ?_
      exact ⟨(wr (v47 - 1),(l48.set (wr (v47 - 1)).toNat 45)),H,⟨rfl,rfl,rfl,rfl,rfl,rfl,trivial⟩,⟨rfl,trivial⟩⟩
     ·replace H:=iff_ h49 H
      refine z0l ?_
      exact ⟨(v47,l48),H,⟨rfl,rfl,rfl,rfl,rfl,rfl,trivial⟩,⟨rfl,trivial⟩⟩
    ·rintro ⟨v52,l53⟩ H
     replace H:z2v v5 v52 l53=some r:=H
     unfold z2v at H
     refine z0c ?_
     refine z0c ?_
     refine z0b hN rfl ?_
     refine qd rfl ?_
     refine z0j _ rfl (fun h54 => ?_) (fun h54 => ?_)
     ·replace H:=ift h54 H
      cases H
     ·replace H:=iff_ h54 H
      refine z0l ?_
      refine z0c ?_
      refine y37 1 (bxU l53) rfl rfl ?_
      refine z0b hN rfl ?_
      refine qd rfl ?_
      obtain ⟨h55,H⟩:=gif H
      obtain ⟨h56,H⟩:=gif H
      refine z0a (w00 (C:=z4z) (show tyA Tryz.prog 171=some (65,5,.int .u8) from by kernel_rfl) rfl h55 rfl h56 (fun _=>rfl)) ?_
      refine z0a (y49 (C:=z4z) x0k tyU5 tyU9 (fun _=>rfl) rfl) ?_
      refine qe rfl ?_
      refine z0m ?_
      cases H
      exact ⟨trivial,.inr ⟨rfl,rfl⟩,.inl rfl,trivial⟩
theorem y3r (i1:Int) (base2:Int) (r:(Bs)) (H:z6l i1 base2=some r):Fn Tryz.prog 104 [vval (.int .u64 i1),vint base2] (z1s [vstr r]):=by
 refine ⟨by kernel_rfl,z1g (us:=[vstr r]) Tryz.func104 rfl rfl rfl rfl fun X hN => ?_⟩
 unfold z6l at H
 refine z0c ?_
 refine z0b hN rfl ?_
 refine qe rfl ?_
 refine z0c ?_
 refine z0c ?_
 refine z0b hN rfl ?_
 refine qd rfl ?_
 refine z0a (z2a rfl rfl) ?_
 refine z0j _ rfl (fun h3 => ?_) (fun h3 => ?_)
 ·replace H:=ift h3 H
  refine z0c ?_
  refine z0c ?_
  refine z0b hN rfl ?_
  refine qd rfl ?_
  refine z0a (z04 rfl rfl) ?_
  refine z0j _ rfl (fun h4 => ?_) (fun h4 => ?_)
  ·replace H:=ift h4 H
   refine z0c ?_
   refine z0b hN rfl ?_
   refine qd rfl ?_
   refine z0a (z6k y8l tyU3 rfl) ?_
   obtain ⟨r5,h6,H⟩:=bnd H
   refine z0a (z0o (y2j (IntKind.wrap .i64 i1) r5 h6) ⟨.inl rfl,trivial⟩) ?_
   refine qe rfl ?_
   refine z0m ?_
   cases H
   exact ⟨trivial,.inl rfl,trivial⟩
  ·replace H:=iff_ h4 H
   cases H
 ·replace H:=iff_ h3 H
  refine z0l ?_
  refine z0c ?_
  refine z0b hN rfl ?_
  refine qd rfl ?_
  refine qd rfl ?_
  obtain ⟨r7,h8,H⟩:=bnd H
  refine z0a (z0o (y02 ([]:(List Int)) i1 base2 false false r7 h8) ⟨.inr ⟨rfl,rfl⟩,.inl rfl,.inl rfl,.inl rfl,.inl rfl,trivial⟩) ?_
  refine qd rfl ?_
  refine z0a (z1q rfl rfl) ?_
  refine z0a (z1q rfl rfl) ?_
  refine qe rfl ?_
  refine qe rfl ?_
  refine z0c ?_
  refine z0b hN rfl ?_
  refine qd rfl ?_
  refine qe rfl ?_
  refine z0m ?_
  cases H
  exact ⟨trivial,.inl rfl,trivial⟩
theorem y3z (i1:Int) (base2:Int) (r:(Bs)) (H:z7l i1 base2=some r):Fn Tryz.prog 65 [vval (.int .u64 i1),vint base2] (z1s [vstr r]):=by
 refine ⟨by kernel_rfl,z1g (us:=[vstr r]) Tryz.func65 rfl rfl rfl rfl fun X hN => ?_⟩
 unfold z7l at H
 refine z0c ?_
 refine z0b hN rfl ?_
 refine qe rfl ?_
 refine z0c ?_
 refine z0b hN rfl ?_
 refine qd rfl ?_
 refine qd rfl ?_
 obtain ⟨r3,h4,H⟩:=bnd H
 refine z0a (z0o (y3r i1 base2 r3 h4) ⟨.inl rfl,.inl rfl,trivial⟩) ?_
 refine qe rfl ?_
 refine z0m ?_
 cases H
 exact ⟨trivial,.inl rfl,trivial⟩
theorem y92 (secret1:Bs) (text2:Bs) (r:(Bs)) (H:y1n secret1 text2=some r):Fn Tryz.prog 29 [vstr secret1,vstr text2] (z1s [vstr r]):=by
 refine ⟨by kernel_rfl,z1g (us:=[vstr r]) Tryz.func29 rfl rfl rfl rfl fun X hN => ?_⟩
 unfold y1n at H
 refine z0c ?_
 refine z0b hN rfl ?_
 refine qe rfl ?_
 refine z0c ?_
 refine z0b hN rfl ?_
 refine qe rfl ?_
 refine z0c ?_
 refine z0c ?_
 refine z0b hN rfl ?_
 refine qd rfl ?_
 refine qd rfl ?_
 refine qd rfl ?_
 refine z0a (z09 (u':=vlst (List.map z0n [secret1,[0],text2,[0],secret1])) (z2g [[_],[_],[_],[_],[_]] z8w ⟨rfl,.inl ⟨_,rfl,rfl,rfl⟩,rfl,rfl,.inl ⟨_,rfl,rfl,rfl⟩,rfl,rfl,.inl ⟨_,rfl,rfl,rfl⟩,rfl,rfl,.inl ⟨_,rfl,rfl,rfl⟩,rfl,rfl,.inl ⟨_,rfl,rfl,rfl⟩,rfl,trivial⟩ rfl rfl) rfl) ?_
 refine z0a (z8d z9v rfl) ?_
 refine qd rfl ?_
 refine z0u ?_
 obtain ⟨h6,H⟩:=gif H
 refine z6c (fun (k4:Nat) (s:Int)=>[(5,.dat (vval (.int .u64 s))),(13,.dat (vlst (List.map z0n ([secret1,[0],text2,[0],secret1])))),(14,.dat (vint (([secret1,[0],text2,[0],secret1]).length:Int))),(15,.dat (vint (k4:Int)))]) (fun (k4:Nat) (s:Int)=>[]) 14695981039346656037 H ⟨rfl,rfl,rfl,rfl,trivial⟩ trivial (fun _ _=>rfl) ?_ ?_
 ·rintro h3 H
  replace H:y0r h3=some r:=H
  unfold y0r at H
  refine z0c ?_
  refine z0b hN rfl ?_
  refine z0a (z04 rfl rfl) ?_
  refine z0c ?_
  refine z0j _ rfl (fun h=>(lt_t h).elim) (fun h => ?_)
  refine z14 ?_
  refine z0c ?_
  refine z0c ?_
  refine z0b hN rfl ?_
  refine qd rfl ?_
  refine z0u ?_
  obtain ⟨h11,H⟩:=gif H
  refine y54 (fun (k9:Nat) (s:Int)=>[(5,.dat (vval (.int .u64 s))),(33,.dat (vint (k9:Int)))]) (fun (k9:Nat) (s:Int)=>[]) h3 H ⟨rfl,rfl,trivial⟩ trivial (fun _ _=>rfl) ?_ ?_
  ·rintro h8 H
   replace H:y4t h8=some r:=H
   unfold y4t at H
   refine z0c ?_
   refine z0b hN rfl ?_
   refine z0a (z04 rfl rfl) ?_
   refine z0c ?_
   refine z0j _ rfl (fun h=>(lt_t h).elim) (fun h => ?_)
   refine z14 ?_
   refine z0c ?_
   refine z0b hN rfl ?_
   refine qd rfl ?_
   obtain ⟨r12,h13,H⟩:=bnd H
   refine z0a (z0o (y3z h8 16 r12 h13) ⟨.inl rfl,.inl rfl,trivial⟩) ?_
   refine qe rfl ?_
   refine z0c ?_
   refine z0b hN rfl ?_
   refine qd rfl ?_
   refine z0a (z1j tyU9 rfl) ?_
   refine z0a (z1a _ rfl rfl (.inr (.inl ⟨rfl,rfl⟩))) ?_
   obtain ⟨r14,h15,H⟩:=bnd H
   refine z0a (z0o (y2e [48] (wr (16 - (r12.length:Int))) r14 h15) ⟨.inl rfl,.inl rfl,trivial⟩) ?_
   refine qd rfl ?_
   obtain ⟨h16,H⟩:=gif H
   refine z0a (z1h rfl rfl (Nat.le_trans h16 (by decide))) ?_
   refine qe rfl ?_
   refine z0m ?_
   cases H
   exact ⟨trivial,.inl rfl,trivial⟩
  ·rintro k9 h8 q10 h17 H hq10
   replace H:y4s k9 h8=some q10:=H
   unfold y4s at H
   refine z0c ?_
   refine z0b hN rfl ?_
   refine z0a (z04 rfl rfl) ?_
   refine z0c ?_
   refine z0j _ rfl (fun h => ?_) (fun h=>(lt_f h17 h).elim)
   refine z0l ?_
   refine z0c ?_
   refine z0u ?_
   refine z0b hN rfl ?_
   refine qd rfl ?_
   refine qd rfl ?_
   refine z0a (z09 (y9j rfl rfl (by decide)) rfl) ?_
   refine z0a (z09 (x1n rfl rfl) rfl) ?_
   refine z0a (z1a _ rfl rfl (.inr (.inr ⟨rfl,rfl⟩))) ?_
   refine qe rfl ?_
   refine z0b hN rfl ?_
   refine z0a (z5w rfl rfl (by omega)) ?_
   refine qd rfl ?_
   exact ⟨_,z9s H,⟨rfl,rfl,trivial⟩,trivial⟩
 ·rintro k4 x7 h3 q5 h18 h19 H hq5
  replace H:y1i k4 x7 h3=some q5:=H
  unfold y1i at H
  refine z0c ?_
  refine z0b hN rfl ?_
  refine z0a (z04 rfl rfl) ?_
  refine z0c ?_
  refine z0j _ rfl (fun h => ?_) (fun h=>(lt_f h18 h).elim)
  refine z0l ?_
  refine z0c ?_
  refine z0u ?_
  refine z0c ?_
  refine z0b hN rfl ?_
  refine z0a (y00 z88 (fun _=>rfl) rfl rfl h19) ?_
  refine z0a (z0w tyS9 rfl (z3m h19) rfl) ?_
  refine qe rfl ?_
  refine z0c ?_
  refine z0b hN rfl ?_
  refine qd rfl ?_
  refine z0a (z1j tyU9 rfl) ?_
  refine qd rfl ?_
  refine z0u ?_
  obtain ⟨h23,H⟩:=gif H
  refine z6c (fun (k21:Nat) (s:Int)=>[(5,.dat (vval (.int .u64 s))),(7,.dat (vstr x7)),(13,.dat (vlst (List.map z0n ([secret1,[0],text2,[0],secret1])))),(14,.dat (vint (([secret1,[0],text2,[0],secret1]).length:Int))),(15,.dat (vint (k4:Int))),(20,.dat (vint (x7.length:Int))),(21,.dat (vint (k21:Int)))]) (fun (k21:Nat) (s:Int)=>[]) h3 H ⟨rfl,rfl,rfl,rfl,rfl,rfl,rfl,trivial⟩ trivial (fun _ _=>rfl) ?_ ?_
  ·rintro h20 H
   replace H:y59 h20=some q5:=H
   unfold y59 at H
   refine z0c ?_
   refine z0b hN rfl ?_
   refine z0a (z04 rfl rfl) ?_
   refine z0c ?_
   refine z0j _ rfl (fun h=>(lt_t h).elim) (fun h => ?_)
   refine z14 ?_
   refine z0b hN rfl ?_
   refine z0a (z5w rfl rfl (by omega)) ?_
   refine qd rfl ?_
   exact ⟨_,z9s H,⟨rfl,rfl,rfl,rfl,trivial⟩,trivial⟩
  ·rintro k21 x24 h20 q22 h25 h26 H hq22
   replace H:y4r k21 x24 h20=some q22:=H
   unfold y4r at H
   refine z0c ?_
   refine z0b hN rfl ?_
   refine z0a (z04 rfl rfl) ?_
   refine z0c ?_
   refine z0j _ rfl (fun h => ?_) (fun h=>(lt_f h25 h).elim)
   refine z0l ?_
   refine z0c ?_
   refine z0u ?_
   refine z0c ?_
   refine z0b hN rfl ?_
   refine qd rfl ?_
   refine qe rfl ?_
   refine z0b hN rfl ?_
   refine qd rfl ?_
   refine qd rfl ?_
   refine qd rfl ?_
   refine z0a (z9h tyU9 rfl rfl h26) ?_
   refine z0a (z6k tyU5 y8l rfl) ?_
   refine z0a (z09 (x1n rfl rfl) rfl) ?_
   refine z0a (z1a _ rfl rfl (.inr (.inr ⟨rfl,rfl⟩))) ?_
   refine qe rfl ?_
   refine z0b hN rfl ?_
   refine z0a (z5w rfl rfl (by omega)) ?_
   refine qd rfl ?_
   exact ⟨_,z9s H,⟨rfl,rfl,rfl,rfl,rfl,rfl,rfl,trivial⟩,trivial⟩
theorem x1z (l1:(List z0g)) (c2:z0e) (v3:Int) (r:(Bs×Int)) (H:y2t l1 c2 v3=some r):Fn Tryz.prog 7 [vlst (List.map z00 l1),vagg (z0t c2),vint v3] (z1s [vstr r.1,vint r.2]):=by
 refine ⟨by kernel_rfl,z1g (us:=[vstr r.1,vint r.2]) Tryz.func7 rfl rfl rfl rfl fun X hN => ?_⟩
 unfold y2t at H
 refine z0c ?_
 refine z0b hN rfl ?_
 refine z0k (y0e 1 rfl) rfl ?_
 refine qe rfl ?_
 refine qe rfl ?_
 refine z0c ?_
 refine z0c ?_
 refine z0b hN rfl ?_
 refine qd rfl ?_
 obtain ⟨r4,h5,H⟩:=bnd H
 refine z0a (z0o (y3x l1 r4 h5) ⟨.inl rfl,trivial⟩) ?_
 refine qe rfl ?_
 refine z0c ?_
 refine z0b hN rfl ?_
 refine qd rfl ?_
 refine z0a (z68 rfl rfl) ?_
 refine z0j _ rfl (fun h6 => ?_) (fun h6 => ?_)
 ·replace H:=ift h6 H
  refine z0c ?_
  refine z0b hN rfl ?_
  refine qd rfl ?_
  refine qe rfl ?_
  refine qe rfl ?_
  refine z0m ?_
  cases H
  exact ⟨trivial,.inl rfl,.inl rfl,trivial⟩
 ·replace H:=iff_ h6 H
  refine z0l ?_
  refine z0c ?_
  refine z0b hN rfl ?_
  refine z0y (z5v z4c rfl rfl rfl) rfl ?_
  obtain ⟨r7,h8,H⟩:=bnd H
  refine z0a (z0o (y7r (z0e.mk c2.Id c2.Subject c2.Issuer c2.Parent c2.Audience c2.Scopes c2.From c2.To) r7 h8) ⟨.inl rfl,trivial⟩) ?_
  refine qd rfl ?_
  refine z0a (z1q rfl rfl) ?_
  refine z0a (z1q rfl rfl) ?_
  refine qe rfl ?_
  refine qe rfl ?_
  refine z0c ?_
  refine z0c ?_
  refine z0b hN rfl ?_
  refine qd rfl ?_
  refine z0a (z68 rfl rfl) ?_
  refine z0j _ rfl (fun h9 => ?_) (fun h9 => ?_)
  ·replace H:=ift h9 H
   refine z0c ?_
   refine z0b hN rfl ?_
   refine qd rfl ?_
   refine qe rfl ?_
   refine qe rfl ?_
   refine z0m ?_
   cases H
   exact ⟨trivial,.inl rfl,.inl rfl,trivial⟩
  ·replace H:=iff_ h9 H
   refine z0l ?_
   refine z0c ?_
   refine z0c ?_
   refine z0b hN rfl ?_
   refine qd rfl ?_
   obtain ⟨r10,h11,H⟩:=bnd H
   refine z0a (z0o (y4g v3 r10 h11) ⟨.inl rfl,trivial⟩) ?_
   refine qe rfl ?_
   refine z0c ?_
   refine z0b hN rfl ?_
   refine qd rfl ?_
   refine z0a (z68 rfl rfl) ?_
   refine z0j _ rfl (fun h12 => ?_) (fun h12 => ?_)
   ·replace H:=ift h12 H
    refine z0c ?_
    refine z0b hN rfl ?_
    refine qd rfl ?_
    refine qe rfl ?_
    refine qe rfl ?_
    refine z0m ?_
    cases H
    exact ⟨trivial,.inl rfl,.inl rfl,trivial⟩
   ·replace H:=iff_ h12 H
    refine z0l ?_
    refine z0c ?_
    refine z0b hN rfl ?_
    refine qd rfl ?_
    refine qd rfl ?_
    obtain ⟨r13,h14,H⟩:=bnd H
    refine z0a (z0o (y8r l1 v3 r13 h14) ⟨.inl rfl,.inl rfl,trivial⟩) ?_
    refine qd rfl ?_
    refine z0a (z1q rfl rfl) ?_
    refine z0a (z1q rfl rfl) ?_
    refine z0k (z3c 2 y8k rfl) rfl ?_
    refine z0k (z1f y4o rfl rfl rfl rfl) rfl ?_
    refine qe rfl ?_
    refine z0c ?_
    refine z0c ?_
    refine z0b hN rfl ?_
    refine qd rfl ?_
    refine z0a (z3t rfl) ?_
    refine z0j _ rfl (fun h15 => ?_) (fun h15 => ?_)
    ·replace H:=ift h15 H
     refine z0c ?_
     refine z0b hN rfl ?_
     refine qe rfl ?_
     refine qe rfl ?_
     refine z0m ?_
     cases H
     exact ⟨trivial,.inl rfl,.inl rfl,trivial⟩
    ·replace H:=iff_ h15 H
     refine z0l ?_
     refine z0c ?_
     refine z0c ?_
     refine z0b hN rfl ?_
     refine z0a (z0r y2m rfl) ?_
     refine z0y (z0s tyS3 rfl rfl) rfl ?_
     refine z0a (z0r y5k rfl) ?_
     refine z0y (z0s tyS3 rfl rfl) rfl ?_
     refine z0a (z29 rfl rfl) ?_
     refine z0j _ rfl (fun h16 => ?_) (fun h16 => ?_)
     ·replace H:=ift h16 H
      refine z0c ?_
      refine z0b hN rfl ?_
      refine qe rfl ?_
      refine qe rfl ?_
      refine z0m ?_
      cases H
      exact ⟨trivial,.inl rfl,.inl rfl,trivial⟩
     ·replace H:=iff_ h16 H
      refine z0l ?_
      refine z0c ?_
      refine z5o mixed hN rfl rfl ?_
      refine z0a (z0r y4c rfl) ?_
      refine z0y (z0s tyS9 rfl rfl) rfl ?_
      obtain ⟨h17,H⟩:=gif H
      refine z0a (z1h rfl rfl (Nat.le_trans h17 (by decide))) ?_
      refine qd rfl ?_
      obtain ⟨r18,h19,H⟩:=bnd H
      refine z0a (z0o (y43 r7.1 r18 h19) ⟨.inl rfl,trivial⟩) ?_
      obtain ⟨h20,H⟩:=gif H
      refine z0a (z1h rfl rfl (Nat.le_trans h20 (by decide))) ?_
      refine qe rfl ?_
      refine ⟨rfl,?_⟩
      refine z0c ?_
      refine z0b hN rfl ?_
      refine qd rfl ?_
      obtain ⟨h21,H⟩:=gif H
      refine z0a (z1h rfl rfl (Nat.le_trans h21 (by decide))) ?_
      refine z0a (z0r y60 rfl) ?_
      refine z0y (z0s tyS9 rfl rfl) rfl ?_
      refine qd rfl ?_
      obtain ⟨r22,h23,H⟩:=bnd H
      refine z0a (z0o (y92 r13.1.Secret ((r13.1.Id++[46])++r18) r22 h23) ⟨.inl rfl,.inl rfl,trivial⟩) ?_
      obtain ⟨h24,H⟩:=gif H
      refine z0a (z1h rfl rfl (Nat.le_trans h24 (by decide))) ?_
      refine qe rfl ?_
      refine qe rfl ?_
      refine z0m ?_
      cases H
      exact ⟨trivial,.inl rfl,.inl rfl,trivial⟩
theorem y5x (n1:Int) (low2:Int) (high3:Int) (r:(Bool)) (H:z94 n1 low2 high3=some r):Fn Tryz.prog 34 [vint n1,vint low2,vint high3] (z1s [z01 r]):=by
 refine ⟨by kernel_rfl,z1g (us:=[z01 r]) Tryz.func34 rfl rfl rfl rfl fun X hN => ?_⟩
 unfold z94 at H
 refine z0c ?_
 refine z0b hN rfl ?_
 refine qe rfl ?_
 refine z0c ?_
 refine z0b hN rfl ?_
 refine qd rfl ?_
 refine qd rfl ?_
 refine z0a (z9i rfl rfl) ?_
 refine qd rfl ?_
 refine z5y rfl rfl (fun hc=>z0h (.dat _) rfl) ?_
 refine z5y rfl rfl (fun hc=>z0h (.dat _) rfl) ?_
 refine z5y rfl rfl (fun hc=>z9i (cnd (c:=(decide (low2≤n1))) hc) (cnd (c:=(decide (low2≤n1))) hc)) ?_
 refine z0a (z11 rfl (fun hb=>(cnd (c:=(decide (low2≤n1))) hb)) rfl) ?_
 refine qe rfl ?_
 refine z0m ?_
 cases H
 exact ⟨trivial,.inl rfl,trivial⟩
theorem y2h (l:Bs) (c r:Int) (H:z6r l c=some r):Fn Tryz.prog 80 [vstr l,vval (.int .u8 c)] (z1s [vint r]):=by
 cases H
 refine y52 (by kernel_rfl) fun M w vs h => ?_
 have h1:=y3w (us:=[.string ⟨l.toArray⟩,.int .u8 c]) h
 subst h1
 refine (Tryz.strings_IndexByte ⟨l.toArray⟩ c w).mono ?_
 rintro e w' ⟨rfl,rfl⟩
 exact ⟨_,rfl,rfl,Kp.refl _ _⟩
theorem y4l (s1:Bs) (some2:Bs) (r:(Bool)) (H:z8f s1 some2=some r):Fn Tryz.prog 66 [vstr s1,vstr some2] (z1s [z01 r]):=by
 refine ⟨by kernel_rfl,z1g (us:=[z01 r]) Tryz.func66 rfl rfl rfl rfl fun X hN => ?_⟩
 unfold z8f at H
 refine z0c ?_
 refine z0b hN rfl ?_
 refine qe rfl ?_
 refine z0c ?_
 refine z0c ?_
 refine z0b hN rfl ?_
 refine qd rfl ?_
 refine z0a (z1j tyU9 rfl) ?_
 refine qd rfl ?_
 refine z0u ?_
 obtain ⟨h5,H⟩:=gif H
 refine z6c (fun (k3:Nat) (s:Unit)=>[(0,.dat (vstr s1)),(1,.dat (vstr some2)),(7,.dat (vint (s1.length:Int))),(8,.dat (vint (k3:Int)))]) (fun (k3:Nat) (s:Unit)=>[]) () H ⟨rfl,rfl,rfl,rfl,trivial⟩ trivial (fun _ _=>rfl) ?_ ?_
 ·rintro ⟨⟩ H
  replace H:y3v=some r:=H
  unfold y3v at H
  refine z0c ?_
  refine z0b hN rfl ?_
  refine z0a (z04 rfl rfl) ?_
  refine z0c ?_
  refine z0j _ rfl (fun h=>(lt_t h).elim) (fun h => ?_)
  refine z14 ?_
  refine z0c ?_
  refine z0b hN rfl ?_
  refine qe rfl ?_
  refine z0m ?_
  cases H
  exact ⟨trivial,.inl rfl,trivial⟩
 ·rintro k3 x6 ⟨⟩ q4 h7 h8 H hq4
  replace H:y2f some2 k3 x6=some q4:=H
  unfold y2f at H
  refine z0c ?_
  refine z0b hN rfl ?_
  refine z0a (z04 rfl rfl) ?_
  refine z0c ?_
  refine z0j _ rfl (fun h => ?_) (fun h=>(lt_f h7 h).elim)
  refine z0l ?_
  refine z0c ?_
  refine z0u ?_
  refine z0c ?_
  refine z0b hN rfl ?_
  refine qd rfl ?_
  refine qe rfl ?_
  refine z0c ?_
  refine z0b hN rfl ?_
  refine qd rfl ?_
  refine qd rfl ?_
  refine qd rfl ?_
  refine z0a (z9h tyU9 rfl rfl h8) ?_
  obtain ⟨r9,h10,H⟩:=bnd H
  refine z0a (z0o (y2h some2 (x6.toNat:Int) r9 h10) ⟨.inl rfl,.inl rfl,trivial⟩) ?_
  refine z0a (z04 rfl rfl) ?_
  refine z0j _ rfl (fun h11 => ?_) (fun h11 => ?_)
  ·replace H:=ift h11 H
   refine z0c ?_
   refine z0b hN rfl ?_
   refine qe rfl ?_
   refine z0m ?_
   replace H:=retl H hq4
   cases H
   exact ⟨trivial,.inl rfl,trivial⟩
  ·replace H:=iff_ h11 H
   refine z0l ?_
   refine z0b hN rfl ?_
   refine z0a (z5w rfl rfl (by omega)) ?_
   refine qd rfl ?_
   exact ⟨_,z9s H,⟨rfl,rfl,rfl,rfl,trivial⟩,trivial⟩
theorem z87 (s1:Bs) (r:(Bool)) (H:z5b s1=some r):Fn Tryz.prog 30 [vstr s1] (z1s [z01 r]):=by
 refine ⟨by kernel_rfl,z1g (us:=[z01 r]) Tryz.func30 rfl rfl rfl rfl fun X hN => ?_⟩
 unfold z5b at H
 refine z0c ?_
 refine z0b hN rfl ?_
 refine qe rfl ?_
 refine z0z (ι:=Bool) (fun i=>[(2,.dat (z01 i))]) (fun i=>[]) (fun i=>z9r i=some r) (fun i=>rfl) ?_ ?_
 ·skip
  refine z0b hN rfl ?_
  refine qd rfl ?_
  refine z0a (z1j tyU9 rfl) ?_
  obtain ⟨r2,h3,H⟩:=bnd H
  refine z0a (z0o (y5x (s1.length:Int) 1 40 r2 h3) ⟨.inl rfl,.inl rfl,.inl rfl,trivial⟩) ?_
  refine qd rfl ?_
  refine z08 (j:=3) rfl rfl (fun h4 => ?_) (fun h4 => ?_) rfl
  ·have h5:=un1 h4
   replace H:=ift h5 H
   refine z0p rfl rfl h4 (z0h (.dat _) rfl) ?_
   obtain ⟨l6,h7,H⟩:=bnd H
   refine z0p rfl rfl h4 (y0h tyU9 rfl rfl rfl h7) ?_
   obtain ⟨r8,h9,H⟩:=bnd H
   refine z0p rfl rfl h4 (z0o (y4l l6 [97,98,99,100,101,102,103,104,105,106,107,108,109,110,111,112,113,114,115,116,117,118,119,120,121,122] r8 h9) ⟨.inl rfl,.inl rfl,trivial⟩) ?_
   refine z0a (z0v rfl (bTT h5) rfl) ?_
   refine qd rfl ?_
   refine z08 (j:=8) rfl rfl (fun h10 => ?_) (fun h10 => ?_) rfl
   ·have h11:=un1 h10
    replace H:=ift h11 H
    refine z0p rfl rfl h10 (z0h (.dat _) rfl) ?_
    obtain ⟨r12,h13,H⟩:=bnd H
    refine z0p rfl rfl h10 (z0o (y4l s1 [97,98,99,100,101,102,103,104,105,106,107,108,109,110,111,112,113,114,115,116,117,118,119,120,121,122,48,49,50,51,52,53,54,55,56,57,45,95] r12 h13) ⟨.inl rfl,.inl rfl,trivial⟩) ?_
    refine z0a (z0v rfl (bTT h11) rfl) ?_
    refine qe rfl ?_
    exact ⟨r12,H,⟨rfl,trivial⟩,trivial⟩
   ·have h14:=un2 h10
    replace H:=iff_ h14 H
    refine z0f rfl rfl h10 ?_
    refine z0f rfl rfl h10 ?_
    refine z0a (z0x rfl (bFF h14) rfl) ?_
    refine qe rfl ?_
    exact ⟨false,H,⟨rfl,trivial⟩,trivial⟩
  ·have h15:=un2 h4
   replace H:=iff_ h15 H
   refine z0f rfl rfl h4 ?_
   refine z0f rfl rfl h4 ?_
   refine z0f rfl rfl h4 ?_
   refine z0a (z0x rfl (bFF h15) rfl) ?_
   refine qd rfl ?_
   refine z0f rfl rfl rfl ?_
   refine z0f rfl rfl rfl ?_
   refine z0a (z0x rfl rfl rfl) ?_
   refine qe rfl ?_
   exact ⟨false,H,⟨rfl,trivial⟩,trivial⟩
 ·rintro v16 H
  replace H:z9r v16=some r:=H
  unfold z9r at H
  refine z0m ?_
  cases H
  exact ⟨trivial,.inl rfl,trivial⟩
theorem y44 (o1:z0g) (c2:z0g) (r:(Bool)) (H:z6i o1 c2=some r):Fn Tryz.prog 32 [vagg (z00 o1),y1e [[vstr c2.Id,vstr c2.Secret,vint c2.From,vint c2.To,vint c2.Until]] 0 0] (z1s [z01 r]):=by
 refine ⟨by kernel_rfl,z1g (us:=[z01 r]) Tryz.func32 rfl rfl rfl rfl fun X hN => ?_⟩
 unfold z6i at H
 refine z0c ?_
 refine z0b hN rfl ?_
 refine z0k (y0e 1 rfl) rfl ?_
 refine qe rfl ?_
 refine z0c ?_
 refine z0b hN rfl ?_
 refine z0a (z0r y4c rfl) ?_
 refine z0y (z0s tyS9 rfl rfl) rfl ?_
 refine z0a (z66 y4c rfl) ?_
 refine z0a (z0w tyS9 rfl rfl rfl) ?_
 refine z0a (z65 rfl rfl) ?_
 refine qe rfl ?_
 refine z0m ?_
 cases H
 exact ⟨trivial,.inl rfl,trivial⟩
theorem y7t (s1:Bs) (low2:Int) (r:(Bool)) (H:z93 s1 low2=some r):Fn Tryz.prog 67 [vstr s1,vval (.int .u8 low2)] (z1s [z01 r]):=by
 refine ⟨by kernel_rfl,z1g (us:=[z01 r]) Tryz.func67 rfl rfl rfl rfl fun X hN => ?_⟩
 unfold z93 at H
 refine z0c ?_
 refine z0b hN rfl ?_
 refine qe rfl ?_
 refine z0c ?_
 refine z0c ?_
 refine z0b hN rfl ?_
 refine qd rfl ?_
 refine z0a (z1j tyU9 rfl) ?_
 refine qd rfl ?_
 refine z0u ?_
 obtain ⟨h5,H⟩:=gif H
 refine z6c (fun (k3:Nat) (s:Unit)=>[(0,.dat (vstr s1)),(1,.dat (vval (.int .u8 low2))),(7,.dat (vint (s1.length:Int))),(8,.dat (vint (k3:Int)))]) (fun (k3:Nat) (s:Unit)=>[]) () H ⟨rfl,rfl,rfl,rfl,trivial⟩ trivial (fun _ _=>rfl) ?_ ?_
 ·rintro ⟨⟩ H
  replace H:y2i=some r:=H
  unfold y2i at H
  refine z0c ?_
  refine z0b hN rfl ?_
  refine z0a (z04 rfl rfl) ?_
  refine z0c ?_
  refine z0j _ rfl (fun h=>(lt_t h).elim) (fun h => ?_)
  refine z14 ?_
  refine z0c ?_
  refine z0b hN rfl ?_
  refine qe rfl ?_
  refine z0m ?_
  cases H
  exact ⟨trivial,.inl rfl,trivial⟩
 ·rintro k3 x6 ⟨⟩ q4 h7 h8 H hq4
  replace H:y0w low2 k3 x6=some q4:=H
  unfold y0w at H
  refine z0c ?_
  refine z0b hN rfl ?_
  refine z0a (z04 rfl rfl) ?_
  refine z0c ?_
  refine z0j _ rfl (fun h => ?_) (fun h=>(lt_f h7 h).elim)
  refine z0l ?_
  refine z0c ?_
  refine z0u ?_
  refine z0c ?_
  refine z0b hN rfl ?_
  refine qd rfl ?_
  refine qe rfl ?_
  refine z0z (ι:=Bool) (fun i=>[(0,.dat (vstr s1)),(1,.dat (vval (.int .u8 low2))),(7,.dat (vint (s1.length:Int))),(8,.dat (vint (k3:Int))),(21,.dat (z01 i))]) (fun i=>[]) (fun i=>z73 i=some q4) (fun i=>rfl) ?_ ?_
  ·skip
   refine z0b hN rfl ?_
   refine qd rfl ?_
   refine qd rfl ?_
   refine z0a (z9h tyU9 rfl rfl h8) ?_
   refine qd rfl ?_
   refine z0a (z04 rfl rfl) ?_
   refine qd rfl ?_
   refine z08 (j:=5) rfl rfl (fun h9 => ?_) (fun h9 => ?_) rfl
   ·have h10:=un3 h9
    replace H:=iff_ h10 H
    refine z0p rfl rfl h9 (z0h (.dat _) rfl) ?_
    refine z0p rfl rfl h9 (z0h (.dat _) rfl) ?_
    refine z0p rfl rfl h9 (z9h tyU9 rfl rfl h8) ?_
    refine z0p rfl rfl h9 (z29 rfl rfl) ?_
    refine z0a (z0x rfl (bFF h10) rfl) ?_
    exact ⟨decide (126 < (x6.toNat:Int)),H,⟨rfl,rfl,rfl,rfl,rfl,trivial⟩,trivial⟩
   ·have h11:=un4 h9
    replace H:=ift h11 H
    refine z0f rfl rfl h9 ?_
    refine z0f rfl rfl h9 ?_
    refine z0f rfl rfl h9 ?_
    refine z0f rfl rfl h9 ?_
    refine z0a (z0v rfl (bTT h11) rfl) ?_
    exact ⟨true,H,⟨rfl,rfl,rfl,rfl,rfl,trivial⟩,trivial⟩
  ·rintro v12 H
   replace H:z73 v12=some q4:=H
   unfold z73 at H
   refine z0j _ rfl (fun h13 => ?_) (fun h13 => ?_)
   ·replace H:=ift h13 H
    refine z0c ?_
    refine z0b hN rfl ?_
    refine qe rfl ?_
    refine z0m ?_
    replace H:=retl H hq4
    cases H
    exact ⟨trivial,.inl rfl,trivial⟩
   ·replace H:=iff_ h13 H
    refine z0l ?_
    refine z0b hN rfl ?_
    refine z0a (z5w rfl rfl (by omega)) ?_
    refine qd rfl ?_
    exact ⟨_,z9s H,⟨rfl,rfl,rfl,rfl,trivial⟩,trivial⟩
theorem y55 (s1:Bs) (r:(Int)) (H:z7u s1=some r):Fn Tryz.prog 33 [vstr s1] (z1s [vint r]):=by
 refine ⟨by kernel_rfl,z1g (us:=[vint r]) Tryz.func33 rfl rfl rfl rfl fun X hN => ?_⟩
 unfold z7u at H
 refine z0c ?_
 refine z0b hN rfl ?_
 refine qe rfl ?_
 refine z0c ?_
 refine z0z (ι:=Bool) (fun i=>[(0,.dat (vstr s1)),(9,.dat (z01 i))]) (fun i=>[]) (fun i=>z4t s1 i=some r) (fun i=>rfl) ?_ ?_
 ·skip
  refine z0b hN rfl ?_
  refine qd rfl ?_
  refine z0a (z65 rfl rfl) ?_
  refine qd rfl ?_
  refine z08 (j:=2) rfl rfl (fun h2 => ?_) (fun h2 => ?_) rfl
  ·have h3:=un3 h2
   replace H:=iff_ h3 H
   refine z0p rfl rfl h2 (z0h (.dat _) rfl) ?_
   obtain ⟨r4,h5,H⟩:=bnd H
   refine z0p rfl rfl h2 (z0o (y7t s1 33 r4 h5) ⟨.inl rfl,.inl rfl,trivial⟩) ?_
   refine z0p rfl rfl h2 (z3t rfl) ?_
   refine z0a (z0x rfl (bFF h3) rfl) ?_
   exact ⟨!r4,H,⟨rfl,rfl,trivial⟩,trivial⟩
  ·have h6:=un4 h2
   replace H:=ift h6 H
   refine z0f rfl rfl h2 ?_
   refine z0f rfl rfl h2 ?_
   refine z0f rfl rfl h2 ?_
   refine z0a (z0v rfl (bTT h6) rfl) ?_
   exact ⟨true,H,⟨rfl,rfl,trivial⟩,trivial⟩
 ·rintro v7 H
  replace H:z4t s1 v7=some r:=H
  unfold z4t at H
  refine z0j _ rfl (fun h8 => ?_) (fun h8 => ?_)
  ·replace H:=ift h8 H
   refine z0c ?_
   refine z0b hN rfl ?_
   refine qe rfl ?_
   refine z0m ?_
   cases H
   exact ⟨trivial,.inl rfl,trivial⟩
  ·replace H:=iff_ h8 H
   refine z0l ?_
   refine z0c ?_
   refine z0c ?_
   refine z0b hN rfl ?_
   refine qd rfl ?_
   refine z0a (z1j tyU9 rfl) ?_
   refine z0a (z29 rfl rfl) ?_
   refine z0j _ rfl (fun h9 => ?_) (fun h9 => ?_)
   ·replace H:=ift h9 H
    refine z0c ?_
    refine z0b hN rfl ?_
    refine qe rfl ?_
    refine z0m ?_
    cases H
    exact ⟨trivial,.inl rfl,trivial⟩
   ·replace H:=iff_ h9 H
    refine z0l ?_
    refine z0c ?_
    refine z0b hN rfl ?_
    refine qe rfl ?_
    refine z0m ?_
    cases H
    exact ⟨trivial,.inl rfl,trivial⟩
theorem y5y (v1:(List z0g)) (r:(Int)) (H:z7c v1=some r):Fn Tryz.prog 8 [vlst (List.map z00 v1)] (z1s [vint r]):=by
 refine ⟨by kernel_rfl,z1g (us:=[vint r]) Tryz.func8 rfl rfl rfl rfl fun X hN => ?_⟩
 unfold z7c at H
 refine z0c ?_
 refine z0b hN rfl ?_
 refine qe rfl ?_
 refine z0c ?_
 refine z0c ?_
 refine z0b hN rfl ?_
 refine qd rfl ?_
 refine z0a (z8d x2t rfl) ?_
 refine z0a (z29 rfl rfl) ?_
 refine z0j _ rfl (fun h2 => ?_) (fun h2 => ?_)
 ·replace H:=ift h2 H
  refine z0c ?_
  refine z0b hN rfl ?_
  refine qe rfl ?_
  refine z0m ?_
  cases H
  exact ⟨trivial,.inl rfl,trivial⟩
 ·replace H:=iff_ h2 H
  refine z0l ?_
  refine z0c ?_
  refine z0c ?_
  refine z0b hN rfl ?_
  refine qd rfl ?_
  refine z0a (z8d x2t rfl) ?_
  refine qd rfl ?_
  refine z0u ?_
  obtain ⟨h5,H⟩:=gif H
  refine z6c (fun (k3:Nat) (s:Unit)=>[(0,.dat (vlst (List.map z00 v1))),(9,.dat (vlst (List.map z00 v1))),(10,.dat (vint (v1.length:Int))),(11,.dat (vint (k3:Int)))]) (fun (k3:Nat) (s:Unit)=>[]) () H ⟨rfl,rfl,rfl,rfl,trivial⟩ trivial (fun _ _=>rfl) ?_ ?_
  ·rintro ⟨⟩ H
   replace H:y0q=some r:=H
   unfold y0q at H
   refine z0c ?_
   refine z0b hN rfl ?_
   refine z0a (z04 rfl rfl) ?_
   refine z0c ?_
   refine z0j _ rfl (fun h=>(lt_t h).elim) (fun h => ?_)
   refine z14 ?_
   refine z0c ?_
   refine z0b hN rfl ?_
   refine qe rfl ?_
   refine z0m ?_
   cases H
   exact ⟨trivial,.inl rfl,trivial⟩
  ·rintro k3 x6 ⟨⟩ q4 h7 h8 H hq4
   replace H:z63 v1 k3 x6=some q4:=H
   unfold z63 at H
   refine z0c ?_
   refine z0b hN rfl ?_
   refine z0a (z04 rfl rfl) ?_
   refine z0c ?_
   refine z0j _ rfl (fun h => ?_) (fun h=>(lt_f h7 h).elim)
   refine z0l ?_
   refine z0c ?_
   refine z0u ?_
   refine z0c ?_
   refine z0b hN rfl ?_
   refine qd rfl ?_
   refine z0a (y00 y61 (fun _=>rfl) rfl rfl h8) ?_
   refine z0a (y6k y4o rfl (z3m h8) rfl) ?_
   refine z0k (z3c 1 y8k rfl) rfl ?_
   refine qe rfl ?_
   refine z0k (z1f y4o rfl rfl rfl rfl) rfl ?_
   refine z0c ?_
   refine z0u ?_
   refine z0c ?_
   refine z0b hN rfl ?_
   refine z0a (z0r y4c rfl) ?_
   refine z0y (z0s tyS9 rfl rfl) rfl ?_
   obtain ⟨r9,h10,H⟩:=bnd H
   refine z0a (z0o (z87 x6.Id r9 h10) ⟨.inl rfl,trivial⟩) ?_
   refine z0a (z3t rfl) ?_
   refine qe rfl ?_
   refine z0j _ rfl (fun h11 => ?_) (fun h11 => ?_)
   ·replace H:=ift h11 H
    refine z0c ?_
    refine z0b hN rfl ?_
    refine qe rfl ?_
    refine z0m ?_
    replace H:=retl H hq4
    cases H
    exact ⟨trivial,.inl rfl,trivial⟩
   ·replace H:=iff_ h11 H
    refine z0c ?_
    refine y37 1 [vstr x6.Id,vstr x6.Secret,vint x6.From,vint x6.To,vint x6.Until] rfl rfl ?_
    refine z0b hN rfl ?_
    refine qd rfl ?_
    refine qd rfl ?_
    obtain ⟨l12,h13,H⟩:=bnd H
    refine z0a (y9g y61 (fun _=>rfl) rfl rfl rfl h13) ?_
    refine z0a (y4u (us:=[_]) ⟨rfl,trivial⟩) ?_
    obtain ⟨r14,h15,H⟩:=bnd H
    refine z0a (z0o (z6o l12 (fun (a0:z0g)=>z6i a0 x6) 32 [y1e [[vstr x6.Id,vstr x6.Secret,vint x6.From,vint x6.To,vint x6.Until]] 0 0] (fun a0 r h=>y44 a0 x6 r h) r14 h15) ⟨.inl rfl,.inl rfl,trivial⟩) ?_
    refine qe rfl ?_
    refine z0j _ rfl (fun h16 => ?_) (fun h16 => ?_)
    ·replace H:=ift h16 H
     refine z0c ?_
     refine z0b hN rfl ?_
     refine qe rfl ?_
     refine z0m ?_
     replace H:=retl H hq4
     cases H
     exact ⟨trivial,.inl rfl,trivial⟩
    ·replace H:=iff_ h16 H
     refine z0l ?_
     refine z0c ?_
     refine z0c ?_
     refine z0b hN rfl ?_
     refine z0a (z66 y60 rfl) ?_
     refine z0a (z0w tyS9 rfl rfl rfl) ?_
     obtain ⟨r17,h18,H⟩:=bnd H
     refine z0a (z0o (y55 x6.Secret r17 h18) ⟨.inl rfl,trivial⟩) ?_
     refine qe rfl ?_
     refine z0c ?_
     refine z0b hN rfl ?_
     refine qd rfl ?_
     refine z0a (z68 rfl rfl) ?_
     refine z0j _ rfl (fun h19 => ?_) (fun h19 => ?_)
     ·replace H:=ift h19 H
      refine z0c ?_
      refine z0b hN rfl ?_
      refine qd rfl ?_
      refine qe rfl ?_
      refine z0m ?_
      replace H:=retl H hq4
      cases H
      exact ⟨trivial,.inl rfl,trivial⟩
     ·replace H:=iff_ h19 H
      refine z0l ?_
      refine z0u ?_
      refine z0c ?_
      refine z0b hN rfl ?_
      refine z0a (z66 y4b rfl) ?_
      refine z0a (z0w tyS3 rfl rfl rfl) ?_
      refine z0a (z66 y5l rfl) ?_
      refine z0a (z0w tyS3 rfl rfl rfl) ?_
      obtain ⟨r20,h21,H⟩:=bnd H
      refine z0a (z0o (y5x x6.From 0 x6.To r20 h21) ⟨.inl rfl,.inl rfl,.inl rfl,trivial⟩) ?_
      refine z0a (z3t rfl) ?_
      refine qd rfl ?_
      refine z2r rfl rfl (fun hc=>z66 y5l rfl) ?_
      refine z2r rfl rfl (fun hc=>z0w tyS3 (cnd (c:=(!(!r20))) hc) rfl rfl) ?_
      refine z2r rfl rfl (fun hc=>z66 y5k rfl) ?_
      refine z2r rfl rfl (fun hc=>z0w tyS3 (cnd (c:=(!(!r20))) hc) rfl rfl) ?_
      refine z2r rfl rfl (fun hc=>z29 (cnd (c:=(!(!r20))) hc) (cnd (c:=(!(!r20))) hc)) ?_
      refine z0a (z3f rfl rfl (fun hb=>(cnd (c:=(!(!r20))) (notI hb)))) ?_
      refine qd rfl ?_
      refine z2r rfl rfl (fun hc=>z66 y5k rfl) ?_
      refine z2r rfl rfl (fun hc=>z0w tyS3 (cnd (c:=(!((!r20) || (decide (x6.Until < x6.To))))) hc) rfl rfl) ?_
      refine z2r rfl rfl (fun hc=>z29 (cnd (c:=(!((!r20) || (decide (x6.Until < x6.To))))) hc) rfl) ?_
      refine z0a (z3f rfl rfl (fun hb=>(cnd (c:=(!((!r20) || (decide (x6.Until < x6.To))))) (notI hb)))) ?_
      refine qe rfl ?_
      refine z0j _ rfl (fun h22 => ?_) (fun h22 => ?_)
      ·replace H:=ift h22 H
       refine z0c ?_
       refine z0b hN rfl ?_
       refine qe rfl ?_
       refine z0m ?_
       replace H:=retl H hq4
       cases H
       exact ⟨trivial,.inl rfl,trivial⟩
      ·replace H:=iff_ h22 H
       refine z0z (ι:=Bool) (fun i=>[(0,.dat (vlst (List.map z00 v1))),(9,.dat (vlst (List.map z00 v1))),(10,.dat (vint (v1.length:Int))),(11,.dat (vint (k3:Int))),(52,.dat (z01 i))]) (fun i=>[]) (fun i=>z2z i=some q4) (fun i=>rfl) ?_ ?_
       ·skip
        refine z5o mixed hN rfl rfl ?_
        refine qd rfl ?_
        refine z0a (z29 rfl rfl) ?_
        refine qd rfl ?_
        refine z08 (j:=2) rfl rfl (fun h23 => ?_) (fun h23 => ?_) rfl
        ·have h24:=un1 h23
         replace H:=ift h24 H
         refine z0p rfl rfl h23 (z66 y4b rfl) ?_
         refine z0p rfl rfl h23 (z0w tyS3 rfl rfl rfl) ?_
         refine z0p rfl rfl h23 (z0h (.dat _) rfl) ?_
         refine z0p rfl rfl h23 (z0h (.dat _) rfl) ?_
         refine z0p rfl rfl h23 (y9i rfl rfl (by omega)) ?_
         obtain ⟨x25,h26,H⟩:=bnd H
         refine z0p rfl rfl h23 (y23 y61 (fun _=>rfl) rfl rfl h26) ?_
         refine z0p rfl rfl h23 (z66 y4b rfl) ?_
         refine z0p rfl rfl h23 (z0w tyS3 rfl (z3m (z7s h26).2) rfl) ?_
         refine z0p rfl rfl h23 (z04 rfl rfl) ?_
         refine z0a (z0v rfl (bTT h24) rfl) ?_
         refine qe rfl ?_
         refine ⟨rfl,?_⟩
         exact ⟨decide (x6.From < x25.From),H,⟨rfl,rfl,rfl,rfl,rfl,trivial⟩,trivial⟩
        ·have h27:=un2 h23
         replace H:=iff_ h27 H
         refine z0f rfl rfl h23 ?_
         refine z0f rfl rfl h23 ?_
         refine z0f rfl rfl h23 ?_
         refine z0f rfl rfl h23 ?_
         refine z0f rfl rfl h23 ?_
         refine z0f rfl rfl h23 ?_
         refine z0f rfl rfl h23 ?_
         refine z0f rfl rfl h23 ?_
         refine z0f rfl rfl h23 ?_
         refine z0a (z0x rfl (bFF h27) rfl) ?_
         refine qe rfl ?_
         refine ⟨rfl,?_⟩
         exact ⟨false,H,⟨rfl,rfl,rfl,rfl,rfl,trivial⟩,trivial⟩
       ·rintro v28 H
        replace H:z2z v28=some q4:=H
        unfold z2z at H
        refine z0j _ rfl (fun h29 => ?_) (fun h29 => ?_)
        ·replace H:=ift h29 H
         refine z0c ?_
         refine z0b hN rfl ?_
         refine qe rfl ?_
         refine z0m ?_
         replace H:=retl H hq4
         cases H
         exact ⟨trivial,.inl rfl,trivial⟩
        ·replace H:=iff_ h29 H
         refine z0l ?_
         refine z0b hN rfl ?_
         refine z0a (z5w rfl rfl (by omega)) ?_
         refine qd rfl ?_
         exact ⟨_,z9s H,⟨rfl,rfl,rfl,rfl,trivial⟩,trivial⟩
theorem y8s (s1:Bs) (r:(Bool)) (H:y01 s1=some r):Fn Tryz.prog 138 [vstr s1] (z1s [z01 r]):=by
 refine ⟨by kernel_rfl,z1g (us:=[z01 r]) Tryz.func138 rfl rfl rfl rfl fun X hN => ?_⟩
 unfold y01 at H
 refine z0c ?_
 refine z0b hN rfl ?_
 refine qe rfl ?_
 refine z0c ?_
 refine z0b hN rfl ?_
 refine qd rfl ?_
 obtain ⟨r2,h3,H⟩:=bnd H
 refine z0a (z0o (z9p s1 [58] r2 h3) ⟨.inl rfl,.inl rfl,trivial⟩) ?_
 refine qe rfl ?_
 refine z0c ?_
 refine z0c ?_
 refine z0b hN rfl ?_
 refine qd rfl ?_
 refine z0a (z8d z9v rfl) ?_
 refine qd rfl ?_
 refine z0u ?_
 obtain ⟨h6,H⟩:=gif H
 refine z6c (fun (k4:Nat) (s:Unit)=>[(3,.dat (vlst (List.map z0n r2))),(8,.dat (vlst (List.map z0n r2))),(9,.dat (vint (r2.length:Int))),(10,.dat (vint (k4:Int)))]) (fun (k4:Nat) (s:Unit)=>[]) () H ⟨rfl,rfl,rfl,rfl,trivial⟩ trivial (fun _ _=>rfl) ?_ ?_
 ·rintro ⟨⟩ H
  replace H:y3e r2=some r:=H
  unfold y3e at H
  refine z0c ?_
  refine z0b hN rfl ?_
  refine z0a (z04 rfl rfl) ?_
  refine z0c ?_
  refine z0j _ rfl (fun h=>(lt_t h).elim) (fun h => ?_)
  refine z14 ?_
  refine z0c ?_
  refine z0b hN rfl ?_
  refine qd rfl ?_
  refine z0a (z8d z9v rfl) ?_
  refine z0a (z9i rfl rfl) ?_
  refine qe rfl ?_
  refine z0m ?_
  cases H
  exact ⟨trivial,.inl rfl,trivial⟩
 ·rintro k4 x7 ⟨⟩ q5 h8 h9 H hq5
  replace H:y1z r2 k4 x7=some q5:=H
  unfold y1z at H
  refine z0c ?_
  refine z0b hN rfl ?_
  refine z0a (z04 rfl rfl) ?_
  refine z0c ?_
  refine z0j _ rfl (fun h => ?_) (fun h=>(lt_f h8 h).elim)
  refine z0l ?_
  refine z0c ?_
  refine z0u ?_
  refine z0c ?_
  refine z0b hN rfl ?_
  refine qd rfl ?_
  refine z0a (y00 z88 (fun _=>rfl) rfl rfl h9) ?_
  refine z0a (z0w tyS9 rfl (z3m h9) rfl) ?_
  refine qe rfl ?_
  refine qe rfl ?_
  refine z0c ?_
  refine z0b hN rfl ?_
  refine qd rfl ?_
  obtain ⟨r10,h11,H⟩:=bnd H
  refine z0a (z0o (z87 x7 r10 h11) ⟨.inl rfl,trivial⟩) ?_
  refine z0a (z3t rfl) ?_
  refine qd rfl ?_
  refine z5y rfl rfl (fun hc=>z0h (.dat _) rfl) ?_
  refine z5y rfl rfl (fun hc=>z8k (cnd (c:=(!r10)) hc) rfl) ?_
  refine z5y rfl rfl (fun hc=>z0h (.dat _) (cnd (c:=(!r10)) hc)) ?_
  refine y7l rfl rfl (fun hc=>z0h (.dat _) rfl) ?_
  refine y7l rfl rfl (fun hc=>z0h (.dat _) rfl) ?_
  refine y7l rfl rfl (fun hc=>z8d z9v (cnd (c:=((!r10) && !(decide (x7≠[42])))) hc)) ?_
  refine y7l rfl rfl (fun hc=>z1a _ (cnd (c:=((!r10) && !(decide (x7≠[42])))) hc) rfl (.inr (.inl ⟨rfl,rfl⟩))) ?_
  refine y7l rfl rfl (fun hc=>z04 (cnd (c:=((!r10) && !(decide (x7≠[42])))) hc) (cnd (c:=((!r10) && !(decide (x7≠[42])))) hc)) ?_
  refine z5y rfl rfl (fun hc=>z3f (cnd (c:=(!r10)) hc) rfl (fun hb=>(cnd (c:=((!r10) && !(decide (x7≠[42])))) (andI hc (notI hb))))) ?_
  refine z0a (z11 rfl (fun hb=>(cnd (c:=(!r10)) hb)) rfl) ?_
  refine z0j _ rfl (fun h12 => ?_) (fun h12 => ?_)
  ·replace H:=ift h12 H
   refine z0c ?_
   refine z0b hN rfl ?_
   refine qe rfl ?_
   refine z0m ?_
   replace H:=retl H hq5
   cases H
   exact ⟨trivial,.inl rfl,trivial⟩
  ·replace H:=iff_ h12 H
   refine z0l ?_
   refine z0b hN rfl ?_
   refine z0a (z5w rfl rfl (by omega)) ?_
   refine qd rfl ?_
   exact ⟨_,z9s H,⟨rfl,rfl,rfl,rfl,trivial⟩,trivial⟩
theorem y56 (l1:(List Bs)) (r:(Int)) (H:z7v l1=some r):Fn Tryz.prog 105 [vlst (List.map z0n l1)] (z1s [vint r]):=by
 refine ⟨by kernel_rfl,z1g (us:=[vint r]) Tryz.func105 rfl rfl rfl rfl fun X hN => ?_⟩
 unfold z7v at H
 refine z0c ?_
 refine z0b hN rfl ?_
 refine qe rfl ?_
 refine z0c ?_
 refine z0c ?_
 refine z0b hN rfl ?_
 refine qd rfl ?_
 refine z0a (z8d z9v rfl) ?_
 refine z0a (z29 rfl rfl) ?_
 refine z0j _ rfl (fun h2 => ?_) (fun h2 => ?_)
 ·replace H:=ift h2 H
  refine z0c ?_
  refine z0b hN rfl ?_
  refine qe rfl ?_
  refine z0m ?_
  cases H
  exact ⟨trivial,.inl rfl,trivial⟩
 ·replace H:=iff_ h2 H
  refine z0l ?_
  refine z0c ?_
  refine z0c ?_
  refine z0b hN rfl ?_
  refine qd rfl ?_
  refine z0a (z8d z9v rfl) ?_
  refine qd rfl ?_
  refine z0u ?_
  obtain ⟨h5,H⟩:=gif H
  refine z6c (fun (k3:Nat) (s:Unit)=>[(8,.dat (vlst (List.map z0n l1))),(9,.dat (vint (l1.length:Int))),(10,.dat (vint (k3:Int)))]) (fun (k3:Nat) (s:Unit)=>[]) () H ⟨rfl,rfl,rfl,trivial⟩ trivial (fun _ _=>rfl) ?_ ?_
  ·rintro ⟨⟩ H
   replace H:y0x=some r:=H
   unfold y0x at H
   refine z0c ?_
   refine z0b hN rfl ?_
   refine z0a (z04 rfl rfl) ?_
   refine z0c ?_
   refine z0j _ rfl (fun h=>(lt_t h).elim) (fun h => ?_)
   refine z14 ?_
   refine z0c ?_
   refine z0b hN rfl ?_
   refine qe rfl ?_
   refine z0m ?_
   cases H
   exact ⟨trivial,.inl rfl,trivial⟩
  ·rintro k3 x6 ⟨⟩ q4 h7 h8 H hq4
   replace H:z83 k3 x6=some q4:=H
   unfold z83 at H
   refine z0c ?_
   refine z0b hN rfl ?_
   refine z0a (z04 rfl rfl) ?_
   refine z0c ?_
   refine z0j _ rfl (fun h => ?_) (fun h=>(lt_f h7 h).elim)
   refine z0l ?_
   refine z0c ?_
   refine z0u ?_
   refine z0c ?_
   refine z0b hN rfl ?_
   refine z0a (y00 z88 (fun _=>rfl) rfl rfl h8) ?_
   refine z0a (z0w tyS9 rfl (z3m h8) rfl) ?_
   refine qe rfl ?_
   refine z0c ?_
   refine z0b hN rfl ?_
   refine qd rfl ?_
   obtain ⟨r9,h10,H⟩:=bnd H
   refine z0a (z0o (y8s x6 r9 h10) ⟨.inl rfl,trivial⟩) ?_
   refine z0a (z3t rfl) ?_
   refine z0j _ rfl (fun h11 => ?_) (fun h11 => ?_)
   ·replace H:=ift h11 H
    refine z0c ?_
    refine z0b hN rfl ?_
    refine qe rfl ?_
    refine z0m ?_
    replace H:=retl H hq4
    cases H
    exact ⟨trivial,.inl rfl,trivial⟩
   ·replace H:=iff_ h11 H
    refine z0l ?_
    refine z0b hN rfl ?_
    refine z0a (z5w rfl rfl (by omega)) ?_
    refine qd rfl ?_
    exact ⟨_,z9s H,⟨rfl,rfl,rfl,trivial⟩,trivial⟩
theorem y24 (v1:z0e) (r:(Int)) (H:z5h v1=some r):Fn Tryz.prog 68 [vagg (z0t v1)] (z1s [vint r]):=by
 refine ⟨by kernel_rfl,z1g (us:=[vint r]) Tryz.func68 rfl rfl rfl rfl fun X hN => ?_⟩
 unfold z5h at H
 refine z0c ?_
 refine z0b hN rfl ?_
 refine z0k (y0e 1 rfl) rfl ?_
 refine qe rfl ?_
 refine z0c ?_
 refine z0u ?_
 refine z0z (ι:=Bool) (fun i=>[(1,.ptr 1 0),(6,.dat (z01 i))]) (fun i=>[(1,.box none 30 [.dat (vstr v1.Id),.dat (vstr v1.Subject),.dat (vstr v1.Issuer),.dat (vstr v1.Parent),.dat (vlst (List.map z0n v1.Audience)),.dat (vlst (List.map z0n v1.Scopes)),.dat (vint v1.From),.dat (vint v1.To)])]) (fun i=>z2f v1 i=some r) (fun i=>rfl) ?_ ?_
 ·skip
  refine z0b hN rfl ?_
  refine z0a (z0r y5o rfl) ?_
  refine z0y (z0s tyS9 rfl rfl) rfl ?_
  obtain ⟨r2,h3,H⟩:=bnd H
  refine z0a (z0o (z87 v1.Id r2 h3) ⟨.inl rfl,trivial⟩) ?_
  refine z0a (z3t rfl) ?_
  refine qd rfl ?_
  refine z08 (j:=4) rfl rfl (fun h4 => ?_) (fun h4 => ?_) rfl
  ·have h5:=un3 h4
   replace H:=iff_ h5 H
   refine z0p rfl rfl h4 (z0r y5n rfl) ?_
   refine y15 rfl rfl h4 (z0s tyS9 rfl rfl) rfl ?_
   obtain ⟨r6,h7,H⟩:=bnd H
   refine z0p rfl rfl h4 (z0o (z87 v1.Subject r6 h7) ⟨.inl rfl,trivial⟩) ?_
   refine z0p rfl rfl h4 (z3t rfl) ?_
   refine z0a (z0x rfl (bFF h5) rfl) ?_
   refine qd rfl ?_
   refine z08 (j:=10) rfl rfl (fun h8 => ?_) (fun h8 => ?_) rfl
   ·have h9:=un3 h8
    replace H:=iff_ h9 H
    refine z0p rfl rfl h8 (z0r y5m rfl) ?_
    refine y15 rfl rfl h8 (z0s tyS9 rfl rfl) rfl ?_
    obtain ⟨r10,h11,H⟩:=bnd H
    refine z0p rfl rfl h8 (z0o (z87 v1.Issuer r10 h11) ⟨.inl rfl,trivial⟩) ?_
    refine z0p rfl rfl h8 (z3t rfl) ?_
    refine z0a (z0x rfl (bFF h9) rfl) ?_
    refine qd rfl ?_
    refine z08 (j:=16) rfl rfl (fun h12 => ?_) (fun h12 => ?_) rfl
    ·have h13:=un3 h12
     replace H:=iff_ h13 H
     refine z0p rfl rfl h12 (z0r y25 rfl) ?_
     refine y15 rfl rfl h12 (z0s tyS9 rfl rfl) rfl ?_
     refine z0p rfl rfl h12 (z8k rfl rfl) ?_
     refine z0p rfl rfl h12 (z0h (.dat _) rfl) ?_
     refine z08 (j:=20) rfl rfl (fun h14 => ?_) (fun h14 => ?_) rfl
     ·have h15:=un1 h14
      replace H:=ift h15 H
      refine z0p rfl rfl h14 (z0r y25 rfl) ?_
      refine y15 rfl rfl h14 (z0s tyS9 rfl rfl) rfl ?_
      obtain ⟨r16,h17,H⟩:=bnd H
      refine z0p rfl rfl h14 (z0o (z87 v1.Parent r16 h17) ⟨.inl rfl,trivial⟩) ?_
      refine z0p rfl rfl h14 (z3t rfl) ?_
      refine z0p rfl rfl h12 (z0v rfl (bTT h15) rfl) ?_
      refine z0a (z0x rfl (bFF h13) rfl) ?_
      refine qe rfl ?_
      exact ⟨!r16,H,⟨rfl,rfl,trivial⟩,⟨rfl,trivial⟩⟩
     ·have h18:=un2 h14
      replace H:=iff_ h18 H
      refine z0f rfl rfl h14 ?_
      refine z0f rfl rfl h14 ?_
      refine z0f rfl rfl h14 ?_
      refine z0f rfl rfl h14 ?_
      refine z0p rfl rfl h12 (z0x rfl (bFF h18) rfl) ?_
      refine z0a (z0x rfl (bFF h13) rfl) ?_
      refine qe rfl ?_
      exact ⟨false,H,⟨rfl,rfl,trivial⟩,⟨rfl,trivial⟩⟩
    ·have h19:=un4 h12
     replace H:=ift h19 H
     refine z0f rfl rfl h12 ?_
     refine z0f rfl rfl h12 ?_
     refine z0f rfl rfl h12 ?_
     refine z0f rfl rfl h12 ?_
     refine z06 rfl rfl ?_
     refine z06 rfl rfl ?_
     refine z06 rfl rfl ?_
     refine z06 rfl rfl ?_
     refine z0f rfl rfl h12 ?_
     refine z0a (z0v rfl (bTT h19) rfl) ?_
     refine qe rfl ?_
     exact ⟨true,H,⟨rfl,rfl,trivial⟩,⟨rfl,trivial⟩⟩
   ·have h20:=un4 h8
    replace H:=ift h20 H
    refine z0f rfl rfl h8 ?_
    refine z0f rfl rfl h8 ?_
    refine z0f rfl rfl h8 ?_
    refine z0f rfl rfl h8 ?_
    refine z0a (z0v rfl (bTT h20) rfl) ?_
    refine qd rfl ?_
    refine z0f rfl rfl rfl ?_
    refine z0f rfl rfl rfl ?_
    refine z0f rfl rfl rfl ?_
    refine z0f rfl rfl rfl ?_
    refine z06 rfl rfl ?_
    refine z06 rfl rfl ?_
    refine z06 rfl rfl ?_
    refine z06 rfl rfl ?_
    refine z0f rfl rfl rfl ?_
    refine z0a (z0v rfl rfl rfl) ?_
    refine qe rfl ?_
    exact ⟨true,H,⟨rfl,rfl,trivial⟩,⟨rfl,trivial⟩⟩
  ·have h21:=un4 h4
   replace H:=ift h21 H
   refine z0f rfl rfl h4 ?_
   refine z0f rfl rfl h4 ?_
   refine z0f rfl rfl h4 ?_
   refine z0f rfl rfl h4 ?_
   refine z0a (z0v rfl (bTT h21) rfl) ?_
   refine qd rfl ?_
   refine z0f rfl rfl rfl ?_
   refine z0f rfl rfl rfl ?_
   refine z0f rfl rfl rfl ?_
   refine z0f rfl rfl rfl ?_
   refine z0a (z0v rfl rfl rfl) ?_
   refine qd rfl ?_
   refine z0f rfl rfl rfl ?_
   refine z0f rfl rfl rfl ?_
   refine z0f rfl rfl rfl ?_
   refine z0f rfl rfl rfl ?_
   refine z06 rfl rfl ?_
   refine z06 rfl rfl ?_
   refine z06 rfl rfl ?_
   refine z06 rfl rfl ?_
   refine z0f rfl rfl rfl ?_
   refine z0a (z0v rfl rfl rfl) ?_
   refine qe rfl ?_
   exact ⟨true,H,⟨rfl,rfl,trivial⟩,⟨rfl,trivial⟩⟩
 ·rintro v22 H
  replace H:z2f v1 v22=some r:=H
  unfold z2f at H
  refine z0j _ rfl (fun h23 => ?_) (fun h23 => ?_)
  ·replace H:=ift h23 H
   refine z0c ?_
   refine z0b hN rfl ?_
   refine qe rfl ?_
   refine z0m ?_
   cases H
   exact ⟨trivial,.inl rfl,trivial⟩
  ·replace H:=iff_ h23 H
   refine z0c ?_
   refine z0b hN rfl ?_
   refine z0a (z0r y2n rfl) ?_
   refine z0y (z0s z7t rfl rfl) rfl ?_
   refine z0a (z8d z9v rfl) ?_
   refine z0a (z29 rfl rfl) ?_
   refine qe rfl ?_
   refine z0j _ rfl (fun h24 => ?_) (fun h24 => ?_)
   ·replace H:=ift h24 H
    refine z0c ?_
    refine z0b hN rfl ?_
    refine qe rfl ?_
    refine z0m ?_
    cases H
    exact ⟨trivial,.inl rfl,trivial⟩
   ·replace H:=iff_ h24 H
    refine z0l ?_
    refine z0c ?_
    refine z0c ?_
    refine z0b hN rfl ?_
    refine z0a (z0r y2n rfl) ?_
    refine z0y (z0s z7t rfl rfl) rfl ?_
    refine z0a (z8d z9v rfl) ?_
    refine qd rfl ?_
    refine z0u ?_
    obtain ⟨h27,H⟩:=gif H
    refine z6c (fun (k25:Nat) (s:Unit)=>[(1,.ptr 1 0),(40,.dat (vlst (List.map z0n v1.Audience))),(41,.dat (vint (v1.Audience.length:Int))),(42,.dat (vint (k25:Int)))]) (fun (k25:Nat) (s:Unit)=>[(1,.box none 30 [.dat (vstr v1.Id),.dat (vstr v1.Subject),.dat (vstr v1.Issuer),.dat (vstr v1.Parent),.dat (vlst (List.map z0n v1.Audience)),.dat (vlst (List.map z0n v1.Scopes)),.dat (vint v1.From),.dat (vint v1.To)])]) () H ⟨rfl,rfl,rfl,rfl,trivial⟩ ⟨rfl,trivial⟩ (fun _ _=>rfl) ?_ ?_
    ·rintro ⟨⟩ H
     replace H:z7h v1=some r:=H
     unfold z7h at H
     refine z0c ?_
     refine z0b hN rfl ?_
     refine z0a (z04 rfl rfl) ?_
     refine z0c ?_
     refine z0j _ rfl (fun h=>(lt_t h).elim) (fun h => ?_)
     refine z14 ?_
     refine z0c ?_
     refine z0c ?_
     refine z0b hN rfl ?_
     refine z0a (z0r y2g rfl) ?_
     refine z0y (z0s z7t rfl rfl) rfl ?_
     obtain ⟨r29,h30,H⟩:=bnd H
     refine z0a (z0o (y56 v1.Scopes r29 h30) ⟨.inl rfl,trivial⟩) ?_
     refine qe rfl ?_
     refine z0c ?_
     refine z0b hN rfl ?_
     refine qd rfl ?_
     refine z0a (z68 rfl rfl) ?_
     refine z0j _ rfl (fun h31 => ?_) (fun h31 => ?_)
     ·replace H:=ift h31 H
      refine z0c ?_
      refine z0b hN rfl ?_
      refine qd rfl ?_
      refine qe rfl ?_
      refine z0m ?_
      cases H
      exact ⟨trivial,.inl rfl,trivial⟩
     ·replace H:=iff_ h31 H
      refine z0l ?_
      refine z0c ?_
      refine z0c ?_
      refine z5o mixed hN rfl rfl ?_
      refine z0a (z0r y2g rfl) ?_
      refine z0y (z0s z7t rfl rfl) rfl ?_
      obtain ⟨r32,h33,H⟩:=bnd H
      refine z0a (z0o (y4x v1.Scopes r32 h33) ⟨.inl rfl,trivial⟩) ?_
      refine z0a (z0r y2g rfl) ?_
      refine z0y (z0s z7t rfl rfl) rfl ?_
      obtain ⟨r34,h35,H⟩:=bnd H
      refine z0a (z0o (z50 r32 v1.Scopes r34 h35) ⟨.inl rfl,.inl rfl,trivial⟩) ?_
      refine z0a (z3t rfl) ?_
      refine ⟨rfl,?_⟩
      refine z0j _ rfl (fun h36 => ?_) (fun h36 => ?_)
      ·replace H:=ift h36 H
       refine z0c ?_
       refine z0b hN rfl ?_
       refine qe rfl ?_
       refine z0m ?_
       cases H
       exact ⟨trivial,.inl rfl,trivial⟩
      ·replace H:=iff_ h36 H
       refine z0l ?_
       refine z0c ?_
       refine z0c ?_
       refine z0b hN rfl ?_
       refine z0a (z0r y3p rfl) ?_
       refine z0y (z0s tyS3 rfl rfl) rfl ?_
       refine z0a (z04 rfl rfl) ?_
       refine qd rfl ?_
       refine z2r rfl rfl (fun hc=>z0r y3p rfl) ?_
       refine y5r rfl rfl (fun hc=>z0s tyS3 (cnd (c:=(!(decide (v1.From < 0)))) hc) rfl) rfl y6z ?_
       refine z2r rfl rfl (fun hc=>z0r y2m rfl) ?_
       refine y5r rfl rfl (fun hc=>z0s tyS3 (cnd (c:=(!(decide (v1.From < 0)))) hc) rfl) rfl y6z ?_
       refine z2r rfl rfl (fun hc=>z9w (cnd (c:=(!(decide (v1.From < 0)))) hc) (cnd (c:=(!(decide (v1.From < 0)))) hc)) ?_
       refine z0a (z3f rfl rfl (fun hb=>(cnd (c:=(!(decide (v1.From < 0)))) (notI hb)))) ?_
       refine qd rfl ?_
       refine z2r rfl rfl (fun hc=>z0r y2m rfl) ?_
       refine y5r rfl rfl (fun hc=>z0s tyS3 (cnd (c:=(!((decide (v1.From < 0)) || (decide (v1.To≤v1.From))))) hc) rfl) rfl y6z ?_
       refine z2r rfl rfl (fun hc=>z29 (cnd (c:=(!((decide (v1.From < 0)) || (decide (v1.To≤v1.From))))) hc) rfl) ?_
       refine z0a (z3f rfl rfl (fun hb=>(cnd (c:=(!((decide (v1.From < 0)) || (decide (v1.To≤v1.From))))) (notI hb)))) ?_
       refine z0j _ rfl (fun h37 => ?_) (fun h37 => ?_)
       ·replace H:=ift h37 H
        refine z0c ?_
        refine z0b hN rfl ?_
        refine qe rfl ?_
        refine z0m ?_
        cases H
        exact ⟨trivial,.inl rfl,trivial⟩
       ·replace H:=iff_ h37 H
        refine z0l ?_
        refine z0c ?_
        refine z0b hN rfl ?_
        refine qe rfl ?_
        refine z0m ?_
        cases H
        exact ⟨trivial,.inl rfl,trivial⟩
    ·rintro k25 x28 ⟨⟩ q26 h38 h39 H hq26
     replace H:z84 v1 k25 x28=some q26:=H
     unfold z84 at H
     refine z0c ?_
     refine z0b hN rfl ?_
     refine z0a (z04 rfl rfl) ?_
     refine z0c ?_
     refine z0j _ rfl (fun h => ?_) (fun h=>(lt_f h38 h).elim)
     refine z0l ?_
     refine z0c ?_
     refine z0u ?_
     refine z0c ?_
     refine z0b hN rfl ?_
     refine qd rfl ?_
     refine z0a (y00 z88 (fun _=>rfl) rfl rfl h39) ?_
     refine z0a (z0w tyS9 rfl (z3m h39) rfl) ?_
     refine qe rfl ?_
     refine qe rfl ?_
     refine z0c ?_
     refine z0c ?_
     refine z0b hN rfl ?_
     refine qd rfl ?_
     obtain ⟨r40,h41,H⟩:=bnd H
     refine z0a (z0o (z87 x28 r40 h41) ⟨.inl rfl,trivial⟩) ?_
     refine z0a (z3t rfl) ?_
     refine z0j _ rfl (fun h42 => ?_) (fun h42 => ?_)
     ·replace H:=ift h42 H
      refine z0c ?_
      refine z0b hN rfl ?_
      refine qe rfl ?_
      refine z0m ?_
      replace H:=retl H hq26
      cases H
      exact ⟨trivial,.inl rfl,trivial⟩
     ·replace H:=iff_ h42 H
      refine z0l ?_
      refine z0z (ι:=Bool) (fun i=>[(1,.ptr 1 0),(40,.dat (vlst (List.map z0n v1.Audience))),(41,.dat (vint (v1.Audience.length:Int))),(42,.dat (vint (k25:Int))),(61,.dat (z01 i))]) (fun i=>[(1,.box none 30 [.dat (vstr v1.Id),.dat (vstr v1.Subject),.dat (vstr v1.Issuer),.dat (vstr v1.Parent),.dat (vlst (List.map z0n v1.Audience)),.dat (vlst (List.map z0n v1.Scopes)),.dat (vint v1.From),.dat (vint v1.To)])]) (fun i=>z4y i=some q26) (fun i=>rfl) ?_ ?_
      ·skip
       refine z0b hN rfl ?_
       refine qd rfl ?_
       refine z0a (z29 rfl rfl) ?_
       refine qd rfl ?_
       refine z08 (j:=2) rfl rfl (fun h43 => ?_) (fun h43 => ?_) rfl
       ·have h44:=un1 h43
        replace H:=ift h44 H
        refine z0p rfl rfl h43 (z0h (.dat _) rfl) ?_
        refine z0p rfl rfl h43 (z0r y2n rfl) ?_
        refine y15 rfl rfl h43 (z0s z7t rfl rfl) rfl ?_
        refine z0p rfl rfl h43 (z0h (.dat _) rfl) ?_
        refine z0p rfl rfl h43 (y9i rfl rfl (by omega)) ?_
        obtain ⟨x45,h46,H⟩:=bnd H
        refine z0p rfl rfl h43 (y23 z88 (fun _=>rfl) rfl rfl h46) ?_
        refine z0p rfl rfl h43 (z0w tyS9 rfl (z3m (z7s h46).2) rfl) ?_
        refine z0p rfl rfl h43 (x5q rfl rfl) ?_
        refine z0a (z0v rfl (bTT h44) rfl) ?_
        exact ⟨(Op.bytesLess x28 x45 || x28 == x45),H,⟨rfl,rfl,rfl,rfl,rfl,trivial⟩,⟨rfl,trivial⟩⟩
       ·have h47:=un2 h43
        replace H:=iff_ h47 H
        refine z0f rfl rfl h43 ?_
        refine z0f rfl rfl h43 ?_
        refine z0f rfl rfl h43 ?_
        refine z0f rfl rfl h43 ?_
        refine z0f rfl rfl h43 ?_
        refine z0f rfl rfl h43 ?_
        refine z0f rfl rfl h43 ?_
        refine z0f rfl rfl h43 ?_
        refine z0a (z0x rfl (bFF h47) rfl) ?_
        exact ⟨false,H,⟨rfl,rfl,rfl,rfl,rfl,trivial⟩,⟨rfl,trivial⟩⟩
      ·rintro v48 H
       replace H:z4y v48=some q26:=H
       unfold z4y at H
       refine z0j _ rfl (fun h49 => ?_) (fun h49 => ?_)
       ·replace H:=ift h49 H
        refine z0c ?_
        refine z0b hN rfl ?_
        refine qe rfl ?_
        refine z0m ?_
        replace H:=retl H hq26
        cases H
        exact ⟨trivial,.inl rfl,trivial⟩
       ·replace H:=iff_ h49 H
        refine z0l ?_
        refine z0b hN rfl ?_
        refine z0a (z5w rfl rfl (by omega)) ?_
        refine qd rfl ?_
        exact ⟨_,z9s H,⟨rfl,rfl,rfl,rfl,trivial⟩,⟨rfl,trivial⟩⟩
theorem y08 (c1:z0e) (r:(Bs)) (H:z5g c1=some r):Fn Tryz.prog 40 [vagg (z0t c1)] (z1s [vstr r]):=by
 refine ⟨by kernel_rfl,z1g (us:=[vstr r]) Tryz.func40 rfl rfl rfl rfl fun X hN => ?_⟩
 unfold z5g at H
 refine z0c ?_
 refine z0b hN rfl ?_
 refine z0k (y0e 1 rfl) rfl ?_
 refine qe rfl ?_
 refine z0c ?_
 refine z0b hN rfl ?_
 refine z0a (z0r y5o rfl) ?_
 refine z0y (z0s tyS9 rfl rfl) rfl ?_
 obtain ⟨h2,H⟩:=gif H
 refine z0a (z1h rfl rfl (Nat.le_trans h2 (by decide))) ?_
 refine z0a (z0r y5n rfl) ?_
 refine z0y (z0s tyS9 rfl rfl) rfl ?_
 obtain ⟨h3,H⟩:=gif H
 refine z0a (z1h rfl rfl (Nat.le_trans h3 (by decide))) ?_
 refine z0a (z0r y5m rfl) ?_
 refine z0y (z0s tyS9 rfl rfl) rfl ?_
 obtain ⟨h4,H⟩:=gif H
 refine z0a (z1h rfl rfl (Nat.le_trans h4 (by decide))) ?_
 refine z0k (w5i (C:=z0n) 2 ([([105,100,32]++c1.Id),([115,117,98,106,101,99,116,32]++c1.Subject),([105,115,115,117,101,114,32]++c1.Issuer)]:(List Bs)) z8w ⟨rfl,.inl ⟨_,rfl,rfl,rfl⟩,rfl,rfl,.inl ⟨_,rfl,rfl,rfl⟩,rfl,rfl,.inl ⟨_,rfl,rfl,rfl⟩,rfl,trivial⟩ rfl rfl rfl) rfl ?_
 refine z0a (z2b (.row _ _) rfl) ?_
 refine z0z (ι:=(List Bs)) (fun i=>[(1,.ptr 1 0),(3,.row 2 i.length)]) (fun i=>[(1,.box none 30 [.dat (vstr c1.Id),.dat (vstr c1.Subject),.dat (vstr c1.Issuer),.dat (vstr c1.Parent),.dat (vlst (List.map z0n c1.Audience)),.dat (vlst (List.map z0n c1.Scopes)),.dat (vint c1.From),.dat (vint c1.To)]),(2,.row 9 1 (List.map z0n i))]) (fun i=>z4x c1 i=some r) (fun i=>rfl) ?_ ?_
 ·skip
  refine z0c ?_
  refine z0b hN rfl ?_
  refine z0a (z0r y25 rfl) ?_
  refine z0y (z0s tyS9 rfl rfl) rfl ?_
  refine z0a (z8k rfl rfl) ?_
  refine z0j _ rfl (fun h5 => ?_) (fun h5 => ?_)
  ·replace H:=ift h5 H
   refine z0b hN rfl ?_
   refine z0a (z0h (.row _ _) rfl) ?_
   refine z0a (z0r y25 rfl) ?_
   refine z0y (z0s tyS9 rfl rfl) rfl ?_
   obtain ⟨h6,H⟩:=gif H
   refine z0a (z1h rfl rfl (Nat.le_trans h6 (by decide))) ?_
   refine z0a (z09 (u':=vlst (List.map z0n [([112,97,114,101,110,116,32]++c1.Parent)])) (z2g [[_]] z8w ⟨rfl,.inl ⟨_,rfl,rfl,rfl⟩,rfl,trivial⟩ rfl rfl) rfl) ?_
   obtain ⟨h7,H⟩:=gif H
   refine z0k (y8m z8w (fun _=>rfl) rfl rfl rfl ⟨by simp,by first | (simp; done) | simpa using h7⟩ rfl) rfl ?_
   refine z0a (z2b (.row _ _) rfl) ?_
   exact ⟨(([([105,100,32]++c1.Id),([115,117,98,106,101,99,116,32]++c1.Subject),([105,115,115,117,101,114,32]++c1.Issuer)]:(List Bs))++([([112,97,114,101,110,116,32]++c1.Parent)])),H,⟨rfl,rfl,trivial⟩,⟨rfl,rfl,trivial⟩⟩
  ·replace H:=iff_ h5 H
   refine z0l ?_
   exact ⟨([([105,100,32]++c1.Id),([115,117,98,106,101,99,116,32]++c1.Subject),([105,115,115,117,101,114,32]++c1.Issuer)]:(List Bs)),H,⟨rfl,rfl,trivial⟩,⟨rfl,rfl,trivial⟩⟩
 ·rintro l8 H
  replace H:z4x c1 l8=some r:=H
  unfold z4x at H
  refine z0z (ι:=(List Bs)) (fun i=>[(1,.ptr 1 0),(3,.row 2 i.length)]) (fun i=>[(1,.box none 30 [.dat (vstr c1.Id),.dat (vstr c1.Subject),.dat (vstr c1.Issuer),.dat (vstr c1.Parent),.dat (vlst (List.map z0n c1.Audience)),.dat (vlst (List.map z0n c1.Scopes)),.dat (vint c1.From),.dat (vint c1.To)]),(2,.row 9 1 (List.map z0n i))]) (fun i=>z4w c1 i=some r) (fun i=>rfl) ?_ ?_
  ·skip
   refine z0c ?_
   refine z0b hN rfl ?_
   refine z0a (z0r y2n rfl) ?_
   refine z0y (z0s z7t rfl rfl) rfl ?_
   refine z0a (z8d z9v rfl) ?_
   refine z0a (z29 rfl rfl) ?_
   refine z0j _ rfl (fun h9 => ?_) (fun h9 => ?_)
   ·replace H:=ift h9 H
    refine z0b hN rfl ?_
    refine z0a (z0h (.row _ _) rfl) ?_
    refine z0a (z0r y2n rfl) ?_
    refine z0y (z0s z7t rfl rfl) rfl ?_
    obtain ⟨r10,h11,H⟩:=bnd H
    refine z0a (z0o (y05 c1.Audience [32] r10 h11) ⟨.inl rfl,.inl rfl,trivial⟩) ?_
    obtain ⟨h12,H⟩:=gif H
    refine z0a (z1h rfl rfl (Nat.le_trans h12 (by decide))) ?_
    refine z0a (z09 (u':=vlst (List.map z0n [([102,111,114,32]++r10)])) (z2g [[_]] z8w ⟨rfl,.inl ⟨_,rfl,rfl,rfl⟩,rfl,trivial⟩ rfl rfl) rfl) ?_
    obtain ⟨h13,H⟩:=gif H
    refine z0k (y8m z8w (fun _=>rfl) rfl rfl rfl ⟨by simp,by first | (simp; done) | simpa using h13⟩ rfl) rfl ?_
    refine z0a (z2b (.row _ _) rfl) ?_
    exact ⟨(l8++([([102,111,114,32]++r10)])),H,⟨rfl,rfl,trivial⟩,⟨rfl,rfl,trivial⟩⟩
   ·replace H:=iff_ h9 H
    refine z0l ?_
    exact ⟨l8,H,⟨rfl,rfl,trivial⟩,⟨rfl,rfl,trivial⟩⟩
  ·rintro l14 H
   replace H:z4w c1 l14=some r:=H
   unfold z4w at H
   refine z0z (ι:=(List Bs)) (fun i=>[(1,.ptr 1 0),(3,.row 2 i.length)]) (fun i=>[(1,.box none 30 [.dat (vstr c1.Id),.dat (vstr c1.Subject),.dat (vstr c1.Issuer),.dat (vstr c1.Parent),.dat (vlst (List.map z0n c1.Audience)),.dat (vlst (List.map z0n c1.Scopes)),.dat (vint c1.From),.dat (vint c1.To)]),(2,.row 9 1 (List.map z0n i))]) (fun i=>z4v c1 i=some r) (fun i=>rfl) ?_ ?_
   ·skip
    refine z0c ?_
    refine z0b hN rfl ?_
    refine z0a (z0r y2g rfl) ?_
    refine z0y (z0s z7t rfl rfl) rfl ?_
    refine z0a (z8d z9v rfl) ?_
    refine z0a (z29 rfl rfl) ?_
    refine z0j _ rfl (fun h15 => ?_) (fun h15 => ?_)
    ·replace H:=ift h15 H
     refine z0b hN rfl ?_
     refine z0a (z0h (.row _ _) rfl) ?_
     refine z0a (z0r y2g rfl) ?_
     refine z0y (z0s z7t rfl rfl) rfl ?_
     obtain ⟨r16,h17,H⟩:=bnd H
     refine z0a (z0o (y05 c1.Scopes [32] r16 h17) ⟨.inl rfl,.inl rfl,trivial⟩) ?_
     obtain ⟨h18,H⟩:=gif H
     refine z0a (z1h rfl rfl (Nat.le_trans h18 (by decide))) ?_
     refine z0a (z09 (u':=vlst (List.map z0n [([109,97,121,32]++r16)])) (z2g [[_]] z8w ⟨rfl,.inl ⟨_,rfl,rfl,rfl⟩,rfl,trivial⟩ rfl rfl) rfl) ?_
     obtain ⟨h19,H⟩:=gif H
     refine z0k (y8m z8w (fun _=>rfl) rfl rfl rfl ⟨by simp,by first | (simp; done) | simpa using h19⟩ rfl) rfl ?_
     refine z0a (z2b (.row _ _) rfl) ?_
     exact ⟨(l14++([([109,97,121,32]++r16)])),H,⟨rfl,rfl,trivial⟩,⟨rfl,rfl,trivial⟩⟩
    ·replace H:=iff_ h15 H
     refine z0l ?_
     exact ⟨l14,H,⟨rfl,rfl,trivial⟩,⟨rfl,rfl,trivial⟩⟩
   ·rintro l20 H
    replace H:z4v c1 l20=some r:=H
    unfold z4v at H
    refine z0c ?_
    refine z5o mixed hN rfl rfl ?_
    refine z0a (z0h (.row _ _) rfl) ?_
    refine z0a (z0r y3p rfl) ?_
    refine z0y (z0s tyS3 rfl rfl) rfl ?_
    obtain ⟨r21,h22,H⟩:=bnd H
    refine z0a (z0o (y19 c1.From r21 h22) ⟨.inl rfl,trivial⟩) ?_
    obtain ⟨h23,H⟩:=gif H
    refine z0a (z1h rfl rfl (Nat.le_trans h23 (by decide))) ?_
    obtain ⟨h24,H⟩:=gif H
    refine z0a (z1h rfl rfl (Nat.le_trans h24 (by decide))) ?_
    refine z0a (z0r y2m rfl) ?_
    refine z0y (z0s tyS3 rfl rfl) rfl ?_
    obtain ⟨r25,h26,H⟩:=bnd H
    refine z0a (z0o (y19 c1.To r25 h26) ⟨.inl rfl,trivial⟩) ?_
    obtain ⟨h27,H⟩:=gif H
    refine z0a (z1h rfl rfl (Nat.le_trans h27 (by decide))) ?_
    refine z0a (z09 (u':=vlst (List.map z0n [((([116,105,109,101,32]++r21)++[32])++r25)])) (z2g [[_]] z8w ⟨rfl,.inl ⟨_,rfl,rfl,rfl⟩,rfl,trivial⟩ rfl rfl) rfl) ?_
    obtain ⟨h28,H⟩:=gif H
    refine z0k (y8m z8w (fun _=>rfl) rfl rfl rfl ⟨by simp,by first | (simp; done) | simpa using h28⟩ rfl) rfl ?_
    refine z0a (z2b (.row _ _) rfl) ?_
    refine ⟨rfl,?_⟩
    refine z0c ?_
    refine y8y 3 2 rfl rfl rfl ?_
    refine z0b hN rfl ?_
    refine qd rfl ?_
    obtain ⟨r29,h30,H⟩:=bnd H
    refine z0a (z0o (y05 (l20++([((([116,105,109,101,32]++r21)++[32])++r25)])) [10] r29 h30) ⟨.inl rfl,.inl rfl,trivial⟩) ?_
    obtain ⟨h31,H⟩:=gif H
    refine z0a (z1h rfl rfl (Nat.le_trans h31 (by decide))) ?_
    refine qe rfl ?_
    refine z0m ?_
    cases H
    exact ⟨trivial,.inl rfl,trivial⟩
theorem y5f (c1:z0e) (r:(Bs×Int)) (H:z5p c1=some r):Fn Tryz.prog 35 [vagg (z0t c1)] (z1s [vstr r.1,vint r.2]):=by
 refine ⟨by kernel_rfl,z1g (us:=[vstr r.1,vint r.2]) Tryz.func35 rfl rfl rfl rfl fun X hN => ?_⟩
 unfold z5p at H
 refine z0c ?_
 refine z0b hN rfl ?_
 refine z0k (y0e 1 rfl) rfl ?_
 refine qe rfl ?_
 refine qe rfl ?_
 refine z0c ?_
 refine z0c ?_
 refine z0b hN rfl ?_
 refine z0y (z5v z4c rfl rfl rfl) rfl ?_
 obtain ⟨r2,h3,H⟩:=bnd H
 refine z0a (z0o (y24 c1 r2 h3) ⟨.inl rfl,trivial⟩) ?_
 refine qe rfl ?_
 refine z0c ?_
 refine z0b hN rfl ?_
 refine qd rfl ?_
 refine z0a (z68 rfl rfl) ?_
 refine z0j _ rfl (fun h4 => ?_) (fun h4 => ?_)
 ·replace H:=ift h4 H
  refine z0c ?_
  refine z0b hN rfl ?_
  refine qd rfl ?_
  refine qe rfl ?_
  refine qe rfl ?_
  refine z0m ?_
  cases H
  exact ⟨trivial,.inl rfl,.inl rfl,trivial⟩
 ·replace H:=iff_ h4 H
  refine z0l ?_
  refine z0c ?_
  refine z0b hN rfl ?_
  refine z0y (z5v z4c rfl rfl rfl) rfl ?_
  obtain ⟨r5,h6,H⟩:=bnd H
  refine z0a (z0o (y08 c1 r5 h6) ⟨.inl rfl,trivial⟩) ?_
  refine qe rfl ?_
  refine z0c ?_
  refine z0c ?_
  refine z0b hN rfl ?_
  refine qd rfl ?_
  refine z0a (z1j tyU9 rfl) ?_
  refine z0a (z29 rfl rfl) ?_
  refine z0j _ rfl (fun h7 => ?_) (fun h7 => ?_)
  ·replace H:=ift h7 H
   refine z0c ?_
   refine z0b hN rfl ?_
   refine qe rfl ?_
   refine qe rfl ?_
   refine z0m ?_
   cases H
   exact ⟨trivial,.inl rfl,.inl rfl,trivial⟩
  ·replace H:=iff_ h7 H
   refine z0l ?_
   refine z0c ?_
   refine z0b hN rfl ?_
   refine qd rfl ?_
   refine qe rfl ?_
   refine qe rfl ?_
   refine z0m ?_
   cases H
   exact ⟨trivial,.inl rfl,.inl rfl,trivial⟩
theorem y5e (v1:Int) (r:(Bool)) (H:y0l v1=some r):Fn Tryz.prog 36 [vint v1] (z1s [z01 r]):=by
 refine ⟨by kernel_rfl,z1g (us:=[z01 r]) Tryz.func36 rfl rfl rfl rfl fun X hN => ?_⟩
 unfold y0l at H
 refine z0c ?_
 refine z0b hN rfl ?_
 refine qe rfl ?_
 refine z0c ?_
 refine z0b hN rfl ?_
 refine qd rfl ?_
 obtain ⟨r2,h3,H⟩:=bnd H
 refine z0a (z0o (y5x v1 0 345686399999 r2 h3) ⟨.inl rfl,.inl rfl,.inl rfl,trivial⟩) ?_
 refine qe rfl ?_
 refine z0m ?_
 cases H
 exact ⟨trivial,.inl rfl,trivial⟩
theorem y7a (l1:(List z0g)) (v2:Int) (r:(z0g×Bool)) (H:z4q l1 v2=some r):Fn Tryz.prog 37 [vlst (List.map z00 l1),vint v2] (z1s [vagg (z00 r.1),z01 r.2]):=by
 refine ⟨by kernel_rfl,x55 (us:=[vagg (z00 r.1),z01 r.2]) Tryz.func37 rfl rfl rfl rfl fun X hN hR => ?_⟩
 unfold z4q at H
 refine x6r hR ?_
 refine z0b hN rfl ?_
 refine z0k (y7k 1 rfl rfl) rfl ?_
 refine z0k (z3c 2 y8k rfl) rfl ?_
 refine z0k (z3c 3 tyZ4 rfl) rfl ?_
 refine x1c hR ?_
 refine z0b hN rfl ?_
 refine qd rfl ?_
 refine z0a (z0o (z7n l1) ⟨.inl rfl,trivial⟩) ?_
 refine ⟨rfl,?_⟩
 obtain ⟨h4,H⟩:=gif H
 refine w2q (s0:=()) hR hN [(3,.ptr 1 0),(4,.ptr 2 0),(5,.ptr 3 0),(9,.dat (vfn 103 [y1e [[vlst (List.map z00 l1)]] 0 0]))] [(1,.box none 3 [.dat (vint v2)]),(2,.box none 47 [.dat (vstr []),.dat (vstr []),.dat (vint 0),.dat (vint 0),.dat (vint 0)]),(3,.box none 4 [.dat (z01 false)])] (fun (s:Unit)=>[(1,.box none 3 [.dat (vint v2)]),(2,.box none 47 [.dat (vstr []),.dat (vstr []),.dat (vint 0),.dat (vint 0),.dat (vint 0)]),(3,.box none 4 [.dat (z01 false)])]) z7f (fun _=>rfl) (enters_of Tryz.func103 (by kernel_rfl) rfl) rfl h4 H ⟨rfl,rfl,rfl,rfl,trivial⟩ ⟨rfl,rfl,rfl,trivial⟩ rfl rfl (fun _=>rfl) (fun _=>rfl) (fun _ _=>rfl) (fun _ _=>rfl) (fun _=>rfl) (fun _=>rfl) (by decide) (by decide) ?_ ?_
 ·rintro A X k5 x6 ⟨⟩ q3 hN h7 h8 H hq3
  replace H:z3v v2 k5 x6=some q3:=H
  unfold z3v at H
  refine z0b hN rfl ?_
  refine z0k (z3c 4 y8k rfl) rfl ?_
  refine z0k (z1f y4o rfl rfl rfl rfl) rfl ?_
  refine ⟨rfl,[(3,.ptr 1 0),(4,.ptr 2 0),(5,.ptr 3 0),(7,.ptr 4 0)],[(1,.box (some (A 1)) 3 [.dat (vint v2)]),(2,.box (some (A 2)) 47 [.dat (vstr []),.dat (vstr []),.dat (vint 0),.dat (vint 0),.dat (vint 0)]),(3,.box (some (A 3)) 4 [.dat (z01 false)]),(4,.box none 47 [.dat (vstr x6.Id),.dat (vstr x6.Secret),.dat (vint x6.From),.dat (vint x6.To),.dat (vint x6.Until)])],⟨rfl,rfl,rfl,rfl,trivial⟩,⟨rfl,rfl,rfl,rfl,trivial⟩,rfl,rfl,rfl,fun X hN => ?_⟩
  refine z0u ?_
  refine z0c ?_
  refine z0b hN rfl ?_
  refine z0a (z0r y4b rfl) ?_
  refine z0y (z0s tyS3 rfl rfl) rfl ?_
  refine z0y (z0s tyS3 rfl rfl) rfl ?_
  refine z0a (z9i rfl rfl) ?_
  refine qd rfl ?_
  refine x1s rfl rfl (fun hc=>z0s tyS3 rfl rfl) rfl y6z ?_
  refine z5y rfl rfl (fun hc=>z0r y5l rfl) ?_
  refine x1s rfl rfl (fun hc=>z0s tyS3 (cnd (c:=(decide (x6.From≤v2))) hc) rfl) rfl y6z ?_
  refine z5y rfl rfl (fun hc=>z04 (cnd (c:=(decide (x6.From≤v2))) hc) (cnd (c:=(decide (x6.From≤v2))) hc)) ?_
  refine z0a (z11 rfl (fun hb=>(cnd (c:=(decide (x6.From≤v2))) hb)) rfl) ?_
  refine z0j _ rfl (fun h9 => ?_) (fun h9 => ?_)
  ·replace H:=ift h9 H
   refine z0c ?_
   refine z0b hN rfl ?_
   refine z0y (z5v y4o rfl rfl rfl) rfl ?_
   refine z0k (z1f y4o rfl rfl rfl rfl) rfl ?_
   refine z0k (z1m tyS4 rfl rfl rfl rfl) rfl ?_
   refine z0m ?_
   replace H:=retl H hq3
   cases H
   exact ⟨[(1,.box none 3 [.dat (vint v2)]),(2,.box none 47 [.dat (vstr x6.Id),.dat (vstr x6.Secret),.dat (vint x6.From),.dat (vint x6.To),.dat (vint x6.Until)]),(3,.box none 4 [.dat (z01 true)])],rfl,rfl,rfl,rfl,⟨rfl,rfl,rfl,trivial⟩,⟨.inl ⟨_,_,_,z00 x6,rfl,rfl,rfl,rfl,y4o⟩,.inr ⟨_,_,rfl,rfl,tyS4⟩,trivial⟩⟩
  ·replace H:=iff_ h9 H
   refine z0l ?_
   exact ⟨_,z9s H,⟨rfl,rfl,rfl,trivial⟩⟩
 ·rintro A X ⟨⟩ hN hR H
  replace H:z8y=some r:=H
  unfold z8y at H
  refine z0c ?_
  refine z0b hN rfl ?_
  refine z0a (z09 (u':=vagg (z00 (z0g.mk [] [] 0 0 0))) (z3z [] y8k w25 rfl trivial) rfl) ?_
  refine z0k (z1f y4o rfl rfl rfl rfl) rfl ?_
  refine z0k (z1m tyS4 rfl rfl rfl rfl) rfl ?_
  refine z0m ?_
  cases H
  exact ⟨.inr rfl,[(4,.ptr 2 0),(5,.ptr 3 0)],[(2,.box (some (A 2)) 47 [.dat (vstr []),.dat (vstr []),.dat (vint 0),.dat (vint 0),.dat (vint 0)]),(3,.box (some (A 3)) 4 [.dat (z01 false)])],⟨rfl,rfl,trivial⟩,⟨rfl,rfl,trivial⟩,rfl,rfl,⟨.inl ⟨_,_,_,z00 (z0g.mk [] [] 0 0 0),rfl,rfl,rfl,rfl,y4o⟩,.inr ⟨_,_,rfl,rfl,tyS4⟩,trivial⟩⟩
theorem z1n (c1:Int) (r:(Int)) (H:z1d c1=some r):Fn Tryz.prog 169 [vval (.int .u8 c1)] (z1s [vval (.int .u8 r)]):=by
 refine ⟨by kernel_rfl,z1g (us:=[vval (.int .u8 r)]) Tryz.func169 rfl rfl rfl rfl fun X hN => ?_⟩
 unfold z1d at H
 refine z0c ?_
 refine z0b hN rfl ?_
 refine qe rfl ?_
 refine z0c ?_
 refine z0b hN rfl ?_
 refine qd rfl ?_
 refine z0a (z09 (x75 rfl rfl) rfl) ?_
 refine qe rfl ?_
 refine z0m ?_
 cases H
 exact ⟨trivial,.inl rfl,trivial⟩
end Go.Proofs.YtkckjgkfljgjpaaGreatDoor
