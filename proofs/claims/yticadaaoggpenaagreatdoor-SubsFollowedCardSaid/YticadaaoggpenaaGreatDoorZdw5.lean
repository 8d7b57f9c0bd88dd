/- Walks along the models. Printed by a program. -/
import Derived.Test.YticadaaoggpenaaGreatDoorZdw4
namespace Go.Proofs.YticadaaoggpenaaGreatDoor
open Go.RowKit
set_option linter.unusedVariables false
set_option maxRecDepth 20000
set_option maxHeartbeats 2000000
theorem y7w (x1:Int) (y2:Int) (r:(Int)) (H:z8d x1 y2=some r):Fn Tryz.prog 138 [vint x1,vint y2] (z1x [vint r]):=by
 refine ⟨by kernel_rfl,z1k (us:=[vint r]) Tryz.func138 rfl rfl rfl rfl fun X hN => ?_⟩
 unfold z8d at H
 refine z0c ?_
 refine z0b hN rfl ?_
 refine qe rfl ?_
 refine z0c ?_
 refine z0b hN rfl ?_
 refine qd rfl ?_
 obtain ⟨r3,h4,H⟩:=bnd H
 refine z0a (z0x (y5y x1 r3 h4) ⟨.inl rfl,trivial⟩) ?_
 refine qe rfl ?_
 refine z0c ?_
 refine z0b hN rfl ?_
 refine qd rfl ?_
 obtain ⟨r5,h6,H⟩:=bnd H
 refine z0a (z0x (y5y y2 r5 h6) ⟨.inl rfl,trivial⟩) ?_
 refine qe rfl ?_
 refine z0c ?_
 refine z0c ?_
 refine z0b hN rfl ?_
 refine qd rfl ?_
 refine z0i _ rfl (fun h7 => ?_) (fun h7 => ?_)
 ·replace H:=ift h7 H
  refine z0c ?_
  refine z0c ?_
  refine z0b hN rfl ?_
  refine qd rfl ?_
  refine z0i _ rfl (fun h8 => ?_) (fun h8 => ?_)
  ·replace H:=ift h8 H
   refine z0c ?_
   refine z0b hN rfl ?_
   refine qe rfl ?_
   refine z0r ?_
   cases H
   exact ⟨trivial,.inl rfl,trivial⟩
  ·replace H:=iff_ h8 H
   refine z0s ?_
   refine z0c ?_
   refine z0b hN rfl ?_
   refine qe rfl ?_
   refine z0r ?_
   cases H
   exact ⟨trivial,.inl rfl,trivial⟩
 ·replace H:=iff_ h7 H
  refine z0s ?_
  refine z0c ?_
  refine z0c ?_
  refine z0b hN rfl ?_
  refine qd rfl ?_
  refine z0i _ rfl (fun h9 => ?_) (fun h9 => ?_)
  ·replace H:=ift h9 H
   refine z0c ?_
   refine z0b hN rfl ?_
   refine qe rfl ?_
   refine z0r ?_
   cases H
   exact ⟨trivial,.inl rfl,trivial⟩
  ·replace H:=iff_ h9 H
   refine z0s ?_
   refine z0c ?_
   refine z0c ?_
   refine z0b hN rfl ?_
   refine qd rfl ?_
   refine qd rfl ?_
   refine z0a (z05 rfl rfl) ?_
   refine z0i _ rfl (fun h10 => ?_) (fun h10 => ?_)
   ·replace H:=ift h10 H
    refine z0c ?_
    refine z0b hN rfl ?_
    refine qe rfl ?_
    refine z0r ?_
    cases H
    exact ⟨trivial,.inl rfl,trivial⟩
   ·replace H:=iff_ h10 H
    refine z0s ?_
    refine z0c ?_
    refine z0c ?_
    refine z0b hN rfl ?_
    refine qd rfl ?_
    refine qd rfl ?_
    refine z0a (z5n rfl rfl) ?_
    refine z0i _ rfl (fun h11 => ?_) (fun h11 => ?_)
    ·replace H:=ift h11 H
     refine z0c ?_
     refine z0b hN rfl ?_
     refine qe rfl ?_
     refine z0r ?_
     cases H
     exact ⟨trivial,.inl rfl,trivial⟩
    ·replace H:=iff_ h11 H
     refine z0s ?_
     refine z0c ?_
     refine z0b hN rfl ?_
     refine qe rfl ?_
     refine z0r ?_
     cases H
     exact ⟨trivial,.inl rfl,trivial⟩
theorem x2t (vals1:(List Int)) (r:(Int)) (H:y10 vals1=some r):Fn Tryz.prog 137 [vlst (List.map z3o vals1)] (z1x [vint r]):=by
 refine ⟨by kernel_rfl,z1k (us:=[vint r]) Tryz.func137 rfl rfl rfl rfl fun X hN => ?_⟩
 unfold y10 at H
 refine z0c ?_
 refine z0b hN rfl ?_
 refine qe rfl ?_
 refine z0c ?_
 refine z0b hN rfl ?_
 refine qe rfl ?_
 refine z0c ?_
 refine z0c ?_
 refine z0b hN rfl ?_
 refine qd rfl ?_
 refine z0a (z43 x3n rfl) ?_
 refine qd rfl ?_
 refine z0y ?_
 obtain ⟨h4,H⟩:=gif H
 refine z3u (fun (k2:Nat) (s:Unit)=>[(3,.dat (vint 0)),(6,.dat (vlst (List.map z3o vals1))),(7,.dat (vint (vals1.length:Int))),(8,.dat (vint (k2:Int)))]) (fun (k2:Nat) (s:Unit)=>[]) () H ⟨rfl,rfl,rfl,rfl,trivial⟩ trivial (fun _ _=>rfl) ?_ ?_
 ·rintro ⟨⟩ H
  replace H:y3g=some r:=H
  unfold y3g at H
  refine z0c ?_
  refine z0b hN rfl ?_
  refine z0a (z05 rfl rfl) ?_
  refine z0c ?_
  refine z0i _ rfl (fun h=>(lt_t h).elim) (fun h => ?_)
  refine z1v ?_
  refine z0c ?_
  refine z0b hN rfl ?_
  refine qd rfl ?_
  refine qe rfl ?_
  refine z0r ?_
  cases H
  exact ⟨trivial,.inl rfl,trivial⟩
 ·rintro k2 x5 ⟨⟩ q3 h6 h7 H hq3
  replace H:y3f k2 x5=some q3:=H
  unfold y3f at H
  refine z0c ?_
  refine z0b hN rfl ?_
  refine z0a (z05 rfl rfl) ?_
  refine z0c ?_
  refine z0i _ rfl (fun h => ?_) (fun h=>(lt_f h6 h).elim)
  refine z0s ?_
  refine z0c ?_
  refine z0y ?_
  refine z0c ?_
  refine z0b hN rfl ?_
  refine z0a (y1g x86 (fun _=>rfl) rfl rfl h7) ?_
  refine z0a (z1q tyS3 rfl (z29 h7) rfl) ?_
  refine qe rfl ?_
  refine z0c ?_
  refine z0b hN rfl ?_
  refine qd rfl ?_
  refine qd rfl ?_
  refine z0a (z6i rfl rfl) ?_
  refine z0i _ rfl (fun h8 => ?_) (fun h8 => ?_)
  ·replace H:=ift h8 H
   refine z0c ?_
   refine z0b hN rfl ?_
   refine qd rfl ?_
   refine qe rfl ?_
   refine z0r ?_
   replace H:=retl H hq3
   cases H
   exact ⟨trivial,.inl rfl,trivial⟩
  ·replace H:=iff_ h8 H
   refine z0s ?_
   refine z0b hN rfl ?_
   refine z0a (z3v rfl rfl (by omega)) ?_
   refine qd rfl ?_
   exact ⟨_,z63 H,⟨rfl,rfl,rfl,rfl,trivial⟩,trivial⟩
theorem y52 (a1:z0e) (b2:z0e) (r:(Int)) (H:z9j a1 b2=some r):Fn Tryz.prog 100 [vagg (z0w a1),vagg (z0w b2)] (z1x [vint r]):=by
 refine ⟨by kernel_rfl,z1k (us:=[vint r]) Tryz.func100 rfl rfl rfl rfl fun X hN => ?_⟩
 unfold z9j at H
 refine z0c ?_
 refine z0b hN rfl ?_
 refine z0f (z2h 1 rfl) rfl ?_
 refine z0f (z2h 2 rfl) rfl ?_
 refine qe rfl ?_
 refine z0c ?_
 refine z3q mixed hN rfl rfl ?_
 refine z0a (z0p y0e rfl) ?_
 refine z0j (z0n tyS3 rfl rfl) rfl ?_
 refine z0a (z0p y0e rfl) ?_
 refine z0j (z0n tyS3 rfl rfl) rfl ?_
 obtain ⟨r3,h4,H⟩:=bnd H
 refine z0a (z0x (y7w a1.At b2.At r3 h4) ⟨.inl rfl,.inl rfl,trivial⟩) ?_
 refine z0a (z0p y2r rfl) ?_
 refine z0j (z0n tyS9 rfl rfl) rfl ?_
 refine z0a (z0p y2r rfl) ?_
 refine z0j (z0n tyS9 rfl rfl) rfl ?_
 obtain ⟨r5,h6,H⟩:=bnd H
 refine z0a (z0x (y0r a1.App b2.App r5 h6) ⟨.inl rfl,.inl rfl,trivial⟩) ?_
 refine z0a (z0p y13 rfl) ?_
 refine z0j (z0n tyS9 rfl rfl) rfl ?_
 refine z0a (z0p y13 rfl) ?_
 refine z0j (z0n tyS9 rfl rfl) rfl ?_
 obtain ⟨r7,h8,H⟩:=bnd H
 refine z0a (z0x (y0r a1.Product b2.Product r7 h8) ⟨.inl rfl,.inl rfl,trivial⟩) ?_
 refine z0a (z06 (u':=vlst (List.map z3o [r3,r5,r7])) (z1w [[_],[_],[_]] y1x ⟨rfl,.inl ⟨_,rfl,rfl,rfl⟩,rfl,rfl,.inl ⟨_,rfl,rfl,rfl⟩,rfl,rfl,.inl ⟨_,rfl,rfl,rfl⟩,rfl,trivial⟩ rfl rfl) rfl) ?_
 obtain ⟨r9,h10,H⟩:=bnd H
 refine z0a (z0x (x2t [r3,r5,r7] r9 h10) ⟨.inl rfl,trivial⟩) ?_
 refine qe rfl ?_
 refine ⟨rfl,?_⟩
 refine z0r ?_
 cases H
 exact ⟨trivial,.inl rfl,trivial⟩
theorem y7d (v1:z0g) (v2:(List z0t)) (v3:(List z0e)) (v4:Int) (r:(Int)) (H:z9a v1 v2 v3 v4=some r):Fn Tryz.prog 64 [vagg (z1d v1),vlst (List.map z1l v2),vlst (List.map z0w v3),vint v4] (z1x [vint r]):=by
 refine ⟨by kernel_rfl,z1k (us:=[vint r]) Tryz.func64 rfl rfl rfl rfl fun X hN => ?_⟩
 unfold z9a at H
 refine z0c ?_
 refine z0b hN rfl ?_
 refine z0f (z2h 1 rfl) rfl ?_
 refine qe rfl ?_
 refine z0c ?_
 refine z0b hN rfl ?_
 refine qd rfl ?_
 refine qd rfl ?_
 obtain ⟨x5,h6,H⟩:=bnd H
 refine z0a (y1l y4a (fun _=>rfl) rfl rfl h6) ?_
 refine z0a (z2s y1o rfl (z29 (z2m h6).2) rfl) ?_
 refine z0f (z1h 2 x1r rfl) rfl ?_
 refine z0f (z02 y1o rfl rfl rfl rfl) rfl ?_
 refine z0c ?_
 refine z0c ?_
 refine z0b hN rfl ?_
 refine z0a (z0p y0e rfl) ?_
 refine z0j (z0n tyS3 rfl rfl) rfl ?_
 obtain ⟨r7,h8,H⟩:=bnd H
 refine z0a (z0x (y64 x5.At r7 h8) ⟨.inl rfl,trivial⟩) ?_
 refine z0a (z3r rfl) ?_
 refine z0i _ rfl (fun h9 => ?_) (fun h9 => ?_)
 ·replace H:=ift h9 H
  refine z0c ?_
  refine z0b hN rfl ?_
  refine qe rfl ?_
  refine z0r ?_
  cases H
  exact ⟨trivial,.inl rfl,trivial⟩
 ·replace H:=iff_ h9 H
  refine z0s ?_
  refine z0c ?_
  refine z0c ?_
  refine z0b hN rfl ?_
  refine qd rfl ?_
  refine z0a (z0p y2r rfl) ?_
  refine z0j (z0n tyS9 rfl rfl) rfl ?_
  obtain ⟨r10,h11,H⟩:=bnd H
  refine z0a (z0x (y43 v2 x5.App r10 h11) ⟨.inl rfl,.inl rfl,trivial⟩) ?_
  refine qd rfl ?_
  refine z0a (z11 rfl rfl) ?_
  refine z0a (z11 rfl rfl) ?_
  refine qe rfl ?_
  refine qe rfl ?_
  refine z0c ?_
  refine z0b hN rfl ?_
  refine qd rfl ?_
  refine z0a (z3r rfl) ?_
  refine z0i _ rfl (fun h12 => ?_) (fun h12 => ?_)
  ·replace H:=ift h12 H
   refine z0c ?_
   refine z0b hN rfl ?_
   refine qe rfl ?_
   refine z0r ?_
   cases H
   exact ⟨trivial,.inl rfl,trivial⟩
  ·replace H:=iff_ h12 H
   refine z0s ?_
   refine z0c ?_
   refine z0c ?_
   refine z0b hN rfl ?_
   refine z0j (z04 z5d rfl rfl rfl) rfl ?_
   refine z0a (z0p y13 rfl) ?_
   refine z0j (z0n tyS9 rfl rfl) rfl ?_
   obtain ⟨r13,h14,H⟩:=bnd H
   refine z0a (z0x (y2x v1 x5.Product r13 h14) ⟨.inl rfl,.inl rfl,trivial⟩) ?_
   refine qd rfl ?_
   refine z0a (z11 rfl rfl) ?_
   refine z0a (z11 rfl rfl) ?_
   refine qe rfl ?_
   refine qe rfl ?_
   refine z0c ?_
   refine z0b hN rfl ?_
   refine qd rfl ?_
   refine z0a (z3r rfl) ?_
   refine z0i _ rfl (fun h15 => ?_) (fun h15 => ?_)
   ·replace H:=ift h15 H
    refine z0c ?_
    refine z0b hN rfl ?_
    refine qe rfl ?_
    refine z0r ?_
    cases H
    exact ⟨trivial,.inl rfl,trivial⟩
   ·replace H:=iff_ h15 H
    refine z0s ?_
    refine z0c ?_
    refine z0c ?_
    refine z0b hN rfl ?_
    refine z0a (z0p z84 rfl) ?_
    refine z0j (z0n tyS3 rfl rfl) rfl ?_
    obtain ⟨r16,h17,H⟩:=bnd H
    refine z0a (z0x (z91 x5.Kind 1 6 r16 h17) ⟨.inl rfl,.inl rfl,.inl rfl,trivial⟩) ?_
    refine z0i _ rfl (fun h18 => ?_) (fun h18 => ?_)
    ·replace H:=ift h18 H
     refine z0c ?_
     refine z0b hN rfl ?_
     refine qe rfl ?_
     refine z0r ?_
     cases H
     exact ⟨trivial,.inl rfl,trivial⟩
    ·replace H:=iff_ h18 H
     refine z0s ?_
     refine z0c ?_
     refine z0c ?_
     refine z0b hN rfl ?_
     refine z0a (z0p y27 rfl) ?_
     refine z0j (z0n tyS9 rfl rfl) rfl ?_
     refine z0a (y1m rfl rfl) ?_
     refine qd rfl ?_
     refine z4w rfl rfl (fun hc=>z0p z84 rfl) ?_
     refine y3v rfl rfl (fun hc=>z0n tyS3 (cnd (c:=(decide (x5.Plan≠[]))) hc) rfl) rfl y3q ?_
     refine z4w rfl rfl (fun hc=>z6i (cnd (c:=(decide (x5.Plan≠[]))) hc) rfl) ?_
     refine z0a (z2z rfl (fun hb=>(cnd (c:=(decide (x5.Plan≠[]))) hb)) rfl) ?_
     refine z0i _ rfl (fun h19 => ?_) (fun h19 => ?_)
     ·replace H:=ift h19 H
      refine z0c ?_
      refine z0b hN rfl ?_
      refine qe rfl ?_
      refine z0r ?_
      cases H
      exact ⟨trivial,.inl rfl,trivial⟩
     ·replace H:=iff_ h19 H
      refine z0s ?_
      refine z1a (ι:=Unit) (fun i=>[(2,.dat (vlst (List.map z0w v3))),(3,.dat (vint v4)),(9,.ptr 2 0)]) (fun i=>[(2,.box none 99 [.dat (vint x5.At),.dat (vstr x5.App),.dat (vstr x5.Product),.dat (vint x5.Kind),.dat (vstr x5.Plan)])]) (fun i=>z5p v3 v4 x5=some r) (fun i=>rfl) ?_ ?_
      ·skip
       refine z0c ?_
       refine z0b hN rfl ?_
       refine z0a (z0p z84 rfl) ?_
       refine z0j (z0n tyS3 rfl rfl) rfl ?_
       refine z0a (z12 rfl rfl) ?_
       refine z0i _ rfl (fun h20 => ?_) (fun h20 => ?_)
       ·replace H:=ift h20 H
        refine z0c ?_
        refine z0b hN rfl ?_
        refine z0j (z04 z5d rfl rfl rfl) rfl ?_
        refine z0a (z0p y27 rfl) ?_
        refine z0j (z0n tyS9 rfl rfl) rfl ?_
        obtain ⟨r21,h22,H⟩:=bnd H
        refine z0a (z0x (y4j v1 x5.Plan r21 h22) ⟨.inl rfl,.inl rfl,trivial⟩) ?_
        refine qd rfl ?_
        refine z0a (z11 rfl rfl) ?_
        refine z0a (z11 rfl rfl) ?_
        refine z0f (z1h 3 y48 rfl) rfl ?_
        refine z0f (z02 y1j rfl rfl rfl rfl) rfl ?_
        refine qe rfl ?_
        refine z0c ?_
        refine z0c ?_
        refine z0b hN rfl ?_
        refine qd rfl ?_
        refine z0a (z3r rfl) ?_
        refine z0i _ rfl (fun h23 => ?_) (fun h23 => ?_)
        ·replace H:=ift h23 H
         refine z0c ?_
         refine z0b hN rfl ?_
         refine qe rfl ?_
         refine z0r ?_
         cases H
         exact ⟨trivial,.inl rfl,trivial⟩
        ·replace H:=iff_ h23 H
         refine z0s ?_
         refine z0c ?_
         refine z0b hN rfl ?_
         refine z0a (z0p y6o rfl) ?_
         refine z0j (z0n tyS9 rfl rfl) rfl ?_
         refine z0a (z0p y13 rfl) ?_
         refine z0j (z0n tyS9 rfl rfl) rfl ?_
         refine z0a (y1m rfl rfl) ?_
         refine z0i _ rfl (fun h24 => ?_) (fun h24 => ?_)
         ·replace H:=ift h24 H
          refine z0c ?_
          refine z0b hN rfl ?_
          refine qe rfl ?_
          refine z0r ?_
          cases H
          exact ⟨trivial,.inl rfl,trivial⟩
         ·replace H:=iff_ h24 H
          refine z0s ?_
          exact ⟨(),H,⟨rfl,rfl,rfl,trivial⟩,⟨rfl,trivial⟩⟩
       ·replace H:=iff_ h20 H
        refine z0s ?_
        exact ⟨(),H,⟨rfl,rfl,rfl,trivial⟩,⟨rfl,trivial⟩⟩
      ·rintro ⟨⟩ H
       replace H:z5p v3 v4 x5=some r:=H
       unfold z5p at H
       refine z0c ?_
       refine z1a (ι:=Bool) (fun i=>[(81,.dat (z1e i))]) (fun i=>[]) (fun i=>z6x i=some r) (fun i=>rfl) ?_ ?_
       ·skip
        refine z3q mixed hN rfl rfl ?_
        refine qd rfl ?_
        refine z0a (z5n rfl rfl) ?_
        refine qd rfl ?_
        refine z19 (j:=2) rfl rfl (fun h25 => ?_) (fun h25 => ?_) rfl
        ·have h26:=un1 h25
         replace H:=ift h26 H
         refine z03 rfl rfl h25 (z0k (.dat _) rfl) ?_
         refine z03 rfl rfl h25 (z0k (.dat _) rfl) ?_
         refine z03 rfl rfl h25 (z1s _ rfl rfl (.inr (.inl ⟨rfl,rfl⟩))) ?_
         obtain ⟨x27,h28,H⟩:=bnd H
         refine z03 rfl rfl h25 (y1l y4a (fun _=>rfl) rfl rfl h28) ?_
         refine z03 rfl rfl h25 (z2s y1o rfl (z29 (z2m h28).2) rfl) ?_
         refine z7k rfl rfl h25 (z04 y1o rfl rfl rfl) rfl ?_
         obtain ⟨r29,h30,H⟩:=bnd H
         refine z03 rfl rfl h25 (z0x (y52 x27 x5 r29 h30) ⟨.inl rfl,.inl rfl,trivial⟩) ?_
         refine z03 rfl rfl h25 (y5o rfl rfl) ?_
         refine z0a (z1p rfl (bTT h26) rfl) ?_
         refine ⟨rfl,?_⟩
         exact ⟨decide (0≤r29),H,⟨rfl,trivial⟩,trivial⟩
        ·have h31:=un2 h25
         replace H:=iff_ h31 H
         refine z0l rfl rfl h25 ?_
         refine z0l rfl rfl h25 ?_
         refine z0l rfl rfl h25 ?_
         refine z0l rfl rfl h25 ?_
         refine z0l rfl rfl h25 ?_
         refine z0l rfl rfl h25 ?_
         refine z0l rfl rfl h25 ?_
         refine z0l rfl rfl h25 ?_
         refine z0a (z1b rfl (bFF h31) rfl) ?_
         refine ⟨rfl,?_⟩
         exact ⟨false,H,⟨rfl,trivial⟩,trivial⟩
       ·rintro v32 H
        replace H:z6x v32=some r:=H
        unfold z6x at H
        refine z0i _ rfl (fun h33 => ?_) (fun h33 => ?_)
        ·replace H:=ift h33 H
         refine z0c ?_
         refine z0b hN rfl ?_
         refine qe rfl ?_
         refine z0r ?_
         cases H
         exact ⟨trivial,.inl rfl,trivial⟩
        ·replace H:=iff_ h33 H
         refine z0s ?_
         refine z0c ?_
         refine z0b hN rfl ?_
         refine qe rfl ?_
         refine z0r ?_
         cases H
         exact ⟨trivial,.inl rfl,trivial⟩
theorem y19 (c1:z0g) (apps2:(List z0t)) (l3:(List z0e)) (r:(Int)) (H:z5r c1 apps2 l3=some r):Fn Tryz.prog 30 [vagg (z1d c1),vlst (List.map z1l apps2),vlst (List.map z0w l3)] (z1x [vint r]):=by
 refine ⟨by kernel_rfl,z1k (us:=[vint r]) Tryz.func30 rfl rfl rfl rfl fun X hN => ?_⟩
 unfold z5r at H
 refine z0c ?_
 refine z0b hN rfl ?_
 refine z0f (z2h 1 rfl) rfl ?_
 refine qe rfl ?_
 refine z0c ?_
 refine z0c ?_
 refine z0b hN rfl ?_
 refine z0j (z04 z5d rfl rfl rfl) rfl ?_
 obtain ⟨r4,h5,H⟩:=bnd H
 refine z0a (z0x (y3m c1 r4 h5) ⟨.inl rfl,trivial⟩) ?_
 refine qe rfl ?_
 refine z0c ?_
 refine z0b hN rfl ?_
 refine qd rfl ?_
 refine z0a (z6i rfl rfl) ?_
 refine z0i _ rfl (fun h6 => ?_) (fun h6 => ?_)
 ·replace H:=ift h6 H
  refine z0c ?_
  refine z0b hN rfl ?_
  refine qd rfl ?_
  refine qe rfl ?_
  refine z0r ?_
  cases H
  exact ⟨trivial,.inl rfl,trivial⟩
 ·replace H:=iff_ h6 H
  refine z0s ?_
  refine z0c ?_
  refine z0c ?_
  refine z0b hN rfl ?_
  refine qd rfl ?_
  obtain ⟨r7,h8,H⟩:=bnd H
  refine z0a (z0x (y7t apps2 r7 h8) ⟨.inl rfl,trivial⟩) ?_
  refine qe rfl ?_
  refine z0c ?_
  refine z0b hN rfl ?_
  refine qd rfl ?_
  refine z0a (z6i rfl rfl) ?_
  refine z0i _ rfl (fun h9 => ?_) (fun h9 => ?_)
  ·replace H:=ift h9 H
   refine z0c ?_
   refine z0b hN rfl ?_
   refine qd rfl ?_
   refine qe rfl ?_
   refine z0r ?_
   cases H
   exact ⟨trivial,.inl rfl,trivial⟩
  ·replace H:=iff_ h9 H
   refine z0s ?_
   refine z0c ?_
   refine z0c ?_
   refine z0b hN rfl ?_
   refine qd rfl ?_
   refine z0a (z43 y75 rfl) ?_
   refine z0a (z5n rfl rfl) ?_
   refine z0i _ rfl (fun h10 => ?_) (fun h10 => ?_)
   ·replace H:=ift h10 H
    refine z0c ?_
    refine z0b hN rfl ?_
    refine qe rfl ?_
    refine z0r ?_
    cases H
    exact ⟨trivial,.inl rfl,trivial⟩
   ·replace H:=iff_ h10 H
    refine z0s ?_
    refine z0c ?_
    refine z0c ?_
    refine z0b hN rfl ?_
    refine qd rfl ?_
    refine z0a (z43 y75 rfl) ?_
    refine qd rfl ?_
    refine z0y ?_
    obtain ⟨h13,H⟩:=gif H
    refine z3u (fun (k11:Nat) (s:Unit)=>[(1,.dat (vlst (List.map z1l apps2))),(2,.dat (vlst (List.map z0w l3))),(3,.ptr 1 0),(25,.dat (vint (l3.length:Int))),(26,.dat (vint (k11:Int)))]) (fun (k11:Nat) (s:Unit)=>[(1,.box none 29 [.dat (vlst (List.map z0u c1.Products)),.dat (vlst (List.map z0z c1.Plans))])]) () H ⟨rfl,rfl,rfl,rfl,rfl,trivial⟩ ⟨rfl,trivial⟩ (fun _ _=>rfl) ?_ ?_
    ·rintro ⟨⟩ H
     replace H:y1q=some r:=H
     unfold y1q at H
     refine z0c ?_
     refine z0b hN rfl ?_
     refine z0a (z05 rfl rfl) ?_
     refine z0c ?_
     refine z0i _ rfl (fun h=>(lt_t h).elim) (fun h => ?_)
     refine z1v ?_
     refine z0c ?_
     refine z0b hN rfl ?_
     refine qe rfl ?_
     refine z0r ?_
     cases H
     exact ⟨trivial,.inl rfl,trivial⟩
    ·rintro k11 x14 ⟨⟩ q12 h15 h16 H hq12
     replace H:z9w c1 apps2 l3 k11 x14=some q12:=H
     unfold z9w at H
     refine z0c ?_
     refine z0b hN rfl ?_
     refine z0a (z05 rfl rfl) ?_
     refine z0c ?_
     refine z0i _ rfl (fun h => ?_) (fun h=>(lt_f h15 h).elim)
     refine z0s ?_
     refine z0c ?_
     refine z0y ?_
     refine z0c ?_
     refine z0b hN rfl ?_
     refine qd rfl ?_
     refine qe rfl ?_
     refine z0c ?_
     refine z0b hN rfl ?_
     refine z0j (z04 z5d rfl rfl rfl) rfl ?_
     refine qd rfl ?_
     refine qd rfl ?_
     refine qd rfl ?_
     obtain ⟨r17,h18,H⟩:=bnd H
     refine z0a (z0x (y7d c1 apps2 l3 (k11:Int) r17 h18) ⟨.inl rfl,.inl rfl,.inl rfl,.inl rfl,trivial⟩) ?_
     refine qe rfl ?_
     refine z0c ?_
     refine z0b hN rfl ?_
     refine qd rfl ?_
     refine z0a (z6i rfl rfl) ?_
     refine z0i _ rfl (fun h19 => ?_) (fun h19 => ?_)
     ·replace H:=ift h19 H
      refine z0c ?_
      refine z0b hN rfl ?_
      refine qd rfl ?_
      refine qe rfl ?_
      refine z0r ?_
      replace H:=retl H hq12
      cases H
      exact ⟨trivial,.inl rfl,trivial⟩
     ·replace H:=iff_ h19 H
      refine z0s ?_
      refine z0b hN rfl ?_
      refine z0a (z3v rfl rfl (by omega)) ?_
      refine qd rfl ?_
      exact ⟨_,z63 H,⟨rfl,rfl,rfl,rfl,rfl,trivial⟩,⟨rfl,trivial⟩⟩
theorem y18 (v1:Int) (r:(Int)) (H:z5q v1=some r):Fn Tryz.prog 34 [vint v1] (z1x [vint r]):=by
 refine ⟨by kernel_rfl,z1k (us:=[vint r]) Tryz.func34 rfl rfl rfl rfl fun X hN => ?_⟩
 unfold z5q at H
 refine z0c ?_
 refine z0b hN rfl ?_
 refine qe rfl ?_
 refine z0c ?_
 refine z0c ?_
 refine z0b hN rfl ?_
 refine qd rfl ?_
 obtain ⟨r2,h3,H⟩:=bnd H
 refine z0a (z0x (y64 v1 r2 h3) ⟨.inl rfl,trivial⟩) ?_
 refine z0a (z3r rfl) ?_
 refine z0i _ rfl (fun h4 => ?_) (fun h4 => ?_)
 ·replace H:=ift h4 H
  refine z0c ?_
  refine z0b hN rfl ?_
  refine qe rfl ?_
  refine z0r ?_
  cases H
  exact ⟨trivial,.inl rfl,trivial⟩
 ·replace H:=iff_ h4 H
  refine z0s ?_
  refine z0c ?_
  refine z0b hN rfl ?_
  refine qe rfl ?_
  refine z0r ?_
  cases H
  exact ⟨trivial,.inl rfl,trivial⟩
theorem y8b (c1:z0g) (apps2:(List z0t)) (app3:Bs) (product4:Bs) (v5:Int) (r:(Int)) (H:y0i c1 apps2 app3 product4 v5=some r):Fn Tryz.prog 31 [vagg (z1d c1),vlst (List.map z1l apps2),vstr app3,vstr product4,vint v5] (z1x [vint r]):=by
 refine ⟨by kernel_rfl,z1k (us:=[vint r]) Tryz.func31 rfl rfl rfl rfl fun X hN => ?_⟩
 unfold y0i at H
 refine z0c ?_
 refine z0b hN rfl ?_
 refine z0f (z2h 1 rfl) rfl ?_
 refine qe rfl ?_
 refine z0c ?_
 refine z0b hN rfl ?_
 refine qd rfl ?_
 refine qd rfl ?_
 obtain ⟨r6,h7,H⟩:=bnd H
 refine z0a (z0x (y43 apps2 app3 r6 h7) ⟨.inl rfl,.inl rfl,trivial⟩) ?_
 refine qd rfl ?_
 refine z0a (z11 rfl rfl) ?_
 refine z0a (z11 rfl rfl) ?_
 refine qe rfl ?_
 refine qe rfl ?_
 refine z0c ?_
 refine z0b hN rfl ?_
 refine z0j (z04 z5d rfl rfl rfl) rfl ?_
 refine qd rfl ?_
 obtain ⟨r8,h9,H⟩:=bnd H
 refine z0a (z0x (y2x c1 product4 r8 h9) ⟨.inl rfl,.inl rfl,trivial⟩) ?_
 refine qd rfl ?_
 refine z0a (z11 rfl rfl) ?_
 refine z0a (z11 rfl rfl) ?_
 refine qe rfl ?_
 refine qe rfl ?_
 refine z0c ?_
 refine z0c ?_
 refine z0b hN rfl ?_
 refine qd rfl ?_
 refine z0a (z3r rfl) ?_
 refine qd rfl ?_
 refine y25 rfl rfl (fun hc=>z0k (.dat _) rfl) ?_
 refine y25 rfl rfl (fun hc=>z3r (cnd (c:=(!(!r6.2))) hc)) ?_
 refine z0a (z8k rfl rfl (fun hb=>(cnd (c:=(!(!r6.2))) (notI hb)))) ?_
 refine z0i _ rfl (fun h10 => ?_) (fun h10 => ?_)
 ·replace H:=ift h10 H
  refine z0c ?_
  refine z0b hN rfl ?_
  refine qe rfl ?_
  refine z0r ?_
  cases H
  exact ⟨trivial,.inl rfl,trivial⟩
 ·replace H:=iff_ h10 H
  refine z0s ?_
  refine z0c ?_
  refine z0b hN rfl ?_
  refine qd rfl ?_
  obtain ⟨r11,h12,H⟩:=bnd H
  refine z0a (z0x (y18 v5 r11 h12) ⟨.inl rfl,trivial⟩) ?_
  refine qe rfl ?_
  refine z0r ?_
  cases H
  exact ⟨trivial,.inl rfl,trivial⟩
theorem y7r  (r:(z0h)) (H:y1y  = some r):Fn Tryz.prog 67 [] (z1x [vagg (z08 r)]):=by
 refine ⟨by kernel_rfl,z1k (us:=[vagg (z08 r)]) Tryz.func67 rfl rfl rfl rfl fun X hN => ?_⟩
 unfold y1y at H
 refine z0c ?_
 refine z0b hN rfl ?_
 refine z0f (z1h 1 y3h rfl) rfl ?_
 refine z0c ?_
 refine z0b hN rfl ?_
 refine z0a (z06 (u':=vagg (z08 (z0h.mk 0 [] 0 (-1)))) (z3k [(3,[vint (-1)])] y3h x7r rfl ⟨rfl,.inl ⟨_,rfl,rfl,rfl⟩,rfl,trivial⟩) rfl) ?_
 refine z0f (z02 z4h rfl rfl rfl rfl) rfl ?_
 refine z0r ?_
 cases H
 exact ⟨trivial,.inl ⟨_,_,_,z08 (z0h.mk 0 [] 0 (-1)),rfl,rfl,rfl,rfl,z4h⟩,trivial⟩
theorem y6x (s1:z17) (app2:Bs) (product3:Bs) (r:(z0h)) (H:z9b s1 app2 product3=some r):FnG Tryz.prog 33 [.ptr 0 0,.dat (vstr app2),.dat (vstr product3)] [(0,.box (some 0) 74 [.mp 2,.mp 3]),(2,.opq (some 0) (y6w z14 s1.subs_)),(3,.opq (some 0) (y6w z2q s1.asks_))] (.dat (z1x [vagg (z08 r)])) [(0,.box (some 0) 74 [.mp 2,.mp 3]),(2,.opq (some 0) (y6w z14 s1.subs_)),(3,.opq (some 0) (y6w z2q s1.asks_)),(10,.box none 39 (List.map .dat (z08 r)))]:=by
 refine y65 (by kernel_rfl) Tryz.func33 rfl rfl rfl rfl fun X A hN => ?_
 unfold z9b at H
 refine z0c ?_
 refine z0b hN rfl ?_
 refine z0f (z1h 10 y3h rfl) rfl ?_
 refine z0c ?_
 refine z0b hN rfl ?_
 refine z0a (z0k (.ptr _ _) rfl) ?_
 refine z0a (y2i rfl) ?_
 refine z0a (z0p x1u rfl) ?_
 refine z0j (z0n w2d rfl rfl) rfl ?_
 refine qd rfl ?_
 refine qd rfl ?_
 refine z0a (z06 (u':=vagg (y24 (z0q.mk app2 product3))) (z3k [(0,[vstr app2]),(1,[vstr product3])] x8z w42 rfl ⟨rfl,.inl ⟨_,rfl,rfl,rfl⟩,rfl,rfl,.inl ⟨_,rfl,rfl,rfl⟩,rfl,trivial⟩) rfl) ?_
 obtain ⟨h4,H⟩:=gif H
 refine z0j (z06 (u':=vtup [vagg (z08 ((lkG s1.subs_ (z0q.mk app2 product3)).getD (z0h.mk 0 [] 0 0))),z1e ((lkG s1.subs_ (z0q.mk app2 product3)).isSome)]) (x7y (z0q.mk app2 product3) z2r rfl rfl h4) rfl) rfl ?_
 refine qd rfl ?_
 refine z0a (z11 rfl rfl) ?_
 refine z0a (z11 rfl rfl) ?_
 refine z0f (z1h 11 y3h rfl) rfl ?_
 refine z0f (z02 z4h rfl rfl rfl rfl) rfl ?_
 refine qe rfl ?_
 refine z0c ?_
 refine z0c ?_
 refine z0b hN rfl ?_
 refine qd rfl ?_
 refine z0a (z3r rfl) ?_
 refine z0i _ rfl (fun h5 => ?_) (fun h5 => ?_)
 ·replace H:=ift h5 H
  refine z0c ?_
  refine z0b hN rfl ?_
  obtain ⟨r6,h7,H⟩:=bnd H
  refine z0a (z0x (y7r  r6 h7) trivial) ?_
  refine z0f (z02 z4h rfl rfl rfl rfl) rfl ?_
  refine z0r ?_
  have eH:r6=r:=Option.some.inj H
  subst eH
  exact ⟨trivial,[(6,.ptr 10 0)],⟨rfl,trivial⟩,⟨rfl,rfl,rfl,rfl,trivial⟩,rfl,.inl ⟨[vagg (z08 r6)],⟨⟨_,_,_,z08 r6,rfl,rfl,rfl,rfl,z4h⟩,trivial⟩,rfl⟩⟩
 ·replace H:=iff_ h5 H
  refine z0s ?_
  refine z0c ?_
  refine z0b hN rfl ?_
  refine z0j (z04 z4h rfl rfl rfl) rfl ?_
  refine z0f (z02 z4h rfl rfl rfl rfl) rfl ?_
  refine z0r ?_
  cases H
  exact ⟨trivial,[(6,.ptr 10 0)],⟨rfl,trivial⟩,⟨rfl,rfl,rfl,rfl,trivial⟩,rfl,.inl ⟨[vagg (z08 (z0h.mk (((lkG s1.subs_ (z0q.mk app2 product3)).getD (z0h.mk 0 [] 0 0)).State) (((lkG s1.subs_ (z0q.mk app2 product3)).getD (z0h.mk 0 [] 0 0)).Plan) (((lkG s1.subs_ (z0q.mk app2 product3)).getD (z0h.mk 0 [] 0 0)).Since) (((lkG s1.subs_ (z0q.mk app2 product3)).getD (z0h.mk 0 [] 0 0)).First)))],⟨⟨_,_,_,z08 (z0h.mk (((lkG s1.subs_ (z0q.mk app2 product3)).getD (z0h.mk 0 [] 0 0)).State) (((lkG s1.subs_ (z0q.mk app2 product3)).getD (z0h.mk 0 [] 0 0)).Plan) (((lkG s1.subs_ (z0q.mk app2 product3)).getD (z0h.mk 0 [] 0 0)).Since) (((lkG s1.subs_ (z0q.mk app2 product3)).getD (z0h.mk 0 [] 0 0)).First)),rfl,rfl,rfl,rfl,z4h⟩,trivial⟩,rfl⟩⟩
theorem y7s (state1:Int) (r:(Bool)) (H:y1z state1=some r):Fn Tryz.prog 139 [vint state1] (z1x [z1e r]):=by
 refine ⟨by kernel_rfl,z1k (us:=[z1e r]) Tryz.func139 rfl rfl rfl rfl fun X hN => ?_⟩
 unfold y1z at H
 refine z0c ?_
 refine z0b hN rfl ?_
 refine qe rfl ?_
 refine z0c ?_
 refine z0b hN rfl ?_
 refine qd rfl ?_
 refine z0a (z12 rfl rfl) ?_
 refine qd rfl ?_
 refine y25 rfl rfl (fun hc=>z0k (.dat _) rfl) ?_
 refine y25 rfl rfl (fun hc=>z12 (cnd (c:=(!(decide (state1=2)))) hc) rfl) ?_
 refine z0a (z8k rfl rfl (fun hb=>(cnd (c:=(!(decide (state1=2)))) (notI hb)))) ?_
 refine qe rfl ?_
 refine z0r ?_
 cases H
 exact ⟨trivial,.inl rfl,trivial⟩
theorem x0u (s1:z0h) (x2:z0e) (p3:z0o) (r:(z0h×Bool)) (H:y3e s1 x2 p3=some r):Fn Tryz.prog 103 [vagg (z08 s1),vagg (z0w x2),vagg (z0z p3)] (z1x [vagg (z08 r.1),z1e r.2]):=by
 refine ⟨by kernel_rfl,z1k (us:=[vagg (z08 r.1),z1e r.2]) Tryz.func103 rfl rfl rfl rfl fun X hN => ?_⟩
 unfold y3e at H
 refine z0c ?_
 refine z0b hN rfl ?_
 refine z0f (z2h 1 rfl) rfl ?_
 refine z0f (z2h 2 rfl) rfl ?_
 refine z0f (z2h 3 rfl) rfl ?_
 refine z0f (z1h 4 y3h rfl) rfl ?_
 refine qe rfl ?_
 refine z0c ?_
 refine z0y ?_
 refine z0c ?_
 refine z0b hN rfl ?_
 refine z0a (z0p z8j rfl) ?_
 refine z0j (z0n tyS3 rfl rfl) rfl ?_
 obtain ⟨r4,h5,H⟩:=bnd H
 refine z0a (z0x (y7s s1.State r4 h5) ⟨.inl rfl,trivial⟩) ?_
 refine qe rfl ?_
 refine z0i _ rfl (fun h6 => ?_) (fun h6 => ?_)
 ·replace H:=ift h6 H
  refine z0c ?_
  refine z0c ?_
  refine z0b hN rfl ?_
  refine z0a (z0p y1k rfl) ?_
  refine z0j (z0n tyS9 rfl rfl) rfl ?_
  refine z0a (z0p y9j rfl) ?_
  refine z0j (z0n tyS9 rfl rfl) rfl ?_
  refine z0a (y33 rfl rfl) ?_
  refine qd rfl ?_
  refine y25 rfl rfl (fun hc=>z0p y85 rfl) ?_
  refine x5c rfl rfl (fun hc=>z0n tyS4 (cnd (c:=(!(decide (p3.Key=s1.Plan)))) hc) rfl) rfl y3q ?_
  refine z0a (z8k rfl rfl (fun hb=>(cnd (c:=(!(decide (p3.Key=s1.Plan)))) (notI hb)))) ?_
  refine z0i _ rfl (fun h7 => ?_) (fun h7 => ?_)
  ·replace H:=ift h7 H
   refine z0c ?_
   refine z0b hN rfl ?_
   refine z0j (z04 z4h rfl rfl rfl) rfl ?_
   refine z0f (z02 z4h rfl rfl rfl rfl) rfl ?_
   refine qe rfl ?_
   refine z0r ?_
   cases H
   exact ⟨trivial,.inl ⟨_,_,_,z08 s1,rfl,rfl,rfl,rfl,z4h⟩,.inl rfl,trivial⟩
  ·replace H:=iff_ h7 H
   refine z0s ?_
   refine z0c ?_
   refine z3q mixed hN rfl rfl ?_
   refine z0a (z0p y1k rfl) ?_
   refine z0j (z0n tyS9 rfl rfl) rfl ?_
   refine z0a (z0p y0e rfl) ?_
   refine z0j (z0n tyS3 rfl rfl) rfl ?_
   refine z0a (z0p y9j rfl) ?_
   refine z0f (z2n tyS9 rfl rfl rfl rfl) rfl ?_
   refine z0a (z0p y9i rfl) ?_
   refine z0f (z2n tyS3 rfl rfl rfl rfl) rfl ?_
   refine ⟨rfl,?_⟩
   refine z0c ?_
   refine z0b hN rfl ?_
   refine z0j (z04 z4h rfl rfl rfl) rfl ?_
   refine z0f (z02 z4h rfl rfl rfl rfl) rfl ?_
   refine qe rfl ?_
   refine z0r ?_
   cases H
   exact ⟨trivial,.inl ⟨_,_,_,z08 (z0h.mk s1.State p3.Key x2.At s1.First),rfl,rfl,rfl,rfl,z4h⟩,.inl rfl,trivial⟩
 ·replace H:=iff_ h6 H
  refine z0c ?_
  refine z0b hN rfl ?_
  refine z0a (z0p z8j rfl) ?_
  refine z0j (z0n tyS3 rfl rfl) rfl ?_
  refine z0a (z12 rfl rfl) ?_
  refine qe rfl ?_
  refine z0i _ rfl (fun h8 => ?_) (fun h8 => ?_)
  ·replace H:=ift h8 H
   refine z0c ?_
   refine z0b hN rfl ?_
   refine z0j (z04 z4h rfl rfl rfl) rfl ?_
   refine z0f (z02 z4h rfl rfl rfl rfl) rfl ?_
   refine qe rfl ?_
   refine z0r ?_
   cases H
   exact ⟨trivial,.inl ⟨_,_,_,z08 s1,rfl,rfl,rfl,rfl,z4h⟩,.inl rfl,trivial⟩
  ·replace H:=iff_ h8 H
   refine z0c ?_
   refine z0b hN rfl ?_
   refine z0a (z0p y85 rfl) ?_
   refine z0j (z0n tyS4 rfl rfl) rfl ?_
   refine qe rfl ?_
   refine z0i _ rfl (fun h9 => ?_) (fun h9 => ?_)
   ·replace H:=ift h9 H
    refine z0c ?_
    refine z0b hN rfl ?_
    refine z0a (z0p y1k rfl) ?_
    refine z0j (z0n tyS9 rfl rfl) rfl ?_
    refine z0a (z0p y0e rfl) ?_
    refine z0j (z0n tyS3 rfl rfl) rfl ?_
    refine z0a (z06 (u':=vagg (z08 (z0h.mk 1 p3.Key x2.At (-1)))) (z3k [(0,[vint 1]),(1,[vstr p3.Key]),(2,[vint x2.At]),(3,[vint (-1)])] y3h x7r rfl ⟨rfl,.inl ⟨_,rfl,rfl,rfl⟩,rfl,rfl,.inl ⟨_,rfl,rfl,rfl⟩,rfl,rfl,.inl ⟨_,rfl,rfl,rfl⟩,rfl,rfl,.inl ⟨_,rfl,rfl,rfl⟩,rfl,trivial⟩) rfl) ?_
    refine z0f (z02 z4h rfl rfl rfl rfl) rfl ?_
    refine qe rfl ?_
    refine z0r ?_
    cases H
    exact ⟨trivial,.inl ⟨_,_,_,z08 (z0h.mk 1 p3.Key x2.At (-1)),rfl,rfl,rfl,rfl,z4h⟩,.inl rfl,trivial⟩
   ·replace H:=iff_ h9 H
    refine z0s ?_
    refine z0c ?_
    refine z0b hN rfl ?_
    refine z0a (z0p y1k rfl) ?_
    refine z0j (z0n tyS9 rfl rfl) rfl ?_
    refine z0a (z0p y0e rfl) ?_
    refine z0j (z0n tyS3 rfl rfl) rfl ?_
    refine z0a (z0p y0e rfl) ?_
    refine z0j (z0n tyS3 rfl rfl) rfl ?_
    refine z0a (z06 (u':=vagg (z08 (z0h.mk 2 p3.Key x2.At x2.At))) (z3k [(0,[vint 2]),(1,[vstr p3.Key]),(2,[vint x2.At]),(3,[vint x2.At])] y3h x7r rfl ⟨rfl,.inl ⟨_,rfl,rfl,rfl⟩,rfl,rfl,.inl ⟨_,rfl,rfl,rfl⟩,rfl,rfl,.inl ⟨_,rfl,rfl,rfl⟩,rfl,rfl,.inl ⟨_,rfl,rfl,rfl⟩,rfl,trivial⟩) rfl) ?_
    refine z0f (z02 z4h rfl rfl rfl rfl) rfl ?_
    refine qe rfl ?_
    refine z0r ?_
    cases H
    exact ⟨trivial,.inl ⟨_,_,_,z08 (z0h.mk 2 p3.Key x2.At x2.At),rfl,rfl,rfl,rfl,z4h⟩,.inl rfl,trivial⟩
theorem x2s (kind1:Int) (state2:Int) (r:(Int×Bool)) (H:y36 kind1 state2=some r):Fn Tryz.prog 104 [vint kind1,vint state2] (z1x [vint r.1,z1e r.2]):=by
 refine ⟨by kernel_rfl,z1k (us:=[vint r.1,z1e r.2]) Tryz.func104 rfl rfl rfl rfl fun X hN => ?_⟩
 unfold y36 at H
 refine z0c ?_
 refine z0b hN rfl ?_
 refine qe rfl ?_
 refine qe rfl ?_
 refine z0c ?_
 refine z0c ?_
 refine z0b hN rfl ?_
 refine qd rfl ?_
 refine z0y ?_
 refine z0c ?_
 refine z0b hN rfl ?_
 refine z0a (z12 rfl rfl) ?_
 refine qe rfl ?_
 refine z0i _ rfl (fun h3 => ?_) (fun h3 => ?_)
 ·replace H:=ift h3 H
  refine z0c ?_
  refine z0b hN rfl ?_
  refine qd rfl ?_
  refine z0a (z12 rfl rfl) ?_
  refine qe rfl ?_
  refine qe rfl ?_
  refine z0r ?_
  cases H
  exact ⟨trivial,.inl rfl,.inl rfl,trivial⟩
 ·replace H:=iff_ h3 H
  refine z0c ?_
  refine z0b hN rfl ?_
  refine z0a (z12 rfl rfl) ?_
  refine qe rfl ?_
  refine z0i _ rfl (fun h4 => ?_) (fun h4 => ?_)
  ·replace H:=ift h4 H
   refine z0c ?_
   refine z0b hN rfl ?_
   refine qd rfl ?_
   refine z0a (z12 rfl rfl) ?_
   refine qe rfl ?_
   refine qe rfl ?_
   refine z0r ?_
   cases H
   exact ⟨trivial,.inl rfl,.inl rfl,trivial⟩
  ·replace H:=iff_ h4 H
   refine z0c ?_
   refine z0b hN rfl ?_
   refine z0a (z12 rfl rfl) ?_
   refine qe rfl ?_
   refine z0i _ rfl (fun h5 => ?_) (fun h5 => ?_)
   ·replace H:=ift h5 H
    refine z0c ?_
    refine z0b hN rfl ?_
    refine qd rfl ?_
    refine z0a (z12 rfl rfl) ?_
    refine qe rfl ?_
    refine qe rfl ?_
    refine z0r ?_
    cases H
    exact ⟨trivial,.inl rfl,.inl rfl,trivial⟩
   ·replace H:=iff_ h5 H
    refine z0c ?_
    refine z0b hN rfl ?_
    refine z0a (z12 rfl rfl) ?_
    refine qe rfl ?_
    refine z0i _ rfl (fun h6 => ?_) (fun h6 => ?_)
    ·replace H:=ift h6 H
     refine z0c ?_
     refine z0b hN rfl ?_
     refine qd rfl ?_
     refine z0a (z12 rfl rfl) ?_
     refine qe rfl ?_
     refine qe rfl ?_
     refine z0r ?_
     cases H
     exact ⟨trivial,.inl rfl,.inl rfl,trivial⟩
    ·replace H:=iff_ h6 H
     refine z0s ?_
     refine z1a (ι:=Bool) (fun i=>[(4,.dat (vint 4)),(5,.dat (z1e i))]) (fun i=>[]) (fun i=>y1d i=some r) (fun i=>rfl) ?_ ?_
     ·skip
      refine z0b hN rfl ?_
      refine qd rfl ?_
      refine z0a (z12 rfl rfl) ?_
      refine qd rfl ?_
      refine z19 (j:=2) rfl rfl (fun h7 => ?_) (fun h7 => ?_) rfl
      ·have h8:=un3 h7
       replace H:=iff_ h8 H
       refine z03 rfl rfl h7 (z0k (.dat _) rfl) ?_
       obtain ⟨r9,h10,H⟩:=bnd H
       refine z03 rfl rfl h7 (z0x (y7s state2 r9 h10) ⟨.inl rfl,trivial⟩) ?_
       refine z0a (z1b rfl (bFF h8) rfl) ?_
       refine qe rfl ?_
       refine qe rfl ?_
       exact ⟨r9,H,⟨rfl,rfl,trivial⟩,trivial⟩
      ·have h11:=un4 h7
       replace H:=ift h11 H
       refine z0l rfl rfl h7 ?_
       refine z0l rfl rfl h7 ?_
       refine z0a (z1p rfl (bTT h11) rfl) ?_
       refine qe rfl ?_
       refine qe rfl ?_
       exact ⟨true,H,⟨rfl,rfl,trivial⟩,trivial⟩
     ·rintro v12 H
      replace H:y1d v12=some r:=H
      unfold y1d at H
      refine z0r ?_
      cases H
      exact ⟨trivial,.inl rfl,.inl rfl,trivial⟩
theorem y8d (c1:z0g) (s2:z0h) (x3:z0e) (r:(z0h×Bool)) (H:y0j c1 s2 x3=some r):Fn Tryz.prog 66 [vagg (z1d c1),vagg (z08 s2),vagg (z0w x3)] (z1x [vagg (z08 r.1),z1e r.2]):=by
 refine ⟨by kernel_rfl,z1k (us:=[vagg (z08 r.1),z1e r.2]) Tryz.func66 rfl rfl rfl rfl fun X hN => ?_⟩
 unfold y0j at H
 refine z0c ?_
 refine z0b hN rfl ?_
 refine z0f (z2h 1 rfl) rfl ?_
 refine z0f (z2h 2 rfl) rfl ?_
 refine z0f (z2h 3 rfl) rfl ?_
 refine z0f (z1h 4 y3h rfl) rfl ?_
 refine qe rfl ?_
 refine z0c ?_
 refine z0c ?_
 refine z0b hN rfl ?_
 refine z0a (z0p z84 rfl) ?_
 refine z0j (z0n tyS3 rfl rfl) rfl ?_
 refine z0a (z12 rfl rfl) ?_
 refine z0i _ rfl (fun h4 => ?_) (fun h4 => ?_)
 ·replace H:=ift h4 H
  refine z0c ?_
  refine z0b hN rfl ?_
  refine z0j (z04 z5d rfl rfl rfl) rfl ?_
  refine z0a (z0p y27 rfl) ?_
  refine z0j (z0n tyS9 rfl rfl) rfl ?_
  obtain ⟨r5,h6,H⟩:=bnd H
  refine z0a (z0x (y4j c1 x3.Plan r5 h6) ⟨.inl rfl,.inl rfl,trivial⟩) ?_
  refine qd rfl ?_
  refine z0a (z11 rfl rfl) ?_
  refine z0a (z11 rfl rfl) ?_
  refine z0f (z1h 5 y48 rfl) rfl ?_
  refine z0f (z02 y1j rfl rfl rfl rfl) rfl ?_
  refine qe rfl ?_
  refine z0c ?_
  refine z0b hN rfl ?_
  refine z0j (z04 z4h rfl rfl rfl) rfl ?_
  refine z0j (z04 y1o rfl rfl rfl) rfl ?_
  refine z0j (z04 y1j rfl rfl rfl) rfl ?_
  obtain ⟨r7,h8,H⟩:=bnd H
  refine z0a (z0x (x0u s2 x3 r5.1 r7 h8) ⟨.inl rfl,.inl rfl,.inl rfl,trivial⟩) ?_
  refine z0a (z11 rfl rfl) ?_
  refine z0a (z11 rfl rfl) ?_
  refine z0f (z02 z4h rfl rfl rfl rfl) rfl ?_
  refine qe rfl ?_
  refine z0r ?_
  cases H
  exact ⟨trivial,.inl ⟨_,_,_,z08 r7.1,rfl,rfl,rfl,rfl,z4h⟩,.inl rfl,trivial⟩
 ·replace H:=iff_ h4 H
  refine z0s ?_
  refine z0c ?_
  refine z0b hN rfl ?_
  refine z0a (z0p z84 rfl) ?_
  refine z0j (z0n tyS3 rfl rfl) rfl ?_
  refine z0a (z0p z8j rfl) ?_
  refine z0j (z0n tyS3 rfl rfl) rfl ?_
  obtain ⟨r9,h10,H⟩:=bnd H
  refine z0a (z0x (x2s x3.Kind s2.State r9 h10) ⟨.inl rfl,.inl rfl,trivial⟩) ?_
  refine qd rfl ?_
  refine z0a (z11 rfl rfl) ?_
  refine z0a (z11 rfl rfl) ?_
  refine qe rfl ?_
  refine qe rfl ?_
  refine z0c ?_
  refine z0c ?_
  refine z0b hN rfl ?_
  refine qd rfl ?_
  refine z0a (z3r rfl) ?_
  refine z0i _ rfl (fun h11 => ?_) (fun h11 => ?_)
  ·replace H:=ift h11 H
   refine z0c ?_
   refine z0b hN rfl ?_
   refine z0j (z04 z4h rfl rfl rfl) rfl ?_
   refine z0f (z02 z4h rfl rfl rfl rfl) rfl ?_
   refine qe rfl ?_
   refine z0r ?_
   cases H
   exact ⟨trivial,.inl ⟨_,_,_,z08 s2,rfl,rfl,rfl,rfl,z4h⟩,.inl rfl,trivial⟩
  ·replace H:=iff_ h11 H
   refine z0s ?_
   refine z0c ?_
   refine z3q mixed hN rfl rfl ?_
   refine qd rfl ?_
   refine z0a (z0p y0e rfl) ?_
   refine z0j (z0n tyS3 rfl rfl) rfl ?_
   refine z0a (z0p z8j rfl) ?_
   refine z0f (z2n tyS3 rfl rfl rfl rfl) rfl ?_
   refine z0a (z0p y9i rfl) ?_
   refine z0f (z2n tyS3 rfl rfl rfl rfl) rfl ?_
   refine ⟨rfl,?_⟩
   refine z1a (ι:=Int) (fun i=>[(4,.ptr 2 0),(6,.ptr 4 0)]) (fun i=>[(2,.box none 39 [.dat (vint r9.1),.dat (vstr s2.Plan),.dat (vint x3.At),.dat (vint i)]),(4,.box none 39 [.dat (vint 0),.dat (vstr []),.dat (vint 0),.dat (vint 0)])]) (fun i=>z8a s2 x3 r9 i=some r) (fun i=>rfl) ?_ ?_
   ·skip
    refine z0c ?_
    refine z0b hN rfl ?_
    refine qd rfl ?_
    refine z0a (z12 rfl rfl) ?_
    refine qd rfl ?_
    refine z4w rfl rfl (fun hc=>z0p y9h rfl) ?_
    refine y3v rfl rfl (fun hc=>z0n tyS3 (cnd (c:=(decide (r9.1=2))) hc) rfl) rfl y3q ?_
    refine z4w rfl rfl (fun hc=>z05 (cnd (c:=(decide (r9.1=2))) hc) rfl) ?_
    refine z0a (z2z rfl (fun hb=>(cnd (c:=(decide (r9.1=2))) hb)) rfl) ?_
    refine z0i _ rfl (fun h12 => ?_) (fun h12 => ?_)
    ·replace H:=ift h12 H
     refine z0b hN rfl ?_
     refine z0a (z0p y0e rfl) ?_
     refine z0j (z0n tyS3 rfl rfl) rfl ?_
     refine z0a (z0p y9h rfl) ?_
     refine z0f (z2n tyS3 rfl rfl rfl rfl) rfl ?_
     exact ⟨x3.At,H,⟨rfl,rfl,trivial⟩,⟨rfl,rfl,trivial⟩⟩
    ·replace H:=iff_ h12 H
     refine z0s ?_
     exact ⟨s2.First,H,⟨rfl,rfl,trivial⟩,⟨rfl,rfl,trivial⟩⟩
   ·rintro c13 H
    replace H:z8a s2 x3 r9 c13=some r:=H
    unfold z8a at H
    refine z0c ?_
    refine z0b hN rfl ?_
    refine z0j (z04 z4h rfl rfl rfl) rfl ?_
    refine z0f (z02 z4h rfl rfl rfl rfl) rfl ?_
    refine qe rfl ?_
    refine z0r ?_
    cases H
    exact ⟨trivial,.inl ⟨_,_,_,z08 (z0h.mk r9.1 s2.Plan x3.At c13),rfl,rfl,rfl,rfl,z4h⟩,.inl rfl,trivial⟩
theorem y3a (v1:z0g) (v2:(List z0e)) (v3:Int) (r:(z17×(List Int))) (H:z57 v1 v2 v3=some r):Fn Tryz.prog 32 [vagg (z1d v1),vlst (List.map z0w v2),vint v3] (z1x [z9m [[vmpG z14 r.1.subs_,vmpG z2q r.1.asks_]] 0 0,vlst (List.map z3o r.2)]):=by
 refine ⟨by kernel_rfl,z1k (us:=[z9m [[vmpG z14 r.1.subs_,vmpG z2q r.1.asks_]] 0 0,vlst (List.map z3o r.2)]) Tryz.func32 rfl rfl rfl rfl fun X hN => ?_⟩
 unfold z57 at H
 refine z0c ?_
 refine z0b hN rfl ?_
 refine z0f (z2h 1 rfl) rfl ?_
 refine qe rfl ?_
 refine qe rfl ?_
 refine z0c ?_
 refine z0b hN rfl ?_
 refine z0f (x9h 2 z2r) rfl ?_
 refine z0f (x9h 3 z83) rfl ?_
 refine z0a (x6a (s' := .comp false [.mp 2,.mp 3]) (x07 [] [(0,[.mp 2]),(1,[.mp 3])] w71 w77 rfl ⟨rfl,.inr (.inr ⟨_,rfl,rfl⟩),rfl,rfl,.inr (.inr ⟨_,rfl,rfl⟩),rfl,trivial⟩) rfl) ?_
 refine z0f (w2x 4 rfl) rfl ?_
 refine z0a (z1j (.ptr _ _) rfl) ?_
 refine z0c ?_
 refine z0b hN rfl ?_
 refine qe rfl ?_
 refine z1a (ι:=(List Int)×(List (z0q×Int))×(List (z0q×z0h))) (fun i=>[(8,.ptr 4 0),(9,.row 5 i.1.length)]) (fun i=>[(2,.opq none (y6w z14 i.2.2)),(3,.opq none (y6w z2q i.2.1)),(4,.box none 74 [.mp 2,.mp 3]),(5,.row 3 1 (List.map z3o i.1))]) (fun i=>z6n i.1 i.2.1 i.2.2=some r) (fun i=>rfl) ?_ ?_
 ·skip
  refine z0c ?_
  refine z0b hN rfl ?_
  refine qd rfl ?_
  refine z0a (z43 y75 rfl) ?_
  refine qd rfl ?_
  refine z0y ?_
  refine z82 9 5 3 1 rfl rfl rfl ?_
  obtain ⟨h9,H⟩:=gif H
  refine z3u (fun (k7:Nat) (s:(List (z0q×z0h))×(List (z0q×Int))×(List Int))=>[(2,.dat (vint v3)),(3,.ptr 1 0),(8,.ptr 4 0),(9,.row 5 s.2.2.length),(19,.dat (vlst (List.map z0w v2))),(20,.dat (vint (v2.length:Int))),(21,.dat (vint (k7:Int)))]) (fun (k7:Nat) (s:(List (z0q×z0h))×(List (z0q×Int))×(List Int))=>[(1,.box none 29 [.dat (vlst (List.map z0u v1.Products)),.dat (vlst (List.map z0z v1.Plans))]),(2,.opq none (y6w z14 s.1)),(3,.opq none (y6w z2q s.2.1)),(4,.box none 74 [.mp 2,.mp 3]),(5,.row 3 1 (List.map z3o s.2.2))]) ([],[],[]) H ⟨rfl,rfl,rfl,rfl,rfl,rfl,rfl,trivial⟩ ⟨rfl,rfl,rfl,rfl,rfl,trivial⟩ (fun _ _=>rfl) ?_ ?_
  ·rintro ⟨m4,m5,l6⟩ H
   replace H:z8b m4 m5 l6=some r:=H
   unfold z8b at H
   refine z0c ?_
   refine z0b hN rfl ?_
   refine z0a (z05 rfl rfl) ?_
   refine z0c ?_
   refine z0i _ rfl (fun h=>(lt_t h).elim) (fun h => ?_)
   refine z1v ?_
   exact ⟨(l6,m5,m4),H,⟨rfl,rfl,trivial⟩,⟨rfl,rfl,rfl,rfl,trivial⟩⟩
  ·rintro k7 x10 ⟨m4,m5,l6⟩ q8 h11 h12 H hq8
   replace H:z41 v1 v3 k7 x10 m4 m5 l6=some q8:=H
   unfold z41 at H
   refine z0c ?_
   refine z0b hN rfl ?_
   refine z0a (z05 rfl rfl) ?_
   refine z0c ?_
   refine z0i _ rfl (fun h => ?_) (fun h=>(lt_f h11 h).elim)
   refine z0s ?_
   refine z1a (ι:=(List Int)×(List (z0q×Int))×(List (z0q×z0h))) (fun i=>[(2,.dat (vint v3)),(3,.ptr 1 0),(8,.ptr 4 0),(9,.row 5 i.1.length),(19,.dat (vlst (List.map z0w v2))),(20,.dat (vint (v2.length:Int))),(21,.dat (vint (k7:Int)))]) (fun i=>[(1,.box none 29 [.dat (vlst (List.map z0u v1.Products)),.dat (vlst (List.map z0z v1.Plans))]),(2,.opq none (y6w z14 i.2.2)),(3,.opq none (y6w z2q i.2.1)),(4,.box none 74 [.mp 2,.mp 3]),(5,.row 3 1 (List.map z3o i.1))]) (fun i=>z6m i.1 i.2.1 i.2.2=some q8) (fun i=>rfl) ?_ ?_
   ·skip
    refine z0y ?_
    refine z0c ?_
    refine z0b hN rfl ?_
    refine qd rfl ?_
    refine z0a (y1g y4a (fun _=>rfl) rfl rfl h12) ?_
    refine z0a (z2s y1o rfl (z29 h12) rfl) ?_
    refine z0f (z1h 6 x1r rfl) rfl ?_
    refine qe rfl ?_
    refine z0f (z02 y1o rfl rfl rfl rfl) rfl ?_
    refine z0c ?_
    refine z0c ?_
    refine z0b hN rfl ?_
    refine z0a (z0p y0e rfl) ?_
    refine z0j (z0n tyS3 rfl rfl) rfl ?_
    refine qd rfl ?_
    refine z0a (z5n rfl rfl) ?_
    refine z0i _ rfl (fun h13 => ?_) (fun h13 => ?_)
    ·replace H:=ift h13 H
     refine z1v ?_
     replace H:=outl H hq8
     exact ⟨(l6,m5,m4),H,⟨rfl,rfl,trivial⟩,⟨rfl,rfl,rfl,rfl,trivial⟩⟩
    ·replace H:=iff_ h13 H
     refine z0s ?_
     refine z0c ?_
     refine z3q mixed hN rfl rfl ?_
     refine z0j (z04 z5d rfl rfl rfl) rfl ?_
     refine z0a (z0k (.ptr _ _) rfl) ?_
     refine z0a (z0p y2r rfl) ?_
     refine z0j (z0n tyS9 rfl rfl) rfl ?_
     refine z0a (z0p y13 rfl) ?_
     refine z0j (z0n tyS9 rfl rfl) rfl ?_
     obtain ⟨r14,h15,H⟩:=bnd H
     refine z7u (rn [(0,4),(2,2),(3,3),(10,7)]) [(0,_,_,some _),(2,_,_,some _),(3,_,_,some _)] [(10,_)] (y6x (z17.mk m4 m5) x10.App x10.Product r14 h15) ⟨rfl,rfl,rfl,rfl,trivial⟩ ⟨.inl (.inl rfl),.inl (.inl rfl),.inl (.inl rfl),trivial⟩ ⟨⟨⟨rfl,rfl⟩,trivial⟩,⟨rfl,trivial⟩,⟨rfl,trivial⟩,trivial⟩ rfl ?_
     refine z0j (z04 y1o rfl rfl rfl) rfl ?_
     obtain ⟨r16,h17,H⟩:=bnd H
     refine z0a (z0x (y8d v1 r14 x10 r16 h17) ⟨.inl rfl,.inl rfl,.inl rfl,trivial⟩) ?_
     refine qd rfl ?_
     refine z0a (z11 rfl rfl) ?_
     refine z0a (z11 rfl rfl) ?_
     refine z0f (z1h 8 y3h rfl) rfl ?_
     refine z0f (z02 z4h rfl rfl rfl rfl) rfl ?_
     refine qe rfl ?_
     refine ⟨rfl,?_⟩
     refine z0c ?_
     refine z0c ?_
     refine z0b hN rfl ?_
     refine qd rfl ?_
     refine z0a (z3r rfl) ?_
     refine z0i _ rfl (fun h18 => ?_) (fun h18 => ?_)
     ·replace H:=ift h18 H
      refine z0c ?_
      refine z0b hN rfl ?_
      refine z0a (z0k (.row _ _) rfl) ?_
      refine qd rfl ?_
      refine z0a (z06 (u':=vlst (List.map z3o [(k7:Int)])) (z1w [[_]] y1x ⟨rfl,.inl ⟨_,rfl,rfl,rfl⟩,rfl,trivial⟩ rfl rfl) rfl) ?_
      obtain ⟨h19,H⟩:=gif H
      refine z0f (y50 y1x (fun _=>rfl) rfl rfl rfl ⟨by simp,by first | (simp; done) | simpa using h19⟩ rfl) rfl ?_
      refine z0a (z1j (.row _ _) rfl) ?_
      refine z1v ?_
      exact ⟨((l6++[(k7:Int)]),m5,m4),H,⟨rfl,rfl,rfl,rfl,rfl,rfl,rfl,trivial⟩,⟨rfl,rfl,rfl,rfl,rfl,trivial⟩⟩
     ·replace H:=iff_ h18 H
      refine z0s ?_
      refine z0c ?_
      refine z0b hN rfl ?_
      refine z0a (z0p y2r rfl) ?_
      refine z0j (z0n tyS9 rfl rfl) rfl ?_
      refine z0a (z0p y13 rfl) ?_
      refine z0j (z0n tyS9 rfl rfl) rfl ?_
      refine z0a (z06 (u':=vagg (y24 (z0q.mk x10.App x10.Product))) (z3k [(0,[vstr x10.App]),(1,[vstr x10.Product])] x8z w42 rfl ⟨rfl,.inl ⟨_,rfl,rfl,rfl⟩,rfl,rfl,.inl ⟨_,rfl,rfl,rfl⟩,rfl,trivial⟩) rfl) ?_
      refine z0f (z1h 9 x8z rfl) rfl ?_
      refine z0f (z02 x80 rfl rfl rfl rfl) rfl ?_
      refine z0c ?_
      refine z3q mixed hN rfl rfl ?_
      refine z0a (z0k (.ptr _ _) rfl) ?_
      refine z0a (y2i rfl) ?_
      refine z0a (z0p x1u rfl) ?_
      refine z0j (z0n w2d rfl rfl) rfl ?_
      refine z0j (z04 x80 rfl rfl rfl) rfl ?_
      refine z0j (z04 z4h rfl rfl rfl) rfl ?_
      obtain ⟨h20,H⟩:=gif H
      refine z0f (x6b (z0q.mk x10.App x10.Product) r16.1 z2r rfl rfl rfl h20) rfl ?_
      refine ⟨rfl,?_⟩
      refine z0c ?_
      refine z0b hN rfl ?_
      refine z0a (z0p z84 rfl) ?_
      refine z0j (z0n tyS3 rfl rfl) rfl ?_
      refine z0a (z12 rfl rfl) ?_
      refine z0i _ rfl (fun h21 => ?_) (fun h21 => ?_)
      ·replace H:=ift h21 H
       refine z3q mixed hN rfl rfl ?_
       refine z0a (z0k (.ptr _ _) rfl) ?_
       refine z0a (y2i rfl) ?_
       refine z0a (z0p x85 rfl) ?_
       refine z0j (z0n w60 rfl rfl) rfl ?_
       refine z0j (z04 x80 rfl rfl rfl) rfl ?_
       refine qd rfl ?_
       obtain ⟨h22,H⟩:=gif H
       refine z0f (x6b (z0q.mk x10.App x10.Product) (k7:Int) z83 rfl rfl rfl h22) rfl ?_
       refine ⟨rfl,?_⟩
       exact ⟨(l6,(ptG m5 (z0q.mk x10.App x10.Product) (k7:Int)),(ptG m4 (z0q.mk x10.App x10.Product) r16.1)),H,⟨rfl,rfl,rfl,rfl,rfl,rfl,rfl,trivial⟩,⟨rfl,rfl,rfl,rfl,rfl,trivial⟩⟩
      ·replace H:=iff_ h21 H
       refine z0s ?_
       exact ⟨(l6,m5,(ptG m4 (z0q.mk x10.App x10.Product) r16.1)),H,⟨rfl,rfl,rfl,rfl,rfl,rfl,rfl,trivial⟩,⟨rfl,rfl,rfl,rfl,rfl,trivial⟩⟩
   ·rintro ⟨v23,m24,m25⟩ H
    replace H:z6m v23 m24 m25=some q8:=H
    unfold z6m at H
    refine z0b hN rfl ?_
    refine z0a (z3v rfl rfl (by omega)) ?_
    refine qd rfl ?_
    exact ⟨_,z63 H,⟨rfl,rfl,rfl,rfl,rfl,rfl,rfl,trivial⟩,⟨rfl,rfl,rfl,rfl,rfl,trivial⟩⟩
 ·rintro ⟨v26,m27,m28⟩ H
  replace H:z6n v26 m27 m28=some r:=H
  unfold z6n at H
  refine z0c ?_
  refine z0b hN rfl ?_
  refine z0a (z0k (.ptr _ _) rfl) ?_
  refine z0a (z0k (.row _ _) rfl) ?_
  refine z0a (z1j (.ptr _ _) rfl) ?_
  refine z0a (z1j (.row _ _) rfl) ?_
  refine x7h 4 0 2 w4n rfl rfl rfl ?_
  refine x7h 4 1 3 w4n rfl rfl rfl ?_
  refine y4y 4 [vmpG z14 m28,vmpG z2q m27] rfl rfl ?_
  refine z0r ?_
  cases H
  exact ⟨trivial,.inl rfl,y3s rfl rfl,trivial⟩
theorem y4k (s1:z17) (app2:Bs) (product3:Bs) (r:(z0h)) (H:z56 s1 app2 product3=some r):Fn Tryz.prog 33 [z9m [[vmpG z14 s1.subs_,vmpG z2q s1.asks_]] 0 0,vstr app2,vstr product3] (z1x [vagg (z08 r)]):=by
 refine ⟨by kernel_rfl,z1k (us:=[vagg (z08 r)]) Tryz.func33 rfl rfl rfl rfl fun X hN => ?_⟩
 unfold z56 at H
 refine z0c ?_
 refine z0b hN rfl ?_
 refine z0f (z1h 1 y3h rfl) rfl ?_
 refine z0c ?_
 refine z0b hN rfl ?_
 refine qd rfl ?_
 refine z0a (x2c rfl) ?_
 refine z0a (y0c x1u rfl) ?_
 refine z0a (z1q w2d rfl rfl rfl) ?_
 refine qd rfl ?_
 refine qd rfl ?_
 refine z0a (z06 (u':=vagg (y24 (z0q.mk app2 product3))) (z3k [(0,[vstr app2]),(1,[vstr product3])] x8z w42 rfl ⟨rfl,.inl ⟨_,rfl,rfl,rfl⟩,rfl,rfl,.inl ⟨_,rfl,rfl,rfl⟩,rfl,trivial⟩) rfl) ?_
 obtain ⟨h4,H⟩:=gif H
 refine z0a (z06 (u':=vtup [vagg (z08 ((lkG s1.subs_ (z0q.mk app2 product3)).getD (z0h.mk 0 [] 0 0))),z1e ((lkG s1.subs_ (z0q.mk app2 product3)).isSome)]) (x46 (z0q.mk app2 product3) z2r rfl rfl h4) rfl) ?_
 refine qd rfl ?_
 refine z0a (z11 rfl rfl) ?_
 refine z0a (z11 rfl rfl) ?_
 refine z0f (z1h 2 y3h rfl) rfl ?_
 refine z0f (z02 z4h rfl rfl rfl rfl) rfl ?_
 refine qe rfl ?_
 refine z0c ?_
 refine z0c ?_
 refine z0b hN rfl ?_
 refine qd rfl ?_
 refine z0a (z3r rfl) ?_
 refine z0i _ rfl (fun h5 => ?_) (fun h5 => ?_)
 ·replace H:=ift h5 H
  refine z0c ?_
  refine z0b hN rfl ?_
  obtain ⟨r6,h7,H⟩:=bnd H
  refine z0a (z0x (y7r  r6 h7) trivial) ?_
  refine z0f (z02 z4h rfl rfl rfl rfl) rfl ?_
  refine z0r ?_
  have eH:r6=r:=Option.some.inj H
  subst eH
  exact ⟨trivial,.inl ⟨_,_,_,z08 r6,rfl,rfl,rfl,rfl,z4h⟩,trivial⟩
 ·replace H:=iff_ h5 H
  refine z0s ?_
  refine z0c ?_
  refine z0b hN rfl ?_
  refine z0j (z04 z4h rfl rfl rfl) rfl ?_
  refine z0f (z02 z4h rfl rfl rfl rfl) rfl ?_
  refine z0r ?_
  cases H
  exact ⟨trivial,.inl ⟨_,_,_,z08 (z0h.mk (((lkG s1.subs_ (z0q.mk app2 product3)).getD (z0h.mk 0 [] 0 0)).State) (((lkG s1.subs_ (z0q.mk app2 product3)).getD (z0h.mk 0 [] 0 0)).Plan) (((lkG s1.subs_ (z0q.mk app2 product3)).getD (z0h.mk 0 [] 0 0)).Since) (((lkG s1.subs_ (z0q.mk app2 product3)).getD (z0h.mk 0 [] 0 0)).First)),rfl,rfl,rfl,rfl,z4h⟩,trivial⟩
theorem x0v (c1:z0g) (apps2:(List z0t)) (l3:(List z0e)) (app4:Bs) (product5:Bs) (v6:Int) (r:(z0h×Int)) (H:y1e c1 apps2 l3 app4 product5 v6=some r):Fn Tryz.prog 9 [vagg (z1d c1),vlst (List.map z1l apps2),vlst (List.map z0w l3),vstr app4,vstr product5,vint v6] (z1x [vagg (z08 r.1),vint r.2]):=by
 refine ⟨by kernel_rfl,z1k (us:=[vagg (z08 r.1),vint r.2]) Tryz.func9 rfl rfl rfl rfl fun X hN => ?_⟩
 unfold y1e at H
 refine z0c ?_
 refine z0b hN rfl ?_
 refine z0f (z2h 1 rfl) rfl ?_
 refine z0f (z1h 2 y3h rfl) rfl ?_
 refine qe rfl ?_
 refine z0c ?_
 refine z0c ?_
 refine z0b hN rfl ?_
 refine z0j (z04 z5d rfl rfl rfl) rfl ?_
 refine qd rfl ?_
 refine qd rfl ?_
 obtain ⟨r7,h8,H⟩:=bnd H
 refine z0a (z0x (y19 c1 apps2 l3 r7 h8) ⟨.inl rfl,.inl rfl,.inl rfl,trivial⟩) ?_
 refine qe rfl ?_
 refine z0c ?_
 refine z0b hN rfl ?_
 refine qd rfl ?_
 refine z0a (z6i rfl rfl) ?_
 refine z0i _ rfl (fun h9 => ?_) (fun h9 => ?_)
 ·replace H:=ift h9 H
  refine z0c ?_
  refine z0b hN rfl ?_
  refine z0a (z06 (u':=vagg (z08 (z0h.mk 0 [] 0 0))) (z3k [] y3h x7r rfl trivial) rfl) ?_
  refine qd rfl ?_
  refine z0f (z02 z4h rfl rfl rfl rfl) rfl ?_
  refine qe rfl ?_
  refine z0r ?_
  cases H
  exact ⟨trivial,.inl ⟨_,_,_,z08 (z0h.mk 0 [] 0 0),rfl,rfl,rfl,rfl,z4h⟩,.inl rfl,trivial⟩
 ·replace H:=iff_ h9 H
  refine z0s ?_
  refine z0c ?_
  refine z0c ?_
  refine z0b hN rfl ?_
  refine z0j (z04 z5d rfl rfl rfl) rfl ?_
  refine qd rfl ?_
  refine qd rfl ?_
  refine qd rfl ?_
  refine qd rfl ?_
  obtain ⟨r10,h11,H⟩:=bnd H
  refine z0a (z0x (y8b c1 apps2 app4 product5 v6 r10 h11) ⟨.inl rfl,.inl rfl,.inl rfl,.inl rfl,.inl rfl,trivial⟩) ?_
  refine qe rfl ?_
  refine z0c ?_
  refine z0b hN rfl ?_
  refine qd rfl ?_
  refine z0a (z6i rfl rfl) ?_
  refine z0i _ rfl (fun h12 => ?_) (fun h12 => ?_)
  ·replace H:=ift h12 H
   refine z0c ?_
   refine z0b hN rfl ?_
   refine z0a (z06 (u':=vagg (z08 (z0h.mk 0 [] 0 0))) (z3k [] y3h x7r rfl trivial) rfl) ?_
   refine qd rfl ?_
   refine z0f (z02 z4h rfl rfl rfl rfl) rfl ?_
   refine qe rfl ?_
   refine z0r ?_
   cases H
   exact ⟨trivial,.inl ⟨_,_,_,z08 (z0h.mk 0 [] 0 0),rfl,rfl,rfl,rfl,z4h⟩,.inl rfl,trivial⟩
  ·replace H:=iff_ h12 H
   refine z0s ?_
   refine z0c ?_
   refine z0b hN rfl ?_
   refine z0j (z04 z5d rfl rfl rfl) rfl ?_
   refine qd rfl ?_
   refine qd rfl ?_
   obtain ⟨r13,h14,H⟩:=bnd H
   refine z0a (z0x (y3a c1 l3 v6 r13 h14) ⟨.inl rfl,.inl rfl,.inl rfl,trivial⟩) ?_
   refine qd rfl ?_
   refine z0a (z11 rfl rfl) ?_
   refine z0a (z11 rfl rfl) ?_
   refine qe rfl ?_
   refine qe rfl ?_
   refine z0c ?_
   refine z0b hN rfl ?_
   refine qd rfl ?_
   refine qd rfl ?_
   refine qd rfl ?_
   obtain ⟨r15,h16,H⟩:=bnd H
   refine z0a (z0x (y4k r13.1 app4 product5 r15 h16) ⟨.inl rfl,.inl rfl,.inl rfl,trivial⟩) ?_
   refine z0f (z02 z4h rfl rfl rfl rfl) rfl ?_
   refine qe rfl ?_
   refine z0r ?_
   cases H
   exact ⟨trivial,.inl ⟨_,_,_,z08 r15,rfl,rfl,rfl,rfl,z4h⟩,.inl rfl,trivial⟩
theorem y41 (l r:List Int) (H:z8z l=some r):FnG Tryz.prog 35 [.row 0 l.length] [(0,.rowA undef 3 1 (List.map z3o l))] (.dat (z1x [])) [(0,.rowA undef 3 1 (List.map z3o r))]:=by
 obtain ⟨hl,hr⟩:=x3v H
 refine x64 (Value.int .i64) r l (x2h H) (by kernel_rfl) (fun _=>rfl) (fun blk cap w hH hb => ?_) (fun h w => ?_)
 ·rw [hr]; exact Tryz.slices_Sort_int blk 0 cap l w hH hb (by omega)
 ·exact Tryz.slices_Sort_int_none none 0 w
theorem y81 (c1:z0g) (apps2:(List z0t)) (l3:(List z0e)) (v4:Int) (r:((List Int)×Int)) (H:z9t c1 apps2 l3 v4=some r):Fn Tryz.prog 10 [vagg (z1d c1),vlst (List.map z1l apps2),vlst (List.map z0w l3),vint v4] (z1x [vlst (List.map z3o r.1),vint r.2]):=by
 refine ⟨by kernel_rfl,z1k (us:=[vlst (List.map z3o r.1),vint r.2]) Tryz.func10 rfl rfl rfl rfl fun X hN => ?_⟩
 unfold z9t at H
 refine z0c ?_
 refine z0b hN rfl ?_
 refine z0f (z2h 1 rfl) rfl ?_
 refine qe rfl ?_
 refine qe rfl ?_
 refine z0c ?_
 refine z0c ?_
 refine z0b hN rfl ?_
 refine z0j (z04 z5d rfl rfl rfl) rfl ?_
 refine qd rfl ?_
 refine qd rfl ?_
 obtain ⟨r5,h6,H⟩:=bnd H
 refine z0a (z0x (y19 c1 apps2 l3 r5 h6) ⟨.inl rfl,.inl rfl,.inl rfl,trivial⟩) ?_
 refine qe rfl ?_
 refine z0c ?_
 refine z0b hN rfl ?_
 refine qd rfl ?_
 refine z0a (z6i rfl rfl) ?_
 refine z0i _ rfl (fun h7 => ?_) (fun h7 => ?_)
 ·replace H:=ift h7 H
  refine z0c ?_
  refine z0b hN rfl ?_
  refine qd rfl ?_
  refine qe rfl ?_
  refine qe rfl ?_
  refine z0r ?_
  cases H
  exact ⟨trivial,.inr ⟨rfl,rfl⟩,.inl rfl,trivial⟩
 ·replace H:=iff_ h7 H
  refine z0s ?_
  refine z0c ?_
  refine z0c ?_
  refine z0b hN rfl ?_
  refine qd rfl ?_
  obtain ⟨r8,h9,H⟩:=bnd H
  refine z0a (z0x (y18 v4 r8 h9) ⟨.inl rfl,trivial⟩) ?_
  refine qe rfl ?_
  refine z0c ?_
  refine z0b hN rfl ?_
  refine qd rfl ?_
  refine z0a (z6i rfl rfl) ?_
  refine z0i _ rfl (fun h10 => ?_) (fun h10 => ?_)
  ·replace H:=ift h10 H
   refine z0c ?_
   refine z0b hN rfl ?_
   refine qd rfl ?_
   refine qe rfl ?_
   refine qe rfl ?_
   refine z0r ?_
   cases H
   exact ⟨trivial,.inr ⟨rfl,rfl⟩,.inl rfl,trivial⟩
  ·replace H:=iff_ h10 H
   refine z0s ?_
   refine z0c ?_
   refine z0b hN rfl ?_
   refine z0j (z04 z5d rfl rfl rfl) rfl ?_
   refine qd rfl ?_
   refine qd rfl ?_
   obtain ⟨r11,h12,H⟩:=bnd H
   refine z0a (z0x (y3a c1 l3 v4 r11 h12) ⟨.inl rfl,.inl rfl,.inl rfl,trivial⟩) ?_
   refine qd rfl ?_
   refine z0a (z11 rfl rfl) ?_
   refine z0a (z11 rfl rfl) ?_
   refine qe rfl ?_
   refine qe rfl ?_
   refine z0c ?_
   refine z0b hN rfl ?_
   refine qe rfl ?_
   refine z0c ?_
   refine z0c ?_
   refine w32 12 0 rfl rfl fun b13 e14 c15 h16 => ?_
   refine z0b hN rfl ?_
   refine qd rfl ?_
   refine z0a (x2c rfl) ?_
   refine z0a (y0c x1u rfl) ?_
   refine z0a (z1q w2d rfl rfl rfl) ?_
   refine z0f (x7w 2 z2r h16 rfl) rfl ?_
   refine z0y ?_
   refine z82 14 3 3 1 rfl rfl rfl ?_
   refine w31 (fun (s:(List Int))=>[(12,.dat (z9m [[vmpX b13 e14 c15,vmpG z2q r11.1.asks_]] 0 0)),(14,.row 3 s.length),(40,.dr 2 (vIt b13 e14 c15))]) (fun (q:List (z0q×z0h)) (s:(List Int))=>[(2,.opq none (itO z14 b13 e14 c15 (q) none)),(3,.row 3 1 (List.map z3o s))]) [] H ⟨rfl,rfl,rfl,trivial⟩ ⟨rfl,rfl,trivial⟩ (fun _ _=>rfl) ?_
   rintro q19 l17 h23
   refine z0c ?_
   refine w6n hN rfl rfl (w36 z2r h16 rfl rfl) ?_
   rintro ⟨_ | ⟨j20,x21⟩,h22⟩
   ·have H:z8y l17=some r:=h23 [] (by rw [show q19=[] from h22])
    unfold z8y at H
    refine z0a (z11 rfl rfl) ?_
    refine z0c ?_
    refine z0i _ rfl (fun h=>(tf_f h).elim) (fun h => ?_)
    refine z1v ?_
    refine z0c ?_
    refine z0b hN rfl ?_
    refine z0a (z0k (.row _ _) rfl) ?_
    obtain ⟨r25,h26,H⟩:=bnd H
    refine z7u (rn [(0,3)]) [(0,_,_,some _)] [] (y41 l17 r25 h26) ⟨rfl,trivial⟩ ⟨.inl (.inl rfl),trivial⟩ ⟨⟨⟨rfl,rfl,rfl⟩,by simp [y8v,x2h h26]⟩,trivial⟩ rfl ?_
    refine z0c ?_
    refine z0b hN rfl ?_
    refine z0a (z0k (.row _ _) rfl) ?_
    refine z0a (z1j (.row _ _) rfl) ?_
    refine qe rfl ?_
    refine z0r ?_
    cases H
    exact ⟨trivial,y3s rfl (x2h h26).symm,.inl rfl,trivial⟩
   ·obtain ⟨q18,H,hq18,h24⟩:=w04 h23 (show q19[j20]?=some x21 from h22)
    replace H:z7b r11 x21 l17=some q18:=H
    unfold z7b at H
    refine z0a (z11 rfl rfl) ?_
    refine z0c ?_
    refine z0i _ rfl (fun h => ?_) (fun h=>(tf_t h).elim)
    refine z0s ?_
    refine z0y ?_
    refine z0c ?_
    refine z0b hN rfl ?_
    refine z0j (x71 z2r h16 rfl) rfl ?_
    refine z0a (z11 rfl rfl) ?_
    refine z0a (z11 rfl rfl) ?_
    refine z0f (z1h 4 x8z rfl) rfl ?_
    refine z0f (z1h 5 y3h rfl) rfl ?_
    refine z0f (z02 x80 rfl rfl rfl rfl) rfl ?_
    refine z0f (z02 z4h rfl rfl rfl rfl) rfl ?_
    refine w6m 2 w7k rfl ?_
    refine z0c ?_
    refine z0b hN rfl ?_
    refine z0a (z0p z8j rfl) ?_
    refine z0j (z0n tyS3 rfl rfl) rfl ?_
    refine z0a (z12 rfl rfl) ?_
    refine z0i _ rfl (fun h27 => ?_) (fun h27 => ?_)
    ·replace H:=ift h27 H
     refine z3q mixed hN rfl rfl ?_
     refine z0a (z0k (.row _ _) rfl) ?_
     refine qd rfl ?_
     refine z0a (x2c rfl) ?_
     refine z0a (y0c x85 rfl) ?_
     refine z0a (z1q w60 rfl rfl rfl) ?_
     refine z0j (z04 x80 rfl rfl rfl) rfl ?_
     obtain ⟨h28,H⟩:=gif H
     refine z0a (z06 (u':=vint ((lkG r11.1.asks_ x21.1).getD 0)) (x7x x21.1 z83 rfl rfl h28) rfl) ?_
     refine z0a (z06 (u':=vlst (List.map z3o [((lkG r11.1.asks_ x21.1).getD 0)])) (z1w [[_]] y1x ⟨rfl,.inl ⟨_,rfl,rfl,rfl⟩,rfl,trivial⟩ rfl rfl) rfl) ?_
     obtain ⟨h29,H⟩:=gif H
     refine z0f (y50 y1x (fun _=>rfl) rfl rfl rfl ⟨by simp,by first | (simp; done) | simpa using h29⟩ rfl) rfl ?_
     refine z0a (z1j (.row _ _) rfl) ?_
     refine ⟨rfl,?_⟩
     exact ⟨_,_,x67 (show q19[j20]?=some _ from h22),h24 _ (z63 H),⟨rfl,rfl,rfl,trivial⟩,⟨rfl,rfl,trivial⟩⟩
    ·replace H:=iff_ h27 H
     refine z0s ?_
     exact ⟨_,_,x67 (show q19[j20]?=some _ from h22),h24 _ (z63 H),⟨rfl,rfl,rfl,trivial⟩,⟨rfl,rfl,trivial⟩⟩
theorem y0a (l r:List Bs) (H:z96 l=some r):FnG Tryz.prog 120 [.dat (vlst (List.map z00 l))] [] (.row 900 r.length) [(900,.row 9 1 (List.map z00 r))]:=by
 obtain ⟨hl,rfl⟩:=x8r H
 refine y65 (by kernel_rfl) Tryz.func120 rfl rfl rfl rfl fun X A hN => ?_
 refine x51 0 rfl (fun h0 => ?_) ?_
 ·obtain rfl:=List.map_eq_nil_iff.1 h0
  refine z0c ?_
  refine z0b hN rfl ?_
  refine qe rfl ?_
  refine z0c ?_
  refine z0c ?_
  refine z0b hN rfl ?_
  refine qd rfl ?_
  refine z0a (x48 y2p rfl) ?_
  refine z0i _ rfl (fun h => ?_) (fun h=>by cases h)
  refine z0c ?_
  refine z0b hN rfl ?_
  refine qe rfl ?_
  refine z82 2 900 9 1 rfl rfl rfl ?_
  refine z0r ?_
  exact ⟨trivial,[(2,.row 900 0)],⟨rfl,trivial⟩,⟨rfl,trivial⟩,rfl,.inr (.inl ⟨2,rfl,rfl⟩)⟩
 ·refine z0c ?_
  refine z0b hN rfl ?_
  refine qe rfl ?_
  refine z0c ?_
  refine z0c ?_
  refine z0b hN rfl ?_
  refine qd rfl ?_
  refine z0a (x5a y2p rfl) ?_
  refine z0i _ rfl (fun h=>by cases h) (fun h => ?_)
  refine z0s ?_
  refine z0c ?_
  refine w7u 0 (u':=vlst (List.map z00 l)) rfl w70 ?_
  refine z0b hN rfl ?_
  refine z0f (w2s 900 y06) rfl ?_
  refine qd rfl ?_
  refine z0f (x9c (C:=z00) (xs:=[]) y06 (fun _=>rfl) rfl rfl rfl (by simpa using hl) rfl) rfl ?_
  refine z0a (z1j (.row _ _) rfl) ?_
  refine z0r ?_
  exact ⟨trivial,[(2,.row 900 l.length)],⟨rfl,trivial⟩,⟨rfl,trivial⟩,rfl,.inr (.inl ⟨2,rfl,rfl⟩)⟩
theorem y0q (l r:List Bs) (H:z4y l=some r):FnG Tryz.prog 81 [.row 0 l.length] [(0,.rowA undef 9 1 (List.map z00 l))] (.dat (z1x [])) [(0,.rowA undef 9 1 (List.map z00 r))]:=by
 obtain ⟨hl,hr⟩:=x09 H
 refine x64 (fun s:Bs=>Value.string ⟨s.toArray⟩) r l (y6b H) (by kernel_rfl) (fun _=>rfl) (fun blk cap w hH hb => ?_) (fun h w => ?_)
 ·rw [hr]; exact Tryz.slices_Sort_string blk 0 cap l w hH hb (by omega)
 ·exact Tryz.slices_Sort_string_none none 0 w
theorem z9l (l r:List Bs) (H:z4k l=some r):FnG Tryz.prog 82 [.row 0 l.length] [(0,.row 9 1 (List.map z00 l))] (.row 900 r.length) [(900,.row 9 1 (List.map z00 r))]:=by
 obtain ⟨h1,rfl⟩:=x2z H
 exact w06 (fun s:Bs=>Value.string ⟨s.toArray⟩) [] (Lib.compact l) l (x0k l) (by kernel_rfl) (fun _=>rfl) (fun blk cap w hH hc=>Tryz.slices_Compact_string blk 0 cap l w hH (by omega) hc) (fun h a cap w=>Tryz.slices_Compact_string_empty a cap w)
theorem x4b (l1:(List Bs)) (r:((List Bs))) (H:y3k l1=some r):Fn Tryz.prog 118 [vlst (List.map z00 l1)] (z1x [vlst (List.map z00 r)]):=by
 refine ⟨by kernel_rfl,z1k (us:=[vlst (List.map z00 r)]) Tryz.func118 rfl rfl rfl rfl fun X hN => ?_⟩
 unfold y3k at H
 refine z0c ?_
 refine z0b hN rfl ?_
 refine qe rfl ?_
 refine z0c ?_
 refine z0b hN rfl ?_
 refine qd rfl ?_
 obtain ⟨r2,h3,H⟩:=bnd H
 refine z7u (rn [(900,1)]) [] [(900,_)] (y0a l1 r2 h3) ⟨rfl,trivial⟩ ⟨.inl (.inl rfl),trivial⟩ trivial rfl ?_
 refine z0a (z1j (.row _ _) rfl) ?_
 refine z0c ?_
 refine z0b hN rfl ?_
 refine z0a (z0k (.row _ _) rfl) ?_
 obtain ⟨r4,h5,H⟩:=bnd H
 refine z7u (rn [(0,1)]) [(0,_,_,some _)] [] (y0q r2 r4 h5) ⟨rfl,trivial⟩ ⟨.inl (.inl rfl),trivial⟩ ⟨⟨⟨rfl,rfl,rfl⟩,by simp [y8v,y6b h5]⟩,trivial⟩ rfl ?_
 refine z0c ?_
 refine z0b hN rfl ?_
 refine z0a (z0k (.row _ _) rfl) ?_
 obtain ⟨r6,h7,H⟩:=bnd H
 refine z7u (rn [(0,1),(900,2)]) [(0,_,_,none)] [(900,_)] (z9l r4 r6 h7) ⟨rfl,rfl,trivial⟩ ⟨.inl (.inl (congrArg (Slot.row 1) (y6b h5).symm)),trivial⟩ ⟨⟨⟨rfl,rfl,rfl⟩,trivial⟩,trivial⟩ rfl ?_
 refine z0a (z1j (.row _ _) rfl) ?_
 refine z0r ?_
 cases H
 exact ⟨trivial,y3s rfl rfl,trivial⟩
theorem z9f (s1:(List Bs)) (p1:Bs→Option (Bool)) (fv1:Nat) (us1:List V) (hp1:∀ a0 r,p1 a0=some r→Fn Tryz.prog fv1 ([vstr a0]++us1) (z1x [z1e r])) (r:(Int)) (H:z4j s1 p1=some r):Fn Tryz.prog 124 [vlst (List.map z00 s1),vfn fv1 us1] (z1x [vint r]):=by
 refine ⟨by kernel_rfl,z1k (us:=[vint r]) Tryz.func124 rfl rfl rfl rfl fun X hN => ?_⟩
 unfold z4j at H
 refine z0c ?_
 refine z0b hN rfl ?_
 refine qe rfl ?_
 refine z0c ?_
 refine z0c ?_
 refine z0b hN rfl ?_
 refine qd rfl ?_
 refine z0a (z43 y2p rfl) ?_
 refine qd rfl ?_
 refine z0y ?_
 obtain ⟨h4,H⟩:=gif H
 refine z3u (fun (k2:Nat) (s:Unit)=>[(0,.dat (vlst (List.map z00 s1))),(1,.dat (vfn fv1 us1)),(7,.dat (vint (s1.length:Int))),(8,.dat (vint (k2:Int)))]) (fun (k2:Nat) (s:Unit)=>[]) () H ⟨rfl,rfl,rfl,rfl,trivial⟩ trivial (fun _ _=>rfl) ?_ ?_
 ·rintro ⟨⟩ H
  replace H:z5x=some r:=H
  unfold z5x at H
  refine z0c ?_
  refine z0b hN rfl ?_
  refine z0a (z05 rfl rfl) ?_
  refine z0c ?_
  refine z0i _ rfl (fun h=>(lt_t h).elim) (fun h => ?_)
  refine z1v ?_
  refine z0c ?_
  refine z0b hN rfl ?_
  refine qe rfl ?_
  refine z0r ?_
  cases H
  exact ⟨trivial,.inl rfl,trivial⟩
 ·rintro k2 x5 ⟨⟩ q3 h6 h7 H hq3
  replace H:z5w p1 k2 x5=some q3:=H
  unfold z5w at H
  refine z0c ?_
  refine z0b hN rfl ?_
  refine z0a (z05 rfl rfl) ?_
  refine z0c ?_
  refine z0i _ rfl (fun h => ?_) (fun h=>(lt_f h6 h).elim)
  refine z0s ?_
  refine z0c ?_
  refine z0y ?_
  refine z0c ?_
  refine z0b hN rfl ?_
  refine qd rfl ?_
  refine qe rfl ?_
  refine z0c ?_
  refine z0b hN rfl ?_
  refine qd rfl ?_
  refine qd rfl ?_
  refine qd rfl ?_
  refine z0a (y1g y5z (fun _=>rfl) rfl rfl h7) ?_
  refine z0a (z1q tyS9 rfl (z29 h7) rfl) ?_
  obtain ⟨r8,h9,H⟩:=bnd H
  refine z0a (z9v (hp1 x5 r8 h9) rfl ⟨.inl rfl,trivial⟩) ?_
  refine z0i _ rfl (fun h10 => ?_) (fun h10 => ?_)
  ·replace H:=ift h10 H
   refine z0c ?_
   refine z0b hN rfl ?_
   refine qd rfl ?_
   refine qe rfl ?_
   refine z0r ?_
   replace H:=retl H hq3
   cases H
   exact ⟨trivial,.inl rfl,trivial⟩
  ·replace H:=iff_ h10 H
   refine z0s ?_
   refine z0b hN rfl ?_
   refine z0a (z3v rfl rfl (by omega)) ?_
   refine qd rfl ?_
   exact ⟨_,z63 H,⟨rfl,rfl,rfl,rfl,trivial⟩,trivial⟩
theorem y16 (s1:(List Bs)) (p1:Bs→Option (Bool)) (fv1:Nat) (us1:List V) (hp1:∀ a0 r,p1 a0=some r→Fn Tryz.prog fv1 ([vstr a0]++us1) (z1x [z1e r])) (r:((List Bs))) (H:z4a s1 p1=some r):FnG Tryz.prog 119 [.row 0 s1.length,.dat (vfn fv1 us1)] [(0,.row 9 1 (List.map z00 s1))] (.row 900 r.length) [(900,.row 9 1 (List.map z00 r))]:=by
 refine y65 (by kernel_rfl) Tryz.func119 rfl rfl rfl rfl fun X A hN => ?_
 unfold z4a at H
 refine z0c ?_
 refine z0b hN rfl ?_
 refine qe rfl ?_
 refine z0c ?_
 refine z0b hN rfl ?_
 refine z0a (z0k (.row _ _) rfl) ?_
 refine qd rfl ?_
 obtain ⟨r2,h3,H⟩:=bnd H
 refine z0j (x9n (id:=0) (es:=List.map z00 s1) (z9f s1 p1 fv1 us1 hp1 r2 h3) ⟨.inr ⟨(congrArg (Slot.row 0) (by rw [List.length_map]):Slot.row 0 s1.length=_),rfl⟩,.inl (.inl (.inl rfl)),trivial⟩ (fun _ _ _ _ h=>h)) rfl ?_
 refine qe rfl ?_
 refine z0c ?_
 refine z0c ?_
 refine z0b hN rfl ?_
 refine qd rfl ?_
 refine z0a (z12 rfl rfl) ?_
 refine z0i _ rfl (fun h4 => ?_) (fun h4 => ?_)
 ·replace H:=ift h4 H
  refine z0c ?_
  refine z0b hN rfl ?_
  refine z0a (z0k (.row _ _) rfl) ?_
  refine z0a (z1j (.row _ _) rfl) ?_
  refine x0o 4 0 900 rfl rfl (by rw [List.length_map]) rfl ?_
  refine z0r ?_
  cases H
  exact ⟨trivial,[(4,.row 900 _)],⟨rfl,trivial⟩,⟨rfl,trivial⟩,rfl,.inr (.inl ⟨4,rfl,rfl⟩)⟩
 ·replace H:=iff_ h4 H
  refine z0s ?_
  refine z1a (ι:=Int×(List Bs)) (fun i=>[(0,.row 0 i.2.length),(5,.dat (vint i.1))]) (fun i=>[(0,.row 9 1 (List.map z00 i.2))]) (fun i=>z32 i.1 i.2=some r) (fun i=>rfl) ?_ ?_
  ·skip
   refine z0c ?_
   refine z0b hN rfl ?_
   refine qd rfl ?_
   refine z0a (z1s _ rfl rfl (.inl ⟨rfl,rfl⟩)) ?_
   refine qe rfl ?_
   refine z0y ?_
   refine y23 (fun (s:Int×Int×(List Bs))=>[(0,.row 0 s.2.2.length),(1,.dat (vfn fv1 us1)),(5,.dat (vint s.1)),(6,.dat (vint s.2.1))]) (fun (s:Int×Int×(List Bs))=>[(0,.row 9 1 (List.map z00 s.2.2))]) (r2,wr (r2+1),s1) H ⟨rfl,rfl,rfl,rfl,trivial⟩ ⟨rfl,trivial⟩ (fun _=>rfl) ?_
   rintro ⟨i5,j6,l7⟩ q8 H hq8
   replace H:z5o p1 i5 j6 l7=some q8:=H
   unfold z5o at H
   refine z0c ?_
   refine z0c ?_
   refine z0b hN rfl ?_
   refine qd rfl ?_
   refine z0a (z0k (.row _ _) rfl) ?_
   refine z0j (y7j y2p rfl rfl) rfl ?_
   refine z0a (z05 rfl rfl) ?_
   refine z0i _ rfl (fun h9 => ?_) (fun h9 => ?_)
   ·replace H:=ift h9 H
    refine z0s ?_
    refine z1a (ι:=Int×(List Bs)) (fun i=>[(0,.row 0 i.2.length),(1,.dat (vfn fv1 us1)),(5,.dat (vint i.1)),(6,.dat (vint j6))]) (fun i=>[(0,.row 9 1 (List.map z00 i.2))]) (fun i=>z25 j6 i.1 i.2=some q8) (fun i=>rfl) ?_ ?_
    ·skip
     refine z0y ?_
     refine z0c ?_
     refine z0b hN rfl ?_
     refine z0a (z0k (.row _ _) rfl) ?_
     refine qd rfl ?_
     obtain ⟨x10,h11,H⟩:=bnd H
     refine z0j (y6a y5z rfl rfl rfl h11) rfl ?_
     refine z0j (x57 tyS9 rfl rfl (z2m h11).2 rfl) rfl ?_
     refine qe rfl ?_
     refine z0c ?_
     refine z0b hN rfl ?_
     refine qd rfl ?_
     refine qd rfl ?_
     obtain ⟨r12,h13,H⟩:=bnd H
     refine z0a (z9v (hp1 x10 r12 h13) rfl ⟨.inl rfl,trivial⟩) ?_
     refine z0a (z3r rfl) ?_
     refine z0i _ rfl (fun h14 => ?_) (fun h14 => ?_)
     ·replace H:=ift h14 H
      refine z0c ?_
      refine z0b hN rfl ?_
      refine z0a (z0k (.row _ _) rfl) ?_
      refine qd rfl ?_
      refine qd rfl ?_
      obtain ⟨x15,h16,H⟩:=bnd H
      refine z0j (y6a y5z rfl rfl rfl h16) rfl ?_
      refine z0f (y5l x10 tyS9 rfl rfl rfl rfl (z2m h16).2 rfl rfl) rfl ?_
      refine z0b hN rfl ?_
      refine qd rfl ?_
      refine z0a (z1s _ rfl rfl (.inl ⟨rfl,rfl⟩)) ?_
      refine qe rfl ?_
      exact ⟨(wr (i5+1),(l7.set i5.toNat x10)),H,⟨congrArg (Slot.row 0) (by simp),rfl,rfl,rfl,trivial⟩,⟨rfl,trivial⟩⟩
     ·replace H:=iff_ h14 H
      refine z0s ?_
      exact ⟨(i5,l7),H,⟨rfl,rfl,rfl,rfl,trivial⟩,⟨rfl,trivial⟩⟩
    ·rintro ⟨i17,s18⟩ H
     replace H:z25 j6 i17 s18=some q8:=H
     unfold z25 at H
     refine z0b hN rfl ?_
     refine qd rfl ?_
     refine z0a (z1s _ rfl rfl (.inl ⟨rfl,rfl⟩)) ?_
     refine qe rfl ?_
     exact ⟨_,z63 H,⟨rfl,rfl,rfl,rfl,trivial⟩,⟨rfl,trivial⟩⟩
   ·replace H:=iff_ h9 H
    refine z1v ?_
    replace H:=outl H hq8
    exact ⟨(i5,l7),H,⟨rfl,rfl,trivial⟩,⟨rfl,trivial⟩⟩
  ·rintro ⟨i19,s20⟩ H
   replace H:z32 i19 s20=some r:=H
   unfold z32 at H
   refine z0c ?_
   refine z0b hN rfl ?_
   refine z0a (z0k (.row _ _) rfl) ?_
   refine qd rfl ?_
   obtain ⟨h21,H⟩:=gif H
   refine z0j (x9a (C:=z00) y5z rfl rfl rfl h21) rfl ?_
   refine z0f (x9b (C:=z00) [] y2p tyZ9 rfl rfl rfl rfl rfl h21) rfl ?_
   refine z0c ?_
   refine z0b hN rfl ?_
   refine z0a (z0k (.row _ _) rfl) ?_
   refine qd rfl ?_
   obtain ⟨h22,H⟩:=gif H
   refine y89 (w46 (C:=z00) 1 y5z rfl (w1m [] h21) rfl h22) rfl rfl ?_
   refine z0a (z1j (.row _ _) rfl) ?_
   refine x0o 4 1 900 rfl rfl (by rw [List.length_map]; exact (x0h h22)) rfl ?_
   refine z0r ?_
   cases H
   exact ⟨trivial,[(4,.row 900 _)],⟨rfl,trivial⟩,⟨rfl,trivial⟩,rfl,.inr (.inl ⟨4,rfl,congrArg (Slot.row 900) (by first | exact x0h (by assumption) | (simp <;> omega))⟩)⟩
theorem z8e (s1:(List Bs)) (p1:Bs→Option (Bool)) (fv1:Nat) (us1:List V) (hp1:∀ a0 r,p1 a0=some r→Fn Tryz.prog fv1 ([vstr a0]++us1) (z1x [z1e r])) (r:(Bool)) (H:z2v s1 p1=some r):Fn Tryz.prog 78 [vlst (List.map z00 s1),vfn fv1 us1] (z1x [z1e r]):=by
 refine ⟨by kernel_rfl,z1k (us:=[z1e r]) Tryz.func78 rfl rfl rfl rfl fun X hN => ?_⟩
 unfold z2v at H
 refine z0c ?_
 refine z0b hN rfl ?_
 refine qe rfl ?_
 refine z0c ?_
 refine z0b hN rfl ?_
 refine qd rfl ?_
 refine qd rfl ?_
 obtain ⟨r2,h3,H⟩:=bnd H
 refine z0a (z0x (z9f s1 p1 fv1 us1 hp1 r2 h3) ⟨.inl rfl,.inl rfl,trivial⟩) ?_
 refine z0a (y5o rfl rfl) ?_
 refine qe rfl ?_
 refine z0r ?_
 cases H
 exact ⟨trivial,.inl rfl,trivial⟩
theorem y4i (s p:Bs) (r:Bs×Bool) (H:z55 s p=some r):Fn Tryz.prog 125 [vstr s,vstr p] (z1x [vstr r.1,z1e r.2]):=by
 obtain ⟨h1,rfl⟩:=x0z H
 refine y4o (by kernel_rfl) fun M w vs h => ?_
 have hv:=y8j (us:=[.string ⟨s.toArray⟩,.string ⟨p.toArray⟩]) h
 subst hv
 refine (Tryz.strings_CutSuffix ⟨s.toArray⟩ ⟨p.toArray⟩ w (by simp [ByteArray.size]; omega)).mono ?_
 rintro e w' ⟨rfl,rfl⟩
 refine ⟨_,rfl,⟨[_,_],rfl,rfl,fun j u hj => ?_⟩,Kp.refl _ _⟩
 rcases j with _ | _ | j
 ·cases hj; exact ⟨_,rfl,rfl⟩
 ·cases hj; exact ⟨_,rfl,rfl⟩
 ·simp at hj
theorem y4h (s p:Bs) (r:Bool) (H:z88 s p=some r):Fn Tryz.prog 126 [vstr s,vstr p] (z1x [z1e r]):=by
 cases H
 refine y4o (by kernel_rfl) fun M w vs h => ?_
 have h1:=y8j (us:=[.string ⟨s.toArray⟩,.string ⟨p.toArray⟩]) h
 subst h1
 refine (Tryz.strings_HasPrefix ⟨s.toArray⟩ ⟨p.toArray⟩ w).mono ?_
 rintro e w' ⟨rfl,rfl⟩
 exact ⟨_,rfl,rfl,Kp.refl _ _⟩
theorem x0s (a1:Bs) (b2:Bs) (r:(Bool)) (H:y2c a1 b2=some r):Fn Tryz.prog 123 [vstr a1,vstr b2] (z1x [z1e r]):=by
 refine ⟨by kernel_rfl,z1k (us:=[z1e r]) Tryz.func123 rfl rfl rfl rfl fun X hN => ?_⟩
 unfold y2c at H
 refine z0c ?_
 refine z0b hN rfl ?_
 refine qe rfl ?_
 refine z0c ?_
 refine z0c ?_
 refine z0b hN rfl ?_
 refine qd rfl ?_
 refine qd rfl ?_
 refine z0a (y33 rfl rfl) ?_
 refine z0i _ rfl (fun h3 => ?_) (fun h3 => ?_)
 ·replace H:=ift h3 H
  refine z0c ?_
  refine z0b hN rfl ?_
  refine qe rfl ?_
  refine z0r ?_
  cases H
  exact ⟨trivial,.inl rfl,trivial⟩
 ·replace H:=iff_ h3 H
  refine z0s ?_
  refine z0c ?_
  refine z0b hN rfl ?_
  refine qd rfl ?_
  obtain ⟨r4,h5,H⟩:=bnd H
  refine z0a (z0x (y4i a1 [42] r4 h5) ⟨.inl rfl,.inl rfl,trivial⟩) ?_
  refine qd rfl ?_
  refine z0a (z11 rfl rfl) ?_
  refine z0a (z11 rfl rfl) ?_
  refine qe rfl ?_
  refine qe rfl ?_
  refine z1a (ι:=Bool) (fun i=>[(4,.dat (z1e i))]) (fun i=>[]) (fun i=>y0f i=some r) (fun i=>rfl) ?_ ?_
  ·skip
   refine z0b hN rfl ?_
   refine qd rfl ?_
   refine qd rfl ?_
   refine z19 (j:=1) rfl rfl (fun h6 => ?_) (fun h6 => ?_) rfl
   ·have h7:=un1 h6
    replace H:=ift h7 H
    refine z03 rfl rfl h6 (z0k (.dat _) rfl) ?_
    refine z03 rfl rfl h6 (z0k (.dat _) rfl) ?_
    obtain ⟨r8,h9,H⟩:=bnd H
    refine z03 rfl rfl h6 (z0x (y4h b2 r4.1 r8 h9) ⟨.inl rfl,.inl rfl,trivial⟩) ?_
    refine z0a (z1p rfl (bTT h7) rfl) ?_
    refine qe rfl ?_
    exact ⟨r8,H,⟨rfl,trivial⟩,trivial⟩
   ·have h10:=un2 h6
    replace H:=iff_ h10 H
    refine z0l rfl rfl h6 ?_
    refine z0l rfl rfl h6 ?_
    refine z0l rfl rfl h6 ?_
    refine z0a (z1b rfl (bFF h10) rfl) ?_
    refine qe rfl ?_
    exact ⟨false,H,⟨rfl,trivial⟩,trivial⟩
  ·rintro v11 H
   replace H:y0f v11=some r:=H
   unfold y0f at H
   refine z0r ?_
   cases H
   exact ⟨trivial,.inl rfl,trivial⟩
theorem y8a (h1:Bs) (c2:Bs) (r:(Bool)) (H:y0h h1 c2=some r):Fn Tryz.prog 122 [vstr h1,z9m [[vstr c2]] 0 0] (z1x [z1e r]):=by
 refine ⟨by kernel_rfl,z1k (us:=[z1e r]) Tryz.func122 rfl rfl rfl rfl fun X hN => ?_⟩
 unfold y0h at H
 refine z0c ?_
 refine z0b hN rfl ?_
 refine qe rfl ?_
 refine z1a (ι:=Bool) (fun i=>[(3,.dat (z1e i))]) (fun i=>[]) (fun i=>z79 i=some r) (fun i=>rfl) ?_ ?_
 ·skip
  refine z0b hN rfl ?_
  refine qd rfl ?_
  refine z0a (z1q tyS9 rfl rfl rfl) ?_
  refine z0a (y1m rfl rfl) ?_
  refine qd rfl ?_
  refine z19 (j:=3) rfl rfl (fun h3 => ?_) (fun h3 => ?_) rfl
  ·have h4:=un1 h3
   replace H:=ift h4 H
   refine z03 rfl rfl h3 (z0k (.dat _) rfl) ?_
   refine z03 rfl rfl h3 (z1q tyS9 rfl rfl rfl) ?_
   obtain ⟨r5,h6,H⟩:=bnd H
   refine z03 rfl rfl h3 (z0x (x0s h1 c2 r5 h6) ⟨.inl rfl,.inl rfl,trivial⟩) ?_
   refine z0a (z1p rfl (bTT h4) rfl) ?_
   refine qe rfl ?_
   exact ⟨r5,H,⟨rfl,trivial⟩,trivial⟩
  ·have h7:=un2 h3
   replace H:=iff_ h7 H
   refine z0l rfl rfl h3 ?_
   refine z0l rfl rfl h3 ?_
   refine z0l rfl rfl h3 ?_
   refine z0a (z1b rfl (bFF h7) rfl) ?_
   refine qe rfl ?_
   exact ⟨false,H,⟨rfl,trivial⟩,trivial⟩
 ·rintro v8 H
  replace H:z79 v8=some r:=H
  unfold z79 at H
  refine z0r ?_
  cases H
  exact ⟨trivial,.inl rfl,trivial⟩
theorem y96 (s1:Bs) (c2:(List Bs)) (r:(Bool)) (H:y1r s1 c2=some r):Fn Tryz.prog 121 [vstr s1,z9m [[vlst (List.map z00 c2)]] 0 0] (z1x [z1e r]):=by
 refine ⟨by kernel_rfl,z1k (us:=[z1e r]) Tryz.func121 rfl rfl rfl rfl fun X hN => ?_⟩
 unfold y1r at H
 refine z0c ?_
 refine z0b hN rfl ?_
 refine z0f (y5p 1 rfl rfl) rfl ?_
 refine qe rfl ?_
 refine z0c ?_
 refine y4y 1 [vstr s1] rfl rfl ?_
 refine z0b hN rfl ?_
 refine z0a (z1q x3o rfl rfl rfl) ?_
 refine z0a (y5n (us:=[_]) ⟨rfl,trivial⟩) ?_
 obtain ⟨r3,h4,H⟩:=bnd H
 refine z0a (z0x (z8e c2 (fun (a0:Bs)=>y0h a0 s1) 122 [z9m [[vstr s1]] 0 0] (fun a0 r h=>y8a a0 s1 r h) r3 h4) ⟨.inl rfl,.inl rfl,trivial⟩) ?_
 refine qe rfl ?_
 refine z0r ?_
 cases H
 exact ⟨trivial,.inl rfl,trivial⟩
theorem x2r (l1:(List Bs)) (r:((List Bs))) (H:y2u l1=some r):Fn Tryz.prog 75 [vlst (List.map z00 l1)] (z1x [vlst (List.map z00 r)]):=by
 refine ⟨by kernel_rfl,z1k (us:=[vlst (List.map z00 r)]) Tryz.func75 rfl rfl rfl rfl fun X hN => ?_⟩
 unfold y2u at H
 refine z0c ?_
 refine z0b hN rfl ?_
 refine z0f (y5p 1 rfl rfl) rfl ?_
 refine qe rfl ?_
 refine z0c ?_
 refine z0b hN rfl ?_
 refine z0j (z0n x3o rfl rfl) rfl ?_
 obtain ⟨r2,h3,H⟩:=bnd H
 refine z0a (z0x (x4b l1 r2 h3) ⟨.inl rfl,trivial⟩) ?_
 refine z0f (z2n x3o rfl rfl rfl rfl) rfl ?_
 refine z0c ?_
 refine y4y 1 [vlst (List.map z00 r2)] rfl rfl ?_
 refine z0b hN rfl ?_
 refine z0a (z1q x3o rfl rfl rfl) ?_
 obtain ⟨r4,h5,H⟩:=bnd H
 refine z7u (rn [(900,2)]) [] [(900,_)] (y0a r2 r4 h5) ⟨rfl,trivial⟩ ⟨.inl (.inl rfl),trivial⟩ trivial rfl ?_
 refine z0a (y5n (us:=[_]) ⟨rfl,trivial⟩) ?_
 obtain ⟨r6,h7,H⟩:=bnd H
 refine z7u (rn [(0,2),(900,3)]) [(0,_,_,none)] [(900,_)] (y16 r4 (fun (a0:Bs)=>y1r a0 r2) 121 [z9m [[vlst (List.map z00 r2)]] 0 0] (fun a0 r h=>y96 a0 r2 r h) r6 h7) ⟨rfl,rfl,trivial⟩ ⟨.inl (.inl rfl),.inl (.inl rfl),trivial⟩ ⟨⟨⟨rfl,rfl,rfl⟩,trivial⟩,trivial⟩ rfl ?_
 refine z0a (z1j (.row _ _) rfl) ?_
 refine z0r ?_
 cases H
 exact ⟨trivial,y3s rfl rfl,trivial⟩
theorem y7a (l1:(List Bs)) (r:((List Bs)×Int)) (H:z87 l1=some r):Fn Tryz.prog 37 [vlst (List.map z00 l1)] (z1x [vlst (List.map z00 r.1),vint r.2]):=by
 refine ⟨by kernel_rfl,z1k (us:=[vlst (List.map z00 r.1),vint r.2]) Tryz.func37 rfl rfl rfl rfl fun X hN => ?_⟩
 unfold z87 at H
 refine z0c ?_
 refine z0b hN rfl ?_
 refine qe rfl ?_
 refine qe rfl ?_
 refine z0c ?_
 refine z0c ?_
 refine z0b hN rfl ?_
 refine qd rfl ?_
 obtain ⟨r2,h3,H⟩:=bnd H
 refine z0a (z0x (y4g l1 r2 h3) ⟨.inl rfl,trivial⟩) ?_
 refine qe rfl ?_
 refine z0c ?_
 refine z0b hN rfl ?_
 refine qd rfl ?_
 refine z0a (z6i rfl rfl) ?_
 refine z0i _ rfl (fun h4 => ?_) (fun h4 => ?_)
 ·replace H:=ift h4 H
  refine z0c ?_
  refine z0b hN rfl ?_
  refine qd rfl ?_
  refine qe rfl ?_
  refine qe rfl ?_
  refine z0r ?_
  cases H
  exact ⟨trivial,.inr ⟨rfl,rfl⟩,.inl rfl,trivial⟩
 ·replace H:=iff_ h4 H
  refine z0s ?_
  refine z0c ?_
  refine z0b hN rfl ?_
  refine qd rfl ?_
  obtain ⟨r5,h6,H⟩:=bnd H
  refine z0a (z0x (x2r l1 r5 h6) ⟨.inl rfl,trivial⟩) ?_
  refine qe rfl ?_
  refine qe rfl ?_
  refine z0r ?_
  cases H
  exact ⟨trivial,.inl rfl,.inl rfl,trivial⟩
end Go.Proofs.YticadaaoggpenaaGreatDoor
