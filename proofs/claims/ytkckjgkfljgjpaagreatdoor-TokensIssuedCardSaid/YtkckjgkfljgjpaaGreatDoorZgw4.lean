/- Walks along the models. Printed by a program. -/
import Derived.Test.YtkckjgkfljgjpaaGreatDoorZgw3
namespace Go.Proofs.YtkckjgkfljgjpaaGreatDoor
open Go.RowKit
set_option linter.unusedVariables false
set_option maxRecDepth 100000
set_option maxHeartbeats 2000000
theorem y3c (v1:Bs) (r:(Bool)) (H:z7z v1=some r):Fn Tryz.prog 170 [vstr v1] (z1s [z01 r]):=by
 refine ⟨by kernel_rfl,z1g (us:=[z01 r]) Tryz.func170 rfl rfl rfl rfl fun X hN => ?_⟩
 unfold z7z at H
 refine z0c ?_
 refine z0b hN rfl ?_
 refine qe rfl ?_
 refine z0c ?_
 refine z0b hN rfl ?_
 refine qe rfl ?_
 refine z0c ?_
 refine z0b hN rfl ?_
 refine qe rfl ?_
 refine z0z (ι:=Bs) (fun i=>[(0,.dat (vstr i)),(3,.dat (vval (.int .i32 94))),(4,.dat (vint 0))]) (fun i=>[]) (fun i=>z3s i=some r) (fun i=>rfl) ?_ ?_
 ·skip
  refine z0z (ι:=Bool) (fun i=>[(0,.dat (vstr v1)),(3,.dat (vval (.int .i32 94))),(4,.dat (vint 0)),(18,.dat (z01 i))]) (fun i=>[]) (fun i=>z2p v1 i=some r) (fun i=>rfl) ?_ ?_
  ·skip
   refine z0b hN rfl ?_
   refine qd rfl ?_
   refine z0a (z1j tyU9 rfl) ?_
   refine z0a (z9w rfl rfl) ?_
   refine qd rfl ?_
   refine z08 (j:=3) rfl rfl (fun h2 => ?_) (fun h2 => ?_) rfl
   ·have h3:=un1 h2
    replace H:=ift h3 H
    refine z0p rfl rfl h2 (z0h (.dat _) rfl) ?_
    obtain ⟨x4,h5,H⟩:=bnd H
    refine z0p rfl rfl h2 (z9h tyU9 rfl rfl h5) ?_
    refine z0p rfl rfl h2 (z2a rfl rfl) ?_
    refine z0p rfl rfl h2 (z0h (.dat _) rfl) ?_
    refine z08 (j:=7) rfl rfl (fun h6 => ?_) (fun h6 => ?_) rfl
    ·have h7:=un3 h6
     replace H:=iff_ h7 H
     refine z0p rfl rfl h6 (z0h (.dat _) rfl) ?_
     refine z0p rfl rfl h6 (z9h tyU9 rfl rfl h5) ?_
     refine z0p rfl rfl h6 (z2a rfl rfl) ?_
     refine z0p rfl rfl h2 (z0x rfl (bFF h7) rfl) ?_
     refine z0a (z0v rfl (bTT h3) rfl) ?_
     exact ⟨decide ((x4.toNat:Int)=43),H,⟨rfl,rfl,rfl,rfl,trivial⟩,trivial⟩
    ·have h8:=un4 h6
     replace H:=ift h8 H
     refine z0f rfl rfl h6 ?_
     refine z0f rfl rfl h6 ?_
     refine z0f rfl rfl h6 ?_
     refine z0p rfl rfl h2 (z0v rfl (bTT h8) rfl) ?_
     refine z0a (z0v rfl (bTT h3) rfl) ?_
     exact ⟨true,H,⟨rfl,rfl,rfl,rfl,trivial⟩,trivial⟩
   ·have h9:=un2 h2
    replace H:=iff_ h9 H
    refine z0f rfl rfl h2 ?_
    refine z0f rfl rfl h2 ?_
    refine z0f rfl rfl h2 ?_
    refine z0f rfl rfl h2 ?_
    refine z06 rfl rfl ?_
    refine z06 rfl rfl ?_
    refine z06 rfl rfl ?_
    refine z0f rfl rfl h2 ?_
    refine z0a (z0x rfl (bFF h9) rfl) ?_
    exact ⟨false,H,⟨rfl,rfl,rfl,rfl,trivial⟩,trivial⟩
  ·rintro v10 H
   replace H:z2p v1 v10=some r:=H
   unfold z2p at H
   refine z0j _ rfl (fun h11 => ?_) (fun h11 => ?_)
   ·replace H:=ift h11 H
    refine z0b hN rfl ?_
    refine qd rfl ?_
    obtain ⟨l12,h13,H⟩:=bnd H
    refine z0a (y0h tyU9 rfl rfl rfl h13) ?_
    refine qe rfl ?_
    exact ⟨l12,H,⟨rfl,rfl,rfl,trivial⟩,trivial⟩
   ·replace H:=iff_ h11 H
    refine z0l ?_
    exact ⟨v1,H,⟨rfl,rfl,rfl,trivial⟩,trivial⟩
 ·rintro v14 H
  replace H:z3s v14=some r:=H
  unfold z3s at H
  refine z0c ?_
  refine z0b hN rfl ?_
  refine qe rfl ?_
  refine z0z (ι:=Int×Int×Bool) (fun i=>[(0,.dat (vstr v14)),(3,.dat (vval (.int .i32 i.1))),(4,.dat (vint i.2.1)),(5,.dat (z01 i.2.2))]) (fun i=>[]) (fun i=>z3r v14 i.1 i.2.1 i.2.2=some r) (fun i=>rfl) ?_ ?_
  ·skip
   refine z0z (ι:=Bool) (fun i=>[(0,.dat (vstr v14)),(3,.dat (vval (.int .i32 94))),(4,.dat (vint 0)),(5,.dat (z01 false)),(46,.dat (z01 i))]) (fun i=>[]) (fun i=>z1u v14 i=some r) (fun i=>rfl) ?_ ?_
   ·skip
    refine z0b hN rfl ?_
    refine qd rfl ?_
    refine z0a (z1j tyU9 rfl) ?_
    refine z0a (z9w rfl rfl) ?_
    refine qd rfl ?_
    refine z08 (j:=3) rfl rfl (fun h15 => ?_) (fun h15 => ?_) rfl
    ·have h16:=un1 h15
     replace H:=ift h16 H
     refine z0p rfl rfl h15 (z0h (.dat _) rfl) ?_
     obtain ⟨x17,h18,H⟩:=bnd H
     refine z0p rfl rfl h15 (z9h tyU9 rfl rfl h18) ?_
     refine z0p rfl rfl h15 (z2a rfl rfl) ?_
     refine z0a (z0v rfl (bTT h16) rfl) ?_
     refine qd rfl ?_
     refine z08 (j:=8) rfl rfl (fun h19 => ?_) (fun h19 => ?_) rfl
     ·have h20:=un1 h19
      replace H:=ift h20 H
      refine z0p rfl rfl h19 (z0h (.dat _) rfl) ?_
      obtain ⟨x21,h22,H⟩:=bnd H
      refine z0p rfl rfl h19 (z9h tyU9 rfl rfl h22) ?_
      obtain ⟨r23,h24,H⟩:=bnd H
      refine z0p rfl rfl h19 (z0o (z1n (x21.toNat:Int) r23 h24) ⟨.inl rfl,trivial⟩) ?_
      refine z0p rfl rfl h19 (z2a rfl rfl) ?_
      refine z0p rfl rfl h19 (z0h (.dat _) rfl) ?_
      refine z08 (j:=13) rfl rfl (fun h25 => ?_) (fun h25 => ?_) rfl
      ·have h26:=un3 h25
       replace H:=iff_ h26 H
       refine z0p rfl rfl h25 (z0h (.dat _) rfl) ?_
       refine z0p rfl rfl h25 (z9h tyU9 rfl rfl h22) ?_
       obtain ⟨r27,h28,H⟩:=bnd H
       refine z0p rfl rfl h25 (z0o (z1n (x21.toNat:Int) r27 h28) ⟨.inl rfl,trivial⟩) ?_
       refine z0p rfl rfl h25 (z2a rfl rfl) ?_
       refine z0p rfl rfl h19 (z0x rfl (bFF h26) rfl) ?_
       refine z0p rfl rfl h19 (z0h (.dat _) rfl) ?_
       refine z08 (j:=19) rfl rfl (fun h29 => ?_) (fun h29 => ?_) rfl
       ·have h30:=un3 h29
        replace H:=iff_ h30 H
        refine z0p rfl rfl h29 (z0h (.dat _) rfl) ?_
        refine z0p rfl rfl h29 (z9h tyU9 rfl rfl h22) ?_
        obtain ⟨r31,h32,H⟩:=bnd H
        refine z0p rfl rfl h29 (z0o (z1n (x21.toNat:Int) r31 h32) ⟨.inl rfl,trivial⟩) ?_
        refine z0p rfl rfl h29 (z2a rfl rfl) ?_
        refine z0p rfl rfl h19 (z0x rfl (bFF h30) rfl) ?_
        refine z0a (z0v rfl (bTT h20) rfl) ?_
        exact ⟨decide (r31=120),H,⟨rfl,rfl,rfl,rfl,rfl,trivial⟩,trivial⟩
       ·have h33:=un4 h29
        replace H:=ift h33 H
        refine z0f rfl rfl h29 ?_
        refine z0f rfl rfl h29 ?_
        refine z0f rfl rfl h29 ?_
        refine z0f rfl rfl h29 ?_
        refine z0p rfl rfl h19 (z0v rfl (bTT h33) rfl) ?_
        refine z0a (z0v rfl (bTT h20) rfl) ?_
        exact ⟨true,H,⟨rfl,rfl,rfl,rfl,rfl,trivial⟩,trivial⟩
      ·have h34:=un4 h25
       replace H:=ift h34 H
       refine z0f rfl rfl h25 ?_
       refine z0f rfl rfl h25 ?_
       refine z0f rfl rfl h25 ?_
       refine z0f rfl rfl h25 ?_
       refine z0p rfl rfl h19 (z0v rfl (bTT h34) rfl) ?_
       refine z0p rfl rfl h19 (z0h (.dat _) rfl) ?_
       refine z0f rfl rfl rfl ?_
       refine z0f rfl rfl rfl ?_
       refine z0f rfl rfl rfl ?_
       refine z0f rfl rfl rfl ?_
       refine z0p rfl rfl h19 (z0v rfl rfl rfl) ?_
       refine z0a (z0v rfl (bTT h20) rfl) ?_
       exact ⟨true,H,⟨rfl,rfl,rfl,rfl,rfl,trivial⟩,trivial⟩
     ·have h35:=un2 h19
      replace H:=iff_ h35 H
      refine z0f rfl rfl h19 ?_
      refine z0f rfl rfl h19 ?_
      refine z0f rfl rfl h19 ?_
      refine z0f rfl rfl h19 ?_
      refine z0f rfl rfl h19 ?_
      refine z06 rfl rfl ?_
      refine z06 rfl rfl ?_
      refine z06 rfl rfl ?_
      refine z06 rfl rfl ?_
      refine z0f rfl rfl h19 ?_
      refine z0f rfl rfl h19 ?_
      refine z06 rfl rfl ?_
      refine z06 rfl rfl ?_
      refine z06 rfl rfl ?_
      refine z06 rfl rfl ?_
      refine z0f rfl rfl h19 ?_
      refine z0a (z0x rfl (bFF h35) rfl) ?_
      exact ⟨false,H,⟨rfl,rfl,rfl,rfl,rfl,trivial⟩,trivial⟩
    ·have h36:=un2 h15
     replace H:=iff_ h36 H
     refine z0f rfl rfl h15 ?_
     refine z0f rfl rfl h15 ?_
     refine z0f rfl rfl h15 ?_
     refine z0a (z0x rfl (bFF h36) rfl) ?_
     refine qd rfl ?_
     refine z0f rfl rfl rfl ?_
     refine z0f rfl rfl rfl ?_
     refine z0f rfl rfl rfl ?_
     refine z0f rfl rfl rfl ?_
     refine z0f rfl rfl rfl ?_
     refine z06 rfl rfl ?_
     refine z06 rfl rfl ?_
     refine z06 rfl rfl ?_
     refine z06 rfl rfl ?_
     refine z0f rfl rfl rfl ?_
     refine z0f rfl rfl rfl ?_
     refine z06 rfl rfl ?_
     refine z06 rfl rfl ?_
     refine z06 rfl rfl ?_
     refine z06 rfl rfl ?_
     refine z0f rfl rfl rfl ?_
     refine z0a (z0x rfl rfl rfl) ?_
     exact ⟨false,H,⟨rfl,rfl,rfl,rfl,rfl,trivial⟩,trivial⟩
   ·rintro v37 H
    replace H:z1u v14 v37=some r:=H
    unfold z1u at H
    refine z0j _ rfl (fun h38 => ?_) (fun h38 => ?_)
    ·replace H:=ift h38 H
     refine z0c ?_
     refine z0b hN rfl ?_
     refine qe rfl ?_
     refine z0c ?_
     refine z0b hN rfl ?_
     refine qe rfl ?_
     refine z0b hN rfl ?_
     refine qd rfl ?_
     obtain ⟨x39,h40,H⟩:=bnd H
     refine z0a (z9h tyU9 rfl rfl h40) ?_
     obtain ⟨r41,h42,H⟩:=bnd H
     refine z0a (z0o (z1n (x39.toNat:Int) r41 h42) ⟨.inl rfl,trivial⟩) ?_
     refine z0a (z2a rfl rfl) ?_
     refine qe rfl ?_
     exact ⟨(48,2,decide (r41=120)),H,⟨rfl,rfl,rfl,rfl,trivial⟩,trivial⟩
    ·replace H:=iff_ h38 H
     refine z0l ?_
     exact ⟨(94,0,false),H,⟨rfl,rfl,rfl,rfl,trivial⟩,trivial⟩
  ·rintro ⟨v43,v44,v45⟩ H
   replace H:z3r v14 v43 v44 v45=some r:=H
   unfold z3r at H
   refine z0z (ι:=Int) (fun i=>[(3,.dat (vval (.int .i32 i)))]) (fun i=>[]) (fun i=>z5t i=some r) (fun i=>rfl) ?_ ?_
   ·skip
    refine z0u ?_
    refine y36 (fun (s:Int×Int)=>[(0,.dat (vstr v14)),(3,.dat (vval (.int .i32 s.1))),(4,.dat (vint s.2)),(5,.dat (z01 v45))]) (fun (s:Int×Int)=>[]) (v43,v44) H ⟨rfl,rfl,rfl,rfl,trivial⟩ trivial (fun _=>rfl) ?_
    rintro ⟨v46,v47⟩ q48 H hq48
    replace H:z7r v14 v45 v46 v47=some q48:=H
    unfold z7r at H
    refine z0c ?_
    refine z0c ?_
    refine z0b hN rfl ?_
    refine qd rfl ?_
    refine qd rfl ?_
    refine z0a (z1j tyU9 rfl) ?_
    refine z0a (z04 rfl rfl) ?_
    refine z0j _ rfl (fun h49 => ?_) (fun h49 => ?_)
    ·replace H:=ift h49 H
     refine z0l ?_
     refine z0z (ι:=Int) (fun i=>[(0,.dat (vstr v14)),(3,.dat (vval (.int .i32 i))),(4,.dat (vint v47)),(5,.dat (z01 v45))]) (fun i=>[]) (fun i=>z2o v47 i=some q48) (fun i=>rfl) ?_ ?_
     ·skip
      refine z0u ?_
      refine z0c ?_
      refine z0z (ι:=Bool) (fun i=>[(0,.dat (vstr v14)),(3,.dat (vval (.int .i32 v46))),(4,.dat (vint v47)),(5,.dat (z01 v45)),(83,.dat (z01 i))]) (fun i=>[]) (fun i=>z1l v14 v46 v47 i=some q48) (fun i=>rfl) ?_ ?_
      ·skip
       refine z0b hN rfl ?_
       refine qd rfl ?_
       refine qd rfl ?_
       obtain ⟨x50,h51,H⟩:=bnd H
       refine z0a (y5p tyU9 rfl rfl h51) ?_
       refine z0a (z9i rfl rfl) ?_
       refine qd rfl ?_
       refine z08 (j:=4) rfl rfl (fun h52 => ?_) (fun h52 => ?_) rfl
       ·have h53:=un1 h52
        replace H:=ift h53 H
        refine z0p rfl rfl h52 (z0h (.dat _) rfl) ?_
        refine z0p rfl rfl h52 (z0h (.dat _) rfl) ?_
        refine z0p rfl rfl h52 (y5p tyU9 rfl rfl h51) ?_
        refine z0p rfl rfl h52 (z9i rfl rfl) ?_
        refine z0a (z0v rfl (bTT h53) rfl) ?_
        refine qd rfl ?_
        refine z08 (j:=10) rfl rfl (fun h54 => ?_) (fun h54 => ?_) rfl
        ·have h55:=un3 h54
         replace H:=iff_ h55 H
         refine z0p rfl rfl h54 (z0h (.dat _) rfl) ?_
         refine z0p rfl rfl h54 (z0h (.dat _) rfl) ?_
         refine z08 (j:=12) rfl rfl (fun h56 => ?_) (fun h56 => ?_) rfl
         ·have h57:=un1 h56
          replace H:=ift h57 H
          refine z0p rfl rfl h56 (z0h (.dat _) rfl) ?_
          refine z0p rfl rfl h56 (z0h (.dat _) rfl) ?_
          refine z0p rfl rfl h56 (y5p tyU9 rfl rfl h51) ?_
          obtain ⟨r58,h59,H⟩:=bnd H
          refine z0p rfl rfl h56 (z0o (z1n (x50.toNat:Int) r58 h59) ⟨.inl rfl,trivial⟩) ?_
          refine z0p rfl rfl h56 (z9i rfl rfl) ?_
          refine z0p rfl rfl h54 (z0v rfl (bTT h57) rfl) ?_
          refine z0p rfl rfl h54 (z0h (.dat _) rfl) ?_
          refine z08 (j:=19) rfl rfl (fun h60 => ?_) (fun h60 => ?_) rfl
          ·have h61:=un1 h60
           replace H:=ift h61 H
           refine z0p rfl rfl h60 (z0h (.dat _) rfl) ?_
           refine z0p rfl rfl h60 (z0h (.dat _) rfl) ?_
           refine z0p rfl rfl h60 (y5p tyU9 rfl rfl h51) ?_
           obtain ⟨r62,h63,H⟩:=bnd H
           refine z0p rfl rfl h60 (z0o (z1n (x50.toNat:Int) r62 h63) ⟨.inl rfl,trivial⟩) ?_
           refine z0p rfl rfl h60 (z9i rfl rfl) ?_
           refine z0p rfl rfl h54 (z0v rfl (bTT h61) rfl) ?_
           refine z0a (z0x rfl (bFF h55) rfl) ?_
           exact ⟨decide (r62≤102),H,⟨rfl,rfl,rfl,rfl,rfl,trivial⟩,trivial⟩
          ·have h64:=un2 h60
           replace H:=iff_ h64 H
           refine z0f rfl rfl h60 ?_
           refine z0f rfl rfl h60 ?_
           refine z0f rfl rfl h60 ?_
           refine z0f rfl rfl h60 ?_
           refine z0f rfl rfl h60 ?_
           refine z0p rfl rfl h54 (z0x rfl (bFF h64) rfl) ?_
           refine z0a (z0x rfl (bFF h55) rfl) ?_
           exact ⟨false,H,⟨rfl,rfl,rfl,rfl,rfl,trivial⟩,trivial⟩
         ·have h65:=un2 h56
          replace H:=iff_ h65 H
          refine z0f rfl rfl h56 ?_
          refine z0f rfl rfl h56 ?_
          refine z0f rfl rfl h56 ?_
          refine z0f rfl rfl h56 ?_
          refine z0f rfl rfl h56 ?_
          refine z0p rfl rfl h54 (z0x rfl (bFF h65) rfl) ?_
          refine z0p rfl rfl h54 (z0h (.dat _) rfl) ?_
          refine z0f rfl rfl rfl ?_
          refine z0f rfl rfl rfl ?_
          refine z0f rfl rfl rfl ?_
          refine z0f rfl rfl rfl ?_
          refine z0f rfl rfl rfl ?_
          refine z0p rfl rfl h54 (z0x rfl rfl rfl) ?_
          refine z0a (z0x rfl (bFF h55) rfl) ?_
          exact ⟨false,H,⟨rfl,rfl,rfl,rfl,rfl,trivial⟩,trivial⟩
        ·have h66:=un4 h54
         replace H:=ift h66 H
         refine z0f rfl rfl h54 ?_
         refine z0f rfl rfl h54 ?_
         refine z06 rfl rfl ?_
         refine z06 rfl rfl ?_
         refine z06 rfl rfl ?_
         refine z06 rfl rfl ?_
         refine z06 rfl rfl ?_
         refine z0f rfl rfl h54 ?_
         refine z0f rfl rfl h54 ?_
         refine z06 rfl rfl ?_
         refine z06 rfl rfl ?_
         refine z06 rfl rfl ?_
         refine z06 rfl rfl ?_
         refine z06 rfl rfl ?_
         refine z0f rfl rfl h54 ?_
         refine z0a (z0v rfl (bTT h66) rfl) ?_
         exact ⟨true,H,⟨rfl,rfl,rfl,rfl,rfl,trivial⟩,trivial⟩
       ·have h67:=un2 h52
        replace H:=iff_ h67 H
        refine z0f rfl rfl h52 ?_
        refine z0f rfl rfl h52 ?_
        refine z0f rfl rfl h52 ?_
        refine z0f rfl rfl h52 ?_
        refine z0a (z0x rfl (bFF h67) rfl) ?_
        refine qd rfl ?_
        refine z0p rfl rfl rfl (z0h (.dat _) rfl) ?_
        refine z0p rfl rfl rfl (z0h (.dat _) rfl) ?_
        refine z08 (j:=12) rfl rfl (fun h68 => ?_) (fun h68 => ?_) rfl
        ·have h69:=un1 h68
         replace H:=ift h69 H
         refine z0p rfl rfl h68 (z0h (.dat _) rfl) ?_
         refine z0p rfl rfl h68 (z0h (.dat _) rfl) ?_
         refine z0p rfl rfl h68 (y5p tyU9 rfl rfl h51) ?_
         obtain ⟨r70,h71,H⟩:=bnd H
         refine z0p rfl rfl h68 (z0o (z1n (x50.toNat:Int) r70 h71) ⟨.inl rfl,trivial⟩) ?_
         refine z0p rfl rfl h68 (z9i rfl rfl) ?_
         refine z0p rfl rfl rfl (z0v rfl (bTT h69) rfl) ?_
         refine z0p rfl rfl rfl (z0h (.dat _) rfl) ?_
         refine z08 (j:=19) rfl rfl (fun h72 => ?_) (fun h72 => ?_) rfl
         ·have h73:=un1 h72
          replace H:=ift h73 H
          refine z0p rfl rfl h72 (z0h (.dat _) rfl) ?_
          refine z0p rfl rfl h72 (z0h (.dat _) rfl) ?_
          refine z0p rfl rfl h72 (y5p tyU9 rfl rfl h51) ?_
          obtain ⟨r74,h75,H⟩:=bnd H
          refine z0p rfl rfl h72 (z0o (z1n (x50.toNat:Int) r74 h75) ⟨.inl rfl,trivial⟩) ?_
          refine z0p rfl rfl h72 (z9i rfl rfl) ?_
          refine z0p rfl rfl rfl (z0v rfl (bTT h73) rfl) ?_
          refine z0a (z0x rfl rfl rfl) ?_
          exact ⟨decide (r74≤102),H,⟨rfl,rfl,rfl,rfl,rfl,trivial⟩,trivial⟩
         ·have h76:=un2 h72
          replace H:=iff_ h76 H
          refine z0f rfl rfl h72 ?_
          refine z0f rfl rfl h72 ?_
          refine z0f rfl rfl h72 ?_
          refine z0f rfl rfl h72 ?_
          refine z0f rfl rfl h72 ?_
          refine z0p rfl rfl rfl (z0x rfl (bFF h76) rfl) ?_
          refine z0a (z0x rfl rfl rfl) ?_
          exact ⟨false,H,⟨rfl,rfl,rfl,rfl,rfl,trivial⟩,trivial⟩
        ·have h77:=un2 h68
         replace H:=iff_ h77 H
         refine z0f rfl rfl h68 ?_
         refine z0f rfl rfl h68 ?_
         refine z0f rfl rfl h68 ?_
         refine z0f rfl rfl h68 ?_
         refine z0f rfl rfl h68 ?_
         refine z0p rfl rfl rfl (z0x rfl (bFF h77) rfl) ?_
         refine z0p rfl rfl rfl (z0h (.dat _) rfl) ?_
         refine z0f rfl rfl rfl ?_
         refine z0f rfl rfl rfl ?_
         refine z0f rfl rfl rfl ?_
         refine z0f rfl rfl rfl ?_
         refine z0f rfl rfl rfl ?_
         refine z0p rfl rfl rfl (z0x rfl rfl rfl) ?_
         refine z0a (z0x rfl rfl rfl) ?_
         exact ⟨false,H,⟨rfl,rfl,rfl,rfl,rfl,trivial⟩,trivial⟩
      ·rintro v78 H
       replace H:z1l v14 v46 v47 v78=some q48:=H
       unfold z1l at H
       refine z0j _ rfl (fun h79 => ?_) (fun h79 => ?_)
       ·replace H:=ift h79 H
        refine z0c ?_
        refine z0b hN rfl ?_
        refine qe rfl ?_
        refine z14 ?_
        exact ⟨48,H,⟨rfl,rfl,rfl,rfl,trivial⟩,trivial⟩
       ·replace H:=iff_ h79 H
        refine z0l ?_
        refine z0c ?_
        refine z0c ?_
        refine z0b hN rfl ?_
        refine qd rfl ?_
        refine qd rfl ?_
        obtain ⟨x80,h81,H⟩:=bnd H
        refine z0a (y5p tyU9 rfl rfl h81) ?_
        refine z0a (z2a rfl rfl) ?_
        refine z0j _ rfl (fun h82 => ?_) (fun h82 => ?_)
        ·replace H:=ift h82 H
         refine z0c ?_
         refine z0c ?_
         refine z0b hN rfl ?_
         refine qd rfl ?_
         refine z0a (z68 rfl rfl) ?_
         refine z0j _ rfl (fun h83 => ?_) (fun h83 => ?_)
         ·replace H:=ift h83 H
          refine z0c ?_
          refine z0b hN rfl ?_
          refine qe rfl ?_
          refine z0m ?_
          replace H:=retl H hq48
          cases H
          exact ⟨trivial,.inl rfl,trivial⟩
         ·replace H:=iff_ h83 H
          refine z0l ?_
          refine z0c ?_
          refine z0b hN rfl ?_
          refine qe rfl ?_
          refine z14 ?_
          exact ⟨95,H,⟨rfl,rfl,rfl,rfl,trivial⟩,trivial⟩
        ·replace H:=iff_ h82 H
         refine z0l ?_
         refine z0c ?_
         refine z0c ?_
         refine z0b hN rfl ?_
         refine qd rfl ?_
         refine z0a (z2a rfl rfl) ?_
         refine z0j _ rfl (fun h84 => ?_) (fun h84 => ?_)
         ·replace H:=ift h84 H
          refine z0c ?_
          refine z0b hN rfl ?_
          refine qe rfl ?_
          refine z0m ?_
          replace H:=retl H hq48
          cases H
          exact ⟨trivial,.inl rfl,trivial⟩
         ·replace H:=iff_ h84 H
          refine z0l ?_
          refine z0b hN rfl ?_
          refine qe rfl ?_
          exact ⟨33,H,⟨rfl,rfl,rfl,rfl,trivial⟩,trivial⟩
     ·rintro v85 H
      replace H:z2o v47 v85=some q48:=H
      unfold z2o at H
      refine z0b hN rfl ?_
      refine qd rfl ?_
      refine z0a (z1a _ rfl rfl (.inl ⟨rfl,rfl⟩)) ?_
      refine qe rfl ?_
      exact ⟨_,z9s H,⟨rfl,rfl,rfl,rfl,trivial⟩,trivial⟩
    ·replace H:=iff_ h49 H
     refine z14 ?_
     replace H:=outl H hq48
     exact ⟨v46,H,⟨rfl,trivial⟩,trivial⟩
   ·rintro v86 H
    replace H:z5t v86=some r:=H
    unfold z5t at H
    refine z0c ?_
    refine z0b hN rfl ?_
    refine qd rfl ?_
    refine z0a (z68 rfl rfl) ?_
    refine qe rfl ?_
    refine z0m ?_
    cases H
    exact ⟨trivial,.inl rfl,trivial⟩
theorem y32 (v1:Bs) (v2:Int) (v3:Int) (r:(Int×Int)) (H:z8z v1 v2 v3=some r):Fn Tryz.prog 139 [vstr v1,vint v2,vint v3] (z1s [vval (.int .u64 r.1),verr r.2]):=by
 refine ⟨by kernel_rfl,z1g (us:=[vval (.int .u64 r.1),verr r.2]) Tryz.func139 rfl rfl rfl rfl fun X hN => ?_⟩
 unfold z8z at H
 refine z0c ?_
 refine z0b hN rfl ?_
 refine qe rfl ?_
 refine qe rfl ?_
 refine z0c ?_
 refine z0c ?_
 refine z0b hN rfl ?_
 refine qd rfl ?_
 refine z0a (z65 rfl rfl) ?_
 refine z0j _ rfl (fun h4 => ?_) (fun h4 => ?_)
 ·replace H:=ift h4 H
  refine z0c ?_
  refine z0b hN rfl ?_
  refine z0a (z09 (u':=verr 2) (z90 (show Tryz.prog.underlying 151=some (.int .i64) from by kernel_rfl) rfl) rfl) ?_
  refine qe rfl ?_
  refine qe rfl ?_
  refine z0m ?_
  cases H
  exact ⟨trivial,.inl rfl,.inl rfl,trivial⟩
 ·replace H:=iff_ h4 H
  refine z0l ?_
  refine z0c ?_
  refine z0b hN rfl ?_
  refine qd rfl ?_
  refine z0a (z2a rfl rfl) ?_
  refine qe rfl ?_
  refine z0c ?_
  refine z0b hN rfl ?_
  refine qd rfl ?_
  refine qe rfl ?_
  refine z0z (ι:=Bs×Int) (fun i=>[(0,.dat (vstr i.1)),(1,.dat (vint i.2)),(2,.dat (vint v3)),(8,.dat (z01 (decide (v2=0)))),(9,.dat (vstr v1))]) (fun i=>[]) (fun i=>z1w v1 v2 v3 i.1 i.2=some r) (fun i=>rfl) ?_ ?_
  ·skip
   refine z0u ?_
   refine z0c ?_
   refine z0b hN rfl ?_
   refine qd rfl ?_
   refine z0a (z9i rfl rfl) ?_
   refine qd rfl ?_
   refine z5y rfl rfl (fun hc=>z0h (.dat _) rfl) ?_
   refine z5y rfl rfl (fun hc=>z9i (cnd (c:=(decide (2≤v2))) hc) rfl) ?_
   refine z0a (z11 rfl (fun hb=>(cnd (c:=(decide (2≤v2))) hb)) rfl) ?_
   refine qe rfl ?_
   refine z0j _ rfl (fun h5 => ?_) (fun h5 => ?_)
   ·replace H:=ift h5 H
    refine z0l ?_
    exact ⟨(v1,v2),H,⟨rfl,rfl,rfl,rfl,rfl,trivial⟩,trivial⟩
   ·replace H:=iff_ h5 H
    refine z0c ?_
    refine z0b hN rfl ?_
    refine qd rfl ?_
    refine z0a (z2a rfl rfl) ?_
    refine qe rfl ?_
    refine z0j _ rfl (fun h6 => ?_) (fun h6 => ?_)
    ·replace H:=ift h6 H
     refine z0c ?_
     refine z0b hN rfl ?_
     refine qe rfl ?_
     refine z0c ?_
     refine z0b hN rfl ?_
     refine qd rfl ?_
     obtain ⟨x7,h8,H⟩:=bnd H
     refine z0a (z9h tyU9 rfl rfl h8) ?_
     refine z0a (z2a rfl rfl) ?_
     refine z0j _ rfl (fun h9 => ?_) (fun h9 => ?_)
     ·replace H:=ift h9 H
      refine z0u ?_
      refine z0z (ι:=Bool) (fun i=>[(0,.dat (vstr v1)),(2,.dat (vint v3)),(8,.dat (z01 (decide (v2=0)))),(9,.dat (vstr v1)),(40,.dat (z01 i))]) (fun i=>[]) (fun i=>z49 v1 v2 v3 i=some r) (fun i=>rfl) ?_ ?_
      ·skip
       refine z0b hN rfl ?_
       refine qd rfl ?_
       refine z0a (z1j tyU9 rfl) ?_
       refine z0a (z9w rfl rfl) ?_
       refine qd rfl ?_
       refine z08 (j:=3) rfl rfl (fun h10 => ?_) (fun h10 => ?_) rfl
       ·have h11:=un1 h10
        replace H:=ift h11 H
        refine z0p rfl rfl h10 (z0h (.dat _) rfl) ?_
        obtain ⟨x12,h13,H⟩:=bnd H
        refine z0p rfl rfl h10 (z9h tyU9 rfl rfl h13) ?_
        obtain ⟨r14,h15,H⟩:=bnd H
        refine z0p rfl rfl h10 (z0o (z1n (x12.toNat:Int) r14 h15) ⟨.inl rfl,trivial⟩) ?_
        refine z0p rfl rfl h10 (z2a rfl rfl) ?_
        refine z0a (z0v rfl (bTT h11) rfl) ?_
        refine qe rfl ?_
        exact ⟨decide (r14=98),H,⟨rfl,rfl,rfl,rfl,rfl,trivial⟩,trivial⟩
       ·have h16:=un2 h10
        replace H:=iff_ h16 H
        refine z0f rfl rfl h10 ?_
        refine z0f rfl rfl h10 ?_
        refine z0f rfl rfl h10 ?_
        refine z0f rfl rfl h10 ?_
        refine z0a (z0x rfl (bFF h16) rfl) ?_
        refine qe rfl ?_
        exact ⟨false,H,⟨rfl,rfl,rfl,rfl,rfl,trivial⟩,trivial⟩
      ·rintro v17 H
       replace H:z49 v1 v2 v3 v17=some r:=H
       unfold z49 at H
       refine z0j _ rfl (fun h18 => ?_) (fun h18 => ?_)
       ·replace H:=ift h18 H
        refine z0c ?_
        refine z0b hN rfl ?_
        refine qe rfl ?_
        refine z0b hN rfl ?_
        refine qd rfl ?_
        obtain ⟨l19,h20,H⟩:=bnd H
        refine z0a (y0h tyU9 rfl rfl rfl h20) ?_
        refine qe rfl ?_
        exact ⟨(l19,2),H,⟨rfl,rfl,rfl,rfl,rfl,trivial⟩,trivial⟩
       ·replace H:=iff_ h18 H
        refine z0z (ι:=Bool) (fun i=>[(0,.dat (vstr v1)),(2,.dat (vint v3)),(8,.dat (z01 (decide (v2=0)))),(9,.dat (vstr v1)),(52,.dat (z01 i))]) (fun i=>[]) (fun i=>z48 v1 v2 v3 i=some r) (fun i=>rfl) ?_ ?_
        ·skip
         refine z0b hN rfl ?_
         refine qd rfl ?_
         refine z0a (z1j tyU9 rfl) ?_
         refine z0a (z9w rfl rfl) ?_
         refine qd rfl ?_
         refine z08 (j:=3) rfl rfl (fun h21 => ?_) (fun h21 => ?_) rfl
         ·have h22:=un1 h21
          replace H:=ift h22 H
          refine z0p rfl rfl h21 (z0h (.dat _) rfl) ?_
          obtain ⟨x23,h24,H⟩:=bnd H
          refine z0p rfl rfl h21 (z9h tyU9 rfl rfl h24) ?_
          obtain ⟨r25,h26,H⟩:=bnd H
          refine z0p rfl rfl h21 (z0o (z1n (x23.toNat:Int) r25 h26) ⟨.inl rfl,trivial⟩) ?_
          refine z0p rfl rfl h21 (z2a rfl rfl) ?_
          refine z0a (z0v rfl (bTT h22) rfl) ?_
          refine qe rfl ?_
          exact ⟨decide (r25=111),H,⟨rfl,rfl,rfl,rfl,rfl,trivial⟩,trivial⟩
         ·have h27:=un2 h21
          replace H:=iff_ h27 H
          refine z0f rfl rfl h21 ?_
          refine z0f rfl rfl h21 ?_
          refine z0f rfl rfl h21 ?_
          refine z0f rfl rfl h21 ?_
          refine z0a (z0x rfl (bFF h27) rfl) ?_
          refine qe rfl ?_
          exact ⟨false,H,⟨rfl,rfl,rfl,rfl,rfl,trivial⟩,trivial⟩
        ·rintro v28 H
         replace H:z48 v1 v2 v3 v28=some r:=H
         unfold z48 at H
         refine z0j _ rfl (fun h29 => ?_) (fun h29 => ?_)
         ·replace H:=ift h29 H
          refine z0c ?_
          refine z0b hN rfl ?_
          refine qe rfl ?_
          refine z0b hN rfl ?_
          refine qd rfl ?_
          obtain ⟨l30,h31,H⟩:=bnd H
          refine z0a (y0h tyU9 rfl rfl rfl h31) ?_
          refine qe rfl ?_
          exact ⟨(l30,8),H,⟨rfl,rfl,rfl,rfl,rfl,trivial⟩,trivial⟩
         ·replace H:=iff_ h29 H
          refine z0z (ι:=Bool) (fun i=>[(0,.dat (vstr v1)),(2,.dat (vint v3)),(8,.dat (z01 (decide (v2=0)))),(9,.dat (vstr v1)),(64,.dat (z01 i))]) (fun i=>[]) (fun i=>z47 v1 v2 v3 i=some r) (fun i=>rfl) ?_ ?_
          ·skip
           refine z0b hN rfl ?_
           refine qd rfl ?_
           refine z0a (z1j tyU9 rfl) ?_
           refine z0a (z9w rfl rfl) ?_
           refine qd rfl ?_
           refine z08 (j:=3) rfl rfl (fun h32 => ?_) (fun h32 => ?_) rfl
           ·have h33:=un1 h32
            replace H:=ift h33 H
            refine z0p rfl rfl h32 (z0h (.dat _) rfl) ?_
            obtain ⟨x34,h35,H⟩:=bnd H
            refine z0p rfl rfl h32 (z9h tyU9 rfl rfl h35) ?_
            obtain ⟨r36,h37,H⟩:=bnd H
            refine z0p rfl rfl h32 (z0o (z1n (x34.toNat:Int) r36 h37) ⟨.inl rfl,trivial⟩) ?_
            refine z0p rfl rfl h32 (z2a rfl rfl) ?_
            refine z0a (z0v rfl (bTT h33) rfl) ?_
            refine qe rfl ?_
            exact ⟨decide (r36=120),H,⟨rfl,rfl,rfl,rfl,rfl,trivial⟩,trivial⟩
           ·have h38:=un2 h32
            replace H:=iff_ h38 H
            refine z0f rfl rfl h32 ?_
            refine z0f rfl rfl h32 ?_
            refine z0f rfl rfl h32 ?_
            refine z0f rfl rfl h32 ?_
            refine z0a (z0x rfl (bFF h38) rfl) ?_
            refine qe rfl ?_
            exact ⟨false,H,⟨rfl,rfl,rfl,rfl,rfl,trivial⟩,trivial⟩
          ·rintro v39 H
           replace H:z47 v1 v2 v3 v39=some r:=H
           unfold z47 at H
           refine z0j _ rfl (fun h40 => ?_) (fun h40 => ?_)
           ·replace H:=ift h40 H
            refine z0c ?_
            refine z0b hN rfl ?_
            refine qe rfl ?_
            refine z0b hN rfl ?_
            refine qd rfl ?_
            obtain ⟨l41,h42,H⟩:=bnd H
            refine z0a (y0h tyU9 rfl rfl rfl h42) ?_
            refine qe rfl ?_
            exact ⟨(l41,16),H,⟨rfl,rfl,rfl,rfl,rfl,trivial⟩,trivial⟩
           ·replace H:=iff_ h40 H
            refine z0c ?_
            refine z0b hN rfl ?_
            refine qe rfl ?_
            refine z0b hN rfl ?_
            refine qd rfl ?_
            obtain ⟨l43,h44,H⟩:=bnd H
            refine z0a (y0h tyU9 rfl rfl rfl h44) ?_
            refine qe rfl ?_
            exact ⟨(l43,8),H,⟨rfl,rfl,rfl,rfl,rfl,trivial⟩,trivial⟩
     ·replace H:=iff_ h9 H
      refine z0l ?_
      exact ⟨(v1,10),H,⟨rfl,rfl,rfl,rfl,rfl,trivial⟩,trivial⟩
    ·replace H:=iff_ h6 H
     refine z0c ?_
     refine z0b hN rfl ?_
     refine z0a (z09 (u':=verr 3) (z90 (show Tryz.prog.underlying 151=some (.int .i64) from by kernel_rfl) rfl) rfl) ?_
     refine qe rfl ?_
     refine qe rfl ?_
     refine z0m ?_
     cases H
     exact ⟨trivial,.inl rfl,.inl rfl,trivial⟩
  ·rintro ⟨v45,v46⟩ H
   replace H:z1w v1 v2 v3 v45 v46=some r:=H
   unfold z1w at H
   refine z0z (ι:=Int) (fun i=>[(0,.dat (vstr v45)),(1,.dat (vint v46)),(2,.dat (vint i)),(8,.dat (z01 (decide (v2=0)))),(9,.dat (vstr v1))]) (fun i=>[]) (fun i=>z45 v1 v2 v45 v46 i=some r) (fun i=>rfl) ?_ ?_
   ·skip
    refine z0c ?_
    refine z0b hN rfl ?_
    refine qd rfl ?_
    refine z0a (z2a rfl rfl) ?_
    refine z0j _ rfl (fun h47 => ?_) (fun h47 => ?_)
    ·replace H:=ift h47 H
     refine z0b hN rfl ?_
     refine qe rfl ?_
     exact ⟨64,H,⟨rfl,rfl,rfl,rfl,rfl,trivial⟩,trivial⟩
    ·replace H:=iff_ h47 H
     refine z0c ?_
     refine z0b hN rfl ?_
     refine qd rfl ?_
     refine z0a (z04 rfl rfl) ?_
     refine qd rfl ?_
     refine z2r rfl rfl (fun hc=>z0h (.dat _) rfl) ?_
     refine z2r rfl rfl (fun hc=>z29 (cnd (c:=(!(decide (v3 < 0)))) hc) rfl) ?_
     refine z0a (z3f rfl rfl (fun hb=>(cnd (c:=(!(decide (v3 < 0)))) (notI hb)))) ?_
     refine z0j _ rfl (fun h48 => ?_) (fun h48 => ?_)
     ·replace H:=ift h48 H
      refine z0c ?_
      refine z0b hN rfl ?_
      refine z0a (z09 (u':=verr 4) (z90 (show Tryz.prog.underlying 151=some (.int .i64) from by kernel_rfl) rfl) rfl) ?_
      refine qe rfl ?_
      refine qe rfl ?_
      refine z0m ?_
      cases H
      exact ⟨trivial,.inl rfl,.inl rfl,trivial⟩
     ·replace H:=iff_ h48 H
      refine z0l ?_
      exact ⟨v3,H,⟨rfl,rfl,rfl,rfl,rfl,trivial⟩,trivial⟩
   ·rintro v49 H
    replace H:z45 v1 v2 v45 v46 v49=some r:=H
    unfold z45 at H
    refine z0c ?_
    refine z0b hN rfl ?_
    refine qe rfl ?_
    refine z0z (ι:=Int) (fun i=>[(0,.dat (vstr v45)),(1,.dat (vint v46)),(2,.dat (vint v49)),(8,.dat (z01 (decide (v2=0)))),(9,.dat (vstr v1)),(10,.dat (vval (.int .u64 i)))]) (fun i=>[]) (fun i=>z3i v1 v2 v45 v46 v49 i=some r) (fun i=>rfl) ?_ ?_
    ·skip
     refine z0c ?_
     refine z0b hN rfl ?_
     refine qd rfl ?_
     refine z0u ?_
     refine z0c ?_
     refine z0b hN rfl ?_
     refine z0a (z2a rfl rfl) ?_
     refine qe rfl ?_
     refine z0j _ rfl (fun h50 => ?_) (fun h50 => ?_)
     ·replace H:=ift h50 H
      refine z0b hN rfl ?_
      refine qe rfl ?_
      exact ⟨1844674407370955162,H,⟨rfl,rfl,rfl,rfl,rfl,rfl,trivial⟩,trivial⟩
     ·replace H:=iff_ h50 H
      refine z0c ?_
      refine z0b hN rfl ?_
      refine z0a (z2a rfl rfl) ?_
      refine qe rfl ?_
      refine z0j _ rfl (fun h51 => ?_) (fun h51 => ?_)
      ·replace H:=ift h51 H
       refine z0b hN rfl ?_
       refine qe rfl ?_
       exact ⟨1152921504606846976,H,⟨rfl,rfl,rfl,rfl,rfl,rfl,trivial⟩,trivial⟩
      ·replace H:=iff_ h51 H
       refine z0b hN rfl ?_
       refine qd rfl ?_
       refine z0a (z6k tyU3 y8l rfl) ?_
       obtain ⟨h52,H⟩:=gif H
       refine z0a (x5s rfl rfl h52) ?_
       refine z0a (z1a _ rfl rfl (.inl ⟨rfl,rfl⟩)) ?_
       refine qe rfl ?_
       exact ⟨IntKind.wrap .u64 ((IntKind.wrap .u64 (Int.tdiv 18446744073709551615 (IntKind.wrap .u64 v46)))+1),H,⟨rfl,rfl,rfl,rfl,rfl,rfl,trivial⟩,trivial⟩
    ·rintro v53 H
     replace H:z3i v1 v2 v45 v46 v49 v53=some r:=H
     unfold z3i at H
     refine z0c ?_
     refine z0b hN rfl ?_
     refine qd rfl ?_
     refine z0a (z6k tyU3 x7z rfl) ?_
     obtain ⟨h54,H⟩:=gif H
     refine z0a (z09 (x1o rfl rfl h54) rfl) ?_
     refine z0a (z1a _ rfl rfl (.inr (.inl ⟨rfl,rfl⟩))) ?_
     refine qe rfl ?_
     refine z0c ?_
     refine z0b hN rfl ?_
     refine qe rfl ?_
     refine z0c ?_
     refine z0b hN rfl ?_
     refine qe rfl ?_
     refine z0c ?_
     refine z0c ?_
     refine z0b hN rfl ?_
     refine qd rfl ?_
     refine z0a (y9m (C:=z4z) tyU9 x0k tyU5 (fun _=>rfl) rfl) ?_
     refine z0a (z8d x0k rfl) ?_
     refine qd rfl ?_
     refine z0u ?_
     obtain ⟨h59,H⟩:=gif H
     refine z6c (fun (k57:Nat) (s:Bool×Int)=>[(1,.dat (vint v46)),(8,.dat (z01 (decide (v2=0)))),(9,.dat (vstr v1)),(10,.dat (vval (.int .u64 v53))),(11,.dat (vval (.int .u64 (IntKind.wrap .u64 ((shl_ .u64 1 (IntKind.wrap .u64 v49)) - 1))))),(12,.dat (z01 s.1)),(13,.dat (vval (.int .u64 s.2))),(99,.dat (vlst (List.map z4z (y0v v45)))),(100,.dat (vint ((y0v v45).length:Int))),(101,.dat (vint (k57:Int)))]) (fun (k57:Nat) (s:Bool×Int)=>[]) (false,0) H ⟨rfl,rfl,rfl,rfl,rfl,rfl,rfl,rfl,rfl,rfl,trivial⟩ trivial (fun _ _=>rfl) ?_ ?_
     ·rintro ⟨v55,v56⟩ H
      replace H:z8v v1 v55 v56=some r:=H
      unfold z8v at H
      refine z0c ?_
      refine z0b hN rfl ?_
      refine z0a (z04 rfl rfl) ?_
      refine z0c ?_
      refine z0j _ rfl (fun h=>(lt_t h).elim) (fun h => ?_)
      refine z14 ?_
      refine z0c ?_
      refine z0z (ι:=Bool) (fun i=>[(13,.dat (vval (.int .u64 v56))),(169,.dat (z01 i))]) (fun i=>[]) (fun i=>z44 v56 i=some r) (fun i=>rfl) ?_ ?_
      ·skip
       refine z0b hN rfl ?_
       refine qd rfl ?_
       refine qd rfl ?_
       refine z08 (j:=1) rfl rfl (fun h61 => ?_) (fun h61 => ?_) rfl
       ·have h62:=un1 h61
        replace H:=ift h62 H
        refine z0p rfl rfl h61 (z0h (.dat _) rfl) ?_
        obtain ⟨r63,h64,H⟩:=bnd H
        refine z0p rfl rfl h61 (z0o (y3c v1 r63 h64) ⟨.inl rfl,trivial⟩) ?_
        refine z0p rfl rfl h61 (z3t rfl) ?_
        refine z0a (z0v rfl (bTT h62) rfl) ?_
        exact ⟨!r63,H,⟨rfl,rfl,trivial⟩,trivial⟩
       ·have h65:=un2 h61
        replace H:=iff_ h65 H
        refine z0f rfl rfl h61 ?_
        refine z0f rfl rfl h61 ?_
        refine z0f rfl rfl h61 ?_
        refine z0a (z0x rfl (bFF h65) rfl) ?_
        exact ⟨false,H,⟨rfl,rfl,trivial⟩,trivial⟩
      ·rintro v66 H
       replace H:z44 v56 v66=some r:=H
       unfold z44 at H
       refine z0j _ rfl (fun h67 => ?_) (fun h67 => ?_)
       ·replace H:=ift h67 H
        refine z0c ?_
        refine z0b hN rfl ?_
        refine z0a (z09 (u':=verr 2) (z90 (show Tryz.prog.underlying 151=some (.int .i64) from by kernel_rfl) rfl) rfl) ?_
        refine qe rfl ?_
        refine qe rfl ?_
        refine z0m ?_
        cases H
        exact ⟨trivial,.inl rfl,.inl rfl,trivial⟩
       ·replace H:=iff_ h67 H
        refine z0l ?_
        refine z0c ?_
        refine z0b hN rfl ?_
        refine qd rfl ?_
        refine qe rfl ?_
        refine qe rfl ?_
        refine z0m ?_
        cases H
        exact ⟨trivial,.inl rfl,.inl rfl,trivial⟩
     ·rintro k57 x60 ⟨v55,v56⟩ q58 h68 h69 H hq58
      replace H:z8u v2 v46 v49 v53 k57 x60 v55 v56=some q58:=H
      unfold z8u at H
      refine z0c ?_
      refine z0b hN rfl ?_
      refine z0a (z04 rfl rfl) ?_
      refine z0c ?_
      refine z0j _ rfl (fun h => ?_) (fun h=>(lt_f h68 h).elim)
      refine z0l ?_
      refine z0z (ι:=Bool×Int) (fun i=>[(1,.dat (vint v46)),(8,.dat (z01 (decide (v2=0)))),(9,.dat (vstr v1)),(10,.dat (vval (.int .u64 v53))),(11,.dat (vval (.int .u64 (IntKind.wrap .u64 ((shl_ .u64 1 (IntKind.wrap .u64 v49)) - 1))))),(12,.dat (z01 i.1)),(13,.dat (vval (.int .u64 i.2))),(99,.dat (vlst (List.map z4z (y0v v45)))),(100,.dat (vint ((y0v v45).length:Int))),(101,.dat (vint (k57:Int)))]) (fun i=>[]) (fun i=>z43 i.1 i.2=some q58) (fun i=>rfl) ?_ ?_
      ·skip
       refine z0u ?_
       refine z0c ?_
       refine z0b hN rfl ?_
       refine z0a (y00 w49 (fun _=>rfl) rfl rfl h69) ?_
       refine z0a (z0w tyS5 rfl (z3m h69) rfl) ?_
       refine qe rfl ?_
       refine z0c ?_
       refine z0b hN rfl ?_
       refine qe rfl ?_
       refine z0z (ι:=Int) (fun i=>[(1,.dat (vint v46)),(8,.dat (z01 (decide (v2=0)))),(9,.dat (vstr v1)),(10,.dat (vval (.int .u64 v53))),(11,.dat (vval (.int .u64 (IntKind.wrap .u64 ((shl_ .u64 1 (IntKind.wrap .u64 v49)) - 1))))),(12,.dat (z01 v55)),(13,.dat (vval (.int .u64 v56))),(16,.dat (vval (.int .u8 i))),(99,.dat (vlst (List.map z4z (y0v v45)))),(100,.dat (vint ((y0v v45).length:Int))),(101,.dat (vint (k57:Int)))]) (fun i=>[]) (fun i=>z4k v46 v49 v53 v55 v56 i=some q58) (fun i=>rfl) ?_ ?_
       ·skip
        refine z0u ?_
        refine z0c ?_
        refine z0b hN rfl ?_
        refine qd rfl ?_
        refine z0a (z2a rfl rfl) ?_
        refine qd rfl ?_
        refine z5y rfl rfl (fun hc=>z0h (.dat _) rfl) ?_
        refine z0a (z11 rfl (fun hb=>(cnd (c:=(decide (x60=95))) hb)) rfl) ?_
        refine qe rfl ?_
        refine z0j _ rfl (fun h70 => ?_) (fun h70 => ?_)
        ·replace H:=ift h70 H
         refine z0c ?_
         refine z0b hN rfl ?_
         refine qe rfl ?_
         refine z14 ?_
         exact ⟨(true,v56),H,⟨rfl,rfl,rfl,rfl,rfl,rfl,rfl,rfl,rfl,rfl,trivial⟩,trivial⟩
        ·replace H:=iff_ h70 H
         refine z0c ?_
         refine z0b hN rfl ?_
         refine qd rfl ?_
         refine z0a (z9i rfl rfl) ?_
         refine qd rfl ?_
         refine z5y rfl rfl (fun hc=>z0h (.dat _) rfl) ?_
         refine z5y rfl rfl (fun hc=>z9i (cnd (c:=(decide (48≤x60))) hc) rfl) ?_
         refine z0a (z11 rfl (fun hb=>(cnd (c:=(decide (48≤x60))) hb)) rfl) ?_
         refine qe rfl ?_
         refine z0j _ rfl (fun h71 => ?_) (fun h71 => ?_)
         ·replace H:=ift h71 H
          refine z0b hN rfl ?_
          refine qd rfl ?_
          refine z0a (z1a _ rfl rfl (.inr (.inl ⟨rfl,rfl⟩))) ?_
          refine qe rfl ?_
          exact ⟨IntKind.wrap .u8 (x60 - 48),H,⟨rfl,rfl,rfl,rfl,rfl,rfl,rfl,rfl,rfl,rfl,rfl,trivial⟩,trivial⟩
         ·replace H:=iff_ h71 H
          refine z0z (ι:=Bool) (fun i=>[(1,.dat (vint v46)),(8,.dat (z01 (decide (v2=0)))),(9,.dat (vstr v1)),(10,.dat (vval (.int .u64 v53))),(11,.dat (vval (.int .u64 (IntKind.wrap .u64 ((shl_ .u64 1 (IntKind.wrap .u64 v49)) - 1))))),(12,.dat (z01 v55)),(13,.dat (vval (.int .u64 v56))),(15,.dat (vval (.int .u8 x60))),(99,.dat (vlst (List.map z4z (y0v v45)))),(100,.dat (vint ((y0v v45).length:Int))),(101,.dat (vint (k57:Int))),(121,.dat (z01 i))]) (fun i=>[]) (fun i=>z4j v46 v49 v53 v55 v56 x60 i=some q58) (fun i=>rfl) ?_ ?_
          ·skip
           refine z0b hN rfl ?_
           refine qd rfl ?_
           obtain ⟨r72,h73,H⟩:=bnd H
           refine z0a (z0o (z1n x60 r72 h73) ⟨.inl rfl,trivial⟩) ?_
           refine z0a (z9i rfl rfl) ?_
           refine qd rfl ?_
           refine z08 (j:=3) rfl rfl (fun h74 => ?_) (fun h74 => ?_) rfl
           ·have h75:=un1 h74
            replace H:=ift h75 H
            refine z0p rfl rfl h74 (z0h (.dat _) rfl) ?_
            obtain ⟨r76,h77,H⟩:=bnd H
            refine z0p rfl rfl h74 (z0o (z1n x60 r76 h77) ⟨.inl rfl,trivial⟩) ?_
            refine z0p rfl rfl h74 (z9i rfl rfl) ?_
            refine z0a (z0v rfl (bTT h75) rfl) ?_
            refine qe rfl ?_
            exact ⟨decide (r76≤122),H,⟨rfl,rfl,rfl,rfl,rfl,rfl,rfl,rfl,rfl,rfl,rfl,rfl,trivial⟩,trivial⟩
           ·have h78:=un2 h74
            replace H:=iff_ h78 H
            refine z0f rfl rfl h74 ?_
            refine z0f rfl rfl h74 ?_
            refine z0f rfl rfl h74 ?_
            refine z0a (z0x rfl (bFF h78) rfl) ?_
            refine qe rfl ?_
            exact ⟨false,H,⟨rfl,rfl,rfl,rfl,rfl,rfl,rfl,rfl,rfl,rfl,rfl,rfl,trivial⟩,trivial⟩
          ·rintro v79 H
           replace H:z4j v46 v49 v53 v55 v56 x60 v79=some q58:=H
           unfold z4j at H
           refine z0j _ rfl (fun h80 => ?_) (fun h80 => ?_)
           ·replace H:=ift h80 H
            refine z0b hN rfl ?_
            refine qd rfl ?_
            obtain ⟨r81,h82,H⟩:=bnd H
            refine z0a (z0o (z1n x60 r81 h82) ⟨.inl rfl,trivial⟩) ?_
            refine z0a (z1a _ rfl rfl (.inr (.inl ⟨rfl,rfl⟩))) ?_
            refine z0a (z1a _ rfl rfl (.inl ⟨rfl,rfl⟩)) ?_
            refine qe rfl ?_
            exact ⟨IntKind.wrap .u8 ((IntKind.wrap .u8 (r81 - 97))+10),H,⟨rfl,rfl,rfl,rfl,rfl,rfl,rfl,rfl,rfl,rfl,rfl,trivial⟩,trivial⟩
           ·replace H:=iff_ h80 H
            refine z0c ?_
            refine z0b hN rfl ?_
            refine z0a (z09 (u':=verr 2) (z90 (show Tryz.prog.underlying 151=some (.int .i64) from by kernel_rfl) rfl) rfl) ?_
            refine qe rfl ?_
            refine qe rfl ?_
            refine z0m ?_
            replace H:=retl H hq58
            cases H
            exact ⟨trivial,.inl rfl,.inl rfl,trivial⟩
       ·rintro v83 H
        replace H:z4k v46 v49 v53 v55 v56 v83=some q58:=H
        unfold z4k at H
        refine z0c ?_
        refine z0c ?_
        refine z0b hN rfl ?_
        refine qd rfl ?_
        refine qd rfl ?_
        refine z0a (z6k tyU3 tyU5 rfl) ?_
        refine z0a (z9w rfl rfl) ?_
        refine z0j _ rfl (fun h84 => ?_) (fun h84 => ?_)
        ·replace H:=ift h84 H
         refine z0c ?_
         refine z0b hN rfl ?_
         refine z0a (z09 (u':=verr 2) (z90 (show Tryz.prog.underlying 151=some (.int .i64) from by kernel_rfl) rfl) rfl) ?_
         refine qe rfl ?_
         refine qe rfl ?_
         refine z0m ?_
         replace H:=retl H hq58
         cases H
         exact ⟨trivial,.inl rfl,.inl rfl,trivial⟩
        ·replace H:=iff_ h84 H
         refine z0l ?_
         refine z0c ?_
         refine z0c ?_
         refine z0b hN rfl ?_
         refine qd rfl ?_
         refine qd rfl ?_
         refine z0a (z9w rfl rfl) ?_
         refine z0j _ rfl (fun h85 => ?_) (fun h85 => ?_)
         ·replace H:=ift h85 H
          refine z0c ?_
          refine z0b hN rfl ?_
          refine qd rfl ?_
          refine z0a (z09 (u':=verr 1) (z90 (show Tryz.prog.underlying 151=some (.int .i64) from by kernel_rfl) rfl) rfl) ?_
          refine qe rfl ?_
          refine qe rfl ?_
          refine z0m ?_
          replace H:=retl H hq58
          cases H
          exact ⟨trivial,.inl rfl,.inl rfl,trivial⟩
         ·replace H:=iff_ h85 H
          refine z0l ?_
          refine z0c ?_
          refine z0b hN rfl ?_
          refine qd rfl ?_
          refine qd rfl ?_
          refine z0a (z6k tyU3 y8l rfl) ?_
          refine z0a (z1a _ rfl rfl (.inr (.inr ⟨rfl,rfl⟩))) ?_
          refine qe rfl ?_
          refine z0c ?_
          refine z0b hN rfl ?_
          refine qd rfl ?_
          refine qd rfl ?_
          refine z0a (z6k tyU5 y8l rfl) ?_
          refine z0a (z1a _ rfl rfl (.inl ⟨rfl,rfl⟩)) ?_
          refine qe rfl ?_
          refine z0c ?_
          refine z0c ?_
          refine z0b hN rfl ?_
          refine qd rfl ?_
          refine qd rfl ?_
          refine z0a (z04 rfl rfl) ?_
          refine qd rfl ?_
          refine z2r rfl rfl (fun hc=>z0h (.dat _) rfl) ?_
          refine z2r rfl rfl (fun hc=>z0h (.dat _) rfl) ?_
          refine z2r rfl rfl (fun hc=>z29 (cnd (c:=(!(decide ((IntKind.wrap .u64 ((IntKind.wrap .u64 (v56 * (IntKind.wrap .u64 v46)))+(IntKind.wrap .u64 v83))) < (IntKind.wrap .u64 (v56 * (IntKind.wrap .u64 v46))))))) hc) (cnd (c:=(!(decide ((IntKind.wrap .u64 ((IntKind.wrap .u64 (v56 * (IntKind.wrap .u64 v46)))+(IntKind.wrap .u64 v83))) < (IntKind.wrap .u64 (v56 * (IntKind.wrap .u64 v46))))))) hc)) ?_
          refine z0a (z3f rfl rfl (fun hb=>(cnd (c:=(!(decide ((IntKind.wrap .u64 ((IntKind.wrap .u64 (v56 * (IntKind.wrap .u64 v46)))+(IntKind.wrap .u64 v83))) < (IntKind.wrap .u64 (v56 * (IntKind.wrap .u64 v46))))))) (notI hb)))) ?_
          refine z0j _ rfl (fun h86 => ?_) (fun h86 => ?_)
          ·replace H:=ift h86 H
           refine z0c ?_
           refine z0b hN rfl ?_
           refine qd rfl ?_
           refine z0a (z09 (u':=verr 1) (z90 (show Tryz.prog.underlying 151=some (.int .i64) from by kernel_rfl) rfl) rfl) ?_
           refine qe rfl ?_
           refine qe rfl ?_
           refine z0m ?_
           replace H:=retl H hq58
           cases H
           exact ⟨trivial,.inl rfl,.inl rfl,trivial⟩
          ·replace H:=iff_ h86 H
           refine z0l ?_
           refine z0b hN rfl ?_
           refine qd rfl ?_
           refine qe rfl ?_
           exact ⟨(v55,IntKind.wrap .u64 ((IntKind.wrap .u64 (v56 * (IntKind.wrap .u64 v46)))+(IntKind.wrap .u64 v83))),H,⟨rfl,rfl,rfl,rfl,rfl,rfl,rfl,rfl,rfl,rfl,trivial⟩,trivial⟩
      ·rintro ⟨v87,v88⟩ H
       replace H:z43 v87 v88=some q58:=H
       unfold z43 at H
       refine z0b hN rfl ?_
       refine z0a (z5w rfl rfl (by omega)) ?_
       refine qd rfl ?_
       exact ⟨_,z9s H,⟨rfl,rfl,rfl,rfl,rfl,rfl,rfl,rfl,rfl,rfl,trivial⟩,trivial⟩
theorem y1s (v1:Bs) (v2:Int) (v3:Int) (r:(Int×Int)) (H:z7b v1 v2 v3=some r):Fn Tryz.prog 107 [vstr v1,vint v2,vint v3] (z1s [vint r.1,verr r.2]):=by
 refine ⟨by kernel_rfl,z1g (us:=[vint r.1,verr r.2]) Tryz.func107 rfl rfl rfl rfl fun X hN => ?_⟩
 unfold z7b at H
 refine z0c ?_
 refine z0b hN rfl ?_
 refine qe rfl ?_
 refine qe rfl ?_
 refine z0c ?_
 refine z0c ?_
 refine z0b hN rfl ?_
 refine qd rfl ?_
 refine z0a (z65 rfl rfl) ?_
 refine z0j _ rfl (fun h4 => ?_) (fun h4 => ?_)
 ·replace H:=ift h4 H
  refine z0c ?_
  refine z0b hN rfl ?_
  refine z0a (z09 (u':=verr 2) (z90 (show Tryz.prog.underlying 151=some (.int .i64) from by kernel_rfl) rfl) rfl) ?_
  refine qe rfl ?_
  refine qe rfl ?_
  refine z0m ?_
  cases H
  exact ⟨trivial,.inl rfl,.inl rfl,trivial⟩
 ·replace H:=iff_ h4 H
  refine z0l ?_
  refine z0c ?_
  refine z0b hN rfl ?_
  refine qe rfl ?_
  refine z0z (ι:=Bs×Bool) (fun i=>[(0,.dat (vstr i.1)),(1,.dat (vint v2)),(2,.dat (vint v3)),(8,.dat (z01 i.2))]) (fun i=>[]) (fun i=>z3p v2 v3 i.1 i.2=some r) (fun i=>rfl) ?_ ?_
  ·skip
   refine z0c ?_
   refine z0b hN rfl ?_
   refine qd rfl ?_
   obtain ⟨x5,h6,H⟩:=bnd H
   refine z0a (z9h tyU9 rfl rfl h6) ?_
   refine z0u ?_
   refine z0c ?_
   refine z0b hN rfl ?_
   refine z0a (z2a rfl rfl) ?_
   refine qe rfl ?_
   refine z0j _ rfl (fun h7 => ?_) (fun h7 => ?_)
   ·replace H:=ift h7 H
    refine z0b hN rfl ?_
    refine qd rfl ?_
    obtain ⟨l8,h9,H⟩:=bnd H
    refine z0a (y0h tyU9 rfl rfl rfl h9) ?_
    refine qe rfl ?_
    exact ⟨(l8,false),H,⟨rfl,rfl,rfl,rfl,trivial⟩,trivial⟩
   ·replace H:=iff_ h7 H
    refine z0c ?_
    refine z0b hN rfl ?_
    refine z0a (z2a rfl rfl) ?_
    refine qe rfl ?_
    refine z0j _ rfl (fun h10 => ?_) (fun h10 => ?_)
    ·replace H:=ift h10 H
     refine z0c ?_
     refine z0b hN rfl ?_
     refine qd rfl ?_
     obtain ⟨l11,h12,H⟩:=bnd H
     refine z0a (y0h tyU9 rfl rfl rfl h12) ?_
     refine qe rfl ?_
     refine z0b hN rfl ?_
     refine qe rfl ?_
     exact ⟨(l11,true),H,⟨rfl,rfl,rfl,rfl,trivial⟩,trivial⟩
    ·replace H:=iff_ h10 H
     refine z0l ?_
     exact ⟨(v1,false),H,⟨rfl,rfl,rfl,rfl,trivial⟩,trivial⟩
  ·rintro ⟨v13,v14⟩ H
   replace H:z3p v2 v3 v13 v14=some r:=H
   unfold z3p at H
   refine z0c ?_
   refine z0b hN rfl ?_
   refine qe rfl ?_
   refine z0c ?_
   refine z0b hN rfl ?_
   refine qd rfl ?_
   refine qd rfl ?_
   refine qd rfl ?_
   obtain ⟨r15,h16,H⟩:=bnd H
   refine z0a (z0o (y32 v13 v2 v3 r15 h16) ⟨.inl rfl,.inl rfl,.inl rfl,trivial⟩) ?_
   refine qd rfl ?_
   refine z0a (z1q rfl rfl) ?_
   refine z0a (z1q rfl rfl) ?_
   refine qe rfl ?_
   refine qe rfl ?_
   refine z0c ?_
   refine z0z (ι:=Bool) (fun i=>[(2,.dat (vint v3)),(7,.dat (verr r15.2)),(8,.dat (z01 v14)),(9,.dat (vval (.int .u64 r15.1))),(38,.dat (z01 i))]) (fun i=>[]) (fun i=>z5n v3 v14 r15 i=some r) (fun i=>rfl) ?_ ?_
   ·skip
    refine z0b hN rfl ?_
    refine qd rfl ?_
    refine z0a (y71 (n:=r15.2) (show Tryz.prog.underlying 90=some (.interface (Tryz.prog.methodsAt 90)) from by kernel_rfl) rfl) ?_
    refine qd rfl ?_
    refine z08 (j:=2) rfl rfl (fun h17 => ?_) (fun h17 => ?_) rfl
    ·have h18:=un1 h17
     replace H:=ift h18 H
     refine z0p rfl rfl h17 (z0h (.dat _) rfl) ?_
     refine z0p rfl rfl h17 (z09 (u':=verr 1) (z90 (show Tryz.prog.underlying 151=some (.int .i64) from by kernel_rfl) rfl) rfl) ?_
     obtain ⟨h19,H⟩:=gif H
     refine z0p rfl rfl h17 (x4m (n:=r15.2) (m:=1) (show Tryz.prog.underlying 90=some (.interface (Tryz.prog.methodsAt 90)) from by kernel_rfl) (by kernel_rfl) (by kernel_rfl) rfl rfl h19 (by decide)) ?_
     refine z0a (z0v rfl (bTT h18) rfl) ?_
     exact ⟨decide (r15.2≠1),H,⟨rfl,rfl,rfl,rfl,rfl,trivial⟩,trivial⟩
    ·have h20:=un2 h17
     replace H:=iff_ h20 H
     refine z0f rfl rfl h17 ?_
     refine z0f rfl rfl h17 ?_
     refine z0f rfl rfl h17 ?_
     refine z0a (z0x rfl (bFF h20) rfl) ?_
     exact ⟨false,H,⟨rfl,rfl,rfl,rfl,rfl,trivial⟩,trivial⟩
   ·rintro v21 H
    replace H:z5n v3 v14 r15 v21=some r:=H
    unfold z5n at H
    refine z0j _ rfl (fun h22 => ?_) (fun h22 => ?_)
    ·replace H:=ift h22 H
     refine z0c ?_
     refine z0b hN rfl ?_
     refine qd rfl ?_
     refine qe rfl ?_
     refine qe rfl ?_
     refine z0m ?_
     cases H
     exact ⟨trivial,.inl rfl,.inl rfl,trivial⟩
    ·replace H:=iff_ h22 H
     refine z0l ?_
     refine z0z (ι:=Int) (fun i=>[(2,.dat (vint i)),(8,.dat (z01 v14)),(9,.dat (vval (.int .u64 r15.1)))]) (fun i=>[]) (fun i=>z5m v14 r15 i=some r) (fun i=>rfl) ?_ ?_
     ·skip
      refine z0c ?_
      refine z0b hN rfl ?_
      refine qd rfl ?_
      refine z0a (z2a rfl rfl) ?_
      refine z0j _ rfl (fun h23 => ?_) (fun h23 => ?_)
      ·replace H:=ift h23 H
       refine z0b hN rfl ?_
       refine qe rfl ?_
       exact ⟨64,H,⟨rfl,rfl,rfl,trivial⟩,trivial⟩
      ·replace H:=iff_ h23 H
       refine z0l ?_
       exact ⟨v3,H,⟨rfl,rfl,rfl,trivial⟩,trivial⟩
     ·rintro v24 H
      replace H:z5m v14 r15 v24=some r:=H
      unfold z5m at H
      refine z0c ?_
      refine z0b hN rfl ?_
      refine qd rfl ?_
      refine z0a (z1a _ rfl rfl (.inr (.inl ⟨rfl,rfl⟩))) ?_
      refine z0a (z6k tyU3 x7z rfl) ?_
      obtain ⟨h25,H⟩:=gif H
      refine z0a (z09 (x1o rfl rfl h25) rfl) ?_
      refine qe rfl ?_
      refine z0c ?_
      refine z0c ?_
      refine z0b hN rfl ?_
      refine qd rfl ?_
      refine z0a (z3t rfl) ?_
      refine qd rfl ?_
      refine z5y rfl rfl (fun hc=>z0h (.dat _) rfl) ?_
      refine z5y rfl rfl (fun hc=>z0h (.dat _) rfl) ?_
      refine z5y rfl rfl (fun hc=>z9w (cnd (c:=(!v14)) hc) (cnd (c:=(!v14)) hc)) ?_
      refine z0a (z11 rfl (fun hb=>(cnd (c:=(!v14)) hb)) rfl) ?_
      refine z0j _ rfl (fun h26 => ?_) (fun h26 => ?_)
      ·replace H:=ift h26 H
       refine z0c ?_
       refine z0b hN rfl ?_
       refine qd rfl ?_
       refine z0a (z1a _ rfl rfl (.inr (.inl ⟨rfl,rfl⟩))) ?_
       refine z0a (z6k y8l tyU2 rfl) ?_
       refine z0a (z09 (u':=verr 1) (z90 (show Tryz.prog.underlying 151=some (.int .i64) from by kernel_rfl) rfl) rfl) ?_
       refine qe rfl ?_
       refine qe rfl ?_
       refine z0m ?_
       cases H
       exact ⟨trivial,.inl rfl,.inl rfl,trivial⟩
      ·replace H:=iff_ h26 H
       refine z0l ?_
       refine z0c ?_
       refine z0c ?_
       refine z0b hN rfl ?_
       refine qd rfl ?_
       refine qd rfl ?_
       refine z5y rfl rfl (fun hc=>z0h (.dat _) rfl) ?_
       refine z5y rfl rfl (fun hc=>z0h (.dat _) rfl) ?_
       refine z5y rfl rfl (fun hc=>z29 (cnd (c:=v14) hc) (cnd (c:=v14) hc)) ?_
       refine z0a (z11 rfl (fun hb=>(cnd (c:=v14) hb)) rfl) ?_
       refine z0j _ rfl (fun h27 => ?_) (fun h27 => ?_)
       ·replace H:=ift h27 H
        refine z0c ?_
        refine z0b hN rfl ?_
        refine qd rfl ?_
        refine z0a (z6k y8l tyU2 rfl) ?_
        obtain ⟨h28,H⟩:=gif H
        refine z0a (x4i rfl h28) ?_
        refine z0a (z09 (u':=verr 1) (z90 (show Tryz.prog.underlying 151=some (.int .i64) from by kernel_rfl) rfl) rfl) ?_
        refine qe rfl ?_
        refine qe rfl ?_
        refine z0m ?_
        cases H
        exact ⟨trivial,.inl rfl,.inl rfl,trivial⟩
       ·replace H:=iff_ h27 H
        refine z0l ?_
        refine z0c ?_
        refine z0b hN rfl ?_
        refine qd rfl ?_
        refine z0a (z6k y8l tyU2 rfl) ?_
        refine qe rfl ?_
        refine z0z (ι:=Int) (fun i=>[(11,.dat (vint i))]) (fun i=>[]) (fun i=>z5l i=some r) (fun i=>rfl) ?_ ?_
        ·skip
         refine z0c ?_
         refine z0b hN rfl ?_
         refine qd rfl ?_
         refine z0j _ rfl (fun h29 => ?_) (fun h29 => ?_)
         ·replace H:=ift h29 H
          refine z0b hN rfl ?_
          refine qd rfl ?_
          obtain ⟨h30,H⟩:=gif H
          refine z0a (x4i rfl h30) ?_
          refine qe rfl ?_
          exact ⟨(-(IntKind.wrap .i64 r15.1)),H,⟨rfl,trivial⟩,trivial⟩
         ·replace H:=iff_ h29 H
          refine z0l ?_
          exact ⟨IntKind.wrap .i64 r15.1,H,⟨rfl,trivial⟩,trivial⟩
        ·rintro v31 H
         replace H:z5l v31=some r:=H
         unfold z5l at H
         refine z0c ?_
         refine z0b hN rfl ?_
         refine qd rfl ?_
         refine qe rfl ?_
         refine qe rfl ?_
         refine z0m ?_
         cases H
         exact ⟨trivial,.inl rfl,.inl rfl,trivial⟩
theorem y5c (fn s:Bs) (base bits e r:Int) (H:y3a fn s base bits e=some r):Fn Tryz.prog 108 [vstr fn,vstr s,vint base,vint bits,verr e] (z1s [verr r]):=by
 obtain ⟨⟨h1,h2,h3⟩,h4⟩:=gif H
 cases h4
 refine y1t (by kernel_rfl) fun M w vs hM h => ?_
 rcases h3 with rfl | rfl
 ·have hv:=y3w (us:=[.string ⟨fn.toArray⟩,.string ⟨s.toArray⟩,.int .i64 base,.int .i64 bits,.iface 151 (.int .i64 2)]) h
  subst hv
  obtain ⟨tp,p,hc⟩:=x0s hM
  refine (Tryz.strconv_toError_syntax ⟨fn.toArray⟩ ⟨s.toArray⟩ base bits (.iface tp p) w (by simp [ByteArray.size]; omega) hc (.inr ⟨tp,p,rfl⟩)).mono ?_
  rintro e w' ⟨N,rfl,_,_,hb⟩
  exact ⟨_,rfl,⟨_,_,rfl⟩,Kp.of_below hb⟩
 ·have hv:=y3w (us:=[.string ⟨fn.toArray⟩,.string ⟨s.toArray⟩,.int .i64 base,.int .i64 bits,.iface 151 (.int .i64 1)]) h
  subst hv
  obtain ⟨tp,p,hc⟩:=x2q hM
  refine (Tryz.strconv_toError_range ⟨fn.toArray⟩ ⟨s.toArray⟩ base bits (.iface tp p) w (by simp [ByteArray.size]; omega) hc (.inr ⟨tp,p,rfl⟩)).mono ?_
  rintro e w' ⟨N,rfl,_,_,hb⟩
  exact ⟨_,rfl,⟨_,_,rfl⟩,Kp.of_below hb⟩
theorem y4w (s1:Bs) (base2:Int) (bitSize3:Int) (r:(Int×Int)) (H:z58 s1 base2 bitSize3=some r):Fn Tryz.prog 70 [vstr s1,vint base2,vint bitSize3] (z1s [vint r.1,verr r.2]):=by
 refine ⟨by kernel_rfl,z1g (us:=[vint r.1,verr r.2]) Tryz.func70 rfl rfl rfl rfl fun X hN => ?_⟩
 unfold z58 at H
 refine z0c ?_
 refine z0b hN rfl ?_
 refine qe rfl ?_
 refine qe rfl ?_
 refine z0c ?_
 refine z0b hN rfl ?_
 refine qd rfl ?_
 refine qd rfl ?_
 refine qd rfl ?_
 obtain ⟨r4,h5,H⟩:=bnd H
 refine z0a (z0o (y1s s1 base2 bitSize3 r4 h5) ⟨.inl rfl,.inl rfl,.inl rfl,trivial⟩) ?_
 refine qd rfl ?_
 refine z0a (z1q rfl rfl) ?_
 refine z0a (z1q rfl rfl) ?_
 refine qe rfl ?_
 refine qe rfl ?_
 refine z0c ?_
 refine z0c ?_
 refine z0b hN rfl ?_
 refine qd rfl ?_
 refine z0a (y71 (n:=r4.2) (show Tryz.prog.underlying 90=some (.interface (Tryz.prog.methodsAt 90)) from by kernel_rfl) rfl) ?_
 refine z0j _ rfl (fun h6 => ?_) (fun h6 => ?_)
 ·replace H:=ift h6 H
  refine z0c ?_
  refine z0b hN rfl ?_
  refine qd rfl ?_
  refine qd rfl ?_
  refine qd rfl ?_
  refine qd rfl ?_
  refine qd rfl ?_
  obtain ⟨r7,h8,H⟩:=bnd H
  refine z0a (z0o (y5c [80,97,114,115,101,73,110,116] s1 base2 bitSize3 r4.2 r7 h8) ⟨.inl rfl,.inl rfl,.inl rfl,.inl rfl,.inl rfl,trivial⟩) ?_
  refine qe rfl ?_
  refine qe rfl ?_
  refine z0m ?_
  cases H
  exact ⟨trivial,.inl rfl,.inl rfl,trivial⟩
 ·replace H:=iff_ h6 H
  refine z0l ?_
  refine z0c ?_
  refine z0b hN rfl ?_
  refine qd rfl ?_
  refine qe rfl ?_
  refine qe rfl ?_
  refine z0m ?_
  cases H
  exact ⟨trivial,.inl rfl,.inl rfl,trivial⟩
theorem y33 (i1:Int) (base2:Int) (r:(Bs)) (H:z67 i1 base2=some r):Fn Tryz.prog 106 [vint i1,vint base2] (z1s [vstr r]):=by
 refine ⟨by kernel_rfl,z1g (us:=[vstr r]) Tryz.func106 rfl rfl rfl rfl fun X hN => ?_⟩
 unfold z67 at H
 refine z0c ?_
 refine z0b hN rfl ?_
 refine qe rfl ?_
 refine z0c ?_
 refine z0c ?_
 refine z0b hN rfl ?_
 refine qd rfl ?_
 refine z0a (z2a rfl rfl) ?_
 refine z0j _ rfl (fun h3 => ?_) (fun h3 => ?_)
 ·replace H:=ift h3 H
  refine z0c ?_
  refine z0c ?_
  refine z0b hN rfl ?_
  refine qd rfl ?_
  refine z0a (z9i rfl rfl) ?_
  refine qd rfl ?_
  refine z5y rfl rfl (fun hc=>z0h (.dat _) rfl) ?_
  refine z5y rfl rfl (fun hc=>z04 (cnd (c:=(decide (0≤i1))) hc) rfl) ?_
  refine z0a (z11 rfl (fun hb=>(cnd (c:=(decide (0≤i1))) hb)) rfl) ?_
  refine z0j _ rfl (fun h4 => ?_) (fun h4 => ?_)
  ·replace H:=ift h4 H
   refine z0c ?_
   refine z0b hN rfl ?_
   refine qd rfl ?_
   obtain ⟨r5,h6,H⟩:=bnd H
   refine z0a (z0o (y2j i1 r5 h6) ⟨.inl rfl,trivial⟩) ?_
   refine qe rfl ?_
   refine z0m ?_
   cases H
   exact ⟨trivial,.inl rfl,trivial⟩
  ·replace H:=iff_ h4 H
   cases H
 ·replace H:=iff_ h3 H
  refine z0l ?_
  refine z0c ?_
  refine z0b hN rfl ?_
  refine qd rfl ?_
  refine z0a (z6k tyU2 y8l rfl) ?_
  refine qd rfl ?_
  refine qd rfl ?_
  refine z0a (z04 rfl rfl) ?_
  obtain ⟨r7,h8,H⟩:=bnd H
  refine z0a (z0o (y02 ([]:(List Int)) (IntKind.wrap .u64 i1) base2 (decide (i1 < 0)) false r7 h8) ⟨.inr ⟨rfl,rfl⟩,.inl rfl,.inl rfl,.inl rfl,.inl rfl,trivial⟩) ?_
  refine qd rfl ?_
  refine z0a (z1q rfl rfl) ?_
  refine z0a (z1q rfl rfl) ?_
  refine qe rfl ?_
  refine qe rfl ?_
  refine z0c ?_
  refine z0b hN rfl ?_
  refine qd rfl ?_
  refine qe rfl ?_
  refine z0m ?_
  cases H
  exact ⟨trivial,.inl rfl,trivial⟩
theorem y4k (i1:Int) (base2:Int) (r:(Bs)) (H:z5x i1 base2=some r):Fn Tryz.prog 69 [vint i1,vint base2] (z1s [vstr r]):=by
 refine ⟨by kernel_rfl,z1g (us:=[vstr r]) Tryz.func69 rfl rfl rfl rfl fun X hN => ?_⟩
 unfold z5x at H
 refine z0c ?_
 refine z0b hN rfl ?_
 refine qe rfl ?_
 refine z0c ?_
 refine z0b hN rfl ?_
 refine qd rfl ?_
 refine qd rfl ?_
 obtain ⟨r3,h4,H⟩:=bnd H
 refine z0a (z0o (y33 i1 base2 r3 h4) ⟨.inl rfl,.inl rfl,trivial⟩) ?_
 refine qe rfl ?_
 refine z0m ?_
 cases H
 exact ⟨trivial,.inl rfl,trivial⟩
theorem y1b (s1:Bs) (r:(Bs)) (H:z5i s1=some r):Fn Tryz.prog 38 [vstr s1] (z1s [vstr r]):=by
 refine ⟨by kernel_rfl,z1g (us:=[vstr r]) Tryz.func38 rfl rfl rfl rfl fun X hN => ?_⟩
 unfold z5i at H
 refine z0c ?_
 refine z0b hN rfl ?_
 refine qe rfl ?_
 refine z0c ?_
 refine z0b hN rfl ?_
 refine qe rfl ?_
 refine z0c ?_
 refine z0c ?_
 refine z0b hN rfl ?_
 refine qd rfl ?_
 refine z0a (z1j tyU9 rfl) ?_
 refine qd rfl ?_
 refine z0u ?_
 obtain ⟨h5,H⟩:=gif H
 refine z6c (fun (k3:Nat) (s:Bs)=>[(0,.dat (vstr s1)),(3,.dat (vstr s)),(10,.dat (vint (s1.length:Int))),(11,.dat (vint (k3:Int)))]) (fun (k3:Nat) (s:Bs)=>[]) [] H ⟨rfl,rfl,rfl,rfl,trivial⟩ trivial (fun _ _=>rfl) ?_ ?_
 ·rintro bits2 H
  replace H:z6v bits2=some r:=H
  unfold z6v at H
  refine z0c ?_
  refine z0b hN rfl ?_
  refine z0a (z04 rfl rfl) ?_
  refine z0c ?_
  refine z0j _ rfl (fun h=>(lt_t h).elim) (fun h => ?_)
  refine z14 ?_
  refine z0c ?_
  refine z0b hN rfl ?_
  refine qe rfl ?_
  refine z0z (ι:=Bs) (fun i=>[(5,.dat (vstr i))]) (fun i=>[]) (fun i=>z6u i=some r) (fun i=>rfl) ?_ ?_
  ·skip
   refine z0u ?_
   refine y36 (fun (s:Bs×Bs)=>[(3,.dat (vstr s.1)),(5,.dat (vstr s.2))]) (fun (s:Bs×Bs)=>[]) (bits2,[]) H ⟨rfl,rfl,trivial⟩ trivial (fun _=>rfl) ?_
   rintro ⟨bits7,out8⟩ q9 H hq9
   replace H:z2c bits7 out8=some q9:=H
   unfold z2c at H
   refine z0c ?_
   refine z0c ?_
   refine z0b hN rfl ?_
   refine qd rfl ?_
   refine z0a (z8k rfl rfl) ?_
   refine z0j _ rfl (fun h10 => ?_) (fun h10 => ?_)
   ·replace H:=ift h10 H
    refine z0l ?_
    refine z0u ?_
    refine z0c ?_
    refine z0b hN rfl ?_
    refine qd rfl ?_
    refine z0a (z1j tyU9 rfl) ?_
    refine z0a (x4j rfl rfl) ?_
    refine qe rfl ?_
    refine z0c ?_
    refine z5o mixed hN rfl rfl ?_
    refine qd rfl ?_
    refine qd rfl ?_
    obtain ⟨l11,h12,H⟩:=bnd H
    refine z0a (y0h tyU9 rfl rfl rfl h12) ?_
    refine qd rfl ?_
    obtain ⟨l13,h14,H⟩:=bnd H
    refine z0a (y0h tyU9 rfl rfl rfl h14) ?_
    obtain ⟨h15,H⟩:=gif H
    refine z0a (z1h rfl rfl (Nat.le_trans h15 (by decide))) ?_
    obtain ⟨r16,h17,H⟩:=bnd H
    refine z0a (z0o (y4w (l11++l13) 2 64 r16 h17) ⟨.inl rfl,.inl rfl,.inl rfl,trivial⟩) ?_
    refine qd rfl ?_
    refine z0a (z1q rfl rfl) ?_
    refine z0a (z1q rfl rfl) ?_
    refine qe rfl ?_
    refine qe rfl ?_
    refine ⟨rfl,?_⟩
    refine z0c ?_
    refine z0b hN rfl ?_
    refine qd rfl ?_
    refine qd rfl ?_
    refine qd rfl ?_
    refine z0a (z1a _ rfl rfl (.inl ⟨rfl,rfl⟩)) ?_
    obtain ⟨l18,h19,H⟩:=bnd H
    refine z0a (y0h tyU9 rfl rfl rfl h19) ?_
    obtain ⟨h20,H⟩:=gif H
    refine z0a (z1h rfl rfl (Nat.le_trans h20 (by decide))) ?_
    refine qe rfl ?_
    refine z0b hN rfl ?_
    refine qd rfl ?_
    refine qd rfl ?_
    obtain ⟨l21,h22,H⟩:=bnd H
    refine z0a (y0h tyU9 rfl rfl rfl h22) ?_
    refine qe rfl ?_
    exact ⟨_,z9s H,⟨rfl,rfl,trivial⟩,trivial⟩
   ·replace H:=iff_ h10 H
    refine z14 ?_
    replace H:=outl H hq9
    exact ⟨out8,H,⟨rfl,trivial⟩,trivial⟩
  ·rintro out23 H
   replace H:z6u out23=some r:=H
   unfold z6u at H
   refine z0c ?_
   refine z0b hN rfl ?_
   refine qd rfl ?_
   refine qe rfl ?_
   refine z0m ?_
   cases H
   exact ⟨trivial,.inl rfl,trivial⟩
 ·rintro k3 x6 bits2 q4 h24 h25 H hq4
  replace H:z6t k3 x6 bits2=some q4:=H
  unfold z6t at H
  refine z0c ?_
  refine z0b hN rfl ?_
  refine z0a (z04 rfl rfl) ?_
  refine z0c ?_
  refine z0j _ rfl (fun h => ?_) (fun h=>(lt_f h24 h).elim)
  refine z0l ?_
  refine z0c ?_
  refine z0u ?_
  refine z0c ?_
  refine z0b hN rfl ?_
  refine qd rfl ?_
  refine qe rfl ?_
  refine z0b hN rfl ?_
  refine qd rfl ?_
  refine qd rfl ?_
  refine qd rfl ?_
  refine z0a (z9h tyU9 rfl rfl h25) ?_
  refine z0a (z6k tyU5 tyU2 rfl) ?_
  refine z0a (z1a _ rfl rfl (.inl ⟨rfl,rfl⟩)) ?_
  obtain ⟨r26,h27,H⟩:=bnd H
  refine z0a (z0o (y4k (wr (256+(IntKind.wrap .i64 (x6.toNat:Int)))) 2 r26 h27) ⟨.inl rfl,.inl rfl,trivial⟩) ?_
  obtain ⟨l28,h29,H⟩:=bnd H
  refine z0a (y0h tyU9 rfl rfl rfl h29) ?_
  obtain ⟨h30,H⟩:=gif H
  refine z0a (z1h rfl rfl (Nat.le_trans h30 (by decide))) ?_
  refine qe rfl ?_
  refine z0b hN rfl ?_
  refine z0a (z5w rfl rfl (by omega)) ?_
  refine qd rfl ?_
  exact ⟨_,z9s H,⟨rfl,rfl,rfl,rfl,trivial⟩,trivial⟩
theorem y79 (l1:(List Bs)) (r:(Int)) (H:y1x l1=some r):Fn Tryz.prog 71 [vlst (List.map z0n l1)] (z1s [vval (.int .u64 r)]):=by
 refine ⟨by kernel_rfl,z1g (us:=[vval (.int .u64 r)]) Tryz.func71 rfl rfl rfl rfl fun X hN => ?_⟩
 unfold y1x at H
 refine z0c ?_
 refine z0b hN rfl ?_
 refine qe rfl ?_
 refine z0c ?_
 refine z0b hN rfl ?_
 refine qe rfl ?_
 refine z0c ?_
 refine z0b hN rfl ?_
 refine qd rfl ?_
 obtain ⟨r2,h3,H⟩:=bnd H
 refine z0a (z0o (y05 l1 [0] r2 h3) ⟨.inl rfl,.inl rfl,trivial⟩) ?_
 refine qe rfl ?_
 refine z0c ?_
 refine z0c ?_
 refine z0b hN rfl ?_
 refine qd rfl ?_
 refine z0a (z1j tyU9 rfl) ?_
 refine qd rfl ?_
 refine z0u ?_
 obtain ⟨h7,H⟩:=gif H
 refine z6c (fun (k5:Nat) (s:Int)=>[(3,.dat (vval (.int .u64 s))),(4,.dat (vstr r2)),(9,.dat (vint (r2.length:Int))),(10,.dat (vint (k5:Int)))]) (fun (k5:Nat) (s:Int)=>[]) 14695981039346656037 H ⟨rfl,rfl,rfl,rfl,trivial⟩ trivial (fun _ _=>rfl) ?_ ?_
 ·rintro h4 H
  replace H:y1d h4=some r:=H
  unfold y1d at H
  refine z0c ?_
  refine z0b hN rfl ?_
  refine z0a (z04 rfl rfl) ?_
  refine z0c ?_
  refine z0j _ rfl (fun h=>(lt_t h).elim) (fun h => ?_)
  refine z14 ?_
  refine z0c ?_
  refine z0b hN rfl ?_
  refine qd rfl ?_
  refine qe rfl ?_
  refine z0m ?_
  cases H
  exact ⟨trivial,.inl rfl,trivial⟩
 ·rintro k5 x8 h4 q6 h9 h10 H hq6
  replace H:y1c k5 x8 h4=some q6:=H
  unfold y1c at H
  refine z0c ?_
  refine z0b hN rfl ?_
  refine z0a (z04 rfl rfl) ?_
  refine z0c ?_
  refine z0j _ rfl (fun h => ?_) (fun h=>(lt_f h9 h).elim)
  refine z0l ?_
  refine z0c ?_
  refine z0u ?_
  refine z0c ?_
  refine z0b hN rfl ?_
  refine qd rfl ?_
  refine qe rfl ?_
  refine z0b hN rfl ?_
  refine qd rfl ?_
  refine qd rfl ?_
  refine qd rfl ?_
  refine z0a (z9h tyU9 rfl rfl h10) ?_
  refine z0a (z6k tyU5 y8l rfl) ?_
  refine z0a (z09 (x1n rfl rfl) rfl) ?_
  refine z0a (z1a _ rfl rfl (.inr (.inr ⟨rfl,rfl⟩))) ?_
  refine qe rfl ?_
  refine z0b hN rfl ?_
  refine z0a (z5w rfl rfl (by omega)) ?_
  refine qd rfl ?_
  exact ⟨_,z9s H,⟨rfl,rfl,rfl,rfl,trivial⟩,trivial⟩
theorem y8t (h1:Int) (r:(Bs)) (H:z9x h1=some r):Fn Tryz.prog 72 [vval (.int .u64 h1)] (z1s [vstr r]):=by
 refine ⟨by kernel_rfl,z1g (us:=[vstr r]) Tryz.func72 rfl rfl rfl rfl fun X hN => ?_⟩
 unfold z9x at H
 refine z0c ?_
 refine z0b hN rfl ?_
 refine qe rfl ?_
 refine z0c ?_
 refine z0b hN rfl ?_
 refine qd rfl ?_
 obtain ⟨r2,h3,H⟩:=bnd H
 refine z0a (z0o (y3z h1 16 r2 h3) ⟨.inl rfl,.inl rfl,trivial⟩) ?_
 refine qe rfl ?_
 refine z0c ?_
 refine z0b hN rfl ?_
 refine qd rfl ?_
 refine z0a (z1j tyU9 rfl) ?_
 refine z0a (z1a _ rfl rfl (.inr (.inl ⟨rfl,rfl⟩))) ?_
 obtain ⟨r4,h5,H⟩:=bnd H
 refine z0a (z0o (y2e [48] (wr (16 - (r2.length:Int))) r4 h5) ⟨.inl rfl,.inl rfl,trivial⟩) ?_
 refine qd rfl ?_
 obtain ⟨h6,H⟩:=gif H
 refine z0a (z1h rfl rfl (Nat.le_trans h6 (by decide))) ?_
 refine qe rfl ?_
 refine z0m ?_
 cases H
 exact ⟨trivial,.inl rfl,trivial⟩
theorem y03 (secret1:Bs) (text2:Bs) (r:(Bs)) (H:z3w secret1 text2=some r):Fn Tryz.prog 39 [vstr secret1,vstr text2] (z1s [vstr r]):=by
 refine ⟨by kernel_rfl,z1g (us:=[vstr r]) Tryz.func39 rfl rfl rfl rfl fun X hN => ?_⟩
 unfold z3w at H
 refine z0c ?_
 refine z0b hN rfl ?_
 refine qe rfl ?_
 refine z0c ?_
 refine z0b hN rfl ?_
 refine qd rfl ?_
 refine qd rfl ?_
 refine qd rfl ?_
 refine z0a (z09 (u':=vlst (List.map z0n [secret1,text2,secret1])) (z2g [[_],[_],[_]] z8w ⟨rfl,.inl ⟨_,rfl,rfl,rfl⟩,rfl,rfl,.inl ⟨_,rfl,rfl,rfl⟩,rfl,rfl,.inl ⟨_,rfl,rfl,rfl⟩,rfl,trivial⟩ rfl rfl) rfl) ?_
 obtain ⟨r3,h4,H⟩:=bnd H
 refine z0a (z0o (y79 [secret1,text2,secret1] r3 h4) ⟨.inl rfl,trivial⟩) ?_
 refine qe rfl ?_
 refine z0c ?_
 refine z0c ?_
 refine z0b hN rfl ?_
 refine qd rfl ?_
 refine z0u ?_
 obtain ⟨h8,H⟩:=gif H
 refine y54 (fun (k6:Nat) (s:Int)=>[(5,.dat (vval (.int .u64 s))),(11,.dat (vint (k6:Int)))]) (fun (k6:Nat) (s:Int)=>[]) r3 H ⟨rfl,rfl,trivial⟩ trivial (fun _ _=>rfl) ?_ ?_
 ·rintro h5 H
  replace H:z89 h5=some r:=H
  unfold z89 at H
  refine z0c ?_
  refine z0b hN rfl ?_
  refine z0a (z04 rfl rfl) ?_
  refine z0c ?_
  refine z0j _ rfl (fun h=>(lt_t h).elim) (fun h => ?_)
  refine z14 ?_
  refine z0c ?_
  refine z0b hN rfl ?_
  refine qd rfl ?_
  obtain ⟨r9,h10,H⟩:=bnd H
  refine z0a (z0o (y8t h5 r9 h10) ⟨.inl rfl,trivial⟩) ?_
  refine qe rfl ?_
  refine z0m ?_
  cases H
  exact ⟨trivial,.inl rfl,trivial⟩
 ·rintro k6 h5 q7 h11 H hq7
  replace H:y10 k6 h5=some q7:=H
  unfold y10 at H
  refine z0c ?_
  refine z0b hN rfl ?_
  refine z0a (z04 rfl rfl) ?_
  refine z0c ?_
  refine z0j _ rfl (fun h => ?_) (fun h=>(lt_f h11 h).elim)
  refine z0l ?_
  refine z0c ?_
  refine z0u ?_
  refine z0b hN rfl ?_
  refine qd rfl ?_
  refine qd rfl ?_
  refine z0a (z09 (y9j rfl rfl (by decide)) rfl) ?_
  refine z0a (z09 (x1n rfl rfl) rfl) ?_
  refine z0a (z1a _ rfl rfl (.inr (.inr ⟨rfl,rfl⟩))) ?_
  refine qe rfl ?_
  refine z0b hN rfl ?_
  refine z0a (z5w rfl rfl (by omega)) ?_
  refine qd rfl ?_
  exact ⟨_,z9s H,⟨rfl,rfl,trivial⟩,trivial⟩
theorem y4y (l1:(List z0g)) (c2:z0e) (v3:Int) (r:(Bs×Int)) (H:z8n l1 c2 v3=some r):Fn Tryz.prog 9 [vlst (List.map z00 l1),vagg (z0t c2),vint v3] (z1s [vstr r.1,vint r.2]):=by
 refine ⟨by kernel_rfl,z1g (us:=[vstr r.1,vint r.2]) Tryz.func9 rfl rfl rfl rfl fun X hN => ?_⟩
 unfold z8n at H
 refine z0c ?_
 refine z0b hN rfl ?_
 refine z0k (y0e 1 rfl) rfl ?_
 refine qe rfl ?_
 refine qe rfl ?_
 refine z0c ?_
 refine z0b hN rfl ?_
 refine z0y (z5v z4c rfl rfl rfl) rfl ?_
 obtain ⟨r4,h5,H⟩:=bnd H
 refine z0a (z0o (y5f c2 r4 h5) ⟨.inl rfl,trivial⟩) ?_
 refine qd rfl ?_
 refine z0a (z1q rfl rfl) ?_
 refine z0a (z1q rfl rfl) ?_
 refine qe rfl ?_
 refine qe rfl ?_
 refine z0c ?_
 refine z0c ?_
 refine z0b hN rfl ?_
 refine qd rfl ?_
 refine z0a (z68 rfl rfl) ?_
 refine z0j _ rfl (fun h6 => ?_) (fun h6 => ?_)
 ·replace H:=ift h6 H
  refine z0c ?_
  refine z0b hN rfl ?_
  refine qd rfl ?_
  refine qe rfl ?_
  refine qe rfl ?_
  refine z0m ?_
  cases H
  exact ⟨trivial,.inl rfl,.inl rfl,trivial⟩
 ·replace H:=iff_ h6 H
  refine z0l ?_
  refine z0c ?_
  refine z0c ?_
  refine z0b hN rfl ?_
  refine qd rfl ?_
  obtain ⟨r7,h8,H⟩:=bnd H
  refine z0a (z0o (y5e v3 r7 h8) ⟨.inl rfl,trivial⟩) ?_
  refine z0a (z3t rfl) ?_
  refine z0j _ rfl (fun h9 => ?_) (fun h9 => ?_)
  ·replace H:=ift h9 H
   refine z0c ?_
   refine z0b hN rfl ?_
   refine qe rfl ?_
   refine qe rfl ?_
   refine z0m ?_
   cases H
   exact ⟨trivial,.inl rfl,.inl rfl,trivial⟩
  ·replace H:=iff_ h9 H
   refine z0l ?_
   refine z0c ?_
   refine z0b hN rfl ?_
   refine qd rfl ?_
   refine qd rfl ?_
   obtain ⟨r10,h11,H⟩:=bnd H
   refine z0a (z0o (y7a l1 v3 r10 h11) ⟨.inl rfl,.inl rfl,trivial⟩) ?_
   refine qd rfl ?_
   refine z0a (z1q rfl rfl) ?_
   refine z0a (z1q rfl rfl) ?_
   refine z0k (z3c 2 y8k rfl) rfl ?_
   refine z0k (z1f y4o rfl rfl rfl rfl) rfl ?_
   refine qe rfl ?_
   refine z0c ?_
   refine z0u ?_
   refine z0c ?_
   refine z0b hN rfl ?_
   refine qd rfl ?_
   refine z0a (z3t rfl) ?_
   refine qe rfl ?_
   refine z0j _ rfl (fun h12 => ?_) (fun h12 => ?_)
   ·replace H:=ift h12 H
    refine z0c ?_
    refine z0b hN rfl ?_
    refine qe rfl ?_
    refine qe rfl ?_
    refine z0m ?_
    cases H
    exact ⟨trivial,.inl rfl,.inl rfl,trivial⟩
   ·replace H:=iff_ h12 H
    refine z0c ?_
    refine z0b hN rfl ?_
    refine z0a (z0r y2m rfl) ?_
    refine z0y (z0s tyS3 rfl rfl) rfl ?_
    refine z0a (z0r y5k rfl) ?_
    refine z0y (z0s tyS3 rfl rfl) rfl ?_
    refine z0a (z29 rfl rfl) ?_
    refine qe rfl ?_
    refine z0j _ rfl (fun h13 => ?_) (fun h13 => ?_)
    ·replace H:=ift h13 H
     refine z0c ?_
     refine z0b hN rfl ?_
     refine qe rfl ?_
     refine qe rfl ?_
     refine z0m ?_
     cases H
     exact ⟨trivial,.inl rfl,.inl rfl,trivial⟩
    ·replace H:=iff_ h13 H
     refine z0l ?_
     refine z0c ?_
     refine z5o mixed hN rfl rfl ?_
     refine z0a (z0r y4c rfl) ?_
     refine z0y (z0s tyS9 rfl rfl) rfl ?_
     obtain ⟨h14,H⟩:=gif H
     refine z0a (z1h rfl rfl (Nat.le_trans h14 (by decide))) ?_
     refine qd rfl ?_
     obtain ⟨r15,h16,H⟩:=bnd H
     refine z0a (z0o (y1b r4.1 r15 h16) ⟨.inl rfl,trivial⟩) ?_
     obtain ⟨h17,H⟩:=gif H
     refine z0a (z1h rfl rfl (Nat.le_trans h17 (by decide))) ?_
     refine qe rfl ?_
     refine ⟨rfl,?_⟩
     refine z0c ?_
     refine z0b hN rfl ?_
     refine qd rfl ?_
     obtain ⟨h18,H⟩:=gif H
     refine z0a (z1h rfl rfl (Nat.le_trans h18 (by decide))) ?_
     refine z0a (z0r y60 rfl) ?_
     refine z0y (z0s tyS9 rfl rfl) rfl ?_
     refine qd rfl ?_
     obtain ⟨r19,h20,H⟩:=bnd H
     refine z0a (z0o (y03 r10.1.Secret ((r10.1.Id++[46])++r15) r19 h20) ⟨.inl rfl,.inl rfl,trivial⟩) ?_
     obtain ⟨h21,H⟩:=gif H
     refine z0a (z1h rfl rfl (Nat.le_trans h21 (by decide))) ?_
     refine qe rfl ?_
     refine qe rfl ?_
     refine z0m ?_
     cases H
     exact ⟨trivial,.inl rfl,.inl rfl,trivial⟩
theorem y77 (s p q:Bs) (n:Int) (r:Bs) (H:y1w s p q n=some r):Fn Tryz.prog 73 [vstr s,vstr p,vstr q,vint n] (z1s [vstr r]):=by
 unfold y1w at H
 obtain ⟨⟨h1,h2,h3⟩,h4⟩:=gif H
 cases h4
 refine y1t (by kernel_rfl) fun M w vs hM h => ?_
 have hv:=y3w (us:=[.string ⟨s.toArray⟩,.string ⟨p.toArray⟩,.string ⟨q.toArray⟩,.int .i64 n]) h
 subst hv
 obtain ⟨m,hm⟩:=y66 hM
 have hle:=Lib.countB_le ⟨p.toArray⟩ (by simpa [ByteArray.size] using h2) _ ⟨s.toArray⟩ (Nat.le_refl _)
 have e1:(ByteArray.mk s.toArray).size=s.length:=by simp [ByteArray.size]
 have e2:(ByteArray.mk q.toArray).size=q.length:=by simp [ByteArray.size]
 have hmul:Lib.countB ⟨s.toArray⟩ ⟨p.toArray⟩ * q.length≤1000001 * 1000000:=Nat.mul_le_mul (by omega) h3
 refine (Tryz.strings_Replace ⟨s.toArray⟩ ⟨p.toArray⟩ ⟨q.toArray⟩ n m w (by rw [e1]; omega) hm (by simpa [ByteArray.size] using h2) (by rw [e1,e2]; omega)).mono ?_
 rintro e w' ⟨rfl,hb⟩
 exact ⟨_,rfl,rfl,Kp.of_below hb⟩

theorem y2a (s1:z0d) (t2:Bs) (v3:Bs) (r:(Bs×z0d)) (H:z5c s1 t2 v3=some r):Imp Tryz.prog 42 25 (z0q s1) [vstr t2,vstr v3] (z1s [vstr r.1]) (z0q r.2):=by
 refine y2b (us:=[vstr r.1]) (cs':=(z0q r.2)) (by kernel_rfl) Tryz.func42 rfl rfl rfl rfl fun X bl hN => ?_
 unfold z5c at H
 refine z0c ?_
 refine z0b hN rfl ?_
 refine qe rfl ?_
 refine z0c ?_
 refine z0c ?_
 refine z0b hN rfl ?_
 refine qd rfl ?_
 refine z0a (z65 rfl rfl) ?_
 refine qd rfl ?_
 refine z2r rfl rfl (fun hc=>z0h (.dat _) rfl) ?_
 refine z2r rfl rfl (fun hc=>z65 (cnd (c:=(!(decide (t2=[])))) hc) rfl) ?_
 refine z0a (z3f rfl rfl (fun hb=>(cnd (c:=(!(decide (t2=[])))) (notI hb)))) ?_
 refine z0j _ rfl (fun h4 => ?_) (fun h4 => ?_)
 ·replace H:=ift h4 H
  refine z0c ?_
  refine z0b hN rfl ?_
  refine qd rfl ?_
  refine qe rfl ?_
  refine z0m ?_
  cases H
  exact ⟨trivial,⟨.inl rfl,trivial⟩,rfl⟩
 ·replace H:=iff_ h4 H
  refine z0l ?_
  refine z0c ?_
  refine z0b hN rfl ?_
  refine z0a (z0h (.ptr _ _) rfl) ?_
  refine qd rfl ?_
  refine z0a (z1j tyU9 rfl) ?_
  obtain ⟨r5,h6,H⟩:=bnd H
  refine z0k (z1e (z10 s1 (t2.length:Int) r5 h6) rfl ⟨.inl rfl,trivial⟩ rfl) rfl ?_
  refine qe rfl ?_
  refine z0c ?_
  refine z0b hN rfl ?_
  refine qd rfl ?_
  refine z0a (z0h (.ptr _ _) rfl) ?_
  refine qd rfl ?_
  refine z0a (z1j tyU9 rfl) ?_
  obtain ⟨r7,h8,H⟩:=bnd H
  refine z0k (z1e (z10 r5.2 (v3.length:Int) r7 h8) rfl ⟨.inl rfl,trivial⟩ rfl) rfl ?_
  obtain ⟨x9,h10,H⟩:=bnd H
  refine z0a (y5p tyU9 rfl rfl h10) ?_
  refine qe rfl ?_
  refine z0c ?_
  refine z0c ?_
  refine z0b hN rfl ?_
  refine z0a (z0h (.ptr _ _) rfl) ?_
  obtain ⟨r11,h12,H⟩:=bnd H
  refine z0k (z1e (z10 r7.2 3 r11 h12) rfl ⟨.inl rfl,trivial⟩ rfl) rfl ?_
  refine z0u ?_
  refine z0c ?_
  refine z0b hN rfl ?_
  refine z0a (z2a rfl rfl) ?_
  refine qe rfl ?_
  refine z0j _ rfl (fun h13 => ?_) (fun h13 => ?_)
  ·replace H:=ift h13 H
   refine z0c ?_
   refine z5o mixed hN rfl rfl ?_
   refine qd rfl ?_
   refine qd rfl ?_
   obtain ⟨l14,h15,H⟩:=bnd H
   refine z0a (y0h tyU9 rfl rfl rfl h15) ?_
   refine qd rfl ?_
   refine z0a (z6k tyU5 w0u rfl) ?_
   refine z0a (x2x w0u rfl tyU9 rfl) ?_
   obtain ⟨h16,H⟩:=gif H
   refine z0a (z1h rfl rfl (Nat.le_trans h16 (by decide))) ?_
   refine qd rfl ?_
   refine qd rfl ?_
   refine z0a (z1a _ rfl rfl (.inl ⟨rfl,rfl⟩)) ?_
   obtain ⟨l17,h18,H⟩:=bnd H
   refine z0a (y0h tyU9 rfl rfl rfl h18) ?_
   obtain ⟨h19,H⟩:=gif H
   refine z0a (z1h rfl rfl (Nat.le_trans h19 (by decide))) ?_
   refine qe rfl ?_
   refine ⟨rfl,?_⟩
   refine z0m ?_
   cases H
   exact ⟨trivial,⟨.inl rfl,trivial⟩,rfl⟩
  ·replace H:=iff_ h13 H
   refine z0c ?_
   refine z0b hN rfl ?_
   refine z0a (z2a rfl rfl) ?_
   refine qe rfl ?_
   refine z0j _ rfl (fun h20 => ?_) (fun h20 => ?_)
   ·replace H:=ift h20 H
    refine z0c ?_
    refine z5o mixed hN rfl rfl ?_
    refine qd rfl ?_
    refine qd rfl ?_
    obtain ⟨l21,h22,H⟩:=bnd H
    refine z0a (y0h tyU9 rfl rfl rfl h22) ?_
    refine qd rfl ?_
    refine z0a (z6k tyU5 w0u rfl) ?_
    refine z0a (x2x w0u rfl tyU9 rfl) ?_
    obtain ⟨h23,H⟩:=gif H
    refine z0a (z1h rfl rfl (Nat.le_trans h23 (by decide))) ?_
    refine qd rfl ?_
    refine qd rfl ?_
    obtain ⟨l24,h25,H⟩:=bnd H
    refine z0a (y0h tyU9 rfl rfl rfl h25) ?_
    obtain ⟨h26,H⟩:=gif H
    refine z0a (z1h rfl rfl (Nat.le_trans h26 (by decide))) ?_
    refine qe rfl ?_
    refine ⟨rfl,?_⟩
    refine z0m ?_
    cases H
    exact ⟨trivial,⟨.inl rfl,trivial⟩,rfl⟩
   ·replace H:=iff_ h20 H
    refine z0l ?_
    refine z0c ?_
    refine z5o mixed hN rfl rfl ?_
    refine qd rfl ?_
    refine qd rfl ?_
    obtain ⟨l27,h28,H⟩:=bnd H
    refine z0a (y0h tyU9 rfl rfl rfl h28) ?_
    refine qd rfl ?_
    refine qd rfl ?_
    refine z0a (z1a _ rfl rfl (.inl ⟨rfl,rfl⟩)) ?_
    obtain ⟨l29,h30,H⟩:=bnd H
    refine z0a (y0h tyU9 rfl rfl rfl h30) ?_
    obtain ⟨h31,H⟩:=gif H
    refine z0a (z1h rfl rfl (Nat.le_trans h31 (by decide))) ?_
    refine qe rfl ?_
    refine ⟨rfl,?_⟩
    refine z0m ?_
    cases H
    exact ⟨trivial,⟨.inl rfl,trivial⟩,rfl⟩
theorem y34 (s1:z0d) (r:(Bs×z0d)) (H:z5j s1=some r):Imp Tryz.prog 41 25 (z0q s1) [] (z1s [vstr r.1]) (z0q r.2):=by
 refine y2b (us:=[vstr r.1]) (cs':=(z0q r.2)) (by kernel_rfl) Tryz.func41 rfl rfl rfl rfl fun X bl hN => ?_
 unfold z5j at H
 refine z0c ?_
 refine z0b hN rfl ?_
 refine qe rfl ?_
 refine z0c ?_
 refine z0b hN rfl ?_
 refine z0a (z0h (.ptr _ _) rfl) ?_
 obtain ⟨r2,h3,H⟩:=bnd H
 refine z0k (z1e (z8t s1 r2 h3) rfl trivial rfl) rfl ?_
 obtain ⟨r4,h5,H⟩:=bnd H
 refine z0a (z0o (y08 r2.1 r4 h5) ⟨.inl rfl,trivial⟩) ?_
 refine qe rfl ?_
 refine z0c ?_
 refine z0c ?_
 refine z0b hN rfl ?_
 refine z0a (z0h (.ptr _ _) rfl) ?_
 refine z0a (z09 (u':=vlst (List.map y22 [0,0,1,2])) (z2g [[_],[_],[_],[_]] x1i ⟨rfl,.inl ⟨_,rfl,rfl,rfl⟩,rfl,rfl,.inl ⟨_,rfl,rfl,rfl⟩,rfl,rfl,.inl ⟨_,rfl,rfl,rfl⟩,rfl,rfl,.inl ⟨_,rfl,rfl,rfl⟩,rfl,trivial⟩ rfl rfl) rfl) ?_
 obtain ⟨r6,h7,H⟩:=bnd H
 refine z0k (z1e (z2t r2.2 [0,0,1,2] r6 h7) rfl ⟨.inl rfl,trivial⟩ rfl) rfl ?_
 refine qd rfl ?_
 refine z0u ?_
 obtain ⟨h13,H⟩:=gif H
 refine y54 (fun (k11:Nat) (s:Bs×(List Int)×Int)=>[(0,.ptr 0 0),(3,.dat (vstr s.1)),(9,.dat (vint r6.1)),(10,.dat (vint (k11:Int)))]) (fun (k11:Nat) (s:Bs×(List Int)×Int)=>[(0,.box (some bl) 25 [.dat (vlst (List.map y22 s.2.1)),.dat (vint s.2.2)])]) (r4,r6.2.L,r6.2.at_) H ⟨rfl,rfl,rfl,rfl,trivial⟩ ⟨rfl,trivial⟩ (fun _ _=>rfl) ?_ ?_
 ·rintro ⟨t8,c9,c10⟩ H
  replace H:z6n t8 c9 c10=some r:=H
  unfold z6n at H
  refine z0c ?_
  refine z0b hN rfl ?_
  refine z0a (z04 rfl rfl) ?_
  refine z0c ?_
  refine z0j _ rfl (fun h=>(x86 h).elim) (fun h => ?_)
  refine z14 ?_
  refine z0z (ι:=Bs×(List Int)×Int) (fun i=>[(3,.dat (vstr i.1))]) (fun i=>[(0,.box (some bl) 25 [.dat (vlst (List.map y22 i.2.1)),.dat (vint i.2.2)])]) (fun i=>z3j i.1 i.2.1 i.2.2=some r) (fun i=>rfl) ?_ ?_
  ·skip
   refine z0c ?_
   refine z0b hN rfl ?_
   refine z0a (z0h (.ptr _ _) rfl) ?_
   obtain ⟨r14,h15,H⟩:=bnd H
   refine z0k (z1e (z17 (z0d.mk c9 c10) 10 r14 h15) rfl ⟨.inl rfl,trivial⟩ rfl) rfl ?_
   refine z0j _ rfl (fun h16 => ?_) (fun h16 => ?_)
   ·replace H:=ift h16 H
    refine z0b hN rfl ?_
    refine qd rfl ?_
    refine z0a (z0h (.ptr _ _) rfl) ?_
    refine z0a (z09 (u':=vlst (List.map z0n [[105,100,32,116,49,10],[116,105,109,101],[10,105,115,115,117,101,114],[115,117,98,106,101,99,116],[109,97,121]])) (z2g [[_],[_],[_],[_],[_]] z8w ⟨rfl,.inl ⟨_,rfl,rfl,rfl⟩,rfl,rfl,.inl ⟨_,rfl,rfl,rfl⟩,rfl,rfl,.inl ⟨_,rfl,rfl,rfl⟩,rfl,rfl,.inl ⟨_,rfl,rfl,rfl⟩,rfl,rfl,.inl ⟨_,rfl,rfl,rfl⟩,rfl,trivial⟩ rfl rfl) rfl) ?_
    obtain ⟨r17,h18,H⟩:=bnd H
    refine z0k (z1e (z07 r14.2 ([[105,100,32,116,49,10],[116,105,109,101],[10,105,115,115,117,101,114],[115,117,98,106,101,99,116],[109,97,121]]) r17 h18) rfl ⟨.inl rfl,trivial⟩ rfl) rfl ?_
    refine z0a (z0h (.ptr _ _) rfl) ?_
    refine z0a (z09 (u':=vlst (List.map z0n [[],[102,111,114],[10,105,100],[109,97,121],[10]])) (z2g [[_],[_],[_],[_],[_]] z8w ⟨rfl,.inl ⟨_,rfl,rfl,rfl⟩,rfl,rfl,.inl ⟨_,rfl,rfl,rfl⟩,rfl,rfl,.inl ⟨_,rfl,rfl,rfl⟩,rfl,rfl,.inl ⟨_,rfl,rfl,rfl⟩,rfl,rfl,.inl ⟨_,rfl,rfl,rfl⟩,rfl,trivial⟩ rfl rfl) rfl) ?_
    obtain ⟨r19,h20,H⟩:=bnd H
    refine z0k (z1e (z07 r17.2 ([[],[102,111,114],[10,105,100],[109,97,121],[10]]) r19 h20) rfl ⟨.inl rfl,trivial⟩ rfl) rfl ?_
    obtain ⟨r21,h22,H⟩:=bnd H
    refine z0a (z0o (y77 t8 r17.1 r19.1 1 r21 h22) ⟨.inl rfl,.inl rfl,.inl rfl,.inl rfl,trivial⟩) ?_
    refine qe rfl ?_
    exact ⟨(r21,r19.2.L,r19.2.at_),H,⟨rfl,trivial⟩,⟨rfl,trivial⟩⟩
   ·replace H:=iff_ h16 H
    refine z0l ?_
    exact ⟨(t8,r14.2.L,r14.2.at_),H,⟨rfl,trivial⟩,⟨rfl,trivial⟩⟩
  ·rintro ⟨t23,c24,c25⟩ H
   replace H:z3j t23 c24 c25=some r:=H
   unfold z3j at H
   refine z0c ?_
   refine z0b hN rfl ?_
   refine qd rfl ?_
   refine qe rfl ?_
   refine z0m ?_
   cases H
   exact ⟨trivial,⟨.inl rfl,trivial⟩,rfl⟩
 ·rintro k11 ⟨t8,c9,c10⟩ q12 h26 H hq12
  replace H:z6m k11 t8 c9 c10=some q12:=H
  unfold z6m at H
  refine z0c ?_
  refine z0b hN rfl ?_
  refine z0a (z04 rfl rfl) ?_
  refine z0c ?_
  refine z0j _ rfl (fun h => ?_) (fun h=>(x87 h26 h).elim)
  refine z0l ?_
  refine z0c ?_
  refine z0u ?_
  refine z0b hN rfl ?_
  refine z0a (z0h (.ptr _ _) rfl) ?_
  refine qd rfl ?_
  obtain ⟨r27,h28,H⟩:=bnd H
  refine z0k (z1e (y2a (z0d.mk c9 c10) t8 [32,10,105,116,48,115,58] r27 h28) rfl ⟨.inl rfl,.inl rfl,trivial⟩ rfl) rfl ?_
  refine qe rfl ?_
  refine z0b hN rfl ?_
  refine z0a (z5w rfl rfl (by omega)) ?_
  refine qd rfl ?_
  exact ⟨_,z9s H,⟨rfl,rfl,rfl,rfl,trivial⟩,⟨rfl,trivial⟩⟩
end Go.Proofs.YtkckjgkfljgjpaaGreatDoor
