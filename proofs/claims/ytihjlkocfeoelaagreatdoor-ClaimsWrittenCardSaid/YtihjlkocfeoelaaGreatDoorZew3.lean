/- Walks along the models. Printed by a program. -/
import Derived.Test.YtihjlkocfeoelaaGreatDoorZew2
namespace Go.Proofs.YtihjlkocfeoelaaGreatDoor
open Go.RowKit
set_option linter.unusedVariables false
set_option maxRecDepth 100000
set_option maxHeartbeats 2000000
theorem z8q (v1:Bs) (r:(Bool)) (H:z47 v1=some r):Fn Tryz.prog 148 [vstr v1] (z2f [z02 r]):=by
 refine ⟨by kernel_rfl,z2a (us:=[z02 r]) Tryz.func148 rfl rfl rfl rfl fun X hN => ?_⟩
 unfold z47 at H
 refine z0c ?_
 refine z0b hN rfl ?_
 refine qe rfl ?_
 refine z0c ?_
 refine z0b hN rfl ?_
 refine qe rfl ?_
 refine z0c ?_
 refine z0b hN rfl ?_
 refine qe rfl ?_
 refine z0z (ι:=Bs) (fun i=>[(0,.dat (vstr i)),(3,.dat (vval (.int .i32 94))),(4,.dat (vint 0))]) (fun i=>[]) (fun i=>z2l i=some r) (fun i=>rfl) ?_ ?_
 ·skip
  refine z0z (ι:=Bool) (fun i=>[(0,.dat (vstr v1)),(3,.dat (vval (.int .i32 94))),(4,.dat (vint 0)),(18,.dat (z02 i))]) (fun i=>[]) (fun i=>z1z v1 i=some r) (fun i=>rfl) ?_ ?_
  ·skip
   refine z0b hN rfl ?_
   refine qd rfl ?_
   refine z0a (z1v tyU9 rfl) ?_
   refine z0a (z8e rfl rfl) ?_
   refine qd rfl ?_
   refine z04 (j:=3) rfl rfl (fun h2 => ?_) (fun h2 => ?_) rfl
   ·have h3:=un1 h2
    replace H:=ift h3 H
    refine z0m rfl rfl h2 (z0h (.dat _) rfl) ?_
    obtain ⟨x4,h5,H⟩:=bnd H
    refine z0m rfl rfl h2 (z7s tyU9 rfl rfl h5) ?_
    refine z0m rfl rfl h2 (z10 rfl rfl) ?_
    refine z0m rfl rfl h2 (z0h (.dat _) rfl) ?_
    refine z04 (j:=7) rfl rfl (fun h6 => ?_) (fun h6 => ?_) rfl
    ·have h7:=un3 h6
     replace H:=iff_ h7 H
     refine z0m rfl rfl h6 (z0h (.dat _) rfl) ?_
     refine z0m rfl rfl h6 (z7s tyU9 rfl rfl h5) ?_
     refine z0m rfl rfl h6 (z10 rfl rfl) ?_
     refine z0m rfl rfl h2 (z0o rfl (bFF h7) rfl) ?_
     refine z0a (z0t rfl (bTT h3) rfl) ?_
     exact ⟨decide ((x4.toNat:Int)=43),H,⟨rfl,rfl,rfl,rfl,trivial⟩,trivial⟩
    ·have h8:=un4 h6
     replace H:=ift h8 H
     refine z0e rfl rfl h6 ?_
     refine z0e rfl rfl h6 ?_
     refine z0e rfl rfl h6 ?_
     refine z0m rfl rfl h2 (z0t rfl (bTT h8) rfl) ?_
     refine z0a (z0t rfl (bTT h3) rfl) ?_
     exact ⟨true,H,⟨rfl,rfl,rfl,rfl,trivial⟩,trivial⟩
   ·have h9:=un2 h2
    replace H:=iff_ h9 H
    refine z0e rfl rfl h2 ?_
    refine z0e rfl rfl h2 ?_
    refine z0e rfl rfl h2 ?_
    refine z0e rfl rfl h2 ?_
    refine z00 rfl rfl ?_
    refine z00 rfl rfl ?_
    refine z00 rfl rfl ?_
    refine z0e rfl rfl h2 ?_
    refine z0a (z0o rfl (bFF h9) rfl) ?_
    exact ⟨false,H,⟨rfl,rfl,rfl,rfl,trivial⟩,trivial⟩
  ·rintro v10 H
   replace H:z1z v1 v10=some r:=H
   unfold z1z at H
   refine z0i _ rfl (fun h11 => ?_) (fun h11 => ?_)
   ·replace H:=ift h11 H
    refine z0b hN rfl ?_
    refine qd rfl ?_
    obtain ⟨l12,h13,H⟩:=bnd H
    refine z0a (z9b tyU9 rfl rfl rfl h13) ?_
    refine qe rfl ?_
    exact ⟨l12,H,⟨rfl,rfl,rfl,trivial⟩,trivial⟩
   ·replace H:=iff_ h11 H
    refine z0l ?_
    exact ⟨v1,H,⟨rfl,rfl,rfl,trivial⟩,trivial⟩
 ·rintro v14 H
  replace H:z2l v14=some r:=H
  unfold z2l at H
  refine z0c ?_
  refine z0b hN rfl ?_
  refine qe rfl ?_
  refine z0z (ι:=Int×Int×Bool) (fun i=>[(0,.dat (vstr v14)),(3,.dat (vval (.int .i32 i.1))),(4,.dat (vint i.2.1)),(5,.dat (z02 i.2.2))]) (fun i=>[]) (fun i=>z2k v14 i.1 i.2.1 i.2.2=some r) (fun i=>rfl) ?_ ?_
  ·skip
   refine z0z (ι:=Bool) (fun i=>[(0,.dat (vstr v14)),(3,.dat (vval (.int .i32 94))),(4,.dat (vint 0)),(5,.dat (z02 false)),(46,.dat (z02 i))]) (fun i=>[]) (fun i=>z1d v14 i=some r) (fun i=>rfl) ?_ ?_
   ·skip
    refine z0b hN rfl ?_
    refine qd rfl ?_
    refine z0a (z1v tyU9 rfl) ?_
    refine z0a (z8e rfl rfl) ?_
    refine qd rfl ?_
    refine z04 (j:=3) rfl rfl (fun h15 => ?_) (fun h15 => ?_) rfl
    ·have h16:=un1 h15
     replace H:=ift h16 H
     refine z0m rfl rfl h15 (z0h (.dat _) rfl) ?_
     obtain ⟨x17,h18,H⟩:=bnd H
     refine z0m rfl rfl h15 (z7s tyU9 rfl rfl h18) ?_
     refine z0m rfl rfl h15 (z10 rfl rfl) ?_
     refine z0a (z0t rfl (bTT h16) rfl) ?_
     refine qd rfl ?_
     refine z04 (j:=8) rfl rfl (fun h19 => ?_) (fun h19 => ?_) rfl
     ·have h20:=un1 h19
      replace H:=ift h20 H
      refine z0m rfl rfl h19 (z0h (.dat _) rfl) ?_
      obtain ⟨x21,h22,H⟩:=bnd H
      refine z0m rfl rfl h19 (z7s tyU9 rfl rfl h22) ?_
      obtain ⟨r23,h24,H⟩:=bnd H
      refine z0m rfl rfl h19 (z0s (z06 (x21.toNat:Int) r23 h24) ⟨.inl rfl,trivial⟩) ?_
      refine z0m rfl rfl h19 (z10 rfl rfl) ?_
      refine z0m rfl rfl h19 (z0h (.dat _) rfl) ?_
      refine z04 (j:=13) rfl rfl (fun h25 => ?_) (fun h25 => ?_) rfl
      ·have h26:=un3 h25
       replace H:=iff_ h26 H
       refine z0m rfl rfl h25 (z0h (.dat _) rfl) ?_
       refine z0m rfl rfl h25 (z7s tyU9 rfl rfl h22) ?_
       obtain ⟨r27,h28,H⟩:=bnd H
       refine z0m rfl rfl h25 (z0s (z06 (x21.toNat:Int) r27 h28) ⟨.inl rfl,trivial⟩) ?_
       refine z0m rfl rfl h25 (z10 rfl rfl) ?_
       refine z0m rfl rfl h19 (z0o rfl (bFF h26) rfl) ?_
       refine z0m rfl rfl h19 (z0h (.dat _) rfl) ?_
       refine z04 (j:=19) rfl rfl (fun h29 => ?_) (fun h29 => ?_) rfl
       ·have h30:=un3 h29
        replace H:=iff_ h30 H
        refine z0m rfl rfl h29 (z0h (.dat _) rfl) ?_
        refine z0m rfl rfl h29 (z7s tyU9 rfl rfl h22) ?_
        obtain ⟨r31,h32,H⟩:=bnd H
        refine z0m rfl rfl h29 (z0s (z06 (x21.toNat:Int) r31 h32) ⟨.inl rfl,trivial⟩) ?_
        refine z0m rfl rfl h29 (z10 rfl rfl) ?_
        refine z0m rfl rfl h19 (z0o rfl (bFF h30) rfl) ?_
        refine z0a (z0t rfl (bTT h20) rfl) ?_
        exact ⟨decide (r31=120),H,⟨rfl,rfl,rfl,rfl,rfl,trivial⟩,trivial⟩
       ·have h33:=un4 h29
        replace H:=ift h33 H
        refine z0e rfl rfl h29 ?_
        refine z0e rfl rfl h29 ?_
        refine z0e rfl rfl h29 ?_
        refine z0e rfl rfl h29 ?_
        refine z0m rfl rfl h19 (z0t rfl (bTT h33) rfl) ?_
        refine z0a (z0t rfl (bTT h20) rfl) ?_
        exact ⟨true,H,⟨rfl,rfl,rfl,rfl,rfl,trivial⟩,trivial⟩
      ·have h34:=un4 h25
       replace H:=ift h34 H
       refine z0e rfl rfl h25 ?_
       refine z0e rfl rfl h25 ?_
       refine z0e rfl rfl h25 ?_
       refine z0e rfl rfl h25 ?_
       refine z0m rfl rfl h19 (z0t rfl (bTT h34) rfl) ?_
       refine z0m rfl rfl h19 (z0h (.dat _) rfl) ?_
       refine z0e rfl rfl rfl ?_
       refine z0e rfl rfl rfl ?_
       refine z0e rfl rfl rfl ?_
       refine z0e rfl rfl rfl ?_
       refine z0m rfl rfl h19 (z0t rfl rfl rfl) ?_
       refine z0a (z0t rfl (bTT h20) rfl) ?_
       exact ⟨true,H,⟨rfl,rfl,rfl,rfl,rfl,trivial⟩,trivial⟩
     ·have h35:=un2 h19
      replace H:=iff_ h35 H
      refine z0e rfl rfl h19 ?_
      refine z0e rfl rfl h19 ?_
      refine z0e rfl rfl h19 ?_
      refine z0e rfl rfl h19 ?_
      refine z0e rfl rfl h19 ?_
      refine z00 rfl rfl ?_
      refine z00 rfl rfl ?_
      refine z00 rfl rfl ?_
      refine z00 rfl rfl ?_
      refine z0e rfl rfl h19 ?_
      refine z0e rfl rfl h19 ?_
      refine z00 rfl rfl ?_
      refine z00 rfl rfl ?_
      refine z00 rfl rfl ?_
      refine z00 rfl rfl ?_
      refine z0e rfl rfl h19 ?_
      refine z0a (z0o rfl (bFF h35) rfl) ?_
      exact ⟨false,H,⟨rfl,rfl,rfl,rfl,rfl,trivial⟩,trivial⟩
    ·have h36:=un2 h15
     replace H:=iff_ h36 H
     refine z0e rfl rfl h15 ?_
     refine z0e rfl rfl h15 ?_
     refine z0e rfl rfl h15 ?_
     refine z0a (z0o rfl (bFF h36) rfl) ?_
     refine qd rfl ?_
     refine z0e rfl rfl rfl ?_
     refine z0e rfl rfl rfl ?_
     refine z0e rfl rfl rfl ?_
     refine z0e rfl rfl rfl ?_
     refine z0e rfl rfl rfl ?_
     refine z00 rfl rfl ?_
     refine z00 rfl rfl ?_
     refine z00 rfl rfl ?_
     refine z00 rfl rfl ?_
     refine z0e rfl rfl rfl ?_
     refine z0e rfl rfl rfl ?_
     refine z00 rfl rfl ?_
     refine z00 rfl rfl ?_
     refine z00 rfl rfl ?_
     refine z00 rfl rfl ?_
     refine z0e rfl rfl rfl ?_
     refine z0a (z0o rfl rfl rfl) ?_
     exact ⟨false,H,⟨rfl,rfl,rfl,rfl,rfl,trivial⟩,trivial⟩
   ·rintro v37 H
    replace H:z1d v14 v37=some r:=H
    unfold z1d at H
    refine z0i _ rfl (fun h38 => ?_) (fun h38 => ?_)
    ·replace H:=ift h38 H
     refine z0c ?_
     refine z0b hN rfl ?_
     refine qe rfl ?_
     refine z0c ?_
     refine z0b hN rfl ?_
     refine qe rfl ?_
     refine z0b hN rfl ?_
     refine qd rfl ?_
     obtain ⟨x39,h40,H⟩:=bnd H
     refine z0a (z7s tyU9 rfl rfl h40) ?_
     obtain ⟨r41,h42,H⟩:=bnd H
     refine z0a (z0s (z06 (x39.toNat:Int) r41 h42) ⟨.inl rfl,trivial⟩) ?_
     refine z0a (z10 rfl rfl) ?_
     refine qe rfl ?_
     exact ⟨(48,2,decide (r41=120)),H,⟨rfl,rfl,rfl,rfl,trivial⟩,trivial⟩
    ·replace H:=iff_ h38 H
     refine z0l ?_
     exact ⟨(94,0,false),H,⟨rfl,rfl,rfl,rfl,trivial⟩,trivial⟩
  ·rintro ⟨v43,v44,v45⟩ H
   replace H:z2k v14 v43 v44 v45=some r:=H
   unfold z2k at H
   refine z0z (ι:=Int) (fun i=>[(3,.dat (vval (.int .i32 i)))]) (fun i=>[]) (fun i=>z3w i=some r) (fun i=>rfl) ?_ ?_
   ·skip
    refine z01 ?_
    refine y29 (fun (s:Int×Int)=>[(0,.dat (vstr v14)),(3,.dat (vval (.int .i32 s.1))),(4,.dat (vint s.2)),(5,.dat (z02 v45))]) (fun (s:Int×Int)=>[]) (v43,v44) H ⟨rfl,rfl,rfl,rfl,trivial⟩ trivial (fun _=>rfl) ?_
    rintro ⟨v46,v47⟩ q48 H hq48
    replace H:z42 v14 v45 v46 v47=some q48:=H
    unfold z42 at H
    refine z0c ?_
    refine z0c ?_
    refine z0b hN rfl ?_
    refine qd rfl ?_
    refine qd rfl ?_
    refine z0a (z1v tyU9 rfl) ?_
    refine z0a (z1i rfl rfl) ?_
    refine z0i _ rfl (fun h49 => ?_) (fun h49 => ?_)
    ·replace H:=ift h49 H
     refine z0l ?_
     refine z0z (ι:=Int) (fun i=>[(0,.dat (vstr v14)),(3,.dat (vval (.int .i32 i))),(4,.dat (vint v47)),(5,.dat (z02 v45))]) (fun i=>[]) (fun i=>z1y v47 i=some q48) (fun i=>rfl) ?_ ?_
     ·skip
      refine z01 ?_
      refine z0c ?_
      refine z0z (ι:=Bool) (fun i=>[(0,.dat (vstr v14)),(3,.dat (vval (.int .i32 v46))),(4,.dat (vint v47)),(5,.dat (z02 v45)),(83,.dat (z02 i))]) (fun i=>[]) (fun i=>z05 v14 v46 v47 i=some q48) (fun i=>rfl) ?_ ?_
      ·skip
       refine z0b hN rfl ?_
       refine qd rfl ?_
       refine qd rfl ?_
       obtain ⟨x50,h51,H⟩:=bnd H
       refine z0a (y0p tyU9 rfl rfl h51) ?_
       refine z0a (z6z rfl rfl) ?_
       refine qd rfl ?_
       refine z04 (j:=4) rfl rfl (fun h52 => ?_) (fun h52 => ?_) rfl
       ·have h53:=un1 h52
        replace H:=ift h53 H
        refine z0m rfl rfl h52 (z0h (.dat _) rfl) ?_
        refine z0m rfl rfl h52 (z0h (.dat _) rfl) ?_
        refine z0m rfl rfl h52 (y0p tyU9 rfl rfl h51) ?_
        refine z0m rfl rfl h52 (z6z rfl rfl) ?_
        refine z0a (z0t rfl (bTT h53) rfl) ?_
        refine qd rfl ?_
        refine z04 (j:=10) rfl rfl (fun h54 => ?_) (fun h54 => ?_) rfl
        ·have h55:=un3 h54
         replace H:=iff_ h55 H
         refine z0m rfl rfl h54 (z0h (.dat _) rfl) ?_
         refine z0m rfl rfl h54 (z0h (.dat _) rfl) ?_
         refine z04 (j:=12) rfl rfl (fun h56 => ?_) (fun h56 => ?_) rfl
         ·have h57:=un1 h56
          replace H:=ift h57 H
          refine z0m rfl rfl h56 (z0h (.dat _) rfl) ?_
          refine z0m rfl rfl h56 (z0h (.dat _) rfl) ?_
          refine z0m rfl rfl h56 (y0p tyU9 rfl rfl h51) ?_
          obtain ⟨r58,h59,H⟩:=bnd H
          refine z0m rfl rfl h56 (z0s (z06 (x50.toNat:Int) r58 h59) ⟨.inl rfl,trivial⟩) ?_
          refine z0m rfl rfl h56 (z6z rfl rfl) ?_
          refine z0m rfl rfl h54 (z0t rfl (bTT h57) rfl) ?_
          refine z0m rfl rfl h54 (z0h (.dat _) rfl) ?_
          refine z04 (j:=19) rfl rfl (fun h60 => ?_) (fun h60 => ?_) rfl
          ·have h61:=un1 h60
           replace H:=ift h61 H
           refine z0m rfl rfl h60 (z0h (.dat _) rfl) ?_
           refine z0m rfl rfl h60 (z0h (.dat _) rfl) ?_
           refine z0m rfl rfl h60 (y0p tyU9 rfl rfl h51) ?_
           obtain ⟨r62,h63,H⟩:=bnd H
           refine z0m rfl rfl h60 (z0s (z06 (x50.toNat:Int) r62 h63) ⟨.inl rfl,trivial⟩) ?_
           refine z0m rfl rfl h60 (z6z rfl rfl) ?_
           refine z0m rfl rfl h54 (z0t rfl (bTT h61) rfl) ?_
           refine z0a (z0o rfl (bFF h55) rfl) ?_
           exact ⟨decide (r62≤102),H,⟨rfl,rfl,rfl,rfl,rfl,trivial⟩,trivial⟩
          ·have h64:=un2 h60
           replace H:=iff_ h64 H
           refine z0e rfl rfl h60 ?_
           refine z0e rfl rfl h60 ?_
           refine z0e rfl rfl h60 ?_
           refine z0e rfl rfl h60 ?_
           refine z0e rfl rfl h60 ?_
           refine z0m rfl rfl h54 (z0o rfl (bFF h64) rfl) ?_
           refine z0a (z0o rfl (bFF h55) rfl) ?_
           exact ⟨false,H,⟨rfl,rfl,rfl,rfl,rfl,trivial⟩,trivial⟩
         ·have h65:=un2 h56
          replace H:=iff_ h65 H
          refine z0e rfl rfl h56 ?_
          refine z0e rfl rfl h56 ?_
          refine z0e rfl rfl h56 ?_
          refine z0e rfl rfl h56 ?_
          refine z0e rfl rfl h56 ?_
          refine z0m rfl rfl h54 (z0o rfl (bFF h65) rfl) ?_
          refine z0m rfl rfl h54 (z0h (.dat _) rfl) ?_
          refine z0e rfl rfl rfl ?_
          refine z0e rfl rfl rfl ?_
          refine z0e rfl rfl rfl ?_
          refine z0e rfl rfl rfl ?_
          refine z0e rfl rfl rfl ?_
          refine z0m rfl rfl h54 (z0o rfl rfl rfl) ?_
          refine z0a (z0o rfl (bFF h55) rfl) ?_
          exact ⟨false,H,⟨rfl,rfl,rfl,rfl,rfl,trivial⟩,trivial⟩
        ·have h66:=un4 h54
         replace H:=ift h66 H
         refine z0e rfl rfl h54 ?_
         refine z0e rfl rfl h54 ?_
         refine z00 rfl rfl ?_
         refine z00 rfl rfl ?_
         refine z00 rfl rfl ?_
         refine z00 rfl rfl ?_
         refine z00 rfl rfl ?_
         refine z0e rfl rfl h54 ?_
         refine z0e rfl rfl h54 ?_
         refine z00 rfl rfl ?_
         refine z00 rfl rfl ?_
         refine z00 rfl rfl ?_
         refine z00 rfl rfl ?_
         refine z00 rfl rfl ?_
         refine z0e rfl rfl h54 ?_
         refine z0a (z0t rfl (bTT h66) rfl) ?_
         exact ⟨true,H,⟨rfl,rfl,rfl,rfl,rfl,trivial⟩,trivial⟩
       ·have h67:=un2 h52
        replace H:=iff_ h67 H
        refine z0e rfl rfl h52 ?_
        refine z0e rfl rfl h52 ?_
        refine z0e rfl rfl h52 ?_
        refine z0e rfl rfl h52 ?_
        refine z0a (z0o rfl (bFF h67) rfl) ?_
        refine qd rfl ?_
        refine z0m rfl rfl rfl (z0h (.dat _) rfl) ?_
        refine z0m rfl rfl rfl (z0h (.dat _) rfl) ?_
        refine z04 (j:=12) rfl rfl (fun h68 => ?_) (fun h68 => ?_) rfl
        ·have h69:=un1 h68
         replace H:=ift h69 H
         refine z0m rfl rfl h68 (z0h (.dat _) rfl) ?_
         refine z0m rfl rfl h68 (z0h (.dat _) rfl) ?_
         refine z0m rfl rfl h68 (y0p tyU9 rfl rfl h51) ?_
         obtain ⟨r70,h71,H⟩:=bnd H
         refine z0m rfl rfl h68 (z0s (z06 (x50.toNat:Int) r70 h71) ⟨.inl rfl,trivial⟩) ?_
         refine z0m rfl rfl h68 (z6z rfl rfl) ?_
         refine z0m rfl rfl rfl (z0t rfl (bTT h69) rfl) ?_
         refine z0m rfl rfl rfl (z0h (.dat _) rfl) ?_
         refine z04 (j:=19) rfl rfl (fun h72 => ?_) (fun h72 => ?_) rfl
         ·have h73:=un1 h72
          replace H:=ift h73 H
          refine z0m rfl rfl h72 (z0h (.dat _) rfl) ?_
          refine z0m rfl rfl h72 (z0h (.dat _) rfl) ?_
          refine z0m rfl rfl h72 (y0p tyU9 rfl rfl h51) ?_
          obtain ⟨r74,h75,H⟩:=bnd H
          refine z0m rfl rfl h72 (z0s (z06 (x50.toNat:Int) r74 h75) ⟨.inl rfl,trivial⟩) ?_
          refine z0m rfl rfl h72 (z6z rfl rfl) ?_
          refine z0m rfl rfl rfl (z0t rfl (bTT h73) rfl) ?_
          refine z0a (z0o rfl rfl rfl) ?_
          exact ⟨decide (r74≤102),H,⟨rfl,rfl,rfl,rfl,rfl,trivial⟩,trivial⟩
         ·have h76:=un2 h72
          replace H:=iff_ h76 H
          refine z0e rfl rfl h72 ?_
          refine z0e rfl rfl h72 ?_
          refine z0e rfl rfl h72 ?_
          refine z0e rfl rfl h72 ?_
          refine z0e rfl rfl h72 ?_
          refine z0m rfl rfl rfl (z0o rfl (bFF h76) rfl) ?_
          refine z0a (z0o rfl rfl rfl) ?_
          exact ⟨false,H,⟨rfl,rfl,rfl,rfl,rfl,trivial⟩,trivial⟩
        ·have h77:=un2 h68
         replace H:=iff_ h77 H
         refine z0e rfl rfl h68 ?_
         refine z0e rfl rfl h68 ?_
         refine z0e rfl rfl h68 ?_
         refine z0e rfl rfl h68 ?_
         refine z0e rfl rfl h68 ?_
         refine z0m rfl rfl rfl (z0o rfl (bFF h77) rfl) ?_
         refine z0m rfl rfl rfl (z0h (.dat _) rfl) ?_
         refine z0e rfl rfl rfl ?_
         refine z0e rfl rfl rfl ?_
         refine z0e rfl rfl rfl ?_
         refine z0e rfl rfl rfl ?_
         refine z0e rfl rfl rfl ?_
         refine z0m rfl rfl rfl (z0o rfl rfl rfl) ?_
         refine z0a (z0o rfl rfl rfl) ?_
         exact ⟨false,H,⟨rfl,rfl,rfl,rfl,rfl,trivial⟩,trivial⟩
      ·rintro v78 H
       replace H:z05 v14 v46 v47 v78=some q48:=H
       unfold z05 at H
       refine z0i _ rfl (fun h79 => ?_) (fun h79 => ?_)
       ·replace H:=ift h79 H
        refine z0c ?_
        refine z0b hN rfl ?_
        refine qe rfl ?_
        refine z34 ?_
        exact ⟨48,H,⟨rfl,rfl,rfl,rfl,trivial⟩,trivial⟩
       ·replace H:=iff_ h79 H
        refine z0l ?_
        refine z0c ?_
        refine z0c ?_
        refine z0b hN rfl ?_
        refine qd rfl ?_
        refine qd rfl ?_
        obtain ⟨x80,h81,H⟩:=bnd H
        refine z0a (y0p tyU9 rfl rfl h81) ?_
        refine z0a (z10 rfl rfl) ?_
        refine z0i _ rfl (fun h82 => ?_) (fun h82 => ?_)
        ·replace H:=ift h82 H
         refine z0c ?_
         refine z0c ?_
         refine z0b hN rfl ?_
         refine qd rfl ?_
         refine z0a (z8o rfl rfl) ?_
         refine z0i _ rfl (fun h83 => ?_) (fun h83 => ?_)
         ·replace H:=ift h83 H
          refine z0c ?_
          refine z0b hN rfl ?_
          refine qe rfl ?_
          refine z0q ?_
          replace H:=retl H hq48
          cases H
          exact ⟨trivial,.inl rfl,trivial⟩
         ·replace H:=iff_ h83 H
          refine z0l ?_
          refine z0c ?_
          refine z0b hN rfl ?_
          refine qe rfl ?_
          refine z34 ?_
          exact ⟨95,H,⟨rfl,rfl,rfl,rfl,trivial⟩,trivial⟩
        ·replace H:=iff_ h82 H
         refine z0l ?_
         refine z0c ?_
         refine z0c ?_
         refine z0b hN rfl ?_
         refine qd rfl ?_
         refine z0a (z10 rfl rfl) ?_
         refine z0i _ rfl (fun h84 => ?_) (fun h84 => ?_)
         ·replace H:=ift h84 H
          refine z0c ?_
          refine z0b hN rfl ?_
          refine qe rfl ?_
          refine z0q ?_
          replace H:=retl H hq48
          cases H
          exact ⟨trivial,.inl rfl,trivial⟩
         ·replace H:=iff_ h84 H
          refine z0l ?_
          refine z0b hN rfl ?_
          refine qe rfl ?_
          exact ⟨33,H,⟨rfl,rfl,rfl,rfl,trivial⟩,trivial⟩
     ·rintro v85 H
      replace H:z1y v47 v85=some q48:=H
      unfold z1y at H
      refine z0b hN rfl ?_
      refine qd rfl ?_
      refine z0a (z1l _ rfl rfl (.inl ⟨rfl,rfl⟩)) ?_
      refine qe rfl ?_
      exact ⟨_,z9j H,⟨rfl,rfl,rfl,rfl,trivial⟩,trivial⟩
    ·replace H:=iff_ h49 H
     refine z34 ?_
     replace H:=outl H hq48
     exact ⟨v46,H,⟨rfl,trivial⟩,trivial⟩
   ·rintro v86 H
    replace H:z3w v86=some r:=H
    unfold z3w at H
    refine z0c ?_
    refine z0b hN rfl ?_
    refine qd rfl ?_
    refine z0a (z8o rfl rfl) ?_
    refine qe rfl ?_
    refine z0q ?_
    cases H
    exact ⟨trivial,.inl rfl,trivial⟩
theorem z9g (v1:Bs) (v2:Int) (v3:Int) (r:(Int×Int)) (H:z5s v1 v2 v3=some r):Fn Tryz.prog 143 [vstr v1,vint v2,vint v3] (z2f [vval (.int .u64 r.1),verr r.2]):=by
 refine ⟨by kernel_rfl,z2a (us:=[vval (.int .u64 r.1),verr r.2]) Tryz.func143 rfl rfl rfl rfl fun X hN => ?_⟩
 unfold z5s at H
 refine z0c ?_
 refine z0b hN rfl ?_
 refine qe rfl ?_
 refine qe rfl ?_
 refine z0c ?_
 refine z0c ?_
 refine z0b hN rfl ?_
 refine qd rfl ?_
 refine z0a (z56 rfl rfl) ?_
 refine z0i _ rfl (fun h4 => ?_) (fun h4 => ?_)
 ·replace H:=ift h4 H
  refine z0c ?_
  refine z0b hN rfl ?_
  refine z0a (z1e (u':=verr 2) (z6d (show Tryz.prog.underlying 142=some (.int .i64) from by kernel_rfl) rfl) rfl) ?_
  refine qe rfl ?_
  refine qe rfl ?_
  refine z0q ?_
  cases H
  exact ⟨trivial,.inl rfl,.inl rfl,trivial⟩
 ·replace H:=iff_ h4 H
  refine z0l ?_
  refine z0c ?_
  refine z0b hN rfl ?_
  refine qd rfl ?_
  refine z0a (z10 rfl rfl) ?_
  refine qe rfl ?_
  refine z0c ?_
  refine z0b hN rfl ?_
  refine qd rfl ?_
  refine qe rfl ?_
  refine z0z (ι:=Bs×Int) (fun i=>[(0,.dat (vstr i.1)),(1,.dat (vint i.2)),(2,.dat (vint v3)),(8,.dat (z02 (decide (v2=0)))),(9,.dat (vstr v1))]) (fun i=>[]) (fun i=>z1f v1 v2 v3 i.1 i.2=some r) (fun i=>rfl) ?_ ?_
  ·skip
   refine z01 ?_
   refine z0c ?_
   refine z0b hN rfl ?_
   refine qd rfl ?_
   refine z0a (z6z rfl rfl) ?_
   refine qd rfl ?_
   refine z4w rfl rfl (fun hc=>z0h (.dat _) rfl) ?_
   refine z4w rfl rfl (fun hc=>z6z (cnd (c:=(decide (2≤v2))) hc) rfl) ?_
   refine z0a (z1w rfl (fun hb=>(cnd (c:=(decide (2≤v2))) hb)) rfl) ?_
   refine qe rfl ?_
   refine z0i _ rfl (fun h5 => ?_) (fun h5 => ?_)
   ·replace H:=ift h5 H
    refine z0l ?_
    exact ⟨(v1,v2),H,⟨rfl,rfl,rfl,rfl,rfl,trivial⟩,trivial⟩
   ·replace H:=iff_ h5 H
    refine z0c ?_
    refine z0b hN rfl ?_
    refine qd rfl ?_
    refine z0a (z10 rfl rfl) ?_
    refine qe rfl ?_
    refine z0i _ rfl (fun h6 => ?_) (fun h6 => ?_)
    ·replace H:=ift h6 H
     refine z0c ?_
     refine z0b hN rfl ?_
     refine qe rfl ?_
     refine z0c ?_
     refine z0b hN rfl ?_
     refine qd rfl ?_
     obtain ⟨x7,h8,H⟩:=bnd H
     refine z0a (z7s tyU9 rfl rfl h8) ?_
     refine z0a (z10 rfl rfl) ?_
     refine z0i _ rfl (fun h9 => ?_) (fun h9 => ?_)
     ·replace H:=ift h9 H
      refine z01 ?_
      refine z0z (ι:=Bool) (fun i=>[(0,.dat (vstr v1)),(2,.dat (vint v3)),(8,.dat (z02 (decide (v2=0)))),(9,.dat (vstr v1)),(40,.dat (z02 i))]) (fun i=>[]) (fun i=>z3i v1 v2 v3 i=some r) (fun i=>rfl) ?_ ?_
      ·skip
       refine z0b hN rfl ?_
       refine qd rfl ?_
       refine z0a (z1v tyU9 rfl) ?_
       refine z0a (z8e rfl rfl) ?_
       refine qd rfl ?_
       refine z04 (j:=3) rfl rfl (fun h10 => ?_) (fun h10 => ?_) rfl
       ·have h11:=un1 h10
        replace H:=ift h11 H
        refine z0m rfl rfl h10 (z0h (.dat _) rfl) ?_
        obtain ⟨x12,h13,H⟩:=bnd H
        refine z0m rfl rfl h10 (z7s tyU9 rfl rfl h13) ?_
        obtain ⟨r14,h15,H⟩:=bnd H
        refine z0m rfl rfl h10 (z0s (z06 (x12.toNat:Int) r14 h15) ⟨.inl rfl,trivial⟩) ?_
        refine z0m rfl rfl h10 (z10 rfl rfl) ?_
        refine z0a (z0t rfl (bTT h11) rfl) ?_
        refine qe rfl ?_
        exact ⟨decide (r14=98),H,⟨rfl,rfl,rfl,rfl,rfl,trivial⟩,trivial⟩
       ·have h16:=un2 h10
        replace H:=iff_ h16 H
        refine z0e rfl rfl h10 ?_
        refine z0e rfl rfl h10 ?_
        refine z0e rfl rfl h10 ?_
        refine z0e rfl rfl h10 ?_
        refine z0a (z0o rfl (bFF h16) rfl) ?_
        refine qe rfl ?_
        exact ⟨false,H,⟨rfl,rfl,rfl,rfl,rfl,trivial⟩,trivial⟩
      ·rintro v17 H
       replace H:z3i v1 v2 v3 v17=some r:=H
       unfold z3i at H
       refine z0i _ rfl (fun h18 => ?_) (fun h18 => ?_)
       ·replace H:=ift h18 H
        refine z0c ?_
        refine z0b hN rfl ?_
        refine qe rfl ?_
        refine z0b hN rfl ?_
        refine qd rfl ?_
        obtain ⟨l19,h20,H⟩:=bnd H
        refine z0a (z9b tyU9 rfl rfl rfl h20) ?_
        refine qe rfl ?_
        exact ⟨(l19,2),H,⟨rfl,rfl,rfl,rfl,rfl,trivial⟩,trivial⟩
       ·replace H:=iff_ h18 H
        refine z0z (ι:=Bool) (fun i=>[(0,.dat (vstr v1)),(2,.dat (vint v3)),(8,.dat (z02 (decide (v2=0)))),(9,.dat (vstr v1)),(52,.dat (z02 i))]) (fun i=>[]) (fun i=>z3h v1 v2 v3 i=some r) (fun i=>rfl) ?_ ?_
        ·skip
         refine z0b hN rfl ?_
         refine qd rfl ?_
         refine z0a (z1v tyU9 rfl) ?_
         refine z0a (z8e rfl rfl) ?_
         refine qd rfl ?_
         refine z04 (j:=3) rfl rfl (fun h21 => ?_) (fun h21 => ?_) rfl
         ·have h22:=un1 h21
          replace H:=ift h22 H
          refine z0m rfl rfl h21 (z0h (.dat _) rfl) ?_
          obtain ⟨x23,h24,H⟩:=bnd H
          refine z0m rfl rfl h21 (z7s tyU9 rfl rfl h24) ?_
          obtain ⟨r25,h26,H⟩:=bnd H
          refine z0m rfl rfl h21 (z0s (z06 (x23.toNat:Int) r25 h26) ⟨.inl rfl,trivial⟩) ?_
          refine z0m rfl rfl h21 (z10 rfl rfl) ?_
          refine z0a (z0t rfl (bTT h22) rfl) ?_
          refine qe rfl ?_
          exact ⟨decide (r25=111),H,⟨rfl,rfl,rfl,rfl,rfl,trivial⟩,trivial⟩
         ·have h27:=un2 h21
          replace H:=iff_ h27 H
          refine z0e rfl rfl h21 ?_
          refine z0e rfl rfl h21 ?_
          refine z0e rfl rfl h21 ?_
          refine z0e rfl rfl h21 ?_
          refine z0a (z0o rfl (bFF h27) rfl) ?_
          refine qe rfl ?_
          exact ⟨false,H,⟨rfl,rfl,rfl,rfl,rfl,trivial⟩,trivial⟩
        ·rintro v28 H
         replace H:z3h v1 v2 v3 v28=some r:=H
         unfold z3h at H
         refine z0i _ rfl (fun h29 => ?_) (fun h29 => ?_)
         ·replace H:=ift h29 H
          refine z0c ?_
          refine z0b hN rfl ?_
          refine qe rfl ?_
          refine z0b hN rfl ?_
          refine qd rfl ?_
          obtain ⟨l30,h31,H⟩:=bnd H
          refine z0a (z9b tyU9 rfl rfl rfl h31) ?_
          refine qe rfl ?_
          exact ⟨(l30,8),H,⟨rfl,rfl,rfl,rfl,rfl,trivial⟩,trivial⟩
         ·replace H:=iff_ h29 H
          refine z0z (ι:=Bool) (fun i=>[(0,.dat (vstr v1)),(2,.dat (vint v3)),(8,.dat (z02 (decide (v2=0)))),(9,.dat (vstr v1)),(64,.dat (z02 i))]) (fun i=>[]) (fun i=>z3g v1 v2 v3 i=some r) (fun i=>rfl) ?_ ?_
          ·skip
           refine z0b hN rfl ?_
           refine qd rfl ?_
           refine z0a (z1v tyU9 rfl) ?_
           refine z0a (z8e rfl rfl) ?_
           refine qd rfl ?_
           refine z04 (j:=3) rfl rfl (fun h32 => ?_) (fun h32 => ?_) rfl
           ·have h33:=un1 h32
            replace H:=ift h33 H
            refine z0m rfl rfl h32 (z0h (.dat _) rfl) ?_
            obtain ⟨x34,h35,H⟩:=bnd H
            refine z0m rfl rfl h32 (z7s tyU9 rfl rfl h35) ?_
            obtain ⟨r36,h37,H⟩:=bnd H
            refine z0m rfl rfl h32 (z0s (z06 (x34.toNat:Int) r36 h37) ⟨.inl rfl,trivial⟩) ?_
            refine z0m rfl rfl h32 (z10 rfl rfl) ?_
            refine z0a (z0t rfl (bTT h33) rfl) ?_
            refine qe rfl ?_
            exact ⟨decide (r36=120),H,⟨rfl,rfl,rfl,rfl,rfl,trivial⟩,trivial⟩
           ·have h38:=un2 h32
            replace H:=iff_ h38 H
            refine z0e rfl rfl h32 ?_
            refine z0e rfl rfl h32 ?_
            refine z0e rfl rfl h32 ?_
            refine z0e rfl rfl h32 ?_
            refine z0a (z0o rfl (bFF h38) rfl) ?_
            refine qe rfl ?_
            exact ⟨false,H,⟨rfl,rfl,rfl,rfl,rfl,trivial⟩,trivial⟩
          ·rintro v39 H
           replace H:z3g v1 v2 v3 v39=some r:=H
           unfold z3g at H
           refine z0i _ rfl (fun h40 => ?_) (fun h40 => ?_)
           ·replace H:=ift h40 H
            refine z0c ?_
            refine z0b hN rfl ?_
            refine qe rfl ?_
            refine z0b hN rfl ?_
            refine qd rfl ?_
            obtain ⟨l41,h42,H⟩:=bnd H
            refine z0a (z9b tyU9 rfl rfl rfl h42) ?_
            refine qe rfl ?_
            exact ⟨(l41,16),H,⟨rfl,rfl,rfl,rfl,rfl,trivial⟩,trivial⟩
           ·replace H:=iff_ h40 H
            refine z0c ?_
            refine z0b hN rfl ?_
            refine qe rfl ?_
            refine z0b hN rfl ?_
            refine qd rfl ?_
            obtain ⟨l43,h44,H⟩:=bnd H
            refine z0a (z9b tyU9 rfl rfl rfl h44) ?_
            refine qe rfl ?_
            exact ⟨(l43,8),H,⟨rfl,rfl,rfl,rfl,rfl,trivial⟩,trivial⟩
     ·replace H:=iff_ h9 H
      refine z0l ?_
      exact ⟨(v1,10),H,⟨rfl,rfl,rfl,rfl,rfl,trivial⟩,trivial⟩
    ·replace H:=iff_ h6 H
     refine z0c ?_
     refine z0b hN rfl ?_
     refine z0a (z1e (u':=verr 3) (z6d (show Tryz.prog.underlying 142=some (.int .i64) from by kernel_rfl) rfl) rfl) ?_
     refine qe rfl ?_
     refine qe rfl ?_
     refine z0q ?_
     cases H
     exact ⟨trivial,.inl rfl,.inl rfl,trivial⟩
  ·rintro ⟨v45,v46⟩ H
   replace H:z1f v1 v2 v3 v45 v46=some r:=H
   unfold z1f at H
   refine z0z (ι:=Int) (fun i=>[(0,.dat (vstr v45)),(1,.dat (vint v46)),(2,.dat (vint i)),(8,.dat (z02 (decide (v2=0)))),(9,.dat (vstr v1))]) (fun i=>[]) (fun i=>z3f v1 v2 v45 v46 i=some r) (fun i=>rfl) ?_ ?_
   ·skip
    refine z0c ?_
    refine z0b hN rfl ?_
    refine qd rfl ?_
    refine z0a (z10 rfl rfl) ?_
    refine z0i _ rfl (fun h47 => ?_) (fun h47 => ?_)
    ·replace H:=ift h47 H
     refine z0b hN rfl ?_
     refine qe rfl ?_
     exact ⟨64,H,⟨rfl,rfl,rfl,rfl,rfl,trivial⟩,trivial⟩
    ·replace H:=iff_ h47 H
     refine z0c ?_
     refine z0b hN rfl ?_
     refine qd rfl ?_
     refine z0a (z1i rfl rfl) ?_
     refine qd rfl ?_
     refine z43 rfl rfl (fun hc=>z0h (.dat _) rfl) ?_
     refine z43 rfl rfl (fun hc=>z4y (cnd (c:=(!(decide (v3 < 0)))) hc) rfl) ?_
     refine z0a (z4q rfl rfl (fun hb=>(cnd (c:=(!(decide (v3 < 0)))) (notI hb)))) ?_
     refine z0i _ rfl (fun h48 => ?_) (fun h48 => ?_)
     ·replace H:=ift h48 H
      refine z0c ?_
      refine z0b hN rfl ?_
      refine z0a (z1e (u':=verr 4) (z6d (show Tryz.prog.underlying 142=some (.int .i64) from by kernel_rfl) rfl) rfl) ?_
      refine qe rfl ?_
      refine qe rfl ?_
      refine z0q ?_
      cases H
      exact ⟨trivial,.inl rfl,.inl rfl,trivial⟩
     ·replace H:=iff_ h48 H
      refine z0l ?_
      exact ⟨v3,H,⟨rfl,rfl,rfl,rfl,rfl,trivial⟩,trivial⟩
   ·rintro v49 H
    replace H:z3f v1 v2 v45 v46 v49=some r:=H
    unfold z3f at H
    refine z0c ?_
    refine z0b hN rfl ?_
    refine qe rfl ?_
    refine z0z (ι:=Int) (fun i=>[(0,.dat (vstr v45)),(1,.dat (vint v46)),(2,.dat (vint v49)),(8,.dat (z02 (decide (v2=0)))),(9,.dat (vstr v1)),(10,.dat (vval (.int .u64 i)))]) (fun i=>[]) (fun i=>z2b v1 v2 v45 v46 v49 i=some r) (fun i=>rfl) ?_ ?_
    ·skip
     refine z0c ?_
     refine z0b hN rfl ?_
     refine qd rfl ?_
     refine z01 ?_
     refine z0c ?_
     refine z0b hN rfl ?_
     refine z0a (z10 rfl rfl) ?_
     refine qe rfl ?_
     refine z0i _ rfl (fun h50 => ?_) (fun h50 => ?_)
     ·replace H:=ift h50 H
      refine z0b hN rfl ?_
      refine qe rfl ?_
      exact ⟨1844674407370955162,H,⟨rfl,rfl,rfl,rfl,rfl,rfl,trivial⟩,trivial⟩
     ·replace H:=iff_ h50 H
      refine z0c ?_
      refine z0b hN rfl ?_
      refine z0a (z10 rfl rfl) ?_
      refine qe rfl ?_
      refine z0i _ rfl (fun h51 => ?_) (fun h51 => ?_)
      ·replace H:=ift h51 H
       refine z0b hN rfl ?_
       refine qe rfl ?_
       exact ⟨1152921504606846976,H,⟨rfl,rfl,rfl,rfl,rfl,rfl,trivial⟩,trivial⟩
      ·replace H:=iff_ h51 H
       refine z0b hN rfl ?_
       refine qd rfl ?_
       refine z0a (z7o tyU3 y37 rfl) ?_
       obtain ⟨h52,H⟩:=gif H
       refine z0a (x2u rfl rfl h52) ?_
       refine z0a (z1l _ rfl rfl (.inl ⟨rfl,rfl⟩)) ?_
       refine qe rfl ?_
       exact ⟨IntKind.wrap .u64 ((IntKind.wrap .u64 (Int.tdiv 18446744073709551615 (IntKind.wrap .u64 v46)))+1),H,⟨rfl,rfl,rfl,rfl,rfl,rfl,trivial⟩,trivial⟩
    ·rintro v53 H
     replace H:z2b v1 v2 v45 v46 v49 v53=some r:=H
     unfold z2b at H
     refine z0c ?_
     refine z0b hN rfl ?_
     refine qd rfl ?_
     refine z0a (z7o tyU3 x6k rfl) ?_
     obtain ⟨h54,H⟩:=gif H
     refine z0a (z1e (y6w rfl rfl h54) rfl) ?_
     refine z0a (z1l _ rfl rfl (.inr (.inl ⟨rfl,rfl⟩))) ?_
     refine qe rfl ?_
     refine z0c ?_
     refine z0b hN rfl ?_
     refine qe rfl ?_
     refine z0c ?_
     refine z0b hN rfl ?_
     refine qe rfl ?_
     refine z0c ?_
     refine z0c ?_
     refine z0b hN rfl ?_
     refine qd rfl ?_
     refine z0a (y3g (C:=z7w) tyU9 y81 tyU5 (fun _=>rfl) rfl) ?_
     refine z0a (z6g y81 rfl) ?_
     refine qd rfl ?_
     refine z01 ?_
     obtain ⟨h59,H⟩:=gif H
     refine z64 (fun (k57:Nat) (s:Bool×Int)=>[(1,.dat (vint v46)),(8,.dat (z02 (decide (v2=0)))),(9,.dat (vstr v1)),(10,.dat (vval (.int .u64 v53))),(11,.dat (vval (.int .u64 (IntKind.wrap .u64 ((shl_ .u64 1 (IntKind.wrap .u64 v49)) - 1))))),(12,.dat (z02 s.1)),(13,.dat (vval (.int .u64 s.2))),(99,.dat (vlst (List.map z7w (z94 v45)))),(100,.dat (vint ((z94 v45).length:Int))),(101,.dat (vint (k57:Int)))]) (fun (k57:Nat) (s:Bool×Int)=>[]) (false,0) H ⟨rfl,rfl,rfl,rfl,rfl,rfl,rfl,rfl,rfl,rfl,trivial⟩ trivial (fun _ _=>rfl) ?_ ?_
     ·rintro ⟨v55,v56⟩ H
      replace H:z5o v1 v55 v56=some r:=H
      unfold z5o at H
      refine z0c ?_
      refine z0b hN rfl ?_
      refine z0a (z1i rfl rfl) ?_
      refine z0c ?_
      refine z0i _ rfl (fun h=>(lt_t h).elim) (fun h => ?_)
      refine z34 ?_
      refine z0c ?_
      refine z0z (ι:=Bool) (fun i=>[(13,.dat (vval (.int .u64 v56))),(169,.dat (z02 i))]) (fun i=>[]) (fun i=>z3e v56 i=some r) (fun i=>rfl) ?_ ?_
      ·skip
       refine z0b hN rfl ?_
       refine qd rfl ?_
       refine qd rfl ?_
       refine z04 (j:=1) rfl rfl (fun h61 => ?_) (fun h61 => ?_) rfl
       ·have h62:=un1 h61
        replace H:=ift h62 H
        refine z0m rfl rfl h61 (z0h (.dat _) rfl) ?_
        obtain ⟨r63,h64,H⟩:=bnd H
        refine z0m rfl rfl h61 (z0s (z8q v1 r63 h64) ⟨.inl rfl,trivial⟩) ?_
        refine z0m rfl rfl h61 (z4x rfl) ?_
        refine z0a (z0t rfl (bTT h62) rfl) ?_
        exact ⟨!r63,H,⟨rfl,rfl,trivial⟩,trivial⟩
       ·have h65:=un2 h61
        replace H:=iff_ h65 H
        refine z0e rfl rfl h61 ?_
        refine z0e rfl rfl h61 ?_
        refine z0e rfl rfl h61 ?_
        refine z0a (z0o rfl (bFF h65) rfl) ?_
        exact ⟨false,H,⟨rfl,rfl,trivial⟩,trivial⟩
      ·rintro v66 H
       replace H:z3e v56 v66=some r:=H
       unfold z3e at H
       refine z0i _ rfl (fun h67 => ?_) (fun h67 => ?_)
       ·replace H:=ift h67 H
        refine z0c ?_
        refine z0b hN rfl ?_
        refine z0a (z1e (u':=verr 2) (z6d (show Tryz.prog.underlying 142=some (.int .i64) from by kernel_rfl) rfl) rfl) ?_
        refine qe rfl ?_
        refine qe rfl ?_
        refine z0q ?_
        cases H
        exact ⟨trivial,.inl rfl,.inl rfl,trivial⟩
       ·replace H:=iff_ h67 H
        refine z0l ?_
        refine z0c ?_
        refine z0b hN rfl ?_
        refine qd rfl ?_
        refine qe rfl ?_
        refine qe rfl ?_
        refine z0q ?_
        cases H
        exact ⟨trivial,.inl rfl,.inl rfl,trivial⟩
     ·rintro k57 x60 ⟨v55,v56⟩ q58 h68 h69 H hq58
      replace H:z5n v2 v46 v49 v53 k57 x60 v55 v56=some q58:=H
      unfold z5n at H
      refine z0c ?_
      refine z0b hN rfl ?_
      refine z0a (z1i rfl rfl) ?_
      refine z0c ?_
      refine z0i _ rfl (fun h => ?_) (fun h=>(lt_f h68 h).elim)
      refine z0l ?_
      refine z0z (ι:=Bool×Int) (fun i=>[(1,.dat (vint v46)),(8,.dat (z02 (decide (v2=0)))),(9,.dat (vstr v1)),(10,.dat (vval (.int .u64 v53))),(11,.dat (vval (.int .u64 (IntKind.wrap .u64 ((shl_ .u64 1 (IntKind.wrap .u64 v49)) - 1))))),(12,.dat (z02 i.1)),(13,.dat (vval (.int .u64 i.2))),(99,.dat (vlst (List.map z7w (z94 v45)))),(100,.dat (vint ((z94 v45).length:Int))),(101,.dat (vint (k57:Int)))]) (fun i=>[]) (fun i=>z3d i.1 i.2=some q58) (fun i=>rfl) ?_ ?_
      ·skip
       refine z01 ?_
       refine z0c ?_
       refine z0b hN rfl ?_
       refine z0a (z93 x6o (fun _=>rfl) rfl rfl h69) ?_
       refine z0a (z1b tyS5 rfl (z5q h69) rfl) ?_
       refine qe rfl ?_
       refine z0c ?_
       refine z0b hN rfl ?_
       refine qe rfl ?_
       refine z0z (ι:=Int) (fun i=>[(1,.dat (vint v46)),(8,.dat (z02 (decide (v2=0)))),(9,.dat (vstr v1)),(10,.dat (vval (.int .u64 v53))),(11,.dat (vval (.int .u64 (IntKind.wrap .u64 ((shl_ .u64 1 (IntKind.wrap .u64 v49)) - 1))))),(12,.dat (z02 v55)),(13,.dat (vval (.int .u64 v56))),(16,.dat (vval (.int .u8 i))),(99,.dat (vlst (List.map z7w (z94 v45)))),(100,.dat (vint ((z94 v45).length:Int))),(101,.dat (vint (k57:Int)))]) (fun i=>[]) (fun i=>z2z v46 v49 v53 v55 v56 i=some q58) (fun i=>rfl) ?_ ?_
       ·skip
        refine z01 ?_
        refine z0c ?_
        refine z0b hN rfl ?_
        refine qd rfl ?_
        refine z0a (z10 rfl rfl) ?_
        refine qd rfl ?_
        refine z4w rfl rfl (fun hc=>z0h (.dat _) rfl) ?_
        refine z0a (z1w rfl (fun hb=>(cnd (c:=(decide (x60=95))) hb)) rfl) ?_
        refine qe rfl ?_
        refine z0i _ rfl (fun h70 => ?_) (fun h70 => ?_)
        ·replace H:=ift h70 H
         refine z0c ?_
         refine z0b hN rfl ?_
         refine qe rfl ?_
         refine z34 ?_
         exact ⟨(true,v56),H,⟨rfl,rfl,rfl,rfl,rfl,rfl,rfl,rfl,rfl,rfl,trivial⟩,trivial⟩
        ·replace H:=iff_ h70 H
         refine z0c ?_
         refine z0b hN rfl ?_
         refine qd rfl ?_
         refine z0a (z6z rfl rfl) ?_
         refine qd rfl ?_
         refine z4w rfl rfl (fun hc=>z0h (.dat _) rfl) ?_
         refine z4w rfl rfl (fun hc=>z6z (cnd (c:=(decide (48≤x60))) hc) rfl) ?_
         refine z0a (z1w rfl (fun hb=>(cnd (c:=(decide (48≤x60))) hb)) rfl) ?_
         refine qe rfl ?_
         refine z0i _ rfl (fun h71 => ?_) (fun h71 => ?_)
         ·replace H:=ift h71 H
          refine z0b hN rfl ?_
          refine qd rfl ?_
          refine z0a (z1l _ rfl rfl (.inr (.inl ⟨rfl,rfl⟩))) ?_
          refine qe rfl ?_
          exact ⟨IntKind.wrap .u8 (x60 - 48),H,⟨rfl,rfl,rfl,rfl,rfl,rfl,rfl,rfl,rfl,rfl,rfl,trivial⟩,trivial⟩
         ·replace H:=iff_ h71 H
          refine z0z (ι:=Bool) (fun i=>[(1,.dat (vint v46)),(8,.dat (z02 (decide (v2=0)))),(9,.dat (vstr v1)),(10,.dat (vval (.int .u64 v53))),(11,.dat (vval (.int .u64 (IntKind.wrap .u64 ((shl_ .u64 1 (IntKind.wrap .u64 v49)) - 1))))),(12,.dat (z02 v55)),(13,.dat (vval (.int .u64 v56))),(15,.dat (vval (.int .u8 x60))),(99,.dat (vlst (List.map z7w (z94 v45)))),(100,.dat (vint ((z94 v45).length:Int))),(101,.dat (vint (k57:Int))),(121,.dat (z02 i))]) (fun i=>[]) (fun i=>z2y v46 v49 v53 v55 v56 x60 i=some q58) (fun i=>rfl) ?_ ?_
          ·skip
           refine z0b hN rfl ?_
           refine qd rfl ?_
           obtain ⟨r72,h73,H⟩:=bnd H
           refine z0a (z0s (z06 x60 r72 h73) ⟨.inl rfl,trivial⟩) ?_
           refine z0a (z6z rfl rfl) ?_
           refine qd rfl ?_
           refine z04 (j:=3) rfl rfl (fun h74 => ?_) (fun h74 => ?_) rfl
           ·have h75:=un1 h74
            replace H:=ift h75 H
            refine z0m rfl rfl h74 (z0h (.dat _) rfl) ?_
            obtain ⟨r76,h77,H⟩:=bnd H
            refine z0m rfl rfl h74 (z0s (z06 x60 r76 h77) ⟨.inl rfl,trivial⟩) ?_
            refine z0m rfl rfl h74 (z6z rfl rfl) ?_
            refine z0a (z0t rfl (bTT h75) rfl) ?_
            refine qe rfl ?_
            exact ⟨decide (r76≤122),H,⟨rfl,rfl,rfl,rfl,rfl,rfl,rfl,rfl,rfl,rfl,rfl,rfl,trivial⟩,trivial⟩
           ·have h78:=un2 h74
            replace H:=iff_ h78 H
            refine z0e rfl rfl h74 ?_
            refine z0e rfl rfl h74 ?_
            refine z0e rfl rfl h74 ?_
            refine z0a (z0o rfl (bFF h78) rfl) ?_
            refine qe rfl ?_
            exact ⟨false,H,⟨rfl,rfl,rfl,rfl,rfl,rfl,rfl,rfl,rfl,rfl,rfl,rfl,trivial⟩,trivial⟩
          ·rintro v79 H
           replace H:z2y v46 v49 v53 v55 v56 x60 v79=some q58:=H
           unfold z2y at H
           refine z0i _ rfl (fun h80 => ?_) (fun h80 => ?_)
           ·replace H:=ift h80 H
            refine z0b hN rfl ?_
            refine qd rfl ?_
            obtain ⟨r81,h82,H⟩:=bnd H
            refine z0a (z0s (z06 x60 r81 h82) ⟨.inl rfl,trivial⟩) ?_
            refine z0a (z1l _ rfl rfl (.inr (.inl ⟨rfl,rfl⟩))) ?_
            refine z0a (z1l _ rfl rfl (.inl ⟨rfl,rfl⟩)) ?_
            refine qe rfl ?_
            exact ⟨IntKind.wrap .u8 ((IntKind.wrap .u8 (r81 - 97))+10),H,⟨rfl,rfl,rfl,rfl,rfl,rfl,rfl,rfl,rfl,rfl,rfl,trivial⟩,trivial⟩
           ·replace H:=iff_ h80 H
            refine z0c ?_
            refine z0b hN rfl ?_
            refine z0a (z1e (u':=verr 2) (z6d (show Tryz.prog.underlying 142=some (.int .i64) from by kernel_rfl) rfl) rfl) ?_
            refine qe rfl ?_
            refine qe rfl ?_
            refine z0q ?_
            replace H:=retl H hq58
            cases H
            exact ⟨trivial,.inl rfl,.inl rfl,trivial⟩
       ·rintro v83 H
        replace H:z2z v46 v49 v53 v55 v56 v83=some q58:=H
        unfold z2z at H
        refine z0c ?_
        refine z0c ?_
        refine z0b hN rfl ?_
        refine qd rfl ?_
        refine qd rfl ?_
        refine z0a (z7o tyU3 tyU5 rfl) ?_
        refine z0a (z8e rfl rfl) ?_
        refine z0i _ rfl (fun h84 => ?_) (fun h84 => ?_)
        ·replace H:=ift h84 H
         refine z0c ?_
         refine z0b hN rfl ?_
         refine z0a (z1e (u':=verr 2) (z6d (show Tryz.prog.underlying 142=some (.int .i64) from by kernel_rfl) rfl) rfl) ?_
         refine qe rfl ?_
         refine qe rfl ?_
         refine z0q ?_
         replace H:=retl H hq58
         cases H
         exact ⟨trivial,.inl rfl,.inl rfl,trivial⟩
        ·replace H:=iff_ h84 H
         refine z0l ?_
         refine z0c ?_
         refine z0c ?_
         refine z0b hN rfl ?_
         refine qd rfl ?_
         refine qd rfl ?_
         refine z0a (z8e rfl rfl) ?_
         refine z0i _ rfl (fun h85 => ?_) (fun h85 => ?_)
         ·replace H:=ift h85 H
          refine z0c ?_
          refine z0b hN rfl ?_
          refine qd rfl ?_
          refine z0a (z1e (u':=verr 1) (z6d (show Tryz.prog.underlying 142=some (.int .i64) from by kernel_rfl) rfl) rfl) ?_
          refine qe rfl ?_
          refine qe rfl ?_
          refine z0q ?_
          replace H:=retl H hq58
          cases H
          exact ⟨trivial,.inl rfl,.inl rfl,trivial⟩
         ·replace H:=iff_ h85 H
          refine z0l ?_
          refine z0c ?_
          refine z0b hN rfl ?_
          refine qd rfl ?_
          refine qd rfl ?_
          refine z0a (z7o tyU3 y37 rfl) ?_
          refine z0a (z1l _ rfl rfl (.inr (.inr ⟨rfl,rfl⟩))) ?_
          refine qe rfl ?_
          refine z0c ?_
          refine z0b hN rfl ?_
          refine qd rfl ?_
          refine qd rfl ?_
          refine z0a (z7o tyU5 y37 rfl) ?_
          refine z0a (z1l _ rfl rfl (.inl ⟨rfl,rfl⟩)) ?_
          refine qe rfl ?_
          refine z0c ?_
          refine z0c ?_
          refine z0b hN rfl ?_
          refine qd rfl ?_
          refine qd rfl ?_
          refine z0a (z1i rfl rfl) ?_
          refine qd rfl ?_
          refine z43 rfl rfl (fun hc=>z0h (.dat _) rfl) ?_
          refine z43 rfl rfl (fun hc=>z0h (.dat _) rfl) ?_
          refine z43 rfl rfl (fun hc=>z4y (cnd (c:=(!(decide ((IntKind.wrap .u64 ((IntKind.wrap .u64 (v56 * (IntKind.wrap .u64 v46)))+(IntKind.wrap .u64 v83))) < (IntKind.wrap .u64 (v56 * (IntKind.wrap .u64 v46))))))) hc) (cnd (c:=(!(decide ((IntKind.wrap .u64 ((IntKind.wrap .u64 (v56 * (IntKind.wrap .u64 v46)))+(IntKind.wrap .u64 v83))) < (IntKind.wrap .u64 (v56 * (IntKind.wrap .u64 v46))))))) hc)) ?_
          refine z0a (z4q rfl rfl (fun hb=>(cnd (c:=(!(decide ((IntKind.wrap .u64 ((IntKind.wrap .u64 (v56 * (IntKind.wrap .u64 v46)))+(IntKind.wrap .u64 v83))) < (IntKind.wrap .u64 (v56 * (IntKind.wrap .u64 v46))))))) (notI hb)))) ?_
          refine z0i _ rfl (fun h86 => ?_) (fun h86 => ?_)
          ·replace H:=ift h86 H
           refine z0c ?_
           refine z0b hN rfl ?_
           refine qd rfl ?_
           refine z0a (z1e (u':=verr 1) (z6d (show Tryz.prog.underlying 142=some (.int .i64) from by kernel_rfl) rfl) rfl) ?_
           refine qe rfl ?_
           refine qe rfl ?_
           refine z0q ?_
           replace H:=retl H hq58
           cases H
           exact ⟨trivial,.inl rfl,.inl rfl,trivial⟩
          ·replace H:=iff_ h86 H
           refine z0l ?_
           refine z0b hN rfl ?_
           refine qd rfl ?_
           refine qe rfl ?_
           exact ⟨(v55,IntKind.wrap .u64 ((IntKind.wrap .u64 (v56 * (IntKind.wrap .u64 v46)))+(IntKind.wrap .u64 v83))),H,⟨rfl,rfl,rfl,rfl,rfl,rfl,rfl,rfl,rfl,rfl,trivial⟩,trivial⟩
      ·rintro ⟨v87,v88⟩ H
       replace H:z3d v87 v88=some q58:=H
       unfold z3d at H
       refine z0b hN rfl ?_
       refine z0a (z6q rfl rfl (by omega)) ?_
       refine qd rfl ?_
       exact ⟨_,z9j H,⟨rfl,rfl,rfl,rfl,rfl,rfl,rfl,rfl,rfl,rfl,trivial⟩,trivial⟩
theorem z9y (v1:Bs) (v2:Int) (v3:Int) (r:(Int×Int)) (H:z52 v1 v2 v3=some r):Fn Tryz.prog 129 [vstr v1,vint v2,vint v3] (z2f [vint r.1,verr r.2]):=by
 refine ⟨by kernel_rfl,z2a (us:=[vint r.1,verr r.2]) Tryz.func129 rfl rfl rfl rfl fun X hN => ?_⟩
 unfold z52 at H
 refine z0c ?_
 refine z0b hN rfl ?_
 refine qe rfl ?_
 refine qe rfl ?_
 refine z0c ?_
 refine z0c ?_
 refine z0b hN rfl ?_
 refine qd rfl ?_
 refine z0a (z56 rfl rfl) ?_
 refine z0i _ rfl (fun h4 => ?_) (fun h4 => ?_)
 ·replace H:=ift h4 H
  refine z0c ?_
  refine z0b hN rfl ?_
  refine z0a (z1e (u':=verr 2) (z6d (show Tryz.prog.underlying 142=some (.int .i64) from by kernel_rfl) rfl) rfl) ?_
  refine qe rfl ?_
  refine qe rfl ?_
  refine z0q ?_
  cases H
  exact ⟨trivial,.inl rfl,.inl rfl,trivial⟩
 ·replace H:=iff_ h4 H
  refine z0l ?_
  refine z0c ?_
  refine z0b hN rfl ?_
  refine qe rfl ?_
  refine z0z (ι:=Bs×Bool) (fun i=>[(0,.dat (vstr i.1)),(1,.dat (vint v2)),(2,.dat (vint v3)),(8,.dat (z02 i.2))]) (fun i=>[]) (fun i=>z2j v2 v3 i.1 i.2=some r) (fun i=>rfl) ?_ ?_
  ·skip
   refine z0c ?_
   refine z0b hN rfl ?_
   refine qd rfl ?_
   obtain ⟨x5,h6,H⟩:=bnd H
   refine z0a (z7s tyU9 rfl rfl h6) ?_
   refine z01 ?_
   refine z0c ?_
   refine z0b hN rfl ?_
   refine z0a (z10 rfl rfl) ?_
   refine qe rfl ?_
   refine z0i _ rfl (fun h7 => ?_) (fun h7 => ?_)
   ·replace H:=ift h7 H
    refine z0b hN rfl ?_
    refine qd rfl ?_
    obtain ⟨l8,h9,H⟩:=bnd H
    refine z0a (z9b tyU9 rfl rfl rfl h9) ?_
    refine qe rfl ?_
    exact ⟨(l8,false),H,⟨rfl,rfl,rfl,rfl,trivial⟩,trivial⟩
   ·replace H:=iff_ h7 H
    refine z0c ?_
    refine z0b hN rfl ?_
    refine z0a (z10 rfl rfl) ?_
    refine qe rfl ?_
    refine z0i _ rfl (fun h10 => ?_) (fun h10 => ?_)
    ·replace H:=ift h10 H
     refine z0c ?_
     refine z0b hN rfl ?_
     refine qd rfl ?_
     obtain ⟨l11,h12,H⟩:=bnd H
     refine z0a (z9b tyU9 rfl rfl rfl h12) ?_
     refine qe rfl ?_
     refine z0b hN rfl ?_
     refine qe rfl ?_
     exact ⟨(l11,true),H,⟨rfl,rfl,rfl,rfl,trivial⟩,trivial⟩
    ·replace H:=iff_ h10 H
     refine z0l ?_
     exact ⟨(v1,false),H,⟨rfl,rfl,rfl,rfl,trivial⟩,trivial⟩
  ·rintro ⟨v13,v14⟩ H
   replace H:z2j v2 v3 v13 v14=some r:=H
   unfold z2j at H
   refine z0c ?_
   refine z0b hN rfl ?_
   refine qe rfl ?_
   refine z0c ?_
   refine z0b hN rfl ?_
   refine qd rfl ?_
   refine qd rfl ?_
   refine qd rfl ?_
   obtain ⟨r15,h16,H⟩:=bnd H
   refine z0a (z0s (z9g v13 v2 v3 r15 h16) ⟨.inl rfl,.inl rfl,.inl rfl,trivial⟩) ?_
   refine qd rfl ?_
   refine z0a (z2d rfl rfl) ?_
   refine z0a (z2d rfl rfl) ?_
   refine qe rfl ?_
   refine qe rfl ?_
   refine z0c ?_
   refine z0z (ι:=Bool) (fun i=>[(2,.dat (vint v3)),(7,.dat (verr r15.2)),(8,.dat (z02 v14)),(9,.dat (vval (.int .u64 r15.1))),(38,.dat (z02 i))]) (fun i=>[]) (fun i=>z3s v3 v14 r15 i=some r) (fun i=>rfl) ?_ ?_
   ·skip
    refine z0b hN rfl ?_
    refine qd rfl ?_
    refine z0a (y39 (n:=r15.2) (show Tryz.prog.underlying 82=some (.interface (Tryz.prog.methodsAt 82)) from by kernel_rfl) rfl) ?_
    refine qd rfl ?_
    refine z04 (j:=2) rfl rfl (fun h17 => ?_) (fun h17 => ?_) rfl
    ·have h18:=un1 h17
     replace H:=ift h18 H
     refine z0m rfl rfl h17 (z0h (.dat _) rfl) ?_
     refine z0m rfl rfl h17 (z1e (u':=verr 1) (z6d (show Tryz.prog.underlying 142=some (.int .i64) from by kernel_rfl) rfl) rfl) ?_
     obtain ⟨h19,H⟩:=gif H
     refine z0m rfl rfl h17 (y61 (n:=r15.2) (m:=1) (show Tryz.prog.underlying 82=some (.interface (Tryz.prog.methodsAt 82)) from by kernel_rfl) (by kernel_rfl) (by kernel_rfl) rfl rfl h19 (by decide)) ?_
     refine z0a (z0t rfl (bTT h18) rfl) ?_
     exact ⟨decide (r15.2≠1),H,⟨rfl,rfl,rfl,rfl,rfl,trivial⟩,trivial⟩
    ·have h20:=un2 h17
     replace H:=iff_ h20 H
     refine z0e rfl rfl h17 ?_
     refine z0e rfl rfl h17 ?_
     refine z0e rfl rfl h17 ?_
     refine z0a (z0o rfl (bFF h20) rfl) ?_
     exact ⟨false,H,⟨rfl,rfl,rfl,rfl,rfl,trivial⟩,trivial⟩
   ·rintro v21 H
    replace H:z3s v3 v14 r15 v21=some r:=H
    unfold z3s at H
    refine z0i _ rfl (fun h22 => ?_) (fun h22 => ?_)
    ·replace H:=ift h22 H
     refine z0c ?_
     refine z0b hN rfl ?_
     refine qd rfl ?_
     refine qe rfl ?_
     refine qe rfl ?_
     refine z0q ?_
     cases H
     exact ⟨trivial,.inl rfl,.inl rfl,trivial⟩
    ·replace H:=iff_ h22 H
     refine z0l ?_
     refine z0z (ι:=Int) (fun i=>[(2,.dat (vint i)),(8,.dat (z02 v14)),(9,.dat (vval (.int .u64 r15.1)))]) (fun i=>[]) (fun i=>z3r v14 r15 i=some r) (fun i=>rfl) ?_ ?_
     ·skip
      refine z0c ?_
      refine z0b hN rfl ?_
      refine qd rfl ?_
      refine z0a (z10 rfl rfl) ?_
      refine z0i _ rfl (fun h23 => ?_) (fun h23 => ?_)
      ·replace H:=ift h23 H
       refine z0b hN rfl ?_
       refine qe rfl ?_
       exact ⟨64,H,⟨rfl,rfl,rfl,trivial⟩,trivial⟩
      ·replace H:=iff_ h23 H
       refine z0l ?_
       exact ⟨v3,H,⟨rfl,rfl,rfl,trivial⟩,trivial⟩
     ·rintro v24 H
      replace H:z3r v14 r15 v24=some r:=H
      unfold z3r at H
      refine z0c ?_
      refine z0b hN rfl ?_
      refine qd rfl ?_
      refine z0a (z1l _ rfl rfl (.inr (.inl ⟨rfl,rfl⟩))) ?_
      refine z0a (z7o tyU3 x6k rfl) ?_
      obtain ⟨h25,H⟩:=gif H
      refine z0a (z1e (y6w rfl rfl h25) rfl) ?_
      refine qe rfl ?_
      refine z0c ?_
      refine z0c ?_
      refine z0b hN rfl ?_
      refine qd rfl ?_
      refine z0a (z4x rfl) ?_
      refine qd rfl ?_
      refine z4w rfl rfl (fun hc=>z0h (.dat _) rfl) ?_
      refine z4w rfl rfl (fun hc=>z0h (.dat _) rfl) ?_
      refine z4w rfl rfl (fun hc=>z8e (cnd (c:=(!v14)) hc) (cnd (c:=(!v14)) hc)) ?_
      refine z0a (z1w rfl (fun hb=>(cnd (c:=(!v14)) hb)) rfl) ?_
      refine z0i _ rfl (fun h26 => ?_) (fun h26 => ?_)
      ·replace H:=ift h26 H
       refine z0c ?_
       refine z0b hN rfl ?_
       refine qd rfl ?_
       refine z0a (z1l _ rfl rfl (.inr (.inl ⟨rfl,rfl⟩))) ?_
       refine z0a (z7o y37 tyU2 rfl) ?_
       refine z0a (z1e (u':=verr 1) (z6d (show Tryz.prog.underlying 142=some (.int .i64) from by kernel_rfl) rfl) rfl) ?_
       refine qe rfl ?_
       refine qe rfl ?_
       refine z0q ?_
       cases H
       exact ⟨trivial,.inl rfl,.inl rfl,trivial⟩
      ·replace H:=iff_ h26 H
       refine z0l ?_
       refine z0c ?_
       refine z0c ?_
       refine z0b hN rfl ?_
       refine qd rfl ?_
       refine qd rfl ?_
       refine z4w rfl rfl (fun hc=>z0h (.dat _) rfl) ?_
       refine z4w rfl rfl (fun hc=>z0h (.dat _) rfl) ?_
       refine z4w rfl rfl (fun hc=>z4y (cnd (c:=v14) hc) (cnd (c:=v14) hc)) ?_
       refine z0a (z1w rfl (fun hb=>(cnd (c:=v14) hb)) rfl) ?_
       refine z0i _ rfl (fun h27 => ?_) (fun h27 => ?_)
       ·replace H:=ift h27 H
        refine z0c ?_
        refine z0b hN rfl ?_
        refine qd rfl ?_
        refine z0a (z7o y37 tyU2 rfl) ?_
        obtain ⟨h28,H⟩:=gif H
        refine z0a (y6y rfl h28) ?_
        refine z0a (z1e (u':=verr 1) (z6d (show Tryz.prog.underlying 142=some (.int .i64) from by kernel_rfl) rfl) rfl) ?_
        refine qe rfl ?_
        refine qe rfl ?_
        refine z0q ?_
        cases H
        exact ⟨trivial,.inl rfl,.inl rfl,trivial⟩
       ·replace H:=iff_ h27 H
        refine z0l ?_
        refine z0c ?_
        refine z0b hN rfl ?_
        refine qd rfl ?_
        refine z0a (z7o y37 tyU2 rfl) ?_
        refine qe rfl ?_
        refine z0z (ι:=Int) (fun i=>[(11,.dat (vint i))]) (fun i=>[]) (fun i=>z3q i=some r) (fun i=>rfl) ?_ ?_
        ·skip
         refine z0c ?_
         refine z0b hN rfl ?_
         refine qd rfl ?_
         refine z0i _ rfl (fun h29 => ?_) (fun h29 => ?_)
         ·replace H:=ift h29 H
          refine z0b hN rfl ?_
          refine qd rfl ?_
          obtain ⟨h30,H⟩:=gif H
          refine z0a (y6y rfl h30) ?_
          refine qe rfl ?_
          exact ⟨(-(IntKind.wrap .i64 r15.1)),H,⟨rfl,trivial⟩,trivial⟩
         ·replace H:=iff_ h29 H
          refine z0l ?_
          exact ⟨IntKind.wrap .i64 r15.1,H,⟨rfl,trivial⟩,trivial⟩
        ·rintro v31 H
         replace H:z3q v31=some r:=H
         unfold z3q at H
         refine z0c ?_
         refine z0b hN rfl ?_
         refine qd rfl ?_
         refine qe rfl ?_
         refine qe rfl ?_
         refine z0q ?_
         cases H
         exact ⟨trivial,.inl rfl,.inl rfl,trivial⟩
theorem y0w (v1:Bs) (r:(Int×Int)) (H:z27 v1=some r):Fn Tryz.prog 106 [vstr v1] (z2f [vint r.1,verr r.2]):=by
 refine ⟨by kernel_rfl,z2a (us:=[vint r.1,verr r.2]) Tryz.func106 rfl rfl rfl rfl fun X hN => ?_⟩
 unfold z27 at H
 refine z0c ?_
 refine z0b hN rfl ?_
 refine qe rfl ?_
 refine qe rfl ?_
 refine z0c ?_
 refine z0b hN rfl ?_
 refine qd rfl ?_
 refine z0a (z1v tyU9 rfl) ?_
 refine qe rfl ?_
 refine z0c ?_
 refine z0c ?_
 refine z0b hN rfl ?_
 refine qd rfl ?_
 refine z4w (s := .dat (vint (v1.length:Int))) rfl rfl (fun hc=>z0h (.dat _) rfl) ?_
 refine z4w (s := .dat (z02 (decide (0 < (v1.length:Int))))) rfl rfl (fun hc=>z1i rfl (cnd (c:=false) (s := .dat (vint (v1.length:Int))) hc)) ?_
 refine z4w (s := .dat (z02 (decide (0 < (v1.length:Int))))) rfl rfl (fun hc=>z0h (.dat _) (cnd (c:=false) (s := .dat (z02 (decide (0 < (v1.length:Int))))) hc)) ?_
 refine z5w (s := .dat (vint (v1.length:Int))) (c:=false) (b:=decide (0 < (v1.length:Int))) rfl rfl (fun hc=>z0h (.dat _) rfl) ?_
 refine z5w (s := .dat (z02 (decide ((v1.length:Int) < 10)))) (c:=false) (b:=decide (0 < (v1.length:Int))) rfl rfl (fun hc=>z1i (cnd (c:=(false && (decide (0 < (v1.length:Int))))) (s := .dat (vint (v1.length:Int))) hc) rfl) ?_
 refine z4w (s := .dat (z02 ((decide (0 < (v1.length:Int))) && (decide ((v1.length:Int) < 10))))) rfl rfl (fun hc=>z1w (cnd (c:=false) (s := .dat (z02 (decide (0 < (v1.length:Int))))) hc) (fun hb=>(cnd (c:=(false && (decide (0 < (v1.length:Int))))) (s := .dat (z02 (decide ((v1.length:Int) < 10)))) (andI hc hb))) rfl) ?_
 refine z0a (z1w rfl (fun hb=>(cnd (c:=false) (s := .dat (z02 ((decide (0 < (v1.length:Int))) && (decide ((v1.length:Int) < 10))))) hb)) rfl) ?_
 refine qd rfl ?_
 refine z43 (s := .dat (z02 true)) rfl rfl (fun hc=>z0h (.dat _) rfl) ?_
 refine z5w (s := .dat (vint (v1.length:Int))) (c:=(!(false && ((decide (0 < (v1.length:Int))) && (decide ((v1.length:Int) < 10)))))) (b:=true) rfl rfl (fun hc=>z0h (.dat _) rfl) ?_
 refine z5w (s := .dat (z02 (decide (0 < (v1.length:Int))))) (c:=(!(false && ((decide (0 < (v1.length:Int))) && (decide ((v1.length:Int) < 10)))))) (b:=true) rfl rfl (fun hc=>z1i rfl (cnd (c:=((!(false && ((decide (0 < (v1.length:Int))) && (decide ((v1.length:Int) < 10))))) && true)) (s := .dat (vint (v1.length:Int))) hc)) ?_
 refine z5w (s := .dat (z02 (decide (0 < (v1.length:Int))))) (c:=(!(false && ((decide (0 < (v1.length:Int))) && (decide ((v1.length:Int) < 10)))))) (b:=true) rfl rfl (fun hc=>z0h (.dat _) (cnd (c:=((!(false && ((decide (0 < (v1.length:Int))) && (decide ((v1.length:Int) < 10))))) && true)) (s := .dat (z02 (decide (0 < (v1.length:Int))))) hc)) ?_
 refine z5w (s := .dat (vint (v1.length:Int))) (c:=((!(false && ((decide (0 < (v1.length:Int))) && (decide ((v1.length:Int) < 10))))) && true)) (b:=decide (0 < (v1.length:Int))) rfl rfl (fun hc=>z0h (.dat _) rfl) ?_
 refine z5w (s := .dat (z02 (decide ((v1.length:Int) < 19)))) (c:=((!(false && ((decide (0 < (v1.length:Int))) && (decide ((v1.length:Int) < 10))))) && true)) (b:=decide (0 < (v1.length:Int))) rfl rfl (fun hc=>z1i (cnd (c:=(((!(false && ((decide (0 < (v1.length:Int))) && (decide ((v1.length:Int) < 10))))) && true) && (decide (0 < (v1.length:Int))))) (s := .dat (vint (v1.length:Int))) hc) rfl) ?_
 refine z5w (s := .dat (z02 ((decide (0 < (v1.length:Int))) && (decide ((v1.length:Int) < 19))))) (c:=(!(false && ((decide (0 < (v1.length:Int))) && (decide ((v1.length:Int) < 10)))))) (b:=true) rfl rfl (fun hc=>z1w (cnd (c:=((!(false && ((decide (0 < (v1.length:Int))) && (decide ((v1.length:Int) < 10))))) && true)) (s := .dat (z02 (decide (0 < (v1.length:Int))))) hc) (fun hb=>(cnd (c:=(((!(false && ((decide (0 < (v1.length:Int))) && (decide ((v1.length:Int) < 10))))) && true) && (decide (0 < (v1.length:Int))))) (s := .dat (z02 (decide ((v1.length:Int) < 19)))) (andI hc hb))) rfl) ?_
 refine z43 (s := .dat (z02 (true && ((decide (0 < (v1.length:Int))) && (decide ((v1.length:Int) < 19)))))) rfl rfl (fun hc=>z1w (cnd (c:=(!(false && ((decide (0 < (v1.length:Int))) && (decide ((v1.length:Int) < 10)))))) (s := .dat (z02 true)) hc) (fun hb=>(cnd (c:=((!(false && ((decide (0 < (v1.length:Int))) && (decide ((v1.length:Int) < 10))))) && true)) (s := .dat (z02 ((decide (0 < (v1.length:Int))) && (decide ((v1.length:Int) < 19))))) (andI hc hb))) rfl) ?_
 refine z0a (z4q rfl rfl (fun hb=>(cnd (c:=(!(false && ((decide (0 < (v1.length:Int))) && (decide ((v1.length:Int) < 10)))))) (s := .dat (z02 (true && ((decide (0 < (v1.length:Int))) && (decide ((v1.length:Int) < 19)))))) (notI hb)))) ?_
 refine z0i _ rfl (fun h2 => ?_) (fun h2 => ?_)
 ·replace H:=ift h2 H
  refine z0c ?_
  refine z0b hN rfl ?_
  refine qd rfl ?_
  refine qe rfl ?_
  refine z0z (ι:=Bs) (fun i=>[(0,.dat (vstr i)),(5,.dat (vstr v1))]) (fun i=>[]) (fun i=>z2t v1 i=some r) (fun i=>rfl) ?_ ?_
  ·skip
   refine z0z (ι:=Bool) (fun i=>[(0,.dat (vstr v1)),(5,.dat (vstr v1)),(39,.dat (z02 i))]) (fun i=>[]) (fun i=>z2s v1 i=some r) (fun i=>rfl) ?_ ?_
   ·skip
    refine z0b hN rfl ?_
    refine qd rfl ?_
    obtain ⟨x3,h4,H⟩:=bnd H
    refine z0a (z7s tyU9 rfl rfl h4) ?_
    refine z0a (z10 rfl rfl) ?_
    refine qd rfl ?_
    refine z04 (j:=3) rfl rfl (fun h5 => ?_) (fun h5 => ?_) rfl
    ·have h6:=un3 h5
     replace H:=iff_ h6 H
     refine z0m rfl rfl h5 (z0h (.dat _) rfl) ?_
     refine z0m rfl rfl h5 (z7s tyU9 rfl rfl h4) ?_
     refine z0m rfl rfl h5 (z10 rfl rfl) ?_
     refine z0a (z0o rfl (bFF h6) rfl) ?_
     exact ⟨decide ((x3.toNat:Int)=43),H,⟨rfl,rfl,rfl,trivial⟩,trivial⟩
    ·have h7:=un4 h5
     replace H:=ift h7 H
     refine z0e rfl rfl h5 ?_
     refine z0e rfl rfl h5 ?_
     refine z0e rfl rfl h5 ?_
     refine z0a (z0t rfl (bTT h7) rfl) ?_
     exact ⟨true,H,⟨rfl,rfl,rfl,trivial⟩,trivial⟩
   ·rintro v8 H
    replace H:z2s v1 v8=some r:=H
    unfold z2s at H
    refine z0i _ rfl (fun h9 => ?_) (fun h9 => ?_)
    ·replace H:=ift h9 H
     refine z0c ?_
     refine z0b hN rfl ?_
     refine qd rfl ?_
     obtain ⟨l10,h11,H⟩:=bnd H
     refine z0a (z9b tyU9 rfl rfl rfl h11) ?_
     refine qe rfl ?_
     refine z0c ?_
     refine z0b hN rfl ?_
     refine qd rfl ?_
     refine z0a (z1v tyU9 rfl) ?_
     refine z0a (z1i rfl rfl) ?_
     refine z0i _ rfl (fun h12 => ?_) (fun h12 => ?_)
     ·replace H:=ift h12 H
      refine z0c ?_
      refine z0b hN rfl ?_
      refine z0a (z1e (u':=verr 2) (z6d (show Tryz.prog.underlying 142=some (.int .i64) from by kernel_rfl) rfl) rfl) ?_
      refine qe rfl ?_
      refine qe rfl ?_
      refine z0q ?_
      cases H
      exact ⟨trivial,.inl rfl,.inl rfl,trivial⟩
     ·replace H:=iff_ h12 H
      refine z0l ?_
      exact ⟨l10,H,⟨rfl,rfl,trivial⟩,trivial⟩
    ·replace H:=iff_ h9 H
     refine z0l ?_
     exact ⟨v1,H,⟨rfl,rfl,trivial⟩,trivial⟩
  ·rintro v13 H
   replace H:z2t v1 v13=some r:=H
   unfold z2t at H
   refine z0c ?_
   refine z0b hN rfl ?_
   refine qe rfl ?_
   refine z0c ?_
   refine z0c ?_
   refine z0b hN rfl ?_
   refine qd rfl ?_
   refine z0a (y3g (C:=z7w) tyU9 y81 tyU5 (fun _=>rfl) rfl) ?_
   refine z0a (z6g y81 rfl) ?_
   refine qd rfl ?_
   refine z01 ?_
   obtain ⟨h17,H⟩:=gif H
   refine z64 (fun (k15:Nat) (s:Int)=>[(5,.dat (vstr v1)),(6,.dat (vint s)),(47,.dat (vlst (List.map z7w (z94 v13)))),(48,.dat (vint ((z94 v13).length:Int))),(49,.dat (vint (k15:Int)))]) (fun (k15:Nat) (s:Int)=>[]) 0 H ⟨rfl,rfl,rfl,rfl,rfl,trivial⟩ trivial (fun _ _=>rfl) ?_ ?_
   ·rintro v14 H
    replace H:z2u v1 v14=some r:=H
    unfold z2u at H
    refine z0c ?_
    refine z0b hN rfl ?_
    refine z0a (z1i rfl rfl) ?_
    refine z0c ?_
    refine z0i _ rfl (fun h=>(lt_t h).elim) (fun h => ?_)
    refine z34 ?_
    refine z0z (ι:=Int) (fun i=>[(6,.dat (vint i))]) (fun i=>[]) (fun i=>z2r i=some r) (fun i=>rfl) ?_ ?_
    ·skip
     refine z0c ?_
     refine z0b hN rfl ?_
     refine qd rfl ?_
     obtain ⟨x19,h20,H⟩:=bnd H
     refine z0a (z7s tyU9 rfl rfl h20) ?_
     refine z0a (z10 rfl rfl) ?_
     refine z0i _ rfl (fun h21 => ?_) (fun h21 => ?_)
     ·replace H:=ift h21 H
      refine z0b hN rfl ?_
      refine qd rfl ?_
      obtain ⟨h22,H⟩:=gif H
      refine z0a (y6y rfl h22) ?_
      refine qe rfl ?_
      exact ⟨(-v14),H,⟨rfl,trivial⟩,trivial⟩
     ·replace H:=iff_ h21 H
      refine z0l ?_
      exact ⟨v14,H,⟨rfl,trivial⟩,trivial⟩
    ·rintro v23 H
     replace H:z2r v23=some r:=H
     unfold z2r at H
     refine z0c ?_
     refine z0b hN rfl ?_
     refine qd rfl ?_
     refine qe rfl ?_
     refine qe rfl ?_
     refine z0q ?_
     cases H
     exact ⟨trivial,.inl rfl,.inl rfl,trivial⟩
   ·rintro k15 x18 v14 q16 h24 h25 H hq16
    replace H:z3u k15 x18 v14=some q16:=H
    unfold z3u at H
    refine z0c ?_
    refine z0b hN rfl ?_
    refine z0a (z1i rfl rfl) ?_
    refine z0c ?_
    refine z0i _ rfl (fun h => ?_) (fun h=>(lt_f h24 h).elim)
    refine z0l ?_
    refine z0c ?_
    refine z01 ?_
    refine z0c ?_
    refine z0b hN rfl ?_
    refine z0a (z93 x6o (fun _=>rfl) rfl rfl h25) ?_
    refine z0a (z1b tyS5 rfl (z5q h25) rfl) ?_
    refine qe rfl ?_
    refine z0c ?_
    refine z0b hN rfl ?_
    refine qd rfl ?_
    refine z0a (z1l _ rfl rfl (.inr (.inl ⟨rfl,rfl⟩))) ?_
    refine qe rfl ?_
    refine z0c ?_
    refine z0c ?_
    refine z0b hN rfl ?_
    refine qd rfl ?_
    refine z0a (z4y rfl rfl) ?_
    refine z0i _ rfl (fun h26 => ?_) (fun h26 => ?_)
    ·replace H:=ift h26 H
     refine z0c ?_
     refine z0b hN rfl ?_
     refine z0a (z1e (u':=verr 2) (z6d (show Tryz.prog.underlying 142=some (.int .i64) from by kernel_rfl) rfl) rfl) ?_
     refine qe rfl ?_
     refine qe rfl ?_
     refine z0q ?_
     replace H:=retl H hq16
     cases H
     exact ⟨trivial,.inl rfl,.inl rfl,trivial⟩
    ·replace H:=iff_ h26 H
     refine z0l ?_
     refine z0b hN rfl ?_
     refine qd rfl ?_
     refine z0a (z1l _ rfl rfl (.inr (.inr ⟨rfl,rfl⟩))) ?_
     refine qd rfl ?_
     refine z0a (z7o tyU5 tyU3 rfl) ?_
     refine z0a (z1l _ rfl rfl (.inl ⟨rfl,rfl⟩)) ?_
     refine qe rfl ?_
     refine z0b hN rfl ?_
     refine z0a (z6q rfl rfl (by omega)) ?_
     refine qd rfl ?_
     exact ⟨_,z9j H,⟨rfl,rfl,rfl,rfl,rfl,trivial⟩,trivial⟩
 ·replace H:=iff_ h2 H
  refine z0l ?_
  refine z0c ?_
  refine z0b hN rfl ?_
  refine qd rfl ?_
  obtain ⟨r27,h28,H⟩:=bnd H
  refine z0a (z0s (z9y v1 10 0 r27 h28) ⟨.inl rfl,.inl rfl,.inl rfl,trivial⟩) ?_
  refine qd rfl ?_
  refine z0a (z2d rfl rfl) ?_
  refine z0a (z2d rfl rfl) ?_
  refine qe rfl ?_
  refine qe rfl ?_
  refine z0c ?_
  refine z0b hN rfl ?_
  refine qd rfl ?_
  refine qd rfl ?_
  refine qe rfl ?_
  refine qe rfl ?_
  refine z0q ?_
  cases H
  exact ⟨trivial,.inl rfl,.inl rfl,trivial⟩
theorem y2i (fn s:Bs) (base bits e r:Int) (H:y0e fn s base bits e=some r):Fn Tryz.prog 107 [vstr fn,vstr s,vint base,vint bits,verr e] (z2f [verr r]):=by
 obtain ⟨⟨h1,h2,h3⟩,h4⟩:=gif H
 cases h4
 refine z8b (by kernel_rfl) fun M w vs hM h => ?_
 rcases h3 with rfl | rfl
 ·have hv:=z92 (us:=[.string ⟨fn.toArray⟩,.string ⟨s.toArray⟩,.int .i64 base,.int .i64 bits,.iface 142 (.int .i64 2)]) h
  subst hv
  obtain ⟨tp,p,hc⟩:=y35 hM
  refine (Tryz.strconv_toError_syntax ⟨fn.toArray⟩ ⟨s.toArray⟩ base bits (.iface tp p) w (by simp [ByteArray.size]; omega) hc (.inr ⟨tp,p,rfl⟩)).mono ?_
  rintro e w' ⟨N,rfl,_,_,hb⟩
  exact ⟨_,rfl,⟨_,_,rfl⟩,Kp.of_below hb⟩
 ·have hv:=z92 (us:=[.string ⟨fn.toArray⟩,.string ⟨s.toArray⟩,.int .i64 base,.int .i64 bits,.iface 142 (.int .i64 1)]) h
  subst hv
  obtain ⟨tp,p,hc⟩:=y5p hM
  refine (Tryz.strconv_toError_range ⟨fn.toArray⟩ ⟨s.toArray⟩ base bits (.iface tp p) w (by simp [ByteArray.size]; omega) hc (.inr ⟨tp,p,rfl⟩)).mono ?_
  rintro e w' ⟨N,rfl,_,_,hb⟩
  exact ⟨_,rfl,⟨_,_,rfl⟩,Kp.of_below hb⟩
theorem y1k (s1:Bs) (r:(Int×Int)) (H:z5a s1=some r):Fn Tryz.prog 86 [vstr s1] (z2f [vint r.1,verr r.2]):=by
 refine ⟨by kernel_rfl,z2a (us:=[vint r.1,verr r.2]) Tryz.func86 rfl rfl rfl rfl fun X hN => ?_⟩
 unfold z5a at H
 refine z0c ?_
 refine z0b hN rfl ?_
 refine qe rfl ?_
 refine qe rfl ?_
 refine z0c ?_
 refine z0b hN rfl ?_
 refine qd rfl ?_
 obtain ⟨r2,h3,H⟩:=bnd H
 refine z0a (z0s (y0w s1 r2 h3) ⟨.inl rfl,trivial⟩) ?_
 refine qd rfl ?_
 refine z0a (z2d rfl rfl) ?_
 refine z0a (z2d rfl rfl) ?_
 refine qe rfl ?_
 refine qe rfl ?_
 refine z0c ?_
 refine z0c ?_
 refine z0b hN rfl ?_
 refine qd rfl ?_
 refine z0a (y39 (n:=r2.2) (show Tryz.prog.underlying 82=some (.interface (Tryz.prog.methodsAt 82)) from by kernel_rfl) rfl) ?_
 refine z0i _ rfl (fun h4 => ?_) (fun h4 => ?_)
 ·replace H:=ift h4 H
  refine z0c ?_
  refine z0b hN rfl ?_
  refine qd rfl ?_
  refine qd rfl ?_
  refine qd rfl ?_
  obtain ⟨r5,h6,H⟩:=bnd H
  refine z0a (z0s (y2i [65,116,111,105] s1 0 0 r2.2 r5 h6) ⟨.inl rfl,.inl rfl,.inl rfl,.inl rfl,.inl rfl,trivial⟩) ?_
  refine qe rfl ?_
  refine qe rfl ?_
  refine z0q ?_
  cases H
  exact ⟨trivial,.inl rfl,.inl rfl,trivial⟩
 ·replace H:=iff_ h4 H
  refine z0l ?_
  refine z0c ?_
  refine z0b hN rfl ?_
  refine qd rfl ?_
  refine qe rfl ?_
  refine qe rfl ?_
  refine z0q ?_
  cases H
  exact ⟨trivial,.inl rfl,.inl rfl,trivial⟩
theorem y2q (s1:Bs) (most2:Int) (r:(Int×Bool)) (H:z6x s1 most2=some r):Fn Tryz.prog 58 [vstr s1,vint most2] (z2f [vint r.1,z02 r.2]):=by
 refine ⟨by kernel_rfl,z2a (us:=[vint r.1,z02 r.2]) Tryz.func58 rfl rfl rfl rfl fun X hN => ?_⟩
 unfold z6x at H
 refine z0c ?_
 refine z0b hN rfl ?_
 refine qe rfl ?_
 refine qe rfl ?_
 refine z0c ?_
 refine z0b hN rfl ?_
 refine qd rfl ?_
 obtain ⟨r3,h4,H⟩:=bnd H
 refine z0a (z0s (z9c s1 [45] r3 h4) ⟨.inl rfl,.inl rfl,trivial⟩) ?_
 refine qe rfl ?_
 refine z0c ?_
 refine z0z (ι:=Bool) (fun i=>[(0,.dat (vstr s1)),(6,.dat (vstr r3)),(28,.dat (z02 i))]) (fun i=>[]) (fun i=>z3p s1 r3 i=some r) (fun i=>rfl) ?_ ?_
 ·skip
  refine z0b hN rfl ?_
  refine qd rfl ?_
  refine z0a (z56 rfl rfl) ?_
  refine qd rfl ?_
  refine z04 (j:=2) rfl rfl (fun h5 => ?_) (fun h5 => ?_) rfl
  ·have h6:=un3 h5
   replace H:=iff_ h6 H
   refine z0m rfl rfl h5 (z0h (.dat _) rfl) ?_
   refine z0m rfl rfl h5 (z1v tyU9 rfl) ?_
   refine z0m rfl rfl h5 (z0h (.dat _) rfl) ?_
   refine z0m rfl rfl h5 (z4y rfl rfl) ?_
   refine z0a (z0o rfl (bFF h6) rfl) ?_
   refine qd rfl ?_
   refine z04 (j:=8) rfl rfl (fun h7 => ?_) (fun h7 => ?_) rfl
   ·have h8:=un3 h7
    replace H:=iff_ h8 H
    refine z0m rfl rfl h7 (z0h (.dat _) rfl) ?_
    obtain ⟨x9,h10,H⟩:=bnd H
    refine z0m rfl rfl h7 (z7s tyU9 rfl rfl h10) ?_
    refine z0m rfl rfl h7 (z10 rfl rfl) ?_
    refine z0m rfl rfl h7 (z0h (.dat _) rfl) ?_
    refine z04 (j:=12) rfl rfl (fun h11 => ?_) (fun h11 => ?_) rfl
    ·have h12:=un1 h11
     replace H:=ift h12 H
     refine z0m rfl rfl h11 (z0h (.dat _) rfl) ?_
     refine z0m rfl rfl h11 (z7d rfl rfl) ?_
     refine z0m rfl rfl h7 (z0t rfl (bTT h12) rfl) ?_
     refine z0a (z0o rfl (bFF h8) rfl) ?_
     exact ⟨decide (s1≠[48]),H,⟨rfl,rfl,rfl,trivial⟩,trivial⟩
    ·have h13:=un2 h11
     replace H:=iff_ h13 H
     refine z0e rfl rfl h11 ?_
     refine z0e rfl rfl h11 ?_
     refine z0m rfl rfl h7 (z0o rfl (bFF h13) rfl) ?_
     refine z0a (z0o rfl (bFF h8) rfl) ?_
     exact ⟨false,H,⟨rfl,rfl,rfl,trivial⟩,trivial⟩
   ·have h14:=un4 h7
    replace H:=ift h14 H
    refine z0e rfl rfl h7 ?_
    refine z0e rfl rfl h7 ?_
    refine z0e rfl rfl h7 ?_
    refine z0e rfl rfl h7 ?_
    refine z00 rfl rfl ?_
    refine z00 rfl rfl ?_
    refine z0e rfl rfl h7 ?_
    refine z0a (z0t rfl (bTT h14) rfl) ?_
    exact ⟨true,H,⟨rfl,rfl,rfl,trivial⟩,trivial⟩
  ·have h15:=un4 h5
   replace H:=ift h15 H
   refine z0e rfl rfl h5 ?_
   refine z0e rfl rfl h5 ?_
   refine z0e rfl rfl h5 ?_
   refine z0e rfl rfl h5 ?_
   refine z0a (z0t rfl (bTT h15) rfl) ?_
   refine qd rfl ?_
   refine z0e rfl rfl rfl ?_
   refine z0e rfl rfl rfl ?_
   refine z0e rfl rfl rfl ?_
   refine z0e rfl rfl rfl ?_
   refine z00 rfl rfl ?_
   refine z00 rfl rfl ?_
   refine z0e rfl rfl rfl ?_
   refine z0a (z0t rfl rfl rfl) ?_
   exact ⟨true,H,⟨rfl,rfl,rfl,trivial⟩,trivial⟩
 ·rintro v16 H
  replace H:z3p s1 r3 v16=some r:=H
  unfold z3p at H
  refine z0i _ rfl (fun h17 => ?_) (fun h17 => ?_)
  ·replace H:=ift h17 H
   refine z0c ?_
   refine z0b hN rfl ?_
   refine qe rfl ?_
   refine qe rfl ?_
   refine z0q ?_
   cases H
   exact ⟨trivial,.inl rfl,.inl rfl,trivial⟩
  ·replace H:=iff_ h17 H
   refine z0l ?_
   refine z0c ?_
   refine z0c ?_
   refine z0b hN rfl ?_
   refine qe rfl ?_
   refine z01 ?_
   obtain ⟨h20,H⟩:=gif H
   refine z64 (fun (i18:Nat) (s:Unit)=>[(0,.dat (vstr s1)),(6,.dat (vstr r3)),(7,.dat (vint (i18:Int)))]) (fun (i18:Nat) (s:Unit)=>[]) () H ⟨rfl,rfl,rfl,trivial⟩ trivial (fun _ _=>rfl) ?_ ?_
   ·rintro ⟨⟩ H
    replace H:z7q s1=some r:=H
    unfold z7q at H
    refine z0c ?_
    refine z0c ?_
    refine z0b hN rfl ?_
    refine qd rfl ?_
    refine qd rfl ?_
    refine z0a (z1v tyU9 rfl) ?_
    refine z0a (z1i rfl rfl) ?_
    refine z0i _ rfl (fun h=>(lt_t h).elim) (fun h => ?_)
    refine z34 ?_
    refine z0c ?_
    refine z0b hN rfl ?_
    refine qd rfl ?_
    obtain ⟨r22,h23,H⟩:=bnd H
    refine z0a (z0s (y1k s1 r22 h23) ⟨.inl rfl,trivial⟩) ?_
    refine qd rfl ?_
    refine z0a (z2d rfl rfl) ?_
    refine z0a (z2d rfl rfl) ?_
    refine qe rfl ?_
    refine qe rfl ?_
    refine z0c ?_
    refine z5v mixed hN rfl rfl ?_
    refine qd rfl ?_
    refine qd rfl ?_
    refine z0a (y4a (n:=r22.2) (show Tryz.prog.underlying 82=some (.interface (Tryz.prog.methodsAt 82)) from by kernel_rfl) rfl) ?_
    refine qe rfl ?_
    refine qe rfl ?_
    refine ⟨rfl,?_⟩
    refine z0q ?_
    cases H
    exact ⟨trivial,.inl rfl,.inl rfl,trivial⟩
   ·rintro i18 x21 ⟨⟩ q19 h24 h25 H hq19
    replace H:z8j i18 x21=some q19:=H
    unfold z8j at H
    refine z0c ?_
    refine z0c ?_
    refine z0b hN rfl ?_
    refine qd rfl ?_
    refine qd rfl ?_
    refine z0a (z1v tyU9 rfl) ?_
    refine z0a (z1i rfl rfl) ?_
    refine z0i _ rfl (fun h => ?_) (fun h=>(lt_f h24 h).elim)
    refine z0l ?_
    refine z0c ?_
    refine z01 ?_
    refine z0z (ι:=Bool) (fun i=>[(0,.dat (vstr s1)),(6,.dat (vstr r3)),(7,.dat (vint (i18:Int))),(44,.dat (z02 i))]) (fun i=>[]) (fun i=>z8k i=some q19) (fun i=>rfl) ?_ ?_
    ·skip
     refine z0b hN rfl ?_
     refine qd rfl ?_
     refine qd rfl ?_
     refine z0a (z7s tyU9 rfl rfl h25) ?_
     refine z0a (z1i rfl rfl) ?_
     refine qd rfl ?_
     refine z04 (j:=4) rfl rfl (fun h26 => ?_) (fun h26 => ?_) rfl
     ·have h27:=un3 h26
      replace H:=iff_ h27 H
      refine z0m rfl rfl h26 (z0h (.dat _) rfl) ?_
      refine z0m rfl rfl h26 (z0h (.dat _) rfl) ?_
      refine z0m rfl rfl h26 (z7s tyU9 rfl rfl h25) ?_
      refine z0m rfl rfl h26 (z4y rfl rfl) ?_
      refine z0a (z0o rfl (bFF h27) rfl) ?_
      exact ⟨decide (57 < (x21.toNat:Int)),H,⟨rfl,rfl,rfl,rfl,trivial⟩,trivial⟩
     ·have h28:=un4 h26
      replace H:=ift h28 H
      refine z0e rfl rfl h26 ?_
      refine z0e rfl rfl h26 ?_
      refine z0e rfl rfl h26 ?_
      refine z0e rfl rfl h26 ?_
      refine z0a (z0t rfl (bTT h28) rfl) ?_
      exact ⟨true,H,⟨rfl,rfl,rfl,rfl,trivial⟩,trivial⟩
    ·rintro v29 H
     replace H:z8k v29=some q19:=H
     unfold z8k at H
     refine z0i _ rfl (fun h30 => ?_) (fun h30 => ?_)
     ·replace H:=ift h30 H
      refine z0c ?_
      refine z0b hN rfl ?_
      refine qe rfl ?_
      refine qe rfl ?_
      refine z0q ?_
      replace H:=retl H hq19
      cases H
      exact ⟨trivial,.inl rfl,.inl rfl,trivial⟩
     ·replace H:=iff_ h30 H
      refine z0l ?_
      refine z0b hN rfl ?_
      refine qd rfl ?_
      refine z0a (z6q rfl rfl (by omega)) ?_
      refine qe rfl ?_
      exact ⟨_,z9j H,⟨rfl,rfl,rfl,trivial⟩,trivial⟩
theorem z98 (s1:z0g) (r:(Int×Int×z0g)) (H:z1r s1=some r):Imp Tryz.prog 29 55 (z16 s1) [] (z2f [vint r.1,vint r.2.1]) (z16 r.2.2):=by
 refine z81 (us:=[vint r.1,vint r.2.1]) (cs':=(z16 r.2.2)) (by kernel_rfl) Tryz.func29 rfl rfl rfl rfl fun X bl hN => ?_
 unfold z1r at H
 refine z0c ?_
 refine z0b hN rfl ?_
 refine qe rfl ?_
 refine qe rfl ?_
 refine z0c ?_
 refine z0b hN rfl ?_
 refine z0a (z0h (.ptr _ _) rfl) ?_
 obtain ⟨r2,h3,H⟩:=bnd H
 refine z0k (z1k (z5c s1 [116,105,109,101] true r2 h3) rfl ⟨.inl rfl,.inl rfl,trivial⟩ rfl) rfl ?_
 refine qe rfl ?_
 refine z0c ?_
 refine z0c ?_
 refine z0b hN rfl ?_
 refine z0a (z0h (.ptr _ _) rfl) ?_
 refine z0a (z1q rfl) ?_
 refine z0a (z0n y03 rfl) ?_
 refine z0u (z0r tyS4 rfl rfl) rfl ?_
 refine z0i _ rfl (fun h4 => ?_) (fun h4 => ?_)
 ·replace H:=ift h4 H
  refine z0c ?_
  refine z0b hN rfl ?_
  refine qe rfl ?_
  refine qe rfl ?_
  refine z0q ?_
  cases H
  exact ⟨trivial,⟨.inl rfl,.inl rfl,trivial⟩,rfl⟩
 ·replace H:=iff_ h4 H
  refine z0l ?_
  refine z0z (ι:=Unit) (fun i=>[(0,.ptr 0 0)]) (fun i=>[(0,.box (some bl) 55 [.dat (vlst (List.map z0j r2.2.lines_)),.dat (z02 r2.2.ended_),.dat (vint r2.2.at_),.dat (z02 r2.2.bad_)])]) (fun i=>z19 r2=some r) (fun i=>rfl) ?_ ?_
  ·skip
   refine z0c ?_
   refine z0b hN rfl ?_
   refine qd rfl ?_
   refine z0a (z6g z6n rfl) ?_
   refine z0a (z10 rfl rfl) ?_
   refine z0i _ rfl (fun h5 => ?_) (fun h5 => ?_)
   ·replace H:=ift h5 H
    refine z0c ?_
    refine z0b hN rfl ?_
    refine qd rfl ?_
    obtain ⟨x6,h7,H⟩:=bnd H
    refine z0a (z93 z7t (fun _=>rfl) rfl rfl h7) ?_
    refine z0a (z1b tyS9 rfl (z5q h7) rfl) ?_
    obtain ⟨r8,h9,H⟩:=bnd H
    refine z0a (z0s (y2q x6 15 r8 h9) ⟨.inl rfl,.inl rfl,trivial⟩) ?_
    refine qd rfl ?_
    refine z0a (z2d rfl rfl) ?_
    refine z0a (z2d rfl rfl) ?_
    refine qe rfl ?_
    refine qe rfl ?_
    refine z0c ?_
    refine z0b hN rfl ?_
    refine qd rfl ?_
    obtain ⟨x10,h11,H⟩:=bnd H
    refine z0a (z93 z7t (fun _=>rfl) rfl rfl h11) ?_
    refine z0a (z1b tyS9 rfl (z5q h11) rfl) ?_
    obtain ⟨r12,h13,H⟩:=bnd H
    refine z0a (z0s (y2q x10 15 r12 h13) ⟨.inl rfl,.inl rfl,trivial⟩) ?_
    refine qd rfl ?_
    refine z0a (z2d rfl rfl) ?_
    refine z0a (z2d rfl rfl) ?_
    refine qe rfl ?_
    refine qe rfl ?_
    refine z0c ?_
    refine z0b hN rfl ?_
    refine qd rfl ?_
    refine qd rfl ?_
    refine z4w rfl rfl (fun hc=>z0h (.dat _) rfl) ?_
    refine z0a (z1w rfl (fun hb=>(cnd (c:=r8.2) hb)) rfl) ?_
    refine z0i _ rfl (fun h14 => ?_) (fun h14 => ?_)
    ·replace H:=ift h14 H
     refine z0c ?_
     refine z0b hN rfl ?_
     refine qd rfl ?_
     refine qd rfl ?_
     refine qe rfl ?_
     refine qe rfl ?_
     refine z0q ?_
     cases H
     exact ⟨trivial,⟨.inl rfl,.inl rfl,trivial⟩,rfl⟩
    ·replace H:=iff_ h14 H
     refine z0l ?_
     exact ⟨(),H,⟨rfl,trivial⟩,⟨rfl,trivial⟩⟩
   ·replace H:=iff_ h5 H
    refine z0l ?_
    exact ⟨(),H,⟨rfl,trivial⟩,⟨rfl,trivial⟩⟩
  ·rintro ⟨⟩ H
   replace H:z19 r2=some r:=H
   unfold z19 at H
   refine z0c ?_
   refine z0b hN rfl ?_
   refine z0a (z0h (.ptr _ _) rfl) ?_
   refine z0a (z1q rfl) ?_
   refine z0a (z0n y03 rfl) ?_
   refine z0k (z1g tyS4 rfl rfl rfl rfl) rfl ?_
   refine z0c ?_
   refine z0b hN rfl ?_
   refine z0a (z0h (.ptr _ _) rfl) ?_
   refine z0a (z1q rfl) ?_
   refine z0a (z0n z9m rfl) ?_
   refine z0u (z0r tyS3 rfl rfl) rfl ?_
   refine z0a (z1l _ rfl rfl (.inr (.inl ⟨rfl,rfl⟩))) ?_
   refine z0a (z1q rfl) ?_
   refine z0a (z0n z9m rfl) ?_
   refine z0k (z1g tyS3 rfl rfl rfl rfl) rfl ?_
   refine z0c ?_
   refine z0b hN rfl ?_
   refine qe rfl ?_
   refine qe rfl ?_
   refine z0q ?_
   cases H
   exact ⟨trivial,⟨.inl rfl,.inl rfl,trivial⟩,rfl⟩
end Go.Proofs.YtihjlkocfeoelaaGreatDoor
