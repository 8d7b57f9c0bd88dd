/- Walks along the models. Printed by a program. -/
import Derived.Test.YticadaaoggpenaaGreatDoorZdw3
namespace Go.Proofs.YticadaaoggpenaaGreatDoor
open Go.RowKit
set_option linter.unusedVariables false
set_option maxRecDepth 20000
set_option maxHeartbeats 2000000
theorem y55 (v1:z0g) (v2:(List z0t)) (v3:(List z0e)) (r:(Int)) (H:z66 v1 v2 v3=some r):Fn Tryz.prog 26 [vagg (z1d v1),vlst (List.map z1l v2),vlst (List.map z0w v3)] (z1x [vint r]):=by
 refine ⟨by kernel_rfl,z1k (us:=[vint r]) Tryz.func26 rfl rfl rfl rfl fun X hN => ?_⟩
 unfold z66 at H
 refine z0c ?_
 refine z0b hN rfl ?_
 refine z0f (z2h 1 rfl) rfl ?_
 refine qe rfl ?_
 refine z0c ?_
 refine z0c ?_
 refine z0b hN rfl ?_
 refine z0j (z04 z5d rfl rfl rfl) rfl ?_
 refine qd rfl ?_
 obtain ⟨r4,h5,H⟩:=bnd H
 refine z0a (z0x (x0b v1 v2 r4 h5) ⟨.inl rfl,.inl rfl,trivial⟩) ?_
 refine qe rfl ?_
 refine z0c ?_
 refine z0b hN rfl ?_
 refine qd rfl ?_
 refine z0a (z6i rfl rfl) ?_
 refine z0i _ rfl (fun h6 => ?_) (fun h6 => ?_)
 ·replace H:=ift h6 H
  refine z0c ?_
  refine z0b hN rfl ?_
  refine qd rfl ?_
  refine qe rfl ?_
  refine z0r ?_
  cases H
  exact ⟨trivial,.inl rfl,trivial⟩
 ·replace H:=iff_ h6 H
  refine z0s ?_
  refine z0c ?_
  refine z0c ?_
  refine z0b hN rfl ?_
  refine qd rfl ?_
  refine z0a (z43 y75 rfl) ?_
  refine z0a (z5n rfl rfl) ?_
  refine z0i _ rfl (fun h7 => ?_) (fun h7 => ?_)
  ·replace H:=ift h7 H
   refine z0c ?_
   refine z0b hN rfl ?_
   refine qe rfl ?_
   refine z0r ?_
   cases H
   exact ⟨trivial,.inl rfl,trivial⟩
  ·replace H:=iff_ h7 H
   refine z0s ?_
   refine z0c ?_
   refine z0c ?_
   refine z0b hN rfl ?_
   refine qd rfl ?_
   refine z0a (z43 y75 rfl) ?_
   refine qd rfl ?_
   refine z0y ?_
   obtain ⟨h10,H⟩:=gif H
   refine z3u (fun (k8:Nat) (s:Unit)=>[(1,.dat (vlst (List.map z1l v2))),(2,.dat (vlst (List.map z0w v3))),(3,.ptr 1 0),(21,.dat (vlst (List.map z0w v3))),(22,.dat (vint (v3.length:Int))),(23,.dat (vint (k8:Int)))]) (fun (k8:Nat) (s:Unit)=>[(1,.box none 29 [.dat (vlst (List.map z0u v1.Products)),.dat (vlst (List.map z0z v1.Plans))])]) () H ⟨rfl,rfl,rfl,rfl,rfl,rfl,trivial⟩ ⟨rfl,trivial⟩ (fun _ _=>rfl) ?_ ?_
   ·rintro ⟨⟩ H
    replace H:y05=some r:=H
    unfold y05 at H
    refine z0c ?_
    refine z0b hN rfl ?_
    refine z0a (z05 rfl rfl) ?_
    refine z0c ?_
    refine z0i _ rfl (fun h=>(lt_t h).elim) (fun h => ?_)
    refine z1v ?_
    refine z0c ?_
    refine z0b hN rfl ?_
    refine qe rfl ?_
    refine z0r ?_
    cases H
    exact ⟨trivial,.inl rfl,trivial⟩
   ·rintro k8 x11 ⟨⟩ q9 h12 h13 H hq9
    replace H:z6u v1 v2 v3 k8 x11=some q9:=H
    unfold z6u at H
    refine z0c ?_
    refine z0b hN rfl ?_
    refine z0a (z05 rfl rfl) ?_
    refine z0c ?_
    refine z0i _ rfl (fun h => ?_) (fun h=>(lt_f h12 h).elim)
    refine z0s ?_
    refine z0c ?_
    refine z0y ?_
    refine z0c ?_
    refine z0b hN rfl ?_
    refine qd rfl ?_
    refine z0a (y1g y4a (fun _=>rfl) rfl rfl h13) ?_
    refine z0a (z2s y1o rfl (z29 h13) rfl) ?_
    refine z0f (z1h 2 x1r rfl) rfl ?_
    refine qe rfl ?_
    refine z0f (z02 y1o rfl rfl rfl rfl) rfl ?_
    refine z0c ?_
    refine z0b hN rfl ?_
    refine z0j (z04 z5d rfl rfl rfl) rfl ?_
    refine z0a (z0p y27 rfl) ?_
    refine z0j (z0n tyS9 rfl rfl) rfl ?_
    obtain ⟨r14,h15,H⟩:=bnd H
    refine z0a (z0x (y11 v1 x11.Plan r14 h15) ⟨.inl rfl,.inl rfl,trivial⟩) ?_
    refine qe rfl ?_
    refine z0c ?_
    refine z0b hN rfl ?_
    refine z0a (z0p z84 rfl) ?_
    refine z0j (z0n tyS3 rfl rfl) rfl ?_
    refine z0a (z12 rfl rfl) ?_
    refine qe rfl ?_
    refine z0y ?_
    refine z0c ?_
    refine z0b hN rfl ?_
    refine z0a (z0p y0e rfl) ?_
    refine z0j (z0n tyS3 rfl rfl) rfl ?_
    obtain ⟨r16,h17,H⟩:=bnd H
    refine z0a (z0x (y5d x11.At r16 h17) ⟨.inl rfl,trivial⟩) ?_
    refine z0a (z3r rfl) ?_
    refine qe rfl ?_
    refine z0i _ rfl (fun h18 => ?_) (fun h18 => ?_)
    ·replace H:=ift h18 H
     refine z0c ?_
     refine z0b hN rfl ?_
     refine qe rfl ?_
     refine z0r ?_
     replace H:=retl H hq9
     cases H
     exact ⟨trivial,.inl rfl,trivial⟩
    ·replace H:=iff_ h18 H
     refine z1a (ι:=Bool) (fun i=>[(1,.dat (vlst (List.map z1l v2))),(2,.dat (vlst (List.map z0w v3))),(3,.ptr 1 0),(8,.dat (vint (k8:Int))),(9,.ptr 2 0),(10,.dat (vint r14)),(11,.dat (z1e (decide (x11.Kind=1)))),(21,.dat (vlst (List.map z0w v3))),(22,.dat (vint (v3.length:Int))),(23,.dat (vint (k8:Int))),(40,.dat (z1e i))]) (fun i=>[(1,.box none 29 [.dat (vlst (List.map z0u v1.Products)),.dat (vlst (List.map z0z v1.Plans))]),(2,.box none 99 [.dat (vint x11.At),.dat (vstr x11.App),.dat (vstr x11.Product),.dat (vint x11.Kind),.dat (vstr x11.Plan)])]) (fun i=>z5k v1 v3 k8 x11 r14 i=some q9) (fun i=>rfl) ?_ ?_
     ·skip
      refine z0b hN rfl ?_
      refine qd rfl ?_
      refine z0a (z0p y2r rfl) ?_
      refine z0j (z0n tyS9 rfl rfl) rfl ?_
      obtain ⟨r19,h20,H⟩:=bnd H
      refine z0a (z0x (y3x v2 x11.App r19 h20) ⟨.inl rfl,.inl rfl,trivial⟩) ?_
      refine z0a (z05 rfl rfl) ?_
      refine qd rfl ?_
      refine z19 (j:=5) rfl rfl (fun h21 => ?_) (fun h21 => ?_) rfl
      ·have h22:=un3 h21
       replace H:=iff_ h22 H
       refine z7k rfl rfl h21 (z04 z5d rfl rfl rfl) rfl ?_
       refine z03 rfl rfl h21 (z0p y13 rfl) ?_
       refine z7k rfl rfl h21 (z0n tyS9 rfl rfl) rfl ?_
       obtain ⟨r23,h24,H⟩:=bnd H
       refine z03 rfl rfl h21 (z0x (y2a v1 x11.Product r23 h24) ⟨.inl rfl,.inl rfl,trivial⟩) ?_
       refine z03 rfl rfl h21 (z05 rfl rfl) ?_
       refine z0a (z1b rfl (bFF h22) rfl) ?_
       refine qe rfl ?_
       exact ⟨decide (r23 < 0),H,⟨rfl,rfl,rfl,rfl,rfl,rfl,rfl,rfl,rfl,rfl,rfl,trivial⟩,⟨rfl,rfl,trivial⟩⟩
      ·have h25:=un4 h21
       replace H:=ift h25 H
       refine z0l rfl rfl h21 ?_
       refine z0l rfl rfl h21 ?_
       refine z0l rfl rfl h21 ?_
       refine z0l rfl rfl h21 ?_
       refine z0l rfl rfl h21 ?_
       refine z0a (z1p rfl (bTT h25) rfl) ?_
       refine qe rfl ?_
       exact ⟨true,H,⟨rfl,rfl,rfl,rfl,rfl,rfl,rfl,rfl,rfl,rfl,rfl,trivial⟩,⟨rfl,rfl,trivial⟩⟩
     ·rintro v26 H
      replace H:z5k v1 v3 k8 x11 r14 v26=some q9:=H
      unfold z5k at H
      refine z0i _ rfl (fun h27 => ?_) (fun h27 => ?_)
      ·replace H:=ift h27 H
       refine z0c ?_
       refine z0b hN rfl ?_
       refine qe rfl ?_
       refine z0r ?_
       replace H:=retl H hq9
       cases H
       exact ⟨trivial,.inl rfl,trivial⟩
      ·replace H:=iff_ h27 H
       refine z0c ?_
       refine z0b hN rfl ?_
       refine z0a (z0p z84 rfl) ?_
       refine z0j (z0n tyS3 rfl rfl) rfl ?_
       obtain ⟨r28,h29,H⟩:=bnd H
       refine z0a (z0x (z7o x11.Kind 1 6 r28 h29) ⟨.inl rfl,.inl rfl,.inl rfl,trivial⟩) ?_
       refine z0a (z3r rfl) ?_
       refine qe rfl ?_
       refine z0i _ rfl (fun h30 => ?_) (fun h30 => ?_)
       ·replace H:=ift h30 H
        refine z0c ?_
        refine z0b hN rfl ?_
        refine qe rfl ?_
        refine z0r ?_
        replace H:=retl H hq9
        cases H
        exact ⟨trivial,.inl rfl,trivial⟩
       ·replace H:=iff_ h30 H
        refine z0c ?_
        refine z0b hN rfl ?_
        refine qd rfl ?_
        refine z0a (z3r rfl) ?_
        refine qd rfl ?_
        refine z4w rfl rfl (fun hc=>z0p y27 rfl) ?_
        refine y3v rfl rfl (fun hc=>z0n tyS9 (cnd (c:=(!(decide (x11.Kind=1)))) hc) rfl) rfl y3q ?_
        refine z4w rfl rfl (fun hc=>y1m (cnd (c:=(!(decide (x11.Kind=1)))) hc) rfl) ?_
        refine z0a (z2z rfl (fun hb=>(cnd (c:=(!(decide (x11.Kind=1)))) hb)) rfl) ?_
        refine qe rfl ?_
        refine z0i _ rfl (fun h31 => ?_) (fun h31 => ?_)
        ·replace H:=ift h31 H
         refine z0c ?_
         refine z0b hN rfl ?_
         refine qe rfl ?_
         refine z0r ?_
         replace H:=retl H hq9
         cases H
         exact ⟨trivial,.inl rfl,trivial⟩
        ·replace H:=iff_ h31 H
         refine z0c ?_
         refine z0b hN rfl ?_
         refine qd rfl ?_
         refine qd rfl ?_
         refine z4w rfl rfl (fun hc=>z0k (.dat _) rfl) ?_
         refine z4w rfl rfl (fun hc=>z05 (cnd (c:=(decide (x11.Kind=1))) hc) rfl) ?_
         refine z0a (z2z rfl (fun hb=>(cnd (c:=(decide (x11.Kind=1))) hb)) rfl) ?_
         refine qe rfl ?_
         refine z0i _ rfl (fun h32 => ?_) (fun h32 => ?_)
         ·replace H:=ift h32 H
          refine z0c ?_
          refine z0b hN rfl ?_
          refine qe rfl ?_
          refine z0r ?_
          replace H:=retl H hq9
          cases H
          exact ⟨trivial,.inl rfl,trivial⟩
         ·replace H:=iff_ h32 H
          refine z1a (ι:=Bool) (fun i=>[(1,.dat (vlst (List.map z1l v2))),(2,.dat (vlst (List.map z0w v3))),(3,.ptr 1 0),(8,.dat (vint (k8:Int))),(9,.ptr 2 0),(21,.dat (vlst (List.map z0w v3))),(22,.dat (vint (v3.length:Int))),(23,.dat (vint (k8:Int))),(72,.dat (z1e i))]) (fun i=>[(1,.box none 29 [.dat (vlst (List.map z0u v1.Products)),.dat (vlst (List.map z0z v1.Plans))]),(2,.box none 99 [.dat (vint x11.At),.dat (vstr x11.App),.dat (vstr x11.Product),.dat (vint x11.Kind),.dat (vstr x11.Plan)])]) (fun i=>z4n v3 k8 x11 i=some q9) (fun i=>rfl) ?_ ?_
          ·skip
           refine z3q mixed hN rfl rfl ?_
           refine qd rfl ?_
           refine qd rfl ?_
           refine z19 (j:=1) rfl rfl (fun h33 => ?_) (fun h33 => ?_) rfl
           ·have h34:=un1 h33
            replace H:=ift h34 H
            refine z03 rfl rfl h33 (z0p z9n rfl) ?_
            refine z7k rfl rfl h33 (z0n y4q rfl rfl) rfl ?_
            refine z03 rfl rfl h33 (z0k (.dat _) rfl) ?_
            obtain ⟨x35,h36,H⟩:=bnd H
            refine z03 rfl rfl h33 (y1l y8u (fun _=>rfl) rfl rfl h36) ?_
            refine z03 rfl rfl h33 (y0c y6o rfl) ?_
            refine z03 rfl rfl h33 (z1q tyS9 rfl (z29 (z2m h36).2) rfl) ?_
            refine z03 rfl rfl h33 (z0p y13 rfl) ?_
            refine z7k rfl rfl h33 (z0n tyS9 rfl rfl) rfl ?_
            refine z03 rfl rfl h33 (y1m rfl rfl) ?_
            refine z0a (z1p rfl (bTT h34) rfl) ?_
            refine qe rfl ?_
            refine ⟨rfl,?_⟩
            exact ⟨decide (x35.Product≠x11.Product),H,⟨rfl,rfl,rfl,rfl,rfl,rfl,rfl,rfl,rfl,trivial⟩,⟨rfl,rfl,trivial⟩⟩
           ·have h37:=un2 h33
            replace H:=iff_ h37 H
            refine z0l rfl rfl h33 ?_
            refine z0l rfl rfl h33 ?_
            refine z0l rfl rfl h33 ?_
            refine z0l rfl rfl h33 ?_
            refine z0l rfl rfl h33 ?_
            refine z0l rfl rfl h33 ?_
            refine z0l rfl rfl h33 ?_
            refine z0l rfl rfl h33 ?_
            refine z0l rfl rfl h33 ?_
            refine z0a (z1b rfl (bFF h37) rfl) ?_
            refine qe rfl ?_
            refine ⟨rfl,?_⟩
            exact ⟨false,H,⟨rfl,rfl,rfl,rfl,rfl,rfl,rfl,rfl,rfl,trivial⟩,⟨rfl,rfl,trivial⟩⟩
          ·rintro v38 H
           replace H:z4n v3 k8 x11 v38=some q9:=H
           unfold z4n at H
           refine z0i _ rfl (fun h39 => ?_) (fun h39 => ?_)
           ·replace H:=ift h39 H
            refine z0c ?_
            refine z0b hN rfl ?_
            refine qe rfl ?_
            refine z0r ?_
            replace H:=retl H hq9
            cases H
            exact ⟨trivial,.inl rfl,trivial⟩
           ·replace H:=iff_ h39 H
            refine z1a (ι:=Bool) (fun i=>[(1,.dat (vlst (List.map z1l v2))),(2,.dat (vlst (List.map z0w v3))),(3,.ptr 1 0),(21,.dat (vlst (List.map z0w v3))),(22,.dat (vint (v3.length:Int))),(23,.dat (vint (k8:Int))),(85,.dat (z1e i))]) (fun i=>[(1,.box none 29 [.dat (vlst (List.map z0u v1.Products)),.dat (vlst (List.map z0z v1.Plans))])]) (fun i=>z5j i=some q9) (fun i=>rfl) ?_ ?_
            ·skip
             refine z3q mixed hN rfl rfl ?_
             refine qd rfl ?_
             refine z0a (z5n rfl rfl) ?_
             refine qd rfl ?_
             refine z19 (j:=2) rfl rfl (fun h40 => ?_) (fun h40 => ?_) rfl
             ·have h41:=un1 h40
              replace H:=ift h41 H
              refine z03 rfl rfl h40 (z0k (.dat _) rfl) ?_
              refine z03 rfl rfl h40 (z0k (.dat _) rfl) ?_
              refine z03 rfl rfl h40 (y66 rfl rfl (by omega)) ?_
              obtain ⟨x42,h43,H⟩:=bnd H
              refine z03 rfl rfl h40 (y1l y4a (fun _=>rfl) rfl rfl h43) ?_
              refine z03 rfl rfl h40 (z2s y1o rfl (z29 (z2m h43).2) rfl) ?_
              refine z7k rfl rfl h40 (z04 y1o rfl rfl rfl) rfl ?_
              obtain ⟨r44,h45,H⟩:=bnd H
              refine z03 rfl rfl h40 (z0x (y1w x42 x11 r44 h45) ⟨.inl rfl,.inl rfl,trivial⟩) ?_
              refine z03 rfl rfl h40 (y5o rfl rfl) ?_
              refine z0a (z1p rfl (bTT h41) rfl) ?_
              refine qe rfl ?_
              refine ⟨rfl,?_⟩
              exact ⟨decide (0≤r44),H,⟨rfl,rfl,rfl,rfl,rfl,rfl,rfl,trivial⟩,⟨rfl,trivial⟩⟩
             ·have h46:=un2 h40
              replace H:=iff_ h46 H
              refine z0l rfl rfl h40 ?_
              refine z0l rfl rfl h40 ?_
              refine z0l rfl rfl h40 ?_
              refine z0l rfl rfl h40 ?_
              refine z0l rfl rfl h40 ?_
              refine z0l rfl rfl h40 ?_
              refine z0l rfl rfl h40 ?_
              refine z0l rfl rfl h40 ?_
              refine z0a (z1b rfl (bFF h46) rfl) ?_
              refine qe rfl ?_
              refine ⟨rfl,?_⟩
              exact ⟨false,H,⟨rfl,rfl,rfl,rfl,rfl,rfl,rfl,trivial⟩,⟨rfl,trivial⟩⟩
            ·rintro v47 H
             replace H:z5j v47=some q9:=H
             unfold z5j at H
             refine z0i _ rfl (fun h48 => ?_) (fun h48 => ?_)
             ·replace H:=ift h48 H
              refine z0c ?_
              refine z0b hN rfl ?_
              refine qe rfl ?_
              refine z0r ?_
              replace H:=retl H hq9
              cases H
              exact ⟨trivial,.inl rfl,trivial⟩
             ·replace H:=iff_ h48 H
              refine z0s ?_
              refine z0b hN rfl ?_
              refine z0a (z3v rfl rfl (by omega)) ?_
              refine qd rfl ?_
              exact ⟨_,z63 H,⟨rfl,rfl,rfl,rfl,rfl,rfl,trivial⟩,⟨rfl,trivial⟩⟩
theorem y8g (s1:z0d) (many2:Int) (r:(z0g×(List z0t)×(List z0e)×Int×z0d)) (H:y0p s1 many2=some r):Imp Tryz.prog 4 25 (z0v s1) [vint many2] (z1x [vagg (z1d r.1),vlst (List.map z1l r.2.1),vlst (List.map z0w r.2.2.1),vint r.2.2.2.1]) (z0v r.2.2.2.2):=by
 refine y3n (us:=[vagg (z1d r.1),vlst (List.map z1l r.2.1),vlst (List.map z0w r.2.2.1),vint r.2.2.2.1]) (cs':=(z0v r.2.2.2.2)) (by kernel_rfl) Tryz.func4 rfl rfl rfl rfl fun X bl hN => ?_
 unfold y0p at H
 refine z0c ?_
 refine z0b hN rfl ?_
 refine z0f (z1h 1 y59 rfl) rfl ?_
 refine qe rfl ?_
 refine qe rfl ?_
 refine qe rfl ?_
 refine z0c ?_
 refine z0b hN rfl ?_
 refine z0a (z0k (.ptr _ _) rfl) ?_
 obtain ⟨r3,h4,H⟩:=bnd H
 refine z0f (z1i (y44 s1 r3 h4) rfl trivial rfl) rfl ?_
 refine z0a (z0k (.ptr _ _) rfl) ?_
 obtain ⟨r5,h6,H⟩:=bnd H
 refine z0f (z1i (y56 r3.2 r5 h6) rfl trivial rfl) rfl ?_
 refine z0f (z1h 2 y59 rfl) rfl ?_
 refine z0f (z02 z5d rfl rfl rfl rfl) rfl ?_
 refine qe rfl ?_
 refine z0c ?_
 refine z0b hN rfl ?_
 refine z0a (z0k (.ptr _ _) rfl) ?_
 refine z0j (z04 z5d rfl rfl rfl) rfl ?_
 refine qd rfl ?_
 refine qd rfl ?_
 obtain ⟨r7,h8,H⟩:=bnd H
 refine z0f (z1i (y5f r5.2 r3.1 r5.1 many2 r7 h8) rfl ⟨.inl rfl,.inl rfl,.inl rfl,trivial⟩ rfl) rfl ?_
 refine qe rfl ?_
 refine z0c ?_
 refine z3q mixed hN rfl rfl ?_
 refine z0j (z04 z5d rfl rfl rfl) rfl ?_
 refine qd rfl ?_
 refine qd rfl ?_
 refine z0j (z04 z5d rfl rfl rfl) rfl ?_
 refine qd rfl ?_
 refine qd rfl ?_
 obtain ⟨r9,h10,H⟩:=bnd H
 refine z0a (z0x (y55 r3.1 r5.1 r7.1 r9 h10) ⟨.inl rfl,.inl rfl,.inl rfl,trivial⟩) ?_
 refine z0f (z02 z5d rfl rfl rfl rfl) rfl ?_
 refine qe rfl ?_
 refine qe rfl ?_
 refine qe rfl ?_
 refine ⟨rfl,?_⟩
 refine z0r ?_
 cases H
 exact ⟨trivial,⟨.inl ⟨_,_,_,z1d r3.1,rfl,rfl,rfl,rfl,z5d⟩,.inl rfl,.inl rfl,.inl rfl,trivial⟩,rfl⟩
theorem y3y (s1:z0d) (r:(Int×z0d)) (H:z4o s1=some r):Imp Tryz.prog 8 25 (z0v s1) [] (z1x [vint r.1]) (z0v r.2):=by
 refine y3n (us:=[vint r.1]) (cs':=(z0v r.2)) (by kernel_rfl) Tryz.func8 rfl rfl rfl rfl fun X bl hN => ?_
 unfold z4o at H
 refine z0c ?_
 refine z0b hN rfl ?_
 refine qe rfl ?_
 refine z0c ?_
 refine z0b hN rfl ?_
 refine z0a (z0k (.ptr _ _) rfl) ?_
 refine z0a (z06 (u':=vlst (List.map z3o [0,1,2,3])) (z1w [[_],[_],[_],[_]] y1x ⟨rfl,.inl ⟨_,rfl,rfl,rfl⟩,rfl,rfl,.inl ⟨_,rfl,rfl,rfl⟩,rfl,rfl,.inl ⟨_,rfl,rfl,rfl⟩,rfl,rfl,.inl ⟨_,rfl,rfl,rfl⟩,rfl,trivial⟩ rfl rfl) rfl) ?_
 obtain ⟨r2,h3,H⟩:=bnd H
 refine z0f (z1i (z07 s1 [0,1,2,3] r2 h3) rfl ⟨.inl rfl,trivial⟩ rfl) rfl ?_
 refine z0a (z1s _ rfl rfl (.inr (.inr ⟨rfl,rfl⟩))) ?_
 refine z0a (z0k (.ptr _ _) rfl) ?_
 refine z0a (z06 (u':=vlst (List.map z3o [0,0,1,14,15,29])) (z1w [[_],[_],[_],[_],[_],[_]] y1x ⟨rfl,.inl ⟨_,rfl,rfl,rfl⟩,rfl,rfl,.inl ⟨_,rfl,rfl,rfl⟩,rfl,rfl,.inl ⟨_,rfl,rfl,rfl⟩,rfl,rfl,.inl ⟨_,rfl,rfl,rfl⟩,rfl,rfl,.inl ⟨_,rfl,rfl,rfl⟩,rfl,rfl,.inl ⟨_,rfl,rfl,rfl⟩,rfl,trivial⟩ rfl rfl) rfl) ?_
 obtain ⟨r4,h5,H⟩:=bnd H
 refine z0f (z1i (z07 r2.2 [0,0,1,14,15,29] r4 h5) rfl ⟨.inl rfl,trivial⟩ rfl) rfl ?_
 refine z0a (z1s _ rfl rfl (.inr (.inr ⟨rfl,rfl⟩))) ?_
 refine z0a (z1s _ rfl rfl (.inl ⟨rfl,rfl⟩)) ?_
 refine z0a (z0k (.ptr _ _) rfl) ?_
 refine z0a (z06 (u':=vlst (List.map z3o [0,1,1000,(-1)])) (z1w [[_],[_],[_],[_]] y1x ⟨rfl,.inl ⟨_,rfl,rfl,rfl⟩,rfl,rfl,.inl ⟨_,rfl,rfl,rfl⟩,rfl,rfl,.inl ⟨_,rfl,rfl,rfl⟩,rfl,rfl,.inl ⟨_,rfl,rfl,rfl⟩,rfl,trivial⟩ rfl rfl) rfl) ?_
 obtain ⟨r6,h7,H⟩:=bnd H
 refine z0f (z1i (z07 r4.2 [0,1,1000,(-1)] r6 h7) rfl ⟨.inl rfl,trivial⟩ rfl) rfl ?_
 refine z0a (z1s _ rfl rfl (.inl ⟨rfl,rfl⟩)) ?_
 refine qe rfl ?_
 refine z0r ?_
 cases H
 exact ⟨trivial,⟨.inl rfl,trivial⟩,rfl⟩
theorem y4l (s1:Bs) (r:(Bool)) (H:y01 s1=some r):Fn Tryz.prog 99 [vstr s1] (z1x [z1e r]):=by
 refine ⟨by kernel_rfl,z1k (us:=[z1e r]) Tryz.func99 rfl rfl rfl rfl fun X hN => ?_⟩
 unfold y01 at H
 refine z0c ?_
 refine z0b hN rfl ?_
 refine qe rfl ?_
 refine z0c ?_
 refine z0c ?_
 refine z0b hN rfl ?_
 refine qe rfl ?_
 refine z0y ?_
 obtain ⟨h4,H⟩:=gif H
 refine z3u (fun (i2:Nat) (s:Unit)=>[(0,.dat (vstr s1)),(3,.dat (vint (i2:Int)))]) (fun (i2:Nat) (s:Unit)=>[]) () H ⟨rfl,rfl,trivial⟩ trivial (fun _ _=>rfl) ?_ ?_
 ·rintro ⟨⟩ H
  replace H:y6g s1=some r:=H
  unfold y6g at H
  refine z0c ?_
  refine z0c ?_
  refine z0b hN rfl ?_
  refine qd rfl ?_
  refine qd rfl ?_
  refine z0a (y4c tyU9 rfl) ?_
  refine z0a (z05 rfl rfl) ?_
  refine z0i _ rfl (fun h=>(lt_t h).elim) (fun h => ?_)
  refine z1v ?_
  refine z0c ?_
  refine z0b hN rfl ?_
  refine qd rfl ?_
  refine z0a (y1m rfl rfl) ?_
  refine qd rfl ?_
  refine z4w rfl rfl (fun hc=>z0k (.dat _) rfl) ?_
  refine z4w rfl rfl (fun hc=>y4c tyU9 (cnd (c:=(decide (s1≠[]))) hc)) ?_
  refine z4w rfl rfl (fun hc=>y3u (cnd (c:=(decide (s1≠[]))) hc) rfl) ?_
  refine z0a (z2z rfl (fun hb=>(cnd (c:=(decide (s1≠[]))) hb)) rfl) ?_
  refine qe rfl ?_
  refine z0r ?_
  cases H
  exact ⟨trivial,.inl rfl,trivial⟩
 ·rintro i2 x5 ⟨⟩ q3 h6 h7 H hq3
  replace H:y4v i2 x5=some q3:=H
  unfold y4v at H
  refine z0c ?_
  refine z0c ?_
  refine z0b hN rfl ?_
  refine qd rfl ?_
  refine qd rfl ?_
  refine z0a (y4c tyU9 rfl) ?_
  refine z0a (z05 rfl rfl) ?_
  refine z0i _ rfl (fun h => ?_) (fun h=>(lt_f h6 h).elim)
  refine z0s ?_
  refine z0c ?_
  refine z0y ?_
  refine z0c ?_
  refine z0b hN rfl ?_
  refine qd rfl ?_
  refine qd rfl ?_
  refine z0a (w4h tyU9 rfl rfl h7) ?_
  refine qe rfl ?_
  refine z0c ?_
  refine z0b hN rfl ?_
  refine qd rfl ?_
  refine z0a (y5o rfl rfl) ?_
  refine qd rfl ?_
  refine z4w rfl rfl (fun hc=>z0k (.dat _) rfl) ?_
  refine z4w rfl rfl (fun hc=>y3u (cnd (c:=(decide (97≤(x5.toNat:Int)))) hc) rfl) ?_
  refine z0a (z2z rfl (fun hb=>(cnd (c:=(decide (97≤(x5.toNat:Int)))) hb)) rfl) ?_
  refine qd rfl ?_
  refine y25 rfl rfl (fun hc=>z0k (.dat _) rfl) ?_
  refine y25 rfl rfl (fun hc=>z5n (cnd (c:=(!((decide (97≤(x5.toNat:Int))) && (decide ((x5.toNat:Int)≤122))))) hc) rfl) ?_
  refine y25 rfl rfl (fun hc=>z0k (.dat _) (cnd (c:=(!((decide (97≤(x5.toNat:Int))) && (decide ((x5.toNat:Int)≤122))))) hc)) ?_
  refine y4d rfl rfl (fun hc=>z0k (.dat _) rfl) ?_
  refine y4d rfl rfl (fun hc=>y5o (cnd (c:=((!((decide (97≤(x5.toNat:Int))) && (decide ((x5.toNat:Int)≤122)))) && (decide (0 < (i2:Int))))) hc) rfl) ?_
  refine y4d rfl rfl (fun hc=>z0k (.dat _) (cnd (c:=((!((decide (97≤(x5.toNat:Int))) && (decide ((x5.toNat:Int)≤122)))) && (decide (0 < (i2:Int))))) hc)) ?_
  refine y4d rfl rfl (fun hc=>z0k (.dat _) rfl) ?_
  refine y4d rfl rfl (fun hc=>y3u (cnd (c:=(((!((decide (97≤(x5.toNat:Int))) && (decide ((x5.toNat:Int)≤122)))) && (decide (0 < (i2:Int)))) && (decide (48≤(x5.toNat:Int))))) hc) rfl) ?_
  refine y4d rfl rfl (fun hc=>z2z (cnd (c:=((!((decide (97≤(x5.toNat:Int))) && (decide ((x5.toNat:Int)≤122)))) && (decide (0 < (i2:Int))))) hc) (fun hb=>(cnd (c:=(((!((decide (97≤(x5.toNat:Int))) && (decide ((x5.toNat:Int)≤122)))) && (decide (0 < (i2:Int)))) && (decide (48≤(x5.toNat:Int))))) (andI hc hb))) rfl) ?_
  refine y4d rfl rfl (fun hc=>z0k (.dat _) (cnd (c:=((!((decide (97≤(x5.toNat:Int))) && (decide ((x5.toNat:Int)≤122)))) && (decide (0 < (i2:Int))))) hc)) ?_
  refine y5a rfl rfl (fun hc=>z0k (.dat _) rfl) ?_
  refine y5a rfl rfl (fun hc=>z12 (cnd (c:=(((!((decide (97≤(x5.toNat:Int))) && (decide ((x5.toNat:Int)≤122)))) && (decide (0 < (i2:Int)))) && !((decide (48≤(x5.toNat:Int))) && (decide ((x5.toNat:Int)≤57))))) hc) rfl) ?_
  refine y4d rfl rfl (fun hc=>z8k (cnd (c:=((!((decide (97≤(x5.toNat:Int))) && (decide ((x5.toNat:Int)≤122)))) && (decide (0 < (i2:Int))))) hc) rfl (fun hb=>(cnd (c:=(((!((decide (97≤(x5.toNat:Int))) && (decide ((x5.toNat:Int)≤122)))) && (decide (0 < (i2:Int)))) && !((decide (48≤(x5.toNat:Int))) && (decide ((x5.toNat:Int)≤57))))) (andI hc (notI hb))))) ?_
  refine y4d rfl rfl (fun hc=>z0k (.dat _) (cnd (c:=((!((decide (97≤(x5.toNat:Int))) && (decide ((x5.toNat:Int)≤122)))) && (decide (0 < (i2:Int))))) hc)) ?_
  refine y5a rfl rfl (fun hc=>z0k (.dat _) rfl) ?_
  refine y5a rfl rfl (fun hc=>z12 (cnd (c:=(((!((decide (97≤(x5.toNat:Int))) && (decide ((x5.toNat:Int)≤122)))) && (decide (0 < (i2:Int)))) && !(((decide (48≤(x5.toNat:Int))) && (decide ((x5.toNat:Int)≤57))) || (decide ((x5.toNat:Int)=45))))) hc) rfl) ?_
  refine y4d rfl rfl (fun hc=>z8k (cnd (c:=((!((decide (97≤(x5.toNat:Int))) && (decide ((x5.toNat:Int)≤122)))) && (decide (0 < (i2:Int))))) hc) rfl (fun hb=>(cnd (c:=(((!((decide (97≤(x5.toNat:Int))) && (decide ((x5.toNat:Int)≤122)))) && (decide (0 < (i2:Int)))) && !(((decide (48≤(x5.toNat:Int))) && (decide ((x5.toNat:Int)≤57))) || (decide ((x5.toNat:Int)=45))))) (andI hc (notI hb))))) ?_
  refine y25 rfl rfl (fun hc=>z2z (cnd (c:=(!((decide (97≤(x5.toNat:Int))) && (decide ((x5.toNat:Int)≤122))))) hc) (fun hb=>(cnd (c:=((!((decide (97≤(x5.toNat:Int))) && (decide ((x5.toNat:Int)≤122)))) && (decide (0 < (i2:Int))))) (andI hc hb))) rfl) ?_
  refine z0a (z8k rfl rfl (fun hb=>(cnd (c:=(!((decide (97≤(x5.toNat:Int))) && (decide ((x5.toNat:Int)≤122))))) (notI hb)))) ?_
  refine z0a (z3r rfl) ?_
  refine z0i _ rfl (fun h8 => ?_) (fun h8 => ?_)
  ·replace H:=ift h8 H
   refine z0c ?_
   refine z0b hN rfl ?_
   refine qe rfl ?_
   refine z0r ?_
   replace H:=retl H hq3
   cases H
   exact ⟨trivial,.inl rfl,trivial⟩
  ·replace H:=iff_ h8 H
   refine z0s ?_
   refine z0b hN rfl ?_
   refine qd rfl ?_
   refine z0a (z3v rfl rfl (by omega)) ?_
   refine qe rfl ?_
   exact ⟨_,z63 H,⟨rfl,rfl,trivial⟩,trivial⟩
theorem y97 (s1:Bs) (r:(Bool)) (H:y1s s1=some r):Fn Tryz.prog 117 [vstr s1] (z1x [z1e r]):=by
 refine ⟨by kernel_rfl,z1k (us:=[z1e r]) Tryz.func117 rfl rfl rfl rfl fun X hN => ?_⟩
 unfold y1s at H
 refine z0c ?_
 refine z0b hN rfl ?_
 refine qe rfl ?_
 refine z0c ?_
 refine z0b hN rfl ?_
 refine qd rfl ?_
 obtain ⟨r2,h3,H⟩:=bnd H
 refine z0a (z0x (y6h s1 [58] r2 h3) ⟨.inl rfl,.inl rfl,trivial⟩) ?_
 refine qe rfl ?_
 refine z0c ?_
 refine z0c ?_
 refine z0b hN rfl ?_
 refine qd rfl ?_
 refine z0a (z43 y2p rfl) ?_
 refine qd rfl ?_
 refine z0y ?_
 obtain ⟨h6,H⟩:=gif H
 refine z3u (fun (k4:Nat) (s:Unit)=>[(3,.dat (vlst (List.map z00 r2))),(8,.dat (vlst (List.map z00 r2))),(9,.dat (vint (r2.length:Int))),(10,.dat (vint (k4:Int)))]) (fun (k4:Nat) (s:Unit)=>[]) () H ⟨rfl,rfl,rfl,rfl,trivial⟩ trivial (fun _ _=>rfl) ?_ ?_
 ·rintro ⟨⟩ H
  replace H:y3r r2=some r:=H
  unfold y3r at H
  refine z0c ?_
  refine z0b hN rfl ?_
  refine z0a (z05 rfl rfl) ?_
  refine z0c ?_
  refine z0i _ rfl (fun h=>(lt_t h).elim) (fun h => ?_)
  refine z1v ?_
  refine z0c ?_
  refine z0b hN rfl ?_
  refine qd rfl ?_
  refine z0a (z43 y2p rfl) ?_
  refine z0a (y3u rfl rfl) ?_
  refine qe rfl ?_
  refine z0r ?_
  cases H
  exact ⟨trivial,.inl rfl,trivial⟩
 ·rintro k4 x7 ⟨⟩ q5 h8 h9 H hq5
  replace H:y2h r2 k4 x7=some q5:=H
  unfold y2h at H
  refine z0c ?_
  refine z0b hN rfl ?_
  refine z0a (z05 rfl rfl) ?_
  refine z0c ?_
  refine z0i _ rfl (fun h => ?_) (fun h=>(lt_f h8 h).elim)
  refine z0s ?_
  refine z0c ?_
  refine z0y ?_
  refine z0c ?_
  refine z0b hN rfl ?_
  refine qd rfl ?_
  refine z0a (y1g y5z (fun _=>rfl) rfl rfl h9) ?_
  refine z0a (z1q tyS9 rfl (z29 h9) rfl) ?_
  refine qe rfl ?_
  refine qe rfl ?_
  refine z0c ?_
  refine z0b hN rfl ?_
  refine qd rfl ?_
  obtain ⟨r10,h11,H⟩:=bnd H
  refine z0a (z0x (y4l x7 r10 h11) ⟨.inl rfl,trivial⟩) ?_
  refine z0a (z3r rfl) ?_
  refine qd rfl ?_
  refine z4w rfl rfl (fun hc=>z0k (.dat _) rfl) ?_
  refine z4w rfl rfl (fun hc=>y33 (cnd (c:=(!r10)) hc) rfl) ?_
  refine z4w rfl rfl (fun hc=>z0k (.dat _) (cnd (c:=(!r10)) hc)) ?_
  refine y4d rfl rfl (fun hc=>z0k (.dat _) rfl) ?_
  refine y4d rfl rfl (fun hc=>z0k (.dat _) rfl) ?_
  refine y4d rfl rfl (fun hc=>z43 y2p (cnd (c:=((!r10) && (decide (x7=[42])))) hc)) ?_
  refine y4d rfl rfl (fun hc=>z1s _ (cnd (c:=((!r10) && (decide (x7=[42])))) hc) rfl (.inr (.inl ⟨rfl,rfl⟩))) ?_
  refine y4d rfl rfl (fun hc=>z12 (cnd (c:=((!r10) && (decide (x7=[42])))) hc) (cnd (c:=((!r10) && (decide (x7=[42])))) hc)) ?_
  refine z4w rfl rfl (fun hc=>z2z (cnd (c:=(!r10)) hc) (fun hb=>(cnd (c:=((!r10) && (decide (x7=[42])))) (andI hc hb))) rfl) ?_
  refine z4w rfl rfl (fun hc=>z3r (cnd (c:=(!r10)) hc)) ?_
  refine z0a (z2z rfl (fun hb=>(cnd (c:=(!r10)) hb)) rfl) ?_
  refine z0i _ rfl (fun h12 => ?_) (fun h12 => ?_)
  ·replace H:=ift h12 H
   refine z0c ?_
   refine z0b hN rfl ?_
   refine qe rfl ?_
   refine z0r ?_
   replace H:=retl H hq5
   cases H
   exact ⟨trivial,.inl rfl,trivial⟩
  ·replace H:=iff_ h12 H
   refine z0s ?_
   refine z0b hN rfl ?_
   refine z0a (z3v rfl rfl (by omega)) ?_
   refine qd rfl ?_
   exact ⟨_,z63 H,⟨rfl,rfl,rfl,rfl,trivial⟩,trivial⟩
theorem y4g (l1:(List Bs)) (r:(Int)) (H:z7d l1=some r):Fn Tryz.prog 74 [vlst (List.map z00 l1)] (z1x [vint r]):=by
 refine ⟨by kernel_rfl,z1k (us:=[vint r]) Tryz.func74 rfl rfl rfl rfl fun X hN => ?_⟩
 unfold z7d at H
 refine z0c ?_
 refine z0b hN rfl ?_
 refine qe rfl ?_
 refine z0c ?_
 refine z0c ?_
 refine z0b hN rfl ?_
 refine qd rfl ?_
 refine z0a (z43 y2p rfl) ?_
 refine z0a (z5n rfl rfl) ?_
 refine z0i _ rfl (fun h2 => ?_) (fun h2 => ?_)
 ·replace H:=ift h2 H
  refine z0c ?_
  refine z0b hN rfl ?_
  refine qe rfl ?_
  refine z0r ?_
  cases H
  exact ⟨trivial,.inl rfl,trivial⟩
 ·replace H:=iff_ h2 H
  refine z0s ?_
  refine z0c ?_
  refine z0c ?_
  refine z0b hN rfl ?_
  refine qd rfl ?_
  refine z0a (z43 y2p rfl) ?_
  refine qd rfl ?_
  refine z0y ?_
  obtain ⟨h5,H⟩:=gif H
  refine z3u (fun (k3:Nat) (s:Unit)=>[(8,.dat (vlst (List.map z00 l1))),(9,.dat (vint (l1.length:Int))),(10,.dat (vint (k3:Int)))]) (fun (k3:Nat) (s:Unit)=>[]) () H ⟨rfl,rfl,rfl,trivial⟩ trivial (fun _ _=>rfl) ?_ ?_
  ·rintro ⟨⟩ H
   replace H:y14=some r:=H
   unfold y14 at H
   refine z0c ?_
   refine z0b hN rfl ?_
   refine z0a (z05 rfl rfl) ?_
   refine z0c ?_
   refine z0i _ rfl (fun h=>(lt_t h).elim) (fun h => ?_)
   refine z1v ?_
   refine z0c ?_
   refine z0b hN rfl ?_
   refine qe rfl ?_
   refine z0r ?_
   cases H
   exact ⟨trivial,.inl rfl,trivial⟩
  ·rintro k3 x6 ⟨⟩ q4 h7 h8 H hq4
   replace H:y0b k3 x6=some q4:=H
   unfold y0b at H
   refine z0c ?_
   refine z0b hN rfl ?_
   refine z0a (z05 rfl rfl) ?_
   refine z0c ?_
   refine z0i _ rfl (fun h => ?_) (fun h=>(lt_f h7 h).elim)
   refine z0s ?_
   refine z0c ?_
   refine z0y ?_
   refine z0c ?_
   refine z0b hN rfl ?_
   refine z0a (y1g y5z (fun _=>rfl) rfl rfl h8) ?_
   refine z0a (z1q tyS9 rfl (z29 h8) rfl) ?_
   refine qe rfl ?_
   refine z0c ?_
   refine z0b hN rfl ?_
   refine qd rfl ?_
   obtain ⟨r9,h10,H⟩:=bnd H
   refine z0a (z0x (y97 x6 r9 h10) ⟨.inl rfl,trivial⟩) ?_
   refine z0a (z3r rfl) ?_
   refine z0i _ rfl (fun h11 => ?_) (fun h11 => ?_)
   ·replace H:=ift h11 H
    refine z0c ?_
    refine z0b hN rfl ?_
    refine qe rfl ?_
    refine z0r ?_
    replace H:=retl H hq4
    cases H
    exact ⟨trivial,.inl rfl,trivial⟩
   ·replace H:=iff_ h11 H
    refine z0s ?_
    refine z0b hN rfl ?_
    refine z0a (z3v rfl rfl (by omega)) ?_
    refine qd rfl ?_
    exact ⟨_,z63 H,⟨rfl,rfl,rfl,trivial⟩,trivial⟩
theorem y51 (l1:(List z0m)) (r:(Int)) (H:z64 l1=some r):Fn Tryz.prog 97 [vlst (List.map z0u l1)] (z1x [vint r]):=by
 refine ⟨by kernel_rfl,z1k (us:=[vint r]) Tryz.func97 rfl rfl rfl rfl fun X hN => ?_⟩
 unfold z64 at H
 refine z0c ?_
 refine z0b hN rfl ?_
 refine qe rfl ?_
 refine z0c ?_
 refine z0c ?_
 refine z0b hN rfl ?_
 refine qd rfl ?_
 refine z0a (z43 x3m rfl) ?_
 refine z0a (z5n rfl rfl) ?_
 refine z0i _ rfl (fun h2 => ?_) (fun h2 => ?_)
 ·replace H:=ift h2 H
  refine z0c ?_
  refine z0b hN rfl ?_
  refine qe rfl ?_
  refine z0r ?_
  cases H
  exact ⟨trivial,.inl rfl,trivial⟩
 ·replace H:=iff_ h2 H
  refine z0s ?_
  refine z0c ?_
  refine z0c ?_
  refine z0b hN rfl ?_
  refine qd rfl ?_
  refine z0a (z43 x3m rfl) ?_
  refine qd rfl ?_
  refine z0y ?_
  obtain ⟨h5,H⟩:=gif H
  refine z3u (fun (k3:Nat) (s:Unit)=>[(0,.dat (vlst (List.map z0u l1))),(9,.dat (vlst (List.map z0u l1))),(10,.dat (vint (l1.length:Int))),(11,.dat (vint (k3:Int)))]) (fun (k3:Nat) (s:Unit)=>[]) () H ⟨rfl,rfl,rfl,rfl,trivial⟩ trivial (fun _ _=>rfl) ?_ ?_
  ·rintro ⟨⟩ H
   replace H:y0z=some r:=H
   unfold y0z at H
   refine z0c ?_
   refine z0b hN rfl ?_
   refine z0a (z05 rfl rfl) ?_
   refine z0c ?_
   refine z0i _ rfl (fun h=>(lt_t h).elim) (fun h => ?_)
   refine z1v ?_
   refine z0c ?_
   refine z0b hN rfl ?_
   refine qe rfl ?_
   refine z0r ?_
   cases H
   exact ⟨trivial,.inl rfl,trivial⟩
  ·rintro k3 x6 ⟨⟩ q4 h7 h8 H hq4
   replace H:z8u l1 k3 x6=some q4:=H
   unfold z8u at H
   refine z0c ?_
   refine z0b hN rfl ?_
   refine z0a (z05 rfl rfl) ?_
   refine z0c ?_
   refine z0i _ rfl (fun h => ?_) (fun h=>(lt_f h7 h).elim)
   refine z0s ?_
   refine z0c ?_
   refine z0y ?_
   refine z0c ?_
   refine z0b hN rfl ?_
   refine qd rfl ?_
   refine z0a (y1g x3q (fun _=>rfl) rfl rfl h8) ?_
   refine z0a (z2s y9f rfl (z29 h8) rfl) ?_
   refine z0f (z1h 1 x0r rfl) rfl ?_
   refine qe rfl ?_
   refine z0f (z02 y9f rfl rfl rfl rfl) rfl ?_
   refine z0c ?_
   refine z0c ?_
   refine z0b hN rfl ?_
   refine z0a (z0p y4z rfl) ?_
   refine z0j (z0n tyS9 rfl rfl) rfl ?_
   obtain ⟨r9,h10,H⟩:=bnd H
   refine z0a (z0x (y4l x6.Key r9 h10) ⟨.inl rfl,trivial⟩) ?_
   refine z0a (z3r rfl) ?_
   refine z0i _ rfl (fun h11 => ?_) (fun h11 => ?_)
   ·replace H:=ift h11 H
    refine z0c ?_
    refine z0b hN rfl ?_
    refine qe rfl ?_
    refine z0r ?_
    replace H:=retl H hq4
    cases H
    exact ⟨trivial,.inl rfl,trivial⟩
   ·replace H:=iff_ h11 H
    refine z0s ?_
    refine z0c ?_
    refine z1a (ι:=Bool) (fun i=>[(0,.dat (vlst (List.map z0u l1))),(4,.ptr 1 0),(9,.dat (vlst (List.map z0u l1))),(10,.dat (vint (l1.length:Int))),(11,.dat (vint (k3:Int))),(32,.dat (z1e i))]) (fun i=>[(1,.box none 81 [.dat (vstr x6.Key),.dat (vlst (List.map z00 x6.Scopes))])]) (fun i=>z4i x6 i=some q4) (fun i=>rfl) ?_ ?_
    ·skip
     refine z3q mixed hN rfl rfl ?_
     refine qd rfl ?_
     refine z0a (z5n rfl rfl) ?_
     refine qd rfl ?_
     refine z19 (j:=2) rfl rfl (fun h12 => ?_) (fun h12 => ?_) rfl
     ·have h13:=un1 h12
      replace H:=ift h13 H
      refine z03 rfl rfl h12 (z0p y4z rfl) ?_
      refine z7k rfl rfl h12 (z0n tyS9 rfl rfl) rfl ?_
      refine z03 rfl rfl h12 (z0k (.dat _) rfl) ?_
      refine z03 rfl rfl h12 (z0k (.dat _) rfl) ?_
      refine z03 rfl rfl h12 (y66 rfl rfl (by omega)) ?_
      obtain ⟨x14,h15,H⟩:=bnd H
      refine z03 rfl rfl h12 (y1l x3q (fun _=>rfl) rfl rfl h15) ?_
      refine z03 rfl rfl h12 (y0c y4z rfl) ?_
      refine z03 rfl rfl h12 (z1q tyS9 rfl (z29 (z2m h15).2) rfl) ?_
      refine z03 rfl rfl h12 (y6p rfl rfl) ?_
      refine z0a (z1p rfl (bTT h13) rfl) ?_
      refine ⟨rfl,?_⟩
      exact ⟨(Op.bytesLess x6.Key x14.Key || x6.Key == x14.Key),H,⟨rfl,rfl,rfl,rfl,rfl,rfl,trivial⟩,⟨rfl,trivial⟩⟩
     ·have h16:=un2 h12
      replace H:=iff_ h16 H
      refine z0l rfl rfl h12 ?_
      refine z0l rfl rfl h12 ?_
      refine z0l rfl rfl h12 ?_
      refine z0l rfl rfl h12 ?_
      refine z0l rfl rfl h12 ?_
      refine z0l rfl rfl h12 ?_
      refine z0l rfl rfl h12 ?_
      refine z0l rfl rfl h12 ?_
      refine z0l rfl rfl h12 ?_
      refine z0a (z1b rfl (bFF h16) rfl) ?_
      refine ⟨rfl,?_⟩
      exact ⟨false,H,⟨rfl,rfl,rfl,rfl,rfl,rfl,trivial⟩,⟨rfl,trivial⟩⟩
    ·rintro v17 H
     replace H:z4i x6 v17=some q4:=H
     unfold z4i at H
     refine z0i _ rfl (fun h18 => ?_) (fun h18 => ?_)
     ·replace H:=ift h18 H
      refine z0c ?_
      refine z0b hN rfl ?_
      refine qe rfl ?_
      refine z0r ?_
      replace H:=retl H hq4
      cases H
      exact ⟨trivial,.inl rfl,trivial⟩
     ·replace H:=iff_ h18 H
      refine z0s ?_
      refine z0c ?_
      refine z0b hN rfl ?_
      refine z0a (z0p x1t rfl) ?_
      refine z0j (z0n x3o rfl rfl) rfl ?_
      obtain ⟨r19,h20,H⟩:=bnd H
      refine z0a (z0x (y4g x6.Scopes r19 h20) ⟨.inl rfl,trivial⟩) ?_
      refine qe rfl ?_
      refine z0c ?_
      refine z0b hN rfl ?_
      refine qd rfl ?_
      refine z0a (z6i rfl rfl) ?_
      refine z0i _ rfl (fun h21 => ?_) (fun h21 => ?_)
      ·replace H:=ift h21 H
       refine z0c ?_
       refine z0b hN rfl ?_
       refine qd rfl ?_
       refine qe rfl ?_
       refine z0r ?_
       replace H:=retl H hq4
       cases H
       exact ⟨trivial,.inl rfl,trivial⟩
      ·replace H:=iff_ h21 H
       refine z0s ?_
       refine z0b hN rfl ?_
       refine z0a (z3v rfl rfl (by omega)) ?_
       refine qd rfl ?_
       exact ⟨_,z63 H,⟨rfl,rfl,rfl,rfl,trivial⟩,trivial⟩
theorem z7f (x1:(List z0m)) (target2:Bs) (p2:z0m→Bs→Option (Int)) (fv2:Nat) (us2:List V) (hp2:∀ a0 a1 r,p2 a0 a1=some r→Fn Tryz.prog fv2 ([vagg (z0u a0),vstr a1]++us2) (z1x [vint r])) (r:(Int×Bool)) (H:z16 x1 target2 p2=some r):Fn Tryz.prog 101 [vlst (List.map z0u x1),vstr target2,vfn fv2 us2] (z1x [vint r.1,z1e r.2]):=by
 refine ⟨by kernel_rfl,z1k (us:=[vint r.1,z1e r.2]) Tryz.func101 rfl rfl rfl rfl fun X hN => ?_⟩
 unfold z16 at H
 refine z0c ?_
 refine z0b hN rfl ?_
 refine qe rfl ?_
 refine qe rfl ?_
 refine z0c ?_
 refine z0b hN rfl ?_
 refine qd rfl ?_
 refine z0a (z43 x3m rfl) ?_
 refine qe rfl ?_
 refine z0c ?_
 refine z0b hN rfl ?_
 refine qd rfl ?_
 refine qe rfl ?_
 refine qe rfl ?_
 refine z1a (ι:=Int) (fun i=>[(0,.dat (vlst (List.map z0u x1))),(1,.dat (vstr target2)),(2,.dat (vfn fv2 us2)),(8,.dat (vint (x1.length:Int))),(9,.dat (vint i))]) (fun i=>[]) (fun i=>z13 x1 target2 p2 i=some r) (fun i=>rfl) ?_ ?_
 ·skip
  refine z0y ?_
  refine y23 (fun (s:Int×Int)=>[(0,.dat (vlst (List.map z0u x1))),(1,.dat (vstr target2)),(2,.dat (vfn fv2 us2)),(8,.dat (vint (x1.length:Int))),(9,.dat (vint s.1)),(10,.dat (vint s.2))]) (fun (s:Int×Int)=>[]) (0,(x1.length:Int)) H ⟨rfl,rfl,rfl,rfl,rfl,rfl,trivial⟩ trivial (fun _=>rfl) ?_
  rintro ⟨i3,j4⟩ q5 H hq5
  replace H:z2p x1 target2 p2 i3 j4=some q5:=H
  unfold z2p at H
  refine z0c ?_
  refine z0c ?_
  refine z0b hN rfl ?_
  refine qd rfl ?_
  refine qd rfl ?_
  refine z0a (z05 rfl rfl) ?_
  refine z0i _ rfl (fun h6 => ?_) (fun h6 => ?_)
  ·replace H:=ift h6 H
   refine z0s ?_
   refine z0y ?_
   refine z0c ?_
   refine z0b hN rfl ?_
   refine qd rfl ?_
   refine qd rfl ?_
   refine z0a (z1s _ rfl rfl (.inl ⟨rfl,rfl⟩)) ?_
   refine z0a (y6q tyU3 x02 rfl) ?_
   refine z0a (z06 (x45 rfl rfl (by decide)) rfl) ?_
   refine z0a (y6q x02 tyU3 rfl) ?_
   refine qe rfl ?_
   refine z0c ?_
   refine z0b hN rfl ?_
   refine qd rfl ?_
   refine qd rfl ?_
   refine qd rfl ?_
   obtain ⟨x7,h8,H⟩:=bnd H
   refine z0a (y1l x3q (fun _=>rfl) rfl rfl h8) ?_
   refine z0a (z2s y9f rfl (z29 (z2m h8).2) rfl) ?_
   refine qd rfl ?_
   obtain ⟨r9,h10,H⟩:=bnd H
   refine z0a (z9v (hp2 x7 target2 r9 h10) rfl ⟨.inl rfl,.inl rfl,trivial⟩) ?_
   refine z0a (z05 rfl rfl) ?_
   refine z0i _ rfl (fun h11 => ?_) (fun h11 => ?_)
   ·replace H:=ift h11 H
    refine z0b hN rfl ?_
    refine qd rfl ?_
    refine z0a (z1s _ rfl rfl (.inl ⟨rfl,rfl⟩)) ?_
    refine qe rfl ?_
    exact ⟨_,z63 H,⟨rfl,rfl,rfl,rfl,rfl,rfl,trivial⟩,trivial⟩
   ·replace H:=iff_ h11 H
    refine z0b hN rfl ?_
    refine qd rfl ?_
    refine qe rfl ?_
    exact ⟨_,z63 H,⟨rfl,rfl,rfl,rfl,rfl,rfl,trivial⟩,trivial⟩
  ·replace H:=iff_ h6 H
   refine z1v ?_
   replace H:=outl H hq5
   exact ⟨i3,H,⟨rfl,rfl,rfl,rfl,rfl,trivial⟩,trivial⟩
 ·rintro i12 H
  replace H:z13 x1 target2 p2 i12=some r:=H
  unfold z13 at H
  refine z1a (ι:=Bool) (fun i=>[(6,.dat (vint i12)),(7,.dat (z1e i))]) (fun i=>[]) (fun i=>z1m i12 i=some r) (fun i=>rfl) ?_ ?_
  ·skip
   refine z0b hN rfl ?_
   refine qd rfl ?_
   refine qd rfl ?_
   refine qd rfl ?_
   refine z0a (z05 rfl rfl) ?_
   refine qd rfl ?_
   refine z19 (j:=4) rfl rfl (fun h13 => ?_) (fun h13 => ?_) rfl
   ·have h14:=un1 h13
    replace H:=ift h14 H
    refine z03 rfl rfl h13 (z0k (.dat _) rfl) ?_
    refine z03 rfl rfl h13 (z0k (.dat _) rfl) ?_
    refine z03 rfl rfl h13 (z0k (.dat _) rfl) ?_
    obtain ⟨x15,h16,H⟩:=bnd H
    refine z03 rfl rfl h13 (y1l x3q (fun _=>rfl) rfl rfl h16) ?_
    refine z03 rfl rfl h13 (z2s y9f rfl (z29 (z2m h16).2) rfl) ?_
    refine z03 rfl rfl h13 (z0k (.dat _) rfl) ?_
    obtain ⟨r17,h18,H⟩:=bnd H
    refine z03 rfl rfl h13 (z9v (hp2 x15 target2 r17 h18) rfl ⟨.inl rfl,.inl rfl,trivial⟩) ?_
    refine z03 rfl rfl h13 (z12 rfl rfl) ?_
    refine z0a (z1p rfl (bTT h14) rfl) ?_
    refine qe rfl ?_
    refine qe rfl ?_
    exact ⟨decide (r17=0),H,⟨rfl,rfl,trivial⟩,trivial⟩
   ·have h19:=un2 h13
    replace H:=iff_ h19 H
    refine z0l rfl rfl h13 ?_
    refine z0l rfl rfl h13 ?_
    refine z0l rfl rfl h13 ?_
    refine z0l rfl rfl h13 ?_
    refine z0l rfl rfl h13 ?_
    refine z0l rfl rfl h13 ?_
    refine z0l rfl rfl h13 ?_
    refine z0l rfl rfl h13 ?_
    refine z0a (z1b rfl (bFF h19) rfl) ?_
    refine qe rfl ?_
    refine qe rfl ?_
    exact ⟨false,H,⟨rfl,rfl,trivial⟩,trivial⟩
  ·rintro v20 H
   replace H:z1m i12 v20=some r:=H
   unfold z1m at H
   refine z0r ?_
   cases H
   exact ⟨trivial,.inl rfl,.inl rfl,trivial⟩
theorem y0r (a b:Bs) (r:Int) (H:z5g a b=some r):Fn Tryz.prog 73 [vstr a,vstr b] (z1x [vint r]):=by
 cases H
 refine y4o (by kernel_rfl) fun M w vs h => ?_
 have h1:=y8j (us:=[.string ⟨a.toArray⟩,.string ⟨b.toArray⟩]) h
 subst h1
 refine (Tryz.strings_Compare ⟨a.toArray⟩ ⟨b.toArray⟩ w).mono ?_
 rintro e w' ⟨rfl,rfl⟩
 exact ⟨_,rfl,rfl,Kp.refl _ _⟩
theorem y6y (p1:z0m) (k2:Bs) (r:(Int)) (H:z6y p1 k2=some r):Fn Tryz.prog 102 [vagg (z0u p1),vstr k2] (z1x [vint r]):=by
 refine ⟨by kernel_rfl,z1k (us:=[vint r]) Tryz.func102 rfl rfl rfl rfl fun X hN => ?_⟩
 unfold z6y at H
 refine z0c ?_
 refine z0b hN rfl ?_
 refine z0f (z2h 1 rfl) rfl ?_
 refine qe rfl ?_
 refine z0c ?_
 refine z0b hN rfl ?_
 refine z0a (z0p y4z rfl) ?_
 refine z0j (z0n tyS9 rfl rfl) rfl ?_
 refine qd rfl ?_
 obtain ⟨r3,h4,H⟩:=bnd H
 refine z0a (z0x (y0r p1.Key k2 r3 h4) ⟨.inl rfl,.inl rfl,trivial⟩) ?_
 refine qe rfl ?_
 refine z0r ?_
 cases H
 exact ⟨trivial,.inl rfl,trivial⟩
theorem y2x (c1:z0g) (key2:Bs) (r:(Int×Bool)) (H:z6o c1 key2=some r):Fn Tryz.prog 65 [vagg (z1d c1),vstr key2] (z1x [vint r.1,z1e r.2]):=by
 refine ⟨by kernel_rfl,z1k (us:=[vint r.1,z1e r.2]) Tryz.func65 rfl rfl rfl rfl fun X hN => ?_⟩
 unfold z6o at H
 refine z0c ?_
 refine z0b hN rfl ?_
 refine z0f (z2h 1 rfl) rfl ?_
 refine qe rfl ?_
 refine qe rfl ?_
 refine z0c ?_
 refine z0b hN rfl ?_
 refine z0a (z0p y5k rfl) ?_
 refine z0j (z0n x1s rfl rfl) rfl ?_
 refine qd rfl ?_
 obtain ⟨r3,h4,H⟩:=bnd H
 refine z0a (y9n (z7f c1.Products key2 (fun (a0:z0m) (a1:Bs)=>z6y a0 a1) 102 [] (fun a0 a1 r h=>y6y a0 a1 r h) r3 h4) ⟨.inl (.inl rfl),.inl (.inl rfl),.inr ⟨_,rfl,rfl⟩,trivial⟩) ?_
 refine z0a (z11 rfl rfl) ?_
 refine z0a (z11 rfl rfl) ?_
 refine qe rfl ?_
 refine qe rfl ?_
 refine z0r ?_
 cases H
 exact ⟨trivial,.inl rfl,.inl rfl,trivial⟩
theorem z91 (n1:Int) (low2:Int) (high3:Int) (r:(Bool)) (H:z6p n1 low2 high3=some r):Fn Tryz.prog 84 [vint n1,vint low2,vint high3] (z1x [z1e r]):=by
 refine ⟨by kernel_rfl,z1k (us:=[z1e r]) Tryz.func84 rfl rfl rfl rfl fun X hN => ?_⟩
 unfold z6p at H
 refine z0c ?_
 refine z0b hN rfl ?_
 refine qe rfl ?_
 refine z0c ?_
 refine z0b hN rfl ?_
 refine qd rfl ?_
 refine qd rfl ?_
 refine z0a (z05 rfl rfl) ?_
 refine qd rfl ?_
 refine y25 rfl rfl (fun hc=>z0k (.dat _) rfl) ?_
 refine y25 rfl rfl (fun hc=>z0k (.dat _) rfl) ?_
 refine y25 rfl rfl (fun hc=>z5n (cnd (c:=(!(decide (n1 < low2)))) hc) (cnd (c:=(!(decide (n1 < low2)))) hc)) ?_
 refine z0a (z8k rfl rfl (fun hb=>(cnd (c:=(!(decide (n1 < low2)))) (notI hb)))) ?_
 refine qe rfl ?_
 refine z0r ?_
 cases H
 exact ⟨trivial,.inl rfl,trivial⟩
theorem y7c (l1:(List z01)) (r:(Int)) (H:z89 l1=some r):Fn Tryz.prog 136 [vlst (List.map z1r l1)] (z1x [vint r]):=by
 refine ⟨by kernel_rfl,z1k (us:=[vint r]) Tryz.func136 rfl rfl rfl rfl fun X hN => ?_⟩
 unfold z89 at H
 refine z0c ?_
 refine z0b hN rfl ?_
 refine qe rfl ?_
 refine z0c ?_
 refine z0c ?_
 refine z0b hN rfl ?_
 refine qd rfl ?_
 refine z0a (z43 y8o rfl) ?_
 refine z0a (z5n rfl rfl) ?_
 refine z0i _ rfl (fun h2 => ?_) (fun h2 => ?_)
 ·replace H:=ift h2 H
  refine z0c ?_
  refine z0b hN rfl ?_
  refine qe rfl ?_
  refine z0r ?_
  cases H
  exact ⟨trivial,.inl rfl,trivial⟩
 ·replace H:=iff_ h2 H
  refine z0s ?_
  refine z0c ?_
  refine z0c ?_
  refine z0b hN rfl ?_
  refine qd rfl ?_
  refine z0a (z43 y8o rfl) ?_
  refine qd rfl ?_
  refine z0y ?_
  obtain ⟨h5,H⟩:=gif H
  refine z3u (fun (k3:Nat) (s:Unit)=>[(0,.dat (vlst (List.map z1r l1))),(8,.dat (vlst (List.map z1r l1))),(9,.dat (vint (l1.length:Int))),(10,.dat (vint (k3:Int)))]) (fun (k3:Nat) (s:Unit)=>[]) () H ⟨rfl,rfl,rfl,rfl,trivial⟩ trivial (fun _ _=>rfl) ?_ ?_
  ·rintro ⟨⟩ H
   replace H:y0d l1=some r:=H
   unfold y0d at H
   refine z0c ?_
   refine z0b hN rfl ?_
   refine z0a (z05 rfl rfl) ?_
   refine z0c ?_
   refine z0i _ rfl (fun h=>(lt_t h).elim) (fun h => ?_)
   refine z1v ?_
   refine z0c ?_
   refine z1a (ι:=Bool) (fun i=>[(46,.dat (z1e i))]) (fun i=>[]) (fun i=>z6w i=some r) (fun i=>rfl) ?_ ?_
   ·skip
    refine z0b hN rfl ?_
    refine qd rfl ?_
    refine z0a (z43 y8o rfl) ?_
    refine z0a (z5n rfl rfl) ?_
    refine qd rfl ?_
    refine z19 (j:=3) rfl rfl (fun h7 => ?_) (fun h7 => ?_) rfl
    ·have h8:=un1 h7
     replace H:=ift h8 H
     refine z03 rfl rfl h7 (z0k (.dat _) rfl) ?_
     obtain ⟨x9,h10,H⟩:=bnd H
     refine z03 rfl rfl h7 (y1g y8p (fun _=>rfl) rfl rfl h10) ?_
     refine z03 rfl rfl h7 (y0c y3d rfl) ?_
     refine z03 rfl rfl h7 (z1q tyS3 rfl (z29 h10) rfl) ?_
     refine z03 rfl rfl h7 (z6i rfl rfl) ?_
     refine z0a (z1p rfl (bTT h8) rfl) ?_
     exact ⟨decide (x9.From≠1),H,⟨rfl,trivial⟩,trivial⟩
    ·have h11:=un2 h7
     replace H:=iff_ h11 H
     refine z0l rfl rfl h7 ?_
     refine z0l rfl rfl h7 ?_
     refine z0l rfl rfl h7 ?_
     refine z0l rfl rfl h7 ?_
     refine z0l rfl rfl h7 ?_
     refine z0a (z1b rfl (bFF h11) rfl) ?_
     exact ⟨false,H,⟨rfl,trivial⟩,trivial⟩
   ·rintro v12 H
    replace H:z6w v12=some r:=H
    unfold z6w at H
    refine z0i _ rfl (fun h13 => ?_) (fun h13 => ?_)
    ·replace H:=ift h13 H
     refine z0c ?_
     refine z0b hN rfl ?_
     refine qe rfl ?_
     refine z0r ?_
     cases H
     exact ⟨trivial,.inl rfl,trivial⟩
    ·replace H:=iff_ h13 H
     refine z0s ?_
     refine z0c ?_
     refine z0b hN rfl ?_
     refine qe rfl ?_
     refine z0r ?_
     cases H
     exact ⟨trivial,.inl rfl,trivial⟩
  ·rintro k3 x6 ⟨⟩ q4 h14 h15 H hq4
   replace H:z8o l1 k3 x6=some q4:=H
   unfold z8o at H
   refine z0c ?_
   refine z0b hN rfl ?_
   refine z0a (z05 rfl rfl) ?_
   refine z0c ?_
   refine z0i _ rfl (fun h => ?_) (fun h=>(lt_f h14 h).elim)
   refine z0s ?_
   refine z0c ?_
   refine z0y ?_
   refine z0c ?_
   refine z0b hN rfl ?_
   refine qd rfl ?_
   refine z0a (y1g y8p (fun _=>rfl) rfl rfl h15) ?_
   refine z0a (z2s x03 rfl (z29 h15) rfl) ?_
   refine z0f (z1h 1 y9d rfl) rfl ?_
   refine qe rfl ?_
   refine z0f (z02 x03 rfl rfl rfl rfl) rfl ?_
   refine z0c ?_
   refine z1a (ι:=Bool) (fun i=>[(0,.dat (vlst (List.map z1r l1))),(3,.dat (vint (k3:Int))),(4,.ptr 1 0),(8,.dat (vlst (List.map z1r l1))),(9,.dat (vint (l1.length:Int))),(10,.dat (vint (k3:Int))),(22,.dat (z1e i))]) (fun i=>[(1,.box none 102 [.dat (vint x6.From),.dat (vint x6.Cents)])]) (fun i=>z4x l1 k3 x6 i=some q4) (fun i=>rfl) ?_ ?_
   ·skip
    refine z0b hN rfl ?_
    refine z0a (z0p y3d rfl) ?_
    refine z0j (z0n tyS3 rfl rfl) rfl ?_
    obtain ⟨r16,h17,H⟩:=bnd H
    refine z0a (z0x (z91 x6.From 1 1000000000000 r16 h17) ⟨.inl rfl,.inl rfl,.inl rfl,trivial⟩) ?_
    refine qd rfl ?_
    refine z19 (j:=3) rfl rfl (fun h18 => ?_) (fun h18 => ?_) rfl
    ·have h19:=un3 h18
     replace H:=iff_ h19 H
     refine z03 rfl rfl h18 (z0p x1z rfl) ?_
     refine z7k rfl rfl h18 (z0n tyS3 rfl rfl) rfl ?_
     obtain ⟨r20,h21,H⟩:=bnd H
     refine z03 rfl rfl h18 (z0x (z91 x6.Cents 0 1000000 r20 h21) ⟨.inl rfl,.inl rfl,.inl rfl,trivial⟩) ?_
     refine z0a (z1b rfl (bFF h19) rfl) ?_
     exact ⟨r20,H,⟨rfl,rfl,rfl,rfl,rfl,rfl,rfl,trivial⟩,⟨rfl,trivial⟩⟩
    ·have h22:=un4 h18
     replace H:=ift h22 H
     refine z0l rfl rfl h18 ?_
     refine z0l rfl rfl h18 ?_
     refine z0l rfl rfl h18 ?_
     refine z0a (z1p rfl (bTT h22) rfl) ?_
     exact ⟨true,H,⟨rfl,rfl,rfl,rfl,rfl,rfl,rfl,trivial⟩,⟨rfl,trivial⟩⟩
   ·rintro v23 H
    replace H:z4x l1 k3 x6 v23=some q4:=H
    unfold z4x at H
    refine z0i _ rfl (fun h24 => ?_) (fun h24 => ?_)
    ·replace H:=ift h24 H
     refine z0c ?_
     refine z0b hN rfl ?_
     refine qe rfl ?_
     refine z0r ?_
     replace H:=retl H hq4
     cases H
     exact ⟨trivial,.inl rfl,trivial⟩
    ·replace H:=iff_ h24 H
     refine z0s ?_
     refine z1a (ι:=Bool) (fun i=>[(0,.dat (vlst (List.map z1r l1))),(8,.dat (vlst (List.map z1r l1))),(9,.dat (vint (l1.length:Int))),(10,.dat (vint (k3:Int))),(35,.dat (z1e i))]) (fun i=>[]) (fun i=>z6v i=some q4) (fun i=>rfl) ?_ ?_
     ·skip
      refine z3q mixed hN rfl rfl ?_
      refine qd rfl ?_
      refine z0a (z5n rfl rfl) ?_
      refine qd rfl ?_
      refine z19 (j:=2) rfl rfl (fun h25 => ?_) (fun h25 => ?_) rfl
      ·have h26:=un1 h25
       replace H:=ift h26 H
       refine z03 rfl rfl h25 (z0p y3d rfl) ?_
       refine z7k rfl rfl h25 (z0n tyS3 rfl rfl) rfl ?_
       refine z03 rfl rfl h25 (z0k (.dat _) rfl) ?_
       refine z03 rfl rfl h25 (z0k (.dat _) rfl) ?_
       refine z03 rfl rfl h25 (y66 rfl rfl (by omega)) ?_
       obtain ⟨x27,h28,H⟩:=bnd H
       refine z03 rfl rfl h25 (y1l y8p (fun _=>rfl) rfl rfl h28) ?_
       refine z03 rfl rfl h25 (y0c y3d rfl) ?_
       refine z03 rfl rfl h25 (z1q tyS3 rfl (z29 (z2m h28).2) rfl) ?_
       refine z03 rfl rfl h25 (y3u rfl rfl) ?_
       refine z0a (z1p rfl (bTT h26) rfl) ?_
       refine ⟨rfl,?_⟩
       exact ⟨decide (x6.From≤x27.From),H,⟨rfl,rfl,rfl,rfl,rfl,trivial⟩,trivial⟩
      ·have h29:=un2 h25
       replace H:=iff_ h29 H
       refine z0l rfl rfl h25 ?_
       refine z0l rfl rfl h25 ?_
       refine z0l rfl rfl h25 ?_
       refine z0l rfl rfl h25 ?_
       refine z0l rfl rfl h25 ?_
       refine z0l rfl rfl h25 ?_
       refine z0l rfl rfl h25 ?_
       refine z0l rfl rfl h25 ?_
       refine z0l rfl rfl h25 ?_
       refine z0a (z1b rfl (bFF h29) rfl) ?_
       refine ⟨rfl,?_⟩
       exact ⟨false,H,⟨rfl,rfl,rfl,rfl,rfl,trivial⟩,trivial⟩
     ·rintro v30 H
      replace H:z6v v30=some q4:=H
      unfold z6v at H
      refine z0i _ rfl (fun h31 => ?_) (fun h31 => ?_)
      ·replace H:=ift h31 H
       refine z0c ?_
       refine z0b hN rfl ?_
       refine qe rfl ?_
       refine z0r ?_
       replace H:=retl H hq4
       cases H
       exact ⟨trivial,.inl rfl,trivial⟩
      ·replace H:=iff_ h31 H
       refine z0s ?_
       refine z0b hN rfl ?_
       refine z0a (z3v rfl rfl (by omega)) ?_
       refine qd rfl ?_
       exact ⟨_,z63 H,⟨rfl,rfl,rfl,rfl,trivial⟩,trivial⟩
theorem y7q (v1:z0g) (v2:Int) (r:(Int)) (H:z9y v1 v2=some r):Fn Tryz.prog 98 [vagg (z1d v1),vint v2] (z1x [vint r]):=by
 refine ⟨by kernel_rfl,z1k (us:=[vint r]) Tryz.func98 rfl rfl rfl rfl fun X hN => ?_⟩
 unfold z9y at H
 refine z0c ?_
 refine z0b hN rfl ?_
 refine z0f (z2h 1 rfl) rfl ?_
 refine qe rfl ?_
 refine z0c ?_
 refine z0b hN rfl ?_
 refine z0a (z0p z9n rfl) ?_
 refine z0j (z0n y4q rfl rfl) rfl ?_
 refine qd rfl ?_
 obtain ⟨x3,h4,H⟩:=bnd H
 refine z0a (y1l y8u (fun _=>rfl) rfl rfl h4) ?_
 refine z0a (z2s y1j rfl (z29 (z2m h4).2) rfl) ?_
 refine z0f (z1h 2 y48 rfl) rfl ?_
 refine z0f (z02 y1j rfl rfl rfl rfl) rfl ?_
 refine z0c ?_
 refine z0y ?_
 refine z0c ?_
 refine z0b hN rfl ?_
 refine z0a (z0p y1k rfl) ?_
 refine z0j (z0n tyS9 rfl rfl) rfl ?_
 obtain ⟨r5,h6,H⟩:=bnd H
 refine z0a (z0x (y4l x3.Key r5 h6) ⟨.inl rfl,trivial⟩) ?_
 refine z0a (z3r rfl) ?_
 refine qe rfl ?_
 refine z0i _ rfl (fun h7 => ?_) (fun h7 => ?_)
 ·replace H:=ift h7 H
  refine z0c ?_
  refine z0b hN rfl ?_
  refine qe rfl ?_
  refine z0r ?_
  cases H
  exact ⟨trivial,.inl rfl,trivial⟩
 ·replace H:=iff_ h7 H
  refine z1a (ι:=Bool) (fun i=>[(2,.ptr 1 0),(5,.ptr 2 0),(19,.dat (z1e i))]) (fun i=>[(1,.box none 29 [.dat (vlst (List.map z0u v1.Products)),.dat (vlst (List.map z0z v1.Plans))]),(2,.box none 105 [.dat (vstr x3.Key),.dat (vstr x3.Product),.dat (vint x3.Base),.dat (vint x3.Free),.dat (vlst (List.map z1r x3.Tiers)),.dat (vint x3.Limit),.dat (vint x3.Trial),.dat (z1e x3.Asked)])]) (fun i=>z52 v1 x3 i=some r) (fun i=>rfl) ?_ ?_
  ·skip
   refine z3q mixed hN rfl rfl ?_
   refine qd rfl ?_
   refine z0a (z5n rfl rfl) ?_
   refine qd rfl ?_
   refine z19 (j:=2) rfl rfl (fun h8 => ?_) (fun h8 => ?_) rfl
   ·have h9:=un1 h8
    replace H:=ift h9 H
    refine z03 rfl rfl h8 (z0p y1k rfl) ?_
    refine z7k rfl rfl h8 (z0n tyS9 rfl rfl) rfl ?_
    refine z03 rfl rfl h8 (z0p z9n rfl) ?_
    refine z7k rfl rfl h8 (z0n y4q rfl rfl) rfl ?_
    refine z03 rfl rfl h8 (z0k (.dat _) rfl) ?_
    refine z03 rfl rfl h8 (z1s _ rfl rfl (.inr (.inl ⟨rfl,rfl⟩))) ?_
    obtain ⟨x10,h11,H⟩:=bnd H
    refine z03 rfl rfl h8 (y1l y8u (fun _=>rfl) rfl rfl h11) ?_
    refine z03 rfl rfl h8 (y0c y1k rfl) ?_
    refine z03 rfl rfl h8 (z1q tyS9 rfl (z29 (z2m h11).2) rfl) ?_
    refine z03 rfl rfl h8 (y6p rfl rfl) ?_
    refine z0a (z1p rfl (bTT h9) rfl) ?_
    refine qe rfl ?_
    refine ⟨rfl,?_⟩
    exact ⟨(Op.bytesLess x3.Key x10.Key || x3.Key == x10.Key),H,⟨rfl,rfl,rfl,trivial⟩,⟨rfl,rfl,trivial⟩⟩
   ·have h12:=un2 h8
    replace H:=iff_ h12 H
    refine z0l rfl rfl h8 ?_
    refine z0l rfl rfl h8 ?_
    refine z0l rfl rfl h8 ?_
    refine z0l rfl rfl h8 ?_
    refine z0l rfl rfl h8 ?_
    refine z0l rfl rfl h8 ?_
    refine z0l rfl rfl h8 ?_
    refine z0l rfl rfl h8 ?_
    refine z0l rfl rfl h8 ?_
    refine z0l rfl rfl h8 ?_
    refine z0a (z1b rfl (bFF h12) rfl) ?_
    refine qe rfl ?_
    refine ⟨rfl,?_⟩
    exact ⟨false,H,⟨rfl,rfl,rfl,trivial⟩,⟨rfl,rfl,trivial⟩⟩
  ·rintro v13 H
   replace H:z52 v1 x3 v13=some r:=H
   unfold z52 at H
   refine z0i _ rfl (fun h14 => ?_) (fun h14 => ?_)
   ·replace H:=ift h14 H
    refine z0c ?_
    refine z0b hN rfl ?_
    refine qe rfl ?_
    refine z0r ?_
    cases H
    exact ⟨trivial,.inl rfl,trivial⟩
   ·replace H:=iff_ h14 H
    refine z0s ?_
    refine z0c ?_
    refine z0c ?_
    refine z0b hN rfl ?_
    refine z0j (z04 z5d rfl rfl rfl) rfl ?_
    refine z0a (z0p y6o rfl) ?_
    refine z0j (z0n tyS9 rfl rfl) rfl ?_
    obtain ⟨r15,h16,H⟩:=bnd H
    refine z0a (z0x (y2x v1 x3.Product r15 h16) ⟨.inl rfl,.inl rfl,trivial⟩) ?_
    refine qd rfl ?_
    refine z0a (z11 rfl rfl) ?_
    refine z0a (z11 rfl rfl) ?_
    refine qe rfl ?_
    refine qe rfl ?_
    refine z0c ?_
    refine z0b hN rfl ?_
    refine qd rfl ?_
    refine z0a (z3r rfl) ?_
    refine z0i _ rfl (fun h17 => ?_) (fun h17 => ?_)
    ·replace H:=ift h17 H
     refine z0c ?_
     refine z0b hN rfl ?_
     refine qe rfl ?_
     refine z0r ?_
     cases H
     exact ⟨trivial,.inl rfl,trivial⟩
    ·replace H:=iff_ h17 H
     refine z0s ?_
     refine z0c ?_
     refine z1a (ι:=Bool) (fun i=>[(5,.ptr 2 0),(50,.dat (z1e i))]) (fun i=>[(2,.box none 105 [.dat (vstr x3.Key),.dat (vstr x3.Product),.dat (vint x3.Base),.dat (vint x3.Free),.dat (vlst (List.map z1r x3.Tiers)),.dat (vint x3.Limit),.dat (vint x3.Trial),.dat (z1e x3.Asked)])]) (fun i=>z7a x3 i=some r) (fun i=>rfl) ?_ ?_
     ·skip
      refine z0b hN rfl ?_
      refine z0a (z0p x1y rfl) ?_
      refine z0j (z0n tyS3 rfl rfl) rfl ?_
      obtain ⟨r18,h19,H⟩:=bnd H
      refine z0a (z0x (z91 x3.Base 0 1000000000000 r18 h19) ⟨.inl rfl,.inl rfl,.inl rfl,trivial⟩) ?_
      refine qd rfl ?_
      refine z19 (j:=3) rfl rfl (fun h20 => ?_) (fun h20 => ?_) rfl
      ·have h21:=un3 h20
       replace H:=iff_ h21 H
       refine z03 rfl rfl h20 (z0p y86 rfl) ?_
       refine z7k rfl rfl h20 (z0n tyS3 rfl rfl) rfl ?_
       obtain ⟨r22,h23,H⟩:=bnd H
       refine z03 rfl rfl h20 (z0x (z91 x3.Free 0 1000000000000 r22 h23) ⟨.inl rfl,.inl rfl,.inl rfl,trivial⟩) ?_
       refine z0a (z1b rfl (bFF h21) rfl) ?_
       exact ⟨r22,H,⟨rfl,rfl,trivial⟩,⟨rfl,trivial⟩⟩
      ·have h24:=un4 h20
       replace H:=ift h24 H
       refine z0l rfl rfl h20 ?_
       refine z0l rfl rfl h20 ?_
       refine z0l rfl rfl h20 ?_
       refine z0a (z1p rfl (bTT h24) rfl) ?_
       exact ⟨true,H,⟨rfl,rfl,trivial⟩,⟨rfl,trivial⟩⟩
     ·rintro v25 H
      replace H:z7a x3 v25=some r:=H
      unfold z7a at H
      refine z0i _ rfl (fun h26 => ?_) (fun h26 => ?_)
      ·replace H:=ift h26 H
       refine z0c ?_
       refine z0b hN rfl ?_
       refine qe rfl ?_
       refine z0r ?_
       cases H
       exact ⟨trivial,.inl rfl,trivial⟩
      ·replace H:=iff_ h26 H
       refine z0s ?_
       refine z0c ?_
       refine z0c ?_
       refine z0b hN rfl ?_
       refine z0a (z0p y0y rfl) ?_
       refine z0j (z0n y39 rfl rfl) rfl ?_
       obtain ⟨r27,h28,H⟩:=bnd H
       refine z0a (z0x (y7c x3.Tiers r27 h28) ⟨.inl rfl,trivial⟩) ?_
       refine qe rfl ?_
       refine z0c ?_
       refine z0b hN rfl ?_
       refine qd rfl ?_
       refine z0a (z6i rfl rfl) ?_
       refine z0i _ rfl (fun h29 => ?_) (fun h29 => ?_)
       ·replace H:=ift h29 H
        refine z0c ?_
        refine z0b hN rfl ?_
        refine qd rfl ?_
        refine qe rfl ?_
        refine z0r ?_
        cases H
        exact ⟨trivial,.inl rfl,trivial⟩
       ·replace H:=iff_ h29 H
        refine z0s ?_
        refine z0c ?_
        refine z1a (ι:=Bool) (fun i=>[(64,.dat (z1e i))]) (fun i=>[]) (fun i=>z69 i=some r) (fun i=>rfl) ?_ ?_
        ·skip
         refine z0b hN rfl ?_
         refine z0a (z0p x1x rfl) ?_
         refine z0j (z0n tyS3 rfl rfl) rfl ?_
         obtain ⟨r30,h31,H⟩:=bnd H
         refine z0a (z0x (z91 x3.Limit (-1) 1000000000000 r30 h31) ⟨.inl rfl,.inl rfl,.inl rfl,trivial⟩) ?_
         refine qd rfl ?_
         refine z19 (j:=3) rfl rfl (fun h32 => ?_) (fun h32 => ?_) rfl
         ·have h33:=un3 h32
          replace H:=iff_ h33 H
          refine z03 rfl rfl h32 (z0p x1w rfl) ?_
          refine z7k rfl rfl h32 (z0n tyS3 rfl rfl) rfl ?_
          obtain ⟨r34,h35,H⟩:=bnd H
          refine z03 rfl rfl h32 (z0x (z91 x3.Trial 0 132 r34 h35) ⟨.inl rfl,.inl rfl,.inl rfl,trivial⟩) ?_
          refine z0a (z1b rfl (bFF h33) rfl) ?_
          exact ⟨r34,H,⟨rfl,trivial⟩,trivial⟩
         ·have h36:=un4 h32
          replace H:=ift h36 H
          refine z0l rfl rfl h32 ?_
          refine z0l rfl rfl h32 ?_
          refine z0l rfl rfl h32 ?_
          refine z0a (z1p rfl (bTT h36) rfl) ?_
          exact ⟨true,H,⟨rfl,trivial⟩,trivial⟩
        ·rintro v37 H
         replace H:z69 v37=some r:=H
         unfold z69 at H
         refine z0i _ rfl (fun h38 => ?_) (fun h38 => ?_)
         ·replace H:=ift h38 H
          refine z0c ?_
          refine z0b hN rfl ?_
          refine qe rfl ?_
          refine z0r ?_
          cases H
          exact ⟨trivial,.inl rfl,trivial⟩
         ·replace H:=iff_ h38 H
          refine z0s ?_
          refine z0c ?_
          refine z0b hN rfl ?_
          refine qe rfl ?_
          refine z0r ?_
          cases H
          exact ⟨trivial,.inl rfl,trivial⟩
theorem y3m (c1:z0g) (r:(Int)) (H:z58 c1=some r):Fn Tryz.prog 62 [vagg (z1d c1)] (z1x [vint r]):=by
 refine ⟨by kernel_rfl,z1k (us:=[vint r]) Tryz.func62 rfl rfl rfl rfl fun X hN => ?_⟩
 unfold z58 at H
 refine z0c ?_
 refine z0b hN rfl ?_
 refine z0f (z2h 1 rfl) rfl ?_
 refine qe rfl ?_
 refine z0c ?_
 refine z0c ?_
 refine z0b hN rfl ?_
 refine z0a (z0p y5k rfl) ?_
 refine z0j (z0n x1s rfl rfl) rfl ?_
 obtain ⟨r2,h3,H⟩:=bnd H
 refine z0a (z0x (y51 c1.Products r2 h3) ⟨.inl rfl,trivial⟩) ?_
 refine qe rfl ?_
 refine z0c ?_
 refine z0b hN rfl ?_
 refine qd rfl ?_
 refine z0a (z6i rfl rfl) ?_
 refine z0i _ rfl (fun h4 => ?_) (fun h4 => ?_)
 ·replace H:=ift h4 H
  refine z0c ?_
  refine z0b hN rfl ?_
  refine qd rfl ?_
  refine qe rfl ?_
  refine z0r ?_
  cases H
  exact ⟨trivial,.inl rfl,trivial⟩
 ·replace H:=iff_ h4 H
  refine z0s ?_
  refine z0c ?_
  refine z0c ?_
  refine z0b hN rfl ?_
  refine z0a (z0p z9n rfl) ?_
  refine z0j (z0n y4q rfl rfl) rfl ?_
  refine z0a (z43 y9e rfl) ?_
  refine z0a (z5n rfl rfl) ?_
  refine z0i _ rfl (fun h5 => ?_) (fun h5 => ?_)
  ·replace H:=ift h5 H
   refine z0c ?_
   refine z0b hN rfl ?_
   refine qe rfl ?_
   refine z0r ?_
   cases H
   exact ⟨trivial,.inl rfl,trivial⟩
  ·replace H:=iff_ h5 H
   refine z0s ?_
   refine z0c ?_
   refine z0c ?_
   refine z0b hN rfl ?_
   refine z0a (z0p z9n rfl) ?_
   refine z0j (z0n y4q rfl rfl) rfl ?_
   refine z0a (z43 y9e rfl) ?_
   refine qd rfl ?_
   refine z0y ?_
   obtain ⟨h8,H⟩:=gif H
   refine z3u (fun (k6:Nat) (s:Unit)=>[(1,.ptr 1 0),(18,.dat (vint (c1.Plans.length:Int))),(19,.dat (vint (k6:Int)))]) (fun (k6:Nat) (s:Unit)=>[(1,.box none 29 [.dat (vlst (List.map z0u c1.Products)),.dat (vlst (List.map z0z c1.Plans))])]) () H ⟨rfl,rfl,rfl,trivial⟩ ⟨rfl,trivial⟩ (fun _ _=>rfl) ?_ ?_
   ·rintro ⟨⟩ H
    replace H:y1h=some r:=H
    unfold y1h at H
    refine z0c ?_
    refine z0b hN rfl ?_
    refine z0a (z05 rfl rfl) ?_
    refine z0c ?_
    refine z0i _ rfl (fun h=>(lt_t h).elim) (fun h => ?_)
    refine z1v ?_
    refine z0c ?_
    refine z0b hN rfl ?_
    refine qe rfl ?_
    refine z0r ?_
    cases H
    exact ⟨trivial,.inl rfl,trivial⟩
   ·rintro k6 x9 ⟨⟩ q7 h10 h11 H hq7
    replace H:z9i c1 k6 x9=some q7:=H
    unfold z9i at H
    refine z0c ?_
    refine z0b hN rfl ?_
    refine z0a (z05 rfl rfl) ?_
    refine z0c ?_
    refine z0i _ rfl (fun h => ?_) (fun h=>(lt_f h10 h).elim)
    refine z0s ?_
    refine z0c ?_
    refine z0y ?_
    refine z0c ?_
    refine z0b hN rfl ?_
    refine qd rfl ?_
    refine qe rfl ?_
    refine z0c ?_
    refine z0b hN rfl ?_
    refine z0j (z04 z5d rfl rfl rfl) rfl ?_
    refine qd rfl ?_
    obtain ⟨r12,h13,H⟩:=bnd H
    refine z0a (z0x (y7q c1 (k6:Int) r12 h13) ⟨.inl rfl,.inl rfl,trivial⟩) ?_
    refine qe rfl ?_
    refine z0c ?_
    refine z0b hN rfl ?_
    refine qd rfl ?_
    refine z0a (z6i rfl rfl) ?_
    refine z0i _ rfl (fun h14 => ?_) (fun h14 => ?_)
    ·replace H:=ift h14 H
     refine z0c ?_
     refine z0b hN rfl ?_
     refine qd rfl ?_
     refine qe rfl ?_
     refine z0r ?_
     replace H:=retl H hq7
     cases H
     exact ⟨trivial,.inl rfl,trivial⟩
    ·replace H:=iff_ h14 H
     refine z0s ?_
     refine z0b hN rfl ?_
     refine z0a (z3v rfl rfl (by omega)) ?_
     refine qd rfl ?_
     exact ⟨_,z63 H,⟨rfl,rfl,rfl,trivial⟩,⟨rfl,trivial⟩⟩
theorem y7t (l1:(List z0t)) (r:(Int)) (H:z9z l1=some r):Fn Tryz.prog 63 [vlst (List.map z1l l1)] (z1x [vint r]):=by
 refine ⟨by kernel_rfl,z1k (us:=[vint r]) Tryz.func63 rfl rfl rfl rfl fun X hN => ?_⟩
 unfold z9z at H
 refine z0c ?_
 refine z0b hN rfl ?_
 refine qe rfl ?_
 refine z0c ?_
 refine z0c ?_
 refine z0b hN rfl ?_
 refine qd rfl ?_
 refine z0a (z43 x3l rfl) ?_
 refine z0a (z5n rfl rfl) ?_
 refine z0i _ rfl (fun h2 => ?_) (fun h2 => ?_)
 ·replace H:=ift h2 H
  refine z0c ?_
  refine z0b hN rfl ?_
  refine qe rfl ?_
  refine z0r ?_
  cases H
  exact ⟨trivial,.inl rfl,trivial⟩
 ·replace H:=iff_ h2 H
  refine z0s ?_
  refine z0c ?_
  refine z0c ?_
  refine z0b hN rfl ?_
  refine qd rfl ?_
  refine z0a (z43 x3l rfl) ?_
  refine qd rfl ?_
  refine z0y ?_
  obtain ⟨h5,H⟩:=gif H
  refine z3u (fun (k3:Nat) (s:Unit)=>[(0,.dat (vlst (List.map z1l l1))),(8,.dat (vlst (List.map z1l l1))),(9,.dat (vint (l1.length:Int))),(10,.dat (vint (k3:Int)))]) (fun (k3:Nat) (s:Unit)=>[]) () H ⟨rfl,rfl,rfl,rfl,trivial⟩ trivial (fun _ _=>rfl) ?_ ?_
  ·rintro ⟨⟩ H
   replace H:y2m=some r:=H
   unfold y2m at H
   refine z0c ?_
   refine z0b hN rfl ?_
   refine z0a (z05 rfl rfl) ?_
   refine z0c ?_
   refine z0i _ rfl (fun h=>(lt_t h).elim) (fun h => ?_)
   refine z1v ?_
   refine z0c ?_
   refine z0b hN rfl ?_
   refine qe rfl ?_
   refine z0r ?_
   cases H
   exact ⟨trivial,.inl rfl,trivial⟩
  ·rintro k3 x6 ⟨⟩ q4 h7 h8 H hq4
   replace H:y00 l1 k3 x6=some q4:=H
   unfold y00 at H
   refine z0c ?_
   refine z0b hN rfl ?_
   refine z0a (z05 rfl rfl) ?_
   refine z0c ?_
   refine z0i _ rfl (fun h => ?_) (fun h=>(lt_f h7 h).elim)
   refine z0s ?_
   refine z0c ?_
   refine z0y ?_
   refine z0c ?_
   refine z0b hN rfl ?_
   refine qd rfl ?_
   refine z0a (y1g x3p (fun _=>rfl) rfl rfl h8) ?_
   refine z0a (z2s x4y rfl (z29 h8) rfl) ?_
   refine z0f (z1h 1 x7p rfl) rfl ?_
   refine qe rfl ?_
   refine z0f (z02 x4y rfl rfl rfl rfl) rfl ?_
   refine z0c ?_
   refine z1a (ι:=Bool) (fun i=>[(0,.dat (vlst (List.map z1l l1))),(3,.dat (vint (k3:Int))),(4,.ptr 1 0),(8,.dat (vlst (List.map z1l l1))),(9,.dat (vint (l1.length:Int))),(10,.dat (vint (k3:Int))),(24,.dat (z1e i))]) (fun i=>[(1,.box none 86 [.dat (vstr x6.Key),.dat (vstr x6.Owner)])]) (fun i=>z54 l1 k3 x6 i=some q4) (fun i=>rfl) ?_ ?_
   ·skip
    refine z0b hN rfl ?_
    refine z0a (z0p y5j rfl) ?_
    refine z0j (z0n tyS9 rfl rfl) rfl ?_
    obtain ⟨r9,h10,H⟩:=bnd H
    refine z0a (z0x (y4l x6.Key r9 h10) ⟨.inl rfl,trivial⟩) ?_
    refine z0a (z3r rfl) ?_
    refine qd rfl ?_
    refine z19 (j:=4) rfl rfl (fun h11 => ?_) (fun h11 => ?_) rfl
    ·have h12:=un3 h11
     replace H:=iff_ h12 H
     refine z03 rfl rfl h11 (z0p x84 rfl) ?_
     refine z7k rfl rfl h11 (z0n tyS9 rfl rfl) rfl ?_
     obtain ⟨r13,h14,H⟩:=bnd H
     refine z03 rfl rfl h11 (z0x (y4l x6.Owner r13 h14) ⟨.inl rfl,trivial⟩) ?_
     refine z03 rfl rfl h11 (z3r rfl) ?_
     refine z0a (z1b rfl (bFF h12) rfl) ?_
     exact ⟨!r13,H,⟨rfl,rfl,rfl,rfl,rfl,rfl,rfl,trivial⟩,⟨rfl,trivial⟩⟩
    ·have h15:=un4 h11
     replace H:=ift h15 H
     refine z0l rfl rfl h11 ?_
     refine z0l rfl rfl h11 ?_
     refine z0l rfl rfl h11 ?_
     refine z0l rfl rfl h11 ?_
     refine z0a (z1p rfl (bTT h15) rfl) ?_
     exact ⟨true,H,⟨rfl,rfl,rfl,rfl,rfl,rfl,rfl,trivial⟩,⟨rfl,trivial⟩⟩
   ·rintro v16 H
    replace H:z54 l1 k3 x6 v16=some q4:=H
    unfold z54 at H
    refine z0i _ rfl (fun h17 => ?_) (fun h17 => ?_)
    ·replace H:=ift h17 H
     refine z0c ?_
     refine z0b hN rfl ?_
     refine qe rfl ?_
     refine z0r ?_
     replace H:=retl H hq4
     cases H
     exact ⟨trivial,.inl rfl,trivial⟩
    ·replace H:=iff_ h17 H
     refine z0s ?_
     refine z1a (ι:=Bool) (fun i=>[(0,.dat (vlst (List.map z1l l1))),(8,.dat (vlst (List.map z1l l1))),(9,.dat (vint (l1.length:Int))),(10,.dat (vint (k3:Int))),(37,.dat (z1e i))]) (fun i=>[]) (fun i=>z7c i=some q4) (fun i=>rfl) ?_ ?_
     ·skip
      refine z3q mixed hN rfl rfl ?_
      refine qd rfl ?_
      refine z0a (z5n rfl rfl) ?_
      refine qd rfl ?_
      refine z19 (j:=2) rfl rfl (fun h18 => ?_) (fun h18 => ?_) rfl
      ·have h19:=un1 h18
       replace H:=ift h19 H
       refine z03 rfl rfl h18 (z0p y5j rfl) ?_
       refine z7k rfl rfl h18 (z0n tyS9 rfl rfl) rfl ?_
       refine z03 rfl rfl h18 (z0k (.dat _) rfl) ?_
       refine z03 rfl rfl h18 (z0k (.dat _) rfl) ?_
       refine z03 rfl rfl h18 (y66 rfl rfl (by omega)) ?_
       obtain ⟨x20,h21,H⟩:=bnd H
       refine z03 rfl rfl h18 (y1l x3p (fun _=>rfl) rfl rfl h21) ?_
       refine z03 rfl rfl h18 (y0c y5j rfl) ?_
       refine z03 rfl rfl h18 (z1q tyS9 rfl (z29 (z2m h21).2) rfl) ?_
       refine z03 rfl rfl h18 (y6p rfl rfl) ?_
       refine z0a (z1p rfl (bTT h19) rfl) ?_
       refine ⟨rfl,?_⟩
       exact ⟨(Op.bytesLess x6.Key x20.Key || x6.Key == x20.Key),H,⟨rfl,rfl,rfl,rfl,rfl,trivial⟩,trivial⟩
      ·have h22:=un2 h18
       replace H:=iff_ h22 H
       refine z0l rfl rfl h18 ?_
       refine z0l rfl rfl h18 ?_
       refine z0l rfl rfl h18 ?_
       refine z0l rfl rfl h18 ?_
       refine z0l rfl rfl h18 ?_
       refine z0l rfl rfl h18 ?_
       refine z0l rfl rfl h18 ?_
       refine z0l rfl rfl h18 ?_
       refine z0l rfl rfl h18 ?_
       refine z0a (z1b rfl (bFF h22) rfl) ?_
       refine ⟨rfl,?_⟩
       exact ⟨false,H,⟨rfl,rfl,rfl,rfl,rfl,trivial⟩,trivial⟩
     ·rintro v23 H
      replace H:z7c v23=some q4:=H
      unfold z7c at H
      refine z0i _ rfl (fun h24 => ?_) (fun h24 => ?_)
      ·replace H:=ift h24 H
       refine z0c ?_
       refine z0b hN rfl ?_
       refine qe rfl ?_
       refine z0r ?_
       replace H:=retl H hq4
       cases H
       exact ⟨trivial,.inl rfl,trivial⟩
      ·replace H:=iff_ h24 H
       refine z0s ?_
       refine z0b hN rfl ?_
       refine z0a (z3v rfl rfl (by omega)) ?_
       refine qd rfl ?_
       exact ⟨_,z63 H,⟨rfl,rfl,rfl,rfl,trivial⟩,trivial⟩
theorem y64 (n1:Int) (r:(Bool)) (H:y1f n1=some r):Fn Tryz.prog 68 [vint n1] (z1x [z1e r]):=by
 refine ⟨by kernel_rfl,z1k (us:=[z1e r]) Tryz.func68 rfl rfl rfl rfl fun X hN => ?_⟩
 unfold y1f at H
 refine z0c ?_
 refine z0b hN rfl ?_
 refine qe rfl ?_
 refine z0c ?_
 refine z0b hN rfl ?_
 refine qd rfl ?_
 refine z0a (y5o rfl rfl) ?_
 refine qd rfl ?_
 refine z4w rfl rfl (fun hc=>z0k (.dat _) rfl) ?_
 refine z4w rfl rfl (fun hc=>z05 (cnd (c:=(decide (0≤n1))) hc) rfl) ?_
 refine z0a (z2z rfl (fun hb=>(cnd (c:=(decide (0≤n1))) hb)) rfl) ?_
 refine qe rfl ?_
 refine z0r ?_
 cases H
 exact ⟨trivial,.inl rfl,trivial⟩
theorem z9g (x1:(List z0t)) (target2:Bs) (p2:z0t→Bs→Option (Int)) (fv2:Nat) (us2:List V) (hp2:∀ a0 a1 r,p2 a0 a1=some r→Fn Tryz.prog fv2 ([vagg (z1l a0),vstr a1]++us2) (z1x [vint r])) (r:(Int×Bool)) (H:z2j x1 target2 p2=some r):Fn Tryz.prog 71 [vlst (List.map z1l x1),vstr target2,vfn fv2 us2] (z1x [vint r.1,z1e r.2]):=by
 refine ⟨by kernel_rfl,z1k (us:=[vint r.1,z1e r.2]) Tryz.func71 rfl rfl rfl rfl fun X hN => ?_⟩
 unfold z2j at H
 refine z0c ?_
 refine z0b hN rfl ?_
 refine qe rfl ?_
 refine qe rfl ?_
 refine z0c ?_
 refine z0b hN rfl ?_
 refine qd rfl ?_
 refine z0a (z43 x3l rfl) ?_
 refine qe rfl ?_
 refine z0c ?_
 refine z0b hN rfl ?_
 refine qd rfl ?_
 refine qe rfl ?_
 refine qe rfl ?_
 refine z1a (ι:=Int) (fun i=>[(0,.dat (vlst (List.map z1l x1))),(1,.dat (vstr target2)),(2,.dat (vfn fv2 us2)),(8,.dat (vint (x1.length:Int))),(9,.dat (vint i))]) (fun i=>[]) (fun i=>z2i x1 target2 p2 i=some r) (fun i=>rfl) ?_ ?_
 ·skip
  refine z0y ?_
  refine y23 (fun (s:Int×Int)=>[(0,.dat (vlst (List.map z1l x1))),(1,.dat (vstr target2)),(2,.dat (vfn fv2 us2)),(8,.dat (vint (x1.length:Int))),(9,.dat (vint s.1)),(10,.dat (vint s.2))]) (fun (s:Int×Int)=>[]) (0,(x1.length:Int)) H ⟨rfl,rfl,rfl,rfl,rfl,rfl,trivial⟩ trivial (fun _=>rfl) ?_
  rintro ⟨i3,j4⟩ q5 H hq5
  replace H:z3e x1 target2 p2 i3 j4=some q5:=H
  unfold z3e at H
  refine z0c ?_
  refine z0c ?_
  refine z0b hN rfl ?_
  refine qd rfl ?_
  refine qd rfl ?_
  refine z0a (z05 rfl rfl) ?_
  refine z0i _ rfl (fun h6 => ?_) (fun h6 => ?_)
  ·replace H:=ift h6 H
   refine z0s ?_
   refine z0y ?_
   refine z0c ?_
   refine z0b hN rfl ?_
   refine qd rfl ?_
   refine qd rfl ?_
   refine z0a (z1s _ rfl rfl (.inl ⟨rfl,rfl⟩)) ?_
   refine z0a (y6q tyU3 x02 rfl) ?_
   refine z0a (z06 (x45 rfl rfl (by decide)) rfl) ?_
   refine z0a (y6q x02 tyU3 rfl) ?_
   refine qe rfl ?_
   refine z0c ?_
   refine z0b hN rfl ?_
   refine qd rfl ?_
   refine qd rfl ?_
   refine qd rfl ?_
   obtain ⟨x7,h8,H⟩:=bnd H
   refine z0a (y1l x3p (fun _=>rfl) rfl rfl h8) ?_
   refine z0a (z2s x4y rfl (z29 (z2m h8).2) rfl) ?_
   refine qd rfl ?_
   obtain ⟨r9,h10,H⟩:=bnd H
   refine z0a (z9v (hp2 x7 target2 r9 h10) rfl ⟨.inl rfl,.inl rfl,trivial⟩) ?_
   refine z0a (z05 rfl rfl) ?_
   refine z0i _ rfl (fun h11 => ?_) (fun h11 => ?_)
   ·replace H:=ift h11 H
    refine z0b hN rfl ?_
    refine qd rfl ?_
    refine z0a (z1s _ rfl rfl (.inl ⟨rfl,rfl⟩)) ?_
    refine qe rfl ?_
    exact ⟨_,z63 H,⟨rfl,rfl,rfl,rfl,rfl,rfl,trivial⟩,trivial⟩
   ·replace H:=iff_ h11 H
    refine z0b hN rfl ?_
    refine qd rfl ?_
    refine qe rfl ?_
    exact ⟨_,z63 H,⟨rfl,rfl,rfl,rfl,rfl,rfl,trivial⟩,trivial⟩
  ·replace H:=iff_ h6 H
   refine z1v ?_
   replace H:=outl H hq5
   exact ⟨i3,H,⟨rfl,rfl,rfl,rfl,rfl,trivial⟩,trivial⟩
 ·rintro i12 H
  replace H:z2i x1 target2 p2 i12=some r:=H
  unfold z2i at H
  refine z1a (ι:=Bool) (fun i=>[(6,.dat (vint i12)),(7,.dat (z1e i))]) (fun i=>[]) (fun i=>z10 i12 i=some r) (fun i=>rfl) ?_ ?_
  ·skip
   refine z0b hN rfl ?_
   refine qd rfl ?_
   refine qd rfl ?_
   refine qd rfl ?_
   refine z0a (z05 rfl rfl) ?_
   refine qd rfl ?_
   refine z19 (j:=4) rfl rfl (fun h13 => ?_) (fun h13 => ?_) rfl
   ·have h14:=un1 h13
    replace H:=ift h14 H
    refine z03 rfl rfl h13 (z0k (.dat _) rfl) ?_
    refine z03 rfl rfl h13 (z0k (.dat _) rfl) ?_
    refine z03 rfl rfl h13 (z0k (.dat _) rfl) ?_
    obtain ⟨x15,h16,H⟩:=bnd H
    refine z03 rfl rfl h13 (y1l x3p (fun _=>rfl) rfl rfl h16) ?_
    refine z03 rfl rfl h13 (z2s x4y rfl (z29 (z2m h16).2) rfl) ?_
    refine z03 rfl rfl h13 (z0k (.dat _) rfl) ?_
    obtain ⟨r17,h18,H⟩:=bnd H
    refine z03 rfl rfl h13 (z9v (hp2 x15 target2 r17 h18) rfl ⟨.inl rfl,.inl rfl,trivial⟩) ?_
    refine z03 rfl rfl h13 (z12 rfl rfl) ?_
    refine z0a (z1p rfl (bTT h14) rfl) ?_
    refine qe rfl ?_
    refine qe rfl ?_
    exact ⟨decide (r17=0),H,⟨rfl,rfl,trivial⟩,trivial⟩
   ·have h19:=un2 h13
    replace H:=iff_ h19 H
    refine z0l rfl rfl h13 ?_
    refine z0l rfl rfl h13 ?_
    refine z0l rfl rfl h13 ?_
    refine z0l rfl rfl h13 ?_
    refine z0l rfl rfl h13 ?_
    refine z0l rfl rfl h13 ?_
    refine z0l rfl rfl h13 ?_
    refine z0l rfl rfl h13 ?_
    refine z0a (z1b rfl (bFF h19) rfl) ?_
    refine qe rfl ?_
    refine qe rfl ?_
    exact ⟨false,H,⟨rfl,rfl,trivial⟩,trivial⟩
  ·rintro v20 H
   replace H:z10 i12 v20=some r:=H
   unfold z10 at H
   refine z0r ?_
   cases H
   exact ⟨trivial,.inl rfl,.inl rfl,trivial⟩
theorem y80 (a1:z0t) (k2:Bs) (r:(Int)) (H:z9s a1 k2=some r):Fn Tryz.prog 72 [vagg (z1l a1),vstr k2] (z1x [vint r]):=by
 refine ⟨by kernel_rfl,z1k (us:=[vint r]) Tryz.func72 rfl rfl rfl rfl fun X hN => ?_⟩
 unfold z9s at H
 refine z0c ?_
 refine z0b hN rfl ?_
 refine z0f (z2h 1 rfl) rfl ?_
 refine qe rfl ?_
 refine z0c ?_
 refine z0b hN rfl ?_
 refine z0a (z0p y5j rfl) ?_
 refine z0j (z0n tyS9 rfl rfl) rfl ?_
 refine qd rfl ?_
 obtain ⟨r3,h4,H⟩:=bnd H
 refine z0a (z0x (y0r a1.Key k2 r3 h4) ⟨.inl rfl,.inl rfl,trivial⟩) ?_
 refine qe rfl ?_
 refine z0r ?_
 cases H
 exact ⟨trivial,.inl rfl,trivial⟩
theorem y43 (l1:(List z0t)) (key2:Bs) (r:(Int×Bool)) (H:z97 l1 key2=some r):Fn Tryz.prog 36 [vlst (List.map z1l l1),vstr key2] (z1x [vint r.1,z1e r.2]):=by
 refine ⟨by kernel_rfl,z1k (us:=[vint r.1,z1e r.2]) Tryz.func36 rfl rfl rfl rfl fun X hN => ?_⟩
 unfold z97 at H
 refine z0c ?_
 refine z0b hN rfl ?_
 refine qe rfl ?_
 refine qe rfl ?_
 refine z0c ?_
 refine z0b hN rfl ?_
 refine qd rfl ?_
 refine qd rfl ?_
 obtain ⟨r3,h4,H⟩:=bnd H
 refine z0a (y9n (z9g l1 key2 (fun (a0:z0t) (a1:Bs)=>z9s a0 a1) 72 [] (fun a0 a1 r h=>y80 a0 a1 r h) r3 h4) ⟨.inl (.inl rfl),.inl (.inl rfl),.inr ⟨_,rfl,rfl⟩,trivial⟩) ?_
 refine z0a (z11 rfl rfl) ?_
 refine z0a (z11 rfl rfl) ?_
 refine qe rfl ?_
 refine qe rfl ?_
 refine z0r ?_
 cases H
 exact ⟨trivial,.inl rfl,.inl rfl,trivial⟩
theorem z8w (x1:(List z0o)) (target2:Bs) (p2:z0o→Bs→Option (Int)) (fv2:Nat) (us2:List V) (hp2:∀ a0 a1 r,p2 a0 a1=some r→Fn Tryz.prog fv2 ([vagg (z0z a0),vstr a1]++us2) (z1x [vint r])) (r:(Int×Bool)) (H:z2f x1 target2 p2=some r):Fn Tryz.prog 128 [vlst (List.map z0z x1),vstr target2,vfn fv2 us2] (z1x [vint r.1,z1e r.2]):=by
 refine ⟨by kernel_rfl,z1k (us:=[vint r.1,z1e r.2]) Tryz.func128 rfl rfl rfl rfl fun X hN => ?_⟩
 unfold z2f at H
 refine z0c ?_
 refine z0b hN rfl ?_
 refine qe rfl ?_
 refine qe rfl ?_
 refine z0c ?_
 refine z0b hN rfl ?_
 refine qd rfl ?_
 refine z0a (z43 y9e rfl) ?_
 refine qe rfl ?_
 refine z0c ?_
 refine z0b hN rfl ?_
 refine qd rfl ?_
 refine qe rfl ?_
 refine qe rfl ?_
 refine z1a (ι:=Int) (fun i=>[(0,.dat (vlst (List.map z0z x1))),(1,.dat (vstr target2)),(2,.dat (vfn fv2 us2)),(8,.dat (vint (x1.length:Int))),(9,.dat (vint i))]) (fun i=>[]) (fun i=>z2d x1 target2 p2 i=some r) (fun i=>rfl) ?_ ?_
 ·skip
  refine z0y ?_
  refine y23 (fun (s:Int×Int)=>[(0,.dat (vlst (List.map z0z x1))),(1,.dat (vstr target2)),(2,.dat (vfn fv2 us2)),(8,.dat (vint (x1.length:Int))),(9,.dat (vint s.1)),(10,.dat (vint s.2))]) (fun (s:Int×Int)=>[]) (0,(x1.length:Int)) H ⟨rfl,rfl,rfl,rfl,rfl,rfl,trivial⟩ trivial (fun _=>rfl) ?_
  rintro ⟨i3,j4⟩ q5 H hq5
  replace H:z26 x1 target2 p2 i3 j4=some q5:=H
  unfold z26 at H
  refine z0c ?_
  refine z0c ?_
  refine z0b hN rfl ?_
  refine qd rfl ?_
  refine qd rfl ?_
  refine z0a (z05 rfl rfl) ?_
  refine z0i _ rfl (fun h6 => ?_) (fun h6 => ?_)
  ·replace H:=ift h6 H
   refine z0s ?_
   refine z0y ?_
   refine z0c ?_
   refine z0b hN rfl ?_
   refine qd rfl ?_
   refine qd rfl ?_
   refine z0a (z1s _ rfl rfl (.inl ⟨rfl,rfl⟩)) ?_
   refine z0a (y6q tyU3 x02 rfl) ?_
   refine z0a (z06 (x45 rfl rfl (by decide)) rfl) ?_
   refine z0a (y6q x02 tyU3 rfl) ?_
   refine qe rfl ?_
   refine z0c ?_
   refine z0b hN rfl ?_
   refine qd rfl ?_
   refine qd rfl ?_
   refine qd rfl ?_
   obtain ⟨x7,h8,H⟩:=bnd H
   refine z0a (y1l y8u (fun _=>rfl) rfl rfl h8) ?_
   refine z0a (z2s y1j rfl (z29 (z2m h8).2) rfl) ?_
   refine qd rfl ?_
   obtain ⟨r9,h10,H⟩:=bnd H
   refine z0a (z9v (hp2 x7 target2 r9 h10) rfl ⟨.inl rfl,.inl rfl,trivial⟩) ?_
   refine z0a (z05 rfl rfl) ?_
   refine z0i _ rfl (fun h11 => ?_) (fun h11 => ?_)
   ·replace H:=ift h11 H
    refine z0b hN rfl ?_
    refine qd rfl ?_
    refine z0a (z1s _ rfl rfl (.inl ⟨rfl,rfl⟩)) ?_
    refine qe rfl ?_
    exact ⟨_,z63 H,⟨rfl,rfl,rfl,rfl,rfl,rfl,trivial⟩,trivial⟩
   ·replace H:=iff_ h11 H
    refine z0b hN rfl ?_
    refine qd rfl ?_
    refine qe rfl ?_
    exact ⟨_,z63 H,⟨rfl,rfl,rfl,rfl,rfl,rfl,trivial⟩,trivial⟩
  ·replace H:=iff_ h6 H
   refine z1v ?_
   replace H:=outl H hq5
   exact ⟨i3,H,⟨rfl,rfl,rfl,rfl,rfl,trivial⟩,trivial⟩
 ·rintro i12 H
  replace H:z2d x1 target2 p2 i12=some r:=H
  unfold z2d at H
  refine z1a (ι:=Bool) (fun i=>[(6,.dat (vint i12)),(7,.dat (z1e i))]) (fun i=>[]) (fun i=>z1u i12 i=some r) (fun i=>rfl) ?_ ?_
  ·skip
   refine z0b hN rfl ?_
   refine qd rfl ?_
   refine qd rfl ?_
   refine qd rfl ?_
   refine z0a (z05 rfl rfl) ?_
   refine qd rfl ?_
   refine z19 (j:=4) rfl rfl (fun h13 => ?_) (fun h13 => ?_) rfl
   ·have h14:=un1 h13
    replace H:=ift h14 H
    refine z03 rfl rfl h13 (z0k (.dat _) rfl) ?_
    refine z03 rfl rfl h13 (z0k (.dat _) rfl) ?_
    refine z03 rfl rfl h13 (z0k (.dat _) rfl) ?_
    obtain ⟨x15,h16,H⟩:=bnd H
    refine z03 rfl rfl h13 (y1l y8u (fun _=>rfl) rfl rfl h16) ?_
    refine z03 rfl rfl h13 (z2s y1j rfl (z29 (z2m h16).2) rfl) ?_
    refine z03 rfl rfl h13 (z0k (.dat _) rfl) ?_
    obtain ⟨r17,h18,H⟩:=bnd H
    refine z03 rfl rfl h13 (z9v (hp2 x15 target2 r17 h18) rfl ⟨.inl rfl,.inl rfl,trivial⟩) ?_
    refine z03 rfl rfl h13 (z12 rfl rfl) ?_
    refine z0a (z1p rfl (bTT h14) rfl) ?_
    refine qe rfl ?_
    refine qe rfl ?_
    exact ⟨decide (r17=0),H,⟨rfl,rfl,trivial⟩,trivial⟩
   ·have h19:=un2 h13
    replace H:=iff_ h19 H
    refine z0l rfl rfl h13 ?_
    refine z0l rfl rfl h13 ?_
    refine z0l rfl rfl h13 ?_
    refine z0l rfl rfl h13 ?_
    refine z0l rfl rfl h13 ?_
    refine z0l rfl rfl h13 ?_
    refine z0l rfl rfl h13 ?_
    refine z0l rfl rfl h13 ?_
    refine z0a (z1b rfl (bFF h19) rfl) ?_
    refine qe rfl ?_
    refine qe rfl ?_
    exact ⟨false,H,⟨rfl,rfl,trivial⟩,trivial⟩
  ·rintro v20 H
   replace H:z1u i12 v20=some r:=H
   unfold z1u at H
   refine z0r ?_
   cases H
   exact ⟨trivial,.inl rfl,.inl rfl,trivial⟩
theorem y8c (p1:z0o) (k2:Bs) (r:(Int)) (H:z80 p1 k2=some r):Fn Tryz.prog 129 [vagg (z0z p1),vstr k2] (z1x [vint r]):=by
 refine ⟨by kernel_rfl,z1k (us:=[vint r]) Tryz.func129 rfl rfl rfl rfl fun X hN => ?_⟩
 unfold z80 at H
 refine z0c ?_
 refine z0b hN rfl ?_
 refine z0f (z2h 1 rfl) rfl ?_
 refine qe rfl ?_
 refine z0c ?_
 refine z0b hN rfl ?_
 refine z0a (z0p y1k rfl) ?_
 refine z0j (z0n tyS9 rfl rfl) rfl ?_
 refine qd rfl ?_
 obtain ⟨r3,h4,H⟩:=bnd H
 refine z0a (z0x (y0r p1.Key k2 r3 h4) ⟨.inl rfl,.inl rfl,trivial⟩) ?_
 refine qe rfl ?_
 refine z0r ?_
 cases H
 exact ⟨trivial,.inl rfl,trivial⟩
theorem y4j (c1:z0g) (key2:Bs) (r:(z0o×Bool)) (H:z7w c1 key2=some r):Fn Tryz.prog 83 [vagg (z1d c1),vstr key2] (z1x [vagg (z0z r.1),z1e r.2]):=by
 refine ⟨by kernel_rfl,z1k (us:=[vagg (z0z r.1),z1e r.2]) Tryz.func83 rfl rfl rfl rfl fun X hN => ?_⟩
 unfold z7w at H
 refine z0c ?_
 refine z0b hN rfl ?_
 refine z0f (z2h 1 rfl) rfl ?_
 refine z0f (z1h 2 y48 rfl) rfl ?_
 refine qe rfl ?_
 refine z0c ?_
 refine z0b hN rfl ?_
 refine z0a (z0p z9n rfl) ?_
 refine z0j (z0n y4q rfl rfl) rfl ?_
 refine qd rfl ?_
 obtain ⟨r3,h4,H⟩:=bnd H
 refine z0a (y9n (z8w c1.Plans key2 (fun (a0:z0o) (a1:Bs)=>z80 a0 a1) 129 [] (fun a0 a1 r h=>y8c a0 a1 r h) r3 h4) ⟨.inl (.inl rfl),.inl (.inl rfl),.inr ⟨_,rfl,rfl⟩,trivial⟩) ?_
 refine qd rfl ?_
 refine z0a (z11 rfl rfl) ?_
 refine z0a (z11 rfl rfl) ?_
 refine qe rfl ?_
 refine qe rfl ?_
 refine z0c ?_
 refine z0c ?_
 refine z0b hN rfl ?_
 refine qd rfl ?_
 refine z0a (z3r rfl) ?_
 refine z0i _ rfl (fun h5 => ?_) (fun h5 => ?_)
 ·replace H:=ift h5 H
  refine z0c ?_
  refine z0b hN rfl ?_
  refine z0a (w4i (u':=vagg (z0z (z0o.mk [] [] 0 0 [] 0 0 false))) (w4a (by exact ⟨y8n,y8n,y8n,y8n,x3j,y8n,y8n,y8n,trivial⟩)) (z3k [] y48 x54 rfl trivial)) ?_
  refine z0f (z02 y1j rfl rfl rfl rfl) rfl ?_
  refine qe rfl ?_
  refine z0r ?_
  cases H
  exact ⟨trivial,.inl ⟨_,_,_,z0z (z0o.mk [] [] 0 0 [] 0 0 false),rfl,rfl,rfl,rfl,y1j⟩,.inl rfl,trivial⟩
 ·replace H:=iff_ h5 H
  refine z0s ?_
  refine z0c ?_
  refine z0b hN rfl ?_
  refine z0a (z0p z9n rfl) ?_
  refine z0j (z0n y4q rfl rfl) rfl ?_
  refine qd rfl ?_
  obtain ⟨x6,h7,H⟩:=bnd H
  refine z0a (y1l y8u (fun _=>rfl) rfl rfl h7) ?_
  refine z0a (z2s y1j rfl (z29 (z2m h7).2) rfl) ?_
  refine z0f (z02 y1j rfl rfl rfl rfl) rfl ?_
  refine qe rfl ?_
  refine z0r ?_
  cases H
  exact ⟨trivial,.inl ⟨_,_,_,z0z x6,rfl,rfl,rfl,rfl,y1j⟩,.inl rfl,trivial⟩
theorem y5y (x1:Int) (r:(Bool)) (H:y09 x1=some r):Fn Tryz.prog 145 [vint x1] (z1x [z1e r]):=by
 refine ⟨by kernel_rfl,z1k (us:=[z1e r]) Tryz.func145 rfl rfl rfl rfl fun X hN => ?_⟩
 unfold y09 at H
 refine z0c ?_
 refine z0b hN rfl ?_
 refine qe rfl ?_
 refine z0c ?_
 refine z0b hN rfl ?_
 refine qd rfl ?_
 refine qd rfl ?_
 refine z0a (z6i rfl rfl) ?_
 refine qe rfl ?_
 refine z0r ?_
 cases H
 exact ⟨trivial,.inl rfl,trivial⟩
end Go.Proofs.YticadaaoggpenaaGreatDoor
