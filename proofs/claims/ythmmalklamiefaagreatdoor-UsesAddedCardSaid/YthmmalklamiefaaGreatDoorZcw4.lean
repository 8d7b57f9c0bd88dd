/- Walks along the models. Printed by a program. -/
import Derived.Test.YthmmalklamiefaaGreatDoorZcw3
namespace Go.Proofs.YthmmalklamiefaaGreatDoor
open Go.RowKit
set_option linter.unusedVariables false
set_option maxRecDepth 20000
set_option maxHeartbeats 2000000
theorem y7y (v1:z0i) (v2:(List z0s)) (v3:(List z0f)) (r:(Int)) (H:z8n v1 v2 v3=some r):Fn Tryz.prog 27 [vagg (z1h v1),vlst (List.map z1a v2),vlst (List.map z00 v3)] (z1x [vint r]):=by
 refine ⟨by kernel_rfl,z1s (us:=[vint r]) Tryz.func27 rfl rfl rfl rfl fun X hN => ?_⟩
 unfold z8n at H
 refine z0c ?_
 refine z0b hN rfl ?_
 refine z0g (z16 1 rfl) rfl ?_
 refine qe rfl ?_
 refine z0c ?_
 refine z0c ?_
 refine z0b hN rfl ?_
 refine z0h (z06 z5x rfl rfl rfl) rfl ?_
 refine qd rfl ?_
 obtain ⟨r4,h5,H⟩:=bnd H
 refine z0a (z0z (y8e v1 v2 r4 h5) ⟨.inl rfl,.inl rfl,trivial⟩) ?_
 refine qe rfl ?_
 refine z0c ?_
 refine z0b hN rfl ?_
 refine qd rfl ?_
 refine z0a (z6y rfl rfl) ?_
 refine z0k _ rfl (fun h6 => ?_) (fun h6 => ?_)
 ·replace H:=ift h6 H
  refine z0c ?_
  refine z0b hN rfl ?_
  refine qd rfl ?_
  refine qe rfl ?_
  refine z0t ?_
  cases H
  exact ⟨trivial,.inl rfl,trivial⟩
 ·replace H:=iff_ h6 H
  refine z0q ?_
  refine z0c ?_
  refine z0c ?_
  refine z0b hN rfl ?_
  refine qd rfl ?_
  refine z0a (z5b x01 rfl) ?_
  refine z0a (z4c rfl rfl) ?_
  refine z0k _ rfl (fun h7 => ?_) (fun h7 => ?_)
  ·replace H:=ift h7 H
   refine z0c ?_
   refine z0b hN rfl ?_
   refine qe rfl ?_
   refine z0t ?_
   cases H
   exact ⟨trivial,.inl rfl,trivial⟩
  ·replace H:=iff_ h7 H
   refine z0q ?_
   refine z0c ?_
   refine z0c ?_
   refine z0b hN rfl ?_
   refine qd rfl ?_
   refine z0a (z5b x01 rfl) ?_
   refine qd rfl ?_
   refine z0w ?_
   obtain ⟨h10,H⟩:=gif H
   refine z32 (fun (k8:Nat) (s:Unit)=>[(1,.dat (vlst (List.map z1a v2))),(2,.dat (vlst (List.map z00 v3))),(3,.ptr 1 0),(21,.dat (vlst (List.map z00 v3))),(22,.dat (vint (v3.length:Int))),(23,.dat (vint (k8:Int)))]) (fun (k8:Nat) (s:Unit)=>[(1,.box none 29 [.dat (vlst (List.map z0y v1.Products)),.dat (vlst (List.map z01 v1.Plans))])]) () H ⟨rfl,rfl,rfl,rfl,rfl,rfl,trivial⟩ ⟨rfl,trivial⟩ (fun _ _=>rfl) ?_ ?_
   ·rintro ⟨⟩ H
    replace H:y2j=some r:=H
    unfold y2j at H
    refine z0c ?_
    refine z0b hN rfl ?_
    refine z0a (z03 rfl rfl) ?_
    refine z0c ?_
    refine z0k _ rfl (fun h=>(lt_t h).elim) (fun h => ?_)
    refine z1j ?_
    refine z0c ?_
    refine z0b hN rfl ?_
    refine qe rfl ?_
    refine z0t ?_
    cases H
    exact ⟨trivial,.inl rfl,trivial⟩
   ·rintro k8 x11 ⟨⟩ q9 h12 h13 H hq9
    replace H:z8c v1 v2 v3 k8 x11=some q9:=H
    unfold z8c at H
    refine z0c ?_
    refine z0b hN rfl ?_
    refine z0a (z03 rfl rfl) ?_
    refine z0c ?_
    refine z0k _ rfl (fun h => ?_) (fun h=>(lt_f h12 h).elim)
    refine z0q ?_
    refine z0c ?_
    refine z0w ?_
    refine z0c ?_
    refine z0b hN rfl ?_
    refine qd rfl ?_
    refine z0a (y2a y6m (fun _=>rfl) rfl rfl h13) ?_
    refine z0a (z2l z9s rfl (z3e h13) rfl) ?_
    refine z0g (z1m 2 x0v rfl) rfl ?_
    refine qe rfl ?_
    refine z0g (z08 z9s rfl rfl rfl rfl) rfl ?_
    refine z0c ?_
    refine z0b hN rfl ?_
    refine z0h (z06 z5x rfl rfl rfl) rfl ?_
    refine z0a (z0m y3f rfl) ?_
    refine z0h (z0l tyS9 rfl rfl) rfl ?_
    obtain ⟨r14,h15,H⟩:=bnd H
    refine z0a (z0z (y14 v1 x11.Plan r14 h15) ⟨.inl rfl,.inl rfl,trivial⟩) ?_
    refine qe rfl ?_
    refine z0c ?_
    refine z0b hN rfl ?_
    refine z0a (z0m z8k rfl) ?_
    refine z0h (z0l tyS3 rfl rfl) rfl ?_
    refine z0a (z2g rfl rfl) ?_
    refine qe rfl ?_
    refine z0w ?_
    refine z0c ?_
    refine z0b hN rfl ?_
    refine z0a (z0m y0b rfl) ?_
    refine z0h (z0l tyS3 rfl rfl) rfl ?_
    obtain ⟨r16,h17,H⟩:=bnd H
    refine z0a (z0z (y7f x11.At r16 h17) ⟨.inl rfl,trivial⟩) ?_
    refine z0a (z3s rfl) ?_
    refine qe rfl ?_
    refine z0k _ rfl (fun h18 => ?_) (fun h18 => ?_)
    ·replace H:=ift h18 H
     refine z0c ?_
     refine z0b hN rfl ?_
     refine qe rfl ?_
     refine z0t ?_
     replace H:=retl H hq9
     cases H
     exact ⟨trivial,.inl rfl,trivial⟩
    ·replace H:=iff_ h18 H
     refine z07 (ι:=Bool) (fun i=>[(1,.dat (vlst (List.map z1a v2))),(2,.dat (vlst (List.map z00 v3))),(3,.ptr 1 0),(8,.dat (vint (k8:Int))),(9,.ptr 2 0),(10,.dat (vint r14)),(11,.dat (z1p (decide (x11.Kind=1)))),(21,.dat (vlst (List.map z00 v3))),(22,.dat (vint (v3.length:Int))),(23,.dat (vint (k8:Int))),(40,.dat (z1p i))]) (fun i=>[(1,.box none 29 [.dat (vlst (List.map z0y v1.Products)),.dat (vlst (List.map z01 v1.Plans))]),(2,.box none 123 [.dat (vint x11.At),.dat (vstr x11.App),.dat (vstr x11.Product),.dat (vint x11.Kind),.dat (vstr x11.Plan)])]) (fun i=>z6u v1 v3 k8 x11 r14 i=some q9) (fun i=>rfl) ?_ ?_
     ·skip
      refine z0b hN rfl ?_
      refine qd rfl ?_
      refine z0a (z0m y3g rfl) ?_
      refine z0h (z0l tyS9 rfl rfl) rfl ?_
      obtain ⟨r19,h20,H⟩:=bnd H
      refine z0a (z0z (y5q v2 x11.App r19 h20) ⟨.inl rfl,.inl rfl,trivial⟩) ?_
      refine z0a (z03 rfl rfl) ?_
      refine qd rfl ?_
      refine z15 (j:=5) rfl rfl (fun h21 => ?_) (fun h21 => ?_) rfl
      ·have h22:=un3 h21
       replace H:=iff_ h22 H
       refine z5r rfl rfl h21 (z06 z5x rfl rfl rfl) rfl ?_
       refine z04 rfl rfl h21 (z0m y19 rfl) ?_
       refine z5r rfl rfl h21 (z0l tyS9 rfl rfl) rfl ?_
       obtain ⟨r23,h24,H⟩:=bnd H
       refine z04 rfl rfl h21 (z0z (y1p v1 x11.Product r23 h24) ⟨.inl rfl,.inl rfl,trivial⟩) ?_
       refine z04 rfl rfl h21 (z03 rfl rfl) ?_
       refine z0a (z1l rfl (bFF h22) rfl) ?_
       refine qe rfl ?_
       exact ⟨decide (r23 < 0),H,⟨rfl,rfl,rfl,rfl,rfl,rfl,rfl,rfl,rfl,rfl,rfl,trivial⟩,⟨rfl,rfl,trivial⟩⟩
      ·have h25:=un4 h21
       replace H:=ift h25 H
       refine z0n rfl rfl h21 ?_
       refine z0n rfl rfl h21 ?_
       refine z0n rfl rfl h21 ?_
       refine z0n rfl rfl h21 ?_
       refine z0n rfl rfl h21 ?_
       refine z0a (z1t rfl (bTT h25) rfl) ?_
       refine qe rfl ?_
       exact ⟨true,H,⟨rfl,rfl,rfl,rfl,rfl,rfl,rfl,rfl,rfl,rfl,rfl,trivial⟩,⟨rfl,rfl,trivial⟩⟩
     ·rintro v26 H
      replace H:z6u v1 v3 k8 x11 r14 v26=some q9:=H
      unfold z6u at H
      refine z0k _ rfl (fun h27 => ?_) (fun h27 => ?_)
      ·replace H:=ift h27 H
       refine z0c ?_
       refine z0b hN rfl ?_
       refine qe rfl ?_
       refine z0t ?_
       replace H:=retl H hq9
       cases H
       exact ⟨trivial,.inl rfl,trivial⟩
      ·replace H:=iff_ h27 H
       refine z0c ?_
       refine z0b hN rfl ?_
       refine z0a (z0m z8k rfl) ?_
       refine z0h (z0l tyS3 rfl rfl) rfl ?_
       obtain ⟨r28,h29,H⟩:=bnd H
       refine z0a (z0z (z67 x11.Kind 1 6 r28 h29) ⟨.inl rfl,.inl rfl,.inl rfl,trivial⟩) ?_
       refine z0a (z3s rfl) ?_
       refine qe rfl ?_
       refine z0k _ rfl (fun h30 => ?_) (fun h30 => ?_)
       ·replace H:=ift h30 H
        refine z0c ?_
        refine z0b hN rfl ?_
        refine qe rfl ?_
        refine z0t ?_
        replace H:=retl H hq9
        cases H
        exact ⟨trivial,.inl rfl,trivial⟩
       ·replace H:=iff_ h30 H
        refine z0c ?_
        refine z0b hN rfl ?_
        refine qd rfl ?_
        refine z0a (z3s rfl) ?_
        refine qd rfl ?_
        refine z4b rfl rfl (fun hc=>z0m y3f rfl) ?_
        refine y6d rfl rfl (fun hc=>z0l tyS9 (cnd (c:=(!(decide (x11.Kind=1)))) hc) rfl) rfl y5x ?_
        refine z4b rfl rfl (fun hc=>y4o (cnd (c:=(!(decide (x11.Kind=1)))) hc) rfl) ?_
        refine z0a (z25 rfl (fun hb=>(cnd (c:=(!(decide (x11.Kind=1)))) hb)) rfl) ?_
        refine qe rfl ?_
        refine z0k _ rfl (fun h31 => ?_) (fun h31 => ?_)
        ·replace H:=ift h31 H
         refine z0c ?_
         refine z0b hN rfl ?_
         refine qe rfl ?_
         refine z0t ?_
         replace H:=retl H hq9
         cases H
         exact ⟨trivial,.inl rfl,trivial⟩
        ·replace H:=iff_ h31 H
         refine z0c ?_
         refine z0b hN rfl ?_
         refine qd rfl ?_
         refine qd rfl ?_
         refine z4b rfl rfl (fun hc=>z0j (.dat _) rfl) ?_
         refine z4b rfl rfl (fun hc=>z03 (cnd (c:=(decide (x11.Kind=1))) hc) rfl) ?_
         refine z0a (z25 rfl (fun hb=>(cnd (c:=(decide (x11.Kind=1))) hb)) rfl) ?_
         refine qe rfl ?_
         refine z0k _ rfl (fun h32 => ?_) (fun h32 => ?_)
         ·replace H:=ift h32 H
          refine z0c ?_
          refine z0b hN rfl ?_
          refine qe rfl ?_
          refine z0t ?_
          replace H:=retl H hq9
          cases H
          exact ⟨trivial,.inl rfl,trivial⟩
         ·replace H:=iff_ h32 H
          refine z07 (ι:=Bool) (fun i=>[(1,.dat (vlst (List.map z1a v2))),(2,.dat (vlst (List.map z00 v3))),(3,.ptr 1 0),(8,.dat (vint (k8:Int))),(9,.ptr 2 0),(21,.dat (vlst (List.map z00 v3))),(22,.dat (vint (v3.length:Int))),(23,.dat (vint (k8:Int))),(72,.dat (z1p i))]) (fun i=>[(1,.box none 29 [.dat (vlst (List.map z0y v1.Products)),.dat (vlst (List.map z01 v1.Plans))]),(2,.box none 123 [.dat (vint x11.At),.dat (vstr x11.App),.dat (vstr x11.Product),.dat (vint x11.Kind),.dat (vstr x11.Plan)])]) (fun i=>z48 v3 k8 x11 i=some q9) (fun i=>rfl) ?_ ?_
          ·skip
           refine z2n mixed hN rfl rfl ?_
           refine qd rfl ?_
           refine qd rfl ?_
           refine z15 (j:=1) rfl rfl (fun h33 => ?_) (fun h33 => ?_) rfl
           ·have h34:=un1 h33
            replace H:=ift h34 H
            refine z04 rfl rfl h33 (z0m y0o rfl) ?_
            refine z5r rfl rfl h33 (z0l y57 rfl rfl) rfl ?_
            refine z04 rfl rfl h33 (z0j (.dat _) rfl) ?_
            obtain ⟨x35,h36,H⟩:=bnd H
            refine z04 rfl rfl h33 (y1q x0b (fun _=>rfl) rfl rfl h36) ?_
            refine z04 rfl rfl h33 (y20 x0a rfl) ?_
            refine z04 rfl rfl h33 (z24 tyS9 rfl (z3e (z1n h36).2) rfl) ?_
            refine z04 rfl rfl h33 (z0m y19 rfl) ?_
            refine z5r rfl rfl h33 (z0l tyS9 rfl rfl) rfl ?_
            refine z04 rfl rfl h33 (y4o rfl rfl) ?_
            refine z0a (z1t rfl (bTT h34) rfl) ?_
            refine qe rfl ?_
            refine ⟨rfl,?_⟩
            exact ⟨decide (x35.Product≠x11.Product),H,⟨rfl,rfl,rfl,rfl,rfl,rfl,rfl,rfl,rfl,trivial⟩,⟨rfl,rfl,trivial⟩⟩
           ·have h37:=un2 h33
            replace H:=iff_ h37 H
            refine z0n rfl rfl h33 ?_
            refine z0n rfl rfl h33 ?_
            refine z0n rfl rfl h33 ?_
            refine z0n rfl rfl h33 ?_
            refine z0n rfl rfl h33 ?_
            refine z0n rfl rfl h33 ?_
            refine z0n rfl rfl h33 ?_
            refine z0n rfl rfl h33 ?_
            refine z0n rfl rfl h33 ?_
            refine z0a (z1l rfl (bFF h37) rfl) ?_
            refine qe rfl ?_
            refine ⟨rfl,?_⟩
            exact ⟨false,H,⟨rfl,rfl,rfl,rfl,rfl,rfl,rfl,rfl,rfl,trivial⟩,⟨rfl,rfl,trivial⟩⟩
          ·rintro v38 H
           replace H:z48 v3 k8 x11 v38=some q9:=H
           unfold z48 at H
           refine z0k _ rfl (fun h39 => ?_) (fun h39 => ?_)
           ·replace H:=ift h39 H
            refine z0c ?_
            refine z0b hN rfl ?_
            refine qe rfl ?_
            refine z0t ?_
            replace H:=retl H hq9
            cases H
            exact ⟨trivial,.inl rfl,trivial⟩
           ·replace H:=iff_ h39 H
            refine z07 (ι:=Bool) (fun i=>[(1,.dat (vlst (List.map z1a v2))),(2,.dat (vlst (List.map z00 v3))),(3,.ptr 1 0),(21,.dat (vlst (List.map z00 v3))),(22,.dat (vint (v3.length:Int))),(23,.dat (vint (k8:Int))),(85,.dat (z1p i))]) (fun i=>[(1,.box none 29 [.dat (vlst (List.map z0y v1.Products)),.dat (vlst (List.map z01 v1.Plans))])]) (fun i=>z6t i=some q9) (fun i=>rfl) ?_ ?_
            ·skip
             refine z2n mixed hN rfl rfl ?_
             refine qd rfl ?_
             refine z0a (z4c rfl rfl) ?_
             refine qd rfl ?_
             refine z15 (j:=2) rfl rfl (fun h40 => ?_) (fun h40 => ?_) rfl
             ·have h41:=un1 h40
              replace H:=ift h41 H
              refine z04 rfl rfl h40 (z0j (.dat _) rfl) ?_
              refine z04 rfl rfl h40 (z0j (.dat _) rfl) ?_
              refine z04 rfl rfl h40 (y7j rfl rfl (by omega)) ?_
              obtain ⟨x42,h43,H⟩:=bnd H
              refine z04 rfl rfl h40 (y1q y6m (fun _=>rfl) rfl rfl h43) ?_
              refine z04 rfl rfl h40 (z2l z9s rfl (z3e (z1n h43).2) rfl) ?_
              refine z5r rfl rfl h40 (z06 z9s rfl rfl rfl) rfl ?_
              obtain ⟨r44,h45,H⟩:=bnd H
              refine z04 rfl rfl h40 (z0z (y3d x42 x11 r44 h45) ⟨.inl rfl,.inl rfl,trivial⟩) ?_
              refine z04 rfl rfl h40 (y5a rfl rfl) ?_
              refine z0a (z1t rfl (bTT h41) rfl) ?_
              refine qe rfl ?_
              refine ⟨rfl,?_⟩
              exact ⟨decide (0≤r44),H,⟨rfl,rfl,rfl,rfl,rfl,rfl,rfl,trivial⟩,⟨rfl,trivial⟩⟩
             ·have h46:=un2 h40
              replace H:=iff_ h46 H
              refine z0n rfl rfl h40 ?_
              refine z0n rfl rfl h40 ?_
              refine z0n rfl rfl h40 ?_
              refine z0n rfl rfl h40 ?_
              refine z0n rfl rfl h40 ?_
              refine z0n rfl rfl h40 ?_
              refine z0n rfl rfl h40 ?_
              refine z0n rfl rfl h40 ?_
              refine z0a (z1l rfl (bFF h46) rfl) ?_
              refine qe rfl ?_
              refine ⟨rfl,?_⟩
              exact ⟨false,H,⟨rfl,rfl,rfl,rfl,rfl,rfl,rfl,trivial⟩,⟨rfl,trivial⟩⟩
            ·rintro v47 H
             replace H:z6t v47=some q9:=H
             unfold z6t at H
             refine z0k _ rfl (fun h48 => ?_) (fun h48 => ?_)
             ·replace H:=ift h48 H
              refine z0c ?_
              refine z0b hN rfl ?_
              refine qe rfl ?_
              refine z0t ?_
              replace H:=retl H hq9
              cases H
              exact ⟨trivial,.inl rfl,trivial⟩
             ·replace H:=iff_ h48 H
              refine z0q ?_
              refine z0b hN rfl ?_
              refine z0a (z3h rfl rfl (by omega)) ?_
              refine qd rfl ?_
              exact ⟨_,z5d H,⟨rfl,rfl,rfl,rfl,rfl,rfl,trivial⟩,⟨rfl,trivial⟩⟩
theorem x0o (s1:z0d) (many2:Int) (r:(z0i×(List z0s)×(List z0f)×Int×z0d)) (H:y12 s1 many2=some r):Imp Tryz.prog 4 25 (z0x s1) [vint many2] (z1x [vagg (z1h r.1),vlst (List.map z1a r.2.1),vlst (List.map z00 r.2.2.1),vint r.2.2.2.1]) (z0x r.2.2.2.2):=by
 refine y45 (us:=[vagg (z1h r.1),vlst (List.map z1a r.2.1),vlst (List.map z00 r.2.2.1),vint r.2.2.2.1]) (cs':=(z0x r.2.2.2.2)) (by kernel_rfl) Tryz.func4 rfl rfl rfl rfl fun X bl hN => ?_
 unfold y12 at H
 refine z0c ?_
 refine z0b hN rfl ?_
 refine z0g (z1m 1 y72 rfl) rfl ?_
 refine qe rfl ?_
 refine qe rfl ?_
 refine qe rfl ?_
 refine z0c ?_
 refine z0b hN rfl ?_
 refine z0a (z0j (.ptr _ _) rfl) ?_
 obtain ⟨r3,h4,H⟩:=bnd H
 refine z0g (z1f (y62 s1 r3 h4) rfl trivial rfl) rfl ?_
 refine z0a (z0j (.ptr _ _) rfl) ?_
 obtain ⟨r5,h6,H⟩:=bnd H
 refine z0g (z1f (y7z r3.2 r5 h6) rfl trivial rfl) rfl ?_
 refine z0g (z1m 2 y72 rfl) rfl ?_
 refine z0g (z08 z5x rfl rfl rfl rfl) rfl ?_
 refine qe rfl ?_
 refine z0c ?_
 refine z0b hN rfl ?_
 refine z0a (z0j (.ptr _ _) rfl) ?_
 refine z0h (z06 z5x rfl rfl rfl) rfl ?_
 refine qd rfl ?_
 refine qd rfl ?_
 obtain ⟨r7,h8,H⟩:=bnd H
 refine z0g (z1f (y7h r5.2 r3.1 r5.1 many2 r7 h8) rfl ⟨.inl rfl,.inl rfl,.inl rfl,trivial⟩ rfl) rfl ?_
 refine qe rfl ?_
 refine z0c ?_
 refine z2n mixed hN rfl rfl ?_
 refine z0h (z06 z5x rfl rfl rfl) rfl ?_
 refine qd rfl ?_
 refine qd rfl ?_
 refine z0h (z06 z5x rfl rfl rfl) rfl ?_
 refine qd rfl ?_
 refine qd rfl ?_
 obtain ⟨r9,h10,H⟩:=bnd H
 refine z0a (z0z (y7y r3.1 r5.1 r7.1 r9 h10) ⟨.inl rfl,.inl rfl,.inl rfl,trivial⟩) ?_
 refine z0g (z08 z5x rfl rfl rfl rfl) rfl ?_
 refine qe rfl ?_
 refine qe rfl ?_
 refine qe rfl ?_
 refine ⟨rfl,?_⟩
 refine z0t ?_
 cases H
 exact ⟨trivial,⟨.inl ⟨_,_,_,z1h r3.1,rfl,rfl,rfl,rfl,z5x⟩,.inl rfl,.inl rfl,.inl rfl,trivial⟩,rfl⟩
theorem y54 (s1:z0d) (apps2:(List z0s)) (r:((List z0e)×z0d)) (H:z6c s1 apps2=some r):FnG Tryz.prog 29 [.ptr 0 0,.dat (vlst (List.map z1a apps2))] [(0,.box (some 0) 25 (List.map .dat (z0x s1)))] (.row 1 r.1.length) [(0,.box (some 0) 25 (List.map .dat (z0x r.2))),(1,.row 57 4 (List.map z0v r.1))]:=by
 refine y5v (by kernel_rfl) Tryz.func29 rfl rfl rfl rfl fun X A hN => ?_
 unfold z6c at H
 refine z0c ?_
 refine z0b hN rfl ?_
 refine qe rfl ?_
 refine z0c ?_
 refine z0b hN rfl ?_
 refine qe rfl ?_
 refine z0c ?_
 refine z0c ?_
 refine z0b hN rfl ?_
 refine qd rfl ?_
 refine z0w ?_
 refine y2w 5 1 57 4 rfl rfl rfl ?_
 obtain ⟨h8,H⟩:=gif H
 refine y65 (fun (k6:Nat) (s:(List Int)×Int×(List z0e))=>[(0,.ptr 0 0),(1,.dat (vlst (List.map z1a apps2))),(5,.row 1 s.2.2.length),(11,.dat (vint (k6:Int)))]) (fun (k6:Nat) (s:(List Int)×Int×(List z0e))=>[(0,.box (some (A.bl 0)) 25 [.dat (vlst (List.map z5a s.1)),.dat (vint s.2.1)]),(1,.row 57 4 (List.map z0v s.2.2))]) (s1.L,s1.at_,[]) H ⟨rfl,rfl,rfl,rfl,trivial⟩ ⟨rfl,rfl,trivial⟩ (fun _ _=>rfl) ?_ ?_
 ·rintro ⟨c3,c4,l5⟩ H
  replace H:y0i c3 c4 l5=some r:=H
  unfold y0i at H
  refine z0c ?_
  refine z0b hN rfl ?_
  refine z0a (z03 rfl rfl) ?_
  refine z0c ?_
  refine z0k _ rfl (fun h=>(lt_t h).elim) (fun h => ?_)
  refine z1j ?_
  refine z0c ?_
  refine z0b hN rfl ?_
  refine z0a (z0j (.row _ _) rfl) ?_
  refine z0a (z1o (.row _ _) rfl) ?_
  refine z0t ?_
  cases H
  exact ⟨trivial,[(4,.row 1 _)],⟨rfl,trivial⟩,⟨rfl,rfl,trivial⟩,rfl,.inr (.inl ⟨4,rfl,rfl⟩)⟩
 ·rintro k6 ⟨c3,c4,l5⟩ q7 h9 H hq7
  replace H:z7p apps2 k6 c3 c4 l5=some q7:=H
  unfold z7p at H
  refine z0c ?_
  refine z0b hN rfl ?_
  refine z0a (z03 rfl rfl) ?_
  refine z0c ?_
  refine z0k _ rfl (fun h => ?_) (fun h=>(lt_f h9 h).elim)
  refine z0q ?_
  refine z0c ?_
  refine z0w ?_
  refine z0c ?_
  refine z0b hN rfl ?_
  refine qd rfl ?_
  refine qe rfl ?_
  refine z0c ?_
  refine z0b hN rfl ?_
  refine qd rfl ?_
  refine z0a (z5b x3t rfl) ?_
  refine qd rfl ?_
  refine z0w ?_
  obtain ⟨h15,H⟩:=gif H
  refine z32 (fun (k13:Nat) (s:(List Int)×Int×(List z0e))=>[(0,.ptr 0 0),(1,.dat (vlst (List.map z1a apps2))),(5,.row 1 s.2.2.length),(6,.dat (vint (k6:Int))),(11,.dat (vint (k6:Int))),(14,.dat (vlst (List.map z1a apps2))),(15,.dat (vint (apps2.length:Int))),(16,.dat (vint (k13:Int)))]) (fun (k13:Nat) (s:(List Int)×Int×(List z0e))=>[(0,.box (some (A.bl 0)) 25 [.dat (vlst (List.map z5a s.1)),.dat (vint s.2.1)]),(1,.row 57 4 (List.map z0v s.2.2))]) (c3,c4,l5) H ⟨rfl,rfl,rfl,rfl,rfl,rfl,rfl,rfl,trivial⟩ ⟨rfl,rfl,trivial⟩ (fun _ _=>rfl) ?_ ?_
  ·rintro ⟨c10,c11,l12⟩ H
   replace H:y0h c10 c11 l12=some q7:=H
   unfold y0h at H
   refine z0c ?_
   refine z0b hN rfl ?_
   refine z0a (z03 rfl rfl) ?_
   refine z0c ?_
   refine z0k _ rfl (fun h=>(lt_t h).elim) (fun h => ?_)
   refine z1j ?_
   refine z0b hN rfl ?_
   refine z0a (z3h rfl rfl (by omega)) ?_
   refine qd rfl ?_
   exact ⟨_,z5d H,⟨rfl,rfl,rfl,rfl,trivial⟩,⟨rfl,rfl,trivial⟩⟩
  ·rintro k13 x16 ⟨c10,c11,l12⟩ q14 h17 h18 H hq14
   replace H:z7o k6 k13 x16 c10 c11 l12=some q14:=H
   unfold z7o at H
   refine z0c ?_
   refine z0b hN rfl ?_
   refine z0a (z03 rfl rfl) ?_
   refine z0c ?_
   refine z0k _ rfl (fun h => ?_) (fun h=>(lt_f h17 h).elim)
   refine z0q ?_
   refine z0c ?_
   refine z0w ?_
   refine z0c ?_
   refine z0b hN rfl ?_
   refine z0a (y2a x30 (fun _=>rfl) rfl rfl h18) ?_
   refine z0a (z2l y9l rfl (z3e h18) rfl) ?_
   refine z0g (z1m 2 x1n rfl) rfl ?_
   refine z0g (z08 y9l rfl rfl rfl rfl) rfl ?_
   refine z0c ?_
   refine z0b hN rfl ?_
   refine z0a (z09 (u':=vlst (List.map z1k [[109,97,112,115],[115,104,111,112]])) (z1w [[_],[_]] z83 ⟨rfl,.inl ⟨_,rfl,rfl,rfl⟩,rfl,rfl,.inl ⟨_,rfl,rfl,rfl⟩,rfl,trivial⟩ rfl rfl) rfl) ?_
   refine z0a (z5b y4g rfl) ?_
   refine qd rfl ?_
   refine z0w ?_
   obtain ⟨h24,H⟩:=gif H
   refine z32 (fun (k22:Nat) (s:(List Int)×Int×(List z0e))=>[(0,.ptr 0 0),(1,.dat (vlst (List.map z1a apps2))),(5,.row 1 s.2.2.length),(6,.dat (vint (k6:Int))),(8,.ptr 2 0),(11,.dat (vint (k6:Int))),(14,.dat (vlst (List.map z1a apps2))),(15,.dat (vint (apps2.length:Int))),(16,.dat (vint (k13:Int))),(20,.dat (vlst (List.map z1k ([[109,97,112,115],[115,104,111,112]])))),(21,.dat (vint (([[109,97,112,115],[115,104,111,112]]).length:Int))),(22,.dat (vint (k22:Int)))]) (fun (k22:Nat) (s:(List Int)×Int×(List z0e))=>[(0,.box (some (A.bl 0)) 25 [.dat (vlst (List.map z5a s.1)),.dat (vint s.2.1)]),(1,.row 57 4 (List.map z0v s.2.2)),(2,.box none 102 [.dat (vstr x16.Key),.dat (vstr x16.Owner)])]) (c10,c11,l12) H ⟨rfl,rfl,rfl,rfl,rfl,rfl,rfl,rfl,rfl,rfl,rfl,rfl,trivial⟩ ⟨rfl,rfl,rfl,trivial⟩ (fun _ _=>rfl) ?_ ?_
   ·rintro ⟨c19,c20,l21⟩ H
    replace H:y0g c19 c20 l21=some q14:=H
    unfold y0g at H
    refine z0c ?_
    refine z0b hN rfl ?_
    refine z0a (z03 rfl rfl) ?_
    refine z0c ?_
    refine z0k _ rfl (fun h=>(lt_t h).elim) (fun h => ?_)
    refine z1j ?_
    refine z0b hN rfl ?_
    refine z0a (z3h rfl rfl (by omega)) ?_
    refine qd rfl ?_
    exact ⟨_,z5d H,⟨rfl,rfl,rfl,rfl,rfl,rfl,rfl,rfl,trivial⟩,⟨rfl,rfl,trivial⟩⟩
   ·rintro k22 x25 ⟨c19,c20,l21⟩ q23 h26 h27 H hq23
    replace H:z7n k6 x16 k22 x25 c19 c20 l21=some q23:=H
    unfold z7n at H
    refine z0c ?_
    refine z0b hN rfl ?_
    refine z0a (z03 rfl rfl) ?_
    refine z0c ?_
    refine z0k _ rfl (fun h => ?_) (fun h=>(lt_f h26 h).elim)
    refine z0q ?_
    refine z07 (ι:=(List z0e)×(List Int)×Int) (fun i=>[(0,.ptr 0 0),(1,.dat (vlst (List.map z1a apps2))),(5,.row 1 i.1.length),(6,.dat (vint (k6:Int))),(8,.ptr 2 0),(11,.dat (vint (k6:Int))),(14,.dat (vlst (List.map z1a apps2))),(15,.dat (vint (apps2.length:Int))),(16,.dat (vint (k13:Int))),(20,.dat (vlst (List.map z1k ([[109,97,112,115],[115,104,111,112]])))),(21,.dat (vint (([[109,97,112,115],[115,104,111,112]]).length:Int))),(22,.dat (vint (k22:Int)))]) (fun i=>[(0,.box (some (A.bl 0)) 25 [.dat (vlst (List.map z5a i.2.1)),.dat (vint i.2.2)]),(1,.row 57 4 (List.map z0v i.1)),(2,.box none 102 [.dat (vstr x16.Key),.dat (vstr x16.Owner)])]) (fun i=>z4n i.1 i.2.1 i.2.2=some q23) (fun i=>rfl) ?_ ?_
    ·skip
     refine z0w ?_
     refine z0c ?_
     refine z0b hN rfl ?_
     refine z0a (y2a y74 (fun _=>rfl) rfl rfl h27) ?_
     refine z0a (z24 tyS9 rfl (z3e h27) rfl) ?_
     refine qe rfl ?_
     refine z0c ?_
     refine z0b hN rfl ?_
     refine z0a (z0j (.ptr _ _) rfl) ?_
     obtain ⟨r28,h29,H⟩:=bnd H
     refine z0g (z1f (z1v (z0d.mk c19 c20) 2 r28 h29) rfl ⟨.inl rfl,trivial⟩ rfl) rfl ?_
     refine z0k _ rfl (fun h30 => ?_) (fun h30 => ?_)
     ·replace H:=ift h30 H
      refine z2n mixed hN rfl rfl ?_
      refine z0a (z0j (.row _ _) rfl) ?_
      refine z0a (z0m y5e rfl) ?_
      refine z0h (z0l tyS9 rfl rfl) rfl ?_
      refine qd rfl ?_
      refine qd rfl ?_
      refine z0a (z0j (.ptr _ _) rfl) ?_
      refine z0a (z09 (u':=vlst (List.map z5a [0,5,10,11,100,150,1000])) (z1w [[_],[_],[_],[_],[_],[_],[_]] y3v ⟨rfl,.inl ⟨_,rfl,rfl,rfl⟩,rfl,rfl,.inl ⟨_,rfl,rfl,rfl⟩,rfl,rfl,.inl ⟨_,rfl,rfl,rfl⟩,rfl,rfl,.inl ⟨_,rfl,rfl,rfl⟩,rfl,rfl,.inl ⟨_,rfl,rfl,rfl⟩,rfl,rfl,.inl ⟨_,rfl,rfl,rfl⟩,rfl,rfl,.inl ⟨_,rfl,rfl,rfl⟩,rfl,trivial⟩ rfl rfl) rfl) ?_
      obtain ⟨r31,h32,H⟩:=bnd H
      refine z0g (z1f (z1b r28.2 [0,5,10,11,100,150,1000] r31 h32) rfl ⟨.inl rfl,trivial⟩ rfl) rfl ?_
      refine z0a (z09 (u':=vagg (z0v (z0e.mk x16.Key x25 (k6:Int) r31.1))) (z3k [(0,[vstr x16.Key]),(1,[vstr x25]),(2,[vint (k6:Int)]),(3,[vint r31.1])] x3s w56 rfl ⟨rfl,.inl ⟨_,rfl,rfl,rfl⟩,rfl,rfl,.inl ⟨_,rfl,rfl,rfl⟩,rfl,rfl,.inl ⟨_,rfl,rfl,rfl⟩,rfl,rfl,.inl ⟨_,rfl,rfl,rfl⟩,rfl,trivial⟩) rfl) ?_
      refine z0a (z09 (u':=vlst (List.map z0v [(z0e.mk x16.Key x25 (k6:Int) r31.1)])) (z1w [_] x5l ⟨rfl,.inr rfl,rfl,trivial⟩ rfl rfl) rfl) ?_
      obtain ⟨h33,H⟩:=gif H
      refine z0g (y7t x5l (fun _=>rfl) rfl rfl rfl ⟨by simp,by first | (simp; done) | simpa using h33⟩ rfl) rfl ?_
      refine z0a (z1o (.row _ _) rfl) ?_
      refine ⟨rfl,?_⟩
      exact ⟨((l21++[(z0e.mk x16.Key x25 (k6:Int) r31.1)]),r31.2.L,r31.2.at_),H,⟨rfl,rfl,rfl,rfl,rfl,rfl,rfl,rfl,rfl,rfl,rfl,rfl,trivial⟩,⟨rfl,rfl,rfl,trivial⟩⟩
     ·replace H:=iff_ h30 H
      refine z0q ?_
      exact ⟨(l21,r28.2.L,r28.2.at_),H,⟨rfl,rfl,rfl,rfl,rfl,rfl,rfl,rfl,rfl,rfl,rfl,rfl,trivial⟩,⟨rfl,rfl,rfl,trivial⟩⟩
    ·rintro ⟨out34,c35,c36⟩ H
     replace H:z4n out34 c35 c36=some q23:=H
     unfold z4n at H
     refine z0b hN rfl ?_
     refine z0a (z3h rfl rfl (by omega)) ?_
     refine qd rfl ?_
     exact ⟨_,z5d H,⟨rfl,rfl,rfl,rfl,rfl,rfl,rfl,rfl,rfl,rfl,rfl,rfl,trivial⟩,⟨rfl,rfl,rfl,trivial⟩⟩
theorem y43 (s1:z0d) (apps2:(List z0s)) (r:((List z0e)×z0d)) (H:z64 s1 apps2=some r):Imp Tryz.prog 6 25 (z0x s1) [vlst (List.map z1a apps2)] (z1x [vlst (List.map z0v r.1)]) (z0x r.2):=by
 refine y45 (us:=[vlst (List.map z0v r.1)]) (cs':=(z0x r.2)) (by kernel_rfl) Tryz.func6 rfl rfl rfl rfl fun X bl hN => ?_
 unfold z64 at H
 refine z0c ?_
 refine z0b hN rfl ?_
 refine qe rfl ?_
 refine z0c ?_
 refine z0b hN rfl ?_
 refine z0a (z0j (.ptr _ _) rfl) ?_
 refine qd rfl ?_
 obtain ⟨r3,h4,H⟩:=bnd H
 refine z4y (rn [(0,0),(1,1)]) [(0,_,_,some _)] [(1,_)] (y54 s1 apps2 r3 h4) ⟨rfl,rfl,trivial⟩ ⟨.inl (.inl rfl),.inl (.inl rfl),trivial⟩ ⟨⟨⟨rfl,rfl⟩,trivial⟩,trivial⟩ rfl ?_
 refine z0a (z1o (.row _ _) rfl) ?_
 refine z07 (ι:=(List z0e)×(List Int)×Int) (fun i=>[(5,.row 1 i.1.length)]) (fun i=>[(0,.box (some bl) 25 [.dat (vlst (List.map z5a i.2.1)),.dat (vint i.2.2)]),(1,.row 57 4 (List.map z0v i.1))]) (fun i=>z6v i.1 i.2.1 i.2.2=some r) (fun i=>rfl) ?_ ?_
 ·skip
  refine z07 (ι:=Bool×(List Int)×Int) (fun i=>[(0,.ptr 0 0),(5,.row 1 r3.1.length),(16,.dat (z1p i.1))]) (fun i=>[(0,.box (some bl) 25 [.dat (vlst (List.map z5a i.2.1)),.dat (vint i.2.2)]),(1,.row 57 4 (List.map z0v r3.1))]) (fun i=>z49 r3 i.1 i.2.1 i.2.2=some r) (fun i=>rfl) ?_ ?_
  ·skip
   refine z0b hN rfl ?_
   refine z0a (z0j (.row _ _) rfl) ?_
   refine z0h (y6r y67 rfl rfl) rfl ?_
   refine z0a (z4c rfl rfl) ?_
   refine qd rfl ?_
   refine z15 (j:=3) rfl rfl (fun h5 => ?_) (fun h5 => ?_) rfl
   ·have h6:=un1 h5
    replace H:=ift h6 H
    refine z04 rfl rfl h5 (z0j (.ptr _ _) rfl) ?_
    obtain ⟨r7,h8,H⟩:=bnd H
    refine x8a rfl rfl h5 (z1f (z1v r3.2 15 r7 h8) rfl ⟨.inl rfl,trivial⟩ rfl) rfl ?_
    refine z0a (z1t rfl (bTT h6) rfl) ?_
    exact ⟨(r7.1,r7.2.L,r7.2.at_),H,⟨rfl,rfl,rfl,trivial⟩,⟨rfl,rfl,trivial⟩⟩
   ·have h9:=un2 h5
    replace H:=iff_ h9 H
    refine z0n rfl rfl h5 ?_
    refine z0n rfl rfl h5 ?_
    refine z0a (z1l rfl (bFF h9) rfl) ?_
    exact ⟨(false,r3.2.L,r3.2.at_),H,⟨rfl,rfl,rfl,trivial⟩,⟨rfl,rfl,trivial⟩⟩
  ·rintro ⟨v10,c11,c12⟩ H
   replace H:z49 r3 v10 c11 c12=some r:=H
   unfold z49 at H
   refine z0k _ rfl (fun h13 => ?_) (fun h13 => ?_)
   ·replace H:=ift h13 H
    refine z0c ?_
    refine z0b hN rfl ?_
    refine z0a (z0j (.row _ _) rfl) ?_
    refine z0a (z0j (.ptr _ _) rfl) ?_
    refine z0a (z0j (.row _ _) rfl) ?_
    refine z0h (y6r y67 rfl rfl) rfl ?_
    obtain ⟨r14,h15,H⟩:=bnd H
    refine z0g (z1f (z3g (z0d.mk c11 c12) (r3.1.length:Int) r14 h15) rfl ⟨.inl rfl,trivial⟩ rfl) rfl ?_
    obtain ⟨x16,h17,H⟩:=bnd H
    refine z0h (y49 y1k rfl rfl rfl h17) rfl ?_
    refine z0a (z1o (.rptr _ _ _ _ _) rfl) ?_
    refine z0b hN rfl ?_
    refine z0a (z0j (.rptr _ _ _ _ _) rfl) ?_
    refine z0a (z0j (.rptr _ _ _ _ _) rfl) ?_
    refine z0a (z0j (.rptr _ _ _ _ _) rfl) ?_
    refine z0a (z0j (.ptr _ _) rfl) ?_
    refine z0a (z0j (.rptr _ _ _ _ _) rfl) ?_
    refine z0a (y33 rfl) ?_
    refine z0a (y1m y6y rfl) ?_
    refine z0h (x1d tyS9 rfl rfl (z1n h17).2 rfl) rfl ?_
    refine z0a (z09 (u':=vlst (List.map z1k [x16.App,[110,111,110,101]])) (z1w [[_],[_]] z83 ⟨rfl,.inl ⟨_,rfl,rfl,rfl⟩,rfl,rfl,.inl ⟨_,rfl,rfl,rfl⟩,rfl,trivial⟩ rfl rfl) rfl) ?_
    obtain ⟨r18,h19,H⟩:=bnd H
    refine z0g (z1f (z1r r14.2 ([x16.App,[110,111,110,101]]) r18 h19) rfl ⟨.inl rfl,trivial⟩ rfl) rfl ?_
    refine z0a (z0j (.ptr _ _) rfl) ?_
    obtain ⟨r20,h21,H⟩:=bnd H
    refine z0g (z1f (z3o r18.2 0 132 r20 h21) rfl ⟨.inl rfl,.inl rfl,trivial⟩ rfl) rfl ?_
    refine z0a (z0j (.ptr _ _) rfl) ?_
    obtain ⟨r22,h23,H⟩:=bnd H
    refine z0g (z1f (z3o r20.2 0 1000 r22 h23) rfl ⟨.inl rfl,.inl rfl,trivial⟩ rfl) rfl ?_
    refine z0a (y33 rfl) ?_
    refine z0a (y1m y6y rfl) ?_
    refine z0g (y4m (z0e.mk r18.1 x16.Product x16.Month x16.Calls) tyS9 rfl rfl rfl rfl (z1n h17).2 rfl rfl) rfl ?_
    refine z0a (y33 rfl) ?_
    refine z0a (y1m y58 rfl) ?_
    refine z0g (y4m (z0e.mk r18.1 x16.Product r20.1 x16.Calls) tyS3 rfl rfl rfl (by simp) (x5q (z1n h17).2) rfl rfl) rfl ?_
    refine z0a (y33 rfl) ?_
    refine z0a (y1m y48 rfl) ?_
    refine z0g (y4m (z0e.mk r18.1 x16.Product r20.1 r22.1) tyS3 rfl rfl rfl (by simp) (x5q (x5q (z1n h17).2)) rfl rfl) rfl ?_
    exact ⟨((((r3.1.set r14.1.toNat (z0e.mk r18.1 x16.Product x16.Month x16.Calls)).set r14.1.toNat (z0e.mk r18.1 x16.Product r20.1 x16.Calls)).set r14.1.toNat (z0e.mk r18.1 x16.Product r20.1 r22.1)),r22.2.L,r22.2.at_),H,⟨congrArg (Slot.row 1) (by simp),trivial⟩,⟨rfl,rfl,trivial⟩⟩
   ·replace H:=iff_ h13 H
    refine z0q ?_
    exact ⟨(r3.1,c11,c12),H,⟨rfl,trivial⟩,⟨rfl,rfl,trivial⟩⟩
 ·rintro ⟨out24,c25,c26⟩ H
  replace H:z6v out24 c25 c26=some r:=H
  unfold z6v at H
  refine z0c ?_
  refine z0b hN rfl ?_
  refine z0a (z0j (.row _ _) rfl) ?_
  refine z0a (z1o (.row _ _) rfl) ?_
  refine z0t ?_
  cases H
  exact ⟨trivial,⟨y75 rfl rfl,trivial⟩,rfl⟩
theorem y5r (s1:z0d) (r:(Int×z0d)) (H:z5c s1=some r):Imp Tryz.prog 9 25 (z0x s1) [] (z1x [vint r.1]) (z0x r.2):=by
 refine y45 (us:=[vint r.1]) (cs':=(z0x r.2)) (by kernel_rfl) Tryz.func9 rfl rfl rfl rfl fun X bl hN => ?_
 unfold z5c at H
 refine z0c ?_
 refine z0b hN rfl ?_
 refine qe rfl ?_
 refine z0c ?_
 refine z0b hN rfl ?_
 refine z0a (z0j (.ptr _ _) rfl) ?_
 refine z0a (z09 (u':=vlst (List.map z5a [0,1,2,3])) (z1w [[_],[_],[_],[_]] y3v ⟨rfl,.inl ⟨_,rfl,rfl,rfl⟩,rfl,rfl,.inl ⟨_,rfl,rfl,rfl⟩,rfl,rfl,.inl ⟨_,rfl,rfl,rfl⟩,rfl,rfl,.inl ⟨_,rfl,rfl,rfl⟩,rfl,trivial⟩ rfl rfl) rfl) ?_
 obtain ⟨r2,h3,H⟩:=bnd H
 refine z0g (z1f (z1b s1 [0,1,2,3] r2 h3) rfl ⟨.inl rfl,trivial⟩ rfl) rfl ?_
 refine z0a (z05 _ rfl rfl (.inr (.inr ⟨rfl,rfl⟩))) ?_
 refine z0a (z0j (.ptr _ _) rfl) ?_
 refine z0a (z09 (u':=vlst (List.map z5a [0,0,1,14,15,29])) (z1w [[_],[_],[_],[_],[_],[_]] y3v ⟨rfl,.inl ⟨_,rfl,rfl,rfl⟩,rfl,rfl,.inl ⟨_,rfl,rfl,rfl⟩,rfl,rfl,.inl ⟨_,rfl,rfl,rfl⟩,rfl,rfl,.inl ⟨_,rfl,rfl,rfl⟩,rfl,rfl,.inl ⟨_,rfl,rfl,rfl⟩,rfl,rfl,.inl ⟨_,rfl,rfl,rfl⟩,rfl,trivial⟩ rfl rfl) rfl) ?_
 obtain ⟨r4,h5,H⟩:=bnd H
 refine z0g (z1f (z1b r2.2 [0,0,1,14,15,29] r4 h5) rfl ⟨.inl rfl,trivial⟩ rfl) rfl ?_
 refine z0a (z05 _ rfl rfl (.inr (.inr ⟨rfl,rfl⟩))) ?_
 refine z0a (z05 _ rfl rfl (.inl ⟨rfl,rfl⟩)) ?_
 refine z0a (z0j (.ptr _ _) rfl) ?_
 refine z0a (z09 (u':=vlst (List.map z5a [0,1,1000,(-1)])) (z1w [[_],[_],[_],[_]] y3v ⟨rfl,.inl ⟨_,rfl,rfl,rfl⟩,rfl,rfl,.inl ⟨_,rfl,rfl,rfl⟩,rfl,rfl,.inl ⟨_,rfl,rfl,rfl⟩,rfl,rfl,.inl ⟨_,rfl,rfl,rfl⟩,rfl,trivial⟩ rfl rfl) rfl) ?_
 obtain ⟨r6,h7,H⟩:=bnd H
 refine z0g (z1f (z1b r4.2 [0,1,1000,(-1)] r6 h7) rfl ⟨.inl rfl,trivial⟩ rfl) rfl ?_
 refine z0a (z05 _ rfl rfl (.inl ⟨rfl,rfl⟩)) ?_
 refine qe rfl ?_
 refine z0t ?_
 cases H
 exact ⟨trivial,⟨.inl rfl,trivial⟩,rfl⟩
theorem y4r (n:Int) (r:List z0e) (H:y3k n=some r):FnG Tryz.prog 75 [.dat vnil,.dat (vint n)] [] (.row 900 r.length) [(900,.row 57 4 (List.map z0v r))]:=by
 obtain ⟨h0,h1,rfl⟩:=w18 H
 exact w4u Tryz.grow75 rfl rfl x5l rfl (by kernel_rfl) n h0 h1
theorem z9m (data1:(List z0e)) (a2:Int) (b3:Int) (p3:z0e→z0e→Option (Int)) (fv3:Nat) (us3:List V) (hp3:∀ a0 a1 r,p3 a0 a1=some r→Fn Tryz.prog fv3 ([vagg (z0v a0),vagg (z0v a1)]++us3) (z1x [vint r])) (r:((List z0e))) (H:z2h data1 a2 b3 p3=some r):FnG Tryz.prog 108 [.row 0 data1.length,.dat (vint a2),.dat (vint b3),.dat (vfn fv3 us3)] [(0,.rowA undef 57 4 (List.map z0v data1))] (.dat (z1x [])) [(0,.rowA undef 57 4 (List.map z0v r))]:=by
 refine y5v (by kernel_rfl) Tryz.func108 rfl rfl rfl rfl fun X A hN => ?_
 unfold z2h at H
 refine z0c ?_
 refine z0b hN rfl ?_
 refine qd rfl ?_
 refine z0a (z05 _ rfl rfl (.inl ⟨rfl,rfl⟩)) ?_
 refine qe rfl ?_
 refine z0w ?_
 refine z9e (fun (s:Int×(List z0e))=>[(0,.row 0 s.2.length),(1,.dat (vint a2)),(2,.dat (vint b3)),(3,.dat (vfn fv3 us3)),(8,.dat (vint s.1))]) (fun (s:Int×(List z0e))=>[(0,.rowA (A.vl 0) 57 4 (List.map z0v s.2))]) (wr (a2+1),data1) H ⟨rfl,rfl,rfl,rfl,rfl,trivial⟩ ⟨rfl,trivial⟩ (fun _=>rfl) ?_
 rintro ⟨i4,l5⟩ q6 H hq6
 replace H:z4e a2 b3 p3 i4 l5=some q6:=H
 unfold z4e at H
 refine z0c ?_
 refine z0c ?_
 refine z0b hN rfl ?_
 refine qd rfl ?_
 refine qd rfl ?_
 refine z0a (z03 rfl rfl) ?_
 refine z0k _ rfl (fun h7 => ?_) (fun h7 => ?_)
 ·replace H:=ift h7 H
  refine z0q ?_
  refine z07 (ι:=(List z0e)) (fun i=>[(0,.row 0 i.length),(1,.dat (vint a2)),(2,.dat (vint b3)),(3,.dat (vfn fv3 us3)),(8,.dat (vint i4))]) (fun i=>[(0,.rowA (A.vl 0) 57 4 (List.map z0v i))]) (fun i=>z2b i4 i=some q6) (fun i=>rfl) ?_ ?_
  ·skip
   refine z0w ?_
   refine z0c ?_
   refine z0b hN rfl ?_
   refine qd rfl ?_
   refine qe rfl ?_
   refine z0w ?_
   refine z9e (fun (s:Int×(List z0e))=>[(0,.row 0 s.2.length),(1,.dat (vint a2)),(2,.dat (vint b3)),(3,.dat (vfn fv3 us3)),(8,.dat (vint i4)),(9,.dat (vint s.1))]) (fun (s:Int×(List z0e))=>[(0,.rowA (A.vl 0) 57 4 (List.map z0v s.2))]) (i4,l5) H ⟨rfl,rfl,rfl,rfl,rfl,rfl,trivial⟩ ⟨rfl,trivial⟩ (fun _=>rfl) ?_
   rintro ⟨j8,l9⟩ q10 H hq10
   replace H:z4d a2 p3 i4 j8 l9=some q10:=H
   unfold z4d at H
   refine z0c ?_
   refine z07 (ι:=Bool) (fun i=>[(0,.row 0 l9.length),(1,.dat (vint a2)),(2,.dat (vint b3)),(3,.dat (vfn fv3 us3)),(8,.dat (vint i4)),(9,.dat (vint j8)),(34,.dat (z1p i))]) (fun i=>[(0,.rowA (A.vl 0) 57 4 (List.map z0v l9))]) (fun i=>z2a i4 j8 l9 i=some q10) (fun i=>rfl) ?_ ?_
   ·skip
    refine z2n mixed hN rfl rfl ?_
    refine qd rfl ?_
    refine qd rfl ?_
    refine z0a (z4c rfl rfl) ?_
    refine qd rfl ?_
    refine z15 (j:=3) rfl rfl (fun h11 => ?_) (fun h11 => ?_) rfl
    ·have h12:=un1 h11
     replace H:=ift h12 H
     refine z04 rfl rfl h11 (z0j (.dat _) rfl) ?_
     refine z04 rfl rfl h11 (z0j (.row _ _) rfl) ?_
     refine z04 rfl rfl h11 (z0j (.dat _) rfl) ?_
     obtain ⟨x13,h14,H⟩:=bnd H
     refine z5r rfl rfl h11 (z7q y1k rfl rfl rfl h14) rfl ?_
     refine z5r rfl rfl h11 (z86 y0a rfl rfl (z1n h14).2 rfl) rfl ?_
     refine z04 rfl rfl h11 (z0j (.row _ _) rfl) ?_
     refine z04 rfl rfl h11 (z0j (.dat _) rfl) ?_
     refine z04 rfl rfl h11 (z05 _ rfl rfl (.inr (.inl ⟨rfl,rfl⟩))) ?_
     obtain ⟨x15,h16,H⟩:=bnd H
     refine z5r rfl rfl h11 (z7q y1k rfl rfl rfl h16) rfl ?_
     refine z5r rfl rfl h11 (z86 y0a rfl rfl (z1n h16).2 rfl) rfl ?_
     obtain ⟨r17,h18,H⟩:=bnd H
     refine z04 rfl rfl h11 (z9f (hp3 x13 x15 r17 h18) rfl ⟨.inl rfl,.inl rfl,trivial⟩) ?_
     refine z04 rfl rfl h11 (z03 rfl rfl) ?_
     refine z0a (z1t rfl (bTT h12) rfl) ?_
     refine ⟨rfl,?_⟩
     exact ⟨decide (r17 < 0),H,⟨rfl,rfl,rfl,rfl,rfl,rfl,rfl,trivial⟩,⟨rfl,trivial⟩⟩
    ·have h19:=un2 h11
     replace H:=iff_ h19 H
     refine z0n rfl rfl h11 ?_
     refine z0n rfl rfl h11 ?_
     refine z0n rfl rfl h11 ?_
     refine z0n rfl rfl h11 ?_
     refine z0n rfl rfl h11 ?_
     refine z0n rfl rfl h11 ?_
     refine z0n rfl rfl h11 ?_
     refine z0n rfl rfl h11 ?_
     refine z0n rfl rfl h11 ?_
     refine z0n rfl rfl h11 ?_
     refine z0n rfl rfl h11 ?_
     refine z0n rfl rfl h11 ?_
     refine z0a (z1l rfl (bFF h19) rfl) ?_
     refine ⟨rfl,?_⟩
     exact ⟨false,H,⟨rfl,rfl,rfl,rfl,rfl,rfl,rfl,trivial⟩,⟨rfl,trivial⟩⟩
   ·rintro v20 H
    replace H:z2a i4 j8 l9 v20=some q10:=H
    unfold z2a at H
    refine z0k _ rfl (fun h21 => ?_) (fun h21 => ?_)
    ·replace H:=ift h21 H
     refine z0q ?_
     refine z0c ?_
     refine z0w ?_
     refine z2n mixed hN rfl rfl ?_
     refine z0a (z0j (.row _ _) rfl) ?_
     refine qd rfl ?_
     refine z0a (z0j (.row _ _) rfl) ?_
     refine qd rfl ?_
     refine z0a (z05 _ rfl rfl (.inr (.inl ⟨rfl,rfl⟩))) ?_
     refine z0a (z0j (.row _ _) rfl) ?_
     refine qd rfl ?_
     refine z0a (z05 _ rfl rfl (.inr (.inl ⟨rfl,rfl⟩))) ?_
     obtain ⟨x22,h23,H⟩:=bnd H
     refine z0h (z7q y1k rfl rfl rfl h23) rfl ?_
     refine z0h (z86 y0a rfl rfl (z1n h23).2 rfl) rfl ?_
     refine z0a (z0j (.row _ _) rfl) ?_
     refine qd rfl ?_
     obtain ⟨x24,h25,H⟩:=bnd H
     refine z0h (z7q y1k rfl rfl rfl h25) rfl ?_
     refine z0h (z86 y0a rfl rfl (z1n h25).2 rfl) rfl ?_
     refine z0h (z7q y1k rfl rfl rfl h25) rfl ?_
     refine z0g (y3w (C:=z0v) y0a rfl rfl rfl (x2o (z1n h25).2) rfl rfl) rfl ?_
     obtain ⟨x26,h27,H⟩:=bnd H
     refine z0h (z7q y1k rfl (by simp) rfl h27) rfl ?_
     refine z0g (y3w (C:=z0v) y0a rfl rfl (by simp) (x2o (z1n h27).2) rfl rfl) rfl ?_
     refine ⟨rfl,?_⟩
     refine z0b hN rfl ?_
     refine qd rfl ?_
     refine z0a (z05 _ rfl rfl (.inr (.inl ⟨rfl,rfl⟩))) ?_
     refine qe rfl ?_
     exact ⟨_,z5d H,⟨congrArg (Slot.row 0) (by simp),rfl,rfl,rfl,rfl,rfl,trivial⟩,⟨rfl,trivial⟩⟩
    ·replace H:=iff_ h21 H
     refine z1j ?_
     replace H:=outl H hq10
     exact ⟨l9,H,⟨rfl,rfl,rfl,rfl,rfl,trivial⟩,⟨rfl,trivial⟩⟩
  ·rintro data28 H
   replace H:z2b i4 data28=some q6:=H
   unfold z2b at H
   refine z0b hN rfl ?_
   refine qd rfl ?_
   refine z0a (z05 _ rfl rfl (.inl ⟨rfl,rfl⟩)) ?_
   refine qe rfl ?_
   exact ⟨_,z5d H,⟨rfl,rfl,rfl,rfl,rfl,trivial⟩,⟨rfl,trivial⟩⟩
 ·replace H:=iff_ h7 H
  refine z1j ?_
  replace H:=retl H hq6
  have eH:l5=r:=Option.some.inj H
  subst eH
  exact ⟨trivial,[],trivial,⟨rfl,trivial⟩,rfl,.inl ⟨[],trivial,rfl⟩⟩
theorem z7f (data1:(List z0e)) (a2:Int) (b3:Int) (n4:Int) (p4:z0e→z0e→Option (Int)) (fv4:Nat) (us4:List V) (hp4:∀ a0 a1 r,p4 a0 a1=some r→Fn Tryz.prog fv4 ([vagg (z0v a0),vagg (z0v a1)]++us4) (z1x [vint r])) (r:((List z0e))) (H:z2k data1 a2 b3 n4 p4=some r):FnG Tryz.prog 139 [.row 0 data1.length,.dat (vint a2),.dat (vint b3),.dat (vint n4),.dat (vfn fv4 us4)] [(0,.rowA undef 57 4 (List.map z0v data1))] (.dat (z1x [])) [(0,.rowA undef 57 4 (List.map z0v r))]:=by
 refine y5v (by kernel_rfl) Tryz.func139 rfl rfl rfl rfl fun X A hN => ?_
 unfold z2k at H
 refine z0c ?_
 refine z0b hN rfl ?_
 refine qe rfl ?_
 refine z0w ?_
 obtain ⟨h8,H⟩:=gif H
 refine y65 (fun (i6:Nat) (s:(List z0e))=>[(0,.row 0 s.length),(1,.dat (vint a2)),(2,.dat (vint b3)),(3,.dat (vint n4)),(10,.dat (vint (i6:Int)))]) (fun (i6:Nat) (s:(List z0e))=>[(0,.rowA (A.vl 0) 57 4 (List.map z0v s))]) data1 H ⟨rfl,rfl,rfl,rfl,rfl,trivial⟩ ⟨rfl,trivial⟩ (fun _ _=>rfl) ?_ ?_
 ·rintro l5 H
  replace H:z69 l5=some r:=H
  unfold z69 at H
  refine z0c ?_
  refine z0c ?_
  refine z0b hN rfl ?_
  refine qd rfl ?_
  refine qd rfl ?_
  refine z0a (z03 rfl rfl) ?_
  refine z0k _ rfl (fun h=>(x96 h).elim) (fun h => ?_)
  refine z1j ?_
  have eH:l5=r:=Option.some.inj H
  subst eH
  exact ⟨trivial,[],trivial,⟨rfl,trivial⟩,rfl,.inl ⟨[],trivial,rfl⟩⟩
 ·rintro i6 l5 q7 h9 H hq7
  replace H:z44 a2 b3 i6 l5=some q7:=H
  unfold z44 at H
  refine z0c ?_
  refine z0c ?_
  refine z0b hN rfl ?_
  refine qd rfl ?_
  refine qd rfl ?_
  refine z0a (z03 rfl rfl) ?_
  refine z0k _ rfl (fun h => ?_) (fun h=>(x97 h9 h).elim)
  refine z0q ?_
  refine z0c ?_
  refine z0w ?_
  refine z2n mixed hN rfl rfl ?_
  refine z0a (z0j (.row _ _) rfl) ?_
  refine qd rfl ?_
  refine qd rfl ?_
  refine z0a (z05 _ rfl rfl (.inl ⟨rfl,rfl⟩)) ?_
  refine z0a (z0j (.row _ _) rfl) ?_
  refine qd rfl ?_
  refine qd rfl ?_
  refine z0a (z05 _ rfl rfl (.inl ⟨rfl,rfl⟩)) ?_
  refine z0a (z0j (.row _ _) rfl) ?_
  refine qd rfl ?_
  refine qd rfl ?_
  refine z0a (z05 _ rfl rfl (.inl ⟨rfl,rfl⟩)) ?_
  obtain ⟨x10,h11,H⟩:=bnd H
  refine z0h (z7q y1k rfl rfl rfl h11) rfl ?_
  refine z0h (z86 y0a rfl rfl (z1n h11).2 rfl) rfl ?_
  refine z0a (z0j (.row _ _) rfl) ?_
  refine qd rfl ?_
  refine qd rfl ?_
  refine z0a (z05 _ rfl rfl (.inl ⟨rfl,rfl⟩)) ?_
  obtain ⟨x12,h13,H⟩:=bnd H
  refine z0h (z7q y1k rfl rfl rfl h13) rfl ?_
  refine z0h (z86 y0a rfl rfl (z1n h13).2 rfl) rfl ?_
  refine z0h (z7q y1k rfl rfl rfl h13) rfl ?_
  refine z0g (y3w (C:=z0v) y0a rfl rfl rfl (x2o (z1n h13).2) rfl rfl) rfl ?_
  obtain ⟨x14,h15,H⟩:=bnd H
  refine z0h (z7q y1k rfl (by simp) rfl h15) rfl ?_
  refine z0g (y3w (C:=z0v) y0a rfl rfl (by simp) (x2o (z1n h15).2) rfl rfl) rfl ?_
  refine ⟨rfl,?_⟩
  refine z0b hN rfl ?_
  refine qd rfl ?_
  refine z0a (z3h rfl rfl (by omega)) ?_
  refine qe rfl ?_
  exact ⟨_,z5d H,⟨congrArg (Slot.row 0) (by simp),rfl,rfl,rfl,rfl,trivial⟩,⟨rfl,trivial⟩⟩
theorem y42 (data1:(List z0e)) (a2:Int) (m3:Int) (b4:Int) (p4:z0e→z0e→Option (Int)) (fv4:Nat) (us4:List V) (hp4:∀ a0 a1 r,p4 a0 a1=some r→Fn Tryz.prog fv4 ([vagg (z0v a0),vagg (z0v a1)]++us4) (z1x [vint r])) (r:((List z0e))) (H:z3u data1 a2 m3 b4 p4=some r):FnG Tryz.prog 124 [.row 0 data1.length,.dat (vint a2),.dat (vint m3),.dat (vint b4),.dat (vfn fv4 us4)] [(0,.rowA undef 57 4 (List.map z0v data1))] (.dat (z1x [])) [(0,.rowA undef 57 4 (List.map z0v r))]:=by
 refine y5v (by kernel_rfl) Tryz.func124 rfl rfl rfl rfl fun X A hN => ?_
 unfold z3u at H
 refine z0c ?_
 refine z0b hN rfl ?_
 refine qd rfl ?_
 refine qd rfl ?_
 refine z0a (z05 _ rfl rfl (.inr (.inl ⟨rfl,rfl⟩))) ?_
 refine qe rfl ?_
 refine z0c ?_
 refine z0b hN rfl ?_
 refine qd rfl ?_
 refine qd rfl ?_
 refine z0a (z05 _ rfl rfl (.inr (.inl ⟨rfl,rfl⟩))) ?_
 refine qe rfl ?_
 refine z07 (ι:=Int×(List z0e)) (fun i=>[(0,.row 0 i.2.length),(2,.dat (vint m3)),(4,.dat (vfn fv4 us4)),(10,.dat (vint i.1))]) (fun i=>[(0,.rowA (A.vl 0) 57 4 (List.map z0v i.2))]) (fun i=>z4q m3 p4 i.1 i.2=some r) (fun i=>rfl) ?_ ?_
 ·skip
  refine z0w ?_
  refine z9e (fun (s:Int×Int×(List z0e))=>[(0,.row 0 s.2.2.length),(2,.dat (vint m3)),(4,.dat (vfn fv4 us4)),(10,.dat (vint s.1)),(11,.dat (vint s.2.1))]) (fun (s:Int×Int×(List z0e))=>[(0,.rowA (A.vl 0) 57 4 (List.map z0v s.2.2))]) (wr (m3 - a2),wr (b4 - m3),data1) H ⟨rfl,rfl,rfl,rfl,rfl,trivial⟩ ⟨rfl,trivial⟩ (fun _=>rfl) ?_
  rintro ⟨i5,j6,l7⟩ q8 H hq8
  replace H:z6a m3 p4 i5 j6 l7=some q8:=H
  unfold z6a at H
  refine z0c ?_
  refine z0c ?_
  refine z0b hN rfl ?_
  refine qd rfl ?_
  refine qd rfl ?_
  refine z0a (z6y rfl rfl) ?_
  refine z0k _ rfl (fun h9 => ?_) (fun h9 => ?_)
  ·replace H:=ift h9 H
   refine z0q ?_
   refine z0w ?_
   refine z0c ?_
   refine z0b hN rfl ?_
   refine qd rfl ?_
   refine qd rfl ?_
   refine z0a (z4c rfl rfl) ?_
   refine z0k _ rfl (fun h10 => ?_) (fun h10 => ?_)
   ·replace H:=ift h10 H
    refine z0c ?_
    refine z0b hN rfl ?_
    refine z0a (z0j (.row _ _) rfl) ?_
    refine qd rfl ?_
    refine qd rfl ?_
    refine z0a (z05 _ rfl rfl (.inr (.inl ⟨rfl,rfl⟩))) ?_
    refine qd rfl ?_
    refine qd rfl ?_
    refine qd rfl ?_
    obtain ⟨r11,h12,H⟩:=bnd H
    obtain ⟨h13,H⟩:=gif H
    refine z4y (rn [(0,0)]) [(0,_,_,some _)] [] (z7f l7 (wr (m3 - i5)) m3 j6 p4 fv4 us4 hp4 r11 h12) ⟨rfl,trivial⟩ ⟨.inl (.inl rfl),.inl (.inl rfl),.inl (.inl rfl),.inl (.inl rfl),.inl (.inl rfl),trivial⟩ ⟨⟨⟨rfl,rfl,rfl⟩,by simp [y6n,h13]⟩,trivial⟩ rfl ?_
    refine z0b hN rfl ?_
    refine qd rfl ?_
    refine qd rfl ?_
    refine z0a (z05 _ rfl rfl (.inr (.inl ⟨rfl,rfl⟩))) ?_
    refine qe rfl ?_
    exact ⟨_,z5d H,⟨congrArg (Slot.row 0) ((h13).symm).symm,rfl,rfl,rfl,rfl,trivial⟩,⟨rfl,trivial⟩⟩
   ·replace H:=iff_ h10 H
    refine z0c ?_
    refine z0b hN rfl ?_
    refine z0a (z0j (.row _ _) rfl) ?_
    refine qd rfl ?_
    refine qd rfl ?_
    refine z0a (z05 _ rfl rfl (.inr (.inl ⟨rfl,rfl⟩))) ?_
    refine qd rfl ?_
    refine qd rfl ?_
    refine z0a (z05 _ rfl rfl (.inl ⟨rfl,rfl⟩)) ?_
    refine qd rfl ?_
    refine z0a (z05 _ rfl rfl (.inr (.inl ⟨rfl,rfl⟩))) ?_
    refine qd rfl ?_
    refine qd rfl ?_
    obtain ⟨r14,h15,H⟩:=bnd H
    obtain ⟨h16,H⟩:=gif H
    refine z4y (rn [(0,0)]) [(0,_,_,some _)] [] (z7f l7 (wr (m3 - i5)) (wr ((wr (m3+j6)) - i5)) i5 p4 fv4 us4 hp4 r14 h15) ⟨rfl,trivial⟩ ⟨.inl (.inl rfl),.inl (.inl rfl),.inl (.inl rfl),.inl (.inl rfl),.inl (.inl rfl),trivial⟩ ⟨⟨⟨rfl,rfl,rfl⟩,by simp [y6n,h16]⟩,trivial⟩ rfl ?_
    refine z0b hN rfl ?_
    refine qd rfl ?_
    refine qd rfl ?_
    refine z0a (z05 _ rfl rfl (.inr (.inl ⟨rfl,rfl⟩))) ?_
    refine qe rfl ?_
    exact ⟨_,z5d H,⟨congrArg (Slot.row 0) ((h16).symm).symm,rfl,rfl,rfl,rfl,trivial⟩,⟨rfl,trivial⟩⟩
  ·replace H:=iff_ h9 H
   refine z1j ?_
   replace H:=outl H hq8
   exact ⟨(i5,l7),H,⟨rfl,rfl,rfl,rfl,trivial⟩,⟨rfl,trivial⟩⟩
 ·rintro ⟨i17,data18⟩ H
  replace H:z4q m3 p4 i17 data18=some r:=H
  unfold z4q at H
  refine z0b hN rfl ?_
  refine z0a (z0j (.row _ _) rfl) ?_
  refine qd rfl ?_
  refine qd rfl ?_
  refine z0a (z05 _ rfl rfl (.inr (.inl ⟨rfl,rfl⟩))) ?_
  refine qd rfl ?_
  refine qd rfl ?_
  refine qd rfl ?_
  obtain ⟨r19,h20,H⟩:=bnd H
  obtain ⟨h21,H⟩:=gif H
  refine z4y (rn [(0,0)]) [(0,_,_,some _)] [] (z7f data18 (wr (m3 - i17)) m3 i17 p4 fv4 us4 hp4 r19 h20) ⟨rfl,trivial⟩ ⟨.inl (.inl rfl),.inl (.inl rfl),.inl (.inl rfl),.inl (.inl rfl),.inl (.inl rfl),trivial⟩ ⟨⟨⟨rfl,rfl,rfl⟩,by simp [y6n,h21]⟩,trivial⟩ rfl ?_
  have eH:r19=r:=Option.some.inj H
  subst eH
  exact ⟨trivial,[],trivial,⟨rfl,trivial⟩,rfl,.inl ⟨[],trivial,rfl⟩⟩
theorem y4k (mr0:(List z0e)→Int→Int→Int→(z0e→z0e→Option (Int))→Option ((List z0e))) (hmr:∀ (v1:(List z0e)) (v2:Int) (v3:Int) (v4:Int) (p4:z0e→z0e→Option (Int)) (fv4:Nat) (us4:List V) (hp4:∀ a0 a1 r,p4 a0 a1=some r→Fn Tryz.prog fv4 ([vagg (z0v a0),vagg (z0v a1)]++us4) (z1x [vint r])) (r:((List z0e))) (H:mr0 v1 v2 v3 v4 p4=some r),FnG Tryz.prog 109 [.row 0 v1.length,.dat (vint v2),.dat (vint v3),.dat (vint v4),.dat (vfn fv4 us4)] [(0,.rowA undef 57 4 (List.map z0v v1))] (.dat (z1x [])) [(0,.rowA undef 57 4 (List.map z0v r))]) (v1:(List z0e)) (v2:Int) (v3:Int) (v4:Int) (p4:z0e→z0e→Option (Int)) (fv4:Nat) (us4:List V) (hp4:∀ a0 a1 r,p4 a0 a1=some r→Fn Tryz.prog fv4 ([vagg (z0v a0),vagg (z0v a1)]++us4) (z1x [vint r])) (r:((List z0e))) (H:z2d mr0 v1 v2 v3 v4 p4=some r):FnG Tryz.prog 109 [.row 0 v1.length,.dat (vint v2),.dat (vint v3),.dat (vint v4),.dat (vfn fv4 us4)] [(0,.rowA undef 57 4 (List.map z0v v1))] (.dat (z1x [])) [(0,.rowA undef 57 4 (List.map z0v r))]:=by
 refine y5v (by kernel_rfl) Tryz.func109 rfl rfl rfl rfl fun X A hN => ?_
 unfold z2d at H
 refine z0c ?_
 refine z0c ?_
 refine z0b hN rfl ?_
 refine qd rfl ?_
 refine qd rfl ?_
 refine z0a (z05 _ rfl rfl (.inr (.inl ⟨rfl,rfl⟩))) ?_
 refine z0a (z2g rfl rfl) ?_
 refine z0k _ rfl (fun h5 => ?_) (fun h5 => ?_)
 ·replace H:=ift h5 H
  refine z0c ?_
  refine z0b hN rfl ?_
  refine qd rfl ?_
  refine qe rfl ?_
  refine z0c ?_
  refine z0b hN rfl ?_
  refine qd rfl ?_
  refine qe rfl ?_
  refine z07 (ι:=Int) (fun i=>[(0,.row 0 v1.length),(1,.dat (vint v2)),(10,.dat (vint i))]) (fun i=>[(0,.rowA (A.vl 0) 57 4 (List.map z0v v1))]) (fun i=>z39 v1 v2 i=some r) (fun i=>rfl) ?_ ?_
  ·skip
   refine z0w ?_
   refine z9e (fun (s:Int×Int)=>[(0,.row 0 v1.length),(1,.dat (vint v2)),(4,.dat (vfn fv4 us4)),(10,.dat (vint s.1)),(11,.dat (vint s.2))]) (fun (s:Int×Int)=>[(0,.rowA (A.vl 0) 57 4 (List.map z0v v1))]) (v3,v4) H ⟨rfl,rfl,rfl,rfl,rfl,trivial⟩ ⟨rfl,trivial⟩ (fun _=>rfl) ?_
   rintro ⟨v6,v7⟩ q8 H hq8
   replace H:z5h v1 v2 p4 v6 v7=some q8:=H
   unfold z5h at H
   refine z0c ?_
   refine z0c ?_
   refine z0b hN rfl ?_
   refine qd rfl ?_
   refine qd rfl ?_
   refine z0a (z03 rfl rfl) ?_
   refine z0k _ rfl (fun h9 => ?_) (fun h9 => ?_)
   ·replace H:=ift h9 H
    refine z0q ?_
    refine z0w ?_
    refine z0c ?_
    refine z0b hN rfl ?_
    refine qd rfl ?_
    refine qd rfl ?_
    refine z0a (z05 _ rfl rfl (.inl ⟨rfl,rfl⟩)) ?_
    refine z0a (y21 tyU3 y6p rfl) ?_
    refine z0a (z09 (y85 rfl rfl (by decide)) rfl) ?_
    refine z0a (y21 y6p tyU3 rfl) ?_
    refine qe rfl ?_
    refine z0c ?_
    refine z2n mixed hN rfl rfl ?_
    refine qd rfl ?_
    refine z0a (z0j (.row _ _) rfl) ?_
    refine qd rfl ?_
    obtain ⟨x10,h11,H⟩:=bnd H
    refine z0h (z7q y1k rfl rfl rfl h11) rfl ?_
    refine z0h (z86 y0a rfl rfl (z1n h11).2 rfl) rfl ?_
    refine z0a (z0j (.row _ _) rfl) ?_
    refine qd rfl ?_
    obtain ⟨x12,h13,H⟩:=bnd H
    refine z0h (z7q y1k rfl rfl rfl h13) rfl ?_
    refine z0h (z86 y0a rfl rfl (z1n h13).2 rfl) rfl ?_
    obtain ⟨r14,h15,H⟩:=bnd H
    refine z0a (z9f (hp4 x10 x12 r14 h15) rfl ⟨.inl rfl,.inl rfl,trivial⟩) ?_
    refine z0a (z03 rfl rfl) ?_
    refine ⟨rfl,?_⟩
    refine z0k _ rfl (fun h16 => ?_) (fun h16 => ?_)
    ·replace H:=ift h16 H
     refine z0b hN rfl ?_
     refine qd rfl ?_
     refine z0a (z05 _ rfl rfl (.inl ⟨rfl,rfl⟩)) ?_
     refine qe rfl ?_
     exact ⟨_,z5d H,⟨rfl,rfl,rfl,rfl,rfl,trivial⟩,⟨rfl,trivial⟩⟩
    ·replace H:=iff_ h16 H
     refine z0b hN rfl ?_
     refine qd rfl ?_
     refine qe rfl ?_
     exact ⟨_,z5d H,⟨rfl,rfl,rfl,rfl,rfl,trivial⟩,⟨rfl,trivial⟩⟩
   ·replace H:=iff_ h9 H
    refine z1j ?_
    replace H:=outl H hq8
    exact ⟨v6,H,⟨rfl,rfl,rfl,trivial⟩,⟨rfl,trivial⟩⟩
  ·rintro v17 H
   replace H:z39 v1 v2 v17=some r:=H
   unfold z39 at H
   refine z07 (ι:=(List z0e)) (fun i=>[]) (fun i=>[(0,.rowA (A.vl 0) 57 4 (List.map z0v i))]) (fun i=>z5j i=some r) (fun i=>rfl) ?_ ?_
   ·skip
    refine z0c ?_
    refine z0b hN rfl ?_
    refine qd rfl ?_
    refine qe rfl ?_
    refine z0w ?_
    refine z9e (fun (s:Int×(List z0e))=>[(0,.row 0 s.2.length),(10,.dat (vint v17)),(13,.dat (vint s.1))]) (fun (s:Int×(List z0e))=>[(0,.rowA (A.vl 0) 57 4 (List.map z0v s.2))]) (v2,v1) H ⟨rfl,rfl,rfl,trivial⟩ ⟨rfl,trivial⟩ (fun _=>rfl) ?_
    rintro ⟨v18,l19⟩ q20 H hq20
    replace H:z5g v17 v18 l19=some q20:=H
    unfold z5g at H
    refine z0c ?_
    refine z0c ?_
    refine z0b hN rfl ?_
    refine qd rfl ?_
    refine qd rfl ?_
    refine z0a (z05 _ rfl rfl (.inr (.inl ⟨rfl,rfl⟩))) ?_
    refine z0a (z03 rfl rfl) ?_
    refine z0k _ rfl (fun h21 => ?_) (fun h21 => ?_)
    ·replace H:=ift h21 H
     refine z0q ?_
     refine z0c ?_
     refine z0w ?_
     refine z2n mixed hN rfl rfl ?_
     refine z0a (z0j (.row _ _) rfl) ?_
     refine qd rfl ?_
     refine z0a (z0j (.row _ _) rfl) ?_
     refine qd rfl ?_
     refine z0a (z05 _ rfl rfl (.inl ⟨rfl,rfl⟩)) ?_
     refine z0a (z0j (.row _ _) rfl) ?_
     refine qd rfl ?_
     refine z0a (z05 _ rfl rfl (.inl ⟨rfl,rfl⟩)) ?_
     obtain ⟨x22,h23,H⟩:=bnd H
     refine z0h (z7q y1k rfl rfl rfl h23) rfl ?_
     refine z0h (z86 y0a rfl rfl (z1n h23).2 rfl) rfl ?_
     refine z0a (z0j (.row _ _) rfl) ?_
     refine qd rfl ?_
     obtain ⟨x24,h25,H⟩:=bnd H
     refine z0h (z7q y1k rfl rfl rfl h25) rfl ?_
     refine z0h (z86 y0a rfl rfl (z1n h25).2 rfl) rfl ?_
     refine z0h (z7q y1k rfl rfl rfl h25) rfl ?_
     refine z0g (y3w (C:=z0v) y0a rfl rfl rfl (x2o (z1n h25).2) rfl rfl) rfl ?_
     obtain ⟨x26,h27,H⟩:=bnd H
     refine z0h (z7q y1k rfl (by simp) rfl h27) rfl ?_
     refine z0g (y3w (C:=z0v) y0a rfl rfl (by simp) (x2o (z1n h27).2) rfl rfl) rfl ?_
     refine ⟨rfl,?_⟩
     refine z0b hN rfl ?_
     refine qd rfl ?_
     refine z0a (z05 _ rfl rfl (.inl ⟨rfl,rfl⟩)) ?_
     refine qe rfl ?_
     exact ⟨_,z5d H,⟨congrArg (Slot.row 0) (by simp),rfl,rfl,trivial⟩,⟨rfl,trivial⟩⟩
    ·replace H:=iff_ h21 H
     refine z1j ?_
     replace H:=outl H hq20
     exact ⟨l19,H,trivial,⟨rfl,trivial⟩⟩
   ·rintro l28 H
    replace H:z5j l28=some r:=H
    unfold z5j at H
    refine z0t ?_
    have eH:l28=r:=Option.some.inj H
    subst eH
    exact ⟨trivial,[],trivial,⟨rfl,trivial⟩,rfl,.inl ⟨[],trivial,rfl⟩⟩
 ·replace H:=iff_ h5 H
  refine z0q ?_
  refine z0c ?_
  refine z0c ?_
  refine z0b hN rfl ?_
  refine qd rfl ?_
  refine qd rfl ?_
  refine z0a (z05 _ rfl rfl (.inr (.inl ⟨rfl,rfl⟩))) ?_
  refine z0a (z2g rfl rfl) ?_
  refine z0k _ rfl (fun h29 => ?_) (fun h29 => ?_)
  ·replace H:=ift h29 H
   refine z0c ?_
   refine z0b hN rfl ?_
   refine qd rfl ?_
   refine qe rfl ?_
   refine z0c ?_
   refine z0b hN rfl ?_
   refine qd rfl ?_
   refine qe rfl ?_
   refine z07 (ι:=Int) (fun i=>[(0,.row 0 v1.length),(2,.dat (vint v3)),(14,.dat (vint i))]) (fun i=>[(0,.rowA (A.vl 0) 57 4 (List.map z0v v1))]) (fun i=>z38 v1 v3 i=some r) (fun i=>rfl) ?_ ?_
   ·skip
    refine z0w ?_
    refine z9e (fun (s:Int×Int)=>[(0,.row 0 v1.length),(2,.dat (vint v3)),(4,.dat (vfn fv4 us4)),(14,.dat (vint s.1)),(15,.dat (vint s.2))]) (fun (s:Int×Int)=>[(0,.rowA (A.vl 0) 57 4 (List.map z0v v1))]) (v2,v3) H ⟨rfl,rfl,rfl,rfl,rfl,trivial⟩ ⟨rfl,trivial⟩ (fun _=>rfl) ?_
    rintro ⟨v30,v31⟩ q32 H hq32
    replace H:z5f v1 v3 p4 v30 v31=some q32:=H
    unfold z5f at H
    refine z0c ?_
    refine z0c ?_
    refine z0b hN rfl ?_
    refine qd rfl ?_
    refine qd rfl ?_
    refine z0a (z03 rfl rfl) ?_
    refine z0k _ rfl (fun h33 => ?_) (fun h33 => ?_)
    ·replace H:=ift h33 H
     refine z0q ?_
     refine z0w ?_
     refine z0c ?_
     refine z0b hN rfl ?_
     refine qd rfl ?_
     refine qd rfl ?_
     refine z0a (z05 _ rfl rfl (.inl ⟨rfl,rfl⟩)) ?_
     refine z0a (y21 tyU3 y6p rfl) ?_
     refine z0a (z09 (y85 rfl rfl (by decide)) rfl) ?_
     refine z0a (y21 y6p tyU3 rfl) ?_
     refine qe rfl ?_
     refine z0c ?_
     refine z2n mixed hN rfl rfl ?_
     refine qd rfl ?_
     refine z0a (z0j (.row _ _) rfl) ?_
     refine qd rfl ?_
     obtain ⟨x34,h35,H⟩:=bnd H
     refine z0h (z7q y1k rfl rfl rfl h35) rfl ?_
     refine z0h (z86 y0a rfl rfl (z1n h35).2 rfl) rfl ?_
     refine z0a (z0j (.row _ _) rfl) ?_
     refine qd rfl ?_
     obtain ⟨x36,h37,H⟩:=bnd H
     refine z0h (z7q y1k rfl rfl rfl h37) rfl ?_
     refine z0h (z86 y0a rfl rfl (z1n h37).2 rfl) rfl ?_
     obtain ⟨r38,h39,H⟩:=bnd H
     refine z0a (z9f (hp4 x34 x36 r38 h39) rfl ⟨.inl rfl,.inl rfl,trivial⟩) ?_
     refine z0a (z03 rfl rfl) ?_
     refine z0a (z3s rfl) ?_
     refine ⟨rfl,?_⟩
     refine z0k _ rfl (fun h40 => ?_) (fun h40 => ?_)
     ·replace H:=ift h40 H
      refine z0b hN rfl ?_
      refine qd rfl ?_
      refine z0a (z05 _ rfl rfl (.inl ⟨rfl,rfl⟩)) ?_
      refine qe rfl ?_
      exact ⟨_,z5d H,⟨rfl,rfl,rfl,rfl,rfl,trivial⟩,⟨rfl,trivial⟩⟩
     ·replace H:=iff_ h40 H
      refine z0b hN rfl ?_
      refine qd rfl ?_
      refine qe rfl ?_
      exact ⟨_,z5d H,⟨rfl,rfl,rfl,rfl,rfl,trivial⟩,⟨rfl,trivial⟩⟩
    ·replace H:=iff_ h33 H
     refine z1j ?_
     replace H:=outl H hq32
     exact ⟨v30,H,⟨rfl,rfl,rfl,trivial⟩,⟨rfl,trivial⟩⟩
   ·rintro v41 H
    replace H:z38 v1 v3 v41=some r:=H
    unfold z38 at H
    refine z07 (ι:=(List z0e)) (fun i=>[]) (fun i=>[(0,.rowA (A.vl 0) 57 4 (List.map z0v i))]) (fun i=>z5i i=some r) (fun i=>rfl) ?_ ?_
    ·skip
     refine z0c ?_
     refine z0b hN rfl ?_
     refine qd rfl ?_
     refine qe rfl ?_
     refine z0w ?_
     refine z9e (fun (s:Int×(List z0e))=>[(0,.row 0 s.2.length),(14,.dat (vint v41)),(17,.dat (vint s.1))]) (fun (s:Int×(List z0e))=>[(0,.rowA (A.vl 0) 57 4 (List.map z0v s.2))]) (v3,v1) H ⟨rfl,rfl,rfl,trivial⟩ ⟨rfl,trivial⟩ (fun _=>rfl) ?_
     rintro ⟨v42,l43⟩ q44 H hq44
     replace H:z5e v41 v42 l43=some q44:=H
     unfold z5e at H
     refine z0c ?_
     refine z0c ?_
     refine z0b hN rfl ?_
     refine qd rfl ?_
     refine qd rfl ?_
     refine z0a (z4c rfl rfl) ?_
     refine z0k _ rfl (fun h45 => ?_) (fun h45 => ?_)
     ·replace H:=ift h45 H
      refine z0q ?_
      refine z0c ?_
      refine z0w ?_
      refine z2n mixed hN rfl rfl ?_
      refine z0a (z0j (.row _ _) rfl) ?_
      refine qd rfl ?_
      refine z0a (z0j (.row _ _) rfl) ?_
      refine qd rfl ?_
      refine z0a (z05 _ rfl rfl (.inr (.inl ⟨rfl,rfl⟩))) ?_
      refine z0a (z0j (.row _ _) rfl) ?_
      refine qd rfl ?_
      refine z0a (z05 _ rfl rfl (.inr (.inl ⟨rfl,rfl⟩))) ?_
      obtain ⟨x46,h47,H⟩:=bnd H
      refine z0h (z7q y1k rfl rfl rfl h47) rfl ?_
      refine z0h (z86 y0a rfl rfl (z1n h47).2 rfl) rfl ?_
      refine z0a (z0j (.row _ _) rfl) ?_
      refine qd rfl ?_
      obtain ⟨x48,h49,H⟩:=bnd H
      refine z0h (z7q y1k rfl rfl rfl h49) rfl ?_
      refine z0h (z86 y0a rfl rfl (z1n h49).2 rfl) rfl ?_
      refine z0h (z7q y1k rfl rfl rfl h49) rfl ?_
      refine z0g (y3w (C:=z0v) y0a rfl rfl rfl (x2o (z1n h49).2) rfl rfl) rfl ?_
      obtain ⟨x50,h51,H⟩:=bnd H
      refine z0h (z7q y1k rfl (by simp) rfl h51) rfl ?_
      refine z0g (y3w (C:=z0v) y0a rfl rfl (by simp) (x2o (z1n h51).2) rfl rfl) rfl ?_
      refine ⟨rfl,?_⟩
      refine z0b hN rfl ?_
      refine qd rfl ?_
      refine z0a (z05 _ rfl rfl (.inr (.inl ⟨rfl,rfl⟩))) ?_
      refine qe rfl ?_
      exact ⟨_,z5d H,⟨congrArg (Slot.row 0) (by simp),rfl,rfl,trivial⟩,⟨rfl,trivial⟩⟩
     ·replace H:=iff_ h45 H
      refine z1j ?_
      replace H:=outl H hq44
      exact ⟨l43,H,trivial,⟨rfl,trivial⟩⟩
    ·rintro l52 H
     replace H:z5i l52=some r:=H
     unfold z5i at H
     refine z0t ?_
     have eH:l52=r:=Option.some.inj H
     subst eH
     exact ⟨trivial,[],trivial,⟨rfl,trivial⟩,rfl,.inl ⟨[],trivial,rfl⟩⟩
  ·replace H:=iff_ h29 H
   refine z0q ?_
   refine z0c ?_
   refine z0b hN rfl ?_
   refine qd rfl ?_
   refine qd rfl ?_
   refine z0a (z05 _ rfl rfl (.inl ⟨rfl,rfl⟩)) ?_
   refine z0a (y21 tyU3 y6p rfl) ?_
   refine z0a (z09 (y85 rfl rfl (by decide)) rfl) ?_
   refine z0a (y21 y6p tyU3 rfl) ?_
   refine qe rfl ?_
   refine z0c ?_
   refine z0b hN rfl ?_
   refine qd rfl ?_
   refine qd rfl ?_
   refine z0a (z05 _ rfl rfl (.inl ⟨rfl,rfl⟩)) ?_
   refine qe rfl ?_
   refine z0c ?_
   refine z0b hN rfl ?_
   refine qe rfl ?_
   refine qe rfl ?_
   refine z07 (ι:=Int×Int) (fun i=>[(0,.row 0 v1.length),(1,.dat (vint v2)),(2,.dat (vint v3)),(3,.dat (vint v4)),(4,.dat (vfn fv4 us4)),(18,.dat (vint (IntKind.wrap .i64 (shr_ .u64 (IntKind.wrap .u64 (wr (v2+v4))) 1)))),(19,.dat (vint (wr ((IntKind.wrap .i64 (shr_ .u64 (IntKind.wrap .u64 (wr (v2+v4))) 1))+v3)))),(20,.dat (vint i.1)),(21,.dat (vint i.2))]) (fun i=>[(0,.rowA (A.vl 0) 57 4 (List.map z0v v1))]) (fun i=>z2j v1 v2 v3 v4 p4 mr0 i.1 i.2=some r) (fun i=>rfl) ?_ ?_
   ·skip
    refine z0c ?_
    refine z0b hN rfl ?_
    refine qd rfl ?_
    refine qd rfl ?_
    refine z0a (z4c rfl rfl) ?_
    refine z0k _ rfl (fun h53 => ?_) (fun h53 => ?_)
    ·replace H:=ift h53 H
     refine z0c ?_
     refine z0b hN rfl ?_
     refine qd rfl ?_
     refine qd rfl ?_
     refine z0a (z05 _ rfl rfl (.inr (.inl ⟨rfl,rfl⟩))) ?_
     refine qe rfl ?_
     refine z0b hN rfl ?_
     refine qd rfl ?_
     refine qe rfl ?_
     exact ⟨(wr ((wr ((IntKind.wrap .i64 (shr_ .u64 (IntKind.wrap .u64 (wr (v2+v4))) 1))+v3)) - v4),IntKind.wrap .i64 (shr_ .u64 (IntKind.wrap .u64 (wr (v2+v4))) 1)),H,⟨rfl,rfl,rfl,rfl,rfl,rfl,rfl,rfl,rfl,trivial⟩,⟨rfl,trivial⟩⟩
    ·replace H:=iff_ h53 H
     refine z0c ?_
     refine z0b hN rfl ?_
     refine qd rfl ?_
     refine qe rfl ?_
     refine z0b hN rfl ?_
     refine qd rfl ?_
     refine qe rfl ?_
     exact ⟨(v2,v3),H,⟨rfl,rfl,rfl,rfl,rfl,rfl,rfl,rfl,rfl,trivial⟩,⟨rfl,trivial⟩⟩
   ·rintro ⟨v54,v55⟩ H
    replace H:z2j v1 v2 v3 v4 p4 mr0 v54 v55=some r:=H
    unfold z2j at H
    refine z0c ?_
    refine z0b hN rfl ?_
    refine qd rfl ?_
    refine z0a (z05 _ rfl rfl (.inr (.inl ⟨rfl,rfl⟩))) ?_
    refine qe rfl ?_
    refine z07 (ι:=Int) (fun i=>[(0,.row 0 v1.length),(1,.dat (vint v2)),(2,.dat (vint v3)),(3,.dat (vint v4)),(4,.dat (vfn fv4 us4)),(18,.dat (vint (IntKind.wrap .i64 (shr_ .u64 (IntKind.wrap .u64 (wr (v2+v4))) 1)))),(19,.dat (vint (wr ((IntKind.wrap .i64 (shr_ .u64 (IntKind.wrap .u64 (wr (v2+v4))) 1))+v3)))),(20,.dat (vint i))]) (fun i=>[(0,.rowA (A.vl 0) 57 4 (List.map z0v v1))]) (fun i=>z33 v1 v2 v3 v4 p4 mr0 i=some r) (fun i=>rfl) ?_ ?_
    ·skip
     refine z0w ?_
     refine z9e (fun (s:Int×Int)=>[(0,.row 0 v1.length),(1,.dat (vint v2)),(2,.dat (vint v3)),(3,.dat (vint v4)),(4,.dat (vfn fv4 us4)),(18,.dat (vint (IntKind.wrap .i64 (shr_ .u64 (IntKind.wrap .u64 (wr (v2+v4))) 1)))),(19,.dat (vint (wr ((IntKind.wrap .i64 (shr_ .u64 (IntKind.wrap .u64 (wr (v2+v4))) 1))+v3)))),(20,.dat (vint s.1)),(21,.dat (vint s.2)),(22,.dat (vint (wr ((wr ((IntKind.wrap .i64 (shr_ .u64 (IntKind.wrap .u64 (wr (v2+v4))) 1))+v3)) - 1))))]) (fun (s:Int×Int)=>[(0,.rowA (A.vl 0) 57 4 (List.map z0v v1))]) (v54,v55) H ⟨rfl,rfl,rfl,rfl,rfl,rfl,rfl,rfl,rfl,rfl,trivial⟩ ⟨rfl,trivial⟩ (fun _=>rfl) ?_
     rintro ⟨v56,v57⟩ q58 H hq58
     replace H:z43 v1 v2 v3 v4 p4 mr0 v56 v57=some q58:=H
     unfold z43 at H
     refine z0c ?_
     refine z0c ?_
     refine z0b hN rfl ?_
     refine qd rfl ?_
     refine qd rfl ?_
     refine z0a (z03 rfl rfl) ?_
     refine z0k _ rfl (fun h59 => ?_) (fun h59 => ?_)
     ·replace H:=ift h59 H
      refine z0q ?_
      refine z0w ?_
      refine z0c ?_
      refine z0b hN rfl ?_
      refine qd rfl ?_
      refine qd rfl ?_
      refine z0a (z05 _ rfl rfl (.inl ⟨rfl,rfl⟩)) ?_
      refine z0a (y21 tyU3 y6p rfl) ?_
      refine z0a (z09 (y85 rfl rfl (by decide)) rfl) ?_
      refine z0a (y21 y6p tyU3 rfl) ?_
      refine qe rfl ?_
      refine z0c ?_
      refine z2n mixed hN rfl rfl ?_
      refine qd rfl ?_
      refine z0a (z0j (.row _ _) rfl) ?_
      refine qd rfl ?_
      refine qd rfl ?_
      refine z0a (z05 _ rfl rfl (.inr (.inl ⟨rfl,rfl⟩))) ?_
      obtain ⟨x60,h61,H⟩:=bnd H
      refine z0h (z7q y1k rfl rfl rfl h61) rfl ?_
      refine z0h (z86 y0a rfl rfl (z1n h61).2 rfl) rfl ?_
      refine z0a (z0j (.row _ _) rfl) ?_
      refine qd rfl ?_
      obtain ⟨x62,h63,H⟩:=bnd H
      refine z0h (z7q y1k rfl rfl rfl h63) rfl ?_
      refine z0h (z86 y0a rfl rfl (z1n h63).2 rfl) rfl ?_
      obtain ⟨r64,h65,H⟩:=bnd H
      refine z0a (z9f (hp4 x60 x62 r64 h65) rfl ⟨.inl rfl,.inl rfl,trivial⟩) ?_
      refine z0a (z03 rfl rfl) ?_
      refine z0a (z3s rfl) ?_
      refine ⟨rfl,?_⟩
      refine z0k _ rfl (fun h66 => ?_) (fun h66 => ?_)
      ·replace H:=ift h66 H
       refine z0b hN rfl ?_
       refine qd rfl ?_
       refine z0a (z05 _ rfl rfl (.inl ⟨rfl,rfl⟩)) ?_
       refine qe rfl ?_
       exact ⟨_,z5d H,⟨rfl,rfl,rfl,rfl,rfl,rfl,rfl,rfl,rfl,rfl,trivial⟩,⟨rfl,trivial⟩⟩
      ·replace H:=iff_ h66 H
       refine z0b hN rfl ?_
       refine qd rfl ?_
       refine qe rfl ?_
       exact ⟨_,z5d H,⟨rfl,rfl,rfl,rfl,rfl,rfl,rfl,rfl,rfl,rfl,trivial⟩,⟨rfl,trivial⟩⟩
     ·replace H:=iff_ h59 H
      refine z1j ?_
      replace H:=outl H hq58
      exact ⟨v56,H,⟨rfl,rfl,rfl,rfl,rfl,rfl,rfl,rfl,trivial⟩,⟨rfl,trivial⟩⟩
    ·rintro v67 H
     replace H:z33 v1 v2 v3 v4 p4 mr0 v67=some r:=H
     unfold z33 at H
     refine z0c ?_
     refine z0b hN rfl ?_
     refine qd rfl ?_
     refine qd rfl ?_
     refine z0a (z05 _ rfl rfl (.inr (.inl ⟨rfl,rfl⟩))) ?_
     refine qe rfl ?_
     refine z07 (ι:=(List z0e)) (fun i=>[(0,.row 0 i.length),(1,.dat (vint v2)),(3,.dat (vint v4)),(4,.dat (vfn fv4 us4)),(18,.dat (vint (IntKind.wrap .i64 (shr_ .u64 (IntKind.wrap .u64 (wr (v2+v4))) 1)))),(20,.dat (vint v67)),(24,.dat (vint (wr ((wr ((IntKind.wrap .i64 (shr_ .u64 (IntKind.wrap .u64 (wr (v2+v4))) 1))+v3)) - v67))))]) (fun i=>[(0,.rowA (A.vl 0) 57 4 (List.map z0v i))]) (fun i=>z19 v2 v3 v4 p4 mr0 v67 i=some r) (fun i=>rfl) ?_ ?_
     ·skip
      refine z0c ?_
      refine z0b hN rfl ?_
      refine qd rfl ?_
      refine qd rfl ?_
      refine z0a (z03 rfl rfl) ?_
      refine qd rfl ?_
      refine z4b rfl rfl (fun hc=>z0j (.dat _) rfl) ?_
      refine z4b rfl rfl (fun hc=>z0j (.dat _) rfl) ?_
      refine z4b rfl rfl (fun hc=>z03 (cnd (c:=(decide (v67 < v3))) hc) (cnd (c:=(decide (v67 < v3))) hc)) ?_
      refine z0a (z25 rfl (fun hb=>(cnd (c:=(decide (v67 < v3))) hb)) rfl) ?_
      refine z0k _ rfl (fun h68 => ?_) (fun h68 => ?_)
      ·replace H:=ift h68 H
       refine z0b hN rfl ?_
       refine z0a (z0j (.row _ _) rfl) ?_
       refine qd rfl ?_
       refine qd rfl ?_
       refine qd rfl ?_
       refine qd rfl ?_
       obtain ⟨r69,h70,H⟩:=bnd H
       obtain ⟨h71,H⟩:=gif H
       refine z4y (rn [(0,0)]) [(0,_,_,some _)] [] (y42 v1 v67 v3 (wr ((wr ((IntKind.wrap .i64 (shr_ .u64 (IntKind.wrap .u64 (wr (v2+v4))) 1))+v3)) - v67)) p4 fv4 us4 hp4 r69 h70) ⟨rfl,trivial⟩ ⟨.inl (.inl rfl),.inl (.inl rfl),.inl (.inl rfl),.inl (.inl rfl),.inl (.inl rfl),trivial⟩ ⟨⟨⟨rfl,rfl,rfl⟩,by simp [y6n,h71]⟩,trivial⟩ rfl ?_
       exact ⟨r69,H,⟨congrArg (Slot.row 0) ((h71).symm).symm,rfl,rfl,rfl,rfl,rfl,rfl,trivial⟩,⟨rfl,trivial⟩⟩
      ·replace H:=iff_ h68 H
       refine z0q ?_
       exact ⟨v1,H,⟨rfl,rfl,rfl,rfl,rfl,rfl,rfl,trivial⟩,⟨rfl,trivial⟩⟩
     ·rintro v72 H
      replace H:z19 v2 v3 v4 p4 mr0 v67 v72=some r:=H
      unfold z19 at H
      refine z07 (ι:=(List z0e)) (fun i=>[(0,.row 0 i.length),(3,.dat (vint v4)),(4,.dat (vfn fv4 us4)),(18,.dat (vint (IntKind.wrap .i64 (shr_ .u64 (IntKind.wrap .u64 (wr (v2+v4))) 1)))),(24,.dat (vint (wr ((wr ((IntKind.wrap .i64 (shr_ .u64 (IntKind.wrap .u64 (wr (v2+v4))) 1))+v3)) - v67))))]) (fun i=>[(0,.rowA (A.vl 0) 57 4 (List.map z0v i))]) (fun i=>z17 v2 v3 v4 p4 mr0 v67 i=some r) (fun i=>rfl) ?_ ?_
      ·skip
       refine z0c ?_
       refine z0b hN rfl ?_
       refine qd rfl ?_
       refine qd rfl ?_
       refine z0a (z03 rfl rfl) ?_
       refine qd rfl ?_
       refine z4b rfl rfl (fun hc=>z0j (.dat _) rfl) ?_
       refine z4b rfl rfl (fun hc=>z0j (.dat _) rfl) ?_
       refine z4b rfl rfl (fun hc=>z03 (cnd (c:=(decide (v2 < v67))) hc) (cnd (c:=(decide (v2 < v67))) hc)) ?_
       refine z0a (z25 rfl (fun hb=>(cnd (c:=(decide (v2 < v67))) hb)) rfl) ?_
       refine z0k _ rfl (fun h73 => ?_) (fun h73 => ?_)
       ·replace H:=ift h73 H
        refine z0b hN rfl ?_
        refine z0a (z0j (.row _ _) rfl) ?_
        refine qd rfl ?_
        refine qd rfl ?_
        refine qd rfl ?_
        refine qd rfl ?_
        obtain ⟨r74,h75,H⟩:=bnd H
        obtain ⟨h76,H⟩:=gif H
        refine z4y (rn [(0,0)]) [(0,_,_,some _)] [] (hmr v72 v2 v67 (IntKind.wrap .i64 (shr_ .u64 (IntKind.wrap .u64 (wr (v2+v4))) 1)) p4 fv4 us4 hp4 r74 h75) ⟨rfl,trivial⟩ ⟨.inl (.inl rfl),.inl (.inl rfl),.inl (.inl rfl),.inl (.inl rfl),.inl (.inl rfl),trivial⟩ ⟨⟨⟨rfl,rfl,rfl⟩,by simp [y6n,h76]⟩,trivial⟩ rfl ?_
        exact ⟨r74,H,⟨congrArg (Slot.row 0) ((h76).symm).symm,rfl,rfl,rfl,rfl,trivial⟩,⟨rfl,trivial⟩⟩
       ·replace H:=iff_ h73 H
        refine z0q ?_
        exact ⟨v72,H,⟨rfl,rfl,rfl,rfl,rfl,trivial⟩,⟨rfl,trivial⟩⟩
      ·rintro v77 H
       replace H:z17 v2 v3 v4 p4 mr0 v67 v77=some r:=H
       unfold z17 at H
       refine z0c ?_
       refine z0b hN rfl ?_
       refine qd rfl ?_
       refine qd rfl ?_
       refine z0a (z03 rfl rfl) ?_
       refine qd rfl ?_
       refine z4b rfl rfl (fun hc=>z0j (.dat _) rfl) ?_
       refine z4b rfl rfl (fun hc=>z0j (.dat _) rfl) ?_
       refine z4b rfl rfl (fun hc=>z03 (cnd (c:=(decide ((IntKind.wrap .i64 (shr_ .u64 (IntKind.wrap .u64 (wr (v2+v4))) 1)) < (wr ((wr ((IntKind.wrap .i64 (shr_ .u64 (IntKind.wrap .u64 (wr (v2+v4))) 1))+v3)) - v67))))) hc) (cnd (c:=(decide ((IntKind.wrap .i64 (shr_ .u64 (IntKind.wrap .u64 (wr (v2+v4))) 1)) < (wr ((wr ((IntKind.wrap .i64 (shr_ .u64 (IntKind.wrap .u64 (wr (v2+v4))) 1))+v3)) - v67))))) hc)) ?_
       refine z0a (z25 rfl (fun hb=>(cnd (c:=(decide ((IntKind.wrap .i64 (shr_ .u64 (IntKind.wrap .u64 (wr (v2+v4))) 1)) < (wr ((wr ((IntKind.wrap .i64 (shr_ .u64 (IntKind.wrap .u64 (wr (v2+v4))) 1))+v3)) - v67))))) hb)) rfl) ?_
       refine z0k _ rfl (fun h78 => ?_) (fun h78 => ?_)
       ·replace H:=ift h78 H
        refine z0b hN rfl ?_
        refine z0a (z0j (.row _ _) rfl) ?_
        refine qd rfl ?_
        refine qd rfl ?_
        refine qd rfl ?_
        refine qd rfl ?_
        obtain ⟨r79,h80,H⟩:=bnd H
        obtain ⟨h81,H⟩:=gif H
        refine z4y (rn [(0,0)]) [(0,_,_,some _)] [] (hmr v77 (IntKind.wrap .i64 (shr_ .u64 (IntKind.wrap .u64 (wr (v2+v4))) 1)) (wr ((wr ((IntKind.wrap .i64 (shr_ .u64 (IntKind.wrap .u64 (wr (v2+v4))) 1))+v3)) - v67)) v4 p4 fv4 us4 hp4 r79 h80) ⟨rfl,trivial⟩ ⟨.inl (.inl rfl),.inl (.inl rfl),.inl (.inl rfl),.inl (.inl rfl),.inl (.inl rfl),trivial⟩ ⟨⟨⟨rfl,rfl,rfl⟩,by simp [y6n,h81]⟩,trivial⟩ rfl ?_
        have eH:r79=r:=Option.some.inj H
        subst eH
        exact ⟨trivial,[],trivial,⟨rfl,trivial⟩,rfl,.inl ⟨[],trivial,rfl⟩⟩
       ·replace H:=iff_ h78 H
        refine z0q ?_
        have eH:v77=r:=Option.some.inj H
        subst eH
        exact ⟨trivial,[],trivial,⟨rfl,trivial⟩,rfl,.inl ⟨[],trivial,rfl⟩⟩
theorem y4e:∀ (n:Nat) (v1:(List z0e)) (v2:Int) (v3:Int) (v4:Int) (p4:z0e→z0e→Option (Int)) (fv4:Nat) (us4:List V) (hp4:∀ a0 a1 r,p4 a0 a1=some r→Fn Tryz.prog fv4 ([vagg (z0v a0),vagg (z0v a1)]++us4) (z1x [vint r])) (r:((List z0e))) (H:z2c n v1 v2 v3 v4 p4=some r),FnG Tryz.prog 109 [.row 0 v1.length,.dat (vint v2),.dat (vint v3),.dat (vint v4),.dat (vfn fv4 us4)] [(0,.rowA undef 57 4 (List.map z0v v1))] (.dat (z1x [])) [(0,.rowA undef 57 4 (List.map z0v r))]:=by
 intro n
 induction n with
 | zero=>intro v1 v2 v3 v4 p4 fv4 us4 hp4 r H; cases (show none=some r from H)
 | succ n ih=>intro v1 v2 v3 v4 p4 fv4 us4 hp4 r H; exact y4k (z2c n) ih v1 v2 v3 v4 p4 fv4 us4 hp4 r H
theorem y05 (v1:(List z0e)) (v2:Int) (v3:Int) (v4:Int) (p4:z0e→z0e→Option (Int)) (fv4:Nat) (us4:List V) (hp4:∀ a0 a1 r,p4 a0 a1=some r→Fn Tryz.prog fv4 ([vagg (z0v a0),vagg (z0v a1)]++us4) (z1x [vint r])) (r:((List z0e))) (H:z4f v1 v2 v3 v4 p4=some r):FnG Tryz.prog 109 [.row 0 v1.length,.dat (vint v2),.dat (vint v3),.dat (vint v4),.dat (vfn fv4 us4)] [(0,.rowA undef 57 4 (List.map z0v v1))] (.dat (z1x [])) [(0,.rowA undef 57 4 (List.map z0v r))]:=y4e 64 v1 v2 v3 v4 p4 fv4 us4 hp4 r H
theorem y41 (data1:(List z0e)) (n2:Int) (p2:z0e→z0e→Option (Int)) (fv2:Nat) (us2:List V) (hp2:∀ a0 a1 r,p2 a0 a1=some r→Fn Tryz.prog fv2 ([vagg (z0v a0),vagg (z0v a1)]++us2) (z1x [vint r])) (r:((List z0e))) (H:z6q data1 n2 p2=some r):FnG Tryz.prog 76 [.row 0 data1.length,.dat (vint n2),.dat (vfn fv2 us2)] [(0,.rowA undef 57 4 (List.map z0v data1))] (.dat (z1x [])) [(0,.rowA undef 57 4 (List.map z0v r))]:=by
 refine y5v (by kernel_rfl) Tryz.func76 rfl rfl rfl rfl fun X A hN => ?_
 unfold z6q at H
 refine z0c ?_
 refine z0b hN rfl ?_
 refine qe rfl ?_
 refine z0c ?_
 refine z0b hN rfl ?_
 refine qd rfl ?_
 refine qe rfl ?_
 refine qe rfl ?_
 refine z07 (ι:=Int×(List z0e)) (fun i=>[(0,.row 0 i.2.length),(1,.dat (vint n2)),(2,.dat (vfn fv2 us2)),(6,.dat (vint 20)),(7,.dat (vint i.1))]) (fun i=>[(0,.rowA (A.vl 0) 57 4 (List.map z0v i.2))]) (fun i=>z4p n2 p2 i.1 i.2=some r) (fun i=>rfl) ?_ ?_
 ·skip
  refine z0w ?_
  refine z9e (fun (s:Int×Int×(List z0e))=>[(0,.row 0 s.2.2.length),(1,.dat (vint n2)),(2,.dat (vfn fv2 us2)),(6,.dat (vint 20)),(7,.dat (vint s.1)),(8,.dat (vint s.2.1))]) (fun (s:Int×Int×(List z0e))=>[(0,.rowA (A.vl 0) 57 4 (List.map z0v s.2.2))]) (0,20,data1) H ⟨rfl,rfl,rfl,rfl,rfl,rfl,trivial⟩ ⟨rfl,trivial⟩ (fun _=>rfl) ?_
  rintro ⟨a3,b4,l5⟩ q6 H hq6
  replace H:z59 n2 p2 a3 b4 l5=some q6:=H
  unfold z59 at H
  refine z0c ?_
  refine z0c ?_
  refine z0b hN rfl ?_
  refine qd rfl ?_
  refine qd rfl ?_
  refine z0a (y4p rfl rfl) ?_
  refine z0k _ rfl (fun h7 => ?_) (fun h7 => ?_)
  ·replace H:=ift h7 H
   refine z0q ?_
   refine z0w ?_
   refine z0c ?_
   refine z0b hN rfl ?_
   refine z0a (z0j (.row _ _) rfl) ?_
   refine qd rfl ?_
   refine qd rfl ?_
   refine qd rfl ?_
   obtain ⟨r8,h9,H⟩:=bnd H
   obtain ⟨h10,H⟩:=gif H
   refine z4y (rn [(0,0)]) [(0,_,_,some _)] [] (z9m l5 a3 b4 p2 fv2 us2 hp2 r8 h9) ⟨rfl,trivial⟩ ⟨.inl (.inl rfl),.inl (.inl rfl),.inl (.inl rfl),.inl (.inl rfl),trivial⟩ ⟨⟨⟨rfl,rfl,rfl⟩,by simp [y6n,h10]⟩,trivial⟩ rfl ?_
   refine z0c ?_
   refine z0b hN rfl ?_
   refine qd rfl ?_
   refine qe rfl ?_
   refine z0b hN rfl ?_
   refine qd rfl ?_
   refine qd rfl ?_
   refine z0a (z05 _ rfl rfl (.inl ⟨rfl,rfl⟩)) ?_
   refine qe rfl ?_
   exact ⟨_,z5d H,⟨congrArg (Slot.row 0) ((h10).symm).symm,rfl,rfl,rfl,rfl,rfl,trivial⟩,⟨rfl,trivial⟩⟩
  ·replace H:=iff_ h7 H
   refine z1j ?_
   replace H:=outl H hq6
   exact ⟨(a3,l5),H,⟨rfl,rfl,rfl,rfl,rfl,trivial⟩,⟨rfl,trivial⟩⟩
 ·rintro ⟨a11,data12⟩ H
  replace H:z4p n2 p2 a11 data12=some r:=H
  unfold z4p at H
  refine z0c ?_
  refine z0b hN rfl ?_
  refine z0a (z0j (.row _ _) rfl) ?_
  refine qd rfl ?_
  refine qd rfl ?_
  refine qd rfl ?_
  obtain ⟨r13,h14,H⟩:=bnd H
  obtain ⟨h15,H⟩:=gif H
  refine z4y (rn [(0,0)]) [(0,_,_,some _)] [] (z9m data12 a11 n2 p2 fv2 us2 hp2 r13 h14) ⟨rfl,trivial⟩ ⟨.inl (.inl rfl),.inl (.inl rfl),.inl (.inl rfl),.inl (.inl rfl),trivial⟩ ⟨⟨⟨rfl,rfl,rfl⟩,by simp [y6n,h15]⟩,trivial⟩ rfl ?_
  refine z0w ?_
  refine z9e (fun (s:Int×(List z0e))=>[(0,.row 0 s.2.length),(1,.dat (vint n2)),(2,.dat (vfn fv2 us2)),(6,.dat (vint s.1))]) (fun (s:Int×(List z0e))=>[(0,.rowA (A.vl 0) 57 4 (List.map z0v s.2))]) (20,r13) H ⟨congrArg (Slot.row 0) ((h15).symm).symm,rfl,rfl,rfl,trivial⟩ ⟨rfl,trivial⟩ (fun _=>rfl) ?_
  rintro ⟨blockSize16,l17⟩ q18 H hq18
  replace H:z58 n2 p2 blockSize16 l17=some q18:=H
  unfold z58 at H
  refine z0c ?_
  refine z0c ?_
  refine z0b hN rfl ?_
  refine qd rfl ?_
  refine qd rfl ?_
  refine z0a (z03 rfl rfl) ?_
  refine z0k _ rfl (fun h19 => ?_) (fun h19 => ?_)
  ·replace H:=ift h19 H
   refine z0q ?_
   refine z0w ?_
   refine z0c ?_
   refine z0b hN rfl ?_
   refine qd rfl ?_
   refine z0a (z05 _ rfl rfl (.inr (.inr ⟨rfl,rfl⟩))) ?_
   refine qe rfl ?_
   refine qe rfl ?_
   refine z07 (ι:=Int×(List z0e)) (fun i=>[(0,.row 0 i.2.length),(1,.dat (vint n2)),(2,.dat (vfn fv2 us2)),(6,.dat (vint blockSize16)),(7,.dat (vint i.1))]) (fun i=>[(0,.rowA (A.vl 0) 57 4 (List.map z0v i.2))]) (fun i=>z4o n2 p2 blockSize16 i.1 i.2=some q18) (fun i=>rfl) ?_ ?_
   ·skip
    refine z0w ?_
    refine z9e (fun (s:Int×Int×(List z0e))=>[(0,.row 0 s.2.2.length),(1,.dat (vint n2)),(2,.dat (vfn fv2 us2)),(6,.dat (vint blockSize16)),(7,.dat (vint s.1)),(8,.dat (vint s.2.1))]) (fun (s:Int×Int×(List z0e))=>[(0,.rowA (A.vl 0) 57 4 (List.map z0v s.2.2))]) (0,wr (2 * blockSize16),l17) H ⟨rfl,rfl,rfl,rfl,rfl,rfl,trivial⟩ ⟨rfl,trivial⟩ (fun _=>rfl) ?_
    rintro ⟨a20,b21,l22⟩ q23 H hq23
    replace H:z57 n2 p2 blockSize16 a20 b21 l22=some q23:=H
    unfold z57 at H
    refine z0c ?_
    refine z0c ?_
    refine z0b hN rfl ?_
    refine qd rfl ?_
    refine qd rfl ?_
    refine z0a (y4p rfl rfl) ?_
    refine z0k _ rfl (fun h24 => ?_) (fun h24 => ?_)
    ·replace H:=ift h24 H
     refine z0q ?_
     refine z0w ?_
     refine z0c ?_
     refine z0b hN rfl ?_
     refine z0a (z0j (.row _ _) rfl) ?_
     refine qd rfl ?_
     refine qd rfl ?_
     refine qd rfl ?_
     refine z0a (z05 _ rfl rfl (.inl ⟨rfl,rfl⟩)) ?_
     refine qd rfl ?_
     refine qd rfl ?_
     obtain ⟨r25,h26,H⟩:=bnd H
     obtain ⟨h27,H⟩:=gif H
     refine z4y (rn [(0,0)]) [(0,_,_,some _)] [] (y05 l22 a20 (wr (a20+blockSize16)) b21 p2 fv2 us2 hp2 r25 h26) ⟨rfl,trivial⟩ ⟨.inl (.inl rfl),.inl (.inl rfl),.inl (.inl rfl),.inl (.inl rfl),.inl (.inl rfl),trivial⟩ ⟨⟨⟨rfl,rfl,rfl⟩,by simp [y6n,h27]⟩,trivial⟩ rfl ?_
     refine z0c ?_
     refine z0b hN rfl ?_
     refine qd rfl ?_
     refine qe rfl ?_
     refine z0b hN rfl ?_
     refine qd rfl ?_
     refine qd rfl ?_
     refine z0a (z05 _ rfl rfl (.inr (.inr ⟨rfl,rfl⟩))) ?_
     refine z0a (z05 _ rfl rfl (.inl ⟨rfl,rfl⟩)) ?_
     refine qe rfl ?_
     exact ⟨_,z5d H,⟨congrArg (Slot.row 0) ((h27).symm).symm,rfl,rfl,rfl,rfl,rfl,trivial⟩,⟨rfl,trivial⟩⟩
    ·replace H:=iff_ h24 H
     refine z1j ?_
     replace H:=outl H hq23
     exact ⟨(a20,l22),H,⟨rfl,rfl,rfl,rfl,rfl,trivial⟩,⟨rfl,trivial⟩⟩
   ·rintro ⟨a28,data29⟩ H
    replace H:z4o n2 p2 blockSize16 a28 data29=some q18:=H
    unfold z4o at H
    refine z07 (ι:=(List z0e)) (fun i=>[(0,.row 0 i.length),(1,.dat (vint n2)),(2,.dat (vfn fv2 us2)),(6,.dat (vint blockSize16))]) (fun i=>[(0,.rowA (A.vl 0) 57 4 (List.map z0v i))]) (fun i=>z2q blockSize16 i=some q18) (fun i=>rfl) ?_ ?_
    ·skip
     refine z0c ?_
     refine z0b hN rfl ?_
     refine qd rfl ?_
     refine qd rfl ?_
     refine z0a (z05 _ rfl rfl (.inl ⟨rfl,rfl⟩)) ?_
     refine qe rfl ?_
     refine z0c ?_
     refine z0b hN rfl ?_
     refine qd rfl ?_
     refine qd rfl ?_
     refine z0a (z03 rfl rfl) ?_
     refine z0k _ rfl (fun h30 => ?_) (fun h30 => ?_)
     ·replace H:=ift h30 H
      refine z0b hN rfl ?_
      refine z0a (z0j (.row _ _) rfl) ?_
      refine qd rfl ?_
      refine qd rfl ?_
      refine qd rfl ?_
      refine qd rfl ?_
      obtain ⟨r31,h32,H⟩:=bnd H
      obtain ⟨h33,H⟩:=gif H
      refine z4y (rn [(0,0)]) [(0,_,_,some _)] [] (y05 data29 a28 (wr (a28+blockSize16)) n2 p2 fv2 us2 hp2 r31 h32) ⟨rfl,trivial⟩ ⟨.inl (.inl rfl),.inl (.inl rfl),.inl (.inl rfl),.inl (.inl rfl),.inl (.inl rfl),trivial⟩ ⟨⟨⟨rfl,rfl,rfl⟩,by simp [y6n,h33]⟩,trivial⟩ rfl ?_
      exact ⟨r31,H,⟨congrArg (Slot.row 0) ((h33).symm).symm,rfl,rfl,rfl,trivial⟩,⟨rfl,trivial⟩⟩
     ·replace H:=iff_ h30 H
      refine z0q ?_
      exact ⟨data29,H,⟨rfl,rfl,rfl,rfl,trivial⟩,⟨rfl,trivial⟩⟩
    ·rintro data34 H
     replace H:z2q blockSize16 data34=some q18:=H
     unfold z2q at H
     refine z0b hN rfl ?_
     refine qd rfl ?_
     refine z0a (z05 _ rfl rfl (.inr (.inr ⟨rfl,rfl⟩))) ?_
     refine qe rfl ?_
     exact ⟨_,z5d H,⟨rfl,rfl,rfl,rfl,trivial⟩,⟨rfl,trivial⟩⟩
  ·replace H:=iff_ h19 H
   refine z1j ?_
   replace H:=retl H hq18
   have eH:l17=r:=Option.some.inj H
   subst eH
   exact ⟨trivial,[],trivial,⟨rfl,trivial⟩,rfl,.inl ⟨[],trivial,rfl⟩⟩
theorem z77 (x1:(List z0e)) (p1:z0e→z0e→Option (Int)) (fv1:Nat) (us1:List V) (hp1:∀ a0 a1 r,p1 a0 a1=some r→Fn Tryz.prog fv1 ([vagg (z0v a0),vagg (z0v a1)]++us1) (z1x [vint r])) (r:((List z0e))) (H:z1z x1 p1=some r):FnG Tryz.prog 35 [.row 0 x1.length,.dat (vfn fv1 us1)] [(0,.rowA undef 57 4 (List.map z0v x1))] (.dat (z1x [])) [(0,.rowA undef 57 4 (List.map z0v r))]:=by
 refine y5v (by kernel_rfl) Tryz.func35 rfl rfl rfl rfl fun X A hN => ?_
 unfold z1z at H
 refine z0b hN rfl ?_
 refine z0a (z0j (.row _ _) rfl) ?_
 refine z0a (z0j (.row _ _) rfl) ?_
 refine z0h (w0w y67 rfl rfl) rfl ?_
 refine qd rfl ?_
 obtain ⟨r2,h3,H⟩:=bnd H
 obtain ⟨h4,H⟩:=gif H
 refine z4y (rn [(0,0)]) [(0,_,_,some _)] [] (y41 x1 (x1.length:Int) p1 fv1 us1 hp1 r2 h3) ⟨rfl,trivial⟩ ⟨.inl (.inl rfl),.inl (.inl rfl),.inl (.inl rfl),trivial⟩ ⟨⟨⟨rfl,rfl,rfl⟩,by simp [y6n,h4]⟩,trivial⟩ rfl ?_
 have eH:r2=r:=Option.some.inj H
 subst eH
 exact ⟨trivial,[],trivial,⟨rfl,trivial⟩,rfl,.inl ⟨[],trivial,rfl⟩⟩
end Go.Proofs.YthmmalklamiefaaGreatDoor
