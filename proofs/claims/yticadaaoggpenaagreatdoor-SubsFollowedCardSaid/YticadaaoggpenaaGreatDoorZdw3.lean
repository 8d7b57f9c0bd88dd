/- Walks along the models. Printed by a program. -/
import Derived.Test.YticadaaoggpenaaGreatDoorZdw2
namespace Go.Proofs.YticadaaoggpenaaGreatDoor
open Go.RowKit
set_option linter.unusedVariables false
set_option maxRecDepth 20000
set_option maxHeartbeats 2000000
theorem y5x (v1:z0g) (v2:z0h) (v3:z0e) (r:(z0h×Bool)) (H:z60 v1 v2 v3=some r):Fn Tryz.prog 76 [vagg (z1d v1),vagg (z08 v2),vagg (z0w v3)] (z1x [vagg (z08 r.1),z1e r.2]):=by
 refine ⟨by kernel_rfl,z1k (us:=[vagg (z08 r.1),z1e r.2]) Tryz.func76 rfl rfl rfl rfl fun X hN => ?_⟩
 unfold z60 at H
 refine z0c ?_
 refine z0b hN rfl ?_
 refine z0f (z2h 1 rfl) rfl ?_
 refine z0f (z2h 2 rfl) rfl ?_
 refine z0f (z2h 3 rfl) rfl ?_
 refine z0f (z1h 4 y3h rfl) rfl ?_
 refine qe rfl ?_
 refine z0c ?_
 refine z1a (ι:=Bool) (fun i=>[(3,.ptr 1 0),(4,.ptr 2 0),(5,.ptr 3 0),(6,.ptr 4 0),(18,.dat (z1e i))]) (fun i=>[(1,.box none 29 [.dat (vlst (List.map z0u v1.Products)),.dat (vlst (List.map z0z v1.Plans))]),(2,.box none 39 [.dat (vint v2.State),.dat (vstr v2.Plan),.dat (vint v2.Since),.dat (vint v2.First)]),(3,.box none 99 [.dat (vint v3.At),.dat (vstr v3.App),.dat (vstr v3.Product),.dat (vint v3.Kind),.dat (vstr v3.Plan)]),(4,.box none 39 [.dat (vint 0),.dat (vstr []),.dat (vint 0),.dat (vint 0)])]) (fun i=>z7i v1 v2 v3 i=some r) (fun i=>rfl) ?_ ?_
 ·skip
  refine z0b hN rfl ?_
  refine z0a (z0p z84 rfl) ?_
  refine z0j (z0n tyS3 rfl rfl) rfl ?_
  refine z0a (z12 rfl rfl) ?_
  refine qd rfl ?_
  refine z19 (j:=3) rfl rfl (fun h4 => ?_) (fun h4 => ?_) rfl
  ·have h5:=un1 h4
   replace H:=ift h5 H
   refine z7k rfl rfl h4 (z04 z5d rfl rfl rfl) rfl ?_
   refine z03 rfl rfl h4 (z0p y27 rfl) ?_
   refine z7k rfl rfl h4 (z0n tyS9 rfl rfl) rfl ?_
   obtain ⟨r6,h7,H⟩:=bnd H
   refine z03 rfl rfl h4 (z0x (y11 v1 v3.Plan r6 h7) ⟨.inl rfl,.inl rfl,trivial⟩) ?_
   refine z03 rfl rfl h4 (z05 rfl rfl) ?_
   refine z0a (z1p rfl (bTT h5) rfl) ?_
   exact ⟨decide (r6 < 0),H,⟨rfl,rfl,rfl,rfl,rfl,trivial⟩,⟨rfl,rfl,rfl,rfl,trivial⟩⟩
  ·have h8:=un2 h4
   replace H:=iff_ h8 H
   refine z0l rfl rfl h4 ?_
   refine z0l rfl rfl h4 ?_
   refine z0l rfl rfl h4 ?_
   refine z0l rfl rfl h4 ?_
   refine z0l rfl rfl h4 ?_
   refine z0a (z1b rfl (bFF h8) rfl) ?_
   exact ⟨false,H,⟨rfl,rfl,rfl,rfl,rfl,trivial⟩,⟨rfl,rfl,rfl,rfl,trivial⟩⟩
 ·rintro v9 H
  replace H:z7i v1 v2 v3 v9=some r:=H
  unfold z7i at H
  refine z0i _ rfl (fun h10 => ?_) (fun h10 => ?_)
  ·replace H:=ift h10 H
   refine z0c ?_
   refine z0b hN rfl ?_
   refine z0j (z04 z4h rfl rfl rfl) rfl ?_
   refine z0f (z02 z4h rfl rfl rfl rfl) rfl ?_
   refine qe rfl ?_
   refine z0r ?_
   cases H
   exact ⟨trivial,.inl ⟨_,_,_,z08 v2,rfl,rfl,rfl,rfl,z4h⟩,.inl rfl,trivial⟩
  ·replace H:=iff_ h10 H
   refine z0s ?_
   refine z0c ?_
   refine z0b hN rfl ?_
   refine z0j (z04 z4h rfl rfl rfl) rfl ?_
   refine z0f (z1h 5 y3h rfl) rfl ?_
   refine z0f (z02 z4h rfl rfl rfl rfl) rfl ?_
   refine z0c ?_
   refine z0b hN rfl ?_
   refine z0a (z0p y0e rfl) ?_
   refine z0j (z0n tyS3 rfl rfl) rfl ?_
   refine z0a (z0p y9i rfl) ?_
   refine z0f (z2n tyS3 rfl rfl rfl rfl) rfl ?_
   refine z1a (ι:=Int×Bs×Int) (fun i=>[(6,.ptr 4 0),(8,.ptr 5 0)]) (fun i=>[(4,.box none 39 [.dat (vint 0),.dat (vstr []),.dat (vint 0),.dat (vint 0)]),(5,.box none 39 [.dat (vint i.1),.dat (vstr i.2.1),.dat (vint v3.At),.dat (vint i.2.2)])]) (fun i=>z3f v3 i.1 i.2.1 i.2.2=some r) (fun i=>rfl) ?_ ?_
   ·skip
    refine z0y ?_
    refine z0c ?_
    refine z0b hN rfl ?_
    refine z0a (z0p z84 rfl) ?_
    refine z0j (z0n tyS3 rfl rfl) rfl ?_
    refine z0a (z12 rfl rfl) ?_
    refine qd rfl ?_
    refine z4w rfl rfl (fun hc=>z0p z8j rfl) ?_
    refine y3v rfl rfl (fun hc=>z0n tyS3 (cnd (c:=(decide (v3.Kind=1))) hc) rfl) rfl y3q ?_
    refine z4w rfl rfl (fun hc=>z12 (cnd (c:=(decide (v3.Kind=1))) hc) rfl) ?_
    refine z4w rfl rfl (fun hc=>z0k (.dat _) (cnd (c:=(decide (v3.Kind=1))) hc)) ?_
    refine y5a rfl rfl (fun hc=>z0p z8j rfl) ?_
    refine x92 rfl rfl (fun hc=>z0n tyS3 (cnd (c:=((decide (v3.Kind=1)) && !(decide (v2.State=0)))) hc) rfl) rfl y3q ?_
    refine y5a rfl rfl (fun hc=>z12 (cnd (c:=((decide (v3.Kind=1)) && !(decide (v2.State=0)))) hc) rfl) ?_
    refine z4w rfl rfl (fun hc=>z8k (cnd (c:=(decide (v3.Kind=1))) hc) rfl (fun hb=>(cnd (c:=((decide (v3.Kind=1)) && !(decide (v2.State=0)))) (andI hc (notI hb))))) ?_
    refine z0a (z2z rfl (fun hb=>(cnd (c:=(decide (v3.Kind=1))) hb)) rfl) ?_
    refine qe rfl ?_
    refine z0i _ rfl (fun h11 => ?_) (fun h11 => ?_)
    ·replace H:=ift h11 H
     refine z0c ?_
     refine z3q mixed hN rfl rfl ?_
     refine z0a (z0p y27 rfl) ?_
     refine z0j (z0n tyS9 rfl rfl) rfl ?_
     refine z0a (z0p z8j rfl) ?_
     refine z0f (z2n tyS3 rfl rfl rfl rfl) rfl ?_
     refine z0a (z0p y9j rfl) ?_
     refine z0f (z2n tyS9 rfl rfl rfl rfl) rfl ?_
     refine z0a (z0p y9h rfl) ?_
     refine z0f (z2n tyS3 rfl rfl rfl rfl) rfl ?_
     refine ⟨rfl,?_⟩
     refine z0c ?_
     refine z3q mixed hN rfl rfl ?_
     refine z0a (z0p z9n rfl) ?_
     refine z0j (z0n y4q rfl rfl) rfl ?_
     refine z0j (z04 z5d rfl rfl rfl) rfl ?_
     refine z0a (z0p y27 rfl) ?_
     refine z0j (z0n tyS9 rfl rfl) rfl ?_
     obtain ⟨r12,h13,H⟩:=bnd H
     refine z0a (z0x (y11 v1 v3.Plan r12 h13) ⟨.inl rfl,.inl rfl,trivial⟩) ?_
     obtain ⟨x14,h15,H⟩:=bnd H
     refine z0a (y1l y8u (fun _=>rfl) rfl rfl h15) ?_
     refine z0a (y0c y85 rfl) ?_
     refine z0a (z1q tyS4 rfl (z29 (z2m h15).2) rfl) ?_
     refine z0a (z3r rfl) ?_
     refine ⟨rfl,?_⟩
     refine z0i _ rfl (fun h16 => ?_) (fun h16 => ?_)
     ·replace H:=ift h16 H
      refine z3q mixed hN rfl rfl ?_
      refine z0a (z0p y0e rfl) ?_
      refine z0j (z0n tyS3 rfl rfl) rfl ?_
      refine z0a (z0p z8j rfl) ?_
      refine z0f (z2n tyS3 rfl rfl rfl rfl) rfl ?_
      refine z0a (z0p y9h rfl) ?_
      refine z0f (z2n tyS3 rfl rfl rfl rfl) rfl ?_
      refine ⟨rfl,?_⟩
      exact ⟨(2,v3.Plan,v3.At),H,⟨rfl,rfl,trivial⟩,⟨rfl,rfl,trivial⟩⟩
     ·replace H:=iff_ h16 H
      refine z0s ?_
      exact ⟨(1,v3.Plan,(-1)),H,⟨rfl,rfl,trivial⟩,⟨rfl,rfl,trivial⟩⟩
    ·replace H:=iff_ h11 H
     refine z0c ?_
     refine z0b hN rfl ?_
     refine z0a (z0p z84 rfl) ?_
     refine z0j (z0n tyS3 rfl rfl) rfl ?_
     refine z0a (z12 rfl rfl) ?_
     refine qd rfl ?_
     refine z4w rfl rfl (fun hc=>z0p z8j rfl) ?_
     refine y3v rfl rfl (fun hc=>z0n tyS3 (cnd (c:=(decide (v3.Kind=1))) hc) rfl) rfl y3q ?_
     refine z4w rfl rfl (fun hc=>z12 (cnd (c:=(decide (v3.Kind=1))) hc) rfl) ?_
     refine z4w rfl rfl (fun hc=>z0k (.dat _) (cnd (c:=(decide (v3.Kind=1))) hc)) ?_
     refine y5a rfl rfl (fun hc=>z0p z8j rfl) ?_
     refine x92 rfl rfl (fun hc=>z0n tyS3 (cnd (c:=((decide (v3.Kind=1)) && !(decide (v2.State=2)))) hc) rfl) rfl y3q ?_
     refine y5a rfl rfl (fun hc=>z12 (cnd (c:=((decide (v3.Kind=1)) && !(decide (v2.State=2)))) hc) rfl) ?_
     refine z4w rfl rfl (fun hc=>z8k (cnd (c:=(decide (v3.Kind=1))) hc) rfl (fun hb=>(cnd (c:=((decide (v3.Kind=1)) && !(decide (v2.State=2)))) (andI hc (notI hb))))) ?_
     refine z0a (z2z rfl (fun hb=>(cnd (c:=(decide (v3.Kind=1))) hb)) rfl) ?_
     refine qe rfl ?_
     refine z0i _ rfl (fun h17 => ?_) (fun h17 => ?_)
     ·replace H:=ift h17 H
      refine z0c ?_
      refine z0b hN rfl ?_
      refine z0a (z0p y27 rfl) ?_
      refine z0j (z0n tyS9 rfl rfl) rfl ?_
      refine z0a (z0p y9j rfl) ?_
      refine z0f (z2n tyS9 rfl rfl rfl rfl) rfl ?_
      refine z1a (ι:=Bool) (fun i=>[(4,.ptr 2 0),(6,.ptr 4 0),(8,.ptr 5 0),(90,.dat (z1e i))]) (fun i=>[(2,.box none 39 [.dat (vint v2.State),.dat (vstr v2.Plan),.dat (vint v2.Since),.dat (vint v2.First)]),(4,.box none 39 [.dat (vint 0),.dat (vstr []),.dat (vint 0),.dat (vint 0)]),(5,.box none 39 [.dat (vint v2.State),.dat (vstr v3.Plan),.dat (vint v3.At),.dat (vint v2.First)])]) (fun i=>z7h v2 v3 i=some r) (fun i=>rfl) ?_ ?_
      ·skip
       refine z3q mixed hN rfl rfl ?_
       refine z0a (z0p y27 rfl) ?_
       refine z0j (z0n tyS9 rfl rfl) rfl ?_
       refine z0a (z0p y9j rfl) ?_
       refine z0j (z0n tyS9 rfl rfl) rfl ?_
       refine z0a (y33 rfl rfl) ?_
       refine qd rfl ?_
       refine z19 (j:=5) rfl rfl (fun h18 => ?_) (fun h18 => ?_) rfl
       ·have h19:=un3 h18
        replace H:=iff_ h19 H
        refine z03 rfl rfl h18 (z0p z9n rfl) ?_
        refine z7k rfl rfl h18 (z0n y4q rfl rfl) rfl ?_
        refine z7k rfl rfl h18 (z04 z5d rfl rfl rfl) rfl ?_
        refine z03 rfl rfl h18 (z0p y27 rfl) ?_
        refine z7k rfl rfl h18 (z0n tyS9 rfl rfl) rfl ?_
        obtain ⟨r20,h21,H⟩:=bnd H
        refine z03 rfl rfl h18 (z0x (y11 v1 v3.Plan r20 h21) ⟨.inl rfl,.inl rfl,trivial⟩) ?_
        obtain ⟨x22,h23,H⟩:=bnd H
        refine z03 rfl rfl h18 (y1l y8u (fun _=>rfl) rfl rfl h23) ?_
        refine z03 rfl rfl h18 (y0c y85 rfl) ?_
        refine z03 rfl rfl h18 (z1q tyS4 rfl (z29 (z2m h23).2) rfl) ?_
        refine z0a (z1b rfl (bFF h19) rfl) ?_
        refine ⟨rfl,?_⟩
        exact ⟨x22.Asked,H,⟨rfl,rfl,rfl,rfl,trivial⟩,⟨rfl,rfl,rfl,trivial⟩⟩
       ·have h24:=un4 h18
        replace H:=ift h24 H
        refine z0l rfl rfl h18 ?_
        refine z0l rfl rfl h18 ?_
        refine z0l rfl rfl h18 ?_
        refine z0l rfl rfl h18 ?_
        refine z0l rfl rfl h18 ?_
        refine z0l rfl rfl h18 ?_
        refine z0l rfl rfl h18 ?_
        refine z0l rfl rfl h18 ?_
        refine z0l rfl rfl h18 ?_
        refine z0a (z1p rfl (bTT h24) rfl) ?_
        refine ⟨rfl,?_⟩
        exact ⟨true,H,⟨rfl,rfl,rfl,rfl,trivial⟩,⟨rfl,rfl,rfl,trivial⟩⟩
      ·rintro v25 H
       replace H:z7h v2 v3 v25=some r:=H
       unfold z7h at H
       refine z0i _ rfl (fun h26 => ?_) (fun h26 => ?_)
       ·replace H:=ift h26 H
        refine z0c ?_
        refine z0b hN rfl ?_
        refine z0j (z04 z4h rfl rfl rfl) rfl ?_
        refine z0f (z02 z4h rfl rfl rfl rfl) rfl ?_
        refine qe rfl ?_
        refine z0r ?_
        cases H
        exact ⟨trivial,.inl ⟨_,_,_,z08 v2,rfl,rfl,rfl,rfl,z4h⟩,.inl rfl,trivial⟩
       ·replace H:=iff_ h26 H
        refine z0s ?_
        exact ⟨(v2.State,v3.Plan,v2.First),H,⟨rfl,rfl,trivial⟩,⟨rfl,rfl,trivial⟩⟩
     ·replace H:=iff_ h17 H
      refine z0c ?_
      refine z0b hN rfl ?_
      refine z0a (z0p z84 rfl) ?_
      refine z0j (z0n tyS3 rfl rfl) rfl ?_
      refine z0a (z12 rfl rfl) ?_
      refine qd rfl ?_
      refine z4w rfl rfl (fun hc=>z0p z8j rfl) ?_
      refine y3v rfl rfl (fun hc=>z0n tyS3 (cnd (c:=(decide (v3.Kind=2))) hc) rfl) rfl y3q ?_
      refine z4w rfl rfl (fun hc=>z12 (cnd (c:=(decide (v3.Kind=2))) hc) rfl) ?_
      refine z0a (z2z rfl (fun hb=>(cnd (c:=(decide (v3.Kind=2))) hb)) rfl) ?_
      refine qe rfl ?_
      refine z0i _ rfl (fun h27 => ?_) (fun h27 => ?_)
      ·replace H:=ift h27 H
       refine z3q mixed hN rfl rfl ?_
       refine z0a (z0p y0e rfl) ?_
       refine z0j (z0n tyS3 rfl rfl) rfl ?_
       refine z0a (z0p z8j rfl) ?_
       refine z0f (z2n tyS3 rfl rfl rfl rfl) rfl ?_
       refine z0a (z0p y9h rfl) ?_
       refine z0f (z2n tyS3 rfl rfl rfl rfl) rfl ?_
       refine ⟨rfl,?_⟩
       exact ⟨(2,v2.Plan,v3.At),H,⟨rfl,rfl,trivial⟩,⟨rfl,rfl,trivial⟩⟩
      ·replace H:=iff_ h27 H
       refine z0c ?_
       refine z0b hN rfl ?_
       refine z0a (z0p z84 rfl) ?_
       refine z0j (z0n tyS3 rfl rfl) rfl ?_
       refine z0a (z12 rfl rfl) ?_
       refine qd rfl ?_
       refine z4w rfl rfl (fun hc=>z0p z8j rfl) ?_
       refine y3v rfl rfl (fun hc=>z0n tyS3 (cnd (c:=(decide (v3.Kind=3))) hc) rfl) rfl y3q ?_
       refine z4w rfl rfl (fun hc=>z12 (cnd (c:=(decide (v3.Kind=3))) hc) rfl) ?_
       refine z0a (z2z rfl (fun hb=>(cnd (c:=(decide (v3.Kind=3))) hb)) rfl) ?_
       refine qe rfl ?_
       refine z0i _ rfl (fun h28 => ?_) (fun h28 => ?_)
       ·replace H:=ift h28 H
        refine z0b hN rfl ?_
        refine z0a (z0p z8j rfl) ?_
        refine z0f (z2n tyS3 rfl rfl rfl rfl) rfl ?_
        exact ⟨(4,v2.Plan,v2.First),H,⟨rfl,rfl,trivial⟩,⟨rfl,rfl,trivial⟩⟩
       ·replace H:=iff_ h28 H
        refine z0c ?_
        refine z0b hN rfl ?_
        refine z0a (z0p z84 rfl) ?_
        refine z0j (z0n tyS3 rfl rfl) rfl ?_
        refine z0a (z12 rfl rfl) ?_
        refine qd rfl ?_
        refine z4w rfl rfl (fun hc=>z0p z8j rfl) ?_
        refine y3v rfl rfl (fun hc=>z0n tyS3 (cnd (c:=(decide (v3.Kind=4))) hc) rfl) rfl y3q ?_
        refine z4w rfl rfl (fun hc=>z12 (cnd (c:=(decide (v3.Kind=4))) hc) rfl) ?_
        refine z0a (z2z rfl (fun hb=>(cnd (c:=(decide (v3.Kind=4))) hb)) rfl) ?_
        refine qe rfl ?_
        refine z0i _ rfl (fun h29 => ?_) (fun h29 => ?_)
        ·replace H:=ift h29 H
         refine z0b hN rfl ?_
         refine z0a (z0p z8j rfl) ?_
         refine z0f (z2n tyS3 rfl rfl rfl rfl) rfl ?_
         exact ⟨(3,v2.Plan,v2.First),H,⟨rfl,rfl,trivial⟩,⟨rfl,rfl,trivial⟩⟩
        ·replace H:=iff_ h29 H
         refine z0c ?_
         refine z0b hN rfl ?_
         refine z0a (z0p z84 rfl) ?_
         refine z0j (z0n tyS3 rfl rfl) rfl ?_
         refine z0a (z12 rfl rfl) ?_
         refine qd rfl ?_
         refine z4w rfl rfl (fun hc=>z0p z8j rfl) ?_
         refine y3v rfl rfl (fun hc=>z0n tyS3 (cnd (c:=(decide (v3.Kind=5))) hc) rfl) rfl y3q ?_
         refine z4w rfl rfl (fun hc=>z12 (cnd (c:=(decide (v3.Kind=5))) hc) rfl) ?_
         refine z0a (z2z rfl (fun hb=>(cnd (c:=(decide (v3.Kind=5))) hb)) rfl) ?_
         refine qe rfl ?_
         refine z0i _ rfl (fun h30 => ?_) (fun h30 => ?_)
         ·replace H:=ift h30 H
          refine z0b hN rfl ?_
          refine z0a (z0p z8j rfl) ?_
          refine z0f (z2n tyS3 rfl rfl rfl rfl) rfl ?_
          exact ⟨(2,v2.Plan,v2.First),H,⟨rfl,rfl,trivial⟩,⟨rfl,rfl,trivial⟩⟩
         ·replace H:=iff_ h30 H
          refine z1a (ι:=Bool) (fun i=>[(4,.ptr 2 0),(6,.ptr 4 0),(8,.ptr 5 0),(135,.dat (z1e i))]) (fun i=>[(2,.box none 39 [.dat (vint v2.State),.dat (vstr v2.Plan),.dat (vint v2.Since),.dat (vint v2.First)]),(4,.box none 39 [.dat (vint 0),.dat (vstr []),.dat (vint 0),.dat (vint 0)]),(5,.box none 39 [.dat (vint v2.State),.dat (vstr v2.Plan),.dat (vint v3.At),.dat (vint v2.First)])]) (fun i=>z7g v2 v3 i=some r) (fun i=>rfl) ?_ ?_
          ·skip
           refine z0b hN rfl ?_
           refine z0a (z0p z84 rfl) ?_
           refine z0j (z0n tyS3 rfl rfl) rfl ?_
           refine z0a (z12 rfl rfl) ?_
           refine qd rfl ?_
           refine z19 (j:=3) rfl rfl (fun h31 => ?_) (fun h31 => ?_) rfl
           ·have h32:=un1 h31
            replace H:=ift h32 H
            refine z03 rfl rfl h31 (z0p z8j rfl) ?_
            refine z7k rfl rfl h31 (z0n tyS3 rfl rfl) rfl ?_
            obtain ⟨r33,h34,H⟩:=bnd H
            refine z03 rfl rfl h31 (z0x (z7o v2.State 1 3 r33 h34) ⟨.inl rfl,.inl rfl,.inl rfl,trivial⟩) ?_
            refine z0a (z1p rfl (bTT h32) rfl) ?_
            refine qe rfl ?_
            exact ⟨r33,H,⟨rfl,rfl,rfl,rfl,trivial⟩,⟨rfl,rfl,rfl,trivial⟩⟩
           ·have h35:=un2 h31
            replace H:=iff_ h35 H
            refine z0l rfl rfl h31 ?_
            refine z0l rfl rfl h31 ?_
            refine z0l rfl rfl h31 ?_
            refine z0a (z1b rfl (bFF h35) rfl) ?_
            refine qe rfl ?_
            exact ⟨false,H,⟨rfl,rfl,rfl,rfl,trivial⟩,⟨rfl,rfl,rfl,trivial⟩⟩
          ·rintro v36 H
           replace H:z7g v2 v3 v36=some r:=H
           unfold z7g at H
           refine z0i _ rfl (fun h37 => ?_) (fun h37 => ?_)
           ·replace H:=ift h37 H
            refine z0b hN rfl ?_
            refine z0a (z0p z8j rfl) ?_
            refine z0f (z2n tyS3 rfl rfl rfl rfl) rfl ?_
            exact ⟨(4,v2.Plan,v2.First),H,⟨rfl,rfl,trivial⟩,⟨rfl,rfl,trivial⟩⟩
           ·replace H:=iff_ h37 H
            refine z0c ?_
            refine z0b hN rfl ?_
            refine z0j (z04 z4h rfl rfl rfl) rfl ?_
            refine z0f (z02 z4h rfl rfl rfl rfl) rfl ?_
            refine qe rfl ?_
            refine z0r ?_
            cases H
            exact ⟨trivial,.inl ⟨_,_,_,z08 v2,rfl,rfl,rfl,rfl,z4h⟩,.inl rfl,trivial⟩
   ·rintro ⟨c38,c39,c40⟩ H
    replace H:z3f v3 c38 c39 c40=some r:=H
    unfold z3f at H
    refine z0c ?_
    refine z0b hN rfl ?_
    refine z0j (z04 z4h rfl rfl rfl) rfl ?_
    refine z0f (z02 z4h rfl rfl rfl rfl) rfl ?_
    refine qe rfl ?_
    refine z0r ?_
    cases H
    exact ⟨trivial,.inl ⟨_,_,_,z08 (z0h.mk c38 c39 v3.At c40),rfl,rfl,rfl,rfl,z4h⟩,.inl rfl,trivial⟩
theorem y8e (c1:z0g) (l2:(List z0e)) (app3:Bs) (product4:Bs) (r:((List z0h)×(List Int))) (H:y0m c1 l2 app3 product4=some r):Fn Tryz.prog 43 [vagg (z1d c1),vlst (List.map z0w l2),vstr app3,vstr product4] (z1x [vlst (List.map z08 r.1),vlst (List.map z3o r.2)]):=by
 refine ⟨by kernel_rfl,z1k (us:=[vlst (List.map z08 r.1),vlst (List.map z3o r.2)]) Tryz.func43 rfl rfl rfl rfl fun X hN => ?_⟩
 unfold y0m at H
 refine z0c ?_
 refine z0b hN rfl ?_
 refine z0f (z2h 1 rfl) rfl ?_
 refine qe rfl ?_
 refine qe rfl ?_
 refine z0c ?_
 refine z0b hN rfl ?_
 obtain ⟨r5,h6,H⟩:=bnd H
 refine z0a (z0x (y4m  r5 h6) trivial) ?_
 refine z0f (x58 (C:=z08) 2 ([r5]:(List z0h)) x7s ⟨rfl,.inr rfl,rfl,trivial⟩ rfl rfl rfl) rfl ?_
 refine z0a (z1j (.row _ _) rfl) ?_
 refine qe rfl ?_
 refine z0c ?_
 refine z0c ?_
 refine z0b hN rfl ?_
 refine qd rfl ?_
 refine z0a (z43 y75 rfl) ?_
 refine qd rfl ?_
 refine z0y ?_
 refine z82 11 3 3 1 rfl rfl rfl ?_
 obtain ⟨h11,H⟩:=gif H
 refine z3u (fun (k9:Nat) (s:(List z0h)×(List Int))=>[(2,.dat (vstr app3)),(3,.dat (vstr product4)),(4,.ptr 1 0),(10,.row 2 s.1.length),(11,.row 3 s.2.length),(18,.dat (vlst (List.map z0w l2))),(19,.dat (vint (l2.length:Int))),(20,.dat (vint (k9:Int)))]) (fun (k9:Nat) (s:(List z0h)×(List Int))=>[(1,.box none 29 [.dat (vlst (List.map z0u c1.Products)),.dat (vlst (List.map z0z c1.Plans))]),(2,.row 39 4 (List.map z08 s.1)),(3,.row 3 1 (List.map z3o s.2))]) (([r5]:(List z0h)),[]) H ⟨rfl,rfl,rfl,rfl,rfl,rfl,rfl,rfl,trivial⟩ ⟨rfl,rfl,rfl,trivial⟩ (fun _ _=>rfl) ?_ ?_
 ·rintro ⟨l7,l8⟩ H
  replace H:z8f l7 l8=some r:=H
  unfold z8f at H
  refine z0c ?_
  refine z0b hN rfl ?_
  refine z0a (z05 rfl rfl) ?_
  refine z0c ?_
  refine z0i _ rfl (fun h=>(lt_t h).elim) (fun h => ?_)
  refine z1v ?_
  refine z0c ?_
  refine z0b hN rfl ?_
  refine z0a (z0k (.row _ _) rfl) ?_
  refine z0a (z0k (.row _ _) rfl) ?_
  refine z0a (z1j (.row _ _) rfl) ?_
  refine z0a (z1j (.row _ _) rfl) ?_
  refine z0r ?_
  cases H
  exact ⟨trivial,y3s rfl rfl,y3s rfl rfl,trivial⟩
 ·rintro k9 x12 ⟨l7,l8⟩ q10 h13 h14 H hq10
  replace H:z6s c1 app3 product4 k9 x12 l7 l8=some q10:=H
  unfold z6s at H
  refine z0c ?_
  refine z0b hN rfl ?_
  refine z0a (z05 rfl rfl) ?_
  refine z0c ?_
  refine z0i _ rfl (fun h => ?_) (fun h=>(lt_f h13 h).elim)
  refine z0s ?_
  refine z1a (ι:=(List z0h)×(List Int)) (fun i=>[(2,.dat (vstr app3)),(3,.dat (vstr product4)),(4,.ptr 1 0),(10,.row 2 i.1.length),(11,.row 3 i.2.length),(18,.dat (vlst (List.map z0w l2))),(19,.dat (vint (l2.length:Int))),(20,.dat (vint (k9:Int)))]) (fun i=>[(1,.box none 29 [.dat (vlst (List.map z0u c1.Products)),.dat (vlst (List.map z0z c1.Plans))]),(2,.row 39 4 (List.map z08 i.1)),(3,.row 3 1 (List.map z3o i.2))]) (fun i=>z6t i.1 i.2=some q10) (fun i=>rfl) ?_ ?_
  ·skip
   refine z0y ?_
   refine z0c ?_
   refine z0b hN rfl ?_
   refine qd rfl ?_
   refine z0a (y1g y4a (fun _=>rfl) rfl rfl h14) ?_
   refine z0a (z2s y1o rfl (z29 h14) rfl) ?_
   refine z0f (z1h 4 x1r rfl) rfl ?_
   refine qe rfl ?_
   refine z0f (z02 y1o rfl rfl rfl rfl) rfl ?_
   refine z0c ?_
   refine z0c ?_
   refine z0b hN rfl ?_
   refine z0a (z0p y2r rfl) ?_
   refine z0j (z0n tyS9 rfl rfl) rfl ?_
   refine qd rfl ?_
   refine z0a (y1m rfl rfl) ?_
   refine qd rfl ?_
   refine y25 rfl rfl (fun hc=>z0p y13 rfl) ?_
   refine x5c rfl rfl (fun hc=>z0n tyS9 (cnd (c:=(!(decide (x12.App≠app3)))) hc) rfl) rfl y3q ?_
   refine y25 rfl rfl (fun hc=>z0k (.dat _) rfl) ?_
   refine y25 rfl rfl (fun hc=>y1m (cnd (c:=(!(decide (x12.App≠app3)))) hc) (cnd (c:=(!(decide (x12.App≠app3)))) hc)) ?_
   refine z0a (z8k rfl rfl (fun hb=>(cnd (c:=(!(decide (x12.App≠app3)))) (notI hb)))) ?_
   refine z0i _ rfl (fun h15 => ?_) (fun h15 => ?_)
   ·replace H:=ift h15 H
    refine z1v ?_
    exact ⟨(l7,l8),H,⟨rfl,rfl,rfl,rfl,rfl,rfl,rfl,rfl,trivial⟩,⟨rfl,rfl,rfl,trivial⟩⟩
   ·replace H:=iff_ h15 H
    refine z0s ?_
    refine z0c ?_
    refine z3q mixed hN rfl rfl ?_
    refine z0j (z04 z5d rfl rfl rfl) rfl ?_
    refine z0a (z0k (.row _ _) rfl) ?_
    refine z0a (z0k (.row _ _) rfl) ?_
    refine z0j (y7j w2c rfl rfl) rfl ?_
    refine z0a (z1s _ rfl rfl (.inr (.inl ⟨rfl,rfl⟩))) ?_
    obtain ⟨x16,h17,H⟩:=bnd H
    refine z0j (y6a w2h rfl rfl rfl h17) rfl ?_
    refine z0j (y5m z4h rfl rfl (z2m h17).2 rfl) rfl ?_
    refine z0j (z04 y1o rfl rfl rfl) rfl ?_
    obtain ⟨r18,h19,H⟩:=bnd H
    refine z0a (z0x (y5x c1 x16 x12 r18 h19) ⟨.inl rfl,.inl rfl,.inl rfl,trivial⟩) ?_
    refine qd rfl ?_
    refine z0a (z11 rfl rfl) ?_
    refine z0a (z11 rfl rfl) ?_
    refine z0f (z1h 5 y3h rfl) rfl ?_
    refine z0f (z02 z4h rfl rfl rfl rfl) rfl ?_
    refine qe rfl ?_
    refine ⟨rfl,?_⟩
    refine z0c ?_
    refine z0b hN rfl ?_
    refine qd rfl ?_
    refine z0i _ rfl (fun h20 => ?_) (fun h20 => ?_)
    ·replace H:=ift h20 H
     refine z0b hN rfl ?_
     refine z0a (z0k (.row _ _) rfl) ?_
     refine z0j (z04 z4h rfl rfl rfl) rfl ?_
     refine z0a (z06 (u':=vlst (List.map z08 [r18.1])) (z1w [_] x7s ⟨rfl,.inr rfl,rfl,trivial⟩ rfl rfl) rfl) ?_
     obtain ⟨h21,H⟩:=gif H
     refine z0f (y50 x7s (fun _=>rfl) rfl rfl rfl ⟨by simp,by first | (simp; done) | simpa using h21⟩ rfl) rfl ?_
     refine z0a (z1j (.row _ _) rfl) ?_
     exact ⟨((l7++[r18.1]),l8),H,⟨rfl,rfl,rfl,rfl,rfl,rfl,rfl,rfl,trivial⟩,⟨rfl,rfl,rfl,trivial⟩⟩
    ·replace H:=iff_ h20 H
     refine z0b hN rfl ?_
     refine z0a (z0k (.row _ _) rfl) ?_
     refine qd rfl ?_
     refine z0a (z06 (u':=vlst (List.map z3o [(k9:Int)])) (z1w [[_]] y1x ⟨rfl,.inl ⟨_,rfl,rfl,rfl⟩,rfl,trivial⟩ rfl rfl) rfl) ?_
     obtain ⟨h22,H⟩:=gif H
     refine z0f (y50 y1x (fun _=>rfl) rfl rfl rfl ⟨by simp,by first | (simp; done) | simpa using h22⟩ rfl) rfl ?_
     refine z0a (z1j (.row _ _) rfl) ?_
     exact ⟨(l7,(l8++[(k9:Int)])),H,⟨rfl,rfl,rfl,rfl,rfl,rfl,rfl,rfl,trivial⟩,⟨rfl,rfl,rfl,trivial⟩⟩
  ·rintro ⟨out23,refused24⟩ H
   replace H:z6t out23 refused24=some q10:=H
   unfold z6t at H
   refine z0b hN rfl ?_
   refine z0a (z3v rfl rfl (by omega)) ?_
   refine qd rfl ?_
   exact ⟨_,z63 H,⟨rfl,rfl,rfl,rfl,rfl,rfl,rfl,rfl,trivial⟩,⟨rfl,rfl,rfl,trivial⟩⟩
theorem y2o (s1:z0d) (r:(Bs×z0d)) (H:z36 s1=some r):Imp Tryz.prog 6 25 (z0v s1) [] (z1x [vstr r.1]) (z0v r.2):=by
 refine y3n (us:=[vstr r.1]) (cs':=(z0v r.2)) (by kernel_rfl) Tryz.func6 rfl rfl rfl rfl fun X bl hN => ?_
 unfold z36 at H
 refine z0c ?_
 refine z0b hN rfl ?_
 refine qe rfl ?_
 refine z0c ?_
 refine z0b hN rfl ?_
 refine z0a (z0k (.ptr _ _) rfl) ?_
 refine z0a (z06 (u':=vlst (List.map z00 [[97,112,112,49],[97,112,112,49],[97,112,112,49],[97,112,112,50],[97,112,112,51],[110,111,110,101]])) (z1w [[_],[_],[_],[_],[_],[_]] y06 ⟨rfl,.inl ⟨_,rfl,rfl,rfl⟩,rfl,rfl,.inl ⟨_,rfl,rfl,rfl⟩,rfl,rfl,.inl ⟨_,rfl,rfl,rfl⟩,rfl,rfl,.inl ⟨_,rfl,rfl,rfl⟩,rfl,rfl,.inl ⟨_,rfl,rfl,rfl⟩,rfl,rfl,.inl ⟨_,rfl,rfl,rfl⟩,rfl,trivial⟩ rfl rfl) rfl) ?_
 obtain ⟨r2,h3,H⟩:=bnd H
 refine z0f (z1i (z1n s1 ([[97,112,112,49],[97,112,112,49],[97,112,112,49],[97,112,112,50],[97,112,112,51],[110,111,110,101]]) r2 h3) rfl ⟨.inl rfl,trivial⟩ rfl) rfl ?_
 refine qe rfl ?_
 refine z0r ?_
 cases H
 exact ⟨trivial,⟨.inl rfl,trivial⟩,rfl⟩
theorem y1n (s1:z0d) (r:(Bs×z0d)) (H:z27 s1=some r):Imp Tryz.prog 7 25 (z0v s1) [] (z1x [vstr r.1]) (z0v r.2):=by
 refine y3n (us:=[vstr r.1]) (cs':=(z0v r.2)) (by kernel_rfl) Tryz.func7 rfl rfl rfl rfl fun X bl hN => ?_
 unfold z27 at H
 refine z0c ?_
 refine z0b hN rfl ?_
 refine qe rfl ?_
 refine z0c ?_
 refine z0b hN rfl ?_
 refine z0a (z0k (.ptr _ _) rfl) ?_
 refine z0a (z06 (u':=vlst (List.map z00 [[115,104,111,112],[115,104,111,112],[115,104,111,112],[109,97,112,115],[110,111,110,101]])) (z1w [[_],[_],[_],[_],[_]] y06 ⟨rfl,.inl ⟨_,rfl,rfl,rfl⟩,rfl,rfl,.inl ⟨_,rfl,rfl,rfl⟩,rfl,rfl,.inl ⟨_,rfl,rfl,rfl⟩,rfl,rfl,.inl ⟨_,rfl,rfl,rfl⟩,rfl,rfl,.inl ⟨_,rfl,rfl,rfl⟩,rfl,trivial⟩ rfl rfl) rfl) ?_
 obtain ⟨r2,h3,H⟩:=bnd H
 refine z0f (z1i (z1n s1 ([[115,104,111,112],[115,104,111,112],[115,104,111,112],[109,97,112,115],[110,111,110,101]]) r2 h3) rfl ⟨.inl rfl,trivial⟩ rfl) rfl ?_
 refine qe rfl ?_
 refine z0r ?_
 cases H
 exact ⟨trivial,⟨.inl rfl,trivial⟩,rfl⟩
theorem y6f (c1:z0g) (l2:(List z0e)) (app3:Bs) (product4:Bs) (r:((List z0h)×(List Int))) (H:z8r c1 l2 app3 product4=some r):FnG Tryz.prog 43 [.dat (vagg (z1d c1)),.row 0 l2.length,.dat (vstr app3),.dat (vstr product4)] [(0,.rowA undef 99 5 (List.map z0w l2))] (.dat (z1x [vlst (List.map z08 r.1),vlst (List.map z3o r.2)])) [(0,.rowA undef 99 5 (List.map z0w l2))]:=by
 refine y65 (by kernel_rfl) Tryz.func43 rfl rfl rfl rfl fun X A hN => ?_
 unfold z8r at H
 refine z0c ?_
 refine z0b hN rfl ?_
 refine z0f (z2h 1 rfl) rfl ?_
 refine qe rfl ?_
 refine qe rfl ?_
 refine z0c ?_
 refine z0b hN rfl ?_
 obtain ⟨r5,h6,H⟩:=bnd H
 refine z0a (z0x (y4m  r5 h6) trivial) ?_
 refine z0f (x58 (C:=z08) 2 ([r5]:(List z0h)) x7s ⟨rfl,.inr rfl,rfl,trivial⟩ rfl rfl rfl) rfl ?_
 refine z0a (z1j (.row _ _) rfl) ?_
 refine qe rfl ?_
 refine z0c ?_
 refine z0c ?_
 refine z0b hN rfl ?_
 refine z0a (z0k (.row _ _) rfl) ?_
 refine z0j (w4g y75 rfl rfl) rfl ?_
 refine qd rfl ?_
 refine z0y ?_
 refine z82 11 3 3 1 rfl rfl rfl ?_
 obtain ⟨h11,H⟩:=gif H
 refine z3u (fun (k9:Nat) (s:(List z0h)×(List Int))=>[(2,.dat (vstr app3)),(3,.dat (vstr product4)),(4,.ptr 1 0),(10,.row 2 s.1.length),(11,.row 3 s.2.length),(18,.row 0 l2.length),(19,.dat (vint (l2.length:Int))),(20,.dat (vint (k9:Int)))]) (fun (k9:Nat) (s:(List z0h)×(List Int))=>[(0,.rowA (A.vl 0) 99 5 (List.map z0w l2)),(1,.box none 29 [.dat (vlst (List.map z0u c1.Products)),.dat (vlst (List.map z0z c1.Plans))]),(2,.row 39 4 (List.map z08 s.1)),(3,.row 3 1 (List.map z3o s.2))]) (([r5]:(List z0h)),[]) H ⟨rfl,rfl,rfl,rfl,rfl,rfl,rfl,rfl,trivial⟩ ⟨rfl,rfl,rfl,rfl,trivial⟩ (fun _ _=>rfl) ?_ ?_
 ·rintro ⟨l7,l8⟩ H
  replace H:z93 l7 l8=some r:=H
  unfold z93 at H
  refine z0c ?_
  refine z0b hN rfl ?_
  refine z0a (z05 rfl rfl) ?_
  refine z0c ?_
  refine z0i _ rfl (fun h=>(lt_t h).elim) (fun h => ?_)
  refine z1v ?_
  refine z0c ?_
  refine z0b hN rfl ?_
  refine z0a (z0k (.row _ _) rfl) ?_
  refine z0a (z0k (.row _ _) rfl) ?_
  refine z0a (z1j (.row _ _) rfl) ?_
  refine z0a (z1j (.row _ _) rfl) ?_
  refine y87 8 2 rfl rfl rfl ?_
  refine y87 9 3 rfl rfl rfl ?_
  refine z0r ?_
  cases H
  exact ⟨trivial,[(8,.dat (vlst (List.map z08 l7))),(9,.dat (vlst (List.map z3o l8)))],⟨rfl,rfl,trivial⟩,⟨rfl,trivial⟩,rfl,.inl ⟨[vlst (List.map z08 l7),vlst (List.map z3o l8)],⟨rfl,rfl,trivial⟩,rfl⟩⟩
 ·rintro k9 x12 ⟨l7,l8⟩ q10 h13 h14 H hq10
  replace H:z92 c1 app3 product4 k9 x12 l7 l8=some q10:=H
  unfold z92 at H
  refine z0c ?_
  refine z0b hN rfl ?_
  refine z0a (z05 rfl rfl) ?_
  refine z0c ?_
  refine z0i _ rfl (fun h => ?_) (fun h=>(lt_f h13 h).elim)
  refine z0s ?_
  refine z1a (ι:=(List z0h)×(List Int)) (fun i=>[(2,.dat (vstr app3)),(3,.dat (vstr product4)),(4,.ptr 1 0),(10,.row 2 i.1.length),(11,.row 3 i.2.length),(18,.row 0 l2.length),(19,.dat (vint (l2.length:Int))),(20,.dat (vint (k9:Int)))]) (fun i=>[(0,.rowA (A.vl 0) 99 5 (List.map z0w l2)),(1,.box none 29 [.dat (vlst (List.map z0u c1.Products)),.dat (vlst (List.map z0z c1.Plans))]),(2,.row 39 4 (List.map z08 i.1)),(3,.row 3 1 (List.map z3o i.2))]) (fun i=>z5b i.1 i.2=some q10) (fun i=>rfl) ?_ ?_
  ·skip
   refine z0y ?_
   refine z0c ?_
   refine z0b hN rfl ?_
   refine qd rfl ?_
   refine z0j (w66 y4a rfl rfl rfl h14) rfl ?_
   refine z0j (y7i y1o rfl rfl h14 rfl) rfl ?_
   refine z0f (z1h 4 x1r rfl) rfl ?_
   refine qe rfl ?_
   refine z0f (z02 y1o rfl rfl rfl rfl) rfl ?_
   refine z0c ?_
   refine z0c ?_
   refine z0b hN rfl ?_
   refine z0a (z0p y2r rfl) ?_
   refine z0j (z0n tyS9 rfl rfl) rfl ?_
   refine qd rfl ?_
   refine z0a (y1m rfl rfl) ?_
   refine qd rfl ?_
   refine y25 rfl rfl (fun hc=>z0p y13 rfl) ?_
   refine x5c rfl rfl (fun hc=>z0n tyS9 (cnd (c:=(!(decide (x12.App≠app3)))) hc) rfl) rfl y3q ?_
   refine y25 rfl rfl (fun hc=>z0k (.dat _) rfl) ?_
   refine y25 rfl rfl (fun hc=>y1m (cnd (c:=(!(decide (x12.App≠app3)))) hc) (cnd (c:=(!(decide (x12.App≠app3)))) hc)) ?_
   refine z0a (z8k rfl rfl (fun hb=>(cnd (c:=(!(decide (x12.App≠app3)))) (notI hb)))) ?_
   refine z0i _ rfl (fun h15 => ?_) (fun h15 => ?_)
   ·replace H:=ift h15 H
    refine z1v ?_
    exact ⟨(l7,l8),H,⟨rfl,rfl,rfl,rfl,rfl,rfl,rfl,rfl,trivial⟩,⟨rfl,rfl,rfl,rfl,trivial⟩⟩
   ·replace H:=iff_ h15 H
    refine z0s ?_
    refine z0c ?_
    refine z3q mixed hN rfl rfl ?_
    refine z0j (z04 z5d rfl rfl rfl) rfl ?_
    refine z0a (z0k (.row _ _) rfl) ?_
    refine z0a (z0k (.row _ _) rfl) ?_
    refine z0j (y7j w2c rfl rfl) rfl ?_
    refine z0a (z1s _ rfl rfl (.inr (.inl ⟨rfl,rfl⟩))) ?_
    obtain ⟨x16,h17,H⟩:=bnd H
    refine z0j (y6a w2h rfl rfl rfl h17) rfl ?_
    refine z0j (y5m z4h rfl rfl (z2m h17).2 rfl) rfl ?_
    refine z0j (z04 y1o rfl rfl rfl) rfl ?_
    obtain ⟨r18,h19,H⟩:=bnd H
    refine z0a (z0x (y5x c1 x16 x12 r18 h19) ⟨.inl rfl,.inl rfl,.inl rfl,trivial⟩) ?_
    refine qd rfl ?_
    refine z0a (z11 rfl rfl) ?_
    refine z0a (z11 rfl rfl) ?_
    refine z0f (z1h 5 y3h rfl) rfl ?_
    refine z0f (z02 z4h rfl rfl rfl rfl) rfl ?_
    refine qe rfl ?_
    refine ⟨rfl,?_⟩
    refine z0c ?_
    refine z0b hN rfl ?_
    refine qd rfl ?_
    refine z0i _ rfl (fun h20 => ?_) (fun h20 => ?_)
    ·replace H:=ift h20 H
     refine z0b hN rfl ?_
     refine z0a (z0k (.row _ _) rfl) ?_
     refine z0j (z04 z4h rfl rfl rfl) rfl ?_
     refine z0a (z06 (u':=vlst (List.map z08 [r18.1])) (z1w [_] x7s ⟨rfl,.inr rfl,rfl,trivial⟩ rfl rfl) rfl) ?_
     obtain ⟨h21,H⟩:=gif H
     refine z0f (y50 x7s (fun _=>rfl) rfl rfl rfl ⟨by simp,by first | (simp; done) | simpa using h21⟩ rfl) rfl ?_
     refine z0a (z1j (.row _ _) rfl) ?_
     exact ⟨((l7++[r18.1]),l8),H,⟨rfl,rfl,rfl,rfl,rfl,rfl,rfl,rfl,trivial⟩,⟨rfl,rfl,rfl,rfl,trivial⟩⟩
    ·replace H:=iff_ h20 H
     refine z0b hN rfl ?_
     refine z0a (z0k (.row _ _) rfl) ?_
     refine qd rfl ?_
     refine z0a (z06 (u':=vlst (List.map z3o [(k9:Int)])) (z1w [[_]] y1x ⟨rfl,.inl ⟨_,rfl,rfl,rfl⟩,rfl,trivial⟩ rfl rfl) rfl) ?_
     obtain ⟨h22,H⟩:=gif H
     refine z0f (y50 y1x (fun _=>rfl) rfl rfl rfl ⟨by simp,by first | (simp; done) | simpa using h22⟩ rfl) rfl ?_
     refine z0a (z1j (.row _ _) rfl) ?_
     exact ⟨(l7,(l8++[(k9:Int)])),H,⟨rfl,rfl,rfl,rfl,rfl,rfl,rfl,rfl,trivial⟩,⟨rfl,rfl,rfl,rfl,trivial⟩⟩
  ·rintro ⟨out23,refused24⟩ H
   replace H:z5b out23 refused24=some q10:=H
   unfold z5b at H
   refine z0b hN rfl ?_
   refine z0a (z3v rfl rfl (by omega)) ?_
   refine qd rfl ?_
   exact ⟨_,z63 H,⟨rfl,rfl,rfl,rfl,rfl,rfl,rfl,rfl,trivial⟩,⟨rfl,rfl,rfl,rfl,trivial⟩⟩
theorem y5f (s1:z0d) (v2:z0g) (v3:(List z0t)) (v4:Int) (r:((List z0e)×z0d)) (H:z6a s1 v2 v3 v4=some r):Imp Tryz.prog 25 25 (z0v s1) [vagg (z1d v2),vlst (List.map z1l v3),vint v4] (z1x [vlst (List.map z0w r.1)]) (z0v r.2):=by
 refine y3n (us:=[vlst (List.map z0w r.1)]) (cs':=(z0v r.2)) (by kernel_rfl) Tryz.func25 rfl rfl rfl rfl fun X bl hN => ?_
 unfold z6a at H
 refine z0c ?_
 refine z0b hN rfl ?_
 refine z0f (z2h 1 rfl) rfl ?_
 refine qe rfl ?_
 refine z0c ?_
 refine z0b hN rfl ?_
 refine qe rfl ?_
 refine z0c ?_
 refine z0b hN rfl ?_
 refine qe rfl ?_
 refine z0c ?_
 refine z0c ?_
 refine z0b hN rfl ?_
 refine qd rfl ?_
 refine qd rfl ?_
 refine z0y ?_
 refine z82 9 2 99 5 rfl rfl rfl ?_
 obtain ⟨h11,H⟩:=gif H
 refine x0n (fun (k9:Nat) (s:Int×(List Int)×Int×(List z0e))=>[(0,.ptr 0 0),(2,.dat (vlst (List.map z1l v3))),(5,.ptr 1 0),(9,.row 2 s.2.2.2.length),(10,.dat (vint s.1)),(17,.dat (vint v4)),(18,.dat (vint (k9:Int)))]) (fun (k9:Nat) (s:Int×(List Int)×Int×(List z0e))=>[(0,.box (some bl) 25 [.dat (vlst (List.map z3o s.2.1)),.dat (vint s.2.2.1)]),(1,.box none 29 [.dat (vlst (List.map z0u v2.Products)),.dat (vlst (List.map z0z v2.Plans))]),(2,.row 99 5 (List.map z0w s.2.2.2))]) (0,s1.L,s1.at_,[]) H ⟨rfl,rfl,rfl,rfl,rfl,rfl,rfl,trivial⟩ ⟨rfl,rfl,rfl,trivial⟩ (fun _ _=>rfl) ?_ ?_
 ·rintro ⟨v5,c6,c7,l8⟩ H
  replace H:z7s v5 c6 c7 l8=some r:=H
  unfold z7s at H
  refine z0c ?_
  refine z0b hN rfl ?_
  refine z0a (z05 rfl rfl) ?_
  refine z0c ?_
  refine z0i _ rfl (fun h=>(w0m h).elim) (fun h => ?_)
  refine z1v ?_
  refine z0c ?_
  refine z0b hN rfl ?_
  refine z0a (z0k (.row _ _) rfl) ?_
  obtain ⟨r12,h13,H⟩:=bnd H
  obtain ⟨h14,H⟩:=gif H
  refine z7u (rn [(0,2)]) [(0,_,_,some _)] [] (z98 l8 (fun (a0:z0e) (a1:z0e)=>z3a a0 a1) 55 [] (fun a0 a1 r h=>y1w a0 a1 r h) r12 h13) ⟨rfl,trivial⟩ ⟨.inl (.inl rfl),.inr ⟨_,rfl,rfl⟩,trivial⟩ ⟨⟨⟨rfl,rfl,rfl⟩,by simp [y8v,h14]⟩,trivial⟩ rfl ?_
  refine z0c ?_
  refine z0c ?_
  refine z0b hN rfl ?_
  refine z0a (z0k (.ptr _ _) rfl) ?_
  obtain ⟨r15,h16,H⟩:=bnd H
  refine z0f (z1i (z1y (z0d.mk c6 c7) 60 r15 h16) rfl ⟨.inl rfl,trivial⟩ rfl) rfl ?_
  refine z0i _ rfl (fun h17 => ?_) (fun h17 => ?_)
  ·replace H:=ift h17 H
   refine z0c ?_
   refine z0b hN rfl ?_
   refine z0a (z0k (.row _ _) rfl) ?_
   refine z0a (z1j (.row _ _) rfl) ?_
   refine z0r ?_
   cases H
   exact ⟨trivial,⟨y3s rfl (h14).symm,trivial⟩,rfl⟩
  ·replace H:=iff_ h17 H
   refine z0s ?_
   refine z0c ?_
   refine z0b hN rfl ?_
   refine z0a (z0k (.row _ _) rfl) ?_
   obtain ⟨r18,h19,H⟩:=bnd H
   refine z7u (rn [(0,2),(900,3)]) [(0,_,_,none)] [(900,_)] (y0v r12 (fun (a0:z0e) (a1:z0e)=>z5m a0 a1) 57 [] (fun a0 a1 r h=>y4r a0 a1 r h) r18 h19) ⟨rfl,rfl,trivial⟩ ⟨.inl (.inl (congrArg (Slot.row 2) (h14).symm)),.inr ⟨_,rfl,rfl⟩,trivial⟩ ⟨⟨⟨rfl,rfl,rfl⟩,trivial⟩,trivial⟩ rfl ?_
   refine z0a (z1j (.row _ _) rfl) ?_
   refine z0r ?_
   cases H
   exact ⟨trivial,⟨y3s rfl rfl,trivial⟩,rfl⟩
 ·rintro k9 ⟨v5,c6,c7,l8⟩ q10 h20 H hq10
  replace H:z7q v2 v3 k9 v5 c6 c7 l8=some q10:=H
  unfold z7q at H
  refine z0c ?_
  refine z0b hN rfl ?_
  refine z0a (z05 rfl rfl) ?_
  refine z0c ?_
  refine z0i _ rfl (fun h => ?_) (fun h=>(w0n h20 h).elim)
  refine z0s ?_
  refine z1a (ι:=Int×(List z0e)×(List Int)×Int) (fun i=>[(0,.ptr 0 0),(2,.dat (vlst (List.map z1l v3))),(5,.ptr 1 0),(9,.row 2 i.2.1.length),(10,.dat (vint i.1)),(17,.dat (vint v4)),(18,.dat (vint (k9:Int)))]) (fun i=>[(0,.box (some bl) 25 [.dat (vlst (List.map z3o i.2.2.1)),.dat (vint i.2.2.2)]),(1,.box none 29 [.dat (vlst (List.map z0u v2.Products)),.dat (vlst (List.map z0z v2.Plans))]),(2,.row 99 5 (List.map z0w i.2.1))]) (fun i=>z3d i.1 i.2.1 i.2.2.1 i.2.2.2=some q10) (fun i=>rfl) ?_ ?_
  ·skip
   refine z0y ?_
   refine z0c ?_
   refine z0b hN rfl ?_
   refine qd rfl ?_
   refine z0a (z0k (.ptr _ _) rfl) ?_
   refine qd rfl ?_
   refine z0a (x2b rfl rfl (by decide)) ?_
   refine z0a (z1s _ rfl rfl (.inr (.inl ⟨rfl,rfl⟩))) ?_
   refine z0a (z06 (u':=vlst (List.map z3o [1,5,86400000,864000000,2592000000,wr (2592000000 - (Int.tmod v5 2592000000))])) (z1w [[_],[_],[_],[_],[_],[_]] y1x ⟨rfl,.inl ⟨_,rfl,rfl,rfl⟩,rfl,rfl,.inl ⟨_,rfl,rfl,rfl⟩,rfl,rfl,.inl ⟨_,rfl,rfl,rfl⟩,rfl,rfl,.inl ⟨_,rfl,rfl,rfl⟩,rfl,rfl,.inl ⟨_,rfl,rfl,rfl⟩,rfl,rfl,.inl ⟨_,rfl,rfl,rfl⟩,rfl,trivial⟩ rfl rfl) rfl) ?_
   obtain ⟨r21,h22,H⟩:=bnd H
   refine z0f (z1i (z07 (z0d.mk c6 c7) [1,5,86400000,864000000,2592000000,wr (2592000000 - (Int.tmod v5 2592000000))] r21 h22) rfl ⟨.inl rfl,trivial⟩ rfl) rfl ?_
   refine z0a (z1s _ rfl rfl (.inl ⟨rfl,rfl⟩)) ?_
   refine qe rfl ?_
   refine z0c ?_
   refine z0b hN rfl ?_
   refine qd rfl ?_
   refine z0a (z0k (.ptr _ _) rfl) ?_
   refine z0a (z06 (u':=vlst (List.map z00 [[97,112,112,49],[97,112,112,49],[97,112,112,50]])) (z1w [[_],[_],[_]] y06 ⟨rfl,.inl ⟨_,rfl,rfl,rfl⟩,rfl,rfl,.inl ⟨_,rfl,rfl,rfl⟩,rfl,rfl,.inl ⟨_,rfl,rfl,rfl⟩,rfl,trivial⟩ rfl rfl) rfl) ?_
   obtain ⟨r23,h24,H⟩:=bnd H
   refine z0f (z1i (z1n r21.2 ([[97,112,112,49],[97,112,112,49],[97,112,112,50]]) r23 h24) rfl ⟨.inl rfl,trivial⟩ rfl) rfl ?_
   refine z0a (z0k (.ptr _ _) rfl) ?_
   refine z0a (z06 (u':=vlst (List.map z00 [[115,104,111,112],[115,104,111,112],[109,97,112,115]])) (z1w [[_],[_],[_]] y06 ⟨rfl,.inl ⟨_,rfl,rfl,rfl⟩,rfl,rfl,.inl ⟨_,rfl,rfl,rfl⟩,rfl,rfl,.inl ⟨_,rfl,rfl,rfl⟩,rfl,trivial⟩ rfl rfl) rfl) ?_
   obtain ⟨r25,h26,H⟩:=bnd H
   refine z0f (z1i (z1n r23.2 ([[115,104,111,112],[115,104,111,112],[109,97,112,115]]) r25 h26) rfl ⟨.inl rfl,trivial⟩ rfl) rfl ?_
   refine z0a (z0k (.ptr _ _) rfl) ?_
   obtain ⟨r27,h28,H⟩:=bnd H
   refine z0f (z1i (z6r r25.2 1 6 r27 h28) rfl ⟨.inl rfl,.inl rfl,trivial⟩ rfl) rfl ?_
   refine z0a (z06 (u':=vagg (z0w (z0e.mk (wr (v5+r21.1)) r23.1 r25.1 r27.1 []))) (z3k [(0,[vint (wr (v5+r21.1))]),(1,[vstr r23.1]),(2,[vstr r25.1]),(3,[vint r27.1])] x1r w76 rfl ⟨rfl,.inl ⟨_,rfl,rfl,rfl⟩,rfl,rfl,.inl ⟨_,rfl,rfl,rfl⟩,rfl,rfl,.inl ⟨_,rfl,rfl,rfl⟩,rfl,rfl,.inl ⟨_,rfl,rfl,rfl⟩,rfl,trivial⟩) rfl) ?_
   refine z0f (z1h 4 x1r rfl) rfl ?_
   refine z0f (z02 y1o rfl rfl rfl rfl) rfl ?_
   refine z1a (ι:=(List Int)×Int×Bs) (fun i=>[(0,.ptr 0 0),(2,.dat (vlst (List.map z1l v3))),(5,.ptr 1 0),(9,.row 2 l8.length),(10,.dat (vint (wr (v5+r21.1)))),(11,.ptr 4 0),(17,.dat (vint v4)),(18,.dat (vint (k9:Int)))]) (fun i=>[(0,.box (some bl) 25 [.dat (vlst (List.map z3o i.1)),.dat (vint i.2.1)]),(1,.box none 29 [.dat (vlst (List.map z0u v2.Products)),.dat (vlst (List.map z0z v2.Plans))]),(2,.row 99 5 (List.map z0w l8)),(4,.box none 99 [.dat (vint (wr (v5+r21.1))),.dat (vstr i.2.2),.dat (vstr r25.1),.dat (vint r27.1),.dat (vstr [])])]) (fun i=>z3c v2 v5 l8 r21 r25 r27 i.1 i.2.1 i.2.2=some q10) (fun i=>rfl) ?_ ?_
   ·skip
    refine z1a (ι:=Bool×(List Int)×Int) (fun i=>[(0,.ptr 0 0),(2,.dat (vlst (List.map z1l v3))),(5,.ptr 1 0),(9,.row 2 l8.length),(10,.dat (vint (wr (v5+r21.1)))),(11,.ptr 4 0),(17,.dat (vint v4)),(18,.dat (vint (k9:Int))),(44,.dat (z1e i.1))]) (fun i=>[(0,.box (some bl) 25 [.dat (vlst (List.map z3o i.2.1)),.dat (vint i.2.2)]),(1,.box none 29 [.dat (vlst (List.map z0u v2.Products)),.dat (vlst (List.map z0z v2.Plans))]),(2,.row 99 5 (List.map z0w l8)),(4,.box none 99 [.dat (vint (wr (v5+r21.1))),.dat (vstr r23.1),.dat (vstr r25.1),.dat (vint r27.1),.dat (vstr [])])]) (fun i=>z4v v2 v3 v5 l8 r21 r23 r25 r27 i.1 i.2.1 i.2.2=some q10) (fun i=>rfl) ?_ ?_
    ·skip
     refine z0b hN rfl ?_
     refine qd rfl ?_
     refine z0a (z43 x3l rfl) ?_
     refine z0a (z5n rfl rfl) ?_
     refine qd rfl ?_
     refine z19 (j:=3) rfl rfl (fun h29 => ?_) (fun h29 => ?_) rfl
     ·have h30:=un1 h29
      replace H:=ift h30 H
      refine z03 rfl rfl h29 (z0k (.ptr _ _) rfl) ?_
      obtain ⟨r31,h32,H⟩:=bnd H
      refine x90 rfl rfl h29 (z1i (z1y r27.2 3 r31 h32) rfl ⟨.inl rfl,trivial⟩ rfl) rfl ?_
      refine z0a (z1p rfl (bTT h30) rfl) ?_
      exact ⟨(r31.1,r31.2.L,r31.2.at_),H,⟨rfl,rfl,rfl,rfl,rfl,rfl,rfl,rfl,rfl,trivial⟩,⟨rfl,rfl,rfl,rfl,trivial⟩⟩
     ·have h33:=un2 h29
      replace H:=iff_ h33 H
      refine z0l rfl rfl h29 ?_
      refine z0l rfl rfl h29 ?_
      refine z0a (z1b rfl (bFF h33) rfl) ?_
      exact ⟨(false,r27.2.L,r27.2.at_),H,⟨rfl,rfl,rfl,rfl,rfl,rfl,rfl,rfl,rfl,trivial⟩,⟨rfl,rfl,rfl,rfl,trivial⟩⟩
    ·rintro ⟨v34,c35,c36⟩ H
     replace H:z4v v2 v3 v5 l8 r21 r23 r25 r27 v34 c35 c36=some q10:=H
     unfold z4v at H
     refine z0i _ rfl (fun h37 => ?_) (fun h37 => ?_)
     ·replace H:=ift h37 H
      refine z0b hN rfl ?_
      refine qd rfl ?_
      refine z0a (z0k (.ptr _ _) rfl) ?_
      refine qd rfl ?_
      refine z0a (z43 x3l rfl) ?_
      obtain ⟨r38,h39,H⟩:=bnd H
      refine z0f (z1i (z3m (z0d.mk c35 c36) (v3.length:Int) r38 h39) rfl ⟨.inl rfl,trivial⟩ rfl) rfl ?_
      obtain ⟨x40,h41,H⟩:=bnd H
      refine z0a (y1l x3p (fun _=>rfl) rfl rfl h41) ?_
      refine z0a (y0c y5j rfl) ?_
      refine z0a (z1q tyS9 rfl (z29 (z2m h41).2) rfl) ?_
      refine z0a (z0p y2r rfl) ?_
      refine z0f (z2n tyS9 rfl rfl rfl rfl) rfl ?_
      exact ⟨(r38.2.L,r38.2.at_,x40.Key),H,⟨rfl,rfl,rfl,rfl,rfl,rfl,rfl,rfl,trivial⟩,⟨rfl,rfl,rfl,rfl,trivial⟩⟩
     ·replace H:=iff_ h37 H
      refine z0s ?_
      exact ⟨(c35,c36,r23.1),H,⟨rfl,rfl,rfl,rfl,rfl,rfl,rfl,rfl,trivial⟩,⟨rfl,rfl,rfl,rfl,trivial⟩⟩
   ·rintro ⟨c42,c43,c44⟩ H
    replace H:z3c v2 v5 l8 r21 r25 r27 c42 c43 c44=some q10:=H
    unfold z3c at H
    refine z0c ?_
    refine z0b hN rfl ?_
    refine qe rfl ?_
    refine z0c ?_
    refine z0c ?_
    refine z0b hN rfl ?_
    refine z0a (z0p z9n rfl) ?_
    refine z0j (z0n y4q rfl rfl) rfl ?_
    refine z0a (z43 y9e rfl) ?_
    refine qd rfl ?_
    refine z0y ?_
    refine z82 12 5 9 1 rfl rfl rfl ?_
    obtain ⟨h48,H⟩:=gif H
    refine z3u (fun (k46:Nat) (s:(List Bs))=>[(0,.ptr 0 0),(2,.dat (vlst (List.map z1l v3))),(5,.ptr 1 0),(9,.row 2 l8.length),(10,.dat (vint (wr (v5+r21.1)))),(11,.ptr 4 0),(12,.row 5 s.length),(17,.dat (vint v4)),(18,.dat (vint (k9:Int))),(55,.dat (vlst (List.map z0z v2.Plans))),(56,.dat (vint (v2.Plans.length:Int))),(57,.dat (vint (k46:Int)))]) (fun (k46:Nat) (s:(List Bs))=>[(0,.box (some bl) 25 [.dat (vlst (List.map z3o c42)),.dat (vint c43)]),(1,.box none 29 [.dat (vlst (List.map z0u v2.Products)),.dat (vlst (List.map z0z v2.Plans))]),(2,.row 99 5 (List.map z0w l8)),(4,.box none 99 [.dat (vint (wr (v5+r21.1))),.dat (vstr c44),.dat (vstr r25.1),.dat (vint r27.1),.dat (vstr [])]),(5,.row 9 1 (List.map z00 s))]) [] H ⟨rfl,rfl,rfl,rfl,rfl,rfl,rfl,rfl,rfl,rfl,rfl,rfl,trivial⟩ ⟨rfl,rfl,rfl,rfl,rfl,trivial⟩ (fun _ _=>rfl) ?_ ?_
    ·rintro l45 H
     replace H:z7r v2 v5 l8 r21 r25 r27 c42 c43 c44 l45=some q10:=H
     unfold z7r at H
     refine z0c ?_
     refine z0b hN rfl ?_
     refine z0a (z05 rfl rfl) ?_
     refine z0c ?_
     refine z0i _ rfl (fun h=>(lt_t h).elim) (fun h => ?_)
     refine z1v ?_
     refine z1a (ι:=(List Int)×Int×Int) (fun i=>[(0,.ptr 0 0),(2,.dat (vlst (List.map z1l v3))),(5,.ptr 1 0),(9,.row 2 l8.length),(10,.dat (vint (wr (v5+r21.1)))),(11,.ptr 4 0),(12,.row 5 l45.length),(17,.dat (vint v4)),(18,.dat (vint (k9:Int)))]) (fun i=>[(0,.box (some bl) 25 [.dat (vlst (List.map z3o i.1)),.dat (vint i.2.1)]),(1,.box none 29 [.dat (vlst (List.map z0u v2.Products)),.dat (vlst (List.map z0z v2.Plans))]),(2,.row 99 5 (List.map z0w l8)),(4,.box none 99 [.dat (vint (wr (v5+r21.1))),.dat (vstr c44),.dat (vstr r25.1),.dat (vint i.2.2),.dat (vstr [])]),(5,.row 9 1 (List.map z00 l45))]) (fun i=>z2c v5 l8 r21 r25 c44 l45 i.1 i.2.1 i.2.2=some q10) (fun i=>rfl) ?_ ?_
     ·skip
      refine z1a (ι:=Bool×(List Int)×Int) (fun i=>[(0,.ptr 0 0),(2,.dat (vlst (List.map z1l v3))),(5,.ptr 1 0),(9,.row 2 l8.length),(10,.dat (vint (wr (v5+r21.1)))),(11,.ptr 4 0),(12,.row 5 l45.length),(17,.dat (vint v4)),(18,.dat (vint (k9:Int))),(79,.dat (z1e i.1))]) (fun i=>[(0,.box (some bl) 25 [.dat (vlst (List.map z3o i.2.1)),.dat (vint i.2.2)]),(1,.box none 29 [.dat (vlst (List.map z0u v2.Products)),.dat (vlst (List.map z0z v2.Plans))]),(2,.row 99 5 (List.map z0w l8)),(4,.box none 99 [.dat (vint (wr (v5+r21.1))),.dat (vstr c44),.dat (vstr r25.1),.dat (vint r27.1),.dat (vstr [])]),(5,.row 9 1 (List.map z00 l45))]) (fun i=>z3b v2 v5 l8 r21 r25 r27 c44 l45 i.1 i.2.1 i.2.2=some q10) (fun i=>rfl) ?_ ?_
      ·skip
       refine z0b hN rfl ?_
       refine z0a (z0k (.ptr _ _) rfl) ?_
       obtain ⟨r50,h51,H⟩:=bnd H
       refine z0f (z1i (z1y (z0d.mk c42 c43) 4 r50 h51) rfl ⟨.inl rfl,trivial⟩ rfl) rfl ?_
       refine z0a (z3r rfl) ?_
       refine qd rfl ?_
       refine z19 (j:=3) rfl rfl (fun h52 => ?_) (fun h52 => ?_) rfl
       ·have h53:=un1 h52
        replace H:=ift h53 H
        refine z7k rfl rfl h52 (z04 z5d rfl rfl rfl) rfl ?_
        obtain ⟨r54,h55,H⟩:=bnd H
        refine z03 rfl rfl h52 (z0x (y2y v2 r54 h55) ⟨.inl rfl,trivial⟩) ?_
        refine z03 rfl rfl h52 (z12 rfl rfl) ?_
        refine z0a (z1p rfl (bTT h53) rfl) ?_
        exact ⟨(decide (r54=0),r50.2.L,r50.2.at_),H,⟨rfl,rfl,rfl,rfl,rfl,rfl,rfl,rfl,rfl,rfl,trivial⟩,⟨rfl,rfl,rfl,rfl,rfl,trivial⟩⟩
       ·have h56:=un2 h52
        replace H:=iff_ h56 H
        refine z0l rfl rfl h52 ?_
        refine z0l rfl rfl h52 ?_
        refine z0l rfl rfl h52 ?_
        refine z0a (z1b rfl (bFF h56) rfl) ?_
        exact ⟨(false,r50.2.L,r50.2.at_),H,⟨rfl,rfl,rfl,rfl,rfl,rfl,rfl,rfl,rfl,rfl,trivial⟩,⟨rfl,rfl,rfl,rfl,rfl,trivial⟩⟩
      ·rintro ⟨v57,c58,c59⟩ H
       replace H:z3b v2 v5 l8 r21 r25 r27 c44 l45 v57 c58 c59=some q10:=H
       unfold z3b at H
       refine z0i _ rfl (fun h60 => ?_) (fun h60 => ?_)
       ·replace H:=ift h60 H
        refine z0c ?_
        refine z0b hN rfl ?_
        refine z0j (z04 z5d rfl rfl rfl) rfl ?_
        refine z0a (z0k (.row _ _) rfl) ?_
        refine z0a (z0p y2r rfl) ?_
        refine z0j (z0n tyS9 rfl rfl) rfl ?_
        refine z0a (z0p y13 rfl) ?_
        refine z0j (z0n tyS9 rfl rfl) rfl ?_
        obtain ⟨r61,h62,H⟩:=bnd H
        refine z7u (rn [(0,2)]) [(0,_,_,some _)] [] (y6f v2 l8 c44 r25.1 r61 h62) ⟨rfl,trivial⟩ ⟨.inl (.inl rfl),.inl (.inl rfl),.inl (.inl rfl),.inl (.inl rfl),trivial⟩ ⟨⟨⟨rfl,rfl,rfl⟩,by simp [y8v]⟩,trivial⟩ rfl ?_
        refine qd rfl ?_
        refine z0a (z11 rfl rfl) ?_
        refine z0a (z11 rfl rfl) ?_
        refine qe rfl ?_
        refine qe rfl ?_
        refine z0c ?_
        refine z0b hN rfl ?_
        refine qd rfl ?_
        refine qd rfl ?_
        refine z0a (z43 w2c rfl) ?_
        refine z0a (z1s _ rfl rfl (.inr (.inl ⟨rfl,rfl⟩))) ?_
        obtain ⟨x63,h64,H⟩:=bnd H
        refine z0a (y1l w2h (fun _=>rfl) rfl rfl h64) ?_
        refine z0a (y0c z8j rfl) ?_
        refine z0a (z1q tyS3 rfl (z29 (z2m h64).2) rfl) ?_
        refine z0y ?_
        refine z0c ?_
        refine z0b hN rfl ?_
        refine z0a (z12 rfl rfl) ?_
        refine qe rfl ?_
        refine z0i _ rfl (fun h65 => ?_) (fun h65 => ?_)
        ·replace H:=ift h65 H
         refine z0b hN rfl ?_
         refine z0a (z0k (.ptr _ _) rfl) ?_
         refine z0a (z06 (u':=vlst (List.map z3o [2,2,3])) (z1w [[_],[_],[_]] y1x ⟨rfl,.inl ⟨_,rfl,rfl,rfl⟩,rfl,rfl,.inl ⟨_,rfl,rfl,rfl⟩,rfl,rfl,.inl ⟨_,rfl,rfl,rfl⟩,rfl,trivial⟩ rfl rfl) rfl) ?_
         obtain ⟨r66,h67,H⟩:=bnd H
         refine z0f (z1i (z07 (z0d.mk c58 c59) [2,2,3] r66 h67) rfl ⟨.inl rfl,trivial⟩ rfl) rfl ?_
         refine z0a (z0p z84 rfl) ?_
         refine z0f (z2n tyS3 rfl rfl rfl rfl) rfl ?_
         exact ⟨(r66.2.L,r66.2.at_,r66.1),H,⟨rfl,rfl,rfl,rfl,rfl,rfl,rfl,rfl,rfl,trivial⟩,⟨rfl,rfl,rfl,rfl,rfl,trivial⟩⟩
        ·replace H:=iff_ h65 H
         refine z0c ?_
         refine z0b hN rfl ?_
         refine z0a (z12 rfl rfl) ?_
         refine qe rfl ?_
         refine z0i _ rfl (fun h68 => ?_) (fun h68 => ?_)
         ·replace H:=ift h68 H
          refine z0b hN rfl ?_
          refine z0a (z0k (.ptr _ _) rfl) ?_
          refine z0a (z06 (u':=vlst (List.map z3o [4,6,1])) (z1w [[_],[_],[_]] y1x ⟨rfl,.inl ⟨_,rfl,rfl,rfl⟩,rfl,rfl,.inl ⟨_,rfl,rfl,rfl⟩,rfl,rfl,.inl ⟨_,rfl,rfl,rfl⟩,rfl,trivial⟩ rfl rfl) rfl) ?_
          obtain ⟨r69,h70,H⟩:=bnd H
          refine z0f (z1i (z07 (z0d.mk c58 c59) [4,6,1] r69 h70) rfl ⟨.inl rfl,trivial⟩ rfl) rfl ?_
          refine z0a (z0p z84 rfl) ?_
          refine z0f (z2n tyS3 rfl rfl rfl rfl) rfl ?_
          exact ⟨(r69.2.L,r69.2.at_,r69.1),H,⟨rfl,rfl,rfl,rfl,rfl,rfl,rfl,rfl,rfl,trivial⟩,⟨rfl,rfl,rfl,rfl,rfl,trivial⟩⟩
         ·replace H:=iff_ h68 H
          refine z0c ?_
          refine z0b hN rfl ?_
          refine z0a (z12 rfl rfl) ?_
          refine qe rfl ?_
          refine z0i _ rfl (fun h71 => ?_) (fun h71 => ?_)
          ·replace H:=ift h71 H
           refine z0b hN rfl ?_
           refine z0a (z0k (.ptr _ _) rfl) ?_
           refine z0a (z06 (u':=vlst (List.map z3o [5,6])) (z1w [[_],[_]] y1x ⟨rfl,.inl ⟨_,rfl,rfl,rfl⟩,rfl,rfl,.inl ⟨_,rfl,rfl,rfl⟩,rfl,trivial⟩ rfl rfl) rfl) ?_
           obtain ⟨r72,h73,H⟩:=bnd H
           refine z0f (z1i (z07 (z0d.mk c58 c59) [5,6] r72 h73) rfl ⟨.inl rfl,trivial⟩ rfl) rfl ?_
           refine z0a (z0p z84 rfl) ?_
           refine z0f (z2n tyS3 rfl rfl rfl rfl) rfl ?_
           exact ⟨(r72.2.L,r72.2.at_,r72.1),H,⟨rfl,rfl,rfl,rfl,rfl,rfl,rfl,rfl,rfl,trivial⟩,⟨rfl,rfl,rfl,rfl,rfl,trivial⟩⟩
          ·replace H:=iff_ h71 H
           refine z0b hN rfl ?_
           refine z0a (z0p z84 rfl) ?_
           refine z0f (z2n tyS3 rfl rfl rfl rfl) rfl ?_
           exact ⟨(c58,c59,1),H,⟨rfl,rfl,rfl,rfl,rfl,rfl,rfl,rfl,rfl,trivial⟩,⟨rfl,rfl,rfl,rfl,rfl,trivial⟩⟩
       ·replace H:=iff_ h60 H
        refine z0s ?_
        exact ⟨(c58,c59,r27.1),H,⟨rfl,rfl,rfl,rfl,rfl,rfl,rfl,rfl,rfl,trivial⟩,⟨rfl,rfl,rfl,rfl,rfl,trivial⟩⟩
     ·rintro ⟨c74,c75,c76⟩ H
      replace H:z2c v5 l8 r21 r25 c44 l45 c74 c75 c76=some q10:=H
      unfold z2c at H
      refine z1a (ι:=(List Int)×Int×Bs) (fun i=>[(0,.ptr 0 0),(2,.dat (vlst (List.map z1l v3))),(5,.ptr 1 0),(9,.row 2 l8.length),(10,.dat (vint (wr (v5+r21.1)))),(11,.ptr 4 0),(17,.dat (vint v4)),(18,.dat (vint (k9:Int)))]) (fun i=>[(0,.box (some bl) 25 [.dat (vlst (List.map z3o i.1)),.dat (vint i.2.1)]),(1,.box none 29 [.dat (vlst (List.map z0u v2.Products)),.dat (vlst (List.map z0z v2.Plans))]),(2,.row 99 5 (List.map z0w l8)),(4,.box none 99 [.dat (vint (wr (v5+r21.1))),.dat (vstr c44),.dat (vstr r25.1),.dat (vint c76),.dat (vstr i.2.2)])]) (fun i=>z3x v5 l8 r21 r25 c44 c76 i.1 i.2.1 i.2.2=some q10) (fun i=>rfl) ?_ ?_
      ·skip
       refine z0c ?_
       refine z0b hN rfl ?_
       refine z0a (z0p z84 rfl) ?_
       refine z0j (z0n tyS3 rfl rfl) rfl ?_
       refine z0a (z12 rfl rfl) ?_
       refine z0i _ rfl (fun h77 => ?_) (fun h77 => ?_)
       ·replace H:=ift h77 H
        refine z0c ?_
        refine z0c ?_
        refine z0b hN rfl ?_
        refine z0a (z0k (.row _ _) rfl) ?_
        refine z0j (y7j y2p rfl rfl) rfl ?_
        refine z0a (z12 rfl rfl) ?_
        refine z0i _ rfl (fun h78 => ?_) (fun h78 => ?_)
        ·replace H:=ift h78 H
         refine z1v ?_
         exact ⟨(wr (v5+r21.1),l8,c74,c75),H,⟨rfl,rfl,rfl,rfl,rfl,rfl,rfl,trivial⟩,⟨rfl,rfl,rfl,trivial⟩⟩
        ·replace H:=iff_ h78 H
         refine z0s ?_
         refine z0b hN rfl ?_
         refine z0a (z0k (.row _ _) rfl) ?_
         refine z0a (z0k (.ptr _ _) rfl) ?_
         refine z0a (z0k (.row _ _) rfl) ?_
         refine z0j (y7j y2p rfl rfl) rfl ?_
         obtain ⟨r79,h80,H⟩:=bnd H
         refine z0f (z1i (z3m (z0d.mk c74 c75) (l45.length:Int) r79 h80) rfl ⟨.inl rfl,trivial⟩ rfl) rfl ?_
         obtain ⟨x81,h82,H⟩:=bnd H
         refine z0j (y6a y5z rfl rfl rfl h82) rfl ?_
         refine z0j (x57 tyS9 rfl rfl (z2m h82).2 rfl) rfl ?_
         refine z0a (z0p y27 rfl) ?_
         refine z0f (z2n tyS9 rfl rfl rfl rfl) rfl ?_
         exact ⟨(r79.2.L,r79.2.at_,x81),H,⟨rfl,rfl,rfl,rfl,rfl,rfl,rfl,rfl,trivial⟩,⟨rfl,rfl,rfl,rfl,trivial⟩⟩
       ·replace H:=iff_ h77 H
        refine z0s ?_
        exact ⟨(c74,c75,[]),H,⟨rfl,rfl,rfl,rfl,rfl,rfl,rfl,rfl,trivial⟩,⟨rfl,rfl,rfl,rfl,trivial⟩⟩
      ·rintro ⟨c83,c84,c85⟩ H
       replace H:z3x v5 l8 r21 r25 c44 c76 c83 c84 c85=some q10:=H
       unfold z3x at H
       refine z1a (ι:=(List Int)×Int×Int×Bs×Bs×Int×Bs) (fun i=>[(0,.ptr 0 0),(2,.dat (vlst (List.map z1l v3))),(5,.ptr 1 0),(9,.row 2 l8.length),(10,.dat (vint (wr (v5+r21.1)))),(11,.ptr 4 0),(17,.dat (vint v4)),(18,.dat (vint (k9:Int)))]) (fun i=>[(0,.box (some bl) 25 [.dat (vlst (List.map z3o i.1)),.dat (vint i.2.1)]),(1,.box none 29 [.dat (vlst (List.map z0u v2.Products)),.dat (vlst (List.map z0z v2.Plans))]),(2,.row 99 5 (List.map z0w l8)),(4,.box none 99 [.dat (vint i.2.2.1),.dat (vstr i.2.2.2.1),.dat (vstr i.2.2.2.2.1),.dat (vint i.2.2.2.2.2.1),.dat (vstr i.2.2.2.2.2.2)])]) (fun i=>z2b v5 l8 r21 i.1 i.2.1 i.2.2.1 i.2.2.2.1 i.2.2.2.2.1 i.2.2.2.2.2.1 i.2.2.2.2.2.2=some q10) (fun i=>rfl) ?_ ?_
       ·skip
        refine z0c ?_
        refine z0b hN rfl ?_
        refine z0a (z0k (.ptr _ _) rfl) ?_
        obtain ⟨r86,h87,H⟩:=bnd H
        refine z0f (z1i (z1y (z0d.mk c83 c84) 60 r86 h87) rfl ⟨.inl rfl,trivial⟩ rfl) rfl ?_
        refine z0i _ rfl (fun h88 => ?_) (fun h88 => ?_)
        ·replace H:=ift h88 H
         refine z0c ?_
         refine z0b hN rfl ?_
         refine z0a (z0k (.ptr _ _) rfl) ?_
         obtain ⟨r89,h90,H⟩:=bnd H
         refine z0f (z1i (z3m r86.2 5 r89 h90) rfl ⟨.inl rfl,trivial⟩ rfl) rfl ?_
         refine z0y ?_
         refine z0c ?_
         refine z0b hN rfl ?_
         refine z0a (z12 rfl rfl) ?_
         refine qe rfl ?_
         refine z0i _ rfl (fun h91 => ?_) (fun h91 => ?_)
         ·replace H:=ift h91 H
          refine z0b hN rfl ?_
          refine z0a (z0k (.ptr _ _) rfl) ?_
          obtain ⟨r92,h93,H⟩:=bnd H
          refine z0f (z1i (y2o r89.2 r92 h93) rfl trivial rfl) rfl ?_
          refine z0a (z0p y2r rfl) ?_
          refine z0f (z2n tyS9 rfl rfl rfl rfl) rfl ?_
          exact ⟨(r92.2.L,r92.2.at_,(wr (v5+r21.1)),r92.1,r25.1,c76,c85),H,⟨rfl,rfl,rfl,rfl,rfl,rfl,rfl,rfl,trivial⟩,⟨rfl,rfl,rfl,rfl,trivial⟩⟩
         ·replace H:=iff_ h91 H
          refine z0c ?_
          refine z0b hN rfl ?_
          refine z0a (z12 rfl rfl) ?_
          refine qe rfl ?_
          refine z0i _ rfl (fun h94 => ?_) (fun h94 => ?_)
          ·replace H:=ift h94 H
           refine z0b hN rfl ?_
           refine z0a (z0k (.ptr _ _) rfl) ?_
           obtain ⟨r95,h96,H⟩:=bnd H
           refine z0f (z1i (y1n r89.2 r95 h96) rfl trivial rfl) rfl ?_
           refine z0a (z0p y13 rfl) ?_
           refine z0f (z2n tyS9 rfl rfl rfl rfl) rfl ?_
           exact ⟨(r95.2.L,r95.2.at_,(wr (v5+r21.1)),c44,r95.1,c76,c85),H,⟨rfl,rfl,rfl,rfl,rfl,rfl,rfl,rfl,trivial⟩,⟨rfl,rfl,rfl,rfl,trivial⟩⟩
          ·replace H:=iff_ h94 H
           refine z0c ?_
           refine z0b hN rfl ?_
           refine z0a (z12 rfl rfl) ?_
           refine qe rfl ?_
           refine z0i _ rfl (fun h97 => ?_) (fun h97 => ?_)
           ·replace H:=ift h97 H
            refine z0b hN rfl ?_
            refine z0a (z0k (.ptr _ _) rfl) ?_
            obtain ⟨r98,h99,H⟩:=bnd H
            refine z0f (z1i (z4d r89.2 1 6 r98 h99) rfl ⟨.inl rfl,.inl rfl,trivial⟩ rfl) rfl ?_
            refine z0a (z0p z84 rfl) ?_
            refine z0f (z2n tyS3 rfl rfl rfl rfl) rfl ?_
            exact ⟨(r98.2.L,r98.2.at_,(wr (v5+r21.1)),c44,r25.1,r98.1,c85),H,⟨rfl,rfl,rfl,rfl,rfl,rfl,rfl,rfl,trivial⟩,⟨rfl,rfl,rfl,rfl,trivial⟩⟩
           ·replace H:=iff_ h97 H
            refine z0c ?_
            refine z0b hN rfl ?_
            refine z0a (z12 rfl rfl) ?_
            refine qe rfl ?_
            refine z0i _ rfl (fun h100 => ?_) (fun h100 => ?_)
            ·replace H:=ift h100 H
             refine z0b hN rfl ?_
             refine z0a (z0k (.ptr _ _) rfl) ?_
             refine z0a (z06 (u':=vlst (List.map z00 [[98,105,103],[110,111,110,101],[]])) (z1w [[_],[_],[_]] y06 ⟨rfl,.inl ⟨_,rfl,rfl,rfl⟩,rfl,rfl,.inl ⟨_,rfl,rfl,rfl⟩,rfl,rfl,.inl ⟨_,rfl,rfl,rfl⟩,rfl,trivial⟩ rfl rfl) rfl) ?_
             obtain ⟨r101,h102,H⟩:=bnd H
             refine z0f (z1i (z1n r89.2 ([[98,105,103],[110,111,110,101],[]]) r101 h102) rfl ⟨.inl rfl,trivial⟩ rfl) rfl ?_
             refine z0a (z0p y27 rfl) ?_
             refine z0f (z2n tyS9 rfl rfl rfl rfl) rfl ?_
             exact ⟨(r101.2.L,r101.2.at_,(wr (v5+r21.1)),c44,r25.1,c76,r101.1),H,⟨rfl,rfl,rfl,rfl,rfl,rfl,rfl,rfl,trivial⟩,⟨rfl,rfl,rfl,rfl,trivial⟩⟩
            ·replace H:=iff_ h100 H
             refine z0b hN rfl ?_
             refine z0a (z0k (.ptr _ _) rfl) ?_
             obtain ⟨r103,h104,H⟩:=bnd H
             refine z0f (z1i (z4d r89.2 0 1000 r103 h104) rfl ⟨.inl rfl,.inl rfl,trivial⟩ rfl) rfl ?_
             refine z0a (z0p y0e rfl) ?_
             refine z0f (z2n tyS3 rfl rfl rfl rfl) rfl ?_
             exact ⟨(r103.2.L,r103.2.at_,r103.1,c44,r25.1,c76,c85),H,⟨rfl,rfl,rfl,rfl,rfl,rfl,rfl,rfl,trivial⟩,⟨rfl,rfl,rfl,rfl,trivial⟩⟩
        ·replace H:=iff_ h88 H
         refine z0s ?_
         exact ⟨(r86.2.L,r86.2.at_,(wr (v5+r21.1)),c44,r25.1,c76,c85),H,⟨rfl,rfl,rfl,rfl,rfl,rfl,rfl,rfl,trivial⟩,⟨rfl,rfl,rfl,rfl,trivial⟩⟩
       ·rintro ⟨c105,c106,c107,c108,c109,c110,c111⟩ H
        replace H:z2b v5 l8 r21 c105 c106 c107 c108 c109 c110 c111=some q10:=H
        unfold z2b at H
        refine z0b hN rfl ?_
        refine z0a (z0k (.row _ _) rfl) ?_
        refine z0j (z04 y1o rfl rfl rfl) rfl ?_
        refine z0a (z06 (u':=vlst (List.map z0w [(z0e.mk c107 c108 c109 c110 c111)])) (z1w [_] w62 ⟨rfl,.inr rfl,rfl,trivial⟩ rfl rfl) rfl) ?_
        obtain ⟨h112,H⟩:=gif H
        refine z0f (y50 w62 (fun _=>rfl) rfl rfl rfl ⟨by simp,by first | (simp; done) | simpa using h112⟩ rfl) rfl ?_
        refine z0a (z1j (.row _ _) rfl) ?_
        exact ⟨(wr (v5+r21.1),(l8++[(z0e.mk c107 c108 c109 c110 c111)]),c105,c106),H,⟨rfl,rfl,rfl,rfl,rfl,rfl,rfl,trivial⟩,⟨rfl,rfl,rfl,trivial⟩⟩
    ·rintro k46 x49 l45 q47 h113 h114 H hq47
     replace H:z7p r25 k46 x49 l45=some q47:=H
     unfold z7p at H
     refine z0c ?_
     refine z0b hN rfl ?_
     refine z0a (z05 rfl rfl) ?_
     refine z0c ?_
     refine z0i _ rfl (fun h => ?_) (fun h=>(lt_f h113 h).elim)
     refine z0s ?_
     refine z1a (ι:=(List Bs)) (fun i=>[(0,.ptr 0 0),(2,.dat (vlst (List.map z1l v3))),(5,.ptr 1 0),(9,.row 2 l8.length),(10,.dat (vint (wr (v5+r21.1)))),(11,.ptr 4 0),(12,.row 5 i.length),(17,.dat (vint v4)),(18,.dat (vint (k9:Int))),(55,.dat (vlst (List.map z0z v2.Plans))),(56,.dat (vint (v2.Plans.length:Int))),(57,.dat (vint (k46:Int)))]) (fun i=>[(0,.box (some bl) 25 [.dat (vlst (List.map z3o c42)),.dat (vint c43)]),(1,.box none 29 [.dat (vlst (List.map z0u v2.Products)),.dat (vlst (List.map z0z v2.Plans))]),(2,.row 99 5 (List.map z0w l8)),(4,.box none 99 [.dat (vint (wr (v5+r21.1))),.dat (vstr c44),.dat (vstr r25.1),.dat (vint r27.1),.dat (vstr [])]),(5,.row 9 1 (List.map z00 i))]) (fun i=>z4g i=some q47) (fun i=>rfl) ?_ ?_
     ·skip
      refine z0y ?_
      refine z0c ?_
      refine z0b hN rfl ?_
      refine z0a (y1g y8u (fun _=>rfl) rfl rfl h114) ?_
      refine z0a (z2s y1j rfl (z29 h114) rfl) ?_
      refine z0f (z1h 6 y48 rfl) rfl ?_
      refine z0f (z02 y1j rfl rfl rfl rfl) rfl ?_
      refine z0c ?_
      refine z0b hN rfl ?_
      refine z0a (z0p y6o rfl) ?_
      refine z0j (z0n tyS9 rfl rfl) rfl ?_
      refine z0a (z0p y13 rfl) ?_
      refine z0j (z0n tyS9 rfl rfl) rfl ?_
      refine z0a (y33 rfl rfl) ?_
      refine z0i _ rfl (fun h115 => ?_) (fun h115 => ?_)
      ·replace H:=ift h115 H
       refine z0b hN rfl ?_
       refine z0a (z0k (.row _ _) rfl) ?_
       refine z0a (z0p y1k rfl) ?_
       refine z0j (z0n tyS9 rfl rfl) rfl ?_
       refine z0a (z06 (u':=vlst (List.map z00 [x49.Key])) (z1w [[_]] y06 ⟨rfl,.inl ⟨_,rfl,rfl,rfl⟩,rfl,trivial⟩ rfl rfl) rfl) ?_
       obtain ⟨h116,H⟩:=gif H
       refine z0f (y50 y06 (fun _=>rfl) rfl rfl rfl ⟨by simp,by first | (simp; done) | simpa using h116⟩ rfl) rfl ?_
       refine z0a (z1j (.row _ _) rfl) ?_
       exact ⟨(l45++[x49.Key]),H,⟨rfl,rfl,rfl,rfl,rfl,rfl,rfl,rfl,rfl,rfl,rfl,rfl,trivial⟩,⟨rfl,rfl,rfl,rfl,rfl,trivial⟩⟩
      ·replace H:=iff_ h115 H
       refine z0s ?_
       exact ⟨l45,H,⟨rfl,rfl,rfl,rfl,rfl,rfl,rfl,rfl,rfl,rfl,rfl,rfl,trivial⟩,⟨rfl,rfl,rfl,rfl,rfl,trivial⟩⟩
     ·rintro v117 H
      replace H:z4g v117=some q47:=H
      unfold z4g at H
      refine z0b hN rfl ?_
      refine z0a (z3v rfl rfl (by omega)) ?_
      refine qd rfl ?_
      exact ⟨_,z63 H,⟨rfl,rfl,rfl,rfl,rfl,rfl,rfl,rfl,rfl,rfl,rfl,rfl,trivial⟩,⟨rfl,rfl,rfl,rfl,rfl,trivial⟩⟩
  ·rintro ⟨v118,v119,c120,c121⟩ H
   replace H:z3d v118 v119 c120 c121=some q10:=H
   unfold z3d at H
   refine z0b hN rfl ?_
   refine z0a (z3v rfl rfl (by omega)) ?_
   refine qd rfl ?_
   exact ⟨_,z63 H,⟨rfl,rfl,rfl,rfl,rfl,rfl,rfl,trivial⟩,⟨rfl,rfl,rfl,trivial⟩⟩
theorem y62 (l1:(List z0t)) (r:(Int)) (H:z8t l1=some r):Fn Tryz.prog 94 [vlst (List.map z1l l1)] (z1x [vint r]):=by
 refine ⟨by kernel_rfl,z1k (us:=[vint r]) Tryz.func94 rfl rfl rfl rfl fun X hN => ?_⟩
 unfold z8t at H
 refine z0c ?_
 refine z0b hN rfl ?_
 refine qe rfl ?_
 refine z0c ?_
 refine z0c ?_
 refine z0b hN rfl ?_
 refine qd rfl ?_
 refine z0a (z43 x3l rfl) ?_
 refine z0a (z5n rfl rfl) ?_
 refine z0i _ rfl (fun h2 => ?_) (fun h2 => ?_)
 ·replace H:=ift h2 H
  refine z0c ?_
  refine z0b hN rfl ?_
  refine qe rfl ?_
  refine z0r ?_
  cases H
  exact ⟨trivial,.inl rfl,trivial⟩
 ·replace H:=iff_ h2 H
  refine z0s ?_
  refine z0c ?_
  refine z0b hN rfl ?_
  refine qe rfl ?_
  refine z0c ?_
  refine z0c ?_
  refine z0b hN rfl ?_
  refine qd rfl ?_
  refine z0a (z43 x3l rfl) ?_
  refine qd rfl ?_
  refine z0y ?_
  obtain ⟨h6,H⟩:=gif H
  refine z3u (fun (k4:Nat) (s:Bs)=>[(3,.dat (vstr s)),(9,.dat (vlst (List.map z1l l1))),(10,.dat (vint (l1.length:Int))),(11,.dat (vint (k4:Int)))]) (fun (k4:Nat) (s:Bs)=>[]) [] H ⟨rfl,rfl,rfl,rfl,trivial⟩ trivial (fun _ _=>rfl) ?_ ?_
  ·rintro last3 H
   replace H:z95 last3=some r:=H
   unfold z95 at H
   refine z0c ?_
   refine z0b hN rfl ?_
   refine z0a (z05 rfl rfl) ?_
   refine z0c ?_
   refine z0i _ rfl (fun h=>(lt_t h).elim) (fun h => ?_)
   refine z1v ?_
   refine z0c ?_
   refine z0b hN rfl ?_
   refine qe rfl ?_
   refine z0r ?_
   cases H
   exact ⟨trivial,.inl rfl,trivial⟩
  ·rintro k4 x7 last3 q5 h8 h9 H hq5
   replace H:z94 k4 x7 last3=some q5:=H
   unfold z94 at H
   refine z0c ?_
   refine z0b hN rfl ?_
   refine z0a (z05 rfl rfl) ?_
   refine z0c ?_
   refine z0i _ rfl (fun h => ?_) (fun h=>(lt_f h8 h).elim)
   refine z0s ?_
   refine z0c ?_
   refine z0y ?_
   refine z0c ?_
   refine z0b hN rfl ?_
   refine z0a (y1g x3p (fun _=>rfl) rfl rfl h9) ?_
   refine z0a (z2s x4y rfl (z29 h9) rfl) ?_
   refine z0f (z1h 1 x7p rfl) rfl ?_
   refine z0f (z02 x4y rfl rfl rfl rfl) rfl ?_
   refine z0c ?_
   refine z0y ?_
   refine z1a (ι:=Bool) (fun i=>[(3,.dat (vstr last3)),(5,.ptr 1 0),(9,.dat (vlst (List.map z1l l1))),(10,.dat (vint (l1.length:Int))),(11,.dat (vint (k4:Int))),(15,.dat (z1e i))]) (fun i=>[(1,.box none 86 [.dat (vstr x7.Key),.dat (vstr x7.Owner)])]) (fun i=>z6g last3 x7 i=some q5) (fun i=>rfl) ?_ ?_
   ·skip
    refine z0b hN rfl ?_
    refine z0a (z0p y5j rfl) ?_
    refine z0j (z0n tyS9 rfl rfl) rfl ?_
    obtain ⟨r10,h11,H⟩:=bnd H
    refine z0a (z0x (y2g x7.Key r10 h11) ⟨.inl rfl,trivial⟩) ?_
    refine z0a (z3r rfl) ?_
    refine qd rfl ?_
    refine z19 (j:=4) rfl rfl (fun h12 => ?_) (fun h12 => ?_) rfl
    ·have h13:=un3 h12
     replace H:=iff_ h13 H
     refine z03 rfl rfl h12 (z0p x84 rfl) ?_
     refine z7k rfl rfl h12 (z0n tyS9 rfl rfl) rfl ?_
     obtain ⟨r14,h15,H⟩:=bnd H
     refine z03 rfl rfl h12 (z0x (y2g x7.Owner r14 h15) ⟨.inl rfl,trivial⟩) ?_
     refine z03 rfl rfl h12 (z3r rfl) ?_
     refine z0a (z1b rfl (bFF h13) rfl) ?_
     refine qe rfl ?_
     exact ⟨!r14,H,⟨rfl,rfl,rfl,rfl,rfl,rfl,trivial⟩,⟨rfl,trivial⟩⟩
    ·have h16:=un4 h12
     replace H:=ift h16 H
     refine z0l rfl rfl h12 ?_
     refine z0l rfl rfl h12 ?_
     refine z0l rfl rfl h12 ?_
     refine z0l rfl rfl h12 ?_
     refine z0a (z1p rfl (bTT h16) rfl) ?_
     refine qe rfl ?_
     exact ⟨true,H,⟨rfl,rfl,rfl,rfl,rfl,rfl,trivial⟩,⟨rfl,trivial⟩⟩
   ·rintro v17 H
    replace H:z6g last3 x7 v17=some q5:=H
    unfold z6g at H
    refine z0i _ rfl (fun h18 => ?_) (fun h18 => ?_)
    ·replace H:=ift h18 H
     refine z0c ?_
     refine z0b hN rfl ?_
     refine qe rfl ?_
     refine z0r ?_
     replace H:=retl H hq5
     cases H
     exact ⟨trivial,.inl rfl,trivial⟩
    ·replace H:=iff_ h18 H
     refine z0c ?_
     refine z0b hN rfl ?_
     refine z0a (z0p y5j rfl) ?_
     refine z0j (z0n tyS9 rfl rfl) rfl ?_
     refine qd rfl ?_
     refine z0a (y6p rfl rfl) ?_
     refine qe rfl ?_
     refine z0i _ rfl (fun h19 => ?_) (fun h19 => ?_)
     ·replace H:=ift h19 H
      refine z0c ?_
      refine z0b hN rfl ?_
      refine qe rfl ?_
      refine z0r ?_
      replace H:=retl H hq5
      cases H
      exact ⟨trivial,.inl rfl,trivial⟩
     ·replace H:=iff_ h19 H
      refine z0s ?_
      refine z0b hN rfl ?_
      refine z0a (z0p y5j rfl) ?_
      refine z0j (z0n tyS9 rfl rfl) rfl ?_
      refine qe rfl ?_
      refine z0b hN rfl ?_
      refine z0a (z3v rfl rfl (by omega)) ?_
      refine qd rfl ?_
      exact ⟨_,z63 H,⟨rfl,rfl,rfl,rfl,trivial⟩,trivial⟩
theorem x0b (c1:z0g) (apps2:(List z0t)) (r:(Int)) (H:y2v c1 apps2=some r):Fn Tryz.prog 58 [vagg (z1d c1),vlst (List.map z1l apps2)] (z1x [vint r]):=by
 refine ⟨by kernel_rfl,z1k (us:=[vint r]) Tryz.func58 rfl rfl rfl rfl fun X hN => ?_⟩
 unfold y2v at H
 refine z0c ?_
 refine z0b hN rfl ?_
 refine z0f (z2h 1 rfl) rfl ?_
 refine qe rfl ?_
 refine z0c ?_
 refine z0c ?_
 refine z0b hN rfl ?_
 refine z0j (z04 z5d rfl rfl rfl) rfl ?_
 obtain ⟨r3,h4,H⟩:=bnd H
 refine z0a (z0x (y2y c1 r3 h4) ⟨.inl rfl,trivial⟩) ?_
 refine qe rfl ?_
 refine z0c ?_
 refine z0b hN rfl ?_
 refine qd rfl ?_
 refine z0a (z6i rfl rfl) ?_
 refine z0i _ rfl (fun h5 => ?_) (fun h5 => ?_)
 ·replace H:=ift h5 H
  refine z0c ?_
  refine z0b hN rfl ?_
  refine qd rfl ?_
  refine qe rfl ?_
  refine z0r ?_
  cases H
  exact ⟨trivial,.inl rfl,trivial⟩
 ·replace H:=iff_ h5 H
  refine z0s ?_
  refine z0c ?_
  refine z0b hN rfl ?_
  refine qd rfl ?_
  obtain ⟨r6,h7,H⟩:=bnd H
  refine z0a (z0x (y62 apps2 r6 h7) ⟨.inl rfl,trivial⟩) ?_
  refine qe rfl ?_
  refine z0r ?_
  cases H
  exact ⟨trivial,.inl rfl,trivial⟩
theorem y5d (v1:Int) (r:(Bool)) (H:y0n v1=some r):Fn Tryz.prog 42 [vint v1] (z1x [z1e r]):=by
 refine ⟨by kernel_rfl,z1k (us:=[z1e r]) Tryz.func42 rfl rfl rfl rfl fun X hN => ?_⟩
 unfold y0n at H
 refine z0c ?_
 refine z0b hN rfl ?_
 refine qe rfl ?_
 refine z0c ?_
 refine z0b hN rfl ?_
 refine qd rfl ?_
 obtain ⟨r2,h3,H⟩:=bnd H
 refine z0a (z0x (z7o v1 0 345686399999 r2 h3) ⟨.inl rfl,.inl rfl,.inl rfl,trivial⟩) ?_
 refine qe rfl ?_
 refine z0r ?_
 cases H
 exact ⟨trivial,.inl rfl,trivial⟩
theorem y17 (s1:(List z0t)) (p1:z0t→Option (Bool)) (fv1:Nat) (us1:List V) (hp1:∀ a0 r,p1 a0=some r→Fn Tryz.prog fv1 ([vagg (z1l a0)]++us1) (z1x [z1e r])) (r:(Int)) (H:z33 s1 p1=some r):Fn Tryz.prog 38 [vlst (List.map z1l s1),vfn fv1 us1] (z1x [vint r]):=by
 refine ⟨by kernel_rfl,z1k (us:=[vint r]) Tryz.func38 rfl rfl rfl rfl fun X hN => ?_⟩
 unfold z33 at H
 refine z0c ?_
 refine z0b hN rfl ?_
 refine qe rfl ?_
 refine z0c ?_
 refine z0c ?_
 refine z0b hN rfl ?_
 refine qd rfl ?_
 refine z0a (z43 x3l rfl) ?_
 refine qd rfl ?_
 refine z0y ?_
 obtain ⟨h4,H⟩:=gif H
 refine z3u (fun (k2:Nat) (s:Unit)=>[(0,.dat (vlst (List.map z1l s1))),(1,.dat (vfn fv1 us1)),(7,.dat (vint (s1.length:Int))),(8,.dat (vint (k2:Int)))]) (fun (k2:Nat) (s:Unit)=>[]) () H ⟨rfl,rfl,rfl,rfl,trivial⟩ trivial (fun _ _=>rfl) ?_ ?_
 ·rintro ⟨⟩ H
  replace H:z5f=some r:=H
  unfold z5f at H
  refine z0c ?_
  refine z0b hN rfl ?_
  refine z0a (z05 rfl rfl) ?_
  refine z0c ?_
  refine z0i _ rfl (fun h=>(lt_t h).elim) (fun h => ?_)
  refine z1v ?_
  refine z0c ?_
  refine z0b hN rfl ?_
  refine qe rfl ?_
  refine z0r ?_
  cases H
  exact ⟨trivial,.inl rfl,trivial⟩
 ·rintro k2 x5 ⟨⟩ q3 h6 h7 H hq3
  replace H:z5e p1 k2 x5=some q3:=H
  unfold z5e at H
  refine z0c ?_
  refine z0b hN rfl ?_
  refine z0a (z05 rfl rfl) ?_
  refine z0c ?_
  refine z0i _ rfl (fun h => ?_) (fun h=>(lt_f h6 h).elim)
  refine z0s ?_
  refine z0c ?_
  refine z0y ?_
  refine z0c ?_
  refine z0b hN rfl ?_
  refine qd rfl ?_
  refine qe rfl ?_
  refine z0c ?_
  refine z0b hN rfl ?_
  refine qd rfl ?_
  refine qd rfl ?_
  refine qd rfl ?_
  refine z0a (y1g x3p (fun _=>rfl) rfl rfl h7) ?_
  refine z0a (z2s x4y rfl (z29 h7) rfl) ?_
  obtain ⟨r8,h9,H⟩:=bnd H
  refine z0a (z9v (hp1 x5 r8 h9) rfl ⟨.inl rfl,trivial⟩) ?_
  refine z0i _ rfl (fun h10 => ?_) (fun h10 => ?_)
  ·replace H:=ift h10 H
   refine z0c ?_
   refine z0b hN rfl ?_
   refine qd rfl ?_
   refine qe rfl ?_
   refine z0r ?_
   replace H:=retl H hq3
   cases H
   exact ⟨trivial,.inl rfl,trivial⟩
  ·replace H:=iff_ h10 H
   refine z0s ?_
   refine z0b hN rfl ?_
   refine z0a (z3v rfl rfl (by omega)) ?_
   refine qd rfl ?_
   exact ⟨_,z63 H,⟨rfl,rfl,rfl,rfl,trivial⟩,trivial⟩
theorem y7v (a1:z0t) (c2:Bs) (r:(Bool)) (H:z8c a1 c2=some r):Fn Tryz.prog 39 [vagg (z1l a1),z9m [[vstr c2]] 0 0] (z1x [z1e r]):=by
 refine ⟨by kernel_rfl,z1k (us:=[z1e r]) Tryz.func39 rfl rfl rfl rfl fun X hN => ?_⟩
 unfold z8c at H
 refine z0c ?_
 refine z0b hN rfl ?_
 refine z0f (z2h 1 rfl) rfl ?_
 refine qe rfl ?_
 refine z0c ?_
 refine z0b hN rfl ?_
 refine z0a (z0p y5j rfl) ?_
 refine z0j (z0n tyS9 rfl rfl) rfl ?_
 refine z0a (z1q tyS9 rfl rfl rfl) ?_
 refine z0a (y33 rfl rfl) ?_
 refine qe rfl ?_
 refine z0r ?_
 cases H
 exact ⟨trivial,.inl rfl,trivial⟩
theorem y3x (l1:(List z0t)) (key2:Bs) (r:(Int)) (H:z8m l1 key2=some r):Fn Tryz.prog 14 [vlst (List.map z1l l1),vstr key2] (z1x [vint r]):=by
 refine ⟨by kernel_rfl,z1k (us:=[vint r]) Tryz.func14 rfl rfl rfl rfl fun X hN => ?_⟩
 unfold z8m at H
 refine z0c ?_
 refine z0b hN rfl ?_
 refine z0f (y5p 1 rfl rfl) rfl ?_
 refine qe rfl ?_
 refine z0c ?_
 refine y4y 1 [vstr key2] rfl rfl ?_
 refine z0b hN rfl ?_
 refine qd rfl ?_
 refine z0a (y5n (us:=[_]) ⟨rfl,trivial⟩) ?_
 obtain ⟨r3,h4,H⟩:=bnd H
 refine z0a (z0x (y17 l1 (fun (a0:z0t)=>z8c a0 key2) 39 [z9m [[vstr key2]] 0 0] (fun a0 r h=>y7v a0 key2 r h) r3 h4) ⟨.inl rfl,.inl rfl,trivial⟩) ?_
 refine qe rfl ?_
 refine z0r ?_
 cases H
 exact ⟨trivial,.inl rfl,trivial⟩
end Go.Proofs.YticadaaoggpenaaGreatDoor
