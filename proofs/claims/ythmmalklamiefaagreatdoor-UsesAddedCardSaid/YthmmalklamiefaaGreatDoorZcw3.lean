/- Walks along the models. Printed by a program. -/
import Derived.Test.YthmmalklamiefaaGreatDoorZcw2
namespace Go.Proofs.YthmmalklamiefaaGreatDoor
open Go.RowKit
set_option linter.unusedVariables false
set_option maxRecDepth 20000
set_option maxHeartbeats 2000000
theorem y7q (v1:z0i) (v2:z0o) (v3:z0f) (r:(z0o×Bool)) (H:z8i v1 v2 v3=some r):Fn Tryz.prog 97 [vagg (z1h v1),vagg (z1g v2),vagg (z00 v3)] (z1x [vagg (z1g r.1),z1p r.2]):=by
 refine ⟨by kernel_rfl,z1s (us:=[vagg (z1g r.1),z1p r.2]) Tryz.func97 rfl rfl rfl rfl fun X hN => ?_⟩
 unfold z8i at H
 refine z0c ?_
 refine z0b hN rfl ?_
 refine z0g (z16 1 rfl) rfl ?_
 refine z0g (z16 2 rfl) rfl ?_
 refine z0g (z16 3 rfl) rfl ?_
 refine z0g (z1m 4 y6x rfl) rfl ?_
 refine qe rfl ?_
 refine z0c ?_
 refine z07 (ι:=Bool) (fun i=>[(3,.ptr 1 0),(4,.ptr 2 0),(5,.ptr 3 0),(6,.ptr 4 0),(18,.dat (z1p i))]) (fun i=>[(1,.box none 29 [.dat (vlst (List.map z0y v1.Products)),.dat (vlst (List.map z01 v1.Plans))]),(2,.box none 51 [.dat (vint v2.State),.dat (vstr v2.Plan),.dat (vint v2.Since),.dat (vint v2.First)]),(3,.box none 123 [.dat (vint v3.At),.dat (vstr v3.App),.dat (vstr v3.Product),.dat (vint v3.Kind),.dat (vstr v3.Plan)]),(4,.box none 51 [.dat (vint 0),.dat (vstr []),.dat (vint 0),.dat (vint 0)])]) (fun i=>z82 v1 v2 v3 i=some r) (fun i=>rfl) ?_ ?_
 ·skip
  refine z0b hN rfl ?_
  refine z0a (z0m z8k rfl) ?_
  refine z0h (z0l tyS3 rfl rfl) rfl ?_
  refine z0a (z2g rfl rfl) ?_
  refine qd rfl ?_
  refine z15 (j:=3) rfl rfl (fun h4 => ?_) (fun h4 => ?_) rfl
  ·have h5:=un1 h4
   replace H:=ift h5 H
   refine z5r rfl rfl h4 (z06 z5x rfl rfl rfl) rfl ?_
   refine z04 rfl rfl h4 (z0m y3f rfl) ?_
   refine z5r rfl rfl h4 (z0l tyS9 rfl rfl) rfl ?_
   obtain ⟨r6,h7,H⟩:=bnd H
   refine z04 rfl rfl h4 (z0z (y14 v1 v3.Plan r6 h7) ⟨.inl rfl,.inl rfl,trivial⟩) ?_
   refine z04 rfl rfl h4 (z03 rfl rfl) ?_
   refine z0a (z1t rfl (bTT h5) rfl) ?_
   exact ⟨decide (r6 < 0),H,⟨rfl,rfl,rfl,rfl,rfl,trivial⟩,⟨rfl,rfl,rfl,rfl,trivial⟩⟩
  ·have h8:=un2 h4
   replace H:=iff_ h8 H
   refine z0n rfl rfl h4 ?_
   refine z0n rfl rfl h4 ?_
   refine z0n rfl rfl h4 ?_
   refine z0n rfl rfl h4 ?_
   refine z0n rfl rfl h4 ?_
   refine z0a (z1l rfl (bFF h8) rfl) ?_
   exact ⟨false,H,⟨rfl,rfl,rfl,rfl,rfl,trivial⟩,⟨rfl,rfl,rfl,rfl,trivial⟩⟩
 ·rintro v9 H
  replace H:z82 v1 v2 v3 v9=some r:=H
  unfold z82 at H
  refine z0k _ rfl (fun h10 => ?_) (fun h10 => ?_)
  ·replace H:=ift h10 H
   refine z0c ?_
   refine z0b hN rfl ?_
   refine z0h (z06 z6k rfl rfl rfl) rfl ?_
   refine z0g (z08 z6k rfl rfl rfl rfl) rfl ?_
   refine qe rfl ?_
   refine z0t ?_
   cases H
   exact ⟨trivial,.inl ⟨_,_,_,z1g v2,rfl,rfl,rfl,rfl,z6k⟩,.inl rfl,trivial⟩
  ·replace H:=iff_ h10 H
   refine z0q ?_
   refine z0c ?_
   refine z0b hN rfl ?_
   refine z0h (z06 z6k rfl rfl rfl) rfl ?_
   refine z0g (z1m 5 y6x rfl) rfl ?_
   refine z0g (z08 z6k rfl rfl rfl rfl) rfl ?_
   refine z0c ?_
   refine z0b hN rfl ?_
   refine z0a (z0m y0b rfl) ?_
   refine z0h (z0l tyS3 rfl rfl) rfl ?_
   refine z0a (z0m x3w rfl) ?_
   refine z0g (z3b tyS3 rfl rfl rfl rfl) rfl ?_
   refine z07 (ι:=Int×Bs×Int) (fun i=>[(6,.ptr 4 0),(8,.ptr 5 0)]) (fun i=>[(4,.box none 51 [.dat (vint 0),.dat (vstr []),.dat (vint 0),.dat (vint 0)]),(5,.box none 51 [.dat (vint i.1),.dat (vstr i.2.1),.dat (vint v3.At),.dat (vint i.2.2)])]) (fun i=>z3w v3 i.1 i.2.1 i.2.2=some r) (fun i=>rfl) ?_ ?_
   ·skip
    refine z0w ?_
    refine z0c ?_
    refine z0b hN rfl ?_
    refine z0a (z0m z8k rfl) ?_
    refine z0h (z0l tyS3 rfl rfl) rfl ?_
    refine z0a (z2g rfl rfl) ?_
    refine qd rfl ?_
    refine z4b rfl rfl (fun hc=>z0m y0n rfl) ?_
    refine y6d rfl rfl (fun hc=>z0l tyS3 (cnd (c:=(decide (v3.Kind=1))) hc) rfl) rfl y5x ?_
    refine z4b rfl rfl (fun hc=>z2g (cnd (c:=(decide (v3.Kind=1))) hc) rfl) ?_
    refine z4b rfl rfl (fun hc=>z0j (.dat _) (cnd (c:=(decide (v3.Kind=1))) hc)) ?_
    refine y7b rfl rfl (fun hc=>z0m y0n rfl) ?_
    refine w1d rfl rfl (fun hc=>z0l tyS3 (cnd (c:=((decide (v3.Kind=1)) && !(decide (v2.State=0)))) hc) rfl) rfl y5x ?_
    refine y7b rfl rfl (fun hc=>z2g (cnd (c:=((decide (v3.Kind=1)) && !(decide (v2.State=0)))) hc) rfl) ?_
    refine z4b rfl rfl (fun hc=>z8q (cnd (c:=(decide (v3.Kind=1))) hc) rfl (fun hb=>(cnd (c:=((decide (v3.Kind=1)) && !(decide (v2.State=0)))) (andI hc (notI hb))))) ?_
    refine z0a (z25 rfl (fun hb=>(cnd (c:=(decide (v3.Kind=1))) hb)) rfl) ?_
    refine qe rfl ?_
    refine z0k _ rfl (fun h11 => ?_) (fun h11 => ?_)
    ·replace H:=ift h11 H
     refine z0c ?_
     refine z2n mixed hN rfl rfl ?_
     refine z0a (z0m y3f rfl) ?_
     refine z0h (z0l tyS9 rfl rfl) rfl ?_
     refine z0a (z0m y0n rfl) ?_
     refine z0g (z3b tyS3 rfl rfl rfl rfl) rfl ?_
     refine z0a (z0m y83 rfl) ?_
     refine z0g (z3b tyS9 rfl rfl rfl rfl) rfl ?_
     refine z0a (z0m x1q rfl) ?_
     refine z0g (z3b tyS3 rfl rfl rfl rfl) rfl ?_
     refine ⟨rfl,?_⟩
     refine z0c ?_
     refine z2n mixed hN rfl rfl ?_
     refine z0a (z0m y0o rfl) ?_
     refine z0h (z0l y57 rfl rfl) rfl ?_
     refine z0h (z06 z5x rfl rfl rfl) rfl ?_
     refine z0a (z0m y3f rfl) ?_
     refine z0h (z0l tyS9 rfl rfl) rfl ?_
     obtain ⟨r12,h13,H⟩:=bnd H
     refine z0a (z0z (y14 v1 v3.Plan r12 h13) ⟨.inl rfl,.inl rfl,trivial⟩) ?_
     obtain ⟨x14,h15,H⟩:=bnd H
     refine z0a (y1q x0b (fun _=>rfl) rfl rfl h15) ?_
     refine z0a (y20 x3u rfl) ?_
     refine z0a (z24 tyS4 rfl (z3e (z1n h15).2) rfl) ?_
     refine z0a (z3s rfl) ?_
     refine ⟨rfl,?_⟩
     refine z0k _ rfl (fun h16 => ?_) (fun h16 => ?_)
     ·replace H:=ift h16 H
      refine z2n mixed hN rfl rfl ?_
      refine z0a (z0m y0b rfl) ?_
      refine z0h (z0l tyS3 rfl rfl) rfl ?_
      refine z0a (z0m y0n rfl) ?_
      refine z0g (z3b tyS3 rfl rfl rfl rfl) rfl ?_
      refine z0a (z0m x1q rfl) ?_
      refine z0g (z3b tyS3 rfl rfl rfl rfl) rfl ?_
      refine ⟨rfl,?_⟩
      exact ⟨(2,v3.Plan,v3.At),H,⟨rfl,rfl,trivial⟩,⟨rfl,rfl,trivial⟩⟩
     ·replace H:=iff_ h16 H
      refine z0q ?_
      exact ⟨(1,v3.Plan,(-1)),H,⟨rfl,rfl,trivial⟩,⟨rfl,rfl,trivial⟩⟩
    ·replace H:=iff_ h11 H
     refine z0c ?_
     refine z0b hN rfl ?_
     refine z0a (z0m z8k rfl) ?_
     refine z0h (z0l tyS3 rfl rfl) rfl ?_
     refine z0a (z2g rfl rfl) ?_
     refine qd rfl ?_
     refine z4b rfl rfl (fun hc=>z0m y0n rfl) ?_
     refine y6d rfl rfl (fun hc=>z0l tyS3 (cnd (c:=(decide (v3.Kind=1))) hc) rfl) rfl y5x ?_
     refine z4b rfl rfl (fun hc=>z2g (cnd (c:=(decide (v3.Kind=1))) hc) rfl) ?_
     refine z4b rfl rfl (fun hc=>z0j (.dat _) (cnd (c:=(decide (v3.Kind=1))) hc)) ?_
     refine y7b rfl rfl (fun hc=>z0m y0n rfl) ?_
     refine w1d rfl rfl (fun hc=>z0l tyS3 (cnd (c:=((decide (v3.Kind=1)) && !(decide (v2.State=2)))) hc) rfl) rfl y5x ?_
     refine y7b rfl rfl (fun hc=>z2g (cnd (c:=((decide (v3.Kind=1)) && !(decide (v2.State=2)))) hc) rfl) ?_
     refine z4b rfl rfl (fun hc=>z8q (cnd (c:=(decide (v3.Kind=1))) hc) rfl (fun hb=>(cnd (c:=((decide (v3.Kind=1)) && !(decide (v2.State=2)))) (andI hc (notI hb))))) ?_
     refine z0a (z25 rfl (fun hb=>(cnd (c:=(decide (v3.Kind=1))) hb)) rfl) ?_
     refine qe rfl ?_
     refine z0k _ rfl (fun h17 => ?_) (fun h17 => ?_)
     ·replace H:=ift h17 H
      refine z0c ?_
      refine z0b hN rfl ?_
      refine z0a (z0m y3f rfl) ?_
      refine z0h (z0l tyS9 rfl rfl) rfl ?_
      refine z0a (z0m y83 rfl) ?_
      refine z0g (z3b tyS9 rfl rfl rfl rfl) rfl ?_
      refine z07 (ι:=Bool) (fun i=>[(4,.ptr 2 0),(6,.ptr 4 0),(8,.ptr 5 0),(90,.dat (z1p i))]) (fun i=>[(2,.box none 51 [.dat (vint v2.State),.dat (vstr v2.Plan),.dat (vint v2.Since),.dat (vint v2.First)]),(4,.box none 51 [.dat (vint 0),.dat (vstr []),.dat (vint 0),.dat (vint 0)]),(5,.box none 51 [.dat (vint v2.State),.dat (vstr v3.Plan),.dat (vint v3.At),.dat (vint v2.First)])]) (fun i=>z81 v2 v3 i=some r) (fun i=>rfl) ?_ ?_
      ·skip
       refine z2n mixed hN rfl rfl ?_
       refine z0a (z0m y3f rfl) ?_
       refine z0h (z0l tyS9 rfl rfl) rfl ?_
       refine z0a (z0m y83 rfl) ?_
       refine z0h (z0l tyS9 rfl rfl) rfl ?_
       refine z0a (y5y rfl rfl) ?_
       refine qd rfl ?_
       refine z15 (j:=5) rfl rfl (fun h18 => ?_) (fun h18 => ?_) rfl
       ·have h19:=un3 h18
        replace H:=iff_ h19 H
        refine z04 rfl rfl h18 (z0m y0o rfl) ?_
        refine z5r rfl rfl h18 (z0l y57 rfl rfl) rfl ?_
        refine z5r rfl rfl h18 (z06 z5x rfl rfl rfl) rfl ?_
        refine z04 rfl rfl h18 (z0m y3f rfl) ?_
        refine z5r rfl rfl h18 (z0l tyS9 rfl rfl) rfl ?_
        obtain ⟨r20,h21,H⟩:=bnd H
        refine z04 rfl rfl h18 (z0z (y14 v1 v3.Plan r20 h21) ⟨.inl rfl,.inl rfl,trivial⟩) ?_
        obtain ⟨x22,h23,H⟩:=bnd H
        refine z04 rfl rfl h18 (y1q x0b (fun _=>rfl) rfl rfl h23) ?_
        refine z04 rfl rfl h18 (y20 x3u rfl) ?_
        refine z04 rfl rfl h18 (z24 tyS4 rfl (z3e (z1n h23).2) rfl) ?_
        refine z0a (z1l rfl (bFF h19) rfl) ?_
        refine ⟨rfl,?_⟩
        exact ⟨x22.Asked,H,⟨rfl,rfl,rfl,rfl,trivial⟩,⟨rfl,rfl,rfl,trivial⟩⟩
       ·have h24:=un4 h18
        replace H:=ift h24 H
        refine z0n rfl rfl h18 ?_
        refine z0n rfl rfl h18 ?_
        refine z0n rfl rfl h18 ?_
        refine z0n rfl rfl h18 ?_
        refine z0n rfl rfl h18 ?_
        refine z0n rfl rfl h18 ?_
        refine z0n rfl rfl h18 ?_
        refine z0n rfl rfl h18 ?_
        refine z0n rfl rfl h18 ?_
        refine z0a (z1t rfl (bTT h24) rfl) ?_
        refine ⟨rfl,?_⟩
        exact ⟨true,H,⟨rfl,rfl,rfl,rfl,trivial⟩,⟨rfl,rfl,rfl,trivial⟩⟩
      ·rintro v25 H
       replace H:z81 v2 v3 v25=some r:=H
       unfold z81 at H
       refine z0k _ rfl (fun h26 => ?_) (fun h26 => ?_)
       ·replace H:=ift h26 H
        refine z0c ?_
        refine z0b hN rfl ?_
        refine z0h (z06 z6k rfl rfl rfl) rfl ?_
        refine z0g (z08 z6k rfl rfl rfl rfl) rfl ?_
        refine qe rfl ?_
        refine z0t ?_
        cases H
        exact ⟨trivial,.inl ⟨_,_,_,z1g v2,rfl,rfl,rfl,rfl,z6k⟩,.inl rfl,trivial⟩
       ·replace H:=iff_ h26 H
        refine z0q ?_
        exact ⟨(v2.State,v3.Plan,v2.First),H,⟨rfl,rfl,trivial⟩,⟨rfl,rfl,trivial⟩⟩
     ·replace H:=iff_ h17 H
      refine z0c ?_
      refine z0b hN rfl ?_
      refine z0a (z0m z8k rfl) ?_
      refine z0h (z0l tyS3 rfl rfl) rfl ?_
      refine z0a (z2g rfl rfl) ?_
      refine qd rfl ?_
      refine z4b rfl rfl (fun hc=>z0m y0n rfl) ?_
      refine y6d rfl rfl (fun hc=>z0l tyS3 (cnd (c:=(decide (v3.Kind=2))) hc) rfl) rfl y5x ?_
      refine z4b rfl rfl (fun hc=>z2g (cnd (c:=(decide (v3.Kind=2))) hc) rfl) ?_
      refine z0a (z25 rfl (fun hb=>(cnd (c:=(decide (v3.Kind=2))) hb)) rfl) ?_
      refine qe rfl ?_
      refine z0k _ rfl (fun h27 => ?_) (fun h27 => ?_)
      ·replace H:=ift h27 H
       refine z2n mixed hN rfl rfl ?_
       refine z0a (z0m y0b rfl) ?_
       refine z0h (z0l tyS3 rfl rfl) rfl ?_
       refine z0a (z0m y0n rfl) ?_
       refine z0g (z3b tyS3 rfl rfl rfl rfl) rfl ?_
       refine z0a (z0m x1q rfl) ?_
       refine z0g (z3b tyS3 rfl rfl rfl rfl) rfl ?_
       refine ⟨rfl,?_⟩
       exact ⟨(2,v2.Plan,v3.At),H,⟨rfl,rfl,trivial⟩,⟨rfl,rfl,trivial⟩⟩
      ·replace H:=iff_ h27 H
       refine z0c ?_
       refine z0b hN rfl ?_
       refine z0a (z0m z8k rfl) ?_
       refine z0h (z0l tyS3 rfl rfl) rfl ?_
       refine z0a (z2g rfl rfl) ?_
       refine qd rfl ?_
       refine z4b rfl rfl (fun hc=>z0m y0n rfl) ?_
       refine y6d rfl rfl (fun hc=>z0l tyS3 (cnd (c:=(decide (v3.Kind=3))) hc) rfl) rfl y5x ?_
       refine z4b rfl rfl (fun hc=>z2g (cnd (c:=(decide (v3.Kind=3))) hc) rfl) ?_
       refine z0a (z25 rfl (fun hb=>(cnd (c:=(decide (v3.Kind=3))) hb)) rfl) ?_
       refine qe rfl ?_
       refine z0k _ rfl (fun h28 => ?_) (fun h28 => ?_)
       ·replace H:=ift h28 H
        refine z0b hN rfl ?_
        refine z0a (z0m y0n rfl) ?_
        refine z0g (z3b tyS3 rfl rfl rfl rfl) rfl ?_
        exact ⟨(4,v2.Plan,v2.First),H,⟨rfl,rfl,trivial⟩,⟨rfl,rfl,trivial⟩⟩
       ·replace H:=iff_ h28 H
        refine z0c ?_
        refine z0b hN rfl ?_
        refine z0a (z0m z8k rfl) ?_
        refine z0h (z0l tyS3 rfl rfl) rfl ?_
        refine z0a (z2g rfl rfl) ?_
        refine qd rfl ?_
        refine z4b rfl rfl (fun hc=>z0m y0n rfl) ?_
        refine y6d rfl rfl (fun hc=>z0l tyS3 (cnd (c:=(decide (v3.Kind=4))) hc) rfl) rfl y5x ?_
        refine z4b rfl rfl (fun hc=>z2g (cnd (c:=(decide (v3.Kind=4))) hc) rfl) ?_
        refine z0a (z25 rfl (fun hb=>(cnd (c:=(decide (v3.Kind=4))) hb)) rfl) ?_
        refine qe rfl ?_
        refine z0k _ rfl (fun h29 => ?_) (fun h29 => ?_)
        ·replace H:=ift h29 H
         refine z0b hN rfl ?_
         refine z0a (z0m y0n rfl) ?_
         refine z0g (z3b tyS3 rfl rfl rfl rfl) rfl ?_
         exact ⟨(3,v2.Plan,v2.First),H,⟨rfl,rfl,trivial⟩,⟨rfl,rfl,trivial⟩⟩
        ·replace H:=iff_ h29 H
         refine z0c ?_
         refine z0b hN rfl ?_
         refine z0a (z0m z8k rfl) ?_
         refine z0h (z0l tyS3 rfl rfl) rfl ?_
         refine z0a (z2g rfl rfl) ?_
         refine qd rfl ?_
         refine z4b rfl rfl (fun hc=>z0m y0n rfl) ?_
         refine y6d rfl rfl (fun hc=>z0l tyS3 (cnd (c:=(decide (v3.Kind=5))) hc) rfl) rfl y5x ?_
         refine z4b rfl rfl (fun hc=>z2g (cnd (c:=(decide (v3.Kind=5))) hc) rfl) ?_
         refine z0a (z25 rfl (fun hb=>(cnd (c:=(decide (v3.Kind=5))) hb)) rfl) ?_
         refine qe rfl ?_
         refine z0k _ rfl (fun h30 => ?_) (fun h30 => ?_)
         ·replace H:=ift h30 H
          refine z0b hN rfl ?_
          refine z0a (z0m y0n rfl) ?_
          refine z0g (z3b tyS3 rfl rfl rfl rfl) rfl ?_
          exact ⟨(2,v2.Plan,v2.First),H,⟨rfl,rfl,trivial⟩,⟨rfl,rfl,trivial⟩⟩
         ·replace H:=iff_ h30 H
          refine z07 (ι:=Bool) (fun i=>[(4,.ptr 2 0),(6,.ptr 4 0),(8,.ptr 5 0),(135,.dat (z1p i))]) (fun i=>[(2,.box none 51 [.dat (vint v2.State),.dat (vstr v2.Plan),.dat (vint v2.Since),.dat (vint v2.First)]),(4,.box none 51 [.dat (vint 0),.dat (vstr []),.dat (vint 0),.dat (vint 0)]),(5,.box none 51 [.dat (vint v2.State),.dat (vstr v2.Plan),.dat (vint v3.At),.dat (vint v2.First)])]) (fun i=>z80 v2 v3 i=some r) (fun i=>rfl) ?_ ?_
          ·skip
           refine z0b hN rfl ?_
           refine z0a (z0m z8k rfl) ?_
           refine z0h (z0l tyS3 rfl rfl) rfl ?_
           refine z0a (z2g rfl rfl) ?_
           refine qd rfl ?_
           refine z15 (j:=3) rfl rfl (fun h31 => ?_) (fun h31 => ?_) rfl
           ·have h32:=un1 h31
            replace H:=ift h32 H
            refine z04 rfl rfl h31 (z0m y0n rfl) ?_
            refine z5r rfl rfl h31 (z0l tyS3 rfl rfl) rfl ?_
            obtain ⟨r33,h34,H⟩:=bnd H
            refine z04 rfl rfl h31 (z0z (z67 v2.State 1 3 r33 h34) ⟨.inl rfl,.inl rfl,.inl rfl,trivial⟩) ?_
            refine z0a (z1t rfl (bTT h32) rfl) ?_
            refine qe rfl ?_
            exact ⟨r33,H,⟨rfl,rfl,rfl,rfl,trivial⟩,⟨rfl,rfl,rfl,trivial⟩⟩
           ·have h35:=un2 h31
            replace H:=iff_ h35 H
            refine z0n rfl rfl h31 ?_
            refine z0n rfl rfl h31 ?_
            refine z0n rfl rfl h31 ?_
            refine z0a (z1l rfl (bFF h35) rfl) ?_
            refine qe rfl ?_
            exact ⟨false,H,⟨rfl,rfl,rfl,rfl,trivial⟩,⟨rfl,rfl,rfl,trivial⟩⟩
          ·rintro v36 H
           replace H:z80 v2 v3 v36=some r:=H
           unfold z80 at H
           refine z0k _ rfl (fun h37 => ?_) (fun h37 => ?_)
           ·replace H:=ift h37 H
            refine z0b hN rfl ?_
            refine z0a (z0m y0n rfl) ?_
            refine z0g (z3b tyS3 rfl rfl rfl rfl) rfl ?_
            exact ⟨(4,v2.Plan,v2.First),H,⟨rfl,rfl,trivial⟩,⟨rfl,rfl,trivial⟩⟩
           ·replace H:=iff_ h37 H
            refine z0c ?_
            refine z0b hN rfl ?_
            refine z0h (z06 z6k rfl rfl rfl) rfl ?_
            refine z0g (z08 z6k rfl rfl rfl rfl) rfl ?_
            refine qe rfl ?_
            refine z0t ?_
            cases H
            exact ⟨trivial,.inl ⟨_,_,_,z1g v2,rfl,rfl,rfl,rfl,z6k⟩,.inl rfl,trivial⟩
   ·rintro ⟨c38,c39,c40⟩ H
    replace H:z3w v3 c38 c39 c40=some r:=H
    unfold z3w at H
    refine z0c ?_
    refine z0b hN rfl ?_
    refine z0h (z06 z6k rfl rfl rfl) rfl ?_
    refine z0g (z08 z6k rfl rfl rfl rfl) rfl ?_
    refine qe rfl ?_
    refine z0t ?_
    cases H
    exact ⟨trivial,.inl ⟨_,_,_,z1g (z0o.mk c38 c39 v3.At c40),rfl,rfl,rfl,rfl,z6k⟩,.inl rfl,trivial⟩
theorem x0l (c1:z0i) (l2:(List z0f)) (app3:Bs) (product4:Bs) (r:((List z0o)×(List Int))) (H:y1y c1 l2 app3 product4=some r):Fn Tryz.prog 59 [vagg (z1h c1),vlst (List.map z00 l2),vstr app3,vstr product4] (z1x [vlst (List.map z1g r.1),vlst (List.map z5a r.2)]):=by
 refine ⟨by kernel_rfl,z1s (us:=[vlst (List.map z1g r.1),vlst (List.map z5a r.2)]) Tryz.func59 rfl rfl rfl rfl fun X hN => ?_⟩
 unfold y1y at H
 refine z0c ?_
 refine z0b hN rfl ?_
 refine z0g (z16 1 rfl) rfl ?_
 refine qe rfl ?_
 refine qe rfl ?_
 refine z0c ?_
 refine z0b hN rfl ?_
 obtain ⟨r5,h6,H⟩:=bnd H
 refine z0a (z0z (y6h  r5 h6) trivial) ?_
 refine z0g (x76 (C:=z1g) 2 ([r5]:(List z0o)) x23 ⟨rfl,.inr rfl,rfl,trivial⟩ rfl rfl rfl) rfl ?_
 refine z0a (z1o (.row _ _) rfl) ?_
 refine qe rfl ?_
 refine z0c ?_
 refine z0c ?_
 refine z0b hN rfl ?_
 refine qd rfl ?_
 refine z0a (z5b x01 rfl) ?_
 refine qd rfl ?_
 refine z0w ?_
 refine y2w 11 3 3 1 rfl rfl rfl ?_
 obtain ⟨h11,H⟩:=gif H
 refine z32 (fun (k9:Nat) (s:(List z0o)×(List Int))=>[(2,.dat (vstr app3)),(3,.dat (vstr product4)),(4,.ptr 1 0),(10,.row 2 s.1.length),(11,.row 3 s.2.length),(18,.dat (vlst (List.map z00 l2))),(19,.dat (vint (l2.length:Int))),(20,.dat (vint (k9:Int)))]) (fun (k9:Nat) (s:(List z0o)×(List Int))=>[(1,.box none 29 [.dat (vlst (List.map z0y c1.Products)),.dat (vlst (List.map z01 c1.Plans))]),(2,.row 51 4 (List.map z1g s.1)),(3,.row 3 1 (List.map z5a s.2))]) (([r5]:(List z0o)),[]) H ⟨rfl,rfl,rfl,rfl,rfl,rfl,rfl,rfl,trivial⟩ ⟨rfl,rfl,rfl,trivial⟩ (fun _ _=>rfl) ?_ ?_
 ·rintro ⟨l7,l8⟩ H
  replace H:z9y l7 l8=some r:=H
  unfold z9y at H
  refine z0c ?_
  refine z0b hN rfl ?_
  refine z0a (z03 rfl rfl) ?_
  refine z0c ?_
  refine z0k _ rfl (fun h=>(lt_t h).elim) (fun h => ?_)
  refine z1j ?_
  refine z0c ?_
  refine z0b hN rfl ?_
  refine z0a (z0j (.row _ _) rfl) ?_
  refine z0a (z0j (.row _ _) rfl) ?_
  refine z0a (z1o (.row _ _) rfl) ?_
  refine z0a (z1o (.row _ _) rfl) ?_
  refine z0t ?_
  cases H
  exact ⟨trivial,y75 rfl rfl,y75 rfl rfl,trivial⟩
 ·rintro k9 x12 ⟨l7,l8⟩ q10 h13 h14 H hq10
  replace H:z8a c1 app3 product4 k9 x12 l7 l8=some q10:=H
  unfold z8a at H
  refine z0c ?_
  refine z0b hN rfl ?_
  refine z0a (z03 rfl rfl) ?_
  refine z0c ?_
  refine z0k _ rfl (fun h => ?_) (fun h=>(lt_f h13 h).elim)
  refine z0q ?_
  refine z07 (ι:=(List z0o)×(List Int)) (fun i=>[(2,.dat (vstr app3)),(3,.dat (vstr product4)),(4,.ptr 1 0),(10,.row 2 i.1.length),(11,.row 3 i.2.length),(18,.dat (vlst (List.map z00 l2))),(19,.dat (vint (l2.length:Int))),(20,.dat (vint (k9:Int)))]) (fun i=>[(1,.box none 29 [.dat (vlst (List.map z0y c1.Products)),.dat (vlst (List.map z01 c1.Plans))]),(2,.row 51 4 (List.map z1g i.1)),(3,.row 3 1 (List.map z5a i.2))]) (fun i=>z8b i.1 i.2=some q10) (fun i=>rfl) ?_ ?_
  ·skip
   refine z0w ?_
   refine z0c ?_
   refine z0b hN rfl ?_
   refine qd rfl ?_
   refine z0a (y2a y6m (fun _=>rfl) rfl rfl h14) ?_
   refine z0a (z2l z9s rfl (z3e h14) rfl) ?_
   refine z0g (z1m 4 x0v rfl) rfl ?_
   refine qe rfl ?_
   refine z0g (z08 z9s rfl rfl rfl rfl) rfl ?_
   refine z0c ?_
   refine z0c ?_
   refine z0b hN rfl ?_
   refine z0a (z0m y3g rfl) ?_
   refine z0h (z0l tyS9 rfl rfl) rfl ?_
   refine qd rfl ?_
   refine z0a (y4o rfl rfl) ?_
   refine qd rfl ?_
   refine y4h rfl rfl (fun hc=>z0m y19 rfl) ?_
   refine x64 rfl rfl (fun hc=>z0l tyS9 (cnd (c:=(!(decide (x12.App≠app3)))) hc) rfl) rfl y5x ?_
   refine y4h rfl rfl (fun hc=>z0j (.dat _) rfl) ?_
   refine y4h rfl rfl (fun hc=>y4o (cnd (c:=(!(decide (x12.App≠app3)))) hc) (cnd (c:=(!(decide (x12.App≠app3)))) hc)) ?_
   refine z0a (z8q rfl rfl (fun hb=>(cnd (c:=(!(decide (x12.App≠app3)))) (notI hb)))) ?_
   refine z0k _ rfl (fun h15 => ?_) (fun h15 => ?_)
   ·replace H:=ift h15 H
    refine z1j ?_
    exact ⟨(l7,l8),H,⟨rfl,rfl,rfl,rfl,rfl,rfl,rfl,rfl,trivial⟩,⟨rfl,rfl,rfl,trivial⟩⟩
   ·replace H:=iff_ h15 H
    refine z0q ?_
    refine z0c ?_
    refine z2n mixed hN rfl rfl ?_
    refine z0h (z06 z5x rfl rfl rfl) rfl ?_
    refine z0a (z0j (.row _ _) rfl) ?_
    refine z0a (z0j (.row _ _) rfl) ?_
    refine z0h (y6r x7z rfl rfl) rfl ?_
    refine z0a (z05 _ rfl rfl (.inr (.inl ⟨rfl,rfl⟩))) ?_
    obtain ⟨x16,h17,H⟩:=bnd H
    refine z0h (y49 x74 rfl rfl rfl h17) rfl ?_
    refine z0h (y4n z6k rfl rfl (z1n h17).2 rfl) rfl ?_
    refine z0h (z06 z9s rfl rfl rfl) rfl ?_
    obtain ⟨r18,h19,H⟩:=bnd H
    refine z0a (z0z (y7q c1 x16 x12 r18 h19) ⟨.inl rfl,.inl rfl,.inl rfl,trivial⟩) ?_
    refine qd rfl ?_
    refine z0a (z2y rfl rfl) ?_
    refine z0a (z2y rfl rfl) ?_
    refine z0g (z1m 5 y6x rfl) rfl ?_
    refine z0g (z08 z6k rfl rfl rfl rfl) rfl ?_
    refine qe rfl ?_
    refine ⟨rfl,?_⟩
    refine z0c ?_
    refine z0b hN rfl ?_
    refine qd rfl ?_
    refine z0k _ rfl (fun h20 => ?_) (fun h20 => ?_)
    ·replace H:=ift h20 H
     refine z0b hN rfl ?_
     refine z0a (z0j (.row _ _) rfl) ?_
     refine z0h (z06 z6k rfl rfl rfl) rfl ?_
     refine z0a (z09 (u':=vlst (List.map z1g [r18.1])) (z1w [_] x23 ⟨rfl,.inr rfl,rfl,trivial⟩ rfl rfl) rfl) ?_
     obtain ⟨h21,H⟩:=gif H
     refine z0g (y7t x23 (fun _=>rfl) rfl rfl rfl ⟨by simp,by first | (simp; done) | simpa using h21⟩ rfl) rfl ?_
     refine z0a (z1o (.row _ _) rfl) ?_
     exact ⟨((l7++[r18.1]),l8),H,⟨rfl,rfl,rfl,rfl,rfl,rfl,rfl,rfl,trivial⟩,⟨rfl,rfl,rfl,trivial⟩⟩
    ·replace H:=iff_ h20 H
     refine z0b hN rfl ?_
     refine z0a (z0j (.row _ _) rfl) ?_
     refine qd rfl ?_
     refine z0a (z09 (u':=vlst (List.map z5a [(k9:Int)])) (z1w [[_]] y3v ⟨rfl,.inl ⟨_,rfl,rfl,rfl⟩,rfl,trivial⟩ rfl rfl) rfl) ?_
     obtain ⟨h22,H⟩:=gif H
     refine z0g (y7t y3v (fun _=>rfl) rfl rfl rfl ⟨by simp,by first | (simp; done) | simpa using h22⟩ rfl) rfl ?_
     refine z0a (z1o (.row _ _) rfl) ?_
     exact ⟨(l7,(l8++[(k9:Int)])),H,⟨rfl,rfl,rfl,rfl,rfl,rfl,rfl,rfl,trivial⟩,⟨rfl,rfl,rfl,trivial⟩⟩
  ·rintro ⟨out23,refused24⟩ H
   replace H:z8b out23 refused24=some q10:=H
   unfold z8b at H
   refine z0b hN rfl ?_
   refine z0a (z3h rfl rfl (by omega)) ?_
   refine qd rfl ?_
   exact ⟨_,z5d H,⟨rfl,rfl,rfl,rfl,rfl,rfl,rfl,rfl,trivial⟩,⟨rfl,rfl,rfl,trivial⟩⟩
theorem y4i (s1:z0d) (r:(Bs×z0d)) (H:z4v s1=some r):Imp Tryz.prog 7 25 (z0x s1) [] (z1x [vstr r.1]) (z0x r.2):=by
 refine y45 (us:=[vstr r.1]) (cs':=(z0x r.2)) (by kernel_rfl) Tryz.func7 rfl rfl rfl rfl fun X bl hN => ?_
 unfold z4v at H
 refine z0c ?_
 refine z0b hN rfl ?_
 refine qe rfl ?_
 refine z0c ?_
 refine z0b hN rfl ?_
 refine z0a (z0j (.ptr _ _) rfl) ?_
 refine z0a (z09 (u':=vlst (List.map z1k [[97,112,112,49],[97,112,112,49],[97,112,112,49],[97,112,112,50],[97,112,112,51],[110,111,110,101]])) (z1w [[_],[_],[_],[_],[_],[_]] z83 ⟨rfl,.inl ⟨_,rfl,rfl,rfl⟩,rfl,rfl,.inl ⟨_,rfl,rfl,rfl⟩,rfl,rfl,.inl ⟨_,rfl,rfl,rfl⟩,rfl,rfl,.inl ⟨_,rfl,rfl,rfl⟩,rfl,rfl,.inl ⟨_,rfl,rfl,rfl⟩,rfl,rfl,.inl ⟨_,rfl,rfl,rfl⟩,rfl,trivial⟩ rfl rfl) rfl) ?_
 obtain ⟨r2,h3,H⟩:=bnd H
 refine z0g (z1f (z1r s1 ([[97,112,112,49],[97,112,112,49],[97,112,112,49],[97,112,112,50],[97,112,112,51],[110,111,110,101]]) r2 h3) rfl ⟨.inl rfl,trivial⟩ rfl) rfl ?_
 refine qe rfl ?_
 refine z0t ?_
 cases H
 exact ⟨trivial,⟨.inl rfl,trivial⟩,rfl⟩
theorem y23 (s1:z0d) (r:(Bs×z0d)) (H:z3m s1=some r):Imp Tryz.prog 8 25 (z0x s1) [] (z1x [vstr r.1]) (z0x r.2):=by
 refine y45 (us:=[vstr r.1]) (cs':=(z0x r.2)) (by kernel_rfl) Tryz.func8 rfl rfl rfl rfl fun X bl hN => ?_
 unfold z3m at H
 refine z0c ?_
 refine z0b hN rfl ?_
 refine qe rfl ?_
 refine z0c ?_
 refine z0b hN rfl ?_
 refine z0a (z0j (.ptr _ _) rfl) ?_
 refine z0a (z09 (u':=vlst (List.map z1k [[115,104,111,112],[115,104,111,112],[115,104,111,112],[109,97,112,115],[110,111,110,101]])) (z1w [[_],[_],[_],[_],[_]] z83 ⟨rfl,.inl ⟨_,rfl,rfl,rfl⟩,rfl,rfl,.inl ⟨_,rfl,rfl,rfl⟩,rfl,rfl,.inl ⟨_,rfl,rfl,rfl⟩,rfl,rfl,.inl ⟨_,rfl,rfl,rfl⟩,rfl,rfl,.inl ⟨_,rfl,rfl,rfl⟩,rfl,trivial⟩ rfl rfl) rfl) ?_
 obtain ⟨r2,h3,H⟩:=bnd H
 refine z0g (z1f (z1r s1 ([[115,104,111,112],[115,104,111,112],[115,104,111,112],[109,97,112,115],[110,111,110,101]]) r2 h3) rfl ⟨.inl rfl,trivial⟩ rfl) rfl ?_
 refine qe rfl ?_
 refine z0t ?_
 cases H
 exact ⟨trivial,⟨.inl rfl,trivial⟩,rfl⟩
theorem y79 (c1:z0i) (l2:(List z0f)) (app3:Bs) (product4:Bs) (r:((List z0o)×(List Int))) (H:z98 c1 l2 app3 product4=some r):FnG Tryz.prog 59 [.dat (vagg (z1h c1)),.row 0 l2.length,.dat (vstr app3),.dat (vstr product4)] [(0,.rowA undef 123 5 (List.map z00 l2))] (.dat (z1x [vlst (List.map z1g r.1),vlst (List.map z5a r.2)])) [(0,.rowA undef 123 5 (List.map z00 l2))]:=by
 refine y5v (by kernel_rfl) Tryz.func59 rfl rfl rfl rfl fun X A hN => ?_
 unfold z98 at H
 refine z0c ?_
 refine z0b hN rfl ?_
 refine z0g (z16 1 rfl) rfl ?_
 refine qe rfl ?_
 refine qe rfl ?_
 refine z0c ?_
 refine z0b hN rfl ?_
 obtain ⟨r5,h6,H⟩:=bnd H
 refine z0a (z0z (y6h  r5 h6) trivial) ?_
 refine z0g (x76 (C:=z1g) 2 ([r5]:(List z0o)) x23 ⟨rfl,.inr rfl,rfl,trivial⟩ rfl rfl rfl) rfl ?_
 refine z0a (z1o (.row _ _) rfl) ?_
 refine qe rfl ?_
 refine z0c ?_
 refine z0c ?_
 refine z0b hN rfl ?_
 refine z0a (z0j (.row _ _) rfl) ?_
 refine z0h (w0w x01 rfl rfl) rfl ?_
 refine qd rfl ?_
 refine z0w ?_
 refine y2w 11 3 3 1 rfl rfl rfl ?_
 obtain ⟨h11,H⟩:=gif H
 refine z32 (fun (k9:Nat) (s:(List z0o)×(List Int))=>[(2,.dat (vstr app3)),(3,.dat (vstr product4)),(4,.ptr 1 0),(10,.row 2 s.1.length),(11,.row 3 s.2.length),(18,.row 0 l2.length),(19,.dat (vint (l2.length:Int))),(20,.dat (vint (k9:Int)))]) (fun (k9:Nat) (s:(List z0o)×(List Int))=>[(0,.rowA (A.vl 0) 123 5 (List.map z00 l2)),(1,.box none 29 [.dat (vlst (List.map z0y c1.Products)),.dat (vlst (List.map z01 c1.Plans))]),(2,.row 51 4 (List.map z1g s.1)),(3,.row 3 1 (List.map z5a s.2))]) (([r5]:(List z0o)),[]) H ⟨rfl,rfl,rfl,rfl,rfl,rfl,rfl,rfl,trivial⟩ ⟨rfl,rfl,rfl,rfl,trivial⟩ (fun _ _=>rfl) ?_ ?_
 ·rintro ⟨l7,l8⟩ H
  replace H:y1d l7 l8=some r:=H
  unfold y1d at H
  refine z0c ?_
  refine z0b hN rfl ?_
  refine z0a (z03 rfl rfl) ?_
  refine z0c ?_
  refine z0k _ rfl (fun h=>(lt_t h).elim) (fun h => ?_)
  refine z1j ?_
  refine z0c ?_
  refine z0b hN rfl ?_
  refine z0a (z0j (.row _ _) rfl) ?_
  refine z0a (z0j (.row _ _) rfl) ?_
  refine z0a (z1o (.row _ _) rfl) ?_
  refine z0a (z1o (.row _ _) rfl) ?_
  refine x1e 8 2 rfl rfl rfl ?_
  refine x1e 9 3 rfl rfl rfl ?_
  refine z0t ?_
  cases H
  exact ⟨trivial,[(8,.dat (vlst (List.map z1g l7))),(9,.dat (vlst (List.map z5a l8)))],⟨rfl,rfl,trivial⟩,⟨rfl,trivial⟩,rfl,.inl ⟨[vlst (List.map z1g l7),vlst (List.map z5a l8)],⟨rfl,rfl,trivial⟩,rfl⟩⟩
 ·rintro k9 x12 ⟨l7,l8⟩ q10 h13 h14 H hq10
  replace H:y1c c1 app3 product4 k9 x12 l7 l8=some q10:=H
  unfold y1c at H
  refine z0c ?_
  refine z0b hN rfl ?_
  refine z0a (z03 rfl rfl) ?_
  refine z0c ?_
  refine z0k _ rfl (fun h => ?_) (fun h=>(lt_f h13 h).elim)
  refine z0q ?_
  refine z07 (ι:=(List z0o)×(List Int)) (fun i=>[(2,.dat (vstr app3)),(3,.dat (vstr product4)),(4,.ptr 1 0),(10,.row 2 i.1.length),(11,.row 3 i.2.length),(18,.row 0 l2.length),(19,.dat (vint (l2.length:Int))),(20,.dat (vint (k9:Int)))]) (fun i=>[(0,.rowA (A.vl 0) 123 5 (List.map z00 l2)),(1,.box none 29 [.dat (vlst (List.map z0y c1.Products)),.dat (vlst (List.map z01 c1.Plans))]),(2,.row 51 4 (List.map z1g i.1)),(3,.row 3 1 (List.map z5a i.2))]) (fun i=>z6g i.1 i.2=some q10) (fun i=>rfl) ?_ ?_
  ·skip
   refine z0w ?_
   refine z0c ?_
   refine z0b hN rfl ?_
   refine qd rfl ?_
   refine z0h (w78 y6m rfl rfl rfl h14) rfl ?_
   refine z0h (z86 z9s rfl rfl h14 rfl) rfl ?_
   refine z0g (z1m 4 x0v rfl) rfl ?_
   refine qe rfl ?_
   refine z0g (z08 z9s rfl rfl rfl rfl) rfl ?_
   refine z0c ?_
   refine z0c ?_
   refine z0b hN rfl ?_
   refine z0a (z0m y3g rfl) ?_
   refine z0h (z0l tyS9 rfl rfl) rfl ?_
   refine qd rfl ?_
   refine z0a (y4o rfl rfl) ?_
   refine qd rfl ?_
   refine y4h rfl rfl (fun hc=>z0m y19 rfl) ?_
   refine x64 rfl rfl (fun hc=>z0l tyS9 (cnd (c:=(!(decide (x12.App≠app3)))) hc) rfl) rfl y5x ?_
   refine y4h rfl rfl (fun hc=>z0j (.dat _) rfl) ?_
   refine y4h rfl rfl (fun hc=>y4o (cnd (c:=(!(decide (x12.App≠app3)))) hc) (cnd (c:=(!(decide (x12.App≠app3)))) hc)) ?_
   refine z0a (z8q rfl rfl (fun hb=>(cnd (c:=(!(decide (x12.App≠app3)))) (notI hb)))) ?_
   refine z0k _ rfl (fun h15 => ?_) (fun h15 => ?_)
   ·replace H:=ift h15 H
    refine z1j ?_
    exact ⟨(l7,l8),H,⟨rfl,rfl,rfl,rfl,rfl,rfl,rfl,rfl,trivial⟩,⟨rfl,rfl,rfl,rfl,trivial⟩⟩
   ·replace H:=iff_ h15 H
    refine z0q ?_
    refine z0c ?_
    refine z2n mixed hN rfl rfl ?_
    refine z0h (z06 z5x rfl rfl rfl) rfl ?_
    refine z0a (z0j (.row _ _) rfl) ?_
    refine z0a (z0j (.row _ _) rfl) ?_
    refine z0h (y6r x7z rfl rfl) rfl ?_
    refine z0a (z05 _ rfl rfl (.inr (.inl ⟨rfl,rfl⟩))) ?_
    obtain ⟨x16,h17,H⟩:=bnd H
    refine z0h (y49 x74 rfl rfl rfl h17) rfl ?_
    refine z0h (y4n z6k rfl rfl (z1n h17).2 rfl) rfl ?_
    refine z0h (z06 z9s rfl rfl rfl) rfl ?_
    obtain ⟨r18,h19,H⟩:=bnd H
    refine z0a (z0z (y7q c1 x16 x12 r18 h19) ⟨.inl rfl,.inl rfl,.inl rfl,trivial⟩) ?_
    refine qd rfl ?_
    refine z0a (z2y rfl rfl) ?_
    refine z0a (z2y rfl rfl) ?_
    refine z0g (z1m 5 y6x rfl) rfl ?_
    refine z0g (z08 z6k rfl rfl rfl rfl) rfl ?_
    refine qe rfl ?_
    refine ⟨rfl,?_⟩
    refine z0c ?_
    refine z0b hN rfl ?_
    refine qd rfl ?_
    refine z0k _ rfl (fun h20 => ?_) (fun h20 => ?_)
    ·replace H:=ift h20 H
     refine z0b hN rfl ?_
     refine z0a (z0j (.row _ _) rfl) ?_
     refine z0h (z06 z6k rfl rfl rfl) rfl ?_
     refine z0a (z09 (u':=vlst (List.map z1g [r18.1])) (z1w [_] x23 ⟨rfl,.inr rfl,rfl,trivial⟩ rfl rfl) rfl) ?_
     obtain ⟨h21,H⟩:=gif H
     refine z0g (y7t x23 (fun _=>rfl) rfl rfl rfl ⟨by simp,by first | (simp; done) | simpa using h21⟩ rfl) rfl ?_
     refine z0a (z1o (.row _ _) rfl) ?_
     exact ⟨((l7++[r18.1]),l8),H,⟨rfl,rfl,rfl,rfl,rfl,rfl,rfl,rfl,trivial⟩,⟨rfl,rfl,rfl,rfl,trivial⟩⟩
    ·replace H:=iff_ h20 H
     refine z0b hN rfl ?_
     refine z0a (z0j (.row _ _) rfl) ?_
     refine qd rfl ?_
     refine z0a (z09 (u':=vlst (List.map z5a [(k9:Int)])) (z1w [[_]] y3v ⟨rfl,.inl ⟨_,rfl,rfl,rfl⟩,rfl,trivial⟩ rfl rfl) rfl) ?_
     obtain ⟨h22,H⟩:=gif H
     refine z0g (y7t y3v (fun _=>rfl) rfl rfl rfl ⟨by simp,by first | (simp; done) | simpa using h22⟩ rfl) rfl ?_
     refine z0a (z1o (.row _ _) rfl) ?_
     exact ⟨(l7,(l8++[(k9:Int)])),H,⟨rfl,rfl,rfl,rfl,rfl,rfl,rfl,rfl,trivial⟩,⟨rfl,rfl,rfl,rfl,trivial⟩⟩
  ·rintro ⟨out23,refused24⟩ H
   replace H:z6g out23 refused24=some q10:=H
   unfold z6g at H
   refine z0b hN rfl ?_
   refine z0a (z3h rfl rfl (by omega)) ?_
   refine qd rfl ?_
   exact ⟨_,z5d H,⟨rfl,rfl,rfl,rfl,rfl,rfl,rfl,rfl,trivial⟩,⟨rfl,rfl,rfl,rfl,trivial⟩⟩
theorem y7h (s1:z0d) (v2:z0i) (v3:(List z0s)) (v4:Int) (r:((List z0f)×z0d)) (H:z7h s1 v2 v3 v4=some r):Imp Tryz.prog 26 25 (z0x s1) [vagg (z1h v2),vlst (List.map z1a v3),vint v4] (z1x [vlst (List.map z00 r.1)]) (z0x r.2):=by
 refine y45 (us:=[vlst (List.map z00 r.1)]) (cs':=(z0x r.2)) (by kernel_rfl) Tryz.func26 rfl rfl rfl rfl fun X bl hN => ?_
 unfold z7h at H
 refine z0c ?_
 refine z0b hN rfl ?_
 refine z0g (z16 1 rfl) rfl ?_
 refine qe rfl ?_
 refine z0c ?_
 refine z0b hN rfl ?_
 refine qe rfl ?_
 refine z0c ?_
 refine z0b hN rfl ?_
 refine qe rfl ?_
 refine z0c ?_
 refine z0c ?_
 refine z0b hN rfl ?_
 refine qd rfl ?_
 refine qd rfl ?_
 refine z0w ?_
 refine y2w 9 2 123 5 rfl rfl rfl ?_
 obtain ⟨h11,H⟩:=gif H
 refine y65 (fun (k9:Nat) (s:Int×(List Int)×Int×(List z0f))=>[(0,.ptr 0 0),(2,.dat (vlst (List.map z1a v3))),(5,.ptr 1 0),(9,.row 2 s.2.2.2.length),(10,.dat (vint s.1)),(17,.dat (vint v4)),(18,.dat (vint (k9:Int)))]) (fun (k9:Nat) (s:Int×(List Int)×Int×(List z0f))=>[(0,.box (some bl) 25 [.dat (vlst (List.map z5a s.2.1)),.dat (vint s.2.2.1)]),(1,.box none 29 [.dat (vlst (List.map z0y v2.Products)),.dat (vlst (List.map z01 v2.Plans))]),(2,.row 123 5 (List.map z00 s.2.2.2))]) (0,s1.L,s1.at_,[]) H ⟨rfl,rfl,rfl,rfl,rfl,rfl,rfl,trivial⟩ ⟨rfl,rfl,rfl,trivial⟩ (fun _ _=>rfl) ?_ ?_
 ·rintro ⟨v5,c6,c7,l8⟩ H
  replace H:z9c v5 c6 c7 l8=some r:=H
  unfold z9c at H
  refine z0c ?_
  refine z0b hN rfl ?_
  refine z0a (z03 rfl rfl) ?_
  refine z0c ?_
  refine z0k _ rfl (fun h=>(x96 h).elim) (fun h => ?_)
  refine z1j ?_
  refine z0c ?_
  refine z0b hN rfl ?_
  refine z0a (z0j (.row _ _) rfl) ?_
  obtain ⟨r12,h13,H⟩:=bnd H
  obtain ⟨h14,H⟩:=gif H
  refine z4y (rn [(0,2)]) [(0,_,_,some _)] [] (y1h l8 (fun (a0:z0f) (a1:z0f)=>z3n a0 a1) 71 [] (fun a0 a1 r h=>y3d a0 a1 r h) r12 h13) ⟨rfl,trivial⟩ ⟨.inl (.inl rfl),.inr ⟨_,rfl,rfl⟩,trivial⟩ ⟨⟨⟨rfl,rfl,rfl⟩,by simp [y6n,h14]⟩,trivial⟩ rfl ?_
  refine z0c ?_
  refine z0c ?_
  refine z0b hN rfl ?_
  refine z0a (z0j (.ptr _ _) rfl) ?_
  obtain ⟨r15,h16,H⟩:=bnd H
  refine z0g (z1f (z1v (z0d.mk c6 c7) 60 r15 h16) rfl ⟨.inl rfl,trivial⟩ rfl) rfl ?_
  refine z0k _ rfl (fun h17 => ?_) (fun h17 => ?_)
  ·replace H:=ift h17 H
   refine z0c ?_
   refine z0b hN rfl ?_
   refine z0a (z0j (.row _ _) rfl) ?_
   refine z0a (z1o (.row _ _) rfl) ?_
   refine z0t ?_
   cases H
   exact ⟨trivial,⟨y75 rfl (h14).symm,trivial⟩,rfl⟩
  ·replace H:=iff_ h17 H
   refine z0q ?_
   refine z0c ?_
   refine z0b hN rfl ?_
   refine z0a (z0j (.row _ _) rfl) ?_
   obtain ⟨r18,h19,H⟩:=bnd H
   refine z4y (rn [(0,2),(900,3)]) [(0,_,_,none)] [(900,_)] (y17 r12 (fun (a0:z0f) (a1:z0f)=>z6x a0 a1) 73 [] (fun a0 a1 r h=>y6o a0 a1 r h) r18 h19) ⟨rfl,rfl,trivial⟩ ⟨.inl (.inl (congrArg (Slot.row 2) (h14).symm)),.inr ⟨_,rfl,rfl⟩,trivial⟩ ⟨⟨⟨rfl,rfl,rfl⟩,trivial⟩,trivial⟩ rfl ?_
   refine z0a (z1o (.row _ _) rfl) ?_
   refine z0t ?_
   cases H
   exact ⟨trivial,⟨y75 rfl rfl,trivial⟩,rfl⟩
 ·rintro k9 ⟨v5,c6,c7,l8⟩ q10 h20 H hq10
  replace H:z9a v2 v3 k9 v5 c6 c7 l8=some q10:=H
  unfold z9a at H
  refine z0c ?_
  refine z0b hN rfl ?_
  refine z0a (z03 rfl rfl) ?_
  refine z0c ?_
  refine z0k _ rfl (fun h => ?_) (fun h=>(x97 h20 h).elim)
  refine z0q ?_
  refine z07 (ι:=Int×(List z0f)×(List Int)×Int) (fun i=>[(0,.ptr 0 0),(2,.dat (vlst (List.map z1a v3))),(5,.ptr 1 0),(9,.row 2 i.2.1.length),(10,.dat (vint i.1)),(17,.dat (vint v4)),(18,.dat (vint (k9:Int)))]) (fun i=>[(0,.box (some bl) 25 [.dat (vlst (List.map z5a i.2.2.1)),.dat (vint i.2.2.2)]),(1,.box none 29 [.dat (vlst (List.map z0y v2.Products)),.dat (vlst (List.map z01 v2.Plans))]),(2,.row 123 5 (List.map z00 i.2.1))]) (fun i=>z3r i.1 i.2.1 i.2.2.1 i.2.2.2=some q10) (fun i=>rfl) ?_ ?_
  ·skip
   refine z0w ?_
   refine z0c ?_
   refine z0b hN rfl ?_
   refine qd rfl ?_
   refine z0a (z0j (.ptr _ _) rfl) ?_
   refine qd rfl ?_
   refine z0a (x39 rfl rfl (by decide)) ?_
   refine z0a (z05 _ rfl rfl (.inr (.inl ⟨rfl,rfl⟩))) ?_
   refine z0a (z09 (u':=vlst (List.map z5a [1,5,86400000,864000000,2592000000,wr (2592000000 - (Int.tmod v5 2592000000))])) (z1w [[_],[_],[_],[_],[_],[_]] y3v ⟨rfl,.inl ⟨_,rfl,rfl,rfl⟩,rfl,rfl,.inl ⟨_,rfl,rfl,rfl⟩,rfl,rfl,.inl ⟨_,rfl,rfl,rfl⟩,rfl,rfl,.inl ⟨_,rfl,rfl,rfl⟩,rfl,rfl,.inl ⟨_,rfl,rfl,rfl⟩,rfl,rfl,.inl ⟨_,rfl,rfl,rfl⟩,rfl,trivial⟩ rfl rfl) rfl) ?_
   obtain ⟨r21,h22,H⟩:=bnd H
   refine z0g (z1f (z1b (z0d.mk c6 c7) [1,5,86400000,864000000,2592000000,wr (2592000000 - (Int.tmod v5 2592000000))] r21 h22) rfl ⟨.inl rfl,trivial⟩ rfl) rfl ?_
   refine z0a (z05 _ rfl rfl (.inl ⟨rfl,rfl⟩)) ?_
   refine qe rfl ?_
   refine z0c ?_
   refine z0b hN rfl ?_
   refine qd rfl ?_
   refine z0a (z0j (.ptr _ _) rfl) ?_
   refine z0a (z09 (u':=vlst (List.map z1k [[97,112,112,49],[97,112,112,49],[97,112,112,50]])) (z1w [[_],[_],[_]] z83 ⟨rfl,.inl ⟨_,rfl,rfl,rfl⟩,rfl,rfl,.inl ⟨_,rfl,rfl,rfl⟩,rfl,rfl,.inl ⟨_,rfl,rfl,rfl⟩,rfl,trivial⟩ rfl rfl) rfl) ?_
   obtain ⟨r23,h24,H⟩:=bnd H
   refine z0g (z1f (z1r r21.2 ([[97,112,112,49],[97,112,112,49],[97,112,112,50]]) r23 h24) rfl ⟨.inl rfl,trivial⟩ rfl) rfl ?_
   refine z0a (z0j (.ptr _ _) rfl) ?_
   refine z0a (z09 (u':=vlst (List.map z1k [[115,104,111,112],[115,104,111,112],[109,97,112,115]])) (z1w [[_],[_],[_]] z83 ⟨rfl,.inl ⟨_,rfl,rfl,rfl⟩,rfl,rfl,.inl ⟨_,rfl,rfl,rfl⟩,rfl,rfl,.inl ⟨_,rfl,rfl,rfl⟩,rfl,trivial⟩ rfl rfl) rfl) ?_
   obtain ⟨r25,h26,H⟩:=bnd H
   refine z0g (z1f (z1r r23.2 ([[115,104,111,112],[115,104,111,112],[109,97,112,115]]) r25 h26) rfl ⟨.inl rfl,trivial⟩ rfl) rfl ?_
   refine z0a (z0j (.ptr _ _) rfl) ?_
   obtain ⟨r27,h28,H⟩:=bnd H
   refine z0g (z1f (z78 r25.2 1 6 r27 h28) rfl ⟨.inl rfl,.inl rfl,trivial⟩ rfl) rfl ?_
   refine z0a (z09 (u':=vagg (z00 (z0f.mk (wr (v5+r21.1)) r23.1 r25.1 r27.1 []))) (z3k [(0,[vint (wr (v5+r21.1))]),(1,[vstr r23.1]),(2,[vstr r25.1]),(3,[vint r27.1])] x0v w72 rfl ⟨rfl,.inl ⟨_,rfl,rfl,rfl⟩,rfl,rfl,.inl ⟨_,rfl,rfl,rfl⟩,rfl,rfl,.inl ⟨_,rfl,rfl,rfl⟩,rfl,rfl,.inl ⟨_,rfl,rfl,rfl⟩,rfl,trivial⟩) rfl) ?_
   refine z0g (z1m 4 x0v rfl) rfl ?_
   refine z0g (z08 z9s rfl rfl rfl rfl) rfl ?_
   refine z07 (ι:=(List Int)×Int×Bs) (fun i=>[(0,.ptr 0 0),(2,.dat (vlst (List.map z1a v3))),(5,.ptr 1 0),(9,.row 2 l8.length),(10,.dat (vint (wr (v5+r21.1)))),(11,.ptr 4 0),(17,.dat (vint v4)),(18,.dat (vint (k9:Int)))]) (fun i=>[(0,.box (some bl) 25 [.dat (vlst (List.map z5a i.1)),.dat (vint i.2.1)]),(1,.box none 29 [.dat (vlst (List.map z0y v2.Products)),.dat (vlst (List.map z01 v2.Plans))]),(2,.row 123 5 (List.map z00 l8)),(4,.box none 123 [.dat (vint (wr (v5+r21.1))),.dat (vstr i.2.2),.dat (vstr r25.1),.dat (vint r27.1),.dat (vstr [])])]) (fun i=>z3q v2 v5 l8 r21 r25 r27 i.1 i.2.1 i.2.2=some q10) (fun i=>rfl) ?_ ?_
   ·skip
    refine z07 (ι:=Bool×(List Int)×Int) (fun i=>[(0,.ptr 0 0),(2,.dat (vlst (List.map z1a v3))),(5,.ptr 1 0),(9,.row 2 l8.length),(10,.dat (vint (wr (v5+r21.1)))),(11,.ptr 4 0),(17,.dat (vint v4)),(18,.dat (vint (k9:Int))),(44,.dat (z1p i.1))]) (fun i=>[(0,.box (some bl) 25 [.dat (vlst (List.map z5a i.2.1)),.dat (vint i.2.2)]),(1,.box none 29 [.dat (vlst (List.map z0y v2.Products)),.dat (vlst (List.map z01 v2.Plans))]),(2,.row 123 5 (List.map z00 l8)),(4,.box none 123 [.dat (vint (wr (v5+r21.1))),.dat (vstr r23.1),.dat (vstr r25.1),.dat (vint r27.1),.dat (vstr [])])]) (fun i=>z5q v2 v3 v5 l8 r21 r23 r25 r27 i.1 i.2.1 i.2.2=some q10) (fun i=>rfl) ?_ ?_
    ·skip
     refine z0b hN rfl ?_
     refine qd rfl ?_
     refine z0a (z5b x3t rfl) ?_
     refine z0a (z4c rfl rfl) ?_
     refine qd rfl ?_
     refine z15 (j:=3) rfl rfl (fun h29 => ?_) (fun h29 => ?_) rfl
     ·have h30:=un1 h29
      replace H:=ift h30 H
      refine z04 rfl rfl h29 (z0j (.ptr _ _) rfl) ?_
      obtain ⟨r31,h32,H⟩:=bnd H
      refine x8a rfl rfl h29 (z1f (z1v r27.2 3 r31 h32) rfl ⟨.inl rfl,trivial⟩ rfl) rfl ?_
      refine z0a (z1t rfl (bTT h30) rfl) ?_
      exact ⟨(r31.1,r31.2.L,r31.2.at_),H,⟨rfl,rfl,rfl,rfl,rfl,rfl,rfl,rfl,rfl,trivial⟩,⟨rfl,rfl,rfl,rfl,trivial⟩⟩
     ·have h33:=un2 h29
      replace H:=iff_ h33 H
      refine z0n rfl rfl h29 ?_
      refine z0n rfl rfl h29 ?_
      refine z0a (z1l rfl (bFF h33) rfl) ?_
      exact ⟨(false,r27.2.L,r27.2.at_),H,⟨rfl,rfl,rfl,rfl,rfl,rfl,rfl,rfl,rfl,trivial⟩,⟨rfl,rfl,rfl,rfl,trivial⟩⟩
    ·rintro ⟨v34,c35,c36⟩ H
     replace H:z5q v2 v3 v5 l8 r21 r23 r25 r27 v34 c35 c36=some q10:=H
     unfold z5q at H
     refine z0k _ rfl (fun h37 => ?_) (fun h37 => ?_)
     ·replace H:=ift h37 H
      refine z0b hN rfl ?_
      refine qd rfl ?_
      refine z0a (z0j (.ptr _ _) rfl) ?_
      refine qd rfl ?_
      refine z0a (z5b x3t rfl) ?_
      obtain ⟨r38,h39,H⟩:=bnd H
      refine z0g (z1f (z3g (z0d.mk c35 c36) (v3.length:Int) r38 h39) rfl ⟨.inl rfl,trivial⟩ rfl) rfl ?_
      obtain ⟨x40,h41,H⟩:=bnd H
      refine z0a (y1q x30 (fun _=>rfl) rfl rfl h41) ?_
      refine z0a (y20 y5e rfl) ?_
      refine z0a (z24 tyS9 rfl (z3e (z1n h41).2) rfl) ?_
      refine z0a (z0m y3g rfl) ?_
      refine z0g (z3b tyS9 rfl rfl rfl rfl) rfl ?_
      exact ⟨(r38.2.L,r38.2.at_,x40.Key),H,⟨rfl,rfl,rfl,rfl,rfl,rfl,rfl,rfl,trivial⟩,⟨rfl,rfl,rfl,rfl,trivial⟩⟩
     ·replace H:=iff_ h37 H
      refine z0q ?_
      exact ⟨(c35,c36,r23.1),H,⟨rfl,rfl,rfl,rfl,rfl,rfl,rfl,rfl,trivial⟩,⟨rfl,rfl,rfl,rfl,trivial⟩⟩
   ·rintro ⟨c42,c43,c44⟩ H
    replace H:z3q v2 v5 l8 r21 r25 r27 c42 c43 c44=some q10:=H
    unfold z3q at H
    refine z0c ?_
    refine z0b hN rfl ?_
    refine qe rfl ?_
    refine z0c ?_
    refine z0c ?_
    refine z0b hN rfl ?_
    refine z0a (z0m y0o rfl) ?_
    refine z0h (z0l y57 rfl rfl) rfl ?_
    refine z0a (z5b x1o rfl) ?_
    refine qd rfl ?_
    refine z0w ?_
    refine y2w 12 5 9 1 rfl rfl rfl ?_
    obtain ⟨h48,H⟩:=gif H
    refine z32 (fun (k46:Nat) (s:(List Bs))=>[(0,.ptr 0 0),(2,.dat (vlst (List.map z1a v3))),(5,.ptr 1 0),(9,.row 2 l8.length),(10,.dat (vint (wr (v5+r21.1)))),(11,.ptr 4 0),(12,.row 5 s.length),(17,.dat (vint v4)),(18,.dat (vint (k9:Int))),(55,.dat (vlst (List.map z01 v2.Plans))),(56,.dat (vint (v2.Plans.length:Int))),(57,.dat (vint (k46:Int)))]) (fun (k46:Nat) (s:(List Bs))=>[(0,.box (some bl) 25 [.dat (vlst (List.map z5a c42)),.dat (vint c43)]),(1,.box none 29 [.dat (vlst (List.map z0y v2.Products)),.dat (vlst (List.map z01 v2.Plans))]),(2,.row 123 5 (List.map z00 l8)),(4,.box none 123 [.dat (vint (wr (v5+r21.1))),.dat (vstr c44),.dat (vstr r25.1),.dat (vint r27.1),.dat (vstr [])]),(5,.row 9 1 (List.map z1k s))]) [] H ⟨rfl,rfl,rfl,rfl,rfl,rfl,rfl,rfl,rfl,rfl,rfl,rfl,trivial⟩ ⟨rfl,rfl,rfl,rfl,rfl,trivial⟩ (fun _ _=>rfl) ?_ ?_
    ·rintro l45 H
     replace H:z9b v2 v5 l8 r21 r25 r27 c42 c43 c44 l45=some q10:=H
     unfold z9b at H
     refine z0c ?_
     refine z0b hN rfl ?_
     refine z0a (z03 rfl rfl) ?_
     refine z0c ?_
     refine z0k _ rfl (fun h=>(lt_t h).elim) (fun h => ?_)
     refine z1j ?_
     refine z07 (ι:=(List Int)×Int×Int) (fun i=>[(0,.ptr 0 0),(2,.dat (vlst (List.map z1a v3))),(5,.ptr 1 0),(9,.row 2 l8.length),(10,.dat (vint (wr (v5+r21.1)))),(11,.ptr 4 0),(12,.row 5 l45.length),(17,.dat (vint v4)),(18,.dat (vint (k9:Int)))]) (fun i=>[(0,.box (some bl) 25 [.dat (vlst (List.map z5a i.1)),.dat (vint i.2.1)]),(1,.box none 29 [.dat (vlst (List.map z0y v2.Products)),.dat (vlst (List.map z01 v2.Plans))]),(2,.row 123 5 (List.map z00 l8)),(4,.box none 123 [.dat (vint (wr (v5+r21.1))),.dat (vstr c44),.dat (vstr r25.1),.dat (vint i.2.2),.dat (vstr [])]),(5,.row 9 1 (List.map z1k l45))]) (fun i=>z2p v5 l8 r21 r25 c44 l45 i.1 i.2.1 i.2.2=some q10) (fun i=>rfl) ?_ ?_
     ·skip
      refine z07 (ι:=Bool×(List Int)×Int) (fun i=>[(0,.ptr 0 0),(2,.dat (vlst (List.map z1a v3))),(5,.ptr 1 0),(9,.row 2 l8.length),(10,.dat (vint (wr (v5+r21.1)))),(11,.ptr 4 0),(12,.row 5 l45.length),(17,.dat (vint v4)),(18,.dat (vint (k9:Int))),(79,.dat (z1p i.1))]) (fun i=>[(0,.box (some bl) 25 [.dat (vlst (List.map z5a i.2.1)),.dat (vint i.2.2)]),(1,.box none 29 [.dat (vlst (List.map z0y v2.Products)),.dat (vlst (List.map z01 v2.Plans))]),(2,.row 123 5 (List.map z00 l8)),(4,.box none 123 [.dat (vint (wr (v5+r21.1))),.dat (vstr c44),.dat (vstr r25.1),.dat (vint r27.1),.dat (vstr [])]),(5,.row 9 1 (List.map z1k l45))]) (fun i=>z3p v2 v5 l8 r21 r25 r27 c44 l45 i.1 i.2.1 i.2.2=some q10) (fun i=>rfl) ?_ ?_
      ·skip
       refine z0b hN rfl ?_
       refine z0a (z0j (.ptr _ _) rfl) ?_
       obtain ⟨r50,h51,H⟩:=bnd H
       refine z0g (z1f (z1v (z0d.mk c42 c43) 4 r50 h51) rfl ⟨.inl rfl,trivial⟩ rfl) rfl ?_
       refine z0a (z3s rfl) ?_
       refine qd rfl ?_
       refine z15 (j:=3) rfl rfl (fun h52 => ?_) (fun h52 => ?_) rfl
       ·have h53:=un1 h52
        replace H:=ift h53 H
        refine z5r rfl rfl h52 (z06 z5x rfl rfl rfl) rfl ?_
        obtain ⟨r54,h55,H⟩:=bnd H
        refine z04 rfl rfl h52 (z0z (y4v v2 r54 h55) ⟨.inl rfl,trivial⟩) ?_
        refine z04 rfl rfl h52 (z2g rfl rfl) ?_
        refine z0a (z1t rfl (bTT h53) rfl) ?_
        exact ⟨(decide (r54=0),r50.2.L,r50.2.at_),H,⟨rfl,rfl,rfl,rfl,rfl,rfl,rfl,rfl,rfl,rfl,trivial⟩,⟨rfl,rfl,rfl,rfl,rfl,trivial⟩⟩
       ·have h56:=un2 h52
        replace H:=iff_ h56 H
        refine z0n rfl rfl h52 ?_
        refine z0n rfl rfl h52 ?_
        refine z0n rfl rfl h52 ?_
        refine z0a (z1l rfl (bFF h56) rfl) ?_
        exact ⟨(false,r50.2.L,r50.2.at_),H,⟨rfl,rfl,rfl,rfl,rfl,rfl,rfl,rfl,rfl,rfl,trivial⟩,⟨rfl,rfl,rfl,rfl,rfl,trivial⟩⟩
      ·rintro ⟨v57,c58,c59⟩ H
       replace H:z3p v2 v5 l8 r21 r25 r27 c44 l45 v57 c58 c59=some q10:=H
       unfold z3p at H
       refine z0k _ rfl (fun h60 => ?_) (fun h60 => ?_)
       ·replace H:=ift h60 H
        refine z0c ?_
        refine z0b hN rfl ?_
        refine z0h (z06 z5x rfl rfl rfl) rfl ?_
        refine z0a (z0j (.row _ _) rfl) ?_
        refine z0a (z0m y3g rfl) ?_
        refine z0h (z0l tyS9 rfl rfl) rfl ?_
        refine z0a (z0m y19 rfl) ?_
        refine z0h (z0l tyS9 rfl rfl) rfl ?_
        obtain ⟨r61,h62,H⟩:=bnd H
        refine z4y (rn [(0,2)]) [(0,_,_,some _)] [] (y79 v2 l8 c44 r25.1 r61 h62) ⟨rfl,trivial⟩ ⟨.inl (.inl rfl),.inl (.inl rfl),.inl (.inl rfl),.inl (.inl rfl),trivial⟩ ⟨⟨⟨rfl,rfl,rfl⟩,by simp [y6n]⟩,trivial⟩ rfl ?_
        refine qd rfl ?_
        refine z0a (z2y rfl rfl) ?_
        refine z0a (z2y rfl rfl) ?_
        refine qe rfl ?_
        refine qe rfl ?_
        refine z0c ?_
        refine z0b hN rfl ?_
        refine qd rfl ?_
        refine qd rfl ?_
        refine z0a (z5b x7z rfl) ?_
        refine z0a (z05 _ rfl rfl (.inr (.inl ⟨rfl,rfl⟩))) ?_
        obtain ⟨x63,h64,H⟩:=bnd H
        refine z0a (y1q x74 (fun _=>rfl) rfl rfl h64) ?_
        refine z0a (y20 y0n rfl) ?_
        refine z0a (z24 tyS3 rfl (z3e (z1n h64).2) rfl) ?_
        refine z0w ?_
        refine z0c ?_
        refine z0b hN rfl ?_
        refine z0a (z2g rfl rfl) ?_
        refine qe rfl ?_
        refine z0k _ rfl (fun h65 => ?_) (fun h65 => ?_)
        ·replace H:=ift h65 H
         refine z0b hN rfl ?_
         refine z0a (z0j (.ptr _ _) rfl) ?_
         refine z0a (z09 (u':=vlst (List.map z5a [2,2,3])) (z1w [[_],[_],[_]] y3v ⟨rfl,.inl ⟨_,rfl,rfl,rfl⟩,rfl,rfl,.inl ⟨_,rfl,rfl,rfl⟩,rfl,rfl,.inl ⟨_,rfl,rfl,rfl⟩,rfl,trivial⟩ rfl rfl) rfl) ?_
         obtain ⟨r66,h67,H⟩:=bnd H
         refine z0g (z1f (z1b (z0d.mk c58 c59) [2,2,3] r66 h67) rfl ⟨.inl rfl,trivial⟩ rfl) rfl ?_
         refine z0a (z0m z8k rfl) ?_
         refine z0g (z3b tyS3 rfl rfl rfl rfl) rfl ?_
         exact ⟨(r66.2.L,r66.2.at_,r66.1),H,⟨rfl,rfl,rfl,rfl,rfl,rfl,rfl,rfl,rfl,trivial⟩,⟨rfl,rfl,rfl,rfl,rfl,trivial⟩⟩
        ·replace H:=iff_ h65 H
         refine z0c ?_
         refine z0b hN rfl ?_
         refine z0a (z2g rfl rfl) ?_
         refine qe rfl ?_
         refine z0k _ rfl (fun h68 => ?_) (fun h68 => ?_)
         ·replace H:=ift h68 H
          refine z0b hN rfl ?_
          refine z0a (z0j (.ptr _ _) rfl) ?_
          refine z0a (z09 (u':=vlst (List.map z5a [4,6,1])) (z1w [[_],[_],[_]] y3v ⟨rfl,.inl ⟨_,rfl,rfl,rfl⟩,rfl,rfl,.inl ⟨_,rfl,rfl,rfl⟩,rfl,rfl,.inl ⟨_,rfl,rfl,rfl⟩,rfl,trivial⟩ rfl rfl) rfl) ?_
          obtain ⟨r69,h70,H⟩:=bnd H
          refine z0g (z1f (z1b (z0d.mk c58 c59) [4,6,1] r69 h70) rfl ⟨.inl rfl,trivial⟩ rfl) rfl ?_
          refine z0a (z0m z8k rfl) ?_
          refine z0g (z3b tyS3 rfl rfl rfl rfl) rfl ?_
          exact ⟨(r69.2.L,r69.2.at_,r69.1),H,⟨rfl,rfl,rfl,rfl,rfl,rfl,rfl,rfl,rfl,trivial⟩,⟨rfl,rfl,rfl,rfl,rfl,trivial⟩⟩
         ·replace H:=iff_ h68 H
          refine z0c ?_
          refine z0b hN rfl ?_
          refine z0a (z2g rfl rfl) ?_
          refine qe rfl ?_
          refine z0k _ rfl (fun h71 => ?_) (fun h71 => ?_)
          ·replace H:=ift h71 H
           refine z0b hN rfl ?_
           refine z0a (z0j (.ptr _ _) rfl) ?_
           refine z0a (z09 (u':=vlst (List.map z5a [5,6])) (z1w [[_],[_]] y3v ⟨rfl,.inl ⟨_,rfl,rfl,rfl⟩,rfl,rfl,.inl ⟨_,rfl,rfl,rfl⟩,rfl,trivial⟩ rfl rfl) rfl) ?_
           obtain ⟨r72,h73,H⟩:=bnd H
           refine z0g (z1f (z1b (z0d.mk c58 c59) [5,6] r72 h73) rfl ⟨.inl rfl,trivial⟩ rfl) rfl ?_
           refine z0a (z0m z8k rfl) ?_
           refine z0g (z3b tyS3 rfl rfl rfl rfl) rfl ?_
           exact ⟨(r72.2.L,r72.2.at_,r72.1),H,⟨rfl,rfl,rfl,rfl,rfl,rfl,rfl,rfl,rfl,trivial⟩,⟨rfl,rfl,rfl,rfl,rfl,trivial⟩⟩
          ·replace H:=iff_ h71 H
           refine z0b hN rfl ?_
           refine z0a (z0m z8k rfl) ?_
           refine z0g (z3b tyS3 rfl rfl rfl rfl) rfl ?_
           exact ⟨(c58,c59,1),H,⟨rfl,rfl,rfl,rfl,rfl,rfl,rfl,rfl,rfl,trivial⟩,⟨rfl,rfl,rfl,rfl,rfl,trivial⟩⟩
       ·replace H:=iff_ h60 H
        refine z0q ?_
        exact ⟨(c58,c59,r27.1),H,⟨rfl,rfl,rfl,rfl,rfl,rfl,rfl,rfl,rfl,trivial⟩,⟨rfl,rfl,rfl,rfl,rfl,trivial⟩⟩
     ·rintro ⟨c74,c75,c76⟩ H
      replace H:z2p v5 l8 r21 r25 c44 l45 c74 c75 c76=some q10:=H
      unfold z2p at H
      refine z07 (ι:=(List Int)×Int×Bs) (fun i=>[(0,.ptr 0 0),(2,.dat (vlst (List.map z1a v3))),(5,.ptr 1 0),(9,.row 2 l8.length),(10,.dat (vint (wr (v5+r21.1)))),(11,.ptr 4 0),(17,.dat (vint v4)),(18,.dat (vint (k9:Int)))]) (fun i=>[(0,.box (some bl) 25 [.dat (vlst (List.map z5a i.1)),.dat (vint i.2.1)]),(1,.box none 29 [.dat (vlst (List.map z0y v2.Products)),.dat (vlst (List.map z01 v2.Plans))]),(2,.row 123 5 (List.map z00 l8)),(4,.box none 123 [.dat (vint (wr (v5+r21.1))),.dat (vstr c44),.dat (vstr r25.1),.dat (vint c76),.dat (vstr i.2.2)])]) (fun i=>z4m v5 l8 r21 r25 c44 c76 i.1 i.2.1 i.2.2=some q10) (fun i=>rfl) ?_ ?_
      ·skip
       refine z0c ?_
       refine z0b hN rfl ?_
       refine z0a (z0m z8k rfl) ?_
       refine z0h (z0l tyS3 rfl rfl) rfl ?_
       refine z0a (z2g rfl rfl) ?_
       refine z0k _ rfl (fun h77 => ?_) (fun h77 => ?_)
       ·replace H:=ift h77 H
        refine z0c ?_
        refine z0c ?_
        refine z0b hN rfl ?_
        refine z0a (z0j (.row _ _) rfl) ?_
        refine z0h (y6r y4g rfl rfl) rfl ?_
        refine z0a (z2g rfl rfl) ?_
        refine z0k _ rfl (fun h78 => ?_) (fun h78 => ?_)
        ·replace H:=ift h78 H
         refine z1j ?_
         exact ⟨(wr (v5+r21.1),l8,c74,c75),H,⟨rfl,rfl,rfl,rfl,rfl,rfl,rfl,trivial⟩,⟨rfl,rfl,rfl,trivial⟩⟩
        ·replace H:=iff_ h78 H
         refine z0q ?_
         refine z0b hN rfl ?_
         refine z0a (z0j (.row _ _) rfl) ?_
         refine z0a (z0j (.ptr _ _) rfl) ?_
         refine z0a (z0j (.row _ _) rfl) ?_
         refine z0h (y6r y4g rfl rfl) rfl ?_
         obtain ⟨r79,h80,H⟩:=bnd H
         refine z0g (z1f (z3g (z0d.mk c74 c75) (l45.length:Int) r79 h80) rfl ⟨.inl rfl,trivial⟩ rfl) rfl ?_
         obtain ⟨x81,h82,H⟩:=bnd H
         refine z0h (y49 y74 rfl rfl rfl h82) rfl ?_
         refine z0h (x1d tyS9 rfl rfl (z1n h82).2 rfl) rfl ?_
         refine z0a (z0m y3f rfl) ?_
         refine z0g (z3b tyS9 rfl rfl rfl rfl) rfl ?_
         exact ⟨(r79.2.L,r79.2.at_,x81),H,⟨rfl,rfl,rfl,rfl,rfl,rfl,rfl,rfl,trivial⟩,⟨rfl,rfl,rfl,rfl,trivial⟩⟩
       ·replace H:=iff_ h77 H
        refine z0q ?_
        exact ⟨(c74,c75,[]),H,⟨rfl,rfl,rfl,rfl,rfl,rfl,rfl,rfl,trivial⟩,⟨rfl,rfl,rfl,rfl,trivial⟩⟩
      ·rintro ⟨c83,c84,c85⟩ H
       replace H:z4m v5 l8 r21 r25 c44 c76 c83 c84 c85=some q10:=H
       unfold z4m at H
       refine z07 (ι:=(List Int)×Int×Int×Bs×Bs×Int×Bs) (fun i=>[(0,.ptr 0 0),(2,.dat (vlst (List.map z1a v3))),(5,.ptr 1 0),(9,.row 2 l8.length),(10,.dat (vint (wr (v5+r21.1)))),(11,.ptr 4 0),(17,.dat (vint v4)),(18,.dat (vint (k9:Int)))]) (fun i=>[(0,.box (some bl) 25 [.dat (vlst (List.map z5a i.1)),.dat (vint i.2.1)]),(1,.box none 29 [.dat (vlst (List.map z0y v2.Products)),.dat (vlst (List.map z01 v2.Plans))]),(2,.row 123 5 (List.map z00 l8)),(4,.box none 123 [.dat (vint i.2.2.1),.dat (vstr i.2.2.2.1),.dat (vstr i.2.2.2.2.1),.dat (vint i.2.2.2.2.2.1),.dat (vstr i.2.2.2.2.2.2)])]) (fun i=>z2o v5 l8 r21 i.1 i.2.1 i.2.2.1 i.2.2.2.1 i.2.2.2.2.1 i.2.2.2.2.2.1 i.2.2.2.2.2.2=some q10) (fun i=>rfl) ?_ ?_
       ·skip
        refine z0c ?_
        refine z0b hN rfl ?_
        refine z0a (z0j (.ptr _ _) rfl) ?_
        obtain ⟨r86,h87,H⟩:=bnd H
        refine z0g (z1f (z1v (z0d.mk c83 c84) 60 r86 h87) rfl ⟨.inl rfl,trivial⟩ rfl) rfl ?_
        refine z0k _ rfl (fun h88 => ?_) (fun h88 => ?_)
        ·replace H:=ift h88 H
         refine z0c ?_
         refine z0b hN rfl ?_
         refine z0a (z0j (.ptr _ _) rfl) ?_
         obtain ⟨r89,h90,H⟩:=bnd H
         refine z0g (z1f (z3g r86.2 5 r89 h90) rfl ⟨.inl rfl,trivial⟩ rfl) rfl ?_
         refine z0w ?_
         refine z0c ?_
         refine z0b hN rfl ?_
         refine z0a (z2g rfl rfl) ?_
         refine qe rfl ?_
         refine z0k _ rfl (fun h91 => ?_) (fun h91 => ?_)
         ·replace H:=ift h91 H
          refine z0b hN rfl ?_
          refine z0a (z0j (.ptr _ _) rfl) ?_
          obtain ⟨r92,h93,H⟩:=bnd H
          refine z0g (z1f (y4i r89.2 r92 h93) rfl trivial rfl) rfl ?_
          refine z0a (z0m y3g rfl) ?_
          refine z0g (z3b tyS9 rfl rfl rfl rfl) rfl ?_
          exact ⟨(r92.2.L,r92.2.at_,(wr (v5+r21.1)),r92.1,r25.1,c76,c85),H,⟨rfl,rfl,rfl,rfl,rfl,rfl,rfl,rfl,trivial⟩,⟨rfl,rfl,rfl,rfl,trivial⟩⟩
         ·replace H:=iff_ h91 H
          refine z0c ?_
          refine z0b hN rfl ?_
          refine z0a (z2g rfl rfl) ?_
          refine qe rfl ?_
          refine z0k _ rfl (fun h94 => ?_) (fun h94 => ?_)
          ·replace H:=ift h94 H
           refine z0b hN rfl ?_
           refine z0a (z0j (.ptr _ _) rfl) ?_
           obtain ⟨r95,h96,H⟩:=bnd H
           refine z0g (z1f (y23 r89.2 r95 h96) rfl trivial rfl) rfl ?_
           refine z0a (z0m y19 rfl) ?_
           refine z0g (z3b tyS9 rfl rfl rfl rfl) rfl ?_
           exact ⟨(r95.2.L,r95.2.at_,(wr (v5+r21.1)),c44,r95.1,c76,c85),H,⟨rfl,rfl,rfl,rfl,rfl,rfl,rfl,rfl,trivial⟩,⟨rfl,rfl,rfl,rfl,trivial⟩⟩
          ·replace H:=iff_ h94 H
           refine z0c ?_
           refine z0b hN rfl ?_
           refine z0a (z2g rfl rfl) ?_
           refine qe rfl ?_
           refine z0k _ rfl (fun h97 => ?_) (fun h97 => ?_)
           ·replace H:=ift h97 H
            refine z0b hN rfl ?_
            refine z0a (z0j (.ptr _ _) rfl) ?_
            obtain ⟨r98,h99,H⟩:=bnd H
            refine z0g (z1f (z3o r89.2 1 6 r98 h99) rfl ⟨.inl rfl,.inl rfl,trivial⟩ rfl) rfl ?_
            refine z0a (z0m z8k rfl) ?_
            refine z0g (z3b tyS3 rfl rfl rfl rfl) rfl ?_
            exact ⟨(r98.2.L,r98.2.at_,(wr (v5+r21.1)),c44,r25.1,r98.1,c85),H,⟨rfl,rfl,rfl,rfl,rfl,rfl,rfl,rfl,trivial⟩,⟨rfl,rfl,rfl,rfl,trivial⟩⟩
           ·replace H:=iff_ h97 H
            refine z0c ?_
            refine z0b hN rfl ?_
            refine z0a (z2g rfl rfl) ?_
            refine qe rfl ?_
            refine z0k _ rfl (fun h100 => ?_) (fun h100 => ?_)
            ·replace H:=ift h100 H
             refine z0b hN rfl ?_
             refine z0a (z0j (.ptr _ _) rfl) ?_
             refine z0a (z09 (u':=vlst (List.map z1k [[98,105,103],[110,111,110,101],[]])) (z1w [[_],[_],[_]] z83 ⟨rfl,.inl ⟨_,rfl,rfl,rfl⟩,rfl,rfl,.inl ⟨_,rfl,rfl,rfl⟩,rfl,rfl,.inl ⟨_,rfl,rfl,rfl⟩,rfl,trivial⟩ rfl rfl) rfl) ?_
             obtain ⟨r101,h102,H⟩:=bnd H
             refine z0g (z1f (z1r r89.2 ([[98,105,103],[110,111,110,101],[]]) r101 h102) rfl ⟨.inl rfl,trivial⟩ rfl) rfl ?_
             refine z0a (z0m y3f rfl) ?_
             refine z0g (z3b tyS9 rfl rfl rfl rfl) rfl ?_
             exact ⟨(r101.2.L,r101.2.at_,(wr (v5+r21.1)),c44,r25.1,c76,r101.1),H,⟨rfl,rfl,rfl,rfl,rfl,rfl,rfl,rfl,trivial⟩,⟨rfl,rfl,rfl,rfl,trivial⟩⟩
            ·replace H:=iff_ h100 H
             refine z0b hN rfl ?_
             refine z0a (z0j (.ptr _ _) rfl) ?_
             obtain ⟨r103,h104,H⟩:=bnd H
             refine z0g (z1f (z3o r89.2 0 1000 r103 h104) rfl ⟨.inl rfl,.inl rfl,trivial⟩ rfl) rfl ?_
             refine z0a (z0m y0b rfl) ?_
             refine z0g (z3b tyS3 rfl rfl rfl rfl) rfl ?_
             exact ⟨(r103.2.L,r103.2.at_,r103.1,c44,r25.1,c76,c85),H,⟨rfl,rfl,rfl,rfl,rfl,rfl,rfl,rfl,trivial⟩,⟨rfl,rfl,rfl,rfl,trivial⟩⟩
        ·replace H:=iff_ h88 H
         refine z0q ?_
         exact ⟨(r86.2.L,r86.2.at_,(wr (v5+r21.1)),c44,r25.1,c76,c85),H,⟨rfl,rfl,rfl,rfl,rfl,rfl,rfl,rfl,trivial⟩,⟨rfl,rfl,rfl,rfl,trivial⟩⟩
       ·rintro ⟨c105,c106,c107,c108,c109,c110,c111⟩ H
        replace H:z2o v5 l8 r21 c105 c106 c107 c108 c109 c110 c111=some q10:=H
        unfold z2o at H
        refine z0b hN rfl ?_
        refine z0a (z0j (.row _ _) rfl) ?_
        refine z0h (z06 z9s rfl rfl rfl) rfl ?_
        refine z0a (z09 (u':=vlst (List.map z00 [(z0f.mk c107 c108 c109 c110 c111)])) (z1w [_] w73 ⟨rfl,.inr rfl,rfl,trivial⟩ rfl rfl) rfl) ?_
        obtain ⟨h112,H⟩:=gif H
        refine z0g (y7t w73 (fun _=>rfl) rfl rfl rfl ⟨by simp,by first | (simp; done) | simpa using h112⟩ rfl) rfl ?_
        refine z0a (z1o (.row _ _) rfl) ?_
        exact ⟨(wr (v5+r21.1),(l8++[(z0f.mk c107 c108 c109 c110 c111)]),c105,c106),H,⟨rfl,rfl,rfl,rfl,rfl,rfl,rfl,trivial⟩,⟨rfl,rfl,rfl,trivial⟩⟩
    ·rintro k46 x49 l45 q47 h113 h114 H hq47
     replace H:z89 r25 k46 x49 l45=some q47:=H
     unfold z89 at H
     refine z0c ?_
     refine z0b hN rfl ?_
     refine z0a (z03 rfl rfl) ?_
     refine z0c ?_
     refine z0k _ rfl (fun h => ?_) (fun h=>(lt_f h113 h).elim)
     refine z0q ?_
     refine z07 (ι:=(List Bs)) (fun i=>[(0,.ptr 0 0),(2,.dat (vlst (List.map z1a v3))),(5,.ptr 1 0),(9,.row 2 l8.length),(10,.dat (vint (wr (v5+r21.1)))),(11,.ptr 4 0),(12,.row 5 i.length),(17,.dat (vint v4)),(18,.dat (vint (k9:Int))),(55,.dat (vlst (List.map z01 v2.Plans))),(56,.dat (vint (v2.Plans.length:Int))),(57,.dat (vint (k46:Int)))]) (fun i=>[(0,.box (some bl) 25 [.dat (vlst (List.map z5a c42)),.dat (vint c43)]),(1,.box none 29 [.dat (vlst (List.map z0y v2.Products)),.dat (vlst (List.map z01 v2.Plans))]),(2,.row 123 5 (List.map z00 l8)),(4,.box none 123 [.dat (vint (wr (v5+r21.1))),.dat (vstr c44),.dat (vstr r25.1),.dat (vint r27.1),.dat (vstr [])]),(5,.row 9 1 (List.map z1k i))]) (fun i=>z42 i=some q47) (fun i=>rfl) ?_ ?_
     ·skip
      refine z0w ?_
      refine z0c ?_
      refine z0b hN rfl ?_
      refine z0a (y2a x0b (fun _=>rfl) rfl rfl h114) ?_
      refine z0a (z2l y47 rfl (z3e h114) rfl) ?_
      refine z0g (z1m 6 y80 rfl) rfl ?_
      refine z0g (z08 y47 rfl rfl rfl rfl) rfl ?_
      refine z0c ?_
      refine z0b hN rfl ?_
      refine z0a (z0m x0a rfl) ?_
      refine z0h (z0l tyS9 rfl rfl) rfl ?_
      refine z0a (z0m y19 rfl) ?_
      refine z0h (z0l tyS9 rfl rfl) rfl ?_
      refine z0a (y5y rfl rfl) ?_
      refine z0k _ rfl (fun h115 => ?_) (fun h115 => ?_)
      ·replace H:=ift h115 H
       refine z0b hN rfl ?_
       refine z0a (z0j (.row _ _) rfl) ?_
       refine z0a (z0m y4l rfl) ?_
       refine z0h (z0l tyS9 rfl rfl) rfl ?_
       refine z0a (z09 (u':=vlst (List.map z1k [x49.Key])) (z1w [[_]] z83 ⟨rfl,.inl ⟨_,rfl,rfl,rfl⟩,rfl,trivial⟩ rfl rfl) rfl) ?_
       obtain ⟨h116,H⟩:=gif H
       refine z0g (y7t z83 (fun _=>rfl) rfl rfl rfl ⟨by simp,by first | (simp; done) | simpa using h116⟩ rfl) rfl ?_
       refine z0a (z1o (.row _ _) rfl) ?_
       exact ⟨(l45++[x49.Key]),H,⟨rfl,rfl,rfl,rfl,rfl,rfl,rfl,rfl,rfl,rfl,rfl,rfl,trivial⟩,⟨rfl,rfl,rfl,rfl,rfl,trivial⟩⟩
      ·replace H:=iff_ h115 H
       refine z0q ?_
       exact ⟨l45,H,⟨rfl,rfl,rfl,rfl,rfl,rfl,rfl,rfl,rfl,rfl,rfl,rfl,trivial⟩,⟨rfl,rfl,rfl,rfl,rfl,trivial⟩⟩
     ·rintro v117 H
      replace H:z42 v117=some q47:=H
      unfold z42 at H
      refine z0b hN rfl ?_
      refine z0a (z3h rfl rfl (by omega)) ?_
      refine qd rfl ?_
      exact ⟨_,z5d H,⟨rfl,rfl,rfl,rfl,rfl,rfl,rfl,rfl,rfl,rfl,rfl,rfl,trivial⟩,⟨rfl,rfl,rfl,rfl,rfl,trivial⟩⟩
  ·rintro ⟨v118,v119,c120,c121⟩ H
   replace H:z3r v118 v119 c120 c121=some q10:=H
   unfold z3r at H
   refine z0b hN rfl ?_
   refine z0a (z3h rfl rfl (by omega)) ?_
   refine qd rfl ?_
   exact ⟨_,z5d H,⟨rfl,rfl,rfl,rfl,rfl,rfl,rfl,trivial⟩,⟨rfl,rfl,rfl,trivial⟩⟩
theorem y8v (l1:(List z0s)) (r:(Int)) (H:z99 l1=some r):Fn Tryz.prog 87 [vlst (List.map z1a l1)] (z1x [vint r]):=by
 refine ⟨by kernel_rfl,z1s (us:=[vint r]) Tryz.func87 rfl rfl rfl rfl fun X hN => ?_⟩
 unfold z99 at H
 refine z0c ?_
 refine z0b hN rfl ?_
 refine qe rfl ?_
 refine z0c ?_
 refine z0c ?_
 refine z0b hN rfl ?_
 refine qd rfl ?_
 refine z0a (z5b x3t rfl) ?_
 refine z0a (z4c rfl rfl) ?_
 refine z0k _ rfl (fun h2 => ?_) (fun h2 => ?_)
 ·replace H:=ift h2 H
  refine z0c ?_
  refine z0b hN rfl ?_
  refine qe rfl ?_
  refine z0t ?_
  cases H
  exact ⟨trivial,.inl rfl,trivial⟩
 ·replace H:=iff_ h2 H
  refine z0q ?_
  refine z0c ?_
  refine z0b hN rfl ?_
  refine qe rfl ?_
  refine z0c ?_
  refine z0c ?_
  refine z0b hN rfl ?_
  refine qd rfl ?_
  refine z0a (z5b x3t rfl) ?_
  refine qd rfl ?_
  refine z0w ?_
  obtain ⟨h6,H⟩:=gif H
  refine z32 (fun (k4:Nat) (s:Bs)=>[(3,.dat (vstr s)),(9,.dat (vlst (List.map z1a l1))),(10,.dat (vint (l1.length:Int))),(11,.dat (vint (k4:Int)))]) (fun (k4:Nat) (s:Bs)=>[]) [] H ⟨rfl,rfl,rfl,rfl,trivial⟩ trivial (fun _ _=>rfl) ?_ ?_
  ·rintro last3 H
   replace H:y1f last3=some r:=H
   unfold y1f at H
   refine z0c ?_
   refine z0b hN rfl ?_
   refine z0a (z03 rfl rfl) ?_
   refine z0c ?_
   refine z0k _ rfl (fun h=>(lt_t h).elim) (fun h => ?_)
   refine z1j ?_
   refine z0c ?_
   refine z0b hN rfl ?_
   refine qe rfl ?_
   refine z0t ?_
   cases H
   exact ⟨trivial,.inl rfl,trivial⟩
  ·rintro k4 x7 last3 q5 h8 h9 H hq5
   replace H:y1e k4 x7 last3=some q5:=H
   unfold y1e at H
   refine z0c ?_
   refine z0b hN rfl ?_
   refine z0a (z03 rfl rfl) ?_
   refine z0c ?_
   refine z0k _ rfl (fun h => ?_) (fun h=>(lt_f h8 h).elim)
   refine z0q ?_
   refine z0c ?_
   refine z0w ?_
   refine z0c ?_
   refine z0b hN rfl ?_
   refine z0a (y2a x30 (fun _=>rfl) rfl rfl h9) ?_
   refine z0a (z2l y9l rfl (z3e h9) rfl) ?_
   refine z0g (z1m 1 x1n rfl) rfl ?_
   refine z0g (z08 y9l rfl rfl rfl rfl) rfl ?_
   refine z0c ?_
   refine z0w ?_
   refine z07 (ι:=Bool) (fun i=>[(3,.dat (vstr last3)),(5,.ptr 1 0),(9,.dat (vlst (List.map z1a l1))),(10,.dat (vint (l1.length:Int))),(11,.dat (vint (k4:Int))),(15,.dat (z1p i))]) (fun i=>[(1,.box none 102 [.dat (vstr x7.Key),.dat (vstr x7.Owner)])]) (fun i=>z7m last3 x7 i=some q5) (fun i=>rfl) ?_ ?_
   ·skip
    refine z0b hN rfl ?_
    refine z0a (z0m y5e rfl) ?_
    refine z0h (z0l tyS9 rfl rfl) rfl ?_
    obtain ⟨r10,h11,H⟩:=bnd H
    refine z0a (z0z (y30 x7.Key r10 h11) ⟨.inl rfl,trivial⟩) ?_
    refine z0a (z3s rfl) ?_
    refine qd rfl ?_
    refine z15 (j:=4) rfl rfl (fun h12 => ?_) (fun h12 => ?_) rfl
    ·have h13:=un3 h12
     replace H:=iff_ h13 H
     refine z04 rfl rfl h12 (z0m x73 rfl) ?_
     refine z5r rfl rfl h12 (z0l tyS9 rfl rfl) rfl ?_
     obtain ⟨r14,h15,H⟩:=bnd H
     refine z04 rfl rfl h12 (z0z (y30 x7.Owner r14 h15) ⟨.inl rfl,trivial⟩) ?_
     refine z04 rfl rfl h12 (z3s rfl) ?_
     refine z0a (z1l rfl (bFF h13) rfl) ?_
     refine qe rfl ?_
     exact ⟨!r14,H,⟨rfl,rfl,rfl,rfl,rfl,rfl,trivial⟩,⟨rfl,trivial⟩⟩
    ·have h16:=un4 h12
     replace H:=ift h16 H
     refine z0n rfl rfl h12 ?_
     refine z0n rfl rfl h12 ?_
     refine z0n rfl rfl h12 ?_
     refine z0n rfl rfl h12 ?_
     refine z0a (z1t rfl (bTT h16) rfl) ?_
     refine qe rfl ?_
     exact ⟨true,H,⟨rfl,rfl,rfl,rfl,rfl,rfl,trivial⟩,⟨rfl,trivial⟩⟩
   ·rintro v17 H
    replace H:z7m last3 x7 v17=some q5:=H
    unfold z7m at H
    refine z0k _ rfl (fun h18 => ?_) (fun h18 => ?_)
    ·replace H:=ift h18 H
     refine z0c ?_
     refine z0b hN rfl ?_
     refine qe rfl ?_
     refine z0t ?_
     replace H:=retl H hq5
     cases H
     exact ⟨trivial,.inl rfl,trivial⟩
    ·replace H:=iff_ h18 H
     refine z0c ?_
     refine z0b hN rfl ?_
     refine z0a (z0m y5e rfl) ?_
     refine z0h (z0l tyS9 rfl rfl) rfl ?_
     refine qd rfl ?_
     refine z0a (y8k rfl rfl) ?_
     refine qe rfl ?_
     refine z0k _ rfl (fun h19 => ?_) (fun h19 => ?_)
     ·replace H:=ift h19 H
      refine z0c ?_
      refine z0b hN rfl ?_
      refine qe rfl ?_
      refine z0t ?_
      replace H:=retl H hq5
      cases H
      exact ⟨trivial,.inl rfl,trivial⟩
     ·replace H:=iff_ h19 H
      refine z0q ?_
      refine z0b hN rfl ?_
      refine z0a (z0m y5e rfl) ?_
      refine z0h (z0l tyS9 rfl rfl) rfl ?_
      refine qe rfl ?_
      refine z0b hN rfl ?_
      refine z0a (z3h rfl rfl (by omega)) ?_
      refine qd rfl ?_
      exact ⟨_,z5d H,⟨rfl,rfl,rfl,rfl,trivial⟩,trivial⟩
theorem y8e (c1:z0i) (apps2:(List z0s)) (r:(Int)) (H:y1w c1 apps2=some r):Fn Tryz.prog 46 [vagg (z1h c1),vlst (List.map z1a apps2)] (z1x [vint r]):=by
 refine ⟨by kernel_rfl,z1s (us:=[vint r]) Tryz.func46 rfl rfl rfl rfl fun X hN => ?_⟩
 unfold y1w at H
 refine z0c ?_
 refine z0b hN rfl ?_
 refine z0g (z16 1 rfl) rfl ?_
 refine qe rfl ?_
 refine z0c ?_
 refine z0c ?_
 refine z0b hN rfl ?_
 refine z0h (z06 z5x rfl rfl rfl) rfl ?_
 obtain ⟨r3,h4,H⟩:=bnd H
 refine z0a (z0z (y4v c1 r3 h4) ⟨.inl rfl,trivial⟩) ?_
 refine qe rfl ?_
 refine z0c ?_
 refine z0b hN rfl ?_
 refine qd rfl ?_
 refine z0a (z6y rfl rfl) ?_
 refine z0k _ rfl (fun h5 => ?_) (fun h5 => ?_)
 ·replace H:=ift h5 H
  refine z0c ?_
  refine z0b hN rfl ?_
  refine qd rfl ?_
  refine qe rfl ?_
  refine z0t ?_
  cases H
  exact ⟨trivial,.inl rfl,trivial⟩
 ·replace H:=iff_ h5 H
  refine z0q ?_
  refine z0c ?_
  refine z0b hN rfl ?_
  refine qd rfl ?_
  obtain ⟨r6,h7,H⟩:=bnd H
  refine z0a (z0z (y8v apps2 r6 h7) ⟨.inl rfl,trivial⟩) ?_
  refine qe rfl ?_
  refine z0t ?_
  cases H
  exact ⟨trivial,.inl rfl,trivial⟩
theorem y7f (v1:Int) (r:(Bool)) (H:y1z v1=some r):Fn Tryz.prog 58 [vint v1] (z1x [z1p r]):=by
 refine ⟨by kernel_rfl,z1s (us:=[z1p r]) Tryz.func58 rfl rfl rfl rfl fun X hN => ?_⟩
 unfold y1z at H
 refine z0c ?_
 refine z0b hN rfl ?_
 refine qe rfl ?_
 refine z0c ?_
 refine z0b hN rfl ?_
 refine qd rfl ?_
 obtain ⟨r2,h3,H⟩:=bnd H
 refine z0a (z0z (z67 v1 0 345686399999 r2 h3) ⟨.inl rfl,.inl rfl,.inl rfl,trivial⟩) ?_
 refine qe rfl ?_
 refine z0t ?_
 cases H
 exact ⟨trivial,.inl rfl,trivial⟩
theorem y3s (s1:(List z0s)) (p1:z0s→Option (Bool)) (fv1:Nat) (us1:List V) (hp1:∀ a0 r,p1 a0=some r→Fn Tryz.prog fv1 ([vagg (z1a a0)]++us1) (z1x [z1p r])) (r:(Int)) (H:z4t s1 p1=some r):Fn Tryz.prog 54 [vlst (List.map z1a s1),vfn fv1 us1] (z1x [vint r]):=by
 refine ⟨by kernel_rfl,z1s (us:=[vint r]) Tryz.func54 rfl rfl rfl rfl fun X hN => ?_⟩
 unfold z4t at H
 refine z0c ?_
 refine z0b hN rfl ?_
 refine qe rfl ?_
 refine z0c ?_
 refine z0c ?_
 refine z0b hN rfl ?_
 refine qd rfl ?_
 refine z0a (z5b x3t rfl) ?_
 refine qd rfl ?_
 refine z0w ?_
 obtain ⟨h4,H⟩:=gif H
 refine z32 (fun (k2:Nat) (s:Unit)=>[(0,.dat (vlst (List.map z1a s1))),(1,.dat (vfn fv1 us1)),(7,.dat (vint (s1.length:Int))),(8,.dat (vint (k2:Int)))]) (fun (k2:Nat) (s:Unit)=>[]) () H ⟨rfl,rfl,rfl,rfl,trivial⟩ trivial (fun _ _=>rfl) ?_ ?_
 ·rintro ⟨⟩ H
  replace H:z6p=some r:=H
  unfold z6p at H
  refine z0c ?_
  refine z0b hN rfl ?_
  refine z0a (z03 rfl rfl) ?_
  refine z0c ?_
  refine z0k _ rfl (fun h=>(lt_t h).elim) (fun h => ?_)
  refine z1j ?_
  refine z0c ?_
  refine z0b hN rfl ?_
  refine qe rfl ?_
  refine z0t ?_
  cases H
  exact ⟨trivial,.inl rfl,trivial⟩
 ·rintro k2 x5 ⟨⟩ q3 h6 h7 H hq3
  replace H:z6o p1 k2 x5=some q3:=H
  unfold z6o at H
  refine z0c ?_
  refine z0b hN rfl ?_
  refine z0a (z03 rfl rfl) ?_
  refine z0c ?_
  refine z0k _ rfl (fun h => ?_) (fun h=>(lt_f h6 h).elim)
  refine z0q ?_
  refine z0c ?_
  refine z0w ?_
  refine z0c ?_
  refine z0b hN rfl ?_
  refine qd rfl ?_
  refine qe rfl ?_
  refine z0c ?_
  refine z0b hN rfl ?_
  refine qd rfl ?_
  refine qd rfl ?_
  refine qd rfl ?_
  refine z0a (y2a x30 (fun _=>rfl) rfl rfl h7) ?_
  refine z0a (z2l y9l rfl (z3e h7) rfl) ?_
  obtain ⟨r8,h9,H⟩:=bnd H
  refine z0a (z9f (hp1 x5 r8 h9) rfl ⟨.inl rfl,trivial⟩) ?_
  refine z0k _ rfl (fun h10 => ?_) (fun h10 => ?_)
  ·replace H:=ift h10 H
   refine z0c ?_
   refine z0b hN rfl ?_
   refine qd rfl ?_
   refine qe rfl ?_
   refine z0t ?_
   replace H:=retl H hq3
   cases H
   exact ⟨trivial,.inl rfl,trivial⟩
  ·replace H:=iff_ h10 H
   refine z0q ?_
   refine z0b hN rfl ?_
   refine z0a (z3h rfl rfl (by omega)) ?_
   refine qd rfl ?_
   exact ⟨_,z5d H,⟨rfl,rfl,rfl,rfl,trivial⟩,trivial⟩
theorem y91 (a1:z0s) (c2:Bs) (r:(Bool)) (H:z9w a1 c2=some r):Fn Tryz.prog 55 [vagg (z1a a1),y38 [[vstr c2]] 0 0] (z1x [z1p r]):=by
 refine ⟨by kernel_rfl,z1s (us:=[z1p r]) Tryz.func55 rfl rfl rfl rfl fun X hN => ?_⟩
 unfold z9w at H
 refine z0c ?_
 refine z0b hN rfl ?_
 refine z0g (z16 1 rfl) rfl ?_
 refine qe rfl ?_
 refine z0c ?_
 refine z0b hN rfl ?_
 refine z0a (z0m y5e rfl) ?_
 refine z0h (z0l tyS9 rfl rfl) rfl ?_
 refine z0a (z24 tyS9 rfl rfl rfl) ?_
 refine z0a (y5y rfl rfl) ?_
 refine qe rfl ?_
 refine z0t ?_
 cases H
 exact ⟨trivial,.inl rfl,trivial⟩
theorem y5q (l1:(List z0s)) (key2:Bs) (r:(Int)) (H:z92 l1 key2=some r):Fn Tryz.prog 16 [vlst (List.map z1a l1),vstr key2] (z1x [vint r]):=by
 refine ⟨by kernel_rfl,z1s (us:=[vint r]) Tryz.func16 rfl rfl rfl rfl fun X hN => ?_⟩
 unfold z92 at H
 refine z0c ?_
 refine z0b hN rfl ?_
 refine z0g (y9n 1 rfl rfl) rfl ?_
 refine qe rfl ?_
 refine z0c ?_
 refine y98 1 [vstr key2] rfl rfl ?_
 refine z0b hN rfl ?_
 refine qd rfl ?_
 refine z0a (x1f (us:=[_]) ⟨rfl,trivial⟩) ?_
 obtain ⟨r3,h4,H⟩:=bnd H
 refine z0a (z0z (y3s l1 (fun (a0:z0s)=>z9w a0 key2) 55 [y38 [[vstr key2]] 0 0] (fun a0 r h=>y91 a0 key2 r h) r3 h4) ⟨.inl rfl,.inl rfl,trivial⟩) ?_
 refine qe rfl ?_
 refine z0t ?_
 cases H
 exact ⟨trivial,.inl rfl,trivial⟩
end Go.Proofs.YthmmalklamiefaaGreatDoor
