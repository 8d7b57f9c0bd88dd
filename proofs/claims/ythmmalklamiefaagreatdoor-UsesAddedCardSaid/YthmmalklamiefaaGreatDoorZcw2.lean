/- Walks along the models. Printed by a program. -/
import Derived.Test.YthmmalklamiefaaGreatDoorZcw1
namespace Go.Proofs.YthmmalklamiefaaGreatDoor
open Go.RowKit
set_option linter.unusedVariables false
set_option maxRecDepth 20000
set_option maxHeartbeats 2000000
theorem z8p (data1:(List z0f)) (a2:Int) (b3:Int) (p3:z0f→z0f→Option (Int)) (fv3:Nat) (us3:List V) (hp3:∀ a0 a1 r,p3 a0 a1=some r→Fn Tryz.prog fv3 ([vagg (z00 a0),vagg (z00 a1)]++us3) (z1x [vint r])) (r:((List z0f))) (H:z4a data1 a2 b3 p3=some r):FnG Tryz.prog 122 [.row 0 data1.length,.dat (vint a2),.dat (vint b3),.dat (vfn fv3 us3)] [(0,.rowA undef 123 5 (List.map z00 data1))] (.dat (z1x [])) [(0,.rowA undef 123 5 (List.map z00 r))]:=by
 refine y5v (by kernel_rfl) Tryz.func122 rfl rfl rfl rfl fun X A hN => ?_
 unfold z4a at H
 refine z0c ?_
 refine z0b hN rfl ?_
 refine qd rfl ?_
 refine z0a (z05 _ rfl rfl (.inl ⟨rfl,rfl⟩)) ?_
 refine qe rfl ?_
 refine z0w ?_
 refine z9e (fun (s:Int×(List z0f))=>[(0,.row 0 s.2.length),(1,.dat (vint a2)),(2,.dat (vint b3)),(3,.dat (vfn fv3 us3)),(8,.dat (vint s.1))]) (fun (s:Int×(List z0f))=>[(0,.rowA (A.vl 0) 123 5 (List.map z00 s.2))]) (wr (a2+1),data1) H ⟨rfl,rfl,rfl,rfl,rfl,trivial⟩ ⟨rfl,trivial⟩ (fun _=>rfl) ?_
 rintro ⟨i4,l5⟩ q6 H hq6
 replace H:z5w a2 b3 p3 i4 l5=some q6:=H
 unfold z5w at H
 refine z0c ?_
 refine z0c ?_
 refine z0b hN rfl ?_
 refine qd rfl ?_
 refine qd rfl ?_
 refine z0a (z03 rfl rfl) ?_
 refine z0k _ rfl (fun h7 => ?_) (fun h7 => ?_)
 ·replace H:=ift h7 H
  refine z0q ?_
  refine z07 (ι:=(List z0f)) (fun i=>[(0,.row 0 i.length),(1,.dat (vint a2)),(2,.dat (vint b3)),(3,.dat (vfn fv3 us3)),(8,.dat (vint i4))]) (fun i=>[(0,.rowA (A.vl 0) 123 5 (List.map z00 i))]) (fun i=>z35 i4 i=some q6) (fun i=>rfl) ?_ ?_
  ·skip
   refine z0w ?_
   refine z0c ?_
   refine z0b hN rfl ?_
   refine qd rfl ?_
   refine qe rfl ?_
   refine z0w ?_
   refine z9e (fun (s:Int×(List z0f))=>[(0,.row 0 s.2.length),(1,.dat (vint a2)),(2,.dat (vint b3)),(3,.dat (vfn fv3 us3)),(8,.dat (vint i4)),(9,.dat (vint s.1))]) (fun (s:Int×(List z0f))=>[(0,.rowA (A.vl 0) 123 5 (List.map z00 s.2))]) (i4,l5) H ⟨rfl,rfl,rfl,rfl,rfl,rfl,trivial⟩ ⟨rfl,trivial⟩ (fun _=>rfl) ?_
   rintro ⟨j8,l9⟩ q10 H hq10
   replace H:z5v a2 p3 i4 j8 l9=some q10:=H
   unfold z5v at H
   refine z0c ?_
   refine z07 (ι:=Bool) (fun i=>[(0,.row 0 l9.length),(1,.dat (vint a2)),(2,.dat (vint b3)),(3,.dat (vfn fv3 us3)),(8,.dat (vint i4)),(9,.dat (vint j8)),(34,.dat (z1p i))]) (fun i=>[(0,.rowA (A.vl 0) 123 5 (List.map z00 l9))]) (fun i=>z27 i4 j8 l9 i=some q10) (fun i=>rfl) ?_ ?_
   ·skip
    refine z2n mixed hN rfl rfl ?_
    refine qd rfl ?_
    refine qd rfl ?_
    refine z0a (z4c rfl rfl) ?_
    refine qd rfl ?_
    refine z15 (j:=3) rfl rfl (fun h11 => ?_) (fun h11 => ?_) rfl
    ·have h12:=un1 h11
     replace H:=ift h12 H
     refine z04 rfl rfl h11 (z0j (.dat _) rfl) ?_
     refine z04 rfl rfl h11 (z0j (.row _ _) rfl) ?_
     refine z04 rfl rfl h11 (z0j (.dat _) rfl) ?_
     obtain ⟨x13,h14,H⟩:=bnd H
     refine z5r rfl rfl h11 (z7q y6m rfl rfl rfl h14) rfl ?_
     refine z5r rfl rfl h11 (z86 z9s rfl rfl (z1n h14).2 rfl) rfl ?_
     refine z04 rfl rfl h11 (z0j (.row _ _) rfl) ?_
     refine z04 rfl rfl h11 (z0j (.dat _) rfl) ?_
     refine z04 rfl rfl h11 (z05 _ rfl rfl (.inr (.inl ⟨rfl,rfl⟩))) ?_
     obtain ⟨x15,h16,H⟩:=bnd H
     refine z5r rfl rfl h11 (z7q y6m rfl rfl rfl h16) rfl ?_
     refine z5r rfl rfl h11 (z86 z9s rfl rfl (z1n h16).2 rfl) rfl ?_
     obtain ⟨r17,h18,H⟩:=bnd H
     refine z04 rfl rfl h11 (z9f (hp3 x13 x15 r17 h18) rfl ⟨.inl rfl,.inl rfl,trivial⟩) ?_
     refine z04 rfl rfl h11 (z03 rfl rfl) ?_
     refine z0a (z1t rfl (bTT h12) rfl) ?_
     refine ⟨rfl,?_⟩
     exact ⟨decide (r17 < 0),H,⟨rfl,rfl,rfl,rfl,rfl,rfl,rfl,trivial⟩,⟨rfl,trivial⟩⟩
    ·have h19:=un2 h11
     replace H:=iff_ h19 H
     refine z0n rfl rfl h11 ?_
     refine z0n rfl rfl h11 ?_
     refine z0n rfl rfl h11 ?_
     refine z0n rfl rfl h11 ?_
     refine z0n rfl rfl h11 ?_
     refine z0n rfl rfl h11 ?_
     refine z0n rfl rfl h11 ?_
     refine z0n rfl rfl h11 ?_
     refine z0n rfl rfl h11 ?_
     refine z0n rfl rfl h11 ?_
     refine z0n rfl rfl h11 ?_
     refine z0n rfl rfl h11 ?_
     refine z0a (z1l rfl (bFF h19) rfl) ?_
     refine ⟨rfl,?_⟩
     exact ⟨false,H,⟨rfl,rfl,rfl,rfl,rfl,rfl,rfl,trivial⟩,⟨rfl,trivial⟩⟩
   ·rintro v20 H
    replace H:z27 i4 j8 l9 v20=some q10:=H
    unfold z27 at H
    refine z0k _ rfl (fun h21 => ?_) (fun h21 => ?_)
    ·replace H:=ift h21 H
     refine z0q ?_
     refine z0c ?_
     refine z0w ?_
     refine z2n mixed hN rfl rfl ?_
     refine z0a (z0j (.row _ _) rfl) ?_
     refine qd rfl ?_
     refine z0a (z0j (.row _ _) rfl) ?_
     refine qd rfl ?_
     refine z0a (z05 _ rfl rfl (.inr (.inl ⟨rfl,rfl⟩))) ?_
     refine z0a (z0j (.row _ _) rfl) ?_
     refine qd rfl ?_
     refine z0a (z05 _ rfl rfl (.inr (.inl ⟨rfl,rfl⟩))) ?_
     obtain ⟨x22,h23,H⟩:=bnd H
     refine z0h (z7q y6m rfl rfl rfl h23) rfl ?_
     refine z0h (z86 z9s rfl rfl (z1n h23).2 rfl) rfl ?_
     refine z0a (z0j (.row _ _) rfl) ?_
     refine qd rfl ?_
     obtain ⟨x24,h25,H⟩:=bnd H
     refine z0h (z7q y6m rfl rfl rfl h25) rfl ?_
     refine z0h (z86 z9s rfl rfl (z1n h25).2 rfl) rfl ?_
     refine z0h (z7q y6m rfl rfl rfl h25) rfl ?_
     refine z0g (y3w (C:=z00) z9s rfl rfl rfl (x2o (z1n h25).2) rfl rfl) rfl ?_
     obtain ⟨x26,h27,H⟩:=bnd H
     refine z0h (z7q y6m rfl (by simp) rfl h27) rfl ?_
     refine z0g (y3w (C:=z00) z9s rfl rfl (by simp) (x2o (z1n h27).2) rfl rfl) rfl ?_
     refine ⟨rfl,?_⟩
     refine z0b hN rfl ?_
     refine qd rfl ?_
     refine z0a (z05 _ rfl rfl (.inr (.inl ⟨rfl,rfl⟩))) ?_
     refine qe rfl ?_
     exact ⟨_,z5d H,⟨congrArg (Slot.row 0) (by simp),rfl,rfl,rfl,rfl,rfl,trivial⟩,⟨rfl,trivial⟩⟩
    ·replace H:=iff_ h21 H
     refine z1j ?_
     replace H:=outl H hq10
     exact ⟨l9,H,⟨rfl,rfl,rfl,rfl,rfl,trivial⟩,⟨rfl,trivial⟩⟩
  ·rintro data28 H
   replace H:z35 i4 data28=some q6:=H
   unfold z35 at H
   refine z0b hN rfl ?_
   refine qd rfl ?_
   refine z0a (z05 _ rfl rfl (.inl ⟨rfl,rfl⟩)) ?_
   refine qe rfl ?_
   exact ⟨_,z5d H,⟨rfl,rfl,rfl,rfl,rfl,trivial⟩,⟨rfl,trivial⟩⟩
 ·replace H:=iff_ h7 H
  refine z1j ?_
  replace H:=retl H hq6
  have eH:l5=r:=Option.some.inj H
  subst eH
  exact ⟨trivial,[],trivial,⟨rfl,trivial⟩,rfl,.inl ⟨[],trivial,rfl⟩⟩
theorem y4j (data1:(List z0f)) (n2:Int) (p2:z0f→z0f→Option (Int)) (fv2:Nat) (us2:List V) (hp2:∀ a0 a1 r,p2 a0 a1=some r→Fn Tryz.prog fv2 ([vagg (z00 a0),vagg (z00 a1)]++us2) (z1x [vint r])) (r:((List z0f))) (H:z5z data1 n2 p2=some r):FnG Tryz.prog 107 [.row 0 data1.length,.dat (vint n2),.dat (vfn fv2 us2)] [(0,.rowA undef 123 5 (List.map z00 data1))] (.dat (z1x [])) [(0,.rowA undef 123 5 (List.map z00 r))]:=by
 refine y5v (by kernel_rfl) Tryz.func107 rfl rfl rfl rfl fun X A hN => ?_
 unfold z5z at H
 refine z0c ?_
 refine z0b hN rfl ?_
 refine qe rfl ?_
 refine z0c ?_
 refine z0b hN rfl ?_
 refine qd rfl ?_
 refine qe rfl ?_
 refine qe rfl ?_
 refine z07 (ι:=Int×(List z0f)) (fun i=>[(0,.row 0 i.2.length),(1,.dat (vint n2)),(2,.dat (vfn fv2 us2)),(6,.dat (vint 20)),(7,.dat (vint i.1))]) (fun i=>[(0,.rowA (A.vl 0) 123 5 (List.map z00 i.2))]) (fun i=>z5m n2 p2 i.1 i.2=some r) (fun i=>rfl) ?_ ?_
 ·skip
  refine z0w ?_
  refine z9e (fun (s:Int×Int×(List z0f))=>[(0,.row 0 s.2.2.length),(1,.dat (vint n2)),(2,.dat (vfn fv2 us2)),(6,.dat (vint 20)),(7,.dat (vint s.1)),(8,.dat (vint s.2.1))]) (fun (s:Int×Int×(List z0f))=>[(0,.rowA (A.vl 0) 123 5 (List.map z00 s.2.2))]) (0,20,data1) H ⟨rfl,rfl,rfl,rfl,rfl,rfl,trivial⟩ ⟨rfl,trivial⟩ (fun _=>rfl) ?_
  rintro ⟨a3,b4,l5⟩ q6 H hq6
  replace H:z7t n2 p2 a3 b4 l5=some q6:=H
  unfold z7t at H
  refine z0c ?_
  refine z0c ?_
  refine z0b hN rfl ?_
  refine qd rfl ?_
  refine qd rfl ?_
  refine z0a (y4p rfl rfl) ?_
  refine z0k _ rfl (fun h7 => ?_) (fun h7 => ?_)
  ·replace H:=ift h7 H
   refine z0q ?_
   refine z0w ?_
   refine z0c ?_
   refine z0b hN rfl ?_
   refine z0a (z0j (.row _ _) rfl) ?_
   refine qd rfl ?_
   refine qd rfl ?_
   refine qd rfl ?_
   obtain ⟨r8,h9,H⟩:=bnd H
   obtain ⟨h10,H⟩:=gif H
   refine z4y (rn [(0,0)]) [(0,_,_,some _)] [] (z8p l5 a3 b4 p2 fv2 us2 hp2 r8 h9) ⟨rfl,trivial⟩ ⟨.inl (.inl rfl),.inl (.inl rfl),.inl (.inl rfl),.inl (.inl rfl),trivial⟩ ⟨⟨⟨rfl,rfl,rfl⟩,by simp [y6n,h10]⟩,trivial⟩ rfl ?_
   refine z0c ?_
   refine z0b hN rfl ?_
   refine qd rfl ?_
   refine qe rfl ?_
   refine z0b hN rfl ?_
   refine qd rfl ?_
   refine qd rfl ?_
   refine z0a (z05 _ rfl rfl (.inl ⟨rfl,rfl⟩)) ?_
   refine qe rfl ?_
   exact ⟨_,z5d H,⟨congrArg (Slot.row 0) ((h10).symm).symm,rfl,rfl,rfl,rfl,rfl,trivial⟩,⟨rfl,trivial⟩⟩
  ·replace H:=iff_ h7 H
   refine z1j ?_
   replace H:=outl H hq6
   exact ⟨(a3,l5),H,⟨rfl,rfl,rfl,rfl,rfl,trivial⟩,⟨rfl,trivial⟩⟩
 ·rintro ⟨a11,data12⟩ H
  replace H:z5m n2 p2 a11 data12=some r:=H
  unfold z5m at H
  refine z0c ?_
  refine z0b hN rfl ?_
  refine z0a (z0j (.row _ _) rfl) ?_
  refine qd rfl ?_
  refine qd rfl ?_
  refine qd rfl ?_
  obtain ⟨r13,h14,H⟩:=bnd H
  obtain ⟨h15,H⟩:=gif H
  refine z4y (rn [(0,0)]) [(0,_,_,some _)] [] (z8p data12 a11 n2 p2 fv2 us2 hp2 r13 h14) ⟨rfl,trivial⟩ ⟨.inl (.inl rfl),.inl (.inl rfl),.inl (.inl rfl),.inl (.inl rfl),trivial⟩ ⟨⟨⟨rfl,rfl,rfl⟩,by simp [y6n,h15]⟩,trivial⟩ rfl ?_
  refine z0w ?_
  refine z9e (fun (s:Int)=>[(0,.row 0 data12.length),(1,.dat (vint n2)),(2,.dat (vfn fv2 us2)),(6,.dat (vint s))]) (fun (s:Int)=>[(0,.rowA (A.vl 0) 123 5 (List.map z00 r13))]) 20 H ⟨rfl,rfl,rfl,rfl,trivial⟩ ⟨rfl,trivial⟩ (fun _=>rfl) ?_
  rintro blockSize16 q17 H hq17
  replace H:z7s n2 r13 blockSize16=some q17:=H
  unfold z7s at H
  refine z0c ?_
  refine z0c ?_
  refine z0b hN rfl ?_
  refine qd rfl ?_
  refine qd rfl ?_
  refine z0a (z03 rfl rfl) ?_
  refine z0k _ rfl (fun h18 => ?_) (fun h18 => ?_)
  ·replace H:=ift h18 H
   refine z0q ?_
   refine z0w ?_
   refine z0c ?_
   refine z0b hN rfl ?_
   refine qd rfl ?_
   refine z0a (z05 _ rfl rfl (.inr (.inr ⟨rfl,rfl⟩))) ?_
   refine qe rfl ?_
   refine qe rfl ?_
   refine z07 (ι:=Int) (fun i=>[(0,.row 0 data12.length),(1,.dat (vint n2)),(2,.dat (vfn fv2 us2)),(6,.dat (vint blockSize16)),(7,.dat (vint i))]) (fun i=>[(0,.rowA (A.vl 0) 123 5 (List.map z00 r13))]) (fun i=>z5l n2 blockSize16 i=some q17) (fun i=>rfl) ?_ ?_
   ·skip
    refine z0w ?_
    refine z9e (fun (s:Int×Int)=>[(0,.row 0 data12.length),(1,.dat (vint n2)),(2,.dat (vfn fv2 us2)),(6,.dat (vint blockSize16)),(7,.dat (vint s.1)),(8,.dat (vint s.2))]) (fun (s:Int×Int)=>[(0,.rowA (A.vl 0) 123 5 (List.map z00 r13))]) (0,wr (2 * blockSize16)) H ⟨rfl,rfl,rfl,rfl,rfl,rfl,trivial⟩ ⟨rfl,trivial⟩ (fun _=>rfl) ?_
    rintro ⟨a19,b20⟩ q21 H hq21
    replace H:z7r n2 blockSize16 a19 b20=some q21:=H
    unfold z7r at H
    refine z0c ?_
    refine z0c ?_
    refine z0b hN rfl ?_
    refine qd rfl ?_
    refine qd rfl ?_
    refine z0a (y4p rfl rfl) ?_
    refine z0k _ rfl (fun h22 => ?_) (fun h22 => ?_)
    ·replace H:=ift h22 H
     cases H
    ·replace H:=iff_ h22 H
     refine z1j ?_
     replace H:=outl H hq21
     exact ⟨a19,H,⟨rfl,rfl,rfl,rfl,rfl,trivial⟩,⟨rfl,trivial⟩⟩
   ·rintro a23 H
    replace H:z5l n2 blockSize16 a23=some q17:=H
    unfold z5l at H
    refine z07 (ι:=Unit) (fun i=>[(0,.row 0 data12.length),(1,.dat (vint n2)),(2,.dat (vfn fv2 us2)),(6,.dat (vint blockSize16))]) (fun i=>[(0,.rowA (A.vl 0) 123 5 (List.map z00 r13))]) (fun i=>z5k blockSize16=some q17) (fun i=>rfl) ?_ ?_
    ·skip
     refine z0c ?_
     refine z0b hN rfl ?_
     refine qd rfl ?_
     refine qd rfl ?_
     refine z0a (z05 _ rfl rfl (.inl ⟨rfl,rfl⟩)) ?_
     refine qe rfl ?_
     refine z0c ?_
     refine z0b hN rfl ?_
     refine qd rfl ?_
     refine qd rfl ?_
     refine z0a (z03 rfl rfl) ?_
     refine z0k _ rfl (fun h24 => ?_) (fun h24 => ?_)
     ·replace H:=ift h24 H
      cases H
     ·replace H:=iff_ h24 H
      refine z0q ?_
      exact ⟨(),H,⟨rfl,rfl,rfl,rfl,trivial⟩,⟨rfl,trivial⟩⟩
    ·rintro ⟨⟩ H
     replace H:z5k blockSize16=some q17:=H
     unfold z5k at H
     refine z0b hN rfl ?_
     refine qd rfl ?_
     refine z0a (z05 _ rfl rfl (.inr (.inr ⟨rfl,rfl⟩))) ?_
     refine qe rfl ?_
     exact ⟨_,z5d H,⟨rfl,rfl,rfl,rfl,trivial⟩,⟨rfl,trivial⟩⟩
  ·replace H:=iff_ h18 H
   refine z1j ?_
   replace H:=retl H hq17
   have eH:r13=r:=Option.some.inj H
   subst eH
   exact ⟨trivial,[],trivial,⟨rfl,trivial⟩,rfl,.inl ⟨[],trivial,rfl⟩⟩
theorem y1h (x1:(List z0f)) (p1:z0f→z0f→Option (Int)) (fv1:Nat) (us1:List V) (hp1:∀ a0 a1 r,p1 a0 a1=some r→Fn Tryz.prog fv1 ([vagg (z00 a0),vagg (z00 a1)]++us1) (z1x [vint r])) (r:((List z0f))) (H:z12 x1 p1=some r):FnG Tryz.prog 70 [.row 0 x1.length,.dat (vfn fv1 us1)] [(0,.rowA undef 123 5 (List.map z00 x1))] (.dat (z1x [])) [(0,.rowA undef 123 5 (List.map z00 r))]:=by
 refine y5v (by kernel_rfl) Tryz.func70 rfl rfl rfl rfl fun X A hN => ?_
 unfold z12 at H
 refine z0b hN rfl ?_
 refine z0a (z0j (.row _ _) rfl) ?_
 refine z0a (z0j (.row _ _) rfl) ?_
 refine z0h (w0w x01 rfl rfl) rfl ?_
 refine qd rfl ?_
 obtain ⟨r2,h3,H⟩:=bnd H
 obtain ⟨h4,H⟩:=gif H
 refine z4y (rn [(0,0)]) [(0,_,_,some _)] [] (y4j x1 (x1.length:Int) p1 fv1 us1 hp1 r2 h3) ⟨rfl,trivial⟩ ⟨.inl (.inl rfl),.inl (.inl rfl),.inl (.inl rfl),trivial⟩ ⟨⟨⟨rfl,rfl,rfl⟩,by simp [y6n,h4]⟩,trivial⟩ rfl ?_
 have eH:r2=r:=Option.some.inj H
 subst eH
 exact ⟨trivial,[],trivial,⟨rfl,trivial⟩,rfl,.inl ⟨[],trivial,rfl⟩⟩
theorem y8c (n1:Int) (r:(Int)) (H:y1u n1=some r):Fn Tryz.prog 88 [vint n1] (z1x [vint r]):=by
 refine ⟨by kernel_rfl,z1s (us:=[vint r]) Tryz.func88 rfl rfl rfl rfl fun X hN => ?_⟩
 unfold y1u at H
 refine z0c ?_
 refine z0b hN rfl ?_
 refine qe rfl ?_
 refine z0c ?_
 refine z0w ?_
 refine z0c ?_
 refine z0b hN rfl ?_
 refine qd rfl ?_
 refine z0a (z03 rfl rfl) ?_
 refine qe rfl ?_
 refine z0k _ rfl (fun h2 => ?_) (fun h2 => ?_)
 ·replace H:=ift h2 H
  refine z0c ?_
  refine z0b hN rfl ?_
  refine qe rfl ?_
  refine z0t ?_
  cases H
  exact ⟨trivial,.inl rfl,trivial⟩
 ·replace H:=iff_ h2 H
  refine z0c ?_
  refine z0b hN rfl ?_
  refine qd rfl ?_
  refine z0a (z4c rfl rfl) ?_
  refine qe rfl ?_
  refine z0k _ rfl (fun h3 => ?_) (fun h3 => ?_)
  ·replace H:=ift h3 H
   refine z0c ?_
   refine z0b hN rfl ?_
   refine qe rfl ?_
   refine z0t ?_
   cases H
   exact ⟨trivial,.inl rfl,trivial⟩
  ·replace H:=iff_ h3 H
   refine z0q ?_
   refine z0c ?_
   refine z0b hN rfl ?_
   refine qe rfl ?_
   refine z0t ?_
   cases H
   exact ⟨trivial,.inl rfl,trivial⟩
theorem y6j (x1:Bs) (r:(Bool)) (H:y0z x1=some r):Fn Tryz.prog 128 [vstr x1] (z1x [z1p r]):=by
 refine ⟨by kernel_rfl,z1s (us:=[z1p r]) Tryz.func128 rfl rfl rfl rfl fun X hN => ?_⟩
 unfold y0z at H
 refine z0c ?_
 refine z0b hN rfl ?_
 refine qe rfl ?_
 refine z0c ?_
 refine z0b hN rfl ?_
 refine qd rfl ?_
 refine qd rfl ?_
 refine z0a (y4o rfl rfl) ?_
 refine qe rfl ?_
 refine z0t ?_
 cases H
 exact ⟨trivial,.inl rfl,trivial⟩
theorem y8f (x1:Bs) (y2:Bs) (r:(Int)) (H:z9j x1 y2=some r):Fn Tryz.prog 116 [vstr x1,vstr y2] (z1x [vint r]):=by
 refine ⟨by kernel_rfl,z1s (us:=[vint r]) Tryz.func116 rfl rfl rfl rfl fun X hN => ?_⟩
 unfold z9j at H
 refine z0c ?_
 refine z0b hN rfl ?_
 refine qe rfl ?_
 refine z0c ?_
 refine z0b hN rfl ?_
 refine qd rfl ?_
 obtain ⟨r3,h4,H⟩:=bnd H
 refine z0a (z0z (y6j x1 r3 h4) ⟨.inl rfl,trivial⟩) ?_
 refine qe rfl ?_
 refine z0c ?_
 refine z0b hN rfl ?_
 refine qd rfl ?_
 obtain ⟨r5,h6,H⟩:=bnd H
 refine z0a (z0z (y6j y2 r5 h6) ⟨.inl rfl,trivial⟩) ?_
 refine qe rfl ?_
 refine z0c ?_
 refine z0c ?_
 refine z0b hN rfl ?_
 refine qd rfl ?_
 refine z0k _ rfl (fun h7 => ?_) (fun h7 => ?_)
 ·replace H:=ift h7 H
  refine z0c ?_
  refine z0c ?_
  refine z0b hN rfl ?_
  refine qd rfl ?_
  refine z0k _ rfl (fun h8 => ?_) (fun h8 => ?_)
  ·replace H:=ift h8 H
   refine z0c ?_
   refine z0b hN rfl ?_
   refine qe rfl ?_
   refine z0t ?_
   cases H
   exact ⟨trivial,.inl rfl,trivial⟩
  ·replace H:=iff_ h8 H
   refine z0q ?_
   refine z0c ?_
   refine z0b hN rfl ?_
   refine qe rfl ?_
   refine z0t ?_
   cases H
   exact ⟨trivial,.inl rfl,trivial⟩
 ·replace H:=iff_ h7 H
  refine z0q ?_
  refine z0c ?_
  refine z0c ?_
  refine z0b hN rfl ?_
  refine qd rfl ?_
  refine z0k _ rfl (fun h9 => ?_) (fun h9 => ?_)
  ·replace H:=ift h9 H
   refine z0c ?_
   refine z0b hN rfl ?_
   refine qe rfl ?_
   refine z0t ?_
   cases H
   exact ⟨trivial,.inl rfl,trivial⟩
  ·replace H:=iff_ h9 H
   refine z0q ?_
   refine z0c ?_
   refine z0c ?_
   refine z0b hN rfl ?_
   refine qd rfl ?_
   refine qd rfl ?_
   refine z0a (w3u rfl rfl) ?_
   refine z0k _ rfl (fun h10 => ?_) (fun h10 => ?_)
   ·replace H:=ift h10 H
    refine z0c ?_
    refine z0b hN rfl ?_
    refine qe rfl ?_
    refine z0t ?_
    cases H
    exact ⟨trivial,.inl rfl,trivial⟩
   ·replace H:=iff_ h10 H
    refine z0q ?_
    refine z0c ?_
    refine z0c ?_
    refine z0b hN rfl ?_
    refine qd rfl ?_
    refine qd rfl ?_
    refine z0a (w3v rfl rfl) ?_
    refine z0k _ rfl (fun h11 => ?_) (fun h11 => ?_)
    ·replace H:=ift h11 H
     refine z0c ?_
     refine z0b hN rfl ?_
     refine qe rfl ?_
     refine z0t ?_
     cases H
     exact ⟨trivial,.inl rfl,trivial⟩
    ·replace H:=iff_ h11 H
     refine z0q ?_
     refine z0c ?_
     refine z0b hN rfl ?_
     refine qe rfl ?_
     refine z0t ?_
     cases H
     exact ⟨trivial,.inl rfl,trivial⟩
theorem y1b (s1:(List Bs)) (s2:(List Bs)) (r:(Int)) (H:z2z s1 s2=some r):Fn Tryz.prog 89 [vlst (List.map z1k s1),vlst (List.map z1k s2)] (z1x [vint r]):=by
 refine ⟨by kernel_rfl,z1s (us:=[vint r]) Tryz.func89 rfl rfl rfl rfl fun X hN => ?_⟩
 unfold z2z at H
 refine z0c ?_
 refine z0b hN rfl ?_
 refine qe rfl ?_
 refine z0c ?_
 refine z0c ?_
 refine z0b hN rfl ?_
 refine qd rfl ?_
 refine z0a (z5b y4g rfl) ?_
 refine qd rfl ?_
 refine z0w ?_
 obtain ⟨h5,H⟩:=gif H
 refine z32 (fun (k3:Nat) (s:Unit)=>[(0,.dat (vlst (List.map z1k s1))),(1,.dat (vlst (List.map z1k s2))),(9,.dat (vlst (List.map z1k s1))),(10,.dat (vint (s1.length:Int))),(11,.dat (vint (k3:Int)))]) (fun (k3:Nat) (s:Unit)=>[]) () H ⟨rfl,rfl,rfl,rfl,rfl,trivial⟩ trivial (fun _ _=>rfl) ?_ ?_
 ·rintro ⟨⟩ H
  replace H:z5o s1 s2=some r:=H
  unfold z5o at H
  refine z0c ?_
  refine z0b hN rfl ?_
  refine z0a (z03 rfl rfl) ?_
  refine z0c ?_
  refine z0k _ rfl (fun h=>(lt_t h).elim) (fun h => ?_)
  refine z1j ?_
  refine z0c ?_
  refine z0c ?_
  refine z0b hN rfl ?_
  refine qd rfl ?_
  refine z0a (z5b y4g rfl) ?_
  refine qd rfl ?_
  refine z0a (z5b y4g rfl) ?_
  refine z0a (z03 rfl rfl) ?_
  refine z0k _ rfl (fun h7 => ?_) (fun h7 => ?_)
  ·replace H:=ift h7 H
   refine z0c ?_
   refine z0b hN rfl ?_
   refine qe rfl ?_
   refine z0t ?_
   cases H
   exact ⟨trivial,.inl rfl,trivial⟩
  ·replace H:=iff_ h7 H
   refine z0q ?_
   refine z0c ?_
   refine z0b hN rfl ?_
   refine qe rfl ?_
   refine z0t ?_
   cases H
   exact ⟨trivial,.inl rfl,trivial⟩
 ·rintro k3 x6 ⟨⟩ q4 h8 h9 H hq4
  replace H:z5n s2 k3 x6=some q4:=H
  unfold z5n at H
  refine z0c ?_
  refine z0b hN rfl ?_
  refine z0a (z03 rfl rfl) ?_
  refine z0c ?_
  refine z0k _ rfl (fun h => ?_) (fun h=>(lt_f h8 h).elim)
  refine z0q ?_
  refine z0c ?_
  refine z0w ?_
  refine z0c ?_
  refine z0b hN rfl ?_
  refine qd rfl ?_
  refine z0a (y2a y74 (fun _=>rfl) rfl rfl h9) ?_
  refine z0a (z24 tyS9 rfl (z3e h9) rfl) ?_
  refine qe rfl ?_
  refine qe rfl ?_
  refine z0c ?_
  refine z0c ?_
  refine z0b hN rfl ?_
  refine qd rfl ?_
  refine qd rfl ?_
  refine z0a (z5b y4g rfl) ?_
  refine z0a (y5a rfl rfl) ?_
  refine z0k _ rfl (fun h10 => ?_) (fun h10 => ?_)
  ·replace H:=ift h10 H
   refine z0c ?_
   refine z0b hN rfl ?_
   refine qe rfl ?_
   refine z0t ?_
   replace H:=retl H hq4
   cases H
   exact ⟨trivial,.inl rfl,trivial⟩
  ·replace H:=iff_ h10 H
   refine z0q ?_
   refine z0c ?_
   refine z0b hN rfl ?_
   refine qd rfl ?_
   refine qd rfl ?_
   obtain ⟨x11,h12,H⟩:=bnd H
   refine z0a (y2a y74 (fun _=>rfl) rfl rfl h12) ?_
   refine z0a (z24 tyS9 rfl (z3e h12) rfl) ?_
   refine qe rfl ?_
   refine z0c ?_
   refine z0b hN rfl ?_
   refine qd rfl ?_
   refine qd rfl ?_
   obtain ⟨r13,h14,H⟩:=bnd H
   refine z0a (z0z (y8f x6 x11 r13 h14) ⟨.inl rfl,.inl rfl,trivial⟩) ?_
   refine qe rfl ?_
   refine z0c ?_
   refine z0b hN rfl ?_
   refine qd rfl ?_
   refine z0a (z6y rfl rfl) ?_
   refine z0k _ rfl (fun h15 => ?_) (fun h15 => ?_)
   ·replace H:=ift h15 H
    refine z0c ?_
    refine z0b hN rfl ?_
    refine qd rfl ?_
    refine qe rfl ?_
    refine z0t ?_
    replace H:=retl H hq4
    cases H
    exact ⟨trivial,.inl rfl,trivial⟩
   ·replace H:=iff_ h15 H
    refine z0q ?_
    refine z0b hN rfl ?_
    refine z0a (z3h rfl rfl (by omega)) ?_
    refine qd rfl ?_
    exact ⟨_,z5d H,⟨rfl,rfl,rfl,rfl,rfl,trivial⟩,trivial⟩
theorem y3d (a1:z0f) (b2:z0f) (r:(Int)) (H:z3n a1 b2=some r):Fn Tryz.prog 71 [vagg (z00 a1),vagg (z00 b2)] (z1x [vint r]):=by
 refine ⟨by kernel_rfl,z1s (us:=[vint r]) Tryz.func71 rfl rfl rfl rfl fun X hN => ?_⟩
 unfold z3n at H
 refine z0c ?_
 refine z0b hN rfl ?_
 refine z0g (z16 1 rfl) rfl ?_
 refine z0g (z16 2 rfl) rfl ?_
 refine qe rfl ?_
 refine z0c ?_
 refine z0c ?_
 refine z0b hN rfl ?_
 refine z0a (z0m y0b rfl) ?_
 refine z0h (z0l tyS3 rfl rfl) rfl ?_
 refine z0a (z0m y0b rfl) ?_
 refine z0h (z0l tyS3 rfl rfl) rfl ?_
 refine z0a (z6y rfl rfl) ?_
 refine z0k _ rfl (fun h3 => ?_) (fun h3 => ?_)
 ·replace H:=ift h3 H
  refine z0c ?_
  refine z0b hN rfl ?_
  refine z0a (z0m y0b rfl) ?_
  refine z0h (z0l tyS3 rfl rfl) rfl ?_
  refine z0a (z0m y0b rfl) ?_
  refine z0h (z0l tyS3 rfl rfl) rfl ?_
  refine z0a (z05 _ rfl rfl (.inr (.inl ⟨rfl,rfl⟩))) ?_
  obtain ⟨r4,h5,H⟩:=bnd H
  refine z0a (z0z (y8c (wr (a1.At - b2.At)) r4 h5) ⟨.inl rfl,trivial⟩) ?_
  refine qe rfl ?_
  refine z0t ?_
  cases H
  exact ⟨trivial,.inl rfl,trivial⟩
 ·replace H:=iff_ h3 H
  refine z0q ?_
  refine z0c ?_
  refine z0b hN rfl ?_
  refine z0a (z0m y3g rfl) ?_
  refine z0h (z0l tyS9 rfl rfl) rfl ?_
  refine z0a (z0m y19 rfl) ?_
  refine z0h (z0l tyS9 rfl rfl) rfl ?_
  refine z0a (z09 (u':=vlst (List.map z1k [a1.App,a1.Product])) (z1w [[_],[_]] z83 ⟨rfl,.inl ⟨_,rfl,rfl,rfl⟩,rfl,rfl,.inl ⟨_,rfl,rfl,rfl⟩,rfl,trivial⟩ rfl rfl) rfl) ?_
  refine z0a (z0m y3g rfl) ?_
  refine z0h (z0l tyS9 rfl rfl) rfl ?_
  refine z0a (z0m y19 rfl) ?_
  refine z0h (z0l tyS9 rfl rfl) rfl ?_
  refine z0a (z09 (u':=vlst (List.map z1k [b2.App,b2.Product])) (z1w [[_],[_]] z83 ⟨rfl,.inl ⟨_,rfl,rfl,rfl⟩,rfl,rfl,.inl ⟨_,rfl,rfl,rfl⟩,rfl,trivial⟩ rfl rfl) rfl) ?_
  obtain ⟨r6,h7,H⟩:=bnd H
  refine z0a (z0z (y1b [a1.App,a1.Product] [b2.App,b2.Product] r6 h7) ⟨.inl rfl,.inl rfl,trivial⟩) ?_
  refine qe rfl ?_
  refine z0t ?_
  cases H
  exact ⟨trivial,.inl rfl,trivial⟩
theorem y17 (v1:(List z0f)) (p1:z0f→z0f→Option (Bool)) (fv1:Nat) (us1:List V) (hp1:∀ a0 a1 r,p1 a0 a1=some r→Fn Tryz.prog fv1 ([vagg (z00 a0),vagg (z00 a1)]++us1) (z1x [z1p r])) (r:((List z0f))) (H:z47 v1 p1=some r):FnG Tryz.prog 72 [.row 0 v1.length,.dat (vfn fv1 us1)] [(0,.row 123 5 (List.map z00 v1))] (.row 900 r.length) [(900,.row 123 5 (List.map z00 r))]:=by
 refine y5v (by kernel_rfl) Tryz.func72 rfl rfl rfl rfl fun X A hN => ?_
 unfold z47 at H
 refine z0c ?_
 refine z0b hN rfl ?_
 refine qe rfl ?_
 refine z0c ?_
 refine z0c ?_
 refine z0b hN rfl ?_
 refine z0a (z0j (.row _ _) rfl) ?_
 refine z0h (y6r x01 rfl rfl) rfl ?_
 refine z0a (z03 rfl rfl) ?_
 refine z0k _ rfl (fun h2 => ?_) (fun h2 => ?_)
 ·replace H:=ift h2 H
  refine z0c ?_
  refine z0b hN rfl ?_
  refine z0a (z0j (.row _ _) rfl) ?_
  refine z0a (z1o (.row _ _) rfl) ?_
  refine x7w 4 0 900 rfl rfl (by rw [List.length_map]) rfl ?_
  refine z0t ?_
  cases H
  exact ⟨trivial,[(4,.row 900 _)],⟨rfl,trivial⟩,⟨rfl,trivial⟩,rfl,.inr (.inl ⟨4,rfl,rfl⟩)⟩
 ·replace H:=iff_ h2 H
  refine z0q ?_
  refine z07 (ι:=Unit) (fun i=>[(0,.row 0 v1.length)]) (fun i=>[(0,.row 123 5 (List.map z00 v1))]) (fun i=>z3j v1=some r) (fun i=>rfl) ?_ ?_
  ·skip
   refine z0c ?_
   refine z0b hN rfl ?_
   refine qe rfl ?_
   refine z0w ?_
   refine z9e (fun (s:Int)=>[(0,.row 0 v1.length),(1,.dat (vfn fv1 us1)),(5,.dat (vint s))]) (fun (s:Int)=>[(0,.row 123 5 (List.map z00 v1))]) 1 H ⟨rfl,rfl,rfl,trivial⟩ ⟨rfl,trivial⟩ (fun _=>rfl) ?_
   rintro v3 q4 H hq4
   replace H:z4x v1 p1 v3=some q4:=H
   unfold z4x at H
   refine z0c ?_
   refine z0c ?_
   refine z0b hN rfl ?_
   refine qd rfl ?_
   refine z0a (z0j (.row _ _) rfl) ?_
   refine z0h (y6r x01 rfl rfl) rfl ?_
   refine z0a (z03 rfl rfl) ?_
   refine z0k _ rfl (fun h5 => ?_) (fun h5 => ?_)
   ·replace H:=ift h5 H
    refine z0q ?_
    refine z0c ?_
    refine z0w ?_
    refine z0c ?_
    refine z2n mixed hN rfl rfl ?_
    refine qd rfl ?_
    refine z0a (z0j (.row _ _) rfl) ?_
    refine qd rfl ?_
    obtain ⟨x6,h7,H⟩:=bnd H
    refine z0h (y49 y6m rfl rfl rfl h7) rfl ?_
    refine z0h (y4n z9s rfl rfl (z1n h7).2 rfl) rfl ?_
    refine z0a (z0j (.row _ _) rfl) ?_
    refine qd rfl ?_
    refine z0a (z05 _ rfl rfl (.inr (.inl ⟨rfl,rfl⟩))) ?_
    obtain ⟨x8,h9,H⟩:=bnd H
    refine z0h (y49 y6m rfl rfl rfl h9) rfl ?_
    refine z0h (y4n z9s rfl rfl (z1n h9).2 rfl) rfl ?_
    obtain ⟨r10,h11,H⟩:=bnd H
    refine z0a (z9f (hp1 x6 x8 r10 h11) rfl ⟨.inl rfl,.inl rfl,trivial⟩) ?_
    refine ⟨rfl,?_⟩
    refine z0k _ rfl (fun h12 => ?_) (fun h12 => ?_)
    ·replace H:=ift h12 H
     refine z0c ?_
     refine z0b hN rfl ?_
     refine z0a (z0j (.row _ _) rfl) ?_
     refine qd rfl ?_
     obtain ⟨h13,H⟩:=gif H
     refine z0h (w5j (C:=z00) y6m rfl rfl rfl h13) rfl ?_
     refine z0a (z1o (.rsub _ _ _ _) rfl) ?_
     refine z07 (ι:=Int×(List z0f)) (fun i=>[(0,.row 0 i.2.length),(5,.dat (vint i.1))]) (fun i=>[(0,.row 123 5 (List.map z00 i.2))]) (fun i=>z3i i.1 i.2=some q4) (fun i=>rfl) ?_ ?_
     ·skip
      refine z0c ?_
      refine z0b hN rfl ?_
      refine qe rfl ?_
      refine z0w ?_
      refine z9e (fun (s:Int×Int×(List z0f))=>[(0,.row 0 s.2.2.length),(1,.dat (vfn fv1 us1)),(5,.dat (vint s.1)),(6,.rsub 0 s.2.2.length 5 v3.toNat),(7,.dat (vint s.2.1))]) (fun (s:Int×Int×(List z0f))=>[(0,.row 123 5 (List.map z00 s.2.2))]) (v3,1,v1) H ⟨rfl,rfl,rfl,rfl,rfl,trivial⟩ ⟨rfl,trivial⟩ (fun _=>rfl) ?_
      rintro ⟨v14,v15,l16⟩ q17 H hq17
      replace H:z4w p1 v3 v14 v15 l16=some q17:=H
      unfold z4w at H
      refine z0c ?_
      refine z0c ?_
      refine z0b hN rfl ?_
      refine qd rfl ?_
      refine z0a (z0j (.rsub _ _ _ _) rfl) ?_
      refine z0h (w6d x01 rfl rfl) rfl ?_
      refine z0a (z03 rfl rfl) ?_
      refine z0k _ rfl (fun h18 => ?_) (fun h18 => ?_)
      ·replace H:=ift h18 H
       refine z0q ?_
       refine z07 (ι:=Int×(List z0f)) (fun i=>[(0,.row 0 i.2.length),(1,.dat (vfn fv1 us1)),(5,.dat (vint i.1)),(6,.rsub 0 i.2.length 5 v3.toNat),(7,.dat (vint v15))]) (fun i=>[(0,.row 123 5 (List.map z00 i.2))]) (fun i=>z2w v15 i.1 i.2=some q17) (fun i=>rfl) ?_ ?_
       ·skip
        refine z0w ?_
        refine z0c ?_
        refine z2n mixed hN rfl rfl ?_
        refine qd rfl ?_
        refine z0a (z0j (.rsub _ _ _ _) rfl) ?_
        refine qd rfl ?_
        obtain ⟨x19,h20,H⟩:=bnd H
        refine z0h (x31 y6m rfl rfl rfl h20) rfl ?_
        refine z0h (y4n z9s rfl rfl (x8w (z1n h20).2) rfl) rfl ?_
        refine z0a (z0j (.rsub _ _ _ _) rfl) ?_
        refine qd rfl ?_
        refine z0a (z05 _ rfl rfl (.inr (.inl ⟨rfl,rfl⟩))) ?_
        obtain ⟨x21,h22,H⟩:=bnd H
        refine z0h (x31 y6m rfl rfl rfl h22) rfl ?_
        refine z0h (y4n z9s rfl rfl (x8w (z1n h22).2) rfl) rfl ?_
        obtain ⟨r23,h24,H⟩:=bnd H
        refine z0a (z9f (hp1 x19 x21 r23 h24) rfl ⟨.inl rfl,.inl rfl,trivial⟩) ?_
        refine z0a (z3s rfl) ?_
        refine ⟨rfl,?_⟩
        refine z0k _ rfl (fun h25 => ?_) (fun h25 => ?_)
        ·replace H:=ift h25 H
         refine z0c ?_
         refine z0b hN rfl ?_
         refine z0a (z0j (.row _ _) rfl) ?_
         refine qd rfl ?_
         refine z0a (z0j (.rsub _ _ _ _) rfl) ?_
         refine qd rfl ?_
         refine z0h (x31 y6m rfl rfl rfl h20) rfl ?_
         refine z0h (y4n z9s rfl rfl (x8w (z1n h20).2) rfl) rfl ?_
         obtain ⟨x26,h27,H⟩:=bnd H
         refine z0h (y49 y6m rfl rfl rfl h27) rfl ?_
         refine z0g (w0v (C:=z00) z9s rfl rfl rfl (x2o (z1n h27).2) rfl rfl) rfl ?_
         refine z0b hN rfl ?_
         refine qd rfl ?_
         refine z0a (z05 _ rfl rfl (.inl ⟨rfl,rfl⟩)) ?_
         refine qe rfl ?_
         exact ⟨(wr (v14+1),(l16.set v14.toNat x19)),H,⟨congrArg (Slot.row 0) (by simp),rfl,rfl,congrArg (fun n=>Slot.rsub 0 n 5 v3.toNat) (by simp),rfl,trivial⟩,⟨rfl,trivial⟩⟩
        ·replace H:=iff_ h25 H
         refine z0q ?_
         exact ⟨(v14,l16),H,⟨rfl,rfl,rfl,rfl,rfl,trivial⟩,⟨rfl,trivial⟩⟩
       ·rintro ⟨v28,v29⟩ H
        replace H:z2w v15 v28 v29=some q17:=H
        unfold z2w at H
        refine z0b hN rfl ?_
        refine qd rfl ?_
        refine z0a (z05 _ rfl rfl (.inl ⟨rfl,rfl⟩)) ?_
        refine qe rfl ?_
        exact ⟨_,z5d H,⟨rfl,rfl,rfl,rfl,rfl,trivial⟩,⟨rfl,trivial⟩⟩
      ·replace H:=iff_ h18 H
       refine z1j ?_
       replace H:=outl H hq17
       exact ⟨(v14,l16),H,⟨rfl,rfl,trivial⟩,⟨rfl,trivial⟩⟩
     ·rintro ⟨v30,v31⟩ H
      replace H:z3i v30 v31=some q4:=H
      unfold z3i at H
      refine z0c ?_
      refine z0b hN rfl ?_
      refine z0a (z0j (.row _ _) rfl) ?_
      refine qd rfl ?_
      obtain ⟨h32,H⟩:=gif H
      refine z0h (w5j (C:=z00) y6m rfl rfl rfl h32) rfl ?_
      refine z0g (w6e (C:=z00) (z0f.mk 0 [] [] 0 []) x01 x0v rfl rfl rfl rfl rfl h32) rfl ?_
      refine z0c ?_
      refine z0b hN rfl ?_
      refine z0a (z0j (.row _ _) rfl) ?_
      refine qd rfl ?_
      obtain ⟨h33,H⟩:=gif H
      refine x4h (w79 (C:=z00) 1 y6m rfl (w7i (z0f.mk 0 [] [] 0 []) h32) rfl h33) rfl rfl ?_
      refine z0a (z1o (.row _ _) rfl) ?_
      refine x7w 4 1 900 rfl rfl (by rw [List.length_map]; exact (x7t h33)) rfl ?_
      refine z0t ?_
      replace H:=retl H hq4
      cases H
      exact ⟨trivial,[(4,.row 900 _)],⟨rfl,trivial⟩,⟨rfl,trivial⟩,rfl,.inr (.inl ⟨4,rfl,congrArg (Slot.row 900) (by first | exact x7t (by assumption) | (simp <;> omega))⟩)⟩
    ·replace H:=iff_ h12 H
     refine z0q ?_
     refine z0b hN rfl ?_
     refine qd rfl ?_
     refine z0a (z05 _ rfl rfl (.inl ⟨rfl,rfl⟩)) ?_
     refine qe rfl ?_
     exact ⟨_,z5d H,⟨rfl,rfl,rfl,trivial⟩,⟨rfl,trivial⟩⟩
   ·replace H:=iff_ h5 H
    refine z1j ?_
    replace H:=outl H hq4
    exact ⟨(),H,⟨rfl,trivial⟩,⟨rfl,trivial⟩⟩
  ·rintro ⟨⟩ H
   replace H:z3j v1=some r:=H
   unfold z3j at H
   refine z0c ?_
   refine z0b hN rfl ?_
   refine z0a (z0j (.row _ _) rfl) ?_
   refine z0a (z1o (.row _ _) rfl) ?_
   refine x7w 4 0 900 rfl rfl (by rw [List.length_map]) rfl ?_
   refine z0t ?_
   cases H
   exact ⟨trivial,[(4,.row 900 _)],⟨rfl,trivial⟩,⟨rfl,trivial⟩,rfl,.inr (.inl ⟨4,rfl,rfl⟩)⟩
theorem y6o (a1:z0f) (b2:z0f) (r:(Bool)) (H:z6x a1 b2=some r):Fn Tryz.prog 73 [vagg (z00 a1),vagg (z00 b2)] (z1x [z1p r]):=by
 refine ⟨by kernel_rfl,z1s (us:=[z1p r]) Tryz.func73 rfl rfl rfl rfl fun X hN => ?_⟩
 unfold z6x at H
 refine z0c ?_
 refine z0b hN rfl ?_
 refine z0g (z16 1 rfl) rfl ?_
 refine z0g (z16 2 rfl) rfl ?_
 refine qe rfl ?_
 refine z0c ?_
 refine z0b hN rfl ?_
 refine z0h (z06 z9s rfl rfl rfl) rfl ?_
 refine z0h (z06 z9s rfl rfl rfl) rfl ?_
 obtain ⟨r3,h4,H⟩:=bnd H
 refine z0a (z0z (y3d a1 b2 r3 h4) ⟨.inl rfl,.inl rfl,trivial⟩) ?_
 refine z0a (z2g rfl rfl) ?_
 refine qe rfl ?_
 refine z0t ?_
 cases H
 exact ⟨trivial,.inl rfl,trivial⟩
theorem z67 (n1:Int) (low2:Int) (high3:Int) (r:(Bool)) (H:z4h n1 low2 high3=some r):Fn Tryz.prog 47 [vint n1,vint low2,vint high3] (z1x [z1p r]):=by
 refine ⟨by kernel_rfl,z1s (us:=[z1p r]) Tryz.func47 rfl rfl rfl rfl fun X hN => ?_⟩
 unfold z4h at H
 refine z0c ?_
 refine z0b hN rfl ?_
 refine qe rfl ?_
 refine z0c ?_
 refine z0b hN rfl ?_
 refine qd rfl ?_
 refine qd rfl ?_
 refine z0a (y4p rfl rfl) ?_
 refine qd rfl ?_
 refine z4b rfl rfl (fun hc=>z0j (.dat _) rfl) ?_
 refine z4b rfl rfl (fun hc=>z0j (.dat _) rfl) ?_
 refine z4b rfl rfl (fun hc=>y4p (cnd (c:=(decide (low2≤n1))) hc) (cnd (c:=(decide (low2≤n1))) hc)) ?_
 refine z0a (z25 rfl (fun hb=>(cnd (c:=(decide (low2≤n1))) hb)) rfl) ?_
 refine qe rfl ?_
 refine z0t ?_
 cases H
 exact ⟨trivial,.inl rfl,trivial⟩
theorem y9a (l:Bs) (c r:Int) (H:y4d l c=some r):Fn Tryz.prog 136 [vstr l,vval (.int .u8 c)] (z1x [vint r]):=by
 cases H
 refine y9h (by kernel_rfl) fun M w vs h => ?_
 have h1:=x2q (us:=[.string ⟨l.toArray⟩,.int .u8 c]) h
 subst h1
 refine (Tryz.strings_IndexByte ⟨l.toArray⟩ c w).mono ?_
 rintro e w' ⟨rfl,rfl⟩
 exact ⟨_,rfl,rfl,Kp.refl _ _⟩
theorem y8d (s1:Bs) (some2:Bs) (r:(Bool)) (H:y1v s1 some2=some r):Fn Tryz.prog 120 [vstr s1,vstr some2] (z1x [z1p r]):=by
 refine ⟨by kernel_rfl,z1s (us:=[z1p r]) Tryz.func120 rfl rfl rfl rfl fun X hN => ?_⟩
 unfold y1v at H
 refine z0c ?_
 refine z0b hN rfl ?_
 refine qe rfl ?_
 refine z0c ?_
 refine z0c ?_
 refine z0b hN rfl ?_
 refine qd rfl ?_
 refine z0a (y6b tyU9 rfl) ?_
 refine qd rfl ?_
 refine z0w ?_
 obtain ⟨h5,H⟩:=gif H
 refine z32 (fun (k3:Nat) (s:Unit)=>[(0,.dat (vstr s1)),(1,.dat (vstr some2)),(7,.dat (vint (s1.length:Int))),(8,.dat (vint (k3:Int)))]) (fun (k3:Nat) (s:Unit)=>[]) () H ⟨rfl,rfl,rfl,rfl,trivial⟩ trivial (fun _ _=>rfl) ?_ ?_
 ·rintro ⟨⟩ H
  replace H:y5t=some r:=H
  unfold y5t at H
  refine z0c ?_
  refine z0b hN rfl ?_
  refine z0a (z03 rfl rfl) ?_
  refine z0c ?_
  refine z0k _ rfl (fun h=>(lt_t h).elim) (fun h => ?_)
  refine z1j ?_
  refine z0c ?_
  refine z0b hN rfl ?_
  refine qe rfl ?_
  refine z0t ?_
  cases H
  exact ⟨trivial,.inl rfl,trivial⟩
 ·rintro k3 x6 ⟨⟩ q4 h7 h8 H hq4
  replace H:y36 some2 k3 x6=some q4:=H
  unfold y36 at H
  refine z0c ?_
  refine z0b hN rfl ?_
  refine z0a (z03 rfl rfl) ?_
  refine z0c ?_
  refine z0k _ rfl (fun h => ?_) (fun h=>(lt_f h7 h).elim)
  refine z0q ?_
  refine z0c ?_
  refine z0w ?_
  refine z0c ?_
  refine z0b hN rfl ?_
  refine qd rfl ?_
  refine qe rfl ?_
  refine z0c ?_
  refine z0b hN rfl ?_
  refine qd rfl ?_
  refine qd rfl ?_
  refine qd rfl ?_
  refine z0a (w5l tyU9 rfl rfl h8) ?_
  obtain ⟨r9,h10,H⟩:=bnd H
  refine z0a (z0z (y9a some2 (x6.toNat:Int) r9 h10) ⟨.inl rfl,.inl rfl,trivial⟩) ?_
  refine z0a (z03 rfl rfl) ?_
  refine z0k _ rfl (fun h11 => ?_) (fun h11 => ?_)
  ·replace H:=ift h11 H
   refine z0c ?_
   refine z0b hN rfl ?_
   refine qe rfl ?_
   refine z0t ?_
   replace H:=retl H hq4
   cases H
   exact ⟨trivial,.inl rfl,trivial⟩
  ·replace H:=iff_ h11 H
   refine z0q ?_
   refine z0b hN rfl ?_
   refine z0a (z3h rfl rfl (by omega)) ?_
   refine qd rfl ?_
   exact ⟨_,z5d H,⟨rfl,rfl,rfl,rfl,trivial⟩,trivial⟩
theorem y30 (s1:Bs) (r:(Bool)) (H:z87 s1=some r):Fn Tryz.prog 104 [vstr s1] (z1x [z1p r]):=by
 refine ⟨by kernel_rfl,z1s (us:=[z1p r]) Tryz.func104 rfl rfl rfl rfl fun X hN => ?_⟩
 unfold z87 at H
 refine z0c ?_
 refine z0b hN rfl ?_
 refine qe rfl ?_
 refine z07 (ι:=Bool) (fun i=>[(2,.dat (z1p i))]) (fun i=>[]) (fun i=>y02 i=some r) (fun i=>rfl) ?_ ?_
 ·skip
  refine z0b hN rfl ?_
  refine qd rfl ?_
  refine z0a (y6b tyU9 rfl) ?_
  obtain ⟨r2,h3,H⟩:=bnd H
  refine z0a (z0z (z67 (s1.length:Int) 1 40 r2 h3) ⟨.inl rfl,.inl rfl,.inl rfl,trivial⟩) ?_
  refine qd rfl ?_
  refine z15 (j:=3) rfl rfl (fun h4 => ?_) (fun h4 => ?_) rfl
  ·have h5:=un1 h4
   replace H:=ift h5 H
   refine z04 rfl rfl h4 (z0j (.dat _) rfl) ?_
   obtain ⟨l6,h7,H⟩:=bnd H
   refine z04 rfl rfl h4 (w76 tyU9 rfl rfl rfl h7) ?_
   obtain ⟨r8,h9,H⟩:=bnd H
   refine z04 rfl rfl h4 (z0z (y8d l6 [97,98,99,100,101,102,103,104,105,106,107,108,109,110,111,112,113,114,115,116,117,118,119,120,121,122] r8 h9) ⟨.inl rfl,.inl rfl,trivial⟩) ?_
   refine z0a (z1t rfl (bTT h5) rfl) ?_
   refine qd rfl ?_
   refine z15 (j:=8) rfl rfl (fun h10 => ?_) (fun h10 => ?_) rfl
   ·have h11:=un1 h10
    replace H:=ift h11 H
    refine z04 rfl rfl h10 (z0j (.dat _) rfl) ?_
    obtain ⟨r12,h13,H⟩:=bnd H
    refine z04 rfl rfl h10 (z0z (y8d s1 [97,98,99,100,101,102,103,104,105,106,107,108,109,110,111,112,113,114,115,116,117,118,119,120,121,122,48,49,50,51,52,53,54,55,56,57,45,95] r12 h13) ⟨.inl rfl,.inl rfl,trivial⟩) ?_
    refine z0a (z1t rfl (bTT h11) rfl) ?_
    refine qe rfl ?_
    exact ⟨r12,H,⟨rfl,trivial⟩,trivial⟩
   ·have h14:=un2 h10
    replace H:=iff_ h14 H
    refine z0n rfl rfl h10 ?_
    refine z0n rfl rfl h10 ?_
    refine z0a (z1l rfl (bFF h14) rfl) ?_
    refine qe rfl ?_
    exact ⟨false,H,⟨rfl,trivial⟩,trivial⟩
  ·have h15:=un2 h4
   replace H:=iff_ h15 H
   refine z0n rfl rfl h4 ?_
   refine z0n rfl rfl h4 ?_
   refine z0n rfl rfl h4 ?_
   refine z0a (z1l rfl (bFF h15) rfl) ?_
   refine qd rfl ?_
   refine z0n rfl rfl rfl ?_
   refine z0n rfl rfl rfl ?_
   refine z0a (z1l rfl rfl rfl) ?_
   refine qe rfl ?_
   exact ⟨false,H,⟨rfl,trivial⟩,trivial⟩
 ·rintro v16 H
  replace H:y02 v16=some r:=H
  unfold y02 at H
  refine z0t ?_
  cases H
  exact ⟨trivial,.inl rfl,trivial⟩
theorem y13 (s1:(List z0r)) (p1:z0r→Option (Bool)) (fv1:Nat) (us1:List V) (hp1:∀ a0 r,p1 a0=some r→Fn Tryz.prog fv1 ([vagg (z0y a0)]++us1) (z1x [z1p r])) (r:(Int)) (H:z3f s1 p1=some r):Fn Tryz.prog 56 [vlst (List.map z0y s1),vfn fv1 us1] (z1x [vint r]):=by
 refine ⟨by kernel_rfl,z1s (us:=[vint r]) Tryz.func56 rfl rfl rfl rfl fun X hN => ?_⟩
 unfold z3f at H
 refine z0c ?_
 refine z0b hN rfl ?_
 refine qe rfl ?_
 refine z0c ?_
 refine z0c ?_
 refine z0b hN rfl ?_
 refine qd rfl ?_
 refine z0a (z5b x9h rfl) ?_
 refine qd rfl ?_
 refine z0w ?_
 obtain ⟨h4,H⟩:=gif H
 refine z32 (fun (k2:Nat) (s:Unit)=>[(0,.dat (vlst (List.map z0y s1))),(1,.dat (vfn fv1 us1)),(7,.dat (vint (s1.length:Int))),(8,.dat (vint (k2:Int)))]) (fun (k2:Nat) (s:Unit)=>[]) () H ⟨rfl,rfl,rfl,rfl,trivial⟩ trivial (fun _ _=>rfl) ?_ ?_
 ·rintro ⟨⟩ H
  replace H:z4s=some r:=H
  unfold z4s at H
  refine z0c ?_
  refine z0b hN rfl ?_
  refine z0a (z03 rfl rfl) ?_
  refine z0c ?_
  refine z0k _ rfl (fun h=>(lt_t h).elim) (fun h => ?_)
  refine z1j ?_
  refine z0c ?_
  refine z0b hN rfl ?_
  refine qe rfl ?_
  refine z0t ?_
  cases H
  exact ⟨trivial,.inl rfl,trivial⟩
 ·rintro k2 x5 ⟨⟩ q3 h6 h7 H hq3
  replace H:z4r p1 k2 x5=some q3:=H
  unfold z4r at H
  refine z0c ?_
  refine z0b hN rfl ?_
  refine z0a (z03 rfl rfl) ?_
  refine z0c ?_
  refine z0k _ rfl (fun h => ?_) (fun h=>(lt_f h6 h).elim)
  refine z0q ?_
  refine z0c ?_
  refine z0w ?_
  refine z0c ?_
  refine z0b hN rfl ?_
  refine qd rfl ?_
  refine qe rfl ?_
  refine z0c ?_
  refine z0b hN rfl ?_
  refine qd rfl ?_
  refine qd rfl ?_
  refine qd rfl ?_
  refine z0a (y2a x9i (fun _=>rfl) rfl rfl h7) ?_
  refine z0a (z2l x1p rfl (z3e h7) rfl) ?_
  obtain ⟨r8,h9,H⟩:=bnd H
  refine z0a (z9f (hp1 x5 r8 h9) rfl ⟨.inl rfl,trivial⟩) ?_
  refine z0k _ rfl (fun h10 => ?_) (fun h10 => ?_)
  ·replace H:=ift h10 H
   refine z0c ?_
   refine z0b hN rfl ?_
   refine qd rfl ?_
   refine qe rfl ?_
   refine z0t ?_
   replace H:=retl H hq3
   cases H
   exact ⟨trivial,.inl rfl,trivial⟩
  ·replace H:=iff_ h10 H
   refine z0q ?_
   refine z0b hN rfl ?_
   refine z0a (z3h rfl rfl (by omega)) ?_
   refine qd rfl ?_
   exact ⟨_,z5d H,⟨rfl,rfl,rfl,rfl,trivial⟩,trivial⟩
theorem y7x (p1:z0r) (c2:Bs) (r:(Bool)) (H:z63 p1 c2=some r):Fn Tryz.prog 57 [vagg (z0y p1),y38 [[vstr c2]] 0 0] (z1x [z1p r]):=by
 refine ⟨by kernel_rfl,z1s (us:=[z1p r]) Tryz.func57 rfl rfl rfl rfl fun X hN => ?_⟩
 unfold z63 at H
 refine z0c ?_
 refine z0b hN rfl ?_
 refine z0g (z16 1 rfl) rfl ?_
 refine qe rfl ?_
 refine z0c ?_
 refine z0b hN rfl ?_
 refine z0a (z0m y6q rfl) ?_
 refine z0h (z0l tyS9 rfl rfl) rfl ?_
 refine z0a (z24 tyS9 rfl rfl rfl) ?_
 refine z0a (y5y rfl rfl) ?_
 refine qe rfl ?_
 refine z0t ?_
 cases H
 exact ⟨trivial,.inl rfl,trivial⟩
theorem y1p (c1:z0i) (key2:Bs) (r:(Int)) (H:z5t c1 key2=some r):Fn Tryz.prog 17 [vagg (z1h c1),vstr key2] (z1x [vint r]):=by
 refine ⟨by kernel_rfl,z1s (us:=[vint r]) Tryz.func17 rfl rfl rfl rfl fun X hN => ?_⟩
 unfold z5t at H
 refine z0c ?_
 refine z0b hN rfl ?_
 refine z0g (z16 1 rfl) rfl ?_
 refine z0g (y9n 2 rfl rfl) rfl ?_
 refine qe rfl ?_
 refine z0c ?_
 refine y98 2 [vstr key2] rfl rfl ?_
 refine z0b hN rfl ?_
 refine z0a (z0m y84 rfl) ?_
 refine z0h (z0l x6o rfl rfl) rfl ?_
 refine z0a (x1f (us:=[_]) ⟨rfl,trivial⟩) ?_
 obtain ⟨r3,h4,H⟩:=bnd H
 refine z0a (z0z (y13 c1.Products (fun (a0:z0r)=>z63 a0 key2) 57 [y38 [[vstr key2]] 0 0] (fun a0 r h=>y7x a0 key2 r h) r3 h4) ⟨.inl rfl,.inl rfl,trivial⟩) ?_
 refine qe rfl ?_
 refine z0t ?_
 cases H
 exact ⟨trivial,.inl rfl,trivial⟩
theorem y8u (v1:z0i) (v2:z0p) (r:(Int)) (H:z97 v1 v2=some r):Fn Tryz.prog 106 [vagg (z1h v1),vagg (z01 v2)] (z1x [vint r]):=by
 refine ⟨by kernel_rfl,z1s (us:=[vint r]) Tryz.func106 rfl rfl rfl rfl fun X hN => ?_⟩
 unfold z97 at H
 refine z0c ?_
 refine z0b hN rfl ?_
 refine z0g (z16 1 rfl) rfl ?_
 refine z0g (z16 2 rfl) rfl ?_
 refine qe rfl ?_
 refine z0c ?_
 refine z0w ?_
 refine z0c ?_
 refine z0b hN rfl ?_
 refine z0h (z06 z5x rfl rfl rfl) rfl ?_
 refine z0a (z0m x0a rfl) ?_
 refine z0h (z0l tyS9 rfl rfl) rfl ?_
 obtain ⟨r3,h4,H⟩:=bnd H
 refine z0a (z0z (y1p v1 v2.Product r3 h4) ⟨.inl rfl,.inl rfl,trivial⟩) ?_
 refine z0a (z03 rfl rfl) ?_
 refine qe rfl ?_
 refine z0k _ rfl (fun h5 => ?_) (fun h5 => ?_)
 ·replace H:=ift h5 H
  refine z0c ?_
  refine z0b hN rfl ?_
  refine qe rfl ?_
  refine z0t ?_
  cases H
  exact ⟨trivial,.inl rfl,trivial⟩
 ·replace H:=iff_ h5 H
  refine z07 (ι:=Bool) (fun i=>[(3,.ptr 2 0),(13,.dat (z1p i))]) (fun i=>[(2,.box none 83 [.dat (vstr v2.Key),.dat (vstr v2.Product),.dat (vint v2.Base),.dat (vint v2.Free),.dat (vlst (List.map z1y v2.Tiers)),.dat (vint v2.Limit),.dat (vint v2.Trial),.dat (z1p v2.Asked)])]) (fun i=>z4z v2 i=some r) (fun i=>rfl) ?_ ?_
  ·skip
   refine z0b hN rfl ?_
   refine z0a (z0m x6r rfl) ?_
   refine z0h (z0l tyS3 rfl rfl) rfl ?_
   obtain ⟨r6,h7,H⟩:=bnd H
   refine z0a (z0z (z67 v2.Base 0 1000000000000 r6 h7) ⟨.inl rfl,.inl rfl,.inl rfl,trivial⟩) ?_
   refine z0a (z3s rfl) ?_
   refine qd rfl ?_
   refine z15 (j:=4) rfl rfl (fun h8 => ?_) (fun h8 => ?_) rfl
   ·have h9:=un3 h8
    replace H:=iff_ h9 H
    refine z04 rfl rfl h8 (z0m x3v rfl) ?_
    refine z5r rfl rfl h8 (z0l tyS3 rfl rfl) rfl ?_
    obtain ⟨r10,h11,H⟩:=bnd H
    refine z04 rfl rfl h8 (z0z (z67 v2.Free 0 1000000000000 r10 h11) ⟨.inl rfl,.inl rfl,.inl rfl,trivial⟩) ?_
    refine z04 rfl rfl h8 (z3s rfl) ?_
    refine z0a (z1l rfl (bFF h9) rfl) ?_
    refine qe rfl ?_
    exact ⟨!r10,H,⟨rfl,rfl,trivial⟩,⟨rfl,trivial⟩⟩
   ·have h12:=un4 h8
    replace H:=ift h12 H
    refine z0n rfl rfl h8 ?_
    refine z0n rfl rfl h8 ?_
    refine z0n rfl rfl h8 ?_
    refine z0n rfl rfl h8 ?_
    refine z0a (z1t rfl (bTT h12) rfl) ?_
    refine qe rfl ?_
    exact ⟨true,H,⟨rfl,rfl,trivial⟩,⟨rfl,trivial⟩⟩
  ·rintro v13 H
   replace H:z4z v2 v13=some r:=H
   unfold z4z at H
   refine z0k _ rfl (fun h14 => ?_) (fun h14 => ?_)
   ·replace H:=ift h14 H
    refine z0c ?_
    refine z0b hN rfl ?_
    refine qe rfl ?_
    refine z0t ?_
    cases H
    exact ⟨trivial,.inl rfl,trivial⟩
   ·replace H:=iff_ h14 H
    refine z0c ?_
    refine z0b hN rfl ?_
    refine z0a (z0m y39 rfl) ?_
    refine z0h (z0l y81 rfl rfl) rfl ?_
    refine z0a (z5b x5k rfl) ?_
    refine z0a (z4c rfl rfl) ?_
    refine qe rfl ?_
    refine z0k _ rfl (fun h15 => ?_) (fun h15 => ?_)
    ·replace H:=ift h15 H
     refine z0c ?_
     refine z0b hN rfl ?_
     refine qe rfl ?_
     refine z0t ?_
     cases H
     exact ⟨trivial,.inl rfl,trivial⟩
    ·replace H:=iff_ h15 H
     refine z0q ?_
     refine z0c ?_
     refine z0c ?_
     refine z0b hN rfl ?_
     refine z0a (z0m y39 rfl) ?_
     refine z0h (z0l y81 rfl rfl) rfl ?_
     refine z0a (z5b x5k rfl) ?_
     refine qd rfl ?_
     refine z0w ?_
     obtain ⟨h18,H⟩:=gif H
     refine z32 (fun (k16:Nat) (s:Unit)=>[(3,.ptr 2 0),(30,.dat (vlst (List.map z1y v2.Tiers))),(31,.dat (vint (v2.Tiers.length:Int))),(32,.dat (vint (k16:Int)))]) (fun (k16:Nat) (s:Unit)=>[(2,.box none 83 [.dat (vstr v2.Key),.dat (vstr v2.Product),.dat (vint v2.Base),.dat (vint v2.Free),.dat (vlst (List.map z1y v2.Tiers)),.dat (vint v2.Limit),.dat (vint v2.Trial),.dat (z1p v2.Asked)])]) () H ⟨rfl,rfl,rfl,rfl,trivial⟩ ⟨rfl,trivial⟩ (fun _ _=>rfl) ?_ ?_
     ·rintro ⟨⟩ H
      replace H:z9p v2=some r:=H
      unfold z9p at H
      refine z0c ?_
      refine z0b hN rfl ?_
      refine z0a (z03 rfl rfl) ?_
      refine z0c ?_
      refine z0k _ rfl (fun h=>(lt_t h).elim) (fun h => ?_)
      refine z1j ?_
      refine z0c ?_
      refine z0w ?_
      refine z07 (ι:=Bool) (fun i=>[(3,.ptr 2 0),(64,.dat (z1p i))]) (fun i=>[(2,.box none 83 [.dat (vstr v2.Key),.dat (vstr v2.Product),.dat (vint v2.Base),.dat (vint v2.Free),.dat (vlst (List.map z1y v2.Tiers)),.dat (vint v2.Limit),.dat (vint v2.Trial),.dat (z1p v2.Asked)])]) (fun i=>z6e v2 i=some r) (fun i=>rfl) ?_ ?_
      ·skip
       refine z0b hN rfl ?_
       refine z0a (z0m y39 rfl) ?_
       refine z0h (z0l y81 rfl rfl) rfl ?_
       refine z0a (z5b x5k rfl) ?_
       refine z0a (z4c rfl rfl) ?_
       refine qd rfl ?_
       refine z15 (j:=4) rfl rfl (fun h20 => ?_) (fun h20 => ?_) rfl
       ·have h21:=un1 h20
        replace H:=ift h21 H
        refine z04 rfl rfl h20 (z0m y39 rfl) ?_
        refine z5r rfl rfl h20 (z0l y81 rfl rfl) rfl ?_
        obtain ⟨x22,h23,H⟩:=bnd H
        refine z04 rfl rfl h20 (y2a x5m (fun _=>rfl) rfl rfl h23) ?_
        refine z04 rfl rfl h20 (y20 y5d rfl) ?_
        refine z04 rfl rfl h20 (z24 tyS3 rfl (z3e h23) rfl) ?_
        refine z04 rfl rfl h20 (z6y rfl rfl) ?_
        refine z0a (z1t rfl (bTT h21) rfl) ?_
        refine qe rfl ?_
        exact ⟨decide (x22.From≠1),H,⟨rfl,rfl,trivial⟩,⟨rfl,trivial⟩⟩
       ·have h24:=un2 h20
        replace H:=iff_ h24 H
        refine z0n rfl rfl h20 ?_
        refine z0n rfl rfl h20 ?_
        refine z0n rfl rfl h20 ?_
        refine z0n rfl rfl h20 ?_
        refine z0n rfl rfl h20 ?_
        refine z0n rfl rfl h20 ?_
        refine z0a (z1l rfl (bFF h24) rfl) ?_
        refine qe rfl ?_
        exact ⟨false,H,⟨rfl,rfl,trivial⟩,⟨rfl,trivial⟩⟩
      ·rintro v25 H
       replace H:z6e v2 v25=some r:=H
       unfold z6e at H
       refine z0k _ rfl (fun h26 => ?_) (fun h26 => ?_)
       ·replace H:=ift h26 H
        refine z0c ?_
        refine z0b hN rfl ?_
        refine qe rfl ?_
        refine z0t ?_
        cases H
        exact ⟨trivial,.inl rfl,trivial⟩
       ·replace H:=iff_ h26 H
        refine z07 (ι:=Bool) (fun i=>[(77,.dat (z1p i))]) (fun i=>[]) (fun i=>z7j i=some r) (fun i=>rfl) ?_ ?_
        ·skip
         refine z0b hN rfl ?_
         refine z0a (z0m y82 rfl) ?_
         refine z0h (z0l tyS3 rfl rfl) rfl ?_
         obtain ⟨r27,h28,H⟩:=bnd H
         refine z0a (z0z (z67 v2.Limit (-1) 1000000000000 r27 h28) ⟨.inl rfl,.inl rfl,.inl rfl,trivial⟩) ?_
         refine z0a (z3s rfl) ?_
         refine qd rfl ?_
         refine z15 (j:=4) rfl rfl (fun h29 => ?_) (fun h29 => ?_) rfl
         ·have h30:=un3 h29
          replace H:=iff_ h30 H
          refine z04 rfl rfl h29 (z0m x6q rfl) ?_
          refine z5r rfl rfl h29 (z0l tyS3 rfl rfl) rfl ?_
          obtain ⟨r31,h32,H⟩:=bnd H
          refine z04 rfl rfl h29 (z0z (z67 v2.Trial 0 132 r31 h32) ⟨.inl rfl,.inl rfl,.inl rfl,trivial⟩) ?_
          refine z04 rfl rfl h29 (z3s rfl) ?_
          refine z0a (z1l rfl (bFF h30) rfl) ?_
          refine qe rfl ?_
          exact ⟨!r31,H,⟨rfl,trivial⟩,trivial⟩
         ·have h33:=un4 h29
          replace H:=ift h33 H
          refine z0n rfl rfl h29 ?_
          refine z0n rfl rfl h29 ?_
          refine z0n rfl rfl h29 ?_
          refine z0n rfl rfl h29 ?_
          refine z0a (z1t rfl (bTT h33) rfl) ?_
          refine qe rfl ?_
          exact ⟨true,H,⟨rfl,trivial⟩,trivial⟩
        ·rintro v34 H
         replace H:z7j v34=some r:=H
         unfold z7j at H
         refine z0k _ rfl (fun h35 => ?_) (fun h35 => ?_)
         ·replace H:=ift h35 H
          refine z0c ?_
          refine z0b hN rfl ?_
          refine qe rfl ?_
          refine z0t ?_
          cases H
          exact ⟨trivial,.inl rfl,trivial⟩
         ·replace H:=iff_ h35 H
          refine z0q ?_
          refine z0c ?_
          refine z0b hN rfl ?_
          refine qe rfl ?_
          refine z0t ?_
          cases H
          exact ⟨trivial,.inl rfl,trivial⟩
     ·rintro k16 x19 ⟨⟩ q17 h36 h37 H hq17
      replace H:z9n v2 k16 x19=some q17:=H
      unfold z9n at H
      refine z0c ?_
      refine z0b hN rfl ?_
      refine z0a (z03 rfl rfl) ?_
      refine z0c ?_
      refine z0k _ rfl (fun h => ?_) (fun h=>(lt_f h36 h).elim)
      refine z0q ?_
      refine z0c ?_
      refine z0w ?_
      refine z0c ?_
      refine z0b hN rfl ?_
      refine qd rfl ?_
      refine z0a (y2a x5m (fun _=>rfl) rfl rfl h37) ?_
      refine z0a (z2l x2y rfl (z3e h37) rfl) ?_
      refine z0g (z1m 3 x1m rfl) rfl ?_
      refine qe rfl ?_
      refine z0g (z08 x2y rfl rfl rfl rfl) rfl ?_
      refine z0w ?_
      refine z07 (ι:=Bool) (fun i=>[(3,.ptr 2 0),(5,.dat (vint (k16:Int))),(6,.ptr 3 0),(30,.dat (vlst (List.map z1y v2.Tiers))),(31,.dat (vint (v2.Tiers.length:Int))),(32,.dat (vint (k16:Int))),(37,.dat (z1p i))]) (fun i=>[(2,.box none 83 [.dat (vstr v2.Key),.dat (vstr v2.Product),.dat (vint v2.Base),.dat (vint v2.Free),.dat (vlst (List.map z1y v2.Tiers)),.dat (vint v2.Limit),.dat (vint v2.Trial),.dat (z1p v2.Asked)]),(3,.box none 118 [.dat (vint x19.From),.dat (vint x19.Cents)])]) (fun i=>z7i v2 k16 x19 i=some q17) (fun i=>rfl) ?_ ?_
      ·skip
       refine z0b hN rfl ?_
       refine z0a (z0m y5d rfl) ?_
       refine z0h (z0l tyS3 rfl rfl) rfl ?_
       obtain ⟨r38,h39,H⟩:=bnd H
       refine z0a (z0z (z67 x19.From 1 1000000000000 r38 h39) ⟨.inl rfl,.inl rfl,.inl rfl,trivial⟩) ?_
       refine z0a (z3s rfl) ?_
       refine qd rfl ?_
       refine z15 (j:=4) rfl rfl (fun h40 => ?_) (fun h40 => ?_) rfl
       ·have h41:=un3 h40
        replace H:=iff_ h41 H
        refine z04 rfl rfl h40 (z0m x3z rfl) ?_
        refine z5r rfl rfl h40 (z0l tyS3 rfl rfl) rfl ?_
        obtain ⟨r42,h43,H⟩:=bnd H
        refine z04 rfl rfl h40 (z0z (z67 x19.Cents 0 1000000 r42 h43) ⟨.inl rfl,.inl rfl,.inl rfl,trivial⟩) ?_
        refine z04 rfl rfl h40 (z3s rfl) ?_
        refine z0a (z1l rfl (bFF h41) rfl) ?_
        refine qe rfl ?_
        exact ⟨!r42,H,⟨rfl,rfl,rfl,rfl,rfl,rfl,rfl,trivial⟩,⟨rfl,rfl,trivial⟩⟩
       ·have h44:=un4 h40
        replace H:=ift h44 H
        refine z0n rfl rfl h40 ?_
        refine z0n rfl rfl h40 ?_
        refine z0n rfl rfl h40 ?_
        refine z0n rfl rfl h40 ?_
        refine z0a (z1t rfl (bTT h44) rfl) ?_
        refine qe rfl ?_
        exact ⟨true,H,⟨rfl,rfl,rfl,rfl,rfl,rfl,rfl,trivial⟩,⟨rfl,rfl,trivial⟩⟩
      ·rintro v45 H
       replace H:z7i v2 k16 x19 v45=some q17:=H
       unfold z7i at H
       refine z0k _ rfl (fun h46 => ?_) (fun h46 => ?_)
       ·replace H:=ift h46 H
        refine z0c ?_
        refine z0b hN rfl ?_
        refine qe rfl ?_
        refine z0t ?_
        replace H:=retl H hq17
        cases H
        exact ⟨trivial,.inl rfl,trivial⟩
       ·replace H:=iff_ h46 H
        refine z07 (ι:=Bool) (fun i=>[(3,.ptr 2 0),(30,.dat (vlst (List.map z1y v2.Tiers))),(31,.dat (vint (v2.Tiers.length:Int))),(32,.dat (vint (k16:Int))),(48,.dat (z1p i))]) (fun i=>[(2,.box none 83 [.dat (vstr v2.Key),.dat (vstr v2.Product),.dat (vint v2.Base),.dat (vint v2.Free),.dat (vlst (List.map z1y v2.Tiers)),.dat (vint v2.Limit),.dat (vint v2.Trial),.dat (z1p v2.Asked)])]) (fun i=>z9o i=some q17) (fun i=>rfl) ?_ ?_
        ·skip
         refine z2n mixed hN rfl rfl ?_
         refine qd rfl ?_
         refine z0a (z4c rfl rfl) ?_
         refine qd rfl ?_
         refine z15 (j:=2) rfl rfl (fun h47 => ?_) (fun h47 => ?_) rfl
         ·have h48:=un1 h47
          replace H:=ift h48 H
          refine z04 rfl rfl h47 (z0m y5d rfl) ?_
          refine z5r rfl rfl h47 (z0l tyS3 rfl rfl) rfl ?_
          refine z04 rfl rfl h47 (z0m y39 rfl) ?_
          refine z5r rfl rfl h47 (z0l y81 rfl rfl) rfl ?_
          refine z04 rfl rfl h47 (z0j (.dat _) rfl) ?_
          refine z04 rfl rfl h47 (y7j rfl rfl (by omega)) ?_
          obtain ⟨x49,h50,H⟩:=bnd H
          refine z04 rfl rfl h47 (y1q x5m (fun _=>rfl) rfl rfl h50) ?_
          refine z04 rfl rfl h47 (y20 y5d rfl) ?_
          refine z04 rfl rfl h47 (z24 tyS3 rfl (z3e (z1n h50).2) rfl) ?_
          refine z04 rfl rfl h47 (y4p rfl rfl) ?_
          refine z0a (z1t rfl (bTT h48) rfl) ?_
          refine qe rfl ?_
          refine ⟨rfl,?_⟩
          exact ⟨decide (x19.From≤x49.From),H,⟨rfl,rfl,rfl,rfl,rfl,trivial⟩,⟨rfl,trivial⟩⟩
         ·have h51:=un2 h47
          replace H:=iff_ h51 H
          refine z0n rfl rfl h47 ?_
          refine z0n rfl rfl h47 ?_
          refine z0n rfl rfl h47 ?_
          refine z0n rfl rfl h47 ?_
          refine z0n rfl rfl h47 ?_
          refine z0n rfl rfl h47 ?_
          refine z0n rfl rfl h47 ?_
          refine z0n rfl rfl h47 ?_
          refine z0n rfl rfl h47 ?_
          refine z0n rfl rfl h47 ?_
          refine z0a (z1l rfl (bFF h51) rfl) ?_
          refine qe rfl ?_
          refine ⟨rfl,?_⟩
          exact ⟨false,H,⟨rfl,rfl,rfl,rfl,rfl,trivial⟩,⟨rfl,trivial⟩⟩
        ·rintro v52 H
         replace H:z9o v52=some q17:=H
         unfold z9o at H
         refine z0k _ rfl (fun h53 => ?_) (fun h53 => ?_)
         ·replace H:=ift h53 H
          refine z0c ?_
          refine z0b hN rfl ?_
          refine qe rfl ?_
          refine z0t ?_
          replace H:=retl H hq17
          cases H
          exact ⟨trivial,.inl rfl,trivial⟩
         ·replace H:=iff_ h53 H
          refine z0q ?_
          refine z0b hN rfl ?_
          refine z0a (z3h rfl rfl (by omega)) ?_
          refine qd rfl ?_
          exact ⟨_,z5d H,⟨rfl,rfl,rfl,rfl,trivial⟩,⟨rfl,trivial⟩⟩
theorem x05 (s sep:Bs) (r:List Bs) (H:z9g s sep=some r):FnG Tryz.prog 137 [.dat (vstr s),.dat (vstr sep)] [] (.row 900 r.length) [(900,.row 9 1 (List.map z1k r))]:=by
 obtain ⟨h1,h2,rfl⟩:=x9s H
 have hlen:=Lib.splitB_all ⟨sep.toArray⟩ (by simpa [ByteArray.size] using h2) 0 _ ⟨s.toArray⟩ rfl
 have hle:=Lib.countB_le ⟨sep.toArray⟩ (by simpa [ByteArray.size] using h2) _ ⟨s.toArray⟩ (Nat.le_refl _)
 refine w4t (args:=[vstr s,vstr sep]) (y8x s sep) (by kernel_rfl) (fun M w vs hM hvs => ?_) ?_
 ·have hv:=x2q (us:=[.string ⟨s.toArray⟩,.string ⟨sep.toArray⟩]) hvs
  subst hv
  obtain ⟨m,hm⟩:=x7g hM
  refine (Tryz.strings_Split ⟨s.toArray⟩ ⟨sep.toArray⟩ m w (by simp [ByteArray.size]; omega) hm (by simpa [ByteArray.size] using h2)).mono ?_
  rintro e w' ⟨rfl,rfl⟩
  have e1:(y8x s sep).length=Lib.countB ⟨s.toArray⟩ ⟨sep.toArray⟩+1:=by unfold y8x; rw [List.length_map,hlen]
  have e2:((y8x s sep).map fun s=>Value.string ⟨s.toArray⟩)=(Lib.splitB ⟨sep.toArray⟩ 0 (Lib.countB ⟨s.toArray⟩ ⟨sep.toArray⟩) ⟨s.toArray⟩).map Value.string:=by
   unfold y8x
   rw [List.map_map]
   exact List.map_congr_left fun b _=>by simp
  rw [e1,e2]
  exact ⟨rfl,rfl⟩
 ·unfold y8x maxLen
  rw [List.length_map,hlen]
  have hsz:(ByteArray.mk s.toArray).size=s.length:=by simp [ByteArray.size]
  rw [hsz] at hle
  omega
theorem y8b (s sep:Bs) (r:List Bs) (H:z9g s sep=some r):Fn Tryz.prog 137 [vstr s,vstr sep] (z1x [vlst (List.map z1k r)]):=by
 have h:=x05 s sep r H
 rw [← List.length_map (f:=z1k)] at h
 exact w2f h
theorem x09 (s1:Bs) (r:(Bool)) (H:y2o s1=some r):Fn Tryz.prog 121 [vstr s1] (z1x [z1p r]):=by
 refine ⟨by kernel_rfl,z1s (us:=[z1p r]) Tryz.func121 rfl rfl rfl rfl fun X hN => ?_⟩
 unfold y2o at H
 refine z0c ?_
 refine z0b hN rfl ?_
 refine qe rfl ?_
 refine z0c ?_
 refine z0b hN rfl ?_
 refine qd rfl ?_
 obtain ⟨r2,h3,H⟩:=bnd H
 refine z0a (z0z (y8b s1 [58] r2 h3) ⟨.inl rfl,.inl rfl,trivial⟩) ?_
 refine qe rfl ?_
 refine z0c ?_
 refine z0c ?_
 refine z0b hN rfl ?_
 refine qd rfl ?_
 refine z0a (z5b y4g rfl) ?_
 refine qd rfl ?_
 refine z0w ?_
 obtain ⟨h6,H⟩:=gif H
 refine z32 (fun (k4:Nat) (s:Unit)=>[(3,.dat (vlst (List.map z1k r2))),(8,.dat (vlst (List.map z1k r2))),(9,.dat (vint (r2.length:Int))),(10,.dat (vint (k4:Int)))]) (fun (k4:Nat) (s:Unit)=>[]) () H ⟨rfl,rfl,rfl,rfl,trivial⟩ trivial (fun _ _=>rfl) ?_ ?_
 ·rintro ⟨⟩ H
  replace H:y5b r2=some r:=H
  unfold y5b at H
  refine z0c ?_
  refine z0b hN rfl ?_
  refine z0a (z03 rfl rfl) ?_
  refine z0c ?_
  refine z0k _ rfl (fun h=>(lt_t h).elim) (fun h => ?_)
  refine z1j ?_
  refine z0c ?_
  refine z0b hN rfl ?_
  refine qd rfl ?_
  refine z0a (z5b y4g rfl) ?_
  refine z0a (y4p rfl rfl) ?_
  refine qe rfl ?_
  refine z0t ?_
  cases H
  exact ⟨trivial,.inl rfl,trivial⟩
 ·rintro k4 x7 ⟨⟩ q5 h8 h9 H hq5
  replace H:y3n r2 k4 x7=some q5:=H
  unfold y3n at H
  refine z0c ?_
  refine z0b hN rfl ?_
  refine z0a (z03 rfl rfl) ?_
  refine z0c ?_
  refine z0k _ rfl (fun h => ?_) (fun h=>(lt_f h8 h).elim)
  refine z0q ?_
  refine z0c ?_
  refine z0w ?_
  refine z0c ?_
  refine z0b hN rfl ?_
  refine qd rfl ?_
  refine z0a (y2a y74 (fun _=>rfl) rfl rfl h9) ?_
  refine z0a (z24 tyS9 rfl (z3e h9) rfl) ?_
  refine qe rfl ?_
  refine qe rfl ?_
  refine z0c ?_
  refine z0b hN rfl ?_
  refine qd rfl ?_
  obtain ⟨r10,h11,H⟩:=bnd H
  refine z0a (z0z (y30 x7 r10 h11) ⟨.inl rfl,trivial⟩) ?_
  refine z0a (z3s rfl) ?_
  refine qd rfl ?_
  refine z4b rfl rfl (fun hc=>z0j (.dat _) rfl) ?_
  refine z4b rfl rfl (fun hc=>y4o (cnd (c:=(!r10)) hc) rfl) ?_
  refine z4b rfl rfl (fun hc=>z0j (.dat _) (cnd (c:=(!r10)) hc)) ?_
  refine y7b rfl rfl (fun hc=>z0j (.dat _) rfl) ?_
  refine y7b rfl rfl (fun hc=>z0j (.dat _) rfl) ?_
  refine y7b rfl rfl (fun hc=>z5b y4g (cnd (c:=((!r10) && !(decide (x7≠[42])))) hc)) ?_
  refine y7b rfl rfl (fun hc=>z05 _ (cnd (c:=((!r10) && !(decide (x7≠[42])))) hc) rfl (.inr (.inl ⟨rfl,rfl⟩))) ?_
  refine y7b rfl rfl (fun hc=>z03 (cnd (c:=((!r10) && !(decide (x7≠[42])))) hc) (cnd (c:=((!r10) && !(decide (x7≠[42])))) hc)) ?_
  refine z4b rfl rfl (fun hc=>z8q (cnd (c:=(!r10)) hc) rfl (fun hb=>(cnd (c:=((!r10) && !(decide (x7≠[42])))) (andI hc (notI hb))))) ?_
  refine z0a (z25 rfl (fun hb=>(cnd (c:=(!r10)) hb)) rfl) ?_
  refine z0k _ rfl (fun h12 => ?_) (fun h12 => ?_)
  ·replace H:=ift h12 H
   refine z0c ?_
   refine z0b hN rfl ?_
   refine qe rfl ?_
   refine z0t ?_
   replace H:=retl H hq5
   cases H
   exact ⟨trivial,.inl rfl,trivial⟩
  ·replace H:=iff_ h12 H
   refine z0q ?_
   refine z0b hN rfl ?_
   refine z0a (z3h rfl rfl (by omega)) ?_
   refine qd rfl ?_
   exact ⟨_,z5d H,⟨rfl,rfl,rfl,rfl,trivial⟩,trivial⟩
theorem y7w (l1:(List Bs)) (r:(Int)) (H:z8m l1=some r):Fn Tryz.prog 105 [vlst (List.map z1k l1)] (z1x [vint r]):=by
 refine ⟨by kernel_rfl,z1s (us:=[vint r]) Tryz.func105 rfl rfl rfl rfl fun X hN => ?_⟩
 unfold z8m at H
 refine z0c ?_
 refine z0b hN rfl ?_
 refine qe rfl ?_
 refine z0c ?_
 refine z0c ?_
 refine z0b hN rfl ?_
 refine qd rfl ?_
 refine z0a (z5b y4g rfl) ?_
 refine z0a (z4c rfl rfl) ?_
 refine z0k _ rfl (fun h2 => ?_) (fun h2 => ?_)
 ·replace H:=ift h2 H
  refine z0c ?_
  refine z0b hN rfl ?_
  refine qe rfl ?_
  refine z0t ?_
  cases H
  exact ⟨trivial,.inl rfl,trivial⟩
 ·replace H:=iff_ h2 H
  refine z0q ?_
  refine z0c ?_
  refine z0c ?_
  refine z0b hN rfl ?_
  refine qd rfl ?_
  refine z0a (z5b y4g rfl) ?_
  refine qd rfl ?_
  refine z0w ?_
  obtain ⟨h5,H⟩:=gif H
  refine z32 (fun (k3:Nat) (s:Unit)=>[(8,.dat (vlst (List.map z1k l1))),(9,.dat (vint (l1.length:Int))),(10,.dat (vint (k3:Int)))]) (fun (k3:Nat) (s:Unit)=>[]) () H ⟨rfl,rfl,rfl,trivial⟩ trivial (fun _ _=>rfl) ?_ ?_
  ·rintro ⟨⟩ H
   replace H:y2i=some r:=H
   unfold y2i at H
   refine z0c ?_
   refine z0b hN rfl ?_
   refine z0a (z03 rfl rfl) ?_
   refine z0c ?_
   refine z0k _ rfl (fun h=>(lt_t h).elim) (fun h => ?_)
   refine z1j ?_
   refine z0c ?_
   refine z0b hN rfl ?_
   refine qe rfl ?_
   refine z0t ?_
   cases H
   exact ⟨trivial,.inl rfl,trivial⟩
  ·rintro k3 x6 ⟨⟩ q4 h7 h8 H hq4
   replace H:y0f k3 x6=some q4:=H
   unfold y0f at H
   refine z0c ?_
   refine z0b hN rfl ?_
   refine z0a (z03 rfl rfl) ?_
   refine z0c ?_
   refine z0k _ rfl (fun h => ?_) (fun h=>(lt_f h7 h).elim)
   refine z0q ?_
   refine z0c ?_
   refine z0w ?_
   refine z0c ?_
   refine z0b hN rfl ?_
   refine z0a (y2a y74 (fun _=>rfl) rfl rfl h8) ?_
   refine z0a (z24 tyS9 rfl (z3e h8) rfl) ?_
   refine qe rfl ?_
   refine z0c ?_
   refine z0b hN rfl ?_
   refine qd rfl ?_
   obtain ⟨r9,h10,H⟩:=bnd H
   refine z0a (z0z (x09 x6 r9 h10) ⟨.inl rfl,trivial⟩) ?_
   refine z0a (z3s rfl) ?_
   refine z0k _ rfl (fun h11 => ?_) (fun h11 => ?_)
   ·replace H:=ift h11 H
    refine z0c ?_
    refine z0b hN rfl ?_
    refine qe rfl ?_
    refine z0t ?_
    replace H:=retl H hq4
    cases H
    exact ⟨trivial,.inl rfl,trivial⟩
   ·replace H:=iff_ h11 H
    refine z0q ?_
    refine z0b hN rfl ?_
    refine z0a (z3h rfl rfl (by omega)) ?_
    refine qd rfl ?_
    exact ⟨_,z5d H,⟨rfl,rfl,rfl,trivial⟩,trivial⟩
theorem y4v (v1:z0i) (r:(Int)) (H:z6s v1=some r):Fn Tryz.prog 69 [vagg (z1h v1)] (z1x [vint r]):=by
 refine ⟨by kernel_rfl,z1s (us:=[vint r]) Tryz.func69 rfl rfl rfl rfl fun X hN => ?_⟩
 unfold z6s at H
 refine z0c ?_
 refine z0b hN rfl ?_
 refine z0g (z16 1 rfl) rfl ?_
 refine qe rfl ?_
 refine z0c ?_
 refine z0c ?_
 refine z0b hN rfl ?_
 refine z0a (z0m y84 rfl) ?_
 refine z0h (z0l x6o rfl rfl) rfl ?_
 refine z0a (z5b x9h rfl) ?_
 refine z0a (z4c rfl rfl) ?_
 refine z0k _ rfl (fun h2 => ?_) (fun h2 => ?_)
 ·replace H:=ift h2 H
  refine z0c ?_
  refine z0b hN rfl ?_
  refine qe rfl ?_
  refine z0t ?_
  cases H
  exact ⟨trivial,.inl rfl,trivial⟩
 ·replace H:=iff_ h2 H
  refine z0q ?_
  refine z0c ?_
  refine z0b hN rfl ?_
  refine qe rfl ?_
  refine z0c ?_
  refine z0c ?_
  refine z0b hN rfl ?_
  refine z0a (z0m y84 rfl) ?_
  refine z0h (z0l x6o rfl rfl) rfl ?_
  refine z0a (z5b x9h rfl) ?_
  refine qd rfl ?_
  refine z0w ?_
  obtain ⟨h6,H⟩:=gif H
  refine z32 (fun (k4:Nat) (s:Bs)=>[(1,.ptr 1 0),(3,.dat (vstr s)),(15,.dat (vlst (List.map z0y v1.Products))),(16,.dat (vint (v1.Products.length:Int))),(17,.dat (vint (k4:Int)))]) (fun (k4:Nat) (s:Bs)=>[(1,.box none 29 [.dat (vlst (List.map z0y v1.Products)),.dat (vlst (List.map z01 v1.Plans))])]) [] H ⟨rfl,rfl,rfl,rfl,rfl,trivial⟩ ⟨rfl,trivial⟩ (fun _ _=>rfl) ?_ ?_
  ·rintro v3 H
   replace H:z56 v1 v3=some r:=H
   unfold z56 at H
   refine z0c ?_
   refine z0b hN rfl ?_
   refine z0a (z03 rfl rfl) ?_
   refine z0c ?_
   refine z0k _ rfl (fun h=>(lt_t h).elim) (fun h => ?_)
   refine z1j ?_
   refine z0c ?_
   refine z0c ?_
   refine z0b hN rfl ?_
   refine z0a (z0m y0o rfl) ?_
   refine z0h (z0l y57 rfl rfl) rfl ?_
   refine z0a (z5b x1o rfl) ?_
   refine z0a (z4c rfl rfl) ?_
   refine z0k _ rfl (fun h8 => ?_) (fun h8 => ?_)
   ·replace H:=ift h8 H
    refine z0c ?_
    refine z0b hN rfl ?_
    refine qe rfl ?_
    refine z0t ?_
    cases H
    exact ⟨trivial,.inl rfl,trivial⟩
   ·replace H:=iff_ h8 H
    refine z0q ?_
    refine z0c ?_
    refine z0b hN rfl ?_
    refine qe rfl ?_
    refine z0c ?_
    refine z0c ?_
    refine z0b hN rfl ?_
    refine z0a (z0m y0o rfl) ?_
    refine z0h (z0l y57 rfl rfl) rfl ?_
    refine z0a (z5b x1o rfl) ?_
    refine qd rfl ?_
    refine z0w ?_
    obtain ⟨h12,H⟩:=gif H
    refine z32 (fun (k10:Nat) (s:Bs)=>[(1,.ptr 1 0),(3,.dat (vstr s)),(45,.dat (vlst (List.map z01 v1.Plans))),(46,.dat (vint (v1.Plans.length:Int))),(47,.dat (vint (k10:Int)))]) (fun (k10:Nat) (s:Bs)=>[(1,.box none 29 [.dat (vlst (List.map z0y v1.Products)),.dat (vlst (List.map z01 v1.Plans))])]) [] H ⟨rfl,rfl,rfl,rfl,rfl,trivial⟩ ⟨rfl,trivial⟩ (fun _ _=>rfl) ?_ ?_
    ·rintro v9 H
     replace H:z91 v9=some r:=H
     unfold z91 at H
     refine z0c ?_
     refine z0b hN rfl ?_
     refine z0a (z03 rfl rfl) ?_
     refine z0c ?_
     refine z0k _ rfl (fun h=>(lt_t h).elim) (fun h => ?_)
     refine z1j ?_
     refine z0c ?_
     refine z0b hN rfl ?_
     refine qe rfl ?_
     refine z0t ?_
     cases H
     exact ⟨trivial,.inl rfl,trivial⟩
    ·rintro k10 x13 v9 q11 h14 h15 H hq11
     replace H:z9z v1 k10 x13 v9=some q11:=H
     unfold z9z at H
     refine z0c ?_
     refine z0b hN rfl ?_
     refine z0a (z03 rfl rfl) ?_
     refine z0c ?_
     refine z0k _ rfl (fun h => ?_) (fun h=>(lt_f h14 h).elim)
     refine z0q ?_
     refine z0c ?_
     refine z0w ?_
     refine z0c ?_
     refine z0b hN rfl ?_
     refine z0a (y2a x0b (fun _=>rfl) rfl rfl h15) ?_
     refine z0a (z2l y47 rfl (z3e h15) rfl) ?_
     refine z0g (z1m 2 y80 rfl) rfl ?_
     refine z0g (z08 y47 rfl rfl rfl rfl) rfl ?_
     refine z0c ?_
     refine z0w ?_
     refine z0c ?_
     refine z0b hN rfl ?_
     refine z0a (z0m y4l rfl) ?_
     refine z0h (z0l tyS9 rfl rfl) rfl ?_
     obtain ⟨r16,h17,H⟩:=bnd H
     refine z0a (z0z (y30 x13.Key r16 h17) ⟨.inl rfl,trivial⟩) ?_
     refine z0a (z3s rfl) ?_
     refine qe rfl ?_
     refine z0k _ rfl (fun h18 => ?_) (fun h18 => ?_)
     ·replace H:=ift h18 H
      refine z0c ?_
      refine z0b hN rfl ?_
      refine qe rfl ?_
      refine z0t ?_
      replace H:=retl H hq11
      cases H
      exact ⟨trivial,.inl rfl,trivial⟩
     ·replace H:=iff_ h18 H
      refine z0c ?_
      refine z0b hN rfl ?_
      refine z0a (z0m y4l rfl) ?_
      refine z0h (z0l tyS9 rfl rfl) rfl ?_
      refine qd rfl ?_
      refine z0a (y8k rfl rfl) ?_
      refine qe rfl ?_
      refine z0k _ rfl (fun h19 => ?_) (fun h19 => ?_)
      ·replace H:=ift h19 H
       refine z0c ?_
       refine z0b hN rfl ?_
       refine qe rfl ?_
       refine z0t ?_
       replace H:=retl H hq11
       cases H
       exact ⟨trivial,.inl rfl,trivial⟩
      ·replace H:=iff_ h19 H
       refine z0q ?_
       refine z0c ?_
       refine z0b hN rfl ?_
       refine z0a (z0m y4l rfl) ?_
       refine z0h (z0l tyS9 rfl rfl) rfl ?_
       refine qe rfl ?_
       refine z0c ?_
       refine z0b hN rfl ?_
       refine z0h (z06 z5x rfl rfl rfl) rfl ?_
       refine z0h (z06 y47 rfl rfl rfl) rfl ?_
       obtain ⟨r20,h21,H⟩:=bnd H
       refine z0a (z0z (y8u v1 x13 r20 h21) ⟨.inl rfl,.inl rfl,trivial⟩) ?_
       refine qe rfl ?_
       refine z0c ?_
       refine z0b hN rfl ?_
       refine qd rfl ?_
       refine z0a (z6y rfl rfl) ?_
       refine z0k _ rfl (fun h22 => ?_) (fun h22 => ?_)
       ·replace H:=ift h22 H
        refine z0c ?_
        refine z0b hN rfl ?_
        refine qd rfl ?_
        refine qe rfl ?_
        refine z0t ?_
        replace H:=retl H hq11
        cases H
        exact ⟨trivial,.inl rfl,trivial⟩
       ·replace H:=iff_ h22 H
        refine z0q ?_
        refine z0b hN rfl ?_
        refine z0a (z3h rfl rfl (by omega)) ?_
        refine qd rfl ?_
        exact ⟨_,z5d H,⟨rfl,rfl,rfl,rfl,rfl,trivial⟩,⟨rfl,trivial⟩⟩
  ·rintro k4 x7 v3 q5 h23 h24 H hq5
   replace H:z90 k4 x7 v3=some q5:=H
   unfold z90 at H
   refine z0c ?_
   refine z0b hN rfl ?_
   refine z0a (z03 rfl rfl) ?_
   refine z0c ?_
   refine z0k _ rfl (fun h => ?_) (fun h=>(lt_f h23 h).elim)
   refine z0q ?_
   refine z0c ?_
   refine z0w ?_
   refine z0c ?_
   refine z0b hN rfl ?_
   refine z0a (y2a x9i (fun _=>rfl) rfl rfl h24) ?_
   refine z0a (z2l x1p rfl (z3e h24) rfl) ?_
   refine z0g (z1m 3 x0w rfl) rfl ?_
   refine z0g (z08 x1p rfl rfl rfl rfl) rfl ?_
   refine z0c ?_
   refine z0w ?_
   refine z0c ?_
   refine z0b hN rfl ?_
   refine z0a (z0m y6q rfl) ?_
   refine z0h (z0l tyS9 rfl rfl) rfl ?_
   obtain ⟨r25,h26,H⟩:=bnd H
   refine z0a (z0z (y30 x7.Key r25 h26) ⟨.inl rfl,trivial⟩) ?_
   refine z0a (z3s rfl) ?_
   refine qe rfl ?_
   refine z0k _ rfl (fun h27 => ?_) (fun h27 => ?_)
   ·replace H:=ift h27 H
    refine z0c ?_
    refine z0b hN rfl ?_
    refine qe rfl ?_
    refine z0t ?_
    replace H:=retl H hq5
    cases H
    exact ⟨trivial,.inl rfl,trivial⟩
   ·replace H:=iff_ h27 H
    refine z0c ?_
    refine z0b hN rfl ?_
    refine z0a (z0m y6q rfl) ?_
    refine z0h (z0l tyS9 rfl rfl) rfl ?_
    refine qd rfl ?_
    refine z0a (y8k rfl rfl) ?_
    refine qe rfl ?_
    refine z0k _ rfl (fun h28 => ?_) (fun h28 => ?_)
    ·replace H:=ift h28 H
     refine z0c ?_
     refine z0b hN rfl ?_
     refine qe rfl ?_
     refine z0t ?_
     replace H:=retl H hq5
     cases H
     exact ⟨trivial,.inl rfl,trivial⟩
    ·replace H:=iff_ h28 H
     refine z0q ?_
     refine z0c ?_
     refine z0b hN rfl ?_
     refine z0a (z0m y6q rfl) ?_
     refine z0h (z0l tyS9 rfl rfl) rfl ?_
     refine qe rfl ?_
     refine z0c ?_
     refine z0b hN rfl ?_
     refine z0a (z0m x72 rfl) ?_
     refine z0h (z0l w5d rfl rfl) rfl ?_
     obtain ⟨r29,h30,H⟩:=bnd H
     refine z0a (z0z (y7w x7.Scopes r29 h30) ⟨.inl rfl,trivial⟩) ?_
     refine qe rfl ?_
     refine z0c ?_
     refine z0b hN rfl ?_
     refine qd rfl ?_
     refine z0a (z6y rfl rfl) ?_
     refine z0k _ rfl (fun h31 => ?_) (fun h31 => ?_)
     ·replace H:=ift h31 H
      refine z0c ?_
      refine z0b hN rfl ?_
      refine qd rfl ?_
      refine qe rfl ?_
      refine z0t ?_
      replace H:=retl H hq5
      cases H
      exact ⟨trivial,.inl rfl,trivial⟩
     ·replace H:=iff_ h31 H
      refine z0q ?_
      refine z0b hN rfl ?_
      refine z0a (z3h rfl rfl (by omega)) ?_
      refine qd rfl ?_
      exact ⟨_,z5d H,⟨rfl,rfl,rfl,rfl,rfl,trivial⟩,⟨rfl,trivial⟩⟩
theorem y6h  (r:(z0o)) (H:z9h  = some r):Fn Tryz.prog 61 [] (z1x [vagg (z1g r)]):=by
 refine ⟨by kernel_rfl,z1s (us:=[vagg (z1g r)]) Tryz.func61 rfl rfl rfl rfl fun X hN => ?_⟩
 unfold z9h at H
 refine z0c ?_
 refine z0b hN rfl ?_
 refine z0g (z1m 1 y6x rfl) rfl ?_
 refine z0c ?_
 refine z0b hN rfl ?_
 refine z0a (z09 (u':=vagg (z1g (z0o.mk 0 [] 0 (-1)))) (z3k [(3,[vint (-1)])] y6x w3o rfl ⟨rfl,.inl ⟨_,rfl,rfl,rfl⟩,rfl,trivial⟩) rfl) ?_
 refine z0g (z08 z6k rfl rfl rfl rfl) rfl ?_
 refine z0t ?_
 cases H
 exact ⟨trivial,.inl ⟨_,_,_,z1g (z0o.mk 0 [] 0 (-1)),rfl,rfl,rfl,rfl,z6k⟩,trivial⟩
theorem y3b (s1:(List z0p)) (p1:z0p→Option (Bool)) (fv1:Nat) (us1:List V) (hp1:∀ a0 r,p1 a0=some r→Fn Tryz.prog fv1 ([vagg (z01 a0)]++us1) (z1x [z1p r])) (r:(Int)) (H:z4g s1 p1=some r):Fn Tryz.prog 99 [vlst (List.map z01 s1),vfn fv1 us1] (z1x [vint r]):=by
 refine ⟨by kernel_rfl,z1s (us:=[vint r]) Tryz.func99 rfl rfl rfl rfl fun X hN => ?_⟩
 unfold z4g at H
 refine z0c ?_
 refine z0b hN rfl ?_
 refine qe rfl ?_
 refine z0c ?_
 refine z0c ?_
 refine z0b hN rfl ?_
 refine qd rfl ?_
 refine z0a (z5b x1o rfl) ?_
 refine qd rfl ?_
 refine z0w ?_
 obtain ⟨h4,H⟩:=gif H
 refine z32 (fun (k2:Nat) (s:Unit)=>[(0,.dat (vlst (List.map z01 s1))),(1,.dat (vfn fv1 us1)),(7,.dat (vint (s1.length:Int))),(8,.dat (vint (k2:Int)))]) (fun (k2:Nat) (s:Unit)=>[]) () H ⟨rfl,rfl,rfl,rfl,trivial⟩ trivial (fun _ _=>rfl) ?_ ?_
 ·rintro ⟨⟩ H
  replace H:z55=some r:=H
  unfold z55 at H
  refine z0c ?_
  refine z0b hN rfl ?_
  refine z0a (z03 rfl rfl) ?_
  refine z0c ?_
  refine z0k _ rfl (fun h=>(lt_t h).elim) (fun h => ?_)
  refine z1j ?_
  refine z0c ?_
  refine z0b hN rfl ?_
  refine qe rfl ?_
  refine z0t ?_
  cases H
  exact ⟨trivial,.inl rfl,trivial⟩
 ·rintro k2 x5 ⟨⟩ q3 h6 h7 H hq3
  replace H:z54 p1 k2 x5=some q3:=H
  unfold z54 at H
  refine z0c ?_
  refine z0b hN rfl ?_
  refine z0a (z03 rfl rfl) ?_
  refine z0c ?_
  refine z0k _ rfl (fun h => ?_) (fun h=>(lt_f h6 h).elim)
  refine z0q ?_
  refine z0c ?_
  refine z0w ?_
  refine z0c ?_
  refine z0b hN rfl ?_
  refine qd rfl ?_
  refine qe rfl ?_
  refine z0c ?_
  refine z0b hN rfl ?_
  refine qd rfl ?_
  refine qd rfl ?_
  refine qd rfl ?_
  refine z0a (y2a x0b (fun _=>rfl) rfl rfl h7) ?_
  refine z0a (z2l y47 rfl (z3e h7) rfl) ?_
  obtain ⟨r8,h9,H⟩:=bnd H
  refine z0a (z9f (hp1 x5 r8 h9) rfl ⟨.inl rfl,trivial⟩) ?_
  refine z0k _ rfl (fun h10 => ?_) (fun h10 => ?_)
  ·replace H:=ift h10 H
   refine z0c ?_
   refine z0b hN rfl ?_
   refine qd rfl ?_
   refine qe rfl ?_
   refine z0t ?_
   replace H:=retl H hq3
   cases H
   exact ⟨trivial,.inl rfl,trivial⟩
  ·replace H:=iff_ h10 H
   refine z0q ?_
   refine z0b hN rfl ?_
   refine z0a (z3h rfl rfl (by omega)) ?_
   refine qd rfl ?_
   exact ⟨_,z5d H,⟨rfl,rfl,rfl,rfl,trivial⟩,trivial⟩
theorem y9g (p1:z0p) (c2:Bs) (r:(Bool)) (H:z8w p1 c2=some r):Fn Tryz.prog 100 [vagg (z01 p1),y38 [[vstr c2]] 0 0] (z1x [z1p r]):=by
 refine ⟨by kernel_rfl,z1s (us:=[z1p r]) Tryz.func100 rfl rfl rfl rfl fun X hN => ?_⟩
 unfold z8w at H
 refine z0c ?_
 refine z0b hN rfl ?_
 refine z0g (z16 1 rfl) rfl ?_
 refine qe rfl ?_
 refine z0c ?_
 refine z0b hN rfl ?_
 refine z0a (z0m y4l rfl) ?_
 refine z0h (z0l tyS9 rfl rfl) rfl ?_
 refine z0a (z24 tyS9 rfl rfl rfl) ?_
 refine z0a (y5y rfl rfl) ?_
 refine qe rfl ?_
 refine z0t ?_
 cases H
 exact ⟨trivial,.inl rfl,trivial⟩
theorem y14 (c1:z0i) (key2:Bs) (r:(Int)) (H:z3v c1 key2=some r):Fn Tryz.prog 62 [vagg (z1h c1),vstr key2] (z1x [vint r]):=by
 refine ⟨by kernel_rfl,z1s (us:=[vint r]) Tryz.func62 rfl rfl rfl rfl fun X hN => ?_⟩
 unfold z3v at H
 refine z0c ?_
 refine z0b hN rfl ?_
 refine z0g (z16 1 rfl) rfl ?_
 refine z0g (y9n 2 rfl rfl) rfl ?_
 refine qe rfl ?_
 refine z0c ?_
 refine y98 2 [vstr key2] rfl rfl ?_
 refine z0b hN rfl ?_
 refine z0a (z0m y0o rfl) ?_
 refine z0h (z0l y57 rfl rfl) rfl ?_
 refine z0a (x1f (us:=[_]) ⟨rfl,trivial⟩) ?_
 obtain ⟨r3,h4,H⟩:=bnd H
 refine z0a (z0z (y3b c1.Plans (fun (a0:z0p)=>z8w a0 key2) 100 [y38 [[vstr key2]] 0 0] (fun a0 r h=>y9g a0 key2 r h) r3 h4) ⟨.inl rfl,.inl rfl,trivial⟩) ?_
 refine qe rfl ?_
 refine z0t ?_
 cases H
 exact ⟨trivial,.inl rfl,trivial⟩
end Go.Proofs.YthmmalklamiefaaGreatDoor
