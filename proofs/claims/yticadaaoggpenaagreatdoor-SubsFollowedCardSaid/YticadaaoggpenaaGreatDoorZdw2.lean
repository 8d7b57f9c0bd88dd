/- Walks along the models. Printed by a program. -/
import Derived.Test.YticadaaoggpenaaGreatDoorZdw1
namespace Go.Proofs.YticadaaoggpenaaGreatDoor
open Go.RowKit
set_option linter.unusedVariables false
set_option maxRecDepth 20000
set_option maxHeartbeats 2000000
theorem z68 (data1:(List z0e)) (a2:Int) (b3:Int) (p3:z0e→z0e→Option (Int)) (fv3:Nat) (us3:List V) (hp3:∀ a0 a1 r,p3 a0 a1=some r→Fn Tryz.prog fv3 ([vagg (z0w a0),vagg (z0w a1)]++us3) (z1x [vint r])) (r:((List z0e))) (H:z3p data1 a2 b3 p3=some r):FnG Tryz.prog 133 [.row 0 data1.length,.dat (vint a2),.dat (vint b3),.dat (vfn fv3 us3)] [(0,.rowA undef 99 5 (List.map z0w data1))] (.dat (z1x [])) [(0,.rowA undef 99 5 (List.map z0w r))]:=by
 refine y65 (by kernel_rfl) Tryz.func133 rfl rfl rfl rfl fun X A hN => ?_
 unfold z3p at H
 refine z0c ?_
 refine z0b hN rfl ?_
 refine qd rfl ?_
 refine z0a (z1s _ rfl rfl (.inl ⟨rfl,rfl⟩)) ?_
 refine qe rfl ?_
 refine z0y ?_
 refine y23 (fun (s:Int×(List z0e))=>[(0,.row 0 s.2.length),(1,.dat (vint a2)),(2,.dat (vint b3)),(3,.dat (vfn fv3 us3)),(8,.dat (vint s.1))]) (fun (s:Int×(List z0e))=>[(0,.rowA (A.vl 0) 99 5 (List.map z0w s.2))]) (wr (a2+1),data1) H ⟨rfl,rfl,rfl,rfl,rfl,trivial⟩ ⟨rfl,trivial⟩ (fun _=>rfl) ?_
 rintro ⟨i4,l5⟩ q6 H hq6
 replace H:z40 a2 b3 p3 i4 l5=some q6:=H
 unfold z40 at H
 refine z0c ?_
 refine z0c ?_
 refine z0b hN rfl ?_
 refine qd rfl ?_
 refine qd rfl ?_
 refine z0a (z05 rfl rfl) ?_
 refine z0i _ rfl (fun h7 => ?_) (fun h7 => ?_)
 ·replace H:=ift h7 H
  refine z0s ?_
  refine z1a (ι:=(List z0e)) (fun i=>[(0,.row 0 i.length),(1,.dat (vint a2)),(2,.dat (vint b3)),(3,.dat (vfn fv3 us3)),(8,.dat (vint i4))]) (fun i=>[(0,.rowA (A.vl 0) 99 5 (List.map z0w i))]) (fun i=>z3l i4 i=some q6) (fun i=>rfl) ?_ ?_
  ·skip
   refine z0y ?_
   refine z0c ?_
   refine z0b hN rfl ?_
   refine qd rfl ?_
   refine qe rfl ?_
   refine z0y ?_
   refine y23 (fun (s:Int×(List z0e))=>[(0,.row 0 s.2.length),(1,.dat (vint a2)),(2,.dat (vint b3)),(3,.dat (vfn fv3 us3)),(8,.dat (vint i4)),(9,.dat (vint s.1))]) (fun (s:Int×(List z0e))=>[(0,.rowA (A.vl 0) 99 5 (List.map z0w s.2))]) (i4,l5) H ⟨rfl,rfl,rfl,rfl,rfl,rfl,trivial⟩ ⟨rfl,trivial⟩ (fun _=>rfl) ?_
   rintro ⟨j8,l9⟩ q10 H hq10
   replace H:z4z a2 p3 i4 j8 l9=some q10:=H
   unfold z4z at H
   refine z0c ?_
   refine z1a (ι:=Bool) (fun i=>[(0,.row 0 l9.length),(1,.dat (vint a2)),(2,.dat (vint b3)),(3,.dat (vfn fv3 us3)),(8,.dat (vint i4)),(9,.dat (vint j8)),(34,.dat (z1e i))]) (fun i=>[(0,.rowA (A.vl 0) 99 5 (List.map z0w l9))]) (fun i=>z2o i4 j8 l9 i=some q10) (fun i=>rfl) ?_ ?_
   ·skip
    refine z3q mixed hN rfl rfl ?_
    refine qd rfl ?_
    refine qd rfl ?_
    refine z0a (z5n rfl rfl) ?_
    refine qd rfl ?_
    refine z19 (j:=3) rfl rfl (fun h11 => ?_) (fun h11 => ?_) rfl
    ·have h12:=un1 h11
     replace H:=ift h12 H
     refine z03 rfl rfl h11 (z0k (.dat _) rfl) ?_
     refine z03 rfl rfl h11 (z0k (.row _ _) rfl) ?_
     refine z03 rfl rfl h11 (z0k (.dat _) rfl) ?_
     obtain ⟨x13,h14,H⟩:=bnd H
     refine z7k rfl rfl h11 (y76 y4a rfl rfl rfl h14) rfl ?_
     refine z7k rfl rfl h11 (y7i y1o rfl rfl (z2m h14).2 rfl) rfl ?_
     refine z03 rfl rfl h11 (z0k (.row _ _) rfl) ?_
     refine z03 rfl rfl h11 (z0k (.dat _) rfl) ?_
     refine z03 rfl rfl h11 (z1s _ rfl rfl (.inr (.inl ⟨rfl,rfl⟩))) ?_
     obtain ⟨x15,h16,H⟩:=bnd H
     refine z7k rfl rfl h11 (y76 y4a rfl rfl rfl h16) rfl ?_
     refine z7k rfl rfl h11 (y7i y1o rfl rfl (z2m h16).2 rfl) rfl ?_
     obtain ⟨r17,h18,H⟩:=bnd H
     refine z03 rfl rfl h11 (z9v (hp3 x13 x15 r17 h18) rfl ⟨.inl rfl,.inl rfl,trivial⟩) ?_
     refine z03 rfl rfl h11 (z05 rfl rfl) ?_
     refine z0a (z1p rfl (bTT h12) rfl) ?_
     refine ⟨rfl,?_⟩
     exact ⟨decide (r17 < 0),H,⟨rfl,rfl,rfl,rfl,rfl,rfl,rfl,trivial⟩,⟨rfl,trivial⟩⟩
    ·have h19:=un2 h11
     replace H:=iff_ h19 H
     refine z0l rfl rfl h11 ?_
     refine z0l rfl rfl h11 ?_
     refine z0l rfl rfl h11 ?_
     refine z0l rfl rfl h11 ?_
     refine z0l rfl rfl h11 ?_
     refine z0l rfl rfl h11 ?_
     refine z0l rfl rfl h11 ?_
     refine z0l rfl rfl h11 ?_
     refine z0l rfl rfl h11 ?_
     refine z0l rfl rfl h11 ?_
     refine z0l rfl rfl h11 ?_
     refine z0l rfl rfl h11 ?_
     refine z0a (z1b rfl (bFF h19) rfl) ?_
     refine ⟨rfl,?_⟩
     exact ⟨false,H,⟨rfl,rfl,rfl,rfl,rfl,rfl,rfl,trivial⟩,⟨rfl,trivial⟩⟩
   ·rintro v20 H
    replace H:z2o i4 j8 l9 v20=some q10:=H
    unfold z2o at H
    refine z0i _ rfl (fun h21 => ?_) (fun h21 => ?_)
    ·replace H:=ift h21 H
     refine z0s ?_
     refine z0c ?_
     refine z0y ?_
     refine z3q mixed hN rfl rfl ?_
     refine z0a (z0k (.row _ _) rfl) ?_
     refine qd rfl ?_
     refine z0a (z0k (.row _ _) rfl) ?_
     refine qd rfl ?_
     refine z0a (z1s _ rfl rfl (.inr (.inl ⟨rfl,rfl⟩))) ?_
     refine z0a (z0k (.row _ _) rfl) ?_
     refine qd rfl ?_
     refine z0a (z1s _ rfl rfl (.inr (.inl ⟨rfl,rfl⟩))) ?_
     obtain ⟨x22,h23,H⟩:=bnd H
     refine z0j (y76 y4a rfl rfl rfl h23) rfl ?_
     refine z0j (y7i y1o rfl rfl (z2m h23).2 rfl) rfl ?_
     refine z0a (z0k (.row _ _) rfl) ?_
     refine qd rfl ?_
     obtain ⟨x24,h25,H⟩:=bnd H
     refine z0j (y76 y4a rfl rfl rfl h25) rfl ?_
     refine z0j (y7i y1o rfl rfl (z2m h25).2 rfl) rfl ?_
     refine z0j (y76 y4a rfl rfl rfl h25) rfl ?_
     refine z0f (x3r (C:=z0w) y1o rfl rfl rfl (w6o (z2m h25).2) rfl rfl) rfl ?_
     obtain ⟨x26,h27,H⟩:=bnd H
     refine z0j (y76 y4a rfl (by simp) rfl h27) rfl ?_
     refine z0f (x3r (C:=z0w) y1o rfl rfl (by simp) (w6o (z2m h27).2) rfl rfl) rfl ?_
     refine ⟨rfl,?_⟩
     refine z0b hN rfl ?_
     refine qd rfl ?_
     refine z0a (z1s _ rfl rfl (.inr (.inl ⟨rfl,rfl⟩))) ?_
     refine qe rfl ?_
     exact ⟨_,z63 H,⟨congrArg (Slot.row 0) (by simp),rfl,rfl,rfl,rfl,rfl,trivial⟩,⟨rfl,trivial⟩⟩
    ·replace H:=iff_ h21 H
     refine z1v ?_
     replace H:=outl H hq10
     exact ⟨l9,H,⟨rfl,rfl,rfl,rfl,rfl,trivial⟩,⟨rfl,trivial⟩⟩
  ·rintro data28 H
   replace H:z3l i4 data28=some q6:=H
   unfold z3l at H
   refine z0b hN rfl ?_
   refine qd rfl ?_
   refine z0a (z1s _ rfl rfl (.inl ⟨rfl,rfl⟩)) ?_
   refine qe rfl ?_
   exact ⟨_,z63 H,⟨rfl,rfl,rfl,rfl,rfl,trivial⟩,⟨rfl,trivial⟩⟩
 ·replace H:=iff_ h7 H
  refine z1v ?_
  replace H:=retl H hq6
  have eH:l5=r:=Option.some.inj H
  subst eH
  exact ⟨trivial,[],trivial,⟨rfl,trivial⟩,rfl,.inl ⟨[],trivial,rfl⟩⟩
theorem y2q (data1:(List z0e)) (n2:Int) (p2:z0e→z0e→Option (Int)) (fv2:Nat) (us2:List V) (hp2:∀ a0 a1 r,p2 a0 a1=some r→Fn Tryz.prog fv2 ([vagg (z0w a0),vagg (z0w a1)]++us2) (z1x [vint r])) (r:((List z0e))) (H:z42 data1 n2 p2=some r):FnG Tryz.prog 91 [.row 0 data1.length,.dat (vint n2),.dat (vfn fv2 us2)] [(0,.rowA undef 99 5 (List.map z0w data1))] (.dat (z1x [])) [(0,.rowA undef 99 5 (List.map z0w r))]:=by
 refine y65 (by kernel_rfl) Tryz.func91 rfl rfl rfl rfl fun X A hN => ?_
 unfold z42 at H
 refine z0c ?_
 refine z0b hN rfl ?_
 refine qe rfl ?_
 refine z0c ?_
 refine z0b hN rfl ?_
 refine qd rfl ?_
 refine qe rfl ?_
 refine qe rfl ?_
 refine z1a (ι:=Int×(List z0e)) (fun i=>[(0,.row 0 i.2.length),(1,.dat (vint n2)),(2,.dat (vfn fv2 us2)),(6,.dat (vint 20)),(7,.dat (vint i.1))]) (fun i=>[(0,.rowA (A.vl 0) 99 5 (List.map z0w i.2))]) (fun i=>z4r n2 p2 i.1 i.2=some r) (fun i=>rfl) ?_ ?_
 ·skip
  refine z0y ?_
  refine y23 (fun (s:Int×Int×(List z0e))=>[(0,.row 0 s.2.2.length),(1,.dat (vint n2)),(2,.dat (vfn fv2 us2)),(6,.dat (vint 20)),(7,.dat (vint s.1)),(8,.dat (vint s.2.1))]) (fun (s:Int×Int×(List z0e))=>[(0,.rowA (A.vl 0) 99 5 (List.map z0w s.2.2))]) (0,20,data1) H ⟨rfl,rfl,rfl,rfl,rfl,rfl,trivial⟩ ⟨rfl,trivial⟩ (fun _=>rfl) ?_
  rintro ⟨a3,b4,l5⟩ q6 H hq6
  replace H:z6l n2 p2 a3 b4 l5=some q6:=H
  unfold z6l at H
  refine z0c ?_
  refine z0c ?_
  refine z0b hN rfl ?_
  refine qd rfl ?_
  refine qd rfl ?_
  refine z0a (y3u rfl rfl) ?_
  refine z0i _ rfl (fun h7 => ?_) (fun h7 => ?_)
  ·replace H:=ift h7 H
   refine z0s ?_
   refine z0y ?_
   refine z0c ?_
   refine z0b hN rfl ?_
   refine z0a (z0k (.row _ _) rfl) ?_
   refine qd rfl ?_
   refine qd rfl ?_
   refine qd rfl ?_
   obtain ⟨r8,h9,H⟩:=bnd H
   obtain ⟨h10,H⟩:=gif H
   refine z7u (rn [(0,0)]) [(0,_,_,some _)] [] (z68 l5 a3 b4 p2 fv2 us2 hp2 r8 h9) ⟨rfl,trivial⟩ ⟨.inl (.inl rfl),.inl (.inl rfl),.inl (.inl rfl),.inl (.inl rfl),trivial⟩ ⟨⟨⟨rfl,rfl,rfl⟩,by simp [y8v,h10]⟩,trivial⟩ rfl ?_
   refine z0c ?_
   refine z0b hN rfl ?_
   refine qd rfl ?_
   refine qe rfl ?_
   refine z0b hN rfl ?_
   refine qd rfl ?_
   refine qd rfl ?_
   refine z0a (z1s _ rfl rfl (.inl ⟨rfl,rfl⟩)) ?_
   refine qe rfl ?_
   exact ⟨_,z63 H,⟨congrArg (Slot.row 0) ((h10).symm).symm,rfl,rfl,rfl,rfl,rfl,trivial⟩,⟨rfl,trivial⟩⟩
  ·replace H:=iff_ h7 H
   refine z1v ?_
   replace H:=outl H hq6
   exact ⟨(a3,l5),H,⟨rfl,rfl,rfl,rfl,rfl,trivial⟩,⟨rfl,trivial⟩⟩
 ·rintro ⟨a11,data12⟩ H
  replace H:z4r n2 p2 a11 data12=some r:=H
  unfold z4r at H
  refine z0c ?_
  refine z0b hN rfl ?_
  refine z0a (z0k (.row _ _) rfl) ?_
  refine qd rfl ?_
  refine qd rfl ?_
  refine qd rfl ?_
  obtain ⟨r13,h14,H⟩:=bnd H
  obtain ⟨h15,H⟩:=gif H
  refine z7u (rn [(0,0)]) [(0,_,_,some _)] [] (z68 data12 a11 n2 p2 fv2 us2 hp2 r13 h14) ⟨rfl,trivial⟩ ⟨.inl (.inl rfl),.inl (.inl rfl),.inl (.inl rfl),.inl (.inl rfl),trivial⟩ ⟨⟨⟨rfl,rfl,rfl⟩,by simp [y8v,h15]⟩,trivial⟩ rfl ?_
  refine z0y ?_
  refine y23 (fun (s:Int)=>[(0,.row 0 data12.length),(1,.dat (vint n2)),(2,.dat (vfn fv2 us2)),(6,.dat (vint s))]) (fun (s:Int)=>[(0,.rowA (A.vl 0) 99 5 (List.map z0w r13))]) 20 H ⟨rfl,rfl,rfl,rfl,trivial⟩ ⟨rfl,trivial⟩ (fun _=>rfl) ?_
  rintro blockSize16 q17 H hq17
  replace H:z6k n2 r13 blockSize16=some q17:=H
  unfold z6k at H
  refine z0c ?_
  refine z0c ?_
  refine z0b hN rfl ?_
  refine qd rfl ?_
  refine qd rfl ?_
  refine z0a (z05 rfl rfl) ?_
  refine z0i _ rfl (fun h18 => ?_) (fun h18 => ?_)
  ·replace H:=ift h18 H
   refine z0s ?_
   refine z0y ?_
   refine z0c ?_
   refine z0b hN rfl ?_
   refine qd rfl ?_
   refine z0a (z1s _ rfl rfl (.inr (.inr ⟨rfl,rfl⟩))) ?_
   refine qe rfl ?_
   refine qe rfl ?_
   refine z1a (ι:=Int) (fun i=>[(0,.row 0 data12.length),(1,.dat (vint n2)),(2,.dat (vfn fv2 us2)),(6,.dat (vint blockSize16)),(7,.dat (vint i))]) (fun i=>[(0,.rowA (A.vl 0) 99 5 (List.map z0w r13))]) (fun i=>z4q n2 blockSize16 i=some q17) (fun i=>rfl) ?_ ?_
   ·skip
    refine z0y ?_
    refine y23 (fun (s:Int×Int)=>[(0,.row 0 data12.length),(1,.dat (vint n2)),(2,.dat (vfn fv2 us2)),(6,.dat (vint blockSize16)),(7,.dat (vint s.1)),(8,.dat (vint s.2))]) (fun (s:Int×Int)=>[(0,.rowA (A.vl 0) 99 5 (List.map z0w r13))]) (0,wr (2 * blockSize16)) H ⟨rfl,rfl,rfl,rfl,rfl,rfl,trivial⟩ ⟨rfl,trivial⟩ (fun _=>rfl) ?_
    rintro ⟨a19,b20⟩ q21 H hq21
    replace H:z6j n2 blockSize16 a19 b20=some q21:=H
    unfold z6j at H
    refine z0c ?_
    refine z0c ?_
    refine z0b hN rfl ?_
    refine qd rfl ?_
    refine qd rfl ?_
    refine z0a (y3u rfl rfl) ?_
    refine z0i _ rfl (fun h22 => ?_) (fun h22 => ?_)
    ·replace H:=ift h22 H
     cases H
    ·replace H:=iff_ h22 H
     refine z1v ?_
     replace H:=outl H hq21
     exact ⟨a19,H,⟨rfl,rfl,rfl,rfl,rfl,trivial⟩,⟨rfl,trivial⟩⟩
   ·rintro a23 H
    replace H:z4q n2 blockSize16 a23=some q17:=H
    unfold z4q at H
    refine z1a (ι:=Unit) (fun i=>[(0,.row 0 data12.length),(1,.dat (vint n2)),(2,.dat (vfn fv2 us2)),(6,.dat (vint blockSize16))]) (fun i=>[(0,.rowA (A.vl 0) 99 5 (List.map z0w r13))]) (fun i=>z4p blockSize16=some q17) (fun i=>rfl) ?_ ?_
    ·skip
     refine z0c ?_
     refine z0b hN rfl ?_
     refine qd rfl ?_
     refine qd rfl ?_
     refine z0a (z1s _ rfl rfl (.inl ⟨rfl,rfl⟩)) ?_
     refine qe rfl ?_
     refine z0c ?_
     refine z0b hN rfl ?_
     refine qd rfl ?_
     refine qd rfl ?_
     refine z0a (z05 rfl rfl) ?_
     refine z0i _ rfl (fun h24 => ?_) (fun h24 => ?_)
     ·replace H:=ift h24 H
      cases H
     ·replace H:=iff_ h24 H
      refine z0s ?_
      exact ⟨(),H,⟨rfl,rfl,rfl,rfl,trivial⟩,⟨rfl,trivial⟩⟩
    ·rintro ⟨⟩ H
     replace H:z4p blockSize16=some q17:=H
     unfold z4p at H
     refine z0b hN rfl ?_
     refine qd rfl ?_
     refine z0a (z1s _ rfl rfl (.inr (.inr ⟨rfl,rfl⟩))) ?_
     refine qe rfl ?_
     exact ⟨_,z63 H,⟨rfl,rfl,rfl,rfl,trivial⟩,⟨rfl,trivial⟩⟩
  ·replace H:=iff_ h18 H
   refine z1v ?_
   replace H:=retl H hq17
   have eH:r13=r:=Option.some.inj H
   subst eH
   exact ⟨trivial,[],trivial,⟨rfl,trivial⟩,rfl,.inl ⟨[],trivial,rfl⟩⟩
theorem z98 (x1:(List z0e)) (p1:z0e→z0e→Option (Int)) (fv1:Nat) (us1:List V) (hp1:∀ a0 a1 r,p1 a0 a1=some r→Fn Tryz.prog fv1 ([vagg (z0w a0),vagg (z0w a1)]++us1) (z1x [vint r])) (r:((List z0e))) (H:z1z x1 p1=some r):FnG Tryz.prog 54 [.row 0 x1.length,.dat (vfn fv1 us1)] [(0,.rowA undef 99 5 (List.map z0w x1))] (.dat (z1x [])) [(0,.rowA undef 99 5 (List.map z0w r))]:=by
 refine y65 (by kernel_rfl) Tryz.func54 rfl rfl rfl rfl fun X A hN => ?_
 unfold z1z at H
 refine z0b hN rfl ?_
 refine z0a (z0k (.row _ _) rfl) ?_
 refine z0a (z0k (.row _ _) rfl) ?_
 refine z0j (w4g y75 rfl rfl) rfl ?_
 refine qd rfl ?_
 obtain ⟨r2,h3,H⟩:=bnd H
 obtain ⟨h4,H⟩:=gif H
 refine z7u (rn [(0,0)]) [(0,_,_,some _)] [] (y2q x1 (x1.length:Int) p1 fv1 us1 hp1 r2 h3) ⟨rfl,trivial⟩ ⟨.inl (.inl rfl),.inl (.inl rfl),.inl (.inl rfl),trivial⟩ ⟨⟨⟨rfl,rfl,rfl⟩,by simp [y8v,h4]⟩,trivial⟩ rfl ?_
 have eH:r2=r:=Option.some.inj H
 subst eH
 exact ⟨trivial,[],trivial,⟨rfl,trivial⟩,rfl,.inl ⟨[],trivial,rfl⟩⟩
theorem y99 (n1:Int) (r:(Int)) (H:y1t n1=some r):Fn Tryz.prog 92 [vint n1] (z1x [vint r]):=by
 refine ⟨by kernel_rfl,z1k (us:=[vint r]) Tryz.func92 rfl rfl rfl rfl fun X hN => ?_⟩
 unfold y1t at H
 refine z0c ?_
 refine z0b hN rfl ?_
 refine qe rfl ?_
 refine z0c ?_
 refine z0y ?_
 refine z0c ?_
 refine z0b hN rfl ?_
 refine qd rfl ?_
 refine z0a (z05 rfl rfl) ?_
 refine qe rfl ?_
 refine z0i _ rfl (fun h2 => ?_) (fun h2 => ?_)
 ·replace H:=ift h2 H
  refine z0c ?_
  refine z0b hN rfl ?_
  refine qe rfl ?_
  refine z0r ?_
  cases H
  exact ⟨trivial,.inl rfl,trivial⟩
 ·replace H:=iff_ h2 H
  refine z0c ?_
  refine z0b hN rfl ?_
  refine qd rfl ?_
  refine z0a (z5n rfl rfl) ?_
  refine qe rfl ?_
  refine z0i _ rfl (fun h3 => ?_) (fun h3 => ?_)
  ·replace H:=ift h3 H
   refine z0c ?_
   refine z0b hN rfl ?_
   refine qe rfl ?_
   refine z0r ?_
   cases H
   exact ⟨trivial,.inl rfl,trivial⟩
  ·replace H:=iff_ h3 H
   refine z0s ?_
   refine z0c ?_
   refine z0b hN rfl ?_
   refine qe rfl ?_
   refine z0r ?_
   cases H
   exact ⟨trivial,.inl rfl,trivial⟩
theorem y4n (x1:Bs) (r:(Bool)) (H:z9d x1=some r):Fn Tryz.prog 166 [vstr x1] (z1x [z1e r]):=by
 refine ⟨by kernel_rfl,z1k (us:=[z1e r]) Tryz.func166 rfl rfl rfl rfl fun X hN => ?_⟩
 unfold z9d at H
 refine z0c ?_
 refine z0b hN rfl ?_
 refine qe rfl ?_
 refine z0c ?_
 refine z0b hN rfl ?_
 refine qd rfl ?_
 refine qd rfl ?_
 refine z0a (y1m rfl rfl) ?_
 refine qe rfl ?_
 refine z0r ?_
 cases H
 exact ⟨trivial,.inl rfl,trivial⟩
theorem y6j (x1:Bs) (y2:Bs) (r:(Int)) (H:z7z x1 y2=some r):Fn Tryz.prog 135 [vstr x1,vstr y2] (z1x [vint r]):=by
 refine ⟨by kernel_rfl,z1k (us:=[vint r]) Tryz.func135 rfl rfl rfl rfl fun X hN => ?_⟩
 unfold z7z at H
 refine z0c ?_
 refine z0b hN rfl ?_
 refine qe rfl ?_
 refine z0c ?_
 refine z0b hN rfl ?_
 refine qd rfl ?_
 obtain ⟨r3,h4,H⟩:=bnd H
 refine z0a (z0x (y4n x1 r3 h4) ⟨.inl rfl,trivial⟩) ?_
 refine qe rfl ?_
 refine z0c ?_
 refine z0b hN rfl ?_
 refine qd rfl ?_
 obtain ⟨r5,h6,H⟩:=bnd H
 refine z0a (z0x (y4n y2 r5 h6) ⟨.inl rfl,trivial⟩) ?_
 refine qe rfl ?_
 refine z0c ?_
 refine z0c ?_
 refine z0b hN rfl ?_
 refine qd rfl ?_
 refine z0i _ rfl (fun h7 => ?_) (fun h7 => ?_)
 ·replace H:=ift h7 H
  refine z0c ?_
  refine z0c ?_
  refine z0b hN rfl ?_
  refine qd rfl ?_
  refine z0i _ rfl (fun h8 => ?_) (fun h8 => ?_)
  ·replace H:=ift h8 H
   refine z0c ?_
   refine z0b hN rfl ?_
   refine qe rfl ?_
   refine z0r ?_
   cases H
   exact ⟨trivial,.inl rfl,trivial⟩
  ·replace H:=iff_ h8 H
   refine z0s ?_
   refine z0c ?_
   refine z0b hN rfl ?_
   refine qe rfl ?_
   refine z0r ?_
   cases H
   exact ⟨trivial,.inl rfl,trivial⟩
 ·replace H:=iff_ h7 H
  refine z0s ?_
  refine z0c ?_
  refine z0c ?_
  refine z0b hN rfl ?_
  refine qd rfl ?_
  refine z0i _ rfl (fun h9 => ?_) (fun h9 => ?_)
  ·replace H:=ift h9 H
   refine z0c ?_
   refine z0b hN rfl ?_
   refine qe rfl ?_
   refine z0r ?_
   cases H
   exact ⟨trivial,.inl rfl,trivial⟩
  ·replace H:=iff_ h9 H
   refine z0s ?_
   refine z0c ?_
   refine z0c ?_
   refine z0b hN rfl ?_
   refine qd rfl ?_
   refine qd rfl ?_
   refine z0a (w2l rfl rfl) ?_
   refine z0i _ rfl (fun h10 => ?_) (fun h10 => ?_)
   ·replace H:=ift h10 H
    refine z0c ?_
    refine z0b hN rfl ?_
    refine qe rfl ?_
    refine z0r ?_
    cases H
    exact ⟨trivial,.inl rfl,trivial⟩
   ·replace H:=iff_ h10 H
    refine z0s ?_
    refine z0c ?_
    refine z0c ?_
    refine z0b hN rfl ?_
    refine qd rfl ?_
    refine qd rfl ?_
    refine z0a (w2m rfl rfl) ?_
    refine z0i _ rfl (fun h11 => ?_) (fun h11 => ?_)
    ·replace H:=ift h11 H
     refine z0c ?_
     refine z0b hN rfl ?_
     refine qe rfl ?_
     refine z0r ?_
     cases H
     exact ⟨trivial,.inl rfl,trivial⟩
    ·replace H:=iff_ h11 H
     refine z0s ?_
     refine z0c ?_
     refine z0b hN rfl ?_
     refine qe rfl ?_
     refine z0r ?_
     cases H
     exact ⟨trivial,.inl rfl,trivial⟩
theorem y2w (s1:(List Bs)) (s2:(List Bs)) (r:(Int)) (H:z2w s1 s2=some r):Fn Tryz.prog 93 [vlst (List.map z00 s1),vlst (List.map z00 s2)] (z1x [vint r]):=by
 refine ⟨by kernel_rfl,z1k (us:=[vint r]) Tryz.func93 rfl rfl rfl rfl fun X hN => ?_⟩
 unfold z2w at H
 refine z0c ?_
 refine z0b hN rfl ?_
 refine qe rfl ?_
 refine z0c ?_
 refine z0c ?_
 refine z0b hN rfl ?_
 refine qd rfl ?_
 refine z0a (z43 y2p rfl) ?_
 refine qd rfl ?_
 refine z0y ?_
 obtain ⟨h5,H⟩:=gif H
 refine z3u (fun (k3:Nat) (s:Unit)=>[(0,.dat (vlst (List.map z00 s1))),(1,.dat (vlst (List.map z00 s2))),(9,.dat (vlst (List.map z00 s1))),(10,.dat (vint (s1.length:Int))),(11,.dat (vint (k3:Int)))]) (fun (k3:Nat) (s:Unit)=>[]) () H ⟨rfl,rfl,rfl,rfl,rfl,trivial⟩ trivial (fun _ _=>rfl) ?_ ?_
 ·rintro ⟨⟩ H
  replace H:z4t s1 s2=some r:=H
  unfold z4t at H
  refine z0c ?_
  refine z0b hN rfl ?_
  refine z0a (z05 rfl rfl) ?_
  refine z0c ?_
  refine z0i _ rfl (fun h=>(lt_t h).elim) (fun h => ?_)
  refine z1v ?_
  refine z0c ?_
  refine z0c ?_
  refine z0b hN rfl ?_
  refine qd rfl ?_
  refine z0a (z43 y2p rfl) ?_
  refine qd rfl ?_
  refine z0a (z43 y2p rfl) ?_
  refine z0a (z05 rfl rfl) ?_
  refine z0i _ rfl (fun h7 => ?_) (fun h7 => ?_)
  ·replace H:=ift h7 H
   refine z0c ?_
   refine z0b hN rfl ?_
   refine qe rfl ?_
   refine z0r ?_
   cases H
   exact ⟨trivial,.inl rfl,trivial⟩
  ·replace H:=iff_ h7 H
   refine z0s ?_
   refine z0c ?_
   refine z0b hN rfl ?_
   refine qe rfl ?_
   refine z0r ?_
   cases H
   exact ⟨trivial,.inl rfl,trivial⟩
 ·rintro k3 x6 ⟨⟩ q4 h8 h9 H hq4
  replace H:z4s s2 k3 x6=some q4:=H
  unfold z4s at H
  refine z0c ?_
  refine z0b hN rfl ?_
  refine z0a (z05 rfl rfl) ?_
  refine z0c ?_
  refine z0i _ rfl (fun h => ?_) (fun h=>(lt_f h8 h).elim)
  refine z0s ?_
  refine z0c ?_
  refine z0y ?_
  refine z0c ?_
  refine z0b hN rfl ?_
  refine qd rfl ?_
  refine z0a (y1g y5z (fun _=>rfl) rfl rfl h9) ?_
  refine z0a (z1q tyS9 rfl (z29 h9) rfl) ?_
  refine qe rfl ?_
  refine qe rfl ?_
  refine z0c ?_
  refine z0c ?_
  refine z0b hN rfl ?_
  refine qd rfl ?_
  refine qd rfl ?_
  refine z0a (z43 y2p rfl) ?_
  refine z0a (y5o rfl rfl) ?_
  refine z0i _ rfl (fun h10 => ?_) (fun h10 => ?_)
  ·replace H:=ift h10 H
   refine z0c ?_
   refine z0b hN rfl ?_
   refine qe rfl ?_
   refine z0r ?_
   replace H:=retl H hq4
   cases H
   exact ⟨trivial,.inl rfl,trivial⟩
  ·replace H:=iff_ h10 H
   refine z0s ?_
   refine z0c ?_
   refine z0b hN rfl ?_
   refine qd rfl ?_
   refine qd rfl ?_
   obtain ⟨x11,h12,H⟩:=bnd H
   refine z0a (y1g y5z (fun _=>rfl) rfl rfl h12) ?_
   refine z0a (z1q tyS9 rfl (z29 h12) rfl) ?_
   refine qe rfl ?_
   refine z0c ?_
   refine z0b hN rfl ?_
   refine qd rfl ?_
   refine qd rfl ?_
   obtain ⟨r13,h14,H⟩:=bnd H
   refine z0a (z0x (y6j x6 x11 r13 h14) ⟨.inl rfl,.inl rfl,trivial⟩) ?_
   refine qe rfl ?_
   refine z0c ?_
   refine z0b hN rfl ?_
   refine qd rfl ?_
   refine z0a (z6i rfl rfl) ?_
   refine z0i _ rfl (fun h15 => ?_) (fun h15 => ?_)
   ·replace H:=ift h15 H
    refine z0c ?_
    refine z0b hN rfl ?_
    refine qd rfl ?_
    refine qe rfl ?_
    refine z0r ?_
    replace H:=retl H hq4
    cases H
    exact ⟨trivial,.inl rfl,trivial⟩
   ·replace H:=iff_ h15 H
    refine z0s ?_
    refine z0b hN rfl ?_
    refine z0a (z3v rfl rfl (by omega)) ?_
    refine qd rfl ?_
    exact ⟨_,z63 H,⟨rfl,rfl,rfl,rfl,rfl,trivial⟩,trivial⟩
theorem y1w (a1:z0e) (b2:z0e) (r:(Int)) (H:z3a a1 b2=some r):Fn Tryz.prog 55 [vagg (z0w a1),vagg (z0w b2)] (z1x [vint r]):=by
 refine ⟨by kernel_rfl,z1k (us:=[vint r]) Tryz.func55 rfl rfl rfl rfl fun X hN => ?_⟩
 unfold z3a at H
 refine z0c ?_
 refine z0b hN rfl ?_
 refine z0f (z2h 1 rfl) rfl ?_
 refine z0f (z2h 2 rfl) rfl ?_
 refine qe rfl ?_
 refine z0c ?_
 refine z0c ?_
 refine z0b hN rfl ?_
 refine z0a (z0p y0e rfl) ?_
 refine z0j (z0n tyS3 rfl rfl) rfl ?_
 refine z0a (z0p y0e rfl) ?_
 refine z0j (z0n tyS3 rfl rfl) rfl ?_
 refine z0a (z6i rfl rfl) ?_
 refine z0i _ rfl (fun h3 => ?_) (fun h3 => ?_)
 ·replace H:=ift h3 H
  refine z0c ?_
  refine z0b hN rfl ?_
  refine z0a (z0p y0e rfl) ?_
  refine z0j (z0n tyS3 rfl rfl) rfl ?_
  refine z0a (z0p y0e rfl) ?_
  refine z0j (z0n tyS3 rfl rfl) rfl ?_
  refine z0a (z1s _ rfl rfl (.inr (.inl ⟨rfl,rfl⟩))) ?_
  obtain ⟨r4,h5,H⟩:=bnd H
  refine z0a (z0x (y99 (wr (a1.At - b2.At)) r4 h5) ⟨.inl rfl,trivial⟩) ?_
  refine qe rfl ?_
  refine z0r ?_
  cases H
  exact ⟨trivial,.inl rfl,trivial⟩
 ·replace H:=iff_ h3 H
  refine z0s ?_
  refine z0c ?_
  refine z0b hN rfl ?_
  refine z0a (z0p y2r rfl) ?_
  refine z0j (z0n tyS9 rfl rfl) rfl ?_
  refine z0a (z0p y13 rfl) ?_
  refine z0j (z0n tyS9 rfl rfl) rfl ?_
  refine z0a (z06 (u':=vlst (List.map z00 [a1.App,a1.Product])) (z1w [[_],[_]] y06 ⟨rfl,.inl ⟨_,rfl,rfl,rfl⟩,rfl,rfl,.inl ⟨_,rfl,rfl,rfl⟩,rfl,trivial⟩ rfl rfl) rfl) ?_
  refine z0a (z0p y2r rfl) ?_
  refine z0j (z0n tyS9 rfl rfl) rfl ?_
  refine z0a (z0p y13 rfl) ?_
  refine z0j (z0n tyS9 rfl rfl) rfl ?_
  refine z0a (z06 (u':=vlst (List.map z00 [b2.App,b2.Product])) (z1w [[_],[_]] y06 ⟨rfl,.inl ⟨_,rfl,rfl,rfl⟩,rfl,rfl,.inl ⟨_,rfl,rfl,rfl⟩,rfl,trivial⟩ rfl rfl) rfl) ?_
  obtain ⟨r6,h7,H⟩:=bnd H
  refine z0a (z0x (y2w [a1.App,a1.Product] [b2.App,b2.Product] r6 h7) ⟨.inl rfl,.inl rfl,trivial⟩) ?_
  refine qe rfl ?_
  refine z0r ?_
  cases H
  exact ⟨trivial,.inl rfl,trivial⟩
theorem y0v (v1:(List z0e)) (p1:z0e→z0e→Option (Bool)) (fv1:Nat) (us1:List V) (hp1:∀ a0 a1 r,p1 a0 a1=some r→Fn Tryz.prog fv1 ([vagg (z0w a0),vagg (z0w a1)]++us1) (z1x [z1e r])) (r:((List z0e))) (H:z4l v1 p1=some r):FnG Tryz.prog 56 [.row 0 v1.length,.dat (vfn fv1 us1)] [(0,.row 99 5 (List.map z0w v1))] (.row 900 r.length) [(900,.row 99 5 (List.map z0w r))]:=by
 refine y65 (by kernel_rfl) Tryz.func56 rfl rfl rfl rfl fun X A hN => ?_
 unfold z4l at H
 refine z0c ?_
 refine z0b hN rfl ?_
 refine qe rfl ?_
 refine z0c ?_
 refine z0c ?_
 refine z0b hN rfl ?_
 refine z0a (z0k (.row _ _) rfl) ?_
 refine z0j (y7j y75 rfl rfl) rfl ?_
 refine z0a (z05 rfl rfl) ?_
 refine z0i _ rfl (fun h2 => ?_) (fun h2 => ?_)
 ·replace H:=ift h2 H
  refine z0c ?_
  refine z0b hN rfl ?_
  refine z0a (z0k (.row _ _) rfl) ?_
  refine z0a (z1j (.row _ _) rfl) ?_
  refine x0o 4 0 900 rfl rfl (by rw [List.length_map]) rfl ?_
  refine z0r ?_
  cases H
  exact ⟨trivial,[(4,.row 900 _)],⟨rfl,trivial⟩,⟨rfl,trivial⟩,rfl,.inr (.inl ⟨4,rfl,rfl⟩)⟩
 ·replace H:=iff_ h2 H
  refine z0s ?_
  refine z1a (ι:=Unit) (fun i=>[(0,.row 0 v1.length)]) (fun i=>[(0,.row 99 5 (List.map z0w v1))]) (fun i=>z23 v1=some r) (fun i=>rfl) ?_ ?_
  ·skip
   refine z0c ?_
   refine z0b hN rfl ?_
   refine qe rfl ?_
   refine z0y ?_
   refine y23 (fun (s:Int)=>[(0,.row 0 v1.length),(1,.dat (vfn fv1 us1)),(5,.dat (vint s))]) (fun (s:Int)=>[(0,.row 99 5 (List.map z0w v1))]) 1 H ⟨rfl,rfl,rfl,trivial⟩ ⟨rfl,trivial⟩ (fun _=>rfl) ?_
   rintro v3 q4 H hq4
   replace H:z4c v1 p1 v3=some q4:=H
   unfold z4c at H
   refine z0c ?_
   refine z0c ?_
   refine z0b hN rfl ?_
   refine qd rfl ?_
   refine z0a (z0k (.row _ _) rfl) ?_
   refine z0j (y7j y75 rfl rfl) rfl ?_
   refine z0a (z05 rfl rfl) ?_
   refine z0i _ rfl (fun h5 => ?_) (fun h5 => ?_)
   ·replace H:=ift h5 H
    refine z0s ?_
    refine z0c ?_
    refine z0y ?_
    refine z0c ?_
    refine z3q mixed hN rfl rfl ?_
    refine qd rfl ?_
    refine z0a (z0k (.row _ _) rfl) ?_
    refine qd rfl ?_
    obtain ⟨x6,h7,H⟩:=bnd H
    refine z0j (y6a y4a rfl rfl rfl h7) rfl ?_
    refine z0j (y5m y1o rfl rfl (z2m h7).2 rfl) rfl ?_
    refine z0a (z0k (.row _ _) rfl) ?_
    refine qd rfl ?_
    refine z0a (z1s _ rfl rfl (.inr (.inl ⟨rfl,rfl⟩))) ?_
    obtain ⟨x8,h9,H⟩:=bnd H
    refine z0j (y6a y4a rfl rfl rfl h9) rfl ?_
    refine z0j (y5m y1o rfl rfl (z2m h9).2 rfl) rfl ?_
    obtain ⟨r10,h11,H⟩:=bnd H
    refine z0a (z9v (hp1 x6 x8 r10 h11) rfl ⟨.inl rfl,.inl rfl,trivial⟩) ?_
    refine ⟨rfl,?_⟩
    refine z0i _ rfl (fun h12 => ?_) (fun h12 => ?_)
    ·replace H:=ift h12 H
     refine z0c ?_
     refine z0b hN rfl ?_
     refine z0a (z0k (.row _ _) rfl) ?_
     refine qd rfl ?_
     obtain ⟨h13,H⟩:=gif H
     refine z0j (x9a (C:=z0w) y4a rfl rfl rfl h13) rfl ?_
     refine z0a (z1j (.rsub _ _ _ _) rfl) ?_
     refine z1a (ι:=Int×(List z0e)) (fun i=>[(0,.row 0 i.2.length),(5,.dat (vint i.1))]) (fun i=>[(0,.row 99 5 (List.map z0w i.2))]) (fun i=>z22 i.1 i.2=some q4) (fun i=>rfl) ?_ ?_
     ·skip
      refine z0c ?_
      refine z0b hN rfl ?_
      refine qe rfl ?_
      refine z0y ?_
      refine y23 (fun (s:Int×Int×(List z0e))=>[(0,.row 0 s.2.2.length),(1,.dat (vfn fv1 us1)),(5,.dat (vint s.1)),(6,.rsub 0 s.2.2.length 5 v3.toNat),(7,.dat (vint s.2.1))]) (fun (s:Int×Int×(List z0e))=>[(0,.row 99 5 (List.map z0w s.2.2))]) (v3,1,v1) H ⟨rfl,rfl,rfl,rfl,rfl,trivial⟩ ⟨rfl,trivial⟩ (fun _=>rfl) ?_
      rintro ⟨v14,v15,l16⟩ q17 H hq17
      replace H:z4b p1 v3 v14 v15 l16=some q17:=H
      unfold z4b at H
      refine z0c ?_
      refine z0c ?_
      refine z0b hN rfl ?_
      refine qd rfl ?_
      refine z0a (z0k (.rsub _ _ _ _) rfl) ?_
      refine z0j (w45 y75 rfl rfl) rfl ?_
      refine z0a (z05 rfl rfl) ?_
      refine z0i _ rfl (fun h18 => ?_) (fun h18 => ?_)
      ·replace H:=ift h18 H
       refine z0s ?_
       refine z1a (ι:=Int×(List z0e)) (fun i=>[(0,.row 0 i.2.length),(1,.dat (vfn fv1 us1)),(5,.dat (vint i.1)),(6,.rsub 0 i.2.length 5 v3.toNat),(7,.dat (vint v15))]) (fun i=>[(0,.row 99 5 (List.map z0w i.2))]) (fun i=>z2g v15 i.1 i.2=some q17) (fun i=>rfl) ?_ ?_
       ·skip
        refine z0y ?_
        refine z0c ?_
        refine z3q mixed hN rfl rfl ?_
        refine qd rfl ?_
        refine z0a (z0k (.rsub _ _ _ _) rfl) ?_
        refine qd rfl ?_
        obtain ⟨x19,h20,H⟩:=bnd H
        refine z0j (x17 y4a rfl rfl rfl h20) rfl ?_
        refine z0j (y5m y1o rfl rfl (x69 (z2m h20).2) rfl) rfl ?_
        refine z0a (z0k (.rsub _ _ _ _) rfl) ?_
        refine qd rfl ?_
        refine z0a (z1s _ rfl rfl (.inr (.inl ⟨rfl,rfl⟩))) ?_
        obtain ⟨x21,h22,H⟩:=bnd H
        refine z0j (x17 y4a rfl rfl rfl h22) rfl ?_
        refine z0j (y5m y1o rfl rfl (x69 (z2m h22).2) rfl) rfl ?_
        obtain ⟨r23,h24,H⟩:=bnd H
        refine z0a (z9v (hp1 x19 x21 r23 h24) rfl ⟨.inl rfl,.inl rfl,trivial⟩) ?_
        refine z0a (z3r rfl) ?_
        refine ⟨rfl,?_⟩
        refine z0i _ rfl (fun h25 => ?_) (fun h25 => ?_)
        ·replace H:=ift h25 H
         refine z0c ?_
         refine z0b hN rfl ?_
         refine z0a (z0k (.row _ _) rfl) ?_
         refine qd rfl ?_
         refine z0a (z0k (.rsub _ _ _ _) rfl) ?_
         refine qd rfl ?_
         refine z0j (x17 y4a rfl rfl rfl h20) rfl ?_
         refine z0j (y5m y1o rfl rfl (x69 (z2m h20).2) rfl) rfl ?_
         obtain ⟨x26,h27,H⟩:=bnd H
         refine z0j (y6a y4a rfl rfl rfl h27) rfl ?_
         refine z0f (x89 (C:=z0w) y1o rfl rfl rfl (w6o (z2m h27).2) rfl rfl) rfl ?_
         refine z0b hN rfl ?_
         refine qd rfl ?_
         refine z0a (z1s _ rfl rfl (.inl ⟨rfl,rfl⟩)) ?_
         refine qe rfl ?_
         exact ⟨(wr (v14+1),(l16.set v14.toNat x19)),H,⟨congrArg (Slot.row 0) (by simp),rfl,rfl,congrArg (fun n=>Slot.rsub 0 n 5 v3.toNat) (by simp),rfl,trivial⟩,⟨rfl,trivial⟩⟩
        ·replace H:=iff_ h25 H
         refine z0s ?_
         exact ⟨(v14,l16),H,⟨rfl,rfl,rfl,rfl,rfl,trivial⟩,⟨rfl,trivial⟩⟩
       ·rintro ⟨v28,v29⟩ H
        replace H:z2g v15 v28 v29=some q17:=H
        unfold z2g at H
        refine z0b hN rfl ?_
        refine qd rfl ?_
        refine z0a (z1s _ rfl rfl (.inl ⟨rfl,rfl⟩)) ?_
        refine qe rfl ?_
        exact ⟨_,z63 H,⟨rfl,rfl,rfl,rfl,rfl,trivial⟩,⟨rfl,trivial⟩⟩
      ·replace H:=iff_ h18 H
       refine z1v ?_
       replace H:=outl H hq17
       exact ⟨(v14,l16),H,⟨rfl,rfl,trivial⟩,⟨rfl,trivial⟩⟩
     ·rintro ⟨v30,v31⟩ H
      replace H:z22 v30 v31=some q4:=H
      unfold z22 at H
      refine z0c ?_
      refine z0b hN rfl ?_
      refine z0a (z0k (.row _ _) rfl) ?_
      refine qd rfl ?_
      obtain ⟨h32,H⟩:=gif H
      refine z0j (x9a (C:=z0w) y4a rfl rfl rfl h32) rfl ?_
      refine z0f (x9b (C:=z0w) (z0e.mk 0 [] [] 0 []) y75 x1r rfl rfl rfl rfl rfl h32) rfl ?_
      refine z0c ?_
      refine z0b hN rfl ?_
      refine z0a (z0k (.row _ _) rfl) ?_
      refine qd rfl ?_
      obtain ⟨h33,H⟩:=gif H
      refine y89 (w46 (C:=z0w) 1 y4a rfl (w1m (z0e.mk 0 [] [] 0 []) h32) rfl h33) rfl rfl ?_
      refine z0a (z1j (.row _ _) rfl) ?_
      refine x0o 4 1 900 rfl rfl (by rw [List.length_map]; exact (x0h h33)) rfl ?_
      refine z0r ?_
      replace H:=retl H hq4
      cases H
      exact ⟨trivial,[(4,.row 900 _)],⟨rfl,trivial⟩,⟨rfl,trivial⟩,rfl,.inr (.inl ⟨4,rfl,congrArg (Slot.row 900) (by first | exact x0h (by assumption) | (simp <;> omega))⟩)⟩
    ·replace H:=iff_ h12 H
     refine z0s ?_
     refine z0b hN rfl ?_
     refine qd rfl ?_
     refine z0a (z1s _ rfl rfl (.inl ⟨rfl,rfl⟩)) ?_
     refine qe rfl ?_
     exact ⟨_,z63 H,⟨rfl,rfl,rfl,trivial⟩,⟨rfl,trivial⟩⟩
   ·replace H:=iff_ h5 H
    refine z1v ?_
    replace H:=outl H hq4
    exact ⟨(),H,⟨rfl,trivial⟩,⟨rfl,trivial⟩⟩
  ·rintro ⟨⟩ H
   replace H:z23 v1=some r:=H
   unfold z23 at H
   refine z0c ?_
   refine z0b hN rfl ?_
   refine z0a (z0k (.row _ _) rfl) ?_
   refine z0a (z1j (.row _ _) rfl) ?_
   refine x0o 4 0 900 rfl rfl (by rw [List.length_map]) rfl ?_
   refine z0r ?_
   cases H
   exact ⟨trivial,[(4,.row 900 _)],⟨rfl,trivial⟩,⟨rfl,trivial⟩,rfl,.inr (.inl ⟨4,rfl,rfl⟩)⟩
theorem y4r (a1:z0e) (b2:z0e) (r:(Bool)) (H:z5m a1 b2=some r):Fn Tryz.prog 57 [vagg (z0w a1),vagg (z0w b2)] (z1x [z1e r]):=by
 refine ⟨by kernel_rfl,z1k (us:=[z1e r]) Tryz.func57 rfl rfl rfl rfl fun X hN => ?_⟩
 unfold z5m at H
 refine z0c ?_
 refine z0b hN rfl ?_
 refine z0f (z2h 1 rfl) rfl ?_
 refine z0f (z2h 2 rfl) rfl ?_
 refine qe rfl ?_
 refine z0c ?_
 refine z0b hN rfl ?_
 refine z0j (z04 y1o rfl rfl rfl) rfl ?_
 refine z0j (z04 y1o rfl rfl rfl) rfl ?_
 obtain ⟨r3,h4,H⟩:=bnd H
 refine z0a (z0x (y1w a1 b2 r3 h4) ⟨.inl rfl,.inl rfl,trivial⟩) ?_
 refine z0a (z12 rfl rfl) ?_
 refine qe rfl ?_
 refine z0r ?_
 cases H
 exact ⟨trivial,.inl rfl,trivial⟩
theorem z7o (n1:Int) (low2:Int) (high3:Int) (r:(Bool)) (H:z4m n1 low2 high3=some r):Fn Tryz.prog 60 [vint n1,vint low2,vint high3] (z1x [z1e r]):=by
 refine ⟨by kernel_rfl,z1k (us:=[z1e r]) Tryz.func60 rfl rfl rfl rfl fun X hN => ?_⟩
 unfold z4m at H
 refine z0c ?_
 refine z0b hN rfl ?_
 refine qe rfl ?_
 refine z0c ?_
 refine z0b hN rfl ?_
 refine qd rfl ?_
 refine qd rfl ?_
 refine z0a (y3u rfl rfl) ?_
 refine qd rfl ?_
 refine z4w rfl rfl (fun hc=>z0k (.dat _) rfl) ?_
 refine z4w rfl rfl (fun hc=>z0k (.dat _) rfl) ?_
 refine z4w rfl rfl (fun hc=>y3u (cnd (c:=(decide (low2≤n1))) hc) (cnd (c:=(decide (low2≤n1))) hc)) ?_
 refine z0a (z2z rfl (fun hb=>(cnd (c:=(decide (low2≤n1))) hb)) rfl) ?_
 refine qe rfl ?_
 refine z0r ?_
 cases H
 exact ⟨trivial,.inl rfl,trivial⟩
theorem y7b (l:Bs) (c r:Int) (H:y2n l c=some r):Fn Tryz.prog 164 [vstr l,vval (.int .u8 c)] (z1x [vint r]):=by
 cases H
 refine y4o (by kernel_rfl) fun M w vs h => ?_
 have h1:=y8j (us:=[.string ⟨l.toArray⟩,.int .u8 c]) h
 subst h1
 refine (Tryz.strings_IndexByte ⟨l.toArray⟩ c w).mono ?_
 rintro e w' ⟨rfl,rfl⟩
 exact ⟨_,rfl,rfl,Kp.refl _ _⟩
theorem y6i (s1:Bs) (some2:Bs) (r:(Bool)) (H:y0l s1 some2=some r):Fn Tryz.prog 131 [vstr s1,vstr some2] (z1x [z1e r]):=by
 refine ⟨by kernel_rfl,z1k (us:=[z1e r]) Tryz.func131 rfl rfl rfl rfl fun X hN => ?_⟩
 unfold y0l at H
 refine z0c ?_
 refine z0b hN rfl ?_
 refine qe rfl ?_
 refine z0c ?_
 refine z0c ?_
 refine z0b hN rfl ?_
 refine qd rfl ?_
 refine z0a (y4c tyU9 rfl) ?_
 refine qd rfl ?_
 refine z0y ?_
 obtain ⟨h5,H⟩:=gif H
 refine z3u (fun (k3:Nat) (s:Unit)=>[(0,.dat (vstr s1)),(1,.dat (vstr some2)),(7,.dat (vint (s1.length:Int))),(8,.dat (vint (k3:Int)))]) (fun (k3:Nat) (s:Unit)=>[]) () H ⟨rfl,rfl,rfl,rfl,trivial⟩ trivial (fun _ _=>rfl) ?_ ?_
 ·rintro ⟨⟩ H
  replace H:y30=some r:=H
  unfold y30 at H
  refine z0c ?_
  refine z0b hN rfl ?_
  refine z0a (z05 rfl rfl) ?_
  refine z0c ?_
  refine z0i _ rfl (fun h=>(lt_t h).elim) (fun h => ?_)
  refine z1v ?_
  refine z0c ?_
  refine z0b hN rfl ?_
  refine qe rfl ?_
  refine z0r ?_
  cases H
  exact ⟨trivial,.inl rfl,trivial⟩
 ·rintro k3 x6 ⟨⟩ q4 h7 h8 H hq4
  replace H:y2k some2 k3 x6=some q4:=H
  unfold y2k at H
  refine z0c ?_
  refine z0b hN rfl ?_
  refine z0a (z05 rfl rfl) ?_
  refine z0c ?_
  refine z0i _ rfl (fun h => ?_) (fun h=>(lt_f h7 h).elim)
  refine z0s ?_
  refine z0c ?_
  refine z0y ?_
  refine z0c ?_
  refine z0b hN rfl ?_
  refine qd rfl ?_
  refine qe rfl ?_
  refine z0c ?_
  refine z0b hN rfl ?_
  refine qd rfl ?_
  refine qd rfl ?_
  refine qd rfl ?_
  refine z0a (w4h tyU9 rfl rfl h8) ?_
  obtain ⟨r9,h10,H⟩:=bnd H
  refine z0a (z0x (y7b some2 (x6.toNat:Int) r9 h10) ⟨.inl rfl,.inl rfl,trivial⟩) ?_
  refine z0a (z05 rfl rfl) ?_
  refine z0i _ rfl (fun h11 => ?_) (fun h11 => ?_)
  ·replace H:=ift h11 H
   refine z0c ?_
   refine z0b hN rfl ?_
   refine qe rfl ?_
   refine z0r ?_
   replace H:=retl H hq4
   cases H
   exact ⟨trivial,.inl rfl,trivial⟩
  ·replace H:=iff_ h11 H
   refine z0s ?_
   refine z0b hN rfl ?_
   refine z0a (z3v rfl rfl (by omega)) ?_
   refine qd rfl ?_
   exact ⟨_,z63 H,⟨rfl,rfl,rfl,rfl,trivial⟩,trivial⟩
theorem y2g (s1:Bs) (r:(Bool)) (H:z7n s1=some r):Fn Tryz.prog 88 [vstr s1] (z1x [z1e r]):=by
 refine ⟨by kernel_rfl,z1k (us:=[z1e r]) Tryz.func88 rfl rfl rfl rfl fun X hN => ?_⟩
 unfold z7n at H
 refine z0c ?_
 refine z0b hN rfl ?_
 refine qe rfl ?_
 refine z1a (ι:=Bool) (fun i=>[(2,.dat (z1e i))]) (fun i=>[]) (fun i=>z9h i=some r) (fun i=>rfl) ?_ ?_
 ·skip
  refine z0b hN rfl ?_
  refine qd rfl ?_
  refine z0a (y4c tyU9 rfl) ?_
  obtain ⟨r2,h3,H⟩:=bnd H
  refine z0a (z0x (z7o (s1.length:Int) 1 40 r2 h3) ⟨.inl rfl,.inl rfl,.inl rfl,trivial⟩) ?_
  refine qd rfl ?_
  refine z19 (j:=3) rfl rfl (fun h4 => ?_) (fun h4 => ?_) rfl
  ·have h5:=un1 h4
   replace H:=ift h5 H
   refine z03 rfl rfl h4 (z0k (.dat _) rfl) ?_
   obtain ⟨l6,h7,H⟩:=bnd H
   refine z03 rfl rfl h4 (w64 tyU9 rfl rfl rfl h7) ?_
   obtain ⟨r8,h9,H⟩:=bnd H
   refine z03 rfl rfl h4 (z0x (y6i l6 [97,98,99,100,101,102,103,104,105,106,107,108,109,110,111,112,113,114,115,116,117,118,119,120,121,122] r8 h9) ⟨.inl rfl,.inl rfl,trivial⟩) ?_
   refine z0a (z1p rfl (bTT h5) rfl) ?_
   refine qd rfl ?_
   refine z19 (j:=8) rfl rfl (fun h10 => ?_) (fun h10 => ?_) rfl
   ·have h11:=un1 h10
    replace H:=ift h11 H
    refine z03 rfl rfl h10 (z0k (.dat _) rfl) ?_
    obtain ⟨r12,h13,H⟩:=bnd H
    refine z03 rfl rfl h10 (z0x (y6i s1 [97,98,99,100,101,102,103,104,105,106,107,108,109,110,111,112,113,114,115,116,117,118,119,120,121,122,48,49,50,51,52,53,54,55,56,57,45,95] r12 h13) ⟨.inl rfl,.inl rfl,trivial⟩) ?_
    refine z0a (z1p rfl (bTT h11) rfl) ?_
    refine qe rfl ?_
    exact ⟨r12,H,⟨rfl,trivial⟩,trivial⟩
   ·have h14:=un2 h10
    replace H:=iff_ h14 H
    refine z0l rfl rfl h10 ?_
    refine z0l rfl rfl h10 ?_
    refine z0a (z1b rfl (bFF h14) rfl) ?_
    refine qe rfl ?_
    exact ⟨false,H,⟨rfl,trivial⟩,trivial⟩
  ·have h15:=un2 h4
   replace H:=iff_ h15 H
   refine z0l rfl rfl h4 ?_
   refine z0l rfl rfl h4 ?_
   refine z0l rfl rfl h4 ?_
   refine z0a (z1b rfl (bFF h15) rfl) ?_
   refine qd rfl ?_
   refine z0l rfl rfl rfl ?_
   refine z0l rfl rfl rfl ?_
   refine z0a (z1b rfl rfl rfl) ?_
   refine qe rfl ?_
   exact ⟨false,H,⟨rfl,trivial⟩,trivial⟩
 ·rintro v16 H
  replace H:z9h v16=some r:=H
  unfold z9h at H
  refine z0r ?_
  cases H
  exact ⟨trivial,.inl rfl,trivial⟩
theorem y0s (s1:(List z0m)) (p1:z0m→Option (Bool)) (fv1:Nat) (us1:List V) (hp1:∀ a0 r,p1 a0=some r→Fn Tryz.prog fv1 ([vagg (z0u a0)]++us1) (z1x [z1e r])) (r:(Int)) (H:z2u s1 p1=some r):Fn Tryz.prog 40 [vlst (List.map z0u s1),vfn fv1 us1] (z1x [vint r]):=by
 refine ⟨by kernel_rfl,z1k (us:=[vint r]) Tryz.func40 rfl rfl rfl rfl fun X hN => ?_⟩
 unfold z2u at H
 refine z0c ?_
 refine z0b hN rfl ?_
 refine qe rfl ?_
 refine z0c ?_
 refine z0c ?_
 refine z0b hN rfl ?_
 refine qd rfl ?_
 refine z0a (z43 x3m rfl) ?_
 refine qd rfl ?_
 refine z0y ?_
 obtain ⟨h4,H⟩:=gif H
 refine z3u (fun (k2:Nat) (s:Unit)=>[(0,.dat (vlst (List.map z0u s1))),(1,.dat (vfn fv1 us1)),(7,.dat (vint (s1.length:Int))),(8,.dat (vint (k2:Int)))]) (fun (k2:Nat) (s:Unit)=>[]) () H ⟨rfl,rfl,rfl,rfl,trivial⟩ trivial (fun _ _=>rfl) ?_ ?_
 ·rintro ⟨⟩ H
  replace H:z3z=some r:=H
  unfold z3z at H
  refine z0c ?_
  refine z0b hN rfl ?_
  refine z0a (z05 rfl rfl) ?_
  refine z0c ?_
  refine z0i _ rfl (fun h=>(lt_t h).elim) (fun h => ?_)
  refine z1v ?_
  refine z0c ?_
  refine z0b hN rfl ?_
  refine qe rfl ?_
  refine z0r ?_
  cases H
  exact ⟨trivial,.inl rfl,trivial⟩
 ·rintro k2 x5 ⟨⟩ q3 h6 h7 H hq3
  replace H:z3y p1 k2 x5=some q3:=H
  unfold z3y at H
  refine z0c ?_
  refine z0b hN rfl ?_
  refine z0a (z05 rfl rfl) ?_
  refine z0c ?_
  refine z0i _ rfl (fun h => ?_) (fun h=>(lt_f h6 h).elim)
  refine z0s ?_
  refine z0c ?_
  refine z0y ?_
  refine z0c ?_
  refine z0b hN rfl ?_
  refine qd rfl ?_
  refine qe rfl ?_
  refine z0c ?_
  refine z0b hN rfl ?_
  refine qd rfl ?_
  refine qd rfl ?_
  refine qd rfl ?_
  refine z0a (y1g x3q (fun _=>rfl) rfl rfl h7) ?_
  refine z0a (z2s y9f rfl (z29 h7) rfl) ?_
  obtain ⟨r8,h9,H⟩:=bnd H
  refine z0a (z9v (hp1 x5 r8 h9) rfl ⟨.inl rfl,trivial⟩) ?_
  refine z0i _ rfl (fun h10 => ?_) (fun h10 => ?_)
  ·replace H:=ift h10 H
   refine z0c ?_
   refine z0b hN rfl ?_
   refine qd rfl ?_
   refine qe rfl ?_
   refine z0r ?_
   replace H:=retl H hq3
   cases H
   exact ⟨trivial,.inl rfl,trivial⟩
  ·replace H:=iff_ h10 H
   refine z0s ?_
   refine z0b hN rfl ?_
   refine z0a (z3v rfl rfl (by omega)) ?_
   refine qd rfl ?_
   exact ⟨_,z63 H,⟨rfl,rfl,rfl,rfl,trivial⟩,trivial⟩
theorem y54 (p1:z0m) (c2:Bs) (r:(Bool)) (H:z5u p1 c2=some r):Fn Tryz.prog 41 [vagg (z0u p1),z9m [[vstr c2]] 0 0] (z1x [z1e r]):=by
 refine ⟨by kernel_rfl,z1k (us:=[z1e r]) Tryz.func41 rfl rfl rfl rfl fun X hN => ?_⟩
 unfold z5u at H
 refine z0c ?_
 refine z0b hN rfl ?_
 refine z0f (z2h 1 rfl) rfl ?_
 refine qe rfl ?_
 refine z0c ?_
 refine z0b hN rfl ?_
 refine z0a (z0p y4z rfl) ?_
 refine z0j (z0n tyS9 rfl rfl) rfl ?_
 refine z0a (z1q tyS9 rfl rfl rfl) ?_
 refine z0a (y33 rfl rfl) ?_
 refine qe rfl ?_
 refine z0r ?_
 cases H
 exact ⟨trivial,.inl rfl,trivial⟩
theorem y2a (c1:z0g) (key2:Bs) (r:(Int)) (H:z5s c1 key2=some r):Fn Tryz.prog 15 [vagg (z1d c1),vstr key2] (z1x [vint r]):=by
 refine ⟨by kernel_rfl,z1k (us:=[vint r]) Tryz.func15 rfl rfl rfl rfl fun X hN => ?_⟩
 unfold z5s at H
 refine z0c ?_
 refine z0b hN rfl ?_
 refine z0f (z2h 1 rfl) rfl ?_
 refine z0f (y5p 2 rfl rfl) rfl ?_
 refine qe rfl ?_
 refine z0c ?_
 refine y4y 2 [vstr key2] rfl rfl ?_
 refine z0b hN rfl ?_
 refine z0a (z0p y5k rfl) ?_
 refine z0j (z0n x1s rfl rfl) rfl ?_
 refine z0a (y5n (us:=[_]) ⟨rfl,trivial⟩) ?_
 obtain ⟨r3,h4,H⟩:=bnd H
 refine z0a (z0x (y0s c1.Products (fun (a0:z0m)=>z5u a0 key2) 41 [z9m [[vstr key2]] 0 0] (fun a0 r h=>y54 a0 key2 r h) r3 h4) ⟨.inl rfl,.inl rfl,trivial⟩) ?_
 refine qe rfl ?_
 refine z0r ?_
 cases H
 exact ⟨trivial,.inl rfl,trivial⟩
theorem y6z (v1:z0g) (v2:z0o) (r:(Int)) (H:z8p v1 v2=some r):Fn Tryz.prog 90 [vagg (z1d v1),vagg (z0z v2)] (z1x [vint r]):=by
 refine ⟨by kernel_rfl,z1k (us:=[vint r]) Tryz.func90 rfl rfl rfl rfl fun X hN => ?_⟩
 unfold z8p at H
 refine z0c ?_
 refine z0b hN rfl ?_
 refine z0f (z2h 1 rfl) rfl ?_
 refine z0f (z2h 2 rfl) rfl ?_
 refine qe rfl ?_
 refine z0c ?_
 refine z0y ?_
 refine z0c ?_
 refine z0b hN rfl ?_
 refine z0j (z04 z5d rfl rfl rfl) rfl ?_
 refine z0a (z0p y6o rfl) ?_
 refine z0j (z0n tyS9 rfl rfl) rfl ?_
 obtain ⟨r3,h4,H⟩:=bnd H
 refine z0a (z0x (y2a v1 v2.Product r3 h4) ⟨.inl rfl,.inl rfl,trivial⟩) ?_
 refine z0a (z05 rfl rfl) ?_
 refine qe rfl ?_
 refine z0i _ rfl (fun h5 => ?_) (fun h5 => ?_)
 ·replace H:=ift h5 H
  refine z0c ?_
  refine z0b hN rfl ?_
  refine qe rfl ?_
  refine z0r ?_
  cases H
  exact ⟨trivial,.inl rfl,trivial⟩
 ·replace H:=iff_ h5 H
  refine z1a (ι:=Bool) (fun i=>[(3,.ptr 2 0),(13,.dat (z1e i))]) (fun i=>[(2,.box none 105 [.dat (vstr v2.Key),.dat (vstr v2.Product),.dat (vint v2.Base),.dat (vint v2.Free),.dat (vlst (List.map z1r v2.Tiers)),.dat (vint v2.Limit),.dat (vint v2.Trial),.dat (z1e v2.Asked)])]) (fun i=>z4e v2 i=some r) (fun i=>rfl) ?_ ?_
  ·skip
   refine z0b hN rfl ?_
   refine z0a (z0p x1y rfl) ?_
   refine z0j (z0n tyS3 rfl rfl) rfl ?_
   obtain ⟨r6,h7,H⟩:=bnd H
   refine z0a (z0x (z7o v2.Base 0 1000000000000 r6 h7) ⟨.inl rfl,.inl rfl,.inl rfl,trivial⟩) ?_
   refine z0a (z3r rfl) ?_
   refine qd rfl ?_
   refine z19 (j:=4) rfl rfl (fun h8 => ?_) (fun h8 => ?_) rfl
   ·have h9:=un3 h8
    replace H:=iff_ h9 H
    refine z03 rfl rfl h8 (z0p y86 rfl) ?_
    refine z7k rfl rfl h8 (z0n tyS3 rfl rfl) rfl ?_
    obtain ⟨r10,h11,H⟩:=bnd H
    refine z03 rfl rfl h8 (z0x (z7o v2.Free 0 1000000000000 r10 h11) ⟨.inl rfl,.inl rfl,.inl rfl,trivial⟩) ?_
    refine z03 rfl rfl h8 (z3r rfl) ?_
    refine z0a (z1b rfl (bFF h9) rfl) ?_
    refine qe rfl ?_
    exact ⟨!r10,H,⟨rfl,rfl,trivial⟩,⟨rfl,trivial⟩⟩
   ·have h12:=un4 h8
    replace H:=ift h12 H
    refine z0l rfl rfl h8 ?_
    refine z0l rfl rfl h8 ?_
    refine z0l rfl rfl h8 ?_
    refine z0l rfl rfl h8 ?_
    refine z0a (z1p rfl (bTT h12) rfl) ?_
    refine qe rfl ?_
    exact ⟨true,H,⟨rfl,rfl,trivial⟩,⟨rfl,trivial⟩⟩
  ·rintro v13 H
   replace H:z4e v2 v13=some r:=H
   unfold z4e at H
   refine z0i _ rfl (fun h14 => ?_) (fun h14 => ?_)
   ·replace H:=ift h14 H
    refine z0c ?_
    refine z0b hN rfl ?_
    refine qe rfl ?_
    refine z0r ?_
    cases H
    exact ⟨trivial,.inl rfl,trivial⟩
   ·replace H:=iff_ h14 H
    refine z0c ?_
    refine z0b hN rfl ?_
    refine z0a (z0p y0y rfl) ?_
    refine z0j (z0n y39 rfl rfl) rfl ?_
    refine z0a (z43 y8o rfl) ?_
    refine z0a (z5n rfl rfl) ?_
    refine qe rfl ?_
    refine z0i _ rfl (fun h15 => ?_) (fun h15 => ?_)
    ·replace H:=ift h15 H
     refine z0c ?_
     refine z0b hN rfl ?_
     refine qe rfl ?_
     refine z0r ?_
     cases H
     exact ⟨trivial,.inl rfl,trivial⟩
    ·replace H:=iff_ h15 H
     refine z0s ?_
     refine z0c ?_
     refine z0c ?_
     refine z0b hN rfl ?_
     refine z0a (z0p y0y rfl) ?_
     refine z0j (z0n y39 rfl rfl) rfl ?_
     refine z0a (z43 y8o rfl) ?_
     refine qd rfl ?_
     refine z0y ?_
     obtain ⟨h18,H⟩:=gif H
     refine z3u (fun (k16:Nat) (s:Unit)=>[(3,.ptr 2 0),(30,.dat (vlst (List.map z1r v2.Tiers))),(31,.dat (vint (v2.Tiers.length:Int))),(32,.dat (vint (k16:Int)))]) (fun (k16:Nat) (s:Unit)=>[(2,.box none 105 [.dat (vstr v2.Key),.dat (vstr v2.Product),.dat (vint v2.Base),.dat (vint v2.Free),.dat (vlst (List.map z1r v2.Tiers)),.dat (vint v2.Limit),.dat (vint v2.Trial),.dat (z1e v2.Asked)])]) () H ⟨rfl,rfl,rfl,rfl,trivial⟩ ⟨rfl,trivial⟩ (fun _ _=>rfl) ?_ ?_
     ·rintro ⟨⟩ H
      replace H:z77 v2=some r:=H
      unfold z77 at H
      refine z0c ?_
      refine z0b hN rfl ?_
      refine z0a (z05 rfl rfl) ?_
      refine z0c ?_
      refine z0i _ rfl (fun h=>(lt_t h).elim) (fun h => ?_)
      refine z1v ?_
      refine z0c ?_
      refine z0y ?_
      refine z1a (ι:=Bool) (fun i=>[(3,.ptr 2 0),(64,.dat (z1e i))]) (fun i=>[(2,.box none 105 [.dat (vstr v2.Key),.dat (vstr v2.Product),.dat (vint v2.Base),.dat (vint v2.Free),.dat (vlst (List.map z1r v2.Tiers)),.dat (vint v2.Limit),.dat (vint v2.Trial),.dat (z1e v2.Asked)])]) (fun i=>z49 v2 i=some r) (fun i=>rfl) ?_ ?_
      ·skip
       refine z0b hN rfl ?_
       refine z0a (z0p y0y rfl) ?_
       refine z0j (z0n y39 rfl rfl) rfl ?_
       refine z0a (z43 y8o rfl) ?_
       refine z0a (z5n rfl rfl) ?_
       refine qd rfl ?_
       refine z19 (j:=4) rfl rfl (fun h20 => ?_) (fun h20 => ?_) rfl
       ·have h21:=un1 h20
        replace H:=ift h21 H
        refine z03 rfl rfl h20 (z0p y0y rfl) ?_
        refine z7k rfl rfl h20 (z0n y39 rfl rfl) rfl ?_
        obtain ⟨x22,h23,H⟩:=bnd H
        refine z03 rfl rfl h20 (y1g y8p (fun _=>rfl) rfl rfl h23) ?_
        refine z03 rfl rfl h20 (y0c y3d rfl) ?_
        refine z03 rfl rfl h20 (z1q tyS3 rfl (z29 h23) rfl) ?_
        refine z03 rfl rfl h20 (z6i rfl rfl) ?_
        refine z0a (z1p rfl (bTT h21) rfl) ?_
        refine qe rfl ?_
        exact ⟨decide (x22.From≠1),H,⟨rfl,rfl,trivial⟩,⟨rfl,trivial⟩⟩
       ·have h24:=un2 h20
        replace H:=iff_ h24 H
        refine z0l rfl rfl h20 ?_
        refine z0l rfl rfl h20 ?_
        refine z0l rfl rfl h20 ?_
        refine z0l rfl rfl h20 ?_
        refine z0l rfl rfl h20 ?_
        refine z0l rfl rfl h20 ?_
        refine z0a (z1b rfl (bFF h24) rfl) ?_
        refine qe rfl ?_
        exact ⟨false,H,⟨rfl,rfl,trivial⟩,⟨rfl,trivial⟩⟩
      ·rintro v25 H
       replace H:z49 v2 v25=some r:=H
       unfold z49 at H
       refine z0i _ rfl (fun h26 => ?_) (fun h26 => ?_)
       ·replace H:=ift h26 H
        refine z0c ?_
        refine z0b hN rfl ?_
        refine qe rfl ?_
        refine z0r ?_
        cases H
        exact ⟨trivial,.inl rfl,trivial⟩
       ·replace H:=iff_ h26 H
        refine z1a (ι:=Bool) (fun i=>[(77,.dat (z1e i))]) (fun i=>[]) (fun i=>z6c i=some r) (fun i=>rfl) ?_ ?_
        ·skip
         refine z0b hN rfl ?_
         refine z0a (z0p x1x rfl) ?_
         refine z0j (z0n tyS3 rfl rfl) rfl ?_
         obtain ⟨r27,h28,H⟩:=bnd H
         refine z0a (z0x (z7o v2.Limit (-1) 1000000000000 r27 h28) ⟨.inl rfl,.inl rfl,.inl rfl,trivial⟩) ?_
         refine z0a (z3r rfl) ?_
         refine qd rfl ?_
         refine z19 (j:=4) rfl rfl (fun h29 => ?_) (fun h29 => ?_) rfl
         ·have h30:=un3 h29
          replace H:=iff_ h30 H
          refine z03 rfl rfl h29 (z0p x1w rfl) ?_
          refine z7k rfl rfl h29 (z0n tyS3 rfl rfl) rfl ?_
          obtain ⟨r31,h32,H⟩:=bnd H
          refine z03 rfl rfl h29 (z0x (z7o v2.Trial 0 132 r31 h32) ⟨.inl rfl,.inl rfl,.inl rfl,trivial⟩) ?_
          refine z03 rfl rfl h29 (z3r rfl) ?_
          refine z0a (z1b rfl (bFF h30) rfl) ?_
          refine qe rfl ?_
          exact ⟨!r31,H,⟨rfl,trivial⟩,trivial⟩
         ·have h33:=un4 h29
          replace H:=ift h33 H
          refine z0l rfl rfl h29 ?_
          refine z0l rfl rfl h29 ?_
          refine z0l rfl rfl h29 ?_
          refine z0l rfl rfl h29 ?_
          refine z0a (z1p rfl (bTT h33) rfl) ?_
          refine qe rfl ?_
          exact ⟨true,H,⟨rfl,trivial⟩,trivial⟩
        ·rintro v34 H
         replace H:z6c v34=some r:=H
         unfold z6c at H
         refine z0i _ rfl (fun h35 => ?_) (fun h35 => ?_)
         ·replace H:=ift h35 H
          refine z0c ?_
          refine z0b hN rfl ?_
          refine qe rfl ?_
          refine z0r ?_
          cases H
          exact ⟨trivial,.inl rfl,trivial⟩
         ·replace H:=iff_ h35 H
          refine z0s ?_
          refine z0c ?_
          refine z0b hN rfl ?_
          refine qe rfl ?_
          refine z0r ?_
          cases H
          exact ⟨trivial,.inl rfl,trivial⟩
     ·rintro k16 x19 ⟨⟩ q17 h36 h37 H hq17
      replace H:z73 v2 k16 x19=some q17:=H
      unfold z73 at H
      refine z0c ?_
      refine z0b hN rfl ?_
      refine z0a (z05 rfl rfl) ?_
      refine z0c ?_
      refine z0i _ rfl (fun h => ?_) (fun h=>(lt_f h36 h).elim)
      refine z0s ?_
      refine z0c ?_
      refine z0y ?_
      refine z0c ?_
      refine z0b hN rfl ?_
      refine qd rfl ?_
      refine z0a (y1g y8p (fun _=>rfl) rfl rfl h37) ?_
      refine z0a (z2s x03 rfl (z29 h37) rfl) ?_
      refine z0f (z1h 3 y9d rfl) rfl ?_
      refine qe rfl ?_
      refine z0f (z02 x03 rfl rfl rfl rfl) rfl ?_
      refine z0y ?_
      refine z1a (ι:=Bool) (fun i=>[(3,.ptr 2 0),(5,.dat (vint (k16:Int))),(6,.ptr 3 0),(30,.dat (vlst (List.map z1r v2.Tiers))),(31,.dat (vint (v2.Tiers.length:Int))),(32,.dat (vint (k16:Int))),(37,.dat (z1e i))]) (fun i=>[(2,.box none 105 [.dat (vstr v2.Key),.dat (vstr v2.Product),.dat (vint v2.Base),.dat (vint v2.Free),.dat (vlst (List.map z1r v2.Tiers)),.dat (vint v2.Limit),.dat (vint v2.Trial),.dat (z1e v2.Asked)]),(3,.box none 102 [.dat (vint x19.From),.dat (vint x19.Cents)])]) (fun i=>z6b v2 k16 x19 i=some q17) (fun i=>rfl) ?_ ?_
      ·skip
       refine z0b hN rfl ?_
       refine z0a (z0p y3d rfl) ?_
       refine z0j (z0n tyS3 rfl rfl) rfl ?_
       obtain ⟨r38,h39,H⟩:=bnd H
       refine z0a (z0x (z7o x19.From 1 1000000000000 r38 h39) ⟨.inl rfl,.inl rfl,.inl rfl,trivial⟩) ?_
       refine z0a (z3r rfl) ?_
       refine qd rfl ?_
       refine z19 (j:=4) rfl rfl (fun h40 => ?_) (fun h40 => ?_) rfl
       ·have h41:=un3 h40
        replace H:=iff_ h41 H
        refine z03 rfl rfl h40 (z0p x1z rfl) ?_
        refine z7k rfl rfl h40 (z0n tyS3 rfl rfl) rfl ?_
        obtain ⟨r42,h43,H⟩:=bnd H
        refine z03 rfl rfl h40 (z0x (z7o x19.Cents 0 1000000 r42 h43) ⟨.inl rfl,.inl rfl,.inl rfl,trivial⟩) ?_
        refine z03 rfl rfl h40 (z3r rfl) ?_
        refine z0a (z1b rfl (bFF h41) rfl) ?_
        refine qe rfl ?_
        exact ⟨!r42,H,⟨rfl,rfl,rfl,rfl,rfl,rfl,rfl,trivial⟩,⟨rfl,rfl,trivial⟩⟩
       ·have h44:=un4 h40
        replace H:=ift h44 H
        refine z0l rfl rfl h40 ?_
        refine z0l rfl rfl h40 ?_
        refine z0l rfl rfl h40 ?_
        refine z0l rfl rfl h40 ?_
        refine z0a (z1p rfl (bTT h44) rfl) ?_
        refine qe rfl ?_
        exact ⟨true,H,⟨rfl,rfl,rfl,rfl,rfl,rfl,rfl,trivial⟩,⟨rfl,rfl,trivial⟩⟩
      ·rintro v45 H
       replace H:z6b v2 k16 x19 v45=some q17:=H
       unfold z6b at H
       refine z0i _ rfl (fun h46 => ?_) (fun h46 => ?_)
       ·replace H:=ift h46 H
        refine z0c ?_
        refine z0b hN rfl ?_
        refine qe rfl ?_
        refine z0r ?_
        replace H:=retl H hq17
        cases H
        exact ⟨trivial,.inl rfl,trivial⟩
       ·replace H:=iff_ h46 H
        refine z1a (ι:=Bool) (fun i=>[(3,.ptr 2 0),(30,.dat (vlst (List.map z1r v2.Tiers))),(31,.dat (vint (v2.Tiers.length:Int))),(32,.dat (vint (k16:Int))),(48,.dat (z1e i))]) (fun i=>[(2,.box none 105 [.dat (vstr v2.Key),.dat (vstr v2.Product),.dat (vint v2.Base),.dat (vint v2.Free),.dat (vlst (List.map z1r v2.Tiers)),.dat (vint v2.Limit),.dat (vint v2.Trial),.dat (z1e v2.Asked)])]) (fun i=>z74 i=some q17) (fun i=>rfl) ?_ ?_
        ·skip
         refine z3q mixed hN rfl rfl ?_
         refine qd rfl ?_
         refine z0a (z5n rfl rfl) ?_
         refine qd rfl ?_
         refine z19 (j:=2) rfl rfl (fun h47 => ?_) (fun h47 => ?_) rfl
         ·have h48:=un1 h47
          replace H:=ift h48 H
          refine z03 rfl rfl h47 (z0p y3d rfl) ?_
          refine z7k rfl rfl h47 (z0n tyS3 rfl rfl) rfl ?_
          refine z03 rfl rfl h47 (z0p y0y rfl) ?_
          refine z7k rfl rfl h47 (z0n y39 rfl rfl) rfl ?_
          refine z03 rfl rfl h47 (z0k (.dat _) rfl) ?_
          refine z03 rfl rfl h47 (y66 rfl rfl (by omega)) ?_
          obtain ⟨x49,h50,H⟩:=bnd H
          refine z03 rfl rfl h47 (y1l y8p (fun _=>rfl) rfl rfl h50) ?_
          refine z03 rfl rfl h47 (y0c y3d rfl) ?_
          refine z03 rfl rfl h47 (z1q tyS3 rfl (z29 (z2m h50).2) rfl) ?_
          refine z03 rfl rfl h47 (y3u rfl rfl) ?_
          refine z0a (z1p rfl (bTT h48) rfl) ?_
          refine qe rfl ?_
          refine ⟨rfl,?_⟩
          exact ⟨decide (x19.From≤x49.From),H,⟨rfl,rfl,rfl,rfl,rfl,trivial⟩,⟨rfl,trivial⟩⟩
         ·have h51:=un2 h47
          replace H:=iff_ h51 H
          refine z0l rfl rfl h47 ?_
          refine z0l rfl rfl h47 ?_
          refine z0l rfl rfl h47 ?_
          refine z0l rfl rfl h47 ?_
          refine z0l rfl rfl h47 ?_
          refine z0l rfl rfl h47 ?_
          refine z0l rfl rfl h47 ?_
          refine z0l rfl rfl h47 ?_
          refine z0l rfl rfl h47 ?_
          refine z0l rfl rfl h47 ?_
          refine z0a (z1b rfl (bFF h51) rfl) ?_
          refine qe rfl ?_
          refine ⟨rfl,?_⟩
          exact ⟨false,H,⟨rfl,rfl,rfl,rfl,rfl,trivial⟩,⟨rfl,trivial⟩⟩
        ·rintro v52 H
         replace H:z74 v52=some q17:=H
         unfold z74 at H
         refine z0i _ rfl (fun h53 => ?_) (fun h53 => ?_)
         ·replace H:=ift h53 H
          refine z0c ?_
          refine z0b hN rfl ?_
          refine qe rfl ?_
          refine z0r ?_
          replace H:=retl H hq17
          cases H
          exact ⟨trivial,.inl rfl,trivial⟩
         ·replace H:=iff_ h53 H
          refine z0s ?_
          refine z0b hN rfl ?_
          refine z0a (z3v rfl rfl (by omega)) ?_
          refine qd rfl ?_
          exact ⟨_,z63 H,⟨rfl,rfl,rfl,rfl,trivial⟩,⟨rfl,trivial⟩⟩
theorem y8y (s sep:Bs) (r:List Bs) (H:z7v s sep=some r):FnG Tryz.prog 147 [.dat (vstr s),.dat (vstr sep)] [] (.row 900 r.length) [(900,.row 9 1 (List.map z00 r))]:=by
 obtain ⟨h1,h2,rfl⟩:=x73 H
 have hlen:=Lib.splitB_all ⟨sep.toArray⟩ (by simpa [ByteArray.size] using h2) 0 _ ⟨s.toArray⟩ rfl
 have hle:=Lib.countB_le ⟨sep.toArray⟩ (by simpa [ByteArray.size] using h2) _ ⟨s.toArray⟩ (Nat.le_refl _)
 refine w3s (args:=[vstr s,vstr sep]) (y63 s sep) (by kernel_rfl) (fun M w vs hM hvs => ?_) ?_
 ·have hv:=y8j (us:=[.string ⟨s.toArray⟩,.string ⟨sep.toArray⟩]) hvs
  subst hv
  obtain ⟨m,hm⟩:=x5q hM
  refine (Tryz.strings_Split ⟨s.toArray⟩ ⟨sep.toArray⟩ m w (by simp [ByteArray.size]; omega) hm (by simpa [ByteArray.size] using h2)).mono ?_
  rintro e w' ⟨rfl,rfl⟩
  have e1:(y63 s sep).length=Lib.countB ⟨s.toArray⟩ ⟨sep.toArray⟩+1:=by unfold y63; rw [List.length_map,hlen]
  have e2:((y63 s sep).map fun s=>Value.string ⟨s.toArray⟩)=(Lib.splitB ⟨sep.toArray⟩ 0 (Lib.countB ⟨s.toArray⟩ ⟨sep.toArray⟩) ⟨s.toArray⟩).map Value.string:=by
   unfold y63
   rw [List.map_map]
   exact List.map_congr_left fun b _=>by simp
  rw [e1,e2]
  exact ⟨rfl,rfl⟩
 ·unfold y63 maxLen
  rw [List.length_map,hlen]
  have hsz:(ByteArray.mk s.toArray).size=s.length:=by simp [ByteArray.size]
  rw [hsz] at hle
  omega
theorem y6h (s sep:Bs) (r:List Bs) (H:z7v s sep=some r):Fn Tryz.prog 147 [vstr s,vstr sep] (z1x [vlst (List.map z00 r)]):=by
 have h:=y8y s sep r H
 rw [← List.length_map (f:=z00)] at h
 exact w05 h
theorem y82 (s1:Bs) (r:(Bool)) (H:y08 s1=some r):Fn Tryz.prog 132 [vstr s1] (z1x [z1e r]):=by
 refine ⟨by kernel_rfl,z1k (us:=[z1e r]) Tryz.func132 rfl rfl rfl rfl fun X hN => ?_⟩
 unfold y08 at H
 refine z0c ?_
 refine z0b hN rfl ?_
 refine qe rfl ?_
 refine z0c ?_
 refine z0b hN rfl ?_
 refine qd rfl ?_
 obtain ⟨r2,h3,H⟩:=bnd H
 refine z0a (z0x (y6h s1 [58] r2 h3) ⟨.inl rfl,.inl rfl,trivial⟩) ?_
 refine qe rfl ?_
 refine z0c ?_
 refine z0c ?_
 refine z0b hN rfl ?_
 refine qd rfl ?_
 refine z0a (z43 y2p rfl) ?_
 refine qd rfl ?_
 refine z0y ?_
 obtain ⟨h6,H⟩:=gif H
 refine z3u (fun (k4:Nat) (s:Unit)=>[(3,.dat (vlst (List.map z00 r2))),(8,.dat (vlst (List.map z00 r2))),(9,.dat (vint (r2.length:Int))),(10,.dat (vint (k4:Int)))]) (fun (k4:Nat) (s:Unit)=>[]) () H ⟨rfl,rfl,rfl,rfl,trivial⟩ trivial (fun _ _=>rfl) ?_ ?_
 ·rintro ⟨⟩ H
  replace H:y3b r2=some r:=H
  unfold y3b at H
  refine z0c ?_
  refine z0b hN rfl ?_
  refine z0a (z05 rfl rfl) ?_
  refine z0c ?_
  refine z0i _ rfl (fun h=>(lt_t h).elim) (fun h => ?_)
  refine z1v ?_
  refine z0c ?_
  refine z0b hN rfl ?_
  refine qd rfl ?_
  refine z0a (z43 y2p rfl) ?_
  refine z0a (y3u rfl rfl) ?_
  refine qe rfl ?_
  refine z0r ?_
  cases H
  exact ⟨trivial,.inl rfl,trivial⟩
 ·rintro k4 x7 ⟨⟩ q5 h8 h9 H hq5
  replace H:y12 r2 k4 x7=some q5:=H
  unfold y12 at H
  refine z0c ?_
  refine z0b hN rfl ?_
  refine z0a (z05 rfl rfl) ?_
  refine z0c ?_
  refine z0i _ rfl (fun h => ?_) (fun h=>(lt_f h8 h).elim)
  refine z0s ?_
  refine z0c ?_
  refine z0y ?_
  refine z0c ?_
  refine z0b hN rfl ?_
  refine qd rfl ?_
  refine z0a (y1g y5z (fun _=>rfl) rfl rfl h9) ?_
  refine z0a (z1q tyS9 rfl (z29 h9) rfl) ?_
  refine qe rfl ?_
  refine qe rfl ?_
  refine z0c ?_
  refine z0b hN rfl ?_
  refine qd rfl ?_
  obtain ⟨r10,h11,H⟩:=bnd H
  refine z0a (z0x (y2g x7 r10 h11) ⟨.inl rfl,trivial⟩) ?_
  refine z0a (z3r rfl) ?_
  refine qd rfl ?_
  refine z4w rfl rfl (fun hc=>z0k (.dat _) rfl) ?_
  refine z4w rfl rfl (fun hc=>y1m (cnd (c:=(!r10)) hc) rfl) ?_
  refine z4w rfl rfl (fun hc=>z0k (.dat _) (cnd (c:=(!r10)) hc)) ?_
  refine y5a rfl rfl (fun hc=>z0k (.dat _) rfl) ?_
  refine y5a rfl rfl (fun hc=>z0k (.dat _) rfl) ?_
  refine y5a rfl rfl (fun hc=>z43 y2p (cnd (c:=((!r10) && !(decide (x7≠[42])))) hc)) ?_
  refine y5a rfl rfl (fun hc=>z1s _ (cnd (c:=((!r10) && !(decide (x7≠[42])))) hc) rfl (.inr (.inl ⟨rfl,rfl⟩))) ?_
  refine y5a rfl rfl (fun hc=>z05 (cnd (c:=((!r10) && !(decide (x7≠[42])))) hc) (cnd (c:=((!r10) && !(decide (x7≠[42])))) hc)) ?_
  refine z4w rfl rfl (fun hc=>z8k (cnd (c:=(!r10)) hc) rfl (fun hb=>(cnd (c:=((!r10) && !(decide (x7≠[42])))) (andI hc (notI hb))))) ?_
  refine z0a (z2z rfl (fun hb=>(cnd (c:=(!r10)) hb)) rfl) ?_
  refine z0i _ rfl (fun h12 => ?_) (fun h12 => ?_)
  ·replace H:=ift h12 H
   refine z0c ?_
   refine z0b hN rfl ?_
   refine qe rfl ?_
   refine z0r ?_
   replace H:=retl H hq5
   cases H
   exact ⟨trivial,.inl rfl,trivial⟩
  ·replace H:=iff_ h12 H
   refine z0s ?_
   refine z0b hN rfl ?_
   refine z0a (z3v rfl rfl (by omega)) ?_
   refine qd rfl ?_
   exact ⟨_,z63 H,⟨rfl,rfl,rfl,rfl,trivial⟩,trivial⟩
theorem y53 (l1:(List Bs)) (r:(Int)) (H:z65 l1=some r):Fn Tryz.prog 89 [vlst (List.map z00 l1)] (z1x [vint r]):=by
 refine ⟨by kernel_rfl,z1k (us:=[vint r]) Tryz.func89 rfl rfl rfl rfl fun X hN => ?_⟩
 unfold z65 at H
 refine z0c ?_
 refine z0b hN rfl ?_
 refine qe rfl ?_
 refine z0c ?_
 refine z0c ?_
 refine z0b hN rfl ?_
 refine qd rfl ?_
 refine z0a (z43 y2p rfl) ?_
 refine z0a (z5n rfl rfl) ?_
 refine z0i _ rfl (fun h2 => ?_) (fun h2 => ?_)
 ·replace H:=ift h2 H
  refine z0c ?_
  refine z0b hN rfl ?_
  refine qe rfl ?_
  refine z0r ?_
  cases H
  exact ⟨trivial,.inl rfl,trivial⟩
 ·replace H:=iff_ h2 H
  refine z0s ?_
  refine z0c ?_
  refine z0c ?_
  refine z0b hN rfl ?_
  refine qd rfl ?_
  refine z0a (z43 y2p rfl) ?_
  refine qd rfl ?_
  refine z0y ?_
  obtain ⟨h5,H⟩:=gif H
  refine z3u (fun (k3:Nat) (s:Unit)=>[(8,.dat (vlst (List.map z00 l1))),(9,.dat (vint (l1.length:Int))),(10,.dat (vint (k3:Int)))]) (fun (k3:Nat) (s:Unit)=>[]) () H ⟨rfl,rfl,rfl,trivial⟩ trivial (fun _ _=>rfl) ?_ ?_
  ·rintro ⟨⟩ H
   replace H:y02=some r:=H
   unfold y02 at H
   refine z0c ?_
   refine z0b hN rfl ?_
   refine z0a (z05 rfl rfl) ?_
   refine z0c ?_
   refine z0i _ rfl (fun h=>(lt_t h).elim) (fun h => ?_)
   refine z1v ?_
   refine z0c ?_
   refine z0b hN rfl ?_
   refine qe rfl ?_
   refine z0r ?_
   cases H
   exact ⟨trivial,.inl rfl,trivial⟩
  ·rintro k3 x6 ⟨⟩ q4 h7 h8 H hq4
   replace H:z8x k3 x6=some q4:=H
   unfold z8x at H
   refine z0c ?_
   refine z0b hN rfl ?_
   refine z0a (z05 rfl rfl) ?_
   refine z0c ?_
   refine z0i _ rfl (fun h => ?_) (fun h=>(lt_f h7 h).elim)
   refine z0s ?_
   refine z0c ?_
   refine z0y ?_
   refine z0c ?_
   refine z0b hN rfl ?_
   refine z0a (y1g y5z (fun _=>rfl) rfl rfl h8) ?_
   refine z0a (z1q tyS9 rfl (z29 h8) rfl) ?_
   refine qe rfl ?_
   refine z0c ?_
   refine z0b hN rfl ?_
   refine qd rfl ?_
   obtain ⟨r9,h10,H⟩:=bnd H
   refine z0a (z0x (y82 x6 r9 h10) ⟨.inl rfl,trivial⟩) ?_
   refine z0a (z3r rfl) ?_
   refine z0i _ rfl (fun h11 => ?_) (fun h11 => ?_)
   ·replace H:=ift h11 H
    refine z0c ?_
    refine z0b hN rfl ?_
    refine qe rfl ?_
    refine z0r ?_
    replace H:=retl H hq4
    cases H
    exact ⟨trivial,.inl rfl,trivial⟩
   ·replace H:=iff_ h11 H
    refine z0s ?_
    refine z0b hN rfl ?_
    refine z0a (z3v rfl rfl (by omega)) ?_
    refine qd rfl ?_
    exact ⟨_,z63 H,⟨rfl,rfl,rfl,trivial⟩,trivial⟩
theorem y2y (v1:z0g) (r:(Int)) (H:z5i v1=some r):Fn Tryz.prog 53 [vagg (z1d v1)] (z1x [vint r]):=by
 refine ⟨by kernel_rfl,z1k (us:=[vint r]) Tryz.func53 rfl rfl rfl rfl fun X hN => ?_⟩
 unfold z5i at H
 refine z0c ?_
 refine z0b hN rfl ?_
 refine z0f (z2h 1 rfl) rfl ?_
 refine qe rfl ?_
 refine z0c ?_
 refine z0c ?_
 refine z0b hN rfl ?_
 refine z0a (z0p y5k rfl) ?_
 refine z0j (z0n x1s rfl rfl) rfl ?_
 refine z0a (z43 x3m rfl) ?_
 refine z0a (z5n rfl rfl) ?_
 refine z0i _ rfl (fun h2 => ?_) (fun h2 => ?_)
 ·replace H:=ift h2 H
  refine z0c ?_
  refine z0b hN rfl ?_
  refine qe rfl ?_
  refine z0r ?_
  cases H
  exact ⟨trivial,.inl rfl,trivial⟩
 ·replace H:=iff_ h2 H
  refine z0s ?_
  refine z0c ?_
  refine z0b hN rfl ?_
  refine qe rfl ?_
  refine z0c ?_
  refine z0c ?_
  refine z0b hN rfl ?_
  refine z0a (z0p y5k rfl) ?_
  refine z0j (z0n x1s rfl rfl) rfl ?_
  refine z0a (z43 x3m rfl) ?_
  refine qd rfl ?_
  refine z0y ?_
  obtain ⟨h6,H⟩:=gif H
  refine z3u (fun (k4:Nat) (s:Bs)=>[(1,.ptr 1 0),(3,.dat (vstr s)),(15,.dat (vlst (List.map z0u v1.Products))),(16,.dat (vint (v1.Products.length:Int))),(17,.dat (vint (k4:Int)))]) (fun (k4:Nat) (s:Bs)=>[(1,.box none 29 [.dat (vlst (List.map z0u v1.Products)),.dat (vlst (List.map z0z v1.Plans))])]) [] H ⟨rfl,rfl,rfl,rfl,rfl,trivial⟩ ⟨rfl,trivial⟩ (fun _ _=>rfl) ?_ ?_
  ·rintro v3 H
   replace H:z47 v1 v3=some r:=H
   unfold z47 at H
   refine z0c ?_
   refine z0b hN rfl ?_
   refine z0a (z05 rfl rfl) ?_
   refine z0c ?_
   refine z0i _ rfl (fun h=>(lt_t h).elim) (fun h => ?_)
   refine z1v ?_
   refine z0c ?_
   refine z0c ?_
   refine z0b hN rfl ?_
   refine z0a (z0p z9n rfl) ?_
   refine z0j (z0n y4q rfl rfl) rfl ?_
   refine z0a (z43 y9e rfl) ?_
   refine z0a (z5n rfl rfl) ?_
   refine z0i _ rfl (fun h8 => ?_) (fun h8 => ?_)
   ·replace H:=ift h8 H
    refine z0c ?_
    refine z0b hN rfl ?_
    refine qe rfl ?_
    refine z0r ?_
    cases H
    exact ⟨trivial,.inl rfl,trivial⟩
   ·replace H:=iff_ h8 H
    refine z0s ?_
    refine z0c ?_
    refine z0b hN rfl ?_
    refine qe rfl ?_
    refine z0c ?_
    refine z0c ?_
    refine z0b hN rfl ?_
    refine z0a (z0p z9n rfl) ?_
    refine z0j (z0n y4q rfl rfl) rfl ?_
    refine z0a (z43 y9e rfl) ?_
    refine qd rfl ?_
    refine z0y ?_
    obtain ⟨h12,H⟩:=gif H
    refine z3u (fun (k10:Nat) (s:Bs)=>[(1,.ptr 1 0),(3,.dat (vstr s)),(45,.dat (vlst (List.map z0z v1.Plans))),(46,.dat (vint (v1.Plans.length:Int))),(47,.dat (vint (k10:Int)))]) (fun (k10:Nat) (s:Bs)=>[(1,.box none 29 [.dat (vlst (List.map z0u v1.Products)),.dat (vlst (List.map z0z v1.Plans))])]) [] H ⟨rfl,rfl,rfl,rfl,rfl,trivial⟩ ⟨rfl,trivial⟩ (fun _ _=>rfl) ?_ ?_
    ·rintro v9 H
     replace H:z8i v9=some r:=H
     unfold z8i at H
     refine z0c ?_
     refine z0b hN rfl ?_
     refine z0a (z05 rfl rfl) ?_
     refine z0c ?_
     refine z0i _ rfl (fun h=>(lt_t h).elim) (fun h => ?_)
     refine z1v ?_
     refine z0c ?_
     refine z0b hN rfl ?_
     refine qe rfl ?_
     refine z0r ?_
     cases H
     exact ⟨trivial,.inl rfl,trivial⟩
    ·rintro k10 x13 v9 q11 h14 h15 H hq11
     replace H:z8g v1 k10 x13 v9=some q11:=H
     unfold z8g at H
     refine z0c ?_
     refine z0b hN rfl ?_
     refine z0a (z05 rfl rfl) ?_
     refine z0c ?_
     refine z0i _ rfl (fun h => ?_) (fun h=>(lt_f h14 h).elim)
     refine z0s ?_
     refine z0c ?_
     refine z0y ?_
     refine z0c ?_
     refine z0b hN rfl ?_
     refine z0a (y1g y8u (fun _=>rfl) rfl rfl h15) ?_
     refine z0a (z2s y1j rfl (z29 h15) rfl) ?_
     refine z0f (z1h 2 y48 rfl) rfl ?_
     refine z0f (z02 y1j rfl rfl rfl rfl) rfl ?_
     refine z0c ?_
     refine z0y ?_
     refine z0c ?_
     refine z0b hN rfl ?_
     refine z0a (z0p y1k rfl) ?_
     refine z0j (z0n tyS9 rfl rfl) rfl ?_
     obtain ⟨r16,h17,H⟩:=bnd H
     refine z0a (z0x (y2g x13.Key r16 h17) ⟨.inl rfl,trivial⟩) ?_
     refine z0a (z3r rfl) ?_
     refine qe rfl ?_
     refine z0i _ rfl (fun h18 => ?_) (fun h18 => ?_)
     ·replace H:=ift h18 H
      refine z0c ?_
      refine z0b hN rfl ?_
      refine qe rfl ?_
      refine z0r ?_
      replace H:=retl H hq11
      cases H
      exact ⟨trivial,.inl rfl,trivial⟩
     ·replace H:=iff_ h18 H
      refine z0c ?_
      refine z0b hN rfl ?_
      refine z0a (z0p y1k rfl) ?_
      refine z0j (z0n tyS9 rfl rfl) rfl ?_
      refine qd rfl ?_
      refine z0a (y6p rfl rfl) ?_
      refine qe rfl ?_
      refine z0i _ rfl (fun h19 => ?_) (fun h19 => ?_)
      ·replace H:=ift h19 H
       refine z0c ?_
       refine z0b hN rfl ?_
       refine qe rfl ?_
       refine z0r ?_
       replace H:=retl H hq11
       cases H
       exact ⟨trivial,.inl rfl,trivial⟩
      ·replace H:=iff_ h19 H
       refine z0s ?_
       refine z0c ?_
       refine z0b hN rfl ?_
       refine z0a (z0p y1k rfl) ?_
       refine z0j (z0n tyS9 rfl rfl) rfl ?_
       refine qe rfl ?_
       refine z0c ?_
       refine z0b hN rfl ?_
       refine z0j (z04 z5d rfl rfl rfl) rfl ?_
       refine z0j (z04 y1j rfl rfl rfl) rfl ?_
       obtain ⟨r20,h21,H⟩:=bnd H
       refine z0a (z0x (y6z v1 x13 r20 h21) ⟨.inl rfl,.inl rfl,trivial⟩) ?_
       refine qe rfl ?_
       refine z0c ?_
       refine z0b hN rfl ?_
       refine qd rfl ?_
       refine z0a (z6i rfl rfl) ?_
       refine z0i _ rfl (fun h22 => ?_) (fun h22 => ?_)
       ·replace H:=ift h22 H
        refine z0c ?_
        refine z0b hN rfl ?_
        refine qd rfl ?_
        refine qe rfl ?_
        refine z0r ?_
        replace H:=retl H hq11
        cases H
        exact ⟨trivial,.inl rfl,trivial⟩
       ·replace H:=iff_ h22 H
        refine z0s ?_
        refine z0b hN rfl ?_
        refine z0a (z3v rfl rfl (by omega)) ?_
        refine qd rfl ?_
        exact ⟨_,z63 H,⟨rfl,rfl,rfl,rfl,rfl,trivial⟩,⟨rfl,trivial⟩⟩
  ·rintro k4 x7 v3 q5 h23 h24 H hq5
   replace H:z8h k4 x7 v3=some q5:=H
   unfold z8h at H
   refine z0c ?_
   refine z0b hN rfl ?_
   refine z0a (z05 rfl rfl) ?_
   refine z0c ?_
   refine z0i _ rfl (fun h => ?_) (fun h=>(lt_f h23 h).elim)
   refine z0s ?_
   refine z0c ?_
   refine z0y ?_
   refine z0c ?_
   refine z0b hN rfl ?_
   refine z0a (y1g x3q (fun _=>rfl) rfl rfl h24) ?_
   refine z0a (z2s y9f rfl (z29 h24) rfl) ?_
   refine z0f (z1h 3 x0r rfl) rfl ?_
   refine z0f (z02 y9f rfl rfl rfl rfl) rfl ?_
   refine z0c ?_
   refine z0y ?_
   refine z0c ?_
   refine z0b hN rfl ?_
   refine z0a (z0p y4z rfl) ?_
   refine z0j (z0n tyS9 rfl rfl) rfl ?_
   obtain ⟨r25,h26,H⟩:=bnd H
   refine z0a (z0x (y2g x7.Key r25 h26) ⟨.inl rfl,trivial⟩) ?_
   refine z0a (z3r rfl) ?_
   refine qe rfl ?_
   refine z0i _ rfl (fun h27 => ?_) (fun h27 => ?_)
   ·replace H:=ift h27 H
    refine z0c ?_
    refine z0b hN rfl ?_
    refine qe rfl ?_
    refine z0r ?_
    replace H:=retl H hq5
    cases H
    exact ⟨trivial,.inl rfl,trivial⟩
   ·replace H:=iff_ h27 H
    refine z0c ?_
    refine z0b hN rfl ?_
    refine z0a (z0p y4z rfl) ?_
    refine z0j (z0n tyS9 rfl rfl) rfl ?_
    refine qd rfl ?_
    refine z0a (y6p rfl rfl) ?_
    refine qe rfl ?_
    refine z0i _ rfl (fun h28 => ?_) (fun h28 => ?_)
    ·replace H:=ift h28 H
     refine z0c ?_
     refine z0b hN rfl ?_
     refine qe rfl ?_
     refine z0r ?_
     replace H:=retl H hq5
     cases H
     exact ⟨trivial,.inl rfl,trivial⟩
    ·replace H:=iff_ h28 H
     refine z0s ?_
     refine z0c ?_
     refine z0b hN rfl ?_
     refine z0a (z0p y4z rfl) ?_
     refine z0j (z0n tyS9 rfl rfl) rfl ?_
     refine qe rfl ?_
     refine z0c ?_
     refine z0b hN rfl ?_
     refine z0a (z0p x1t rfl) ?_
     refine z0j (z0n x3o rfl rfl) rfl ?_
     obtain ⟨r29,h30,H⟩:=bnd H
     refine z0a (z0x (y53 x7.Scopes r29 h30) ⟨.inl rfl,trivial⟩) ?_
     refine qe rfl ?_
     refine z0c ?_
     refine z0b hN rfl ?_
     refine qd rfl ?_
     refine z0a (z6i rfl rfl) ?_
     refine z0i _ rfl (fun h31 => ?_) (fun h31 => ?_)
     ·replace H:=ift h31 H
      refine z0c ?_
      refine z0b hN rfl ?_
      refine qd rfl ?_
      refine qe rfl ?_
      refine z0r ?_
      replace H:=retl H hq5
      cases H
      exact ⟨trivial,.inl rfl,trivial⟩
     ·replace H:=iff_ h31 H
      refine z0s ?_
      refine z0b hN rfl ?_
      refine z0a (z3v rfl rfl (by omega)) ?_
      refine qd rfl ?_
      exact ⟨_,z63 H,⟨rfl,rfl,rfl,rfl,rfl,trivial⟩,⟨rfl,trivial⟩⟩
theorem y4m  (r:(z0h)) (H:z7x  = some r):Fn Tryz.prog 45 [] (z1x [vagg (z08 r)]):=by
 refine ⟨by kernel_rfl,z1k (us:=[vagg (z08 r)]) Tryz.func45 rfl rfl rfl rfl fun X hN => ?_⟩
 unfold z7x at H
 refine z0c ?_
 refine z0b hN rfl ?_
 refine z0f (z1h 1 y3h rfl) rfl ?_
 refine z0c ?_
 refine z0b hN rfl ?_
 refine z0a (z06 (u':=vagg (z08 (z0h.mk 0 [] 0 (-1)))) (z3k [(3,[vint (-1)])] y3h x7r rfl ⟨rfl,.inl ⟨_,rfl,rfl,rfl⟩,rfl,trivial⟩) rfl) ?_
 refine z0f (z02 z4h rfl rfl rfl rfl) rfl ?_
 refine z0r ?_
 cases H
 exact ⟨trivial,.inl ⟨_,_,_,z08 (z0h.mk 0 [] 0 (-1)),rfl,rfl,rfl,rfl,z4h⟩,trivial⟩
theorem y1v (s1:(List z0o)) (p1:z0o→Option (Bool)) (fv1:Nat) (us1:List V) (hp1:∀ a0 r,p1 a0=some r→Fn Tryz.prog fv1 ([vagg (z0z a0)]++us1) (z1x [z1e r])) (r:(Int)) (H:z3s s1 p1=some r):Fn Tryz.prog 95 [vlst (List.map z0z s1),vfn fv1 us1] (z1x [vint r]):=by
 refine ⟨by kernel_rfl,z1k (us:=[vint r]) Tryz.func95 rfl rfl rfl rfl fun X hN => ?_⟩
 unfold z3s at H
 refine z0c ?_
 refine z0b hN rfl ?_
 refine qe rfl ?_
 refine z0c ?_
 refine z0c ?_
 refine z0b hN rfl ?_
 refine qd rfl ?_
 refine z0a (z43 y9e rfl) ?_
 refine qd rfl ?_
 refine z0y ?_
 obtain ⟨h4,H⟩:=gif H
 refine z3u (fun (k2:Nat) (s:Unit)=>[(0,.dat (vlst (List.map z0z s1))),(1,.dat (vfn fv1 us1)),(7,.dat (vint (s1.length:Int))),(8,.dat (vint (k2:Int)))]) (fun (k2:Nat) (s:Unit)=>[]) () H ⟨rfl,rfl,rfl,rfl,trivial⟩ trivial (fun _ _=>rfl) ?_ ?_
 ·rintro ⟨⟩ H
  replace H:z45=some r:=H
  unfold z45 at H
  refine z0c ?_
  refine z0b hN rfl ?_
  refine z0a (z05 rfl rfl) ?_
  refine z0c ?_
  refine z0i _ rfl (fun h=>(lt_t h).elim) (fun h => ?_)
  refine z1v ?_
  refine z0c ?_
  refine z0b hN rfl ?_
  refine qe rfl ?_
  refine z0r ?_
  cases H
  exact ⟨trivial,.inl rfl,trivial⟩
 ·rintro k2 x5 ⟨⟩ q3 h6 h7 H hq3
  replace H:z44 p1 k2 x5=some q3:=H
  unfold z44 at H
  refine z0c ?_
  refine z0b hN rfl ?_
  refine z0a (z05 rfl rfl) ?_
  refine z0c ?_
  refine z0i _ rfl (fun h => ?_) (fun h=>(lt_f h6 h).elim)
  refine z0s ?_
  refine z0c ?_
  refine z0y ?_
  refine z0c ?_
  refine z0b hN rfl ?_
  refine qd rfl ?_
  refine qe rfl ?_
  refine z0c ?_
  refine z0b hN rfl ?_
  refine qd rfl ?_
  refine qd rfl ?_
  refine qd rfl ?_
  refine z0a (y1g y8u (fun _=>rfl) rfl rfl h7) ?_
  refine z0a (z2s y1j rfl (z29 h7) rfl) ?_
  obtain ⟨r8,h9,H⟩:=bnd H
  refine z0a (z9v (hp1 x5 r8 h9) rfl ⟨.inl rfl,trivial⟩) ?_
  refine z0i _ rfl (fun h10 => ?_) (fun h10 => ?_)
  ·replace H:=ift h10 H
   refine z0c ?_
   refine z0b hN rfl ?_
   refine qd rfl ?_
   refine qe rfl ?_
   refine z0r ?_
   replace H:=retl H hq3
   cases H
   exact ⟨trivial,.inl rfl,trivial⟩
  ·replace H:=iff_ h10 H
   refine z0s ?_
   refine z0b hN rfl ?_
   refine z0a (z3v rfl rfl (by omega)) ?_
   refine qd rfl ?_
   exact ⟨_,z63 H,⟨rfl,rfl,rfl,rfl,trivial⟩,trivial⟩
theorem y7f (p1:z0o) (c2:Bs) (r:(Bool)) (H:z7e p1 c2=some r):Fn Tryz.prog 96 [vagg (z0z p1),z9m [[vstr c2]] 0 0] (z1x [z1e r]):=by
 refine ⟨by kernel_rfl,z1k (us:=[z1e r]) Tryz.func96 rfl rfl rfl rfl fun X hN => ?_⟩
 unfold z7e at H
 refine z0c ?_
 refine z0b hN rfl ?_
 refine z0f (z2h 1 rfl) rfl ?_
 refine qe rfl ?_
 refine z0c ?_
 refine z0b hN rfl ?_
 refine z0a (z0p y1k rfl) ?_
 refine z0j (z0n tyS9 rfl rfl) rfl ?_
 refine z0a (z1q tyS9 rfl rfl rfl) ?_
 refine z0a (y33 rfl rfl) ?_
 refine qe rfl ?_
 refine z0r ?_
 cases H
 exact ⟨trivial,.inl rfl,trivial⟩
theorem y11 (c1:z0g) (key2:Bs) (r:(Int)) (H:z35 c1 key2=some r):Fn Tryz.prog 59 [vagg (z1d c1),vstr key2] (z1x [vint r]):=by
 refine ⟨by kernel_rfl,z1k (us:=[vint r]) Tryz.func59 rfl rfl rfl rfl fun X hN => ?_⟩
 unfold z35 at H
 refine z0c ?_
 refine z0b hN rfl ?_
 refine z0f (z2h 1 rfl) rfl ?_
 refine z0f (y5p 2 rfl rfl) rfl ?_
 refine qe rfl ?_
 refine z0c ?_
 refine y4y 2 [vstr key2] rfl rfl ?_
 refine z0b hN rfl ?_
 refine z0a (z0p z9n rfl) ?_
 refine z0j (z0n y4q rfl rfl) rfl ?_
 refine z0a (y5n (us:=[_]) ⟨rfl,trivial⟩) ?_
 obtain ⟨r3,h4,H⟩:=bnd H
 refine z0a (z0x (y1v c1.Plans (fun (a0:z0o)=>z7e a0 key2) 96 [z9m [[vstr key2]] 0 0] (fun a0 r h=>y7f a0 key2 r h) r3 h4) ⟨.inl rfl,.inl rfl,trivial⟩) ?_
 refine qe rfl ?_
 refine z0r ?_
 cases H
 exact ⟨trivial,.inl rfl,trivial⟩
end Go.Proofs.YticadaaoggpenaaGreatDoor
