/- Walks along the models. Printed by a program. -/
import Derived.Test.YtndabcepiekebaaGreatDoorZjw5
namespace Go.Proofs.YtndabcepiekebaaGreatDoor
open Go.RowKit
set_option linter.unusedVariables false
set_option maxRecDepth 100000
set_option maxHeartbeats 2000000
theorem x6m (l1:(List Bs)) (r:((List Bs))) (H:y5i l1=some r):Fn Tryz.prog 187 [vlst (List.map z0n l1)] (z1r [vlst (List.map z0n r)]):=by
 refine ⟨by kernel_rfl,z1e (us:=[vlst (List.map z0n r)]) Tryz.func187 rfl rfl rfl rfl fun X hN => ?_⟩
 unfold y5i at H
 refine z0c ?_
 refine z0b hN rfl ?_
 refine qe rfl ?_
 refine z0c ?_
 refine z0b hN rfl ?_
 refine qd rfl ?_
 obtain ⟨r2,h3,H⟩:=bnd H
 refine y31 (rn [(900,1)]) [] [(900,_)] (y1x l1 r2 h3) ⟨rfl,trivial⟩ ⟨.inl (.inl rfl),trivial⟩ trivial rfl ?_
 refine z0a (z13 (.row _ _) rfl) ?_
 refine z0c ?_
 refine z0b hN rfl ?_
 refine z0a (z0h (.row _ _) rfl) ?_
 obtain ⟨r4,h5,H⟩:=bnd H
 refine y31 (rn [(0,1)]) [(0,_,_,some _)] [] (z9d r2 r4 h5) ⟨rfl,trivial⟩ ⟨.inl (.inl rfl),trivial⟩ ⟨⟨⟨rfl,rfl,rfl⟩,by simp [x7m,y4j h5]⟩,trivial⟩ rfl ?_
 refine z0c ?_
 refine z0b hN rfl ?_
 refine z0a (z0h (.row _ _) rfl) ?_
 obtain ⟨r6,h7,H⟩:=bnd H
 refine y31 (rn [(0,1),(900,2)]) [(0,_,_,none)] [(900,_)] (y1c r4 r6 h7) ⟨rfl,rfl,trivial⟩ ⟨.inl (.inl (congrArg (Slot.row 1) (y4j h5).symm)),trivial⟩ ⟨⟨⟨rfl,rfl,rfl⟩,trivial⟩,trivial⟩ rfl ?_
 refine z0a (z13 (.row _ _) rfl) ?_
 refine z0m ?_
 cases H
 exact ⟨trivial,y87 rfl rfl,trivial⟩
theorem y30 (s1:(List Bs)) (p1:Bs→Option (Bool)) (fv1:Nat) (us1:List V) (hp1:∀ a0 r,p1 a0=some r→Fn Tryz.prog fv1 ([vstr a0]++us1) (z1r [z05 r])) (r:((List Bs))) (H:z4v s1 p1=some r):FnG Tryz.prog 188 [.row 0 s1.length,.dat (vfn fv1 us1)] [(0,.row 9 1 (List.map z0n s1))] (.row 900 r.length) [(900,.row 9 1 (List.map z0n r))]:=by
 refine x9d (by kernel_rfl) Tryz.func188 rfl rfl rfl rfl fun X A hN => ?_
 unfold z4v at H
 refine z0c ?_
 refine z0b hN rfl ?_
 refine qe rfl ?_
 refine z0c ?_
 refine z0b hN rfl ?_
 refine z0a (z0h (.row _ _) rfl) ?_
 refine qd rfl ?_
 obtain ⟨r2,h3,H⟩:=bnd H
 refine z0w (w06 (id:=0) (es:=List.map z0n s1) (y1a s1 p1 fv1 us1 hp1 r2 h3) ⟨.inr ⟨(congrArg (Slot.row 0) (by rw [List.length_map]):Slot.row 0 s1.length=_),rfl⟩,.inl (.inl (.inl rfl)),trivial⟩ (fun _ _ _ _ h=>h)) rfl ?_
 refine qe rfl ?_
 refine z0c ?_
 refine z0c ?_
 refine z0b hN rfl ?_
 refine qd rfl ?_
 refine z0a (z2z rfl rfl) ?_
 refine z0g _ rfl (fun h4 => ?_) (fun h4 => ?_)
 ·replace H:=ift h4 H
  refine z0c ?_
  refine z0b hN rfl ?_
  refine z0a (z0h (.row _ _) rfl) ?_
  refine z0a (z13 (.row _ _) rfl) ?_
  refine w3j 4 0 900 rfl rfl (by rw [List.length_map]) rfl ?_
  refine z0m ?_
  cases H
  exact ⟨trivial,[(4,.row 900 _)],⟨rfl,trivial⟩,⟨rfl,trivial⟩,rfl,.inr (.inl ⟨4,rfl,rfl⟩)⟩
 ·replace H:=iff_ h4 H
  refine z0l ?_
  refine z03 (ι:=Int×(List Bs)) (fun i=>[(0,.row 0 i.2.length),(5,.dat (vint i.1))]) (fun i=>[(0,.row 9 1 (List.map z0n i.2))]) (fun i=>z4i i.1 i.2=some r) (fun i=>rfl) ?_ ?_
  ·skip
   refine z0c ?_
   refine z0b hN rfl ?_
   refine qd rfl ?_
   refine z0a (z1c _ rfl rfl (.inl ⟨rfl,rfl⟩)) ?_
   refine qe rfl ?_
   refine z0v ?_
   refine y55 (fun (s:Int×Int×(List Bs))=>[(0,.row 0 s.2.2.length),(1,.dat (vfn fv1 us1)),(5,.dat (vint s.1)),(6,.dat (vint s.2.1))]) (fun (s:Int×Int×(List Bs))=>[(0,.row 9 1 (List.map z0n s.2.2))]) (r2,wr (r2+1),s1) H ⟨rfl,rfl,rfl,rfl,trivial⟩ ⟨rfl,trivial⟩ (fun _=>rfl) ?_
   rintro ⟨i5,j6,l7⟩ q8 H hq8
   replace H:z6z p1 i5 j6 l7=some q8:=H
   unfold z6z at H
   refine z0c ?_
   refine z0c ?_
   refine z0b hN rfl ?_
   refine qd rfl ?_
   refine z0a (z0h (.row _ _) rfl) ?_
   refine z0w (x8g z9p rfl rfl) rfl ?_
   refine z0a (z04 rfl rfl) ?_
   refine z0g _ rfl (fun h9 => ?_) (fun h9 => ?_)
   ·replace H:=ift h9 H
    refine z0l ?_
    refine z03 (ι:=Int×(List Bs)) (fun i=>[(0,.row 0 i.2.length),(1,.dat (vfn fv1 us1)),(5,.dat (vint i.1)),(6,.dat (vint j6))]) (fun i=>[(0,.row 9 1 (List.map z0n i.2))]) (fun i=>z29 j6 i.1 i.2=some q8) (fun i=>rfl) ?_ ?_
    ·skip
     refine z0v ?_
     refine z0c ?_
     refine z0b hN rfl ?_
     refine z0a (z0h (.row _ _) rfl) ?_
     refine qd rfl ?_
     obtain ⟨x10,h11,H⟩:=bnd H
     refine z0w (x7a z9i rfl rfl rfl h11) rfl ?_
     refine z0w (x8f tyS9 rfl rfl (z6x h11).2 rfl) rfl ?_
     refine qe rfl ?_
     refine z0c ?_
     refine z0b hN rfl ?_
     refine qd rfl ?_
     refine qd rfl ?_
     obtain ⟨r12,h13,H⟩:=bnd H
     refine z0a (y9v (hp1 x10 r12 h13) rfl ⟨.inl rfl,trivial⟩) ?_
     refine z0a (z2j rfl) ?_
     refine z0g _ rfl (fun h14 => ?_) (fun h14 => ?_)
     ·replace H:=ift h14 H
      refine z0c ?_
      refine z0b hN rfl ?_
      refine z0a (z0h (.row _ _) rfl) ?_
      refine qd rfl ?_
      refine qd rfl ?_
      obtain ⟨x15,h16,H⟩:=bnd H
      refine z0w (x7a z9i rfl rfl rfl h16) rfl ?_
      refine z0j (y9s x10 tyS9 rfl rfl rfl rfl (z6x h16).2 rfl rfl) rfl ?_
      refine z0b hN rfl ?_
      refine qd rfl ?_
      refine z0a (z1c _ rfl rfl (.inl ⟨rfl,rfl⟩)) ?_
      refine qe rfl ?_
      exact ⟨(wr (i5+1),(l7.set i5.toNat x10)),H,⟨congrArg (Slot.row 0) (by simp),rfl,rfl,rfl,trivial⟩,⟨rfl,trivial⟩⟩
     ·replace H:=iff_ h14 H
      refine z0l ?_
      exact ⟨(i5,l7),H,⟨rfl,rfl,rfl,rfl,trivial⟩,⟨rfl,trivial⟩⟩
    ·rintro ⟨i17,s18⟩ H
     replace H:z29 j6 i17 s18=some q8:=H
     unfold z29 at H
     refine z0b hN rfl ?_
     refine qd rfl ?_
     refine z0a (z1c _ rfl rfl (.inl ⟨rfl,rfl⟩)) ?_
     refine qe rfl ?_
     exact ⟨_,z84 H,⟨rfl,rfl,rfl,rfl,trivial⟩,⟨rfl,trivial⟩⟩
   ·replace H:=iff_ h9 H
    refine z1u ?_
    replace H:=outl H hq8
    exact ⟨(i5,l7),H,⟨rfl,rfl,trivial⟩,⟨rfl,trivial⟩⟩
  ·rintro ⟨i19,s20⟩ H
   replace H:z4i i19 s20=some r:=H
   unfold z4i at H
   refine z0c ?_
   refine z0b hN rfl ?_
   refine z0a (z0h (.row _ _) rfl) ?_
   refine qd rfl ?_
   obtain ⟨h21,H⟩:=gif H
   refine z0w (w8u (C:=z0n) z9i rfl rfl rfl h21) rfl ?_
   refine z0j (w6l (C:=z0n) [] z9p tyZ9 rfl rfl rfl rfl rfl h21) rfl ?_
   refine z0c ?_
   refine z0b hN rfl ?_
   refine z0a (z0h (.row _ _) rfl) ?_
   refine qd rfl ?_
   obtain ⟨h22,H⟩:=gif H
   refine w4u (v0h (C:=z0n) 1 z9i rfl (w76 [] h21) rfl h22) rfl rfl ?_
   refine z0a (z13 (.row _ _) rfl) ?_
   refine w3j 4 1 900 rfl rfl (by rw [List.length_map]; exact (w20 h22)) rfl ?_
   refine z0m ?_
   cases H
   exact ⟨trivial,[(4,.row 900 _)],⟨rfl,trivial⟩,⟨rfl,trivial⟩,rfl,.inr (.inl ⟨4,rfl,congrArg (Slot.row 900) (by first | exact w20 (by assumption) | (simp <;> omega))⟩)⟩
theorem x3j (a1:Bs) (b2:Bs) (r:(Bool)) (H:y32 a1 b2=some r):Fn Tryz.prog 192 [vstr a1,vstr b2] (z1r [z05 r]):=by
 refine ⟨by kernel_rfl,z1e (us:=[z05 r]) Tryz.func192 rfl rfl rfl rfl fun X hN => ?_⟩
 unfold y32 at H
 refine z0c ?_
 refine z0b hN rfl ?_
 refine qe rfl ?_
 refine z0c ?_
 refine z0c ?_
 refine z0b hN rfl ?_
 refine qd rfl ?_
 refine qd rfl ?_
 refine z0a (z6c rfl rfl) ?_
 refine z0g _ rfl (fun h3 => ?_) (fun h3 => ?_)
 ·replace H:=ift h3 H
  refine z0c ?_
  refine z0b hN rfl ?_
  refine qe rfl ?_
  refine z0m ?_
  cases H
  exact ⟨trivial,.inl rfl,trivial⟩
 ·replace H:=iff_ h3 H
  refine z0l ?_
  refine z0c ?_
  refine z0b hN rfl ?_
  refine qd rfl ?_
  obtain ⟨r4,h5,H⟩:=bnd H
  refine z0a (z0q (y6e a1 [42] r4 h5) ⟨.inl rfl,.inl rfl,trivial⟩) ?_
  refine qd rfl ?_
  refine z0a (z10 rfl rfl) ?_
  refine z0a (z10 rfl rfl) ?_
  refine qe rfl ?_
  refine qe rfl ?_
  refine z03 (ι:=Bool) (fun i=>[(4,.dat (z05 i))]) (fun i=>[]) (fun i=>y13 i=some r) (fun i=>rfl) ?_ ?_
  ·skip
   refine z0b hN rfl ?_
   refine qd rfl ?_
   refine qd rfl ?_
   refine z09 (j:=1) rfl rfl (fun h6 => ?_) (fun h6 => ?_) rfl
   ·have h7:=un1 h6
    replace H:=ift h7 H
    refine z0p rfl rfl h6 (z0h (.dat _) rfl) ?_
    refine z0p rfl rfl h6 (z0h (.dat _) rfl) ?_
    obtain ⟨r8,h9,H⟩:=bnd H
    refine z0p rfl rfl h6 (z0q (y6d b2 r4.1 r8 h9) ⟨.inl rfl,.inl rfl,trivial⟩) ?_
    refine z0a (z00 rfl (bTT h7) rfl) ?_
    refine qe rfl ?_
    exact ⟨r8,H,⟨rfl,trivial⟩,trivial⟩
   ·have h10:=un2 h6
    replace H:=iff_ h10 H
    refine z0f rfl rfl h6 ?_
    refine z0f rfl rfl h6 ?_
    refine z0f rfl rfl h6 ?_
    refine z0a (z0z rfl (bFF h10) rfl) ?_
    refine qe rfl ?_
    exact ⟨false,H,⟨rfl,trivial⟩,trivial⟩
  ·rintro v11 H
   replace H:y13 v11=some r:=H
   unfold y13 at H
   refine z0m ?_
   cases H
   exact ⟨trivial,.inl rfl,trivial⟩
theorem x0j (h1:Bs) (c2:Bs) (r:(Bool)) (H:y17 h1 c2=some r):Fn Tryz.prog 191 [vstr h1,y1q [[vstr c2]] 0 0] (z1r [z05 r]):=by
 refine ⟨by kernel_rfl,z1e (us:=[z05 r]) Tryz.func191 rfl rfl rfl rfl fun X hN => ?_⟩
 unfold y17 at H
 refine z0c ?_
 refine z0b hN rfl ?_
 refine qe rfl ?_
 refine z03 (ι:=Bool) (fun i=>[(3,.dat (z05 i))]) (fun i=>[]) (fun i=>z9z i=some r) (fun i=>rfl) ?_ ?_
 ·skip
  refine z0b hN rfl ?_
  refine qd rfl ?_
  refine z0a (z0x tyS9 rfl rfl rfl) ?_
  refine z0a (z9j rfl rfl) ?_
  refine qd rfl ?_
  refine z09 (j:=3) rfl rfl (fun h3 => ?_) (fun h3 => ?_) rfl
  ·have h4:=un1 h3
   replace H:=ift h4 H
   refine z0p rfl rfl h3 (z0h (.dat _) rfl) ?_
   refine z0p rfl rfl h3 (z0x tyS9 rfl rfl rfl) ?_
   obtain ⟨r5,h6,H⟩:=bnd H
   refine z0p rfl rfl h3 (z0q (x3j h1 c2 r5 h6) ⟨.inl rfl,.inl rfl,trivial⟩) ?_
   refine z0a (z00 rfl (bTT h4) rfl) ?_
   refine qe rfl ?_
   exact ⟨r5,H,⟨rfl,trivial⟩,trivial⟩
  ·have h7:=un2 h3
   replace H:=iff_ h7 H
   refine z0f rfl rfl h3 ?_
   refine z0f rfl rfl h3 ?_
   refine z0f rfl rfl h3 ?_
   refine z0a (z0z rfl (bFF h7) rfl) ?_
   refine qe rfl ?_
   exact ⟨false,H,⟨rfl,trivial⟩,trivial⟩
 ·rintro v8 H
  replace H:z9z v8=some r:=H
  unfold z9z at H
  refine z0m ?_
  cases H
  exact ⟨trivial,.inl rfl,trivial⟩
theorem x2r (s1:Bs) (c2:(List Bs)) (r:(Bool)) (H:y3i s1 c2=some r):Fn Tryz.prog 190 [vstr s1,y1q [[vlst (List.map z0n c2)]] 0 0] (z1r [z05 r]):=by
 refine ⟨by kernel_rfl,z1e (us:=[z05 r]) Tryz.func190 rfl rfl rfl rfl fun X hN => ?_⟩
 unfold y3i at H
 refine z0c ?_
 refine z0b hN rfl ?_
 refine z0j (y8i 1 rfl rfl) rfl ?_
 refine qe rfl ?_
 refine z0c ?_
 refine y3w 1 [vstr s1] rfl rfl ?_
 refine z0b hN rfl ?_
 refine z0a (z0x z85 rfl rfl rfl) ?_
 refine z0a (y5c (us:=[_]) ⟨rfl,trivial⟩) ?_
 obtain ⟨r3,h4,H⟩:=bnd H
 refine z0a (z0q (z6v c2 (fun (a0:Bs)=>y17 a0 s1) 191 [y1q [[vstr s1]] 0 0] (fun a0 r h=>x0j a0 s1 r h) r3 h4) ⟨.inl rfl,.inl rfl,trivial⟩) ?_
 refine qe rfl ?_
 refine z0m ?_
 cases H
 exact ⟨trivial,.inl rfl,trivial⟩
theorem x5c (l1:(List Bs)) (r:((List Bs))) (H:y4m l1=some r):Fn Tryz.prog 135 [vlst (List.map z0n l1)] (z1r [vlst (List.map z0n r)]):=by
 refine ⟨by kernel_rfl,z1e (us:=[vlst (List.map z0n r)]) Tryz.func135 rfl rfl rfl rfl fun X hN => ?_⟩
 unfold y4m at H
 refine z0c ?_
 refine z0b hN rfl ?_
 refine z0j (y8i 1 rfl rfl) rfl ?_
 refine qe rfl ?_
 refine z0c ?_
 refine z0b hN rfl ?_
 refine z0w (z0o z85 rfl rfl) rfl ?_
 obtain ⟨r2,h3,H⟩:=bnd H
 refine z0a (z0q (x6m l1 r2 h3) ⟨.inl rfl,trivial⟩) ?_
 refine z0j (z15 z85 rfl rfl rfl rfl) rfl ?_
 refine z0c ?_
 refine y3w 1 [vlst (List.map z0n r2)] rfl rfl ?_
 refine z0b hN rfl ?_
 refine z0a (z0x z85 rfl rfl rfl) ?_
 obtain ⟨r4,h5,H⟩:=bnd H
 refine y31 (rn [(900,2)]) [] [(900,_)] (y1x r2 r4 h5) ⟨rfl,trivial⟩ ⟨.inl (.inl rfl),trivial⟩ trivial rfl ?_
 refine z0a (y5c (us:=[_]) ⟨rfl,trivial⟩) ?_
 obtain ⟨r6,h7,H⟩:=bnd H
 refine y31 (rn [(0,2),(900,3)]) [(0,_,_,none)] [(900,_)] (y30 r4 (fun (a0:Bs)=>y3i a0 r2) 190 [y1q [[vlst (List.map z0n r2)]] 0 0] (fun a0 r h=>x2r a0 r2 r h) r6 h7) ⟨rfl,rfl,trivial⟩ ⟨.inl (.inl rfl),.inl (.inl rfl),trivial⟩ ⟨⟨⟨rfl,rfl,rfl⟩,trivial⟩,trivial⟩ rfl ?_
 refine z0a (z13 (.row _ _) rfl) ?_
 refine z0m ?_
 cases H
 exact ⟨trivial,y87 rfl rfl,trivial⟩
theorem y9h (v1:z0e) (r:(Int)) (H:z9a v1=some r):Fn Tryz.prog 68 [vagg (z0s v1)] (z1r [vint r]):=by
 refine ⟨by kernel_rfl,z1e (us:=[vint r]) Tryz.func68 rfl rfl rfl rfl fun X hN => ?_⟩
 unfold z9a at H
 refine z0c ?_
 refine z0b hN rfl ?_
 refine z0j (z9k 1 rfl) rfl ?_
 refine qe rfl ?_
 refine z0c ?_
 refine z03 (ι:=Bool) (fun i=>[(1,.ptr 1 0),(31,.dat (z05 i))]) (fun i=>[(1,.box none 39 [.dat (vstr v1.Id),.dat (vstr v1.Subject),.dat (vstr v1.Issuer),.dat (vstr v1.Parent),.dat (vlst (List.map z0n v1.Audience)),.dat (vlst (List.map z0n v1.Scopes)),.dat (vint v1.From),.dat (vint v1.To)])]) (fun i=>z3s v1 i=some r) (fun i=>rfl) ?_ ?_
 ·skip
  refine z0b hN rfl ?_
  refine z0a (z0r y7j rfl) ?_
  refine z0w (z0o tyS9 rfl rfl) rfl ?_
  obtain ⟨r2,h3,H⟩:=bnd H
  refine z0a (z0q (z98 v1.Id r2 h3) ⟨.inl rfl,trivial⟩) ?_
  refine z0a (z2j rfl) ?_
  refine qd rfl ?_
  refine z09 (j:=4) rfl rfl (fun h4 => ?_) (fun h4 => ?_) rfl
  ·have h5:=un3 h4
   replace H:=iff_ h5 H
   refine z0p rfl rfl h4 (z0r y84 rfl) ?_
   refine z8z rfl rfl h4 (z0o tyS9 rfl rfl) rfl ?_
   obtain ⟨r6,h7,H⟩:=bnd H
   refine z0p rfl rfl h4 (z0q (z98 v1.Subject r6 h7) ⟨.inl rfl,trivial⟩) ?_
   refine z0p rfl rfl h4 (z2j rfl) ?_
   refine z0a (z0z rfl (bFF h5) rfl) ?_
   refine qd rfl ?_
   refine z09 (j:=10) rfl rfl (fun h8 => ?_) (fun h8 => ?_) rfl
   ·have h9:=un3 h8
    replace H:=iff_ h9 H
    refine z0p rfl rfl h8 (z0r y7i rfl) ?_
    refine z8z rfl rfl h8 (z0o tyS9 rfl rfl) rfl ?_
    obtain ⟨r10,h11,H⟩:=bnd H
    refine z0p rfl rfl h8 (z0q (z98 v1.Issuer r10 h11) ⟨.inl rfl,trivial⟩) ?_
    refine z0p rfl rfl h8 (z2j rfl) ?_
    refine z0a (z0z rfl (bFF h9) rfl) ?_
    refine qd rfl ?_
    refine z09 (j:=16) rfl rfl (fun h12 => ?_) (fun h12 => ?_) rfl
    ·have h13:=un3 h12
     replace H:=iff_ h13 H
     refine z0p rfl rfl h12 (z0r y5p rfl) ?_
     refine z8z rfl rfl h12 (z0o tyS9 rfl rfl) rfl ?_
     refine z0p rfl rfl h12 (z9j rfl rfl) ?_
     refine z0p rfl rfl h12 (z0h (.dat _) rfl) ?_
     refine z09 (j:=20) rfl rfl (fun h14 => ?_) (fun h14 => ?_) rfl
     ·have h15:=un1 h14
      replace H:=ift h15 H
      refine z0p rfl rfl h14 (z0r y5p rfl) ?_
      refine z8z rfl rfl h14 (z0o tyS9 rfl rfl) rfl ?_
      obtain ⟨r16,h17,H⟩:=bnd H
      refine z0p rfl rfl h14 (z0q (z98 v1.Parent r16 h17) ⟨.inl rfl,trivial⟩) ?_
      refine z0p rfl rfl h14 (z2j rfl) ?_
      refine z0p rfl rfl h12 (z00 rfl (bTT h15) rfl) ?_
      refine z0a (z0z rfl (bFF h13) rfl) ?_
      exact ⟨!r16,H,⟨rfl,rfl,trivial⟩,⟨rfl,trivial⟩⟩
     ·have h18:=un2 h14
      replace H:=iff_ h18 H
      refine z0f rfl rfl h14 ?_
      refine z0f rfl rfl h14 ?_
      refine z0f rfl rfl h14 ?_
      refine z0f rfl rfl h14 ?_
      refine z0p rfl rfl h12 (z0z rfl (bFF h18) rfl) ?_
      refine z0a (z0z rfl (bFF h13) rfl) ?_
      exact ⟨false,H,⟨rfl,rfl,trivial⟩,⟨rfl,trivial⟩⟩
    ·have h19:=un4 h12
     replace H:=ift h19 H
     refine z0f rfl rfl h12 ?_
     refine z0f rfl rfl h12 ?_
     refine z0f rfl rfl h12 ?_
     refine z0f rfl rfl h12 ?_
     refine z01 rfl rfl ?_
     refine z01 rfl rfl ?_
     refine z01 rfl rfl ?_
     refine z01 rfl rfl ?_
     refine z0f rfl rfl h12 ?_
     refine z0a (z00 rfl (bTT h19) rfl) ?_
     exact ⟨true,H,⟨rfl,rfl,trivial⟩,⟨rfl,trivial⟩⟩
   ·have h20:=un4 h8
    replace H:=ift h20 H
    refine z0f rfl rfl h8 ?_
    refine z0f rfl rfl h8 ?_
    refine z0f rfl rfl h8 ?_
    refine z0f rfl rfl h8 ?_
    refine z0a (z00 rfl (bTT h20) rfl) ?_
    refine qd rfl ?_
    refine z0f rfl rfl rfl ?_
    refine z0f rfl rfl rfl ?_
    refine z0f rfl rfl rfl ?_
    refine z0f rfl rfl rfl ?_
    refine z01 rfl rfl ?_
    refine z01 rfl rfl ?_
    refine z01 rfl rfl ?_
    refine z01 rfl rfl ?_
    refine z0f rfl rfl rfl ?_
    refine z0a (z00 rfl rfl rfl) ?_
    exact ⟨true,H,⟨rfl,rfl,trivial⟩,⟨rfl,trivial⟩⟩
  ·have h21:=un4 h4
   replace H:=ift h21 H
   refine z0f rfl rfl h4 ?_
   refine z0f rfl rfl h4 ?_
   refine z0f rfl rfl h4 ?_
   refine z0f rfl rfl h4 ?_
   refine z0a (z00 rfl (bTT h21) rfl) ?_
   refine qd rfl ?_
   refine z0f rfl rfl rfl ?_
   refine z0f rfl rfl rfl ?_
   refine z0f rfl rfl rfl ?_
   refine z0f rfl rfl rfl ?_
   refine z0a (z00 rfl rfl rfl) ?_
   refine qd rfl ?_
   refine z0f rfl rfl rfl ?_
   refine z0f rfl rfl rfl ?_
   refine z0f rfl rfl rfl ?_
   refine z0f rfl rfl rfl ?_
   refine z01 rfl rfl ?_
   refine z01 rfl rfl ?_
   refine z01 rfl rfl ?_
   refine z01 rfl rfl ?_
   refine z0f rfl rfl rfl ?_
   refine z0a (z00 rfl rfl rfl) ?_
   exact ⟨true,H,⟨rfl,rfl,trivial⟩,⟨rfl,trivial⟩⟩
 ·rintro v22 H
  replace H:z3s v1 v22=some r:=H
  unfold z3s at H
  refine z0g _ rfl (fun h23 => ?_) (fun h23 => ?_)
  ·replace H:=ift h23 H
   refine z0c ?_
   refine z0b hN rfl ?_
   refine qe rfl ?_
   refine z0m ?_
   cases H
   exact ⟨trivial,.inl rfl,trivial⟩
  ·replace H:=iff_ h23 H
   refine z0l ?_
   refine z0c ?_
   refine z0c ?_
   refine z0b hN rfl ?_
   refine z0a (z0r y4c rfl) ?_
   refine z0w (z0o z85 rfl rfl) rfl ?_
   refine z0a (z6r z9p rfl) ?_
   refine z0a (z2m rfl rfl) ?_
   refine z0g _ rfl (fun h24 => ?_) (fun h24 => ?_)
   ·replace H:=ift h24 H
    refine z0c ?_
    refine z0b hN rfl ?_
    refine qe rfl ?_
    refine z0m ?_
    cases H
    exact ⟨trivial,.inl rfl,trivial⟩
   ·replace H:=iff_ h24 H
    refine z0l ?_
    refine z0c ?_
    refine z0c ?_
    refine z0b hN rfl ?_
    refine z0a (z0r y4c rfl) ?_
    refine z0w (z0o z85 rfl rfl) rfl ?_
    obtain ⟨r25,h26,H⟩:=bnd H
    refine z0a (z0q (x0m v1.Audience r25 h26) ⟨.inl rfl,trivial⟩) ?_
    refine qe rfl ?_
    refine z0c ?_
    refine z0b hN rfl ?_
    refine qd rfl ?_
    refine z0a (z48 rfl rfl) ?_
    refine z0g _ rfl (fun h27 => ?_) (fun h27 => ?_)
    ·replace H:=ift h27 H
     refine z0c ?_
     refine z0b hN rfl ?_
     refine qd rfl ?_
     refine qe rfl ?_
     refine z0m ?_
     cases H
     exact ⟨trivial,.inl rfl,trivial⟩
    ·replace H:=iff_ h27 H
     refine z0l ?_
     refine z0c ?_
     refine z0c ?_
     refine z0b hN rfl ?_
     refine z0a (z0r y5o rfl) ?_
     refine z0w (z0o z85 rfl rfl) rfl ?_
     obtain ⟨r28,h29,H⟩:=bnd H
     refine z0a (z0q (y6b v1.Scopes r28 h29) ⟨.inl rfl,trivial⟩) ?_
     refine qe rfl ?_
     refine z0c ?_
     refine z0b hN rfl ?_
     refine qd rfl ?_
     refine z0a (z48 rfl rfl) ?_
     refine z0g _ rfl (fun h30 => ?_) (fun h30 => ?_)
     ·replace H:=ift h30 H
      refine z0c ?_
      refine z0b hN rfl ?_
      refine qd rfl ?_
      refine qe rfl ?_
      refine z0m ?_
      cases H
      exact ⟨trivial,.inl rfl,trivial⟩
     ·replace H:=iff_ h30 H
      refine z0l ?_
      refine z0c ?_
      refine z0c ?_
      refine z4k mixed hN rfl rfl ?_
      refine z0a (z0r y5o rfl) ?_
      refine z0w (z0o z85 rfl rfl) rfl ?_
      refine z0a (z0r y5o rfl) ?_
      refine z0w (z0o z85 rfl rfl) rfl ?_
      obtain ⟨r31,h32,H⟩:=bnd H
      refine z0a (z0q (x5c v1.Scopes r31 h32) ⟨.inl rfl,trivial⟩) ?_
      obtain ⟨r33,h34,H⟩:=bnd H
      refine z0a (z0q (z6u v1.Scopes r31 r33 h34) ⟨.inl rfl,.inl rfl,trivial⟩) ?_
      refine z0a (z2j rfl) ?_
      refine ⟨rfl,?_⟩
      refine z0g _ rfl (fun h35 => ?_) (fun h35 => ?_)
      ·replace H:=ift h35 H
       refine z0c ?_
       refine z0b hN rfl ?_
       refine qe rfl ?_
       refine z0m ?_
       cases H
       exact ⟨trivial,.inl rfl,trivial⟩
      ·replace H:=iff_ h35 H
       refine z0l ?_
       refine z0c ?_
       refine z0c ?_
       refine z0b hN rfl ?_
       refine z0a (z0r y5n rfl) ?_
       refine z0w (z0o tyS3 rfl rfl) rfl ?_
       refine z0a (z04 rfl rfl) ?_
       refine qd rfl ?_
       refine z2b rfl rfl (fun hc=>z0r y5n rfl) ?_
       refine y1s rfl rfl (fun hc=>z0o tyS3 (cnd (c:=(!(decide (v1.From < 0)))) hc) rfl) rfl y3x ?_
       refine z2b rfl rfl (fun hc=>z0r y41 rfl) ?_
       refine y1s rfl rfl (fun hc=>z0o tyS3 (cnd (c:=(!(decide (v1.From < 0)))) hc) rfl) rfl y3x ?_
       refine z2b rfl rfl (fun hc=>z87 (cnd (c:=(!(decide (v1.From < 0)))) hc) (cnd (c:=(!(decide (v1.From < 0)))) hc)) ?_
       refine z0a (z2h rfl rfl (fun hb=>(cnd (c:=(!(decide (v1.From < 0)))) (notI hb)))) ?_
       refine qd rfl ?_
       refine z2b rfl rfl (fun hc=>z0r y41 rfl) ?_
       refine y1s rfl rfl (fun hc=>z0o tyS3 (cnd (c:=(!((decide (v1.From < 0)) || (decide (v1.To≤v1.From))))) hc) rfl) rfl y3x ?_
       refine z2b rfl rfl (fun hc=>z2m (cnd (c:=(!((decide (v1.From < 0)) || (decide (v1.To≤v1.From))))) hc) rfl) ?_
       refine z0a (z2h rfl rfl (fun hb=>(cnd (c:=(!((decide (v1.From < 0)) || (decide (v1.To≤v1.From))))) (notI hb)))) ?_
       refine z0g _ rfl (fun h36 => ?_) (fun h36 => ?_)
       ·replace H:=ift h36 H
        refine z0c ?_
        refine z0b hN rfl ?_
        refine qe rfl ?_
        refine z0m ?_
        cases H
        exact ⟨trivial,.inl rfl,trivial⟩
       ·replace H:=iff_ h36 H
        refine z0l ?_
        refine z0c ?_
        refine z0b hN rfl ?_
        refine qe rfl ?_
        refine z0m ?_
        cases H
        exact ⟨trivial,.inl rfl,trivial⟩
theorem y91 (v1:Bs) (r:(z0e×Int×Int)) (H:y1k v1=some r):Fn Tryz.prog 183 [vstr v1] (z1r [vagg (z0s r.1),vint r.2.1,vint r.2.2]):=by
 refine ⟨by kernel_rfl,z1e (us:=[vagg (z0s r.1),vint r.2.1,vint r.2.2]) Tryz.func183 rfl rfl rfl rfl fun X hN => ?_⟩
 unfold y1k at H
 refine z0c ?_
 refine z0b hN rfl ?_
 refine z0j (z2s 1 y0q rfl) rfl ?_
 refine qe rfl ?_
 refine qe rfl ?_
 refine z0c ?_
 refine z0c ?_
 refine z0b hN rfl ?_
 refine qd rfl ?_
 refine z0a (z1m tyU9 rfl) ?_
 refine z0a (z2m rfl rfl) ?_
 refine z0g _ rfl (fun h2 => ?_) (fun h2 => ?_)
 ·replace H:=ift h2 H
  refine z0c ?_
  refine z0b hN rfl ?_
  refine z0a (y0b (u':=vagg (z0s (z0e.mk [] [] [] [] [] [] 0 0))) (y0l (by exact ⟨z02,z02,z02,z02,z2r,z2r,z02,z02,trivial⟩)) (z2f [] y0q y4b rfl trivial)) ?_
  refine z0j (z1b z28 rfl rfl rfl rfl) rfl ?_
  refine qe rfl ?_
  refine qe rfl ?_
  refine z0m ?_
  cases H
  exact ⟨trivial,.inl ⟨_,_,_,z0s (z0e.mk [] [] [] [] [] [] 0 0),rfl,rfl,rfl,rfl,z28⟩,.inl rfl,.inl rfl,trivial⟩
 ·replace H:=iff_ h2 H
  refine z0l ?_
  refine z0c ?_
  refine z0b hN rfl ?_
  refine z0a (y0b (u':=vagg (z3t (z0k.mk [] false 0 false))) (y0l (by exact ⟨z2r,z02,z02,z02,trivial⟩)) (z2f [] w8l w8o rfl trivial)) ?_
  refine z0j (z9k 2 rfl) rfl ?_
  refine z0a (z13 (.ptr _ _) rfl) ?_
  refine z0c ?_
  refine z0b hN rfl ?_
  refine z0a (z0h (.ptr _ _) rfl) ?_
  refine z0a (z0h (.ptr _ _) rfl) ?_
  refine qd rfl ?_
  obtain ⟨r3,h4,H⟩:=bnd H
  refine z0a (z0q (x71 v1 r3 h4) ⟨.inl rfl,trivial⟩) ?_
  refine qd rfl ?_
  refine z0a (z10 rfl rfl) ?_
  refine z0a (z10 rfl rfl) ?_
  refine z0a (z2o rfl) ?_
  refine z0a (z0r y9q rfl) ?_
  refine z0j (z15 z85 rfl rfl rfl rfl) rfl ?_
  refine z0a (z2o rfl) ?_
  refine z0a (z0r x8e rfl) ?_
  refine z0j (z15 tyS4 rfl rfl rfl rfl) rfl ?_
  refine z0c ?_
  refine z0b hN rfl ?_
  refine z0a (y0b (u':=vagg (z0s (z0e.mk [] [] [] [] [] [] 0 0))) (y0l (by exact ⟨z02,z02,z02,z02,z2r,z2r,z02,z02,trivial⟩)) (z2f [] y0q y4b rfl trivial)) ?_
  refine z0j (z2s 3 y0q rfl) rfl ?_
  refine z0j (z1b z28 rfl rfl rfl rfl) rfl ?_
  refine z0c ?_
  refine z0b hN rfl ?_
  refine z0a (z0h (.ptr _ _) rfl) ?_
  obtain ⟨r5,h6,H⟩:=bnd H
  refine z0j (z1f (z92 (z0k.mk r3.1 r3.2 0 false) [105,100] true r5 h6) rfl ⟨.inl rfl,.inl rfl,trivial⟩ rfl) rfl ?_
  refine z0a (z0r y7j rfl) ?_
  refine z0j (z15 tyS9 rfl rfl rfl rfl) rfl ?_
  refine z0c ?_
  refine z0b hN rfl ?_
  refine z0a (z0h (.ptr _ _) rfl) ?_
  obtain ⟨r7,h8,H⟩:=bnd H
  refine z0j (z1f (z92 r5.2 [115,117,98,106,101,99,116] true r7 h8) rfl ⟨.inl rfl,.inl rfl,trivial⟩ rfl) rfl ?_
  refine z0a (z0r y84 rfl) ?_
  refine z0j (z15 tyS9 rfl rfl rfl rfl) rfl ?_
  refine z0c ?_
  refine z0b hN rfl ?_
  refine z0a (z0h (.ptr _ _) rfl) ?_
  obtain ⟨r9,h10,H⟩:=bnd H
  refine z0j (z1f (z92 r7.2 [105,115,115,117,101,114] true r9 h10) rfl ⟨.inl rfl,.inl rfl,trivial⟩ rfl) rfl ?_
  refine z0a (z0r y7i rfl) ?_
  refine z0j (z15 tyS9 rfl rfl rfl rfl) rfl ?_
  refine z0c ?_
  refine z0b hN rfl ?_
  refine z0a (z0h (.ptr _ _) rfl) ?_
  obtain ⟨r11,h12,H⟩:=bnd H
  refine z0j (z1f (z92 r9.2 [112,97,114,101,110,116] false r11 h12) rfl ⟨.inl rfl,.inl rfl,trivial⟩ rfl) rfl ?_
  refine z0a (z0r y5p rfl) ?_
  refine z0j (z15 tyS9 rfl rfl rfl rfl) rfl ?_
  refine z0c ?_
  refine z0b hN rfl ?_
  refine z0a (z0h (.ptr _ _) rfl) ?_
  obtain ⟨r13,h14,H⟩:=bnd H
  refine z0j (z1f (z9o r11.2 [102,111,114] false r13 h14) rfl ⟨.inl rfl,.inl rfl,trivial⟩ rfl) rfl ?_
  refine z0a (z0r y4c rfl) ?_
  refine z0j (z15 z85 rfl rfl rfl rfl) rfl ?_
  refine z0c ?_
  refine z0b hN rfl ?_
  refine z0a (z0h (.ptr _ _) rfl) ?_
  obtain ⟨r15,h16,H⟩:=bnd H
  refine z0j (z1f (z9o r13.2 [109,97,121] false r15 h16) rfl ⟨.inl rfl,.inl rfl,trivial⟩ rfl) rfl ?_
  refine z0a (z0r y5o rfl) ?_
  refine z0j (z15 z85 rfl rfl rfl rfl) rfl ?_
  refine z0c ?_
  refine z0b hN rfl ?_
  refine z0a (z0h (.ptr _ _) rfl) ?_
  obtain ⟨r17,h18,H⟩:=bnd H
  refine z0j (z1f (y6v r15.2 r17 h18) rfl trivial rfl) rfl ?_
  refine qd rfl ?_
  refine z0a (z10 rfl rfl) ?_
  refine z0a (z10 rfl rfl) ?_
  refine z0a (z0r y5n rfl) ?_
  refine z0j (z15 tyS3 rfl rfl rfl rfl) rfl ?_
  refine z0a (z0r y41 rfl) ?_
  refine z0j (z15 tyS3 rfl rfl rfl rfl) rfl ?_
  refine z0c ?_
  refine z0c ?_
  refine z4k mixed hN rfl rfl ?_
  refine z0a (z0h (.ptr _ _) rfl) ?_
  refine z0a (z2o rfl) ?_
  refine z0a (z0r y6i rfl) ?_
  refine z0w (z0o tyS4 rfl rfl) rfl ?_
  refine qd rfl ?_
  refine z2b rfl rfl (fun hc=>z0h (.ptr _ _) rfl) ?_
  refine z2b rfl rfl (fun hc=>z2o (cnd (c:=(!r17.2.2.bad_)) hc)) ?_
  refine z2b rfl rfl (fun hc=>z0r y4i (cnd (c:=(!r17.2.2.bad_)) hc)) ?_
  refine y1s rfl rfl (fun hc=>z0o tyS3 (cnd (c:=(!r17.2.2.bad_)) hc) rfl) rfl x6x ?_
  refine z2b rfl rfl (fun hc=>z0h (.ptr _ _) rfl) ?_
  refine z2b rfl rfl (fun hc=>z2o (cnd (c:=(!r17.2.2.bad_)) hc)) ?_
  refine z2b rfl rfl (fun hc=>z0r y9q (cnd (c:=(!r17.2.2.bad_)) hc)) ?_
  refine y1s rfl rfl (fun hc=>z0o z85 (cnd (c:=(!r17.2.2.bad_)) hc) rfl) rfl x6x ?_
  refine z2b rfl rfl (fun hc=>z6r z9p (cnd (c:=(!r17.2.2.bad_)) hc)) ?_
  refine z2b rfl rfl (fun hc=>z04 (cnd (c:=(!r17.2.2.bad_)) hc) (cnd (c:=(!r17.2.2.bad_)) hc)) ?_
  refine z0a (z2h rfl rfl (fun hb=>(cnd (c:=(!r17.2.2.bad_)) (notI hb)))) ?_
  refine ⟨rfl,?_⟩
  refine z0g _ rfl (fun h19 => ?_) (fun h19 => ?_)
  ·replace H:=ift h19 H
   refine z0c ?_
   refine z4k mixed hN rfl rfl ?_
   refine z0a (y0b (u':=vagg (z0s (z0e.mk [] [] [] [] [] [] 0 0))) (y0l (by exact ⟨z02,z02,z02,z02,z2r,z2r,z02,z02,trivial⟩)) (z2f [] y0q y4b rfl trivial)) ?_
   refine z0a (z0h (.ptr _ _) rfl) ?_
   refine z0a (z2o rfl) ?_
   refine z0a (z0r y4i rfl) ?_
   refine z0w (z0o tyS3 rfl rfl) rfl ?_
   refine z0j (z1b z28 rfl rfl rfl rfl) rfl ?_
   refine qe rfl ?_
   refine qe rfl ?_
   refine ⟨rfl,?_⟩
   refine z0m ?_
   cases H
   exact ⟨trivial,.inl ⟨_,_,_,z0s (z0e.mk [] [] [] [] [] [] 0 0),rfl,rfl,rfl,rfl,z28⟩,.inl rfl,.inl rfl,trivial⟩
  ·replace H:=iff_ h19 H
   refine z0l ?_
   refine z0c ?_
   refine z0c ?_
   refine z0b hN rfl ?_
   refine z0w (z6d z28 rfl rfl rfl) rfl ?_
   obtain ⟨r20,h21,H⟩:=bnd H
   refine z0a (z0q (y9h (z0e.mk r5.1 r7.1 r9.1 r11.1 r13.1 r15.1 r17.1 r17.2.1) r20 h21) ⟨.inl rfl,trivial⟩) ?_
   refine qe rfl ?_
   refine z0c ?_
   refine z0b hN rfl ?_
   refine qd rfl ?_
   refine z0a (z48 rfl rfl) ?_
   refine z0g _ rfl (fun h22 => ?_) (fun h22 => ?_)
   ·replace H:=ift h22 H
    refine z0c ?_
    refine z0b hN rfl ?_
    refine z0a (y0b (u':=vagg (z0s (z0e.mk [] [] [] [] [] [] 0 0))) (y0l (by exact ⟨z02,z02,z02,z02,z2r,z2r,z02,z02,trivial⟩)) (z2f [] y0q y4b rfl trivial)) ?_
    refine qd rfl ?_
    refine z0j (z1b z28 rfl rfl rfl rfl) rfl ?_
    refine qe rfl ?_
    refine qe rfl ?_
    refine z0m ?_
    cases H
    exact ⟨trivial,.inl ⟨_,_,_,z0s (z0e.mk [] [] [] [] [] [] 0 0),rfl,rfl,rfl,rfl,z28⟩,.inl rfl,.inl rfl,trivial⟩
   ·replace H:=iff_ h22 H
    refine z0l ?_
    refine z0c ?_
    refine z0b hN rfl ?_
    refine z0w (z6d z28 rfl rfl rfl) rfl ?_
    refine z0j (z1b z28 rfl rfl rfl rfl) rfl ?_
    refine qe rfl ?_
    refine qe rfl ?_
    refine z0m ?_
    cases H
    exact ⟨trivial,.inl ⟨_,_,_,z0s (z0e.mk r5.1 r7.1 r9.1 r11.1 r13.1 r15.1 r17.1 r17.2.1),rfl,rfl,rfl,rfl,z28⟩,.inl rfl,.inl rfl,trivial⟩
theorem x6l (v1:(List z0i)) (v2:Bs) (v3:Int) (r:(z0e×Int)) (H:y5h v1 v2 v3=some r):Fn Tryz.prog 125 [vlst (List.map z06 v1),vstr v2,vint v3] (z1r [vagg (z0s r.1),vint r.2]):=by
 refine ⟨by kernel_rfl,z1e (us:=[vagg (z0s r.1),vint r.2]) Tryz.func125 rfl rfl rfl rfl fun X hN => ?_⟩
 unfold y5h at H
 refine z0c ?_
 refine z0b hN rfl ?_
 refine z0j (z2s 1 y0q rfl) rfl ?_
 refine qe rfl ?_
 refine z0c ?_
 refine z0c ?_
 refine z0b hN rfl ?_
 refine qd rfl ?_
 obtain ⟨r4,h5,H⟩:=bnd H
 refine z0a (z0q (y5v v1 r4 h5) ⟨.inl rfl,trivial⟩) ?_
 refine qe rfl ?_
 refine z0c ?_
 refine z0b hN rfl ?_
 refine qd rfl ?_
 refine z0a (z48 rfl rfl) ?_
 refine z0g _ rfl (fun h6 => ?_) (fun h6 => ?_)
 ·replace H:=ift h6 H
  refine z0c ?_
  refine z0b hN rfl ?_
  refine z0a (y0b (u':=vagg (z0s (z0e.mk [] [] [] [] [] [] 0 0))) (y0l (by exact ⟨z02,z02,z02,z02,z2r,z2r,z02,z02,trivial⟩)) (z2f [] y0q y4b rfl trivial)) ?_
  refine qd rfl ?_
  refine z0j (z1b z28 rfl rfl rfl rfl) rfl ?_
  refine qe rfl ?_
  refine z0m ?_
  cases H
  exact ⟨trivial,.inl ⟨_,_,_,z0s (z0e.mk [] [] [] [] [] [] 0 0),rfl,rfl,rfl,rfl,z28⟩,.inl rfl,trivial⟩
 ·replace H:=iff_ h6 H
  refine z0l ?_
  refine z0c ?_
  refine z0c ?_
  refine z0b hN rfl ?_
  refine qd rfl ?_
  obtain ⟨r7,h8,H⟩:=bnd H
  refine z0a (z0q (y9f v3 r7 h8) ⟨.inl rfl,trivial⟩) ?_
  refine qe rfl ?_
  refine z0c ?_
  refine z0b hN rfl ?_
  refine qd rfl ?_
  refine z0a (z48 rfl rfl) ?_
  refine z0g _ rfl (fun h9 => ?_) (fun h9 => ?_)
  ·replace H:=ift h9 H
   refine z0c ?_
   refine z0b hN rfl ?_
   refine z0a (y0b (u':=vagg (z0s (z0e.mk [] [] [] [] [] [] 0 0))) (y0l (by exact ⟨z02,z02,z02,z02,z2r,z2r,z02,z02,trivial⟩)) (z2f [] y0q y4b rfl trivial)) ?_
   refine qd rfl ?_
   refine z0j (z1b z28 rfl rfl rfl rfl) rfl ?_
   refine qe rfl ?_
   refine z0m ?_
   cases H
   exact ⟨trivial,.inl ⟨_,_,_,z0s (z0e.mk [] [] [] [] [] [] 0 0),rfl,rfl,rfl,rfl,z28⟩,.inl rfl,trivial⟩
  ·replace H:=iff_ h9 H
   refine z0l ?_
   refine z0c ?_
   refine z0b hN rfl ?_
   refine qd rfl ?_
   obtain ⟨r10,h11,H⟩:=bnd H
   refine z0a (z0q (y09 v2 [46] r10 h11) ⟨.inl rfl,.inl rfl,trivial⟩) ?_
   refine z0j (z2s 2 w8k rfl) rfl ?_
   refine z0j (z15 z85 rfl rfl rfl rfl) rfl ?_
   refine z0c ?_
   refine z03 (ι:=Bool) (fun i=>[(0,.dat (vlst (List.map z06 v1))),(2,.dat (vint v3)),(6,.ptr 1 0),(10,.ptr 2 0),(39,.dat (z05 i))]) (fun i=>[(1,.box none 39 [.dat (vstr []),.dat (vstr []),.dat (vstr []),.dat (vstr []),.dat (vnil),.dat (vnil),.dat (vint 0),.dat (vint 0)]),(2,.box none 37 [.dat (vlst (List.map z0n r10))])]) (fun i=>y1f v1 v3 r10 i=some r) (fun i=>rfl) ?_ ?_
   ·skip
    refine z0b hN rfl ?_
    refine z0w (z0o z85 rfl rfl) rfl ?_
    refine z0a (z6r z9p rfl) ?_
    refine z0a (z48 rfl rfl) ?_
    refine qd rfl ?_
    refine z09 (j:=3) rfl rfl (fun h12 => ?_) (fun h12 => ?_) rfl
    ·have h13:=un3 h12
     replace H:=iff_ h13 H
     refine z8z rfl rfl h12 (z0o z85 rfl rfl) rfl ?_
     obtain ⟨x14,h15,H⟩:=bnd H
     refine z0p rfl rfl h12 (y0r z9i (fun _=>rfl) rfl rfl h15) ?_
     refine z0p rfl rfl h12 (z0x tyS9 rfl (z2l h15) rfl) ?_
     obtain ⟨r16,h17,H⟩:=bnd H
     refine z0p rfl rfl h12 (z0q (z98 x14 r16 h17) ⟨.inl rfl,trivial⟩) ?_
     refine z0p rfl rfl h12 (z2j rfl) ?_
     refine z0a (z0z rfl (bFF h13) rfl) ?_
     exact ⟨!r16,H,⟨rfl,rfl,rfl,rfl,rfl,trivial⟩,⟨rfl,rfl,trivial⟩⟩
    ·have h18:=un4 h12
     replace H:=ift h18 H
     refine z0f rfl rfl h12 ?_
     refine z0f rfl rfl h12 ?_
     refine z0f rfl rfl h12 ?_
     refine z0f rfl rfl h12 ?_
     refine z0f rfl rfl h12 ?_
     refine z0a (z00 rfl (bTT h18) rfl) ?_
     exact ⟨true,H,⟨rfl,rfl,rfl,rfl,rfl,trivial⟩,⟨rfl,rfl,trivial⟩⟩
   ·rintro v19 H
    replace H:y1f v1 v3 r10 v19=some r:=H
    unfold y1f at H
    refine z0g _ rfl (fun h20 => ?_) (fun h20 => ?_)
    ·replace H:=ift h20 H
     refine z0c ?_
     refine z0b hN rfl ?_
     refine z0a (y0b (u':=vagg (z0s (z0e.mk [] [] [] [] [] [] 0 0))) (y0l (by exact ⟨z02,z02,z02,z02,z2r,z2r,z02,z02,trivial⟩)) (z2f [] y0q y4b rfl trivial)) ?_
     refine z0j (z1b z28 rfl rfl rfl rfl) rfl ?_
     refine qe rfl ?_
     refine z0m ?_
     cases H
     exact ⟨trivial,.inl ⟨_,_,_,z0s (z0e.mk [] [] [] [] [] [] 0 0),rfl,rfl,rfl,rfl,z28⟩,.inl rfl,trivial⟩
    ·replace H:=iff_ h20 H
     refine z0l ?_
     refine z0c ?_
     refine y3w 2 [vlst (List.map z0n r10)] rfl rfl ?_
     refine z0b hN rfl ?_
     refine qd rfl ?_
     refine z0a (y5c (us:=[_]) ⟨rfl,trivial⟩) ?_
     obtain ⟨r21,h22,H⟩:=bnd H
     refine z0a (z0q (z5e v1 (fun (a0:z0i)=>y22 a0 r10) 181 [y1q [[vlst (List.map z0n r10)]] 0 0] (fun a0 r h=>x3l a0 r10 r h) r21 h22) ⟨.inl rfl,.inl rfl,trivial⟩) ?_
     refine qe rfl ?_
     refine z0c ?_
     refine z0c ?_
     refine z0b hN rfl ?_
     refine qd rfl ?_
     refine z0a (z04 rfl rfl) ?_
     refine z0g _ rfl (fun h23 => ?_) (fun h23 => ?_)
     ·replace H:=ift h23 H
      refine z0c ?_
      refine z0b hN rfl ?_
      refine z0a (y0b (u':=vagg (z0s (z0e.mk [] [] [] [] [] [] 0 0))) (y0l (by exact ⟨z02,z02,z02,z02,z2r,z2r,z02,z02,trivial⟩)) (z2f [] y0q y4b rfl trivial)) ?_
      refine z0j (z1b z28 rfl rfl rfl rfl) rfl ?_
      refine qe rfl ?_
      refine z0m ?_
      cases H
      exact ⟨trivial,.inl ⟨_,_,_,z0s (z0e.mk [] [] [] [] [] [] 0 0),rfl,rfl,rfl,rfl,z28⟩,.inl rfl,trivial⟩
     ·replace H:=iff_ h23 H
      refine z0l ?_
      refine z0c ?_
      refine z0c ?_
      refine z4k mixed hN rfl rfl ?_
      refine qd rfl ?_
      refine qd rfl ?_
      obtain ⟨x24,h25,H⟩:=bnd H
      refine z0a (y25 y86 (fun _=>rfl) rfl rfl h25) ?_
      refine z0a (z4a y8h rfl) ?_
      refine z0a (z0x tyS9 rfl (z2l (z6x h25).2) rfl) ?_
      refine z0a (z0x z85 rfl rfl rfl) ?_
      obtain ⟨x26,h27,H⟩:=bnd H
      refine z0a (y0r z9i (fun _=>rfl) rfl rfl h27) ?_
      refine z0a (z0x tyS9 rfl (z2l h27) rfl) ?_
      obtain ⟨h28,H⟩:=gif H
      refine z0a (z26 rfl rfl (Nat.le_trans h28 (by decide))) ?_
      refine z0a (z0x z85 rfl rfl rfl) ?_
      obtain ⟨x29,h30,H⟩:=bnd H
      refine z0a (y0r z9i (fun _=>rfl) rfl rfl h30) ?_
      refine z0a (z0x tyS9 rfl (z2l h30) rfl) ?_
      obtain ⟨h31,H⟩:=gif H
      refine z0a (z26 rfl rfl (Nat.le_trans h31 (by decide))) ?_
      obtain ⟨r32,h33,H⟩:=bnd H
      refine z0a (z0q (x7z x24.Secret ((x26++[46])++x29) r32 h33) ⟨.inl rfl,.inl rfl,trivial⟩) ?_
      refine z0a (z0x z85 rfl rfl rfl) ?_
      obtain ⟨x34,h35,H⟩:=bnd H
      refine z0a (y0r z9i (fun _=>rfl) rfl rfl h35) ?_
      refine z0a (z0x tyS9 rfl (z2l h35) rfl) ?_
      refine z0a (z9j rfl rfl) ?_
      refine ⟨rfl,?_⟩
      refine z0g _ rfl (fun h36 => ?_) (fun h36 => ?_)
      ·replace H:=ift h36 H
       refine z0c ?_
       refine z0b hN rfl ?_
       refine z0a (y0b (u':=vagg (z0s (z0e.mk [] [] [] [] [] [] 0 0))) (y0l (by exact ⟨z02,z02,z02,z02,z2r,z2r,z02,z02,trivial⟩)) (z2f [] y0q y4b rfl trivial)) ?_
       refine z0j (z1b z28 rfl rfl rfl rfl) rfl ?_
       refine qe rfl ?_
       refine z0m ?_
       cases H
       exact ⟨trivial,.inl ⟨_,_,_,z0s (z0e.mk [] [] [] [] [] [] 0 0),rfl,rfl,rfl,rfl,z28⟩,.inl rfl,trivial⟩
      ·replace H:=iff_ h36 H
       refine z0l ?_
       refine z0c ?_
       refine z0b hN rfl ?_
       refine z0a (z0x z85 rfl rfl rfl) ?_
       refine z0a (y0r z9i (fun _=>rfl) rfl rfl h30) ?_
       refine z0a (z0x tyS9 rfl (z2l h30) rfl) ?_
       obtain ⟨r37,h38,H⟩:=bnd H
       refine z0a (z0q (x3m x29 r37 h38) ⟨.inl rfl,trivial⟩) ?_
       refine qd rfl ?_
       refine z0a (z10 rfl rfl) ?_
       refine z0a (z10 rfl rfl) ?_
       refine qe rfl ?_
       refine qe rfl ?_
       refine z0c ?_
       refine z0c ?_
       refine z0b hN rfl ?_
       refine qd rfl ?_
       refine z0a (z48 rfl rfl) ?_
       refine z0g _ rfl (fun h39 => ?_) (fun h39 => ?_)
       ·replace H:=ift h39 H
        refine z0c ?_
        refine z0b hN rfl ?_
        refine z0a (y0b (u':=vagg (z0s (z0e.mk [] [] [] [] [] [] 0 0))) (y0l (by exact ⟨z02,z02,z02,z02,z2r,z2r,z02,z02,trivial⟩)) (z2f [] y0q y4b rfl trivial)) ?_
        refine qd rfl ?_
        refine z0j (z1b z28 rfl rfl rfl rfl) rfl ?_
        refine qe rfl ?_
        refine z0m ?_
        cases H
        exact ⟨trivial,.inl ⟨_,_,_,z0s (z0e.mk [] [] [] [] [] [] 0 0),rfl,rfl,rfl,rfl,z28⟩,.inl rfl,trivial⟩
       ·replace H:=iff_ h39 H
        refine z0l ?_
        refine z0c ?_
        refine z0b hN rfl ?_
        refine qd rfl ?_
        obtain ⟨r40,h41,H⟩:=bnd H
        refine z0a (z0q (y91 r37.1 r40 h41) ⟨.inl rfl,trivial⟩) ?_
        refine qd rfl ?_
        refine z0a (z10 rfl rfl) ?_
        refine z0a (z10 rfl rfl) ?_
        refine z0a (z10 rfl rfl) ?_
        refine z0j (z2s 3 y0q rfl) rfl ?_
        refine z0j (z1b z28 rfl rfl rfl rfl) rfl ?_
        refine qe rfl ?_
        refine qe rfl ?_
        refine z0c ?_
        refine z0c ?_
        refine z0b hN rfl ?_
        refine qd rfl ?_
        refine z0a (z48 rfl rfl) ?_
        refine z0g _ rfl (fun h42 => ?_) (fun h42 => ?_)
        ·replace H:=ift h42 H
         refine z0c ?_
         refine z0b hN rfl ?_
         refine z0a (y0b (u':=vagg (z0s (z0e.mk [] [] [] [] [] [] 0 0))) (y0l (by exact ⟨z02,z02,z02,z02,z2r,z2r,z02,z02,trivial⟩)) (z2f [] y0q y4b rfl trivial)) ?_
         refine qd rfl ?_
         refine z0j (z1b z28 rfl rfl rfl rfl) rfl ?_
         refine qe rfl ?_
         refine z0m ?_
         cases H
         exact ⟨trivial,.inl ⟨_,_,_,z0s (z0e.mk [] [] [] [] [] [] 0 0),rfl,rfl,rfl,rfl,z28⟩,.inl rfl,trivial⟩
        ·replace H:=iff_ h42 H
         refine z0l ?_
         refine z0c ?_
         refine z03 (ι:=Bool) (fun i=>[(6,.ptr 1 0),(14,.ptr 3 0),(102,.dat (z05 i))]) (fun i=>[(1,.box none 39 [.dat (vstr []),.dat (vstr []),.dat (vstr []),.dat (vstr []),.dat (vnil),.dat (vnil),.dat (vint 0),.dat (vint 0)]),(3,.box none 39 [.dat (vstr r40.1.Id),.dat (vstr r40.1.Subject),.dat (vstr r40.1.Issuer),.dat (vstr r40.1.Parent),.dat (vlst (List.map z0n r40.1.Audience)),.dat (vlst (List.map z0n r40.1.Scopes)),.dat (vint r40.1.From),.dat (vint r40.1.To)])]) (fun i=>y3n r40 i=some r) (fun i=>rfl) ?_ ?_
         ·skip
          refine z0b hN rfl ?_
          refine qd rfl ?_
          refine qd rfl ?_
          refine qd rfl ?_
          refine z0a (y25 y86 (fun _=>rfl) rfl rfl h25) ?_
          refine z0a (z4a y5a rfl) ?_
          refine z0a (z0x tyS3 rfl (z2l (z6x h25).2) rfl) ?_
          refine z0a (z04 rfl rfl) ?_
          refine qd rfl ?_
          refine z09 (j:=7) rfl rfl (fun h43 => ?_) (fun h43 => ?_) rfl
          ·have h44:=un3 h43
           replace H:=iff_ h44 H
           refine z0p rfl rfl h43 (z0h (.dat _) rfl) ?_
           refine z0p rfl rfl h43 (z0h (.dat _) rfl) ?_
           refine z0p rfl rfl h43 (z0h (.dat _) rfl) ?_
           refine z0p rfl rfl h43 (y25 y86 (fun _=>rfl) rfl rfl h25) ?_
           refine z0p rfl rfl h43 (z4a y6j rfl) ?_
           refine z0p rfl rfl h43 (z0x tyS3 rfl (z2l (z6x h25).2) rfl) ?_
           refine z0p rfl rfl h43 (z87 rfl rfl) ?_
           refine z0a (z0z rfl (bFF h44) rfl) ?_
           exact ⟨decide (x24.Until≤v3),H,⟨rfl,rfl,rfl,trivial⟩,⟨rfl,rfl,trivial⟩⟩
          ·have h45:=un4 h43
           replace H:=ift h45 H
           refine z0f rfl rfl h43 ?_
           refine z0f rfl rfl h43 ?_
           refine z0f rfl rfl h43 ?_
           refine z0f rfl rfl h43 ?_
           refine z0f rfl rfl h43 ?_
           refine z0f rfl rfl h43 ?_
           refine z0f rfl rfl h43 ?_
           refine z0a (z00 rfl (bTT h45) rfl) ?_
           exact ⟨true,H,⟨rfl,rfl,rfl,trivial⟩,⟨rfl,rfl,trivial⟩⟩
         ·rintro v46 H
          replace H:y3n r40 v46=some r:=H
          unfold y3n at H
          refine z0g _ rfl (fun h47 => ?_) (fun h47 => ?_)
          ·replace H:=ift h47 H
           refine z0c ?_
           refine z0b hN rfl ?_
           refine z0a (y0b (u':=vagg (z0s (z0e.mk [] [] [] [] [] [] 0 0))) (y0l (by exact ⟨z02,z02,z02,z02,z2r,z2r,z02,z02,trivial⟩)) (z2f [] y0q y4b rfl trivial)) ?_
           refine z0j (z1b z28 rfl rfl rfl rfl) rfl ?_
           refine qe rfl ?_
           refine z0m ?_
           cases H
           exact ⟨trivial,.inl ⟨_,_,_,z0s (z0e.mk [] [] [] [] [] [] 0 0),rfl,rfl,rfl,rfl,z28⟩,.inl rfl,trivial⟩
          ·replace H:=iff_ h47 H
           refine z0l ?_
           refine z0c ?_
           refine z0b hN rfl ?_
           refine z0w (z6d z28 rfl rfl rfl) rfl ?_
           refine z0j (z1b z28 rfl rfl rfl rfl) rfl ?_
           refine qe rfl ?_
           refine z0m ?_
           cases H
           exact ⟨trivial,.inl ⟨_,_,_,z0s r40.1,rfl,rfl,rfl,rfl,z28⟩,.inl rfl,trivial⟩
theorem y2d (s1:(List z0u)) (p1:z0u→Option (Bool)) (fv1:Nat) (us1:List V) (hp1:∀ a0 r,p1 a0=some r→Fn Tryz.prog fv1 ([vagg (z1l a0)]++us1) (z1r [z05 r])) (r:(Int)) (H:z4o s1 p1=some r):Fn Tryz.prog 79 [vlst (List.map z1l s1),vfn fv1 us1] (z1r [vint r]):=by
 refine ⟨by kernel_rfl,z1e (us:=[vint r]) Tryz.func79 rfl rfl rfl rfl fun X hN => ?_⟩
 unfold z4o at H
 refine z0c ?_
 refine z0b hN rfl ?_
 refine qe rfl ?_
 refine z0c ?_
 refine z0c ?_
 refine z0b hN rfl ?_
 refine qd rfl ?_
 refine z0a (z6r w0r rfl) ?_
 refine qd rfl ?_
 refine z0v ?_
 obtain ⟨h4,H⟩:=gif H
 refine z3u (fun (k2:Nat) (s:Unit)=>[(0,.dat (vlst (List.map z1l s1))),(1,.dat (vfn fv1 us1)),(7,.dat (vint (s1.length:Int))),(8,.dat (vint (k2:Int)))]) (fun (k2:Nat) (s:Unit)=>[]) () H ⟨rfl,rfl,rfl,rfl,trivial⟩ trivial (fun _ _=>rfl) ?_ ?_
 ·rintro ⟨⟩ H
  replace H:z4g=some r:=H
  unfold z4g at H
  refine z0c ?_
  refine z0b hN rfl ?_
  refine z0a (z04 rfl rfl) ?_
  refine z0c ?_
  refine z0g _ rfl (fun h=>(lt_t h).elim) (fun h => ?_)
  refine z1u ?_
  refine z0c ?_
  refine z0b hN rfl ?_
  refine qe rfl ?_
  refine z0m ?_
  cases H
  exact ⟨trivial,.inl rfl,trivial⟩
 ·rintro k2 x5 ⟨⟩ q3 h6 h7 H hq3
  replace H:z4f p1 k2 x5=some q3:=H
  unfold z4f at H
  refine z0c ?_
  refine z0b hN rfl ?_
  refine z0a (z04 rfl rfl) ?_
  refine z0c ?_
  refine z0g _ rfl (fun h => ?_) (fun h=>(lt_f h6 h).elim)
  refine z0l ?_
  refine z0c ?_
  refine z0v ?_
  refine z0c ?_
  refine z0b hN rfl ?_
  refine qd rfl ?_
  refine qe rfl ?_
  refine z0c ?_
  refine z0b hN rfl ?_
  refine qd rfl ?_
  refine qd rfl ?_
  refine qd rfl ?_
  refine z0a (y0r w4a (fun _=>rfl) rfl rfl h7) ?_
  refine z0a (y15 w0s rfl (z2l h7) rfl) ?_
  obtain ⟨r8,h9,H⟩:=bnd H
  refine z0a (y9v (hp1 x5 r8 h9) rfl ⟨.inl rfl,trivial⟩) ?_
  refine z0g _ rfl (fun h10 => ?_) (fun h10 => ?_)
  ·replace H:=ift h10 H
   refine z0c ?_
   refine z0b hN rfl ?_
   refine qd rfl ?_
   refine qe rfl ?_
   refine z0m ?_
   replace H:=retl H hq3
   cases H
   exact ⟨trivial,.inl rfl,trivial⟩
  ·replace H:=iff_ h10 H
   refine z0l ?_
   refine z0b hN rfl ?_
   refine z0a (z3r rfl rfl (by omega)) ?_
   refine qd rfl ?_
   exact ⟨_,z84 H,⟨rfl,rfl,rfl,rfl,trivial⟩,trivial⟩
theorem z62 (s1:(List z0u)) (p1:z0u→Option (Bool)) (fv1:Nat) (us1:List V) (hp1:∀ a0 r,p1 a0=some r→Fn Tryz.prog fv1 ([vagg (z1l a0)]++us1) (z1r [z05 r])) (r:(Bool)) (H:z1p s1 p1=some r):Fn Tryz.prog 63 [vlst (List.map z1l s1),vfn fv1 us1] (z1r [z05 r]):=by
 refine ⟨by kernel_rfl,z1e (us:=[z05 r]) Tryz.func63 rfl rfl rfl rfl fun X hN => ?_⟩
 unfold z1p at H
 refine z0c ?_
 refine z0b hN rfl ?_
 refine qe rfl ?_
 refine z0c ?_
 refine z0b hN rfl ?_
 refine qd rfl ?_
 refine qd rfl ?_
 obtain ⟨r2,h3,H⟩:=bnd H
 refine z0a (z0q (y2d s1 p1 fv1 us1 hp1 r2 h3) ⟨.inl rfl,.inl rfl,trivial⟩) ?_
 refine z0a (z87 rfl rfl) ?_
 refine qe rfl ?_
 refine z0m ?_
 cases H
 exact ⟨trivial,.inl rfl,trivial⟩
theorem x04 (r1:z0u) (c2:z0e) (c3:Int) (r:(Bool)) (H:y2v r1 c2 c3=some r):Fn Tryz.prog 126 [vagg (z1l r1),y1q [[vstr c2.Id,vstr c2.Subject,vstr c2.Issuer,vstr c2.Parent,vlst (List.map z0n c2.Audience),vlst (List.map z0n c2.Scopes),vint c2.From,vint c2.To]] 0 0,y1q [[vint c3]] 0 0] (z1r [z05 r]):=by
 refine ⟨by kernel_rfl,z1e (us:=[z05 r]) Tryz.func126 rfl rfl rfl rfl fun X hN => ?_⟩
 unfold y2v at H
 refine z0c ?_
 refine z0b hN rfl ?_
 refine z0j (z9k 1 rfl) rfl ?_
 refine qe rfl ?_
 refine z0c ?_
 refine z0b hN rfl ?_
 refine z0a (z0r y6r rfl) ?_
 refine z0w (z0o tyS9 rfl rfl) rfl ?_
 refine z0a (z4a y7j rfl) ?_
 refine z0a (z0x tyS9 rfl rfl rfl) ?_
 refine z0a (z6c rfl rfl) ?_
 refine qd rfl ?_
 refine z2b rfl rfl (fun hc=>z0r y6r rfl) ?_
 refine y1s rfl rfl (fun hc=>z0o tyS9 (cnd (c:=(!(decide (r1.Id=c2.Id)))) hc) rfl) rfl y3x ?_
 refine z2b rfl rfl (fun hc=>z4a y5p rfl) ?_
 refine z2b rfl rfl (fun hc=>z0x tyS9 (cnd (c:=(!(decide (r1.Id=c2.Id)))) hc) rfl rfl) ?_
 refine z2b rfl rfl (fun hc=>z6c (cnd (c:=(!(decide (r1.Id=c2.Id)))) hc) (cnd (c:=(!(decide (r1.Id=c2.Id)))) hc)) ?_
 refine z0a (z2h rfl rfl (fun hb=>(cnd (c:=(!(decide (r1.Id=c2.Id)))) (notI hb)))) ?_
 refine qd rfl ?_
 refine z57 rfl rfl (fun hc=>z0r x4o rfl) ?_
 refine x44 rfl rfl (fun hc=>z0o tyS3 (cnd (c:=((decide (r1.Id=c2.Id)) || (decide (r1.Id=c2.Parent)))) hc) rfl) rfl y3x ?_
 refine z57 rfl rfl (fun hc=>z0x tyS3 rfl rfl rfl) ?_
 refine z57 rfl rfl (fun hc=>y0f (cnd (c:=((decide (r1.Id=c2.Id)) || (decide (r1.Id=c2.Parent)))) hc) (cnd (c:=((decide (r1.Id=c2.Id)) || (decide (r1.Id=c2.Parent)))) hc)) ?_
 refine z0a (z2c rfl (fun hb=>(cnd (c:=((decide (r1.Id=c2.Id)) || (decide (r1.Id=c2.Parent)))) hb)) rfl) ?_
 refine qe rfl ?_
 refine z0m ?_
 cases H
 exact ⟨trivial,.inl rfl,trivial⟩
theorem x3k (v1:z1t) (v2:Bs) (v3:Int) (r:(z0e×Int)) (H:y1t v1 v2 v3=some r):Fn Tryz.prog 60 [vagg (y1p v1),vstr v2,vint v3] (z1r [vagg (z0s r.1),vint r.2]):=by
 refine ⟨by kernel_rfl,z1e (us:=[vagg (z0s r.1),vint r.2]) Tryz.func60 rfl rfl rfl rfl fun X hN => ?_⟩
 unfold y1t at H
 refine z0c ?_
 refine z0b hN rfl ?_
 refine z0j (z9k 1 rfl) rfl ?_
 refine z0j (y8i 2 rfl rfl) rfl ?_
 refine z0j (z2s 3 y0q rfl) rfl ?_
 refine qe rfl ?_
 refine z0c ?_
 refine z0b hN rfl ?_
 refine z0a (z0r x1u rfl) ?_
 refine z0w (z0o x67 rfl rfl) rfl ?_
 refine qd rfl ?_
 refine z0w (z0o tyS3 rfl rfl) rfl ?_
 obtain ⟨r4,h5,H⟩:=bnd H
 refine z0a (z0q (x6l v1.Signers v2 v3 r4 h5) ⟨.inl rfl,.inl rfl,.inl rfl,trivial⟩) ?_
 refine qd rfl ?_
 refine z0a (z10 rfl rfl) ?_
 refine z0a (z10 rfl rfl) ?_
 refine z0j (z2s 4 y0q rfl) rfl ?_
 refine z0j (z1b z28 rfl rfl rfl rfl) rfl ?_
 refine qe rfl ?_
 refine z0c ?_
 refine z0v ?_
 refine z0c ?_
 refine z0b hN rfl ?_
 refine qd rfl ?_
 refine z0a (z48 rfl rfl) ?_
 refine qe rfl ?_
 refine z0g _ rfl (fun h6 => ?_) (fun h6 => ?_)
 ·replace H:=ift h6 H
  refine z0c ?_
  refine z0b hN rfl ?_
  refine z0a (y0b (u':=vagg (z0s (z0e.mk [] [] [] [] [] [] 0 0))) (y0l (by exact ⟨z02,z02,z02,z02,z2r,z2r,z02,z02,trivial⟩)) (z2f [] y0q y4b rfl trivial)) ?_
  refine qd rfl ?_
  refine z0j (z1b z28 rfl rfl rfl rfl) rfl ?_
  refine qe rfl ?_
  refine z0m ?_
  cases H
  exact ⟨trivial,.inl ⟨_,_,_,z0s (z0e.mk [] [] [] [] [] [] 0 0),rfl,rfl,rfl,rfl,z28⟩,.inl rfl,trivial⟩
 ·replace H:=iff_ h6 H
  refine z03 (ι:=Bool) (fun i=>[(3,.ptr 1 0),(5,.ptr 2 0),(6,.ptr 3 0),(8,.ptr 4 0),(23,.dat (z05 i))]) (fun i=>[(1,.box none 30 [.dat (vstr v1.Issuer),.dat (vstr v1.Audience),.dat (vlst (List.map z06 v1.Signers)),.dat (vlst (List.map z1l v1.Revoked)),.dat (vlst (List.map z1w v1.Holders)),.dat (vint v1.Skew)]),(2,.box none 3 [.dat (vint v3)]),(3,.box none 39 [.dat (vstr []),.dat (vstr []),.dat (vstr []),.dat (vstr []),.dat (vnil),.dat (vnil),.dat (vint 0),.dat (vint 0)]),(4,.box none 39 [.dat (vstr r4.1.Id),.dat (vstr r4.1.Subject),.dat (vstr r4.1.Issuer),.dat (vstr r4.1.Parent),.dat (vlst (List.map z0n r4.1.Audience)),.dat (vlst (List.map z0n r4.1.Scopes)),.dat (vint r4.1.From),.dat (vint r4.1.To)])]) (fun i=>z9q v1 v3 r4 i=some r) (fun i=>rfl) ?_ ?_
  ·skip
   refine z0b hN rfl ?_
   refine z0a (z0r y7i rfl) ?_
   refine z0w (z0o tyS9 rfl rfl) rfl ?_
   refine z0a (z0r x1w rfl) ?_
   refine z0w (z0o tyS9 rfl rfl) rfl ?_
   refine z0a (z9j rfl rfl) ?_
   refine qd rfl ?_
   refine z09 (j:=5) rfl rfl (fun h7 => ?_) (fun h7 => ?_) rfl
   ·have h8:=un3 h7
    replace H:=iff_ h8 H
    refine z0p rfl rfl h7 (z0r y4c rfl) ?_
    refine z8z rfl rfl h7 (z0o z85 rfl rfl) rfl ?_
    refine z0p rfl rfl h7 (z6r z9p rfl) ?_
    refine z0p rfl rfl h7 (z2m rfl rfl) ?_
    refine z0p rfl rfl h7 (z0h (.dat _) rfl) ?_
    refine z09 (j:=10) rfl rfl (fun h9 => ?_) (fun h9 => ?_) rfl
    ·have h10:=un1 h9
     replace H:=ift h10 H
     refine z0p rfl rfl h9 (z0r y4c rfl) ?_
     refine z8z rfl rfl h9 (z0o z85 rfl rfl) rfl ?_
     refine z0p rfl rfl h9 (z0r x1v rfl) ?_
     refine z8z rfl rfl h9 (z0o tyS9 rfl rfl) rfl ?_
     obtain ⟨r11,h12,H⟩:=bnd H
     refine z0p rfl rfl h9 (z0q (z5x r4.1.Audience v1.Audience r11 h12) ⟨.inl rfl,.inl rfl,trivial⟩) ?_
     refine z0p rfl rfl h9 (z2j rfl) ?_
     refine z0p rfl rfl h7 (z00 rfl (bTT h10) rfl) ?_
     refine z0a (z0z rfl (bFF h8) rfl) ?_
     refine qe rfl ?_
     exact ⟨!r11,H,⟨rfl,rfl,rfl,rfl,rfl,trivial⟩,⟨rfl,rfl,rfl,rfl,trivial⟩⟩
    ·have h13:=un2 h9
     replace H:=iff_ h13 H
     refine z0f rfl rfl h9 ?_
     refine z0f rfl rfl h9 ?_
     refine z0f rfl rfl h9 ?_
     refine z0f rfl rfl h9 ?_
     refine z0f rfl rfl h9 ?_
     refine z0f rfl rfl h9 ?_
     refine z0p rfl rfl h7 (z0z rfl (bFF h13) rfl) ?_
     refine z0a (z0z rfl (bFF h8) rfl) ?_
     refine qe rfl ?_
     exact ⟨false,H,⟨rfl,rfl,rfl,rfl,rfl,trivial⟩,⟨rfl,rfl,rfl,rfl,trivial⟩⟩
   ·have h14:=un4 h7
    replace H:=ift h14 H
    refine z0f rfl rfl h7 ?_
    refine z0f rfl rfl h7 ?_
    refine z0f rfl rfl h7 ?_
    refine z0f rfl rfl h7 ?_
    refine z0f rfl rfl h7 ?_
    refine z01 rfl rfl ?_
    refine z01 rfl rfl ?_
    refine z01 rfl rfl ?_
    refine z01 rfl rfl ?_
    refine z01 rfl rfl ?_
    refine z01 rfl rfl ?_
    refine z0f rfl rfl h7 ?_
    refine z0a (z00 rfl (bTT h14) rfl) ?_
    refine qe rfl ?_
    exact ⟨true,H,⟨rfl,rfl,rfl,rfl,rfl,trivial⟩,⟨rfl,rfl,rfl,rfl,trivial⟩⟩
  ·rintro v15 H
   replace H:z9q v1 v3 r4 v15=some r:=H
   unfold z9q at H
   refine z0g _ rfl (fun h16 => ?_) (fun h16 => ?_)
   ·replace H:=ift h16 H
    refine z0c ?_
    refine z0b hN rfl ?_
    refine z0a (y0b (u':=vagg (z0s (z0e.mk [] [] [] [] [] [] 0 0))) (y0l (by exact ⟨z02,z02,z02,z02,z2r,z2r,z02,z02,trivial⟩)) (z2f [] y0q y4b rfl trivial)) ?_
    refine z0j (z1b z28 rfl rfl rfl rfl) rfl ?_
    refine qe rfl ?_
    refine z0m ?_
    cases H
    exact ⟨trivial,.inl ⟨_,_,_,z0s (z0e.mk [] [] [] [] [] [] 0 0),rfl,rfl,rfl,rfl,z28⟩,.inl rfl,trivial⟩
   ·replace H:=iff_ h16 H
    refine z0c ?_
    refine z0b hN rfl ?_
    refine z0w (z0o tyS3 rfl rfl) rfl ?_
    refine z0a (z0r y5n rfl) ?_
    refine z0w (z0o tyS3 rfl rfl) rfl ?_
    refine z0a (z0r y85 rfl) ?_
    refine z0w (z0o tyS3 rfl rfl) rfl ?_
    refine z0a (z1c _ rfl rfl (.inr (.inl ⟨rfl,rfl⟩))) ?_
    refine z0a (z04 rfl rfl) ?_
    refine qd rfl ?_
    refine y1s rfl rfl (fun hc=>z0o tyS3 rfl rfl) rfl y3x ?_
    refine z2b rfl rfl (fun hc=>z0r y41 rfl) ?_
    refine y1s rfl rfl (fun hc=>z0o tyS3 (cnd (c:=(!(decide (v3 < (wr (r4.1.From - v1.Skew)))))) hc) rfl) rfl y3x ?_
    refine z2b rfl rfl (fun hc=>z0r y85 rfl) ?_
    refine y1s rfl rfl (fun hc=>z0o tyS3 (cnd (c:=(!(decide (v3 < (wr (r4.1.From - v1.Skew)))))) hc) rfl) rfl y3x ?_
    refine z2b rfl rfl (fun hc=>z1c _ (cnd (c:=(!(decide (v3 < (wr (r4.1.From - v1.Skew)))))) hc) (cnd (c:=(!(decide (v3 < (wr (r4.1.From - v1.Skew)))))) hc) (.inl ⟨rfl,rfl⟩)) ?_
    refine z2b rfl rfl (fun hc=>z87 (cnd (c:=(!(decide (v3 < (wr (r4.1.From - v1.Skew)))))) hc) (cnd (c:=(!(decide (v3 < (wr (r4.1.From - v1.Skew)))))) hc)) ?_
    refine z0a (z2h rfl rfl (fun hb=>(cnd (c:=(!(decide (v3 < (wr (r4.1.From - v1.Skew)))))) (notI hb)))) ?_
    refine qe rfl ?_
    refine z0g _ rfl (fun h17 => ?_) (fun h17 => ?_)
    ·replace H:=ift h17 H
     refine z0c ?_
     refine z0b hN rfl ?_
     refine z0a (y0b (u':=vagg (z0s (z0e.mk [] [] [] [] [] [] 0 0))) (y0l (by exact ⟨z02,z02,z02,z02,z2r,z2r,z02,z02,trivial⟩)) (z2f [] y0q y4b rfl trivial)) ?_
     refine z0j (z1b z28 rfl rfl rfl rfl) rfl ?_
     refine qe rfl ?_
     refine z0m ?_
     cases H
     exact ⟨trivial,.inl ⟨_,_,_,z0s (z0e.mk [] [] [] [] [] [] 0 0),rfl,rfl,rfl,rfl,z28⟩,.inl rfl,trivial⟩
    ·replace H:=iff_ h17 H
     refine z0l ?_
     refine z0c ?_
     refine z0c ?_
     refine y3w 4 [vstr r4.1.Id,vstr r4.1.Subject,vstr r4.1.Issuer,vstr r4.1.Parent,vlst (List.map z0n r4.1.Audience),vlst (List.map z0n r4.1.Scopes),vint r4.1.From,vint r4.1.To] rfl rfl ?_
     refine y3w 2 [vint v3] rfl rfl ?_
     refine z0b hN rfl ?_
     refine z0a (z0r x4q rfl) ?_
     refine z0w (z0o w36 rfl rfl) rfl ?_
     refine z0a (y5c (us:=[_,_]) ⟨rfl,rfl,trivial⟩) ?_
     obtain ⟨r18,h19,H⟩:=bnd H
     refine z0a (z0q (z62 v1.Revoked (fun (a0:z0u)=>y2v a0 r4.1 v3) 126 [y1q [[vstr r4.1.Id,vstr r4.1.Subject,vstr r4.1.Issuer,vstr r4.1.Parent,vlst (List.map z0n r4.1.Audience),vlst (List.map z0n r4.1.Scopes),vint r4.1.From,vint r4.1.To]] 0 0,y1q [[vint v3]] 0 0] (fun a0 r h=>x04 a0 r4.1 v3 r h) r18 h19) ⟨.inl rfl,.inl rfl,trivial⟩) ?_
     refine z0g _ rfl (fun h20 => ?_) (fun h20 => ?_)
     ·replace H:=ift h20 H
      refine z0c ?_
      refine z0b hN rfl ?_
      refine z0a (y0b (u':=vagg (z0s (z0e.mk [] [] [] [] [] [] 0 0))) (y0l (by exact ⟨z02,z02,z02,z02,z2r,z2r,z02,z02,trivial⟩)) (z2f [] y0q y4b rfl trivial)) ?_
      refine z0j (z1b z28 rfl rfl rfl rfl) rfl ?_
      refine qe rfl ?_
      refine z0m ?_
      cases H
      exact ⟨trivial,.inl ⟨_,_,_,z0s (z0e.mk [] [] [] [] [] [] 0 0),rfl,rfl,rfl,rfl,z28⟩,.inl rfl,trivial⟩
     ·replace H:=iff_ h20 H
      refine z0l ?_
      refine z0c ?_
      refine z0b hN rfl ?_
      refine z0a (y15 z28 rfl rfl rfl) ?_
      refine z0j (z1b z28 rfl rfl rfl rfl) rfl ?_
      refine qe rfl ?_
      refine z0m ?_
      cases H
      exact ⟨trivial,.inl ⟨_,_,_,z0s r4.1,rfl,rfl,rfl,rfl,z28⟩,.inl rfl,trivial⟩
theorem x3n (k1:z1t) (s2:Bs) (v3:Int) (r:(z0e×Int)) (H:y34 k1 s2 v3=some r):Fn Tryz.prog 15 [vagg (y1p k1),vstr s2,vint v3] (z1r [vagg (z0s r.1),vint r.2]):=by
 refine ⟨by kernel_rfl,z1e (us:=[vagg (z0s r.1),vint r.2]) Tryz.func15 rfl rfl rfl rfl fun X hN => ?_⟩
 unfold y34 at H
 refine z0c ?_
 refine z0b hN rfl ?_
 refine z0j (z9k 1 rfl) rfl ?_
 refine z0j (z2s 2 y0q rfl) rfl ?_
 refine qe rfl ?_
 refine z0c ?_
 refine z0c ?_
 refine z0b hN rfl ?_
 refine z0w (z6d x1t rfl rfl rfl) rfl ?_
 obtain ⟨r4,h5,H⟩:=bnd H
 refine z0a (z0q (y6c k1 r4 h5) ⟨.inl rfl,trivial⟩) ?_
 refine qe rfl ?_
 refine z0c ?_
 refine z0b hN rfl ?_
 refine qd rfl ?_
 refine z0a (z48 rfl rfl) ?_
 refine z0g _ rfl (fun h6 => ?_) (fun h6 => ?_)
 ·replace H:=ift h6 H
  refine z0c ?_
  refine z0b hN rfl ?_
  refine z0a (y0b (u':=vagg (z0s (z0e.mk [] [] [] [] [] [] 0 0))) (y0l (by exact ⟨z02,z02,z02,z02,z2r,z2r,z02,z02,trivial⟩)) (z2f [] y0q y4b rfl trivial)) ?_
  refine qd rfl ?_
  refine z0j (z1b z28 rfl rfl rfl rfl) rfl ?_
  refine qe rfl ?_
  refine z0m ?_
  cases H
  exact ⟨trivial,.inl ⟨_,_,_,z0s (z0e.mk [] [] [] [] [] [] 0 0),rfl,rfl,rfl,rfl,z28⟩,.inl rfl,trivial⟩
 ·replace H:=iff_ h6 H
  refine z0l ?_
  refine z0c ?_
  refine z0b hN rfl ?_
  refine z0w (z6d x1t rfl rfl rfl) rfl ?_
  refine qd rfl ?_
  refine qd rfl ?_
  obtain ⟨r7,h8,H⟩:=bnd H
  refine z0a (z0q (x3k k1 s2 v3 r7 h8) ⟨.inl rfl,.inl rfl,.inl rfl,trivial⟩) ?_
  refine z0a (z10 rfl rfl) ?_
  refine z0a (z10 rfl rfl) ?_
  refine z0j (z1b z28 rfl rfl rfl rfl) rfl ?_
  refine qe rfl ?_
  refine z0m ?_
  cases H
  exact ⟨trivial,.inl ⟨_,_,_,z0s r7.1,rfl,rfl,rfl,rfl,z28⟩,.inl rfl,trivial⟩
theorem y9j (x1:z0i) (c2:(List Bs)) (r:(Bool)) (H:z9c x1 c2=some r):Fn Tryz.prog 129 [vagg (z06 x1),y1q [[vlst (List.map z0n c2)]] 0 0] (z1r [z05 r]):=by
 refine ⟨by kernel_rfl,z1e (us:=[z05 r]) Tryz.func129 rfl rfl rfl rfl fun X hN => ?_⟩
 unfold z9c at H
 refine z0c ?_
 refine z0b hN rfl ?_
 refine z0j (z9k 1 rfl) rfl ?_
 refine qe rfl ?_
 refine z0c ?_
 refine z4k mixed hN rfl rfl ?_
 refine z0a (z0r y5b rfl) ?_
 refine z0w (z0o tyS9 rfl rfl) rfl ?_
 refine z0a (z0x z85 rfl rfl rfl) ?_
 obtain ⟨x3,h4,H⟩:=bnd H
 refine z0a (y0r z9i (fun _=>rfl) rfl rfl h4) ?_
 refine z0a (z0x tyS9 rfl (z2l h4) rfl) ?_
 refine z0a (z6c rfl rfl) ?_
 refine qe rfl ?_
 refine ⟨rfl,?_⟩
 refine z0m ?_
 cases H
 exact ⟨trivial,.inl rfl,trivial⟩
theorem y95 (s1:Bs) (r:(Bs×Int)) (H:y1o s1=some r):Fn Tryz.prog 130 [vstr s1] (z1r [vstr r.1,vint r.2]):=by
 refine ⟨by kernel_rfl,z1e (us:=[vstr r.1,vint r.2]) Tryz.func130 rfl rfl rfl rfl fun X hN => ?_⟩
 unfold y1o at H
 refine z0c ?_
 refine z0b hN rfl ?_
 refine qe rfl ?_
 refine qe rfl ?_
 refine z0c ?_
 refine z0b hN rfl ?_
 refine qe rfl ?_
 refine z0c ?_
 refine z0c ?_
 refine z0b hN rfl ?_
 refine qd rfl ?_
 refine z0a (z1m tyU9 rfl) ?_
 refine qd rfl ?_
 refine z0v ?_
 obtain ⟨h5,H⟩:=gif H
 refine z3u (fun (k3:Nat) (s:Bs)=>[(0,.dat (vstr s1)),(4,.dat (vstr s)),(11,.dat (vint (s1.length:Int))),(12,.dat (vint (k3:Int)))]) (fun (k3:Nat) (s:Bs)=>[]) [] H ⟨rfl,rfl,rfl,rfl,trivial⟩ trivial (fun _ _=>rfl) ?_ ?_
 ·rintro bits2 H
  replace H:z7q s1 bits2=some r:=H
  unfold z7q at H
  refine z0c ?_
  refine z0b hN rfl ?_
  refine z0a (z04 rfl rfl) ?_
  refine z0c ?_
  refine z0g _ rfl (fun h=>(lt_t h).elim) (fun h => ?_)
  refine z1u ?_
  refine z0c ?_
  refine z0b hN rfl ?_
  refine qe rfl ?_
  refine z03 (ι:=(List Int)) (fun i=>[(0,.dat (vstr s1)),(7,.row 1 i.length)]) (fun i=>[(1,.row 5 1 (List.map z5m i))]) (fun i=>z7p s1 i=some r) (fun i=>rfl) ?_ ?_
  ·skip
   refine z0v ?_
   refine y2i 7 1 5 1 rfl rfl rfl ?_
   refine y55 (fun (s:Bs×(List Int))=>[(0,.dat (vstr s1)),(4,.dat (vstr s.1)),(7,.row 1 s.2.length)]) (fun (s:Bs×(List Int))=>[(1,.row 5 1 (List.map z5m s.2))]) (bits2,[]) H ⟨rfl,rfl,rfl,trivial⟩ ⟨rfl,trivial⟩ (fun _=>rfl) ?_
   rintro ⟨bits7,l8⟩ q9 H hq9
   replace H:z1s s1 bits7 l8=some q9:=H
   unfold z1s at H
   refine z0c ?_
   refine z0c ?_
   refine z0b hN rfl ?_
   refine qd rfl ?_
   refine z0a (z1m tyU9 rfl) ?_
   refine z0a (z87 rfl rfl) ?_
   refine z0g _ rfl (fun h10 => ?_) (fun h10 => ?_)
   ·replace H:=ift h10 H
    refine z0l ?_
    refine z0v ?_
    refine z0c ?_
    refine z0b hN rfl ?_
    refine qd rfl ?_
    obtain ⟨l11,h12,H⟩:=bnd H
    refine z0a (y14 tyU9 rfl rfl rfl h12) ?_
    obtain ⟨r13,h14,H⟩:=bnd H
    refine z0a (z0q (y6p l11 2 64 r13 h14) ⟨.inl rfl,.inl rfl,.inl rfl,trivial⟩) ?_
    refine qd rfl ?_
    refine z0a (z10 rfl rfl) ?_
    refine z0a (z10 rfl rfl) ?_
    refine qe rfl ?_
    refine qe rfl ?_
    refine z4k mixed hN rfl rfl ?_
    refine z0a (z0h (.row _ _) rfl) ?_
    refine qd rfl ?_
    refine z0a (z7f tyU2 tyU5 rfl) ?_
    refine z0a (z1a (u':=vlst (List.map z5m [IntKind.wrap .u8 r13.1])) (z14 [[_]] x3r ⟨rfl,.inl ⟨_,rfl,rfl,rfl⟩,rfl,trivial⟩ rfl rfl) rfl) ?_
    obtain ⟨h15,H⟩:=gif H
    refine z0j (y75 x3r (fun _=>rfl) rfl rfl rfl ⟨by simp,by first | (simp; done) | simpa using h15⟩ rfl) rfl ?_
    refine qd rfl ?_
    obtain ⟨l16,h17,H⟩:=bnd H
    refine z0a (y14 tyU9 rfl rfl rfl h17) ?_
    refine z0a (z13 (.row _ _) rfl) ?_
    refine qe rfl ?_
    refine ⟨rfl,?_⟩
    exact ⟨_,z84 H,⟨rfl,rfl,rfl,trivial⟩,⟨rfl,trivial⟩⟩
   ·replace H:=iff_ h10 H
    refine z1u ?_
    replace H:=outl H hq9
    exact ⟨l8,H,⟨rfl,rfl,trivial⟩,⟨rfl,trivial⟩⟩
  ·rintro out18 H
   replace H:z7p s1 out18=some r:=H
   unfold z7p at H
   refine z0c ?_
   refine z0c ?_
   refine x1b 7 1 rfl rfl rfl ?_
   refine z0b hN rfl ?_
   refine qd rfl ?_
   refine z0a (y67 (C:=z5m) y8x tyU5 tyU9 (fun _=>rfl) rfl) ?_
   obtain ⟨r19,h20,H⟩:=bnd H
   refine z0a (z0q (y27 (strN out18) r19 h20) ⟨.inl rfl,trivial⟩) ?_
   refine qd rfl ?_
   refine z0a (z9j rfl rfl) ?_
   refine z0g _ rfl (fun h21 => ?_) (fun h21 => ?_)
   ·replace H:=ift h21 H
    refine z0c ?_
    refine z0b hN rfl ?_
    refine qe rfl ?_
    refine qe rfl ?_
    refine z0m ?_
    cases H
    exact ⟨trivial,.inl rfl,.inl rfl,trivial⟩
   ·replace H:=iff_ h21 H
    refine z0l ?_
    refine z0c ?_
    refine z0b hN rfl ?_
    refine qd rfl ?_
    refine z0a (y67 (C:=z5m) y8x tyU5 tyU9 (fun _=>rfl) rfl) ?_
    refine qe rfl ?_
    refine qe rfl ?_
    refine z0m ?_
    cases H
    exact ⟨trivial,.inl rfl,.inl rfl,trivial⟩
 ·rintro k3 x6 bits2 q4 h22 h23 H hq4
  replace H:z5h k3 x6 bits2=some q4:=H
  unfold z5h at H
  refine z0c ?_
  refine z0b hN rfl ?_
  refine z0a (z04 rfl rfl) ?_
  refine z0c ?_
  refine z0g _ rfl (fun h => ?_) (fun h=>(lt_f h22 h).elim)
  refine z0l ?_
  refine z0c ?_
  refine z0v ?_
  refine z0c ?_
  refine z0b hN rfl ?_
  refine qd rfl ?_
  refine qe rfl ?_
  refine z0c ?_
  refine z0b hN rfl ?_
  refine qd rfl ?_
  refine qd rfl ?_
  refine z0a (y00 tyU9 rfl rfl h23) ?_
  obtain ⟨r24,h25,H⟩:=bnd H
  refine z0a (z0q (y4f [65,66,67,68,69,70,71,72,73,74,75,76,77,78,79,80,81,82,83,84,85,86,87,88,89,90,97,98,99,100,101,102,103,104,105,106,107,108,109,110,111,112,113,114,115,116,117,118,119,120,121,122,48,49,50,51,52,53,54,55,56,57,45,95] (x6.toNat:Int) r24 h25) ⟨.inl rfl,.inl rfl,trivial⟩) ?_
  refine qe rfl ?_
  refine z0c ?_
  refine z0c ?_
  refine z0b hN rfl ?_
  refine qd rfl ?_
  refine z0a (z04 rfl rfl) ?_
  refine z0g _ rfl (fun h26 => ?_) (fun h26 => ?_)
  ·replace H:=ift h26 H
   refine z0c ?_
   refine z0b hN rfl ?_
   refine qe rfl ?_
   refine qe rfl ?_
   refine z0m ?_
   replace H:=retl H hq4
   cases H
   exact ⟨trivial,.inl rfl,.inl rfl,trivial⟩
  ·replace H:=iff_ h26 H
   refine z0l ?_
   refine z0b hN rfl ?_
   refine qd rfl ?_
   refine qd rfl ?_
   refine z0a (z1c _ rfl rfl (.inl ⟨rfl,rfl⟩)) ?_
   obtain ⟨r27,h28,H⟩:=bnd H
   refine z0a (z0q (y6f (wr (64+r24)) 2 r27 h28) ⟨.inl rfl,.inl rfl,trivial⟩) ?_
   obtain ⟨l29,h30,H⟩:=bnd H
   refine z0a (y14 tyU9 rfl rfl rfl h30) ?_
   obtain ⟨h31,H⟩:=gif H
   refine z0a (z26 rfl rfl (Nat.le_trans h31 (by decide))) ?_
   refine qe rfl ?_
   refine z0b hN rfl ?_
   refine z0a (z3r rfl rfl (by omega)) ?_
   refine qd rfl ?_
   exact ⟨_,z84 H,⟨rfl,rfl,rfl,rfl,trivial⟩,trivial⟩
theorem y7t (s1:Bs) (r:(Bool)) (H:z6t s1=some r):Fn Tryz.prog 185 [vstr s1] (z1r [z05 r]):=by
 refine ⟨by kernel_rfl,z1e (us:=[z05 r]) Tryz.func185 rfl rfl rfl rfl fun X hN => ?_⟩
 unfold z6t at H
 refine z0c ?_
 refine z0b hN rfl ?_
 refine qe rfl ?_
 refine z0c ?_
 refine z0b hN rfl ?_
 refine qd rfl ?_
 refine z0a (z9j rfl rfl) ?_
 refine qd rfl ?_
 refine z57 rfl rfl (fun hc=>z0h (.dat _) rfl) ?_
 refine z57 rfl rfl (fun hc=>z9j (cnd (c:=(decide (s1≠[112,97,114,101,110,116]))) hc) rfl) ?_
 refine z0a (z2c rfl (fun hb=>(cnd (c:=(decide (s1≠[112,97,114,101,110,116]))) hb)) rfl) ?_
 refine qd rfl ?_
 refine z57 rfl rfl (fun hc=>z0h (.dat _) rfl) ?_
 refine z57 rfl rfl (fun hc=>z9j (cnd (c:=((decide (s1≠[112,97,114,101,110,116])) && (decide (s1≠[102,111,114])))) hc) rfl) ?_
 refine z0a (z2c rfl (fun hb=>(cnd (c:=((decide (s1≠[112,97,114,101,110,116])) && (decide (s1≠[102,111,114])))) hb)) rfl) ?_
 refine qe rfl ?_
 refine z0m ?_
 cases H
 exact ⟨trivial,.inl rfl,trivial⟩
theorem y7b (s1:Bs) (most2:Int) (r:(Int×Bool)) (H:z7t s1 most2=some r):Fn Tryz.prog 151 [vstr s1,vint most2] (z1r [vint r.1,z05 r.2]):=by
 refine ⟨by kernel_rfl,z1e (us:=[vint r.1,z05 r.2]) Tryz.func151 rfl rfl rfl rfl fun X hN => ?_⟩
 unfold z7t at H
 refine z0c ?_
 refine z0b hN rfl ?_
 refine qe rfl ?_
 refine qe rfl ?_
 refine z0c ?_
 refine z0b hN rfl ?_
 refine qd rfl ?_
 obtain ⟨r3,h4,H⟩:=bnd H
 refine z0a (z0q (y5x s1 [45] r3 h4) ⟨.inl rfl,.inl rfl,trivial⟩) ?_
 refine qe rfl ?_
 refine z0c ?_
 refine z03 (ι:=Bool) (fun i=>[(0,.dat (vstr s1)),(23,.dat (z05 i))]) (fun i=>[]) (fun i=>z38 s1 i=some r) (fun i=>rfl) ?_ ?_
 ·skip
  refine z0b hN rfl ?_
  refine qd rfl ?_
  refine z0a (z6c rfl rfl) ?_
  refine qd rfl ?_
  refine z09 (j:=2) rfl rfl (fun h5 => ?_) (fun h5 => ?_) rfl
  ·have h6:=un3 h5
   replace H:=iff_ h6 H
   refine z0p rfl rfl h5 (z0h (.dat _) rfl) ?_
   refine z0p rfl rfl h5 (z1m tyU9 rfl) ?_
   refine z0p rfl rfl h5 (z0h (.dat _) rfl) ?_
   refine z0p rfl rfl h5 (z2m rfl rfl) ?_
   refine z0a (z0z rfl (bFF h6) rfl) ?_
   refine qd rfl ?_
   refine z09 (j:=8) rfl rfl (fun h7 => ?_) (fun h7 => ?_) rfl
   ·have h8:=un3 h7
    replace H:=iff_ h8 H
    refine z0p rfl rfl h7 (z0h (.dat _) rfl) ?_
    obtain ⟨r9,h10,H⟩:=bnd H
    refine z0p rfl rfl h7 (z0q (y4t r3 [48,49,50,51,52,53,54,55,56,57] r9 h10) ⟨.inl rfl,.inl rfl,trivial⟩) ?_
    refine z0p rfl rfl h7 (z2j rfl) ?_
    refine z0a (z0z rfl (bFF h8) rfl) ?_
    exact ⟨!r9,H,⟨rfl,rfl,trivial⟩,trivial⟩
   ·have h11:=un4 h7
    replace H:=ift h11 H
    refine z0f rfl rfl h7 ?_
    refine z0f rfl rfl h7 ?_
    refine z0f rfl rfl h7 ?_
    refine z0a (z00 rfl (bTT h11) rfl) ?_
    exact ⟨true,H,⟨rfl,rfl,trivial⟩,trivial⟩
  ·have h12:=un4 h5
   replace H:=ift h12 H
   refine z0f rfl rfl h5 ?_
   refine z0f rfl rfl h5 ?_
   refine z0f rfl rfl h5 ?_
   refine z0f rfl rfl h5 ?_
   refine z0a (z00 rfl (bTT h12) rfl) ?_
   refine qd rfl ?_
   refine z0f rfl rfl rfl ?_
   refine z0f rfl rfl rfl ?_
   refine z0f rfl rfl rfl ?_
   refine z0a (z00 rfl rfl rfl) ?_
   exact ⟨true,H,⟨rfl,rfl,trivial⟩,trivial⟩
 ·rintro v13 H
  replace H:z38 s1 v13=some r:=H
  unfold z38 at H
  refine z0g _ rfl (fun h14 => ?_) (fun h14 => ?_)
  ·replace H:=ift h14 H
   refine z0c ?_
   refine z0b hN rfl ?_
   refine qe rfl ?_
   refine qe rfl ?_
   refine z0m ?_
   cases H
   exact ⟨trivial,.inl rfl,.inl rfl,trivial⟩
  ·replace H:=iff_ h14 H
   refine z0l ?_
   refine z0c ?_
   refine z0b hN rfl ?_
   refine qd rfl ?_
   obtain ⟨r15,h16,H⟩:=bnd H
   refine z0a (z0q (y80 s1 r15 h16) ⟨.inl rfl,trivial⟩) ?_
   refine qd rfl ?_
   refine z0a (z10 rfl rfl) ?_
   refine z0a (z10 rfl rfl) ?_
   refine qe rfl ?_
   refine qe rfl ?_
   refine z03 (ι:=Bool) (fun i=>[(4,.dat (vint r15.1)),(5,.dat (z05 i))]) (fun i=>[]) (fun i=>z95 r15 i=some r) (fun i=>rfl) ?_ ?_
   ·skip
    refine z0b hN rfl ?_
    refine qd rfl ?_
    refine qd rfl ?_
    refine z0a (x3t (n:=r15.2) (show Tryz.prog.underlying 135=some (.interface (Tryz.prog.methodsAt 135)) from by kernel_rfl) rfl) ?_
    refine qd rfl ?_
    refine z09 (j:=3) rfl rfl (fun h17 => ?_) (fun h17 => ?_) rfl
    ·have h18:=un1 h17
     replace H:=ift h18 H
     refine z0p rfl rfl h17 (z0h (.dat _) rfl) ?_
     obtain ⟨r19,h20,H⟩:=bnd H
     refine z0p rfl rfl h17 (z0q (y6w r15.1 r19 h20) ⟨.inl rfl,trivial⟩) ?_
     refine z0p rfl rfl h17 (z0h (.dat _) rfl) ?_
     refine z0p rfl rfl h17 (z6c rfl rfl) ?_
     refine z0a (z00 rfl (bTT h18) rfl) ?_
     refine qe rfl ?_
     refine qe rfl ?_
     exact ⟨decide (r19=s1),H,⟨rfl,rfl,trivial⟩,trivial⟩
    ·have h21:=un2 h17
     replace H:=iff_ h21 H
     refine z0f rfl rfl h17 ?_
     refine z0f rfl rfl h17 ?_
     refine z0f rfl rfl h17 ?_
     refine z0f rfl rfl h17 ?_
     refine z0a (z0z rfl (bFF h21) rfl) ?_
     refine qe rfl ?_
     refine qe rfl ?_
     exact ⟨false,H,⟨rfl,rfl,trivial⟩,trivial⟩
   ·rintro v22 H
    replace H:z95 r15 v22=some r:=H
    unfold z95 at H
    refine z0m ?_
    cases H
    exact ⟨trivial,.inl rfl,.inl rfl,trivial⟩
theorem x5e (s1:z0e) (v2:(List Bs)) (r:(Bool×z0e)) (H:z9m s1 v2=some r):Imp Tryz.prog 186 39 (z0s s1) [vlst (List.map z0n v2)] (z1r [z05 r.1]) (z0s r.2):=by
 refine y3m (us:=[z05 r.1]) (cs':=(z0s r.2)) (by kernel_rfl) Tryz.func186 rfl rfl rfl rfl fun X bl hN => ?_
 unfold z9m at H
 refine z0c ?_
 refine z0b hN rfl ?_
 refine qe rfl ?_
 refine z0c ?_
 refine z0c ?_
 refine z0b hN rfl ?_
 refine qd rfl ?_
 obtain ⟨x3,h4,H⟩:=bnd H
 refine z0a (y0r z9i (fun _=>rfl) rfl rfl h4) ?_
 refine z0a (z0x tyS9 rfl (z2l h4) rfl) ?_
 refine z0v ?_
 refine z0c ?_
 refine z0b hN rfl ?_
 refine z0a (z6c rfl rfl) ?_
 refine qe rfl ?_
 refine z0g _ rfl (fun h5 => ?_) (fun h5 => ?_)
 ·replace H:=ift h5 H
  refine z0c ?_
  refine z0b hN rfl ?_
  refine z0a (z0h (.ptr _ _) rfl) ?_
  refine qd rfl ?_
  obtain ⟨l6,h7,H⟩:=bnd H
  refine z0a (x1y z9i (fun _=>rfl) rfl rfl rfl h7) ?_
  refine z0a (z2o rfl) ?_
  refine z0a (z0r y4c rfl) ?_
  refine z0j (z15 z85 rfl rfl rfl rfl) rfl ?_
  refine z0c ?_
  refine z0b hN rfl ?_
  refine qd rfl ?_
  refine z0a (z6r z9p rfl) ?_
  refine z0a (z2m rfl rfl) ?_
  refine qe rfl ?_
  refine z0m ?_
  cases H
  exact ⟨trivial,⟨.inl rfl,trivial⟩,rfl⟩
 ·replace H:=iff_ h5 H
  refine z0c ?_
  refine z0b hN rfl ?_
  refine z0a (z6c rfl rfl) ?_
  refine qe rfl ?_
  refine z0g _ rfl (fun h8 => ?_) (fun h8 => ?_)
  ·replace H:=ift h8 H
   refine z0c ?_
   refine z0b hN rfl ?_
   refine z0a (z0h (.ptr _ _) rfl) ?_
   refine qd rfl ?_
   obtain ⟨l9,h10,H⟩:=bnd H
   refine z0a (x1y z9i (fun _=>rfl) rfl rfl rfl h10) ?_
   refine z0a (z2o rfl) ?_
   refine z0a (z0r y5o rfl) ?_
   refine z0j (z15 z85 rfl rfl rfl rfl) rfl ?_
   refine z0c ?_
   refine z0b hN rfl ?_
   refine qd rfl ?_
   refine z0a (z6r z9p rfl) ?_
   refine z0a (z2m rfl rfl) ?_
   refine qe rfl ?_
   refine z0m ?_
   cases H
   exact ⟨trivial,⟨.inl rfl,trivial⟩,rfl⟩
  ·replace H:=iff_ h8 H
   refine z0c ?_
   refine z0b hN rfl ?_
   refine z0a (z6c rfl rfl) ?_
   refine qe rfl ?_
   refine z0g _ rfl (fun h11 => ?_) (fun h11 => ?_)
   ·replace H:=ift h11 H
    refine z0c ?_
    refine z0c ?_
    refine z0b hN rfl ?_
    refine qd rfl ?_
    refine z0a (z6r z9p rfl) ?_
    refine z0a (z48 rfl rfl) ?_
    refine z0g _ rfl (fun h12 => ?_) (fun h12 => ?_)
    ·replace H:=ift h12 H
     refine z0c ?_
     refine z0b hN rfl ?_
     refine qe rfl ?_
     refine z0m ?_
     cases H
     exact ⟨trivial,⟨.inl rfl,trivial⟩,rfl⟩
    ·replace H:=iff_ h12 H
     refine z0l ?_
     refine z0c ?_
     refine z0b hN rfl ?_
     refine qe rfl ?_
     refine qe rfl ?_
     refine z0c ?_
     refine z0b hN rfl ?_
     refine z0a (z0h (.ptr _ _) rfl) ?_
     refine qd rfl ?_
     obtain ⟨x13,h14,H⟩:=bnd H
     refine z0a (y0r z9i (fun _=>rfl) rfl rfl h14) ?_
     refine z0a (z0x tyS9 rfl (z2l h14) rfl) ?_
     obtain ⟨r15,h16,H⟩:=bnd H
     refine z0a (z0q (y7b x13 15 r15 h16) ⟨.inl rfl,.inl rfl,trivial⟩) ?_
     refine qd rfl ?_
     refine z0a (z10 rfl rfl) ?_
     refine z0a (z10 rfl rfl) ?_
     refine z0a (z2o rfl) ?_
     refine z0a (z0r y5n rfl) ?_
     refine z0j (z15 tyS3 rfl rfl rfl rfl) rfl ?_
     refine qe rfl ?_
     refine z0c ?_
     refine z0b hN rfl ?_
     refine z0a (z0h (.ptr _ _) rfl) ?_
     refine qd rfl ?_
     obtain ⟨x17,h18,H⟩:=bnd H
     refine z0a (y0r z9i (fun _=>rfl) rfl rfl h18) ?_
     refine z0a (z0x tyS9 rfl (z2l h18) rfl) ?_
     obtain ⟨r19,h20,H⟩:=bnd H
     refine z0a (z0q (y7b x17 15 r19 h20) ⟨.inl rfl,.inl rfl,trivial⟩) ?_
     refine qd rfl ?_
     refine z0a (z10 rfl rfl) ?_
     refine z0a (z10 rfl rfl) ?_
     refine z0a (z2o rfl) ?_
     refine z0a (z0r y41 rfl) ?_
     refine z0j (z15 tyS3 rfl rfl rfl rfl) rfl ?_
     refine qe rfl ?_
     refine z0c ?_
     refine z0b hN rfl ?_
     refine qd rfl ?_
     refine qd rfl ?_
     refine z57 rfl rfl (fun hc=>z0h (.dat _) rfl) ?_
     refine z0a (z2c rfl (fun hb=>(cnd (c:=r15.2) hb)) rfl) ?_
     refine qe rfl ?_
     refine z0m ?_
     cases H
     exact ⟨trivial,⟨.inl rfl,trivial⟩,rfl⟩
   ·replace H:=iff_ h11 H
    refine z0l ?_
    refine z0c ?_
    refine z0c ?_
    refine z0b hN rfl ?_
    refine qd rfl ?_
    refine z0a (z6r z9p rfl) ?_
    refine z0a (z48 rfl rfl) ?_
    refine z0g _ rfl (fun h21 => ?_) (fun h21 => ?_)
    ·replace H:=ift h21 H
     refine z0c ?_
     refine z0b hN rfl ?_
     refine qe rfl ?_
     refine z0m ?_
     cases H
     exact ⟨trivial,⟨.inl rfl,trivial⟩,rfl⟩
    ·replace H:=iff_ h21 H
     refine z0l ?_
     refine z0c ?_
     refine w3l (MTP bl) 1 mixed hN rfl rfl ?_
     refine x58 (w6s 1 (z4m bl)) rfl ?_
     refine y01 (z0h (.ptr _ _) rfl) ?_
     refine y01 (z2o rfl) ?_
     refine y68 (x1f (z0r y7j rfl) rfl) rfl ?_
     obtain ⟨h22,H⟩:=gif H
     refine x1i (p:=(([105,100]:Bs),(0:Int))) (x1d [105,100] (0:Int) (z4m bl) rfl rfl rfl h22) rfl (by decide) ?_
     refine y01 (z0h (.ptr _ _) rfl) ?_
     refine y01 (z2o rfl) ?_
     refine y68 (x1f (z0r y84 rfl) rfl) rfl ?_
     obtain ⟨h23,H⟩:=gif H
     refine x1i (p:=(([115,117,98,106,101,99,116]:Bs),(1:Int))) (x1d [115,117,98,106,101,99,116] (1:Int) (z4m bl) rfl rfl rfl h23) rfl (by decide) ?_
     refine y01 (z0h (.ptr _ _) rfl) ?_
     refine y01 (z2o rfl) ?_
     refine y68 (x1f (z0r y7i rfl) rfl) rfl ?_
     obtain ⟨h24,H⟩:=gif H
     refine x1i (p:=(([105,115,115,117,101,114]:Bs),(2:Int))) (x1d [105,115,115,117,101,114] (2:Int) (z4m bl) rfl rfl rfl h24) rfl (by decide) ?_
     refine y01 (z0h (.ptr _ _) rfl) ?_
     refine y01 (z2o rfl) ?_
     refine y68 (x1f (z0r y5p rfl) rfl) rfl ?_
     obtain ⟨h25,H⟩:=gif H
     refine x1i (p:=(([112,97,114,101,110,116]:Bs),(3:Int))) (x1d [112,97,114,101,110,116] (3:Int) (z4m bl) rfl rfl rfl h25) rfl (by decide) ?_
     refine y01 (z0h (.mp _) rfl) ?_
     refine y01 (z0h (.dat _) rfl) ?_
     refine y01 (y0r z9i (fun _=>rfl) rfl rfl h4) ?_
     refine y01 (z0x tyS9 rfl (z2l h4) rfl) ?_
     obtain ⟨h26,H⟩:=gif H
     refine y68 (z1a (u':=vval (ptI bl ((lkG ([([105,100],(0:Int)),([115,117,98,106,101,99,116],(1:Int)),([105,115,115,117,101,114],(2:Int)),([112,97,114,101,110,116],(3:Int))]:List (Bs×Int)) x3).getD (-1)))) (w01 ([([105,100],(0:Int)),([115,117,98,106,101,99,116],(1:Int)),([105,115,115,117,101,114],(2:Int)),([112,97,114,101,110,116],(3:Int))]:List (Bs×Int)) x3 (z4m bl) rfl rfl h26) rfl) rfl ?_
     refine y01 (z0h (.dat _) rfl) ?_
     obtain ⟨x27,h28,H⟩:=bnd H
     refine y01 (y0r z9i (fun _=>rfl) rfl rfl h28) ?_
     refine y01 (z0x tyS9 rfl (z2l h28) rfl) ?_
     obtain ⟨h29,H⟩:=gif H
     refine y68 (x9q (id:=0) (w4m (y64 h29) rfl) rfl) rfl ?_
     obtain ⟨c30,h31,H⟩:=bnd H
     refine x58 (x9s tyS9 rfl rfl rfl (y6s (c:=s1) h29 h31)) rfl ?_
     refine ⟨rfl,by decide,?_⟩
     refine z0c ?_
     refine z0b hN rfl ?_
     refine qe rfl ?_
     refine z0m ?_
     cases H
     exact ⟨trivial,⟨.inl rfl,trivial⟩,rfl⟩
end Go.Proofs.YtndabcepiekebaaGreatDoor
