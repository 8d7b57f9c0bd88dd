/- Walks along the models. Printed by a program. -/
import Derived.Test.YtihjlkocfeoelaaGreatDoorZew1
namespace Go.Proofs.YtihjlkocfeoelaaGreatDoor
open Go.RowKit
set_option linter.unusedVariables false
set_option maxRecDepth 100000
set_option maxHeartbeats 2000000
theorem z6j (l r:List Bs) (H:z6h l=some r):FnG Tryz.prog 66 [.dat (vlst (List.map z0j l))] [] (.row 900 r.length) [(900,.row 9 1 (List.map z0j r))]:=by
 obtain ⟨hl,rfl⟩:=y9p H
 refine x1f (by kernel_rfl) Tryz.func66 rfl rfl rfl rfl fun X A hN => ?_
 refine y7q 0 rfl (fun h0 => ?_) ?_
 ·obtain rfl:=List.map_eq_nil_iff.1 h0
  refine z0c ?_
  refine z0b hN rfl ?_
  refine qe rfl ?_
  refine z0c ?_
  refine z0c ?_
  refine z0b hN rfl ?_
  refine qd rfl ?_
  refine z0a (y62 z6n rfl) ?_
  refine z0i _ rfl (fun h => ?_) (fun h=>by cases h)
  refine z0c ?_
  refine z0b hN rfl ?_
  refine qe rfl ?_
  refine y0k 2 900 9 1 rfl rfl rfl ?_
  refine z0q ?_
  exact ⟨trivial,[(2,.row 900 0)],⟨rfl,trivial⟩,⟨rfl,trivial⟩,rfl,.inr (.inl ⟨2,rfl,rfl⟩)⟩
 ·refine z0c ?_
  refine z0b hN rfl ?_
  refine qe rfl ?_
  refine z0c ?_
  refine z0c ?_
  refine z0b hN rfl ?_
  refine qd rfl ?_
  refine z0a (y63 z6n rfl) ?_
  refine z0i _ rfl (fun h=>by cases h) (fun h => ?_)
  refine z0l ?_
  refine z0c ?_
  refine x7i 0 (u':=vlst (List.map z0j l)) rfl x7p ?_
  refine z0b hN rfl ?_
  refine z0k (x20 900 z6o) rfl ?_
  refine qd rfl ?_
  refine z0k (x6y (C:=z0j) (xs:=[]) z6o (fun _=>rfl) rfl rfl rfl (by simpa using hl) rfl) rfl ?_
  refine z0a (z2i (.row _ _) rfl) ?_
  refine z0q ?_
  exact ⟨trivial,[(2,.row 900 l.length)],⟨rfl,trivial⟩,⟨rfl,trivial⟩,rfl,.inr (.inl ⟨2,rfl,rfl⟩)⟩
theorem y6d (l1:(List Bs)) (r:((List Bs))) (H:z8x l1=some r):Fn Tryz.prog 64 [vlst (List.map z0j l1)] (z2f [vlst (List.map z0j r)]):=by
 refine ⟨by kernel_rfl,z2a (us:=[vlst (List.map z0j r)]) Tryz.func64 rfl rfl rfl rfl fun X hN => ?_⟩
 unfold z8x at H
 refine z0c ?_
 refine z0b hN rfl ?_
 refine qe rfl ?_
 refine z0c ?_
 refine z0b hN rfl ?_
 refine qd rfl ?_
 obtain ⟨r2,h3,H⟩:=bnd H
 refine z8t (rn [(900,1)]) [] [(900,_)] (z6j l1 r2 h3) ⟨rfl,trivial⟩ ⟨.inl (.inl rfl),trivial⟩ trivial rfl ?_
 refine z0a (z2i (.row _ _) rfl) ?_
 refine z0c ?_
 refine z0b hN rfl ?_
 refine z0a (z0h (.row _ _) rfl) ?_
 obtain ⟨r4,h5,H⟩:=bnd H
 refine z8t (rn [(0,1)]) [(0,_,_,some _)] [] (z6u r2 r4 h5) ⟨rfl,trivial⟩ ⟨.inl (.inl rfl),trivial⟩ ⟨⟨⟨rfl,rfl,rfl⟩,by simp [y87,y04 h5]⟩,trivial⟩ rfl ?_
 refine z0c ?_
 refine z0b hN rfl ?_
 refine z0a (z0h (.row _ _) rfl) ?_
 obtain ⟨r6,h7,H⟩:=bnd H
 refine z8t (rn [(0,1),(900,2)]) [(0,_,_,none)] [(900,_)] (z6a r4 r6 h7) ⟨rfl,rfl,trivial⟩ ⟨.inl (.inl (congrArg (Slot.row 1) (y04 h5).symm)),trivial⟩ ⟨⟨⟨rfl,rfl,rfl⟩,trivial⟩,trivial⟩ rfl ?_
 refine z0a (z2i (.row _ _) rfl) ?_
 refine z0q ?_
 cases H
 exact ⟨trivial,y40 rfl rfl,trivial⟩
theorem z7v (s1:(List Bs)) (p1:Bs→Option (Bool)) (fv1:Nat) (us1:List V) (hp1:∀ a0 r,p1 a0=some r→Fn Tryz.prog fv1 ([vstr a0]++us1) (z2f [z02 r])) (r:((List Bs))) (H:z2w s1 p1=some r):FnG Tryz.prog 65 [.row 0 s1.length,.dat (vfn fv1 us1)] [(0,.row 9 1 (List.map z0j s1))] (.row 900 r.length) [(900,.row 9 1 (List.map z0j r))]:=by
 refine x1f (by kernel_rfl) Tryz.func65 rfl rfl rfl rfl fun X A hN => ?_
 unfold z2w at H
 refine z0c ?_
 refine z0b hN rfl ?_
 refine qe rfl ?_
 refine z0c ?_
 refine z0b hN rfl ?_
 refine z0a (z0h (.row _ _) rfl) ?_
 refine qd rfl ?_
 obtain ⟨r2,h3,H⟩:=bnd H
 refine z0u (y99 (id:=0) (es:=List.map z0j s1) (z54 s1 p1 fv1 us1 hp1 r2 h3) ⟨.inr ⟨(congrArg (Slot.row 0) (by rw [List.length_map]):Slot.row 0 s1.length=_),rfl⟩,.inl (.inl (.inl rfl)),trivial⟩ (fun _ _ _ _ h=>h)) rfl ?_
 refine qe rfl ?_
 refine z0c ?_
 refine z0c ?_
 refine z0b hN rfl ?_
 refine qd rfl ?_
 refine z0a (z10 rfl rfl) ?_
 refine z0i _ rfl (fun h4 => ?_) (fun h4 => ?_)
 ·replace H:=ift h4 H
  refine z0c ?_
  refine z0b hN rfl ?_
  refine z0a (z0h (.row _ _) rfl) ?_
  refine z0a (z2i (.row _ _) rfl) ?_
  refine x1y 4 0 900 rfl rfl (by rw [List.length_map]) rfl ?_
  refine z0q ?_
  cases H
  exact ⟨trivial,[(4,.row 900 _)],⟨rfl,trivial⟩,⟨rfl,trivial⟩,rfl,.inr (.inl ⟨4,rfl,rfl⟩)⟩
 ·replace H:=iff_ h4 H
  refine z0l ?_
  refine z0z (ι:=Int×(List Bs)) (fun i=>[(0,.row 0 i.2.length),(5,.dat (vint i.1))]) (fun i=>[(0,.row 9 1 (List.map z0j i.2))]) (fun i=>z2o i.1 i.2=some r) (fun i=>rfl) ?_ ?_
  ·skip
   refine z0c ?_
   refine z0b hN rfl ?_
   refine qd rfl ?_
   refine z0a (z1l _ rfl rfl (.inl ⟨rfl,rfl⟩)) ?_
   refine qe rfl ?_
   refine z01 ?_
   refine y29 (fun (s:Int×Int×(List Bs))=>[(0,.row 0 s.2.2.length),(1,.dat (vfn fv1 us1)),(5,.dat (vint s.1)),(6,.dat (vint s.2.1))]) (fun (s:Int×Int×(List Bs))=>[(0,.row 9 1 (List.map z0j s.2.2))]) (r2,wr (r2+1),s1) H ⟨rfl,rfl,rfl,rfl,trivial⟩ ⟨rfl,trivial⟩ (fun _=>rfl) ?_
   rintro ⟨i5,j6,l7⟩ q8 H hq8
   replace H:z36 p1 i5 j6 l7=some q8:=H
   unfold z36 at H
   refine z0c ?_
   refine z0c ?_
   refine z0b hN rfl ?_
   refine qd rfl ?_
   refine z0a (z0h (.row _ _) rfl) ?_
   refine z0u (x6x z6n rfl rfl) rfl ?_
   refine z0a (z1i rfl rfl) ?_
   refine z0i _ rfl (fun h9 => ?_) (fun h9 => ?_)
   ·replace H:=ift h9 H
    refine z0l ?_
    refine z0z (ι:=Int×(List Bs)) (fun i=>[(0,.row 0 i.2.length),(1,.dat (vfn fv1 us1)),(5,.dat (vint i.1)),(6,.dat (vint j6))]) (fun i=>[(0,.row 9 1 (List.map z0j i.2))]) (fun i=>z1x j6 i.1 i.2=some q8) (fun i=>rfl) ?_ ?_
    ·skip
     refine z01 ?_
     refine z0c ?_
     refine z0b hN rfl ?_
     refine z0a (z0h (.row _ _) rfl) ?_
     refine qd rfl ?_
     obtain ⟨x10,h11,H⟩:=bnd H
     refine z0u (y9y z7t rfl rfl rfl h11) rfl ?_
     refine z0u (x2p tyS9 rfl rfl (z8l h11).2 rfl) rfl ?_
     refine qe rfl ?_
     refine z0c ?_
     refine z0b hN rfl ?_
     refine qd rfl ?_
     refine qd rfl ?_
     obtain ⟨r12,h13,H⟩:=bnd H
     refine z0a (y5w (hp1 x10 r12 h13) rfl ⟨.inl rfl,trivial⟩) ?_
     refine z0a (z4x rfl) ?_
     refine z0i _ rfl (fun h14 => ?_) (fun h14 => ?_)
     ·replace H:=ift h14 H
      refine z0c ?_
      refine z0b hN rfl ?_
      refine z0a (z0h (.row _ _) rfl) ?_
      refine qd rfl ?_
      refine qd rfl ?_
      obtain ⟨x15,h16,H⟩:=bnd H
      refine z0u (y9y z7t rfl rfl rfl h16) rfl ?_
      refine z0k (x2o x10 tyS9 rfl rfl rfl rfl (z8l h16).2 rfl rfl) rfl ?_
      refine z0b hN rfl ?_
      refine qd rfl ?_
      refine z0a (z1l _ rfl rfl (.inl ⟨rfl,rfl⟩)) ?_
      refine qe rfl ?_
      exact ⟨(wr (i5+1),(l7.set i5.toNat x10)),H,⟨congrArg (Slot.row 0) (by simp),rfl,rfl,rfl,trivial⟩,⟨rfl,trivial⟩⟩
     ·replace H:=iff_ h14 H
      refine z0l ?_
      exact ⟨(i5,l7),H,⟨rfl,rfl,rfl,rfl,trivial⟩,⟨rfl,trivial⟩⟩
    ·rintro ⟨i17,s18⟩ H
     replace H:z1x j6 i17 s18=some q8:=H
     unfold z1x at H
     refine z0b hN rfl ?_
     refine qd rfl ?_
     refine z0a (z1l _ rfl rfl (.inl ⟨rfl,rfl⟩)) ?_
     refine qe rfl ?_
     exact ⟨_,z9j H,⟨rfl,rfl,rfl,rfl,trivial⟩,⟨rfl,trivial⟩⟩
   ·replace H:=iff_ h9 H
    refine z34 ?_
    replace H:=outl H hq8
    exact ⟨(i5,l7),H,⟨rfl,rfl,trivial⟩,⟨rfl,trivial⟩⟩
  ·rintro ⟨i19,s20⟩ H
   replace H:z2o i19 s20=some r:=H
   unfold z2o at H
   refine z0c ?_
   refine z0b hN rfl ?_
   refine z0a (z0h (.row _ _) rfl) ?_
   refine qd rfl ?_
   obtain ⟨h21,H⟩:=gif H
   refine z0u (x6u (C:=z0j) z7t rfl rfl rfl h21) rfl ?_
   refine z0k (x4v (C:=z0j) [] z6n tyZ9 rfl rfl rfl rfl rfl h21) rfl ?_
   refine z0c ?_
   refine z0b hN rfl ?_
   refine z0a (z0h (.row _ _) rfl) ?_
   refine qd rfl ?_
   obtain ⟨h22,H⟩:=gif H
   refine x3d (x7w (C:=z0j) 1 z7t rfl (x58 [] h21) rfl h22) rfl rfl ?_
   refine z0a (z2i (.row _ _) rfl) ?_
   refine x1y 4 1 900 rfl rfl (by rw [List.length_map]; exact (x1o h22)) rfl ?_
   refine z0q ?_
   cases H
   exact ⟨trivial,[(4,.row 900 _)],⟨rfl,trivial⟩,⟨rfl,trivial⟩,rfl,.inr (.inl ⟨4,rfl,congrArg (Slot.row 900) (by first | exact x1o (by assumption) | (simp <;> omega))⟩)⟩
theorem y32 (a1:Bs) (b2:Bs) (r:(Bool)) (H:z7y a1 b2=some r):Fn Tryz.prog 69 [vstr a1,vstr b2] (z2f [z02 r]):=by
 refine ⟨by kernel_rfl,z2a (us:=[z02 r]) Tryz.func69 rfl rfl rfl rfl fun X hN => ?_⟩
 unfold z7y at H
 refine z0c ?_
 refine z0b hN rfl ?_
 refine qe rfl ?_
 refine z0c ?_
 refine z0c ?_
 refine z0b hN rfl ?_
 refine qd rfl ?_
 refine qd rfl ?_
 refine z0a (z56 rfl rfl) ?_
 refine z0i _ rfl (fun h3 => ?_) (fun h3 => ?_)
 ·replace H:=ift h3 H
  refine z0c ?_
  refine z0b hN rfl ?_
  refine qe rfl ?_
  refine z0q ?_
  cases H
  exact ⟨trivial,.inl rfl,trivial⟩
 ·replace H:=iff_ h3 H
  refine z0l ?_
  refine z0c ?_
  refine z0b hN rfl ?_
  refine qd rfl ?_
  obtain ⟨r4,h5,H⟩:=bnd H
  refine z0a (z0s (z9x a1 [42] r4 h5) ⟨.inl rfl,.inl rfl,trivial⟩) ?_
  refine qd rfl ?_
  refine z0a (z2d rfl rfl) ?_
  refine z0a (z2d rfl rfl) ?_
  refine qe rfl ?_
  refine qe rfl ?_
  refine z0z (ι:=Bool) (fun i=>[(4,.dat (z02 i))]) (fun i=>[]) (fun i=>z6p i=some r) (fun i=>rfl) ?_ ?_
  ·skip
   refine z0b hN rfl ?_
   refine qd rfl ?_
   refine qd rfl ?_
   refine z04 (j:=1) rfl rfl (fun h6 => ?_) (fun h6 => ?_) rfl
   ·have h7:=un1 h6
    replace H:=ift h7 H
    refine z0m rfl rfl h6 (z0h (.dat _) rfl) ?_
    refine z0m rfl rfl h6 (z0h (.dat _) rfl) ?_
    obtain ⟨r8,h9,H⟩:=bnd H
    refine z0m rfl rfl h6 (z0s (z9w b2 r4.1 r8 h9) ⟨.inl rfl,.inl rfl,trivial⟩) ?_
    refine z0a (z0t rfl (bTT h7) rfl) ?_
    refine qe rfl ?_
    exact ⟨r8,H,⟨rfl,trivial⟩,trivial⟩
   ·have h10:=un2 h6
    replace H:=iff_ h10 H
    refine z0e rfl rfl h6 ?_
    refine z0e rfl rfl h6 ?_
    refine z0e rfl rfl h6 ?_
    refine z0a (z0o rfl (bFF h10) rfl) ?_
    refine qe rfl ?_
    exact ⟨false,H,⟨rfl,trivial⟩,trivial⟩
  ·rintro v11 H
   replace H:z6p v11=some r:=H
   unfold z6p at H
   refine z0q ?_
   cases H
   exact ⟨trivial,.inl rfl,trivial⟩
theorem y2g (h1:Bs) (c2:Bs) (r:(Bool)) (H:z6r h1 c2=some r):Fn Tryz.prog 68 [vstr h1,y2a [[vstr c2]] 0 0] (z2f [z02 r]):=by
 refine ⟨by kernel_rfl,z2a (us:=[z02 r]) Tryz.func68 rfl rfl rfl rfl fun X hN => ?_⟩
 unfold z6r at H
 refine z0c ?_
 refine z0b hN rfl ?_
 refine qe rfl ?_
 refine z0z (ι:=Bool) (fun i=>[(3,.dat (z02 i))]) (fun i=>[]) (fun i=>z5h i=some r) (fun i=>rfl) ?_ ?_
 ·skip
  refine z0b hN rfl ?_
  refine qd rfl ?_
  refine z0a (z1b tyS9 rfl rfl rfl) ?_
  refine z0a (z7d rfl rfl) ?_
  refine qd rfl ?_
  refine z04 (j:=3) rfl rfl (fun h3 => ?_) (fun h3 => ?_) rfl
  ·have h4:=un1 h3
   replace H:=ift h4 H
   refine z0m rfl rfl h3 (z0h (.dat _) rfl) ?_
   refine z0m rfl rfl h3 (z1b tyS9 rfl rfl rfl) ?_
   obtain ⟨r5,h6,H⟩:=bnd H
   refine z0m rfl rfl h3 (z0s (y32 h1 c2 r5 h6) ⟨.inl rfl,.inl rfl,trivial⟩) ?_
   refine z0a (z0t rfl (bTT h4) rfl) ?_
   refine qe rfl ?_
   exact ⟨r5,H,⟨rfl,trivial⟩,trivial⟩
  ·have h7:=un2 h3
   replace H:=iff_ h7 H
   refine z0e rfl rfl h3 ?_
   refine z0e rfl rfl h3 ?_
   refine z0e rfl rfl h3 ?_
   refine z0a (z0o rfl (bFF h7) rfl) ?_
   refine qe rfl ?_
   exact ⟨false,H,⟨rfl,trivial⟩,trivial⟩
 ·rintro v8 H
  replace H:z5h v8=some r:=H
  unfold z5h at H
  refine z0q ?_
  cases H
  exact ⟨trivial,.inl rfl,trivial⟩
theorem y3s (s1:Bs) (c2:(List Bs)) (r:(Bool)) (H:z7j s1 c2=some r):Fn Tryz.prog 67 [vstr s1,y2a [[vlst (List.map z0j c2)]] 0 0] (z2f [z02 r]):=by
 refine ⟨by kernel_rfl,z2a (us:=[z02 r]) Tryz.func67 rfl rfl rfl rfl fun X hN => ?_⟩
 unfold z7j at H
 refine z0c ?_
 refine z0b hN rfl ?_
 refine z0k (y71 1 rfl rfl) rfl ?_
 refine qe rfl ?_
 refine z0c ?_
 refine y5m 1 [vstr s1] rfl rfl ?_
 refine z0b hN rfl ?_
 refine z0a (z1b z6w rfl rfl rfl) ?_
 refine z0a (y42 (us:=[_]) ⟨rfl,trivial⟩) ?_
 obtain ⟨r3,h4,H⟩:=bnd H
 refine z0a (z0s (z33 c2 (fun (a0:Bs)=>z6r a0 s1) 68 [y2a [[vstr s1]] 0 0] (fun a0 r h=>y2g a0 s1 r h) r3 h4) ⟨.inl rfl,.inl rfl,trivial⟩) ?_
 refine qe rfl ?_
 refine z0q ?_
 cases H
 exact ⟨trivial,.inl rfl,trivial⟩
theorem y5a (l1:(List Bs)) (r:((List Bs))) (H:z8g l1=some r):Fn Tryz.prog 41 [vlst (List.map z0j l1)] (z2f [vlst (List.map z0j r)]):=by
 refine ⟨by kernel_rfl,z2a (us:=[vlst (List.map z0j r)]) Tryz.func41 rfl rfl rfl rfl fun X hN => ?_⟩
 unfold z8g at H
 refine z0c ?_
 refine z0b hN rfl ?_
 refine z0k (y71 1 rfl rfl) rfl ?_
 refine qe rfl ?_
 refine z0c ?_
 refine z0b hN rfl ?_
 refine z0u (z0r z6w rfl rfl) rfl ?_
 obtain ⟨r2,h3,H⟩:=bnd H
 refine z0a (z0s (y6d l1 r2 h3) ⟨.inl rfl,trivial⟩) ?_
 refine z0k (z1g z6w rfl rfl rfl rfl) rfl ?_
 refine z0c ?_
 refine y5m 1 [vlst (List.map z0j r2)] rfl rfl ?_
 refine z0b hN rfl ?_
 refine z0a (z1b z6w rfl rfl rfl) ?_
 obtain ⟨r4,h5,H⟩:=bnd H
 refine z8t (rn [(900,2)]) [] [(900,_)] (z6j r2 r4 h5) ⟨rfl,trivial⟩ ⟨.inl (.inl rfl),trivial⟩ trivial rfl ?_
 refine z0a (y42 (us:=[_]) ⟨rfl,trivial⟩) ?_
 obtain ⟨r6,h7,H⟩:=bnd H
 refine z8t (rn [(0,2),(900,3)]) [(0,_,_,none)] [(900,_)] (z7v r4 (fun (a0:Bs)=>z7j a0 r2) 67 [y2a [[vlst (List.map z0j r2)]] 0 0] (fun a0 r h=>y3s a0 r2 r h) r6 h7) ⟨rfl,rfl,trivial⟩ ⟨.inl (.inl rfl),.inl (.inl rfl),trivial⟩ ⟨⟨⟨rfl,rfl,rfl⟩,trivial⟩,trivial⟩ rfl ?_
 refine z0a (z2i (.row _ _) rfl) ?_
 refine z0q ?_
 cases H
 exact ⟨trivial,y40 rfl rfl,trivial⟩
theorem z32 (s1:(List Bs)) (s2:(List Bs)) (r:(Bool)) (H:z1h s1 s2=some r):Fn Tryz.prog 40 [vlst (List.map z0j s1),vlst (List.map z0j s2)] (z2f [z02 r]):=by
 refine ⟨by kernel_rfl,z2a (us:=[z02 r]) Tryz.func40 rfl rfl rfl rfl fun X hN => ?_⟩
 unfold z1h at H
 refine z0c ?_
 refine z0b hN rfl ?_
 refine qe rfl ?_
 refine z0c ?_
 refine z0c ?_
 refine z0b hN rfl ?_
 refine qd rfl ?_
 refine z0a (z6g z6n rfl) ?_
 refine qd rfl ?_
 refine z0a (z6g z6n rfl) ?_
 refine z0a (z8o rfl rfl) ?_
 refine z0i _ rfl (fun h3 => ?_) (fun h3 => ?_)
 ·replace H:=ift h3 H
  refine z0c ?_
  refine z0b hN rfl ?_
  refine qe rfl ?_
  refine z0q ?_
  cases H
  exact ⟨trivial,.inl rfl,trivial⟩
 ·replace H:=iff_ h3 H
  refine z0l ?_
  refine z0c ?_
  refine z0c ?_
  refine z0b hN rfl ?_
  refine qd rfl ?_
  refine z0a (z6g z6n rfl) ?_
  refine qd rfl ?_
  refine z01 ?_
  obtain ⟨h6,H⟩:=gif H
  refine z64 (fun (k4:Nat) (s:Unit)=>[(0,.dat (vlst (List.map z0j s1))),(1,.dat (vlst (List.map z0j s2))),(12,.dat (vint (s1.length:Int))),(13,.dat (vint (k4:Int)))]) (fun (k4:Nat) (s:Unit)=>[]) () H ⟨rfl,rfl,rfl,rfl,trivial⟩ trivial (fun _ _=>rfl) ?_ ?_
  ·rintro ⟨⟩ H
   replace H:z41=some r:=H
   unfold z41 at H
   refine z0c ?_
   refine z0b hN rfl ?_
   refine z0a (z1i rfl rfl) ?_
   refine z0c ?_
   refine z0i _ rfl (fun h=>(lt_t h).elim) (fun h => ?_)
   refine z34 ?_
   refine z0c ?_
   refine z0b hN rfl ?_
   refine qe rfl ?_
   refine z0q ?_
   cases H
   exact ⟨trivial,.inl rfl,trivial⟩
  ·rintro k4 x7 ⟨⟩ q5 h8 h9 H hq5
   replace H:z3v s2 k4 x7=some q5:=H
   unfold z3v at H
   refine z0c ?_
   refine z0b hN rfl ?_
   refine z0a (z1i rfl rfl) ?_
   refine z0c ?_
   refine z0i _ rfl (fun h => ?_) (fun h=>(lt_f h8 h).elim)
   refine z0l ?_
   refine z0c ?_
   refine z01 ?_
   refine z0c ?_
   refine z0b hN rfl ?_
   refine qd rfl ?_
   refine qe rfl ?_
   refine z0c ?_
   refine z5v mixed hN rfl rfl ?_
   refine qd rfl ?_
   refine qd rfl ?_
   refine z0a (z93 z7t (fun _=>rfl) rfl rfl h9) ?_
   refine z0a (z1b tyS9 rfl (z5q h9) rfl) ?_
   refine qd rfl ?_
   refine qd rfl ?_
   obtain ⟨x10,h11,H⟩:=bnd H
   refine z0a (z93 z7t (fun _=>rfl) rfl rfl h11) ?_
   refine z0a (z1b tyS9 rfl (z5q h11) rfl) ?_
   refine z0a (z7d rfl rfl) ?_
   refine ⟨rfl,?_⟩
   refine z0i _ rfl (fun h12 => ?_) (fun h12 => ?_)
   ·replace H:=ift h12 H
    refine z0c ?_
    refine z0b hN rfl ?_
    refine qe rfl ?_
    refine z0q ?_
    replace H:=retl H hq5
    cases H
    exact ⟨trivial,.inl rfl,trivial⟩
   ·replace H:=iff_ h12 H
    refine z0l ?_
    refine z0b hN rfl ?_
    refine z0a (z6q rfl rfl (by omega)) ?_
    refine qd rfl ?_
    exact ⟨_,z9j H,⟨rfl,rfl,rfl,rfl,trivial⟩,trivial⟩
theorem z8a (v1:z0f) (r:(Int)) (H:z3y v1=some r):Fn Tryz.prog 11 [vagg (z0w v1)] (z2f [vint r]):=by
 refine ⟨by kernel_rfl,z2a (us:=[vint r]) Tryz.func11 rfl rfl rfl rfl fun X hN => ?_⟩
 unfold z3y at H
 refine z0c ?_
 refine z0b hN rfl ?_
 refine z0k (z9d 1 rfl) rfl ?_
 refine qe rfl ?_
 refine z0c ?_
 refine z0z (ι:=Bool) (fun i=>[(1,.ptr 1 0),(31,.dat (z02 i))]) (fun i=>[(1,.box none 28 [.dat (vstr v1.Id),.dat (vstr v1.Subject),.dat (vstr v1.Issuer),.dat (vstr v1.Parent),.dat (vlst (List.map z0j v1.Audience)),.dat (vlst (List.map z0j v1.Scopes)),.dat (vint v1.From),.dat (vint v1.To)])]) (fun i=>z15 v1 i=some r) (fun i=>rfl) ?_ ?_
 ·skip
  refine z0b hN rfl ?_
  refine z0a (z0n y0o rfl) ?_
  refine z0u (z0r tyS9 rfl rfl) rfl ?_
  obtain ⟨r2,h3,H⟩:=bnd H
  refine z0a (z0s (z8p v1.Id r2 h3) ⟨.inl rfl,trivial⟩) ?_
  refine z0a (z4x rfl) ?_
  refine qd rfl ?_
  refine z04 (j:=4) rfl rfl (fun h4 => ?_) (fun h4 => ?_) rfl
  ·have h5:=un3 h4
   replace H:=iff_ h5 H
   refine z0m rfl rfl h4 (z0n y0n rfl) ?_
   refine z8f rfl rfl h4 (z0r tyS9 rfl rfl) rfl ?_
   obtain ⟨r6,h7,H⟩:=bnd H
   refine z0m rfl rfl h4 (z0s (z8p v1.Subject r6 h7) ⟨.inl rfl,trivial⟩) ?_
   refine z0m rfl rfl h4 (z4x rfl) ?_
   refine z0a (z0o rfl (bFF h5) rfl) ?_
   refine qd rfl ?_
   refine z04 (j:=10) rfl rfl (fun h8 => ?_) (fun h8 => ?_) rfl
   ·have h9:=un3 h8
    replace H:=iff_ h9 H
    refine z0m rfl rfl h8 (z0n y0m rfl) ?_
    refine z8f rfl rfl h8 (z0r tyS9 rfl rfl) rfl ?_
    obtain ⟨r10,h11,H⟩:=bnd H
    refine z0m rfl rfl h8 (z0s (z8p v1.Issuer r10 h11) ⟨.inl rfl,trivial⟩) ?_
    refine z0m rfl rfl h8 (z4x rfl) ?_
    refine z0a (z0o rfl (bFF h9) rfl) ?_
    refine qd rfl ?_
    refine z04 (j:=16) rfl rfl (fun h12 => ?_) (fun h12 => ?_) rfl
    ·have h13:=un3 h12
     replace H:=iff_ h13 H
     refine z0m rfl rfl h12 (z0n z8n rfl) ?_
     refine z8f rfl rfl h12 (z0r tyS9 rfl rfl) rfl ?_
     refine z0m rfl rfl h12 (z7d rfl rfl) ?_
     refine z0m rfl rfl h12 (z0h (.dat _) rfl) ?_
     refine z04 (j:=20) rfl rfl (fun h14 => ?_) (fun h14 => ?_) rfl
     ·have h15:=un1 h14
      replace H:=ift h15 H
      refine z0m rfl rfl h14 (z0n z8n rfl) ?_
      refine z8f rfl rfl h14 (z0r tyS9 rfl rfl) rfl ?_
      obtain ⟨r16,h17,H⟩:=bnd H
      refine z0m rfl rfl h14 (z0s (z8p v1.Parent r16 h17) ⟨.inl rfl,trivial⟩) ?_
      refine z0m rfl rfl h14 (z4x rfl) ?_
      refine z0m rfl rfl h12 (z0t rfl (bTT h15) rfl) ?_
      refine z0a (z0o rfl (bFF h13) rfl) ?_
      exact ⟨!r16,H,⟨rfl,rfl,trivial⟩,⟨rfl,trivial⟩⟩
     ·have h18:=un2 h14
      replace H:=iff_ h18 H
      refine z0e rfl rfl h14 ?_
      refine z0e rfl rfl h14 ?_
      refine z0e rfl rfl h14 ?_
      refine z0e rfl rfl h14 ?_
      refine z0m rfl rfl h12 (z0o rfl (bFF h18) rfl) ?_
      refine z0a (z0o rfl (bFF h13) rfl) ?_
      exact ⟨false,H,⟨rfl,rfl,trivial⟩,⟨rfl,trivial⟩⟩
    ·have h19:=un4 h12
     replace H:=ift h19 H
     refine z0e rfl rfl h12 ?_
     refine z0e rfl rfl h12 ?_
     refine z0e rfl rfl h12 ?_
     refine z0e rfl rfl h12 ?_
     refine z00 rfl rfl ?_
     refine z00 rfl rfl ?_
     refine z00 rfl rfl ?_
     refine z00 rfl rfl ?_
     refine z0e rfl rfl h12 ?_
     refine z0a (z0t rfl (bTT h19) rfl) ?_
     exact ⟨true,H,⟨rfl,rfl,trivial⟩,⟨rfl,trivial⟩⟩
   ·have h20:=un4 h8
    replace H:=ift h20 H
    refine z0e rfl rfl h8 ?_
    refine z0e rfl rfl h8 ?_
    refine z0e rfl rfl h8 ?_
    refine z0e rfl rfl h8 ?_
    refine z0a (z0t rfl (bTT h20) rfl) ?_
    refine qd rfl ?_
    refine z0e rfl rfl rfl ?_
    refine z0e rfl rfl rfl ?_
    refine z0e rfl rfl rfl ?_
    refine z0e rfl rfl rfl ?_
    refine z00 rfl rfl ?_
    refine z00 rfl rfl ?_
    refine z00 rfl rfl ?_
    refine z00 rfl rfl ?_
    refine z0e rfl rfl rfl ?_
    refine z0a (z0t rfl rfl rfl) ?_
    exact ⟨true,H,⟨rfl,rfl,trivial⟩,⟨rfl,trivial⟩⟩
  ·have h21:=un4 h4
   replace H:=ift h21 H
   refine z0e rfl rfl h4 ?_
   refine z0e rfl rfl h4 ?_
   refine z0e rfl rfl h4 ?_
   refine z0e rfl rfl h4 ?_
   refine z0a (z0t rfl (bTT h21) rfl) ?_
   refine qd rfl ?_
   refine z0e rfl rfl rfl ?_
   refine z0e rfl rfl rfl ?_
   refine z0e rfl rfl rfl ?_
   refine z0e rfl rfl rfl ?_
   refine z0a (z0t rfl rfl rfl) ?_
   refine qd rfl ?_
   refine z0e rfl rfl rfl ?_
   refine z0e rfl rfl rfl ?_
   refine z0e rfl rfl rfl ?_
   refine z0e rfl rfl rfl ?_
   refine z00 rfl rfl ?_
   refine z00 rfl rfl ?_
   refine z00 rfl rfl ?_
   refine z00 rfl rfl ?_
   refine z0e rfl rfl rfl ?_
   refine z0a (z0t rfl rfl rfl) ?_
   exact ⟨true,H,⟨rfl,rfl,trivial⟩,⟨rfl,trivial⟩⟩
 ·rintro v22 H
  replace H:z15 v1 v22=some r:=H
  unfold z15 at H
  refine z0i _ rfl (fun h23 => ?_) (fun h23 => ?_)
  ·replace H:=ift h23 H
   refine z0c ?_
   refine z0b hN rfl ?_
   refine qe rfl ?_
   refine z0q ?_
   cases H
   exact ⟨trivial,.inl rfl,trivial⟩
  ·replace H:=iff_ h23 H
   refine z0l ?_
   refine z0c ?_
   refine z0c ?_
   refine z0b hN rfl ?_
   refine z0a (z0n z8c rfl) ?_
   refine z0u (z0r z6w rfl rfl) rfl ?_
   refine z0a (z6g z6n rfl) ?_
   refine z0a (z4y rfl rfl) ?_
   refine z0i _ rfl (fun h24 => ?_) (fun h24 => ?_)
   ·replace H:=ift h24 H
    refine z0c ?_
    refine z0b hN rfl ?_
    refine qe rfl ?_
    refine z0q ?_
    cases H
    exact ⟨trivial,.inl rfl,trivial⟩
   ·replace H:=iff_ h24 H
    refine z0l ?_
    refine z0c ?_
    refine z0c ?_
    refine z0b hN rfl ?_
    refine z0a (z0n z8c rfl) ?_
    refine z0u (z0r z6w rfl rfl) rfl ?_
    obtain ⟨r25,h26,H⟩:=bnd H
    refine z0a (z0s (y2j v1.Audience r25 h26) ⟨.inl rfl,trivial⟩) ?_
    refine qe rfl ?_
    refine z0c ?_
    refine z0b hN rfl ?_
    refine qd rfl ?_
    refine z0a (z8o rfl rfl) ?_
    refine z0i _ rfl (fun h27 => ?_) (fun h27 => ?_)
    ·replace H:=ift h27 H
     refine z0c ?_
     refine z0b hN rfl ?_
     refine qd rfl ?_
     refine qe rfl ?_
     refine z0q ?_
     cases H
     exact ⟨trivial,.inl rfl,trivial⟩
    ·replace H:=iff_ h27 H
     refine z0l ?_
     refine z0c ?_
     refine z0c ?_
     refine z0b hN rfl ?_
     refine z0a (z0n z78 rfl) ?_
     refine z0u (z0r z6w rfl rfl) rfl ?_
     obtain ⟨r28,h29,H⟩:=bnd H
     refine z0a (z0s (y1o v1.Scopes r28 h29) ⟨.inl rfl,trivial⟩) ?_
     refine qe rfl ?_
     refine z0c ?_
     refine z0b hN rfl ?_
     refine qd rfl ?_
     refine z0a (z8o rfl rfl) ?_
     refine z0i _ rfl (fun h30 => ?_) (fun h30 => ?_)
     ·replace H:=ift h30 H
      refine z0c ?_
      refine z0b hN rfl ?_
      refine qd rfl ?_
      refine qe rfl ?_
      refine z0q ?_
      cases H
      exact ⟨trivial,.inl rfl,trivial⟩
     ·replace H:=iff_ h30 H
      refine z0l ?_
      refine z0c ?_
      refine z0c ?_
      refine z5v mixed hN rfl rfl ?_
      refine z0a (z0n z78 rfl) ?_
      refine z0u (z0r z6w rfl rfl) rfl ?_
      refine z0a (z0n z78 rfl) ?_
      refine z0u (z0r z6w rfl rfl) rfl ?_
      obtain ⟨r31,h32,H⟩:=bnd H
      refine z0a (z0s (y5a v1.Scopes r31 h32) ⟨.inl rfl,trivial⟩) ?_
      obtain ⟨r33,h34,H⟩:=bnd H
      refine z0a (z0s (z32 v1.Scopes r31 r33 h34) ⟨.inl rfl,.inl rfl,trivial⟩) ?_
      refine z0a (z4x rfl) ?_
      refine ⟨rfl,?_⟩
      refine z0i _ rfl (fun h35 => ?_) (fun h35 => ?_)
      ·replace H:=ift h35 H
       refine z0c ?_
       refine z0b hN rfl ?_
       refine qe rfl ?_
       refine z0q ?_
       cases H
       exact ⟨trivial,.inl rfl,trivial⟩
      ·replace H:=iff_ h35 H
       refine z0l ?_
       refine z0c ?_
       refine z0c ?_
       refine z0b hN rfl ?_
       refine z0a (z0n z85 rfl) ?_
       refine z0u (z0r tyS3 rfl rfl) rfl ?_
       refine z0a (z1i rfl rfl) ?_
       refine qd rfl ?_
       refine z43 rfl rfl (fun hc=>z0n z85 rfl) ?_
       refine y0s rfl rfl (fun hc=>z0r tyS3 (cnd (c:=(!(decide (v1.From < 0)))) hc) rfl) rfl y4s ?_
       refine z43 rfl rfl (fun hc=>z0n z84 rfl) ?_
       refine y0s rfl rfl (fun hc=>z0r tyS3 (cnd (c:=(!(decide (v1.From < 0)))) hc) rfl) rfl y4s ?_
       refine z43 rfl rfl (fun hc=>z8e (cnd (c:=(!(decide (v1.From < 0)))) hc) (cnd (c:=(!(decide (v1.From < 0)))) hc)) ?_
       refine z0a (z4q rfl rfl (fun hb=>(cnd (c:=(!(decide (v1.From < 0)))) (notI hb)))) ?_
       refine qd rfl ?_
       refine z43 rfl rfl (fun hc=>z0n z84 rfl) ?_
       refine y0s rfl rfl (fun hc=>z0r tyS3 (cnd (c:=(!((decide (v1.From < 0)) || (decide (v1.To≤v1.From))))) hc) rfl) rfl y4s ?_
       refine z43 rfl rfl (fun hc=>z4y (cnd (c:=(!((decide (v1.From < 0)) || (decide (v1.To≤v1.From))))) hc) rfl) ?_
       refine z0a (z4q rfl rfl (fun hb=>(cnd (c:=(!((decide (v1.From < 0)) || (decide (v1.To≤v1.From))))) (notI hb)))) ?_
       refine z0i _ rfl (fun h36 => ?_) (fun h36 => ?_)
       ·replace H:=ift h36 H
        refine z0c ?_
        refine z0b hN rfl ?_
        refine qe rfl ?_
        refine z0q ?_
        cases H
        exact ⟨trivial,.inl rfl,trivial⟩
       ·replace H:=iff_ h36 H
        refine z0l ?_
        refine z0c ?_
        refine z0b hN rfl ?_
        refine qe rfl ?_
        refine z0q ?_
        cases H
        exact ⟨trivial,.inl rfl,trivial⟩
theorem y12 (v1:z0f) (r:(Bs×Int)) (H:z4r v1=some r):Fn Tryz.prog 7 [vagg (z0w v1)] (z2f [vstr r.1,vint r.2]):=by
 refine ⟨by kernel_rfl,z2a (us:=[vstr r.1,vint r.2]) Tryz.func7 rfl rfl rfl rfl fun X hN => ?_⟩
 unfold z4r at H
 refine z0c ?_
 refine z0b hN rfl ?_
 refine z0k (z9d 1 rfl) rfl ?_
 refine qe rfl ?_
 refine qe rfl ?_
 refine z0c ?_
 refine z0c ?_
 refine z0b hN rfl ?_
 refine z0u (z5p z6c rfl rfl rfl) rfl ?_
 obtain ⟨r2,h3,H⟩:=bnd H
 refine z0a (z0s (z8a v1 r2 h3) ⟨.inl rfl,trivial⟩) ?_
 refine qe rfl ?_
 refine z0c ?_
 refine z0b hN rfl ?_
 refine qd rfl ?_
 refine z0a (z8o rfl rfl) ?_
 refine z0i _ rfl (fun h4 => ?_) (fun h4 => ?_)
 ·replace H:=ift h4 H
  refine z0c ?_
  refine z0b hN rfl ?_
  refine qd rfl ?_
  refine qe rfl ?_
  refine qe rfl ?_
  refine z0q ?_
  cases H
  exact ⟨trivial,.inl rfl,.inl rfl,trivial⟩
 ·replace H:=iff_ h4 H
  refine z0l ?_
  refine z0c ?_
  refine z0b hN rfl ?_
  refine z0a (z0n y0o rfl) ?_
  refine z0u (z0r tyS9 rfl rfl) rfl ?_
  obtain ⟨h5,H⟩:=gif H
  refine z0a (z18 rfl rfl (Nat.le_trans h5 (by decide))) ?_
  obtain ⟨h6,H⟩:=gif H
  refine z0a (z18 rfl rfl (Nat.le_trans h6 (by decide))) ?_
  refine z0a (z0n y0n rfl) ?_
  refine z0u (z0r tyS9 rfl rfl) rfl ?_
  obtain ⟨h7,H⟩:=gif H
  refine z0a (z18 rfl rfl (Nat.le_trans h7 (by decide))) ?_
  obtain ⟨h8,H⟩:=gif H
  refine z0a (z18 rfl rfl (Nat.le_trans h8 (by decide))) ?_
  refine z0a (z0n y0m rfl) ?_
  refine z0u (z0r tyS9 rfl rfl) rfl ?_
  obtain ⟨h9,H⟩:=gif H
  refine z0a (z18 rfl rfl (Nat.le_trans h9 (by decide))) ?_
  obtain ⟨h10,H⟩:=gif H
  refine z0a (z18 rfl rfl (Nat.le_trans h10 (by decide))) ?_
  refine qe rfl ?_
  refine z0z (ι:=Bs) (fun i=>[(1,.ptr 1 0),(5,.dat (vstr i))]) (fun i=>[(1,.box none 28 [.dat (vstr v1.Id),.dat (vstr v1.Subject),.dat (vstr v1.Issuer),.dat (vstr v1.Parent),.dat (vlst (List.map z0j v1.Audience)),.dat (vlst (List.map z0j v1.Scopes)),.dat (vint v1.From),.dat (vint v1.To)])]) (fun i=>z3x v1 i=some r) (fun i=>rfl) ?_ ?_
  ·skip
   refine z0c ?_
   refine z0b hN rfl ?_
   refine z0a (z0n z8n rfl) ?_
   refine z0u (z0r tyS9 rfl rfl) rfl ?_
   refine z0a (z7d rfl rfl) ?_
   refine z0i _ rfl (fun h11 => ?_) (fun h11 => ?_)
   ·replace H:=ift h11 H
    refine z0b hN rfl ?_
    refine qd rfl ?_
    refine z0a (z0n z8n rfl) ?_
    refine z0u (z0r tyS9 rfl rfl) rfl ?_
    obtain ⟨h12,H⟩:=gif H
    refine z0a (z18 rfl rfl (Nat.le_trans h12 (by decide))) ?_
    obtain ⟨h13,H⟩:=gif H
    refine z0a (z18 rfl rfl (Nat.le_trans h13 (by decide))) ?_
    obtain ⟨h14,H⟩:=gif H
    refine z0a (z18 rfl rfl (Nat.le_trans h14 (by decide))) ?_
    refine qe rfl ?_
    exact ⟨((((((([105,100,32]++v1.Id)++[10,115,117,98,106,101,99,116,32])++v1.Subject)++[10,105,115,115,117,101,114,32])++v1.Issuer)++[10])++(([112,97,114,101,110,116,32]++v1.Parent)++[10])),H,⟨rfl,rfl,trivial⟩,⟨rfl,trivial⟩⟩
   ·replace H:=iff_ h11 H
    refine z0l ?_
    exact ⟨(((((([105,100,32]++v1.Id)++[10,115,117,98,106,101,99,116,32])++v1.Subject)++[10,105,115,115,117,101,114,32])++v1.Issuer)++[10]),H,⟨rfl,rfl,trivial⟩,⟨rfl,trivial⟩⟩
  ·rintro v15 H
   replace H:z3x v1 v15=some r:=H
   unfold z3x at H
   refine z0z (ι:=Bs) (fun i=>[(1,.ptr 1 0),(5,.dat (vstr i))]) (fun i=>[(1,.box none 28 [.dat (vstr v1.Id),.dat (vstr v1.Subject),.dat (vstr v1.Issuer),.dat (vstr v1.Parent),.dat (vlst (List.map z0j v1.Audience)),.dat (vlst (List.map z0j v1.Scopes)),.dat (vint v1.From),.dat (vint v1.To)])]) (fun i=>z4f v1 i=some r) (fun i=>rfl) ?_ ?_
   ·skip
    refine z0c ?_
    refine z0b hN rfl ?_
    refine z0a (z0n z8c rfl) ?_
    refine z0u (z0r z6w rfl rfl) rfl ?_
    refine z0a (z6g z6n rfl) ?_
    refine z0a (z4y rfl rfl) ?_
    refine z0i _ rfl (fun h16 => ?_) (fun h16 => ?_)
    ·replace H:=ift h16 H
     refine z0b hN rfl ?_
     refine qd rfl ?_
     refine z0a (z0n z8c rfl) ?_
     refine z0u (z0r z6w rfl rfl) rfl ?_
     obtain ⟨r17,h18,H⟩:=bnd H
     refine z0a (z0s (z71 v1.Audience [32] r17 h18) ⟨.inl rfl,.inl rfl,trivial⟩) ?_
     obtain ⟨h19,H⟩:=gif H
     refine z0a (z18 rfl rfl (Nat.le_trans h19 (by decide))) ?_
     obtain ⟨h20,H⟩:=gif H
     refine z0a (z18 rfl rfl (Nat.le_trans h20 (by decide))) ?_
     obtain ⟨h21,H⟩:=gif H
     refine z0a (z18 rfl rfl (Nat.le_trans h21 (by decide))) ?_
     refine qe rfl ?_
     exact ⟨(v15++(([102,111,114,32]++r17)++[10])),H,⟨rfl,rfl,trivial⟩,⟨rfl,trivial⟩⟩
    ·replace H:=iff_ h16 H
     refine z0l ?_
     exact ⟨v15,H,⟨rfl,rfl,trivial⟩,⟨rfl,trivial⟩⟩
   ·rintro v22 H
    replace H:z4f v1 v22=some r:=H
    unfold z4f at H
    refine z0z (ι:=Bs) (fun i=>[(1,.ptr 1 0),(5,.dat (vstr i))]) (fun i=>[(1,.box none 28 [.dat (vstr v1.Id),.dat (vstr v1.Subject),.dat (vstr v1.Issuer),.dat (vstr v1.Parent),.dat (vlst (List.map z0j v1.Audience)),.dat (vlst (List.map z0j v1.Scopes)),.dat (vint v1.From),.dat (vint v1.To)])]) (fun i=>z23 v1 i=some r) (fun i=>rfl) ?_ ?_
    ·skip
     refine z0c ?_
     refine z0b hN rfl ?_
     refine z0a (z0n z78 rfl) ?_
     refine z0u (z0r z6w rfl rfl) rfl ?_
     refine z0a (z6g z6n rfl) ?_
     refine z0a (z4y rfl rfl) ?_
     refine z0i _ rfl (fun h23 => ?_) (fun h23 => ?_)
     ·replace H:=ift h23 H
      refine z0b hN rfl ?_
      refine qd rfl ?_
      refine z0a (z0n z78 rfl) ?_
      refine z0u (z0r z6w rfl rfl) rfl ?_
      obtain ⟨r24,h25,H⟩:=bnd H
      refine z0a (z0s (z71 v1.Scopes [32] r24 h25) ⟨.inl rfl,.inl rfl,trivial⟩) ?_
      obtain ⟨h26,H⟩:=gif H
      refine z0a (z18 rfl rfl (Nat.le_trans h26 (by decide))) ?_
      obtain ⟨h27,H⟩:=gif H
      refine z0a (z18 rfl rfl (Nat.le_trans h27 (by decide))) ?_
      obtain ⟨h28,H⟩:=gif H
      refine z0a (z18 rfl rfl (Nat.le_trans h28 (by decide))) ?_
      refine qe rfl ?_
      exact ⟨(v22++(([109,97,121,32]++r24)++[10])),H,⟨rfl,rfl,trivial⟩,⟨rfl,trivial⟩⟩
     ·replace H:=iff_ h23 H
      refine z0l ?_
      exact ⟨v22,H,⟨rfl,rfl,trivial⟩,⟨rfl,trivial⟩⟩
    ·rintro v29 H
     replace H:z23 v1 v29=some r:=H
     unfold z23 at H
     refine z0c ?_
     refine z5v mixed hN rfl rfl ?_
     refine qd rfl ?_
     refine z0a (z0n z85 rfl) ?_
     refine z0u (z0r tyS3 rfl rfl) rfl ?_
     obtain ⟨r30,h31,H⟩:=bnd H
     refine z0a (z0s (z73 v1.From r30 h31) ⟨.inl rfl,trivial⟩) ?_
     obtain ⟨h32,H⟩:=gif H
     refine z0a (z18 rfl rfl (Nat.le_trans h32 (by decide))) ?_
     obtain ⟨h33,H⟩:=gif H
     refine z0a (z18 rfl rfl (Nat.le_trans h33 (by decide))) ?_
     refine z0a (z0n z84 rfl) ?_
     refine z0u (z0r tyS3 rfl rfl) rfl ?_
     obtain ⟨r34,h35,H⟩:=bnd H
     refine z0a (z0s (z73 v1.To r34 h35) ⟨.inl rfl,trivial⟩) ?_
     obtain ⟨h36,H⟩:=gif H
     refine z0a (z18 rfl rfl (Nat.le_trans h36 (by decide))) ?_
     obtain ⟨h37,H⟩:=gif H
     refine z0a (z18 rfl rfl (Nat.le_trans h37 (by decide))) ?_
     obtain ⟨h38,H⟩:=gif H
     refine z0a (z18 rfl rfl (Nat.le_trans h38 (by decide))) ?_
     refine qe rfl ?_
     refine ⟨rfl,?_⟩
     refine z0c ?_
     refine z0c ?_
     refine z0b hN rfl ?_
     refine qd rfl ?_
     refine z0a (z1v tyU9 rfl) ?_
     refine z0a (z4y rfl rfl) ?_
     refine z0i _ rfl (fun h39 => ?_) (fun h39 => ?_)
     ·replace H:=ift h39 H
      refine z0c ?_
      refine z0b hN rfl ?_
      refine qe rfl ?_
      refine qe rfl ?_
      refine z0q ?_
      cases H
      exact ⟨trivial,.inl rfl,.inl rfl,trivial⟩
     ·replace H:=iff_ h39 H
      refine z0l ?_
      refine z0c ?_
      refine z0b hN rfl ?_
      refine qd rfl ?_
      refine qe rfl ?_
      refine qe rfl ?_
      refine z0q ?_
      cases H
      exact ⟨trivial,.inl rfl,.inl rfl,trivial⟩
theorem y5b (n1:Int) (low2:Int) (high3:Int) (r:(Bool)) (H:z9f n1 low2 high3=some r):Fn Tryz.prog 70 [vint n1,vint low2,vint high3] (z2f [z02 r]):=by
 refine ⟨by kernel_rfl,z2a (us:=[z02 r]) Tryz.func70 rfl rfl rfl rfl fun X hN => ?_⟩
 unfold z9f at H
 refine z0c ?_
 refine z0b hN rfl ?_
 refine qe rfl ?_
 refine z0c ?_
 refine z0b hN rfl ?_
 refine qd rfl ?_
 refine qd rfl ?_
 refine z0a (z6z rfl rfl) ?_
 refine qd rfl ?_
 refine z4w rfl rfl (fun hc=>z0h (.dat _) rfl) ?_
 refine z4w rfl rfl (fun hc=>z0h (.dat _) rfl) ?_
 refine z4w rfl rfl (fun hc=>z6z (cnd (c:=(decide (low2≤n1))) hc) (cnd (c:=(decide (low2≤n1))) hc)) ?_
 refine z0a (z1w rfl (fun hb=>(cnd (c:=(decide (low2≤n1))) hb)) rfl) ?_
 refine qe rfl ?_
 refine z0q ?_
 cases H
 exact ⟨trivial,.inl rfl,trivial⟩
theorem y1p (l:Bs) (c r:Int) (H:z79 l c=some r):Fn Tryz.prog 90 [vstr l,vval (.int .u8 c)] (z2f [vint r]):=by
 cases H
 refine y00 (by kernel_rfl) fun M w vs h => ?_
 have h1:=z92 (us:=[.string ⟨l.toArray⟩,.int .u8 c]) h
 subst h1
 refine (Tryz.strings_IndexByte ⟨l.toArray⟩ c w).mono ?_
 rintro e w' ⟨rfl,rfl⟩
 exact ⟨_,rfl,rfl,Kp.refl _ _⟩
theorem z9z (s1:Bs) (some2:Bs) (r:(Bool)) (H:z5d s1 some2=some r):Fn Tryz.prog 71 [vstr s1,vstr some2] (z2f [z02 r]):=by
 refine ⟨by kernel_rfl,z2a (us:=[z02 r]) Tryz.func71 rfl rfl rfl rfl fun X hN => ?_⟩
 unfold z5d at H
 refine z0c ?_
 refine z0b hN rfl ?_
 refine qe rfl ?_
 refine z0c ?_
 refine z0c ?_
 refine z0b hN rfl ?_
 refine qd rfl ?_
 refine z0a (z1v tyU9 rfl) ?_
 refine qd rfl ?_
 refine z01 ?_
 obtain ⟨h5,H⟩:=gif H
 refine z64 (fun (k3:Nat) (s:Unit)=>[(0,.dat (vstr s1)),(1,.dat (vstr some2)),(7,.dat (vint (s1.length:Int))),(8,.dat (vint (k3:Int)))]) (fun (k3:Nat) (s:Unit)=>[]) () H ⟨rfl,rfl,rfl,rfl,trivial⟩ trivial (fun _ _=>rfl) ?_ ?_
 ·rintro ⟨⟩ H
  replace H:z9a=some r:=H
  unfold z9a at H
  refine z0c ?_
  refine z0b hN rfl ?_
  refine z0a (z1i rfl rfl) ?_
  refine z0c ?_
  refine z0i _ rfl (fun h=>(lt_t h).elim) (fun h => ?_)
  refine z34 ?_
  refine z0c ?_
  refine z0b hN rfl ?_
  refine qe rfl ?_
  refine z0q ?_
  cases H
  exact ⟨trivial,.inl rfl,trivial⟩
 ·rintro k3 x6 ⟨⟩ q4 h7 h8 H hq4
  replace H:z77 some2 k3 x6=some q4:=H
  unfold z77 at H
  refine z0c ?_
  refine z0b hN rfl ?_
  refine z0a (z1i rfl rfl) ?_
  refine z0c ?_
  refine z0i _ rfl (fun h => ?_) (fun h=>(lt_f h7 h).elim)
  refine z0l ?_
  refine z0c ?_
  refine z01 ?_
  refine z0c ?_
  refine z0b hN rfl ?_
  refine qd rfl ?_
  refine qe rfl ?_
  refine z0c ?_
  refine z0b hN rfl ?_
  refine qd rfl ?_
  refine qd rfl ?_
  refine qd rfl ?_
  refine z0a (z7s tyU9 rfl rfl h8) ?_
  obtain ⟨r9,h10,H⟩:=bnd H
  refine z0a (z0s (y1p some2 (x6.toNat:Int) r9 h10) ⟨.inl rfl,.inl rfl,trivial⟩) ?_
  refine z0a (z1i rfl rfl) ?_
  refine z0i _ rfl (fun h11 => ?_) (fun h11 => ?_)
  ·replace H:=ift h11 H
   refine z0c ?_
   refine z0b hN rfl ?_
   refine qe rfl ?_
   refine z0q ?_
   replace H:=retl H hq4
   cases H
   exact ⟨trivial,.inl rfl,trivial⟩
  ·replace H:=iff_ h11 H
   refine z0l ?_
   refine z0b hN rfl ?_
   refine z0a (z6q rfl rfl (by omega)) ?_
   refine qd rfl ?_
   exact ⟨_,z9j H,⟨rfl,rfl,rfl,rfl,trivial⟩,trivial⟩
theorem z69 (s1:Bs) (r:(Bool)) (H:z4p s1=some r):Fn Tryz.prog 42 [vstr s1] (z2f [z02 r]):=by
 refine ⟨by kernel_rfl,z2a (us:=[z02 r]) Tryz.func42 rfl rfl rfl rfl fun X hN => ?_⟩
 unfold z4p at H
 refine z0c ?_
 refine z0b hN rfl ?_
 refine qe rfl ?_
 refine z0z (ι:=Bool) (fun i=>[(2,.dat (z02 i))]) (fun i=>[]) (fun i=>z55 i=some r) (fun i=>rfl) ?_ ?_
 ·skip
  refine z0b hN rfl ?_
  refine qd rfl ?_
  refine z0a (z1v tyU9 rfl) ?_
  obtain ⟨r2,h3,H⟩:=bnd H
  refine z0a (z0s (y5b (s1.length:Int) 1 40 r2 h3) ⟨.inl rfl,.inl rfl,.inl rfl,trivial⟩) ?_
  refine qd rfl ?_
  refine z04 (j:=3) rfl rfl (fun h4 => ?_) (fun h4 => ?_) rfl
  ·have h5:=un1 h4
   replace H:=ift h5 H
   refine z0m rfl rfl h4 (z0h (.dat _) rfl) ?_
   obtain ⟨l6,h7,H⟩:=bnd H
   refine z0m rfl rfl h4 (z9b tyU9 rfl rfl rfl h7) ?_
   obtain ⟨r8,h9,H⟩:=bnd H
   refine z0m rfl rfl h4 (z0s (z9z l6 [97,98,99,100,101,102,103,104,105,106,107,108,109,110,111,112,113,114,115,116,117,118,119,120,121,122] r8 h9) ⟨.inl rfl,.inl rfl,trivial⟩) ?_
   refine z0a (z0t rfl (bTT h5) rfl) ?_
   refine qd rfl ?_
   refine z04 (j:=8) rfl rfl (fun h10 => ?_) (fun h10 => ?_) rfl
   ·have h11:=un1 h10
    replace H:=ift h11 H
    refine z0m rfl rfl h10 (z0h (.dat _) rfl) ?_
    obtain ⟨r12,h13,H⟩:=bnd H
    refine z0m rfl rfl h10 (z0s (z9z s1 [97,98,99,100,101,102,103,104,105,106,107,108,109,110,111,112,113,114,115,116,117,118,119,120,121,122,48,49,50,51,52,53,54,55,56,57,45,95] r12 h13) ⟨.inl rfl,.inl rfl,trivial⟩) ?_
    refine z0a (z0t rfl (bTT h11) rfl) ?_
    refine qe rfl ?_
    exact ⟨r12,H,⟨rfl,trivial⟩,trivial⟩
   ·have h14:=un2 h10
    replace H:=iff_ h14 H
    refine z0e rfl rfl h10 ?_
    refine z0e rfl rfl h10 ?_
    refine z0a (z0o rfl (bFF h14) rfl) ?_
    refine qe rfl ?_
    exact ⟨false,H,⟨rfl,trivial⟩,trivial⟩
  ·have h15:=un2 h4
   replace H:=iff_ h15 H
   refine z0e rfl rfl h4 ?_
   refine z0e rfl rfl h4 ?_
   refine z0e rfl rfl h4 ?_
   refine z0a (z0o rfl (bFF h15) rfl) ?_
   refine qd rfl ?_
   refine z0e rfl rfl rfl ?_
   refine z0e rfl rfl rfl ?_
   refine z0a (z0o rfl rfl rfl) ?_
   refine qe rfl ?_
   exact ⟨false,H,⟨rfl,trivial⟩,trivial⟩
 ·rintro v16 H
  replace H:z55 v16=some r:=H
  unfold z55 at H
  refine z0q ?_
  cases H
  exact ⟨trivial,.inl rfl,trivial⟩
theorem y2y (s1:Bs) (r:(Bool)) (H:z67 s1=some r):Fn Tryz.prog 72 [vstr s1] (z2f [z02 r]):=by
 refine ⟨by kernel_rfl,z2a (us:=[z02 r]) Tryz.func72 rfl rfl rfl rfl fun X hN => ?_⟩
 unfold z67 at H
 refine z0c ?_
 refine z0b hN rfl ?_
 refine qe rfl ?_
 refine z0c ?_
 refine z0b hN rfl ?_
 refine qd rfl ?_
 obtain ⟨r2,h3,H⟩:=bnd H
 refine z0a (z0s (z7m s1 [58] r2 h3) ⟨.inl rfl,.inl rfl,trivial⟩) ?_
 refine qe rfl ?_
 refine z0c ?_
 refine z0c ?_
 refine z0b hN rfl ?_
 refine qd rfl ?_
 refine z0a (z6g z6n rfl) ?_
 refine qd rfl ?_
 refine z01 ?_
 obtain ⟨h6,H⟩:=gif H
 refine z64 (fun (k4:Nat) (s:Unit)=>[(3,.dat (vlst (List.map z0j r2))),(8,.dat (vlst (List.map z0j r2))),(9,.dat (vint (r2.length:Int))),(10,.dat (vint (k4:Int)))]) (fun (k4:Nat) (s:Unit)=>[]) () H ⟨rfl,rfl,rfl,rfl,trivial⟩ trivial (fun _ _=>rfl) ?_ ?_
 ·rintro ⟨⟩ H
  replace H:z8r r2=some r:=H
  unfold z8r at H
  refine z0c ?_
  refine z0b hN rfl ?_
  refine z0a (z1i rfl rfl) ?_
  refine z0c ?_
  refine z0i _ rfl (fun h=>(lt_t h).elim) (fun h => ?_)
  refine z34 ?_
  refine z0c ?_
  refine z0b hN rfl ?_
  refine qd rfl ?_
  refine z0a (z6g z6n rfl) ?_
  refine z0a (z6z rfl rfl) ?_
  refine qe rfl ?_
  refine z0q ?_
  cases H
  exact ⟨trivial,.inl rfl,trivial⟩
 ·rintro k4 x7 ⟨⟩ q5 h8 h9 H hq5
  replace H:z7r r2 k4 x7=some q5:=H
  unfold z7r at H
  refine z0c ?_
  refine z0b hN rfl ?_
  refine z0a (z1i rfl rfl) ?_
  refine z0c ?_
  refine z0i _ rfl (fun h => ?_) (fun h=>(lt_f h8 h).elim)
  refine z0l ?_
  refine z0c ?_
  refine z01 ?_
  refine z0c ?_
  refine z0b hN rfl ?_
  refine qd rfl ?_
  refine z0a (z93 z7t (fun _=>rfl) rfl rfl h9) ?_
  refine z0a (z1b tyS9 rfl (z5q h9) rfl) ?_
  refine qe rfl ?_
  refine qe rfl ?_
  refine z0c ?_
  refine z0b hN rfl ?_
  refine qd rfl ?_
  obtain ⟨r10,h11,H⟩:=bnd H
  refine z0a (z0s (z69 x7 r10 h11) ⟨.inl rfl,trivial⟩) ?_
  refine z0a (z4x rfl) ?_
  refine qd rfl ?_
  refine z4w rfl rfl (fun hc=>z0h (.dat _) rfl) ?_
  refine z4w rfl rfl (fun hc=>z7d (cnd (c:=(!r10)) hc) rfl) ?_
  refine z4w rfl rfl (fun hc=>z0h (.dat _) (cnd (c:=(!r10)) hc)) ?_
  refine y1x rfl rfl (fun hc=>z0h (.dat _) rfl) ?_
  refine y1x rfl rfl (fun hc=>z0h (.dat _) rfl) ?_
  refine y1x rfl rfl (fun hc=>z6g z6n (cnd (c:=((!r10) && !(decide (x7≠[42])))) hc)) ?_
  refine y1x rfl rfl (fun hc=>z1l _ (cnd (c:=((!r10) && !(decide (x7≠[42])))) hc) rfl (.inr (.inl ⟨rfl,rfl⟩))) ?_
  refine y1x rfl rfl (fun hc=>z1i (cnd (c:=((!r10) && !(decide (x7≠[42])))) hc) (cnd (c:=((!r10) && !(decide (x7≠[42])))) hc)) ?_
  refine z4w rfl rfl (fun hc=>z4q (cnd (c:=(!r10)) hc) rfl (fun hb=>(cnd (c:=((!r10) && !(decide (x7≠[42])))) (andI hc (notI hb))))) ?_
  refine z0a (z1w rfl (fun hb=>(cnd (c:=(!r10)) hb)) rfl) ?_
  refine z0i _ rfl (fun h12 => ?_) (fun h12 => ?_)
  ·replace H:=ift h12 H
   refine z0c ?_
   refine z0b hN rfl ?_
   refine qe rfl ?_
   refine z0q ?_
   replace H:=retl H hq5
   cases H
   exact ⟨trivial,.inl rfl,trivial⟩
  ·replace H:=iff_ h12 H
   refine z0l ?_
   refine z0b hN rfl ?_
   refine z0a (z6q rfl rfl (by omega)) ?_
   refine qd rfl ?_
   exact ⟨_,z9j H,⟨rfl,rfl,rfl,rfl,trivial⟩,trivial⟩
theorem y01 (l1:(List Bs)) (r:(Int)) (H:z44 l1=some r):Fn Tryz.prog 43 [vlst (List.map z0j l1)] (z2f [vint r]):=by
 refine ⟨by kernel_rfl,z2a (us:=[vint r]) Tryz.func43 rfl rfl rfl rfl fun X hN => ?_⟩
 unfold z44 at H
 refine z0c ?_
 refine z0b hN rfl ?_
 refine qe rfl ?_
 refine z0c ?_
 refine z0c ?_
 refine z0b hN rfl ?_
 refine qd rfl ?_
 refine z0a (z6g z6n rfl) ?_
 refine z0a (z4y rfl rfl) ?_
 refine z0i _ rfl (fun h2 => ?_) (fun h2 => ?_)
 ·replace H:=ift h2 H
  refine z0c ?_
  refine z0b hN rfl ?_
  refine qe rfl ?_
  refine z0q ?_
  cases H
  exact ⟨trivial,.inl rfl,trivial⟩
 ·replace H:=iff_ h2 H
  refine z0l ?_
  refine z0c ?_
  refine z0c ?_
  refine z0b hN rfl ?_
  refine qd rfl ?_
  refine z0a (z6g z6n rfl) ?_
  refine qd rfl ?_
  refine z01 ?_
  obtain ⟨h5,H⟩:=gif H
  refine z64 (fun (k3:Nat) (s:Unit)=>[(8,.dat (vlst (List.map z0j l1))),(9,.dat (vint (l1.length:Int))),(10,.dat (vint (k3:Int)))]) (fun (k3:Nat) (s:Unit)=>[]) () H ⟨rfl,rfl,rfl,trivial⟩ trivial (fun _ _=>rfl) ?_ ?_
  ·rintro ⟨⟩ H
   replace H:z61=some r:=H
   unfold z61 at H
   refine z0c ?_
   refine z0b hN rfl ?_
   refine z0a (z1i rfl rfl) ?_
   refine z0c ?_
   refine z0i _ rfl (fun h=>(lt_t h).elim) (fun h => ?_)
   refine z34 ?_
   refine z0c ?_
   refine z0b hN rfl ?_
   refine qe rfl ?_
   refine z0q ?_
   cases H
   exact ⟨trivial,.inl rfl,trivial⟩
  ·rintro k3 x6 ⟨⟩ q4 h7 h8 H hq4
   replace H:z5t k3 x6=some q4:=H
   unfold z5t at H
   refine z0c ?_
   refine z0b hN rfl ?_
   refine z0a (z1i rfl rfl) ?_
   refine z0c ?_
   refine z0i _ rfl (fun h => ?_) (fun h=>(lt_f h7 h).elim)
   refine z0l ?_
   refine z0c ?_
   refine z01 ?_
   refine z0c ?_
   refine z0b hN rfl ?_
   refine z0a (z93 z7t (fun _=>rfl) rfl rfl h8) ?_
   refine z0a (z1b tyS9 rfl (z5q h8) rfl) ?_
   refine qe rfl ?_
   refine z0c ?_
   refine z0b hN rfl ?_
   refine qd rfl ?_
   obtain ⟨r9,h10,H⟩:=bnd H
   refine z0a (z0s (y2y x6 r9 h10) ⟨.inl rfl,trivial⟩) ?_
   refine z0a (z4x rfl) ?_
   refine z0i _ rfl (fun h11 => ?_) (fun h11 => ?_)
   ·replace H:=ift h11 H
    refine z0c ?_
    refine z0b hN rfl ?_
    refine qe rfl ?_
    refine z0q ?_
    replace H:=retl H hq4
    cases H
    exact ⟨trivial,.inl rfl,trivial⟩
   ·replace H:=iff_ h11 H
    refine z0l ?_
    refine z0b hN rfl ?_
    refine z0a (z6q rfl rfl (by omega)) ?_
    refine qd rfl ?_
    exact ⟨_,z9j H,⟨rfl,rfl,rfl,trivial⟩,trivial⟩
theorem z7c (v1:z0f) (r:(Int)) (H:z2m v1=some r):Fn Tryz.prog 12 [vagg (z0w v1)] (z2f [vint r]):=by
 refine ⟨by kernel_rfl,z2a (us:=[vint r]) Tryz.func12 rfl rfl rfl rfl fun X hN => ?_⟩
 unfold z2m at H
 refine z0c ?_
 refine z0b hN rfl ?_
 refine z0k (z9d 1 rfl) rfl ?_
 refine qe rfl ?_
 refine z0c ?_
 refine z01 ?_
 refine z0z (ι:=Bool) (fun i=>[(1,.ptr 1 0),(6,.dat (z02 i))]) (fun i=>[(1,.box none 28 [.dat (vstr v1.Id),.dat (vstr v1.Subject),.dat (vstr v1.Issuer),.dat (vstr v1.Parent),.dat (vlst (List.map z0j v1.Audience)),.dat (vlst (List.map z0j v1.Scopes)),.dat (vint v1.From),.dat (vint v1.To)])]) (fun i=>z1s v1 i=some r) (fun i=>rfl) ?_ ?_
 ·skip
  refine z0b hN rfl ?_
  refine z0a (z0n y0o rfl) ?_
  refine z0u (z0r tyS9 rfl rfl) rfl ?_
  obtain ⟨r2,h3,H⟩:=bnd H
  refine z0a (z0s (z69 v1.Id r2 h3) ⟨.inl rfl,trivial⟩) ?_
  refine z0a (z4x rfl) ?_
  refine qd rfl ?_
  refine z04 (j:=4) rfl rfl (fun h4 => ?_) (fun h4 => ?_) rfl
  ·have h5:=un3 h4
   replace H:=iff_ h5 H
   refine z0m rfl rfl h4 (z0n y0n rfl) ?_
   refine z8f rfl rfl h4 (z0r tyS9 rfl rfl) rfl ?_
   obtain ⟨r6,h7,H⟩:=bnd H
   refine z0m rfl rfl h4 (z0s (z69 v1.Subject r6 h7) ⟨.inl rfl,trivial⟩) ?_
   refine z0m rfl rfl h4 (z4x rfl) ?_
   refine z0a (z0o rfl (bFF h5) rfl) ?_
   refine qd rfl ?_
   refine z04 (j:=10) rfl rfl (fun h8 => ?_) (fun h8 => ?_) rfl
   ·have h9:=un3 h8
    replace H:=iff_ h9 H
    refine z0m rfl rfl h8 (z0n y0m rfl) ?_
    refine z8f rfl rfl h8 (z0r tyS9 rfl rfl) rfl ?_
    obtain ⟨r10,h11,H⟩:=bnd H
    refine z0m rfl rfl h8 (z0s (z69 v1.Issuer r10 h11) ⟨.inl rfl,trivial⟩) ?_
    refine z0m rfl rfl h8 (z4x rfl) ?_
    refine z0a (z0o rfl (bFF h9) rfl) ?_
    refine qd rfl ?_
    refine z04 (j:=16) rfl rfl (fun h12 => ?_) (fun h12 => ?_) rfl
    ·have h13:=un3 h12
     replace H:=iff_ h13 H
     refine z0m rfl rfl h12 (z0n z8n rfl) ?_
     refine z8f rfl rfl h12 (z0r tyS9 rfl rfl) rfl ?_
     refine z0m rfl rfl h12 (z7d rfl rfl) ?_
     refine z0m rfl rfl h12 (z0h (.dat _) rfl) ?_
     refine z04 (j:=20) rfl rfl (fun h14 => ?_) (fun h14 => ?_) rfl
     ·have h15:=un1 h14
      replace H:=ift h15 H
      refine z0m rfl rfl h14 (z0n z8n rfl) ?_
      refine z8f rfl rfl h14 (z0r tyS9 rfl rfl) rfl ?_
      obtain ⟨r16,h17,H⟩:=bnd H
      refine z0m rfl rfl h14 (z0s (z69 v1.Parent r16 h17) ⟨.inl rfl,trivial⟩) ?_
      refine z0m rfl rfl h14 (z4x rfl) ?_
      refine z0m rfl rfl h12 (z0t rfl (bTT h15) rfl) ?_
      refine z0a (z0o rfl (bFF h13) rfl) ?_
      refine qe rfl ?_
      exact ⟨!r16,H,⟨rfl,rfl,trivial⟩,⟨rfl,trivial⟩⟩
     ·have h18:=un2 h14
      replace H:=iff_ h18 H
      refine z0e rfl rfl h14 ?_
      refine z0e rfl rfl h14 ?_
      refine z0e rfl rfl h14 ?_
      refine z0e rfl rfl h14 ?_
      refine z0m rfl rfl h12 (z0o rfl (bFF h18) rfl) ?_
      refine z0a (z0o rfl (bFF h13) rfl) ?_
      refine qe rfl ?_
      exact ⟨false,H,⟨rfl,rfl,trivial⟩,⟨rfl,trivial⟩⟩
    ·have h19:=un4 h12
     replace H:=ift h19 H
     refine z0e rfl rfl h12 ?_
     refine z0e rfl rfl h12 ?_
     refine z0e rfl rfl h12 ?_
     refine z0e rfl rfl h12 ?_
     refine z00 rfl rfl ?_
     refine z00 rfl rfl ?_
     refine z00 rfl rfl ?_
     refine z00 rfl rfl ?_
     refine z0e rfl rfl h12 ?_
     refine z0a (z0t rfl (bTT h19) rfl) ?_
     refine qe rfl ?_
     exact ⟨true,H,⟨rfl,rfl,trivial⟩,⟨rfl,trivial⟩⟩
   ·have h20:=un4 h8
    replace H:=ift h20 H
    refine z0e rfl rfl h8 ?_
    refine z0e rfl rfl h8 ?_
    refine z0e rfl rfl h8 ?_
    refine z0e rfl rfl h8 ?_
    refine z0a (z0t rfl (bTT h20) rfl) ?_
    refine qd rfl ?_
    refine z0e rfl rfl rfl ?_
    refine z0e rfl rfl rfl ?_
    refine z0e rfl rfl rfl ?_
    refine z0e rfl rfl rfl ?_
    refine z00 rfl rfl ?_
    refine z00 rfl rfl ?_
    refine z00 rfl rfl ?_
    refine z00 rfl rfl ?_
    refine z0e rfl rfl rfl ?_
    refine z0a (z0t rfl rfl rfl) ?_
    refine qe rfl ?_
    exact ⟨true,H,⟨rfl,rfl,trivial⟩,⟨rfl,trivial⟩⟩
  ·have h21:=un4 h4
   replace H:=ift h21 H
   refine z0e rfl rfl h4 ?_
   refine z0e rfl rfl h4 ?_
   refine z0e rfl rfl h4 ?_
   refine z0e rfl rfl h4 ?_
   refine z0a (z0t rfl (bTT h21) rfl) ?_
   refine qd rfl ?_
   refine z0e rfl rfl rfl ?_
   refine z0e rfl rfl rfl ?_
   refine z0e rfl rfl rfl ?_
   refine z0e rfl rfl rfl ?_
   refine z0a (z0t rfl rfl rfl) ?_
   refine qd rfl ?_
   refine z0e rfl rfl rfl ?_
   refine z0e rfl rfl rfl ?_
   refine z0e rfl rfl rfl ?_
   refine z0e rfl rfl rfl ?_
   refine z00 rfl rfl ?_
   refine z00 rfl rfl ?_
   refine z00 rfl rfl ?_
   refine z00 rfl rfl ?_
   refine z0e rfl rfl rfl ?_
   refine z0a (z0t rfl rfl rfl) ?_
   refine qe rfl ?_
   exact ⟨true,H,⟨rfl,rfl,trivial⟩,⟨rfl,trivial⟩⟩
 ·rintro v22 H
  replace H:z1s v1 v22=some r:=H
  unfold z1s at H
  refine z0i _ rfl (fun h23 => ?_) (fun h23 => ?_)
  ·replace H:=ift h23 H
   refine z0c ?_
   refine z0b hN rfl ?_
   refine qe rfl ?_
   refine z0q ?_
   cases H
   exact ⟨trivial,.inl rfl,trivial⟩
  ·replace H:=iff_ h23 H
   refine z0c ?_
   refine z0b hN rfl ?_
   refine z0a (z0n z8c rfl) ?_
   refine z0u (z0r z6w rfl rfl) rfl ?_
   refine z0a (z6g z6n rfl) ?_
   refine z0a (z4y rfl rfl) ?_
   refine qe rfl ?_
   refine z0i _ rfl (fun h24 => ?_) (fun h24 => ?_)
   ·replace H:=ift h24 H
    refine z0c ?_
    refine z0b hN rfl ?_
    refine qe rfl ?_
    refine z0q ?_
    cases H
    exact ⟨trivial,.inl rfl,trivial⟩
   ·replace H:=iff_ h24 H
    refine z0l ?_
    refine z0c ?_
    refine z0c ?_
    refine z0b hN rfl ?_
    refine z0a (z0n z8c rfl) ?_
    refine z0u (z0r z6w rfl rfl) rfl ?_
    refine z0a (z6g z6n rfl) ?_
    refine qd rfl ?_
    refine z01 ?_
    obtain ⟨h27,H⟩:=gif H
    refine z64 (fun (k25:Nat) (s:Unit)=>[(1,.ptr 1 0),(40,.dat (vlst (List.map z0j v1.Audience))),(41,.dat (vint (v1.Audience.length:Int))),(42,.dat (vint (k25:Int)))]) (fun (k25:Nat) (s:Unit)=>[(1,.box none 28 [.dat (vstr v1.Id),.dat (vstr v1.Subject),.dat (vstr v1.Issuer),.dat (vstr v1.Parent),.dat (vlst (List.map z0j v1.Audience)),.dat (vlst (List.map z0j v1.Scopes)),.dat (vint v1.From),.dat (vint v1.To)])]) () H ⟨rfl,rfl,rfl,rfl,trivial⟩ ⟨rfl,trivial⟩ (fun _ _=>rfl) ?_ ?_
    ·rintro ⟨⟩ H
     replace H:z4u v1=some r:=H
     unfold z4u at H
     refine z0c ?_
     refine z0b hN rfl ?_
     refine z0a (z1i rfl rfl) ?_
     refine z0c ?_
     refine z0i _ rfl (fun h=>(lt_t h).elim) (fun h => ?_)
     refine z34 ?_
     refine z0c ?_
     refine z0c ?_
     refine z0b hN rfl ?_
     refine z0a (z0n z78 rfl) ?_
     refine z0u (z0r z6w rfl rfl) rfl ?_
     obtain ⟨r29,h30,H⟩:=bnd H
     refine z0a (z0s (y01 v1.Scopes r29 h30) ⟨.inl rfl,trivial⟩) ?_
     refine qe rfl ?_
     refine z0c ?_
     refine z0b hN rfl ?_
     refine qd rfl ?_
     refine z0a (z8o rfl rfl) ?_
     refine z0i _ rfl (fun h31 => ?_) (fun h31 => ?_)
     ·replace H:=ift h31 H
      refine z0c ?_
      refine z0b hN rfl ?_
      refine qd rfl ?_
      refine qe rfl ?_
      refine z0q ?_
      cases H
      exact ⟨trivial,.inl rfl,trivial⟩
     ·replace H:=iff_ h31 H
      refine z0l ?_
      refine z0c ?_
      refine z0c ?_
      refine z5v mixed hN rfl rfl ?_
      refine z0a (z0n z78 rfl) ?_
      refine z0u (z0r z6w rfl rfl) rfl ?_
      obtain ⟨r32,h33,H⟩:=bnd H
      refine z0a (z0s (z96 v1.Scopes r32 h33) ⟨.inl rfl,trivial⟩) ?_
      refine z0a (z0n z78 rfl) ?_
      refine z0u (z0r z6w rfl rfl) rfl ?_
      obtain ⟨r34,h35,H⟩:=bnd H
      refine z0a (z0s (z32 r32 v1.Scopes r34 h35) ⟨.inl rfl,.inl rfl,trivial⟩) ?_
      refine z0a (z4x rfl) ?_
      refine ⟨rfl,?_⟩
      refine z0i _ rfl (fun h36 => ?_) (fun h36 => ?_)
      ·replace H:=ift h36 H
       refine z0c ?_
       refine z0b hN rfl ?_
       refine qe rfl ?_
       refine z0q ?_
       cases H
       exact ⟨trivial,.inl rfl,trivial⟩
      ·replace H:=iff_ h36 H
       refine z0l ?_
       refine z0c ?_
       refine z0c ?_
       refine z0b hN rfl ?_
       refine z0a (z0n z85 rfl) ?_
       refine z0u (z0r tyS3 rfl rfl) rfl ?_
       refine z0a (z1i rfl rfl) ?_
       refine qd rfl ?_
       refine z43 rfl rfl (fun hc=>z0n z85 rfl) ?_
       refine y0s rfl rfl (fun hc=>z0r tyS3 (cnd (c:=(!(decide (v1.From < 0)))) hc) rfl) rfl y4s ?_
       refine z43 rfl rfl (fun hc=>z0n z84 rfl) ?_
       refine y0s rfl rfl (fun hc=>z0r tyS3 (cnd (c:=(!(decide (v1.From < 0)))) hc) rfl) rfl y4s ?_
       refine z43 rfl rfl (fun hc=>z8e (cnd (c:=(!(decide (v1.From < 0)))) hc) (cnd (c:=(!(decide (v1.From < 0)))) hc)) ?_
       refine z0a (z4q rfl rfl (fun hb=>(cnd (c:=(!(decide (v1.From < 0)))) (notI hb)))) ?_
       refine qd rfl ?_
       refine z43 rfl rfl (fun hc=>z0n z84 rfl) ?_
       refine y0s rfl rfl (fun hc=>z0r tyS3 (cnd (c:=(!((decide (v1.From < 0)) || (decide (v1.To≤v1.From))))) hc) rfl) rfl y4s ?_
       refine z43 rfl rfl (fun hc=>z4y (cnd (c:=(!((decide (v1.From < 0)) || (decide (v1.To≤v1.From))))) hc) rfl) ?_
       refine z0a (z4q rfl rfl (fun hb=>(cnd (c:=(!((decide (v1.From < 0)) || (decide (v1.To≤v1.From))))) (notI hb)))) ?_
       refine z0i _ rfl (fun h37 => ?_) (fun h37 => ?_)
       ·replace H:=ift h37 H
        refine z0c ?_
        refine z0b hN rfl ?_
        refine qe rfl ?_
        refine z0q ?_
        cases H
        exact ⟨trivial,.inl rfl,trivial⟩
       ·replace H:=iff_ h37 H
        refine z0l ?_
        refine z0c ?_
        refine z0b hN rfl ?_
        refine qe rfl ?_
        refine z0q ?_
        cases H
        exact ⟨trivial,.inl rfl,trivial⟩
    ·rintro k25 x28 ⟨⟩ q26 h38 h39 H hq26
     replace H:z5u v1 k25 x28=some q26:=H
     unfold z5u at H
     refine z0c ?_
     refine z0b hN rfl ?_
     refine z0a (z1i rfl rfl) ?_
     refine z0c ?_
     refine z0i _ rfl (fun h => ?_) (fun h=>(lt_f h38 h).elim)
     refine z0l ?_
     refine z0c ?_
     refine z01 ?_
     refine z0c ?_
     refine z0b hN rfl ?_
     refine qd rfl ?_
     refine z0a (z93 z7t (fun _=>rfl) rfl rfl h39) ?_
     refine z0a (z1b tyS9 rfl (z5q h39) rfl) ?_
     refine qe rfl ?_
     refine qe rfl ?_
     refine z0c ?_
     refine z0c ?_
     refine z0b hN rfl ?_
     refine qd rfl ?_
     obtain ⟨r40,h41,H⟩:=bnd H
     refine z0a (z0s (z69 x28 r40 h41) ⟨.inl rfl,trivial⟩) ?_
     refine z0a (z4x rfl) ?_
     refine z0i _ rfl (fun h42 => ?_) (fun h42 => ?_)
     ·replace H:=ift h42 H
      refine z0c ?_
      refine z0b hN rfl ?_
      refine qe rfl ?_
      refine z0q ?_
      replace H:=retl H hq26
      cases H
      exact ⟨trivial,.inl rfl,trivial⟩
     ·replace H:=iff_ h42 H
      refine z0l ?_
      refine z0z (ι:=Bool) (fun i=>[(1,.ptr 1 0),(40,.dat (vlst (List.map z0j v1.Audience))),(41,.dat (vint (v1.Audience.length:Int))),(42,.dat (vint (k25:Int))),(61,.dat (z02 i))]) (fun i=>[(1,.box none 28 [.dat (vstr v1.Id),.dat (vstr v1.Subject),.dat (vstr v1.Issuer),.dat (vstr v1.Parent),.dat (vlst (List.map z0j v1.Audience)),.dat (vlst (List.map z0j v1.Scopes)),.dat (vint v1.From),.dat (vint v1.To)])]) (fun i=>z3b i=some q26) (fun i=>rfl) ?_ ?_
      ·skip
       refine z0b hN rfl ?_
       refine qd rfl ?_
       refine z0a (z4y rfl rfl) ?_
       refine qd rfl ?_
       refine z04 (j:=2) rfl rfl (fun h43 => ?_) (fun h43 => ?_) rfl
       ·have h44:=un1 h43
        replace H:=ift h44 H
        refine z0m rfl rfl h43 (z0h (.dat _) rfl) ?_
        refine z0m rfl rfl h43 (z0n z8c rfl) ?_
        refine z8f rfl rfl h43 (z0r z6w rfl rfl) rfl ?_
        refine z0m rfl rfl h43 (z0h (.dat _) rfl) ?_
        refine z0m rfl rfl h43 (y91 rfl rfl (by omega)) ?_
        obtain ⟨x45,h46,H⟩:=bnd H
        refine z0m rfl rfl h43 (y1w z7t (fun _=>rfl) rfl rfl h46) ?_
        refine z0m rfl rfl h43 (z1b tyS9 rfl (z5q (z8l h46).2) rfl) ?_
        refine z0m rfl rfl h43 (y7y rfl rfl) ?_
        refine z0a (z0t rfl (bTT h44) rfl) ?_
        exact ⟨(Op.bytesLess x28 x45 || x28 == x45),H,⟨rfl,rfl,rfl,rfl,rfl,trivial⟩,⟨rfl,trivial⟩⟩
       ·have h47:=un2 h43
        replace H:=iff_ h47 H
        refine z0e rfl rfl h43 ?_
        refine z0e rfl rfl h43 ?_
        refine z0e rfl rfl h43 ?_
        refine z0e rfl rfl h43 ?_
        refine z0e rfl rfl h43 ?_
        refine z0e rfl rfl h43 ?_
        refine z0e rfl rfl h43 ?_
        refine z0e rfl rfl h43 ?_
        refine z0a (z0o rfl (bFF h47) rfl) ?_
        exact ⟨false,H,⟨rfl,rfl,rfl,rfl,rfl,trivial⟩,⟨rfl,trivial⟩⟩
      ·rintro v48 H
       replace H:z3b v48=some q26:=H
       unfold z3b at H
       refine z0i _ rfl (fun h49 => ?_) (fun h49 => ?_)
       ·replace H:=ift h49 H
        refine z0c ?_
        refine z0b hN rfl ?_
        refine qe rfl ?_
        refine z0q ?_
        replace H:=retl H hq26
        cases H
        exact ⟨trivial,.inl rfl,trivial⟩
       ·replace H:=iff_ h49 H
        refine z0l ?_
        refine z0b hN rfl ?_
        refine z0a (z6q rfl rfl (by omega)) ?_
        refine qd rfl ?_
        exact ⟨_,z9j H,⟨rfl,rfl,rfl,rfl,trivial⟩,⟨rfl,trivial⟩⟩
theorem y0g (c1:z0f) (r:(Bs×Int)) (H:z4j c1=some r):Fn Tryz.prog 8 [vagg (z0w c1)] (z2f [vstr r.1,vint r.2]):=by
 refine ⟨by kernel_rfl,z2a (us:=[vstr r.1,vint r.2]) Tryz.func8 rfl rfl rfl rfl fun X hN => ?_⟩
 unfold z4j at H
 refine z0c ?_
 refine z0b hN rfl ?_
 refine z0k (z9d 1 rfl) rfl ?_
 refine qe rfl ?_
 refine qe rfl ?_
 refine z0c ?_
 refine z0c ?_
 refine z0b hN rfl ?_
 refine z0u (z5p z6c rfl rfl rfl) rfl ?_
 obtain ⟨r2,h3,H⟩:=bnd H
 refine z0a (z0s (z7c c1 r2 h3) ⟨.inl rfl,trivial⟩) ?_
 refine qe rfl ?_
 refine z0c ?_
 refine z0b hN rfl ?_
 refine qd rfl ?_
 refine z0a (z8o rfl rfl) ?_
 refine z0i _ rfl (fun h4 => ?_) (fun h4 => ?_)
 ·replace H:=ift h4 H
  refine z0c ?_
  refine z0b hN rfl ?_
  refine qd rfl ?_
  refine qe rfl ?_
  refine qe rfl ?_
  refine z0q ?_
  cases H
  exact ⟨trivial,.inl rfl,.inl rfl,trivial⟩
 ·replace H:=iff_ h4 H
  refine z0l ?_
  refine z0c ?_
  refine z0b hN rfl ?_
  refine z0u (z5p z6c rfl rfl rfl) rfl ?_
  obtain ⟨r5,h6,H⟩:=bnd H
  refine z0a (z0s (z8m c1 r5 h6) ⟨.inl rfl,trivial⟩) ?_
  refine qe rfl ?_
  refine z0c ?_
  refine z0c ?_
  refine z0b hN rfl ?_
  refine qd rfl ?_
  refine z0a (z1v tyU9 rfl) ?_
  refine z0a (z4y rfl rfl) ?_
  refine z0i _ rfl (fun h7 => ?_) (fun h7 => ?_)
  ·replace H:=ift h7 H
   refine z0c ?_
   refine z0b hN rfl ?_
   refine qe rfl ?_
   refine qe rfl ?_
   refine z0q ?_
   cases H
   exact ⟨trivial,.inl rfl,.inl rfl,trivial⟩
  ·replace H:=iff_ h7 H
   refine z0l ?_
   refine z0c ?_
   refine z0b hN rfl ?_
   refine qd rfl ?_
   refine qe rfl ?_
   refine qe rfl ?_
   refine z0q ?_
   cases H
   exact ⟨trivial,.inl rfl,.inl rfl,trivial⟩
theorem y7j (s1:Bs) (r:((List Bs)×Bool)) (H:z9v s1=some r):Fn Tryz.prog 26 [vstr s1] (z2f [vlst (List.map z0j r.1),z02 r.2]):=by
 refine ⟨by kernel_rfl,z2a (us:=[vlst (List.map z0j r.1),z02 r.2]) Tryz.func26 rfl rfl rfl rfl fun X hN => ?_⟩
 unfold z9v at H
 refine z0c ?_
 refine z0b hN rfl ?_
 refine qe rfl ?_
 refine qe rfl ?_
 refine z0c ?_
 refine z0b hN rfl ?_
 refine qd rfl ?_
 obtain ⟨r2,h3,H⟩:=bnd H
 refine z0a (z0s (z7m s1 [10] r2 h3) ⟨.inl rfl,.inl rfl,trivial⟩) ?_
 refine qe rfl ?_
 refine z0c ?_
 refine z0b hN rfl ?_
 refine qd rfl ?_
 refine z0a (z6g z6n rfl) ?_
 refine z0a (z1l _ rfl rfl (.inr (.inl ⟨rfl,rfl⟩))) ?_
 refine qe rfl ?_
 refine z0c ?_
 refine z0c ?_
 refine z0b hN rfl ?_
 refine qd rfl ?_
 refine qd rfl ?_
 obtain ⟨x4,h5,H⟩:=bnd H
 refine z0a (y1w z7t (fun _=>rfl) rfl rfl h5) ?_
 refine z0a (z1b tyS9 rfl (z5q (z8l h5).2) rfl) ?_
 refine z0a (z56 rfl rfl) ?_
 refine z0i _ rfl (fun h6 => ?_) (fun h6 => ?_)
 ·replace H:=ift h6 H
  refine z0c ?_
  refine z0b hN rfl ?_
  refine qd rfl ?_
  refine qd rfl ?_
  obtain ⟨l7,h8,H⟩:=bnd H
  refine z0a (y7v z7t (fun _=>rfl) rfl rfl rfl h8) ?_
  refine qe rfl ?_
  refine qe rfl ?_
  refine z0q ?_
  cases H
  exact ⟨trivial,.inl rfl,.inl rfl,trivial⟩
 ·replace H:=iff_ h6 H
  refine z0l ?_
  refine z0c ?_
  refine z0b hN rfl ?_
  refine qd rfl ?_
  refine qe rfl ?_
  refine qe rfl ?_
  refine z0q ?_
  cases H
  exact ⟨trivial,.inl rfl,.inl rfl,trivial⟩
theorem y13 (s p:Bs) (r:Bs×Bs×Bool) (H:z6f s p=some r):Fn Tryz.prog 30 [vstr s,vstr p] (z2f [vstr r.1,vstr r.2.1,z02 r.2.2]):=by
 unfold z6f at H
 obtain ⟨h1,h2⟩:=gif H
 cases h2
 refine z8b (by kernel_rfl) fun M w vs hM h => ?_
 have hv:=z92 (us:=[.string ⟨s.toArray⟩,.string ⟨p.toArray⟩]) h
 subst hv
 obtain ⟨m,hm⟩:=y1m hM
 refine (Tryz.strings_Cut ⟨s.toArray⟩ ⟨p.toArray⟩ m w (by simp [ByteArray.size]; omega) hm).mono ?_
 rintro e w' ⟨rfl,n,rfl⟩
 refine ⟨_,rfl,⟨[_,_,_],rfl,rfl,fun j u hj => ?_⟩,⟨rfl,rfl,rfl,Nat.le_refl _,fun _ _ _=>rfl⟩⟩
 rcases j with _ | _ | _ | j
 ·cases hj; exact ⟨_,rfl,rfl⟩
 ·cases hj; exact ⟨_,rfl,rfl⟩
 ·cases hj; exact ⟨_,rfl,rfl⟩
 ·simp at hj

theorem z6v (s1:(List Bs)) (v2:Bs) (r:(Int)) (H:z11 s1 v2=some r):Fn Tryz.prog 32 [vlst (List.map z0j s1),vstr v2] (z2f [vint r]):=by
 refine ⟨by kernel_rfl,z2a (us:=[vint r]) Tryz.func32 rfl rfl rfl rfl fun X hN => ?_⟩
 unfold z11 at H
 refine z0c ?_
 refine z0b hN rfl ?_
 refine qe rfl ?_
 refine z0c ?_
 refine z0c ?_
 refine z0b hN rfl ?_
 refine qd rfl ?_
 refine z0a (z6g z6n rfl) ?_
 refine qd rfl ?_
 refine z01 ?_
 obtain ⟨h5,H⟩:=gif H
 refine z64 (fun (k3:Nat) (s:Unit)=>[(0,.dat (vlst (List.map z0j s1))),(1,.dat (vstr v2)),(7,.dat (vint (s1.length:Int))),(8,.dat (vint (k3:Int)))]) (fun (k3:Nat) (s:Unit)=>[]) () H ⟨rfl,rfl,rfl,rfl,trivial⟩ trivial (fun _ _=>rfl) ?_ ?_
 ·rintro ⟨⟩ H
  replace H:z40=some r:=H
  unfold z40 at H
  refine z0c ?_
  refine z0b hN rfl ?_
  refine z0a (z1i rfl rfl) ?_
  refine z0c ?_
  refine z0i _ rfl (fun h=>(lt_t h).elim) (fun h => ?_)
  refine z34 ?_
  refine z0c ?_
  refine z0b hN rfl ?_
  refine qe rfl ?_
  refine z0q ?_
  cases H
  exact ⟨trivial,.inl rfl,trivial⟩
 ·rintro k3 x6 ⟨⟩ q4 h7 h8 H hq4
  replace H:z4z v2 k3 x6=some q4:=H
  unfold z4z at H
  refine z0c ?_
  refine z0b hN rfl ?_
  refine z0a (z1i rfl rfl) ?_
  refine z0c ?_
  refine z0i _ rfl (fun h => ?_) (fun h=>(lt_f h7 h).elim)
  refine z0l ?_
  refine z0c ?_
  refine z01 ?_
  refine z0c ?_
  refine z0b hN rfl ?_
  refine qd rfl ?_
  refine qe rfl ?_
  refine z0c ?_
  refine z0b hN rfl ?_
  refine qd rfl ?_
  refine qd rfl ?_
  refine qd rfl ?_
  refine z0a (z93 z7t (fun _=>rfl) rfl rfl h8) ?_
  refine z0a (z1b tyS9 rfl (z5q h8) rfl) ?_
  refine z0a (z56 rfl rfl) ?_
  refine z0i _ rfl (fun h9 => ?_) (fun h9 => ?_)
  ·replace H:=ift h9 H
   refine z0c ?_
   refine z0b hN rfl ?_
   refine qd rfl ?_
   refine qe rfl ?_
   refine z0q ?_
   replace H:=retl H hq4
   cases H
   exact ⟨trivial,.inl rfl,trivial⟩
  ·replace H:=iff_ h9 H
   refine z0l ?_
   refine z0b hN rfl ?_
   refine z0a (z6q rfl rfl (by omega)) ?_
   refine qd rfl ?_
   exact ⟨_,z9j H,⟨rfl,rfl,rfl,rfl,trivial⟩,trivial⟩
theorem z6b (s1:(List Bs)) (v2:Bs) (r:(Bool)) (H:z17 s1 v2=some r):Fn Tryz.prog 35 [vlst (List.map z0j s1),vstr v2] (z2f [z02 r]):=by
 refine ⟨by kernel_rfl,z2a (us:=[z02 r]) Tryz.func35 rfl rfl rfl rfl fun X hN => ?_⟩
 unfold z17 at H
 refine z0c ?_
 refine z0b hN rfl ?_
 refine qe rfl ?_
 refine z0c ?_
 refine z0b hN rfl ?_
 refine qd rfl ?_
 refine qd rfl ?_
 obtain ⟨r3,h4,H⟩:=bnd H
 refine z0a (z0s (z6v s1 v2 r3 h4) ⟨.inl rfl,.inl rfl,trivial⟩) ?_
 refine z0a (z8e rfl rfl) ?_
 refine qe rfl ?_
 refine z0q ?_
 cases H
 exact ⟨trivial,.inl rfl,trivial⟩
theorem y7i (s1:Bs) (r:((List Bs)×Bool)) (H:z9u s1=some r):Fn Tryz.prog 57 [vstr s1] (z2f [vlst (List.map z0j r.1),z02 r.2]):=by
 refine ⟨by kernel_rfl,z2a (us:=[vlst (List.map z0j r.1),z02 r.2]) Tryz.func57 rfl rfl rfl rfl fun X hN => ?_⟩
 unfold z9u at H
 refine z0c ?_
 refine z0b hN rfl ?_
 refine qe rfl ?_
 refine qe rfl ?_
 refine z0c ?_
 refine z0b hN rfl ?_
 refine qd rfl ?_
 obtain ⟨r2,h3,H⟩:=bnd H
 refine z0a (z0s (z7m s1 [32] r2 h3) ⟨.inl rfl,.inl rfl,trivial⟩) ?_
 refine qe rfl ?_
 refine z0c ?_
 refine z0b hN rfl ?_
 refine qd rfl ?_
 refine qd rfl ?_
 obtain ⟨r4,h5,H⟩:=bnd H
 refine z0a (z0s (z6b r2 [] r4 h5) ⟨.inl rfl,.inl rfl,trivial⟩) ?_
 refine z0a (z4x rfl) ?_
 refine qe rfl ?_
 refine qe rfl ?_
 refine z0q ?_
 cases H
 exact ⟨trivial,.inl rfl,.inl rfl,trivial⟩
theorem z5c (s1:z0g) (v2:Bs) (v3:Bool) (r:((List Bs)×z0g)) (H:z0x s1 v2 v3=some r):Imp Tryz.prog 28 55 (z16 s1) [vstr v2,z02 v3] (z2f [vlst (List.map z0j r.1)]) (z16 r.2):=by
 refine z81 (us:=[vlst (List.map z0j r.1)]) (cs':=(z16 r.2)) (by kernel_rfl) Tryz.func28 rfl rfl rfl rfl fun X bl hN => ?_
 unfold z0x at H
 refine z0c ?_
 refine z0b hN rfl ?_
 refine qe rfl ?_
 refine z0c ?_
 refine z0c ?_
 refine z0b hN rfl ?_
 refine z0a (z0h (.ptr _ _) rfl) ?_
 refine z0a (z1q rfl) ?_
 refine z0a (z0n y03 rfl) ?_
 refine z0u (z0r tyS4 rfl rfl) rfl ?_
 refine z0i _ rfl (fun h4 => ?_) (fun h4 => ?_)
 ·replace H:=ift h4 H
  refine z0c ?_
  refine z0b hN rfl ?_
  refine qe rfl ?_
  refine z0q ?_
  cases H
  exact ⟨trivial,⟨.inr ⟨rfl,rfl⟩,trivial⟩,rfl⟩
 ·replace H:=iff_ h4 H
  refine z0l ?_
  refine z0c ?_
  refine z0c ?_
  refine z5v mixed hN rfl rfl ?_
  refine z0a (z0h (.ptr _ _) rfl) ?_
  refine z0a (z1q rfl) ?_
  refine z0a (z0n z9m rfl) ?_
  refine z0u (z0r tyS3 rfl rfl) rfl ?_
  refine z0a (z0h (.ptr _ _) rfl) ?_
  refine z0a (z1q rfl) ?_
  refine z0a (z0n y3d rfl) ?_
  refine z0u (z0r z6w rfl rfl) rfl ?_
  refine z0a (z6g z6n rfl) ?_
  refine z0a (z10 rfl rfl) ?_
  refine ⟨rfl,?_⟩
  refine z0i _ rfl (fun h5 => ?_) (fun h5 => ?_)
  ·replace H:=ift h5 H
   refine z0c ?_
   refine z0b hN rfl ?_
   refine z0a (z0h (.ptr _ _) rfl) ?_
   refine qd rfl ?_
   refine z0a (z1q rfl) ?_
   refine z0a (z0n y03 rfl) ?_
   refine z0k (z1g tyS4 rfl rfl rfl rfl) rfl ?_
   refine z0c ?_
   refine z0b hN rfl ?_
   refine qe rfl ?_
   refine z0q ?_
   cases H
   exact ⟨trivial,⟨.inr ⟨rfl,rfl⟩,trivial⟩,rfl⟩
  ·replace H:=iff_ h5 H
   refine z0l ?_
   refine z0c ?_
   refine z5v mixed hN rfl rfl ?_
   refine z0a (z0h (.ptr _ _) rfl) ?_
   refine z0a (z1q rfl) ?_
   refine z0a (z0n y3d rfl) ?_
   refine z0u (z0r z6w rfl rfl) rfl ?_
   refine z0a (z0h (.ptr _ _) rfl) ?_
   refine z0a (z1q rfl) ?_
   refine z0a (z0n z9m rfl) ?_
   refine z0u (z0r tyS3 rfl rfl) rfl ?_
   obtain ⟨x6,h7,H⟩:=bnd H
   refine z0a (y1w z7t (fun _=>rfl) rfl rfl h7) ?_
   refine z0a (z1b tyS9 rfl (z5q (z8l h7).2) rfl) ?_
   obtain ⟨r8,h9,H⟩:=bnd H
   refine z0a (z0s (y13 x6 [32] r8 h9) ⟨.inl rfl,.inl rfl,trivial⟩) ?_
   refine qd rfl ?_
   refine z0a (z2d rfl rfl) ?_
   refine z0a (z2d rfl rfl) ?_
   refine z0a (z2d rfl rfl) ?_
   refine qe rfl ?_
   refine qe rfl ?_
   refine qe rfl ?_
   refine ⟨rfl,?_⟩
   refine z0c ?_
   refine z0c ?_
   refine z0b hN rfl ?_
   refine qd rfl ?_
   refine qd rfl ?_
   refine z0a (z7d rfl rfl) ?_
   refine z0i _ rfl (fun h10 => ?_) (fun h10 => ?_)
   ·replace H:=ift h10 H
    refine z0c ?_
    refine z0b hN rfl ?_
    refine z0a (z0h (.ptr _ _) rfl) ?_
    refine qd rfl ?_
    refine z0a (z1q rfl) ?_
    refine z0a (z0n y03 rfl) ?_
    refine z0k (z1g tyS4 rfl rfl rfl rfl) rfl ?_
    refine z0c ?_
    refine z0b hN rfl ?_
    refine qe rfl ?_
    refine z0q ?_
    cases H
    exact ⟨trivial,⟨.inr ⟨rfl,rfl⟩,trivial⟩,rfl⟩
   ·replace H:=iff_ h10 H
    refine z0l ?_
    refine z0c ?_
    refine z0b hN rfl ?_
    refine qd rfl ?_
    obtain ⟨r11,h12,H⟩:=bnd H
    refine z0a (z0s (y7i r8.2.1 r11 h12) ⟨.inl rfl,trivial⟩) ?_
    refine qd rfl ?_
    refine z0a (z2d rfl rfl) ?_
    refine z0a (z2d rfl rfl) ?_
    refine qe rfl ?_
    refine qe rfl ?_
    refine z0c ?_
    refine z0c ?_
    refine z5v mixed hN rfl rfl ?_
    refine qd rfl ?_
    refine z0a (z4x rfl) ?_
    refine qd rfl ?_
    refine z43 rfl rfl (fun hc=>z0h (.ptr _ _) rfl) ?_
    refine z43 rfl rfl (fun hc=>z1q (cnd (c:=(!(!r11.2))) hc)) ?_
    refine z43 rfl rfl (fun hc=>z0n y9v (cnd (c:=(!(!r11.2))) hc)) ?_
    refine y0s rfl rfl (fun hc=>z0r tyS4 (cnd (c:=(!(!r11.2))) hc) rfl) rfl y6l ?_
    refine z43 rfl rfl (fun hc=>z4x (cnd (c:=(!(!r11.2))) hc)) ?_
    refine z43 rfl rfl (fun hc=>z0h (.dat _) (cnd (c:=(!(!r11.2))) hc)) ?_
    refine z5w rfl rfl (fun hc=>z0h (.ptr _ _) rfl) ?_
    refine z5w rfl rfl (fun hc=>z1q (cnd (c:=((!(!r11.2)) && (!s1.ended_))) hc)) ?_
    refine z5w rfl rfl (fun hc=>z0n z9m (cnd (c:=((!(!r11.2)) && (!s1.ended_))) hc)) ?_
    refine x0l rfl rfl (fun hc=>z0r tyS3 (cnd (c:=((!(!r11.2)) && (!s1.ended_))) hc) rfl) rfl y6l ?_
    refine z5w rfl rfl (fun hc=>z0h (.ptr _ _) rfl) ?_
    refine z5w rfl rfl (fun hc=>z1q (cnd (c:=((!(!r11.2)) && (!s1.ended_))) hc)) ?_
    refine z5w rfl rfl (fun hc=>z0n y3d (cnd (c:=((!(!r11.2)) && (!s1.ended_))) hc)) ?_
    refine x0l rfl rfl (fun hc=>z0r z6w (cnd (c:=((!(!r11.2)) && (!s1.ended_))) hc) rfl) rfl y6l ?_
    refine z5w rfl rfl (fun hc=>z6g z6n (cnd (c:=((!(!r11.2)) && (!s1.ended_))) hc)) ?_
    refine z5w rfl rfl (fun hc=>z1l _ (cnd (c:=((!(!r11.2)) && (!s1.ended_))) hc) rfl (.inr (.inl ⟨rfl,rfl⟩))) ?_
    refine z5w rfl rfl (fun hc=>z10 (cnd (c:=((!(!r11.2)) && (!s1.ended_))) hc) (cnd (c:=((!(!r11.2)) && (!s1.ended_))) hc)) ?_
    refine z43 rfl rfl (fun hc=>z1w (cnd (c:=(!(!r11.2))) hc) (fun hb=>(cnd (c:=((!(!r11.2)) && (!s1.ended_))) (andI hc hb))) rfl) ?_
    refine z0a (z4q rfl rfl (fun hb=>(cnd (c:=(!(!r11.2))) (notI hb)))) ?_
    refine ⟨rfl,?_⟩
    refine z0i _ rfl (fun h13 => ?_) (fun h13 => ?_)
    ·replace H:=ift h13 H
     refine z0c ?_
     refine z0b hN rfl ?_
     refine z0a (z0h (.ptr _ _) rfl) ?_
     refine z0a (z1q rfl) ?_
     refine z0a (z0n y03 rfl) ?_
     refine z0k (z1g tyS4 rfl rfl rfl rfl) rfl ?_
     refine z0c ?_
     refine z0b hN rfl ?_
     refine qe rfl ?_
     refine z0q ?_
     cases H
     exact ⟨trivial,⟨.inr ⟨rfl,rfl⟩,trivial⟩,rfl⟩
    ·replace H:=iff_ h13 H
     refine z0l ?_
     refine z0c ?_
     refine z0b hN rfl ?_
     refine z0a (z0h (.ptr _ _) rfl) ?_
     refine z0a (z1q rfl) ?_
     refine z0a (z0n z9m rfl) ?_
     refine z0u (z0r tyS3 rfl rfl) rfl ?_
     refine z0a (z1l _ rfl rfl (.inl ⟨rfl,rfl⟩)) ?_
     refine z0a (z1q rfl) ?_
     refine z0a (z0n z9m rfl) ?_
     refine z0k (z1g tyS3 rfl rfl rfl rfl) rfl ?_
     refine z0c ?_
     refine z0b hN rfl ?_
     refine qd rfl ?_
     refine qe rfl ?_
     refine z0q ?_
     cases H
     exact ⟨trivial,⟨.inl rfl,trivial⟩,rfl⟩
theorem z5k (s1:z0g) (word2:Bs) (must3:Bool) (r:(Bs×z0g)) (H:z0v s1 word2 must3=some r):Imp Tryz.prog 27 55 (z16 s1) [vstr word2,z02 must3] (z2f [vstr r.1]) (z16 r.2):=by
 refine z81 (us:=[vstr r.1]) (cs':=(z16 r.2)) (by kernel_rfl) Tryz.func27 rfl rfl rfl rfl fun X bl hN => ?_
 unfold z0v at H
 refine z0c ?_
 refine z0b hN rfl ?_
 refine qe rfl ?_
 refine z0c ?_
 refine z0b hN rfl ?_
 refine z0a (z0h (.ptr _ _) rfl) ?_
 refine qd rfl ?_
 refine qd rfl ?_
 obtain ⟨r4,h5,H⟩:=bnd H
 refine z0k (z1k (z5c s1 word2 must3 r4 h5) rfl ⟨.inl rfl,.inl rfl,trivial⟩ rfl) rfl ?_
 refine qe rfl ?_
 refine z0z (ι:=Int×Bool) (fun i=>[(7,.dat (vlst (List.map z0j r4.1)))]) (fun i=>[(0,.box (some bl) 55 [.dat (vlst (List.map z0j r4.2.lines_)),.dat (z02 r4.2.ended_),.dat (vint i.1),.dat (z02 i.2)])]) (fun i=>z3j r4 i.1 i.2=some r) (fun i=>rfl) ?_ ?_
 ·skip
  refine z0c ?_
  refine z0b hN rfl ?_
  refine qd rfl ?_
  refine z0a (z6g z6n rfl) ?_
  refine z0a (z4y rfl rfl) ?_
  refine z0i _ rfl (fun h6 => ?_) (fun h6 => ?_)
  ·replace H:=ift h6 H
   refine z0c ?_
   refine z0b hN rfl ?_
   refine z0a (z0h (.ptr _ _) rfl) ?_
   refine z0a (z1q rfl) ?_
   refine z0a (z0n y03 rfl) ?_
   refine z0k (z1g tyS4 rfl rfl rfl rfl) rfl ?_
   refine z0b hN rfl ?_
   refine z0a (z0h (.ptr _ _) rfl) ?_
   refine z0a (z1q rfl) ?_
   refine z0a (z0n z9m rfl) ?_
   refine z0u (z0r tyS3 rfl rfl) rfl ?_
   refine z0a (z1l _ rfl rfl (.inr (.inl ⟨rfl,rfl⟩))) ?_
   refine z0a (z1q rfl) ?_
   refine z0a (z0n z9m rfl) ?_
   refine z0k (z1g tyS3 rfl rfl rfl rfl) rfl ?_
   exact ⟨(wr (r4.2.at_ - 1),true),H,⟨rfl,trivial⟩,⟨rfl,trivial⟩⟩
  ·replace H:=iff_ h6 H
   refine z0l ?_
   exact ⟨(r4.2.at_,r4.2.bad_),H,⟨rfl,trivial⟩,⟨rfl,trivial⟩⟩
 ·rintro ⟨c7,c8⟩ H
  replace H:z3j r4 c7 c8=some r:=H
  unfold z3j at H
  refine z0c ?_
  refine z0c ?_
  refine z0b hN rfl ?_
  refine qd rfl ?_
  refine z0a (z6g z6n rfl) ?_
  refine z0a (z8o rfl rfl) ?_
  refine z0i _ rfl (fun h9 => ?_) (fun h9 => ?_)
  ·replace H:=ift h9 H
   refine z0c ?_
   refine z0b hN rfl ?_
   refine qe rfl ?_
   refine z0q ?_
   cases H
   exact ⟨trivial,⟨.inl rfl,trivial⟩,rfl⟩
  ·replace H:=iff_ h9 H
   refine z0l ?_
   refine z0c ?_
   refine z0b hN rfl ?_
   refine qd rfl ?_
   obtain ⟨x10,h11,H⟩:=bnd H
   refine z0a (z93 z7t (fun _=>rfl) rfl rfl h11) ?_
   refine z0a (z1b tyS9 rfl (z5q h11) rfl) ?_
   refine qe rfl ?_
   refine z0q ?_
   cases H
   exact ⟨trivial,⟨.inl rfl,trivial⟩,rfl⟩
theorem z9c (s p:Bs) (r:Bs) (H:z4v s p=some r):Fn Tryz.prog 85 [vstr s,vstr p] (z2f [vstr r]):=by
 unfold z4v at H
 cases H
 refine z8b (by kernel_rfl) fun M w vs hM h => ?_
 have hv:=z92 (us:=[.string ⟨s.toArray⟩,.string ⟨p.toArray⟩]) h
 subst hv
 refine (Tryz.strings_TrimPrefix ⟨s.toArray⟩ ⟨p.toArray⟩ w).mono ?_
 rintro e w' ⟨rfl,rfl⟩
 exact ⟨_,rfl,rfl,Kp.refl _ _⟩

theorem z06 (c1:Int) (r:(Int)) (H:z0y c1=some r):Fn Tryz.prog 147 [vval (.int .u8 c1)] (z2f [vval (.int .u8 r)]):=by
 refine ⟨by kernel_rfl,z2a (us:=[vval (.int .u8 r)]) Tryz.func147 rfl rfl rfl rfl fun X hN => ?_⟩
 unfold z0y at H
 refine z0c ?_
 refine z0b hN rfl ?_
 refine qe rfl ?_
 refine z0c ?_
 refine z0b hN rfl ?_
 refine qd rfl ?_
 refine z0a (z1e (x4h rfl rfl) rfl) ?_
 refine qe rfl ?_
 refine z0q ?_
 cases H
 exact ⟨trivial,.inl rfl,trivial⟩
end Go.Proofs.YtihjlkocfeoelaaGreatDoor
