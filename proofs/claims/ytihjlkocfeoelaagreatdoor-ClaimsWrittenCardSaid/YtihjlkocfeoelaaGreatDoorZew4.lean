/- Walks along the models. Printed by a program. -/
import Derived.Test.YtihjlkocfeoelaaGreatDoorZew3
namespace Go.Proofs.YtihjlkocfeoelaaGreatDoor
open Go.RowKit
set_option linter.unusedVariables false
set_option maxRecDepth 100000
set_option maxHeartbeats 2000000
theorem y11 (v1:Bs) (r:(z0f×Int×Int)) (H:z6e v1=some r):Fn Tryz.prog 9 [vstr v1] (z2f [vagg (z0w r.1),vint r.2.1,vint r.2.2]):=by
 refine ⟨by kernel_rfl,z2a (us:=[vagg (z0w r.1),vint r.2.1,vint r.2.2]) Tryz.func9 rfl rfl rfl rfl fun X hN => ?_⟩
 unfold z6e at H
 refine z0c ?_
 refine z0b hN rfl ?_
 refine z0k (z65 1 y0l rfl) rfl ?_
 refine qe rfl ?_
 refine qe rfl ?_
 refine z0c ?_
 refine z0c ?_
 refine z0b hN rfl ?_
 refine qd rfl ?_
 refine z0a (z1v tyU9 rfl) ?_
 refine z0a (z4y rfl rfl) ?_
 refine z0i _ rfl (fun h2 => ?_) (fun h2 => ?_)
 ·replace H:=ift h2 H
  refine z0c ?_
  refine z0b hN rfl ?_
  refine z0a (y1i (u':=vagg (z0w (z0f.mk [] [] [] [] [] [] 0 0))) (y1u (by exact ⟨z2v,z2v,z2v,z2v,z7g,z7g,z2v,z2v,trivial⟩)) (z7x [] y0l y5s rfl trivial)) ?_
  refine z0k (z4h z6c rfl rfl rfl rfl) rfl ?_
  refine qe rfl ?_
  refine qe rfl ?_
  refine z0q ?_
  cases H
  exact ⟨trivial,.inl ⟨_,_,_,z0w (z0f.mk [] [] [] [] [] [] 0 0),rfl,rfl,rfl,rfl,z6c⟩,.inl rfl,.inl rfl,trivial⟩
 ·replace H:=iff_ h2 H
  refine z0l ?_
  refine z0c ?_
  refine z0b hN rfl ?_
  refine z0a (y1i (u':=vagg (z16 (z0g.mk [] false 0 false))) (y1u (by exact ⟨z7g,z2v,z2v,z2v,trivial⟩)) (z7x [] x7q x7s rfl trivial)) ?_
  refine z0k (z9d 2 rfl) rfl ?_
  refine z0a (z2i (.ptr _ _) rfl) ?_
  refine z0c ?_
  refine z0b hN rfl ?_
  refine z0a (z0h (.ptr _ _) rfl) ?_
  refine z0a (z0h (.ptr _ _) rfl) ?_
  refine qd rfl ?_
  obtain ⟨r3,h4,H⟩:=bnd H
  refine z0a (z0s (y7j v1 r3 h4) ⟨.inl rfl,trivial⟩) ?_
  refine qd rfl ?_
  refine z0a (z2d rfl rfl) ?_
  refine z0a (z2d rfl rfl) ?_
  refine z0a (z1q rfl) ?_
  refine z0a (z0n y3d rfl) ?_
  refine z0k (z1g z6w rfl rfl rfl rfl) rfl ?_
  refine z0a (z1q rfl) ?_
  refine z0a (z0n y9v rfl) ?_
  refine z0k (z1g tyS4 rfl rfl rfl rfl) rfl ?_
  refine z0c ?_
  refine z0b hN rfl ?_
  refine z0a (y1i (u':=vagg (z0w (z0f.mk [] [] [] [] [] [] 0 0))) (y1u (by exact ⟨z2v,z2v,z2v,z2v,z7g,z7g,z2v,z2v,trivial⟩)) (z7x [] y0l y5s rfl trivial)) ?_
  refine z0k (z65 3 y0l rfl) rfl ?_
  refine z0k (z4h z6c rfl rfl rfl rfl) rfl ?_
  refine z0c ?_
  refine z0b hN rfl ?_
  refine z0a (z0h (.ptr _ _) rfl) ?_
  obtain ⟨r5,h6,H⟩:=bnd H
  refine z0k (z1k (z5k (z0g.mk r3.1 r3.2 0 false) [105,100] true r5 h6) rfl ⟨.inl rfl,.inl rfl,trivial⟩ rfl) rfl ?_
  refine z0a (z0n y0o rfl) ?_
  refine z0k (z1g tyS9 rfl rfl rfl rfl) rfl ?_
  refine z0c ?_
  refine z0b hN rfl ?_
  refine z0a (z0h (.ptr _ _) rfl) ?_
  obtain ⟨r7,h8,H⟩:=bnd H
  refine z0k (z1k (z5k r5.2 [115,117,98,106,101,99,116] true r7 h8) rfl ⟨.inl rfl,.inl rfl,trivial⟩ rfl) rfl ?_
  refine z0a (z0n y0n rfl) ?_
  refine z0k (z1g tyS9 rfl rfl rfl rfl) rfl ?_
  refine z0c ?_
  refine z0b hN rfl ?_
  refine z0a (z0h (.ptr _ _) rfl) ?_
  obtain ⟨r9,h10,H⟩:=bnd H
  refine z0k (z1k (z5k r7.2 [105,115,115,117,101,114] true r9 h10) rfl ⟨.inl rfl,.inl rfl,trivial⟩ rfl) rfl ?_
  refine z0a (z0n y0m rfl) ?_
  refine z0k (z1g tyS9 rfl rfl rfl rfl) rfl ?_
  refine z0c ?_
  refine z0b hN rfl ?_
  refine z0a (z0h (.ptr _ _) rfl) ?_
  obtain ⟨r11,h12,H⟩:=bnd H
  refine z0k (z1k (z5k r9.2 [112,97,114,101,110,116] false r11 h12) rfl ⟨.inl rfl,.inl rfl,trivial⟩ rfl) rfl ?_
  refine z0a (z0n z8n rfl) ?_
  refine z0k (z1g tyS9 rfl rfl rfl rfl) rfl ?_
  refine z0c ?_
  refine z0b hN rfl ?_
  refine z0a (z0h (.ptr _ _) rfl) ?_
  obtain ⟨r13,h14,H⟩:=bnd H
  refine z0k (z1k (z5c r11.2 [102,111,114] false r13 h14) rfl ⟨.inl rfl,.inl rfl,trivial⟩ rfl) rfl ?_
  refine z0a (z0n z8c rfl) ?_
  refine z0k (z1g z6w rfl rfl rfl rfl) rfl ?_
  refine z0c ?_
  refine z0b hN rfl ?_
  refine z0a (z0h (.ptr _ _) rfl) ?_
  obtain ⟨r15,h16,H⟩:=bnd H
  refine z0k (z1k (z5c r13.2 [109,97,121] false r15 h16) rfl ⟨.inl rfl,.inl rfl,trivial⟩ rfl) rfl ?_
  refine z0a (z0n z78 rfl) ?_
  refine z0k (z1g z6w rfl rfl rfl rfl) rfl ?_
  refine z0c ?_
  refine z0b hN rfl ?_
  refine z0a (z0h (.ptr _ _) rfl) ?_
  obtain ⟨r17,h18,H⟩:=bnd H
  refine z0k (z1k (z98 r15.2 r17 h18) rfl trivial rfl) rfl ?_
  refine qd rfl ?_
  refine z0a (z2d rfl rfl) ?_
  refine z0a (z2d rfl rfl) ?_
  refine z0a (z0n z85 rfl) ?_
  refine z0k (z1g tyS3 rfl rfl rfl rfl) rfl ?_
  refine z0a (z0n z84 rfl) ?_
  refine z0k (z1g tyS3 rfl rfl rfl rfl) rfl ?_
  refine z0c ?_
  refine z0c ?_
  refine z5v mixed hN rfl rfl ?_
  refine z0a (z0h (.ptr _ _) rfl) ?_
  refine z0a (z1q rfl) ?_
  refine z0a (z0n y03 rfl) ?_
  refine z0u (z0r tyS4 rfl rfl) rfl ?_
  refine qd rfl ?_
  refine z43 rfl rfl (fun hc=>z0h (.ptr _ _) rfl) ?_
  refine z43 rfl rfl (fun hc=>z1q (cnd (c:=(!r17.2.2.bad_)) hc)) ?_
  refine z43 rfl rfl (fun hc=>z0n z9m (cnd (c:=(!r17.2.2.bad_)) hc)) ?_
  refine y0s rfl rfl (fun hc=>z0r tyS3 (cnd (c:=(!r17.2.2.bad_)) hc) rfl) rfl y6l ?_
  refine z43 rfl rfl (fun hc=>z0h (.ptr _ _) rfl) ?_
  refine z43 rfl rfl (fun hc=>z1q (cnd (c:=(!r17.2.2.bad_)) hc)) ?_
  refine z43 rfl rfl (fun hc=>z0n y3d (cnd (c:=(!r17.2.2.bad_)) hc)) ?_
  refine y0s rfl rfl (fun hc=>z0r z6w (cnd (c:=(!r17.2.2.bad_)) hc) rfl) rfl y6l ?_
  refine z43 rfl rfl (fun hc=>z6g z6n (cnd (c:=(!r17.2.2.bad_)) hc)) ?_
  refine z43 rfl rfl (fun hc=>z1i (cnd (c:=(!r17.2.2.bad_)) hc) (cnd (c:=(!r17.2.2.bad_)) hc)) ?_
  refine z0a (z4q rfl rfl (fun hb=>(cnd (c:=(!r17.2.2.bad_)) (notI hb)))) ?_
  refine ⟨rfl,?_⟩
  refine z0i _ rfl (fun h19 => ?_) (fun h19 => ?_)
  ·replace H:=ift h19 H
   refine z0c ?_
   refine z5v mixed hN rfl rfl ?_
   refine z0a (y1i (u':=vagg (z0w (z0f.mk [] [] [] [] [] [] 0 0))) (y1u (by exact ⟨z2v,z2v,z2v,z2v,z7g,z7g,z2v,z2v,trivial⟩)) (z7x [] y0l y5s rfl trivial)) ?_
   refine z0a (z0h (.ptr _ _) rfl) ?_
   refine z0a (z1q rfl) ?_
   refine z0a (z0n z9m rfl) ?_
   refine z0u (z0r tyS3 rfl rfl) rfl ?_
   refine z0k (z4h z6c rfl rfl rfl rfl) rfl ?_
   refine qe rfl ?_
   refine qe rfl ?_
   refine ⟨rfl,?_⟩
   refine z0q ?_
   cases H
   exact ⟨trivial,.inl ⟨_,_,_,z0w (z0f.mk [] [] [] [] [] [] 0 0),rfl,rfl,rfl,rfl,z6c⟩,.inl rfl,.inl rfl,trivial⟩
  ·replace H:=iff_ h19 H
   refine z0l ?_
   refine z0c ?_
   refine z0c ?_
   refine z0b hN rfl ?_
   refine z0u (z5p z6c rfl rfl rfl) rfl ?_
   obtain ⟨r20,h21,H⟩:=bnd H
   refine z0a (z0s (z8a (z0f.mk r5.1 r7.1 r9.1 r11.1 r13.1 r15.1 r17.1 r17.2.1) r20 h21) ⟨.inl rfl,trivial⟩) ?_
   refine qe rfl ?_
   refine z0c ?_
   refine z0b hN rfl ?_
   refine qd rfl ?_
   refine z0a (z8o rfl rfl) ?_
   refine z0i _ rfl (fun h22 => ?_) (fun h22 => ?_)
   ·replace H:=ift h22 H
    refine z0c ?_
    refine z0b hN rfl ?_
    refine z0a (y1i (u':=vagg (z0w (z0f.mk [] [] [] [] [] [] 0 0))) (y1u (by exact ⟨z2v,z2v,z2v,z2v,z7g,z7g,z2v,z2v,trivial⟩)) (z7x [] y0l y5s rfl trivial)) ?_
    refine qd rfl ?_
    refine z0k (z4h z6c rfl rfl rfl rfl) rfl ?_
    refine qe rfl ?_
    refine qe rfl ?_
    refine z0q ?_
    cases H
    exact ⟨trivial,.inl ⟨_,_,_,z0w (z0f.mk [] [] [] [] [] [] 0 0),rfl,rfl,rfl,rfl,z6c⟩,.inl rfl,.inl rfl,trivial⟩
   ·replace H:=iff_ h22 H
    refine z0l ?_
    refine z0c ?_
    refine z0b hN rfl ?_
    refine z0u (z5p z6c rfl rfl rfl) rfl ?_
    refine z0k (z4h z6c rfl rfl rfl rfl) rfl ?_
    refine qe rfl ?_
    refine qe rfl ?_
    refine z0q ?_
    cases H
    exact ⟨trivial,.inl ⟨_,_,_,z0w (z0f.mk r5.1 r7.1 r9.1 r11.1 r13.1 r15.1 r17.1 r17.2.1),rfl,rfl,rfl,rfl,z6c⟩,.inl rfl,.inl rfl,trivial⟩
theorem y0x (s1:Bs) (r:(Bool)) (H:z3z s1=some r):Fn Tryz.prog 34 [vstr s1] (z2f [z02 r]):=by
 refine ⟨by kernel_rfl,z2a (us:=[z02 r]) Tryz.func34 rfl rfl rfl rfl fun X hN => ?_⟩
 unfold z3z at H
 refine z0c ?_
 refine z0b hN rfl ?_
 refine qe rfl ?_
 refine z0c ?_
 refine z0b hN rfl ?_
 refine qd rfl ?_
 refine z0a (z7d rfl rfl) ?_
 refine qd rfl ?_
 refine z4w rfl rfl (fun hc=>z0h (.dat _) rfl) ?_
 refine z4w rfl rfl (fun hc=>z7d (cnd (c:=(decide (s1≠[112,97,114,101,110,116]))) hc) rfl) ?_
 refine z0a (z1w rfl (fun hb=>(cnd (c:=(decide (s1≠[112,97,114,101,110,116]))) hb)) rfl) ?_
 refine qd rfl ?_
 refine z4w rfl rfl (fun hc=>z0h (.dat _) rfl) ?_
 refine z4w rfl rfl (fun hc=>z7d (cnd (c:=((decide (s1≠[112,97,114,101,110,116])) && (decide (s1≠[102,111,114])))) hc) rfl) ?_
 refine z0a (z1w rfl (fun hb=>(cnd (c:=((decide (s1≠[112,97,114,101,110,116])) && (decide (s1≠[102,111,114])))) hb)) rfl) ?_
 refine qe rfl ?_
 refine z0q ?_
 cases H
 exact ⟨trivial,.inl rfl,trivial⟩
theorem y0f (s1:Bs) (most2:Int) (r:(Int×Bool)) (H:z4i s1 most2=some r):Fn Tryz.prog 62 [vstr s1,vint most2] (z2f [vint r.1,z02 r.2]):=by
 refine ⟨by kernel_rfl,z2a (us:=[vint r.1,z02 r.2]) Tryz.func62 rfl rfl rfl rfl fun X hN => ?_⟩
 unfold z4i at H
 refine z0c ?_
 refine z0b hN rfl ?_
 refine qe rfl ?_
 refine qe rfl ?_
 refine z0c ?_
 refine z0b hN rfl ?_
 refine qd rfl ?_
 obtain ⟨r3,h4,H⟩:=bnd H
 refine z0a (z0s (z9c s1 [45] r3 h4) ⟨.inl rfl,.inl rfl,trivial⟩) ?_
 refine qe rfl ?_
 refine z0c ?_
 refine z0z (ι:=Bool) (fun i=>[(0,.dat (vstr s1)),(23,.dat (z02 i))]) (fun i=>[]) (fun i=>z2e s1 i=some r) (fun i=>rfl) ?_ ?_
 ·skip
  refine z0b hN rfl ?_
  refine qd rfl ?_
  refine z0a (z56 rfl rfl) ?_
  refine qd rfl ?_
  refine z04 (j:=2) rfl rfl (fun h5 => ?_) (fun h5 => ?_) rfl
  ·have h6:=un3 h5
   replace H:=iff_ h6 H
   refine z0m rfl rfl h5 (z0h (.dat _) rfl) ?_
   refine z0m rfl rfl h5 (z1v tyU9 rfl) ?_
   refine z0m rfl rfl h5 (z0h (.dat _) rfl) ?_
   refine z0m rfl rfl h5 (z4y rfl rfl) ?_
   refine z0a (z0o rfl (bFF h6) rfl) ?_
   refine qd rfl ?_
   refine z04 (j:=8) rfl rfl (fun h7 => ?_) (fun h7 => ?_) rfl
   ·have h8:=un3 h7
    replace H:=iff_ h8 H
    refine z0m rfl rfl h7 (z0h (.dat _) rfl) ?_
    obtain ⟨r9,h10,H⟩:=bnd H
    refine z0m rfl rfl h7 (z0s (z9z r3 [48,49,50,51,52,53,54,55,56,57] r9 h10) ⟨.inl rfl,.inl rfl,trivial⟩) ?_
    refine z0m rfl rfl h7 (z4x rfl) ?_
    refine z0a (z0o rfl (bFF h8) rfl) ?_
    exact ⟨!r9,H,⟨rfl,rfl,trivial⟩,trivial⟩
   ·have h11:=un4 h7
    replace H:=ift h11 H
    refine z0e rfl rfl h7 ?_
    refine z0e rfl rfl h7 ?_
    refine z0e rfl rfl h7 ?_
    refine z0a (z0t rfl (bTT h11) rfl) ?_
    exact ⟨true,H,⟨rfl,rfl,trivial⟩,trivial⟩
  ·have h12:=un4 h5
   replace H:=ift h12 H
   refine z0e rfl rfl h5 ?_
   refine z0e rfl rfl h5 ?_
   refine z0e rfl rfl h5 ?_
   refine z0e rfl rfl h5 ?_
   refine z0a (z0t rfl (bTT h12) rfl) ?_
   refine qd rfl ?_
   refine z0e rfl rfl rfl ?_
   refine z0e rfl rfl rfl ?_
   refine z0e rfl rfl rfl ?_
   refine z0a (z0t rfl rfl rfl) ?_
   exact ⟨true,H,⟨rfl,rfl,trivial⟩,trivial⟩
 ·rintro v13 H
  replace H:z2e s1 v13=some r:=H
  unfold z2e at H
  refine z0i _ rfl (fun h14 => ?_) (fun h14 => ?_)
  ·replace H:=ift h14 H
   refine z0c ?_
   refine z0b hN rfl ?_
   refine qe rfl ?_
   refine qe rfl ?_
   refine z0q ?_
   cases H
   exact ⟨trivial,.inl rfl,.inl rfl,trivial⟩
  ·replace H:=iff_ h14 H
   refine z0l ?_
   refine z0c ?_
   refine z0b hN rfl ?_
   refine qd rfl ?_
   obtain ⟨r15,h16,H⟩:=bnd H
   refine z0a (z0s (y1k s1 r15 h16) ⟨.inl rfl,trivial⟩) ?_
   refine qd rfl ?_
   refine z0a (z2d rfl rfl) ?_
   refine z0a (z2d rfl rfl) ?_
   refine qe rfl ?_
   refine qe rfl ?_
   refine z0z (ι:=Bool) (fun i=>[(4,.dat (vint r15.1)),(5,.dat (z02 i))]) (fun i=>[]) (fun i=>z5l r15 i=some r) (fun i=>rfl) ?_ ?_
   ·skip
    refine z0b hN rfl ?_
    refine qd rfl ?_
    refine qd rfl ?_
    refine z0a (y4a (n:=r15.2) (show Tryz.prog.underlying 82=some (.interface (Tryz.prog.methodsAt 82)) from by kernel_rfl) rfl) ?_
    refine qd rfl ?_
    refine z04 (j:=3) rfl rfl (fun h17 => ?_) (fun h17 => ?_) rfl
    ·have h18:=un1 h17
     replace H:=ift h18 H
     refine z0m rfl rfl h17 (z0h (.dat _) rfl) ?_
     obtain ⟨r19,h20,H⟩:=bnd H
     refine z0m rfl rfl h17 (z0s (z73 r15.1 r19 h20) ⟨.inl rfl,trivial⟩) ?_
     refine z0m rfl rfl h17 (z0h (.dat _) rfl) ?_
     refine z0m rfl rfl h17 (z56 rfl rfl) ?_
     refine z0a (z0t rfl (bTT h18) rfl) ?_
     refine qe rfl ?_
     refine qe rfl ?_
     exact ⟨decide (r19=s1),H,⟨rfl,rfl,trivial⟩,trivial⟩
    ·have h21:=un2 h17
     replace H:=iff_ h21 H
     refine z0e rfl rfl h17 ?_
     refine z0e rfl rfl h17 ?_
     refine z0e rfl rfl h17 ?_
     refine z0e rfl rfl h17 ?_
     refine z0a (z0o rfl (bFF h21) rfl) ?_
     refine qe rfl ?_
     refine qe rfl ?_
     exact ⟨false,H,⟨rfl,rfl,trivial⟩,trivial⟩
   ·rintro v22 H
    replace H:z5l r15 v22=some r:=H
    unfold z5l at H
    refine z0q ?_
    cases H
    exact ⟨trivial,.inl rfl,.inl rfl,trivial⟩
theorem y5c (s1:z0f) (v2:(List Bs)) (r:(Bool×z0f)) (H:z5b s1 v2=some r):Imp Tryz.prog 36 28 (z0w s1) [vlst (List.map z0j v2)] (z2f [z02 r.1]) (z0w r.2):=by
 refine z81 (us:=[z02 r.1]) (cs':=(z0w r.2)) (by kernel_rfl) Tryz.func36 rfl rfl rfl rfl fun X bl hN => ?_
 unfold z5b at H
 refine z0c ?_
 refine z0b hN rfl ?_
 refine qe rfl ?_
 refine z0c ?_
 refine z0c ?_
 refine z0b hN rfl ?_
 refine qd rfl ?_
 obtain ⟨x3,h4,H⟩:=bnd H
 refine z0a (z93 z7t (fun _=>rfl) rfl rfl h4) ?_
 refine z0a (z1b tyS9 rfl (z5q h4) rfl) ?_
 refine z01 ?_
 refine z0c ?_
 refine z0b hN rfl ?_
 refine z0a (z56 rfl rfl) ?_
 refine qe rfl ?_
 refine z0i _ rfl (fun h5 => ?_) (fun h5 => ?_)
 ·replace H:=ift h5 H
  refine z0c ?_
  refine z0b hN rfl ?_
  refine z0a (z0h (.ptr _ _) rfl) ?_
  refine qd rfl ?_
  obtain ⟨l6,h7,H⟩:=bnd H
  refine z0a (y7v z7t (fun _=>rfl) rfl rfl rfl h7) ?_
  refine z0a (z1q rfl) ?_
  refine z0a (z0n z8c rfl) ?_
  refine z0k (z1g z6w rfl rfl rfl rfl) rfl ?_
  refine z0c ?_
  refine z0b hN rfl ?_
  refine qd rfl ?_
  refine z0a (z6g z6n rfl) ?_
  refine z0a (z4y rfl rfl) ?_
  refine qe rfl ?_
  refine z0q ?_
  cases H
  exact ⟨trivial,⟨.inl rfl,trivial⟩,rfl⟩
 ·replace H:=iff_ h5 H
  refine z0c ?_
  refine z0b hN rfl ?_
  refine z0a (z56 rfl rfl) ?_
  refine qe rfl ?_
  refine z0i _ rfl (fun h8 => ?_) (fun h8 => ?_)
  ·replace H:=ift h8 H
   refine z0c ?_
   refine z0b hN rfl ?_
   refine z0a (z0h (.ptr _ _) rfl) ?_
   refine qd rfl ?_
   obtain ⟨l9,h10,H⟩:=bnd H
   refine z0a (y7v z7t (fun _=>rfl) rfl rfl rfl h10) ?_
   refine z0a (z1q rfl) ?_
   refine z0a (z0n z78 rfl) ?_
   refine z0k (z1g z6w rfl rfl rfl rfl) rfl ?_
   refine z0c ?_
   refine z0b hN rfl ?_
   refine qd rfl ?_
   refine z0a (z6g z6n rfl) ?_
   refine z0a (z4y rfl rfl) ?_
   refine qe rfl ?_
   refine z0q ?_
   cases H
   exact ⟨trivial,⟨.inl rfl,trivial⟩,rfl⟩
  ·replace H:=iff_ h8 H
   refine z0c ?_
   refine z0b hN rfl ?_
   refine z0a (z56 rfl rfl) ?_
   refine qe rfl ?_
   refine z0i _ rfl (fun h11 => ?_) (fun h11 => ?_)
   ·replace H:=ift h11 H
    refine z0c ?_
    refine z0c ?_
    refine z0b hN rfl ?_
    refine qd rfl ?_
    refine z0a (z6g z6n rfl) ?_
    refine z0a (z8o rfl rfl) ?_
    refine z0i _ rfl (fun h12 => ?_) (fun h12 => ?_)
    ·replace H:=ift h12 H
     refine z0c ?_
     refine z0b hN rfl ?_
     refine qe rfl ?_
     refine z0q ?_
     cases H
     exact ⟨trivial,⟨.inl rfl,trivial⟩,rfl⟩
    ·replace H:=iff_ h12 H
     refine z0l ?_
     refine z0c ?_
     refine z0b hN rfl ?_
     refine qe rfl ?_
     refine qe rfl ?_
     refine z0c ?_
     refine z0b hN rfl ?_
     refine z0a (z0h (.ptr _ _) rfl) ?_
     refine qd rfl ?_
     obtain ⟨x13,h14,H⟩:=bnd H
     refine z0a (z93 z7t (fun _=>rfl) rfl rfl h14) ?_
     refine z0a (z1b tyS9 rfl (z5q h14) rfl) ?_
     obtain ⟨r15,h16,H⟩:=bnd H
     refine z0a (z0s (y0f x13 15 r15 h16) ⟨.inl rfl,.inl rfl,trivial⟩) ?_
     refine qd rfl ?_
     refine z0a (z2d rfl rfl) ?_
     refine z0a (z2d rfl rfl) ?_
     refine z0a (z1q rfl) ?_
     refine z0a (z0n z85 rfl) ?_
     refine z0k (z1g tyS3 rfl rfl rfl rfl) rfl ?_
     refine qe rfl ?_
     refine z0c ?_
     refine z0b hN rfl ?_
     refine z0a (z0h (.ptr _ _) rfl) ?_
     refine qd rfl ?_
     obtain ⟨x17,h18,H⟩:=bnd H
     refine z0a (z93 z7t (fun _=>rfl) rfl rfl h18) ?_
     refine z0a (z1b tyS9 rfl (z5q h18) rfl) ?_
     obtain ⟨r19,h20,H⟩:=bnd H
     refine z0a (z0s (y0f x17 15 r19 h20) ⟨.inl rfl,.inl rfl,trivial⟩) ?_
     refine qd rfl ?_
     refine z0a (z2d rfl rfl) ?_
     refine z0a (z2d rfl rfl) ?_
     refine z0a (z1q rfl) ?_
     refine z0a (z0n z84 rfl) ?_
     refine z0k (z1g tyS3 rfl rfl rfl rfl) rfl ?_
     refine qe rfl ?_
     refine z0c ?_
     refine z0b hN rfl ?_
     refine qd rfl ?_
     refine qd rfl ?_
     refine z4w rfl rfl (fun hc=>z0h (.dat _) rfl) ?_
     refine z0a (z1w rfl (fun hb=>(cnd (c:=r15.2) hb)) rfl) ?_
     refine qe rfl ?_
     refine z0q ?_
     cases H
     exact ⟨trivial,⟨.inl rfl,trivial⟩,rfl⟩
   ·replace H:=iff_ h11 H
    refine z0l ?_
    refine z0c ?_
    refine z0c ?_
    refine z0b hN rfl ?_
    refine qd rfl ?_
    refine z0a (z6g z6n rfl) ?_
    refine z0a (z8o rfl rfl) ?_
    refine z0i _ rfl (fun h21 => ?_) (fun h21 => ?_)
    ·replace H:=ift h21 H
     refine z0c ?_
     refine z0b hN rfl ?_
     refine qe rfl ?_
     refine z0q ?_
     cases H
     exact ⟨trivial,⟨.inl rfl,trivial⟩,rfl⟩
    ·replace H:=iff_ h21 H
     refine z0l ?_
     refine z0c ?_
     refine x11 (MTP bl) 1 mixed hN rfl rfl ?_
     refine y50 (x41 1 (z2p bl)) rfl ?_
     refine z5y (z0h (.ptr _ _) rfl) ?_
     refine z5y (z1q rfl) ?_
     refine y0c (y23 (z0n y0o rfl) rfl) rfl ?_
     obtain ⟨h22,H⟩:=gif H
     refine y25 (p:=(([105,100]:Bs),(0:Int))) (y22 [105,100] (0:Int) (z2p bl) rfl rfl rfl h22) rfl (by decide) ?_
     refine z5y (z0h (.ptr _ _) rfl) ?_
     refine z5y (z1q rfl) ?_
     refine y0c (y23 (z0n y0n rfl) rfl) rfl ?_
     obtain ⟨h23,H⟩:=gif H
     refine y25 (p:=(([115,117,98,106,101,99,116]:Bs),(1:Int))) (y22 [115,117,98,106,101,99,116] (1:Int) (z2p bl) rfl rfl rfl h23) rfl (by decide) ?_
     refine z5y (z0h (.ptr _ _) rfl) ?_
     refine z5y (z1q rfl) ?_
     refine y0c (y23 (z0n y0m rfl) rfl) rfl ?_
     obtain ⟨h24,H⟩:=gif H
     refine y25 (p:=(([105,115,115,117,101,114]:Bs),(2:Int))) (y22 [105,115,115,117,101,114] (2:Int) (z2p bl) rfl rfl rfl h24) rfl (by decide) ?_
     refine z5y (z0h (.ptr _ _) rfl) ?_
     refine z5y (z1q rfl) ?_
     refine y0c (y23 (z0n z8n rfl) rfl) rfl ?_
     obtain ⟨h25,H⟩:=gif H
     refine y25 (p:=(([112,97,114,101,110,116]:Bs),(3:Int))) (y22 [112,97,114,101,110,116] (3:Int) (z2p bl) rfl rfl rfl h25) rfl (by decide) ?_
     refine z5y (z0h (.mp _) rfl) ?_
     refine z5y (z0h (.dat _) rfl) ?_
     refine z5y (z93 z7t (fun _=>rfl) rfl rfl h4) ?_
     refine z5y (z1b tyS9 rfl (z5q h4) rfl) ?_
     obtain ⟨h26,H⟩:=gif H
     refine y0c (z1e (u':=vval (ptI bl ((lkG ([([105,100],(0:Int)),([115,117,98,106,101,99,116],(1:Int)),([105,115,115,117,101,114],(2:Int)),([112,97,114,101,110,116],(3:Int))]:List (Bs×Int)) x3).getD (-1)))) (y94 ([([105,100],(0:Int)),([115,117,98,106,101,99,116],(1:Int)),([105,115,115,117,101,114],(2:Int)),([112,97,114,101,110,116],(3:Int))]:List (Bs×Int)) x3 (z2p bl) rfl rfl h26) rfl) rfl ?_
     refine z5y (z0h (.dat _) rfl) ?_
     obtain ⟨x27,h28,H⟩:=bnd H
     refine z5y (z93 z7t (fun _=>rfl) rfl rfl h28) ?_
     refine z5y (z1b tyS9 rfl (z5q h28) rfl) ?_
     obtain ⟨h29,H⟩:=gif H
     refine y0c (y82 (id:=0) (x2x (y0b h29) rfl) rfl) rfl ?_
     obtain ⟨c30,h31,H⟩:=bnd H
     refine y50 (y84 tyS9 rfl rfl rfl (z97 (c:=s1) h29 h31)) rfl ?_
     refine ⟨rfl,by decide,?_⟩
     refine z0c ?_
     refine z0b hN rfl ?_
     refine qe rfl ?_
     refine z0q ?_
     cases H
     exact ⟨trivial,⟨.inl rfl,trivial⟩,rfl⟩
theorem y07 (v1:Bs) (r:(z0f×Int×Int)) (H:z5f v1=some r):Fn Tryz.prog 10 [vstr v1] (z2f [vagg (z0w r.1),vint r.2.1,vint r.2.2]):=by
 refine ⟨by kernel_rfl,z2a (us:=[vagg (z0w r.1),vint r.2.1,vint r.2.2]) Tryz.func10 rfl rfl rfl rfl fun X hN => ?_⟩
 unfold z5f at H
 refine z0c ?_
 refine z0b hN rfl ?_
 refine z0k (z65 1 y0l rfl) rfl ?_
 refine qe rfl ?_
 refine qe rfl ?_
 refine z0c ?_
 refine z0b hN rfl ?_
 refine z0k (z65 2 y0l rfl) rfl ?_
 refine z0c ?_
 refine z0c ?_
 refine z0b hN rfl ?_
 refine qd rfl ?_
 refine z0a (z1v tyU9 rfl) ?_
 refine z0a (z4y rfl rfl) ?_
 refine z0i _ rfl (fun h2 => ?_) (fun h2 => ?_)
 ·replace H:=ift h2 H
  refine z0c ?_
  refine z0b hN rfl ?_
  refine z0u (y1i (u':=vagg (z0w (z0f.mk [] [] [] [] [] [] 0 0))) (y1u (by exact ⟨z2v,z2v,z2v,z2v,z7g,z7g,z2v,z2v,trivial⟩)) (z5p z6c rfl rfl rfl)) rfl ?_
  refine z0k (z4h z6c rfl rfl rfl rfl) rfl ?_
  refine qe rfl ?_
  refine qe rfl ?_
  refine z0q ?_
  cases H
  exact ⟨trivial,.inl ⟨_,_,_,z0w (z0f.mk [] [] [] [] [] [] 0 0),rfl,rfl,rfl,rfl,z6c⟩,.inl rfl,.inl rfl,trivial⟩
 ·replace H:=iff_ h2 H
  refine z0l ?_
  refine z0c ?_
  refine z0b hN rfl ?_
  refine z0a (z1e (u':=vlst (List.map z0j [[105,100],[115,117,98,106,101,99,116],[105,115,115,117,101,114],[112,97,114,101,110,116],[102,111,114],[109,97,121],[116,105,109,101]])) (z3t [[_],[_],[_],[_],[_],[_],[_]] z6o ⟨rfl,.inl ⟨_,rfl,rfl,rfl⟩,rfl,rfl,.inl ⟨_,rfl,rfl,rfl⟩,rfl,rfl,.inl ⟨_,rfl,rfl,rfl⟩,rfl,rfl,.inl ⟨_,rfl,rfl,rfl⟩,rfl,rfl,.inl ⟨_,rfl,rfl,rfl⟩,rfl,rfl,.inl ⟨_,rfl,rfl,rfl⟩,rfl,rfl,.inl ⟨_,rfl,rfl,rfl⟩,rfl,trivial⟩ rfl rfl) rfl) ?_
  refine qe rfl ?_
  refine z0c ?_
  refine z0b hN rfl ?_
  refine qe rfl ?_
  refine z0z (ι:=Bs×Bs×Bs×Bs×(List Bs)×(List Bs)×Int×Int) (fun i=>[(2,.ptr 1 0),(5,.ptr 2 0)]) (fun i=>[(1,.box none 28 [.dat (vstr []),.dat (vstr []),.dat (vstr []),.dat (vstr []),.dat (vnil),.dat (vnil),.dat (vint 0),.dat (vint 0)]),(2,.box none 28 [.dat (vstr i.1),.dat (vstr i.2.1),.dat (vstr i.2.2.1),.dat (vstr i.2.2.2.1),.dat (vlst (List.map z0j i.2.2.2.2.1)),.dat (vlst (List.map z0j i.2.2.2.2.2.1)),.dat (vint i.2.2.2.2.2.2.1),.dat (vint i.2.2.2.2.2.2.2)])]) (fun i=>z45 i.1 i.2.1 i.2.2.1 i.2.2.2.1 i.2.2.2.2.1 i.2.2.2.2.2.1 i.2.2.2.2.2.2.1 i.2.2.2.2.2.2.2=some r) (fun i=>rfl) ?_ ?_
  ·skip
   refine z0c ?_
   refine z0b hN rfl ?_
   refine qe rfl ?_
   refine z01 ?_
   refine x1x 2 4 (.dat (vlst [])) rfl rfl (fun g w M v h=>z7g w M v h) ?_
   refine x1x 2 5 (.dat (vlst [])) rfl rfl (fun g w M v h=>z7g w M v h) ?_
   refine y29 (fun (s:Bs×Int×Int×Bs×Bs×Bs×Bs×(List Bs)×(List Bs)×Int×Int)=>[(0,.dat (vstr s.1)),(2,.ptr 1 0),(5,.ptr 2 0),(6,.dat (vlst (List.map z0j ([[105,100],[115,117,98,106,101,99,116],[105,115,115,117,101,114],[112,97,114,101,110,116],[102,111,114],[109,97,121],[116,105,109,101]])))),(7,.dat (vint s.2.1)),(8,.dat (vint s.2.2.1))]) (fun (s:Bs×Int×Int×Bs×Bs×Bs×Bs×(List Bs)×(List Bs)×Int×Int)=>[(1,.box none 28 [.dat (vstr []),.dat (vstr []),.dat (vstr []),.dat (vstr []),.dat (vnil),.dat (vnil),.dat (vint 0),.dat (vint 0)]),(2,.box none 28 [.dat (vstr s.2.2.2.1),.dat (vstr s.2.2.2.2.1),.dat (vstr s.2.2.2.2.2.1),.dat (vstr s.2.2.2.2.2.2.1),.dat (vlst (List.map z0j s.2.2.2.2.2.2.2.1)),.dat (vlst (List.map z0j s.2.2.2.2.2.2.2.2.1)),.dat (vint s.2.2.2.2.2.2.2.2.2.1),.dat (vint s.2.2.2.2.2.2.2.2.2.2)])]) (v1,0,0,[],[],[],[],([]:(List Bs)),([]:(List Bs)),0,0) H ⟨rfl,rfl,rfl,rfl,rfl,rfl,trivial⟩ ⟨rfl,rfl,trivial⟩ (fun _=>rfl) ?_
   rintro ⟨v3,v4,v5,c6,c7,c8,c9,c10,c11,c12,c13⟩ q14 H hq14
   replace H:z1p v3 v4 v5 c6 c7 c8 c9 c10 c11 c12 c13=some q14:=H
   unfold z1p at H
   refine z0c ?_
   refine z01 ?_
   refine z0c ?_
   refine z0c ?_
   refine z0b hN rfl ?_
   refine qd rfl ?_
   refine z0a (z56 rfl rfl) ?_
   refine z0i _ rfl (fun h15 => ?_) (fun h15 => ?_)
   ·replace H:=ift h15 H
    refine z0c ?_
    refine z0c ?_
    refine z0b hN rfl ?_
    refine qd rfl ?_
    refine qd rfl ?_
    refine z0a (z6g z6n rfl) ?_
    refine z0a (z10 rfl rfl) ?_
    refine z0i _ rfl (fun h16 => ?_) (fun h16 => ?_)
    ·replace H:=ift h16 H
     refine z34 ?_
     replace H:=outl H hq14
     exact ⟨(c6,c7,c8,c9,c10,c11,c12,c13),H,⟨rfl,rfl,trivial⟩,⟨rfl,rfl,trivial⟩⟩
    ·replace H:=iff_ h16 H
     refine z0l ?_
     refine z0c ?_
     refine z0b hN rfl ?_
     refine z0a (y1i (u':=vagg (z0w (z0f.mk [] [] [] [] [] [] 0 0))) (y1u (by exact ⟨z2v,z2v,z2v,z2v,z7g,z7g,z2v,z2v,trivial⟩)) (z7x [] y0l y5s rfl trivial)) ?_
     refine qd rfl ?_
     refine z0k (z4h z6c rfl rfl rfl rfl) rfl ?_
     refine qe rfl ?_
     refine qe rfl ?_
     refine z0q ?_
     replace H:=retl H hq14
     cases H
     exact ⟨trivial,.inl ⟨_,_,_,z0w (z0f.mk [] [] [] [] [] [] 0 0),rfl,rfl,rfl,rfl,z6c⟩,.inl rfl,.inl rfl,trivial⟩
   ·replace H:=iff_ h15 H
    refine z0l ?_
    refine z0c ?_
    refine z0b hN rfl ?_
    refine qd rfl ?_
    obtain ⟨r17,h18,H⟩:=bnd H
    refine z0a (z0s (y13 v3 [10] r17 h18) ⟨.inl rfl,.inl rfl,trivial⟩) ?_
    refine qd rfl ?_
    refine z0a (z2d rfl rfl) ?_
    refine z0a (z2d rfl rfl) ?_
    refine z0a (z2d rfl rfl) ?_
    refine qe rfl ?_
    refine qe rfl ?_
    refine qe rfl ?_
    refine z0c ?_
    refine z0b hN rfl ?_
    refine qd rfl ?_
    obtain ⟨r19,h20,H⟩:=bnd H
    refine z0a (z0s (z7m r17.1 [32] r19 h20) ⟨.inl rfl,.inl rfl,trivial⟩) ?_
    refine qe rfl ?_
    refine z0c ?_
    refine z0b hN rfl ?_
    refine qd rfl ?_
    refine qd rfl ?_
    obtain ⟨x21,h22,H⟩:=bnd H
    refine z0a (z93 z7t (fun _=>rfl) rfl rfl h22) ?_
    refine z0a (z1b tyS9 rfl (z5q h22) rfl) ?_
    obtain ⟨r23,h24,H⟩:=bnd H
    refine z0a (z0s (z6v ([[105,100],[115,117,98,106,101,99,116],[105,115,115,117,101,114],[112,97,114,101,110,116],[102,111,114],[109,97,121],[116,105,109,101]]) x21 r23 h24) ⟨.inl rfl,.inl rfl,trivial⟩) ?_
    refine qe rfl ?_
    refine z0c ?_
    refine z0b hN rfl ?_
    refine qd rfl ?_
    refine qd rfl ?_
    refine qd rfl ?_
    refine qd rfl ?_
    refine z0a (x43 rfl rfl) ?_
    obtain ⟨l25,h26,H⟩:=bnd H
    refine z0a (y7v z7t (fun _=>rfl) rfl rfl rfl h26) ?_
    refine qe rfl ?_
    refine z0c ?_
    refine z0b hN rfl ?_
    refine qd rfl ?_
    obtain ⟨r27,h28,H⟩:=bnd H
    refine z0a (y98 (z33 l25 (fun (a0:Bs)=>z3z a0) 34 [] (fun a0 r h=>y0x a0 r h) r27 h28) ⟨.inl (.inl rfl),.inr ⟨_,rfl,rfl⟩,trivial⟩) ?_
    refine qe rfl ?_
    refine z0c ?_
    refine z0z (ι:=Bool×Bs×Bs×Bs×Bs×(List Bs)×(List Bs)×Int×Int) (fun i=>[(2,.ptr 1 0),(5,.ptr 2 0),(6,.dat (vlst (List.map z0j ([[105,100],[115,117,98,106,101,99,116],[105,115,115,117,101,114],[112,97,114,101,110,116],[102,111,114],[109,97,121],[116,105,109,101]])))),(8,.dat (vint v5)),(10,.dat (vstr r17.2.1)),(13,.dat (vint r23)),(71,.dat (z02 i.1))]) (fun i=>[(1,.box none 28 [.dat (vstr []),.dat (vstr []),.dat (vstr []),.dat (vstr []),.dat (vnil),.dat (vnil),.dat (vint 0),.dat (vint 0)]),(2,.box none 28 [.dat (vstr i.2.1),.dat (vstr i.2.2.1),.dat (vstr i.2.2.2.1),.dat (vstr i.2.2.2.2.1),.dat (vlst (List.map z0j i.2.2.2.2.2.1)),.dat (vlst (List.map z0j i.2.2.2.2.2.2.1)),.dat (vint i.2.2.2.2.2.2.2.1),.dat (vint i.2.2.2.2.2.2.2.2)])]) (fun i=>z1u v5 r17 r23 i.1 i.2.1 i.2.2.1 i.2.2.2.1 i.2.2.2.2.1 i.2.2.2.2.2.1 i.2.2.2.2.2.2.1 i.2.2.2.2.2.2.2.1 i.2.2.2.2.2.2.2.2=some q14) (fun i=>rfl) ?_ ?_
    ·skip
     refine z0b hN rfl ?_
     refine qd rfl ?_
     refine z0a (z4x rfl) ?_
     refine qd rfl ?_
     refine z04 (j:=2) rfl rfl (fun h29 => ?_) (fun h29 => ?_) rfl
     ·have h30:=un3 h29
      replace H:=iff_ h30 H
      refine z0m rfl rfl h29 (z0h (.dat _) rfl) ?_
      refine z0m rfl rfl h29 (z0h (.dat _) rfl) ?_
      refine z0m rfl rfl h29 (z1i rfl rfl) ?_
      refine z0a (z0o rfl (bFF h30) rfl) ?_
      refine qd rfl ?_
      refine z04 (j:=7) rfl rfl (fun h31 => ?_) (fun h31 => ?_) rfl
      ·have h32:=un3 h31
       replace H:=iff_ h32 H
       refine z0m rfl rfl h31 (z0h (.dat _) rfl) ?_
       refine z0a (z0o rfl (bFF h32) rfl) ?_
       refine qd rfl ?_
       refine z04 (j:=10) rfl rfl (fun h33 => ?_) (fun h33 => ?_) rfl
       ·have h34:=un3 h33
        replace H:=iff_ h34 H
        refine z0m rfl rfl h33 (z0h (.dat _) rfl) ?_
        obtain ⟨r35,h36,H⟩:=bnd H
        refine z0m rfl rfl h33 (z0s (z6b r19 [] r35 h36) ⟨.inl rfl,.inl rfl,trivial⟩) ?_
        refine z0a (z0o rfl (bFF h34) rfl) ?_
        refine qd rfl ?_
        refine z04 (j:=14) rfl rfl (fun h37 => ?_) (fun h37 => ?_) rfl
        ·have h38:=un3 h37
         replace H:=iff_ h38 H
         refine z0m rfl rfl h37 (z0h (.dat _) rfl) ?_
         obtain ⟨r39,h40,H⟩:=bnd H
         refine x6z rfl rfl h37 (z1k (y5c (z0f.mk c6 c7 c8 c9 c10 c11 c12 c13) r19 r39 h40) rfl ⟨.inl rfl,trivial⟩ rfl) rfl ?_
         refine z0m rfl rfl h37 (z4x rfl) ?_
         refine z0a (z0o rfl (bFF h38) rfl) ?_
         exact ⟨(!r39.1,r39.2.Id,r39.2.Subject,r39.2.Issuer,r39.2.Parent,r39.2.Audience,r39.2.Scopes,r39.2.From,r39.2.To),H,⟨rfl,rfl,rfl,rfl,rfl,rfl,rfl,trivial⟩,⟨rfl,rfl,trivial⟩⟩
        ·have h41:=un4 h37
         replace H:=ift h41 H
         refine z0e rfl rfl h37 ?_
         refine z0e rfl rfl h37 ?_
         refine z0e rfl rfl h37 ?_
         refine z0a (z0t rfl (bTT h41) rfl) ?_
         exact ⟨(true,c6,c7,c8,c9,c10,c11,c12,c13),H,⟨rfl,rfl,rfl,rfl,rfl,rfl,rfl,trivial⟩,⟨rfl,rfl,trivial⟩⟩
       ·have h42:=un4 h33
        replace H:=ift h42 H
        refine z0e rfl rfl h33 ?_
        refine z0e rfl rfl h33 ?_
        refine z0a (z0t rfl (bTT h42) rfl) ?_
        refine qd rfl ?_
        refine z0e rfl rfl rfl ?_
        refine z0e rfl rfl rfl ?_
        refine z0e rfl rfl rfl ?_
        refine z0a (z0t rfl rfl rfl) ?_
        exact ⟨(true,c6,c7,c8,c9,c10,c11,c12,c13),H,⟨rfl,rfl,rfl,rfl,rfl,rfl,rfl,trivial⟩,⟨rfl,rfl,trivial⟩⟩
      ·have h43:=un4 h31
       replace H:=ift h43 H
       refine z0e rfl rfl h31 ?_
       refine z0a (z0t rfl (bTT h43) rfl) ?_
       refine qd rfl ?_
       refine z0e rfl rfl rfl ?_
       refine z0e rfl rfl rfl ?_
       refine z0a (z0t rfl rfl rfl) ?_
       refine qd rfl ?_
       refine z0e rfl rfl rfl ?_
       refine z0e rfl rfl rfl ?_
       refine z0e rfl rfl rfl ?_
       refine z0a (z0t rfl rfl rfl) ?_
       exact ⟨(true,c6,c7,c8,c9,c10,c11,c12,c13),H,⟨rfl,rfl,rfl,rfl,rfl,rfl,rfl,trivial⟩,⟨rfl,rfl,trivial⟩⟩
     ·have h44:=un4 h29
      replace H:=ift h44 H
      refine z0e rfl rfl h29 ?_
      refine z0e rfl rfl h29 ?_
      refine z0e rfl rfl h29 ?_
      refine z0a (z0t rfl (bTT h44) rfl) ?_
      refine qd rfl ?_
      refine z0e rfl rfl rfl ?_
      refine z0a (z0t rfl rfl rfl) ?_
      refine qd rfl ?_
      refine z0e rfl rfl rfl ?_
      refine z0e rfl rfl rfl ?_
      refine z0a (z0t rfl rfl rfl) ?_
      refine qd rfl ?_
      refine z0e rfl rfl rfl ?_
      refine z0e rfl rfl rfl ?_
      refine z0e rfl rfl rfl ?_
      refine z0a (z0t rfl rfl rfl) ?_
      exact ⟨(true,c6,c7,c8,c9,c10,c11,c12,c13),H,⟨rfl,rfl,rfl,rfl,rfl,rfl,rfl,trivial⟩,⟨rfl,rfl,trivial⟩⟩
    ·rintro ⟨v45,c46,c47,c48,c49,c50,c51,c52,c53⟩ H
     replace H:z1u v5 r17 r23 v45 c46 c47 c48 c49 c50 c51 c52 c53=some q14:=H
     unfold z1u at H
     refine z0i _ rfl (fun h54 => ?_) (fun h54 => ?_)
     ·replace H:=ift h54 H
      refine z0c ?_
      refine z0b hN rfl ?_
      refine z0a (y1i (u':=vagg (z0w (z0f.mk [] [] [] [] [] [] 0 0))) (y1u (by exact ⟨z2v,z2v,z2v,z2v,z7g,z7g,z2v,z2v,trivial⟩)) (z7x [] y0l y5s rfl trivial)) ?_
      refine qd rfl ?_
      refine z0k (z4h z6c rfl rfl rfl rfl) rfl ?_
      refine qe rfl ?_
      refine qe rfl ?_
      refine z0q ?_
      replace H:=retl H hq14
      cases H
      exact ⟨trivial,.inl ⟨_,_,_,z0w (z0f.mk [] [] [] [] [] [] 0 0),rfl,rfl,rfl,rfl,z6c⟩,.inl rfl,.inl rfl,trivial⟩
     ·replace H:=iff_ h54 H
      refine z0l ?_
      refine z0b hN rfl ?_
      refine qd rfl ?_
      refine z0a (z1l _ rfl rfl (.inl ⟨rfl,rfl⟩)) ?_
      refine qd rfl ?_
      refine qe rfl ?_
      refine qe rfl ?_
      refine z0b hN rfl ?_
      refine qd rfl ?_
      refine z0a (z1l _ rfl rfl (.inl ⟨rfl,rfl⟩)) ?_
      refine qe rfl ?_
      exact ⟨_,z9j H,⟨rfl,rfl,rfl,rfl,rfl,rfl,trivial⟩,⟨rfl,rfl,trivial⟩⟩
  ·rintro ⟨c55,c56,c57,c58,c59,c60,c61,c62⟩ H
   replace H:z45 c55 c56 c57 c58 c59 c60 c61 c62=some r:=H
   unfold z45 at H
   refine z0c ?_
   refine z0c ?_
   refine z0b hN rfl ?_
   refine z0u (z5p z6c rfl rfl rfl) rfl ?_
   obtain ⟨r63,h64,H⟩:=bnd H
   refine z0a (z0s (z7c (z0f.mk c55 c56 c57 c58 c59 c60 c61 c62) r63 h64) ⟨.inl rfl,trivial⟩) ?_
   refine qe rfl ?_
   refine z0c ?_
   refine z0b hN rfl ?_
   refine qd rfl ?_
   refine z0a (z8o rfl rfl) ?_
   refine z0i _ rfl (fun h65 => ?_) (fun h65 => ?_)
   ·replace H:=ift h65 H
    refine z0c ?_
    refine z0b hN rfl ?_
    refine z0a (y1i (u':=vagg (z0w (z0f.mk [] [] [] [] [] [] 0 0))) (y1u (by exact ⟨z2v,z2v,z2v,z2v,z7g,z7g,z2v,z2v,trivial⟩)) (z7x [] y0l y5s rfl trivial)) ?_
    refine qd rfl ?_
    refine z0k (z4h z6c rfl rfl rfl rfl) rfl ?_
    refine qe rfl ?_
    refine qe rfl ?_
    refine z0q ?_
    cases H
    exact ⟨trivial,.inl ⟨_,_,_,z0w (z0f.mk [] [] [] [] [] [] 0 0),rfl,rfl,rfl,rfl,z6c⟩,.inl rfl,.inl rfl,trivial⟩
   ·replace H:=iff_ h65 H
    refine z0l ?_
    refine z0c ?_
    refine z0b hN rfl ?_
    refine z0u (z5p z6c rfl rfl rfl) rfl ?_
    refine z0k (z4h z6c rfl rfl rfl rfl) rfl ?_
    refine qe rfl ?_
    refine qe rfl ?_
    refine z0q ?_
    cases H
    exact ⟨trivial,.inl ⟨_,_,_,z0w (z0f.mk c55 c56 c57 c58 c59 c60 c61 c62),rfl,rfl,rfl,rfl,z6c⟩,.inl rfl,.inl rfl,trivial⟩
theorem y06 (a1:z0f) (b2:z0f) (r:(Bool)) (H:z5e a1 b2=some r):Fn Tryz.prog 13 [vagg (z0w a1),vagg (z0w b2)] (z2f [z02 r]):=by
 refine ⟨by kernel_rfl,z2a (us:=[z02 r]) Tryz.func13 rfl rfl rfl rfl fun X hN => ?_⟩
 unfold z5e at H
 refine z0c ?_
 refine z0b hN rfl ?_
 refine z0k (z9d 1 rfl) rfl ?_
 refine z0k (z9d 2 rfl) rfl ?_
 refine qe rfl ?_
 refine z0z (ι:=Bool) (fun i=>[(4,.dat (z02 i))]) (fun i=>[]) (fun i=>z12 i=some r) (fun i=>rfl) ?_ ?_
 ·skip
  refine z0b hN rfl ?_
  refine z0a (z0n y0o rfl) ?_
  refine z0u (z0r tyS9 rfl rfl) rfl ?_
  refine z0a (z0n y0n rfl) ?_
  refine z0u (z0r tyS9 rfl rfl) rfl ?_
  refine z0a (z0n y0m rfl) ?_
  refine z0u (z0r tyS9 rfl rfl) rfl ?_
  refine z0a (z0n z8n rfl) ?_
  refine z0u (z0r tyS9 rfl rfl) rfl ?_
  refine z0a (z1e (u':=vagg [vstr a1.Id,vstr a1.Subject,vstr a1.Issuer,vstr a1.Parent]) (y4b [(0,[vstr a1.Id]),(1,[vstr a1.Subject]),(2,[vstr a1.Issuer]),(3,[vstr a1.Parent])] x6j (show tyA Tryz.prog 74=some (4,9,.string) from by kernel_rfl) rfl ⟨rfl,.inl ⟨_,rfl,rfl,rfl⟩,rfl,rfl,.inl ⟨_,rfl,rfl,rfl⟩,rfl,rfl,.inl ⟨_,rfl,rfl,rfl⟩,rfl,rfl,.inl ⟨_,rfl,rfl,rfl⟩,rfl,trivial⟩) rfl) ?_
  refine z0a (z0n y0o rfl) ?_
  refine z0u (z0r tyS9 rfl rfl) rfl ?_
  refine z0a (z0n y0n rfl) ?_
  refine z0u (z0r tyS9 rfl rfl) rfl ?_
  refine z0a (z0n y0m rfl) ?_
  refine z0u (z0r tyS9 rfl rfl) rfl ?_
  refine z0a (z0n z8n rfl) ?_
  refine z0u (z0r tyS9 rfl rfl) rfl ?_
  refine z0a (z1e (u':=vagg [vstr b2.Id,vstr b2.Subject,vstr b2.Issuer,vstr b2.Parent]) (y4b [(0,[vstr b2.Id]),(1,[vstr b2.Subject]),(2,[vstr b2.Issuer]),(3,[vstr b2.Parent])] x6j (show tyA Tryz.prog 74=some (4,9,.string) from by kernel_rfl) rfl ⟨rfl,.inl ⟨_,rfl,rfl,rfl⟩,rfl,rfl,.inl ⟨_,rfl,rfl,rfl⟩,rfl,rfl,.inl ⟨_,rfl,rfl,rfl⟩,rfl,rfl,.inl ⟨_,rfl,rfl,rfl⟩,rfl,trivial⟩) rfl) ?_
  refine z0a (x0d [_,_,_,_] [_,_,_,_] (show tyA Tryz.prog 74=some (4,9,.string) from by kernel_rfl) rfl rfl rfl rfl) ?_
  refine qd rfl ?_
  refine z04 (j:=19) rfl rfl (fun h3 => ?_) (fun h3 => ?_) rfl
  ·have h4:=un1 h3
   replace H:=ift h4 H
   refine z0m rfl rfl h3 (z0n z8c rfl) ?_
   refine z8f rfl rfl h3 (z0r z6w rfl rfl) rfl ?_
   refine z0m rfl rfl h3 (z0n z8c rfl) ?_
   refine z8f rfl rfl h3 (z0r z6w rfl rfl) rfl ?_
   obtain ⟨r5,h6,H⟩:=bnd H
   refine z0m rfl rfl h3 (z0s (z32 a1.Audience b2.Audience r5 h6) ⟨.inl rfl,.inl rfl,trivial⟩) ?_
   refine z0a (z0t rfl (bTT h4) rfl) ?_
   refine qd rfl ?_
   refine z04 (j:=26) rfl rfl (fun h7 => ?_) (fun h7 => ?_) rfl
   ·have h8:=un1 h7
    replace H:=ift h8 H
    refine z0m rfl rfl h7 (z0n z78 rfl) ?_
    refine z8f rfl rfl h7 (z0r z6w rfl rfl) rfl ?_
    refine z0m rfl rfl h7 (z0n z78 rfl) ?_
    refine z8f rfl rfl h7 (z0r z6w rfl rfl) rfl ?_
    obtain ⟨r9,h10,H⟩:=bnd H
    refine z0m rfl rfl h7 (z0s (z32 a1.Scopes b2.Scopes r9 h10) ⟨.inl rfl,.inl rfl,trivial⟩) ?_
    refine z0a (z0t rfl (bTT h8) rfl) ?_
    refine qd rfl ?_
    refine z04 (j:=33) rfl rfl (fun h11 => ?_) (fun h11 => ?_) rfl
    ·have h12:=un1 h11
     replace H:=ift h12 H
     refine z0m rfl rfl h11 (z0n z85 rfl) ?_
     refine z8f rfl rfl h11 (z0r tyS3 rfl rfl) rfl ?_
     refine z0m rfl rfl h11 (z0n z85 rfl) ?_
     refine z8f rfl rfl h11 (z0r tyS3 rfl rfl) rfl ?_
     refine z0m rfl rfl h11 (z10 rfl rfl) ?_
     refine z0a (z0t rfl (bTT h12) rfl) ?_
     refine qd rfl ?_
     refine z04 (j:=40) rfl rfl (fun h13 => ?_) (fun h13 => ?_) rfl
     ·have h14:=un1 h13
      replace H:=ift h14 H
      refine z0m rfl rfl h13 (z0n z84 rfl) ?_
      refine z8f rfl rfl h13 (z0r tyS3 rfl rfl) rfl ?_
      refine z0m rfl rfl h13 (z0n z84 rfl) ?_
      refine z8f rfl rfl h13 (z0r tyS3 rfl rfl) rfl ?_
      refine z0m rfl rfl h13 (z10 rfl rfl) ?_
      refine z0a (z0t rfl (bTT h14) rfl) ?_
      refine qe rfl ?_
      exact ⟨decide (a1.To=b2.To),H,⟨rfl,trivial⟩,trivial⟩
     ·have h15:=un2 h13
      replace H:=iff_ h15 H
      refine z0e rfl rfl h13 ?_
      refine z0e rfl rfl h13 ?_
      refine z0e rfl rfl h13 ?_
      refine z0e rfl rfl h13 ?_
      refine z0e rfl rfl h13 ?_
      refine z0a (z0o rfl (bFF h15) rfl) ?_
      refine qe rfl ?_
      exact ⟨false,H,⟨rfl,trivial⟩,trivial⟩
    ·have h16:=un2 h11
     replace H:=iff_ h16 H
     refine z0e rfl rfl h11 ?_
     refine z0e rfl rfl h11 ?_
     refine z0e rfl rfl h11 ?_
     refine z0e rfl rfl h11 ?_
     refine z0e rfl rfl h11 ?_
     refine z0a (z0o rfl (bFF h16) rfl) ?_
     refine qd rfl ?_
     refine z0e rfl rfl rfl ?_
     refine z0e rfl rfl rfl ?_
     refine z0e rfl rfl rfl ?_
     refine z0e rfl rfl rfl ?_
     refine z0e rfl rfl rfl ?_
     refine z0a (z0o rfl rfl rfl) ?_
     refine qe rfl ?_
     exact ⟨false,H,⟨rfl,trivial⟩,trivial⟩
   ·have h17:=un2 h7
    replace H:=iff_ h17 H
    refine z0e rfl rfl h7 ?_
    refine z0e rfl rfl h7 ?_
    refine z0e rfl rfl h7 ?_
    refine z0e rfl rfl h7 ?_
    refine z0e rfl rfl h7 ?_
    refine z0a (z0o rfl (bFF h17) rfl) ?_
    refine qd rfl ?_
    refine z0e rfl rfl rfl ?_
    refine z0e rfl rfl rfl ?_
    refine z0e rfl rfl rfl ?_
    refine z0e rfl rfl rfl ?_
    refine z0e rfl rfl rfl ?_
    refine z0a (z0o rfl rfl rfl) ?_
    refine qd rfl ?_
    refine z0e rfl rfl rfl ?_
    refine z0e rfl rfl rfl ?_
    refine z0e rfl rfl rfl ?_
    refine z0e rfl rfl rfl ?_
    refine z0e rfl rfl rfl ?_
    refine z0a (z0o rfl rfl rfl) ?_
    refine qe rfl ?_
    exact ⟨false,H,⟨rfl,trivial⟩,trivial⟩
  ·have h18:=un2 h3
   replace H:=iff_ h18 H
   refine z0e rfl rfl h3 ?_
   refine z0e rfl rfl h3 ?_
   refine z0e rfl rfl h3 ?_
   refine z0e rfl rfl h3 ?_
   refine z0e rfl rfl h3 ?_
   refine z0a (z0o rfl (bFF h18) rfl) ?_
   refine qd rfl ?_
   refine z0e rfl rfl rfl ?_
   refine z0e rfl rfl rfl ?_
   refine z0e rfl rfl rfl ?_
   refine z0e rfl rfl rfl ?_
   refine z0e rfl rfl rfl ?_
   refine z0a (z0o rfl rfl rfl) ?_
   refine qd rfl ?_
   refine z0e rfl rfl rfl ?_
   refine z0e rfl rfl rfl ?_
   refine z0e rfl rfl rfl ?_
   refine z0e rfl rfl rfl ?_
   refine z0e rfl rfl rfl ?_
   refine z0a (z0o rfl rfl rfl) ?_
   refine qd rfl ?_
   refine z0e rfl rfl rfl ?_
   refine z0e rfl rfl rfl ?_
   refine z0e rfl rfl rfl ?_
   refine z0e rfl rfl rfl ?_
   refine z0e rfl rfl rfl ?_
   refine z0a (z0o rfl rfl rfl) ?_
   refine qe rfl ?_
   exact ⟨false,H,⟨rfl,trivial⟩,trivial⟩
 ·rintro v19 H
  replace H:z12 v19=some r:=H
  unfold z12 at H
  refine z0q ?_
  cases H
  exact ⟨trivial,.inl rfl,trivial⟩
theorem y33 (s1:Bs) (r:(Bs)) (H:z7z s1=some r):Fn Tryz.prog 45 [vstr s1] (z2f [vstr r]):=by
 refine ⟨by kernel_rfl,z2a (us:=[vstr r]) Tryz.func45 rfl rfl rfl rfl fun X hN => ?_⟩
 unfold z7z at H
 refine z0c ?_
 refine z0b hN rfl ?_
 refine qe rfl ?_
 refine z0c ?_
 refine z0b hN rfl ?_
 refine qe rfl ?_
 refine z0z (ι:=(List Int)) (fun i=>[(3,.row 1 i.length)]) (fun i=>[(1,.row 5 1 (List.map z7w i))]) (fun i=>z8d i=some r) (fun i=>rfl) ?_ ?_
 ·skip
  refine z01 ?_
  refine y0k 3 1 5 1 rfl rfl rfl ?_
  refine y29 (fun (s:Bs×(List Int))=>[(0,.dat (vstr s.1)),(3,.row 1 s.2.length)]) (fun (s:Bs×(List Int))=>[(1,.row 5 1 (List.map z7w s.2))]) (s1,[]) H ⟨rfl,rfl,trivial⟩ ⟨rfl,trivial⟩ (fun _=>rfl) ?_
  rintro ⟨s2,l3⟩ q4 H hq4
  replace H:z9p s2 l3=some q4:=H
  unfold z9p at H
  refine z0c ?_
  refine z0c ?_
  refine z0b hN rfl ?_
  refine qd rfl ?_
  refine z0a (z1v tyU9 rfl) ?_
  refine z0a (z4y rfl rfl) ?_
  refine z0i _ rfl (fun h5 => ?_) (fun h5 => ?_)
  ·replace H:=ift h5 H
   refine z0l ?_
   refine z01 ?_
   refine z0c ?_
   refine z0b hN rfl ?_
   refine qd rfl ?_
   refine z0a (z1v tyU9 rfl) ?_
   refine z0a (x42 rfl rfl) ?_
   refine qe rfl ?_
   refine z0c ?_
   refine z0b hN rfl ?_
   refine qe rfl ?_
   refine z0c ?_
   refine z0c ?_
   refine z0b hN rfl ?_
   refine qd rfl ?_
   refine z01 ?_
   obtain ⟨h9,H⟩:=gif H
   refine y30 (fun (k7:Nat) (s:Int)=>[(0,.dat (vstr s2)),(3,.row 1 l3.length),(4,.dat (vint (min 3 (s2.length:Int)))),(5,.dat (vint s)),(14,.dat (vint (k7:Int)))]) (fun (k7:Nat) (s:Int)=>[(1,.row 5 1 (List.map z7w l3))]) 0 H ⟨rfl,rfl,rfl,rfl,rfl,trivial⟩ ⟨rfl,trivial⟩ (fun _ _=>rfl) ?_ ?_
   ·rintro x6 H
    replace H:z9r s2 l3 x6=some q4:=H
    unfold z9r at H
    refine z0c ?_
    refine z0b hN rfl ?_
    refine z0a (z1i rfl rfl) ?_
    refine z0c ?_
    refine z0i _ rfl (fun h=>(lt_t h).elim) (fun h => ?_)
    refine z34 ?_
    refine z0c ?_
    refine z0c ?_
    refine z0b hN rfl ?_
    refine qd rfl ?_
    refine z0a (z1l _ rfl rfl (.inl ⟨rfl,rfl⟩)) ?_
    refine qd rfl ?_
    refine z01 ?_
    obtain ⟨h13,H⟩:=gif H
    refine y30 (fun (k11:Nat) (s:(List Int))=>[(0,.dat (vstr s2)),(3,.row 1 s.length),(4,.dat (vint (min 3 (s2.length:Int)))),(5,.dat (vint x6)),(30,.dat (vint (wr ((min 3 (s2.length:Int))+1)))),(31,.dat (vint (k11:Int)))]) (fun (k11:Nat) (s:(List Int))=>[(1,.row 5 1 (List.map z7w s))]) l3 H ⟨rfl,rfl,rfl,rfl,rfl,rfl,trivial⟩ ⟨rfl,trivial⟩ (fun _ _=>rfl) ?_ ?_
    ·rintro l10 H
     replace H:z9q s2 l10=some q4:=H
     unfold z9q at H
     refine z0c ?_
     refine z0b hN rfl ?_
     refine z0a (z1i rfl rfl) ?_
     refine z0c ?_
     refine z0i _ rfl (fun h=>(x3w h).elim) (fun h => ?_)
     refine z34 ?_
     refine z0b hN rfl ?_
     refine qd rfl ?_
     refine qd rfl ?_
     obtain ⟨l14,h15,H⟩:=bnd H
     refine z0a (z9b tyU9 rfl rfl rfl h15) ?_
     refine qe rfl ?_
     exact ⟨_,z9j H,⟨rfl,rfl,trivial⟩,⟨rfl,trivial⟩⟩
    ·rintro k11 l10 q12 h16 H hq12
     replace H:z9n x6 k11 l10=some q12:=H
     unfold z9n at H
     refine z0c ?_
     refine z0b hN rfl ?_
     refine z0a (z1i rfl rfl) ?_
     refine z0c ?_
     refine z0i _ rfl (fun h => ?_) (fun h=>(x3x h16 h).elim)
     refine z0l ?_
     refine z0c ?_
     refine z01 ?_
     refine z0c ?_
     refine z0b hN rfl ?_
     refine qd rfl ?_
     refine qe rfl ?_
     refine z0b hN rfl ?_
     refine z0a (z0h (.row _ _) rfl) ?_
     refine qd rfl ?_
     refine qd rfl ?_
     refine z0a (z1l _ rfl rfl (.inr (.inr ⟨rfl,rfl⟩))) ?_
     refine z0a (z1l _ rfl rfl (.inr (.inl ⟨rfl,rfl⟩))) ?_
     obtain ⟨h17,H⟩:=gif H
     refine z0a (z1e (x4z rfl rfl h17) rfl) ?_
     refine z0a (z1e (x46 rfl rfl) rfl) ?_
     obtain ⟨x18,h19,H⟩:=bnd H
     refine z0a (y0p tyU9 rfl rfl h19) ?_
     refine z0a (z1e (u':=vlst (List.map z7w [(x18.toNat:Int)])) (z3t [[_]] x4t ⟨rfl,.inl ⟨_,rfl,rfl,rfl⟩,rfl,trivial⟩ rfl rfl) rfl) ?_
     obtain ⟨h20,H⟩:=gif H
     refine z0k (y41 x4t (fun _=>rfl) rfl rfl rfl ⟨by simp,by first | (simp; done) | simpa using h20⟩ rfl) rfl ?_
     refine z0a (z2i (.row _ _) rfl) ?_
     refine z0b hN rfl ?_
     refine z0a (z6q rfl rfl (by omega)) ?_
     refine qd rfl ?_
     exact ⟨_,z9j H,⟨rfl,rfl,rfl,rfl,rfl,rfl,trivial⟩,⟨rfl,trivial⟩⟩
   ·rintro k7 x6 q8 h21 H hq8
    replace H:z9o s2 k7 x6=some q8:=H
    unfold z9o at H
    refine z0c ?_
    refine z0b hN rfl ?_
    refine z0a (z1i rfl rfl) ?_
    refine z0c ?_
    refine z0i _ rfl (fun h => ?_) (fun h=>(lt_f h21 h).elim)
    refine z0l ?_
    refine z0z (ι:=Int) (fun i=>[(0,.dat (vstr s2)),(3,.row 1 l3.length),(4,.dat (vint (min 3 (s2.length:Int)))),(5,.dat (vint i)),(14,.dat (vint (k7:Int)))]) (fun i=>[(1,.row 5 1 (List.map z7w l3))]) (fun i=>z7h i=some q8) (fun i=>rfl) ?_ ?_
    ·skip
     refine z01 ?_
     refine z0c ?_
     refine z0b hN rfl ?_
     refine qd rfl ?_
     refine qe rfl ?_
     refine z0c ?_
     refine z0b hN rfl ?_
     refine qd rfl ?_
     refine z0a (z1e (y6w rfl rfl (by decide)) rfl) ?_
     refine qe rfl ?_
     refine z0c ?_
     refine z0b hN rfl ?_
     refine qd rfl ?_
     refine qd rfl ?_
     refine z0a (z1i rfl rfl) ?_
     refine z0i _ rfl (fun h22 => ?_) (fun h22 => ?_)
     ·replace H:=ift h22 H
      refine z0b hN rfl ?_
      refine qd rfl ?_
      refine qd rfl ?_
      refine qd rfl ?_
      obtain ⟨x23,h24,H⟩:=bnd H
      refine z0a (z7s tyU9 rfl rfl h24) ?_
      refine z0a (z7o tyU5 tyU3 rfl) ?_
      refine z0a (z1e (x4h rfl rfl) rfl) ?_
      refine qe rfl ?_
      exact ⟨(or_ .i64 (shl_ .i64 x6 8) (IntKind.wrap .i64 (x23.toNat:Int))),H,⟨rfl,rfl,rfl,rfl,rfl,trivial⟩,⟨rfl,trivial⟩⟩
     ·replace H:=iff_ h22 H
      refine z0l ?_
      exact ⟨(shl_ .i64 x6 8),H,⟨rfl,rfl,rfl,rfl,rfl,trivial⟩,⟨rfl,trivial⟩⟩
    ·rintro x25 H
     replace H:z7h x25=some q8:=H
     unfold z7h at H
     refine z0b hN rfl ?_
     refine z0a (z6q rfl rfl (by omega)) ?_
     refine qd rfl ?_
     exact ⟨_,z9j H,⟨rfl,rfl,rfl,rfl,rfl,trivial⟩,⟨rfl,trivial⟩⟩
  ·replace H:=iff_ h5 H
   refine z34 ?_
   replace H:=outl H hq4
   exact ⟨l3,H,⟨rfl,trivial⟩,⟨rfl,trivial⟩⟩
 ·rintro out26 H
  replace H:z8d out26=some r:=H
  unfold z8d at H
  refine z0c ?_
  refine y7w 3 1 rfl rfl rfl ?_
  refine z0b hN rfl ?_
  refine qd rfl ?_
  refine z0a (y5v (C:=z7w) y81 tyU5 tyU9 (fun _=>rfl) rfl) ?_
  refine qe rfl ?_
  refine z0q ?_
  cases H
  exact ⟨trivial,.inl rfl,trivial⟩
theorem y2k  (r:(Bool)) (H:z6t  = some r):Fn Tryz.prog 14 [] (z2f [z02 r]):=by
 refine ⟨by kernel_rfl,z2a (us:=[z02 r]) Tryz.func14 rfl rfl rfl rfl fun X hN => ?_⟩
 unfold z6t at H
 refine z0c ?_
 refine z0b hN rfl ?_
 refine qe rfl ?_
 refine z0c ?_
 refine z0b hN rfl ?_
 obtain ⟨r1,h2,H⟩:=bnd H
 refine z0a (z0s (y33 [97,98] r1 h2) ⟨.inl rfl,trivial⟩) ?_
 refine z0a (z56 rfl rfl) ?_
 refine qe rfl ?_
 refine z0q ?_
 cases H
 exact ⟨trivial,.inl rfl,trivial⟩
theorem y0j (v1:(List Int)) (r:(Bool)) (H:z5j v1=some r):Fn Tryz.prog 3 [vlst (List.map y1t v1)] (z2f [z02 r]):=by
 refine ⟨by kernel_rfl,z2a (us:=[z02 r]) Tryz.func3 rfl rfl rfl rfl fun X hN => ?_⟩
 unfold z5j at H
 refine z0c ?_
 refine z0b hN rfl ?_
 refine qe rfl ?_
 refine z0c ?_
 refine z0b hN rfl ?_
 refine qd rfl ?_
 refine z0a (z1e (u':=vagg (z0p (z0d.mk v1 0))) (z7x [(0,[vlst (List.map y1t v1)])] x7r x7t rfl ⟨rfl,.inl ⟨_,rfl,rfl,rfl⟩,rfl,trivial⟩) rfl) ?_
 refine z0k (z9d 1 rfl) rfl ?_
 refine z0a (z2i (.ptr _ _) rfl) ?_
 refine z0c ?_
 refine z0b hN rfl ?_
 refine z0a (z0h (.ptr _ _) rfl) ?_
 obtain ⟨r2,h3,H⟩:=bnd H
 refine z0k (z1k (y0i (z0d.mk v1 0) r2 h3) rfl trivial rfl) rfl ?_
 refine z0a (z0h (.ptr _ _) rfl) ?_
 obtain ⟨r4,h5,H⟩:=bnd H
 refine z0k (z1k (z9h r2.2 r4 h5) rfl trivial rfl) rfl ?_
 refine z0k (z65 2 y0l rfl) rfl ?_
 refine z0k (z4h z6c rfl rfl rfl rfl) rfl ?_
 refine qe rfl ?_
 refine z0z (ι:=Bs) (fun i=>[(4,.ptr 2 0),(5,.dat (vstr i))]) (fun i=>[(2,.box none 28 [.dat (vstr r2.1.Id),.dat (vstr r2.1.Subject),.dat (vstr r2.1.Issuer),.dat (vstr r2.1.Parent),.dat (vlst (List.map z0j r2.1.Audience)),.dat (vlst (List.map z0j r2.1.Scopes)),.dat (vint r2.1.From),.dat (vint r2.1.To)])]) (fun i=>z2h r2 i=some r) (fun i=>rfl) ?_ ?_
 ·skip
  refine z0c ?_
  refine z0b hN rfl ?_
  refine z0a (z0h (.ptr _ _) rfl) ?_
  obtain ⟨r6,h7,H⟩:=bnd H
  refine z0k (z1k (z3n r4.2 60 r6 h7) rfl ⟨.inl rfl,trivial⟩ rfl) rfl ?_
  refine z0i _ rfl (fun h8 => ?_) (fun h8 => ?_)
  ·replace H:=ift h8 H
   refine z0b hN rfl ?_
   obtain ⟨h9,H⟩:=gif H
   refine z0a (x4u (C:=z7w) (0:Int) x4t tyZ5 rfl rfl rfl rfl h9 rfl) ?_
   refine z0a (y5v (C:=z7w) y81 tyU5 tyU9 (fun _=>rfl) rfl) ?_
   refine qe rfl ?_
   exact ⟨(strN (List.replicate ((4001:Int).toNat) (0:Int))),H,⟨rfl,rfl,trivial⟩,⟨rfl,trivial⟩⟩
  ·replace H:=iff_ h8 H
   refine z0l ?_
   exact ⟨r4.1,H,⟨rfl,rfl,trivial⟩,⟨rfl,trivial⟩⟩
 ·rintro v10 H
  replace H:z2h r2 v10=some r:=H
  unfold z2h at H
  refine z0c ?_
  refine z0b hN rfl ?_
  refine z0u (z5p z6c rfl rfl rfl) rfl ?_
  obtain ⟨r11,h12,H⟩:=bnd H
  refine z0a (z0s (y12 r2.1 r11 h12) ⟨.inl rfl,trivial⟩) ?_
  refine qd rfl ?_
  refine z0a (z2d rfl rfl) ?_
  refine z0a (z2d rfl rfl) ?_
  refine qe rfl ?_
  refine qe rfl ?_
  refine z0c ?_
  refine z0b hN rfl ?_
  refine z0u (z5p z6c rfl rfl rfl) rfl ?_
  obtain ⟨r13,h14,H⟩:=bnd H
  refine z0a (z0s (y0g r2.1 r13 h14) ⟨.inl rfl,trivial⟩) ?_
  refine qd rfl ?_
  refine z0a (z2d rfl rfl) ?_
  refine z0a (z2d rfl rfl) ?_
  refine qe rfl ?_
  refine qe rfl ?_
  refine z0c ?_
  refine z0b hN rfl ?_
  refine qd rfl ?_
  obtain ⟨r15,h16,H⟩:=bnd H
  refine z0a (z0s (y11 v10 r15 h16) ⟨.inl rfl,trivial⟩) ?_
  refine qd rfl ?_
  refine z0a (z2d rfl rfl) ?_
  refine z0a (z2d rfl rfl) ?_
  refine z0a (z2d rfl rfl) ?_
  refine z0k (z65 3 y0l rfl) rfl ?_
  refine z0k (z4h z6c rfl rfl rfl rfl) rfl ?_
  refine qe rfl ?_
  refine qe rfl ?_
  refine z0c ?_
  refine z0b hN rfl ?_
  refine qd rfl ?_
  obtain ⟨r17,h18,H⟩:=bnd H
  refine z0a (z0s (y07 v10 r17 h18) ⟨.inl rfl,trivial⟩) ?_
  refine qd rfl ?_
  refine z0a (z2d rfl rfl) ?_
  refine z0a (z2d rfl rfl) ?_
  refine z0a (z2d rfl rfl) ?_
  refine z0k (z65 4 y0l rfl) rfl ?_
  refine z0k (z4h z6c rfl rfl rfl rfl) rfl ?_
  refine qe rfl ?_
  refine qe rfl ?_
  refine z0z (ι:=Bool) (fun i=>[(2,.dat (z02 i))]) (fun i=>[]) (fun i=>z1c i=some r) (fun i=>rfl) ?_ ?_
  ·skip
   refine z5v mixed hN rfl rfl ?_
   refine z0u (z5p z6c rfl rfl rfl) rfl ?_
   obtain ⟨r19,h20,H⟩:=bnd H
   refine z0a (z0s (z8a r2.1 r19 h20) ⟨.inl rfl,trivial⟩) ?_
   refine z0u (z5p z6c rfl rfl rfl) rfl ?_
   obtain ⟨r21,h22,H⟩:=bnd H
   refine z0a (z0s (z7c r2.1 r21 h22) ⟨.inl rfl,trivial⟩) ?_
   refine z0a (z10 rfl rfl) ?_
   refine qd rfl ?_
   refine z04 (j:=5) rfl rfl (fun h23 => ?_) (fun h23 => ?_) rfl
   ·have h24:=un1 h23
    replace H:=ift h24 H
    refine z0m rfl rfl h23 (z0h (.dat _) rfl) ?_
    refine z0m rfl rfl h23 (z0h (.dat _) rfl) ?_
    refine z0m rfl rfl h23 (z56 rfl rfl) ?_
    refine z0a (z0t rfl (bTT h24) rfl) ?_
    refine qd rfl ?_
    refine z04 (j:=10) rfl rfl (fun h25 => ?_) (fun h25 => ?_) rfl
    ·have h26:=un1 h25
     replace H:=ift h26 H
     refine z0m rfl rfl h25 (z0h (.dat _) rfl) ?_
     refine z0m rfl rfl h25 (z0h (.dat _) rfl) ?_
     refine z0m rfl rfl h25 (z10 rfl rfl) ?_
     refine z0a (z0t rfl (bTT h26) rfl) ?_
     refine qd rfl ?_
     refine z04 (j:=15) rfl rfl (fun h27 => ?_) (fun h27 => ?_) rfl
     ·have h28:=un1 h27
      replace H:=ift h28 H
      refine z8f rfl rfl h27 (z5p z6c rfl rfl rfl) rfl ?_
      refine z8f rfl rfl h27 (z5p z6c rfl rfl rfl) rfl ?_
      obtain ⟨r29,h30,H⟩:=bnd H
      refine z0m rfl rfl h27 (z0s (y06 r15.1 r17.1 r29 h30) ⟨.inl rfl,.inl rfl,trivial⟩) ?_
      refine z0a (z0t rfl (bTT h28) rfl) ?_
      refine qd rfl ?_
      refine z04 (j:=20) rfl rfl (fun h31 => ?_) (fun h31 => ?_) rfl
      ·have h32:=un1 h31
       replace H:=ift h32 H
       refine z0m rfl rfl h31 (z0h (.dat _) rfl) ?_
       refine z0m rfl rfl h31 (z0h (.dat _) rfl) ?_
       refine z0m rfl rfl h31 (z10 rfl rfl) ?_
       refine z0a (z0t rfl (bTT h32) rfl) ?_
       refine qd rfl ?_
       refine z04 (j:=25) rfl rfl (fun h33 => ?_) (fun h33 => ?_) rfl
       ·have h34:=un1 h33
        replace H:=ift h34 H
        refine z0m rfl rfl h33 (z0h (.dat _) rfl) ?_
        refine z0m rfl rfl h33 (z0h (.dat _) rfl) ?_
        refine z0m rfl rfl h33 (z10 rfl rfl) ?_
        refine z0a (z0t rfl (bTT h34) rfl) ?_
        refine qd rfl ?_
        refine z04 (j:=30) rfl rfl (fun h35 => ?_) (fun h35 => ?_) rfl
        ·have h36:=un1 h35
         replace H:=ift h36 H
         obtain ⟨r37,h38,H⟩:=bnd H
         refine z0m rfl rfl h35 (z0s (y2k  r37 h38) trivial) ?_
         refine z0a (z0t rfl (bTT h36) rfl) ?_
         refine qe rfl ?_
         refine ⟨rfl,?_⟩
         exact ⟨r37,H,⟨rfl,trivial⟩,trivial⟩
        ·have h39:=un2 h35
         replace H:=iff_ h39 H
         refine z0e rfl rfl h35 ?_
         refine z0a (z0o rfl (bFF h39) rfl) ?_
         refine qe rfl ?_
         refine ⟨rfl,?_⟩
         exact ⟨false,H,⟨rfl,trivial⟩,trivial⟩
       ·have h40:=un2 h33
        replace H:=iff_ h40 H
        refine z0e rfl rfl h33 ?_
        refine z0e rfl rfl h33 ?_
        refine z0e rfl rfl h33 ?_
        refine z0a (z0o rfl (bFF h40) rfl) ?_
        refine qd rfl ?_
        refine z0e rfl rfl rfl ?_
        refine z0a (z0o rfl rfl rfl) ?_
        refine qe rfl ?_
        refine ⟨rfl,?_⟩
        exact ⟨false,H,⟨rfl,trivial⟩,trivial⟩
      ·have h41:=un2 h31
       replace H:=iff_ h41 H
       refine z0e rfl rfl h31 ?_
       refine z0e rfl rfl h31 ?_
       refine z0e rfl rfl h31 ?_
       refine z0a (z0o rfl (bFF h41) rfl) ?_
       refine qd rfl ?_
       refine z0e rfl rfl rfl ?_
       refine z0e rfl rfl rfl ?_
       refine z0e rfl rfl rfl ?_
       refine z0a (z0o rfl rfl rfl) ?_
       refine qd rfl ?_
       refine z0e rfl rfl rfl ?_
       refine z0a (z0o rfl rfl rfl) ?_
       refine qe rfl ?_
       refine ⟨rfl,?_⟩
       exact ⟨false,H,⟨rfl,trivial⟩,trivial⟩
     ·have h42:=un2 h27
      replace H:=iff_ h42 H
      refine z0e rfl rfl h27 ?_
      refine z0e rfl rfl h27 ?_
      refine z0e rfl rfl h27 ?_
      refine z0a (z0o rfl (bFF h42) rfl) ?_
      refine qd rfl ?_
      refine z0e rfl rfl rfl ?_
      refine z0e rfl rfl rfl ?_
      refine z0e rfl rfl rfl ?_
      refine z0a (z0o rfl rfl rfl) ?_
      refine qd rfl ?_
      refine z0e rfl rfl rfl ?_
      refine z0e rfl rfl rfl ?_
      refine z0e rfl rfl rfl ?_
      refine z0a (z0o rfl rfl rfl) ?_
      refine qd rfl ?_
      refine z0e rfl rfl rfl ?_
      refine z0a (z0o rfl rfl rfl) ?_
      refine qe rfl ?_
      refine ⟨rfl,?_⟩
      exact ⟨false,H,⟨rfl,trivial⟩,trivial⟩
    ·have h43:=un2 h25
     replace H:=iff_ h43 H
     refine z0e rfl rfl h25 ?_
     refine z0e rfl rfl h25 ?_
     refine z0e rfl rfl h25 ?_
     refine z0a (z0o rfl (bFF h43) rfl) ?_
     refine qd rfl ?_
     refine z0e rfl rfl rfl ?_
     refine z0e rfl rfl rfl ?_
     refine z0e rfl rfl rfl ?_
     refine z0a (z0o rfl rfl rfl) ?_
     refine qd rfl ?_
     refine z0e rfl rfl rfl ?_
     refine z0e rfl rfl rfl ?_
     refine z0e rfl rfl rfl ?_
     refine z0a (z0o rfl rfl rfl) ?_
     refine qd rfl ?_
     refine z0e rfl rfl rfl ?_
     refine z0e rfl rfl rfl ?_
     refine z0e rfl rfl rfl ?_
     refine z0a (z0o rfl rfl rfl) ?_
     refine qd rfl ?_
     refine z0e rfl rfl rfl ?_
     refine z0a (z0o rfl rfl rfl) ?_
     refine qe rfl ?_
     refine ⟨rfl,?_⟩
     exact ⟨false,H,⟨rfl,trivial⟩,trivial⟩
   ·have h44:=un2 h23
    replace H:=iff_ h44 H
    refine z0e rfl rfl h23 ?_
    refine z0e rfl rfl h23 ?_
    refine z0e rfl rfl h23 ?_
    refine z0a (z0o rfl (bFF h44) rfl) ?_
    refine qd rfl ?_
    refine z0e rfl rfl rfl ?_
    refine z0e rfl rfl rfl ?_
    refine z0e rfl rfl rfl ?_
    refine z0a (z0o rfl rfl rfl) ?_
    refine qd rfl ?_
    refine z0e rfl rfl rfl ?_
    refine z0e rfl rfl rfl ?_
    refine z0e rfl rfl rfl ?_
    refine z0a (z0o rfl rfl rfl) ?_
    refine qd rfl ?_
    refine z0e rfl rfl rfl ?_
    refine z0e rfl rfl rfl ?_
    refine z0e rfl rfl rfl ?_
    refine z0a (z0o rfl rfl rfl) ?_
    refine qd rfl ?_
    refine z0e rfl rfl rfl ?_
    refine z0e rfl rfl rfl ?_
    refine z0e rfl rfl rfl ?_
    refine z0a (z0o rfl rfl rfl) ?_
    refine qd rfl ?_
    refine z0e rfl rfl rfl ?_
    refine z0a (z0o rfl rfl rfl) ?_
    refine qe rfl ?_
    refine ⟨rfl,?_⟩
    exact ⟨false,H,⟨rfl,trivial⟩,trivial⟩
  ·rintro v45 H
   replace H:z1c v45=some r:=H
   unfold z1c at H
   refine z0q ?_
   cases H
   exact ⟨trivial,.inl rfl,trivial⟩
end Go.Proofs.YtihjlkocfeoelaaGreatDoor
