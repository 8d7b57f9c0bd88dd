/- Walks along the models. Printed by a program. -/
import Derived.Test.YtkckjgkfljgjpaaGreatDoorZgw5
namespace Go.Proofs.YtkckjgkfljgjpaaGreatDoor
open Go.RowKit
set_option linter.unusedVariables false
set_option maxRecDepth 100000
set_option maxHeartbeats 2000000
theorem y5z (s1:Bs) (r:(Bool)) (H:z5z s1=some r):Fn Tryz.prog 87 [vstr s1] (z1s [z01 r]):=by
 refine ⟨by kernel_rfl,z1g (us:=[z01 r]) Tryz.func87 rfl rfl rfl rfl fun X hN => ?_⟩
 unfold z5z at H
 refine z0c ?_
 refine z0b hN rfl ?_
 refine qe rfl ?_
 refine z0c ?_
 refine z0b hN rfl ?_
 refine qd rfl ?_
 refine z0a (z8k rfl rfl) ?_
 refine qd rfl ?_
 refine z5y rfl rfl (fun hc=>z0h (.dat _) rfl) ?_
 refine z5y rfl rfl (fun hc=>z8k (cnd (c:=(decide (s1≠[112,97,114,101,110,116]))) hc) rfl) ?_
 refine z0a (z11 rfl (fun hb=>(cnd (c:=(decide (s1≠[112,97,114,101,110,116]))) hb)) rfl) ?_
 refine qd rfl ?_
 refine z5y rfl rfl (fun hc=>z0h (.dat _) rfl) ?_
 refine z5y rfl rfl (fun hc=>z8k (cnd (c:=((decide (s1≠[112,97,114,101,110,116])) && (decide (s1≠[102,111,114])))) hc) rfl) ?_
 refine z0a (z11 rfl (fun hb=>(cnd (c:=((decide (s1≠[112,97,114,101,110,116])) && (decide (s1≠[102,111,114])))) hb)) rfl) ?_
 refine qe rfl ?_
 refine z0m ?_
 cases H
 exact ⟨trivial,.inl rfl,trivial⟩
theorem y5d (s1:Bs) (most2:Int) (r:(Int×Bool)) (H:z6z s1 most2=some r):Fn Tryz.prog 121 [vstr s1,vint most2] (z1s [vint r.1,z01 r.2]):=by
 refine ⟨by kernel_rfl,z1g (us:=[vint r.1,z01 r.2]) Tryz.func121 rfl rfl rfl rfl fun X hN => ?_⟩
 unfold z6z at H
 refine z0c ?_
 refine z0b hN rfl ?_
 refine qe rfl ?_
 refine qe rfl ?_
 refine z0c ?_
 refine z0b hN rfl ?_
 refine qd rfl ?_
 obtain ⟨r3,h4,H⟩:=bnd H
 refine z0a (z0o (y3y s1 [45] r3 h4) ⟨.inl rfl,.inl rfl,trivial⟩) ?_
 refine qe rfl ?_
 refine z0c ?_
 refine z0z (ι:=Bool) (fun i=>[(0,.dat (vstr s1)),(23,.dat (z01 i))]) (fun i=>[]) (fun i=>z3l s1 i=some r) (fun i=>rfl) ?_ ?_
 ·skip
  refine z0b hN rfl ?_
  refine qd rfl ?_
  refine z0a (z65 rfl rfl) ?_
  refine qd rfl ?_
  refine z08 (j:=2) rfl rfl (fun h5 => ?_) (fun h5 => ?_) rfl
  ·have h6:=un3 h5
   replace H:=iff_ h6 H
   refine z0p rfl rfl h5 (z0h (.dat _) rfl) ?_
   refine z0p rfl rfl h5 (z1j tyU9 rfl) ?_
   refine z0p rfl rfl h5 (z0h (.dat _) rfl) ?_
   refine z0p rfl rfl h5 (z29 rfl rfl) ?_
   refine z0a (z0x rfl (bFF h6) rfl) ?_
   refine qd rfl ?_
   refine z08 (j:=8) rfl rfl (fun h7 => ?_) (fun h7 => ?_) rfl
   ·have h8:=un3 h7
    replace H:=iff_ h8 H
    refine z0p rfl rfl h7 (z0h (.dat _) rfl) ?_
    obtain ⟨r9,h10,H⟩:=bnd H
    refine z0p rfl rfl h7 (z0o (y4l r3 [48,49,50,51,52,53,54,55,56,57] r9 h10) ⟨.inl rfl,.inl rfl,trivial⟩) ?_
    refine z0p rfl rfl h7 (z3t rfl) ?_
    refine z0a (z0x rfl (bFF h8) rfl) ?_
    exact ⟨!r9,H,⟨rfl,rfl,trivial⟩,trivial⟩
   ·have h11:=un4 h7
    replace H:=ift h11 H
    refine z0f rfl rfl h7 ?_
    refine z0f rfl rfl h7 ?_
    refine z0f rfl rfl h7 ?_
    refine z0a (z0v rfl (bTT h11) rfl) ?_
    exact ⟨true,H,⟨rfl,rfl,trivial⟩,trivial⟩
  ·have h12:=un4 h5
   replace H:=ift h12 H
   refine z0f rfl rfl h5 ?_
   refine z0f rfl rfl h5 ?_
   refine z0f rfl rfl h5 ?_
   refine z0f rfl rfl h5 ?_
   refine z0a (z0v rfl (bTT h12) rfl) ?_
   refine qd rfl ?_
   refine z0f rfl rfl rfl ?_
   refine z0f rfl rfl rfl ?_
   refine z0f rfl rfl rfl ?_
   refine z0a (z0v rfl rfl rfl) ?_
   exact ⟨true,H,⟨rfl,rfl,trivial⟩,trivial⟩
 ·rintro v13 H
  replace H:z3l s1 v13=some r:=H
  unfold z3l at H
  refine z0j _ rfl (fun h14 => ?_) (fun h14 => ?_)
  ·replace H:=ift h14 H
   refine z0c ?_
   refine z0b hN rfl ?_
   refine qe rfl ?_
   refine qe rfl ?_
   refine z0m ?_
   cases H
   exact ⟨trivial,.inl rfl,.inl rfl,trivial⟩
  ·replace H:=iff_ h14 H
   refine z0l ?_
   refine z0c ?_
   refine z0b hN rfl ?_
   refine qd rfl ?_
   obtain ⟨r15,h16,H⟩:=bnd H
   refine z0a (z0o (y6w s1 r15 h16) ⟨.inl rfl,trivial⟩) ?_
   refine qd rfl ?_
   refine z0a (z1q rfl rfl) ?_
   refine z0a (z1q rfl rfl) ?_
   refine qe rfl ?_
   refine qe rfl ?_
   refine z0z (ι:=Bool) (fun i=>[(4,.dat (vint r15.1)),(5,.dat (z01 i))]) (fun i=>[]) (fun i=>z8q r15 i=some r) (fun i=>rfl) ?_ ?_
   ·skip
    refine z0b hN rfl ?_
    refine qd rfl ?_
    refine qd rfl ?_
    refine z0a (x0u (n:=r15.2) (show Tryz.prog.underlying 90=some (.interface (Tryz.prog.methodsAt 90)) from by kernel_rfl) rfl) ?_
    refine qd rfl ?_
    refine z08 (j:=3) rfl rfl (fun h17 => ?_) (fun h17 => ?_) rfl
    ·have h18:=un1 h17
     replace H:=ift h18 H
     refine z0p rfl rfl h17 (z0h (.dat _) rfl) ?_
     obtain ⟨r19,h20,H⟩:=bnd H
     refine z0p rfl rfl h17 (z0o (y19 r15.1 r19 h20) ⟨.inl rfl,trivial⟩) ?_
     refine z0p rfl rfl h17 (z0h (.dat _) rfl) ?_
     refine z0p rfl rfl h17 (z65 rfl rfl) ?_
     refine z0a (z0v rfl (bTT h18) rfl) ?_
     refine qe rfl ?_
     refine qe rfl ?_
     exact ⟨decide (r19=s1),H,⟨rfl,rfl,trivial⟩,trivial⟩
    ·have h21:=un2 h17
     replace H:=iff_ h21 H
     refine z0f rfl rfl h17 ?_
     refine z0f rfl rfl h17 ?_
     refine z0f rfl rfl h17 ?_
     refine z0f rfl rfl h17 ?_
     refine z0a (z0x rfl (bFF h21) rfl) ?_
     refine qe rfl ?_
     refine qe rfl ?_
     exact ⟨false,H,⟨rfl,rfl,trivial⟩,trivial⟩
   ·rintro v22 H
    replace H:z8q r15 v22=some r:=H
    unfold z8q at H
    refine z0m ?_
    cases H
    exact ⟨trivial,.inl rfl,.inl rfl,trivial⟩
theorem x2a (s1:z0e) (v2:(List Bs)) (r:(Bool×z0e)) (H:z8a s1 v2=some r):Imp Tryz.prog 89 30 (z0t s1) [vlst (List.map z0n v2)] (z1s [z01 r.1]) (z0t r.2):=by
 refine y2b (us:=[z01 r.1]) (cs':=(z0t r.2)) (by kernel_rfl) Tryz.func89 rfl rfl rfl rfl fun X bl hN => ?_
 unfold z8a at H
 refine z0c ?_
 refine z0b hN rfl ?_
 refine qe rfl ?_
 refine z0c ?_
 refine z0c ?_
 refine z0b hN rfl ?_
 refine qd rfl ?_
 obtain ⟨x3,h4,H⟩:=bnd H
 refine z0a (y00 z88 (fun _=>rfl) rfl rfl h4) ?_
 refine z0a (z0w tyS9 rfl (z3m h4) rfl) ?_
 refine z0u ?_
 refine z0c ?_
 refine z0b hN rfl ?_
 refine z0a (z65 rfl rfl) ?_
 refine qe rfl ?_
 refine z0j _ rfl (fun h5 => ?_) (fun h5 => ?_)
 ·replace H:=ift h5 H
  refine z0c ?_
  refine z0b hN rfl ?_
  refine z0a (z0h (.ptr _ _) rfl) ?_
  refine qd rfl ?_
  obtain ⟨l6,h7,H⟩:=bnd H
  refine z0a (y9g z88 (fun _=>rfl) rfl rfl rfl h7) ?_
  refine z0a (z2d rfl) ?_
  refine z0a (z0r y2n rfl) ?_
  refine z0k (z1m z7t rfl rfl rfl rfl) rfl ?_
  refine z0c ?_
  refine z0b hN rfl ?_
  refine qd rfl ?_
  refine z0a (z8d z9v rfl) ?_
  refine z0a (z29 rfl rfl) ?_
  refine qe rfl ?_
  refine z0m ?_
  cases H
  exact ⟨trivial,⟨.inl rfl,trivial⟩,rfl⟩
 ·replace H:=iff_ h5 H
  refine z0c ?_
  refine z0b hN rfl ?_
  refine z0a (z65 rfl rfl) ?_
  refine qe rfl ?_
  refine z0j _ rfl (fun h8 => ?_) (fun h8 => ?_)
  ·replace H:=ift h8 H
   refine z0c ?_
   refine z0b hN rfl ?_
   refine z0a (z0h (.ptr _ _) rfl) ?_
   refine qd rfl ?_
   obtain ⟨l9,h10,H⟩:=bnd H
   refine z0a (y9g z88 (fun _=>rfl) rfl rfl rfl h10) ?_
   refine z0a (z2d rfl) ?_
   refine z0a (z0r y2g rfl) ?_
   refine z0k (z1m z7t rfl rfl rfl rfl) rfl ?_
   refine z0c ?_
   refine z0b hN rfl ?_
   refine qd rfl ?_
   refine z0a (z8d z9v rfl) ?_
   refine z0a (z29 rfl rfl) ?_
   refine qe rfl ?_
   refine z0m ?_
   cases H
   exact ⟨trivial,⟨.inl rfl,trivial⟩,rfl⟩
  ·replace H:=iff_ h8 H
   refine z0c ?_
   refine z0b hN rfl ?_
   refine z0a (z65 rfl rfl) ?_
   refine qe rfl ?_
   refine z0j _ rfl (fun h11 => ?_) (fun h11 => ?_)
   ·replace H:=ift h11 H
    refine z0c ?_
    refine z0c ?_
    refine z0b hN rfl ?_
    refine qd rfl ?_
    refine z0a (z8d z9v rfl) ?_
    refine z0a (z68 rfl rfl) ?_
    refine z0j _ rfl (fun h12 => ?_) (fun h12 => ?_)
    ·replace H:=ift h12 H
     refine z0c ?_
     refine z0b hN rfl ?_
     refine qe rfl ?_
     refine z0m ?_
     cases H
     exact ⟨trivial,⟨.inl rfl,trivial⟩,rfl⟩
    ·replace H:=iff_ h12 H
     refine z0l ?_
     refine z0c ?_
     refine z0b hN rfl ?_
     refine qe rfl ?_
     refine qe rfl ?_
     refine z0c ?_
     refine z0b hN rfl ?_
     refine z0a (z0h (.ptr _ _) rfl) ?_
     refine qd rfl ?_
     obtain ⟨x13,h14,H⟩:=bnd H
     refine z0a (y00 z88 (fun _=>rfl) rfl rfl h14) ?_
     refine z0a (z0w tyS9 rfl (z3m h14) rfl) ?_
     obtain ⟨r15,h16,H⟩:=bnd H
     refine z0a (z0o (y5d x13 15 r15 h16) ⟨.inl rfl,.inl rfl,trivial⟩) ?_
     refine qd rfl ?_
     refine z0a (z1q rfl rfl) ?_
     refine z0a (z1q rfl rfl) ?_
     refine z0a (z2d rfl) ?_
     refine z0a (z0r y3p rfl) ?_
     refine z0k (z1m tyS3 rfl rfl rfl rfl) rfl ?_
     refine qe rfl ?_
     refine z0c ?_
     refine z0b hN rfl ?_
     refine z0a (z0h (.ptr _ _) rfl) ?_
     refine qd rfl ?_
     obtain ⟨x17,h18,H⟩:=bnd H
     refine z0a (y00 z88 (fun _=>rfl) rfl rfl h18) ?_
     refine z0a (z0w tyS9 rfl (z3m h18) rfl) ?_
     obtain ⟨r19,h20,H⟩:=bnd H
     refine z0a (z0o (y5d x17 15 r19 h20) ⟨.inl rfl,.inl rfl,trivial⟩) ?_
     refine qd rfl ?_
     refine z0a (z1q rfl rfl) ?_
     refine z0a (z1q rfl rfl) ?_
     refine z0a (z2d rfl) ?_
     refine z0a (z0r y2m rfl) ?_
     refine z0k (z1m tyS3 rfl rfl rfl rfl) rfl ?_
     refine qe rfl ?_
     refine z0c ?_
     refine z0b hN rfl ?_
     refine qd rfl ?_
     refine qd rfl ?_
     refine z5y rfl rfl (fun hc=>z0h (.dat _) rfl) ?_
     refine z0a (z11 rfl (fun hb=>(cnd (c:=r15.2) hb)) rfl) ?_
     refine qe rfl ?_
     refine z0m ?_
     cases H
     exact ⟨trivial,⟨.inl rfl,trivial⟩,rfl⟩
   ·replace H:=iff_ h11 H
    refine z0l ?_
    refine z0c ?_
    refine z0c ?_
    refine z0b hN rfl ?_
    refine qd rfl ?_
    refine z0a (z8d z9v rfl) ?_
    refine z0a (z68 rfl rfl) ?_
    refine z0j _ rfl (fun h21 => ?_) (fun h21 => ?_)
    ·replace H:=ift h21 H
     refine z0c ?_
     refine z0b hN rfl ?_
     refine qe rfl ?_
     refine z0m ?_
     cases H
     exact ⟨trivial,⟨.inl rfl,trivial⟩,rfl⟩
    ·replace H:=iff_ h21 H
     refine z0l ?_
     refine z0c ?_
     refine w0i (MTP bl) 1 mixed hN rfl rfl ?_
     refine x3a (w3d 1 (z3x bl)) rfl ?_
     refine z9k (z0h (.ptr _ _) rfl) ?_
     refine z9k (z2d rfl) ?_
     refine y5a (y82 (z0r y5o rfl) rfl) rfl ?_
     obtain ⟨h22,H⟩:=gif H
     refine y85 (p:=(([105,100]:Bs),(0:Int))) (y80 [105,100] (0:Int) (z3x bl) rfl rfl rfl h22) rfl (by decide) ?_
     refine z9k (z0h (.ptr _ _) rfl) ?_
     refine z9k (z2d rfl) ?_
     refine y5a (y82 (z0r y5n rfl) rfl) rfl ?_
     obtain ⟨h23,H⟩:=gif H
     refine y85 (p:=(([115,117,98,106,101,99,116]:Bs),(1:Int))) (y80 [115,117,98,106,101,99,116] (1:Int) (z3x bl) rfl rfl rfl h23) rfl (by decide) ?_
     refine z9k (z0h (.ptr _ _) rfl) ?_
     refine z9k (z2d rfl) ?_
     refine y5a (y82 (z0r y5m rfl) rfl) rfl ?_
     obtain ⟨h24,H⟩:=gif H
     refine y85 (p:=(([105,115,115,117,101,114]:Bs),(2:Int))) (y80 [105,115,115,117,101,114] (2:Int) (z3x bl) rfl rfl rfl h24) rfl (by decide) ?_
     refine z9k (z0h (.ptr _ _) rfl) ?_
     refine z9k (z2d rfl) ?_
     refine y5a (y82 (z0r y25 rfl) rfl) rfl ?_
     obtain ⟨h25,H⟩:=gif H
     refine y85 (p:=(([112,97,114,101,110,116]:Bs),(3:Int))) (y80 [112,97,114,101,110,116] (3:Int) (z3x bl) rfl rfl rfl h25) rfl (by decide) ?_
     refine z9k (z0h (.mp _) rfl) ?_
     refine z9k (z0h (.dat _) rfl) ?_
     refine z9k (y00 z88 (fun _=>rfl) rfl rfl h4) ?_
     refine z9k (z0w tyS9 rfl (z3m h4) rfl) ?_
     obtain ⟨h26,H⟩:=gif H
     refine y5a (z09 (u':=vval (ptI bl ((lkG ([([105,100],(0:Int)),([115,117,98,106,101,99,116],(1:Int)),([105,115,115,117,101,114],(2:Int)),([112,97,114,101,110,116],(3:Int))]:List (Bs×Int)) x3).getD (-1)))) (x77 ([([105,100],(0:Int)),([115,117,98,106,101,99,116],(1:Int)),([105,115,115,117,101,114],(2:Int)),([112,97,114,101,110,116],(3:Int))]:List (Bs×Int)) x3 (z3x bl) rfl rfl h26) rfl) rfl ?_
     refine z9k (z0h (.dat _) rfl) ?_
     obtain ⟨x27,h28,H⟩:=bnd H
     refine z9k (y00 z88 (fun _=>rfl) rfl rfl h28) ?_
     refine z9k (z0w tyS9 rfl (z3m h28) rfl) ?_
     obtain ⟨h29,H⟩:=gif H
     refine y5a (x6z (id:=0) (w08 (y48 h29) rfl) rfl) rfl ?_
     obtain ⟨c30,h31,H⟩:=bnd H
     refine x3a (x62 tyS9 rfl rfl rfl (y40 (c:=s1) h29 h31)) rfl ?_
     refine ⟨rfl,by decide,?_⟩
     refine z0c ?_
     refine z0b hN rfl ?_
     refine qe rfl ?_
     refine z0m ?_
     cases H
     exact ⟨trivial,⟨.inl rfl,trivial⟩,rfl⟩
theorem y6g (v1:Bs) (r:(z0e×Int×Int)) (H:z8g v1=some r):Fn Tryz.prog 53 [vstr v1] (z1s [vagg (z0t r.1),vint r.2.1,vint r.2.2]):=by
 refine ⟨by kernel_rfl,z1g (us:=[vagg (z0t r.1),vint r.2.1,vint r.2.2]) Tryz.func53 rfl rfl rfl rfl fun X hN => ?_⟩
 unfold z8g at H
 refine z0c ?_
 refine z0b hN rfl ?_
 refine z0k (z3c 1 y06 rfl) rfl ?_
 refine qe rfl ?_
 refine qe rfl ?_
 refine z0c ?_
 refine z0b hN rfl ?_
 refine z0k (z3c 2 y06 rfl) rfl ?_
 refine z0c ?_
 refine z0c ?_
 refine z0b hN rfl ?_
 refine qd rfl ?_
 refine z0a (z1j tyU9 rfl) ?_
 refine z0a (z29 rfl rfl) ?_
 refine z0j _ rfl (fun h2 => ?_) (fun h2 => ?_)
 ·replace H:=ift h2 H
  refine z0c ?_
  refine z0b hN rfl ?_
  refine z0y (y09 (u':=vagg (z0t (z0e.mk [] [] [] [] [] [] 0 0))) (y1h (by exact ⟨z05,z05,z05,z05,z4g,z4g,z05,z05,trivial⟩)) (z5v z4c rfl rfl rfl)) rfl ?_
  refine z0k (z1f z4c rfl rfl rfl rfl) rfl ?_
  refine qe rfl ?_
  refine qe rfl ?_
  refine z0m ?_
  cases H
  exact ⟨trivial,.inl ⟨_,_,_,z0t (z0e.mk [] [] [] [] [] [] 0 0),rfl,rfl,rfl,rfl,z4c⟩,.inl rfl,.inl rfl,trivial⟩
 ·replace H:=iff_ h2 H
  refine z0l ?_
  refine z0c ?_
  refine z0b hN rfl ?_
  refine z0a (z09 (u':=vlst (List.map z0n [[105,100],[115,117,98,106,101,99,116],[105,115,115,117,101,114],[112,97,114,101,110,116],[102,111,114],[109,97,121],[116,105,109,101]])) (z2g [[_],[_],[_],[_],[_],[_],[_]] z8w ⟨rfl,.inl ⟨_,rfl,rfl,rfl⟩,rfl,rfl,.inl ⟨_,rfl,rfl,rfl⟩,rfl,rfl,.inl ⟨_,rfl,rfl,rfl⟩,rfl,rfl,.inl ⟨_,rfl,rfl,rfl⟩,rfl,rfl,.inl ⟨_,rfl,rfl,rfl⟩,rfl,rfl,.inl ⟨_,rfl,rfl,rfl⟩,rfl,rfl,.inl ⟨_,rfl,rfl,rfl⟩,rfl,trivial⟩ rfl rfl) rfl) ?_
  refine qe rfl ?_
  refine z0c ?_
  refine z0b hN rfl ?_
  refine qe rfl ?_
  refine z0z (ι:=Bs×Bs×Bs×Bs×(List Bs)×(List Bs)×Int×Int) (fun i=>[(2,.ptr 1 0),(5,.ptr 2 0)]) (fun i=>[(1,.box none 30 [.dat (vstr []),.dat (vstr []),.dat (vstr []),.dat (vstr []),.dat (vnil),.dat (vnil),.dat (vint 0),.dat (vint 0)]),(2,.box none 30 [.dat (vstr i.1),.dat (vstr i.2.1),.dat (vstr i.2.2.1),.dat (vstr i.2.2.2.1),.dat (vlst (List.map z0n i.2.2.2.2.1)),.dat (vlst (List.map z0n i.2.2.2.2.2.1)),.dat (vint i.2.2.2.2.2.2.1),.dat (vint i.2.2.2.2.2.2.2)])]) (fun i=>z7w i.1 i.2.1 i.2.2.1 i.2.2.2.1 i.2.2.2.2.1 i.2.2.2.2.2.1 i.2.2.2.2.2.2.1 i.2.2.2.2.2.2.2=some r) (fun i=>rfl) ?_ ?_
  ·skip
   refine z0c ?_
   refine z0b hN rfl ?_
   refine qe rfl ?_
   refine z0u ?_
   refine x2m 2 4 (.dat (vlst [])) rfl rfl (fun g w M v h=>z4g w M v h) ?_
   refine x2m 2 5 (.dat (vlst [])) rfl rfl (fun g w M v h=>z4g w M v h) ?_
   refine y36 (fun (s:Bs×Int×Int×Bs×Bs×Bs×Bs×(List Bs)×(List Bs)×Int×Int)=>[(0,.dat (vstr s.1)),(2,.ptr 1 0),(5,.ptr 2 0),(6,.dat (vlst (List.map z0n ([[105,100],[115,117,98,106,101,99,116],[105,115,115,117,101,114],[112,97,114,101,110,116],[102,111,114],[109,97,121],[116,105,109,101]])))),(7,.dat (vint s.2.1)),(8,.dat (vint s.2.2.1))]) (fun (s:Bs×Int×Int×Bs×Bs×Bs×Bs×(List Bs)×(List Bs)×Int×Int)=>[(1,.box none 30 [.dat (vstr []),.dat (vstr []),.dat (vstr []),.dat (vstr []),.dat (vnil),.dat (vnil),.dat (vint 0),.dat (vint 0)]),(2,.box none 30 [.dat (vstr s.2.2.2.1),.dat (vstr s.2.2.2.2.1),.dat (vstr s.2.2.2.2.2.1),.dat (vstr s.2.2.2.2.2.2.1),.dat (vlst (List.map z0n s.2.2.2.2.2.2.2.1)),.dat (vlst (List.map z0n s.2.2.2.2.2.2.2.2.1)),.dat (vint s.2.2.2.2.2.2.2.2.2.1),.dat (vint s.2.2.2.2.2.2.2.2.2.2)])]) (v1,0,0,[],[],[],[],([]:(List Bs)),([]:(List Bs)),0,0) H ⟨rfl,rfl,rfl,rfl,rfl,rfl,trivial⟩ ⟨rfl,rfl,trivial⟩ (fun _=>rfl) ?_
   rintro ⟨v3,v4,v5,c6,c7,c8,c9,c10,c11,c12,c13⟩ q14 H hq14
   replace H:z19 v3 v4 v5 c6 c7 c8 c9 c10 c11 c12 c13=some q14:=H
   unfold z19 at H
   refine z0c ?_
   refine z0u ?_
   refine z0c ?_
   refine z0c ?_
   refine z0b hN rfl ?_
   refine qd rfl ?_
   refine z0a (z65 rfl rfl) ?_
   refine z0j _ rfl (fun h15 => ?_) (fun h15 => ?_)
   ·replace H:=ift h15 H
    refine z0c ?_
    refine z0c ?_
    refine z0b hN rfl ?_
    refine qd rfl ?_
    refine qd rfl ?_
    refine z0a (z8d z9v rfl) ?_
    refine z0a (z2a rfl rfl) ?_
    refine z0j _ rfl (fun h16 => ?_) (fun h16 => ?_)
    ·replace H:=ift h16 H
     refine z14 ?_
     replace H:=outl H hq14
     exact ⟨(c6,c7,c8,c9,c10,c11,c12,c13),H,⟨rfl,rfl,trivial⟩,⟨rfl,rfl,trivial⟩⟩
    ·replace H:=iff_ h16 H
     refine z0l ?_
     refine z0c ?_
     refine z0b hN rfl ?_
     refine z0a (y09 (u':=vagg (z0t (z0e.mk [] [] [] [] [] [] 0 0))) (y1h (by exact ⟨z05,z05,z05,z05,z4g,z4g,z05,z05,trivial⟩)) (z3z [] y06 y4p rfl trivial)) ?_
     refine qd rfl ?_
     refine z0k (z1f z4c rfl rfl rfl rfl) rfl ?_
     refine qe rfl ?_
     refine qe rfl ?_
     refine z0m ?_
     replace H:=retl H hq14
     cases H
     exact ⟨trivial,.inl ⟨_,_,_,z0t (z0e.mk [] [] [] [] [] [] 0 0),rfl,rfl,rfl,rfl,z4c⟩,.inl rfl,.inl rfl,trivial⟩
   ·replace H:=iff_ h15 H
    refine z0l ?_
    refine z0c ?_
    refine z0b hN rfl ?_
    refine qd rfl ?_
    obtain ⟨r17,h18,H⟩:=bnd H
    refine z0a (z0o (y7s v3 [10] r17 h18) ⟨.inl rfl,.inl rfl,trivial⟩) ?_
    refine qd rfl ?_
    refine z0a (z1q rfl rfl) ?_
    refine z0a (z1q rfl rfl) ?_
    refine z0a (z1q rfl rfl) ?_
    refine qe rfl ?_
    refine qe rfl ?_
    refine qe rfl ?_
    refine z0c ?_
    refine z0b hN rfl ?_
    refine qd rfl ?_
    obtain ⟨r19,h20,H⟩:=bnd H
    refine z0a (z0o (z9p r17.1 [32] r19 h20) ⟨.inl rfl,.inl rfl,trivial⟩) ?_
    refine qe rfl ?_
    refine z0c ?_
    refine z0b hN rfl ?_
    refine qd rfl ?_
    refine qd rfl ?_
    obtain ⟨x21,h22,H⟩:=bnd H
    refine z0a (y00 z88 (fun _=>rfl) rfl rfl h22) ?_
    refine z0a (z0w tyS9 rfl (z3m h22) rfl) ?_
    obtain ⟨r23,h24,H⟩:=bnd H
    refine z0a (z0o (y0o ([[105,100],[115,117,98,106,101,99,116],[105,115,115,117,101,114],[112,97,114,101,110,116],[102,111,114],[109,97,121],[116,105,109,101]]) x21 r23 h24) ⟨.inl rfl,.inl rfl,trivial⟩) ?_
    refine qe rfl ?_
    refine z0c ?_
    refine z0b hN rfl ?_
    refine qd rfl ?_
    refine qd rfl ?_
    refine qd rfl ?_
    refine qd rfl ?_
    refine z0a (w3e rfl rfl) ?_
    obtain ⟨l25,h26,H⟩:=bnd H
    refine z0a (y9g z88 (fun _=>rfl) rfl rfl rfl h26) ?_
    refine qe rfl ?_
    refine z0c ?_
    refine z0b hN rfl ?_
    refine qd rfl ?_
    obtain ⟨r27,h28,H⟩:=bnd H
    refine z0a (x8b (z52 l25 (fun (a0:Bs)=>z5z a0) 87 [] (fun a0 r h=>y5z a0 r h) r27 h28) ⟨.inl (.inl rfl),.inr ⟨_,rfl,rfl⟩,trivial⟩) ?_
    refine qe rfl ?_
    refine z0c ?_
    refine z0z (ι:=Bool×Bs×Bs×Bs×Bs×(List Bs)×(List Bs)×Int×Int) (fun i=>[(2,.ptr 1 0),(5,.ptr 2 0),(6,.dat (vlst (List.map z0n ([[105,100],[115,117,98,106,101,99,116],[105,115,115,117,101,114],[112,97,114,101,110,116],[102,111,114],[109,97,121],[116,105,109,101]])))),(8,.dat (vint v5)),(10,.dat (vstr r17.2.1)),(13,.dat (vint r23)),(71,.dat (z01 i.1))]) (fun i=>[(1,.box none 30 [.dat (vstr []),.dat (vstr []),.dat (vstr []),.dat (vstr []),.dat (vnil),.dat (vnil),.dat (vint 0),.dat (vint 0)]),(2,.box none 30 [.dat (vstr i.2.1),.dat (vstr i.2.2.1),.dat (vstr i.2.2.2.1),.dat (vstr i.2.2.2.2.1),.dat (vlst (List.map z0n i.2.2.2.2.2.1)),.dat (vlst (List.map z0n i.2.2.2.2.2.2.1)),.dat (vint i.2.2.2.2.2.2.2.1),.dat (vint i.2.2.2.2.2.2.2.2)])]) (fun i=>z2l v5 r17 r23 i.1 i.2.1 i.2.2.1 i.2.2.2.1 i.2.2.2.2.1 i.2.2.2.2.2.1 i.2.2.2.2.2.2.1 i.2.2.2.2.2.2.2.1 i.2.2.2.2.2.2.2.2=some q14) (fun i=>rfl) ?_ ?_
    ·skip
     refine z0b hN rfl ?_
     refine qd rfl ?_
     refine z0a (z3t rfl) ?_
     refine qd rfl ?_
     refine z08 (j:=2) rfl rfl (fun h29 => ?_) (fun h29 => ?_) rfl
     ·have h30:=un3 h29
      replace H:=iff_ h30 H
      refine z0p rfl rfl h29 (z0h (.dat _) rfl) ?_
      refine z0p rfl rfl h29 (z0h (.dat _) rfl) ?_
      refine z0p rfl rfl h29 (z04 rfl rfl) ?_
      refine z0a (z0x rfl (bFF h30) rfl) ?_
      refine qd rfl ?_
      refine z08 (j:=7) rfl rfl (fun h31 => ?_) (fun h31 => ?_) rfl
      ·have h32:=un3 h31
       replace H:=iff_ h32 H
       refine z0p rfl rfl h31 (z0h (.dat _) rfl) ?_
       refine z0a (z0x rfl (bFF h32) rfl) ?_
       refine qd rfl ?_
       refine z08 (j:=10) rfl rfl (fun h33 => ?_) (fun h33 => ?_) rfl
       ·have h34:=un3 h33
        replace H:=iff_ h34 H
        refine z0p rfl rfl h33 (z0h (.dat _) rfl) ?_
        obtain ⟨r35,h36,H⟩:=bnd H
        refine z0p rfl rfl h33 (z0o (z9u r19 [] r35 h36) ⟨.inl rfl,.inl rfl,trivial⟩) ?_
        refine z0a (z0x rfl (bFF h34) rfl) ?_
        refine qd rfl ?_
        refine z08 (j:=14) rfl rfl (fun h37 => ?_) (fun h37 => ?_) rfl
        ·have h38:=un3 h37
         replace H:=iff_ h38 H
         refine z0p rfl rfl h37 (z0h (.dat _) rfl) ?_
         obtain ⟨r39,h40,H⟩:=bnd H
         refine x8p rfl rfl h37 (z1e (x2a (z0e.mk c6 c7 c8 c9 c10 c11 c12 c13) r19 r39 h40) rfl ⟨.inl rfl,trivial⟩ rfl) rfl ?_
         refine z0p rfl rfl h37 (z3t rfl) ?_
         refine z0a (z0x rfl (bFF h38) rfl) ?_
         exact ⟨(!r39.1,r39.2.Id,r39.2.Subject,r39.2.Issuer,r39.2.Parent,r39.2.Audience,r39.2.Scopes,r39.2.From,r39.2.To),H,⟨rfl,rfl,rfl,rfl,rfl,rfl,rfl,trivial⟩,⟨rfl,rfl,trivial⟩⟩
        ·have h41:=un4 h37
         replace H:=ift h41 H
         refine z0f rfl rfl h37 ?_
         refine z0f rfl rfl h37 ?_
         refine z0f rfl rfl h37 ?_
         refine z0a (z0v rfl (bTT h41) rfl) ?_
         exact ⟨(true,c6,c7,c8,c9,c10,c11,c12,c13),H,⟨rfl,rfl,rfl,rfl,rfl,rfl,rfl,trivial⟩,⟨rfl,rfl,trivial⟩⟩
       ·have h42:=un4 h33
        replace H:=ift h42 H
        refine z0f rfl rfl h33 ?_
        refine z0f rfl rfl h33 ?_
        refine z0a (z0v rfl (bTT h42) rfl) ?_
        refine qd rfl ?_
        refine z0f rfl rfl rfl ?_
        refine z0f rfl rfl rfl ?_
        refine z0f rfl rfl rfl ?_
        refine z0a (z0v rfl rfl rfl) ?_
        exact ⟨(true,c6,c7,c8,c9,c10,c11,c12,c13),H,⟨rfl,rfl,rfl,rfl,rfl,rfl,rfl,trivial⟩,⟨rfl,rfl,trivial⟩⟩
      ·have h43:=un4 h31
       replace H:=ift h43 H
       refine z0f rfl rfl h31 ?_
       refine z0a (z0v rfl (bTT h43) rfl) ?_
       refine qd rfl ?_
       refine z0f rfl rfl rfl ?_
       refine z0f rfl rfl rfl ?_
       refine z0a (z0v rfl rfl rfl) ?_
       refine qd rfl ?_
       refine z0f rfl rfl rfl ?_
       refine z0f rfl rfl rfl ?_
       refine z0f rfl rfl rfl ?_
       refine z0a (z0v rfl rfl rfl) ?_
       exact ⟨(true,c6,c7,c8,c9,c10,c11,c12,c13),H,⟨rfl,rfl,rfl,rfl,rfl,rfl,rfl,trivial⟩,⟨rfl,rfl,trivial⟩⟩
     ·have h44:=un4 h29
      replace H:=ift h44 H
      refine z0f rfl rfl h29 ?_
      refine z0f rfl rfl h29 ?_
      refine z0f rfl rfl h29 ?_
      refine z0a (z0v rfl (bTT h44) rfl) ?_
      refine qd rfl ?_
      refine z0f rfl rfl rfl ?_
      refine z0a (z0v rfl rfl rfl) ?_
      refine qd rfl ?_
      refine z0f rfl rfl rfl ?_
      refine z0f rfl rfl rfl ?_
      refine z0a (z0v rfl rfl rfl) ?_
      refine qd rfl ?_
      refine z0f rfl rfl rfl ?_
      refine z0f rfl rfl rfl ?_
      refine z0f rfl rfl rfl ?_
      refine z0a (z0v rfl rfl rfl) ?_
      exact ⟨(true,c6,c7,c8,c9,c10,c11,c12,c13),H,⟨rfl,rfl,rfl,rfl,rfl,rfl,rfl,trivial⟩,⟨rfl,rfl,trivial⟩⟩
    ·rintro ⟨v45,c46,c47,c48,c49,c50,c51,c52,c53⟩ H
     replace H:z2l v5 r17 r23 v45 c46 c47 c48 c49 c50 c51 c52 c53=some q14:=H
     unfold z2l at H
     refine z0j _ rfl (fun h54 => ?_) (fun h54 => ?_)
     ·replace H:=ift h54 H
      refine z0c ?_
      refine z0b hN rfl ?_
      refine z0a (y09 (u':=vagg (z0t (z0e.mk [] [] [] [] [] [] 0 0))) (y1h (by exact ⟨z05,z05,z05,z05,z4g,z4g,z05,z05,trivial⟩)) (z3z [] y06 y4p rfl trivial)) ?_
      refine qd rfl ?_
      refine z0k (z1f z4c rfl rfl rfl rfl) rfl ?_
      refine qe rfl ?_
      refine qe rfl ?_
      refine z0m ?_
      replace H:=retl H hq14
      cases H
      exact ⟨trivial,.inl ⟨_,_,_,z0t (z0e.mk [] [] [] [] [] [] 0 0),rfl,rfl,rfl,rfl,z4c⟩,.inl rfl,.inl rfl,trivial⟩
     ·replace H:=iff_ h54 H
      refine z0l ?_
      refine z0b hN rfl ?_
      refine qd rfl ?_
      refine z0a (z1a _ rfl rfl (.inl ⟨rfl,rfl⟩)) ?_
      refine qd rfl ?_
      refine qe rfl ?_
      refine qe rfl ?_
      refine z0b hN rfl ?_
      refine qd rfl ?_
      refine z0a (z1a _ rfl rfl (.inl ⟨rfl,rfl⟩)) ?_
      refine qe rfl ?_
      exact ⟨_,z9s H,⟨rfl,rfl,rfl,rfl,rfl,rfl,trivial⟩,⟨rfl,rfl,trivial⟩⟩
  ·rintro ⟨c55,c56,c57,c58,c59,c60,c61,c62⟩ H
   replace H:z7w c55 c56 c57 c58 c59 c60 c61 c62=some r:=H
   unfold z7w at H
   refine z0c ?_
   refine z0c ?_
   refine z0b hN rfl ?_
   refine z0y (z5v z4c rfl rfl rfl) rfl ?_
   obtain ⟨r63,h64,H⟩:=bnd H
   refine z0a (z0o (y24 (z0e.mk c55 c56 c57 c58 c59 c60 c61 c62) r63 h64) ⟨.inl rfl,trivial⟩) ?_
   refine qe rfl ?_
   refine z0c ?_
   refine z0b hN rfl ?_
   refine qd rfl ?_
   refine z0a (z68 rfl rfl) ?_
   refine z0j _ rfl (fun h65 => ?_) (fun h65 => ?_)
   ·replace H:=ift h65 H
    refine z0c ?_
    refine z0b hN rfl ?_
    refine z0a (y09 (u':=vagg (z0t (z0e.mk [] [] [] [] [] [] 0 0))) (y1h (by exact ⟨z05,z05,z05,z05,z4g,z4g,z05,z05,trivial⟩)) (z3z [] y06 y4p rfl trivial)) ?_
    refine qd rfl ?_
    refine z0k (z1f z4c rfl rfl rfl rfl) rfl ?_
    refine qe rfl ?_
    refine qe rfl ?_
    refine z0m ?_
    cases H
    exact ⟨trivial,.inl ⟨_,_,_,z0t (z0e.mk [] [] [] [] [] [] 0 0),rfl,rfl,rfl,rfl,z4c⟩,.inl rfl,.inl rfl,trivial⟩
   ·replace H:=iff_ h65 H
    refine z0l ?_
    refine z0c ?_
    refine z0b hN rfl ?_
    refine z0y (z5v z4c rfl rfl rfl) rfl ?_
    refine z0k (z1f z4c rfl rfl rfl rfl) rfl ?_
    refine qe rfl ?_
    refine qe rfl ?_
    refine z0m ?_
    cases H
    exact ⟨trivial,.inl ⟨_,_,_,z0t (z0e.mk c55 c56 c57 c58 c59 c60 c61 c62),rfl,rfl,rfl,rfl,z4c⟩,.inl rfl,.inl rfl,trivial⟩
theorem y8a (v1:(List z0g)) (v2:Bs) (v3:Int) (r:(z0e×Int)) (H:y0k v1 v2 v3=some r):Fn Tryz.prog 15 [vlst (List.map z00 v1),vstr v2,vint v3] (z1s [vagg (z0t r.1),vint r.2]):=by
 refine ⟨by kernel_rfl,z1g (us:=[vagg (z0t r.1),vint r.2]) Tryz.func15 rfl rfl rfl rfl fun X hN => ?_⟩
 unfold y0k at H
 refine z0c ?_
 refine z0b hN rfl ?_
 refine z0k (z3c 1 y06 rfl) rfl ?_
 refine qe rfl ?_
 refine z0c ?_
 refine z0c ?_
 refine z0b hN rfl ?_
 refine qd rfl ?_
 obtain ⟨r4,h5,H⟩:=bnd H
 refine z0a (z0o (y5e v3 r4 h5) ⟨.inl rfl,trivial⟩) ?_
 refine z0a (z3t rfl) ?_
 refine z0j _ rfl (fun h6 => ?_) (fun h6 => ?_)
 ·replace H:=ift h6 H
  refine z0c ?_
  refine z0b hN rfl ?_
  refine z0a (y09 (u':=vagg (z0t (z0e.mk [] [] [] [] [] [] 0 0))) (y1h (by exact ⟨z05,z05,z05,z05,z4g,z4g,z05,z05,trivial⟩)) (z3z [] y06 y4p rfl trivial)) ?_
  refine z0k (z1f z4c rfl rfl rfl rfl) rfl ?_
  refine qe rfl ?_
  refine z0m ?_
  cases H
  exact ⟨trivial,.inl ⟨_,_,_,z0t (z0e.mk [] [] [] [] [] [] 0 0),rfl,rfl,rfl,rfl,z4c⟩,.inl rfl,trivial⟩
 ·replace H:=iff_ h6 H
  refine z0l ?_
  refine z0c ?_
  refine z0b hN rfl ?_
  refine qd rfl ?_
  obtain ⟨r7,h8,H⟩:=bnd H
  refine z0a (z0o (z9p v2 [46] r7 h8) ⟨.inl rfl,.inl rfl,trivial⟩) ?_
  refine z0k (z3c 2 w42 rfl) rfl ?_
  refine z0k (z1m z7t rfl rfl rfl rfl) rfl ?_
  refine z0c ?_
  refine z0z (ι:=Bool) (fun i=>[(0,.dat (vlst (List.map z00 v1))),(2,.dat (vint v3)),(6,.ptr 1 0),(8,.ptr 2 0),(29,.dat (z01 i))]) (fun i=>[(1,.box none 30 [.dat (vstr []),.dat (vstr []),.dat (vstr []),.dat (vstr []),.dat (vnil),.dat (vnil),.dat (vint 0),.dat (vint 0)]),(2,.box none 28 [.dat (vlst (List.map z0n r7))])]) (fun i=>z6b v1 v3 r7 i=some r) (fun i=>rfl) ?_ ?_
  ·skip
   refine z0b hN rfl ?_
   refine z0y (z0s z7t rfl rfl) rfl ?_
   refine z0a (z8d z9v rfl) ?_
   refine z0a (z68 rfl rfl) ?_
   refine qd rfl ?_
   refine z08 (j:=3) rfl rfl (fun h9 => ?_) (fun h9 => ?_) rfl
   ·have h10:=un3 h9
    replace H:=iff_ h10 H
    refine y15 rfl rfl h9 (z0s z7t rfl rfl) rfl ?_
    obtain ⟨x11,h12,H⟩:=bnd H
    refine z0p rfl rfl h9 (y00 z88 (fun _=>rfl) rfl rfl h12) ?_
    refine z0p rfl rfl h9 (z0w tyS9 rfl (z3m h12) rfl) ?_
    obtain ⟨r13,h14,H⟩:=bnd H
    refine z0p rfl rfl h9 (z0o (z87 x11 r13 h14) ⟨.inl rfl,trivial⟩) ?_
    refine z0p rfl rfl h9 (z3t rfl) ?_
    refine z0a (z0x rfl (bFF h10) rfl) ?_
    exact ⟨!r13,H,⟨rfl,rfl,rfl,rfl,rfl,trivial⟩,⟨rfl,rfl,trivial⟩⟩
   ·have h15:=un4 h9
    replace H:=ift h15 H
    refine z0f rfl rfl h9 ?_
    refine z0f rfl rfl h9 ?_
    refine z0f rfl rfl h9 ?_
    refine z0f rfl rfl h9 ?_
    refine z0f rfl rfl h9 ?_
    refine z0a (z0v rfl (bTT h15) rfl) ?_
    exact ⟨true,H,⟨rfl,rfl,rfl,rfl,rfl,trivial⟩,⟨rfl,rfl,trivial⟩⟩
  ·rintro v16 H
   replace H:z6b v1 v3 r7 v16=some r:=H
   unfold z6b at H
   refine z0j _ rfl (fun h17 => ?_) (fun h17 => ?_)
   ·replace H:=ift h17 H
    refine z0c ?_
    refine z0b hN rfl ?_
    refine z0a (y09 (u':=vagg (z0t (z0e.mk [] [] [] [] [] [] 0 0))) (y1h (by exact ⟨z05,z05,z05,z05,z4g,z4g,z05,z05,trivial⟩)) (z3z [] y06 y4p rfl trivial)) ?_
    refine z0k (z1f z4c rfl rfl rfl rfl) rfl ?_
    refine qe rfl ?_
    refine z0m ?_
    cases H
    exact ⟨trivial,.inl ⟨_,_,_,z0t (z0e.mk [] [] [] [] [] [] 0 0),rfl,rfl,rfl,rfl,z4c⟩,.inl rfl,trivial⟩
   ·replace H:=iff_ h17 H
    refine z0l ?_
    refine z0c ?_
    refine y37 2 [vlst (List.map z0n r7)] rfl rfl ?_
    refine z0b hN rfl ?_
    refine qd rfl ?_
    refine z0a (y4u (us:=[_]) ⟨rfl,trivial⟩) ?_
    obtain ⟨r18,h19,H⟩:=bnd H
    refine z0a (z0o (z4s v1 (fun (a0:z0g)=>z71 a0 r7) 51 [y1e [[vlst (List.map z0n r7)]] 0 0] (fun a0 r h=>y7b a0 r7 r h) r18 h19) ⟨.inl rfl,.inl rfl,trivial⟩) ?_
    refine qe rfl ?_
    refine z0c ?_
    refine z0c ?_
    refine z0b hN rfl ?_
    refine qd rfl ?_
    refine z0a (z04 rfl rfl) ?_
    refine z0j _ rfl (fun h20 => ?_) (fun h20 => ?_)
    ·replace H:=ift h20 H
     refine z0c ?_
     refine z0b hN rfl ?_
     refine z0a (y09 (u':=vagg (z0t (z0e.mk [] [] [] [] [] [] 0 0))) (y1h (by exact ⟨z05,z05,z05,z05,z4g,z4g,z05,z05,trivial⟩)) (z3z [] y06 y4p rfl trivial)) ?_
     refine z0k (z1f z4c rfl rfl rfl rfl) rfl ?_
     refine qe rfl ?_
     refine z0m ?_
     cases H
     exact ⟨trivial,.inl ⟨_,_,_,z0t (z0e.mk [] [] [] [] [] [] 0 0),rfl,rfl,rfl,rfl,z4c⟩,.inl rfl,trivial⟩
    ·replace H:=iff_ h20 H
     refine z0l ?_
     refine z0c ?_
     refine z0c ?_
     refine z5o mixed hN rfl rfl ?_
     refine qd rfl ?_
     refine qd rfl ?_
     obtain ⟨x21,h22,H⟩:=bnd H
     refine z0a (y23 y61 (fun _=>rfl) rfl rfl h22) ?_
     refine z0a (z66 y60 rfl) ?_
     refine z0a (z0w tyS9 rfl (z3m (z7s h22).2) rfl) ?_
     refine z0a (z0w z7t rfl rfl rfl) ?_
     obtain ⟨x23,h24,H⟩:=bnd H
     refine z0a (y00 z88 (fun _=>rfl) rfl rfl h24) ?_
     refine z0a (z0w tyS9 rfl (z3m h24) rfl) ?_
     obtain ⟨h25,H⟩:=gif H
     refine z0a (z1h rfl rfl (Nat.le_trans h25 (by decide))) ?_
     refine z0a (z0w z7t rfl rfl rfl) ?_
     obtain ⟨x26,h27,H⟩:=bnd H
     refine z0a (y00 z88 (fun _=>rfl) rfl rfl h27) ?_
     refine z0a (z0w tyS9 rfl (z3m h27) rfl) ?_
     obtain ⟨h28,H⟩:=gif H
     refine z0a (z1h rfl rfl (Nat.le_trans h28 (by decide))) ?_
     obtain ⟨r29,h30,H⟩:=bnd H
     refine z0a (z0o (y03 x21.Secret ((x23++[46])++x26) r29 h30) ⟨.inl rfl,.inl rfl,trivial⟩) ?_
     refine z0a (z0w z7t rfl rfl rfl) ?_
     obtain ⟨x31,h32,H⟩:=bnd H
     refine z0a (y00 z88 (fun _=>rfl) rfl rfl h32) ?_
     refine z0a (z0w tyS9 rfl (z3m h32) rfl) ?_
     refine z0a (z8k rfl rfl) ?_
     refine ⟨rfl,?_⟩
     refine z0j _ rfl (fun h33 => ?_) (fun h33 => ?_)
     ·replace H:=ift h33 H
      refine z0c ?_
      refine z0b hN rfl ?_
      refine z0a (y09 (u':=vagg (z0t (z0e.mk [] [] [] [] [] [] 0 0))) (y1h (by exact ⟨z05,z05,z05,z05,z4g,z4g,z05,z05,trivial⟩)) (z3z [] y06 y4p rfl trivial)) ?_
      refine z0k (z1f z4c rfl rfl rfl rfl) rfl ?_
      refine qe rfl ?_
      refine z0m ?_
      cases H
      exact ⟨trivial,.inl ⟨_,_,_,z0t (z0e.mk [] [] [] [] [] [] 0 0),rfl,rfl,rfl,rfl,z4c⟩,.inl rfl,trivial⟩
     ·replace H:=iff_ h33 H
      refine z0l ?_
      refine z0c ?_
      refine z0b hN rfl ?_
      refine z0a (z0w z7t rfl rfl rfl) ?_
      refine z0a (y00 z88 (fun _=>rfl) rfl rfl h27) ?_
      refine z0a (z0w tyS9 rfl (z3m h27) rfl) ?_
      obtain ⟨r34,h35,H⟩:=bnd H
      refine z0a (z0o (y7u x26 r34 h35) ⟨.inl rfl,trivial⟩) ?_
      refine qd rfl ?_
      refine z0a (z1q rfl rfl) ?_
      refine z0a (z1q rfl rfl) ?_
      refine qe rfl ?_
      refine qe rfl ?_
      refine z0c ?_
      refine z0c ?_
      refine z0b hN rfl ?_
      refine qd rfl ?_
      refine z0a (z68 rfl rfl) ?_
      refine z0j _ rfl (fun h36 => ?_) (fun h36 => ?_)
      ·replace H:=ift h36 H
       refine z0c ?_
       refine z0b hN rfl ?_
       refine z0a (y09 (u':=vagg (z0t (z0e.mk [] [] [] [] [] [] 0 0))) (y1h (by exact ⟨z05,z05,z05,z05,z4g,z4g,z05,z05,trivial⟩)) (z3z [] y06 y4p rfl trivial)) ?_
       refine qd rfl ?_
       refine z0k (z1f z4c rfl rfl rfl rfl) rfl ?_
       refine qe rfl ?_
       refine z0m ?_
       cases H
       exact ⟨trivial,.inl ⟨_,_,_,z0t (z0e.mk [] [] [] [] [] [] 0 0),rfl,rfl,rfl,rfl,z4c⟩,.inl rfl,trivial⟩
      ·replace H:=iff_ h36 H
       refine z0l ?_
       refine z0c ?_
       refine z0b hN rfl ?_
       refine qd rfl ?_
       obtain ⟨r37,h38,H⟩:=bnd H
       refine z0a (z0o (y6g r34.1 r37 h38) ⟨.inl rfl,trivial⟩) ?_
       refine qd rfl ?_
       refine z0a (z1q rfl rfl) ?_
       refine z0a (z1q rfl rfl) ?_
       refine z0a (z1q rfl rfl) ?_
       refine z0k (z3c 3 y06 rfl) rfl ?_
       refine z0k (z1f z4c rfl rfl rfl rfl) rfl ?_
       refine qe rfl ?_
       refine qe rfl ?_
       refine z0z (ι:=Int) (fun i=>[(6,.ptr 1 0),(11,.dat (vint i)),(12,.ptr 3 0)]) (fun i=>[(1,.box none 30 [.dat (vstr []),.dat (vstr []),.dat (vstr []),.dat (vstr []),.dat (vnil),.dat (vnil),.dat (vint 0),.dat (vint 0)]),(3,.box none 30 [.dat (vstr r37.1.Id),.dat (vstr r37.1.Subject),.dat (vstr r37.1.Issuer),.dat (vstr r37.1.Parent),.dat (vlst (List.map z0n r37.1.Audience)),.dat (vlst (List.map z0n r37.1.Scopes)),.dat (vint r37.1.From),.dat (vint r37.1.To)])]) (fun i=>z8p r37 i=some r) (fun i=>rfl) ?_ ?_
       ·skip
        refine z0z (ι:=Bool) (fun i=>[(6,.ptr 1 0),(11,.dat (vint r37.2.2)),(12,.ptr 3 0),(93,.dat (z01 i))]) (fun i=>[(1,.box none 30 [.dat (vstr []),.dat (vstr []),.dat (vstr []),.dat (vstr []),.dat (vnil),.dat (vnil),.dat (vint 0),.dat (vint 0)]),(3,.box none 30 [.dat (vstr r37.1.Id),.dat (vstr r37.1.Subject),.dat (vstr r37.1.Issuer),.dat (vstr r37.1.Parent),.dat (vlst (List.map z0n r37.1.Audience)),.dat (vlst (List.map z0n r37.1.Scopes)),.dat (vint r37.1.From),.dat (vint r37.1.To)])]) (fun i=>z7g r37 i=some r) (fun i=>rfl) ?_ ?_
        ·skip
         refine z0b hN rfl ?_
         refine qd rfl ?_
         refine z0a (z2a rfl rfl) ?_
         refine qd rfl ?_
         refine z08 (j:=2) rfl rfl (fun h39 => ?_) (fun h39 => ?_) rfl
         ·have h40:=un1 h39
          replace H:=ift h40 H
          refine z0p rfl rfl h39 (z0h (.dat _) rfl) ?_
          refine z0p rfl rfl h39 (z0h (.dat _) rfl) ?_
          refine z0p rfl rfl h39 (y23 y61 (fun _=>rfl) rfl rfl h22) ?_
          refine z0p rfl rfl h39 (z66 y4b rfl) ?_
          refine z0p rfl rfl h39 (z0w tyS3 rfl (z3m (z7s h22).2) rfl) ?_
          refine z0p rfl rfl h39 (z0h (.dat _) rfl) ?_
          refine z0p rfl rfl h39 (z9i rfl rfl) ?_
          refine z0p rfl rfl h39 (z0h (.dat _) rfl) ?_
          refine z08 (j:=10) rfl rfl (fun h41 => ?_) (fun h41 => ?_) rfl
          ·have h42:=un1 h41
           replace H:=ift h42 H
           refine z0p rfl rfl h41 (z0h (.dat _) rfl) ?_
           refine z0p rfl rfl h41 (z0h (.dat _) rfl) ?_
           refine z0p rfl rfl h41 (z0h (.dat _) rfl) ?_
           refine z0p rfl rfl h41 (y23 y61 (fun _=>rfl) rfl rfl h22) ?_
           refine z0p rfl rfl h41 (z66 y5k rfl) ?_
           refine z0p rfl rfl h41 (z0w tyS3 rfl (z3m (z7s h22).2) rfl) ?_
           refine z0p rfl rfl h41 (z04 rfl rfl) ?_
           refine z0p rfl rfl h39 (z0v rfl (bTT h42) rfl) ?_
           refine z0p rfl rfl h39 (z3t rfl) ?_
           refine z0a (z0v rfl (bTT h40) rfl) ?_
           exact ⟨!(decide (v3 < x21.Until)),H,⟨rfl,rfl,rfl,rfl,trivial⟩,⟨rfl,rfl,trivial⟩⟩
          ·have h43:=un2 h41
           replace H:=iff_ h43 H
           refine z0f rfl rfl h41 ?_
           refine z0f rfl rfl h41 ?_
           refine z0f rfl rfl h41 ?_
           refine z0f rfl rfl h41 ?_
           refine z0f rfl rfl h41 ?_
           refine z0f rfl rfl h41 ?_
           refine z0f rfl rfl h41 ?_
           refine z0p rfl rfl h39 (z0x rfl (bFF h43) rfl) ?_
           refine z0p rfl rfl h39 (z3t rfl) ?_
           refine z0a (z0v rfl (bTT h40) rfl) ?_
           exact ⟨!false,H,⟨rfl,rfl,rfl,rfl,trivial⟩,⟨rfl,rfl,trivial⟩⟩
         ·have h44:=un2 h39
          replace H:=iff_ h44 H
          refine z0f rfl rfl h39 ?_
          refine z0f rfl rfl h39 ?_
          refine z0f rfl rfl h39 ?_
          refine z0f rfl rfl h39 ?_
          refine z0f rfl rfl h39 ?_
          refine z0f rfl rfl h39 ?_
          refine z0f rfl rfl h39 ?_
          refine z0f rfl rfl h39 ?_
          refine z06 rfl rfl ?_
          refine z06 rfl rfl ?_
          refine z06 rfl rfl ?_
          refine z06 rfl rfl ?_
          refine z06 rfl rfl ?_
          refine z06 rfl rfl ?_
          refine z06 rfl rfl ?_
          refine z0f rfl rfl h39 ?_
          refine z0f rfl rfl h39 ?_
          refine z0a (z0x rfl (bFF h44) rfl) ?_
          exact ⟨false,H,⟨rfl,rfl,rfl,rfl,trivial⟩,⟨rfl,rfl,trivial⟩⟩
        ·rintro v45 H
         replace H:z7g r37 v45=some r:=H
         unfold z7g at H
         refine z0j _ rfl (fun h46 => ?_) (fun h46 => ?_)
         ·replace H:=ift h46 H
          refine z0b hN rfl ?_
          refine qe rfl ?_
          exact ⟨11,H,⟨rfl,rfl,rfl,trivial⟩,⟨rfl,rfl,trivial⟩⟩
         ·replace H:=iff_ h46 H
          refine z0l ?_
          exact ⟨r37.2.2,H,⟨rfl,rfl,rfl,trivial⟩,⟨rfl,rfl,trivial⟩⟩
       ·rintro v47 H
        replace H:z8p r37 v47=some r:=H
        unfold z8p at H
        refine z0c ?_
        refine z0c ?_
        refine z0b hN rfl ?_
        refine qd rfl ?_
        refine z0a (z68 rfl rfl) ?_
        refine z0j _ rfl (fun h48 => ?_) (fun h48 => ?_)
        ·replace H:=ift h48 H
         refine z0c ?_
         refine z0b hN rfl ?_
         refine z0a (y09 (u':=vagg (z0t (z0e.mk [] [] [] [] [] [] 0 0))) (y1h (by exact ⟨z05,z05,z05,z05,z4g,z4g,z05,z05,trivial⟩)) (z3z [] y06 y4p rfl trivial)) ?_
         refine qd rfl ?_
         refine z0k (z1f z4c rfl rfl rfl rfl) rfl ?_
         refine qe rfl ?_
         refine z0m ?_
         cases H
         exact ⟨trivial,.inl ⟨_,_,_,z0t (z0e.mk [] [] [] [] [] [] 0 0),rfl,rfl,rfl,rfl,z4c⟩,.inl rfl,trivial⟩
        ·replace H:=iff_ h48 H
         refine z0l ?_
         refine z0c ?_
         refine z0b hN rfl ?_
         refine z0y (z5v z4c rfl rfl rfl) rfl ?_
         refine z0k (z1f z4c rfl rfl rfl rfl) rfl ?_
         refine qe rfl ?_
         refine z0m ?_
         cases H
         exact ⟨trivial,.inl ⟨_,_,_,z0t r37.1,rfl,rfl,rfl,rfl,z4c⟩,.inl rfl,trivial⟩
theorem y6f (a1:z0e) (b2:z0e) (r:(Bool)) (H:z6y a1 b2=some r):Fn Tryz.prog 16 [vagg (z0t a1),vagg (z0t b2)] (z1s [z01 r]):=by
 refine ⟨by kernel_rfl,z1g (us:=[z01 r]) Tryz.func16 rfl rfl rfl rfl fun X hN => ?_⟩
 unfold z6y at H
 refine z0c ?_
 refine z0b hN rfl ?_
 refine z0k (y0e 1 rfl) rfl ?_
 refine z0k (y0e 2 rfl) rfl ?_
 refine qe rfl ?_
 refine z0z (ι:=Bool) (fun i=>[(4,.dat (z01 i))]) (fun i=>[]) (fun i=>z2u i=some r) (fun i=>rfl) ?_ ?_
 ·skip
  refine z0b hN rfl ?_
  refine z0a (z0r y5o rfl) ?_
  refine z0y (z0s tyS9 rfl rfl) rfl ?_
  refine z0a (z0r y5n rfl) ?_
  refine z0y (z0s tyS9 rfl rfl) rfl ?_
  refine z0a (z0r y5m rfl) ?_
  refine z0y (z0s tyS9 rfl rfl) rfl ?_
  refine z0a (z0r y25 rfl) ?_
  refine z0y (z0s tyS9 rfl rfl) rfl ?_
  refine z0a (z09 (u':=vagg [vstr a1.Id,vstr a1.Subject,vstr a1.Issuer,vstr a1.Parent]) (x0v [(0,[vstr a1.Id]),(1,[vstr a1.Subject]),(2,[vstr a1.Issuer]),(3,[vstr a1.Parent])] w41 (show tyA Tryz.prog 72=some (4,9,.string) from by kernel_rfl) rfl ⟨rfl,.inl ⟨_,rfl,rfl,rfl⟩,rfl,rfl,.inl ⟨_,rfl,rfl,rfl⟩,rfl,rfl,.inl ⟨_,rfl,rfl,rfl⟩,rfl,rfl,.inl ⟨_,rfl,rfl,rfl⟩,rfl,trivial⟩) rfl) ?_
  refine z0a (z0r y5o rfl) ?_
  refine z0y (z0s tyS9 rfl rfl) rfl ?_
  refine z0a (z0r y5n rfl) ?_
  refine z0y (z0s tyS9 rfl rfl) rfl ?_
  refine z0a (z0r y5m rfl) ?_
  refine z0y (z0s tyS9 rfl rfl) rfl ?_
  refine z0a (z0r y25 rfl) ?_
  refine z0y (z0s tyS9 rfl rfl) rfl ?_
  refine z0a (z09 (u':=vagg [vstr b2.Id,vstr b2.Subject,vstr b2.Issuer,vstr b2.Parent]) (x0v [(0,[vstr b2.Id]),(1,[vstr b2.Subject]),(2,[vstr b2.Issuer]),(3,[vstr b2.Parent])] w41 (show tyA Tryz.prog 72=some (4,9,.string) from by kernel_rfl) rfl ⟨rfl,.inl ⟨_,rfl,rfl,rfl⟩,rfl,rfl,.inl ⟨_,rfl,rfl,rfl⟩,rfl,rfl,.inl ⟨_,rfl,rfl,rfl⟩,rfl,rfl,.inl ⟨_,rfl,rfl,rfl⟩,rfl,trivial⟩) rfl) ?_
  refine z0a (x8g [_,_,_,_] [_,_,_,_] (show tyA Tryz.prog 72=some (4,9,.string) from by kernel_rfl) rfl rfl rfl rfl) ?_
  refine qd rfl ?_
  refine z08 (j:=19) rfl rfl (fun h3 => ?_) (fun h3 => ?_) rfl
  ·have h4:=un1 h3
   replace H:=ift h4 H
   refine z0p rfl rfl h3 (z0r y2n rfl) ?_
   refine y15 rfl rfl h3 (z0s z7t rfl rfl) rfl ?_
   refine z0p rfl rfl h3 (z0r y2n rfl) ?_
   refine y15 rfl rfl h3 (z0s z7t rfl rfl) rfl ?_
   obtain ⟨r5,h6,H⟩:=bnd H
   refine z0p rfl rfl h3 (z0o (z50 a1.Audience b2.Audience r5 h6) ⟨.inl rfl,.inl rfl,trivial⟩) ?_
   refine z0a (z0v rfl (bTT h4) rfl) ?_
   refine qd rfl ?_
   refine z08 (j:=26) rfl rfl (fun h7 => ?_) (fun h7 => ?_) rfl
   ·have h8:=un1 h7
    replace H:=ift h8 H
    refine z0p rfl rfl h7 (z0r y2g rfl) ?_
    refine y15 rfl rfl h7 (z0s z7t rfl rfl) rfl ?_
    refine z0p rfl rfl h7 (z0r y2g rfl) ?_
    refine y15 rfl rfl h7 (z0s z7t rfl rfl) rfl ?_
    obtain ⟨r9,h10,H⟩:=bnd H
    refine z0p rfl rfl h7 (z0o (z50 a1.Scopes b2.Scopes r9 h10) ⟨.inl rfl,.inl rfl,trivial⟩) ?_
    refine z0a (z0v rfl (bTT h8) rfl) ?_
    refine qd rfl ?_
    refine z08 (j:=33) rfl rfl (fun h11 => ?_) (fun h11 => ?_) rfl
    ·have h12:=un1 h11
     replace H:=ift h12 H
     refine z0p rfl rfl h11 (z0r y3p rfl) ?_
     refine y15 rfl rfl h11 (z0s tyS3 rfl rfl) rfl ?_
     refine z0p rfl rfl h11 (z0r y3p rfl) ?_
     refine y15 rfl rfl h11 (z0s tyS3 rfl rfl) rfl ?_
     refine z0p rfl rfl h11 (z2a rfl rfl) ?_
     refine z0a (z0v rfl (bTT h12) rfl) ?_
     refine qd rfl ?_
     refine z08 (j:=40) rfl rfl (fun h13 => ?_) (fun h13 => ?_) rfl
     ·have h14:=un1 h13
      replace H:=ift h14 H
      refine z0p rfl rfl h13 (z0r y2m rfl) ?_
      refine y15 rfl rfl h13 (z0s tyS3 rfl rfl) rfl ?_
      refine z0p rfl rfl h13 (z0r y2m rfl) ?_
      refine y15 rfl rfl h13 (z0s tyS3 rfl rfl) rfl ?_
      refine z0p rfl rfl h13 (z2a rfl rfl) ?_
      refine z0a (z0v rfl (bTT h14) rfl) ?_
      refine qe rfl ?_
      exact ⟨decide (a1.To=b2.To),H,⟨rfl,trivial⟩,trivial⟩
     ·have h15:=un2 h13
      replace H:=iff_ h15 H
      refine z0f rfl rfl h13 ?_
      refine z0f rfl rfl h13 ?_
      refine z0f rfl rfl h13 ?_
      refine z0f rfl rfl h13 ?_
      refine z0f rfl rfl h13 ?_
      refine z0a (z0x rfl (bFF h15) rfl) ?_
      refine qe rfl ?_
      exact ⟨false,H,⟨rfl,trivial⟩,trivial⟩
    ·have h16:=un2 h11
     replace H:=iff_ h16 H
     refine z0f rfl rfl h11 ?_
     refine z0f rfl rfl h11 ?_
     refine z0f rfl rfl h11 ?_
     refine z0f rfl rfl h11 ?_
     refine z0f rfl rfl h11 ?_
     refine z0a (z0x rfl (bFF h16) rfl) ?_
     refine qd rfl ?_
     refine z0f rfl rfl rfl ?_
     refine z0f rfl rfl rfl ?_
     refine z0f rfl rfl rfl ?_
     refine z0f rfl rfl rfl ?_
     refine z0f rfl rfl rfl ?_
     refine z0a (z0x rfl rfl rfl) ?_
     refine qe rfl ?_
     exact ⟨false,H,⟨rfl,trivial⟩,trivial⟩
   ·have h17:=un2 h7
    replace H:=iff_ h17 H
    refine z0f rfl rfl h7 ?_
    refine z0f rfl rfl h7 ?_
    refine z0f rfl rfl h7 ?_
    refine z0f rfl rfl h7 ?_
    refine z0f rfl rfl h7 ?_
    refine z0a (z0x rfl (bFF h17) rfl) ?_
    refine qd rfl ?_
    refine z0f rfl rfl rfl ?_
    refine z0f rfl rfl rfl ?_
    refine z0f rfl rfl rfl ?_
    refine z0f rfl rfl rfl ?_
    refine z0f rfl rfl rfl ?_
    refine z0a (z0x rfl rfl rfl) ?_
    refine qd rfl ?_
    refine z0f rfl rfl rfl ?_
    refine z0f rfl rfl rfl ?_
    refine z0f rfl rfl rfl ?_
    refine z0f rfl rfl rfl ?_
    refine z0f rfl rfl rfl ?_
    refine z0a (z0x rfl rfl rfl) ?_
    refine qe rfl ?_
    exact ⟨false,H,⟨rfl,trivial⟩,trivial⟩
  ·have h18:=un2 h3
   replace H:=iff_ h18 H
   refine z0f rfl rfl h3 ?_
   refine z0f rfl rfl h3 ?_
   refine z0f rfl rfl h3 ?_
   refine z0f rfl rfl h3 ?_
   refine z0f rfl rfl h3 ?_
   refine z0a (z0x rfl (bFF h18) rfl) ?_
   refine qd rfl ?_
   refine z0f rfl rfl rfl ?_
   refine z0f rfl rfl rfl ?_
   refine z0f rfl rfl rfl ?_
   refine z0f rfl rfl rfl ?_
   refine z0f rfl rfl rfl ?_
   refine z0a (z0x rfl rfl rfl) ?_
   refine qd rfl ?_
   refine z0f rfl rfl rfl ?_
   refine z0f rfl rfl rfl ?_
   refine z0f rfl rfl rfl ?_
   refine z0f rfl rfl rfl ?_
   refine z0f rfl rfl rfl ?_
   refine z0a (z0x rfl rfl rfl) ?_
   refine qd rfl ?_
   refine z0f rfl rfl rfl ?_
   refine z0f rfl rfl rfl ?_
   refine z0f rfl rfl rfl ?_
   refine z0f rfl rfl rfl ?_
   refine z0f rfl rfl rfl ?_
   refine z0a (z0x rfl rfl rfl) ?_
   refine qe rfl ?_
   exact ⟨false,H,⟨rfl,trivial⟩,trivial⟩
 ·rintro v19 H
  replace H:z2u v19=some r:=H
  unfold z2u at H
  refine z0m ?_
  cases H
  exact ⟨trivial,.inl rfl,trivial⟩
theorem y8b  (r:(Bool)) (H:y0m  = some r):Fn Tryz.prog 17 [] (z1s [z01 r]):=by
 refine ⟨by kernel_rfl,z1g (us:=[z01 r]) Tryz.func17 rfl rfl rfl rfl fun X hN => ?_⟩
 unfold y0m at H
 refine z0c ?_
 refine z0b hN rfl ?_
 refine qe rfl ?_
 refine z0c ?_
 refine z0b hN rfl ?_
 obtain ⟨r1,h2,H⟩:=bnd H
 refine z0a (z0o (y43 [97,98] r1 h2) ⟨.inl rfl,trivial⟩) ?_
 refine z0a (z65 rfl rfl) ?_
 refine qe rfl ?_
 refine z0m ?_
 cases H
 exact ⟨trivial,.inl rfl,trivial⟩
theorem y51 (v1:(List Int)) (r:(Bool)) (H:z81 v1=some r):Fn Tryz.prog 3 [vlst (List.map y22 v1)] (z1s [z01 r]):=by
 refine ⟨by kernel_rfl,z1g (us:=[z01 r]) Tryz.func3 rfl rfl rfl rfl fun X hN => ?_⟩
 unfold z81 at H
 refine z0c ?_
 refine z0b hN rfl ?_
 refine qe rfl ?_
 refine z0c ?_
 refine z0b hN rfl ?_
 refine qd rfl ?_
 refine z0a (z09 (u':=vagg (z0q (z0d.mk v1 0))) (z3z [(0,[vlst (List.map y22 v1)])] w6n w6o rfl ⟨rfl,.inl ⟨_,rfl,rfl,rfl⟩,rfl,trivial⟩) rfl) ?_
 refine z0k (y0e 1 rfl) rfl ?_
 refine z0a (z2b (.ptr _ _) rfl) ?_
 refine z0c ?_
 refine z0b hN rfl ?_
 refine z0a (z0h (.ptr _ _) rfl) ?_
 obtain ⟨r2,h3,H⟩:=bnd H
 refine z0k (z1e (y45 (z0d.mk v1 0) r2 h3) rfl trivial rfl) rfl ?_
 refine z0a (z0h (.ptr _ _) rfl) ?_
 obtain ⟨r4,h5,H⟩:=bnd H
 refine z0k (z1e (y5i r2.2 r4 h5) rfl trivial rfl) rfl ?_
 refine z0a (z0h (.ptr _ _) rfl) ?_
 obtain ⟨r6,h7,H⟩:=bnd H
 refine z0k (z1e (y2k r4.2 r6 h7) rfl trivial rfl) rfl ?_
 refine z0a (z0h (.ptr _ _) rfl) ?_
 obtain ⟨r8,h9,H⟩:=bnd H
 refine z0k (z1e (y2k r6.2 r8 h9) rfl trivial rfl) rfl ?_
 refine z0k (z3c 2 y06 rfl) rfl ?_
 refine qe rfl ?_
 refine z0k (z1f z4c rfl rfl rfl rfl) rfl ?_
 refine qe rfl ?_
 refine qe rfl ?_
 refine z0c ?_
 refine z0b hN rfl ?_
 refine qd rfl ?_
 refine z0y (z5v z4c rfl rfl rfl) rfl ?_
 refine qd rfl ?_
 obtain ⟨r10,h11,H⟩:=bnd H
 refine z0a (z0o (x1z r2.1 r4.1 r6.1 r10 h11) ⟨.inl rfl,.inl rfl,.inl rfl,trivial⟩) ?_
 refine qd rfl ?_
 refine z0a (z1q rfl rfl) ?_
 refine z0a (z1q rfl rfl) ?_
 refine qe rfl ?_
 refine qe rfl ?_
 refine z0c ?_
 refine z0b hN rfl ?_
 refine qd rfl ?_
 obtain ⟨r12,h13,H⟩:=bnd H
 refine z0a (z0o (y5y r2.1 r12 h13) ⟨.inl rfl,trivial⟩) ?_
 refine qe rfl ?_
 refine z0c ?_
 refine z0b hN rfl ?_
 refine qe rfl ?_
 refine z0c ?_
 refine z0b hN rfl ?_
 refine qd rfl ?_
 refine qe rfl ?_
 refine z0z (ι:=Bs×Int) (fun i=>[(3,.ptr 1 0),(4,.dat (vlst (List.map z00 r2.1))),(7,.dat (vint r8.1)),(8,.dat (vstr r10.1)),(9,.dat (vint r10.2)),(10,.dat (vint r12)),(11,.dat (vstr i.1)),(12,.dat (vint i.2))]) (fun i=>[(1,.box none 25 [.dat (vlst (List.map y22 r8.2.L)),.dat (vint r8.2.at_)])]) (fun i=>z4a r2 r8 r10 r12 i.1 i.2=some r) (fun i=>rfl) ?_ ?_
 ·skip
  refine z0c ?_
  refine z0b hN rfl ?_
  refine qd rfl ?_
  refine z0a (z2a rfl rfl) ?_
  refine z0j _ rfl (fun h14 => ?_) (fun h14 => ?_)
  ·replace H:=ift h14 H
   refine z0b hN rfl ?_
   refine qd rfl ?_
   refine z0y (z5v z4c rfl rfl rfl) rfl ?_
   refine qd rfl ?_
   obtain ⟨r15,h16,H⟩:=bnd H
   refine z0a (z0o (y4y r2.1 r4.1 r6.1 r15 h16) ⟨.inl rfl,.inl rfl,.inl rfl,trivial⟩) ?_
   refine qd rfl ?_
   refine z0a (z1q rfl rfl) ?_
   refine z0a (z1q rfl rfl) ?_
   refine qe rfl ?_
   refine qe rfl ?_
   exact ⟨(r15.1,r15.2),H,⟨rfl,rfl,rfl,rfl,rfl,rfl,rfl,rfl,trivial⟩,⟨rfl,trivial⟩⟩
  ·replace H:=iff_ h14 H
   refine z0l ?_
   exact ⟨([],r12),H,⟨rfl,rfl,rfl,rfl,rfl,rfl,rfl,rfl,trivial⟩,⟨rfl,trivial⟩⟩
 ·rintro ⟨v17,v18⟩ H
  replace H:z4a r2 r8 r10 r12 v17 v18=some r:=H
  unfold z4a at H
  refine z0c ?_
  refine z0c ?_
  refine z0b hN rfl ?_
  refine qd rfl ?_
  refine qd rfl ?_
  refine z0a (z68 rfl rfl) ?_
  refine qd rfl ?_
  refine z2r rfl rfl (fun hc=>z0h (.dat _) rfl) ?_
  refine z2r rfl rfl (fun hc=>z0h (.dat _) rfl) ?_
  refine z2r rfl rfl (fun hc=>z8k (cnd (c:=(!(decide (r10.2≠v18)))) hc) (cnd (c:=(!(decide (r10.2≠v18)))) hc)) ?_
  refine z0a (z3f rfl rfl (fun hb=>(cnd (c:=(!(decide (r10.2≠v18)))) (notI hb)))) ?_
  refine z0j _ rfl (fun h19 => ?_) (fun h19 => ?_)
  ·replace H:=ift h19 H
   refine z0c ?_
   refine z0b hN rfl ?_
   refine qe rfl ?_
   refine z0m ?_
   cases H
   exact ⟨trivial,.inl rfl,trivial⟩
  ·replace H:=iff_ h19 H
   refine z0l ?_
   refine z0c ?_
   refine z0b hN rfl ?_
   refine qd rfl ?_
   refine qe rfl ?_
   refine z0z (ι:=Bs) (fun i=>[(4,.dat (vlst (List.map z00 r2.1))),(7,.dat (vint r8.1)),(10,.dat (vint r12)),(13,.dat (vstr i))]) (fun i=>[]) (fun i=>z39 r2 r8 r12 i=some r) (fun i=>rfl) ?_ ?_
   ·skip
    refine z0z (ι:=Bool×(List Int)×Int) (fun i=>[(3,.ptr 1 0),(4,.dat (vlst (List.map z00 r2.1))),(7,.dat (vint r8.1)),(10,.dat (vint r12)),(13,.dat (vstr r10.1)),(65,.dat (z01 i.1))]) (fun i=>[(1,.box none 25 [.dat (vlst (List.map y22 i.2.1)),.dat (vint i.2.2)])]) (fun i=>z28 r2 r8 r10 r12 i.1 i.2.1 i.2.2=some r) (fun i=>rfl) ?_ ?_
    ·skip
     refine z0b hN rfl ?_
     refine qd rfl ?_
     refine z0a (z2a rfl rfl) ?_
     refine qd rfl ?_
     refine z08 (j:=2) rfl rfl (fun h20 => ?_) (fun h20 => ?_) rfl
     ·have h21:=un1 h20
      replace H:=ift h21 H
      refine z0p rfl rfl h20 (z0h (.dat _) rfl) ?_
      refine z0p rfl rfl h20 (z65 rfl rfl) ?_
      refine z0p rfl rfl h20 (z0h (.dat _) rfl) ?_
      refine z08 (j:=5) rfl rfl (fun h22 => ?_) (fun h22 => ?_) rfl
      ·have h23:=un3 h22
       replace H:=iff_ h23 H
       refine z0p rfl rfl h22 (z0h (.ptr _ _) rfl) ?_
       obtain ⟨r24,h25,H⟩:=bnd H
       refine x8p rfl rfl h22 (z1e (z17 r8.2 2 r24 h25) rfl ⟨.inl rfl,trivial⟩ rfl) rfl ?_
       refine z0p rfl rfl h20 (z0x rfl (bFF h23) rfl) ?_
       refine z0a (z0v rfl (bTT h21) rfl) ?_
       exact ⟨(r24.1,r24.2.L,r24.2.at_),H,⟨rfl,rfl,rfl,rfl,rfl,rfl,trivial⟩,⟨rfl,trivial⟩⟩
      ·have h26:=un4 h22
       replace H:=ift h26 H
       refine z0f rfl rfl h22 ?_
       refine z0f rfl rfl h22 ?_
       refine z0p rfl rfl h20 (z0v rfl (bTT h26) rfl) ?_
       refine z0a (z0v rfl (bTT h21) rfl) ?_
       exact ⟨(true,r8.2.L,r8.2.at_),H,⟨rfl,rfl,rfl,rfl,rfl,rfl,trivial⟩,⟨rfl,trivial⟩⟩
     ·have h27:=un2 h20
      replace H:=iff_ h27 H
      refine z0f rfl rfl h20 ?_
      refine z0f rfl rfl h20 ?_
      refine z0f rfl rfl h20 ?_
      refine z06 rfl rfl ?_
      refine z06 rfl rfl ?_
      refine z0f rfl rfl h20 ?_
      refine z0a (z0x rfl (bFF h27) rfl) ?_
      exact ⟨(false,r8.2.L,r8.2.at_),H,⟨rfl,rfl,rfl,rfl,rfl,rfl,trivial⟩,⟨rfl,trivial⟩⟩
    ·rintro ⟨v28,c29,c30⟩ H
     replace H:z28 r2 r8 r10 r12 v28 c29 c30=some r:=H
     unfold z28 at H
     refine z0j _ rfl (fun h31 => ?_) (fun h31 => ?_)
     ·replace H:=ift h31 H
      refine z0b hN rfl ?_
      refine z0a (z0h (.ptr _ _) rfl) ?_
      refine qd rfl ?_
      refine z0a (z0h (.ptr _ _) rfl) ?_
      obtain ⟨r32,h33,H⟩:=bnd H
      refine z0k (z1e (z8t (z0d.mk c29 c30) r32 h33) rfl trivial rfl) rfl ?_
      refine z0a (z0h (.ptr _ _) rfl) ?_
      refine z0a (z09 (u':=vlst (List.map y22 [10,60,100])) (z2g [[_],[_],[_]] x1i ⟨rfl,.inl ⟨_,rfl,rfl,rfl⟩,rfl,rfl,.inl ⟨_,rfl,rfl,rfl⟩,rfl,rfl,.inl ⟨_,rfl,rfl,rfl⟩,rfl,trivial⟩ rfl rfl) rfl) ?_
      obtain ⟨r34,h35,H⟩:=bnd H
      refine z0k (z1e (z2t r32.2 [10,60,100] r34 h35) rfl ⟨.inl rfl,trivial⟩ rfl) rfl ?_
      obtain ⟨r36,h37,H⟩:=bnd H
      refine z0k (z1e (y3s r34.2 r2.1 r32.1 r34.1 r36 h37) rfl ⟨.inl rfl,.inl rfl,.inl rfl,trivial⟩ rfl) rfl ?_
      refine qe rfl ?_
      exact ⟨r36.1,H,⟨rfl,rfl,rfl,rfl,trivial⟩,trivial⟩
     ·replace H:=iff_ h31 H
      refine z0l ?_
      exact ⟨r10.1,H,⟨rfl,rfl,rfl,rfl,trivial⟩,trivial⟩
   ·rintro v38 H
    replace H:z39 r2 r8 r12 v38=some r:=H
    unfold z39 at H
    refine z0c ?_
    refine z0b hN rfl ?_
    refine qd rfl ?_
    refine qd rfl ?_
    refine qd rfl ?_
    obtain ⟨r39,h40,H⟩:=bnd H
    refine z0a (z0o (x3o r2.1 v38 r8.1 r39 h40) ⟨.inl rfl,.inl rfl,.inl rfl,trivial⟩) ?_
    refine qd rfl ?_
    refine z0a (z1q rfl rfl) ?_
    refine z0a (z1q rfl rfl) ?_
    refine z0k (z3c 3 y06 rfl) rfl ?_
    refine z0k (z1f z4c rfl rfl rfl rfl) rfl ?_
    refine qe rfl ?_
    refine z0c ?_
    refine z0b hN rfl ?_
    refine z0k (z3c 4 y06 rfl) rfl ?_
    refine x2m 4 4 (.dat (vlst [])) rfl rfl (fun g w M v h=>z4g w M v h) ?_
    refine x2m 4 5 (.dat (vlst [])) rfl rfl (fun g w M v h=>z4g w M v h) ?_
    refine z0z (ι:=Int×Bs×Bs×Bs×Bs×(List Bs)×(List Bs)×Int×Int) (fun i=>[(10,.dat (vint i.1)),(14,.ptr 3 0),(15,.dat (vint r39.2)),(16,.ptr 4 0)]) (fun i=>[(3,.box none 30 [.dat (vstr r39.1.Id),.dat (vstr r39.1.Subject),.dat (vstr r39.1.Issuer),.dat (vstr r39.1.Parent),.dat (vlst (List.map z0n r39.1.Audience)),.dat (vlst (List.map z0n r39.1.Scopes)),.dat (vint r39.1.From),.dat (vint r39.1.To)]),(4,.box none 30 [.dat (vstr i.2.1),.dat (vstr i.2.2.1),.dat (vstr i.2.2.2.1),.dat (vstr i.2.2.2.2.1),.dat (vlst (List.map z0n i.2.2.2.2.2.1)),.dat (vlst (List.map z0n i.2.2.2.2.2.2.1)),.dat (vint i.2.2.2.2.2.2.2.1),.dat (vint i.2.2.2.2.2.2.2.2)])]) (fun i=>z38 r39 i.1 i.2.1 i.2.2.1 i.2.2.2.1 i.2.2.2.2.1 i.2.2.2.2.2.1 i.2.2.2.2.2.2.1 i.2.2.2.2.2.2.2.1 i.2.2.2.2.2.2.2.2=some r) (fun i=>rfl) ?_ ?_
    ·skip
     refine z0c ?_
     refine z0b hN rfl ?_
     refine qd rfl ?_
     refine z0a (z2a rfl rfl) ?_
     refine z0j _ rfl (fun h41 => ?_) (fun h41 => ?_)
     ·replace H:=ift h41 H
      refine z0b hN rfl ?_
      refine qd rfl ?_
      refine qd rfl ?_
      refine qd rfl ?_
      obtain ⟨r42,h43,H⟩:=bnd H
      refine z0a (z0o (y8a r2.1 v38 r8.1 r42 h43) ⟨.inl rfl,.inl rfl,.inl rfl,trivial⟩) ?_
      refine qd rfl ?_
      refine z0a (z1q rfl rfl) ?_
      refine z0a (z1q rfl rfl) ?_
      refine z0k (z1f z4c rfl rfl rfl rfl) rfl ?_
      refine qe rfl ?_
      exact ⟨(r42.2,r42.1.Id,r42.1.Subject,r42.1.Issuer,r42.1.Parent,r42.1.Audience,r42.1.Scopes,r42.1.From,r42.1.To),H,⟨rfl,rfl,rfl,rfl,trivial⟩,⟨rfl,rfl,trivial⟩⟩
     ·replace H:=iff_ h41 H
      refine z0l ?_
      exact ⟨(r12,[],[],[],[],([]:(List Bs)),([]:(List Bs)),0,0),H,⟨rfl,rfl,rfl,rfl,trivial⟩,⟨rfl,rfl,trivial⟩⟩
    ·rintro ⟨v44,c45,c46,c47,c48,c49,c50,c51,c52⟩ H
     replace H:z38 r39 v44 c45 c46 c47 c48 c49 c50 c51 c52=some r:=H
     unfold z38 at H
     refine z0z (ι:=Bool) (fun i=>[(2,.dat (z01 i))]) (fun i=>[]) (fun i=>z36 i=some r) (fun i=>rfl) ?_ ?_
     ·skip
      refine z0b hN rfl ?_
      refine qd rfl ?_
      refine qd rfl ?_
      refine z0a (z2a rfl rfl) ?_
      refine qd rfl ?_
      refine z08 (j:=3) rfl rfl (fun h53 => ?_) (fun h53 => ?_) rfl
      ·have h54:=un1 h53
       replace H:=ift h54 H
       refine y15 rfl rfl h53 (z5v z4c rfl rfl rfl) rfl ?_
       refine y15 rfl rfl h53 (z5v z4c rfl rfl rfl) rfl ?_
       obtain ⟨r55,h56,H⟩:=bnd H
       refine z0p rfl rfl h53 (z0o (y6f r39.1 (z0e.mk c45 c46 c47 c48 c49 c50 c51 c52) r55 h56) ⟨.inl rfl,.inl rfl,trivial⟩) ?_
       refine z0a (z0v rfl (bTT h54) rfl) ?_
       refine qd rfl ?_
       refine z08 (j:=8) rfl rfl (fun h57 => ?_) (fun h57 => ?_) rfl
       ·have h58:=un1 h57
        replace H:=ift h58 H
        obtain ⟨r59,h60,H⟩:=bnd H
        refine z0p rfl rfl h57 (z0o (y8b  r59 h60) trivial) ?_
        refine z0a (z0v rfl (bTT h58) rfl) ?_
        refine qe rfl ?_
        exact ⟨r59,H,⟨rfl,trivial⟩,trivial⟩
       ·have h61:=un2 h57
        replace H:=iff_ h61 H
        refine z0f rfl rfl h57 ?_
        refine z0a (z0x rfl (bFF h61) rfl) ?_
        refine qe rfl ?_
        exact ⟨false,H,⟨rfl,trivial⟩,trivial⟩
      ·have h62:=un2 h53
       replace H:=iff_ h62 H
       refine z0f rfl rfl h53 ?_
       refine z0f rfl rfl h53 ?_
       refine z0f rfl rfl h53 ?_
       refine z0a (z0x rfl (bFF h62) rfl) ?_
       refine qd rfl ?_
       refine z0f rfl rfl rfl ?_
       refine z0a (z0x rfl rfl rfl) ?_
       refine qe rfl ?_
       exact ⟨false,H,⟨rfl,trivial⟩,trivial⟩
     ·rintro v63 H
      replace H:z36 v63=some r:=H
      unfold z36 at H
      refine z0m ?_
      cases H
      exact ⟨trivial,.inl rfl,trivial⟩
end Go.Proofs.YtkckjgkfljgjpaaGreatDoor
