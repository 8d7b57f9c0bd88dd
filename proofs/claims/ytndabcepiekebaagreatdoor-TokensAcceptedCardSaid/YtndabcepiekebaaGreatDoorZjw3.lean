/- Walks along the models. Printed by a program. -/
import Derived.Test.YtndabcepiekebaaGreatDoorZjw2
namespace Go.Proofs.YtndabcepiekebaaGreatDoor
open Go.RowKit
set_option linter.unusedVariables false
set_option maxRecDepth 100000
set_option maxHeartbeats 2000000
theorem y9g (v1:(List z0y)) (v2:Int) (r:(Int)) (H:y05 v1 v2=some r):Fn Tryz.prog 44 [vlst (List.map z1w v1),vint v2] (z1r [vint r]):=by
 refine ⟨by kernel_rfl,z1e (us:=[vint r]) Tryz.func44 rfl rfl rfl rfl fun X hN => ?_⟩
 unfold y05 at H
 refine z0c ?_
 refine z0b hN rfl ?_
 refine qe rfl ?_
 refine z0c ?_
 refine z0b hN rfl ?_
 refine qd rfl ?_
 refine qd rfl ?_
 obtain ⟨x3,h4,H⟩:=bnd H
 refine z0a (y25 x68 (fun _=>rfl) rfl rfl h4) ?_
 refine z0a (y15 w34 rfl (z2l (z6x h4).2) rfl) ?_
 refine z0j (z2s 1 w3y rfl) rfl ?_
 refine z0j (z1b w34 rfl rfl rfl rfl) rfl ?_
 refine z0c ?_
 refine z0c ?_
 refine z0b hN rfl ?_
 refine z0a (z0r y73 rfl) ?_
 refine z0w (z0o tyS9 rfl rfl) rfl ?_
 obtain ⟨r5,h6,H⟩:=bnd H
 refine z0a (z0q (z98 x3.App r5 h6) ⟨.inl rfl,trivial⟩) ?_
 refine z0a (z2j rfl) ?_
 refine z0g _ rfl (fun h7 => ?_) (fun h7 => ?_)
 ·replace H:=ift h7 H
  refine z0c ?_
  refine z0b hN rfl ?_
  refine qe rfl ?_
  refine z0m ?_
  cases H
  exact ⟨trivial,.inl rfl,trivial⟩
 ·replace H:=iff_ h7 H
  refine z0l ?_
  refine z0c ?_
  refine z0c ?_
  refine z0b hN rfl ?_
  refine z0a (z0r y83 rfl) ?_
  refine z0w (z0o tyS9 rfl rfl) rfl ?_
  obtain ⟨r8,h9,H⟩:=bnd H
  refine z0a (z0q (x5d x3.Sum r8 h9) ⟨.inl rfl,trivial⟩) ?_
  refine z0a (z2j rfl) ?_
  refine z0g _ rfl (fun h10 => ?_) (fun h10 => ?_)
  ·replace H:=ift h10 H
   refine z0c ?_
   refine z0b hN rfl ?_
   refine qe rfl ?_
   refine z0m ?_
   cases H
   exact ⟨trivial,.inl rfl,trivial⟩
  ·replace H:=iff_ h10 H
   refine z0l ?_
   refine z0c ?_
   refine z03 (ι:=Bool) (fun i=>[(5,.ptr 1 0),(53,.dat (z05 i))]) (fun i=>[(1,.box none 80 [.dat (vstr x3.App),.dat (vstr x3.Sum),.dat (vlst (List.map z0n x3.Scopes)),.dat (vint x3.From),.dat (vint x3.To)])]) (fun i=>z4h x3 i=some r) (fun i=>rfl) ?_ ?_
   ·skip
    refine z4k mixed hN rfl rfl ?_
    refine qd rfl ?_
    refine z0a (z2m rfl rfl) ?_
    refine qd rfl ?_
    refine z09 (j:=2) rfl rfl (fun h11 => ?_) (fun h11 => ?_) rfl
    ·have h12:=un1 h11
     replace H:=ift h12 H
     refine z0p rfl rfl h11 (z0r y73 rfl) ?_
     refine z8z rfl rfl h11 (z0o tyS9 rfl rfl) rfl ?_
     refine z0p rfl rfl h11 (z0h (.dat _) rfl) ?_
     refine z0p rfl rfl h11 (z0h (.dat _) rfl) ?_
     refine z0p rfl rfl h11 (z1c _ rfl rfl (.inr (.inl ⟨rfl,rfl⟩))) ?_
     obtain ⟨x13,h14,H⟩:=bnd H
     refine z0p rfl rfl h11 (y25 x68 (fun _=>rfl) rfl rfl h14) ?_
     refine z0p rfl rfl h11 (z4a y73 rfl) ?_
     refine z0p rfl rfl h11 (z0x tyS9 rfl (z2l (z6x h14).2) rfl) ?_
     refine z0p rfl rfl h11 (x8j rfl rfl) ?_
     refine z0p rfl rfl h11 (z0h (.dat _) rfl) ?_
     refine z09 (j:=12) rfl rfl (fun h15 => ?_) (fun h15 => ?_) rfl
     ·have h16:=un3 h15
      replace H:=iff_ h16 H
      refine z0p rfl rfl h15 (z0r y73 rfl) ?_
      refine z8z rfl rfl h15 (z0o tyS9 rfl rfl) rfl ?_
      refine z0p rfl rfl h15 (z0h (.dat _) rfl) ?_
      refine z0p rfl rfl h15 (z0h (.dat _) rfl) ?_
      refine z0p rfl rfl h15 (z1c _ rfl rfl (.inr (.inl ⟨rfl,rfl⟩))) ?_
      refine z0p rfl rfl h15 (y25 x68 (fun _=>rfl) rfl rfl h14) ?_
      refine z0p rfl rfl h15 (z4a y73 rfl) ?_
      refine z0p rfl rfl h15 (z0x tyS9 rfl (z2l (z6x h14).2) rfl) ?_
      refine z0p rfl rfl h15 (z6c rfl rfl) ?_
      refine z0p rfl rfl h15 (z0h (.dat _) rfl) ?_
      refine z09 (j:=22) rfl rfl (fun h17 => ?_) (fun h17 => ?_) rfl
      ·have h18:=un1 h17
       replace H:=ift h18 H
       refine z0p rfl rfl h17 (z0r y83 rfl) ?_
       refine z8z rfl rfl h17 (z0o tyS9 rfl rfl) rfl ?_
       refine z0p rfl rfl h17 (z0h (.dat _) rfl) ?_
       refine z0p rfl rfl h17 (z0h (.dat _) rfl) ?_
       refine z0p rfl rfl h17 (z1c _ rfl rfl (.inr (.inl ⟨rfl,rfl⟩))) ?_
       refine z0p rfl rfl h17 (y25 x68 (fun _=>rfl) rfl rfl h14) ?_
       refine z0p rfl rfl h17 (z4a y83 rfl) ?_
       refine z0p rfl rfl h17 (z0x tyS9 rfl (z2l (z6x h14).2) rfl) ?_
       refine z0p rfl rfl h17 (y9u rfl rfl) ?_
       refine z0p rfl rfl h15 (z00 rfl (bTT h18) rfl) ?_
       refine z0p rfl rfl h11 (z0z rfl (bFF h16) rfl) ?_
       refine z0a (z00 rfl (bTT h12) rfl) ?_
       refine ⟨rfl,?_⟩
       exact ⟨(Op.bytesLess x3.Sum x13.Sum || x3.Sum == x13.Sum),H,⟨rfl,rfl,trivial⟩,⟨rfl,trivial⟩⟩
      ·have h19:=un2 h17
       replace H:=iff_ h19 H
       refine z0f rfl rfl h17 ?_
       refine z0f rfl rfl h17 ?_
       refine z0f rfl rfl h17 ?_
       refine z0f rfl rfl h17 ?_
       refine z0f rfl rfl h17 ?_
       refine z0f rfl rfl h17 ?_
       refine z0f rfl rfl h17 ?_
       refine z0f rfl rfl h17 ?_
       refine z0f rfl rfl h17 ?_
       refine z0p rfl rfl h15 (z0z rfl (bFF h19) rfl) ?_
       refine z0p rfl rfl h11 (z0z rfl (bFF h16) rfl) ?_
       refine z0a (z00 rfl (bTT h12) rfl) ?_
       refine ⟨rfl,?_⟩
       exact ⟨false,H,⟨rfl,rfl,trivial⟩,⟨rfl,trivial⟩⟩
     ·have h20:=un4 h15
      replace H:=ift h20 H
      refine z0f rfl rfl h15 ?_
      refine z0f rfl rfl h15 ?_
      refine z0f rfl rfl h15 ?_
      refine z0f rfl rfl h15 ?_
      refine z0f rfl rfl h15 ?_
      refine z0f rfl rfl h15 ?_
      refine z0f rfl rfl h15 ?_
      refine z0f rfl rfl h15 ?_
      refine z0f rfl rfl h15 ?_
      refine z0f rfl rfl h15 ?_
      refine z01 rfl rfl ?_
      refine z01 rfl rfl ?_
      refine z01 rfl rfl ?_
      refine z01 rfl rfl ?_
      refine z01 rfl rfl ?_
      refine z01 rfl rfl ?_
      refine z01 rfl rfl ?_
      refine z01 rfl rfl ?_
      refine z01 rfl rfl ?_
      refine z0f rfl rfl h15 ?_
      refine z0p rfl rfl h11 (z00 rfl (bTT h20) rfl) ?_
      refine z0a (z00 rfl (bTT h12) rfl) ?_
      refine ⟨rfl,?_⟩
      exact ⟨true,H,⟨rfl,rfl,trivial⟩,⟨rfl,trivial⟩⟩
    ·have h21:=un2 h11
     replace H:=iff_ h21 H
     refine z0f rfl rfl h11 ?_
     refine z0f rfl rfl h11 ?_
     refine z0f rfl rfl h11 ?_
     refine z0f rfl rfl h11 ?_
     refine z0f rfl rfl h11 ?_
     refine z0f rfl rfl h11 ?_
     refine z0f rfl rfl h11 ?_
     refine z0f rfl rfl h11 ?_
     refine z0f rfl rfl h11 ?_
     refine z0f rfl rfl h11 ?_
     refine z01 rfl rfl ?_
     refine z01 rfl rfl ?_
     refine z01 rfl rfl ?_
     refine z01 rfl rfl ?_
     refine z01 rfl rfl ?_
     refine z01 rfl rfl ?_
     refine z01 rfl rfl ?_
     refine z01 rfl rfl ?_
     refine z01 rfl rfl ?_
     refine z01 rfl rfl ?_
     refine z01 rfl rfl ?_
     refine z01 rfl rfl ?_
     refine z01 rfl rfl ?_
     refine z01 rfl rfl ?_
     refine z01 rfl rfl ?_
     refine z01 rfl rfl ?_
     refine z01 rfl rfl ?_
     refine z01 rfl rfl ?_
     refine z01 rfl rfl ?_
     refine z01 rfl rfl ?_
     refine z0f rfl rfl h11 ?_
     refine z0a (z0z rfl (bFF h21) rfl) ?_
     refine ⟨rfl,?_⟩
     exact ⟨false,H,⟨rfl,rfl,trivial⟩,⟨rfl,trivial⟩⟩
   ·rintro v22 H
    replace H:z4h x3 v22=some r:=H
    unfold z4h at H
    refine z0g _ rfl (fun h23 => ?_) (fun h23 => ?_)
    ·replace H:=ift h23 H
     refine z0c ?_
     refine z0b hN rfl ?_
     refine qe rfl ?_
     refine z0m ?_
     cases H
     exact ⟨trivial,.inl rfl,trivial⟩
    ·replace H:=iff_ h23 H
     refine z0l ?_
     refine z0c ?_
     refine z0c ?_
     refine z0b hN rfl ?_
     refine z0a (z0r w0u rfl) ?_
     refine z0w (z0o z85 rfl rfl) rfl ?_
     obtain ⟨r24,h25,H⟩:=bnd H
     refine z0a (z0q (y6b x3.Scopes r24 h25) ⟨.inl rfl,trivial⟩) ?_
     refine qe rfl ?_
     refine z0c ?_
     refine z0b hN rfl ?_
     refine qd rfl ?_
     refine z0a (z48 rfl rfl) ?_
     refine z0g _ rfl (fun h26 => ?_) (fun h26 => ?_)
     ·replace H:=ift h26 H
      refine z0c ?_
      refine z0b hN rfl ?_
      refine qd rfl ?_
      refine qe rfl ?_
      refine z0m ?_
      cases H
      exact ⟨trivial,.inl rfl,trivial⟩
     ·replace H:=iff_ h26 H
      refine z0l ?_
      refine z0c ?_
      refine z0c ?_
      refine z0b hN rfl ?_
      refine z0a (z0r w0t rfl) ?_
      refine z0w (z0o tyS3 rfl rfl) rfl ?_
      refine z0a (z0r x4m rfl) ?_
      refine z0w (z0o tyS3 rfl rfl) rfl ?_
      obtain ⟨r27,h28,H⟩:=bnd H
      refine z0a (z0q (y50 x3.From 0 x3.To r27 h28) ⟨.inl rfl,.inl rfl,.inl rfl,trivial⟩) ?_
      refine qd rfl ?_
      refine z2b rfl rfl (fun hc=>z0r x4m rfl) ?_
      refine y1s rfl rfl (fun hc=>z0o tyS3 (cnd (c:=(!r27)) hc) rfl) rfl y3x ?_
      refine z2b rfl rfl (fun hc=>z2m (cnd (c:=(!r27)) hc) rfl) ?_
      refine z0a (z2h rfl rfl (fun hb=>(cnd (c:=(!r27)) (notI hb)))) ?_
      refine z0g _ rfl (fun h29 => ?_) (fun h29 => ?_)
      ·replace H:=ift h29 H
       refine z0c ?_
       refine z0b hN rfl ?_
       refine qe rfl ?_
       refine z0m ?_
       cases H
       exact ⟨trivial,.inl rfl,trivial⟩
      ·replace H:=iff_ h29 H
       refine z0l ?_
       refine z0c ?_
       refine z0b hN rfl ?_
       refine qe rfl ?_
       refine z0m ?_
       cases H
       exact ⟨trivial,.inl rfl,trivial⟩
theorem y5w (l1:(List z0y)) (r:(Int)) (H:z8j l1=some r):Fn Tryz.prog 9 [vlst (List.map z1w l1)] (z1r [vint r]):=by
 refine ⟨by kernel_rfl,z1e (us:=[vint r]) Tryz.func9 rfl rfl rfl rfl fun X hN => ?_⟩
 unfold z8j at H
 refine z0c ?_
 refine z0b hN rfl ?_
 refine qe rfl ?_
 refine z0c ?_
 refine z0c ?_
 refine z0b hN rfl ?_
 refine qd rfl ?_
 refine z0a (z6r w31 rfl) ?_
 refine z0a (z2m rfl rfl) ?_
 refine z0g _ rfl (fun h2 => ?_) (fun h2 => ?_)
 ·replace H:=ift h2 H
  refine z0c ?_
  refine z0b hN rfl ?_
  refine qe rfl ?_
  refine z0m ?_
  cases H
  exact ⟨trivial,.inl rfl,trivial⟩
 ·replace H:=iff_ h2 H
  refine z0l ?_
  refine z0c ?_
  refine z0c ?_
  refine z0b hN rfl ?_
  refine qd rfl ?_
  refine z0a (z6r w31 rfl) ?_
  refine qd rfl ?_
  refine z0v ?_
  obtain ⟨h5,H⟩:=gif H
  refine z3u (fun (k3:Nat) (s:Unit)=>[(0,.dat (vlst (List.map z1w l1))),(9,.dat (vint (l1.length:Int))),(10,.dat (vint (k3:Int)))]) (fun (k3:Nat) (s:Unit)=>[]) () H ⟨rfl,rfl,rfl,trivial⟩ trivial (fun _ _=>rfl) ?_ ?_
  ·rintro ⟨⟩ H
   replace H:y3h=some r:=H
   unfold y3h at H
   refine z0c ?_
   refine z0b hN rfl ?_
   refine z0a (z04 rfl rfl) ?_
   refine z0c ?_
   refine z0g _ rfl (fun h=>(lt_t h).elim) (fun h => ?_)
   refine z1u ?_
   refine z0c ?_
   refine z0b hN rfl ?_
   refine qe rfl ?_
   refine z0m ?_
   cases H
   exact ⟨trivial,.inl rfl,trivial⟩
  ·rintro k3 x6 ⟨⟩ q4 h7 h8 H hq4
   replace H:y1i l1 k3 x6=some q4:=H
   unfold y1i at H
   refine z0c ?_
   refine z0b hN rfl ?_
   refine z0a (z04 rfl rfl) ?_
   refine z0c ?_
   refine z0g _ rfl (fun h => ?_) (fun h=>(lt_f h7 h).elim)
   refine z0l ?_
   refine z0c ?_
   refine z0v ?_
   refine z0c ?_
   refine z0b hN rfl ?_
   refine qd rfl ?_
   refine qe rfl ?_
   refine z0c ?_
   refine z0b hN rfl ?_
   refine qd rfl ?_
   refine qd rfl ?_
   obtain ⟨r9,h10,H⟩:=bnd H
   refine z0a (z0q (y9g l1 (k3:Int) r9 h10) ⟨.inl rfl,.inl rfl,trivial⟩) ?_
   refine qe rfl ?_
   refine z0c ?_
   refine z0b hN rfl ?_
   refine qd rfl ?_
   refine z0a (z48 rfl rfl) ?_
   refine z0g _ rfl (fun h11 => ?_) (fun h11 => ?_)
   ·replace H:=ift h11 H
    refine z0c ?_
    refine z0b hN rfl ?_
    refine qd rfl ?_
    refine qe rfl ?_
    refine z0m ?_
    replace H:=retl H hq4
    cases H
    exact ⟨trivial,.inl rfl,trivial⟩
   ·replace H:=iff_ h11 H
    refine z0l ?_
    refine z0b hN rfl ?_
    refine z0a (z3r rfl rfl (by omega)) ?_
    refine qd rfl ?_
    exact ⟨_,z84 H,⟨rfl,rfl,rfl,trivial⟩,trivial⟩
theorem y79 (o1:z0i) (c2:z0i) (r:(Bool)) (H:z9t o1 c2=some r):Fn Tryz.prog 164 [vagg (z06 o1),y1q [[vstr c2.Id,vstr c2.Secret,vint c2.From,vint c2.To,vint c2.Until]] 0 0] (z1r [z05 r]):=by
 refine ⟨by kernel_rfl,z1e (us:=[z05 r]) Tryz.func164 rfl rfl rfl rfl fun X hN => ?_⟩
 unfold z9t at H
 refine z0c ?_
 refine z0b hN rfl ?_
 refine z0j (z9k 1 rfl) rfl ?_
 refine qe rfl ?_
 refine z0c ?_
 refine z0b hN rfl ?_
 refine z0a (z0r y5b rfl) ?_
 refine z0w (z0o tyS9 rfl rfl) rfl ?_
 refine z0a (z4a y5b rfl) ?_
 refine z0a (z0x tyS9 rfl rfl rfl) ?_
 refine z0a (z6c rfl rfl) ?_
 refine qe rfl ?_
 refine z0m ?_
 cases H
 exact ⟨trivial,.inl rfl,trivial⟩
theorem y9e (s1:Bs) (r:(Int)) (H:y03 s1=some r):Fn Tryz.prog 165 [vstr s1] (z1r [vint r]):=by
 refine ⟨by kernel_rfl,z1e (us:=[vint r]) Tryz.func165 rfl rfl rfl rfl fun X hN => ?_⟩
 unfold y03 at H
 refine z0c ?_
 refine z0b hN rfl ?_
 refine qe rfl ?_
 refine z0c ?_
 refine z0c ?_
 refine z0b hN rfl ?_
 refine qd rfl ?_
 refine z0a (z1m tyU9 rfl) ?_
 refine qd rfl ?_
 refine z0v ?_
 obtain ⟨h4,H⟩:=gif H
 refine z3u (fun (k2:Nat) (s:Unit)=>[(0,.dat (vstr s1)),(5,.dat (vint (s1.length:Int))),(6,.dat (vint (k2:Int)))]) (fun (k2:Nat) (s:Unit)=>[]) () H ⟨rfl,rfl,rfl,trivial⟩ trivial (fun _ _=>rfl) ?_ ?_
 ·rintro ⟨⟩ H
  replace H:y10 s1=some r:=H
  unfold y10 at H
  refine z0c ?_
  refine z0b hN rfl ?_
  refine z0a (z04 rfl rfl) ?_
  refine z0c ?_
  refine z0g _ rfl (fun h=>(lt_t h).elim) (fun h => ?_)
  refine z1u ?_
  refine z0c ?_
  refine z0c ?_
  refine z0b hN rfl ?_
  refine qd rfl ?_
  refine z0a (z6c rfl rfl) ?_
  refine z0g _ rfl (fun h6 => ?_) (fun h6 => ?_)
  ·replace H:=ift h6 H
   refine z0c ?_
   refine z0b hN rfl ?_
   refine qe rfl ?_
   refine z0m ?_
   cases H
   exact ⟨trivial,.inl rfl,trivial⟩
  ·replace H:=iff_ h6 H
   refine z0l ?_
   refine z0c ?_
   refine z0c ?_
   refine z0b hN rfl ?_
   refine qd rfl ?_
   refine z0a (z1m tyU9 rfl) ?_
   refine z0a (z2m rfl rfl) ?_
   refine z0g _ rfl (fun h7 => ?_) (fun h7 => ?_)
   ·replace H:=ift h7 H
    refine z0c ?_
    refine z0b hN rfl ?_
    refine qe rfl ?_
    refine z0m ?_
    cases H
    exact ⟨trivial,.inl rfl,trivial⟩
   ·replace H:=iff_ h7 H
    refine z0l ?_
    refine z0c ?_
    refine z0b hN rfl ?_
    refine qe rfl ?_
    refine z0m ?_
    cases H
    exact ⟨trivial,.inl rfl,trivial⟩
 ·rintro k2 x5 ⟨⟩ q3 h8 h9 H hq3
  replace H:y1z k2 x5=some q3:=H
  unfold y1z at H
  refine z0c ?_
  refine z0b hN rfl ?_
  refine z0a (z04 rfl rfl) ?_
  refine z0c ?_
  refine z0g _ rfl (fun h => ?_) (fun h=>(lt_f h8 h).elim)
  refine z0l ?_
  refine z0c ?_
  refine z0v ?_
  refine z0c ?_
  refine z0b hN rfl ?_
  refine qd rfl ?_
  refine qe rfl ?_
  refine z03 (ι:=Bool) (fun i=>[(0,.dat (vstr s1)),(5,.dat (vint (s1.length:Int))),(6,.dat (vint (k2:Int))),(18,.dat (z05 i))]) (fun i=>[]) (fun i=>z8h i=some q3) (fun i=>rfl) ?_ ?_
  ·skip
   refine z0b hN rfl ?_
   refine qd rfl ?_
   refine qd rfl ?_
   refine z0a (y00 tyU9 rfl rfl h9) ?_
   refine z0a (z04 rfl rfl) ?_
   refine qd rfl ?_
   refine z09 (j:=4) rfl rfl (fun h10 => ?_) (fun h10 => ?_) rfl
   ·have h11:=un3 h10
    replace H:=iff_ h11 H
    refine z0p rfl rfl h10 (z0h (.dat _) rfl) ?_
    refine z0p rfl rfl h10 (z0h (.dat _) rfl) ?_
    refine z0p rfl rfl h10 (y00 tyU9 rfl rfl h9) ?_
    refine z0p rfl rfl h10 (z2m rfl rfl) ?_
    refine z0a (z0z rfl (bFF h11) rfl) ?_
    exact ⟨decide (126 < (x5.toNat:Int)),H,⟨rfl,rfl,rfl,rfl,trivial⟩,trivial⟩
   ·have h12:=un4 h10
    replace H:=ift h12 H
    refine z0f rfl rfl h10 ?_
    refine z0f rfl rfl h10 ?_
    refine z0f rfl rfl h10 ?_
    refine z0f rfl rfl h10 ?_
    refine z0a (z00 rfl (bTT h12) rfl) ?_
    exact ⟨true,H,⟨rfl,rfl,rfl,rfl,trivial⟩,trivial⟩
  ·rintro v13 H
   replace H:z8h v13=some q3:=H
   unfold z8h at H
   refine z0g _ rfl (fun h14 => ?_) (fun h14 => ?_)
   ·replace H:=ift h14 H
    refine z0c ?_
    refine z0b hN rfl ?_
    refine qe rfl ?_
    refine z0m ?_
    replace H:=retl H hq3
    cases H
    exact ⟨trivial,.inl rfl,trivial⟩
   ·replace H:=iff_ h14 H
    refine z0l ?_
    refine z0b hN rfl ?_
    refine z0a (z3r rfl rfl (by omega)) ?_
    refine qd rfl ?_
    exact ⟨_,z84 H,⟨rfl,rfl,rfl,trivial⟩,trivial⟩
theorem y9d (l1:(List z0i)) (i2:Int) (r:(Int)) (H:y02 l1 i2=some r):Fn Tryz.prog 110 [vlst (List.map z06 l1),vint i2] (z1r [vint r]):=by
 refine ⟨by kernel_rfl,z1e (us:=[vint r]) Tryz.func110 rfl rfl rfl rfl fun X hN => ?_⟩
 unfold y02 at H
 refine z0c ?_
 refine z0b hN rfl ?_
 refine qe rfl ?_
 refine z0c ?_
 refine z0b hN rfl ?_
 refine qd rfl ?_
 refine qd rfl ?_
 obtain ⟨x3,h4,H⟩:=bnd H
 refine z0a (y25 y86 (fun _=>rfl) rfl rfl h4) ?_
 refine z0a (y15 y58 rfl (z2l (z6x h4).2) rfl) ?_
 refine z0j (z2s 1 x0w rfl) rfl ?_
 refine z0j (z1b y58 rfl rfl rfl rfl) rfl ?_
 refine z0c ?_
 refine z0c ?_
 refine z0b hN rfl ?_
 refine z0a (z0r y5b rfl) ?_
 refine z0w (z0o tyS9 rfl rfl) rfl ?_
 obtain ⟨r5,h6,H⟩:=bnd H
 refine z0a (z0q (z98 x3.Id r5 h6) ⟨.inl rfl,trivial⟩) ?_
 refine z0a (z2j rfl) ?_
 refine z0g _ rfl (fun h7 => ?_) (fun h7 => ?_)
 ·replace H:=ift h7 H
  refine z0c ?_
  refine z0b hN rfl ?_
  refine qe rfl ?_
  refine z0m ?_
  cases H
  exact ⟨trivial,.inl rfl,trivial⟩
 ·replace H:=iff_ h7 H
  refine z0l ?_
  refine z0c ?_
  refine z0c ?_
  refine y3w 1 [vstr x3.Id,vstr x3.Secret,vint x3.From,vint x3.To,vint x3.Until] rfl rfl ?_
  refine z0b hN rfl ?_
  refine qd rfl ?_
  refine qd rfl ?_
  obtain ⟨l8,h9,H⟩:=bnd H
  refine z0a (x1y y86 (fun _=>rfl) rfl rfl rfl h9) ?_
  refine z0a (y5c (us:=[_]) ⟨rfl,trivial⟩) ?_
  obtain ⟨r10,h11,H⟩:=bnd H
  refine z0a (z0q (z7j l8 (fun (a0:z0i)=>z9t a0 x3) 164 [y1q [[vstr x3.Id,vstr x3.Secret,vint x3.From,vint x3.To,vint x3.Until]] 0 0] (fun a0 r h=>y79 a0 x3 r h) r10 h11) ⟨.inl rfl,.inl rfl,trivial⟩) ?_
  refine z0g _ rfl (fun h12 => ?_) (fun h12 => ?_)
  ·replace H:=ift h12 H
   refine z0c ?_
   refine z0b hN rfl ?_
   refine qe rfl ?_
   refine z0m ?_
   cases H
   exact ⟨trivial,.inl rfl,trivial⟩
  ·replace H:=iff_ h12 H
   refine z0l ?_
   refine z0c ?_
   refine z0c ?_
   refine z0b hN rfl ?_
   refine z0a (z4a y8h rfl) ?_
   refine z0a (z0x tyS9 rfl rfl rfl) ?_
   obtain ⟨r13,h14,H⟩:=bnd H
   refine z0a (z0q (y9e x3.Secret r13 h14) ⟨.inl rfl,trivial⟩) ?_
   refine qe rfl ?_
   refine z0c ?_
   refine z0b hN rfl ?_
   refine qd rfl ?_
   refine z0a (z48 rfl rfl) ?_
   refine z0g _ rfl (fun h15 => ?_) (fun h15 => ?_)
   ·replace H:=ift h15 H
    refine z0c ?_
    refine z0b hN rfl ?_
    refine qd rfl ?_
    refine qe rfl ?_
    refine z0m ?_
    cases H
    exact ⟨trivial,.inl rfl,trivial⟩
   ·replace H:=iff_ h15 H
    refine z0l ?_
    refine z0c ?_
    refine z0c ?_
    refine z0b hN rfl ?_
    refine z0a (z4a y5a rfl) ?_
    refine z0a (z0x tyS3 rfl rfl rfl) ?_
    refine z0a (z4a y6k rfl) ?_
    refine z0a (z0x tyS3 rfl rfl rfl) ?_
    obtain ⟨r16,h17,H⟩:=bnd H
    refine z0a (z0q (y50 x3.From 0 x3.To r16 h17) ⟨.inl rfl,.inl rfl,.inl rfl,trivial⟩) ?_
    refine qd rfl ?_
    refine z2b rfl rfl (fun hc=>z4a y6k rfl) ?_
    refine z2b rfl rfl (fun hc=>z0x tyS3 (cnd (c:=(!r16)) hc) rfl rfl) ?_
    refine z2b rfl rfl (fun hc=>z4a y6j rfl) ?_
    refine z2b rfl rfl (fun hc=>z0x tyS3 (cnd (c:=(!r16)) hc) rfl rfl) ?_
    refine z2b rfl rfl (fun hc=>z2m (cnd (c:=(!r16)) hc) (cnd (c:=(!r16)) hc)) ?_
    refine z0a (z2h rfl rfl (fun hb=>(cnd (c:=(!r16)) (notI hb)))) ?_
    refine qd rfl ?_
    refine z2b rfl rfl (fun hc=>z4a y6j rfl) ?_
    refine z2b rfl rfl (fun hc=>z0x tyS3 (cnd (c:=(!(r16 || (decide (x3.Until < x3.To))))) hc) rfl rfl) ?_
    refine z2b rfl rfl (fun hc=>z2m (cnd (c:=(!(r16 || (decide (x3.Until < x3.To))))) hc) rfl) ?_
    refine z0a (z2h rfl rfl (fun hb=>(cnd (c:=(!(r16 || (decide (x3.Until < x3.To))))) (notI hb)))) ?_
    refine z0g _ rfl (fun h18 => ?_) (fun h18 => ?_)
    ·replace H:=ift h18 H
     refine z0c ?_
     refine z0b hN rfl ?_
     refine qe rfl ?_
     refine z0m ?_
     cases H
     exact ⟨trivial,.inl rfl,trivial⟩
    ·replace H:=iff_ h18 H
     refine z0l ?_
     refine z0c ?_
     refine z03 (ι:=Bool) (fun i=>[(55,.dat (z05 i))]) (fun i=>[]) (fun i=>z56 i=some r) (fun i=>rfl) ?_ ?_
     ·skip
      refine z4k mixed hN rfl rfl ?_
      refine qd rfl ?_
      refine z0a (z2m rfl rfl) ?_
      refine qd rfl ?_
      refine z09 (j:=2) rfl rfl (fun h19 => ?_) (fun h19 => ?_) rfl
      ·have h20:=un1 h19
       replace H:=ift h20 H
       refine z0p rfl rfl h19 (z4a y5a rfl) ?_
       refine z0p rfl rfl h19 (z0x tyS3 rfl rfl rfl) ?_
       refine z0p rfl rfl h19 (z0h (.dat _) rfl) ?_
       refine z0p rfl rfl h19 (z0h (.dat _) rfl) ?_
       refine z0p rfl rfl h19 (z1c _ rfl rfl (.inr (.inl ⟨rfl,rfl⟩))) ?_
       obtain ⟨x21,h22,H⟩:=bnd H
       refine z0p rfl rfl h19 (y25 y86 (fun _=>rfl) rfl rfl h22) ?_
       refine z0p rfl rfl h19 (z4a y5a rfl) ?_
       refine z0p rfl rfl h19 (z0x tyS3 rfl (z2l (z6x h22).2) rfl) ?_
       refine z0p rfl rfl h19 (z04 rfl rfl) ?_
       refine z0a (z00 rfl (bTT h20) rfl) ?_
       refine ⟨rfl,?_⟩
       exact ⟨decide (x3.From < x21.From),H,⟨rfl,trivial⟩,trivial⟩
      ·have h23:=un2 h19
       replace H:=iff_ h23 H
       refine z0f rfl rfl h19 ?_
       refine z0f rfl rfl h19 ?_
       refine z0f rfl rfl h19 ?_
       refine z0f rfl rfl h19 ?_
       refine z0f rfl rfl h19 ?_
       refine z0f rfl rfl h19 ?_
       refine z0f rfl rfl h19 ?_
       refine z0f rfl rfl h19 ?_
       refine z0f rfl rfl h19 ?_
       refine z0a (z0z rfl (bFF h23) rfl) ?_
       refine ⟨rfl,?_⟩
       exact ⟨false,H,⟨rfl,trivial⟩,trivial⟩
     ·rintro v24 H
      replace H:z56 v24=some r:=H
      unfold z56 at H
      refine z0g _ rfl (fun h25 => ?_) (fun h25 => ?_)
      ·replace H:=ift h25 H
       refine z0c ?_
       refine z0b hN rfl ?_
       refine qe rfl ?_
       refine z0m ?_
       cases H
       exact ⟨trivial,.inl rfl,trivial⟩
      ·replace H:=iff_ h25 H
       refine z0l ?_
       refine z0c ?_
       refine z0b hN rfl ?_
       refine qe rfl ?_
       refine z0m ?_
       cases H
       exact ⟨trivial,.inl rfl,trivial⟩
theorem y5v (l1:(List z0i)) (r:(Int)) (H:z8i l1=some r):Fn Tryz.prog 49 [vlst (List.map z06 l1)] (z1r [vint r]):=by
 refine ⟨by kernel_rfl,z1e (us:=[vint r]) Tryz.func49 rfl rfl rfl rfl fun X hN => ?_⟩
 unfold z8i at H
 refine z0c ?_
 refine z0b hN rfl ?_
 refine qe rfl ?_
 refine z0c ?_
 refine z0c ?_
 refine z0b hN rfl ?_
 refine qd rfl ?_
 refine z0a (z6r x5w rfl) ?_
 refine z0a (z2m rfl rfl) ?_
 refine z0g _ rfl (fun h2 => ?_) (fun h2 => ?_)
 ·replace H:=ift h2 H
  refine z0c ?_
  refine z0b hN rfl ?_
  refine qe rfl ?_
  refine z0m ?_
  cases H
  exact ⟨trivial,.inl rfl,trivial⟩
 ·replace H:=iff_ h2 H
  refine z0l ?_
  refine z0c ?_
  refine z0c ?_
  refine z0b hN rfl ?_
  refine qd rfl ?_
  refine z0a (z6r x5w rfl) ?_
  refine qd rfl ?_
  refine z0v ?_
  obtain ⟨h5,H⟩:=gif H
  refine z3u (fun (k3:Nat) (s:Unit)=>[(0,.dat (vlst (List.map z06 l1))),(9,.dat (vint (l1.length:Int))),(10,.dat (vint (k3:Int)))]) (fun (k3:Nat) (s:Unit)=>[]) () H ⟨rfl,rfl,rfl,trivial⟩ trivial (fun _ _=>rfl) ?_ ?_
  ·rintro ⟨⟩ H
   replace H:y3g=some r:=H
   unfold y3g at H
   refine z0c ?_
   refine z0b hN rfl ?_
   refine z0a (z04 rfl rfl) ?_
   refine z0c ?_
   refine z0g _ rfl (fun h=>(lt_t h).elim) (fun h => ?_)
   refine z1u ?_
   refine z0c ?_
   refine z0b hN rfl ?_
   refine qe rfl ?_
   refine z0m ?_
   cases H
   exact ⟨trivial,.inl rfl,trivial⟩
  ·rintro k3 x6 ⟨⟩ q4 h7 h8 H hq4
   replace H:y1g l1 k3 x6=some q4:=H
   unfold y1g at H
   refine z0c ?_
   refine z0b hN rfl ?_
   refine z0a (z04 rfl rfl) ?_
   refine z0c ?_
   refine z0g _ rfl (fun h => ?_) (fun h=>(lt_f h7 h).elim)
   refine z0l ?_
   refine z0c ?_
   refine z0v ?_
   refine z0c ?_
   refine z0b hN rfl ?_
   refine qd rfl ?_
   refine qe rfl ?_
   refine z0c ?_
   refine z0b hN rfl ?_
   refine qd rfl ?_
   refine qd rfl ?_
   obtain ⟨r9,h10,H⟩:=bnd H
   refine z0a (z0q (y9d l1 (k3:Int) r9 h10) ⟨.inl rfl,.inl rfl,trivial⟩) ?_
   refine qe rfl ?_
   refine z0c ?_
   refine z0b hN rfl ?_
   refine qd rfl ?_
   refine z0a (z48 rfl rfl) ?_
   refine z0g _ rfl (fun h11 => ?_) (fun h11 => ?_)
   ·replace H:=ift h11 H
    refine z0c ?_
    refine z0b hN rfl ?_
    refine qd rfl ?_
    refine qe rfl ?_
    refine z0m ?_
    replace H:=retl H hq4
    cases H
    exact ⟨trivial,.inl rfl,trivial⟩
   ·replace H:=iff_ h11 H
    refine z0l ?_
    refine z0b hN rfl ?_
    refine z0a (z3r rfl rfl (by omega)) ?_
    refine qd rfl ?_
    exact ⟨_,z84 H,⟨rfl,rfl,rfl,trivial⟩,trivial⟩
theorem y8t (l1:(List z0u)) (r:(Int)) (H:y0c l1=some r):Fn Tryz.prog 24 [vlst (List.map z1l l1)] (z1r [vint r]):=by
 refine ⟨by kernel_rfl,z1e (us:=[vint r]) Tryz.func24 rfl rfl rfl rfl fun X hN => ?_⟩
 unfold y0c at H
 refine z0c ?_
 refine z0b hN rfl ?_
 refine qe rfl ?_
 refine z0c ?_
 refine z0c ?_
 refine z0b hN rfl ?_
 refine qd rfl ?_
 refine z0a (z6r w0r rfl) ?_
 refine z0a (z2m rfl rfl) ?_
 refine z0g _ rfl (fun h2 => ?_) (fun h2 => ?_)
 ·replace H:=ift h2 H
  refine z0c ?_
  refine z0b hN rfl ?_
  refine qe rfl ?_
  refine z0m ?_
  cases H
  exact ⟨trivial,.inl rfl,trivial⟩
 ·replace H:=iff_ h2 H
  refine z0l ?_
  refine z0c ?_
  refine z0c ?_
  refine z0b hN rfl ?_
  refine qd rfl ?_
  refine z0a (z6r w0r rfl) ?_
  refine qd rfl ?_
  refine z0v ?_
  obtain ⟨h5,H⟩:=gif H
  refine z3u (fun (k3:Nat) (s:Unit)=>[(0,.dat (vlst (List.map z1l l1))),(8,.dat (vlst (List.map z1l l1))),(9,.dat (vint (l1.length:Int))),(10,.dat (vint (k3:Int)))]) (fun (k3:Nat) (s:Unit)=>[]) () H ⟨rfl,rfl,rfl,rfl,trivial⟩ trivial (fun _ _=>rfl) ?_ ?_
  ·rintro ⟨⟩ H
   replace H:y1h=some r:=H
   unfold y1h at H
   refine z0c ?_
   refine z0b hN rfl ?_
   refine z0a (z04 rfl rfl) ?_
   refine z0c ?_
   refine z0g _ rfl (fun h=>(lt_t h).elim) (fun h => ?_)
   refine z1u ?_
   refine z0c ?_
   refine z0b hN rfl ?_
   refine qe rfl ?_
   refine z0m ?_
   cases H
   exact ⟨trivial,.inl rfl,trivial⟩
  ·rintro k3 x6 ⟨⟩ q4 h7 h8 H hq4
   replace H:z9s l1 k3 x6=some q4:=H
   unfold z9s at H
   refine z0c ?_
   refine z0b hN rfl ?_
   refine z0a (z04 rfl rfl) ?_
   refine z0c ?_
   refine z0g _ rfl (fun h => ?_) (fun h=>(lt_f h7 h).elim)
   refine z0l ?_
   refine z0c ?_
   refine z0v ?_
   refine z0c ?_
   refine z0b hN rfl ?_
   refine qd rfl ?_
   refine z0a (y0r w4a (fun _=>rfl) rfl rfl h8) ?_
   refine z0a (y15 w0s rfl (z2l h8) rfl) ?_
   refine z0j (z2s 1 w3z rfl) rfl ?_
   refine qe rfl ?_
   refine z0j (z1b w0s rfl rfl rfl rfl) rfl ?_
   refine z0v ?_
   refine z0c ?_
   refine z0b hN rfl ?_
   refine z0a (z0r y6r rfl) ?_
   refine z0w (z0o tyS9 rfl rfl) rfl ?_
   obtain ⟨r9,h10,H⟩:=bnd H
   refine z0a (z0q (z98 x6.Id r9 h10) ⟨.inl rfl,trivial⟩) ?_
   refine z0a (z2j rfl) ?_
   refine qe rfl ?_
   refine z0g _ rfl (fun h11 => ?_) (fun h11 => ?_)
   ·replace H:=ift h11 H
    refine z0c ?_
    refine z0b hN rfl ?_
    refine qe rfl ?_
    refine z0m ?_
    replace H:=retl H hq4
    cases H
    exact ⟨trivial,.inl rfl,trivial⟩
   ·replace H:=iff_ h11 H
    refine z03 (ι:=Bool) (fun i=>[(0,.dat (vlst (List.map z1l l1))),(4,.ptr 1 0),(8,.dat (vlst (List.map z1l l1))),(9,.dat (vint (l1.length:Int))),(10,.dat (vint (k3:Int))),(20,.dat (z05 i))]) (fun i=>[(1,.box none 58 [.dat (vstr x6.Id),.dat (vint x6.At),.dat (vint x6.Until)])]) (fun i=>z7r x6 i=some q4) (fun i=>rfl) ?_ ?_
    ·skip
     refine z4k mixed hN rfl rfl ?_
     refine qd rfl ?_
     refine z0a (z2m rfl rfl) ?_
     refine qd rfl ?_
     refine z09 (j:=2) rfl rfl (fun h12 => ?_) (fun h12 => ?_) rfl
     ·have h13:=un1 h12
      replace H:=ift h13 H
      refine z0p rfl rfl h12 (z0r y6r rfl) ?_
      refine z8z rfl rfl h12 (z0o tyS9 rfl rfl) rfl ?_
      refine z0p rfl rfl h12 (z0h (.dat _) rfl) ?_
      refine z0p rfl rfl h12 (z0h (.dat _) rfl) ?_
      refine z0p rfl rfl h12 (y76 rfl rfl (by omega)) ?_
      obtain ⟨x14,h15,H⟩:=bnd H
      refine z0p rfl rfl h12 (y25 w4a (fun _=>rfl) rfl rfl h15) ?_
      refine z0p rfl rfl h12 (z4a y6r rfl) ?_
      refine z0p rfl rfl h12 (z0x tyS9 rfl (z2l (z6x h15).2) rfl) ?_
      refine z0p rfl rfl h12 (y9u rfl rfl) ?_
      refine z0a (z00 rfl (bTT h13) rfl) ?_
      refine qe rfl ?_
      refine ⟨rfl,?_⟩
      exact ⟨(Op.bytesLess x6.Id x14.Id || x6.Id == x14.Id),H,⟨rfl,rfl,rfl,rfl,rfl,rfl,trivial⟩,⟨rfl,trivial⟩⟩
     ·have h16:=un2 h12
      replace H:=iff_ h16 H
      refine z0f rfl rfl h12 ?_
      refine z0f rfl rfl h12 ?_
      refine z0f rfl rfl h12 ?_
      refine z0f rfl rfl h12 ?_
      refine z0f rfl rfl h12 ?_
      refine z0f rfl rfl h12 ?_
      refine z0f rfl rfl h12 ?_
      refine z0f rfl rfl h12 ?_
      refine z0f rfl rfl h12 ?_
      refine z0a (z0z rfl (bFF h16) rfl) ?_
      refine qe rfl ?_
      refine ⟨rfl,?_⟩
      exact ⟨false,H,⟨rfl,rfl,rfl,rfl,rfl,rfl,trivial⟩,⟨rfl,trivial⟩⟩
    ·rintro v17 H
     replace H:z7r x6 v17=some q4:=H
     unfold z7r at H
     refine z0g _ rfl (fun h18 => ?_) (fun h18 => ?_)
     ·replace H:=ift h18 H
      refine z0c ?_
      refine z0b hN rfl ?_
      refine qe rfl ?_
      refine z0m ?_
      replace H:=retl H hq4
      cases H
      exact ⟨trivial,.inl rfl,trivial⟩
     ·replace H:=iff_ h18 H
      refine z0c ?_
      refine z0b hN rfl ?_
      refine z0a (z0r x4o rfl) ?_
      refine z0w (z0o tyS3 rfl rfl) rfl ?_
      refine z0a (z0r x4n rfl) ?_
      refine z0w (z0o tyS3 rfl rfl) rfl ?_
      obtain ⟨r19,h20,H⟩:=bnd H
      refine z0a (z0q (y50 x6.At 0 x6.Until r19 h20) ⟨.inl rfl,.inl rfl,.inl rfl,trivial⟩) ?_
      refine qd rfl ?_
      refine z2b rfl rfl (fun hc=>z0r x4n rfl) ?_
      refine y1s rfl rfl (fun hc=>z0o tyS3 (cnd (c:=(!r19)) hc) rfl) rfl y3x ?_
      refine z2b rfl rfl (fun hc=>z2m (cnd (c:=(!r19)) hc) rfl) ?_
      refine z0a (z2h rfl rfl (fun hb=>(cnd (c:=(!r19)) (notI hb)))) ?_
      refine qe rfl ?_
      refine z0g _ rfl (fun h21 => ?_) (fun h21 => ?_)
      ·replace H:=ift h21 H
       refine z0c ?_
       refine z0b hN rfl ?_
       refine qe rfl ?_
       refine z0m ?_
       replace H:=retl H hq4
       cases H
       exact ⟨trivial,.inl rfl,trivial⟩
      ·replace H:=iff_ h21 H
       refine z0l ?_
       refine z0b hN rfl ?_
       refine z0a (z3r rfl rfl (by omega)) ?_
       refine qd rfl ?_
       exact ⟨_,z84 H,⟨rfl,rfl,rfl,rfl,trivial⟩,trivial⟩
theorem y6c (k1:z1t) (r:(Int)) (H:z89 k1=some r):Fn Tryz.prog 11 [vagg (y1p k1)] (z1r [vint r]):=by
 refine ⟨by kernel_rfl,z1e (us:=[vint r]) Tryz.func11 rfl rfl rfl rfl fun X hN => ?_⟩
 unfold z89 at H
 refine z0c ?_
 refine z0b hN rfl ?_
 refine z0j (z9k 1 rfl) rfl ?_
 refine qe rfl ?_
 refine z0c ?_
 refine z03 (ι:=Bool) (fun i=>[(1,.ptr 1 0),(15,.dat (z05 i))]) (fun i=>[(1,.box none 30 [.dat (vstr k1.Issuer),.dat (vstr k1.Audience),.dat (vlst (List.map z06 k1.Signers)),.dat (vlst (List.map z1l k1.Revoked)),.dat (vlst (List.map z1w k1.Holders)),.dat (vint k1.Skew)])]) (fun i=>z6y k1 i=some r) (fun i=>rfl) ?_ ?_
 ·skip
  refine z0b hN rfl ?_
  refine z0a (z0r x1w rfl) ?_
  refine z0w (z0o tyS9 rfl rfl) rfl ?_
  obtain ⟨r2,h3,H⟩:=bnd H
  refine z0a (z0q (z98 k1.Issuer r2 h3) ⟨.inl rfl,trivial⟩) ?_
  refine z0a (z2j rfl) ?_
  refine qd rfl ?_
  refine z09 (j:=4) rfl rfl (fun h4 => ?_) (fun h4 => ?_) rfl
  ·have h5:=un3 h4
   replace H:=iff_ h5 H
   refine z0p rfl rfl h4 (z0r x1v rfl) ?_
   refine z8z rfl rfl h4 (z0o tyS9 rfl rfl) rfl ?_
   obtain ⟨r6,h7,H⟩:=bnd H
   refine z0p rfl rfl h4 (z0q (z98 k1.Audience r6 h7) ⟨.inl rfl,trivial⟩) ?_
   refine z0p rfl rfl h4 (z2j rfl) ?_
   refine z0a (z0z rfl (bFF h5) rfl) ?_
   exact ⟨!r6,H,⟨rfl,rfl,trivial⟩,⟨rfl,trivial⟩⟩
  ·have h8:=un4 h4
   replace H:=ift h8 H
   refine z0f rfl rfl h4 ?_
   refine z0f rfl rfl h4 ?_
   refine z0f rfl rfl h4 ?_
   refine z0f rfl rfl h4 ?_
   refine z0a (z00 rfl (bTT h8) rfl) ?_
   exact ⟨true,H,⟨rfl,rfl,trivial⟩,⟨rfl,trivial⟩⟩
 ·rintro v9 H
  replace H:z6y k1 v9=some r:=H
  unfold z6y at H
  refine z0g _ rfl (fun h10 => ?_) (fun h10 => ?_)
  ·replace H:=ift h10 H
   refine z0c ?_
   refine z0b hN rfl ?_
   refine qe rfl ?_
   refine z0m ?_
   cases H
   exact ⟨trivial,.inl rfl,trivial⟩
  ·replace H:=iff_ h10 H
   refine z0l ?_
   refine z0c ?_
   refine z0c ?_
   refine z0b hN rfl ?_
   refine z0a (z0r x1u rfl) ?_
   refine z0w (z0o x67 rfl rfl) rfl ?_
   obtain ⟨r11,h12,H⟩:=bnd H
   refine z0a (z0q (y5v k1.Signers r11 h12) ⟨.inl rfl,trivial⟩) ?_
   refine qe rfl ?_
   refine z0c ?_
   refine z0b hN rfl ?_
   refine qd rfl ?_
   refine z0a (z48 rfl rfl) ?_
   refine z0g _ rfl (fun h13 => ?_) (fun h13 => ?_)
   ·replace H:=ift h13 H
    refine z0c ?_
    refine z0b hN rfl ?_
    refine qd rfl ?_
    refine qe rfl ?_
    refine z0m ?_
    cases H
    exact ⟨trivial,.inl rfl,trivial⟩
   ·replace H:=iff_ h13 H
    refine z0l ?_
    refine z0c ?_
    refine z0c ?_
    refine z0b hN rfl ?_
    refine z0a (z0r x4q rfl) ?_
    refine z0w (z0o w36 rfl rfl) rfl ?_
    obtain ⟨r14,h15,H⟩:=bnd H
    refine z0a (z0q (y8t k1.Revoked r14 h15) ⟨.inl rfl,trivial⟩) ?_
    refine qe rfl ?_
    refine z0c ?_
    refine z0b hN rfl ?_
    refine qd rfl ?_
    refine z0a (z48 rfl rfl) ?_
    refine z0g _ rfl (fun h16 => ?_) (fun h16 => ?_)
    ·replace H:=ift h16 H
     refine z0c ?_
     refine z0b hN rfl ?_
     refine qd rfl ?_
     refine qe rfl ?_
     refine z0m ?_
     cases H
     exact ⟨trivial,.inl rfl,trivial⟩
    ·replace H:=iff_ h16 H
     refine z0l ?_
     refine z0c ?_
     refine z0c ?_
     refine z0b hN rfl ?_
     refine z0a (z0r x4p rfl) ?_
     refine z0w (z0o w35 rfl rfl) rfl ?_
     obtain ⟨r17,h18,H⟩:=bnd H
     refine z0a (z0q (y5w k1.Holders r17 h18) ⟨.inl rfl,trivial⟩) ?_
     refine qe rfl ?_
     refine z0c ?_
     refine z0b hN rfl ?_
     refine qd rfl ?_
     refine z0a (z48 rfl rfl) ?_
     refine z0g _ rfl (fun h19 => ?_) (fun h19 => ?_)
     ·replace H:=ift h19 H
      refine z0c ?_
      refine z0b hN rfl ?_
      refine qd rfl ?_
      refine qe rfl ?_
      refine z0m ?_
      cases H
      exact ⟨trivial,.inl rfl,trivial⟩
     ·replace H:=iff_ h19 H
      refine z0l ?_
      refine z0c ?_
      refine z0c ?_
      refine z0b hN rfl ?_
      refine z0a (z0r y85 rfl) ?_
      refine z0w (z0o tyS3 rfl rfl) rfl ?_
      obtain ⟨r20,h21,H⟩:=bnd H
      refine z0a (z0q (y50 k1.Skew 0 600000 r20 h21) ⟨.inl rfl,.inl rfl,.inl rfl,trivial⟩) ?_
      refine z0g _ rfl (fun h22 => ?_) (fun h22 => ?_)
      ·replace H:=ift h22 H
       refine z0c ?_
       refine z0b hN rfl ?_
       refine qe rfl ?_
       refine z0m ?_
       cases H
       exact ⟨trivial,.inl rfl,trivial⟩
      ·replace H:=iff_ h22 H
       refine z0l ?_
       refine z0c ?_
       refine z0b hN rfl ?_
       refine qe rfl ?_
       refine z0m ?_
       cases H
       exact ⟨trivial,.inl rfl,trivial⟩
theorem y1c (l r:List Bs) (H:z5a l=some r):FnG Tryz.prog 124 [.row 0 l.length] [(0,.row 9 1 (List.map z0n l))] (.row 900 r.length) [(900,.row 9 1 (List.map z0n r))]:=by
 obtain ⟨h1,rfl⟩:=x5l H
 exact w2m (fun s:Bs=>Value.string ⟨s.toArray⟩) [] (Lib.compact l) l (x3d l) (by kernel_rfl) (fun _=>rfl) (fun blk cap w hH hc=>Tryz.slices_Compact_string blk 0 cap l w hH (by omega) hc) (fun h a cap w=>Tryz.slices_Compact_string_empty a cap w)
theorem y1a (s1:(List Bs)) (p1:Bs→Option (Bool)) (fv1:Nat) (us1:List V) (hp1:∀ a0 r,p1 a0=some r→Fn Tryz.prog fv1 ([vstr a0]++us1) (z1r [z05 r])) (r:(Int)) (H:z49 s1 p1=some r):Fn Tryz.prog 178 [vlst (List.map z0n s1),vfn fv1 us1] (z1r [vint r]):=by
 refine ⟨by kernel_rfl,z1e (us:=[vint r]) Tryz.func178 rfl rfl rfl rfl fun X hN => ?_⟩
 unfold z49 at H
 refine z0c ?_
 refine z0b hN rfl ?_
 refine qe rfl ?_
 refine z0c ?_
 refine z0c ?_
 refine z0b hN rfl ?_
 refine qd rfl ?_
 refine z0a (z6r z9p rfl) ?_
 refine qd rfl ?_
 refine z0v ?_
 obtain ⟨h4,H⟩:=gif H
 refine z3u (fun (k2:Nat) (s:Unit)=>[(0,.dat (vlst (List.map z0n s1))),(1,.dat (vfn fv1 us1)),(7,.dat (vint (s1.length:Int))),(8,.dat (vint (k2:Int)))]) (fun (k2:Nat) (s:Unit)=>[]) () H ⟨rfl,rfl,rfl,rfl,trivial⟩ trivial (fun _ _=>rfl) ?_ ?_
 ·rintro ⟨⟩ H
  replace H:z7a=some r:=H
  unfold z7a at H
  refine z0c ?_
  refine z0b hN rfl ?_
  refine z0a (z04 rfl rfl) ?_
  refine z0c ?_
  refine z0g _ rfl (fun h=>(lt_t h).elim) (fun h => ?_)
  refine z1u ?_
  refine z0c ?_
  refine z0b hN rfl ?_
  refine qe rfl ?_
  refine z0m ?_
  cases H
  exact ⟨trivial,.inl rfl,trivial⟩
 ·rintro k2 x5 ⟨⟩ q3 h6 h7 H hq3
  replace H:z69 p1 k2 x5=some q3:=H
  unfold z69 at H
  refine z0c ?_
  refine z0b hN rfl ?_
  refine z0a (z04 rfl rfl) ?_
  refine z0c ?_
  refine z0g _ rfl (fun h => ?_) (fun h=>(lt_f h6 h).elim)
  refine z0l ?_
  refine z0c ?_
  refine z0v ?_
  refine z0c ?_
  refine z0b hN rfl ?_
  refine qd rfl ?_
  refine qe rfl ?_
  refine z0c ?_
  refine z0b hN rfl ?_
  refine qd rfl ?_
  refine qd rfl ?_
  refine qd rfl ?_
  refine z0a (y0r z9i (fun _=>rfl) rfl rfl h7) ?_
  refine z0a (z0x tyS9 rfl (z2l h7) rfl) ?_
  obtain ⟨r8,h9,H⟩:=bnd H
  refine z0a (y9v (hp1 x5 r8 h9) rfl ⟨.inl rfl,trivial⟩) ?_
  refine z0g _ rfl (fun h10 => ?_) (fun h10 => ?_)
  ·replace H:=ift h10 H
   refine z0c ?_
   refine z0b hN rfl ?_
   refine qd rfl ?_
   refine qe rfl ?_
   refine z0m ?_
   replace H:=retl H hq3
   cases H
   exact ⟨trivial,.inl rfl,trivial⟩
  ·replace H:=iff_ h10 H
   refine z0l ?_
   refine z0b hN rfl ?_
   refine z0a (z3r rfl rfl (by omega)) ?_
   refine qd rfl ?_
   exact ⟨_,z84 H,⟨rfl,rfl,rfl,rfl,trivial⟩,trivial⟩
theorem z6v (s1:(List Bs)) (p1:Bs→Option (Bool)) (fv1:Nat) (us1:List V) (hp1:∀ a0 r,p1 a0=some r→Fn Tryz.prog fv1 ([vstr a0]++us1) (z1r [z05 r])) (r:(Bool)) (H:z11 s1 p1=some r):Fn Tryz.prog 121 [vlst (List.map z0n s1),vfn fv1 us1] (z1r [z05 r]):=by
 refine ⟨by kernel_rfl,z1e (us:=[z05 r]) Tryz.func121 rfl rfl rfl rfl fun X hN => ?_⟩
 unfold z11 at H
 refine z0c ?_
 refine z0b hN rfl ?_
 refine qe rfl ?_
 refine z0c ?_
 refine z0b hN rfl ?_
 refine qd rfl ?_
 refine qd rfl ?_
 obtain ⟨r2,h3,H⟩:=bnd H
 refine z0a (z0q (y1a s1 p1 fv1 us1 hp1 r2 h3) ⟨.inl rfl,.inl rfl,trivial⟩) ?_
 refine z0a (z87 rfl rfl) ?_
 refine qe rfl ?_
 refine z0m ?_
 cases H
 exact ⟨trivial,.inl rfl,trivial⟩
theorem y6e (s p:Bs) (r:Bs×Bool) (H:z7l s p=some r):Fn Tryz.prog 179 [vstr s,vstr p] (z1r [vstr r.1,z05 r.2]):=by
 obtain ⟨h1,rfl⟩:=x3p H
 refine y7v (by kernel_rfl) fun M w vs h => ?_
 have hv:=y49 (us:=[.string ⟨s.toArray⟩,.string ⟨p.toArray⟩]) h
 subst hv
 refine (Tryz.strings_CutSuffix ⟨s.toArray⟩ ⟨p.toArray⟩ w (by simp [ByteArray.size]; omega)).mono ?_
 rintro e w' ⟨rfl,rfl⟩
 refine ⟨_,rfl,⟨[_,_],rfl,rfl,fun j u hj => ?_⟩,Kp.refl _ _⟩
 rcases j with _ | _ | j
 ·cases hj; exact ⟨_,rfl,rfl⟩
 ·cases hj; exact ⟨_,rfl,rfl⟩
 ·simp at hj
theorem y6d (s p:Bs) (r:Bool) (H:y06 s p=some r):Fn Tryz.prog 180 [vstr s,vstr p] (z1r [z05 r]):=by
 cases H
 refine y7v (by kernel_rfl) fun M w vs h => ?_
 have h1:=y49 (us:=[.string ⟨s.toArray⟩,.string ⟨p.toArray⟩]) h
 subst h1
 refine (Tryz.strings_HasPrefix ⟨s.toArray⟩ ⟨p.toArray⟩ w).mono ?_
 rintro e w' ⟨rfl,rfl⟩
 exact ⟨_,rfl,rfl,Kp.refl _ _⟩
theorem x2t (a1:Bs) (b2:Bs) (r:(Bool)) (H:y3k a1 b2=some r):Fn Tryz.prog 123 [vstr a1,vstr b2] (z1r [z05 r]):=by
 refine ⟨by kernel_rfl,z1e (us:=[z05 r]) Tryz.func123 rfl rfl rfl rfl fun X hN => ?_⟩
 unfold y3k at H
 refine z0c ?_
 refine z0b hN rfl ?_
 refine qe rfl ?_
 refine z0c ?_
 refine z0c ?_
 refine z0b hN rfl ?_
 refine qd rfl ?_
 obtain ⟨r3,h4,H⟩:=bnd H
 refine z0a (z0q (y6e a1 [42] r3 h4) ⟨.inl rfl,.inl rfl,trivial⟩) ?_
 refine qd rfl ?_
 refine z0a (z10 rfl rfl) ?_
 refine z0a (z10 rfl rfl) ?_
 refine qe rfl ?_
 refine qe rfl ?_
 refine z0c ?_
 refine z0b hN rfl ?_
 refine qd rfl ?_
 refine z0g _ rfl (fun h5 => ?_) (fun h5 => ?_)
 ·replace H:=ift h5 H
  refine z0c ?_
  refine z0b hN rfl ?_
  refine qd rfl ?_
  refine qd rfl ?_
  obtain ⟨r6,h7,H⟩:=bnd H
  refine z0a (z0q (y6d b2 r3.1 r6 h7) ⟨.inl rfl,.inl rfl,trivial⟩) ?_
  refine qe rfl ?_
  refine z0m ?_
  cases H
  exact ⟨trivial,.inl rfl,trivial⟩
 ·replace H:=iff_ h5 H
  refine z0l ?_
  refine z0c ?_
  refine z0b hN rfl ?_
  refine qd rfl ?_
  refine qd rfl ?_
  refine z0a (z6c rfl rfl) ?_
  refine qe rfl ?_
  refine z0m ?_
  cases H
  exact ⟨trivial,.inl rfl,trivial⟩
theorem y8u (o1:Bs) (c2:Bs) (r:(Bool)) (H:y0d o1 c2=some r):Fn Tryz.prog 122 [vstr o1,y1q [[vstr c2]] 0 0] (z1r [z05 r]):=by
 refine ⟨by kernel_rfl,z1e (us:=[z05 r]) Tryz.func122 rfl rfl rfl rfl fun X hN => ?_⟩
 unfold y0d at H
 refine z0c ?_
 refine z0b hN rfl ?_
 refine qe rfl ?_
 refine z03 (ι:=Bool) (fun i=>[(3,.dat (z05 i))]) (fun i=>[]) (fun i=>z73 i=some r) (fun i=>rfl) ?_ ?_
 ·skip
  refine z0b hN rfl ?_
  refine qd rfl ?_
  refine z0a (z0x tyS9 rfl rfl rfl) ?_
  refine z0a (z9j rfl rfl) ?_
  refine qd rfl ?_
  refine z09 (j:=3) rfl rfl (fun h3 => ?_) (fun h3 => ?_) rfl
  ·have h4:=un1 h3
   replace H:=ift h4 H
   refine z0p rfl rfl h3 (z0h (.dat _) rfl) ?_
   refine z0p rfl rfl h3 (z0x tyS9 rfl rfl rfl) ?_
   obtain ⟨r5,h6,H⟩:=bnd H
   refine z0p rfl rfl h3 (z0q (x2t o1 c2 r5 h6) ⟨.inl rfl,.inl rfl,trivial⟩) ?_
   refine z0a (z00 rfl (bTT h4) rfl) ?_
   refine qe rfl ?_
   exact ⟨r5,H,⟨rfl,trivial⟩,trivial⟩
  ·have h7:=un2 h3
   replace H:=iff_ h7 H
   refine z0f rfl rfl h3 ?_
   refine z0f rfl rfl h3 ?_
   refine z0f rfl rfl h3 ?_
   refine z0a (z0z rfl (bFF h7) rfl) ?_
   refine qe rfl ?_
   exact ⟨false,H,⟨rfl,trivial⟩,trivial⟩
 ·rintro v8 H
  replace H:z73 v8=some r:=H
  unfold z73 at H
  refine z0m ?_
  cases H
  exact ⟨trivial,.inl rfl,trivial⟩
theorem y6q (l1:(List Bs)) (r:((List Bs))) (H:z91 l1=some r):Fn Tryz.prog 58 [vlst (List.map z0n l1)] (z1r [vlst (List.map z0n r)]):=by
 refine ⟨by kernel_rfl,z1e (us:=[vlst (List.map z0n r)]) Tryz.func58 rfl rfl rfl rfl fun X hN => ?_⟩
 unfold z91 at H
 refine z0c ?_
 refine z0b hN rfl ?_
 refine qe rfl ?_
 refine z0c ?_
 refine z0b hN rfl ?_
 refine qe rfl ?_
 refine z0c ?_
 refine z0c ?_
 refine z0b hN rfl ?_
 refine qd rfl ?_
 refine z0a (z6r z9p rfl) ?_
 refine qd rfl ?_
 refine z0v ?_
 refine y2i 3 1 9 1 rfl rfl rfl ?_
 obtain ⟨h5,H⟩:=gif H
 refine z3u (fun (k3:Nat) (s:(List Bs))=>[(0,.dat (vlst (List.map z0n l1))),(3,.row 1 s.length),(6,.dat (vlst (List.map z0n l1))),(7,.dat (vint (l1.length:Int))),(8,.dat (vint (k3:Int)))]) (fun (k3:Nat) (s:(List Bs))=>[(1,.row 9 1 (List.map z0n s))]) [] H ⟨rfl,rfl,rfl,rfl,rfl,trivial⟩ ⟨rfl,trivial⟩ (fun _ _=>rfl) ?_ ?_
 ·rintro l2 H
  replace H:y2u l2=some r:=H
  unfold y2u at H
  refine z0c ?_
  refine z0b hN rfl ?_
  refine z0a (z04 rfl rfl) ?_
  refine z0c ?_
  refine z0g _ rfl (fun h=>(lt_t h).elim) (fun h => ?_)
  refine z1u ?_
  refine z0c ?_
  refine z0b hN rfl ?_
  refine z0a (z0h (.row _ _) rfl) ?_
  obtain ⟨r7,h8,H⟩:=bnd H
  refine y31 (rn [(0,1)]) [(0,_,_,some _)] [] (z9d l2 r7 h8) ⟨rfl,trivial⟩ ⟨.inl (.inl rfl),trivial⟩ ⟨⟨⟨rfl,rfl,rfl⟩,by simp [x7m,y4j h8]⟩,trivial⟩ rfl ?_
  refine z0c ?_
  refine z0b hN rfl ?_
  refine z0a (z0h (.row _ _) rfl) ?_
  obtain ⟨r9,h10,H⟩:=bnd H
  refine y31 (rn [(0,1),(900,2)]) [(0,_,_,none)] [(900,_)] (y1c r7 r9 h10) ⟨rfl,rfl,trivial⟩ ⟨.inl (.inl (congrArg (Slot.row 1) (y4j h8).symm)),trivial⟩ ⟨⟨⟨rfl,rfl,rfl⟩,trivial⟩,trivial⟩ rfl ?_
  refine z0a (z13 (.row _ _) rfl) ?_
  refine z0m ?_
  cases H
  exact ⟨trivial,y87 rfl rfl,trivial⟩
 ·rintro k3 x6 l2 q4 h11 h12 H hq4
  replace H:y2t l1 k3 x6 l2=some q4:=H
  unfold y2t at H
  refine z0c ?_
  refine z0b hN rfl ?_
  refine z0a (z04 rfl rfl) ?_
  refine z0c ?_
  refine z0g _ rfl (fun h => ?_) (fun h=>(lt_f h11 h).elim)
  refine z0l ?_
  refine z03 (ι:=(List Bs)) (fun i=>[(0,.dat (vlst (List.map z0n l1))),(3,.row 1 i.length),(6,.dat (vlst (List.map z0n l1))),(7,.dat (vint (l1.length:Int))),(8,.dat (vint (k3:Int)))]) (fun i=>[(1,.row 9 1 (List.map z0n i))]) (fun i=>z9f i=some q4) (fun i=>rfl) ?_ ?_
  ·skip
   refine z0v ?_
   refine z0c ?_
   refine z0b hN rfl ?_
   refine z0a (y0r z9i (fun _=>rfl) rfl rfl h12) ?_
   refine z0a (z0x tyS9 rfl (z2l h12) rfl) ?_
   refine z0j (z2s 3 tyZ9 rfl) rfl ?_
   refine z0j (z15 tyS9 rfl rfl rfl rfl) rfl ?_
   refine z0c ?_
   refine y3w 3 [vstr x6] rfl rfl ?_
   refine z0b hN rfl ?_
   refine qd rfl ?_
   refine z0a (y5c (us:=[_]) ⟨rfl,trivial⟩) ?_
   obtain ⟨r13,h14,H⟩:=bnd H
   refine z0a (z0q (z6v l1 (fun (a0:Bs)=>y0d a0 x6) 122 [y1q [[vstr x6]] 0 0] (fun a0 r h=>y8u a0 x6 r h) r13 h14) ⟨.inl rfl,.inl rfl,trivial⟩) ?_
   refine z0a (z2j rfl) ?_
   refine z0g _ rfl (fun h15 => ?_) (fun h15 => ?_)
   ·replace H:=ift h15 H
    refine z0b hN rfl ?_
    refine z0a (z0h (.row _ _) rfl) ?_
    refine z0a (z0x tyS9 rfl rfl rfl) ?_
    refine z0a (z1a (u':=vlst (List.map z0n [x6])) (z14 [[_]] z86 ⟨rfl,.inl ⟨_,rfl,rfl,rfl⟩,rfl,trivial⟩ rfl rfl) rfl) ?_
    obtain ⟨h16,H⟩:=gif H
    refine z0j (y75 z86 (fun _=>rfl) rfl rfl rfl ⟨by simp,by first | (simp; done) | simpa using h16⟩ rfl) rfl ?_
    refine z0a (z13 (.row _ _) rfl) ?_
    exact ⟨(l2++[x6]),H,⟨rfl,rfl,rfl,rfl,rfl,trivial⟩,⟨rfl,trivial⟩⟩
   ·replace H:=iff_ h15 H
    refine z0l ?_
    exact ⟨l2,H,⟨rfl,rfl,rfl,rfl,rfl,trivial⟩,⟨rfl,trivial⟩⟩
  ·rintro out17 H
   replace H:z9f out17=some q4:=H
   unfold z9f at H
   refine z0b hN rfl ?_
   refine z0a (z3r rfl rfl (by omega)) ?_
   refine qd rfl ?_
   exact ⟨_,z84 H,⟨rfl,rfl,rfl,rfl,rfl,trivial⟩,⟨rfl,trivial⟩⟩
theorem y20 (s1:z0d) (r:(z0e×z0d)) (H:z32 s1=some r):Imp Tryz.prog 13 25 (z0t s1) [] (z1r [vagg (z0s r.1)]) (z0t r.2):=by
 refine y3m (us:=[vagg (z0s r.1)]) (cs':=(z0t r.2)) (by kernel_rfl) Tryz.func13 rfl rfl rfl rfl fun X bl hN => ?_
 unfold z32 at H
 refine z0c ?_
 refine z0b hN rfl ?_
 refine z0j (z2s 1 y0q rfl) rfl ?_
 refine z0c ?_
 refine z4k mixed hN rfl rfl ?_
 refine z0a (z0h (.ptr _ _) rfl) ?_
 refine z0a (z1a (u':=vlst (List.map z0n [[116,49],[116,49],[116,50],[116,51]])) (z14 [[_],[_],[_],[_]] z86 ⟨rfl,.inl ⟨_,rfl,rfl,rfl⟩,rfl,rfl,.inl ⟨_,rfl,rfl,rfl⟩,rfl,rfl,.inl ⟨_,rfl,rfl,rfl⟩,rfl,rfl,.inl ⟨_,rfl,rfl,rfl⟩,rfl,trivial⟩ rfl rfl) rfl) ?_
 obtain ⟨r2,h3,H⟩:=bnd H
 refine z0j (z1f (z1d s1 ([[116,49],[116,49],[116,50],[116,51]]) r2 h3) rfl ⟨.inl rfl,trivial⟩ rfl) rfl ?_
 refine z0a (z0h (.ptr _ _) rfl) ?_
 refine z0a (z1a (u':=vlst (List.map z0n [[97,110,110],[98,111,98]])) (z14 [[_],[_]] z86 ⟨rfl,.inl ⟨_,rfl,rfl,rfl⟩,rfl,rfl,.inl ⟨_,rfl,rfl,rfl⟩,rfl,trivial⟩ rfl rfl) rfl) ?_
 obtain ⟨r4,h5,H⟩:=bnd H
 refine z0j (z1f (z1d r2.2 ([[97,110,110],[98,111,98]]) r4 h5) rfl ⟨.inl rfl,trivial⟩ rfl) rfl ?_
 refine z0a (z0h (.ptr _ _) rfl) ?_
 refine z0a (z1a (u':=vlst (List.map z0n [[103,97,116,101],[103,97,116,101],[103,97,116,101],[111,116,104,101,114]])) (z14 [[_],[_],[_],[_]] z86 ⟨rfl,.inl ⟨_,rfl,rfl,rfl⟩,rfl,rfl,.inl ⟨_,rfl,rfl,rfl⟩,rfl,rfl,.inl ⟨_,rfl,rfl,rfl⟩,rfl,rfl,.inl ⟨_,rfl,rfl,rfl⟩,rfl,trivial⟩ rfl rfl) rfl) ?_
 obtain ⟨r6,h7,H⟩:=bnd H
 refine z0j (z1f (z1d r4.2 ([[103,97,116,101],[103,97,116,101],[103,97,116,101],[111,116,104,101,114]]) r6 h7) rfl ⟨.inl rfl,trivial⟩ rfl) rfl ?_
 refine z0a (z0h (.ptr _ _) rfl) ?_
 refine z0a (z1a (u':=vlst (List.map z0n [[],[],[],[116,48],[116,50]])) (z14 [[_],[_],[_],[_],[_]] z86 ⟨rfl,.inl ⟨_,rfl,rfl,rfl⟩,rfl,rfl,.inl ⟨_,rfl,rfl,rfl⟩,rfl,rfl,.inl ⟨_,rfl,rfl,rfl⟩,rfl,rfl,.inl ⟨_,rfl,rfl,rfl⟩,rfl,rfl,.inl ⟨_,rfl,rfl,rfl⟩,rfl,trivial⟩ rfl rfl) rfl) ?_
 obtain ⟨r8,h9,H⟩:=bnd H
 refine z0j (z1f (z1d r6.2 ([[],[],[],[116,48],[116,50]]) r8 h9) rfl ⟨.inl rfl,trivial⟩ rfl) rfl ?_
 refine z0a (z1a (u':=vlst (List.map z0n [[115,104,111,112]])) (z14 [[_]] z86 ⟨rfl,.inl ⟨_,rfl,rfl,rfl⟩,rfl,trivial⟩ rfl rfl) rfl) ?_
 refine z0a (z1a (u':=vlst (List.map z0n [[109,97,112,115],[115,104,111,112]])) (z14 [[_],[_]] z86 ⟨rfl,.inl ⟨_,rfl,rfl,rfl⟩,rfl,rfl,.inl ⟨_,rfl,rfl,rfl⟩,rfl,trivial⟩ rfl rfl) rfl) ?_
 refine z0a (z1a (u':=vlst (List.map z0n [[109,97,112,115]])) (z14 [[_]] z86 ⟨rfl,.inl ⟨_,rfl,rfl,rfl⟩,rfl,trivial⟩ rfl rfl) rfl) ?_
 refine z0a (y0b (u':=vlst (List.map w0o ([[],[],[[115,104,111,112]],[[109,97,112,115],[115,104,111,112]],[[109,97,112,115]]]:(List (List Bs))))) (w8g (by exact ⟨⟨z2r,trivial⟩,⟨z2r,trivial⟩,⟨z02,trivial⟩,⟨z02,trivial⟩,⟨z02,trivial⟩,trivial⟩)) (z14 [[vnil],[vnil],[_],[_],[_]] v0c ⟨rfl,.inl ⟨_,rfl,rfl,rfl⟩,rfl,rfl,.inl ⟨_,rfl,rfl,rfl⟩,rfl,rfl,.inl ⟨_,rfl,rfl,rfl⟩,rfl,rfl,.inl ⟨_,rfl,rfl,rfl⟩,rfl,rfl,.inl ⟨_,rfl,rfl,rfl⟩,rfl,trivial⟩ rfl rfl)) ?_
 refine z0a (z0h (.ptr _ _) rfl) ?_
 obtain ⟨r10,h11,H⟩:=bnd H
 refine z0j (z1f (z2x r8.2 5 r10 h11) rfl ⟨.inl rfl,trivial⟩ rfl) rfl ?_
 obtain ⟨x12,h13,H⟩:=bnd H
 refine z0a (y25 v0e (fun _=>rfl) rfl rfl h13) ?_
 refine z0a (z0x z85 rfl (z2l (z6x h13).2) rfl) ?_
 refine z0a (z0h (.ptr _ _) rfl) ?_
 obtain ⟨r14,h15,H⟩:=bnd H
 refine z0j (z1f (y2z r10.2 r14 h15) rfl trivial rfl) rfl ?_
 obtain ⟨r16,h17,H⟩:=bnd H
 refine z0a (z0q (y6q r14.1 r16 h17) ⟨.inl rfl,trivial⟩) ?_
 refine z0a (z0h (.ptr _ _) rfl) ?_
 refine z0a (z1a (u':=vlst (List.map y2j [0,50,100])) (z14 [[_],[_],[_]] y9p ⟨rfl,.inl ⟨_,rfl,rfl,rfl⟩,rfl,rfl,.inl ⟨_,rfl,rfl,rfl⟩,rfl,rfl,.inl ⟨_,rfl,rfl,rfl⟩,rfl,trivial⟩ rfl rfl) rfl) ?_
 obtain ⟨r18,h19,H⟩:=bnd H
 refine z0j (z1f (z1y r14.2 [0,50,100] r18 h19) rfl ⟨.inl rfl,trivial⟩ rfl) rfl ?_
 refine z0a (z1a (u':=vagg (z0s (z0e.mk r2.1 r4.1 r6.1 r8.1 x12 r16 r18.1 0))) (z2f [(0,[vstr r2.1]),(1,[vstr r4.1]),(2,[vstr r6.1]),(3,[vstr r8.1]),(4,[vlst (List.map z0n x12)]),(5,[vlst (List.map z0n r16)]),(6,[vint r18.1])] y0q y4b rfl ⟨rfl,.inl ⟨_,rfl,rfl,rfl⟩,rfl,rfl,.inl ⟨_,rfl,rfl,rfl⟩,rfl,rfl,.inl ⟨_,rfl,rfl,rfl⟩,rfl,rfl,.inl ⟨_,rfl,rfl,rfl⟩,rfl,rfl,.inl ⟨_,rfl,rfl,rfl⟩,rfl,rfl,.inl ⟨_,rfl,rfl,rfl⟩,rfl,rfl,.inl ⟨_,rfl,rfl,rfl⟩,rfl,trivial⟩) rfl) ?_
 refine z0j (z2s 2 y0q rfl) rfl ?_
 refine z0j (z1b z28 rfl rfl rfl rfl) rfl ?_
 refine ⟨rfl,?_⟩
 refine z0c ?_
 refine z4k mixed hN rfl rfl ?_
 refine z0a (z0r y5n rfl) ?_
 refine z0w (z0o tyS3 rfl rfl) rfl ?_
 refine z0a (z0h (.ptr _ _) rfl) ?_
 refine z0a (z1a (u':=vlst (List.map y2j [1,50,100,200])) (z14 [[_],[_],[_],[_]] y9p ⟨rfl,.inl ⟨_,rfl,rfl,rfl⟩,rfl,rfl,.inl ⟨_,rfl,rfl,rfl⟩,rfl,rfl,.inl ⟨_,rfl,rfl,rfl⟩,rfl,rfl,.inl ⟨_,rfl,rfl,rfl⟩,rfl,trivial⟩ rfl rfl) rfl) ?_
 obtain ⟨r20,h21,H⟩:=bnd H
 refine z0j (z1f (z1y r18.2 [1,50,100,200] r20 h21) rfl ⟨.inl rfl,trivial⟩ rfl) rfl ?_
 refine z0a (z1c _ rfl rfl (.inl ⟨rfl,rfl⟩)) ?_
 refine z0a (z0r y41 rfl) ?_
 refine z0j (z15 tyS3 rfl rfl rfl rfl) rfl ?_
 refine ⟨rfl,?_⟩
 refine z0c ?_
 refine z0b hN rfl ?_
 refine z0w (z6d z28 rfl rfl rfl) rfl ?_
 refine z0j (z1b z28 rfl rfl rfl rfl) rfl ?_
 refine z0m ?_
 cases H
 exact ⟨trivial,⟨.inl ⟨_,_,_,z0s (z0e.mk r2.1 r4.1 r6.1 r8.1 x12 r16 r18.1 (wr (r18.1+r20.1))),rfl,rfl,rfl,rfl,z28⟩,trivial⟩,rfl⟩
theorem z6u (s1:(List Bs)) (s2:(List Bs)) (r:(Bool)) (H:z2d s1 s2=some r):Fn Tryz.prog 65 [vlst (List.map z0n s1),vlst (List.map z0n s2)] (z1r [z05 r]):=by
 refine ⟨by kernel_rfl,z1e (us:=[z05 r]) Tryz.func65 rfl rfl rfl rfl fun X hN => ?_⟩
 unfold z2d at H
 refine z0c ?_
 refine z0b hN rfl ?_
 refine qe rfl ?_
 refine z0c ?_
 refine z0c ?_
 refine z0b hN rfl ?_
 refine qd rfl ?_
 refine z0a (z6r z9p rfl) ?_
 refine qd rfl ?_
 refine z0a (z6r z9p rfl) ?_
 refine z0a (z48 rfl rfl) ?_
 refine z0g _ rfl (fun h3 => ?_) (fun h3 => ?_)
 ·replace H:=ift h3 H
  refine z0c ?_
  refine z0b hN rfl ?_
  refine qe rfl ?_
  refine z0m ?_
  cases H
  exact ⟨trivial,.inl rfl,trivial⟩
 ·replace H:=iff_ h3 H
  refine z0l ?_
  refine z0c ?_
  refine z0c ?_
  refine z0b hN rfl ?_
  refine qd rfl ?_
  refine z0a (z6r z9p rfl) ?_
  refine qd rfl ?_
  refine z0v ?_
  obtain ⟨h6,H⟩:=gif H
  refine z3u (fun (k4:Nat) (s:Unit)=>[(0,.dat (vlst (List.map z0n s1))),(1,.dat (vlst (List.map z0n s2))),(12,.dat (vint (s1.length:Int))),(13,.dat (vint (k4:Int)))]) (fun (k4:Nat) (s:Unit)=>[]) () H ⟨rfl,rfl,rfl,rfl,trivial⟩ trivial (fun _ _=>rfl) ?_ ?_
  ·rintro ⟨⟩ H
   replace H:z8p=some r:=H
   unfold z8p at H
   refine z0c ?_
   refine z0b hN rfl ?_
   refine z0a (z04 rfl rfl) ?_
   refine z0c ?_
   refine z0g _ rfl (fun h=>(lt_t h).elim) (fun h => ?_)
   refine z1u ?_
   refine z0c ?_
   refine z0b hN rfl ?_
   refine qe rfl ?_
   refine z0m ?_
   cases H
   exact ⟨trivial,.inl rfl,trivial⟩
  ·rintro k4 x7 ⟨⟩ q5 h8 h9 H hq5
   replace H:z6m s2 k4 x7=some q5:=H
   unfold z6m at H
   refine z0c ?_
   refine z0b hN rfl ?_
   refine z0a (z04 rfl rfl) ?_
   refine z0c ?_
   refine z0g _ rfl (fun h => ?_) (fun h=>(lt_f h8 h).elim)
   refine z0l ?_
   refine z0c ?_
   refine z0v ?_
   refine z0c ?_
   refine z0b hN rfl ?_
   refine qd rfl ?_
   refine qe rfl ?_
   refine z0c ?_
   refine z4k mixed hN rfl rfl ?_
   refine qd rfl ?_
   refine qd rfl ?_
   refine z0a (y0r z9i (fun _=>rfl) rfl rfl h9) ?_
   refine z0a (z0x tyS9 rfl (z2l h9) rfl) ?_
   refine qd rfl ?_
   refine qd rfl ?_
   obtain ⟨x10,h11,H⟩:=bnd H
   refine z0a (y0r z9i (fun _=>rfl) rfl rfl h11) ?_
   refine z0a (z0x tyS9 rfl (z2l h11) rfl) ?_
   refine z0a (z9j rfl rfl) ?_
   refine ⟨rfl,?_⟩
   refine z0g _ rfl (fun h12 => ?_) (fun h12 => ?_)
   ·replace H:=ift h12 H
    refine z0c ?_
    refine z0b hN rfl ?_
    refine qe rfl ?_
    refine z0m ?_
    replace H:=retl H hq5
    cases H
    exact ⟨trivial,.inl rfl,trivial⟩
   ·replace H:=iff_ h12 H
    refine z0l ?_
    refine z0b hN rfl ?_
    refine z0a (z3r rfl rfl (by omega)) ?_
    refine qd rfl ?_
    exact ⟨_,z84 H,⟨rfl,rfl,rfl,rfl,trivial⟩,trivial⟩
theorem y40 (v1:z0e) (r:(Int)) (H:z6b v1=some r):Fn Tryz.prog 26 [vagg (z0s v1)] (z1r [vint r]):=by
 refine ⟨by kernel_rfl,z1e (us:=[vint r]) Tryz.func26 rfl rfl rfl rfl fun X hN => ?_⟩
 unfold z6b at H
 refine z0c ?_
 refine z0b hN rfl ?_
 refine z0j (z9k 1 rfl) rfl ?_
 refine qe rfl ?_
 refine z0c ?_
 refine z0v ?_
 refine z03 (ι:=Bool) (fun i=>[(1,.ptr 1 0),(6,.dat (z05 i))]) (fun i=>[(1,.box none 39 [.dat (vstr v1.Id),.dat (vstr v1.Subject),.dat (vstr v1.Issuer),.dat (vstr v1.Parent),.dat (vlst (List.map z0n v1.Audience)),.dat (vlst (List.map z0n v1.Scopes)),.dat (vint v1.From),.dat (vint v1.To)])]) (fun i=>z2q v1 i=some r) (fun i=>rfl) ?_ ?_
 ·skip
  refine z0b hN rfl ?_
  refine z0a (z0r y7j rfl) ?_
  refine z0w (z0o tyS9 rfl rfl) rfl ?_
  obtain ⟨r2,h3,H⟩:=bnd H
  refine z0a (z0q (z6q v1.Id r2 h3) ⟨.inl rfl,trivial⟩) ?_
  refine z0a (z2j rfl) ?_
  refine qd rfl ?_
  refine z09 (j:=4) rfl rfl (fun h4 => ?_) (fun h4 => ?_) rfl
  ·have h5:=un3 h4
   replace H:=iff_ h5 H
   refine z0p rfl rfl h4 (z0r y84 rfl) ?_
   refine z8z rfl rfl h4 (z0o tyS9 rfl rfl) rfl ?_
   obtain ⟨r6,h7,H⟩:=bnd H
   refine z0p rfl rfl h4 (z0q (z6q v1.Subject r6 h7) ⟨.inl rfl,trivial⟩) ?_
   refine z0p rfl rfl h4 (z2j rfl) ?_
   refine z0a (z0z rfl (bFF h5) rfl) ?_
   refine qd rfl ?_
   refine z09 (j:=10) rfl rfl (fun h8 => ?_) (fun h8 => ?_) rfl
   ·have h9:=un3 h8
    replace H:=iff_ h9 H
    refine z0p rfl rfl h8 (z0r y7i rfl) ?_
    refine z8z rfl rfl h8 (z0o tyS9 rfl rfl) rfl ?_
    obtain ⟨r10,h11,H⟩:=bnd H
    refine z0p rfl rfl h8 (z0q (z6q v1.Issuer r10 h11) ⟨.inl rfl,trivial⟩) ?_
    refine z0p rfl rfl h8 (z2j rfl) ?_
    refine z0a (z0z rfl (bFF h9) rfl) ?_
    refine qd rfl ?_
    refine z09 (j:=16) rfl rfl (fun h12 => ?_) (fun h12 => ?_) rfl
    ·have h13:=un3 h12
     replace H:=iff_ h13 H
     refine z0p rfl rfl h12 (z0r y5p rfl) ?_
     refine z8z rfl rfl h12 (z0o tyS9 rfl rfl) rfl ?_
     refine z0p rfl rfl h12 (z9j rfl rfl) ?_
     refine z0p rfl rfl h12 (z0h (.dat _) rfl) ?_
     refine z09 (j:=20) rfl rfl (fun h14 => ?_) (fun h14 => ?_) rfl
     ·have h15:=un1 h14
      replace H:=ift h15 H
      refine z0p rfl rfl h14 (z0r y5p rfl) ?_
      refine z8z rfl rfl h14 (z0o tyS9 rfl rfl) rfl ?_
      obtain ⟨r16,h17,H⟩:=bnd H
      refine z0p rfl rfl h14 (z0q (z6q v1.Parent r16 h17) ⟨.inl rfl,trivial⟩) ?_
      refine z0p rfl rfl h14 (z2j rfl) ?_
      refine z0p rfl rfl h12 (z00 rfl (bTT h15) rfl) ?_
      refine z0a (z0z rfl (bFF h13) rfl) ?_
      refine qe rfl ?_
      exact ⟨!r16,H,⟨rfl,rfl,trivial⟩,⟨rfl,trivial⟩⟩
     ·have h18:=un2 h14
      replace H:=iff_ h18 H
      refine z0f rfl rfl h14 ?_
      refine z0f rfl rfl h14 ?_
      refine z0f rfl rfl h14 ?_
      refine z0f rfl rfl h14 ?_
      refine z0p rfl rfl h12 (z0z rfl (bFF h18) rfl) ?_
      refine z0a (z0z rfl (bFF h13) rfl) ?_
      refine qe rfl ?_
      exact ⟨false,H,⟨rfl,rfl,trivial⟩,⟨rfl,trivial⟩⟩
    ·have h19:=un4 h12
     replace H:=ift h19 H
     refine z0f rfl rfl h12 ?_
     refine z0f rfl rfl h12 ?_
     refine z0f rfl rfl h12 ?_
     refine z0f rfl rfl h12 ?_
     refine z01 rfl rfl ?_
     refine z01 rfl rfl ?_
     refine z01 rfl rfl ?_
     refine z01 rfl rfl ?_
     refine z0f rfl rfl h12 ?_
     refine z0a (z00 rfl (bTT h19) rfl) ?_
     refine qe rfl ?_
     exact ⟨true,H,⟨rfl,rfl,trivial⟩,⟨rfl,trivial⟩⟩
   ·have h20:=un4 h8
    replace H:=ift h20 H
    refine z0f rfl rfl h8 ?_
    refine z0f rfl rfl h8 ?_
    refine z0f rfl rfl h8 ?_
    refine z0f rfl rfl h8 ?_
    refine z0a (z00 rfl (bTT h20) rfl) ?_
    refine qd rfl ?_
    refine z0f rfl rfl rfl ?_
    refine z0f rfl rfl rfl ?_
    refine z0f rfl rfl rfl ?_
    refine z0f rfl rfl rfl ?_
    refine z01 rfl rfl ?_
    refine z01 rfl rfl ?_
    refine z01 rfl rfl ?_
    refine z01 rfl rfl ?_
    refine z0f rfl rfl rfl ?_
    refine z0a (z00 rfl rfl rfl) ?_
    refine qe rfl ?_
    exact ⟨true,H,⟨rfl,rfl,trivial⟩,⟨rfl,trivial⟩⟩
  ·have h21:=un4 h4
   replace H:=ift h21 H
   refine z0f rfl rfl h4 ?_
   refine z0f rfl rfl h4 ?_
   refine z0f rfl rfl h4 ?_
   refine z0f rfl rfl h4 ?_
   refine z0a (z00 rfl (bTT h21) rfl) ?_
   refine qd rfl ?_
   refine z0f rfl rfl rfl ?_
   refine z0f rfl rfl rfl ?_
   refine z0f rfl rfl rfl ?_
   refine z0f rfl rfl rfl ?_
   refine z0a (z00 rfl rfl rfl) ?_
   refine qd rfl ?_
   refine z0f rfl rfl rfl ?_
   refine z0f rfl rfl rfl ?_
   refine z0f rfl rfl rfl ?_
   refine z0f rfl rfl rfl ?_
   refine z01 rfl rfl ?_
   refine z01 rfl rfl ?_
   refine z01 rfl rfl ?_
   refine z01 rfl rfl ?_
   refine z0f rfl rfl rfl ?_
   refine z0a (z00 rfl rfl rfl) ?_
   refine qe rfl ?_
   exact ⟨true,H,⟨rfl,rfl,trivial⟩,⟨rfl,trivial⟩⟩
 ·rintro v22 H
  replace H:z2q v1 v22=some r:=H
  unfold z2q at H
  refine z0g _ rfl (fun h23 => ?_) (fun h23 => ?_)
  ·replace H:=ift h23 H
   refine z0c ?_
   refine z0b hN rfl ?_
   refine qe rfl ?_
   refine z0m ?_
   cases H
   exact ⟨trivial,.inl rfl,trivial⟩
  ·replace H:=iff_ h23 H
   refine z0c ?_
   refine z0b hN rfl ?_
   refine z0a (z0r y4c rfl) ?_
   refine z0w (z0o z85 rfl rfl) rfl ?_
   refine z0a (z6r z9p rfl) ?_
   refine z0a (z2m rfl rfl) ?_
   refine qe rfl ?_
   refine z0g _ rfl (fun h24 => ?_) (fun h24 => ?_)
   ·replace H:=ift h24 H
    refine z0c ?_
    refine z0b hN rfl ?_
    refine qe rfl ?_
    refine z0m ?_
    cases H
    exact ⟨trivial,.inl rfl,trivial⟩
   ·replace H:=iff_ h24 H
    refine z0l ?_
    refine z0c ?_
    refine z0c ?_
    refine z0b hN rfl ?_
    refine z0a (z0r y4c rfl) ?_
    refine z0w (z0o z85 rfl rfl) rfl ?_
    refine z0a (z6r z9p rfl) ?_
    refine qd rfl ?_
    refine z0v ?_
    obtain ⟨h27,H⟩:=gif H
    refine z3u (fun (k25:Nat) (s:Unit)=>[(1,.ptr 1 0),(40,.dat (vlst (List.map z0n v1.Audience))),(41,.dat (vint (v1.Audience.length:Int))),(42,.dat (vint (k25:Int)))]) (fun (k25:Nat) (s:Unit)=>[(1,.box none 39 [.dat (vstr v1.Id),.dat (vstr v1.Subject),.dat (vstr v1.Issuer),.dat (vstr v1.Parent),.dat (vlst (List.map z0n v1.Audience)),.dat (vlst (List.map z0n v1.Scopes)),.dat (vint v1.From),.dat (vint v1.To)])]) () H ⟨rfl,rfl,rfl,rfl,trivial⟩ ⟨rfl,trivial⟩ (fun _ _=>rfl) ?_ ?_
    ·rintro ⟨⟩ H
     replace H:z8g v1=some r:=H
     unfold z8g at H
     refine z0c ?_
     refine z0b hN rfl ?_
     refine z0a (z04 rfl rfl) ?_
     refine z0c ?_
     refine z0g _ rfl (fun h=>(lt_t h).elim) (fun h => ?_)
     refine z1u ?_
     refine z0c ?_
     refine z0c ?_
     refine z0b hN rfl ?_
     refine z0a (z0r y5o rfl) ?_
     refine z0w (z0o z85 rfl rfl) rfl ?_
     obtain ⟨r29,h30,H⟩:=bnd H
     refine z0a (z0q (y4z v1.Scopes r29 h30) ⟨.inl rfl,trivial⟩) ?_
     refine qe rfl ?_
     refine z0c ?_
     refine z0b hN rfl ?_
     refine qd rfl ?_
     refine z0a (z48 rfl rfl) ?_
     refine z0g _ rfl (fun h31 => ?_) (fun h31 => ?_)
     ·replace H:=ift h31 H
      refine z0c ?_
      refine z0b hN rfl ?_
      refine qd rfl ?_
      refine qe rfl ?_
      refine z0m ?_
      cases H
      exact ⟨trivial,.inl rfl,trivial⟩
     ·replace H:=iff_ h31 H
      refine z0l ?_
      refine z0c ?_
      refine z0c ?_
      refine z4k mixed hN rfl rfl ?_
      refine z0a (z0r y5o rfl) ?_
      refine z0w (z0o z85 rfl rfl) rfl ?_
      obtain ⟨r32,h33,H⟩:=bnd H
      refine z0a (z0q (y6q v1.Scopes r32 h33) ⟨.inl rfl,trivial⟩) ?_
      refine z0a (z0r y5o rfl) ?_
      refine z0w (z0o z85 rfl rfl) rfl ?_
      obtain ⟨r34,h35,H⟩:=bnd H
      refine z0a (z0q (z6u r32 v1.Scopes r34 h35) ⟨.inl rfl,.inl rfl,trivial⟩) ?_
      refine z0a (z2j rfl) ?_
      refine ⟨rfl,?_⟩
      refine z0g _ rfl (fun h36 => ?_) (fun h36 => ?_)
      ·replace H:=ift h36 H
       refine z0c ?_
       refine z0b hN rfl ?_
       refine qe rfl ?_
       refine z0m ?_
       cases H
       exact ⟨trivial,.inl rfl,trivial⟩
      ·replace H:=iff_ h36 H
       refine z0l ?_
       refine z0c ?_
       refine z0c ?_
       refine z0b hN rfl ?_
       refine z0a (z0r y5n rfl) ?_
       refine z0w (z0o tyS3 rfl rfl) rfl ?_
       refine z0a (z04 rfl rfl) ?_
       refine qd rfl ?_
       refine z2b rfl rfl (fun hc=>z0r y5n rfl) ?_
       refine y1s rfl rfl (fun hc=>z0o tyS3 (cnd (c:=(!(decide (v1.From < 0)))) hc) rfl) rfl y3x ?_
       refine z2b rfl rfl (fun hc=>z0r y41 rfl) ?_
       refine y1s rfl rfl (fun hc=>z0o tyS3 (cnd (c:=(!(decide (v1.From < 0)))) hc) rfl) rfl y3x ?_
       refine z2b rfl rfl (fun hc=>z87 (cnd (c:=(!(decide (v1.From < 0)))) hc) (cnd (c:=(!(decide (v1.From < 0)))) hc)) ?_
       refine z0a (z2h rfl rfl (fun hb=>(cnd (c:=(!(decide (v1.From < 0)))) (notI hb)))) ?_
       refine qd rfl ?_
       refine z2b rfl rfl (fun hc=>z0r y41 rfl) ?_
       refine y1s rfl rfl (fun hc=>z0o tyS3 (cnd (c:=(!((decide (v1.From < 0)) || (decide (v1.To≤v1.From))))) hc) rfl) rfl y3x ?_
       refine z2b rfl rfl (fun hc=>z2m (cnd (c:=(!((decide (v1.From < 0)) || (decide (v1.To≤v1.From))))) hc) rfl) ?_
       refine z0a (z2h rfl rfl (fun hb=>(cnd (c:=(!((decide (v1.From < 0)) || (decide (v1.To≤v1.From))))) (notI hb)))) ?_
       refine z0g _ rfl (fun h37 => ?_) (fun h37 => ?_)
       ·replace H:=ift h37 H
        refine z0c ?_
        refine z0b hN rfl ?_
        refine qe rfl ?_
        refine z0m ?_
        cases H
        exact ⟨trivial,.inl rfl,trivial⟩
       ·replace H:=iff_ h37 H
        refine z0l ?_
        refine z0c ?_
        refine z0b hN rfl ?_
        refine qe rfl ?_
        refine z0m ?_
        cases H
        exact ⟨trivial,.inl rfl,trivial⟩
    ·rintro k25 x28 ⟨⟩ q26 h38 h39 H hq26
     replace H:y0k v1 k25 x28=some q26:=H
     unfold y0k at H
     refine z0c ?_
     refine z0b hN rfl ?_
     refine z0a (z04 rfl rfl) ?_
     refine z0c ?_
     refine z0g _ rfl (fun h => ?_) (fun h=>(lt_f h38 h).elim)
     refine z0l ?_
     refine z0c ?_
     refine z0v ?_
     refine z0c ?_
     refine z0b hN rfl ?_
     refine qd rfl ?_
     refine z0a (y0r z9i (fun _=>rfl) rfl rfl h39) ?_
     refine z0a (z0x tyS9 rfl (z2l h39) rfl) ?_
     refine qe rfl ?_
     refine qe rfl ?_
     refine z0c ?_
     refine z0c ?_
     refine z0b hN rfl ?_
     refine qd rfl ?_
     obtain ⟨r40,h41,H⟩:=bnd H
     refine z0a (z0q (z6q x28 r40 h41) ⟨.inl rfl,trivial⟩) ?_
     refine z0a (z2j rfl) ?_
     refine z0g _ rfl (fun h42 => ?_) (fun h42 => ?_)
     ·replace H:=ift h42 H
      refine z0c ?_
      refine z0b hN rfl ?_
      refine qe rfl ?_
      refine z0m ?_
      replace H:=retl H hq26
      cases H
      exact ⟨trivial,.inl rfl,trivial⟩
     ·replace H:=iff_ h42 H
      refine z0l ?_
      refine z03 (ι:=Bool) (fun i=>[(1,.ptr 1 0),(40,.dat (vlst (List.map z0n v1.Audience))),(41,.dat (vint (v1.Audience.length:Int))),(42,.dat (vint (k25:Int))),(61,.dat (z05 i))]) (fun i=>[(1,.box none 39 [.dat (vstr v1.Id),.dat (vstr v1.Subject),.dat (vstr v1.Issuer),.dat (vstr v1.Parent),.dat (vlst (List.map z0n v1.Audience)),.dat (vlst (List.map z0n v1.Scopes)),.dat (vint v1.From),.dat (vint v1.To)])]) (fun i=>z5l i=some q26) (fun i=>rfl) ?_ ?_
      ·skip
       refine z0b hN rfl ?_
       refine qd rfl ?_
       refine z0a (z2m rfl rfl) ?_
       refine qd rfl ?_
       refine z09 (j:=2) rfl rfl (fun h43 => ?_) (fun h43 => ?_) rfl
       ·have h44:=un1 h43
        replace H:=ift h44 H
        refine z0p rfl rfl h43 (z0h (.dat _) rfl) ?_
        refine z0p rfl rfl h43 (z0r y4c rfl) ?_
        refine z8z rfl rfl h43 (z0o z85 rfl rfl) rfl ?_
        refine z0p rfl rfl h43 (z0h (.dat _) rfl) ?_
        refine z0p rfl rfl h43 (y76 rfl rfl (by omega)) ?_
        obtain ⟨x45,h46,H⟩:=bnd H
        refine z0p rfl rfl h43 (y25 z9i (fun _=>rfl) rfl rfl h46) ?_
        refine z0p rfl rfl h43 (z0x tyS9 rfl (z2l (z6x h46).2) rfl) ?_
        refine z0p rfl rfl h43 (y9u rfl rfl) ?_
        refine z0a (z00 rfl (bTT h44) rfl) ?_
        exact ⟨(Op.bytesLess x28 x45 || x28 == x45),H,⟨rfl,rfl,rfl,rfl,rfl,trivial⟩,⟨rfl,trivial⟩⟩
       ·have h47:=un2 h43
        replace H:=iff_ h47 H
        refine z0f rfl rfl h43 ?_
        refine z0f rfl rfl h43 ?_
        refine z0f rfl rfl h43 ?_
        refine z0f rfl rfl h43 ?_
        refine z0f rfl rfl h43 ?_
        refine z0f rfl rfl h43 ?_
        refine z0f rfl rfl h43 ?_
        refine z0f rfl rfl h43 ?_
        refine z0a (z0z rfl (bFF h47) rfl) ?_
        exact ⟨false,H,⟨rfl,rfl,rfl,rfl,rfl,trivial⟩,⟨rfl,trivial⟩⟩
      ·rintro v48 H
       replace H:z5l v48=some q26:=H
       unfold z5l at H
       refine z0g _ rfl (fun h49 => ?_) (fun h49 => ?_)
       ·replace H:=ift h49 H
        refine z0c ?_
        refine z0b hN rfl ?_
        refine qe rfl ?_
        refine z0m ?_
        replace H:=retl H hq26
        cases H
        exact ⟨trivial,.inl rfl,trivial⟩
       ·replace H:=iff_ h49 H
        refine z0l ?_
        refine z0b hN rfl ?_
        refine z0a (z3r rfl rfl (by omega)) ?_
        refine qd rfl ?_
        exact ⟨_,z84 H,⟨rfl,rfl,rfl,rfl,trivial⟩,⟨rfl,trivial⟩⟩
theorem y6w (n:Int) (r:Bs) (H:y0p n=some r):Fn Tryz.prog 116 [vint n] (z1r [vstr r]):=by
 obtain ⟨⟨h1,h2⟩,h3⟩:=gif H
 cases h3
 refine y2m (by kernel_rfl) fun M w vs hM h => ?_
 have hv:=y49 (us:=[.int .i64 n]) h
 subst hv
 refine (Tryz.strconv_Itoa n h1 h2 w (w1q hM)).mono ?_
 rintro e w' ⟨rfl,k,os,rfl⟩
 exact ⟨_,rfl,rfl,Kp.of_below ⟨rfl,rfl,rfl,by show w.heap.size≤(w.heap++os).size; rw [Array.size_append]; omega,fun j hj=>by show (w.heap++os)[j]?=w.heap[j]?; exact Array.getElem?_append_left hj⟩⟩
theorem y24 (c1:z0e) (r:(Bs)) (H:z6a c1=some r):Fn Tryz.prog 53 [vagg (z0s c1)] (z1r [vstr r]):=by
 refine ⟨by kernel_rfl,z1e (us:=[vstr r]) Tryz.func53 rfl rfl rfl rfl fun X hN => ?_⟩
 unfold z6a at H
 refine z0c ?_
 refine z0b hN rfl ?_
 refine z0j (z9k 1 rfl) rfl ?_
 refine qe rfl ?_
 refine z0c ?_
 refine z0b hN rfl ?_
 refine z0a (z0r y7j rfl) ?_
 refine z0w (z0o tyS9 rfl rfl) rfl ?_
 obtain ⟨h2,H⟩:=gif H
 refine z0a (z26 rfl rfl (Nat.le_trans h2 (by decide))) ?_
 refine z0a (z0r y84 rfl) ?_
 refine z0w (z0o tyS9 rfl rfl) rfl ?_
 obtain ⟨h3,H⟩:=gif H
 refine z0a (z26 rfl rfl (Nat.le_trans h3 (by decide))) ?_
 refine z0a (z0r y7i rfl) ?_
 refine z0w (z0o tyS9 rfl rfl) rfl ?_
 obtain ⟨h4,H⟩:=gif H
 refine z0a (z26 rfl rfl (Nat.le_trans h4 (by decide))) ?_
 refine z0j (w8w (C:=z0n) 2 ([([105,100,32]++c1.Id),([115,117,98,106,101,99,116,32]++c1.Subject),([105,115,115,117,101,114,32]++c1.Issuer)]:(List Bs)) z86 ⟨rfl,.inl ⟨_,rfl,rfl,rfl⟩,rfl,rfl,.inl ⟨_,rfl,rfl,rfl⟩,rfl,rfl,.inl ⟨_,rfl,rfl,rfl⟩,rfl,trivial⟩ rfl rfl rfl) rfl ?_
 refine z0a (z13 (.row _ _) rfl) ?_
 refine z03 (ι:=(List Bs)) (fun i=>[(1,.ptr 1 0),(3,.row 2 i.length)]) (fun i=>[(1,.box none 39 [.dat (vstr c1.Id),.dat (vstr c1.Subject),.dat (vstr c1.Issuer),.dat (vstr c1.Parent),.dat (vlst (List.map z0n c1.Audience)),.dat (vlst (List.map z0n c1.Scopes)),.dat (vint c1.From),.dat (vint c1.To)]),(2,.row 9 1 (List.map z0n i))]) (fun i=>z5k c1 i=some r) (fun i=>rfl) ?_ ?_
 ·skip
  refine z0c ?_
  refine z0b hN rfl ?_
  refine z0a (z0r y5p rfl) ?_
  refine z0w (z0o tyS9 rfl rfl) rfl ?_
  refine z0a (z9j rfl rfl) ?_
  refine z0g _ rfl (fun h5 => ?_) (fun h5 => ?_)
  ·replace H:=ift h5 H
   refine z0b hN rfl ?_
   refine z0a (z0h (.row _ _) rfl) ?_
   refine z0a (z0r y5p rfl) ?_
   refine z0w (z0o tyS9 rfl rfl) rfl ?_
   obtain ⟨h6,H⟩:=gif H
   refine z0a (z26 rfl rfl (Nat.le_trans h6 (by decide))) ?_
   refine z0a (z1a (u':=vlst (List.map z0n [([112,97,114,101,110,116,32]++c1.Parent)])) (z14 [[_]] z86 ⟨rfl,.inl ⟨_,rfl,rfl,rfl⟩,rfl,trivial⟩ rfl rfl) rfl) ?_
   obtain ⟨h7,H⟩:=gif H
   refine z0j (y75 z86 (fun _=>rfl) rfl rfl rfl ⟨by simp,by first | (simp; done) | simpa using h7⟩ rfl) rfl ?_
   refine z0a (z13 (.row _ _) rfl) ?_
   exact ⟨(([([105,100,32]++c1.Id),([115,117,98,106,101,99,116,32]++c1.Subject),([105,115,115,117,101,114,32]++c1.Issuer)]:(List Bs))++([([112,97,114,101,110,116,32]++c1.Parent)])),H,⟨rfl,rfl,trivial⟩,⟨rfl,rfl,trivial⟩⟩
  ·replace H:=iff_ h5 H
   refine z0l ?_
   exact ⟨([([105,100,32]++c1.Id),([115,117,98,106,101,99,116,32]++c1.Subject),([105,115,115,117,101,114,32]++c1.Issuer)]:(List Bs)),H,⟨rfl,rfl,trivial⟩,⟨rfl,rfl,trivial⟩⟩
 ·rintro l8 H
  replace H:z5k c1 l8=some r:=H
  unfold z5k at H
  refine z03 (ι:=(List Bs)) (fun i=>[(1,.ptr 1 0),(3,.row 2 i.length)]) (fun i=>[(1,.box none 39 [.dat (vstr c1.Id),.dat (vstr c1.Subject),.dat (vstr c1.Issuer),.dat (vstr c1.Parent),.dat (vlst (List.map z0n c1.Audience)),.dat (vlst (List.map z0n c1.Scopes)),.dat (vint c1.From),.dat (vint c1.To)]),(2,.row 9 1 (List.map z0n i))]) (fun i=>z5j c1 i=some r) (fun i=>rfl) ?_ ?_
  ·skip
   refine z0c ?_
   refine z0b hN rfl ?_
   refine z0a (z0r y4c rfl) ?_
   refine z0w (z0o z85 rfl rfl) rfl ?_
   refine z0a (z6r z9p rfl) ?_
   refine z0a (z2m rfl rfl) ?_
   refine z0g _ rfl (fun h9 => ?_) (fun h9 => ?_)
   ·replace H:=ift h9 H
    refine z0b hN rfl ?_
    refine z0a (z0h (.row _ _) rfl) ?_
    refine z0a (z0r y4c rfl) ?_
    refine z0w (z0o z85 rfl rfl) rfl ?_
    obtain ⟨r10,h11,H⟩:=bnd H
    refine z0a (z0q (y5d c1.Audience [32] r10 h11) ⟨.inl rfl,.inl rfl,trivial⟩) ?_
    obtain ⟨h12,H⟩:=gif H
    refine z0a (z26 rfl rfl (Nat.le_trans h12 (by decide))) ?_
    refine z0a (z1a (u':=vlst (List.map z0n [([102,111,114,32]++r10)])) (z14 [[_]] z86 ⟨rfl,.inl ⟨_,rfl,rfl,rfl⟩,rfl,trivial⟩ rfl rfl) rfl) ?_
    obtain ⟨h13,H⟩:=gif H
    refine z0j (y75 z86 (fun _=>rfl) rfl rfl rfl ⟨by simp,by first | (simp; done) | simpa using h13⟩ rfl) rfl ?_
    refine z0a (z13 (.row _ _) rfl) ?_
    exact ⟨(l8++([([102,111,114,32]++r10)])),H,⟨rfl,rfl,trivial⟩,⟨rfl,rfl,trivial⟩⟩
   ·replace H:=iff_ h9 H
    refine z0l ?_
    exact ⟨l8,H,⟨rfl,rfl,trivial⟩,⟨rfl,rfl,trivial⟩⟩
  ·rintro l14 H
   replace H:z5j c1 l14=some r:=H
   unfold z5j at H
   refine z03 (ι:=(List Bs)) (fun i=>[(1,.ptr 1 0),(3,.row 2 i.length)]) (fun i=>[(1,.box none 39 [.dat (vstr c1.Id),.dat (vstr c1.Subject),.dat (vstr c1.Issuer),.dat (vstr c1.Parent),.dat (vlst (List.map z0n c1.Audience)),.dat (vlst (List.map z0n c1.Scopes)),.dat (vint c1.From),.dat (vint c1.To)]),(2,.row 9 1 (List.map z0n i))]) (fun i=>z5i c1 i=some r) (fun i=>rfl) ?_ ?_
   ·skip
    refine z0c ?_
    refine z0b hN rfl ?_
    refine z0a (z0r y5o rfl) ?_
    refine z0w (z0o z85 rfl rfl) rfl ?_
    refine z0a (z6r z9p rfl) ?_
    refine z0a (z2m rfl rfl) ?_
    refine z0g _ rfl (fun h15 => ?_) (fun h15 => ?_)
    ·replace H:=ift h15 H
     refine z0b hN rfl ?_
     refine z0a (z0h (.row _ _) rfl) ?_
     refine z0a (z0r y5o rfl) ?_
     refine z0w (z0o z85 rfl rfl) rfl ?_
     obtain ⟨r16,h17,H⟩:=bnd H
     refine z0a (z0q (y5d c1.Scopes [32] r16 h17) ⟨.inl rfl,.inl rfl,trivial⟩) ?_
     obtain ⟨h18,H⟩:=gif H
     refine z0a (z26 rfl rfl (Nat.le_trans h18 (by decide))) ?_
     refine z0a (z1a (u':=vlst (List.map z0n [([109,97,121,32]++r16)])) (z14 [[_]] z86 ⟨rfl,.inl ⟨_,rfl,rfl,rfl⟩,rfl,trivial⟩ rfl rfl) rfl) ?_
     obtain ⟨h19,H⟩:=gif H
     refine z0j (y75 z86 (fun _=>rfl) rfl rfl rfl ⟨by simp,by first | (simp; done) | simpa using h19⟩ rfl) rfl ?_
     refine z0a (z13 (.row _ _) rfl) ?_
     exact ⟨(l14++([([109,97,121,32]++r16)])),H,⟨rfl,rfl,trivial⟩,⟨rfl,rfl,trivial⟩⟩
    ·replace H:=iff_ h15 H
     refine z0l ?_
     exact ⟨l14,H,⟨rfl,rfl,trivial⟩,⟨rfl,rfl,trivial⟩⟩
   ·rintro l20 H
    replace H:z5i c1 l20=some r:=H
    unfold z5i at H
    refine z0c ?_
    refine z4k mixed hN rfl rfl ?_
    refine z0a (z0h (.row _ _) rfl) ?_
    refine z0a (z0r y5n rfl) ?_
    refine z0w (z0o tyS3 rfl rfl) rfl ?_
    obtain ⟨r21,h22,H⟩:=bnd H
    refine z0a (z0q (y6w c1.From r21 h22) ⟨.inl rfl,trivial⟩) ?_
    obtain ⟨h23,H⟩:=gif H
    refine z0a (z26 rfl rfl (Nat.le_trans h23 (by decide))) ?_
    obtain ⟨h24,H⟩:=gif H
    refine z0a (z26 rfl rfl (Nat.le_trans h24 (by decide))) ?_
    refine z0a (z0r y41 rfl) ?_
    refine z0w (z0o tyS3 rfl rfl) rfl ?_
    obtain ⟨r25,h26,H⟩:=bnd H
    refine z0a (z0q (y6w c1.To r25 h26) ⟨.inl rfl,trivial⟩) ?_
    obtain ⟨h27,H⟩:=gif H
    refine z0a (z26 rfl rfl (Nat.le_trans h27 (by decide))) ?_
    refine z0a (z1a (u':=vlst (List.map z0n [((([116,105,109,101,32]++r21)++[32])++r25)])) (z14 [[_]] z86 ⟨rfl,.inl ⟨_,rfl,rfl,rfl⟩,rfl,trivial⟩ rfl rfl) rfl) ?_
    obtain ⟨h28,H⟩:=gif H
    refine z0j (y75 z86 (fun _=>rfl) rfl rfl rfl ⟨by simp,by first | (simp; done) | simpa using h28⟩ rfl) rfl ?_
    refine z0a (z13 (.row _ _) rfl) ?_
    refine ⟨rfl,?_⟩
    refine z0c ?_
    refine x1b 3 2 rfl rfl rfl ?_
    refine z0b hN rfl ?_
    refine qd rfl ?_
    obtain ⟨r29,h30,H⟩:=bnd H
    refine z0a (z0q (y5d (l20++([((([116,105,109,101,32]++r21)++[32])++r25)])) [10] r29 h30) ⟨.inl rfl,.inl rfl,trivial⟩) ?_
    obtain ⟨h31,H⟩:=gif H
    refine z0a (z26 rfl rfl (Nat.le_trans h31 (by decide))) ?_
    refine qe rfl ?_
    refine z0m ?_
    cases H
    exact ⟨trivial,.inl rfl,trivial⟩
theorem y7d (c1:z0e) (r:(Bs×Int)) (H:z6j c1=some r):Fn Tryz.prog 111 [vagg (z0s c1)] (z1r [vstr r.1,vint r.2]):=by
 refine ⟨by kernel_rfl,z1e (us:=[vstr r.1,vint r.2]) Tryz.func111 rfl rfl rfl rfl fun X hN => ?_⟩
 unfold z6j at H
 refine z0c ?_
 refine z0b hN rfl ?_
 refine z0j (z9k 1 rfl) rfl ?_
 refine qe rfl ?_
 refine qe rfl ?_
 refine z0c ?_
 refine z0c ?_
 refine z0b hN rfl ?_
 refine z0w (z6d z28 rfl rfl rfl) rfl ?_
 obtain ⟨r2,h3,H⟩:=bnd H
 refine z0a (z0q (y40 c1 r2 h3) ⟨.inl rfl,trivial⟩) ?_
 refine qe rfl ?_
 refine z0c ?_
 refine z0b hN rfl ?_
 refine qd rfl ?_
 refine z0a (z48 rfl rfl) ?_
 refine z0g _ rfl (fun h4 => ?_) (fun h4 => ?_)
 ·replace H:=ift h4 H
  refine z0c ?_
  refine z0b hN rfl ?_
  refine qd rfl ?_
  refine qe rfl ?_
  refine qe rfl ?_
  refine z0m ?_
  cases H
  exact ⟨trivial,.inl rfl,.inl rfl,trivial⟩
 ·replace H:=iff_ h4 H
  refine z0l ?_
  refine z0c ?_
  refine z0b hN rfl ?_
  refine z0w (z6d z28 rfl rfl rfl) rfl ?_
  obtain ⟨r5,h6,H⟩:=bnd H
  refine z0a (z0q (y24 c1 r5 h6) ⟨.inl rfl,trivial⟩) ?_
  refine qe rfl ?_
  refine z0c ?_
  refine z0c ?_
  refine z0b hN rfl ?_
  refine qd rfl ?_
  refine z0a (z1m tyU9 rfl) ?_
  refine z0a (z2m rfl rfl) ?_
  refine z0g _ rfl (fun h7 => ?_) (fun h7 => ?_)
  ·replace H:=ift h7 H
   refine z0c ?_
   refine z0b hN rfl ?_
   refine qe rfl ?_
   refine qe rfl ?_
   refine z0m ?_
   cases H
   exact ⟨trivial,.inl rfl,.inl rfl,trivial⟩
  ·replace H:=iff_ h7 H
   refine z0l ?_
   refine z0c ?_
   refine z0b hN rfl ?_
   refine qd rfl ?_
   refine qe rfl ?_
   refine qe rfl ?_
   refine z0m ?_
   cases H
   exact ⟨trivial,.inl rfl,.inl rfl,trivial⟩
theorem y7c (v1:Int) (r:(Bool)) (H:y2a v1=some r):Fn Tryz.prog 78 [vint v1] (z1r [z05 r]):=by
 refine ⟨by kernel_rfl,z1e (us:=[z05 r]) Tryz.func78 rfl rfl rfl rfl fun X hN => ?_⟩
 unfold y2a at H
 refine z0c ?_
 refine z0b hN rfl ?_
 refine qe rfl ?_
 refine z0c ?_
 refine z0b hN rfl ?_
 refine qd rfl ?_
 obtain ⟨r2,h3,H⟩:=bnd H
 refine z0a (z0q (y3t v1 0 345686399999 r2 h3) ⟨.inl rfl,.inl rfl,.inl rfl,trivial⟩) ?_
 refine qe rfl ?_
 refine z0m ?_
 cases H
 exact ⟨trivial,.inl rfl,trivial⟩
end Go.Proofs.YtndabcepiekebaaGreatDoor
