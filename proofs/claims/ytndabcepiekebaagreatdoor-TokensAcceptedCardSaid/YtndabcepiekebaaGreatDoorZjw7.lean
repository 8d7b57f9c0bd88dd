/- Walks along the models. Printed by a program. -/
import Derived.Test.YtndabcepiekebaaGreatDoorZjw6
namespace Go.Proofs.YtndabcepiekebaaGreatDoor
open Go.RowKit
set_option linter.unusedVariables false
set_option maxRecDepth 100000
set_option maxHeartbeats 2000000
theorem y8b (v1:Bs) (r:(z0e×Int×Int)) (H:z9u v1=some r):Fn Tryz.prog 131 [vstr v1] (z1r [vagg (z0s r.1),vint r.2.1,vint r.2.2]):=by
 refine ⟨by kernel_rfl,z1e (us:=[vagg (z0s r.1),vint r.2.1,vint r.2.2]) Tryz.func131 rfl rfl rfl rfl fun X hN => ?_⟩
 unfold z9u at H
 refine z0c ?_
 refine z0b hN rfl ?_
 refine z0j (z2s 1 y0q rfl) rfl ?_
 refine qe rfl ?_
 refine qe rfl ?_
 refine z0c ?_
 refine z0b hN rfl ?_
 refine z0j (z2s 2 y0q rfl) rfl ?_
 refine z0c ?_
 refine z0c ?_
 refine z0b hN rfl ?_
 refine qd rfl ?_
 refine z0a (z1m tyU9 rfl) ?_
 refine z0a (z2m rfl rfl) ?_
 refine z0g _ rfl (fun h2 => ?_) (fun h2 => ?_)
 ·replace H:=ift h2 H
  refine z0c ?_
  refine z0b hN rfl ?_
  refine z0w (y0b (u':=vagg (z0s (z0e.mk [] [] [] [] [] [] 0 0))) (y0l (by exact ⟨z02,z02,z02,z02,z2r,z2r,z02,z02,trivial⟩)) (z6d z28 rfl rfl rfl)) rfl ?_
  refine z0j (z1b z28 rfl rfl rfl rfl) rfl ?_
  refine qe rfl ?_
  refine qe rfl ?_
  refine z0m ?_
  cases H
  exact ⟨trivial,.inl ⟨_,_,_,z0s (z0e.mk [] [] [] [] [] [] 0 0),rfl,rfl,rfl,rfl,z28⟩,.inl rfl,.inl rfl,trivial⟩
 ·replace H:=iff_ h2 H
  refine z0l ?_
  refine z0c ?_
  refine z0b hN rfl ?_
  refine z0a (z1a (u':=vlst (List.map z0n [[105,100],[115,117,98,106,101,99,116],[105,115,115,117,101,114],[112,97,114,101,110,116],[102,111,114],[109,97,121],[116,105,109,101]])) (z14 [[_],[_],[_],[_],[_],[_],[_]] z86 ⟨rfl,.inl ⟨_,rfl,rfl,rfl⟩,rfl,rfl,.inl ⟨_,rfl,rfl,rfl⟩,rfl,rfl,.inl ⟨_,rfl,rfl,rfl⟩,rfl,rfl,.inl ⟨_,rfl,rfl,rfl⟩,rfl,rfl,.inl ⟨_,rfl,rfl,rfl⟩,rfl,rfl,.inl ⟨_,rfl,rfl,rfl⟩,rfl,rfl,.inl ⟨_,rfl,rfl,rfl⟩,rfl,trivial⟩ rfl rfl) rfl) ?_
  refine qe rfl ?_
  refine z0c ?_
  refine z0b hN rfl ?_
  refine qe rfl ?_
  refine z03 (ι:=Bs×Bs×Bs×Bs×(List Bs)×(List Bs)×Int×Int) (fun i=>[(2,.ptr 1 0),(5,.ptr 2 0)]) (fun i=>[(1,.box none 39 [.dat (vstr []),.dat (vstr []),.dat (vstr []),.dat (vstr []),.dat (vnil),.dat (vnil),.dat (vint 0),.dat (vint 0)]),(2,.box none 39 [.dat (vstr i.1),.dat (vstr i.2.1),.dat (vstr i.2.2.1),.dat (vstr i.2.2.2.1),.dat (vlst (List.map z0n i.2.2.2.2.1)),.dat (vlst (List.map z0n i.2.2.2.2.2.1)),.dat (vint i.2.2.2.2.2.2.1),.dat (vint i.2.2.2.2.2.2.2)])]) (fun i=>z83 i.1 i.2.1 i.2.2.1 i.2.2.2.1 i.2.2.2.2.1 i.2.2.2.2.2.1 i.2.2.2.2.2.2.1 i.2.2.2.2.2.2.2=some r) (fun i=>rfl) ?_ ?_
  ·skip
   refine z0c ?_
   refine z0b hN rfl ?_
   refine qe rfl ?_
   refine z0v ?_
   refine x5p 2 4 (.dat (vlst [])) rfl rfl (fun g w M v h=>z2r w M v h) ?_
   refine x5p 2 5 (.dat (vlst [])) rfl rfl (fun g w M v h=>z2r w M v h) ?_
   refine y55 (fun (s:Bs×Int×Int×Bs×Bs×Bs×Bs×(List Bs)×(List Bs)×Int×Int)=>[(0,.dat (vstr s.1)),(2,.ptr 1 0),(5,.ptr 2 0),(6,.dat (vlst (List.map z0n ([[105,100],[115,117,98,106,101,99,116],[105,115,115,117,101,114],[112,97,114,101,110,116],[102,111,114],[109,97,121],[116,105,109,101]])))),(7,.dat (vint s.2.1)),(8,.dat (vint s.2.2.1))]) (fun (s:Bs×Int×Int×Bs×Bs×Bs×Bs×(List Bs)×(List Bs)×Int×Int)=>[(1,.box none 39 [.dat (vstr []),.dat (vstr []),.dat (vstr []),.dat (vstr []),.dat (vnil),.dat (vnil),.dat (vint 0),.dat (vint 0)]),(2,.box none 39 [.dat (vstr s.2.2.2.1),.dat (vstr s.2.2.2.2.1),.dat (vstr s.2.2.2.2.2.1),.dat (vstr s.2.2.2.2.2.2.1),.dat (vlst (List.map z0n s.2.2.2.2.2.2.2.1)),.dat (vlst (List.map z0n s.2.2.2.2.2.2.2.2.1)),.dat (vint s.2.2.2.2.2.2.2.2.2.1),.dat (vint s.2.2.2.2.2.2.2.2.2.2)])]) (v1,0,0,[],[],[],[],([]:(List Bs)),([]:(List Bs)),0,0) H ⟨rfl,rfl,rfl,rfl,rfl,rfl,trivial⟩ ⟨rfl,rfl,trivial⟩ (fun _=>rfl) ?_
   rintro ⟨v3,v4,v5,c6,c7,c8,c9,c10,c11,c12,c13⟩ q14 H hq14
   replace H:z2k v3 v4 v5 c6 c7 c8 c9 c10 c11 c12 c13=some q14:=H
   unfold z2k at H
   refine z0c ?_
   refine z0v ?_
   refine z0c ?_
   refine z0c ?_
   refine z0b hN rfl ?_
   refine qd rfl ?_
   refine z0a (z6c rfl rfl) ?_
   refine z0g _ rfl (fun h15 => ?_) (fun h15 => ?_)
   ·replace H:=ift h15 H
    refine z0c ?_
    refine z0c ?_
    refine z0b hN rfl ?_
    refine qd rfl ?_
    refine qd rfl ?_
    refine z0a (z6r z9p rfl) ?_
    refine z0a (z2z rfl rfl) ?_
    refine z0g _ rfl (fun h16 => ?_) (fun h16 => ?_)
    ·replace H:=ift h16 H
     refine z1u ?_
     replace H:=outl H hq14
     exact ⟨(c6,c7,c8,c9,c10,c11,c12,c13),H,⟨rfl,rfl,trivial⟩,⟨rfl,rfl,trivial⟩⟩
    ·replace H:=iff_ h16 H
     refine z0l ?_
     refine z0c ?_
     refine z0b hN rfl ?_
     refine z0a (y0b (u':=vagg (z0s (z0e.mk [] [] [] [] [] [] 0 0))) (y0l (by exact ⟨z02,z02,z02,z02,z2r,z2r,z02,z02,trivial⟩)) (z2f [] y0q y4b rfl trivial)) ?_
     refine qd rfl ?_
     refine z0j (z1b z28 rfl rfl rfl rfl) rfl ?_
     refine qe rfl ?_
     refine qe rfl ?_
     refine z0m ?_
     replace H:=retl H hq14
     cases H
     exact ⟨trivial,.inl ⟨_,_,_,z0s (z0e.mk [] [] [] [] [] [] 0 0),rfl,rfl,rfl,rfl,z28⟩,.inl rfl,.inl rfl,trivial⟩
   ·replace H:=iff_ h15 H
    refine z0l ?_
    refine z0c ?_
    refine z0b hN rfl ?_
    refine qd rfl ?_
    obtain ⟨r17,h18,H⟩:=bnd H
    refine z0a (z0q (y92 v3 [10] r17 h18) ⟨.inl rfl,.inl rfl,trivial⟩) ?_
    refine qd rfl ?_
    refine z0a (z10 rfl rfl) ?_
    refine z0a (z10 rfl rfl) ?_
    refine z0a (z10 rfl rfl) ?_
    refine qe rfl ?_
    refine qe rfl ?_
    refine qe rfl ?_
    refine z0c ?_
    refine z0b hN rfl ?_
    refine qd rfl ?_
    obtain ⟨r19,h20,H⟩:=bnd H
    refine z0a (z0q (y09 r17.1 [32] r19 h20) ⟨.inl rfl,.inl rfl,trivial⟩) ?_
    refine qe rfl ?_
    refine z0c ?_
    refine z0b hN rfl ?_
    refine qd rfl ?_
    refine qd rfl ?_
    obtain ⟨x21,h22,H⟩:=bnd H
    refine z0a (y0r z9i (fun _=>rfl) rfl rfl h22) ?_
    refine z0a (z0x tyS9 rfl (z2l h22) rfl) ?_
    obtain ⟨r23,h24,H⟩:=bnd H
    refine z0a (z0q (y2c ([[105,100],[115,117,98,106,101,99,116],[105,115,115,117,101,114],[112,97,114,101,110,116],[102,111,114],[109,97,121],[116,105,109,101]]) x21 r23 h24) ⟨.inl rfl,.inl rfl,trivial⟩) ?_
    refine qe rfl ?_
    refine z0c ?_
    refine z0b hN rfl ?_
    refine qd rfl ?_
    refine qd rfl ?_
    refine qd rfl ?_
    refine qd rfl ?_
    refine z0a (w6t rfl rfl) ?_
    obtain ⟨l25,h26,H⟩:=bnd H
    refine z0a (x1y z9i (fun _=>rfl) rfl rfl rfl h26) ?_
    refine qe rfl ?_
    refine z0c ?_
    refine z0b hN rfl ?_
    refine qd rfl ?_
    obtain ⟨r27,h28,H⟩:=bnd H
    refine z0a (w05 (z6v l25 (fun (a0:Bs)=>z6t a0) 185 [] (fun a0 r h=>y7t a0 r h) r27 h28) ⟨.inl (.inl rfl),.inr ⟨_,rfl,rfl⟩,trivial⟩) ?_
    refine qe rfl ?_
    refine z0c ?_
    refine z03 (ι:=Bool×Bs×Bs×Bs×Bs×(List Bs)×(List Bs)×Int×Int) (fun i=>[(2,.ptr 1 0),(5,.ptr 2 0),(6,.dat (vlst (List.map z0n ([[105,100],[115,117,98,106,101,99,116],[105,115,115,117,101,114],[112,97,114,101,110,116],[102,111,114],[109,97,121],[116,105,109,101]])))),(8,.dat (vint v5)),(10,.dat (vstr r17.2.1)),(13,.dat (vint r23)),(71,.dat (z05 i.1))]) (fun i=>[(1,.box none 39 [.dat (vstr []),.dat (vstr []),.dat (vstr []),.dat (vstr []),.dat (vnil),.dat (vnil),.dat (vint 0),.dat (vint 0)]),(2,.box none 39 [.dat (vstr i.2.1),.dat (vstr i.2.2.1),.dat (vstr i.2.2.2.1),.dat (vstr i.2.2.2.2.1),.dat (vlst (List.map z0n i.2.2.2.2.2.1)),.dat (vlst (List.map z0n i.2.2.2.2.2.2.1)),.dat (vint i.2.2.2.2.2.2.2.1),.dat (vint i.2.2.2.2.2.2.2.2)])]) (fun i=>z2y v5 r17 r23 i.1 i.2.1 i.2.2.1 i.2.2.2.1 i.2.2.2.2.1 i.2.2.2.2.2.1 i.2.2.2.2.2.2.1 i.2.2.2.2.2.2.2.1 i.2.2.2.2.2.2.2.2=some q14) (fun i=>rfl) ?_ ?_
    ·skip
     refine z0b hN rfl ?_
     refine qd rfl ?_
     refine z0a (z2j rfl) ?_
     refine qd rfl ?_
     refine z09 (j:=2) rfl rfl (fun h29 => ?_) (fun h29 => ?_) rfl
     ·have h30:=un3 h29
      replace H:=iff_ h30 H
      refine z0p rfl rfl h29 (z0h (.dat _) rfl) ?_
      refine z0p rfl rfl h29 (z0h (.dat _) rfl) ?_
      refine z0p rfl rfl h29 (z04 rfl rfl) ?_
      refine z0a (z0z rfl (bFF h30) rfl) ?_
      refine qd rfl ?_
      refine z09 (j:=7) rfl rfl (fun h31 => ?_) (fun h31 => ?_) rfl
      ·have h32:=un3 h31
       replace H:=iff_ h32 H
       refine z0p rfl rfl h31 (z0h (.dat _) rfl) ?_
       refine z0a (z0z rfl (bFF h32) rfl) ?_
       refine qd rfl ?_
       refine z09 (j:=10) rfl rfl (fun h33 => ?_) (fun h33 => ?_) rfl
       ·have h34:=un3 h33
        replace H:=iff_ h34 H
        refine z0p rfl rfl h33 (z0h (.dat _) rfl) ?_
        obtain ⟨r35,h36,H⟩:=bnd H
        refine z0p rfl rfl h33 (z0q (z5x r19 [] r35 h36) ⟨.inl rfl,.inl rfl,trivial⟩) ?_
        refine z0a (z0z rfl (bFF h34) rfl) ?_
        refine qd rfl ?_
        refine z09 (j:=14) rfl rfl (fun h37 => ?_) (fun h37 => ?_) rfl
        ·have h38:=un3 h37
         replace H:=iff_ h38 H
         refine z0p rfl rfl h37 (z0h (.dat _) rfl) ?_
         obtain ⟨r39,h40,H⟩:=bnd H
         refine w57 rfl rfl h37 (z1f (x5e (z0e.mk c6 c7 c8 c9 c10 c11 c12 c13) r19 r39 h40) rfl ⟨.inl rfl,trivial⟩ rfl) rfl ?_
         refine z0p rfl rfl h37 (z2j rfl) ?_
         refine z0a (z0z rfl (bFF h38) rfl) ?_
         exact ⟨(!r39.1,r39.2.Id,r39.2.Subject,r39.2.Issuer,r39.2.Parent,r39.2.Audience,r39.2.Scopes,r39.2.From,r39.2.To),H,⟨rfl,rfl,rfl,rfl,rfl,rfl,rfl,trivial⟩,⟨rfl,rfl,trivial⟩⟩
        ·have h41:=un4 h37
         replace H:=ift h41 H
         refine z0f rfl rfl h37 ?_
         refine z0f rfl rfl h37 ?_
         refine z0f rfl rfl h37 ?_
         refine z0a (z00 rfl (bTT h41) rfl) ?_
         exact ⟨(true,c6,c7,c8,c9,c10,c11,c12,c13),H,⟨rfl,rfl,rfl,rfl,rfl,rfl,rfl,trivial⟩,⟨rfl,rfl,trivial⟩⟩
       ·have h42:=un4 h33
        replace H:=ift h42 H
        refine z0f rfl rfl h33 ?_
        refine z0f rfl rfl h33 ?_
        refine z0a (z00 rfl (bTT h42) rfl) ?_
        refine qd rfl ?_
        refine z0f rfl rfl rfl ?_
        refine z0f rfl rfl rfl ?_
        refine z0f rfl rfl rfl ?_
        refine z0a (z00 rfl rfl rfl) ?_
        exact ⟨(true,c6,c7,c8,c9,c10,c11,c12,c13),H,⟨rfl,rfl,rfl,rfl,rfl,rfl,rfl,trivial⟩,⟨rfl,rfl,trivial⟩⟩
      ·have h43:=un4 h31
       replace H:=ift h43 H
       refine z0f rfl rfl h31 ?_
       refine z0a (z00 rfl (bTT h43) rfl) ?_
       refine qd rfl ?_
       refine z0f rfl rfl rfl ?_
       refine z0f rfl rfl rfl ?_
       refine z0a (z00 rfl rfl rfl) ?_
       refine qd rfl ?_
       refine z0f rfl rfl rfl ?_
       refine z0f rfl rfl rfl ?_
       refine z0f rfl rfl rfl ?_
       refine z0a (z00 rfl rfl rfl) ?_
       exact ⟨(true,c6,c7,c8,c9,c10,c11,c12,c13),H,⟨rfl,rfl,rfl,rfl,rfl,rfl,rfl,trivial⟩,⟨rfl,rfl,trivial⟩⟩
     ·have h44:=un4 h29
      replace H:=ift h44 H
      refine z0f rfl rfl h29 ?_
      refine z0f rfl rfl h29 ?_
      refine z0f rfl rfl h29 ?_
      refine z0a (z00 rfl (bTT h44) rfl) ?_
      refine qd rfl ?_
      refine z0f rfl rfl rfl ?_
      refine z0a (z00 rfl rfl rfl) ?_
      refine qd rfl ?_
      refine z0f rfl rfl rfl ?_
      refine z0f rfl rfl rfl ?_
      refine z0a (z00 rfl rfl rfl) ?_
      refine qd rfl ?_
      refine z0f rfl rfl rfl ?_
      refine z0f rfl rfl rfl ?_
      refine z0f rfl rfl rfl ?_
      refine z0a (z00 rfl rfl rfl) ?_
      exact ⟨(true,c6,c7,c8,c9,c10,c11,c12,c13),H,⟨rfl,rfl,rfl,rfl,rfl,rfl,rfl,trivial⟩,⟨rfl,rfl,trivial⟩⟩
    ·rintro ⟨v45,c46,c47,c48,c49,c50,c51,c52,c53⟩ H
     replace H:z2y v5 r17 r23 v45 c46 c47 c48 c49 c50 c51 c52 c53=some q14:=H
     unfold z2y at H
     refine z0g _ rfl (fun h54 => ?_) (fun h54 => ?_)
     ·replace H:=ift h54 H
      refine z0c ?_
      refine z0b hN rfl ?_
      refine z0a (y0b (u':=vagg (z0s (z0e.mk [] [] [] [] [] [] 0 0))) (y0l (by exact ⟨z02,z02,z02,z02,z2r,z2r,z02,z02,trivial⟩)) (z2f [] y0q y4b rfl trivial)) ?_
      refine qd rfl ?_
      refine z0j (z1b z28 rfl rfl rfl rfl) rfl ?_
      refine qe rfl ?_
      refine qe rfl ?_
      refine z0m ?_
      replace H:=retl H hq14
      cases H
      exact ⟨trivial,.inl ⟨_,_,_,z0s (z0e.mk [] [] [] [] [] [] 0 0),rfl,rfl,rfl,rfl,z28⟩,.inl rfl,.inl rfl,trivial⟩
     ·replace H:=iff_ h54 H
      refine z0l ?_
      refine z0b hN rfl ?_
      refine qd rfl ?_
      refine z0a (z1c _ rfl rfl (.inl ⟨rfl,rfl⟩)) ?_
      refine qd rfl ?_
      refine qe rfl ?_
      refine qe rfl ?_
      refine z0b hN rfl ?_
      refine qd rfl ?_
      refine z0a (z1c _ rfl rfl (.inl ⟨rfl,rfl⟩)) ?_
      refine qe rfl ?_
      exact ⟨_,z84 H,⟨rfl,rfl,rfl,rfl,rfl,rfl,trivial⟩,⟨rfl,rfl,trivial⟩⟩
  ·rintro ⟨c55,c56,c57,c58,c59,c60,c61,c62⟩ H
   replace H:z83 c55 c56 c57 c58 c59 c60 c61 c62=some r:=H
   unfold z83 at H
   refine z0c ?_
   refine z0c ?_
   refine z0b hN rfl ?_
   refine z0w (z6d z28 rfl rfl rfl) rfl ?_
   obtain ⟨r63,h64,H⟩:=bnd H
   refine z0a (z0q (y40 (z0e.mk c55 c56 c57 c58 c59 c60 c61 c62) r63 h64) ⟨.inl rfl,trivial⟩) ?_
   refine qe rfl ?_
   refine z0c ?_
   refine z0b hN rfl ?_
   refine qd rfl ?_
   refine z0a (z48 rfl rfl) ?_
   refine z0g _ rfl (fun h65 => ?_) (fun h65 => ?_)
   ·replace H:=ift h65 H
    refine z0c ?_
    refine z0b hN rfl ?_
    refine z0a (y0b (u':=vagg (z0s (z0e.mk [] [] [] [] [] [] 0 0))) (y0l (by exact ⟨z02,z02,z02,z02,z2r,z2r,z02,z02,trivial⟩)) (z2f [] y0q y4b rfl trivial)) ?_
    refine qd rfl ?_
    refine z0j (z1b z28 rfl rfl rfl rfl) rfl ?_
    refine qe rfl ?_
    refine qe rfl ?_
    refine z0m ?_
    cases H
    exact ⟨trivial,.inl ⟨_,_,_,z0s (z0e.mk [] [] [] [] [] [] 0 0),rfl,rfl,rfl,rfl,z28⟩,.inl rfl,.inl rfl,trivial⟩
   ·replace H:=iff_ h65 H
    refine z0l ?_
    refine z0c ?_
    refine z0b hN rfl ?_
    refine z0w (z6d z28 rfl rfl rfl) rfl ?_
    refine z0j (z1b z28 rfl rfl rfl rfl) rfl ?_
    refine qe rfl ?_
    refine qe rfl ?_
    refine z0m ?_
    cases H
    exact ⟨trivial,.inl ⟨_,_,_,z0s (z0e.mk c55 c56 c57 c58 c59 c60 c61 c62),rfl,rfl,rfl,rfl,z28⟩,.inl rfl,.inl rfl,trivial⟩
theorem x0o (v1:(List z0i)) (v2:Bs) (v3:Int) (r:(z0e×Int)) (H:y19 v1 v2 v3=some r):Fn Tryz.prog 61 [vlst (List.map z06 v1),vstr v2,vint v3] (z1r [vagg (z0s r.1),vint r.2]):=by
 refine ⟨by kernel_rfl,z1e (us:=[vagg (z0s r.1),vint r.2]) Tryz.func61 rfl rfl rfl rfl fun X hN => ?_⟩
 unfold y19 at H
 refine z0c ?_
 refine z0b hN rfl ?_
 refine z0j (z2s 1 y0q rfl) rfl ?_
 refine qe rfl ?_
 refine z0c ?_
 refine z0c ?_
 refine z0b hN rfl ?_
 refine qd rfl ?_
 obtain ⟨r4,h5,H⟩:=bnd H
 refine z0a (z0q (y7c v3 r4 h5) ⟨.inl rfl,trivial⟩) ?_
 refine z0a (z2j rfl) ?_
 refine z0g _ rfl (fun h6 => ?_) (fun h6 => ?_)
 ·replace H:=ift h6 H
  refine z0c ?_
  refine z0b hN rfl ?_
  refine z0a (y0b (u':=vagg (z0s (z0e.mk [] [] [] [] [] [] 0 0))) (y0l (by exact ⟨z02,z02,z02,z02,z2r,z2r,z02,z02,trivial⟩)) (z2f [] y0q y4b rfl trivial)) ?_
  refine z0j (z1b z28 rfl rfl rfl rfl) rfl ?_
  refine qe rfl ?_
  refine z0m ?_
  cases H
  exact ⟨trivial,.inl ⟨_,_,_,z0s (z0e.mk [] [] [] [] [] [] 0 0),rfl,rfl,rfl,rfl,z28⟩,.inl rfl,trivial⟩
 ·replace H:=iff_ h6 H
  refine z0l ?_
  refine z0c ?_
  refine z0b hN rfl ?_
  refine qd rfl ?_
  obtain ⟨r7,h8,H⟩:=bnd H
  refine z0a (z0q (y09 v2 [46] r7 h8) ⟨.inl rfl,.inl rfl,trivial⟩) ?_
  refine z0j (z2s 2 w8k rfl) rfl ?_
  refine z0j (z15 z85 rfl rfl rfl rfl) rfl ?_
  refine z0c ?_
  refine z03 (ι:=Bool) (fun i=>[(0,.dat (vlst (List.map z06 v1))),(2,.dat (vint v3)),(6,.ptr 1 0),(8,.ptr 2 0),(29,.dat (z05 i))]) (fun i=>[(1,.box none 39 [.dat (vstr []),.dat (vstr []),.dat (vstr []),.dat (vstr []),.dat (vnil),.dat (vnil),.dat (vint 0),.dat (vint 0)]),(2,.box none 37 [.dat (vlst (List.map z0n r7))])]) (fun i=>z64 v1 v3 r7 i=some r) (fun i=>rfl) ?_ ?_
  ·skip
   refine z0b hN rfl ?_
   refine z0w (z0o z85 rfl rfl) rfl ?_
   refine z0a (z6r z9p rfl) ?_
   refine z0a (z48 rfl rfl) ?_
   refine qd rfl ?_
   refine z09 (j:=3) rfl rfl (fun h9 => ?_) (fun h9 => ?_) rfl
   ·have h10:=un3 h9
    replace H:=iff_ h10 H
    refine z8z rfl rfl h9 (z0o z85 rfl rfl) rfl ?_
    obtain ⟨x11,h12,H⟩:=bnd H
    refine z0p rfl rfl h9 (y0r z9i (fun _=>rfl) rfl rfl h12) ?_
    refine z0p rfl rfl h9 (z0x tyS9 rfl (z2l h12) rfl) ?_
    obtain ⟨r13,h14,H⟩:=bnd H
    refine z0p rfl rfl h9 (z0q (z6q x11 r13 h14) ⟨.inl rfl,trivial⟩) ?_
    refine z0p rfl rfl h9 (z2j rfl) ?_
    refine z0a (z0z rfl (bFF h10) rfl) ?_
    exact ⟨!r13,H,⟨rfl,rfl,rfl,rfl,rfl,trivial⟩,⟨rfl,rfl,trivial⟩⟩
   ·have h15:=un4 h9
    replace H:=ift h15 H
    refine z0f rfl rfl h9 ?_
    refine z0f rfl rfl h9 ?_
    refine z0f rfl rfl h9 ?_
    refine z0f rfl rfl h9 ?_
    refine z0f rfl rfl h9 ?_
    refine z0a (z00 rfl (bTT h15) rfl) ?_
    exact ⟨true,H,⟨rfl,rfl,rfl,rfl,rfl,trivial⟩,⟨rfl,rfl,trivial⟩⟩
  ·rintro v16 H
   replace H:z64 v1 v3 r7 v16=some r:=H
   unfold z64 at H
   refine z0g _ rfl (fun h17 => ?_) (fun h17 => ?_)
   ·replace H:=ift h17 H
    refine z0c ?_
    refine z0b hN rfl ?_
    refine z0a (y0b (u':=vagg (z0s (z0e.mk [] [] [] [] [] [] 0 0))) (y0l (by exact ⟨z02,z02,z02,z02,z2r,z2r,z02,z02,trivial⟩)) (z2f [] y0q y4b rfl trivial)) ?_
    refine z0j (z1b z28 rfl rfl rfl rfl) rfl ?_
    refine qe rfl ?_
    refine z0m ?_
    cases H
    exact ⟨trivial,.inl ⟨_,_,_,z0s (z0e.mk [] [] [] [] [] [] 0 0),rfl,rfl,rfl,rfl,z28⟩,.inl rfl,trivial⟩
   ·replace H:=iff_ h17 H
    refine z0l ?_
    refine z0c ?_
    refine y3w 2 [vlst (List.map z0n r7)] rfl rfl ?_
    refine z0b hN rfl ?_
    refine qd rfl ?_
    refine z0a (y5c (us:=[_]) ⟨rfl,trivial⟩) ?_
    obtain ⟨r18,h19,H⟩:=bnd H
    refine z0a (z0q (z5e v1 (fun (a0:z0i)=>z9c a0 r7) 129 [y1q [[vlst (List.map z0n r7)]] 0 0] (fun a0 r h=>y9j a0 r7 r h) r18 h19) ⟨.inl rfl,.inl rfl,trivial⟩) ?_
    refine qe rfl ?_
    refine z0c ?_
    refine z0c ?_
    refine z0b hN rfl ?_
    refine qd rfl ?_
    refine z0a (z04 rfl rfl) ?_
    refine z0g _ rfl (fun h20 => ?_) (fun h20 => ?_)
    ·replace H:=ift h20 H
     refine z0c ?_
     refine z0b hN rfl ?_
     refine z0a (y0b (u':=vagg (z0s (z0e.mk [] [] [] [] [] [] 0 0))) (y0l (by exact ⟨z02,z02,z02,z02,z2r,z2r,z02,z02,trivial⟩)) (z2f [] y0q y4b rfl trivial)) ?_
     refine z0j (z1b z28 rfl rfl rfl rfl) rfl ?_
     refine qe rfl ?_
     refine z0m ?_
     cases H
     exact ⟨trivial,.inl ⟨_,_,_,z0s (z0e.mk [] [] [] [] [] [] 0 0),rfl,rfl,rfl,rfl,z28⟩,.inl rfl,trivial⟩
    ·replace H:=iff_ h20 H
     refine z0l ?_
     refine z0c ?_
     refine z0c ?_
     refine z4k mixed hN rfl rfl ?_
     refine qd rfl ?_
     refine qd rfl ?_
     obtain ⟨x21,h22,H⟩:=bnd H
     refine z0a (y25 y86 (fun _=>rfl) rfl rfl h22) ?_
     refine z0a (z4a y8h rfl) ?_
     refine z0a (z0x tyS9 rfl (z2l (z6x h22).2) rfl) ?_
     refine z0a (z0x z85 rfl rfl rfl) ?_
     obtain ⟨x23,h24,H⟩:=bnd H
     refine z0a (y0r z9i (fun _=>rfl) rfl rfl h24) ?_
     refine z0a (z0x tyS9 rfl (z2l h24) rfl) ?_
     obtain ⟨h25,H⟩:=gif H
     refine z0a (z26 rfl rfl (Nat.le_trans h25 (by decide))) ?_
     refine z0a (z0x z85 rfl rfl rfl) ?_
     obtain ⟨x26,h27,H⟩:=bnd H
     refine z0a (y0r z9i (fun _=>rfl) rfl rfl h27) ?_
     refine z0a (z0x tyS9 rfl (z2l h27) rfl) ?_
     obtain ⟨h28,H⟩:=gif H
     refine z0a (z26 rfl rfl (Nat.le_trans h28 (by decide))) ?_
     obtain ⟨r29,h30,H⟩:=bnd H
     refine z0a (z0q (y1e x21.Secret ((x23++[46])++x26) r29 h30) ⟨.inl rfl,.inl rfl,trivial⟩) ?_
     refine z0a (z0x z85 rfl rfl rfl) ?_
     obtain ⟨x31,h32,H⟩:=bnd H
     refine z0a (y0r z9i (fun _=>rfl) rfl rfl h32) ?_
     refine z0a (z0x tyS9 rfl (z2l h32) rfl) ?_
     refine z0a (z9j rfl rfl) ?_
     refine ⟨rfl,?_⟩
     refine z0g _ rfl (fun h33 => ?_) (fun h33 => ?_)
     ·replace H:=ift h33 H
      refine z0c ?_
      refine z0b hN rfl ?_
      refine z0a (y0b (u':=vagg (z0s (z0e.mk [] [] [] [] [] [] 0 0))) (y0l (by exact ⟨z02,z02,z02,z02,z2r,z2r,z02,z02,trivial⟩)) (z2f [] y0q y4b rfl trivial)) ?_
      refine z0j (z1b z28 rfl rfl rfl rfl) rfl ?_
      refine qe rfl ?_
      refine z0m ?_
      cases H
      exact ⟨trivial,.inl ⟨_,_,_,z0s (z0e.mk [] [] [] [] [] [] 0 0),rfl,rfl,rfl,rfl,z28⟩,.inl rfl,trivial⟩
     ·replace H:=iff_ h33 H
      refine z0l ?_
      refine z0c ?_
      refine z0b hN rfl ?_
      refine z0a (z0x z85 rfl rfl rfl) ?_
      refine z0a (y0r z9i (fun _=>rfl) rfl rfl h27) ?_
      refine z0a (z0x tyS9 rfl (z2l h27) rfl) ?_
      obtain ⟨r34,h35,H⟩:=bnd H
      refine z0a (z0q (y95 x26 r34 h35) ⟨.inl rfl,trivial⟩) ?_
      refine qd rfl ?_
      refine z0a (z10 rfl rfl) ?_
      refine z0a (z10 rfl rfl) ?_
      refine qe rfl ?_
      refine qe rfl ?_
      refine z0c ?_
      refine z0c ?_
      refine z0b hN rfl ?_
      refine qd rfl ?_
      refine z0a (z48 rfl rfl) ?_
      refine z0g _ rfl (fun h36 => ?_) (fun h36 => ?_)
      ·replace H:=ift h36 H
       refine z0c ?_
       refine z0b hN rfl ?_
       refine z0a (y0b (u':=vagg (z0s (z0e.mk [] [] [] [] [] [] 0 0))) (y0l (by exact ⟨z02,z02,z02,z02,z2r,z2r,z02,z02,trivial⟩)) (z2f [] y0q y4b rfl trivial)) ?_
       refine qd rfl ?_
       refine z0j (z1b z28 rfl rfl rfl rfl) rfl ?_
       refine qe rfl ?_
       refine z0m ?_
       cases H
       exact ⟨trivial,.inl ⟨_,_,_,z0s (z0e.mk [] [] [] [] [] [] 0 0),rfl,rfl,rfl,rfl,z28⟩,.inl rfl,trivial⟩
      ·replace H:=iff_ h36 H
       refine z0l ?_
       refine z0c ?_
       refine z0b hN rfl ?_
       refine qd rfl ?_
       obtain ⟨r37,h38,H⟩:=bnd H
       refine z0a (z0q (y8b r34.1 r37 h38) ⟨.inl rfl,trivial⟩) ?_
       refine qd rfl ?_
       refine z0a (z10 rfl rfl) ?_
       refine z0a (z10 rfl rfl) ?_
       refine z0a (z10 rfl rfl) ?_
       refine z0j (z2s 3 y0q rfl) rfl ?_
       refine z0j (z1b z28 rfl rfl rfl rfl) rfl ?_
       refine qe rfl ?_
       refine qe rfl ?_
       refine z03 (ι:=Int) (fun i=>[(6,.ptr 1 0),(11,.dat (vint i)),(12,.ptr 3 0)]) (fun i=>[(1,.box none 39 [.dat (vstr []),.dat (vstr []),.dat (vstr []),.dat (vstr []),.dat (vnil),.dat (vnil),.dat (vint 0),.dat (vint 0)]),(3,.box none 39 [.dat (vstr r37.1.Id),.dat (vstr r37.1.Subject),.dat (vstr r37.1.Issuer),.dat (vstr r37.1.Parent),.dat (vlst (List.map z0n r37.1.Audience)),.dat (vlst (List.map z0n r37.1.Scopes)),.dat (vint r37.1.From),.dat (vint r37.1.To)])]) (fun i=>z94 r37 i=some r) (fun i=>rfl) ?_ ?_
       ·skip
        refine z03 (ι:=Bool) (fun i=>[(6,.ptr 1 0),(11,.dat (vint r37.2.2)),(12,.ptr 3 0),(93,.dat (z05 i))]) (fun i=>[(1,.box none 39 [.dat (vstr []),.dat (vstr []),.dat (vstr []),.dat (vstr []),.dat (vnil),.dat (vnil),.dat (vint 0),.dat (vint 0)]),(3,.box none 39 [.dat (vstr r37.1.Id),.dat (vstr r37.1.Subject),.dat (vstr r37.1.Issuer),.dat (vstr r37.1.Parent),.dat (vlst (List.map z0n r37.1.Audience)),.dat (vlst (List.map z0n r37.1.Scopes)),.dat (vint r37.1.From),.dat (vint r37.1.To)])]) (fun i=>z8e r37 i=some r) (fun i=>rfl) ?_ ?_
        ·skip
         refine z0b hN rfl ?_
         refine qd rfl ?_
         refine z0a (z2z rfl rfl) ?_
         refine qd rfl ?_
         refine z09 (j:=2) rfl rfl (fun h39 => ?_) (fun h39 => ?_) rfl
         ·have h40:=un1 h39
          replace H:=ift h40 H
          refine z0p rfl rfl h39 (z0h (.dat _) rfl) ?_
          refine z0p rfl rfl h39 (z0h (.dat _) rfl) ?_
          refine z0p rfl rfl h39 (y25 y86 (fun _=>rfl) rfl rfl h22) ?_
          refine z0p rfl rfl h39 (z4a y5a rfl) ?_
          refine z0p rfl rfl h39 (z0x tyS3 rfl (z2l (z6x h22).2) rfl) ?_
          refine z0p rfl rfl h39 (z0h (.dat _) rfl) ?_
          refine z0p rfl rfl h39 (y0f rfl rfl) ?_
          refine z0p rfl rfl h39 (z0h (.dat _) rfl) ?_
          refine z09 (j:=10) rfl rfl (fun h41 => ?_) (fun h41 => ?_) rfl
          ·have h42:=un1 h41
           replace H:=ift h42 H
           refine z0p rfl rfl h41 (z0h (.dat _) rfl) ?_
           refine z0p rfl rfl h41 (z0h (.dat _) rfl) ?_
           refine z0p rfl rfl h41 (z0h (.dat _) rfl) ?_
           refine z0p rfl rfl h41 (y25 y86 (fun _=>rfl) rfl rfl h22) ?_
           refine z0p rfl rfl h41 (z4a y6j rfl) ?_
           refine z0p rfl rfl h41 (z0x tyS3 rfl (z2l (z6x h22).2) rfl) ?_
           refine z0p rfl rfl h41 (z04 rfl rfl) ?_
           refine z0p rfl rfl h39 (z00 rfl (bTT h42) rfl) ?_
           refine z0p rfl rfl h39 (z2j rfl) ?_
           refine z0a (z00 rfl (bTT h40) rfl) ?_
           exact ⟨!(decide (v3 < x21.Until)),H,⟨rfl,rfl,rfl,rfl,trivial⟩,⟨rfl,rfl,trivial⟩⟩
          ·have h43:=un2 h41
           replace H:=iff_ h43 H
           refine z0f rfl rfl h41 ?_
           refine z0f rfl rfl h41 ?_
           refine z0f rfl rfl h41 ?_
           refine z0f rfl rfl h41 ?_
           refine z0f rfl rfl h41 ?_
           refine z0f rfl rfl h41 ?_
           refine z0f rfl rfl h41 ?_
           refine z0p rfl rfl h39 (z0z rfl (bFF h43) rfl) ?_
           refine z0p rfl rfl h39 (z2j rfl) ?_
           refine z0a (z00 rfl (bTT h40) rfl) ?_
           exact ⟨!false,H,⟨rfl,rfl,rfl,rfl,trivial⟩,⟨rfl,rfl,trivial⟩⟩
         ·have h44:=un2 h39
          replace H:=iff_ h44 H
          refine z0f rfl rfl h39 ?_
          refine z0f rfl rfl h39 ?_
          refine z0f rfl rfl h39 ?_
          refine z0f rfl rfl h39 ?_
          refine z0f rfl rfl h39 ?_
          refine z0f rfl rfl h39 ?_
          refine z0f rfl rfl h39 ?_
          refine z0f rfl rfl h39 ?_
          refine z01 rfl rfl ?_
          refine z01 rfl rfl ?_
          refine z01 rfl rfl ?_
          refine z01 rfl rfl ?_
          refine z01 rfl rfl ?_
          refine z01 rfl rfl ?_
          refine z01 rfl rfl ?_
          refine z0f rfl rfl h39 ?_
          refine z0f rfl rfl h39 ?_
          refine z0a (z0z rfl (bFF h44) rfl) ?_
          exact ⟨false,H,⟨rfl,rfl,rfl,rfl,trivial⟩,⟨rfl,rfl,trivial⟩⟩
        ·rintro v45 H
         replace H:z8e r37 v45=some r:=H
         unfold z8e at H
         refine z0g _ rfl (fun h46 => ?_) (fun h46 => ?_)
         ·replace H:=ift h46 H
          refine z0b hN rfl ?_
          refine qe rfl ?_
          exact ⟨11,H,⟨rfl,rfl,rfl,trivial⟩,⟨rfl,rfl,trivial⟩⟩
         ·replace H:=iff_ h46 H
          refine z0l ?_
          exact ⟨r37.2.2,H,⟨rfl,rfl,rfl,trivial⟩,⟨rfl,rfl,trivial⟩⟩
       ·rintro v47 H
        replace H:z94 r37 v47=some r:=H
        unfold z94 at H
        refine z0c ?_
        refine z0c ?_
        refine z0b hN rfl ?_
        refine qd rfl ?_
        refine z0a (z48 rfl rfl) ?_
        refine z0g _ rfl (fun h48 => ?_) (fun h48 => ?_)
        ·replace H:=ift h48 H
         refine z0c ?_
         refine z0b hN rfl ?_
         refine z0a (y0b (u':=vagg (z0s (z0e.mk [] [] [] [] [] [] 0 0))) (y0l (by exact ⟨z02,z02,z02,z02,z2r,z2r,z02,z02,trivial⟩)) (z2f [] y0q y4b rfl trivial)) ?_
         refine qd rfl ?_
         refine z0j (z1b z28 rfl rfl rfl rfl) rfl ?_
         refine qe rfl ?_
         refine z0m ?_
         cases H
         exact ⟨trivial,.inl ⟨_,_,_,z0s (z0e.mk [] [] [] [] [] [] 0 0),rfl,rfl,rfl,rfl,z28⟩,.inl rfl,trivial⟩
        ·replace H:=iff_ h48 H
         refine z0l ?_
         refine z0c ?_
         refine z0b hN rfl ?_
         refine z0w (z6d z28 rfl rfl rfl) rfl ?_
         refine z0j (z1b z28 rfl rfl rfl rfl) rfl ?_
         refine qe rfl ?_
         refine z0m ?_
         cases H
         exact ⟨trivial,.inl ⟨_,_,_,z0s r37.1,rfl,rfl,rfl,rfl,z28⟩,.inl rfl,trivial⟩
theorem y8c (r1:z0u) (c2:z0e) (c3:Int) (r:(Bool)) (H:z9v r1 c2 c3=some r):Fn Tryz.prog 64 [vagg (z1l r1),y1q [[vstr c2.Id,vstr c2.Subject,vstr c2.Issuer,vstr c2.Parent,vlst (List.map z0n c2.Audience),vlst (List.map z0n c2.Scopes),vint c2.From,vint c2.To]] 0 0,y1q [[vint c3]] 0 0] (z1r [z05 r]):=by
 refine ⟨by kernel_rfl,z1e (us:=[z05 r]) Tryz.func64 rfl rfl rfl rfl fun X hN => ?_⟩
 unfold z9v at H
 refine z0c ?_
 refine z0b hN rfl ?_
 refine z0j (z9k 1 rfl) rfl ?_
 refine qe rfl ?_
 refine z0c ?_
 refine z0b hN rfl ?_
 refine z0a (z0r y6r rfl) ?_
 refine z0w (z0o tyS9 rfl rfl) rfl ?_
 refine z0a (z4a y7j rfl) ?_
 refine z0a (z0x tyS9 rfl rfl rfl) ?_
 refine z0a (z6c rfl rfl) ?_
 refine qd rfl ?_
 refine z2b rfl rfl (fun hc=>z0r y6r rfl) ?_
 refine y1s rfl rfl (fun hc=>z0o tyS9 (cnd (c:=(!(decide (r1.Id=c2.Id)))) hc) rfl) rfl y3x ?_
 refine z2b rfl rfl (fun hc=>z4a y5p rfl) ?_
 refine z2b rfl rfl (fun hc=>z0x tyS9 (cnd (c:=(!(decide (r1.Id=c2.Id)))) hc) rfl rfl) ?_
 refine z2b rfl rfl (fun hc=>z6c (cnd (c:=(!(decide (r1.Id=c2.Id)))) hc) (cnd (c:=(!(decide (r1.Id=c2.Id)))) hc)) ?_
 refine z0a (z2h rfl rfl (fun hb=>(cnd (c:=(!(decide (r1.Id=c2.Id)))) (notI hb)))) ?_
 refine qd rfl ?_
 refine z57 rfl rfl (fun hc=>z0r x4o rfl) ?_
 refine x44 rfl rfl (fun hc=>z0o tyS3 (cnd (c:=((decide (r1.Id=c2.Id)) || (decide (r1.Id=c2.Parent)))) hc) rfl) rfl y3x ?_
 refine z57 rfl rfl (fun hc=>z0x tyS3 rfl rfl rfl) ?_
 refine z57 rfl rfl (fun hc=>y0f (cnd (c:=((decide (r1.Id=c2.Id)) || (decide (r1.Id=c2.Parent)))) hc) (cnd (c:=((decide (r1.Id=c2.Id)) || (decide (r1.Id=c2.Parent)))) hc)) ?_
 refine z0a (z2c rfl (fun hb=>(cnd (c:=((decide (r1.Id=c2.Id)) || (decide (r1.Id=c2.Parent)))) hb)) rfl) ?_
 refine qe rfl ?_
 refine z0m ?_
 cases H
 exact ⟨trivial,.inl rfl,trivial⟩
theorem y9k (v1:z1t) (v2:Bs) (v3:Int) (r:(z0e×Int)) (H:y07 v1 v2 v3=some r):Fn Tryz.prog 16 [vagg (y1p v1),vstr v2,vint v3] (z1r [vagg (z0s r.1),vint r.2]):=by
 refine ⟨by kernel_rfl,z1e (us:=[vagg (z0s r.1),vint r.2]) Tryz.func16 rfl rfl rfl rfl fun X hN => ?_⟩
 unfold y07 at H
 refine z0c ?_
 refine z0b hN rfl ?_
 refine z0j (z9k 1 rfl) rfl ?_
 refine z0j (y8i 2 rfl rfl) rfl ?_
 refine z0j (z2s 3 y0q rfl) rfl ?_
 refine qe rfl ?_
 refine z0c ?_
 refine z0b hN rfl ?_
 refine z0a (z0r x1u rfl) ?_
 refine z0w (z0o x67 rfl rfl) rfl ?_
 refine qd rfl ?_
 refine z0w (z0o tyS3 rfl rfl) rfl ?_
 obtain ⟨r4,h5,H⟩:=bnd H
 refine z0a (z0q (x0o v1.Signers v2 v3 r4 h5) ⟨.inl rfl,.inl rfl,.inl rfl,trivial⟩) ?_
 refine qd rfl ?_
 refine z0a (z10 rfl rfl) ?_
 refine z0a (z10 rfl rfl) ?_
 refine z0j (z2s 4 y0q rfl) rfl ?_
 refine z0j (z1b z28 rfl rfl rfl rfl) rfl ?_
 refine qe rfl ?_
 refine z0c ?_
 refine z0c ?_
 refine z0b hN rfl ?_
 refine qd rfl ?_
 refine z0a (z48 rfl rfl) ?_
 refine z0g _ rfl (fun h6 => ?_) (fun h6 => ?_)
 ·replace H:=ift h6 H
  refine z0c ?_
  refine z0b hN rfl ?_
  refine z0a (y0b (u':=vagg (z0s (z0e.mk [] [] [] [] [] [] 0 0))) (y0l (by exact ⟨z02,z02,z02,z02,z2r,z2r,z02,z02,trivial⟩)) (z2f [] y0q y4b rfl trivial)) ?_
  refine qd rfl ?_
  refine z0j (z1b z28 rfl rfl rfl rfl) rfl ?_
  refine qe rfl ?_
  refine z0m ?_
  cases H
  exact ⟨trivial,.inl ⟨_,_,_,z0s (z0e.mk [] [] [] [] [] [] 0 0),rfl,rfl,rfl,rfl,z28⟩,.inl rfl,trivial⟩
 ·replace H:=iff_ h6 H
  refine z0l ?_
  refine z0c ?_
  refine z0v ?_
  refine z03 (ι:=Bool) (fun i=>[(3,.ptr 1 0),(5,.ptr 2 0),(6,.ptr 3 0),(8,.ptr 4 0),(22,.dat (z05 i))]) (fun i=>[(1,.box none 30 [.dat (vstr v1.Issuer),.dat (vstr v1.Audience),.dat (vlst (List.map z06 v1.Signers)),.dat (vlst (List.map z1l v1.Revoked)),.dat (vlst (List.map z1w v1.Holders)),.dat (vint v1.Skew)]),(2,.box none 3 [.dat (vint v3)]),(3,.box none 39 [.dat (vstr []),.dat (vstr []),.dat (vstr []),.dat (vstr []),.dat (vnil),.dat (vnil),.dat (vint 0),.dat (vint 0)]),(4,.box none 39 [.dat (vstr r4.1.Id),.dat (vstr r4.1.Subject),.dat (vstr r4.1.Issuer),.dat (vstr r4.1.Parent),.dat (vlst (List.map z0n r4.1.Audience)),.dat (vlst (List.map z0n r4.1.Scopes)),.dat (vint r4.1.From),.dat (vint r4.1.To)])]) (fun i=>z58 v1 v3 r4 i=some r) (fun i=>rfl) ?_ ?_
  ·skip
   refine z0b hN rfl ?_
   refine z0a (z0r y7i rfl) ?_
   refine z0w (z0o tyS9 rfl rfl) rfl ?_
   refine z0a (z0r x1w rfl) ?_
   refine z0w (z0o tyS9 rfl rfl) rfl ?_
   refine z0a (z9j rfl rfl) ?_
   refine qd rfl ?_
   refine z09 (j:=5) rfl rfl (fun h7 => ?_) (fun h7 => ?_) rfl
   ·have h8:=un3 h7
    replace H:=iff_ h8 H
    refine z0p rfl rfl h7 (z0r y4c rfl) ?_
    refine z8z rfl rfl h7 (z0o z85 rfl rfl) rfl ?_
    refine z0p rfl rfl h7 (z6r z9p rfl) ?_
    refine z0p rfl rfl h7 (z2m rfl rfl) ?_
    refine z0p rfl rfl h7 (z0h (.dat _) rfl) ?_
    refine z09 (j:=10) rfl rfl (fun h9 => ?_) (fun h9 => ?_) rfl
    ·have h10:=un1 h9
     replace H:=ift h10 H
     refine z0p rfl rfl h9 (z0r y4c rfl) ?_
     refine z8z rfl rfl h9 (z0o z85 rfl rfl) rfl ?_
     refine z0p rfl rfl h9 (z0r x1v rfl) ?_
     refine z8z rfl rfl h9 (z0o tyS9 rfl rfl) rfl ?_
     obtain ⟨r11,h12,H⟩:=bnd H
     refine z0p rfl rfl h9 (z0q (z5x r4.1.Audience v1.Audience r11 h12) ⟨.inl rfl,.inl rfl,trivial⟩) ?_
     refine z0p rfl rfl h9 (z2j rfl) ?_
     refine z0p rfl rfl h7 (z00 rfl (bTT h10) rfl) ?_
     refine z0a (z0z rfl (bFF h8) rfl) ?_
     refine qe rfl ?_
     exact ⟨!r11,H,⟨rfl,rfl,rfl,rfl,rfl,trivial⟩,⟨rfl,rfl,rfl,rfl,trivial⟩⟩
    ·have h13:=un2 h9
     replace H:=iff_ h13 H
     refine z0f rfl rfl h9 ?_
     refine z0f rfl rfl h9 ?_
     refine z0f rfl rfl h9 ?_
     refine z0f rfl rfl h9 ?_
     refine z0f rfl rfl h9 ?_
     refine z0f rfl rfl h9 ?_
     refine z0p rfl rfl h7 (z0z rfl (bFF h13) rfl) ?_
     refine z0a (z0z rfl (bFF h8) rfl) ?_
     refine qe rfl ?_
     exact ⟨false,H,⟨rfl,rfl,rfl,rfl,rfl,trivial⟩,⟨rfl,rfl,rfl,rfl,trivial⟩⟩
   ·have h14:=un4 h7
    replace H:=ift h14 H
    refine z0f rfl rfl h7 ?_
    refine z0f rfl rfl h7 ?_
    refine z0f rfl rfl h7 ?_
    refine z0f rfl rfl h7 ?_
    refine z0f rfl rfl h7 ?_
    refine z01 rfl rfl ?_
    refine z01 rfl rfl ?_
    refine z01 rfl rfl ?_
    refine z01 rfl rfl ?_
    refine z01 rfl rfl ?_
    refine z01 rfl rfl ?_
    refine z0f rfl rfl h7 ?_
    refine z0a (z00 rfl (bTT h14) rfl) ?_
    refine qe rfl ?_
    exact ⟨true,H,⟨rfl,rfl,rfl,rfl,rfl,trivial⟩,⟨rfl,rfl,rfl,rfl,trivial⟩⟩
  ·rintro v15 H
   replace H:z58 v1 v3 r4 v15=some r:=H
   unfold z58 at H
   refine z0g _ rfl (fun h16 => ?_) (fun h16 => ?_)
   ·replace H:=ift h16 H
    refine z0c ?_
    refine z0b hN rfl ?_
    refine z0a (y0b (u':=vagg (z0s (z0e.mk [] [] [] [] [] [] 0 0))) (y0l (by exact ⟨z02,z02,z02,z02,z2r,z2r,z02,z02,trivial⟩)) (z2f [] y0q y4b rfl trivial)) ?_
    refine z0j (z1b z28 rfl rfl rfl rfl) rfl ?_
    refine qe rfl ?_
    refine z0m ?_
    cases H
    exact ⟨trivial,.inl ⟨_,_,_,z0s (z0e.mk [] [] [] [] [] [] 0 0),rfl,rfl,rfl,rfl,z28⟩,.inl rfl,trivial⟩
   ·replace H:=iff_ h16 H
    refine z0c ?_
    refine z0b hN rfl ?_
    refine z0w (z0o tyS3 rfl rfl) rfl ?_
    refine z0a (z0r y5n rfl) ?_
    refine z0w (z0o tyS3 rfl rfl) rfl ?_
    refine z0a (z0r y85 rfl) ?_
    refine z0w (z0o tyS3 rfl rfl) rfl ?_
    refine z0a (z1c _ rfl rfl (.inr (.inl ⟨rfl,rfl⟩))) ?_
    refine z0a (z04 rfl rfl) ?_
    refine qd rfl ?_
    refine y1s rfl rfl (fun hc=>z0o tyS3 rfl rfl) rfl y3x ?_
    refine z2b rfl rfl (fun hc=>z0r y41 rfl) ?_
    refine y1s rfl rfl (fun hc=>z0o tyS3 (cnd (c:=(!(decide (v3 < (wr (r4.1.From - v1.Skew)))))) hc) rfl) rfl y3x ?_
    refine z2b rfl rfl (fun hc=>z0r y85 rfl) ?_
    refine y1s rfl rfl (fun hc=>z0o tyS3 (cnd (c:=(!(decide (v3 < (wr (r4.1.From - v1.Skew)))))) hc) rfl) rfl y3x ?_
    refine z2b rfl rfl (fun hc=>z1c _ (cnd (c:=(!(decide (v3 < (wr (r4.1.From - v1.Skew)))))) hc) (cnd (c:=(!(decide (v3 < (wr (r4.1.From - v1.Skew)))))) hc) (.inl ⟨rfl,rfl⟩)) ?_
    refine z2b rfl rfl (fun hc=>z87 (cnd (c:=(!(decide (v3 < (wr (r4.1.From - v1.Skew)))))) hc) (cnd (c:=(!(decide (v3 < (wr (r4.1.From - v1.Skew)))))) hc)) ?_
    refine z0a (z2h rfl rfl (fun hb=>(cnd (c:=(!(decide (v3 < (wr (r4.1.From - v1.Skew)))))) (notI hb)))) ?_
    refine qe rfl ?_
    refine z0g _ rfl (fun h17 => ?_) (fun h17 => ?_)
    ·replace H:=ift h17 H
     refine z0c ?_
     refine z0b hN rfl ?_
     refine z0a (y0b (u':=vagg (z0s (z0e.mk [] [] [] [] [] [] 0 0))) (y0l (by exact ⟨z02,z02,z02,z02,z2r,z2r,z02,z02,trivial⟩)) (z2f [] y0q y4b rfl trivial)) ?_
     refine z0j (z1b z28 rfl rfl rfl rfl) rfl ?_
     refine qe rfl ?_
     refine z0m ?_
     cases H
     exact ⟨trivial,.inl ⟨_,_,_,z0s (z0e.mk [] [] [] [] [] [] 0 0),rfl,rfl,rfl,rfl,z28⟩,.inl rfl,trivial⟩
    ·replace H:=iff_ h17 H
     refine z0c ?_
     refine y3w 4 [vstr r4.1.Id,vstr r4.1.Subject,vstr r4.1.Issuer,vstr r4.1.Parent,vlst (List.map z0n r4.1.Audience),vlst (List.map z0n r4.1.Scopes),vint r4.1.From,vint r4.1.To] rfl rfl ?_
     refine y3w 2 [vint v3] rfl rfl ?_
     refine z0b hN rfl ?_
     refine z0a (z0r x4q rfl) ?_
     refine z0w (z0o w36 rfl rfl) rfl ?_
     refine z0a (y5c (us:=[_,_]) ⟨rfl,rfl,trivial⟩) ?_
     obtain ⟨r18,h19,H⟩:=bnd H
     refine z0a (z0q (z62 v1.Revoked (fun (a0:z0u)=>z9v a0 r4.1 v3) 64 [y1q [[vstr r4.1.Id,vstr r4.1.Subject,vstr r4.1.Issuer,vstr r4.1.Parent,vlst (List.map z0n r4.1.Audience),vlst (List.map z0n r4.1.Scopes),vint r4.1.From,vint r4.1.To]] 0 0,y1q [[vint v3]] 0 0] (fun a0 r h=>y8c a0 r4.1 v3 r h) r18 h19) ⟨.inl rfl,.inl rfl,trivial⟩) ?_
     refine qe rfl ?_
     refine z0g _ rfl (fun h20 => ?_) (fun h20 => ?_)
     ·replace H:=ift h20 H
      refine z0c ?_
      refine z0b hN rfl ?_
      refine z0a (y0b (u':=vagg (z0s (z0e.mk [] [] [] [] [] [] 0 0))) (y0l (by exact ⟨z02,z02,z02,z02,z2r,z2r,z02,z02,trivial⟩)) (z2f [] y0q y4b rfl trivial)) ?_
      refine z0j (z1b z28 rfl rfl rfl rfl) rfl ?_
      refine qe rfl ?_
      refine z0m ?_
      cases H
      exact ⟨trivial,.inl ⟨_,_,_,z0s (z0e.mk [] [] [] [] [] [] 0 0),rfl,rfl,rfl,rfl,z28⟩,.inl rfl,trivial⟩
     ·replace H:=iff_ h20 H
      refine z0l ?_
      refine z0c ?_
      refine z0b hN rfl ?_
      refine z0a (y15 z28 rfl rfl rfl) ?_
      refine z0j (z1b z28 rfl rfl rfl rfl) rfl ?_
      refine qe rfl ?_
      refine z0m ?_
      cases H
      exact ⟨trivial,.inl ⟨_,_,_,z0s r4.1,rfl,rfl,rfl,rfl,z28⟩,.inl rfl,trivial⟩
theorem y8a (a1:z0e) (b2:z0e) (r:(Bool)) (H:z7s a1 b2=some r):Fn Tryz.prog 17 [vagg (z0s a1),vagg (z0s b2)] (z1r [z05 r]):=by
 refine ⟨by kernel_rfl,z1e (us:=[z05 r]) Tryz.func17 rfl rfl rfl rfl fun X hN => ?_⟩
 unfold z7s at H
 refine z0c ?_
 refine z0b hN rfl ?_
 refine z0j (z9k 1 rfl) rfl ?_
 refine z0j (z9k 2 rfl) rfl ?_
 refine qe rfl ?_
 refine z03 (ι:=Bool) (fun i=>[(4,.dat (z05 i))]) (fun i=>[]) (fun i=>z3h i=some r) (fun i=>rfl) ?_ ?_
 ·skip
  refine z0b hN rfl ?_
  refine z0a (z0r y7j rfl) ?_
  refine z0w (z0o tyS9 rfl rfl) rfl ?_
  refine z0a (z0r y84 rfl) ?_
  refine z0w (z0o tyS9 rfl rfl) rfl ?_
  refine z0a (z0r y7i rfl) ?_
  refine z0w (z0o tyS9 rfl rfl) rfl ?_
  refine z0a (z0r y5p rfl) ?_
  refine z0w (z0o tyS9 rfl rfl) rfl ?_
  refine z0a (z1a (u':=vagg [vstr a1.Id,vstr a1.Subject,vstr a1.Issuer,vstr a1.Parent]) (x3u [(0,[vstr a1.Id]),(1,[vstr a1.Subject]),(2,[vstr a1.Issuer]),(3,[vstr a1.Parent])] w8j (show tyA Tryz.prog 98=some (4,9,.string) from by kernel_rfl) rfl ⟨rfl,.inl ⟨_,rfl,rfl,rfl⟩,rfl,rfl,.inl ⟨_,rfl,rfl,rfl⟩,rfl,rfl,.inl ⟨_,rfl,rfl,rfl⟩,rfl,rfl,.inl ⟨_,rfl,rfl,rfl⟩,rfl,trivial⟩) rfl) ?_
  refine z0a (z0r y7j rfl) ?_
  refine z0w (z0o tyS9 rfl rfl) rfl ?_
  refine z0a (z0r y84 rfl) ?_
  refine z0w (z0o tyS9 rfl rfl) rfl ?_
  refine z0a (z0r y7i rfl) ?_
  refine z0w (z0o tyS9 rfl rfl) rfl ?_
  refine z0a (z0r y5p rfl) ?_
  refine z0w (z0o tyS9 rfl rfl) rfl ?_
  refine z0a (z1a (u':=vagg [vstr b2.Id,vstr b2.Subject,vstr b2.Issuer,vstr b2.Parent]) (x3u [(0,[vstr b2.Id]),(1,[vstr b2.Subject]),(2,[vstr b2.Issuer]),(3,[vstr b2.Parent])] w8j (show tyA Tryz.prog 98=some (4,9,.string) from by kernel_rfl) rfl ⟨rfl,.inl ⟨_,rfl,rfl,rfl⟩,rfl,rfl,.inl ⟨_,rfl,rfl,rfl⟩,rfl,rfl,.inl ⟨_,rfl,rfl,rfl⟩,rfl,rfl,.inl ⟨_,rfl,rfl,rfl⟩,rfl,trivial⟩) rfl) ?_
  refine z0a (w1a [_,_,_,_] [_,_,_,_] (show tyA Tryz.prog 98=some (4,9,.string) from by kernel_rfl) rfl rfl rfl rfl) ?_
  refine qd rfl ?_
  refine z09 (j:=19) rfl rfl (fun h3 => ?_) (fun h3 => ?_) rfl
  ·have h4:=un1 h3
   replace H:=ift h4 H
   refine z0p rfl rfl h3 (z0r y4c rfl) ?_
   refine z8z rfl rfl h3 (z0o z85 rfl rfl) rfl ?_
   refine z0p rfl rfl h3 (z0r y4c rfl) ?_
   refine z8z rfl rfl h3 (z0o z85 rfl rfl) rfl ?_
   obtain ⟨r5,h6,H⟩:=bnd H
   refine z0p rfl rfl h3 (z0q (z6u a1.Audience b2.Audience r5 h6) ⟨.inl rfl,.inl rfl,trivial⟩) ?_
   refine z0a (z00 rfl (bTT h4) rfl) ?_
   refine qd rfl ?_
   refine z09 (j:=26) rfl rfl (fun h7 => ?_) (fun h7 => ?_) rfl
   ·have h8:=un1 h7
    replace H:=ift h8 H
    refine z0p rfl rfl h7 (z0r y5o rfl) ?_
    refine z8z rfl rfl h7 (z0o z85 rfl rfl) rfl ?_
    refine z0p rfl rfl h7 (z0r y5o rfl) ?_
    refine z8z rfl rfl h7 (z0o z85 rfl rfl) rfl ?_
    obtain ⟨r9,h10,H⟩:=bnd H
    refine z0p rfl rfl h7 (z0q (z6u a1.Scopes b2.Scopes r9 h10) ⟨.inl rfl,.inl rfl,trivial⟩) ?_
    refine z0a (z00 rfl (bTT h8) rfl) ?_
    refine qd rfl ?_
    refine z09 (j:=33) rfl rfl (fun h11 => ?_) (fun h11 => ?_) rfl
    ·have h12:=un1 h11
     replace H:=ift h12 H
     refine z0p rfl rfl h11 (z0r y5n rfl) ?_
     refine z8z rfl rfl h11 (z0o tyS3 rfl rfl) rfl ?_
     refine z0p rfl rfl h11 (z0r y5n rfl) ?_
     refine z8z rfl rfl h11 (z0o tyS3 rfl rfl) rfl ?_
     refine z0p rfl rfl h11 (z2z rfl rfl) ?_
     refine z0a (z00 rfl (bTT h12) rfl) ?_
     refine qd rfl ?_
     refine z09 (j:=40) rfl rfl (fun h13 => ?_) (fun h13 => ?_) rfl
     ·have h14:=un1 h13
      replace H:=ift h14 H
      refine z0p rfl rfl h13 (z0r y41 rfl) ?_
      refine z8z rfl rfl h13 (z0o tyS3 rfl rfl) rfl ?_
      refine z0p rfl rfl h13 (z0r y41 rfl) ?_
      refine z8z rfl rfl h13 (z0o tyS3 rfl rfl) rfl ?_
      refine z0p rfl rfl h13 (z2z rfl rfl) ?_
      refine z0a (z00 rfl (bTT h14) rfl) ?_
      refine qe rfl ?_
      exact ⟨decide (a1.To=b2.To),H,⟨rfl,trivial⟩,trivial⟩
     ·have h15:=un2 h13
      replace H:=iff_ h15 H
      refine z0f rfl rfl h13 ?_
      refine z0f rfl rfl h13 ?_
      refine z0f rfl rfl h13 ?_
      refine z0f rfl rfl h13 ?_
      refine z0f rfl rfl h13 ?_
      refine z0a (z0z rfl (bFF h15) rfl) ?_
      refine qe rfl ?_
      exact ⟨false,H,⟨rfl,trivial⟩,trivial⟩
    ·have h16:=un2 h11
     replace H:=iff_ h16 H
     refine z0f rfl rfl h11 ?_
     refine z0f rfl rfl h11 ?_
     refine z0f rfl rfl h11 ?_
     refine z0f rfl rfl h11 ?_
     refine z0f rfl rfl h11 ?_
     refine z0a (z0z rfl (bFF h16) rfl) ?_
     refine qd rfl ?_
     refine z0f rfl rfl rfl ?_
     refine z0f rfl rfl rfl ?_
     refine z0f rfl rfl rfl ?_
     refine z0f rfl rfl rfl ?_
     refine z0f rfl rfl rfl ?_
     refine z0a (z0z rfl rfl rfl) ?_
     refine qe rfl ?_
     exact ⟨false,H,⟨rfl,trivial⟩,trivial⟩
   ·have h17:=un2 h7
    replace H:=iff_ h17 H
    refine z0f rfl rfl h7 ?_
    refine z0f rfl rfl h7 ?_
    refine z0f rfl rfl h7 ?_
    refine z0f rfl rfl h7 ?_
    refine z0f rfl rfl h7 ?_
    refine z0a (z0z rfl (bFF h17) rfl) ?_
    refine qd rfl ?_
    refine z0f rfl rfl rfl ?_
    refine z0f rfl rfl rfl ?_
    refine z0f rfl rfl rfl ?_
    refine z0f rfl rfl rfl ?_
    refine z0f rfl rfl rfl ?_
    refine z0a (z0z rfl rfl rfl) ?_
    refine qd rfl ?_
    refine z0f rfl rfl rfl ?_
    refine z0f rfl rfl rfl ?_
    refine z0f rfl rfl rfl ?_
    refine z0f rfl rfl rfl ?_
    refine z0f rfl rfl rfl ?_
    refine z0a (z0z rfl rfl rfl) ?_
    refine qe rfl ?_
    exact ⟨false,H,⟨rfl,trivial⟩,trivial⟩
  ·have h18:=un2 h3
   replace H:=iff_ h18 H
   refine z0f rfl rfl h3 ?_
   refine z0f rfl rfl h3 ?_
   refine z0f rfl rfl h3 ?_
   refine z0f rfl rfl h3 ?_
   refine z0f rfl rfl h3 ?_
   refine z0a (z0z rfl (bFF h18) rfl) ?_
   refine qd rfl ?_
   refine z0f rfl rfl rfl ?_
   refine z0f rfl rfl rfl ?_
   refine z0f rfl rfl rfl ?_
   refine z0f rfl rfl rfl ?_
   refine z0f rfl rfl rfl ?_
   refine z0a (z0z rfl rfl rfl) ?_
   refine qd rfl ?_
   refine z0f rfl rfl rfl ?_
   refine z0f rfl rfl rfl ?_
   refine z0f rfl rfl rfl ?_
   refine z0f rfl rfl rfl ?_
   refine z0f rfl rfl rfl ?_
   refine z0a (z0z rfl rfl rfl) ?_
   refine qd rfl ?_
   refine z0f rfl rfl rfl ?_
   refine z0f rfl rfl rfl ?_
   refine z0f rfl rfl rfl ?_
   refine z0f rfl rfl rfl ?_
   refine z0f rfl rfl rfl ?_
   refine z0a (z0z rfl rfl rfl) ?_
   refine qe rfl ?_
   exact ⟨false,H,⟨rfl,trivial⟩,trivial⟩
 ·rintro v19 H
  replace H:z3h v19=some r:=H
  unfold z3h at H
  refine z0m ?_
  cases H
  exact ⟨trivial,.inl rfl,trivial⟩
theorem x0p  (r:(Bool)) (H:y2b  = some r):Fn Tryz.prog 18 [] (z1r [z05 r]):=by
 refine ⟨by kernel_rfl,z1e (us:=[z05 r]) Tryz.func18 rfl rfl rfl rfl fun X hN => ?_⟩
 unfold y2b at H
 refine z0c ?_
 refine z0b hN rfl ?_
 refine qe rfl ?_
 refine z0c ?_
 refine z0b hN rfl ?_
 obtain ⟨r1,h2,H⟩:=bnd H
 refine z0a (z0q (y8z [97,98] r1 h2) ⟨.inl rfl,trivial⟩) ?_
 refine z0a (z6c rfl rfl) ?_
 refine qe rfl ?_
 refine z0m ?_
 cases H
 exact ⟨trivial,.inl rfl,trivial⟩
theorem y61 (v1:(List Int)) (r:(Bool)) (H:z9n v1=some r):Fn Tryz.prog 3 [vlst (List.map y2j v1)] (z1r [z05 r]):=by
 refine ⟨by kernel_rfl,z1e (us:=[z05 r]) Tryz.func3 rfl rfl rfl rfl fun X hN => ?_⟩
 unfold z9n at H
 refine z0c ?_
 refine z0b hN rfl ?_
 refine qe rfl ?_
 refine z0c ?_
 refine z0b hN rfl ?_
 refine qd rfl ?_
 refine z0a (z1a (u':=vagg (z0t (z0d.mk v1 0))) (z2f [(0,[vlst (List.map y2j v1)])] w97 v0b rfl ⟨rfl,.inl ⟨_,rfl,rfl,rfl⟩,rfl,trivial⟩) rfl) ?_
 refine z0j (z9k 1 rfl) rfl ?_
 refine z0a (z13 (.ptr _ _) rfl) ?_
 refine z0c ?_
 refine z0b hN rfl ?_
 refine z0a (z0h (.ptr _ _) rfl) ?_
 obtain ⟨r2,h3,H⟩:=bnd H
 refine z0j (z1f (y7h (z0d.mk v1 0) r2 h3) rfl trivial rfl) rfl ?_
 refine z0a (z0h (.ptr _ _) rfl) ?_
 obtain ⟨r4,h5,H⟩:=bnd H
 refine z0j (z1f (y7g r2.2 r4 h5) rfl trivial rfl) rfl ?_
 refine z0j (z2s 2 w30 rfl) rfl ?_
 refine z0j (z1b x1t rfl rfl rfl rfl) rfl ?_
 refine qe rfl ?_
 refine z0c ?_
 refine z0b hN rfl ?_
 refine z0w (z6d x1t rfl rfl rfl) rfl ?_
 obtain ⟨r6,h7,H⟩:=bnd H
 refine z0a (z0q (y70 r2.1 r6 h7) ⟨.inl rfl,trivial⟩) ?_
 refine qe rfl ?_
 refine z0c ?_
 refine z03 (ι:=Bool) (fun i=>[(3,.ptr 1 0),(4,.ptr 2 0),(5,.dat (vint r4.1)),(6,.dat (vint r6)),(32,.dat (z05 i))]) (fun i=>[(1,.box none 25 [.dat (vlst (List.map y2j r4.2.L)),.dat (vint r4.2.at_)]),(2,.box none 30 [.dat (vstr r2.1.Issuer),.dat (vstr r2.1.Audience),.dat (vlst (List.map z06 r2.1.Signers)),.dat (vlst (List.map z1l r2.1.Revoked)),.dat (vlst (List.map z1w r2.1.Holders)),.dat (vint r2.1.Skew)])]) (fun i=>z47 r2 r4 r6 i=some r) (fun i=>rfl) ?_ ?_
 ·skip
  refine z4k mixed hN rfl rfl ?_
  refine z0a (z0r x4p rfl) ?_
  refine z0w (z0o w35 rfl rfl) rfl ?_
  obtain ⟨r8,h9,H⟩:=bnd H
  refine z0a (z0q (y5w r2.1.Holders r8 h9) ⟨.inl rfl,trivial⟩) ?_
  refine z0a (z0r x4p rfl) ?_
  refine z0w (z0o w35 rfl rfl) rfl ?_
  obtain ⟨r10,h11,H⟩:=bnd H
  refine z0a (z0q (y4u r2.1.Holders r10 h11) ⟨.inl rfl,trivial⟩) ?_
  refine z0a (z48 rfl rfl) ?_
  refine qd rfl ?_
  refine z09 (j:=7) rfl rfl (fun h12 => ?_) (fun h12 => ?_) rfl
  ·have h13:=un3 h12
   replace H:=iff_ h13 H
   refine z8z rfl rfl h12 (z6d x1t rfl rfl rfl) rfl ?_
   obtain ⟨r14,h15,H⟩:=bnd H
   refine z0p rfl rfl h12 (z0q (y6c r2.1 r14 h15) ⟨.inl rfl,trivial⟩) ?_
   refine z0p rfl rfl h12 (z0h (.dat _) rfl) ?_
   refine z0p rfl rfl h12 (z48 rfl rfl) ?_
   refine z0a (z0z rfl (bFF h13) rfl) ?_
   refine ⟨rfl,?_⟩
   exact ⟨decide (r14≠r6),H,⟨rfl,rfl,rfl,rfl,rfl,trivial⟩,⟨rfl,rfl,trivial⟩⟩
  ·have h16:=un4 h12
   replace H:=ift h16 H
   refine z0f rfl rfl h12 ?_
   refine z0f rfl rfl h12 ?_
   refine z0f rfl rfl h12 ?_
   refine z0f rfl rfl h12 ?_
   refine z0a (z00 rfl (bTT h16) rfl) ?_
   refine ⟨rfl,?_⟩
   exact ⟨true,H,⟨rfl,rfl,rfl,rfl,rfl,trivial⟩,⟨rfl,rfl,trivial⟩⟩
 ·rintro v17 H
  replace H:z47 r2 r4 r6 v17=some r:=H
  unfold z47 at H
  refine z0g _ rfl (fun h18 => ?_) (fun h18 => ?_)
  ·replace H:=ift h18 H
   refine z0c ?_
   refine z0b hN rfl ?_
   refine qe rfl ?_
   refine z0m ?_
   cases H
   exact ⟨trivial,.inl rfl,trivial⟩
  ·replace H:=iff_ h18 H
   refine z0l ?_
   refine z0c ?_
   refine z0b hN rfl ?_
   refine qe rfl ?_
   refine z03 (ι:=Bs) (fun i=>[(4,.ptr 2 0),(5,.dat (vint r4.1)),(6,.dat (vint r6)),(7,.dat (vstr i))]) (fun i=>[(2,.box none 30 [.dat (vstr r2.1.Issuer),.dat (vstr r2.1.Audience),.dat (vlst (List.map z06 r2.1.Signers)),.dat (vlst (List.map z1l r2.1.Revoked)),.dat (vlst (List.map z1w r2.1.Holders)),.dat (vint r2.1.Skew)])]) (fun i=>z3z r2 r4 r6 i=some r) (fun i=>rfl) ?_ ?_
   ·skip
    refine z0c ?_
    refine z0b hN rfl ?_
    refine qd rfl ?_
    refine z0a (z2z rfl rfl) ?_
    refine z0g _ rfl (fun h19 => ?_) (fun h19 => ?_)
    ·replace H:=ift h19 H
     refine z4k mixed hN rfl rfl ?_
     refine z0a (z0h (.ptr _ _) rfl) ?_
     refine z0a (z0r x1u rfl) ?_
     refine z0w (z0o x67 rfl rfl) rfl ?_
     refine z0a (z0h (.ptr _ _) rfl) ?_
     obtain ⟨r20,h21,H⟩:=bnd H
     refine z0j (z1f (y20 r4.2 r20 h21) rfl trivial rfl) rfl ?_
     refine z0a (z0h (.ptr _ _) rfl) ?_
     refine z0a (z1a (u':=vlst (List.map y2j [10,60,100])) (z14 [[_],[_],[_]] y9p ⟨rfl,.inl ⟨_,rfl,rfl,rfl⟩,rfl,rfl,.inl ⟨_,rfl,rfl,rfl⟩,rfl,rfl,.inl ⟨_,rfl,rfl,rfl⟩,rfl,trivial⟩ rfl rfl) rfl) ?_
     obtain ⟨r22,h23,H⟩:=bnd H
     refine z0j (z1f (z1y r20.2 [10,60,100] r22 h23) rfl ⟨.inl rfl,trivial⟩ rfl) rfl ?_
     obtain ⟨r24,h25,H⟩:=bnd H
     refine z0j (z1f (y5s r22.2 r2.1.Signers r20.1 r22.1 r24 h25) rfl ⟨.inl rfl,.inl rfl,.inl rfl,trivial⟩ rfl) rfl ?_
     refine qe rfl ?_
     refine ⟨rfl,?_⟩
     exact ⟨r24.1,H,⟨rfl,rfl,rfl,rfl,trivial⟩,⟨rfl,trivial⟩⟩
    ·replace H:=iff_ h19 H
     refine z0l ?_
     exact ⟨[115,49,46,120,46,121],H,⟨rfl,rfl,rfl,rfl,trivial⟩,⟨rfl,trivial⟩⟩
   ·rintro v26 H
    replace H:z3z r2 r4 r6 v26=some r:=H
    unfold z3z at H
    refine z0c ?_
    refine z0b hN rfl ?_
    refine z0w (z6d x1t rfl rfl rfl) rfl ?_
    refine qd rfl ?_
    refine qd rfl ?_
    obtain ⟨r27,h28,H⟩:=bnd H
    refine z0a (z0q (x3n r2.1 v26 r4.1 r27 h28) ⟨.inl rfl,.inl rfl,.inl rfl,trivial⟩) ?_
    refine qd rfl ?_
    refine z0a (z10 rfl rfl) ?_
    refine z0a (z10 rfl rfl) ?_
    refine z0j (z2s 3 y0q rfl) rfl ?_
    refine z0j (z1b z28 rfl rfl rfl rfl) rfl ?_
    refine qe rfl ?_
    refine z0c ?_
    refine z0b hN rfl ?_
    refine z0j (z2s 4 y0q rfl) rfl ?_
    refine x5p 4 4 (.dat (vlst [])) rfl rfl (fun g w M v h=>z2r w M v h) ?_
    refine x5p 4 5 (.dat (vlst [])) rfl rfl (fun g w M v h=>z2r w M v h) ?_
    refine z03 (ι:=Int×Bs×Bs×Bs×Bs×(List Bs)×(List Bs)×Int×Int) (fun i=>[(6,.dat (vint i.1)),(8,.ptr 3 0),(9,.dat (vint r27.2)),(10,.ptr 4 0)]) (fun i=>[(3,.box none 39 [.dat (vstr r27.1.Id),.dat (vstr r27.1.Subject),.dat (vstr r27.1.Issuer),.dat (vstr r27.1.Parent),.dat (vlst (List.map z0n r27.1.Audience)),.dat (vlst (List.map z0n r27.1.Scopes)),.dat (vint r27.1.From),.dat (vint r27.1.To)]),(4,.box none 39 [.dat (vstr i.2.1),.dat (vstr i.2.2.1),.dat (vstr i.2.2.2.1),.dat (vstr i.2.2.2.2.1),.dat (vlst (List.map z0n i.2.2.2.2.2.1)),.dat (vlst (List.map z0n i.2.2.2.2.2.2.1)),.dat (vint i.2.2.2.2.2.2.2.1),.dat (vint i.2.2.2.2.2.2.2.2)])]) (fun i=>z3y r27 i.1 i.2.1 i.2.2.1 i.2.2.2.1 i.2.2.2.2.1 i.2.2.2.2.2.1 i.2.2.2.2.2.2.1 i.2.2.2.2.2.2.2.1 i.2.2.2.2.2.2.2.2=some r) (fun i=>rfl) ?_ ?_
    ·skip
     refine z0c ?_
     refine z0b hN rfl ?_
     refine qd rfl ?_
     refine z0a (z2z rfl rfl) ?_
     refine z0g _ rfl (fun h29 => ?_) (fun h29 => ?_)
     ·replace H:=ift h29 H
      refine z0b hN rfl ?_
      refine z0w (z6d x1t rfl rfl rfl) rfl ?_
      refine qd rfl ?_
      refine qd rfl ?_
      obtain ⟨r30,h31,H⟩:=bnd H
      refine z0a (z0q (y9k r2.1 v26 r4.1 r30 h31) ⟨.inl rfl,.inl rfl,.inl rfl,trivial⟩) ?_
      refine qd rfl ?_
      refine z0a (z10 rfl rfl) ?_
      refine z0a (z10 rfl rfl) ?_
      refine z0j (z1b z28 rfl rfl rfl rfl) rfl ?_
      refine qe rfl ?_
      exact ⟨(r30.2,r30.1.Id,r30.1.Subject,r30.1.Issuer,r30.1.Parent,r30.1.Audience,r30.1.Scopes,r30.1.From,r30.1.To),H,⟨rfl,rfl,rfl,rfl,trivial⟩,⟨rfl,rfl,trivial⟩⟩
     ·replace H:=iff_ h29 H
      refine z0l ?_
      exact ⟨(r6,[],[],[],[],([]:(List Bs)),([]:(List Bs)),0,0),H,⟨rfl,rfl,rfl,rfl,trivial⟩,⟨rfl,rfl,trivial⟩⟩
    ·rintro ⟨v32,c33,c34,c35,c36,c37,c38,c39,c40⟩ H
     replace H:z3y r27 v32 c33 c34 c35 c36 c37 c38 c39 c40=some r:=H
     unfold z3y at H
     refine z03 (ι:=Bool) (fun i=>[(2,.dat (z05 i))]) (fun i=>[]) (fun i=>z3x i=some r) (fun i=>rfl) ?_ ?_
     ·skip
      refine z0b hN rfl ?_
      refine qd rfl ?_
      refine qd rfl ?_
      refine z0a (z2z rfl rfl) ?_
      refine qd rfl ?_
      refine z09 (j:=3) rfl rfl (fun h41 => ?_) (fun h41 => ?_) rfl
      ·have h42:=un1 h41
       replace H:=ift h42 H
       refine z8z rfl rfl h41 (z6d z28 rfl rfl rfl) rfl ?_
       refine z8z rfl rfl h41 (z6d z28 rfl rfl rfl) rfl ?_
       obtain ⟨r43,h44,H⟩:=bnd H
       refine z0p rfl rfl h41 (z0q (y8a r27.1 (z0e.mk c33 c34 c35 c36 c37 c38 c39 c40) r43 h44) ⟨.inl rfl,.inl rfl,trivial⟩) ?_
       refine z0a (z00 rfl (bTT h42) rfl) ?_
       refine qd rfl ?_
       refine z09 (j:=8) rfl rfl (fun h45 => ?_) (fun h45 => ?_) rfl
       ·have h46:=un1 h45
        replace H:=ift h46 H
        obtain ⟨r47,h48,H⟩:=bnd H
        refine z0p rfl rfl h45 (z0q (x0p  r47 h48) trivial) ?_
        refine z0a (z00 rfl (bTT h46) rfl) ?_
        refine qe rfl ?_
        exact ⟨r47,H,⟨rfl,trivial⟩,trivial⟩
       ·have h49:=un2 h45
        replace H:=iff_ h49 H
        refine z0f rfl rfl h45 ?_
        refine z0a (z0z rfl (bFF h49) rfl) ?_
        refine qe rfl ?_
        exact ⟨false,H,⟨rfl,trivial⟩,trivial⟩
      ·have h50:=un2 h41
       replace H:=iff_ h50 H
       refine z0f rfl rfl h41 ?_
       refine z0f rfl rfl h41 ?_
       refine z0f rfl rfl h41 ?_
       refine z0a (z0z rfl (bFF h50) rfl) ?_
       refine qd rfl ?_
       refine z0f rfl rfl rfl ?_
       refine z0a (z0z rfl rfl rfl) ?_
       refine qe rfl ?_
       exact ⟨false,H,⟨rfl,trivial⟩,trivial⟩
     ·rintro v51 H
      replace H:z3x v51=some r:=H
      unfold z3x at H
      refine z0m ?_
      cases H
      exact ⟨trivial,.inl rfl,trivial⟩
end Go.Proofs.YtndabcepiekebaaGreatDoor
