/- Walks along the models. Printed by a program. -/
import Derived.Test.YthmmalklamiefaaGreatDoorZcw5
namespace Go.Proofs.YthmmalklamiefaaGreatDoor
open Go.RowKit
set_option linter.unusedVariables false
set_option maxRecDepth 20000
set_option maxHeartbeats 2000000
theorem x57 (v1:z0i) (v2:(List z0s)) (v3:(List z0e)) (v4:(List z0e)) (r:((List z0e)×Int)) (H:y3a v1 v2 v3 v4=some r):Fn Tryz.prog 10 [vagg (z1h v1),vlst (List.map z1a v2),vlst (List.map z0v v3),vlst (List.map z0v v4)] (z1x [vlst (List.map z0v r.1),vint r.2]):=by
 refine ⟨by kernel_rfl,z1s (us:=[vlst (List.map z0v r.1),vint r.2]) Tryz.func10 rfl rfl rfl rfl fun X hN => ?_⟩
 unfold y3a at H
 refine z0c ?_
 refine z0b hN rfl ?_
 refine z0g (z16 1 rfl) rfl ?_
 refine qe rfl ?_
 refine qe rfl ?_
 refine z0c ?_
 refine z0c ?_
 refine z0b hN rfl ?_
 refine qd rfl ?_
 refine qd rfl ?_
 refine z0a (z09 (u':=vagg [vlst (List.map z0v v3),vlst (List.map z0v v4)]) (x9r [(0,[vlst (List.map z0v v3)]),(1,[vlst (List.map z0v v4)])] w84 (show Tryz.prog.underlying 69=some (.array 2 36) from by kernel_rfl) (show tyS Tryz.prog 36=some (false,1) from by kernel_rfl) rfl ⟨rfl,.inl ⟨_,rfl,rfl,rfl⟩,rfl,rfl,.inl ⟨_,rfl,rfl,rfl⟩,rfl,trivial⟩) rfl) ?_
 refine qd rfl ?_
 refine z0w ?_
 obtain ⟨h7,H⟩:=gif H
 refine y65 (fun (k5:Nat) (s:Unit)=>[(1,.dat (vlst (List.map z1a v2))),(2,.dat (vlst (List.map z0v v3))),(3,.dat (vlst (List.map z0v v4))),(4,.ptr 1 0),(20,.dat (vagg [vlst (List.map z0v v3),vlst (List.map z0v v4)])),(21,.dat (vint (k5:Int)))]) (fun (k5:Nat) (s:Unit)=>[(1,.box none 29 [.dat (vlst (List.map z0y v1.Products)),.dat (vlst (List.map z01 v1.Plans))])]) () H ⟨rfl,rfl,rfl,rfl,rfl,rfl,trivial⟩ ⟨rfl,trivial⟩ (fun _ _=>rfl) ?_ ?_
 ·rintro ⟨⟩ H
  replace H:y3j v3 v4=some r:=H
  unfold y3j at H
  refine z0c ?_
  refine z0b hN rfl ?_
  refine z0a (z03 rfl rfl) ?_
  refine z0c ?_
  refine z0k _ rfl (fun h=>(lt_t h).elim) (fun h => ?_)
  refine z1j ?_
  refine z0c ?_
  refine z0b hN rfl ?_
  refine qd rfl ?_
  refine qd rfl ?_
  refine z0a (z09 (u':=vlst (List.map y5c [v3,v4])) (z1w [[_],[_]] w5e ⟨rfl,.inl ⟨_,rfl,rfl,rfl⟩,rfl,rfl,.inl ⟨_,rfl,rfl,rfl⟩,rfl,trivial⟩ rfl rfl) rfl) ?_
  obtain ⟨r8,h9,H⟩:=bnd H
  refine z4y (rn [(1,2)]) [] [(1,_)] (y00 [v3,v4] r8 h9) ⟨rfl,trivial⟩ ⟨.inl (.inl rfl),trivial⟩ trivial rfl ?_
  refine z0a (z1o (.row _ _) rfl) ?_
  refine z0c ?_
  refine z0b hN rfl ?_
  refine z0a (z0j (.row _ _) rfl) ?_
  obtain ⟨r10,h11,H⟩:=bnd H
  obtain ⟨h12,H⟩:=gif H
  refine z4y (rn [(0,2)]) [(0,_,_,some _)] [] (z77 r8 (fun (a0:z0e) (a1:z0e)=>z61 a0 a1) 36 [] (fun a0 a1 r h=>y3t a0 a1 r h) r10 h11) ⟨rfl,trivial⟩ ⟨.inl (.inl rfl),.inr ⟨_,rfl,rfl⟩,trivial⟩ ⟨⟨⟨rfl,rfl,rfl⟩,by simp [y6n,h12]⟩,trivial⟩ rfl ?_
  refine z0c ?_
  refine z0b hN rfl ?_
  refine qe rfl ?_
  refine z0c ?_
  refine z0c ?_
  refine z0b hN rfl ?_
  refine z0a (z0j (.row _ _) rfl) ?_
  refine z0h (y6r y67 rfl (h12).symm) rfl ?_
  refine qd rfl ?_
  refine z0w ?_
  refine y2w 14 3 57 4 rfl rfl rfl ?_
  obtain ⟨h16,H⟩:=gif H
  refine y65 (fun (k14:Nat) (s:(List z0e))=>[(14,.row 3 s.length),(38,.row 2 r8.length),(39,.dat (vint (r10.length:Int))),(40,.dat (vint (k14:Int)))]) (fun (k14:Nat) (s:(List z0e))=>[(2,.row 57 4 (List.map z0v r10)),(3,.row 57 4 (List.map z0v s))]) [] H ⟨rfl,rfl,rfl,rfl,trivial⟩ ⟨rfl,rfl,trivial⟩ (fun _ _=>rfl) ?_ ?_
  ·rintro l13 H
   replace H:y50 l13=some r:=H
   unfold y50 at H
   refine z0c ?_
   refine z0b hN rfl ?_
   refine z0a (z03 rfl rfl) ?_
   refine z0c ?_
   refine z0k _ rfl (fun h=>(lt_t h).elim) (fun h => ?_)
   refine z1j ?_
   refine z0c ?_
   refine z0c ?_
   refine z0b hN rfl ?_
   refine z0a (z0j (.row _ _) rfl) ?_
   refine z0h (y6r y67 rfl rfl) rfl ?_
   refine z0a (z4c rfl rfl) ?_
   refine z0k _ rfl (fun h17 => ?_) (fun h17 => ?_)
   ·replace H:=ift h17 H
    refine z0c ?_
    refine z0b hN rfl ?_
    refine qe rfl ?_
    refine qe rfl ?_
    refine z0t ?_
    cases H
    exact ⟨trivial,.inr ⟨rfl,rfl⟩,.inl rfl,trivial⟩
   ·replace H:=iff_ h17 H
    refine z0q ?_
    refine z0c ?_
    refine z0c ?_
    refine x1e 14 3 rfl rfl rfl ?_
    refine z0b hN rfl ?_
    refine qd rfl ?_
    obtain ⟨r18,h19,H⟩:=bnd H
    refine z0a (y76 (z85 l13 (fun (a0:z0e)=>y2u a0) 38 [] (fun a0 r h=>x2u a0 r h) r18 h19) ⟨.inl (.inl rfl),.inr ⟨_,rfl,rfl⟩,trivial⟩) ?_
    refine z0k _ rfl (fun h20 => ?_) (fun h20 => ?_)
    ·replace H:=ift h20 H
     refine z0c ?_
     refine z0b hN rfl ?_
     refine qe rfl ?_
     refine qe rfl ?_
     refine z0t ?_
     cases H
     exact ⟨trivial,.inr ⟨rfl,rfl⟩,.inl rfl,trivial⟩
    ·replace H:=iff_ h20 H
     refine z0q ?_
     refine z0c ?_
     refine z0b hN rfl ?_
     refine qd rfl ?_
     refine qe rfl ?_
     refine qe rfl ?_
     refine z0t ?_
     cases H
     exact ⟨trivial,.inl rfl,.inl rfl,trivial⟩
  ·rintro k14 l13 q15 h21 H hq15
   replace H:y5z r10 k14 l13=some q15:=H
   unfold y5z at H
   refine z0c ?_
   refine z0b hN rfl ?_
   refine z0a (z03 rfl rfl) ?_
   refine z0c ?_
   refine z0k _ rfl (fun h => ?_) (fun h=>(lt_f h21 h).elim)
   refine z0q ?_
   refine z07 (ι:=(List z0e)) (fun i=>[(14,.row 3 i.length),(38,.row 2 r8.length),(39,.dat (vint (r10.length:Int))),(40,.dat (vint (k14:Int)))]) (fun i=>[(2,.row 57 4 (List.map z0v r10)),(3,.row 57 4 (List.map z0v i))]) (fun i=>y3i i=some q15) (fun i=>rfl) ?_ ?_
   ·skip
    refine z0w ?_
    refine z0c ?_
    refine z0b hN rfl ?_
    obtain ⟨x22,h23,H⟩:=bnd H
    refine z0h (w5k y1k rfl (h12).symm rfl h23) rfl ?_
    refine z0h (y4n y0a rfl (h12).symm h23 rfl) rfl ?_
    refine z0g (z1m 4 x3s rfl) rfl ?_
    refine z0g (z08 y0a rfl rfl rfl rfl) rfl ?_
    refine z0c ?_
    refine z0c ?_
    refine z0b hN rfl ?_
    refine z0a (z0j (.row _ _) rfl) ?_
    refine z0h (y6r y67 rfl rfl) rfl ?_
    refine z0a (z05 _ rfl rfl (.inr (.inl ⟨rfl,rfl⟩))) ?_
    refine qe rfl ?_
    refine z07 (ι:=Bool) (fun i=>[(14,.row 3 l13.length),(16,.ptr 4 0),(17,.dat (vint (wr ((l13.length:Int) - 1)))),(38,.row 2 r8.length),(39,.dat (vint (r10.length:Int))),(40,.dat (vint (k14:Int))),(57,.dat (z1p i))]) (fun i=>[(2,.row 57 4 (List.map z0v r10)),(3,.row 57 4 (List.map z0v l13)),(4,.box none 57 [.dat (vstr x22.App),.dat (vstr x22.Product),.dat (vint x22.Month),.dat (vint x22.Calls)])]) (fun i=>y2e l13 x22 i=some q15) (fun i=>rfl) ?_ ?_
    ·skip
     refine z2n mixed hN rfl rfl ?_
     refine qd rfl ?_
     refine z0a (y5a rfl rfl) ?_
     refine qd rfl ?_
     refine z15 (j:=2) rfl rfl (fun h24 => ?_) (fun h24 => ?_) rfl
     ·have h25:=un1 h24
      replace H:=ift h25 H
      refine z04 rfl rfl h24 (z0j (.row _ _) rfl) ?_
      refine z04 rfl rfl h24 (z0j (.dat _) rfl) ?_
      obtain ⟨x26,h27,H⟩:=bnd H
      refine z5r rfl rfl h24 (y49 y1k rfl rfl rfl h27) rfl ?_
      refine z5r rfl rfl h24 (y4n y0a rfl rfl (z1n h27).2 rfl) rfl ?_
      refine z5r rfl rfl h24 (z06 y0a rfl rfl rfl) rfl ?_
      obtain ⟨r28,h29,H⟩:=bnd H
      refine z04 rfl rfl h24 (z0z (y3t x26 x22 r28 h29) ⟨.inl rfl,.inl rfl,trivial⟩) ?_
      refine z04 rfl rfl h24 (z2g rfl rfl) ?_
      refine z0a (z1t rfl (bTT h25) rfl) ?_
      refine ⟨rfl,?_⟩
      exact ⟨decide (r28=0),H,⟨rfl,rfl,rfl,rfl,rfl,rfl,rfl,trivial⟩,⟨rfl,rfl,rfl,trivial⟩⟩
     ·have h30:=un2 h24
      replace H:=iff_ h30 H
      refine z0n rfl rfl h24 ?_
      refine z0n rfl rfl h24 ?_
      refine z0n rfl rfl h24 ?_
      refine z0n rfl rfl h24 ?_
      refine z0n rfl rfl h24 ?_
      refine z0n rfl rfl h24 ?_
      refine z0n rfl rfl h24 ?_
      refine z0a (z1l rfl (bFF h30) rfl) ?_
      refine ⟨rfl,?_⟩
      exact ⟨false,H,⟨rfl,rfl,rfl,rfl,rfl,rfl,rfl,trivial⟩,⟨rfl,rfl,rfl,trivial⟩⟩
    ·rintro v31 H
     replace H:y2e l13 x22 v31=some q15:=H
     unfold y2e at H
     refine z0k _ rfl (fun h32 => ?_) (fun h32 => ?_)
     ·replace H:=ift h32 H
      refine z0c ?_
      refine z2n mixed hN rfl rfl ?_
      refine z0a (z0j (.row _ _) rfl) ?_
      refine qd rfl ?_
      obtain ⟨x33,h34,H⟩:=bnd H
      refine z0h (y49 y1k rfl rfl rfl h34) rfl ?_
      refine z0a (y1m y48 rfl) ?_
      refine z0h (x1d tyS3 rfl rfl (z1n h34).2 rfl) rfl ?_
      refine z0a (z0m y48 rfl) ?_
      refine z0h (z0l tyS3 rfl rfl) rfl ?_
      refine z0a (z05 _ rfl rfl (.inl ⟨rfl,rfl⟩)) ?_
      refine z0h (y49 y1k rfl rfl rfl h34) rfl ?_
      refine z0a (y1m y48 rfl) ?_
      refine z0g (y4m (z0e.mk x33.App x33.Product x33.Month (wr (x33.Calls+x22.Calls))) tyS3 rfl rfl rfl rfl (z1n h34).2 rfl rfl) rfl ?_
      refine ⟨rfl,?_⟩
      refine z1j ?_
      exact ⟨(l13.set ((wr ((l13.length:Int) - 1)).toNat) (z0e.mk x33.App x33.Product x33.Month (wr (x33.Calls+x22.Calls)))),H,⟨congrArg (Slot.row 3) (by simp),rfl,rfl,rfl,trivial⟩,⟨rfl,rfl,trivial⟩⟩
     ·replace H:=iff_ h32 H
      refine z0q ?_
      refine z0b hN rfl ?_
      refine z0a (z0j (.row _ _) rfl) ?_
      refine z0h (z06 y0a rfl rfl rfl) rfl ?_
      refine z0a (z09 (u':=vlst (List.map z0v [x22])) (z1w [_] x5l ⟨rfl,.inr rfl,rfl,trivial⟩ rfl rfl) rfl) ?_
      obtain ⟨h35,H⟩:=gif H
      refine z0g (y7t x5l (fun _=>rfl) rfl rfl rfl ⟨by simp,by first | (simp; done) | simpa using h35⟩ rfl) rfl ?_
      refine z0a (z1o (.row _ _) rfl) ?_
      exact ⟨(l13++[x22]),H,⟨rfl,rfl,rfl,rfl,trivial⟩,⟨rfl,rfl,trivial⟩⟩
   ·rintro v36 H
    replace H:y3i v36=some q15:=H
    unfold y3i at H
    refine z0b hN rfl ?_
    refine z0a (z3h rfl rfl (by omega)) ?_
    refine qd rfl ?_
    exact ⟨_,z5d H,⟨rfl,rfl,rfl,rfl,trivial⟩,⟨rfl,rfl,trivial⟩⟩
 ·rintro k5 ⟨⟩ q6 h37 H hq6
  replace H:y2d v1 v2 v3 v4 k5=some q6:=H
  unfold y2d at H
  refine z0c ?_
  refine z0b hN rfl ?_
  refine z0a (z03 rfl rfl) ?_
  refine z0c ?_
  refine z0k _ rfl (fun h => ?_) (fun h=>(lt_f h37 h).elim)
  refine z0q ?_
  refine z0c ?_
  refine z0w ?_
  refine z0c ?_
  refine z0b hN rfl ?_
  obtain ⟨x38,h39,H⟩:=bnd H
  refine z0a (w0x (D:=fun e=>vlst (List.map z0v e)) (xs:=([v3,v4]:List (List z0e))) (show Tryz.prog.underlying 69=some (.array 2 36) from by kernel_rfl) (show tyS Tryz.prog 36=some (false,1) from by kernel_rfl) rfl rfl rfl h39) ?_
  refine qe rfl ?_
  refine z0c ?_
  refine z0b hN rfl ?_
  refine z0h (z06 z5x rfl rfl rfl) rfl ?_
  refine qd rfl ?_
  refine qd rfl ?_
  obtain ⟨r40,h41,H⟩:=bnd H
  refine z0a (z0z (y4u v1 v2 x38 r40 h41) ⟨.inl rfl,.inl rfl,.inl rfl,trivial⟩) ?_
  refine qe rfl ?_
  refine z0c ?_
  refine z0b hN rfl ?_
  refine qd rfl ?_
  refine z0a (z6y rfl rfl) ?_
  refine z0k _ rfl (fun h42 => ?_) (fun h42 => ?_)
  ·replace H:=ift h42 H
   refine z0c ?_
   refine z0b hN rfl ?_
   refine qd rfl ?_
   refine qe rfl ?_
   refine qe rfl ?_
   refine z0t ?_
   replace H:=retl H hq6
   cases H
   exact ⟨trivial,.inr ⟨rfl,rfl⟩,.inl rfl,trivial⟩
  ·replace H:=iff_ h42 H
   refine z0q ?_
   refine z0b hN rfl ?_
   refine z0a (z3h rfl rfl (by omega)) ?_
   refine qd rfl ?_
   exact ⟨_,z5d H,⟨rfl,rfl,rfl,rfl,rfl,rfl,trivial⟩,⟨rfl,trivial⟩⟩
theorem y8z (n1:Int) (r:(Bool)) (H:y2v n1=some r):Fn Tryz.prog 113 [vint n1] (z1x [z1p r]):=by
 refine ⟨by kernel_rfl,z1s (us:=[z1p r]) Tryz.func113 rfl rfl rfl rfl fun X hN => ?_⟩
 unfold y2v at H
 refine z0c ?_
 refine z0b hN rfl ?_
 refine qe rfl ?_
 refine z0c ?_
 refine z0b hN rfl ?_
 refine qd rfl ?_
 refine z0a (y5a rfl rfl) ?_
 refine qd rfl ?_
 refine z4b rfl rfl (fun hc=>z0j (.dat _) rfl) ?_
 refine z4b rfl rfl (fun hc=>z03 (cnd (c:=(decide (0≤n1))) hc) rfl) ?_
 refine z0a (z25 rfl (fun hb=>(cnd (c:=(decide (0≤n1))) hb)) rfl) ?_
 refine qe rfl ?_
 refine z0t ?_
 cases H
 exact ⟨trivial,.inl rfl,trivial⟩
theorem y0e (x1:(List z0p)) (target2:Bs) (p2:z0p→Bs→Option (Int)) (fv2:Nat) (us2:List V) (hp2:∀ a0 a1 r,p2 a0 a1=some r→Fn Tryz.prog fv2 ([vagg (z01 a0),vstr a1]++us2) (z1x [vint r])) (r:(Int×Bool)) (H:z2v x1 target2 p2=some r):Fn Tryz.prog 85 [vlst (List.map z01 x1),vstr target2,vfn fv2 us2] (z1x [vint r.1,z1p r.2]):=by
 refine ⟨by kernel_rfl,z1s (us:=[vint r.1,z1p r.2]) Tryz.func85 rfl rfl rfl rfl fun X hN => ?_⟩
 unfold z2v at H
 refine z0c ?_
 refine z0b hN rfl ?_
 refine qe rfl ?_
 refine qe rfl ?_
 refine z0c ?_
 refine z0b hN rfl ?_
 refine qd rfl ?_
 refine z0a (z5b x1o rfl) ?_
 refine qe rfl ?_
 refine z0c ?_
 refine z0b hN rfl ?_
 refine qd rfl ?_
 refine qe rfl ?_
 refine qe rfl ?_
 refine z07 (ι:=Int) (fun i=>[(0,.dat (vlst (List.map z01 x1))),(1,.dat (vstr target2)),(2,.dat (vfn fv2 us2)),(8,.dat (vint (x1.length:Int))),(9,.dat (vint i))]) (fun i=>[]) (fun i=>z2u x1 target2 p2 i=some r) (fun i=>rfl) ?_ ?_
 ·skip
  refine z0w ?_
  refine z9e (fun (s:Int×Int)=>[(0,.dat (vlst (List.map z01 x1))),(1,.dat (vstr target2)),(2,.dat (vfn fv2 us2)),(8,.dat (vint (x1.length:Int))),(9,.dat (vint s.1)),(10,.dat (vint s.2))]) (fun (s:Int×Int)=>[]) (0,(x1.length:Int)) H ⟨rfl,rfl,rfl,rfl,rfl,rfl,trivial⟩ trivial (fun _=>rfl) ?_
  rintro ⟨i3,j4⟩ q5 H hq5
  replace H:z3l x1 target2 p2 i3 j4=some q5:=H
  unfold z3l at H
  refine z0c ?_
  refine z0c ?_
  refine z0b hN rfl ?_
  refine qd rfl ?_
  refine qd rfl ?_
  refine z0a (z03 rfl rfl) ?_
  refine z0k _ rfl (fun h6 => ?_) (fun h6 => ?_)
  ·replace H:=ift h6 H
   refine z0q ?_
   refine z0w ?_
   refine z0c ?_
   refine z0b hN rfl ?_
   refine qd rfl ?_
   refine qd rfl ?_
   refine z0a (z05 _ rfl rfl (.inl ⟨rfl,rfl⟩)) ?_
   refine z0a (y21 tyU3 y6p rfl) ?_
   refine z0a (z09 (y85 rfl rfl (by decide)) rfl) ?_
   refine z0a (y21 y6p tyU3 rfl) ?_
   refine qe rfl ?_
   refine z0c ?_
   refine z0b hN rfl ?_
   refine qd rfl ?_
   refine qd rfl ?_
   refine qd rfl ?_
   obtain ⟨x7,h8,H⟩:=bnd H
   refine z0a (y1q x0b (fun _=>rfl) rfl rfl h8) ?_
   refine z0a (z2l y47 rfl (z3e (z1n h8).2) rfl) ?_
   refine qd rfl ?_
   obtain ⟨r9,h10,H⟩:=bnd H
   refine z0a (z9f (hp2 x7 target2 r9 h10) rfl ⟨.inl rfl,.inl rfl,trivial⟩) ?_
   refine z0a (z03 rfl rfl) ?_
   refine z0k _ rfl (fun h11 => ?_) (fun h11 => ?_)
   ·replace H:=ift h11 H
    refine z0b hN rfl ?_
    refine qd rfl ?_
    refine z0a (z05 _ rfl rfl (.inl ⟨rfl,rfl⟩)) ?_
    refine qe rfl ?_
    exact ⟨_,z5d H,⟨rfl,rfl,rfl,rfl,rfl,rfl,trivial⟩,trivial⟩
   ·replace H:=iff_ h11 H
    refine z0b hN rfl ?_
    refine qd rfl ?_
    refine qe rfl ?_
    exact ⟨_,z5d H,⟨rfl,rfl,rfl,rfl,rfl,rfl,trivial⟩,trivial⟩
  ·replace H:=iff_ h6 H
   refine z1j ?_
   replace H:=outl H hq5
   exact ⟨i3,H,⟨rfl,rfl,rfl,rfl,rfl,trivial⟩,trivial⟩
 ·rintro i12 H
  replace H:z2u x1 target2 p2 i12=some r:=H
  unfold z2u at H
  refine z07 (ι:=Bool) (fun i=>[(6,.dat (vint i12)),(7,.dat (z1p i))]) (fun i=>[]) (fun i=>z11 i12 i=some r) (fun i=>rfl) ?_ ?_
  ·skip
   refine z0b hN rfl ?_
   refine qd rfl ?_
   refine qd rfl ?_
   refine qd rfl ?_
   refine z0a (z03 rfl rfl) ?_
   refine qd rfl ?_
   refine z15 (j:=4) rfl rfl (fun h13 => ?_) (fun h13 => ?_) rfl
   ·have h14:=un1 h13
    replace H:=ift h14 H
    refine z04 rfl rfl h13 (z0j (.dat _) rfl) ?_
    refine z04 rfl rfl h13 (z0j (.dat _) rfl) ?_
    refine z04 rfl rfl h13 (z0j (.dat _) rfl) ?_
    obtain ⟨x15,h16,H⟩:=bnd H
    refine z04 rfl rfl h13 (y1q x0b (fun _=>rfl) rfl rfl h16) ?_
    refine z04 rfl rfl h13 (z2l y47 rfl (z3e (z1n h16).2) rfl) ?_
    refine z04 rfl rfl h13 (z0j (.dat _) rfl) ?_
    obtain ⟨r17,h18,H⟩:=bnd H
    refine z04 rfl rfl h13 (z9f (hp2 x15 target2 r17 h18) rfl ⟨.inl rfl,.inl rfl,trivial⟩) ?_
    refine z04 rfl rfl h13 (z2g rfl rfl) ?_
    refine z0a (z1t rfl (bTT h14) rfl) ?_
    refine qe rfl ?_
    refine qe rfl ?_
    exact ⟨decide (r17=0),H,⟨rfl,rfl,trivial⟩,trivial⟩
   ·have h19:=un2 h13
    replace H:=iff_ h19 H
    refine z0n rfl rfl h13 ?_
    refine z0n rfl rfl h13 ?_
    refine z0n rfl rfl h13 ?_
    refine z0n rfl rfl h13 ?_
    refine z0n rfl rfl h13 ?_
    refine z0n rfl rfl h13 ?_
    refine z0n rfl rfl h13 ?_
    refine z0n rfl rfl h13 ?_
    refine z0a (z1l rfl (bFF h19) rfl) ?_
    refine qe rfl ?_
    refine qe rfl ?_
    exact ⟨false,H,⟨rfl,rfl,trivial⟩,trivial⟩
  ·rintro v20 H
   replace H:z11 i12 v20=some r:=H
   unfold z11 at H
   refine z0t ?_
   cases H
   exact ⟨trivial,.inl rfl,.inl rfl,trivial⟩
theorem x0h (p1:z0p) (k2:Bs) (r:(Int)) (H:y0k p1 k2=some r):Fn Tryz.prog 86 [vagg (z01 p1),vstr k2] (z1x [vint r]):=by
 refine ⟨by kernel_rfl,z1s (us:=[vint r]) Tryz.func86 rfl rfl rfl rfl fun X hN => ?_⟩
 unfold y0k at H
 refine z0c ?_
 refine z0b hN rfl ?_
 refine z0g (z16 1 rfl) rfl ?_
 refine qe rfl ?_
 refine z0c ?_
 refine z0b hN rfl ?_
 refine z0a (z0m y4l rfl) ?_
 refine z0h (z0l tyS9 rfl rfl) rfl ?_
 refine qd rfl ?_
 obtain ⟨r3,h4,H⟩:=bnd H
 refine z0a (z0z (z8x p1.Key k2 r3 h4) ⟨.inl rfl,.inl rfl,trivial⟩) ?_
 refine qe rfl ?_
 refine z0t ?_
 cases H
 exact ⟨trivial,.inl rfl,trivial⟩
theorem y4t (c1:z0i) (key2:Bs) (r:(z0p×Bool)) (H:z7z c1 key2=some r):Fn Tryz.prog 43 [vagg (z1h c1),vstr key2] (z1x [vagg (z01 r.1),z1p r.2]):=by
 refine ⟨by kernel_rfl,z1s (us:=[vagg (z01 r.1),z1p r.2]) Tryz.func43 rfl rfl rfl rfl fun X hN => ?_⟩
 unfold z7z at H
 refine z0c ?_
 refine z0b hN rfl ?_
 refine z0g (z16 1 rfl) rfl ?_
 refine z0g (z1m 2 y80 rfl) rfl ?_
 refine qe rfl ?_
 refine z0c ?_
 refine z0b hN rfl ?_
 refine z0a (z0m y0o rfl) ?_
 refine z0h (z0l y57 rfl rfl) rfl ?_
 refine qd rfl ?_
 obtain ⟨r3,h4,H⟩:=bnd H
 refine z0a (y76 (y0e c1.Plans key2 (fun (a0:z0p) (a1:Bs)=>y0k a0 a1) 86 [] (fun a0 a1 r h=>x0h a0 a1 r h) r3 h4) ⟨.inl (.inl rfl),.inl (.inl rfl),.inr ⟨_,rfl,rfl⟩,trivial⟩) ?_
 refine qd rfl ?_
 refine z0a (z2y rfl rfl) ?_
 refine z0a (z2y rfl rfl) ?_
 refine qe rfl ?_
 refine qe rfl ?_
 refine z0c ?_
 refine z0c ?_
 refine z0b hN rfl ?_
 refine qd rfl ?_
 refine z0a (z3s rfl) ?_
 refine z0k _ rfl (fun h5 => ?_) (fun h5 => ?_)
 ·replace H:=ift h5 H
  refine z0c ?_
  refine z0b hN rfl ?_
  refine z0a (w5o (u':=vagg (z01 (z0p.mk [] [] 0 0 [] 0 0 false))) (w48 (by exact ⟨x0t,x0t,x0t,x0t,x5j,x0t,x0t,x0t,trivial⟩)) (z3k [] y80 w3n rfl trivial)) ?_
  refine z0g (z08 y47 rfl rfl rfl rfl) rfl ?_
  refine qe rfl ?_
  refine z0t ?_
  cases H
  exact ⟨trivial,.inl ⟨_,_,_,z01 (z0p.mk [] [] 0 0 [] 0 0 false),rfl,rfl,rfl,rfl,y47⟩,.inl rfl,trivial⟩
 ·replace H:=iff_ h5 H
  refine z0q ?_
  refine z0c ?_
  refine z0b hN rfl ?_
  refine z0a (z0m y0o rfl) ?_
  refine z0h (z0l y57 rfl rfl) rfl ?_
  refine qd rfl ?_
  obtain ⟨x6,h7,H⟩:=bnd H
  refine z0a (y1q x0b (fun _=>rfl) rfl rfl h7) ?_
  refine z0a (z2l y47 rfl (z3e (z1n h7).2) rfl) ?_
  refine z0g (z08 y47 rfl rfl rfl rfl) rfl ?_
  refine qe rfl ?_
  refine z0t ?_
  cases H
  exact ⟨trivial,.inl ⟨_,_,_,z01 x6,rfl,rfl,rfl,rfl,y47⟩,.inl rfl,trivial⟩
theorem y7v (a1:z0f) (b2:z0f) (r:(Int)) (H:y04 a1 b2=some r):Fn Tryz.prog 126 [vagg (z00 a1),vagg (z00 b2)] (z1x [vint r]):=by
 refine ⟨by kernel_rfl,z1s (us:=[vint r]) Tryz.func126 rfl rfl rfl rfl fun X hN => ?_⟩
 unfold y04 at H
 refine z0c ?_
 refine z0b hN rfl ?_
 refine z0g (z16 1 rfl) rfl ?_
 refine z0g (z16 2 rfl) rfl ?_
 refine qe rfl ?_
 refine z0c ?_
 refine z2n mixed hN rfl rfl ?_
 refine z0a (z0m y0b rfl) ?_
 refine z0h (z0l tyS3 rfl rfl) rfl ?_
 refine z0a (z0m y0b rfl) ?_
 refine z0h (z0l tyS3 rfl rfl) rfl ?_
 obtain ⟨r3,h4,H⟩:=bnd H
 refine z0a (z0z (y6v a1.At b2.At r3 h4) ⟨.inl rfl,.inl rfl,trivial⟩) ?_
 refine z0a (z0m y3g rfl) ?_
 refine z0h (z0l tyS9 rfl rfl) rfl ?_
 refine z0a (z0m y3g rfl) ?_
 refine z0h (z0l tyS9 rfl rfl) rfl ?_
 obtain ⟨r5,h6,H⟩:=bnd H
 refine z0a (z0z (z8x a1.App b2.App r5 h6) ⟨.inl rfl,.inl rfl,trivial⟩) ?_
 refine z0a (z0m y19 rfl) ?_
 refine z0h (z0l tyS9 rfl rfl) rfl ?_
 refine z0a (z0m y19 rfl) ?_
 refine z0h (z0l tyS9 rfl rfl) rfl ?_
 obtain ⟨r7,h8,H⟩:=bnd H
 refine z0a (z0z (z8x a1.Product b2.Product r7 h8) ⟨.inl rfl,.inl rfl,trivial⟩) ?_
 refine z0a (z09 (u':=vlst (List.map z5a [r3,r5,r7])) (z1w [[_],[_],[_]] y3v ⟨rfl,.inl ⟨_,rfl,rfl,rfl⟩,rfl,rfl,.inl ⟨_,rfl,rfl,rfl⟩,rfl,rfl,.inl ⟨_,rfl,rfl,rfl⟩,rfl,trivial⟩ rfl rfl) rfl) ?_
 obtain ⟨r9,h10,H⟩:=bnd H
 refine z0a (z0z (y92 [r3,r5,r7] r9 h10) ⟨.inl rfl,trivial⟩) ?_
 refine qe rfl ?_
 refine ⟨rfl,?_⟩
 refine z0t ?_
 cases H
 exact ⟨trivial,.inl rfl,trivial⟩
theorem y9d (v1:z0i) (v2:(List z0s)) (v3:(List z0f)) (v4:Int) (r:(Int)) (H:y0w v1 v2 v3 v4=some r):Fn Tryz.prog 112 [vagg (z1h v1),vlst (List.map z1a v2),vlst (List.map z00 v3),vint v4] (z1x [vint r]):=by
 refine ⟨by kernel_rfl,z1s (us:=[vint r]) Tryz.func112 rfl rfl rfl rfl fun X hN => ?_⟩
 unfold y0w at H
 refine z0c ?_
 refine z0b hN rfl ?_
 refine z0g (z16 1 rfl) rfl ?_
 refine qe rfl ?_
 refine z0c ?_
 refine z0b hN rfl ?_
 refine qd rfl ?_
 refine qd rfl ?_
 obtain ⟨x5,h6,H⟩:=bnd H
 refine z0a (y1q y6m (fun _=>rfl) rfl rfl h6) ?_
 refine z0a (z2l z9s rfl (z3e (z1n h6).2) rfl) ?_
 refine z0g (z1m 2 x0v rfl) rfl ?_
 refine z0g (z08 z9s rfl rfl rfl rfl) rfl ?_
 refine z0c ?_
 refine z0c ?_
 refine z0b hN rfl ?_
 refine z0a (z0m y0b rfl) ?_
 refine z0h (z0l tyS3 rfl rfl) rfl ?_
 obtain ⟨r7,h8,H⟩:=bnd H
 refine z0a (z0z (y8z x5.At r7 h8) ⟨.inl rfl,trivial⟩) ?_
 refine z0a (z3s rfl) ?_
 refine z0k _ rfl (fun h9 => ?_) (fun h9 => ?_)
 ·replace H:=ift h9 H
  refine z0c ?_
  refine z0b hN rfl ?_
  refine qe rfl ?_
  refine z0t ?_
  cases H
  exact ⟨trivial,.inl rfl,trivial⟩
 ·replace H:=iff_ h9 H
  refine z0q ?_
  refine z0c ?_
  refine z0c ?_
  refine z0b hN rfl ?_
  refine qd rfl ?_
  refine z0a (z0m y3g rfl) ?_
  refine z0h (z0l tyS9 rfl rfl) rfl ?_
  obtain ⟨r10,h11,H⟩:=bnd H
  refine z0a (z0z (y61 v2 x5.App r10 h11) ⟨.inl rfl,.inl rfl,trivial⟩) ?_
  refine qd rfl ?_
  refine z0a (z2y rfl rfl) ?_
  refine z0a (z2y rfl rfl) ?_
  refine qe rfl ?_
  refine qe rfl ?_
  refine z0c ?_
  refine z0b hN rfl ?_
  refine qd rfl ?_
  refine z0a (z3s rfl) ?_
  refine z0k _ rfl (fun h12 => ?_) (fun h12 => ?_)
  ·replace H:=ift h12 H
   refine z0c ?_
   refine z0b hN rfl ?_
   refine qe rfl ?_
   refine z0t ?_
   cases H
   exact ⟨trivial,.inl rfl,trivial⟩
  ·replace H:=iff_ h12 H
   refine z0q ?_
   refine z0c ?_
   refine z0c ?_
   refine z0b hN rfl ?_
   refine z0h (z06 z5x rfl rfl rfl) rfl ?_
   refine z0a (z0m y19 rfl) ?_
   refine z0h (z0l tyS9 rfl rfl) rfl ?_
   obtain ⟨r13,h14,H⟩:=bnd H
   refine z0a (z0z (y22 v1 x5.Product r13 h14) ⟨.inl rfl,.inl rfl,trivial⟩) ?_
   refine qd rfl ?_
   refine z0a (z2y rfl rfl) ?_
   refine z0a (z2y rfl rfl) ?_
   refine qe rfl ?_
   refine qe rfl ?_
   refine z0c ?_
   refine z0b hN rfl ?_
   refine qd rfl ?_
   refine z0a (z3s rfl) ?_
   refine z0k _ rfl (fun h15 => ?_) (fun h15 => ?_)
   ·replace H:=ift h15 H
    refine z0c ?_
    refine z0b hN rfl ?_
    refine qe rfl ?_
    refine z0t ?_
    cases H
    exact ⟨trivial,.inl rfl,trivial⟩
   ·replace H:=iff_ h15 H
    refine z0q ?_
    refine z0c ?_
    refine z0c ?_
    refine z0b hN rfl ?_
    refine z0a (z0m z8k rfl) ?_
    refine z0h (z0l tyS3 rfl rfl) rfl ?_
    obtain ⟨r16,h17,H⟩:=bnd H
    refine z0a (z0z (z88 x5.Kind 1 6 r16 h17) ⟨.inl rfl,.inl rfl,.inl rfl,trivial⟩) ?_
    refine z0k _ rfl (fun h18 => ?_) (fun h18 => ?_)
    ·replace H:=ift h18 H
     refine z0c ?_
     refine z0b hN rfl ?_
     refine qe rfl ?_
     refine z0t ?_
     cases H
     exact ⟨trivial,.inl rfl,trivial⟩
    ·replace H:=iff_ h18 H
     refine z0q ?_
     refine z0c ?_
     refine z0c ?_
     refine z0b hN rfl ?_
     refine z0a (z0m y3f rfl) ?_
     refine z0h (z0l tyS9 rfl rfl) rfl ?_
     refine z0a (y4o rfl rfl) ?_
     refine qd rfl ?_
     refine z4b rfl rfl (fun hc=>z0m z8k rfl) ?_
     refine y6d rfl rfl (fun hc=>z0l tyS3 (cnd (c:=(decide (x5.Plan≠[]))) hc) rfl) rfl y5x ?_
     refine z4b rfl rfl (fun hc=>z6y (cnd (c:=(decide (x5.Plan≠[]))) hc) rfl) ?_
     refine z0a (z25 rfl (fun hb=>(cnd (c:=(decide (x5.Plan≠[]))) hb)) rfl) ?_
     refine z0k _ rfl (fun h19 => ?_) (fun h19 => ?_)
     ·replace H:=ift h19 H
      refine z0c ?_
      refine z0b hN rfl ?_
      refine qe rfl ?_
      refine z0t ?_
      cases H
      exact ⟨trivial,.inl rfl,trivial⟩
     ·replace H:=iff_ h19 H
      refine z0q ?_
      refine z07 (ι:=Unit) (fun i=>[(2,.dat (vlst (List.map z00 v3))),(3,.dat (vint v4)),(9,.ptr 2 0)]) (fun i=>[(2,.box none 123 [.dat (vint x5.At),.dat (vstr x5.App),.dat (vstr x5.Product),.dat (vint x5.Kind),.dat (vstr x5.Plan)])]) (fun i=>z6z v3 v4 x5=some r) (fun i=>rfl) ?_ ?_
      ·skip
       refine z0c ?_
       refine z0b hN rfl ?_
       refine z0a (z0m z8k rfl) ?_
       refine z0h (z0l tyS3 rfl rfl) rfl ?_
       refine z0a (z2g rfl rfl) ?_
       refine z0k _ rfl (fun h20 => ?_) (fun h20 => ?_)
       ·replace H:=ift h20 H
        refine z0c ?_
        refine z0b hN rfl ?_
        refine z0h (z06 z5x rfl rfl rfl) rfl ?_
        refine z0a (z0m y3f rfl) ?_
        refine z0h (z0l tyS9 rfl rfl) rfl ?_
        obtain ⟨r21,h22,H⟩:=bnd H
        refine z0a (z0z (y4t v1 x5.Plan r21 h22) ⟨.inl rfl,.inl rfl,trivial⟩) ?_
        refine qd rfl ?_
        refine z0a (z2y rfl rfl) ?_
        refine z0a (z2y rfl rfl) ?_
        refine z0g (z1m 3 y80 rfl) rfl ?_
        refine z0g (z08 y47 rfl rfl rfl rfl) rfl ?_
        refine qe rfl ?_
        refine z0c ?_
        refine z0c ?_
        refine z0b hN rfl ?_
        refine qd rfl ?_
        refine z0a (z3s rfl) ?_
        refine z0k _ rfl (fun h23 => ?_) (fun h23 => ?_)
        ·replace H:=ift h23 H
         refine z0c ?_
         refine z0b hN rfl ?_
         refine qe rfl ?_
         refine z0t ?_
         cases H
         exact ⟨trivial,.inl rfl,trivial⟩
        ·replace H:=iff_ h23 H
         refine z0q ?_
         refine z0c ?_
         refine z0b hN rfl ?_
         refine z0a (z0m x0a rfl) ?_
         refine z0h (z0l tyS9 rfl rfl) rfl ?_
         refine z0a (z0m y19 rfl) ?_
         refine z0h (z0l tyS9 rfl rfl) rfl ?_
         refine z0a (y4o rfl rfl) ?_
         refine z0k _ rfl (fun h24 => ?_) (fun h24 => ?_)
         ·replace H:=ift h24 H
          refine z0c ?_
          refine z0b hN rfl ?_
          refine qe rfl ?_
          refine z0t ?_
          cases H
          exact ⟨trivial,.inl rfl,trivial⟩
         ·replace H:=iff_ h24 H
          refine z0q ?_
          exact ⟨(),H,⟨rfl,rfl,rfl,trivial⟩,⟨rfl,trivial⟩⟩
       ·replace H:=iff_ h20 H
        refine z0q ?_
        exact ⟨(),H,⟨rfl,rfl,rfl,trivial⟩,⟨rfl,trivial⟩⟩
      ·rintro ⟨⟩ H
       replace H:z6z v3 v4 x5=some r:=H
       unfold z6z at H
       refine z0c ?_
       refine z07 (ι:=Bool) (fun i=>[(81,.dat (z1p i))]) (fun i=>[]) (fun i=>z8f i=some r) (fun i=>rfl) ?_ ?_
       ·skip
        refine z2n mixed hN rfl rfl ?_
        refine qd rfl ?_
        refine z0a (z4c rfl rfl) ?_
        refine qd rfl ?_
        refine z15 (j:=2) rfl rfl (fun h25 => ?_) (fun h25 => ?_) rfl
        ·have h26:=un1 h25
         replace H:=ift h26 H
         refine z04 rfl rfl h25 (z0j (.dat _) rfl) ?_
         refine z04 rfl rfl h25 (z0j (.dat _) rfl) ?_
         refine z04 rfl rfl h25 (z05 _ rfl rfl (.inr (.inl ⟨rfl,rfl⟩))) ?_
         obtain ⟨x27,h28,H⟩:=bnd H
         refine z04 rfl rfl h25 (y1q y6m (fun _=>rfl) rfl rfl h28) ?_
         refine z04 rfl rfl h25 (z2l z9s rfl (z3e (z1n h28).2) rfl) ?_
         refine z5r rfl rfl h25 (z06 z9s rfl rfl rfl) rfl ?_
         obtain ⟨r29,h30,H⟩:=bnd H
         refine z04 rfl rfl h25 (z0z (y7v x27 x5 r29 h30) ⟨.inl rfl,.inl rfl,trivial⟩) ?_
         refine z04 rfl rfl h25 (y5a rfl rfl) ?_
         refine z0a (z1t rfl (bTT h26) rfl) ?_
         refine ⟨rfl,?_⟩
         exact ⟨decide (0≤r29),H,⟨rfl,trivial⟩,trivial⟩
        ·have h31:=un2 h25
         replace H:=iff_ h31 H
         refine z0n rfl rfl h25 ?_
         refine z0n rfl rfl h25 ?_
         refine z0n rfl rfl h25 ?_
         refine z0n rfl rfl h25 ?_
         refine z0n rfl rfl h25 ?_
         refine z0n rfl rfl h25 ?_
         refine z0n rfl rfl h25 ?_
         refine z0n rfl rfl h25 ?_
         refine z0a (z1l rfl (bFF h31) rfl) ?_
         refine ⟨rfl,?_⟩
         exact ⟨false,H,⟨rfl,trivial⟩,trivial⟩
       ·rintro v32 H
        replace H:z8f v32=some r:=H
        unfold z8f at H
        refine z0k _ rfl (fun h33 => ?_) (fun h33 => ?_)
        ·replace H:=ift h33 H
         refine z0c ?_
         refine z0b hN rfl ?_
         refine qe rfl ?_
         refine z0t ?_
         cases H
         exact ⟨trivial,.inl rfl,trivial⟩
        ·replace H:=iff_ h33 H
         refine z0q ?_
         refine z0c ?_
         refine z0b hN rfl ?_
         refine qe rfl ?_
         refine z0t ?_
         cases H
         exact ⟨trivial,.inl rfl,trivial⟩
theorem y8t (c1:z0i) (apps2:(List z0s)) (l3:(List z0f)) (r:(Int)) (H:z96 c1 apps2 l3=some r):Fn Tryz.prog 81 [vagg (z1h c1),vlst (List.map z1a apps2),vlst (List.map z00 l3)] (z1x [vint r]):=by
 refine ⟨by kernel_rfl,z1s (us:=[vint r]) Tryz.func81 rfl rfl rfl rfl fun X hN => ?_⟩
 unfold z96 at H
 refine z0c ?_
 refine z0b hN rfl ?_
 refine z0g (z16 1 rfl) rfl ?_
 refine qe rfl ?_
 refine z0c ?_
 refine z0c ?_
 refine z0b hN rfl ?_
 refine z0h (z06 z5x rfl rfl rfl) rfl ?_
 obtain ⟨r4,h5,H⟩:=bnd H
 refine z0a (z0z (y3c c1 r4 h5) ⟨.inl rfl,trivial⟩) ?_
 refine qe rfl ?_
 refine z0c ?_
 refine z0b hN rfl ?_
 refine qd rfl ?_
 refine z0a (z6y rfl rfl) ?_
 refine z0k _ rfl (fun h6 => ?_) (fun h6 => ?_)
 ·replace H:=ift h6 H
  refine z0c ?_
  refine z0b hN rfl ?_
  refine qd rfl ?_
  refine qe rfl ?_
  refine z0t ?_
  cases H
  exact ⟨trivial,.inl rfl,trivial⟩
 ·replace H:=iff_ h6 H
  refine z0q ?_
  refine z0c ?_
  refine z0c ?_
  refine z0b hN rfl ?_
  refine qd rfl ?_
  obtain ⟨r7,h8,H⟩:=bnd H
  refine z0a (z0z (y6u apps2 r7 h8) ⟨.inl rfl,trivial⟩) ?_
  refine qe rfl ?_
  refine z0c ?_
  refine z0b hN rfl ?_
  refine qd rfl ?_
  refine z0a (z6y rfl rfl) ?_
  refine z0k _ rfl (fun h9 => ?_) (fun h9 => ?_)
  ·replace H:=ift h9 H
   refine z0c ?_
   refine z0b hN rfl ?_
   refine qd rfl ?_
   refine qe rfl ?_
   refine z0t ?_
   cases H
   exact ⟨trivial,.inl rfl,trivial⟩
  ·replace H:=iff_ h9 H
   refine z0q ?_
   refine z0c ?_
   refine z0c ?_
   refine z0b hN rfl ?_
   refine qd rfl ?_
   refine z0a (z5b x01 rfl) ?_
   refine z0a (z4c rfl rfl) ?_
   refine z0k _ rfl (fun h10 => ?_) (fun h10 => ?_)
   ·replace H:=ift h10 H
    refine z0c ?_
    refine z0b hN rfl ?_
    refine qe rfl ?_
    refine z0t ?_
    cases H
    exact ⟨trivial,.inl rfl,trivial⟩
   ·replace H:=iff_ h10 H
    refine z0q ?_
    refine z0c ?_
    refine z0c ?_
    refine z0b hN rfl ?_
    refine qd rfl ?_
    refine z0a (z5b x01 rfl) ?_
    refine qd rfl ?_
    refine z0w ?_
    obtain ⟨h13,H⟩:=gif H
    refine z32 (fun (k11:Nat) (s:Unit)=>[(1,.dat (vlst (List.map z1a apps2))),(2,.dat (vlst (List.map z00 l3))),(3,.ptr 1 0),(25,.dat (vint (l3.length:Int))),(26,.dat (vint (k11:Int)))]) (fun (k11:Nat) (s:Unit)=>[(1,.box none 29 [.dat (vlst (List.map z0y c1.Products)),.dat (vlst (List.map z01 c1.Plans))])]) () H ⟨rfl,rfl,rfl,rfl,rfl,trivial⟩ ⟨rfl,trivial⟩ (fun _ _=>rfl) ?_ ?_
    ·rintro ⟨⟩ H
     replace H:y28=some r:=H
     unfold y28 at H
     refine z0c ?_
     refine z0b hN rfl ?_
     refine z0a (z03 rfl rfl) ?_
     refine z0c ?_
     refine z0k _ rfl (fun h=>(lt_t h).elim) (fun h => ?_)
     refine z1j ?_
     refine z0c ?_
     refine z0b hN rfl ?_
     refine qe rfl ?_
     refine z0t ?_
     cases H
     exact ⟨trivial,.inl rfl,trivial⟩
    ·rintro k11 x14 ⟨⟩ q12 h15 h16 H hq12
     replace H:y08 c1 apps2 l3 k11 x14=some q12:=H
     unfold y08 at H
     refine z0c ?_
     refine z0b hN rfl ?_
     refine z0a (z03 rfl rfl) ?_
     refine z0c ?_
     refine z0k _ rfl (fun h => ?_) (fun h=>(lt_f h15 h).elim)
     refine z0q ?_
     refine z0c ?_
     refine z0w ?_
     refine z0c ?_
     refine z0b hN rfl ?_
     refine qd rfl ?_
     refine qe rfl ?_
     refine z0c ?_
     refine z0b hN rfl ?_
     refine z0h (z06 z5x rfl rfl rfl) rfl ?_
     refine qd rfl ?_
     refine qd rfl ?_
     refine qd rfl ?_
     obtain ⟨r17,h18,H⟩:=bnd H
     refine z0a (z0z (y9d c1 apps2 l3 (k11:Int) r17 h18) ⟨.inl rfl,.inl rfl,.inl rfl,.inl rfl,trivial⟩) ?_
     refine qe rfl ?_
     refine z0c ?_
     refine z0b hN rfl ?_
     refine qd rfl ?_
     refine z0a (z6y rfl rfl) ?_
     refine z0k _ rfl (fun h19 => ?_) (fun h19 => ?_)
     ·replace H:=ift h19 H
      refine z0c ?_
      refine z0b hN rfl ?_
      refine qd rfl ?_
      refine qe rfl ?_
      refine z0t ?_
      replace H:=retl H hq12
      cases H
      exact ⟨trivial,.inl rfl,trivial⟩
     ·replace H:=iff_ h19 H
      refine z0q ?_
      refine z0b hN rfl ?_
      refine z0a (z3h rfl rfl (by omega)) ?_
      refine qd rfl ?_
      exact ⟨_,z5d H,⟨rfl,rfl,rfl,rfl,rfl,trivial⟩,⟨rfl,trivial⟩⟩
theorem y9b (c1:z0i) (apps2:(List z0s)) (l3:(List z0f)) (uses4:(List z0e)) (r:(Int)) (H:y0u c1 apps2 l3 uses4=some r):Fn Tryz.prog 39 [vagg (z1h c1),vlst (List.map z1a apps2),vlst (List.map z00 l3),vlst (List.map z0v uses4)] (z1x [vint r]):=by
 refine ⟨by kernel_rfl,z1s (us:=[vint r]) Tryz.func39 rfl rfl rfl rfl fun X hN => ?_⟩
 unfold y0u at H
 refine z0c ?_
 refine z0b hN rfl ?_
 refine z0g (z16 1 rfl) rfl ?_
 refine qe rfl ?_
 refine z0c ?_
 refine z0c ?_
 refine z0b hN rfl ?_
 refine z0h (z06 z5x rfl rfl rfl) rfl ?_
 refine qd rfl ?_
 refine qd rfl ?_
 obtain ⟨r5,h6,H⟩:=bnd H
 refine z0a (z0z (y8t c1 apps2 l3 r5 h6) ⟨.inl rfl,.inl rfl,.inl rfl,trivial⟩) ?_
 refine qe rfl ?_
 refine z0c ?_
 refine z0b hN rfl ?_
 refine qd rfl ?_
 refine z0a (z6y rfl rfl) ?_
 refine z0k _ rfl (fun h7 => ?_) (fun h7 => ?_)
 ·replace H:=ift h7 H
  refine z0c ?_
  refine z0b hN rfl ?_
  refine qd rfl ?_
  refine qe rfl ?_
  refine z0t ?_
  cases H
  exact ⟨trivial,.inl rfl,trivial⟩
 ·replace H:=iff_ h7 H
  refine z0q ?_
  refine z0c ?_
  refine z0b hN rfl ?_
  refine z0h (z06 z5x rfl rfl rfl) rfl ?_
  refine qd rfl ?_
  refine qd rfl ?_
  obtain ⟨r8,h9,H⟩:=bnd H
  refine z0a (z0z (y4u c1 apps2 uses4 r8 h9) ⟨.inl rfl,.inl rfl,.inl rfl,trivial⟩) ?_
  refine qe rfl ?_
  refine z0t ?_
  cases H
  exact ⟨trivial,.inl rfl,trivial⟩
theorem y8s (v1:Int) (r:(Int)) (H:z95 v1=some r):Fn Tryz.prog 82 [vint v1] (z1x [vint r]):=by
 refine ⟨by kernel_rfl,z1s (us:=[vint r]) Tryz.func82 rfl rfl rfl rfl fun X hN => ?_⟩
 unfold z95 at H
 refine z0c ?_
 refine z0b hN rfl ?_
 refine qe rfl ?_
 refine z0c ?_
 refine z0c ?_
 refine z0b hN rfl ?_
 refine qd rfl ?_
 obtain ⟨r2,h3,H⟩:=bnd H
 refine z0a (z0z (y8z v1 r2 h3) ⟨.inl rfl,trivial⟩) ?_
 refine z0a (z3s rfl) ?_
 refine z0k _ rfl (fun h4 => ?_) (fun h4 => ?_)
 ·replace H:=ift h4 H
  refine z0c ?_
  refine z0b hN rfl ?_
  refine qe rfl ?_
  refine z0t ?_
  cases H
  exact ⟨trivial,.inl rfl,trivial⟩
 ·replace H:=iff_ h4 H
  refine z0q ?_
  refine z0c ?_
  refine z0b hN rfl ?_
  refine qe rfl ?_
  refine z0t ?_
  cases H
  exact ⟨trivial,.inl rfl,trivial⟩
theorem x0g (c1:z0i) (apps2:(List z0s)) (app3:Bs) (product4:Bs) (v5:Int) (r:(Int)) (H:y1s c1 apps2 app3 product4 v5=some r):Fn Tryz.prog 40 [vagg (z1h c1),vlst (List.map z1a apps2),vstr app3,vstr product4,vint v5] (z1x [vint r]):=by
 refine ⟨by kernel_rfl,z1s (us:=[vint r]) Tryz.func40 rfl rfl rfl rfl fun X hN => ?_⟩
 unfold y1s at H
 refine z0c ?_
 refine z0b hN rfl ?_
 refine z0g (z16 1 rfl) rfl ?_
 refine qe rfl ?_
 refine z0c ?_
 refine z0b hN rfl ?_
 refine qd rfl ?_
 refine qd rfl ?_
 obtain ⟨r6,h7,H⟩:=bnd H
 refine z0a (z0z (y61 apps2 app3 r6 h7) ⟨.inl rfl,.inl rfl,trivial⟩) ?_
 refine qd rfl ?_
 refine z0a (z2y rfl rfl) ?_
 refine z0a (z2y rfl rfl) ?_
 refine qe rfl ?_
 refine qe rfl ?_
 refine z0c ?_
 refine z0b hN rfl ?_
 refine z0h (z06 z5x rfl rfl rfl) rfl ?_
 refine qd rfl ?_
 obtain ⟨r8,h9,H⟩:=bnd H
 refine z0a (z0z (y22 c1 product4 r8 h9) ⟨.inl rfl,.inl rfl,trivial⟩) ?_
 refine qd rfl ?_
 refine z0a (z2y rfl rfl) ?_
 refine z0a (z2y rfl rfl) ?_
 refine qe rfl ?_
 refine qe rfl ?_
 refine z0c ?_
 refine z0c ?_
 refine z0b hN rfl ?_
 refine qd rfl ?_
 refine z0a (z3s rfl) ?_
 refine qd rfl ?_
 refine y4h rfl rfl (fun hc=>z0j (.dat _) rfl) ?_
 refine y4h rfl rfl (fun hc=>z3s (cnd (c:=(!(!r6.2))) hc)) ?_
 refine z0a (z8q rfl rfl (fun hb=>(cnd (c:=(!(!r6.2))) (notI hb)))) ?_
 refine z0k _ rfl (fun h10 => ?_) (fun h10 => ?_)
 ·replace H:=ift h10 H
  refine z0c ?_
  refine z0b hN rfl ?_
  refine qe rfl ?_
  refine z0t ?_
  cases H
  exact ⟨trivial,.inl rfl,trivial⟩
 ·replace H:=iff_ h10 H
  refine z0q ?_
  refine z0c ?_
  refine z0b hN rfl ?_
  refine qd rfl ?_
  obtain ⟨r11,h12,H⟩:=bnd H
  refine z0a (z0z (y8s v5 r11 h12) ⟨.inl rfl,trivial⟩) ?_
  refine qe rfl ?_
  refine z0t ?_
  cases H
  exact ⟨trivial,.inl rfl,trivial⟩
theorem y9y  (r:(z0o)) (H:y3l  = some r):Fn Tryz.prog 84 [] (z1x [vagg (z1g r)]):=by
 refine ⟨by kernel_rfl,z1s (us:=[vagg (z1g r)]) Tryz.func84 rfl rfl rfl rfl fun X hN => ?_⟩
 unfold y3l at H
 refine z0c ?_
 refine z0b hN rfl ?_
 refine z0g (z1m 1 y6x rfl) rfl ?_
 refine z0c ?_
 refine z0b hN rfl ?_
 refine z0a (z09 (u':=vagg (z1g (z0o.mk 0 [] 0 (-1)))) (z3k [(3,[vint (-1)])] y6x w3o rfl ⟨rfl,.inl ⟨_,rfl,rfl,rfl⟩,rfl,trivial⟩) rfl) ?_
 refine z0g (z08 z6k rfl rfl rfl rfl) rfl ?_
 refine z0t ?_
 cases H
 exact ⟨trivial,.inl ⟨_,_,_,z1g (z0o.mk 0 [] 0 (-1)),rfl,rfl,rfl,rfl,z6k⟩,trivial⟩
theorem y8q (s1:z3a) (app2:Bs) (product3:Bs) (r:(z0o)) (H:y0x s1 app2 product3=some r):FnG Tryz.prog 42 [.ptr 0 0,.dat (vstr app2),.dat (vstr product3)] [(0,.box (some 0) 136 [.mp 2,.mp 3]),(2,.opq (some 0) (y78 z29 s1.subs_)),(3,.opq (some 0) (y78 z4k s1.asks_))] (.dat (z1x [vagg (z1g r)])) [(0,.box (some 0) 136 [.mp 2,.mp 3]),(2,.opq (some 0) (y78 z29 s1.subs_)),(3,.opq (some 0) (y78 z4k s1.asks_)),(10,.box none 51 (List.map .dat (z1g r)))]:=by
 refine y5v (by kernel_rfl) Tryz.func42 rfl rfl rfl rfl fun X A hN => ?_
 unfold y0x at H
 refine z0c ?_
 refine z0b hN rfl ?_
 refine z0g (z1m 10 y6x rfl) rfl ?_
 refine z0c ?_
 refine z0b hN rfl ?_
 refine z0a (z0j (.ptr _ _) rfl) ?_
 refine z0a (y34 rfl) ?_
 refine z0a (z0m x3y rfl) ?_
 refine z0h (z0l w0q rfl rfl) rfl ?_
 refine qd rfl ?_
 refine qd rfl ?_
 refine z0a (z09 (u':=vagg (y2k (z0u.mk app2 product3))) (z3k [(0,[vstr app2]),(1,[vstr product3])] w0o w3m rfl ⟨rfl,.inl ⟨_,rfl,rfl,rfl⟩,rfl,rfl,.inl ⟨_,rfl,rfl,rfl⟩,rfl,trivial⟩) rfl) ?_
 obtain ⟨h4,H⟩:=gif H
 refine z0h (z09 (u':=vtup [vagg (z1g ((lkG s1.subs_ (z0u.mk app2 product3)).getD (z0o.mk 0 [] 0 0))),z1p ((lkG s1.subs_ (z0u.mk app2 product3)).isSome)]) (x9n (z0u.mk app2 product3) z6l rfl rfl h4) rfl) rfl ?_
 refine qd rfl ?_
 refine z0a (z2y rfl rfl) ?_
 refine z0a (z2y rfl rfl) ?_
 refine z0g (z1m 11 y6x rfl) rfl ?_
 refine z0g (z08 z6k rfl rfl rfl rfl) rfl ?_
 refine qe rfl ?_
 refine z0c ?_
 refine z0c ?_
 refine z0b hN rfl ?_
 refine qd rfl ?_
 refine z0a (z3s rfl) ?_
 refine z0k _ rfl (fun h5 => ?_) (fun h5 => ?_)
 ·replace H:=ift h5 H
  refine z0c ?_
  refine z0b hN rfl ?_
  obtain ⟨r6,h7,H⟩:=bnd H
  refine z0a (z0z (y9y  r6 h7) trivial) ?_
  refine z0g (z08 z6k rfl rfl rfl rfl) rfl ?_
  refine z0t ?_
  have eH:r6=r:=Option.some.inj H
  subst eH
  exact ⟨trivial,[(6,.ptr 10 0)],⟨rfl,trivial⟩,⟨rfl,rfl,rfl,rfl,trivial⟩,rfl,.inl ⟨[vagg (z1g r6)],⟨⟨_,_,_,z1g r6,rfl,rfl,rfl,rfl,z6k⟩,trivial⟩,rfl⟩⟩
 ·replace H:=iff_ h5 H
  refine z0q ?_
  refine z0c ?_
  refine z0b hN rfl ?_
  refine z0h (z06 z6k rfl rfl rfl) rfl ?_
  refine z0g (z08 z6k rfl rfl rfl rfl) rfl ?_
  refine z0t ?_
  cases H
  exact ⟨trivial,[(6,.ptr 10 0)],⟨rfl,trivial⟩,⟨rfl,rfl,rfl,rfl,trivial⟩,rfl,.inl ⟨[vagg (z1g (z0o.mk (((lkG s1.subs_ (z0u.mk app2 product3)).getD (z0o.mk 0 [] 0 0)).State) (((lkG s1.subs_ (z0u.mk app2 product3)).getD (z0o.mk 0 [] 0 0)).Plan) (((lkG s1.subs_ (z0u.mk app2 product3)).getD (z0o.mk 0 [] 0 0)).Since) (((lkG s1.subs_ (z0u.mk app2 product3)).getD (z0o.mk 0 [] 0 0)).First)))],⟨⟨_,_,_,z1g (z0o.mk (((lkG s1.subs_ (z0u.mk app2 product3)).getD (z0o.mk 0 [] 0 0)).State) (((lkG s1.subs_ (z0u.mk app2 product3)).getD (z0o.mk 0 [] 0 0)).Plan) (((lkG s1.subs_ (z0u.mk app2 product3)).getD (z0o.mk 0 [] 0 0)).Since) (((lkG s1.subs_ (z0u.mk app2 product3)).getD (z0o.mk 0 [] 0 0)).First)),rfl,rfl,rfl,rfl,z6k⟩,trivial⟩,rfl⟩⟩
theorem y9z (state1:Int) (r:(Bool)) (H:y3m state1=some r):Fn Tryz.prog 127 [vint state1] (z1x [z1p r]):=by
 refine ⟨by kernel_rfl,z1s (us:=[z1p r]) Tryz.func127 rfl rfl rfl rfl fun X hN => ?_⟩
 unfold y3m at H
 refine z0c ?_
 refine z0b hN rfl ?_
 refine qe rfl ?_
 refine z0c ?_
 refine z0b hN rfl ?_
 refine qd rfl ?_
 refine z0a (z2g rfl rfl) ?_
 refine qd rfl ?_
 refine y4h rfl rfl (fun hc=>z0j (.dat _) rfl) ?_
 refine y4h rfl rfl (fun hc=>z2g (cnd (c:=(!(decide (state1=2)))) hc) rfl) ?_
 refine z0a (z8q rfl rfl (fun hb=>(cnd (c:=(!(decide (state1=2)))) (notI hb)))) ?_
 refine qe rfl ?_
 refine z0t ?_
 cases H
 exact ⟨trivial,.inl rfl,trivial⟩
theorem x2s (s1:z0o) (x2:z0f) (p3:z0p) (r:(z0o×Bool)) (H:y5f s1 x2 p3=some r):Fn Tryz.prog 114 [vagg (z1g s1),vagg (z00 x2),vagg (z01 p3)] (z1x [vagg (z1g r.1),z1p r.2]):=by
 refine ⟨by kernel_rfl,z1s (us:=[vagg (z1g r.1),z1p r.2]) Tryz.func114 rfl rfl rfl rfl fun X hN => ?_⟩
 unfold y5f at H
 refine z0c ?_
 refine z0b hN rfl ?_
 refine z0g (z16 1 rfl) rfl ?_
 refine z0g (z16 2 rfl) rfl ?_
 refine z0g (z16 3 rfl) rfl ?_
 refine z0g (z1m 4 y6x rfl) rfl ?_
 refine qe rfl ?_
 refine z0c ?_
 refine z0w ?_
 refine z0c ?_
 refine z0b hN rfl ?_
 refine z0a (z0m y0n rfl) ?_
 refine z0h (z0l tyS3 rfl rfl) rfl ?_
 obtain ⟨r4,h5,H⟩:=bnd H
 refine z0a (z0z (y9z s1.State r4 h5) ⟨.inl rfl,trivial⟩) ?_
 refine qe rfl ?_
 refine z0k _ rfl (fun h6 => ?_) (fun h6 => ?_)
 ·replace H:=ift h6 H
  refine z0c ?_
  refine z0c ?_
  refine z0b hN rfl ?_
  refine z0a (z0m y4l rfl) ?_
  refine z0h (z0l tyS9 rfl rfl) rfl ?_
  refine z0a (z0m y83 rfl) ?_
  refine z0h (z0l tyS9 rfl rfl) rfl ?_
  refine z0a (y5y rfl rfl) ?_
  refine qd rfl ?_
  refine y4h rfl rfl (fun hc=>z0m x3u rfl) ?_
  refine x64 rfl rfl (fun hc=>z0l tyS4 (cnd (c:=(!(decide (p3.Key=s1.Plan)))) hc) rfl) rfl y5x ?_
  refine z0a (z8q rfl rfl (fun hb=>(cnd (c:=(!(decide (p3.Key=s1.Plan)))) (notI hb)))) ?_
  refine z0k _ rfl (fun h7 => ?_) (fun h7 => ?_)
  ·replace H:=ift h7 H
   refine z0c ?_
   refine z0b hN rfl ?_
   refine z0h (z06 z6k rfl rfl rfl) rfl ?_
   refine z0g (z08 z6k rfl rfl rfl rfl) rfl ?_
   refine qe rfl ?_
   refine z0t ?_
   cases H
   exact ⟨trivial,.inl ⟨_,_,_,z1g s1,rfl,rfl,rfl,rfl,z6k⟩,.inl rfl,trivial⟩
  ·replace H:=iff_ h7 H
   refine z0q ?_
   refine z0c ?_
   refine z2n mixed hN rfl rfl ?_
   refine z0a (z0m y4l rfl) ?_
   refine z0h (z0l tyS9 rfl rfl) rfl ?_
   refine z0a (z0m y0b rfl) ?_
   refine z0h (z0l tyS3 rfl rfl) rfl ?_
   refine z0a (z0m y83 rfl) ?_
   refine z0g (z3b tyS9 rfl rfl rfl rfl) rfl ?_
   refine z0a (z0m x3w rfl) ?_
   refine z0g (z3b tyS3 rfl rfl rfl rfl) rfl ?_
   refine ⟨rfl,?_⟩
   refine z0c ?_
   refine z0b hN rfl ?_
   refine z0h (z06 z6k rfl rfl rfl) rfl ?_
   refine z0g (z08 z6k rfl rfl rfl rfl) rfl ?_
   refine qe rfl ?_
   refine z0t ?_
   cases H
   exact ⟨trivial,.inl ⟨_,_,_,z1g (z0o.mk s1.State p3.Key x2.At s1.First),rfl,rfl,rfl,rfl,z6k⟩,.inl rfl,trivial⟩
 ·replace H:=iff_ h6 H
  refine z0c ?_
  refine z0b hN rfl ?_
  refine z0a (z0m y0n rfl) ?_
  refine z0h (z0l tyS3 rfl rfl) rfl ?_
  refine z0a (z2g rfl rfl) ?_
  refine qe rfl ?_
  refine z0k _ rfl (fun h8 => ?_) (fun h8 => ?_)
  ·replace H:=ift h8 H
   refine z0c ?_
   refine z0b hN rfl ?_
   refine z0h (z06 z6k rfl rfl rfl) rfl ?_
   refine z0g (z08 z6k rfl rfl rfl rfl) rfl ?_
   refine qe rfl ?_
   refine z0t ?_
   cases H
   exact ⟨trivial,.inl ⟨_,_,_,z1g s1,rfl,rfl,rfl,rfl,z6k⟩,.inl rfl,trivial⟩
  ·replace H:=iff_ h8 H
   refine z0c ?_
   refine z0b hN rfl ?_
   refine z0a (z0m x3u rfl) ?_
   refine z0h (z0l tyS4 rfl rfl) rfl ?_
   refine qe rfl ?_
   refine z0k _ rfl (fun h9 => ?_) (fun h9 => ?_)
   ·replace H:=ift h9 H
    refine z0c ?_
    refine z0b hN rfl ?_
    refine z0a (z0m y4l rfl) ?_
    refine z0h (z0l tyS9 rfl rfl) rfl ?_
    refine z0a (z0m y0b rfl) ?_
    refine z0h (z0l tyS3 rfl rfl) rfl ?_
    refine z0a (z09 (u':=vagg (z1g (z0o.mk 1 p3.Key x2.At (-1)))) (z3k [(0,[vint 1]),(1,[vstr p3.Key]),(2,[vint x2.At]),(3,[vint (-1)])] y6x w3o rfl ⟨rfl,.inl ⟨_,rfl,rfl,rfl⟩,rfl,rfl,.inl ⟨_,rfl,rfl,rfl⟩,rfl,rfl,.inl ⟨_,rfl,rfl,rfl⟩,rfl,rfl,.inl ⟨_,rfl,rfl,rfl⟩,rfl,trivial⟩) rfl) ?_
    refine z0g (z08 z6k rfl rfl rfl rfl) rfl ?_
    refine qe rfl ?_
    refine z0t ?_
    cases H
    exact ⟨trivial,.inl ⟨_,_,_,z1g (z0o.mk 1 p3.Key x2.At (-1)),rfl,rfl,rfl,rfl,z6k⟩,.inl rfl,trivial⟩
   ·replace H:=iff_ h9 H
    refine z0q ?_
    refine z0c ?_
    refine z0b hN rfl ?_
    refine z0a (z0m y4l rfl) ?_
    refine z0h (z0l tyS9 rfl rfl) rfl ?_
    refine z0a (z0m y0b rfl) ?_
    refine z0h (z0l tyS3 rfl rfl) rfl ?_
    refine z0a (z0m y0b rfl) ?_
    refine z0h (z0l tyS3 rfl rfl) rfl ?_
    refine z0a (z09 (u':=vagg (z1g (z0o.mk 2 p3.Key x2.At x2.At))) (z3k [(0,[vint 2]),(1,[vstr p3.Key]),(2,[vint x2.At]),(3,[vint x2.At])] y6x w3o rfl ⟨rfl,.inl ⟨_,rfl,rfl,rfl⟩,rfl,rfl,.inl ⟨_,rfl,rfl,rfl⟩,rfl,rfl,.inl ⟨_,rfl,rfl,rfl⟩,rfl,rfl,.inl ⟨_,rfl,rfl,rfl⟩,rfl,trivial⟩) rfl) ?_
    refine z0g (z08 z6k rfl rfl rfl rfl) rfl ?_
    refine qe rfl ?_
    refine z0t ?_
    cases H
    exact ⟨trivial,.inl ⟨_,_,_,z1g (z0o.mk 2 p3.Key x2.At x2.At),rfl,rfl,rfl,rfl,z6k⟩,.inl rfl,trivial⟩
theorem x4u (kind1:Int) (state2:Int) (r:(Int×Bool)) (H:y53 kind1 state2=some r):Fn Tryz.prog 115 [vint kind1,vint state2] (z1x [vint r.1,z1p r.2]):=by
 refine ⟨by kernel_rfl,z1s (us:=[vint r.1,z1p r.2]) Tryz.func115 rfl rfl rfl rfl fun X hN => ?_⟩
 unfold y53 at H
 refine z0c ?_
 refine z0b hN rfl ?_
 refine qe rfl ?_
 refine qe rfl ?_
 refine z0c ?_
 refine z0c ?_
 refine z0b hN rfl ?_
 refine qd rfl ?_
 refine z0w ?_
 refine z0c ?_
 refine z0b hN rfl ?_
 refine z0a (z2g rfl rfl) ?_
 refine qe rfl ?_
 refine z0k _ rfl (fun h3 => ?_) (fun h3 => ?_)
 ·replace H:=ift h3 H
  refine z0c ?_
  refine z0b hN rfl ?_
  refine qd rfl ?_
  refine z0a (z2g rfl rfl) ?_
  refine qe rfl ?_
  refine qe rfl ?_
  refine z0t ?_
  cases H
  exact ⟨trivial,.inl rfl,.inl rfl,trivial⟩
 ·replace H:=iff_ h3 H
  refine z0c ?_
  refine z0b hN rfl ?_
  refine z0a (z2g rfl rfl) ?_
  refine qe rfl ?_
  refine z0k _ rfl (fun h4 => ?_) (fun h4 => ?_)
  ·replace H:=ift h4 H
   refine z0c ?_
   refine z0b hN rfl ?_
   refine qd rfl ?_
   refine z0a (z2g rfl rfl) ?_
   refine qe rfl ?_
   refine qe rfl ?_
   refine z0t ?_
   cases H
   exact ⟨trivial,.inl rfl,.inl rfl,trivial⟩
  ·replace H:=iff_ h4 H
   refine z0c ?_
   refine z0b hN rfl ?_
   refine z0a (z2g rfl rfl) ?_
   refine qe rfl ?_
   refine z0k _ rfl (fun h5 => ?_) (fun h5 => ?_)
   ·replace H:=ift h5 H
    refine z0c ?_
    refine z0b hN rfl ?_
    refine qd rfl ?_
    refine z0a (z2g rfl rfl) ?_
    refine qe rfl ?_
    refine qe rfl ?_
    refine z0t ?_
    cases H
    exact ⟨trivial,.inl rfl,.inl rfl,trivial⟩
   ·replace H:=iff_ h5 H
    refine z0c ?_
    refine z0b hN rfl ?_
    refine z0a (z2g rfl rfl) ?_
    refine qe rfl ?_
    refine z0k _ rfl (fun h6 => ?_) (fun h6 => ?_)
    ·replace H:=ift h6 H
     refine z0c ?_
     refine z0b hN rfl ?_
     refine qd rfl ?_
     refine z0a (z2g rfl rfl) ?_
     refine qe rfl ?_
     refine qe rfl ?_
     refine z0t ?_
     cases H
     exact ⟨trivial,.inl rfl,.inl rfl,trivial⟩
    ·replace H:=iff_ h6 H
     refine z0q ?_
     refine z07 (ι:=Bool) (fun i=>[(4,.dat (vint 4)),(5,.dat (z1p i))]) (fun i=>[]) (fun i=>y2t i=some r) (fun i=>rfl) ?_ ?_
     ·skip
      refine z0b hN rfl ?_
      refine qd rfl ?_
      refine z0a (z2g rfl rfl) ?_
      refine qd rfl ?_
      refine z15 (j:=2) rfl rfl (fun h7 => ?_) (fun h7 => ?_) rfl
      ·have h8:=un3 h7
       replace H:=iff_ h8 H
       refine z04 rfl rfl h7 (z0j (.dat _) rfl) ?_
       obtain ⟨r9,h10,H⟩:=bnd H
       refine z04 rfl rfl h7 (z0z (y9z state2 r9 h10) ⟨.inl rfl,trivial⟩) ?_
       refine z0a (z1l rfl (bFF h8) rfl) ?_
       refine qe rfl ?_
       refine qe rfl ?_
       exact ⟨r9,H,⟨rfl,rfl,trivial⟩,trivial⟩
      ·have h11:=un4 h7
       replace H:=ift h11 H
       refine z0n rfl rfl h7 ?_
       refine z0n rfl rfl h7 ?_
       refine z0a (z1t rfl (bTT h11) rfl) ?_
       refine qe rfl ?_
       refine qe rfl ?_
       exact ⟨true,H,⟨rfl,rfl,trivial⟩,trivial⟩
     ·rintro v12 H
      replace H:y2t v12=some r:=H
      unfold y2t at H
      refine z0t ?_
      cases H
      exact ⟨trivial,.inl rfl,.inl rfl,trivial⟩
theorem x0i (c1:z0i) (s2:z0o) (x3:z0f) (r:(z0o×Bool)) (H:y1t c1 s2 x3=some r):Fn Tryz.prog 83 [vagg (z1h c1),vagg (z1g s2),vagg (z00 x3)] (z1x [vagg (z1g r.1),z1p r.2]):=by
 refine ⟨by kernel_rfl,z1s (us:=[vagg (z1g r.1),z1p r.2]) Tryz.func83 rfl rfl rfl rfl fun X hN => ?_⟩
 unfold y1t at H
 refine z0c ?_
 refine z0b hN rfl ?_
 refine z0g (z16 1 rfl) rfl ?_
 refine z0g (z16 2 rfl) rfl ?_
 refine z0g (z16 3 rfl) rfl ?_
 refine z0g (z1m 4 y6x rfl) rfl ?_
 refine qe rfl ?_
 refine z0c ?_
 refine z0c ?_
 refine z0b hN rfl ?_
 refine z0a (z0m z8k rfl) ?_
 refine z0h (z0l tyS3 rfl rfl) rfl ?_
 refine z0a (z2g rfl rfl) ?_
 refine z0k _ rfl (fun h4 => ?_) (fun h4 => ?_)
 ·replace H:=ift h4 H
  refine z0c ?_
  refine z0b hN rfl ?_
  refine z0h (z06 z5x rfl rfl rfl) rfl ?_
  refine z0a (z0m y3f rfl) ?_
  refine z0h (z0l tyS9 rfl rfl) rfl ?_
  obtain ⟨r5,h6,H⟩:=bnd H
  refine z0a (z0z (y4t c1 x3.Plan r5 h6) ⟨.inl rfl,.inl rfl,trivial⟩) ?_
  refine qd rfl ?_
  refine z0a (z2y rfl rfl) ?_
  refine z0a (z2y rfl rfl) ?_
  refine z0g (z1m 5 y80 rfl) rfl ?_
  refine z0g (z08 y47 rfl rfl rfl rfl) rfl ?_
  refine qe rfl ?_
  refine z0c ?_
  refine z0b hN rfl ?_
  refine z0h (z06 z6k rfl rfl rfl) rfl ?_
  refine z0h (z06 z9s rfl rfl rfl) rfl ?_
  refine z0h (z06 y47 rfl rfl rfl) rfl ?_
  obtain ⟨r7,h8,H⟩:=bnd H
  refine z0a (z0z (x2s s2 x3 r5.1 r7 h8) ⟨.inl rfl,.inl rfl,.inl rfl,trivial⟩) ?_
  refine z0a (z2y rfl rfl) ?_
  refine z0a (z2y rfl rfl) ?_
  refine z0g (z08 z6k rfl rfl rfl rfl) rfl ?_
  refine qe rfl ?_
  refine z0t ?_
  cases H
  exact ⟨trivial,.inl ⟨_,_,_,z1g r7.1,rfl,rfl,rfl,rfl,z6k⟩,.inl rfl,trivial⟩
 ·replace H:=iff_ h4 H
  refine z0q ?_
  refine z0c ?_
  refine z0b hN rfl ?_
  refine z0a (z0m z8k rfl) ?_
  refine z0h (z0l tyS3 rfl rfl) rfl ?_
  refine z0a (z0m y0n rfl) ?_
  refine z0h (z0l tyS3 rfl rfl) rfl ?_
  obtain ⟨r9,h10,H⟩:=bnd H
  refine z0a (z0z (x4u x3.Kind s2.State r9 h10) ⟨.inl rfl,.inl rfl,trivial⟩) ?_
  refine qd rfl ?_
  refine z0a (z2y rfl rfl) ?_
  refine z0a (z2y rfl rfl) ?_
  refine qe rfl ?_
  refine qe rfl ?_
  refine z0c ?_
  refine z0c ?_
  refine z0b hN rfl ?_
  refine qd rfl ?_
  refine z0a (z3s rfl) ?_
  refine z0k _ rfl (fun h11 => ?_) (fun h11 => ?_)
  ·replace H:=ift h11 H
   refine z0c ?_
   refine z0b hN rfl ?_
   refine z0h (z06 z6k rfl rfl rfl) rfl ?_
   refine z0g (z08 z6k rfl rfl rfl rfl) rfl ?_
   refine qe rfl ?_
   refine z0t ?_
   cases H
   exact ⟨trivial,.inl ⟨_,_,_,z1g s2,rfl,rfl,rfl,rfl,z6k⟩,.inl rfl,trivial⟩
  ·replace H:=iff_ h11 H
   refine z0q ?_
   refine z0c ?_
   refine z2n mixed hN rfl rfl ?_
   refine qd rfl ?_
   refine z0a (z0m y0b rfl) ?_
   refine z0h (z0l tyS3 rfl rfl) rfl ?_
   refine z0a (z0m y0n rfl) ?_
   refine z0g (z3b tyS3 rfl rfl rfl rfl) rfl ?_
   refine z0a (z0m x3w rfl) ?_
   refine z0g (z3b tyS3 rfl rfl rfl rfl) rfl ?_
   refine ⟨rfl,?_⟩
   refine z07 (ι:=Int) (fun i=>[(4,.ptr 2 0),(6,.ptr 4 0)]) (fun i=>[(2,.box none 51 [.dat (vint r9.1),.dat (vstr s2.Plan),.dat (vint x3.At),.dat (vint i)]),(4,.box none 51 [.dat (vint 0),.dat (vstr []),.dat (vint 0),.dat (vint 0)])]) (fun i=>z9t s2 x3 r9 i=some r) (fun i=>rfl) ?_ ?_
   ·skip
    refine z0c ?_
    refine z0b hN rfl ?_
    refine qd rfl ?_
    refine z0a (z2g rfl rfl) ?_
    refine qd rfl ?_
    refine z4b rfl rfl (fun hc=>z0m x1q rfl) ?_
    refine y6d rfl rfl (fun hc=>z0l tyS3 (cnd (c:=(decide (r9.1=2))) hc) rfl) rfl y5x ?_
    refine z4b rfl rfl (fun hc=>z03 (cnd (c:=(decide (r9.1=2))) hc) rfl) ?_
    refine z0a (z25 rfl (fun hb=>(cnd (c:=(decide (r9.1=2))) hb)) rfl) ?_
    refine z0k _ rfl (fun h12 => ?_) (fun h12 => ?_)
    ·replace H:=ift h12 H
     refine z0b hN rfl ?_
     refine z0a (z0m y0b rfl) ?_
     refine z0h (z0l tyS3 rfl rfl) rfl ?_
     refine z0a (z0m x1q rfl) ?_
     refine z0g (z3b tyS3 rfl rfl rfl rfl) rfl ?_
     exact ⟨x3.At,H,⟨rfl,rfl,trivial⟩,⟨rfl,rfl,trivial⟩⟩
    ·replace H:=iff_ h12 H
     refine z0q ?_
     exact ⟨s2.First,H,⟨rfl,rfl,trivial⟩,⟨rfl,rfl,trivial⟩⟩
   ·rintro c13 H
    replace H:z9t s2 x3 r9 c13=some r:=H
    unfold z9t at H
    refine z0c ?_
    refine z0b hN rfl ?_
    refine z0h (z06 z6k rfl rfl rfl) rfl ?_
    refine z0g (z08 z6k rfl rfl rfl rfl) rfl ?_
    refine qe rfl ?_
    refine z0t ?_
    cases H
    exact ⟨trivial,.inl ⟨_,_,_,z1g (z0o.mk r9.1 s2.Plan x3.At c13),rfl,rfl,rfl,rfl,z6k⟩,.inl rfl,trivial⟩
theorem x0j (v1:z0i) (v2:(List z0f)) (v3:Int) (r:(z3a×(List Int))) (H:y0l v1 v2 v3=some r):Fn Tryz.prog 41 [vagg (z1h v1),vlst (List.map z00 v2),vint v3] (z1x [y38 [[vmpG z29 r.1.subs_,vmpG z4k r.1.asks_]] 0 0,vlst (List.map z5a r.2)]):=by
 refine ⟨by kernel_rfl,z1s (us:=[y38 [[vmpG z29 r.1.subs_,vmpG z4k r.1.asks_]] 0 0,vlst (List.map z5a r.2)]) Tryz.func41 rfl rfl rfl rfl fun X hN => ?_⟩
 unfold y0l at H
 refine z0c ?_
 refine z0b hN rfl ?_
 refine z0g (z16 1 rfl) rfl ?_
 refine qe rfl ?_
 refine qe rfl ?_
 refine z0c ?_
 refine z0b hN rfl ?_
 refine z0g (x6x 2 z6l) rfl ?_
 refine z0g (x6x 3 y27) rfl ?_
 refine z0a (x77 (s' := .comp false [.mp 2,.mp 3]) (x3b [] [(0,[.mp 2]),(1,[.mp 3])] w7x w71 rfl ⟨rfl,.inr (.inr ⟨_,rfl,rfl⟩),rfl,rfl,.inr (.inr ⟨_,rfl,rfl⟩),rfl,trivial⟩) rfl) ?_
 refine z0g (w35 4 rfl) rfl ?_
 refine z0a (z1o (.ptr _ _) rfl) ?_
 refine z0c ?_
 refine z0b hN rfl ?_
 refine qe rfl ?_
 refine z07 (ι:=(List Int)×(List (z0u×Int))×(List (z0u×z0o))) (fun i=>[(8,.ptr 4 0),(9,.row 5 i.1.length)]) (fun i=>[(2,.opq none (y78 z29 i.2.2)),(3,.opq none (y78 z4k i.2.1)),(4,.box none 136 [.mp 2,.mp 3]),(5,.row 3 1 (List.map z5a i.1))]) (fun i=>z7y i.1 i.2.1 i.2.2=some r) (fun i=>rfl) ?_ ?_
 ·skip
  refine z0c ?_
  refine z0b hN rfl ?_
  refine qd rfl ?_
  refine z0a (z5b x01 rfl) ?_
  refine qd rfl ?_
  refine z0w ?_
  refine y2w 9 5 3 1 rfl rfl rfl ?_
  obtain ⟨h9,H⟩:=gif H
  refine z32 (fun (k7:Nat) (s:(List (z0u×z0o))×(List (z0u×Int))×(List Int))=>[(2,.dat (vint v3)),(3,.ptr 1 0),(8,.ptr 4 0),(9,.row 5 s.2.2.length),(19,.dat (vlst (List.map z00 v2))),(20,.dat (vint (v2.length:Int))),(21,.dat (vint (k7:Int)))]) (fun (k7:Nat) (s:(List (z0u×z0o))×(List (z0u×Int))×(List Int))=>[(1,.box none 29 [.dat (vlst (List.map z0y v1.Products)),.dat (vlst (List.map z01 v1.Plans))]),(2,.opq none (y78 z29 s.1)),(3,.opq none (y78 z4k s.2.1)),(4,.box none 136 [.mp 2,.mp 3]),(5,.row 3 1 (List.map z5a s.2.2))]) ([],[],[]) H ⟨rfl,rfl,rfl,rfl,rfl,rfl,rfl,trivial⟩ ⟨rfl,rfl,rfl,rfl,rfl,trivial⟩ (fun _ _=>rfl) ?_ ?_
  ·rintro ⟨m4,m5,l6⟩ H
   replace H:z9u m4 m5 l6=some r:=H
   unfold z9u at H
   refine z0c ?_
   refine z0b hN rfl ?_
   refine z0a (z03 rfl rfl) ?_
   refine z0c ?_
   refine z0k _ rfl (fun h=>(lt_t h).elim) (fun h => ?_)
   refine z1j ?_
   exact ⟨(l6,m5,m4),H,⟨rfl,rfl,trivial⟩,⟨rfl,rfl,rfl,rfl,trivial⟩⟩
  ·rintro k7 x10 ⟨m4,m5,l6⟩ q8 h11 h12 H hq8
   replace H:z5y v1 v3 k7 x10 m4 m5 l6=some q8:=H
   unfold z5y at H
   refine z0c ?_
   refine z0b hN rfl ?_
   refine z0a (z03 rfl rfl) ?_
   refine z0c ?_
   refine z0k _ rfl (fun h => ?_) (fun h=>(lt_f h11 h).elim)
   refine z0q ?_
   refine z07 (ι:=(List Int)×(List (z0u×Int))×(List (z0u×z0o))) (fun i=>[(2,.dat (vint v3)),(3,.ptr 1 0),(8,.ptr 4 0),(9,.row 5 i.1.length),(19,.dat (vlst (List.map z00 v2))),(20,.dat (vint (v2.length:Int))),(21,.dat (vint (k7:Int)))]) (fun i=>[(1,.box none 29 [.dat (vlst (List.map z0y v1.Products)),.dat (vlst (List.map z01 v1.Plans))]),(2,.opq none (y78 z29 i.2.2)),(3,.opq none (y78 z4k i.2.1)),(4,.box none 136 [.mp 2,.mp 3]),(5,.row 3 1 (List.map z5a i.1))]) (fun i=>z7x i.1 i.2.1 i.2.2=some q8) (fun i=>rfl) ?_ ?_
   ·skip
    refine z0w ?_
    refine z0c ?_
    refine z0b hN rfl ?_
    refine qd rfl ?_
    refine z0a (y2a y6m (fun _=>rfl) rfl rfl h12) ?_
    refine z0a (z2l z9s rfl (z3e h12) rfl) ?_
    refine z0g (z1m 6 x0v rfl) rfl ?_
    refine qe rfl ?_
    refine z0g (z08 z9s rfl rfl rfl rfl) rfl ?_
    refine z0c ?_
    refine z0c ?_
    refine z0b hN rfl ?_
    refine z0a (z0m y0b rfl) ?_
    refine z0h (z0l tyS3 rfl rfl) rfl ?_
    refine qd rfl ?_
    refine z0a (z4c rfl rfl) ?_
    refine z0k _ rfl (fun h13 => ?_) (fun h13 => ?_)
    ·replace H:=ift h13 H
     refine z1j ?_
     replace H:=outl H hq8
     exact ⟨(l6,m5,m4),H,⟨rfl,rfl,trivial⟩,⟨rfl,rfl,rfl,rfl,trivial⟩⟩
    ·replace H:=iff_ h13 H
     refine z0q ?_
     refine z0c ?_
     refine z2n mixed hN rfl rfl ?_
     refine z0h (z06 z5x rfl rfl rfl) rfl ?_
     refine z0a (z0j (.ptr _ _) rfl) ?_
     refine z0a (z0m y3g rfl) ?_
     refine z0h (z0l tyS9 rfl rfl) rfl ?_
     refine z0a (z0m y19 rfl) ?_
     refine z0h (z0l tyS9 rfl rfl) rfl ?_
     obtain ⟨r14,h15,H⟩:=bnd H
     refine z4y (rn [(0,4),(2,2),(3,3),(10,7)]) [(0,_,_,some _),(2,_,_,some _),(3,_,_,some _)] [(10,_)] (y8q (z3a.mk m4 m5) x10.App x10.Product r14 h15) ⟨rfl,rfl,rfl,rfl,trivial⟩ ⟨.inl (.inl rfl),.inl (.inl rfl),.inl (.inl rfl),trivial⟩ ⟨⟨⟨rfl,rfl⟩,trivial⟩,⟨rfl,trivial⟩,⟨rfl,trivial⟩,trivial⟩ rfl ?_
     refine z0h (z06 z9s rfl rfl rfl) rfl ?_
     obtain ⟨r16,h17,H⟩:=bnd H
     refine z0a (z0z (x0i v1 r14 x10 r16 h17) ⟨.inl rfl,.inl rfl,.inl rfl,trivial⟩) ?_
     refine qd rfl ?_
     refine z0a (z2y rfl rfl) ?_
     refine z0a (z2y rfl rfl) ?_
     refine z0g (z1m 8 y6x rfl) rfl ?_
     refine z0g (z08 z6k rfl rfl rfl rfl) rfl ?_
     refine qe rfl ?_
     refine ⟨rfl,?_⟩
     refine z0c ?_
     refine z0c ?_
     refine z0b hN rfl ?_
     refine qd rfl ?_
     refine z0a (z3s rfl) ?_
     refine z0k _ rfl (fun h18 => ?_) (fun h18 => ?_)
     ·replace H:=ift h18 H
      refine z0c ?_
      refine z0b hN rfl ?_
      refine z0a (z0j (.row _ _) rfl) ?_
      refine qd rfl ?_
      refine z0a (z09 (u':=vlst (List.map z5a [(k7:Int)])) (z1w [[_]] y3v ⟨rfl,.inl ⟨_,rfl,rfl,rfl⟩,rfl,trivial⟩ rfl rfl) rfl) ?_
      obtain ⟨h19,H⟩:=gif H
      refine z0g (y7t y3v (fun _=>rfl) rfl rfl rfl ⟨by simp,by first | (simp; done) | simpa using h19⟩ rfl) rfl ?_
      refine z0a (z1o (.row _ _) rfl) ?_
      refine z1j ?_
      exact ⟨((l6++[(k7:Int)]),m5,m4),H,⟨rfl,rfl,rfl,rfl,rfl,rfl,rfl,trivial⟩,⟨rfl,rfl,rfl,rfl,rfl,trivial⟩⟩
     ·replace H:=iff_ h18 H
      refine z0q ?_
      refine z0c ?_
      refine z0b hN rfl ?_
      refine z0a (z0m y3g rfl) ?_
      refine z0h (z0l tyS9 rfl rfl) rfl ?_
      refine z0a (z0m y19 rfl) ?_
      refine z0h (z0l tyS9 rfl rfl) rfl ?_
      refine z0a (z09 (u':=vagg (y2k (z0u.mk x10.App x10.Product))) (z3k [(0,[vstr x10.App]),(1,[vstr x10.Product])] w0o w3m rfl ⟨rfl,.inl ⟨_,rfl,rfl,rfl⟩,rfl,rfl,.inl ⟨_,rfl,rfl,rfl⟩,rfl,trivial⟩) rfl) ?_
      refine z0g (z1m 9 w0o rfl) rfl ?_
      refine z0g (z08 w55 rfl rfl rfl rfl) rfl ?_
      refine z0c ?_
      refine z2n mixed hN rfl rfl ?_
      refine z0a (z0j (.ptr _ _) rfl) ?_
      refine z0a (y34 rfl) ?_
      refine z0a (z0m x3y rfl) ?_
      refine z0h (z0l w0q rfl rfl) rfl ?_
      refine z0h (z06 w55 rfl rfl rfl) rfl ?_
      refine z0h (z06 z6k rfl rfl rfl) rfl ?_
      obtain ⟨h20,H⟩:=gif H
      refine z0g (x4b (z0u.mk x10.App x10.Product) r16.1 z6l rfl rfl rfl h20) rfl ?_
      refine ⟨rfl,?_⟩
      refine z0c ?_
      refine z0b hN rfl ?_
      refine z0a (z0m z8k rfl) ?_
      refine z0h (z0l tyS3 rfl rfl) rfl ?_
      refine z0a (z2g rfl rfl) ?_
      refine z0k _ rfl (fun h21 => ?_) (fun h21 => ?_)
      ·replace H:=ift h21 H
       refine z2n mixed hN rfl rfl ?_
       refine z0a (z0j (.ptr _ _) rfl) ?_
       refine z0a (y34 rfl) ?_
       refine z0a (z0m w3p rfl) ?_
       refine z0h (z0l w7z rfl rfl) rfl ?_
       refine z0h (z06 w55 rfl rfl rfl) rfl ?_
       refine qd rfl ?_
       obtain ⟨h22,H⟩:=gif H
       refine z0g (x4b (z0u.mk x10.App x10.Product) (k7:Int) y27 rfl rfl rfl h22) rfl ?_
       refine ⟨rfl,?_⟩
       exact ⟨(l6,(ptG m5 (z0u.mk x10.App x10.Product) (k7:Int)),(ptG m4 (z0u.mk x10.App x10.Product) r16.1)),H,⟨rfl,rfl,rfl,rfl,rfl,rfl,rfl,trivial⟩,⟨rfl,rfl,rfl,rfl,rfl,trivial⟩⟩
      ·replace H:=iff_ h21 H
       refine z0q ?_
       exact ⟨(l6,m5,(ptG m4 (z0u.mk x10.App x10.Product) r16.1)),H,⟨rfl,rfl,rfl,rfl,rfl,rfl,rfl,trivial⟩,⟨rfl,rfl,rfl,rfl,rfl,trivial⟩⟩
   ·rintro ⟨v23,m24,m25⟩ H
    replace H:z7x v23 m24 m25=some q8:=H
    unfold z7x at H
    refine z0b hN rfl ?_
    refine z0a (z3h rfl rfl (by omega)) ?_
    refine qd rfl ?_
    exact ⟨_,z5d H,⟨rfl,rfl,rfl,rfl,rfl,rfl,rfl,trivial⟩,⟨rfl,rfl,rfl,rfl,rfl,trivial⟩⟩
 ·rintro ⟨v26,m27,m28⟩ H
  replace H:z7y v26 m27 m28=some r:=H
  unfold z7y at H
  refine z0c ?_
  refine z0b hN rfl ?_
  refine z0a (z0j (.ptr _ _) rfl) ?_
  refine z0a (z0j (.row _ _) rfl) ?_
  refine z0a (z1o (.ptr _ _) rfl) ?_
  refine z0a (z1o (.row _ _) rfl) ?_
  refine x87 4 0 2 w1u rfl rfl rfl ?_
  refine x87 4 1 3 w1u rfl rfl rfl ?_
  refine y98 4 [vmpG z29 m28,vmpG z4k m27] rfl rfl ?_
  refine z0t ?_
  cases H
  exact ⟨trivial,.inl rfl,y75 rfl rfl,trivial⟩
theorem y9e (s1:z3a) (app2:Bs) (product3:Bs) (r:(z0o)) (H:y0y s1 app2 product3=some r):Fn Tryz.prog 42 [y38 [[vmpG z29 s1.subs_,vmpG z4k s1.asks_]] 0 0,vstr app2,vstr product3] (z1x [vagg (z1g r)]):=by
 refine ⟨by kernel_rfl,z1s (us:=[vagg (z1g r)]) Tryz.func42 rfl rfl rfl rfl fun X hN => ?_⟩
 unfold y0y at H
 refine z0c ?_
 refine z0b hN rfl ?_
 refine z0g (z1m 1 y6x rfl) rfl ?_
 refine z0c ?_
 refine z0b hN rfl ?_
 refine qd rfl ?_
 refine z0a (w3z rfl) ?_
 refine z0a (y20 x3y rfl) ?_
 refine z0a (z24 w0q rfl rfl rfl) ?_
 refine qd rfl ?_
 refine qd rfl ?_
 refine z0a (z09 (u':=vagg (y2k (z0u.mk app2 product3))) (z3k [(0,[vstr app2]),(1,[vstr product3])] w0o w3m rfl ⟨rfl,.inl ⟨_,rfl,rfl,rfl⟩,rfl,rfl,.inl ⟨_,rfl,rfl,rfl⟩,rfl,trivial⟩) rfl) ?_
 obtain ⟨h4,H⟩:=gif H
 refine z0a (z09 (u':=vtup [vagg (z1g ((lkG s1.subs_ (z0u.mk app2 product3)).getD (z0o.mk 0 [] 0 0))),z1p ((lkG s1.subs_ (z0u.mk app2 product3)).isSome)]) (x6y (z0u.mk app2 product3) z6l rfl rfl h4) rfl) ?_
 refine qd rfl ?_
 refine z0a (z2y rfl rfl) ?_
 refine z0a (z2y rfl rfl) ?_
 refine z0g (z1m 2 y6x rfl) rfl ?_
 refine z0g (z08 z6k rfl rfl rfl rfl) rfl ?_
 refine qe rfl ?_
 refine z0c ?_
 refine z0c ?_
 refine z0b hN rfl ?_
 refine qd rfl ?_
 refine z0a (z3s rfl) ?_
 refine z0k _ rfl (fun h5 => ?_) (fun h5 => ?_)
 ·replace H:=ift h5 H
  refine z0c ?_
  refine z0b hN rfl ?_
  obtain ⟨r6,h7,H⟩:=bnd H
  refine z0a (z0z (y9y  r6 h7) trivial) ?_
  refine z0g (z08 z6k rfl rfl rfl rfl) rfl ?_
  refine z0t ?_
  have eH:r6=r:=Option.some.inj H
  subst eH
  exact ⟨trivial,.inl ⟨_,_,_,z1g r6,rfl,rfl,rfl,rfl,z6k⟩,trivial⟩
 ·replace H:=iff_ h5 H
  refine z0q ?_
  refine z0c ?_
  refine z0b hN rfl ?_
  refine z0h (z06 z6k rfl rfl rfl) rfl ?_
  refine z0g (z08 z6k rfl rfl rfl rfl) rfl ?_
  refine z0t ?_
  cases H
  exact ⟨trivial,.inl ⟨_,_,_,z1g (z0o.mk (((lkG s1.subs_ (z0u.mk app2 product3)).getD (z0o.mk 0 [] 0 0)).State) (((lkG s1.subs_ (z0u.mk app2 product3)).getD (z0o.mk 0 [] 0 0)).Plan) (((lkG s1.subs_ (z0u.mk app2 product3)).getD (z0o.mk 0 [] 0 0)).Since) (((lkG s1.subs_ (z0u.mk app2 product3)).getD (z0o.mk 0 [] 0 0)).First)),rfl,rfl,rfl,rfl,z6k⟩,trivial⟩
theorem x07 (l1:(List z0e)) (r:((List (z0e×Int)))) (H:y2n l1=some r):Fn Tryz.prog 44 [vlst (List.map z0v l1)] (z1x [vmpG y31 r]):=by
 refine ⟨by kernel_rfl,z1s (us:=[vmpG y31 r]) Tryz.func44 rfl rfl rfl rfl fun X hN => ?_⟩
 unfold y2n at H
 refine z0c ?_
 refine z0b hN rfl ?_
 refine qe rfl ?_
 refine z0c ?_
 refine z0b hN rfl ?_
 refine z0g (x6x 1 y3o) rfl ?_
 refine z0a (z1o (.mp _) rfl) ?_
 refine z0c ?_
 refine z0c ?_
 refine z0b hN rfl ?_
 refine qd rfl ?_
 refine z0a (z5b y67 rfl) ?_
 refine qd rfl ?_
 refine z0w ?_
 obtain ⟨h5,H⟩:=gif H
 refine z32 (fun (k3:Nat) (s:(List (z0e×Int)))=>[(3,.mp 1),(7,.dat (vlst (List.map z0v l1))),(8,.dat (vint (l1.length:Int))),(9,.dat (vint (k3:Int)))]) (fun (k3:Nat) (s:(List (z0e×Int)))=>[(1,.opq none (y78 y31 s))]) [] H ⟨rfl,rfl,rfl,rfl,trivial⟩ ⟨rfl,trivial⟩ (fun _ _=>rfl) ?_ ?_
 ·rintro m2 H
  replace H:y3h m2=some r:=H
  unfold y3h at H
  refine z0c ?_
  refine z0b hN rfl ?_
  refine z0a (z03 rfl rfl) ?_
  refine z0c ?_
  refine z0k _ rfl (fun h=>(lt_t h).elim) (fun h => ?_)
  refine z1j ?_
  refine z0c ?_
  refine z0b hN rfl ?_
  refine z0a (z0j (.mp _) rfl) ?_
  refine z0a (z1o (.mp _) rfl) ?_
  refine w41 2 1 w1u rfl rfl ?_
  refine z0t ?_
  cases H
  exact ⟨trivial,.inl rfl,trivial⟩
 ·rintro k3 x6 m2 q4 h7 h8 H hq4
  replace H:y0j k3 x6 m2=some q4:=H
  unfold y0j at H
  refine z0c ?_
  refine z0b hN rfl ?_
  refine z0a (z03 rfl rfl) ?_
  refine z0c ?_
  refine z0k _ rfl (fun h => ?_) (fun h=>(lt_f h7 h).elim)
  refine z0q ?_
  refine z0c ?_
  refine z0w ?_
  refine z0c ?_
  refine z0b hN rfl ?_
  refine z0a (y2a y1k (fun _=>rfl) rfl rfl h8) ?_
  refine z0a (z2l y0a rfl (z3e h8) rfl) ?_
  refine z0g (z1m 2 x3s rfl) rfl ?_
  refine z0g (z08 y0a rfl rfl rfl rfl) rfl ?_
  refine z0b hN rfl ?_
  refine z0a (z0j (.mp _) rfl) ?_
  refine z0a (z0m y6y rfl) ?_
  refine z0h (z0l tyS9 rfl rfl) rfl ?_
  refine z0a (z0m y73 rfl) ?_
  refine z0h (z0l tyS9 rfl rfl) rfl ?_
  refine z0a (z0m y58 rfl) ?_
  refine z0h (z0l tyS3 rfl rfl) rfl ?_
  refine z0a (z09 (u':=vagg (z0v (z0e.mk x6.App x6.Product x6.Month 0))) (z3k [(0,[vstr x6.App]),(1,[vstr x6.Product]),(2,[vint x6.Month])] x3s w56 rfl ⟨rfl,.inl ⟨_,rfl,rfl,rfl⟩,rfl,rfl,.inl ⟨_,rfl,rfl,rfl⟩,rfl,rfl,.inl ⟨_,rfl,rfl,rfl⟩,rfl,trivial⟩) rfl) ?_
  refine z0a (z0m y48 rfl) ?_
  refine z0h (z0l tyS3 rfl rfl) rfl ?_
  obtain ⟨h9,H⟩:=gif H
  refine z0g (x4b (z0e.mk x6.App x6.Product x6.Month 0) x6.Calls y3o rfl rfl rfl h9) rfl ?_
  refine z0b hN rfl ?_
  refine z0a (z3h rfl rfl (by omega)) ?_
  refine qd rfl ?_
  exact ⟨_,z5d H,⟨rfl,rfl,rfl,rfl,trivial⟩,⟨rfl,trivial⟩⟩
theorem y8g (u1:(List (z0e×Int))) (k2:z0u) (month3:Int) (r:(Int)) (H:z9k u1 k2 month3=some r):Fn Tryz.prog 45 [vmpG y31 u1,vagg (y2k k2),vint month3] (z1x [vint r]):=by
 refine ⟨by kernel_rfl,z1s (us:=[vint r]) Tryz.func45 rfl rfl rfl rfl fun X hN => ?_⟩
 unfold z9k at H
 refine z0c ?_
 refine z0b hN rfl ?_
 refine z0g (z16 1 rfl) rfl ?_
 refine qe rfl ?_
 refine z0c ?_
 refine z0b hN rfl ?_
 refine qd rfl ?_
 refine z0a (z0m w6b rfl) ?_
 refine z0h (z0l tyS9 rfl rfl) rfl ?_
 refine z0a (z0m w6a rfl) ?_
 refine z0h (z0l tyS9 rfl rfl) rfl ?_
 refine qd rfl ?_
 refine z0a (z09 (u':=vagg (z0v (z0e.mk k2.app_ k2.product_ month3 0))) (z3k [(0,[vstr k2.app_]),(1,[vstr k2.product_]),(2,[vint month3])] x3s w56 rfl ⟨rfl,.inl ⟨_,rfl,rfl,rfl⟩,rfl,rfl,.inl ⟨_,rfl,rfl,rfl⟩,rfl,rfl,.inl ⟨_,rfl,rfl,rfl⟩,rfl,trivial⟩) rfl) ?_
 obtain ⟨h4,H⟩:=gif H
 refine z0a (z09 (u':=vint ((lkG u1 (z0e.mk k2.app_ k2.product_ month3 0)).getD 0)) (x9m (z0e.mk k2.app_ k2.product_ month3 0) y3o rfl rfl h4) rfl) ?_
 refine qe rfl ?_
 refine z0t ?_
 cases H
 exact ⟨trivial,.inl rfl,trivial⟩
theorem x4v (v1:z0i) (v2:(List z0s)) (v3:(List z0f)) (v4:(List z0e)) (v5:Bs) (v6:Bs) (v7:Int) (r:(Int×Int)) (H:y0d v1 v2 v3 v4 v5 v6 v7=some r):Fn Tryz.prog 11 [vagg (z1h v1),vlst (List.map z1a v2),vlst (List.map z00 v3),vlst (List.map z0v v4),vstr v5,vstr v6,vint v7] (z1x [vint r.1,vint r.2]):=by
 refine ⟨by kernel_rfl,z1s (us:=[vint r.1,vint r.2]) Tryz.func11 rfl rfl rfl rfl fun X hN => ?_⟩
 unfold y0d at H
 refine z0c ?_
 refine z0b hN rfl ?_
 refine z0g (z16 1 rfl) rfl ?_
 refine qe rfl ?_
 refine qe rfl ?_
 refine z0c ?_
 refine z0c ?_
 refine z0b hN rfl ?_
 refine z0h (z06 z5x rfl rfl rfl) rfl ?_
 refine qd rfl ?_
 refine qd rfl ?_
 refine qd rfl ?_
 obtain ⟨r8,h9,H⟩:=bnd H
 refine z0a (z0z (y9b v1 v2 v3 v4 r8 h9) ⟨.inl rfl,.inl rfl,.inl rfl,.inl rfl,trivial⟩) ?_
 refine qe rfl ?_
 refine z0c ?_
 refine z0b hN rfl ?_
 refine qd rfl ?_
 refine z0a (z6y rfl rfl) ?_
 refine z0k _ rfl (fun h10 => ?_) (fun h10 => ?_)
 ·replace H:=ift h10 H
  refine z0c ?_
  refine z0b hN rfl ?_
  refine qd rfl ?_
  refine qe rfl ?_
  refine qe rfl ?_
  refine z0t ?_
  cases H
  exact ⟨trivial,.inl rfl,.inl rfl,trivial⟩
 ·replace H:=iff_ h10 H
  refine z0q ?_
  refine z0c ?_
  refine z0c ?_
  refine z0b hN rfl ?_
  refine z0h (z06 z5x rfl rfl rfl) rfl ?_
  refine qd rfl ?_
  refine qd rfl ?_
  refine qd rfl ?_
  refine qd rfl ?_
  obtain ⟨r11,h12,H⟩:=bnd H
  refine z0a (z0z (x0g v1 v2 v5 v6 v7 r11 h12) ⟨.inl rfl,.inl rfl,.inl rfl,.inl rfl,.inl rfl,trivial⟩) ?_
  refine qe rfl ?_
  refine z0c ?_
  refine z0b hN rfl ?_
  refine qd rfl ?_
  refine z0a (z6y rfl rfl) ?_
  refine z0k _ rfl (fun h13 => ?_) (fun h13 => ?_)
  ·replace H:=ift h13 H
   refine z0c ?_
   refine z0b hN rfl ?_
   refine qd rfl ?_
   refine qe rfl ?_
   refine qe rfl ?_
   refine z0t ?_
   cases H
   exact ⟨trivial,.inl rfl,.inl rfl,trivial⟩
  ·replace H:=iff_ h13 H
   refine z0q ?_
   refine z0c ?_
   refine z0b hN rfl ?_
   refine z0h (z06 z5x rfl rfl rfl) rfl ?_
   refine qd rfl ?_
   refine qd rfl ?_
   obtain ⟨r14,h15,H⟩:=bnd H
   refine z0a (z0z (x0j v1 v3 v7 r14 h15) ⟨.inl rfl,.inl rfl,.inl rfl,trivial⟩) ?_
   refine qd rfl ?_
   refine z0a (z2y rfl rfl) ?_
   refine z0a (z2y rfl rfl) ?_
   refine qe rfl ?_
   refine qe rfl ?_
   refine z0c ?_
   refine z0b hN rfl ?_
   refine qd rfl ?_
   refine qd rfl ?_
   refine qd rfl ?_
   obtain ⟨r16,h17,H⟩:=bnd H
   refine z0a (z0z (y9e r14.1 v5 v6 r16 h17) ⟨.inl rfl,.inl rfl,.inl rfl,trivial⟩) ?_
   refine z0g (z1m 2 y6x rfl) rfl ?_
   refine z0g (z08 z6k rfl rfl rfl rfl) rfl ?_
   refine z0c ?_
   refine z0c ?_
   refine z0b hN rfl ?_
   refine z0a (z0m y0n rfl) ?_
   refine z0h (z0l tyS3 rfl rfl) rfl ?_
   refine z0a (z6y rfl rfl) ?_
   refine z0k _ rfl (fun h18 => ?_) (fun h18 => ?_)
   ·replace H:=ift h18 H
    refine z0c ?_
    refine z0b hN rfl ?_
    refine qe rfl ?_
    refine qe rfl ?_
    refine z0t ?_
    cases H
    exact ⟨trivial,.inl rfl,.inl rfl,trivial⟩
   ·replace H:=iff_ h18 H
    refine z0q ?_
    refine z0c ?_
    refine z0b hN rfl ?_
    refine z0h (z06 z5x rfl rfl rfl) rfl ?_
    refine z0a (z0m y83 rfl) ?_
    refine z0h (z0l tyS9 rfl rfl) rfl ?_
    obtain ⟨r19,h20,H⟩:=bnd H
    refine z0a (z0z (y4t v1 r16.Plan r19 h20) ⟨.inl rfl,.inl rfl,trivial⟩) ?_
    refine qd rfl ?_
    refine z0a (z2y rfl rfl) ?_
    refine z0a (z2y rfl rfl) ?_
    refine z0g (z1m 3 y80 rfl) rfl ?_
    refine z0g (z08 y47 rfl rfl rfl rfl) rfl ?_
    refine qe rfl ?_
    refine z0c ?_
    refine z0c ?_
    refine z0b hN rfl ?_
    refine z0a (z0m y82 rfl) ?_
    refine z0h (z0l tyS3 rfl rfl) rfl ?_
    refine z0a (z03 rfl rfl) ?_
    refine z0k _ rfl (fun h21 => ?_) (fun h21 => ?_)
    ·replace H:=ift h21 H
     refine z0c ?_
     refine z0b hN rfl ?_
     refine qe rfl ?_
     refine qe rfl ?_
     refine z0t ?_
     cases H
     exact ⟨trivial,.inl rfl,.inl rfl,trivial⟩
    ·replace H:=iff_ h21 H
     refine z0q ?_
     refine z0c ?_
     refine z2n mixed hN rfl rfl ?_
     refine z0a (z0m y82 rfl) ?_
     refine z0h (z0l tyS3 rfl rfl) rfl ?_
     refine qd rfl ?_
     obtain ⟨r22,h23,H⟩:=bnd H
     refine z0a (z0z (x07 v4 r22 h23) ⟨.inl rfl,trivial⟩) ?_
     refine qd rfl ?_
     refine qd rfl ?_
     refine z0a (z09 (u':=vagg (y2k (z0u.mk v5 v6))) (z3k [(0,[vstr v5]),(1,[vstr v6])] w0o w3m rfl ⟨rfl,.inl ⟨_,rfl,rfl,rfl⟩,rfl,rfl,.inl ⟨_,rfl,rfl,rfl⟩,rfl,trivial⟩) rfl) ?_
     refine qd rfl ?_
     obtain ⟨h24,H⟩:=gif H
     refine z0a (x4a rfl rfl h24.1 h24.2) ?_
     obtain ⟨r25,h26,H⟩:=bnd H
     refine z0a (z0z (y8g r22 (z0u.mk v5 v6) (v7 / 2592000000) r25 h26) ⟨.inl rfl,.inl rfl,.inl rfl,trivial⟩) ?_
     refine z0a (z05 _ rfl rfl (.inr (.inl ⟨rfl,rfl⟩))) ?_
     refine z0a (x4d rfl rfl) ?_
     refine qe rfl ?_
     refine qe rfl ?_
     refine ⟨rfl,?_⟩
     refine z0t ?_
     cases H
     exact ⟨trivial,.inl rfl,.inl rfl,trivial⟩
theorem y4f (a1:z0e) (b2:z0e) (r:(Int)) (H:z7e a1 b2=some r):Fn Tryz.prog 48 [vagg (z0v a1),vagg (z0v b2)] (z1x [vint r]):=by
 refine ⟨by kernel_rfl,z1s (us:=[vint r]) Tryz.func48 rfl rfl rfl rfl fun X hN => ?_⟩
 unfold z7e at H
 refine z0c ?_
 refine z0b hN rfl ?_
 refine z0g (z16 1 rfl) rfl ?_
 refine z0g (z16 2 rfl) rfl ?_
 refine qe rfl ?_
 refine z0c ?_
 refine z0c ?_
 refine z0b hN rfl ?_
 refine z0a (z0m y58 rfl) ?_
 refine z0h (z0l tyS3 rfl rfl) rfl ?_
 refine z0a (z0m y58 rfl) ?_
 refine z0h (z0l tyS3 rfl rfl) rfl ?_
 refine z0a (z6y rfl rfl) ?_
 refine z0k _ rfl (fun h3 => ?_) (fun h3 => ?_)
 ·replace H:=ift h3 H
  refine z0c ?_
  refine z0b hN rfl ?_
  refine z0a (z0m y58 rfl) ?_
  refine z0h (z0l tyS3 rfl rfl) rfl ?_
  refine z0a (z0m y58 rfl) ?_
  refine z0h (z0l tyS3 rfl rfl) rfl ?_
  refine z0a (z05 _ rfl rfl (.inr (.inl ⟨rfl,rfl⟩))) ?_
  obtain ⟨r4,h5,H⟩:=bnd H
  refine z0a (z0z (y8c (wr (a1.Month - b2.Month)) r4 h5) ⟨.inl rfl,trivial⟩) ?_
  refine qe rfl ?_
  refine z0t ?_
  cases H
  exact ⟨trivial,.inl rfl,trivial⟩
 ·replace H:=iff_ h3 H
  refine z0q ?_
  refine z0c ?_
  refine z0b hN rfl ?_
  refine z0a (z0m y6y rfl) ?_
  refine z0h (z0l tyS9 rfl rfl) rfl ?_
  refine z0a (z0m y73 rfl) ?_
  refine z0h (z0l tyS9 rfl rfl) rfl ?_
  refine z0a (z09 (u':=vlst (List.map z1k [a1.App,a1.Product])) (z1w [[_],[_]] z83 ⟨rfl,.inl ⟨_,rfl,rfl,rfl⟩,rfl,rfl,.inl ⟨_,rfl,rfl,rfl⟩,rfl,trivial⟩ rfl rfl) rfl) ?_
  refine z0a (z0m y6y rfl) ?_
  refine z0h (z0l tyS9 rfl rfl) rfl ?_
  refine z0a (z0m y73 rfl) ?_
  refine z0h (z0l tyS9 rfl rfl) rfl ?_
  refine z0a (z09 (u':=vlst (List.map z1k [b2.App,b2.Product])) (z1w [[_],[_]] z83 ⟨rfl,.inl ⟨_,rfl,rfl,rfl⟩,rfl,rfl,.inl ⟨_,rfl,rfl,rfl⟩,rfl,trivial⟩ rfl rfl) rfl) ?_
  obtain ⟨r6,h7,H⟩:=bnd H
  refine z0a (z0z (y1b [a1.App,a1.Product] [b2.App,b2.Product] r6 h7) ⟨.inl rfl,.inl rfl,trivial⟩) ?_
  refine qe rfl ?_
  refine z0t ?_
  cases H
  exact ⟨trivial,.inl rfl,trivial⟩
end Go.Proofs.YthmmalklamiefaaGreatDoor
