/- Walks along the models. Printed by a program. -/
import Derived.Test.YthmmalklamiefaaGreatDoorZcw6
namespace Go.Proofs.YthmmalklamiefaaGreatDoor
open Go.RowKit
set_option linter.unusedVariables false
set_option maxRecDepth 20000
set_option maxHeartbeats 2000000
theorem y5u (c1:z0i) (apps2:(List z0s)) (l3:(List z0e)) (r:(Int)) (H:z8h c1 apps2 l3=some r):Fn Tryz.prog 12 [vagg (z1h c1),vlst (List.map z1a apps2),vlst (List.map z0v l3)] (z1x [vint r]):=by
 refine ⟨by kernel_rfl,z1s (us:=[vint r]) Tryz.func12 rfl rfl rfl rfl fun X hN => ?_⟩
 unfold z8h at H
 refine z0c ?_
 refine z0b hN rfl ?_
 refine z0g (z16 1 rfl) rfl ?_
 refine qe rfl ?_
 refine z0c ?_
 refine z0c ?_
 refine z0b hN rfl ?_
 refine z0h (z06 z5x rfl rfl rfl) rfl ?_
 refine qd rfl ?_
 obtain ⟨r4,h5,H⟩:=bnd H
 refine z0a (z0z (y8e c1 apps2 r4 h5) ⟨.inl rfl,.inl rfl,trivial⟩) ?_
 refine qe rfl ?_
 refine z0c ?_
 refine z0b hN rfl ?_
 refine qd rfl ?_
 refine z0a (z6y rfl rfl) ?_
 refine z0k _ rfl (fun h6 => ?_) (fun h6 => ?_)
 ·replace H:=ift h6 H
  refine z0c ?_
  refine z0b hN rfl ?_
  refine qd rfl ?_
  refine qe rfl ?_
  refine z0t ?_
  cases H
  exact ⟨trivial,.inl rfl,trivial⟩
 ·replace H:=iff_ h6 H
  refine z0q ?_
  refine z0c ?_
  refine z0c ?_
  refine z0b hN rfl ?_
  refine qd rfl ?_
  refine z0a (z5b y67 rfl) ?_
  refine z0a (z4c rfl rfl) ?_
  refine z0k _ rfl (fun h7 => ?_) (fun h7 => ?_)
  ·replace H:=ift h7 H
   refine z0c ?_
   refine z0b hN rfl ?_
   refine qe rfl ?_
   refine z0t ?_
   cases H
   exact ⟨trivial,.inl rfl,trivial⟩
  ·replace H:=iff_ h7 H
   refine z0q ?_
   refine z0c ?_
   refine z0c ?_
   refine z0b hN rfl ?_
   refine qd rfl ?_
   refine z0a (z5b y67 rfl) ?_
   refine qd rfl ?_
   refine z0w ?_
   obtain ⟨h10,H⟩:=gif H
   refine z32 (fun (k8:Nat) (s:Unit)=>[(1,.dat (vlst (List.map z1a apps2))),(2,.dat (vlst (List.map z0v l3))),(3,.ptr 1 0),(19,.dat (vlst (List.map z0v l3))),(20,.dat (vint (l3.length:Int))),(21,.dat (vint (k8:Int)))]) (fun (k8:Nat) (s:Unit)=>[(1,.box none 29 [.dat (vlst (List.map z0y c1.Products)),.dat (vlst (List.map z01 c1.Plans))])]) () H ⟨rfl,rfl,rfl,rfl,rfl,rfl,trivial⟩ ⟨rfl,trivial⟩ (fun _ _=>rfl) ?_ ?_
   ·rintro ⟨⟩ H
    replace H:y3e=some r:=H
    unfold y3e at H
    refine z0c ?_
    refine z0b hN rfl ?_
    refine z0a (z03 rfl rfl) ?_
    refine z0c ?_
    refine z0k _ rfl (fun h=>(lt_t h).elim) (fun h => ?_)
    refine z1j ?_
    refine z0c ?_
    refine z0b hN rfl ?_
    refine qe rfl ?_
    refine z0t ?_
    cases H
    exact ⟨trivial,.inl rfl,trivial⟩
   ·rintro k8 x11 ⟨⟩ q9 h12 h13 H hq9
    replace H:z9q c1 apps2 l3 k8 x11=some q9:=H
    unfold z9q at H
    refine z0c ?_
    refine z0b hN rfl ?_
    refine z0a (z03 rfl rfl) ?_
    refine z0c ?_
    refine z0k _ rfl (fun h => ?_) (fun h=>(lt_f h12 h).elim)
    refine z0q ?_
    refine z0c ?_
    refine z0w ?_
    refine z0c ?_
    refine z0b hN rfl ?_
    refine qd rfl ?_
    refine z0a (y2a y1k (fun _=>rfl) rfl rfl h13) ?_
    refine z0a (z2l y0a rfl (z3e h13) rfl) ?_
    refine z0g (z1m 2 x3s rfl) rfl ?_
    refine qe rfl ?_
    refine z0g (z08 y0a rfl rfl rfl rfl) rfl ?_
    refine z0w ?_
    refine z07 (ι:=Bool) (fun i=>[(1,.dat (vlst (List.map z1a apps2))),(2,.dat (vlst (List.map z0v l3))),(3,.ptr 1 0),(8,.dat (vint (k8:Int))),(9,.ptr 2 0),(19,.dat (vlst (List.map z0v l3))),(20,.dat (vint (l3.length:Int))),(21,.dat (vint (k8:Int))),(26,.dat (z1p i))]) (fun i=>[(1,.box none 29 [.dat (vlst (List.map z0y c1.Products)),.dat (vlst (List.map z01 c1.Plans))]),(2,.box none 57 [.dat (vstr x11.App),.dat (vstr x11.Product),.dat (vint x11.Month),.dat (vint x11.Calls)])]) (fun i=>z7l l3 k8 x11 i=some q9) (fun i=>rfl) ?_ ?_
    ·skip
     refine z0b hN rfl ?_
     refine qd rfl ?_
     refine z0a (z0m y6y rfl) ?_
     refine z0h (z0l tyS9 rfl rfl) rfl ?_
     obtain ⟨r14,h15,H⟩:=bnd H
     refine z0a (z0z (y5q apps2 x11.App r14 h15) ⟨.inl rfl,.inl rfl,trivial⟩) ?_
     refine z0a (z03 rfl rfl) ?_
     refine qd rfl ?_
     refine z15 (j:=5) rfl rfl (fun h16 => ?_) (fun h16 => ?_) rfl
     ·have h17:=un3 h16
      replace H:=iff_ h17 H
      refine z5r rfl rfl h16 (z06 z5x rfl rfl rfl) rfl ?_
      refine z04 rfl rfl h16 (z0m y73 rfl) ?_
      refine z5r rfl rfl h16 (z0l tyS9 rfl rfl) rfl ?_
      obtain ⟨r18,h19,H⟩:=bnd H
      refine z04 rfl rfl h16 (z0z (y1p c1 x11.Product r18 h19) ⟨.inl rfl,.inl rfl,trivial⟩) ?_
      refine z04 rfl rfl h16 (z03 rfl rfl) ?_
      refine z0a (z1l rfl (bFF h17) rfl) ?_
      refine qe rfl ?_
      exact ⟨decide (r18 < 0),H,⟨rfl,rfl,rfl,rfl,rfl,rfl,rfl,rfl,rfl,trivial⟩,⟨rfl,rfl,trivial⟩⟩
     ·have h20:=un4 h16
      replace H:=ift h20 H
      refine z0n rfl rfl h16 ?_
      refine z0n rfl rfl h16 ?_
      refine z0n rfl rfl h16 ?_
      refine z0n rfl rfl h16 ?_
      refine z0n rfl rfl h16 ?_
      refine z0a (z1t rfl (bTT h20) rfl) ?_
      refine qe rfl ?_
      exact ⟨true,H,⟨rfl,rfl,rfl,rfl,rfl,rfl,rfl,rfl,rfl,trivial⟩,⟨rfl,rfl,trivial⟩⟩
    ·rintro v21 H
     replace H:z7l l3 k8 x11 v21=some q9:=H
     unfold z7l at H
     refine z0k _ rfl (fun h22 => ?_) (fun h22 => ?_)
     ·replace H:=ift h22 H
      refine z0c ?_
      refine z0b hN rfl ?_
      refine qe rfl ?_
      refine z0t ?_
      replace H:=retl H hq9
      cases H
      exact ⟨trivial,.inl rfl,trivial⟩
     ·replace H:=iff_ h22 H
      refine z07 (ι:=Bool) (fun i=>[(1,.dat (vlst (List.map z1a apps2))),(2,.dat (vlst (List.map z0v l3))),(3,.ptr 1 0),(8,.dat (vint (k8:Int))),(9,.ptr 2 0),(19,.dat (vlst (List.map z0v l3))),(20,.dat (vint (l3.length:Int))),(21,.dat (vint (k8:Int))),(39,.dat (z1p i))]) (fun i=>[(1,.box none 29 [.dat (vlst (List.map z0y c1.Products)),.dat (vlst (List.map z01 c1.Plans))]),(2,.box none 57 [.dat (vstr x11.App),.dat (vstr x11.Product),.dat (vint x11.Month),.dat (vint x11.Calls)])]) (fun i=>z6f l3 k8 x11 i=some q9) (fun i=>rfl) ?_ ?_
      ·skip
       refine z0b hN rfl ?_
       refine z0a (z0m y58 rfl) ?_
       refine z0h (z0l tyS3 rfl rfl) rfl ?_
       obtain ⟨r23,h24,H⟩:=bnd H
       refine z0a (z0z (z67 x11.Month 0 132 r23 h24) ⟨.inl rfl,.inl rfl,.inl rfl,trivial⟩) ?_
       refine z0a (z3s rfl) ?_
       refine qd rfl ?_
       refine z15 (j:=4) rfl rfl (fun h25 => ?_) (fun h25 => ?_) rfl
       ·have h26:=un3 h25
        replace H:=iff_ h26 H
        refine z04 rfl rfl h25 (z0m y48 rfl) ?_
        refine z5r rfl rfl h25 (z0l tyS3 rfl rfl) rfl ?_
        obtain ⟨r27,h28,H⟩:=bnd H
        refine z04 rfl rfl h25 (z0z (z67 x11.Calls 0 1000000000000 r27 h28) ⟨.inl rfl,.inl rfl,.inl rfl,trivial⟩) ?_
        refine z04 rfl rfl h25 (z3s rfl) ?_
        refine z0a (z1l rfl (bFF h26) rfl) ?_
        refine qe rfl ?_
        exact ⟨!r27,H,⟨rfl,rfl,rfl,rfl,rfl,rfl,rfl,rfl,rfl,trivial⟩,⟨rfl,rfl,trivial⟩⟩
       ·have h29:=un4 h25
        replace H:=ift h29 H
        refine z0n rfl rfl h25 ?_
        refine z0n rfl rfl h25 ?_
        refine z0n rfl rfl h25 ?_
        refine z0n rfl rfl h25 ?_
        refine z0a (z1t rfl (bTT h29) rfl) ?_
        refine qe rfl ?_
        exact ⟨true,H,⟨rfl,rfl,rfl,rfl,rfl,rfl,rfl,rfl,rfl,trivial⟩,⟨rfl,rfl,trivial⟩⟩
      ·rintro v30 H
       replace H:z6f l3 k8 x11 v30=some q9:=H
       unfold z6f at H
       refine z0k _ rfl (fun h31 => ?_) (fun h31 => ?_)
       ·replace H:=ift h31 H
        refine z0c ?_
        refine z0b hN rfl ?_
        refine qe rfl ?_
        refine z0t ?_
        replace H:=retl H hq9
        cases H
        exact ⟨trivial,.inl rfl,trivial⟩
       ·replace H:=iff_ h31 H
        refine z07 (ι:=Bool) (fun i=>[(1,.dat (vlst (List.map z1a apps2))),(2,.dat (vlst (List.map z0v l3))),(3,.ptr 1 0),(19,.dat (vlst (List.map z0v l3))),(20,.dat (vint (l3.length:Int))),(21,.dat (vint (k8:Int))),(50,.dat (z1p i))]) (fun i=>[(1,.box none 29 [.dat (vlst (List.map z0y c1.Products)),.dat (vlst (List.map z01 c1.Plans))])]) (fun i=>z7k i=some q9) (fun i=>rfl) ?_ ?_
        ·skip
         refine z2n mixed hN rfl rfl ?_
         refine qd rfl ?_
         refine z0a (z4c rfl rfl) ?_
         refine qd rfl ?_
         refine z15 (j:=2) rfl rfl (fun h32 => ?_) (fun h32 => ?_) rfl
         ·have h33:=un1 h32
          replace H:=ift h33 H
          refine z04 rfl rfl h32 (z0j (.dat _) rfl) ?_
          refine z04 rfl rfl h32 (z0j (.dat _) rfl) ?_
          refine z04 rfl rfl h32 (y7j rfl rfl (by omega)) ?_
          obtain ⟨x34,h35,H⟩:=bnd H
          refine z04 rfl rfl h32 (y1q y1k (fun _=>rfl) rfl rfl h35) ?_
          refine z04 rfl rfl h32 (z2l y0a rfl (z3e (z1n h35).2) rfl) ?_
          refine z5r rfl rfl h32 (z06 y0a rfl rfl rfl) rfl ?_
          obtain ⟨r36,h37,H⟩:=bnd H
          refine z04 rfl rfl h32 (z0z (y4f x34 x11 r36 h37) ⟨.inl rfl,.inl rfl,trivial⟩) ?_
          refine z04 rfl rfl h32 (y5a rfl rfl) ?_
          refine z0a (z1t rfl (bTT h33) rfl) ?_
          refine qe rfl ?_
          refine ⟨rfl,?_⟩
          exact ⟨decide (0≤r36),H,⟨rfl,rfl,rfl,rfl,rfl,rfl,rfl,trivial⟩,⟨rfl,trivial⟩⟩
         ·have h38:=un2 h32
          replace H:=iff_ h38 H
          refine z0n rfl rfl h32 ?_
          refine z0n rfl rfl h32 ?_
          refine z0n rfl rfl h32 ?_
          refine z0n rfl rfl h32 ?_
          refine z0n rfl rfl h32 ?_
          refine z0n rfl rfl h32 ?_
          refine z0n rfl rfl h32 ?_
          refine z0n rfl rfl h32 ?_
          refine z0a (z1l rfl (bFF h38) rfl) ?_
          refine qe rfl ?_
          refine ⟨rfl,?_⟩
          exact ⟨false,H,⟨rfl,rfl,rfl,rfl,rfl,rfl,rfl,trivial⟩,⟨rfl,trivial⟩⟩
        ·rintro v39 H
         replace H:z7k v39=some q9:=H
         unfold z7k at H
         refine z0k _ rfl (fun h40 => ?_) (fun h40 => ?_)
         ·replace H:=ift h40 H
          refine z0c ?_
          refine z0b hN rfl ?_
          refine qe rfl ?_
          refine z0t ?_
          replace H:=retl H hq9
          cases H
          exact ⟨trivial,.inl rfl,trivial⟩
         ·replace H:=iff_ h40 H
          refine z0q ?_
          refine z0b hN rfl ?_
          refine z0a (z3h rfl rfl (by omega)) ?_
          refine qd rfl ?_
          exact ⟨_,z5d H,⟨rfl,rfl,rfl,rfl,rfl,rfl,trivial⟩,⟨rfl,trivial⟩⟩
theorem y4w (is1:Bool) (e2:Int) (r:(Int)) (H:z9i is1 e2=some r):Fn Tryz.prog 15 [z1p is1,vint e2] (z1x [vint r]):=by
 refine ⟨by kernel_rfl,z1s (us:=[vint r]) Tryz.func15 rfl rfl rfl rfl fun X hN => ?_⟩
 unfold z9i at H
 refine z0c ?_
 refine z0b hN rfl ?_
 refine qe rfl ?_
 refine z0c ?_
 refine z0c ?_
 refine z0b hN rfl ?_
 refine qd rfl ?_
 refine z0k _ rfl (fun h3 => ?_) (fun h3 => ?_)
 ·replace H:=ift h3 H
  refine z0c ?_
  refine z0b hN rfl ?_
  refine qd rfl ?_
  refine qe rfl ?_
  refine z0t ?_
  cases H
  exact ⟨trivial,.inl rfl,trivial⟩
 ·replace H:=iff_ h3 H
  refine z0q ?_
  refine z0c ?_
  refine z0b hN rfl ?_
  refine qe rfl ?_
  refine z0t ?_
  cases H
  exact ⟨trivial,.inl rfl,trivial⟩
theorem y44 (v1:Int) (r:(Int)) (H:z65 v1=some r):Fn Tryz.prog 18 [vint v1] (z1x [vint r]):=by
 refine ⟨by kernel_rfl,z1s (us:=[vint r]) Tryz.func18 rfl rfl rfl rfl fun X hN => ?_⟩
 unfold z65 at H
 refine z0c ?_
 refine z0b hN rfl ?_
 refine qe rfl ?_
 refine z0c ?_
 refine z0b hN rfl ?_
 refine qd rfl ?_
 obtain ⟨r2,h3,H⟩:=bnd H
 refine z0a (z0z (y7f v1 r2 h3) ⟨.inl rfl,trivial⟩) ?_
 refine z0a (z3s rfl) ?_
 obtain ⟨r4,h5,H⟩:=bnd H
 refine z0a (z0z (y4w (!r2) 1 r4 h5) ⟨.inl rfl,.inl rfl,trivial⟩) ?_
 refine qe rfl ?_
 refine z0t ?_
 cases H
 exact ⟨trivial,.inl rfl,trivial⟩
theorem y6i (l1:(List Int)) (r:(Int)) (H:z73 l1=some r):Fn Tryz.prog 14 [vlst (List.map y6l l1)] (z1x [vint r]):=by
 refine ⟨by kernel_rfl,z1s (us:=[vint r]) Tryz.func14 rfl rfl rfl rfl fun X hN => ?_⟩
 unfold z73 at H
 refine z0c ?_
 refine z0b hN rfl ?_
 refine qe rfl ?_
 refine z0c ?_
 refine z0c ?_
 refine z0b hN rfl ?_
 refine qd rfl ?_
 refine z0a (z5b w86 rfl) ?_
 refine qd rfl ?_
 refine z0w ?_
 obtain ⟨h4,H⟩:=gif H
 refine z32 (fun (k2:Nat) (s:Unit)=>[(5,.dat (vlst (List.map y6l l1))),(6,.dat (vint (l1.length:Int))),(7,.dat (vint (k2:Int)))]) (fun (k2:Nat) (s:Unit)=>[]) () H ⟨rfl,rfl,rfl,trivial⟩ trivial (fun _ _=>rfl) ?_ ?_
 ·rintro ⟨⟩ H
  replace H:y2s=some r:=H
  unfold y2s at H
  refine z0c ?_
  refine z0b hN rfl ?_
  refine z0a (z03 rfl rfl) ?_
  refine z0c ?_
  refine z0k _ rfl (fun h=>(lt_t h).elim) (fun h => ?_)
  refine z1j ?_
  refine z0c ?_
  refine z0b hN rfl ?_
  refine qe rfl ?_
  refine z0t ?_
  cases H
  exact ⟨trivial,.inl rfl,trivial⟩
 ·rintro k2 x5 ⟨⟩ q3 h6 h7 H hq3
  replace H:y2r k2 x5=some q3:=H
  unfold y2r at H
  refine z0c ?_
  refine z0b hN rfl ?_
  refine z0a (z03 rfl rfl) ?_
  refine z0c ?_
  refine z0k _ rfl (fun h => ?_) (fun h=>(lt_f h6 h).elim)
  refine z0q ?_
  refine z0c ?_
  refine z0w ?_
  refine z0c ?_
  refine z0b hN rfl ?_
  refine z0a (y2a w9a (fun _=>rfl) rfl rfl h7) ?_
  refine z0a (z24 w87 rfl (z3e h7) rfl) ?_
  refine qe rfl ?_
  refine z0c ?_
  refine z0b hN rfl ?_
  refine qd rfl ?_
  refine z0a (z6y rfl rfl) ?_
  refine z0k _ rfl (fun h8 => ?_) (fun h8 => ?_)
  ·replace H:=ift h8 H
   refine z0c ?_
   refine z0b hN rfl ?_
   refine qd rfl ?_
   refine qe rfl ?_
   refine z0t ?_
   replace H:=retl H hq3
   cases H
   exact ⟨trivial,.inl rfl,trivial⟩
  ·replace H:=iff_ h8 H
   refine z0q ?_
   refine z0b hN rfl ?_
   refine z0a (z3h rfl rfl (by omega)) ?_
   refine qd rfl ?_
   exact ⟨_,z5d H,⟨rfl,rfl,rfl,trivial⟩,trivial⟩
theorem y3z (l:List z0o):Fn Tryz.prog 60 [vlst (List.map z1g l)] (z1x [vfn 98 [y38 [[vlst (List.map z1g l)]] 0 0]]):=by
 refine ⟨by kernel_rfl,z1s (us:=[vfn 98 [y38 [[vlst (List.map z1g l)]] 0 0]]) Tryz.func60 rfl rfl rfl rfl fun X hN => ?_⟩
 refine z0c ?_
 refine z0b hN rfl ?_
 refine z0g (y9n 1 rfl rfl) rfl ?_
 refine qe rfl ?_
 refine z0c ?_
 refine y98 1 [vlst (List.map z1g l)] rfl rfl ?_
 refine z0b hN rfl ?_
 refine z0a (x1f (us:=[_]) ⟨rfl,trivial⟩) ?_
 refine qe rfl ?_
 refine z0t ?_
 exact ⟨trivial,.inl rfl,trivial⟩
theorem y3u:w52 Tryz.prog 98 4 false:=by
 intro vals M l cap J Jx W hn hvn hk hc hY h0
 have hnt:Tryz.f98.ntmps=19:=rfl
 refine callsIn_of_wp Tryz.func98 rfl trivial ?_ rfl
 rw [hnt]
 obtain ⟨vc,hvc⟩:∃ vc:V,vc=vand (y38 [[vlst (vals.map fun c=>c.map vval)]] 0 0) cap:=⟨_,rfl⟩
 have hwk:Wk vc (y38 [[vlst (vals.map fun c=>c.map vval)]] 0 0):=by rw [hvc]; exact w7s _ _
 have hvm:∀ W',(y38 [[vlst (vals.map fun c=>c.map vval)]] 0 0).p W' M cap→vc.p W' M cap:=fun W' h=>by rw [hvc]; exact ⟨rfl,h⟩
 have hvo:∀ W' M' v,vc.p W' M' v→v=cap:=fun W' M' v h=>by rw [hvc] at h; exact h.1
 obtain ⟨hM,hcp⟩:=hc _ _ h0
 refine wpIn_seq (wpIn_mono (y9r (N:=19) hM ?hN ?hD [(0,vval (yv l)),(1,vc)] ?hr (Q:=fun e f=>e = .normal∧f 0 = .dat (vval (yv l))∧f 1 = .dat vc∧f 3 = .dat (vint ((vals.length:Int) - 1))) fun X hN => ?_) ?_)
 case hN=>simp
 case hD=>rfl
 case hr=>exact ⟨by simp [yv,vval],by simpa using hvm _ hcp,trivial⟩
 ·refine z0b hN rfl ?_
  refine z0a (x1t w5c rfl hwk rfl rfl) ?_
  refine z0a (z5b (C:=fun c:List Value=>c.map vval) x7z rfl) ?_
  refine z0a (y7j rfl rfl (by omega)) ?_
  refine qe rfl ?_
  exact ⟨rfl,rfl,rfl,rfl⟩
 rintro e a W1 ⟨hk1,hN,hD,f,own,g,M',hfr,rfl,e0,e1,e3⟩
 have t0:a.tmps.getD 0 undef=yv l:=by have:=hfr 0; rw [e0] at this; exact this
 have t1:a.tmps.getD 1 undef=cap:=by have:=hfr 1; rw [e1] at this; exact hvo _ _ _ this
 have t3:a.tmps.getD 3 undef = .int .i64 ((vals.length:Int) - 1):=by have:=hfr 3; rw [e3] at this; exact this
 refine wpIn_block (wpIn_loop_rounds (vals.length+1) ?_)
 have hJ1:=hk _ _ _ h0 hk1
 clear hk1 hfr e0 e1 e3 hcp hM h0
 suffices key:∀ m,m≤vals.length→∀ a W,a.tmps.size=19→a.defers=[]→a.tmps.getD 0 undef=yv l→a.tmps.getD 1 undef=cap→a.tmps.getD 3 undef = .int .i64 ((m:Int) - 1)→J m W→Code.roundsIn Fence.wide 0 Tryz.prog _ _ (m+1) a W from key _ (Nat.le_refl _) a W1 hN hD t0 t1 t3 hJ1
 clear t0 t1 t3 hN hD hJ1
 intro m
 induction m with
 | zero =>
  intro _ a W hN hD t0 t1 t3 hJ
  obtain ⟨hM,hcp⟩:=hc _ _ hJ
  rw [roundsIn_succ]
  refine wpIn_seq (wpIn_seq (wpIn_mono (y9r (N:=19) hM hN hD [(3,vint (-1))] ⟨by rw [t3]; rfl,trivial⟩ (Q:=fun e f=>e = .normal∧f 8 = .dat (z1p (decide ((0:Int)≤-1)))) fun X hN => ?_) ?_))
  ·refine z0b hN rfl ?_
   refine qd rfl ?_
   refine z0a (y5a rfl rfl) ?_
   exact ⟨rfl,rfl⟩
  rintro e a' W' ⟨hk1,hN',hD',f,own,g,M',hfr,rfl,e8⟩
  have t8:a'.tmps.getD 8 undef = .bool false:=by have:=hfr 8; rw [e8] at this; exact this
  exact wpIn_cond_false t8 (wpIn_exit ⟨hD',_,results_none rfl _ _ _,⟨_,rfl⟩,.inl (hk _ _ _ hJ hk1)⟩)
 | succ m ih =>
  intro hm a W hN hD t0 t1 t3 hJ
  obtain ⟨hM,hcp⟩:=hc _ _ hJ
  have hm3:(((m+1:Nat):Int) - 1)=(m:Int):=by omega
  rw [hm3] at t3
  rw [roundsIn_succ]
  refine wpIn_seq (wpIn_seq (wpIn_mono (y9r (N:=19) hM hN hD [(0,vval (yv l)),(1,vc),(3,vint (m:Int))] ⟨t0,by rw [t1]; exact hvm _ hcp,by rw [t3]; rfl,trivial⟩ (Q:=fun e f=>e = .normal∧f 0 = .dat (vval (yv l))∧f 1 = .dat vc∧f 3 = .dat (vint (m:Int))∧f 8 = .dat (z1p (decide ((0:Int)≤(m:Int))))) fun X hN => ?_) ?_))
  ·refine z0b hN rfl ?_
   refine qd rfl ?_
   refine z0a (y5a rfl rfl) ?_
   exact ⟨rfl,rfl,rfl,rfl,rfl⟩
  rintro e a1 W1 ⟨hk1,hN1,hD1,f,own,g,M',hfr,rfl,e0,e1,e3,e8⟩
  have u0:a1.tmps.getD 0 undef=yv l:=by have:=hfr 0; rw [e0] at this; exact this
  have u1:a1.tmps.getD 1 undef=cap:=by have:=hfr 1; rw [e1] at this; exact hvo _ _ _ this
  have u3:a1.tmps.getD 3 undef = .int .i64 (m:Int):=by have:=hfr 3; rw [e3] at this; exact this
  have u8:a1.tmps.getD 8 undef = .bool true:=by
   have:=hfr 8; rw [e8,decide_eq_true (by omega)] at this; exact this
  refine wpIn_cond_true u8 (wpIn_skip ?_)
  have hJ1:=hk _ _ _ hJ hk1
  clear hfr e0 e1 e3 e8 hk1 hJ hM hcp t0 t1 t3 hN hD
  obtain ⟨hM1,hcp1⟩:=hc _ _ hJ1
  refine wpIn_seq (wpIn_block (wpIn_seq ?_))
  refine wpIn_region ?_
  obtain ⟨X,hX⟩:∃ X:Ctx,X=⟨fun b=>M b,W1,[],19,none,[]⟩:=⟨_,rfl⟩
  have hrel:Rel X (frs (datL [(0,vval (yv l)),(1,vc),(3,vint (m:Int))])) (fun _=>none) ⟨fun _=>none,fun _ _=>none⟩ a1 W1:=by
   subst hX
   have he:Ext M (Mof ⟨fun b=>M b,W1,[],19,none,[]⟩ ⟨fun _=>none,fun _ _=>none⟩ (fun _=>none)) W1 W1:=⟨Nat.le_refl _,fun _ _ _ _=>rfl,fun b _ hb=>by
    rcases hb with hb | ⟨id,o,ho,_⟩
    ·exact hb
    ·cases ho⟩
   refine ⟨Kp.refl _ _,⟨fun b hb=>⟨hM1.1 b hb,by simp⟩,hM1.2.1,fun b hb=>⟨hM1.2.2 b hb,by simp⟩⟩,hN1,hD1,fun t=>x8g [(0,vval (yv l)),(1,vc),(3,vint (m:Int))] ⟨u0,by rw [u1]; exact vc.keep he (hvm _ hcp1),by rw [u3]; rfl,trivial⟩ t,fun id o ho=>(by cases ho),fun id _ o _ b ho=>(by cases ho),fun id o b ho=>(by cases ho),fun id _=>⟨rfl,fun _=>rfl⟩,fun id e size es h=>(by cases h)⟩
  have hNX:X.N=19:=by rw [hX]
  have hRX:X.R=none:=by rw [hX]
  have hDX:X.D=[]:=by rw [hX]
  have hKX:∀ W',Kp X.S0 X.w0 W'→Kp [] W1 W':=fun W' h=>by rw [hX] at h; exact h
  obtain ⟨el,hel⟩:∃ el,vals[m]?=some el:=⟨_,List.getElem?_eq_getElem (by omega)⟩
  have hell:(el.map vval).length=4:=by rw [List.length_map]; exact hvn el (List.mem_of_getElem? hel)
  have helm:(vals.map fun c=>c.map vval)[m]?=some (el.map vval):=by rw [List.getElem?_map,hel]; rfl
  have helD:vals.getD m []=el:=by rw [List.getD_eq_getElem?_getD,hel]; rfl
  clear hX
  refine opsR hRX (n:=6+2) rfl ?_
  refine x8c (P:=Tryz.prog) (X:=X) (by rw [hNX]; rfl) [_,_,_,_,_,_] [_,_] 0 _ _ [] _ a1 W1 rfl hrel ?_
  refine qd rfl ?_
  refine qd rfl ?_
  refine z0a (x1t w5c rfl hwk rfl rfl) ?_
  refine qd rfl ?_
  refine z0a (x4e (k:=m) x74 rfl rfl (by rw [List.length_map]; omega) (fun c hc=>by
   obtain ⟨c',hc',rfl⟩:=List.mem_map.1 hc
   rw [List.length_map]; exact hvn c' hc')) ?_
  refine z0a (z2l z6k rfl helm hell) ?_
  intro g2 a2 W2 k2
  have v0:a2.tmps.getD 0 undef=yv l:=k2.fr 0
  have v1:a2.tmps.getD 1 undef=cap:=hvo _ _ _ (k2.fr 1)
  have v3:a2.tmps.getD 3 undef = .int .i64 (m:Int):=k2.fr 3
  have v11:a2.tmps.getD 11 undef=yv l:=k2.fr 11
  have v12:a2.tmps.getD 12 undef = .int .i64 (m:Int):=k2.fr 12
  have v16:a2.tmps.getD 16 undef = .agg el.toArray:=by
   obtain ⟨lv,h1,h2,h3⟩:(vagg (el.map vval)).p W2 _ (a2.tmps.getD 16 undef):=k2.fr 16
   rw [h1]
   have:lv=el:=by
    apply List.ext_getElem?
    intro j
    rcases Nat.lt_or_ge j el.length with hj | hj
    ·obtain ⟨y,p1,p2,_⟩:=h3 j (vval el[j]) (by rw [List.getElem?_map,List.getElem?_eq_getElem hj]; rfl)
     rw [p1,List.getElem?_eq_getElem hj]; exact congrArg some p2
    ·rw [List.getElem?_eq_none hj,List.getElem?_eq_none (by rw [List.length_map] at h2; omega)]
   rw [this]
  have hN2:a2.tmps.size=19:=k2.n.trans hNX
  have hD2:a2.defers=[]:=k2.df.trans hDX
  have hJ2:=hk _ _ _ hJ1 (hKX _ k2.kp)
  clear k2 hrel
  obtain ⟨fn,tm,asg,bdy,hrun,hR⟩:=hY m W2 (by omega) hJ2
  rw [helD] at hrun
  change (Instr.yield l #[.int .i64 (m:Int),.agg el.toArray]).run Tryz.prog W2=_ at hrun
  rw [hRX]
  show wpOpsIn Fence.wide 0 Tryz.prog _ _ [6,7] a2 W2
  refine x6n rfl rfl rfl v11 (by simp [Act.eval,v12,v16]) hrun (hR.mono ?_)
  rintro e W3 (⟨rfl,hJ3⟩ | ⟨rfl,hJ3⟩)
  ·obtain ⟨hM3,hcp3⟩:=hc _ _ hJ3
   refine ⟨_,rfl,?_⟩
   obtain ⟨a3,ha3⟩:∃ a3:Act,a3=a2.put (some 17) (.bool true):=⟨_,rfl⟩
   have hN3:a3.tmps.size=19:=by rw [ha3]; simpa [Act.put] using hN2
   have hD3:a3.defers=[]:=by rw [ha3]; exact hD2
   have g3:∀ t,a3.tmps.getD t undef=if t=17 then .bool true else a2.tmps.getD t undef:=fun t=>by rw [ha3]; exact x2p hN2 (by decide) t
   show wpOpsIn Fence.wide 0 Tryz.prog _ _ (List.range' 7 1) (a2.put (some 17) (.bool true)) W3
   rw [← ha3]
   refine opsT (N:=19) (i:=7) (os:=[_]) hM3 hN3 hD3 [(0,vval (yv l)),(1,vc),(3,vint (m:Int)),(17,z1p true)] ⟨?_,?_,?_,?_,trivial⟩ (Q':=fun f=>f 0 = .dat (vval (yv l))∧f 1 = .dat vc∧f 3 = .dat (vint (m:Int))∧f 18 = .dat (z1p (!true))) rfl rfl (fun _ _ => ?_) ?_
   ·show _=_
    rw [g3,if_neg (by decide)]; exact v0
   ·rw [g3,if_neg (by decide),v1]; exact hvm _ hcp3
   ·show _=_
    rw [g3,if_neg (by decide)]; exact v3
   ·show _=_
    rw [g3,if_pos rfl]
   ·refine z0a (z3s rfl) ?_
    exact ⟨rfl,rfl,rfl,rfl⟩
   intro a4 W4 hk4 hN4 hD4 f g M' hfr ⟨e0,e1,e3,e18⟩
   have z0:a4.tmps.getD 0 undef=yv l:=by have:=hfr 0; rw [e0] at this; exact this
   have z1:a4.tmps.getD 1 undef=cap:=by have:=hfr 1; rw [e1] at this; exact hvo _ _ _ this
   have z3:a4.tmps.getD 3 undef = .int .i64 (m:Int):=by have:=hfr 3; rw [e3] at this; exact this
   have z18:a4.tmps.getD 18 undef = .bool false:=by have:=hfr 18; rw [e18] at this; exact this
   refine wpIn_cond_false z18 (wpIn_skip ?_)
   have hJ4:=hk _ _ _ hJ3 hk4
   obtain ⟨hM4,hcp4⟩:=hc _ _ hJ4
   refine wpIn_mono (y9r (N:=19) hM4 hN4 hD4 [(0,vval (yv l)),(1,vc),(3,vint (m:Int))] ⟨z0,by rw [z1]; exact hvm _ hcp4,by rw [z3]; rfl,trivial⟩ (Q:=fun e f=>e = .normal∧f 0 = .dat (vval (yv l))∧f 1 = .dat vc∧f 3 = .dat (vint ((m:Int) - 1))) fun X hN => ?_) ?_
   ·refine z0b hN rfl ?_
    refine qd rfl ?_
    refine z0a (y7j rfl rfl (by omega)) ?_
    refine qe rfl ?_
    exact ⟨rfl,rfl,rfl,rfl⟩
   rintro e a5 W5 ⟨hk5,hN5,hD5,f5,own5,g5,M5,hfr5,rfl,e0,e1,e3⟩
   exact ih (by omega) a5 W5 hN5 hD5 (by have:=hfr5 0; rw [e0] at this; exact this) (by have:=hfr5 1; rw [e1] at this; exact hvo _ _ _ this) (by have:=hfr5 3; rw [e3] at this; exact this) (hk _ _ _ hJ4 hk5)
  ·refine ⟨_,rfl,?_⟩
   obtain ⟨a3,ha3⟩:∃ a3:Act,a3=a2.put (some 17) (.bool false):=⟨_,rfl⟩
   show wpOpsIn Fence.wide 0 Tryz.prog _ _ [7] (a2.put (some 17) (.bool false)) W3
   rw [← ha3]
   have g3:∀ t,a3.tmps.getD t undef=if t=17 then .bool false else a2.tmps.getD t undef:=fun t=>by rw [ha3]; exact x2p hN2 (by decide) t
   have hN3:a3.tmps.size=19:=by rw [ha3]; simpa [Act.put] using hN2
   have hD3:a3.defers=[]:=by rw [ha3]; exact hD2
   have v17:a3.tmps.getD 17 undef = .bool false:=by rw [g3,if_pos rfl]
   rw [wpOpsIn_cons]
   unfold wpOpIn
   refine ⟨fun _ _=>trivial,?_⟩
   have hrun:∀ o:Oper,o.op = .unOp .not 4 (.tmp 17)→(o.semAt Fence.wide.round a3.eval).run Tryz.prog W3 = .ok (.value (.bool true)) W3:=fun o ho=>by
    rw [Oper.semAt_eq Fence.wide.round a3.eval o (fun c hc=>by rw [ho] at hc; cases hc)]
    have h1:a3.eval (.tmp 17) = .bool false:=v17
    simp only [execOp,ho,h1,Op.unary]
    rfl
   rw [hrun _ rfl,Oper.uponIn_value]
   have t18:(a3.put (some 18) (.bool true)).tmps.getD 18 undef = .bool true:=by rw [show (a3.put (some 18) (.bool true)).tmps=a3.tmps.setIfInBounds 18 (.bool true) from rfl,x2p hN3 (by decide),if_pos rfl]
   exact wpIn_cond_true t18 (wpIn_ret ⟨hD3,_,results_none rfl _ _ _,⟨_,rfl⟩,.inr hJ3⟩)

theorem x1a (c1:z0i) (l2:(List z0f)) (app3:Bs) (product4:Bs) (v5:Int) (r:(z0o)) (H:y07 c1 l2 app3 product4 v5=some r):Fn Tryz.prog 19 [vagg (z1h c1),vlst (List.map z00 l2),vstr app3,vstr product4,vint v5] (z1x [vagg (z1g r)]):=by
 refine ⟨by kernel_rfl,w4g (us:=[vagg (z1g r)]) Tryz.func19 rfl rfl rfl rfl fun X hN hR => ?_⟩
 unfold y07 at H
 refine x82 hR ?_
 refine z0b hN rfl ?_
 refine z0g (z16 1 rfl) rfl ?_
 refine z0g (y9n 2 rfl rfl) rfl ?_
 refine z0g (z1m 3 y6x rfl) rfl ?_
 refine x82 hR ?_
 refine z0b hN rfl ?_
 refine z0h (z06 z5x rfl rfl rfl) rfl ?_
 refine qd rfl ?_
 refine qd rfl ?_
 refine qd rfl ?_
 obtain ⟨r6,h7,H⟩:=bnd H
 refine z0a (z0z (x0l c1 l2 app3 product4 r6 h7) ⟨.inl rfl,.inl rfl,.inl rfl,.inl rfl,trivial⟩) ?_
 refine qd rfl ?_
 refine z0a (z2y rfl rfl) ?_
 refine z0a (z2y rfl rfl) ?_
 refine qe rfl ?_
 refine qe rfl ?_
 refine w0h hR ?_
 refine z0b hN rfl ?_
 refine qd rfl ?_
 refine z0a (z0z (y3z r6.1) ⟨.inl rfl,trivial⟩) ?_
 refine ⟨rfl,?_⟩
 obtain ⟨h9,H⟩:=gif H
 refine w8f (s0:=()) hR hN [(9,.ptr 2 0),(10,.ptr 3 0),(24,.dat (vfn 98 [y38 [[vlst (List.map z1g r6.1)]] 0 0]))] [(1,.box none 29 [.dat (vlst (List.map z0y c1.Products)),.dat (vlst (List.map z01 c1.Plans))]),(2,.box none 3 [.dat (vint v5)]),(3,.box none 51 [.dat (vint 0),.dat (vstr []),.dat (vint 0),.dat (vint 0)])] (fun (s:Unit)=>[(1,.box none 29 [.dat (vlst (List.map z0y c1.Products)),.dat (vlst (List.map z01 c1.Plans))]),(2,.box none 3 [.dat (vint v5)]),(3,.box none 51 [.dat (vint 0),.dat (vstr []),.dat (vint 0),.dat (vint 0)])]) y3u (fun _=>rfl) (enters_of Tryz.func98 (by kernel_rfl) rfl) rfl h9 H ⟨rfl,rfl,rfl,trivial⟩ ⟨rfl,rfl,rfl,trivial⟩ rfl rfl (fun _=>rfl) (fun _=>rfl) (fun _ _=>rfl) (fun _ _=>rfl) (fun _=>rfl) (fun _=>rfl) (by decide) (by decide) ?_ ?_
 ·rintro A X k10 x11 ⟨⟩ q8 hN h12 h13 H hq8
  replace H:y15 v5 k10 x11=some q8:=H
  unfold y15 at H
  refine z0b hN rfl ?_
  refine z0g (z1m 4 y6x rfl) rfl ?_
  refine z0g (z08 z6k rfl rfl rfl rfl) rfl ?_
  refine ⟨rfl,[(9,.ptr 2 0),(10,.ptr 3 0),(14,.ptr 4 0)],[(1,.box (some (A 1)) 29 [.dat (vlst (List.map z0y c1.Products)),.dat (vlst (List.map z01 c1.Plans))]),(2,.box (some (A 2)) 3 [.dat (vint v5)]),(3,.box (some (A 3)) 51 [.dat (vint 0),.dat (vstr []),.dat (vint 0),.dat (vint 0)]),(4,.box none 51 [.dat (vint x11.State),.dat (vstr x11.Plan),.dat (vint x11.Since),.dat (vint x11.First)])],⟨rfl,rfl,rfl,trivial⟩,⟨rfl,rfl,rfl,rfl,trivial⟩,rfl,rfl,rfl,fun X hN => ?_⟩
  refine z0w ?_
  refine z0c ?_
  refine z0b hN rfl ?_
  refine z0a (z0m x3w rfl) ?_
  refine z0h (z0l tyS3 rfl rfl) rfl ?_
  refine z0h (z0l tyS3 rfl rfl) rfl ?_
  refine z0a (y4p rfl rfl) ?_
  refine z0k _ rfl (fun h14 => ?_) (fun h14 => ?_)
  ·replace H:=ift h14 H
   refine z0c ?_
   refine z0b hN rfl ?_
   refine z0h (z06 z6k rfl rfl rfl) rfl ?_
   refine z0g (z08 z6k rfl rfl rfl rfl) rfl ?_
   refine z0t ?_
   replace H:=retl H hq8
   have eH:x11=r:=Option.some.inj H
   subst eH
   exact ⟨[(1,.box none 29 [.dat (vlst (List.map z0y c1.Products)),.dat (vlst (List.map z01 c1.Plans))]),(2,.box none 3 [.dat (vint v5)]),(3,.box none 51 [.dat (vint x11.State),.dat (vstr x11.Plan),.dat (vint x11.Since),.dat (vint x11.First)])],rfl,rfl,rfl,rfl,⟨rfl,rfl,rfl,trivial⟩,⟨.inl ⟨_,_,_,z1g x11,rfl,rfl,rfl,rfl,z6k⟩,trivial⟩⟩
  ·replace H:=iff_ h14 H
   refine z0q ?_
   exact ⟨_,z5d H,⟨rfl,rfl,rfl,trivial⟩⟩
 ·rintro A X ⟨⟩ hN hR H
  replace H:y16=some r:=H
  unfold y16 at H
  refine z0c ?_
  refine z0b hN rfl ?_
  obtain ⟨r15,h16,H⟩:=bnd H
  refine z0a (z0z (y6h  r15 h16) trivial) ?_
  refine z0g (z08 z6k rfl rfl rfl rfl) rfl ?_
  refine z0t ?_
  have eH:r15=r:=Option.some.inj H
  subst eH
  exact ⟨.inr rfl,[(10,.ptr 3 0)],[(3,.box (some (A 3)) 51 [.dat (vint r15.State),.dat (vstr r15.Plan),.dat (vint r15.Since),.dat (vint r15.First)])],⟨rfl,trivial⟩,⟨rfl,trivial⟩,rfl,rfl,⟨.inl ⟨_,_,_,z1g r15,rfl,rfl,rfl,rfl,z6k⟩,trivial⟩⟩
theorem y90 (l1:(List z0e)) (app2:Bs) (product3:Bs) (month4:Int) (r:(Int)) (H:y1a l1 app2 product3 month4=some r):Fn Tryz.prog 63 [vlst (List.map z0v l1),vstr app2,vstr product3,vint month4] (z1x [vint r]):=by
 refine ⟨by kernel_rfl,z1s (us:=[vint r]) Tryz.func63 rfl rfl rfl rfl fun X hN => ?_⟩
 unfold y1a at H
 refine z0c ?_
 refine z0b hN rfl ?_
 refine qe rfl ?_
 refine z0c ?_
 refine z0c ?_
 refine z0b hN rfl ?_
 refine qd rfl ?_
 refine z0a (z5b y67 rfl) ?_
 refine qd rfl ?_
 refine z0w ?_
 obtain ⟨h7,H⟩:=gif H
 refine z32 (fun (k5:Nat) (s:Unit)=>[(1,.dat (vstr app2)),(2,.dat (vstr product3)),(3,.dat (vint month4)),(11,.dat (vlst (List.map z0v l1))),(12,.dat (vint (l1.length:Int))),(13,.dat (vint (k5:Int)))]) (fun (k5:Nat) (s:Unit)=>[]) () H ⟨rfl,rfl,rfl,rfl,rfl,rfl,trivial⟩ trivial (fun _ _=>rfl) ?_ ?_
 ·rintro ⟨⟩ H
  replace H:y2h=some r:=H
  unfold y2h at H
  refine z0c ?_
  refine z0b hN rfl ?_
  refine z0a (z03 rfl rfl) ?_
  refine z0c ?_
  refine z0k _ rfl (fun h=>(lt_t h).elim) (fun h => ?_)
  refine z1j ?_
  refine z0c ?_
  refine z0b hN rfl ?_
  refine qe rfl ?_
  refine z0t ?_
  cases H
  exact ⟨trivial,.inl rfl,trivial⟩
 ·rintro k5 x8 ⟨⟩ q6 h9 h10 H hq6
  replace H:z8z app2 product3 month4 k5 x8=some q6:=H
  unfold z8z at H
  refine z0c ?_
  refine z0b hN rfl ?_
  refine z0a (z03 rfl rfl) ?_
  refine z0c ?_
  refine z0k _ rfl (fun h => ?_) (fun h=>(lt_f h9 h).elim)
  refine z0q ?_
  refine z0c ?_
  refine z0w ?_
  refine z0c ?_
  refine z0b hN rfl ?_
  refine z0a (y2a y1k (fun _=>rfl) rfl rfl h10) ?_
  refine z0a (z2l y0a rfl (z3e h10) rfl) ?_
  refine z0g (z1m 1 x3s rfl) rfl ?_
  refine z0g (z08 y0a rfl rfl rfl rfl) rfl ?_
  refine z0c ?_
  refine z0b hN rfl ?_
  refine z0a (z0m y6y rfl) ?_
  refine z0h (z0l tyS9 rfl rfl) rfl ?_
  refine qd rfl ?_
  refine z0a (y5y rfl rfl) ?_
  refine qd rfl ?_
  refine z4b rfl rfl (fun hc=>z0m y73 rfl) ?_
  refine y6d rfl rfl (fun hc=>z0l tyS9 (cnd (c:=(decide (x8.App=app2))) hc) rfl) rfl y5x ?_
  refine z4b rfl rfl (fun hc=>z0j (.dat _) rfl) ?_
  refine z4b rfl rfl (fun hc=>y5y (cnd (c:=(decide (x8.App=app2))) hc) (cnd (c:=(decide (x8.App=app2))) hc)) ?_
  refine z0a (z25 rfl (fun hb=>(cnd (c:=(decide (x8.App=app2))) hb)) rfl) ?_
  refine qd rfl ?_
  refine z4b rfl rfl (fun hc=>z0m y58 rfl) ?_
  refine y6d rfl rfl (fun hc=>z0l tyS3 (cnd (c:=((decide (x8.App=app2)) && (decide (x8.Product=product3)))) hc) rfl) rfl y5x ?_
  refine z4b rfl rfl (fun hc=>z0j (.dat _) rfl) ?_
  refine z4b rfl rfl (fun hc=>z2g (cnd (c:=((decide (x8.App=app2)) && (decide (x8.Product=product3)))) hc) (cnd (c:=((decide (x8.App=app2)) && (decide (x8.Product=product3)))) hc)) ?_
  refine z0a (z25 rfl (fun hb=>(cnd (c:=((decide (x8.App=app2)) && (decide (x8.Product=product3)))) hb)) rfl) ?_
  refine z0k _ rfl (fun h11 => ?_) (fun h11 => ?_)
  ·replace H:=ift h11 H
   refine z0c ?_
   refine z0b hN rfl ?_
   refine z0a (z0m y48 rfl) ?_
   refine z0h (z0l tyS3 rfl rfl) rfl ?_
   refine qe rfl ?_
   refine z0t ?_
   replace H:=retl H hq6
   cases H
   exact ⟨trivial,.inl rfl,trivial⟩
  ·replace H:=iff_ h11 H
   refine z0q ?_
   refine z0b hN rfl ?_
   refine z0a (z3h rfl rfl (by omega)) ?_
   refine qd rfl ?_
   exact ⟨_,z5d H,⟨rfl,rfl,rfl,rfl,rfl,rfl,trivial⟩,trivial⟩
theorem x0m (c1:z0i) (s2:z0o) (uses3:(List z0e)) (app4:Bs) (product5:Bs) (v6:Int) (r:(Int)) (H:y10 c1 s2 uses3 app4 product5 v6=some r):Fn Tryz.prog 20 [vagg (z1h c1),vagg (z1g s2),vlst (List.map z0v uses3),vstr app4,vstr product5,vint v6] (z1x [vint r]):=by
 refine ⟨by kernel_rfl,z1s (us:=[vint r]) Tryz.func20 rfl rfl rfl rfl fun X hN => ?_⟩
 unfold y10 at H
 refine z0c ?_
 refine z0b hN rfl ?_
 refine z0g (z16 1 rfl) rfl ?_
 refine z0g (z16 2 rfl) rfl ?_
 refine qe rfl ?_
 refine z0c ?_
 refine z2n mixed hN rfl rfl ?_
 refine z0a (z0m y0o rfl) ?_
 refine z0h (z0l y57 rfl rfl) rfl ?_
 refine z0h (z06 z5x rfl rfl rfl) rfl ?_
 refine z0a (z0m y83 rfl) ?_
 refine z0h (z0l tyS9 rfl rfl) rfl ?_
 obtain ⟨r7,h8,H⟩:=bnd H
 refine z0a (z0z (y14 c1 s2.Plan r7 h8) ⟨.inl rfl,.inl rfl,trivial⟩) ?_
 obtain ⟨x9,h10,H⟩:=bnd H
 refine z0a (y1q x0b (fun _=>rfl) rfl rfl h10) ?_
 refine z0a (z2l y47 rfl (z3e (z1n h10).2) rfl) ?_
 refine z0g (z1m 3 y80 rfl) rfl ?_
 refine z0g (z08 y47 rfl rfl rfl rfl) rfl ?_
 refine ⟨rfl,?_⟩
 refine z0c ?_
 refine z0c ?_
 refine z0b hN rfl ?_
 refine z0a (z0m y82 rfl) ?_
 refine z0h (z0l tyS3 rfl rfl) rfl ?_
 refine z0a (z03 rfl rfl) ?_
 refine z0k _ rfl (fun h11 => ?_) (fun h11 => ?_)
 ·replace H:=ift h11 H
  refine z0c ?_
  refine z0b hN rfl ?_
  refine qe rfl ?_
  refine z0t ?_
  cases H
  exact ⟨trivial,.inl rfl,trivial⟩
 ·replace H:=iff_ h11 H
  refine z0q ?_
  refine z0c ?_
  refine z2n mixed hN rfl rfl ?_
  refine z0a (z0m y82 rfl) ?_
  refine z0h (z0l tyS3 rfl rfl) rfl ?_
  refine qd rfl ?_
  refine qd rfl ?_
  refine qd rfl ?_
  refine qd rfl ?_
  obtain ⟨h12,H⟩:=gif H
  refine z0a (x4a rfl rfl h12.1 h12.2) ?_
  obtain ⟨r13,h14,H⟩:=bnd H
  refine z0a (z0z (y90 uses3 app4 product5 (v6 / 2592000000) r13 h14) ⟨.inl rfl,.inl rfl,.inl rfl,.inl rfl,trivial⟩) ?_
  refine z0a (z05 _ rfl rfl (.inr (.inl ⟨rfl,rfl⟩))) ?_
  refine z0a (x4d rfl rfl) ?_
  refine qe rfl ?_
  refine ⟨rfl,?_⟩
  refine z0t ?_
  cases H
  exact ⟨trivial,.inl rfl,trivial⟩
theorem y9f (u1:z0e) (r:(Bool)) (H:z8v u1=some r):Fn Tryz.prog 64 [vagg (z0v u1)] (z1x [z1p r]):=by
 refine ⟨by kernel_rfl,z1s (us:=[z1p r]) Tryz.func64 rfl rfl rfl rfl fun X hN => ?_⟩
 unfold z8v at H
 refine z0c ?_
 refine z0b hN rfl ?_
 refine z0g (z16 1 rfl) rfl ?_
 refine qe rfl ?_
 refine z0c ?_
 refine z0b hN rfl ?_
 refine z0a (z0m y48 rfl) ?_
 refine z0h (z0l tyS3 rfl rfl) rfl ?_
 refine z0a (z4c rfl rfl) ?_
 refine qe rfl ?_
 refine z0t ?_
 cases H
 exact ⟨trivial,.inl rfl,trivial⟩
theorem x0k (a1:(List z0e)) (b2:(List z0e)) (r:((List z0e)×Int)) (H:y1x a1 b2=some r):Fn Tryz.prog 21 [vlst (List.map z0v a1),vlst (List.map z0v b2)] (z1x [vlst (List.map z0v r.1),vint r.2]):=by
 refine ⟨by kernel_rfl,z1s (us:=[vlst (List.map z0v r.1),vint r.2]) Tryz.func21 rfl rfl rfl rfl fun X hN => ?_⟩
 unfold y1x at H
 refine z0c ?_
 refine z0b hN rfl ?_
 refine qe rfl ?_
 refine qe rfl ?_
 refine z0c ?_
 refine z0b hN rfl ?_
 refine qd rfl ?_
 refine qd rfl ?_
 refine z0a (z09 (u':=vlst (List.map y5c [a1,b2])) (z1w [[_],[_]] w5e ⟨rfl,.inl ⟨_,rfl,rfl,rfl⟩,rfl,rfl,.inl ⟨_,rfl,rfl,rfl⟩,rfl,trivial⟩ rfl rfl) rfl) ?_
 obtain ⟨r3,h4,H⟩:=bnd H
 refine z4y (rn [(1,1)]) [] [(1,_)] (y00 [a1,b2] r3 h4) ⟨rfl,trivial⟩ ⟨.inl (.inl rfl),trivial⟩ trivial rfl ?_
 refine z0a (z1o (.row _ _) rfl) ?_
 refine z0c ?_
 refine z0b hN rfl ?_
 refine z0a (z0j (.row _ _) rfl) ?_
 obtain ⟨r5,h6,H⟩:=bnd H
 obtain ⟨h7,H⟩:=gif H
 refine z4y (rn [(0,1)]) [(0,_,_,some _)] [] (z77 r3 (fun (a0:z0e) (a1:z0e)=>z7e a0 a1) 48 [] (fun a0 a1 r h=>y4f a0 a1 r h) r5 h6) ⟨rfl,trivial⟩ ⟨.inl (.inl rfl),.inr ⟨_,rfl,rfl⟩,trivial⟩ ⟨⟨⟨rfl,rfl,rfl⟩,by simp [y6n,h7]⟩,trivial⟩ rfl ?_
 refine z0c ?_
 refine z0b hN rfl ?_
 refine qe rfl ?_
 refine z0c ?_
 refine z0c ?_
 refine z0b hN rfl ?_
 refine z0a (z0j (.row _ _) rfl) ?_
 refine z0h (y6r y67 rfl (h7).symm) rfl ?_
 refine qd rfl ?_
 refine z0w ?_
 refine y2w 7 2 57 4 rfl rfl rfl ?_
 obtain ⟨h11,H⟩:=gif H
 refine y65 (fun (k9:Nat) (s:(List z0e))=>[(7,.row 2 s.length),(17,.row 1 r3.length),(18,.dat (vint (r5.length:Int))),(19,.dat (vint (k9:Int)))]) (fun (k9:Nat) (s:(List z0e))=>[(1,.row 57 4 (List.map z0v r5)),(2,.row 57 4 (List.map z0v s))]) [] H ⟨rfl,rfl,rfl,rfl,trivial⟩ ⟨rfl,rfl,trivial⟩ (fun _ _=>rfl) ?_ ?_
 ·rintro l8 H
  replace H:y25 l8=some r:=H
  unfold y25 at H
  refine z0c ?_
  refine z0b hN rfl ?_
  refine z0a (z03 rfl rfl) ?_
  refine z0c ?_
  refine z0k _ rfl (fun h=>(lt_t h).elim) (fun h => ?_)
  refine z1j ?_
  refine z0c ?_
  refine z0c ?_
  refine z0b hN rfl ?_
  refine z0a (z0j (.row _ _) rfl) ?_
  refine z0h (y6r y67 rfl rfl) rfl ?_
  refine z0a (z4c rfl rfl) ?_
  refine z0k _ rfl (fun h12 => ?_) (fun h12 => ?_)
  ·replace H:=ift h12 H
   refine z0c ?_
   refine z0b hN rfl ?_
   refine qe rfl ?_
   refine qe rfl ?_
   refine z0t ?_
   cases H
   exact ⟨trivial,.inr ⟨rfl,rfl⟩,.inl rfl,trivial⟩
  ·replace H:=iff_ h12 H
   refine z0q ?_
   refine z0c ?_
   refine z0c ?_
   refine x1e 7 2 rfl rfl rfl ?_
   refine z0b hN rfl ?_
   refine qd rfl ?_
   obtain ⟨r13,h14,H⟩:=bnd H
   refine z0a (y76 (z85 l8 (fun (a0:z0e)=>z8v a0) 64 [] (fun a0 r h=>y9f a0 r h) r13 h14) ⟨.inl (.inl rfl),.inr ⟨_,rfl,rfl⟩,trivial⟩) ?_
   refine z0k _ rfl (fun h15 => ?_) (fun h15 => ?_)
   ·replace H:=ift h15 H
    refine z0c ?_
    refine z0b hN rfl ?_
    refine qe rfl ?_
    refine qe rfl ?_
    refine z0t ?_
    cases H
    exact ⟨trivial,.inr ⟨rfl,rfl⟩,.inl rfl,trivial⟩
   ·replace H:=iff_ h15 H
    refine z0q ?_
    refine z0c ?_
    refine z0b hN rfl ?_
    refine qd rfl ?_
    refine qe rfl ?_
    refine qe rfl ?_
    refine z0t ?_
    cases H
    exact ⟨trivial,.inl rfl,.inl rfl,trivial⟩
 ·rintro k9 l8 q10 h16 H hq10
  replace H:y24 r5 k9 l8=some q10:=H
  unfold y24 at H
  refine z0c ?_
  refine z0b hN rfl ?_
  refine z0a (z03 rfl rfl) ?_
  refine z0c ?_
  refine z0k _ rfl (fun h => ?_) (fun h=>(lt_f h16 h).elim)
  refine z0q ?_
  refine z07 (ι:=(List z0e)) (fun i=>[(7,.row 2 i.length),(17,.row 1 r3.length),(18,.dat (vint (r5.length:Int))),(19,.dat (vint (k9:Int)))]) (fun i=>[(1,.row 57 4 (List.map z0v r5)),(2,.row 57 4 (List.map z0v i))]) (fun i=>z9x i=some q10) (fun i=>rfl) ?_ ?_
  ·skip
   refine z0w ?_
   refine z0c ?_
   refine z0b hN rfl ?_
   obtain ⟨x17,h18,H⟩:=bnd H
   refine z0h (w5k y1k rfl (h7).symm rfl h18) rfl ?_
   refine z0h (y4n y0a rfl (h7).symm h18 rfl) rfl ?_
   refine z0g (z1m 3 x3s rfl) rfl ?_
   refine z0g (z08 y0a rfl rfl rfl rfl) rfl ?_
   refine z0c ?_
   refine z0b hN rfl ?_
   refine z0a (z0j (.row _ _) rfl) ?_
   refine z0h (y6r y67 rfl rfl) rfl ?_
   refine z0a (z05 _ rfl rfl (.inr (.inl ⟨rfl,rfl⟩))) ?_
   refine qe rfl ?_
   refine z07 (ι:=Bool) (fun i=>[(7,.row 2 l8.length),(9,.ptr 3 0),(10,.dat (vint (wr ((l8.length:Int) - 1)))),(17,.row 1 r3.length),(18,.dat (vint (r5.length:Int))),(19,.dat (vint (k9:Int))),(36,.dat (z1p i))]) (fun i=>[(1,.row 57 4 (List.map z0v r5)),(2,.row 57 4 (List.map z0v l8)),(3,.box none 57 [.dat (vstr x17.App),.dat (vstr x17.Product),.dat (vint x17.Month),.dat (vint x17.Calls)])]) (fun i=>z79 l8 x17 i=some q10) (fun i=>rfl) ?_ ?_
   ·skip
    refine z2n mixed hN rfl rfl ?_
    refine qd rfl ?_
    refine z0a (y5a rfl rfl) ?_
    refine qd rfl ?_
    refine z15 (j:=2) rfl rfl (fun h19 => ?_) (fun h19 => ?_) rfl
    ·have h20:=un1 h19
     replace H:=ift h20 H
     refine z04 rfl rfl h19 (z0j (.row _ _) rfl) ?_
     refine z04 rfl rfl h19 (z0j (.dat _) rfl) ?_
     obtain ⟨x21,h22,H⟩:=bnd H
     refine z5r rfl rfl h19 (y49 y1k rfl rfl rfl h22) rfl ?_
     refine z5r rfl rfl h19 (y4n y0a rfl rfl (z1n h22).2 rfl) rfl ?_
     refine z5r rfl rfl h19 (z06 y0a rfl rfl rfl) rfl ?_
     obtain ⟨r23,h24,H⟩:=bnd H
     refine z04 rfl rfl h19 (z0z (y4f x21 x17 r23 h24) ⟨.inl rfl,.inl rfl,trivial⟩) ?_
     refine z04 rfl rfl h19 (z2g rfl rfl) ?_
     refine z0a (z1t rfl (bTT h20) rfl) ?_
     refine ⟨rfl,?_⟩
     exact ⟨decide (r23=0),H,⟨rfl,rfl,rfl,rfl,rfl,rfl,rfl,trivial⟩,⟨rfl,rfl,rfl,trivial⟩⟩
    ·have h25:=un2 h19
     replace H:=iff_ h25 H
     refine z0n rfl rfl h19 ?_
     refine z0n rfl rfl h19 ?_
     refine z0n rfl rfl h19 ?_
     refine z0n rfl rfl h19 ?_
     refine z0n rfl rfl h19 ?_
     refine z0n rfl rfl h19 ?_
     refine z0n rfl rfl h19 ?_
     refine z0a (z1l rfl (bFF h25) rfl) ?_
     refine ⟨rfl,?_⟩
     exact ⟨false,H,⟨rfl,rfl,rfl,rfl,rfl,rfl,rfl,trivial⟩,⟨rfl,rfl,rfl,trivial⟩⟩
   ·rintro v26 H
    replace H:z79 l8 x17 v26=some q10:=H
    unfold z79 at H
    refine z0k _ rfl (fun h27 => ?_) (fun h27 => ?_)
    ·replace H:=ift h27 H
     refine z2n mixed hN rfl rfl ?_
     refine z0a (z0j (.row _ _) rfl) ?_
     refine qd rfl ?_
     obtain ⟨x28,h29,H⟩:=bnd H
     refine z0h (y49 y1k rfl rfl rfl h29) rfl ?_
     refine z0a (y1m y48 rfl) ?_
     refine z0h (x1d tyS3 rfl rfl (z1n h29).2 rfl) rfl ?_
     refine z0a (z0m y48 rfl) ?_
     refine z0h (z0l tyS3 rfl rfl) rfl ?_
     refine z0a (z05 _ rfl rfl (.inl ⟨rfl,rfl⟩)) ?_
     refine z0h (y49 y1k rfl rfl rfl h29) rfl ?_
     refine z0a (y1m y48 rfl) ?_
     refine z0g (y4m (z0e.mk x28.App x28.Product x28.Month (wr (x28.Calls+x17.Calls))) tyS3 rfl rfl rfl rfl (z1n h29).2 rfl rfl) rfl ?_
     refine ⟨rfl,?_⟩
     exact ⟨(l8.set ((wr ((l8.length:Int) - 1)).toNat) (z0e.mk x28.App x28.Product x28.Month (wr (x28.Calls+x17.Calls)))),H,⟨congrArg (Slot.row 2) (by simp),rfl,rfl,rfl,trivial⟩,⟨rfl,rfl,trivial⟩⟩
    ·replace H:=iff_ h27 H
     refine z0b hN rfl ?_
     refine z0a (z0j (.row _ _) rfl) ?_
     refine z0h (z06 y0a rfl rfl rfl) rfl ?_
     refine z0a (z09 (u':=vlst (List.map z0v [x17])) (z1w [_] x5l ⟨rfl,.inr rfl,rfl,trivial⟩ rfl rfl) rfl) ?_
     obtain ⟨h30,H⟩:=gif H
     refine z0g (y7t x5l (fun _=>rfl) rfl rfl rfl ⟨by simp,by first | (simp; done) | simpa using h30⟩ rfl) rfl ?_
     refine z0a (z1o (.row _ _) rfl) ?_
     exact ⟨(l8++[x17]),H,⟨rfl,rfl,rfl,rfl,trivial⟩,⟨rfl,rfl,trivial⟩⟩
  ·rintro out31 H
   replace H:z9x out31=some q10:=H
   unfold z9x at H
   refine z0b hN rfl ?_
   refine z0a (z3h rfl rfl (by omega)) ?_
   refine qd rfl ?_
   exact ⟨_,z5d H,⟨rfl,rfl,rfl,rfl,trivial⟩,⟨rfl,rfl,trivial⟩⟩
theorem y4s (s1:(List z0e)) (s2:(List z0e)) (r:(Bool)) (H:z50 s1 s2=some r):Fn Tryz.prog 22 [vlst (List.map z0v s1),vlst (List.map z0v s2)] (z1x [z1p r]):=by
 refine ⟨by kernel_rfl,z1s (us:=[z1p r]) Tryz.func22 rfl rfl rfl rfl fun X hN => ?_⟩
 unfold z50 at H
 refine z0c ?_
 refine z0b hN rfl ?_
 refine qe rfl ?_
 refine z0c ?_
 refine z0c ?_
 refine z0b hN rfl ?_
 refine qd rfl ?_
 refine z0a (z5b y67 rfl) ?_
 refine qd rfl ?_
 refine z0a (z5b y67 rfl) ?_
 refine z0a (z6y rfl rfl) ?_
 refine z0k _ rfl (fun h3 => ?_) (fun h3 => ?_)
 ·replace H:=ift h3 H
  refine z0c ?_
  refine z0b hN rfl ?_
  refine qe rfl ?_
  refine z0t ?_
  cases H
  exact ⟨trivial,.inl rfl,trivial⟩
 ·replace H:=iff_ h3 H
  refine z0q ?_
  refine z0c ?_
  refine z0c ?_
  refine z0b hN rfl ?_
  refine qd rfl ?_
  refine z0a (z5b y67 rfl) ?_
  refine qd rfl ?_
  refine z0w ?_
  obtain ⟨h6,H⟩:=gif H
  refine z32 (fun (k4:Nat) (s:Unit)=>[(0,.dat (vlst (List.map z0v s1))),(1,.dat (vlst (List.map z0v s2))),(12,.dat (vint (s1.length:Int))),(13,.dat (vint (k4:Int)))]) (fun (k4:Nat) (s:Unit)=>[]) () H ⟨rfl,rfl,rfl,rfl,trivial⟩ trivial (fun _ _=>rfl) ?_ ?_
  ·rintro ⟨⟩ H
   replace H:z7v=some r:=H
   unfold z7v at H
   refine z0c ?_
   refine z0b hN rfl ?_
   refine z0a (z03 rfl rfl) ?_
   refine z0c ?_
   refine z0k _ rfl (fun h=>(lt_t h).elim) (fun h => ?_)
   refine z1j ?_
   refine z0c ?_
   refine z0b hN rfl ?_
   refine qe rfl ?_
   refine z0t ?_
   cases H
   exact ⟨trivial,.inl rfl,trivial⟩
  ·rintro k4 x7 ⟨⟩ q5 h8 h9 H hq5
   replace H:z7u s2 k4 x7=some q5:=H
   unfold z7u at H
   refine z0c ?_
   refine z0b hN rfl ?_
   refine z0a (z03 rfl rfl) ?_
   refine z0c ?_
   refine z0k _ rfl (fun h => ?_) (fun h=>(lt_f h8 h).elim)
   refine z0q ?_
   refine z0c ?_
   refine z0w ?_
   refine z0c ?_
   refine z0b hN rfl ?_
   refine qd rfl ?_
   refine qe rfl ?_
   refine z0c ?_
   refine z2n mixed hN rfl rfl ?_
   refine qd rfl ?_
   refine qd rfl ?_
   refine z0a (y2a y1k (fun _=>rfl) rfl rfl h9) ?_
   refine z0a (z2l y0a rfl (z3e h9) rfl) ?_
   refine qd rfl ?_
   refine qd rfl ?_
   obtain ⟨x10,h11,H⟩:=bnd H
   refine z0a (y2a y1k (fun _=>rfl) rfl rfl h11) ?_
   refine z0a (z2l y0a rfl (z3e h11) rfl) ?_
   refine z0a (w38 [_,_,_,_] [_,_,_,_] w88 rfl rfl rfl) ?_
   refine ⟨rfl,?_⟩
   refine z0k _ rfl (fun h12 => ?_) (fun h12 => ?_)
   ·replace H:=ift h12 H
    refine z0c ?_
    refine z0b hN rfl ?_
    refine qe rfl ?_
    refine z0t ?_
    replace H:=retl H hq5
    cases H
    exact ⟨trivial,.inl rfl,trivial⟩
   ·replace H:=iff_ h12 H
    refine z0q ?_
    refine z0b hN rfl ?_
    refine z0a (z3h rfl rfl (by omega)) ?_
    refine qd rfl ?_
    exact ⟨_,z5d H,⟨rfl,rfl,rfl,rfl,trivial⟩,trivial⟩
theorem x2r (p1:z0p) (calls2:Int) (r:(Int)) (H:y3x p1 calls2=some r):Fn Tryz.prog 101 [vagg (z01 p1),vint calls2] (z1x [vint r]):=by
 refine ⟨by kernel_rfl,z1s (us:=[vint r]) Tryz.func101 rfl rfl rfl rfl fun X hN => ?_⟩
 unfold y3x at H
 refine z0c ?_
 refine z0b hN rfl ?_
 refine z0g (z16 1 rfl) rfl ?_
 refine qe rfl ?_
 refine z0c ?_
 refine z0b hN rfl ?_
 refine qd rfl ?_
 refine z0a (z0m x3v rfl) ?_
 refine z0h (z0l tyS3 rfl rfl) rfl ?_
 refine z0a (z05 _ rfl rfl (.inr (.inl ⟨rfl,rfl⟩))) ?_
 refine z0a (x4d rfl rfl) ?_
 refine qe rfl ?_
 refine z0c ?_
 refine z0b hN rfl ?_
 refine qe rfl ?_
 refine z0c ?_
 refine z0c ?_
 refine z0b hN rfl ?_
 refine z0a (z0m y39 rfl) ?_
 refine z0h (z0l y81 rfl rfl) rfl ?_
 refine z0a (z5b x5k rfl) ?_
 refine qd rfl ?_
 refine z0w ?_
 obtain ⟨h6,H⟩:=gif H
 refine z32 (fun (k4:Nat) (s:Int)=>[(2,.ptr 1 0),(5,.dat (vint (max 0 (wr (calls2 - p1.Free))))),(6,.dat (vint s)),(16,.dat (vlst (List.map z1y p1.Tiers))),(17,.dat (vint (p1.Tiers.length:Int))),(18,.dat (vint (k4:Int)))]) (fun (k4:Nat) (s:Int)=>[(1,.box none 83 [.dat (vstr p1.Key),.dat (vstr p1.Product),.dat (vint p1.Base),.dat (vint p1.Free),.dat (vlst (List.map z1y p1.Tiers)),.dat (vint p1.Limit),.dat (vint p1.Trial),.dat (z1p p1.Asked)])]) 0 H ⟨rfl,rfl,rfl,rfl,rfl,rfl,trivial⟩ ⟨rfl,trivial⟩ (fun _ _=>rfl) ?_ ?_
 ·rintro sum3 H
  replace H:y1r sum3=some r:=H
  unfold y1r at H
  refine z0c ?_
  refine z0b hN rfl ?_
  refine z0a (z03 rfl rfl) ?_
  refine z0c ?_
  refine z0k _ rfl (fun h=>(lt_t h).elim) (fun h => ?_)
  refine z1j ?_
  refine z0c ?_
  refine z0b hN rfl ?_
  refine qd rfl ?_
  obtain ⟨h8,H⟩:=gif H
  refine z0a (x4a rfl rfl h8.1 h8.2) ?_
  refine qe rfl ?_
  refine z0t ?_
  cases H
  exact ⟨trivial,.inl rfl,trivial⟩
 ·rintro k4 x7 sum3 q5 h9 h10 H hq5
  replace H:y0p p1 calls2 k4 x7 sum3=some q5:=H
  unfold y0p at H
  refine z0c ?_
  refine z0b hN rfl ?_
  refine z0a (z03 rfl rfl) ?_
  refine z0c ?_
  refine z0k _ rfl (fun h => ?_) (fun h=>(lt_f h9 h).elim)
  refine z0q ?_
  refine z0c ?_
  refine z0w ?_
  refine z0c ?_
  refine z0b hN rfl ?_
  refine qd rfl ?_
  refine z0a (y2a x5m (fun _=>rfl) rfl rfl h10) ?_
  refine z0a (z2l x2y rfl (z3e h10) rfl) ?_
  refine z0g (z1m 2 x1m rfl) rfl ?_
  refine qe rfl ?_
  refine z0g (z08 x2y rfl rfl rfl rfl) rfl ?_
  refine z0c ?_
  refine z0b hN rfl ?_
  refine qd rfl ?_
  refine qe rfl ?_
  refine z07 (ι:=Int) (fun i=>[(2,.ptr 1 0),(5,.dat (vint (max 0 (wr (calls2 - p1.Free))))),(6,.dat (vint sum3)),(8,.ptr 2 0),(9,.dat (vint i)),(16,.dat (vlst (List.map z1y p1.Tiers))),(17,.dat (vint (p1.Tiers.length:Int))),(18,.dat (vint (k4:Int)))]) (fun i=>[(1,.box none 83 [.dat (vstr p1.Key),.dat (vstr p1.Product),.dat (vint p1.Base),.dat (vint p1.Free),.dat (vlst (List.map z1y p1.Tiers)),.dat (vint p1.Limit),.dat (vint p1.Trial),.dat (z1p p1.Asked)]),(2,.box none 118 [.dat (vint x7.From),.dat (vint x7.Cents)])]) (fun i=>y0q sum3 x7 i=some q5) (fun i=>rfl) ?_ ?_
  ·skip
   refine z0c ?_
   refine z0b hN rfl ?_
   refine qd rfl ?_
   refine z0a (z3h rfl rfl (by omega)) ?_
   refine z0a (z0m y39 rfl) ?_
   refine z0h (z0l y81 rfl rfl) rfl ?_
   refine z0a (z5b x5k rfl) ?_
   refine z0a (z03 rfl rfl) ?_
   refine z0k _ rfl (fun h11 => ?_) (fun h11 => ?_)
   ·replace H:=ift h11 H
    refine z0b hN rfl ?_
    refine qd rfl ?_
    refine z0a (z0m y39 rfl) ?_
    refine z0h (z0l y81 rfl rfl) rfl ?_
    refine qd rfl ?_
    refine z0a (z3h rfl rfl (by omega)) ?_
    obtain ⟨x12,h13,H⟩:=bnd H
    refine z0a (y2a x5m (fun _=>rfl) rfl rfl h13) ?_
    refine z0a (y20 y5d rfl) ?_
    refine z0a (z24 tyS3 rfl (z3e h13) rfl) ?_
    refine z0a (z05 _ rfl rfl (.inr (.inl ⟨rfl,rfl⟩))) ?_
    refine z0a (w6k rfl rfl) ?_
    refine qe rfl ?_
    exact ⟨(min (max 0 (wr (calls2 - p1.Free))) (wr (x12.From - 1))),H,⟨rfl,rfl,rfl,rfl,rfl,rfl,rfl,rfl,trivial⟩,⟨rfl,rfl,trivial⟩⟩
   ·replace H:=iff_ h11 H
    refine z0q ?_
    exact ⟨(max 0 (wr (calls2 - p1.Free))),H,⟨rfl,rfl,rfl,rfl,rfl,rfl,rfl,rfl,trivial⟩,⟨rfl,rfl,trivial⟩⟩
  ·rintro to14 H
   replace H:y0q sum3 x7 to14=some q5:=H
   unfold y0q at H
   refine z0b hN rfl ?_
   refine qd rfl ?_
   refine qd rfl ?_
   refine z0a (z0m y5d rfl) ?_
   refine z0h (z0l tyS3 rfl rfl) rfl ?_
   refine z0a (z05 _ rfl rfl (.inr (.inl ⟨rfl,rfl⟩))) ?_
   refine z0a (z05 _ rfl rfl (.inl ⟨rfl,rfl⟩)) ?_
   refine z0a (x4d rfl rfl) ?_
   refine z0a (z0m x3z rfl) ?_
   refine z0h (z0l tyS3 rfl rfl) rfl ?_
   refine z0a (z05 _ rfl rfl (.inr (.inr ⟨rfl,rfl⟩))) ?_
   refine z0a (z05 _ rfl rfl (.inl ⟨rfl,rfl⟩)) ?_
   refine qe rfl ?_
   refine z0b hN rfl ?_
   refine z0a (z3h rfl rfl (by omega)) ?_
   refine qd rfl ?_
   exact ⟨_,z5d H,⟨rfl,rfl,rfl,rfl,rfl,rfl,trivial⟩,⟨rfl,trivial⟩⟩
theorem x2t (c1:z0i) (plan2:Bs) (calls3:Int) (r:(Int×Int)) (H:y3y c1 plan2 calls3=some r):Fn Tryz.prog 65 [vagg (z1h c1),vstr plan2,vint calls3] (z1x [vint r.1,vint r.2]):=by
 refine ⟨by kernel_rfl,z1s (us:=[vint r.1,vint r.2]) Tryz.func65 rfl rfl rfl rfl fun X hN => ?_⟩
 unfold y3y at H
 refine z0c ?_
 refine z0b hN rfl ?_
 refine z0g (z16 1 rfl) rfl ?_
 refine qe rfl ?_
 refine qe rfl ?_
 refine z0c ?_
 refine z0c ?_
 refine z0b hN rfl ?_
 refine z0h (z06 z5x rfl rfl rfl) rfl ?_
 obtain ⟨r4,h5,H⟩:=bnd H
 refine z0a (z0z (y3c c1 r4 h5) ⟨.inl rfl,trivial⟩) ?_
 refine qe rfl ?_
 refine z0c ?_
 refine z0b hN rfl ?_
 refine qd rfl ?_
 refine z0a (z6y rfl rfl) ?_
 refine z0k _ rfl (fun h6 => ?_) (fun h6 => ?_)
 ·replace H:=ift h6 H
  refine z0c ?_
  refine z0b hN rfl ?_
  refine qd rfl ?_
  refine qe rfl ?_
  refine qe rfl ?_
  refine z0t ?_
  cases H
  exact ⟨trivial,.inl rfl,.inl rfl,trivial⟩
 ·replace H:=iff_ h6 H
  refine z0q ?_
  refine z0c ?_
  refine z0b hN rfl ?_
  refine z0h (z06 z5x rfl rfl rfl) rfl ?_
  refine qd rfl ?_
  obtain ⟨r7,h8,H⟩:=bnd H
  refine z0a (z0z (y4t c1 plan2 r7 h8) ⟨.inl rfl,.inl rfl,trivial⟩) ?_
  refine qd rfl ?_
  refine z0a (z2y rfl rfl) ?_
  refine z0a (z2y rfl rfl) ?_
  refine z0g (z1m 2 y80 rfl) rfl ?_
  refine z0g (z08 y47 rfl rfl rfl rfl) rfl ?_
  refine qe rfl ?_
  refine z0c ?_
  refine z0c ?_
  refine z0b hN rfl ?_
  refine qd rfl ?_
  refine z0a (z3s rfl) ?_
  refine z0k _ rfl (fun h9 => ?_) (fun h9 => ?_)
  ·replace H:=ift h9 H
   refine z0c ?_
   refine z0b hN rfl ?_
   refine qe rfl ?_
   refine qe rfl ?_
   refine z0t ?_
   cases H
   exact ⟨trivial,.inl rfl,.inl rfl,trivial⟩
  ·replace H:=iff_ h9 H
   refine z0q ?_
   refine z0c ?_
   refine z0c ?_
   refine z0b hN rfl ?_
   refine qd rfl ?_
   obtain ⟨r10,h11,H⟩:=bnd H
   refine z0a (z0z (z88 calls3 0 1000000000000 r10 h11) ⟨.inl rfl,.inl rfl,.inl rfl,trivial⟩) ?_
   refine z0k _ rfl (fun h12 => ?_) (fun h12 => ?_)
   ·replace H:=ift h12 H
    refine z0c ?_
    refine z0b hN rfl ?_
    refine qe rfl ?_
    refine qe rfl ?_
    refine z0t ?_
    cases H
    exact ⟨trivial,.inl rfl,.inl rfl,trivial⟩
   ·replace H:=iff_ h12 H
    refine z0q ?_
    refine z0c ?_
    refine z0b hN rfl ?_
    refine z0h (z06 y47 rfl rfl rfl) rfl ?_
    refine qd rfl ?_
    obtain ⟨r13,h14,H⟩:=bnd H
    refine z0a (z0z (x2r r7.1 calls3 r13 h14) ⟨.inl rfl,.inl rfl,trivial⟩) ?_
    refine qe rfl ?_
    refine qe rfl ?_
    refine z0t ?_
    cases H
    exact ⟨trivial,.inl rfl,.inl rfl,trivial⟩
theorem x0n  (r:(Bool)) (H:y11  = some r):Fn Tryz.prog 23 [] (z1x [z1p r]):=by
 refine ⟨by kernel_rfl,z1s (us:=[z1p r]) Tryz.func23 rfl rfl rfl rfl fun X hN => ?_⟩
 unfold y11 at H
 refine z0c ?_
 refine z0b hN rfl ?_
 refine qe rfl ?_
 refine z0c ?_
 refine z0b hN rfl ?_
 refine z0a (w5o (u':=vagg (z0y (z0r.mk [112] []))) (w48 (by exact ⟨x0t,x5j,trivial⟩)) (z3k [(0,[vstr [112]])] x0w x2z rfl ⟨rfl,.inl ⟨_,rfl,rfl,rfl⟩,rfl,trivial⟩)) ?_
 refine z0a (z09 (u':=vlst (List.map z0y [(z0r.mk [112] [])])) (z1w [_] w0s ⟨rfl,.inr rfl,rfl,trivial⟩ rfl rfl) rfl) ?_
 refine z0a (z09 (u':=vagg (z1y (z02.mk 1 2000))) (z3k [(0,[vint 1]),(1,[vint 2000])] x1m x70 rfl ⟨rfl,.inl ⟨_,rfl,rfl,rfl⟩,rfl,rfl,.inl ⟨_,rfl,rfl,rfl⟩,rfl,trivial⟩) rfl) ?_
 refine z0a (z09 (u':=vlst (List.map z1y [(z02.mk 1 2000)])) (z1w [_] x6p ⟨rfl,.inr rfl,rfl,trivial⟩ rfl rfl) rfl) ?_
 refine z0a (z09 (u':=vagg (z01 (z0p.mk [113] [112] 0 0 [(z02.mk 1 2000)] 0 0 false))) (z3k [(0,[vstr [113]]),(1,[vstr [112]]),(4,[vlst (List.map z1y [(z02.mk 1 2000)])])] y80 w3n rfl ⟨rfl,.inl ⟨_,rfl,rfl,rfl⟩,rfl,rfl,.inl ⟨_,rfl,rfl,rfl⟩,rfl,rfl,.inl ⟨_,rfl,rfl,rfl⟩,rfl,trivial⟩) rfl) ?_
 refine z0a (z09 (u':=vlst (List.map z01 [(z0p.mk [113] [112] 0 0 [(z02.mk 1 2000)] 0 0 false)])) (z1w [_] w0r ⟨rfl,.inr rfl,rfl,trivial⟩ rfl rfl) rfl) ?_
 refine z0a (z09 (u':=vagg (z1h (z0i.mk ([(z0r.mk [112] [])]) ([(z0p.mk [113] [112] 0 0 [(z02.mk 1 2000)] 0 0 false)])))) (z3k [(0,[vlst (List.map z0y ([(z0r.mk [112] [])]))]),(1,[vlst (List.map z01 ([(z0p.mk [113] [112] 0 0 [(z02.mk 1 2000)] 0 0 false)]))])] y72 w57 rfl ⟨rfl,.inl ⟨_,rfl,rfl,rfl⟩,rfl,rfl,.inl ⟨_,rfl,rfl,rfl⟩,rfl,trivial⟩) rfl) ?_
 refine z0g (z1m 1 y72 rfl) rfl ?_
 refine z0g (z08 z5x rfl rfl rfl rfl) rfl ?_
 refine z0c ?_
 refine z0b hN rfl ?_
 refine z0h (z06 z5x rfl rfl rfl) rfl ?_
 obtain ⟨r1,h2,H⟩:=bnd H
 refine z0a (z0z (x2t (z0i.mk ([(z0r.mk [112] [])]) ([(z0p.mk [113] [112] 0 0 [(z02.mk 1 2000)] 0 0 false)])) [113] 3 r1 h2) ⟨.inl rfl,.inl rfl,.inl rfl,trivial⟩) ?_
 refine qd rfl ?_
 refine z0a (z2y rfl rfl) ?_
 refine z0a (z2y rfl rfl) ?_
 refine qe rfl ?_
 refine qe rfl ?_
 refine z0c ?_
 refine z0b hN rfl ?_
 refine qd rfl ?_
 refine z0a (z2g rfl rfl) ?_
 refine qd rfl ?_
 refine z4b rfl rfl (fun hc=>z0j (.dat _) rfl) ?_
 refine z4b rfl rfl (fun hc=>z2g (cnd (c:=(decide (r1.2=0))) hc) rfl) ?_
 refine z0a (z25 rfl (fun hb=>(cnd (c:=(decide (r1.2=0))) hb)) rfl) ?_
 refine qe rfl ?_
 refine z0t ?_
 cases H
 exact ⟨trivial,.inl rfl,trivial⟩
theorem y8w (v1:(List Int)) (r:(Bool)) (H:y1o v1=some r):Fn Tryz.prog 3 [vlst (List.map z5a v1)] (z1x [z1p r]):=by
 refine ⟨by kernel_rfl,z1s (us:=[z1p r]) Tryz.func3 rfl rfl rfl rfl fun X hN => ?_⟩
 unfold y1o at H
 refine z0c ?_
 refine z0b hN rfl ?_
 refine qe rfl ?_
 refine z0c ?_
 refine z0b hN rfl ?_
 refine qd rfl ?_
 refine z0a (z09 (u':=vagg (z0x (z0d.mk v1 0))) (z3k [(0,[vlst (List.map z5a v1)])] w85 w89 rfl ⟨rfl,.inl ⟨_,rfl,rfl,rfl⟩,rfl,trivial⟩) rfl) ?_
 refine z0g (z16 1 rfl) rfl ?_
 refine z0a (z1o (.ptr _ _) rfl) ?_
 refine z0c ?_
 refine z0b hN rfl ?_
 refine z0a (z0j (.ptr _ _) rfl) ?_
 refine z0a (z0j (.ptr _ _) rfl) ?_
 obtain ⟨r2,h3,H⟩:=bnd H
 refine z0g (z1f (z78 (z0d.mk v1 0) 0 8 r2 h3) rfl ⟨.inl rfl,.inl rfl,trivial⟩ rfl) rfl ?_
 obtain ⟨r4,h5,H⟩:=bnd H
 refine z0g (z1f (x0o r2.2 r2.1 r4 h5) rfl ⟨.inl rfl,trivial⟩ rfl) rfl ?_
 refine qd rfl ?_
 refine z0a (z2y rfl rfl) ?_
 refine z0a (z2y rfl rfl) ?_
 refine z0a (z2y rfl rfl) ?_
 refine z0a (z2y rfl rfl) ?_
 refine z0g (z1m 2 y72 rfl) rfl ?_
 refine z0g (z08 z5x rfl rfl rfl rfl) rfl ?_
 refine qe rfl ?_
 refine qe rfl ?_
 refine qe rfl ?_
 refine z0c ?_
 refine z0b hN rfl ?_
 refine z0a (z0j (.ptr _ _) rfl) ?_
 refine qd rfl ?_
 obtain ⟨r6,h7,H⟩:=bnd H
 refine z0g (z1f (y43 r4.2.2.2.2 r4.2.1 r6 h7) rfl ⟨.inl rfl,trivial⟩ rfl) rfl ?_
 refine z0a (z0j (.ptr _ _) rfl) ?_
 refine qd rfl ?_
 obtain ⟨r8,h9,H⟩:=bnd H
 refine z0g (z1f (y43 r6.2 r4.2.1 r8 h9) rfl ⟨.inl rfl,trivial⟩ rfl) rfl ?_
 refine qe rfl ?_
 refine qe rfl ?_
 refine z0c ?_
 refine z0b hN rfl ?_
 refine z0a (z0j (.ptr _ _) rfl) ?_
 obtain ⟨r10,h11,H⟩:=bnd H
 refine z0g (z1f (y4i r8.2 r10 h11) rfl trivial rfl) rfl ?_
 refine z0a (z0j (.ptr _ _) rfl) ?_
 obtain ⟨r12,h13,H⟩:=bnd H
 refine z0g (z1f (y23 r10.2 r12 h13) rfl trivial rfl) rfl ?_
 refine z0a (z0j (.ptr _ _) rfl) ?_
 obtain ⟨r14,h15,H⟩:=bnd H
 refine z0g (z1f (y5r r12.2 r14 h15) rfl trivial rfl) rfl ?_
 refine qe rfl ?_
 refine qe rfl ?_
 refine qe rfl ?_
 refine z0c ?_
 refine z0b hN rfl ?_
 refine z0h (z06 z5x rfl rfl rfl) rfl ?_
 refine qd rfl ?_
 refine qd rfl ?_
 refine qd rfl ?_
 obtain ⟨r16,h17,H⟩:=bnd H
 refine z0a (z0z (x57 r4.1 r4.2.1 r6.1 r8.1 r16 h17) ⟨.inl rfl,.inl rfl,.inl rfl,.inl rfl,trivial⟩) ?_
 refine qd rfl ?_
 refine z0a (z2y rfl rfl) ?_
 refine z0a (z2y rfl rfl) ?_
 refine qe rfl ?_
 refine qe rfl ?_
 refine z0c ?_
 refine z0b hN rfl ?_
 refine z0h (z06 z5x rfl rfl rfl) rfl ?_
 refine qd rfl ?_
 refine qd rfl ?_
 refine qd rfl ?_
 refine qd rfl ?_
 refine qd rfl ?_
 refine qd rfl ?_
 obtain ⟨r18,h19,H⟩:=bnd H
 refine z0a (z0z (x4v r4.1 r4.2.1 r4.2.2.1 r6.1 r10.1 r12.1 r14.1 r18 h19) ⟨.inl rfl,.inl rfl,.inl rfl,.inl rfl,.inl rfl,.inl rfl,.inl rfl,trivial⟩) ?_
 refine qd rfl ?_
 refine z0a (z2y rfl rfl) ?_
 refine z0a (z2y rfl rfl) ?_
 refine qe rfl ?_
 refine qe rfl ?_
 refine z0c ?_
 refine z0b hN rfl ?_
 refine z0h (z06 z5x rfl rfl rfl) rfl ?_
 refine qd rfl ?_
 refine qd rfl ?_
 obtain ⟨r20,h21,H⟩:=bnd H
 refine z0a (z0z (y5u r4.1 r4.2.1 r6.1 r20 h21) ⟨.inl rfl,.inl rfl,.inl rfl,trivial⟩) ?_
 refine qe rfl ?_
 refine z0c ?_
 refine z0c ?_
 refine z0b hN rfl ?_
 refine z0h (z06 z5x rfl rfl rfl) rfl ?_
 refine qd rfl ?_
 refine qd rfl ?_
 obtain ⟨r22,h23,H⟩:=bnd H
 refine z0a (z0z (y4u r4.1 r4.2.1 r6.1 r22 h23) ⟨.inl rfl,.inl rfl,.inl rfl,trivial⟩) ?_
 refine qd rfl ?_
 refine z0a (z6y rfl rfl) ?_
 refine z0k _ rfl (fun h24 => ?_) (fun h24 => ?_)
 ·replace H:=ift h24 H
  refine z0c ?_
  refine z0b hN rfl ?_
  refine qe rfl ?_
  refine z0t ?_
  cases H
  exact ⟨trivial,.inl rfl,trivial⟩
 ·replace H:=iff_ h24 H
  refine z0q ?_
  refine z07 (ι:=Int) (fun i=>[(4,.ptr 2 0),(5,.dat (vlst (List.map z1a r4.2.1))),(6,.dat (vlst (List.map z00 r4.2.2.1))),(8,.dat (vlst (List.map z0v r6.1))),(9,.dat (vlst (List.map z0v r8.1))),(10,.dat (vstr r10.1)),(11,.dat (vstr r12.1)),(12,.dat (vint r14.1)),(13,.dat (vlst (List.map z0v r16.1))),(14,.dat (vint r16.2)),(15,.dat (vint r18.1)),(16,.dat (vint r18.2)),(17,.dat (vint r20)),(18,.dat (vint i))]) (fun i=>[(2,.box none 29 [.dat (vlst (List.map z0y r4.1.Products)),.dat (vlst (List.map z01 r4.1.Plans))])]) (fun i=>z6i r4 r6 r8 r10 r12 r14 r16 r18 r20 i=some r) (fun i=>rfl) ?_ ?_
  ·skip
   refine z0b hN rfl ?_
   refine qd rfl ?_
   refine qd rfl ?_
   refine qd rfl ?_
   refine qd rfl ?_
   obtain ⟨r25,h26,H⟩:=bnd H
   refine z0a (z0z (y5q r4.2.1 r10.1 r25 h26) ⟨.inl rfl,.inl rfl,trivial⟩) ?_
   refine z0a (z03 rfl rfl) ?_
   refine qd rfl ?_
   refine z15 (j:=6) rfl rfl (fun h27 => ?_) (fun h27 => ?_) rfl
   ·have h28:=un3 h27
    replace H:=iff_ h28 H
    refine z5r rfl rfl h27 (z06 z5x rfl rfl rfl) rfl ?_
    refine z04 rfl rfl h27 (z0j (.dat _) rfl) ?_
    obtain ⟨r29,h30,H⟩:=bnd H
    refine z04 rfl rfl h27 (z0z (y1p r4.1 r12.1 r29 h30) ⟨.inl rfl,.inl rfl,trivial⟩) ?_
    refine z04 rfl rfl h27 (z03 rfl rfl) ?_
    refine z0a (z1l rfl (bFF h28) rfl) ?_
    obtain ⟨r31,h32,H⟩:=bnd H
    refine z0a (z0z (y4w (decide (r29 < 0)) 8 r31 h32) ⟨.inl rfl,.inl rfl,trivial⟩) ?_
    refine qd rfl ?_
    obtain ⟨r33,h34,H⟩:=bnd H
    refine z0a (z0z (y44 r14.1 r33 h34) ⟨.inl rfl,trivial⟩) ?_
    refine z0a (z09 (u':=vlst (List.map y6l [r4.2.2.2.1,r20,r31,r33])) (z1w [[_],[_],[_],[_]] w58 ⟨rfl,.inl ⟨_,rfl,rfl,rfl⟩,rfl,rfl,.inl ⟨_,rfl,rfl,rfl⟩,rfl,rfl,.inl ⟨_,rfl,rfl,rfl⟩,rfl,rfl,.inl ⟨_,rfl,rfl,rfl⟩,rfl,trivial⟩ rfl rfl) rfl) ?_
    obtain ⟨r35,h36,H⟩:=bnd H
    refine z0a (z0z (y6i [r4.2.2.2.1,r20,r31,r33] r35 h36) ⟨.inl rfl,trivial⟩) ?_
    refine qe rfl ?_
    exact ⟨r35,H,⟨rfl,rfl,rfl,rfl,rfl,rfl,rfl,rfl,rfl,rfl,rfl,rfl,rfl,rfl,trivial⟩,⟨rfl,trivial⟩⟩
   ·have h37:=un4 h27
    replace H:=ift h37 H
    refine z0n rfl rfl h27 ?_
    refine z0n rfl rfl h27 ?_
    refine z0n rfl rfl h27 ?_
    refine z0n rfl rfl h27 ?_
    refine z0a (z1t rfl (bTT h37) rfl) ?_
    obtain ⟨r38,h39,H⟩:=bnd H
    refine z0a (z0z (y4w true 8 r38 h39) ⟨.inl rfl,.inl rfl,trivial⟩) ?_
    refine qd rfl ?_
    obtain ⟨r40,h41,H⟩:=bnd H
    refine z0a (z0z (y44 r14.1 r40 h41) ⟨.inl rfl,trivial⟩) ?_
    refine z0a (z09 (u':=vlst (List.map y6l [r4.2.2.2.1,r20,r38,r40])) (z1w [[_],[_],[_],[_]] w58 ⟨rfl,.inl ⟨_,rfl,rfl,rfl⟩,rfl,rfl,.inl ⟨_,rfl,rfl,rfl⟩,rfl,rfl,.inl ⟨_,rfl,rfl,rfl⟩,rfl,rfl,.inl ⟨_,rfl,rfl,rfl⟩,rfl,trivial⟩ rfl rfl) rfl) ?_
    obtain ⟨r42,h43,H⟩:=bnd H
    refine z0a (z0z (y6i [r4.2.2.2.1,r20,r38,r40] r42 h43) ⟨.inl rfl,trivial⟩) ?_
    refine qe rfl ?_
    exact ⟨r42,H,⟨rfl,rfl,rfl,rfl,rfl,rfl,rfl,rfl,rfl,rfl,rfl,rfl,rfl,rfl,trivial⟩,⟨rfl,trivial⟩⟩
  ·rintro v44 H
   replace H:z6i r4 r6 r8 r10 r12 r14 r16 r18 r20 v44=some r:=H
   unfold z6i at H
   refine z0c ?_
   refine z0b hN rfl ?_
   refine qe rfl ?_
   refine z07 (ι:=Int×Int) (fun i=>[(4,.ptr 2 0),(5,.dat (vlst (List.map z1a r4.2.1))),(8,.dat (vlst (List.map z0v r6.1))),(9,.dat (vlst (List.map z0v r8.1))),(13,.dat (vlst (List.map z0v r16.1))),(14,.dat (vint r16.2)),(15,.dat (vint r18.1)),(16,.dat (vint r18.2)),(17,.dat (vint r20)),(18,.dat (vint i.1)),(19,.dat (vint i.2))]) (fun i=>[(2,.box none 29 [.dat (vlst (List.map z0y r4.1.Products)),.dat (vlst (List.map z01 r4.1.Plans))])]) (fun i=>z41 r4 r6 r8 r16 r18 r20 i.1 i.2=some r) (fun i=>rfl) ?_ ?_
   ·skip
    refine z0c ?_
    refine z0b hN rfl ?_
    refine qd rfl ?_
    refine z0a (z2g rfl rfl) ?_
    refine z0k _ rfl (fun h45 => ?_) (fun h45 => ?_)
    ·replace H:=ift h45 H
     refine z0c ?_
     refine z0b hN rfl ?_
     refine z0h (z06 z5x rfl rfl rfl) rfl ?_
     refine qd rfl ?_
     refine qd rfl ?_
     refine qd rfl ?_
     refine qd rfl ?_
     obtain ⟨r46,h47,H⟩:=bnd H
     refine z0a (z0z (x1a r4.1 r4.2.2.1 r10.1 r12.1 r14.1 r46 h47) ⟨.inl rfl,.inl rfl,.inl rfl,.inl rfl,.inl rfl,trivial⟩) ?_
     refine z0g (z1m 3 y6x rfl) rfl ?_
     refine z0g (z08 z6k rfl rfl rfl rfl) rfl ?_
     refine z0c ?_
     refine z0b hN rfl ?_
     refine z0a (z0m y0n rfl) ?_
     refine z0h (z0l tyS3 rfl rfl) rfl ?_
     refine z0a (z6y rfl rfl) ?_
     obtain ⟨r48,h49,H⟩:=bnd H
     refine z0a (z0z (y4w (decide (r46.State≠2)) 11 r48 h49) ⟨.inl rfl,.inl rfl,trivial⟩) ?_
     refine qe rfl ?_
     refine z0c ?_
     refine z0b hN rfl ?_
     refine qd rfl ?_
     refine z0a (z2g rfl rfl) ?_
     refine z0k _ rfl (fun h50 => ?_) (fun h50 => ?_)
     ·replace H:=ift h50 H
      refine z0b hN rfl ?_
      refine z0h (z06 z5x rfl rfl rfl) rfl ?_
      refine z0h (z06 z6k rfl rfl rfl) rfl ?_
      refine qd rfl ?_
      refine qd rfl ?_
      refine qd rfl ?_
      refine qd rfl ?_
      obtain ⟨r51,h52,H⟩:=bnd H
      refine z0a (z0z (x0m r4.1 r46 r6.1 r10.1 r12.1 r14.1 r51 h52) ⟨.inl rfl,.inl rfl,.inl rfl,.inl rfl,.inl rfl,.inl rfl,trivial⟩) ?_
      refine qe rfl ?_
      exact ⟨(r48,r51),H,⟨rfl,rfl,rfl,rfl,rfl,rfl,rfl,rfl,rfl,rfl,rfl,trivial⟩,⟨rfl,trivial⟩⟩
     ·replace H:=iff_ h50 H
      refine z0q ?_
      exact ⟨(r48,0),H,⟨rfl,rfl,rfl,rfl,rfl,rfl,rfl,rfl,rfl,rfl,rfl,trivial⟩,⟨rfl,trivial⟩⟩
    ·replace H:=iff_ h45 H
     refine z0q ?_
     exact ⟨(v44,0),H,⟨rfl,rfl,rfl,rfl,rfl,rfl,rfl,rfl,rfl,rfl,rfl,trivial⟩,⟨rfl,trivial⟩⟩
   ·rintro ⟨v53,v54⟩ H
    replace H:z41 r4 r6 r8 r16 r18 r20 v53 v54=some r:=H
    unfold z41 at H
    refine z0c ?_
    refine z0b hN rfl ?_
    refine qe rfl ?_
    refine w22 (ι:=Int×(List z0e)) (fun i=>[(13,.dat (vlst (List.map z0v r16.1))),(14,.dat (vint r16.2)),(15,.dat (vint r18.1)),(16,.dat (vint r18.2)),(17,.dat (vint i.1)),(18,.dat (vint v53)),(19,.dat (vint v54)),(21,.dat (vlst (List.map z0v i.2)))]) (fun i=>[]) (fun i=>z6h r16 r18 v53 v54 i.1 i.2=some r) (fun i=>rfl) (fun i=>rfl) ?_ ?_
    ·skip
     refine z0c ?_
     refine z0b hN rfl ?_
     refine qd rfl ?_
     refine z0h (z06 z5x rfl rfl rfl) rfl ?_
     refine qd rfl ?_
     refine qd rfl ?_
     obtain ⟨r55,h56,H⟩:=bnd H
     refine z0a (z0z (y5u r4.1 r4.2.1 r8.1 r55 h56) ⟨.inl rfl,.inl rfl,.inl rfl,trivial⟩) ?_
     refine z0a (z09 (u':=vlst (List.map y6l [r20,r55])) (z1w [[_],[_]] w58 ⟨rfl,.inl ⟨_,rfl,rfl,rfl⟩,rfl,rfl,.inl ⟨_,rfl,rfl,rfl⟩,rfl,trivial⟩ rfl rfl) rfl) ?_
     obtain ⟨r57,h58,H⟩:=bnd H
     refine z0a (z0z (y6i [r20,r55] r57 h58) ⟨.inl rfl,trivial⟩) ?_
     refine qe rfl ?_
     refine z0c ?_
     refine z0b hN rfl ?_
     refine qd rfl ?_
     refine z0a (z2g rfl rfl) ?_
     refine z0k _ rfl (fun h59 => ?_) (fun h59 => ?_)
     ·replace H:=ift h59 H
      refine z0b hN rfl ?_
      refine qd rfl ?_
      refine qd rfl ?_
      obtain ⟨r60,h61,H⟩:=bnd H
      refine z0a (z0z (x0k r6.1 r8.1 r60 h61) ⟨.inl rfl,.inl rfl,trivial⟩) ?_
      refine qd rfl ?_
      refine z0a (z2y rfl rfl) ?_
      refine z0a (z2y rfl rfl) ?_
      refine qe rfl ?_
      refine qe rfl ?_
      exact ⟨(r60.2,r60.1),H,⟨.inl rfl,.inl rfl,.inl rfl,.inl rfl,.inl rfl,.inl rfl,.inl rfl,.inl rfl,trivial⟩,trivial⟩
     ·replace H:=iff_ h59 H
      refine z0q ?_
      exact ⟨(r57,[]),H,⟨.inl rfl,.inl rfl,.inl rfl,.inl rfl,.inl rfl,.inl rfl,.inl rfl,.inr ⟨rfl,rfl⟩,trivial⟩,trivial⟩
    ·rintro ⟨v62,v63⟩ H
     replace H:z6h r16 r18 v53 v54 v62 v63=some r:=H
     unfold z6h at H
     refine z07 (ι:=Bool) (fun i=>[(2,.dat (z1p i))]) (fun i=>[]) (fun i=>z4j i=some r) (fun i=>rfl) ?_ ?_
     ·skip
      refine z0b hN rfl ?_
      refine qd rfl ?_
      refine qd rfl ?_
      refine z0a (z2g rfl rfl) ?_
      refine qd rfl ?_
      refine z15 (j:=3) rfl rfl (fun h64 => ?_) (fun h64 => ?_) rfl
      ·have h65:=un1 h64
       replace H:=ift h65 H
       refine z04 rfl rfl h64 (z0j (.dat _) rfl) ?_
       refine z04 rfl rfl h64 (z0j (.dat _) rfl) ?_
       obtain ⟨r66,h67,H⟩:=bnd H
       refine z04 rfl rfl h64 (z0z (y4s r16.1 v63 r66 h67) ⟨.inl rfl,.inl rfl,trivial⟩) ?_
       refine z0a (z1t rfl (bTT h65) rfl) ?_
       refine qd rfl ?_
       refine z15 (j:=8) rfl rfl (fun h68 => ?_) (fun h68 => ?_) rfl
       ·have h69:=un1 h68
        replace H:=ift h69 H
        refine z04 rfl rfl h68 (z0j (.dat _) rfl) ?_
        refine z04 rfl rfl h68 (z0j (.dat _) rfl) ?_
        refine z04 rfl rfl h68 (z2g rfl rfl) ?_
        refine z0a (z1t rfl (bTT h69) rfl) ?_
        refine qd rfl ?_
        refine z15 (j:=13) rfl rfl (fun h70 => ?_) (fun h70 => ?_) rfl
        ·have h71:=un1 h70
         replace H:=ift h71 H
         refine z04 rfl rfl h70 (z0j (.dat _) rfl) ?_
         refine z04 rfl rfl h70 (z0j (.dat _) rfl) ?_
         refine z04 rfl rfl h70 (z2g rfl rfl) ?_
         refine z0a (z1t rfl (bTT h71) rfl) ?_
         refine qd rfl ?_
         refine z15 (j:=18) rfl rfl (fun h72 => ?_) (fun h72 => ?_) rfl
         ·have h73:=un1 h72
          replace H:=ift h73 H
          obtain ⟨r74,h75,H⟩:=bnd H
          refine z04 rfl rfl h72 (z0z (x0n  r74 h75) trivial) ?_
          refine z0a (z1t rfl (bTT h73) rfl) ?_
          refine qe rfl ?_
          exact ⟨r74,H,⟨rfl,trivial⟩,trivial⟩
         ·have h76:=un2 h72
          replace H:=iff_ h76 H
          refine z0n rfl rfl h72 ?_
          refine z0a (z1l rfl (bFF h76) rfl) ?_
          refine qe rfl ?_
          exact ⟨false,H,⟨rfl,trivial⟩,trivial⟩
        ·have h77:=un2 h70
         replace H:=iff_ h77 H
         refine z0n rfl rfl h70 ?_
         refine z0n rfl rfl h70 ?_
         refine z0n rfl rfl h70 ?_
         refine z0a (z1l rfl (bFF h77) rfl) ?_
         refine qd rfl ?_
         refine z0n rfl rfl rfl ?_
         refine z0a (z1l rfl rfl rfl) ?_
         refine qe rfl ?_
         exact ⟨false,H,⟨rfl,trivial⟩,trivial⟩
       ·have h78:=un2 h68
        replace H:=iff_ h78 H
        refine z0n rfl rfl h68 ?_
        refine z0n rfl rfl h68 ?_
        refine z0n rfl rfl h68 ?_
        refine z0a (z1l rfl (bFF h78) rfl) ?_
        refine qd rfl ?_
        refine z0n rfl rfl rfl ?_
        refine z0n rfl rfl rfl ?_
        refine z0n rfl rfl rfl ?_
        refine z0a (z1l rfl rfl rfl) ?_
        refine qd rfl ?_
        refine z0n rfl rfl rfl ?_
        refine z0a (z1l rfl rfl rfl) ?_
        refine qe rfl ?_
        exact ⟨false,H,⟨rfl,trivial⟩,trivial⟩
      ·have h79:=un2 h64
       replace H:=iff_ h79 H
       refine z0n rfl rfl h64 ?_
       refine z0n rfl rfl h64 ?_
       refine z0n rfl rfl h64 ?_
       refine z0a (z1l rfl (bFF h79) rfl) ?_
       refine qd rfl ?_
       refine z0n rfl rfl rfl ?_
       refine z0n rfl rfl rfl ?_
       refine z0n rfl rfl rfl ?_
       refine z0a (z1l rfl rfl rfl) ?_
       refine qd rfl ?_
       refine z0n rfl rfl rfl ?_
       refine z0n rfl rfl rfl ?_
       refine z0n rfl rfl rfl ?_
       refine z0a (z1l rfl rfl rfl) ?_
       refine qd rfl ?_
       refine z0n rfl rfl rfl ?_
       refine z0a (z1l rfl rfl rfl) ?_
       refine qe rfl ?_
       exact ⟨false,H,⟨rfl,trivial⟩,trivial⟩
     ·rintro v80 H
      replace H:z4j v80=some r:=H
      unfold z4j at H
      refine z0t ?_
      cases H
      exact ⟨trivial,.inl rfl,trivial⟩
end Go.Proofs.YthmmalklamiefaaGreatDoor
