/- Walks along the models. Printed by a program. -/
import Derived.Test.YthgblfklceopgaaGreatDoorYnw4
namespace Go.Proofs.YthgblfklceopgaaGreatDoor
open Go.RowKit
set_option linter.unusedVariables false
set_option maxRecDepth 20000
set_option maxHeartbeats 2000000
theorem zmv (l1 : (List zaf)) (r : (Int)) (H : zft l1 = some r) : Fn Tryz.prog 15 [vlst (List.map zao l1)] (zbe [vint r]) := by
 refine ⟨by kernel_rfl, za7 (us := [vint r]) Tryz.func15 rfl rfl rfl rfl fun X hN => ?_⟩
 unfold zft at H
 refine zac ?_
 refine zab hN rfl ?_
 refine qe rfl ?_
 refine zac ?_
 refine zac ?_
 refine zab hN rfl ?_
 refine qd rfl ?_
 refine zaa (zks zpi rfl) ?_
 refine zaa (zg1 rfl rfl) ?_
 refine zai _ rfl (fun h2 => ?_) (fun h2 => ?_)
 ·replace H := ift h2 H
  refine zac ?_
  refine zab hN rfl ?_
  refine qe rfl ?_
  refine zap ?_
  cases H
  exact ⟨trivial, .inl rfl, trivial⟩
 ·replace H := iff_ h2 H
  refine zan ?_
  refine zac ?_
  refine zac ?_
  refine zab hN rfl ?_
  refine qd rfl ?_
  refine zaa (zks zpi rfl) ?_
  refine qd rfl ?_
  refine zat ?_
  obtain ⟨h5, H⟩ := gif H
  refine zed (fun (k3 : Nat) (s : Unit) => [(8, .dat (vlst (List.map zao l1))), (9, .dat (vint (l1.length : Int))), (10, .dat (vint (k3 : Int)))]) (fun (k3 : Nat) (s : Unit) => []) () H ⟨rfl, rfl, rfl, trivial⟩ trivial (fun _ _ => rfl) ?_ ?_
  ·rintro ⟨⟩ H
   replace H : zi0 = some r := H
   unfold zi0 at H
   refine zac ?_
   refine zab hN rfl ?_
   refine zaa (za3 rfl rfl) ?_
   refine zac ?_
   refine zai _ rfl (fun h => (lt_t h).elim) (fun h => ?_)
   refine zbp ?_
   refine zac ?_
   refine zab hN rfl ?_
   refine qe rfl ?_
   refine zap ?_
   cases H
   exact ⟨trivial, .inl rfl, trivial⟩
  ·rintro k3 x6 ⟨⟩ q4 h7 h8 H hq4
   replace H : ziz k3 x6 = some q4 := H
   unfold ziz at H
   refine zac ?_
   refine zab hN rfl ?_
   refine zaa (za3 rfl rfl) ?_
   refine zac ?_
   refine zai _ rfl (fun h => ?_) (fun h => (lt_f h7 h).elim)
   refine zan ?_
   refine zac ?_
   refine zat ?_
   refine zac ?_
   refine zab hN rfl ?_
   refine zaa (zn2 zp6 (fun _ => rfl) rfl rfl h8) ?_
   refine zaa (zip zng rfl (zjk h8) rfl) ?_
   refine zal (zdf 1 zp4 rfl) rfl ?_
   refine zal (zb9 zng rfl rfl rfl rfl) rfl ?_
   refine zac ?_
   refine zac ?_
   refine zab hN rfl ?_
   refine zaa (zaw zoc rfl) ?_
   refine zau (zav tyS9 rfl rfl) rfl ?_
   obtain ⟨r9, h10, H⟩ := bnd H
   refine zaa (zak (znr x6.Name r9 h10) ⟨.inl rfl, trivial⟩) ?_
   refine zaa (zck rfl) ?_
   refine zai _ rfl (fun h11 => ?_) (fun h11 => ?_)
   ·replace H := ift h11 H
    refine zac ?_
    refine zab hN rfl ?_
    refine qe rfl ?_
    refine zap ?_
    replace H := retl H hq4
    cases H
    exact ⟨trivial, .inl rfl, trivial⟩
   ·replace H := iff_ h11 H
    refine zan ?_
    refine zac ?_
    refine zab hN rfl ?_
    refine zaa (zaw ztt rfl) ?_
    refine zau (zav tyS9 rfl rfl) rfl ?_
    obtain ⟨r12, h13, H⟩ := bnd H
    refine zaa (zak (zns x6.Value r12 h13) ⟨.inl rfl, trivial⟩) ?_
    refine zaa (zck rfl) ?_
    refine zai _ rfl (fun h14 => ?_) (fun h14 => ?_)
    ·replace H := ift h14 H
     refine zac ?_
     refine zab hN rfl ?_
     refine qe rfl ?_
     refine zap ?_
     replace H := retl H hq4
     cases H
     exact ⟨trivial, .inl rfl, trivial⟩
    ·replace H := iff_ h14 H
     refine zan ?_
     refine zab hN rfl ?_
     refine zaa (zfc rfl rfl (by omega)) ?_
     refine qd rfl ?_
     exact ⟨_, zio H, ⟨rfl, rfl, rfl, trivial⟩, trivial⟩
theorem zpw (r1 : zar) (r : (Int)) (H : zfs r1 = some r) : Fn Tryz.prog 48 [vagg (za9 r1)] (zbe [vint r]) := by
 refine ⟨by kernel_rfl, za7 (us := [vint r]) Tryz.func48 rfl rfl rfl rfl fun X hN => ?_⟩
 unfold zfs at H
 refine zac ?_
 refine zab hN rfl ?_
 refine zal (zju 1 rfl) rfl ?_
 refine qe rfl ?_
 refine zac ?_
 refine zat ?_
 refine zac ?_
 refine zab hN rfl ?_
 refine zaa (zaw ztv rfl) ?_
 refine zau (zav tyS3 rfl rfl) rfl ?_
 obtain ⟨r2, h3, H⟩ := bnd H
 refine zaa (zak (zss r1.At r2 h3) ⟨.inl rfl, trivial⟩) ?_
 refine zaa (zck rfl) ?_
 refine qe rfl ?_
 refine zai _ rfl (fun h4 => ?_) (fun h4 => ?_)
 ·replace H := ift h4 H
  refine zac ?_
  refine zab hN rfl ?_
  refine qe rfl ?_
  refine zap ?_
  cases H
  exact ⟨trivial, .inl rfl, trivial⟩
 ·replace H := iff_ h4 H
  refine zac ?_
  refine zab hN rfl ?_
  refine zaa (zaw zpm rfl) ?_
  refine zau (zav tyS9 rfl rfl) rfl ?_
  obtain ⟨r5, h6, H⟩ := bnd H
  refine zaa (zak (znr r1.Method r5 h6) ⟨.inl rfl, trivial⟩) ?_
  refine zaa (zck rfl) ?_
  refine qe rfl ?_
  refine zai _ rfl (fun h7 => ?_) (fun h7 => ?_)
  ·replace H := ift h7 H
   refine zac ?_
   refine zab hN rfl ?_
   refine qe rfl ?_
   refine zap ?_
   cases H
   exact ⟨trivial, .inl rfl, trivial⟩
  ·replace H := iff_ h7 H
   refine zan ?_
   refine zac ?_
   refine zac ?_
   refine zab hN rfl ?_
   refine zaa (zaw zpl rfl) ?_
   refine zau (zav tyS9 rfl rfl) rfl ?_
   obtain ⟨r8, h9, H⟩ := bnd H
   refine zaa (zak (zpa r1.Host r8 h9) ⟨.inl rfl, trivial⟩) ?_
   refine qd rfl ?_
   refine zaa (zbj rfl rfl) ?_
   refine zaa (zbj rfl rfl) ?_
   refine qe rfl ?_
   refine qe rfl ?_
   refine zac ?_
   refine zab hN rfl ?_
   refine qd rfl ?_
   refine zaa (zfw rfl rfl) ?_
   refine zai _ rfl (fun h10 => ?_) (fun h10 => ?_)
   ·replace H := ift h10 H
    refine zac ?_
    refine zab hN rfl ?_
    refine qd rfl ?_
    refine qe rfl ?_
    refine zap ?_
    cases H
    exact ⟨trivial, .inl rfl, trivial⟩
   ·replace H := iff_ h10 H
    refine zan ?_
    refine zac ?_
    refine zax (ι := Bool) (fun i => [(1, .ptr 1 0), (40, .dat (za2 i))]) (fun i => [(1, .box none 28 [.dat (vint r1.At), .dat (vstr r1.Method), .dat (vstr r1.Host), .dat (vstr r1.Path), .dat (vstr r1.Query), .dat (vstr r1.From), .dat (vlst (List.map zao r1.Headers)), .dat (vstr r1.Body)])]) (fun i => zdt r1 i = some r) (fun i => rfl) ?_ ?_
    ·skip
     refine zab hN rfl ?_
     refine zaa (zaw zpk rfl) ?_
     refine zau (zav tyS9 rfl rfl) rfl ?_
     obtain ⟨r11, h12, H⟩ := bnd H
     refine zaa (zak (zoh r1.Path r11 h12) ⟨.inl rfl, trivial⟩) ?_
     refine zaa (zck rfl) ?_
     refine qd rfl ?_
     refine zaz (j := 4) rfl rfl (fun h13 => ?_) (fun h13 => ?_) rfl
     ·have h14 := un3 h13
      replace H := iff_ h14 H
      refine zam rfl rfl h13 (zaw zpj rfl) ?_
      refine zkf rfl rfl h13 (zav tyS9 rfl rfl) rfl ?_
      obtain ⟨r15, h16, H⟩ := bnd H
      refine zam rfl rfl h13 (zak (zn0 r1.Query r15 h16) ⟨.inl rfl, trivial⟩) ?_
      refine zam rfl rfl h13 (zck rfl) ?_
      refine zaa (zaj rfl (bFF h14) rfl) ?_
      refine qd rfl ?_
      refine zaz (j := 10) rfl rfl (fun h17 => ?_) (fun h17 => ?_) rfl
      ·have h18 := un3 h17
       replace H := iff_ h18 H
       refine zam rfl rfl h17 (zaw ztu rfl) ?_
       refine zkf rfl rfl h17 (zav tyS9 rfl rfl) rfl ?_
       obtain ⟨r19, h20, H⟩ := bnd H
       refine zam rfl rfl h17 (zak (zns r1.From r19 h20) ⟨.inl rfl, trivial⟩) ?_
       refine zam rfl rfl h17 (zck rfl) ?_
       refine zaa (zaj rfl (bFF h18) rfl) ?_
       exact ⟨!r19, H, ⟨rfl, rfl, trivial⟩, ⟨rfl, trivial⟩⟩
      ·have h21 := un4 h17
       replace H := ift h21 H
       refine zae rfl rfl h17 ?_
       refine zae rfl rfl h17 ?_
       refine zae rfl rfl h17 ?_
       refine zae rfl rfl h17 ?_
       refine zaa (zas rfl (bTT h21) rfl) ?_
       exact ⟨true, H, ⟨rfl, rfl, trivial⟩, ⟨rfl, trivial⟩⟩
     ·have h22 := un4 h13
      replace H := ift h22 H
      refine zae rfl rfl h13 ?_
      refine zae rfl rfl h13 ?_
      refine zae rfl rfl h13 ?_
      refine zae rfl rfl h13 ?_
      refine zaa (zas rfl (bTT h22) rfl) ?_
      refine qd rfl ?_
      refine zae rfl rfl rfl ?_
      refine zae rfl rfl rfl ?_
      refine zae rfl rfl rfl ?_
      refine zae rfl rfl rfl ?_
      refine zaa (zas rfl rfl rfl) ?_
      exact ⟨true, H, ⟨rfl, rfl, trivial⟩, ⟨rfl, trivial⟩⟩
    ·rintro v23 H
     replace H : zdt r1 v23 = some r := H
     unfold zdt at H
     refine zai _ rfl (fun h24 => ?_) (fun h24 => ?_)
     ·replace H := ift h24 H
      refine zac ?_
      refine zab hN rfl ?_
      refine qe rfl ?_
      refine zap ?_
      cases H
      exact ⟨trivial, .inl rfl, trivial⟩
     ·replace H := iff_ h24 H
      refine zan ?_
      refine zac ?_
      refine zac ?_
      refine zab hN rfl ?_
      refine zaa (zaw zm0 rfl) ?_
      refine zau (zav zsf rfl rfl) rfl ?_
      obtain ⟨r25, h26, H⟩ := bnd H
      refine zaa (zak (zmv r1.Headers r25 h26) ⟨.inl rfl, trivial⟩) ?_
      refine qe rfl ?_
      refine zac ?_
      refine zab hN rfl ?_
      refine qd rfl ?_
      refine zaa (zfw rfl rfl) ?_
      refine zai _ rfl (fun h27 => ?_) (fun h27 => ?_)
      ·replace H := ift h27 H
       refine zac ?_
       refine zab hN rfl ?_
       refine qd rfl ?_
       refine qe rfl ?_
       refine zap ?_
       cases H
       exact ⟨trivial, .inl rfl, trivial⟩
      ·replace H := iff_ h27 H
       refine zan ?_
       refine zac ?_
       refine zac ?_
       refine zab hN rfl ?_
       refine zaa (zaw zsg rfl) ?_
       refine zau (zav tyS9 rfl rfl) rfl ?_
       refine zaa (za5 tyU9 rfl) ?_
       refine zaa (zg1 rfl rfl) ?_
       refine zai _ rfl (fun h28 => ?_) (fun h28 => ?_)
       ·replace H := ift h28 H
        refine zac ?_
        refine zab hN rfl ?_
        refine qe rfl ?_
        refine zap ?_
        cases H
        exact ⟨trivial, .inl rfl, trivial⟩
       ·replace H := iff_ h28 H
        refine zan ?_
        refine zac ?_
        refine zab hN rfl ?_
        refine qe rfl ?_
        refine zap ?_
        cases H
        exact ⟨trivial, .inl rfl, trivial⟩
theorem znp (s1 : Bs) (r : ((List za0) × Bool)) (H : zhn s1 = some r) : Fn Tryz.prog 105 [vstr s1] (zbe [vlst (List.map zec r.1), za2 r.2]) := by
 refine ⟨by kernel_rfl, za7 (us := [vlst (List.map zec r.1), za2 r.2]) Tryz.func105 rfl rfl rfl rfl fun X hN => ?_⟩
 unfold zhn at H
 refine zac ?_
 refine zab hN rfl ?_
 refine qe rfl ?_
 refine qe rfl ?_
 refine zac ?_
 refine zab hN rfl ?_
 refine qe rfl ?_
 refine zax (ι := (List za0)) (fun i => [(4, .row 1 i.length)]) (fun i => [(1, .row 119 2 (List.map zec i))]) (fun i => zlz i = some r) (fun i => rfl) ?_ ?_
 ·skip
  refine zat ?_
  refine zeh 4 1 119 2 rfl rfl rfl ?_
  refine zlf (fun (s : Bs × (List za0)) => [(0, .dat (vstr s.1)), (4, .row 1 s.2.length)]) (fun (s : Bs × (List za0)) => [(1, .row 119 2 (List.map zec s.2))]) (s1, []) H ⟨rfl, rfl, trivial⟩ ⟨rfl, trivial⟩ (fun _ => rfl) ?_
  rintro ⟨s2, l3⟩ q4 H hq4
  replace H : zca s2 l3 = some q4 := H
  unfold zca at H
  refine zac ?_
  refine zac ?_
  refine zab hN rfl ?_
  refine qd rfl ?_
  refine zaa (zon rfl rfl) ?_
  refine zai _ rfl (fun h5 => ?_) (fun h5 => ?_)
  ·replace H := ift h5 H
   refine zan ?_
   refine zat ?_
   refine zac ?_
   refine zac ?_
   refine zab hN rfl ?_
   refine qd rfl ?_
   obtain ⟨x6, h7, H⟩ := bnd H
   refine zaa (zgg tyU9 rfl rfl h7) ?_
   refine zaa (zfw rfl rfl) ?_
   refine zai _ rfl (fun h8 => ?_) (fun h8 => ?_)
   ·replace H := ift h8 H
    refine zac ?_
    refine zik mixed hN rfl rfl ?_
    refine zaa (zah (.row _ _) rfl) ?_
    refine qd rfl ?_
    refine zaa (zgg tyU9 rfl rfl h7) ?_
    refine zaa (za4 (u' := vagg (zec (za0.mk (x6.toNat : Int) true))) (zd5 [(0, [vval (.int .u8 (x6.toNat : Int))]), (1, [za2 true])] zyz z5g rfl ⟨rfl, .inl ⟨_, rfl, rfl, rfl⟩, rfl, rfl, .inl ⟨_, rfl, rfl, rfl⟩, rfl, trivial⟩) rfl) ?_
    refine zaa (za4 (u' := vlst (List.map zec [(za0.mk (x6.toNat : Int) true)])) (zcl [_] zy1 ⟨rfl, .inr rfl, rfl, trivial⟩ rfl rfl) rfl) ?_
    obtain ⟨h9, H⟩ := gif H
    refine zal (zm1 zy1 (fun _ => rfl) rfl rfl rfl ⟨by simp, by first | (simp; done) | simpa using h9⟩ rfl) rfl ?_
    refine qd rfl ?_
    obtain ⟨l10, h11, H⟩ := bnd H
    refine zaa (zl0 tyU9 rfl rfl rfl h11) ?_
    refine zaa (zbb (.row _ _) rfl) ?_
    refine qe rfl ?_
    refine ⟨rfl, ?_⟩
    refine zbp ?_
    exact ⟨_, zio H, ⟨rfl, rfl, trivial⟩, ⟨rfl, trivial⟩⟩
   ·replace H := iff_ h8 H
    refine zan ?_
    refine zac ?_
    refine zac ?_
    refine zab hN rfl ?_
    refine qd rfl ?_
    refine zaa (za5 tyU9 rfl) ?_
    refine zaa (za3 rfl rfl) ?_
    refine zai _ rfl (fun h12 => ?_) (fun h12 => ?_)
    ·replace H := ift h12 H
     refine zac ?_
     refine zab hN rfl ?_
     refine qe rfl ?_
     refine qe rfl ?_
     refine zap ?_
     replace H := retl H hq4
     cases H
     exact ⟨trivial, .inr ⟨rfl, rfl⟩, .inl rfl, trivial⟩
    ·replace H := iff_ h12 H
     refine zan ?_
     refine zac ?_
     refine zab hN rfl ?_
     refine qd rfl ?_
     obtain ⟨l13, h14, H⟩ := bnd H
     refine zaa (zl0 tyU9 rfl rfl rfl h14) ?_
     obtain ⟨r15, h16, H⟩ := bnd H
     refine zaa (zak (zod l13 16 8 r15 h16) ⟨.inl rfl, .inl rfl, .inl rfl, trivial⟩) ?_
     refine qd rfl ?_
     refine zaa (zbj rfl rfl) ?_
     refine zaa (zbj rfl rfl) ?_
     refine qe rfl ?_
     refine qe rfl ?_
     refine zac ?_
     refine zac ?_
     refine zab hN rfl ?_
     refine qd rfl ?_
     refine zaa (zo2 (n := r15.2) (show Tryz.prog.underlying 95 = some (.interface (Tryz.prog.methodsAt 95)) from by kernel_rfl) rfl) ?_
     refine zai _ rfl (fun h17 => ?_) (fun h17 => ?_)
     ·replace H := ift h17 H
      refine zac ?_
      refine zab hN rfl ?_
      refine qe rfl ?_
      refine qe rfl ?_
      refine zap ?_
      replace H := retl H hq4
      cases H
      exact ⟨trivial, .inr ⟨rfl, rfl⟩, .inl rfl, trivial⟩
     ·replace H := iff_ h17 H
      refine zan ?_
      refine zik mixed hN rfl rfl ?_
      refine zaa (zah (.row _ _) rfl) ?_
      refine qd rfl ?_
      refine zaa (zih zry tyU5 rfl) ?_
      refine zaa (za4 (u' := vagg (zec (za0.mk (IntKind.wrap .u8 r15.1) false))) (zd5 [(0, [vval (.int .u8 (IntKind.wrap .u8 r15.1))]), (1, [za2 false])] zyz z5g rfl ⟨rfl, .inl ⟨_, rfl, rfl, rfl⟩, rfl, rfl, .inl ⟨_, rfl, rfl, rfl⟩, rfl, trivial⟩) rfl) ?_
      refine zaa (za4 (u' := vlst (List.map zec [(za0.mk (IntKind.wrap .u8 r15.1) false)])) (zcl [_] zy1 ⟨rfl, .inr rfl, rfl, trivial⟩ rfl rfl) rfl) ?_
      obtain ⟨h18, H⟩ := gif H
      refine zal (zm1 zy1 (fun _ => rfl) rfl rfl rfl ⟨by simp, by first | (simp; done) | simpa using h18⟩ rfl) rfl ?_
      refine qd rfl ?_
      obtain ⟨l19, h20, H⟩ := bnd H
      refine zaa (zl0 tyU9 rfl rfl rfl h20) ?_
      refine zaa (zbb (.row _ _) rfl) ?_
      refine qe rfl ?_
      refine ⟨rfl, ?_⟩
      exact ⟨_, zio H, ⟨rfl, rfl, trivial⟩, ⟨rfl, trivial⟩⟩
  ·replace H := iff_ h5 H
   refine zbp ?_
   replace H := outl H hq4
   exact ⟨l3, H, ⟨rfl, trivial⟩, ⟨rfl, trivial⟩⟩
 ·rintro out21 H
  replace H : zlz out21 = some r := H
  unfold zlz at H
  refine zac ?_
  refine zab hN rfl ?_
  refine zaa (zah (.row _ _) rfl) ?_
  refine zaa (zbb (.row _ _) rfl) ?_
  refine qe rfl ?_
  refine zap ?_
  cases H
  exact ⟨trivial, zov rfl rfl, .inl rfl, trivial⟩
theorem zmi (l : List Bs) : Fn Tryz.prog 107 [vlst (List.map zay l)] (zbe [vfn 162 [znf [[vlst (List.map zay l)]] 0 0]]) := by
 refine ⟨by kernel_rfl, za7 (us := [vfn 162 [znf [[vlst (List.map zay l)]] 0 0]]) Tryz.func107 rfl rfl rfl rfl fun X hN => ?_⟩
 refine zac ?_
 refine zab hN rfl ?_
 refine zal (ztl 1 rfl rfl) rfl ?_
 refine qe rfl ?_
 refine zac ?_
 refine zto 1 [vlst (List.map zay l)] rfl rfl ?_
 refine zab hN rfl ?_
 refine zaa (ztj (us := [_]) ⟨rfl, trivial⟩) ?_
 refine qe rfl ?_
 refine zap ?_
 exact ⟨trivial, .inl rfl, trivial⟩
theorem zmd : z56 Tryz.prog 162 1 true := by
 intro vals M l cap J Jx W hn hvn hk hc hY h0
 have hnt : Tryz.f162.ntmps = 19 := rfl
 refine callsIn_of_wp Tryz.func162 rfl trivial ?_ rfl
 rw [hnt]
 obtain ⟨vc, hvc⟩ : ∃ vc : V, vc = vand (znf [[vlst (vals.map fun c => c.map vval)]] 0 0) cap := ⟨_, rfl⟩
 have hwk : Wk vc (znf [[vlst (vals.map fun c => c.map vval)]] 0 0) := by rw [hvc]; exact z7y _ _
 have hvm : ∀ W', (znf [[vlst (vals.map fun c => c.map vval)]] 0 0).p W' M cap → vc.p W' M cap := fun W' h => by rw [hvc]; exact ⟨rfl, h⟩
 have hvo : ∀ W' M' v, vc.p W' M' v → v = cap := fun W' M' v h => by rw [hvc] at h; exact h.1
 obtain ⟨hM, hcp⟩ := hc _ _ h0
 refine wpIn_seq (wpIn_mono (zr2 (N := 19) hM ?hN ?hD [(0, vval (yv l)), (1, vc)] ?hr (Q := fun e f => e = .normal ∧ f 0 = .dat (vval (yv l)) ∧ f 1 = .dat vc ∧ f 3 = .dat (vint ((vals.length : Int) - 1))) fun X hN => ?_) ?_)
 case hN => simp
 case hD => rfl
 case hr => exact ⟨by simp [yv, vval], by simpa using hvm _ hcp, trivial⟩
 ·refine zab hN rfl ?_
  refine zaa (ztz zts rfl hwk rfl rfl) ?_
  refine zaa (zks (C := fun c : List Value => c.map vval) zse rfl) ?_
  refine zaa (z03 rfl rfl (by omega)) ?_
  refine qe rfl ?_
  exact ⟨rfl, rfl, rfl, rfl⟩
 rintro e a W1 ⟨hk1, hN, hD, f, own, g, M', hfr, rfl, e0, e1, e3⟩
 have t0 : a.tmps.getD 0 undef = yv l := by have := hfr 0; rw [e0] at this; exact this
 have t1 : a.tmps.getD 1 undef = cap := by have := hfr 1; rw [e1] at this; exact hvo _ _ _ this
 have t3 : a.tmps.getD 3 undef = .int .i64 ((vals.length : Int) - 1) := by have := hfr 3; rw [e3] at this; exact this
 refine wpIn_block (wpIn_loop_rounds (vals.length + 1) ?_)
 have hJ1 := hk _ _ _ h0 hk1
 clear hk1 hfr e0 e1 e3 hcp hM h0
 suffices key : ∀ m, m ≤ vals.length → ∀ a W, a.tmps.size = 19 → a.defers = [] → a.tmps.getD 0 undef = yv l → a.tmps.getD 1 undef = cap → a.tmps.getD 3 undef = .int .i64 ((m : Int) - 1) → J m W → Code.roundsIn Fence.wide 0 Tryz.prog _ _ (m + 1) a W from key _ (Nat.le_refl _) a W1 hN hD t0 t1 t3 hJ1
 clear t0 t1 t3 hN hD hJ1
 intro m
 induction m with
 | zero =>
  intro _ a W hN hD t0 t1 t3 hJ
  obtain ⟨hM, hcp⟩ := hc _ _ hJ
  rw [roundsIn_succ]
  refine wpIn_seq (wpIn_seq (wpIn_mono (zr2 (N := 19) hM hN hD [(3, vint (-1))] ⟨by rw [t3]; rfl, trivial⟩ (Q := fun e f => e = .normal ∧ f 8 = .dat (za2 (decide ((0 : Int) ≤ -1)))) fun X hN => ?_) ?_))
  ·refine zab hN rfl ?_
   refine qd rfl ?_
   refine zaa (zi7 rfl rfl) ?_
   exact ⟨rfl, rfl⟩
  rintro e a' W' ⟨hk1, hN', hD', f, own, g, M', hfr, rfl, e8⟩
  have t8 : a'.tmps.getD 8 undef = .bool false := by have := hfr 8; rw [e8] at this; exact this
  exact wpIn_cond_false t8 (wpIn_exit ⟨hD', _, results_none rfl _ _ _, ⟨_, rfl⟩, .inl (hk _ _ _ hJ hk1)⟩)
 | succ m ih =>
  intro hm a W hN hD t0 t1 t3 hJ
  obtain ⟨hM, hcp⟩ := hc _ _ hJ
  have hm3 : (((m + 1 : Nat) : Int) - 1) = (m : Int) := by omega
  rw [hm3] at t3
  rw [roundsIn_succ]
  refine wpIn_seq (wpIn_seq (wpIn_mono (zr2 (N := 19) hM hN hD [(0, vval (yv l)), (1, vc), (3, vint (m : Int))] ⟨t0, by rw [t1]; exact hvm _ hcp, by rw [t3]; rfl, trivial⟩ (Q := fun e f => e = .normal ∧ f 0 = .dat (vval (yv l)) ∧ f 1 = .dat vc ∧ f 3 = .dat (vint (m : Int)) ∧ f 8 = .dat (za2 (decide ((0 : Int) ≤ (m : Int))))) fun X hN => ?_) ?_))
  ·refine zab hN rfl ?_
   refine qd rfl ?_
   refine zaa (zi7 rfl rfl) ?_
   exact ⟨rfl, rfl, rfl, rfl, rfl⟩
  rintro e a1 W1 ⟨hk1, hN1, hD1, f, own, g, M', hfr, rfl, e0, e1, e3, e8⟩
  have u0 : a1.tmps.getD 0 undef = yv l := by have := hfr 0; rw [e0] at this; exact this
  have u1 : a1.tmps.getD 1 undef = cap := by have := hfr 1; rw [e1] at this; exact hvo _ _ _ this
  have u3 : a1.tmps.getD 3 undef = .int .i64 (m : Int) := by have := hfr 3; rw [e3] at this; exact this
  have u8 : a1.tmps.getD 8 undef = .bool true := by
   have := hfr 8; rw [e8, decide_eq_true (by omega)] at this; exact this
  refine wpIn_cond_true u8 (wpIn_skip ?_)
  have hJ1 := hk _ _ _ hJ hk1
  clear hfr e0 e1 e3 e8 hk1 hJ hM hcp t0 t1 t3 hN hD
  obtain ⟨hM1, hcp1⟩ := hc _ _ hJ1
  refine wpIn_seq (wpIn_block (wpIn_seq ?_))
  refine wpIn_region ?_
  obtain ⟨X, hX⟩ : ∃ X : Ctx, X = ⟨fun b => M b, W1, [], 19, none, []⟩ := ⟨_, rfl⟩
  have hrel : Rel X (frs (datL [(0, vval (yv l)), (1, vc), (3, vint (m : Int))])) (fun _ => none) ⟨fun _ => none, fun _ _ => none⟩ a1 W1 := by
   subst hX
   have he : Ext M (Mof ⟨fun b => M b, W1, [], 19, none, []⟩ ⟨fun _ => none, fun _ _ => none⟩ (fun _ => none)) W1 W1 := ⟨Nat.le_refl _, fun _ _ _ _ => rfl, fun b _ hb => by
    rcases hb with hb | ⟨id, o, ho, _⟩
    ·exact hb
    ·cases ho⟩
   refine ⟨Kp.refl _ _, ⟨fun b hb => ⟨hM1.1 b hb, by simp⟩, hM1.2.1, fun b hb => ⟨hM1.2.2 b hb, by simp⟩⟩, hN1, hD1, fun t => zze [(0, vval (yv l)), (1, vc), (3, vint (m : Int))] ⟨u0, by rw [u1]; exact vc.keep he (hvm _ hcp1), by rw [u3]; rfl, trivial⟩ t, fun id o ho => (by cases ho), fun id _ o _ b ho => (by cases ho), fun id o b ho => (by cases ho), fun id _ => ⟨rfl, fun _ => rfl⟩, fun id e size es h => (by cases h)⟩
  have hNX : X.N = 19 := by rw [hX]
  have hRX : X.R = none := by rw [hX]
  have hDX : X.D = [] := by rw [hX]
  have hKX : ∀ W', Kp X.S0 X.w0 W' → Kp [] W1 W' := fun W' h => by rw [hX] at h; exact h
  obtain ⟨el, hel⟩ : ∃ el, vals[m]? = some el := ⟨_, List.getElem?_eq_getElem (by omega)⟩
  have hell : (el.map vval).length = 1 := by rw [List.length_map]; exact hvn el (List.mem_of_getElem? hel)
  obtain ⟨x, rfl⟩ : ∃ x, el = [x] := List.length_eq_one_iff.1 (by simpa using hell)
  have helm : (vals.map fun c => c.map vval)[m]? = some ([x].map vval) := by rw [List.getElem?_map, hel]; rfl
  have helD : vals.getD m [] = [x] := by rw [List.getD_eq_getElem?_getD, hel]; rfl
  clear hX
  refine opsR hRX (n := 6 + 2) rfl ?_
  refine zzc (P := Tryz.prog) (X := X) (by rw [hNX]; rfl) [_, _, _, _, _, _] [_, _] 0 _ _ [] _ a1 W1 rfl hrel ?_
  refine qd rfl ?_
  refine qd rfl ?_
  refine zaa (ztz zts rfl hwk rfl rfl) ?_
  refine qd rfl ?_
  refine zaa (zvr (k := m) zut rfl rfl (by rw [List.length_map]; omega) (fun c hc => by
   obtain ⟨c', hc', rfl⟩ := List.mem_map.1 hc
   rw [List.length_map]; exact hvn c' hc')) ?_
  refine zaa (ze9 tyS9 rfl helm rfl) ?_
  intro g2 a2 W2 k2
  have v0 : a2.tmps.getD 0 undef = yv l := k2.fr 0
  have v1 : a2.tmps.getD 1 undef = cap := hvo _ _ _ (k2.fr 1)
  have v3 : a2.tmps.getD 3 undef = .int .i64 (m : Int) := k2.fr 3
  have v11 : a2.tmps.getD 11 undef = yv l := k2.fr 11
  have v12 : a2.tmps.getD 12 undef = .int .i64 (m : Int) := k2.fr 12
  have v16 : a2.tmps.getD 16 undef = x := k2.fr 16
  have hN2 : a2.tmps.size = 19 := k2.n.trans hNX
  have hD2 : a2.defers = [] := k2.df.trans hDX
  have hJ2 := hk _ _ _ hJ1 (hKX _ k2.kp)
  clear k2 hrel
  obtain ⟨fn, tm, asg, bdy, hrun, hR⟩ := hY m W2 (by omega) hJ2
  rw [helD] at hrun
  change (Instr.yield l #[.int .i64 (m : Int), x]).run Tryz.prog W2 = _ at hrun
  rw [hRX]
  show wpOpsIn Fence.wide 0 Tryz.prog _ _ [6, 7] a2 W2
  refine zxq rfl rfl rfl v11 (by simp [Act.eval, v12, v16]) hrun (hR.mono ?_)
  rintro e W3 (⟨rfl, hJ3⟩ | ⟨rfl, hJ3⟩)
  ·obtain ⟨hM3, hcp3⟩ := hc _ _ hJ3
   refine ⟨_, rfl, ?_⟩
   obtain ⟨a3, ha3⟩ : ∃ a3 : Act, a3 = a2.put (some 17) (.bool true) := ⟨_, rfl⟩
   have hN3 : a3.tmps.size = 19 := by rw [ha3]; simpa [Act.put] using hN2
   have hD3 : a3.defers = [] := by rw [ha3]; exact hD2
   have g3 : ∀ t, a3.tmps.getD t undef = if t = 17 then .bool true else a2.tmps.getD t undef := fun t => by rw [ha3]; exact zuq hN2 (by decide) t
   show wpOpsIn Fence.wide 0 Tryz.prog _ _ (List.range' 7 1) (a2.put (some 17) (.bool true)) W3
   rw [← ha3]
   refine opsT (N := 19) (i := 7) (os := [_]) hM3 hN3 hD3 [(0, vval (yv l)), (1, vc), (3, vint (m : Int)), (17, za2 true)] ⟨?_, ?_, ?_, ?_, trivial⟩ (Q' := fun f => f 0 = .dat (vval (yv l)) ∧ f 1 = .dat vc ∧ f 3 = .dat (vint (m : Int)) ∧ f 18 = .dat (za2 (!true))) rfl rfl (fun _ _ => ?_) ?_
   ·show _ = _
    rw [g3, if_neg (by decide)]; exact v0
   ·rw [g3, if_neg (by decide), v1]; exact hvm _ hcp3
   ·show _ = _
    rw [g3, if_neg (by decide)]; exact v3
   ·show _ = _
    rw [g3, if_pos rfl]
   ·refine zaa (zck rfl) ?_
    exact ⟨rfl, rfl, rfl, rfl⟩
   intro a4 W4 hk4 hN4 hD4 f g M' hfr ⟨e0, e1, e3, e18⟩
   have z0 : a4.tmps.getD 0 undef = yv l := by have := hfr 0; rw [e0] at this; exact this
   have z1 : a4.tmps.getD 1 undef = cap := by have := hfr 1; rw [e1] at this; exact hvo _ _ _ this
   have z3 : a4.tmps.getD 3 undef = .int .i64 (m : Int) := by have := hfr 3; rw [e3] at this; exact this
   have z18 : a4.tmps.getD 18 undef = .bool false := by have := hfr 18; rw [e18] at this; exact this
   refine wpIn_cond_false z18 (wpIn_skip ?_)
   have hJ4 := hk _ _ _ hJ3 hk4
   obtain ⟨hM4, hcp4⟩ := hc _ _ hJ4
   refine wpIn_mono (zr2 (N := 19) hM4 hN4 hD4 [(0, vval (yv l)), (1, vc), (3, vint (m : Int))] ⟨z0, by rw [z1]; exact hvm _ hcp4, by rw [z3]; rfl, trivial⟩ (Q := fun e f => e = .normal ∧ f 0 = .dat (vval (yv l)) ∧ f 1 = .dat vc ∧ f 3 = .dat (vint ((m : Int) - 1))) fun X hN => ?_) ?_
   ·refine zab hN rfl ?_
    refine qd rfl ?_
    refine zaa (z03 rfl rfl (by omega)) ?_
    refine qe rfl ?_
    exact ⟨rfl, rfl, rfl, rfl⟩
   rintro e a5 W5 ⟨hk5, hN5, hD5, f5, own5, g5, M5, hfr5, rfl, e0, e1, e3⟩
   exact ih (by omega) a5 W5 hN5 hD5 (by have := hfr5 0; rw [e0] at this; exact this) (by have := hfr5 1; rw [e1] at this; exact hvo _ _ _ this) (by have := hfr5 3; rw [e3] at this; exact this) (hk _ _ _ hJ4 hk5)
  ·refine ⟨_, rfl, ?_⟩
   obtain ⟨a3, ha3⟩ : ∃ a3 : Act, a3 = a2.put (some 17) (.bool false) := ⟨_, rfl⟩
   show wpOpsIn Fence.wide 0 Tryz.prog _ _ [7] (a2.put (some 17) (.bool false)) W3
   rw [← ha3]
   have g3 : ∀ t, a3.tmps.getD t undef = if t = 17 then .bool false else a2.tmps.getD t undef := fun t => by rw [ha3]; exact zuq hN2 (by decide) t
   have hN3 : a3.tmps.size = 19 := by rw [ha3]; simpa [Act.put] using hN2
   have hD3 : a3.defers = [] := by rw [ha3]; exact hD2
   have v17 : a3.tmps.getD 17 undef = .bool false := by rw [g3, if_pos rfl]
   rw [wpOpsIn_cons]
   unfold wpOpIn
   refine ⟨fun _ _ => trivial, ?_⟩
   have hrun : ∀ o : Oper, o.op = .unOp .not 4 (.tmp 17) → (o.semAt Fence.wide.round a3.eval).run Tryz.prog W3 = .ok (.value (.bool true)) W3 := fun o ho => by
    rw [Oper.semAt_eq Fence.wide.round a3.eval o (fun c hc => by rw [ho] at hc; cases hc)]
    have h1 : a3.eval (.tmp 17) = .bool false := v17
    simp only [execOp, ho, h1, Op.unary]
    rfl
   rw [hrun _ rfl, Oper.uponIn_value]
   have t18 : (a3.put (some 18) (.bool true)).tmps.getD 18 undef = .bool true := by rw [show (a3.put (some 18) (.bool true)).tmps = a3.tmps.setIfInBounds 18 (.bool true) from rfl, zuq hN3 (by decide), if_pos rfl]
   exact wpIn_cond_true t18 (wpIn_ret ⟨hD3, _, results_none rfl _ _ _, ⟨_, rfl⟩, .inr hJ3⟩)

theorem zmh (l r : List Bs) (H : zg7 l = some r) : FnG Tryz.prog 108 [.row 0 l.length] [(0, .rowA undef 9 1 (List.map zay l))] (.dat (zbe [])) [(0, .rowA undef 9 1 (List.map zay r))] := by
 obtain ⟨hl, hr⟩ := gif H
 cases hr
 refine z4s (fun s : Bs => Value.string ⟨s.toArray⟩) l.reverse l List.length_reverse (by kernel_rfl) (fun _ => rfl) (fun blk cap w hH hb => ?_) (fun h w => ?_)
 ·refine (Tryz.slices_Reverse_string blk 0 cap l w hH (by omega)).mono ?_
  rintro r w' ⟨rfl, n, rfl⟩
  exact ⟨rfl, n, #[], by simp [Sort.grow]; rfl⟩
 ·exact Tryz.slices_Reverse_string_empty none 0 w
theorem zos (n1 : Int) (r : (Bs)) (H : zlc n1 = some r) : Fn Tryz.prog 161 [vval (.int .u8 n1)] (zbe [vstr r]) := by
 refine ⟨by kernel_rfl, za7 (us := [vstr r]) Tryz.func161 rfl rfl rfl rfl fun X hN => ?_⟩
 unfold zlc at H
 refine zac ?_
 refine zab hN rfl ?_
 refine qe rfl ?_
 refine zac ?_
 refine zab hN rfl ?_
 refine qd rfl ?_
 refine qd rfl ?_
 refine zaa (za8 _ rfl rfl (.inl ⟨rfl, rfl⟩)) ?_
 obtain ⟨l2, h3, H⟩ := bnd H
 refine zaa (z6g tyU9 rfl rfl rfl h3) ?_
 refine qe rfl ?_
 refine zap ?_
 cases H
 exact ⟨trivial, .inl rfl, trivial⟩
theorem zp3 (c1 : Int) (r : (Bs)) (H : zho c1 = some r) : Fn Tryz.prog 106 [vval (.int .u8 c1)] (zbe [vstr r]) := by
 refine ⟨by kernel_rfl, za7 (us := [vstr r]) Tryz.func106 rfl rfl rfl rfl fun X hN => ?_⟩
 unfold zho at H
 refine zac ?_
 refine zab hN rfl ?_
 refine qe rfl ?_
 refine zac ?_
 refine zab hN rfl ?_
 refine qd rfl ?_
 refine zaa (za4 (zrk rfl rfl (by decide)) rfl) ?_
 obtain ⟨r2, h3, H⟩ := bnd H
 refine zaa (zak (zos (shr_ .u8 c1 4) r2 h3) ⟨.inl rfl, trivial⟩) ?_
 obtain ⟨h4, H⟩ := gif H
 refine zaa (zht rfl rfl (Nat.le_trans h4 (by decide))) ?_
 refine qd rfl ?_
 refine zaa (za4 (z1c rfl rfl) rfl) ?_
 obtain ⟨r5, h6, H⟩ := bnd H
 refine zaa (zak (zos (and_ .u8 c1 15) r5 h6) ⟨.inl rfl, trivial⟩) ?_
 obtain ⟨h7, H⟩ := gif H
 refine zaa (zht rfl rfl (Nat.le_trans h7 (by decide))) ?_
 refine qe rfl ?_
 refine zap ?_
 cases H
 exact ⟨trivial, .inl rfl, trivial⟩
theorem zsq (v1 : Bs) (r : (Bs × Int)) (H : zkk v1 = some r) : Fn Tryz.prog 50 [vstr v1] (zbe [vstr r.1, vint r.2]) := by
 refine ⟨by kernel_rfl, z4f (us := [vstr r.1, vint r.2]) Tryz.func50 rfl rfl rfl rfl fun X hN hR => ?_⟩
 unfold zkk at H
 refine zn6 hR ?_
 refine zab hN rfl ?_
 refine qe rfl ?_
 refine qe rfl ?_
 refine zn6 hR ?_
 refine zac ?_
 refine zab hN rfl ?_
 refine qd rfl ?_
 obtain ⟨r2, h3, H⟩ := bnd H
 refine zaa (zak (zoh v1 r2 h3) ⟨.inl rfl, trivial⟩) ?_
 refine zaa (zck rfl) ?_
 refine zai _ rfl (fun h4 => ?_) (fun h4 => ?_)
 ·replace H := ift h4 H
  refine zac ?_
  refine zab hN rfl ?_
  refine qe rfl ?_
  refine qe rfl ?_
  refine zap ?_
  cases H
  exact ⟨[(2, .dat (vstr [])), (3, .dat (vint 3))], [], ⟨rfl, rfl, trivial⟩, trivial, rfl, rfl, ⟨.inl rfl, .inl rfl, trivial⟩⟩
 ·replace H := iff_ h4 H
  refine zan ?_
  refine zn6 hR ?_
  refine zab hN rfl ?_
  refine qd rfl ?_
  obtain ⟨r5, h6, H⟩ := bnd H
  refine zaa (zak (znp v1 r5 h6) ⟨.inl rfl, trivial⟩) ?_
  refine qd rfl ?_
  refine zaa (zbj rfl rfl) ?_
  refine zaa (zbj rfl rfl) ?_
  refine qe rfl ?_
  refine qe rfl ?_
  refine zn6 hR ?_
  refine zac ?_
  refine zab hN rfl ?_
  refine qd rfl ?_
  refine zaa (zck rfl) ?_
  refine zai _ rfl (fun h7 => ?_) (fun h7 => ?_)
  ·replace H := ift h7 H
   refine zac ?_
   refine zab hN rfl ?_
   refine qe rfl ?_
   refine qe rfl ?_
   refine zap ?_
   cases H
   exact ⟨[(2, .dat (vstr [])), (3, .dat (vint 9))], [], ⟨rfl, rfl, trivial⟩, trivial, rfl, rfl, ⟨.inl rfl, .inl rfl, trivial⟩⟩
  ·replace H := iff_ h7 H
   refine zan ?_
   refine zn6 hR ?_
   refine zab hN rfl ?_
   refine qe rfl ?_
   refine zn6 hR ?_
   refine zac ?_
   refine zab hN rfl ?_
   refine qd rfl ?_
   refine zaa (zks z5e rfl) ?_
   refine qd rfl ?_
   refine zat ?_
   obtain ⟨h11, H⟩ := gif H
   refine zed (fun (k9 : Nat) (s : Bs) => [(2, .dat (vstr [])), (3, .dat (vint 0)), (6, .dat (vstr s)), (24, .dat (vlst (List.map zec r5.1))), (25, .dat (vint (r5.1.length : Int))), (26, .dat (vint (k9 : Int)))]) (fun (k9 : Nat) (s : Bs) => []) [] H ⟨rfl, rfl, rfl, rfl, rfl, rfl, trivial⟩ trivial (fun _ _ => rfl) ?_ ?_
   ·rintro v8 H
    replace H : zj4 v8 = some r := H
    unfold zj4 at H
    refine zac ?_
    refine zab hN rfl ?_
    refine zaa (za3 rfl rfl) ?_
    refine zac ?_
    refine zai _ rfl (fun h => (lt_t h).elim) (fun h => ?_)
    refine zbp ?_
    refine zn6 hR ?_
    refine zab hN rfl ?_
    refine qd rfl ?_
    obtain ⟨l13, h14, H⟩ := bnd H
    refine zaa (zl0 tyU9 rfl rfl rfl h14) ?_
    obtain ⟨r15, h16, H⟩ := bnd H
    refine zaa (zak (zkp l13 [47] r15 h16) ⟨.inl rfl, .inl rfl, trivial⟩) ?_
    refine zal (zdf 1 z71 rfl) rfl ?_
    refine zal (zdr zts rfl rfl rfl rfl) rfl ?_
    refine zn6 hR ?_
    refine zab hN rfl ?_
    refine zal (zdf 2 z71 rfl) rfl ?_
    refine zn6 hR ?_
    refine zab hN rfl ?_
    refine zal (zdf 3 tyZ3 rfl) rfl ?_
    refine zal (zdr tyS3 rfl rfl rfl rfl) rfl ?_
    refine z0q hR ?_
    refine zab hN rfl ?_
    refine zau (zav zts rfl rfl) rfl ?_
    refine zaa (zak (zmi r15) ⟨.inl rfl, trivial⟩) ?_
    refine ⟨rfl, ?_⟩
    refine zx8 2 0 4 9 1 rfl rfl rfl rfl ?_
    obtain ⟨h20, H⟩ := gif H
    refine z8e (s0 := (0, ([] : List Bs))) hR hN [(2, .dat (vstr [])), (3, .dat (vint 0)), (9, .ptr 1 0), (10, .ptr 2 0), (11, .ptr 3 0), (60, .dat (vfn 162 [znf [[vlst (List.map zay r15)]] 0 0]))] [(1, .box none 36 [.dat (vlst (List.map zay r15))]), (2, .box none 36 [.row 4 0]), (3, .box none 3 [.dat (vint 0)]), (4, .row 9 1 (List.map zay ([] : List Bs)))] (fun (s : Int × (List Bs)) => [(1, .box none 36 [.dat (vlst (List.map zay r15))]), (2, .box none 36 [.row 4 s.2.length]), (3, .box none 3 [.dat (vint s.1)]), (4, .row 9 1 (List.map zay s.2))]) zmd (fun _ => rfl) (enters_of Tryz.func162 (by kernel_rfl) rfl) rfl h20 H ⟨rfl, rfl, rfl, rfl, rfl, rfl, trivial⟩ ⟨rfl, rfl, rfl, rfl, trivial⟩ rfl rfl (fun _ => rfl) (fun _ => rfl) (fun _ _ => rfl) (fun _ _ => rfl) (fun _ => rfl) (fun _ => rfl) (by decide) (by decide) ?_ ?_
    ·rintro A X k21 x22 ⟨c17, l18⟩ q19 hN h23 h24 H hq19
     replace H : zf2 r15 k21 x22 c17 l18 = some q19 := H
     unfold zf2 at H
     refine zac ?_
     refine zab hN rfl ?_
     refine qe rfl ?_
     refine zab hN rfl ?_
     refine qe rfl ?_
     refine ⟨rfl, [(9, .ptr 1 0), (10, .ptr 2 0), (11, .ptr 3 0), (12, .dat (vint (k21 : Int))), (13, .dat (vstr x22))], [(1, .box (some (A 1)) 36 [.dat (vlst (List.map zay r15))]), (2, .box (some (A 2)) 36 [.row 4 l18.length]), (3, .box (some (A 3)) 3 [.dat (vint c17)]), (4, .row 9 1 (List.map zay l18))], ⟨rfl, rfl, rfl, rfl, rfl, trivial⟩, ⟨rfl, rfl, rfl, rfl, trivial⟩, rfl, rfl, rfl, fun X hN => ?_⟩
     refine zat ?_
     refine zat ?_
     refine zac ?_
     refine zab hN rfl ?_
     refine qd rfl ?_
     refine zaa (zdw rfl rfl) ?_
     refine qd rfl ?_
     refine ziq rfl rfl (fun hc => zah (.dat _) rfl) ?_
     refine ziq rfl rfl (fun hc => zdw (cnd (c := (!(decide (x22 = [46])))) hc) rfl) ?_
     refine zaa (zhz rfl rfl (fun hb => (cnd (c := (!(decide (x22 = [46])))) (notI hb)))) ?_
     refine qe rfl ?_
     refine zai _ rfl (fun h25 => ?_) (fun h25 => ?_)
     ·replace H := ift h25 H
      refine zax (ι := (List Bs)) (fun i => [(9, .ptr 1 0), (10, .ptr 2 0), (11, .ptr 3 0), (13, .dat (vstr x22))]) (fun i => [(1, .box (some (A 1)) 36 [.dat (vlst (List.map zay r15))]), (2, .box (some (A 2)) 36 [.row 4 i.length]), (3, .box (some (A 3)) 3 [.dat (vint c17)]), (4, .row 9 1 (List.map zay i))]) (fun i => zhh c17 x22 i = some q19) (fun i => rfl) ?_ ?_
      ·skip
       refine zac ?_
       refine zab hN rfl ?_
       refine qd rfl ?_
       refine zau (zav zts rfl rfl) rfl ?_
       refine zaa (zks zse rfl) ?_
       refine zaa (za8 _ rfl rfl (.inr (.inl ⟨rfl, rfl⟩))) ?_
       refine zaa (zb6 rfl rfl) ?_
       refine zai _ rfl (fun h26 => ?_) (fun h26 => ?_)
       ·replace H := ift h26 H
        refine zab hN rfl ?_
        refine zau (zav zts rfl rfl) rfl ?_
        refine zaa (za4 (u' := vlst (List.map zay [[]])) (zcl [[_]] zlg ⟨rfl, .inl ⟨_, rfl, rfl, rfl⟩, rfl, trivial⟩ rfl rfl) rfl) ?_
        obtain ⟨h27, H⟩ := gif H
        refine zal (zm1 zlg (fun _ => rfl) rfl rfl rfl ⟨by simp, by first | (simp; done) | simpa using h27⟩ rfl) rfl ?_
        refine zq3 (zn8 zts rfl rfl (by rw [List.length_map]) rfl) rfl rfl ?_
        exact ⟨(l18 ++ ([[]])), H, ⟨rfl, rfl, rfl, rfl, trivial⟩, ⟨rfl, rfl, rfl, rfl, trivial⟩⟩
       ·replace H := iff_ h26 H
        refine zan ?_
        exact ⟨l18, H, ⟨rfl, rfl, rfl, rfl, trivial⟩, ⟨rfl, rfl, rfl, rfl, trivial⟩⟩
      ·rintro l28 H
       replace H : zhh c17 x22 l28 = some q19 := H
       unfold zhh at H
       refine zac ?_
       refine zab hN rfl ?_
       refine qd rfl ?_
       refine zaa (zdw rfl rfl) ?_
       refine zai _ rfl (fun h29 => ?_) (fun h29 => ?_)
       ·replace H := ift h29 H
        refine zab hN rfl ?_
        refine zau (zav tyS3 rfl rfl) rfl ?_
        refine zaa (za8 _ rfl rfl (.inl ⟨rfl, rfl⟩)) ?_
        refine zal (zdr tyS3 rfl rfl rfl rfl) rfl ?_
        exact ⟨_, zio H, ⟨rfl, rfl, rfl, rfl, trivial⟩⟩
       ·replace H := iff_ h29 H
        refine zan ?_
        exact ⟨_, zio H, ⟨rfl, rfl, rfl, rfl, trivial⟩⟩
     ·replace H := iff_ h25 H
      refine zac ?_
      refine zab hN rfl ?_
      refine zau (zav tyS3 rfl rfl) rfl ?_
      refine zaa (zg1 rfl rfl) ?_
      refine qe rfl ?_
      refine zai _ rfl (fun h30 => ?_) (fun h30 => ?_)
      ·replace H := ift h30 H
       refine zab hN rfl ?_
       refine zau (zav tyS3 rfl rfl) rfl ?_
       refine zaa (za8 _ rfl rfl (.inr (.inl ⟨rfl, rfl⟩))) ?_
       refine zal (zdr tyS3 rfl rfl rfl rfl) rfl ?_
       exact ⟨_, zio H, ⟨rfl, rfl, rfl, rfl, trivial⟩⟩
      ·replace H := iff_ h30 H
       refine zab hN rfl ?_
       refine zau (zav zts rfl rfl) rfl ?_
       refine qd rfl ?_
       refine zaa (za4 (u' := vlst (List.map zay [x22])) (zcl [[_]] zlg ⟨rfl, .inl ⟨_, rfl, rfl, rfl⟩, rfl, trivial⟩ rfl rfl) rfl) ?_
       obtain ⟨h31, H⟩ := gif H
       refine zal (zm1 zlg (fun _ => rfl) rfl rfl rfl ⟨by simp, by first | (simp; done) | simpa using h31⟩ rfl) rfl ?_
       refine zq3 (zn8 zts rfl rfl (by rw [List.length_map]) rfl) rfl rfl ?_
       exact ⟨_, zio H, ⟨rfl, rfl, rfl, rfl, trivial⟩⟩
    ·rintro A X ⟨c17, l18⟩ hN hR H
     replace H : ziv c17 l18 = some r := H
     unfold ziv at H
     refine zac ?_
     refine zab hN rfl ?_
     refine zau (zav zts rfl rfl) rfl ?_
     obtain ⟨r32, h33, H⟩ := bnd H
     refine zcv (rn [(0, 4)]) [(0, _, _, some _)] [] (zmh l18 r32 h33) ⟨rfl, trivial⟩ ⟨.inl (.inl rfl), trivial⟩ ⟨⟨⟨rfl, rfl, rfl⟩, by simp [zt3, zs6 h33]⟩, trivial⟩ rfl ?_
     refine zac ?_
     refine zab hN rfl ?_
     refine zau (zav zts rfl rfl) rfl ?_
     obtain ⟨r34, h35, H⟩ := bnd H
     refine zau (zt2 (id := 4) (es := List.map zay r32) (zl3 r32 [47] r34 h35) ⟨.inr ⟨(congrArg (Slot.row 4) (by rw [List.length_map]; exact (zs6 h33).symm) : Slot.row 4 l18.length = _), rfl⟩, .inl (.inl (.inl rfl)), trivial⟩ (fun _ _ _ _ h => h)) rfl ?_
     obtain ⟨h36, H⟩ := gif H
     refine zaa (zht rfl rfl (Nat.le_trans h36 (by decide))) ?_
     refine qe rfl ?_
     refine qe rfl ?_
     refine zap ?_
     cases H
     exact ⟨.inr rfl, [(2, .dat (vstr ([47] ++ r34))), (3, .dat (vint 0))], [], ⟨rfl, rfl, trivial⟩, trivial, rfl, rfl, ⟨.inl rfl, .inl rfl, trivial⟩⟩
   ·rintro k9 x12 v8 q10 h37 h38 H hq10
    replace H : zhf k9 x12 v8 = some q10 := H
    unfold zhf at H
    refine zac ?_
    refine zab hN rfl ?_
    refine zaa (za3 rfl rfl) ?_
    refine zac ?_
    refine zai _ rfl (fun h => ?_) (fun h => (lt_f h37 h).elim)
    refine zan ?_
    refine zax (ι := Bs) (fun i => [(2, .dat (vstr [])), (3, .dat (vint 0)), (6, .dat (vstr i)), (24, .dat (vlst (List.map zec r5.1))), (25, .dat (vint (r5.1.length : Int))), (26, .dat (vint (k9 : Int)))]) (fun i => []) (fun i => zhg i = some q10) (fun i => rfl) ?_ ?_
    ·skip
     refine zat ?_
     refine zac ?_
     refine zab hN rfl ?_
     refine zaa (zn2 z5h (fun _ => rfl) rfl rfl h38) ?_
     refine zaa (zip zy0 rfl (zjk h38) rfl) ?_
     refine zal (zdf 5 zyz rfl) rfl ?_
     refine zal (zb9 zy0 rfl rfl rfl rfl) rfl ?_
     refine zax (ι := Bool) (fun i => [(2, .dat (vstr [])), (3, .dat (vint 0)), (6, .dat (vstr v8)), (8, .ptr 5 0), (24, .dat (vlst (List.map zec r5.1))), (25, .dat (vint (r5.1.length : Int))), (26, .dat (vint (k9 : Int))), (43, .dat (za2 i))]) (fun i => [(5, .box none 119 [.dat (vval (.int .u8 x12.c_)), .dat (za2 x12.plain_)])]) (fun i => zez v8 x12 i = some q10) (fun i => rfl) ?_ ?_
     ·skip
      refine zab hN rfl ?_
      refine zaa (zaw z3l rfl) ?_
      refine zau (zav tyS4 rfl rfl) rfl ?_
      refine qd rfl ?_
      refine zaz (j := 2) rfl rfl (fun h39 => ?_) (fun h39 => ?_) rfl
      ·have h40 := un3 h39
       replace H := iff_ h40 H
       refine zam rfl rfl h39 (zaw zrz rfl) ?_
       refine zkf rfl rfl h39 (zav tyS5 rfl rfl) rfl ?_
       refine zam rfl rfl h39 (zih tyU5 zz4 rfl) ?_
       refine zam rfl rfl h39 (zt1 zz4 rfl tyU9 rfl) ?_
       obtain ⟨r41, h42, H⟩ := bnd H
       refine zam rfl rfl h39 (zak (zmt (encL (IntKind.wrap .i32 x12.c_)) [97, 98, 99, 100, 101, 102, 103, 104, 105, 106, 107, 108, 109, 110, 111, 112, 113, 114, 115, 116, 117, 118, 119, 120, 121, 122, 65, 66, 67, 68, 69, 70, 71, 72, 73, 74, 75, 76, 77, 78, 79, 80, 81, 82, 83, 84, 85, 86, 87, 88, 89, 90, 48, 49, 50, 51, 52, 53, 54, 55, 56, 57, 45, 46, 95, 126] r41 h42) ⟨.inl rfl, .inl rfl, trivial⟩) ?_
       refine zam rfl rfl h39 (zah (.dat _) rfl) ?_
       refine zaz (j := 8) rfl rfl (fun h43 => ?_) (fun h43 => ?_) rfl
       ·have h44 := un1 h43
        replace H := ift h44 H
        refine zam rfl rfl h43 (zaw zrz rfl) ?_
        refine zkf rfl rfl h43 (zav tyS5 rfl rfl) rfl ?_
        refine zam rfl rfl h43 (za3 rfl rfl) ?_
        refine zam rfl rfl h39 (zas rfl (bTT h44) rfl) ?_
        refine zaa (zaj rfl (bFF h40) rfl) ?_
        exact ⟨decide (x12.c_ < 128), H, ⟨rfl, rfl, rfl, rfl, rfl, rfl, rfl, rfl, trivial⟩, ⟨rfl, trivial⟩⟩
       ·have h45 := un2 h43
        replace H := iff_ h45 H
        refine zae rfl rfl h43 ?_
        refine zae rfl rfl h43 ?_
        refine zae rfl rfl h43 ?_
        refine zam rfl rfl h39 (zaj rfl (bFF h45) rfl) ?_
        refine zaa (zaj rfl (bFF h40) rfl) ?_
        exact ⟨false, H, ⟨rfl, rfl, rfl, rfl, rfl, rfl, rfl, rfl, trivial⟩, ⟨rfl, trivial⟩⟩
      ·have h46 := un4 h39
       replace H := ift h46 H
       refine zae rfl rfl h39 ?_
       refine zae rfl rfl h39 ?_
       refine zae rfl rfl h39 ?_
       refine zae rfl rfl h39 ?_
       refine zae rfl rfl h39 ?_
       refine zae rfl rfl h39 ?_
       refine zbc rfl rfl ?_
       refine zbc rfl rfl ?_
       refine zbc rfl rfl ?_
       refine zae rfl rfl h39 ?_
       refine zaa (zas rfl (bTT h46) rfl) ?_
       exact ⟨true, H, ⟨rfl, rfl, rfl, rfl, rfl, rfl, rfl, rfl, trivial⟩, ⟨rfl, trivial⟩⟩
     ·rintro v47 H
      replace H : zez v8 x12 v47 = some q10 := H
      unfold zez at H
      refine zai _ rfl (fun h48 => ?_) (fun h48 => ?_)
      ·replace H := ift h48 H
       refine zab hN rfl ?_
       refine qd rfl ?_
       refine zaa (zaw zrz rfl) ?_
       refine zau (zav tyS5 rfl rfl) rfl ?_
       refine zaa (za4 (u' := vlst (List.map zcj [x12.c_])) (zcl [[_]] zus ⟨rfl, .inl ⟨_, rfl, rfl, rfl⟩, rfl, trivial⟩ rfl rfl) rfl) ?_
       refine zaa (zr1 (C := zcj) zwr tyU5 tyU9 (fun _ => rfl) rfl) ?_
       obtain ⟨h49, H⟩ := gif H
       refine zaa (zht rfl rfl (Nat.le_trans h49 (by decide))) ?_
       refine qe rfl ?_
       exact ⟨(v8 ++ (strN [x12.c_])), H, ⟨rfl, rfl, rfl, rfl, rfl, rfl, trivial⟩, trivial⟩
      ·replace H := iff_ h48 H
       refine zab hN rfl ?_
       refine qd rfl ?_
       refine zaa (zaw zrz rfl) ?_
       refine zau (zav tyS5 rfl rfl) rfl ?_
       obtain ⟨r50, h51, H⟩ := bnd H
       refine zaa (zak (zp3 x12.c_ r50 h51) ⟨.inl rfl, trivial⟩) ?_
       obtain ⟨h52, H⟩ := gif H
       refine zaa (zht rfl rfl (Nat.le_trans h52 (by decide))) ?_
       refine qe rfl ?_
       exact ⟨(v8 ++ r50), H, ⟨rfl, rfl, rfl, rfl, rfl, rfl, trivial⟩, trivial⟩
    ·rintro v53 H
     replace H : zhg v53 = some q10 := H
     unfold zhg at H
     refine zab hN rfl ?_
     refine zaa (zfc rfl rfl (by omega)) ?_
     refine qd rfl ?_
     exact ⟨_, zio H, ⟨rfl, rfl, rfl, rfl, rfl, rfl, trivial⟩, trivial⟩
theorem zra (s p q : Bs) (r : Bs) (H : zkb s p q = some r) : Fn Tryz.prog 109 [vstr s, vstr p, vstr q] (zbe [vstr r]) := by
 unfold zkb at H
 obtain ⟨⟨h1, h2, h3⟩, h4⟩ := gif H
 cases h4
 refine zin (by kernel_rfl) fun M w vs hM h => ?_
 have hv := zl1 (us := [.string ⟨s.toArray⟩, .string ⟨p.toArray⟩, .string ⟨q.toArray⟩]) h
 subst hv
 obtain ⟨m, hm⟩ := zpq hM
 have hle := Lib.countB_le ⟨p.toArray⟩ (by simpa [ByteArray.size] using h2) _ ⟨s.toArray⟩ (Nat.le_refl _)
 have e1 : (ByteArray.mk s.toArray).size = s.length := by simp [ByteArray.size]
 have e2 : (ByteArray.mk q.toArray).size = q.length := by simp [ByteArray.size]
 have hmul : Lib.countB ⟨s.toArray⟩ ⟨p.toArray⟩ * q.length ≤ 1000001 * 1000000 := Nat.mul_le_mul (by omega) h3
 refine (Tryz.strings_ReplaceAll ⟨s.toArray⟩ ⟨p.toArray⟩ ⟨q.toArray⟩ m w (by rw [e1]; omega) hm (by simpa [ByteArray.size] using h2) (by rw [e1, e2]; omega)).mono ?_
 rintro e w' ⟨rfl, hb⟩
 exact ⟨_, rfl, rfl, Kp.of_below hb⟩

theorem zot (s1 : Bs) (r : (Bs)) (H : zg9 s1 = some r) : Fn Tryz.prog 110 [vstr s1] (zbe [vstr r]) := by
 refine ⟨by kernel_rfl, za7 (us := [vstr r]) Tryz.func110 rfl rfl rfl rfl fun X hN => ?_⟩
 unfold zg9 at H
 refine zac ?_
 refine zab hN rfl ?_
 refine qe rfl ?_
 refine zac ?_
 refine zab hN rfl ?_
 refine qd rfl ?_
 obtain ⟨r2, h3, H⟩ := bnd H
 refine zaa (zak (znp s1 r2 h3) ⟨.inl rfl, trivial⟩) ?_
 refine qd rfl ?_
 refine zaa (zbj rfl rfl) ?_
 refine zaa (zbj rfl rfl) ?_
 refine qe rfl ?_
 refine qe rfl ?_
 refine zac ?_
 refine zab hN rfl ?_
 refine qe rfl ?_
 refine zac ?_
 refine zac ?_
 refine zab hN rfl ?_
 refine qd rfl ?_
 refine zaa (zks z5e rfl) ?_
 refine qd rfl ?_
 refine zat ?_
 refine zeh 5 1 5 1 rfl rfl rfl ?_
 obtain ⟨h7, H⟩ := gif H
 refine zed (fun (k5 : Nat) (s : (List Int)) => [(5, .row 1 s.length), (13, .dat (vlst (List.map zec r2.1))), (14, .dat (vint (r2.1.length : Int))), (15, .dat (vint (k5 : Int)))]) (fun (k5 : Nat) (s : (List Int)) => [(1, .row 5 1 (List.map zcj s))]) [] H ⟨rfl, rfl, rfl, rfl, trivial⟩ ⟨rfl, trivial⟩ (fun _ _ => rfl) ?_ ?_
 ·rintro l4 H
  replace H : zid l4 = some r := H
  unfold zid at H
  refine zac ?_
  refine zab hN rfl ?_
  refine zaa (za3 rfl rfl) ?_
  refine zac ?_
  refine zai _ rfl (fun h => (lt_t h).elim) (fun h => ?_)
  refine zbp ?_
  refine zac ?_
  refine zom 5 1 rfl rfl rfl ?_
  refine zab hN rfl ?_
  refine qd rfl ?_
  refine zaa (zr1 (C := zcj) zwr tyU5 tyU9 (fun _ => rfl) rfl) ?_
  refine qe rfl ?_
  refine zap ?_
  cases H
  exact ⟨trivial, .inl rfl, trivial⟩
 ·rintro k5 x8 l4 q6 h9 h10 H hq6
  replace H : zge k5 x8 l4 = some q6 := H
  unfold zge at H
  refine zac ?_
  refine zab hN rfl ?_
  refine zaa (za3 rfl rfl) ?_
  refine zac ?_
  refine zai _ rfl (fun h => ?_) (fun h => (lt_f h9 h).elim)
  refine zan ?_
  refine zac ?_
  refine zat ?_
  refine zac ?_
  refine zab hN rfl ?_
  refine zaa (zn2 z5h (fun _ => rfl) rfl rfl h10) ?_
  refine zaa (zip zy0 rfl (zjk h10) rfl) ?_
  refine zal (zdf 2 zyz rfl) rfl ?_
  refine zal (zb9 zy0 rfl rfl rfl rfl) rfl ?_
  refine zab hN rfl ?_
  refine zaa (zah (.row _ _) rfl) ?_
  refine zaa (zaw zrz rfl) ?_
  refine zau (zav tyS5 rfl rfl) rfl ?_
  refine zaa (za4 (u' := vlst (List.map zcj [x8.c_])) (zcl [[_]] zus ⟨rfl, .inl ⟨_, rfl, rfl, rfl⟩, rfl, trivial⟩ rfl rfl) rfl) ?_
  obtain ⟨h11, H⟩ := gif H
  refine zal (zm1 zus (fun _ => rfl) rfl rfl rfl ⟨by simp, by first | (simp; done) | simpa using h11⟩ rfl) rfl ?_
  refine zaa (zbb (.row _ _) rfl) ?_
  refine zab hN rfl ?_
  refine zaa (zfc rfl rfl (by omega)) ?_
  refine qd rfl ?_
  exact ⟨_, zio H, ⟨rfl, rfl, rfl, rfl, trivial⟩, ⟨rfl, trivial⟩⟩
theorem zrn (s1 : Bs) (r : ((List zag) × Int)) (H : zhb s1 = some r) : FnG Tryz.prog 51 [.dat (vstr s1)] [] (.comp true [.row 900 r.1.length, .dat (vint r.2)]) [(900, .row 68 2 (List.map za1 r.1))] := by
 refine zpe (by kernel_rfl) Tryz.func51 rfl rfl rfl rfl fun X A hN => ?_
 unfold zhb at H
 refine zac ?_
 refine zab hN rfl ?_
 refine qe rfl ?_
 refine qe rfl ?_
 refine zac ?_
 refine zac ?_
 refine zab hN rfl ?_
 refine qd rfl ?_
 obtain ⟨r2, h3, H⟩ := bnd H
 refine zaa (zak (zn0 s1 r2 h3) ⟨.inl rfl, trivial⟩) ?_
 refine zaa (zck rfl) ?_
 refine zai _ rfl (fun h4 => ?_) (fun h4 => ?_)
 ·replace H := ift h4 H
  refine zac ?_
  refine zab hN rfl ?_
  refine qe rfl ?_
  refine qe rfl ?_
  refine zeh 2 900 68 2 rfl rfl rfl ?_
  refine zap ?_
  cases H
  exact ⟨trivial, [(2, .row 900 _), (3, .dat (vint 3))], ⟨rfl, rfl, trivial⟩, ⟨rfl, trivial⟩, rfl, .inr (.inr ⟨.row 900 [].length, .dat (vint 3), [], ⟨rfl, rfl, trivial⟩, rfl⟩)⟩
 ·replace H := iff_ h4 H
  refine zan ?_
  refine zac ?_
  refine zac ?_
  refine zab hN rfl ?_
  refine qd rfl ?_
  obtain ⟨r5, h6, H⟩ := bnd H
  refine zaa (zak (znp s1 r5 h6) ⟨.inl rfl, trivial⟩) ?_
  refine qd rfl ?_
  refine zaa (zbj rfl rfl) ?_
  refine zaa (zbj rfl rfl) ?_
  refine qe rfl ?_
  refine qe rfl ?_
  refine zac ?_
  refine zab hN rfl ?_
  refine qd rfl ?_
  refine zaa (zck rfl) ?_
  refine zai _ rfl (fun h7 => ?_) (fun h7 => ?_)
  ·replace H := ift h7 H
   refine zac ?_
   refine zab hN rfl ?_
   refine qe rfl ?_
   refine qe rfl ?_
   refine zeh 2 900 68 2 rfl rfl rfl ?_
   refine zap ?_
   cases H
   exact ⟨trivial, [(2, .row 900 _), (3, .dat (vint 9))], ⟨rfl, rfl, trivial⟩, ⟨rfl, trivial⟩, rfl, .inr (.inr ⟨.row 900 [].length, .dat (vint 9), [], ⟨rfl, rfl, trivial⟩, rfl⟩)⟩
  ·replace H := iff_ h7 H
   refine zan ?_
   refine zac ?_
   refine zab hN rfl ?_
   refine qe rfl ?_
   refine zac ?_
   refine zac ?_
   refine zab hN rfl ?_
   refine qd rfl ?_
   obtain ⟨r8, h9, H⟩ := bnd H
   refine zaa (zak (zkp s1 [38] r8 h9) ⟨.inl rfl, .inl rfl, trivial⟩) ?_
   refine zaa (zks zse rfl) ?_
   refine qd rfl ?_
   refine zat ?_
   refine zeh 6 1 68 2 rfl rfl rfl ?_
   obtain ⟨h13, H⟩ := gif H
   refine zed (fun (k11 : Nat) (s : (List zag)) => [(6, .row 1 s.length), (23, .dat (vlst (List.map zay r8))), (24, .dat (vint (r8.length : Int))), (25, .dat (vint (k11 : Int)))]) (fun (k11 : Nat) (s : (List zag)) => [(1, .row 68 2 (List.map za1 s))]) [] H ⟨rfl, rfl, rfl, rfl, trivial⟩ ⟨rfl, trivial⟩ (fun _ _ => rfl) ?_ ?_
   ·rintro l10 H
    replace H : zif l10 = some r := H
    unfold zif at H
    refine zac ?_
    refine zab hN rfl ?_
    refine zaa (za3 rfl rfl) ?_
    refine zac ?_
    refine zai _ rfl (fun h => (lt_t h).elim) (fun h => ?_)
    refine zbp ?_
    refine zac ?_
    refine zac ?_
    refine zab hN rfl ?_
    refine zaa (zah (.row _ _) rfl) ?_
    refine zau (zu2 ztr rfl rfl) rfl ?_
    refine zaa (zg1 rfl rfl) ?_
    refine zai _ rfl (fun h15 => ?_) (fun h15 => ?_)
    ·replace H := ift h15 H
     refine zac ?_
     refine zab hN rfl ?_
     refine qe rfl ?_
     refine qe rfl ?_
     refine zeh 2 900 68 2 rfl rfl rfl ?_
     refine zap ?_
     cases H
     exact ⟨trivial, [(2, .row 900 _), (3, .dat (vint 2))], ⟨rfl, rfl, trivial⟩, ⟨rfl, trivial⟩, rfl, .inr (.inr ⟨.row 900 [].length, .dat (vint 2), [], ⟨rfl, rfl, trivial⟩, rfl⟩)⟩
    ·replace H := iff_ h15 H
     refine zan ?_
     refine zac ?_
     refine zab hN rfl ?_
     refine zaa (zah (.row _ _) rfl) ?_
     refine zaa (zbb (.row _ _) rfl) ?_
     refine qe rfl ?_
     refine zsy 2 1 900 rfl rfl (by rw [List.length_map]) rfl ?_
     refine zap ?_
     cases H
     exact ⟨trivial, [(2, .row 900 _), (3, .dat (vint 0))], ⟨rfl, rfl, trivial⟩, ⟨rfl, trivial⟩, rfl, .inr (.inr ⟨.row 900 l10.length, .dat (vint 0), [], ⟨rfl, rfl, trivial⟩, rfl⟩)⟩
   ·rintro k11 x14 l10 q12 h16 h17 H hq12
    replace H : zgf k11 x14 l10 = some q12 := H
    unfold zgf at H
    refine zac ?_
    refine zab hN rfl ?_
    refine zaa (za3 rfl rfl) ?_
    refine zac ?_
    refine zai _ rfl (fun h => ?_) (fun h => (lt_f h16 h).elim)
    refine zan ?_
    refine zax (ι := (List zag)) (fun i => [(6, .row 1 i.length), (23, .dat (vlst (List.map zay r8))), (24, .dat (vint (r8.length : Int))), (25, .dat (vint (k11 : Int)))]) (fun i => [(1, .row 68 2 (List.map za1 i))]) (fun i => zie i = some q12) (fun i => rfl) ?_ ?_
    ·skip
     refine zat ?_
     refine zac ?_
     refine zab hN rfl ?_
     refine zaa (zn2 zut (fun _ => rfl) rfl rfl h17) ?_
     refine zaa (ze9 tyS9 rfl (zjk h17) rfl) ?_
     refine qe rfl ?_
     refine zac ?_
     refine zac ?_
     refine zab hN rfl ?_
     refine qd rfl ?_
     refine zaa (zdw rfl rfl) ?_
     refine zai _ rfl (fun h18 => ?_) (fun h18 => ?_)
     ·replace H := ift h18 H
      refine zbp ?_
      exact ⟨l10, H, ⟨rfl, rfl, rfl, rfl, trivial⟩, ⟨rfl, trivial⟩⟩
     ·replace H := iff_ h18 H
      refine zan ?_
      refine zac ?_
      refine zab hN rfl ?_
      refine qd rfl ?_
      obtain ⟨r19, h20, H⟩ := bnd H
      refine zaa (zak (zra x14 [43] [37, 50, 48] r19 h20) ⟨.inl rfl, .inl rfl, .inl rfl, trivial⟩) ?_
      obtain ⟨r21, h22, H⟩ := bnd H
      refine zaa (zak (zmq r19 [61] r21 h22) ⟨.inl rfl, .inl rfl, trivial⟩) ?_
      refine qd rfl ?_
      refine zaa (zbj rfl rfl) ?_
      refine zaa (zbj rfl rfl) ?_
      refine zaa (zbj rfl rfl) ?_
      refine qe rfl ?_
      refine qe rfl ?_
      refine qe rfl ?_
      refine zab hN rfl ?_
      refine zaa (zah (.row _ _) rfl) ?_
      refine qd rfl ?_
      obtain ⟨r23, h24, H⟩ := bnd H
      refine zaa (zak (zot r21.1 r23 h24) ⟨.inl rfl, trivial⟩) ?_
      refine qd rfl ?_
      obtain ⟨r25, h26, H⟩ := bnd H
      refine zaa (zak (zot r21.2.1 r25 h26) ⟨.inl rfl, trivial⟩) ?_
      refine zaa (za4 (u' := vagg (za1 (zag.mk r23 r25))) (zd5 [(0, [vstr r23]), (1, [vstr r25])] zwq z3j rfl ⟨rfl, .inl ⟨_, rfl, rfl, rfl⟩, rfl, rfl, .inl ⟨_, rfl, rfl, rfl⟩, rfl, trivial⟩) rfl) ?_
      refine zaa (za4 (u' := vlst (List.map za1 [(zag.mk r23 r25)])) (zcl [_] z3k ⟨rfl, .inr rfl, rfl, trivial⟩ rfl rfl) rfl) ?_
      obtain ⟨h27, H⟩ := gif H
      refine zal (zm1 z3k (fun _ => rfl) rfl rfl rfl ⟨by simp, by first | (simp; done) | simpa using h27⟩ rfl) rfl ?_
      refine zaa (zbb (.row _ _) rfl) ?_
      exact ⟨(l10 ++ [(zag.mk r23 r25)]), H, ⟨rfl, rfl, rfl, rfl, trivial⟩, ⟨rfl, trivial⟩⟩
    ·rintro out28 H
     replace H : zie out28 = some q12 := H
     unfold zie at H
     refine zab hN rfl ?_
     refine zaa (zfc rfl rfl (by omega)) ?_
     refine qd rfl ?_
     exact ⟨_, zio H, ⟨rfl, rfl, rfl, rfl, trivial⟩, ⟨rfl, trivial⟩⟩
theorem zqu (p1 : zag) (r : (Bool)) (H : zfj p1 = some r) : Fn Tryz.prog 52 [vagg (za1 p1)] (zbe [za2 r]) := by
 refine ⟨by kernel_rfl, za7 (us := [za2 r]) Tryz.func52 rfl rfl rfl rfl fun X hN => ?_⟩
 unfold zfj at H
 refine zac ?_
 refine zab hN rfl ?_
 refine zal (zju 1 rfl) rfl ?_
 refine qe rfl ?_
 refine zac ?_
 refine zab hN rfl ?_
 refine zaa (zaw zno rfl) ?_
 refine zau (zav tyS9 rfl rfl) rfl ?_
 refine zaa (zaw zqf rfl) ?_
 refine zau (zav tyS9 rfl rfl) rfl ?_
 obtain ⟨h2, H⟩ := gif H
 refine zaa (zht rfl rfl (Nat.le_trans h2 (by decide))) ?_
 refine zaa (zdw rfl rfl) ?_
 refine qe rfl ?_
 refine zap ?_
 cases H
 exact ⟨trivial, .inl rfl, trivial⟩
theorem zmo (data1 : (List zag)) (n2 : Int) (p2 : zag → zag → Option (Int)) (fv2 : Nat) (us2 : List V) (hp2 : ∀ a0 a1 r, p2 a0 a1 = some r → Fn Tryz.prog fv2 ([vagg (za1 a0), vagg (za1 a1)] ++ us2) (zbe [vint r])) (r : ((List zag))) (H : zfa data1 n2 p2 = some r) : FnG Tryz.prog 111 [.row 0 data1.length, .dat (vint n2), .dat (vfn fv2 us2)] [(0, .rowA undef 68 2 (List.map za1 data1))] (.dat (zbe [])) [(0, .rowA undef 68 2 (List.map za1 r))] := by
 refine zpe (by kernel_rfl) Tryz.func111 rfl rfl rfl rfl fun X A hN => ?_
 unfold zfa at H
 refine zac ?_
 refine zab hN rfl ?_
 refine qe rfl ?_
 refine zac ?_
 refine zab hN rfl ?_
 refine qd rfl ?_
 refine qe rfl ?_
 refine qe rfl ?_
 refine zax (ι := Int × (List zag)) (fun i => [(0, .row 0 i.2.length), (1, .dat (vint n2)), (2, .dat (vfn fv2 us2)), (6, .dat (vint 20)), (7, .dat (vint i.1))]) (fun i => [(0, .rowA (A.vl 0) 68 2 (List.map za1 i.2))]) (fun i => zes n2 p2 i.1 i.2 = some r) (fun i => rfl) ?_ ?_
 ·skip
  refine zat ?_
  refine zlf (fun (s : Int × Int × (List zag)) => [(0, .row 0 s.2.2.length), (1, .dat (vint n2)), (2, .dat (vfn fv2 us2)), (6, .dat (vint 20)), (7, .dat (vint s.1)), (8, .dat (vint s.2.1))]) (fun (s : Int × Int × (List zag)) => [(0, .rowA (A.vl 0) 68 2 (List.map za1 s.2.2))]) (0, 20, data1) H ⟨rfl, rfl, rfl, rfl, rfl, rfl, trivial⟩ ⟨rfl, trivial⟩ (fun _ => rfl) ?_
  rintro ⟨a3, b4, l5⟩ q6 H hq6
  replace H : zg4 n2 p2 a3 b4 l5 = some q6 := H
  unfold zg4 at H
  refine zac ?_
  refine zac ?_
  refine zab hN rfl ?_
  refine qd rfl ?_
  refine qd rfl ?_
  refine zaa (zhp rfl rfl) ?_
  refine zai _ rfl (fun h7 => ?_) (fun h7 => ?_)
  ·replace H := ift h7 H
   refine zan ?_
   refine zat ?_
   refine zac ?_
   refine zab hN rfl ?_
   refine zaa (zah (.row _ _) rfl) ?_
   refine qd rfl ?_
   refine qd rfl ?_
   refine qd rfl ?_
   obtain ⟨r8, h9, H⟩ := bnd H
   obtain ⟨h10, H⟩ := gif H
   refine zcv (rn [(0, 0)]) [(0, _, _, some _)] [] (ze8 l5 a3 b4 p2 fv2 us2 hp2 r8 h9) ⟨rfl, trivial⟩ ⟨.inl (.inl rfl), .inl (.inl rfl), .inl (.inl rfl), .inl (.inl rfl), trivial⟩ ⟨⟨⟨rfl, rfl, rfl⟩, by simp [zt3, h10]⟩, trivial⟩ rfl ?_
   refine zac ?_
   refine zab hN rfl ?_
   refine qd rfl ?_
   refine qe rfl ?_
   refine zab hN rfl ?_
   refine qd rfl ?_
   refine qd rfl ?_
   refine zaa (za8 _ rfl rfl (.inl ⟨rfl, rfl⟩)) ?_
   refine qe rfl ?_
   exact ⟨_, zio H, ⟨congrArg (Slot.row 0) ((h10).symm).symm, rfl, rfl, rfl, rfl, rfl, trivial⟩, ⟨rfl, trivial⟩⟩
  ·replace H := iff_ h7 H
   refine zbp ?_
   replace H := outl H hq6
   exact ⟨(a3, l5), H, ⟨rfl, rfl, rfl, rfl, rfl, trivial⟩, ⟨rfl, trivial⟩⟩
 ·rintro ⟨a11, data12⟩ H
  replace H : zes n2 p2 a11 data12 = some r := H
  unfold zes at H
  refine zac ?_
  refine zab hN rfl ?_
  refine zaa (zah (.row _ _) rfl) ?_
  refine qd rfl ?_
  refine qd rfl ?_
  refine qd rfl ?_
  obtain ⟨r13, h14, H⟩ := bnd H
  obtain ⟨h15, H⟩ := gif H
  refine zcv (rn [(0, 0)]) [(0, _, _, some _)] [] (ze8 data12 a11 n2 p2 fv2 us2 hp2 r13 h14) ⟨rfl, trivial⟩ ⟨.inl (.inl rfl), .inl (.inl rfl), .inl (.inl rfl), .inl (.inl rfl), trivial⟩ ⟨⟨⟨rfl, rfl, rfl⟩, by simp [zt3, h15]⟩, trivial⟩ rfl ?_
  refine zat ?_
  refine zlf (fun (s : Int) => [(0, .row 0 data12.length), (1, .dat (vint n2)), (2, .dat (vfn fv2 us2)), (6, .dat (vint s))]) (fun (s : Int) => [(0, .rowA (A.vl 0) 68 2 (List.map za1 r13))]) 20 H ⟨rfl, rfl, rfl, rfl, trivial⟩ ⟨rfl, trivial⟩ (fun _ => rfl) ?_
  rintro blockSize16 q17 H hq17
  replace H : zg3 n2 r13 blockSize16 = some q17 := H
  unfold zg3 at H
  refine zac ?_
  refine zac ?_
  refine zab hN rfl ?_
  refine qd rfl ?_
  refine qd rfl ?_
  refine zaa (za3 rfl rfl) ?_
  refine zai _ rfl (fun h18 => ?_) (fun h18 => ?_)
  ·replace H := ift h18 H
   refine zan ?_
   refine zat ?_
   refine zac ?_
   refine zab hN rfl ?_
   refine qd rfl ?_
   refine zaa (za8 _ rfl rfl (.inr (.inr ⟨rfl, rfl⟩))) ?_
   refine qe rfl ?_
   refine qe rfl ?_
   refine zax (ι := Int) (fun i => [(0, .row 0 data12.length), (1, .dat (vint n2)), (2, .dat (vfn fv2 us2)), (6, .dat (vint blockSize16)), (7, .dat (vint i))]) (fun i => [(0, .rowA (A.vl 0) 68 2 (List.map za1 r13))]) (fun i => zer n2 blockSize16 i = some q17) (fun i => rfl) ?_ ?_
   ·skip
    refine zat ?_
    refine zlf (fun (s : Int × Int) => [(0, .row 0 data12.length), (1, .dat (vint n2)), (2, .dat (vfn fv2 us2)), (6, .dat (vint blockSize16)), (7, .dat (vint s.1)), (8, .dat (vint s.2))]) (fun (s : Int × Int) => [(0, .rowA (A.vl 0) 68 2 (List.map za1 r13))]) (0, wr (2 * blockSize16)) H ⟨rfl, rfl, rfl, rfl, rfl, rfl, trivial⟩ ⟨rfl, trivial⟩ (fun _ => rfl) ?_
    rintro ⟨a19, b20⟩ q21 H hq21
    replace H : zg2 n2 blockSize16 a19 b20 = some q21 := H
    unfold zg2 at H
    refine zac ?_
    refine zac ?_
    refine zab hN rfl ?_
    refine qd rfl ?_
    refine qd rfl ?_
    refine zaa (zhp rfl rfl) ?_
    refine zai _ rfl (fun h22 => ?_) (fun h22 => ?_)
    ·replace H := ift h22 H
     cases H
    ·replace H := iff_ h22 H
     refine zbp ?_
     replace H := outl H hq21
     exact ⟨a19, H, ⟨rfl, rfl, rfl, rfl, rfl, trivial⟩, ⟨rfl, trivial⟩⟩
   ·rintro a23 H
    replace H : zer n2 blockSize16 a23 = some q17 := H
    unfold zer at H
    refine zax (ι := Unit) (fun i => [(0, .row 0 data12.length), (1, .dat (vint n2)), (2, .dat (vfn fv2 us2)), (6, .dat (vint blockSize16))]) (fun i => [(0, .rowA (A.vl 0) 68 2 (List.map za1 r13))]) (fun i => zeq blockSize16 = some q17) (fun i => rfl) ?_ ?_
    ·skip
     refine zac ?_
     refine zab hN rfl ?_
     refine qd rfl ?_
     refine qd rfl ?_
     refine zaa (za8 _ rfl rfl (.inl ⟨rfl, rfl⟩)) ?_
     refine qe rfl ?_
     refine zac ?_
     refine zab hN rfl ?_
     refine qd rfl ?_
     refine qd rfl ?_
     refine zaa (za3 rfl rfl) ?_
     refine zai _ rfl (fun h24 => ?_) (fun h24 => ?_)
     ·replace H := ift h24 H
      cases H
     ·replace H := iff_ h24 H
      refine zan ?_
      exact ⟨(), H, ⟨rfl, rfl, rfl, rfl, trivial⟩, ⟨rfl, trivial⟩⟩
    ·rintro ⟨⟩ H
     replace H : zeq blockSize16 = some q17 := H
     unfold zeq at H
     refine zab hN rfl ?_
     refine qd rfl ?_
     refine zaa (za8 _ rfl rfl (.inr (.inr ⟨rfl, rfl⟩))) ?_
     refine qe rfl ?_
     exact ⟨_, zio H, ⟨rfl, rfl, rfl, rfl, trivial⟩, ⟨rfl, trivial⟩⟩
  ·replace H := iff_ h18 H
   refine zbp ?_
   replace H := retl H hq17
   have eH : r13 = r := Option.some.inj H
   subst eH
   exact ⟨trivial, [], trivial, ⟨rfl, trivial⟩, rfl, .inl ⟨[], trivial, rfl⟩⟩
theorem zko (x1 : (List zag)) (p1 : zag → zag → Option (Int)) (fv1 : Nat) (us1 : List V) (hp1 : ∀ a0 a1 r, p1 a0 a1 = some r → Fn Tryz.prog fv1 ([vagg (za1 a0), vagg (za1 a1)] ++ us1) (zbe [vint r])) (r : ((List zag))) (H : zb2 x1 p1 = some r) : FnG Tryz.prog 53 [.row 0 x1.length, .dat (vfn fv1 us1)] [(0, .rowA undef 68 2 (List.map za1 x1))] (.dat (zbe [])) [(0, .rowA undef 68 2 (List.map za1 r))] := by
 refine zpe (by kernel_rfl) Tryz.func53 rfl rfl rfl rfl fun X A hN => ?_
 unfold zb2 at H
 refine zab hN rfl ?_
 refine zaa (zah (.row _ _) rfl) ?_
 refine zaa (zah (.row _ _) rfl) ?_
 refine zau (z5k ztr rfl rfl) rfl ?_
 refine qd rfl ?_
 obtain ⟨r2, h3, H⟩ := bnd H
 obtain ⟨h4, H⟩ := gif H
 refine zcv (rn [(0, 0)]) [(0, _, _, some _)] [] (zmo x1 (x1.length : Int) p1 fv1 us1 hp1 r2 h3) ⟨rfl, trivial⟩ ⟨.inl (.inl rfl), .inl (.inl rfl), .inl (.inl rfl), trivial⟩ ⟨⟨⟨rfl, rfl, rfl⟩, by simp [zt3, h4]⟩, trivial⟩ rfl ?_
 have eH : r2 = r := Option.some.inj H
 subst eH
 exact ⟨trivial, [], trivial, ⟨rfl, trivial⟩, rfl, .inl ⟨[], trivial, rfl⟩⟩
theorem zqt (a1 : zag) (b2 : zag) (r : (Int)) (H : zgo a1 b2 = some r) : Fn Tryz.prog 54 [vagg (za1 a1), vagg (za1 b2)] (zbe [vint r]) := by
 refine ⟨by kernel_rfl, za7 (us := [vint r]) Tryz.func54 rfl rfl rfl rfl fun X hN => ?_⟩
 unfold zgo at H
 refine zac ?_
 refine zab hN rfl ?_
 refine zal (zju 1 rfl) rfl ?_
 refine zal (zju 2 rfl) rfl ?_
 refine qe rfl ?_
 refine zac ?_
 refine zac ?_
 refine zab hN rfl ?_
 refine zaa (zaw zno rfl) ?_
 refine zau (zav tyS9 rfl rfl) rfl ?_
 refine zaa (zaw zno rfl) ?_
 refine zau (zav tyS9 rfl rfl) rfl ?_
 refine zaa (zon rfl rfl) ?_
 refine zai _ rfl (fun h3 => ?_) (fun h3 => ?_)
 ·replace H := ift h3 H
  refine zac ?_
  refine zab hN rfl ?_
  refine zaa (zaw zno rfl) ?_
  refine zau (zav tyS9 rfl rfl) rfl ?_
  refine zaa (zaw zno rfl) ?_
  refine zau (zav tyS9 rfl rfl) rfl ?_
  obtain ⟨r4, h5, H⟩ := bnd H
  refine zaa (zak (zlx a1.Name b2.Name r4 h5) ⟨.inl rfl, .inl rfl, trivial⟩) ?_
  refine qe rfl ?_
  refine zap ?_
  cases H
  exact ⟨trivial, .inl rfl, trivial⟩
 ·replace H := iff_ h3 H
  refine zan ?_
  refine zac ?_
  refine zab hN rfl ?_
  refine zaa (zaw zqf rfl) ?_
  refine zau (zav tyS9 rfl rfl) rfl ?_
  refine zaa (zaw zqf rfl) ?_
  refine zau (zav tyS9 rfl rfl) rfl ?_
  obtain ⟨r6, h7, H⟩ := bnd H
  refine zaa (zak (zlx a1.Value b2.Value r6 h7) ⟨.inl rfl, .inl rfl, trivial⟩) ?_
  refine qe rfl ?_
  refine zap ?_
  cases H
  exact ⟨trivial, .inl rfl, trivial⟩
theorem znz (s1 : Bs) (r : (Bs)) (H : zhk s1 = some r) : Fn Tryz.prog 113 [vstr s1] (zbe [vstr r]) := by
 refine ⟨by kernel_rfl, za7 (us := [vstr r]) Tryz.func113 rfl rfl rfl rfl fun X hN => ?_⟩
 unfold zhk at H
 refine zac ?_
 refine zab hN rfl ?_
 refine qe rfl ?_
 refine zac ?_
 refine zab hN rfl ?_
 refine qe rfl ?_
 refine zac ?_
 refine zac ?_
 refine zab hN rfl ?_
 refine qd rfl ?_
 refine zaa (za5 tyU9 rfl) ?_
 refine qd rfl ?_
 refine zat ?_
 refine zeh 3 1 5 1 rfl rfl rfl ?_
 obtain ⟨h5, H⟩ := gif H
 refine zed (fun (k3 : Nat) (s : (List Int)) => [(0, .dat (vstr s1)), (3, .row 1 s.length), (6, .dat (vint (s1.length : Int))), (7, .dat (vint (k3 : Int)))]) (fun (k3 : Nat) (s : (List Int)) => [(1, .row 5 1 (List.map zcj s))]) [] H ⟨rfl, rfl, rfl, rfl, trivial⟩ ⟨rfl, trivial⟩ (fun _ _ => rfl) ?_ ?_
 ·rintro l2 H
  replace H : zgu l2 = some r := H
  unfold zgu at H
  refine zac ?_
  refine zab hN rfl ?_
  refine zaa (za3 rfl rfl) ?_
  refine zac ?_
  refine zai _ rfl (fun h => (lt_t h).elim) (fun h => ?_)
  refine zbp ?_
  refine zac ?_
  refine zom 3 1 rfl rfl rfl ?_
  refine zab hN rfl ?_
  refine qd rfl ?_
  refine zaa (zr1 (C := zcj) zwr tyU5 tyU9 (fun _ => rfl) rfl) ?_
  refine qe rfl ?_
  refine zap ?_
  cases H
  exact ⟨trivial, .inl rfl, trivial⟩
 ·rintro k3 x6 l2 q4 h7 h8 H hq4
  replace H : zfn k3 x6 l2 = some q4 := H
  unfold zfn at H
  refine zac ?_
  refine zab hN rfl ?_
  refine zaa (za3 rfl rfl) ?_
  refine zac ?_
  refine zai _ rfl (fun h => ?_) (fun h => (lt_f h7 h).elim)
  refine zan ?_
  refine zax (ι := (List Int)) (fun i => [(0, .dat (vstr s1)), (3, .row 1 i.length), (6, .dat (vint (s1.length : Int))), (7, .dat (vint (k3 : Int)))]) (fun i => [(1, .row 5 1 (List.map zcj i))]) (fun i => zfo i = some q4) (fun i => rfl) ?_ ?_
  ·skip
   refine zat ?_
   refine zac ?_
   refine zab hN rfl ?_
   refine qd rfl ?_
   refine qe rfl ?_
   refine zat ?_
   refine zac ?_
   refine zab hN rfl ?_
   refine qd rfl ?_
   refine qd rfl ?_
   refine zaa (zgg tyU9 rfl rfl h8) ?_
   refine zaa (zb6 rfl rfl) ?_
   refine qe rfl ?_
   refine zai _ rfl (fun h9 => ?_) (fun h9 => ?_)
   ·replace H := ift h9 H
    refine zab hN rfl ?_
    refine zaa (zah (.row _ _) rfl) ?_
    refine zaa (za4 (u' := vlst (List.map zcj [43])) (zcl [[_]] zus ⟨rfl, .inl ⟨_, rfl, rfl, rfl⟩, rfl, trivial⟩ rfl rfl) rfl) ?_
    obtain ⟨h10, H⟩ := gif H
    refine zal (zm1 zus (fun _ => rfl) rfl rfl rfl ⟨by simp, by first | (simp; done) | simpa using h10⟩ rfl) rfl ?_
    refine zaa (zbb (.row _ _) rfl) ?_
    exact ⟨(l2 ++ [43]), H, ⟨rfl, rfl, rfl, rfl, trivial⟩, ⟨rfl, trivial⟩⟩
   ·replace H := iff_ h9 H
    refine zac ?_
    refine zab hN rfl ?_
    refine qd rfl ?_
    refine qd rfl ?_
    refine zaa (zgg tyU9 rfl rfl h8) ?_
    obtain ⟨r11, h12, H⟩ := bnd H
    refine zaa (zak (zkx [97, 98, 99, 100, 101, 102, 103, 104, 105, 106, 107, 108, 109, 110, 111, 112, 113, 114, 115, 116, 117, 118, 119, 120, 121, 122, 65, 66, 67, 68, 69, 70, 71, 72, 73, 74, 75, 76, 77, 78, 79, 80, 81, 82, 83, 84, 85, 86, 87, 88, 89, 90, 48, 49, 50, 51, 52, 53, 54, 55, 56, 57, 45, 46, 95, 126] (x6.toNat : Int) r11 h12) ⟨.inl rfl, .inl rfl, trivial⟩) ?_
    refine zaa (zi7 rfl rfl) ?_
    refine qe rfl ?_
    refine zai _ rfl (fun h13 => ?_) (fun h13 => ?_)
    ·replace H := ift h13 H
     refine zab hN rfl ?_
     refine zaa (zah (.row _ _) rfl) ?_
     refine qd rfl ?_
     refine qd rfl ?_
     refine zaa (zgg tyU9 rfl rfl h8) ?_
     refine zaa (za4 (u' := vlst (List.map zcj [(x6.toNat : Int)])) (zcl [[_]] zus ⟨rfl, .inl ⟨_, rfl, rfl, rfl⟩, rfl, trivial⟩ rfl rfl) rfl) ?_
     obtain ⟨h14, H⟩ := gif H
     refine zal (zm1 zus (fun _ => rfl) rfl rfl rfl ⟨by simp, by first | (simp; done) | simpa using h14⟩ rfl) rfl ?_
     refine zaa (zbb (.row _ _) rfl) ?_
     exact ⟨(l2 ++ [(x6.toNat : Int)]), H, ⟨rfl, rfl, rfl, rfl, trivial⟩, ⟨rfl, trivial⟩⟩
    ·replace H := iff_ h13 H
     refine zab hN rfl ?_
     refine zaa (zah (.row _ _) rfl) ?_
     refine qd rfl ?_
     refine qd rfl ?_
     refine zaa (zgg tyU9 rfl rfl h8) ?_
     obtain ⟨r15, h16, H⟩ := bnd H
     refine zaa (zak (zp3 (x6.toNat : Int) r15 h16) ⟨.inl rfl, trivial⟩) ?_
     obtain ⟨h17, H⟩ := gif H
     refine zal (z5m (C := zcj) (fun _ => rfl) (show tyB8 Tryz.prog 90 9 5 from ⟨by kernel_rfl, by kernel_rfl, by kernel_rfl⟩) rfl rfl rfl h17) rfl ?_
     refine zaa (zbb (.row _ _) rfl) ?_
     exact ⟨(l2 ++ zdv r15), H, ⟨rfl, rfl, rfl, rfl, trivial⟩, ⟨rfl, trivial⟩⟩
  ·rintro out18 H
   replace H : zfo out18 = some q4 := H
   unfold zfo at H
   refine zab hN rfl ?_
   refine zaa (zfc rfl rfl (by omega)) ?_
   refine qd rfl ?_
   exact ⟨_, zio H, ⟨rfl, rfl, rfl, rfl, trivial⟩, ⟨rfl, trivial⟩⟩
theorem zrd (l1 : (List zag)) (r : (Bs × Int)) (H : zhl l1 = some r) : Fn Tryz.prog 56 [vlst (List.map za1 l1)] (zbe [vstr r.1, vint r.2]) := by
 refine ⟨by kernel_rfl, za7 (us := [vstr r.1, vint r.2]) Tryz.func56 rfl rfl rfl rfl fun X hN => ?_⟩
 unfold zhl at H
 refine zac ?_
 refine zab hN rfl ?_
 refine qe rfl ?_
 refine qe rfl ?_
 refine zac ?_
 refine zac ?_
 refine zab hN rfl ?_
 refine qd rfl ?_
 refine zaa (zks ztr rfl) ?_
 refine zaa (zg1 rfl rfl) ?_
 refine zai _ rfl (fun h2 => ?_) (fun h2 => ?_)
 ·replace H := ift h2 H
  refine zac ?_
  refine zab hN rfl ?_
  refine qe rfl ?_
  refine qe rfl ?_
  refine zap ?_
  cases H
  exact ⟨trivial, .inl rfl, .inl rfl, trivial⟩
 ·replace H := iff_ h2 H
  refine zan ?_
  refine zac ?_
  refine zab hN rfl ?_
  refine qe rfl ?_
  refine zac ?_
  refine zac ?_
  refine zab hN rfl ?_
  refine qd rfl ?_
  refine zaa (zks ztr rfl) ?_
  refine qd rfl ?_
  refine zat ?_
  refine zeh 4 1 9 1 rfl rfl rfl ?_
  obtain ⟨h6, H⟩ := gif H
  refine zed (fun (k4 : Nat) (s : (List Bs)) => [(4, .row 1 s.length), (11, .dat (vlst (List.map za1 l1))), (12, .dat (vint (l1.length : Int))), (13, .dat (vint (k4 : Int)))]) (fun (k4 : Nat) (s : (List Bs)) => [(1, .row 9 1 (List.map zay s))]) [] H ⟨rfl, rfl, rfl, rfl, trivial⟩ ⟨rfl, trivial⟩ (fun _ _ => rfl) ?_ ?_
  ·rintro l3 H
   replace H : zlo l3 = some r := H
   unfold zlo at H
   refine zac ?_
   refine zab hN rfl ?_
   refine zaa (za3 rfl rfl) ?_
   refine zac ?_
   refine zai _ rfl (fun h => (lt_t h).elim) (fun h => ?_)
   refine zbp ?_
   refine zac ?_
   refine zom 4 1 rfl rfl rfl ?_
   refine zab hN rfl ?_
   refine qd rfl ?_
   obtain ⟨r8, h9, H⟩ := bnd H
   refine zaa (zak (zl3 l3 [38] r8 h9) ⟨.inl rfl, .inl rfl, trivial⟩) ?_
   refine qe rfl ?_
   refine zac ?_
   refine zac ?_
   refine zab hN rfl ?_
   refine qd rfl ?_
   refine zaa (za5 tyU9 rfl) ?_
   refine zaa (zg1 rfl rfl) ?_
   refine zai _ rfl (fun h10 => ?_) (fun h10 => ?_)
   ·replace H := ift h10 H
    refine zac ?_
    refine zab hN rfl ?_
    refine qe rfl ?_
    refine qe rfl ?_
    refine zap ?_
    cases H
    exact ⟨trivial, .inl rfl, .inl rfl, trivial⟩
   ·replace H := iff_ h10 H
    refine zan ?_
    refine zac ?_
    refine zab hN rfl ?_
    refine qd rfl ?_
    refine qe rfl ?_
    refine qe rfl ?_
    refine zap ?_
    cases H
    exact ⟨trivial, .inl rfl, .inl rfl, trivial⟩
  ·rintro k4 x7 l3 q5 h11 h12 H hq5
   replace H : zj3 k4 x7 l3 = some q5 := H
   unfold zj3 at H
   refine zac ?_
   refine zab hN rfl ?_
   refine zaa (za3 rfl rfl) ?_
   refine zac ?_
   refine zai _ rfl (fun h => ?_) (fun h => (lt_f h11 h).elim)
   refine zan ?_
   refine zac ?_
   refine zat ?_
   refine zac ?_
   refine zab hN rfl ?_
   refine zaa (zn2 zsh (fun _ => rfl) rfl rfl h12) ?_
   refine zaa (zip zp5 rfl (zjk h12) rfl) ?_
   refine zal (zdf 2 zwq rfl) rfl ?_
   refine zal (zb9 zp5 rfl rfl rfl rfl) rfl ?_
   refine zac ?_
   refine zac ?_
   refine zab hN rfl ?_
   refine zaa (zaw zno rfl) ?_
   refine zau (zav tyS9 rfl rfl) rfl ?_
   refine zaa (zdw rfl rfl) ?_
   refine qd rfl ?_
   refine zig rfl rfl (fun hc => zaw zqf rfl) ?_
   refine z6r rfl rfl (fun hc => zav tyS9 (cnd (c := (decide (x7.Name = []))) hc) rfl) rfl z8t ?_
   refine zig rfl rfl (fun hc => zdw (cnd (c := (decide (x7.Name = []))) hc) rfl) ?_
   refine zaa (zco rfl (fun hb => (cnd (c := (decide (x7.Name = []))) hb)) rfl) ?_
   refine zai _ rfl (fun h13 => ?_) (fun h13 => ?_)
   ·replace H := ift h13 H
    refine zac ?_
    refine zab hN rfl ?_
    refine qe rfl ?_
    refine qe rfl ?_
    refine zap ?_
    replace H := retl H hq5
    cases H
    exact ⟨trivial, .inl rfl, .inl rfl, trivial⟩
   ·replace H := iff_ h13 H
    refine zan ?_
    refine zik mixed hN rfl rfl ?_
    refine zaa (zah (.row _ _) rfl) ?_
    refine zaa (zaw zno rfl) ?_
    refine zau (zav tyS9 rfl rfl) rfl ?_
    obtain ⟨r14, h15, H⟩ := bnd H
    refine zaa (zak (znz x7.Name r14 h15) ⟨.inl rfl, trivial⟩) ?_
    obtain ⟨h16, H⟩ := gif H
    refine zaa (zht rfl rfl (Nat.le_trans h16 (by decide))) ?_
    refine zaa (zaw zqf rfl) ?_
    refine zau (zav tyS9 rfl rfl) rfl ?_
    obtain ⟨r17, h18, H⟩ := bnd H
    refine zaa (zak (znz x7.Value r17 h18) ⟨.inl rfl, trivial⟩) ?_
    obtain ⟨h19, H⟩ := gif H
    refine zaa (zht rfl rfl (Nat.le_trans h19 (by decide))) ?_
    refine zaa (za4 (u' := vlst (List.map zay [((r14 ++ [61]) ++ r17)])) (zcl [[_]] zlg ⟨rfl, .inl ⟨_, rfl, rfl, rfl⟩, rfl, trivial⟩ rfl rfl) rfl) ?_
    obtain ⟨h20, H⟩ := gif H
    refine zal (zm1 zlg (fun _ => rfl) rfl rfl rfl ⟨by simp, by first | (simp; done) | simpa using h20⟩ rfl) rfl ?_
    refine zaa (zbb (.row _ _) rfl) ?_
    refine ⟨rfl, ?_⟩
    refine zab hN rfl ?_
    refine zaa (zfc rfl rfl (by omega)) ?_
    refine qd rfl ?_
    exact ⟨_, zio H, ⟨rfl, rfl, rfl, rfl, trivial⟩, ⟨rfl, trivial⟩⟩
end Go.Proofs.YthgblfklceopgaaGreatDoor
