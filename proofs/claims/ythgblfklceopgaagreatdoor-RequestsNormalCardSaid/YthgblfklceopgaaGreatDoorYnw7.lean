/- Walks along the models. Printed by a program. -/
import Derived.Test.YthgblfklceopgaaGreatDoorYnw6
namespace Go.Proofs.YthgblfklceopgaaGreatDoor
open Go.RowKit
set_option linter.unusedVariables false
set_option maxRecDepth 20000
set_option maxHeartbeats 2000000
theorem zo0 (v1 : (List Int)) (r : (Bool)) (H : zij v1 = some r) : Fn Tryz.prog 3 [vlst (List.map zqb v1)] (zbe [za2 r]) := by
 refine ⟨by kernel_rfl, za7 (us := [za2 r]) Tryz.func3 rfl rfl rfl rfl fun X hN => ?_⟩
 unfold zij at H
 refine zac ?_
 refine zab hN rfl ?_
 refine qe rfl ?_
 refine zac ?_
 refine zab hN rfl ?_
 refine qd rfl ?_
 refine zaa (za4 (u' := vagg (zaq (zad.mk v1 0))) (zd5 [(0, [vlst (List.map zqb v1)])] z81 z85 rfl ⟨rfl, .inl ⟨_, rfl, rfl, rfl⟩, rfl, trivial⟩) rfl) ?_
 refine zal (zju 1 rfl) rfl ?_
 refine zaa (zbb (.ptr _ _) rfl) ?_
 refine zac ?_
 refine zab hN rfl ?_
 refine zaa (zah (.ptr _ _) rfl) ?_
 obtain ⟨r2, h3, H⟩ := bnd H
 refine zal (zb3 (zoy (zad.mk v1 0) r2 h3) rfl trivial rfl) rfl ?_
 refine zaa (zah (.ptr _ _) rfl) ?_
 obtain ⟨r4, h5, H⟩ := bnd H
 refine zal (zb3 (zl4 r2.2 5 r4 h5) rfl ⟨.inl rfl, trivial⟩ rfl) rfl ?_
 refine zaa (zah (.ptr _ _) rfl) ?_
 obtain ⟨r6, h7, H⟩ := bnd H
 refine zal (zb3 (zjn r4.2 r6 h7) rfl trivial rfl) rfl ?_
 refine zaa (zah (.ptr _ _) rfl) ?_
 obtain ⟨r8, h9, H⟩ := bnd H
 refine zal (zb3 (zjo r6.2 r8 h9) rfl trivial rfl) rfl ?_
 refine zal (zdf 2 zph rfl) rfl ?_
 refine zal (zb9 zkd rfl rfl rfl rfl) rfl ?_
 refine qe rfl ?_
 refine qe rfl ?_
 refine qe rfl ?_
 refine zac ?_
 refine zab hN rfl ?_
 refine zau (zf6 zkd rfl rfl rfl) rfl ?_
 obtain ⟨r10, h11, H⟩ := bnd H
 refine zaa (zak (zte r2.1 r10 h11) ⟨.inl rfl, trivial⟩) ?_
 refine qd rfl ?_
 refine zaa (zbj rfl rfl) ?_
 refine zaa (zbj rfl rfl) ?_
 refine zal (zdf 3 zph rfl) rfl ?_
 refine zal (zb9 zkd rfl rfl rfl rfl) rfl ?_
 refine qe rfl ?_
 refine zac ?_
 refine zab hN rfl ?_
 refine zau (zf6 zkd rfl rfl rfl) rfl ?_
 obtain ⟨r12, h13, H⟩ := bnd H
 refine zaa (zak (zrs r2.1 r12 h13) ⟨.inl rfl, trivial⟩) ?_
 refine qd rfl ?_
 refine zaa (zbj rfl rfl) ?_
 refine zaa (zbj rfl rfl) ?_
 refine zal (zdf 4 zph rfl) rfl ?_
 refine zal (zb9 zkd rfl rfl rfl rfl) rfl ?_
 refine qe rfl ?_
 refine zac ?_
 refine zax (ι := Bool) (fun i => [(5, .dat (vlst (List.map zao r4.1))), (6, .dat (vstr r6.1)), (7, .dat (vstr r8.1)), (50, .dat (za2 i))]) (fun i => []) (fun i => zc9 r4 r6 r8 i = some r) (fun i => rfl) ?_ ?_
 ·skip
  refine zab hN rfl ?_
  refine qd rfl ?_
  refine qd rfl ?_
  refine zaa (zfw rfl rfl) ?_
  refine qd rfl ?_
  refine zaz (j := 3) rfl rfl (fun h14 => ?_) (fun h14 => ?_) rfl
  ·have h15 := un3 h14
   replace H := iff_ h15 H
   refine zkf rfl rfl h14 (zf6 zkd rfl rfl rfl) rfl ?_
   refine zkf rfl rfl h14 (zf6 zkd rfl rfl rfl) rfl ?_
   obtain ⟨r16, h17, H⟩ := bnd H
   refine zam rfl rfl h14 (zak (zqa r10.1 r12.1 r16 h17) ⟨.inl rfl, .inl rfl, trivial⟩) ?_
   refine zam rfl rfl h14 (zck rfl) ?_
   refine zaa (zaj rfl (bFF h15) rfl) ?_
   exact ⟨!r16, H, ⟨rfl, rfl, rfl, rfl, trivial⟩, trivial⟩
  ·have h18 := un4 h14
   replace H := ift h18 H
   refine zae rfl rfl h14 ?_
   refine zae rfl rfl h14 ?_
   refine zae rfl rfl h14 ?_
   refine zae rfl rfl h14 ?_
   refine zaa (zas rfl (bTT h18) rfl) ?_
   exact ⟨true, H, ⟨rfl, rfl, rfl, rfl, trivial⟩, trivial⟩
 ·rintro v19 H
  replace H : zc9 r4 r6 r8 v19 = some r := H
  unfold zc9 at H
  refine zai _ rfl (fun h20 => ?_) (fun h20 => ?_)
  ·replace H := ift h20 H
   refine zac ?_
   refine zab hN rfl ?_
   refine qe rfl ?_
   refine zap ?_
   cases H
   exact ⟨trivial, .inl rfl, trivial⟩
  ·replace H := iff_ h20 H
   refine zan ?_
   refine zac ?_
   refine zab hN rfl ?_
   refine qd rfl ?_
   refine qd rfl ?_
   obtain ⟨r21, h22, H⟩ := bnd H
   refine zaa (zak (zv6 r4.1 r6.1 r21 h22) ⟨.inl rfl, .inl rfl, trivial⟩) ?_
   refine qd rfl ?_
   refine zaa (zbj rfl rfl) ?_
   refine zaa (zbj rfl rfl) ?_
   refine qe rfl ?_
   refine qe rfl ?_
   refine zac ?_
   refine zab hN rfl ?_
   refine qd rfl ?_
   refine qd rfl ?_
   refine qd rfl ?_
   obtain ⟨r23, h24, H⟩ := bnd H
   refine zaa (zak (zv5 r4.1 r6.1 r8.1 r23 h24) ⟨.inl rfl, .inl rfl, .inl rfl, trivial⟩) ?_
   refine qd rfl ?_
   refine zaa (zbj rfl rfl) ?_
   refine zaa (zbj rfl rfl) ?_
   refine qe rfl ?_
   refine qe rfl ?_
   refine zac ?_
   refine zab hN rfl ?_
   refine qd rfl ?_
   refine qd rfl ?_
   obtain ⟨r25, h26, H⟩ := bnd H
   refine zaa (zak (ztd r4.1 r6.1 r25 h26) ⟨.inl rfl, .inl rfl, trivial⟩) ?_
   refine qd rfl ?_
   refine zaa (zbj rfl rfl) ?_
   refine zaa (zbj rfl rfl) ?_
   refine qe rfl ?_
   refine qe rfl ?_
   refine zac ?_
   refine zab hN rfl ?_
   refine qd rfl ?_
   obtain ⟨r27, h28, H⟩ := bnd H
   refine zaa (zak (zmv r4.1 r27 h28) ⟨.inl rfl, trivial⟩) ?_
   refine qd rfl ?_
   obtain ⟨r29, h30, H⟩ := bnd H
   refine zaa (zak (znr r6.1 r29 h30) ⟨.inl rfl, trivial⟩) ?_
   refine zaa (zck rfl) ?_
   obtain ⟨r31, h32, H⟩ := bnd H
   refine zaa (zak (zqw (!r29) 5 r31 h32) ⟨.inl rfl, .inl rfl, trivial⟩) ?_
   refine zaa (za4 (u' := vlst (List.map zpz [r27, r31])) (zcl [[_], [_]] z74 ⟨rfl, .inl ⟨_, rfl, rfl, rfl⟩, rfl, rfl, .inl ⟨_, rfl, rfl, rfl⟩, rfl, trivial⟩ rfl rfl) rfl) ?_
   obtain ⟨r33, h34, H⟩ := bnd H
   refine zaa (zak (zqx [r27, r31] r33 h34) ⟨.inl rfl, trivial⟩) ?_
   refine qe rfl ?_
   refine zac ?_
   refine zab hN rfl ?_
   refine qd rfl ?_
   refine qd rfl ?_
   obtain ⟨r35, h36, H⟩ := bnd H
   refine zaa (zak (zns r8.1 r35 h36) ⟨.inl rfl, trivial⟩) ?_
   refine zaa (zck rfl) ?_
   obtain ⟨r37, h38, H⟩ := bnd H
   refine zaa (zak (zqw (!r35) 3 r37 h38) ⟨.inl rfl, .inl rfl, trivial⟩) ?_
   refine zaa (za4 (u' := vlst (List.map zpz [r33, r37])) (zcl [[_], [_]] z74 ⟨rfl, .inl ⟨_, rfl, rfl, rfl⟩, rfl, rfl, .inl ⟨_, rfl, rfl, rfl⟩, rfl, trivial⟩ rfl rfl) rfl) ?_
   obtain ⟨r39, h40, H⟩ := bnd H
   refine zaa (zak (zqx [r33, r37] r39 h40) ⟨.inl rfl, trivial⟩) ?_
   refine qe rfl ?_
   refine zac ?_
   refine zab hN rfl ?_
   refine qe rfl ?_
   refine zac ?_
   refine zab hN rfl ?_
   refine qe rfl ?_
   refine qe rfl ?_
   refine zxk (ι := (List Bs) × (List zaf)) (fun i => [(5, .dat (vlst (List.map zao r4.1))), (6, .dat (vstr r6.1)), (7, .dat (vstr r8.1)), (9, .dat (vint r21.2)), (11, .dat (vint r23.2)), (12, .dat (vlst (List.map zay r21.1))), (13, .dat (vlst (List.map zao r23.1))), (14, .dat (vlst (List.map zao r25.1))), (15, .dat (vint r25.2)), (16, .dat (vint r33)), (17, .dat (vint r39)), (18, .dat (vlst (List.map zay i.1))), (19, .dat (vnil)), (20, .dat (vlst (List.map zao i.2)))]) (fun i => []) (fun i => zcq r4 r6 r8 r21 r23 r25 r33 r39 i.1 i.2 = some r) (fun i => rfl) (fun i => rfl) ?_ ?_
   ·skip
    refine zac ?_
    refine zab hN rfl ?_
    refine qd rfl ?_
    refine zaa (zb6 rfl rfl) ?_
    refine zai _ rfl (fun h41 => ?_) (fun h41 => ?_)
    ·replace H := ift h41 H
     refine zab hN rfl ?_
     refine qd rfl ?_
     refine qd rfl ?_
     obtain ⟨r42, h43, H⟩ := bnd H
     refine zaa (zak (zsp r4.1 r6.1 r42 h43) ⟨.inl rfl, .inl rfl, trivial⟩) ?_
     refine qd rfl ?_
     refine qd rfl ?_
     obtain ⟨r44, h45, H⟩ := bnd H
     refine zaa (zak (zou r4.1 r6.1 r44 h45) ⟨.inl rfl, .inl rfl, trivial⟩) ?_
     refine qe rfl ?_
     refine qe rfl ?_
     exact ⟨(r42, r44), H, ⟨.inl rfl, .inl rfl, .inl rfl, .inl rfl, .inl rfl, .inl rfl, .inl rfl, .inl rfl, .inl rfl, .inl rfl, .inl rfl, .inl rfl, .inl rfl, .inl rfl, trivial⟩, trivial⟩
    ·replace H := iff_ h41 H
     refine zan ?_
     exact ⟨([], []), H, ⟨.inl rfl, .inl rfl, .inl rfl, .inl rfl, .inl rfl, .inl rfl, .inl rfl, .inl rfl, .inl rfl, .inl rfl, .inl rfl, .inr ⟨rfl, rfl⟩, .inl rfl, .inr ⟨rfl, rfl⟩, trivial⟩, trivial⟩
   ·rintro ⟨v46, v47⟩ H
    replace H : zcq r4 r6 r8 r21 r23 r25 r33 r39 v46 v47 = some r := H
    unfold zcq at H
    refine zxk (ι := Int × (List zaf)) (fun i => [(9, .dat (vint r21.2)), (11, .dat (vint r23.2)), (12, .dat (vlst (List.map zay r21.1))), (13, .dat (vlst (List.map zao r23.1))), (14, .dat (vlst (List.map zao r25.1))), (15, .dat (vint r25.2)), (16, .dat (vint r33)), (17, .dat (vint i.1)), (18, .dat (vlst (List.map zay v46))), (19, .dat (vlst (List.map zao i.2))), (20, .dat (vlst (List.map zao v47)))]) (fun i => []) (fun i => zcp r21 r23 r25 r33 v46 v47 i.1 i.2 = some r) (fun i => rfl) (fun i => rfl) ?_ ?_
    ·skip
     refine zac ?_
     refine zab hN rfl ?_
     refine qd rfl ?_
     refine zaa (zb6 rfl rfl) ?_
     refine zai _ rfl (fun h48 => ?_) (fun h48 => ?_)
     ·replace H := ift h48 H
      refine zac ?_
      refine zab hN rfl ?_
      refine qd rfl ?_
      refine qd rfl ?_
      refine qd rfl ?_
      obtain ⟨r49, h50, H⟩ := bnd H
      refine zaa (zak (ztf r4.1 r6.1 r8.1 r49 h50) ⟨.inl rfl, .inl rfl, .inl rfl, trivial⟩) ?_
      refine qe rfl ?_
      refine zac ?_
      refine zab hN rfl ?_
      refine qd rfl ?_
      refine zaa (zks zpi rfl) ?_
      refine zaa (zg1 rfl rfl) ?_
      refine zai _ rfl (fun h51 => ?_) (fun h51 => ?_)
      ·replace H := ift h51 H
       refine zab hN rfl ?_
       refine qe rfl ?_
       refine qe rfl ?_
       exact ⟨(2, []), H, ⟨.inl rfl, .inl rfl, .inl rfl, .inl rfl, .inl rfl, .inl rfl, .inl rfl, .inl rfl, .inl rfl, .inr ⟨rfl, rfl⟩, .inl rfl, trivial⟩, trivial⟩
      ·replace H := iff_ h51 H
       refine zan ?_
       exact ⟨(r39, r49), H, ⟨.inl rfl, .inl rfl, .inl rfl, .inl rfl, .inl rfl, .inl rfl, .inl rfl, .inl rfl, .inl rfl, .inl rfl, .inl rfl, trivial⟩, trivial⟩
     ·replace H := iff_ h48 H
      refine zan ?_
      exact ⟨(r39, []), H, ⟨.inl rfl, .inl rfl, .inl rfl, .inl rfl, .inl rfl, .inl rfl, .inl rfl, .inl rfl, .inl rfl, .inr ⟨rfl, rfl⟩, .inl rfl, trivial⟩, trivial⟩
    ·rintro ⟨v52, v53⟩ H
     replace H : zcp r21 r23 r25 r33 v46 v47 v52 v53 = some r := H
     unfold zcp at H
     refine zax (ι := Bool) (fun i => [(2, .dat (za2 i))]) (fun i => []) (fun i => zbq i = some r) (fun i => rfl) ?_ ?_
     ·skip
      refine zab hN rfl ?_
      refine qd rfl ?_
      refine qd rfl ?_
      refine zaa (zb6 rfl rfl) ?_
      refine qd rfl ?_
      refine zaz (j := 3) rfl rfl (fun h54 => ?_) (fun h54 => ?_) rfl
      ·have h55 := un1 h54
       replace H := ift h55 H
       refine zam rfl rfl h54 (zah (.dat _) rfl) ?_
       refine zam rfl rfl h54 (zah (.dat _) rfl) ?_
       refine zam rfl rfl h54 (zb6 rfl rfl) ?_
       refine zaa (zas rfl (bTT h55) rfl) ?_
       refine qd rfl ?_
       refine zaz (j := 8) rfl rfl (fun h56 => ?_) (fun h56 => ?_) rfl
       ·have h57 := un1 h56
        replace H := ift h57 H
        refine zam rfl rfl h56 (zah (.dat _) rfl) ?_
        refine zam rfl rfl h56 (zah (.dat _) rfl) ?_
        refine zam rfl rfl h56 (zb6 rfl rfl) ?_
        refine zaa (zas rfl (bTT h57) rfl) ?_
        refine qd rfl ?_
        refine zaz (j := 13) rfl rfl (fun h58 => ?_) (fun h58 => ?_) rfl
        ·have h59 := un1 h58
         replace H := ift h59 H
         refine zam rfl rfl h58 (zah (.dat _) rfl) ?_
         refine zam rfl rfl h58 (zah (.dat _) rfl) ?_
         obtain ⟨r60, h61, H⟩ := bnd H
         refine zam rfl rfl h58 (zak (zm7 r21.1 v46 r60 h61) ⟨.inl rfl, .inl rfl, trivial⟩) ?_
         refine zaa (zas rfl (bTT h59) rfl) ?_
         refine qd rfl ?_
         refine zaz (j := 18) rfl rfl (fun h62 => ?_) (fun h62 => ?_) rfl
         ·have h63 := un1 h62
          replace H := ift h63 H
          refine zam rfl rfl h62 (zah (.dat _) rfl) ?_
          refine zam rfl rfl h62 (zah (.dat _) rfl) ?_
          obtain ⟨r64, h65, H⟩ := bnd H
          refine zam rfl rfl h62 (zak (zfm r23.1 v53 r64 h65) ⟨.inl rfl, .inl rfl, trivial⟩) ?_
          refine zaa (zas rfl (bTT h63) rfl) ?_
          refine qd rfl ?_
          refine zaz (j := 23) rfl rfl (fun h66 => ?_) (fun h66 => ?_) rfl
          ·have h67 := un1 h66
           replace H := ift h67 H
           refine zam rfl rfl h66 (zah (.dat _) rfl) ?_
           refine zam rfl rfl h66 (zah (.dat _) rfl) ?_
           obtain ⟨r68, h69, H⟩ := bnd H
           refine zam rfl rfl h66 (zak (zfm r25.1 v47 r68 h69) ⟨.inl rfl, .inl rfl, trivial⟩) ?_
           refine zaa (zas rfl (bTT h67) rfl) ?_
           refine qd rfl ?_
           refine zaz (j := 28) rfl rfl (fun h70 => ?_) (fun h70 => ?_) rfl
           ·have h71 := un1 h70
            replace H := ift h71 H
            obtain ⟨r72, h73, H⟩ := bnd H
            refine zam rfl rfl h70 (zak (zst  r72 h73) trivial) ?_
            refine zaa (zas rfl (bTT h71) rfl) ?_
            refine qe rfl ?_
            exact ⟨r72, H, ⟨rfl, trivial⟩, trivial⟩
           ·have h74 := un2 h70
            replace H := iff_ h74 H
            refine zae rfl rfl h70 ?_
            refine zaa (zaj rfl (bFF h74) rfl) ?_
            refine qe rfl ?_
            exact ⟨false, H, ⟨rfl, trivial⟩, trivial⟩
          ·have h75 := un2 h66
           replace H := iff_ h75 H
           refine zae rfl rfl h66 ?_
           refine zae rfl rfl h66 ?_
           refine zae rfl rfl h66 ?_
           refine zaa (zaj rfl (bFF h75) rfl) ?_
           refine qd rfl ?_
           refine zae rfl rfl rfl ?_
           refine zaa (zaj rfl rfl rfl) ?_
           refine qe rfl ?_
           exact ⟨false, H, ⟨rfl, trivial⟩, trivial⟩
         ·have h76 := un2 h62
          replace H := iff_ h76 H
          refine zae rfl rfl h62 ?_
          refine zae rfl rfl h62 ?_
          refine zae rfl rfl h62 ?_
          refine zaa (zaj rfl (bFF h76) rfl) ?_
          refine qd rfl ?_
          refine zae rfl rfl rfl ?_
          refine zae rfl rfl rfl ?_
          refine zae rfl rfl rfl ?_
          refine zaa (zaj rfl rfl rfl) ?_
          refine qd rfl ?_
          refine zae rfl rfl rfl ?_
          refine zaa (zaj rfl rfl rfl) ?_
          refine qe rfl ?_
          exact ⟨false, H, ⟨rfl, trivial⟩, trivial⟩
        ·have h77 := un2 h58
         replace H := iff_ h77 H
         refine zae rfl rfl h58 ?_
         refine zae rfl rfl h58 ?_
         refine zae rfl rfl h58 ?_
         refine zaa (zaj rfl (bFF h77) rfl) ?_
         refine qd rfl ?_
         refine zae rfl rfl rfl ?_
         refine zae rfl rfl rfl ?_
         refine zae rfl rfl rfl ?_
         refine zaa (zaj rfl rfl rfl) ?_
         refine qd rfl ?_
         refine zae rfl rfl rfl ?_
         refine zae rfl rfl rfl ?_
         refine zae rfl rfl rfl ?_
         refine zaa (zaj rfl rfl rfl) ?_
         refine qd rfl ?_
         refine zae rfl rfl rfl ?_
         refine zaa (zaj rfl rfl rfl) ?_
         refine qe rfl ?_
         exact ⟨false, H, ⟨rfl, trivial⟩, trivial⟩
       ·have h78 := un2 h56
        replace H := iff_ h78 H
        refine zae rfl rfl h56 ?_
        refine zae rfl rfl h56 ?_
        refine zae rfl rfl h56 ?_
        refine zaa (zaj rfl (bFF h78) rfl) ?_
        refine qd rfl ?_
        refine zae rfl rfl rfl ?_
        refine zae rfl rfl rfl ?_
        refine zae rfl rfl rfl ?_
        refine zaa (zaj rfl rfl rfl) ?_
        refine qd rfl ?_
        refine zae rfl rfl rfl ?_
        refine zae rfl rfl rfl ?_
        refine zae rfl rfl rfl ?_
        refine zaa (zaj rfl rfl rfl) ?_
        refine qd rfl ?_
        refine zae rfl rfl rfl ?_
        refine zae rfl rfl rfl ?_
        refine zae rfl rfl rfl ?_
        refine zaa (zaj rfl rfl rfl) ?_
        refine qd rfl ?_
        refine zae rfl rfl rfl ?_
        refine zaa (zaj rfl rfl rfl) ?_
        refine qe rfl ?_
        exact ⟨false, H, ⟨rfl, trivial⟩, trivial⟩
      ·have h79 := un2 h54
       replace H := iff_ h79 H
       refine zae rfl rfl h54 ?_
       refine zae rfl rfl h54 ?_
       refine zae rfl rfl h54 ?_
       refine zaa (zaj rfl (bFF h79) rfl) ?_
       refine qd rfl ?_
       refine zae rfl rfl rfl ?_
       refine zae rfl rfl rfl ?_
       refine zae rfl rfl rfl ?_
       refine zaa (zaj rfl rfl rfl) ?_
       refine qd rfl ?_
       refine zae rfl rfl rfl ?_
       refine zae rfl rfl rfl ?_
       refine zae rfl rfl rfl ?_
       refine zaa (zaj rfl rfl rfl) ?_
       refine qd rfl ?_
       refine zae rfl rfl rfl ?_
       refine zae rfl rfl rfl ?_
       refine zae rfl rfl rfl ?_
       refine zaa (zaj rfl rfl rfl) ?_
       refine qd rfl ?_
       refine zae rfl rfl rfl ?_
       refine zae rfl rfl rfl ?_
       refine zae rfl rfl rfl ?_
       refine zaa (zaj rfl rfl rfl) ?_
       refine qd rfl ?_
       refine zae rfl rfl rfl ?_
       refine zaa (zaj rfl rfl rfl) ?_
       refine qe rfl ?_
       exact ⟨false, H, ⟨rfl, trivial⟩, trivial⟩
     ·rintro v80 H
      replace H : zbq v80 = some r := H
      unfold zbq at H
      refine zap ?_
      cases H
      exact ⟨trivial, .inl rfl, trivial⟩
end Go.Proofs.YthgblfklceopgaaGreatDoor
