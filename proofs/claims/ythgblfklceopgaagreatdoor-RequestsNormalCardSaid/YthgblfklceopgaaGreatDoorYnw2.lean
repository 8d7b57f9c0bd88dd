/- Walks along the models. Printed by a program. -/
import Derived.Test.YthgblfklceopgaaGreatDoorYnw1
namespace Go.Proofs.YthgblfklceopgaaGreatDoor
open Go.RowKit
set_option linter.unusedVariables false
set_option maxRecDepth 20000
set_option maxHeartbeats 2000000
theorem znc (v1 : Bs) (r : (Bool)) (H : zia v1 = some r) : Fn Tryz.prog 217 [vstr v1] (zbe [za2 r]) := by
 refine ⟨by kernel_rfl, za7 (us := [za2 r]) Tryz.func217 rfl rfl rfl rfl fun X hN => ?_⟩
 unfold zia at H
 refine zac ?_
 refine zab hN rfl ?_
 refine qe rfl ?_
 refine zac ?_
 refine zab hN rfl ?_
 refine qe rfl ?_
 refine zac ?_
 refine zab hN rfl ?_
 refine qe rfl ?_
 refine zax (ι := Bs) (fun i => [(0, .dat (vstr i)), (3, .dat (vval (.int .i32 94))), (4, .dat (vint 0))]) (fun i => []) (fun i => zdm i = some r) (fun i => rfl) ?_ ?_
 ·skip
  refine zax (ι := Bool) (fun i => [(0, .dat (vstr v1)), (3, .dat (vval (.int .i32 94))), (4, .dat (vint 0)), (18, .dat (za2 i))]) (fun i => []) (fun i => zcs v1 i = some r) (fun i => rfl) ?_ ?_
  ·skip
   refine zab hN rfl ?_
   refine qd rfl ?_
   refine zaa (za5 tyU9 rfl) ?_
   refine zaa (zi7 rfl rfl) ?_
   refine qd rfl ?_
   refine zaz (j := 3) rfl rfl (fun h2 => ?_) (fun h2 => ?_) rfl
   ·have h3 := un1 h2
    replace H := ift h3 H
    refine zam rfl rfl h2 (zah (.dat _) rfl) ?_
    obtain ⟨x4, h5, H⟩ := bnd H
    refine zam rfl rfl h2 (zgg tyU9 rfl rfl h5) ?_
    refine zam rfl rfl h2 (zb6 rfl rfl) ?_
    refine zam rfl rfl h2 (zah (.dat _) rfl) ?_
    refine zaz (j := 7) rfl rfl (fun h6 => ?_) (fun h6 => ?_) rfl
    ·have h7 := un3 h6
     replace H := iff_ h7 H
     refine zam rfl rfl h6 (zah (.dat _) rfl) ?_
     refine zam rfl rfl h6 (zgg tyU9 rfl rfl h5) ?_
     refine zam rfl rfl h6 (zb6 rfl rfl) ?_
     refine zam rfl rfl h2 (zaj rfl (bFF h7) rfl) ?_
     refine zaa (zas rfl (bTT h3) rfl) ?_
     exact ⟨decide ((x4.toNat : Int) = 43), H, ⟨rfl, rfl, rfl, rfl, trivial⟩, trivial⟩
    ·have h8 := un4 h6
     replace H := ift h8 H
     refine zae rfl rfl h6 ?_
     refine zae rfl rfl h6 ?_
     refine zae rfl rfl h6 ?_
     refine zam rfl rfl h2 (zas rfl (bTT h8) rfl) ?_
     refine zaa (zas rfl (bTT h3) rfl) ?_
     exact ⟨true, H, ⟨rfl, rfl, rfl, rfl, trivial⟩, trivial⟩
   ·have h9 := un2 h2
    replace H := iff_ h9 H
    refine zae rfl rfl h2 ?_
    refine zae rfl rfl h2 ?_
    refine zae rfl rfl h2 ?_
    refine zae rfl rfl h2 ?_
    refine zbc rfl rfl ?_
    refine zbc rfl rfl ?_
    refine zbc rfl rfl ?_
    refine zae rfl rfl h2 ?_
    refine zaa (zaj rfl (bFF h9) rfl) ?_
    exact ⟨false, H, ⟨rfl, rfl, rfl, rfl, trivial⟩, trivial⟩
  ·rintro v10 H
   replace H : zcs v1 v10 = some r := H
   unfold zcs at H
   refine zai _ rfl (fun h11 => ?_) (fun h11 => ?_)
   ·replace H := ift h11 H
    refine zab hN rfl ?_
    refine qd rfl ?_
    obtain ⟨l12, h13, H⟩ := bnd H
    refine zaa (zl0 tyU9 rfl rfl rfl h13) ?_
    refine qe rfl ?_
    exact ⟨l12, H, ⟨rfl, rfl, rfl, trivial⟩, trivial⟩
   ·replace H := iff_ h11 H
    refine zan ?_
    exact ⟨v1, H, ⟨rfl, rfl, rfl, trivial⟩, trivial⟩
 ·rintro v14 H
  replace H : zdm v14 = some r := H
  unfold zdm at H
  refine zac ?_
  refine zab hN rfl ?_
  refine qe rfl ?_
  refine zax (ι := Int × Int × Bool) (fun i => [(0, .dat (vstr v14)), (3, .dat (vval (.int .i32 i.1))), (4, .dat (vint i.2.1)), (5, .dat (za2 i.2.2))]) (fun i => []) (fun i => zdl v14 i.1 i.2.1 i.2.2 = some r) (fun i => rfl) ?_ ?_
  ·skip
   refine zax (ι := Bool) (fun i => [(0, .dat (vstr v14)), (3, .dat (vval (.int .i32 94))), (4, .dat (vint 0)), (5, .dat (za2 false)), (46, .dat (za2 i))]) (fun i => []) (fun i => zbr v14 i = some r) (fun i => rfl) ?_ ?_
   ·skip
    refine zab hN rfl ?_
    refine qd rfl ?_
    refine zaa (za5 tyU9 rfl) ?_
    refine zaa (zi7 rfl rfl) ?_
    refine qd rfl ?_
    refine zaz (j := 3) rfl rfl (fun h15 => ?_) (fun h15 => ?_) rfl
    ·have h16 := un1 h15
     replace H := ift h16 H
     refine zam rfl rfl h15 (zah (.dat _) rfl) ?_
     obtain ⟨x17, h18, H⟩ := bnd H
     refine zam rfl rfl h15 (zgg tyU9 rfl rfl h18) ?_
     refine zam rfl rfl h15 (zb6 rfl rfl) ?_
     refine zaa (zas rfl (bTT h16) rfl) ?_
     refine qd rfl ?_
     refine zaz (j := 8) rfl rfl (fun h19 => ?_) (fun h19 => ?_) rfl
     ·have h20 := un1 h19
      replace H := ift h20 H
      refine zam rfl rfl h19 (zah (.dat _) rfl) ?_
      obtain ⟨x21, h22, H⟩ := bnd H
      refine zam rfl rfl h19 (zgg tyU9 rfl rfl h22) ?_
      obtain ⟨r23, h24, H⟩ := bnd H
      refine zam rfl rfl h19 (zak (zbi (x21.toNat : Int) r23 h24) ⟨.inl rfl, trivial⟩) ?_
      refine zam rfl rfl h19 (zb6 rfl rfl) ?_
      refine zam rfl rfl h19 (zah (.dat _) rfl) ?_
      refine zaz (j := 13) rfl rfl (fun h25 => ?_) (fun h25 => ?_) rfl
      ·have h26 := un3 h25
       replace H := iff_ h26 H
       refine zam rfl rfl h25 (zah (.dat _) rfl) ?_
       refine zam rfl rfl h25 (zgg tyU9 rfl rfl h22) ?_
       obtain ⟨r27, h28, H⟩ := bnd H
       refine zam rfl rfl h25 (zak (zbi (x21.toNat : Int) r27 h28) ⟨.inl rfl, trivial⟩) ?_
       refine zam rfl rfl h25 (zb6 rfl rfl) ?_
       refine zam rfl rfl h19 (zaj rfl (bFF h26) rfl) ?_
       refine zam rfl rfl h19 (zah (.dat _) rfl) ?_
       refine zaz (j := 19) rfl rfl (fun h29 => ?_) (fun h29 => ?_) rfl
       ·have h30 := un3 h29
        replace H := iff_ h30 H
        refine zam rfl rfl h29 (zah (.dat _) rfl) ?_
        refine zam rfl rfl h29 (zgg tyU9 rfl rfl h22) ?_
        obtain ⟨r31, h32, H⟩ := bnd H
        refine zam rfl rfl h29 (zak (zbi (x21.toNat : Int) r31 h32) ⟨.inl rfl, trivial⟩) ?_
        refine zam rfl rfl h29 (zb6 rfl rfl) ?_
        refine zam rfl rfl h19 (zaj rfl (bFF h30) rfl) ?_
        refine zaa (zas rfl (bTT h20) rfl) ?_
        exact ⟨decide (r31 = 120), H, ⟨rfl, rfl, rfl, rfl, rfl, trivial⟩, trivial⟩
       ·have h33 := un4 h29
        replace H := ift h33 H
        refine zae rfl rfl h29 ?_
        refine zae rfl rfl h29 ?_
        refine zae rfl rfl h29 ?_
        refine zae rfl rfl h29 ?_
        refine zam rfl rfl h19 (zas rfl (bTT h33) rfl) ?_
        refine zaa (zas rfl (bTT h20) rfl) ?_
        exact ⟨true, H, ⟨rfl, rfl, rfl, rfl, rfl, trivial⟩, trivial⟩
      ·have h34 := un4 h25
       replace H := ift h34 H
       refine zae rfl rfl h25 ?_
       refine zae rfl rfl h25 ?_
       refine zae rfl rfl h25 ?_
       refine zae rfl rfl h25 ?_
       refine zam rfl rfl h19 (zas rfl (bTT h34) rfl) ?_
       refine zam rfl rfl h19 (zah (.dat _) rfl) ?_
       refine zae rfl rfl rfl ?_
       refine zae rfl rfl rfl ?_
       refine zae rfl rfl rfl ?_
       refine zae rfl rfl rfl ?_
       refine zam rfl rfl h19 (zas rfl rfl rfl) ?_
       refine zaa (zas rfl (bTT h20) rfl) ?_
       exact ⟨true, H, ⟨rfl, rfl, rfl, rfl, rfl, trivial⟩, trivial⟩
     ·have h35 := un2 h19
      replace H := iff_ h35 H
      refine zae rfl rfl h19 ?_
      refine zae rfl rfl h19 ?_
      refine zae rfl rfl h19 ?_
      refine zae rfl rfl h19 ?_
      refine zae rfl rfl h19 ?_
      refine zbc rfl rfl ?_
      refine zbc rfl rfl ?_
      refine zbc rfl rfl ?_
      refine zbc rfl rfl ?_
      refine zae rfl rfl h19 ?_
      refine zae rfl rfl h19 ?_
      refine zbc rfl rfl ?_
      refine zbc rfl rfl ?_
      refine zbc rfl rfl ?_
      refine zbc rfl rfl ?_
      refine zae rfl rfl h19 ?_
      refine zaa (zaj rfl (bFF h35) rfl) ?_
      exact ⟨false, H, ⟨rfl, rfl, rfl, rfl, rfl, trivial⟩, trivial⟩
    ·have h36 := un2 h15
     replace H := iff_ h36 H
     refine zae rfl rfl h15 ?_
     refine zae rfl rfl h15 ?_
     refine zae rfl rfl h15 ?_
     refine zaa (zaj rfl (bFF h36) rfl) ?_
     refine qd rfl ?_
     refine zae rfl rfl rfl ?_
     refine zae rfl rfl rfl ?_
     refine zae rfl rfl rfl ?_
     refine zae rfl rfl rfl ?_
     refine zae rfl rfl rfl ?_
     refine zbc rfl rfl ?_
     refine zbc rfl rfl ?_
     refine zbc rfl rfl ?_
     refine zbc rfl rfl ?_
     refine zae rfl rfl rfl ?_
     refine zae rfl rfl rfl ?_
     refine zbc rfl rfl ?_
     refine zbc rfl rfl ?_
     refine zbc rfl rfl ?_
     refine zbc rfl rfl ?_
     refine zae rfl rfl rfl ?_
     refine zaa (zaj rfl rfl rfl) ?_
     exact ⟨false, H, ⟨rfl, rfl, rfl, rfl, rfl, trivial⟩, trivial⟩
   ·rintro v37 H
    replace H : zbr v14 v37 = some r := H
    unfold zbr at H
    refine zai _ rfl (fun h38 => ?_) (fun h38 => ?_)
    ·replace H := ift h38 H
     refine zac ?_
     refine zab hN rfl ?_
     refine qe rfl ?_
     refine zac ?_
     refine zab hN rfl ?_
     refine qe rfl ?_
     refine zab hN rfl ?_
     refine qd rfl ?_
     obtain ⟨x39, h40, H⟩ := bnd H
     refine zaa (zgg tyU9 rfl rfl h40) ?_
     obtain ⟨r41, h42, H⟩ := bnd H
     refine zaa (zak (zbi (x39.toNat : Int) r41 h42) ⟨.inl rfl, trivial⟩) ?_
     refine zaa (zb6 rfl rfl) ?_
     refine qe rfl ?_
     exact ⟨(48, 2, decide (r41 = 120)), H, ⟨rfl, rfl, rfl, rfl, trivial⟩, trivial⟩
    ·replace H := iff_ h38 H
     refine zan ?_
     exact ⟨(94, 0, false), H, ⟨rfl, rfl, rfl, rfl, trivial⟩, trivial⟩
  ·rintro ⟨v43, v44, v45⟩ H
   replace H : zdl v14 v43 v44 v45 = some r := H
   unfold zdl at H
   refine zax (ι := Int) (fun i => [(3, .dat (vval (.int .i32 i)))]) (fun i => []) (fun i => zfb i = some r) (fun i => rfl) ?_ ?_
   ·skip
    refine zat ?_
    refine zlf (fun (s : Int × Int) => [(0, .dat (vstr v14)), (3, .dat (vval (.int .i32 s.1))), (4, .dat (vint s.2)), (5, .dat (za2 v45))]) (fun (s : Int × Int) => []) (v43, v44) H ⟨rfl, rfl, rfl, rfl, trivial⟩ trivial (fun _ => rfl) ?_
    rintro ⟨v46, v47⟩ q48 H hq48
    replace H : zhs v14 v45 v46 v47 = some q48 := H
    unfold zhs at H
    refine zac ?_
    refine zac ?_
    refine zab hN rfl ?_
    refine qd rfl ?_
    refine qd rfl ?_
    refine zaa (za5 tyU9 rfl) ?_
    refine zaa (za3 rfl rfl) ?_
    refine zai _ rfl (fun h49 => ?_) (fun h49 => ?_)
    ·replace H := ift h49 H
     refine zan ?_
     refine zax (ι := Int) (fun i => [(0, .dat (vstr v14)), (3, .dat (vval (.int .i32 i))), (4, .dat (vint v47)), (5, .dat (za2 v45))]) (fun i => []) (fun i => zcr v47 i = some q48) (fun i => rfl) ?_ ?_
     ·skip
      refine zat ?_
      refine zac ?_
      refine zax (ι := Bool) (fun i => [(0, .dat (vstr v14)), (3, .dat (vval (.int .i32 v46))), (4, .dat (vint v47)), (5, .dat (za2 v45)), (83, .dat (za2 i))]) (fun i => []) (fun i => zbh v14 v46 v47 i = some q48) (fun i => rfl) ?_ ?_
      ·skip
       refine zab hN rfl ?_
       refine qd rfl ?_
       refine qd rfl ?_
       obtain ⟨x50, h51, H⟩ := bnd H
       refine zaa (zli tyU9 rfl rfl h51) ?_
       refine zaa (zhp rfl rfl) ?_
       refine qd rfl ?_
       refine zaz (j := 4) rfl rfl (fun h52 => ?_) (fun h52 => ?_) rfl
       ·have h53 := un1 h52
        replace H := ift h53 H
        refine zam rfl rfl h52 (zah (.dat _) rfl) ?_
        refine zam rfl rfl h52 (zah (.dat _) rfl) ?_
        refine zam rfl rfl h52 (zli tyU9 rfl rfl h51) ?_
        refine zam rfl rfl h52 (zhp rfl rfl) ?_
        refine zaa (zas rfl (bTT h53) rfl) ?_
        refine qd rfl ?_
        refine zaz (j := 10) rfl rfl (fun h54 => ?_) (fun h54 => ?_) rfl
        ·have h55 := un3 h54
         replace H := iff_ h55 H
         refine zam rfl rfl h54 (zah (.dat _) rfl) ?_
         refine zam rfl rfl h54 (zah (.dat _) rfl) ?_
         refine zaz (j := 12) rfl rfl (fun h56 => ?_) (fun h56 => ?_) rfl
         ·have h57 := un1 h56
          replace H := ift h57 H
          refine zam rfl rfl h56 (zah (.dat _) rfl) ?_
          refine zam rfl rfl h56 (zah (.dat _) rfl) ?_
          refine zam rfl rfl h56 (zli tyU9 rfl rfl h51) ?_
          obtain ⟨r58, h59, H⟩ := bnd H
          refine zam rfl rfl h56 (zak (zbi (x50.toNat : Int) r58 h59) ⟨.inl rfl, trivial⟩) ?_
          refine zam rfl rfl h56 (zhp rfl rfl) ?_
          refine zam rfl rfl h54 (zas rfl (bTT h57) rfl) ?_
          refine zam rfl rfl h54 (zah (.dat _) rfl) ?_
          refine zaz (j := 19) rfl rfl (fun h60 => ?_) (fun h60 => ?_) rfl
          ·have h61 := un1 h60
           replace H := ift h61 H
           refine zam rfl rfl h60 (zah (.dat _) rfl) ?_
           refine zam rfl rfl h60 (zah (.dat _) rfl) ?_
           refine zam rfl rfl h60 (zli tyU9 rfl rfl h51) ?_
           obtain ⟨r62, h63, H⟩ := bnd H
           refine zam rfl rfl h60 (zak (zbi (x50.toNat : Int) r62 h63) ⟨.inl rfl, trivial⟩) ?_
           refine zam rfl rfl h60 (zhp rfl rfl) ?_
           refine zam rfl rfl h54 (zas rfl (bTT h61) rfl) ?_
           refine zaa (zaj rfl (bFF h55) rfl) ?_
           exact ⟨decide (r62 ≤ 102), H, ⟨rfl, rfl, rfl, rfl, rfl, trivial⟩, trivial⟩
          ·have h64 := un2 h60
           replace H := iff_ h64 H
           refine zae rfl rfl h60 ?_
           refine zae rfl rfl h60 ?_
           refine zae rfl rfl h60 ?_
           refine zae rfl rfl h60 ?_
           refine zae rfl rfl h60 ?_
           refine zam rfl rfl h54 (zaj rfl (bFF h64) rfl) ?_
           refine zaa (zaj rfl (bFF h55) rfl) ?_
           exact ⟨false, H, ⟨rfl, rfl, rfl, rfl, rfl, trivial⟩, trivial⟩
         ·have h65 := un2 h56
          replace H := iff_ h65 H
          refine zae rfl rfl h56 ?_
          refine zae rfl rfl h56 ?_
          refine zae rfl rfl h56 ?_
          refine zae rfl rfl h56 ?_
          refine zae rfl rfl h56 ?_
          refine zam rfl rfl h54 (zaj rfl (bFF h65) rfl) ?_
          refine zam rfl rfl h54 (zah (.dat _) rfl) ?_
          refine zae rfl rfl rfl ?_
          refine zae rfl rfl rfl ?_
          refine zae rfl rfl rfl ?_
          refine zae rfl rfl rfl ?_
          refine zae rfl rfl rfl ?_
          refine zam rfl rfl h54 (zaj rfl rfl rfl) ?_
          refine zaa (zaj rfl (bFF h55) rfl) ?_
          exact ⟨false, H, ⟨rfl, rfl, rfl, rfl, rfl, trivial⟩, trivial⟩
        ·have h66 := un4 h54
         replace H := ift h66 H
         refine zae rfl rfl h54 ?_
         refine zae rfl rfl h54 ?_
         refine zbc rfl rfl ?_
         refine zbc rfl rfl ?_
         refine zbc rfl rfl ?_
         refine zbc rfl rfl ?_
         refine zbc rfl rfl ?_
         refine zae rfl rfl h54 ?_
         refine zae rfl rfl h54 ?_
         refine zbc rfl rfl ?_
         refine zbc rfl rfl ?_
         refine zbc rfl rfl ?_
         refine zbc rfl rfl ?_
         refine zbc rfl rfl ?_
         refine zae rfl rfl h54 ?_
         refine zaa (zas rfl (bTT h66) rfl) ?_
         exact ⟨true, H, ⟨rfl, rfl, rfl, rfl, rfl, trivial⟩, trivial⟩
       ·have h67 := un2 h52
        replace H := iff_ h67 H
        refine zae rfl rfl h52 ?_
        refine zae rfl rfl h52 ?_
        refine zae rfl rfl h52 ?_
        refine zae rfl rfl h52 ?_
        refine zaa (zaj rfl (bFF h67) rfl) ?_
        refine qd rfl ?_
        refine zam rfl rfl rfl (zah (.dat _) rfl) ?_
        refine zam rfl rfl rfl (zah (.dat _) rfl) ?_
        refine zaz (j := 12) rfl rfl (fun h68 => ?_) (fun h68 => ?_) rfl
        ·have h69 := un1 h68
         replace H := ift h69 H
         refine zam rfl rfl h68 (zah (.dat _) rfl) ?_
         refine zam rfl rfl h68 (zah (.dat _) rfl) ?_
         refine zam rfl rfl h68 (zli tyU9 rfl rfl h51) ?_
         obtain ⟨r70, h71, H⟩ := bnd H
         refine zam rfl rfl h68 (zak (zbi (x50.toNat : Int) r70 h71) ⟨.inl rfl, trivial⟩) ?_
         refine zam rfl rfl h68 (zhp rfl rfl) ?_
         refine zam rfl rfl rfl (zas rfl (bTT h69) rfl) ?_
         refine zam rfl rfl rfl (zah (.dat _) rfl) ?_
         refine zaz (j := 19) rfl rfl (fun h72 => ?_) (fun h72 => ?_) rfl
         ·have h73 := un1 h72
          replace H := ift h73 H
          refine zam rfl rfl h72 (zah (.dat _) rfl) ?_
          refine zam rfl rfl h72 (zah (.dat _) rfl) ?_
          refine zam rfl rfl h72 (zli tyU9 rfl rfl h51) ?_
          obtain ⟨r74, h75, H⟩ := bnd H
          refine zam rfl rfl h72 (zak (zbi (x50.toNat : Int) r74 h75) ⟨.inl rfl, trivial⟩) ?_
          refine zam rfl rfl h72 (zhp rfl rfl) ?_
          refine zam rfl rfl rfl (zas rfl (bTT h73) rfl) ?_
          refine zaa (zaj rfl rfl rfl) ?_
          exact ⟨decide (r74 ≤ 102), H, ⟨rfl, rfl, rfl, rfl, rfl, trivial⟩, trivial⟩
         ·have h76 := un2 h72
          replace H := iff_ h76 H
          refine zae rfl rfl h72 ?_
          refine zae rfl rfl h72 ?_
          refine zae rfl rfl h72 ?_
          refine zae rfl rfl h72 ?_
          refine zae rfl rfl h72 ?_
          refine zam rfl rfl rfl (zaj rfl (bFF h76) rfl) ?_
          refine zaa (zaj rfl rfl rfl) ?_
          exact ⟨false, H, ⟨rfl, rfl, rfl, rfl, rfl, trivial⟩, trivial⟩
        ·have h77 := un2 h68
         replace H := iff_ h77 H
         refine zae rfl rfl h68 ?_
         refine zae rfl rfl h68 ?_
         refine zae rfl rfl h68 ?_
         refine zae rfl rfl h68 ?_
         refine zae rfl rfl h68 ?_
         refine zam rfl rfl rfl (zaj rfl (bFF h77) rfl) ?_
         refine zam rfl rfl rfl (zah (.dat _) rfl) ?_
         refine zae rfl rfl rfl ?_
         refine zae rfl rfl rfl ?_
         refine zae rfl rfl rfl ?_
         refine zae rfl rfl rfl ?_
         refine zae rfl rfl rfl ?_
         refine zam rfl rfl rfl (zaj rfl rfl rfl) ?_
         refine zaa (zaj rfl rfl rfl) ?_
         exact ⟨false, H, ⟨rfl, rfl, rfl, rfl, rfl, trivial⟩, trivial⟩
      ·rintro v78 H
       replace H : zbh v14 v46 v47 v78 = some q48 := H
       unfold zbh at H
       refine zai _ rfl (fun h79 => ?_) (fun h79 => ?_)
       ·replace H := ift h79 H
        refine zac ?_
        refine zab hN rfl ?_
        refine qe rfl ?_
        refine zbp ?_
        exact ⟨48, H, ⟨rfl, rfl, rfl, rfl, trivial⟩, trivial⟩
       ·replace H := iff_ h79 H
        refine zan ?_
        refine zac ?_
        refine zac ?_
        refine zab hN rfl ?_
        refine qd rfl ?_
        refine qd rfl ?_
        obtain ⟨x80, h81, H⟩ := bnd H
        refine zaa (zli tyU9 rfl rfl h81) ?_
        refine zaa (zb6 rfl rfl) ?_
        refine zai _ rfl (fun h82 => ?_) (fun h82 => ?_)
        ·replace H := ift h82 H
         refine zac ?_
         refine zac ?_
         refine zab hN rfl ?_
         refine qd rfl ?_
         refine zaa (zfw rfl rfl) ?_
         refine zai _ rfl (fun h83 => ?_) (fun h83 => ?_)
         ·replace H := ift h83 H
          refine zac ?_
          refine zab hN rfl ?_
          refine qe rfl ?_
          refine zap ?_
          replace H := retl H hq48
          cases H
          exact ⟨trivial, .inl rfl, trivial⟩
         ·replace H := iff_ h83 H
          refine zan ?_
          refine zac ?_
          refine zab hN rfl ?_
          refine qe rfl ?_
          refine zbp ?_
          exact ⟨95, H, ⟨rfl, rfl, rfl, rfl, trivial⟩, trivial⟩
        ·replace H := iff_ h82 H
         refine zan ?_
         refine zac ?_
         refine zac ?_
         refine zab hN rfl ?_
         refine qd rfl ?_
         refine zaa (zb6 rfl rfl) ?_
         refine zai _ rfl (fun h84 => ?_) (fun h84 => ?_)
         ·replace H := ift h84 H
          refine zac ?_
          refine zab hN rfl ?_
          refine qe rfl ?_
          refine zap ?_
          replace H := retl H hq48
          cases H
          exact ⟨trivial, .inl rfl, trivial⟩
         ·replace H := iff_ h84 H
          refine zan ?_
          refine zab hN rfl ?_
          refine qe rfl ?_
          exact ⟨33, H, ⟨rfl, rfl, rfl, rfl, trivial⟩, trivial⟩
     ·rintro v85 H
      replace H : zcr v47 v85 = some q48 := H
      unfold zcr at H
      refine zab hN rfl ?_
      refine qd rfl ?_
      refine zaa (za8 _ rfl rfl (.inl ⟨rfl, rfl⟩)) ?_
      refine qe rfl ?_
      exact ⟨_, zio H, ⟨rfl, rfl, rfl, rfl, trivial⟩, trivial⟩
    ·replace H := iff_ h49 H
     refine zbp ?_
     replace H := outl H hq48
     exact ⟨v46, H, ⟨rfl, trivial⟩, trivial⟩
   ·rintro v86 H
    replace H : zfb v86 = some r := H
    unfold zfb at H
    refine zac ?_
    refine zab hN rfl ?_
    refine qd rfl ?_
    refine zaa (zfw rfl rfl) ?_
    refine qe rfl ?_
    refine zap ?_
    cases H
    exact ⟨trivial, .inl rfl, trivial⟩
theorem zld (v1 : Bs) (v2 : Int) (v3 : Int) (r : (Int × Int)) (H : zdi v1 v2 v3 = some r) : Fn Tryz.prog 194 [vstr v1, vint v2, vint v3] (zbe [vval (.int .u64 r.1), verr r.2]) := by
 refine ⟨by kernel_rfl, za7 (us := [vval (.int .u64 r.1), verr r.2]) Tryz.func194 rfl rfl rfl rfl fun X hN => ?_⟩
 unfold zdi at H
 refine zac ?_
 refine zab hN rfl ?_
 refine qe rfl ?_
 refine qe rfl ?_
 refine zac ?_
 refine zac ?_
 refine zab hN rfl ?_
 refine qd rfl ?_
 refine zaa (zdw rfl rfl) ?_
 refine zai _ rfl (fun h4 => ?_) (fun h4 => ?_)
 ·replace H := ift h4 H
  refine zac ?_
  refine zab hN rfl ?_
  refine zaa (za4 (u' := verr 2) (zjt (show Tryz.prog.underlying 196 = some (.int .i64) from by kernel_rfl) rfl) rfl) ?_
  refine qe rfl ?_
  refine qe rfl ?_
  refine zap ?_
  cases H
  exact ⟨trivial, .inl rfl, .inl rfl, trivial⟩
 ·replace H := iff_ h4 H
  refine zan ?_
  refine zac ?_
  refine zab hN rfl ?_
  refine qd rfl ?_
  refine zaa (zb6 rfl rfl) ?_
  refine qe rfl ?_
  refine zac ?_
  refine zab hN rfl ?_
  refine qd rfl ?_
  refine qe rfl ?_
  refine zax (ι := Bs × Int) (fun i => [(0, .dat (vstr i.1)), (1, .dat (vint i.2)), (2, .dat (vint v3)), (8, .dat (za2 (decide (v2 = 0)))), (9, .dat (vstr v1))]) (fun i => []) (fun i => zbu v1 v2 v3 i.1 i.2 = some r) (fun i => rfl) ?_ ?_
  ·skip
   refine zat ?_
   refine zac ?_
   refine zab hN rfl ?_
   refine qd rfl ?_
   refine zaa (zhp rfl rfl) ?_
   refine qd rfl ?_
   refine zig rfl rfl (fun hc => zah (.dat _) rfl) ?_
   refine zig rfl rfl (fun hc => zhp (cnd (c := (decide (2 ≤ v2))) hc) rfl) ?_
   refine zaa (zco rfl (fun hb => (cnd (c := (decide (2 ≤ v2))) hb)) rfl) ?_
   refine qe rfl ?_
   refine zai _ rfl (fun h5 => ?_) (fun h5 => ?_)
   ·replace H := ift h5 H
    refine zan ?_
    exact ⟨(v1, v2), H, ⟨rfl, rfl, rfl, rfl, rfl, trivial⟩, trivial⟩
   ·replace H := iff_ h5 H
    refine zac ?_
    refine zab hN rfl ?_
    refine qd rfl ?_
    refine zaa (zb6 rfl rfl) ?_
    refine qe rfl ?_
    refine zai _ rfl (fun h6 => ?_) (fun h6 => ?_)
    ·replace H := ift h6 H
     refine zac ?_
     refine zab hN rfl ?_
     refine qe rfl ?_
     refine zac ?_
     refine zab hN rfl ?_
     refine qd rfl ?_
     obtain ⟨x7, h8, H⟩ := bnd H
     refine zaa (zgg tyU9 rfl rfl h8) ?_
     refine zaa (zb6 rfl rfl) ?_
     refine zai _ rfl (fun h9 => ?_) (fun h9 => ?_)
     ·replace H := ift h9 H
      refine zat ?_
      refine zax (ι := Bool) (fun i => [(0, .dat (vstr v1)), (2, .dat (vint v3)), (8, .dat (za2 (decide (v2 = 0)))), (9, .dat (vstr v1)), (40, .dat (za2 i))]) (fun i => []) (fun i => zeb v1 v2 v3 i = some r) (fun i => rfl) ?_ ?_
      ·skip
       refine zab hN rfl ?_
       refine qd rfl ?_
       refine zaa (za5 tyU9 rfl) ?_
       refine zaa (zi7 rfl rfl) ?_
       refine qd rfl ?_
       refine zaz (j := 3) rfl rfl (fun h10 => ?_) (fun h10 => ?_) rfl
       ·have h11 := un1 h10
        replace H := ift h11 H
        refine zam rfl rfl h10 (zah (.dat _) rfl) ?_
        obtain ⟨x12, h13, H⟩ := bnd H
        refine zam rfl rfl h10 (zgg tyU9 rfl rfl h13) ?_
        obtain ⟨r14, h15, H⟩ := bnd H
        refine zam rfl rfl h10 (zak (zbi (x12.toNat : Int) r14 h15) ⟨.inl rfl, trivial⟩) ?_
        refine zam rfl rfl h10 (zb6 rfl rfl) ?_
        refine zaa (zas rfl (bTT h11) rfl) ?_
        refine qe rfl ?_
        exact ⟨decide (r14 = 98), H, ⟨rfl, rfl, rfl, rfl, rfl, trivial⟩, trivial⟩
       ·have h16 := un2 h10
        replace H := iff_ h16 H
        refine zae rfl rfl h10 ?_
        refine zae rfl rfl h10 ?_
        refine zae rfl rfl h10 ?_
        refine zae rfl rfl h10 ?_
        refine zaa (zaj rfl (bFF h16) rfl) ?_
        refine qe rfl ?_
        exact ⟨false, H, ⟨rfl, rfl, rfl, rfl, rfl, trivial⟩, trivial⟩
      ·rintro v17 H
       replace H : zeb v1 v2 v3 v17 = some r := H
       unfold zeb at H
       refine zai _ rfl (fun h18 => ?_) (fun h18 => ?_)
       ·replace H := ift h18 H
        refine zac ?_
        refine zab hN rfl ?_
        refine qe rfl ?_
        refine zab hN rfl ?_
        refine qd rfl ?_
        obtain ⟨l19, h20, H⟩ := bnd H
        refine zaa (zl0 tyU9 rfl rfl rfl h20) ?_
        refine qe rfl ?_
        exact ⟨(l19, 2), H, ⟨rfl, rfl, rfl, rfl, rfl, trivial⟩, trivial⟩
       ·replace H := iff_ h18 H
        refine zax (ι := Bool) (fun i => [(0, .dat (vstr v1)), (2, .dat (vint v3)), (8, .dat (za2 (decide (v2 = 0)))), (9, .dat (vstr v1)), (52, .dat (za2 i))]) (fun i => []) (fun i => zea v1 v2 v3 i = some r) (fun i => rfl) ?_ ?_
        ·skip
         refine zab hN rfl ?_
         refine qd rfl ?_
         refine zaa (za5 tyU9 rfl) ?_
         refine zaa (zi7 rfl rfl) ?_
         refine qd rfl ?_
         refine zaz (j := 3) rfl rfl (fun h21 => ?_) (fun h21 => ?_) rfl
         ·have h22 := un1 h21
          replace H := ift h22 H
          refine zam rfl rfl h21 (zah (.dat _) rfl) ?_
          obtain ⟨x23, h24, H⟩ := bnd H
          refine zam rfl rfl h21 (zgg tyU9 rfl rfl h24) ?_
          obtain ⟨r25, h26, H⟩ := bnd H
          refine zam rfl rfl h21 (zak (zbi (x23.toNat : Int) r25 h26) ⟨.inl rfl, trivial⟩) ?_
          refine zam rfl rfl h21 (zb6 rfl rfl) ?_
          refine zaa (zas rfl (bTT h22) rfl) ?_
          refine qe rfl ?_
          exact ⟨decide (r25 = 111), H, ⟨rfl, rfl, rfl, rfl, rfl, trivial⟩, trivial⟩
         ·have h27 := un2 h21
          replace H := iff_ h27 H
          refine zae rfl rfl h21 ?_
          refine zae rfl rfl h21 ?_
          refine zae rfl rfl h21 ?_
          refine zae rfl rfl h21 ?_
          refine zaa (zaj rfl (bFF h27) rfl) ?_
          refine qe rfl ?_
          exact ⟨false, H, ⟨rfl, rfl, rfl, rfl, rfl, trivial⟩, trivial⟩
        ·rintro v28 H
         replace H : zea v1 v2 v3 v28 = some r := H
         unfold zea at H
         refine zai _ rfl (fun h29 => ?_) (fun h29 => ?_)
         ·replace H := ift h29 H
          refine zac ?_
          refine zab hN rfl ?_
          refine qe rfl ?_
          refine zab hN rfl ?_
          refine qd rfl ?_
          obtain ⟨l30, h31, H⟩ := bnd H
          refine zaa (zl0 tyU9 rfl rfl rfl h31) ?_
          refine qe rfl ?_
          exact ⟨(l30, 8), H, ⟨rfl, rfl, rfl, rfl, rfl, trivial⟩, trivial⟩
         ·replace H := iff_ h29 H
          refine zax (ι := Bool) (fun i => [(0, .dat (vstr v1)), (2, .dat (vint v3)), (8, .dat (za2 (decide (v2 = 0)))), (9, .dat (vstr v1)), (64, .dat (za2 i))]) (fun i => []) (fun i => zd9 v1 v2 v3 i = some r) (fun i => rfl) ?_ ?_
          ·skip
           refine zab hN rfl ?_
           refine qd rfl ?_
           refine zaa (za5 tyU9 rfl) ?_
           refine zaa (zi7 rfl rfl) ?_
           refine qd rfl ?_
           refine zaz (j := 3) rfl rfl (fun h32 => ?_) (fun h32 => ?_) rfl
           ·have h33 := un1 h32
            replace H := ift h33 H
            refine zam rfl rfl h32 (zah (.dat _) rfl) ?_
            obtain ⟨x34, h35, H⟩ := bnd H
            refine zam rfl rfl h32 (zgg tyU9 rfl rfl h35) ?_
            obtain ⟨r36, h37, H⟩ := bnd H
            refine zam rfl rfl h32 (zak (zbi (x34.toNat : Int) r36 h37) ⟨.inl rfl, trivial⟩) ?_
            refine zam rfl rfl h32 (zb6 rfl rfl) ?_
            refine zaa (zas rfl (bTT h33) rfl) ?_
            refine qe rfl ?_
            exact ⟨decide (r36 = 120), H, ⟨rfl, rfl, rfl, rfl, rfl, trivial⟩, trivial⟩
           ·have h38 := un2 h32
            replace H := iff_ h38 H
            refine zae rfl rfl h32 ?_
            refine zae rfl rfl h32 ?_
            refine zae rfl rfl h32 ?_
            refine zae rfl rfl h32 ?_
            refine zaa (zaj rfl (bFF h38) rfl) ?_
            refine qe rfl ?_
            exact ⟨false, H, ⟨rfl, rfl, rfl, rfl, rfl, trivial⟩, trivial⟩
          ·rintro v39 H
           replace H : zd9 v1 v2 v3 v39 = some r := H
           unfold zd9 at H
           refine zai _ rfl (fun h40 => ?_) (fun h40 => ?_)
           ·replace H := ift h40 H
            refine zac ?_
            refine zab hN rfl ?_
            refine qe rfl ?_
            refine zab hN rfl ?_
            refine qd rfl ?_
            obtain ⟨l41, h42, H⟩ := bnd H
            refine zaa (zl0 tyU9 rfl rfl rfl h42) ?_
            refine qe rfl ?_
            exact ⟨(l41, 16), H, ⟨rfl, rfl, rfl, rfl, rfl, trivial⟩, trivial⟩
           ·replace H := iff_ h40 H
            refine zac ?_
            refine zab hN rfl ?_
            refine qe rfl ?_
            refine zab hN rfl ?_
            refine qd rfl ?_
            obtain ⟨l43, h44, H⟩ := bnd H
            refine zaa (zl0 tyU9 rfl rfl rfl h44) ?_
            refine qe rfl ?_
            exact ⟨(l43, 8), H, ⟨rfl, rfl, rfl, rfl, rfl, trivial⟩, trivial⟩
     ·replace H := iff_ h9 H
      refine zan ?_
      exact ⟨(v1, 10), H, ⟨rfl, rfl, rfl, rfl, rfl, trivial⟩, trivial⟩
    ·replace H := iff_ h6 H
     refine zac ?_
     refine zab hN rfl ?_
     refine zaa (za4 (u' := verr 3) (zjt (show Tryz.prog.underlying 196 = some (.int .i64) from by kernel_rfl) rfl) rfl) ?_
     refine qe rfl ?_
     refine qe rfl ?_
     refine zap ?_
     cases H
     exact ⟨trivial, .inl rfl, .inl rfl, trivial⟩
  ·rintro ⟨v45, v46⟩ H
   replace H : zbu v1 v2 v3 v45 v46 = some r := H
   unfold zbu at H
   refine zax (ι := Int) (fun i => [(0, .dat (vstr v45)), (1, .dat (vint v46)), (2, .dat (vint i)), (8, .dat (za2 (decide (v2 = 0)))), (9, .dat (vstr v1))]) (fun i => []) (fun i => zd8 v1 v2 v45 v46 i = some r) (fun i => rfl) ?_ ?_
   ·skip
    refine zac ?_
    refine zab hN rfl ?_
    refine qd rfl ?_
    refine zaa (zb6 rfl rfl) ?_
    refine zai _ rfl (fun h47 => ?_) (fun h47 => ?_)
    ·replace H := ift h47 H
     refine zab hN rfl ?_
     refine qe rfl ?_
     exact ⟨64, H, ⟨rfl, rfl, rfl, rfl, rfl, trivial⟩, trivial⟩
    ·replace H := iff_ h47 H
     refine zac ?_
     refine zab hN rfl ?_
     refine qd rfl ?_
     refine zaa (za3 rfl rfl) ?_
     refine qd rfl ?_
     refine ziq rfl rfl (fun hc => zah (.dat _) rfl) ?_
     refine ziq rfl rfl (fun hc => zg1 (cnd (c := (!(decide (v3 < 0)))) hc) rfl) ?_
     refine zaa (zhz rfl rfl (fun hb => (cnd (c := (!(decide (v3 < 0)))) (notI hb)))) ?_
     refine zai _ rfl (fun h48 => ?_) (fun h48 => ?_)
     ·replace H := ift h48 H
      refine zac ?_
      refine zab hN rfl ?_
      refine zaa (za4 (u' := verr 4) (zjt (show Tryz.prog.underlying 196 = some (.int .i64) from by kernel_rfl) rfl) rfl) ?_
      refine qe rfl ?_
      refine qe rfl ?_
      refine zap ?_
      cases H
      exact ⟨trivial, .inl rfl, .inl rfl, trivial⟩
     ·replace H := iff_ h48 H
      refine zan ?_
      exact ⟨v3, H, ⟨rfl, rfl, rfl, rfl, rfl, trivial⟩, trivial⟩
   ·rintro v49 H
    replace H : zd8 v1 v2 v45 v46 v49 = some r := H
    unfold zd8 at H
    refine zac ?_
    refine zab hN rfl ?_
    refine qe rfl ?_
    refine zax (ι := Int) (fun i => [(0, .dat (vstr v45)), (1, .dat (vint v46)), (2, .dat (vint v49)), (8, .dat (za2 (decide (v2 = 0)))), (9, .dat (vstr v1)), (10, .dat (vval (.int .u64 i)))]) (fun i => []) (fun i => zdd v1 v2 v45 v46 v49 i = some r) (fun i => rfl) ?_ ?_
    ·skip
     refine zac ?_
     refine zab hN rfl ?_
     refine qd rfl ?_
     refine zat ?_
     refine zac ?_
     refine zab hN rfl ?_
     refine zaa (zb6 rfl rfl) ?_
     refine qe rfl ?_
     refine zai _ rfl (fun h50 => ?_) (fun h50 => ?_)
     ·replace H := ift h50 H
      refine zab hN rfl ?_
      refine qe rfl ?_
      exact ⟨1844674407370955162, H, ⟨rfl, rfl, rfl, rfl, rfl, rfl, trivial⟩, trivial⟩
     ·replace H := iff_ h50 H
      refine zac ?_
      refine zab hN rfl ?_
      refine zaa (zb6 rfl rfl) ?_
      refine qe rfl ?_
      refine zai _ rfl (fun h51 => ?_) (fun h51 => ?_)
      ·replace H := ift h51 H
       refine zab hN rfl ?_
       refine qe rfl ?_
       exact ⟨1152921504606846976, H, ⟨rfl, rfl, rfl, rfl, rfl, rfl, trivial⟩, trivial⟩
      ·replace H := iff_ h51 H
       refine zab hN rfl ?_
       refine qd rfl ?_
       refine zaa (zih tyU3 zry rfl) ?_
       obtain ⟨h52, H⟩ := gif H
       refine zaa (z3u rfl rfl h52) ?_
       refine zaa (za8 _ rfl rfl (.inl ⟨rfl, rfl⟩)) ?_
       refine qe rfl ?_
       exact ⟨IntKind.wrap .u64 ((IntKind.wrap .u64 (Int.tdiv 18446744073709551615 (IntKind.wrap .u64 v46))) + 1), H, ⟨rfl, rfl, rfl, rfl, rfl, rfl, trivial⟩, trivial⟩
    ·rintro v53 H
     replace H : zdd v1 v2 v45 v46 v49 v53 = some r := H
     unfold zdd at H
     refine zac ?_
     refine zab hN rfl ?_
     refine qd rfl ?_
     refine zaa (zih tyU3 z3f rfl) ?_
     obtain ⟨h54, H⟩ := gif H
     refine zaa (za4 (z04 rfl rfl h54) rfl) ?_
     refine zaa (za8 _ rfl rfl (.inr (.inl ⟨rfl, rfl⟩))) ?_
     refine qe rfl ?_
     refine zac ?_
     refine zab hN rfl ?_
     refine qe rfl ?_
     refine zac ?_
     refine zab hN rfl ?_
     refine qe rfl ?_
     refine zac ?_
     refine zac ?_
     refine zab hN rfl ?_
     refine qd rfl ?_
     refine zaa (zt0 (C := zcj) tyU9 zwr tyU5 (fun _ => rfl) rfl) ?_
     refine zaa (zks zwr rfl) ?_
     refine qd rfl ?_
     refine zat ?_
     obtain ⟨h59, H⟩ := gif H
     refine zed (fun (k57 : Nat) (s : Bool × Int) => [(1, .dat (vint v46)), (8, .dat (za2 (decide (v2 = 0)))), (9, .dat (vstr v1)), (10, .dat (vval (.int .u64 v53))), (11, .dat (vval (.int .u64 (IntKind.wrap .u64 ((shl_ .u64 1 (IntKind.wrap .u64 v49)) - 1))))), (12, .dat (za2 s.1)), (13, .dat (vval (.int .u64 s.2))), (99, .dat (vlst (List.map zcj (zdv v45)))), (100, .dat (vint ((zdv v45).length : Int))), (101, .dat (vint (k57 : Int)))]) (fun (k57 : Nat) (s : Bool × Int) => []) (false, 0) H ⟨rfl, rfl, rfl, rfl, rfl, rfl, rfl, rfl, rfl, rfl, trivial⟩ trivial (fun _ _ => rfl) ?_ ?_
     ·rintro ⟨v55, v56⟩ H
      replace H : zde v1 v55 v56 = some r := H
      unfold zde at H
      refine zac ?_
      refine zab hN rfl ?_
      refine zaa (za3 rfl rfl) ?_
      refine zac ?_
      refine zai _ rfl (fun h => (lt_t h).elim) (fun h => ?_)
      refine zbp ?_
      refine zac ?_
      refine zax (ι := Bool) (fun i => [(13, .dat (vval (.int .u64 v56))), (169, .dat (za2 i))]) (fun i => []) (fun i => zdc v56 i = some r) (fun i => rfl) ?_ ?_
      ·skip
       refine zab hN rfl ?_
       refine qd rfl ?_
       refine qd rfl ?_
       refine zaz (j := 1) rfl rfl (fun h61 => ?_) (fun h61 => ?_) rfl
       ·have h62 := un1 h61
        replace H := ift h62 H
        refine zam rfl rfl h61 (zah (.dat _) rfl) ?_
        obtain ⟨r63, h64, H⟩ := bnd H
        refine zam rfl rfl h61 (zak (znc v1 r63 h64) ⟨.inl rfl, trivial⟩) ?_
        refine zam rfl rfl h61 (zck rfl) ?_
        refine zaa (zas rfl (bTT h62) rfl) ?_
        exact ⟨!r63, H, ⟨rfl, rfl, trivial⟩, trivial⟩
       ·have h65 := un2 h61
        replace H := iff_ h65 H
        refine zae rfl rfl h61 ?_
        refine zae rfl rfl h61 ?_
        refine zae rfl rfl h61 ?_
        refine zaa (zaj rfl (bFF h65) rfl) ?_
        exact ⟨false, H, ⟨rfl, rfl, trivial⟩, trivial⟩
      ·rintro v66 H
       replace H : zdc v56 v66 = some r := H
       unfold zdc at H
       refine zai _ rfl (fun h67 => ?_) (fun h67 => ?_)
       ·replace H := ift h67 H
        refine zac ?_
        refine zab hN rfl ?_
        refine zaa (za4 (u' := verr 2) (zjt (show Tryz.prog.underlying 196 = some (.int .i64) from by kernel_rfl) rfl) rfl) ?_
        refine qe rfl ?_
        refine qe rfl ?_
        refine zap ?_
        cases H
        exact ⟨trivial, .inl rfl, .inl rfl, trivial⟩
       ·replace H := iff_ h67 H
        refine zan ?_
        refine zac ?_
        refine zab hN rfl ?_
        refine qd rfl ?_
        refine qe rfl ?_
        refine qe rfl ?_
        refine zap ?_
        cases H
        exact ⟨trivial, .inl rfl, .inl rfl, trivial⟩
     ·rintro k57 x60 ⟨v55, v56⟩ q58 h68 h69 H hq58
      replace H : zbt v2 v46 v49 v53 k57 x60 v55 v56 = some q58 := H
      unfold zbt at H
      refine zac ?_
      refine zab hN rfl ?_
      refine zaa (za3 rfl rfl) ?_
      refine zac ?_
      refine zai _ rfl (fun h => ?_) (fun h => (lt_f h68 h).elim)
      refine zan ?_
      refine zax (ι := Bool × Int) (fun i => [(1, .dat (vint v46)), (8, .dat (za2 (decide (v2 = 0)))), (9, .dat (vstr v1)), (10, .dat (vval (.int .u64 v53))), (11, .dat (vval (.int .u64 (IntKind.wrap .u64 ((shl_ .u64 1 (IntKind.wrap .u64 v49)) - 1))))), (12, .dat (za2 i.1)), (13, .dat (vval (.int .u64 i.2))), (99, .dat (vlst (List.map zcj (zdv v45)))), (100, .dat (vint ((zdv v45).length : Int))), (101, .dat (vint (k57 : Int)))]) (fun i => []) (fun i => zd7 i.1 i.2 = some q58) (fun i => rfl) ?_ ?_
      ·skip
       refine zat ?_
       refine zac ?_
       refine zab hN rfl ?_
       refine zaa (zn2 z78 (fun _ => rfl) rfl rfl h69) ?_
       refine zaa (ze9 tyS5 rfl (zjk h69) rfl) ?_
       refine qe rfl ?_
       refine zac ?_
       refine zab hN rfl ?_
       refine qe rfl ?_
       refine zax (ι := Int) (fun i => [(1, .dat (vint v46)), (8, .dat (za2 (decide (v2 = 0)))), (9, .dat (vstr v1)), (10, .dat (vval (.int .u64 v53))), (11, .dat (vval (.int .u64 (IntKind.wrap .u64 ((shl_ .u64 1 (IntKind.wrap .u64 v49)) - 1))))), (12, .dat (za2 v55)), (13, .dat (vval (.int .u64 v56))), (16, .dat (vval (.int .u8 i))), (99, .dat (vlst (List.map zcj (zdv v45)))), (100, .dat (vint ((zdv v45).length : Int))), (101, .dat (vint (k57 : Int)))]) (fun i => []) (fun i => zd2 v46 v49 v53 v55 v56 i = some q58) (fun i => rfl) ?_ ?_
       ·skip
        refine zat ?_
        refine zac ?_
        refine zab hN rfl ?_
        refine qd rfl ?_
        refine zaa (zb6 rfl rfl) ?_
        refine qd rfl ?_
        refine zig rfl rfl (fun hc => zah (.dat _) rfl) ?_
        refine zaa (zco rfl (fun hb => (cnd (c := (decide (x60 = 95))) hb)) rfl) ?_
        refine qe rfl ?_
        refine zai _ rfl (fun h70 => ?_) (fun h70 => ?_)
        ·replace H := ift h70 H
         refine zac ?_
         refine zab hN rfl ?_
         refine qe rfl ?_
         refine zbp ?_
         exact ⟨(true, v56), H, ⟨rfl, rfl, rfl, rfl, rfl, rfl, rfl, rfl, rfl, rfl, trivial⟩, trivial⟩
        ·replace H := iff_ h70 H
         refine zac ?_
         refine zab hN rfl ?_
         refine qd rfl ?_
         refine zaa (zhp rfl rfl) ?_
         refine qd rfl ?_
         refine zig rfl rfl (fun hc => zah (.dat _) rfl) ?_
         refine zig rfl rfl (fun hc => zhp (cnd (c := (decide (48 ≤ x60))) hc) rfl) ?_
         refine zaa (zco rfl (fun hb => (cnd (c := (decide (48 ≤ x60))) hb)) rfl) ?_
         refine qe rfl ?_
         refine zai _ rfl (fun h71 => ?_) (fun h71 => ?_)
         ·replace H := ift h71 H
          refine zab hN rfl ?_
          refine qd rfl ?_
          refine zaa (za8 _ rfl rfl (.inr (.inl ⟨rfl, rfl⟩))) ?_
          refine qe rfl ?_
          exact ⟨IntKind.wrap .u8 (x60 - 48), H, ⟨rfl, rfl, rfl, rfl, rfl, rfl, rfl, rfl, rfl, rfl, rfl, trivial⟩, trivial⟩
         ·replace H := iff_ h71 H
          refine zax (ι := Bool) (fun i => [(1, .dat (vint v46)), (8, .dat (za2 (decide (v2 = 0)))), (9, .dat (vstr v1)), (10, .dat (vval (.int .u64 v53))), (11, .dat (vval (.int .u64 (IntKind.wrap .u64 ((shl_ .u64 1 (IntKind.wrap .u64 v49)) - 1))))), (12, .dat (za2 v55)), (13, .dat (vval (.int .u64 v56))), (15, .dat (vval (.int .u8 x60))), (99, .dat (vlst (List.map zcj (zdv v45)))), (100, .dat (vint ((zdv v45).length : Int))), (101, .dat (vint (k57 : Int))), (121, .dat (za2 i))]) (fun i => []) (fun i => zd1 v46 v49 v53 v55 v56 x60 i = some q58) (fun i => rfl) ?_ ?_
          ·skip
           refine zab hN rfl ?_
           refine qd rfl ?_
           obtain ⟨r72, h73, H⟩ := bnd H
           refine zaa (zak (zbi x60 r72 h73) ⟨.inl rfl, trivial⟩) ?_
           refine zaa (zhp rfl rfl) ?_
           refine qd rfl ?_
           refine zaz (j := 3) rfl rfl (fun h74 => ?_) (fun h74 => ?_) rfl
           ·have h75 := un1 h74
            replace H := ift h75 H
            refine zam rfl rfl h74 (zah (.dat _) rfl) ?_
            obtain ⟨r76, h77, H⟩ := bnd H
            refine zam rfl rfl h74 (zak (zbi x60 r76 h77) ⟨.inl rfl, trivial⟩) ?_
            refine zam rfl rfl h74 (zhp rfl rfl) ?_
            refine zaa (zas rfl (bTT h75) rfl) ?_
            refine qe rfl ?_
            exact ⟨decide (r76 ≤ 122), H, ⟨rfl, rfl, rfl, rfl, rfl, rfl, rfl, rfl, rfl, rfl, rfl, rfl, trivial⟩, trivial⟩
           ·have h78 := un2 h74
            replace H := iff_ h78 H
            refine zae rfl rfl h74 ?_
            refine zae rfl rfl h74 ?_
            refine zae rfl rfl h74 ?_
            refine zaa (zaj rfl (bFF h78) rfl) ?_
            refine qe rfl ?_
            exact ⟨false, H, ⟨rfl, rfl, rfl, rfl, rfl, rfl, rfl, rfl, rfl, rfl, rfl, rfl, trivial⟩, trivial⟩
          ·rintro v79 H
           replace H : zd1 v46 v49 v53 v55 v56 x60 v79 = some q58 := H
           unfold zd1 at H
           refine zai _ rfl (fun h80 => ?_) (fun h80 => ?_)
           ·replace H := ift h80 H
            refine zab hN rfl ?_
            refine qd rfl ?_
            obtain ⟨r81, h82, H⟩ := bnd H
            refine zaa (zak (zbi x60 r81 h82) ⟨.inl rfl, trivial⟩) ?_
            refine zaa (za8 _ rfl rfl (.inr (.inl ⟨rfl, rfl⟩))) ?_
            refine zaa (za8 _ rfl rfl (.inl ⟨rfl, rfl⟩)) ?_
            refine qe rfl ?_
            exact ⟨IntKind.wrap .u8 ((IntKind.wrap .u8 (r81 - 97)) + 10), H, ⟨rfl, rfl, rfl, rfl, rfl, rfl, rfl, rfl, rfl, rfl, rfl, trivial⟩, trivial⟩
           ·replace H := iff_ h80 H
            refine zac ?_
            refine zab hN rfl ?_
            refine zaa (za4 (u' := verr 2) (zjt (show Tryz.prog.underlying 196 = some (.int .i64) from by kernel_rfl) rfl) rfl) ?_
            refine qe rfl ?_
            refine qe rfl ?_
            refine zap ?_
            replace H := retl H hq58
            cases H
            exact ⟨trivial, .inl rfl, .inl rfl, trivial⟩
       ·rintro v83 H
        replace H : zd2 v46 v49 v53 v55 v56 v83 = some q58 := H
        unfold zd2 at H
        refine zac ?_
        refine zac ?_
        refine zab hN rfl ?_
        refine qd rfl ?_
        refine qd rfl ?_
        refine zaa (zih tyU3 tyU5 rfl) ?_
        refine zaa (zi7 rfl rfl) ?_
        refine zai _ rfl (fun h84 => ?_) (fun h84 => ?_)
        ·replace H := ift h84 H
         refine zac ?_
         refine zab hN rfl ?_
         refine zaa (za4 (u' := verr 2) (zjt (show Tryz.prog.underlying 196 = some (.int .i64) from by kernel_rfl) rfl) rfl) ?_
         refine qe rfl ?_
         refine qe rfl ?_
         refine zap ?_
         replace H := retl H hq58
         cases H
         exact ⟨trivial, .inl rfl, .inl rfl, trivial⟩
        ·replace H := iff_ h84 H
         refine zan ?_
         refine zac ?_
         refine zac ?_
         refine zab hN rfl ?_
         refine qd rfl ?_
         refine qd rfl ?_
         refine zaa (zi7 rfl rfl) ?_
         refine zai _ rfl (fun h85 => ?_) (fun h85 => ?_)
         ·replace H := ift h85 H
          refine zac ?_
          refine zab hN rfl ?_
          refine qd rfl ?_
          refine zaa (za4 (u' := verr 1) (zjt (show Tryz.prog.underlying 196 = some (.int .i64) from by kernel_rfl) rfl) rfl) ?_
          refine qe rfl ?_
          refine qe rfl ?_
          refine zap ?_
          replace H := retl H hq58
          cases H
          exact ⟨trivial, .inl rfl, .inl rfl, trivial⟩
         ·replace H := iff_ h85 H
          refine zan ?_
          refine zac ?_
          refine zab hN rfl ?_
          refine qd rfl ?_
          refine qd rfl ?_
          refine zaa (zih tyU3 zry rfl) ?_
          refine zaa (za8 _ rfl rfl (.inr (.inr ⟨rfl, rfl⟩))) ?_
          refine qe rfl ?_
          refine zac ?_
          refine zab hN rfl ?_
          refine qd rfl ?_
          refine qd rfl ?_
          refine zaa (zih tyU5 zry rfl) ?_
          refine zaa (za8 _ rfl rfl (.inl ⟨rfl, rfl⟩)) ?_
          refine qe rfl ?_
          refine zac ?_
          refine zac ?_
          refine zab hN rfl ?_
          refine qd rfl ?_
          refine qd rfl ?_
          refine zaa (za3 rfl rfl) ?_
          refine qd rfl ?_
          refine ziq rfl rfl (fun hc => zah (.dat _) rfl) ?_
          refine ziq rfl rfl (fun hc => zah (.dat _) rfl) ?_
          refine ziq rfl rfl (fun hc => zg1 (cnd (c := (!(decide ((IntKind.wrap .u64 ((IntKind.wrap .u64 (v56 * (IntKind.wrap .u64 v46))) + (IntKind.wrap .u64 v83))) < (IntKind.wrap .u64 (v56 * (IntKind.wrap .u64 v46))))))) hc) (cnd (c := (!(decide ((IntKind.wrap .u64 ((IntKind.wrap .u64 (v56 * (IntKind.wrap .u64 v46))) + (IntKind.wrap .u64 v83))) < (IntKind.wrap .u64 (v56 * (IntKind.wrap .u64 v46))))))) hc)) ?_
          refine zaa (zhz rfl rfl (fun hb => (cnd (c := (!(decide ((IntKind.wrap .u64 ((IntKind.wrap .u64 (v56 * (IntKind.wrap .u64 v46))) + (IntKind.wrap .u64 v83))) < (IntKind.wrap .u64 (v56 * (IntKind.wrap .u64 v46))))))) (notI hb)))) ?_
          refine zai _ rfl (fun h86 => ?_) (fun h86 => ?_)
          ·replace H := ift h86 H
           refine zac ?_
           refine zab hN rfl ?_
           refine qd rfl ?_
           refine zaa (za4 (u' := verr 1) (zjt (show Tryz.prog.underlying 196 = some (.int .i64) from by kernel_rfl) rfl) rfl) ?_
           refine qe rfl ?_
           refine qe rfl ?_
           refine zap ?_
           replace H := retl H hq58
           cases H
           exact ⟨trivial, .inl rfl, .inl rfl, trivial⟩
          ·replace H := iff_ h86 H
           refine zan ?_
           refine zab hN rfl ?_
           refine qd rfl ?_
           refine qe rfl ?_
           exact ⟨(v55, IntKind.wrap .u64 ((IntKind.wrap .u64 (v56 * (IntKind.wrap .u64 v46))) + (IntKind.wrap .u64 v83))), H, ⟨rfl, rfl, rfl, rfl, rfl, rfl, rfl, rfl, rfl, rfl, trivial⟩, trivial⟩
      ·rintro ⟨v87, v88⟩ H
       replace H : zd7 v87 v88 = some q58 := H
       unfold zd7 at H
       refine zab hN rfl ?_
       refine zaa (zfc rfl rfl (by omega)) ?_
       refine qd rfl ?_
       exact ⟨_, zio H, ⟨rfl, rfl, rfl, rfl, rfl, rfl, rfl, rfl, rfl, rfl, trivial⟩, trivial⟩
theorem zog (v1 : Bs) (v2 : Int) (v3 : Int) (r : (Int × Int)) (H : zjl v1 v2 v3 = some r) : Fn Tryz.prog 210 [vstr v1, vint v2, vint v3] (zbe [vint r.1, verr r.2]) := by
 refine ⟨by kernel_rfl, za7 (us := [vint r.1, verr r.2]) Tryz.func210 rfl rfl rfl rfl fun X hN => ?_⟩
 unfold zjl at H
 refine zac ?_
 refine zab hN rfl ?_
 refine qe rfl ?_
 refine qe rfl ?_
 refine zac ?_
 refine zac ?_
 refine zab hN rfl ?_
 refine qd rfl ?_
 refine zaa (zdw rfl rfl) ?_
 refine zai _ rfl (fun h4 => ?_) (fun h4 => ?_)
 ·replace H := ift h4 H
  refine zac ?_
  refine zab hN rfl ?_
  refine zaa (za4 (u' := verr 2) (zjt (show Tryz.prog.underlying 196 = some (.int .i64) from by kernel_rfl) rfl) rfl) ?_
  refine qe rfl ?_
  refine qe rfl ?_
  refine zap ?_
  cases H
  exact ⟨trivial, .inl rfl, .inl rfl, trivial⟩
 ·replace H := iff_ h4 H
  refine zan ?_
  refine zac ?_
  refine zab hN rfl ?_
  refine qe rfl ?_
  refine zax (ι := Bs × Bool) (fun i => [(0, .dat (vstr i.1)), (1, .dat (vint v2)), (2, .dat (vint v3)), (8, .dat (za2 i.2))]) (fun i => []) (fun i => zdj v2 v3 i.1 i.2 = some r) (fun i => rfl) ?_ ?_
  ·skip
   refine zac ?_
   refine zab hN rfl ?_
   refine qd rfl ?_
   obtain ⟨x5, h6, H⟩ := bnd H
   refine zaa (zgg tyU9 rfl rfl h6) ?_
   refine zat ?_
   refine zac ?_
   refine zab hN rfl ?_
   refine zaa (zb6 rfl rfl) ?_
   refine qe rfl ?_
   refine zai _ rfl (fun h7 => ?_) (fun h7 => ?_)
   ·replace H := ift h7 H
    refine zab hN rfl ?_
    refine qd rfl ?_
    obtain ⟨l8, h9, H⟩ := bnd H
    refine zaa (zl0 tyU9 rfl rfl rfl h9) ?_
    refine qe rfl ?_
    exact ⟨(l8, false), H, ⟨rfl, rfl, rfl, rfl, trivial⟩, trivial⟩
   ·replace H := iff_ h7 H
    refine zac ?_
    refine zab hN rfl ?_
    refine zaa (zb6 rfl rfl) ?_
    refine qe rfl ?_
    refine zai _ rfl (fun h10 => ?_) (fun h10 => ?_)
    ·replace H := ift h10 H
     refine zac ?_
     refine zab hN rfl ?_
     refine qd rfl ?_
     obtain ⟨l11, h12, H⟩ := bnd H
     refine zaa (zl0 tyU9 rfl rfl rfl h12) ?_
     refine qe rfl ?_
     refine zab hN rfl ?_
     refine qe rfl ?_
     exact ⟨(l11, true), H, ⟨rfl, rfl, rfl, rfl, trivial⟩, trivial⟩
    ·replace H := iff_ h10 H
     refine zan ?_
     exact ⟨(v1, false), H, ⟨rfl, rfl, rfl, rfl, trivial⟩, trivial⟩
  ·rintro ⟨v13, v14⟩ H
   replace H : zdj v2 v3 v13 v14 = some r := H
   unfold zdj at H
   refine zac ?_
   refine zab hN rfl ?_
   refine qe rfl ?_
   refine zac ?_
   refine zab hN rfl ?_
   refine qd rfl ?_
   refine qd rfl ?_
   refine qd rfl ?_
   obtain ⟨r15, h16, H⟩ := bnd H
   refine zaa (zak (zld v13 v2 v3 r15 h16) ⟨.inl rfl, .inl rfl, .inl rfl, trivial⟩) ?_
   refine qd rfl ?_
   refine zaa (zbj rfl rfl) ?_
   refine zaa (zbj rfl rfl) ?_
   refine qe rfl ?_
   refine qe rfl ?_
   refine zac ?_
   refine zax (ι := Bool) (fun i => [(2, .dat (vint v3)), (7, .dat (verr r15.2)), (8, .dat (za2 v14)), (9, .dat (vval (.int .u64 r15.1))), (38, .dat (za2 i))]) (fun i => []) (fun i => zey v3 v14 r15 i = some r) (fun i => rfl) ?_ ?_
   ·skip
    refine zab hN rfl ?_
    refine qd rfl ?_
    refine zaa (zo2 (n := r15.2) (show Tryz.prog.underlying 95 = some (.interface (Tryz.prog.methodsAt 95)) from by kernel_rfl) rfl) ?_
    refine qd rfl ?_
    refine zaz (j := 2) rfl rfl (fun h17 => ?_) (fun h17 => ?_) rfl
    ·have h18 := un1 h17
     replace H := ift h18 H
     refine zam rfl rfl h17 (zah (.dat _) rfl) ?_
     refine zam rfl rfl h17 (za4 (u' := verr 1) (zjt (show Tryz.prog.underlying 196 = some (.int .i64) from by kernel_rfl) rfl) rfl) ?_
     obtain ⟨h19, H⟩ := gif H
     refine zam rfl rfl h17 (zxz (n := r15.2) (m := 1) (show Tryz.prog.underlying 95 = some (.interface (Tryz.prog.methodsAt 95)) from by kernel_rfl) (by kernel_rfl) (by kernel_rfl) rfl rfl h19 (by decide)) ?_
     refine zaa (zas rfl (bTT h18) rfl) ?_
     exact ⟨decide (r15.2 ≠ 1), H, ⟨rfl, rfl, rfl, rfl, rfl, trivial⟩, trivial⟩
    ·have h20 := un2 h17
     replace H := iff_ h20 H
     refine zae rfl rfl h17 ?_
     refine zae rfl rfl h17 ?_
     refine zae rfl rfl h17 ?_
     refine zaa (zaj rfl (bFF h20) rfl) ?_
     exact ⟨false, H, ⟨rfl, rfl, rfl, rfl, rfl, trivial⟩, trivial⟩
   ·rintro v21 H
    replace H : zey v3 v14 r15 v21 = some r := H
    unfold zey at H
    refine zai _ rfl (fun h22 => ?_) (fun h22 => ?_)
    ·replace H := ift h22 H
     refine zac ?_
     refine zab hN rfl ?_
     refine qd rfl ?_
     refine qe rfl ?_
     refine qe rfl ?_
     refine zap ?_
     cases H
     exact ⟨trivial, .inl rfl, .inl rfl, trivial⟩
    ·replace H := iff_ h22 H
     refine zan ?_
     refine zax (ι := Int) (fun i => [(2, .dat (vint i)), (8, .dat (za2 v14)), (9, .dat (vval (.int .u64 r15.1)))]) (fun i => []) (fun i => zex v14 r15 i = some r) (fun i => rfl) ?_ ?_
     ·skip
      refine zac ?_
      refine zab hN rfl ?_
      refine qd rfl ?_
      refine zaa (zb6 rfl rfl) ?_
      refine zai _ rfl (fun h23 => ?_) (fun h23 => ?_)
      ·replace H := ift h23 H
       refine zab hN rfl ?_
       refine qe rfl ?_
       exact ⟨64, H, ⟨rfl, rfl, rfl, trivial⟩, trivial⟩
      ·replace H := iff_ h23 H
       refine zan ?_
       exact ⟨v3, H, ⟨rfl, rfl, rfl, trivial⟩, trivial⟩
     ·rintro v24 H
      replace H : zex v14 r15 v24 = some r := H
      unfold zex at H
      refine zac ?_
      refine zab hN rfl ?_
      refine qd rfl ?_
      refine zaa (za8 _ rfl rfl (.inr (.inl ⟨rfl, rfl⟩))) ?_
      refine zaa (zih tyU3 z3f rfl) ?_
      obtain ⟨h25, H⟩ := gif H
      refine zaa (za4 (z04 rfl rfl h25) rfl) ?_
      refine qe rfl ?_
      refine zac ?_
      refine zac ?_
      refine zab hN rfl ?_
      refine qd rfl ?_
      refine zaa (zck rfl) ?_
      refine qd rfl ?_
      refine zig rfl rfl (fun hc => zah (.dat _) rfl) ?_
      refine zig rfl rfl (fun hc => zah (.dat _) rfl) ?_
      refine zig rfl rfl (fun hc => zi7 (cnd (c := (!v14)) hc) (cnd (c := (!v14)) hc)) ?_
      refine zaa (zco rfl (fun hb => (cnd (c := (!v14)) hb)) rfl) ?_
      refine zai _ rfl (fun h26 => ?_) (fun h26 => ?_)
      ·replace H := ift h26 H
       refine zac ?_
       refine zab hN rfl ?_
       refine qd rfl ?_
       refine zaa (za8 _ rfl rfl (.inr (.inl ⟨rfl, rfl⟩))) ?_
       refine zaa (zih zry tyU2 rfl) ?_
       refine zaa (za4 (u' := verr 1) (zjt (show Tryz.prog.underlying 196 = some (.int .i64) from by kernel_rfl) rfl) rfl) ?_
       refine qe rfl ?_
       refine qe rfl ?_
       refine zap ?_
       cases H
       exact ⟨trivial, .inl rfl, .inl rfl, trivial⟩
      ·replace H := iff_ h26 H
       refine zan ?_
       refine zac ?_
       refine zac ?_
       refine zab hN rfl ?_
       refine qd rfl ?_
       refine qd rfl ?_
       refine zig rfl rfl (fun hc => zah (.dat _) rfl) ?_
       refine zig rfl rfl (fun hc => zah (.dat _) rfl) ?_
       refine zig rfl rfl (fun hc => zg1 (cnd (c := v14) hc) (cnd (c := v14) hc)) ?_
       refine zaa (zco rfl (fun hb => (cnd (c := v14) hb)) rfl) ?_
       refine zai _ rfl (fun h27 => ?_) (fun h27 => ?_)
       ·replace H := ift h27 H
        refine zac ?_
        refine zab hN rfl ?_
        refine qd rfl ?_
        refine zaa (zih zry tyU2 rfl) ?_
        obtain ⟨h28, H⟩ := gif H
        refine zaa (zxw rfl h28) ?_
        refine zaa (za4 (u' := verr 1) (zjt (show Tryz.prog.underlying 196 = some (.int .i64) from by kernel_rfl) rfl) rfl) ?_
        refine qe rfl ?_
        refine qe rfl ?_
        refine zap ?_
        cases H
        exact ⟨trivial, .inl rfl, .inl rfl, trivial⟩
       ·replace H := iff_ h27 H
        refine zan ?_
        refine zac ?_
        refine zab hN rfl ?_
        refine qd rfl ?_
        refine zaa (zih zry tyU2 rfl) ?_
        refine qe rfl ?_
        refine zax (ι := Int) (fun i => [(11, .dat (vint i))]) (fun i => []) (fun i => zew i = some r) (fun i => rfl) ?_ ?_
        ·skip
         refine zac ?_
         refine zab hN rfl ?_
         refine qd rfl ?_
         refine zai _ rfl (fun h29 => ?_) (fun h29 => ?_)
         ·replace H := ift h29 H
          refine zab hN rfl ?_
          refine qd rfl ?_
          obtain ⟨h30, H⟩ := gif H
          refine zaa (zxw rfl h30) ?_
          refine qe rfl ?_
          exact ⟨(-(IntKind.wrap .i64 r15.1)), H, ⟨rfl, trivial⟩, trivial⟩
         ·replace H := iff_ h29 H
          refine zan ?_
          exact ⟨IntKind.wrap .i64 r15.1, H, ⟨rfl, trivial⟩, trivial⟩
        ·rintro v31 H
         replace H : zew v31 = some r := H
         unfold zew at H
         refine zac ?_
         refine zab hN rfl ?_
         refine qd rfl ?_
         refine qe rfl ?_
         refine qe rfl ?_
         refine zap ?_
         cases H
         exact ⟨trivial, .inl rfl, .inl rfl, trivial⟩
theorem zpv (v1 : Bs) (r : (Int × Int)) (H : zkv v1 = some r) : Fn Tryz.prog 191 [vstr v1] (zbe [vint r.1, verr r.2]) := by
 refine ⟨by kernel_rfl, za7 (us := [vint r.1, verr r.2]) Tryz.func191 rfl rfl rfl rfl fun X hN => ?_⟩
 unfold zkv at H
 refine zac ?_
 refine zab hN rfl ?_
 refine qe rfl ?_
 refine qe rfl ?_
 refine zac ?_
 refine zab hN rfl ?_
 refine qd rfl ?_
 refine zaa (za5 tyU9 rfl) ?_
 refine qe rfl ?_
 refine zac ?_
 refine zac ?_
 refine zab hN rfl ?_
 refine qd rfl ?_
 refine zig (s := .dat (vint (v1.length : Int))) rfl rfl (fun hc => zah (.dat _) rfl) ?_
 refine zig (s := .dat (za2 (decide (0 < (v1.length : Int))))) rfl rfl (fun hc => za3 rfl (cnd (c := false) (s := .dat (vint (v1.length : Int))) hc)) ?_
 refine zig (s := .dat (za2 (decide (0 < (v1.length : Int))))) rfl rfl (fun hc => zah (.dat _) (cnd (c := false) (s := .dat (za2 (decide (0 < (v1.length : Int))))) hc)) ?_
 refine zop (s := .dat (vint (v1.length : Int))) (c := false) (b := decide (0 < (v1.length : Int))) rfl rfl (fun hc => zah (.dat _) rfl) ?_
 refine zop (s := .dat (za2 (decide ((v1.length : Int) < 10)))) (c := false) (b := decide (0 < (v1.length : Int))) rfl rfl (fun hc => za3 (cnd (c := (false && (decide (0 < (v1.length : Int))))) (s := .dat (vint (v1.length : Int))) hc) rfl) ?_
 refine zig (s := .dat (za2 ((decide (0 < (v1.length : Int))) && (decide ((v1.length : Int) < 10))))) rfl rfl (fun hc => zco (cnd (c := false) (s := .dat (za2 (decide (0 < (v1.length : Int))))) hc) (fun hb => (cnd (c := (false && (decide (0 < (v1.length : Int))))) (s := .dat (za2 (decide ((v1.length : Int) < 10)))) (andI hc hb))) rfl) ?_
 refine zaa (zco rfl (fun hb => (cnd (c := false) (s := .dat (za2 ((decide (0 < (v1.length : Int))) && (decide ((v1.length : Int) < 10))))) hb)) rfl) ?_
 refine qd rfl ?_
 refine ziq (s := .dat (za2 true)) rfl rfl (fun hc => zah (.dat _) rfl) ?_
 refine zop (s := .dat (vint (v1.length : Int))) (c := (!(false && ((decide (0 < (v1.length : Int))) && (decide ((v1.length : Int) < 10)))))) (b := true) rfl rfl (fun hc => zah (.dat _) rfl) ?_
 refine zop (s := .dat (za2 (decide (0 < (v1.length : Int))))) (c := (!(false && ((decide (0 < (v1.length : Int))) && (decide ((v1.length : Int) < 10)))))) (b := true) rfl rfl (fun hc => za3 rfl (cnd (c := ((!(false && ((decide (0 < (v1.length : Int))) && (decide ((v1.length : Int) < 10))))) && true)) (s := .dat (vint (v1.length : Int))) hc)) ?_
 refine zop (s := .dat (za2 (decide (0 < (v1.length : Int))))) (c := (!(false && ((decide (0 < (v1.length : Int))) && (decide ((v1.length : Int) < 10)))))) (b := true) rfl rfl (fun hc => zah (.dat _) (cnd (c := ((!(false && ((decide (0 < (v1.length : Int))) && (decide ((v1.length : Int) < 10))))) && true)) (s := .dat (za2 (decide (0 < (v1.length : Int))))) hc)) ?_
 refine zop (s := .dat (vint (v1.length : Int))) (c := ((!(false && ((decide (0 < (v1.length : Int))) && (decide ((v1.length : Int) < 10))))) && true)) (b := decide (0 < (v1.length : Int))) rfl rfl (fun hc => zah (.dat _) rfl) ?_
 refine zop (s := .dat (za2 (decide ((v1.length : Int) < 19)))) (c := ((!(false && ((decide (0 < (v1.length : Int))) && (decide ((v1.length : Int) < 10))))) && true)) (b := decide (0 < (v1.length : Int))) rfl rfl (fun hc => za3 (cnd (c := (((!(false && ((decide (0 < (v1.length : Int))) && (decide ((v1.length : Int) < 10))))) && true) && (decide (0 < (v1.length : Int))))) (s := .dat (vint (v1.length : Int))) hc) rfl) ?_
 refine zop (s := .dat (za2 ((decide (0 < (v1.length : Int))) && (decide ((v1.length : Int) < 19))))) (c := (!(false && ((decide (0 < (v1.length : Int))) && (decide ((v1.length : Int) < 10)))))) (b := true) rfl rfl (fun hc => zco (cnd (c := ((!(false && ((decide (0 < (v1.length : Int))) && (decide ((v1.length : Int) < 10))))) && true)) (s := .dat (za2 (decide (0 < (v1.length : Int))))) hc) (fun hb => (cnd (c := (((!(false && ((decide (0 < (v1.length : Int))) && (decide ((v1.length : Int) < 10))))) && true) && (decide (0 < (v1.length : Int))))) (s := .dat (za2 (decide ((v1.length : Int) < 19)))) (andI hc hb))) rfl) ?_
 refine ziq (s := .dat (za2 (true && ((decide (0 < (v1.length : Int))) && (decide ((v1.length : Int) < 19)))))) rfl rfl (fun hc => zco (cnd (c := (!(false && ((decide (0 < (v1.length : Int))) && (decide ((v1.length : Int) < 10)))))) (s := .dat (za2 true)) hc) (fun hb => (cnd (c := ((!(false && ((decide (0 < (v1.length : Int))) && (decide ((v1.length : Int) < 10))))) && true)) (s := .dat (za2 ((decide (0 < (v1.length : Int))) && (decide ((v1.length : Int) < 19))))) (andI hc hb))) rfl) ?_
 refine zaa (zhz rfl rfl (fun hb => (cnd (c := (!(false && ((decide (0 < (v1.length : Int))) && (decide ((v1.length : Int) < 10)))))) (s := .dat (za2 (true && ((decide (0 < (v1.length : Int))) && (decide ((v1.length : Int) < 19)))))) (notI hb)))) ?_
 refine zai _ rfl (fun h2 => ?_) (fun h2 => ?_)
 ·replace H := ift h2 H
  refine zac ?_
  refine zab hN rfl ?_
  refine qd rfl ?_
  refine qe rfl ?_
  refine zax (ι := Bs) (fun i => [(0, .dat (vstr i)), (5, .dat (vstr v1))]) (fun i => []) (fun i => zgt v1 i = some r) (fun i => rfl) ?_ ?_
  ·skip
   refine zax (ι := Bool) (fun i => [(0, .dat (vstr v1)), (5, .dat (vstr v1)), (39, .dat (za2 i))]) (fun i => []) (fun i => zgs v1 i = some r) (fun i => rfl) ?_ ?_
   ·skip
    refine zab hN rfl ?_
    refine qd rfl ?_
    obtain ⟨x3, h4, H⟩ := bnd H
    refine zaa (zgg tyU9 rfl rfl h4) ?_
    refine zaa (zb6 rfl rfl) ?_
    refine qd rfl ?_
    refine zaz (j := 3) rfl rfl (fun h5 => ?_) (fun h5 => ?_) rfl
    ·have h6 := un3 h5
     replace H := iff_ h6 H
     refine zam rfl rfl h5 (zah (.dat _) rfl) ?_
     refine zam rfl rfl h5 (zgg tyU9 rfl rfl h4) ?_
     refine zam rfl rfl h5 (zb6 rfl rfl) ?_
     refine zaa (zaj rfl (bFF h6) rfl) ?_
     exact ⟨decide ((x3.toNat : Int) = 43), H, ⟨rfl, rfl, rfl, trivial⟩, trivial⟩
    ·have h7 := un4 h5
     replace H := ift h7 H
     refine zae rfl rfl h5 ?_
     refine zae rfl rfl h5 ?_
     refine zae rfl rfl h5 ?_
     refine zaa (zas rfl (bTT h7) rfl) ?_
     exact ⟨true, H, ⟨rfl, rfl, rfl, trivial⟩, trivial⟩
   ·rintro v8 H
    replace H : zgs v1 v8 = some r := H
    unfold zgs at H
    refine zai _ rfl (fun h9 => ?_) (fun h9 => ?_)
    ·replace H := ift h9 H
     refine zac ?_
     refine zab hN rfl ?_
     refine qd rfl ?_
     obtain ⟨l10, h11, H⟩ := bnd H
     refine zaa (zl0 tyU9 rfl rfl rfl h11) ?_
     refine qe rfl ?_
     refine zac ?_
     refine zab hN rfl ?_
     refine qd rfl ?_
     refine zaa (za5 tyU9 rfl) ?_
     refine zaa (za3 rfl rfl) ?_
     refine zai _ rfl (fun h12 => ?_) (fun h12 => ?_)
     ·replace H := ift h12 H
      refine zac ?_
      refine zab hN rfl ?_
      refine zaa (za4 (u' := verr 2) (zjt (show Tryz.prog.underlying 196 = some (.int .i64) from by kernel_rfl) rfl) rfl) ?_
      refine qe rfl ?_
      refine qe rfl ?_
      refine zap ?_
      cases H
      exact ⟨trivial, .inl rfl, .inl rfl, trivial⟩
     ·replace H := iff_ h12 H
      refine zan ?_
      exact ⟨l10, H, ⟨rfl, rfl, trivial⟩, trivial⟩
    ·replace H := iff_ h9 H
     refine zan ?_
     exact ⟨v1, H, ⟨rfl, rfl, trivial⟩, trivial⟩
  ·rintro v13 H
   replace H : zgt v1 v13 = some r := H
   unfold zgt at H
   refine zac ?_
   refine zab hN rfl ?_
   refine qe rfl ?_
   refine zac ?_
   refine zac ?_
   refine zab hN rfl ?_
   refine qd rfl ?_
   refine zaa (zt0 (C := zcj) tyU9 zwr tyU5 (fun _ => rfl) rfl) ?_
   refine zaa (zks zwr rfl) ?_
   refine qd rfl ?_
   refine zat ?_
   obtain ⟨h17, H⟩ := gif H
   refine zed (fun (k15 : Nat) (s : Int) => [(5, .dat (vstr v1)), (6, .dat (vint s)), (47, .dat (vlst (List.map zcj (zdv v13)))), (48, .dat (vint ((zdv v13).length : Int))), (49, .dat (vint (k15 : Int)))]) (fun (k15 : Nat) (s : Int) => []) 0 H ⟨rfl, rfl, rfl, rfl, rfl, trivial⟩ trivial (fun _ _ => rfl) ?_ ?_
   ·rintro v14 H
    replace H : zkr v1 v14 = some r := H
    unfold zkr at H
    refine zac ?_
    refine zab hN rfl ?_
    refine zaa (za3 rfl rfl) ?_
    refine zac ?_
    refine zai _ rfl (fun h => (lt_t h).elim) (fun h => ?_)
    refine zbp ?_
    refine zax (ι := Int) (fun i => [(6, .dat (vint i))]) (fun i => []) (fun i => zgr i = some r) (fun i => rfl) ?_ ?_
    ·skip
     refine zac ?_
     refine zab hN rfl ?_
     refine qd rfl ?_
     obtain ⟨x19, h20, H⟩ := bnd H
     refine zaa (zgg tyU9 rfl rfl h20) ?_
     refine zaa (zb6 rfl rfl) ?_
     refine zai _ rfl (fun h21 => ?_) (fun h21 => ?_)
     ·replace H := ift h21 H
      refine zab hN rfl ?_
      refine qd rfl ?_
      obtain ⟨h22, H⟩ := gif H
      refine zaa (zxw rfl h22) ?_
      refine qe rfl ?_
      exact ⟨(-v14), H, ⟨rfl, trivial⟩, trivial⟩
     ·replace H := iff_ h21 H
      refine zan ?_
      exact ⟨v14, H, ⟨rfl, trivial⟩, trivial⟩
    ·rintro v23 H
     replace H : zgr v23 = some r := H
     unfold zgr at H
     refine zac ?_
     refine zab hN rfl ?_
     refine qd rfl ?_
     refine qe rfl ?_
     refine qe rfl ?_
     refine zap ?_
     cases H
     exact ⟨trivial, .inl rfl, .inl rfl, trivial⟩
   ·rintro k15 x18 v14 q16 h24 h25 H hq16
    replace H : zkq k15 x18 v14 = some q16 := H
    unfold zkq at H
    refine zac ?_
    refine zab hN rfl ?_
    refine zaa (za3 rfl rfl) ?_
    refine zac ?_
    refine zai _ rfl (fun h => ?_) (fun h => (lt_f h24 h).elim)
    refine zan ?_
    refine zac ?_
    refine zat ?_
    refine zac ?_
    refine zab hN rfl ?_
    refine zaa (zn2 z78 (fun _ => rfl) rfl rfl h25) ?_
    refine zaa (ze9 tyS5 rfl (zjk h25) rfl) ?_
    refine qe rfl ?_
    refine zac ?_
    refine zab hN rfl ?_
    refine qd rfl ?_
    refine zaa (za8 _ rfl rfl (.inr (.inl ⟨rfl, rfl⟩))) ?_
    refine qe rfl ?_
    refine zac ?_
    refine zac ?_
    refine zab hN rfl ?_
    refine qd rfl ?_
    refine zaa (zg1 rfl rfl) ?_
    refine zai _ rfl (fun h26 => ?_) (fun h26 => ?_)
    ·replace H := ift h26 H
     refine zac ?_
     refine zab hN rfl ?_
     refine zaa (za4 (u' := verr 2) (zjt (show Tryz.prog.underlying 196 = some (.int .i64) from by kernel_rfl) rfl) rfl) ?_
     refine qe rfl ?_
     refine qe rfl ?_
     refine zap ?_
     replace H := retl H hq16
     cases H
     exact ⟨trivial, .inl rfl, .inl rfl, trivial⟩
    ·replace H := iff_ h26 H
     refine zan ?_
     refine zab hN rfl ?_
     refine qd rfl ?_
     refine zaa (za8 _ rfl rfl (.inr (.inr ⟨rfl, rfl⟩))) ?_
     refine qd rfl ?_
     refine zaa (zih tyU5 tyU3 rfl) ?_
     refine zaa (za8 _ rfl rfl (.inl ⟨rfl, rfl⟩)) ?_
     refine qe rfl ?_
     refine zab hN rfl ?_
     refine zaa (zfc rfl rfl (by omega)) ?_
     refine qd rfl ?_
     exact ⟨_, zio H, ⟨rfl, rfl, rfl, rfl, rfl, trivial⟩, trivial⟩
 ·replace H := iff_ h2 H
  refine zan ?_
  refine zac ?_
  refine zab hN rfl ?_
  refine qd rfl ?_
  obtain ⟨r27, h28, H⟩ := bnd H
  refine zaa (zak (zog v1 10 0 r27 h28) ⟨.inl rfl, .inl rfl, .inl rfl, trivial⟩) ?_
  refine qd rfl ?_
  refine zaa (zbj rfl rfl) ?_
  refine zaa (zbj rfl rfl) ?_
  refine qe rfl ?_
  refine qe rfl ?_
  refine zac ?_
  refine zab hN rfl ?_
  refine qd rfl ?_
  refine qd rfl ?_
  refine qe rfl ?_
  refine qe rfl ?_
  refine zap ?_
  cases H
  exact ⟨trivial, .inl rfl, .inl rfl, trivial⟩
theorem zo7 (fn s : Bs) (base bits e r : Int) (H : zm2 fn s base bits e = some r) : Fn Tryz.prog 192 [vstr fn, vstr s, vint base, vint bits, verr e] (zbe [verr r]) := by
 obtain ⟨⟨h1, h2, h3⟩, h4⟩ := gif H
 cases h4
 refine zin (by kernel_rfl) fun M w vs hM h => ?_
 rcases h3 with rfl | rfl
 ·have hv := zl1 (us := [.string ⟨fn.toArray⟩, .string ⟨s.toArray⟩, .int .i64 base, .int .i64 bits, .iface 196 (.int .i64 2)]) h
  subst hv
  obtain ⟨tp, p, hc⟩ := zuz hM
  refine (Tryz.strconv_toError_syntax ⟨fn.toArray⟩ ⟨s.toArray⟩ base bits (.iface tp p) w (by simp [ByteArray.size]; omega) hc (.inr ⟨tp, p, rfl⟩)).mono ?_
  rintro e w' ⟨N, rfl, _, _, hb⟩
  exact ⟨_, rfl, ⟨_, _, rfl⟩, Kp.of_below hb⟩
 ·have hv := zl1 (us := [.string ⟨fn.toArray⟩, .string ⟨s.toArray⟩, .int .i64 base, .int .i64 bits, .iface 196 (.int .i64 1)]) h
  subst hv
  obtain ⟨tp, p, hc⟩ := zwn hM
  refine (Tryz.strconv_toError_range ⟨fn.toArray⟩ ⟨s.toArray⟩ base bits (.iface tp p) w (by simp [ByteArray.size]; omega) hc (.inr ⟨tp, p, rfl⟩)).mono ?_
  rintro e w' ⟨N, rfl, _, _, hb⟩
  exact ⟨_, rfl, ⟨_, _, rfl⟩, Kp.of_below hb⟩
theorem zrh (s1 : Bs) (r : (Int × Int)) (H : znd s1 = some r) : Fn Tryz.prog 158 [vstr s1] (zbe [vint r.1, verr r.2]) := by
 refine ⟨by kernel_rfl, za7 (us := [vint r.1, verr r.2]) Tryz.func158 rfl rfl rfl rfl fun X hN => ?_⟩
 unfold znd at H
 refine zac ?_
 refine zab hN rfl ?_
 refine qe rfl ?_
 refine qe rfl ?_
 refine zac ?_
 refine zab hN rfl ?_
 refine qd rfl ?_
 obtain ⟨r2, h3, H⟩ := bnd H
 refine zaa (zak (zpv s1 r2 h3) ⟨.inl rfl, trivial⟩) ?_
 refine qd rfl ?_
 refine zaa (zbj rfl rfl) ?_
 refine zaa (zbj rfl rfl) ?_
 refine qe rfl ?_
 refine qe rfl ?_
 refine zac ?_
 refine zac ?_
 refine zab hN rfl ?_
 refine qd rfl ?_
 refine zaa (zo2 (n := r2.2) (show Tryz.prog.underlying 95 = some (.interface (Tryz.prog.methodsAt 95)) from by kernel_rfl) rfl) ?_
 refine zai _ rfl (fun h4 => ?_) (fun h4 => ?_)
 ·replace H := ift h4 H
  refine zac ?_
  refine zab hN rfl ?_
  refine qd rfl ?_
  refine qd rfl ?_
  refine qd rfl ?_
  obtain ⟨r5, h6, H⟩ := bnd H
  refine zaa (zak (zo7 [65, 116, 111, 105] s1 0 0 r2.2 r5 h6) ⟨.inl rfl, .inl rfl, .inl rfl, .inl rfl, .inl rfl, trivial⟩) ?_
  refine qe rfl ?_
  refine qe rfl ?_
  refine zap ?_
  cases H
  exact ⟨trivial, .inl rfl, .inl rfl, trivial⟩
 ·replace H := iff_ h4 H
  refine zan ?_
  refine zac ?_
  refine zab hN rfl ?_
  refine qd rfl ?_
  refine qe rfl ?_
  refine qe rfl ?_
  refine zap ?_
  cases H
  exact ⟨trivial, .inl rfl, .inl rfl, trivial⟩
theorem zxa (s1 : Bs) (most2 : Int) (r : (Int × Bool)) (H : zqo s1 most2 = some r) : Fn Tryz.prog 175 [vstr s1, vint most2] (zbe [vint r.1, za2 r.2]) := by
 refine ⟨by kernel_rfl, za7 (us := [vint r.1, za2 r.2]) Tryz.func175 rfl rfl rfl rfl fun X hN => ?_⟩
 unfold zqo at H
 refine zac ?_
 refine zab hN rfl ?_
 refine qe rfl ?_
 refine qe rfl ?_
 refine zac ?_
 refine zab hN rfl ?_
 refine qd rfl ?_
 obtain ⟨r3, h4, H⟩ := bnd H
 refine zaa (zak (znw s1 [45] r3 h4) ⟨.inl rfl, .inl rfl, trivial⟩) ?_
 refine qe rfl ?_
 refine zac ?_
 refine zax (ι := Bool) (fun i => [(0, .dat (vstr s1)), (6, .dat (vstr r3)), (28, .dat (za2 i))]) (fun i => []) (fun i => zkw s1 r3 i = some r) (fun i => rfl) ?_ ?_
 ·skip
  refine zab hN rfl ?_
  refine qd rfl ?_
  refine zaa (zdw rfl rfl) ?_
  refine qd rfl ?_
  refine zaz (j := 2) rfl rfl (fun h5 => ?_) (fun h5 => ?_) rfl
  ·have h6 := un3 h5
   replace H := iff_ h6 H
   refine zam rfl rfl h5 (zah (.dat _) rfl) ?_
   refine zam rfl rfl h5 (za5 tyU9 rfl) ?_
   refine zam rfl rfl h5 (zah (.dat _) rfl) ?_
   refine zam rfl rfl h5 (zg1 rfl rfl) ?_
   refine zaa (zaj rfl (bFF h6) rfl) ?_
   refine qd rfl ?_
   refine zaz (j := 8) rfl rfl (fun h7 => ?_) (fun h7 => ?_) rfl
   ·have h8 := un3 h7
    replace H := iff_ h8 H
    refine zam rfl rfl h7 (zah (.dat _) rfl) ?_
    obtain ⟨x9, h10, H⟩ := bnd H
    refine zam rfl rfl h7 (zgg tyU9 rfl rfl h10) ?_
    refine zam rfl rfl h7 (zb6 rfl rfl) ?_
    refine zam rfl rfl h7 (zah (.dat _) rfl) ?_
    refine zaz (j := 12) rfl rfl (fun h11 => ?_) (fun h11 => ?_) rfl
    ·have h12 := un1 h11
     replace H := ift h12 H
     refine zam rfl rfl h11 (zah (.dat _) rfl) ?_
     refine zam rfl rfl h11 (zon rfl rfl) ?_
     refine zam rfl rfl h7 (zas rfl (bTT h12) rfl) ?_
     refine zaa (zaj rfl (bFF h8) rfl) ?_
     exact ⟨decide (s1 ≠ [48]), H, ⟨rfl, rfl, rfl, trivial⟩, trivial⟩
    ·have h13 := un2 h11
     replace H := iff_ h13 H
     refine zae rfl rfl h11 ?_
     refine zae rfl rfl h11 ?_
     refine zam rfl rfl h7 (zaj rfl (bFF h13) rfl) ?_
     refine zaa (zaj rfl (bFF h8) rfl) ?_
     exact ⟨false, H, ⟨rfl, rfl, rfl, trivial⟩, trivial⟩
   ·have h14 := un4 h7
    replace H := ift h14 H
    refine zae rfl rfl h7 ?_
    refine zae rfl rfl h7 ?_
    refine zae rfl rfl h7 ?_
    refine zae rfl rfl h7 ?_
    refine zbc rfl rfl ?_
    refine zbc rfl rfl ?_
    refine zae rfl rfl h7 ?_
    refine zaa (zas rfl (bTT h14) rfl) ?_
    exact ⟨true, H, ⟨rfl, rfl, rfl, trivial⟩, trivial⟩
  ·have h15 := un4 h5
   replace H := ift h15 H
   refine zae rfl rfl h5 ?_
   refine zae rfl rfl h5 ?_
   refine zae rfl rfl h5 ?_
   refine zae rfl rfl h5 ?_
   refine zaa (zas rfl (bTT h15) rfl) ?_
   refine qd rfl ?_
   refine zae rfl rfl rfl ?_
   refine zae rfl rfl rfl ?_
   refine zae rfl rfl rfl ?_
   refine zae rfl rfl rfl ?_
   refine zbc rfl rfl ?_
   refine zbc rfl rfl ?_
   refine zae rfl rfl rfl ?_
   refine zaa (zas rfl rfl rfl) ?_
   exact ⟨true, H, ⟨rfl, rfl, rfl, trivial⟩, trivial⟩
 ·rintro v16 H
  replace H : zkw s1 r3 v16 = some r := H
  unfold zkw at H
  refine zai _ rfl (fun h17 => ?_) (fun h17 => ?_)
  ·replace H := ift h17 H
   refine zac ?_
   refine zab hN rfl ?_
   refine qe rfl ?_
   refine qe rfl ?_
   refine zap ?_
   cases H
   exact ⟨trivial, .inl rfl, .inl rfl, trivial⟩
  ·replace H := iff_ h17 H
   refine zan ?_
   refine zac ?_
   refine zac ?_
   refine zab hN rfl ?_
   refine qe rfl ?_
   refine zat ?_
   obtain ⟨h20, H⟩ := gif H
   refine zed (fun (i18 : Nat) (s : Unit) => [(0, .dat (vstr s1)), (6, .dat (vstr r3)), (7, .dat (vint (i18 : Int)))]) (fun (i18 : Nat) (s : Unit) => []) () H ⟨rfl, rfl, rfl, trivial⟩ trivial (fun _ _ => rfl) ?_ ?_
   ·rintro ⟨⟩ H
    replace H : zpt s1 = some r := H
    unfold zpt at H
    refine zac ?_
    refine zac ?_
    refine zab hN rfl ?_
    refine qd rfl ?_
    refine qd rfl ?_
    refine zaa (za5 tyU9 rfl) ?_
    refine zaa (za3 rfl rfl) ?_
    refine zai _ rfl (fun h => (lt_t h).elim) (fun h => ?_)
    refine zbp ?_
    refine zac ?_
    refine zab hN rfl ?_
    refine qd rfl ?_
    obtain ⟨r22, h23, H⟩ := bnd H
    refine zaa (zak (zrh s1 r22 h23) ⟨.inl rfl, trivial⟩) ?_
    refine qd rfl ?_
    refine zaa (zbj rfl rfl) ?_
    refine zaa (zbj rfl rfl) ?_
    refine qe rfl ?_
    refine qe rfl ?_
    refine zac ?_
    refine zik mixed hN rfl rfl ?_
    refine qd rfl ?_
    refine qd rfl ?_
    refine zaa (zu4 (n := r22.2) (show Tryz.prog.underlying 95 = some (.interface (Tryz.prog.methodsAt 95)) from by kernel_rfl) rfl) ?_
    refine qe rfl ?_
    refine qe rfl ?_
    refine ⟨rfl, ?_⟩
    refine zap ?_
    cases H
    exact ⟨trivial, .inl rfl, .inl rfl, trivial⟩
   ·rintro i18 x21 ⟨⟩ q19 h24 h25 H hq19
    replace H : zps i18 x21 = some q19 := H
    unfold zps at H
    refine zac ?_
    refine zac ?_
    refine zab hN rfl ?_
    refine qd rfl ?_
    refine qd rfl ?_
    refine zaa (za5 tyU9 rfl) ?_
    refine zaa (za3 rfl rfl) ?_
    refine zai _ rfl (fun h => ?_) (fun h => (lt_f h24 h).elim)
    refine zan ?_
    refine zac ?_
    refine zat ?_
    refine zax (ι := Bool) (fun i => [(0, .dat (vstr s1)), (6, .dat (vstr r3)), (7, .dat (vint (i18 : Int))), (44, .dat (za2 i))]) (fun i => []) (fun i => zmp i = some q19) (fun i => rfl) ?_ ?_
    ·skip
     refine zab hN rfl ?_
     refine qd rfl ?_
     refine qd rfl ?_
     refine zaa (zgg tyU9 rfl rfl h25) ?_
     refine zaa (za3 rfl rfl) ?_
     refine qd rfl ?_
     refine zaz (j := 4) rfl rfl (fun h26 => ?_) (fun h26 => ?_) rfl
     ·have h27 := un3 h26
      replace H := iff_ h27 H
      refine zam rfl rfl h26 (zah (.dat _) rfl) ?_
      refine zam rfl rfl h26 (zah (.dat _) rfl) ?_
      refine zam rfl rfl h26 (zgg tyU9 rfl rfl h25) ?_
      refine zam rfl rfl h26 (zg1 rfl rfl) ?_
      refine zaa (zaj rfl (bFF h27) rfl) ?_
      exact ⟨decide (57 < (x21.toNat : Int)), H, ⟨rfl, rfl, rfl, rfl, trivial⟩, trivial⟩
     ·have h28 := un4 h26
      replace H := ift h28 H
      refine zae rfl rfl h26 ?_
      refine zae rfl rfl h26 ?_
      refine zae rfl rfl h26 ?_
      refine zae rfl rfl h26 ?_
      refine zaa (zas rfl (bTT h28) rfl) ?_
      exact ⟨true, H, ⟨rfl, rfl, rfl, rfl, trivial⟩, trivial⟩
    ·rintro v29 H
     replace H : zmp v29 = some q19 := H
     unfold zmp at H
     refine zai _ rfl (fun h30 => ?_) (fun h30 => ?_)
     ·replace H := ift h30 H
      refine zac ?_
      refine zab hN rfl ?_
      refine qe rfl ?_
      refine qe rfl ?_
      refine zap ?_
      replace H := retl H hq19
      cases H
      exact ⟨trivial, .inl rfl, .inl rfl, trivial⟩
     ·replace H := iff_ h30 H
      refine zan ?_
      refine zab hN rfl ?_
      refine qd rfl ?_
      refine zaa (zfc rfl rfl (by omega)) ?_
      refine qe rfl ?_
      exact ⟨_, zio H, ⟨rfl, rfl, rfl, trivial⟩, trivial⟩
theorem zyj (s1 : Bs) (r : (Int × Bool)) (H : zrm s1 = some r) : Fn Tryz.prog 132 [vstr s1] (zbe [vint r.1, za2 r.2]) := by
 refine ⟨by kernel_rfl, za7 (us := [vint r.1, za2 r.2]) Tryz.func132 rfl rfl rfl rfl fun X hN => ?_⟩
 unfold zrm at H
 refine zac ?_
 refine zab hN rfl ?_
 refine qe rfl ?_
 refine qe rfl ?_
 refine zac ?_
 refine zab hN rfl ?_
 refine qd rfl ?_
 obtain ⟨r2, h3, H⟩ := bnd H
 refine zaa (zak (zxa s1 9 r2 h3) ⟨.inl rfl, .inl rfl, trivial⟩) ?_
 refine zaa (zbj rfl rfl) ?_
 refine zaa (zbj rfl rfl) ?_
 refine qe rfl ?_
 refine qe rfl ?_
 refine zap ?_
 cases H
 exact ⟨trivial, .inl rfl, .inl rfl, trivial⟩
theorem zv7 (n1 : Int) (low2 : Int) (high3 : Int) (r : (Bool)) (H : zpr n1 low2 high3 = some r) : Fn Tryz.prog 133 [vint n1, vint low2, vint high3] (zbe [za2 r]) := by
 refine ⟨by kernel_rfl, za7 (us := [za2 r]) Tryz.func133 rfl rfl rfl rfl fun X hN => ?_⟩
 unfold zpr at H
 refine zac ?_
 refine zab hN rfl ?_
 refine qe rfl ?_
 refine zac ?_
 refine zab hN rfl ?_
 refine qd rfl ?_
 refine qd rfl ?_
 refine zaa (za3 rfl rfl) ?_
 refine qd rfl ?_
 refine ziq rfl rfl (fun hc => zah (.dat _) rfl) ?_
 refine ziq rfl rfl (fun hc => zah (.dat _) rfl) ?_
 refine ziq rfl rfl (fun hc => zg1 (cnd (c := (!(decide (n1 < low2)))) hc) (cnd (c := (!(decide (n1 < low2)))) hc)) ?_
 refine zaa (zhz rfl rfl (fun hb => (cnd (c := (!(decide (n1 < low2)))) (notI hb)))) ?_
 refine qe rfl ?_
 refine zap ?_
 cases H
 exact ⟨trivial, .inl rfl, trivial⟩
theorem zsm (s1 : Bs) (r : (Bool)) (H : zm3 s1 = some r) : Fn Tryz.prog 131 [vstr s1] (zbe [za2 r]) := by
 refine ⟨by kernel_rfl, za7 (us := [za2 r]) Tryz.func131 rfl rfl rfl rfl fun X hN => ?_⟩
 unfold zm3 at H
 refine zac ?_
 refine zab hN rfl ?_
 refine qe rfl ?_
 refine zac ?_
 refine zac ?_
 refine zab hN rfl ?_
 refine qd rfl ?_
 refine zaa (za5 tyU9 rfl) ?_
 refine qd rfl ?_
 refine zat ?_
 obtain ⟨h4, H⟩ := gif H
 refine zed (fun (k2 : Nat) (s : Unit) => [(0, .dat (vstr s1)), (5, .dat (vint (s1.length : Int))), (6, .dat (vint (k2 : Int)))]) (fun (k2 : Nat) (s : Unit) => []) () H ⟨rfl, rfl, rfl, trivial⟩ trivial (fun _ _ => rfl) ?_ ?_
 ·rintro ⟨⟩ H
  replace H : zml s1 = some r := H
  unfold zml at H
  refine zac ?_
  refine zab hN rfl ?_
  refine zaa (za3 rfl rfl) ?_
  refine zac ?_
  refine zai _ rfl (fun h => (lt_t h).elim) (fun h => ?_)
  refine zbp ?_
  refine zax (ι := Bool) (fun i => [(2, .dat (za2 i))]) (fun i => []) (fun i => zg5 i = some r) (fun i => rfl) ?_ ?_
  ·skip
   refine zab hN rfl ?_
   refine qd rfl ?_
   refine zaa (zon rfl rfl) ?_
   refine qd rfl ?_
   refine zaz (j := 2) rfl rfl (fun h6 => ?_) (fun h6 => ?_) rfl
   ·have h7 := un1 h6
    replace H := ift h7 H
    refine zam rfl rfl h6 (zah (.dat _) rfl) ?_
    refine zam rfl rfl h6 (za5 tyU9 rfl) ?_
    refine zam rfl rfl h6 (zhp rfl rfl) ?_
    refine zaa (zas rfl (bTT h7) rfl) ?_
    refine qd rfl ?_
    refine zaz (j := 7) rfl rfl (fun h8 => ?_) (fun h8 => ?_) rfl
    ·have h9 := un1 h8
     replace H := ift h9 H
     refine zam rfl rfl h8 (zah (.dat _) rfl) ?_
     obtain ⟨x10, h11, H⟩ := bnd H
     refine zam rfl rfl h8 (zgg tyU9 rfl rfl h11) ?_
     refine zam rfl rfl h8 (zfw rfl rfl) ?_
     refine zaa (zas rfl (bTT h9) rfl) ?_
     refine qd rfl ?_
     refine zaz (j := 12) rfl rfl (fun h12 => ?_) (fun h12 => ?_) rfl
     ·have h13 := un1 h12
      replace H := ift h13 H
      refine zam rfl rfl h12 (zah (.dat _) rfl) ?_
      refine zam rfl rfl h12 (zah (.dat _) rfl) ?_
      refine zam rfl rfl h12 (za5 tyU9 rfl) ?_
      refine zam rfl rfl h12 (za8 _ rfl rfl (.inr (.inl ⟨rfl, rfl⟩))) ?_
      obtain ⟨x14, h15, H⟩ := bnd H
      refine zam rfl rfl h12 (zli tyU9 rfl rfl h15) ?_
      refine zam rfl rfl h12 (zfw rfl rfl) ?_
      refine zaa (zas rfl (bTT h13) rfl) ?_
      refine qe rfl ?_
      exact ⟨decide ((x14.toNat : Int) ≠ 45), H, ⟨rfl, trivial⟩, trivial⟩
     ·have h16 := un2 h12
      replace H := iff_ h16 H
      refine zae rfl rfl h12 ?_
      refine zae rfl rfl h12 ?_
      refine zae rfl rfl h12 ?_
      refine zae rfl rfl h12 ?_
      refine zae rfl rfl h12 ?_
      refine zae rfl rfl h12 ?_
      refine zaa (zaj rfl (bFF h16) rfl) ?_
      refine qe rfl ?_
      exact ⟨false, H, ⟨rfl, trivial⟩, trivial⟩
    ·have h17 := un2 h8
     replace H := iff_ h17 H
     refine zae rfl rfl h8 ?_
     refine zae rfl rfl h8 ?_
     refine zae rfl rfl h8 ?_
     refine zaa (zaj rfl (bFF h17) rfl) ?_
     refine qd rfl ?_
     refine zae rfl rfl rfl ?_
     refine zae rfl rfl rfl ?_
     refine zae rfl rfl rfl ?_
     refine zae rfl rfl rfl ?_
     refine zae rfl rfl rfl ?_
     refine zae rfl rfl rfl ?_
     refine zaa (zaj rfl rfl rfl) ?_
     refine qe rfl ?_
     exact ⟨false, H, ⟨rfl, trivial⟩, trivial⟩
   ·have h18 := un2 h6
    replace H := iff_ h18 H
    refine zae rfl rfl h6 ?_
    refine zae rfl rfl h6 ?_
    refine zae rfl rfl h6 ?_
    refine zaa (zaj rfl (bFF h18) rfl) ?_
    refine qd rfl ?_
    refine zae rfl rfl rfl ?_
    refine zae rfl rfl rfl ?_
    refine zae rfl rfl rfl ?_
    refine zaa (zaj rfl rfl rfl) ?_
    refine qd rfl ?_
    refine zae rfl rfl rfl ?_
    refine zae rfl rfl rfl ?_
    refine zae rfl rfl rfl ?_
    refine zae rfl rfl rfl ?_
    refine zae rfl rfl rfl ?_
    refine zae rfl rfl rfl ?_
    refine zaa (zaj rfl rfl rfl) ?_
    refine qe rfl ?_
    exact ⟨false, H, ⟨rfl, trivial⟩, trivial⟩
  ·rintro v19 H
   replace H : zg5 v19 = some r := H
   unfold zg5 at H
   refine zap ?_
   cases H
   exact ⟨trivial, .inl rfl, trivial⟩
 ·rintro k2 x5 ⟨⟩ q3 h20 h21 H hq3
  replace H : zmk k2 x5 = some q3 := H
  unfold zmk at H
  refine zac ?_
  refine zab hN rfl ?_
  refine zaa (za3 rfl rfl) ?_
  refine zac ?_
  refine zai _ rfl (fun h => ?_) (fun h => (lt_f h20 h).elim)
  refine zan ?_
  refine zac ?_
  refine zat ?_
  refine zac ?_
  refine zab hN rfl ?_
  refine qd rfl ?_
  refine qe rfl ?_
  refine zax (ι := Bool) (fun i => [(0, .dat (vstr s1)), (5, .dat (vint (s1.length : Int))), (6, .dat (vint (k2 : Int))), (26, .dat (za2 i))]) (fun i => []) (fun i => zis i = some q3) (fun i => rfl) ?_ ?_
  ·skip
   refine zab hN rfl ?_
   refine qd rfl ?_
   refine qd rfl ?_
   refine zaa (zgg tyU9 rfl rfl h21) ?_
   obtain ⟨r22, h23, H⟩ := bnd H
   refine zaa (zak (zmr (x5.toNat : Int) r22 h23) ⟨.inl rfl, trivial⟩) ?_
   refine zaa (zck rfl) ?_
   refine qd rfl ?_
   refine zaz (j := 5) rfl rfl (fun h24 => ?_) (fun h24 => ?_) rfl
   ·have h25 := un1 h24
    replace H := ift h25 H
    refine zam rfl rfl h24 (zah (.dat _) rfl) ?_
    refine zam rfl rfl h24 (zah (.dat _) rfl) ?_
    refine zam rfl rfl h24 (zgg tyU9 rfl rfl h21) ?_
    obtain ⟨r26, h27, H⟩ := bnd H
    refine zam rfl rfl h24 (zak (zly (x5.toNat : Int) r26 h27) ⟨.inl rfl, trivial⟩) ?_
    refine zam rfl rfl h24 (zck rfl) ?_
    refine zaa (zas rfl (bTT h25) rfl) ?_
    refine qd rfl ?_
    refine zaz (j := 12) rfl rfl (fun h28 => ?_) (fun h28 => ?_) rfl
    ·have h29 := un1 h28
     replace H := ift h29 H
     refine zam rfl rfl h28 (zah (.dat _) rfl) ?_
     refine zam rfl rfl h28 (zah (.dat _) rfl) ?_
     refine zam rfl rfl h28 (zgg tyU9 rfl rfl h21) ?_
     refine zam rfl rfl h28 (zfw rfl rfl) ?_
     refine zaa (zas rfl (bTT h29) rfl) ?_
     exact ⟨decide ((x5.toNat : Int) ≠ 45), H, ⟨rfl, rfl, rfl, rfl, trivial⟩, trivial⟩
    ·have h30 := un2 h28
     replace H := iff_ h30 H
     refine zae rfl rfl h28 ?_
     refine zae rfl rfl h28 ?_
     refine zae rfl rfl h28 ?_
     refine zae rfl rfl h28 ?_
     refine zaa (zaj rfl (bFF h30) rfl) ?_
     exact ⟨false, H, ⟨rfl, rfl, rfl, rfl, trivial⟩, trivial⟩
   ·have h31 := un2 h24
    replace H := iff_ h31 H
    refine zae rfl rfl h24 ?_
    refine zae rfl rfl h24 ?_
    refine zae rfl rfl h24 ?_
    refine zae rfl rfl h24 ?_
    refine zae rfl rfl h24 ?_
    refine zaa (zaj rfl (bFF h31) rfl) ?_
    refine qd rfl ?_
    refine zae rfl rfl rfl ?_
    refine zae rfl rfl rfl ?_
    refine zae rfl rfl rfl ?_
    refine zae rfl rfl rfl ?_
    refine zaa (zaj rfl rfl rfl) ?_
    exact ⟨false, H, ⟨rfl, rfl, rfl, rfl, trivial⟩, trivial⟩
  ·rintro v32 H
   replace H : zis v32 = some q3 := H
   unfold zis at H
   refine zai _ rfl (fun h33 => ?_) (fun h33 => ?_)
   ·replace H := ift h33 H
    refine zac ?_
    refine zab hN rfl ?_
    refine qe rfl ?_
    refine zap ?_
    replace H := retl H hq3
    cases H
    exact ⟨trivial, .inl rfl, trivial⟩
   ·replace H := iff_ h33 H
    refine zan ?_
    refine zab hN rfl ?_
    refine zaa (zfc rfl rfl (by omega)) ?_
    refine qd rfl ?_
    exact ⟨_, zio H, ⟨rfl, rfl, rfl, trivial⟩, trivial⟩
end Go.Proofs.YthgblfklceopgaaGreatDoor
