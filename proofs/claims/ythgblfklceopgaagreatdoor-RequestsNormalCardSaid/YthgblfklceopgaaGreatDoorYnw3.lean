/- Walks along the models. Printed by a program. -/
import Derived.Test.YthgblfklceopgaaGreatDoorYnw2
namespace Go.Proofs.YthgblfklceopgaaGreatDoor
open Go.RowKit
set_option linter.unusedVariables false
set_option maxRecDepth 20000
set_option maxHeartbeats 2000000
theorem zp1 (s1 : Bs) (r : (Bool)) (H : zi1 s1 = some r) : Fn Tryz.prog 84 [vstr s1] (zbe [za2 r]) := by
 refine ⟨by kernel_rfl, za7 (us := [za2 r]) Tryz.func84 rfl rfl rfl rfl fun X hN => ?_⟩
 unfold zi1 at H
 refine zac ?_
 refine zab hN rfl ?_
 refine qe rfl ?_
 refine zac ?_
 refine zab hN rfl ?_
 refine qd rfl ?_
 obtain ⟨r2, h3, H⟩ := bnd H
 refine zaa (zak (zmq s1 [58] r2 h3) ⟨.inl rfl, .inl rfl, trivial⟩) ?_
 refine qd rfl ?_
 refine zaa (zbj rfl rfl) ?_
 refine zaa (zbj rfl rfl) ?_
 refine zaa (zbj rfl rfl) ?_
 refine qe rfl ?_
 refine qe rfl ?_
 refine qe rfl ?_
 refine zac ?_
 refine zac ?_
 refine zab hN rfl ?_
 refine qd rfl ?_
 obtain ⟨r4, h5, H⟩ := bnd H
 refine zaa (zak (zkp r2.1 [46] r4 h5) ⟨.inl rfl, .inl rfl, trivial⟩) ?_
 refine zaa (zks zse rfl) ?_
 refine qd rfl ?_
 refine zat ?_
 obtain ⟨h8, H⟩ := gif H
 refine zed (fun (k6 : Nat) (s : Unit) => [(0, .dat (vstr s1)), (4, .dat (vstr r2.2.1)), (5, .dat (za2 r2.2.2)), (17, .dat (vlst (List.map zay r4))), (18, .dat (vint (r4.length : Int))), (19, .dat (vint (k6 : Int)))]) (fun (k6 : Nat) (s : Unit) => []) () H ⟨rfl, rfl, rfl, rfl, rfl, rfl, trivial⟩ trivial (fun _ _ => rfl) ?_ ?_
 ·rintro ⟨⟩ H
  replace H : zls s1 r2 = some r := H
  unfold zls at H
  refine zac ?_
  refine zab hN rfl ?_
  refine zaa (za3 rfl rfl) ?_
  refine zac ?_
  refine zai _ rfl (fun h => (lt_t h).elim) (fun h => ?_)
  refine zbp ?_
  refine zac ?_
  refine zab hN rfl ?_
  refine qd rfl ?_
  obtain ⟨r10, h11, H⟩ := bnd H
  refine zaa (zak (zyj r2.2.1 r10 h11) ⟨.inl rfl, trivial⟩) ?_
  refine qd rfl ?_
  refine zaa (zbj rfl rfl) ?_
  refine zaa (zbj rfl rfl) ?_
  refine qe rfl ?_
  refine qe rfl ?_
  refine zax (ι := Bool) (fun i => [(2, .dat (za2 i))]) (fun i => []) (fun i => zh1 i = some r) (fun i => rfl) ?_ ?_
  ·skip
   refine zab hN rfl ?_
   refine qd rfl ?_
   refine zaa (za5 tyU9 rfl) ?_
   refine zaa (zhp rfl rfl) ?_
   refine qd rfl ?_
   refine zaz (j := 3) rfl rfl (fun h12 => ?_) (fun h12 => ?_) rfl
   ·have h13 := un1 h12
    replace H := ift h13 H
    refine zam rfl rfl h12 (zah (.dat _) rfl) ?_
    refine zam rfl rfl h12 (zck rfl) ?_
    refine zam rfl rfl h12 (zah (.dat _) rfl) ?_
    refine zaz (j := 6) rfl rfl (fun h14 => ?_) (fun h14 => ?_) rfl
    ·have h15 := un3 h14
     replace H := iff_ h15 H
     refine zam rfl rfl h14 (zah (.dat _) rfl) ?_
     refine zam rfl rfl h14 (zah (.dat _) rfl) ?_
     refine zaz (j := 8) rfl rfl (fun h16 => ?_) (fun h16 => ?_) rfl
     ·have h17 := un1 h16
      replace H := ift h17 H
      refine zam rfl rfl h16 (zah (.dat _) rfl) ?_
      obtain ⟨r18, h19, H⟩ := bnd H
      refine zam rfl rfl h16 (zak (zv7 r10.1 1 65535 r18 h19) ⟨.inl rfl, .inl rfl, .inl rfl, trivial⟩) ?_
      refine zam rfl rfl h16 (zck rfl) ?_
      refine zam rfl rfl h14 (zas rfl (bTT h17) rfl) ?_
      refine zam rfl rfl h12 (zaj rfl (bFF h15) rfl) ?_
      refine zaa (zas rfl (bTT h13) rfl) ?_
      refine qe rfl ?_
      exact ⟨!r18, H, ⟨rfl, trivial⟩, trivial⟩
     ·have h20 := un2 h16
      replace H := iff_ h20 H
      refine zae rfl rfl h16 ?_
      refine zae rfl rfl h16 ?_
      refine zae rfl rfl h16 ?_
      refine zam rfl rfl h14 (zaj rfl (bFF h20) rfl) ?_
      refine zam rfl rfl h12 (zaj rfl (bFF h15) rfl) ?_
      refine zaa (zas rfl (bTT h13) rfl) ?_
      refine qe rfl ?_
      exact ⟨false, H, ⟨rfl, trivial⟩, trivial⟩
    ·have h21 := un4 h14
     replace H := ift h21 H
     refine zae rfl rfl h14 ?_
     refine zae rfl rfl h14 ?_
     refine zbc rfl rfl ?_
     refine zbc rfl rfl ?_
     refine zbc rfl rfl ?_
     refine zae rfl rfl h14 ?_
     refine zam rfl rfl h12 (zas rfl (bTT h21) rfl) ?_
     refine zaa (zas rfl (bTT h13) rfl) ?_
     refine qe rfl ?_
     exact ⟨true, H, ⟨rfl, trivial⟩, trivial⟩
   ·have h22 := un2 h12
    replace H := iff_ h22 H
    refine zae rfl rfl h12 ?_
    refine zae rfl rfl h12 ?_
    refine zae rfl rfl h12 ?_
    refine zbc rfl rfl ?_
    refine zbc rfl rfl ?_
    refine zbc rfl rfl ?_
    refine zbc rfl rfl ?_
    refine zbc rfl rfl ?_
    refine zbc rfl rfl ?_
    refine zae rfl rfl h12 ?_
    refine zaa (zaj rfl (bFF h22) rfl) ?_
    refine qe rfl ?_
    exact ⟨false, H, ⟨rfl, trivial⟩, trivial⟩
  ·rintro v23 H
   replace H : zh1 v23 = some r := H
   unfold zh1 at H
   refine zap ?_
   cases H
   exact ⟨trivial, .inl rfl, trivial⟩
 ·rintro k6 x9 ⟨⟩ q7 h24 h25 H hq7
  replace H : zlr k6 x9 = some q7 := H
  unfold zlr at H
  refine zac ?_
  refine zab hN rfl ?_
  refine zaa (za3 rfl rfl) ?_
  refine zac ?_
  refine zai _ rfl (fun h => ?_) (fun h => (lt_f h24 h).elim)
  refine zan ?_
  refine zac ?_
  refine zat ?_
  refine zac ?_
  refine zab hN rfl ?_
  refine zaa (zn2 zut (fun _ => rfl) rfl rfl h25) ?_
  refine zaa (ze9 tyS9 rfl (zjk h25) rfl) ?_
  refine qe rfl ?_
  refine zac ?_
  refine zab hN rfl ?_
  refine qd rfl ?_
  obtain ⟨r26, h27, H⟩ := bnd H
  refine zaa (zak (zsm x9 r26 h27) ⟨.inl rfl, trivial⟩) ?_
  refine zaa (zck rfl) ?_
  refine zai _ rfl (fun h28 => ?_) (fun h28 => ?_)
  ·replace H := ift h28 H
   refine zac ?_
   refine zab hN rfl ?_
   refine qe rfl ?_
   refine zap ?_
   replace H := retl H hq7
   cases H
   exact ⟨trivial, .inl rfl, trivial⟩
  ·replace H := iff_ h28 H
   refine zan ?_
   refine zab hN rfl ?_
   refine zaa (zfc rfl rfl (by omega)) ?_
   refine qd rfl ?_
   exact ⟨_, zio H, ⟨rfl, rfl, rfl, rfl, rfl, rfl, trivial⟩, trivial⟩
theorem zro (s p : Bs) (r : Bool) (H : zmb s p = some r) : Fn Tryz.prog 77 [vstr s, vstr p] (zbe [za2 r]) := by
 cases H
 refine zpx (by kernel_rfl) fun M w vs h => ?_
 have h1 := zl1 (us := [.string ⟨s.toArray⟩, .string ⟨p.toArray⟩]) h
 subst h1
 refine (Tryz.strings_HasPrefix ⟨s.toArray⟩ ⟨p.toArray⟩ w).mono ?_
 rintro e w' ⟨rfl, rfl⟩
 exact ⟨_, rfl, rfl, Kp.refl _ _⟩
theorem zm8 (s1 : Bs) (low2 : Int) (high3 : Int) (r : (Bool)) (H : zfr s1 low2 high3 = some r) : Fn Tryz.prog 115 [vstr s1, vval (.int .u8 low2), vval (.int .u8 high3)] (zbe [za2 r]) := by
 refine ⟨by kernel_rfl, za7 (us := [za2 r]) Tryz.func115 rfl rfl rfl rfl fun X hN => ?_⟩
 unfold zfr at H
 refine zac ?_
 refine zab hN rfl ?_
 refine qe rfl ?_
 refine zac ?_
 refine zac ?_
 refine zab hN rfl ?_
 refine qd rfl ?_
 refine zaa (za5 tyU9 rfl) ?_
 refine qd rfl ?_
 refine zat ?_
 obtain ⟨h6, H⟩ := gif H
 refine zed (fun (k4 : Nat) (s : Unit) => [(0, .dat (vstr s1)), (1, .dat (vval (.int .u8 low2))), (2, .dat (vval (.int .u8 high3))), (9, .dat (vint (s1.length : Int))), (10, .dat (vint (k4 : Int)))]) (fun (k4 : Nat) (s : Unit) => []) () H ⟨rfl, rfl, rfl, rfl, rfl, trivial⟩ trivial (fun _ _ => rfl) ?_ ?_
 ·rintro ⟨⟩ H
  replace H : zla = some r := H
  unfold zla at H
  refine zac ?_
  refine zab hN rfl ?_
  refine zaa (za3 rfl rfl) ?_
  refine zac ?_
  refine zai _ rfl (fun h => (lt_t h).elim) (fun h => ?_)
  refine zbp ?_
  refine zac ?_
  refine zab hN rfl ?_
  refine qe rfl ?_
  refine zap ?_
  cases H
  exact ⟨trivial, .inl rfl, trivial⟩
 ·rintro k4 x7 ⟨⟩ q5 h8 h9 H hq5
  replace H : zk9 low2 high3 k4 x7 = some q5 := H
  unfold zk9 at H
  refine zac ?_
  refine zab hN rfl ?_
  refine zaa (za3 rfl rfl) ?_
  refine zac ?_
  refine zai _ rfl (fun h => ?_) (fun h => (lt_f h8 h).elim)
  refine zan ?_
  refine zac ?_
  refine zat ?_
  refine zac ?_
  refine zab hN rfl ?_
  refine qd rfl ?_
  refine qe rfl ?_
  refine zax (ι := Bool) (fun i => [(0, .dat (vstr s1)), (1, .dat (vval (.int .u8 low2))), (2, .dat (vval (.int .u8 high3))), (9, .dat (vint (s1.length : Int))), (10, .dat (vint (k4 : Int))), (24, .dat (za2 i))]) (fun i => []) (fun i => zir i = some q5) (fun i => rfl) ?_ ?_
  ·skip
   refine zab hN rfl ?_
   refine qd rfl ?_
   refine qd rfl ?_
   refine zaa (zgg tyU9 rfl rfl h9) ?_
   refine qd rfl ?_
   refine zaa (za3 rfl rfl) ?_
   refine qd rfl ?_
   refine zaz (j := 5) rfl rfl (fun h10 => ?_) (fun h10 => ?_) rfl
   ·have h11 := un3 h10
    replace H := iff_ h11 H
    refine zam rfl rfl h10 (zah (.dat _) rfl) ?_
    refine zam rfl rfl h10 (zah (.dat _) rfl) ?_
    refine zam rfl rfl h10 (zgg tyU9 rfl rfl h9) ?_
    refine zam rfl rfl h10 (zah (.dat _) rfl) ?_
    refine zam rfl rfl h10 (zg1 rfl rfl) ?_
    refine zaa (zaj rfl (bFF h11) rfl) ?_
    exact ⟨decide (high3 < (x7.toNat : Int)), H, ⟨rfl, rfl, rfl, rfl, rfl, rfl, trivial⟩, trivial⟩
   ·have h12 := un4 h10
    replace H := ift h12 H
    refine zae rfl rfl h10 ?_
    refine zae rfl rfl h10 ?_
    refine zae rfl rfl h10 ?_
    refine zae rfl rfl h10 ?_
    refine zae rfl rfl h10 ?_
    refine zaa (zas rfl (bTT h12) rfl) ?_
    exact ⟨true, H, ⟨rfl, rfl, rfl, rfl, rfl, rfl, trivial⟩, trivial⟩
  ·rintro v13 H
   replace H : zir v13 = some q5 := H
   unfold zir at H
   refine zai _ rfl (fun h14 => ?_) (fun h14 => ?_)
   ·replace H := ift h14 H
    refine zac ?_
    refine zab hN rfl ?_
    refine qe rfl ?_
    refine zap ?_
    replace H := retl H hq5
    cases H
    exact ⟨trivial, .inl rfl, trivial⟩
   ·replace H := iff_ h14 H
    refine zan ?_
    refine zab hN rfl ?_
    refine zaa (zfc rfl rfl (by omega)) ?_
    refine qd rfl ?_
    exact ⟨_, zio H, ⟨rfl, rfl, rfl, rfl, rfl, trivial⟩, trivial⟩
theorem znj (s p : Bs) (r : Bool) (H : zgm s p = some r) : Fn Tryz.prog 134 [vstr s, vstr p] (zbe [za2 r]) := by
 unfold zgm at H
 obtain ⟨⟨⟨h1, h2⟩, h3, h4⟩, h5⟩ := gif H
 cases h5
 refine zin (by kernel_rfl) fun M w vs hM h => ?_
 have hv := zl1 (us := [.string ⟨s.toArray⟩, .string ⟨p.toArray⟩]) h
 subst hv
 refine (Tryz.strings_ContainsAny_laid ⟨s.toArray⟩ ⟨p.toArray⟩ w (by simp [ByteArray.size]; omega) (by simp [ByteArray.size]; omega) (fun j b hb => zsz h3 j b (by simpa using hb)) (fun j b hb => zsz h4 j b (by simpa using hb))).mono ?_
 rintro e w' ⟨rfl, hb⟩
 exact ⟨_, rfl, rfl, Kp.of_below hb⟩

theorem zof (s1 : Bs) (r : (Int)) (H : zgd s1 = some r) : Fn Tryz.prog 85 [vstr s1] (zbe [vint r]) := by
 refine ⟨by kernel_rfl, za7 (us := [vint r]) Tryz.func85 rfl rfl rfl rfl fun X hN => ?_⟩
 unfold zgd at H
 refine zac ?_
 refine zab hN rfl ?_
 refine qe rfl ?_
 refine zac ?_
 refine zax (ι := Bool) (fun i => [(19, .dat (za2 i))]) (fun i => []) (fun i => zei i = some r) (fun i => rfl) ?_ ?_
 ·skip
  refine zab hN rfl ?_
  refine qd rfl ?_
  refine zaa (za5 tyU9 rfl) ?_
  refine zaa (zg1 rfl rfl) ?_
  refine qd rfl ?_
  refine zaz (j := 3) rfl rfl (fun h2 => ?_) (fun h2 => ?_) rfl
  ·have h3 := un3 h2
   replace H := iff_ h3 H
   refine zam rfl rfl h2 (zah (.dat _) rfl) ?_
   obtain ⟨r4, h5, H⟩ := bnd H
   refine zam rfl rfl h2 (zak (zro s1 [47] r4 h5) ⟨.inl rfl, .inl rfl, trivial⟩) ?_
   refine zam rfl rfl h2 (zck rfl) ?_
   refine zaa (zaj rfl (bFF h3) rfl) ?_
   refine qd rfl ?_
   refine zaz (j := 8) rfl rfl (fun h6 => ?_) (fun h6 => ?_) rfl
   ·have h7 := un3 h6
    replace H := iff_ h7 H
    refine zam rfl rfl h6 (zah (.dat _) rfl) ?_
    obtain ⟨r8, h9, H⟩ := bnd H
    refine zam rfl rfl h6 (zak (zm8 s1 33 126 r8 h9) ⟨.inl rfl, .inl rfl, .inl rfl, trivial⟩) ?_
    refine zam rfl rfl h6 (zck rfl) ?_
    refine zaa (zaj rfl (bFF h7) rfl) ?_
    refine qd rfl ?_
    refine zaz (j := 13) rfl rfl (fun h10 => ?_) (fun h10 => ?_) rfl
    ·have h11 := un3 h10
     replace H := iff_ h11 H
     refine zam rfl rfl h10 (zah (.dat _) rfl) ?_
     obtain ⟨r12, h13, H⟩ := bnd H
     refine zam rfl rfl h10 (zak (znj s1 [63, 35] r12 h13) ⟨.inl rfl, .inl rfl, trivial⟩) ?_
     refine zaa (zaj rfl (bFF h11) rfl) ?_
     exact ⟨r12, H, ⟨rfl, trivial⟩, trivial⟩
    ·have h14 := un4 h10
     replace H := ift h14 H
     refine zae rfl rfl h10 ?_
     refine zae rfl rfl h10 ?_
     refine zaa (zas rfl (bTT h14) rfl) ?_
     exact ⟨true, H, ⟨rfl, trivial⟩, trivial⟩
   ·have h15 := un4 h6
    replace H := ift h15 H
    refine zae rfl rfl h6 ?_
    refine zae rfl rfl h6 ?_
    refine zae rfl rfl h6 ?_
    refine zaa (zas rfl (bTT h15) rfl) ?_
    refine qd rfl ?_
    refine zae rfl rfl rfl ?_
    refine zae rfl rfl rfl ?_
    refine zaa (zas rfl rfl rfl) ?_
    exact ⟨true, H, ⟨rfl, trivial⟩, trivial⟩
  ·have h16 := un4 h2
   replace H := ift h16 H
   refine zae rfl rfl h2 ?_
   refine zae rfl rfl h2 ?_
   refine zae rfl rfl h2 ?_
   refine zaa (zas rfl (bTT h16) rfl) ?_
   refine qd rfl ?_
   refine zae rfl rfl rfl ?_
   refine zae rfl rfl rfl ?_
   refine zae rfl rfl rfl ?_
   refine zaa (zas rfl rfl rfl) ?_
   refine qd rfl ?_
   refine zae rfl rfl rfl ?_
   refine zae rfl rfl rfl ?_
   refine zaa (zas rfl rfl rfl) ?_
   exact ⟨true, H, ⟨rfl, trivial⟩, trivial⟩
 ·rintro v17 H
  replace H : zei v17 = some r := H
  unfold zei at H
  refine zai _ rfl (fun h18 => ?_) (fun h18 => ?_)
  ·replace H := ift h18 H
   refine zac ?_
   refine zab hN rfl ?_
   refine qe rfl ?_
   refine zap ?_
   cases H
   exact ⟨trivial, .inl rfl, trivial⟩
  ·replace H := iff_ h18 H
   refine zan ?_
   refine zac ?_
   refine zab hN rfl ?_
   refine qe rfl ?_
   refine zap ?_
   cases H
   exact ⟨trivial, .inl rfl, trivial⟩
theorem zor (s p : Bs) (r : Bool) (H : zf1 s p = some r) : Fn Tryz.prog 135 [vstr s, vstr p] (zbe [za2 r]) := by
 unfold zf1 at H
 obtain ⟨h1, h2⟩ := gif H
 cases h2
 refine zin (by kernel_rfl) fun M w vs hM h => ?_
 have hv := zl1 (us := [.string ⟨s.toArray⟩, .string ⟨p.toArray⟩]) h
 subst hv
 obtain ⟨m, hm⟩ := zpq hM
 refine (Tryz.strings_Contains ⟨s.toArray⟩ ⟨p.toArray⟩ m w (by simp [ByteArray.size]; omega) hm).mono ?_
 rintro e w' ⟨rfl, rfl⟩
 exact ⟨_, rfl, rfl, Kp.refl _ _⟩

theorem znx (s1 : Bs) (r : (Int)) (H : zcd s1 = some r) : Fn Tryz.prog 86 [vstr s1] (zbe [vint r]) := by
 refine ⟨by kernel_rfl, za7 (us := [vint r]) Tryz.func86 rfl rfl rfl rfl fun X hN => ?_⟩
 unfold zcd at H
 refine zac ?_
 refine zab hN rfl ?_
 refine qe rfl ?_
 refine zac ?_
 refine zax (ι := Bool) (fun i => [(14, .dat (za2 i))]) (fun i => []) (fun i => zcg i = some r) (fun i => rfl) ?_ ?_
 ·skip
  refine zab hN rfl ?_
  refine qd rfl ?_
  refine zaa (za5 tyU9 rfl) ?_
  refine zaa (zg1 rfl rfl) ?_
  refine qd rfl ?_
  refine zaz (j := 3) rfl rfl (fun h2 => ?_) (fun h2 => ?_) rfl
  ·have h3 := un3 h2
   replace H := iff_ h3 H
   refine zam rfl rfl h2 (zah (.dat _) rfl) ?_
   obtain ⟨r4, h5, H⟩ := bnd H
   refine zam rfl rfl h2 (zak (zm8 s1 33 126 r4 h5) ⟨.inl rfl, .inl rfl, .inl rfl, trivial⟩) ?_
   refine zam rfl rfl h2 (zck rfl) ?_
   refine zaa (zaj rfl (bFF h3) rfl) ?_
   refine qd rfl ?_
   refine zaz (j := 8) rfl rfl (fun h6 => ?_) (fun h6 => ?_) rfl
   ·have h7 := un3 h6
    replace H := iff_ h7 H
    refine zam rfl rfl h6 (zah (.dat _) rfl) ?_
    obtain ⟨r8, h9, H⟩ := bnd H
    refine zam rfl rfl h6 (zak (zor s1 [35] r8 h9) ⟨.inl rfl, .inl rfl, trivial⟩) ?_
    refine zaa (zaj rfl (bFF h7) rfl) ?_
    exact ⟨r8, H, ⟨rfl, trivial⟩, trivial⟩
   ·have h10 := un4 h6
    replace H := ift h10 H
    refine zae rfl rfl h6 ?_
    refine zae rfl rfl h6 ?_
    refine zaa (zas rfl (bTT h10) rfl) ?_
    exact ⟨true, H, ⟨rfl, trivial⟩, trivial⟩
  ·have h11 := un4 h2
   replace H := ift h11 H
   refine zae rfl rfl h2 ?_
   refine zae rfl rfl h2 ?_
   refine zae rfl rfl h2 ?_
   refine zaa (zas rfl (bTT h11) rfl) ?_
   refine qd rfl ?_
   refine zae rfl rfl rfl ?_
   refine zae rfl rfl rfl ?_
   refine zaa (zas rfl rfl rfl) ?_
   exact ⟨true, H, ⟨rfl, trivial⟩, trivial⟩
 ·rintro v12 H
  replace H : zcg v12 = some r := H
  unfold zcg at H
  refine zai _ rfl (fun h13 => ?_) (fun h13 => ?_)
  ·replace H := ift h13 H
   refine zac ?_
   refine zab hN rfl ?_
   refine qe rfl ?_
   refine zap ?_
   cases H
   exact ⟨trivial, .inl rfl, trivial⟩
  ·replace H := iff_ h13 H
   refine zan ?_
   refine zac ?_
   refine zab hN rfl ?_
   refine qe rfl ?_
   refine zap ?_
   cases H
   exact ⟨trivial, .inl rfl, trivial⟩
theorem zpu (s1 : Bs) (c2 : Int) (r : (Bs)) (H : zdg s1 c2 = some r) : Fn Tryz.prog 119 [vstr s1, vval (.int .u8 c2)] (zbe [vstr r]) := by
 refine ⟨by kernel_rfl, za7 (us := [vstr r]) Tryz.func119 rfl rfl rfl rfl fun X hN => ?_⟩
 unfold zdg at H
 refine zac ?_
 refine zab hN rfl ?_
 refine qe rfl ?_
 refine zax (ι := Bs) (fun i => [(0, .dat (vstr i))]) (fun i => []) (fun i => zgi i = some r) (fun i => rfl) ?_ ?_
 ·skip
  refine zat ?_
  refine zlf (fun (s : Bs) => [(0, .dat (vstr s)), (1, .dat (vval (.int .u8 c2)))]) (fun (s : Bs) => []) s1 H ⟨rfl, rfl, trivial⟩ trivial (fun _ => rfl) ?_
  rintro s3 q4 H hq4
  replace H : zgh c2 s3 = some q4 := H
  unfold zgh at H
  refine zac ?_
  refine zax (ι := Bool) (fun i => [(0, .dat (vstr s3)), (1, .dat (vval (.int .u8 c2))), (16, .dat (za2 i))]) (fun i => []) (fun i => zdq s3 i = some q4) (fun i => rfl) ?_ ?_
  ·skip
   refine zab hN rfl ?_
   refine qd rfl ?_
   refine zaa (za5 tyU9 rfl) ?_
   refine zaa (zg1 rfl rfl) ?_
   refine qd rfl ?_
   refine zaz (j := 3) rfl rfl (fun h5 => ?_) (fun h5 => ?_) rfl
   ·have h6 := un1 h5
    replace H := ift h6 H
    refine zam rfl rfl h5 (zah (.dat _) rfl) ?_
    refine zam rfl rfl h5 (zah (.dat _) rfl) ?_
    refine zam rfl rfl h5 (za5 tyU9 rfl) ?_
    refine zam rfl rfl h5 (za8 _ rfl rfl (.inr (.inl ⟨rfl, rfl⟩))) ?_
    obtain ⟨x7, h8, H⟩ := bnd H
    refine zam rfl rfl h5 (zli tyU9 rfl rfl h8) ?_
    refine zam rfl rfl h5 (zah (.dat _) rfl) ?_
    refine zam rfl rfl h5 (zb6 rfl rfl) ?_
    refine zaa (zas rfl (bTT h6) rfl) ?_
    exact ⟨decide ((x7.toNat : Int) = c2), H, ⟨rfl, rfl, rfl, trivial⟩, trivial⟩
   ·have h9 := un2 h5
    replace H := iff_ h9 H
    refine zae rfl rfl h5 ?_
    refine zae rfl rfl h5 ?_
    refine zae rfl rfl h5 ?_
    refine zae rfl rfl h5 ?_
    refine zae rfl rfl h5 ?_
    refine zae rfl rfl h5 ?_
    refine zae rfl rfl h5 ?_
    refine zaa (zaj rfl (bFF h9) rfl) ?_
    exact ⟨false, H, ⟨rfl, rfl, rfl, trivial⟩, trivial⟩
  ·rintro v10 H
   replace H : zdq s3 v10 = some q4 := H
   unfold zdq at H
   refine zai _ rfl (fun h11 => ?_) (fun h11 => ?_)
   ·replace H := ift h11 H
    refine zan ?_
    refine zat ?_
    refine zab hN rfl ?_
    refine qd rfl ?_
    refine qd rfl ?_
    refine zaa (za5 tyU9 rfl) ?_
    refine zaa (za8 _ rfl rfl (.inr (.inl ⟨rfl, rfl⟩))) ?_
    obtain ⟨l12, h13, H⟩ := bnd H
    refine zaa (zl0 tyU9 rfl rfl rfl h13) ?_
    refine qe rfl ?_
    exact ⟨_, zio H, ⟨rfl, rfl, trivial⟩, trivial⟩
   ·replace H := iff_ h11 H
    refine zbp ?_
    replace H := outl H hq4
    exact ⟨s3, H, ⟨rfl, trivial⟩, trivial⟩
 ·rintro s14 H
  replace H : zgi s14 = some r := H
  unfold zgi at H
  refine zac ?_
  refine zab hN rfl ?_
  refine qd rfl ?_
  refine qe rfl ?_
  refine zap ?_
  cases H
  exact ⟨trivial, .inl rfl, trivial⟩
theorem zp7 (s1 : Bs) (c2 : Int) (r : (Bs)) (H : zeo s1 c2 = some r) : Fn Tryz.prog 118 [vstr s1, vval (.int .u8 c2)] (zbe [vstr r]) := by
 refine ⟨by kernel_rfl, za7 (us := [vstr r]) Tryz.func118 rfl rfl rfl rfl fun X hN => ?_⟩
 unfold zeo at H
 refine zac ?_
 refine zab hN rfl ?_
 refine qe rfl ?_
 refine zax (ι := Bs) (fun i => [(0, .dat (vstr i))]) (fun i => []) (fun i => zg0 i = some r) (fun i => rfl) ?_ ?_
 ·skip
  refine zat ?_
  refine zlf (fun (s : Bs) => [(0, .dat (vstr s)), (1, .dat (vval (.int .u8 c2)))]) (fun (s : Bs) => []) s1 H ⟨rfl, rfl, trivial⟩ trivial (fun _ => rfl) ?_
  rintro s3 q4 H hq4
  replace H : zgz c2 s3 = some q4 := H
  unfold zgz at H
  refine zac ?_
  refine zax (ι := Bool) (fun i => [(0, .dat (vstr s3)), (1, .dat (vval (.int .u8 c2))), (13, .dat (za2 i))]) (fun i => []) (fun i => zd3 s3 i = some q4) (fun i => rfl) ?_ ?_
  ·skip
   refine zab hN rfl ?_
   refine qd rfl ?_
   refine zaa (za5 tyU9 rfl) ?_
   refine zaa (zg1 rfl rfl) ?_
   refine qd rfl ?_
   refine zaz (j := 3) rfl rfl (fun h5 => ?_) (fun h5 => ?_) rfl
   ·have h6 := un1 h5
    replace H := ift h6 H
    refine zam rfl rfl h5 (zah (.dat _) rfl) ?_
    obtain ⟨x7, h8, H⟩ := bnd H
    refine zam rfl rfl h5 (zgg tyU9 rfl rfl h8) ?_
    refine zam rfl rfl h5 (zah (.dat _) rfl) ?_
    refine zam rfl rfl h5 (zb6 rfl rfl) ?_
    refine zaa (zas rfl (bTT h6) rfl) ?_
    exact ⟨decide ((x7.toNat : Int) = c2), H, ⟨rfl, rfl, rfl, trivial⟩, trivial⟩
   ·have h9 := un2 h5
    replace H := iff_ h9 H
    refine zae rfl rfl h5 ?_
    refine zae rfl rfl h5 ?_
    refine zae rfl rfl h5 ?_
    refine zae rfl rfl h5 ?_
    refine zaa (zaj rfl (bFF h9) rfl) ?_
    exact ⟨false, H, ⟨rfl, rfl, rfl, trivial⟩, trivial⟩
  ·rintro v10 H
   replace H : zd3 s3 v10 = some q4 := H
   unfold zd3 at H
   refine zai _ rfl (fun h11 => ?_) (fun h11 => ?_)
   ·replace H := ift h11 H
    refine zan ?_
    refine zat ?_
    refine zab hN rfl ?_
    refine qd rfl ?_
    obtain ⟨l12, h13, H⟩ := bnd H
    refine zaa (zl0 tyU9 rfl rfl rfl h13) ?_
    refine qe rfl ?_
    exact ⟨_, zio H, ⟨rfl, rfl, trivial⟩, trivial⟩
   ·replace H := iff_ h11 H
    refine zbp ?_
    replace H := outl H hq4
    exact ⟨s3, H, ⟨rfl, trivial⟩, trivial⟩
 ·rintro s14 H
  replace H : zg0 s14 = some r := H
  unfold zg0 at H
  refine zac ?_
  refine zab hN rfl ?_
  refine qd rfl ?_
  refine qe rfl ?_
  refine zap ?_
  cases H
  exact ⟨trivial, .inl rfl, trivial⟩
theorem zox (s1 : Bs) (cutset2 : Bs) (r : (Bs)) (H : zj8 s1 cutset2 = some r) : Fn Tryz.prog 65 [vstr s1, vstr cutset2] (zbe [vstr r]) := by
 refine ⟨by kernel_rfl, za7 (us := [vstr r]) Tryz.func65 rfl rfl rfl rfl fun X hN => ?_⟩
 unfold zj8 at H
 refine zac ?_
 refine zab hN rfl ?_
 refine qe rfl ?_
 refine zac ?_
 refine zac ?_
 refine zab hN rfl ?_
 refine qd rfl ?_
 refine zaa (zdw rfl rfl) ?_
 refine qd rfl ?_
 refine ziq rfl rfl (fun hc => zah (.dat _) rfl) ?_
 refine ziq rfl rfl (fun hc => zdw (cnd (c := (!(decide (s1 = [])))) hc) rfl) ?_
 refine zaa (zhz rfl rfl (fun hb => (cnd (c := (!(decide (s1 = [])))) (notI hb)))) ?_
 refine zai _ rfl (fun h3 => ?_) (fun h3 => ?_)
 ·replace H := ift h3 H
  refine zac ?_
  refine zab hN rfl ?_
  refine qd rfl ?_
  refine qe rfl ?_
  refine zap ?_
  cases H
  exact ⟨trivial, .inl rfl, trivial⟩
 ·replace H := iff_ h3 H
  refine zan ?_
  refine zac ?_
  refine zax (ι := Bool) (fun i => [(0, .dat (vstr s1)), (1, .dat (vstr cutset2)), (21, .dat (za2 i))]) (fun i => []) (fun i => zke s1 cutset2 i = some r) (fun i => rfl) ?_ ?_
  ·skip
   refine zab hN rfl ?_
   refine qd rfl ?_
   refine zaa (za5 tyU9 rfl) ?_
   refine zaa (zb6 rfl rfl) ?_
   refine qd rfl ?_
   refine zaz (j := 3) rfl rfl (fun h4 => ?_) (fun h4 => ?_) rfl
   ·have h5 := un1 h4
    replace H := ift h5 H
    refine zam rfl rfl h4 (zah (.dat _) rfl) ?_
    obtain ⟨x6, h7, H⟩ := bnd H
    refine zam rfl rfl h4 (zgg tyU9 rfl rfl h7) ?_
    refine zam rfl rfl h4 (za3 rfl rfl) ?_
    refine zaa (zas rfl (bTT h5) rfl) ?_
    exact ⟨decide ((x6.toNat : Int) < 128), H, ⟨rfl, rfl, rfl, trivial⟩, trivial⟩
   ·have h8 := un2 h4
    replace H := iff_ h8 H
    refine zae rfl rfl h4 ?_
    refine zae rfl rfl h4 ?_
    refine zae rfl rfl h4 ?_
    refine zaa (zaj rfl (bFF h8) rfl) ?_
    exact ⟨false, H, ⟨rfl, rfl, rfl, trivial⟩, trivial⟩
  ·rintro v9 H
   replace H : zke s1 cutset2 v9 = some r := H
   unfold zke at H
   refine zai _ rfl (fun h10 => ?_) (fun h10 => ?_)
   ·replace H := ift h10 H
    refine zac ?_
    refine zik mixed hN rfl rfl ?_
    refine qd rfl ?_
    refine qd rfl ?_
    obtain ⟨x11, h12, H⟩ := bnd H
    refine zaa (zgg tyU9 rfl rfl h12) ?_
    obtain ⟨r13, h14, H⟩ := bnd H
    refine zaa (zak (zpu s1 (x11.toNat : Int) r13 h14) ⟨.inl rfl, .inl rfl, trivial⟩) ?_
    refine qd rfl ?_
    refine zaa (zgg tyU9 rfl rfl h12) ?_
    obtain ⟨r15, h16, H⟩ := bnd H
    refine zaa (zak (zp7 r13 (x11.toNat : Int) r15 h16) ⟨.inl rfl, .inl rfl, trivial⟩) ?_
    refine qe rfl ?_
    refine ⟨rfl, ?_⟩
    refine zap ?_
    cases H
    exact ⟨trivial, .inl rfl, trivial⟩
   ·replace H := iff_ h10 H
    cases H
theorem znb (s1 : Bs) (r : (Bool)) (H : zgn s1 = some r) : Fn Tryz.prog 59 [vstr s1] (zbe [za2 r]) := by
 refine ⟨by kernel_rfl, za7 (us := [za2 r]) Tryz.func59 rfl rfl rfl rfl fun X hN => ?_⟩
 unfold zgn at H
 refine zac ?_
 refine zab hN rfl ?_
 refine qe rfl ?_
 refine zax (ι := Bool) (fun i => [(2, .dat (za2 i))]) (fun i => []) (fun i => zg6 i = some r) (fun i => rfl) ?_ ?_
 ·skip
  refine zab hN rfl ?_
  refine qd rfl ?_
  refine zaa (za5 tyU9 rfl) ?_
  refine zaa (zhp rfl rfl) ?_
  refine qd rfl ?_
  refine zaz (j := 3) rfl rfl (fun h2 => ?_) (fun h2 => ?_) rfl
  ·have h3 := un1 h2
   replace H := ift h3 H
   refine zam rfl rfl h2 (zah (.dat _) rfl) ?_
   obtain ⟨r4, h5, H⟩ := bnd H
   refine zam rfl rfl h2 (zak (zm8 s1 32 126 r4 h5) ⟨.inl rfl, .inl rfl, .inl rfl, trivial⟩) ?_
   refine zaa (zas rfl (bTT h3) rfl) ?_
   refine qd rfl ?_
   refine zaz (j := 7) rfl rfl (fun h6 => ?_) (fun h6 => ?_) rfl
   ·have h7 := un1 h6
    replace H := ift h7 H
    refine zam rfl rfl h6 (zah (.dat _) rfl) ?_
    obtain ⟨r8, h9, H⟩ := bnd H
    refine zam rfl rfl h6 (zak (zox s1 [32] r8 h9) ⟨.inl rfl, .inl rfl, trivial⟩) ?_
    refine zam rfl rfl h6 (zah (.dat _) rfl) ?_
    refine zam rfl rfl h6 (zdw rfl rfl) ?_
    refine zaa (zas rfl (bTT h7) rfl) ?_
    refine qe rfl ?_
    exact ⟨decide (r8 = s1), H, ⟨rfl, trivial⟩, trivial⟩
   ·have h10 := un2 h6
    replace H := iff_ h10 H
    refine zae rfl rfl h6 ?_
    refine zae rfl rfl h6 ?_
    refine zae rfl rfl h6 ?_
    refine zae rfl rfl h6 ?_
    refine zaa (zaj rfl (bFF h10) rfl) ?_
    refine qe rfl ?_
    exact ⟨false, H, ⟨rfl, trivial⟩, trivial⟩
  ·have h11 := un2 h2
   replace H := iff_ h11 H
   refine zae rfl rfl h2 ?_
   refine zae rfl rfl h2 ?_
   refine zaa (zaj rfl (bFF h11) rfl) ?_
   refine qd rfl ?_
   refine zae rfl rfl rfl ?_
   refine zae rfl rfl rfl ?_
   refine zae rfl rfl rfl ?_
   refine zae rfl rfl rfl ?_
   refine zaa (zaj rfl rfl rfl) ?_
   refine qe rfl ?_
   exact ⟨false, H, ⟨rfl, trivial⟩, trivial⟩
 ·rintro v12 H
  replace H : zg6 v12 = some r := H
  unfold zg6 at H
  refine zap ?_
  cases H
  exact ⟨trivial, .inl rfl, trivial⟩
theorem zmy (l1 : (List zaf)) (r : (Int)) (H : zf5 l1 = some r) : Fn Tryz.prog 87 [vlst (List.map zao l1)] (zbe [vint r]) := by
 refine ⟨by kernel_rfl, za7 (us := [vint r]) Tryz.func87 rfl rfl rfl rfl fun X hN => ?_⟩
 unfold zf5 at H
 refine zac ?_
 refine zab hN rfl ?_
 refine qe rfl ?_
 refine zac ?_
 refine zac ?_
 refine zab hN rfl ?_
 refine qd rfl ?_
 refine zaa (zks zpi rfl) ?_
 refine zaa (zg1 rfl rfl) ?_
 refine zai _ rfl (fun h2 => ?_) (fun h2 => ?_)
 ·replace H := ift h2 H
  refine zac ?_
  refine zab hN rfl ?_
  refine qe rfl ?_
  refine zap ?_
  cases H
  exact ⟨trivial, .inl rfl, trivial⟩
 ·replace H := iff_ h2 H
  refine zan ?_
  refine zac ?_
  refine zac ?_
  refine zab hN rfl ?_
  refine qd rfl ?_
  refine zaa (zks zpi rfl) ?_
  refine qd rfl ?_
  refine zat ?_
  obtain ⟨h5, H⟩ := gif H
  refine zed (fun (k3 : Nat) (s : Unit) => [(8, .dat (vlst (List.map zao l1))), (9, .dat (vint (l1.length : Int))), (10, .dat (vint (k3 : Int)))]) (fun (k3 : Nat) (s : Unit) => []) () H ⟨rfl, rfl, rfl, trivial⟩ trivial (fun _ _ => rfl) ?_ ?_
  ·rintro ⟨⟩ H
   replace H : zja = some r := H
   unfold zja at H
   refine zac ?_
   refine zab hN rfl ?_
   refine zaa (za3 rfl rfl) ?_
   refine zac ?_
   refine zai _ rfl (fun h => (lt_t h).elim) (fun h => ?_)
   refine zbp ?_
   refine zac ?_
   refine zab hN rfl ?_
   refine qe rfl ?_
   refine zap ?_
   cases H
   exact ⟨trivial, .inl rfl, trivial⟩
  ·rintro k3 x6 ⟨⟩ q4 h7 h8 H hq4
   replace H : zi9 k3 x6 = some q4 := H
   unfold zi9 at H
   refine zac ?_
   refine zab hN rfl ?_
   refine zaa (za3 rfl rfl) ?_
   refine zac ?_
   refine zai _ rfl (fun h => ?_) (fun h => (lt_f h7 h).elim)
   refine zan ?_
   refine zac ?_
   refine zat ?_
   refine zac ?_
   refine zab hN rfl ?_
   refine zaa (zn2 zp6 (fun _ => rfl) rfl rfl h8) ?_
   refine zaa (zip zng rfl (zjk h8) rfl) ?_
   refine zal (zdf 1 zp4 rfl) rfl ?_
   refine zal (zb9 zng rfl rfl rfl rfl) rfl ?_
   refine zac ?_
   refine zac ?_
   refine zab hN rfl ?_
   refine zaa (zaw zoc rfl) ?_
   refine zau (zav tyS9 rfl rfl) rfl ?_
   obtain ⟨r9, h10, H⟩ := bnd H
   refine zaa (zak (zna x6.Name r9 h10) ⟨.inl rfl, trivial⟩) ?_
   refine zaa (zck rfl) ?_
   refine zai _ rfl (fun h11 => ?_) (fun h11 => ?_)
   ·replace H := ift h11 H
    refine zac ?_
    refine zab hN rfl ?_
    refine qe rfl ?_
    refine zap ?_
    replace H := retl H hq4
    cases H
    exact ⟨trivial, .inl rfl, trivial⟩
   ·replace H := iff_ h11 H
    refine zan ?_
    refine zac ?_
    refine zab hN rfl ?_
    refine zaa (zaw ztt rfl) ?_
    refine zau (zav tyS9 rfl rfl) rfl ?_
    obtain ⟨r12, h13, H⟩ := bnd H
    refine zaa (zak (znb x6.Value r12 h13) ⟨.inl rfl, trivial⟩) ?_
    refine zaa (zck rfl) ?_
    refine zai _ rfl (fun h14 => ?_) (fun h14 => ?_)
    ·replace H := ift h14 H
     refine zac ?_
     refine zab hN rfl ?_
     refine qe rfl ?_
     refine zap ?_
     replace H := retl H hq4
     cases H
     exact ⟨trivial, .inl rfl, trivial⟩
    ·replace H := iff_ h14 H
     refine zan ?_
     refine zab hN rfl ?_
     refine zaa (zfc rfl rfl (by omega)) ?_
     refine qd rfl ?_
     exact ⟨_, zio H, ⟨rfl, rfl, rfl, trivial⟩, trivial⟩
theorem zp9 (r1 : zar) (r : (Int)) (H : zc4 r1 = some r) : Fn Tryz.prog 36 [vagg (za9 r1)] (zbe [vint r]) := by
 refine ⟨by kernel_rfl, za7 (us := [vint r]) Tryz.func36 rfl rfl rfl rfl fun X hN => ?_⟩
 unfold zc4 at H
 refine zac ?_
 refine zab hN rfl ?_
 refine zal (zju 1 rfl) rfl ?_
 refine qe rfl ?_
 refine zac ?_
 refine zac ?_
 refine zab hN rfl ?_
 refine zaa (zaw ztv rfl) ?_
 refine zau (zav tyS3 rfl rfl) rfl ?_
 obtain ⟨r2, h3, H⟩ := bnd H
 refine zaa (zak (zux r1.At r2 h3) ⟨.inl rfl, trivial⟩) ?_
 refine zaa (zck rfl) ?_
 refine zai _ rfl (fun h4 => ?_) (fun h4 => ?_)
 ·replace H := ift h4 H
  refine zac ?_
  refine zab hN rfl ?_
  refine qe rfl ?_
  refine zap ?_
  cases H
  exact ⟨trivial, .inl rfl, trivial⟩
 ·replace H := iff_ h4 H
  refine zan ?_
  refine zac ?_
  refine zac ?_
  refine zab hN rfl ?_
  refine zaa (zaw zpm rfl) ?_
  refine zau (zav tyS9 rfl rfl) rfl ?_
  obtain ⟨r5, h6, H⟩ := bnd H
  refine zaa (zak (zna r1.Method r5 h6) ⟨.inl rfl, trivial⟩) ?_
  refine zaa (zck rfl) ?_
  refine zai _ rfl (fun h7 => ?_) (fun h7 => ?_)
  ·replace H := ift h7 H
   refine zac ?_
   refine zab hN rfl ?_
   refine qe rfl ?_
   refine zap ?_
   cases H
   exact ⟨trivial, .inl rfl, trivial⟩
  ·replace H := iff_ h7 H
   refine zan ?_
   refine zac ?_
   refine zax (ι := Bool) (fun i => [(1, .ptr 1 0), (33, .dat (za2 i))]) (fun i => [(1, .box none 28 [.dat (vint r1.At), .dat (vstr r1.Method), .dat (vstr r1.Host), .dat (vstr r1.Path), .dat (vstr r1.Query), .dat (vstr r1.From), .dat (vlst (List.map zao r1.Headers)), .dat (vstr r1.Body)])]) (fun i => zcf r1 i = some r) (fun i => rfl) ?_ ?_
   ·skip
    refine zab hN rfl ?_
    refine zaa (zaw zpl rfl) ?_
    refine zau (zav tyS9 rfl rfl) rfl ?_
    obtain ⟨r8, h9, H⟩ := bnd H
    refine zaa (zak (zp1 r1.Host r8 h9) ⟨.inl rfl, trivial⟩) ?_
    refine zaa (zck rfl) ?_
    refine qd rfl ?_
    refine zaz (j := 4) rfl rfl (fun h10 => ?_) (fun h10 => ?_) rfl
    ·have h11 := un3 h10
     replace H := iff_ h11 H
     refine zam rfl rfl h10 (zaw zpk rfl) ?_
     refine zkf rfl rfl h10 (zav tyS9 rfl rfl) rfl ?_
     obtain ⟨r12, h13, H⟩ := bnd H
     refine zam rfl rfl h10 (zak (zof r1.Path r12 h13) ⟨.inl rfl, trivial⟩) ?_
     refine zam rfl rfl h10 (zfw rfl rfl) ?_
     refine zaa (zaj rfl (bFF h11) rfl) ?_
     refine qd rfl ?_
     refine zaz (j := 10) rfl rfl (fun h14 => ?_) (fun h14 => ?_) rfl
     ·have h15 := un3 h14
      replace H := iff_ h15 H
      refine zam rfl rfl h14 (zaw zpj rfl) ?_
      refine zkf rfl rfl h14 (zav tyS9 rfl rfl) rfl ?_
      obtain ⟨r16, h17, H⟩ := bnd H
      refine zam rfl rfl h14 (zak (znx r1.Query r16 h17) ⟨.inl rfl, trivial⟩) ?_
      refine zam rfl rfl h14 (zfw rfl rfl) ?_
      refine zaa (zaj rfl (bFF h15) rfl) ?_
      refine qd rfl ?_
      refine zaz (j := 16) rfl rfl (fun h18 => ?_) (fun h18 => ?_) rfl
      ·have h19 := un3 h18
       replace H := iff_ h19 H
       refine zam rfl rfl h18 (zaw ztu rfl) ?_
       refine zkf rfl rfl h18 (zav tyS9 rfl rfl) rfl ?_
       obtain ⟨r20, h21, H⟩ := bnd H
       refine zam rfl rfl h18 (zak (znb r1.From r20 h21) ⟨.inl rfl, trivial⟩) ?_
       refine zam rfl rfl h18 (zck rfl) ?_
       refine zaa (zaj rfl (bFF h19) rfl) ?_
       exact ⟨!r20, H, ⟨rfl, rfl, trivial⟩, ⟨rfl, trivial⟩⟩
      ·have h22 := un4 h18
       replace H := ift h22 H
       refine zae rfl rfl h18 ?_
       refine zae rfl rfl h18 ?_
       refine zae rfl rfl h18 ?_
       refine zae rfl rfl h18 ?_
       refine zaa (zas rfl (bTT h22) rfl) ?_
       exact ⟨true, H, ⟨rfl, rfl, trivial⟩, ⟨rfl, trivial⟩⟩
     ·have h23 := un4 h14
      replace H := ift h23 H
      refine zae rfl rfl h14 ?_
      refine zae rfl rfl h14 ?_
      refine zae rfl rfl h14 ?_
      refine zae rfl rfl h14 ?_
      refine zaa (zas rfl (bTT h23) rfl) ?_
      refine qd rfl ?_
      refine zae rfl rfl rfl ?_
      refine zae rfl rfl rfl ?_
      refine zae rfl rfl rfl ?_
      refine zae rfl rfl rfl ?_
      refine zaa (zas rfl rfl rfl) ?_
      exact ⟨true, H, ⟨rfl, rfl, trivial⟩, ⟨rfl, trivial⟩⟩
    ·have h24 := un4 h10
     replace H := ift h24 H
     refine zae rfl rfl h10 ?_
     refine zae rfl rfl h10 ?_
     refine zae rfl rfl h10 ?_
     refine zae rfl rfl h10 ?_
     refine zaa (zas rfl (bTT h24) rfl) ?_
     refine qd rfl ?_
     refine zae rfl rfl rfl ?_
     refine zae rfl rfl rfl ?_
     refine zae rfl rfl rfl ?_
     refine zae rfl rfl rfl ?_
     refine zaa (zas rfl rfl rfl) ?_
     refine qd rfl ?_
     refine zae rfl rfl rfl ?_
     refine zae rfl rfl rfl ?_
     refine zae rfl rfl rfl ?_
     refine zae rfl rfl rfl ?_
     refine zaa (zas rfl rfl rfl) ?_
     exact ⟨true, H, ⟨rfl, rfl, trivial⟩, ⟨rfl, trivial⟩⟩
   ·rintro v25 H
    replace H : zcf r1 v25 = some r := H
    unfold zcf at H
    refine zai _ rfl (fun h26 => ?_) (fun h26 => ?_)
    ·replace H := ift h26 H
     refine zac ?_
     refine zab hN rfl ?_
     refine qe rfl ?_
     refine zap ?_
     cases H
     exact ⟨trivial, .inl rfl, trivial⟩
    ·replace H := iff_ h26 H
     refine zan ?_
     refine zac ?_
     refine zac ?_
     refine zab hN rfl ?_
     refine zaa (zaw zm0 rfl) ?_
     refine zau (zav zsf rfl rfl) rfl ?_
     obtain ⟨r27, h28, H⟩ := bnd H
     refine zaa (zak (zmy r1.Headers r27 h28) ⟨.inl rfl, trivial⟩) ?_
     refine qe rfl ?_
     refine zac ?_
     refine zab hN rfl ?_
     refine qd rfl ?_
     refine zaa (zfw rfl rfl) ?_
     refine zai _ rfl (fun h29 => ?_) (fun h29 => ?_)
     ·replace H := ift h29 H
      refine zac ?_
      refine zab hN rfl ?_
      refine qd rfl ?_
      refine qe rfl ?_
      refine zap ?_
      cases H
      exact ⟨trivial, .inl rfl, trivial⟩
     ·replace H := iff_ h29 H
      refine zan ?_
      refine zac ?_
      refine zac ?_
      refine zab hN rfl ?_
      refine zaa (zaw zsg rfl) ?_
      refine zau (zav tyS9 rfl rfl) rfl ?_
      refine zaa (za5 tyU9 rfl) ?_
      refine zaa (zg1 rfl rfl) ?_
      refine zai _ rfl (fun h30 => ?_) (fun h30 => ?_)
      ·replace H := ift h30 H
       refine zac ?_
       refine zab hN rfl ?_
       refine qe rfl ?_
       refine zap ?_
       cases H
       exact ⟨trivial, .inl rfl, trivial⟩
      ·replace H := iff_ h30 H
       refine zan ?_
       refine zac ?_
       refine zab hN rfl ?_
       refine qe rfl ?_
       refine zap ?_
       cases H
       exact ⟨trivial, .inl rfl, trivial⟩
theorem zjg (s : Bs) (r : Bs) (H : zda s = some r) : Fn Tryz.prog 47 [vstr s] (zbe [vstr r]) := by
 unfold zda at H
 obtain ⟨⟨h1, h2⟩, h3⟩ := gif H
 cases h3
 refine zin (by kernel_rfl) fun M w vs hM h => ?_
 have hv := zl1 (us := [.string ⟨s.toArray⟩]) h
 subst hv
 refine (Tryz.strings_ToLower_ascii ⟨s.toArray⟩ w (by simp [ByteArray.size]; omega) (fun j b hb => zsz h2 j b (by simpa using hb))).mono ?_
 rintro e w' ⟨rfl, hb⟩
 exact ⟨_, rfl, rfl, Kp.of_below hb⟩

theorem zrb (s1 : Bs) (r : (Bs × Int)) (H : zhj s1 = some r) : Fn Tryz.prog 37 [vstr s1] (zbe [vstr r.1, vint r.2]) := by
 refine ⟨by kernel_rfl, za7 (us := [vstr r.1, vint r.2]) Tryz.func37 rfl rfl rfl rfl fun X hN => ?_⟩
 unfold zhj at H
 refine zac ?_
 refine zab hN rfl ?_
 refine qe rfl ?_
 refine qe rfl ?_
 refine zac ?_
 refine zac ?_
 refine zab hN rfl ?_
 refine qd rfl ?_
 obtain ⟨r2, h3, H⟩ := bnd H
 refine zaa (zak (zp1 s1 r2 h3) ⟨.inl rfl, trivial⟩) ?_
 refine zaa (zck rfl) ?_
 refine zai _ rfl (fun h4 => ?_) (fun h4 => ?_)
 ·replace H := ift h4 H
  refine zac ?_
  refine zab hN rfl ?_
  refine qe rfl ?_
  refine qe rfl ?_
  refine zap ?_
  cases H
  exact ⟨trivial, .inl rfl, .inl rfl, trivial⟩
 ·replace H := iff_ h4 H
  refine zan ?_
  refine zac ?_
  refine zab hN rfl ?_
  refine qd rfl ?_
  obtain ⟨r5, h6, H⟩ := bnd H
  refine zaa (zak (zjg s1 r5 h6) ⟨.inl rfl, trivial⟩) ?_
  obtain ⟨r7, h8, H⟩ := bnd H
  refine zaa (zak (zmq r5 [58] r7 h8) ⟨.inl rfl, .inl rfl, trivial⟩) ?_
  refine qd rfl ?_
  refine zaa (zbj rfl rfl) ?_
  refine zaa (zbj rfl rfl) ?_
  refine zaa (zbj rfl rfl) ?_
  refine qe rfl ?_
  refine qe rfl ?_
  refine qe rfl ?_
  refine zac ?_
  refine zac ?_
  refine zab hN rfl ?_
  refine qd rfl ?_
  refine zaa (zdw rfl rfl) ?_
  refine qd rfl ?_
  refine ziq rfl rfl (fun hc => zah (.dat _) rfl) ?_
  refine ziq rfl rfl (fun hc => zdw (cnd (c := (!(decide (r7.2.1 = [])))) hc) rfl) ?_
  refine zaa (zhz rfl rfl (fun hb => (cnd (c := (!(decide (r7.2.1 = [])))) (notI hb)))) ?_
  refine qd rfl ?_
  refine ziq rfl rfl (fun hc => zah (.dat _) rfl) ?_
  refine ziq rfl rfl (fun hc => zdw (cnd (c := (!((decide (r7.2.1 = [])) || (decide (r7.2.1 = [56, 48]))))) hc) rfl) ?_
  refine zaa (zhz rfl rfl (fun hb => (cnd (c := (!((decide (r7.2.1 = [])) || (decide (r7.2.1 = [56, 48]))))) (notI hb)))) ?_
  refine zai _ rfl (fun h9 => ?_) (fun h9 => ?_)
  ·replace H := ift h9 H
   refine zac ?_
   refine zab hN rfl ?_
   refine qd rfl ?_
   refine qe rfl ?_
   refine qe rfl ?_
   refine zap ?_
   cases H
   exact ⟨trivial, .inl rfl, .inl rfl, trivial⟩
  ·replace H := iff_ h9 H
   refine zan ?_
   refine zac ?_
   refine zab hN rfl ?_
   refine qd rfl ?_
   obtain ⟨h10, H⟩ := gif H
   refine zaa (zht rfl rfl (Nat.le_trans h10 (by decide))) ?_
   refine qd rfl ?_
   obtain ⟨h11, H⟩ := gif H
   refine zaa (zht rfl rfl (Nat.le_trans h11 (by decide))) ?_
   refine qe rfl ?_
   refine qe rfl ?_
   refine zap ?_
   cases H
   exact ⟨trivial, .inl rfl, .inl rfl, trivial⟩
theorem zcu (l1 : (List Int)) (c2 : Int) (r : (Int × (List Int))) (H : zbl l1 c2 = some r) : FnG Tryz.prog 97 [.ptr 0 0, .dat (vval (.int .u8 c2))] [(0, .box (some 0) 92 [.nptr 0, .row 1 l1.length]), (1, .row 5 1 (List.map zcj l1))] (.dat (zbe [verr r.1])) [(0, .box (some 0) 92 [.nptr 0, .row 900 r.2.length]), (900, .row 5 1 (List.map zcj r.2))] := by
 refine zpe (by kernel_rfl) Tryz.func97 rfl rfl rfl rfl fun X A hN => ?_
 refine zn1 ?_
 unfold zbl at H
 refine zac ?_
 refine zab hN rfl ?_
 refine qe rfl ?_
 refine zac ?_
 refine zab hN rfl ?_
 refine zaa (zah (.ptr _ _) rfl) ?_
 refine zal (z5o z2x rfl) rfl ?_
 refine zac ?_
 refine zab hN rfl ?_
 refine zaa (zah (.ptr _ _) rfl) ?_
 refine zaa (zah (.ptr _ _) rfl) ?_
 refine zaa (zlp rfl) ?_
 refine zaa (zaw zvl rfl) ?_
 refine zau (zav z3h rfl rfl) rfl ?_
 refine qd rfl ?_
 refine zaa (za4 (u' := vlst (List.map zcj [c2])) (zcl [[_]] zus ⟨rfl, .inl ⟨_, rfl, rfl, rfl⟩, rfl, trivial⟩ rfl rfl) rfl) ?_
 obtain ⟨h3, H⟩ := gif H
 refine zal (zm1 zus (fun _ => rfl) rfl rfl rfl ⟨by simp, by first | (simp; done) | simpa using h3⟩ rfl) rfl ?_
 refine zaa (zlp rfl) ?_
 refine zaa (zaw zvl rfl) ?_
 refine zq3 (zn8 z3h rfl rfl (by rw [List.length_map]) rfl) rfl rfl ?_
 refine zac ?_
 refine zab hN rfl ?_
 refine qe rfl ?_
 refine zap ?_
 cases H
 show Cv _ _ _ _
 refine zl7 (rn [(1, 900)]) [(4, .dat (verr 0))] [(0, .box (some (A.bl 0)) 92 [.nptr 0, .row 1 ((l1 ++ [c2]).length)]), (1, .row 5 1 (List.map zcj (l1 ++ [c2])))] ⟨rfl, trivial⟩ ⟨rfl, rfl, trivial⟩ rfl rfl ?_
 exact ⟨trivial, [(4, .dat (verr 0))], ⟨rfl, trivial⟩, ⟨rfl, rfl, trivial⟩, rfl, .inl ⟨[verr 0], ⟨rfl, trivial⟩, rfl⟩⟩
theorem zqs (c1 : Int) (r : (Bool)) (H : zki c1 = some r) : Fn Tryz.prog 179 [vval (.int .u8 c1)] (zbe [za2 r]) := by
 refine ⟨by kernel_rfl, za7 (us := [za2 r]) Tryz.func179 rfl rfl rfl rfl fun X hN => ?_⟩
 unfold zki at H
 refine zac ?_
 refine zab hN rfl ?_
 refine qe rfl ?_
 refine zac ?_
 refine zab hN rfl ?_
 refine qd rfl ?_
 obtain ⟨r2, h3, H⟩ := bnd H
 refine zaa (zak (zly c1 r2 h3) ⟨.inl rfl, trivial⟩) ?_
 refine qd rfl ?_
 refine ziq rfl rfl (fun hc => zah (.dat _) rfl) ?_
 refine ziq rfl rfl (fun hc => zi7 (cnd (c := (!r2)) hc) rfl) ?_
 refine ziq rfl rfl (fun hc => zah (.dat _) (cnd (c := (!r2)) hc)) ?_
 refine zop rfl rfl (fun hc => zah (.dat _) rfl) ?_
 refine zop rfl rfl (fun hc => zhp (cnd (c := ((!r2) && (decide (97 ≤ c1)))) hc) rfl) ?_
 refine ziq rfl rfl (fun hc => zco (cnd (c := (!r2)) hc) (fun hb => (cnd (c := ((!r2) && (decide (97 ≤ c1)))) (andI hc hb))) rfl) ?_
 refine zaa (zhz rfl rfl (fun hb => (cnd (c := (!r2)) (notI hb)))) ?_
 refine qd rfl ?_
 refine ziq rfl rfl (fun hc => zah (.dat _) rfl) ?_
 refine ziq rfl rfl (fun hc => zi7 (cnd (c := (!(r2 || ((decide (97 ≤ c1)) && (decide (c1 ≤ 102)))))) hc) rfl) ?_
 refine ziq rfl rfl (fun hc => zah (.dat _) (cnd (c := (!(r2 || ((decide (97 ≤ c1)) && (decide (c1 ≤ 102)))))) hc)) ?_
 refine zop rfl rfl (fun hc => zah (.dat _) rfl) ?_
 refine zop rfl rfl (fun hc => zhp (cnd (c := ((!(r2 || ((decide (97 ≤ c1)) && (decide (c1 ≤ 102))))) && (decide (65 ≤ c1)))) hc) rfl) ?_
 refine ziq rfl rfl (fun hc => zco (cnd (c := (!(r2 || ((decide (97 ≤ c1)) && (decide (c1 ≤ 102)))))) hc) (fun hb => (cnd (c := ((!(r2 || ((decide (97 ≤ c1)) && (decide (c1 ≤ 102))))) && (decide (65 ≤ c1)))) (andI hc hb))) rfl) ?_
 refine zaa (zhz rfl rfl (fun hb => (cnd (c := (!(r2 || ((decide (97 ≤ c1)) && (decide (c1 ≤ 102)))))) (notI hb)))) ?_
 refine qe rfl ?_
 refine zap ?_
 cases H
 exact ⟨trivial, .inl rfl, trivial⟩
theorem zp0 (s1 : Bs) (v2 : Int) (r : (Bool)) (H : zhm s1 v2 = some r) : Fn Tryz.prog 137 [vstr s1, vint v2] (zbe [za2 r]) := by
 refine ⟨by kernel_rfl, za7 (us := [za2 r]) Tryz.func137 rfl rfl rfl rfl fun X hN => ?_⟩
 unfold zhm at H
 refine zac ?_
 refine zab hN rfl ?_
 refine qe rfl ?_
 refine zax (ι := Bool) (fun i => [(4, .dat (za2 i))]) (fun i => []) (fun i => zh0 i = some r) (fun i => rfl) ?_ ?_
 ·skip
  refine zab hN rfl ?_
  refine qd rfl ?_
  refine zaa (za8 _ rfl rfl (.inl ⟨rfl, rfl⟩)) ?_
  refine qd rfl ?_
  refine zaa (za5 tyU9 rfl) ?_
  refine zaa (za3 rfl rfl) ?_
  refine qd rfl ?_
  refine zaz (j := 5) rfl rfl (fun h3 => ?_) (fun h3 => ?_) rfl
  ·have h4 := un1 h3
   replace H := ift h4 H
   refine zam rfl rfl h3 (zah (.dat _) rfl) ?_
   refine zam rfl rfl h3 (zah (.dat _) rfl) ?_
   refine zam rfl rfl h3 (za8 _ rfl rfl (.inl ⟨rfl, rfl⟩)) ?_
   obtain ⟨x5, h6, H⟩ := bnd H
   refine zam rfl rfl h3 (zli tyU9 rfl rfl h6) ?_
   obtain ⟨r7, h8, H⟩ := bnd H
   refine zam rfl rfl h3 (zak (zqs (x5.toNat : Int) r7 h8) ⟨.inl rfl, trivial⟩) ?_
   refine zaa (zas rfl (bTT h4) rfl) ?_
   refine qd rfl ?_
   refine zaz (j := 12) rfl rfl (fun h9 => ?_) (fun h9 => ?_) rfl
   ·have h10 := un1 h9
    replace H := ift h10 H
    refine zam rfl rfl h9 (zah (.dat _) rfl) ?_
    refine zam rfl rfl h9 (zah (.dat _) rfl) ?_
    refine zam rfl rfl h9 (za8 _ rfl rfl (.inl ⟨rfl, rfl⟩)) ?_
    obtain ⟨x11, h12, H⟩ := bnd H
    refine zam rfl rfl h9 (zli tyU9 rfl rfl h12) ?_
    obtain ⟨r13, h14, H⟩ := bnd H
    refine zam rfl rfl h9 (zak (zqs (x11.toNat : Int) r13 h14) ⟨.inl rfl, trivial⟩) ?_
    refine zaa (zas rfl (bTT h10) rfl) ?_
    refine qe rfl ?_
    exact ⟨r13, H, ⟨rfl, trivial⟩, trivial⟩
   ·have h15 := un2 h9
    replace H := iff_ h15 H
    refine zae rfl rfl h9 ?_
    refine zae rfl rfl h9 ?_
    refine zae rfl rfl h9 ?_
    refine zae rfl rfl h9 ?_
    refine zae rfl rfl h9 ?_
    refine zaa (zaj rfl (bFF h15) rfl) ?_
    refine qe rfl ?_
    exact ⟨false, H, ⟨rfl, trivial⟩, trivial⟩
  ·have h16 := un2 h3
   replace H := iff_ h16 H
   refine zae rfl rfl h3 ?_
   refine zae rfl rfl h3 ?_
   refine zae rfl rfl h3 ?_
   refine zae rfl rfl h3 ?_
   refine zae rfl rfl h3 ?_
   refine zaa (zaj rfl (bFF h16) rfl) ?_
   refine qd rfl ?_
   refine zae rfl rfl rfl ?_
   refine zae rfl rfl rfl ?_
   refine zae rfl rfl rfl ?_
   refine zae rfl rfl rfl ?_
   refine zae rfl rfl rfl ?_
   refine zaa (zaj rfl rfl rfl) ?_
   refine qe rfl ?_
   exact ⟨false, H, ⟨rfl, trivial⟩, trivial⟩
 ·rintro v17 H
  replace H : zh0 v17 = some r := H
  unfold zh0 at H
  refine zap ?_
  cases H
  exact ⟨trivial, .inl rfl, trivial⟩
theorem zod (s1 : Bs) (base2 : Int) (bitSize3 : Int) (r : (Int × Int)) (H : zh4 s1 base2 bitSize3 = some r) : Fn Tryz.prog 160 [vstr s1, vint base2, vint bitSize3] (zbe [vval (.int .u64 r.1), verr r.2]) := by
 refine ⟨by kernel_rfl, za7 (us := [vval (.int .u64 r.1), verr r.2]) Tryz.func160 rfl rfl rfl rfl fun X hN => ?_⟩
 unfold zh4 at H
 refine zac ?_
 refine zab hN rfl ?_
 refine qe rfl ?_
 refine qe rfl ?_
 refine zac ?_
 refine zab hN rfl ?_
 refine qd rfl ?_
 refine qd rfl ?_
 refine qd rfl ?_
 obtain ⟨r4, h5, H⟩ := bnd H
 refine zaa (zak (zld s1 base2 bitSize3 r4 h5) ⟨.inl rfl, .inl rfl, .inl rfl, trivial⟩) ?_
 refine qd rfl ?_
 refine zaa (zbj rfl rfl) ?_
 refine zaa (zbj rfl rfl) ?_
 refine qe rfl ?_
 refine qe rfl ?_
 refine zac ?_
 refine zac ?_
 refine zab hN rfl ?_
 refine qd rfl ?_
 refine zaa (zo2 (n := r4.2) (show Tryz.prog.underlying 95 = some (.interface (Tryz.prog.methodsAt 95)) from by kernel_rfl) rfl) ?_
 refine zai _ rfl (fun h6 => ?_) (fun h6 => ?_)
 ·replace H := ift h6 H
  refine zac ?_
  refine zab hN rfl ?_
  refine qd rfl ?_
  refine qd rfl ?_
  refine qd rfl ?_
  refine qd rfl ?_
  refine qd rfl ?_
  obtain ⟨r7, h8, H⟩ := bnd H
  refine zaa (zak (zo7 [80, 97, 114, 115, 101, 85, 105, 110, 116] s1 base2 bitSize3 r4.2 r7 h8) ⟨.inl rfl, .inl rfl, .inl rfl, .inl rfl, .inl rfl, trivial⟩) ?_
  refine qe rfl ?_
  refine qe rfl ?_
  refine zap ?_
  cases H
  exact ⟨trivial, .inl rfl, .inl rfl, trivial⟩
 ·replace H := iff_ h6 H
  refine zan ?_
  refine zac ?_
  refine zab hN rfl ?_
  refine qd rfl ?_
  refine qe rfl ?_
  refine qe rfl ?_
  refine zap ?_
  cases H
  exact ⟨trivial, .inl rfl, .inl rfl, trivial⟩
theorem zri (s1 : Bs) (v2 : Int) (r : (Int)) (H : zk7 s1 v2 = some r) : Fn Tryz.prog 138 [vstr s1, vint v2] (zbe [vval (.int .u8 r)]) := by
 refine ⟨by kernel_rfl, za7 (us := [vval (.int .u8 r)]) Tryz.func138 rfl rfl rfl rfl fun X hN => ?_⟩
 unfold zk7 at H
 refine zac ?_
 refine zab hN rfl ?_
 refine qe rfl ?_
 refine zac ?_
 refine zab hN rfl ?_
 refine qd rfl ?_
 refine qd rfl ?_
 refine zaa (za8 _ rfl rfl (.inl ⟨rfl, rfl⟩)) ?_
 refine qd rfl ?_
 refine zaa (za8 _ rfl rfl (.inl ⟨rfl, rfl⟩)) ?_
 obtain ⟨l3, h4, H⟩ := bnd H
 refine zaa (zl0 tyU9 rfl rfl rfl h4) ?_
 obtain ⟨r5, h6, H⟩ := bnd H
 refine zaa (zak (zod l3 16 8 r5 h6) ⟨.inl rfl, .inl rfl, .inl rfl, trivial⟩) ?_
 refine qd rfl ?_
 refine zaa (zbj rfl rfl) ?_
 refine zaa (zbj rfl rfl) ?_
 refine qe rfl ?_
 refine qe rfl ?_
 refine zac ?_
 refine zac ?_
 refine zab hN rfl ?_
 refine qd rfl ?_
 refine zaa (zo2 (n := r5.2) (show Tryz.prog.underlying 95 = some (.interface (Tryz.prog.methodsAt 95)) from by kernel_rfl) rfl) ?_
 refine zai _ rfl (fun h7 => ?_) (fun h7 => ?_)
 ·replace H := ift h7 H
  refine zac ?_
  refine zab hN rfl ?_
  refine qe rfl ?_
  refine zap ?_
  cases H
  exact ⟨trivial, .inl rfl, trivial⟩
 ·replace H := iff_ h7 H
  refine zan ?_
  refine zac ?_
  refine zab hN rfl ?_
  refine qd rfl ?_
  refine zaa (zih zry tyU5 rfl) ?_
  refine qe rfl ?_
  refine zap ?_
  cases H
  exact ⟨trivial, .inl rfl, trivial⟩
theorem zp2 (c1 : Int) (r : (Bool)) (H : zfp c1 = some r) : Fn Tryz.prog 139 [vval (.int .u8 c1)] (zbe [za2 r]) := by
 refine ⟨by kernel_rfl, za7 (us := [za2 r]) Tryz.func139 rfl rfl rfl rfl fun X hN => ?_⟩
 unfold zfp at H
 refine zac ?_
 refine zab hN rfl ?_
 refine qe rfl ?_
 refine zax (ι := Bool) (fun i => [(2, .dat (za2 i))]) (fun i => []) (fun i => zjb i = some r) (fun i => rfl) ?_ ?_
 ·skip
  refine zab hN rfl ?_
  refine qd rfl ?_
  obtain ⟨r2, h3, H⟩ := bnd H
  refine zaa (zak (zmr c1 r2 h3) ⟨.inl rfl, trivial⟩) ?_
  refine qd rfl ?_
  refine zaz (j := 2) rfl rfl (fun h4 => ?_) (fun h4 => ?_) rfl
  ·have h5 := un3 h4
   replace H := iff_ h5 H
   refine zam rfl rfl h4 (zah (.dat _) rfl) ?_
   obtain ⟨r6, h7, H⟩ := bnd H
   refine zam rfl rfl h4 (zak (zly c1 r6 h7) ⟨.inl rfl, trivial⟩) ?_
   refine zaa (zaj rfl (bFF h5) rfl) ?_
   refine qd rfl ?_
   refine zaz (j := 6) rfl rfl (fun h8 => ?_) (fun h8 => ?_) rfl
   ·have h9 := un3 h8
    replace H := iff_ h9 H
    refine zam rfl rfl h8 (zah (.dat _) rfl) ?_
    obtain ⟨r10, h11, H⟩ := bnd H
    refine zam rfl rfl h8 (zak (zkx [45, 46, 95, 126] c1 r10 h11) ⟨.inl rfl, .inl rfl, trivial⟩) ?_
    refine zam rfl rfl h8 (zi7 rfl rfl) ?_
    refine zaa (zaj rfl (bFF h9) rfl) ?_
    refine qe rfl ?_
    exact ⟨decide (0 ≤ r10), H, ⟨rfl, trivial⟩, trivial⟩
   ·have h12 := un4 h8
    replace H := ift h12 H
    refine zae rfl rfl h8 ?_
    refine zae rfl rfl h8 ?_
    refine zae rfl rfl h8 ?_
    refine zaa (zas rfl (bTT h12) rfl) ?_
    refine qe rfl ?_
    exact ⟨true, H, ⟨rfl, trivial⟩, trivial⟩
  ·have h13 := un4 h4
   replace H := ift h13 H
   refine zae rfl rfl h4 ?_
   refine zae rfl rfl h4 ?_
   refine zaa (zas rfl (bTT h13) rfl) ?_
   refine qd rfl ?_
   refine zae rfl rfl rfl ?_
   refine zae rfl rfl rfl ?_
   refine zae rfl rfl rfl ?_
   refine zaa (zas rfl rfl rfl) ?_
   refine qe rfl ?_
   exact ⟨true, H, ⟨rfl, trivial⟩, trivial⟩
 ·rintro v14 H
  replace H : zjb v14 = some r := H
  unfold zjb at H
  refine zap ?_
  cases H
  exact ⟨trivial, .inl rfl, trivial⟩
theorem zo8 (c1 : Int) (r : (Bs)) (H : zef c1 = some r) : Fn Tryz.prog 140 [vval (.int .u8 c1)] (zbe [vstr r]) := by
 refine ⟨by kernel_rfl, za7 (us := [vstr r]) Tryz.func140 rfl rfl rfl rfl fun X hN => ?_⟩
 unfold zef at H
 refine zac ?_
 refine zab hN rfl ?_
 refine qe rfl ?_
 refine zac ?_
 refine zik mixed hN rfl rfl ?_
 refine qd rfl ?_
 refine zaa (za4 (zrk rfl rfl (by decide)) rfl) ?_
 obtain ⟨x2, h3, H⟩ := bnd H
 refine zaa (zvq tyU9 rfl rfl h3) ?_
 refine qd rfl ?_
 refine zaa (za4 (z1c rfl rfl) rfl) ?_
 obtain ⟨x4, h5, H⟩ := bnd H
 refine zaa (zvq tyU9 rfl rfl h5) ?_
 refine zaa (za4 (u' := vlst (List.map zcj [37, (x2.toNat : Int), (x4.toNat : Int)])) (zcl [[_], [_], [_]] zus ⟨rfl, .inl ⟨_, rfl, rfl, rfl⟩, rfl, rfl, .inl ⟨_, rfl, rfl, rfl⟩, rfl, rfl, .inl ⟨_, rfl, rfl, rfl⟩, rfl, trivial⟩ rfl rfl) rfl) ?_
 refine zaa (zr1 (C := zcj) zwr tyU5 tyU9 (fun _ => rfl) rfl) ?_
 refine qe rfl ?_
 refine ⟨rfl, ?_⟩
 refine zap ?_
 cases H
 exact ⟨trivial, .inl rfl, trivial⟩
theorem zkt (l1 : (List Int)) (s2 : Bs) (r : (Int × Int × (List Int))) (H : zdb l1 s2 = some r) : FnG Tryz.prog 79 [.ptr 0 0, .dat (vstr s2)] [(0, .box (some 0) 92 [.nptr 0, .row 1 l1.length]), (1, .row 5 1 (List.map zcj l1))] (.dat (zbe [vint r.1, verr r.2.1])) [(0, .box (some 0) 92 [.nptr 0, .row 900 r.2.2.length]), (900, .row 5 1 (List.map zcj r.2.2))] := by
 refine zpe (by kernel_rfl) Tryz.func79 rfl rfl rfl rfl fun X A hN => ?_
 refine zn1 ?_
 unfold zdb at H
 refine zac ?_
 refine zab hN rfl ?_
 refine qe rfl ?_
 refine qe rfl ?_
 refine zac ?_
 refine zab hN rfl ?_
 refine zaa (zah (.ptr _ _) rfl) ?_
 refine zal (z5o z2x rfl) rfl ?_
 refine zac ?_
 refine zab hN rfl ?_
 refine zaa (zah (.ptr _ _) rfl) ?_
 refine zaa (zah (.ptr _ _) rfl) ?_
 refine zaa (zlp rfl) ?_
 refine zaa (zaw zvl rfl) ?_
 refine zau (zav z3h rfl rfl) rfl ?_
 refine qd rfl ?_
 obtain ⟨h3, H⟩ := gif H
 refine zal (z5m (C := zcj) (fun _ => rfl) (show tyB8 Tryz.prog 90 9 5 from ⟨by kernel_rfl, by kernel_rfl, by kernel_rfl⟩) rfl rfl rfl h3) rfl ?_
 refine zaa (zlp rfl) ?_
 refine zaa (zaw zvl rfl) ?_
 refine zq3 (zn8 z3h rfl rfl (by rw [List.length_map]) rfl) rfl rfl ?_
 refine zac ?_
 refine zab hN rfl ?_
 refine qd rfl ?_
 refine zaa (za5 tyU9 rfl) ?_
 refine qe rfl ?_
 refine qe rfl ?_
 refine zap ?_
 cases H
 show Cv _ _ _ _
 refine zl7 (rn [(1, 900)]) [(4, .dat (vint (s2.length : Int))), (5, .dat (verr 0))] [(0, .box (some (A.bl 0)) 92 [.nptr 0, .row 1 ((l1 ++ zdv s2).length)]), (1, .row 5 1 (List.map zcj (l1 ++ zdv s2)))] ⟨rfl, rfl, trivial⟩ ⟨rfl, rfl, trivial⟩ rfl rfl ?_
 exact ⟨trivial, [(4, .dat (vint (s2.length : Int))), (5, .dat (verr 0))], ⟨rfl, rfl, trivial⟩, ⟨rfl, rfl, trivial⟩, rfl, .inl ⟨[vint (s2.length : Int), verr 0], ⟨rfl, rfl, trivial⟩, rfl⟩⟩
theorem zqq (s1 : Bs) (r : (Bs × Bool)) (H : zfh s1 = some r) : Fn Tryz.prog 89 [vstr s1] (zbe [vstr r.1, za2 r.2]) := by
 refine ⟨by kernel_rfl, za7 (us := [vstr r.1, za2 r.2]) Tryz.func89 rfl rfl rfl rfl fun X hN => ?_⟩
 unfold zfh at H
 refine zac ?_
 refine zab hN rfl ?_
 refine qe rfl ?_
 refine qe rfl ?_
 refine zac ?_
 refine zab hN rfl ?_
 refine zal (zdf 1 z6b rfl) rfl ?_
 refine zyt 1 0 (.nptr 1) rfl rfl zv0 ?_
 refine zpy 1 1 2 5 1 rfl rfl rfl rfl ?_
 refine zax (ι := (List Int)) (fun i => [(4, .ptr 1 0)]) (fun i => [(1, .box none 92 [.nptr 1, .row 2 i.length]), (2, .row 5 1 (List.map zcj i))]) (fun i => zhw i = some r) (fun i => rfl) ?_ ?_
 ·refine zn1 ?_
  refine zac ?_
  refine zab hN rfl ?_
  refine qe rfl ?_
  refine zat ?_
  refine zlf (fun (s : Int × (List Int)) => [(0, .dat (vstr s1)), (4, .ptr 1 0), (5, .dat (vint s.1))]) (fun (s : Int × (List Int)) => [(1, .box none 92 [.nptr 1, .row 2 s.2.length]), (2, .row 5 1 (List.map zcj s.2))]) (0, ([] : List Int)) H ⟨rfl, rfl, rfl, trivial⟩ ⟨rfl, rfl, trivial⟩ (fun _ => rfl) ?_
  rintro ⟨i2, l3⟩ q4 H hq4
  replace H : zbk s1 i2 l3 = some q4 := H
  unfold zbk at H
  refine zn1 ?_
  refine zac ?_
  refine zac ?_
  refine zab hN rfl ?_
  refine qd rfl ?_
  refine qd rfl ?_
  refine zaa (za5 tyU9 rfl) ?_
  refine zaa (za3 rfl rfl) ?_
  refine zai _ rfl (fun h5 => ?_) (fun h5 => ?_)
  ·replace H := ift h5 H
   refine zan ?_
   refine zax (ι := Int × (List Int)) (fun i => [(0, .dat (vstr s1)), (4, .ptr 1 0), (5, .dat (vint i.1))]) (fun i => [(1, .box none 92 [.nptr 1, .row 7 i.2.length]), (7, .row 5 1 (List.map zcj i.2))]) (fun i => zen i.1 i.2 = some q4) (fun i => rfl) ?_ ?_
   ·refine zn1 ?_
    refine zat ?_
    refine zac ?_
    refine zac ?_
    refine zab hN rfl ?_
    refine qd rfl ?_
    refine qd rfl ?_
    obtain ⟨x6, h7, H⟩ := bnd H
    refine zaa (zli tyU9 rfl rfl h7) ?_
    refine zaa (zfw rfl rfl) ?_
    refine zai _ rfl (fun h8 => ?_) (fun h8 => ?_)
    ·replace H := ift h8 H
     refine zac ?_
     refine zab hN rfl ?_
     refine qd rfl ?_
     refine qd rfl ?_
     refine zaa (zli tyU9 rfl rfl h7) ?_
     obtain ⟨r9, h10, H⟩ := bnd H
     refine zcv (rn [(0, 1), (1, 2), (900, 3)]) [(0, _, _, some _), (1, _, _, none)] [(900, _)] (zcu l3 (x6.toNat : Int) r9 h10) ⟨rfl, rfl, rfl, trivial⟩ ⟨.inl (.inl rfl), .inl (.inl rfl), trivial⟩ ⟨⟨⟨rfl, rfl⟩, trivial⟩, ⟨⟨rfl, rfl, rfl⟩, trivial⟩, trivial⟩ rfl ?_
     refine zbp ?_
     show Cv _ _ _ _
     refine zl7 (rn [(3, 7)]) [(0, .dat (vstr s1)), (4, .ptr 1 0), (5, .dat (vint i2))] [(1, .box none 92 [.nptr 1, .row 3 r9.2.length]), (3, .row 5 1 (List.map zcj r9.2))] ⟨rfl, rfl, rfl, trivial⟩ ⟨rfl, rfl, trivial⟩ rfl rfl ?_
     exact ⟨(i2, r9.2), H, ⟨rfl, rfl, rfl, trivial⟩, ⟨rfl, rfl, trivial⟩⟩
    ·replace H := iff_ h8 H
     refine zan ?_
     refine zac ?_
     refine zac ?_
     refine zab hN rfl ?_
     refine qd rfl ?_
     refine qd rfl ?_
     obtain ⟨r11, h12, H⟩ := bnd H
     refine zaa (zak (zp0 s1 i2 r11 h12) ⟨.inl rfl, .inl rfl, trivial⟩) ?_
     refine zaa (zck rfl) ?_
     refine zai _ rfl (fun h13 => ?_) (fun h13 => ?_)
     ·replace H := ift h13 H
      refine zac ?_
      refine zab hN rfl ?_
      refine qe rfl ?_
      refine qe rfl ?_
      refine zap ?_
      replace H := retl H hq4
      cases H
      show Cv _ _ _ _
      refine zsx ?_
      show Cv _ _ _ _
      refine zsx ?_
      show Cv _ _ _ _
      refine zsx ?_
      exact ⟨trivial, .inl rfl, .inl rfl, trivial⟩
     ·replace H := iff_ h13 H
      refine zan ?_
      refine zax (ι := (List Int)) (fun i => [(0, .dat (vstr s1)), (4, .ptr 1 0), (5, .dat (vint i2))]) (fun i => [(1, .box none 92 [.nptr 1, .row 6 i.length]), (6, .row 5 1 (List.map zcj i))]) (fun i => zf3 i2 i = some q4) (fun i => rfl) ?_ ?_
      ·refine zn1 ?_
       refine zac ?_
       refine zab hN rfl ?_
       refine qd rfl ?_
       refine qd rfl ?_
       obtain ⟨r14, h15, H⟩ := bnd H
       refine zaa (zak (zri s1 i2 r14 h15) ⟨.inl rfl, .inl rfl, trivial⟩) ?_
       refine qe rfl ?_
       refine zac ?_
       refine zab hN rfl ?_
       refine qd rfl ?_
       obtain ⟨r16, h17, H⟩ := bnd H
       refine zaa (zak (zp2 r14 r16 h17) ⟨.inl rfl, trivial⟩) ?_
       refine zai _ rfl (fun h18 => ?_) (fun h18 => ?_)
       ·replace H := ift h18 H
        refine zab hN rfl ?_
        refine qd rfl ?_
        obtain ⟨r19, h20, H⟩ := bnd H
        refine zcv (rn [(0, 1), (1, 2), (900, 4)]) [(0, _, _, some _), (1, _, _, none)] [(900, _)] (zcu l3 r14 r19 h20) ⟨rfl, rfl, rfl, trivial⟩ ⟨.inl (.inl rfl), .inl (.inl rfl), trivial⟩ ⟨⟨⟨rfl, rfl⟩, trivial⟩, ⟨⟨rfl, rfl, rfl⟩, trivial⟩, trivial⟩ rfl ?_
        refine zlk ?_
        show Cv _ _ _ _
        refine zl7 (rn [(4, 6)]) [(0, .dat (vstr s1)), (4, .ptr 1 0), (5, .dat (vint i2))] [(1, .box none 92 [.nptr 1, .row 4 r19.2.length]), (4, .row 5 1 (List.map zcj r19.2))] ⟨rfl, rfl, rfl, trivial⟩ ⟨rfl, rfl, trivial⟩ rfl rfl ?_
        exact ⟨r19.2, H, ⟨rfl, rfl, rfl, trivial⟩, ⟨rfl, rfl, trivial⟩⟩
       ·replace H := iff_ h18 H
        refine zab hN rfl ?_
        refine qd rfl ?_
        obtain ⟨r21, h22, H⟩ := bnd H
        refine zaa (zak (zo8 r14 r21 h22) ⟨.inl rfl, trivial⟩) ?_
        obtain ⟨r23, h24, H⟩ := bnd H
        refine zcv (rn [(0, 1), (1, 2), (900, 5)]) [(0, _, _, some _), (1, _, _, none)] [(900, _)] (zkt l3 r21 r23 h24) ⟨rfl, rfl, rfl, trivial⟩ ⟨.inl (.inl rfl), .inl (.inl rfl), trivial⟩ ⟨⟨⟨rfl, rfl⟩, trivial⟩, ⟨⟨rfl, rfl, rfl⟩, trivial⟩, trivial⟩ rfl ?_
        refine zlk ?_
        show Cv _ _ _ _
        refine zl7 (rn [(5, 6)]) [(0, .dat (vstr s1)), (4, .ptr 1 0), (5, .dat (vint i2))] [(1, .box none 92 [.nptr 1, .row 5 r23.2.2.length]), (5, .row 5 1 (List.map zcj r23.2.2))] ⟨rfl, rfl, rfl, trivial⟩ ⟨rfl, rfl, trivial⟩ rfl rfl ?_
        exact ⟨r23.2.2, H, ⟨rfl, rfl, rfl, trivial⟩, ⟨rfl, rfl, trivial⟩⟩
      ·rintro l25 H
       replace H : zf3 i2 l25 = some q4 := H
       unfold zf3 at H
       refine zab hN rfl ?_
       refine qd rfl ?_
       refine zaa (za8 _ rfl rfl (.inl ⟨rfl, rfl⟩)) ?_
       refine qe rfl ?_
       refine zlk ?_
       show Cv _ _ _ _
       refine zl7 (rn [(6, 7)]) [(0, .dat (vstr s1)), (4, .ptr 1 0), (5, .dat (vint (wr (i2 + 2))))] [(1, .box none 92 [.nptr 1, .row 6 l25.length]), (6, .row 5 1 (List.map zcj l25))] ⟨rfl, rfl, rfl, trivial⟩ ⟨rfl, rfl, trivial⟩ rfl rfl ?_
       exact ⟨(wr (i2 + 2), l25), H, ⟨rfl, rfl, rfl, trivial⟩, ⟨rfl, rfl, trivial⟩⟩
   ·rintro ⟨i26, l27⟩ H
    replace H : zen i26 l27 = some q4 := H
    unfold zen at H
    refine zab hN rfl ?_
    refine qd rfl ?_
    refine zaa (za8 _ rfl rfl (.inl ⟨rfl, rfl⟩)) ?_
    refine qe rfl ?_
    refine zlk ?_
    show Cv _ _ _ _
    refine zl7 (rn [(7, 2)]) [(0, .dat (vstr s1)), (4, .ptr 1 0), (5, .dat (vint (wr (i26 + 1))))] [(1, .box none 92 [.nptr 1, .row 7 l27.length]), (7, .row 5 1 (List.map zcj l27))] ⟨rfl, rfl, rfl, trivial⟩ ⟨rfl, rfl, trivial⟩ rfl rfl ?_
    exact ⟨_, zio H, ⟨rfl, rfl, rfl, trivial⟩, ⟨rfl, rfl, trivial⟩⟩
  ·replace H := iff_ h5 H
   refine zbp ?_
   replace H := outl H hq4
   show Cv _ _ _ _
   refine zsx ?_
   show Cv _ _ _ _
   refine zsx ?_
   exact ⟨l3, H, ⟨rfl, trivial⟩, ⟨rfl, rfl, trivial⟩⟩
 ·rintro l28 H
  replace H : zhw l28 = some r := H
  unfold zhw at H
  refine zac ?_
  refine zab hN rfl ?_
  obtain ⟨h29, H⟩ := gif H
  refine zcv (rn [(0, 1), (1, 2)]) [(0, _, _, none), (1, _, _, none)] [] (zsk h29 (C := zcj) (fun _ => rfl)) ⟨rfl, rfl, trivial⟩ ⟨.inl (.inl rfl), trivial⟩ ⟨⟨⟨rfl, rfl⟩, trivial⟩, ⟨⟨rfl, rfl, rfl⟩, trivial⟩, trivial⟩ rfl ?_
  refine qe rfl ?_
  refine qe rfl ?_
  refine zap ?_
  cases H
  exact ⟨trivial, .inl rfl, .inl rfl, trivial⟩
theorem zny (s1 : Bs) (r : (Bs × Int)) (H : zek s1 = some r) : Fn Tryz.prog 38 [vstr s1] (zbe [vstr r.1, vint r.2]) := by
 refine ⟨by kernel_rfl, za7 (us := [vstr r.1, vint r.2]) Tryz.func38 rfl rfl rfl rfl fun X hN => ?_⟩
 unfold zek at H
 refine zac ?_
 refine zab hN rfl ?_
 refine qe rfl ?_
 refine qe rfl ?_
 refine zac ?_
 refine zac ?_
 refine zab hN rfl ?_
 refine qd rfl ?_
 obtain ⟨r2, h3, H⟩ := bnd H
 refine zaa (zak (zof s1 r2 h3) ⟨.inl rfl, trivial⟩) ?_
 refine qe rfl ?_
 refine zac ?_
 refine zab hN rfl ?_
 refine qd rfl ?_
 refine zaa (zfw rfl rfl) ?_
 refine zai _ rfl (fun h4 => ?_) (fun h4 => ?_)
 ·replace H := ift h4 H
  refine zac ?_
  refine zab hN rfl ?_
  refine qd rfl ?_
  refine qe rfl ?_
  refine qe rfl ?_
  refine zap ?_
  cases H
  exact ⟨trivial, .inl rfl, .inl rfl, trivial⟩
 ·replace H := iff_ h4 H
  refine zan ?_
  refine zac ?_
  refine zab hN rfl ?_
  refine qd rfl ?_
  obtain ⟨r5, h6, H⟩ := bnd H
  refine zaa (zak (zqq s1 r5 h6) ⟨.inl rfl, trivial⟩) ?_
  refine qd rfl ?_
  refine zaa (zbj rfl rfl) ?_
  refine zaa (zbj rfl rfl) ?_
  refine qe rfl ?_
  refine qe rfl ?_
  refine zac ?_
  refine zac ?_
  refine zab hN rfl ?_
  refine qd rfl ?_
  refine zaa (zck rfl) ?_
  refine zai _ rfl (fun h7 => ?_) (fun h7 => ?_)
  ·replace H := ift h7 H
   refine zac ?_
   refine zab hN rfl ?_
   refine qe rfl ?_
   refine qe rfl ?_
   refine zap ?_
   cases H
   exact ⟨trivial, .inl rfl, .inl rfl, trivial⟩
  ·replace H := iff_ h7 H
   refine zan ?_
   refine zac ?_
   refine zab hN rfl ?_
   refine qe rfl ?_
   refine zac ?_
   refine zab hN rfl ?_
   refine qd rfl ?_
   obtain ⟨l8, h9, H⟩ := bnd H
   refine zaa (zl0 tyU9 rfl rfl rfl h9) ?_
   obtain ⟨r10, h11, H⟩ := bnd H
   refine zaa (zak (zkp l8 [47] r10 h11) ⟨.inl rfl, .inl rfl, trivial⟩) ?_
   refine qe rfl ?_
   refine zac ?_
   refine zac ?_
   refine zab hN rfl ?_
   refine qd rfl ?_
   refine zaa (zks zse rfl) ?_
   refine qd rfl ?_
   refine zat ?_
   refine zeh 6 1 9 1 rfl rfl rfl ?_
   obtain ⟨h15, H⟩ := gif H
   refine zed (fun (k13 : Nat) (s : (List Bs)) => [(6, .row 1 s.length), (7, .dat (vlst (List.map zay r10))), (25, .dat (vlst (List.map zay r10))), (26, .dat (vint (r10.length : Int))), (27, .dat (vint (k13 : Int)))]) (fun (k13 : Nat) (s : (List Bs)) => [(1, .row 9 1 (List.map zay s))]) [] H ⟨rfl, rfl, rfl, rfl, rfl, trivial⟩ ⟨rfl, trivial⟩ (fun _ _ => rfl) ?_ ?_
   ·rintro l12 H
    replace H : zgl l12 = some r := H
    unfold zgl at H
    refine zac ?_
    refine zab hN rfl ?_
    refine zaa (za3 rfl rfl) ?_
    refine zac ?_
    refine zai _ rfl (fun h => (lt_t h).elim) (fun h => ?_)
    refine zbp ?_
    refine zac ?_
    refine zom 6 1 rfl rfl rfl ?_
    refine zab hN rfl ?_
    refine qd rfl ?_
    obtain ⟨r17, h18, H⟩ := bnd H
    refine zaa (zak (zl3 l12 [47] r17 h18) ⟨.inl rfl, .inl rfl, trivial⟩) ?_
    obtain ⟨h19, H⟩ := gif H
    refine zaa (zht rfl rfl (Nat.le_trans h19 (by decide))) ?_
    refine qe rfl ?_
    refine qe rfl ?_
    refine zap ?_
    cases H
    exact ⟨trivial, .inl rfl, .inl rfl, trivial⟩
   ·rintro k13 x16 l12 q14 h20 h21 H hq14
    replace H : zfe r10 k13 x16 l12 = some q14 := H
    unfold zfe at H
    refine zn1 ?_
    refine zac ?_
    refine zab hN rfl ?_
    refine zaa (za3 rfl rfl) ?_
    refine zac ?_
    refine zai _ rfl (fun h => ?_) (fun h => (lt_f h20 h).elim)
    refine zan ?_
    refine zax (ι := (List Bs)) (fun i => [(6, .row 4 i.length), (7, .dat (vlst (List.map zay r10))), (25, .dat (vlst (List.map zay r10))), (26, .dat (vint (r10.length : Int))), (27, .dat (vint (k13 : Int)))]) (fun i => [(4, .row 9 1 (List.map zay i))]) (fun i => zff i = some q14) (fun i => rfl) ?_ ?_
    ·refine zn1 ?_
     refine zat ?_
     refine zac ?_
     refine zab hN rfl ?_
     refine qd rfl ?_
     refine zaa (zn2 zut (fun _ => rfl) rfl rfl h21) ?_
     refine zaa (ze9 tyS9 rfl (zjk h21) rfl) ?_
     refine qe rfl ?_
     refine qe rfl ?_
     refine zax (ι := (List Bs)) (fun i => [(6, .row 3 i.length), (7, .dat (vlst (List.map zay r10))), (8, .dat (vint (k13 : Int))), (25, .dat (vlst (List.map zay r10))), (26, .dat (vint (r10.length : Int))), (27, .dat (vint (k13 : Int)))]) (fun i => [(3, .row 9 1 (List.map zay i))]) (fun i => zgk r10 k13 i = some q14) (fun i => rfl) ?_ ?_
     ·refine zn1 ?_
      refine zac ?_
      refine zab hN rfl ?_
      refine qd rfl ?_
      refine zat ?_
      refine zac ?_
      refine zab hN rfl ?_
      refine zaa (zdw rfl rfl) ?_
      refine qe rfl ?_
      refine zai _ rfl (fun h22 => ?_) (fun h22 => ?_)
      ·replace H := ift h22 H
       refine zan ?_
       show Cv _ _ _ _
       refine zl7 (rn [(1, 3)]) [(6, .row 1 l12.length), (7, .dat (vlst (List.map zay r10))), (8, .dat (vint (k13 : Int))), (25, .dat (vlst (List.map zay r10))), (26, .dat (vint (r10.length : Int))), (27, .dat (vint (k13 : Int)))] [(1, .row 9 1 (List.map zay l12))] ⟨rfl, rfl, rfl, rfl, rfl, rfl, trivial⟩ ⟨rfl, trivial⟩ rfl rfl ?_
       exact ⟨l12, H, ⟨rfl, rfl, rfl, rfl, rfl, rfl, trivial⟩, ⟨rfl, trivial⟩⟩
      ·replace H := iff_ h22 H
       refine zac ?_
       refine zab hN rfl ?_
       refine zaa (zdw rfl rfl) ?_
       refine qe rfl ?_
       refine zai _ rfl (fun h23 => ?_) (fun h23 => ?_)
       ·replace H := ift h23 H
        refine zab hN rfl ?_
        refine zaa (zah (.row _ _) rfl) ?_
        refine zaa (zah (.row _ _) rfl) ?_
        refine zau (zu2 zse rfl rfl) rfl ?_
        refine zaa (za8 _ rfl rfl (.inr (.inl ⟨rfl, rfl⟩))) ?_
        refine zaa (z6l rfl rfl) ?_
        obtain ⟨h24, H⟩ := gif H
        refine zvw (z6h (C := zay) 2 zut rfl rfl rfl h24) rfl rfl ?_
        refine zaa (zbb (.row _ _) rfl) ?_
        refine zlk ?_
        show Cv _ _ _ _
        refine zl7 (rn [(2, 3)]) [(6, .row 2 ((max (wr ((l12.length : Int) - 1)) 0).toNat)), (7, .dat (vlst (List.map zay r10))), (8, .dat (vint (k13 : Int))), (25, .dat (vlst (List.map zay r10))), (26, .dat (vint (r10.length : Int))), (27, .dat (vint (k13 : Int)))] [(2, .row 9 1 (List.map zay (l12.take (max (wr ((l12.length : Int) - 1)) 0).toNat)))] ⟨rfl, rfl, rfl, rfl, rfl, rfl, trivial⟩ ⟨rfl, trivial⟩ rfl rfl ?_
        exact ⟨(l12.take (max (wr ((l12.length : Int) - 1)) 0).toNat), H, ⟨congrArg (Slot.row 3) ((zyr h24)).symm, rfl, rfl, rfl, rfl, rfl, trivial⟩, ⟨rfl, trivial⟩⟩
       ·replace H := iff_ h23 H
        refine zac ?_
        refine zab hN rfl ?_
        refine zaa (zah (.row _ _) rfl) ?_
        refine qd rfl ?_
        refine zaa (za4 (u' := vlst (List.map zay [x16])) (zcl [[_]] zlg ⟨rfl, .inl ⟨_, rfl, rfl, rfl⟩, rfl, trivial⟩ rfl rfl) rfl) ?_
        obtain ⟨h25, H⟩ := gif H
        refine zal (zm1 zlg (fun _ => rfl) rfl rfl rfl ⟨by simp, by first | (simp; done) | simpa using h25⟩ rfl) rfl ?_
        refine zaa (zbb (.row _ _) rfl) ?_
        refine zbp ?_
        show Cv _ _ _ _
        refine zsx ?_
        show Cv _ _ _ _
        refine zl7 (rn [(1, 4)]) [(6, .row 1 ((l12 ++ [x16]).length)), (7, .dat (vlst (List.map zay r10))), (25, .dat (vlst (List.map zay r10))), (26, .dat (vint (r10.length : Int))), (27, .dat (vint (k13 : Int)))] [(1, .row 9 1 (List.map zay (l12 ++ [x16])))] ⟨rfl, rfl, rfl, rfl, rfl, trivial⟩ ⟨rfl, trivial⟩ rfl rfl ?_
        exact ⟨(l12 ++ [x16]), H, ⟨rfl, rfl, rfl, rfl, rfl, trivial⟩, ⟨rfl, trivial⟩⟩
     ·rintro out26 H
      replace H : zgk r10 k13 out26 = some q14 := H
      unfold zgk at H
      refine zac ?_
      refine zab hN rfl ?_
      refine qd rfl ?_
      refine qd rfl ?_
      refine zaa (zks zse rfl) ?_
      refine zaa (za8 _ rfl rfl (.inr (.inl ⟨rfl, rfl⟩))) ?_
      refine zaa (zb6 rfl rfl) ?_
      refine zai _ rfl (fun h27 => ?_) (fun h27 => ?_)
      ·replace H := ift h27 H
       refine zab hN rfl ?_
       refine zaa (zah (.row _ _) rfl) ?_
       refine zaa (za4 (u' := vlst (List.map zay [[]])) (zcl [[_]] zlg ⟨rfl, .inl ⟨_, rfl, rfl, rfl⟩, rfl, trivial⟩ rfl rfl) rfl) ?_
       obtain ⟨h28, H⟩ := gif H
       refine zal (zm1 zlg (fun _ => rfl) rfl rfl rfl ⟨by simp, by first | (simp; done) | simpa using h28⟩ rfl) rfl ?_
       refine zaa (zbb (.row _ _) rfl) ?_
       refine zlk ?_
       show Cv _ _ _ _
       refine zl7 (rn [(3, 4)]) [(6, .row 3 ((out26 ++ ([[]])).length)), (7, .dat (vlst (List.map zay r10))), (25, .dat (vlst (List.map zay r10))), (26, .dat (vint (r10.length : Int))), (27, .dat (vint (k13 : Int)))] [(3, .row 9 1 (List.map zay (out26 ++ ([[]]))))] ⟨rfl, rfl, rfl, rfl, rfl, trivial⟩ ⟨rfl, trivial⟩ rfl rfl ?_
       exact ⟨(out26 ++ ([[]])), H, ⟨rfl, rfl, rfl, rfl, rfl, trivial⟩, ⟨rfl, trivial⟩⟩
      ·replace H := iff_ h27 H
       refine zan ?_
       show Cv _ _ _ _
       refine zl7 (rn [(3, 4)]) [(6, .row 3 out26.length), (7, .dat (vlst (List.map zay r10))), (25, .dat (vlst (List.map zay r10))), (26, .dat (vint (r10.length : Int))), (27, .dat (vint (k13 : Int)))] [(3, .row 9 1 (List.map zay out26))] ⟨rfl, rfl, rfl, rfl, rfl, trivial⟩ ⟨rfl, trivial⟩ rfl rfl ?_
       exact ⟨out26, H, ⟨rfl, rfl, rfl, rfl, rfl, trivial⟩, ⟨rfl, trivial⟩⟩
    ·rintro out29 H
     replace H : zff out29 = some q14 := H
     unfold zff at H
     refine zab hN rfl ?_
     refine zaa (zfc rfl rfl (by omega)) ?_
     refine qd rfl ?_
     refine zlk ?_
     show Cv _ _ _ _
     refine zl7 (rn [(4, 1)]) [(6, .row 4 out29.length), (7, .dat (vlst (List.map zay r10))), (25, .dat (vlst (List.map zay r10))), (26, .dat (vint (r10.length : Int))), (27, .dat (vint ((k13 : Int) + 1)))] [(4, .row 9 1 (List.map zay out29))] ⟨rfl, rfl, rfl, rfl, rfl, trivial⟩ ⟨rfl, trivial⟩ rfl rfl ?_
     exact ⟨_, zio H, ⟨rfl, rfl, rfl, rfl, rfl, trivial⟩, ⟨rfl, trivial⟩⟩
theorem zo9 (s1 : Bs) (plus2 : Bool) (r : (Bs × Bool)) (H : zh8 s1 plus2 = some r) : Fn Tryz.prog 92 [vstr s1, za2 plus2] (zbe [vstr r.1, za2 r.2]) := by
 refine ⟨by kernel_rfl, za7 (us := [vstr r.1, za2 r.2]) Tryz.func92 rfl rfl rfl rfl fun X hN => ?_⟩
 unfold zh8 at H
 refine zac ?_
 refine zab hN rfl ?_
 refine qe rfl ?_
 refine qe rfl ?_
 refine zac ?_
 refine zab hN rfl ?_
 refine zal (zdf 1 z6b rfl) rfl ?_
 refine zyt 1 0 (.nptr 1) rfl rfl zv0 ?_
 refine zpy 1 1 2 5 1 rfl rfl rfl rfl ?_
 refine zax (ι := (List Int)) (fun i => [(6, .ptr 1 0)]) (fun i => [(1, .box none 92 [.nptr 1, .row 2 i.length]), (2, .row 5 1 (List.map zcj i))]) (fun i => zjv i = some r) (fun i => rfl) ?_ ?_
 ·refine zn1 ?_
  refine zac ?_
  refine zab hN rfl ?_
  refine qe rfl ?_
  refine zat ?_
  refine zlf (fun (s : Int × (List Int)) => [(0, .dat (vstr s1)), (1, .dat (za2 plus2)), (6, .ptr 1 0), (7, .dat (vint s.1))]) (fun (s : Int × (List Int)) => [(1, .box none 92 [.nptr 1, .row 2 s.2.length]), (2, .row 5 1 (List.map zcj s.2))]) (0, ([] : List Int)) H ⟨rfl, rfl, rfl, rfl, trivial⟩ ⟨rfl, rfl, trivial⟩ (fun _ => rfl) ?_
  rintro ⟨i3, l4⟩ q5 H hq5
  replace H : zbo s1 plus2 i3 l4 = some q5 := H
  unfold zbo at H
  refine zn1 ?_
  refine zac ?_
  refine zac ?_
  refine zab hN rfl ?_
  refine qd rfl ?_
  refine qd rfl ?_
  refine zaa (za5 tyU9 rfl) ?_
  refine zaa (za3 rfl rfl) ?_
  refine zai _ rfl (fun h6 => ?_) (fun h6 => ?_)
  ·replace H := ift h6 H
   refine zan ?_
   refine zax (ι := Int × (List Int)) (fun i => [(0, .dat (vstr s1)), (1, .dat (za2 plus2)), (6, .ptr 1 0), (7, .dat (vint i.1))]) (fun i => [(1, .box none 92 [.nptr 1, .row 6 i.2.length]), (6, .row 5 1 (List.map zcj i.2))]) (fun i => zet i.1 i.2 = some q5) (fun i => rfl) ?_ ?_
   ·refine zn1 ?_
    refine zat ?_
    refine zat ?_
    refine zac ?_
    refine zab hN rfl ?_
    refine qd rfl ?_
    refine qd rfl ?_
    obtain ⟨x7, h8, H⟩ := bnd H
    refine zaa (zli tyU9 rfl rfl h8) ?_
    refine zaa (zb6 rfl rfl) ?_
    refine qd rfl ?_
    refine zig rfl rfl (fun hc => zah (.dat _) rfl) ?_
    refine zaa (zco rfl (fun hb => (cnd (c := (decide ((x7.toNat : Int) = 43))) hb)) rfl) ?_
    refine qe rfl ?_
    refine zai _ rfl (fun h9 => ?_) (fun h9 => ?_)
    ·replace H := ift h9 H
     refine zab hN rfl ?_
     obtain ⟨r10, h11, H⟩ := bnd H
     refine zcv (rn [(0, 1), (1, 2), (900, 3)]) [(0, _, _, some _), (1, _, _, none)] [(900, _)] (zcu l4 32 r10 h11) ⟨rfl, rfl, rfl, trivial⟩ ⟨.inl (.inl rfl), .inl (.inl rfl), trivial⟩ ⟨⟨⟨rfl, rfl⟩, trivial⟩, ⟨⟨rfl, rfl, rfl⟩, trivial⟩, trivial⟩ rfl ?_
     refine zlk ?_
     show Cv _ _ _ _
     refine zl7 (rn [(3, 6)]) [(0, .dat (vstr s1)), (1, .dat (za2 plus2)), (6, .ptr 1 0), (7, .dat (vint i3))] [(1, .box none 92 [.nptr 1, .row 3 r10.2.length]), (3, .row 5 1 (List.map zcj r10.2))] ⟨rfl, rfl, rfl, rfl, trivial⟩ ⟨rfl, rfl, trivial⟩ rfl rfl ?_
     exact ⟨(i3, r10.2), H, ⟨rfl, rfl, rfl, rfl, trivial⟩, ⟨rfl, rfl, trivial⟩⟩
    ·replace H := iff_ h9 H
     refine zac ?_
     refine zab hN rfl ?_
     refine qd rfl ?_
     refine qd rfl ?_
     refine zaa (zli tyU9 rfl rfl h8) ?_
     refine zaa (zfw rfl rfl) ?_
     refine qe rfl ?_
     refine zai _ rfl (fun h12 => ?_) (fun h12 => ?_)
     ·replace H := ift h12 H
      refine zab hN rfl ?_
      refine qd rfl ?_
      refine qd rfl ?_
      refine zaa (zli tyU9 rfl rfl h8) ?_
      obtain ⟨r13, h14, H⟩ := bnd H
      refine zcv (rn [(0, 1), (1, 2), (900, 4)]) [(0, _, _, some _), (1, _, _, none)] [(900, _)] (zcu l4 (x7.toNat : Int) r13 h14) ⟨rfl, rfl, rfl, trivial⟩ ⟨.inl (.inl rfl), .inl (.inl rfl), trivial⟩ ⟨⟨⟨rfl, rfl⟩, trivial⟩, ⟨⟨rfl, rfl, rfl⟩, trivial⟩, trivial⟩ rfl ?_
      refine zlk ?_
      show Cv _ _ _ _
      refine zl7 (rn [(4, 6)]) [(0, .dat (vstr s1)), (1, .dat (za2 plus2)), (6, .ptr 1 0), (7, .dat (vint i3))] [(1, .box none 92 [.nptr 1, .row 4 r13.2.length]), (4, .row 5 1 (List.map zcj r13.2))] ⟨rfl, rfl, rfl, rfl, trivial⟩ ⟨rfl, rfl, trivial⟩ rfl rfl ?_
      exact ⟨(i3, r13.2), H, ⟨rfl, rfl, rfl, rfl, trivial⟩, ⟨rfl, rfl, trivial⟩⟩
     ·replace H := iff_ h12 H
      refine zac ?_
      refine zab hN rfl ?_
      refine qd rfl ?_
      refine qd rfl ?_
      obtain ⟨r15, h16, H⟩ := bnd H
      refine zaa (zak (zp0 s1 i3 r15 h16) ⟨.inl rfl, .inl rfl, trivial⟩) ?_
      refine zaa (zck rfl) ?_
      refine qe rfl ?_
      refine zai _ rfl (fun h17 => ?_) (fun h17 => ?_)
      ·replace H := ift h17 H
       refine zac ?_
       refine zab hN rfl ?_
       refine qe rfl ?_
       refine qe rfl ?_
       refine zap ?_
       replace H := retl H hq5
       cases H
       show Cv _ _ _ _
       refine zsx ?_
       show Cv _ _ _ _
       refine zsx ?_
       show Cv _ _ _ _
       refine zsx ?_
       exact ⟨trivial, .inl rfl, .inl rfl, trivial⟩
      ·replace H := iff_ h17 H
       refine zac ?_
       refine zab hN rfl ?_
       refine qd rfl ?_
       refine qd rfl ?_
       obtain ⟨r18, h19, H⟩ := bnd H
       refine zaa (zak (zri s1 i3 r18 h19) ⟨.inl rfl, .inl rfl, trivial⟩) ?_
       obtain ⟨r20, h21, H⟩ := bnd H
       refine zcv (rn [(0, 1), (1, 2), (900, 5)]) [(0, _, _, some _), (1, _, _, none)] [(900, _)] (zcu l4 r18 r20 h21) ⟨rfl, rfl, rfl, trivial⟩ ⟨.inl (.inl rfl), .inl (.inl rfl), trivial⟩ ⟨⟨⟨rfl, rfl⟩, trivial⟩, ⟨⟨rfl, rfl, rfl⟩, trivial⟩, trivial⟩ rfl ?_
       refine zab hN rfl ?_
       refine qd rfl ?_
       refine zaa (za8 _ rfl rfl (.inl ⟨rfl, rfl⟩)) ?_
       refine qe rfl ?_
       refine zlk ?_
       show Cv _ _ _ _
       refine zl7 (rn [(5, 6)]) [(0, .dat (vstr s1)), (1, .dat (za2 plus2)), (6, .ptr 1 0), (7, .dat (vint (wr (i3 + 2))))] [(1, .box none 92 [.nptr 1, .row 5 r20.2.length]), (5, .row 5 1 (List.map zcj r20.2))] ⟨rfl, rfl, rfl, rfl, trivial⟩ ⟨rfl, rfl, trivial⟩ rfl rfl ?_
       exact ⟨(wr (i3 + 2), r20.2), H, ⟨rfl, rfl, rfl, rfl, trivial⟩, ⟨rfl, rfl, trivial⟩⟩
   ·rintro ⟨i22, l23⟩ H
    replace H : zet i22 l23 = some q5 := H
    unfold zet at H
    refine zab hN rfl ?_
    refine qd rfl ?_
    refine zaa (za8 _ rfl rfl (.inl ⟨rfl, rfl⟩)) ?_
    refine qe rfl ?_
    refine zlk ?_
    show Cv _ _ _ _
    refine zl7 (rn [(6, 2)]) [(0, .dat (vstr s1)), (1, .dat (za2 plus2)), (6, .ptr 1 0), (7, .dat (vint (wr (i22 + 1))))] [(1, .box none 92 [.nptr 1, .row 6 l23.length]), (6, .row 5 1 (List.map zcj l23))] ⟨rfl, rfl, rfl, rfl, trivial⟩ ⟨rfl, rfl, trivial⟩ rfl rfl ?_
    exact ⟨_, zio H, ⟨rfl, rfl, rfl, rfl, trivial⟩, ⟨rfl, rfl, trivial⟩⟩
  ·replace H := iff_ h6 H
   refine zbp ?_
   replace H := outl H hq5
   show Cv _ _ _ _
   refine zsx ?_
   show Cv _ _ _ _
   refine zsx ?_
   exact ⟨l4, H, ⟨rfl, trivial⟩, ⟨rfl, rfl, trivial⟩⟩
 ·rintro l24 H
  replace H : zjv l24 = some r := H
  unfold zjv at H
  refine zac ?_
  refine zab hN rfl ?_
  obtain ⟨h25, H⟩ := gif H
  refine zcv (rn [(0, 1), (1, 2)]) [(0, _, _, none), (1, _, _, none)] [] (zsk h25 (C := zcj) (fun _ => rfl)) ⟨rfl, rfl, trivial⟩ ⟨.inl (.inl rfl), trivial⟩ ⟨⟨⟨rfl, rfl⟩, trivial⟩, ⟨⟨rfl, rfl, rfl⟩, trivial⟩, trivial⟩ rfl ?_
  refine qe rfl ?_
  refine qe rfl ?_
  refine zap ?_
  cases H
  exact ⟨trivial, .inl rfl, .inl rfl, trivial⟩
theorem zln (s1 : (List zag)) (p1 : zag → Option (Bool)) (fv1 : Nat) (us1 : List V) (hp1 : ∀ a0 r, p1 a0 = some r → Fn Tryz.prog fv1 ([vagg (za1 a0)] ++ us1) (zbe [za2 r])) (r : (Int)) (H : zfg s1 p1 = some r) : Fn Tryz.prog 93 [vlst (List.map za1 s1), vfn fv1 us1] (zbe [vint r]) := by
 refine ⟨by kernel_rfl, za7 (us := [vint r]) Tryz.func93 rfl rfl rfl rfl fun X hN => ?_⟩
 unfold zfg at H
 refine zac ?_
 refine zab hN rfl ?_
 refine qe rfl ?_
 refine zac ?_
 refine zac ?_
 refine zab hN rfl ?_
 refine qd rfl ?_
 refine zaa (zks ztr rfl) ?_
 refine qd rfl ?_
 refine zat ?_
 obtain ⟨h4, H⟩ := gif H
 refine zed (fun (k2 : Nat) (s : Unit) => [(0, .dat (vlst (List.map za1 s1))), (1, .dat (vfn fv1 us1)), (7, .dat (vint (s1.length : Int))), (8, .dat (vint (k2 : Int)))]) (fun (k2 : Nat) (s : Unit) => []) () H ⟨rfl, rfl, rfl, rfl, trivial⟩ trivial (fun _ _ => rfl) ?_ ?_
 ·rintro ⟨⟩ H
  replace H : ze5 = some r := H
  unfold ze5 at H
  refine zac ?_
  refine zab hN rfl ?_
  refine zaa (za3 rfl rfl) ?_
  refine zac ?_
  refine zai _ rfl (fun h => (lt_t h).elim) (fun h => ?_)
  refine zbp ?_
  refine zac ?_
  refine zab hN rfl ?_
  refine qe rfl ?_
  refine zap ?_
  cases H
  exact ⟨trivial, .inl rfl, trivial⟩
 ·rintro k2 x5 ⟨⟩ q3 h6 h7 H hq3
  replace H : ze4 p1 k2 x5 = some q3 := H
  unfold ze4 at H
  refine zac ?_
  refine zab hN rfl ?_
  refine zaa (za3 rfl rfl) ?_
  refine zac ?_
  refine zai _ rfl (fun h => ?_) (fun h => (lt_f h6 h).elim)
  refine zan ?_
  refine zac ?_
  refine zat ?_
  refine zac ?_
  refine zab hN rfl ?_
  refine qd rfl ?_
  refine qe rfl ?_
  refine zac ?_
  refine zab hN rfl ?_
  refine qd rfl ?_
  refine qd rfl ?_
  refine qd rfl ?_
  refine zaa (zn2 zsh (fun _ => rfl) rfl rfl h7) ?_
  refine zaa (zip zp5 rfl (zjk h7) rfl) ?_
  obtain ⟨r8, h9, H⟩ := bnd H
  refine zaa (zqi (hp1 x5 r8 h9) rfl ⟨.inl rfl, trivial⟩) ?_
  refine zai _ rfl (fun h10 => ?_) (fun h10 => ?_)
  ·replace H := ift h10 H
   refine zac ?_
   refine zab hN rfl ?_
   refine qd rfl ?_
   refine qe rfl ?_
   refine zap ?_
   replace H := retl H hq3
   cases H
   exact ⟨trivial, .inl rfl, trivial⟩
  ·replace H := iff_ h10 H
   refine zan ?_
   refine zab hN rfl ?_
   refine zaa (zfc rfl rfl (by omega)) ?_
   refine qd rfl ?_
   exact ⟨_, zio H, ⟨rfl, rfl, rfl, rfl, trivial⟩, trivial⟩
end Go.Proofs.YthgblfklceopgaaGreatDoor
