/- Walks along the models. Printed by a program. -/
import Derived.Test.YtaolapgdgdmapaaGreatDoorZbw4
namespace Go.Proofs.YtaolapgdgdmapaaGreatDoor
open Go.RowKit
set_option linter.unusedVariables false
set_option maxRecDepth 20000
set_option maxHeartbeats 2000000
theorem k_portal_CheckApps (l1 : (List S_api_App)) (r : (Int)) (H : m_portal_CheckApps l1 = some r) : Fn Tryz.prog 12 [vlst (List.map C_api_App l1)] (resOf [vint r]) := by
 refine ⟨by kernel_rfl, pure_of (us := [vint r]) Tryz.func12 rfl rfl rfl rfl fun X hN => ?_⟩
 unfold m_portal_CheckApps at H
 refine awp_seq ?_
 refine awp_plain hN rfl ?_
 refine qe rfl ?_
 refine awp_seq ?_
 refine awp_seq ?_
 refine awp_plain hN rfl ?_
 refine qd rfl ?_
 refine seq_run0 (t_len tyU30 rfl) ?_
 refine seq_run0 (stp_gtr rfl rfl) ?_
 refine awp_cond _ rfl (fun h2 => ?_) (fun h2 => ?_)
 ·replace H := ift h2 H
  refine awp_seq ?_
  refine awp_plain hN rfl ?_
  refine qe rfl ?_
  refine awp_ret ?_
  cases H
  exact ⟨trivial, .inl rfl, trivial⟩
 ·replace H := iff_ h2 H
  refine awp_skip ?_
  refine awp_seq ?_
  refine awp_seq ?_
  refine awp_plain hN rfl ?_
  refine qd rfl ?_
  refine seq_run0 (t_len tyU30 rfl) ?_
  refine qd rfl ?_
  refine awp_block ?_
  obtain ⟨h5, H⟩ := gif H
  refine awp_forL (fun (k3 : Nat) (s : Unit) => [(0, .dat (vlst (List.map C_api_App l1))), (8, .dat (vlst (List.map C_api_App l1))), (9, .dat (vint (l1.length : Int))), (10, .dat (vint (k3 : Int)))]) (fun (k3 : Nat) (s : Unit) => []) () H ⟨rfl, rfl, rfl, rfl, trivial⟩ trivial (fun _ _ => rfl) ?_ ?_
  ·rintro ⟨⟩ H
   replace H : portal_CheckApps_E1 = some r := H
   unfold portal_CheckApps_E1 at H
   refine awp_seq ?_
   refine awp_plain hN rfl ?_
   refine seq_run0 (stp_lss rfl rfl) ?_
   refine awp_seq ?_
   refine awp_cond _ rfl (fun h => (lt_t h).elim) (fun h => ?_)
   refine awp_exit ?_
   refine awp_seq ?_
   refine awp_plain hN rfl ?_
   refine qe rfl ?_
   refine awp_ret ?_
   cases H
   exact ⟨trivial, .inl rfl, trivial⟩
  ·rintro k3 x6 ⟨⟩ q4 h7 h8 H hq4
   replace H : portal_CheckApps_L1 l1 k3 x6 = some q4 := H
   unfold portal_CheckApps_L1 at H
   refine awp_seq ?_
   refine awp_plain hN rfl ?_
   refine seq_run0 (stp_lss rfl rfl) ?_
   refine awp_seq ?_
   refine awp_cond _ rfl (fun h => ?_) (fun h => (lt_f h7 h).elim)
   refine awp_skip ?_
   refine awp_seq ?_
   refine awp_block ?_
   refine awp_seq ?_
   refine awp_plain hN rfl ?_
   refine qd rfl ?_
   refine seq_run0 (t_idx tyE30 (fun _ => rfl) rfl rfl h8) ?_
   refine seq_run0 (stp_loadEA tyS60 rfl (map_at h8) rfl) ?_
   refine seq_run2 (stp_alloc 1 tyZ60 rfl) rfl ?_
   refine qe rfl ?_
   refine seq_run2 (stp_storeW tyS60 rfl rfl rfl rfl) rfl ?_
   refine awp_seq ?_
   refine awp_joinE (ι := Bool) (fun i => [(0, .dat (vlst (List.map C_api_App l1))), (3, .dat (vint (k3 : Int))), (4, .ptr 1 0), (8, .dat (vlst (List.map C_api_App l1))), (9, .dat (vint (l1.length : Int))), (10, .dat (vint (k3 : Int))), (24, .dat (vbool i))]) (fun i => [(1, .box none 60 [.dat (vstr x6.Key), .dat (vstr x6.Owner)])]) (fun i => portal_CheckApps_J2 l1 k3 x6 i = some q4) (fun i => rfl) ?_ ?_
   ·skip
    refine awp_plain hN rfl ?_
    refine seq_run0 (stp_fldP tyF60_0 rfl) ?_
    refine seq_run1 (stp_load1 tyS9 rfl rfl) rfl ?_
    obtain ⟨r9, h10, H⟩ := bnd H
    refine seq_run0 (stp_call (k_kit_IsKey x6.Key r9 h10) ⟨.inl rfl, trivial⟩) ?_
    refine seq_run0 (stp_not rfl) ?_
    refine qd rfl ?_
    refine seq_split (j := 4) rfl rfl (fun h11 => ?_) (fun h11 => ?_) rfl
    ·have h12 := un3 h11
     replace H := iff_ h12 H
     refine seq_g0 rfl rfl h11 (stp_fldP tyF60_1 rfl) ?_
     refine seq_g1 rfl rfl h11 (stp_load1 tyS9 rfl rfl) rfl ?_
     obtain ⟨r13, h14, H⟩ := bnd H
     refine seq_g0 rfl rfl h11 (stp_call (k_kit_IsKey x6.Owner r13 h14) ⟨.inl rfl, trivial⟩) ?_
     refine seq_g0 rfl rfl h11 (stp_not rfl) ?_
     refine seq_run0 (stp_pick_f rfl (bFF h12) rfl) ?_
     exact ⟨!r13, H, ⟨rfl, rfl, rfl, rfl, rfl, rfl, rfl, trivial⟩, ⟨rfl, trivial⟩⟩
    ·have h15 := un4 h11
     replace H := ift h15 H
     refine seq_skip rfl rfl h11 ?_
     refine seq_skip rfl rfl h11 ?_
     refine seq_skip rfl rfl h11 ?_
     refine seq_skip rfl rfl h11 ?_
     refine seq_run0 (stp_pick_t rfl (bTT h15) rfl) ?_
     exact ⟨true, H, ⟨rfl, rfl, rfl, rfl, rfl, rfl, rfl, trivial⟩, ⟨rfl, trivial⟩⟩
   ·rintro v16 H
    replace H : portal_CheckApps_J2 l1 k3 x6 v16 = some q4 := H
    unfold portal_CheckApps_J2 at H
    refine awp_cond _ rfl (fun h17 => ?_) (fun h17 => ?_)
    ·replace H := ift h17 H
     refine awp_seq ?_
     refine awp_plain hN rfl ?_
     refine qe rfl ?_
     refine awp_ret ?_
     replace H := retl H hq4
     cases H
     exact ⟨trivial, .inl rfl, trivial⟩
    ·replace H := iff_ h17 H
     refine awp_skip ?_
     refine awp_joinE (ι := Bool) (fun i => [(0, .dat (vlst (List.map C_api_App l1))), (8, .dat (vlst (List.map C_api_App l1))), (9, .dat (vint (l1.length : Int))), (10, .dat (vint (k3 : Int))), (37, .dat (vbool i))]) (fun i => []) (fun i => portal_CheckApps_J3 i = some q4) (fun i => rfl) ?_ ?_
     ·skip
      refine awp_draw mixed hN rfl rfl ?_
      refine qd rfl ?_
      refine seq_run0 (stp_gtr rfl rfl) ?_
      refine qd rfl ?_
      refine seq_split (j := 2) rfl rfl (fun h18 => ?_) (fun h18 => ?_) rfl
      ·have h19 := un1 h18
       replace H := ift h19 H
       refine seq_g0 rfl rfl h18 (stp_fldP tyF60_0 rfl) ?_
       refine seq_g1 rfl rfl h18 (stp_load1 tyS9 rfl rfl) rfl ?_
       refine seq_g0 rfl rfl h18 (stp_move (.dat _) rfl) ?_
       refine seq_g0 rfl rfl h18 (stp_move (.dat _) rfl) ?_
       refine seq_g0 rfl rfl h18 (stp_sub rfl rfl (by omega)) ?_
       obtain ⟨x20, h21, H⟩ := bnd H
       refine seq_g0 rfl rfl h18 (t_idxI tyE30 (fun _ => rfl) rfl rfl h21) ?_
       refine seq_g0 rfl rfl h18 (stp_fldE tyF60_0 rfl) ?_
       refine seq_g0 rfl rfl h18 (stp_loadE1 tyS9 rfl (map_at (at_some h21).2) rfl) ?_
       refine seq_g0 rfl rfl h18 (stp_sleq rfl rfl) ?_
       refine seq_run0 (stp_pick_t rfl (bTT h19) rfl) ?_
       refine ⟨rfl, ?_⟩
       exact ⟨(Op.bytesLess x6.Key x20.Key || x6.Key == x20.Key), H, ⟨rfl, rfl, rfl, rfl, rfl, trivial⟩, trivial⟩
      ·have h22 := un2 h18
       replace H := iff_ h22 H
       refine seq_skip rfl rfl h18 ?_
       refine seq_skip rfl rfl h18 ?_
       refine seq_skip rfl rfl h18 ?_
       refine seq_skip rfl rfl h18 ?_
       refine seq_skip rfl rfl h18 ?_
       refine seq_skip rfl rfl h18 ?_
       refine seq_skip rfl rfl h18 ?_
       refine seq_skip rfl rfl h18 ?_
       refine seq_skip rfl rfl h18 ?_
       refine seq_run0 (stp_pick_f rfl (bFF h22) rfl) ?_
       refine ⟨rfl, ?_⟩
       exact ⟨false, H, ⟨rfl, rfl, rfl, rfl, rfl, trivial⟩, trivial⟩
     ·rintro v23 H
      replace H : portal_CheckApps_J3 v23 = some q4 := H
      unfold portal_CheckApps_J3 at H
      refine awp_cond _ rfl (fun h24 => ?_) (fun h24 => ?_)
      ·replace H := ift h24 H
       refine awp_seq ?_
       refine awp_plain hN rfl ?_
       refine qe rfl ?_
       refine awp_ret ?_
       replace H := retl H hq4
       cases H
       exact ⟨trivial, .inl rfl, trivial⟩
      ·replace H := iff_ h24 H
       refine awp_skip ?_
       refine awp_plain hN rfl ?_
       refine seq_run0 (stp_add rfl rfl (by omega)) ?_
       refine qd rfl ?_
       exact ⟨_, backl H, ⟨rfl, rfl, rfl, rfl, trivial⟩, trivial⟩
theorem k_kit_IsMoment (n1 : Int) (r : (Bool)) (H : m_kit_IsMoment n1 = some r) : Fn Tryz.prog 71 [vint n1] (resOf [vbool r]) := by
 refine ⟨by kernel_rfl, pure_of (us := [vbool r]) Tryz.func71 rfl rfl rfl rfl fun X hN => ?_⟩
 unfold m_kit_IsMoment at H
 refine awp_seq ?_
 refine awp_plain hN rfl ?_
 refine qe rfl ?_
 refine awp_seq ?_
 refine awp_plain hN rfl ?_
 refine qd rfl ?_
 refine seq_run0 (stp_geq rfl rfl) ?_
 refine qd rfl ?_
 refine seq_aT rfl rfl (fun hc => stp_move (.dat _) rfl) ?_
 refine seq_aT rfl rfl (fun hc => stp_lss (cnd (c := (decide (0 ≤ n1))) hc) rfl) ?_
 refine seq_run0 (stp_pick_and rfl (fun hb => (cnd (c := (decide (0 ≤ n1))) hb)) rfl) ?_
 refine qe rfl ?_
 refine awp_ret ?_
 cases H
 exact ⟨trivial, .inl rfl, trivial⟩
theorem k_slices_BinarySearchFunc_L_api_App_api_App_string_ (x1 : (List S_api_App)) (target2 : Bs) (p2 : S_api_App → Bs → Option (Int)) (fv2 : Nat) (us2 : List V) (hp2 : ∀ a0 a1 r, p2 a0 a1 = some r → Fn Tryz.prog fv2 ([vagg (C_api_App a0), vstr a1] ++ us2) (resOf [vint r])) (r : (Int × Bool)) (H : m_slices_BinarySearchFunc_L_api_App_api_App_string_ x1 target2 p2 = some r) : Fn Tryz.prog 99 [vlst (List.map C_api_App x1), vstr target2, vfn fv2 us2] (resOf [vint r.1, vbool r.2]) := by
 refine ⟨by kernel_rfl, pure_of (us := [vint r.1, vbool r.2]) Tryz.func99 rfl rfl rfl rfl fun X hN => ?_⟩
 unfold m_slices_BinarySearchFunc_L_api_App_api_App_string_ at H
 refine awp_seq ?_
 refine awp_plain hN rfl ?_
 refine qe rfl ?_
 refine qe rfl ?_
 refine awp_seq ?_
 refine awp_plain hN rfl ?_
 refine qd rfl ?_
 refine seq_run0 (t_len tyU30 rfl) ?_
 refine qe rfl ?_
 refine awp_seq ?_
 refine awp_plain hN rfl ?_
 refine qd rfl ?_
 refine qe rfl ?_
 refine qe rfl ?_
 refine awp_joinE (ι := Int) (fun i => [(0, .dat (vlst (List.map C_api_App x1))), (1, .dat (vstr target2)), (2, .dat (vfn fv2 us2)), (8, .dat (vint (x1.length : Int))), (9, .dat (vint i))]) (fun i => []) (fun i => slices_BinarySearchFunc_L_api_App_api_App_string__J1 x1 target2 p2 i = some r) (fun i => rfl) ?_ ?_
 ·skip
  refine awp_block ?_
  refine awp_iter (fun (s : Int × Int) => [(0, .dat (vlst (List.map C_api_App x1))), (1, .dat (vstr target2)), (2, .dat (vfn fv2 us2)), (8, .dat (vint (x1.length : Int))), (9, .dat (vint s.1)), (10, .dat (vint s.2))]) (fun (s : Int × Int) => []) (0, (x1.length : Int)) H ⟨rfl, rfl, rfl, rfl, rfl, rfl, trivial⟩ trivial (fun _ => rfl) ?_
  rintro ⟨i3, j4⟩ q5 H hq5
  replace H : slices_BinarySearchFunc_L_api_App_api_App_string__L2 x1 target2 p2 i3 j4 = some q5 := H
  unfold slices_BinarySearchFunc_L_api_App_api_App_string__L2 at H
  refine awp_seq ?_
  refine awp_seq ?_
  refine awp_plain hN rfl ?_
  refine qd rfl ?_
  refine qd rfl ?_
  refine seq_run0 (stp_lss rfl rfl) ?_
  refine awp_cond _ rfl (fun h6 => ?_) (fun h6 => ?_)
  ·replace H := ift h6 H
   refine awp_skip ?_
   refine awp_block ?_
   refine awp_seq ?_
   refine awp_plain hN rfl ?_
   refine qd rfl ?_
   refine qd rfl ?_
   refine seq_run0 (stp_wrap _ rfl rfl (.inl ⟨rfl, rfl⟩)) ?_
   refine seq_run0 (stp_conv tyU3 tyU130 rfl) ?_
   refine seq_run0 (stp_dat (stp_shr rfl rfl (by decide)) rfl) ?_
   refine seq_run0 (stp_conv tyU130 tyU3 rfl) ?_
   refine qe rfl ?_
   refine awp_seq ?_
   refine awp_plain hN rfl ?_
   refine qd rfl ?_
   refine qd rfl ?_
   refine qd rfl ?_
   obtain ⟨x7, h8, H⟩ := bnd H
   refine seq_run0 (t_idxI tyE30 (fun _ => rfl) rfl rfl h8) ?_
   refine seq_run0 (stp_loadEA tyS60 rfl (map_at (at_some h8).2) rfl) ?_
   refine qd rfl ?_
   obtain ⟨r9, h10, H⟩ := bnd H
   refine seq_run0 (stp_callv (hp2 x7 target2 r9 h10) rfl ⟨.inl rfl, .inl rfl, trivial⟩) ?_
   refine seq_run0 (stp_lss rfl rfl) ?_
   refine awp_cond _ rfl (fun h11 => ?_) (fun h11 => ?_)
   ·replace H := ift h11 H
    refine awp_plain hN rfl ?_
    refine qd rfl ?_
    refine seq_run0 (stp_wrap _ rfl rfl (.inl ⟨rfl, rfl⟩)) ?_
    refine qe rfl ?_
    exact ⟨_, backl H, ⟨rfl, rfl, rfl, rfl, rfl, rfl, trivial⟩, trivial⟩
   ·replace H := iff_ h11 H
    refine awp_plain hN rfl ?_
    refine qd rfl ?_
    refine qe rfl ?_
    exact ⟨_, backl H, ⟨rfl, rfl, rfl, rfl, rfl, rfl, trivial⟩, trivial⟩
  ·replace H := iff_ h6 H
   refine awp_exit ?_
   replace H := outl H hq5
   exact ⟨i3, H, ⟨rfl, rfl, rfl, rfl, rfl, trivial⟩, trivial⟩
 ·rintro i12 H
  replace H : slices_BinarySearchFunc_L_api_App_api_App_string__J1 x1 target2 p2 i12 = some r := H
  unfold slices_BinarySearchFunc_L_api_App_api_App_string__J1 at H
  refine awp_joinE (ι := Bool) (fun i => [(6, .dat (vint i12)), (7, .dat (vbool i))]) (fun i => []) (fun i => slices_BinarySearchFunc_L_api_App_api_App_string__J3 i12 i = some r) (fun i => rfl) ?_ ?_
  ·skip
   refine awp_plain hN rfl ?_
   refine qd rfl ?_
   refine qd rfl ?_
   refine qd rfl ?_
   refine seq_run0 (stp_lss rfl rfl) ?_
   refine qd rfl ?_
   refine seq_split (j := 4) rfl rfl (fun h13 => ?_) (fun h13 => ?_) rfl
   ·have h14 := un1 h13
    replace H := ift h14 H
    refine seq_g0 rfl rfl h13 (stp_move (.dat _) rfl) ?_
    refine seq_g0 rfl rfl h13 (stp_move (.dat _) rfl) ?_
    refine seq_g0 rfl rfl h13 (stp_move (.dat _) rfl) ?_
    obtain ⟨x15, h16, H⟩ := bnd H
    refine seq_g0 rfl rfl h13 (t_idxI tyE30 (fun _ => rfl) rfl rfl h16) ?_
    refine seq_g0 rfl rfl h13 (stp_loadEA tyS60 rfl (map_at (at_some h16).2) rfl) ?_
    refine seq_g0 rfl rfl h13 (stp_move (.dat _) rfl) ?_
    obtain ⟨r17, h18, H⟩ := bnd H
    refine seq_g0 rfl rfl h13 (stp_callv (hp2 x15 target2 r17 h18) rfl ⟨.inl rfl, .inl rfl, trivial⟩) ?_
    refine seq_g0 rfl rfl h13 (stp_eql rfl rfl) ?_
    refine seq_run0 (stp_pick_t rfl (bTT h14) rfl) ?_
    refine qe rfl ?_
    refine qe rfl ?_
    exact ⟨decide (r17 = 0), H, ⟨rfl, rfl, trivial⟩, trivial⟩
   ·have h19 := un2 h13
    replace H := iff_ h19 H
    refine seq_skip rfl rfl h13 ?_
    refine seq_skip rfl rfl h13 ?_
    refine seq_skip rfl rfl h13 ?_
    refine seq_skip rfl rfl h13 ?_
    refine seq_skip rfl rfl h13 ?_
    refine seq_skip rfl rfl h13 ?_
    refine seq_skip rfl rfl h13 ?_
    refine seq_skip rfl rfl h13 ?_
    refine seq_run0 (stp_pick_f rfl (bFF h19) rfl) ?_
    refine qe rfl ?_
    refine qe rfl ?_
    exact ⟨false, H, ⟨rfl, rfl, trivial⟩, trivial⟩
  ·rintro v20 H
   replace H : slices_BinarySearchFunc_L_api_App_api_App_string__J3 i12 v20 = some r := H
   unfold slices_BinarySearchFunc_L_api_App_api_App_string__J3 at H
   refine awp_ret ?_
   cases H
   exact ⟨trivial, .inl rfl, .inl rfl, trivial⟩
theorem k_portal_appAt_1 (a1 : S_api_App) (k2 : Bs) (r : (Int)) (H : m_portal_appAt_1 a1 k2 = some r) : Fn Tryz.prog 100 [vagg (C_api_App a1), vstr k2] (resOf [vint r]) := by
 refine ⟨by kernel_rfl, pure_of (us := [vint r]) Tryz.func100 rfl rfl rfl rfl fun X hN => ?_⟩
 unfold m_portal_appAt_1 at H
 refine awp_seq ?_
 refine awp_plain hN rfl ?_
 refine seq_run2 (stp_boxA 1 rfl) rfl ?_
 refine qe rfl ?_
 refine awp_seq ?_
 refine awp_plain hN rfl ?_
 refine seq_run0 (stp_fldP tyF60_0 rfl) ?_
 refine seq_run1 (stp_load1 tyS9 rfl rfl) rfl ?_
 refine qd rfl ?_
 obtain ⟨r3, h4, H⟩ := bnd H
 refine seq_run0 (stp_call (k_strings_Compare a1.Key k2 r3 h4) ⟨.inl rfl, .inl rfl, trivial⟩) ?_
 refine qe rfl ?_
 refine awp_ret ?_
 cases H
 exact ⟨trivial, .inl rfl, trivial⟩
theorem k_portal_appAt (l1 : (List S_api_App)) (key2 : Bs) (r : (Int × Bool)) (H : m_portal_appAt l1 key2 = some r) : Fn Tryz.prog 72 [vlst (List.map C_api_App l1), vstr key2] (resOf [vint r.1, vbool r.2]) := by
 refine ⟨by kernel_rfl, pure_of (us := [vint r.1, vbool r.2]) Tryz.func72 rfl rfl rfl rfl fun X hN => ?_⟩
 unfold m_portal_appAt at H
 refine awp_seq ?_
 refine awp_plain hN rfl ?_
 refine qe rfl ?_
 refine qe rfl ?_
 refine awp_seq ?_
 refine awp_plain hN rfl ?_
 refine qd rfl ?_
 refine qd rfl ?_
 obtain ⟨r3, h4, H⟩ := bnd H
 refine seq_run0 (stp_callW (k_slices_BinarySearchFunc_L_api_App_api_App_string_ l1 key2 (fun (a0 : S_api_App) (a1 : Bs) => m_portal_appAt_1 a0 a1) 100 [] (fun a0 a1 r h => k_portal_appAt_1 a0 a1 r h) r3 h4) ⟨.inl (.inl rfl), .inl (.inl rfl), .inr ⟨_, rfl, rfl⟩, trivial⟩) ?_
 refine seq_run0 (stp_ext rfl rfl) ?_
 refine seq_run0 (stp_ext rfl rfl) ?_
 refine qe rfl ?_
 refine qe rfl ?_
 refine awp_ret ?_
 cases H
 exact ⟨trivial, .inl rfl, .inl rfl, trivial⟩
theorem k_slices_BinarySearchFunc_L_api_Plan_api_Plan_string_ (x1 : (List S_api_Plan)) (target2 : Bs) (p2 : S_api_Plan → Bs → Option (Int)) (fv2 : Nat) (us2 : List V) (hp2 : ∀ a0 a1 r, p2 a0 a1 = some r → Fn Tryz.prog fv2 ([vagg (C_api_Plan a0), vstr a1] ++ us2) (resOf [vint r])) (r : (Int × Bool)) (H : m_slices_BinarySearchFunc_L_api_Plan_api_Plan_string_ x1 target2 p2 = some r) : Fn Tryz.prog 103 [vlst (List.map C_api_Plan x1), vstr target2, vfn fv2 us2] (resOf [vint r.1, vbool r.2]) := by
 refine ⟨by kernel_rfl, pure_of (us := [vint r.1, vbool r.2]) Tryz.func103 rfl rfl rfl rfl fun X hN => ?_⟩
 unfold m_slices_BinarySearchFunc_L_api_Plan_api_Plan_string_ at H
 refine awp_seq ?_
 refine awp_plain hN rfl ?_
 refine qe rfl ?_
 refine qe rfl ?_
 refine awp_seq ?_
 refine awp_plain hN rfl ?_
 refine qd rfl ?_
 refine seq_run0 (t_len tyU27 rfl) ?_
 refine qe rfl ?_
 refine awp_seq ?_
 refine awp_plain hN rfl ?_
 refine qd rfl ?_
 refine qe rfl ?_
 refine qe rfl ?_
 refine awp_joinE (ι := Int) (fun i => [(0, .dat (vlst (List.map C_api_Plan x1))), (1, .dat (vstr target2)), (2, .dat (vfn fv2 us2)), (8, .dat (vint (x1.length : Int))), (9, .dat (vint i))]) (fun i => []) (fun i => slices_BinarySearchFunc_L_api_Plan_api_Plan_string__J1 x1 target2 p2 i = some r) (fun i => rfl) ?_ ?_
 ·skip
  refine awp_block ?_
  refine awp_iter (fun (s : Int × Int) => [(0, .dat (vlst (List.map C_api_Plan x1))), (1, .dat (vstr target2)), (2, .dat (vfn fv2 us2)), (8, .dat (vint (x1.length : Int))), (9, .dat (vint s.1)), (10, .dat (vint s.2))]) (fun (s : Int × Int) => []) (0, (x1.length : Int)) H ⟨rfl, rfl, rfl, rfl, rfl, rfl, trivial⟩ trivial (fun _ => rfl) ?_
  rintro ⟨i3, j4⟩ q5 H hq5
  replace H : slices_BinarySearchFunc_L_api_Plan_api_Plan_string__L2 x1 target2 p2 i3 j4 = some q5 := H
  unfold slices_BinarySearchFunc_L_api_Plan_api_Plan_string__L2 at H
  refine awp_seq ?_
  refine awp_seq ?_
  refine awp_plain hN rfl ?_
  refine qd rfl ?_
  refine qd rfl ?_
  refine seq_run0 (stp_lss rfl rfl) ?_
  refine awp_cond _ rfl (fun h6 => ?_) (fun h6 => ?_)
  ·replace H := ift h6 H
   refine awp_skip ?_
   refine awp_block ?_
   refine awp_seq ?_
   refine awp_plain hN rfl ?_
   refine qd rfl ?_
   refine qd rfl ?_
   refine seq_run0 (stp_wrap _ rfl rfl (.inl ⟨rfl, rfl⟩)) ?_
   refine seq_run0 (stp_conv tyU3 tyU130 rfl) ?_
   refine seq_run0 (stp_dat (stp_shr rfl rfl (by decide)) rfl) ?_
   refine seq_run0 (stp_conv tyU130 tyU3 rfl) ?_
   refine qe rfl ?_
   refine awp_seq ?_
   refine awp_plain hN rfl ?_
   refine qd rfl ?_
   refine qd rfl ?_
   refine qd rfl ?_
   obtain ⟨x7, h8, H⟩ := bnd H
   refine seq_run0 (t_idxI tyE27 (fun _ => rfl) rfl rfl h8) ?_
   refine seq_run0 (stp_loadEA tyS64 rfl (map_at (at_some h8).2) rfl) ?_
   refine qd rfl ?_
   obtain ⟨r9, h10, H⟩ := bnd H
   refine seq_run0 (stp_callv (hp2 x7 target2 r9 h10) rfl ⟨.inl rfl, .inl rfl, trivial⟩) ?_
   refine seq_run0 (stp_lss rfl rfl) ?_
   refine awp_cond _ rfl (fun h11 => ?_) (fun h11 => ?_)
   ·replace H := ift h11 H
    refine awp_plain hN rfl ?_
    refine qd rfl ?_
    refine seq_run0 (stp_wrap _ rfl rfl (.inl ⟨rfl, rfl⟩)) ?_
    refine qe rfl ?_
    exact ⟨_, backl H, ⟨rfl, rfl, rfl, rfl, rfl, rfl, trivial⟩, trivial⟩
   ·replace H := iff_ h11 H
    refine awp_plain hN rfl ?_
    refine qd rfl ?_
    refine qe rfl ?_
    exact ⟨_, backl H, ⟨rfl, rfl, rfl, rfl, rfl, rfl, trivial⟩, trivial⟩
  ·replace H := iff_ h6 H
   refine awp_exit ?_
   replace H := outl H hq5
   exact ⟨i3, H, ⟨rfl, rfl, rfl, rfl, rfl, trivial⟩, trivial⟩
 ·rintro i12 H
  replace H : slices_BinarySearchFunc_L_api_Plan_api_Plan_string__J1 x1 target2 p2 i12 = some r := H
  unfold slices_BinarySearchFunc_L_api_Plan_api_Plan_string__J1 at H
  refine awp_joinE (ι := Bool) (fun i => [(6, .dat (vint i12)), (7, .dat (vbool i))]) (fun i => []) (fun i => slices_BinarySearchFunc_L_api_Plan_api_Plan_string__J3 i12 i = some r) (fun i => rfl) ?_ ?_
  ·skip
   refine awp_plain hN rfl ?_
   refine qd rfl ?_
   refine qd rfl ?_
   refine qd rfl ?_
   refine seq_run0 (stp_lss rfl rfl) ?_
   refine qd rfl ?_
   refine seq_split (j := 4) rfl rfl (fun h13 => ?_) (fun h13 => ?_) rfl
   ·have h14 := un1 h13
    replace H := ift h14 H
    refine seq_g0 rfl rfl h13 (stp_move (.dat _) rfl) ?_
    refine seq_g0 rfl rfl h13 (stp_move (.dat _) rfl) ?_
    refine seq_g0 rfl rfl h13 (stp_move (.dat _) rfl) ?_
    obtain ⟨x15, h16, H⟩ := bnd H
    refine seq_g0 rfl rfl h13 (t_idxI tyE27 (fun _ => rfl) rfl rfl h16) ?_
    refine seq_g0 rfl rfl h13 (stp_loadEA tyS64 rfl (map_at (at_some h16).2) rfl) ?_
    refine seq_g0 rfl rfl h13 (stp_move (.dat _) rfl) ?_
    obtain ⟨r17, h18, H⟩ := bnd H
    refine seq_g0 rfl rfl h13 (stp_callv (hp2 x15 target2 r17 h18) rfl ⟨.inl rfl, .inl rfl, trivial⟩) ?_
    refine seq_g0 rfl rfl h13 (stp_eql rfl rfl) ?_
    refine seq_run0 (stp_pick_t rfl (bTT h14) rfl) ?_
    refine qe rfl ?_
    refine qe rfl ?_
    exact ⟨decide (r17 = 0), H, ⟨rfl, rfl, trivial⟩, trivial⟩
   ·have h19 := un2 h13
    replace H := iff_ h19 H
    refine seq_skip rfl rfl h13 ?_
    refine seq_skip rfl rfl h13 ?_
    refine seq_skip rfl rfl h13 ?_
    refine seq_skip rfl rfl h13 ?_
    refine seq_skip rfl rfl h13 ?_
    refine seq_skip rfl rfl h13 ?_
    refine seq_skip rfl rfl h13 ?_
    refine seq_skip rfl rfl h13 ?_
    refine seq_run0 (stp_pick_f rfl (bFF h19) rfl) ?_
    refine qe rfl ?_
    refine qe rfl ?_
    exact ⟨false, H, ⟨rfl, rfl, trivial⟩, trivial⟩
  ·rintro v20 H
   replace H : slices_BinarySearchFunc_L_api_Plan_api_Plan_string__J3 i12 v20 = some r := H
   unfold slices_BinarySearchFunc_L_api_Plan_api_Plan_string__J3 at H
   refine awp_ret ?_
   cases H
   exact ⟨trivial, .inl rfl, .inl rfl, trivial⟩
theorem k_portal_planOf_1 (p1 : S_api_Plan) (k2 : Bs) (r : (Int)) (H : m_portal_planOf_1 p1 k2 = some r) : Fn Tryz.prog 104 [vagg (C_api_Plan p1), vstr k2] (resOf [vint r]) := by
 refine ⟨by kernel_rfl, pure_of (us := [vint r]) Tryz.func104 rfl rfl rfl rfl fun X hN => ?_⟩
 unfold m_portal_planOf_1 at H
 refine awp_seq ?_
 refine awp_plain hN rfl ?_
 refine seq_run2 (stp_boxA 1 rfl) rfl ?_
 refine qe rfl ?_
 refine awp_seq ?_
 refine awp_plain hN rfl ?_
 refine seq_run0 (stp_fldP tyF64_0 rfl) ?_
 refine seq_run1 (stp_load1 tyS9 rfl rfl) rfl ?_
 refine qd rfl ?_
 obtain ⟨r3, h4, H⟩ := bnd H
 refine seq_run0 (stp_call (k_strings_Compare p1.Key k2 r3 h4) ⟨.inl rfl, .inl rfl, trivial⟩) ?_
 refine qe rfl ?_
 refine awp_ret ?_
 cases H
 exact ⟨trivial, .inl rfl, trivial⟩
theorem k_portal_planOf (c1 : S_api_Catalog) (key2 : Bs) (r : (S_api_Plan × Bool)) (H : m_portal_planOf c1 key2 = some r) : Fn Tryz.prog 75 [vagg (C_api_Catalog c1), vstr key2] (resOf [vagg (C_api_Plan r.1), vbool r.2]) := by
 refine ⟨by kernel_rfl, pure_of (us := [vagg (C_api_Plan r.1), vbool r.2]) Tryz.func75 rfl rfl rfl rfl fun X hN => ?_⟩
 unfold m_portal_planOf at H
 refine awp_seq ?_
 refine awp_plain hN rfl ?_
 refine seq_run2 (stp_boxA 1 rfl) rfl ?_
 refine seq_run2 (stp_alloc 2 tyZ64 rfl) rfl ?_
 refine qe rfl ?_
 refine awp_seq ?_
 refine awp_plain hN rfl ?_
 refine seq_run0 (stp_fldP tyF29_1 rfl) ?_
 refine seq_run1 (stp_load1 tyS27 rfl rfl) rfl ?_
 refine qd rfl ?_
 obtain ⟨r3, h4, H⟩ := bnd H
 refine seq_run0 (stp_callW (k_slices_BinarySearchFunc_L_api_Plan_api_Plan_string_ c1.Plans key2 (fun (a0 : S_api_Plan) (a1 : Bs) => m_portal_planOf_1 a0 a1) 104 [] (fun a0 a1 r h => k_portal_planOf_1 a0 a1 r h) r3 h4) ⟨.inl (.inl rfl), .inl (.inl rfl), .inr ⟨_, rfl, rfl⟩, trivial⟩) ?_
 refine qd rfl ?_
 refine seq_run0 (stp_ext rfl rfl) ?_
 refine seq_run0 (stp_ext rfl rfl) ?_
 refine qe rfl ?_
 refine qe rfl ?_
 refine awp_seq ?_
 refine awp_seq ?_
 refine awp_plain hN rfl ?_
 refine qd rfl ?_
 refine seq_run0 (stp_not rfl) ?_
 refine awp_cond _ rfl (fun h5 => ?_) (fun h5 => ?_)
 ·replace H := ift h5 H
  refine awp_seq ?_
  refine awp_plain hN rfl ?_
  refine seq_run0 (stp_wk (u' := vagg (C_api_Plan (S_api_Plan.mk [] [] 0 0 [] 0 0 false))) (wk_agg (by exact ⟨wk_rfl, wk_rfl, wk_rfl, wk_rfl, wk_nil, wk_rfl, wk_rfl, wk_rfl, trivial⟩)) (stp_build [] tyZ64 tyP64 rfl trivial)) ?_
  refine seq_run2 (stp_storeW tyS64 rfl rfl rfl rfl) rfl ?_
  refine qe rfl ?_
  refine awp_ret ?_
  cases H
  exact ⟨trivial, .inl ⟨_, _, _, C_api_Plan (S_api_Plan.mk [] [] 0 0 [] 0 0 false), rfl, rfl, rfl, rfl, tyS64⟩, .inl rfl, trivial⟩
 ·replace H := iff_ h5 H
  refine awp_skip ?_
  refine awp_seq ?_
  refine awp_plain hN rfl ?_
  refine seq_run0 (stp_fldP tyF29_1 rfl) ?_
  refine seq_run1 (stp_load1 tyS27 rfl rfl) rfl ?_
  refine qd rfl ?_
  obtain ⟨x6, h7, H⟩ := bnd H
  refine seq_run0 (t_idxI tyE27 (fun _ => rfl) rfl rfl h7) ?_
  refine seq_run0 (stp_loadEA tyS64 rfl (map_at (at_some h7).2) rfl) ?_
  refine seq_run2 (stp_storeW tyS64 rfl rfl rfl rfl) rfl ?_
  refine qe rfl ?_
  refine awp_ret ?_
  cases H
  exact ⟨trivial, .inl ⟨_, _, _, C_api_Plan x6, rfl, rfl, rfl, rfl, tyS64⟩, .inl rfl, trivial⟩
theorem k_portal_eventFault (v1 : S_api_Catalog) (v2 : (List S_api_App)) (v3 : (List S_api_Event)) (v4 : Int) (r : (Int)) (H : m_portal_eventFault v1 v2 v3 v4 = some r) : Fn Tryz.prog 43 [vagg (C_api_Catalog v1), vlst (List.map C_api_App v2), vlst (List.map C_api_Event v3), vint v4] (resOf [vint r]) := by
 refine ⟨by kernel_rfl, pure_of (us := [vint r]) Tryz.func43 rfl rfl rfl rfl fun X hN => ?_⟩
 unfold m_portal_eventFault at H
 refine awp_seq ?_
 refine awp_plain hN rfl ?_
 refine seq_run2 (stp_boxA 1 rfl) rfl ?_
 refine qe rfl ?_
 refine awp_seq ?_
 refine awp_plain hN rfl ?_
 refine qd rfl ?_
 refine qd rfl ?_
 obtain ⟨x5, h6, H⟩ := bnd H
 refine seq_run0 (t_idxI tyE31 (fun _ => rfl) rfl rfl h6) ?_
 refine seq_run0 (stp_loadEA tyS40 rfl (map_at (at_some h6).2) rfl) ?_
 refine seq_run2 (stp_alloc 2 tyZ40 rfl) rfl ?_
 refine seq_run2 (stp_storeW tyS40 rfl rfl rfl rfl) rfl ?_
 refine awp_seq ?_
 refine awp_seq ?_
 refine awp_plain hN rfl ?_
 refine seq_run0 (stp_fldP tyF40_0 rfl) ?_
 refine seq_run1 (stp_load1 tyS3 rfl rfl) rfl ?_
 obtain ⟨r7, h8, H⟩ := bnd H
 refine seq_run0 (stp_call (k_kit_IsMoment x5.At r7 h8) ⟨.inl rfl, trivial⟩) ?_
 refine seq_run0 (stp_not rfl) ?_
 refine awp_cond _ rfl (fun h9 => ?_) (fun h9 => ?_)
 ·replace H := ift h9 H
  refine awp_seq ?_
  refine awp_plain hN rfl ?_
  refine qe rfl ?_
  refine awp_ret ?_
  cases H
  exact ⟨trivial, .inl rfl, trivial⟩
 ·replace H := iff_ h9 H
  refine awp_skip ?_
  refine awp_seq ?_
  refine awp_seq ?_
  refine awp_plain hN rfl ?_
  refine qd rfl ?_
  refine seq_run0 (stp_fldP tyF40_1 rfl) ?_
  refine seq_run1 (stp_load1 tyS9 rfl rfl) rfl ?_
  obtain ⟨r10, h11, H⟩ := bnd H
  refine seq_run0 (stp_call (k_portal_appAt v2 x5.App r10 h11) ⟨.inl rfl, .inl rfl, trivial⟩) ?_
  refine qd rfl ?_
  refine seq_run0 (stp_ext rfl rfl) ?_
  refine seq_run0 (stp_ext rfl rfl) ?_
  refine qe rfl ?_
  refine qe rfl ?_
  refine awp_seq ?_
  refine awp_plain hN rfl ?_
  refine qd rfl ?_
  refine seq_run0 (stp_not rfl) ?_
  refine awp_cond _ rfl (fun h12 => ?_) (fun h12 => ?_)
  ·replace H := ift h12 H
   refine awp_seq ?_
   refine awp_plain hN rfl ?_
   refine qe rfl ?_
   refine awp_ret ?_
   cases H
   exact ⟨trivial, .inl rfl, trivial⟩
  ·replace H := iff_ h12 H
   refine awp_skip ?_
   refine awp_seq ?_
   refine awp_seq ?_
   refine awp_plain hN rfl ?_
   refine seq_run1 (stp_loadA tyS29 rfl rfl rfl) rfl ?_
   refine seq_run0 (stp_fldP tyF40_2 rfl) ?_
   refine seq_run1 (stp_load1 tyS9 rfl rfl) rfl ?_
   obtain ⟨r13, h14, H⟩ := bnd H
   refine seq_run0 (stp_call (k_portal_productAt v1 x5.Product r13 h14) ⟨.inl rfl, .inl rfl, trivial⟩) ?_
   refine qd rfl ?_
   refine seq_run0 (stp_ext rfl rfl) ?_
   refine seq_run0 (stp_ext rfl rfl) ?_
   refine qe rfl ?_
   refine qe rfl ?_
   refine awp_seq ?_
   refine awp_plain hN rfl ?_
   refine qd rfl ?_
   refine seq_run0 (stp_not rfl) ?_
   refine awp_cond _ rfl (fun h15 => ?_) (fun h15 => ?_)
   ·replace H := ift h15 H
    refine awp_seq ?_
    refine awp_plain hN rfl ?_
    refine qe rfl ?_
    refine awp_ret ?_
    cases H
    exact ⟨trivial, .inl rfl, trivial⟩
   ·replace H := iff_ h15 H
    refine awp_skip ?_
    refine awp_seq ?_
    refine awp_seq ?_
    refine awp_plain hN rfl ?_
    refine seq_run0 (stp_fldP tyF40_3 rfl) ?_
    refine seq_run1 (stp_load1 tyS3 rfl rfl) rfl ?_
    obtain ⟨r16, h17, H⟩ := bnd H
    refine seq_run0 (stp_call (k_kit_Outside x5.Kind 1 6 r16 h17) ⟨.inl rfl, .inl rfl, .inl rfl, trivial⟩) ?_
    refine awp_cond _ rfl (fun h18 => ?_) (fun h18 => ?_)
    ·replace H := ift h18 H
     refine awp_seq ?_
     refine awp_plain hN rfl ?_
     refine qe rfl ?_
     refine awp_ret ?_
     cases H
     exact ⟨trivial, .inl rfl, trivial⟩
    ·replace H := iff_ h18 H
     refine awp_skip ?_
     refine awp_seq ?_
     refine awp_seq ?_
     refine awp_plain hN rfl ?_
     refine seq_run0 (stp_fldP tyF40_4 rfl) ?_
     refine seq_run1 (stp_load1 tyS9 rfl rfl) rfl ?_
     refine seq_run0 (stp_sneq rfl rfl) ?_
     refine qd rfl ?_
     refine seq_aT rfl rfl (fun hc => stp_fldP tyF40_3 rfl) ?_
     refine seq_arT rfl rfl (fun hc => stp_load1 tyS3 (cnd (c := (decide (x5.Plan ≠ []))) hc) rfl) rfl anti_p ?_
     refine seq_aT rfl rfl (fun hc => stp_neq (cnd (c := (decide (x5.Plan ≠ []))) hc) rfl) ?_
     refine seq_run0 (stp_pick_and rfl (fun hb => (cnd (c := (decide (x5.Plan ≠ []))) hb)) rfl) ?_
     refine awp_cond _ rfl (fun h19 => ?_) (fun h19 => ?_)
     ·replace H := ift h19 H
      refine awp_seq ?_
      refine awp_plain hN rfl ?_
      refine qe rfl ?_
      refine awp_ret ?_
      cases H
      exact ⟨trivial, .inl rfl, trivial⟩
     ·replace H := iff_ h19 H
      refine awp_skip ?_
      refine awp_joinE (ι := Unit) (fun i => [(2, .dat (vlst (List.map C_api_Event v3))), (3, .dat (vint v4)), (9, .ptr 2 0)]) (fun i => [(2, .box none 40 [.dat (vint x5.At), .dat (vstr x5.App), .dat (vstr x5.Product), .dat (vint x5.Kind), .dat (vstr x5.Plan)])]) (fun i => portal_eventFault_J1 v3 v4 x5 = some r) (fun i => rfl) ?_ ?_
      ·skip
       refine awp_seq ?_
       refine awp_plain hN rfl ?_
       refine seq_run0 (stp_fldP tyF40_3 rfl) ?_
       refine seq_run1 (stp_load1 tyS3 rfl rfl) rfl ?_
       refine seq_run0 (stp_eql rfl rfl) ?_
       refine awp_cond _ rfl (fun h20 => ?_) (fun h20 => ?_)
       ·replace H := ift h20 H
        refine awp_seq ?_
        refine awp_plain hN rfl ?_
        refine seq_run1 (stp_loadA tyS29 rfl rfl rfl) rfl ?_
        refine seq_run0 (stp_fldP tyF40_4 rfl) ?_
        refine seq_run1 (stp_load1 tyS9 rfl rfl) rfl ?_
        obtain ⟨r21, h22, H⟩ := bnd H
        refine seq_run0 (stp_call (k_portal_planOf v1 x5.Plan r21 h22) ⟨.inl rfl, .inl rfl, trivial⟩) ?_
        refine qd rfl ?_
        refine seq_run0 (stp_ext rfl rfl) ?_
        refine seq_run0 (stp_ext rfl rfl) ?_
        refine seq_run2 (stp_alloc 3 tyZ64 rfl) rfl ?_
        refine seq_run2 (stp_storeW tyS64 rfl rfl rfl rfl) rfl ?_
        refine qe rfl ?_
        refine awp_seq ?_
        refine awp_seq ?_
        refine awp_plain hN rfl ?_
        refine qd rfl ?_
        refine seq_run0 (stp_not rfl) ?_
        refine awp_cond _ rfl (fun h23 => ?_) (fun h23 => ?_)
        ·replace H := ift h23 H
         refine awp_seq ?_
         refine awp_plain hN rfl ?_
         refine qe rfl ?_
         refine awp_ret ?_
         cases H
         exact ⟨trivial, .inl rfl, trivial⟩
        ·replace H := iff_ h23 H
         refine awp_skip ?_
         refine awp_seq ?_
         refine awp_plain hN rfl ?_
         refine seq_run0 (stp_fldP tyF64_1 rfl) ?_
         refine seq_run1 (stp_load1 tyS9 rfl rfl) rfl ?_
         refine seq_run0 (stp_fldP tyF40_2 rfl) ?_
         refine seq_run1 (stp_load1 tyS9 rfl rfl) rfl ?_
         refine seq_run0 (stp_sneq rfl rfl) ?_
         refine awp_cond _ rfl (fun h24 => ?_) (fun h24 => ?_)
         ·replace H := ift h24 H
          refine awp_seq ?_
          refine awp_plain hN rfl ?_
          refine qe rfl ?_
          refine awp_ret ?_
          cases H
          exact ⟨trivial, .inl rfl, trivial⟩
         ·replace H := iff_ h24 H
          refine awp_skip ?_
          exact ⟨(), H, ⟨rfl, rfl, rfl, trivial⟩, ⟨rfl, trivial⟩⟩
       ·replace H := iff_ h20 H
        refine awp_skip ?_
        exact ⟨(), H, ⟨rfl, rfl, rfl, trivial⟩, ⟨rfl, trivial⟩⟩
      ·rintro ⟨⟩ H
       replace H : portal_eventFault_J1 v3 v4 x5 = some r := H
       unfold portal_eventFault_J1 at H
       refine awp_seq ?_
       refine awp_joinE (ι := Bool) (fun i => [(81, .dat (vbool i))]) (fun i => []) (fun i => portal_eventFault_J2 i = some r) (fun i => rfl) ?_ ?_
       ·skip
        refine awp_draw mixed hN rfl rfl ?_
        refine qd rfl ?_
        refine seq_run0 (stp_gtr rfl rfl) ?_
        refine qd rfl ?_
        refine seq_split (j := 2) rfl rfl (fun h25 => ?_) (fun h25 => ?_) rfl
        ·have h26 := un1 h25
         replace H := ift h26 H
         refine seq_g0 rfl rfl h25 (stp_move (.dat _) rfl) ?_
         refine seq_g0 rfl rfl h25 (stp_move (.dat _) rfl) ?_
         refine seq_g0 rfl rfl h25 (stp_wrap _ rfl rfl (.inr (.inl ⟨rfl, rfl⟩))) ?_
         obtain ⟨x27, h28, H⟩ := bnd H
         refine seq_g0 rfl rfl h25 (t_idxI tyE31 (fun _ => rfl) rfl rfl h28) ?_
         refine seq_g0 rfl rfl h25 (stp_loadEA tyS40 rfl (map_at (at_some h28).2) rfl) ?_
         refine seq_g1 rfl rfl h25 (stp_loadA tyS40 rfl rfl rfl) rfl ?_
         obtain ⟨r29, h30, H⟩ := bnd H
         refine seq_g0 rfl rfl h25 (stp_call (k_portal_compareEvents x27 x5 r29 h30) ⟨.inl rfl, .inl rfl, trivial⟩) ?_
         refine seq_g0 rfl rfl h25 (stp_geq rfl rfl) ?_
         refine seq_run0 (stp_pick_t rfl (bTT h26) rfl) ?_
         refine ⟨rfl, ?_⟩
         exact ⟨decide (0 ≤ r29), H, ⟨rfl, trivial⟩, trivial⟩
        ·have h31 := un2 h25
         replace H := iff_ h31 H
         refine seq_skip rfl rfl h25 ?_
         refine seq_skip rfl rfl h25 ?_
         refine seq_skip rfl rfl h25 ?_
         refine seq_skip rfl rfl h25 ?_
         refine seq_skip rfl rfl h25 ?_
         refine seq_skip rfl rfl h25 ?_
         refine seq_skip rfl rfl h25 ?_
         refine seq_skip rfl rfl h25 ?_
         refine seq_run0 (stp_pick_f rfl (bFF h31) rfl) ?_
         refine ⟨rfl, ?_⟩
         exact ⟨false, H, ⟨rfl, trivial⟩, trivial⟩
       ·rintro v32 H
        replace H : portal_eventFault_J2 v32 = some r := H
        unfold portal_eventFault_J2 at H
        refine awp_cond _ rfl (fun h33 => ?_) (fun h33 => ?_)
        ·replace H := ift h33 H
         refine awp_seq ?_
         refine awp_plain hN rfl ?_
         refine qe rfl ?_
         refine awp_ret ?_
         cases H
         exact ⟨trivial, .inl rfl, trivial⟩
        ·replace H := iff_ h33 H
         refine awp_skip ?_
         refine awp_seq ?_
         refine awp_plain hN rfl ?_
         refine qe rfl ?_
         refine awp_ret ?_
         cases H
         exact ⟨trivial, .inl rfl, trivial⟩
theorem k_portal_CheckEvents (c1 : S_api_Catalog) (apps2 : (List S_api_App)) (l3 : (List S_api_Event)) (r : (Int)) (H : m_portal_CheckEvents c1 apps2 l3 = some r) : Fn Tryz.prog 14 [vagg (C_api_Catalog c1), vlst (List.map C_api_App apps2), vlst (List.map C_api_Event l3)] (resOf [vint r]) := by
 refine ⟨by kernel_rfl, pure_of (us := [vint r]) Tryz.func14 rfl rfl rfl rfl fun X hN => ?_⟩
 unfold m_portal_CheckEvents at H
 refine awp_seq ?_
 refine awp_plain hN rfl ?_
 refine seq_run2 (stp_boxA 1 rfl) rfl ?_
 refine qe rfl ?_
 refine awp_seq ?_
 refine awp_seq ?_
 refine awp_plain hN rfl ?_
 refine seq_run1 (stp_loadA tyS29 rfl rfl rfl) rfl ?_
 obtain ⟨r4, h5, H⟩ := bnd H
 refine seq_run0 (stp_call (k_portal_CheckCatalog c1 r4 h5) ⟨.inl rfl, trivial⟩) ?_
 refine qe rfl ?_
 refine awp_seq ?_
 refine awp_plain hN rfl ?_
 refine qd rfl ?_
 refine seq_run0 (stp_neq rfl rfl) ?_
 refine awp_cond _ rfl (fun h6 => ?_) (fun h6 => ?_)
 ·replace H := ift h6 H
  refine awp_seq ?_
  refine awp_plain hN rfl ?_
  refine qd rfl ?_
  refine qe rfl ?_
  refine awp_ret ?_
  cases H
  exact ⟨trivial, .inl rfl, trivial⟩
 ·replace H := iff_ h6 H
  refine awp_skip ?_
  refine awp_seq ?_
  refine awp_seq ?_
  refine awp_plain hN rfl ?_
  refine qd rfl ?_
  obtain ⟨r7, h8, H⟩ := bnd H
  refine seq_run0 (stp_call (k_portal_CheckApps apps2 r7 h8) ⟨.inl rfl, trivial⟩) ?_
  refine qe rfl ?_
  refine awp_seq ?_
  refine awp_plain hN rfl ?_
  refine qd rfl ?_
  refine seq_run0 (stp_neq rfl rfl) ?_
  refine awp_cond _ rfl (fun h9 => ?_) (fun h9 => ?_)
  ·replace H := ift h9 H
   refine awp_seq ?_
   refine awp_plain hN rfl ?_
   refine qd rfl ?_
   refine qe rfl ?_
   refine awp_ret ?_
   cases H
   exact ⟨trivial, .inl rfl, trivial⟩
  ·replace H := iff_ h9 H
   refine awp_skip ?_
   refine awp_seq ?_
   refine awp_seq ?_
   refine awp_plain hN rfl ?_
   refine qd rfl ?_
   refine seq_run0 (t_len tyU31 rfl) ?_
   refine seq_run0 (stp_gtr rfl rfl) ?_
   refine awp_cond _ rfl (fun h10 => ?_) (fun h10 => ?_)
   ·replace H := ift h10 H
    refine awp_seq ?_
    refine awp_plain hN rfl ?_
    refine qe rfl ?_
    refine awp_ret ?_
    cases H
    exact ⟨trivial, .inl rfl, trivial⟩
   ·replace H := iff_ h10 H
    refine awp_skip ?_
    refine awp_seq ?_
    refine awp_seq ?_
    refine awp_plain hN rfl ?_
    refine qd rfl ?_
    refine seq_run0 (t_len tyU31 rfl) ?_
    refine qd rfl ?_
    refine awp_block ?_
    obtain ⟨h13, H⟩ := gif H
    refine awp_forL (fun (k11 : Nat) (s : Unit) => [(1, .dat (vlst (List.map C_api_App apps2))), (2, .dat (vlst (List.map C_api_Event l3))), (3, .ptr 1 0), (25, .dat (vint (l3.length : Int))), (26, .dat (vint (k11 : Int)))]) (fun (k11 : Nat) (s : Unit) => [(1, .box none 29 [.dat (vlst (List.map C_api_Product c1.Products)), .dat (vlst (List.map C_api_Plan c1.Plans))])]) () H ⟨rfl, rfl, rfl, rfl, rfl, trivial⟩ ⟨rfl, trivial⟩ (fun _ _ => rfl) ?_ ?_
    ·rintro ⟨⟩ H
     replace H : portal_CheckEvents_E1 = some r := H
     unfold portal_CheckEvents_E1 at H
     refine awp_seq ?_
     refine awp_plain hN rfl ?_
     refine seq_run0 (stp_lss rfl rfl) ?_
     refine awp_seq ?_
     refine awp_cond _ rfl (fun h => (lt_t h).elim) (fun h => ?_)
     refine awp_exit ?_
     refine awp_seq ?_
     refine awp_plain hN rfl ?_
     refine qe rfl ?_
     refine awp_ret ?_
     cases H
     exact ⟨trivial, .inl rfl, trivial⟩
    ·rintro k11 x14 ⟨⟩ q12 h15 h16 H hq12
     replace H : portal_CheckEvents_L1 c1 apps2 l3 k11 x14 = some q12 := H
     unfold portal_CheckEvents_L1 at H
     refine awp_seq ?_
     refine awp_plain hN rfl ?_
     refine seq_run0 (stp_lss rfl rfl) ?_
     refine awp_seq ?_
     refine awp_cond _ rfl (fun h => ?_) (fun h => (lt_f h15 h).elim)
     refine awp_skip ?_
     refine awp_seq ?_
     refine awp_block ?_
     refine awp_seq ?_
     refine awp_plain hN rfl ?_
     refine qd rfl ?_
     refine qe rfl ?_
     refine awp_seq ?_
     refine awp_plain hN rfl ?_
     refine seq_run1 (stp_loadA tyS29 rfl rfl rfl) rfl ?_
     refine qd rfl ?_
     refine qd rfl ?_
     refine qd rfl ?_
     obtain ⟨r17, h18, H⟩ := bnd H
     refine seq_run0 (stp_call (k_portal_eventFault c1 apps2 l3 (k11 : Int) r17 h18) ⟨.inl rfl, .inl rfl, .inl rfl, .inl rfl, trivial⟩) ?_
     refine qe rfl ?_
     refine awp_seq ?_
     refine awp_plain hN rfl ?_
     refine qd rfl ?_
     refine seq_run0 (stp_neq rfl rfl) ?_
     refine awp_cond _ rfl (fun h19 => ?_) (fun h19 => ?_)
     ·replace H := ift h19 H
      refine awp_seq ?_
      refine awp_plain hN rfl ?_
      refine qd rfl ?_
      refine qe rfl ?_
      refine awp_ret ?_
      replace H := retl H hq12
      cases H
      exact ⟨trivial, .inl rfl, trivial⟩
     ·replace H := iff_ h19 H
      refine awp_skip ?_
      refine awp_plain hN rfl ?_
      refine seq_run0 (stp_add rfl rfl (by omega)) ?_
      refine qd rfl ?_
      exact ⟨_, backl H, ⟨rfl, rfl, rfl, rfl, rfl, trivial⟩, ⟨rfl, trivial⟩⟩
theorem k_portal_Merge (c1 : S_api_Catalog) (apps2 : (List S_api_App)) (a3 : (List S_api_Event)) (b4 : (List S_api_Event)) (r : ((List S_api_Event) × Int)) (H : m_portal_Merge c1 apps2 a3 b4 = some r) : Fn Tryz.prog 10 [vagg (C_api_Catalog c1), vlst (List.map C_api_App apps2), vlst (List.map C_api_Event a3), vlst (List.map C_api_Event b4)] (resOf [vlst (List.map C_api_Event r.1), vint r.2]) := by
 refine ⟨by kernel_rfl, pure_of (us := [vlst (List.map C_api_Event r.1), vint r.2]) Tryz.func10 rfl rfl rfl rfl fun X hN => ?_⟩
 unfold m_portal_Merge at H
 refine awp_seq ?_
 refine awp_plain hN rfl ?_
 refine seq_run2 (stp_boxA 1 rfl) rfl ?_
 refine qe rfl ?_
 refine qe rfl ?_
 refine awp_seq ?_
 refine awp_seq ?_
 refine awp_plain hN rfl ?_
 refine qd rfl ?_
 refine qd rfl ?_
 refine seq_run0 (stp_dat (u' := vagg [vlst (List.map C_api_Event a3), vlst (List.map C_api_Event b4)]) (stp_buildS [(0, [vlst (List.map C_api_Event a3)]), (1, [vlst (List.map C_api_Event b4)])] tyZ76 (show Tryz.prog.underlying 76 = some (.array 2 31) from by kernel_rfl) (show tyS Tryz.prog 31 = some (false, 1) from by kernel_rfl) rfl ⟨rfl, .inl ⟨_, rfl, rfl, rfl⟩, rfl, rfl, .inl ⟨_, rfl, rfl, rfl⟩, rfl, trivial⟩) rfl) ?_
 refine qd rfl ?_
 refine awp_block ?_
 obtain ⟨h7, H⟩ := gif H
 refine awp_rng (fun (k5 : Nat) (s : Unit) => [(1, .dat (vlst (List.map C_api_App apps2))), (2, .dat (vlst (List.map C_api_Event a3))), (3, .dat (vlst (List.map C_api_Event b4))), (4, .ptr 1 0), (17, .dat (vagg [vlst (List.map C_api_Event a3), vlst (List.map C_api_Event b4)])), (18, .dat (vint (k5 : Int)))]) (fun (k5 : Nat) (s : Unit) => [(1, .box none 29 [.dat (vlst (List.map C_api_Product c1.Products)), .dat (vlst (List.map C_api_Plan c1.Plans))])]) () H ⟨rfl, rfl, rfl, rfl, rfl, rfl, trivial⟩ ⟨rfl, trivial⟩ (fun _ _ => rfl) ?_ ?_
 ·rintro ⟨⟩ H
  replace H : portal_Merge_E1 a3 b4 = some r := H
  unfold portal_Merge_E1 at H
  refine awp_seq ?_
  refine awp_plain hN rfl ?_
  refine seq_run0 (stp_lss rfl rfl) ?_
  refine awp_seq ?_
  refine awp_cond _ rfl (fun h => (lt_t h).elim) (fun h => ?_)
  refine awp_exit ?_
  refine awp_seq ?_
  refine awp_plain hN rfl ?_
  refine qd rfl ?_
  refine qd rfl ?_
  refine seq_run0 (stp_dat (u' := vlst (List.map C_L_api_Event [a3, b4])) (stp_lit [[_], [_]] tyL104 ⟨rfl, .inl ⟨_, rfl, rfl, rfl⟩, rfl, rfl, .inl ⟨_, rfl, rfl, rfl⟩, rfl, trivial⟩ rfl rfl) rfl) ?_
  obtain ⟨r8, h9, H⟩ := bnd H
  refine seq_callG (rn [(1, 2)]) [] [(1, _)] (kr_slices_Concat_L_api_Event_api_Event_ [a3, b4] r8 h9) ⟨rfl, trivial⟩ ⟨.inl (.inl rfl), trivial⟩ trivial rfl ?_
  refine seq_run0 (stp_assign (.row _ _) rfl) ?_
  refine awp_seq ?_
  refine awp_plain hN rfl ?_
  refine seq_run0 (stp_move (.row _ _) rfl) ?_
  obtain ⟨r10, h11, H⟩ := bnd H
  obtain ⟨h12, H⟩ := gif H
  refine seq_callG (rn [(0, 2)]) [(0, _, _, some _)] [] (kt_slices_SortStableFunc_L_api_Event_api_Event_ r8 (fun (a0 : S_api_Event) (a1 : S_api_Event) => m_portal_compareEvents a0 a1) 37 [] (fun a0 a1 r h => k_portal_compareEvents a0 a1 r h) r10 h11) ⟨rfl, trivial⟩ ⟨.inl (.inl rfl), .inr ⟨_, rfl, rfl⟩, trivial⟩ ⟨⟨⟨rfl, rfl, rfl⟩, by simp [stayP, h12]⟩, trivial⟩ rfl ?_
  refine awp_seq ?_
  refine awp_plain hN rfl ?_
  refine seq_run0 (stp_move (.row _ _) rfl) ?_
  obtain ⟨r13, h14, H⟩ := bnd H
  refine seq_callG (rn [(0, 2), (900, 3)]) [(0, _, _, none)] [(900, _)] (ks_slices_Compact_L_api_Event_api_Event_ r10 r13 h14) ⟨rfl, rfl, trivial⟩ ⟨.inl (.inl (congrArg (Slot.row 2) (h12).symm)), trivial⟩ ⟨⟨⟨rfl, rfl, rfl⟩, trivial⟩, trivial⟩ rfl ?_
  refine seq_run0 (stp_assign (.row _ _) rfl) ?_
  refine awp_joinE (ι := Unit) (fun i => [(13, .row 3 r13.length)]) (fun i => [(3, .row 40 5 (List.map C_api_Event r13))]) (fun i => portal_Merge_J2 r13 = some r) (fun i => rfl) ?_ ?_
  ·skip
   refine awp_seq ?_
   refine awp_plain hN rfl ?_
   refine qe rfl ?_
   refine awp_block ?_
   refine awp_iter (fun (s : Int) => [(13, .row 3 r13.length), (14, .dat (vint s))]) (fun (s : Int) => [(3, .row 40 5 (List.map C_api_Event r13))]) 1 H ⟨rfl, rfl, trivial⟩ ⟨rfl, trivial⟩ (fun _ => rfl) ?_
   rintro i15 q16 H hq16
   replace H : portal_Merge_L3 r13 i15 = some q16 := H
   unfold portal_Merge_L3 at H
   refine awp_seq ?_
   refine awp_seq ?_
   refine awp_plain hN rfl ?_
   refine qd rfl ?_
   refine seq_run0 (stp_move (.row _ _) rfl) ?_
   refine seq_run1 (t_lenR tyU31 rfl rfl) rfl ?_
   refine seq_run0 (stp_lss rfl rfl) ?_
   refine awp_cond _ rfl (fun h17 => ?_) (fun h17 => ?_)
   ·replace H := ift h17 H
    refine awp_skip ?_
    refine awp_seq ?_
    refine awp_block ?_
    refine awp_seq ?_
    refine awp_draw mixed hN rfl rfl ?_
    refine seq_run0 (stp_move (.row _ _) rfl) ?_
    refine qd rfl ?_
    refine seq_run0 (stp_wrap _ rfl rfl (.inr (.inl ⟨rfl, rfl⟩))) ?_
    obtain ⟨x18, h19, H⟩ := bnd H
    refine seq_run1 (t_idxRI tyE31 rfl rfl rfl h19) rfl ?_
    refine seq_run1 (t_loadRA tyS40 rfl rfl (at_some h19).2 rfl) rfl ?_
    refine seq_run0 (stp_move (.row _ _) rfl) ?_
    refine qd rfl ?_
    obtain ⟨x20, h21, H⟩ := bnd H
    refine seq_run1 (t_idxRI tyE31 rfl rfl rfl h21) rfl ?_
    refine seq_run1 (t_loadRA tyS40 rfl rfl (at_some h21).2 rfl) rfl ?_
    obtain ⟨r22, h23, H⟩ := bnd H
    refine seq_run0 (stp_call (k_portal_compareEvents x18 x20 r22 h23) ⟨.inl rfl, .inl rfl, trivial⟩) ?_
    refine seq_run0 (stp_eql rfl rfl) ?_
    refine ⟨rfl, ?_⟩
    refine awp_cond _ rfl (fun h24 => ?_) (fun h24 => ?_)
    ·replace H := ift h24 H
     refine awp_seq ?_
     refine awp_plain hN rfl ?_
     refine qe rfl ?_
     refine qe rfl ?_
     refine awp_ret ?_
     replace H := retl H hq16
     cases H
     exact ⟨trivial, .inr ⟨rfl, rfl⟩, .inl rfl, trivial⟩
    ·replace H := iff_ h24 H
     refine awp_skip ?_
     refine awp_plain hN rfl ?_
     refine qd rfl ?_
     refine seq_run0 (stp_wrap _ rfl rfl (.inl ⟨rfl, rfl⟩)) ?_
     refine qe rfl ?_
     exact ⟨_, backl H, ⟨rfl, rfl, trivial⟩, ⟨rfl, trivial⟩⟩
   ·replace H := iff_ h17 H
    refine awp_exit ?_
    replace H := outl H hq16
    exact ⟨(), H, ⟨rfl, trivial⟩, ⟨rfl, trivial⟩⟩
  ·rintro ⟨⟩ H
   replace H : portal_Merge_J2 r13 = some r := H
   unfold portal_Merge_J2 at H
   refine awp_seq ?_
   refine awp_seq ?_
   refine awp_plain hN rfl ?_
   refine seq_run0 (stp_move (.row _ _) rfl) ?_
   refine seq_run1 (t_lenR tyU31 rfl rfl) rfl ?_
   refine seq_run0 (stp_gtr rfl rfl) ?_
   refine awp_cond _ rfl (fun h25 => ?_) (fun h25 => ?_)
   ·replace H := ift h25 H
    refine awp_seq ?_
    refine awp_plain hN rfl ?_
    refine qe rfl ?_
    refine qe rfl ?_
    refine awp_ret ?_
    cases H
    exact ⟨trivial, .inr ⟨rfl, rfl⟩, .inl rfl, trivial⟩
   ·replace H := iff_ h25 H
    refine awp_skip ?_
    refine awp_seq ?_
    refine awp_plain hN rfl ?_
    refine seq_run0 (stp_move (.row _ _) rfl) ?_
    refine seq_run0 (stp_assign (.row _ _) rfl) ?_
    refine qe rfl ?_
    refine awp_ret ?_
    cases H
    exact ⟨trivial, t_slotv rfl rfl, .inl rfl, trivial⟩
 ·rintro k5 ⟨⟩ q6 h26 H hq6
  replace H : portal_Merge_L1 c1 apps2 a3 b4 k5 = some q6 := H
  unfold portal_Merge_L1 at H
  refine awp_seq ?_
  refine awp_plain hN rfl ?_
  refine seq_run0 (stp_lss rfl rfl) ?_
  refine awp_seq ?_
  refine awp_cond _ rfl (fun h => ?_) (fun h => (lt_f h26 h).elim)
  refine awp_skip ?_
  refine awp_seq ?_
  refine awp_block ?_
  refine awp_seq ?_
  refine awp_plain hN rfl ?_
  obtain ⟨x27, h28, H⟩ := bnd H
  refine seq_run0 (t_indexAN (D := fun e => vlst (List.map C_api_Event e)) (xs := ([a3, b4] : List (List S_api_Event))) (show Tryz.prog.underlying 76 = some (.array 2 31) from by kernel_rfl) (show tyS Tryz.prog 31 = some (false, 1) from by kernel_rfl) rfl rfl rfl h28) ?_
  refine qe rfl ?_
  refine awp_seq ?_
  refine awp_plain hN rfl ?_
  refine seq_run1 (stp_loadA tyS29 rfl rfl rfl) rfl ?_
  refine qd rfl ?_
  refine qd rfl ?_
  obtain ⟨r29, h30, H⟩ := bnd H
  refine seq_run0 (stp_call (k_portal_CheckEvents c1 apps2 x27 r29 h30) ⟨.inl rfl, .inl rfl, .inl rfl, trivial⟩) ?_
  refine qe rfl ?_
  refine awp_seq ?_
  refine awp_plain hN rfl ?_
  refine qd rfl ?_
  refine seq_run0 (stp_neq rfl rfl) ?_
  refine awp_cond _ rfl (fun h31 => ?_) (fun h31 => ?_)
  ·replace H := ift h31 H
   refine awp_seq ?_
   refine awp_plain hN rfl ?_
   refine qd rfl ?_
   refine qe rfl ?_
   refine qe rfl ?_
   refine awp_ret ?_
   replace H := retl H hq6
   cases H
   exact ⟨trivial, .inr ⟨rfl, rfl⟩, .inl rfl, trivial⟩
  ·replace H := iff_ h31 H
   refine awp_skip ?_
   refine awp_plain hN rfl ?_
   refine seq_run0 (stp_add rfl rfl (by omega)) ?_
   refine qd rfl ?_
   exact ⟨_, backl H, ⟨rfl, rfl, rfl, rfl, rfl, rfl, trivial⟩, ⟨rfl, trivial⟩⟩
theorem k_portal_none  (r : (S_api_Sub)) (H : m_portal_none  = some r) : Fn Tryz.prog 95 [] (resOf [vagg (C_api_Sub r)]) := by
 refine ⟨by kernel_rfl, pure_of (us := [vagg (C_api_Sub r)]) Tryz.func95 rfl rfl rfl rfl fun X hN => ?_⟩
 unfold m_portal_none at H
 refine awp_seq ?_
 refine awp_plain hN rfl ?_
 refine seq_run2 (stp_alloc 1 tyZ70 rfl) rfl ?_
 refine awp_seq ?_
 refine awp_plain hN rfl ?_
 refine seq_run0 (stp_dat (u' := vagg (C_api_Sub (S_api_Sub.mk 0 [] 0 (-1)))) (stp_build [(3, [vint (-1)])] tyZ70 tyP70 rfl ⟨rfl, .inl ⟨_, rfl, rfl, rfl⟩, rfl, trivial⟩) rfl) ?_
 refine seq_run2 (stp_storeW tyS70 rfl rfl rfl rfl) rfl ?_
 refine awp_ret ?_
 cases H
 exact ⟨trivial, .inl ⟨_, _, _, C_api_Sub (S_api_Sub.mk 0 [] 0 (-1)), rfl, rfl, rfl, rfl, tyS70⟩, trivial⟩
theorem ku_portal_book_sub_w (s1 : S_portal_book) (app2 : Bs) (product3 : Bs) (r : (S_api_Sub)) (H : m_portal_book_sub_w s1 app2 product3 = some r) : FnG Tryz.prog 67 [.ptr 0 0, .dat (vstr app2), .dat (vstr product3)] [(0, .box (some 0) 110 [.mp 2, .mp 3]), (2, .opq (some 0) (mapGO MT_portal_pair_api_Sub s1.subs_)), (3, .opq (some 0) (mapGO MT_portal_pair_int s1.asks_))] (.dat (resOf [vagg (C_api_Sub r)])) [(0, .box (some 0) 110 [.mp 2, .mp 3]), (2, .opq (some 0) (mapGO MT_portal_pair_api_Sub s1.subs_)), (3, .opq (some 0) (mapGO MT_portal_pair_int s1.asks_)), (10, .box none 70 (List.map .dat (C_api_Sub r)))] := by
 refine fnG_of (by kernel_rfl) Tryz.func67 rfl rfl rfl rfl fun X A hN => ?_
 unfold m_portal_book_sub_w at H
 refine awp_seq ?_
 refine awp_plain hN rfl ?_
 refine seq_run2 (stp_alloc 10 tyZ70 rfl) rfl ?_
 refine awp_seq ?_
 refine awp_plain hN rfl ?_
 refine seq_run0 (stp_move (.ptr _ _) rfl) ?_
 refine seq_run0 (stp_nilP rfl) ?_
 refine seq_run0 (stp_fldP tyF110_0 rfl) ?_
 refine seq_run1 (stp_load1 tyS107 rfl rfl) rfl ?_
 refine qd rfl ?_
 refine qd rfl ?_
 refine seq_run0 (stp_dat (u' := vagg (C_portal_pair (S_portal_pair.mk app2 product3))) (stp_build [(0, [vstr app2]), (1, [vstr product3])] tyZ113 tyP113 rfl ⟨rfl, .inl ⟨_, rfl, rfl, rfl⟩, rfl, rfl, .inl ⟨_, rfl, rfl, rfl⟩, rfl, trivial⟩) rfl) ?_
 obtain ⟨h4, H⟩ := gif H
 refine seq_run1 (stp_dat (u' := vtup [vagg (C_api_Sub ((lkG s1.subs_ (S_portal_pair.mk app2 product3)).getD (S_api_Sub.mk 0 [] 0 0))), vbool ((lkG s1.subs_ (S_portal_pair.mk app2 product3)).isSome)]) (stp_lookG2 (S_portal_pair.mk app2 product3) tyG_t_map_portal_pair_api_Sub__ rfl rfl h4) rfl) rfl ?_
 refine qd rfl ?_
 refine seq_run0 (stp_ext rfl rfl) ?_
 refine seq_run0 (stp_ext rfl rfl) ?_
 refine seq_run2 (stp_alloc 11 tyZ70 rfl) rfl ?_
 refine seq_run2 (stp_storeW tyS70 rfl rfl rfl rfl) rfl ?_
 refine qe rfl ?_
 refine awp_seq ?_
 refine awp_seq ?_
 refine awp_plain hN rfl ?_
 refine qd rfl ?_
 refine seq_run0 (stp_not rfl) ?_
 refine awp_cond _ rfl (fun h5 => ?_) (fun h5 => ?_)
 ·replace H := ift h5 H
  refine awp_seq ?_
  refine awp_plain hN rfl ?_
  obtain ⟨r6, h7, H⟩ := bnd H
  refine seq_run0 (stp_call (k_portal_none  r6 h7) trivial) ?_
  refine seq_run2 (stp_storeW tyS70 rfl rfl rfl rfl) rfl ?_
  refine awp_ret ?_
  have eH : r6 = r := Option.some.inj H
  subst eH
  exact ⟨trivial, [(6, .ptr 10 0)], ⟨rfl, trivial⟩, ⟨rfl, rfl, rfl, rfl, trivial⟩, rfl, .inl ⟨[vagg (C_api_Sub r6)], ⟨⟨_, _, _, C_api_Sub r6, rfl, rfl, rfl, rfl, tyS70⟩, trivial⟩, rfl⟩⟩
 ·replace H := iff_ h5 H
  refine awp_skip ?_
  refine awp_seq ?_
  refine awp_plain hN rfl ?_
  refine seq_run1 (stp_loadA tyS70 rfl rfl rfl) rfl ?_
  refine seq_run2 (stp_storeW tyS70 rfl rfl rfl rfl) rfl ?_
  refine awp_ret ?_
  cases H
  exact ⟨trivial, [(6, .ptr 10 0)], ⟨rfl, trivial⟩, ⟨rfl, rfl, rfl, rfl, trivial⟩, rfl, .inl ⟨[vagg (C_api_Sub (S_api_Sub.mk (((lkG s1.subs_ (S_portal_pair.mk app2 product3)).getD (S_api_Sub.mk 0 [] 0 0)).State) (((lkG s1.subs_ (S_portal_pair.mk app2 product3)).getD (S_api_Sub.mk 0 [] 0 0)).Plan) (((lkG s1.subs_ (S_portal_pair.mk app2 product3)).getD (S_api_Sub.mk 0 [] 0 0)).Since) (((lkG s1.subs_ (S_portal_pair.mk app2 product3)).getD (S_api_Sub.mk 0 [] 0 0)).First)))], ⟨⟨_, _, _, C_api_Sub (S_api_Sub.mk (((lkG s1.subs_ (S_portal_pair.mk app2 product3)).getD (S_api_Sub.mk 0 [] 0 0)).State) (((lkG s1.subs_ (S_portal_pair.mk app2 product3)).getD (S_api_Sub.mk 0 [] 0 0)).Plan) (((lkG s1.subs_ (S_portal_pair.mk app2 product3)).getD (S_api_Sub.mk 0 [] 0 0)).Since) (((lkG s1.subs_ (S_portal_pair.mk app2 product3)).getD (S_api_Sub.mk 0 [] 0 0)).First)), rfl, rfl, rfl, rfl, tyS70⟩, trivial⟩, rfl⟩⟩
theorem k_portal_isOn (state1 : Int) (r : (Bool)) (H : m_portal_isOn state1 = some r) : Fn Tryz.prog 121 [vint state1] (resOf [vbool r]) := by
 refine ⟨by kernel_rfl, pure_of (us := [vbool r]) Tryz.func121 rfl rfl rfl rfl fun X hN => ?_⟩
 unfold m_portal_isOn at H
 refine awp_seq ?_
 refine awp_plain hN rfl ?_
 refine qe rfl ?_
 refine awp_seq ?_
 refine awp_plain hN rfl ?_
 refine qd rfl ?_
 refine seq_run0 (stp_eql rfl rfl) ?_
 refine qd rfl ?_
 refine seq_aF rfl rfl (fun hc => stp_move (.dat _) rfl) ?_
 refine seq_aF rfl rfl (fun hc => stp_eql (cnd (c := (!(decide (state1 = 2)))) hc) rfl) ?_
 refine seq_run0 (stp_pick_or rfl rfl (fun hb => (cnd (c := (!(decide (state1 = 2)))) (notI hb)))) ?_
 refine qe rfl ?_
 refine awp_ret ?_
 cases H
 exact ⟨trivial, .inl rfl, trivial⟩
theorem k_portal_asked (s1 : S_api_Sub) (x2 : S_api_Event) (p3 : S_api_Plan) (r : (S_api_Sub × Bool)) (H : m_portal_asked s1 x2 p3 = some r) : Fn Tryz.prog 93 [vagg (C_api_Sub s1), vagg (C_api_Event x2), vagg (C_api_Plan p3)] (resOf [vagg (C_api_Sub r.1), vbool r.2]) := by
 refine ⟨by kernel_rfl, pure_of (us := [vagg (C_api_Sub r.1), vbool r.2]) Tryz.func93 rfl rfl rfl rfl fun X hN => ?_⟩
 unfold m_portal_asked at H
 refine awp_seq ?_
 refine awp_plain hN rfl ?_
 refine seq_run2 (stp_boxA 1 rfl) rfl ?_
 refine seq_run2 (stp_boxA 2 rfl) rfl ?_
 refine seq_run2 (stp_boxA 3 rfl) rfl ?_
 refine seq_run2 (stp_alloc 4 tyZ70 rfl) rfl ?_
 refine qe rfl ?_
 refine awp_seq ?_
 refine awp_block ?_
 refine awp_seq ?_
 refine awp_plain hN rfl ?_
 refine seq_run0 (stp_fldP tyF70_0 rfl) ?_
 refine seq_run1 (stp_load1 tyS3 rfl rfl) rfl ?_
 obtain ⟨r4, h5, H⟩ := bnd H
 refine seq_run0 (stp_call (k_portal_isOn s1.State r4 h5) ⟨.inl rfl, trivial⟩) ?_
 refine qe rfl ?_
 refine awp_cond _ rfl (fun h6 => ?_) (fun h6 => ?_)
 ·replace H := ift h6 H
  refine awp_seq ?_
  refine awp_seq ?_
  refine awp_plain hN rfl ?_
  refine seq_run0 (stp_fldP tyF64_0 rfl) ?_
  refine seq_run1 (stp_load1 tyS9 rfl rfl) rfl ?_
  refine seq_run0 (stp_fldP tyF70_1 rfl) ?_
  refine seq_run1 (stp_load1 tyS9 rfl rfl) rfl ?_
  refine seq_run0 (stp_seql rfl rfl) ?_
  refine qd rfl ?_
  refine seq_aF rfl rfl (fun hc => stp_fldP tyF64_7 rfl) ?_
  refine seq_arF rfl rfl (fun hc => stp_load1 tyS4 (cnd (c := (!(decide (p3.Key = s1.Plan)))) hc) rfl) rfl anti_p ?_
  refine seq_run0 (stp_pick_or rfl rfl (fun hb => (cnd (c := (!(decide (p3.Key = s1.Plan)))) (notI hb)))) ?_
  refine awp_cond _ rfl (fun h7 => ?_) (fun h7 => ?_)
  ·replace H := ift h7 H
   refine awp_seq ?_
   refine awp_plain hN rfl ?_
   refine seq_run1 (stp_loadA tyS70 rfl rfl rfl) rfl ?_
   refine seq_run2 (stp_storeW tyS70 rfl rfl rfl rfl) rfl ?_
   refine qe rfl ?_
   refine awp_ret ?_
   cases H
   exact ⟨trivial, .inl ⟨_, _, _, C_api_Sub s1, rfl, rfl, rfl, rfl, tyS70⟩, .inl rfl, trivial⟩
  ·replace H := iff_ h7 H
   refine awp_skip ?_
   refine awp_seq ?_
   refine awp_draw mixed hN rfl rfl ?_
   refine seq_run0 (stp_fldP tyF64_0 rfl) ?_
   refine seq_run1 (stp_load1 tyS9 rfl rfl) rfl ?_
   refine seq_run0 (stp_fldP tyF40_0 rfl) ?_
   refine seq_run1 (stp_load1 tyS3 rfl rfl) rfl ?_
   refine seq_run0 (stp_fldP tyF70_1 rfl) ?_
   refine seq_run2 (stp_store1 tyS9 rfl rfl rfl rfl) rfl ?_
   refine seq_run0 (stp_fldP tyF70_2 rfl) ?_
   refine seq_run2 (stp_store1 tyS3 rfl rfl rfl rfl) rfl ?_
   refine ⟨rfl, ?_⟩
   refine awp_seq ?_
   refine awp_plain hN rfl ?_
   refine seq_run1 (stp_loadA tyS70 rfl rfl rfl) rfl ?_
   refine seq_run2 (stp_storeW tyS70 rfl rfl rfl rfl) rfl ?_
   refine qe rfl ?_
   refine awp_ret ?_
   cases H
   exact ⟨trivial, .inl ⟨_, _, _, C_api_Sub (S_api_Sub.mk s1.State p3.Key x2.At s1.First), rfl, rfl, rfl, rfl, tyS70⟩, .inl rfl, trivial⟩
 ·replace H := iff_ h6 H
  refine awp_seq ?_
  refine awp_plain hN rfl ?_
  refine seq_run0 (stp_fldP tyF70_0 rfl) ?_
  refine seq_run1 (stp_load1 tyS3 rfl rfl) rfl ?_
  refine seq_run0 (stp_eql rfl rfl) ?_
  refine qe rfl ?_
  refine awp_cond _ rfl (fun h8 => ?_) (fun h8 => ?_)
  ·replace H := ift h8 H
   refine awp_seq ?_
   refine awp_plain hN rfl ?_
   refine seq_run1 (stp_loadA tyS70 rfl rfl rfl) rfl ?_
   refine seq_run2 (stp_storeW tyS70 rfl rfl rfl rfl) rfl ?_
   refine qe rfl ?_
   refine awp_ret ?_
   cases H
   exact ⟨trivial, .inl ⟨_, _, _, C_api_Sub s1, rfl, rfl, rfl, rfl, tyS70⟩, .inl rfl, trivial⟩
  ·replace H := iff_ h8 H
   refine awp_seq ?_
   refine awp_plain hN rfl ?_
   refine seq_run0 (stp_fldP tyF64_7 rfl) ?_
   refine seq_run1 (stp_load1 tyS4 rfl rfl) rfl ?_
   refine qe rfl ?_
   refine awp_cond _ rfl (fun h9 => ?_) (fun h9 => ?_)
   ·replace H := ift h9 H
    refine awp_seq ?_
    refine awp_plain hN rfl ?_
    refine seq_run0 (stp_fldP tyF64_0 rfl) ?_
    refine seq_run1 (stp_load1 tyS9 rfl rfl) rfl ?_
    refine seq_run0 (stp_fldP tyF40_0 rfl) ?_
    refine seq_run1 (stp_load1 tyS3 rfl rfl) rfl ?_
    refine seq_run0 (stp_dat (u' := vagg (C_api_Sub (S_api_Sub.mk 1 p3.Key x2.At (-1)))) (stp_build [(0, [vint 1]), (1, [vstr p3.Key]), (2, [vint x2.At]), (3, [vint (-1)])] tyZ70 tyP70 rfl ⟨rfl, .inl ⟨_, rfl, rfl, rfl⟩, rfl, rfl, .inl ⟨_, rfl, rfl, rfl⟩, rfl, rfl, .inl ⟨_, rfl, rfl, rfl⟩, rfl, rfl, .inl ⟨_, rfl, rfl, rfl⟩, rfl, trivial⟩) rfl) ?_
    refine seq_run2 (stp_storeW tyS70 rfl rfl rfl rfl) rfl ?_
    refine qe rfl ?_
    refine awp_ret ?_
    cases H
    exact ⟨trivial, .inl ⟨_, _, _, C_api_Sub (S_api_Sub.mk 1 p3.Key x2.At (-1)), rfl, rfl, rfl, rfl, tyS70⟩, .inl rfl, trivial⟩
   ·replace H := iff_ h9 H
    refine awp_skip ?_
    refine awp_seq ?_
    refine awp_plain hN rfl ?_
    refine seq_run0 (stp_fldP tyF64_0 rfl) ?_
    refine seq_run1 (stp_load1 tyS9 rfl rfl) rfl ?_
    refine seq_run0 (stp_fldP tyF40_0 rfl) ?_
    refine seq_run1 (stp_load1 tyS3 rfl rfl) rfl ?_
    refine seq_run0 (stp_fldP tyF40_0 rfl) ?_
    refine seq_run1 (stp_load1 tyS3 rfl rfl) rfl ?_
    refine seq_run0 (stp_dat (u' := vagg (C_api_Sub (S_api_Sub.mk 2 p3.Key x2.At x2.At))) (stp_build [(0, [vint 2]), (1, [vstr p3.Key]), (2, [vint x2.At]), (3, [vint x2.At])] tyZ70 tyP70 rfl ⟨rfl, .inl ⟨_, rfl, rfl, rfl⟩, rfl, rfl, .inl ⟨_, rfl, rfl, rfl⟩, rfl, rfl, .inl ⟨_, rfl, rfl, rfl⟩, rfl, rfl, .inl ⟨_, rfl, rfl, rfl⟩, rfl, trivial⟩) rfl) ?_
    refine seq_run2 (stp_storeW tyS70 rfl rfl rfl rfl) rfl ?_
    refine qe rfl ?_
    refine awp_ret ?_
    cases H
    exact ⟨trivial, .inl ⟨_, _, _, C_api_Sub (S_api_Sub.mk 2 p3.Key x2.At x2.At), rfl, rfl, rfl, rfl, tyS70⟩, .inl rfl, trivial⟩
theorem k_portal_goal (kind1 : Int) (state2 : Int) (r : (Int × Bool)) (H : m_portal_goal kind1 state2 = some r) : Fn Tryz.prog 94 [vint kind1, vint state2] (resOf [vint r.1, vbool r.2]) := by
 refine ⟨by kernel_rfl, pure_of (us := [vint r.1, vbool r.2]) Tryz.func94 rfl rfl rfl rfl fun X hN => ?_⟩
 unfold m_portal_goal at H
 refine awp_seq ?_
 refine awp_plain hN rfl ?_
 refine qe rfl ?_
 refine qe rfl ?_
 refine awp_seq ?_
 refine awp_seq ?_
 refine awp_plain hN rfl ?_
 refine qd rfl ?_
 refine awp_block ?_
 refine awp_seq ?_
 refine awp_plain hN rfl ?_
 refine seq_run0 (stp_eql rfl rfl) ?_
 refine qe rfl ?_
 refine awp_cond _ rfl (fun h3 => ?_) (fun h3 => ?_)
 ·replace H := ift h3 H
  refine awp_seq ?_
  refine awp_plain hN rfl ?_
  refine qd rfl ?_
  refine seq_run0 (stp_eql rfl rfl) ?_
  refine qe rfl ?_
  refine qe rfl ?_
  refine awp_ret ?_
  cases H
  exact ⟨trivial, .inl rfl, .inl rfl, trivial⟩
 ·replace H := iff_ h3 H
  refine awp_seq ?_
  refine awp_plain hN rfl ?_
  refine seq_run0 (stp_eql rfl rfl) ?_
  refine qe rfl ?_
  refine awp_cond _ rfl (fun h4 => ?_) (fun h4 => ?_)
  ·replace H := ift h4 H
   refine awp_seq ?_
   refine awp_plain hN rfl ?_
   refine qd rfl ?_
   refine seq_run0 (stp_eql rfl rfl) ?_
   refine qe rfl ?_
   refine qe rfl ?_
   refine awp_ret ?_
   cases H
   exact ⟨trivial, .inl rfl, .inl rfl, trivial⟩
  ·replace H := iff_ h4 H
   refine awp_seq ?_
   refine awp_plain hN rfl ?_
   refine seq_run0 (stp_eql rfl rfl) ?_
   refine qe rfl ?_
   refine awp_cond _ rfl (fun h5 => ?_) (fun h5 => ?_)
   ·replace H := ift h5 H
    refine awp_seq ?_
    refine awp_plain hN rfl ?_
    refine qd rfl ?_
    refine seq_run0 (stp_eql rfl rfl) ?_
    refine qe rfl ?_
    refine qe rfl ?_
    refine awp_ret ?_
    cases H
    exact ⟨trivial, .inl rfl, .inl rfl, trivial⟩
   ·replace H := iff_ h5 H
    refine awp_seq ?_
    refine awp_plain hN rfl ?_
    refine seq_run0 (stp_eql rfl rfl) ?_
    refine qe rfl ?_
    refine awp_cond _ rfl (fun h6 => ?_) (fun h6 => ?_)
    ·replace H := ift h6 H
     refine awp_seq ?_
     refine awp_plain hN rfl ?_
     refine qd rfl ?_
     refine seq_run0 (stp_eql rfl rfl) ?_
     refine qe rfl ?_
     refine qe rfl ?_
     refine awp_ret ?_
     cases H
     exact ⟨trivial, .inl rfl, .inl rfl, trivial⟩
    ·replace H := iff_ h6 H
     refine awp_skip ?_
     refine awp_joinE (ι := Bool) (fun i => [(4, .dat (vint 4)), (5, .dat (vbool i))]) (fun i => []) (fun i => portal_goal_J1 i = some r) (fun i => rfl) ?_ ?_
     ·skip
      refine awp_plain hN rfl ?_
      refine qd rfl ?_
      refine seq_run0 (stp_eql rfl rfl) ?_
      refine qd rfl ?_
      refine seq_split (j := 2) rfl rfl (fun h7 => ?_) (fun h7 => ?_) rfl
      ·have h8 := un3 h7
       replace H := iff_ h8 H
       refine seq_g0 rfl rfl h7 (stp_move (.dat _) rfl) ?_
       obtain ⟨r9, h10, H⟩ := bnd H
       refine seq_g0 rfl rfl h7 (stp_call (k_portal_isOn state2 r9 h10) ⟨.inl rfl, trivial⟩) ?_
       refine seq_run0 (stp_pick_f rfl (bFF h8) rfl) ?_
       refine qe rfl ?_
       refine qe rfl ?_
       exact ⟨r9, H, ⟨rfl, rfl, trivial⟩, trivial⟩
      ·have h11 := un4 h7
       replace H := ift h11 H
       refine seq_skip rfl rfl h7 ?_
       refine seq_skip rfl rfl h7 ?_
       refine seq_run0 (stp_pick_t rfl (bTT h11) rfl) ?_
       refine qe rfl ?_
       refine qe rfl ?_
       exact ⟨true, H, ⟨rfl, rfl, trivial⟩, trivial⟩
     ·rintro v12 H
      replace H : portal_goal_J1 v12 = some r := H
      unfold portal_goal_J1 at H
      refine awp_ret ?_
      cases H
      exact ⟨trivial, .inl rfl, .inl rfl, trivial⟩
theorem k_portal_followed (c1 : S_api_Catalog) (s2 : S_api_Sub) (x3 : S_api_Event) (r : (S_api_Sub × Bool)) (H : m_portal_followed c1 s2 x3 = some r) : Fn Tryz.prog 66 [vagg (C_api_Catalog c1), vagg (C_api_Sub s2), vagg (C_api_Event x3)] (resOf [vagg (C_api_Sub r.1), vbool r.2]) := by
 refine ⟨by kernel_rfl, pure_of (us := [vagg (C_api_Sub r.1), vbool r.2]) Tryz.func66 rfl rfl rfl rfl fun X hN => ?_⟩
 unfold m_portal_followed at H
 refine awp_seq ?_
 refine awp_plain hN rfl ?_
 refine seq_run2 (stp_boxA 1 rfl) rfl ?_
 refine seq_run2 (stp_boxA 2 rfl) rfl ?_
 refine seq_run2 (stp_boxA 3 rfl) rfl ?_
 refine seq_run2 (stp_alloc 4 tyZ70 rfl) rfl ?_
 refine qe rfl ?_
 refine awp_seq ?_
 refine awp_seq ?_
 refine awp_plain hN rfl ?_
 refine seq_run0 (stp_fldP tyF40_3 rfl) ?_
 refine seq_run1 (stp_load1 tyS3 rfl rfl) rfl ?_
 refine seq_run0 (stp_eql rfl rfl) ?_
 refine awp_cond _ rfl (fun h4 => ?_) (fun h4 => ?_)
 ·replace H := ift h4 H
  refine awp_seq ?_
  refine awp_plain hN rfl ?_
  refine seq_run1 (stp_loadA tyS29 rfl rfl rfl) rfl ?_
  refine seq_run0 (stp_fldP tyF40_4 rfl) ?_
  refine seq_run1 (stp_load1 tyS9 rfl rfl) rfl ?_
  obtain ⟨r5, h6, H⟩ := bnd H
  refine seq_run0 (stp_call (k_portal_planOf c1 x3.Plan r5 h6) ⟨.inl rfl, .inl rfl, trivial⟩) ?_
  refine qd rfl ?_
  refine seq_run0 (stp_ext rfl rfl) ?_
  refine seq_run0 (stp_ext rfl rfl) ?_
  refine seq_run2 (stp_alloc 5 tyZ64 rfl) rfl ?_
  refine seq_run2 (stp_storeW tyS64 rfl rfl rfl rfl) rfl ?_
  refine qe rfl ?_
  refine awp_seq ?_
  refine awp_plain hN rfl ?_
  refine seq_run1 (stp_loadA tyS70 rfl rfl rfl) rfl ?_
  refine seq_run1 (stp_loadA tyS40 rfl rfl rfl) rfl ?_
  refine seq_run1 (stp_loadA tyS64 rfl rfl rfl) rfl ?_
  obtain ⟨r7, h8, H⟩ := bnd H
  refine seq_run0 (stp_call (k_portal_asked s2 x3 r5.1 r7 h8) ⟨.inl rfl, .inl rfl, .inl rfl, trivial⟩) ?_
  refine seq_run0 (stp_ext rfl rfl) ?_
  refine seq_run0 (stp_ext rfl rfl) ?_
  refine seq_run2 (stp_storeW tyS70 rfl rfl rfl rfl) rfl ?_
  refine qe rfl ?_
  refine awp_ret ?_
  cases H
  exact ⟨trivial, .inl ⟨_, _, _, C_api_Sub r7.1, rfl, rfl, rfl, rfl, tyS70⟩, .inl rfl, trivial⟩
 ·replace H := iff_ h4 H
  refine awp_skip ?_
  refine awp_seq ?_
  refine awp_plain hN rfl ?_
  refine seq_run0 (stp_fldP tyF40_3 rfl) ?_
  refine seq_run1 (stp_load1 tyS3 rfl rfl) rfl ?_
  refine seq_run0 (stp_fldP tyF70_0 rfl) ?_
  refine seq_run1 (stp_load1 tyS3 rfl rfl) rfl ?_
  obtain ⟨r9, h10, H⟩ := bnd H
  refine seq_run0 (stp_call (k_portal_goal x3.Kind s2.State r9 h10) ⟨.inl rfl, .inl rfl, trivial⟩) ?_
  refine qd rfl ?_
  refine seq_run0 (stp_ext rfl rfl) ?_
  refine seq_run0 (stp_ext rfl rfl) ?_
  refine qe rfl ?_
  refine qe rfl ?_
  refine awp_seq ?_
  refine awp_seq ?_
  refine awp_plain hN rfl ?_
  refine qd rfl ?_
  refine seq_run0 (stp_not rfl) ?_
  refine awp_cond _ rfl (fun h11 => ?_) (fun h11 => ?_)
  ·replace H := ift h11 H
   refine awp_seq ?_
   refine awp_plain hN rfl ?_
   refine seq_run1 (stp_loadA tyS70 rfl rfl rfl) rfl ?_
   refine seq_run2 (stp_storeW tyS70 rfl rfl rfl rfl) rfl ?_
   refine qe rfl ?_
   refine awp_ret ?_
   cases H
   exact ⟨trivial, .inl ⟨_, _, _, C_api_Sub s2, rfl, rfl, rfl, rfl, tyS70⟩, .inl rfl, trivial⟩
  ·replace H := iff_ h11 H
   refine awp_skip ?_
   refine awp_seq ?_
   refine awp_draw mixed hN rfl rfl ?_
   refine qd rfl ?_
   refine seq_run0 (stp_fldP tyF40_0 rfl) ?_
   refine seq_run1 (stp_load1 tyS3 rfl rfl) rfl ?_
   refine seq_run0 (stp_fldP tyF70_0 rfl) ?_
   refine seq_run2 (stp_store1 tyS3 rfl rfl rfl rfl) rfl ?_
   refine seq_run0 (stp_fldP tyF70_2 rfl) ?_
   refine seq_run2 (stp_store1 tyS3 rfl rfl rfl rfl) rfl ?_
   refine ⟨rfl, ?_⟩
   refine awp_joinE (ι := Int) (fun i => [(4, .ptr 2 0), (6, .ptr 4 0)]) (fun i => [(2, .box none 70 [.dat (vint r9.1), .dat (vstr s2.Plan), .dat (vint x3.At), .dat (vint i)]), (4, .box none 70 [.dat (vint 0), .dat (vstr []), .dat (vint 0), .dat (vint 0)])]) (fun i => portal_followed_J1 s2 x3 r9 i = some r) (fun i => rfl) ?_ ?_
   ·skip
    refine awp_seq ?_
    refine awp_plain hN rfl ?_
    refine qd rfl ?_
    refine seq_run0 (stp_eql rfl rfl) ?_
    refine qd rfl ?_
    refine seq_aT rfl rfl (fun hc => stp_fldP tyF70_3 rfl) ?_
    refine seq_arT rfl rfl (fun hc => stp_load1 tyS3 (cnd (c := (decide (r9.1 = 2))) hc) rfl) rfl anti_p ?_
    refine seq_aT rfl rfl (fun hc => stp_lss (cnd (c := (decide (r9.1 = 2))) hc) rfl) ?_
    refine seq_run0 (stp_pick_and rfl (fun hb => (cnd (c := (decide (r9.1 = 2))) hb)) rfl) ?_
    refine awp_cond _ rfl (fun h12 => ?_) (fun h12 => ?_)
    ·replace H := ift h12 H
     refine awp_plain hN rfl ?_
     refine seq_run0 (stp_fldP tyF40_0 rfl) ?_
     refine seq_run1 (stp_load1 tyS3 rfl rfl) rfl ?_
     refine seq_run0 (stp_fldP tyF70_3 rfl) ?_
     refine seq_run2 (stp_store1 tyS3 rfl rfl rfl rfl) rfl ?_
     exact ⟨x3.At, H, ⟨rfl, rfl, trivial⟩, ⟨rfl, rfl, trivial⟩⟩
    ·replace H := iff_ h12 H
     refine awp_skip ?_
     exact ⟨s2.First, H, ⟨rfl, rfl, trivial⟩, ⟨rfl, rfl, trivial⟩⟩
   ·rintro c13 H
    replace H : portal_followed_J1 s2 x3 r9 c13 = some r := H
    unfold portal_followed_J1 at H
    refine awp_seq ?_
    refine awp_plain hN rfl ?_
    refine seq_run1 (stp_loadA tyS70 rfl rfl rfl) rfl ?_
    refine seq_run2 (stp_storeW tyS70 rfl rfl rfl rfl) rfl ?_
    refine qe rfl ?_
    refine awp_ret ?_
    cases H
    exact ⟨trivial, .inl ⟨_, _, _, C_api_Sub (S_api_Sub.mk r9.1 s2.Plan x3.At c13), rfl, rfl, rfl, rfl, tyS70⟩, .inl rfl, trivial⟩
theorem k_portal_bookAt_f (v1 : S_api_Catalog) (v2 : (List S_api_Event)) (v3 : Int) (r : (S_portal_book × (List Int))) (H : m_portal_bookAt_f v1 v2 v3 = some r) : Fn Tryz.prog 39 [vagg (C_api_Catalog v1), vlst (List.map C_api_Event v2), vint v3] (resOf [vcell [[vmpG MT_portal_pair_api_Sub r.1.subs_, vmpG MT_portal_pair_int r.1.asks_]] 0 0, vlst (List.map C_int r.2)]) := by
 refine ⟨by kernel_rfl, pure_of (us := [vcell [[vmpG MT_portal_pair_api_Sub r.1.subs_, vmpG MT_portal_pair_int r.1.asks_]] 0 0, vlst (List.map C_int r.2)]) Tryz.func39 rfl rfl rfl rfl fun X hN => ?_⟩
 unfold m_portal_bookAt_f at H
 refine awp_seq ?_
 refine awp_plain hN rfl ?_
 refine seq_run2 (stp_boxA 1 rfl) rfl ?_
 refine qe rfl ?_
 refine qe rfl ?_
 refine awp_seq ?_
 refine awp_plain hN rfl ?_
 refine seq_run2 (stp_mkG 2 tyG_t_map_portal_pair_api_Sub__) rfl ?_
 refine seq_run2 (stp_mkG 3 tyG_t_map_portal_pair_int__) rfl ?_
 refine seq_run0 (stp_slot (s' := .comp false [.mp 2, .mp 3]) (stp_buildC [] [(0, [.mp 2]), (1, [.mp 3])] tyZ110 tyP110 rfl ⟨rfl, .inr (.inr ⟨_, rfl, rfl⟩), rfl, rfl, .inr (.inr ⟨_, rfl, rfl⟩), rfl, trivial⟩) rfl) ?_
 refine seq_run2 (stp_boxC 4 rfl) rfl ?_
 refine seq_run0 (stp_assign (.ptr _ _) rfl) ?_
 refine awp_seq ?_
 refine awp_plain hN rfl ?_
 refine qe rfl ?_
 refine awp_joinE (ι := (List Int) × (List (S_portal_pair × Int)) × (List (S_portal_pair × S_api_Sub))) (fun i => [(8, .ptr 4 0), (9, .row 5 i.1.length)]) (fun i => [(2, .opq none (mapGO MT_portal_pair_api_Sub i.2.2)), (3, .opq none (mapGO MT_portal_pair_int i.2.1)), (4, .box none 110 [.mp 2, .mp 3]), (5, .row 3 1 (List.map C_int i.1))]) (fun i => portal_bookAt_f_J1 i.1 i.2.1 i.2.2 = some r) (fun i => rfl) ?_ ?_
 ·skip
  refine awp_seq ?_
  refine awp_plain hN rfl ?_
  refine qd rfl ?_
  refine seq_run0 (t_len tyU31 rfl) ?_
  refine qd rfl ?_
  refine awp_block ?_
  refine awp_nilrow 9 5 3 1 rfl rfl rfl ?_
  obtain ⟨h9, H⟩ := gif H
  refine awp_forL (fun (k7 : Nat) (s : (List (S_portal_pair × S_api_Sub)) × (List (S_portal_pair × Int)) × (List Int)) => [(2, .dat (vint v3)), (3, .ptr 1 0), (8, .ptr 4 0), (9, .row 5 s.2.2.length), (19, .dat (vlst (List.map C_api_Event v2))), (20, .dat (vint (v2.length : Int))), (21, .dat (vint (k7 : Int)))]) (fun (k7 : Nat) (s : (List (S_portal_pair × S_api_Sub)) × (List (S_portal_pair × Int)) × (List Int)) => [(1, .box none 29 [.dat (vlst (List.map C_api_Product v1.Products)), .dat (vlst (List.map C_api_Plan v1.Plans))]), (2, .opq none (mapGO MT_portal_pair_api_Sub s.1)), (3, .opq none (mapGO MT_portal_pair_int s.2.1)), (4, .box none 110 [.mp 2, .mp 3]), (5, .row 3 1 (List.map C_int s.2.2))]) ([], [], []) H ⟨rfl, rfl, rfl, rfl, rfl, rfl, rfl, trivial⟩ ⟨rfl, rfl, rfl, rfl, rfl, trivial⟩ (fun _ _ => rfl) ?_ ?_
  ·rintro ⟨m4, m5, l6⟩ H
   replace H : portal_bookAt_f_E2 m4 m5 l6 = some r := H
   unfold portal_bookAt_f_E2 at H
   refine awp_seq ?_
   refine awp_plain hN rfl ?_
   refine seq_run0 (stp_lss rfl rfl) ?_
   refine awp_seq ?_
   refine awp_cond _ rfl (fun h => (lt_t h).elim) (fun h => ?_)
   refine awp_exit ?_
   exact ⟨(l6, m5, m4), H, ⟨rfl, rfl, trivial⟩, ⟨rfl, rfl, rfl, rfl, trivial⟩⟩
  ·rintro k7 x10 ⟨m4, m5, l6⟩ q8 h11 h12 H hq8
   replace H : portal_bookAt_f_L2 v1 v3 k7 x10 m4 m5 l6 = some q8 := H
   unfold portal_bookAt_f_L2 at H
   refine awp_seq ?_
   refine awp_plain hN rfl ?_
   refine seq_run0 (stp_lss rfl rfl) ?_
   refine awp_seq ?_
   refine awp_cond _ rfl (fun h => ?_) (fun h => (lt_f h11 h).elim)
   refine awp_skip ?_
   refine awp_joinE (ι := (List Int) × (List (S_portal_pair × Int)) × (List (S_portal_pair × S_api_Sub))) (fun i => [(2, .dat (vint v3)), (3, .ptr 1 0), (8, .ptr 4 0), (9, .row 5 i.1.length), (19, .dat (vlst (List.map C_api_Event v2))), (20, .dat (vint (v2.length : Int))), (21, .dat (vint (k7 : Int)))]) (fun i => [(1, .box none 29 [.dat (vlst (List.map C_api_Product v1.Products)), .dat (vlst (List.map C_api_Plan v1.Plans))]), (2, .opq none (mapGO MT_portal_pair_api_Sub i.2.2)), (3, .opq none (mapGO MT_portal_pair_int i.2.1)), (4, .box none 110 [.mp 2, .mp 3]), (5, .row 3 1 (List.map C_int i.1))]) (fun i => portal_bookAt_f_J3 i.1 i.2.1 i.2.2 = some q8) (fun i => rfl) ?_ ?_
   ·skip
    refine awp_block ?_
    refine awp_seq ?_
    refine awp_plain hN rfl ?_
    refine qd rfl ?_
    refine seq_run0 (t_idx tyE31 (fun _ => rfl) rfl rfl h12) ?_
    refine seq_run0 (stp_loadEA tyS40 rfl (map_at h12) rfl) ?_
    refine seq_run2 (stp_alloc 6 tyZ40 rfl) rfl ?_
    refine qe rfl ?_
    refine seq_run2 (stp_storeW tyS40 rfl rfl rfl rfl) rfl ?_
    refine awp_seq ?_
    refine awp_seq ?_
    refine awp_plain hN rfl ?_
    refine seq_run0 (stp_fldP tyF40_0 rfl) ?_
    refine seq_run1 (stp_load1 tyS3 rfl rfl) rfl ?_
    refine qd rfl ?_
    refine seq_run0 (stp_gtr rfl rfl) ?_
    refine awp_cond _ rfl (fun h13 => ?_) (fun h13 => ?_)
    ·replace H := ift h13 H
     refine awp_exit ?_
     replace H := outl H hq8
     exact ⟨(l6, m5, m4), H, ⟨rfl, rfl, trivial⟩, ⟨rfl, rfl, rfl, rfl, trivial⟩⟩
    ·replace H := iff_ h13 H
     refine awp_skip ?_
     refine awp_seq ?_
     refine awp_draw mixed hN rfl rfl ?_
     refine seq_run1 (stp_loadA tyS29 rfl rfl rfl) rfl ?_
     refine seq_run0 (stp_move (.ptr _ _) rfl) ?_
     refine seq_run0 (stp_fldP tyF40_1 rfl) ?_
     refine seq_run1 (stp_load1 tyS9 rfl rfl) rfl ?_
     refine seq_run0 (stp_fldP tyF40_2 rfl) ?_
     refine seq_run1 (stp_load1 tyS9 rfl rfl) rfl ?_
     obtain ⟨r14, h15, H⟩ := bnd H
     refine seq_callG (rn [(0, 4), (2, 2), (3, 3), (10, 7)]) [(0, _, _, some _), (2, _, _, some _), (3, _, _, some _)] [(10, _)] (ku_portal_book_sub_w (S_portal_book.mk m4 m5) x10.App x10.Product r14 h15) ⟨rfl, rfl, rfl, rfl, trivial⟩ ⟨.inl (.inl rfl), .inl (.inl rfl), .inl (.inl rfl), trivial⟩ ⟨⟨⟨rfl, rfl⟩, trivial⟩, ⟨rfl, trivial⟩, ⟨rfl, trivial⟩, trivial⟩ rfl ?_
     refine seq_run1 (stp_loadA tyS40 rfl rfl rfl) rfl ?_
     obtain ⟨r16, h17, H⟩ := bnd H
     refine seq_run0 (stp_call (k_portal_followed v1 r14 x10 r16 h17) ⟨.inl rfl, .inl rfl, .inl rfl, trivial⟩) ?_
     refine qd rfl ?_
     refine seq_run0 (stp_ext rfl rfl) ?_
     refine seq_run0 (stp_ext rfl rfl) ?_
     refine seq_run2 (stp_alloc 8 tyZ70 rfl) rfl ?_
     refine seq_run2 (stp_storeW tyS70 rfl rfl rfl rfl) rfl ?_
     refine qe rfl ?_
     refine ⟨rfl, ?_⟩
     refine awp_seq ?_
     refine awp_seq ?_
     refine awp_plain hN rfl ?_
     refine qd rfl ?_
     refine seq_run0 (stp_not rfl) ?_
     refine awp_cond _ rfl (fun h18 => ?_) (fun h18 => ?_)
     ·replace H := ift h18 H
      refine awp_seq ?_
      refine awp_plain hN rfl ?_
      refine seq_run0 (stp_move (.row _ _) rfl) ?_
      refine qd rfl ?_
      refine seq_run0 (stp_dat (u' := vlst (List.map C_int [(k7 : Int)])) (stp_lit [[_]] tyL22 ⟨rfl, .inl ⟨_, rfl, rfl, rfl⟩, rfl, trivial⟩ rfl rfl) rfl) ?_
      obtain ⟨h19, H⟩ := gif H
      refine seq_run2 (t_app tyL22 (fun _ => rfl) rfl rfl rfl ⟨by simp, by first | (simp; done) | simpa using h19⟩ rfl) rfl ?_
      refine seq_run0 (stp_assign (.row _ _) rfl) ?_
      refine awp_exit ?_
      exact ⟨((l6 ++ [(k7 : Int)]), m5, m4), H, ⟨rfl, rfl, rfl, rfl, rfl, rfl, rfl, trivial⟩, ⟨rfl, rfl, rfl, rfl, rfl, trivial⟩⟩
     ·replace H := iff_ h18 H
      refine awp_skip ?_
      refine awp_seq ?_
      refine awp_plain hN rfl ?_
      refine seq_run0 (stp_fldP tyF40_1 rfl) ?_
      refine seq_run1 (stp_load1 tyS9 rfl rfl) rfl ?_
      refine seq_run0 (stp_fldP tyF40_2 rfl) ?_
      refine seq_run1 (stp_load1 tyS9 rfl rfl) rfl ?_
      refine seq_run0 (stp_dat (u' := vagg (C_portal_pair (S_portal_pair.mk x10.App x10.Product))) (stp_build [(0, [vstr x10.App]), (1, [vstr x10.Product])] tyZ113 tyP113 rfl ⟨rfl, .inl ⟨_, rfl, rfl, rfl⟩, rfl, rfl, .inl ⟨_, rfl, rfl, rfl⟩, rfl, trivial⟩) rfl) ?_
      refine seq_run2 (stp_alloc 9 tyZ113 rfl) rfl ?_
      refine seq_run2 (stp_storeW tyS113 rfl rfl rfl rfl) rfl ?_
      refine awp_seq ?_
      refine awp_draw mixed hN rfl rfl ?_
      refine seq_run0 (stp_move (.ptr _ _) rfl) ?_
      refine seq_run0 (stp_nilP rfl) ?_
      refine seq_run0 (stp_fldP tyF110_0 rfl) ?_
      refine seq_run1 (stp_load1 tyS107 rfl rfl) rfl ?_
      refine seq_run1 (stp_loadA tyS113 rfl rfl rfl) rfl ?_
      refine seq_run1 (stp_loadA tyS70 rfl rfl rfl) rfl ?_
      obtain ⟨h20, H⟩ := gif H
      refine seq_run2 (stp_putG (S_portal_pair.mk x10.App x10.Product) r16.1 tyG_t_map_portal_pair_api_Sub__ rfl rfl rfl h20) rfl ?_
      refine ⟨rfl, ?_⟩
      refine awp_seq ?_
      refine awp_plain hN rfl ?_
      refine seq_run0 (stp_fldP tyF40_3 rfl) ?_
      refine seq_run1 (stp_load1 tyS3 rfl rfl) rfl ?_
      refine seq_run0 (stp_eql rfl rfl) ?_
      refine awp_cond _ rfl (fun h21 => ?_) (fun h21 => ?_)
      ·replace H := ift h21 H
       refine awp_draw mixed hN rfl rfl ?_
       refine seq_run0 (stp_move (.ptr _ _) rfl) ?_
       refine seq_run0 (stp_nilP rfl) ?_
       refine seq_run0 (stp_fldP tyF110_1 rfl) ?_
       refine seq_run1 (stp_load1 tyS108 rfl rfl) rfl ?_
       refine seq_run1 (stp_loadA tyS113 rfl rfl rfl) rfl ?_
       refine qd rfl ?_
       obtain ⟨h22, H⟩ := gif H
       refine seq_run2 (stp_putG (S_portal_pair.mk x10.App x10.Product) (k7 : Int) tyG_t_map_portal_pair_int__ rfl rfl rfl h22) rfl ?_
       refine ⟨rfl, ?_⟩
       exact ⟨(l6, (ptG m5 (S_portal_pair.mk x10.App x10.Product) (k7 : Int)), (ptG m4 (S_portal_pair.mk x10.App x10.Product) r16.1)), H, ⟨rfl, rfl, rfl, rfl, rfl, rfl, rfl, trivial⟩, ⟨rfl, rfl, rfl, rfl, rfl, trivial⟩⟩
      ·replace H := iff_ h21 H
       refine awp_skip ?_
       exact ⟨(l6, m5, (ptG m4 (S_portal_pair.mk x10.App x10.Product) r16.1)), H, ⟨rfl, rfl, rfl, rfl, rfl, rfl, rfl, trivial⟩, ⟨rfl, rfl, rfl, rfl, rfl, trivial⟩⟩
   ·rintro ⟨v23, m24, m25⟩ H
    replace H : portal_bookAt_f_J3 v23 m24 m25 = some q8 := H
    unfold portal_bookAt_f_J3 at H
    refine awp_plain hN rfl ?_
    refine seq_run0 (stp_add rfl rfl (by omega)) ?_
    refine qd rfl ?_
    exact ⟨_, backl H, ⟨rfl, rfl, rfl, rfl, rfl, rfl, rfl, trivial⟩, ⟨rfl, rfl, rfl, rfl, rfl, trivial⟩⟩
 ·rintro ⟨v26, m27, m28⟩ H
  replace H : portal_bookAt_f_J1 v26 m27 m28 = some r := H
  unfold portal_bookAt_f_J1 at H
  refine awp_seq ?_
  refine awp_plain hN rfl ?_
  refine seq_run0 (stp_move (.ptr _ _) rfl) ?_
  refine seq_run0 (stp_move (.row _ _) rfl) ?_
  refine seq_run0 (stp_assign (.ptr _ _) rfl) ?_
  refine seq_run0 (stp_assign (.row _ _) rfl) ?_
  refine awp_fzMB 4 0 2 mpG_of rfl rfl rfl ?_
  refine awp_fzMB 4 1 3 mpG_of rfl rfl rfl ?_
  refine awp_frzB 4 [vmpG MT_portal_pair_api_Sub m28, vmpG MT_portal_pair_int m27] rfl rfl ?_
  refine awp_ret ?_
  cases H
  exact ⟨trivial, .inl rfl, t_slotv rfl rfl, trivial⟩
theorem k_portal_Refused (c1 : S_api_Catalog) (apps2 : (List S_api_App)) (l3 : (List S_api_Event)) (r : ((List Int) × Int)) (H : m_portal_Refused c1 apps2 l3 = some r) : Fn Tryz.prog 11 [vagg (C_api_Catalog c1), vlst (List.map C_api_App apps2), vlst (List.map C_api_Event l3)] (resOf [vlst (List.map C_int r.1), vint r.2]) := by
 refine ⟨by kernel_rfl, pure_of (us := [vlst (List.map C_int r.1), vint r.2]) Tryz.func11 rfl rfl rfl rfl fun X hN => ?_⟩
 unfold m_portal_Refused at H
 refine awp_seq ?_
 refine awp_plain hN rfl ?_
 refine seq_run2 (stp_boxA 1 rfl) rfl ?_
 refine qe rfl ?_
 refine qe rfl ?_
 refine awp_seq ?_
 refine awp_seq ?_
 refine awp_plain hN rfl ?_
 refine seq_run1 (stp_loadA tyS29 rfl rfl rfl) rfl ?_
 refine qd rfl ?_
 refine qd rfl ?_
 obtain ⟨r4, h5, H⟩ := bnd H
 refine seq_run0 (stp_call (k_portal_CheckEvents c1 apps2 l3 r4 h5) ⟨.inl rfl, .inl rfl, .inl rfl, trivial⟩) ?_
 refine qe rfl ?_
 refine awp_seq ?_
 refine awp_plain hN rfl ?_
 refine qd rfl ?_
 refine seq_run0 (stp_neq rfl rfl) ?_
 refine awp_cond _ rfl (fun h6 => ?_) (fun h6 => ?_)
 ·replace H := ift h6 H
  refine awp_seq ?_
  refine awp_plain hN rfl ?_
  refine qd rfl ?_
  refine qe rfl ?_
  refine qe rfl ?_
  refine awp_ret ?_
  cases H
  exact ⟨trivial, .inr ⟨rfl, rfl⟩, .inl rfl, trivial⟩
 ·replace H := iff_ h6 H
  refine awp_skip ?_
  refine awp_seq ?_
  refine awp_plain hN rfl ?_
  refine seq_run1 (stp_loadA tyS29 rfl rfl rfl) rfl ?_
  refine qd rfl ?_
  obtain ⟨r7, h8, H⟩ := bnd H
  refine seq_run0 (stp_call (k_portal_bookAt_f c1 l3 345686400000 r7 h8) ⟨.inl rfl, .inl rfl, .inl rfl, trivial⟩) ?_
  refine qd rfl ?_
  refine seq_run0 (stp_ext rfl rfl) ?_
  refine seq_run0 (stp_ext rfl rfl) ?_
  refine qe rfl ?_
  refine qe rfl ?_
  refine awp_seq ?_
  refine awp_plain hN rfl ?_
  refine qd rfl ?_
  refine qe rfl ?_
  refine qe rfl ?_
  refine awp_ret ?_
  cases H
  exact ⟨trivial, .inl rfl, .inl rfl, trivial⟩
theorem k_gatelaw2_errs (l1 : (List Int)) (r : (Int)) (H : m_gatelaw2_errs l1 = some r) : Fn Tryz.prog 15 [vlst (List.map C_api_Errno l1)] (resOf [vint r]) := by
 refine ⟨by kernel_rfl, pure_of (us := [vint r]) Tryz.func15 rfl rfl rfl rfl fun X hN => ?_⟩
 unfold m_gatelaw2_errs at H
 refine awp_seq ?_
 refine awp_plain hN rfl ?_
 refine qe rfl ?_
 refine awp_seq ?_
 refine awp_seq ?_
 refine awp_plain hN rfl ?_
 refine qd rfl ?_
 refine seq_run0 (t_len tyU83 rfl) ?_
 refine qd rfl ?_
 refine awp_block ?_
 obtain ⟨h4, H⟩ := gif H
 refine awp_forL (fun (k2 : Nat) (s : Unit) => [(5, .dat (vlst (List.map C_api_Errno l1))), (6, .dat (vint (l1.length : Int))), (7, .dat (vint (k2 : Int)))]) (fun (k2 : Nat) (s : Unit) => []) () H ⟨rfl, rfl, rfl, trivial⟩ trivial (fun _ _ => rfl) ?_ ?_
 ·rintro ⟨⟩ H
  replace H : gatelaw2_errs_E1 = some r := H
  unfold gatelaw2_errs_E1 at H
  refine awp_seq ?_
  refine awp_plain hN rfl ?_
  refine seq_run0 (stp_lss rfl rfl) ?_
  refine awp_seq ?_
  refine awp_cond _ rfl (fun h => (lt_t h).elim) (fun h => ?_)
  refine awp_exit ?_
  refine awp_seq ?_
  refine awp_plain hN rfl ?_
  refine qe rfl ?_
  refine awp_ret ?_
  cases H
  exact ⟨trivial, .inl rfl, trivial⟩
 ·rintro k2 x5 ⟨⟩ q3 h6 h7 H hq3
  replace H : gatelaw2_errs_L1 k2 x5 = some q3 := H
  unfold gatelaw2_errs_L1 at H
  refine awp_seq ?_
  refine awp_plain hN rfl ?_
  refine seq_run0 (stp_lss rfl rfl) ?_
  refine awp_seq ?_
  refine awp_cond _ rfl (fun h => ?_) (fun h => (lt_f h6 h).elim)
  refine awp_skip ?_
  refine awp_seq ?_
  refine awp_block ?_
  refine awp_seq ?_
  refine awp_plain hN rfl ?_
  refine seq_run0 (t_idx tyE83 (fun _ => rfl) rfl rfl h7) ?_
  refine seq_run0 (stp_loadE1 tyS32 rfl (map_at h7) rfl) ?_
  refine qe rfl ?_
  refine awp_seq ?_
  refine awp_plain hN rfl ?_
  refine qd rfl ?_
  refine seq_run0 (stp_neq rfl rfl) ?_
  refine awp_cond _ rfl (fun h8 => ?_) (fun h8 => ?_)
  ·replace H := ift h8 H
   refine awp_seq ?_
   refine awp_plain hN rfl ?_
   refine qd rfl ?_
   refine qe rfl ?_
   refine awp_ret ?_
   replace H := retl H hq3
   cases H
   exact ⟨trivial, .inl rfl, trivial⟩
  ·replace H := iff_ h8 H
   refine awp_skip ?_
   refine awp_plain hN rfl ?_
   refine seq_run0 (stp_add rfl rfl (by omega)) ?_
   refine qd rfl ?_
   exact ⟨_, backl H, ⟨rfl, rfl, rfl, trivial⟩, trivial⟩
theorem k_gateref2_EventsOf (a1 : (List S_api_Event)) (b2 : (List S_api_Event)) (r : ((List S_api_Event) × Int)) (H : m_gateref2_EventsOf a1 b2 = some r) : Fn Tryz.prog 17 [vlst (List.map C_api_Event a1), vlst (List.map C_api_Event b2)] (resOf [vlst (List.map C_api_Event r.1), vint r.2]) := by
 refine ⟨by kernel_rfl, pure_of (us := [vlst (List.map C_api_Event r.1), vint r.2]) Tryz.func17 rfl rfl rfl rfl fun X hN => ?_⟩
 unfold m_gateref2_EventsOf at H
 refine awp_seq ?_
 refine awp_plain hN rfl ?_
 refine qe rfl ?_
 refine qe rfl ?_
 refine awp_seq ?_
 refine awp_plain hN rfl ?_
 refine qd rfl ?_
 refine qd rfl ?_
 refine seq_run0 (stp_dat (u' := vlst (List.map C_L_api_Event [a1, b2])) (stp_lit [[_], [_]] tyL104 ⟨rfl, .inl ⟨_, rfl, rfl, rfl⟩, rfl, rfl, .inl ⟨_, rfl, rfl, rfl⟩, rfl, trivial⟩ rfl rfl) rfl) ?_
 obtain ⟨r3, h4, H⟩ := bnd H
 refine seq_callG (rn [(1, 1)]) [] [(1, _)] (kr_slices_Concat_L_api_Event_api_Event_ [a1, b2] r3 h4) ⟨rfl, trivial⟩ ⟨.inl (.inl rfl), trivial⟩ trivial rfl ?_
 refine seq_run0 (stp_assign (.row _ _) rfl) ?_
 refine awp_seq ?_
 refine awp_plain hN rfl ?_
 refine seq_run0 (stp_move (.row _ _) rfl) ?_
 obtain ⟨r5, h6, H⟩ := bnd H
 obtain ⟨h7, H⟩ := gif H
 refine seq_callG (rn [(0, 1)]) [(0, _, _, some _)] [] (kt_slices_SortStableFunc_L_api_Event_api_Event_ r3 (fun (a0 : S_api_Event) (a1 : S_api_Event) => m_gateref2_EventOrder a0 a1) 32 [] (fun a0 a1 r h => k_gateref2_EventOrder a0 a1 r h) r5 h6) ⟨rfl, trivial⟩ ⟨.inl (.inl rfl), .inr ⟨_, rfl, rfl⟩, trivial⟩ ⟨⟨⟨rfl, rfl, rfl⟩, by simp [stayP, h7]⟩, trivial⟩ rfl ?_
 refine awp_seq ?_
 refine awp_plain hN rfl ?_
 refine seq_run0 (stp_move (.row _ _) rfl) ?_
 obtain ⟨r8, h9, H⟩ := bnd H
 refine seq_callG (rn [(0, 1), (900, 2)]) [(0, _, _, none)] [(900, _)] (ks_slices_Compact_L_api_Event_api_Event_ r5 r8 h9) ⟨rfl, rfl, trivial⟩ ⟨.inl (.inl (congrArg (Slot.row 1) (h7).symm)), trivial⟩ ⟨⟨⟨rfl, rfl, rfl⟩, trivial⟩, trivial⟩ rfl ?_
 refine seq_run0 (stp_assign (.row _ _) rfl) ?_
 refine awp_seq ?_
 refine awp_seq ?_
 refine awp_plain hN rfl ?_
 refine seq_run0 (stp_move (.row _ _) rfl) ?_
 refine seq_run1 (t_lenR tyU31 rfl rfl) rfl ?_
 refine qd rfl ?_
 refine awp_block ?_
 obtain ⟨h12, H⟩ := gif H
 refine awp_rng (fun (k10 : Nat) (s : Unit) => [(6, .row 2 r8.length), (17, .dat (vint (r8.length : Int))), (18, .dat (vint (k10 : Int)))]) (fun (k10 : Nat) (s : Unit) => [(2, .row 40 5 (List.map C_api_Event r8))]) () H ⟨rfl, rfl, rfl, trivial⟩ ⟨rfl, trivial⟩ (fun _ _ => rfl) ?_ ?_
 ·rintro ⟨⟩ H
  replace H : gateref2_EventsOf_E1 r8 = some r := H
  unfold gateref2_EventsOf_E1 at H
  refine awp_seq ?_
  refine awp_plain hN rfl ?_
  refine seq_run0 (stp_lss rfl rfl) ?_
  refine awp_seq ?_
  refine awp_cond _ rfl (fun h => (lt_t h).elim) (fun h => ?_)
  refine awp_exit ?_
  refine awp_seq ?_
  refine awp_seq ?_
  refine awp_plain hN rfl ?_
  refine seq_run0 (stp_move (.row _ _) rfl) ?_
  refine seq_run1 (t_lenR tyU31 rfl rfl) rfl ?_
  refine seq_run0 (stp_gtr rfl rfl) ?_
  refine awp_cond _ rfl (fun h13 => ?_) (fun h13 => ?_)
  ·replace H := ift h13 H
   refine awp_seq ?_
   refine awp_plain hN rfl ?_
   refine qe rfl ?_
   refine qe rfl ?_
   refine awp_ret ?_
   cases H
   exact ⟨trivial, .inr ⟨rfl, rfl⟩, .inl rfl, trivial⟩
  ·replace H := iff_ h13 H
   refine awp_skip ?_
   refine awp_seq ?_
   refine awp_plain hN rfl ?_
   refine seq_run0 (stp_move (.row _ _) rfl) ?_
   refine seq_run0 (stp_assign (.row _ _) rfl) ?_
   refine qe rfl ?_
   refine awp_ret ?_
   cases H
   exact ⟨trivial, t_slotv rfl rfl, .inl rfl, trivial⟩
 ·rintro k10 ⟨⟩ q11 h14 H hq11
  replace H : gateref2_EventsOf_L1 r8 k10 = some q11 := H
  unfold gateref2_EventsOf_L1 at H
  refine awp_seq ?_
  refine awp_plain hN rfl ?_
  refine seq_run0 (stp_lss rfl rfl) ?_
  refine awp_seq ?_
  refine awp_cond _ rfl (fun h => ?_) (fun h => (lt_f h14 h).elim)
  refine awp_skip ?_
  refine awp_seq ?_
  refine awp_block ?_
  refine awp_seq ?_
  refine awp_plain hN rfl ?_
  refine qd rfl ?_
  refine qe rfl ?_
  refine awp_joinE (ι := Bool) (fun i => [(6, .row 2 r8.length), (17, .dat (vint (r8.length : Int))), (18, .dat (vint (k10 : Int))), (35, .dat (vbool i))]) (fun i => [(2, .row 40 5 (List.map C_api_Event r8))]) (fun i => gateref2_EventsOf_J2 i = some q11) (fun i => rfl) ?_ ?_
  ·skip
   refine awp_draw mixed hN rfl rfl ?_
   refine qd rfl ?_
   refine seq_run0 (stp_gtr rfl rfl) ?_
   refine qd rfl ?_
   refine seq_split (j := 2) rfl rfl (fun h15 => ?_) (fun h15 => ?_) rfl
   ·have h16 := un1 h15
    replace H := ift h16 H
    refine seq_g0 rfl rfl h15 (stp_move (.row _ _) rfl) ?_
    refine seq_g0 rfl rfl h15 (stp_move (.dat _) rfl) ?_
    refine seq_g0 rfl rfl h15 (stp_sub rfl rfl (by omega)) ?_
    obtain ⟨x17, h18, H⟩ := bnd H
    refine seq_g1 rfl rfl h15 (t_idxRI tyE31 rfl rfl rfl h18) rfl ?_
    refine seq_g1 rfl rfl h15 (t_loadRA tyS40 rfl rfl (at_some h18).2 rfl) rfl ?_
    refine seq_g0 rfl rfl h15 (stp_move (.row _ _) rfl) ?_
    refine seq_g0 rfl rfl h15 (stp_move (.dat _) rfl) ?_
    obtain ⟨x19, h20, H⟩ := bnd H
    refine seq_g1 rfl rfl h15 (t_idxR tyE31 rfl rfl rfl h20) rfl ?_
    refine seq_g1 rfl rfl h15 (t_loadRA tyS40 rfl rfl h20 rfl) rfl ?_
    obtain ⟨r21, h22, H⟩ := bnd H
    refine seq_g0 rfl rfl h15 (stp_call (k_gateref2_EventOrder x17 x19 r21 h22) ⟨.inl rfl, .inl rfl, trivial⟩) ?_
    refine seq_g0 rfl rfl h15 (stp_eql rfl rfl) ?_
    refine seq_run0 (stp_pick_t rfl (bTT h16) rfl) ?_
    refine ⟨rfl, ?_⟩
    exact ⟨decide (r21 = 0), H, ⟨rfl, rfl, rfl, rfl, trivial⟩, ⟨rfl, trivial⟩⟩
   ·have h23 := un2 h15
    replace H := iff_ h23 H
    refine seq_skip rfl rfl h15 ?_
    refine seq_skip rfl rfl h15 ?_
    refine seq_skip rfl rfl h15 ?_
    refine seq_skip rfl rfl h15 ?_
    refine seq_skip rfl rfl h15 ?_
    refine seq_skip rfl rfl h15 ?_
    refine seq_skip rfl rfl h15 ?_
    refine seq_skip rfl rfl h15 ?_
    refine seq_skip rfl rfl h15 ?_
    refine seq_skip rfl rfl h15 ?_
    refine seq_skip rfl rfl h15 ?_
    refine seq_run0 (stp_pick_f rfl (bFF h23) rfl) ?_
    refine ⟨rfl, ?_⟩
    exact ⟨false, H, ⟨rfl, rfl, rfl, rfl, trivial⟩, ⟨rfl, trivial⟩⟩
  ·rintro v24 H
   replace H : gateref2_EventsOf_J2 v24 = some q11 := H
   unfold gateref2_EventsOf_J2 at H
   refine awp_cond _ rfl (fun h25 => ?_) (fun h25 => ?_)
   ·replace H := ift h25 H
    refine awp_seq ?_
    refine awp_plain hN rfl ?_
    refine qe rfl ?_
    refine qe rfl ?_
    refine awp_ret ?_
    replace H := retl H hq11
    cases H
    exact ⟨trivial, .inr ⟨rfl, rfl⟩, .inl rfl, trivial⟩
   ·replace H := iff_ h25 H
    refine awp_skip ?_
    refine awp_plain hN rfl ?_
    refine seq_run0 (stp_add rfl rfl (by omega)) ?_
    refine qd rfl ?_
    exact ⟨_, backl H, ⟨rfl, rfl, rfl, trivial⟩, ⟨rfl, trivial⟩⟩
theorem kt_slices_Sort_L_int_int_ (l r : List Int) (H : m_slices_Sort_int l = some r) : FnG Tryz.prog 50 [.row 0 l.length] [(0, .rowA undef 3 1 (List.map C_int l))] (.dat (resOf [])) [(0, .rowA undef 3 1 (List.map C_int r))] := by
 obtain ⟨hl, hr⟩ := sort_some H
 refine fnG_turn (Value.int .i64) r l (sort_len H) (by kernel_rfl) (fun _ => rfl) (fun blk cap w hH hb => ?_) (fun h w => ?_)
 ·rw [hr]; exact Tryz.slices_Sort_int blk 0 cap l w hH hb (by omega)
 ·exact Tryz.slices_Sort_int_none none 0 w
theorem k_gateref2_RefusedOf (c1 : S_api_Catalog) (apps2 : (List S_api_App)) (l3 : (List S_api_Event)) (r : ((List Int))) (H : m_gateref2_RefusedOf c1 apps2 l3 = some r) : Fn Tryz.prog 18 [vagg (C_api_Catalog c1), vlst (List.map C_api_App apps2), vlst (List.map C_api_Event l3)] (resOf [vlst (List.map C_int r)]) := by
 refine ⟨by kernel_rfl, pure_of (us := [vlst (List.map C_int r)]) Tryz.func18 rfl rfl rfl rfl fun X hN => ?_⟩
 unfold m_gateref2_RefusedOf at H
 refine awp_seq ?_
 refine awp_plain hN rfl ?_
 refine seq_run2 (stp_boxA 1 rfl) rfl ?_
 refine qe rfl ?_
 refine awp_seq ?_
 refine awp_plain hN rfl ?_
 refine qe rfl ?_
 refine awp_seq ?_
 refine awp_seq ?_
 refine awp_plain hN rfl ?_
 refine qd rfl ?_
 refine seq_run0 (t_len tyU30 rfl) ?_
 refine qd rfl ?_
 refine awp_block ?_
 refine awp_nilrow 7 2 3 1 rfl rfl rfl ?_
 obtain ⟨h7, H⟩ := gif H
 refine awp_forL (fun (k5 : Nat) (s : (List Int)) => [(2, .dat (vlst (List.map C_api_Event l3))), (3, .ptr 1 0), (7, .row 2 s.length), (14, .dat (vlst (List.map C_api_App apps2))), (15, .dat (vint (apps2.length : Int))), (16, .dat (vint (k5 : Int)))]) (fun (k5 : Nat) (s : (List Int)) => [(1, .box none 29 [.dat (vlst (List.map C_api_Product c1.Products)), .dat (vlst (List.map C_api_Plan c1.Plans))]), (2, .row 3 1 (List.map C_int s))]) [] H ⟨rfl, rfl, rfl, rfl, rfl, rfl, trivial⟩ ⟨rfl, rfl, trivial⟩ (fun _ _ => rfl) ?_ ?_
 ·rintro l4 H
  replace H : gateref2_RefusedOf_E1 l4 = some r := H
  unfold gateref2_RefusedOf_E1 at H
  refine awp_seq ?_
  refine awp_plain hN rfl ?_
  refine seq_run0 (stp_lss rfl rfl) ?_
  refine awp_seq ?_
  refine awp_cond _ rfl (fun h => (lt_t h).elim) (fun h => ?_)
  refine awp_exit ?_
  refine awp_seq ?_
  refine awp_plain hN rfl ?_
  refine seq_run0 (stp_move (.row _ _) rfl) ?_
  obtain ⟨r9, h10, H⟩ := bnd H
  refine seq_callG (rn [(0, 2)]) [(0, _, _, some _)] [] (kt_slices_Sort_L_int_int_ l4 r9 h10) ⟨rfl, trivial⟩ ⟨.inl (.inl rfl), trivial⟩ ⟨⟨⟨rfl, rfl, rfl⟩, by simp [stayP, sort_len h10]⟩, trivial⟩ rfl ?_
  refine awp_seq ?_
  refine awp_plain hN rfl ?_
  refine seq_run0 (stp_move (.row _ _) rfl) ?_
  refine seq_run0 (stp_assign (.row _ _) rfl) ?_
  refine awp_ret ?_
  cases H
  exact ⟨trivial, t_slotv rfl (sort_len h10).symm, trivial⟩
 ·rintro k5 x8 l4 q6 h11 h12 H hq6
  replace H : gateref2_RefusedOf_L1 c1 l3 k5 x8 l4 = some q6 := H
  unfold gateref2_RefusedOf_L1 at H
  refine awp_seq ?_
  refine awp_plain hN rfl ?_
  refine seq_run0 (stp_lss rfl rfl) ?_
  refine awp_seq ?_
  refine awp_cond _ rfl (fun h => ?_) (fun h => (lt_f h11 h).elim)
  refine awp_skip ?_
  refine awp_seq ?_
  refine awp_block ?_
  refine awp_seq ?_
  refine awp_plain hN rfl ?_
  refine seq_run0 (t_idx tyE30 (fun _ => rfl) rfl rfl h12) ?_
  refine seq_run0 (stp_loadEA tyS60 rfl (map_at h12) rfl) ?_
  refine seq_run2 (stp_alloc 3 tyZ60 rfl) rfl ?_
  refine seq_run2 (stp_storeW tyS60 rfl rfl rfl rfl) rfl ?_
  refine awp_seq ?_
  refine awp_plain hN rfl ?_
  refine seq_run0 (stp_fldP tyF29_0 rfl) ?_
  refine seq_run1 (stp_load1 tyS26 rfl rfl) rfl ?_
  refine seq_run0 (t_len tyU26 rfl) ?_
  refine qd rfl ?_
  refine awp_block ?_
  obtain ⟨h16, H⟩ := gif H
  refine awp_forL (fun (k14 : Nat) (s : (List Int)) => [(2, .dat (vlst (List.map C_api_Event l3))), (3, .ptr 1 0), (7, .row 2 s.length), (9, .ptr 3 0), (14, .dat (vlst (List.map C_api_App apps2))), (15, .dat (vint (apps2.length : Int))), (16, .dat (vint (k5 : Int))), (21, .dat (vlst (List.map C_api_Product c1.Products))), (22, .dat (vint (c1.Products.length : Int))), (23, .dat (vint (k14 : Int)))]) (fun (k14 : Nat) (s : (List Int)) => [(1, .box none 29 [.dat (vlst (List.map C_api_Product c1.Products)), .dat (vlst (List.map C_api_Plan c1.Plans))]), (2, .row 3 1 (List.map C_int s)), (3, .box none 60 [.dat (vstr x8.Key), .dat (vstr x8.Owner)])]) l4 H ⟨rfl, rfl, rfl, rfl, rfl, rfl, rfl, rfl, rfl, rfl, trivial⟩ ⟨rfl, rfl, rfl, trivial⟩ (fun _ _ => rfl) ?_ ?_
  ·rintro l13 H
   replace H : gateref2_RefusedOf_E2 l13 = some q6 := H
   unfold gateref2_RefusedOf_E2 at H
   refine awp_seq ?_
   refine awp_plain hN rfl ?_
   refine seq_run0 (stp_lss rfl rfl) ?_
   refine awp_seq ?_
   refine awp_cond _ rfl (fun h => (lt_t h).elim) (fun h => ?_)
   refine awp_exit ?_
   refine awp_plain hN rfl ?_
   refine seq_run0 (stp_add rfl rfl (by omega)) ?_
   refine qd rfl ?_
   exact ⟨_, backl H, ⟨rfl, rfl, rfl, rfl, rfl, rfl, trivial⟩, ⟨rfl, rfl, trivial⟩⟩
  ·rintro k14 x17 l13 q15 h18 h19 H hq15
   replace H : gateref2_RefusedOf_L2 c1 l3 x8 k14 x17 l13 = some q15 := H
   unfold gateref2_RefusedOf_L2 at H
   refine awp_seq ?_
   refine awp_plain hN rfl ?_
   refine seq_run0 (stp_lss rfl rfl) ?_
   refine awp_seq ?_
   refine awp_cond _ rfl (fun h => ?_) (fun h => (lt_f h18 h).elim)
   refine awp_skip ?_
   refine awp_seq ?_
   refine awp_block ?_
   refine awp_seq ?_
   refine awp_plain hN rfl ?_
   refine seq_run0 (t_idx tyE26 (fun _ => rfl) rfl rfl h19) ?_
   refine seq_run0 (stp_loadEA tyS89 rfl (map_at h19) rfl) ?_
   refine seq_run2 (stp_alloc 4 tyZ89 rfl) rfl ?_
   refine seq_run2 (stp_storeW tyS89 rfl rfl rfl rfl) rfl ?_
   refine awp_seq ?_
   refine awp_plain hN rfl ?_
   refine seq_run1 (stp_loadA tyS29 rfl rfl rfl) rfl ?_
   refine qd rfl ?_
   refine seq_run0 (stp_fldP tyF60_0 rfl) ?_
   refine seq_run1 (stp_load1 tyS9 rfl rfl) rfl ?_
   refine seq_run0 (stp_fldP tyF89_0 rfl) ?_
   refine seq_run1 (stp_load1 tyS9 rfl rfl) rfl ?_
   obtain ⟨r20, h21, H⟩ := bnd H
   refine seq_run0 (stp_call (k_gateref2_Stages c1 l3 x8.Key x17.Key r20 h21) ⟨.inl rfl, .inl rfl, .inl rfl, .inl rfl, trivial⟩) ?_
   refine qd rfl ?_
   refine seq_run0 (stp_ext rfl rfl) ?_
   refine seq_run0 (stp_ext rfl rfl) ?_
   refine qe rfl ?_
   refine qe rfl ?_
   refine awp_plain hN rfl ?_
   refine seq_run0 (stp_move (.row _ _) rfl) ?_
   refine qd rfl ?_
   obtain ⟨h22, H⟩ := gif H
   refine seq_run2 (t_app2 tyL22 (fun _ => rfl) rfl rfl rfl h22 rfl) rfl ?_
   refine seq_run0 (stp_assign (.row _ _) rfl) ?_
   refine awp_plain hN rfl ?_
   refine seq_run0 (stp_add rfl rfl (by omega)) ?_
   refine qd rfl ?_
   exact ⟨_, backl H, ⟨rfl, rfl, rfl, rfl, rfl, rfl, rfl, rfl, rfl, rfl, trivial⟩, ⟨rfl, rfl, rfl, trivial⟩⟩
end Go.Proofs.YtaolapgdgdmapaaGreatDoor
