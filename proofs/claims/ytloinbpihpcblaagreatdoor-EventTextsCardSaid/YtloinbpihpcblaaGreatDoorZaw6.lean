/- Walks along the models. Printed by a program. -/
import Derived.Test.YtloinbpihpcblaaGreatDoorZaw5
namespace Go.Proofs.YtloinbpihpcblaaGreatDoor
open Go.RowKit
set_option linter.unusedVariables false
set_option maxRecDepth 20000
set_option maxHeartbeats 2000000
theorem k_portal_tiersFault (l1 : (List S_api_Tier)) (r : (Int)) (H : m_portal_tiersFault l1 = some r) : Fn Tryz.prog 132 [vlst (List.map C_api_Tier l1)] (resOf [vint r]) := by
 refine ⟨by kernel_rfl, pure_of (us := [vint r]) Tryz.func132 rfl rfl rfl rfl fun X hN => ?_⟩
 unfold m_portal_tiersFault at H
 refine awp_seq ?_
 refine awp_plain hN rfl ?_
 refine qe rfl ?_
 refine awp_seq ?_
 refine awp_seq ?_
 refine awp_plain hN rfl ?_
 refine qd rfl ?_
 refine seq_run0 (t_len tyU56 rfl) ?_
 refine seq_run0 (stp_gtr rfl rfl) ?_
 refine awp_cond _ rfl (fun h2 => ?_) (fun h2 => ?_)
 ·replace H := ift h2 H
  refine awp_seq ?_
  refine awp_plain hN rfl ?_
  refine qe rfl ?_
  refine awp_ret ?_
  cases H
  exact ⟨trivial, .inl rfl, trivial⟩
 ·replace H := iff_ h2 H
  refine awp_skip ?_
  refine awp_seq ?_
  refine awp_seq ?_
  refine awp_plain hN rfl ?_
  refine qd rfl ?_
  refine seq_run0 (t_len tyU56 rfl) ?_
  refine qd rfl ?_
  refine awp_block ?_
  obtain ⟨h5, H⟩ := gif H
  refine awp_forL (fun (k3 : Nat) (s : Unit) => [(0, .dat (vlst (List.map C_api_Tier l1))), (8, .dat (vlst (List.map C_api_Tier l1))), (9, .dat (vint (l1.length : Int))), (10, .dat (vint (k3 : Int)))]) (fun (k3 : Nat) (s : Unit) => []) () H ⟨rfl, rfl, rfl, rfl, trivial⟩ trivial (fun _ _ => rfl) ?_ ?_
  ·rintro ⟨⟩ H
   replace H : portal_tiersFault_E1 l1 = some r := H
   unfold portal_tiersFault_E1 at H
   refine awp_seq ?_
   refine awp_plain hN rfl ?_
   refine seq_run0 (stp_lss rfl rfl) ?_
   refine awp_seq ?_
   refine awp_cond _ rfl (fun h => (lt_t h).elim) (fun h => ?_)
   refine awp_exit ?_
   refine awp_seq ?_
   refine awp_joinE (ι := Bool) (fun i => [(46, .dat (vbool i))]) (fun i => []) (fun i => portal_tiersFault_J2 i = some r) (fun i => rfl) ?_ ?_
   ·skip
    refine awp_plain hN rfl ?_
    refine qd rfl ?_
    refine seq_run0 (t_len tyU56 rfl) ?_
    refine seq_run0 (stp_gtr rfl rfl) ?_
    refine qd rfl ?_
    refine seq_split (j := 3) rfl rfl (fun h7 => ?_) (fun h7 => ?_) rfl
    ·have h8 := un1 h7
     replace H := ift h8 H
     refine seq_g0 rfl rfl h7 (stp_move (.dat _) rfl) ?_
     obtain ⟨x9, h10, H⟩ := bnd H
     refine seq_g0 rfl rfl h7 (t_idx tyE56 (fun _ => rfl) rfl rfl h10) ?_
     refine seq_g0 rfl rfl h7 (stp_fldE tyF71_0 rfl) ?_
     refine seq_g0 rfl rfl h7 (stp_loadE1 tyS3 rfl (map_at h10) rfl) ?_
     refine seq_g0 rfl rfl h7 (stp_neq rfl rfl) ?_
     refine seq_run0 (stp_pick_t rfl (bTT h8) rfl) ?_
     exact ⟨decide (x9.From ≠ 1), H, ⟨rfl, trivial⟩, trivial⟩
    ·have h11 := un2 h7
     replace H := iff_ h11 H
     refine seq_skip rfl rfl h7 ?_
     refine seq_skip rfl rfl h7 ?_
     refine seq_skip rfl rfl h7 ?_
     refine seq_skip rfl rfl h7 ?_
     refine seq_skip rfl rfl h7 ?_
     refine seq_run0 (stp_pick_f rfl (bFF h11) rfl) ?_
     exact ⟨false, H, ⟨rfl, trivial⟩, trivial⟩
   ·rintro v12 H
    replace H : portal_tiersFault_J2 v12 = some r := H
    unfold portal_tiersFault_J2 at H
    refine awp_cond _ rfl (fun h13 => ?_) (fun h13 => ?_)
    ·replace H := ift h13 H
     refine awp_seq ?_
     refine awp_plain hN rfl ?_
     refine qe rfl ?_
     refine awp_ret ?_
     cases H
     exact ⟨trivial, .inl rfl, trivial⟩
    ·replace H := iff_ h13 H
     refine awp_skip ?_
     refine awp_seq ?_
     refine awp_plain hN rfl ?_
     refine qe rfl ?_
     refine awp_ret ?_
     cases H
     exact ⟨trivial, .inl rfl, trivial⟩
  ·rintro k3 x6 ⟨⟩ q4 h14 h15 H hq4
   replace H : portal_tiersFault_L1 l1 k3 x6 = some q4 := H
   unfold portal_tiersFault_L1 at H
   refine awp_seq ?_
   refine awp_plain hN rfl ?_
   refine seq_run0 (stp_lss rfl rfl) ?_
   refine awp_seq ?_
   refine awp_cond _ rfl (fun h => ?_) (fun h => (lt_f h14 h).elim)
   refine awp_skip ?_
   refine awp_seq ?_
   refine awp_block ?_
   refine awp_seq ?_
   refine awp_plain hN rfl ?_
   refine qd rfl ?_
   refine seq_run0 (t_idx tyE56 (fun _ => rfl) rfl rfl h15) ?_
   refine seq_run0 (stp_loadEA tyS71 rfl (map_at h15) rfl) ?_
   refine seq_run2 (stp_alloc 1 tyZ71 rfl) rfl ?_
   refine qe rfl ?_
   refine seq_run2 (stp_storeW tyS71 rfl rfl rfl rfl) rfl ?_
   refine awp_seq ?_
   refine awp_joinE (ι := Bool) (fun i => [(0, .dat (vlst (List.map C_api_Tier l1))), (3, .dat (vint (k3 : Int))), (4, .ptr 1 0), (8, .dat (vlst (List.map C_api_Tier l1))), (9, .dat (vint (l1.length : Int))), (10, .dat (vint (k3 : Int))), (22, .dat (vbool i))]) (fun i => [(1, .box none 71 [.dat (vint x6.From), .dat (vint x6.Cents)])]) (fun i => portal_tiersFault_J3 l1 k3 x6 i = some q4) (fun i => rfl) ?_ ?_
   ·skip
    refine awp_plain hN rfl ?_
    refine seq_run0 (stp_fldP tyF71_0 rfl) ?_
    refine seq_run1 (stp_load1 tyS3 rfl rfl) rfl ?_
    obtain ⟨r16, h17, H⟩ := bnd H
    refine seq_run0 (stp_call (k_kit_Outside x6.From 1 1000000000000 r16 h17) ⟨.inl rfl, .inl rfl, .inl rfl, trivial⟩) ?_
    refine qd rfl ?_
    refine seq_split (j := 3) rfl rfl (fun h18 => ?_) (fun h18 => ?_) rfl
    ·have h19 := un3 h18
     replace H := iff_ h19 H
     refine seq_g0 rfl rfl h18 (stp_fldP tyF71_1 rfl) ?_
     refine seq_g1 rfl rfl h18 (stp_load1 tyS3 rfl rfl) rfl ?_
     obtain ⟨r20, h21, H⟩ := bnd H
     refine seq_g0 rfl rfl h18 (stp_call (k_kit_Outside x6.Cents 0 1000000 r20 h21) ⟨.inl rfl, .inl rfl, .inl rfl, trivial⟩) ?_
     refine seq_run0 (stp_pick_f rfl (bFF h19) rfl) ?_
     exact ⟨r20, H, ⟨rfl, rfl, rfl, rfl, rfl, rfl, rfl, trivial⟩, ⟨rfl, trivial⟩⟩
    ·have h22 := un4 h18
     replace H := ift h22 H
     refine seq_skip rfl rfl h18 ?_
     refine seq_skip rfl rfl h18 ?_
     refine seq_skip rfl rfl h18 ?_
     refine seq_run0 (stp_pick_t rfl (bTT h22) rfl) ?_
     exact ⟨true, H, ⟨rfl, rfl, rfl, rfl, rfl, rfl, rfl, trivial⟩, ⟨rfl, trivial⟩⟩
   ·rintro v23 H
    replace H : portal_tiersFault_J3 l1 k3 x6 v23 = some q4 := H
    unfold portal_tiersFault_J3 at H
    refine awp_cond _ rfl (fun h24 => ?_) (fun h24 => ?_)
    ·replace H := ift h24 H
     refine awp_seq ?_
     refine awp_plain hN rfl ?_
     refine qe rfl ?_
     refine awp_ret ?_
     replace H := retl H hq4
     cases H
     exact ⟨trivial, .inl rfl, trivial⟩
    ·replace H := iff_ h24 H
     refine awp_skip ?_
     refine awp_joinE (ι := Bool) (fun i => [(0, .dat (vlst (List.map C_api_Tier l1))), (8, .dat (vlst (List.map C_api_Tier l1))), (9, .dat (vint (l1.length : Int))), (10, .dat (vint (k3 : Int))), (35, .dat (vbool i))]) (fun i => []) (fun i => portal_tiersFault_J4 i = some q4) (fun i => rfl) ?_ ?_
     ·skip
      refine awp_draw mixed hN rfl rfl ?_
      refine qd rfl ?_
      refine seq_run0 (stp_gtr rfl rfl) ?_
      refine qd rfl ?_
      refine seq_split (j := 2) rfl rfl (fun h25 => ?_) (fun h25 => ?_) rfl
      ·have h26 := un1 h25
       replace H := ift h26 H
       refine seq_g0 rfl rfl h25 (stp_fldP tyF71_0 rfl) ?_
       refine seq_g1 rfl rfl h25 (stp_load1 tyS3 rfl rfl) rfl ?_
       refine seq_g0 rfl rfl h25 (stp_move (.dat _) rfl) ?_
       refine seq_g0 rfl rfl h25 (stp_move (.dat _) rfl) ?_
       refine seq_g0 rfl rfl h25 (stp_sub rfl rfl (by omega)) ?_
       obtain ⟨x27, h28, H⟩ := bnd H
       refine seq_g0 rfl rfl h25 (t_idxI tyE56 (fun _ => rfl) rfl rfl h28) ?_
       refine seq_g0 rfl rfl h25 (stp_fldE tyF71_0 rfl) ?_
       refine seq_g0 rfl rfl h25 (stp_loadE1 tyS3 rfl (map_at (at_some h28).2) rfl) ?_
       refine seq_g0 rfl rfl h25 (stp_leq rfl rfl) ?_
       refine seq_run0 (stp_pick_t rfl (bTT h26) rfl) ?_
       refine ⟨rfl, ?_⟩
       exact ⟨decide (x6.From ≤ x27.From), H, ⟨rfl, rfl, rfl, rfl, rfl, trivial⟩, trivial⟩
      ·have h29 := un2 h25
       replace H := iff_ h29 H
       refine seq_skip rfl rfl h25 ?_
       refine seq_skip rfl rfl h25 ?_
       refine seq_skip rfl rfl h25 ?_
       refine seq_skip rfl rfl h25 ?_
       refine seq_skip rfl rfl h25 ?_
       refine seq_skip rfl rfl h25 ?_
       refine seq_skip rfl rfl h25 ?_
       refine seq_skip rfl rfl h25 ?_
       refine seq_skip rfl rfl h25 ?_
       refine seq_run0 (stp_pick_f rfl (bFF h29) rfl) ?_
       refine ⟨rfl, ?_⟩
       exact ⟨false, H, ⟨rfl, rfl, rfl, rfl, rfl, trivial⟩, trivial⟩
     ·rintro v30 H
      replace H : portal_tiersFault_J4 v30 = some q4 := H
      unfold portal_tiersFault_J4 at H
      refine awp_cond _ rfl (fun h31 => ?_) (fun h31 => ?_)
      ·replace H := ift h31 H
       refine awp_seq ?_
       refine awp_plain hN rfl ?_
       refine qe rfl ?_
       refine awp_ret ?_
       replace H := retl H hq4
       cases H
       exact ⟨trivial, .inl rfl, trivial⟩
      ·replace H := iff_ h31 H
       refine awp_skip ?_
       refine awp_plain hN rfl ?_
       refine seq_run0 (stp_add rfl rfl (by omega)) ?_
       refine qd rfl ?_
       exact ⟨_, backl H, ⟨rfl, rfl, rfl, rfl, trivial⟩, trivial⟩
theorem k_portal_planFault (v1 : S_api_Catalog) (v2 : Int) (r : (Int)) (H : m_portal_planFault v1 v2 = some r) : Fn Tryz.prog 98 [vagg (C_api_Catalog v1), vint v2] (resOf [vint r]) := by
 refine ⟨by kernel_rfl, pure_of (us := [vint r]) Tryz.func98 rfl rfl rfl rfl fun X hN => ?_⟩
 unfold m_portal_planFault at H
 refine awp_seq ?_
 refine awp_plain hN rfl ?_
 refine seq_run2 (stp_boxA 1 rfl) rfl ?_
 refine qe rfl ?_
 refine awp_seq ?_
 refine awp_plain hN rfl ?_
 refine seq_run0 (stp_fldP tyF31_1 rfl) ?_
 refine seq_run1 (stp_load1 tyS29 rfl rfl) rfl ?_
 refine qd rfl ?_
 obtain ⟨x3, h4, H⟩ := bnd H
 refine seq_run0 (t_idxI tyE29 (fun _ => rfl) rfl rfl h4) ?_
 refine seq_run0 (stp_loadEA tyS58 rfl (map_at (at_some h4).2) rfl) ?_
 refine seq_run2 (stp_alloc 2 tyZ58 rfl) rfl ?_
 refine seq_run2 (stp_storeW tyS58 rfl rfl rfl rfl) rfl ?_
 refine awp_seq ?_
 refine awp_block ?_
 refine awp_seq ?_
 refine awp_plain hN rfl ?_
 refine seq_run0 (stp_fldP tyF58_0 rfl) ?_
 refine seq_run1 (stp_load1 tyS9 rfl rfl) rfl ?_
 obtain ⟨r5, h6, H⟩ := bnd H
 refine seq_run0 (stp_call (k_kit_IsKey x3.Key r5 h6) ⟨.inl rfl, trivial⟩) ?_
 refine seq_run0 (stp_not rfl) ?_
 refine qe rfl ?_
 refine awp_cond _ rfl (fun h7 => ?_) (fun h7 => ?_)
 ·replace H := ift h7 H
  refine awp_seq ?_
  refine awp_plain hN rfl ?_
  refine qe rfl ?_
  refine awp_ret ?_
  cases H
  exact ⟨trivial, .inl rfl, trivial⟩
 ·replace H := iff_ h7 H
  refine awp_joinE (ι := Bool) (fun i => [(2, .ptr 1 0), (5, .ptr 2 0), (19, .dat (vbool i))]) (fun i => [(1, .box none 31 [.dat (vlst (List.map C_api_Product v1.Products)), .dat (vlst (List.map C_api_Plan v1.Plans))]), (2, .box none 58 [.dat (vstr x3.Key), .dat (vstr x3.Product), .dat (vint x3.Base), .dat (vint x3.Free), .dat (vlst (List.map C_api_Tier x3.Tiers)), .dat (vint x3.Limit), .dat (vint x3.Trial), .dat (vbool x3.Asked)])]) (fun i => portal_planFault_J1 v1 x3 i = some r) (fun i => rfl) ?_ ?_
  ·skip
   refine awp_draw mixed hN rfl rfl ?_
   refine qd rfl ?_
   refine seq_run0 (stp_gtr rfl rfl) ?_
   refine qd rfl ?_
   refine seq_split (j := 2) rfl rfl (fun h8 => ?_) (fun h8 => ?_) rfl
   ·have h9 := un1 h8
    replace H := ift h9 H
    refine seq_g0 rfl rfl h8 (stp_fldP tyF58_0 rfl) ?_
    refine seq_g1 rfl rfl h8 (stp_load1 tyS9 rfl rfl) rfl ?_
    refine seq_g0 rfl rfl h8 (stp_fldP tyF31_1 rfl) ?_
    refine seq_g1 rfl rfl h8 (stp_load1 tyS29 rfl rfl) rfl ?_
    refine seq_g0 rfl rfl h8 (stp_move (.dat _) rfl) ?_
    refine seq_g0 rfl rfl h8 (stp_wrap _ rfl rfl (.inr (.inl ⟨rfl, rfl⟩))) ?_
    obtain ⟨x10, h11, H⟩ := bnd H
    refine seq_g0 rfl rfl h8 (t_idxI tyE29 (fun _ => rfl) rfl rfl h11) ?_
    refine seq_g0 rfl rfl h8 (stp_fldE tyF58_0 rfl) ?_
    refine seq_g0 rfl rfl h8 (stp_loadE1 tyS9 rfl (map_at (at_some h11).2) rfl) ?_
    refine seq_g0 rfl rfl h8 (stp_sleq rfl rfl) ?_
    refine seq_run0 (stp_pick_t rfl (bTT h9) rfl) ?_
    refine qe rfl ?_
    refine ⟨rfl, ?_⟩
    exact ⟨(Op.bytesLess x3.Key x10.Key || x3.Key == x10.Key), H, ⟨rfl, rfl, rfl, trivial⟩, ⟨rfl, rfl, trivial⟩⟩
   ·have h12 := un2 h8
    replace H := iff_ h12 H
    refine seq_skip rfl rfl h8 ?_
    refine seq_skip rfl rfl h8 ?_
    refine seq_skip rfl rfl h8 ?_
    refine seq_skip rfl rfl h8 ?_
    refine seq_skip rfl rfl h8 ?_
    refine seq_skip rfl rfl h8 ?_
    refine seq_skip rfl rfl h8 ?_
    refine seq_skip rfl rfl h8 ?_
    refine seq_skip rfl rfl h8 ?_
    refine seq_skip rfl rfl h8 ?_
    refine seq_run0 (stp_pick_f rfl (bFF h12) rfl) ?_
    refine qe rfl ?_
    refine ⟨rfl, ?_⟩
    exact ⟨false, H, ⟨rfl, rfl, rfl, trivial⟩, ⟨rfl, rfl, trivial⟩⟩
  ·rintro v13 H
   replace H : portal_planFault_J1 v1 x3 v13 = some r := H
   unfold portal_planFault_J1 at H
   refine awp_cond _ rfl (fun h14 => ?_) (fun h14 => ?_)
   ·replace H := ift h14 H
    refine awp_seq ?_
    refine awp_plain hN rfl ?_
    refine qe rfl ?_
    refine awp_ret ?_
    cases H
    exact ⟨trivial, .inl rfl, trivial⟩
   ·replace H := iff_ h14 H
    refine awp_skip ?_
    refine awp_seq ?_
    refine awp_seq ?_
    refine awp_plain hN rfl ?_
    refine seq_run1 (stp_loadA tyS31 rfl rfl rfl) rfl ?_
    refine seq_run0 (stp_fldP tyF58_1 rfl) ?_
    refine seq_run1 (stp_load1 tyS9 rfl rfl) rfl ?_
    obtain ⟨r15, h16, H⟩ := bnd H
    refine seq_run0 (stp_call (k_portal_productAt v1 x3.Product r15 h16) ⟨.inl rfl, .inl rfl, trivial⟩) ?_
    refine qd rfl ?_
    refine seq_run0 (stp_ext rfl rfl) ?_
    refine seq_run0 (stp_ext rfl rfl) ?_
    refine qe rfl ?_
    refine qe rfl ?_
    refine awp_seq ?_
    refine awp_plain hN rfl ?_
    refine qd rfl ?_
    refine seq_run0 (stp_not rfl) ?_
    refine awp_cond _ rfl (fun h17 => ?_) (fun h17 => ?_)
    ·replace H := ift h17 H
     refine awp_seq ?_
     refine awp_plain hN rfl ?_
     refine qe rfl ?_
     refine awp_ret ?_
     cases H
     exact ⟨trivial, .inl rfl, trivial⟩
    ·replace H := iff_ h17 H
     refine awp_skip ?_
     refine awp_seq ?_
     refine awp_joinE (ι := Bool) (fun i => [(5, .ptr 2 0), (50, .dat (vbool i))]) (fun i => [(2, .box none 58 [.dat (vstr x3.Key), .dat (vstr x3.Product), .dat (vint x3.Base), .dat (vint x3.Free), .dat (vlst (List.map C_api_Tier x3.Tiers)), .dat (vint x3.Limit), .dat (vint x3.Trial), .dat (vbool x3.Asked)])]) (fun i => portal_planFault_J2 x3 i = some r) (fun i => rfl) ?_ ?_
     ·skip
      refine awp_plain hN rfl ?_
      refine seq_run0 (stp_fldP tyF58_2 rfl) ?_
      refine seq_run1 (stp_load1 tyS3 rfl rfl) rfl ?_
      obtain ⟨r18, h19, H⟩ := bnd H
      refine seq_run0 (stp_call (k_kit_Outside x3.Base 0 1000000000000 r18 h19) ⟨.inl rfl, .inl rfl, .inl rfl, trivial⟩) ?_
      refine qd rfl ?_
      refine seq_split (j := 3) rfl rfl (fun h20 => ?_) (fun h20 => ?_) rfl
      ·have h21 := un3 h20
       replace H := iff_ h21 H
       refine seq_g0 rfl rfl h20 (stp_fldP tyF58_3 rfl) ?_
       refine seq_g1 rfl rfl h20 (stp_load1 tyS3 rfl rfl) rfl ?_
       obtain ⟨r22, h23, H⟩ := bnd H
       refine seq_g0 rfl rfl h20 (stp_call (k_kit_Outside x3.Free 0 1000000000000 r22 h23) ⟨.inl rfl, .inl rfl, .inl rfl, trivial⟩) ?_
       refine seq_run0 (stp_pick_f rfl (bFF h21) rfl) ?_
       exact ⟨r22, H, ⟨rfl, rfl, trivial⟩, ⟨rfl, trivial⟩⟩
      ·have h24 := un4 h20
       replace H := ift h24 H
       refine seq_skip rfl rfl h20 ?_
       refine seq_skip rfl rfl h20 ?_
       refine seq_skip rfl rfl h20 ?_
       refine seq_run0 (stp_pick_t rfl (bTT h24) rfl) ?_
       exact ⟨true, H, ⟨rfl, rfl, trivial⟩, ⟨rfl, trivial⟩⟩
     ·rintro v25 H
      replace H : portal_planFault_J2 x3 v25 = some r := H
      unfold portal_planFault_J2 at H
      refine awp_cond _ rfl (fun h26 => ?_) (fun h26 => ?_)
      ·replace H := ift h26 H
       refine awp_seq ?_
       refine awp_plain hN rfl ?_
       refine qe rfl ?_
       refine awp_ret ?_
       cases H
       exact ⟨trivial, .inl rfl, trivial⟩
      ·replace H := iff_ h26 H
       refine awp_skip ?_
       refine awp_seq ?_
       refine awp_seq ?_
       refine awp_plain hN rfl ?_
       refine seq_run0 (stp_fldP tyF58_4 rfl) ?_
       refine seq_run1 (stp_load1 tyS56 rfl rfl) rfl ?_
       obtain ⟨r27, h28, H⟩ := bnd H
       refine seq_run0 (stp_call (k_portal_tiersFault x3.Tiers r27 h28) ⟨.inl rfl, trivial⟩) ?_
       refine qe rfl ?_
       refine awp_seq ?_
       refine awp_plain hN rfl ?_
       refine qd rfl ?_
       refine seq_run0 (stp_neq rfl rfl) ?_
       refine awp_cond _ rfl (fun h29 => ?_) (fun h29 => ?_)
       ·replace H := ift h29 H
        refine awp_seq ?_
        refine awp_plain hN rfl ?_
        refine qd rfl ?_
        refine qe rfl ?_
        refine awp_ret ?_
        cases H
        exact ⟨trivial, .inl rfl, trivial⟩
       ·replace H := iff_ h29 H
        refine awp_skip ?_
        refine awp_seq ?_
        refine awp_joinE (ι := Bool) (fun i => [(64, .dat (vbool i))]) (fun i => []) (fun i => portal_planFault_J3 i = some r) (fun i => rfl) ?_ ?_
        ·skip
         refine awp_plain hN rfl ?_
         refine seq_run0 (stp_fldP tyF58_5 rfl) ?_
         refine seq_run1 (stp_load1 tyS3 rfl rfl) rfl ?_
         obtain ⟨r30, h31, H⟩ := bnd H
         refine seq_run0 (stp_call (k_kit_Outside x3.Limit (-1) 1000000000000 r30 h31) ⟨.inl rfl, .inl rfl, .inl rfl, trivial⟩) ?_
         refine qd rfl ?_
         refine seq_split (j := 3) rfl rfl (fun h32 => ?_) (fun h32 => ?_) rfl
         ·have h33 := un3 h32
          replace H := iff_ h33 H
          refine seq_g0 rfl rfl h32 (stp_fldP tyF58_6 rfl) ?_
          refine seq_g1 rfl rfl h32 (stp_load1 tyS3 rfl rfl) rfl ?_
          obtain ⟨r34, h35, H⟩ := bnd H
          refine seq_g0 rfl rfl h32 (stp_call (k_kit_Outside x3.Trial 0 132 r34 h35) ⟨.inl rfl, .inl rfl, .inl rfl, trivial⟩) ?_
          refine seq_run0 (stp_pick_f rfl (bFF h33) rfl) ?_
          exact ⟨r34, H, ⟨rfl, trivial⟩, trivial⟩
         ·have h36 := un4 h32
          replace H := ift h36 H
          refine seq_skip rfl rfl h32 ?_
          refine seq_skip rfl rfl h32 ?_
          refine seq_skip rfl rfl h32 ?_
          refine seq_run0 (stp_pick_t rfl (bTT h36) rfl) ?_
          exact ⟨true, H, ⟨rfl, trivial⟩, trivial⟩
        ·rintro v37 H
         replace H : portal_planFault_J3 v37 = some r := H
         unfold portal_planFault_J3 at H
         refine awp_cond _ rfl (fun h38 => ?_) (fun h38 => ?_)
         ·replace H := ift h38 H
          refine awp_seq ?_
          refine awp_plain hN rfl ?_
          refine qe rfl ?_
          refine awp_ret ?_
          cases H
          exact ⟨trivial, .inl rfl, trivial⟩
         ·replace H := iff_ h38 H
          refine awp_skip ?_
          refine awp_seq ?_
          refine awp_plain hN rfl ?_
          refine qe rfl ?_
          refine awp_ret ?_
          cases H
          exact ⟨trivial, .inl rfl, trivial⟩
theorem k_portal_CheckCatalog (c1 : S_api_Catalog) (r : (Int)) (H : m_portal_CheckCatalog c1 = some r) : Fn Tryz.prog 74 [vagg (C_api_Catalog c1)] (resOf [vint r]) := by
 refine ⟨by kernel_rfl, pure_of (us := [vint r]) Tryz.func74 rfl rfl rfl rfl fun X hN => ?_⟩
 unfold m_portal_CheckCatalog at H
 refine awp_seq ?_
 refine awp_plain hN rfl ?_
 refine seq_run2 (stp_boxA 1 rfl) rfl ?_
 refine qe rfl ?_
 refine awp_seq ?_
 refine awp_seq ?_
 refine awp_plain hN rfl ?_
 refine seq_run0 (stp_fldP tyF31_0 rfl) ?_
 refine seq_run1 (stp_load1 tyS28 rfl rfl) rfl ?_
 obtain ⟨r2, h3, H⟩ := bnd H
 refine seq_run0 (stp_call (k_portal_productsFault c1.Products r2 h3) ⟨.inl rfl, trivial⟩) ?_
 refine qe rfl ?_
 refine awp_seq ?_
 refine awp_plain hN rfl ?_
 refine qd rfl ?_
 refine seq_run0 (stp_neq rfl rfl) ?_
 refine awp_cond _ rfl (fun h4 => ?_) (fun h4 => ?_)
 ·replace H := ift h4 H
  refine awp_seq ?_
  refine awp_plain hN rfl ?_
  refine qd rfl ?_
  refine qe rfl ?_
  refine awp_ret ?_
  cases H
  exact ⟨trivial, .inl rfl, trivial⟩
 ·replace H := iff_ h4 H
  refine awp_skip ?_
  refine awp_seq ?_
  refine awp_seq ?_
  refine awp_plain hN rfl ?_
  refine seq_run0 (stp_fldP tyF31_1 rfl) ?_
  refine seq_run1 (stp_load1 tyS29 rfl rfl) rfl ?_
  refine seq_run0 (t_len tyU29 rfl) ?_
  refine seq_run0 (stp_gtr rfl rfl) ?_
  refine awp_cond _ rfl (fun h5 => ?_) (fun h5 => ?_)
  ·replace H := ift h5 H
   refine awp_seq ?_
   refine awp_plain hN rfl ?_
   refine qe rfl ?_
   refine awp_ret ?_
   cases H
   exact ⟨trivial, .inl rfl, trivial⟩
  ·replace H := iff_ h5 H
   refine awp_skip ?_
   refine awp_seq ?_
   refine awp_seq ?_
   refine awp_plain hN rfl ?_
   refine seq_run0 (stp_fldP tyF31_1 rfl) ?_
   refine seq_run1 (stp_load1 tyS29 rfl rfl) rfl ?_
   refine seq_run0 (t_len tyU29 rfl) ?_
   refine qd rfl ?_
   refine awp_block ?_
   obtain ⟨h8, H⟩ := gif H
   refine awp_forL (fun (k6 : Nat) (s : Unit) => [(1, .ptr 1 0), (18, .dat (vint (c1.Plans.length : Int))), (19, .dat (vint (k6 : Int)))]) (fun (k6 : Nat) (s : Unit) => [(1, .box none 31 [.dat (vlst (List.map C_api_Product c1.Products)), .dat (vlst (List.map C_api_Plan c1.Plans))])]) () H ⟨rfl, rfl, rfl, trivial⟩ ⟨rfl, trivial⟩ (fun _ _ => rfl) ?_ ?_
   ·rintro ⟨⟩ H
    replace H : portal_CheckCatalog_E1 = some r := H
    unfold portal_CheckCatalog_E1 at H
    refine awp_seq ?_
    refine awp_plain hN rfl ?_
    refine seq_run0 (stp_lss rfl rfl) ?_
    refine awp_seq ?_
    refine awp_cond _ rfl (fun h => (lt_t h).elim) (fun h => ?_)
    refine awp_exit ?_
    refine awp_seq ?_
    refine awp_plain hN rfl ?_
    refine qe rfl ?_
    refine awp_ret ?_
    cases H
    exact ⟨trivial, .inl rfl, trivial⟩
   ·rintro k6 x9 ⟨⟩ q7 h10 h11 H hq7
    replace H : portal_CheckCatalog_L1 c1 k6 x9 = some q7 := H
    unfold portal_CheckCatalog_L1 at H
    refine awp_seq ?_
    refine awp_plain hN rfl ?_
    refine seq_run0 (stp_lss rfl rfl) ?_
    refine awp_seq ?_
    refine awp_cond _ rfl (fun h => ?_) (fun h => (lt_f h10 h).elim)
    refine awp_skip ?_
    refine awp_seq ?_
    refine awp_block ?_
    refine awp_seq ?_
    refine awp_plain hN rfl ?_
    refine qd rfl ?_
    refine qe rfl ?_
    refine awp_seq ?_
    refine awp_plain hN rfl ?_
    refine seq_run1 (stp_loadA tyS31 rfl rfl rfl) rfl ?_
    refine qd rfl ?_
    obtain ⟨r12, h13, H⟩ := bnd H
    refine seq_run0 (stp_call (k_portal_planFault c1 (k6 : Int) r12 h13) ⟨.inl rfl, .inl rfl, trivial⟩) ?_
    refine qe rfl ?_
    refine awp_seq ?_
    refine awp_plain hN rfl ?_
    refine qd rfl ?_
    refine seq_run0 (stp_neq rfl rfl) ?_
    refine awp_cond _ rfl (fun h14 => ?_) (fun h14 => ?_)
    ·replace H := ift h14 H
     refine awp_seq ?_
     refine awp_plain hN rfl ?_
     refine qd rfl ?_
     refine qe rfl ?_
     refine awp_ret ?_
     replace H := retl H hq7
     cases H
     exact ⟨trivial, .inl rfl, trivial⟩
    ·replace H := iff_ h14 H
     refine awp_skip ?_
     refine awp_plain hN rfl ?_
     refine seq_run0 (stp_add rfl rfl (by omega)) ?_
     refine qd rfl ?_
     exact ⟨_, backl H, ⟨rfl, rfl, rfl, trivial⟩, ⟨rfl, trivial⟩⟩
theorem k_slices_BinarySearchFunc_L_api_Plan_api_Plan_string_ (x1 : (List S_api_Plan)) (target2 : Bs) (p2 : S_api_Plan → Bs → Option (Int)) (fv2 : Nat) (us2 : List V) (hp2 : ∀ a0 a1 r, p2 a0 a1 = some r → Fn Tryz.prog fv2 ([vagg (C_api_Plan a0), vstr a1] ++ us2) (resOf [vint r])) (r : (Int × Bool)) (H : m_slices_BinarySearchFunc_L_api_Plan_api_Plan_string_ x1 target2 p2 = some r) : Fn Tryz.prog 99 [vlst (List.map C_api_Plan x1), vstr target2, vfn fv2 us2] (resOf [vint r.1, vbool r.2]) := by
 refine ⟨by kernel_rfl, pure_of (us := [vint r.1, vbool r.2]) Tryz.func99 rfl rfl rfl rfl fun X hN => ?_⟩
 unfold m_slices_BinarySearchFunc_L_api_Plan_api_Plan_string_ at H
 refine awp_seq ?_
 refine awp_plain hN rfl ?_
 refine qe rfl ?_
 refine qe rfl ?_
 refine awp_seq ?_
 refine awp_plain hN rfl ?_
 refine qd rfl ?_
 refine seq_run0 (t_len tyU29 rfl) ?_
 refine qe rfl ?_
 refine awp_seq ?_
 refine awp_plain hN rfl ?_
 refine qd rfl ?_
 refine qe rfl ?_
 refine qe rfl ?_
 refine awp_joinE (ι := Int) (fun i => [(0, .dat (vlst (List.map C_api_Plan x1))), (1, .dat (vstr target2)), (2, .dat (vfn fv2 us2)), (8, .dat (vint (x1.length : Int))), (9, .dat (vint i))]) (fun i => []) (fun i => slices_BinarySearchFunc_L_api_Plan_api_Plan_string__J1 x1 target2 p2 i = some r) (fun i => rfl) ?_ ?_
 ·skip
  refine awp_block ?_
  refine awp_iter (fun (s : Int × Int) => [(0, .dat (vlst (List.map C_api_Plan x1))), (1, .dat (vstr target2)), (2, .dat (vfn fv2 us2)), (8, .dat (vint (x1.length : Int))), (9, .dat (vint s.1)), (10, .dat (vint s.2))]) (fun (s : Int × Int) => []) (0, (x1.length : Int)) H ⟨rfl, rfl, rfl, rfl, rfl, rfl, trivial⟩ trivial (fun _ => rfl) ?_
  rintro ⟨i3, j4⟩ q5 H hq5
  replace H : slices_BinarySearchFunc_L_api_Plan_api_Plan_string__L2 x1 target2 p2 i3 j4 = some q5 := H
  unfold slices_BinarySearchFunc_L_api_Plan_api_Plan_string__L2 at H
  refine awp_seq ?_
  refine awp_seq ?_
  refine awp_plain hN rfl ?_
  refine qd rfl ?_
  refine qd rfl ?_
  refine seq_run0 (stp_lss rfl rfl) ?_
  refine awp_cond _ rfl (fun h6 => ?_) (fun h6 => ?_)
  ·replace H := ift h6 H
   refine awp_skip ?_
   refine awp_block ?_
   refine awp_seq ?_
   refine awp_plain hN rfl ?_
   refine qd rfl ?_
   refine qd rfl ?_
   refine seq_run0 (stp_wrap _ rfl rfl (.inl ⟨rfl, rfl⟩)) ?_
   refine seq_run0 (stp_conv tyU3 tyU133 rfl) ?_
   refine seq_run0 (stp_dat (stp_shr rfl rfl (by decide)) rfl) ?_
   refine seq_run0 (stp_conv tyU133 tyU3 rfl) ?_
   refine qe rfl ?_
   refine awp_seq ?_
   refine awp_plain hN rfl ?_
   refine qd rfl ?_
   refine qd rfl ?_
   refine qd rfl ?_
   obtain ⟨x7, h8, H⟩ := bnd H
   refine seq_run0 (t_idxI tyE29 (fun _ => rfl) rfl rfl h8) ?_
   refine seq_run0 (stp_loadEA tyS58 rfl (map_at (at_some h8).2) rfl) ?_
   refine qd rfl ?_
   obtain ⟨r9, h10, H⟩ := bnd H
   refine seq_run0 (stp_callv (hp2 x7 target2 r9 h10) rfl ⟨.inl rfl, .inl rfl, trivial⟩) ?_
   refine seq_run0 (stp_lss rfl rfl) ?_
   refine awp_cond _ rfl (fun h11 => ?_) (fun h11 => ?_)
   ·replace H := ift h11 H
    refine awp_plain hN rfl ?_
    refine qd rfl ?_
    refine seq_run0 (stp_wrap _ rfl rfl (.inl ⟨rfl, rfl⟩)) ?_
    refine qe rfl ?_
    exact ⟨_, backl H, ⟨rfl, rfl, rfl, rfl, rfl, rfl, trivial⟩, trivial⟩
   ·replace H := iff_ h11 H
    refine awp_plain hN rfl ?_
    refine qd rfl ?_
    refine qe rfl ?_
    exact ⟨_, backl H, ⟨rfl, rfl, rfl, rfl, rfl, rfl, trivial⟩, trivial⟩
  ·replace H := iff_ h6 H
   refine awp_exit ?_
   replace H := outl H hq5
   exact ⟨i3, H, ⟨rfl, rfl, rfl, rfl, rfl, trivial⟩, trivial⟩
 ·rintro i12 H
  replace H : slices_BinarySearchFunc_L_api_Plan_api_Plan_string__J1 x1 target2 p2 i12 = some r := H
  unfold slices_BinarySearchFunc_L_api_Plan_api_Plan_string__J1 at H
  refine awp_joinE (ι := Bool) (fun i => [(6, .dat (vint i12)), (7, .dat (vbool i))]) (fun i => []) (fun i => slices_BinarySearchFunc_L_api_Plan_api_Plan_string__J3 i12 i = some r) (fun i => rfl) ?_ ?_
  ·skip
   refine awp_plain hN rfl ?_
   refine qd rfl ?_
   refine qd rfl ?_
   refine qd rfl ?_
   refine seq_run0 (stp_lss rfl rfl) ?_
   refine qd rfl ?_
   refine seq_split (j := 4) rfl rfl (fun h13 => ?_) (fun h13 => ?_) rfl
   ·have h14 := un1 h13
    replace H := ift h14 H
    refine seq_g0 rfl rfl h13 (stp_move (.dat _) rfl) ?_
    refine seq_g0 rfl rfl h13 (stp_move (.dat _) rfl) ?_
    refine seq_g0 rfl rfl h13 (stp_move (.dat _) rfl) ?_
    obtain ⟨x15, h16, H⟩ := bnd H
    refine seq_g0 rfl rfl h13 (t_idxI tyE29 (fun _ => rfl) rfl rfl h16) ?_
    refine seq_g0 rfl rfl h13 (stp_loadEA tyS58 rfl (map_at (at_some h16).2) rfl) ?_
    refine seq_g0 rfl rfl h13 (stp_move (.dat _) rfl) ?_
    obtain ⟨r17, h18, H⟩ := bnd H
    refine seq_g0 rfl rfl h13 (stp_callv (hp2 x15 target2 r17 h18) rfl ⟨.inl rfl, .inl rfl, trivial⟩) ?_
    refine seq_g0 rfl rfl h13 (stp_eql rfl rfl) ?_
    refine seq_run0 (stp_pick_t rfl (bTT h14) rfl) ?_
    refine qe rfl ?_
    refine qe rfl ?_
    exact ⟨decide (r17 = 0), H, ⟨rfl, rfl, trivial⟩, trivial⟩
   ·have h19 := un2 h13
    replace H := iff_ h19 H
    refine seq_skip rfl rfl h13 ?_
    refine seq_skip rfl rfl h13 ?_
    refine seq_skip rfl rfl h13 ?_
    refine seq_skip rfl rfl h13 ?_
    refine seq_skip rfl rfl h13 ?_
    refine seq_skip rfl rfl h13 ?_
    refine seq_skip rfl rfl h13 ?_
    refine seq_skip rfl rfl h13 ?_
    refine seq_run0 (stp_pick_f rfl (bFF h19) rfl) ?_
    refine qe rfl ?_
    refine qe rfl ?_
    exact ⟨false, H, ⟨rfl, rfl, trivial⟩, trivial⟩
  ·rintro v20 H
   replace H : slices_BinarySearchFunc_L_api_Plan_api_Plan_string__J3 i12 v20 = some r := H
   unfold slices_BinarySearchFunc_L_api_Plan_api_Plan_string__J3 at H
   refine awp_ret ?_
   cases H
   exact ⟨trivial, .inl rfl, .inl rfl, trivial⟩
theorem k_portal_planOf_1 (p1 : S_api_Plan) (k2 : Bs) (r : (Int)) (H : m_portal_planOf_1 p1 k2 = some r) : Fn Tryz.prog 100 [vagg (C_api_Plan p1), vstr k2] (resOf [vint r]) := by
 refine ⟨by kernel_rfl, pure_of (us := [vint r]) Tryz.func100 rfl rfl rfl rfl fun X hN => ?_⟩
 unfold m_portal_planOf_1 at H
 refine awp_seq ?_
 refine awp_plain hN rfl ?_
 refine seq_run2 (stp_boxA 1 rfl) rfl ?_
 refine qe rfl ?_
 refine awp_seq ?_
 refine awp_plain hN rfl ?_
 refine seq_run0 (stp_fldP tyF58_0 rfl) ?_
 refine seq_run1 (stp_load1 tyS9 rfl rfl) rfl ?_
 refine qd rfl ?_
 obtain ⟨r3, h4, H⟩ := bnd H
 refine seq_run0 (stp_call (k_strings_Compare p1.Key k2 r3 h4) ⟨.inl rfl, .inl rfl, trivial⟩) ?_
 refine qe rfl ?_
 refine awp_ret ?_
 cases H
 exact ⟨trivial, .inl rfl, trivial⟩
theorem k_portal_planOf (c1 : S_api_Catalog) (key2 : Bs) (r : (S_api_Plan × Bool)) (H : m_portal_planOf c1 key2 = some r) : Fn Tryz.prog 75 [vagg (C_api_Catalog c1), vstr key2] (resOf [vagg (C_api_Plan r.1), vbool r.2]) := by
 refine ⟨by kernel_rfl, pure_of (us := [vagg (C_api_Plan r.1), vbool r.2]) Tryz.func75 rfl rfl rfl rfl fun X hN => ?_⟩
 unfold m_portal_planOf at H
 refine awp_seq ?_
 refine awp_plain hN rfl ?_
 refine seq_run2 (stp_boxA 1 rfl) rfl ?_
 refine seq_run2 (stp_alloc 2 tyZ58 rfl) rfl ?_
 refine qe rfl ?_
 refine awp_seq ?_
 refine awp_plain hN rfl ?_
 refine seq_run0 (stp_fldP tyF31_1 rfl) ?_
 refine seq_run1 (stp_load1 tyS29 rfl rfl) rfl ?_
 refine qd rfl ?_
 obtain ⟨r3, h4, H⟩ := bnd H
 refine seq_run0 (stp_callW (k_slices_BinarySearchFunc_L_api_Plan_api_Plan_string_ c1.Plans key2 (fun (a0 : S_api_Plan) (a1 : Bs) => m_portal_planOf_1 a0 a1) 100 [] (fun a0 a1 r h => k_portal_planOf_1 a0 a1 r h) r3 h4) ⟨.inl (.inl rfl), .inl (.inl rfl), .inr ⟨_, rfl, rfl⟩, trivial⟩) ?_
 refine qd rfl ?_
 refine seq_run0 (stp_ext rfl rfl) ?_
 refine seq_run0 (stp_ext rfl rfl) ?_
 refine qe rfl ?_
 refine qe rfl ?_
 refine awp_seq ?_
 refine awp_seq ?_
 refine awp_plain hN rfl ?_
 refine qd rfl ?_
 refine seq_run0 (stp_not rfl) ?_
 refine awp_cond _ rfl (fun h5 => ?_) (fun h5 => ?_)
 ·replace H := ift h5 H
  refine awp_seq ?_
  refine awp_plain hN rfl ?_
  refine seq_run0 (stp_wk (u' := vagg (C_api_Plan (S_api_Plan.mk [] [] 0 0 [] 0 0 false))) (wk_agg (by exact ⟨wk_rfl, wk_rfl, wk_rfl, wk_rfl, wk_nil, wk_rfl, wk_rfl, wk_rfl, trivial⟩)) (stp_build [] tyZ58 tyP58 rfl trivial)) ?_
  refine seq_run2 (stp_storeW tyS58 rfl rfl rfl rfl) rfl ?_
  refine qe rfl ?_
  refine awp_ret ?_
  cases H
  exact ⟨trivial, .inl ⟨_, _, _, C_api_Plan (S_api_Plan.mk [] [] 0 0 [] 0 0 false), rfl, rfl, rfl, rfl, tyS58⟩, .inl rfl, trivial⟩
 ·replace H := iff_ h5 H
  refine awp_skip ?_
  refine awp_seq ?_
  refine awp_plain hN rfl ?_
  refine seq_run0 (stp_fldP tyF31_1 rfl) ?_
  refine seq_run1 (stp_load1 tyS29 rfl rfl) rfl ?_
  refine qd rfl ?_
  obtain ⟨x6, h7, H⟩ := bnd H
  refine seq_run0 (t_idxI tyE29 (fun _ => rfl) rfl rfl h7) ?_
  refine seq_run0 (stp_loadEA tyS58 rfl (map_at (at_some h7).2) rfl) ?_
  refine seq_run2 (stp_storeW tyS58 rfl rfl rfl rfl) rfl ?_
  refine qe rfl ?_
  refine awp_ret ?_
  cases H
  exact ⟨trivial, .inl ⟨_, _, _, C_api_Plan x6, rfl, rfl, rfl, rfl, tyS58⟩, .inl rfl, trivial⟩
theorem k_portal_price (p1 : S_api_Plan) (calls2 : Int) (r : (Int)) (H : m_portal_price p1 calls2 = some r) : Fn Tryz.prog 76 [vagg (C_api_Plan p1), vint calls2] (resOf [vint r]) := by
 refine ⟨by kernel_rfl, pure_of (us := [vint r]) Tryz.func76 rfl rfl rfl rfl fun X hN => ?_⟩
 unfold m_portal_price at H
 refine awp_seq ?_
 refine awp_plain hN rfl ?_
 refine seq_run2 (stp_boxA 1 rfl) rfl ?_
 refine qe rfl ?_
 refine awp_seq ?_
 refine awp_plain hN rfl ?_
 refine qd rfl ?_
 refine seq_run0 (stp_fldP tyF58_3 rfl) ?_
 refine seq_run1 (stp_load1 tyS3 rfl rfl) rfl ?_
 refine seq_run0 (stp_wrap _ rfl rfl (.inr (.inl ⟨rfl, rfl⟩))) ?_
 refine seq_run0 (stp_max rfl rfl) ?_
 refine qe rfl ?_
 refine awp_seq ?_
 refine awp_plain hN rfl ?_
 refine qe rfl ?_
 refine awp_seq ?_
 refine awp_seq ?_
 refine awp_plain hN rfl ?_
 refine seq_run0 (stp_fldP tyF58_4 rfl) ?_
 refine seq_run1 (stp_load1 tyS56 rfl rfl) rfl ?_
 refine seq_run0 (t_len tyU56 rfl) ?_
 refine qd rfl ?_
 refine awp_block ?_
 obtain ⟨h6, H⟩ := gif H
 refine awp_forL (fun (k4 : Nat) (s : Int) => [(2, .ptr 1 0), (5, .dat (vint (max 0 (wr (calls2 - p1.Free))))), (6, .dat (vint s)), (16, .dat (vlst (List.map C_api_Tier p1.Tiers))), (17, .dat (vint (p1.Tiers.length : Int))), (18, .dat (vint (k4 : Int)))]) (fun (k4 : Nat) (s : Int) => [(1, .box none 58 [.dat (vstr p1.Key), .dat (vstr p1.Product), .dat (vint p1.Base), .dat (vint p1.Free), .dat (vlst (List.map C_api_Tier p1.Tiers)), .dat (vint p1.Limit), .dat (vint p1.Trial), .dat (vbool p1.Asked)])]) 0 H ⟨rfl, rfl, rfl, rfl, rfl, rfl, trivial⟩ ⟨rfl, trivial⟩ (fun _ _ => rfl) ?_ ?_
 ·rintro sum3 H
  replace H : portal_price_E1 sum3 = some r := H
  unfold portal_price_E1 at H
  refine awp_seq ?_
  refine awp_plain hN rfl ?_
  refine seq_run0 (stp_lss rfl rfl) ?_
  refine awp_seq ?_
  refine awp_cond _ rfl (fun h => (lt_t h).elim) (fun h => ?_)
  refine awp_exit ?_
  refine awp_seq ?_
  refine awp_plain hN rfl ?_
  refine qd rfl ?_
  obtain ⟨h8, H⟩ := gif H
  refine seq_run0 (stp_quo rfl rfl h8.1 h8.2) ?_
  refine qe rfl ?_
  refine awp_ret ?_
  cases H
  exact ⟨trivial, .inl rfl, trivial⟩
 ·rintro k4 x7 sum3 q5 h9 h10 H hq5
  replace H : portal_price_L1 p1 calls2 k4 x7 sum3 = some q5 := H
  unfold portal_price_L1 at H
  refine awp_seq ?_
  refine awp_plain hN rfl ?_
  refine seq_run0 (stp_lss rfl rfl) ?_
  refine awp_seq ?_
  refine awp_cond _ rfl (fun h => ?_) (fun h => (lt_f h9 h).elim)
  refine awp_skip ?_
  refine awp_seq ?_
  refine awp_block ?_
  refine awp_seq ?_
  refine awp_plain hN rfl ?_
  refine qd rfl ?_
  refine seq_run0 (t_idx tyE56 (fun _ => rfl) rfl rfl h10) ?_
  refine seq_run0 (stp_loadEA tyS71 rfl (map_at h10) rfl) ?_
  refine seq_run2 (stp_alloc 2 tyZ71 rfl) rfl ?_
  refine qe rfl ?_
  refine seq_run2 (stp_storeW tyS71 rfl rfl rfl rfl) rfl ?_
  refine awp_seq ?_
  refine awp_plain hN rfl ?_
  refine qd rfl ?_
  refine qe rfl ?_
  refine awp_joinE (ι := Int) (fun i => [(2, .ptr 1 0), (5, .dat (vint (max 0 (wr (calls2 - p1.Free))))), (6, .dat (vint sum3)), (8, .ptr 2 0), (9, .dat (vint i)), (16, .dat (vlst (List.map C_api_Tier p1.Tiers))), (17, .dat (vint (p1.Tiers.length : Int))), (18, .dat (vint (k4 : Int)))]) (fun i => [(1, .box none 58 [.dat (vstr p1.Key), .dat (vstr p1.Product), .dat (vint p1.Base), .dat (vint p1.Free), .dat (vlst (List.map C_api_Tier p1.Tiers)), .dat (vint p1.Limit), .dat (vint p1.Trial), .dat (vbool p1.Asked)]), (2, .box none 71 [.dat (vint x7.From), .dat (vint x7.Cents)])]) (fun i => portal_price_J2 sum3 x7 i = some q5) (fun i => rfl) ?_ ?_
  ·skip
   refine awp_seq ?_
   refine awp_plain hN rfl ?_
   refine qd rfl ?_
   refine seq_run0 (stp_add rfl rfl (by omega)) ?_
   refine seq_run0 (stp_fldP tyF58_4 rfl) ?_
   refine seq_run1 (stp_load1 tyS56 rfl rfl) rfl ?_
   refine seq_run0 (t_len tyU56 rfl) ?_
   refine seq_run0 (stp_lss rfl rfl) ?_
   refine awp_cond _ rfl (fun h11 => ?_) (fun h11 => ?_)
   ·replace H := ift h11 H
    refine awp_plain hN rfl ?_
    refine qd rfl ?_
    refine seq_run0 (stp_fldP tyF58_4 rfl) ?_
    refine seq_run1 (stp_load1 tyS56 rfl rfl) rfl ?_
    refine qd rfl ?_
    refine seq_run0 (stp_add rfl rfl (by omega)) ?_
    obtain ⟨x12, h13, H⟩ := bnd H
    refine seq_run0 (t_idx tyE56 (fun _ => rfl) rfl rfl h13) ?_
    refine seq_run0 (stp_fldE tyF71_0 rfl) ?_
    refine seq_run0 (stp_loadE1 tyS3 rfl (map_at h13) rfl) ?_
    refine seq_run0 (stp_wrap _ rfl rfl (.inr (.inl ⟨rfl, rfl⟩))) ?_
    refine seq_run0 (stp_min rfl rfl) ?_
    refine qe rfl ?_
    exact ⟨(min (max 0 (wr (calls2 - p1.Free))) (wr (x12.From - 1))), H, ⟨rfl, rfl, rfl, rfl, rfl, rfl, rfl, rfl, trivial⟩, ⟨rfl, rfl, trivial⟩⟩
   ·replace H := iff_ h11 H
    refine awp_skip ?_
    exact ⟨(max 0 (wr (calls2 - p1.Free))), H, ⟨rfl, rfl, rfl, rfl, rfl, rfl, rfl, rfl, trivial⟩, ⟨rfl, rfl, trivial⟩⟩
  ·rintro to14 H
   replace H : portal_price_J2 sum3 x7 to14 = some q5 := H
   unfold portal_price_J2 at H
   refine awp_plain hN rfl ?_
   refine qd rfl ?_
   refine qd rfl ?_
   refine seq_run0 (stp_fldP tyF71_0 rfl) ?_
   refine seq_run1 (stp_load1 tyS3 rfl rfl) rfl ?_
   refine seq_run0 (stp_wrap _ rfl rfl (.inr (.inl ⟨rfl, rfl⟩))) ?_
   refine seq_run0 (stp_wrap _ rfl rfl (.inl ⟨rfl, rfl⟩)) ?_
   refine seq_run0 (stp_max rfl rfl) ?_
   refine seq_run0 (stp_fldP tyF71_1 rfl) ?_
   refine seq_run1 (stp_load1 tyS3 rfl rfl) rfl ?_
   refine seq_run0 (stp_wrap _ rfl rfl (.inr (.inr ⟨rfl, rfl⟩))) ?_
   refine seq_run0 (stp_wrap _ rfl rfl (.inl ⟨rfl, rfl⟩)) ?_
   refine qe rfl ?_
   refine awp_plain hN rfl ?_
   refine seq_run0 (stp_add rfl rfl (by omega)) ?_
   refine qd rfl ?_
   exact ⟨_, backl H, ⟨rfl, rfl, rfl, rfl, rfl, rfl, trivial⟩, ⟨rfl, trivial⟩⟩
theorem k_portal_Price (c1 : S_api_Catalog) (plan2 : Bs) (calls3 : Int) (r : (Int × Int)) (H : m_portal_Price c1 plan2 calls3 = some r) : Fn Tryz.prog 50 [vagg (C_api_Catalog c1), vstr plan2, vint calls3] (resOf [vint r.1, vint r.2]) := by
 refine ⟨by kernel_rfl, pure_of (us := [vint r.1, vint r.2]) Tryz.func50 rfl rfl rfl rfl fun X hN => ?_⟩
 unfold m_portal_Price at H
 refine awp_seq ?_
 refine awp_plain hN rfl ?_
 refine seq_run2 (stp_boxA 1 rfl) rfl ?_
 refine qe rfl ?_
 refine qe rfl ?_
 refine awp_seq ?_
 refine awp_seq ?_
 refine awp_plain hN rfl ?_
 refine seq_run1 (stp_loadA tyS31 rfl rfl rfl) rfl ?_
 obtain ⟨r4, h5, H⟩ := bnd H
 refine seq_run0 (stp_call (k_portal_CheckCatalog c1 r4 h5) ⟨.inl rfl, trivial⟩) ?_
 refine qe rfl ?_
 refine awp_seq ?_
 refine awp_plain hN rfl ?_
 refine qd rfl ?_
 refine seq_run0 (stp_neq rfl rfl) ?_
 refine awp_cond _ rfl (fun h6 => ?_) (fun h6 => ?_)
 ·replace H := ift h6 H
  refine awp_seq ?_
  refine awp_plain hN rfl ?_
  refine qd rfl ?_
  refine qe rfl ?_
  refine qe rfl ?_
  refine awp_ret ?_
  cases H
  exact ⟨trivial, .inl rfl, .inl rfl, trivial⟩
 ·replace H := iff_ h6 H
  refine awp_skip ?_
  refine awp_seq ?_
  refine awp_plain hN rfl ?_
  refine seq_run1 (stp_loadA tyS31 rfl rfl rfl) rfl ?_
  refine qd rfl ?_
  obtain ⟨r7, h8, H⟩ := bnd H
  refine seq_run0 (stp_call (k_portal_planOf c1 plan2 r7 h8) ⟨.inl rfl, .inl rfl, trivial⟩) ?_
  refine qd rfl ?_
  refine seq_run0 (stp_ext rfl rfl) ?_
  refine seq_run0 (stp_ext rfl rfl) ?_
  refine seq_run2 (stp_alloc 2 tyZ58 rfl) rfl ?_
  refine seq_run2 (stp_storeW tyS58 rfl rfl rfl rfl) rfl ?_
  refine qe rfl ?_
  refine awp_seq ?_
  refine awp_seq ?_
  refine awp_plain hN rfl ?_
  refine qd rfl ?_
  refine seq_run0 (stp_not rfl) ?_
  refine awp_cond _ rfl (fun h9 => ?_) (fun h9 => ?_)
  ·replace H := ift h9 H
   refine awp_seq ?_
   refine awp_plain hN rfl ?_
   refine qe rfl ?_
   refine qe rfl ?_
   refine awp_ret ?_
   cases H
   exact ⟨trivial, .inl rfl, .inl rfl, trivial⟩
  ·replace H := iff_ h9 H
   refine awp_skip ?_
   refine awp_seq ?_
   refine awp_seq ?_
   refine awp_plain hN rfl ?_
   refine qd rfl ?_
   obtain ⟨r10, h11, H⟩ := bnd H
   refine seq_run0 (stp_call (k_kit_Outside calls3 0 1000000000000 r10 h11) ⟨.inl rfl, .inl rfl, .inl rfl, trivial⟩) ?_
   refine awp_cond _ rfl (fun h12 => ?_) (fun h12 => ?_)
   ·replace H := ift h12 H
    refine awp_seq ?_
    refine awp_plain hN rfl ?_
    refine qe rfl ?_
    refine qe rfl ?_
    refine awp_ret ?_
    cases H
    exact ⟨trivial, .inl rfl, .inl rfl, trivial⟩
   ·replace H := iff_ h12 H
    refine awp_skip ?_
    refine awp_seq ?_
    refine awp_plain hN rfl ?_
    refine seq_run1 (stp_loadA tyS58 rfl rfl rfl) rfl ?_
    refine qd rfl ?_
    obtain ⟨r13, h14, H⟩ := bnd H
    refine seq_run0 (stp_call (k_portal_price r7.1 calls3 r13 h14) ⟨.inl rfl, .inl rfl, trivial⟩) ?_
    refine qe rfl ?_
    refine qe rfl ?_
    refine awp_ret ?_
    cases H
    exact ⟨trivial, .inl rfl, .inl rfl, trivial⟩
theorem k_gatelaw2_priced  (r : (Bool)) (H : m_gatelaw2_priced  = some r) : Fn Tryz.prog 15 [] (resOf [vbool r]) := by
 refine ⟨by kernel_rfl, pure_of (us := [vbool r]) Tryz.func15 rfl rfl rfl rfl fun X hN => ?_⟩
 unfold m_gatelaw2_priced at H
 refine awp_seq ?_
 refine awp_plain hN rfl ?_
 refine qe rfl ?_
 refine awp_seq ?_
 refine awp_plain hN rfl ?_
 refine seq_run0 (stp_wk (u' := vagg (C_api_Product (S_api_Product.mk [112] []))) (wk_agg (by exact ⟨wk_rfl, wk_nil, trivial⟩)) (stp_build [(0, [vstr [112]])] tyZ74 tyP74 rfl ⟨rfl, .inl ⟨_, rfl, rfl, rfl⟩, rfl, trivial⟩)) ?_
 refine seq_run0 (stp_dat (u' := vlst (List.map C_api_Product [(S_api_Product.mk [112] [])])) (stp_lit [_] tyL28 ⟨rfl, .inr rfl, rfl, trivial⟩ rfl rfl) rfl) ?_
 refine seq_run0 (stp_dat (u' := vagg (C_api_Tier (S_api_Tier.mk 1 2000))) (stp_build [(0, [vint 1]), (1, [vint 2000])] tyZ71 tyP71 rfl ⟨rfl, .inl ⟨_, rfl, rfl, rfl⟩, rfl, rfl, .inl ⟨_, rfl, rfl, rfl⟩, rfl, trivial⟩) rfl) ?_
 refine seq_run0 (stp_dat (u' := vlst (List.map C_api_Tier [(S_api_Tier.mk 1 2000)])) (stp_lit [_] tyL56 ⟨rfl, .inr rfl, rfl, trivial⟩ rfl rfl) rfl) ?_
 refine seq_run0 (stp_dat (u' := vagg (C_api_Plan (S_api_Plan.mk [113] [112] 0 0 [(S_api_Tier.mk 1 2000)] 0 0 false))) (stp_build [(0, [vstr [113]]), (1, [vstr [112]]), (4, [vlst (List.map C_api_Tier [(S_api_Tier.mk 1 2000)])])] tyZ58 tyP58 rfl ⟨rfl, .inl ⟨_, rfl, rfl, rfl⟩, rfl, rfl, .inl ⟨_, rfl, rfl, rfl⟩, rfl, rfl, .inl ⟨_, rfl, rfl, rfl⟩, rfl, trivial⟩) rfl) ?_
 refine seq_run0 (stp_dat (u' := vlst (List.map C_api_Plan [(S_api_Plan.mk [113] [112] 0 0 [(S_api_Tier.mk 1 2000)] 0 0 false)])) (stp_lit [_] tyL29 ⟨rfl, .inr rfl, rfl, trivial⟩ rfl rfl) rfl) ?_
 refine seq_run0 (stp_dat (u' := vagg (C_api_Catalog (S_api_Catalog.mk ([(S_api_Product.mk [112] [])]) ([(S_api_Plan.mk [113] [112] 0 0 [(S_api_Tier.mk 1 2000)] 0 0 false)])))) (stp_build [(0, [vlst (List.map C_api_Product ([(S_api_Product.mk [112] [])]))]), (1, [vlst (List.map C_api_Plan ([(S_api_Plan.mk [113] [112] 0 0 [(S_api_Tier.mk 1 2000)] 0 0 false)]))])] tyZ31 tyP31 rfl ⟨rfl, .inl ⟨_, rfl, rfl, rfl⟩, rfl, rfl, .inl ⟨_, rfl, rfl, rfl⟩, rfl, trivial⟩) rfl) ?_
 refine seq_run2 (stp_alloc 1 tyZ31 rfl) rfl ?_
 refine seq_run2 (stp_storeW tyS31 rfl rfl rfl rfl) rfl ?_
 refine awp_seq ?_
 refine awp_plain hN rfl ?_
 refine seq_run1 (stp_loadA tyS31 rfl rfl rfl) rfl ?_
 obtain ⟨r1, h2, H⟩ := bnd H
 refine seq_run0 (stp_call (k_portal_Price (S_api_Catalog.mk ([(S_api_Product.mk [112] [])]) ([(S_api_Plan.mk [113] [112] 0 0 [(S_api_Tier.mk 1 2000)] 0 0 false)])) [113] 3 r1 h2) ⟨.inl rfl, .inl rfl, .inl rfl, trivial⟩) ?_
 refine qd rfl ?_
 refine seq_run0 (stp_ext rfl rfl) ?_
 refine seq_run0 (stp_ext rfl rfl) ?_
 refine qe rfl ?_
 refine qe rfl ?_
 refine awp_seq ?_
 refine awp_plain hN rfl ?_
 refine qd rfl ?_
 refine seq_run0 (stp_eql rfl rfl) ?_
 refine qd rfl ?_
 refine seq_aT rfl rfl (fun hc => stp_move (.dat _) rfl) ?_
 refine seq_aT rfl rfl (fun hc => stp_eql (cnd (c := (decide (r1.2 = 0))) hc) rfl) ?_
 refine seq_run0 (stp_pick_and rfl (fun hb => (cnd (c := (decide (r1.2 = 0))) hb)) rfl) ?_
 refine qe rfl ?_
 refine awp_ret ?_
 cases H
 exact ⟨trivial, .inl rfl, trivial⟩
theorem k_gatelaw2_EventTexts (v1 : (List Int)) (r : (Bool)) (H : m_gatelaw2_EventTexts v1 = some r) : Fn Tryz.prog 3 [vlst (List.map C_int v1)] (resOf [vbool r]) := by
 refine ⟨by kernel_rfl, pure_of (us := [vbool r]) Tryz.func3 rfl rfl rfl rfl fun X hN => ?_⟩
 unfold m_gatelaw2_EventTexts at H
 refine awp_seq ?_
 refine awp_plain hN rfl ?_
 refine qe rfl ?_
 refine awp_seq ?_
 refine awp_plain hN rfl ?_
 refine qd rfl ?_
 refine seq_run0 (stp_dat (u' := vagg (C_gatemake_Stream (S_gatemake_Stream.mk v1 0))) (stp_build [(0, [vlst (List.map C_int v1)])] tyZ25 tyP25 rfl ⟨rfl, .inl ⟨_, rfl, rfl, rfl⟩, rfl, trivial⟩) rfl) ?_
 refine seq_run2 (stp_boxA 1 rfl) rfl ?_
 refine seq_run0 (stp_assign (.ptr _ _) rfl) ?_
 refine awp_seq ?_
 refine awp_plain hN rfl ?_
 refine seq_run0 (stp_move (.ptr _ _) rfl) ?_
 refine seq_run0 (stp_move (.ptr _ _) rfl) ?_
 obtain ⟨r2, h3, H⟩ := bnd H
 refine seq_run2 (stp_imp (k_gatemake_Stream_Catalog (S_gatemake_Stream.mk v1 0) r2 h3) rfl trivial rfl) rfl ?_
 refine seq_run0 (stp_move (.ptr _ _) rfl) ?_
 obtain ⟨r4, h5, H⟩ := bnd H
 refine seq_run2 (stp_imp (k_gatemake_Stream_Apps r2.2 r4 h5) rfl trivial rfl) rfl ?_
 refine seq_run0 (stp_move (.ptr _ _) rfl) ?_
 obtain ⟨r6, h7, H⟩ := bnd H
 refine seq_run2 (stp_imp (k_gatemake_Stream_Range r4.2 0 6 r6 h7) rfl ⟨.inl rfl, .inl rfl, trivial⟩ rfl) rfl ?_
 obtain ⟨r8, h9, H⟩ := bnd H
 refine seq_run2 (stp_imp (k_gatemake_Stream_Events r6.2 r2.1 r4.1 r6.1 r8 h9) rfl ⟨.inl rfl, .inl rfl, .inl rfl, trivial⟩ rfl) rfl ?_
 refine qe rfl ?_
 refine awp_seq ?_
 refine awp_plain hN rfl ?_
 refine qd rfl ?_
 obtain ⟨r10, h11, H⟩ := bnd H
 refine seq_run0 (stp_call (k_portal_Text r8.1 r10 h11) ⟨.inl rfl, trivial⟩) ?_
 refine qd rfl ?_
 refine seq_run0 (stp_ext rfl rfl) ?_
 refine seq_run0 (stp_ext rfl rfl) ?_
 refine qe rfl ?_
 refine qe rfl ?_
 refine awp_seq ?_
 refine awp_seq ?_
 refine awp_plain hN rfl ?_
 refine qd rfl ?_
 obtain ⟨r12, h13, H⟩ := bnd H
 refine seq_run0 (stp_call (k_gateref2_EventForm r8.1 r12 h13) ⟨.inl rfl, trivial⟩) ?_
 refine qe rfl ?_
 refine awp_joinE (ι := Bool) (fun i => [(3, .ptr 1 0), (52, .dat (vbool i))]) (fun i => [(1, .box none 25 [.dat (vlst (List.map C_int r8.2.L)), .dat (vint r8.2.at_)])]) (fun i => gatelaw2_EventTexts_J1 r8 i = some r) (fun i => rfl) ?_ ?_
 ·skip
  refine awp_plain hN rfl ?_
  refine qd rfl ?_
  refine qd rfl ?_
  refine seq_run0 (stp_neq rfl rfl) ?_
  refine qd rfl ?_
  refine seq_split (j := 3) rfl rfl (fun h14 => ?_) (fun h14 => ?_) rfl
  ·have h15 := un3 h14
   replace H := iff_ h15 H
   refine seq_g0 rfl rfl h14 (stp_move (.dat _) rfl) ?_
   refine seq_g0 rfl rfl h14 (stp_eql rfl rfl) ?_
   refine seq_g0 rfl rfl h14 (stp_move (.dat _) rfl) ?_
   refine seq_split (j := 6) rfl rfl (fun h16 => ?_) (fun h16 => ?_) rfl
   ·have h17 := un1 h16
    replace H := ift h17 H
    refine seq_g0 rfl rfl h16 (stp_move (.dat _) rfl) ?_
    refine seq_g0 rfl rfl h16 (stp_move (.dat _) rfl) ?_
    obtain ⟨r18, h19, H⟩ := bnd H
    refine seq_g0 rfl rfl h16 (stp_call (k_gateref2_EventLines r8.1 r18 h19) ⟨.inl rfl, trivial⟩) ?_
    refine seq_g0 rfl rfl h16 (stp_sneq rfl rfl) ?_
    refine seq_g0 rfl rfl h14 (stp_pick_t rfl (bTT h17) rfl) ?_
    refine seq_run0 (stp_pick_f rfl (bFF h15) rfl) ?_
    refine qd rfl ?_
    refine seq_split (j := 13) rfl rfl (fun h20 => ?_) (fun h20 => ?_) rfl
    ·have h21 := un3 h20
     replace H := iff_ h21 H
     refine seq_g0 rfl rfl h20 (stp_move (.dat _) rfl) ?_
     refine seq_g0 rfl rfl h20 (stp_neq rfl rfl) ?_
     refine seq_g0 rfl rfl h20 (stp_move (.dat _) rfl) ?_
     refine seq_split (j := 16) rfl rfl (fun h22 => ?_) (fun h22 => ?_) rfl
     ·have h23 := un1 h22
      replace H := ift h23 H
      refine seq_g0 rfl rfl h22 (stp_move (.dat _) rfl) ?_
      refine seq_g0 rfl rfl h22 (stp_sneq rfl rfl) ?_
      refine seq_g0 rfl rfl h20 (stp_pick_t rfl (bTT h23) rfl) ?_
      refine seq_run0 (stp_pick_f rfl (bFF h21) rfl) ?_
      exact ⟨decide (r10.1 ≠ []), H, ⟨rfl, rfl, trivial⟩, ⟨rfl, trivial⟩⟩
     ·have h24 := un2 h22
      replace H := iff_ h24 H
      refine seq_skip rfl rfl h22 ?_
      refine seq_skip rfl rfl h22 ?_
      refine seq_g0 rfl rfl h20 (stp_pick_f rfl (bFF h24) rfl) ?_
      refine seq_run0 (stp_pick_f rfl (bFF h21) rfl) ?_
      exact ⟨false, H, ⟨rfl, rfl, trivial⟩, ⟨rfl, trivial⟩⟩
    ·have h25 := un4 h20
     replace H := ift h25 H
     refine seq_skip rfl rfl h20 ?_
     refine seq_skip rfl rfl h20 ?_
     refine seq_skip rfl rfl h20 ?_
     refine seq_skipU rfl rfl ?_
     refine seq_skipU rfl rfl ?_
     refine seq_skip rfl rfl h20 ?_
     refine seq_run0 (stp_pick_t rfl (bTT h25) rfl) ?_
     exact ⟨true, H, ⟨rfl, rfl, trivial⟩, ⟨rfl, trivial⟩⟩
   ·have h26 := un2 h16
    replace H := iff_ h26 H
    refine seq_skip rfl rfl h16 ?_
    refine seq_skip rfl rfl h16 ?_
    refine seq_skip rfl rfl h16 ?_
    refine seq_skip rfl rfl h16 ?_
    refine seq_g0 rfl rfl h14 (stp_pick_f rfl (bFF h26) rfl) ?_
    refine seq_run0 (stp_pick_f rfl (bFF h15) rfl) ?_
    refine qd rfl ?_
    refine seq_g0 rfl rfl rfl (stp_move (.dat _) rfl) ?_
    refine seq_g0 rfl rfl rfl (stp_neq rfl rfl) ?_
    refine seq_g0 rfl rfl rfl (stp_move (.dat _) rfl) ?_
    refine seq_split (j := 16) rfl rfl (fun h27 => ?_) (fun h27 => ?_) rfl
    ·have h28 := un1 h27
     replace H := ift h28 H
     refine seq_g0 rfl rfl h27 (stp_move (.dat _) rfl) ?_
     refine seq_g0 rfl rfl h27 (stp_sneq rfl rfl) ?_
     refine seq_g0 rfl rfl rfl (stp_pick_t rfl (bTT h28) rfl) ?_
     refine seq_run0 (stp_pick_f rfl rfl rfl) ?_
     exact ⟨decide (r10.1 ≠ []), H, ⟨rfl, rfl, trivial⟩, ⟨rfl, trivial⟩⟩
    ·have h29 := un2 h27
     replace H := iff_ h29 H
     refine seq_skip rfl rfl h27 ?_
     refine seq_skip rfl rfl h27 ?_
     refine seq_g0 rfl rfl rfl (stp_pick_f rfl (bFF h29) rfl) ?_
     refine seq_run0 (stp_pick_f rfl rfl rfl) ?_
     exact ⟨false, H, ⟨rfl, rfl, trivial⟩, ⟨rfl, trivial⟩⟩
  ·have h30 := un4 h14
   replace H := ift h30 H
   refine seq_skip rfl rfl h14 ?_
   refine seq_skip rfl rfl h14 ?_
   refine seq_skip rfl rfl h14 ?_
   refine seq_skipU rfl rfl ?_
   refine seq_skipU rfl rfl ?_
   refine seq_skipU rfl rfl ?_
   refine seq_skipU rfl rfl ?_
   refine seq_skip rfl rfl h14 ?_
   refine seq_run0 (stp_pick_t rfl (bTT h30) rfl) ?_
   refine qd rfl ?_
   refine seq_skip rfl rfl rfl ?_
   refine seq_skip rfl rfl rfl ?_
   refine seq_skip rfl rfl rfl ?_
   refine seq_skipU rfl rfl ?_
   refine seq_skipU rfl rfl ?_
   refine seq_skip rfl rfl rfl ?_
   refine seq_run0 (stp_pick_t rfl rfl rfl) ?_
   exact ⟨true, H, ⟨rfl, rfl, trivial⟩, ⟨rfl, trivial⟩⟩
 ·rintro v31 H
  replace H : gatelaw2_EventTexts_J1 r8 v31 = some r := H
  unfold gatelaw2_EventTexts_J1 at H
  refine awp_cond _ rfl (fun h32 => ?_) (fun h32 => ?_)
  ·replace H := ift h32 H
   refine awp_seq ?_
   refine awp_plain hN rfl ?_
   refine qe rfl ?_
   refine awp_ret ?_
   cases H
   exact ⟨trivial, .inl rfl, trivial⟩
  ·replace H := iff_ h32 H
   refine awp_skip ?_
   refine awp_seq ?_
   refine awp_plain hN rfl ?_
   refine seq_run0 (stp_move (.ptr _ _) rfl) ?_
   obtain ⟨r33, h34, H⟩ := bnd H
   refine seq_run2 (stp_imp (k_gatemake_Stream_EventText r8.2 r33 h34) rfl trivial rfl) rfl ?_
   refine qe rfl ?_
   refine awp_seq ?_
   refine awp_plain hN rfl ?_
   refine qd rfl ?_
   obtain ⟨r35, h36, H⟩ := bnd H
   refine seq_run0 (stp_call (k_portal_Read r33.1 r35 h36) ⟨.inl rfl, trivial⟩) ?_
   refine qd rfl ?_
   refine seq_run0 (stp_ext rfl rfl) ?_
   refine seq_run0 (stp_ext rfl rfl) ?_
   refine seq_run0 (stp_ext rfl rfl) ?_
   refine qe rfl ?_
   refine qe rfl ?_
   refine qe rfl ?_
   refine awp_seq ?_
   refine awp_plain hN rfl ?_
   refine qd rfl ?_
   obtain ⟨r37, h38, H⟩ := bnd H
   refine seq_run0 (stp_call (k_gateref2_EventsRead r33.1 r37 h38) ⟨.inl rfl, trivial⟩) ?_
   refine qd rfl ?_
   refine seq_run0 (stp_ext rfl rfl) ?_
   refine seq_run0 (stp_ext rfl rfl) ?_
   refine seq_run0 (stp_ext rfl rfl) ?_
   refine qe rfl ?_
   refine qe rfl ?_
   refine qe rfl ?_
   refine awp_joinE (ι := Bool) (fun i => [(2, .dat (vbool i))]) (fun i => []) (fun i => gatelaw2_EventTexts_J2 i = some r) (fun i => rfl) ?_ ?_
   ·skip
    refine awp_plain hN rfl ?_
    refine qd rfl ?_
    refine qd rfl ?_
    refine seq_run0 (stp_eql rfl rfl) ?_
    refine qd rfl ?_
    refine seq_split (j := 3) rfl rfl (fun h39 => ?_) (fun h39 => ?_) rfl
    ·have h40 := un1 h39
     replace H := ift h40 H
     refine seq_g0 rfl rfl h39 (stp_move (.dat _) rfl) ?_
     refine seq_g0 rfl rfl h39 (stp_move (.dat _) rfl) ?_
     refine seq_g0 rfl rfl h39 (stp_eql rfl rfl) ?_
     refine seq_run0 (stp_pick_t rfl (bTT h40) rfl) ?_
     refine qd rfl ?_
     refine seq_split (j := 8) rfl rfl (fun h41 => ?_) (fun h41 => ?_) rfl
     ·have h42 := un1 h41
      replace H := ift h42 H
      refine seq_g0 rfl rfl h41 (stp_move (.dat _) rfl) ?_
      refine seq_g0 rfl rfl h41 (stp_move (.dat _) rfl) ?_
      obtain ⟨r43, h44, H⟩ := bnd H
      refine seq_g0 rfl rfl h41 (stp_call (k_slices_Equal_L_api_Event_api_Event_ r35.1 r37.1 r43 h44) ⟨.inl rfl, .inl rfl, trivial⟩) ?_
      refine seq_run0 (stp_pick_t rfl (bTT h42) rfl) ?_
      refine qd rfl ?_
      refine seq_split (j := 13) rfl rfl (fun h45 => ?_) (fun h45 => ?_) rfl
      ·have h46 := un1 h45
       replace H := ift h46 H
       obtain ⟨r47, h48, H⟩ := bnd H
       refine seq_g0 rfl rfl h45 (stp_call (k_gatelaw2_priced  r47 h48) trivial) ?_
       refine seq_run0 (stp_pick_t rfl (bTT h46) rfl) ?_
       refine qe rfl ?_
       exact ⟨r47, H, ⟨rfl, trivial⟩, trivial⟩
      ·have h49 := un2 h45
       replace H := iff_ h49 H
       refine seq_skip rfl rfl h45 ?_
       refine seq_run0 (stp_pick_f rfl (bFF h49) rfl) ?_
       refine qe rfl ?_
       exact ⟨false, H, ⟨rfl, trivial⟩, trivial⟩
     ·have h50 := un2 h41
      replace H := iff_ h50 H
      refine seq_skip rfl rfl h41 ?_
      refine seq_skip rfl rfl h41 ?_
      refine seq_skip rfl rfl h41 ?_
      refine seq_run0 (stp_pick_f rfl (bFF h50) rfl) ?_
      refine qd rfl ?_
      refine seq_skip rfl rfl rfl ?_
      refine seq_run0 (stp_pick_f rfl rfl rfl) ?_
      refine qe rfl ?_
      exact ⟨false, H, ⟨rfl, trivial⟩, trivial⟩
    ·have h51 := un2 h39
     replace H := iff_ h51 H
     refine seq_skip rfl rfl h39 ?_
     refine seq_skip rfl rfl h39 ?_
     refine seq_skip rfl rfl h39 ?_
     refine seq_run0 (stp_pick_f rfl (bFF h51) rfl) ?_
     refine qd rfl ?_
     refine seq_skip rfl rfl rfl ?_
     refine seq_skip rfl rfl rfl ?_
     refine seq_skip rfl rfl rfl ?_
     refine seq_run0 (stp_pick_f rfl rfl rfl) ?_
     refine qd rfl ?_
     refine seq_skip rfl rfl rfl ?_
     refine seq_run0 (stp_pick_f rfl rfl rfl) ?_
     refine qe rfl ?_
     exact ⟨false, H, ⟨rfl, trivial⟩, trivial⟩
   ·rintro v52 H
    replace H : gatelaw2_EventTexts_J2 v52 = some r := H
    unfold gatelaw2_EventTexts_J2 at H
    refine awp_ret ?_
    cases H
    exact ⟨trivial, .inl rfl, trivial⟩
end Go.Proofs.YtloinbpihpcblaaGreatDoor
