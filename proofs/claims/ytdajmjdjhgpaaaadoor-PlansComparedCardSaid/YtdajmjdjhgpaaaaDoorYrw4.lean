/- Walks along the models. Printed by a program. -/
import Derived.Test.YtdajmjdjhgpaaaaDoorYrw3
namespace Go.Proofs.YtdajmjdjhgpaaaaDoor
open Go.RowKit
set_option linter.unusedVariables false
set_option maxRecDepth 20000
set_option maxHeartbeats 2000000
theorem k_gatelaw2_PlansCompared (v1 : (List Int)) (r : (Bool)) (H : m_gatelaw2_PlansCompared v1 = some r) : Fn Tryd.prog 4 [vlst (List.map C_int v1)] (resOf [vbool r]) := by
 refine ⟨by kernel_rfl, pure_of (us := [vbool r]) Tryd.func4 rfl rfl rfl rfl fun X hN => ?_⟩
 unfold m_gatelaw2_PlansCompared at H
 refine awp_seq ?_
 refine awp_plain hN rfl ?_
 refine qe rfl ?_
 refine awp_seq ?_
 refine awp_plain hN rfl ?_
 refine qd rfl ?_
 refine seq_run0 (stp_dat (u' := vagg (C_gatemake_Stream (S_gatemake_Stream.mk v1 0))) (stp_build [(0, [vlst (List.map C_int v1)])] tyZ25 tyP25 rfl ⟨rfl, .inl ⟨_, rfl, rfl, rfl⟩, rfl, trivial⟩) rfl) ?_
 refine seq_run2 (stp_boxA 1 rfl) rfl ?_
 refine seq_run0 (stp_assign (.ptr _ _) rfl) ?_
 refine awp_seq ?_
 refine awp_plain hN rfl ?_
 refine seq_run0 (stp_move (.ptr _ _) rfl) ?_
 obtain ⟨r2, h3, H⟩ := bnd H
 refine seq_run2 (stp_imp (k_gatemake_Stream_Catalog (S_gatemake_Stream.mk v1 0) r2 h3) rfl trivial rfl) rfl ?_
 refine seq_run0 (stp_move (.ptr _ _) rfl) ?_
 obtain ⟨r4, h5, H⟩ := bnd H
 refine seq_run2 (stp_imp (k_gatemake_Stream_ProductKey r2.2 r4 h5) rfl trivial rfl) rfl ?_
 refine seq_run0 (stp_move (.ptr _ _) rfl) ?_
 refine seq_run0 (stp_dat (u' := vlst (List.map C_int [0, 10, 100, 500, 2000, (-1)])) (stp_lit [[_], [_], [_], [_], [_], [_]] tyL22 ⟨rfl, .inl ⟨_, rfl, rfl, rfl⟩, rfl, rfl, .inl ⟨_, rfl, rfl, rfl⟩, rfl, rfl, .inl ⟨_, rfl, rfl, rfl⟩, rfl, rfl, .inl ⟨_, rfl, rfl, rfl⟩, rfl, rfl, .inl ⟨_, rfl, rfl, rfl⟩, rfl, rfl, .inl ⟨_, rfl, rfl, rfl⟩, rfl, trivial⟩ rfl rfl) rfl) ?_
 obtain ⟨r6, h7, H⟩ := bnd H
 refine seq_run2 (stp_imp (k_gatemake_Stream_Pick r4.2 [0, 10, 100, 500, 2000, (-1)] r6 h7) rfl ⟨.inl rfl, trivial⟩ rfl) rfl ?_
 refine seq_run2 (stp_alloc 2 tyZ29 rfl) rfl ?_
 refine seq_run2 (stp_storeW tyS29 rfl rfl rfl rfl) rfl ?_
 refine qe rfl ?_
 refine qe rfl ?_
 refine awp_seq ?_
 refine awp_plain hN rfl ?_
 refine seq_run0 (stp_move (.ptr _ _) rfl) ?_
 refine seq_run0 (stp_dat (u' := vlst (List.map C_string [[98, 105, 103], [109, 105, 100], [110, 111, 110, 101]])) (stp_lit [[_], [_], [_]] tyL63 ⟨rfl, .inl ⟨_, rfl, rfl, rfl⟩, rfl, rfl, .inl ⟨_, rfl, rfl, rfl⟩, rfl, rfl, .inl ⟨_, rfl, rfl, rfl⟩, rfl, trivial⟩ rfl rfl) rfl) ?_
 obtain ⟨r8, h9, H⟩ := bnd H
 refine seq_run2 (stp_imp (k_gatemake_Stream_Some r6.2 ([[98, 105, 103], [109, 105, 100], [110, 111, 110, 101]]) r8 h9) rfl ⟨.inl rfl, trivial⟩ rfl) rfl ?_
 refine seq_run0 (stp_move (.ptr _ _) rfl) ?_
 refine seq_run0 (stp_dat (u' := vlst (List.map C_string [[115, 109, 97, 108, 108], [102, 114, 101, 101], [98, 105, 103]])) (stp_lit [[_], [_], [_]] tyL63 ⟨rfl, .inl ⟨_, rfl, rfl, rfl⟩, rfl, rfl, .inl ⟨_, rfl, rfl, rfl⟩, rfl, rfl, .inl ⟨_, rfl, rfl, rfl⟩, rfl, trivial⟩ rfl rfl) rfl) ?_
 obtain ⟨r10, h11, H⟩ := bnd H
 refine seq_run2 (stp_imp (k_gatemake_Stream_Some r8.2 ([[115, 109, 97, 108, 108], [102, 114, 101, 101], [98, 105, 103]]) r10 h11) rfl ⟨.inl rfl, trivial⟩ rfl) rfl ?_
 refine seq_run0 (stp_move (.ptr _ _) rfl) ?_
 refine seq_run0 (stp_dat (u' := vlst (List.map C_int [0, 10, 200, 1000, (-1), 100001])) (stp_lit [[_], [_], [_], [_], [_], [_]] tyL22 ⟨rfl, .inl ⟨_, rfl, rfl, rfl⟩, rfl, rfl, .inl ⟨_, rfl, rfl, rfl⟩, rfl, rfl, .inl ⟨_, rfl, rfl, rfl⟩, rfl, rfl, .inl ⟨_, rfl, rfl, rfl⟩, rfl, rfl, .inl ⟨_, rfl, rfl, rfl⟩, rfl, rfl, .inl ⟨_, rfl, rfl, rfl⟩, rfl, trivial⟩ rfl rfl) rfl) ?_
 obtain ⟨r12, h13, H⟩ := bnd H
 refine seq_run2 (stp_imp (k_gatemake_Stream_Pick r10.2 [0, 10, 200, 1000, (-1), 100001] r12 h13) rfl ⟨.inl rfl, trivial⟩ rfl) rfl ?_
 refine qe rfl ?_
 refine qe rfl ?_
 refine qe rfl ?_
 refine awp_seq ?_
 refine awp_plain hN rfl ?_
 refine seq_run1 (stp_loadA tyS29 rfl rfl rfl) rfl ?_
 refine qd rfl ?_
 refine qd rfl ?_
 obtain ⟨r14, h15, H⟩ := bnd H
 refine seq_run0 (stp_call (k_portal_Cheapest r2.1 r4.1 r6.1 r14 h15) ⟨.inl rfl, .inl rfl, .inl rfl, trivial⟩) ?_
 refine qd rfl ?_
 refine seq_run0 (stp_ext rfl rfl) ?_
 refine seq_run0 (stp_ext rfl rfl) ?_
 refine seq_run0 (stp_ext rfl rfl) ?_
 refine qe rfl ?_
 refine qe rfl ?_
 refine qe rfl ?_
 refine awp_seq ?_
 refine awp_plain hN rfl ?_
 refine seq_run1 (stp_loadA tyS29 rfl rfl rfl) rfl ?_
 refine qd rfl ?_
 refine qd rfl ?_
 refine qd rfl ?_
 obtain ⟨r16, h17, H⟩ := bnd H
 refine seq_run0 (stp_call (k_portal_Level r2.1 r8.1 r10.1 r12.1 r16 h17) ⟨.inl rfl, .inl rfl, .inl rfl, .inl rfl, trivial⟩) ?_
 refine qd rfl ?_
 refine seq_run0 (stp_ext rfl rfl) ?_
 refine seq_run0 (stp_ext rfl rfl) ?_
 refine qe rfl ?_
 refine qe rfl ?_
 refine awp_seq ?_
 refine awp_plain hN rfl ?_
 refine seq_run1 (stp_loadA tyS29 rfl rfl rfl) rfl ?_
 obtain ⟨r18, h19, H⟩ := bnd H
 refine seq_run0 (stp_call (k_gateref2_CatalogFault r2.1 r18 h19) ⟨.inl rfl, trivial⟩) ?_
 refine qe rfl ?_
 refine awp_seq ?_
 refine awp_plain hN rfl ?_
 refine qd rfl ?_
 refine seq_run1 (stp_loadA tyS29 rfl rfl rfl) rfl ?_
 refine qd rfl ?_
 obtain ⟨r20, h21, H⟩ := bnd H
 refine seq_run0 (stp_call (k_gateref2_ProductAt r2.1 r4.1 r20 h21) ⟨.inl rfl, .inl rfl, trivial⟩) ?_
 refine seq_run0 (stp_lss rfl rfl) ?_
 obtain ⟨r22, h23, H⟩ := bnd H
 refine seq_run0 (stp_call (k_gatelaw2_when (decide (r20 < 0)) 8 r22 h23) ⟨.inl rfl, .inl rfl, trivial⟩) ?_
 refine qd rfl ?_
 refine seq_run0 (stp_lss rfl rfl) ?_
 refine qd rfl ?_
 refine seq_aF rfl rfl (fun hc => stp_move (.dat _) rfl) ?_
 refine seq_aF rfl rfl (fun hc => stp_gtr (cnd (c := (!(decide (r6.1 < 0)))) hc) rfl) ?_
 refine seq_run0 (stp_pick_or rfl rfl (fun hb => (cnd (c := (!(decide (r6.1 < 0)))) (notI hb)))) ?_
 obtain ⟨r24, h25, H⟩ := bnd H
 refine seq_run0 (stp_call (k_gatelaw2_when ((decide (r6.1 < 0)) || (decide (1000000000000 < r6.1))) 1 r24 h25) ⟨.inl rfl, .inl rfl, trivial⟩) ?_
 refine seq_run0 (stp_dat (u' := vlst (List.map C_api_Errno [r18, r22, r24])) (stp_lit [[_], [_], [_]] tyL78 ⟨rfl, .inl ⟨_, rfl, rfl, rfl⟩, rfl, rfl, .inl ⟨_, rfl, rfl, rfl⟩, rfl, rfl, .inl ⟨_, rfl, rfl, rfl⟩, rfl, trivial⟩ rfl rfl) rfl) ?_
 obtain ⟨r26, h27, H⟩ := bnd H
 refine seq_run0 (stp_call (k_gatelaw2_errs [r18, r22, r24] r26 h27) ⟨.inl rfl, trivial⟩) ?_
 refine qe rfl ?_
 refine awp_joinE (ι := Int) (fun i => [(4, .ptr 2 0), (5, .dat (vstr r4.1)), (6, .dat (vint r6.1)), (7, .dat (vstr r8.1)), (8, .dat (vstr r10.1)), (9, .dat (vint r12.1)), (10, .dat (vstr r14.1)), (11, .dat (vint r14.2.1)), (12, .dat (vint r14.2.2)), (13, .dat (vint r16.1)), (14, .dat (vint r16.2)), (16, .dat (vint r26)), (17, .dat (vint i))]) (fun i => [(2, .box none 29 [.dat (vlst (List.map C_api_Product r2.1.Products)), .dat (vlst (List.map C_api_Plan r2.1.Plans))])]) (fun i => gatelaw2_PlansCompared_J1 r2 r4 r6 r8 r10 r12 r14 r16 r26 i = some r) (fun i => rfl) ?_ ?_
 ·skip
  refine awp_plain hN rfl ?_
  refine qd rfl ?_
  refine seq_run1 (stp_loadA tyS29 rfl rfl rfl) rfl ?_
  refine qd rfl ?_
  obtain ⟨r28, h29, H⟩ := bnd H
  refine seq_run0 (stp_call (k_gateref2_PlanAt r2.1 r8.1 r28 h29) ⟨.inl rfl, .inl rfl, trivial⟩) ?_
  refine seq_run0 (stp_lss rfl rfl) ?_
  refine qd rfl ?_
  refine seq_split (j := 5) rfl rfl (fun h30 => ?_) (fun h30 => ?_) rfl
  ·have h31 := un3 h30
   replace H := iff_ h31 H
   refine seq_g1 rfl rfl h30 (stp_loadA tyS29 rfl rfl rfl) rfl ?_
   refine seq_g0 rfl rfl h30 (stp_move (.dat _) rfl) ?_
   obtain ⟨r32, h33, H⟩ := bnd H
   refine seq_g0 rfl rfl h30 (stp_call (k_gateref2_PlanAt r2.1 r10.1 r32 h33) ⟨.inl rfl, .inl rfl, trivial⟩) ?_
   refine seq_g0 rfl rfl h30 (stp_lss rfl rfl) ?_
   refine seq_run0 (stp_pick_f rfl (bFF h31) rfl) ?_
   obtain ⟨r34, h35, H⟩ := bnd H
   refine seq_run0 (stp_call (k_gatelaw2_when (decide (r32 < 0)) 8 r34 h35) ⟨.inl rfl, .inl rfl, trivial⟩) ?_
   refine qd rfl ?_
   refine seq_run0 (stp_lss rfl rfl) ?_
   refine qd rfl ?_
   refine seq_split (j := 14) rfl rfl (fun h36 => ?_) (fun h36 => ?_) rfl
   ·have h37 := un3 h36
    replace H := iff_ h37 H
    refine seq_g0 rfl rfl h36 (stp_move (.dat _) rfl) ?_
    refine seq_g0 rfl rfl h36 (stp_gtr rfl rfl) ?_
    refine seq_run0 (stp_pick_f rfl (bFF h37) rfl) ?_
    obtain ⟨r38, h39, H⟩ := bnd H
    refine seq_run0 (stp_call (k_gatelaw2_when (decide (100000 < r12.1)) 1 r38 h39) ⟨.inl rfl, .inl rfl, trivial⟩) ?_
    refine seq_run0 (stp_dat (u' := vlst (List.map C_api_Errno [r18, r34, r38])) (stp_lit [[_], [_], [_]] tyL78 ⟨rfl, .inl ⟨_, rfl, rfl, rfl⟩, rfl, rfl, .inl ⟨_, rfl, rfl, rfl⟩, rfl, rfl, .inl ⟨_, rfl, rfl, rfl⟩, rfl, trivial⟩ rfl rfl) rfl) ?_
    obtain ⟨r40, h41, H⟩ := bnd H
    refine seq_run0 (stp_call (k_gatelaw2_errs [r18, r34, r38] r40 h41) ⟨.inl rfl, trivial⟩) ?_
    refine qe rfl ?_
    exact ⟨r40, H, ⟨rfl, rfl, rfl, rfl, rfl, rfl, rfl, rfl, rfl, rfl, rfl, rfl, rfl, trivial⟩, ⟨rfl, trivial⟩⟩
   ·have h42 := un4 h36
    replace H := ift h42 H
    refine seq_skip rfl rfl h36 ?_
    refine seq_skip rfl rfl h36 ?_
    refine seq_run0 (stp_pick_t rfl (bTT h42) rfl) ?_
    obtain ⟨r43, h44, H⟩ := bnd H
    refine seq_run0 (stp_call (k_gatelaw2_when true 1 r43 h44) ⟨.inl rfl, .inl rfl, trivial⟩) ?_
    refine seq_run0 (stp_dat (u' := vlst (List.map C_api_Errno [r18, r34, r43])) (stp_lit [[_], [_], [_]] tyL78 ⟨rfl, .inl ⟨_, rfl, rfl, rfl⟩, rfl, rfl, .inl ⟨_, rfl, rfl, rfl⟩, rfl, rfl, .inl ⟨_, rfl, rfl, rfl⟩, rfl, trivial⟩ rfl rfl) rfl) ?_
    obtain ⟨r45, h46, H⟩ := bnd H
    refine seq_run0 (stp_call (k_gatelaw2_errs [r18, r34, r43] r45 h46) ⟨.inl rfl, trivial⟩) ?_
    refine qe rfl ?_
    exact ⟨r45, H, ⟨rfl, rfl, rfl, rfl, rfl, rfl, rfl, rfl, rfl, rfl, rfl, rfl, rfl, trivial⟩, ⟨rfl, trivial⟩⟩
  ·have h47 := un4 h30
   replace H := ift h47 H
   refine seq_skip rfl rfl h30 ?_
   refine seq_skip rfl rfl h30 ?_
   refine seq_skip rfl rfl h30 ?_
   refine seq_skip rfl rfl h30 ?_
   refine seq_run0 (stp_pick_t rfl (bTT h47) rfl) ?_
   obtain ⟨r48, h49, H⟩ := bnd H
   refine seq_run0 (stp_call (k_gatelaw2_when true 8 r48 h49) ⟨.inl rfl, .inl rfl, trivial⟩) ?_
   refine qd rfl ?_
   refine seq_run0 (stp_lss rfl rfl) ?_
   refine qd rfl ?_
   refine seq_split (j := 14) rfl rfl (fun h50 => ?_) (fun h50 => ?_) rfl
   ·have h51 := un3 h50
    replace H := iff_ h51 H
    refine seq_g0 rfl rfl h50 (stp_move (.dat _) rfl) ?_
    refine seq_g0 rfl rfl h50 (stp_gtr rfl rfl) ?_
    refine seq_run0 (stp_pick_f rfl (bFF h51) rfl) ?_
    obtain ⟨r52, h53, H⟩ := bnd H
    refine seq_run0 (stp_call (k_gatelaw2_when (decide (100000 < r12.1)) 1 r52 h53) ⟨.inl rfl, .inl rfl, trivial⟩) ?_
    refine seq_run0 (stp_dat (u' := vlst (List.map C_api_Errno [r18, r48, r52])) (stp_lit [[_], [_], [_]] tyL78 ⟨rfl, .inl ⟨_, rfl, rfl, rfl⟩, rfl, rfl, .inl ⟨_, rfl, rfl, rfl⟩, rfl, rfl, .inl ⟨_, rfl, rfl, rfl⟩, rfl, trivial⟩ rfl rfl) rfl) ?_
    obtain ⟨r54, h55, H⟩ := bnd H
    refine seq_run0 (stp_call (k_gatelaw2_errs [r18, r48, r52] r54 h55) ⟨.inl rfl, trivial⟩) ?_
    refine qe rfl ?_
    exact ⟨r54, H, ⟨rfl, rfl, rfl, rfl, rfl, rfl, rfl, rfl, rfl, rfl, rfl, rfl, rfl, trivial⟩, ⟨rfl, trivial⟩⟩
   ·have h56 := un4 h50
    replace H := ift h56 H
    refine seq_skip rfl rfl h50 ?_
    refine seq_skip rfl rfl h50 ?_
    refine seq_run0 (stp_pick_t rfl (bTT h56) rfl) ?_
    obtain ⟨r57, h58, H⟩ := bnd H
    refine seq_run0 (stp_call (k_gatelaw2_when true 1 r57 h58) ⟨.inl rfl, .inl rfl, trivial⟩) ?_
    refine seq_run0 (stp_dat (u' := vlst (List.map C_api_Errno [r18, r48, r57])) (stp_lit [[_], [_], [_]] tyL78 ⟨rfl, .inl ⟨_, rfl, rfl, rfl⟩, rfl, rfl, .inl ⟨_, rfl, rfl, rfl⟩, rfl, rfl, .inl ⟨_, rfl, rfl, rfl⟩, rfl, trivial⟩ rfl rfl) rfl) ?_
    obtain ⟨r59, h60, H⟩ := bnd H
    refine seq_run0 (stp_call (k_gatelaw2_errs [r18, r48, r57] r59 h60) ⟨.inl rfl, trivial⟩) ?_
    refine qe rfl ?_
    exact ⟨r59, H, ⟨rfl, rfl, rfl, rfl, rfl, rfl, rfl, rfl, rfl, rfl, rfl, rfl, rfl, trivial⟩, ⟨rfl, trivial⟩⟩
 ·rintro v61 H
  replace H : gatelaw2_PlansCompared_J1 r2 r4 r6 r8 r10 r12 r14 r16 r26 v61 = some r := H
  unfold gatelaw2_PlansCompared_J1 at H
  refine awp_seq ?_
  refine awp_plain hN rfl ?_
  refine qe rfl ?_
  refine qe rfl ?_
  refine qe rfl ?_
  refine awp_joinE (ι := Int × Bs × Int) (fun i => [(4, .ptr 2 0), (7, .dat (vstr r8.1)), (8, .dat (vstr r10.1)), (9, .dat (vint r12.1)), (10, .dat (vstr r14.1)), (11, .dat (vint r14.2.1)), (12, .dat (vint r14.2.2)), (13, .dat (vint r16.1)), (14, .dat (vint r16.2)), (16, .dat (vint i.1)), (17, .dat (vint v61)), (18, .dat (vstr i.2.1)), (19, .dat (vint i.2.2)), (20, .dat (vint 0))]) (fun i => [(2, .box none 29 [.dat (vlst (List.map C_api_Product r2.1.Products)), .dat (vlst (List.map C_api_Plan r2.1.Plans))])]) (fun i => gatelaw2_PlansCompared_J2 r2 r8 r10 r12 r14 r16 v61 i.1 i.2.1 i.2.2 = some r) (fun i => rfl) ?_ ?_
  ·skip
   refine awp_seq ?_
   refine awp_plain hN rfl ?_
   refine qd rfl ?_
   refine seq_run0 (stp_eql rfl rfl) ?_
   refine awp_cond _ rfl (fun h62 => ?_) (fun h62 => ?_)
   ·replace H := ift h62 H
    refine awp_seq ?_
    refine awp_plain hN rfl ?_
    refine seq_run1 (stp_loadA tyS29 rfl rfl rfl) rfl ?_
    refine qd rfl ?_
    refine qd rfl ?_
    obtain ⟨r63, h64, H⟩ := bnd H
    refine seq_run0 (stp_call (k_gateref2_CheapestOf r2.1 r4.1 r6.1 r63 h64) ⟨.inl rfl, .inl rfl, .inl rfl, trivial⟩) ?_
    refine qd rfl ?_
    refine seq_run0 (stp_ext rfl rfl) ?_
    refine seq_run0 (stp_ext rfl rfl) ?_
    refine seq_run0 (stp_ext rfl rfl) ?_
    refine qe rfl ?_
    refine qe rfl ?_
    refine qe rfl ?_
    refine awp_plain hN rfl ?_
    refine qd rfl ?_
    refine qd rfl ?_
    refine qd rfl ?_
    refine seq_run0 (stp_not rfl) ?_
    obtain ⟨r65, h66, H⟩ := bnd H
    refine seq_run0 (stp_call (k_gatelaw2_when (!r63.2.2) 8 r65 h66) ⟨.inl rfl, .inl rfl, trivial⟩) ?_
    refine qe rfl ?_
    refine qe rfl ?_
    refine qe rfl ?_
    exact ⟨(r65, r63.1, r63.2.1), H, ⟨rfl, rfl, rfl, rfl, rfl, rfl, rfl, rfl, rfl, rfl, rfl, rfl, rfl, rfl, trivial⟩, ⟨rfl, trivial⟩⟩
   ·replace H := iff_ h62 H
    refine awp_skip ?_
    exact ⟨(r26, [], 0), H, ⟨rfl, rfl, rfl, rfl, rfl, rfl, rfl, rfl, rfl, rfl, rfl, rfl, rfl, rfl, trivial⟩, ⟨rfl, trivial⟩⟩
  ·rintro ⟨v67, v68, v69⟩ H
   replace H : gatelaw2_PlansCompared_J2 r2 r8 r10 r12 r14 r16 v61 v67 v68 v69 = some r := H
   unfold gatelaw2_PlansCompared_J2 at H
   refine awp_joinE (ι := Int × Int) (fun i => [(10, .dat (vstr r14.1)), (11, .dat (vint r14.2.1)), (12, .dat (vint r14.2.2)), (13, .dat (vint r16.1)), (14, .dat (vint r16.2)), (16, .dat (vint v67)), (17, .dat (vint i.1)), (18, .dat (vstr v68)), (19, .dat (vint v69)), (20, .dat (vint i.2))]) (fun i => []) (fun i => gatelaw2_PlansCompared_J3 r14 r16 v67 v68 v69 i.1 i.2 = some r) (fun i => rfl) ?_ ?_
   ·skip
    refine awp_seq ?_
    refine awp_plain hN rfl ?_
    refine qd rfl ?_
    refine seq_run0 (stp_eql rfl rfl) ?_
    refine awp_cond _ rfl (fun h70 => ?_) (fun h70 => ?_)
    ·replace H := ift h70 H
     refine awp_seq ?_
     refine awp_draw mixed hN rfl rfl ?_
     refine seq_run0 (stp_fldP tyF29_1 rfl) ?_
     refine seq_run1 (stp_load1 tyS27 rfl rfl) rfl ?_
     refine seq_run1 (stp_loadA tyS29 rfl rfl rfl) rfl ?_
     refine qd rfl ?_
     obtain ⟨r71, h72, H⟩ := bnd H
     refine seq_run0 (stp_call (k_gateref2_PlanAt r2.1 r8.1 r71 h72) ⟨.inl rfl, .inl rfl, trivial⟩) ?_
     obtain ⟨x73, h74, H⟩ := bnd H
     refine seq_run0 (t_idxI tyE27 (fun _ => rfl) rfl rfl h74) ?_
     refine seq_run0 (stp_loadEA tyS35 rfl (map_at (at_some h74).2) rfl) ?_
     refine seq_run0 (stp_fldP tyF29_1 rfl) ?_
     refine seq_run1 (stp_load1 tyS27 rfl rfl) rfl ?_
     refine seq_run1 (stp_loadA tyS29 rfl rfl rfl) rfl ?_
     refine qd rfl ?_
     obtain ⟨r75, h76, H⟩ := bnd H
     refine seq_run0 (stp_call (k_gateref2_PlanAt r2.1 r10.1 r75 h76) ⟨.inl rfl, .inl rfl, trivial⟩) ?_
     obtain ⟨x77, h78, H⟩ := bnd H
     refine seq_run0 (t_idxI tyE27 (fun _ => rfl) rfl rfl h78) ?_
     refine seq_run0 (stp_loadEA tyS35 rfl (map_at (at_some h78).2) rfl) ?_
     refine qd rfl ?_
     obtain ⟨r79, h80, H⟩ := bnd H
     refine seq_run0 (stp_call (k_gateref2_LevelOf x73 x77 r12.1 r79 h80) ⟨.inl rfl, .inl rfl, .inl rfl, trivial⟩) ?_
     refine qd rfl ?_
     refine seq_run0 (stp_ext rfl rfl) ?_
     refine seq_run0 (stp_ext rfl rfl) ?_
     refine qe rfl ?_
     refine qe rfl ?_
     refine ⟨rfl, ?_⟩
     refine awp_plain hN rfl ?_
     refine qd rfl ?_
     refine qd rfl ?_
     refine seq_run0 (stp_not rfl) ?_
     obtain ⟨r81, h82, H⟩ := bnd H
     refine seq_run0 (stp_call (k_gatelaw2_when (!r79.2) 8 r81 h82) ⟨.inl rfl, .inl rfl, trivial⟩) ?_
     refine qe rfl ?_
     refine qe rfl ?_
     exact ⟨(r81, r79.1), H, ⟨rfl, rfl, rfl, rfl, rfl, rfl, rfl, rfl, rfl, rfl, trivial⟩, trivial⟩
    ·replace H := iff_ h70 H
     refine awp_skip ?_
     exact ⟨(v61, 0), H, ⟨rfl, rfl, rfl, rfl, rfl, rfl, rfl, rfl, rfl, rfl, trivial⟩, trivial⟩
   ·rintro ⟨v83, v84⟩ H
    replace H : gatelaw2_PlansCompared_J3 r14 r16 v67 v68 v69 v83 v84 = some r := H
    unfold gatelaw2_PlansCompared_J3 at H
    refine awp_joinE (ι := Bool) (fun i => [(2, .dat (vbool i))]) (fun i => []) (fun i => gatelaw2_PlansCompared_J4 i = some r) (fun i => rfl) ?_ ?_
    ·skip
     refine awp_plain hN rfl ?_
     refine qd rfl ?_
     refine qd rfl ?_
     refine seq_run0 (stp_eql rfl rfl) ?_
     refine qd rfl ?_
     refine seq_split (j := 3) rfl rfl (fun h85 => ?_) (fun h85 => ?_) rfl
     ·have h86 := un1 h85
      replace H := ift h86 H
      refine seq_g0 rfl rfl h85 (stp_move (.dat _) rfl) ?_
      refine seq_g0 rfl rfl h85 (stp_move (.dat _) rfl) ?_
      refine seq_g0 rfl rfl h85 (stp_seql rfl rfl) ?_
      refine seq_run0 (stp_pick_t rfl (bTT h86) rfl) ?_
      refine qd rfl ?_
      refine seq_split (j := 8) rfl rfl (fun h87 => ?_) (fun h87 => ?_) rfl
      ·have h88 := un1 h87
       replace H := ift h88 H
       refine seq_g0 rfl rfl h87 (stp_move (.dat _) rfl) ?_
       refine seq_g0 rfl rfl h87 (stp_move (.dat _) rfl) ?_
       refine seq_g0 rfl rfl h87 (stp_eql rfl rfl) ?_
       refine seq_run0 (stp_pick_t rfl (bTT h88) rfl) ?_
       refine qd rfl ?_
       refine seq_split (j := 13) rfl rfl (fun h89 => ?_) (fun h89 => ?_) rfl
       ·have h90 := un1 h89
        replace H := ift h90 H
        refine seq_g0 rfl rfl h89 (stp_move (.dat _) rfl) ?_
        refine seq_g0 rfl rfl h89 (stp_move (.dat _) rfl) ?_
        refine seq_g0 rfl rfl h89 (stp_eql rfl rfl) ?_
        refine seq_run0 (stp_pick_t rfl (bTT h90) rfl) ?_
        refine qd rfl ?_
        refine seq_split (j := 18) rfl rfl (fun h91 => ?_) (fun h91 => ?_) rfl
        ·have h92 := un1 h91
         replace H := ift h92 H
         refine seq_g0 rfl rfl h91 (stp_move (.dat _) rfl) ?_
         refine seq_g0 rfl rfl h91 (stp_move (.dat _) rfl) ?_
         refine seq_g0 rfl rfl h91 (stp_eql rfl rfl) ?_
         refine seq_run0 (stp_pick_t rfl (bTT h92) rfl) ?_
         refine qd rfl ?_
         refine seq_split (j := 23) rfl rfl (fun h93 => ?_) (fun h93 => ?_) rfl
         ·have h94 := un1 h93
          replace H := ift h94 H
          obtain ⟨r95, h96, H⟩ := bnd H
          refine seq_g0 rfl rfl h93 (stp_call (k_gatelaw2_priced  r95 h96) trivial) ?_
          refine seq_run0 (stp_pick_t rfl (bTT h94) rfl) ?_
          refine qe rfl ?_
          exact ⟨r95, H, ⟨rfl, trivial⟩, trivial⟩
         ·have h97 := un2 h93
          replace H := iff_ h97 H
          refine seq_skip rfl rfl h93 ?_
          refine seq_run0 (stp_pick_f rfl (bFF h97) rfl) ?_
          refine qe rfl ?_
          exact ⟨false, H, ⟨rfl, trivial⟩, trivial⟩
        ·have h98 := un2 h91
         replace H := iff_ h98 H
         refine seq_skip rfl rfl h91 ?_
         refine seq_skip rfl rfl h91 ?_
         refine seq_skip rfl rfl h91 ?_
         refine seq_run0 (stp_pick_f rfl (bFF h98) rfl) ?_
         refine qd rfl ?_
         refine seq_skip rfl rfl rfl ?_
         refine seq_run0 (stp_pick_f rfl rfl rfl) ?_
         refine qe rfl ?_
         exact ⟨false, H, ⟨rfl, trivial⟩, trivial⟩
       ·have h99 := un2 h89
        replace H := iff_ h99 H
        refine seq_skip rfl rfl h89 ?_
        refine seq_skip rfl rfl h89 ?_
        refine seq_skip rfl rfl h89 ?_
        refine seq_run0 (stp_pick_f rfl (bFF h99) rfl) ?_
        refine qd rfl ?_
        refine seq_skip rfl rfl rfl ?_
        refine seq_skip rfl rfl rfl ?_
        refine seq_skip rfl rfl rfl ?_
        refine seq_run0 (stp_pick_f rfl rfl rfl) ?_
        refine qd rfl ?_
        refine seq_skip rfl rfl rfl ?_
        refine seq_run0 (stp_pick_f rfl rfl rfl) ?_
        refine qe rfl ?_
        exact ⟨false, H, ⟨rfl, trivial⟩, trivial⟩
      ·have h100 := un2 h87
       replace H := iff_ h100 H
       refine seq_skip rfl rfl h87 ?_
       refine seq_skip rfl rfl h87 ?_
       refine seq_skip rfl rfl h87 ?_
       refine seq_run0 (stp_pick_f rfl (bFF h100) rfl) ?_
       refine qd rfl ?_
       refine seq_skip rfl rfl rfl ?_
       refine seq_skip rfl rfl rfl ?_
       refine seq_skip rfl rfl rfl ?_
       refine seq_run0 (stp_pick_f rfl rfl rfl) ?_
       refine qd rfl ?_
       refine seq_skip rfl rfl rfl ?_
       refine seq_skip rfl rfl rfl ?_
       refine seq_skip rfl rfl rfl ?_
       refine seq_run0 (stp_pick_f rfl rfl rfl) ?_
       refine qd rfl ?_
       refine seq_skip rfl rfl rfl ?_
       refine seq_run0 (stp_pick_f rfl rfl rfl) ?_
       refine qe rfl ?_
       exact ⟨false, H, ⟨rfl, trivial⟩, trivial⟩
     ·have h101 := un2 h85
      replace H := iff_ h101 H
      refine seq_skip rfl rfl h85 ?_
      refine seq_skip rfl rfl h85 ?_
      refine seq_skip rfl rfl h85 ?_
      refine seq_run0 (stp_pick_f rfl (bFF h101) rfl) ?_
      refine qd rfl ?_
      refine seq_skip rfl rfl rfl ?_
      refine seq_skip rfl rfl rfl ?_
      refine seq_skip rfl rfl rfl ?_
      refine seq_run0 (stp_pick_f rfl rfl rfl) ?_
      refine qd rfl ?_
      refine seq_skip rfl rfl rfl ?_
      refine seq_skip rfl rfl rfl ?_
      refine seq_skip rfl rfl rfl ?_
      refine seq_run0 (stp_pick_f rfl rfl rfl) ?_
      refine qd rfl ?_
      refine seq_skip rfl rfl rfl ?_
      refine seq_skip rfl rfl rfl ?_
      refine seq_skip rfl rfl rfl ?_
      refine seq_run0 (stp_pick_f rfl rfl rfl) ?_
      refine qd rfl ?_
      refine seq_skip rfl rfl rfl ?_
      refine seq_run0 (stp_pick_f rfl rfl rfl) ?_
      refine qe rfl ?_
      exact ⟨false, H, ⟨rfl, trivial⟩, trivial⟩
    ·rintro v102 H
     replace H : gatelaw2_PlansCompared_J4 v102 = some r := H
     unfold gatelaw2_PlansCompared_J4 at H
     refine awp_ret ?_
     cases H
     exact ⟨trivial, .inl rfl, trivial⟩
end Go.Proofs.YtdajmjdjhgpaaaaDoor
