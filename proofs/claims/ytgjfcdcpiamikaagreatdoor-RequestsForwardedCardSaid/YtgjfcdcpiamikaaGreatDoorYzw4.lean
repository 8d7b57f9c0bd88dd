/- Walks along the models. Printed by a program. -/
import Derived.Test.YtgjfcdcpiamikaaGreatDoorYzw3
namespace Go.Proofs.YtgjfcdcpiamikaaGreatDoor
open Go.RowKit
set_option linter.unusedVariables false
set_option maxRecDepth 20000
set_option maxHeartbeats 2000000
theorem k_message_Forward (v1 : S_api_Request) (v2 : Bs) (r : (S_api_Request × Int)) (H : m_message_Forward v1 v2 = some r) : Fn Tryz.prog 8 [vagg (C_api_Request v1), vstr v2] (resOf [vagg (C_api_Request r.1), vint r.2]) := by
 refine ⟨by kernel_rfl, pure_of (us := [vagg (C_api_Request r.1), vint r.2]) Tryz.func8 rfl rfl rfl rfl fun X hN => ?_⟩
 unfold m_message_Forward at H
 refine awp_seq ?_
 refine awp_plain hN rfl ?_
 refine seq_run2 (stp_boxA 1 rfl) rfl ?_
 refine seq_run2 (stp_alloc 2 tyZ28 rfl) rfl ?_
 refine qe rfl ?_
 refine awp_seq ?_
 refine awp_seq ?_
 refine awp_plain hN rfl ?_
 refine seq_run1 (stp_loadA tyS28 rfl rfl rfl) rfl ?_
 obtain ⟨r3, h4, H⟩ := bnd H
 refine seq_run0 (stp_call (k_message_CheckRequest v1 r3 h4) ⟨.inl rfl, trivial⟩) ?_
 refine qe rfl ?_
 refine awp_seq ?_
 refine awp_plain hN rfl ?_
 refine qd rfl ?_
 refine seq_run0 (stp_neq rfl rfl) ?_
 refine awp_cond _ rfl (fun h5 => ?_) (fun h5 => ?_)
 ·replace H := ift h5 H
  refine awp_seq ?_
  refine awp_plain hN rfl ?_
  refine seq_run0 (stp_wk (u' := vagg (C_api_Request (S_api_Request.mk 0 [] [] [] [] [] [] []))) (wk_agg (by exact ⟨wk_rfl, wk_rfl, wk_rfl, wk_rfl, wk_rfl, wk_rfl, wk_nil, wk_rfl, trivial⟩)) (stp_build [] tyZ28 tyP28 rfl trivial)) ?_
  refine qd rfl ?_
  refine seq_run2 (stp_storeW tyS28 rfl rfl rfl rfl) rfl ?_
  refine qe rfl ?_
  refine awp_ret ?_
  cases H
  exact ⟨trivial, .inl ⟨_, _, _, C_api_Request (S_api_Request.mk 0 [] [] [] [] [] [] []), rfl, rfl, rfl, rfl, tyS28⟩, .inl rfl, trivial⟩
 ·replace H := iff_ h5 H
  refine awp_skip ?_
  refine awp_seq ?_
  refine awp_seq ?_
  refine awp_plain hN rfl ?_
  refine qd rfl ?_
  obtain ⟨r6, h7, H⟩ := bnd H
  refine seq_run0 (stp_call (k_message_IsToken v2 r6 h7) ⟨.inl rfl, trivial⟩) ?_
  refine seq_run0 (stp_not rfl) ?_
  refine awp_cond _ rfl (fun h8 => ?_) (fun h8 => ?_)
  ·replace H := ift h8 H
   refine awp_seq ?_
   refine awp_plain hN rfl ?_
   refine seq_run0 (stp_wk (u' := vagg (C_api_Request (S_api_Request.mk 0 [] [] [] [] [] [] []))) (wk_agg (by exact ⟨wk_rfl, wk_rfl, wk_rfl, wk_rfl, wk_rfl, wk_rfl, wk_nil, wk_rfl, trivial⟩)) (stp_build [] tyZ28 tyP28 rfl trivial)) ?_
   refine seq_run2 (stp_storeW tyS28 rfl rfl rfl rfl) rfl ?_
   refine qe rfl ?_
   refine awp_ret ?_
   cases H
   exact ⟨trivial, .inl ⟨_, _, _, C_api_Request (S_api_Request.mk 0 [] [] [] [] [] [] []), rfl, rfl, rfl, rfl, tyS28⟩, .inl rfl, trivial⟩
  ·replace H := iff_ h8 H
   refine awp_skip ?_
   refine awp_seq ?_
   refine awp_plain hN rfl ?_
   refine seq_run0 (stp_fldP tyF28_6 rfl) ?_
   refine seq_run1 (stp_load1 tyS26 rfl rfl) rfl ?_
   obtain ⟨r9, h10, H⟩ := bnd H
   refine seq_run0 (stp_call (k_message_Values v1.Headers [118, 105, 97] r9 h10) ⟨.inl rfl, .inl rfl, trivial⟩) ?_
   obtain ⟨r11, h12, H⟩ := bnd H
   refine seq_run0 (stp_call (k_message_Parts r9 r11 h12) ⟨.inl rfl, trivial⟩) ?_
   refine qe rfl ?_
   refine awp_seq ?_
   refine awp_seq ?_
   refine awp_plain hN rfl ?_
   refine qd rfl ?_
   refine qd rfl ?_
   obtain ⟨r13, h14, H⟩ := bnd H
   refine seq_run0 (stp_call (k_slices_Contains_L_string_string_ r11 v2 r13 h14) ⟨.inl rfl, .inl rfl, trivial⟩) ?_
   refine awp_cond _ rfl (fun h15 => ?_) (fun h15 => ?_)
   ·replace H := ift h15 H
    refine awp_seq ?_
    refine awp_plain hN rfl ?_
    refine seq_run0 (stp_wk (u' := vagg (C_api_Request (S_api_Request.mk 0 [] [] [] [] [] [] []))) (wk_agg (by exact ⟨wk_rfl, wk_rfl, wk_rfl, wk_rfl, wk_rfl, wk_rfl, wk_nil, wk_rfl, trivial⟩)) (stp_build [] tyZ28 tyP28 rfl trivial)) ?_
    refine seq_run2 (stp_storeW tyS28 rfl rfl rfl rfl) rfl ?_
    refine qe rfl ?_
    refine awp_ret ?_
    cases H
    exact ⟨trivial, .inl ⟨_, _, _, C_api_Request (S_api_Request.mk 0 [] [] [] [] [] [] []), rfl, rfl, rfl, rfl, tyS28⟩, .inl rfl, trivial⟩
   ·replace H := iff_ h15 H
    refine awp_skip ?_
    refine awp_seq ?_
    refine awp_seq ?_
    refine awp_plain hN rfl ?_
    refine qd rfl ?_
    refine seq_run0 (t_len tyU31 rfl) ?_
    refine seq_run0 (stp_geq rfl rfl) ?_
    refine awp_cond _ rfl (fun h16 => ?_) (fun h16 => ?_)
    ·replace H := ift h16 H
     refine awp_seq ?_
     refine awp_plain hN rfl ?_
     refine seq_run0 (stp_wk (u' := vagg (C_api_Request (S_api_Request.mk 0 [] [] [] [] [] [] []))) (wk_agg (by exact ⟨wk_rfl, wk_rfl, wk_rfl, wk_rfl, wk_rfl, wk_rfl, wk_nil, wk_rfl, trivial⟩)) (stp_build [] tyZ28 tyP28 rfl trivial)) ?_
     refine seq_run2 (stp_storeW tyS28 rfl rfl rfl rfl) rfl ?_
     refine qe rfl ?_
     refine awp_ret ?_
     cases H
     exact ⟨trivial, .inl ⟨_, _, _, C_api_Request (S_api_Request.mk 0 [] [] [] [] [] [] []), rfl, rfl, rfl, rfl, tyS28⟩, .inl rfl, trivial⟩
    ·replace H := iff_ h16 H
     refine awp_skip ?_
     refine awp_seq ?_
     refine awp_plain hN rfl ?_
     refine seq_run0 (stp_fldP tyF28_6 rfl) ?_
     refine seq_run1 (stp_load1 tyS26 rfl rfl) rfl ?_
     obtain ⟨r17, h18, H⟩ := bnd H
     refine seq_run0 (stp_call (k_slices_Clone_L_api_Header_api_Header_ v1.Headers r17 h18) ⟨.inl rfl, trivial⟩) ?_
     refine qe rfl ?_
     refine awp_seq ?_
     refine awp_seq ?_
     refine awp_draw mixed hN rfl rfl ?_
     obtain ⟨r19, h20, H⟩ := bnd H
     refine seq_run0 (stp_call (k_message_hopNames  r19 h20) trivial) ?_
     refine seq_run0 (stp_fldP tyF28_6 rfl) ?_
     refine seq_run1 (stp_load1 tyS26 rfl rfl) rfl ?_
     obtain ⟨r21, h22, H⟩ := bnd H
     refine seq_run0 (stp_call (k_message_Values v1.Headers [99, 111, 110, 110, 101, 99, 116, 105, 111, 110] r21 h22) ⟨.inl rfl, .inl rfl, trivial⟩) ?_
     obtain ⟨r23, h24, H⟩ := bnd H
     refine seq_run0 (stp_call (k_message_Parts r21 r23 h24) ⟨.inl rfl, trivial⟩) ?_
     refine seq_run0 (stp_dat (u' := vlst (List.map C_L_string [r19, r23])) (stp_lit [[_], [_]] tyL93 ⟨rfl, .inl ⟨_, rfl, rfl, rfl⟩, rfl, rfl, .inl ⟨_, rfl, rfl, rfl⟩, rfl, trivial⟩ rfl rfl) rfl) ?_
     obtain ⟨r25, h26, H⟩ := bnd H
     refine seq_run0 (stp_call (k_slices_Concat_L_string_string_ [r19, r23] r25 h26) ⟨.inl rfl, trivial⟩) ?_
     refine seq_run0 (t_len tyU31 rfl) ?_
     refine qd rfl ?_
     refine ⟨rfl, ?_⟩
     refine awp_block ?_
     obtain ⟨h30, H⟩ := gif H
     refine awp_forL (fun (k28 : Nat) (s : (List S_api_Header)) => [(1, .dat (vstr v2)), (2, .ptr 1 0), (4, .ptr 2 0), (8, .dat (vlst (List.map C_api_Header s))), (43, .dat (vlst (List.map C_string r25))), (44, .dat (vint (r25.length : Int))), (45, .dat (vint (k28 : Int)))]) (fun (k28 : Nat) (s : (List S_api_Header)) => [(1, .box none 28 [.dat (vint v1.At), .dat (vstr v1.Method), .dat (vstr v1.Host), .dat (vstr v1.Path), .dat (vstr v1.Query), .dat (vstr v1.From), .dat (vlst (List.map C_api_Header v1.Headers)), .dat (vstr v1.Body)]), (2, .box none 28 [.dat (vint 0), .dat (vstr []), .dat (vstr []), .dat (vstr []), .dat (vstr []), .dat (vstr []), .dat (vnil), .dat (vstr [])])]) r17 H ⟨rfl, rfl, rfl, rfl, rfl, rfl, rfl, trivial⟩ ⟨rfl, rfl, trivial⟩ (fun _ _ => rfl) ?_ ?_
     ·rintro v27 H
      replace H : message_Forward_E1 v1 v2 v27 = some r := H
      unfold message_Forward_E1 at H
      refine awp_seq ?_
      refine awp_plain hN rfl ?_
      refine seq_run0 (stp_lss rfl rfl) ?_
      refine awp_seq ?_
      refine awp_cond _ rfl (fun h => (lt_t h).elim) (fun h => ?_)
      refine awp_exit ?_
      refine awp_joinE (ι := (List S_api_Header)) (fun i => [(1, .dat (vstr v2)), (2, .ptr 1 0), (4, .ptr 2 0), (8, .dat (vlst (List.map C_api_Header i)))]) (fun i => [(1, .box none 28 [.dat (vint v1.At), .dat (vstr v1.Method), .dat (vstr v1.Host), .dat (vstr v1.Path), .dat (vstr v1.Query), .dat (vstr v1.From), .dat (vlst (List.map C_api_Header v1.Headers)), .dat (vstr v1.Body)]), (2, .box none 28 [.dat (vint 0), .dat (vstr []), .dat (vstr []), .dat (vstr []), .dat (vstr []), .dat (vstr []), .dat (vnil), .dat (vstr [])])]) (fun i => message_Forward_J2 v1 v2 i = some r) (fun i => rfl) ?_ ?_
      ·skip
       refine awp_seq ?_
       refine awp_draw mixed hN rfl rfl ?_
       refine qd rfl ?_
       obtain ⟨r32, h33, H⟩ := bnd H
       refine seq_run0 (stp_call (k_message_Values v27 [120, 45, 102, 111, 114, 119, 97, 114, 100, 101, 100, 45, 102, 111, 114] r32 h33) ⟨.inl rfl, .inl rfl, trivial⟩) ?_
       refine seq_run0 (stp_fldP tyF28_5 rfl) ?_
       refine seq_run1 (stp_load1 tyS9 rfl rfl) rfl ?_
       obtain ⟨r34, h35, H⟩ := bnd H
       refine seq_run0 (stp_call (k_message_joined r32 v1.From r34 h35) ⟨.inl rfl, .inl rfl, trivial⟩) ?_
       refine qe rfl ?_
       refine ⟨rfl, ?_⟩
       refine awp_seq ?_
       refine awp_plain hN rfl ?_
       refine qd rfl ?_
       refine seq_run0 (stp_sneq rfl rfl) ?_
       refine awp_cond _ rfl (fun h36 => ?_) (fun h36 => ?_)
       ·replace H := ift h36 H
        refine awp_plain hN rfl ?_
        refine qd rfl ?_
        refine qd rfl ?_
        obtain ⟨r37, h38, H⟩ := bnd H
        refine seq_run0 (stp_call (k_message_set v27 [120, 45, 102, 111, 114, 119, 97, 114, 100, 101, 100, 45, 102, 111, 114] r34 r37 h38) ⟨.inl rfl, .inl rfl, .inl rfl, trivial⟩) ?_
        refine qe rfl ?_
        exact ⟨r37, H, ⟨rfl, rfl, rfl, rfl, trivial⟩, ⟨rfl, rfl, trivial⟩⟩
       ·replace H := iff_ h36 H
        refine awp_skip ?_
        exact ⟨v27, H, ⟨rfl, rfl, rfl, rfl, trivial⟩, ⟨rfl, rfl, trivial⟩⟩
      ·rintro v39 H
       replace H : message_Forward_J2 v1 v2 v39 = some r := H
       unfold message_Forward_J2 at H
       refine awp_joinE (ι := (List S_api_Header)) (fun i => [(1, .dat (vstr v2)), (2, .ptr 1 0), (4, .ptr 2 0), (8, .dat (vlst (List.map C_api_Header i)))]) (fun i => [(1, .box none 28 [.dat (vint v1.At), .dat (vstr v1.Method), .dat (vstr v1.Host), .dat (vstr v1.Path), .dat (vstr v1.Query), .dat (vstr v1.From), .dat (vlst (List.map C_api_Header v1.Headers)), .dat (vstr v1.Body)]), (2, .box none 28 [.dat (vint 0), .dat (vstr []), .dat (vstr []), .dat (vstr []), .dat (vstr []), .dat (vstr []), .dat (vnil), .dat (vstr [])])]) (fun i => message_Forward_J3 v1 v2 i = some r) (fun i => rfl) ?_ ?_
       ·skip
        refine awp_seq ?_
        refine awp_plain hN rfl ?_
        refine qd rfl ?_
        obtain ⟨r40, h41, H⟩ := bnd H
        refine seq_run0 (stp_call (k_message_Values v39 [120, 45, 102, 111, 114, 119, 97, 114, 100, 101, 100, 45, 104, 111, 115, 116] r40 h41) ⟨.inl rfl, .inl rfl, trivial⟩) ?_
        refine seq_run0 (t_len tyU31 rfl) ?_
        refine seq_run0 (stp_eql rfl rfl) ?_
        refine awp_cond _ rfl (fun h42 => ?_) (fun h42 => ?_)
        ·replace H := ift h42 H
         refine awp_plain hN rfl ?_
         refine qd rfl ?_
         refine seq_run0 (stp_fldP tyF28_2 rfl) ?_
         refine seq_run1 (stp_load1 tyS9 rfl rfl) rfl ?_
         obtain ⟨r43, h44, H⟩ := bnd H
         refine seq_run0 (stp_call (k_message_set v39 [120, 45, 102, 111, 114, 119, 97, 114, 100, 101, 100, 45, 104, 111, 115, 116] v1.Host r43 h44) ⟨.inl rfl, .inl rfl, .inl rfl, trivial⟩) ?_
         refine qe rfl ?_
         exact ⟨r43, H, ⟨rfl, rfl, rfl, rfl, trivial⟩, ⟨rfl, rfl, trivial⟩⟩
        ·replace H := iff_ h42 H
         refine awp_skip ?_
         exact ⟨v39, H, ⟨rfl, rfl, rfl, rfl, trivial⟩, ⟨rfl, rfl, trivial⟩⟩
       ·rintro v45 H
        replace H : message_Forward_J3 v1 v2 v45 = some r := H
        unfold message_Forward_J3 at H
        refine awp_seq ?_
        refine awp_plain hN rfl ?_
        refine qd rfl ?_
        refine qd rfl ?_
        obtain ⟨r46, h47, H⟩ := bnd H
        refine seq_run0 (stp_call (k_message_Values v45 [118, 105, 97] r46 h47) ⟨.inl rfl, .inl rfl, trivial⟩) ?_
        refine qd rfl ?_
        obtain ⟨r48, h49, H⟩ := bnd H
        refine seq_run0 (stp_call (k_message_joined r46 v2 r48 h49) ⟨.inl rfl, .inl rfl, trivial⟩) ?_
        obtain ⟨r50, h51, H⟩ := bnd H
        refine seq_run0 (stp_call (k_message_set v45 [118, 105, 97] r48 r50 h51) ⟨.inl rfl, .inl rfl, .inl rfl, trivial⟩) ?_
        refine qe rfl ?_
        refine awp_seq ?_
        refine awp_joinE (ι := Bool) (fun i => [(2, .ptr 1 0), (4, .ptr 2 0), (8, .dat (vlst (List.map C_api_Header r50))), (83, .dat (vbool i))]) (fun i => [(1, .box none 28 [.dat (vint v1.At), .dat (vstr v1.Method), .dat (vstr v1.Host), .dat (vstr v1.Path), .dat (vstr v1.Query), .dat (vstr v1.From), .dat (vlst (List.map C_api_Header v1.Headers)), .dat (vstr v1.Body)]), (2, .box none 28 [.dat (vint 0), .dat (vstr []), .dat (vstr []), .dat (vstr []), .dat (vstr []), .dat (vstr []), .dat (vnil), .dat (vstr [])])]) (fun i => message_Forward_J4 v1 r50 i = some r) (fun i => rfl) ?_ ?_
        ·skip
         refine awp_plain hN rfl ?_
         refine qd rfl ?_
         refine seq_run0 (t_len tyU26 rfl) ?_
         refine seq_run0 (stp_gtr rfl rfl) ?_
         refine qd rfl ?_
         refine seq_split (j := 3) rfl rfl (fun h52 => ?_) (fun h52 => ?_) rfl
         ·have h53 := un3 h52
          replace H := iff_ h53 H
          refine seq_g0 rfl rfl h52 (stp_move (.dat _) rfl) ?_
          obtain ⟨r54, h55, H⟩ := bnd H
          refine seq_g0 rfl rfl h52 (stp_callW (k_slices_ContainsFunc_L_api_Header_api_Header_ r50 (fun (a0 : S_api_Header) => m_message_Forward_1 a0) 37 [] (fun a0 r h => k_message_Forward_1 a0 r h) r54 h55) ⟨.inl (.inl rfl), .inr ⟨_, rfl, rfl⟩, trivial⟩) ?_
          refine seq_run0 (stp_pick_f rfl (bFF h53) rfl) ?_
          exact ⟨r54, H, ⟨rfl, rfl, rfl, rfl, trivial⟩, ⟨rfl, rfl, trivial⟩⟩
         ·have h56 := un4 h52
          replace H := ift h56 H
          refine seq_skip rfl rfl h52 ?_
          refine seq_skip rfl rfl h52 ?_
          refine seq_run0 (stp_pick_t rfl (bTT h56) rfl) ?_
          exact ⟨true, H, ⟨rfl, rfl, rfl, rfl, trivial⟩, ⟨rfl, rfl, trivial⟩⟩
        ·rintro v57 H
         replace H : message_Forward_J4 v1 r50 v57 = some r := H
         unfold message_Forward_J4 at H
         refine awp_cond _ rfl (fun h58 => ?_) (fun h58 => ?_)
         ·replace H := ift h58 H
          refine awp_seq ?_
          refine awp_plain hN rfl ?_
          refine seq_run0 (stp_wk (u' := vagg (C_api_Request (S_api_Request.mk 0 [] [] [] [] [] [] []))) (wk_agg (by exact ⟨wk_rfl, wk_rfl, wk_rfl, wk_rfl, wk_rfl, wk_rfl, wk_nil, wk_rfl, trivial⟩)) (stp_build [] tyZ28 tyP28 rfl trivial)) ?_
          refine seq_run2 (stp_storeW tyS28 rfl rfl rfl rfl) rfl ?_
          refine qe rfl ?_
          refine awp_ret ?_
          cases H
          exact ⟨trivial, .inl ⟨_, _, _, C_api_Request (S_api_Request.mk 0 [] [] [] [] [] [] []), rfl, rfl, rfl, rfl, tyS28⟩, .inl rfl, trivial⟩
         ·replace H := iff_ h58 H
          refine awp_skip ?_
          refine awp_seq ?_
          refine awp_plain hN rfl ?_
          refine qd rfl ?_
          refine seq_run0 (stp_fldP tyF28_6 rfl) ?_
          refine seq_run2 (stp_store1 tyS26 rfl rfl rfl rfl) rfl ?_
          refine awp_seq ?_
          refine awp_plain hN rfl ?_
          refine seq_run1 (stp_loadA tyS28 rfl rfl rfl) rfl ?_
          refine seq_run2 (stp_storeW tyS28 rfl rfl rfl rfl) rfl ?_
          refine qe rfl ?_
          refine awp_ret ?_
          cases H
          exact ⟨trivial, .inl ⟨_, _, _, C_api_Request (S_api_Request.mk v1.At v1.Method v1.Host v1.Path v1.Query v1.From r50 v1.Body), rfl, rfl, rfl, rfl, tyS28⟩, .inl rfl, trivial⟩
     ·rintro k28 x31 v27 q29 h59 h60 H hq29
      replace H : message_Forward_L1 k28 x31 v27 = some q29 := H
      unfold message_Forward_L1 at H
      refine awp_seq ?_
      refine awp_plain hN rfl ?_
      refine seq_run0 (stp_lss rfl rfl) ?_
      refine awp_seq ?_
      refine awp_cond _ rfl (fun h => ?_) (fun h => (lt_f h59 h).elim)
      refine awp_skip ?_
      refine awp_seq ?_
      refine awp_block ?_
      refine awp_seq ?_
      refine awp_plain hN rfl ?_
      refine seq_run0 (t_idx tyE31 (fun _ => rfl) rfl rfl h60) ?_
      refine seq_run0 (stp_loadE1 tyS9 rfl (map_at h60) rfl) ?_
      refine qe rfl ?_
      refine awp_plain hN rfl ?_
      refine qd rfl ?_
      refine qd rfl ?_
      obtain ⟨r61, h62, H⟩ := bnd H
      refine seq_run0 (stp_call (k_message_without v27 x31 r61 h62) ⟨.inl rfl, .inl rfl, trivial⟩) ?_
      refine qe rfl ?_
      refine awp_plain hN rfl ?_
      refine seq_run0 (stp_add rfl rfl (by omega)) ?_
      refine qd rfl ?_
      exact ⟨_, backl H, ⟨rfl, rfl, rfl, rfl, rfl, rfl, rfl, trivial⟩, ⟨rfl, rfl, trivial⟩⟩
theorem k_gateref2_in (n1 : Int) (low2 : Int) (high3 : Int) (r : (Bool)) (H : m_gateref2_in n1 low2 high3 = some r) : Fn Tryz.prog 90 [vint n1, vint low2, vint high3] (resOf [vbool r]) := by
 refine ⟨by kernel_rfl, pure_of (us := [vbool r]) Tryz.func90 rfl rfl rfl rfl fun X hN => ?_⟩
 unfold m_gateref2_in at H
 refine awp_seq ?_
 refine awp_plain hN rfl ?_
 refine qe rfl ?_
 refine awp_seq ?_
 refine awp_plain hN rfl ?_
 refine qd rfl ?_
 refine qd rfl ?_
 refine seq_run0 (stp_leq rfl rfl) ?_
 refine qd rfl ?_
 refine seq_aT rfl rfl (fun hc => stp_move (.dat _) rfl) ?_
 refine seq_aT rfl rfl (fun hc => stp_move (.dat _) rfl) ?_
 refine seq_aT rfl rfl (fun hc => stp_leq (cnd (c := (decide (low2 ≤ n1))) hc) (cnd (c := (decide (low2 ≤ n1))) hc)) ?_
 refine seq_run0 (stp_pick_and rfl (fun hb => (cnd (c := (decide (low2 ≤ n1))) hb)) rfl) ?_
 refine qe rfl ?_
 refine awp_ret ?_
 cases H
 exact ⟨trivial, .inl rfl, trivial⟩
theorem k_gateref2_Moment (v1 : Int) (r : (Bool)) (H : m_gateref2_Moment v1 = some r) : Fn Tryz.prog 85 [vint v1] (resOf [vbool r]) := by
 refine ⟨by kernel_rfl, pure_of (us := [vbool r]) Tryz.func85 rfl rfl rfl rfl fun X hN => ?_⟩
 unfold m_gateref2_Moment at H
 refine awp_seq ?_
 refine awp_plain hN rfl ?_
 refine qe rfl ?_
 refine awp_seq ?_
 refine awp_plain hN rfl ?_
 refine qd rfl ?_
 obtain ⟨r2, h3, H⟩ := bnd H
 refine seq_run0 (stp_call (k_gateref2_in v1 0 345686399999 r2 h3) ⟨.inl rfl, .inl rfl, .inl rfl, trivial⟩) ?_
 refine qe rfl ?_
 refine awp_ret ?_
 cases H
 exact ⟨trivial, .inl rfl, trivial⟩
theorem k_gateref2_only (s1 : Bs) (some2 : Bs) (r : (Bool)) (H : m_gateref2_only s1 some2 = some r) : Fn Tryz.prog 91 [vstr s1, vstr some2] (resOf [vbool r]) := by
 refine ⟨by kernel_rfl, pure_of (us := [vbool r]) Tryz.func91 rfl rfl rfl rfl fun X hN => ?_⟩
 unfold m_gateref2_only at H
 refine awp_seq ?_
 refine awp_plain hN rfl ?_
 refine qe rfl ?_
 refine awp_seq ?_
 refine awp_seq ?_
 refine awp_plain hN rfl ?_
 refine qd rfl ?_
 refine seq_run0 (stp_len_str tyU9 rfl) ?_
 refine qd rfl ?_
 refine awp_block ?_
 obtain ⟨h5, H⟩ := gif H
 refine awp_forL (fun (k3 : Nat) (s : Unit) => [(0, .dat (vstr s1)), (1, .dat (vstr some2)), (7, .dat (vint (s1.length : Int))), (8, .dat (vint (k3 : Int)))]) (fun (k3 : Nat) (s : Unit) => []) () H ⟨rfl, rfl, rfl, rfl, trivial⟩ trivial (fun _ _ => rfl) ?_ ?_
 ·rintro ⟨⟩ H
  replace H : gateref2_only_E1 = some r := H
  unfold gateref2_only_E1 at H
  refine awp_seq ?_
  refine awp_plain hN rfl ?_
  refine seq_run0 (stp_lss rfl rfl) ?_
  refine awp_seq ?_
  refine awp_cond _ rfl (fun h => (lt_t h).elim) (fun h => ?_)
  refine awp_exit ?_
  refine awp_seq ?_
  refine awp_plain hN rfl ?_
  refine qe rfl ?_
  refine awp_ret ?_
  cases H
  exact ⟨trivial, .inl rfl, trivial⟩
 ·rintro k3 x6 ⟨⟩ q4 h7 h8 H hq4
  replace H : gateref2_only_L1 some2 k3 x6 = some q4 := H
  unfold gateref2_only_L1 at H
  refine awp_seq ?_
  refine awp_plain hN rfl ?_
  refine seq_run0 (stp_lss rfl rfl) ?_
  refine awp_seq ?_
  refine awp_cond _ rfl (fun h => ?_) (fun h => (lt_f h7 h).elim)
  refine awp_skip ?_
  refine awp_seq ?_
  refine awp_block ?_
  refine awp_seq ?_
  refine awp_plain hN rfl ?_
  refine qd rfl ?_
  refine qe rfl ?_
  refine awp_seq ?_
  refine awp_plain hN rfl ?_
  refine qd rfl ?_
  refine qd rfl ?_
  refine qd rfl ?_
  refine seq_run0 (t_byte tyU9 rfl rfl h8) ?_
  obtain ⟨r9, h10, H⟩ := bnd H
  refine seq_run0 (stp_call (k_strings_IndexByte some2 (x6.toNat : Int) r9 h10) ⟨.inl rfl, .inl rfl, trivial⟩) ?_
  refine seq_run0 (stp_lss rfl rfl) ?_
  refine awp_cond _ rfl (fun h11 => ?_) (fun h11 => ?_)
  ·replace H := ift h11 H
   refine awp_seq ?_
   refine awp_plain hN rfl ?_
   refine qe rfl ?_
   refine awp_ret ?_
   replace H := retl H hq4
   cases H
   exact ⟨trivial, .inl rfl, trivial⟩
  ·replace H := iff_ h11 H
   refine awp_skip ?_
   refine awp_plain hN rfl ?_
   refine seq_run0 (stp_add rfl rfl (by omega)) ?_
   refine qd rfl ?_
   exact ⟨_, backl H, ⟨rfl, rfl, rfl, rfl, trivial⟩, trivial⟩
theorem k_gateref2_Token (s1 : Bs) (r : (Bool)) (H : m_gateref2_Token s1 = some r) : Fn Tryz.prog 39 [vstr s1] (resOf [vbool r]) := by
 refine ⟨by kernel_rfl, pure_of (us := [vbool r]) Tryz.func39 rfl rfl rfl rfl fun X hN => ?_⟩
 unfold m_gateref2_Token at H
 refine awp_seq ?_
 refine awp_plain hN rfl ?_
 refine qe rfl ?_
 refine awp_joinE (ι := Bool) (fun i => [(2, .dat (vbool i))]) (fun i => []) (fun i => gateref2_Token_J1 i = some r) (fun i => rfl) ?_ ?_
 ·skip
  refine awp_plain hN rfl ?_
  refine qd rfl ?_
  refine seq_run0 (stp_len_str tyU9 rfl) ?_
  obtain ⟨r2, h3, H⟩ := bnd H
  refine seq_run0 (stp_call (k_gateref2_in (s1.length : Int) 1 100 r2 h3) ⟨.inl rfl, .inl rfl, .inl rfl, trivial⟩) ?_
  refine qd rfl ?_
  refine seq_split (j := 3) rfl rfl (fun h4 => ?_) (fun h4 => ?_) rfl
  ·have h5 := un1 h4
   replace H := ift h5 H
   refine seq_g0 rfl rfl h4 (stp_move (.dat _) rfl) ?_
   obtain ⟨r6, h7, H⟩ := bnd H
   refine seq_g0 rfl rfl h4 (stp_call (k_gateref2_only s1 [97, 98, 99, 100, 101, 102, 103, 104, 105, 106, 107, 108, 109, 110, 111, 112, 113, 114, 115, 116, 117, 118, 119, 120, 121, 122, 65, 66, 67, 68, 69, 70, 71, 72, 73, 74, 75, 76, 77, 78, 79, 80, 81, 82, 83, 84, 85, 86, 87, 88, 89, 90, 48, 49, 50, 51, 52, 53, 54, 55, 56, 57, 33, 35, 36, 37, 38, 39, 42, 43, 45, 46, 94, 95, 96, 124, 126] r6 h7) ⟨.inl rfl, .inl rfl, trivial⟩) ?_
   refine seq_run0 (stp_pick_t rfl (bTT h5) rfl) ?_
   refine qe rfl ?_
   exact ⟨r6, H, ⟨rfl, trivial⟩, trivial⟩
  ·have h8 := un2 h4
   replace H := iff_ h8 H
   refine seq_skip rfl rfl h4 ?_
   refine seq_skip rfl rfl h4 ?_
   refine seq_run0 (stp_pick_f rfl (bFF h8) rfl) ?_
   refine qe rfl ?_
   exact ⟨false, H, ⟨rfl, trivial⟩, trivial⟩
 ·rintro v9 H
  replace H : gateref2_Token_J1 v9 = some r := H
  unfold gateref2_Token_J1 at H
  refine awp_ret ?_
  cases H
  exact ⟨trivial, .inl rfl, trivial⟩
theorem k_strconv_Itoa (n : Int) (r : Bs) (H : m_strconv_Itoa n = some r) : Fn Tryz.prog 148 [vint n] (resOf [vstr r]) := by
 obtain ⟨⟨h1, h2⟩, h3⟩ := gif H
 cases h3
 refine fn_of_callsG (by kernel_rfl) fun M w vs hM h => ?_
 have hv := Ts_vals (us := [.int .i64 n]) h
 subst hv
 refine (Tryz.strconv_Itoa n h1 h2 w (pow10_tab hM)).mono ?_
 rintro e w' ⟨rfl, k, os, rfl⟩
 exact ⟨_, rfl, rfl, Kp.of_below ⟨rfl, rfl, rfl, by show w.heap.size ≤ (w.heap ++ os).size; rw [Array.size_append]; omega, fun j hj => by show (w.heap ++ os)[j]? = w.heap[j]?; exact Array.getElem?_append_left hj⟩⟩
theorem k_gateref2_Number (s1 : Bs) (most2 : Int) (r : (Int × Bool)) (H : m_gateref2_Number s1 most2 = some r) : Fn Tryz.prog 123 [vstr s1, vint most2] (resOf [vint r.1, vbool r.2]) := by
 refine ⟨by kernel_rfl, pure_of (us := [vint r.1, vbool r.2]) Tryz.func123 rfl rfl rfl rfl fun X hN => ?_⟩
 unfold m_gateref2_Number at H
 refine awp_seq ?_
 refine awp_plain hN rfl ?_
 refine qe rfl ?_
 refine qe rfl ?_
 refine awp_seq ?_
 refine awp_plain hN rfl ?_
 refine qd rfl ?_
 obtain ⟨r3, h4, H⟩ := bnd H
 refine seq_run0 (stp_call (k_strings_TrimPrefix s1 [45] r3 h4) ⟨.inl rfl, .inl rfl, trivial⟩) ?_
 refine qe rfl ?_
 refine awp_seq ?_
 refine awp_joinE (ι := Bool) (fun i => [(0, .dat (vstr s1)), (23, .dat (vbool i))]) (fun i => []) (fun i => gateref2_Number_J1 s1 i = some r) (fun i => rfl) ?_ ?_
 ·skip
  refine awp_plain hN rfl ?_
  refine qd rfl ?_
  refine seq_run0 (stp_seql rfl rfl) ?_
  refine qd rfl ?_
  refine seq_split (j := 2) rfl rfl (fun h5 => ?_) (fun h5 => ?_) rfl
  ·have h6 := un3 h5
   replace H := iff_ h6 H
   refine seq_g0 rfl rfl h5 (stp_move (.dat _) rfl) ?_
   refine seq_g0 rfl rfl h5 (stp_len_str tyU9 rfl) ?_
   refine seq_g0 rfl rfl h5 (stp_move (.dat _) rfl) ?_
   refine seq_g0 rfl rfl h5 (stp_gtr rfl rfl) ?_
   refine seq_run0 (stp_pick_f rfl (bFF h6) rfl) ?_
   refine qd rfl ?_
   refine seq_split (j := 8) rfl rfl (fun h7 => ?_) (fun h7 => ?_) rfl
   ·have h8 := un3 h7
    replace H := iff_ h8 H
    refine seq_g0 rfl rfl h7 (stp_move (.dat _) rfl) ?_
    obtain ⟨r9, h10, H⟩ := bnd H
    refine seq_g0 rfl rfl h7 (stp_call (k_gateref2_only r3 [48, 49, 50, 51, 52, 53, 54, 55, 56, 57] r9 h10) ⟨.inl rfl, .inl rfl, trivial⟩) ?_
    refine seq_g0 rfl rfl h7 (stp_not rfl) ?_
    refine seq_run0 (stp_pick_f rfl (bFF h8) rfl) ?_
    exact ⟨!r9, H, ⟨rfl, rfl, trivial⟩, trivial⟩
   ·have h11 := un4 h7
    replace H := ift h11 H
    refine seq_skip rfl rfl h7 ?_
    refine seq_skip rfl rfl h7 ?_
    refine seq_skip rfl rfl h7 ?_
    refine seq_run0 (stp_pick_t rfl (bTT h11) rfl) ?_
    exact ⟨true, H, ⟨rfl, rfl, trivial⟩, trivial⟩
  ·have h12 := un4 h5
   replace H := ift h12 H
   refine seq_skip rfl rfl h5 ?_
   refine seq_skip rfl rfl h5 ?_
   refine seq_skip rfl rfl h5 ?_
   refine seq_skip rfl rfl h5 ?_
   refine seq_run0 (stp_pick_t rfl (bTT h12) rfl) ?_
   refine qd rfl ?_
   refine seq_skip rfl rfl rfl ?_
   refine seq_skip rfl rfl rfl ?_
   refine seq_skip rfl rfl rfl ?_
   refine seq_run0 (stp_pick_t rfl rfl rfl) ?_
   exact ⟨true, H, ⟨rfl, rfl, trivial⟩, trivial⟩
 ·rintro v13 H
  replace H : gateref2_Number_J1 s1 v13 = some r := H
  unfold gateref2_Number_J1 at H
  refine awp_cond _ rfl (fun h14 => ?_) (fun h14 => ?_)
  ·replace H := ift h14 H
   refine awp_seq ?_
   refine awp_plain hN rfl ?_
   refine qe rfl ?_
   refine qe rfl ?_
   refine awp_ret ?_
   cases H
   exact ⟨trivial, .inl rfl, .inl rfl, trivial⟩
  ·replace H := iff_ h14 H
   refine awp_skip ?_
   refine awp_seq ?_
   refine awp_plain hN rfl ?_
   refine qd rfl ?_
   obtain ⟨r15, h16, H⟩ := bnd H
   refine seq_run0 (stp_call (k_strconv_Atoi s1 r15 h16) ⟨.inl rfl, trivial⟩) ?_
   refine qd rfl ?_
   refine seq_run0 (stp_ext rfl rfl) ?_
   refine seq_run0 (stp_ext rfl rfl) ?_
   refine qe rfl ?_
   refine qe rfl ?_
   refine awp_joinE (ι := Bool) (fun i => [(4, .dat (vint r15.1)), (5, .dat (vbool i))]) (fun i => []) (fun i => gateref2_Number_J2 r15 i = some r) (fun i => rfl) ?_ ?_
   ·skip
    refine awp_plain hN rfl ?_
    refine qd rfl ?_
    refine qd rfl ?_
    refine seq_run0 (stp_erreql (n := r15.2) (show Tryz.prog.underlying 83 = some (.interface (Tryz.prog.methodsAt 83)) from by kernel_rfl) rfl) ?_
    refine qd rfl ?_
    refine seq_split (j := 3) rfl rfl (fun h17 => ?_) (fun h17 => ?_) rfl
    ·have h18 := un1 h17
     replace H := ift h18 H
     refine seq_g0 rfl rfl h17 (stp_move (.dat _) rfl) ?_
     obtain ⟨r19, h20, H⟩ := bnd H
     refine seq_g0 rfl rfl h17 (stp_call (k_strconv_Itoa r15.1 r19 h20) ⟨.inl rfl, trivial⟩) ?_
     refine seq_g0 rfl rfl h17 (stp_move (.dat _) rfl) ?_
     refine seq_g0 rfl rfl h17 (stp_seql rfl rfl) ?_
     refine seq_run0 (stp_pick_t rfl (bTT h18) rfl) ?_
     refine qe rfl ?_
     refine qe rfl ?_
     exact ⟨decide (r19 = s1), H, ⟨rfl, rfl, trivial⟩, trivial⟩
    ·have h21 := un2 h17
     replace H := iff_ h21 H
     refine seq_skip rfl rfl h17 ?_
     refine seq_skip rfl rfl h17 ?_
     refine seq_skip rfl rfl h17 ?_
     refine seq_skip rfl rfl h17 ?_
     refine seq_run0 (stp_pick_f rfl (bFF h21) rfl) ?_
     refine qe rfl ?_
     refine qe rfl ?_
     exact ⟨false, H, ⟨rfl, rfl, trivial⟩, trivial⟩
   ·rintro v22 H
    replace H : gateref2_Number_J2 r15 v22 = some r := H
    unfold gateref2_Number_J2 at H
    refine awp_ret ?_
    cases H
    exact ⟨trivial, .inl rfl, .inl rfl, trivial⟩
theorem k_strings_ToLower (s : Bs) (r : Bs) (H : m_strings_ToLower s = some r) : Fn Tryz.prog 93 [vstr s] (resOf [vstr r]) := by
 unfold m_strings_ToLower at H
 obtain ⟨⟨h1, h2⟩, h3⟩ := gif H
 cases h3
 refine fn_of_callsG (by kernel_rfl) fun M w vs hM h => ?_
 have hv := Ts_vals (us := [.string ⟨s.toArray⟩]) h
 subst hv
 refine (Tryz.strings_ToLower_ascii ⟨s.toArray⟩ w (by simp [ByteArray.size]; omega) (fun j b hb => ascB_at h2 j b (by simpa using hb))).mono ?_
 rintro e w' ⟨rfl, hb⟩
 exact ⟨_, rfl, rfl, Kp.of_below hb⟩

theorem k_gateref2_HostOf (v1 : Bs) (r : (Bs × Int)) (H : m_gateref2_HostOf v1 = some r) : Fn Tryz.prog 86 [vstr v1] (resOf [vstr r.1, vint r.2]) := by
 refine ⟨by kernel_rfl, pure_of (us := [vstr r.1, vint r.2]) Tryz.func86 rfl rfl rfl rfl fun X hN => ?_⟩
 unfold m_gateref2_HostOf at H
 refine awp_seq ?_
 refine awp_plain hN rfl ?_
 refine qe rfl ?_
 refine qe rfl ?_
 refine awp_seq ?_
 refine awp_plain hN rfl ?_
 refine qd rfl ?_
 obtain ⟨r2, h3, H⟩ := bnd H
 refine seq_run0 (stp_call (k_strings_Cut v1 [58] r2 h3) ⟨.inl rfl, .inl rfl, trivial⟩) ?_
 refine qd rfl ?_
 refine seq_run0 (stp_ext rfl rfl) ?_
 refine seq_run0 (stp_ext rfl rfl) ?_
 refine seq_run0 (stp_ext rfl rfl) ?_
 refine qe rfl ?_
 refine qe rfl ?_
 refine qe rfl ?_
 refine awp_seq ?_
 refine awp_plain hN rfl ?_
 refine qd rfl ?_
 obtain ⟨r4, h5, H⟩ := bnd H
 refine seq_run0 (stp_call (k_gateref2_Number r2.2.1 5 r4 h5) ⟨.inl rfl, .inl rfl, trivial⟩) ?_
 refine qd rfl ?_
 refine seq_run0 (stp_ext rfl rfl) ?_
 refine seq_run0 (stp_ext rfl rfl) ?_
 refine qe rfl ?_
 refine qe rfl ?_
 refine awp_seq ?_
 refine awp_joinE (ι := Bool) (fun i => [(4, .dat (vstr r2.1)), (5, .dat (vstr r2.2.1)), (6, .dat (vbool r2.2.2)), (7, .dat (vint r4.1)), (37, .dat (vbool i))]) (fun i => []) (fun i => gateref2_HostOf_J1 r2 r4 i = some r) (fun i => rfl) ?_ ?_
 ·skip
  refine awp_plain hN rfl ?_
  refine qd rfl ?_
  refine seq_run0 (stp_len_str tyU9 rfl) ?_
  refine seq_run0 (stp_gtr rfl rfl) ?_
  refine qd rfl ?_
  refine seq_split (j := 3) rfl rfl (fun h6 => ?_) (fun h6 => ?_) rfl
  ·have h7 := un3 h6
   replace H := iff_ h7 H
   refine seq_g0 rfl rfl h6 (stp_move (.dat _) rfl) ?_
   refine seq_g0 rfl rfl h6 (stp_move (.dat _) rfl) ?_
   refine seq_split (j := 5) rfl rfl (fun h8 => ?_) (fun h8 => ?_) rfl
   ·have h9 := un1 h8
    replace H := ift h9 H
    refine seq_g0 rfl rfl h8 (stp_move (.dat _) rfl) ?_
    refine seq_g0 rfl rfl h8 (stp_not rfl) ?_
    refine seq_g0 rfl rfl h8 (stp_move (.dat _) rfl) ?_
    refine seq_split (j := 8) rfl rfl (fun h10 => ?_) (fun h10 => ?_) rfl
    ·have h11 := un3 h10
     replace H := iff_ h11 H
     refine seq_g0 rfl rfl h10 (stp_move (.dat _) rfl) ?_
     obtain ⟨r12, h13, H⟩ := bnd H
     refine seq_g0 rfl rfl h10 (stp_call (k_gateref2_in r4.1 1 65535 r12 h13) ⟨.inl rfl, .inl rfl, .inl rfl, trivial⟩) ?_
     refine seq_g0 rfl rfl h10 (stp_not rfl) ?_
     refine seq_g0 rfl rfl h8 (stp_pick_f rfl (bFF h11) rfl) ?_
     refine seq_g0 rfl rfl h6 (stp_pick_t rfl (bTT h9) rfl) ?_
     refine seq_run0 (stp_pick_f rfl (bFF h7) rfl) ?_
     exact ⟨!r12, H, ⟨rfl, rfl, rfl, rfl, rfl, trivial⟩, trivial⟩
    ·have h14 := un4 h10
     replace H := ift h14 H
     refine seq_skip rfl rfl h10 ?_
     refine seq_skip rfl rfl h10 ?_
     refine seq_skip rfl rfl h10 ?_
     refine seq_g0 rfl rfl h8 (stp_pick_t rfl (bTT h14) rfl) ?_
     refine seq_g0 rfl rfl h6 (stp_pick_t rfl (bTT h9) rfl) ?_
     refine seq_run0 (stp_pick_f rfl (bFF h7) rfl) ?_
     exact ⟨true, H, ⟨rfl, rfl, rfl, rfl, rfl, trivial⟩, trivial⟩
   ·have h15 := un2 h8
    replace H := iff_ h15 H
    refine seq_skip rfl rfl h8 ?_
    refine seq_skip rfl rfl h8 ?_
    refine seq_skip rfl rfl h8 ?_
    refine seq_skipU rfl rfl ?_
    refine seq_skipU rfl rfl ?_
    refine seq_skipU rfl rfl ?_
    refine seq_skip rfl rfl h8 ?_
    refine seq_g0 rfl rfl h6 (stp_pick_f rfl (bFF h15) rfl) ?_
    refine seq_run0 (stp_pick_f rfl (bFF h7) rfl) ?_
    exact ⟨false, H, ⟨rfl, rfl, rfl, rfl, rfl, trivial⟩, trivial⟩
  ·have h16 := un4 h6
   replace H := ift h16 H
   refine seq_skip rfl rfl h6 ?_
   refine seq_skip rfl rfl h6 ?_
   refine seq_skipU rfl rfl ?_
   refine seq_skipU rfl rfl ?_
   refine seq_skipU rfl rfl ?_
   refine seq_skipU rfl rfl ?_
   refine seq_skipU rfl rfl ?_
   refine seq_skipU rfl rfl ?_
   refine seq_skipU rfl rfl ?_
   refine seq_skip rfl rfl h6 ?_
   refine seq_run0 (stp_pick_t rfl (bTT h16) rfl) ?_
   exact ⟨true, H, ⟨rfl, rfl, rfl, rfl, rfl, trivial⟩, trivial⟩
 ·rintro v17 H
  replace H : gateref2_HostOf_J1 r2 r4 v17 = some r := H
  unfold gateref2_HostOf_J1 at H
  refine awp_cond _ rfl (fun h18 => ?_) (fun h18 => ?_)
  ·replace H := ift h18 H
   refine awp_seq ?_
   refine awp_plain hN rfl ?_
   refine qe rfl ?_
   refine qe rfl ?_
   refine awp_ret ?_
   cases H
   exact ⟨trivial, .inl rfl, .inl rfl, trivial⟩
  ·replace H := iff_ h18 H
   refine awp_skip ?_
   refine awp_seq ?_
   refine awp_seq ?_
   refine awp_plain hN rfl ?_
   refine qd rfl ?_
   obtain ⟨r19, h20, H⟩ := bnd H
   refine seq_run0 (stp_call (k_strings_Split r2.1 [46] r19 h20) ⟨.inl rfl, .inl rfl, trivial⟩) ?_
   refine seq_run0 (t_len tyU31 rfl) ?_
   refine qd rfl ?_
   refine awp_block ?_
   obtain ⟨h23, H⟩ := gif H
   refine awp_forL (fun (k21 : Nat) (s : Unit) => [(4, .dat (vstr r2.1)), (5, .dat (vstr r2.2.1)), (6, .dat (vbool r2.2.2)), (7, .dat (vint r4.1)), (39, .dat (vlst (List.map C_string r19))), (40, .dat (vint (r19.length : Int))), (41, .dat (vint (k21 : Int)))]) (fun (k21 : Nat) (s : Unit) => []) () H ⟨rfl, rfl, rfl, rfl, rfl, rfl, rfl, trivial⟩ trivial (fun _ _ => rfl) ?_ ?_
   ·rintro ⟨⟩ H
    replace H : gateref2_HostOf_E2 r2 r4 = some r := H
    unfold gateref2_HostOf_E2 at H
    refine awp_seq ?_
    refine awp_plain hN rfl ?_
    refine seq_run0 (stp_lss rfl rfl) ?_
    refine awp_seq ?_
    refine awp_cond _ rfl (fun h => (lt_t h).elim) (fun h => ?_)
    refine awp_exit ?_
    refine awp_seq ?_
    refine awp_plain hN rfl ?_
    refine qd rfl ?_
    obtain ⟨r25, h26, H⟩ := bnd H
    refine seq_run0 (stp_call (k_strings_ToLower r2.1 r25 h26) ⟨.inl rfl, trivial⟩) ?_
    refine qe rfl ?_
    refine awp_joinE (ι := Bs) (fun i => [(11, .dat (vstr i))]) (fun i => []) (fun i => gateref2_HostOf_J3 i = some r) (fun i => rfl) ?_ ?_
    ·skip
     refine awp_seq ?_
     refine awp_plain hN rfl ?_
     refine qd rfl ?_
     refine qd rfl ?_
     refine seq_aT rfl rfl (fun hc => stp_move (.dat _) rfl) ?_
     refine seq_aT rfl rfl (fun hc => stp_neq (cnd (c := r2.2.2) hc) rfl) ?_
     refine seq_run0 (stp_pick_and rfl (fun hb => (cnd (c := r2.2.2) hb)) rfl) ?_
     refine qd rfl ?_
     refine seq_aT rfl rfl (fun hc => stp_move (.dat _) rfl) ?_
     refine seq_aT rfl rfl (fun hc => stp_neq (cnd (c := (r2.2.2 && (decide (r4.1 ≠ 80)))) hc) rfl) ?_
     refine seq_run0 (stp_pick_and rfl (fun hb => (cnd (c := (r2.2.2 && (decide (r4.1 ≠ 80)))) hb)) rfl) ?_
     refine awp_cond _ rfl (fun h27 => ?_) (fun h27 => ?_)
     ·replace H := ift h27 H
      refine awp_plain hN rfl ?_
      refine qd rfl ?_
      refine qd rfl ?_
      obtain ⟨h28, H⟩ := gif H
      refine seq_run0 (stp_sadd rfl rfl (Nat.le_trans h28 (by decide))) ?_
      obtain ⟨h29, H⟩ := gif H
      refine seq_run0 (stp_sadd rfl rfl (Nat.le_trans h29 (by decide))) ?_
      refine qe rfl ?_
      exact ⟨(r25 ++ ([58] ++ r2.2.1)), H, ⟨rfl, trivial⟩, trivial⟩
     ·replace H := iff_ h27 H
      refine awp_skip ?_
      exact ⟨r25, H, ⟨rfl, trivial⟩, trivial⟩
    ·rintro v30 H
     replace H : gateref2_HostOf_J3 v30 = some r := H
     unfold gateref2_HostOf_J3 at H
     refine awp_seq ?_
     refine awp_plain hN rfl ?_
     refine qd rfl ?_
     refine qe rfl ?_
     refine qe rfl ?_
     refine awp_ret ?_
     cases H
     exact ⟨trivial, .inl rfl, .inl rfl, trivial⟩
   ·rintro k21 x24 ⟨⟩ q22 h31 h32 H hq22
    replace H : gateref2_HostOf_L2 k21 x24 = some q22 := H
    unfold gateref2_HostOf_L2 at H
    refine awp_seq ?_
    refine awp_plain hN rfl ?_
    refine seq_run0 (stp_lss rfl rfl) ?_
    refine awp_seq ?_
    refine awp_cond _ rfl (fun h => ?_) (fun h => (lt_f h31 h).elim)
    refine awp_skip ?_
    refine awp_seq ?_
    refine awp_block ?_
    refine awp_seq ?_
    refine awp_plain hN rfl ?_
    refine seq_run0 (t_idx tyE31 (fun _ => rfl) rfl rfl h32) ?_
    refine seq_run0 (stp_loadE1 tyS9 rfl (map_at h32) rfl) ?_
    refine qe rfl ?_
    refine awp_joinE (ι := Bool) (fun i => [(4, .dat (vstr r2.1)), (5, .dat (vstr r2.2.1)), (6, .dat (vbool r2.2.2)), (7, .dat (vint r4.1)), (39, .dat (vlst (List.map C_string r19))), (40, .dat (vint (r19.length : Int))), (41, .dat (vint (k21 : Int))), (59, .dat (vbool i))]) (fun i => []) (fun i => gateref2_HostOf_J4 i = some q22) (fun i => rfl) ?_ ?_
    ·skip
     refine awp_plain hN rfl ?_
     refine qd rfl ?_
     refine seq_run0 (stp_len_str tyU9 rfl) ?_
     obtain ⟨r33, h34, H⟩ := bnd H
     refine seq_run0 (stp_call (k_gateref2_in (x24.length : Int) 1 63 r33 h34) ⟨.inl rfl, .inl rfl, .inl rfl, trivial⟩) ?_
     refine seq_run0 (stp_not rfl) ?_
     refine qd rfl ?_
     refine seq_split (j := 4) rfl rfl (fun h35 => ?_) (fun h35 => ?_) rfl
     ·have h36 := un3 h35
      replace H := iff_ h36 H
      refine seq_g0 rfl rfl h35 (stp_move (.dat _) rfl) ?_
      obtain ⟨r37, h38, H⟩ := bnd H
      refine seq_g0 rfl rfl h35 (stp_call (k_gateref2_only x24 [97, 98, 99, 100, 101, 102, 103, 104, 105, 106, 107, 108, 109, 110, 111, 112, 113, 114, 115, 116, 117, 118, 119, 120, 121, 122, 65, 66, 67, 68, 69, 70, 71, 72, 73, 74, 75, 76, 77, 78, 79, 80, 81, 82, 83, 84, 85, 86, 87, 88, 89, 90, 48, 49, 50, 51, 52, 53, 54, 55, 56, 57, 45] r37 h38) ⟨.inl rfl, .inl rfl, trivial⟩) ?_
      refine seq_g0 rfl rfl h35 (stp_not rfl) ?_
      refine seq_run0 (stp_pick_f rfl (bFF h36) rfl) ?_
      refine qd rfl ?_
      refine seq_split (j := 9) rfl rfl (fun h39 => ?_) (fun h39 => ?_) rfl
      ·have h40 := un3 h39
       replace H := iff_ h40 H
       refine seq_g0 rfl rfl h39 (stp_move (.dat _) rfl) ?_
       obtain ⟨r41, h42, H⟩ := bnd H
       refine seq_g0 rfl rfl h39 (stp_call (k_strings_Trim x24 [45] r41 h42) ⟨.inl rfl, .inl rfl, trivial⟩) ?_
       refine seq_g0 rfl rfl h39 (stp_move (.dat _) rfl) ?_
       refine seq_g0 rfl rfl h39 (stp_sneq rfl rfl) ?_
       refine seq_run0 (stp_pick_f rfl (bFF h40) rfl) ?_
       exact ⟨decide (r41 ≠ x24), H, ⟨rfl, rfl, rfl, rfl, rfl, rfl, rfl, rfl, trivial⟩, trivial⟩
      ·have h43 := un4 h39
       replace H := ift h43 H
       refine seq_skip rfl rfl h39 ?_
       refine seq_skip rfl rfl h39 ?_
       refine seq_skip rfl rfl h39 ?_
       refine seq_skip rfl rfl h39 ?_
       refine seq_run0 (stp_pick_t rfl (bTT h43) rfl) ?_
       exact ⟨true, H, ⟨rfl, rfl, rfl, rfl, rfl, rfl, rfl, rfl, trivial⟩, trivial⟩
     ·have h44 := un4 h35
      replace H := ift h44 H
      refine seq_skip rfl rfl h35 ?_
      refine seq_skip rfl rfl h35 ?_
      refine seq_skip rfl rfl h35 ?_
      refine seq_run0 (stp_pick_t rfl (bTT h44) rfl) ?_
      refine qd rfl ?_
      refine seq_skip rfl rfl rfl ?_
      refine seq_skip rfl rfl rfl ?_
      refine seq_skip rfl rfl rfl ?_
      refine seq_skip rfl rfl rfl ?_
      refine seq_run0 (stp_pick_t rfl rfl rfl) ?_
      exact ⟨true, H, ⟨rfl, rfl, rfl, rfl, rfl, rfl, rfl, rfl, trivial⟩, trivial⟩
    ·rintro v45 H
     replace H : gateref2_HostOf_J4 v45 = some q22 := H
     unfold gateref2_HostOf_J4 at H
     refine awp_cond _ rfl (fun h46 => ?_) (fun h46 => ?_)
     ·replace H := ift h46 H
      refine awp_seq ?_
      refine awp_plain hN rfl ?_
      refine qe rfl ?_
      refine qe rfl ?_
      refine awp_ret ?_
      replace H := retl H hq22
      cases H
      exact ⟨trivial, .inl rfl, .inl rfl, trivial⟩
     ·replace H := iff_ h46 H
      refine awp_skip ?_
      refine awp_plain hN rfl ?_
      refine seq_run0 (stp_add rfl rfl (by omega)) ?_
      refine qd rfl ?_
      exact ⟨_, backl H, ⟨rfl, rfl, rfl, rfl, rfl, rfl, rfl, trivial⟩, trivial⟩
theorem k_gateref2_visible (s1 : Bs) (low2 : Int) (r : (Bool)) (H : m_gateref2_visible s1 low2 = some r) : Fn Tryz.prog 98 [vstr s1, vval (.int .u8 low2)] (resOf [vbool r]) := by
 refine ⟨by kernel_rfl, pure_of (us := [vbool r]) Tryz.func98 rfl rfl rfl rfl fun X hN => ?_⟩
 unfold m_gateref2_visible at H
 refine awp_seq ?_
 refine awp_plain hN rfl ?_
 refine qe rfl ?_
 refine awp_seq ?_
 refine awp_seq ?_
 refine awp_plain hN rfl ?_
 refine qd rfl ?_
 refine seq_run0 (stp_len_str tyU9 rfl) ?_
 refine qd rfl ?_
 refine awp_block ?_
 obtain ⟨h5, H⟩ := gif H
 refine awp_forL (fun (k3 : Nat) (s : Unit) => [(0, .dat (vstr s1)), (1, .dat (vval (.int .u8 low2))), (7, .dat (vint (s1.length : Int))), (8, .dat (vint (k3 : Int)))]) (fun (k3 : Nat) (s : Unit) => []) () H ⟨rfl, rfl, rfl, rfl, trivial⟩ trivial (fun _ _ => rfl) ?_ ?_
 ·rintro ⟨⟩ H
  replace H : gateref2_visible_E1 = some r := H
  unfold gateref2_visible_E1 at H
  refine awp_seq ?_
  refine awp_plain hN rfl ?_
  refine seq_run0 (stp_lss rfl rfl) ?_
  refine awp_seq ?_
  refine awp_cond _ rfl (fun h => (lt_t h).elim) (fun h => ?_)
  refine awp_exit ?_
  refine awp_seq ?_
  refine awp_plain hN rfl ?_
  refine qe rfl ?_
  refine awp_ret ?_
  cases H
  exact ⟨trivial, .inl rfl, trivial⟩
 ·rintro k3 x6 ⟨⟩ q4 h7 h8 H hq4
  replace H : gateref2_visible_L1 low2 k3 x6 = some q4 := H
  unfold gateref2_visible_L1 at H
  refine awp_seq ?_
  refine awp_plain hN rfl ?_
  refine seq_run0 (stp_lss rfl rfl) ?_
  refine awp_seq ?_
  refine awp_cond _ rfl (fun h => ?_) (fun h => (lt_f h7 h).elim)
  refine awp_skip ?_
  refine awp_seq ?_
  refine awp_block ?_
  refine awp_seq ?_
  refine awp_plain hN rfl ?_
  refine qd rfl ?_
  refine qe rfl ?_
  refine awp_joinE (ι := Bool) (fun i => [(0, .dat (vstr s1)), (1, .dat (vval (.int .u8 low2))), (7, .dat (vint (s1.length : Int))), (8, .dat (vint (k3 : Int))), (21, .dat (vbool i))]) (fun i => []) (fun i => gateref2_visible_J2 i = some q4) (fun i => rfl) ?_ ?_
  ·skip
   refine awp_plain hN rfl ?_
   refine qd rfl ?_
   refine qd rfl ?_
   refine seq_run0 (t_byte tyU9 rfl rfl h8) ?_
   refine qd rfl ?_
   refine seq_run0 (stp_lss rfl rfl) ?_
   refine qd rfl ?_
   refine seq_split (j := 5) rfl rfl (fun h9 => ?_) (fun h9 => ?_) rfl
   ·have h10 := un3 h9
    replace H := iff_ h10 H
    refine seq_g0 rfl rfl h9 (stp_move (.dat _) rfl) ?_
    refine seq_g0 rfl rfl h9 (stp_move (.dat _) rfl) ?_
    refine seq_g0 rfl rfl h9 (t_byte tyU9 rfl rfl h8) ?_
    refine seq_g0 rfl rfl h9 (stp_gtr rfl rfl) ?_
    refine seq_run0 (stp_pick_f rfl (bFF h10) rfl) ?_
    exact ⟨decide (126 < (x6.toNat : Int)), H, ⟨rfl, rfl, rfl, rfl, rfl, trivial⟩, trivial⟩
   ·have h11 := un4 h9
    replace H := ift h11 H
    refine seq_skip rfl rfl h9 ?_
    refine seq_skip rfl rfl h9 ?_
    refine seq_skip rfl rfl h9 ?_
    refine seq_skip rfl rfl h9 ?_
    refine seq_run0 (stp_pick_t rfl (bTT h11) rfl) ?_
    exact ⟨true, H, ⟨rfl, rfl, rfl, rfl, rfl, trivial⟩, trivial⟩
  ·rintro v12 H
   replace H : gateref2_visible_J2 v12 = some q4 := H
   unfold gateref2_visible_J2 at H
   refine awp_cond _ rfl (fun h13 => ?_) (fun h13 => ?_)
   ·replace H := ift h13 H
    refine awp_seq ?_
    refine awp_plain hN rfl ?_
    refine qe rfl ?_
    refine awp_ret ?_
    replace H := retl H hq4
    cases H
    exact ⟨trivial, .inl rfl, trivial⟩
   ·replace H := iff_ h13 H
    refine awp_skip ?_
    refine awp_plain hN rfl ?_
    refine seq_run0 (stp_add rfl rfl (by omega)) ?_
    refine qd rfl ?_
    exact ⟨_, backl H, ⟨rfl, rfl, rfl, rfl, trivial⟩, trivial⟩
theorem k_gateref2_pathForm (s1 : Bs) (r : (Bool)) (H : m_gateref2_pathForm s1 = some r) : Fn Tryz.prog 87 [vstr s1] (resOf [vbool r]) := by
 refine ⟨by kernel_rfl, pure_of (us := [vbool r]) Tryz.func87 rfl rfl rfl rfl fun X hN => ?_⟩
 unfold m_gateref2_pathForm at H
 refine awp_seq ?_
 refine awp_plain hN rfl ?_
 refine qe rfl ?_
 refine awp_joinE (ι := Bool) (fun i => [(2, .dat (vbool i))]) (fun i => []) (fun i => gateref2_pathForm_J1 i = some r) (fun i => rfl) ?_ ?_
 ·skip
  refine awp_plain hN rfl ?_
  refine qd rfl ?_
  refine seq_run0 (stp_len_str tyU9 rfl) ?_
  obtain ⟨r2, h3, H⟩ := bnd H
  refine seq_run0 (stp_call (k_gateref2_in (s1.length : Int) 1 1000 r2 h3) ⟨.inl rfl, .inl rfl, .inl rfl, trivial⟩) ?_
  refine qd rfl ?_
  refine seq_split (j := 3) rfl rfl (fun h4 => ?_) (fun h4 => ?_) rfl
  ·have h5 := un1 h4
   replace H := ift h5 H
   refine seq_g0 rfl rfl h4 (stp_move (.dat _) rfl) ?_
   obtain ⟨x6, h7, H⟩ := bnd H
   refine seq_g0 rfl rfl h4 (t_byte tyU9 rfl rfl h7) ?_
   refine seq_g0 rfl rfl h4 (stp_eql rfl rfl) ?_
   refine seq_run0 (stp_pick_t rfl (bTT h5) rfl) ?_
   refine qd rfl ?_
   refine seq_split (j := 8) rfl rfl (fun h8 => ?_) (fun h8 => ?_) rfl
   ·have h9 := un1 h8
    replace H := ift h9 H
    refine seq_g0 rfl rfl h8 (stp_move (.dat _) rfl) ?_
    obtain ⟨r10, h11, H⟩ := bnd H
    refine seq_g0 rfl rfl h8 (stp_call (k_gateref2_visible s1 33 r10 h11) ⟨.inl rfl, .inl rfl, trivial⟩) ?_
    refine seq_run0 (stp_pick_t rfl (bTT h9) rfl) ?_
    refine qd rfl ?_
    refine seq_split (j := 12) rfl rfl (fun h12 => ?_) (fun h12 => ?_) rfl
    ·have h13 := un1 h12
     replace H := ift h13 H
     refine seq_g0 rfl rfl h12 (stp_move (.dat _) rfl) ?_
     obtain ⟨r14, h15, H⟩ := bnd H
     refine seq_g0 rfl rfl h12 (stp_call (k_strings_ContainsAny s1 [63, 35] r14 h15) ⟨.inl rfl, .inl rfl, trivial⟩) ?_
     refine seq_g0 rfl rfl h12 (stp_not rfl) ?_
     refine seq_run0 (stp_pick_t rfl (bTT h13) rfl) ?_
     refine qe rfl ?_
     exact ⟨!r14, H, ⟨rfl, trivial⟩, trivial⟩
    ·have h16 := un2 h12
     replace H := iff_ h16 H
     refine seq_skip rfl rfl h12 ?_
     refine seq_skip rfl rfl h12 ?_
     refine seq_skip rfl rfl h12 ?_
     refine seq_run0 (stp_pick_f rfl (bFF h16) rfl) ?_
     refine qe rfl ?_
     exact ⟨false, H, ⟨rfl, trivial⟩, trivial⟩
   ·have h17 := un2 h8
    replace H := iff_ h17 H
    refine seq_skip rfl rfl h8 ?_
    refine seq_skip rfl rfl h8 ?_
    refine seq_run0 (stp_pick_f rfl (bFF h17) rfl) ?_
    refine qd rfl ?_
    refine seq_skip rfl rfl rfl ?_
    refine seq_skip rfl rfl rfl ?_
    refine seq_skip rfl rfl rfl ?_
    refine seq_run0 (stp_pick_f rfl rfl rfl) ?_
    refine qe rfl ?_
    exact ⟨false, H, ⟨rfl, trivial⟩, trivial⟩
  ·have h18 := un2 h4
   replace H := iff_ h18 H
   refine seq_skip rfl rfl h4 ?_
   refine seq_skip rfl rfl h4 ?_
   refine seq_skip rfl rfl h4 ?_
   refine seq_run0 (stp_pick_f rfl (bFF h18) rfl) ?_
   refine qd rfl ?_
   refine seq_skip rfl rfl rfl ?_
   refine seq_skip rfl rfl rfl ?_
   refine seq_run0 (stp_pick_f rfl rfl rfl) ?_
   refine qd rfl ?_
   refine seq_skip rfl rfl rfl ?_
   refine seq_skip rfl rfl rfl ?_
   refine seq_skip rfl rfl rfl ?_
   refine seq_run0 (stp_pick_f rfl rfl rfl) ?_
   refine qe rfl ?_
   exact ⟨false, H, ⟨rfl, trivial⟩, trivial⟩
 ·rintro v19 H
  replace H : gateref2_pathForm_J1 v19 = some r := H
  unfold gateref2_pathForm_J1 at H
  refine awp_ret ?_
  cases H
  exact ⟨trivial, .inl rfl, trivial⟩
theorem k_gateref2_queryForm (s1 : Bs) (r : (Bool)) (H : m_gateref2_queryForm s1 = some r) : Fn Tryz.prog 88 [vstr s1] (resOf [vbool r]) := by
 refine ⟨by kernel_rfl, pure_of (us := [vbool r]) Tryz.func88 rfl rfl rfl rfl fun X hN => ?_⟩
 unfold m_gateref2_queryForm at H
 refine awp_seq ?_
 refine awp_plain hN rfl ?_
 refine qe rfl ?_
 refine awp_joinE (ι := Bool) (fun i => [(2, .dat (vbool i))]) (fun i => []) (fun i => gateref2_queryForm_J1 i = some r) (fun i => rfl) ?_ ?_
 ·skip
  refine awp_plain hN rfl ?_
  refine qd rfl ?_
  refine seq_run0 (stp_len_str tyU9 rfl) ?_
  refine seq_run0 (stp_leq rfl rfl) ?_
  refine qd rfl ?_
  refine seq_split (j := 3) rfl rfl (fun h2 => ?_) (fun h2 => ?_) rfl
  ·have h3 := un1 h2
   replace H := ift h3 H
   refine seq_g0 rfl rfl h2 (stp_move (.dat _) rfl) ?_
   obtain ⟨r4, h5, H⟩ := bnd H
   refine seq_g0 rfl rfl h2 (stp_call (k_gateref2_visible s1 33 r4 h5) ⟨.inl rfl, .inl rfl, trivial⟩) ?_
   refine seq_run0 (stp_pick_t rfl (bTT h3) rfl) ?_
   refine qd rfl ?_
   refine seq_split (j := 7) rfl rfl (fun h6 => ?_) (fun h6 => ?_) rfl
   ·have h7 := un1 h6
    replace H := ift h7 H
    refine seq_g0 rfl rfl h6 (stp_move (.dat _) rfl) ?_
    obtain ⟨r8, h9, H⟩ := bnd H
    refine seq_g0 rfl rfl h6 (stp_call (k_strings_Contains s1 [35] r8 h9) ⟨.inl rfl, .inl rfl, trivial⟩) ?_
    refine seq_g0 rfl rfl h6 (stp_not rfl) ?_
    refine seq_run0 (stp_pick_t rfl (bTT h7) rfl) ?_
    refine qe rfl ?_
    exact ⟨!r8, H, ⟨rfl, trivial⟩, trivial⟩
   ·have h10 := un2 h6
    replace H := iff_ h10 H
    refine seq_skip rfl rfl h6 ?_
    refine seq_skip rfl rfl h6 ?_
    refine seq_skip rfl rfl h6 ?_
    refine seq_run0 (stp_pick_f rfl (bFF h10) rfl) ?_
    refine qe rfl ?_
    exact ⟨false, H, ⟨rfl, trivial⟩, trivial⟩
  ·have h11 := un2 h2
   replace H := iff_ h11 H
   refine seq_skip rfl rfl h2 ?_
   refine seq_skip rfl rfl h2 ?_
   refine seq_run0 (stp_pick_f rfl (bFF h11) rfl) ?_
   refine qd rfl ?_
   refine seq_skip rfl rfl rfl ?_
   refine seq_skip rfl rfl rfl ?_
   refine seq_skip rfl rfl rfl ?_
   refine seq_run0 (stp_pick_f rfl rfl rfl) ?_
   refine qe rfl ?_
   exact ⟨false, H, ⟨rfl, trivial⟩, trivial⟩
 ·rintro v12 H
  replace H : gateref2_queryForm_J1 v12 = some r := H
  unfold gateref2_queryForm_J1 at H
  refine awp_ret ?_
  cases H
  exact ⟨trivial, .inl rfl, trivial⟩
theorem k_gateref2_Field (s1 : Bs) (r : (Bool)) (H : m_gateref2_Field s1 = some r) : Fn Tryz.prog 56 [vstr s1] (resOf [vbool r]) := by
 refine ⟨by kernel_rfl, pure_of (us := [vbool r]) Tryz.func56 rfl rfl rfl rfl fun X hN => ?_⟩
 unfold m_gateref2_Field at H
 refine awp_seq ?_
 refine awp_plain hN rfl ?_
 refine qe rfl ?_
 refine awp_joinE (ι := Bool) (fun i => [(2, .dat (vbool i))]) (fun i => []) (fun i => gateref2_Field_J1 i = some r) (fun i => rfl) ?_ ?_
 ·skip
  refine awp_plain hN rfl ?_
  refine qd rfl ?_
  refine seq_run0 (stp_len_str tyU9 rfl) ?_
  refine seq_run0 (stp_leq rfl rfl) ?_
  refine qd rfl ?_
  refine seq_split (j := 3) rfl rfl (fun h2 => ?_) (fun h2 => ?_) rfl
  ·have h3 := un1 h2
   replace H := ift h3 H
   refine seq_g0 rfl rfl h2 (stp_move (.dat _) rfl) ?_
   obtain ⟨r4, h5, H⟩ := bnd H
   refine seq_g0 rfl rfl h2 (stp_call (k_gateref2_visible s1 32 r4 h5) ⟨.inl rfl, .inl rfl, trivial⟩) ?_
   refine seq_run0 (stp_pick_t rfl (bTT h3) rfl) ?_
   refine qd rfl ?_
   refine seq_split (j := 7) rfl rfl (fun h6 => ?_) (fun h6 => ?_) rfl
   ·have h7 := un1 h6
    replace H := ift h7 H
    refine seq_g0 rfl rfl h6 (stp_move (.dat _) rfl) ?_
    obtain ⟨r8, h9, H⟩ := bnd H
    refine seq_g0 rfl rfl h6 (stp_call (k_strings_Trim s1 [32] r8 h9) ⟨.inl rfl, .inl rfl, trivial⟩) ?_
    refine seq_g0 rfl rfl h6 (stp_move (.dat _) rfl) ?_
    refine seq_g0 rfl rfl h6 (stp_seql rfl rfl) ?_
    refine seq_run0 (stp_pick_t rfl (bTT h7) rfl) ?_
    refine qe rfl ?_
    exact ⟨decide (r8 = s1), H, ⟨rfl, trivial⟩, trivial⟩
   ·have h10 := un2 h6
    replace H := iff_ h10 H
    refine seq_skip rfl rfl h6 ?_
    refine seq_skip rfl rfl h6 ?_
    refine seq_skip rfl rfl h6 ?_
    refine seq_skip rfl rfl h6 ?_
    refine seq_run0 (stp_pick_f rfl (bFF h10) rfl) ?_
    refine qe rfl ?_
    exact ⟨false, H, ⟨rfl, trivial⟩, trivial⟩
  ·have h11 := un2 h2
   replace H := iff_ h11 H
   refine seq_skip rfl rfl h2 ?_
   refine seq_skip rfl rfl h2 ?_
   refine seq_run0 (stp_pick_f rfl (bFF h11) rfl) ?_
   refine qd rfl ?_
   refine seq_skip rfl rfl rfl ?_
   refine seq_skip rfl rfl rfl ?_
   refine seq_skip rfl rfl rfl ?_
   refine seq_skip rfl rfl rfl ?_
   refine seq_run0 (stp_pick_f rfl rfl rfl) ?_
   refine qe rfl ?_
   exact ⟨false, H, ⟨rfl, trivial⟩, trivial⟩
 ·rintro v12 H
  replace H : gateref2_Field_J1 v12 = some r := H
  unfold gateref2_Field_J1 at H
  refine awp_ret ?_
  cases H
  exact ⟨trivial, .inl rfl, trivial⟩
theorem k_gateref2_HeadersFault (l1 : (List S_api_Header)) (r : (Int)) (H : m_gateref2_HeadersFault l1 = some r) : Fn Tryz.prog 89 [vlst (List.map C_api_Header l1)] (resOf [vint r]) := by
 refine ⟨by kernel_rfl, pure_of (us := [vint r]) Tryz.func89 rfl rfl rfl rfl fun X hN => ?_⟩
 unfold m_gateref2_HeadersFault at H
 refine awp_seq ?_
 refine awp_plain hN rfl ?_
 refine qe rfl ?_
 refine awp_seq ?_
 refine awp_seq ?_
 refine awp_plain hN rfl ?_
 refine qd rfl ?_
 refine seq_run0 (t_len tyU26 rfl) ?_
 refine seq_run0 (stp_gtr rfl rfl) ?_
 refine awp_cond _ rfl (fun h2 => ?_) (fun h2 => ?_)
 ·replace H := ift h2 H
  refine awp_seq ?_
  refine awp_plain hN rfl ?_
  refine qe rfl ?_
  refine awp_ret ?_
  cases H
  exact ⟨trivial, .inl rfl, trivial⟩
 ·replace H := iff_ h2 H
  refine awp_skip ?_
  refine awp_seq ?_
  refine awp_seq ?_
  refine awp_plain hN rfl ?_
  refine qd rfl ?_
  refine seq_run0 (t_len tyU26 rfl) ?_
  refine qd rfl ?_
  refine awp_block ?_
  obtain ⟨h5, H⟩ := gif H
  refine awp_forL (fun (k3 : Nat) (s : Unit) => [(8, .dat (vlst (List.map C_api_Header l1))), (9, .dat (vint (l1.length : Int))), (10, .dat (vint (k3 : Int)))]) (fun (k3 : Nat) (s : Unit) => []) () H ⟨rfl, rfl, rfl, trivial⟩ trivial (fun _ _ => rfl) ?_ ?_
  ·rintro ⟨⟩ H
   replace H : gateref2_HeadersFault_E1 = some r := H
   unfold gateref2_HeadersFault_E1 at H
   refine awp_seq ?_
   refine awp_plain hN rfl ?_
   refine seq_run0 (stp_lss rfl rfl) ?_
   refine awp_seq ?_
   refine awp_cond _ rfl (fun h => (lt_t h).elim) (fun h => ?_)
   refine awp_exit ?_
   refine awp_seq ?_
   refine awp_plain hN rfl ?_
   refine qe rfl ?_
   refine awp_ret ?_
   cases H
   exact ⟨trivial, .inl rfl, trivial⟩
  ·rintro k3 x6 ⟨⟩ q4 h7 h8 H hq4
   replace H : gateref2_HeadersFault_L1 k3 x6 = some q4 := H
   unfold gateref2_HeadersFault_L1 at H
   refine awp_seq ?_
   refine awp_plain hN rfl ?_
   refine seq_run0 (stp_lss rfl rfl) ?_
   refine awp_seq ?_
   refine awp_cond _ rfl (fun h => ?_) (fun h => (lt_f h7 h).elim)
   refine awp_skip ?_
   refine awp_seq ?_
   refine awp_block ?_
   refine awp_seq ?_
   refine awp_plain hN rfl ?_
   refine seq_run0 (t_idx tyE26 (fun _ => rfl) rfl rfl h8) ?_
   refine seq_run0 (stp_loadEA tyS54 rfl (map_at h8) rfl) ?_
   refine seq_run2 (stp_alloc 1 tyZ54 rfl) rfl ?_
   refine seq_run2 (stp_storeW tyS54 rfl rfl rfl rfl) rfl ?_
   refine awp_seq ?_
   refine awp_seq ?_
   refine awp_plain hN rfl ?_
   refine seq_run0 (stp_fldP tyF54_0 rfl) ?_
   refine seq_run1 (stp_load1 tyS9 rfl rfl) rfl ?_
   obtain ⟨r9, h10, H⟩ := bnd H
   refine seq_run0 (stp_call (k_gateref2_Token x6.Name r9 h10) ⟨.inl rfl, trivial⟩) ?_
   refine seq_run0 (stp_not rfl) ?_
   refine awp_cond _ rfl (fun h11 => ?_) (fun h11 => ?_)
   ·replace H := ift h11 H
    refine awp_seq ?_
    refine awp_plain hN rfl ?_
    refine qe rfl ?_
    refine awp_ret ?_
    replace H := retl H hq4
    cases H
    exact ⟨trivial, .inl rfl, trivial⟩
   ·replace H := iff_ h11 H
    refine awp_skip ?_
    refine awp_seq ?_
    refine awp_plain hN rfl ?_
    refine seq_run0 (stp_fldP tyF54_1 rfl) ?_
    refine seq_run1 (stp_load1 tyS9 rfl rfl) rfl ?_
    obtain ⟨r12, h13, H⟩ := bnd H
    refine seq_run0 (stp_call (k_gateref2_Field x6.Value r12 h13) ⟨.inl rfl, trivial⟩) ?_
    refine seq_run0 (stp_not rfl) ?_
    refine awp_cond _ rfl (fun h14 => ?_) (fun h14 => ?_)
    ·replace H := ift h14 H
     refine awp_seq ?_
     refine awp_plain hN rfl ?_
     refine qe rfl ?_
     refine awp_ret ?_
     replace H := retl H hq4
     cases H
     exact ⟨trivial, .inl rfl, trivial⟩
    ·replace H := iff_ h14 H
     refine awp_skip ?_
     refine awp_plain hN rfl ?_
     refine seq_run0 (stp_add rfl rfl (by omega)) ?_
     refine qd rfl ?_
     exact ⟨_, backl H, ⟨rfl, rfl, rfl, trivial⟩, trivial⟩
theorem k_gateref2_RequestFault (r1 : S_api_Request) (r : (Int)) (H : m_gateref2_RequestFault r1 = some r) : Fn Tryz.prog 38 [vagg (C_api_Request r1)] (resOf [vint r]) := by
 refine ⟨by kernel_rfl, pure_of (us := [vint r]) Tryz.func38 rfl rfl rfl rfl fun X hN => ?_⟩
 unfold m_gateref2_RequestFault at H
 refine awp_seq ?_
 refine awp_plain hN rfl ?_
 refine seq_run2 (stp_boxA 1 rfl) rfl ?_
 refine qe rfl ?_
 refine awp_seq ?_
 refine awp_block ?_
 refine awp_seq ?_
 refine awp_plain hN rfl ?_
 refine seq_run0 (stp_fldP tyF28_0 rfl) ?_
 refine seq_run1 (stp_load1 tyS3 rfl rfl) rfl ?_
 obtain ⟨r2, h3, H⟩ := bnd H
 refine seq_run0 (stp_call (k_gateref2_Moment r1.At r2 h3) ⟨.inl rfl, trivial⟩) ?_
 refine seq_run0 (stp_not rfl) ?_
 refine qe rfl ?_
 refine awp_cond _ rfl (fun h4 => ?_) (fun h4 => ?_)
 ·replace H := ift h4 H
  refine awp_seq ?_
  refine awp_plain hN rfl ?_
  refine qe rfl ?_
  refine awp_ret ?_
  cases H
  exact ⟨trivial, .inl rfl, trivial⟩
 ·replace H := iff_ h4 H
  refine awp_seq ?_
  refine awp_plain hN rfl ?_
  refine seq_run0 (stp_fldP tyF28_1 rfl) ?_
  refine seq_run1 (stp_load1 tyS9 rfl rfl) rfl ?_
  obtain ⟨r5, h6, H⟩ := bnd H
  refine seq_run0 (stp_call (k_gateref2_Token r1.Method r5 h6) ⟨.inl rfl, trivial⟩) ?_
  refine seq_run0 (stp_not rfl) ?_
  refine qe rfl ?_
  refine awp_cond _ rfl (fun h7 => ?_) (fun h7 => ?_)
  ·replace H := ift h7 H
   refine awp_seq ?_
   refine awp_plain hN rfl ?_
   refine qe rfl ?_
   refine awp_ret ?_
   cases H
   exact ⟨trivial, .inl rfl, trivial⟩
  ·replace H := iff_ h7 H
   refine awp_skip ?_
   refine awp_seq ?_
   refine awp_seq ?_
   refine awp_plain hN rfl ?_
   refine seq_run0 (stp_fldP tyF28_2 rfl) ?_
   refine seq_run1 (stp_load1 tyS9 rfl rfl) rfl ?_
   obtain ⟨r8, h9, H⟩ := bnd H
   refine seq_run0 (stp_call (k_gateref2_HostOf r1.Host r8 h9) ⟨.inl rfl, trivial⟩) ?_
   refine qd rfl ?_
   refine seq_run0 (stp_ext rfl rfl) ?_
   refine seq_run0 (stp_ext rfl rfl) ?_
   refine qe rfl ?_
   refine qe rfl ?_
   refine awp_seq ?_
   refine awp_plain hN rfl ?_
   refine qd rfl ?_
   refine seq_run0 (stp_neq rfl rfl) ?_
   refine awp_cond _ rfl (fun h10 => ?_) (fun h10 => ?_)
   ·replace H := ift h10 H
    refine awp_seq ?_
    refine awp_plain hN rfl ?_
    refine qd rfl ?_
    refine qe rfl ?_
    refine awp_ret ?_
    cases H
    exact ⟨trivial, .inl rfl, trivial⟩
   ·replace H := iff_ h10 H
    refine awp_skip ?_
    refine awp_seq ?_
    refine awp_joinE (ι := Bool) (fun i => [(1, .ptr 1 0), (40, .dat (vbool i))]) (fun i => [(1, .box none 28 [.dat (vint r1.At), .dat (vstr r1.Method), .dat (vstr r1.Host), .dat (vstr r1.Path), .dat (vstr r1.Query), .dat (vstr r1.From), .dat (vlst (List.map C_api_Header r1.Headers)), .dat (vstr r1.Body)])]) (fun i => gateref2_RequestFault_J1 r1 i = some r) (fun i => rfl) ?_ ?_
    ·skip
     refine awp_plain hN rfl ?_
     refine seq_run0 (stp_fldP tyF28_3 rfl) ?_
     refine seq_run1 (stp_load1 tyS9 rfl rfl) rfl ?_
     obtain ⟨r11, h12, H⟩ := bnd H
     refine seq_run0 (stp_call (k_gateref2_pathForm r1.Path r11 h12) ⟨.inl rfl, trivial⟩) ?_
     refine seq_run0 (stp_not rfl) ?_
     refine qd rfl ?_
     refine seq_split (j := 4) rfl rfl (fun h13 => ?_) (fun h13 => ?_) rfl
     ·have h14 := un3 h13
      replace H := iff_ h14 H
      refine seq_g0 rfl rfl h13 (stp_fldP tyF28_4 rfl) ?_
      refine seq_g1 rfl rfl h13 (stp_load1 tyS9 rfl rfl) rfl ?_
      obtain ⟨r15, h16, H⟩ := bnd H
      refine seq_g0 rfl rfl h13 (stp_call (k_gateref2_queryForm r1.Query r15 h16) ⟨.inl rfl, trivial⟩) ?_
      refine seq_g0 rfl rfl h13 (stp_not rfl) ?_
      refine seq_run0 (stp_pick_f rfl (bFF h14) rfl) ?_
      refine qd rfl ?_
      refine seq_split (j := 10) rfl rfl (fun h17 => ?_) (fun h17 => ?_) rfl
      ·have h18 := un3 h17
       replace H := iff_ h18 H
       refine seq_g0 rfl rfl h17 (stp_fldP tyF28_5 rfl) ?_
       refine seq_g1 rfl rfl h17 (stp_load1 tyS9 rfl rfl) rfl ?_
       obtain ⟨r19, h20, H⟩ := bnd H
       refine seq_g0 rfl rfl h17 (stp_call (k_gateref2_Field r1.From r19 h20) ⟨.inl rfl, trivial⟩) ?_
       refine seq_g0 rfl rfl h17 (stp_not rfl) ?_
       refine seq_run0 (stp_pick_f rfl (bFF h18) rfl) ?_
       exact ⟨!r19, H, ⟨rfl, rfl, trivial⟩, ⟨rfl, trivial⟩⟩
      ·have h21 := un4 h17
       replace H := ift h21 H
       refine seq_skip rfl rfl h17 ?_
       refine seq_skip rfl rfl h17 ?_
       refine seq_skip rfl rfl h17 ?_
       refine seq_skip rfl rfl h17 ?_
       refine seq_run0 (stp_pick_t rfl (bTT h21) rfl) ?_
       exact ⟨true, H, ⟨rfl, rfl, trivial⟩, ⟨rfl, trivial⟩⟩
     ·have h22 := un4 h13
      replace H := ift h22 H
      refine seq_skip rfl rfl h13 ?_
      refine seq_skip rfl rfl h13 ?_
      refine seq_skip rfl rfl h13 ?_
      refine seq_skip rfl rfl h13 ?_
      refine seq_run0 (stp_pick_t rfl (bTT h22) rfl) ?_
      refine qd rfl ?_
      refine seq_skip rfl rfl rfl ?_
      refine seq_skip rfl rfl rfl ?_
      refine seq_skip rfl rfl rfl ?_
      refine seq_skip rfl rfl rfl ?_
      refine seq_run0 (stp_pick_t rfl rfl rfl) ?_
      exact ⟨true, H, ⟨rfl, rfl, trivial⟩, ⟨rfl, trivial⟩⟩
    ·rintro v23 H
     replace H : gateref2_RequestFault_J1 r1 v23 = some r := H
     unfold gateref2_RequestFault_J1 at H
     refine awp_cond _ rfl (fun h24 => ?_) (fun h24 => ?_)
     ·replace H := ift h24 H
      refine awp_seq ?_
      refine awp_plain hN rfl ?_
      refine qe rfl ?_
      refine awp_ret ?_
      cases H
      exact ⟨trivial, .inl rfl, trivial⟩
     ·replace H := iff_ h24 H
      refine awp_skip ?_
      refine awp_seq ?_
      refine awp_seq ?_
      refine awp_plain hN rfl ?_
      refine seq_run0 (stp_fldP tyF28_6 rfl) ?_
      refine seq_run1 (stp_load1 tyS26 rfl rfl) rfl ?_
      obtain ⟨r25, h26, H⟩ := bnd H
      refine seq_run0 (stp_call (k_gateref2_HeadersFault r1.Headers r25 h26) ⟨.inl rfl, trivial⟩) ?_
      refine qe rfl ?_
      refine awp_seq ?_
      refine awp_plain hN rfl ?_
      refine qd rfl ?_
      refine seq_run0 (stp_neq rfl rfl) ?_
      refine awp_cond _ rfl (fun h27 => ?_) (fun h27 => ?_)
      ·replace H := ift h27 H
       refine awp_seq ?_
       refine awp_plain hN rfl ?_
       refine qd rfl ?_
       refine qe rfl ?_
       refine awp_ret ?_
       cases H
       exact ⟨trivial, .inl rfl, trivial⟩
      ·replace H := iff_ h27 H
       refine awp_skip ?_
       refine awp_seq ?_
       refine awp_seq ?_
       refine awp_plain hN rfl ?_
       refine seq_run0 (stp_fldP tyF28_7 rfl) ?_
       refine seq_run1 (stp_load1 tyS9 rfl rfl) rfl ?_
       refine seq_run0 (stp_len_str tyU9 rfl) ?_
       refine seq_run0 (stp_gtr rfl rfl) ?_
       refine awp_cond _ rfl (fun h28 => ?_) (fun h28 => ?_)
       ·replace H := ift h28 H
        refine awp_seq ?_
        refine awp_plain hN rfl ?_
        refine qe rfl ?_
        refine awp_ret ?_
        cases H
        exact ⟨trivial, .inl rfl, trivial⟩
       ·replace H := iff_ h28 H
        refine awp_skip ?_
        refine awp_seq ?_
        refine awp_plain hN rfl ?_
        refine qe rfl ?_
        refine awp_ret ?_
        cases H
        exact ⟨trivial, .inl rfl, trivial⟩
theorem k_gateref2_alike (a1 : Bs) (b2 : Bs) (r : (Bool)) (H : m_gateref2_alike a1 b2 = some r) : Fn Tryz.prog 46 [vstr a1, vstr b2] (resOf [vbool r]) := by
 refine ⟨by kernel_rfl, pure_of (us := [vbool r]) Tryz.func46 rfl rfl rfl rfl fun X hN => ?_⟩
 unfold m_gateref2_alike at H
 refine awp_seq ?_
 refine awp_plain hN rfl ?_
 refine qe rfl ?_
 refine awp_seq ?_
 refine awp_plain hN rfl ?_
 refine qd rfl ?_
 obtain ⟨r3, h4, H⟩ := bnd H
 refine seq_run0 (stp_call (k_strings_ToLower a1 r3 h4) ⟨.inl rfl, trivial⟩) ?_
 refine qd rfl ?_
 obtain ⟨r5, h6, H⟩ := bnd H
 refine seq_run0 (stp_call (k_strings_ToLower b2 r5 h6) ⟨.inl rfl, trivial⟩) ?_
 refine seq_run0 (stp_seql rfl rfl) ?_
 refine qe rfl ?_
 refine awp_ret ?_
 cases H
 exact ⟨trivial, .inl rfl, trivial⟩
theorem k_gateref2_Values (l1 : (List S_api_Header)) (name2 : Bs) (r : ((List Bs))) (H : m_gateref2_Values l1 name2 = some r) : Fn Tryz.prog 41 [vlst (List.map C_api_Header l1), vstr name2] (resOf [vlst (List.map C_string r)]) := by
 refine ⟨by kernel_rfl, pure_of (us := [vlst (List.map C_string r)]) Tryz.func41 rfl rfl rfl rfl fun X hN => ?_⟩
 unfold m_gateref2_Values at H
 refine awp_seq ?_
 refine awp_plain hN rfl ?_
 refine qe rfl ?_
 refine awp_seq ?_
 refine awp_plain hN rfl ?_
 refine qe rfl ?_
 refine awp_seq ?_
 refine awp_seq ?_
 refine awp_plain hN rfl ?_
 refine qd rfl ?_
 refine seq_run0 (t_len tyU26 rfl) ?_
 refine qd rfl ?_
 refine awp_block ?_
 refine awp_nilrow 5 1 9 1 rfl rfl rfl ?_
 obtain ⟨h6, H⟩ := gif H
 refine awp_forL (fun (k4 : Nat) (s : (List Bs)) => [(1, .dat (vstr name2)), (5, .row 1 s.length), (8, .dat (vlst (List.map C_api_Header l1))), (9, .dat (vint (l1.length : Int))), (10, .dat (vint (k4 : Int)))]) (fun (k4 : Nat) (s : (List Bs)) => [(1, .row 9 1 (List.map C_string s))]) [] H ⟨rfl, rfl, rfl, rfl, rfl, trivial⟩ ⟨rfl, trivial⟩ (fun _ _ => rfl) ?_ ?_
 ·rintro l3 H
  replace H : gateref2_Values_E1 l3 = some r := H
  unfold gateref2_Values_E1 at H
  refine awp_seq ?_
  refine awp_plain hN rfl ?_
  refine seq_run0 (stp_lss rfl rfl) ?_
  refine awp_seq ?_
  refine awp_cond _ rfl (fun h => (lt_t h).elim) (fun h => ?_)
  refine awp_exit ?_
  refine awp_seq ?_
  refine awp_plain hN rfl ?_
  refine seq_run0 (stp_move (.row _ _) rfl) ?_
  refine seq_run0 (stp_assign (.row _ _) rfl) ?_
  refine awp_ret ?_
  cases H
  exact ⟨trivial, t_slotv rfl rfl, trivial⟩
 ·rintro k4 x7 l3 q5 h8 h9 H hq5
  replace H : gateref2_Values_L1 name2 k4 x7 l3 = some q5 := H
  unfold gateref2_Values_L1 at H
  refine awp_seq ?_
  refine awp_plain hN rfl ?_
  refine seq_run0 (stp_lss rfl rfl) ?_
  refine awp_seq ?_
  refine awp_cond _ rfl (fun h => ?_) (fun h => (lt_f h8 h).elim)
  refine awp_skip ?_
  refine awp_joinE (ι := (List Bs)) (fun i => [(1, .dat (vstr name2)), (5, .row 1 i.length), (8, .dat (vlst (List.map C_api_Header l1))), (9, .dat (vint (l1.length : Int))), (10, .dat (vint (k4 : Int)))]) (fun i => [(1, .row 9 1 (List.map C_string i))]) (fun i => gateref2_Values_J2 i = some q5) (fun i => rfl) ?_ ?_
  ·skip
   refine awp_block ?_
   refine awp_seq ?_
   refine awp_plain hN rfl ?_
   refine seq_run0 (t_idx tyE26 (fun _ => rfl) rfl rfl h9) ?_
   refine seq_run0 (stp_loadEA tyS54 rfl (map_at h9) rfl) ?_
   refine seq_run2 (stp_alloc 2 tyZ54 rfl) rfl ?_
   refine seq_run2 (stp_storeW tyS54 rfl rfl rfl rfl) rfl ?_
   refine awp_seq ?_
   refine awp_plain hN rfl ?_
   refine seq_run0 (stp_fldP tyF54_0 rfl) ?_
   refine seq_run1 (stp_load1 tyS9 rfl rfl) rfl ?_
   refine qd rfl ?_
   obtain ⟨r10, h11, H⟩ := bnd H
   refine seq_run0 (stp_call (k_gateref2_alike x7.Name name2 r10 h11) ⟨.inl rfl, .inl rfl, trivial⟩) ?_
   refine awp_cond _ rfl (fun h12 => ?_) (fun h12 => ?_)
   ·replace H := ift h12 H
    refine awp_plain hN rfl ?_
    refine seq_run0 (stp_move (.row _ _) rfl) ?_
    refine seq_run0 (stp_fldP tyF54_1 rfl) ?_
    refine seq_run1 (stp_load1 tyS9 rfl rfl) rfl ?_
    refine seq_run0 (stp_dat (u' := vlst (List.map C_string [x7.Value])) (stp_lit [[_]] tyL31 ⟨rfl, .inl ⟨_, rfl, rfl, rfl⟩, rfl, trivial⟩ rfl rfl) rfl) ?_
    obtain ⟨h13, H⟩ := gif H
    refine seq_run2 (t_app tyL31 (fun _ => rfl) rfl rfl rfl ⟨by simp, by first | (simp; done) | simpa using h13⟩ rfl) rfl ?_
    refine seq_run0 (stp_assign (.row _ _) rfl) ?_
    exact ⟨(l3 ++ [x7.Value]), H, ⟨rfl, rfl, rfl, rfl, rfl, trivial⟩, ⟨rfl, trivial⟩⟩
   ·replace H := iff_ h12 H
    refine awp_skip ?_
    exact ⟨l3, H, ⟨rfl, rfl, rfl, rfl, rfl, trivial⟩, ⟨rfl, trivial⟩⟩
  ·rintro out14 H
   replace H : gateref2_Values_J2 out14 = some q5 := H
   unfold gateref2_Values_J2 at H
   refine awp_plain hN rfl ?_
   refine seq_run0 (stp_add rfl rfl (by omega)) ?_
   refine qd rfl ?_
   exact ⟨_, backl H, ⟨rfl, rfl, rfl, rfl, rfl, trivial⟩, ⟨rfl, trivial⟩⟩
theorem k_gateref2_parts (values1 : (List Bs)) (r : ((List Bs))) (H : m_gateref2_parts values1 = some r) : Fn Tryz.prog 40 [vlst (List.map C_string values1)] (resOf [vlst (List.map C_string r)]) := by
 refine ⟨by kernel_rfl, pure_of (us := [vlst (List.map C_string r)]) Tryz.func40 rfl rfl rfl rfl fun X hN => ?_⟩
 unfold m_gateref2_parts at H
 refine awp_seq ?_
 refine awp_plain hN rfl ?_
 refine qe rfl ?_
 refine awp_seq ?_
 refine awp_plain hN rfl ?_
 refine qe rfl ?_
 refine awp_seq ?_
 refine awp_seq ?_
 refine awp_plain hN rfl ?_
 refine qd rfl ?_
 obtain ⟨r2, h3, H⟩ := bnd H
 refine seq_run0 (stp_call (k_strings_Join values1 [44] r2 h3) ⟨.inl rfl, .inl rfl, trivial⟩) ?_
 obtain ⟨r4, h5, H⟩ := bnd H
 refine seq_run0 (stp_call (k_strings_Split r2 [44] r4 h5) ⟨.inl rfl, .inl rfl, trivial⟩) ?_
 refine seq_run0 (t_len tyU31 rfl) ?_
 refine qd rfl ?_
 refine awp_block ?_
 refine awp_nilrow 3 1 9 1 rfl rfl rfl ?_
 obtain ⟨h9, H⟩ := gif H
 refine awp_forL (fun (k7 : Nat) (s : (List Bs)) => [(3, .row 1 s.length), (8, .dat (vlst (List.map C_string r4))), (9, .dat (vint (r4.length : Int))), (10, .dat (vint (k7 : Int)))]) (fun (k7 : Nat) (s : (List Bs)) => [(1, .row 9 1 (List.map C_string s))]) [] H ⟨rfl, rfl, rfl, rfl, trivial⟩ ⟨rfl, trivial⟩ (fun _ _ => rfl) ?_ ?_
 ·rintro l6 H
  replace H : gateref2_parts_E1 l6 = some r := H
  unfold gateref2_parts_E1 at H
  refine awp_seq ?_
  refine awp_plain hN rfl ?_
  refine seq_run0 (stp_lss rfl rfl) ?_
  refine awp_seq ?_
  refine awp_cond _ rfl (fun h => (lt_t h).elim) (fun h => ?_)
  refine awp_exit ?_
  refine awp_seq ?_
  refine awp_plain hN rfl ?_
  refine seq_run0 (stp_move (.row _ _) rfl) ?_
  refine seq_run0 (stp_assign (.row _ _) rfl) ?_
  refine awp_ret ?_
  cases H
  exact ⟨trivial, t_slotv rfl rfl, trivial⟩
 ·rintro k7 x10 l6 q8 h11 h12 H hq8
  replace H : gateref2_parts_L1 k7 x10 l6 = some q8 := H
  unfold gateref2_parts_L1 at H
  refine awp_seq ?_
  refine awp_plain hN rfl ?_
  refine seq_run0 (stp_lss rfl rfl) ?_
  refine awp_seq ?_
  refine awp_cond _ rfl (fun h => ?_) (fun h => (lt_f h11 h).elim)
  refine awp_skip ?_
  refine awp_joinE (ι := (List Bs)) (fun i => [(3, .row 1 i.length), (8, .dat (vlst (List.map C_string r4))), (9, .dat (vint (r4.length : Int))), (10, .dat (vint (k7 : Int)))]) (fun i => [(1, .row 9 1 (List.map C_string i))]) (fun i => gateref2_parts_J2 i = some q8) (fun i => rfl) ?_ ?_
  ·skip
   refine awp_block ?_
   refine awp_seq ?_
   refine awp_plain hN rfl ?_
   refine seq_run0 (t_idx tyE31 (fun _ => rfl) rfl rfl h12) ?_
   refine seq_run0 (stp_loadE1 tyS9 rfl (map_at h12) rfl) ?_
   refine qe rfl ?_
   refine awp_seq ?_
   refine awp_plain hN rfl ?_
   refine qd rfl ?_
   obtain ⟨r13, h14, H⟩ := bnd H
   refine seq_run0 (stp_call (k_strings_Trim x10 [32] r13 h14) ⟨.inl rfl, .inl rfl, trivial⟩) ?_
   refine qe rfl ?_
   refine awp_seq ?_
   refine awp_plain hN rfl ?_
   refine qd rfl ?_
   refine seq_run0 (stp_sneq rfl rfl) ?_
   refine awp_cond _ rfl (fun h15 => ?_) (fun h15 => ?_)
   ·replace H := ift h15 H
    refine awp_plain hN rfl ?_
    refine seq_run0 (stp_move (.row _ _) rfl) ?_
    refine qd rfl ?_
    refine seq_run0 (stp_dat (u' := vlst (List.map C_string [r13])) (stp_lit [[_]] tyL31 ⟨rfl, .inl ⟨_, rfl, rfl, rfl⟩, rfl, trivial⟩ rfl rfl) rfl) ?_
    obtain ⟨h16, H⟩ := gif H
    refine seq_run2 (t_app tyL31 (fun _ => rfl) rfl rfl rfl ⟨by simp, by first | (simp; done) | simpa using h16⟩ rfl) rfl ?_
    refine seq_run0 (stp_assign (.row _ _) rfl) ?_
    exact ⟨(l6 ++ [r13]), H, ⟨rfl, rfl, rfl, rfl, trivial⟩, ⟨rfl, trivial⟩⟩
   ·replace H := iff_ h15 H
    refine awp_skip ?_
    exact ⟨l6, H, ⟨rfl, rfl, rfl, rfl, trivial⟩, ⟨rfl, trivial⟩⟩
  ·rintro out17 H
   replace H : gateref2_parts_J2 out17 = some q8 := H
   unfold gateref2_parts_J2 at H
   refine awp_plain hN rfl ?_
   refine seq_run0 (stp_add rfl rfl (by omega)) ?_
   refine qd rfl ?_
   exact ⟨_, backl H, ⟨rfl, rfl, rfl, rfl, trivial⟩, ⟨rfl, trivial⟩⟩
theorem k_slices_ContainsFunc_L_string_string_ (s1 : (List Bs)) (p1 : Bs → Option (Bool)) (fv1 : Nat) (us1 : List V) (hp1 : ∀ a0 r, p1 a0 = some r → Fn Tryz.prog fv1 ([vstr a0] ++ us1) (resOf [vbool r])) (r : (Bool)) (H : m_slices_ContainsFunc_L_string_string_ s1 p1 = some r) : Fn Tryz.prog 44 [vlst (List.map C_string s1), vfn fv1 us1] (resOf [vbool r]) := by
 refine ⟨by kernel_rfl, pure_of (us := [vbool r]) Tryz.func44 rfl rfl rfl rfl fun X hN => ?_⟩
 unfold m_slices_ContainsFunc_L_string_string_ at H
 refine awp_seq ?_
 refine awp_plain hN rfl ?_
 refine qe rfl ?_
 refine awp_seq ?_
 refine awp_plain hN rfl ?_
 refine qd rfl ?_
 refine qd rfl ?_
 obtain ⟨r2, h3, H⟩ := bnd H
 refine seq_run0 (stp_call (k_slices_IndexFunc_L_string_string_ s1 p1 fv1 us1 hp1 r2 h3) ⟨.inl rfl, .inl rfl, trivial⟩) ?_
 refine seq_run0 (stp_geq rfl rfl) ?_
 refine qe rfl ?_
 refine awp_ret ?_
 cases H
 exact ⟨trivial, .inl rfl, trivial⟩
theorem k_gateref2_ForwardOf_1_1 (g1 : Bs) (c2 : S_api_Header) (r : (Bool)) (H : m_gateref2_ForwardOf_1_1 g1 c2 = some r) : Fn Tryz.prog 45 [vstr g1, vcell [[vstr c2.Name, vstr c2.Value]] 0 0] (resOf [vbool r]) := by
 refine ⟨by kernel_rfl, pure_of (us := [vbool r]) Tryz.func45 rfl rfl rfl rfl fun X hN => ?_⟩
 unfold m_gateref2_ForwardOf_1_1 at H
 refine awp_seq ?_
 refine awp_plain hN rfl ?_
 refine qe rfl ?_
 refine awp_seq ?_
 refine awp_plain hN rfl ?_
 refine qd rfl ?_
 refine seq_run0 (stp_fldE tyF54_0 rfl) ?_
 refine seq_run0 (stp_loadE1 tyS9 rfl rfl rfl) ?_
 obtain ⟨r3, h4, H⟩ := bnd H
 refine seq_run0 (stp_call (k_gateref2_alike g1 c2.Name r3 h4) ⟨.inl rfl, .inl rfl, trivial⟩) ?_
 refine qe rfl ?_
 refine awp_ret ?_
 cases H
 exact ⟨trivial, .inl rfl, trivial⟩
theorem k_gateref2_ForwardOf_1 (h1 : S_api_Header) (c2 : (List Bs)) (r : (Bool)) (H : m_gateref2_ForwardOf_1 h1 c2 = some r) : Fn Tryz.prog 43 [vagg (C_api_Header h1), vcell [[vlst (List.map C_string c2)]] 0 0] (resOf [vbool r]) := by
 refine ⟨by kernel_rfl, pure_of (us := [vbool r]) Tryz.func43 rfl rfl rfl rfl fun X hN => ?_⟩
 unfold m_gateref2_ForwardOf_1 at H
 refine awp_seq ?_
 refine awp_plain hN rfl ?_
 refine seq_run2 (stp_boxA 1 rfl) rfl ?_
 refine qe rfl ?_
 refine awp_seq ?_
 refine awp_frzB 1 [vstr h1.Name, vstr h1.Value] rfl rfl ?_
 refine awp_plain hN rfl ?_
 refine seq_run0 (stp_loadE1 tyS31 rfl rfl rfl) ?_
 refine seq_run0 (stp_mkfn (us := [_]) ⟨rfl, trivial⟩) ?_
 obtain ⟨r3, h4, H⟩ := bnd H
 refine seq_run0 (stp_call (k_slices_ContainsFunc_L_string_string_ c2 (fun (a0 : Bs) => m_gateref2_ForwardOf_1_1 a0 h1) 45 [vcell [[vstr h1.Name, vstr h1.Value]] 0 0] (fun a0 r h => k_gateref2_ForwardOf_1_1 a0 h1 r h) r3 h4) ⟨.inl rfl, .inl rfl, trivial⟩) ?_
 refine qe rfl ?_
 refine awp_ret ?_
 cases H
 exact ⟨trivial, .inl rfl, trivial⟩
theorem kr_gateref2_Values (l1 : (List S_api_Header)) (name2 : Bs) (r : ((List Bs))) (H : m_gateref2_Values l1 name2 = some r) : FnG Tryz.prog 41 [.dat (vlst (List.map C_api_Header l1)), .dat (vstr name2)] [] (.row 1 r.length) [(1, .row 9 1 (List.map C_string r))] := by
 refine fnG_of (by kernel_rfl) Tryz.func41 rfl rfl rfl rfl fun X A hN => ?_
 unfold m_gateref2_Values at H
 refine awp_seq ?_
 refine awp_plain hN rfl ?_
 refine qe rfl ?_
 refine awp_seq ?_
 refine awp_plain hN rfl ?_
 refine qe rfl ?_
 refine awp_seq ?_
 refine awp_seq ?_
 refine awp_plain hN rfl ?_
 refine qd rfl ?_
 refine seq_run0 (t_len tyU26 rfl) ?_
 refine qd rfl ?_
 refine awp_block ?_
 refine awp_nilrow 5 1 9 1 rfl rfl rfl ?_
 obtain ⟨h6, H⟩ := gif H
 refine awp_forL (fun (k4 : Nat) (s : (List Bs)) => [(1, .dat (vstr name2)), (5, .row 1 s.length), (8, .dat (vlst (List.map C_api_Header l1))), (9, .dat (vint (l1.length : Int))), (10, .dat (vint (k4 : Int)))]) (fun (k4 : Nat) (s : (List Bs)) => [(1, .row 9 1 (List.map C_string s))]) [] H ⟨rfl, rfl, rfl, rfl, rfl, trivial⟩ ⟨rfl, trivial⟩ (fun _ _ => rfl) ?_ ?_
 ·rintro l3 H
  replace H : gateref2_Values_E1 l3 = some r := H
  unfold gateref2_Values_E1 at H
  refine awp_seq ?_
  refine awp_plain hN rfl ?_
  refine seq_run0 (stp_lss rfl rfl) ?_
  refine awp_seq ?_
  refine awp_cond _ rfl (fun h => (lt_t h).elim) (fun h => ?_)
  refine awp_exit ?_
  refine awp_seq ?_
  refine awp_plain hN rfl ?_
  refine seq_run0 (stp_move (.row _ _) rfl) ?_
  refine seq_run0 (stp_assign (.row _ _) rfl) ?_
  refine awp_ret ?_
  cases H
  exact ⟨trivial, [(4, .row 1 _)], ⟨rfl, trivial⟩, ⟨rfl, trivial⟩, rfl, .inr ⟨4, rfl, rfl⟩⟩
 ·rintro k4 x7 l3 q5 h8 h9 H hq5
  replace H : gateref2_Values_L1 name2 k4 x7 l3 = some q5 := H
  unfold gateref2_Values_L1 at H
  refine awp_seq ?_
  refine awp_plain hN rfl ?_
  refine seq_run0 (stp_lss rfl rfl) ?_
  refine awp_seq ?_
  refine awp_cond _ rfl (fun h => ?_) (fun h => (lt_f h8 h).elim)
  refine awp_skip ?_
  refine awp_joinE (ι := (List Bs)) (fun i => [(1, .dat (vstr name2)), (5, .row 1 i.length), (8, .dat (vlst (List.map C_api_Header l1))), (9, .dat (vint (l1.length : Int))), (10, .dat (vint (k4 : Int)))]) (fun i => [(1, .row 9 1 (List.map C_string i))]) (fun i => gateref2_Values_J2 i = some q5) (fun i => rfl) ?_ ?_
  ·skip
   refine awp_block ?_
   refine awp_seq ?_
   refine awp_plain hN rfl ?_
   refine seq_run0 (t_idx tyE26 (fun _ => rfl) rfl rfl h9) ?_
   refine seq_run0 (stp_loadEA tyS54 rfl (map_at h9) rfl) ?_
   refine seq_run2 (stp_alloc 2 tyZ54 rfl) rfl ?_
   refine seq_run2 (stp_storeW tyS54 rfl rfl rfl rfl) rfl ?_
   refine awp_seq ?_
   refine awp_plain hN rfl ?_
   refine seq_run0 (stp_fldP tyF54_0 rfl) ?_
   refine seq_run1 (stp_load1 tyS9 rfl rfl) rfl ?_
   refine qd rfl ?_
   obtain ⟨r10, h11, H⟩ := bnd H
   refine seq_run0 (stp_call (k_gateref2_alike x7.Name name2 r10 h11) ⟨.inl rfl, .inl rfl, trivial⟩) ?_
   refine awp_cond _ rfl (fun h12 => ?_) (fun h12 => ?_)
   ·replace H := ift h12 H
    refine awp_plain hN rfl ?_
    refine seq_run0 (stp_move (.row _ _) rfl) ?_
    refine seq_run0 (stp_fldP tyF54_1 rfl) ?_
    refine seq_run1 (stp_load1 tyS9 rfl rfl) rfl ?_
    refine seq_run0 (stp_dat (u' := vlst (List.map C_string [x7.Value])) (stp_lit [[_]] tyL31 ⟨rfl, .inl ⟨_, rfl, rfl, rfl⟩, rfl, trivial⟩ rfl rfl) rfl) ?_
    obtain ⟨h13, H⟩ := gif H
    refine seq_run2 (t_app tyL31 (fun _ => rfl) rfl rfl rfl ⟨by simp, by first | (simp; done) | simpa using h13⟩ rfl) rfl ?_
    refine seq_run0 (stp_assign (.row _ _) rfl) ?_
    exact ⟨(l3 ++ [x7.Value]), H, ⟨rfl, rfl, rfl, rfl, rfl, trivial⟩, ⟨rfl, trivial⟩⟩
   ·replace H := iff_ h12 H
    refine awp_skip ?_
    exact ⟨l3, H, ⟨rfl, rfl, rfl, rfl, rfl, trivial⟩, ⟨rfl, trivial⟩⟩
  ·rintro out14 H
   replace H : gateref2_Values_J2 out14 = some q5 := H
   unfold gateref2_Values_J2 at H
   refine awp_plain hN rfl ?_
   refine seq_run0 (stp_add rfl rfl (by omega)) ?_
   refine qd rfl ?_
   exact ⟨_, backl H, ⟨rfl, rfl, rfl, rfl, rfl, trivial⟩, ⟨rfl, trivial⟩⟩
theorem k_gateref2_ForwardOf_2_1 (s1 : Bs) (r : (Bool)) (H : m_gateref2_ForwardOf_2_1 s1 = some r) : Fn Tryz.prog 49 [vstr s1] (resOf [vbool r]) := by
 refine ⟨by kernel_rfl, pure_of (us := [vbool r]) Tryz.func49 rfl rfl rfl rfl fun X hN => ?_⟩
 unfold m_gateref2_ForwardOf_2_1 at H
 refine awp_seq ?_
 refine awp_plain hN rfl ?_
 refine qe rfl ?_
 refine awp_seq ?_
 refine awp_plain hN rfl ?_
 refine qd rfl ?_
 refine seq_run0 (stp_seql rfl rfl) ?_
 refine qe rfl ?_
 refine awp_ret ?_
 cases H
 exact ⟨trivial, .inl rfl, trivial⟩
theorem k_gateref2_SetOf_1 (h1 : S_api_Header) (c2 : Bs) (r : (Bool)) (H : m_gateref2_SetOf_1 h1 c2 = some r) : Fn Tryz.prog 94 [vagg (C_api_Header h1), vcell [[vstr c2]] 0 0] (resOf [vbool r]) := by
 refine ⟨by kernel_rfl, pure_of (us := [vbool r]) Tryz.func94 rfl rfl rfl rfl fun X hN => ?_⟩
 unfold m_gateref2_SetOf_1 at H
 refine awp_seq ?_
 refine awp_plain hN rfl ?_
 refine seq_run2 (stp_boxA 1 rfl) rfl ?_
 refine qe rfl ?_
 refine awp_seq ?_
 refine awp_plain hN rfl ?_
 refine seq_run0 (stp_fldP tyF54_0 rfl) ?_
 refine seq_run1 (stp_load1 tyS9 rfl rfl) rfl ?_
 refine seq_run0 (stp_loadE1 tyS9 rfl rfl rfl) ?_
 obtain ⟨r3, h4, H⟩ := bnd H
 refine seq_run0 (stp_call (k_gateref2_alike h1.Name c2 r3 h4) ⟨.inl rfl, .inl rfl, trivial⟩) ?_
 refine qe rfl ?_
 refine awp_ret ?_
 cases H
 exact ⟨trivial, .inl rfl, trivial⟩
theorem k_gateref2_Without_1 (h1 : S_api_Header) (c2 : Bs) (r : (Bool)) (H : m_gateref2_Without_1 h1 c2 = some r) : Fn Tryz.prog 127 [vagg (C_api_Header h1), vcell [[vstr c2]] 0 0] (resOf [vbool r]) := by
 refine ⟨by kernel_rfl, pure_of (us := [vbool r]) Tryz.func127 rfl rfl rfl rfl fun X hN => ?_⟩
 unfold m_gateref2_Without_1 at H
 refine awp_seq ?_
 refine awp_plain hN rfl ?_
 refine seq_run2 (stp_boxA 1 rfl) rfl ?_
 refine qe rfl ?_
 refine awp_seq ?_
 refine awp_plain hN rfl ?_
 refine seq_run0 (stp_fldP tyF54_0 rfl) ?_
 refine seq_run1 (stp_load1 tyS9 rfl rfl) rfl ?_
 refine seq_run0 (stp_loadE1 tyS9 rfl rfl rfl) ?_
 obtain ⟨r3, h4, H⟩ := bnd H
 refine seq_run0 (stp_call (k_gateref2_alike h1.Name c2 r3 h4) ⟨.inl rfl, .inl rfl, trivial⟩) ?_
 refine qe rfl ?_
 refine awp_ret ?_
 cases H
 exact ⟨trivial, .inl rfl, trivial⟩
theorem k_gateref2_Without (l1 : (List S_api_Header)) (name2 : Bs) (r : ((List S_api_Header))) (H : m_gateref2_Without l1 name2 = some r) : Fn Tryz.prog 95 [vlst (List.map C_api_Header l1), vstr name2] (resOf [vlst (List.map C_api_Header r)]) := by
 refine ⟨by kernel_rfl, pure_of (us := [vlst (List.map C_api_Header r)]) Tryz.func95 rfl rfl rfl rfl fun X hN => ?_⟩
 unfold m_gateref2_Without at H
 refine awp_seq ?_
 refine awp_plain hN rfl ?_
 refine seq_run2 (stp_box1 1 rfl rfl) rfl ?_
 refine qe rfl ?_
 refine awp_seq ?_
 refine awp_frzB 1 [vstr name2] rfl rfl ?_
 refine awp_plain hN rfl ?_
 refine qd rfl ?_
 obtain ⟨r3, h4, H⟩ := bnd H
 refine seq_callG (rn [(900, 2)]) [] [(900, _)] (kr_slices_Clone_L_api_Header_api_Header_ l1 r3 h4) ⟨rfl, trivial⟩ ⟨.inl (.inl rfl), trivial⟩ trivial rfl ?_
 refine seq_run0 (stp_mkfn (us := [_]) ⟨rfl, trivial⟩) ?_
 obtain ⟨r5, h6, H⟩ := bnd H
 refine seq_callG (rn [(0, 2), (900, 3)]) [(0, _, _, none)] [(900, _)] (ks_slices_DeleteFunc_L_api_Header_api_Header_ r3 (fun (a0 : S_api_Header) => m_gateref2_Without_1 a0 name2) 127 [vcell [[vstr name2]] 0 0] (fun a0 r h => k_gateref2_Without_1 a0 name2 r h) r5 h6) ⟨rfl, rfl, trivial⟩ ⟨.inl (.inl rfl), .inl (.inl rfl), trivial⟩ ⟨⟨⟨rfl, rfl, rfl⟩, trivial⟩, trivial⟩ rfl ?_
 refine seq_run0 (stp_assign (.row _ _) rfl) ?_
 refine awp_ret ?_
 cases H
 exact ⟨trivial, t_slotv rfl rfl, trivial⟩
theorem k_gateref2_SetOf (l1 : (List S_api_Header)) (name2 : Bs) (value3 : Bs) (r : ((List S_api_Header))) (H : m_gateref2_SetOf l1 name2 value3 = some r) : Fn Tryz.prog 50 [vlst (List.map C_api_Header l1), vstr name2, vstr value3] (resOf [vlst (List.map C_api_Header r)]) := by
 refine ⟨by kernel_rfl, pure_of (us := [vlst (List.map C_api_Header r)]) Tryz.func50 rfl rfl rfl rfl fun X hN => ?_⟩
 unfold m_gateref2_SetOf at H
 refine awp_seq ?_
 refine awp_plain hN rfl ?_
 refine seq_run2 (stp_box1 1 rfl rfl) rfl ?_
 refine qe rfl ?_
 refine awp_seq ?_
 refine awp_frzB 1 [vstr name2] rfl rfl ?_
 refine awp_plain hN rfl ?_
 refine qd rfl ?_
 refine seq_run0 (stp_mkfn (us := [_]) ⟨rfl, trivial⟩) ?_
 obtain ⟨r4, h5, H⟩ := bnd H
 refine seq_run0 (stp_call (k_slices_IndexFunc_L_api_Header_api_Header_ l1 (fun (a0 : S_api_Header) => m_gateref2_SetOf_1 a0 name2) 94 [vcell [[vstr name2]] 0 0] (fun a0 r h => k_gateref2_SetOf_1 a0 name2 r h) r4 h5) ⟨.inl rfl, .inl rfl, trivial⟩) ?_
 refine qe rfl ?_
 refine awp_seq ?_
 refine awp_seq ?_
 refine awp_plain hN rfl ?_
 refine qd rfl ?_
 refine seq_run0 (stp_lss rfl rfl) ?_
 refine awp_cond _ rfl (fun h6 => ?_) (fun h6 => ?_)
 ·replace H := ift h6 H
  refine awp_seq ?_
  refine awp_draw mixed hN rfl rfl ?_
  refine qd rfl ?_
  obtain ⟨r7, h8, H⟩ := bnd H
  refine seq_callG (rn [(900, 2)]) [] [(900, _)] (kr_slices_Clone_L_api_Header_api_Header_ l1 r7 h8) ⟨rfl, trivial⟩ ⟨.inl (.inl rfl), trivial⟩ trivial rfl ?_
  refine seq_run0 (stp_loadE1 tyS9 rfl rfl rfl) ?_
  refine qd rfl ?_
  refine seq_run0 (stp_dat (u' := vagg (C_api_Header (S_api_Header.mk name2 value3))) (stp_build [(0, [vstr name2]), (1, [vstr value3])] tyZ54 tyP54 rfl ⟨rfl, .inl ⟨_, rfl, rfl, rfl⟩, rfl, rfl, .inl ⟨_, rfl, rfl, rfl⟩, rfl, trivial⟩) rfl) ?_
  refine seq_run0 (stp_dat (u' := vlst (List.map C_api_Header [(S_api_Header.mk name2 value3)])) (stp_lit [_] tyL26 ⟨rfl, .inr rfl, rfl, trivial⟩ rfl rfl) rfl) ?_
  obtain ⟨h9, H⟩ := gif H
  refine seq_run2 (t_app tyL26 (fun _ => rfl) rfl rfl rfl ⟨by simp, by first | (simp; done) | simpa using h9⟩ rfl) rfl ?_
  refine seq_run0 (stp_assign (.row _ _) rfl) ?_
  refine ⟨rfl, ?_⟩
  refine awp_ret ?_
  cases H
  exact ⟨trivial, t_slotv rfl rfl, trivial⟩
 ·replace H := iff_ h6 H
  refine awp_skip ?_
  refine awp_seq ?_
  refine awp_draw mixed hN rfl rfl ?_
  refine qd rfl ?_
  refine qd rfl ?_
  obtain ⟨l10, h11, H⟩ := bnd H
  refine seq_run0 (t_subL tyE26 (fun _ => rfl) rfl rfl rfl h11) ?_
  obtain ⟨r12, h13, H⟩ := bnd H
  refine seq_callG (rn [(900, 3)]) [] [(900, _)] (kr_slices_Clone_L_api_Header_api_Header_ l10 r12 h13) ⟨rfl, trivial⟩ ⟨.inl (.inl rfl), trivial⟩ trivial rfl ?_
  refine qd rfl ?_
  refine qd rfl ?_
  obtain ⟨x14, h15, H⟩ := bnd H
  refine seq_run0 (t_idxI tyE26 (fun _ => rfl) rfl rfl h15) ?_
  refine seq_run0 (stp_fldE tyF54_0 rfl) ?_
  refine seq_run0 (stp_loadE1 tyS9 rfl (map_at (at_some h15).2) rfl) ?_
  refine qd rfl ?_
  refine seq_run0 (stp_dat (u' := vagg (C_api_Header (S_api_Header.mk x14.Name value3))) (stp_build [(0, [vstr x14.Name]), (1, [vstr value3])] tyZ54 tyP54 rfl ⟨rfl, .inl ⟨_, rfl, rfl, rfl⟩, rfl, rfl, .inl ⟨_, rfl, rfl, rfl⟩, rfl, trivial⟩) rfl) ?_
  refine seq_run0 (stp_dat (u' := vlst (List.map C_api_Header [(S_api_Header.mk x14.Name value3)])) (stp_lit [_] tyL26 ⟨rfl, .inr rfl, rfl, trivial⟩ rfl rfl) rfl) ?_
  obtain ⟨h16, H⟩ := gif H
  refine seq_run2 (t_app tyL26 (fun _ => rfl) rfl rfl rfl ⟨by simp, by first | (simp; done) | simpa using h16⟩ rfl) rfl ?_
  refine seq_run0 (stp_assign (.row _ _) rfl) ?_
  refine ⟨rfl, ?_⟩
  refine awp_seq ?_
  refine awp_draw mixed hN rfl rfl ?_
  refine seq_run0 (stp_move (.row _ _) rfl) ?_
  refine qd rfl ?_
  refine qd rfl ?_
  refine seq_run0 (stp_wrap _ rfl rfl (.inl ⟨rfl, rfl⟩)) ?_
  obtain ⟨l17, h18, H⟩ := bnd H
  refine seq_run0 (t_subL tyE26 (fun _ => rfl) rfl rfl rfl h18) ?_
  refine seq_run0 (stp_loadE1 tyS9 rfl rfl rfl) ?_
  obtain ⟨r19, h20, H⟩ := bnd H
  refine seq_run0 (stp_call (k_gateref2_Without l17 name2 r19 h20) ⟨.inl rfl, .inl rfl, trivial⟩) ?_
  obtain ⟨h21, H⟩ := gif H
  refine seq_run2 (t_app2 tyL26 (fun _ => rfl) rfl rfl rfl h21 rfl) rfl ?_
  refine seq_run0 (stp_assign (.row _ _) rfl) ?_
  refine ⟨rfl, ?_⟩
  refine awp_ret ?_
  cases H
  exact ⟨trivial, t_slotv rfl rfl, trivial⟩
theorem kk_gateref2_ForwardOf_2 (name1 : Bs) (value2 : Bs) (c3 : S_api_Request) (r : (S_api_Request)) (H : m_gateref2_ForwardOf_2 name1 value2 c3 = some r) : FnG Tryz.prog 47 [.dat (vstr name1), .dat (vstr value2), .ptr 0 0] [(0, .box (some 0) 28 (List.map .dat (C_api_Request c3)))] (.dat (resOf [])) [(0, .box (some 0) 28 (List.map .dat (C_api_Request r)))] := by
 refine fnG_of (by kernel_rfl) Tryz.func47 rfl rfl rfl rfl fun X A hN => ?_
 unfold m_gateref2_ForwardOf_2 at H
 refine awp_seq ?_
 refine awp_plain hN rfl ?_
 refine seq_run0 (stp_fldP tyF28_6 rfl) ?_
 refine seq_run1 (stp_load1 tyS26 rfl rfl) rfl ?_
 refine qd rfl ?_
 obtain ⟨r4, h5, H⟩ := bnd H
 refine seq_callG (rn [(1, 1)]) [] [(1, _)] (kr_gateref2_Values c3.Headers name1 r4 h5) ⟨rfl, trivial⟩ ⟨.inl (.inl rfl), .inl (.inl rfl), trivial⟩ trivial rfl ?_
 refine qd rfl ?_
 refine seq_run0 (stp_dat (u' := vlst (List.map C_string [value2])) (stp_lit [[_]] tyL31 ⟨rfl, .inl ⟨_, rfl, rfl, rfl⟩, rfl, trivial⟩ rfl rfl) rfl) ?_
 obtain ⟨h6, H⟩ := gif H
 refine seq_run2 (t_app tyL31 (fun _ => rfl) rfl rfl rfl ⟨by simp, by first | (simp; done) | simpa using h6⟩ rfl) rfl ?_
 obtain ⟨r7, h8, H⟩ := bnd H
 refine seq_callG (rn [(0, 1), (900, 2)]) [(0, _, _, none)] [(900, _)] (ks_slices_DeleteFunc_L_string_string_ (r4 ++ [value2]) (fun (a0 : Bs) => m_gateref2_ForwardOf_2_1 a0) 49 [] (fun a0 r h => k_gateref2_ForwardOf_2_1 a0 r h) r7 h8) ⟨rfl, rfl, trivial⟩ ⟨.inl (.inl rfl), .inr ⟨_, rfl, rfl⟩, trivial⟩ ⟨⟨⟨rfl, rfl, rfl⟩, trivial⟩, trivial⟩ rfl ?_
 refine seq_run0 (stp_assign (.row _ _) rfl) ?_
 refine awp_seq ?_
 refine awp_plain hN rfl ?_
 refine seq_run0 (stp_move (.row _ _) rfl) ?_
 refine seq_run1 (t_lenR tyU31 rfl rfl) rfl ?_
 refine seq_run0 (stp_gtr rfl rfl) ?_
 refine awp_cond _ rfl (fun h9 => ?_) (fun h9 => ?_)
 ·replace H := ift h9 H
  refine t_freeze 5 2 rfl rfl rfl ?_
  refine awp_draw mixed hN rfl rfl ?_
  refine seq_run0 (stp_fldP tyF28_6 rfl) ?_
  refine seq_run1 (stp_load1 tyS26 rfl rfl) rfl ?_
  refine qd rfl ?_
  refine qd rfl ?_
  obtain ⟨r10, h11, H⟩ := bnd H
  refine seq_run0 (stp_call (k_strings_Join r7 [44, 32] r10 h11) ⟨.inl rfl, .inl rfl, trivial⟩) ?_
  obtain ⟨r12, h13, H⟩ := bnd H
  refine seq_run0 (stp_call (k_gateref2_SetOf c3.Headers name1 r10 r12 h13) ⟨.inl rfl, .inl rfl, .inl rfl, trivial⟩) ?_
  refine seq_run0 (stp_fldP tyF28_6 rfl) ?_
  refine seq_run2 (stp_store1 tyS26 rfl rfl rfl rfl) rfl ?_
  refine ⟨rfl, ?_⟩
  cases H
  exact ⟨trivial, [], trivial, ⟨rfl, trivial⟩, rfl, .inl ⟨[], trivial, rfl⟩⟩
 ·replace H := iff_ h9 H
  refine awp_skip ?_
  have eH : c3 = r := Option.some.inj H
  subst eH
  exact ⟨trivial, [], trivial, ⟨rfl, trivial⟩, rfl, .inl ⟨[], trivial, rfl⟩⟩
theorem k_gateref2_ForwardOf_3 (h1 : S_api_Header) (r : (Bool)) (H : m_gateref2_ForwardOf_3 h1 = some r) : Fn Tryz.prog 52 [vagg (C_api_Header h1)] (resOf [vbool r]) := by
 refine ⟨by kernel_rfl, pure_of (us := [vbool r]) Tryz.func52 rfl rfl rfl rfl fun X hN => ?_⟩
 unfold m_gateref2_ForwardOf_3 at H
 refine awp_seq ?_
 refine awp_plain hN rfl ?_
 refine seq_run2 (stp_boxA 1 rfl) rfl ?_
 refine qe rfl ?_
 refine awp_seq ?_
 refine awp_plain hN rfl ?_
 refine seq_run0 (stp_fldP tyF54_1 rfl) ?_
 refine seq_run1 (stp_load1 tyS9 rfl rfl) rfl ?_
 refine seq_run0 (stp_len_str tyU9 rfl) ?_
 refine seq_run0 (stp_gtr rfl rfl) ?_
 refine qe rfl ?_
 refine awp_ret ?_
 cases H
 exact ⟨trivial, .inl rfl, trivial⟩
end Go.Proofs.YtgjfcdcpiamikaaGreatDoor
