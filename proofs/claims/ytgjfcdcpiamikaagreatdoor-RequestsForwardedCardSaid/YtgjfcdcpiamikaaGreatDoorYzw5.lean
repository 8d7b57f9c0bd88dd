/- Walks along the models. Printed by a program. -/
import Derived.Test.YtgjfcdcpiamikaaGreatDoorYzw4
namespace Go.Proofs.YtgjfcdcpiamikaaGreatDoor
open Go.RowKit
set_option linter.unusedVariables false
set_option maxRecDepth 20000
set_option maxHeartbeats 2000000
theorem k_gateref2_ForwardOf (v1 : S_api_Request) (v2 : Bs) (r : (S_api_Request × Int)) (H : m_gateref2_ForwardOf v1 v2 = some r) : Fn Tryz.prog 9 [vagg (C_api_Request v1), vstr v2] (resOf [vagg (C_api_Request r.1), vint r.2]) := by
 refine ⟨by kernel_rfl, pure_of (us := [vagg (C_api_Request r.1), vint r.2]) Tryz.func9 rfl rfl rfl rfl fun X hN => ?_⟩
 unfold m_gateref2_ForwardOf at H
 refine awp_seq ?_
 refine awp_plain hN rfl ?_
 refine seq_run2 (stp_boxA 1 rfl) rfl ?_
 refine seq_run2 (stp_alloc 2 tyZ28 rfl) rfl ?_
 refine qe rfl ?_
 refine awp_seq ?_
 refine awp_plain hN rfl ?_
 refine seq_run2 (stp_alloc 3 tyZ28 rfl) rfl ?_
 refine awp_seq ?_
 refine awp_seq ?_
 refine awp_plain hN rfl ?_
 refine seq_run1 (stp_loadA tyS28 rfl rfl rfl) rfl ?_
 obtain ⟨r3, h4, H⟩ := bnd H
 refine seq_run0 (stp_call (k_gateref2_RequestFault v1 r3 h4) ⟨.inl rfl, trivial⟩) ?_
 refine qe rfl ?_
 refine awp_seq ?_
 refine awp_plain hN rfl ?_
 refine qd rfl ?_
 refine seq_run0 (stp_neq rfl rfl) ?_
 refine awp_cond _ rfl (fun h5 => ?_) (fun h5 => ?_)
 ·replace H := ift h5 H
  refine awp_seq ?_
  refine awp_plain hN rfl ?_
  refine seq_run1 (stp_wk (u' := vagg (C_api_Request (S_api_Request.mk 0 [] [] [] [] [] [] []))) (wk_agg (by exact ⟨wk_rfl, wk_rfl, wk_rfl, wk_rfl, wk_rfl, wk_rfl, wk_nil, wk_rfl, trivial⟩)) (stp_loadA tyS28 rfl rfl rfl)) rfl ?_
  refine qd rfl ?_
  refine seq_run2 (stp_storeW tyS28 rfl rfl rfl rfl) rfl ?_
  refine qe rfl ?_
  refine awp_ret ?_
  cases H
  exact ⟨trivial, .inl ⟨_, _, _, C_api_Request (S_api_Request.mk 0 [] [] [] [] [] [] []), rfl, rfl, rfl, rfl, tyS28⟩, .inl rfl, trivial⟩
 ·replace H := iff_ h5 H
  refine awp_skip ?_
  refine awp_seq ?_
  refine awp_seq ?_
  refine awp_plain hN rfl ?_
  refine qd rfl ?_
  obtain ⟨r6, h7, H⟩ := bnd H
  refine seq_run0 (stp_call (k_gateref2_Token v2 r6 h7) ⟨.inl rfl, trivial⟩) ?_
  refine seq_run0 (stp_not rfl) ?_
  refine awp_cond _ rfl (fun h8 => ?_) (fun h8 => ?_)
  ·replace H := ift h8 H
   refine awp_seq ?_
   refine awp_plain hN rfl ?_
   refine seq_run1 (stp_wk (u' := vagg (C_api_Request (S_api_Request.mk 0 [] [] [] [] [] [] []))) (wk_agg (by exact ⟨wk_rfl, wk_rfl, wk_rfl, wk_rfl, wk_rfl, wk_rfl, wk_nil, wk_rfl, trivial⟩)) (stp_loadA tyS28 rfl rfl rfl)) rfl ?_
   refine seq_run2 (stp_storeW tyS28 rfl rfl rfl rfl) rfl ?_
   refine qe rfl ?_
   refine awp_ret ?_
   cases H
   exact ⟨trivial, .inl ⟨_, _, _, C_api_Request (S_api_Request.mk 0 [] [] [] [] [] [] []), rfl, rfl, rfl, rfl, tyS28⟩, .inl rfl, trivial⟩
  ·replace H := iff_ h8 H
   refine awp_skip ?_
   refine awp_seq ?_
   refine awp_plain hN rfl ?_
   refine seq_run0 (stp_fldP tyF28_6 rfl) ?_
   refine seq_run1 (stp_load1 tyS26 rfl rfl) rfl ?_
   obtain ⟨r9, h10, H⟩ := bnd H
   refine seq_run0 (stp_call (k_gateref2_Values v1.Headers [118, 105, 97] r9 h10) ⟨.inl rfl, .inl rfl, trivial⟩) ?_
   obtain ⟨r11, h12, H⟩ := bnd H
   refine seq_run0 (stp_call (k_gateref2_parts r9 r11 h12) ⟨.inl rfl, trivial⟩) ?_
   refine qe rfl ?_
   refine awp_seq ?_
   refine awp_seq ?_
   refine awp_plain hN rfl ?_
   refine qd rfl ?_
   refine qd rfl ?_
   obtain ⟨r13, h14, H⟩ := bnd H
   refine seq_run0 (stp_call (k_slices_Contains_L_string_string_ r11 v2 r13 h14) ⟨.inl rfl, .inl rfl, trivial⟩) ?_
   refine awp_cond _ rfl (fun h15 => ?_) (fun h15 => ?_)
   ·replace H := ift h15 H
    refine awp_seq ?_
    refine awp_plain hN rfl ?_
    refine seq_run1 (stp_wk (u' := vagg (C_api_Request (S_api_Request.mk 0 [] [] [] [] [] [] []))) (wk_agg (by exact ⟨wk_rfl, wk_rfl, wk_rfl, wk_rfl, wk_rfl, wk_rfl, wk_nil, wk_rfl, trivial⟩)) (stp_loadA tyS28 rfl rfl rfl)) rfl ?_
    refine seq_run2 (stp_storeW tyS28 rfl rfl rfl rfl) rfl ?_
    refine qe rfl ?_
    refine awp_ret ?_
    cases H
    exact ⟨trivial, .inl ⟨_, _, _, C_api_Request (S_api_Request.mk 0 [] [] [] [] [] [] []), rfl, rfl, rfl, rfl, tyS28⟩, .inl rfl, trivial⟩
   ·replace H := iff_ h15 H
    refine awp_skip ?_
    refine awp_seq ?_
    refine awp_seq ?_
    refine awp_plain hN rfl ?_
    refine qd rfl ?_
    refine seq_run0 (t_len tyU31 rfl) ?_
    refine seq_run0 (stp_geq rfl rfl) ?_
    refine awp_cond _ rfl (fun h16 => ?_) (fun h16 => ?_)
    ·replace H := ift h16 H
     refine awp_seq ?_
     refine awp_plain hN rfl ?_
     refine seq_run1 (stp_wk (u' := vagg (C_api_Request (S_api_Request.mk 0 [] [] [] [] [] [] []))) (wk_agg (by exact ⟨wk_rfl, wk_rfl, wk_rfl, wk_rfl, wk_rfl, wk_rfl, wk_nil, wk_rfl, trivial⟩)) (stp_loadA tyS28 rfl rfl rfl)) rfl ?_
     refine seq_run2 (stp_storeW tyS28 rfl rfl rfl rfl) rfl ?_
     refine qe rfl ?_
     refine awp_ret ?_
     cases H
     exact ⟨trivial, .inl ⟨_, _, _, C_api_Request (S_api_Request.mk 0 [] [] [] [] [] [] []), rfl, rfl, rfl, rfl, tyS28⟩, .inl rfl, trivial⟩
    ·replace H := iff_ h16 H
     refine awp_skip ?_
     refine awp_seq ?_
     refine awp_plain hN rfl ?_
     refine seq_run2 (t_litR (C := C_string) 4 ([[99, 111, 110, 110, 101, 99, 116, 105, 111, 110], [107, 101, 101, 112, 45, 97, 108, 105, 118, 101], [116, 101], [116, 114, 97, 105, 108, 101, 114], [117, 112, 103, 114, 97, 100, 101]] : (List Bs)) tyL31 ⟨rfl, .inl ⟨_, rfl, rfl, rfl⟩, rfl, rfl, .inl ⟨_, rfl, rfl, rfl⟩, rfl, rfl, .inl ⟨_, rfl, rfl, rfl⟩, rfl, rfl, .inl ⟨_, rfl, rfl, rfl⟩, rfl, rfl, .inl ⟨_, rfl, rfl, rfl⟩, rfl, trivial⟩ rfl rfl rfl) rfl ?_
     refine seq_run0 (stp_fldP tyF28_6 rfl) ?_
     refine seq_run1 (stp_load1 tyS26 rfl rfl) rfl ?_
     obtain ⟨r17, h18, H⟩ := bnd H
     refine seq_run0 (stp_call (k_gateref2_Values v1.Headers [99, 111, 110, 110, 101, 99, 116, 105, 111, 110] r17 h18) ⟨.inl rfl, .inl rfl, trivial⟩) ?_
     obtain ⟨r19, h20, H⟩ := bnd H
     refine seq_run0 (stp_call (k_gateref2_parts r17 r19 h20) ⟨.inl rfl, trivial⟩) ?_
     obtain ⟨h21, H⟩ := gif H
     refine seq_run2 (t_app2 tyL31 (fun _ => rfl) rfl rfl rfl h21 rfl) rfl ?_
     refine seq_run2 (stp_alloc 5 tyZ31 rfl) rfl ?_
     refine seq_run4 (stp_storeS tyS31 rfl rfl (by rw [List.length_map]) rfl) rfl rfl ?_
     refine awp_seq ?_
     refine awp_plain hN rfl ?_
     refine seq_run1 (stp_loadA tyS28 rfl rfl rfl) rfl ?_
     refine seq_run2 (stp_alloc 6 tyZ28 rfl) rfl ?_
     refine seq_run2 (stp_storeW tyS28 rfl rfl rfl rfl) rfl ?_
     refine awp_seq ?_
     refine awp_frzC 5 0 4 rfl rfl rfl (by rw [List.length_map]) ?_
     refine awp_frzB 5 [vlst (List.map C_string (([[99, 111, 110, 110, 101, 99, 116, 105, 111, 110], [107, 101, 101, 112, 45, 97, 108, 105, 118, 101], [116, 101], [116, 114, 97, 105, 108, 101, 114], [117, 112, 103, 114, 97, 100, 101]] : (List Bs)) ++ r19))] rfl rfl ?_
     refine awp_plain hN rfl ?_
     refine seq_run0 (stp_fldP tyF28_6 rfl) ?_
     refine seq_run1 (stp_load1 tyS26 rfl rfl) rfl ?_
     obtain ⟨r22, h23, H⟩ := bnd H
     refine seq_callG (rn [(900, 7)]) [] [(900, _)] (kr_slices_Clone_L_api_Header_api_Header_ v1.Headers r22 h23) ⟨rfl, trivial⟩ ⟨.inl (.inl rfl), trivial⟩ trivial rfl ?_
     refine seq_run0 (stp_mkfn (us := [_]) ⟨rfl, trivial⟩) ?_
     obtain ⟨r24, h25, H⟩ := bnd H
     refine seq_callG (rn [(0, 7), (900, 8)]) [(0, _, _, none)] [(900, _)] (ks_slices_DeleteFunc_L_api_Header_api_Header_ r22 (fun (a0 : S_api_Header) => m_gateref2_ForwardOf_1 a0 (([[99, 111, 110, 110, 101, 99, 116, 105, 111, 110], [107, 101, 101, 112, 45, 97, 108, 105, 118, 101], [116, 101], [116, 114, 97, 105, 108, 101, 114], [117, 112, 103, 114, 97, 100, 101]] : (List Bs)) ++ r19)) 43 [vcell [[vlst (List.map C_string (([[99, 111, 110, 110, 101, 99, 116, 105, 111, 110], [107, 101, 101, 112, 45, 97, 108, 105, 118, 101], [116, 101], [116, 114, 97, 105, 108, 101, 114], [117, 112, 103, 114, 97, 100, 101]] : (List Bs)) ++ r19))]] 0 0] (fun a0 r h => k_gateref2_ForwardOf_1 a0 (([[99, 111, 110, 110, 101, 99, 116, 105, 111, 110], [107, 101, 101, 112, 45, 97, 108, 105, 118, 101], [116, 101], [116, 114, 97, 105, 108, 101, 114], [117, 112, 103, 114, 97, 100, 101]] : (List Bs)) ++ r19) r h) r24 h25) ⟨rfl, rfl, trivial⟩ ⟨.inl (.inl rfl), .inl (.inl rfl), trivial⟩ ⟨⟨⟨rfl, rfl, rfl⟩, trivial⟩, trivial⟩ rfl ?_
     refine seq_run0 (stp_fldP tyF28_6 rfl) ?_
     refine seq_run4 (stp_storeS tyS26 rfl rfl (by rw [List.length_map]) rfl) rfl rfl ?_
     refine awp_seq ?_
     refine awp_plain hN rfl ?_
     refine seq_run1 (stp_dr (s := .dr 6 (fun qb => vfn 47 [vval (.pointer (some ⟨qb, 0, none⟩))])) 6 (fun qb => stp_mkfn (us := [_]) ⟨rfl, trivial⟩) rfl rfl) rfl ?_
     refine seq_run0 (stp_assign (.dr _ _) rfl) ?_
     refine awp_seq ?_
     refine awp_frzC 6 6 8 rfl rfl rfl (by rw [List.length_map]) ?_
     refine awp_plain hN rfl ?_
     refine seq_run0 (stp_move (.dr _ _) rfl) ?_
     refine seq_run0 (stp_fldP tyF28_5 rfl) ?_
     refine seq_run1 (stp_load1 tyS9 rfl rfl) rfl ?_
     obtain ⟨r26, h27, H⟩ := bnd H
     refine seq_callGv (args := [.dat (vstr [120, 45, 102, 111, 114, 119, 97, 114, 100, 101, 100, 45, 102, 111, 114]), .dat (vstr v1.From)]) (i0 := 0) (rn [(0, 6)]) [(0, _, _, some _)] [] (kk_gateref2_ForwardOf_2 [120, 45, 102, 111, 114, 119, 97, 114, 100, 101, 100, 45, 102, 111, 114] v1.From (S_api_Request.mk v1.At v1.Method v1.Host v1.Path v1.Query v1.From r24 v1.Body) r26 h27) ⟨rfl, trivial⟩ rfl rfl ⟨.inl (.inl rfl), .inl (.inl rfl), trivial⟩ ⟨⟨⟨rfl, rfl⟩, trivial⟩, trivial⟩ rfl ?_
     refine awp_joinE (ι := Int × Bs × Bs × Bs × Bs × Bs × (List S_api_Header) × Bs) (fun i => [(1, .dat (vstr v2)), (4, .ptr 2 0), (6, .ptr 3 0), (10, .ptr 6 0), (11, .dr 6 (fun qb => vfn 47 [vval (.pointer (some ⟨qb, 0, none⟩))]))]) (fun i => [(2, .box none 28 [.dat (vint 0), .dat (vstr []), .dat (vstr []), .dat (vstr []), .dat (vstr []), .dat (vstr []), .dat (vnil), .dat (vstr [])]), (3, .box none 28 [.dat (vint 0), .dat (vstr []), .dat (vstr []), .dat (vstr []), .dat (vstr []), .dat (vstr []), .dat (vnil), .dat (vstr [])]), (6, .box none 28 [.dat (vint i.1), .dat (vstr i.2.1), .dat (vstr i.2.2.1), .dat (vstr i.2.2.2.1), .dat (vstr i.2.2.2.2.1), .dat (vstr i.2.2.2.2.2.1), .dat (vlst (List.map C_api_Header i.2.2.2.2.2.2.1)), .dat (vstr i.2.2.2.2.2.2.2)])]) (fun i => gateref2_ForwardOf_J1 v2 i.1 i.2.1 i.2.2.1 i.2.2.2.1 i.2.2.2.2.1 i.2.2.2.2.2.1 i.2.2.2.2.2.2.1 i.2.2.2.2.2.2.2 = some r) (fun i => rfl) ?_ ?_
     ·skip
      refine awp_seq ?_
      refine awp_plain hN rfl ?_
      refine seq_run0 (stp_fldP tyF28_6 rfl) ?_
      refine seq_run1 (stp_load1 tyS26 rfl rfl) rfl ?_
      obtain ⟨r28, h29, H⟩ := bnd H
      refine seq_run0 (stp_call (k_gateref2_Values r26.Headers [120, 45, 102, 111, 114, 119, 97, 114, 100, 101, 100, 45, 104, 111, 115, 116] r28 h29) ⟨.inl rfl, .inl rfl, trivial⟩) ?_
      refine seq_run0 (t_len tyU31 rfl) ?_
      refine seq_run0 (stp_eql rfl rfl) ?_
      refine awp_cond _ rfl (fun h30 => ?_) (fun h30 => ?_)
      ·replace H := ift h30 H
       refine awp_plain hN rfl ?_
       refine seq_run0 (stp_move (.dr _ _) rfl) ?_
       refine seq_run0 (stp_fldP tyF28_2 rfl) ?_
       refine seq_run1 (stp_load1 tyS9 rfl rfl) rfl ?_
       obtain ⟨r31, h32, H⟩ := bnd H
       refine seq_callGv (args := [.dat (vstr [120, 45, 102, 111, 114, 119, 97, 114, 100, 101, 100, 45, 104, 111, 115, 116]), .dat (vstr v1.Host)]) (i0 := 0) (rn [(0, 6)]) [(0, _, _, some _)] [] (kk_gateref2_ForwardOf_2 [120, 45, 102, 111, 114, 119, 97, 114, 100, 101, 100, 45, 104, 111, 115, 116] v1.Host r26 r31 h32) ⟨rfl, trivial⟩ rfl rfl ⟨.inl (.inl rfl), .inl (.inl rfl), trivial⟩ ⟨⟨⟨rfl, rfl⟩, trivial⟩, trivial⟩ rfl ?_
       exact ⟨(r31.At, r31.Method, r31.Host, r31.Path, r31.Query, r31.From, r31.Headers, r31.Body), H, ⟨rfl, rfl, rfl, rfl, rfl, trivial⟩, ⟨rfl, rfl, rfl, trivial⟩⟩
      ·replace H := iff_ h30 H
       refine awp_skip ?_
       exact ⟨(r26.At, r26.Method, r26.Host, r26.Path, r26.Query, r26.From, r26.Headers, r26.Body), H, ⟨rfl, rfl, rfl, rfl, rfl, trivial⟩, ⟨rfl, rfl, rfl, trivial⟩⟩
     ·rintro ⟨c33, c34, c35, c36, c37, c38, c39, c40⟩ H
      replace H : gateref2_ForwardOf_J1 v2 c33 c34 c35 c36 c37 c38 c39 c40 = some r := H
      unfold gateref2_ForwardOf_J1 at H
      refine awp_seq ?_
      refine awp_plain hN rfl ?_
      refine seq_run0 (stp_move (.dr _ _) rfl) ?_
      refine qd rfl ?_
      obtain ⟨r41, h42, H⟩ := bnd H
      refine seq_callGv (args := [.dat (vstr [118, 105, 97]), .dat (vstr v2)]) (i0 := 0) (rn [(0, 6)]) [(0, _, _, some _)] [] (kk_gateref2_ForwardOf_2 [118, 105, 97] v2 (S_api_Request.mk c33 c34 c35 c36 c37 c38 c39 c40) r41 h42) ⟨rfl, trivial⟩ rfl rfl ⟨.inl (.inl rfl), .inl (.inl rfl), trivial⟩ ⟨⟨⟨rfl, rfl⟩, trivial⟩, trivial⟩ rfl ?_
      refine awp_seq ?_
      refine awp_joinE (ι := Bool) (fun i => [(4, .ptr 2 0), (6, .ptr 3 0), (10, .ptr 6 0), (72, .dat (vbool i))]) (fun i => [(2, .box none 28 [.dat (vint 0), .dat (vstr []), .dat (vstr []), .dat (vstr []), .dat (vstr []), .dat (vstr []), .dat (vnil), .dat (vstr [])]), (3, .box none 28 [.dat (vint 0), .dat (vstr []), .dat (vstr []), .dat (vstr []), .dat (vstr []), .dat (vstr []), .dat (vnil), .dat (vstr [])]), (6, .box none 28 [.dat (vint r41.At), .dat (vstr r41.Method), .dat (vstr r41.Host), .dat (vstr r41.Path), .dat (vstr r41.Query), .dat (vstr r41.From), .dat (vlst (List.map C_api_Header r41.Headers)), .dat (vstr r41.Body)])]) (fun i => gateref2_ForwardOf_J2 r41 i = some r) (fun i => rfl) ?_ ?_
      ·skip
       refine awp_plain hN rfl ?_
       refine seq_run0 (stp_fldP tyF28_6 rfl) ?_
       refine seq_run1 (stp_load1 tyS26 rfl rfl) rfl ?_
       refine seq_run0 (t_len tyU26 rfl) ?_
       refine seq_run0 (stp_gtr rfl rfl) ?_
       refine qd rfl ?_
       refine seq_split (j := 4) rfl rfl (fun h43 => ?_) (fun h43 => ?_) rfl
       ·have h44 := un3 h43
        replace H := iff_ h44 H
        refine seq_g0 rfl rfl h43 (stp_fldP tyF28_6 rfl) ?_
        refine seq_g1 rfl rfl h43 (stp_load1 tyS26 rfl rfl) rfl ?_
        obtain ⟨r45, h46, H⟩ := bnd H
        refine seq_g0 rfl rfl h43 (stp_callW (k_slices_ContainsFunc_L_api_Header_api_Header_ r41.Headers (fun (a0 : S_api_Header) => m_gateref2_ForwardOf_3 a0) 52 [] (fun a0 r h => k_gateref2_ForwardOf_3 a0 r h) r45 h46) ⟨.inl (.inl rfl), .inr ⟨_, rfl, rfl⟩, trivial⟩) ?_
        refine seq_run0 (stp_pick_f rfl (bFF h44) rfl) ?_
        exact ⟨r45, H, ⟨rfl, rfl, rfl, rfl, trivial⟩, ⟨rfl, rfl, rfl, trivial⟩⟩
       ·have h47 := un4 h43
        replace H := ift h47 H
        refine seq_skip rfl rfl h43 ?_
        refine seq_skip rfl rfl h43 ?_
        refine seq_skip rfl rfl h43 ?_
        refine seq_run0 (stp_pick_t rfl (bTT h47) rfl) ?_
        exact ⟨true, H, ⟨rfl, rfl, rfl, rfl, trivial⟩, ⟨rfl, rfl, rfl, trivial⟩⟩
      ·rintro v48 H
       replace H : gateref2_ForwardOf_J2 r41 v48 = some r := H
       unfold gateref2_ForwardOf_J2 at H
       refine awp_cond _ rfl (fun h49 => ?_) (fun h49 => ?_)
       ·replace H := ift h49 H
        refine awp_seq ?_
        refine awp_plain hN rfl ?_
        refine seq_run1 (stp_wk (u' := vagg (C_api_Request (S_api_Request.mk 0 [] [] [] [] [] [] []))) (wk_agg (by exact ⟨wk_rfl, wk_rfl, wk_rfl, wk_rfl, wk_rfl, wk_rfl, wk_nil, wk_rfl, trivial⟩)) (stp_loadA tyS28 rfl rfl rfl)) rfl ?_
        refine seq_run2 (stp_storeW tyS28 rfl rfl rfl rfl) rfl ?_
        refine qe rfl ?_
        refine awp_ret ?_
        cases H
        exact ⟨trivial, .inl ⟨_, _, _, C_api_Request (S_api_Request.mk 0 [] [] [] [] [] [] []), rfl, rfl, rfl, rfl, tyS28⟩, .inl rfl, trivial⟩
       ·replace H := iff_ h49 H
        refine awp_skip ?_
        refine awp_seq ?_
        refine awp_plain hN rfl ?_
        refine seq_run1 (stp_loadA tyS28 rfl rfl rfl) rfl ?_
        refine seq_run2 (stp_storeW tyS28 rfl rfl rfl rfl) rfl ?_
        refine qe rfl ?_
        refine awp_ret ?_
        cases H
        exact ⟨trivial, .inl ⟨_, _, _, C_api_Request r41, rfl, rfl, rfl, rfl, tyS28⟩, .inl rfl, trivial⟩
theorem k_message_Client_1 (s1 : Bs) (r : (Bool)) (H : m_message_Client_1 s1 = some r) : Fn Tryz.prog 53 [vstr s1] (resOf [vbool r]) := by
 refine ⟨by kernel_rfl, pure_of (us := [vbool r]) Tryz.func53 rfl rfl rfl rfl fun X hN => ?_⟩
 unfold m_message_Client_1 at H
 refine awp_seq ?_
 refine awp_plain hN rfl ?_
 refine qe rfl ?_
 refine awp_joinE (ι := Bool) (fun i => [(2, .dat (vbool i))]) (fun i => []) (fun i => message_Client_1_J1 i = some r) (fun i => rfl) ?_ ?_
 ·skip
  refine awp_plain hN rfl ?_
  refine qd rfl ?_
  refine seq_run0 (stp_seql rfl rfl) ?_
  refine qd rfl ?_
  refine seq_split (j := 2) rfl rfl (fun h2 => ?_) (fun h2 => ?_) rfl
  ·have h3 := un3 h2
   replace H := iff_ h3 H
   refine seq_g0 rfl rfl h2 (stp_move (.dat _) rfl) ?_
   obtain ⟨r4, h5, H⟩ := bnd H
   refine seq_g0 rfl rfl h2 (stp_call (k_message_IsField s1 r4 h5) ⟨.inl rfl, trivial⟩) ?_
   refine seq_g0 rfl rfl h2 (stp_not rfl) ?_
   refine seq_run0 (stp_pick_f rfl (bFF h3) rfl) ?_
   refine qe rfl ?_
   exact ⟨!r4, H, ⟨rfl, trivial⟩, trivial⟩
  ·have h6 := un4 h2
   replace H := ift h6 H
   refine seq_skip rfl rfl h2 ?_
   refine seq_skip rfl rfl h2 ?_
   refine seq_skip rfl rfl h2 ?_
   refine seq_run0 (stp_pick_t rfl (bTT h6) rfl) ?_
   refine qe rfl ?_
   exact ⟨true, H, ⟨rfl, trivial⟩, trivial⟩
 ·rintro v7 H
  replace H : message_Client_1_J1 v7 = some r := H
  unfold message_Client_1_J1 at H
  refine awp_ret ?_
  cases H
  exact ⟨trivial, .inl rfl, trivial⟩
theorem kr_message_Parts (values1 : (List Bs)) (r : ((List Bs))) (H : m_message_Parts values1 = some r) : FnG Tryz.prog 27 [.dat (vlst (List.map C_string values1))] [] (.row 1 r.length) [(1, .row 9 1 (List.map C_string r))] := by
 refine fnG_of (by kernel_rfl) Tryz.func27 rfl rfl rfl rfl fun X A hN => ?_
 unfold m_message_Parts at H
 refine awp_seq ?_
 refine awp_plain hN rfl ?_
 refine qe rfl ?_
 refine awp_seq ?_
 refine awp_plain hN rfl ?_
 refine qe rfl ?_
 refine awp_seq ?_
 refine awp_seq ?_
 refine awp_plain hN rfl ?_
 refine qd rfl ?_
 refine seq_run0 (t_len tyU31 rfl) ?_
 refine qd rfl ?_
 refine awp_block ?_
 refine awp_nilrow 3 1 9 1 rfl rfl rfl ?_
 obtain ⟨h5, H⟩ := gif H
 refine awp_forL (fun (k3 : Nat) (s : (List Bs)) => [(3, .row 1 s.length), (8, .dat (vlst (List.map C_string values1))), (9, .dat (vint (values1.length : Int))), (10, .dat (vint (k3 : Int)))]) (fun (k3 : Nat) (s : (List Bs)) => [(1, .row 9 1 (List.map C_string s))]) [] H ⟨rfl, rfl, rfl, rfl, trivial⟩ ⟨rfl, trivial⟩ (fun _ _ => rfl) ?_ ?_
 ·rintro l2 H
  replace H : message_Parts_E1 l2 = some r := H
  unfold message_Parts_E1 at H
  refine awp_seq ?_
  refine awp_plain hN rfl ?_
  refine seq_run0 (stp_lss rfl rfl) ?_
  refine awp_seq ?_
  refine awp_cond _ rfl (fun h => (lt_t h).elim) (fun h => ?_)
  refine awp_exit ?_
  refine awp_seq ?_
  refine awp_plain hN rfl ?_
  refine seq_run0 (stp_move (.row _ _) rfl) ?_
  refine seq_run0 (stp_assign (.row _ _) rfl) ?_
  refine awp_ret ?_
  cases H
  exact ⟨trivial, [(2, .row 1 _)], ⟨rfl, trivial⟩, ⟨rfl, trivial⟩, rfl, .inr ⟨2, rfl, rfl⟩⟩
 ·rintro k3 x6 l2 q4 h7 h8 H hq4
  replace H : message_Parts_L1 k3 x6 l2 = some q4 := H
  unfold message_Parts_L1 at H
  refine awp_seq ?_
  refine awp_plain hN rfl ?_
  refine seq_run0 (stp_lss rfl rfl) ?_
  refine awp_seq ?_
  refine awp_cond _ rfl (fun h => ?_) (fun h => (lt_f h7 h).elim)
  refine awp_skip ?_
  refine awp_seq ?_
  refine awp_block ?_
  refine awp_seq ?_
  refine awp_plain hN rfl ?_
  refine seq_run0 (t_idx tyE31 (fun _ => rfl) rfl rfl h8) ?_
  refine seq_run0 (stp_loadE1 tyS9 rfl (map_at h8) rfl) ?_
  refine qe rfl ?_
  refine awp_seq ?_
  refine awp_plain hN rfl ?_
  refine qd rfl ?_
  obtain ⟨r9, h10, H⟩ := bnd H
  refine seq_run0 (stp_call (k_strings_Split x6 [44] r9 h10) ⟨.inl rfl, .inl rfl, trivial⟩) ?_
  refine seq_run0 (t_len tyU31 rfl) ?_
  refine qd rfl ?_
  refine awp_block ?_
  obtain ⟨h14, H⟩ := gif H
  refine awp_forL (fun (k12 : Nat) (s : (List Bs)) => [(3, .row 1 s.length), (8, .dat (vlst (List.map C_string values1))), (9, .dat (vint (values1.length : Int))), (10, .dat (vint (k3 : Int))), (15, .dat (vlst (List.map C_string r9))), (16, .dat (vint (r9.length : Int))), (17, .dat (vint (k12 : Int)))]) (fun (k12 : Nat) (s : (List Bs)) => [(1, .row 9 1 (List.map C_string s))]) l2 H ⟨rfl, rfl, rfl, rfl, rfl, rfl, rfl, trivial⟩ ⟨rfl, trivial⟩ (fun _ _ => rfl) ?_ ?_
  ·rintro l11 H
   replace H : message_Parts_E2 l11 = some q4 := H
   unfold message_Parts_E2 at H
   refine awp_seq ?_
   refine awp_plain hN rfl ?_
   refine seq_run0 (stp_lss rfl rfl) ?_
   refine awp_seq ?_
   refine awp_cond _ rfl (fun h => (lt_t h).elim) (fun h => ?_)
   refine awp_exit ?_
   refine awp_plain hN rfl ?_
   refine seq_run0 (stp_add rfl rfl (by omega)) ?_
   refine qd rfl ?_
   exact ⟨_, backl H, ⟨rfl, rfl, rfl, rfl, trivial⟩, ⟨rfl, trivial⟩⟩
  ·rintro k12 x15 l11 q13 h16 h17 H hq13
   replace H : message_Parts_L2 k12 x15 l11 = some q13 := H
   unfold message_Parts_L2 at H
   refine awp_seq ?_
   refine awp_plain hN rfl ?_
   refine seq_run0 (stp_lss rfl rfl) ?_
   refine awp_seq ?_
   refine awp_cond _ rfl (fun h => ?_) (fun h => (lt_f h16 h).elim)
   refine awp_skip ?_
   refine awp_joinE (ι := (List Bs)) (fun i => [(3, .row 1 i.length), (8, .dat (vlst (List.map C_string values1))), (9, .dat (vint (values1.length : Int))), (10, .dat (vint (k3 : Int))), (15, .dat (vlst (List.map C_string r9))), (16, .dat (vint (r9.length : Int))), (17, .dat (vint (k12 : Int)))]) (fun i => [(1, .row 9 1 (List.map C_string i))]) (fun i => message_Parts_J3 i = some q13) (fun i => rfl) ?_ ?_
   ·skip
    refine awp_block ?_
    refine awp_seq ?_
    refine awp_plain hN rfl ?_
    refine seq_run0 (t_idx tyE31 (fun _ => rfl) rfl rfl h17) ?_
    refine seq_run0 (stp_loadE1 tyS9 rfl (map_at h17) rfl) ?_
    refine qe rfl ?_
    refine awp_seq ?_
    refine awp_plain hN rfl ?_
    refine qd rfl ?_
    obtain ⟨r18, h19, H⟩ := bnd H
    refine seq_run0 (stp_call (k_strings_Trim x15 [32] r18 h19) ⟨.inl rfl, .inl rfl, trivial⟩) ?_
    refine qe rfl ?_
    refine awp_seq ?_
    refine awp_plain hN rfl ?_
    refine qd rfl ?_
    refine seq_run0 (stp_sneq rfl rfl) ?_
    refine awp_cond _ rfl (fun h20 => ?_) (fun h20 => ?_)
    ·replace H := ift h20 H
     refine awp_plain hN rfl ?_
     refine seq_run0 (stp_move (.row _ _) rfl) ?_
     refine qd rfl ?_
     refine seq_run0 (stp_dat (u' := vlst (List.map C_string [r18])) (stp_lit [[_]] tyL31 ⟨rfl, .inl ⟨_, rfl, rfl, rfl⟩, rfl, trivial⟩ rfl rfl) rfl) ?_
     obtain ⟨h21, H⟩ := gif H
     refine seq_run2 (t_app tyL31 (fun _ => rfl) rfl rfl rfl ⟨by simp, by first | (simp; done) | simpa using h21⟩ rfl) rfl ?_
     refine seq_run0 (stp_assign (.row _ _) rfl) ?_
     exact ⟨(l11 ++ [r18]), H, ⟨rfl, rfl, rfl, rfl, rfl, rfl, rfl, trivial⟩, ⟨rfl, trivial⟩⟩
    ·replace H := iff_ h20 H
     refine awp_skip ?_
     exact ⟨l11, H, ⟨rfl, rfl, rfl, rfl, rfl, rfl, rfl, trivial⟩, ⟨rfl, trivial⟩⟩
   ·rintro out22 H
    replace H : message_Parts_J3 out22 = some q13 := H
    unfold message_Parts_J3 at H
    refine awp_plain hN rfl ?_
    refine seq_run0 (stp_add rfl rfl (by omega)) ?_
    refine qd rfl ?_
    exact ⟨_, backl H, ⟨rfl, rfl, rfl, rfl, rfl, rfl, rfl, trivial⟩, ⟨rfl, trivial⟩⟩
theorem k_slices_Backward_L_string_string_ (l : List Bs) : Fn Tryz.prog 55 [vlst (List.map C_string l)] (resOf [vfn 97 [vcell [[vlst (List.map C_string l)]] 0 0]]) := by
 refine ⟨by kernel_rfl, pure_of (us := [vfn 97 [vcell [[vlst (List.map C_string l)]] 0 0]]) Tryz.func55 rfl rfl rfl rfl fun X hN => ?_⟩
 refine awp_seq ?_
 refine awp_plain hN rfl ?_
 refine seq_run2 (stp_box1 1 rfl rfl) rfl ?_
 refine qe rfl ?_
 refine awp_seq ?_
 refine awp_frzB 1 [vlst (List.map C_string l)] rfl rfl ?_
 refine awp_plain hN rfl ?_
 refine seq_run0 (stp_mkfn (us := [_]) ⟨rfl, trivial⟩) ?_
 refine qe rfl ?_
 refine awp_ret ?_
 exact ⟨trivial, .inl rfl, trivial⟩
theorem it_slices_Backward_L_string_string_ : BackIt Tryz.prog 97 1 true := by
 intro vals M l cap J Jx W hn hvn hk hc hY h0
 have hnt : Tryz.f97.ntmps = 19 := rfl
 refine callsIn_of_wp Tryz.func97 rfl trivial ?_ rfl
 rw [hnt]
 obtain ⟨vc, hvc⟩ : ∃ vc : V, vc = vand (vcell [[vlst (vals.map fun c => c.map vval)]] 0 0) cap := ⟨_, rfl⟩
 have hwk : Wk vc (vcell [[vlst (vals.map fun c => c.map vval)]] 0 0) := by rw [hvc]; exact wk_and _ _
 have hvm : ∀ W', (vcell [[vlst (vals.map fun c => c.map vval)]] 0 0).p W' M cap → vc.p W' M cap := fun W' h => by rw [hvc]; exact ⟨rfl, h⟩
 have hvo : ∀ W' M' v, vc.p W' M' v → v = cap := fun W' M' v h => by rw [hvc] at h; exact h.1
 obtain ⟨hM, hcp⟩ := hc _ _ h0
 refine wpIn_seq (wpIn_mono (run_pureA (N := 19) hM ?hN ?hD [(0, vval (yv l)), (1, vc)] ?hr (Q := fun e f => e = .normal ∧ f 0 = .dat (vval (yv l)) ∧ f 1 = .dat vc ∧ f 3 = .dat (vint ((vals.length : Int) - 1))) fun X hN => ?_) ?_)
 case hN => simp
 case hD => rfl
 case hr => exact ⟨by simp [yv, vval], by simpa using hvm _ hcp, trivial⟩
 ·refine awp_plain hN rfl ?_
  refine seq_run0 (stp_loadE1W tyS31 rfl hwk rfl rfl) ?_
  refine seq_run0 (t_len (C := fun c : List Value => c.map vval) tyU31 rfl) ?_
  refine seq_run0 (stp_sub rfl rfl (by omega)) ?_
  refine qe rfl ?_
  exact ⟨rfl, rfl, rfl, rfl⟩
 rintro e a W1 ⟨hk1, hN, hD, f, own, g, M', hfr, rfl, e0, e1, e3⟩
 have t0 : a.tmps.getD 0 undef = yv l := by have := hfr 0; rw [e0] at this; exact this
 have t1 : a.tmps.getD 1 undef = cap := by have := hfr 1; rw [e1] at this; exact hvo _ _ _ this
 have t3 : a.tmps.getD 3 undef = .int .i64 ((vals.length : Int) - 1) := by have := hfr 3; rw [e3] at this; exact this
 refine wpIn_block (wpIn_loop_rounds (vals.length + 1) ?_)
 have hJ1 := hk _ _ _ h0 hk1
 clear hk1 hfr e0 e1 e3 hcp hM h0
 suffices key : ∀ m, m ≤ vals.length → ∀ a W, a.tmps.size = 19 → a.defers = [] → a.tmps.getD 0 undef = yv l → a.tmps.getD 1 undef = cap → a.tmps.getD 3 undef = .int .i64 ((m : Int) - 1) → J m W → Code.roundsIn Fence.wide 0 Tryz.prog _ _ (m + 1) a W from key _ (Nat.le_refl _) a W1 hN hD t0 t1 t3 hJ1
 clear t0 t1 t3 hN hD hJ1
 intro m
 induction m with
 | zero =>
  intro _ a W hN hD t0 t1 t3 hJ
  obtain ⟨hM, hcp⟩ := hc _ _ hJ
  rw [roundsIn_succ]
  refine wpIn_seq (wpIn_seq (wpIn_mono (run_pureA (N := 19) hM hN hD [(3, vint (-1))] ⟨by rw [t3]; rfl, trivial⟩ (Q := fun e f => e = .normal ∧ f 8 = .dat (vbool (decide ((0 : Int) ≤ -1)))) fun X hN => ?_) ?_))
  ·refine awp_plain hN rfl ?_
   refine qd rfl ?_
   refine seq_run0 (stp_geq rfl rfl) ?_
   exact ⟨rfl, rfl⟩
  rintro e a' W' ⟨hk1, hN', hD', f, own, g, M', hfr, rfl, e8⟩
  have t8 : a'.tmps.getD 8 undef = .bool false := by have := hfr 8; rw [e8] at this; exact this
  exact wpIn_cond_false t8 (wpIn_exit ⟨hD', _, results_none rfl _ _ _, ⟨_, rfl⟩, .inl (hk _ _ _ hJ hk1)⟩)
 | succ m ih =>
  intro hm a W hN hD t0 t1 t3 hJ
  obtain ⟨hM, hcp⟩ := hc _ _ hJ
  have hm3 : (((m + 1 : Nat) : Int) - 1) = (m : Int) := by omega
  rw [hm3] at t3
  rw [roundsIn_succ]
  refine wpIn_seq (wpIn_seq (wpIn_mono (run_pureA (N := 19) hM hN hD [(0, vval (yv l)), (1, vc), (3, vint (m : Int))] ⟨t0, by rw [t1]; exact hvm _ hcp, by rw [t3]; rfl, trivial⟩ (Q := fun e f => e = .normal ∧ f 0 = .dat (vval (yv l)) ∧ f 1 = .dat vc ∧ f 3 = .dat (vint (m : Int)) ∧ f 8 = .dat (vbool (decide ((0 : Int) ≤ (m : Int))))) fun X hN => ?_) ?_))
  ·refine awp_plain hN rfl ?_
   refine qd rfl ?_
   refine seq_run0 (stp_geq rfl rfl) ?_
   exact ⟨rfl, rfl, rfl, rfl, rfl⟩
  rintro e a1 W1 ⟨hk1, hN1, hD1, f, own, g, M', hfr, rfl, e0, e1, e3, e8⟩
  have u0 : a1.tmps.getD 0 undef = yv l := by have := hfr 0; rw [e0] at this; exact this
  have u1 : a1.tmps.getD 1 undef = cap := by have := hfr 1; rw [e1] at this; exact hvo _ _ _ this
  have u3 : a1.tmps.getD 3 undef = .int .i64 (m : Int) := by have := hfr 3; rw [e3] at this; exact this
  have u8 : a1.tmps.getD 8 undef = .bool true := by
   have := hfr 8; rw [e8, decide_eq_true (by omega)] at this; exact this
  refine wpIn_cond_true u8 (wpIn_skip ?_)
  have hJ1 := hk _ _ _ hJ hk1
  clear hfr e0 e1 e3 e8 hk1 hJ hM hcp t0 t1 t3 hN hD
  obtain ⟨hM1, hcp1⟩ := hc _ _ hJ1
  refine wpIn_seq (wpIn_block (wpIn_seq ?_))
  refine wpIn_region ?_
  obtain ⟨X, hX⟩ : ∃ X : Ctx, X = ⟨fun b => M b, W1, [], 19, none, []⟩ := ⟨_, rfl⟩
  have hrel : Rel X (frs (datL [(0, vval (yv l)), (1, vc), (3, vint (m : Int))])) (fun _ => none) ⟨fun _ => none, fun _ _ => none⟩ a1 W1 := by
   subst hX
   have he : Ext M (Mof ⟨fun b => M b, W1, [], 19, none, []⟩ ⟨fun _ => none, fun _ _ => none⟩ (fun _ => none)) W1 W1 := ⟨Nat.le_refl _, fun _ _ _ _ => rfl, fun b _ hb => by
    rcases hb with hb | ⟨id, o, ho, _⟩
    ·exact hb
    ·cases ho⟩
   refine ⟨Kp.refl _ _, ⟨fun b hb => ⟨hM1.1 b hb, by simp⟩, hM1.2.1, fun b hb => ⟨hM1.2.2 b hb, by simp⟩⟩, hN1, hD1, fun t => rep_at [(0, vval (yv l)), (1, vc), (3, vint (m : Int))] ⟨u0, by rw [u1]; exact vc.keep he (hvm _ hcp1), by rw [u3]; rfl, trivial⟩ t, fun id o ho => (by cases ho), fun id _ o _ b ho => (by cases ho), fun id o b ho => (by cases ho), fun id _ => ⟨rfl, fun _ => rfl⟩, fun id e size es h => (by cases h)⟩
  have hNX : X.N = 19 := by rw [hX]
  have hRX : X.R = none := by rw [hX]
  have hDX : X.D = [] := by rw [hX]
  have hKX : ∀ W', Kp X.S0 X.w0 W' → Kp [] W1 W' := fun W' h => by rw [hX] at h; exact h
  obtain ⟨el, hel⟩ : ∃ el, vals[m]? = some el := ⟨_, List.getElem?_eq_getElem (by omega)⟩
  have hell : (el.map vval).length = 1 := by rw [List.length_map]; exact hvn el (List.mem_of_getElem? hel)
  obtain ⟨x, rfl⟩ : ∃ x, el = [x] := List.length_eq_one_iff.1 (by simpa using hell)
  have helm : (vals.map fun c => c.map vval)[m]? = some ([x].map vval) := by rw [List.getElem?_map, hel]; rfl
  have helD : vals.getD m [] = [x] := by rw [List.getD_eq_getElem?_getD, hel]; rfl
  clear hX
  refine opsR hRX (n := 6 + 2) rfl ?_
  refine seqA_pre (P := Tryz.prog) (X := X) (by rw [hNX]; rfl) [_, _, _, _, _, _] [_, _] 0 _ _ [] _ a1 W1 rfl hrel ?_
  refine qd rfl ?_
  refine qd rfl ?_
  refine seq_run0 (stp_loadE1W tyS31 rfl hwk rfl rfl) ?_
  refine qd rfl ?_
  refine seq_run0 (stp_idxE (k := m) tyE31 rfl rfl (by rw [List.length_map]; omega) (fun c hc => by
   obtain ⟨c', hc', rfl⟩ := List.mem_map.1 hc
   rw [List.length_map]; exact hvn c' hc')) ?_
  refine seq_run0 (stp_loadE1 tyS9 rfl helm rfl) ?_
  intro g2 a2 W2 k2
  have v0 : a2.tmps.getD 0 undef = yv l := k2.fr 0
  have v1 : a2.tmps.getD 1 undef = cap := hvo _ _ _ (k2.fr 1)
  have v3 : a2.tmps.getD 3 undef = .int .i64 (m : Int) := k2.fr 3
  have v11 : a2.tmps.getD 11 undef = yv l := k2.fr 11
  have v12 : a2.tmps.getD 12 undef = .int .i64 (m : Int) := k2.fr 12
  have v16 : a2.tmps.getD 16 undef = x := k2.fr 16
  have hN2 : a2.tmps.size = 19 := k2.n.trans hNX
  have hD2 : a2.defers = [] := k2.df.trans hDX
  have hJ2 := hk _ _ _ hJ1 (hKX _ k2.kp)
  clear k2 hrel
  obtain ⟨fn, tm, asg, bdy, hrun, hR⟩ := hY m W2 (by omega) hJ2
  rw [helD] at hrun
  change (Instr.yield l #[.int .i64 (m : Int), x]).run Tryz.prog W2 = _ at hrun
  rw [hRX]
  show wpOpsIn Fence.wide 0 Tryz.prog _ _ [6, 7] a2 W2
  refine wpOps_yield rfl rfl rfl v11 (by simp [Act.eval, v12, v16]) hrun (hR.mono ?_)
  rintro e W3 (⟨rfl, hJ3⟩ | ⟨rfl, hJ3⟩)
  ·obtain ⟨hM3, hcp3⟩ := hc _ _ hJ3
   refine ⟨_, rfl, ?_⟩
   obtain ⟨a3, ha3⟩ : ∃ a3 : Act, a3 = a2.put (some 17) (.bool true) := ⟨_, rfl⟩
   have hN3 : a3.tmps.size = 19 := by rw [ha3]; simpa [Act.put] using hN2
   have hD3 : a3.defers = [] := by rw [ha3]; exact hD2
   have g3 : ∀ t, a3.tmps.getD t undef = if t = 17 then .bool true else a2.tmps.getD t undef := fun t => by rw [ha3]; exact arr_put hN2 (by decide) t
   show wpOpsIn Fence.wide 0 Tryz.prog _ _ (List.range' 7 1) (a2.put (some 17) (.bool true)) W3
   rw [← ha3]
   refine opsT (N := 19) (i := 7) (os := [_]) hM3 hN3 hD3 [(0, vval (yv l)), (1, vc), (3, vint (m : Int)), (17, vbool true)] ⟨?_, ?_, ?_, ?_, trivial⟩ (Q' := fun f => f 0 = .dat (vval (yv l)) ∧ f 1 = .dat vc ∧ f 3 = .dat (vint (m : Int)) ∧ f 18 = .dat (vbool (!true))) rfl rfl (fun _ _ => ?_) ?_
   ·show _ = _
    rw [g3, if_neg (by decide)]; exact v0
   ·rw [g3, if_neg (by decide), v1]; exact hvm _ hcp3
   ·show _ = _
    rw [g3, if_neg (by decide)]; exact v3
   ·show _ = _
    rw [g3, if_pos rfl]
   ·refine seq_run0 (stp_not rfl) ?_
    exact ⟨rfl, rfl, rfl, rfl⟩
   intro a4 W4 hk4 hN4 hD4 f g M' hfr ⟨e0, e1, e3, e18⟩
   have z0 : a4.tmps.getD 0 undef = yv l := by have := hfr 0; rw [e0] at this; exact this
   have z1 : a4.tmps.getD 1 undef = cap := by have := hfr 1; rw [e1] at this; exact hvo _ _ _ this
   have z3 : a4.tmps.getD 3 undef = .int .i64 (m : Int) := by have := hfr 3; rw [e3] at this; exact this
   have z18 : a4.tmps.getD 18 undef = .bool false := by have := hfr 18; rw [e18] at this; exact this
   refine wpIn_cond_false z18 (wpIn_skip ?_)
   have hJ4 := hk _ _ _ hJ3 hk4
   obtain ⟨hM4, hcp4⟩ := hc _ _ hJ4
   refine wpIn_mono (run_pureA (N := 19) hM4 hN4 hD4 [(0, vval (yv l)), (1, vc), (3, vint (m : Int))] ⟨z0, by rw [z1]; exact hvm _ hcp4, by rw [z3]; rfl, trivial⟩ (Q := fun e f => e = .normal ∧ f 0 = .dat (vval (yv l)) ∧ f 1 = .dat vc ∧ f 3 = .dat (vint ((m : Int) - 1))) fun X hN => ?_) ?_
   ·refine awp_plain hN rfl ?_
    refine qd rfl ?_
    refine seq_run0 (stp_sub rfl rfl (by omega)) ?_
    refine qe rfl ?_
    exact ⟨rfl, rfl, rfl, rfl⟩
   rintro e a5 W5 ⟨hk5, hN5, hD5, f5, own5, g5, M5, hfr5, rfl, e0, e1, e3⟩
   exact ih (by omega) a5 W5 hN5 hD5 (by have := hfr5 0; rw [e0] at this; exact this) (by have := hfr5 1; rw [e1] at this; exact hvo _ _ _ this) (by have := hfr5 3; rw [e3] at this; exact this) (hk _ _ _ hJ4 hk5)
  ·refine ⟨_, rfl, ?_⟩
   obtain ⟨a3, ha3⟩ : ∃ a3 : Act, a3 = a2.put (some 17) (.bool false) := ⟨_, rfl⟩
   show wpOpsIn Fence.wide 0 Tryz.prog _ _ [7] (a2.put (some 17) (.bool false)) W3
   rw [← ha3]
   have g3 : ∀ t, a3.tmps.getD t undef = if t = 17 then .bool false else a2.tmps.getD t undef := fun t => by rw [ha3]; exact arr_put hN2 (by decide) t
   have hN3 : a3.tmps.size = 19 := by rw [ha3]; simpa [Act.put] using hN2
   have hD3 : a3.defers = [] := by rw [ha3]; exact hD2
   have v17 : a3.tmps.getD 17 undef = .bool false := by rw [g3, if_pos rfl]
   rw [wpOpsIn_cons]
   unfold wpOpIn
   refine ⟨fun _ _ => trivial, ?_⟩
   have hrun : ∀ o : Oper, o.op = .unOp .not 4 (.tmp 17) → (o.semAt Fence.wide.round a3.eval).run Tryz.prog W3 = .ok (.value (.bool true)) W3 := fun o ho => by
    rw [Oper.semAt_eq Fence.wide.round a3.eval o (fun c hc => by rw [ho] at hc; cases hc)]
    have h1 : a3.eval (.tmp 17) = .bool false := v17
    simp only [execOp, ho, h1, Op.unary]
    rfl
   rw [hrun _ rfl, Oper.uponIn_value]
   have t18 : (a3.put (some 18) (.bool true)).tmps.getD 18 undef = .bool true := by rw [show (a3.put (some 18) (.bool true)).tmps = a3.tmps.setIfInBounds 18 (.bool true) from rfl, arr_put hN3 (by decide), if_pos rfl]
   exact wpIn_cond_true t18 (wpIn_ret ⟨hD3, _, results_none rfl _ _ _, ⟨_, rfl⟩, .inr hJ3⟩)

theorem k_message_Client (r1 : S_api_Request) (trusted2 : (List Bs)) (r : (Bs × Int)) (H : m_message_Client r1 trusted2 = some r) : Fn Tryz.prog 10 [vagg (C_api_Request r1), vlst (List.map C_string trusted2)] (resOf [vstr r.1, vint r.2]) := by
 refine ⟨by kernel_rfl, pure_ofF (us := [vstr r.1, vint r.2]) Tryz.func10 rfl rfl rfl rfl fun X hN hR => ?_⟩
 unfold m_message_Client at H
 refine awpf_seq hR ?_
 refine awp_plain hN rfl ?_
 refine seq_run2 (stp_boxA 1 rfl) rfl ?_
 refine seq_run2 (stp_box1 2 rfl rfl) rfl ?_
 refine seq_run2 (stp_alloc 3 tyZ9 rfl) rfl ?_
 refine seq_run2 (stp_alloc 4 tyZ34 rfl) rfl ?_
 refine awpf_seq hR ?_
 refine awp_seq ?_
 refine awp_plain hN rfl ?_
 refine seq_run1 (stp_loadA tyS28 rfl rfl rfl) rfl ?_
 obtain ⟨r3, h4, H⟩ := bnd H
 refine seq_run0 (stp_call (k_message_CheckRequest r1 r3 h4) ⟨.inl rfl, trivial⟩) ?_
 refine qe rfl ?_
 refine awp_seq ?_
 refine awp_plain hN rfl ?_
 refine qd rfl ?_
 refine seq_run0 (stp_neq rfl rfl) ?_
 refine awp_cond _ rfl (fun h5 => ?_) (fun h5 => ?_)
 ·replace H := ift h5 H
  refine awp_seq ?_
  refine awp_plain hN rfl ?_
  refine qd rfl ?_
  refine seq_run2 (stp_store1 tyS9 rfl rfl rfl rfl) rfl ?_
  refine seq_run2 (stp_store1 tyS34 rfl rfl rfl rfl) rfl ?_
  refine awp_ret ?_
  cases H
  exact ⟨[(4, .ptr 3 0), (5, .ptr 4 0)], [(3, .box none 9 [.dat (vstr [])]), (4, .box none 34 [.dat (vint r3)])], ⟨rfl, rfl, trivial⟩, ⟨rfl, rfl, trivial⟩, rfl, rfl, ⟨.inr ⟨_, _, rfl, rfl, tyS9⟩, .inr ⟨_, _, rfl, rfl, tyS34⟩, trivial⟩⟩
 ·replace H := iff_ h5 H
  refine awp_skip ?_
  refine awpf_seq hR ?_
  refine awp_seq ?_
  refine awp_plain hN rfl ?_
  refine seq_run1 (stp_load1 tyS31 rfl rfl) rfl ?_
  refine seq_run0 (t_len tyU31 rfl) ?_
  refine seq_run0 (stp_gtr rfl rfl) ?_
  refine awp_cond _ rfl (fun h6 => ?_) (fun h6 => ?_)
  ·replace H := ift h6 H
   refine awp_seq ?_
   refine awp_plain hN rfl ?_
   refine seq_run2 (stp_store1 tyS9 rfl rfl rfl rfl) rfl ?_
   refine seq_run2 (stp_store1 tyS34 rfl rfl rfl rfl) rfl ?_
   refine awp_ret ?_
   cases H
   exact ⟨[(4, .ptr 3 0), (5, .ptr 4 0)], [(3, .box none 9 [.dat (vstr [])]), (4, .box none 34 [.dat (vint 2)])], ⟨rfl, rfl, trivial⟩, ⟨rfl, rfl, trivial⟩, rfl, rfl, ⟨.inr ⟨_, _, rfl, rfl, tyS9⟩, .inr ⟨_, _, rfl, rfl, tyS34⟩, trivial⟩⟩
  ·replace H := iff_ h6 H
   refine awp_skip ?_
   refine awpf_seq hR ?_
   refine awp_seq ?_
   refine awp_plain hN rfl ?_
   refine seq_run1 (stp_load1 tyS31 rfl rfl) rfl ?_
   obtain ⟨r7, h8, H⟩ := bnd H
   refine seq_run0 (stp_callW (k_slices_ContainsFunc_L_string_string_ trusted2 (fun (a0 : Bs) => m_message_Client_1 a0) 53 [] (fun a0 r h => k_message_Client_1 a0 r h) r7 h8) ⟨.inl (.inl rfl), .inr ⟨_, rfl, rfl⟩, trivial⟩) ?_
   refine awp_cond _ rfl (fun h9 => ?_) (fun h9 => ?_)
   ·replace H := ift h9 H
    refine awp_seq ?_
    refine awp_plain hN rfl ?_
    refine seq_run2 (stp_store1 tyS9 rfl rfl rfl rfl) rfl ?_
    refine seq_run2 (stp_store1 tyS34 rfl rfl rfl rfl) rfl ?_
    refine awp_ret ?_
    cases H
    exact ⟨[(4, .ptr 3 0), (5, .ptr 4 0)], [(3, .box none 9 [.dat (vstr [])]), (4, .box none 34 [.dat (vint 3)])], ⟨rfl, rfl, trivial⟩, ⟨rfl, rfl, trivial⟩, rfl, rfl, ⟨.inr ⟨_, _, rfl, rfl, tyS9⟩, .inr ⟨_, _, rfl, rfl, tyS34⟩, trivial⟩⟩
   ·replace H := iff_ h9 H
    refine awp_skip ?_
    refine awpf_seq hR ?_
    refine awp_plain hN rfl ?_
    refine seq_run0 (stp_fldP tyF28_6 rfl) ?_
    refine seq_run1 (stp_load1 tyS26 rfl rfl) rfl ?_
    obtain ⟨r10, h11, H⟩ := bnd H
    refine seq_run0 (stp_call (k_message_Values r1.Headers [120, 45, 102, 111, 114, 119, 97, 114, 100, 101, 100, 45, 102, 111, 114] r10 h11) ⟨.inl rfl, .inl rfl, trivial⟩) ?_
    obtain ⟨r12, h13, H⟩ := bnd H
    refine seq_callG (rn [(1, 5)]) [] [(1, _)] (kr_message_Parts r10 r12 h13) ⟨rfl, trivial⟩ ⟨.inl (.inl rfl), trivial⟩ trivial rfl ?_
    refine seq_run0 (stp_assign (.row _ _) rfl) ?_
    refine awpf_joinE hR (ι := (List Bs)) (fun i => [(3, .ptr 2 0), (4, .ptr 3 0), (5, .ptr 4 0), (7, .row 5 i.length)]) (fun i => [(2, .box none 31 [.dat (vlst (List.map C_string trusted2))]), (3, .box none 9 [.dat (vstr [])]), (4, .box none 34 [.dat (vint 0)]), (5, .row 9 1 (List.map C_string i))]) (fun i => message_Client_J1 trusted2 i = some r) (fun i => rfl) ?_ ?_
    ·skip
     refine awp_seq ?_
     refine awp_plain hN rfl ?_
     refine seq_run0 (stp_fldP tyF28_5 rfl) ?_
     refine seq_run1 (stp_load1 tyS9 rfl rfl) rfl ?_
     refine seq_run0 (stp_sneq rfl rfl) ?_
     refine awp_cond _ rfl (fun h14 => ?_) (fun h14 => ?_)
     ·replace H := ift h14 H
      refine awp_plain hN rfl ?_
      refine seq_run0 (stp_move (.row _ _) rfl) ?_
      refine seq_run0 (stp_fldP tyF28_5 rfl) ?_
      refine seq_run1 (stp_load1 tyS9 rfl rfl) rfl ?_
      refine seq_run0 (stp_dat (u' := vlst (List.map C_string [r1.From])) (stp_lit [[_]] tyL31 ⟨rfl, .inl ⟨_, rfl, rfl, rfl⟩, rfl, trivial⟩ rfl rfl) rfl) ?_
      obtain ⟨h15, H⟩ := gif H
      refine seq_run2 (t_app tyL31 (fun _ => rfl) rfl rfl rfl ⟨by simp, by first | (simp; done) | simpa using h15⟩ rfl) rfl ?_
      refine seq_run0 (stp_assign (.row _ _) rfl) ?_
      exact ⟨(r12 ++ [r1.From]), H, ⟨rfl, rfl, rfl, rfl, trivial⟩, ⟨rfl, rfl, rfl, rfl, trivial⟩⟩
     ·replace H := iff_ h14 H
      refine awp_skip ?_
      exact ⟨r12, H, ⟨rfl, rfl, rfl, rfl, trivial⟩, ⟨rfl, rfl, rfl, rfl, trivial⟩⟩
    ·rintro all16 H
     replace H : message_Client_J1 trusted2 all16 = some r := H
     unfold message_Client_J1 at H
     refine awpf_range hR ?_
     refine t_freeze 7 5 rfl rfl rfl ?_
     refine awp_plain hN rfl ?_
     refine qd rfl ?_
     refine seq_run0 (stp_call (k_slices_Backward_L_string_string_ all16) ⟨.inl rfl, trivial⟩) ?_
     refine ⟨rfl, ?_⟩
     obtain ⟨h18, H⟩ := gif H
     refine rangeP (s0 := ()) hR hN [(3, .ptr 2 0), (4, .ptr 3 0), (5, .ptr 4 0), (7, .dat (vlst (List.map C_string all16))), (33, .dat (vfn 97 [vcell [[vlst (List.map C_string all16)]] 0 0]))] [(2, .box none 31 [.dat (vlst (List.map C_string trusted2))]), (3, .box none 9 [.dat (vstr [])]), (4, .box none 34 [.dat (vint 0)])] (fun (s : Unit) => [(2, .box none 31 [.dat (vlst (List.map C_string trusted2))]), (3, .box none 9 [.dat (vstr [])]), (4, .box none 34 [.dat (vint 0)])]) it_slices_Backward_L_string_string_ (fun _ => rfl) (enters_of Tryz.func97 (by kernel_rfl) rfl) rfl h18 H ⟨rfl, rfl, rfl, rfl, rfl, trivial⟩ ⟨rfl, rfl, rfl, trivial⟩ rfl rfl (fun _ => rfl) (fun _ => rfl) (fun _ _ => rfl) (fun _ _ => rfl) (fun _ => rfl) (fun _ => rfl) (by decide) (by decide) ?_ ?_
     ·rintro A X k19 x20 ⟨⟩ q17 hN h21 h22 H hq17
      replace H : message_Client_L2 trusted2 k19 x20 = some q17 := H
      unfold message_Client_L2 at H
      refine awp_plain hN rfl ?_
      refine qe rfl ?_
      refine ⟨rfl, [(3, .ptr 2 0), (4, .ptr 3 0), (5, .ptr 4 0), (9, .dat (vstr x20))], [(2, .box (some (A 2)) 31 [.dat (vlst (List.map C_string trusted2))]), (3, .box (some (A 3)) 9 [.dat (vstr [])]), (4, .box (some (A 4)) 34 [.dat (vint 0)])], ⟨rfl, rfl, rfl, rfl, trivial⟩, ⟨rfl, rfl, rfl, trivial⟩, rfl, rfl, rfl, fun X hN => ?_⟩
      refine awp_block ?_
      refine awp_seq ?_
      refine awp_plain hN rfl ?_
      refine seq_run1 (stp_load1 tyS31 rfl rfl) rfl ?_
      refine qd rfl ?_
      obtain ⟨r23, h24, H⟩ := bnd H
      refine seq_run0 (stp_call (k_slices_Contains_L_string_string_ trusted2 x20 r23 h24) ⟨.inl rfl, .inl rfl, trivial⟩) ?_
      refine seq_run0 (stp_not rfl) ?_
      refine awp_cond _ rfl (fun h25 => ?_) (fun h25 => ?_)
      ·replace H := ift h25 H
       refine awp_seq ?_
       refine awp_plain hN rfl ?_
       refine qd rfl ?_
       refine seq_run2 (stp_store1 tyS9 rfl rfl rfl rfl) rfl ?_
       refine seq_run2 (stp_store1 tyS34 rfl rfl rfl rfl) rfl ?_
       refine awp_ret ?_
       replace H := retl H hq17
       cases H
       exact ⟨[(2, .box none 31 [.dat (vlst (List.map C_string trusted2))]), (3, .box none 9 [.dat (vstr x20)]), (4, .box none 34 [.dat (vint 0)])], rfl, rfl, rfl, rfl, ⟨rfl, rfl, rfl, trivial⟩, ⟨.inr ⟨_, _, rfl, rfl, tyS9⟩, .inr ⟨_, _, rfl, rfl, tyS34⟩, trivial⟩⟩
      ·replace H := iff_ h25 H
       refine awp_skip ?_
       exact ⟨_, backl H, ⟨rfl, rfl, rfl, trivial⟩⟩
     ·rintro A X ⟨⟩ hN hR H
      replace H : message_Client_E2 all16 = some r := H
      unfold message_Client_E2 at H
      refine awp_seq ?_
      refine awp_seq ?_
      refine awp_plain hN rfl ?_
      refine qd rfl ?_
      refine seq_run0 (t_len tyU31 rfl) ?_
      refine seq_run0 (stp_eql rfl rfl) ?_
      refine awp_cond _ rfl (fun h26 => ?_) (fun h26 => ?_)
      ·replace H := ift h26 H
       refine awp_seq ?_
       refine awp_plain hN rfl ?_
       refine seq_run2 (stp_store1 tyS9 rfl rfl rfl rfl) rfl ?_
       refine seq_run2 (stp_store1 tyS34 rfl rfl rfl rfl) rfl ?_
       refine awp_ret ?_
       cases H
       exact ⟨.inr rfl, [(4, .ptr 3 0), (5, .ptr 4 0)], [(3, .box (some (A 3)) 9 [.dat (vstr [])]), (4, .box (some (A 4)) 34 [.dat (vint 0)])], ⟨rfl, rfl, trivial⟩, ⟨rfl, rfl, trivial⟩, rfl, rfl, ⟨.inr ⟨_, _, rfl, rfl, tyS9⟩, .inr ⟨_, _, rfl, rfl, tyS34⟩, trivial⟩⟩
      ·replace H := iff_ h26 H
       refine awp_skip ?_
       refine awp_seq ?_
       refine awp_plain hN rfl ?_
       refine qd rfl ?_
       obtain ⟨x27, h28, H⟩ := bnd H
       refine seq_run0 (t_idx tyE31 (fun _ => rfl) rfl rfl h28) ?_
       refine seq_run0 (stp_loadE1 tyS9 rfl (map_at h28) rfl) ?_
       refine seq_run2 (stp_store1 tyS9 rfl rfl rfl rfl) rfl ?_
       refine seq_run2 (stp_store1 tyS34 rfl rfl rfl rfl) rfl ?_
       refine awp_ret ?_
       cases H
       exact ⟨.inr rfl, [(4, .ptr 3 0), (5, .ptr 4 0)], [(3, .box (some (A 3)) 9 [.dat (vstr x27)]), (4, .box (some (A 4)) 34 [.dat (vint 0)])], ⟨rfl, rfl, trivial⟩, ⟨rfl, rfl, trivial⟩, rfl, rfl, ⟨.inr ⟨_, _, rfl, rfl, tyS9⟩, .inr ⟨_, _, rfl, rfl, tyS34⟩, trivial⟩⟩
theorem kr_gateref2_parts (values1 : (List Bs)) (r : ((List Bs))) (H : m_gateref2_parts values1 = some r) : FnG Tryz.prog 40 [.dat (vlst (List.map C_string values1))] [] (.row 1 r.length) [(1, .row 9 1 (List.map C_string r))] := by
 refine fnG_of (by kernel_rfl) Tryz.func40 rfl rfl rfl rfl fun X A hN => ?_
 unfold m_gateref2_parts at H
 refine awp_seq ?_
 refine awp_plain hN rfl ?_
 refine qe rfl ?_
 refine awp_seq ?_
 refine awp_plain hN rfl ?_
 refine qe rfl ?_
 refine awp_seq ?_
 refine awp_seq ?_
 refine awp_plain hN rfl ?_
 refine qd rfl ?_
 obtain ⟨r2, h3, H⟩ := bnd H
 refine seq_run0 (stp_call (k_strings_Join values1 [44] r2 h3) ⟨.inl rfl, .inl rfl, trivial⟩) ?_
 obtain ⟨r4, h5, H⟩ := bnd H
 refine seq_run0 (stp_call (k_strings_Split r2 [44] r4 h5) ⟨.inl rfl, .inl rfl, trivial⟩) ?_
 refine seq_run0 (t_len tyU31 rfl) ?_
 refine qd rfl ?_
 refine awp_block ?_
 refine awp_nilrow 3 1 9 1 rfl rfl rfl ?_
 obtain ⟨h9, H⟩ := gif H
 refine awp_forL (fun (k7 : Nat) (s : (List Bs)) => [(3, .row 1 s.length), (8, .dat (vlst (List.map C_string r4))), (9, .dat (vint (r4.length : Int))), (10, .dat (vint (k7 : Int)))]) (fun (k7 : Nat) (s : (List Bs)) => [(1, .row 9 1 (List.map C_string s))]) [] H ⟨rfl, rfl, rfl, rfl, trivial⟩ ⟨rfl, trivial⟩ (fun _ _ => rfl) ?_ ?_
 ·rintro l6 H
  replace H : gateref2_parts_E1 l6 = some r := H
  unfold gateref2_parts_E1 at H
  refine awp_seq ?_
  refine awp_plain hN rfl ?_
  refine seq_run0 (stp_lss rfl rfl) ?_
  refine awp_seq ?_
  refine awp_cond _ rfl (fun h => (lt_t h).elim) (fun h => ?_)
  refine awp_exit ?_
  refine awp_seq ?_
  refine awp_plain hN rfl ?_
  refine seq_run0 (stp_move (.row _ _) rfl) ?_
  refine seq_run0 (stp_assign (.row _ _) rfl) ?_
  refine awp_ret ?_
  cases H
  exact ⟨trivial, [(2, .row 1 _)], ⟨rfl, trivial⟩, ⟨rfl, trivial⟩, rfl, .inr ⟨2, rfl, rfl⟩⟩
 ·rintro k7 x10 l6 q8 h11 h12 H hq8
  replace H : gateref2_parts_L1 k7 x10 l6 = some q8 := H
  unfold gateref2_parts_L1 at H
  refine awp_seq ?_
  refine awp_plain hN rfl ?_
  refine seq_run0 (stp_lss rfl rfl) ?_
  refine awp_seq ?_
  refine awp_cond _ rfl (fun h => ?_) (fun h => (lt_f h11 h).elim)
  refine awp_skip ?_
  refine awp_joinE (ι := (List Bs)) (fun i => [(3, .row 1 i.length), (8, .dat (vlst (List.map C_string r4))), (9, .dat (vint (r4.length : Int))), (10, .dat (vint (k7 : Int)))]) (fun i => [(1, .row 9 1 (List.map C_string i))]) (fun i => gateref2_parts_J2 i = some q8) (fun i => rfl) ?_ ?_
  ·skip
   refine awp_block ?_
   refine awp_seq ?_
   refine awp_plain hN rfl ?_
   refine seq_run0 (t_idx tyE31 (fun _ => rfl) rfl rfl h12) ?_
   refine seq_run0 (stp_loadE1 tyS9 rfl (map_at h12) rfl) ?_
   refine qe rfl ?_
   refine awp_seq ?_
   refine awp_plain hN rfl ?_
   refine qd rfl ?_
   obtain ⟨r13, h14, H⟩ := bnd H
   refine seq_run0 (stp_call (k_strings_Trim x10 [32] r13 h14) ⟨.inl rfl, .inl rfl, trivial⟩) ?_
   refine qe rfl ?_
   refine awp_seq ?_
   refine awp_plain hN rfl ?_
   refine qd rfl ?_
   refine seq_run0 (stp_sneq rfl rfl) ?_
   refine awp_cond _ rfl (fun h15 => ?_) (fun h15 => ?_)
   ·replace H := ift h15 H
    refine awp_plain hN rfl ?_
    refine seq_run0 (stp_move (.row _ _) rfl) ?_
    refine qd rfl ?_
    refine seq_run0 (stp_dat (u' := vlst (List.map C_string [r13])) (stp_lit [[_]] tyL31 ⟨rfl, .inl ⟨_, rfl, rfl, rfl⟩, rfl, trivial⟩ rfl rfl) rfl) ?_
    obtain ⟨h16, H⟩ := gif H
    refine seq_run2 (t_app tyL31 (fun _ => rfl) rfl rfl rfl ⟨by simp, by first | (simp; done) | simpa using h16⟩ rfl) rfl ?_
    refine seq_run0 (stp_assign (.row _ _) rfl) ?_
    exact ⟨(l6 ++ [r13]), H, ⟨rfl, rfl, rfl, rfl, trivial⟩, ⟨rfl, trivial⟩⟩
   ·replace H := iff_ h15 H
    refine awp_skip ?_
    exact ⟨l6, H, ⟨rfl, rfl, rfl, rfl, trivial⟩, ⟨rfl, trivial⟩⟩
  ·rintro out17 H
   replace H : gateref2_parts_J2 out17 = some q8 := H
   unfold gateref2_parts_J2 at H
   refine awp_plain hN rfl ?_
   refine seq_run0 (stp_add rfl rfl (by omega)) ?_
   refine qd rfl ?_
   exact ⟨_, backl H, ⟨rfl, rfl, rfl, rfl, trivial⟩, ⟨rfl, trivial⟩⟩
theorem k_gateref2_ClientOf (r1 : S_api_Request) (trusted2 : (List Bs)) (r : (Bs × Int)) (H : m_gateref2_ClientOf r1 trusted2 = some r) : Fn Tryz.prog 11 [vagg (C_api_Request r1), vlst (List.map C_string trusted2)] (resOf [vstr r.1, vint r.2]) := by
 refine ⟨by kernel_rfl, pure_ofF (us := [vstr r.1, vint r.2]) Tryz.func11 rfl rfl rfl rfl fun X hN hR => ?_⟩
 unfold m_gateref2_ClientOf at H
 refine awpf_seq hR ?_
 refine awp_plain hN rfl ?_
 refine seq_run2 (stp_boxA 1 rfl) rfl ?_
 refine seq_run2 (stp_box1 2 rfl rfl) rfl ?_
 refine seq_run2 (stp_alloc 3 tyZ9 rfl) rfl ?_
 refine seq_run2 (stp_alloc 4 tyZ34 rfl) rfl ?_
 refine awpf_seq hR ?_
 refine awp_seq ?_
 refine awp_plain hN rfl ?_
 refine seq_run1 (stp_loadA tyS28 rfl rfl rfl) rfl ?_
 obtain ⟨r3, h4, H⟩ := bnd H
 refine seq_run0 (stp_call (k_gateref2_RequestFault r1 r3 h4) ⟨.inl rfl, trivial⟩) ?_
 refine qe rfl ?_
 refine awp_seq ?_
 refine awp_plain hN rfl ?_
 refine qd rfl ?_
 refine seq_run0 (stp_neq rfl rfl) ?_
 refine awp_cond _ rfl (fun h5 => ?_) (fun h5 => ?_)
 ·replace H := ift h5 H
  refine awp_seq ?_
  refine awp_plain hN rfl ?_
  refine qd rfl ?_
  refine seq_run2 (stp_store1 tyS9 rfl rfl rfl rfl) rfl ?_
  refine seq_run2 (stp_store1 tyS34 rfl rfl rfl rfl) rfl ?_
  refine awp_ret ?_
  cases H
  exact ⟨[(4, .ptr 3 0), (5, .ptr 4 0)], [(3, .box none 9 [.dat (vstr [])]), (4, .box none 34 [.dat (vint r3)])], ⟨rfl, rfl, trivial⟩, ⟨rfl, rfl, trivial⟩, rfl, rfl, ⟨.inr ⟨_, _, rfl, rfl, tyS9⟩, .inr ⟨_, _, rfl, rfl, tyS34⟩, trivial⟩⟩
 ·replace H := iff_ h5 H
  refine awp_skip ?_
  refine awpf_seq hR ?_
  refine awp_seq ?_
  refine awp_plain hN rfl ?_
  refine seq_run1 (stp_load1 tyS31 rfl rfl) rfl ?_
  refine seq_run0 (t_len tyU31 rfl) ?_
  refine seq_run0 (stp_gtr rfl rfl) ?_
  refine awp_cond _ rfl (fun h6 => ?_) (fun h6 => ?_)
  ·replace H := ift h6 H
   refine awp_seq ?_
   refine awp_plain hN rfl ?_
   refine seq_run2 (stp_store1 tyS9 rfl rfl rfl rfl) rfl ?_
   refine seq_run2 (stp_store1 tyS34 rfl rfl rfl rfl) rfl ?_
   refine awp_ret ?_
   cases H
   exact ⟨[(4, .ptr 3 0), (5, .ptr 4 0)], [(3, .box none 9 [.dat (vstr [])]), (4, .box none 34 [.dat (vint 2)])], ⟨rfl, rfl, trivial⟩, ⟨rfl, rfl, trivial⟩, rfl, rfl, ⟨.inr ⟨_, _, rfl, rfl, tyS9⟩, .inr ⟨_, _, rfl, rfl, tyS34⟩, trivial⟩⟩
  ·replace H := iff_ h6 H
   refine awp_skip ?_
   refine awpf_seq hR ?_
   refine awp_seq ?_
   refine awp_plain hN rfl ?_
   refine seq_run1 (stp_load1 tyS31 rfl rfl) rfl ?_
   refine seq_run0 (t_len tyU31 rfl) ?_
   refine qd rfl ?_
   refine awp_block ?_
   obtain ⟨h9, H⟩ := gif H
   refine awp_forL (fun (k7 : Nat) (s : Unit) => [(2, .ptr 1 0), (3, .ptr 2 0), (4, .ptr 3 0), (5, .ptr 4 0), (20, .dat (vlst (List.map C_string trusted2))), (21, .dat (vint (trusted2.length : Int))), (22, .dat (vint (k7 : Int)))]) (fun (k7 : Nat) (s : Unit) => [(1, .box none 28 [.dat (vint r1.At), .dat (vstr r1.Method), .dat (vstr r1.Host), .dat (vstr r1.Path), .dat (vstr r1.Query), .dat (vstr r1.From), .dat (vlst (List.map C_api_Header r1.Headers)), .dat (vstr r1.Body)]), (2, .box none 31 [.dat (vlst (List.map C_string trusted2))]), (3, .box none 9 [.dat (vstr [])]), (4, .box none 34 [.dat (vint 0)])]) () H ⟨rfl, rfl, rfl, rfl, rfl, rfl, rfl, trivial⟩ ⟨rfl, rfl, rfl, rfl, trivial⟩ (fun _ _ => rfl) ?_ ?_
   ·rintro ⟨⟩ H
    replace H : gateref2_ClientOf_E1 r1 trusted2 = some r := H
    unfold gateref2_ClientOf_E1 at H
    refine awp_seq ?_
    refine awp_plain hN rfl ?_
    refine seq_run0 (stp_lss rfl rfl) ?_
    refine awp_seq ?_
    refine awp_cond _ rfl (fun h => (lt_t h).elim) (fun h => ?_)
    refine awp_exit ?_
    refine awpf_seq hR ?_
    refine awp_plain hN rfl ?_
    refine seq_run0 (stp_fldP tyF28_6 rfl) ?_
    refine seq_run1 (stp_load1 tyS26 rfl rfl) rfl ?_
    obtain ⟨r11, h12, H⟩ := bnd H
    refine seq_run0 (stp_call (k_gateref2_Values r1.Headers [120, 45, 102, 111, 114, 119, 97, 114, 100, 101, 100, 45, 102, 111, 114] r11 h12) ⟨.inl rfl, .inl rfl, trivial⟩) ?_
    obtain ⟨r13, h14, H⟩ := bnd H
    refine seq_callG (rn [(1, 5)]) [] [(1, _)] (kr_gateref2_parts r11 r13 h14) ⟨rfl, trivial⟩ ⟨.inl (.inl rfl), trivial⟩ trivial rfl ?_
    refine seq_run0 (stp_assign (.row _ _) rfl) ?_
    refine awpf_joinE hR (ι := (List Bs)) (fun i => [(3, .ptr 2 0), (4, .ptr 3 0), (5, .ptr 4 0), (9, .row 5 i.length)]) (fun i => [(2, .box none 31 [.dat (vlst (List.map C_string trusted2))]), (3, .box none 9 [.dat (vstr [])]), (4, .box none 34 [.dat (vint 0)]), (5, .row 9 1 (List.map C_string i))]) (fun i => gateref2_ClientOf_J2 trusted2 i = some r) (fun i => rfl) ?_ ?_
    ·skip
     refine awp_seq ?_
     refine awp_plain hN rfl ?_
     refine seq_run0 (stp_fldP tyF28_5 rfl) ?_
     refine seq_run1 (stp_load1 tyS9 rfl rfl) rfl ?_
     refine seq_run0 (stp_sneq rfl rfl) ?_
     refine awp_cond _ rfl (fun h15 => ?_) (fun h15 => ?_)
     ·replace H := ift h15 H
      refine awp_plain hN rfl ?_
      refine seq_run0 (stp_move (.row _ _) rfl) ?_
      refine seq_run0 (stp_fldP tyF28_5 rfl) ?_
      refine seq_run1 (stp_load1 tyS9 rfl rfl) rfl ?_
      refine seq_run0 (stp_dat (u' := vlst (List.map C_string [r1.From])) (stp_lit [[_]] tyL31 ⟨rfl, .inl ⟨_, rfl, rfl, rfl⟩, rfl, trivial⟩ rfl rfl) rfl) ?_
      obtain ⟨h16, H⟩ := gif H
      refine seq_run2 (t_app tyL31 (fun _ => rfl) rfl rfl rfl ⟨by simp, by first | (simp; done) | simpa using h16⟩ rfl) rfl ?_
      refine seq_run0 (stp_assign (.row _ _) rfl) ?_
      exact ⟨(r13 ++ [r1.From]), H, ⟨rfl, rfl, rfl, rfl, trivial⟩, ⟨rfl, rfl, rfl, rfl, trivial⟩⟩
     ·replace H := iff_ h15 H
      refine awp_skip ?_
      exact ⟨r13, H, ⟨rfl, rfl, rfl, rfl, trivial⟩, ⟨rfl, rfl, rfl, rfl, trivial⟩⟩
    ·rintro l17 H
     replace H : gateref2_ClientOf_J2 trusted2 l17 = some r := H
     unfold gateref2_ClientOf_J2 at H
     refine awpf_seq hR ?_
     refine awp_seq ?_
     refine awp_plain hN rfl ?_
     refine seq_run0 (stp_move (.row _ _) rfl) ?_
     refine seq_run1 (t_lenR tyU31 rfl rfl) rfl ?_
     refine seq_run0 (stp_eql rfl rfl) ?_
     refine awp_cond _ rfl (fun h18 => ?_) (fun h18 => ?_)
     ·replace H := ift h18 H
      refine awp_seq ?_
      refine awp_plain hN rfl ?_
      refine seq_run2 (stp_store1 tyS9 rfl rfl rfl rfl) rfl ?_
      refine seq_run2 (stp_store1 tyS34 rfl rfl rfl rfl) rfl ?_
      refine awp_ret ?_
      cases H
      exact ⟨[(4, .ptr 3 0), (5, .ptr 4 0)], [(3, .box none 9 [.dat (vstr [])]), (4, .box none 34 [.dat (vint 0)])], ⟨rfl, rfl, trivial⟩, ⟨rfl, rfl, trivial⟩, rfl, rfl, ⟨.inr ⟨_, _, rfl, rfl, tyS9⟩, .inr ⟨_, _, rfl, rfl, tyS34⟩, trivial⟩⟩
     ·replace H := iff_ h18 H
      refine awp_skip ?_
      refine awpf_range hR ?_
      refine t_freeze 9 5 rfl rfl rfl ?_
      refine awp_plain hN rfl ?_
      refine qd rfl ?_
      refine seq_run0 (stp_call (k_slices_Backward_L_string_string_ l17) ⟨.inl rfl, trivial⟩) ?_
      refine ⟨rfl, ?_⟩
      obtain ⟨h20, H⟩ := gif H
      refine rangeP (s0 := ()) hR hN [(3, .ptr 2 0), (4, .ptr 3 0), (5, .ptr 4 0), (9, .dat (vlst (List.map C_string l17))), (50, .dat (vfn 97 [vcell [[vlst (List.map C_string l17)]] 0 0]))] [(2, .box none 31 [.dat (vlst (List.map C_string trusted2))]), (3, .box none 9 [.dat (vstr [])]), (4, .box none 34 [.dat (vint 0)])] (fun (s : Unit) => [(2, .box none 31 [.dat (vlst (List.map C_string trusted2))]), (3, .box none 9 [.dat (vstr [])]), (4, .box none 34 [.dat (vint 0)])]) it_slices_Backward_L_string_string_ (fun _ => rfl) (enters_of Tryz.func97 (by kernel_rfl) rfl) rfl h20 H ⟨rfl, rfl, rfl, rfl, rfl, trivial⟩ ⟨rfl, rfl, rfl, trivial⟩ rfl rfl (fun _ => rfl) (fun _ => rfl) (fun _ _ => rfl) (fun _ _ => rfl) (fun _ => rfl) (fun _ => rfl) (by decide) (by decide) ?_ ?_
      ·rintro A X k21 x22 ⟨⟩ q19 hN h23 h24 H hq19
       replace H : gateref2_ClientOf_L3 trusted2 k21 x22 = some q19 := H
       unfold gateref2_ClientOf_L3 at H
       refine awp_plain hN rfl ?_
       refine qe rfl ?_
       refine ⟨rfl, [(3, .ptr 2 0), (4, .ptr 3 0), (5, .ptr 4 0), (11, .dat (vstr x22))], [(2, .box (some (A 2)) 31 [.dat (vlst (List.map C_string trusted2))]), (3, .box (some (A 3)) 9 [.dat (vstr [])]), (4, .box (some (A 4)) 34 [.dat (vint 0)])], ⟨rfl, rfl, rfl, rfl, trivial⟩, ⟨rfl, rfl, rfl, trivial⟩, rfl, rfl, rfl, fun X hN => ?_⟩
       refine awp_block ?_
       refine awp_seq ?_
       refine awp_plain hN rfl ?_
       refine seq_run1 (stp_load1 tyS31 rfl rfl) rfl ?_
       refine qd rfl ?_
       obtain ⟨r25, h26, H⟩ := bnd H
       refine seq_run0 (stp_call (k_slices_Contains_L_string_string_ trusted2 x22 r25 h26) ⟨.inl rfl, .inl rfl, trivial⟩) ?_
       refine seq_run0 (stp_not rfl) ?_
       refine awp_cond _ rfl (fun h27 => ?_) (fun h27 => ?_)
       ·replace H := ift h27 H
        refine awp_seq ?_
        refine awp_plain hN rfl ?_
        refine qd rfl ?_
        refine seq_run2 (stp_store1 tyS9 rfl rfl rfl rfl) rfl ?_
        refine seq_run2 (stp_store1 tyS34 rfl rfl rfl rfl) rfl ?_
        refine awp_ret ?_
        replace H := retl H hq19
        cases H
        exact ⟨[(2, .box none 31 [.dat (vlst (List.map C_string trusted2))]), (3, .box none 9 [.dat (vstr x22)]), (4, .box none 34 [.dat (vint 0)])], rfl, rfl, rfl, rfl, ⟨rfl, rfl, rfl, trivial⟩, ⟨.inr ⟨_, _, rfl, rfl, tyS9⟩, .inr ⟨_, _, rfl, rfl, tyS34⟩, trivial⟩⟩
       ·replace H := iff_ h27 H
        refine awp_skip ?_
        exact ⟨_, backl H, ⟨rfl, rfl, rfl, trivial⟩⟩
      ·rintro A X ⟨⟩ hN hR H
       replace H : gateref2_ClientOf_E3 l17 = some r := H
       unfold gateref2_ClientOf_E3 at H
       refine awp_seq ?_
       refine awp_plain hN rfl ?_
       refine qd rfl ?_
       obtain ⟨x28, h29, H⟩ := bnd H
       refine seq_run0 (t_idx tyE31 (fun _ => rfl) rfl rfl h29) ?_
       refine seq_run0 (stp_loadE1 tyS9 rfl (map_at h29) rfl) ?_
       refine seq_run2 (stp_store1 tyS9 rfl rfl rfl rfl) rfl ?_
       refine seq_run2 (stp_store1 tyS34 rfl rfl rfl rfl) rfl ?_
       refine awp_ret ?_
       cases H
       exact ⟨.inr rfl, [(4, .ptr 3 0), (5, .ptr 4 0)], [(3, .box (some (A 3)) 9 [.dat (vstr x28)]), (4, .box (some (A 4)) 34 [.dat (vint 0)])], ⟨rfl, rfl, trivial⟩, ⟨rfl, rfl, trivial⟩, rfl, rfl, ⟨.inr ⟨_, _, rfl, rfl, tyS9⟩, .inr ⟨_, _, rfl, rfl, tyS34⟩, trivial⟩⟩
   ·rintro k7 x10 ⟨⟩ q8 h30 h31 H hq8
    replace H : gateref2_ClientOf_L1 k7 x10 = some q8 := H
    unfold gateref2_ClientOf_L1 at H
    refine awp_seq ?_
    refine awp_plain hN rfl ?_
    refine seq_run0 (stp_lss rfl rfl) ?_
    refine awp_seq ?_
    refine awp_cond _ rfl (fun h => ?_) (fun h => (lt_f h30 h).elim)
    refine awp_skip ?_
    refine awp_seq ?_
    refine awp_block ?_
    refine awp_seq ?_
    refine awp_plain hN rfl ?_
    refine seq_run0 (t_idx tyE31 (fun _ => rfl) rfl rfl h31) ?_
    refine seq_run0 (stp_loadE1 tyS9 rfl (map_at h31) rfl) ?_
    refine qe rfl ?_
    refine awp_joinE (ι := Bool) (fun i => [(2, .ptr 1 0), (3, .ptr 2 0), (4, .ptr 3 0), (5, .ptr 4 0), (20, .dat (vlst (List.map C_string trusted2))), (21, .dat (vint (trusted2.length : Int))), (22, .dat (vint (k7 : Int))), (32, .dat (vbool i))]) (fun i => [(1, .box none 28 [.dat (vint r1.At), .dat (vstr r1.Method), .dat (vstr r1.Host), .dat (vstr r1.Path), .dat (vstr r1.Query), .dat (vstr r1.From), .dat (vlst (List.map C_api_Header r1.Headers)), .dat (vstr r1.Body)]), (2, .box none 31 [.dat (vlst (List.map C_string trusted2))]), (3, .box none 9 [.dat (vstr [])]), (4, .box none 34 [.dat (vint 0)])]) (fun i => gateref2_ClientOf_J4 i = some q8) (fun i => rfl) ?_ ?_
    ·skip
     refine awp_plain hN rfl ?_
     refine qd rfl ?_
     refine seq_run0 (stp_seql rfl rfl) ?_
     refine qd rfl ?_
     refine seq_split (j := 2) rfl rfl (fun h32 => ?_) (fun h32 => ?_) rfl
     ·have h33 := un3 h32
      replace H := iff_ h33 H
      refine seq_g0 rfl rfl h32 (stp_move (.dat _) rfl) ?_
      obtain ⟨r34, h35, H⟩ := bnd H
      refine seq_g0 rfl rfl h32 (stp_call (k_gateref2_Field x10 r34 h35) ⟨.inl rfl, trivial⟩) ?_
      refine seq_g0 rfl rfl h32 (stp_not rfl) ?_
      refine seq_run0 (stp_pick_f rfl (bFF h33) rfl) ?_
      exact ⟨!r34, H, ⟨rfl, rfl, rfl, rfl, rfl, rfl, rfl, rfl, trivial⟩, ⟨rfl, rfl, rfl, rfl, trivial⟩⟩
     ·have h36 := un4 h32
      replace H := ift h36 H
      refine seq_skip rfl rfl h32 ?_
      refine seq_skip rfl rfl h32 ?_
      refine seq_skip rfl rfl h32 ?_
      refine seq_run0 (stp_pick_t rfl (bTT h36) rfl) ?_
      exact ⟨true, H, ⟨rfl, rfl, rfl, rfl, rfl, rfl, rfl, rfl, trivial⟩, ⟨rfl, rfl, rfl, rfl, trivial⟩⟩
    ·rintro v37 H
     replace H : gateref2_ClientOf_J4 v37 = some q8 := H
     unfold gateref2_ClientOf_J4 at H
     refine awp_cond _ rfl (fun h38 => ?_) (fun h38 => ?_)
     ·replace H := ift h38 H
      refine awp_seq ?_
      refine awp_plain hN rfl ?_
      refine seq_run2 (stp_store1 tyS9 rfl rfl rfl rfl) rfl ?_
      refine seq_run2 (stp_store1 tyS34 rfl rfl rfl rfl) rfl ?_
      refine awp_ret ?_
      replace H := retl H hq8
      cases H
      exact ⟨[(4, .ptr 3 0), (5, .ptr 4 0)], [(3, .box none 9 [.dat (vstr [])]), (4, .box none 34 [.dat (vint 3)])], ⟨rfl, rfl, trivial⟩, ⟨rfl, rfl, trivial⟩, rfl, rfl, ⟨.inr ⟨_, _, rfl, rfl, tyS9⟩, .inr ⟨_, _, rfl, rfl, tyS34⟩, trivial⟩⟩
     ·replace H := iff_ h38 H
      refine awp_skip ?_
      refine awp_plain hN rfl ?_
      refine seq_run0 (stp_add rfl rfl (by omega)) ?_
      refine qd rfl ?_
      exact ⟨_, backl H, ⟨rfl, rfl, rfl, rfl, rfl, rfl, rfl, trivial⟩, ⟨rfl, rfl, rfl, rfl, trivial⟩⟩
theorem k_slices_Equal_L_api_Header_api_Header_ (s1 : (List S_api_Header)) (s2 : (List S_api_Header)) (r : (Bool)) (H : m_slices_Equal_L_api_Header_api_Header_ s1 s2 = some r) : Fn Tryz.prog 57 [vlst (List.map C_api_Header s1), vlst (List.map C_api_Header s2)] (resOf [vbool r]) := by
 refine ⟨by kernel_rfl, pure_of (us := [vbool r]) Tryz.func57 rfl rfl rfl rfl fun X hN => ?_⟩
 unfold m_slices_Equal_L_api_Header_api_Header_ at H
 refine awp_seq ?_
 refine awp_plain hN rfl ?_
 refine qe rfl ?_
 refine awp_seq ?_
 refine awp_seq ?_
 refine awp_plain hN rfl ?_
 refine qd rfl ?_
 refine seq_run0 (t_len tyU26 rfl) ?_
 refine qd rfl ?_
 refine seq_run0 (t_len tyU26 rfl) ?_
 refine seq_run0 (stp_neq rfl rfl) ?_
 refine awp_cond _ rfl (fun h3 => ?_) (fun h3 => ?_)
 ·replace H := ift h3 H
  refine awp_seq ?_
  refine awp_plain hN rfl ?_
  refine qe rfl ?_
  refine awp_ret ?_
  cases H
  exact ⟨trivial, .inl rfl, trivial⟩
 ·replace H := iff_ h3 H
  refine awp_skip ?_
  refine awp_seq ?_
  refine awp_seq ?_
  refine awp_plain hN rfl ?_
  refine qd rfl ?_
  refine seq_run0 (t_len tyU26 rfl) ?_
  refine qd rfl ?_
  refine awp_block ?_
  obtain ⟨h6, H⟩ := gif H
  refine awp_forL (fun (k4 : Nat) (s : Unit) => [(0, .dat (vlst (List.map C_api_Header s1))), (1, .dat (vlst (List.map C_api_Header s2))), (12, .dat (vint (s1.length : Int))), (13, .dat (vint (k4 : Int)))]) (fun (k4 : Nat) (s : Unit) => []) () H ⟨rfl, rfl, rfl, rfl, trivial⟩ trivial (fun _ _ => rfl) ?_ ?_
  ·rintro ⟨⟩ H
   replace H : slices_Equal_L_api_Header_api_Header__E1 = some r := H
   unfold slices_Equal_L_api_Header_api_Header__E1 at H
   refine awp_seq ?_
   refine awp_plain hN rfl ?_
   refine seq_run0 (stp_lss rfl rfl) ?_
   refine awp_seq ?_
   refine awp_cond _ rfl (fun h => (lt_t h).elim) (fun h => ?_)
   refine awp_exit ?_
   refine awp_seq ?_
   refine awp_plain hN rfl ?_
   refine qe rfl ?_
   refine awp_ret ?_
   cases H
   exact ⟨trivial, .inl rfl, trivial⟩
  ·rintro k4 x7 ⟨⟩ q5 h8 h9 H hq5
   replace H : slices_Equal_L_api_Header_api_Header__L1 s2 k4 x7 = some q5 := H
   unfold slices_Equal_L_api_Header_api_Header__L1 at H
   refine awp_seq ?_
   refine awp_plain hN rfl ?_
   refine seq_run0 (stp_lss rfl rfl) ?_
   refine awp_seq ?_
   refine awp_cond _ rfl (fun h => ?_) (fun h => (lt_f h8 h).elim)
   refine awp_skip ?_
   refine awp_seq ?_
   refine awp_block ?_
   refine awp_seq ?_
   refine awp_plain hN rfl ?_
   refine qd rfl ?_
   refine qe rfl ?_
   refine awp_seq ?_
   refine awp_draw mixed hN rfl rfl ?_
   refine qd rfl ?_
   refine qd rfl ?_
   refine seq_run0 (t_idx tyE26 (fun _ => rfl) rfl rfl h9) ?_
   refine seq_run0 (stp_loadEA tyS54 rfl (map_at h9) rfl) ?_
   refine qd rfl ?_
   refine qd rfl ?_
   obtain ⟨x10, h11, H⟩ := bnd H
   refine seq_run0 (t_idx tyE26 (fun _ => rfl) rfl rfl h11) ?_
   refine seq_run0 (stp_loadEA tyS54 rfl (map_at h11) rfl) ?_
   refine seq_run0 (stp_aneq [_, _] [_, _] tyQ54 rfl rfl rfl) ?_
   refine ⟨rfl, ?_⟩
   refine awp_cond _ rfl (fun h12 => ?_) (fun h12 => ?_)
   ·replace H := ift h12 H
    refine awp_seq ?_
    refine awp_plain hN rfl ?_
    refine qe rfl ?_
    refine awp_ret ?_
    replace H := retl H hq5
    cases H
    exact ⟨trivial, .inl rfl, trivial⟩
   ·replace H := iff_ h12 H
    refine awp_skip ?_
    refine awp_plain hN rfl ?_
    refine seq_run0 (stp_add rfl rfl (by omega)) ?_
    refine qd rfl ?_
    exact ⟨_, backl H, ⟨rfl, rfl, rfl, rfl, trivial⟩, trivial⟩
theorem k_gateref2_SameRequest (a1 : S_api_Request) (b2 : S_api_Request) (r : (Bool)) (H : m_gateref2_SameRequest a1 b2 = some r) : Fn Tryz.prog 12 [vagg (C_api_Request a1), vagg (C_api_Request b2)] (resOf [vbool r]) := by
 refine ⟨by kernel_rfl, pure_of (us := [vbool r]) Tryz.func12 rfl rfl rfl rfl fun X hN => ?_⟩
 unfold m_gateref2_SameRequest at H
 refine awp_seq ?_
 refine awp_plain hN rfl ?_
 refine seq_run2 (stp_boxA 1 rfl) rfl ?_
 refine seq_run2 (stp_boxA 2 rfl) rfl ?_
 refine qe rfl ?_
 refine awp_joinE (ι := Bool) (fun i => [(4, .dat (vbool i))]) (fun i => []) (fun i => gateref2_SameRequest_J1 i = some r) (fun i => rfl) ?_ ?_
 ·skip
  refine awp_plain hN rfl ?_
  refine seq_run0 (stp_fldP tyF28_0 rfl) ?_
  refine seq_run1 (stp_load1 tyS3 rfl rfl) rfl ?_
  refine seq_run0 (stp_fldP tyF28_0 rfl) ?_
  refine seq_run1 (stp_load1 tyS3 rfl rfl) rfl ?_
  refine seq_run0 (stp_eql rfl rfl) ?_
  refine qd rfl ?_
  refine seq_split (j := 5) rfl rfl (fun h3 => ?_) (fun h3 => ?_) rfl
  ·have h4 := un1 h3
   replace H := ift h4 H
   refine seq_g0 rfl rfl h3 (stp_fldP tyF28_1 rfl) ?_
   refine seq_g1 rfl rfl h3 (stp_load1 tyS9 rfl rfl) rfl ?_
   refine seq_g0 rfl rfl h3 (stp_fldP tyF28_1 rfl) ?_
   refine seq_g1 rfl rfl h3 (stp_load1 tyS9 rfl rfl) rfl ?_
   refine seq_g0 rfl rfl h3 (stp_seql rfl rfl) ?_
   refine seq_run0 (stp_pick_t rfl (bTT h4) rfl) ?_
   refine qd rfl ?_
   refine seq_split (j := 12) rfl rfl (fun h5 => ?_) (fun h5 => ?_) rfl
   ·have h6 := un1 h5
    replace H := ift h6 H
    refine seq_g0 rfl rfl h5 (stp_fldP tyF28_2 rfl) ?_
    refine seq_g1 rfl rfl h5 (stp_load1 tyS9 rfl rfl) rfl ?_
    refine seq_g0 rfl rfl h5 (stp_fldP tyF28_2 rfl) ?_
    refine seq_g1 rfl rfl h5 (stp_load1 tyS9 rfl rfl) rfl ?_
    refine seq_g0 rfl rfl h5 (stp_seql rfl rfl) ?_
    refine seq_run0 (stp_pick_t rfl (bTT h6) rfl) ?_
    refine qd rfl ?_
    refine seq_split (j := 19) rfl rfl (fun h7 => ?_) (fun h7 => ?_) rfl
    ·have h8 := un1 h7
     replace H := ift h8 H
     refine seq_g0 rfl rfl h7 (stp_fldP tyF28_3 rfl) ?_
     refine seq_g1 rfl rfl h7 (stp_load1 tyS9 rfl rfl) rfl ?_
     refine seq_g0 rfl rfl h7 (stp_fldP tyF28_3 rfl) ?_
     refine seq_g1 rfl rfl h7 (stp_load1 tyS9 rfl rfl) rfl ?_
     refine seq_g0 rfl rfl h7 (stp_seql rfl rfl) ?_
     refine seq_run0 (stp_pick_t rfl (bTT h8) rfl) ?_
     refine qd rfl ?_
     refine seq_split (j := 26) rfl rfl (fun h9 => ?_) (fun h9 => ?_) rfl
     ·have h10 := un1 h9
      replace H := ift h10 H
      refine seq_g0 rfl rfl h9 (stp_fldP tyF28_4 rfl) ?_
      refine seq_g1 rfl rfl h9 (stp_load1 tyS9 rfl rfl) rfl ?_
      refine seq_g0 rfl rfl h9 (stp_fldP tyF28_4 rfl) ?_
      refine seq_g1 rfl rfl h9 (stp_load1 tyS9 rfl rfl) rfl ?_
      refine seq_g0 rfl rfl h9 (stp_seql rfl rfl) ?_
      refine seq_run0 (stp_pick_t rfl (bTT h10) rfl) ?_
      refine qd rfl ?_
      refine seq_split (j := 33) rfl rfl (fun h11 => ?_) (fun h11 => ?_) rfl
      ·have h12 := un1 h11
       replace H := ift h12 H
       refine seq_g0 rfl rfl h11 (stp_fldP tyF28_5 rfl) ?_
       refine seq_g1 rfl rfl h11 (stp_load1 tyS9 rfl rfl) rfl ?_
       refine seq_g0 rfl rfl h11 (stp_fldP tyF28_5 rfl) ?_
       refine seq_g1 rfl rfl h11 (stp_load1 tyS9 rfl rfl) rfl ?_
       refine seq_g0 rfl rfl h11 (stp_seql rfl rfl) ?_
       refine seq_run0 (stp_pick_t rfl (bTT h12) rfl) ?_
       refine qd rfl ?_
       refine seq_split (j := 40) rfl rfl (fun h13 => ?_) (fun h13 => ?_) rfl
       ·have h14 := un1 h13
        replace H := ift h14 H
        refine seq_g0 rfl rfl h13 (stp_fldP tyF28_7 rfl) ?_
        refine seq_g1 rfl rfl h13 (stp_load1 tyS9 rfl rfl) rfl ?_
        refine seq_g0 rfl rfl h13 (stp_fldP tyF28_7 rfl) ?_
        refine seq_g1 rfl rfl h13 (stp_load1 tyS9 rfl rfl) rfl ?_
        refine seq_g0 rfl rfl h13 (stp_seql rfl rfl) ?_
        refine seq_run0 (stp_pick_t rfl (bTT h14) rfl) ?_
        refine qd rfl ?_
        refine seq_split (j := 47) rfl rfl (fun h15 => ?_) (fun h15 => ?_) rfl
        ·have h16 := un1 h15
         replace H := ift h16 H
         refine seq_g0 rfl rfl h15 (stp_fldP tyF28_6 rfl) ?_
         refine seq_g1 rfl rfl h15 (stp_load1 tyS26 rfl rfl) rfl ?_
         refine seq_g0 rfl rfl h15 (stp_fldP tyF28_6 rfl) ?_
         refine seq_g1 rfl rfl h15 (stp_load1 tyS26 rfl rfl) rfl ?_
         obtain ⟨r17, h18, H⟩ := bnd H
         refine seq_g0 rfl rfl h15 (stp_call (k_slices_Equal_L_api_Header_api_Header_ a1.Headers b2.Headers r17 h18) ⟨.inl rfl, .inl rfl, trivial⟩) ?_
         refine seq_run0 (stp_pick_t rfl (bTT h16) rfl) ?_
         refine qe rfl ?_
         exact ⟨r17, H, ⟨rfl, trivial⟩, trivial⟩
        ·have h19 := un2 h15
         replace H := iff_ h19 H
         refine seq_skip rfl rfl h15 ?_
         refine seq_skip rfl rfl h15 ?_
         refine seq_skip rfl rfl h15 ?_
         refine seq_skip rfl rfl h15 ?_
         refine seq_skip rfl rfl h15 ?_
         refine seq_run0 (stp_pick_f rfl (bFF h19) rfl) ?_
         refine qe rfl ?_
         exact ⟨false, H, ⟨rfl, trivial⟩, trivial⟩
       ·have h20 := un2 h13
        replace H := iff_ h20 H
        refine seq_skip rfl rfl h13 ?_
        refine seq_skip rfl rfl h13 ?_
        refine seq_skip rfl rfl h13 ?_
        refine seq_skip rfl rfl h13 ?_
        refine seq_skip rfl rfl h13 ?_
        refine seq_run0 (stp_pick_f rfl (bFF h20) rfl) ?_
        refine qd rfl ?_
        refine seq_skip rfl rfl rfl ?_
        refine seq_skip rfl rfl rfl ?_
        refine seq_skip rfl rfl rfl ?_
        refine seq_skip rfl rfl rfl ?_
        refine seq_skip rfl rfl rfl ?_
        refine seq_run0 (stp_pick_f rfl rfl rfl) ?_
        refine qe rfl ?_
        exact ⟨false, H, ⟨rfl, trivial⟩, trivial⟩
      ·have h21 := un2 h11
       replace H := iff_ h21 H
       refine seq_skip rfl rfl h11 ?_
       refine seq_skip rfl rfl h11 ?_
       refine seq_skip rfl rfl h11 ?_
       refine seq_skip rfl rfl h11 ?_
       refine seq_skip rfl rfl h11 ?_
       refine seq_run0 (stp_pick_f rfl (bFF h21) rfl) ?_
       refine qd rfl ?_
       refine seq_skip rfl rfl rfl ?_
       refine seq_skip rfl rfl rfl ?_
       refine seq_skip rfl rfl rfl ?_
       refine seq_skip rfl rfl rfl ?_
       refine seq_skip rfl rfl rfl ?_
       refine seq_run0 (stp_pick_f rfl rfl rfl) ?_
       refine qd rfl ?_
       refine seq_skip rfl rfl rfl ?_
       refine seq_skip rfl rfl rfl ?_
       refine seq_skip rfl rfl rfl ?_
       refine seq_skip rfl rfl rfl ?_
       refine seq_skip rfl rfl rfl ?_
       refine seq_run0 (stp_pick_f rfl rfl rfl) ?_
       refine qe rfl ?_
       exact ⟨false, H, ⟨rfl, trivial⟩, trivial⟩
     ·have h22 := un2 h9
      replace H := iff_ h22 H
      refine seq_skip rfl rfl h9 ?_
      refine seq_skip rfl rfl h9 ?_
      refine seq_skip rfl rfl h9 ?_
      refine seq_skip rfl rfl h9 ?_
      refine seq_skip rfl rfl h9 ?_
      refine seq_run0 (stp_pick_f rfl (bFF h22) rfl) ?_
      refine qd rfl ?_
      refine seq_skip rfl rfl rfl ?_
      refine seq_skip rfl rfl rfl ?_
      refine seq_skip rfl rfl rfl ?_
      refine seq_skip rfl rfl rfl ?_
      refine seq_skip rfl rfl rfl ?_
      refine seq_run0 (stp_pick_f rfl rfl rfl) ?_
      refine qd rfl ?_
      refine seq_skip rfl rfl rfl ?_
      refine seq_skip rfl rfl rfl ?_
      refine seq_skip rfl rfl rfl ?_
      refine seq_skip rfl rfl rfl ?_
      refine seq_skip rfl rfl rfl ?_
      refine seq_run0 (stp_pick_f rfl rfl rfl) ?_
      refine qd rfl ?_
      refine seq_skip rfl rfl rfl ?_
      refine seq_skip rfl rfl rfl ?_
      refine seq_skip rfl rfl rfl ?_
      refine seq_skip rfl rfl rfl ?_
      refine seq_skip rfl rfl rfl ?_
      refine seq_run0 (stp_pick_f rfl rfl rfl) ?_
      refine qe rfl ?_
      exact ⟨false, H, ⟨rfl, trivial⟩, trivial⟩
    ·have h23 := un2 h7
     replace H := iff_ h23 H
     refine seq_skip rfl rfl h7 ?_
     refine seq_skip rfl rfl h7 ?_
     refine seq_skip rfl rfl h7 ?_
     refine seq_skip rfl rfl h7 ?_
     refine seq_skip rfl rfl h7 ?_
     refine seq_run0 (stp_pick_f rfl (bFF h23) rfl) ?_
     refine qd rfl ?_
     refine seq_skip rfl rfl rfl ?_
     refine seq_skip rfl rfl rfl ?_
     refine seq_skip rfl rfl rfl ?_
     refine seq_skip rfl rfl rfl ?_
     refine seq_skip rfl rfl rfl ?_
     refine seq_run0 (stp_pick_f rfl rfl rfl) ?_
     refine qd rfl ?_
     refine seq_skip rfl rfl rfl ?_
     refine seq_skip rfl rfl rfl ?_
     refine seq_skip rfl rfl rfl ?_
     refine seq_skip rfl rfl rfl ?_
     refine seq_skip rfl rfl rfl ?_
     refine seq_run0 (stp_pick_f rfl rfl rfl) ?_
     refine qd rfl ?_
     refine seq_skip rfl rfl rfl ?_
     refine seq_skip rfl rfl rfl ?_
     refine seq_skip rfl rfl rfl ?_
     refine seq_skip rfl rfl rfl ?_
     refine seq_skip rfl rfl rfl ?_
     refine seq_run0 (stp_pick_f rfl rfl rfl) ?_
     refine qd rfl ?_
     refine seq_skip rfl rfl rfl ?_
     refine seq_skip rfl rfl rfl ?_
     refine seq_skip rfl rfl rfl ?_
     refine seq_skip rfl rfl rfl ?_
     refine seq_skip rfl rfl rfl ?_
     refine seq_run0 (stp_pick_f rfl rfl rfl) ?_
     refine qe rfl ?_
     exact ⟨false, H, ⟨rfl, trivial⟩, trivial⟩
   ·have h24 := un2 h5
    replace H := iff_ h24 H
    refine seq_skip rfl rfl h5 ?_
    refine seq_skip rfl rfl h5 ?_
    refine seq_skip rfl rfl h5 ?_
    refine seq_skip rfl rfl h5 ?_
    refine seq_skip rfl rfl h5 ?_
    refine seq_run0 (stp_pick_f rfl (bFF h24) rfl) ?_
    refine qd rfl ?_
    refine seq_skip rfl rfl rfl ?_
    refine seq_skip rfl rfl rfl ?_
    refine seq_skip rfl rfl rfl ?_
    refine seq_skip rfl rfl rfl ?_
    refine seq_skip rfl rfl rfl ?_
    refine seq_run0 (stp_pick_f rfl rfl rfl) ?_
    refine qd rfl ?_
    refine seq_skip rfl rfl rfl ?_
    refine seq_skip rfl rfl rfl ?_
    refine seq_skip rfl rfl rfl ?_
    refine seq_skip rfl rfl rfl ?_
    refine seq_skip rfl rfl rfl ?_
    refine seq_run0 (stp_pick_f rfl rfl rfl) ?_
    refine qd rfl ?_
    refine seq_skip rfl rfl rfl ?_
    refine seq_skip rfl rfl rfl ?_
    refine seq_skip rfl rfl rfl ?_
    refine seq_skip rfl rfl rfl ?_
    refine seq_skip rfl rfl rfl ?_
    refine seq_run0 (stp_pick_f rfl rfl rfl) ?_
    refine qd rfl ?_
    refine seq_skip rfl rfl rfl ?_
    refine seq_skip rfl rfl rfl ?_
    refine seq_skip rfl rfl rfl ?_
    refine seq_skip rfl rfl rfl ?_
    refine seq_skip rfl rfl rfl ?_
    refine seq_run0 (stp_pick_f rfl rfl rfl) ?_
    refine qd rfl ?_
    refine seq_skip rfl rfl rfl ?_
    refine seq_skip rfl rfl rfl ?_
    refine seq_skip rfl rfl rfl ?_
    refine seq_skip rfl rfl rfl ?_
    refine seq_skip rfl rfl rfl ?_
    refine seq_run0 (stp_pick_f rfl rfl rfl) ?_
    refine qe rfl ?_
    exact ⟨false, H, ⟨rfl, trivial⟩, trivial⟩
  ·have h25 := un2 h3
   replace H := iff_ h25 H
   refine seq_skip rfl rfl h3 ?_
   refine seq_skip rfl rfl h3 ?_
   refine seq_skip rfl rfl h3 ?_
   refine seq_skip rfl rfl h3 ?_
   refine seq_skip rfl rfl h3 ?_
   refine seq_run0 (stp_pick_f rfl (bFF h25) rfl) ?_
   refine qd rfl ?_
   refine seq_skip rfl rfl rfl ?_
   refine seq_skip rfl rfl rfl ?_
   refine seq_skip rfl rfl rfl ?_
   refine seq_skip rfl rfl rfl ?_
   refine seq_skip rfl rfl rfl ?_
   refine seq_run0 (stp_pick_f rfl rfl rfl) ?_
   refine qd rfl ?_
   refine seq_skip rfl rfl rfl ?_
   refine seq_skip rfl rfl rfl ?_
   refine seq_skip rfl rfl rfl ?_
   refine seq_skip rfl rfl rfl ?_
   refine seq_skip rfl rfl rfl ?_
   refine seq_run0 (stp_pick_f rfl rfl rfl) ?_
   refine qd rfl ?_
   refine seq_skip rfl rfl rfl ?_
   refine seq_skip rfl rfl rfl ?_
   refine seq_skip rfl rfl rfl ?_
   refine seq_skip rfl rfl rfl ?_
   refine seq_skip rfl rfl rfl ?_
   refine seq_run0 (stp_pick_f rfl rfl rfl) ?_
   refine qd rfl ?_
   refine seq_skip rfl rfl rfl ?_
   refine seq_skip rfl rfl rfl ?_
   refine seq_skip rfl rfl rfl ?_
   refine seq_skip rfl rfl rfl ?_
   refine seq_skip rfl rfl rfl ?_
   refine seq_run0 (stp_pick_f rfl rfl rfl) ?_
   refine qd rfl ?_
   refine seq_skip rfl rfl rfl ?_
   refine seq_skip rfl rfl rfl ?_
   refine seq_skip rfl rfl rfl ?_
   refine seq_skip rfl rfl rfl ?_
   refine seq_skip rfl rfl rfl ?_
   refine seq_run0 (stp_pick_f rfl rfl rfl) ?_
   refine qd rfl ?_
   refine seq_skip rfl rfl rfl ?_
   refine seq_skip rfl rfl rfl ?_
   refine seq_skip rfl rfl rfl ?_
   refine seq_skip rfl rfl rfl ?_
   refine seq_skip rfl rfl rfl ?_
   refine seq_run0 (stp_pick_f rfl rfl rfl) ?_
   refine qe rfl ?_
   exact ⟨false, H, ⟨rfl, trivial⟩, trivial⟩
 ·rintro v26 H
  replace H : gateref2_SameRequest_J1 v26 = some r := H
  unfold gateref2_SameRequest_J1 at H
  refine awp_ret ?_
  cases H
  exact ⟨trivial, .inl rfl, trivial⟩
theorem kb_strings_Builder_WriteByte (l1 : (List Int)) (c2 : Int) (r : (Int × (List Int))) (H : m_strings_Builder_WriteByte l1 c2 = some r) : FnG Tryz.prog 124 [.ptr 0 0, .dat (vval (.int .u8 c2))] [(0, .box (some 0) 80 [.nptr 0, .row 1 l1.length]), (1, .row 5 1 (List.map C_uint8 l1))] (.dat (resOf [verr r.1])) [(0, .box (some 0) 80 [.nptr 0, .row 900 r.2.length]), (900, .row 5 1 (List.map C_uint8 r.2))] := by
 refine fnG_of (by kernel_rfl) Tryz.func124 rfl rfl rfl rfl fun X A hN => ?_
 refine awp_cv ?_
 unfold m_strings_Builder_WriteByte at H
 refine awp_seq ?_
 refine awp_plain hN rfl ?_
 refine qe rfl ?_
 refine awp_seq ?_
 refine awp_plain hN rfl ?_
 refine seq_run0 (stp_move (.ptr _ _) rfl) ?_
 refine seq_run2 (stp_cc cc_prog rfl) rfl ?_
 refine awp_seq ?_
 refine awp_plain hN rfl ?_
 refine seq_run0 (stp_move (.ptr _ _) rfl) ?_
 refine seq_run0 (stp_move (.ptr _ _) rfl) ?_
 refine seq_run0 (stp_nilP rfl) ?_
 refine seq_run0 (stp_fldP tyF80_1 rfl) ?_
 refine seq_run1 (stp_load1 tyS78 rfl rfl) rfl ?_
 refine qd rfl ?_
 refine seq_run0 (stp_dat (u' := vlst (List.map C_uint8 [c2])) (stp_lit [[_]] tyL78 ⟨rfl, .inl ⟨_, rfl, rfl, rfl⟩, rfl, trivial⟩ rfl rfl) rfl) ?_
 obtain ⟨h3, H⟩ := gif H
 refine seq_run2 (t_app tyL78 (fun _ => rfl) rfl rfl rfl ⟨by simp, by first | (simp; done) | simpa using h3⟩ rfl) rfl ?_
 refine seq_run0 (stp_nilP rfl) ?_
 refine seq_run0 (stp_fldP tyF80_1 rfl) ?_
 refine seq_run4 (stp_storeS tyS78 rfl rfl (by rw [List.length_map]) rfl) rfl rfl ?_
 refine awp_seq ?_
 refine awp_plain hN rfl ?_
 refine qe rfl ?_
 refine awp_ret ?_
 cases H
 show Cv _ _ _ _
 refine cv_ren (rn [(1, 900)]) [(4, .dat (verr 0))] [(0, .box (some (A.bl 0)) 80 [.nptr 0, .row 1 ((l1 ++ [c2]).length)]), (1, .row 5 1 (List.map C_uint8 (l1 ++ [c2])))] ⟨rfl, trivial⟩ ⟨rfl, rfl, trivial⟩ rfl rfl ?_
 exact ⟨trivial, [(4, .dat (verr 0))], ⟨rfl, trivial⟩, ⟨rfl, rfl, trivial⟩, rfl, .inl ⟨[verr 0], ⟨rfl, trivial⟩, rfl⟩⟩
theorem k_message_isHex (c1 : Int) (r : (Bool)) (H : m_message_isHex c1 = some r) : Fn Tryz.prog 153 [vval (.int .u8 c1)] (resOf [vbool r]) := by
 refine ⟨by kernel_rfl, pure_of (us := [vbool r]) Tryz.func153 rfl rfl rfl rfl fun X hN => ?_⟩
 unfold m_message_isHex at H
 refine awp_seq ?_
 refine awp_plain hN rfl ?_
 refine qe rfl ?_
 refine awp_seq ?_
 refine awp_plain hN rfl ?_
 refine qd rfl ?_
 obtain ⟨r2, h3, H⟩ := bnd H
 refine seq_run0 (stp_call (k_message_isDigit c1 r2 h3) ⟨.inl rfl, trivial⟩) ?_
 refine qd rfl ?_
 refine seq_aF rfl rfl (fun hc => stp_move (.dat _) rfl) ?_
 refine seq_aF rfl rfl (fun hc => stp_geq (cnd (c := (!r2)) hc) rfl) ?_
 refine seq_aF rfl rfl (fun hc => stp_move (.dat _) (cnd (c := (!r2)) hc)) ?_
 refine seq_bT rfl rfl (fun hc => stp_move (.dat _) rfl) ?_
 refine seq_bT rfl rfl (fun hc => stp_leq (cnd (c := ((!r2) && (decide (97 ≤ c1)))) hc) rfl) ?_
 refine seq_aF rfl rfl (fun hc => stp_pick_and (cnd (c := (!r2)) hc) (fun hb => (cnd (c := ((!r2) && (decide (97 ≤ c1)))) (andI hc hb))) rfl) ?_
 refine seq_run0 (stp_pick_or rfl rfl (fun hb => (cnd (c := (!r2)) (notI hb)))) ?_
 refine qd rfl ?_
 refine seq_aF rfl rfl (fun hc => stp_move (.dat _) rfl) ?_
 refine seq_aF rfl rfl (fun hc => stp_geq (cnd (c := (!(r2 || ((decide (97 ≤ c1)) && (decide (c1 ≤ 102)))))) hc) rfl) ?_
 refine seq_aF rfl rfl (fun hc => stp_move (.dat _) (cnd (c := (!(r2 || ((decide (97 ≤ c1)) && (decide (c1 ≤ 102)))))) hc)) ?_
 refine seq_bT rfl rfl (fun hc => stp_move (.dat _) rfl) ?_
 refine seq_bT rfl rfl (fun hc => stp_leq (cnd (c := ((!(r2 || ((decide (97 ≤ c1)) && (decide (c1 ≤ 102))))) && (decide (65 ≤ c1)))) hc) rfl) ?_
 refine seq_aF rfl rfl (fun hc => stp_pick_and (cnd (c := (!(r2 || ((decide (97 ≤ c1)) && (decide (c1 ≤ 102)))))) hc) (fun hb => (cnd (c := ((!(r2 || ((decide (97 ≤ c1)) && (decide (c1 ≤ 102))))) && (decide (65 ≤ c1)))) (andI hc hb))) rfl) ?_
 refine seq_run0 (stp_pick_or rfl rfl (fun hb => (cnd (c := (!(r2 || ((decide (97 ≤ c1)) && (decide (c1 ≤ 102)))))) (notI hb)))) ?_
 refine qe rfl ?_
 refine awp_ret ?_
 cases H
 exact ⟨trivial, .inl rfl, trivial⟩
theorem k_message_isUnit (s1 : Bs) (v2 : Int) (r : (Bool)) (H : m_message_isUnit s1 v2 = some r) : Fn Tryz.prog 128 [vstr s1, vint v2] (resOf [vbool r]) := by
 refine ⟨by kernel_rfl, pure_of (us := [vbool r]) Tryz.func128 rfl rfl rfl rfl fun X hN => ?_⟩
 unfold m_message_isUnit at H
 refine awp_seq ?_
 refine awp_plain hN rfl ?_
 refine qe rfl ?_
 refine awp_joinE (ι := Bool) (fun i => [(4, .dat (vbool i))]) (fun i => []) (fun i => message_isUnit_J1 i = some r) (fun i => rfl) ?_ ?_
 ·skip
  refine awp_plain hN rfl ?_
  refine qd rfl ?_
  refine seq_run0 (stp_wrap _ rfl rfl (.inl ⟨rfl, rfl⟩)) ?_
  refine qd rfl ?_
  refine seq_run0 (stp_len_str tyU9 rfl) ?_
  refine seq_run0 (stp_lss rfl rfl) ?_
  refine qd rfl ?_
  refine seq_split (j := 5) rfl rfl (fun h3 => ?_) (fun h3 => ?_) rfl
  ·have h4 := un1 h3
   replace H := ift h4 H
   refine seq_g0 rfl rfl h3 (stp_move (.dat _) rfl) ?_
   refine seq_g0 rfl rfl h3 (stp_move (.dat _) rfl) ?_
   refine seq_g0 rfl rfl h3 (stp_wrap _ rfl rfl (.inl ⟨rfl, rfl⟩)) ?_
   obtain ⟨x5, h6, H⟩ := bnd H
   refine seq_g0 rfl rfl h3 (t_byteI tyU9 rfl rfl h6) ?_
   obtain ⟨r7, h8, H⟩ := bnd H
   refine seq_g0 rfl rfl h3 (stp_call (k_message_isHex (x5.toNat : Int) r7 h8) ⟨.inl rfl, trivial⟩) ?_
   refine seq_run0 (stp_pick_t rfl (bTT h4) rfl) ?_
   refine qd rfl ?_
   refine seq_split (j := 12) rfl rfl (fun h9 => ?_) (fun h9 => ?_) rfl
   ·have h10 := un1 h9
    replace H := ift h10 H
    refine seq_g0 rfl rfl h9 (stp_move (.dat _) rfl) ?_
    refine seq_g0 rfl rfl h9 (stp_move (.dat _) rfl) ?_
    refine seq_g0 rfl rfl h9 (stp_wrap _ rfl rfl (.inl ⟨rfl, rfl⟩)) ?_
    obtain ⟨x11, h12, H⟩ := bnd H
    refine seq_g0 rfl rfl h9 (t_byteI tyU9 rfl rfl h12) ?_
    obtain ⟨r13, h14, H⟩ := bnd H
    refine seq_g0 rfl rfl h9 (stp_call (k_message_isHex (x11.toNat : Int) r13 h14) ⟨.inl rfl, trivial⟩) ?_
    refine seq_run0 (stp_pick_t rfl (bTT h10) rfl) ?_
    refine qe rfl ?_
    exact ⟨r13, H, ⟨rfl, trivial⟩, trivial⟩
   ·have h15 := un2 h9
    replace H := iff_ h15 H
    refine seq_skip rfl rfl h9 ?_
    refine seq_skip rfl rfl h9 ?_
    refine seq_skip rfl rfl h9 ?_
    refine seq_skip rfl rfl h9 ?_
    refine seq_skip rfl rfl h9 ?_
    refine seq_run0 (stp_pick_f rfl (bFF h15) rfl) ?_
    refine qe rfl ?_
    exact ⟨false, H, ⟨rfl, trivial⟩, trivial⟩
  ·have h16 := un2 h3
   replace H := iff_ h16 H
   refine seq_skip rfl rfl h3 ?_
   refine seq_skip rfl rfl h3 ?_
   refine seq_skip rfl rfl h3 ?_
   refine seq_skip rfl rfl h3 ?_
   refine seq_skip rfl rfl h3 ?_
   refine seq_run0 (stp_pick_f rfl (bFF h16) rfl) ?_
   refine qd rfl ?_
   refine seq_skip rfl rfl rfl ?_
   refine seq_skip rfl rfl rfl ?_
   refine seq_skip rfl rfl rfl ?_
   refine seq_skip rfl rfl rfl ?_
   refine seq_skip rfl rfl rfl ?_
   refine seq_run0 (stp_pick_f rfl rfl rfl) ?_
   refine qe rfl ?_
   exact ⟨false, H, ⟨rfl, trivial⟩, trivial⟩
 ·rintro v17 H
  replace H : message_isUnit_J1 v17 = some r := H
  unfold message_isUnit_J1 at H
  refine awp_ret ?_
  cases H
  exact ⟨trivial, .inl rfl, trivial⟩
theorem k_strconv_ParseUint (s1 : Bs) (base2 : Int) (bitSize3 : Int) (r : (Int × Int)) (H : m_strconv_ParseUint s1 base2 bitSize3 = some r) : Fn Tryz.prog 154 [vstr s1, vint base2, vint bitSize3] (resOf [vval (.int .u64 r.1), verr r.2]) := by
 refine ⟨by kernel_rfl, pure_of (us := [vval (.int .u64 r.1), verr r.2]) Tryz.func154 rfl rfl rfl rfl fun X hN => ?_⟩
 unfold m_strconv_ParseUint at H
 refine awp_seq ?_
 refine awp_plain hN rfl ?_
 refine qe rfl ?_
 refine qe rfl ?_
 refine awp_seq ?_
 refine awp_plain hN rfl ?_
 refine qd rfl ?_
 refine qd rfl ?_
 refine qd rfl ?_
 obtain ⟨r4, h5, H⟩ := bnd H
 refine seq_run0 (stp_call (k_internal_strconv_ParseUint s1 base2 bitSize3 r4 h5) ⟨.inl rfl, .inl rfl, .inl rfl, trivial⟩) ?_
 refine qd rfl ?_
 refine seq_run0 (stp_ext rfl rfl) ?_
 refine seq_run0 (stp_ext rfl rfl) ?_
 refine qe rfl ?_
 refine qe rfl ?_
 refine awp_seq ?_
 refine awp_seq ?_
 refine awp_plain hN rfl ?_
 refine qd rfl ?_
 refine seq_run0 (stp_errneq (n := r4.2) (show Tryz.prog.underlying 83 = some (.interface (Tryz.prog.methodsAt 83)) from by kernel_rfl) rfl) ?_
 refine awp_cond _ rfl (fun h6 => ?_) (fun h6 => ?_)
 ·replace H := ift h6 H
  refine awp_seq ?_
  refine awp_plain hN rfl ?_
  refine qd rfl ?_
  refine qd rfl ?_
  refine qd rfl ?_
  refine qd rfl ?_
  refine qd rfl ?_
  obtain ⟨r7, h8, H⟩ := bnd H
  refine seq_run0 (stp_call (k_strconv_toError [80, 97, 114, 115, 101, 85, 105, 110, 116] s1 base2 bitSize3 r4.2 r7 h8) ⟨.inl rfl, .inl rfl, .inl rfl, .inl rfl, .inl rfl, trivial⟩) ?_
  refine qe rfl ?_
  refine qe rfl ?_
  refine awp_ret ?_
  cases H
  exact ⟨trivial, .inl rfl, .inl rfl, trivial⟩
 ·replace H := iff_ h6 H
  refine awp_skip ?_
  refine awp_seq ?_
  refine awp_plain hN rfl ?_
  refine qd rfl ?_
  refine qe rfl ?_
  refine qe rfl ?_
  refine awp_ret ?_
  cases H
  exact ⟨trivial, .inl rfl, .inl rfl, trivial⟩
theorem k_message_unit (s1 : Bs) (v2 : Int) (r : (Int)) (H : m_message_unit s1 v2 = some r) : Fn Tryz.prog 129 [vstr s1, vint v2] (resOf [vval (.int .u8 r)]) := by
 refine ⟨by kernel_rfl, pure_of (us := [vval (.int .u8 r)]) Tryz.func129 rfl rfl rfl rfl fun X hN => ?_⟩
 unfold m_message_unit at H
 refine awp_seq ?_
 refine awp_plain hN rfl ?_
 refine qe rfl ?_
 refine awp_seq ?_
 refine awp_plain hN rfl ?_
 refine qd rfl ?_
 refine qd rfl ?_
 refine seq_run0 (stp_wrap _ rfl rfl (.inl ⟨rfl, rfl⟩)) ?_
 refine qd rfl ?_
 refine seq_run0 (stp_wrap _ rfl rfl (.inl ⟨rfl, rfl⟩)) ?_
 obtain ⟨l3, h4, H⟩ := bnd H
 refine seq_run0 (t_subS tyU9 rfl rfl rfl h4) ?_
 obtain ⟨r5, h6, H⟩ := bnd H
 refine seq_run0 (stp_call (k_strconv_ParseUint l3 16 8 r5 h6) ⟨.inl rfl, .inl rfl, .inl rfl, trivial⟩) ?_
 refine qd rfl ?_
 refine seq_run0 (stp_ext rfl rfl) ?_
 refine seq_run0 (stp_ext rfl rfl) ?_
 refine qe rfl ?_
 refine qe rfl ?_
 refine awp_seq ?_
 refine awp_seq ?_
 refine awp_plain hN rfl ?_
 refine qd rfl ?_
 refine seq_run0 (stp_errneq (n := r5.2) (show Tryz.prog.underlying 83 = some (.interface (Tryz.prog.methodsAt 83)) from by kernel_rfl) rfl) ?_
 refine awp_cond _ rfl (fun h7 => ?_) (fun h7 => ?_)
 ·replace H := ift h7 H
  refine awp_seq ?_
  refine awp_plain hN rfl ?_
  refine qe rfl ?_
  refine awp_ret ?_
  cases H
  exact ⟨trivial, .inl rfl, trivial⟩
 ·replace H := iff_ h7 H
  refine awp_skip ?_
  refine awp_seq ?_
  refine awp_plain hN rfl ?_
  refine qd rfl ?_
  refine seq_run0 (stp_conv tyU107 tyU5 rfl) ?_
  refine qe rfl ?_
  refine awp_ret ?_
  cases H
  exact ⟨trivial, .inl rfl, trivial⟩
theorem k_message_isFree (c1 : Int) (r : (Bool)) (H : m_message_isFree c1 = some r) : Fn Tryz.prog 130 [vval (.int .u8 c1)] (resOf [vbool r]) := by
 refine ⟨by kernel_rfl, pure_of (us := [vbool r]) Tryz.func130 rfl rfl rfl rfl fun X hN => ?_⟩
 unfold m_message_isFree at H
 refine awp_seq ?_
 refine awp_plain hN rfl ?_
 refine qe rfl ?_
 refine awp_joinE (ι := Bool) (fun i => [(2, .dat (vbool i))]) (fun i => []) (fun i => message_isFree_J1 i = some r) (fun i => rfl) ?_ ?_
 ·skip
  refine awp_plain hN rfl ?_
  refine qd rfl ?_
  obtain ⟨r2, h3, H⟩ := bnd H
  refine seq_run0 (stp_call (k_message_isLetter c1 r2 h3) ⟨.inl rfl, trivial⟩) ?_
  refine qd rfl ?_
  refine seq_split (j := 2) rfl rfl (fun h4 => ?_) (fun h4 => ?_) rfl
  ·have h5 := un3 h4
   replace H := iff_ h5 H
   refine seq_g0 rfl rfl h4 (stp_move (.dat _) rfl) ?_
   obtain ⟨r6, h7, H⟩ := bnd H
   refine seq_g0 rfl rfl h4 (stp_call (k_message_isDigit c1 r6 h7) ⟨.inl rfl, trivial⟩) ?_
   refine seq_run0 (stp_pick_f rfl (bFF h5) rfl) ?_
   refine qd rfl ?_
   refine seq_split (j := 6) rfl rfl (fun h8 => ?_) (fun h8 => ?_) rfl
   ·have h9 := un3 h8
    replace H := iff_ h9 H
    refine seq_g0 rfl rfl h8 (stp_move (.dat _) rfl) ?_
    obtain ⟨r10, h11, H⟩ := bnd H
    refine seq_g0 rfl rfl h8 (stp_call (k_strings_IndexByte [45, 46, 95, 126] c1 r10 h11) ⟨.inl rfl, .inl rfl, trivial⟩) ?_
    refine seq_g0 rfl rfl h8 (stp_geq rfl rfl) ?_
    refine seq_run0 (stp_pick_f rfl (bFF h9) rfl) ?_
    refine qe rfl ?_
    exact ⟨decide (0 ≤ r10), H, ⟨rfl, trivial⟩, trivial⟩
   ·have h12 := un4 h8
    replace H := ift h12 H
    refine seq_skip rfl rfl h8 ?_
    refine seq_skip rfl rfl h8 ?_
    refine seq_skip rfl rfl h8 ?_
    refine seq_run0 (stp_pick_t rfl (bTT h12) rfl) ?_
    refine qe rfl ?_
    exact ⟨true, H, ⟨rfl, trivial⟩, trivial⟩
  ·have h13 := un4 h4
   replace H := ift h13 H
   refine seq_skip rfl rfl h4 ?_
   refine seq_skip rfl rfl h4 ?_
   refine seq_run0 (stp_pick_t rfl (bTT h13) rfl) ?_
   refine qd rfl ?_
   refine seq_skip rfl rfl rfl ?_
   refine seq_skip rfl rfl rfl ?_
   refine seq_skip rfl rfl rfl ?_
   refine seq_run0 (stp_pick_t rfl rfl rfl) ?_
   refine qe rfl ?_
   exact ⟨true, H, ⟨rfl, trivial⟩, trivial⟩
 ·rintro v14 H
  replace H : message_isFree_J1 v14 = some r := H
  unfold message_isFree_J1 at H
  refine awp_ret ?_
  cases H
  exact ⟨trivial, .inl rfl, trivial⟩
theorem k_message_percent (c1 : Int) (r : (Bs)) (H : m_message_percent c1 = some r) : Fn Tryz.prog 131 [vval (.int .u8 c1)] (resOf [vstr r]) := by
 refine ⟨by kernel_rfl, pure_of (us := [vstr r]) Tryz.func131 rfl rfl rfl rfl fun X hN => ?_⟩
 unfold m_message_percent at H
 refine awp_seq ?_
 refine awp_plain hN rfl ?_
 refine qe rfl ?_
 refine awp_seq ?_
 refine awp_draw mixed hN rfl rfl ?_
 refine qd rfl ?_
 refine seq_run0 (stp_dat (stp_shr rfl rfl (by decide)) rfl) ?_
 obtain ⟨x2, h3, H⟩ := bnd H
 refine seq_run0 (t_byteK tyU9 rfl rfl h3) ?_
 refine qd rfl ?_
 refine seq_run0 (stp_dat (stp_and rfl rfl) rfl) ?_
 obtain ⟨x4, h5, H⟩ := bnd H
 refine seq_run0 (t_byteK tyU9 rfl rfl h5) ?_
 refine seq_run0 (stp_dat (u' := vlst (List.map C_uint8 [37, (x2.toNat : Int), (x4.toNat : Int)])) (stp_lit [[_], [_], [_]] tyL78 ⟨rfl, .inl ⟨_, rfl, rfl, rfl⟩, rfl, rfl, .inl ⟨_, rfl, rfl, rfl⟩, rfl, rfl, .inl ⟨_, rfl, rfl, rfl⟩, rfl, trivial⟩ rfl rfl) rfl) ?_
 refine seq_run0 (stp_convB (C := C_uint8) tyU78 tyU5 tyU9 (fun _ => rfl) rfl) ?_
 refine qe rfl ?_
 refine ⟨rfl, ?_⟩
 refine awp_ret ?_
 cases H
 exact ⟨trivial, .inl rfl, trivial⟩
theorem kb_strings_Builder_WriteString (l1 : (List Int)) (s2 : Bs) (r : (Int × Int × (List Int))) (H : m_strings_Builder_WriteString l1 s2 = some r) : FnG Tryz.prog 67 [.ptr 0 0, .dat (vstr s2)] [(0, .box (some 0) 80 [.nptr 0, .row 1 l1.length]), (1, .row 5 1 (List.map C_uint8 l1))] (.dat (resOf [vint r.1, verr r.2.1])) [(0, .box (some 0) 80 [.nptr 0, .row 900 r.2.2.length]), (900, .row 5 1 (List.map C_uint8 r.2.2))] := by
 refine fnG_of (by kernel_rfl) Tryz.func67 rfl rfl rfl rfl fun X A hN => ?_
 refine awp_cv ?_
 unfold m_strings_Builder_WriteString at H
 refine awp_seq ?_
 refine awp_plain hN rfl ?_
 refine qe rfl ?_
 refine qe rfl ?_
 refine awp_seq ?_
 refine awp_plain hN rfl ?_
 refine seq_run0 (stp_move (.ptr _ _) rfl) ?_
 refine seq_run2 (stp_cc cc_prog rfl) rfl ?_
 refine awp_seq ?_
 refine awp_plain hN rfl ?_
 refine seq_run0 (stp_move (.ptr _ _) rfl) ?_
 refine seq_run0 (stp_move (.ptr _ _) rfl) ?_
 refine seq_run0 (stp_nilP rfl) ?_
 refine seq_run0 (stp_fldP tyF80_1 rfl) ?_
 refine seq_run1 (stp_load1 tyS78 rfl rfl) rfl ?_
 refine qd rfl ?_
 obtain ⟨h3, H⟩ := gif H
 refine seq_run2 (t_appS (C := C_uint8) (fun _ => rfl) (show tyB8 Tryz.prog 78 9 5 from ⟨by kernel_rfl, by kernel_rfl, by kernel_rfl⟩) rfl rfl rfl h3) rfl ?_
 refine seq_run0 (stp_nilP rfl) ?_
 refine seq_run0 (stp_fldP tyF80_1 rfl) ?_
 refine seq_run4 (stp_storeS tyS78 rfl rfl (by rw [List.length_map]) rfl) rfl rfl ?_
 refine awp_seq ?_
 refine awp_plain hN rfl ?_
 refine qd rfl ?_
 refine seq_run0 (stp_len_str tyU9 rfl) ?_
 refine qe rfl ?_
 refine qe rfl ?_
 refine awp_ret ?_
 cases H
 show Cv _ _ _ _
 refine cv_ren (rn [(1, 900)]) [(4, .dat (vint (s2.length : Int))), (5, .dat (verr 0))] [(0, .box (some (A.bl 0)) 80 [.nptr 0, .row 1 ((l1 ++ numsB s2).length)]), (1, .row 5 1 (List.map C_uint8 (l1 ++ numsB s2)))] ⟨rfl, rfl, trivial⟩ ⟨rfl, rfl, trivial⟩ rfl rfl ?_
 exact ⟨trivial, [(4, .dat (vint (s2.length : Int))), (5, .dat (verr 0))], ⟨rfl, rfl, trivial⟩, ⟨rfl, rfl, trivial⟩, rfl, .inl ⟨[vint (s2.length : Int), verr 0], ⟨rfl, rfl, trivial⟩, rfl⟩⟩
end Go.Proofs.YtgjfcdcpiamikaaGreatDoor
