/- Walks along the models. Printed by a program. -/
import Derived.Test.YtloinbpihpcblaaGreatDoorZaw3
namespace Go.Proofs.YtloinbpihpcblaaGreatDoor
open Go.RowKit
set_option linter.unusedVariables false
set_option maxRecDepth 20000
set_option maxHeartbeats 2000000
theorem k_portal_Text (l1 : (List S_api_Event)) (r : (Bs × Int)) (H : m_portal_Text l1 = some r) : Fn Tryz.prog 8 [vlst (List.map C_api_Event l1)] (resOf [vstr r.1, vint r.2]) := by
 refine ⟨by kernel_rfl, pure_of (us := [vstr r.1, vint r.2]) Tryz.func8 rfl rfl rfl rfl fun X hN => ?_⟩
 unfold m_portal_Text at H
 refine awp_seq ?_
 refine awp_plain hN rfl ?_
 refine qe rfl ?_
 refine qe rfl ?_
 refine awp_seq ?_
 refine awp_seq ?_
 refine awp_plain hN rfl ?_
 refine qd rfl ?_
 obtain ⟨r2, h3, H⟩ := bnd H
 refine seq_run0 (stp_call (k_portal_formFault l1 r2 h3) ⟨.inl rfl, trivial⟩) ?_
 refine qe rfl ?_
 refine awp_seq ?_
 refine awp_plain hN rfl ?_
 refine qd rfl ?_
 refine seq_run0 (stp_neq rfl rfl) ?_
 refine awp_cond _ rfl (fun h4 => ?_) (fun h4 => ?_)
 ·replace H := ift h4 H
  refine awp_seq ?_
  refine awp_plain hN rfl ?_
  refine qd rfl ?_
  refine qe rfl ?_
  refine qe rfl ?_
  refine awp_ret ?_
  cases H
  exact ⟨trivial, .inl rfl, .inl rfl, trivial⟩
 ·replace H := iff_ h4 H
  refine awp_skip ?_
  refine awp_seq ?_
  refine awp_plain hN rfl ?_
  refine seq_run2 (stp_alloc 1 tyZ78 rfl) rfl ?_
  refine awp_wkB 1 0 (.nptr 1) rfl rfl nptr_nil ?_
  refine awp_nilrowB 1 1 2 5 1 rfl rfl rfl rfl ?_
  refine awp_seq ?_
  refine awp_seq ?_
  refine awp_plain hN rfl ?_
  refine qd rfl ?_
  refine seq_run0 (t_len tyU26 rfl) ?_
  refine qd rfl ?_
  refine awp_block ?_
  obtain ⟨h8, H⟩ := gif H
  refine awp_forL (fun (k6 : Nat) (s : (List Int)) => [(5, .ptr 1 0), (13, .dat (vlst (List.map C_api_Event l1))), (14, .dat (vint (l1.length : Int))), (15, .dat (vint (k6 : Int)))]) (fun (k6 : Nat) (s : (List Int)) => [(1, .box none 78 [.nptr 1, .row 2 s.length]), (2, .row 5 1 (List.map C_uint8 s))]) ([] : List Int) H ⟨rfl, rfl, rfl, rfl, trivial⟩ ⟨rfl, rfl, trivial⟩ (fun _ _ => rfl) ?_ ?_
  ·rintro l5 H
   replace H : portal_Text_E1 l5 = some r := H
   unfold portal_Text_E1 at H
   refine awp_seq ?_
   refine awp_plain hN rfl ?_
   refine seq_run0 (stp_lss rfl rfl) ?_
   refine awp_seq ?_
   refine awp_cond _ rfl (fun h => (lt_t h).elim) (fun h => ?_)
   refine awp_exit ?_
   refine awp_seq ?_
   refine awp_plain hN rfl ?_
   obtain ⟨h10, H⟩ := gif H
   refine seq_callG (rn [(0, 1), (1, 2)]) [(0, _, _, none), (1, _, _, none)] [] (kbs_String h10 (C := C_uint8) (fun _ => rfl)) ⟨rfl, rfl, trivial⟩ ⟨.inl (.inl rfl), trivial⟩ ⟨⟨⟨rfl, rfl⟩, trivial⟩, ⟨⟨rfl, rfl, rfl⟩, trivial⟩, trivial⟩ rfl ?_
   refine qe rfl ?_
   refine qe rfl ?_
   refine awp_ret ?_
   cases H
   exact ⟨trivial, .inl rfl, .inl rfl, trivial⟩
  ·rintro k6 x9 l5 q7 h11 h12 H hq7
   replace H : portal_Text_L1 k6 x9 l5 = some q7 := H
   unfold portal_Text_L1 at H
   refine awp_cv ?_
   refine awp_seq ?_
   refine awp_plain hN rfl ?_
   refine seq_run0 (stp_lss rfl rfl) ?_
   refine awp_seq ?_
   refine awp_cond _ rfl (fun h => ?_) (fun h => (lt_f h11 h).elim)
   refine awp_skip ?_
   refine awp_seq ?_
   refine awp_block ?_
   refine awp_seq ?_
   refine awp_plain hN rfl ?_
   refine seq_run0 (t_idx tyE26 (fun _ => rfl) rfl rfl h12) ?_
   refine seq_run0 (stp_loadEA tyS46 rfl (map_at h12) rfl) ?_
   refine seq_run2 (stp_alloc 3 tyZ46 rfl) rfl ?_
   refine seq_run2 (stp_storeW tyS46 rfl rfl rfl rfl) rfl ?_
   refine awp_seq ?_
   refine awp_draw mixed hN rfl rfl ?_
   refine seq_run0 (stp_fldP tyF46_0 rfl) ?_
   refine seq_run1 (stp_load1 tyS3 rfl rfl) rfl ?_
   obtain ⟨r13, h14, H⟩ := bnd H
   refine seq_run0 (stp_call (k_strconv_Itoa x9.At r13 h14) ⟨.inl rfl, trivial⟩) ?_
   obtain ⟨h15, H⟩ := gif H
   refine seq_run0 (stp_sadd rfl rfl (Nat.le_trans h15 (by decide))) ?_
   refine seq_run0 (stp_fldP tyF46_1 rfl) ?_
   refine seq_run1 (stp_load1 tyS9 rfl rfl) rfl ?_
   obtain ⟨h16, H⟩ := gif H
   refine seq_run0 (stp_sadd rfl rfl (Nat.le_trans h16 (by decide))) ?_
   obtain ⟨h17, H⟩ := gif H
   refine seq_run0 (stp_sadd rfl rfl (Nat.le_trans h17 (by decide))) ?_
   refine seq_run0 (stp_fldP tyF46_2 rfl) ?_
   refine seq_run1 (stp_load1 tyS9 rfl rfl) rfl ?_
   obtain ⟨h18, H⟩ := gif H
   refine seq_run0 (stp_sadd rfl rfl (Nat.le_trans h18 (by decide))) ?_
   obtain ⟨h19, H⟩ := gif H
   refine seq_run0 (stp_sadd rfl rfl (Nat.le_trans h19 (by decide))) ?_
   obtain ⟨r20, h21, H⟩ := bnd H
   refine seq_run0 (stp_call (k_portal_kindWords  r20 h21) trivial) ?_
   refine seq_run0 (stp_fldP tyF46_3 rfl) ?_
   refine seq_run1 (stp_load1 tyS3 rfl rfl) rfl ?_
   obtain ⟨x22, h23, H⟩ := bnd H
   refine seq_run0 (t_idxI tyE55 (fun _ => rfl) rfl rfl h23) ?_
   refine seq_run0 (stp_loadE1 tyS9 rfl (map_at (at_some h23).2) rfl) ?_
   obtain ⟨h24, H⟩ := gif H
   refine seq_run0 (stp_sadd rfl rfl (Nat.le_trans h24 (by decide))) ?_
   obtain ⟨r25, h26, H⟩ := bnd H
   refine seq_callG (rn [(0, 1), (1, 2), (900, 4)]) [(0, _, _, some _), (1, _, _, none)] [(900, _)] (kb_strings_Builder_WriteString l5 ((((((r13 ++ [32]) ++ x9.App) ++ [32]) ++ x9.Product) ++ [32]) ++ x22) r25 h26) ⟨rfl, rfl, rfl, trivial⟩ ⟨.inl (.inl rfl), .inl (.inl rfl), trivial⟩ ⟨⟨⟨rfl, rfl⟩, trivial⟩, ⟨⟨rfl, rfl, rfl⟩, trivial⟩, trivial⟩ rfl ?_
   refine ⟨rfl, ?_⟩
   refine awp_joinE (ι := (List Int)) (fun i => [(5, .ptr 1 0), (13, .dat (vlst (List.map C_api_Event l1))), (14, .dat (vint (l1.length : Int))), (15, .dat (vint (k6 : Int)))]) (fun i => [(1, .box none 78 [.nptr 1, .row 6 i.length]), (6, .row 5 1 (List.map C_uint8 i))]) (fun i => portal_Text_J2 i = some q7) (fun i => rfl) ?_ ?_
   ·refine awp_cv ?_
    refine awp_seq ?_
    refine awp_plain hN rfl ?_
    refine seq_run0 (stp_fldP tyF46_3 rfl) ?_
    refine seq_run1 (stp_load1 tyS3 rfl rfl) rfl ?_
    refine seq_run0 (stp_eql rfl rfl) ?_
    refine awp_cond _ rfl (fun h27 => ?_) (fun h27 => ?_)
    ·replace H := ift h27 H
     refine awp_plain hN rfl ?_
     refine seq_run0 (stp_fldP tyF46_4 rfl) ?_
     refine seq_run1 (stp_load1 tyS9 rfl rfl) rfl ?_
     obtain ⟨h28, H⟩ := gif H
     refine seq_run0 (stp_sadd rfl rfl (Nat.le_trans h28 (by decide))) ?_
     obtain ⟨r29, h30, H⟩ := bnd H
     refine seq_callG (rn [(0, 1), (1, 4), (900, 5)]) [(0, _, _, some _), (1, _, _, none)] [(900, _)] (kb_strings_Builder_WriteString r25.2.2 ([32] ++ x9.Plan) r29 h30) ⟨rfl, rfl, rfl, trivial⟩ ⟨.inl (.inl rfl), .inl (.inl rfl), trivial⟩ ⟨⟨⟨rfl, rfl⟩, trivial⟩, ⟨⟨rfl, rfl, rfl⟩, trivial⟩, trivial⟩ rfl ?_
     refine seq_end ?_
     show Cv _ _ _ _
     refine cv_ren (rn [(5, 6)]) [(5, .ptr 1 0), (13, .dat (vlst (List.map C_api_Event l1))), (14, .dat (vint (l1.length : Int))), (15, .dat (vint (k6 : Int)))] [(1, .box none 78 [.nptr 1, .row 5 r29.2.2.length]), (5, .row 5 1 (List.map C_uint8 r29.2.2))] ⟨rfl, rfl, rfl, rfl, trivial⟩ ⟨rfl, rfl, trivial⟩ rfl rfl ?_
     exact ⟨r29.2.2, H, ⟨rfl, rfl, rfl, rfl, trivial⟩, ⟨rfl, rfl, trivial⟩⟩
    ·replace H := iff_ h27 H
     refine awp_skip ?_
     show Cv _ _ _ _
     refine cv_ren (rn [(4, 6)]) [(5, .ptr 1 0), (13, .dat (vlst (List.map C_api_Event l1))), (14, .dat (vint (l1.length : Int))), (15, .dat (vint (k6 : Int)))] [(1, .box none 78 [.nptr 1, .row 4 r25.2.2.length]), (4, .row 5 1 (List.map C_uint8 r25.2.2))] ⟨rfl, rfl, rfl, rfl, trivial⟩ ⟨rfl, rfl, trivial⟩ rfl rfl ?_
     exact ⟨r25.2.2, H, ⟨rfl, rfl, rfl, rfl, trivial⟩, ⟨rfl, rfl, trivial⟩⟩
   ·rintro l31 H
    replace H : portal_Text_J2 l31 = some q7 := H
    unfold portal_Text_J2 at H
    refine awp_plain hN rfl ?_
    obtain ⟨r32, h33, H⟩ := bnd H
    refine seq_callG (rn [(0, 1), (1, 6), (900, 7)]) [(0, _, _, some _), (1, _, _, none)] [(900, _)] (kb_strings_Builder_WriteByte l31 10 r32 h33) ⟨rfl, rfl, rfl, trivial⟩ ⟨.inl (.inl rfl), .inl (.inl rfl), trivial⟩ ⟨⟨⟨rfl, rfl⟩, trivial⟩, ⟨⟨rfl, rfl, rfl⟩, trivial⟩, trivial⟩ rfl ?_
    refine awp_plain hN rfl ?_
    refine seq_run0 (stp_add rfl rfl (by omega)) ?_
    refine qd rfl ?_
    refine seq_end ?_
    show Cv _ _ _ _
    refine cv_ren (rn [(7, 2)]) [(5, .ptr 1 0), (13, .dat (vlst (List.map C_api_Event l1))), (14, .dat (vint (l1.length : Int))), (15, .dat (vint ((k6 : Int) + 1)))] [(1, .box none 78 [.nptr 1, .row 7 r32.2.length]), (7, .row 5 1 (List.map C_uint8 r32.2))] ⟨rfl, rfl, rfl, rfl, trivial⟩ ⟨rfl, rfl, trivial⟩ rfl rfl ?_
    exact ⟨_, backl H, ⟨rfl, rfl, rfl, rfl, trivial⟩, ⟨rfl, rfl, trivial⟩⟩
theorem k_gateref2_Moment (v1 : Int) (r : (Bool)) (H : m_gateref2_Moment v1 = some r) : Fn Tryz.prog 38 [vint v1] (resOf [vbool r]) := by
 refine ⟨by kernel_rfl, pure_of (us := [vbool r]) Tryz.func38 rfl rfl rfl rfl fun X hN => ?_⟩
 unfold m_gateref2_Moment at H
 refine awp_seq ?_
 refine awp_plain hN rfl ?_
 refine qe rfl ?_
 refine awp_seq ?_
 refine awp_plain hN rfl ?_
 refine qd rfl ?_
 obtain ⟨r2, h3, H⟩ := bnd H
 refine seq_run0 (stp_call (k_gateref2_in v1 0 345686399999 r2 h3) ⟨.inl rfl, .inl rfl, .inl rfl, trivial⟩) ?_
 refine qe rfl ?_
 refine awp_ret ?_
 cases H
 exact ⟨trivial, .inl rfl, trivial⟩
theorem k_gateref2_EventForm (v1 : (List S_api_Event)) (r : (Int)) (H : m_gateref2_EventForm v1 = some r) : Fn Tryz.prog 9 [vlst (List.map C_api_Event v1)] (resOf [vint r]) := by
 refine ⟨by kernel_rfl, pure_of (us := [vint r]) Tryz.func9 rfl rfl rfl rfl fun X hN => ?_⟩
 unfold m_gateref2_EventForm at H
 refine awp_seq ?_
 refine awp_plain hN rfl ?_
 refine qe rfl ?_
 refine awp_seq ?_
 refine awp_seq ?_
 refine awp_plain hN rfl ?_
 refine qd rfl ?_
 refine seq_run0 (t_len tyU26 rfl) ?_
 refine seq_run0 (stp_gtr rfl rfl) ?_
 refine awp_cond _ rfl (fun h2 => ?_) (fun h2 => ?_)
 ·replace H := ift h2 H
  refine awp_seq ?_
  refine awp_plain hN rfl ?_
  refine qe rfl ?_
  refine awp_ret ?_
  cases H
  exact ⟨trivial, .inl rfl, trivial⟩
 ·replace H := iff_ h2 H
  refine awp_skip ?_
  refine awp_seq ?_
  refine awp_seq ?_
  refine awp_plain hN rfl ?_
  refine qd rfl ?_
  refine seq_run0 (t_len tyU26 rfl) ?_
  refine qd rfl ?_
  refine awp_block ?_
  obtain ⟨h5, H⟩ := gif H
  refine awp_forL (fun (k3 : Nat) (s : Unit) => [(0, .dat (vlst (List.map C_api_Event v1))), (9, .dat (vlst (List.map C_api_Event v1))), (10, .dat (vint (v1.length : Int))), (11, .dat (vint (k3 : Int)))]) (fun (k3 : Nat) (s : Unit) => []) () H ⟨rfl, rfl, rfl, rfl, trivial⟩ trivial (fun _ _ => rfl) ?_ ?_
  ·rintro ⟨⟩ H
   replace H : gateref2_EventForm_E1 = some r := H
   unfold gateref2_EventForm_E1 at H
   refine awp_seq ?_
   refine awp_plain hN rfl ?_
   refine seq_run0 (stp_lss rfl rfl) ?_
   refine awp_seq ?_
   refine awp_cond _ rfl (fun h => (lt_t h).elim) (fun h => ?_)
   refine awp_exit ?_
   refine awp_seq ?_
   refine awp_plain hN rfl ?_
   refine qe rfl ?_
   refine awp_ret ?_
   cases H
   exact ⟨trivial, .inl rfl, trivial⟩
  ·rintro k3 x6 ⟨⟩ q4 h7 h8 H hq4
   replace H : gateref2_EventForm_L1 v1 k3 x6 = some q4 := H
   unfold gateref2_EventForm_L1 at H
   refine awp_seq ?_
   refine awp_plain hN rfl ?_
   refine seq_run0 (stp_lss rfl rfl) ?_
   refine awp_seq ?_
   refine awp_cond _ rfl (fun h => ?_) (fun h => (lt_f h7 h).elim)
   refine awp_skip ?_
   refine awp_seq ?_
   refine awp_block ?_
   refine awp_seq ?_
   refine awp_plain hN rfl ?_
   refine qd rfl ?_
   refine seq_run0 (t_idx tyE26 (fun _ => rfl) rfl rfl h8) ?_
   refine seq_run0 (stp_loadEA tyS46 rfl (map_at h8) rfl) ?_
   refine seq_run2 (stp_alloc 1 tyZ46 rfl) rfl ?_
   refine qe rfl ?_
   refine seq_run2 (stp_storeW tyS46 rfl rfl rfl rfl) rfl ?_
   refine awp_seq ?_
   refine awp_plain hN rfl ?_
   refine seq_run0 (stp_fldP tyF46_3 rfl) ?_
   refine seq_run1 (stp_load1 tyS3 rfl rfl) rfl ?_
   refine seq_run0 (stp_eql rfl rfl) ?_
   refine qe rfl ?_
   refine awp_block ?_
   refine awp_seq ?_
   refine awp_plain hN rfl ?_
   refine seq_run0 (stp_fldP tyF46_0 rfl) ?_
   refine seq_run1 (stp_load1 tyS3 rfl rfl) rfl ?_
   obtain ⟨r9, h10, H⟩ := bnd H
   refine seq_run0 (stp_call (k_gateref2_Moment x6.At r9 h10) ⟨.inl rfl, trivial⟩) ?_
   refine seq_run0 (stp_not rfl) ?_
   refine qe rfl ?_
   refine awp_cond _ rfl (fun h11 => ?_) (fun h11 => ?_)
   ·replace H := ift h11 H
    refine awp_seq ?_
    refine awp_plain hN rfl ?_
    refine qe rfl ?_
    refine awp_ret ?_
    replace H := retl H hq4
    cases H
    exact ⟨trivial, .inl rfl, trivial⟩
   ·replace H := iff_ h11 H
    refine awp_joinE (ι := Bool) (fun i => [(0, .dat (vlst (List.map C_api_Event v1))), (3, .dat (vint (k3 : Int))), (4, .ptr 1 0), (5, .dat (vbool (decide (x6.Kind = 1)))), (9, .dat (vlst (List.map C_api_Event v1))), (10, .dat (vint (v1.length : Int))), (11, .dat (vint (k3 : Int))), (24, .dat (vbool i))]) (fun i => [(1, .box none 46 [.dat (vint x6.At), .dat (vstr x6.App), .dat (vstr x6.Product), .dat (vint x6.Kind), .dat (vstr x6.Plan)])]) (fun i => gateref2_EventForm_J2 v1 k3 x6 i = some q4) (fun i => rfl) ?_ ?_
    ·skip
     refine awp_plain hN rfl ?_
     refine seq_run0 (stp_fldP tyF46_1 rfl) ?_
     refine seq_run1 (stp_load1 tyS9 rfl rfl) rfl ?_
     obtain ⟨r12, h13, H⟩ := bnd H
     refine seq_run0 (stp_call (k_gateref2_Key x6.App r12 h13) ⟨.inl rfl, trivial⟩) ?_
     refine seq_run0 (stp_not rfl) ?_
     refine qd rfl ?_
     refine seq_split (j := 4) rfl rfl (fun h14 => ?_) (fun h14 => ?_) rfl
     ·have h15 := un3 h14
      replace H := iff_ h15 H
      refine seq_g0 rfl rfl h14 (stp_fldP tyF46_2 rfl) ?_
      refine seq_g1 rfl rfl h14 (stp_load1 tyS9 rfl rfl) rfl ?_
      obtain ⟨r16, h17, H⟩ := bnd H
      refine seq_g0 rfl rfl h14 (stp_call (k_gateref2_Key x6.Product r16 h17) ⟨.inl rfl, trivial⟩) ?_
      refine seq_g0 rfl rfl h14 (stp_not rfl) ?_
      refine seq_run0 (stp_pick_f rfl (bFF h15) rfl) ?_
      refine qe rfl ?_
      exact ⟨!r16, H, ⟨rfl, rfl, rfl, rfl, rfl, rfl, rfl, rfl, trivial⟩, ⟨rfl, trivial⟩⟩
     ·have h18 := un4 h14
      replace H := ift h18 H
      refine seq_skip rfl rfl h14 ?_
      refine seq_skip rfl rfl h14 ?_
      refine seq_skip rfl rfl h14 ?_
      refine seq_skip rfl rfl h14 ?_
      refine seq_run0 (stp_pick_t rfl (bTT h18) rfl) ?_
      refine qe rfl ?_
      exact ⟨true, H, ⟨rfl, rfl, rfl, rfl, rfl, rfl, rfl, rfl, trivial⟩, ⟨rfl, trivial⟩⟩
    ·rintro v19 H
     replace H : gateref2_EventForm_J2 v1 k3 x6 v19 = some q4 := H
     unfold gateref2_EventForm_J2 at H
     refine awp_cond _ rfl (fun h20 => ?_) (fun h20 => ?_)
     ·replace H := ift h20 H
      refine awp_seq ?_
      refine awp_plain hN rfl ?_
      refine qe rfl ?_
      refine awp_ret ?_
      replace H := retl H hq4
      cases H
      exact ⟨trivial, .inl rfl, trivial⟩
     ·replace H := iff_ h20 H
      refine awp_seq ?_
      refine awp_plain hN rfl ?_
      refine seq_run0 (stp_fldP tyF46_3 rfl) ?_
      refine seq_run1 (stp_load1 tyS3 rfl rfl) rfl ?_
      obtain ⟨r21, h22, H⟩ := bnd H
      refine seq_run0 (stp_call (k_gateref2_in x6.Kind 1 6 r21 h22) ⟨.inl rfl, .inl rfl, .inl rfl, trivial⟩) ?_
      refine seq_run0 (stp_not rfl) ?_
      refine qe rfl ?_
      refine awp_cond _ rfl (fun h23 => ?_) (fun h23 => ?_)
      ·replace H := ift h23 H
       refine awp_seq ?_
       refine awp_plain hN rfl ?_
       refine qe rfl ?_
       refine awp_ret ?_
       replace H := retl H hq4
       cases H
       exact ⟨trivial, .inl rfl, trivial⟩
      ·replace H := iff_ h23 H
       refine awp_joinE (ι := Bool) (fun i => [(0, .dat (vlst (List.map C_api_Event v1))), (3, .dat (vint (k3 : Int))), (4, .ptr 1 0), (5, .dat (vbool (decide (x6.Kind = 1)))), (9, .dat (vlst (List.map C_api_Event v1))), (10, .dat (vint (v1.length : Int))), (11, .dat (vint (k3 : Int))), (40, .dat (vbool i))]) (fun i => [(1, .box none 46 [.dat (vint x6.At), .dat (vstr x6.App), .dat (vstr x6.Product), .dat (vint x6.Kind), .dat (vstr x6.Plan)])]) (fun i => gateref2_EventForm_J3 v1 k3 x6 i = some q4) (fun i => rfl) ?_ ?_
       ·skip
        refine awp_plain hN rfl ?_
        refine qd rfl ?_
        refine qd rfl ?_
        refine seq_split (j := 1) rfl rfl (fun h24 => ?_) (fun h24 => ?_) rfl
        ·have h25 := un1 h24
         replace H := ift h25 H
         refine seq_g0 rfl rfl h24 (stp_fldP tyF46_4 rfl) ?_
         refine seq_g1 rfl rfl h24 (stp_load1 tyS9 rfl rfl) rfl ?_
         obtain ⟨r26, h27, H⟩ := bnd H
         refine seq_g0 rfl rfl h24 (stp_call (k_gateref2_Key x6.Plan r26 h27) ⟨.inl rfl, trivial⟩) ?_
         refine seq_g0 rfl rfl h24 (stp_not rfl) ?_
         refine seq_run0 (stp_pick_t rfl (bTT h25) rfl) ?_
         refine qe rfl ?_
         exact ⟨!r26, H, ⟨rfl, rfl, rfl, rfl, rfl, rfl, rfl, rfl, trivial⟩, ⟨rfl, trivial⟩⟩
        ·have h28 := un2 h24
         replace H := iff_ h28 H
         refine seq_skip rfl rfl h24 ?_
         refine seq_skip rfl rfl h24 ?_
         refine seq_skip rfl rfl h24 ?_
         refine seq_skip rfl rfl h24 ?_
         refine seq_run0 (stp_pick_f rfl (bFF h28) rfl) ?_
         refine qe rfl ?_
         exact ⟨false, H, ⟨rfl, rfl, rfl, rfl, rfl, rfl, rfl, rfl, trivial⟩, ⟨rfl, trivial⟩⟩
       ·rintro v29 H
        replace H : gateref2_EventForm_J3 v1 k3 x6 v29 = some q4 := H
        unfold gateref2_EventForm_J3 at H
        refine awp_cond _ rfl (fun h30 => ?_) (fun h30 => ?_)
        ·replace H := ift h30 H
         refine awp_seq ?_
         refine awp_plain hN rfl ?_
         refine qe rfl ?_
         refine awp_ret ?_
         replace H := retl H hq4
         cases H
         exact ⟨trivial, .inl rfl, trivial⟩
        ·replace H := iff_ h30 H
         refine awp_seq ?_
         refine awp_plain hN rfl ?_
         refine qd rfl ?_
         refine seq_run0 (stp_not rfl) ?_
         refine qd rfl ?_
         refine seq_aT rfl rfl (fun hc => stp_fldP tyF46_4 rfl) ?_
         refine seq_arT rfl rfl (fun hc => stp_load1 tyS9 (cnd (c := (!(decide (x6.Kind = 1)))) hc) rfl) rfl anti_p ?_
         refine seq_aT rfl rfl (fun hc => stp_sneq (cnd (c := (!(decide (x6.Kind = 1)))) hc) rfl) ?_
         refine seq_run0 (stp_pick_and rfl (fun hb => (cnd (c := (!(decide (x6.Kind = 1)))) hb)) rfl) ?_
         refine qe rfl ?_
         refine awp_cond _ rfl (fun h31 => ?_) (fun h31 => ?_)
         ·replace H := ift h31 H
          refine awp_seq ?_
          refine awp_plain hN rfl ?_
          refine qe rfl ?_
          refine awp_ret ?_
          replace H := retl H hq4
          cases H
          exact ⟨trivial, .inl rfl, trivial⟩
         ·replace H := iff_ h31 H
          refine awp_joinE (ι := Bool) (fun i => [(0, .dat (vlst (List.map C_api_Event v1))), (9, .dat (vlst (List.map C_api_Event v1))), (10, .dat (vint (v1.length : Int))), (11, .dat (vint (k3 : Int))), (56, .dat (vbool i))]) (fun i => []) (fun i => gateref2_EventForm_J4 i = some q4) (fun i => rfl) ?_ ?_
          ·skip
           refine awp_draw mixed hN rfl rfl ?_
           refine qd rfl ?_
           refine seq_run0 (stp_gtr rfl rfl) ?_
           refine qd rfl ?_
           refine seq_split (j := 2) rfl rfl (fun h32 => ?_) (fun h32 => ?_) rfl
           ·have h33 := un1 h32
            replace H := ift h33 H
            refine seq_g0 rfl rfl h32 (stp_move (.dat _) rfl) ?_
            refine seq_g0 rfl rfl h32 (stp_move (.dat _) rfl) ?_
            refine seq_g0 rfl rfl h32 (stp_sub rfl rfl (by omega)) ?_
            obtain ⟨x34, h35, H⟩ := bnd H
            refine seq_g0 rfl rfl h32 (t_idxI tyE26 (fun _ => rfl) rfl rfl h35) ?_
            refine seq_g0 rfl rfl h32 (stp_loadEA tyS46 rfl (map_at (at_some h35).2) rfl) ?_
            refine seq_g1 rfl rfl h32 (stp_loadA tyS46 rfl rfl rfl) rfl ?_
            obtain ⟨r36, h37, H⟩ := bnd H
            refine seq_g0 rfl rfl h32 (stp_call (k_gateref2_EventOrder x34 x6 r36 h37) ⟨.inl rfl, .inl rfl, trivial⟩) ?_
            refine seq_g0 rfl rfl h32 (stp_geq rfl rfl) ?_
            refine seq_run0 (stp_pick_t rfl (bTT h33) rfl) ?_
            refine qe rfl ?_
            refine ⟨rfl, ?_⟩
            exact ⟨decide (0 ≤ r36), H, ⟨rfl, rfl, rfl, rfl, rfl, trivial⟩, trivial⟩
           ·have h38 := un2 h32
            replace H := iff_ h38 H
            refine seq_skip rfl rfl h32 ?_
            refine seq_skip rfl rfl h32 ?_
            refine seq_skip rfl rfl h32 ?_
            refine seq_skip rfl rfl h32 ?_
            refine seq_skip rfl rfl h32 ?_
            refine seq_skip rfl rfl h32 ?_
            refine seq_skip rfl rfl h32 ?_
            refine seq_skip rfl rfl h32 ?_
            refine seq_run0 (stp_pick_f rfl (bFF h38) rfl) ?_
            refine qe rfl ?_
            refine ⟨rfl, ?_⟩
            exact ⟨false, H, ⟨rfl, rfl, rfl, rfl, rfl, trivial⟩, trivial⟩
          ·rintro v39 H
           replace H : gateref2_EventForm_J4 v39 = some q4 := H
           unfold gateref2_EventForm_J4 at H
           refine awp_cond _ rfl (fun h40 => ?_) (fun h40 => ?_)
           ·replace H := ift h40 H
            refine awp_seq ?_
            refine awp_plain hN rfl ?_
            refine qe rfl ?_
            refine awp_ret ?_
            replace H := retl H hq4
            cases H
            exact ⟨trivial, .inl rfl, trivial⟩
           ·replace H := iff_ h40 H
            refine awp_skip ?_
            refine awp_plain hN rfl ?_
            refine seq_run0 (stp_add rfl rfl (by omega)) ?_
            refine qd rfl ?_
            exact ⟨_, backl H, ⟨rfl, rfl, rfl, rfl, trivial⟩, trivial⟩
theorem k_gateref2_eventWords  (r : ((List Bs))) (H : m_gateref2_eventWords  = some r) : Fn Tryz.prog 41 [] (resOf [vlst (List.map C_string r)]) := by
 refine ⟨by kernel_rfl, pure_of (us := [vlst (List.map C_string r)]) Tryz.func41 rfl rfl rfl rfl fun X hN => ?_⟩
 unfold m_gateref2_eventWords at H
 refine awp_seq ?_
 refine awp_plain hN rfl ?_
 refine qe rfl ?_
 refine awp_seq ?_
 refine awp_plain hN rfl ?_
 refine seq_run0 (stp_dat (u' := vlst (List.map C_string [[], [97, 115, 107], [97, 112, 112, 114, 111, 118, 101], [114, 101, 102, 117, 115, 101], [112, 97, 117, 115, 101], [114, 101, 115, 117, 109, 101], [101, 110, 100]])) (stp_lit [[_], [_], [_], [_], [_], [_], [_]] tyL55 ⟨rfl, .inl ⟨_, rfl, rfl, rfl⟩, rfl, rfl, .inl ⟨_, rfl, rfl, rfl⟩, rfl, rfl, .inl ⟨_, rfl, rfl, rfl⟩, rfl, rfl, .inl ⟨_, rfl, rfl, rfl⟩, rfl, rfl, .inl ⟨_, rfl, rfl, rfl⟩, rfl, rfl, .inl ⟨_, rfl, rfl, rfl⟩, rfl, rfl, .inl ⟨_, rfl, rfl, rfl⟩, rfl, trivial⟩ rfl rfl) rfl) ?_
 refine qe rfl ?_
 refine awp_ret ?_
 cases H
 exact ⟨trivial, .inl rfl, trivial⟩
theorem k_gateref2_EventLines (l1 : (List S_api_Event)) (r : (Bs)) (H : m_gateref2_EventLines l1 = some r) : Fn Tryz.prog 10 [vlst (List.map C_api_Event l1)] (resOf [vstr r]) := by
 refine ⟨by kernel_rfl, pure_of (us := [vstr r]) Tryz.func10 rfl rfl rfl rfl fun X hN => ?_⟩
 unfold m_gateref2_EventLines at H
 refine awp_seq ?_
 refine awp_plain hN rfl ?_
 refine qe rfl ?_
 refine awp_seq ?_
 refine awp_plain hN rfl ?_
 refine qe rfl ?_
 refine awp_seq ?_
 refine awp_seq ?_
 refine awp_plain hN rfl ?_
 refine qd rfl ?_
 refine seq_run0 (t_len tyU26 rfl) ?_
 refine qd rfl ?_
 refine awp_block ?_
 obtain ⟨h5, H⟩ := gif H
 refine awp_forL (fun (k3 : Nat) (s : Bs) => [(3, .dat (vstr s)), (6, .dat (vlst (List.map C_api_Event l1))), (7, .dat (vint (l1.length : Int))), (8, .dat (vint (k3 : Int)))]) (fun (k3 : Nat) (s : Bs) => []) [] H ⟨rfl, rfl, rfl, rfl, trivial⟩ trivial (fun _ _ => rfl) ?_ ?_
 ·rintro out2 H
  replace H : gateref2_EventLines_E1 out2 = some r := H
  unfold gateref2_EventLines_E1 at H
  refine awp_seq ?_
  refine awp_plain hN rfl ?_
  refine seq_run0 (stp_lss rfl rfl) ?_
  refine awp_seq ?_
  refine awp_cond _ rfl (fun h => (lt_t h).elim) (fun h => ?_)
  refine awp_exit ?_
  refine awp_seq ?_
  refine awp_plain hN rfl ?_
  refine qd rfl ?_
  refine qe rfl ?_
  refine awp_ret ?_
  cases H
  exact ⟨trivial, .inl rfl, trivial⟩
 ·rintro k3 x6 out2 q4 h7 h8 H hq4
  replace H : gateref2_EventLines_L1 k3 x6 out2 = some q4 := H
  unfold gateref2_EventLines_L1 at H
  refine awp_seq ?_
  refine awp_plain hN rfl ?_
  refine seq_run0 (stp_lss rfl rfl) ?_
  refine awp_seq ?_
  refine awp_cond _ rfl (fun h => ?_) (fun h => (lt_f h7 h).elim)
  refine awp_skip ?_
  refine awp_seq ?_
  refine awp_block ?_
  refine awp_seq ?_
  refine awp_plain hN rfl ?_
  refine seq_run0 (t_idx tyE26 (fun _ => rfl) rfl rfl h8) ?_
  refine seq_run0 (stp_loadEA tyS46 rfl (map_at h8) rfl) ?_
  refine seq_run2 (stp_alloc 1 tyZ46 rfl) rfl ?_
  refine seq_run2 (stp_storeW tyS46 rfl rfl rfl rfl) rfl ?_
  refine awp_seq ?_
  refine awp_draw mixed hN rfl rfl ?_
  refine qd rfl ?_
  refine seq_run0 (stp_fldP tyF46_0 rfl) ?_
  refine seq_run1 (stp_load1 tyS3 rfl rfl) rfl ?_
  obtain ⟨r9, h10, H⟩ := bnd H
  refine seq_run0 (stp_call (k_strconv_Itoa x6.At r9 h10) ⟨.inl rfl, trivial⟩) ?_
  obtain ⟨h11, H⟩ := gif H
  refine seq_run0 (stp_sadd rfl rfl (Nat.le_trans h11 (by decide))) ?_
  refine seq_run0 (stp_fldP tyF46_1 rfl) ?_
  refine seq_run1 (stp_load1 tyS9 rfl rfl) rfl ?_
  obtain ⟨h12, H⟩ := gif H
  refine seq_run0 (stp_sadd rfl rfl (Nat.le_trans h12 (by decide))) ?_
  obtain ⟨h13, H⟩ := gif H
  refine seq_run0 (stp_sadd rfl rfl (Nat.le_trans h13 (by decide))) ?_
  refine seq_run0 (stp_fldP tyF46_2 rfl) ?_
  refine seq_run1 (stp_load1 tyS9 rfl rfl) rfl ?_
  obtain ⟨h14, H⟩ := gif H
  refine seq_run0 (stp_sadd rfl rfl (Nat.le_trans h14 (by decide))) ?_
  obtain ⟨h15, H⟩ := gif H
  refine seq_run0 (stp_sadd rfl rfl (Nat.le_trans h15 (by decide))) ?_
  obtain ⟨r16, h17, H⟩ := bnd H
  refine seq_run0 (stp_call (k_gateref2_eventWords  r16 h17) trivial) ?_
  refine seq_run0 (stp_fldP tyF46_3 rfl) ?_
  refine seq_run1 (stp_load1 tyS3 rfl rfl) rfl ?_
  obtain ⟨x18, h19, H⟩ := bnd H
  refine seq_run0 (t_idxI tyE55 (fun _ => rfl) rfl rfl h19) ?_
  refine seq_run0 (stp_loadE1 tyS9 rfl (map_at (at_some h19).2) rfl) ?_
  obtain ⟨h20, H⟩ := gif H
  refine seq_run0 (stp_sadd rfl rfl (Nat.le_trans h20 (by decide))) ?_
  obtain ⟨h21, H⟩ := gif H
  refine seq_run0 (stp_sadd rfl rfl (Nat.le_trans h21 (by decide))) ?_
  refine qe rfl ?_
  refine ⟨rfl, ?_⟩
  refine awp_joinE (ι := Bs) (fun i => [(3, .dat (vstr i)), (6, .dat (vlst (List.map C_api_Event l1))), (7, .dat (vint (l1.length : Int))), (8, .dat (vint (k3 : Int)))]) (fun i => []) (fun i => gateref2_EventLines_J2 i = some q4) (fun i => rfl) ?_ ?_
  ·skip
   refine awp_seq ?_
   refine awp_plain hN rfl ?_
   refine seq_run0 (stp_fldP tyF46_3 rfl) ?_
   refine seq_run1 (stp_load1 tyS3 rfl rfl) rfl ?_
   refine seq_run0 (stp_eql rfl rfl) ?_
   refine awp_cond _ rfl (fun h22 => ?_) (fun h22 => ?_)
   ·replace H := ift h22 H
    refine awp_plain hN rfl ?_
    refine qd rfl ?_
    refine seq_run0 (stp_fldP tyF46_4 rfl) ?_
    refine seq_run1 (stp_load1 tyS9 rfl rfl) rfl ?_
    obtain ⟨h23, H⟩ := gif H
    refine seq_run0 (stp_sadd rfl rfl (Nat.le_trans h23 (by decide))) ?_
    obtain ⟨h24, H⟩ := gif H
    refine seq_run0 (stp_sadd rfl rfl (Nat.le_trans h24 (by decide))) ?_
    refine qe rfl ?_
    exact ⟨((out2 ++ ((((((r9 ++ [32]) ++ x6.App) ++ [32]) ++ x6.Product) ++ [32]) ++ x18)) ++ ([32] ++ x6.Plan)), H, ⟨rfl, rfl, rfl, rfl, trivial⟩, trivial⟩
   ·replace H := iff_ h22 H
    refine awp_skip ?_
    exact ⟨(out2 ++ ((((((r9 ++ [32]) ++ x6.App) ++ [32]) ++ x6.Product) ++ [32]) ++ x18)), H, ⟨rfl, rfl, rfl, rfl, trivial⟩, trivial⟩
  ·rintro out25 H
   replace H : gateref2_EventLines_J2 out25 = some q4 := H
   unfold gateref2_EventLines_J2 at H
   refine awp_plain hN rfl ?_
   refine qd rfl ?_
   obtain ⟨h26, H⟩ := gif H
   refine seq_run0 (stp_sadd rfl rfl (Nat.le_trans h26 (by decide))) ?_
   refine qe rfl ?_
   refine awp_plain hN rfl ?_
   refine seq_run0 (stp_add rfl rfl (by omega)) ?_
   refine qd rfl ?_
   exact ⟨_, backl H, ⟨rfl, rfl, rfl, rfl, trivial⟩, trivial⟩
theorem k_gatemake_Stream_Changed (s1 : S_gatemake_Stream) (t2 : Bs) (v3 : Bs) (r : (Bs × S_gatemake_Stream)) (H : m_gatemake_Stream_Changed s1 t2 v3 = some r) : Imp Tryz.prog 42 25 (C_gatemake_Stream s1) [vstr t2, vstr v3] (resOf [vstr r.1]) (C_gatemake_Stream r.2) := by
 refine imp_of (us := [vstr r.1]) (cs' := (C_gatemake_Stream r.2)) (by kernel_rfl) Tryz.func42 rfl rfl rfl rfl fun X bl hN => ?_
 unfold m_gatemake_Stream_Changed at H
 refine awp_seq ?_
 refine awp_plain hN rfl ?_
 refine qe rfl ?_
 refine awp_seq ?_
 refine awp_seq ?_
 refine awp_plain hN rfl ?_
 refine qd rfl ?_
 refine seq_run0 (stp_seql rfl rfl) ?_
 refine qd rfl ?_
 refine seq_aF rfl rfl (fun hc => stp_move (.dat _) rfl) ?_
 refine seq_aF rfl rfl (fun hc => stp_seql (cnd (c := (!(decide (t2 = [])))) hc) rfl) ?_
 refine seq_run0 (stp_pick_or rfl rfl (fun hb => (cnd (c := (!(decide (t2 = [])))) (notI hb)))) ?_
 refine awp_cond _ rfl (fun h4 => ?_) (fun h4 => ?_)
 ·replace H := ift h4 H
  refine awp_seq ?_
  refine awp_plain hN rfl ?_
  refine qd rfl ?_
  refine qe rfl ?_
  refine awp_ret ?_
  cases H
  exact ⟨trivial, ⟨.inl rfl, trivial⟩, rfl⟩
 ·replace H := iff_ h4 H
  refine awp_skip ?_
  refine awp_seq ?_
  refine awp_plain hN rfl ?_
  refine seq_run0 (stp_move (.ptr _ _) rfl) ?_
  refine qd rfl ?_
  refine seq_run0 (stp_len_str tyU9 rfl) ?_
  obtain ⟨r5, h6, H⟩ := bnd H
  refine seq_run2 (stp_imp (k_gatemake_Stream_Next s1 (t2.length : Int) r5 h6) rfl ⟨.inl rfl, trivial⟩ rfl) rfl ?_
  refine qe rfl ?_
  refine awp_seq ?_
  refine awp_plain hN rfl ?_
  refine qd rfl ?_
  refine seq_run0 (stp_move (.ptr _ _) rfl) ?_
  refine qd rfl ?_
  refine seq_run0 (stp_len_str tyU9 rfl) ?_
  obtain ⟨r7, h8, H⟩ := bnd H
  refine seq_run2 (stp_imp (k_gatemake_Stream_Next r5.2 (v3.length : Int) r7 h8) rfl ⟨.inl rfl, trivial⟩ rfl) rfl ?_
  obtain ⟨x9, h10, H⟩ := bnd H
  refine seq_run0 (t_byteI tyU9 rfl rfl h10) ?_
  refine qe rfl ?_
  refine awp_seq ?_
  refine awp_seq ?_
  refine awp_plain hN rfl ?_
  refine seq_run0 (stp_move (.ptr _ _) rfl) ?_
  obtain ⟨r11, h12, H⟩ := bnd H
  refine seq_run2 (stp_imp (k_gatemake_Stream_Next r7.2 3 r11 h12) rfl ⟨.inl rfl, trivial⟩ rfl) rfl ?_
  refine awp_block ?_
  refine awp_seq ?_
  refine awp_plain hN rfl ?_
  refine seq_run0 (stp_eql rfl rfl) ?_
  refine qe rfl ?_
  refine awp_cond _ rfl (fun h13 => ?_) (fun h13 => ?_)
  ·replace H := ift h13 H
   refine awp_seq ?_
   refine awp_draw mixed hN rfl rfl ?_
   refine qd rfl ?_
   refine qd rfl ?_
   obtain ⟨l14, h15, H⟩ := bnd H
   refine seq_run0 (t_subS tyU9 rfl rfl rfl h15) ?_
   refine qd rfl ?_
   refine seq_run0 (stp_conv tyU5 tyU21 rfl) ?_
   refine seq_run0 (stp_convR tyU21 rfl tyU9 rfl) ?_
   obtain ⟨h16, H⟩ := gif H
   refine seq_run0 (stp_sadd rfl rfl (Nat.le_trans h16 (by decide))) ?_
   refine qd rfl ?_
   refine qd rfl ?_
   refine seq_run0 (stp_wrap _ rfl rfl (.inl ⟨rfl, rfl⟩)) ?_
   obtain ⟨l17, h18, H⟩ := bnd H
   refine seq_run0 (t_subS tyU9 rfl rfl rfl h18) ?_
   obtain ⟨h19, H⟩ := gif H
   refine seq_run0 (stp_sadd rfl rfl (Nat.le_trans h19 (by decide))) ?_
   refine qe rfl ?_
   refine ⟨rfl, ?_⟩
   refine awp_ret ?_
   cases H
   exact ⟨trivial, ⟨.inl rfl, trivial⟩, rfl⟩
  ·replace H := iff_ h13 H
   refine awp_seq ?_
   refine awp_plain hN rfl ?_
   refine seq_run0 (stp_eql rfl rfl) ?_
   refine qe rfl ?_
   refine awp_cond _ rfl (fun h20 => ?_) (fun h20 => ?_)
   ·replace H := ift h20 H
    refine awp_seq ?_
    refine awp_draw mixed hN rfl rfl ?_
    refine qd rfl ?_
    refine qd rfl ?_
    obtain ⟨l21, h22, H⟩ := bnd H
    refine seq_run0 (t_subS tyU9 rfl rfl rfl h22) ?_
    refine qd rfl ?_
    refine seq_run0 (stp_conv tyU5 tyU21 rfl) ?_
    refine seq_run0 (stp_convR tyU21 rfl tyU9 rfl) ?_
    obtain ⟨h23, H⟩ := gif H
    refine seq_run0 (stp_sadd rfl rfl (Nat.le_trans h23 (by decide))) ?_
    refine qd rfl ?_
    refine qd rfl ?_
    obtain ⟨l24, h25, H⟩ := bnd H
    refine seq_run0 (t_subS tyU9 rfl rfl rfl h25) ?_
    obtain ⟨h26, H⟩ := gif H
    refine seq_run0 (stp_sadd rfl rfl (Nat.le_trans h26 (by decide))) ?_
    refine qe rfl ?_
    refine ⟨rfl, ?_⟩
    refine awp_ret ?_
    cases H
    exact ⟨trivial, ⟨.inl rfl, trivial⟩, rfl⟩
   ·replace H := iff_ h20 H
    refine awp_skip ?_
    refine awp_seq ?_
    refine awp_draw mixed hN rfl rfl ?_
    refine qd rfl ?_
    refine qd rfl ?_
    obtain ⟨l27, h28, H⟩ := bnd H
    refine seq_run0 (t_subS tyU9 rfl rfl rfl h28) ?_
    refine qd rfl ?_
    refine qd rfl ?_
    refine seq_run0 (stp_wrap _ rfl rfl (.inl ⟨rfl, rfl⟩)) ?_
    obtain ⟨l29, h30, H⟩ := bnd H
    refine seq_run0 (t_subS tyU9 rfl rfl rfl h30) ?_
    obtain ⟨h31, H⟩ := gif H
    refine seq_run0 (stp_sadd rfl rfl (Nat.le_trans h31 (by decide))) ?_
    refine qe rfl ?_
    refine ⟨rfl, ?_⟩
    refine awp_ret ?_
    cases H
    exact ⟨trivial, ⟨.inl rfl, trivial⟩, rfl⟩
theorem k_gatemake_Stream_EventText (s1 : S_gatemake_Stream) (r : (Bs × S_gatemake_Stream)) (H : m_gatemake_Stream_EventText s1 = some r) : Imp Tryz.prog 11 25 (C_gatemake_Stream s1) [] (resOf [vstr r.1]) (C_gatemake_Stream r.2) := by
 refine imp_of (us := [vstr r.1]) (cs' := (C_gatemake_Stream r.2)) (by kernel_rfl) Tryz.func11 rfl rfl rfl rfl fun X bl hN => ?_
 unfold m_gatemake_Stream_EventText at H
 refine awp_seq ?_
 refine awp_plain hN rfl ?_
 refine qe rfl ?_
 refine awp_seq ?_
 refine awp_plain hN rfl ?_
 refine seq_run0 (stp_move (.ptr _ _) rfl) ?_
 obtain ⟨r2, h3, H⟩ := bnd H
 refine seq_run2 (stp_imp (k_gatemake_Stream_RightCatalog s1 r2 h3) rfl trivial rfl) rfl ?_
 refine seq_run2 (stp_alloc 1 tyZ31 rfl) rfl ?_
 refine seq_run2 (stp_storeW tyS31 rfl rfl rfl rfl) rfl ?_
 refine awp_seq ?_
 refine awp_plain hN rfl ?_
 refine qe rfl ?_
 refine awp_joinE (ι := Bs × (List Int) × Int) (fun i => [(0, .ptr 0 0), (4, .dat (vstr i.1))]) (fun i => [(0, .box (some bl) 25 [.dat (vlst (List.map C_int i.2.1)), .dat (vint i.2.2)])]) (fun i => gatemake_Stream_EventText_J1 i.1 i.2.1 i.2.2 = some r) (fun i => rfl) ?_ ?_
 ·skip
  refine awp_seq ?_
  refine awp_draw mixed hN rfl rfl ?_
  refine seq_run0 (stp_move (.ptr _ _) rfl) ?_
  refine seq_run1 (stp_loadA tyS31 rfl rfl rfl) rfl ?_
  refine seq_run0 (stp_move (.ptr _ _) rfl) ?_
  obtain ⟨r4, h5, H⟩ := bnd H
  refine seq_run2 (stp_imp (k_gatemake_Stream_Range r2.2 0 4 r4 h5) rfl ⟨.inl rfl, .inl rfl, trivial⟩ rfl) rfl ?_
  obtain ⟨r6, h7, H⟩ := bnd H
  refine seq_run2 (stp_imp (k_gatemake_Stream_Events r4.2 r2.1 ([] : (List S_api_App)) r4.1 r6 h7) rfl ⟨.inl rfl, .inr ⟨rfl, rfl⟩, .inl rfl, trivial⟩ rfl) rfl ?_
  refine qe rfl ?_
  refine ⟨rfl, ?_⟩
  refine awp_seq ?_
  refine awp_plain hN rfl ?_
  refine qd rfl ?_
  obtain ⟨r8, h9, H⟩ := bnd H
  refine seq_run0 (stp_call (k_gateref2_EventForm r6.1 r8 h9) ⟨.inl rfl, trivial⟩) ?_
  refine seq_run0 (stp_eql rfl rfl) ?_
  refine awp_cond _ rfl (fun h10 => ?_) (fun h10 => ?_)
  ·replace H := ift h10 H
   refine awp_plain hN rfl ?_
   refine qd rfl ?_
   obtain ⟨r11, h12, H⟩ := bnd H
   refine seq_run0 (stp_call (k_gateref2_EventLines r6.1 r11 h12) ⟨.inl rfl, trivial⟩) ?_
   refine qe rfl ?_
   exact ⟨(r11, r6.2.L, r6.2.at_), H, ⟨rfl, rfl, trivial⟩, ⟨rfl, trivial⟩⟩
  ·replace H := iff_ h10 H
   refine awp_skip ?_
   exact ⟨([], r6.2.L, r6.2.at_), H, ⟨rfl, rfl, trivial⟩, ⟨rfl, trivial⟩⟩
 ·rintro ⟨t13, c14, c15⟩ H
  replace H : gatemake_Stream_EventText_J1 t13 c14 c15 = some r := H
  unfold gatemake_Stream_EventText_J1 at H
  refine awp_seq ?_
  refine awp_seq ?_
  refine awp_plain hN rfl ?_
  refine seq_run0 (stp_move (.ptr _ _) rfl) ?_
  refine seq_run0 (stp_dat (u' := vlst (List.map C_int [0, 0, 1, 2])) (stp_lit [[_], [_], [_], [_]] tyL22 ⟨rfl, .inl ⟨_, rfl, rfl, rfl⟩, rfl, rfl, .inl ⟨_, rfl, rfl, rfl⟩, rfl, rfl, .inl ⟨_, rfl, rfl, rfl⟩, rfl, rfl, .inl ⟨_, rfl, rfl, rfl⟩, rfl, trivial⟩ rfl rfl) rfl) ?_
  obtain ⟨r16, h17, H⟩ := bnd H
  refine seq_run2 (stp_imp (k_gatemake_Stream_Pick (S_gatemake_Stream.mk c14 c15) [0, 0, 1, 2] r16 h17) rfl ⟨.inl rfl, trivial⟩ rfl) rfl ?_
  refine qd rfl ?_
  refine awp_block ?_
  obtain ⟨h23, H⟩ := gif H
  refine awp_rng (fun (k21 : Nat) (s : Bs × (List Int) × Int) => [(0, .ptr 0 0), (4, .dat (vstr s.1)), (20, .dat (vint r16.1)), (21, .dat (vint (k21 : Int)))]) (fun (k21 : Nat) (s : Bs × (List Int) × Int) => [(0, .box (some bl) 25 [.dat (vlst (List.map C_int s.2.1)), .dat (vint s.2.2)])]) (t13, r16.2.L, r16.2.at_) H ⟨rfl, rfl, rfl, rfl, trivial⟩ ⟨rfl, trivial⟩ (fun _ _ => rfl) ?_ ?_
  ·rintro ⟨t18, c19, c20⟩ H
   replace H : gatemake_Stream_EventText_E2 t18 c19 c20 = some r := H
   unfold gatemake_Stream_EventText_E2 at H
   refine awp_seq ?_
   refine awp_plain hN rfl ?_
   refine seq_run0 (stp_lss rfl rfl) ?_
   refine awp_seq ?_
   refine awp_cond _ rfl (fun h => (lt_tI h).elim) (fun h => ?_)
   refine awp_exit ?_
   refine awp_seq ?_
   refine awp_plain hN rfl ?_
   refine qd rfl ?_
   refine qe rfl ?_
   refine awp_ret ?_
   cases H
   exact ⟨trivial, ⟨.inl rfl, trivial⟩, rfl⟩
  ·rintro k21 ⟨t18, c19, c20⟩ q22 h24 H hq22
   replace H : gatemake_Stream_EventText_L2 k21 t18 c19 c20 = some q22 := H
   unfold gatemake_Stream_EventText_L2 at H
   refine awp_seq ?_
   refine awp_plain hN rfl ?_
   refine seq_run0 (stp_lss rfl rfl) ?_
   refine awp_seq ?_
   refine awp_cond _ rfl (fun h => ?_) (fun h => (lt_fI h24 h).elim)
   refine awp_skip ?_
   refine awp_seq ?_
   refine awp_block ?_
   refine awp_plain hN rfl ?_
   refine seq_run0 (stp_move (.ptr _ _) rfl) ?_
   refine qd rfl ?_
   obtain ⟨r25, h26, H⟩ := bnd H
   refine seq_run2 (stp_imp (k_gatemake_Stream_Changed (S_gatemake_Stream.mk c19 c20) t18 [32, 10, 48, 45, 57, 97, 115, 107, 112, 101] r25 h26) rfl ⟨.inl rfl, .inl rfl, trivial⟩ rfl) rfl ?_
   refine qe rfl ?_
   refine awp_plain hN rfl ?_
   refine seq_run0 (stp_add rfl rfl (by omega)) ?_
   refine qd rfl ?_
   exact ⟨_, backl H, ⟨rfl, rfl, rfl, rfl, trivial⟩, ⟨rfl, trivial⟩⟩
theorem k_kit_Lines (s1 : Bs) (r : ((List Bs) × Bool)) (H : m_kit_Lines s1 = some r) : Fn Tryz.prog 43 [vstr s1] (resOf [vlst (List.map C_string r.1), vbool r.2]) := by
 refine ⟨by kernel_rfl, pure_of (us := [vlst (List.map C_string r.1), vbool r.2]) Tryz.func43 rfl rfl rfl rfl fun X hN => ?_⟩
 unfold m_kit_Lines at H
 refine awp_seq ?_
 refine awp_plain hN rfl ?_
 refine qe rfl ?_
 refine qe rfl ?_
 refine awp_seq ?_
 refine awp_plain hN rfl ?_
 refine qd rfl ?_
 obtain ⟨r2, h3, H⟩ := bnd H
 refine seq_run0 (stp_call (k_strings_Split s1 [10] r2 h3) ⟨.inl rfl, .inl rfl, trivial⟩) ?_
 refine qe rfl ?_
 refine awp_seq ?_
 refine awp_plain hN rfl ?_
 refine qd rfl ?_
 refine seq_run0 (t_len tyU55 rfl) ?_
 refine seq_run0 (stp_wrap _ rfl rfl (.inr (.inl ⟨rfl, rfl⟩))) ?_
 refine qe rfl ?_
 refine awp_seq ?_
 refine awp_seq ?_
 refine awp_plain hN rfl ?_
 refine qd rfl ?_
 refine qd rfl ?_
 obtain ⟨x4, h5, H⟩ := bnd H
 refine seq_run0 (t_idxI tyE55 (fun _ => rfl) rfl rfl h5) ?_
 refine seq_run0 (stp_loadE1 tyS9 rfl (map_at (at_some h5).2) rfl) ?_
 refine seq_run0 (stp_seql rfl rfl) ?_
 refine awp_cond _ rfl (fun h6 => ?_) (fun h6 => ?_)
 ·replace H := ift h6 H
  refine awp_seq ?_
  refine awp_plain hN rfl ?_
  refine qd rfl ?_
  refine qd rfl ?_
  obtain ⟨l7, h8, H⟩ := bnd H
  refine seq_run0 (t_subL tyE55 (fun _ => rfl) rfl rfl rfl h8) ?_
  refine qe rfl ?_
  refine qe rfl ?_
  refine awp_ret ?_
  cases H
  exact ⟨trivial, .inl rfl, .inl rfl, trivial⟩
 ·replace H := iff_ h6 H
  refine awp_skip ?_
  refine awp_seq ?_
  refine awp_plain hN rfl ?_
  refine qd rfl ?_
  refine qe rfl ?_
  refine qe rfl ?_
  refine awp_ret ?_
  cases H
  exact ⟨trivial, .inl rfl, .inl rfl, trivial⟩
theorem k_slices_Index_L_string_string_ (s1 : (List Bs)) (v2 : Bs) (r : (Int)) (H : m_slices_Index_L_string_string_ s1 v2 = some r) : Fn Tryz.prog 49 [vlst (List.map C_string s1), vstr v2] (resOf [vint r]) := by
 refine ⟨by kernel_rfl, pure_of (us := [vint r]) Tryz.func49 rfl rfl rfl rfl fun X hN => ?_⟩
 unfold m_slices_Index_L_string_string_ at H
 refine awp_seq ?_
 refine awp_plain hN rfl ?_
 refine qe rfl ?_
 refine awp_seq ?_
 refine awp_seq ?_
 refine awp_plain hN rfl ?_
 refine qd rfl ?_
 refine seq_run0 (t_len tyU55 rfl) ?_
 refine qd rfl ?_
 refine awp_block ?_
 obtain ⟨h5, H⟩ := gif H
 refine awp_forL (fun (k3 : Nat) (s : Unit) => [(0, .dat (vlst (List.map C_string s1))), (1, .dat (vstr v2)), (7, .dat (vint (s1.length : Int))), (8, .dat (vint (k3 : Int)))]) (fun (k3 : Nat) (s : Unit) => []) () H ⟨rfl, rfl, rfl, rfl, trivial⟩ trivial (fun _ _ => rfl) ?_ ?_
 ·rintro ⟨⟩ H
  replace H : slices_Index_L_string_string__E1 = some r := H
  unfold slices_Index_L_string_string__E1 at H
  refine awp_seq ?_
  refine awp_plain hN rfl ?_
  refine seq_run0 (stp_lss rfl rfl) ?_
  refine awp_seq ?_
  refine awp_cond _ rfl (fun h => (lt_t h).elim) (fun h => ?_)
  refine awp_exit ?_
  refine awp_seq ?_
  refine awp_plain hN rfl ?_
  refine qe rfl ?_
  refine awp_ret ?_
  cases H
  exact ⟨trivial, .inl rfl, trivial⟩
 ·rintro k3 x6 ⟨⟩ q4 h7 h8 H hq4
  replace H : slices_Index_L_string_string__L1 v2 k3 x6 = some q4 := H
  unfold slices_Index_L_string_string__L1 at H
  refine awp_seq ?_
  refine awp_plain hN rfl ?_
  refine seq_run0 (stp_lss rfl rfl) ?_
  refine awp_seq ?_
  refine awp_cond _ rfl (fun h => ?_) (fun h => (lt_f h7 h).elim)
  refine awp_skip ?_
  refine awp_seq ?_
  refine awp_block ?_
  refine awp_seq ?_
  refine awp_plain hN rfl ?_
  refine qd rfl ?_
  refine qe rfl ?_
  refine awp_seq ?_
  refine awp_plain hN rfl ?_
  refine qd rfl ?_
  refine qd rfl ?_
  refine qd rfl ?_
  refine seq_run0 (t_idx tyE55 (fun _ => rfl) rfl rfl h8) ?_
  refine seq_run0 (stp_loadE1 tyS9 rfl (map_at h8) rfl) ?_
  refine seq_run0 (stp_seql rfl rfl) ?_
  refine awp_cond _ rfl (fun h9 => ?_) (fun h9 => ?_)
  ·replace H := ift h9 H
   refine awp_seq ?_
   refine awp_plain hN rfl ?_
   refine qd rfl ?_
   refine qe rfl ?_
   refine awp_ret ?_
   replace H := retl H hq4
   cases H
   exact ⟨trivial, .inl rfl, trivial⟩
  ·replace H := iff_ h9 H
   refine awp_skip ?_
   refine awp_plain hN rfl ?_
   refine seq_run0 (stp_add rfl rfl (by omega)) ?_
   refine qd rfl ?_
   exact ⟨_, backl H, ⟨rfl, rfl, rfl, rfl, trivial⟩, trivial⟩
theorem k_slices_Contains_L_string_string_ (s1 : (List Bs)) (v2 : Bs) (r : (Bool)) (H : m_slices_Contains_L_string_string_ s1 v2 = some r) : Fn Tryz.prog 47 [vlst (List.map C_string s1), vstr v2] (resOf [vbool r]) := by
 refine ⟨by kernel_rfl, pure_of (us := [vbool r]) Tryz.func47 rfl rfl rfl rfl fun X hN => ?_⟩
 unfold m_slices_Contains_L_string_string_ at H
 refine awp_seq ?_
 refine awp_plain hN rfl ?_
 refine qe rfl ?_
 refine awp_seq ?_
 refine awp_plain hN rfl ?_
 refine qd rfl ?_
 refine qd rfl ?_
 obtain ⟨r3, h4, H⟩ := bnd H
 refine seq_run0 (stp_call (k_slices_Index_L_string_string_ s1 v2 r3 h4) ⟨.inl rfl, .inl rfl, trivial⟩) ?_
 refine seq_run0 (stp_geq rfl rfl) ?_
 refine qe rfl ?_
 refine awp_ret ?_
 cases H
 exact ⟨trivial, .inl rfl, trivial⟩
theorem k_kit_Words (s1 : Bs) (r : ((List Bs) × Bool)) (H : m_kit_Words s1 = some r) : Fn Tryz.prog 68 [vstr s1] (resOf [vlst (List.map C_string r.1), vbool r.2]) := by
 refine ⟨by kernel_rfl, pure_of (us := [vlst (List.map C_string r.1), vbool r.2]) Tryz.func68 rfl rfl rfl rfl fun X hN => ?_⟩
 unfold m_kit_Words at H
 refine awp_seq ?_
 refine awp_plain hN rfl ?_
 refine qe rfl ?_
 refine qe rfl ?_
 refine awp_seq ?_
 refine awp_plain hN rfl ?_
 refine qd rfl ?_
 obtain ⟨r2, h3, H⟩ := bnd H
 refine seq_run0 (stp_call (k_strings_Split s1 [32] r2 h3) ⟨.inl rfl, .inl rfl, trivial⟩) ?_
 refine qe rfl ?_
 refine awp_seq ?_
 refine awp_plain hN rfl ?_
 refine qd rfl ?_
 refine qd rfl ?_
 obtain ⟨r4, h5, H⟩ := bnd H
 refine seq_run0 (stp_call (k_slices_Contains_L_string_string_ r2 [] r4 h5) ⟨.inl rfl, .inl rfl, trivial⟩) ?_
 refine seq_run0 (stp_not rfl) ?_
 refine qe rfl ?_
 refine qe rfl ?_
 refine awp_ret ?_
 cases H
 exact ⟨trivial, .inl rfl, .inl rfl, trivial⟩
theorem k_strings_TrimPrefix (s p : Bs) (r : Bs) (H : m_strings_TrimPrefix s p = some r) : Fn Tryz.prog 72 [vstr s, vstr p] (resOf [vstr r]) := by
 unfold m_strings_TrimPrefix at H
 cases H
 refine fn_of_callsG (by kernel_rfl) fun M w vs hM h => ?_
 have hv := Ts_vals (us := [.string ⟨s.toArray⟩, .string ⟨p.toArray⟩]) h
 subst hv
 refine (Tryz.strings_TrimPrefix ⟨s.toArray⟩ ⟨p.toArray⟩ w).mono ?_
 rintro e w' ⟨rfl, rfl⟩
 exact ⟨_, rfl, rfl, Kp.refl _ _⟩

theorem k_internal_strconv_lower (c1 : Int) (r : (Int)) (H : m_internal_strconv_lower c1 = some r) : Fn Tryz.prog 155 [vval (.int .u8 c1)] (resOf [vval (.int .u8 r)]) := by
 refine ⟨by kernel_rfl, pure_of (us := [vval (.int .u8 r)]) Tryz.func155 rfl rfl rfl rfl fun X hN => ?_⟩
 unfold m_internal_strconv_lower at H
 refine awp_seq ?_
 refine awp_plain hN rfl ?_
 refine qe rfl ?_
 refine awp_seq ?_
 refine awp_plain hN rfl ?_
 refine qd rfl ?_
 refine seq_run0 (stp_dat (stp_or rfl rfl) rfl) ?_
 refine qe rfl ?_
 refine awp_ret ?_
 cases H
 exact ⟨trivial, .inl rfl, trivial⟩
theorem k_internal_strconv_underscoreOK (v1 : Bs) (r : (Bool)) (H : m_internal_strconv_underscoreOK v1 = some r) : Fn Tryz.prog 156 [vstr v1] (resOf [vbool r]) := by
 refine ⟨by kernel_rfl, pure_of (us := [vbool r]) Tryz.func156 rfl rfl rfl rfl fun X hN => ?_⟩
 unfold m_internal_strconv_underscoreOK at H
 refine awp_seq ?_
 refine awp_plain hN rfl ?_
 refine qe rfl ?_
 refine awp_seq ?_
 refine awp_plain hN rfl ?_
 refine qe rfl ?_
 refine awp_seq ?_
 refine awp_plain hN rfl ?_
 refine qe rfl ?_
 refine awp_joinE (ι := Bs) (fun i => [(0, .dat (vstr i)), (3, .dat (vval (.int .i32 94))), (4, .dat (vint 0))]) (fun i => []) (fun i => internal_strconv_underscoreOK_J1 i = some r) (fun i => rfl) ?_ ?_
 ·skip
  refine awp_joinE (ι := Bool) (fun i => [(0, .dat (vstr v1)), (3, .dat (vval (.int .i32 94))), (4, .dat (vint 0)), (18, .dat (vbool i))]) (fun i => []) (fun i => internal_strconv_underscoreOK_J2 v1 i = some r) (fun i => rfl) ?_ ?_
  ·skip
   refine awp_plain hN rfl ?_
   refine qd rfl ?_
   refine seq_run0 (stp_len_str tyU9 rfl) ?_
   refine seq_run0 (stp_geq rfl rfl) ?_
   refine qd rfl ?_
   refine seq_split (j := 3) rfl rfl (fun h2 => ?_) (fun h2 => ?_) rfl
   ·have h3 := un1 h2
    replace H := ift h3 H
    refine seq_g0 rfl rfl h2 (stp_move (.dat _) rfl) ?_
    obtain ⟨x4, h5, H⟩ := bnd H
    refine seq_g0 rfl rfl h2 (t_byte tyU9 rfl rfl h5) ?_
    refine seq_g0 rfl rfl h2 (stp_eql rfl rfl) ?_
    refine seq_g0 rfl rfl h2 (stp_move (.dat _) rfl) ?_
    refine seq_split (j := 7) rfl rfl (fun h6 => ?_) (fun h6 => ?_) rfl
    ·have h7 := un3 h6
     replace H := iff_ h7 H
     refine seq_g0 rfl rfl h6 (stp_move (.dat _) rfl) ?_
     refine seq_g0 rfl rfl h6 (t_byte tyU9 rfl rfl h5) ?_
     refine seq_g0 rfl rfl h6 (stp_eql rfl rfl) ?_
     refine seq_g0 rfl rfl h2 (stp_pick_f rfl (bFF h7) rfl) ?_
     refine seq_run0 (stp_pick_t rfl (bTT h3) rfl) ?_
     exact ⟨decide ((x4.toNat : Int) = 43), H, ⟨rfl, rfl, rfl, rfl, trivial⟩, trivial⟩
    ·have h8 := un4 h6
     replace H := ift h8 H
     refine seq_skip rfl rfl h6 ?_
     refine seq_skip rfl rfl h6 ?_
     refine seq_skip rfl rfl h6 ?_
     refine seq_g0 rfl rfl h2 (stp_pick_t rfl (bTT h8) rfl) ?_
     refine seq_run0 (stp_pick_t rfl (bTT h3) rfl) ?_
     exact ⟨true, H, ⟨rfl, rfl, rfl, rfl, trivial⟩, trivial⟩
   ·have h9 := un2 h2
    replace H := iff_ h9 H
    refine seq_skip rfl rfl h2 ?_
    refine seq_skip rfl rfl h2 ?_
    refine seq_skip rfl rfl h2 ?_
    refine seq_skip rfl rfl h2 ?_
    refine seq_skipU rfl rfl ?_
    refine seq_skipU rfl rfl ?_
    refine seq_skipU rfl rfl ?_
    refine seq_skip rfl rfl h2 ?_
    refine seq_run0 (stp_pick_f rfl (bFF h9) rfl) ?_
    exact ⟨false, H, ⟨rfl, rfl, rfl, rfl, trivial⟩, trivial⟩
  ·rintro v10 H
   replace H : internal_strconv_underscoreOK_J2 v1 v10 = some r := H
   unfold internal_strconv_underscoreOK_J2 at H
   refine awp_cond _ rfl (fun h11 => ?_) (fun h11 => ?_)
   ·replace H := ift h11 H
    refine awp_plain hN rfl ?_
    refine qd rfl ?_
    obtain ⟨l12, h13, H⟩ := bnd H
    refine seq_run0 (t_subS tyU9 rfl rfl rfl h13) ?_
    refine qe rfl ?_
    exact ⟨l12, H, ⟨rfl, rfl, rfl, trivial⟩, trivial⟩
   ·replace H := iff_ h11 H
    refine awp_skip ?_
    exact ⟨v1, H, ⟨rfl, rfl, rfl, trivial⟩, trivial⟩
 ·rintro v14 H
  replace H : internal_strconv_underscoreOK_J1 v14 = some r := H
  unfold internal_strconv_underscoreOK_J1 at H
  refine awp_seq ?_
  refine awp_plain hN rfl ?_
  refine qe rfl ?_
  refine awp_joinE (ι := Int × Int × Bool) (fun i => [(0, .dat (vstr v14)), (3, .dat (vval (.int .i32 i.1))), (4, .dat (vint i.2.1)), (5, .dat (vbool i.2.2))]) (fun i => []) (fun i => internal_strconv_underscoreOK_J3 v14 i.1 i.2.1 i.2.2 = some r) (fun i => rfl) ?_ ?_
  ·skip
   refine awp_joinE (ι := Bool) (fun i => [(0, .dat (vstr v14)), (3, .dat (vval (.int .i32 94))), (4, .dat (vint 0)), (5, .dat (vbool false)), (46, .dat (vbool i))]) (fun i => []) (fun i => internal_strconv_underscoreOK_J4 v14 i = some r) (fun i => rfl) ?_ ?_
   ·skip
    refine awp_plain hN rfl ?_
    refine qd rfl ?_
    refine seq_run0 (stp_len_str tyU9 rfl) ?_
    refine seq_run0 (stp_geq rfl rfl) ?_
    refine qd rfl ?_
    refine seq_split (j := 3) rfl rfl (fun h15 => ?_) (fun h15 => ?_) rfl
    ·have h16 := un1 h15
     replace H := ift h16 H
     refine seq_g0 rfl rfl h15 (stp_move (.dat _) rfl) ?_
     obtain ⟨x17, h18, H⟩ := bnd H
     refine seq_g0 rfl rfl h15 (t_byte tyU9 rfl rfl h18) ?_
     refine seq_g0 rfl rfl h15 (stp_eql rfl rfl) ?_
     refine seq_run0 (stp_pick_t rfl (bTT h16) rfl) ?_
     refine qd rfl ?_
     refine seq_split (j := 8) rfl rfl (fun h19 => ?_) (fun h19 => ?_) rfl
     ·have h20 := un1 h19
      replace H := ift h20 H
      refine seq_g0 rfl rfl h19 (stp_move (.dat _) rfl) ?_
      obtain ⟨x21, h22, H⟩ := bnd H
      refine seq_g0 rfl rfl h19 (t_byte tyU9 rfl rfl h22) ?_
      obtain ⟨r23, h24, H⟩ := bnd H
      refine seq_g0 rfl rfl h19 (stp_call (k_internal_strconv_lower (x21.toNat : Int) r23 h24) ⟨.inl rfl, trivial⟩) ?_
      refine seq_g0 rfl rfl h19 (stp_eql rfl rfl) ?_
      refine seq_g0 rfl rfl h19 (stp_move (.dat _) rfl) ?_
      refine seq_split (j := 13) rfl rfl (fun h25 => ?_) (fun h25 => ?_) rfl
      ·have h26 := un3 h25
       replace H := iff_ h26 H
       refine seq_g0 rfl rfl h25 (stp_move (.dat _) rfl) ?_
       refine seq_g0 rfl rfl h25 (t_byte tyU9 rfl rfl h22) ?_
       obtain ⟨r27, h28, H⟩ := bnd H
       refine seq_g0 rfl rfl h25 (stp_call (k_internal_strconv_lower (x21.toNat : Int) r27 h28) ⟨.inl rfl, trivial⟩) ?_
       refine seq_g0 rfl rfl h25 (stp_eql rfl rfl) ?_
       refine seq_g0 rfl rfl h19 (stp_pick_f rfl (bFF h26) rfl) ?_
       refine seq_g0 rfl rfl h19 (stp_move (.dat _) rfl) ?_
       refine seq_split (j := 19) rfl rfl (fun h29 => ?_) (fun h29 => ?_) rfl
       ·have h30 := un3 h29
        replace H := iff_ h30 H
        refine seq_g0 rfl rfl h29 (stp_move (.dat _) rfl) ?_
        refine seq_g0 rfl rfl h29 (t_byte tyU9 rfl rfl h22) ?_
        obtain ⟨r31, h32, H⟩ := bnd H
        refine seq_g0 rfl rfl h29 (stp_call (k_internal_strconv_lower (x21.toNat : Int) r31 h32) ⟨.inl rfl, trivial⟩) ?_
        refine seq_g0 rfl rfl h29 (stp_eql rfl rfl) ?_
        refine seq_g0 rfl rfl h19 (stp_pick_f rfl (bFF h30) rfl) ?_
        refine seq_run0 (stp_pick_t rfl (bTT h20) rfl) ?_
        exact ⟨decide (r31 = 120), H, ⟨rfl, rfl, rfl, rfl, rfl, trivial⟩, trivial⟩
       ·have h33 := un4 h29
        replace H := ift h33 H
        refine seq_skip rfl rfl h29 ?_
        refine seq_skip rfl rfl h29 ?_
        refine seq_skip rfl rfl h29 ?_
        refine seq_skip rfl rfl h29 ?_
        refine seq_g0 rfl rfl h19 (stp_pick_t rfl (bTT h33) rfl) ?_
        refine seq_run0 (stp_pick_t rfl (bTT h20) rfl) ?_
        exact ⟨true, H, ⟨rfl, rfl, rfl, rfl, rfl, trivial⟩, trivial⟩
      ·have h34 := un4 h25
       replace H := ift h34 H
       refine seq_skip rfl rfl h25 ?_
       refine seq_skip rfl rfl h25 ?_
       refine seq_skip rfl rfl h25 ?_
       refine seq_skip rfl rfl h25 ?_
       refine seq_g0 rfl rfl h19 (stp_pick_t rfl (bTT h34) rfl) ?_
       refine seq_g0 rfl rfl h19 (stp_move (.dat _) rfl) ?_
       refine seq_skip rfl rfl rfl ?_
       refine seq_skip rfl rfl rfl ?_
       refine seq_skip rfl rfl rfl ?_
       refine seq_skip rfl rfl rfl ?_
       refine seq_g0 rfl rfl h19 (stp_pick_t rfl rfl rfl) ?_
       refine seq_run0 (stp_pick_t rfl (bTT h20) rfl) ?_
       exact ⟨true, H, ⟨rfl, rfl, rfl, rfl, rfl, trivial⟩, trivial⟩
     ·have h35 := un2 h19
      replace H := iff_ h35 H
      refine seq_skip rfl rfl h19 ?_
      refine seq_skip rfl rfl h19 ?_
      refine seq_skip rfl rfl h19 ?_
      refine seq_skip rfl rfl h19 ?_
      refine seq_skip rfl rfl h19 ?_
      refine seq_skipU rfl rfl ?_
      refine seq_skipU rfl rfl ?_
      refine seq_skipU rfl rfl ?_
      refine seq_skipU rfl rfl ?_
      refine seq_skip rfl rfl h19 ?_
      refine seq_skip rfl rfl h19 ?_
      refine seq_skipU rfl rfl ?_
      refine seq_skipU rfl rfl ?_
      refine seq_skipU rfl rfl ?_
      refine seq_skipU rfl rfl ?_
      refine seq_skip rfl rfl h19 ?_
      refine seq_run0 (stp_pick_f rfl (bFF h35) rfl) ?_
      exact ⟨false, H, ⟨rfl, rfl, rfl, rfl, rfl, trivial⟩, trivial⟩
    ·have h36 := un2 h15
     replace H := iff_ h36 H
     refine seq_skip rfl rfl h15 ?_
     refine seq_skip rfl rfl h15 ?_
     refine seq_skip rfl rfl h15 ?_
     refine seq_run0 (stp_pick_f rfl (bFF h36) rfl) ?_
     refine qd rfl ?_
     refine seq_skip rfl rfl rfl ?_
     refine seq_skip rfl rfl rfl ?_
     refine seq_skip rfl rfl rfl ?_
     refine seq_skip rfl rfl rfl ?_
     refine seq_skip rfl rfl rfl ?_
     refine seq_skipU rfl rfl ?_
     refine seq_skipU rfl rfl ?_
     refine seq_skipU rfl rfl ?_
     refine seq_skipU rfl rfl ?_
     refine seq_skip rfl rfl rfl ?_
     refine seq_skip rfl rfl rfl ?_
     refine seq_skipU rfl rfl ?_
     refine seq_skipU rfl rfl ?_
     refine seq_skipU rfl rfl ?_
     refine seq_skipU rfl rfl ?_
     refine seq_skip rfl rfl rfl ?_
     refine seq_run0 (stp_pick_f rfl rfl rfl) ?_
     exact ⟨false, H, ⟨rfl, rfl, rfl, rfl, rfl, trivial⟩, trivial⟩
   ·rintro v37 H
    replace H : internal_strconv_underscoreOK_J4 v14 v37 = some r := H
    unfold internal_strconv_underscoreOK_J4 at H
    refine awp_cond _ rfl (fun h38 => ?_) (fun h38 => ?_)
    ·replace H := ift h38 H
     refine awp_seq ?_
     refine awp_plain hN rfl ?_
     refine qe rfl ?_
     refine awp_seq ?_
     refine awp_plain hN rfl ?_
     refine qe rfl ?_
     refine awp_plain hN rfl ?_
     refine qd rfl ?_
     obtain ⟨x39, h40, H⟩ := bnd H
     refine seq_run0 (t_byte tyU9 rfl rfl h40) ?_
     obtain ⟨r41, h42, H⟩ := bnd H
     refine seq_run0 (stp_call (k_internal_strconv_lower (x39.toNat : Int) r41 h42) ⟨.inl rfl, trivial⟩) ?_
     refine seq_run0 (stp_eql rfl rfl) ?_
     refine qe rfl ?_
     exact ⟨(48, 2, decide (r41 = 120)), H, ⟨rfl, rfl, rfl, rfl, trivial⟩, trivial⟩
    ·replace H := iff_ h38 H
     refine awp_skip ?_
     exact ⟨(94, 0, false), H, ⟨rfl, rfl, rfl, rfl, trivial⟩, trivial⟩
  ·rintro ⟨v43, v44, v45⟩ H
   replace H : internal_strconv_underscoreOK_J3 v14 v43 v44 v45 = some r := H
   unfold internal_strconv_underscoreOK_J3 at H
   refine awp_joinE (ι := Int) (fun i => [(3, .dat (vval (.int .i32 i)))]) (fun i => []) (fun i => internal_strconv_underscoreOK_J5 i = some r) (fun i => rfl) ?_ ?_
   ·skip
    refine awp_block ?_
    refine awp_iter (fun (s : Int × Int) => [(0, .dat (vstr v14)), (3, .dat (vval (.int .i32 s.1))), (4, .dat (vint s.2)), (5, .dat (vbool v45))]) (fun (s : Int × Int) => []) (v43, v44) H ⟨rfl, rfl, rfl, rfl, trivial⟩ trivial (fun _ => rfl) ?_
    rintro ⟨v46, v47⟩ q48 H hq48
    replace H : internal_strconv_underscoreOK_L6 v14 v45 v46 v47 = some q48 := H
    unfold internal_strconv_underscoreOK_L6 at H
    refine awp_seq ?_
    refine awp_seq ?_
    refine awp_plain hN rfl ?_
    refine qd rfl ?_
    refine qd rfl ?_
    refine seq_run0 (stp_len_str tyU9 rfl) ?_
    refine seq_run0 (stp_lss rfl rfl) ?_
    refine awp_cond _ rfl (fun h49 => ?_) (fun h49 => ?_)
    ·replace H := ift h49 H
     refine awp_skip ?_
     refine awp_joinE (ι := Int) (fun i => [(0, .dat (vstr v14)), (3, .dat (vval (.int .i32 i))), (4, .dat (vint v47)), (5, .dat (vbool v45))]) (fun i => []) (fun i => internal_strconv_underscoreOK_J7 v47 i = some q48) (fun i => rfl) ?_ ?_
     ·skip
      refine awp_block ?_
      refine awp_seq ?_
      refine awp_joinE (ι := Bool) (fun i => [(0, .dat (vstr v14)), (3, .dat (vval (.int .i32 v46))), (4, .dat (vint v47)), (5, .dat (vbool v45)), (83, .dat (vbool i))]) (fun i => []) (fun i => internal_strconv_underscoreOK_J8 v14 v46 v47 i = some q48) (fun i => rfl) ?_ ?_
      ·skip
       refine awp_plain hN rfl ?_
       refine qd rfl ?_
       refine qd rfl ?_
       obtain ⟨x50, h51, H⟩ := bnd H
       refine seq_run0 (t_byteI tyU9 rfl rfl h51) ?_
       refine seq_run0 (stp_leq rfl rfl) ?_
       refine qd rfl ?_
       refine seq_split (j := 4) rfl rfl (fun h52 => ?_) (fun h52 => ?_) rfl
       ·have h53 := un1 h52
        replace H := ift h53 H
        refine seq_g0 rfl rfl h52 (stp_move (.dat _) rfl) ?_
        refine seq_g0 rfl rfl h52 (stp_move (.dat _) rfl) ?_
        refine seq_g0 rfl rfl h52 (t_byteI tyU9 rfl rfl h51) ?_
        refine seq_g0 rfl rfl h52 (stp_leq rfl rfl) ?_
        refine seq_run0 (stp_pick_t rfl (bTT h53) rfl) ?_
        refine qd rfl ?_
        refine seq_split (j := 10) rfl rfl (fun h54 => ?_) (fun h54 => ?_) rfl
        ·have h55 := un3 h54
         replace H := iff_ h55 H
         refine seq_g0 rfl rfl h54 (stp_move (.dat _) rfl) ?_
         refine seq_g0 rfl rfl h54 (stp_move (.dat _) rfl) ?_
         refine seq_split (j := 12) rfl rfl (fun h56 => ?_) (fun h56 => ?_) rfl
         ·have h57 := un1 h56
          replace H := ift h57 H
          refine seq_g0 rfl rfl h56 (stp_move (.dat _) rfl) ?_
          refine seq_g0 rfl rfl h56 (stp_move (.dat _) rfl) ?_
          refine seq_g0 rfl rfl h56 (t_byteI tyU9 rfl rfl h51) ?_
          obtain ⟨r58, h59, H⟩ := bnd H
          refine seq_g0 rfl rfl h56 (stp_call (k_internal_strconv_lower (x50.toNat : Int) r58 h59) ⟨.inl rfl, trivial⟩) ?_
          refine seq_g0 rfl rfl h56 (stp_leq rfl rfl) ?_
          refine seq_g0 rfl rfl h54 (stp_pick_t rfl (bTT h57) rfl) ?_
          refine seq_g0 rfl rfl h54 (stp_move (.dat _) rfl) ?_
          refine seq_split (j := 19) rfl rfl (fun h60 => ?_) (fun h60 => ?_) rfl
          ·have h61 := un1 h60
           replace H := ift h61 H
           refine seq_g0 rfl rfl h60 (stp_move (.dat _) rfl) ?_
           refine seq_g0 rfl rfl h60 (stp_move (.dat _) rfl) ?_
           refine seq_g0 rfl rfl h60 (t_byteI tyU9 rfl rfl h51) ?_
           obtain ⟨r62, h63, H⟩ := bnd H
           refine seq_g0 rfl rfl h60 (stp_call (k_internal_strconv_lower (x50.toNat : Int) r62 h63) ⟨.inl rfl, trivial⟩) ?_
           refine seq_g0 rfl rfl h60 (stp_leq rfl rfl) ?_
           refine seq_g0 rfl rfl h54 (stp_pick_t rfl (bTT h61) rfl) ?_
           refine seq_run0 (stp_pick_f rfl (bFF h55) rfl) ?_
           exact ⟨decide (r62 ≤ 102), H, ⟨rfl, rfl, rfl, rfl, rfl, trivial⟩, trivial⟩
          ·have h64 := un2 h60
           replace H := iff_ h64 H
           refine seq_skip rfl rfl h60 ?_
           refine seq_skip rfl rfl h60 ?_
           refine seq_skip rfl rfl h60 ?_
           refine seq_skip rfl rfl h60 ?_
           refine seq_skip rfl rfl h60 ?_
           refine seq_g0 rfl rfl h54 (stp_pick_f rfl (bFF h64) rfl) ?_
           refine seq_run0 (stp_pick_f rfl (bFF h55) rfl) ?_
           exact ⟨false, H, ⟨rfl, rfl, rfl, rfl, rfl, trivial⟩, trivial⟩
         ·have h65 := un2 h56
          replace H := iff_ h65 H
          refine seq_skip rfl rfl h56 ?_
          refine seq_skip rfl rfl h56 ?_
          refine seq_skip rfl rfl h56 ?_
          refine seq_skip rfl rfl h56 ?_
          refine seq_skip rfl rfl h56 ?_
          refine seq_g0 rfl rfl h54 (stp_pick_f rfl (bFF h65) rfl) ?_
          refine seq_g0 rfl rfl h54 (stp_move (.dat _) rfl) ?_
          refine seq_skip rfl rfl rfl ?_
          refine seq_skip rfl rfl rfl ?_
          refine seq_skip rfl rfl rfl ?_
          refine seq_skip rfl rfl rfl ?_
          refine seq_skip rfl rfl rfl ?_
          refine seq_g0 rfl rfl h54 (stp_pick_f rfl rfl rfl) ?_
          refine seq_run0 (stp_pick_f rfl (bFF h55) rfl) ?_
          exact ⟨false, H, ⟨rfl, rfl, rfl, rfl, rfl, trivial⟩, trivial⟩
        ·have h66 := un4 h54
         replace H := ift h66 H
         refine seq_skip rfl rfl h54 ?_
         refine seq_skip rfl rfl h54 ?_
         refine seq_skipU rfl rfl ?_
         refine seq_skipU rfl rfl ?_
         refine seq_skipU rfl rfl ?_
         refine seq_skipU rfl rfl ?_
         refine seq_skipU rfl rfl ?_
         refine seq_skip rfl rfl h54 ?_
         refine seq_skip rfl rfl h54 ?_
         refine seq_skipU rfl rfl ?_
         refine seq_skipU rfl rfl ?_
         refine seq_skipU rfl rfl ?_
         refine seq_skipU rfl rfl ?_
         refine seq_skipU rfl rfl ?_
         refine seq_skip rfl rfl h54 ?_
         refine seq_run0 (stp_pick_t rfl (bTT h66) rfl) ?_
         exact ⟨true, H, ⟨rfl, rfl, rfl, rfl, rfl, trivial⟩, trivial⟩
       ·have h67 := un2 h52
        replace H := iff_ h67 H
        refine seq_skip rfl rfl h52 ?_
        refine seq_skip rfl rfl h52 ?_
        refine seq_skip rfl rfl h52 ?_
        refine seq_skip rfl rfl h52 ?_
        refine seq_run0 (stp_pick_f rfl (bFF h67) rfl) ?_
        refine qd rfl ?_
        refine seq_g0 rfl rfl rfl (stp_move (.dat _) rfl) ?_
        refine seq_g0 rfl rfl rfl (stp_move (.dat _) rfl) ?_
        refine seq_split (j := 12) rfl rfl (fun h68 => ?_) (fun h68 => ?_) rfl
        ·have h69 := un1 h68
         replace H := ift h69 H
         refine seq_g0 rfl rfl h68 (stp_move (.dat _) rfl) ?_
         refine seq_g0 rfl rfl h68 (stp_move (.dat _) rfl) ?_
         refine seq_g0 rfl rfl h68 (t_byteI tyU9 rfl rfl h51) ?_
         obtain ⟨r70, h71, H⟩ := bnd H
         refine seq_g0 rfl rfl h68 (stp_call (k_internal_strconv_lower (x50.toNat : Int) r70 h71) ⟨.inl rfl, trivial⟩) ?_
         refine seq_g0 rfl rfl h68 (stp_leq rfl rfl) ?_
         refine seq_g0 rfl rfl rfl (stp_pick_t rfl (bTT h69) rfl) ?_
         refine seq_g0 rfl rfl rfl (stp_move (.dat _) rfl) ?_
         refine seq_split (j := 19) rfl rfl (fun h72 => ?_) (fun h72 => ?_) rfl
         ·have h73 := un1 h72
          replace H := ift h73 H
          refine seq_g0 rfl rfl h72 (stp_move (.dat _) rfl) ?_
          refine seq_g0 rfl rfl h72 (stp_move (.dat _) rfl) ?_
          refine seq_g0 rfl rfl h72 (t_byteI tyU9 rfl rfl h51) ?_
          obtain ⟨r74, h75, H⟩ := bnd H
          refine seq_g0 rfl rfl h72 (stp_call (k_internal_strconv_lower (x50.toNat : Int) r74 h75) ⟨.inl rfl, trivial⟩) ?_
          refine seq_g0 rfl rfl h72 (stp_leq rfl rfl) ?_
          refine seq_g0 rfl rfl rfl (stp_pick_t rfl (bTT h73) rfl) ?_
          refine seq_run0 (stp_pick_f rfl rfl rfl) ?_
          exact ⟨decide (r74 ≤ 102), H, ⟨rfl, rfl, rfl, rfl, rfl, trivial⟩, trivial⟩
         ·have h76 := un2 h72
          replace H := iff_ h76 H
          refine seq_skip rfl rfl h72 ?_
          refine seq_skip rfl rfl h72 ?_
          refine seq_skip rfl rfl h72 ?_
          refine seq_skip rfl rfl h72 ?_
          refine seq_skip rfl rfl h72 ?_
          refine seq_g0 rfl rfl rfl (stp_pick_f rfl (bFF h76) rfl) ?_
          refine seq_run0 (stp_pick_f rfl rfl rfl) ?_
          exact ⟨false, H, ⟨rfl, rfl, rfl, rfl, rfl, trivial⟩, trivial⟩
        ·have h77 := un2 h68
         replace H := iff_ h77 H
         refine seq_skip rfl rfl h68 ?_
         refine seq_skip rfl rfl h68 ?_
         refine seq_skip rfl rfl h68 ?_
         refine seq_skip rfl rfl h68 ?_
         refine seq_skip rfl rfl h68 ?_
         refine seq_g0 rfl rfl rfl (stp_pick_f rfl (bFF h77) rfl) ?_
         refine seq_g0 rfl rfl rfl (stp_move (.dat _) rfl) ?_
         refine seq_skip rfl rfl rfl ?_
         refine seq_skip rfl rfl rfl ?_
         refine seq_skip rfl rfl rfl ?_
         refine seq_skip rfl rfl rfl ?_
         refine seq_skip rfl rfl rfl ?_
         refine seq_g0 rfl rfl rfl (stp_pick_f rfl rfl rfl) ?_
         refine seq_run0 (stp_pick_f rfl rfl rfl) ?_
         exact ⟨false, H, ⟨rfl, rfl, rfl, rfl, rfl, trivial⟩, trivial⟩
      ·rintro v78 H
       replace H : internal_strconv_underscoreOK_J8 v14 v46 v47 v78 = some q48 := H
       unfold internal_strconv_underscoreOK_J8 at H
       refine awp_cond _ rfl (fun h79 => ?_) (fun h79 => ?_)
       ·replace H := ift h79 H
        refine awp_seq ?_
        refine awp_plain hN rfl ?_
        refine qe rfl ?_
        refine awp_exit ?_
        exact ⟨48, H, ⟨rfl, rfl, rfl, rfl, trivial⟩, trivial⟩
       ·replace H := iff_ h79 H
        refine awp_skip ?_
        refine awp_seq ?_
        refine awp_seq ?_
        refine awp_plain hN rfl ?_
        refine qd rfl ?_
        refine qd rfl ?_
        obtain ⟨x80, h81, H⟩ := bnd H
        refine seq_run0 (t_byteI tyU9 rfl rfl h81) ?_
        refine seq_run0 (stp_eql rfl rfl) ?_
        refine awp_cond _ rfl (fun h82 => ?_) (fun h82 => ?_)
        ·replace H := ift h82 H
         refine awp_seq ?_
         refine awp_seq ?_
         refine awp_plain hN rfl ?_
         refine qd rfl ?_
         refine seq_run0 (stp_neq rfl rfl) ?_
         refine awp_cond _ rfl (fun h83 => ?_) (fun h83 => ?_)
         ·replace H := ift h83 H
          refine awp_seq ?_
          refine awp_plain hN rfl ?_
          refine qe rfl ?_
          refine awp_ret ?_
          replace H := retl H hq48
          cases H
          exact ⟨trivial, .inl rfl, trivial⟩
         ·replace H := iff_ h83 H
          refine awp_skip ?_
          refine awp_seq ?_
          refine awp_plain hN rfl ?_
          refine qe rfl ?_
          refine awp_exit ?_
          exact ⟨95, H, ⟨rfl, rfl, rfl, rfl, trivial⟩, trivial⟩
        ·replace H := iff_ h82 H
         refine awp_skip ?_
         refine awp_seq ?_
         refine awp_seq ?_
         refine awp_plain hN rfl ?_
         refine qd rfl ?_
         refine seq_run0 (stp_eql rfl rfl) ?_
         refine awp_cond _ rfl (fun h84 => ?_) (fun h84 => ?_)
         ·replace H := ift h84 H
          refine awp_seq ?_
          refine awp_plain hN rfl ?_
          refine qe rfl ?_
          refine awp_ret ?_
          replace H := retl H hq48
          cases H
          exact ⟨trivial, .inl rfl, trivial⟩
         ·replace H := iff_ h84 H
          refine awp_skip ?_
          refine awp_plain hN rfl ?_
          refine qe rfl ?_
          exact ⟨33, H, ⟨rfl, rfl, rfl, rfl, trivial⟩, trivial⟩
     ·rintro v85 H
      replace H : internal_strconv_underscoreOK_J7 v47 v85 = some q48 := H
      unfold internal_strconv_underscoreOK_J7 at H
      refine awp_plain hN rfl ?_
      refine qd rfl ?_
      refine seq_run0 (stp_wrap _ rfl rfl (.inl ⟨rfl, rfl⟩)) ?_
      refine qe rfl ?_
      exact ⟨_, backl H, ⟨rfl, rfl, rfl, rfl, trivial⟩, trivial⟩
    ·replace H := iff_ h49 H
     refine awp_exit ?_
     replace H := outl H hq48
     exact ⟨v46, H, ⟨rfl, trivial⟩, trivial⟩
   ·rintro v86 H
    replace H : internal_strconv_underscoreOK_J5 v86 = some r := H
    unfold internal_strconv_underscoreOK_J5 at H
    refine awp_seq ?_
    refine awp_plain hN rfl ?_
    refine qd rfl ?_
    refine seq_run0 (stp_neq rfl rfl) ?_
    refine qe rfl ?_
    refine awp_ret ?_
    cases H
    exact ⟨trivial, .inl rfl, trivial⟩
theorem k_internal_strconv_ParseUint (v1 : Bs) (v2 : Int) (v3 : Int) (r : (Int × Int)) (H : m_internal_strconv_ParseUint v1 v2 v3 = some r) : Fn Tryz.prog 146 [vstr v1, vint v2, vint v3] (resOf [vval (.int .u64 r.1), verr r.2]) := by
 refine ⟨by kernel_rfl, pure_of (us := [vval (.int .u64 r.1), verr r.2]) Tryz.func146 rfl rfl rfl rfl fun X hN => ?_⟩
 unfold m_internal_strconv_ParseUint at H
 refine awp_seq ?_
 refine awp_plain hN rfl ?_
 refine qe rfl ?_
 refine qe rfl ?_
 refine awp_seq ?_
 refine awp_seq ?_
 refine awp_plain hN rfl ?_
 refine qd rfl ?_
 refine seq_run0 (stp_seql rfl rfl) ?_
 refine awp_cond _ rfl (fun h4 => ?_) (fun h4 => ?_)
 ·replace H := ift h4 H
  refine awp_seq ?_
  refine awp_plain hN rfl ?_
  refine seq_run0 (stp_dat (u' := verr 2) (stp_mkErr (show Tryz.prog.underlying 147 = some (.int .i64) from by kernel_rfl) rfl) rfl) ?_
  refine qe rfl ?_
  refine qe rfl ?_
  refine awp_ret ?_
  cases H
  exact ⟨trivial, .inl rfl, .inl rfl, trivial⟩
 ·replace H := iff_ h4 H
  refine awp_skip ?_
  refine awp_seq ?_
  refine awp_plain hN rfl ?_
  refine qd rfl ?_
  refine seq_run0 (stp_eql rfl rfl) ?_
  refine qe rfl ?_
  refine awp_seq ?_
  refine awp_plain hN rfl ?_
  refine qd rfl ?_
  refine qe rfl ?_
  refine awp_joinE (ι := Bs × Int) (fun i => [(0, .dat (vstr i.1)), (1, .dat (vint i.2)), (2, .dat (vint v3)), (8, .dat (vbool (decide (v2 = 0)))), (9, .dat (vstr v1))]) (fun i => []) (fun i => internal_strconv_ParseUint_J1 v1 v2 v3 i.1 i.2 = some r) (fun i => rfl) ?_ ?_
  ·skip
   refine awp_block ?_
   refine awp_seq ?_
   refine awp_plain hN rfl ?_
   refine qd rfl ?_
   refine seq_run0 (stp_leq rfl rfl) ?_
   refine qd rfl ?_
   refine seq_aT rfl rfl (fun hc => stp_move (.dat _) rfl) ?_
   refine seq_aT rfl rfl (fun hc => stp_leq (cnd (c := (decide (2 ≤ v2))) hc) rfl) ?_
   refine seq_run0 (stp_pick_and rfl (fun hb => (cnd (c := (decide (2 ≤ v2))) hb)) rfl) ?_
   refine qe rfl ?_
   refine awp_cond _ rfl (fun h5 => ?_) (fun h5 => ?_)
   ·replace H := ift h5 H
    refine awp_skip ?_
    exact ⟨(v1, v2), H, ⟨rfl, rfl, rfl, rfl, rfl, trivial⟩, trivial⟩
   ·replace H := iff_ h5 H
    refine awp_seq ?_
    refine awp_plain hN rfl ?_
    refine qd rfl ?_
    refine seq_run0 (stp_eql rfl rfl) ?_
    refine qe rfl ?_
    refine awp_cond _ rfl (fun h6 => ?_) (fun h6 => ?_)
    ·replace H := ift h6 H
     refine awp_seq ?_
     refine awp_plain hN rfl ?_
     refine qe rfl ?_
     refine awp_seq ?_
     refine awp_plain hN rfl ?_
     refine qd rfl ?_
     obtain ⟨x7, h8, H⟩ := bnd H
     refine seq_run0 (t_byte tyU9 rfl rfl h8) ?_
     refine seq_run0 (stp_eql rfl rfl) ?_
     refine awp_cond _ rfl (fun h9 => ?_) (fun h9 => ?_)
     ·replace H := ift h9 H
      refine awp_block ?_
      refine awp_joinE (ι := Bool) (fun i => [(0, .dat (vstr v1)), (2, .dat (vint v3)), (8, .dat (vbool (decide (v2 = 0)))), (9, .dat (vstr v1)), (40, .dat (vbool i))]) (fun i => []) (fun i => internal_strconv_ParseUint_J2 v1 v2 v3 i = some r) (fun i => rfl) ?_ ?_
      ·skip
       refine awp_plain hN rfl ?_
       refine qd rfl ?_
       refine seq_run0 (stp_len_str tyU9 rfl) ?_
       refine seq_run0 (stp_geq rfl rfl) ?_
       refine qd rfl ?_
       refine seq_split (j := 3) rfl rfl (fun h10 => ?_) (fun h10 => ?_) rfl
       ·have h11 := un1 h10
        replace H := ift h11 H
        refine seq_g0 rfl rfl h10 (stp_move (.dat _) rfl) ?_
        obtain ⟨x12, h13, H⟩ := bnd H
        refine seq_g0 rfl rfl h10 (t_byte tyU9 rfl rfl h13) ?_
        obtain ⟨r14, h15, H⟩ := bnd H
        refine seq_g0 rfl rfl h10 (stp_call (k_internal_strconv_lower (x12.toNat : Int) r14 h15) ⟨.inl rfl, trivial⟩) ?_
        refine seq_g0 rfl rfl h10 (stp_eql rfl rfl) ?_
        refine seq_run0 (stp_pick_t rfl (bTT h11) rfl) ?_
        refine qe rfl ?_
        exact ⟨decide (r14 = 98), H, ⟨rfl, rfl, rfl, rfl, rfl, trivial⟩, trivial⟩
       ·have h16 := un2 h10
        replace H := iff_ h16 H
        refine seq_skip rfl rfl h10 ?_
        refine seq_skip rfl rfl h10 ?_
        refine seq_skip rfl rfl h10 ?_
        refine seq_skip rfl rfl h10 ?_
        refine seq_run0 (stp_pick_f rfl (bFF h16) rfl) ?_
        refine qe rfl ?_
        exact ⟨false, H, ⟨rfl, rfl, rfl, rfl, rfl, trivial⟩, trivial⟩
      ·rintro v17 H
       replace H : internal_strconv_ParseUint_J2 v1 v2 v3 v17 = some r := H
       unfold internal_strconv_ParseUint_J2 at H
       refine awp_cond _ rfl (fun h18 => ?_) (fun h18 => ?_)
       ·replace H := ift h18 H
        refine awp_seq ?_
        refine awp_plain hN rfl ?_
        refine qe rfl ?_
        refine awp_plain hN rfl ?_
        refine qd rfl ?_
        obtain ⟨l19, h20, H⟩ := bnd H
        refine seq_run0 (t_subS tyU9 rfl rfl rfl h20) ?_
        refine qe rfl ?_
        exact ⟨(l19, 2), H, ⟨rfl, rfl, rfl, rfl, rfl, trivial⟩, trivial⟩
       ·replace H := iff_ h18 H
        refine awp_joinE (ι := Bool) (fun i => [(0, .dat (vstr v1)), (2, .dat (vint v3)), (8, .dat (vbool (decide (v2 = 0)))), (9, .dat (vstr v1)), (52, .dat (vbool i))]) (fun i => []) (fun i => internal_strconv_ParseUint_J3 v1 v2 v3 i = some r) (fun i => rfl) ?_ ?_
        ·skip
         refine awp_plain hN rfl ?_
         refine qd rfl ?_
         refine seq_run0 (stp_len_str tyU9 rfl) ?_
         refine seq_run0 (stp_geq rfl rfl) ?_
         refine qd rfl ?_
         refine seq_split (j := 3) rfl rfl (fun h21 => ?_) (fun h21 => ?_) rfl
         ·have h22 := un1 h21
          replace H := ift h22 H
          refine seq_g0 rfl rfl h21 (stp_move (.dat _) rfl) ?_
          obtain ⟨x23, h24, H⟩ := bnd H
          refine seq_g0 rfl rfl h21 (t_byte tyU9 rfl rfl h24) ?_
          obtain ⟨r25, h26, H⟩ := bnd H
          refine seq_g0 rfl rfl h21 (stp_call (k_internal_strconv_lower (x23.toNat : Int) r25 h26) ⟨.inl rfl, trivial⟩) ?_
          refine seq_g0 rfl rfl h21 (stp_eql rfl rfl) ?_
          refine seq_run0 (stp_pick_t rfl (bTT h22) rfl) ?_
          refine qe rfl ?_
          exact ⟨decide (r25 = 111), H, ⟨rfl, rfl, rfl, rfl, rfl, trivial⟩, trivial⟩
         ·have h27 := un2 h21
          replace H := iff_ h27 H
          refine seq_skip rfl rfl h21 ?_
          refine seq_skip rfl rfl h21 ?_
          refine seq_skip rfl rfl h21 ?_
          refine seq_skip rfl rfl h21 ?_
          refine seq_run0 (stp_pick_f rfl (bFF h27) rfl) ?_
          refine qe rfl ?_
          exact ⟨false, H, ⟨rfl, rfl, rfl, rfl, rfl, trivial⟩, trivial⟩
        ·rintro v28 H
         replace H : internal_strconv_ParseUint_J3 v1 v2 v3 v28 = some r := H
         unfold internal_strconv_ParseUint_J3 at H
         refine awp_cond _ rfl (fun h29 => ?_) (fun h29 => ?_)
         ·replace H := ift h29 H
          refine awp_seq ?_
          refine awp_plain hN rfl ?_
          refine qe rfl ?_
          refine awp_plain hN rfl ?_
          refine qd rfl ?_
          obtain ⟨l30, h31, H⟩ := bnd H
          refine seq_run0 (t_subS tyU9 rfl rfl rfl h31) ?_
          refine qe rfl ?_
          exact ⟨(l30, 8), H, ⟨rfl, rfl, rfl, rfl, rfl, trivial⟩, trivial⟩
         ·replace H := iff_ h29 H
          refine awp_joinE (ι := Bool) (fun i => [(0, .dat (vstr v1)), (2, .dat (vint v3)), (8, .dat (vbool (decide (v2 = 0)))), (9, .dat (vstr v1)), (64, .dat (vbool i))]) (fun i => []) (fun i => internal_strconv_ParseUint_J4 v1 v2 v3 i = some r) (fun i => rfl) ?_ ?_
          ·skip
           refine awp_plain hN rfl ?_
           refine qd rfl ?_
           refine seq_run0 (stp_len_str tyU9 rfl) ?_
           refine seq_run0 (stp_geq rfl rfl) ?_
           refine qd rfl ?_
           refine seq_split (j := 3) rfl rfl (fun h32 => ?_) (fun h32 => ?_) rfl
           ·have h33 := un1 h32
            replace H := ift h33 H
            refine seq_g0 rfl rfl h32 (stp_move (.dat _) rfl) ?_
            obtain ⟨x34, h35, H⟩ := bnd H
            refine seq_g0 rfl rfl h32 (t_byte tyU9 rfl rfl h35) ?_
            obtain ⟨r36, h37, H⟩ := bnd H
            refine seq_g0 rfl rfl h32 (stp_call (k_internal_strconv_lower (x34.toNat : Int) r36 h37) ⟨.inl rfl, trivial⟩) ?_
            refine seq_g0 rfl rfl h32 (stp_eql rfl rfl) ?_
            refine seq_run0 (stp_pick_t rfl (bTT h33) rfl) ?_
            refine qe rfl ?_
            exact ⟨decide (r36 = 120), H, ⟨rfl, rfl, rfl, rfl, rfl, trivial⟩, trivial⟩
           ·have h38 := un2 h32
            replace H := iff_ h38 H
            refine seq_skip rfl rfl h32 ?_
            refine seq_skip rfl rfl h32 ?_
            refine seq_skip rfl rfl h32 ?_
            refine seq_skip rfl rfl h32 ?_
            refine seq_run0 (stp_pick_f rfl (bFF h38) rfl) ?_
            refine qe rfl ?_
            exact ⟨false, H, ⟨rfl, rfl, rfl, rfl, rfl, trivial⟩, trivial⟩
          ·rintro v39 H
           replace H : internal_strconv_ParseUint_J4 v1 v2 v3 v39 = some r := H
           unfold internal_strconv_ParseUint_J4 at H
           refine awp_cond _ rfl (fun h40 => ?_) (fun h40 => ?_)
           ·replace H := ift h40 H
            refine awp_seq ?_
            refine awp_plain hN rfl ?_
            refine qe rfl ?_
            refine awp_plain hN rfl ?_
            refine qd rfl ?_
            obtain ⟨l41, h42, H⟩ := bnd H
            refine seq_run0 (t_subS tyU9 rfl rfl rfl h42) ?_
            refine qe rfl ?_
            exact ⟨(l41, 16), H, ⟨rfl, rfl, rfl, rfl, rfl, trivial⟩, trivial⟩
           ·replace H := iff_ h40 H
            refine awp_seq ?_
            refine awp_plain hN rfl ?_
            refine qe rfl ?_
            refine awp_plain hN rfl ?_
            refine qd rfl ?_
            obtain ⟨l43, h44, H⟩ := bnd H
            refine seq_run0 (t_subS tyU9 rfl rfl rfl h44) ?_
            refine qe rfl ?_
            exact ⟨(l43, 8), H, ⟨rfl, rfl, rfl, rfl, rfl, trivial⟩, trivial⟩
     ·replace H := iff_ h9 H
      refine awp_skip ?_
      exact ⟨(v1, 10), H, ⟨rfl, rfl, rfl, rfl, rfl, trivial⟩, trivial⟩
    ·replace H := iff_ h6 H
     refine awp_seq ?_
     refine awp_plain hN rfl ?_
     refine seq_run0 (stp_dat (u' := verr 3) (stp_mkErr (show Tryz.prog.underlying 147 = some (.int .i64) from by kernel_rfl) rfl) rfl) ?_
     refine qe rfl ?_
     refine qe rfl ?_
     refine awp_ret ?_
     cases H
     exact ⟨trivial, .inl rfl, .inl rfl, trivial⟩
  ·rintro ⟨v45, v46⟩ H
   replace H : internal_strconv_ParseUint_J1 v1 v2 v3 v45 v46 = some r := H
   unfold internal_strconv_ParseUint_J1 at H
   refine awp_joinE (ι := Int) (fun i => [(0, .dat (vstr v45)), (1, .dat (vint v46)), (2, .dat (vint i)), (8, .dat (vbool (decide (v2 = 0)))), (9, .dat (vstr v1))]) (fun i => []) (fun i => internal_strconv_ParseUint_J5 v1 v2 v45 v46 i = some r) (fun i => rfl) ?_ ?_
   ·skip
    refine awp_seq ?_
    refine awp_plain hN rfl ?_
    refine qd rfl ?_
    refine seq_run0 (stp_eql rfl rfl) ?_
    refine awp_cond _ rfl (fun h47 => ?_) (fun h47 => ?_)
    ·replace H := ift h47 H
     refine awp_plain hN rfl ?_
     refine qe rfl ?_
     exact ⟨64, H, ⟨rfl, rfl, rfl, rfl, rfl, trivial⟩, trivial⟩
    ·replace H := iff_ h47 H
     refine awp_seq ?_
     refine awp_plain hN rfl ?_
     refine qd rfl ?_
     refine seq_run0 (stp_lss rfl rfl) ?_
     refine qd rfl ?_
     refine seq_aF rfl rfl (fun hc => stp_move (.dat _) rfl) ?_
     refine seq_aF rfl rfl (fun hc => stp_gtr (cnd (c := (!(decide (v3 < 0)))) hc) rfl) ?_
     refine seq_run0 (stp_pick_or rfl rfl (fun hb => (cnd (c := (!(decide (v3 < 0)))) (notI hb)))) ?_
     refine awp_cond _ rfl (fun h48 => ?_) (fun h48 => ?_)
     ·replace H := ift h48 H
      refine awp_seq ?_
      refine awp_plain hN rfl ?_
      refine seq_run0 (stp_dat (u' := verr 4) (stp_mkErr (show Tryz.prog.underlying 147 = some (.int .i64) from by kernel_rfl) rfl) rfl) ?_
      refine qe rfl ?_
      refine qe rfl ?_
      refine awp_ret ?_
      cases H
      exact ⟨trivial, .inl rfl, .inl rfl, trivial⟩
     ·replace H := iff_ h48 H
      refine awp_skip ?_
      exact ⟨v3, H, ⟨rfl, rfl, rfl, rfl, rfl, trivial⟩, trivial⟩
   ·rintro v49 H
    replace H : internal_strconv_ParseUint_J5 v1 v2 v45 v46 v49 = some r := H
    unfold internal_strconv_ParseUint_J5 at H
    refine awp_seq ?_
    refine awp_plain hN rfl ?_
    refine qe rfl ?_
    refine awp_joinE (ι := Int) (fun i => [(0, .dat (vstr v45)), (1, .dat (vint v46)), (2, .dat (vint v49)), (8, .dat (vbool (decide (v2 = 0)))), (9, .dat (vstr v1)), (10, .dat (vval (.int .u64 i)))]) (fun i => []) (fun i => internal_strconv_ParseUint_J6 v1 v2 v45 v46 v49 i = some r) (fun i => rfl) ?_ ?_
    ·skip
     refine awp_seq ?_
     refine awp_plain hN rfl ?_
     refine qd rfl ?_
     refine awp_block ?_
     refine awp_seq ?_
     refine awp_plain hN rfl ?_
     refine seq_run0 (stp_eql rfl rfl) ?_
     refine qe rfl ?_
     refine awp_cond _ rfl (fun h50 => ?_) (fun h50 => ?_)
     ·replace H := ift h50 H
      refine awp_plain hN rfl ?_
      refine qe rfl ?_
      exact ⟨1844674407370955162, H, ⟨rfl, rfl, rfl, rfl, rfl, rfl, trivial⟩, trivial⟩
     ·replace H := iff_ h50 H
      refine awp_seq ?_
      refine awp_plain hN rfl ?_
      refine seq_run0 (stp_eql rfl rfl) ?_
      refine qe rfl ?_
      refine awp_cond _ rfl (fun h51 => ?_) (fun h51 => ?_)
      ·replace H := ift h51 H
       refine awp_plain hN rfl ?_
       refine qe rfl ?_
       exact ⟨1152921504606846976, H, ⟨rfl, rfl, rfl, rfl, rfl, rfl, trivial⟩, trivial⟩
      ·replace H := iff_ h51 H
       refine awp_plain hN rfl ?_
       refine qd rfl ?_
       refine seq_run0 (stp_conv tyU3 tyU139 rfl) ?_
       obtain ⟨h52, H⟩ := gif H
       refine seq_run0 (stp_quoK rfl rfl h52) ?_
       refine seq_run0 (stp_wrap _ rfl rfl (.inl ⟨rfl, rfl⟩)) ?_
       refine qe rfl ?_
       exact ⟨IntKind.wrap .u64 ((IntKind.wrap .u64 (Int.tdiv 18446744073709551615 (IntKind.wrap .u64 v46))) + 1), H, ⟨rfl, rfl, rfl, rfl, rfl, rfl, trivial⟩, trivial⟩
    ·rintro v53 H
     replace H : internal_strconv_ParseUint_J6 v1 v2 v45 v46 v49 v53 = some r := H
     unfold internal_strconv_ParseUint_J6 at H
     refine awp_seq ?_
     refine awp_plain hN rfl ?_
     refine qd rfl ?_
     refine seq_run0 (stp_conv tyU3 tyU133 rfl) ?_
     obtain ⟨h54, H⟩ := gif H
     refine seq_run0 (stp_dat (stp_shl rfl rfl h54) rfl) ?_
     refine seq_run0 (stp_wrap _ rfl rfl (.inr (.inl ⟨rfl, rfl⟩))) ?_
     refine qe rfl ?_
     refine awp_seq ?_
     refine awp_plain hN rfl ?_
     refine qe rfl ?_
     refine awp_seq ?_
     refine awp_plain hN rfl ?_
     refine qe rfl ?_
     refine awp_seq ?_
     refine awp_seq ?_
     refine awp_plain hN rfl ?_
     refine qd rfl ?_
     refine seq_run0 (stp_convS2B (C := C_uint8) tyU9 tyU76 tyU5 (fun _ => rfl) rfl) ?_
     refine seq_run0 (t_len tyU76 rfl) ?_
     refine qd rfl ?_
     refine awp_block ?_
     obtain ⟨h59, H⟩ := gif H
     refine awp_forL (fun (k57 : Nat) (s : Bool × Int) => [(1, .dat (vint v46)), (8, .dat (vbool (decide (v2 = 0)))), (9, .dat (vstr v1)), (10, .dat (vval (.int .u64 v53))), (11, .dat (vval (.int .u64 (IntKind.wrap .u64 ((shl_ .u64 1 (IntKind.wrap .u64 v49)) - 1))))), (12, .dat (vbool s.1)), (13, .dat (vval (.int .u64 s.2))), (99, .dat (vlst (List.map C_uint8 (numsB v45)))), (100, .dat (vint ((numsB v45).length : Int))), (101, .dat (vint (k57 : Int)))]) (fun (k57 : Nat) (s : Bool × Int) => []) (false, 0) H ⟨rfl, rfl, rfl, rfl, rfl, rfl, rfl, rfl, rfl, rfl, trivial⟩ trivial (fun _ _ => rfl) ?_ ?_
     ·rintro ⟨v55, v56⟩ H
      replace H : internal_strconv_ParseUint_E7 v1 v55 v56 = some r := H
      unfold internal_strconv_ParseUint_E7 at H
      refine awp_seq ?_
      refine awp_plain hN rfl ?_
      refine seq_run0 (stp_lss rfl rfl) ?_
      refine awp_seq ?_
      refine awp_cond _ rfl (fun h => (lt_t h).elim) (fun h => ?_)
      refine awp_exit ?_
      refine awp_seq ?_
      refine awp_joinE (ι := Bool) (fun i => [(13, .dat (vval (.int .u64 v56))), (169, .dat (vbool i))]) (fun i => []) (fun i => internal_strconv_ParseUint_J8 v56 i = some r) (fun i => rfl) ?_ ?_
      ·skip
       refine awp_plain hN rfl ?_
       refine qd rfl ?_
       refine qd rfl ?_
       refine seq_split (j := 1) rfl rfl (fun h61 => ?_) (fun h61 => ?_) rfl
       ·have h62 := un1 h61
        replace H := ift h62 H
        refine seq_g0 rfl rfl h61 (stp_move (.dat _) rfl) ?_
        obtain ⟨r63, h64, H⟩ := bnd H
        refine seq_g0 rfl rfl h61 (stp_call (k_internal_strconv_underscoreOK v1 r63 h64) ⟨.inl rfl, trivial⟩) ?_
        refine seq_g0 rfl rfl h61 (stp_not rfl) ?_
        refine seq_run0 (stp_pick_t rfl (bTT h62) rfl) ?_
        exact ⟨!r63, H, ⟨rfl, rfl, trivial⟩, trivial⟩
       ·have h65 := un2 h61
        replace H := iff_ h65 H
        refine seq_skip rfl rfl h61 ?_
        refine seq_skip rfl rfl h61 ?_
        refine seq_skip rfl rfl h61 ?_
        refine seq_run0 (stp_pick_f rfl (bFF h65) rfl) ?_
        exact ⟨false, H, ⟨rfl, rfl, trivial⟩, trivial⟩
      ·rintro v66 H
       replace H : internal_strconv_ParseUint_J8 v56 v66 = some r := H
       unfold internal_strconv_ParseUint_J8 at H
       refine awp_cond _ rfl (fun h67 => ?_) (fun h67 => ?_)
       ·replace H := ift h67 H
        refine awp_seq ?_
        refine awp_plain hN rfl ?_
        refine seq_run0 (stp_dat (u' := verr 2) (stp_mkErr (show Tryz.prog.underlying 147 = some (.int .i64) from by kernel_rfl) rfl) rfl) ?_
        refine qe rfl ?_
        refine qe rfl ?_
        refine awp_ret ?_
        cases H
        exact ⟨trivial, .inl rfl, .inl rfl, trivial⟩
       ·replace H := iff_ h67 H
        refine awp_skip ?_
        refine awp_seq ?_
        refine awp_plain hN rfl ?_
        refine qd rfl ?_
        refine qe rfl ?_
        refine qe rfl ?_
        refine awp_ret ?_
        cases H
        exact ⟨trivial, .inl rfl, .inl rfl, trivial⟩
     ·rintro k57 x60 ⟨v55, v56⟩ q58 h68 h69 H hq58
      replace H : internal_strconv_ParseUint_L7 v2 v46 v49 v53 k57 x60 v55 v56 = some q58 := H
      unfold internal_strconv_ParseUint_L7 at H
      refine awp_seq ?_
      refine awp_plain hN rfl ?_
      refine seq_run0 (stp_lss rfl rfl) ?_
      refine awp_seq ?_
      refine awp_cond _ rfl (fun h => ?_) (fun h => (lt_f h68 h).elim)
      refine awp_skip ?_
      refine awp_joinE (ι := Bool × Int) (fun i => [(1, .dat (vint v46)), (8, .dat (vbool (decide (v2 = 0)))), (9, .dat (vstr v1)), (10, .dat (vval (.int .u64 v53))), (11, .dat (vval (.int .u64 (IntKind.wrap .u64 ((shl_ .u64 1 (IntKind.wrap .u64 v49)) - 1))))), (12, .dat (vbool i.1)), (13, .dat (vval (.int .u64 i.2))), (99, .dat (vlst (List.map C_uint8 (numsB v45)))), (100, .dat (vint ((numsB v45).length : Int))), (101, .dat (vint (k57 : Int)))]) (fun i => []) (fun i => internal_strconv_ParseUint_J9 i.1 i.2 = some q58) (fun i => rfl) ?_ ?_
      ·skip
       refine awp_block ?_
       refine awp_seq ?_
       refine awp_plain hN rfl ?_
       refine seq_run0 (t_idx tyE76 (fun _ => rfl) rfl rfl h69) ?_
       refine seq_run0 (stp_loadE1 tyS5 rfl (map_at h69) rfl) ?_
       refine qe rfl ?_
       refine awp_seq ?_
       refine awp_plain hN rfl ?_
       refine qe rfl ?_
       refine awp_joinE (ι := Int) (fun i => [(1, .dat (vint v46)), (8, .dat (vbool (decide (v2 = 0)))), (9, .dat (vstr v1)), (10, .dat (vval (.int .u64 v53))), (11, .dat (vval (.int .u64 (IntKind.wrap .u64 ((shl_ .u64 1 (IntKind.wrap .u64 v49)) - 1))))), (12, .dat (vbool v55)), (13, .dat (vval (.int .u64 v56))), (16, .dat (vval (.int .u8 i))), (99, .dat (vlst (List.map C_uint8 (numsB v45)))), (100, .dat (vint ((numsB v45).length : Int))), (101, .dat (vint (k57 : Int)))]) (fun i => []) (fun i => internal_strconv_ParseUint_J10 v46 v49 v53 v55 v56 i = some q58) (fun i => rfl) ?_ ?_
       ·skip
        refine awp_block ?_
        refine awp_seq ?_
        refine awp_plain hN rfl ?_
        refine qd rfl ?_
        refine seq_run0 (stp_eql rfl rfl) ?_
        refine qd rfl ?_
        refine seq_aT rfl rfl (fun hc => stp_move (.dat _) rfl) ?_
        refine seq_run0 (stp_pick_and rfl (fun hb => (cnd (c := (decide (x60 = 95))) hb)) rfl) ?_
        refine qe rfl ?_
        refine awp_cond _ rfl (fun h70 => ?_) (fun h70 => ?_)
        ·replace H := ift h70 H
         refine awp_seq ?_
         refine awp_plain hN rfl ?_
         refine qe rfl ?_
         refine awp_exit ?_
         exact ⟨(true, v56), H, ⟨rfl, rfl, rfl, rfl, rfl, rfl, rfl, rfl, rfl, rfl, trivial⟩, trivial⟩
        ·replace H := iff_ h70 H
         refine awp_seq ?_
         refine awp_plain hN rfl ?_
         refine qd rfl ?_
         refine seq_run0 (stp_leq rfl rfl) ?_
         refine qd rfl ?_
         refine seq_aT rfl rfl (fun hc => stp_move (.dat _) rfl) ?_
         refine seq_aT rfl rfl (fun hc => stp_leq (cnd (c := (decide (48 ≤ x60))) hc) rfl) ?_
         refine seq_run0 (stp_pick_and rfl (fun hb => (cnd (c := (decide (48 ≤ x60))) hb)) rfl) ?_
         refine qe rfl ?_
         refine awp_cond _ rfl (fun h71 => ?_) (fun h71 => ?_)
         ·replace H := ift h71 H
          refine awp_plain hN rfl ?_
          refine qd rfl ?_
          refine seq_run0 (stp_wrap _ rfl rfl (.inr (.inl ⟨rfl, rfl⟩))) ?_
          refine qe rfl ?_
          exact ⟨IntKind.wrap .u8 (x60 - 48), H, ⟨rfl, rfl, rfl, rfl, rfl, rfl, rfl, rfl, rfl, rfl, rfl, trivial⟩, trivial⟩
         ·replace H := iff_ h71 H
          refine awp_joinE (ι := Bool) (fun i => [(1, .dat (vint v46)), (8, .dat (vbool (decide (v2 = 0)))), (9, .dat (vstr v1)), (10, .dat (vval (.int .u64 v53))), (11, .dat (vval (.int .u64 (IntKind.wrap .u64 ((shl_ .u64 1 (IntKind.wrap .u64 v49)) - 1))))), (12, .dat (vbool v55)), (13, .dat (vval (.int .u64 v56))), (15, .dat (vval (.int .u8 x60))), (99, .dat (vlst (List.map C_uint8 (numsB v45)))), (100, .dat (vint ((numsB v45).length : Int))), (101, .dat (vint (k57 : Int))), (121, .dat (vbool i))]) (fun i => []) (fun i => internal_strconv_ParseUint_J11 v46 v49 v53 v55 v56 x60 i = some q58) (fun i => rfl) ?_ ?_
          ·skip
           refine awp_plain hN rfl ?_
           refine qd rfl ?_
           obtain ⟨r72, h73, H⟩ := bnd H
           refine seq_run0 (stp_call (k_internal_strconv_lower x60 r72 h73) ⟨.inl rfl, trivial⟩) ?_
           refine seq_run0 (stp_leq rfl rfl) ?_
           refine qd rfl ?_
           refine seq_split (j := 3) rfl rfl (fun h74 => ?_) (fun h74 => ?_) rfl
           ·have h75 := un1 h74
            replace H := ift h75 H
            refine seq_g0 rfl rfl h74 (stp_move (.dat _) rfl) ?_
            obtain ⟨r76, h77, H⟩ := bnd H
            refine seq_g0 rfl rfl h74 (stp_call (k_internal_strconv_lower x60 r76 h77) ⟨.inl rfl, trivial⟩) ?_
            refine seq_g0 rfl rfl h74 (stp_leq rfl rfl) ?_
            refine seq_run0 (stp_pick_t rfl (bTT h75) rfl) ?_
            refine qe rfl ?_
            exact ⟨decide (r76 ≤ 122), H, ⟨rfl, rfl, rfl, rfl, rfl, rfl, rfl, rfl, rfl, rfl, rfl, rfl, trivial⟩, trivial⟩
           ·have h78 := un2 h74
            replace H := iff_ h78 H
            refine seq_skip rfl rfl h74 ?_
            refine seq_skip rfl rfl h74 ?_
            refine seq_skip rfl rfl h74 ?_
            refine seq_run0 (stp_pick_f rfl (bFF h78) rfl) ?_
            refine qe rfl ?_
            exact ⟨false, H, ⟨rfl, rfl, rfl, rfl, rfl, rfl, rfl, rfl, rfl, rfl, rfl, rfl, trivial⟩, trivial⟩
          ·rintro v79 H
           replace H : internal_strconv_ParseUint_J11 v46 v49 v53 v55 v56 x60 v79 = some q58 := H
           unfold internal_strconv_ParseUint_J11 at H
           refine awp_cond _ rfl (fun h80 => ?_) (fun h80 => ?_)
           ·replace H := ift h80 H
            refine awp_plain hN rfl ?_
            refine qd rfl ?_
            obtain ⟨r81, h82, H⟩ := bnd H
            refine seq_run0 (stp_call (k_internal_strconv_lower x60 r81 h82) ⟨.inl rfl, trivial⟩) ?_
            refine seq_run0 (stp_wrap _ rfl rfl (.inr (.inl ⟨rfl, rfl⟩))) ?_
            refine seq_run0 (stp_wrap _ rfl rfl (.inl ⟨rfl, rfl⟩)) ?_
            refine qe rfl ?_
            exact ⟨IntKind.wrap .u8 ((IntKind.wrap .u8 (r81 - 97)) + 10), H, ⟨rfl, rfl, rfl, rfl, rfl, rfl, rfl, rfl, rfl, rfl, rfl, trivial⟩, trivial⟩
           ·replace H := iff_ h80 H
            refine awp_seq ?_
            refine awp_plain hN rfl ?_
            refine seq_run0 (stp_dat (u' := verr 2) (stp_mkErr (show Tryz.prog.underlying 147 = some (.int .i64) from by kernel_rfl) rfl) rfl) ?_
            refine qe rfl ?_
            refine qe rfl ?_
            refine awp_ret ?_
            replace H := retl H hq58
            cases H
            exact ⟨trivial, .inl rfl, .inl rfl, trivial⟩
       ·rintro v83 H
        replace H : internal_strconv_ParseUint_J10 v46 v49 v53 v55 v56 v83 = some q58 := H
        unfold internal_strconv_ParseUint_J10 at H
        refine awp_seq ?_
        refine awp_seq ?_
        refine awp_plain hN rfl ?_
        refine qd rfl ?_
        refine qd rfl ?_
        refine seq_run0 (stp_conv tyU3 tyU5 rfl) ?_
        refine seq_run0 (stp_geq rfl rfl) ?_
        refine awp_cond _ rfl (fun h84 => ?_) (fun h84 => ?_)
        ·replace H := ift h84 H
         refine awp_seq ?_
         refine awp_plain hN rfl ?_
         refine seq_run0 (stp_dat (u' := verr 2) (stp_mkErr (show Tryz.prog.underlying 147 = some (.int .i64) from by kernel_rfl) rfl) rfl) ?_
         refine qe rfl ?_
         refine qe rfl ?_
         refine awp_ret ?_
         replace H := retl H hq58
         cases H
         exact ⟨trivial, .inl rfl, .inl rfl, trivial⟩
        ·replace H := iff_ h84 H
         refine awp_skip ?_
         refine awp_seq ?_
         refine awp_seq ?_
         refine awp_plain hN rfl ?_
         refine qd rfl ?_
         refine qd rfl ?_
         refine seq_run0 (stp_geq rfl rfl) ?_
         refine awp_cond _ rfl (fun h85 => ?_) (fun h85 => ?_)
         ·replace H := ift h85 H
          refine awp_seq ?_
          refine awp_plain hN rfl ?_
          refine qd rfl ?_
          refine seq_run0 (stp_dat (u' := verr 1) (stp_mkErr (show Tryz.prog.underlying 147 = some (.int .i64) from by kernel_rfl) rfl) rfl) ?_
          refine qe rfl ?_
          refine qe rfl ?_
          refine awp_ret ?_
          replace H := retl H hq58
          cases H
          exact ⟨trivial, .inl rfl, .inl rfl, trivial⟩
         ·replace H := iff_ h85 H
          refine awp_skip ?_
          refine awp_seq ?_
          refine awp_plain hN rfl ?_
          refine qd rfl ?_
          refine qd rfl ?_
          refine seq_run0 (stp_conv tyU3 tyU139 rfl) ?_
          refine seq_run0 (stp_wrap _ rfl rfl (.inr (.inr ⟨rfl, rfl⟩))) ?_
          refine qe rfl ?_
          refine awp_seq ?_
          refine awp_plain hN rfl ?_
          refine qd rfl ?_
          refine qd rfl ?_
          refine seq_run0 (stp_conv tyU5 tyU139 rfl) ?_
          refine seq_run0 (stp_wrap _ rfl rfl (.inl ⟨rfl, rfl⟩)) ?_
          refine qe rfl ?_
          refine awp_seq ?_
          refine awp_seq ?_
          refine awp_plain hN rfl ?_
          refine qd rfl ?_
          refine qd rfl ?_
          refine seq_run0 (stp_lss rfl rfl) ?_
          refine qd rfl ?_
          refine seq_aF rfl rfl (fun hc => stp_move (.dat _) rfl) ?_
          refine seq_aF rfl rfl (fun hc => stp_move (.dat _) rfl) ?_
          refine seq_aF rfl rfl (fun hc => stp_gtr (cnd (c := (!(decide ((IntKind.wrap .u64 ((IntKind.wrap .u64 (v56 * (IntKind.wrap .u64 v46))) + (IntKind.wrap .u64 v83))) < (IntKind.wrap .u64 (v56 * (IntKind.wrap .u64 v46))))))) hc) (cnd (c := (!(decide ((IntKind.wrap .u64 ((IntKind.wrap .u64 (v56 * (IntKind.wrap .u64 v46))) + (IntKind.wrap .u64 v83))) < (IntKind.wrap .u64 (v56 * (IntKind.wrap .u64 v46))))))) hc)) ?_
          refine seq_run0 (stp_pick_or rfl rfl (fun hb => (cnd (c := (!(decide ((IntKind.wrap .u64 ((IntKind.wrap .u64 (v56 * (IntKind.wrap .u64 v46))) + (IntKind.wrap .u64 v83))) < (IntKind.wrap .u64 (v56 * (IntKind.wrap .u64 v46))))))) (notI hb)))) ?_
          refine awp_cond _ rfl (fun h86 => ?_) (fun h86 => ?_)
          ·replace H := ift h86 H
           refine awp_seq ?_
           refine awp_plain hN rfl ?_
           refine qd rfl ?_
           refine seq_run0 (stp_dat (u' := verr 1) (stp_mkErr (show Tryz.prog.underlying 147 = some (.int .i64) from by kernel_rfl) rfl) rfl) ?_
           refine qe rfl ?_
           refine qe rfl ?_
           refine awp_ret ?_
           replace H := retl H hq58
           cases H
           exact ⟨trivial, .inl rfl, .inl rfl, trivial⟩
          ·replace H := iff_ h86 H
           refine awp_skip ?_
           refine awp_plain hN rfl ?_
           refine qd rfl ?_
           refine qe rfl ?_
           exact ⟨(v55, IntKind.wrap .u64 ((IntKind.wrap .u64 (v56 * (IntKind.wrap .u64 v46))) + (IntKind.wrap .u64 v83))), H, ⟨rfl, rfl, rfl, rfl, rfl, rfl, rfl, rfl, rfl, rfl, trivial⟩, trivial⟩
      ·rintro ⟨v87, v88⟩ H
       replace H : internal_strconv_ParseUint_J9 v87 v88 = some q58 := H
       unfold internal_strconv_ParseUint_J9 at H
       refine awp_plain hN rfl ?_
       refine seq_run0 (stp_add rfl rfl (by omega)) ?_
       refine qd rfl ?_
       exact ⟨_, backl H, ⟨rfl, rfl, rfl, rfl, rfl, rfl, rfl, rfl, rfl, rfl, trivial⟩, trivial⟩
end Go.Proofs.YtloinbpihpcblaaGreatDoor
