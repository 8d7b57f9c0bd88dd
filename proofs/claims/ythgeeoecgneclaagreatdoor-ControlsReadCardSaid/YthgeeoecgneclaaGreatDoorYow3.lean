/- Walks along the models. Printed by a program. -/
import Derived.Test.YthgeeoecgneclaaGreatDoorYow2
namespace Go.Proofs.YthgeeoecgneclaaGreatDoor
open Go.RowKit
set_option linter.unusedVariables false
set_option maxRecDepth 20000
set_option maxHeartbeats 2000000
theorem k_gateref2_Token (s1 : Bs) (r : (Bool)) (H : m_gateref2_Token s1 = some r) : Fn Tryz.prog 25 [vstr s1] (resOf [vbool r]) := by
  refine ⟨by kernel_rfl, pure_of (us := [vbool r]) Tryz.func25 rfl rfl rfl rfl fun X hN => ?_⟩
  unfold m_gateref2_Token at H
  refine awp_seq ?_
  refine awp_plain hN rfl ?_
  refine seq_run0 (stp_assign (.dat _) rfl) ?_
  refine awp_joinE (ι := Bool) (fun i => [(2, .dat (vbool i))]) (fun i => []) (fun i => gateref2_Token_J1 i = some r) (fun i => rfl) ?_ ?_
  · skip
    refine awp_plain hN rfl ?_
    refine seq_run0 (stp_move (.dat _) rfl) ?_
    refine seq_run0 (stp_len_str tyU9 rfl) ?_
    obtain ⟨r2, h3, H⟩ := bnd H
    refine seq_run0 (stp_call (k_gateref2_in (s1.length : Int) 1 100 r2 h3) ⟨.inl rfl, .inl rfl, .inl rfl, trivial⟩) ?_
    refine seq_run0 (stp_move (.dat _) rfl) ?_
    refine seq_split (j := 3) rfl rfl (fun h4 => ?_) (fun h4 => ?_) rfl
    · have h5 := un1 h4
      replace H := ift h5 H
      refine seq_g0 rfl rfl h4 (stp_move (.dat _) rfl) ?_
      obtain ⟨r6, h7, H⟩ := bnd H
      refine seq_g0 rfl rfl h4 (stp_call (k_gateref2_only s1 [97, 98, 99, 100, 101, 102, 103, 104, 105, 106, 107, 108, 109, 110, 111, 112, 113, 114, 115, 116, 117, 118, 119, 120, 121, 122, 65, 66, 67, 68, 69, 70, 71, 72, 73, 74, 75, 76, 77, 78, 79, 80, 81, 82, 83, 84, 85, 86, 87, 88, 89, 90, 48, 49, 50, 51, 52, 53, 54, 55, 56, 57, 33, 35, 36, 37, 38, 39, 42, 43, 45, 46, 94, 95, 96, 124, 126] r6 h7) ⟨.inl rfl, .inl rfl, trivial⟩) ?_
      refine seq_run0 (stp_pick_t rfl (bTT h5) rfl) ?_
      refine seq_run0 (stp_assign (.dat _) rfl) ?_
      exact ⟨r6, H, ⟨rfl, trivial⟩, trivial⟩
    · have h8 := un2 h4
      replace H := iff_ h8 H
      refine seq_skip rfl rfl h4 ?_
      refine seq_skip rfl rfl h4 ?_
      refine seq_run0 (stp_pick_f rfl (bFF h8) rfl) ?_
      refine seq_run0 (stp_assign (.dat _) rfl) ?_
      exact ⟨false, H, ⟨rfl, trivial⟩, trivial⟩
  · rintro v9 H
    replace H : gateref2_Token_J1 v9 = some r := H
    unfold gateref2_Token_J1 at H
    refine awp_ret ?_
    cases H
    exact ⟨trivial, .inl rfl, trivial⟩
theorem k_gateref2_visible (s1 : Bs) (low2 : Int) (r : (Bool)) (H : m_gateref2_visible s1 low2 = some r) : Fn Tryz.prog 52 [vstr s1, vval (.int .u8 low2)] (resOf [vbool r]) := by
  refine ⟨by kernel_rfl, pure_of (us := [vbool r]) Tryz.func52 rfl rfl rfl rfl fun X hN => ?_⟩
  unfold m_gateref2_visible at H
  refine awp_seq ?_
  refine awp_plain hN rfl ?_
  refine seq_run0 (stp_assign (.dat _) rfl) ?_
  refine awp_seq ?_
  refine awp_seq ?_
  refine awp_plain hN rfl ?_
  refine seq_run0 (stp_move (.dat _) rfl) ?_
  refine seq_run0 (stp_len_str tyU9 rfl) ?_
  refine seq_run0 (stp_move (.dat _) rfl) ?_
  refine awp_block ?_
  obtain ⟨h5, H⟩ := gif H
  refine awp_forL (fun (k3 : Nat) (s : Unit) => [(0, .dat (vstr s1)), (1, .dat (vval (.int .u8 low2))), (7, .dat (vint (s1.length : Int))), (8, .dat (vint (k3 : Int)))]) (fun (k3 : Nat) (s : Unit) => []) () H ⟨rfl, rfl, rfl, rfl, trivial⟩ trivial (fun _ _ => rfl) ?_ ?_
  · rintro ⟨⟩ H
    replace H : gateref2_visible_E1 = some r := H
    unfold gateref2_visible_E1 at H
    refine awp_seq ?_
    refine awp_plain hN rfl ?_
    refine seq_run0 (stp_lss rfl rfl) ?_
    refine awp_seq ?_
    refine awp_cond _ rfl (fun h => (lt_t h).elim) (fun h => ?_)
    refine awp_exit ?_
    refine awp_seq ?_
    refine awp_plain hN rfl ?_
    refine seq_run0 (stp_assign (.dat _) rfl) ?_
    refine awp_ret ?_
    cases H
    exact ⟨trivial, .inl rfl, trivial⟩
  · rintro k3 x6 ⟨⟩ q4 h7 h8 H hq4
    replace H : gateref2_visible_L1 low2 k3 x6 = some q4 := H
    unfold gateref2_visible_L1 at H
    refine awp_seq ?_
    refine awp_plain hN rfl ?_
    refine seq_run0 (stp_lss rfl rfl) ?_
    refine awp_seq ?_
    refine awp_cond _ rfl (fun h => ?_) (fun h => (lt_f h7 h).elim)
    refine awp_skip ?_
    refine awp_seq ?_
    refine awp_block ?_
    refine awp_seq ?_
    refine awp_plain hN rfl ?_
    refine seq_run0 (stp_move (.dat _) rfl) ?_
    refine seq_run0 (stp_assign (.dat _) rfl) ?_
    refine awp_joinE (ι := Bool) (fun i => [(0, .dat (vstr s1)), (1, .dat (vval (.int .u8 low2))), (7, .dat (vint (s1.length : Int))), (8, .dat (vint (k3 : Int))), (21, .dat (vbool i))]) (fun i => []) (fun i => gateref2_visible_J2 i = some q4) (fun i => rfl) ?_ ?_
    · skip
      refine awp_plain hN rfl ?_
      refine seq_run0 (stp_move (.dat _) rfl) ?_
      refine seq_run0 (stp_move (.dat _) rfl) ?_
      refine seq_run0 (t_byte tyU9 rfl rfl h8) ?_
      refine seq_run0 (stp_move (.dat _) rfl) ?_
      refine seq_run0 (stp_lss rfl rfl) ?_
      refine seq_run0 (stp_move (.dat _) rfl) ?_
      refine seq_split (j := 5) rfl rfl (fun h9 => ?_) (fun h9 => ?_) rfl
      · have h10 := un3 h9
        replace H := iff_ h10 H
        refine seq_g0 rfl rfl h9 (stp_move (.dat _) rfl) ?_
        refine seq_g0 rfl rfl h9 (stp_move (.dat _) rfl) ?_
        refine seq_g0 rfl rfl h9 (t_byte tyU9 rfl rfl h8) ?_
        refine seq_g0 rfl rfl h9 (stp_gtr rfl rfl) ?_
        refine seq_run0 (stp_pick_f rfl (bFF h10) rfl) ?_
        exact ⟨decide (126 < (x6.toNat : Int)), H, ⟨rfl, rfl, rfl, rfl, rfl, trivial⟩, trivial⟩
      · have h11 := un4 h9
        replace H := ift h11 H
        refine seq_skip rfl rfl h9 ?_
        refine seq_skip rfl rfl h9 ?_
        refine seq_skip rfl rfl h9 ?_
        refine seq_skip rfl rfl h9 ?_
        refine seq_run0 (stp_pick_t rfl (bTT h11) rfl) ?_
        exact ⟨true, H, ⟨rfl, rfl, rfl, rfl, rfl, trivial⟩, trivial⟩
    · rintro v12 H
      replace H : gateref2_visible_J2 v12 = some q4 := H
      unfold gateref2_visible_J2 at H
      refine awp_cond _ rfl (fun h13 => ?_) (fun h13 => ?_)
      · replace H := ift h13 H
        refine awp_seq ?_
        refine awp_plain hN rfl ?_
        refine seq_run0 (stp_assign (.dat _) rfl) ?_
        refine awp_ret ?_
        replace H := retl H hq4
        cases H
        exact ⟨trivial, .inl rfl, trivial⟩
      · replace H := iff_ h13 H
        refine awp_skip ?_
        refine awp_plain hN rfl ?_
        refine seq_run0 (stp_add rfl rfl (by omega)) ?_
        refine seq_run0 (stp_move (.dat _) rfl) ?_
        exact ⟨_, backl H, ⟨rfl, rfl, rfl, rfl, trivial⟩, trivial⟩
theorem k_gateref2_Field (s1 : Bs) (r : (Bool)) (H : m_gateref2_Field s1 = some r) : Fn Tryz.prog 26 [vstr s1] (resOf [vbool r]) := by
  refine ⟨by kernel_rfl, pure_of (us := [vbool r]) Tryz.func26 rfl rfl rfl rfl fun X hN => ?_⟩
  unfold m_gateref2_Field at H
  refine awp_seq ?_
  refine awp_plain hN rfl ?_
  refine seq_run0 (stp_assign (.dat _) rfl) ?_
  refine awp_joinE (ι := Bool) (fun i => [(2, .dat (vbool i))]) (fun i => []) (fun i => gateref2_Field_J1 i = some r) (fun i => rfl) ?_ ?_
  · skip
    refine awp_plain hN rfl ?_
    refine seq_run0 (stp_move (.dat _) rfl) ?_
    refine seq_run0 (stp_len_str tyU9 rfl) ?_
    refine seq_run0 (stp_leq rfl rfl) ?_
    refine seq_run0 (stp_move (.dat _) rfl) ?_
    refine seq_split (j := 3) rfl rfl (fun h2 => ?_) (fun h2 => ?_) rfl
    · have h3 := un1 h2
      replace H := ift h3 H
      refine seq_g0 rfl rfl h2 (stp_move (.dat _) rfl) ?_
      obtain ⟨r4, h5, H⟩ := bnd H
      refine seq_g0 rfl rfl h2 (stp_call (k_gateref2_visible s1 32 r4 h5) ⟨.inl rfl, .inl rfl, trivial⟩) ?_
      refine seq_run0 (stp_pick_t rfl (bTT h3) rfl) ?_
      refine seq_run0 (stp_move (.dat _) rfl) ?_
      refine seq_split (j := 7) rfl rfl (fun h6 => ?_) (fun h6 => ?_) rfl
      · have h7 := un1 h6
        replace H := ift h7 H
        refine seq_g0 rfl rfl h6 (stp_move (.dat _) rfl) ?_
        obtain ⟨r8, h9, H⟩ := bnd H
        refine seq_g0 rfl rfl h6 (stp_call (k_strings_Trim s1 [32] r8 h9) ⟨.inl rfl, .inl rfl, trivial⟩) ?_
        refine seq_g0 rfl rfl h6 (stp_move (.dat _) rfl) ?_
        refine seq_g0 rfl rfl h6 (stp_seql rfl rfl) ?_
        refine seq_run0 (stp_pick_t rfl (bTT h7) rfl) ?_
        refine seq_run0 (stp_assign (.dat _) rfl) ?_
        exact ⟨decide (r8 = s1), H, ⟨rfl, trivial⟩, trivial⟩
      · have h10 := un2 h6
        replace H := iff_ h10 H
        refine seq_skip rfl rfl h6 ?_
        refine seq_skip rfl rfl h6 ?_
        refine seq_skip rfl rfl h6 ?_
        refine seq_skip rfl rfl h6 ?_
        refine seq_run0 (stp_pick_f rfl (bFF h10) rfl) ?_
        refine seq_run0 (stp_assign (.dat _) rfl) ?_
        exact ⟨false, H, ⟨rfl, trivial⟩, trivial⟩
    · have h11 := un2 h2
      replace H := iff_ h11 H
      refine seq_skip rfl rfl h2 ?_
      refine seq_skip rfl rfl h2 ?_
      refine seq_run0 (stp_pick_f rfl (bFF h11) rfl) ?_
      refine seq_run0 (stp_move (.dat _) rfl) ?_
      refine seq_skip rfl rfl rfl ?_
      refine seq_skip rfl rfl rfl ?_
      refine seq_skip rfl rfl rfl ?_
      refine seq_skip rfl rfl rfl ?_
      refine seq_run0 (stp_pick_f rfl rfl rfl) ?_
      refine seq_run0 (stp_assign (.dat _) rfl) ?_
      exact ⟨false, H, ⟨rfl, trivial⟩, trivial⟩
  · rintro v12 H
    replace H : gateref2_Field_J1 v12 = some r := H
    unfold gateref2_Field_J1 at H
    refine awp_ret ?_
    cases H
    exact ⟨trivial, .inl rfl, trivial⟩
theorem k_gateref2_HeadersFault (l1 : (List S_api_Header)) (r : (Int)) (H : m_gateref2_HeadersFault l1 = some r) : Fn Tryz.prog 10 [vlst (List.map C_api_Header l1)] (resOf [vint r]) := by
  refine ⟨by kernel_rfl, pure_of (us := [vint r]) Tryz.func10 rfl rfl rfl rfl fun X hN => ?_⟩
  unfold m_gateref2_HeadersFault at H
  refine awp_seq ?_
  refine awp_plain hN rfl ?_
  refine seq_run0 (stp_assign (.dat _) rfl) ?_
  refine awp_seq ?_
  refine awp_seq ?_
  refine awp_plain hN rfl ?_
  refine seq_run0 (stp_move (.dat _) rfl) ?_
  refine seq_run0 (t_len tyU26 rfl) ?_
  refine seq_run0 (stp_gtr rfl rfl) ?_
  refine awp_cond _ rfl (fun h2 => ?_) (fun h2 => ?_)
  · replace H := ift h2 H
    refine awp_seq ?_
    refine awp_plain hN rfl ?_
    refine seq_run0 (stp_assign (.dat _) rfl) ?_
    refine awp_ret ?_
    cases H
    exact ⟨trivial, .inl rfl, trivial⟩
  · replace H := iff_ h2 H
    refine awp_skip ?_
    refine awp_seq ?_
    refine awp_seq ?_
    refine awp_plain hN rfl ?_
    refine seq_run0 (stp_move (.dat _) rfl) ?_
    refine seq_run0 (t_len tyU26 rfl) ?_
    refine seq_run0 (stp_move (.dat _) rfl) ?_
    refine awp_block ?_
    obtain ⟨h5, H⟩ := gif H
    refine awp_forL (fun (k3 : Nat) (s : Unit) => [(8, .dat (vlst (List.map C_api_Header l1))), (9, .dat (vint (l1.length : Int))), (10, .dat (vint (k3 : Int)))]) (fun (k3 : Nat) (s : Unit) => []) () H ⟨rfl, rfl, rfl, trivial⟩ trivial (fun _ _ => rfl) ?_ ?_
    · rintro ⟨⟩ H
      replace H : gateref2_HeadersFault_E1 = some r := H
      unfold gateref2_HeadersFault_E1 at H
      refine awp_seq ?_
      refine awp_plain hN rfl ?_
      refine seq_run0 (stp_lss rfl rfl) ?_
      refine awp_seq ?_
      refine awp_cond _ rfl (fun h => (lt_t h).elim) (fun h => ?_)
      refine awp_exit ?_
      refine awp_seq ?_
      refine awp_plain hN rfl ?_
      refine seq_run0 (stp_assign (.dat _) rfl) ?_
      refine awp_ret ?_
      cases H
      exact ⟨trivial, .inl rfl, trivial⟩
    · rintro k3 x6 ⟨⟩ q4 h7 h8 H hq4
      replace H : gateref2_HeadersFault_L1 k3 x6 = some q4 := H
      unfold gateref2_HeadersFault_L1 at H
      refine awp_seq ?_
      refine awp_plain hN rfl ?_
      refine seq_run0 (stp_lss rfl rfl) ?_
      refine awp_seq ?_
      refine awp_cond _ rfl (fun h => ?_) (fun h => (lt_f h7 h).elim)
      refine awp_skip ?_
      refine awp_seq ?_
      refine awp_block ?_
      refine awp_seq ?_
      refine awp_plain hN rfl ?_
      refine seq_run0 (t_idx tyE26 (fun _ => rfl) rfl rfl h8) ?_
      refine seq_run0 (stp_loadEA tyS32 rfl (map_at h8) rfl) ?_
      refine seq_run2 (stp_alloc 1 tyZ32 rfl) rfl ?_
      refine seq_run2 (stp_storeW tyS32 rfl rfl rfl rfl) rfl ?_
      refine awp_seq ?_
      refine awp_seq ?_
      refine awp_plain hN rfl ?_
      refine seq_run0 (stp_fldP tyF32_0 rfl) ?_
      refine seq_run1 (stp_load1 tyS9 rfl rfl) rfl ?_
      obtain ⟨r9, h10, H⟩ := bnd H
      refine seq_run0 (stp_call (k_gateref2_Token x6.Name r9 h10) ⟨.inl rfl, trivial⟩) ?_
      refine seq_run0 (stp_not rfl) ?_
      refine awp_cond _ rfl (fun h11 => ?_) (fun h11 => ?_)
      · replace H := ift h11 H
        refine awp_seq ?_
        refine awp_plain hN rfl ?_
        refine seq_run0 (stp_assign (.dat _) rfl) ?_
        refine awp_ret ?_
        replace H := retl H hq4
        cases H
        exact ⟨trivial, .inl rfl, trivial⟩
      · replace H := iff_ h11 H
        refine awp_skip ?_
        refine awp_seq ?_
        refine awp_plain hN rfl ?_
        refine seq_run0 (stp_fldP tyF32_1 rfl) ?_
        refine seq_run1 (stp_load1 tyS9 rfl rfl) rfl ?_
        obtain ⟨r12, h13, H⟩ := bnd H
        refine seq_run0 (stp_call (k_gateref2_Field x6.Value r12 h13) ⟨.inl rfl, trivial⟩) ?_
        refine seq_run0 (stp_not rfl) ?_
        refine awp_cond _ rfl (fun h14 => ?_) (fun h14 => ?_)
        · replace H := ift h14 H
          refine awp_seq ?_
          refine awp_plain hN rfl ?_
          refine seq_run0 (stp_assign (.dat _) rfl) ?_
          refine awp_ret ?_
          replace H := retl H hq4
          cases H
          exact ⟨trivial, .inl rfl, trivial⟩
        · replace H := iff_ h14 H
          refine awp_skip ?_
          refine awp_plain hN rfl ?_
          refine seq_run0 (stp_add rfl rfl (by omega)) ?_
          refine seq_run0 (stp_move (.dat _) rfl) ?_
          exact ⟨_, backl H, ⟨rfl, rfl, rfl, trivial⟩, trivial⟩
theorem k_gateref2_countsOf (qb : Nat) (r : ((List Int))) (H : m_gateref2_countsOf  = some r) : Fn Tryz.prog 27 [vval (.pointer (some ⟨qb, 0, none⟩))] (resOf [vlst (List.map (CP qb) r)]) := by
  refine ⟨by kernel_rfl, pure_of (us := [vlst (List.map (CP qb) r)]) Tryz.func27 rfl rfl rfl rfl fun X hN => ?_⟩
  unfold m_gateref2_countsOf at H
  refine awp_seq ?_
  refine awp_plain hN rfl ?_
  refine seq_run0 (stp_assign (.dat _) rfl) ?_
  refine awp_seq ?_
  refine awp_draw mixed hN rfl rfl ?_
  refine seq_run0 (stp_move (.dat _) rfl) ?_
  refine seq_run0 (stp_nilQ rfl) ?_
  refine seq_run0 (stp_fldQ tyF34_6 rfl) ?_
  refine seq_run0 (stp_move (.dat _) rfl) ?_
  refine seq_run0 (stp_nilQ rfl) ?_
  refine seq_run0 (stp_fldQ tyF34_7 rfl) ?_
  refine seq_run0 (stp_move (.dat _) rfl) ?_
  refine seq_run0 (stp_nilQ rfl) ?_
  refine seq_run0 (stp_fldQ tyF34_8 rfl) ?_
  refine seq_run0 (stp_move (.dat _) rfl) ?_
  refine seq_run0 (stp_nilQ rfl) ?_
  refine seq_run0 (stp_fldQ tyF34_9 rfl) ?_
  refine seq_run0 (stp_move (.dat _) rfl) ?_
  refine seq_run0 (stp_nilQ rfl) ?_
  refine seq_run0 (stp_fldQ tyF34_10 rfl) ?_
  refine seq_run0 (stp_move (.dat _) rfl) ?_
  refine seq_run0 (stp_nilQ rfl) ?_
  refine seq_run0 (stp_fldQ tyF34_11 rfl) ?_
  refine seq_run0 (stp_dat (u' := vlst (List.map (CP qb) ([6, 7, 8, 9, 10, 11] : List Int))) (stp_lit [[_], [_], [_], [_], [_], [_]] tyL49 ⟨rfl, .inl ⟨_, rfl, rfl, rfl⟩, rfl, rfl, .inl ⟨_, rfl, rfl, rfl⟩, rfl, rfl, .inl ⟨_, rfl, rfl, rfl⟩, rfl, rfl, .inl ⟨_, rfl, rfl, rfl⟩, rfl, rfl, .inl ⟨_, rfl, rfl, rfl⟩, rfl, rfl, .inl ⟨_, rfl, rfl, rfl⟩, rfl, trivial⟩ rfl rfl) rfl) ?_
  refine seq_run0 (stp_assign (.dat _) rfl) ?_
  refine ⟨rfl, ?_⟩
  refine awp_ret ?_
  cases H
  exact ⟨trivial, .inl rfl, trivial⟩
theorem k_gateref2_alike (a1 : Bs) (b2 : Bs) (r : (Bool)) (H : m_gateref2_alike a1 b2 = some r) : Fn Tryz.prog 55 [vstr a1, vstr b2] (resOf [vbool r]) := by
  refine ⟨by kernel_rfl, pure_of (us := [vbool r]) Tryz.func55 rfl rfl rfl rfl fun X hN => ?_⟩
  unfold m_gateref2_alike at H
  refine awp_seq ?_
  refine awp_plain hN rfl ?_
  refine seq_run0 (stp_assign (.dat _) rfl) ?_
  refine awp_seq ?_
  refine awp_plain hN rfl ?_
  refine seq_run0 (stp_move (.dat _) rfl) ?_
  obtain ⟨r3, h4, H⟩ := bnd H
  refine seq_run0 (stp_call (k_strings_ToLower a1 r3 h4) ⟨.inl rfl, trivial⟩) ?_
  refine seq_run0 (stp_move (.dat _) rfl) ?_
  obtain ⟨r5, h6, H⟩ := bnd H
  refine seq_run0 (stp_call (k_strings_ToLower b2 r5 h6) ⟨.inl rfl, trivial⟩) ?_
  refine seq_run0 (stp_seql rfl rfl) ?_
  refine seq_run0 (stp_assign (.dat _) rfl) ?_
  refine awp_ret ?_
  cases H
  exact ⟨trivial, .inl rfl, trivial⟩
theorem k_gateref2_Values (l1 : (List S_api_Header)) (name2 : Bs) (r : ((List Bs))) (H : m_gateref2_Values l1 name2 = some r) : Fn Tryz.prog 29 [vlst (List.map C_api_Header l1), vstr name2] (resOf [vlst (List.map C_string r)]) := by
  refine ⟨by kernel_rfl, pure_of (us := [vlst (List.map C_string r)]) Tryz.func29 rfl rfl rfl rfl fun X hN => ?_⟩
  unfold m_gateref2_Values at H
  refine awp_seq ?_
  refine awp_plain hN rfl ?_
  refine seq_run0 (stp_assign (.dat _) rfl) ?_
  refine awp_seq ?_
  refine awp_plain hN rfl ?_
  refine seq_run0 (stp_assign (.dat _) rfl) ?_
  refine awp_seq ?_
  refine awp_seq ?_
  refine awp_plain hN rfl ?_
  refine seq_run0 (stp_move (.dat _) rfl) ?_
  refine seq_run0 (t_len tyU26 rfl) ?_
  refine seq_run0 (stp_move (.dat _) rfl) ?_
  refine awp_block ?_
  refine awp_nilrow 5 1 9 1 rfl rfl rfl ?_
  obtain ⟨h6, H⟩ := gif H
  refine awp_forL (fun (k4 : Nat) (s : (List Bs)) => [(1, .dat (vstr name2)), (5, .row 1 s.length), (8, .dat (vlst (List.map C_api_Header l1))), (9, .dat (vint (l1.length : Int))), (10, .dat (vint (k4 : Int)))]) (fun (k4 : Nat) (s : (List Bs)) => [(1, .row 9 1 (List.map C_string s))]) [] H ⟨rfl, congrArg (Slot.row 1) (by simp), rfl, rfl, rfl, trivial⟩ ⟨rfl, trivial⟩ (fun _ _ => rfl) ?_ ?_
  · rintro l3 H
    replace H : gateref2_Values_E1 l3 = some r := H
    unfold gateref2_Values_E1 at H
    refine awp_seq ?_
    refine awp_plain hN rfl ?_
    refine seq_run0 (stp_lss rfl rfl) ?_
    refine awp_seq ?_
    refine awp_cond _ rfl (fun h => (lt_t h).elim) (fun h => ?_)
    refine awp_exit ?_
    refine awp_seq ?_
    refine awp_plain hN rfl ?_
    refine seq_run0 (stp_move (.row _ _) rfl) ?_
    refine seq_run0 (stp_assign (.row _ _) rfl) ?_
    refine awp_ret ?_
    cases H
    exact ⟨trivial, t_slotv rfl rfl, trivial⟩
  · rintro k4 x7 l3 q5 h8 h9 H hq5
    replace H : gateref2_Values_L1 name2 k4 x7 l3 = some q5 := H
    unfold gateref2_Values_L1 at H
    refine awp_seq ?_
    refine awp_plain hN rfl ?_
    refine seq_run0 (stp_lss rfl rfl) ?_
    refine awp_seq ?_
    refine awp_cond _ rfl (fun h => ?_) (fun h => (lt_f h8 h).elim)
    refine awp_skip ?_
    refine awp_joinE (ι := (List Bs)) (fun i => [(1, .dat (vstr name2)), (5, .row 1 i.length), (8, .dat (vlst (List.map C_api_Header l1))), (9, .dat (vint (l1.length : Int))), (10, .dat (vint (k4 : Int)))]) (fun i => [(1, .row 9 1 (List.map C_string i))]) (fun i => gateref2_Values_J2 i = some q5) (fun i => rfl) ?_ ?_
    · skip
      refine awp_block ?_
      refine awp_seq ?_
      refine awp_plain hN rfl ?_
      refine seq_run0 (t_idx tyE26 (fun _ => rfl) rfl rfl h9) ?_
      refine seq_run0 (stp_loadEA tyS32 rfl (map_at h9) rfl) ?_
      refine seq_run2 (stp_alloc 2 tyZ32 rfl) rfl ?_
      refine seq_run2 (stp_storeW tyS32 rfl rfl rfl rfl) rfl ?_
      refine awp_seq ?_
      refine awp_plain hN rfl ?_
      refine seq_run0 (stp_fldP tyF32_0 rfl) ?_
      refine seq_run1 (stp_load1 tyS9 rfl rfl) rfl ?_
      refine seq_run0 (stp_move (.dat _) rfl) ?_
      obtain ⟨r10, h11, H⟩ := bnd H
      refine seq_run0 (stp_call (k_gateref2_alike x7.Name name2 r10 h11) ⟨.inl rfl, .inl rfl, trivial⟩) ?_
      refine awp_cond _ rfl (fun h12 => ?_) (fun h12 => ?_)
      · replace H := ift h12 H
        refine awp_plain hN rfl ?_
        refine seq_run0 (stp_move (.row _ _) rfl) ?_
        refine seq_run0 (stp_fldP tyF32_1 rfl) ?_
        refine seq_run1 (stp_load1 tyS9 rfl rfl) rfl ?_
        refine seq_run0 (stp_dat (u' := vlst (List.map C_string [x7.Value])) (stp_lit [[_]] tyL46 ⟨rfl, .inl ⟨_, rfl, rfl, rfl⟩, rfl, trivial⟩ rfl rfl) rfl) ?_
        obtain ⟨h13, H⟩ := gif H
        refine seq_run2 (t_app tyL46 (fun _ => rfl) rfl rfl rfl ⟨by simp, by first | (simp; done) | simpa using h13⟩ rfl) rfl ?_
        refine seq_run0 (stp_assign (.row _ _) rfl) ?_
        exact ⟨(l3 ++ [x7.Value]), H, ⟨rfl, rfl, rfl, rfl, rfl, trivial⟩, ⟨rfl, trivial⟩⟩
      · replace H := iff_ h12 H
        refine awp_skip ?_
        exact ⟨l3, H, ⟨rfl, rfl, rfl, rfl, rfl, trivial⟩, ⟨rfl, trivial⟩⟩
    · rintro out14 H
      replace H : gateref2_Values_J2 out14 = some q5 := H
      unfold gateref2_Values_J2 at H
      refine awp_plain hN rfl ?_
      refine seq_run0 (stp_add rfl rfl (by omega)) ?_
      refine seq_run0 (stp_move (.dat _) rfl) ?_
      exact ⟨_, backl H, ⟨rfl, rfl, rfl, rfl, rfl, trivial⟩, ⟨rfl, trivial⟩⟩
theorem k_strings_Join (l : List Bs) (sep r : Bs) (H : m_strings_Join l sep = some r) : Fn Tryz.prog 42 [vlst (List.map C_string l), vstr sep] (resOf [vstr r]) := by
  obtain ⟨h1, h2, rfl⟩ := join_some H
  refine fn_of_callsG (by kernel_rfl) fun M w vs hM h => ?_
  obtain ⟨hl, hv⟩ := h
  obtain ⟨a, ha, hap⟩ := hv 0 _ rfl
  obtain ⟨s, hs, hsp⟩ := hv 1 _ rfl
  have hsp : s = .string ⟨sep.toArray⟩ := hsp
  subst hsp
  have hvs : vs.toArray = #[a, .string ⟨sep.toArray⟩] := by
    rcases vs with _ | ⟨x, _ | ⟨y, _ | ⟨z, t⟩⟩⟩
    · cases ha
    · cases hs
    · cases ha; cases hs; rfl
    · simp at hl
  rw [hvs]
  obtain ⟨A, c, q1, q2, q3⟩ := hap
  simp only [List.length_map] at q1 q2
  subst q1
  by_cases hne : l = []
  · subst hne
    refine (Tryz.strings_Join_none A c ⟨sep.toArray⟩ w).mono ?_
    rintro e w' ⟨rfl, rfl⟩
    exact ⟨_, rfl, rfl, Kp.refl _ _⟩
  · obtain ⟨b, off, size, rfl, hMb, arr, t, fz, q5, q6, q7⟩ := q3 (by simpa using hne)
    have hsz : size = 1 := by
      cases hq : l with
      | nil => exact absurd hq hne
      | cons x l' => have := q6 (C_string x) (by rw [hq]; simp); simpa using this.symm
    subst hsz
    have e1 : ((l.map fun x => ByteArray.mk x.toArray).map (·.data.toList)) = l := by
      rw [List.map_map]
      exact (List.map_congr_left fun x _ => rfl).trans (List.map_id l)
    have hj := Tryz.strings_Join b off c (l.map fun x => ByteArray.mk x.toArray) ⟨sep.toArray⟩ w (fun j x hx => by
      rw [List.getElem?_map] at hx
      cases hq : l[j]? with
      | none => rw [hq] at hx; cases hx
      | some y =>
        rw [hq] at hx
        cases hx
        obtain ⟨v, r1, r2, _⟩ := q7 j 0 (C_string y) (vstr y) (by rw [List.getElem?_map, hq]; rfl) rfl
        have r2 : v = .string ⟨y.toArray⟩ := r2
        rw [cell_of_row w b _ _ _ _ q5]
        simp only [Nat.mul_one, Nat.add_zero] at r1
        rw [r1, r2]) (heap_lt q5) (by simp; omega) (by simpa using q2) (by rw [e1]; simp only; omega)
    rw [List.length_map, e1] at hj
    refine hj.mono ?_
    rintro e w' ⟨rfl, hb⟩
    exact ⟨_, rfl, rfl, Kp.of_below hb⟩
theorem k_gateref2_parts (values1 : (List Bs)) (r : ((List Bs))) (H : m_gateref2_parts values1 = some r) : Fn Tryz.prog 28 [vlst (List.map C_string values1)] (resOf [vlst (List.map C_string r)]) := by
  refine ⟨by kernel_rfl, pure_of (us := [vlst (List.map C_string r)]) Tryz.func28 rfl rfl rfl rfl fun X hN => ?_⟩
  unfold m_gateref2_parts at H
  refine awp_seq ?_
  refine awp_plain hN rfl ?_
  refine seq_run0 (stp_assign (.dat _) rfl) ?_
  refine awp_seq ?_
  refine awp_plain hN rfl ?_
  refine seq_run0 (stp_assign (.dat _) rfl) ?_
  refine awp_seq ?_
  refine awp_seq ?_
  refine awp_plain hN rfl ?_
  refine seq_run0 (stp_move (.dat _) rfl) ?_
  obtain ⟨r2, h3, H⟩ := bnd H
  refine seq_run0 (stp_call (k_strings_Join values1 [44] r2 h3) ⟨.inl rfl, .inl rfl, trivial⟩) ?_
  obtain ⟨r4, h5, H⟩ := bnd H
  refine seq_run0 (stp_call (k_strings_Split r2 [44] r4 h5) ⟨.inl rfl, .inl rfl, trivial⟩) ?_
  refine seq_run0 (t_len tyU46 rfl) ?_
  refine seq_run0 (stp_move (.dat _) rfl) ?_
  refine awp_block ?_
  refine awp_nilrow 3 1 9 1 rfl rfl rfl ?_
  obtain ⟨h9, H⟩ := gif H
  refine awp_forL (fun (k7 : Nat) (s : (List Bs)) => [(3, .row 1 s.length), (8, .dat (vlst (List.map C_string r4))), (9, .dat (vint (r4.length : Int))), (10, .dat (vint (k7 : Int)))]) (fun (k7 : Nat) (s : (List Bs)) => [(1, .row 9 1 (List.map C_string s))]) [] H ⟨congrArg (Slot.row 1) (by simp), rfl, rfl, rfl, trivial⟩ ⟨rfl, trivial⟩ (fun _ _ => rfl) ?_ ?_
  · rintro l6 H
    replace H : gateref2_parts_E1 l6 = some r := H
    unfold gateref2_parts_E1 at H
    refine awp_seq ?_
    refine awp_plain hN rfl ?_
    refine seq_run0 (stp_lss rfl rfl) ?_
    refine awp_seq ?_
    refine awp_cond _ rfl (fun h => (lt_t h).elim) (fun h => ?_)
    refine awp_exit ?_
    refine awp_seq ?_
    refine awp_plain hN rfl ?_
    refine seq_run0 (stp_move (.row _ _) rfl) ?_
    refine seq_run0 (stp_assign (.row _ _) rfl) ?_
    refine awp_ret ?_
    cases H
    exact ⟨trivial, t_slotv rfl rfl, trivial⟩
  · rintro k7 x10 l6 q8 h11 h12 H hq8
    replace H : gateref2_parts_L1 k7 x10 l6 = some q8 := H
    unfold gateref2_parts_L1 at H
    refine awp_seq ?_
    refine awp_plain hN rfl ?_
    refine seq_run0 (stp_lss rfl rfl) ?_
    refine awp_seq ?_
    refine awp_cond _ rfl (fun h => ?_) (fun h => (lt_f h11 h).elim)
    refine awp_skip ?_
    refine awp_joinE (ι := (List Bs)) (fun i => [(3, .row 1 i.length), (8, .dat (vlst (List.map C_string r4))), (9, .dat (vint (r4.length : Int))), (10, .dat (vint (k7 : Int)))]) (fun i => [(1, .row 9 1 (List.map C_string i))]) (fun i => gateref2_parts_J2 i = some q8) (fun i => rfl) ?_ ?_
    · skip
      refine awp_block ?_
      refine awp_seq ?_
      refine awp_plain hN rfl ?_
      refine seq_run0 (t_idx tyE46 (fun _ => rfl) rfl rfl h12) ?_
      refine seq_run0 (stp_loadE1 tyS9 rfl (map_at h12) rfl) ?_
      refine seq_run0 (stp_assign (.dat _) rfl) ?_
      refine awp_seq ?_
      refine awp_plain hN rfl ?_
      refine seq_run0 (stp_move (.dat _) rfl) ?_
      obtain ⟨r13, h14, H⟩ := bnd H
      refine seq_run0 (stp_call (k_strings_Trim x10 [32] r13 h14) ⟨.inl rfl, .inl rfl, trivial⟩) ?_
      refine seq_run0 (stp_assign (.dat _) rfl) ?_
      refine awp_seq ?_
      refine awp_plain hN rfl ?_
      refine seq_run0 (stp_move (.dat _) rfl) ?_
      refine seq_run0 (stp_sneq rfl rfl) ?_
      refine awp_cond _ rfl (fun h15 => ?_) (fun h15 => ?_)
      · replace H := ift h15 H
        refine awp_plain hN rfl ?_
        refine seq_run0 (stp_move (.row _ _) rfl) ?_
        refine seq_run0 (stp_move (.dat _) rfl) ?_
        refine seq_run0 (stp_dat (u' := vlst (List.map C_string [r13])) (stp_lit [[_]] tyL46 ⟨rfl, .inl ⟨_, rfl, rfl, rfl⟩, rfl, trivial⟩ rfl rfl) rfl) ?_
        obtain ⟨h16, H⟩ := gif H
        refine seq_run2 (t_app tyL46 (fun _ => rfl) rfl rfl rfl ⟨by simp, by first | (simp; done) | simpa using h16⟩ rfl) rfl ?_
        refine seq_run0 (stp_assign (.row _ _) rfl) ?_
        exact ⟨(l6 ++ [r13]), H, ⟨rfl, rfl, rfl, rfl, trivial⟩, ⟨rfl, trivial⟩⟩
      · replace H := iff_ h15 H
        refine awp_skip ?_
        exact ⟨l6, H, ⟨rfl, rfl, rfl, rfl, trivial⟩, ⟨rfl, trivial⟩⟩
    · rintro out17 H
      replace H : gateref2_parts_J2 out17 = some q8 := H
      unfold gateref2_parts_J2 at H
      refine awp_plain hN rfl ?_
      refine seq_run0 (stp_add rfl rfl (by omega)) ?_
      refine seq_run0 (stp_move (.dat _) rfl) ?_
      exact ⟨_, backl H, ⟨rfl, rfl, rfl, rfl, trivial⟩, ⟨rfl, trivial⟩⟩
theorem k_strconv_Itoa (n : Int) (r : Bs) (H : m_strconv_Itoa n = some r) : Fn Tryz.prog 41 [vint n] (resOf [vstr r]) := by
  obtain ⟨⟨h1, h2⟩, h3⟩ := gif H
  cases h3
  refine fn_of_callsG (by kernel_rfl) fun M w vs hM h => ?_
  have hv := Ts_vals (us := [.int .i64 n]) h
  subst hv
  refine (Tryz.strconv_Itoa n h1 h2 w (pow10_tab hM)).mono ?_
  rintro e w' ⟨rfl, k, os, rfl⟩
  exact ⟨_, rfl, rfl, Kp.of_below ⟨rfl, rfl, rfl, by show w.heap.size ≤ (w.heap ++ os).size; rw [Array.size_append]; omega, fun j hj => by show (w.heap ++ os)[j]? = w.heap[j]?; exact Array.getElem?_append_left hj⟩⟩
theorem k_gateref2_Number (s1 : Bs) (most2 : Int) (r : (Int × Bool)) (H : m_gateref2_Number s1 most2 = some r) : Fn Tryz.prog 31 [vstr s1, vint most2] (resOf [vint r.1, vbool r.2]) := by
  refine ⟨by kernel_rfl, pure_of (us := [vint r.1, vbool r.2]) Tryz.func31 rfl rfl rfl rfl fun X hN => ?_⟩
  unfold m_gateref2_Number at H
  refine awp_seq ?_
  refine awp_plain hN rfl ?_
  refine seq_run0 (stp_assign (.dat _) rfl) ?_
  refine seq_run0 (stp_assign (.dat _) rfl) ?_
  refine awp_seq ?_
  refine awp_plain hN rfl ?_
  refine seq_run0 (stp_move (.dat _) rfl) ?_
  obtain ⟨r3, h4, H⟩ := bnd H
  refine seq_run0 (stp_call (k_strings_TrimPrefix s1 [45] r3 h4) ⟨.inl rfl, .inl rfl, trivial⟩) ?_
  refine seq_run0 (stp_assign (.dat _) rfl) ?_
  refine awp_seq ?_
  refine awp_joinE (ι := Bool) (fun i => [(0, .dat (vstr s1)), (23, .dat (vbool i))]) (fun i => []) (fun i => gateref2_Number_J1 s1 i = some r) (fun i => rfl) ?_ ?_
  · skip
    refine awp_plain hN rfl ?_
    refine seq_run0 (stp_move (.dat _) rfl) ?_
    refine seq_run0 (stp_seql rfl rfl) ?_
    refine seq_run0 (stp_move (.dat _) rfl) ?_
    refine seq_split (j := 2) rfl rfl (fun h5 => ?_) (fun h5 => ?_) rfl
    · have h6 := un3 h5
      replace H := iff_ h6 H
      refine seq_g0 rfl rfl h5 (stp_move (.dat _) rfl) ?_
      refine seq_g0 rfl rfl h5 (stp_len_str tyU9 rfl) ?_
      refine seq_g0 rfl rfl h5 (stp_move (.dat _) rfl) ?_
      refine seq_g0 rfl rfl h5 (stp_gtr rfl rfl) ?_
      refine seq_run0 (stp_pick_f rfl (bFF h6) rfl) ?_
      refine seq_run0 (stp_move (.dat _) rfl) ?_
      refine seq_split (j := 8) rfl rfl (fun h7 => ?_) (fun h7 => ?_) rfl
      · have h8 := un3 h7
        replace H := iff_ h8 H
        refine seq_g0 rfl rfl h7 (stp_move (.dat _) rfl) ?_
        obtain ⟨r9, h10, H⟩ := bnd H
        refine seq_g0 rfl rfl h7 (stp_call (k_gateref2_only r3 [48, 49, 50, 51, 52, 53, 54, 55, 56, 57] r9 h10) ⟨.inl rfl, .inl rfl, trivial⟩) ?_
        refine seq_g0 rfl rfl h7 (stp_not rfl) ?_
        refine seq_run0 (stp_pick_f rfl (bFF h8) rfl) ?_
        exact ⟨!r9, H, ⟨rfl, rfl, trivial⟩, trivial⟩
      · have h11 := un4 h7
        replace H := ift h11 H
        refine seq_skip rfl rfl h7 ?_
        refine seq_skip rfl rfl h7 ?_
        refine seq_skip rfl rfl h7 ?_
        refine seq_run0 (stp_pick_t rfl (bTT h11) rfl) ?_
        exact ⟨true, H, ⟨rfl, rfl, trivial⟩, trivial⟩
    · have h12 := un4 h5
      replace H := ift h12 H
      refine seq_skip rfl rfl h5 ?_
      refine seq_skip rfl rfl h5 ?_
      refine seq_skip rfl rfl h5 ?_
      refine seq_skip rfl rfl h5 ?_
      refine seq_run0 (stp_pick_t rfl (bTT h12) rfl) ?_
      refine seq_run0 (stp_move (.dat _) rfl) ?_
      refine seq_skip rfl rfl rfl ?_
      refine seq_skip rfl rfl rfl ?_
      refine seq_skip rfl rfl rfl ?_
      refine seq_run0 (stp_pick_t rfl rfl rfl) ?_
      exact ⟨true, H, ⟨rfl, rfl, trivial⟩, trivial⟩
  · rintro v13 H
    replace H : gateref2_Number_J1 s1 v13 = some r := H
    unfold gateref2_Number_J1 at H
    refine awp_cond _ rfl (fun h14 => ?_) (fun h14 => ?_)
    · replace H := ift h14 H
      refine awp_seq ?_
      refine awp_plain hN rfl ?_
      refine seq_run0 (stp_assign (.dat _) rfl) ?_
      refine seq_run0 (stp_assign (.dat _) rfl) ?_
      refine awp_ret ?_
      cases H
      exact ⟨trivial, .inl rfl, .inl rfl, trivial⟩
    · replace H := iff_ h14 H
      refine awp_skip ?_
      refine awp_seq ?_
      refine awp_plain hN rfl ?_
      refine seq_run0 (stp_move (.dat _) rfl) ?_
      obtain ⟨r15, h16, H⟩ := bnd H
      refine seq_run0 (stp_call (k_strconv_Atoi s1 r15 h16) ⟨.inl rfl, trivial⟩) ?_
      refine seq_run0 (stp_move (.dat _) rfl) ?_
      refine seq_run0 (stp_ext rfl rfl) ?_
      refine seq_run0 (stp_ext rfl rfl) ?_
      refine seq_run0 (stp_assign (.dat _) rfl) ?_
      refine seq_run0 (stp_assign (.dat _) rfl) ?_
      refine awp_joinE (ι := Bool) (fun i => [(4, .dat (vint r15.1)), (5, .dat (vbool i))]) (fun i => []) (fun i => gateref2_Number_J2 r15 i = some r) (fun i => rfl) ?_ ?_
      · skip
        refine awp_plain hN rfl ?_
        refine seq_run0 (stp_move (.dat _) rfl) ?_
        refine seq_run0 (stp_move (.dat _) rfl) ?_
        refine seq_run0 (stp_erreql (n := r15.2) (show Tryz.prog.underlying 83 = some (.interface (Tryz.prog.methodsAt 83)) from by kernel_rfl) rfl) ?_
        refine seq_run0 (stp_move (.dat _) rfl) ?_
        refine seq_split (j := 3) rfl rfl (fun h17 => ?_) (fun h17 => ?_) rfl
        · have h18 := un1 h17
          replace H := ift h18 H
          refine seq_g0 rfl rfl h17 (stp_move (.dat _) rfl) ?_
          obtain ⟨r19, h20, H⟩ := bnd H
          refine seq_g0 rfl rfl h17 (stp_call (k_strconv_Itoa r15.1 r19 h20) ⟨.inl rfl, trivial⟩) ?_
          refine seq_g0 rfl rfl h17 (stp_move (.dat _) rfl) ?_
          refine seq_g0 rfl rfl h17 (stp_seql rfl rfl) ?_
          refine seq_run0 (stp_pick_t rfl (bTT h18) rfl) ?_
          refine seq_run0 (stp_assign (.dat _) rfl) ?_
          refine seq_run0 (stp_assign (.dat _) rfl) ?_
          exact ⟨decide (r19 = s1), H, ⟨rfl, rfl, trivial⟩, trivial⟩
        · have h21 := un2 h17
          replace H := iff_ h21 H
          refine seq_skip rfl rfl h17 ?_
          refine seq_skip rfl rfl h17 ?_
          refine seq_skip rfl rfl h17 ?_
          refine seq_skip rfl rfl h17 ?_
          refine seq_run0 (stp_pick_f rfl (bFF h21) rfl) ?_
          refine seq_run0 (stp_assign (.dat _) rfl) ?_
          refine seq_run0 (stp_assign (.dat _) rfl) ?_
          exact ⟨false, H, ⟨rfl, rfl, trivial⟩, trivial⟩
      · rintro v22 H
        replace H : gateref2_Number_J2 r15 v22 = some r := H
        unfold gateref2_Number_J2 at H
        refine awp_ret ?_
        cases H
        exact ⟨trivial, .inl rfl, .inl rfl, trivial⟩
theorem k_gateref2_flagNames  (r : ((List Bs))) (H : m_gateref2_flagNames  = some r) : Fn Tryz.prog 35 [] (resOf [vlst (List.map C_string r)]) := by
  refine ⟨by kernel_rfl, pure_of (us := [vlst (List.map C_string r)]) Tryz.func35 rfl rfl rfl rfl fun X hN => ?_⟩
  unfold m_gateref2_flagNames at H
  refine awp_seq ?_
  refine awp_plain hN rfl ?_
  refine seq_run0 (stp_assign (.dat _) rfl) ?_
  refine awp_seq ?_
  refine awp_plain hN rfl ?_
  refine seq_run0 (stp_dat (u' := vlst (List.map C_string [[110, 111, 45, 115, 116, 111, 114, 101], [110, 111, 45, 99, 97, 99, 104, 101], [112, 114, 105, 118, 97, 116, 101], [112, 117, 98, 108, 105, 99], [109, 117, 115, 116, 45, 114, 101, 118, 97, 108, 105, 100, 97, 116, 101], [111, 110, 108, 121, 45, 105, 102, 45, 99, 97, 99, 104, 101, 100]])) (stp_lit [[_], [_], [_], [_], [_], [_]] tyL46 ⟨rfl, .inl ⟨_, rfl, rfl, rfl⟩, rfl, rfl, .inl ⟨_, rfl, rfl, rfl⟩, rfl, rfl, .inl ⟨_, rfl, rfl, rfl⟩, rfl, rfl, .inl ⟨_, rfl, rfl, rfl⟩, rfl, rfl, .inl ⟨_, rfl, rfl, rfl⟩, rfl, rfl, .inl ⟨_, rfl, rfl, rfl⟩, rfl, trivial⟩ rfl rfl) rfl) ?_
  refine seq_run0 (stp_assign (.dat _) rfl) ?_
  refine awp_ret ?_
  cases H
  exact ⟨trivial, .inl rfl, trivial⟩
theorem k_gateref2_flagsOf (qb : Nat) (r : ((List Int))) (H : m_gateref2_flagsOf  = some r) : Fn Tryz.prog 36 [vval (.pointer (some ⟨qb, 0, none⟩))] (resOf [vlst (List.map (CP qb) r)]) := by
  refine ⟨by kernel_rfl, pure_of (us := [vlst (List.map (CP qb) r)]) Tryz.func36 rfl rfl rfl rfl fun X hN => ?_⟩
  unfold m_gateref2_flagsOf at H
  refine awp_seq ?_
  refine awp_plain hN rfl ?_
  refine seq_run0 (stp_assign (.dat _) rfl) ?_
  refine awp_seq ?_
  refine awp_draw mixed hN rfl rfl ?_
  refine seq_run0 (stp_move (.dat _) rfl) ?_
  refine seq_run0 (stp_nilQ rfl) ?_
  refine seq_run0 (stp_fldQ tyF34_0 rfl) ?_
  refine seq_run0 (stp_move (.dat _) rfl) ?_
  refine seq_run0 (stp_nilQ rfl) ?_
  refine seq_run0 (stp_fldQ tyF34_1 rfl) ?_
  refine seq_run0 (stp_move (.dat _) rfl) ?_
  refine seq_run0 (stp_nilQ rfl) ?_
  refine seq_run0 (stp_fldQ tyF34_2 rfl) ?_
  refine seq_run0 (stp_move (.dat _) rfl) ?_
  refine seq_run0 (stp_nilQ rfl) ?_
  refine seq_run0 (stp_fldQ tyF34_3 rfl) ?_
  refine seq_run0 (stp_move (.dat _) rfl) ?_
  refine seq_run0 (stp_nilQ rfl) ?_
  refine seq_run0 (stp_fldQ tyF34_4 rfl) ?_
  refine seq_run0 (stp_move (.dat _) rfl) ?_
  refine seq_run0 (stp_nilQ rfl) ?_
  refine seq_run0 (stp_fldQ tyF34_5 rfl) ?_
  refine seq_run0 (stp_dat (u' := vlst (List.map (CP qb) ([0, 1, 2, 3, 4, 5] : List Int))) (stp_lit [[_], [_], [_], [_], [_], [_]] tyL64 ⟨rfl, .inl ⟨_, rfl, rfl, rfl⟩, rfl, rfl, .inl ⟨_, rfl, rfl, rfl⟩, rfl, rfl, .inl ⟨_, rfl, rfl, rfl⟩, rfl, rfl, .inl ⟨_, rfl, rfl, rfl⟩, rfl, rfl, .inl ⟨_, rfl, rfl, rfl⟩, rfl, rfl, .inl ⟨_, rfl, rfl, rfl⟩, rfl, trivial⟩ rfl rfl) rfl) ?_
  refine seq_run0 (stp_assign (.dat _) rfl) ?_
  refine ⟨rfl, ?_⟩
  refine awp_ret ?_
  cases H
  exact ⟨trivial, .inl rfl, trivial⟩
theorem k_gateref2_countNames  (r : ((List Bs))) (H : m_gateref2_countNames  = some r) : Fn Tryz.prog 37 [] (resOf [vlst (List.map C_string r)]) := by
  refine ⟨by kernel_rfl, pure_of (us := [vlst (List.map C_string r)]) Tryz.func37 rfl rfl rfl rfl fun X hN => ?_⟩
  unfold m_gateref2_countNames at H
  refine awp_seq ?_
  refine awp_plain hN rfl ?_
  refine seq_run0 (stp_assign (.dat _) rfl) ?_
  refine awp_seq ?_
  refine awp_plain hN rfl ?_
  refine seq_run0 (stp_dat (u' := vlst (List.map C_string [[109, 97, 120, 45, 97, 103, 101], [115, 45, 109, 97, 120, 97, 103, 101], [115, 116, 97, 108, 101, 45, 119, 104, 105, 108, 101, 45, 114, 101, 118, 97, 108, 105, 100, 97, 116, 101], [115, 116, 97, 108, 101, 45, 105, 102, 45, 101, 114, 114, 111, 114], [109, 97, 120, 45, 115, 116, 97, 108, 101], [109, 105, 110, 45, 102, 114, 101, 115, 104]])) (stp_lit [[_], [_], [_], [_], [_], [_]] tyL46 ⟨rfl, .inl ⟨_, rfl, rfl, rfl⟩, rfl, rfl, .inl ⟨_, rfl, rfl, rfl⟩, rfl, rfl, .inl ⟨_, rfl, rfl, rfl⟩, rfl, rfl, .inl ⟨_, rfl, rfl, rfl⟩, rfl, rfl, .inl ⟨_, rfl, rfl, rfl⟩, rfl, rfl, .inl ⟨_, rfl, rfl, rfl⟩, rfl, trivial⟩ rfl rfl) rfl) ?_
  refine seq_run0 (stp_assign (.dat _) rfl) ?_
  refine awp_ret ?_
  cases H
  exact ⟨trivial, .inl rfl, trivial⟩
theorem k_gateref2_ControlOf (v1 : (List S_api_Header)) (r : (S_api_Control × Int)) (H : m_gateref2_ControlOf v1 = some r) : Fn Tryz.prog 11 [vlst (List.map C_api_Header v1)] (resOf [vagg (C_api_Control r.1), vint r.2]) := by
  refine ⟨by kernel_rfl, pure_of (us := [vagg (C_api_Control r.1), vint r.2]) Tryz.func11 rfl rfl rfl rfl fun X hN => ?_⟩
  unfold m_gateref2_ControlOf at H
  refine awp_seq ?_
  refine awp_plain hN rfl ?_
  refine seq_run2 (stp_alloc 1 tyZ34 rfl) rfl ?_
  refine seq_run0 (stp_assign (.dat _) rfl) ?_
  refine awp_seq ?_
  refine awp_plain hN rfl ?_
  refine seq_run2 (stp_alloc 2 tyZ34 rfl) rfl ?_
  refine awp_seq ?_
  refine awp_seq ?_
  refine awp_plain hN rfl ?_
  obtain ⟨r2, h3, H⟩ := bnd H
  refine seq_run1 (stp_dr (s := .dr 2 (fun qb => vlst (List.map (CP qb) r2))) 2 (fun qb => stp_call (k_gateref2_countsOf qb r2 h3) ⟨.inl rfl, trivial⟩) rfl rfl) rfl ?_
  refine seq_run1 (stp_dr (s := .dat (vint (r2.length : Int))) 2 (fun qb => t_len tyU49 rfl) rfl rfl) rfl ?_
  refine seq_run0 (stp_move (.dat _) rfl) ?_
  refine awp_block ?_
  obtain ⟨h18, H⟩ := gif H
  refine awp_forL (fun (k16 : Nat) (s : Bool × Bool × Int × Int × Bool × Bool × Bool × Bool × Int × Int × Int × Int) => [(0, .dat (vlst (List.map C_api_Header v1))), (2, .ptr 1 0), (4, .ptr 2 0), (17, .dr 2 (fun qb => vlst (List.map (CP qb) r2))), (18, .dat (vint (r2.length : Int))), (19, .dat (vint (k16 : Int)))]) (fun (k16 : Nat) (s : Bool × Bool × Int × Int × Bool × Bool × Bool × Bool × Int × Int × Int × Int) => [(1, .box none 34 [.dat (vbool false), .dat (vbool false), .dat (vbool false), .dat (vbool false), .dat (vbool false), .dat (vbool false), .dat (vint 0), .dat (vint 0), .dat (vint 0), .dat (vint 0), .dat (vint 0), .dat (vint 0)]), (2, .box none 34 [.dat (vbool s.1), .dat (vbool s.2.1), .dat (vbool s.2.2.2.2.1), .dat (vbool s.2.2.2.2.2.1), .dat (vbool s.2.2.2.2.2.2.1), .dat (vbool s.2.2.2.2.2.2.2.1), .dat (vint s.2.2.2.2.2.2.2.2.1), .dat (vint s.2.2.2.2.2.2.2.2.2.1), .dat (vint s.2.2.2.2.2.2.2.2.2.2.1), .dat (vint s.2.2.2.2.2.2.2.2.2.2.2), .dat (vint s.2.2.1), .dat (vint s.2.2.2.1)])]) (false, false, 0, 0, false, false, false, false, 0, 0, 0, 0) H ⟨rfl, rfl, rfl, rfl, rfl, rfl, trivial⟩ ⟨rfl, rfl, trivial⟩ (fun _ _ => rfl) ?_ ?_
  · rintro ⟨c4, c5, c6, c7, c8, c9, c10, c11, c12, c13, c14, c15⟩ H
    replace H : gateref2_ControlOf_E1 v1 c4 c5 c6 c7 c8 c9 c10 c11 c12 c13 c14 c15 = some r := H
    unfold gateref2_ControlOf_E1 at H
    refine awp_seq ?_
    refine awp_plain hN rfl ?_
    refine seq_run0 (stp_lss rfl rfl) ?_
    refine awp_seq ?_
    refine awp_cond _ rfl (fun h => (lt_t h).elim) (fun h => ?_)
    refine awp_exit ?_
    refine awp_seq ?_
    refine awp_seq ?_
    refine awp_plain hN rfl ?_
    refine seq_run0 (stp_move (.dat _) rfl) ?_
    obtain ⟨r20, h21, H⟩ := bnd H
    refine seq_run0 (stp_call (k_gateref2_Values v1 [99, 97, 99, 104, 101, 45, 99, 111, 110, 116, 114, 111, 108] r20 h21) ⟨.inl rfl, .inl rfl, trivial⟩) ?_
    obtain ⟨r22, h23, H⟩ := bnd H
    refine seq_run0 (stp_call (k_gateref2_parts r20 r22 h23) ⟨.inl rfl, trivial⟩) ?_
    refine seq_run0 (t_len tyU46 rfl) ?_
    refine seq_run0 (stp_move (.dat _) rfl) ?_
    refine awp_block ?_
    obtain ⟨h38, H⟩ := gif H
    refine awp_forL (fun (k36 : Nat) (s : Bool × Bool × Int × Int × Bool × Bool × Bool × Bool × Int × Int × Int × Int) => [(2, .ptr 1 0), (4, .ptr 2 0), (28, .dat (vlst (List.map C_string r22))), (29, .dat (vint (r22.length : Int))), (30, .dat (vint (k36 : Int)))]) (fun (k36 : Nat) (s : Bool × Bool × Int × Int × Bool × Bool × Bool × Bool × Int × Int × Int × Int) => [(1, .box none 34 [.dat (vbool false), .dat (vbool false), .dat (vbool false), .dat (vbool false), .dat (vbool false), .dat (vbool false), .dat (vint 0), .dat (vint 0), .dat (vint 0), .dat (vint 0), .dat (vint 0), .dat (vint 0)]), (2, .box none 34 [.dat (vbool s.1), .dat (vbool s.2.1), .dat (vbool s.2.2.2.2.1), .dat (vbool s.2.2.2.2.2.1), .dat (vbool s.2.2.2.2.2.2.1), .dat (vbool s.2.2.2.2.2.2.2.1), .dat (vint s.2.2.2.2.2.2.2.2.1), .dat (vint s.2.2.2.2.2.2.2.2.2.1), .dat (vint s.2.2.2.2.2.2.2.2.2.2.1), .dat (vint s.2.2.2.2.2.2.2.2.2.2.2), .dat (vint s.2.2.1), .dat (vint s.2.2.2.1)])]) (c4, c5, c6, c7, c8, c9, c10, c11, c12, c13, c14, c15) H ⟨rfl, rfl, rfl, rfl, rfl, trivial⟩ ⟨rfl, rfl, trivial⟩ (fun _ _ => rfl) ?_ ?_
    · rintro ⟨c24, c25, c26, c27, c28, c29, c30, c31, c32, c33, c34, c35⟩ H
      replace H : gateref2_ControlOf_E2 c24 c25 c26 c27 c28 c29 c30 c31 c32 c33 c34 c35 = some r := H
      unfold gateref2_ControlOf_E2 at H
      refine awp_seq ?_
      refine awp_plain hN rfl ?_
      refine seq_run0 (stp_lss rfl rfl) ?_
      refine awp_seq ?_
      refine awp_cond _ rfl (fun h => (lt_t h).elim) (fun h => ?_)
      refine awp_exit ?_
      refine awp_seq ?_
      refine awp_plain hN rfl ?_
      refine seq_run1 (stp_loadA tyS34 rfl rfl rfl) rfl ?_
      refine seq_run2 (stp_storeW tyS34 rfl rfl rfl rfl) rfl ?_
      refine seq_run0 (stp_assign (.dat _) rfl) ?_
      refine awp_ret ?_
      cases H
      exact ⟨trivial, .inl ⟨_, _, _, C_api_Control (S_api_Control.mk c24 c25 c28 c29 c30 c31 c32 c33 c34 c35 c26 c27), rfl, rfl, rfl, rfl, tyS34⟩, .inl rfl, trivial⟩
    · rintro k36 x39 ⟨c24, c25, c26, c27, c28, c29, c30, c31, c32, c33, c34, c35⟩ q37 h40 h41 H hq37
      replace H : gateref2_ControlOf_L2 k36 x39 c24 c25 c26 c27 c28 c29 c30 c31 c32 c33 c34 c35 = some q37 := H
      unfold gateref2_ControlOf_L2 at H
      refine awp_seq ?_
      refine awp_plain hN rfl ?_
      refine seq_run0 (stp_lss rfl rfl) ?_
      refine awp_seq ?_
      refine awp_cond _ rfl (fun h => ?_) (fun h => (lt_f h40 h).elim)
      refine awp_skip ?_
      refine awp_joinE (ι := Bool × Bool × Bool × Bool × Bool × Bool × Int × Int × Int × Int × Int × Int) (fun i => [(2, .ptr 1 0), (4, .ptr 2 0), (28, .dat (vlst (List.map C_string r22))), (29, .dat (vint (r22.length : Int))), (30, .dat (vint (k36 : Int)))]) (fun i => [(1, .box none 34 [.dat (vbool false), .dat (vbool false), .dat (vbool false), .dat (vbool false), .dat (vbool false), .dat (vbool false), .dat (vint 0), .dat (vint 0), .dat (vint 0), .dat (vint 0), .dat (vint 0), .dat (vint 0)]), (2, .box none 34 [.dat (vbool i.1), .dat (vbool i.2.1), .dat (vbool i.2.2.1), .dat (vbool i.2.2.2.1), .dat (vbool i.2.2.2.2.1), .dat (vbool i.2.2.2.2.2.1), .dat (vint i.2.2.2.2.2.2.1), .dat (vint i.2.2.2.2.2.2.2.1), .dat (vint i.2.2.2.2.2.2.2.2.1), .dat (vint i.2.2.2.2.2.2.2.2.2.1), .dat (vint i.2.2.2.2.2.2.2.2.2.2.1), .dat (vint i.2.2.2.2.2.2.2.2.2.2.2)])]) (fun i => gateref2_ControlOf_J3 i.1 i.2.1 i.2.2.1 i.2.2.2.1 i.2.2.2.2.1 i.2.2.2.2.2.1 i.2.2.2.2.2.2.1 i.2.2.2.2.2.2.2.1 i.2.2.2.2.2.2.2.2.1 i.2.2.2.2.2.2.2.2.2.1 i.2.2.2.2.2.2.2.2.2.2.1 i.2.2.2.2.2.2.2.2.2.2.2 = some q37) (fun i => rfl) ?_ ?_
      · skip
        refine awp_block ?_
        refine awp_seq ?_
        refine awp_plain hN rfl ?_
        refine seq_run0 (t_idx tyE46 (fun _ => rfl) rfl rfl h41) ?_
        refine seq_run0 (stp_loadE1 tyS9 rfl (map_at h41) rfl) ?_
        refine seq_run0 (stp_assign (.dat _) rfl) ?_
        refine awp_seq ?_
        refine awp_plain hN rfl ?_
        refine seq_run0 (stp_move (.dat _) rfl) ?_
        obtain ⟨r42, h43, H⟩ := bnd H
        refine seq_run0 (stp_call (k_strings_Cut x39 [61] r42 h43) ⟨.inl rfl, .inl rfl, trivial⟩) ?_
        refine seq_run0 (stp_move (.dat _) rfl) ?_
        refine seq_run0 (stp_ext rfl rfl) ?_
        refine seq_run0 (stp_ext rfl rfl) ?_
        refine seq_run0 (stp_ext rfl rfl) ?_
        refine seq_run0 (stp_assign (.dat _) rfl) ?_
        refine seq_run0 (stp_assign (.dat _) rfl) ?_
        refine seq_run0 (stp_assign (.dat _) rfl) ?_
        refine awp_seq ?_
        refine awp_plain hN rfl ?_
        refine seq_run0 (stp_move (.dat _) rfl) ?_
        obtain ⟨r44, h45, H⟩ := bnd H
        refine seq_run0 (stp_call (k_gateref2_Number r42.2.1 9 r44 h45) ⟨.inl rfl, .inl rfl, trivial⟩) ?_
        refine seq_run0 (stp_move (.dat _) rfl) ?_
        refine seq_run0 (stp_ext rfl rfl) ?_
        refine seq_run0 (stp_ext rfl rfl) ?_
        refine seq_run0 (stp_assign (.dat _) rfl) ?_
        refine seq_run0 (stp_assign (.dat _) rfl) ?_
        refine awp_seq ?_
        refine awp_joinE (ι := Bool) (fun i => [(2, .ptr 1 0), (4, .ptr 2 0), (9, .dat (vstr r42.1)), (11, .dat (vbool r42.2.2)), (12, .dat (vint r44.1)), (28, .dat (vlst (List.map C_string r22))), (29, .dat (vint (r22.length : Int))), (30, .dat (vint (k36 : Int))), (59, .dat (vbool i))]) (fun i => [(1, .box none 34 [.dat (vbool false), .dat (vbool false), .dat (vbool false), .dat (vbool false), .dat (vbool false), .dat (vbool false), .dat (vint 0), .dat (vint 0), .dat (vint 0), .dat (vint 0), .dat (vint 0), .dat (vint 0)]), (2, .box none 34 [.dat (vbool c24), .dat (vbool c25), .dat (vbool c28), .dat (vbool c29), .dat (vbool c30), .dat (vbool c31), .dat (vint c32), .dat (vint c33), .dat (vint c34), .dat (vint c35), .dat (vint c26), .dat (vint c27)])]) (fun i => gateref2_ControlOf_J4 c24 c25 c26 c27 c28 c29 c30 c31 c32 c33 c34 c35 r42 r44 i = some q37) (fun i => rfl) ?_ ?_
        · skip
          refine awp_plain hN rfl ?_
          refine seq_run0 (stp_move (.dat _) rfl) ?_
          obtain ⟨r46, h47, H⟩ := bnd H
          refine seq_run0 (stp_call (k_gateref2_Token r42.1 r46 h47) ⟨.inl rfl, trivial⟩) ?_
          refine seq_run0 (stp_not rfl) ?_
          refine seq_run0 (stp_move (.dat _) rfl) ?_
          refine seq_split (j := 3) rfl rfl (fun h48 => ?_) (fun h48 => ?_) rfl
          · have h49 := un3 h48
            replace H := iff_ h49 H
            refine seq_g0 rfl rfl h48 (stp_move (.dat _) rfl) ?_
            refine seq_g0 rfl rfl h48 (stp_move (.dat _) rfl) ?_
            refine seq_split (j := 5) rfl rfl (fun h50 => ?_) (fun h50 => ?_) rfl
            · have h51 := un1 h50
              replace H := ift h51 H
              refine seq_g0 rfl rfl h50 (stp_move (.dat _) rfl) ?_
              refine seq_g0 rfl rfl h50 (stp_not rfl) ?_
              refine seq_g0 rfl rfl h50 (stp_move (.dat _) rfl) ?_
              refine seq_split (j := 8) rfl rfl (fun h52 => ?_) (fun h52 => ?_) rfl
              · have h53 := un3 h52
                replace H := iff_ h53 H
                refine seq_g0 rfl rfl h52 (stp_move (.dat _) rfl) ?_
                obtain ⟨r54, h55, H⟩ := bnd H
                refine seq_g0 rfl rfl h52 (stp_call (k_gateref2_in r44.1 0 100000000 r54 h55) ⟨.inl rfl, .inl rfl, .inl rfl, trivial⟩) ?_
                refine seq_g0 rfl rfl h52 (stp_not rfl) ?_
                refine seq_g0 rfl rfl h50 (stp_pick_f rfl (bFF h53) rfl) ?_
                refine seq_g0 rfl rfl h48 (stp_pick_t rfl (bTT h51) rfl) ?_
                refine seq_run0 (stp_pick_f rfl (bFF h49) rfl) ?_
                exact ⟨!r54, H, ⟨rfl, rfl, rfl, rfl, rfl, rfl, rfl, rfl, rfl, trivial⟩, ⟨rfl, rfl, trivial⟩⟩
              · have h56 := un4 h52
                replace H := ift h56 H
                refine seq_skip rfl rfl h52 ?_
                refine seq_skip rfl rfl h52 ?_
                refine seq_skip rfl rfl h52 ?_
                refine seq_g0 rfl rfl h50 (stp_pick_t rfl (bTT h56) rfl) ?_
                refine seq_g0 rfl rfl h48 (stp_pick_t rfl (bTT h51) rfl) ?_
                refine seq_run0 (stp_pick_f rfl (bFF h49) rfl) ?_
                exact ⟨true, H, ⟨rfl, rfl, rfl, rfl, rfl, rfl, rfl, rfl, rfl, trivial⟩, ⟨rfl, rfl, trivial⟩⟩
            · have h57 := un2 h50
              replace H := iff_ h57 H
              refine seq_skip rfl rfl h50 ?_
              refine seq_skip rfl rfl h50 ?_
              refine seq_skip rfl rfl h50 ?_
              refine seq_skipU rfl rfl ?_
              refine seq_skipU rfl rfl ?_
              refine seq_skipU rfl rfl ?_
              refine seq_skip rfl rfl h50 ?_
              refine seq_g0 rfl rfl h48 (stp_pick_f rfl (bFF h57) rfl) ?_
              refine seq_run0 (stp_pick_f rfl (bFF h49) rfl) ?_
              exact ⟨false, H, ⟨rfl, rfl, rfl, rfl, rfl, rfl, rfl, rfl, rfl, trivial⟩, ⟨rfl, rfl, trivial⟩⟩
          · have h58 := un4 h48
            replace H := ift h58 H
            refine seq_skip rfl rfl h48 ?_
            refine seq_skip rfl rfl h48 ?_
            refine seq_skipU rfl rfl ?_
            refine seq_skipU rfl rfl ?_
            refine seq_skipU rfl rfl ?_
            refine seq_skipU rfl rfl ?_
            refine seq_skipU rfl rfl ?_
            refine seq_skipU rfl rfl ?_
            refine seq_skipU rfl rfl ?_
            refine seq_skip rfl rfl h48 ?_
            refine seq_run0 (stp_pick_t rfl (bTT h58) rfl) ?_
            exact ⟨true, H, ⟨rfl, rfl, rfl, rfl, rfl, rfl, rfl, rfl, rfl, trivial⟩, ⟨rfl, rfl, trivial⟩⟩
        · rintro v59 H
          replace H : gateref2_ControlOf_J4 c24 c25 c26 c27 c28 c29 c30 c31 c32 c33 c34 c35 r42 r44 v59 = some q37 := H
          unfold gateref2_ControlOf_J4 at H
          refine awp_cond _ rfl (fun h60 => ?_) (fun h60 => ?_)
          · replace H := ift h60 H
            refine awp_seq ?_
            refine awp_plain hN rfl ?_
            refine seq_run0 (stp_dat (u' := vagg (C_api_Control (S_api_Control.mk false false false false false false 0 0 0 0 0 0))) (stp_build [] tyZ34 tyP34 rfl trivial) rfl) ?_
            refine seq_run2 (stp_storeW tyS34 rfl rfl rfl rfl) rfl ?_
            refine seq_run0 (stp_assign (.dat _) rfl) ?_
            refine awp_ret ?_
            replace H := retl H hq37
            cases H
            exact ⟨trivial, .inl ⟨_, _, _, C_api_Control (S_api_Control.mk false false false false false false 0 0 0 0 0 0), rfl, rfl, rfl, rfl, tyS34⟩, .inl rfl, trivial⟩
          · replace H := iff_ h60 H
            refine awp_skip ?_
            refine awp_seq ?_
            refine awp_plain hN rfl ?_
            refine seq_run0 (stp_move (.dat _) rfl) ?_
            obtain ⟨r61, h62, H⟩ := bnd H
            refine seq_run0 (stp_call (k_strings_ToLower r42.1 r61 h62) ⟨.inl rfl, trivial⟩) ?_
            refine seq_run0 (stp_assign (.dat _) rfl) ?_
            refine awp_joinE (ι := Bool × Bool × Bool × Bool × Bool × Bool × Int × Int × Int × Int × Int × Int) (fun i => [(2, .ptr 1 0), (4, .ptr 2 0), (9, .dat (vstr r61)), (11, .dat (vbool r42.2.2)), (12, .dat (vint r44.1)), (28, .dat (vlst (List.map C_string r22))), (29, .dat (vint (r22.length : Int))), (30, .dat (vint (k36 : Int)))]) (fun i => [(1, .box none 34 [.dat (vbool false), .dat (vbool false), .dat (vbool false), .dat (vbool false), .dat (vbool false), .dat (vbool false), .dat (vint 0), .dat (vint 0), .dat (vint 0), .dat (vint 0), .dat (vint 0), .dat (vint 0)]), (2, .box none 34 [.dat (vbool i.1), .dat (vbool i.2.1), .dat (vbool i.2.2.1), .dat (vbool i.2.2.2.1), .dat (vbool i.2.2.2.2.1), .dat (vbool i.2.2.2.2.2.1), .dat (vint i.2.2.2.2.2.2.1), .dat (vint i.2.2.2.2.2.2.2.1), .dat (vint i.2.2.2.2.2.2.2.2.1), .dat (vint i.2.2.2.2.2.2.2.2.2.1), .dat (vint i.2.2.2.2.2.2.2.2.2.2.1), .dat (vint i.2.2.2.2.2.2.2.2.2.2.2)])]) (fun i => gateref2_ControlOf_J5 r42 r44 r61 i.1 i.2.1 i.2.2.1 i.2.2.2.1 i.2.2.2.2.1 i.2.2.2.2.2.1 i.2.2.2.2.2.2.1 i.2.2.2.2.2.2.2.1 i.2.2.2.2.2.2.2.2.1 i.2.2.2.2.2.2.2.2.2.1 i.2.2.2.2.2.2.2.2.2.2.1 i.2.2.2.2.2.2.2.2.2.2.2 = some q37) (fun i => rfl) ?_ ?_
            · skip
              refine awp_seq ?_
              refine awp_plain hN rfl ?_
              obtain ⟨r63, h64, H⟩ := bnd H
              refine seq_run0 (stp_call (k_gateref2_flagNames  r63 h64) trivial) ?_
              refine seq_run0 (stp_move (.dat _) rfl) ?_
              obtain ⟨r65, h66, H⟩ := bnd H
              refine seq_run0 (stp_call (k_slices_Index_L_string_string_ r63 r61 r65 h66) ⟨.inl rfl, .inl rfl, trivial⟩) ?_
              refine seq_run0 (stp_assign (.dat _) rfl) ?_
              refine awp_seq ?_
              refine awp_plain hN rfl ?_
              refine seq_run0 (stp_move (.dat _) rfl) ?_
              refine seq_run0 (stp_geq rfl rfl) ?_
              refine awp_cond _ rfl (fun h67 => ?_) (fun h67 => ?_)
              · replace H := ift h67 H
                refine awp_seq ?_
                refine awp_plain hN rfl ?_
                obtain ⟨r68, h69, H⟩ := bnd H
                refine seq_run1 (stp_dr (s := .dr 2 (fun qb => vlst (List.map (CP qb) r68))) 2 (fun qb => stp_call (k_gateref2_flagsOf qb r68 h69) ⟨.inl rfl, trivial⟩) rfl rfl) rfl ?_
                refine seq_run0 (stp_move (.dat _) rfl) ?_
                obtain ⟨x70, h71, H⟩ := bnd H
                refine seq_run1 (stp_dr (s := .dr 2 (fun qb => vcell (List.map (CP qb) r68) r65.toNat 0)) 2 (fun qb => t_idxI tyE64 (fun _ => rfl) rfl rfl h71) rfl rfl) rfl ?_
                obtain ⟨h72, H⟩ := gif H
                refine seq_run1 (stp_dr (s := .ptr 2 x70.toNat) 2 (fun qb => stp_loadE1 tyS63 rfl (map_at (at_some h71).2) rfl) rfl rfl) rfl ?_
                refine seq_run0 (stp_nilP rfl) ?_
                obtain ⟨c73, h74, H⟩ := bnd H
                refine seq_run2 (stp_storeD tyS4 rfl rfl rfl (st_S_api_Control_bool_at (c := (S_api_Control.mk c24 c25 c28 c29 c30 c31 c32 c33 c34 c35 c26 c27)) h72 h74)) rfl ?_
                refine awp_seq ?_
                refine awp_plain hN rfl ?_
                refine seq_run0 (stp_move (.dat _) rfl) ?_
                refine awp_cond _ rfl (fun h75 => ?_) (fun h75 => ?_)
                · replace H := ift h75 H
                  refine awp_seq ?_
                  refine awp_plain hN rfl ?_
                  refine seq_run0 (stp_dat (u' := vagg (C_api_Control (S_api_Control.mk false false false false false false 0 0 0 0 0 0))) (stp_build [] tyZ34 tyP34 rfl trivial) rfl) ?_
                  refine seq_run2 (stp_storeW tyS34 rfl rfl rfl rfl) rfl ?_
                  refine seq_run0 (stp_assign (.dat _) rfl) ?_
                  refine awp_ret ?_
                  replace H := retl H hq37
                  cases H
                  exact ⟨trivial, .inl ⟨_, _, _, C_api_Control (S_api_Control.mk false false false false false false 0 0 0 0 0 0), rfl, rfl, rfl, rfl, tyS34⟩, .inl rfl, trivial⟩
                · replace H := iff_ h75 H
                  refine awp_skip ?_
                  exact ⟨(c73.NoStore, c73.NoCache, c73.Private, c73.Public, c73.Must, c73.Only, c73.MaxAge, c73.Shared, c73.Stale, c73.OnError, c73.MaxStale, c73.MinFresh), H, ⟨rfl, rfl, rfl, rfl, rfl, rfl, rfl, rfl, trivial⟩, ⟨rfl, rfl, trivial⟩⟩
              · replace H := iff_ h67 H
                refine awp_skip ?_
                exact ⟨(c24, c25, c28, c29, c30, c31, c32, c33, c34, c35, c26, c27), H, ⟨rfl, rfl, rfl, rfl, rfl, rfl, rfl, rfl, trivial⟩, ⟨rfl, rfl, trivial⟩⟩
            · rintro ⟨c76, c77, c78, c79, c80, c81, c82, c83, c84, c85, c86, c87⟩ H
              replace H : gateref2_ControlOf_J5 r42 r44 r61 c76 c77 c78 c79 c80 c81 c82 c83 c84 c85 c86 c87 = some q37 := H
              unfold gateref2_ControlOf_J5 at H
              refine awp_seq ?_
              refine awp_plain hN rfl ?_
              obtain ⟨r88, h89, H⟩ := bnd H
              refine seq_run0 (stp_call (k_gateref2_countNames  r88 h89) trivial) ?_
              refine seq_run0 (stp_move (.dat _) rfl) ?_
              obtain ⟨r90, h91, H⟩ := bnd H
              refine seq_run0 (stp_call (k_slices_Index_L_string_string_ r88 r61 r90 h91) ⟨.inl rfl, .inl rfl, trivial⟩) ?_
              refine seq_run0 (stp_assign (.dat _) rfl) ?_
              refine awp_seq ?_
              refine awp_plain hN rfl ?_
              refine seq_run0 (stp_move (.dat _) rfl) ?_
              refine seq_run0 (stp_geq rfl rfl) ?_
              refine awp_cond _ rfl (fun h92 => ?_) (fun h92 => ?_)
              · replace H := ift h92 H
                refine awp_seq ?_
                refine awp_seq ?_
                refine awp_plain hN rfl ?_
                refine seq_run0 (stp_move (.dat _) rfl) ?_
                refine seq_run0 (stp_not rfl) ?_
                refine awp_cond _ rfl (fun h93 => ?_) (fun h93 => ?_)
                · replace H := ift h93 H
                  refine awp_seq ?_
                  refine awp_plain hN rfl ?_
                  refine seq_run0 (stp_dat (u' := vagg (C_api_Control (S_api_Control.mk false false false false false false 0 0 0 0 0 0))) (stp_build [] tyZ34 tyP34 rfl trivial) rfl) ?_
                  refine seq_run2 (stp_storeW tyS34 rfl rfl rfl rfl) rfl ?_
                  refine seq_run0 (stp_assign (.dat _) rfl) ?_
                  refine awp_ret ?_
                  replace H := retl H hq37
                  cases H
                  exact ⟨trivial, .inl ⟨_, _, _, C_api_Control (S_api_Control.mk false false false false false false 0 0 0 0 0 0), rfl, rfl, rfl, rfl, tyS34⟩, .inl rfl, trivial⟩
                · replace H := iff_ h93 H
                  refine awp_skip ?_
                  refine awp_seq ?_
                  refine awp_plain hN rfl ?_
                  obtain ⟨r94, h95, H⟩ := bnd H
                  refine seq_run1 (stp_dr (s := .dr 2 (fun qb => vlst (List.map (CP qb) r94))) 2 (fun qb => stp_call (k_gateref2_countsOf qb r94 h95) ⟨.inl rfl, trivial⟩) rfl rfl) rfl ?_
                  refine seq_run0 (stp_move (.dat _) rfl) ?_
                  obtain ⟨x96, h97, H⟩ := bnd H
                  refine seq_run1 (stp_dr (s := .dr 2 (fun qb => vcell (List.map (CP qb) r94) r90.toNat 0)) 2 (fun qb => t_idxI tyE49 (fun _ => rfl) rfl rfl h97) rfl rfl) rfl ?_
                  obtain ⟨h98, H⟩ := gif H
                  refine seq_run1 (stp_dr (s := .ptr 2 x96.toNat) 2 (fun qb => stp_loadE1 tyS52 rfl (map_at (at_some h97).2) rfl) rfl rfl) rfl ?_
                  refine seq_run0 (stp_assign (.ptr _ _) rfl) ?_
                  refine awp_seq ?_
                  refine awp_plain hN rfl ?_
                  refine seq_run0 (stp_move (.ptr _ _) rfl) ?_
                  refine seq_run0 (stp_nilP rfl) ?_
                  refine seq_run1 (stp_load1 tyS3 rfl (gt_S_api_Control_int_at (c := (S_api_Control.mk c76 c77 c78 c79 c80 c81 c82 c83 c84 c85 c86 c87)) h98)) rfl ?_
                  refine seq_run0 (stp_lss rfl rfl) ?_
                  refine seq_run0 (stp_move (.dat _) rfl) ?_
                  refine seq_aF rfl rfl (fun hc => stp_move (.dat _) rfl) ?_
                  refine seq_aF rfl rfl (fun hc => stp_move (.ptr _ _) rfl) ?_
                  refine seq_aF rfl rfl (fun hc => stp_nilP (cnd (c := (!(decide ((gt_S_api_Control_int (S_api_Control.mk c76 c77 c78 c79 c80 c81 c82 c83 c84 c85 c86 c87) x96) < 0)))) hc)) ?_
                  refine seq_arF rfl rfl (fun hc => stp_load1 tyS3 (cnd (c := (!(decide ((gt_S_api_Control_int (S_api_Control.mk c76 c77 c78 c79 c80 c81 c82 c83 c84 c85 c86 c87) x96) < 0)))) hc) (gt_S_api_Control_int_at (c := (S_api_Control.mk c76 c77 c78 c79 c80 c81 c82 c83 c84 c85 c86 c87)) h98)) rfl anti_p ?_
                  refine seq_aF rfl rfl (fun hc => stp_lss (cnd (c := (!(decide ((gt_S_api_Control_int (S_api_Control.mk c76 c77 c78 c79 c80 c81 c82 c83 c84 c85 c86 c87) x96) < 0)))) hc) (cnd (c := (!(decide ((gt_S_api_Control_int (S_api_Control.mk c76 c77 c78 c79 c80 c81 c82 c83 c84 c85 c86 c87) x96) < 0)))) hc)) ?_
                  refine seq_run0 (stp_pick_or rfl rfl (fun hb => (cnd (c := (!(decide ((gt_S_api_Control_int (S_api_Control.mk c76 c77 c78 c79 c80 c81 c82 c83 c84 c85 c86 c87) x96) < 0)))) (notI hb)))) ?_
                  refine awp_cond _ rfl (fun h99 => ?_) (fun h99 => ?_)
                  · replace H := ift h99 H
                    refine awp_plain hN rfl ?_
                    refine seq_run0 (stp_move (.ptr _ _) rfl) ?_
                    refine seq_run0 (stp_move (.dat _) rfl) ?_
                    refine seq_run0 (stp_nilP rfl) ?_
                    obtain ⟨c100, h101, H⟩ := bnd H
                    refine seq_run2 (stp_storeD tyS3 rfl rfl rfl (st_S_api_Control_int_at (c := (S_api_Control.mk c76 c77 c78 c79 c80 c81 c82 c83 c84 c85 c86 c87)) h98 h101)) rfl ?_
                    exact ⟨(c100.NoStore, c100.NoCache, c100.Private, c100.Public, c100.Must, c100.Only, c100.MaxAge, c100.Shared, c100.Stale, c100.OnError, c100.MaxStale, c100.MinFresh), H, ⟨rfl, rfl, rfl, rfl, rfl, trivial⟩, ⟨rfl, rfl, trivial⟩⟩
                  · replace H := iff_ h99 H
                    refine awp_skip ?_
                    exact ⟨(c76, c77, c78, c79, c80, c81, c82, c83, c84, c85, c86, c87), H, ⟨rfl, rfl, rfl, rfl, rfl, trivial⟩, ⟨rfl, rfl, trivial⟩⟩
              · replace H := iff_ h92 H
                refine awp_skip ?_
                exact ⟨(c76, c77, c78, c79, c80, c81, c82, c83, c84, c85, c86, c87), H, ⟨rfl, rfl, rfl, rfl, rfl, trivial⟩, ⟨rfl, rfl, trivial⟩⟩
      · rintro ⟨c102, c103, c104, c105, c106, c107, c108, c109, c110, c111, c112, c113⟩ H
        replace H : gateref2_ControlOf_J3 c102 c103 c104 c105 c106 c107 c108 c109 c110 c111 c112 c113 = some q37 := H
        unfold gateref2_ControlOf_J3 at H
        refine awp_plain hN rfl ?_
        refine seq_run0 (stp_add rfl rfl (by omega)) ?_
        refine seq_run0 (stp_move (.dat _) rfl) ?_
        exact ⟨_, backl H, ⟨rfl, rfl, rfl, rfl, rfl, trivial⟩, ⟨rfl, rfl, trivial⟩⟩
  · rintro k16 x19 ⟨c4, c5, c6, c7, c8, c9, c10, c11, c12, c13, c14, c15⟩ q17 h114 h115 H hq17
    replace H : gateref2_ControlOf_L1 k16 x19 c4 c5 c6 c7 c8 c9 c10 c11 c12 c13 c14 c15 = some q17 := H
    unfold gateref2_ControlOf_L1 at H
    refine awp_seq ?_
    refine awp_plain hN rfl ?_
    refine seq_run0 (stp_lss rfl rfl) ?_
    refine awp_seq ?_
    refine awp_cond _ rfl (fun h => ?_) (fun h => (lt_f h114 h).elim)
    refine awp_skip ?_
    refine awp_seq ?_
    refine awp_block ?_
    refine awp_seq ?_
    refine awp_plain hN rfl ?_
    refine seq_run1 (stp_dr (s := .dr 2 (fun qb => vcell (List.map (CP qb) r2) k16 0)) 2 (fun qb => t_idx tyE49 (fun _ => rfl) rfl rfl h115) rfl rfl) rfl ?_
    obtain ⟨h116, H⟩ := gif H
    refine seq_run1 (stp_dr (s := .ptr 2 x19.toNat) 2 (fun qb => stp_loadE1 tyS52 rfl (map_at h115) rfl) rfl rfl) rfl ?_
    refine seq_run0 (stp_assign (.ptr _ _) rfl) ?_
    refine awp_plain hN rfl ?_
    refine seq_run0 (stp_move (.ptr _ _) rfl) ?_
    refine seq_run0 (stp_nilP rfl) ?_
    obtain ⟨c117, h118, H⟩ := bnd H
    refine seq_run2 (stp_storeD tyS3 rfl rfl rfl (st_S_api_Control_int_at (c := (S_api_Control.mk c4 c5 c8 c9 c10 c11 c12 c13 c14 c15 c6 c7)) h116 h118)) rfl ?_
    refine awp_plain hN rfl ?_
    refine seq_run0 (stp_add rfl rfl (by omega)) ?_
    refine seq_run0 (stp_move (.dat _) rfl) ?_
    exact ⟨_, backl H, ⟨rfl, rfl, rfl, rfl, rfl, rfl, trivial⟩, ⟨rfl, rfl, trivial⟩⟩
theorem k_gatemake_Stream_Pick (s1 : S_gatemake_Stream) (l2 : (List Int)) (r : (Int × S_gatemake_Stream)) (H : m_gatemake_Stream_Pick s1 l2 = some r) : Imp Tryz.prog 14 25 (C_gatemake_Stream s1) [vlst (List.map C_int l2)] (resOf [vint r.1]) (C_gatemake_Stream r.2) := by
  refine imp_of (us := [vint r.1]) (cs' := (C_gatemake_Stream r.2)) (by kernel_rfl) Tryz.func14 rfl rfl rfl rfl fun X bl hN => ?_
  unfold m_gatemake_Stream_Pick at H
  refine awp_seq ?_
  refine awp_plain hN rfl ?_
  refine seq_run0 (stp_assign (.dat _) rfl) ?_
  refine awp_seq ?_
  refine awp_plain hN rfl ?_
  refine seq_run0 (stp_move (.dat _) rfl) ?_
  refine seq_run0 (stp_move (.ptr _ _) rfl) ?_
  refine seq_run0 (stp_move (.dat _) rfl) ?_
  refine seq_run0 (t_len tyU22 rfl) ?_
  obtain ⟨r3, h4, H⟩ := bnd H
  refine seq_run2 (stp_imp (k_gatemake_Stream_Next s1 (l2.length : Int) r3 h4) rfl ⟨.inl rfl, trivial⟩ rfl) rfl ?_
  obtain ⟨x5, h6, H⟩ := bnd H
  refine seq_run0 (t_idxI tyE22 (fun _ => rfl) rfl rfl h6) ?_
  refine seq_run0 (stp_loadE1 tyS3 rfl (map_at (at_some h6).2) rfl) ?_
  refine seq_run0 (stp_assign (.dat _) rfl) ?_
  refine awp_ret ?_
  cases H
  exact ⟨trivial, ⟨.inl rfl, trivial⟩, rfl⟩
theorem k_gatemake_Stream_Odd (s1 : S_gatemake_Stream) (low2 : Int) (high3 : Int) (r : (Int × S_gatemake_Stream)) (H : m_gatemake_Stream_Odd s1 low2 high3 = some r) : Imp Tryz.prog 13 25 (C_gatemake_Stream s1) [vint low2, vint high3] (resOf [vint r.1]) (C_gatemake_Stream r.2) := by
  refine imp_of (us := [vint r.1]) (cs' := (C_gatemake_Stream r.2)) (by kernel_rfl) Tryz.func13 rfl rfl rfl rfl fun X bl hN => ?_
  unfold m_gatemake_Stream_Odd at H
  refine awp_seq ?_
  refine awp_plain hN rfl ?_
  refine seq_run0 (stp_assign (.dat _) rfl) ?_
  refine awp_seq ?_
  refine awp_seq ?_
  refine awp_plain hN rfl ?_
  refine seq_run0 (stp_move (.ptr _ _) rfl) ?_
  obtain ⟨r4, h5, H⟩ := bnd H
  refine seq_run2 (stp_imp (k_gatemake_Stream_Flip s1 12 r4 h5) rfl ⟨.inl rfl, trivial⟩ rfl) rfl ?_
  refine awp_cond _ rfl (fun h6 => ?_) (fun h6 => ?_)
  · replace H := ift h6 H
    refine awp_seq ?_
    refine awp_plain hN rfl ?_
    refine seq_run0 (stp_move (.ptr _ _) rfl) ?_
    refine seq_run0 (stp_move (.dat _) rfl) ?_
    refine seq_run0 (stp_wrap _ rfl rfl (.inr (.inl ⟨rfl, rfl⟩))) ?_
    refine seq_run0 (stp_move (.dat _) rfl) ?_
    refine seq_run0 (stp_wrap _ rfl rfl (.inl ⟨rfl, rfl⟩)) ?_
    refine seq_run0 (stp_move (.dat _) rfl) ?_
    refine seq_run0 (stp_move (.dat _) rfl) ?_
    refine seq_run0 (stp_dat (u' := vlst (List.map C_int [wr (low2 - 1), wr (high3 + 1), low2, high3, (-1099511627776), 1099511627776])) (stp_lit [[_], [_], [_], [_], [_], [_]] tyL22 ⟨rfl, .inl ⟨_, rfl, rfl, rfl⟩, rfl, rfl, .inl ⟨_, rfl, rfl, rfl⟩, rfl, rfl, .inl ⟨_, rfl, rfl, rfl⟩, rfl, rfl, .inl ⟨_, rfl, rfl, rfl⟩, rfl, rfl, .inl ⟨_, rfl, rfl, rfl⟩, rfl, rfl, .inl ⟨_, rfl, rfl, rfl⟩, rfl, trivial⟩ rfl rfl) rfl) ?_
    obtain ⟨r7, h8, H⟩ := bnd H
    refine seq_run2 (stp_imp (k_gatemake_Stream_Pick r4.2 [wr (low2 - 1), wr (high3 + 1), low2, high3, (-1099511627776), 1099511627776] r7 h8) rfl ⟨.inl rfl, trivial⟩ rfl) rfl ?_
    refine seq_run0 (stp_assign (.dat _) rfl) ?_
    refine awp_ret ?_
    cases H
    exact ⟨trivial, ⟨.inl rfl, trivial⟩, rfl⟩
  · replace H := iff_ h6 H
    refine awp_skip ?_
    refine awp_seq ?_
    refine awp_plain hN rfl ?_
    refine seq_run0 (stp_move (.ptr _ _) rfl) ?_
    refine seq_run0 (stp_move (.dat _) rfl) ?_
    refine seq_run0 (stp_move (.dat _) rfl) ?_
    obtain ⟨r9, h10, H⟩ := bnd H
    refine seq_run2 (stp_imp (k_gatemake_Stream_Range r4.2 low2 high3 r9 h10) rfl ⟨.inl rfl, .inl rfl, trivial⟩ rfl) rfl ?_
    refine seq_run0 (stp_assign (.dat _) rfl) ?_
    refine awp_ret ?_
    cases H
    exact ⟨trivial, ⟨.inl rfl, trivial⟩, rfl⟩
theorem k_cache_Text (v1 : S_api_Control) (r : (Bs × Int)) (H : m_cache_Text v1 = some r) : Fn Tryz.prog 15 [vagg (C_api_Control v1)] (resOf [vstr r.1, vint r.2]) := by
  refine ⟨by kernel_rfl, pure_of (us := [vstr r.1, vint r.2]) Tryz.func15 rfl rfl rfl rfl fun X hN => ?_⟩
  unfold m_cache_Text at H
  refine awp_seq ?_
  refine awp_plain hN rfl ?_
  refine seq_run2 (stp_boxA 1 rfl) rfl ?_
  refine seq_run0 (stp_assign (.dat _) rfl) ?_
  refine seq_run0 (stp_assign (.dat _) rfl) ?_
  refine awp_seq ?_
  refine awp_plain hN rfl ?_
  refine seq_run0 (stp_assign (.dat _) rfl) ?_
  refine awp_seq ?_
  refine awp_plain hN rfl ?_
  obtain ⟨r2, h3, H⟩ := bnd H
  refine seq_run1 (stp_dr (s := .dr 1 (fun qb => vtup [vlst (List.map C_string r2.1), vlst (List.map (CP qb) r2.2)])) 1 (fun qb => stp_call (k_cache_flags qb r2 h3) ⟨.inl rfl, trivial⟩) rfl rfl) rfl ?_
  refine seq_run0 (stp_move (.dr _ _) rfl) ?_
  refine seq_run1 (stp_dr (s := .dat (vlst (List.map C_string r2.1))) 1 (fun qb => stp_ext rfl rfl) rfl rfl) rfl ?_
  refine seq_run1 (stp_dr (s := .dr 1 (fun qb => vlst (List.map (CP qb) r2.2))) 1 (fun qb => stp_ext rfl rfl) rfl rfl) rfl ?_
  refine seq_run0 (stp_assign (.dat _) rfl) ?_
  refine seq_run0 (stp_assign (.dr _ _) rfl) ?_
  refine awp_seq ?_
  refine awp_seq ?_
  refine awp_plain hN rfl ?_
  refine seq_run0 (stp_move (.dat _) rfl) ?_
  refine seq_run0 (t_len tyU46 rfl) ?_
  refine seq_run0 (stp_move (.dat _) rfl) ?_
  refine awp_block ?_
  refine awp_nilrow 4 2 9 1 rfl rfl rfl ?_
  obtain ⟨h7, H⟩ := gif H
  refine awp_forL (fun (k5 : Nat) (s : (List Bs)) => [(1, .ptr 1 0), (4, .row 2 s.length), (6, .dr 1 (fun qb => vlst (List.map (CP qb) r2.2))), (16, .dat (vlst (List.map C_string r2.1))), (17, .dat (vint (r2.1.length : Int))), (18, .dat (vint (k5 : Int)))]) (fun (k5 : Nat) (s : (List Bs)) => [(1, .box none 34 [.dat (vbool v1.NoStore), .dat (vbool v1.NoCache), .dat (vbool v1.Private), .dat (vbool v1.Public), .dat (vbool v1.Must), .dat (vbool v1.Only), .dat (vint v1.MaxAge), .dat (vint v1.Shared), .dat (vint v1.Stale), .dat (vint v1.OnError), .dat (vint v1.MaxStale), .dat (vint v1.MinFresh)]), (2, .row 9 1 (List.map C_string s))]) [] H ⟨rfl, congrArg (Slot.row 2) (by simp), rfl, rfl, rfl, rfl, trivial⟩ ⟨rfl, rfl, trivial⟩ (fun _ _ => rfl) ?_ ?_
  · rintro l4 H
    replace H : cache_Text_E1 v1 l4 = some r := H
    unfold cache_Text_E1 at H
    refine awp_seq ?_
    refine awp_plain hN rfl ?_
    refine seq_run0 (stp_lss rfl rfl) ?_
    refine awp_seq ?_
    refine awp_cond _ rfl (fun h => (lt_t h).elim) (fun h => ?_)
    refine awp_exit ?_
    refine awp_seq ?_
    refine awp_plain hN rfl ?_
    obtain ⟨r9, h10, H⟩ := bnd H
    refine seq_run1 (stp_dr (s := .dr 1 (fun qb => vtup [vlst (List.map C_string r9.1), vlst (List.map (CP qb) r9.2)])) 1 (fun qb => stp_call (k_cache_numbers qb r9 h10) ⟨.inl rfl, trivial⟩) rfl rfl) rfl ?_
    refine seq_run0 (stp_move (.dr _ _) rfl) ?_
    refine seq_run1 (stp_dr (s := .dat (vlst (List.map C_string r9.1))) 1 (fun qb => stp_ext rfl rfl) rfl rfl) rfl ?_
    refine seq_run1 (stp_dr (s := .dr 1 (fun qb => vlst (List.map (CP qb) r9.2))) 1 (fun qb => stp_ext rfl rfl) rfl rfl) rfl ?_
    refine seq_run0 (stp_assign (.dat _) rfl) ?_
    refine seq_run0 (stp_assign (.dr _ _) rfl) ?_
    refine awp_seq ?_
    refine awp_seq ?_
    refine awp_plain hN rfl ?_
    refine seq_run0 (stp_move (.dat _) rfl) ?_
    refine seq_run0 (t_len tyU46 rfl) ?_
    refine seq_run0 (stp_move (.dat _) rfl) ?_
    refine awp_block ?_
    obtain ⟨h14, H⟩ := gif H
    refine awp_forL (fun (k12 : Nat) (s : (List Bs)) => [(4, .row 2 s.length), (9, .dr 1 (fun qb => vlst (List.map (CP qb) r9.2))), (38, .dat (vlst (List.map C_string r9.1))), (39, .dat (vint (r9.1.length : Int))), (40, .dat (vint (k12 : Int)))]) (fun (k12 : Nat) (s : (List Bs)) => [(1, .box none 34 [.dat (vbool v1.NoStore), .dat (vbool v1.NoCache), .dat (vbool v1.Private), .dat (vbool v1.Public), .dat (vbool v1.Must), .dat (vbool v1.Only), .dat (vint v1.MaxAge), .dat (vint v1.Shared), .dat (vint v1.Stale), .dat (vint v1.OnError), .dat (vint v1.MaxStale), .dat (vint v1.MinFresh)]), (2, .row 9 1 (List.map C_string s))]) l4 H ⟨rfl, rfl, rfl, rfl, rfl, trivial⟩ ⟨rfl, rfl, trivial⟩ (fun _ _ => rfl) ?_ ?_
    · rintro l11 H
      replace H : cache_Text_E2 l11 = some r := H
      unfold cache_Text_E2 at H
      refine awp_seq ?_
      refine awp_plain hN rfl ?_
      refine seq_run0 (stp_lss rfl rfl) ?_
      refine awp_seq ?_
      refine awp_cond _ rfl (fun h => (lt_t h).elim) (fun h => ?_)
      refine awp_exit ?_
      refine awp_seq ?_
      refine t_freeze 4 2 rfl rfl rfl ?_
      refine awp_plain hN rfl ?_
      refine seq_run0 (stp_move (.dat _) rfl) ?_
      obtain ⟨r16, h17, H⟩ := bnd H
      refine seq_run0 (stp_call (k_strings_Join l11 [44, 32] r16 h17) ⟨.inl rfl, .inl rfl, trivial⟩) ?_
      refine seq_run0 (stp_assign (.dat _) rfl) ?_
      refine seq_run0 (stp_assign (.dat _) rfl) ?_
      refine awp_ret ?_
      cases H
      exact ⟨trivial, .inl rfl, .inl rfl, trivial⟩
    · rintro k12 x15 l11 q13 h18 h19 H hq13
      replace H : cache_Text_L2 v1 r9 k12 x15 l11 = some q13 := H
      unfold cache_Text_L2 at H
      refine awp_seq ?_
      refine awp_plain hN rfl ?_
      refine seq_run0 (stp_lss rfl rfl) ?_
      refine awp_seq ?_
      refine awp_cond _ rfl (fun h => ?_) (fun h => (lt_f h18 h).elim)
      refine awp_skip ?_
      refine awp_joinE (ι := (List Bs)) (fun i => [(4, .row 2 i.length), (9, .dr 1 (fun qb => vlst (List.map (CP qb) r9.2))), (38, .dat (vlst (List.map C_string r9.1))), (39, .dat (vint (r9.1.length : Int))), (40, .dat (vint (k12 : Int)))]) (fun i => [(1, .box none 34 [.dat (vbool v1.NoStore), .dat (vbool v1.NoCache), .dat (vbool v1.Private), .dat (vbool v1.Public), .dat (vbool v1.Must), .dat (vbool v1.Only), .dat (vint v1.MaxAge), .dat (vint v1.Shared), .dat (vint v1.Stale), .dat (vint v1.OnError), .dat (vint v1.MaxStale), .dat (vint v1.MinFresh)]), (2, .row 9 1 (List.map C_string i))]) (fun i => cache_Text_J3 i = some q13) (fun i => rfl) ?_ ?_
      · skip
        refine awp_block ?_
        refine awp_seq ?_
        refine awp_plain hN rfl ?_
        refine seq_run0 (stp_move (.dat _) rfl) ?_
        refine seq_run0 (t_idx tyE46 (fun _ => rfl) rfl rfl h19) ?_
        refine seq_run0 (stp_loadE1 tyS9 rfl (map_at h19) rfl) ?_
        refine seq_run0 (stp_assign (.dat _) rfl) ?_
        refine seq_run0 (stp_assign (.dat _) rfl) ?_
        refine awp_seq ?_
        refine awp_seq ?_
        refine awp_plain hN rfl ?_
        refine seq_run0 (stp_move (.dr _ _) rfl) ?_
        refine seq_run0 (stp_move (.dat _) rfl) ?_
        obtain ⟨x20, h21, H⟩ := bnd H
        refine seq_run1 (stp_dr (s := .dr 1 (fun qb => vcell (List.map (CP qb) r9.2) k12 0)) 1 (fun qb => t_idx tyE49 (fun _ => rfl) rfl rfl h21) rfl rfl) rfl ?_
        obtain ⟨h22, H⟩ := gif H
        refine seq_run1 (stp_dr (s := .ptr 1 x20.toNat) 1 (fun qb => stp_loadE1 tyS52 rfl (map_at h21) rfl) rfl rfl) rfl ?_
        refine seq_run0 (stp_nilP rfl) ?_
        refine seq_run1 (stp_load1 tyS3 rfl (gt_S_api_Control_int_at (c := v1) h22)) rfl ?_
        obtain ⟨r23, h24, H⟩ := bnd H
        refine seq_run0 (stp_call (k_kit_Outside (gt_S_api_Control_int v1 x20) (-1) 100000000 r23 h24) ⟨.inl rfl, .inl rfl, .inl rfl, trivial⟩) ?_
        refine awp_cond _ rfl (fun h25 => ?_) (fun h25 => ?_)
        · replace H := ift h25 H
          refine awp_seq ?_
          refine awp_plain hN rfl ?_
          refine seq_run0 (stp_assign (.dat _) rfl) ?_
          refine seq_run0 (stp_assign (.dat _) rfl) ?_
          refine awp_ret ?_
          replace H := retl H hq13
          cases H
          exact ⟨trivial, .inl rfl, .inl rfl, trivial⟩
        · replace H := iff_ h25 H
          refine awp_skip ?_
          refine awp_seq ?_
          refine awp_plain hN rfl ?_
          refine seq_run0 (stp_move (.dr _ _) rfl) ?_
          refine seq_run0 (stp_move (.dat _) rfl) ?_
          refine seq_run1 (stp_dr (s := .dr 1 (fun qb => vcell (List.map (CP qb) r9.2) k12 0)) 1 (fun qb => t_idx tyE49 (fun _ => rfl) rfl rfl h21) rfl rfl) rfl ?_
          obtain ⟨h26, H⟩ := gif H
          refine seq_run1 (stp_dr (s := .ptr 1 x20.toNat) 1 (fun qb => stp_loadE1 tyS52 rfl (map_at h21) rfl) rfl rfl) rfl ?_
          refine seq_run0 (stp_nilP rfl) ?_
          refine seq_run1 (stp_load1 tyS3 rfl (gt_S_api_Control_int_at (c := v1) h26)) rfl ?_
          refine seq_run0 (stp_neq rfl rfl) ?_
          refine awp_cond _ rfl (fun h27 => ?_) (fun h27 => ?_)
          · replace H := ift h27 H
            refine awp_plain hN rfl ?_
            refine seq_run0 (stp_move (.row _ _) rfl) ?_
            refine seq_run0 (stp_move (.dat _) rfl) ?_
            obtain ⟨h28, H⟩ := gif H
            refine seq_run0 (stp_sadd rfl rfl (Nat.le_trans h28 (by decide))) ?_
            refine seq_run0 (stp_move (.dr _ _) rfl) ?_
            refine seq_run0 (stp_move (.dat _) rfl) ?_
            refine seq_run1 (stp_dr (s := .dr 1 (fun qb => vcell (List.map (CP qb) r9.2) k12 0)) 1 (fun qb => t_idx tyE49 (fun _ => rfl) rfl rfl h21) rfl rfl) rfl ?_
            obtain ⟨h29, H⟩ := gif H
            refine seq_run1 (stp_dr (s := .ptr 1 x20.toNat) 1 (fun qb => stp_loadE1 tyS52 rfl (map_at h21) rfl) rfl rfl) rfl ?_
            refine seq_run0 (stp_nilP rfl) ?_
            refine seq_run1 (stp_load1 tyS3 rfl (gt_S_api_Control_int_at (c := v1) h29)) rfl ?_
            obtain ⟨r30, h31, H⟩ := bnd H
            refine seq_run0 (stp_call (k_strconv_Itoa (gt_S_api_Control_int v1 x20) r30 h31) ⟨.inl rfl, trivial⟩) ?_
            obtain ⟨h32, H⟩ := gif H
            refine seq_run0 (stp_sadd rfl rfl (Nat.le_trans h32 (by decide))) ?_
            refine seq_run0 (stp_dat (u' := vlst (List.map C_string [((x15 ++ [61]) ++ r30)])) (stp_lit [[_]] tyL46 ⟨rfl, .inl ⟨_, rfl, rfl, rfl⟩, rfl, trivial⟩ rfl rfl) rfl) ?_
            obtain ⟨h33, H⟩ := gif H
            refine seq_run2 (t_app tyL46 (fun _ => rfl) rfl rfl rfl ⟨by simp, by first | (simp; done) | simpa using h33⟩ rfl) rfl ?_
            refine seq_run0 (stp_assign (.row _ _) rfl) ?_
            exact ⟨(l11 ++ ([((x15 ++ [61]) ++ r30)])), H, ⟨rfl, rfl, rfl, rfl, rfl, trivial⟩, ⟨rfl, rfl, trivial⟩⟩
          · replace H := iff_ h27 H
            refine awp_skip ?_
            exact ⟨l11, H, ⟨rfl, rfl, rfl, rfl, rfl, trivial⟩, ⟨rfl, rfl, trivial⟩⟩
      · rintro v34 H
        replace H : cache_Text_J3 v34 = some q13 := H
        unfold cache_Text_J3 at H
        refine awp_plain hN rfl ?_
        refine seq_run0 (stp_add rfl rfl (by omega)) ?_
        refine seq_run0 (stp_move (.dat _) rfl) ?_
        exact ⟨_, backl H, ⟨rfl, rfl, rfl, rfl, rfl, trivial⟩, ⟨rfl, rfl, trivial⟩⟩
  · rintro k5 x8 l4 q6 h35 h36 H hq6
    replace H : cache_Text_L1 v1 r2 k5 x8 l4 = some q6 := H
    unfold cache_Text_L1 at H
    refine awp_seq ?_
    refine awp_plain hN rfl ?_
    refine seq_run0 (stp_lss rfl rfl) ?_
    refine awp_seq ?_
    refine awp_cond _ rfl (fun h => ?_) (fun h => (lt_f h35 h).elim)
    refine awp_skip ?_
    refine awp_joinE (ι := (List Bs)) (fun i => [(1, .ptr 1 0), (4, .row 2 i.length), (6, .dr 1 (fun qb => vlst (List.map (CP qb) r2.2))), (16, .dat (vlst (List.map C_string r2.1))), (17, .dat (vint (r2.1.length : Int))), (18, .dat (vint (k5 : Int)))]) (fun i => [(1, .box none 34 [.dat (vbool v1.NoStore), .dat (vbool v1.NoCache), .dat (vbool v1.Private), .dat (vbool v1.Public), .dat (vbool v1.Must), .dat (vbool v1.Only), .dat (vint v1.MaxAge), .dat (vint v1.Shared), .dat (vint v1.Stale), .dat (vint v1.OnError), .dat (vint v1.MaxStale), .dat (vint v1.MinFresh)]), (2, .row 9 1 (List.map C_string i))]) (fun i => cache_Text_J4 i = some q6) (fun i => rfl) ?_ ?_
    · skip
      refine awp_block ?_
      refine awp_seq ?_
      refine awp_plain hN rfl ?_
      refine seq_run0 (stp_move (.dat _) rfl) ?_
      refine seq_run0 (t_idx tyE46 (fun _ => rfl) rfl rfl h36) ?_
      refine seq_run0 (stp_loadE1 tyS9 rfl (map_at h36) rfl) ?_
      refine seq_run0 (stp_assign (.dat _) rfl) ?_
      refine seq_run0 (stp_assign (.dat _) rfl) ?_
      refine awp_seq ?_
      refine awp_plain hN rfl ?_
      refine seq_run0 (stp_move (.dr _ _) rfl) ?_
      refine seq_run0 (stp_move (.dat _) rfl) ?_
      obtain ⟨x37, h38, H⟩ := bnd H
      refine seq_run1 (stp_dr (s := .dr 1 (fun qb => vcell (List.map (CP qb) r2.2) k5 0)) 1 (fun qb => t_idx tyE64 (fun _ => rfl) rfl rfl h38) rfl rfl) rfl ?_
      obtain ⟨h39, H⟩ := gif H
      refine seq_run1 (stp_dr (s := .ptr 1 x37.toNat) 1 (fun qb => stp_loadE1 tyS63 rfl (map_at h38) rfl) rfl rfl) rfl ?_
      refine seq_run0 (stp_nilP rfl) ?_
      refine seq_run1 (stp_load1 tyS4 rfl (gt_S_api_Control_bool_at (c := v1) h39)) rfl ?_
      refine awp_cond _ rfl (fun h40 => ?_) (fun h40 => ?_)
      · replace H := ift h40 H
        refine awp_plain hN rfl ?_
        refine seq_run0 (stp_move (.row _ _) rfl) ?_
        refine seq_run0 (stp_move (.dat _) rfl) ?_
        refine seq_run0 (stp_dat (u' := vlst (List.map C_string [x8])) (stp_lit [[_]] tyL46 ⟨rfl, .inl ⟨_, rfl, rfl, rfl⟩, rfl, trivial⟩ rfl rfl) rfl) ?_
        obtain ⟨h41, H⟩ := gif H
        refine seq_run2 (t_app tyL46 (fun _ => rfl) rfl rfl rfl ⟨by simp, by first | (simp; done) | simpa using h41⟩ rfl) rfl ?_
        refine seq_run0 (stp_assign (.row _ _) rfl) ?_
        exact ⟨(l4 ++ [x8]), H, ⟨rfl, rfl, rfl, rfl, rfl, rfl, trivial⟩, ⟨rfl, rfl, trivial⟩⟩
      · replace H := iff_ h40 H
        refine awp_skip ?_
        exact ⟨l4, H, ⟨rfl, rfl, rfl, rfl, rfl, rfl, trivial⟩, ⟨rfl, rfl, trivial⟩⟩
    · rintro v42 H
      replace H : cache_Text_J4 v42 = some q6 := H
      unfold cache_Text_J4 at H
      refine awp_plain hN rfl ?_
      refine seq_run0 (stp_add rfl rfl (by omega)) ?_
      refine seq_run0 (stp_move (.dat _) rfl) ?_
      exact ⟨_, backl H, ⟨rfl, rfl, rfl, rfl, rfl, rfl, trivial⟩, ⟨rfl, rfl, trivial⟩⟩
theorem k_gateref2_ControlText (c1 : S_api_Control) (r : (Bs × Int)) (H : m_gateref2_ControlText c1 = some r) : Fn Tryz.prog 16 [vagg (C_api_Control c1)] (resOf [vstr r.1, vint r.2]) := by
  refine ⟨by kernel_rfl, pure_of (us := [vstr r.1, vint r.2]) Tryz.func16 rfl rfl rfl rfl fun X hN => ?_⟩
  unfold m_gateref2_ControlText at H
  refine awp_seq ?_
  refine awp_plain hN rfl ?_
  refine seq_run2 (stp_boxA 1 rfl) rfl ?_
  refine seq_run0 (stp_assign (.dat _) rfl) ?_
  refine seq_run0 (stp_assign (.dat _) rfl) ?_
  refine awp_seq ?_
  refine awp_plain hN rfl ?_
  refine seq_run0 (stp_assign (.dat _) rfl) ?_
  refine awp_seq ?_
  refine awp_seq ?_
  refine awp_plain hN rfl ?_
  obtain ⟨r2, h3, H⟩ := bnd H
  refine seq_run1 (stp_dr (s := .dr 1 (fun qb => vlst (List.map (CP qb) r2))) 1 (fun qb => stp_call (k_gateref2_flagsOf qb r2 h3) ⟨.inl rfl, trivial⟩) rfl rfl) rfl ?_
  refine seq_run1 (stp_dr (s := .dat (vint (r2.length : Int))) 1 (fun qb => t_len tyU64 rfl) rfl rfl) rfl ?_
  refine seq_run0 (stp_move (.dat _) rfl) ?_
  refine awp_block ?_
  refine awp_nilrow 4 2 9 1 rfl rfl rfl ?_
  obtain ⟨h7, H⟩ := gif H
  refine awp_forL (fun (k5 : Nat) (s : (List Bs)) => [(1, .ptr 1 0), (4, .row 2 s.length), (9, .dr 1 (fun qb => vlst (List.map (CP qb) r2))), (10, .dat (vint (r2.length : Int))), (11, .dat (vint (k5 : Int)))]) (fun (k5 : Nat) (s : (List Bs)) => [(1, .box none 34 [.dat (vbool c1.NoStore), .dat (vbool c1.NoCache), .dat (vbool c1.Private), .dat (vbool c1.Public), .dat (vbool c1.Must), .dat (vbool c1.Only), .dat (vint c1.MaxAge), .dat (vint c1.Shared), .dat (vint c1.Stale), .dat (vint c1.OnError), .dat (vint c1.MaxStale), .dat (vint c1.MinFresh)]), (2, .row 9 1 (List.map C_string s))]) [] H ⟨rfl, congrArg (Slot.row 2) (by simp), rfl, rfl, rfl, trivial⟩ ⟨rfl, rfl, trivial⟩ (fun _ _ => rfl) ?_ ?_
  · rintro l4 H
    replace H : gateref2_ControlText_E1 c1 l4 = some r := H
    unfold gateref2_ControlText_E1 at H
    refine awp_seq ?_
    refine awp_plain hN rfl ?_
    refine seq_run0 (stp_lss rfl rfl) ?_
    refine awp_seq ?_
    refine awp_cond _ rfl (fun h => (lt_t h).elim) (fun h => ?_)
    refine awp_exit ?_
    refine awp_seq ?_
    refine awp_seq ?_
    refine awp_plain hN rfl ?_
    obtain ⟨r9, h10, H⟩ := bnd H
    refine seq_run1 (stp_dr (s := .dr 1 (fun qb => vlst (List.map (CP qb) r9))) 1 (fun qb => stp_call (k_gateref2_countsOf qb r9 h10) ⟨.inl rfl, trivial⟩) rfl rfl) rfl ?_
    refine seq_run1 (stp_dr (s := .dat (vint (r9.length : Int))) 1 (fun qb => t_len tyU49 rfl) rfl rfl) rfl ?_
    refine seq_run0 (stp_move (.dat _) rfl) ?_
    refine awp_block ?_
    obtain ⟨h14, H⟩ := gif H
    refine awp_forL (fun (k12 : Nat) (s : (List Bs)) => [(4, .row 2 s.length), (27, .dr 1 (fun qb => vlst (List.map (CP qb) r9))), (28, .dat (vint (r9.length : Int))), (29, .dat (vint (k12 : Int)))]) (fun (k12 : Nat) (s : (List Bs)) => [(1, .box none 34 [.dat (vbool c1.NoStore), .dat (vbool c1.NoCache), .dat (vbool c1.Private), .dat (vbool c1.Public), .dat (vbool c1.Must), .dat (vbool c1.Only), .dat (vint c1.MaxAge), .dat (vint c1.Shared), .dat (vint c1.Stale), .dat (vint c1.OnError), .dat (vint c1.MaxStale), .dat (vint c1.MinFresh)]), (2, .row 9 1 (List.map C_string s))]) l4 H ⟨rfl, rfl, rfl, rfl, trivial⟩ ⟨rfl, rfl, trivial⟩ (fun _ _ => rfl) ?_ ?_
    · rintro l11 H
      replace H : gateref2_ControlText_E2 l11 = some r := H
      unfold gateref2_ControlText_E2 at H
      refine awp_seq ?_
      refine awp_plain hN rfl ?_
      refine seq_run0 (stp_lss rfl rfl) ?_
      refine awp_seq ?_
      refine awp_cond _ rfl (fun h => (lt_t h).elim) (fun h => ?_)
      refine awp_exit ?_
      refine awp_seq ?_
      refine t_freeze 4 2 rfl rfl rfl ?_
      refine awp_plain hN rfl ?_
      refine seq_run0 (stp_move (.dat _) rfl) ?_
      obtain ⟨r16, h17, H⟩ := bnd H
      refine seq_run0 (stp_call (k_strings_Join l11 [44, 32] r16 h17) ⟨.inl rfl, .inl rfl, trivial⟩) ?_
      refine seq_run0 (stp_assign (.dat _) rfl) ?_
      refine seq_run0 (stp_assign (.dat _) rfl) ?_
      refine awp_ret ?_
      cases H
      exact ⟨trivial, .inl rfl, .inl rfl, trivial⟩
    · rintro k12 x15 l11 q13 h18 h19 H hq13
      replace H : gateref2_ControlText_L2 c1 k12 x15 l11 = some q13 := H
      unfold gateref2_ControlText_L2 at H
      refine awp_seq ?_
      refine awp_plain hN rfl ?_
      refine seq_run0 (stp_lss rfl rfl) ?_
      refine awp_seq ?_
      refine awp_cond _ rfl (fun h => ?_) (fun h => (lt_f h18 h).elim)
      refine awp_skip ?_
      refine awp_joinE (ι := (List Bs)) (fun i => [(4, .row 2 i.length), (27, .dr 1 (fun qb => vlst (List.map (CP qb) r9))), (28, .dat (vint (r9.length : Int))), (29, .dat (vint (k12 : Int)))]) (fun i => [(1, .box none 34 [.dat (vbool c1.NoStore), .dat (vbool c1.NoCache), .dat (vbool c1.Private), .dat (vbool c1.Public), .dat (vbool c1.Must), .dat (vbool c1.Only), .dat (vint c1.MaxAge), .dat (vint c1.Shared), .dat (vint c1.Stale), .dat (vint c1.OnError), .dat (vint c1.MaxStale), .dat (vint c1.MinFresh)]), (2, .row 9 1 (List.map C_string i))]) (fun i => gateref2_ControlText_J3 i = some q13) (fun i => rfl) ?_ ?_
      · skip
        refine awp_block ?_
        refine awp_seq ?_
        refine awp_plain hN rfl ?_
        refine seq_run0 (stp_move (.dat _) rfl) ?_
        refine seq_run1 (stp_dr (s := .dr 1 (fun qb => vcell (List.map (CP qb) r9) k12 0)) 1 (fun qb => t_idx tyE49 (fun _ => rfl) rfl rfl h19) rfl rfl) rfl ?_
        obtain ⟨h20, H⟩ := gif H
        refine seq_run1 (stp_dr (s := .ptr 1 x15.toNat) 1 (fun qb => stp_loadE1 tyS52 rfl (map_at h19) rfl) rfl rfl) rfl ?_
        refine seq_run0 (stp_assign (.dat _) rfl) ?_
        refine seq_run0 (stp_assign (.ptr _ _) rfl) ?_
        refine awp_seq ?_
        refine awp_seq ?_
        refine awp_plain hN rfl ?_
        refine seq_run0 (stp_move (.ptr _ _) rfl) ?_
        refine seq_run0 (stp_nilP rfl) ?_
        refine seq_run1 (stp_load1 tyS3 rfl (gt_S_api_Control_int_at (c := c1) h20)) rfl ?_
        obtain ⟨r21, h22, H⟩ := bnd H
        refine seq_run0 (stp_call (k_gateref2_in (gt_S_api_Control_int c1 x15) (-1) 100000000 r21 h22) ⟨.inl rfl, .inl rfl, .inl rfl, trivial⟩) ?_
        refine seq_run0 (stp_not rfl) ?_
        refine awp_cond _ rfl (fun h23 => ?_) (fun h23 => ?_)
        · replace H := ift h23 H
          refine awp_seq ?_
          refine awp_plain hN rfl ?_
          refine seq_run0 (stp_assign (.dat _) rfl) ?_
          refine seq_run0 (stp_assign (.dat _) rfl) ?_
          refine awp_ret ?_
          replace H := retl H hq13
          cases H
          exact ⟨trivial, .inl rfl, .inl rfl, trivial⟩
        · replace H := iff_ h23 H
          refine awp_skip ?_
          refine awp_seq ?_
          refine awp_plain hN rfl ?_
          refine seq_run0 (stp_move (.ptr _ _) rfl) ?_
          refine seq_run0 (stp_nilP rfl) ?_
          refine seq_run1 (stp_load1 tyS3 rfl (gt_S_api_Control_int_at (c := c1) h20)) rfl ?_
          refine seq_run0 (stp_geq rfl rfl) ?_
          refine awp_cond _ rfl (fun h24 => ?_) (fun h24 => ?_)
          · replace H := ift h24 H
            refine awp_draw mixed hN rfl rfl ?_
            refine seq_run0 (stp_move (.row _ _) rfl) ?_
            obtain ⟨r25, h26, H⟩ := bnd H
            refine seq_run0 (stp_call (k_gateref2_countNames  r25 h26) trivial) ?_
            refine seq_run0 (stp_move (.dat _) rfl) ?_
            obtain ⟨x27, h28, H⟩ := bnd H
            refine seq_run0 (t_idx tyE46 (fun _ => rfl) rfl rfl h28) ?_
            refine seq_run0 (stp_loadE1 tyS9 rfl (map_at h28) rfl) ?_
            obtain ⟨h29, H⟩ := gif H
            refine seq_run0 (stp_sadd rfl rfl (Nat.le_trans h29 (by decide))) ?_
            refine seq_run0 (stp_move (.ptr _ _) rfl) ?_
            refine seq_run0 (stp_nilP rfl) ?_
            refine seq_run1 (stp_load1 tyS3 rfl (gt_S_api_Control_int_at (c := c1) h20)) rfl ?_
            obtain ⟨r30, h31, H⟩ := bnd H
            refine seq_run0 (stp_call (k_strconv_Itoa (gt_S_api_Control_int c1 x15) r30 h31) ⟨.inl rfl, trivial⟩) ?_
            obtain ⟨h32, H⟩ := gif H
            refine seq_run0 (stp_sadd rfl rfl (Nat.le_trans h32 (by decide))) ?_
            refine seq_run0 (stp_dat (u' := vlst (List.map C_string [((x27 ++ [61]) ++ r30)])) (stp_lit [[_]] tyL46 ⟨rfl, .inl ⟨_, rfl, rfl, rfl⟩, rfl, trivial⟩ rfl rfl) rfl) ?_
            obtain ⟨h33, H⟩ := gif H
            refine seq_run2 (t_app tyL46 (fun _ => rfl) rfl rfl rfl ⟨by simp, by first | (simp; done) | simpa using h33⟩ rfl) rfl ?_
            refine seq_run0 (stp_assign (.row _ _) rfl) ?_
            refine ⟨rfl, ?_⟩
            exact ⟨(l11 ++ ([((x27 ++ [61]) ++ r30)])), H, ⟨rfl, rfl, rfl, rfl, trivial⟩, ⟨rfl, rfl, trivial⟩⟩
          · replace H := iff_ h24 H
            refine awp_skip ?_
            exact ⟨l11, H, ⟨rfl, rfl, rfl, rfl, trivial⟩, ⟨rfl, rfl, trivial⟩⟩
      · rintro out34 H
        replace H : gateref2_ControlText_J3 out34 = some q13 := H
        unfold gateref2_ControlText_J3 at H
        refine awp_plain hN rfl ?_
        refine seq_run0 (stp_add rfl rfl (by omega)) ?_
        refine seq_run0 (stp_move (.dat _) rfl) ?_
        exact ⟨_, backl H, ⟨rfl, rfl, rfl, rfl, trivial⟩, ⟨rfl, rfl, trivial⟩⟩
  · rintro k5 x8 l4 q6 h35 h36 H hq6
    replace H : gateref2_ControlText_L1 c1 k5 x8 l4 = some q6 := H
    unfold gateref2_ControlText_L1 at H
    refine awp_seq ?_
    refine awp_plain hN rfl ?_
    refine seq_run0 (stp_lss rfl rfl) ?_
    refine awp_seq ?_
    refine awp_cond _ rfl (fun h => ?_) (fun h => (lt_f h35 h).elim)
    refine awp_skip ?_
    refine awp_joinE (ι := (List Bs)) (fun i => [(1, .ptr 1 0), (4, .row 2 i.length), (9, .dr 1 (fun qb => vlst (List.map (CP qb) r2))), (10, .dat (vint (r2.length : Int))), (11, .dat (vint (k5 : Int)))]) (fun i => [(1, .box none 34 [.dat (vbool c1.NoStore), .dat (vbool c1.NoCache), .dat (vbool c1.Private), .dat (vbool c1.Public), .dat (vbool c1.Must), .dat (vbool c1.Only), .dat (vint c1.MaxAge), .dat (vint c1.Shared), .dat (vint c1.Stale), .dat (vint c1.OnError), .dat (vint c1.MaxStale), .dat (vint c1.MinFresh)]), (2, .row 9 1 (List.map C_string i))]) (fun i => gateref2_ControlText_J4 i = some q6) (fun i => rfl) ?_ ?_
    · skip
      refine awp_block ?_
      refine awp_seq ?_
      refine awp_plain hN rfl ?_
      refine seq_run0 (stp_move (.dat _) rfl) ?_
      refine seq_run1 (stp_dr (s := .dr 1 (fun qb => vcell (List.map (CP qb) r2) k5 0)) 1 (fun qb => t_idx tyE64 (fun _ => rfl) rfl rfl h36) rfl rfl) rfl ?_
      obtain ⟨h37, H⟩ := gif H
      refine seq_run1 (stp_dr (s := .ptr 1 x8.toNat) 1 (fun qb => stp_loadE1 tyS63 rfl (map_at h36) rfl) rfl rfl) rfl ?_
      refine seq_run0 (stp_assign (.dat _) rfl) ?_
      refine seq_run0 (stp_assign (.ptr _ _) rfl) ?_
      refine awp_seq ?_
      refine awp_plain hN rfl ?_
      refine seq_run0 (stp_move (.ptr _ _) rfl) ?_
      refine seq_run0 (stp_nilP rfl) ?_
      refine seq_run1 (stp_load1 tyS4 rfl (gt_S_api_Control_bool_at (c := c1) h37)) rfl ?_
      refine awp_cond _ rfl (fun h38 => ?_) (fun h38 => ?_)
      · replace H := ift h38 H
        refine awp_plain hN rfl ?_
        refine seq_run0 (stp_move (.row _ _) rfl) ?_
        obtain ⟨r39, h40, H⟩ := bnd H
        refine seq_run0 (stp_call (k_gateref2_flagNames  r39 h40) trivial) ?_
        refine seq_run0 (stp_move (.dat _) rfl) ?_
        obtain ⟨x41, h42, H⟩ := bnd H
        refine seq_run0 (t_idx tyE46 (fun _ => rfl) rfl rfl h42) ?_
        refine seq_run0 (stp_loadE1 tyS9 rfl (map_at h42) rfl) ?_
        refine seq_run0 (stp_dat (u' := vlst (List.map C_string [x41])) (stp_lit [[_]] tyL46 ⟨rfl, .inl ⟨_, rfl, rfl, rfl⟩, rfl, trivial⟩ rfl rfl) rfl) ?_
        obtain ⟨h43, H⟩ := gif H
        refine seq_run2 (t_app tyL46 (fun _ => rfl) rfl rfl rfl ⟨by simp, by first | (simp; done) | simpa using h43⟩ rfl) rfl ?_
        refine seq_run0 (stp_assign (.row _ _) rfl) ?_
        exact ⟨(l4 ++ [x41]), H, ⟨rfl, rfl, rfl, rfl, rfl, trivial⟩, ⟨rfl, rfl, trivial⟩⟩
      · replace H := iff_ h38 H
        refine awp_skip ?_
        exact ⟨l4, H, ⟨rfl, rfl, rfl, rfl, rfl, trivial⟩, ⟨rfl, rfl, trivial⟩⟩
    · rintro out44 H
      replace H : gateref2_ControlText_J4 out44 = some q6 := H
      unfold gateref2_ControlText_J4 at H
      refine awp_plain hN rfl ?_
      refine seq_run0 (stp_add rfl rfl (by omega)) ?_
      refine seq_run0 (stp_move (.dat _) rfl) ?_
      exact ⟨_, backl H, ⟨rfl, rfl, rfl, rfl, rfl, trivial⟩, ⟨rfl, rfl, trivial⟩⟩
theorem k_message_CheckResponse (a1 : S_api_Response) (r : (Int)) (H : m_message_CheckResponse a1 = some r) : Fn Tryz.prog 66 [vagg (C_api_Response a1)] (resOf [vint r]) := by
  refine ⟨by kernel_rfl, pure_of (us := [vint r]) Tryz.func66 rfl rfl rfl rfl fun X hN => ?_⟩
  unfold m_message_CheckResponse at H
  refine awp_seq ?_
  refine awp_plain hN rfl ?_
  refine seq_run2 (stp_boxA 1 rfl) rfl ?_
  refine seq_run0 (stp_assign (.dat _) rfl) ?_
  refine awp_seq ?_
  refine awp_seq ?_
  refine awp_plain hN rfl ?_
  refine seq_run0 (stp_fldP tyF75_0 rfl) ?_
  refine seq_run1 (stp_load1 tyS3 rfl rfl) rfl ?_
  obtain ⟨r2, h3, H⟩ := bnd H
  refine seq_run0 (stp_call (k_kit_Outside a1.Status 100 599 r2 h3) ⟨.inl rfl, .inl rfl, .inl rfl, trivial⟩) ?_
  refine awp_cond _ rfl (fun h4 => ?_) (fun h4 => ?_)
  · replace H := ift h4 H
    refine awp_seq ?_
    refine awp_plain hN rfl ?_
    refine seq_run0 (stp_assign (.dat _) rfl) ?_
    refine awp_ret ?_
    cases H
    exact ⟨trivial, .inl rfl, trivial⟩
  · replace H := iff_ h4 H
    refine awp_skip ?_
    refine awp_seq ?_
    refine awp_seq ?_
    refine awp_plain hN rfl ?_
    refine seq_run0 (stp_fldP tyF75_1 rfl) ?_
    refine seq_run1 (stp_load1 tyS26 rfl rfl) rfl ?_
    obtain ⟨r5, h6, H⟩ := bnd H
    refine seq_run0 (stp_call (k_message_CheckHeaders a1.Headers r5 h6) ⟨.inl rfl, trivial⟩) ?_
    refine seq_run0 (stp_assign (.dat _) rfl) ?_
    refine awp_seq ?_
    refine awp_plain hN rfl ?_
    refine seq_run0 (stp_move (.dat _) rfl) ?_
    refine seq_run0 (stp_neq rfl rfl) ?_
    refine awp_cond _ rfl (fun h7 => ?_) (fun h7 => ?_)
    · replace H := ift h7 H
      refine awp_seq ?_
      refine awp_plain hN rfl ?_
      refine seq_run0 (stp_move (.dat _) rfl) ?_
      refine seq_run0 (stp_assign (.dat _) rfl) ?_
      refine awp_ret ?_
      cases H
      exact ⟨trivial, .inl rfl, trivial⟩
    · replace H := iff_ h7 H
      refine awp_skip ?_
      refine awp_seq ?_
      refine awp_seq ?_
      refine awp_plain hN rfl ?_
      refine seq_run0 (stp_fldP tyF75_2 rfl) ?_
      refine seq_run1 (stp_load1 tyS9 rfl rfl) rfl ?_
      refine seq_run0 (stp_len_str tyU9 rfl) ?_
      refine seq_run0 (stp_gtr rfl rfl) ?_
      refine awp_cond _ rfl (fun h8 => ?_) (fun h8 => ?_)
      · replace H := ift h8 H
        refine awp_seq ?_
        refine awp_plain hN rfl ?_
        refine seq_run0 (stp_assign (.dat _) rfl) ?_
        refine awp_ret ?_
        cases H
        exact ⟨trivial, .inl rfl, trivial⟩
      · replace H := iff_ h8 H
        refine awp_skip ?_
        refine awp_seq ?_
        refine awp_plain hN rfl ?_
        refine seq_run0 (stp_assign (.dat _) rfl) ?_
        refine awp_ret ?_
        cases H
        exact ⟨trivial, .inl rfl, trivial⟩
theorem k_slices_Contains_L_string_string_ (s1 : (List Bs)) (v2 : Bs) (r : (Bool)) (H : m_slices_Contains_L_string_string_ s1 v2 = some r) : Fn Tryz.prog 97 [vlst (List.map C_string s1), vstr v2] (resOf [vbool r]) := by
  refine ⟨by kernel_rfl, pure_of (us := [vbool r]) Tryz.func97 rfl rfl rfl rfl fun X hN => ?_⟩
  unfold m_slices_Contains_L_string_string_ at H
  refine awp_seq ?_
  refine awp_plain hN rfl ?_
  refine seq_run0 (stp_assign (.dat _) rfl) ?_
  refine awp_seq ?_
  refine awp_plain hN rfl ?_
  refine seq_run0 (stp_move (.dat _) rfl) ?_
  refine seq_run0 (stp_move (.dat _) rfl) ?_
  obtain ⟨r3, h4, H⟩ := bnd H
  refine seq_run0 (stp_call (k_slices_Index_L_string_string_ s1 v2 r3 h4) ⟨.inl rfl, .inl rfl, trivial⟩) ?_
  refine seq_run0 (stp_geq rfl rfl) ?_
  refine seq_run0 (stp_assign (.dat _) rfl) ?_
  refine awp_ret ?_
  cases H
  exact ⟨trivial, .inl rfl, trivial⟩
theorem kr_slices_Clone_L_string_string_ (l r : List Bs) (H : m_slices_Clone l = some r) : FnG Tryz.prog 130 [.dat (vlst (List.map C_string l))] [] (.row 900 r.length) [(900, .row 9 1 (List.map C_string r))] := by
  obtain ⟨hl, rfl⟩ := clone_some H
  refine fnG_of (by kernel_rfl) Tryz.func130 rfl rfl rfl rfl fun X A hN => ?_
  refine awp_nilcase 0 rfl (fun h0 => ?_) ?_
  · obtain rfl := List.map_eq_nil_iff.1 h0
    refine awp_seq ?_
    refine awp_plain hN rfl ?_
    refine seq_run0 (stp_assign (.dat _) rfl) ?_
    refine awp_seq ?_
    refine awp_seq ?_
    refine awp_plain hN rfl ?_
    refine seq_run0 (stp_move (.dat _) rfl) ?_
    refine seq_run0 (stp_eqnil_t tyU46 rfl) ?_
    refine awp_cond _ rfl (fun h => ?_) (fun h => by cases h)
    refine awp_seq ?_
    refine awp_plain hN rfl ?_
    refine seq_run0 (stp_assign (.dat _) rfl) ?_
    refine awp_nilrow 2 900 9 1 rfl rfl rfl ?_
    refine awp_ret ?_
    exact ⟨trivial, [(2, .row 900 0)], ⟨rfl, trivial⟩, ⟨rfl, trivial⟩, rfl, .inr ⟨2, rfl, rfl⟩⟩
  · refine awp_seq ?_
    refine awp_plain hN rfl ?_
    refine seq_run0 (stp_assign (.dat _) rfl) ?_
    refine awp_seq ?_
    refine awp_seq ?_
    refine awp_plain hN rfl ?_
    refine seq_run0 (stp_move (.dat _) rfl) ?_
    refine seq_run0 (stp_eqnil_f tyU46 rfl) ?_
    refine awp_cond _ rfl (fun h => by cases h) (fun h => ?_)
    refine awp_skip ?_
    refine awp_seq ?_
    refine awp_wk 0 (u' := vlst (List.map C_string l)) rfl wk_nn ?_
    refine awp_plain hN rfl ?_
    refine seq_run2 (stp_lit0 900 tyL46) rfl ?_
    refine seq_run0 (stp_move (.dat _) rfl) ?_
    refine seq_run2 (t_app2 (C := C_string) (xs := []) tyL46 (fun _ => rfl) rfl rfl rfl (by simpa using hl) rfl) rfl ?_
    refine seq_run0 (stp_assign (.row _ _) rfl) ?_
    refine awp_ret ?_
    exact ⟨trivial, [(2, .row 900 l.length)], ⟨rfl, trivial⟩, ⟨rfl, trivial⟩, rfl, .inr ⟨2, rfl, rfl⟩⟩
theorem k_slices_Clone_L_string_string_ (l r : List Bs) (H : m_slices_Clone l = some r) : Fn Tryz.prog 130 [vlst (List.map C_string l)] (resOf [vlst (List.map C_string r)]) := by
  have h := kr_slices_Clone_L_string_string_ l r H
  rw [← List.length_map (f := C_string)] at h
  exact fn_of_fnG h
theorem kt_slices_Sort_L_string_string_ (l r : List Bs) (H : m_slices_Sort_string l = some r) : FnG Tryz.prog 131 [.row 0 l.length] [(0, .rowA undef 9 1 (List.map C_string l))] (.dat (resOf [])) [(0, .rowA undef 9 1 (List.map C_string r))] := by
  obtain ⟨hl, hr⟩ := sortS_some H
  refine fnG_turn (fun s : Bs => Value.string ⟨s.toArray⟩) r l (sortS_len H) (by kernel_rfl) (fun _ => rfl) (fun blk cap w hH hb => ?_) (fun h w => ?_)
  · rw [hr]; exact Tryz.slices_Sort_string blk 0 cap l w hH hb (by omega)
  · exact Tryz.slices_Sort_string_none none 0 w
theorem ks_slices_Compact_L_string_string_ (l r : List Bs) (H : m_slices_Compact_string l = some r) : FnG Tryz.prog 132 [.row 0 l.length] [(0, .row 9 1 (List.map C_string l))] (.row 900 r.length) [(900, .row 9 1 (List.map C_string r))] := by
  obtain ⟨h1, rfl⟩ := compactS_some H
  exact fnG_short (fun s : Bs => Value.string ⟨s.toArray⟩) [] (Lib.compact l) l (compact_len l) (by kernel_rfl) (fun _ => rfl) (fun blk cap w hH hc => Tryz.slices_Compact_string blk 0 cap l w hH (by omega) hc) (fun h a cap w => Tryz.slices_Compact_string_empty a cap w)
theorem k_kit_Rising (l1 : (List Bs)) (r : ((List Bs))) (H : m_kit_Rising l1 = some r) : Fn Tryz.prog 98 [vlst (List.map C_string l1)] (resOf [vlst (List.map C_string r)]) := by
  refine ⟨by kernel_rfl, pure_of (us := [vlst (List.map C_string r)]) Tryz.func98 rfl rfl rfl rfl fun X hN => ?_⟩
  unfold m_kit_Rising at H
  refine awp_seq ?_
  refine awp_plain hN rfl ?_
  refine seq_run0 (stp_assign (.dat _) rfl) ?_
  refine awp_seq ?_
  refine awp_plain hN rfl ?_
  refine seq_run0 (stp_move (.dat _) rfl) ?_
  obtain ⟨r2, h3, H⟩ := bnd H
  refine seq_callG (rn [(900, 1)]) [] [(900, _)] (kr_slices_Clone_L_string_string_ l1 r2 h3) ⟨rfl, trivial⟩ ⟨.inl (.inl rfl), trivial⟩ trivial rfl ?_
  refine seq_run0 (stp_assign (.row _ _) rfl) ?_
  refine awp_seq ?_
  refine awp_plain hN rfl ?_
  refine seq_run0 (stp_move (.row _ _) rfl) ?_
  obtain ⟨r4, h5, H⟩ := bnd H
  refine seq_callG (rn [(0, 1)]) [(0, _, _, some _)] [] (kt_slices_Sort_L_string_string_ r2 r4 h5) ⟨rfl, trivial⟩ ⟨.inl (.inl rfl), trivial⟩ ⟨⟨⟨rfl, rfl, rfl⟩, by simp [stayP, sortS_len h5]⟩, trivial⟩ rfl ?_
  refine awp_seq ?_
  refine awp_plain hN rfl ?_
  refine seq_run0 (stp_move (.row _ _) rfl) ?_
  obtain ⟨r6, h7, H⟩ := bnd H
  refine seq_callG (rn [(0, 1), (900, 2)]) [(0, _, _, none)] [(900, _)] (ks_slices_Compact_L_string_string_ r4 r6 h7) ⟨rfl, rfl, trivial⟩ ⟨.inl (.inl (congrArg (Slot.row 1) (sortS_len h5).symm)), trivial⟩ ⟨⟨⟨rfl, rfl, rfl⟩, trivial⟩, trivial⟩ rfl ?_
  refine seq_run0 (stp_assign (.row _ _) rfl) ?_
  refine awp_ret ?_
  cases H
  exact ⟨trivial, t_slotv rfl rfl, trivial⟩
theorem kr_message_Parts (values1 : (List Bs)) (r : ((List Bs))) (H : m_message_Parts values1 = some r) : FnG Tryz.prog 48 [.dat (vlst (List.map C_string values1))] [] (.row 1 r.length) [(1, .row 9 1 (List.map C_string r))] := by
  refine fnG_of (by kernel_rfl) Tryz.func48 rfl rfl rfl rfl fun X A hN => ?_
  unfold m_message_Parts at H
  refine awp_seq ?_
  refine awp_plain hN rfl ?_
  refine seq_run0 (stp_assign (.dat _) rfl) ?_
  refine awp_seq ?_
  refine awp_plain hN rfl ?_
  refine seq_run0 (stp_assign (.dat _) rfl) ?_
  refine awp_seq ?_
  refine awp_seq ?_
  refine awp_plain hN rfl ?_
  refine seq_run0 (stp_move (.dat _) rfl) ?_
  refine seq_run0 (t_len tyU46 rfl) ?_
  refine seq_run0 (stp_move (.dat _) rfl) ?_
  refine awp_block ?_
  refine awp_nilrow 3 1 9 1 rfl rfl rfl ?_
  obtain ⟨h5, H⟩ := gif H
  refine awp_forL (fun (k3 : Nat) (s : (List Bs)) => [(3, .row 1 s.length), (8, .dat (vlst (List.map C_string values1))), (9, .dat (vint (values1.length : Int))), (10, .dat (vint (k3 : Int)))]) (fun (k3 : Nat) (s : (List Bs)) => [(1, .row 9 1 (List.map C_string s))]) [] H ⟨congrArg (Slot.row 1) (by simp), rfl, rfl, rfl, trivial⟩ ⟨rfl, trivial⟩ (fun _ _ => rfl) ?_ ?_
  · rintro l2 H
    replace H : message_Parts_E1 l2 = some r := H
    unfold message_Parts_E1 at H
    refine awp_seq ?_
    refine awp_plain hN rfl ?_
    refine seq_run0 (stp_lss rfl rfl) ?_
    refine awp_seq ?_
    refine awp_cond _ rfl (fun h => (lt_t h).elim) (fun h => ?_)
    refine awp_exit ?_
    refine awp_seq ?_
    refine awp_plain hN rfl ?_
    refine seq_run0 (stp_move (.row _ _) rfl) ?_
    refine seq_run0 (stp_assign (.row _ _) rfl) ?_
    refine awp_ret ?_
    cases H
    exact ⟨trivial, [(2, .row 1 _)], ⟨rfl, trivial⟩, ⟨rfl, trivial⟩, rfl, .inr ⟨2, rfl, rfl⟩⟩
  · rintro k3 x6 l2 q4 h7 h8 H hq4
    replace H : message_Parts_L1 k3 x6 l2 = some q4 := H
    unfold message_Parts_L1 at H
    refine awp_seq ?_
    refine awp_plain hN rfl ?_
    refine seq_run0 (stp_lss rfl rfl) ?_
    refine awp_seq ?_
    refine awp_cond _ rfl (fun h => ?_) (fun h => (lt_f h7 h).elim)
    refine awp_skip ?_
    refine awp_seq ?_
    refine awp_block ?_
    refine awp_seq ?_
    refine awp_plain hN rfl ?_
    refine seq_run0 (t_idx tyE46 (fun _ => rfl) rfl rfl h8) ?_
    refine seq_run0 (stp_loadE1 tyS9 rfl (map_at h8) rfl) ?_
    refine seq_run0 (stp_assign (.dat _) rfl) ?_
    refine awp_seq ?_
    refine awp_plain hN rfl ?_
    refine seq_run0 (stp_move (.dat _) rfl) ?_
    obtain ⟨r9, h10, H⟩ := bnd H
    refine seq_run0 (stp_call (k_strings_Split x6 [44] r9 h10) ⟨.inl rfl, .inl rfl, trivial⟩) ?_
    refine seq_run0 (t_len tyU46 rfl) ?_
    refine seq_run0 (stp_move (.dat _) rfl) ?_
    refine awp_block ?_
    obtain ⟨h14, H⟩ := gif H
    refine awp_forL (fun (k12 : Nat) (s : (List Bs)) => [(3, .row 1 s.length), (8, .dat (vlst (List.map C_string values1))), (9, .dat (vint (values1.length : Int))), (10, .dat (vint (k3 : Int))), (15, .dat (vlst (List.map C_string r9))), (16, .dat (vint (r9.length : Int))), (17, .dat (vint (k12 : Int)))]) (fun (k12 : Nat) (s : (List Bs)) => [(1, .row 9 1 (List.map C_string s))]) l2 H ⟨rfl, rfl, rfl, rfl, rfl, rfl, rfl, trivial⟩ ⟨rfl, trivial⟩ (fun _ _ => rfl) ?_ ?_
    · rintro l11 H
      replace H : message_Parts_E2 l11 = some q4 := H
      unfold message_Parts_E2 at H
      refine awp_seq ?_
      refine awp_plain hN rfl ?_
      refine seq_run0 (stp_lss rfl rfl) ?_
      refine awp_seq ?_
      refine awp_cond _ rfl (fun h => (lt_t h).elim) (fun h => ?_)
      refine awp_exit ?_
      refine awp_plain hN rfl ?_
      refine seq_run0 (stp_add rfl rfl (by omega)) ?_
      refine seq_run0 (stp_move (.dat _) rfl) ?_
      exact ⟨_, backl H, ⟨rfl, rfl, rfl, rfl, trivial⟩, ⟨rfl, trivial⟩⟩
    · rintro k12 x15 l11 q13 h16 h17 H hq13
      replace H : message_Parts_L2 k12 x15 l11 = some q13 := H
      unfold message_Parts_L2 at H
      refine awp_seq ?_
      refine awp_plain hN rfl ?_
      refine seq_run0 (stp_lss rfl rfl) ?_
      refine awp_seq ?_
      refine awp_cond _ rfl (fun h => ?_) (fun h => (lt_f h16 h).elim)
      refine awp_skip ?_
      refine awp_joinE (ι := (List Bs)) (fun i => [(3, .row 1 i.length), (8, .dat (vlst (List.map C_string values1))), (9, .dat (vint (values1.length : Int))), (10, .dat (vint (k3 : Int))), (15, .dat (vlst (List.map C_string r9))), (16, .dat (vint (r9.length : Int))), (17, .dat (vint (k12 : Int)))]) (fun i => [(1, .row 9 1 (List.map C_string i))]) (fun i => message_Parts_J3 i = some q13) (fun i => rfl) ?_ ?_
      · skip
        refine awp_block ?_
        refine awp_seq ?_
        refine awp_plain hN rfl ?_
        refine seq_run0 (t_idx tyE46 (fun _ => rfl) rfl rfl h17) ?_
        refine seq_run0 (stp_loadE1 tyS9 rfl (map_at h17) rfl) ?_
        refine seq_run0 (stp_assign (.dat _) rfl) ?_
        refine awp_seq ?_
        refine awp_plain hN rfl ?_
        refine seq_run0 (stp_move (.dat _) rfl) ?_
        obtain ⟨r18, h19, H⟩ := bnd H
        refine seq_run0 (stp_call (k_strings_Trim x15 [32] r18 h19) ⟨.inl rfl, .inl rfl, trivial⟩) ?_
        refine seq_run0 (stp_assign (.dat _) rfl) ?_
        refine awp_seq ?_
        refine awp_plain hN rfl ?_
        refine seq_run0 (stp_move (.dat _) rfl) ?_
        refine seq_run0 (stp_sneq rfl rfl) ?_
        refine awp_cond _ rfl (fun h20 => ?_) (fun h20 => ?_)
        · replace H := ift h20 H
          refine awp_plain hN rfl ?_
          refine seq_run0 (stp_move (.row _ _) rfl) ?_
          refine seq_run0 (stp_move (.dat _) rfl) ?_
          refine seq_run0 (stp_dat (u' := vlst (List.map C_string [r18])) (stp_lit [[_]] tyL46 ⟨rfl, .inl ⟨_, rfl, rfl, rfl⟩, rfl, trivial⟩ rfl rfl) rfl) ?_
          obtain ⟨h21, H⟩ := gif H
          refine seq_run2 (t_app tyL46 (fun _ => rfl) rfl rfl rfl ⟨by simp, by first | (simp; done) | simpa using h21⟩ rfl) rfl ?_
          refine seq_run0 (stp_assign (.row _ _) rfl) ?_
          exact ⟨(l11 ++ [r18]), H, ⟨rfl, rfl, rfl, rfl, rfl, rfl, rfl, trivial⟩, ⟨rfl, trivial⟩⟩
        · replace H := iff_ h20 H
          refine awp_skip ?_
          exact ⟨l11, H, ⟨rfl, rfl, rfl, rfl, rfl, rfl, rfl, trivial⟩, ⟨rfl, trivial⟩⟩
      · rintro out22 H
        replace H : message_Parts_J3 out22 = some q13 := H
        unfold message_Parts_J3 at H
        refine awp_plain hN rfl ?_
        refine seq_run0 (stp_add rfl rfl (by omega)) ?_
        refine seq_run0 (stp_move (.dat _) rfl) ?_
        exact ⟨_, backl H, ⟨rfl, rfl, rfl, rfl, rfl, rfl, rfl, trivial⟩, ⟨rfl, trivial⟩⟩
end Go.Proofs.YthgeeoecgneclaaGreatDoor
